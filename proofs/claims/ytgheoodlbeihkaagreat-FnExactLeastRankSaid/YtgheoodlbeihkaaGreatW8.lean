/-
  A part of the proof: an evaluator for a small form of the code, its soundness, and contracts of functions over it.
-/
import Derived.Test.YtgheoodlbeihkaaGreatW1
import Derived.Test.YtgheoodlbeihkaaGreatW2
import Derived.Test.YtgheoodlbeihkaaGreatW3
import Derived.Test.YtgheoodlbeihkaaGreatW4
import Derived.Test.YtgheoodlbeihkaaGreatW5
import Derived.Test.YtgheoodlbeihkaaGreatW6
import Derived.Test.YtgheoodlbeihkaaGreatW7

namespace Pe
open Go
noncomputable abbrev OO : Oracle := den tabF (orA (cloneA cloneIds) (growA growIds))
theorem rClone : C_clone OO := fun l hl => den_prim (T := tabF) rfl (orA_left ((cloneA_eq (ids := cloneIds) rfl rfl (by simp [ints]; omega)).trans (by simp [ints])))
theorem rGrow : C_grow OO := fun n hn => den_prim (T := tabF) rfl (orA_right (growA_eq (ids := growIds) rfl rfl (by omega) (by omega)) rfl)
theorem r1 : C_toPoly OO := c_toPoly (by rfl)
theorem r2 : C_toPs OO := c_toPs (by rfl) r1
theorem r3 : C_eqPoly OO := c_eqPoly (by rfl)
theorem r4 : C_eqPs OO := c_eqPs (by rfl) r3
theorem r5 : C_szPs OO := c_szPs (by rfl)
theorem r6 : C_concat OO := c_concat (by rfl) rGrow
theorem r7 : C_trimmed OO := c_trimmed (by rfl)
theorem r8 : C_rowOf OO := c_rowOf (by rfl) r7
theorem r9 : C_isPrime OO := c_isPrime (by rfl)
theorem r10 : C_indexOf OO F1s .leaf := c_indexB (by rfl)
theorem r11 : C_anyOf OO F1p .leaf := c_containsB (by rfl) r10
theorem r12 : C_allOf OO F6 .leaf := c_areAllB (by rfl) (by rfl) r11
theorem r13 : C_isPoly OO := c_isPoly (by rfl) (by rfl) r12
theorem r14 : C_IsPoly OO := c_IsPoly (by rfl) r9 r13
theorem r15 : C_degree OO := c_degree (by rfl)
theorem r16 : C_within OO := c_within (by rfl)
theorem r17 : C_lead OO := c_lead (by rfl)
theorem r18 : K_numbered OO := k_numbered (by rfl)
theorem r19 : C_inverse OO := c_inverse (by rfl)
theorem r20 : C_reduce OO := c_reduce (by rfl)
theorem r21 : K_divide OO := k_divide (by rfl) rClone r7 r17 r19 r20
theorem r22 : K_rest OO := k_rest (by rfl) r21
theorem r23 : C_norm OO := c_norm (by rfl)
theorem r24 : C_at OO := c_at (by rfl)
theorem r25 : C_combine OO := c_combine (by rfl) r24 r20 r7
theorem r26 : C_scale OO := c_scale (by rfl) r25
theorem r27 : K_scale OO := k_scale r26
theorem r28 : K_withDegree OO := k_withDegree (by rfl) r18 r22 r23 r15 r17 r19 r27
theorem r29 : K_strip OO := k_strip (by rfl) r21
theorem r30 : C_times OO := c_times (by rfl) r7
theorem r31 : K_times OO := k_times r30
theorem r32 : K_power OO := k_power (by rfl) r22 r31
theorem r33 : C_letter OO := c_letter (by rfl)
theorem r34 : K_combine OO := k_combine r25
theorem r35 : K_combine1 OO := k_combine1 r34
theorem r36 : K_bezout OO := k_bezout (by rfl) r21 r31 r35 r17 r19 r27
theorem r37 : K_gcd OO := k_gcd (by rfl) r36
theorem r38 : C_isNaN OO F2 := c_isNaN (by rfl)
theorem r39 : C_compareI OO F0 := c_compareI (by rfl) r38
theorem r40 : C_isNaN OO F3 := c_isNaN64 (by rfl)
theorem r41 : C_compareI OO F1 := c_compareI64 (by rfl) r40
theorem r42 : C_compare OO := c_compare (by rfl) r39 r41
theorem r43 : H_insertion OO := h_insertion (by rfl)
theorem r44 : C_len64 OO F1m := c_len64 (by rfl)
theorem r45 : C_len64 OO F1k := c_len (by rfl) r44
theorem r46 : H_sortFunc OO := h_sortFunc (by rfl) (by rfl) r43 r45
theorem r47 : K_factors OO := k_factors (by rfl) (by rfl) r28 r29 r15 r32 r33 r35 r37 r17 r19 r27 r42 r46
theorem r48 : K_fac OO := k_fac r47
theorem r49 : K_isIrr OO := k_isIrr (by rfl) r17 r15 r48
theorem r50 : C_isField OO := c_isField (by rfl) r8 r14 r15 r16 r49
theorem r51 : K_rowOf OO := k_rowOf r8
theorem r52 : K_fieldOf OO := k_fieldOf (by rfl) r51
theorem r53 : C_isRes OO := c_isRes (by rfl) r13 r8 r15
theorem r54 : C_indexOf OO F1t (.arr 64 .leaf) := c_indexP (by rfl)
theorem r55 : C_anyOf OO F1q (.arr 64 .leaf) := c_containsP (by rfl) r54
theorem r56 : C_allOf OO F8 (.arr 64 .leaf) := c_areAllP (by rfl) (by rfl) r55
theorem r57 : C_resCode OO F16 := c_resCode (by rfl) r50 r52 r53 r56
theorem r58 : K_rows OO := k_rows (by rfl) r51
theorem r59 : H_insRow OO := h_insRow (by rfl)
theorem r60 : H_sortRow OO := h_sortRow (by rfl) (by rfl) r59 r45
theorem r61 : K_redList OO := k_redList (by rfl) (by rfl) r24 r34 r17 r19 r27 r60
theorem r62 : K_rank OO := k_rank (by rfl) r61
theorem r63 : C_places OO := c_places (by rfl) r6 r57 r58 r62
theorem r64 : K_LeastRank OO F5 := k_LeastRank (by rfl) r63 r16
theorem r65 : C_sPrime OO := c_sPrime (by rfl)
theorem r66 : C_sIs OO := c_sIs (by rfl) r65
theorem r67 : C_sDeg OO := c_sDeg (by rfl)
theorem r68 : K_sDeg OO := k_sDeg r67
theorem r69 : K_sMonic OO := k_sMonic (by rfl) r68
theorem r70 : C_sIn OO := c_sIn (by rfl)
theorem r71 : K_sInverse OO := k_sInverse (by rfl)
theorem r72 : K_sDivide OO := k_sDivide (by rfl) r68 r71
theorem r73 : K_sMod OO := k_sMod (by rfl) r72
theorem r74 : K_sOne OO := k_sOne (by rfl)
theorem r75 : K_sUp OO := k_sUp (by rfl) r68 r71
theorem r76 : K_sAdd OO := k_sAdd (by rfl)
theorem r77 : K_sMulMod OO := k_sMulMod (by rfl) r68 r75 r76 r73
theorem r78 : K_sPowMod OO := k_sPowMod (by rfl) r74 r73 r77
theorem r79 : K_sTimes OO := k_sTimes (by rfl) r68
theorem r80 : K_sBezout OO := k_sBezout (by rfl) r74 r68 r72 r79 r76 r71
theorem r81 : K_sGcd OO := k_sGcd (by rfl) r68 r80
theorem r82 : K_sT OO := k_sT (by rfl)
theorem r83 : K_sIrr OO := k_sIrr (by rfl) r68 r73 r78 r81 r76 r82
theorem r84 : C_sField OO := c_sField (by rfl) r66 r69 r68 r70 r83
theorem r85 : C_sRes OO := c_sRes (by rfl) r66 r68
theorem r86 : C_resCode OO F3a := c_sRsCode (by rfl) r84 r85
theorem r87 : K_sPut OO := k_sPut (by rfl) r68 r71 r76
theorem r88 : K_sSpan OO := k_sSpan (by rfl) r87
theorem r89 : C_sPlc OO := c_sPlc (by rfl) r86 r88
theorem r90 : C_sSized OO := c_sSized (by rfl) r89 r70
theorem r91 : K_LeastRank OO F2o := k_sLeastRank (by rfl) r90
theorem r92 : L_LeastRank OO := law_LeastRank (by rfl) r1 r2 r4 r5 r64 r91
theorem law : L_LeastRank OO := r92
end Pe
