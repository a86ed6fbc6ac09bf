/-
  A part of the proof: an evaluator for a small form of the code, its soundness, and contracts of functions over it.
-/
import Derived.Test.YtmbifmkpdbiadaaGreatW1
import Derived.Test.YtmbifmkpdbiadaaGreatW2
import Derived.Test.YtmbifmkpdbiadaaGreatW3
import Derived.Test.YtmbifmkpdbiadaaGreatW4
import Derived.Test.YtmbifmkpdbiadaaGreatW5
import Derived.Test.YtmbifmkpdbiadaaGreatW6
import Derived.Test.YtmbifmkpdbiadaaGreatW7

namespace Pe
open Go
noncomputable abbrev OO : Oracle := den tabF (orA (cloneA cloneIds) (growA growIds))
theorem rClone : C_clone OO := fun l hl => den_prim (T := tabF) rfl (orA_left ((cloneA_eq (ids := cloneIds) rfl rfl (by simp [ints]; omega)).trans (by simp [ints])))
theorem rGrow : C_grow OO := fun n hn => den_prim (T := tabF) rfl (orA_right (growA_eq (ids := growIds) rfl rfl (by omega) (by omega)) rfl)
theorem r1 : C_toPoly OO := c_toPoly (by rfl)
theorem r2 : C_toPs OO := c_toPs (by rfl) r1
theorem r3 : H_toPs OO := h_toPs (by rfl) r1
theorem r4 : C_eqPoly OO := c_eqPoly (by rfl)
theorem r5 : C_eqPs OO := c_eqPs (by rfl) r4
theorem r6 : C_szPs OO := c_szPs (by rfl)
theorem r7 : H_markPs OO := h_markPs (by rfl)
theorem r8 : C_heldPs OO := c_heldPs (by rfl)
theorem r9 : C_concat OO := c_concat (by rfl) rGrow
theorem r10 : C_trimmed OO := c_trimmed (by rfl)
theorem r11 : C_rowOf OO := c_rowOf (by rfl) r10
theorem r12 : C_isPrime OO := c_isPrime (by rfl)
theorem r13 : C_indexOf OO F24 .leaf := c_indexB (by rfl)
theorem r14 : C_anyOf OO F21 .leaf := c_containsB (by rfl) r13
theorem r15 : C_allOf OO F7 .leaf := c_areAllB (by rfl) (by rfl) r14
theorem r16 : C_isPoly OO := c_isPoly (by rfl) (by rfl) r15
theorem r17 : C_IsPoly OO := c_IsPoly (by rfl) r12 r16
theorem r18 : C_degree OO := c_degree (by rfl)
theorem r19 : C_within OO := c_within (by rfl)
theorem r20 : C_lead OO := c_lead (by rfl)
theorem r21 : K_numbered OO := k_numbered (by rfl)
theorem r22 : C_inverse OO := c_inverse (by rfl)
theorem r23 : C_reduce OO := c_reduce (by rfl)
theorem r24 : K_divide OO := k_divide (by rfl) rClone r10 r20 r22 r23
theorem r25 : K_rest OO := k_rest (by rfl) r24
theorem r26 : C_norm OO := c_norm (by rfl)
theorem r27 : C_at OO := c_at (by rfl)
theorem r28 : C_combine OO := c_combine (by rfl) r27 r23 r10
theorem r29 : C_scale OO := c_scale (by rfl) r28
theorem r30 : K_scale OO := k_scale r29
theorem r31 : K_withDegree OO := k_withDegree (by rfl) r21 r25 r26 r18 r20 r22 r30
theorem r32 : K_strip OO := k_strip (by rfl) r24
theorem r33 : C_times OO := c_times (by rfl) r10
theorem r34 : K_times OO := k_times r33
theorem r35 : K_power OO := k_power (by rfl) r25 r34
theorem r36 : C_letter OO := c_letter (by rfl)
theorem r37 : K_combine OO := k_combine r28
theorem r38 : K_combine1 OO := k_combine1 r37
theorem r39 : K_bezout OO := k_bezout (by rfl) r24 r34 r38 r20 r22 r30
theorem r40 : K_gcd OO := k_gcd (by rfl) r39
theorem r41 : C_isNaN OO F2 := c_isNaN (by rfl)
theorem r42 : C_compareI OO F0 := c_compareI (by rfl) r41
theorem r43 : C_isNaN OO F3 := c_isNaN64 (by rfl)
theorem r44 : C_compareI OO F1 := c_compareI64 (by rfl) r43
theorem r45 : C_compare OO := c_compare (by rfl) r42 r44
theorem r46 : H_insertion OO := h_insertion (by rfl)
theorem r47 : C_len64 OO F1y := c_len64 (by rfl)
theorem r48 : C_len64 OO F1w := c_len (by rfl) r47
theorem r49 : H_sortFunc OO := h_sortFunc (by rfl) (by rfl) r46 r48
theorem r50 : K_factors OO := k_factors (by rfl) (by rfl) r31 r32 r18 r35 r36 r38 r40 r20 r22 r30 r45 r49
theorem r51 : K_fac OO := k_fac r50
theorem r52 : K_isIrr OO := k_isIrr (by rfl) r20 r18 r51
theorem r53 : C_isField OO := c_isField (by rfl) r11 r17 r18 r19 r52
theorem r54 : K_rowOf OO := k_rowOf r11
theorem r55 : K_fieldOf OO := k_fieldOf (by rfl) r54
theorem r56 : C_isRes OO := c_isRes (by rfl) r16 r11 r18
theorem r57 : C_indexOf OO F25 (.arr 64 .leaf) := c_indexP (by rfl)
theorem r58 : C_anyOf OO F22 (.arr 64 .leaf) := c_containsP (by rfl) r57
theorem r59 : C_allOf OO F9 (.arr 64 .leaf) := c_areAllP (by rfl) (by rfl) r58
theorem r60 : C_resCode OO F1d := c_resCode (by rfl) r53 r55 r56 r59
theorem r61 : K_rows OO := k_rows (by rfl) r54
theorem r62 : H_insRow OO := h_insRow (by rfl)
theorem r63 : H_sortRow OO := h_sortRow (by rfl) (by rfl) r62 r48
theorem r64 : K_redList OO := k_redList (by rfl) (by rfl) r27 r37 r20 r22 r30 r63
theorem r65 : K_rank OO := k_rank (by rfl) r64
theorem r66 : C_places OO := c_places (by rfl) r9 r60 r61 r65
theorem r67 : K_sktrim OO := k_sktrim (by rfl)
theorem r68 : K_frob OO := k_frob (by rfl) r35 r18
theorem r69 : K_product OO := k_product (by rfl) r34 r25
theorem r70 : K_combine2 OO := k_combine2 r37
theorem r71 : K_value OO := k_value (by rfl) r68 r69 r70
theorem r72 : K_values OO := k_values (by rfl) r71
theorem r73 : C_poly OO := c_poly (by rfl)
theorem r74 : K_poly OO := k_poly r73
theorem r75 : K_polys OO := k_polys (by rfl) r74
theorem r76 : K_EncodeRank OO F4 := k_EncodeRank (by rfl) r66 r55 r61 r67 r72 r75
theorem r77 : H_rows OO := h_rows (by rfl) r54
theorem r78 : H_polys OO := h_polys (by rfl) r74
theorem r79 : H_EncodeRank OO := h_EncodeRank (by rfl) r66 r55 r77 r67 r72 r78
theorem r80 : C_sPrime OO := c_sPrime (by rfl)
theorem r81 : C_sIs OO := c_sIs (by rfl) r80
theorem r82 : C_sDeg OO := c_sDeg (by rfl)
theorem r83 : K_sDeg OO := k_sDeg r82
theorem r84 : K_sMonic OO := k_sMonic (by rfl) r83
theorem r85 : C_sIn OO := c_sIn (by rfl)
theorem r86 : K_sInverse OO := k_sInverse (by rfl)
theorem r87 : K_sDivide OO := k_sDivide (by rfl) r83 r86
theorem r88 : K_sMod OO := k_sMod (by rfl) r87
theorem r89 : K_sOne OO := k_sOne (by rfl)
theorem r90 : K_sUp OO := k_sUp (by rfl) r83 r86
theorem r91 : K_sAdd OO := k_sAdd (by rfl)
theorem r92 : K_sMulMod OO := k_sMulMod (by rfl) r83 r90 r91 r88
theorem r93 : K_sPowMod OO := k_sPowMod (by rfl) r89 r88 r92
theorem r94 : K_sTimes OO := k_sTimes (by rfl) r83
theorem r95 : K_sBezout OO := k_sBezout (by rfl) r89 r83 r87 r94 r91 r86
theorem r96 : K_sGcd OO := k_sGcd (by rfl) r83 r95
theorem r97 : K_sT OO := k_sT (by rfl)
theorem r98 : K_sIrr OO := k_sIrr (by rfl) r83 r88 r93 r96 r91 r97
theorem r99 : C_sField OO := c_sField (by rfl) r81 r84 r83 r85 r98
theorem r100 : C_sRes OO := c_sRes (by rfl) r81 r83
theorem r101 : C_resCode OO F3n := c_sRsCode (by rfl) r99 r100
theorem r102 : K_sPut OO := k_sPut (by rfl) r83 r86 r91
theorem r103 : K_sSpan OO := k_sSpan (by rfl) r102
theorem r104 : C_sPlc OO := c_sPlc (by rfl) r101 r103
theorem r105 : K_sSkew OO := k_sSkew (by rfl)
theorem r106 : K_sFrob OO := k_sFrob (by rfl) r93 r83
theorem r107 : K_sSkVal OO := k_sSkVal (by rfl) r106 r92 r91
theorem r108 : K_sValues OO := k_sValues (by rfl) r107
theorem r109 : K_EncodeRank OO F30 := k_sEncodeRank (by rfl) r104 r105 r108
theorem r110 : L_EncodeRank OO := law_EncodeRank (by rfl) r1 r2 r3 r5 r6 r7 r8 r76 r79 r109
theorem law : L_EncodeRank OO := r110
end Pe
