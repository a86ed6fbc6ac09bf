/-
  A part of the proof: an evaluator for a small form of the code, its soundness, and contracts of functions over it.
-/
import Derived.Test.YtfmkdfhhbejpnaaGreatW1
import Derived.Test.YtfmkdfhhbejpnaaGreatW2
import Derived.Test.YtfmkdfhhbejpnaaGreatW3
import Derived.Test.YtfmkdfhhbejpnaaGreatW4
import Derived.Test.YtfmkdfhhbejpnaaGreatW5
import Derived.Test.YtfmkdfhhbejpnaaGreatW6
import Derived.Test.YtfmkdfhhbejpnaaGreatW7
import Derived.Test.YtfmkdfhhbejpnaaGreatW8

namespace Pe
open Go
noncomputable abbrev OO : Oracle := den tabF (orA (cloneA cloneIds) (growA growIds))
theorem rClone : C_clone OO := fun l hl => den_prim (T := tabF) rfl (orA_left ((cloneA_eq (ids := cloneIds) rfl rfl (by simp [ints]; omega)).trans (by simp [ints])))
theorem rGrow : C_grow OO := fun n hn => den_prim (T := tabF) rfl (orA_right (growA_eq (ids := growIds) rfl rfl (by omega) (by omega)) rfl)
theorem r1 : C_toPoly OO := c_toPoly (by rfl)
theorem r2 : C_toPs OO := c_toPs (by rfl) r1
theorem r3 : C_eqPoly OO := c_eqPoly (by rfl)
theorem r4 : C_eqPs OO := c_eqPs (by rfl) r3
theorem r5 : C_eqSk OO := c_eqSk (by rfl) r3
theorem r6 : C_szPs OO := c_szPs (by rfl)
theorem r7 : C_concat OO := c_concat (by rfl) rGrow
theorem r8 : C_trimmed OO := c_trimmed (by rfl)
theorem r9 : C_rowOf OO := c_rowOf (by rfl) r8
theorem r10 : C_isPrime OO := c_isPrime (by rfl)
theorem r11 : C_indexOf OO F26 .leaf := c_indexB (by rfl)
theorem r12 : C_anyOf OO F23 .leaf := c_containsB (by rfl) r11
theorem r13 : C_allOf OO F6 .leaf := c_areAllB (by rfl) (by rfl) r12
theorem r14 : C_isPoly OO := c_isPoly (by rfl) (by rfl) r13
theorem r15 : C_IsPoly OO := c_IsPoly (by rfl) r10 r14
theorem r16 : C_degree OO := c_degree (by rfl)
theorem r17 : C_within OO := c_within (by rfl)
theorem r18 : C_lead OO := c_lead (by rfl)
theorem r19 : K_numbered OO := k_numbered (by rfl)
theorem r20 : C_inverse OO := c_inverse (by rfl)
theorem r21 : C_reduce OO := c_reduce (by rfl)
theorem r22 : K_divide OO := k_divide (by rfl) rClone r8 r18 r20 r21
theorem r23 : K_rest OO := k_rest (by rfl) r22
theorem r24 : C_norm OO := c_norm (by rfl)
theorem r25 : C_at OO := c_at (by rfl)
theorem r26 : C_combine OO := c_combine (by rfl) r25 r21 r8
theorem r27 : C_scale OO := c_scale (by rfl) r26
theorem r28 : K_scale OO := k_scale r27
theorem r29 : K_withDegree OO := k_withDegree (by rfl) r19 r23 r24 r16 r18 r20 r28
theorem r30 : K_strip OO := k_strip (by rfl) r22
theorem r31 : C_times OO := c_times (by rfl) r8
theorem r32 : K_times OO := k_times r31
theorem r33 : K_power OO := k_power (by rfl) r23 r32
theorem r34 : C_letter OO := c_letter (by rfl)
theorem r35 : K_combine OO := k_combine r26
theorem r36 : K_combine1 OO := k_combine1 r35
theorem r37 : K_bezout OO := k_bezout (by rfl) r22 r32 r36 r18 r20 r28
theorem r38 : K_gcd OO := k_gcd (by rfl) r37
theorem r39 : C_isNaN OO F2 := c_isNaN (by rfl)
theorem r40 : C_compareI OO F0 := c_compareI (by rfl) r39
theorem r41 : C_isNaN OO F3 := c_isNaN64 (by rfl)
theorem r42 : C_compareI OO F1 := c_compareI64 (by rfl) r41
theorem r43 : C_compare OO := c_compare (by rfl) r40 r42
theorem r44 : H_insertion OO := h_insertion (by rfl)
theorem r45 : C_len64 OO F20 := c_len64 (by rfl)
theorem r46 : C_len64 OO F1y := c_len (by rfl) r45
theorem r47 : H_sortFunc OO := h_sortFunc (by rfl) (by rfl) r44 r46
theorem r48 : K_factors OO := k_factors (by rfl) (by rfl) r29 r30 r16 r33 r34 r36 r38 r18 r20 r28 r43 r47
theorem r49 : K_fac OO := k_fac r48
theorem r50 : K_isIrr OO := k_isIrr (by rfl) r18 r16 r49
theorem r51 : C_isField OO := c_isField (by rfl) r9 r15 r16 r17 r50
theorem r52 : K_rowOf OO := k_rowOf r9
theorem r53 : K_fieldOf OO := k_fieldOf (by rfl) r52
theorem r54 : C_isRes OO := c_isRes (by rfl) r14 r9 r16
theorem r55 : C_indexOf OO F27 (.arr 64 .leaf) := c_indexP (by rfl)
theorem r56 : C_anyOf OO F24 (.arr 64 .leaf) := c_containsP (by rfl) r55
theorem r57 : C_allOf OO F8 (.arr 64 .leaf) := c_areAllP (by rfl) (by rfl) r56
theorem r58 : C_resCode OO F1d := c_resCode (by rfl) r51 r53 r54 r57
theorem r59 : K_rows OO := k_rows (by rfl) r52
theorem r60 : H_insRow OO := h_insRow (by rfl)
theorem r61 : H_sortRow OO := h_sortRow (by rfl) (by rfl) r60 r46
theorem r62 : K_redList OO := k_redList (by rfl) (by rfl) r25 r35 r18 r20 r28 r61
theorem r63 : K_rank OO := k_rank (by rfl) r62
theorem r64 : C_places OO := c_places (by rfl) r7 r58 r59 r63
theorem r65 : K_frob OO := k_frob (by rfl) r33 r16
theorem r66 : K_product OO := k_product (by rfl) r32 r23
theorem r67 : K_combine2 OO := k_combine2 r35
theorem r68 : K_value OO := k_value (by rfl) r65 r66 r67
theorem r69 : K_inverted OO := k_inverted (by rfl) r37 r23
theorem r70 : K_single OO := k_single (by rfl)
theorem r71 : K_skAt OO := k_skAt (by rfl)
theorem r72 : K_sktrim OO := k_sktrim (by rfl)
theorem r73 : K_plus OO := k_plus (by rfl) r71 r35 r72
theorem r74 : K_by OO := k_by (by rfl) r65 r66 r67 r72
theorem r75 : K_by2 OO := k_by2 r74
theorem r76 : K_inter OO := k_inter (by rfl) r68 r65 r69 r66 r28 r36 r70 r73 r75
theorem r77 : K_skDeg OO := k_skDeg (by rfl)
theorem r78 : C_poly OO := c_poly (by rfl)
theorem r79 : K_poly OO := k_poly r78
theorem r80 : K_toldSk OO := k_toldSk (by rfl) r77 r79
theorem r81 : K_InterpolateSkew OO F4 := k_InterpolateSkew (by rfl) r64 r53 r59 r76 r80
theorem r82 : C_sPrime OO := c_sPrime (by rfl)
theorem r83 : C_sIs OO := c_sIs (by rfl) r82
theorem r84 : C_sDeg OO := c_sDeg (by rfl)
theorem r85 : K_sDeg OO := k_sDeg r84
theorem r86 : K_sMonic OO := k_sMonic (by rfl) r85
theorem r87 : C_sIn OO := c_sIn (by rfl)
theorem r88 : K_sInverse OO := k_sInverse (by rfl)
theorem r89 : K_sDivide OO := k_sDivide (by rfl) r85 r88
theorem r90 : K_sMod OO := k_sMod (by rfl) r89
theorem r91 : K_sOne OO := k_sOne (by rfl)
theorem r92 : K_sUp OO := k_sUp (by rfl) r85 r88
theorem r93 : K_sAdd OO := k_sAdd (by rfl)
theorem r94 : K_sMulMod OO := k_sMulMod (by rfl) r85 r92 r93 r90
theorem r95 : K_sPowMod OO := k_sPowMod (by rfl) r91 r90 r94
theorem r96 : K_sTimes OO := k_sTimes (by rfl) r85
theorem r97 : K_sBezout OO := k_sBezout (by rfl) r91 r85 r89 r96 r93 r88
theorem r98 : K_sGcd OO := k_sGcd (by rfl) r85 r97
theorem r99 : K_sT OO := k_sT (by rfl)
theorem r100 : K_sIrr OO := k_sIrr (by rfl) r85 r90 r95 r98 r93 r99
theorem r101 : C_sField OO := c_sField (by rfl) r83 r86 r85 r87 r100
theorem r102 : C_sRes OO := c_sRes (by rfl) r83 r85
theorem r103 : C_resCode OO F3s := c_sRsCode (by rfl) r101 r102
theorem r104 : K_sPut OO := k_sPut (by rfl) r85 r88 r93
theorem r105 : K_sSpan OO := k_sSpan (by rfl) r104
theorem r106 : C_sPlc OO := c_sPlc (by rfl) r103 r105
theorem r107 : K_sOne3 OO := k_sOne3 (by rfl) r91
theorem r108 : K_sFrob OO := k_sFrob (by rfl) r95 r85
theorem r109 : K_sSkVal OO := k_sSkVal (by rfl) r108 r94 r93
theorem r110 : K_sSub OO := k_sSub r93
theorem r111 : K_sInvZ OO := k_sInvZ (by rfl) r90 r97
theorem r112 : K_sSkDeg OO := k_sSkDeg (by rfl)
theorem r113 : K_sTimes3 OO := k_sTimes3 (by rfl) r112 r108 r94 r93
theorem r114 : K_sTimes8 OO := k_sTimes8 r113
theorem r115 : K_sInter OO := k_sInter (by rfl) r107 r109 r110 r111 r94 r95 r93 r91 r114
theorem r116 : K_InterpolateSkew OO F32 := k_sInterpolateSkew (by rfl) r106 r115
theorem r117 : L_InterpolateSkew OO := law_InterpolateSkew (by rfl) r1 r2 r4 r5 r6 r81 r116
theorem law : L_InterpolateSkew OO := r117
end Pe
