/-
  A part of the proof: an evaluator for a small form of the code, its soundness, and contracts of functions over it.
-/
import Derived.Test.YtgheoodlbeihkaaGreatW1
import Derived.Test.YtgheoodlbeihkaaGreatW2
import Derived.Test.YtgheoodlbeihkaaGreatW3
import Derived.Test.YtgheoodlbeihkaaGreatW4
import Derived.Test.YtgheoodlbeihkaaGreatW5
import Derived.Test.YtgheoodlbeihkaaGreatW6
import Derived.Test.YtgheoodlbeihkaaGreatW7

namespace Pe
open Go
noncomputable abbrev OO : Oracle := den tabF (cloneA cloneIds)
theorem rClone : C_clone OO := fun l hl => den_prim (T := tabF) rfl (cloneA_eq (ids := cloneIds) rfl rfl (by simp [ints]; omega)|>.trans (by simp [ints]))
theorem r1 : C_toPoly OO := c_toPoly (by rfl)
theorem r2 : C_toDr OO := c_toDr (by rfl) r1
theorem r3 : C_trimmed OO := c_trimmed (by rfl)
theorem r4 : C_rowOf OO := c_rowOf (by rfl) r3
theorem r5 : C_isPrime OO := c_isPrime (by rfl)
theorem r6 : C_indexOf OO F_slices_IndexFunc_byte_byte .leaf := c_indexB (by rfl)
theorem r7 : C_anyOf OO F_slices_ContainsFunc_byte_byte .leaf := c_containsB (by rfl) r6
theorem r8 : C_allOf OO F_impl_areAll_byte .leaf := c_areAllB (by rfl) (by rfl) r7
theorem r9 : C_isPoly OO := c_isPoly (by rfl) (by rfl) r8
theorem r10 : C_IsPoly OO := c_IsPoly (by rfl) r5 r9
theorem r11 : C_degree OO := c_degree (by rfl)
theorem r12 : C_within OO := c_within (by rfl)
theorem r13 : C_lead OO := c_lead (by rfl)
theorem r14 : K_numbered OO := k_numbered (by rfl)
theorem r15 : C_inverse OO := c_inverse (by rfl)
theorem r16 : C_reduce OO := c_reduce (by rfl)
theorem r17 : K_divide OO := k_divide (by rfl) rClone r3 r13 r15 r16
theorem r18 : K_rest OO := k_rest (by rfl) r17
theorem r19 : C_norm OO := c_norm (by rfl)
theorem r20 : C_at OO := c_at (by rfl)
theorem r21 : C_combine OO := c_combine (by rfl) r20 r16 r3
theorem r22 : C_scale OO := c_scale (by rfl) r21
theorem r23 : K_scale OO := k_scale r22
theorem r24 : K_withDegree OO := k_withDegree (by rfl) r14 r18 r19 r11 r13 r15 r23
theorem r25 : K_strip OO := k_strip (by rfl) r17
theorem r26 : C_times OO := c_times (by rfl) r3
theorem r27 : K_times OO := k_times r26
theorem r28 : K_power OO := k_power (by rfl) r18 r27
theorem r29 : C_letter OO := c_letter (by rfl)
theorem r30 : K_combine OO := k_combine r21
theorem r31 : K_combine1 OO := k_combine1 r30
theorem r32 : K_bezout OO := k_bezout (by rfl) r17 r27 r31 r13 r15 r23
theorem r33 : K_gcd OO := k_gcd (by rfl) r32
theorem r34 : C_isNaN OO F_cmp_isNaN_int := c_isNaN (by rfl)
theorem r35 : C_compareI OO F_cmp_Compare_int := c_compareI (by rfl) r34
theorem r36 : C_isNaN OO F_cmp_isNaN_int64 := c_isNaN64 (by rfl)
theorem r37 : C_compareI OO F_cmp_Compare_int64 := c_compareI64 (by rfl) r36
theorem r38 : C_compare OO := c_compare (by rfl) r35 r37
theorem r39 : H_insertion OO := h_insertion (by rfl)
theorem r40 : C_len64 OO F_math_bits_Len64 := c_len64 (by rfl)
theorem r41 : C_len64 OO F_math_bits_Len := c_len (by rfl) r40
theorem r42 : H_sortFunc OO := h_sortFunc (by rfl) (by rfl) r39 r41
theorem r43 : K_factors OO := k_factors (by rfl) (by rfl) r24 r25 r11 r28 r29 r31 r33 r13 r15 r23 r38 r42
theorem r44 : K_fac OO := k_fac r43
theorem r45 : K_isIrr OO := k_isIrr (by rfl) r13 r11 r44
theorem r46 : C_isField OO := c_isField (by rfl) r4 r10 r11 r12 r45
theorem r47 : K_rowOf OO := k_rowOf r4
theorem r48 : K_fieldOf OO := k_fieldOf (by rfl) r47
theorem r49 : C_isRes OO := c_isRes (by rfl) r9 r4 r11
theorem r50 : C_IsDr OO F_impl_IsDrinfeld := c_IsDr (by rfl) r46 r48 r49
theorem r51 : C_indexOf OO F_slices_IndexFunc_impl_Poly_impl_Poly (.arr 64 .leaf) := c_indexP (by rfl)
theorem r52 : C_anyOf OO F_slices_ContainsFunc_impl_Poly_impl_Poly (.arr 64 .leaf) := c_containsP (by rfl) r51
theorem r53 : C_allOf OO F_impl_areAll_impl_Poly (.arr 64 .leaf) := c_areAllP (by rfl) (by rfl) r52
theorem r54 : C_drCode OO F_impl_drinfeldCode := c_drCode (by rfl) (by rfl) r50 r9 r53
theorem r55 : K_drField OO := k_drField (by rfl) r48
theorem r56 : K_frob OO := k_frob (by rfl) r28 r11
theorem r57 : K_product OO := k_product (by rfl) r27 r18
theorem r58 : K_normOf OO := k_normOf (by rfl) r11 r20 r56 r57
theorem r59 : K_letterAction OO := k_letterAction (by rfl) r55 r29 r18 r47
theorem r60 : K_combine2 OO := k_combine2 r30
theorem r61 : K_sktrim OO := k_sktrim (by rfl)
theorem r62 : K_by OO := k_by (by rfl) r56 r57 r60 r61
theorem r63 : K_by2 OO := k_by2 r62
theorem r64 : K_single OO := k_single (by rfl)
theorem r65 : K_skAt OO := k_skAt (by rfl)
theorem r66 : K_plus OO := k_plus (by rfl) r65 r30 r61
theorem r67 : K_action OO := k_action (by rfl) r55 r59 r63 r3 r64 r66
theorem r68 : K_drFrob OO := k_drFrob (by rfl) r55 r47 r58 r15 r11 r23 r67 r65
theorem r69 : K_Ssing OO F_impl_IsSupersingular := k_Ssing (by rfl) r54 r68
theorem r70 : C_sPrime OO := c_sPrime (by rfl)
theorem r71 : C_sIs OO := c_sIs (by rfl) r70
theorem r72 : C_sCode OO := c_sCode (by rfl) r70 r71
theorem r73 : C_sDeg OO := c_sDeg (by rfl)
theorem r74 : K_sDeg OO := k_sDeg r73
theorem r75 : K_sMonic OO := k_sMonic (by rfl) r74
theorem r76 : C_sIn OO := c_sIn (by rfl)
theorem r77 : K_sInverse OO := k_sInverse (by rfl)
theorem r78 : K_sDivide OO := k_sDivide (by rfl) r74 r77
theorem r79 : K_sMod OO := k_sMod (by rfl) r78
theorem r80 : K_sOne OO := k_sOne (by rfl)
theorem r81 : K_sUp OO := k_sUp (by rfl) r74 r77
theorem r82 : K_sAdd OO := k_sAdd (by rfl)
theorem r83 : K_sMulMod OO := k_sMulMod (by rfl) r74 r81 r82 r79
theorem r84 : K_sPowMod OO := k_sPowMod (by rfl) r80 r79 r83
theorem r85 : K_sTimes OO := k_sTimes (by rfl) r74
theorem r86 : K_sBezout OO := k_sBezout (by rfl) r80 r74 r78 r85 r82 r77
theorem r87 : K_sGcd OO := k_sGcd (by rfl) r74 r86
theorem r88 : K_sT OO := k_sT (by rfl)
theorem r89 : K_sIrr OO := k_sIrr (by rfl) r74 r79 r84 r87 r82 r88
theorem r90 : C_IsDr OO F_spec_l06Is := c_sDr (by rfl) r72 r75 r74 r76 r89
theorem r91 : K_sUp6 OO := k_sUp6 (by rfl) r84
theorem r92 : K_sTimes6 OO := k_sTimes6 (by rfl) r83
theorem r93 : K_sNorm OO := k_sNorm (by rfl) r80 r74 r91 r92
theorem r94 : K_sT6 OO := k_sT6 (by rfl) r88 r79
theorem r95 : K_sTrim4 OO := k_sTrim4 (by rfl)
theorem r96 : K_sComp OO := k_sComp (by rfl) r92 r82 r91 r95
theorem r97 : K_sAction OO := k_sAction (by rfl) r74 r80 r82 r94 r96
theorem r98 : K_sFrob6 OO := k_sFrob6 (by rfl) r74 r93 r77 r82 r97
theorem r99 : K_Ssing OO F_spec_IsSupersingular := k_sSsing (by rfl) r90 r98
theorem r100 : L_IsSupersingular OO := law_IsSupersingular (by rfl) r2 r69 r99
theorem law : L_IsSupersingular OO := r100
end Pe
