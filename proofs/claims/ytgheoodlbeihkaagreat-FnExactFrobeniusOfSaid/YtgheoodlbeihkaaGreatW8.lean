/-
  A part of the proof: an evaluator for a small form of the code, its soundness, and contracts of functions over it.
-/
import Derived.Test.YtgheoodlbeihkaaGreatW1
import Derived.Test.YtgheoodlbeihkaaGreatW2
import Derived.Test.YtgheoodlbeihkaaGreatW3
import Derived.Test.YtgheoodlbeihkaaGreatW4
import Derived.Test.YtgheoodlbeihkaaGreatW5
import Derived.Test.YtgheoodlbeihkaaGreatW6
import Derived.Test.YtgheoodlbeihkaaGreatW7

namespace Pe
open Go
noncomputable abbrev OO : Oracle := den tabF (cloneA cloneIds)
theorem rClone : C_clone OO := fun l hl => den_prim (T := tabF) rfl (cloneA_eq (ids := cloneIds) rfl rfl (by simp [ints]; omega)|>.trans (by simp [ints]))
theorem r1 : C_toPoly OO := c_toPoly (by rfl)
theorem r2 : C_toDr OO := c_toDr (by rfl) r1
theorem r3 : C_eqPoly OO := c_eqPoly (by rfl)
theorem r4 : C_trimmed OO := c_trimmed (by rfl)
theorem r5 : C_rowOf OO := c_rowOf (by rfl) r4
theorem r6 : C_isPrime OO := c_isPrime (by rfl)
theorem r7 : C_indexOf OO F_slices_IndexFunc_byte_byte .leaf := c_indexB (by rfl)
theorem r8 : C_anyOf OO F_slices_ContainsFunc_byte_byte .leaf := c_containsB (by rfl) r7
theorem r9 : C_allOf OO F_impl_areAll_byte .leaf := c_areAllB (by rfl) (by rfl) r8
theorem r10 : C_isPoly OO := c_isPoly (by rfl) (by rfl) r9
theorem r11 : C_IsPoly OO := c_IsPoly (by rfl) r6 r10
theorem r12 : C_degree OO := c_degree (by rfl)
theorem r13 : C_within OO := c_within (by rfl)
theorem r14 : C_lead OO := c_lead (by rfl)
theorem r15 : K_numbered OO := k_numbered (by rfl)
theorem r16 : C_inverse OO := c_inverse (by rfl)
theorem r17 : C_reduce OO := c_reduce (by rfl)
theorem r18 : K_divide OO := k_divide (by rfl) rClone r4 r14 r16 r17
theorem r19 : K_rest OO := k_rest (by rfl) r18
theorem r20 : C_norm OO := c_norm (by rfl)
theorem r21 : C_at OO := c_at (by rfl)
theorem r22 : C_combine OO := c_combine (by rfl) r21 r17 r4
theorem r23 : C_scale OO := c_scale (by rfl) r22
theorem r24 : K_scale OO := k_scale r23
theorem r25 : K_withDegree OO := k_withDegree (by rfl) r15 r19 r20 r12 r14 r16 r24
theorem r26 : K_strip OO := k_strip (by rfl) r18
theorem r27 : C_times OO := c_times (by rfl) r4
theorem r28 : K_times OO := k_times r27
theorem r29 : K_power OO := k_power (by rfl) r19 r28
theorem r30 : C_letter OO := c_letter (by rfl)
theorem r31 : K_combine OO := k_combine r22
theorem r32 : K_combine1 OO := k_combine1 r31
theorem r33 : K_bezout OO := k_bezout (by rfl) r18 r28 r32 r14 r16 r24
theorem r34 : K_gcd OO := k_gcd (by rfl) r33
theorem r35 : C_isNaN OO F_cmp_isNaN_int := c_isNaN (by rfl)
theorem r36 : C_compareI OO F_cmp_Compare_int := c_compareI (by rfl) r35
theorem r37 : C_isNaN OO F_cmp_isNaN_int64 := c_isNaN64 (by rfl)
theorem r38 : C_compareI OO F_cmp_Compare_int64 := c_compareI64 (by rfl) r37
theorem r39 : C_compare OO := c_compare (by rfl) r36 r38
theorem r40 : H_insertion OO := h_insertion (by rfl)
theorem r41 : C_len64 OO F_math_bits_Len64 := c_len64 (by rfl)
theorem r42 : C_len64 OO F_math_bits_Len := c_len (by rfl) r41
theorem r43 : H_sortFunc OO := h_sortFunc (by rfl) (by rfl) r40 r42
theorem r44 : K_factors OO := k_factors (by rfl) (by rfl) r25 r26 r12 r29 r30 r32 r34 r14 r16 r24 r39 r43
theorem r45 : K_fac OO := k_fac r44
theorem r46 : K_isIrr OO := k_isIrr (by rfl) r14 r12 r45
theorem r47 : C_isField OO := c_isField (by rfl) r5 r11 r12 r13 r46
theorem r48 : K_rowOf OO := k_rowOf r5
theorem r49 : K_fieldOf OO := k_fieldOf (by rfl) r48
theorem r50 : C_isRes OO := c_isRes (by rfl) r10 r5 r12
theorem r51 : C_IsDr OO F_impl_IsDrinfeld := c_IsDr (by rfl) r47 r49 r50
theorem r52 : C_indexOf OO F_slices_IndexFunc_impl_Poly_impl_Poly (.arr 64 .leaf) := c_indexP (by rfl)
theorem r53 : C_anyOf OO F_slices_ContainsFunc_impl_Poly_impl_Poly (.arr 64 .leaf) := c_containsP (by rfl) r52
theorem r54 : C_allOf OO F_impl_areAll_impl_Poly (.arr 64 .leaf) := c_areAllP (by rfl) (by rfl) r53
theorem r55 : C_drCode OO F_impl_drinfeldCode := c_drCode (by rfl) (by rfl) r51 r10 r54
theorem r56 : K_drField OO := k_drField (by rfl) r49
theorem r57 : K_frob OO := k_frob (by rfl) r29 r12
theorem r58 : K_product OO := k_product (by rfl) r28 r19
theorem r59 : K_normOf OO := k_normOf (by rfl) r12 r21 r57 r58
theorem r60 : K_letterAction OO := k_letterAction (by rfl) r56 r30 r19 r48
theorem r61 : K_combine2 OO := k_combine2 r31
theorem r62 : K_sktrim OO := k_sktrim (by rfl)
theorem r63 : K_by OO := k_by (by rfl) r57 r58 r61 r62
theorem r64 : K_by2 OO := k_by2 r63
theorem r65 : K_single OO := k_single (by rfl)
theorem r66 : K_skAt OO := k_skAt (by rfl)
theorem r67 : K_plus OO := k_plus (by rfl) r66 r31 r62
theorem r68 : K_action OO := k_action (by rfl) r56 r60 r64 r4 r65 r67
theorem r69 : K_drFrob OO := k_drFrob (by rfl) r56 r48 r59 r16 r12 r24 r68 r66
theorem r70 : C_poly OO := c_poly (by rfl)
theorem r71 : K_poly OO := k_poly r70
theorem r72 : K_FrobOf OO F_impl_FrobeniusOf := k_FrobOf (by rfl) r55 r69 r71
theorem r73 : C_sPrime OO := c_sPrime (by rfl)
theorem r74 : C_sIs OO := c_sIs (by rfl) r73
theorem r75 : C_sCode OO := c_sCode (by rfl) r73 r74
theorem r76 : C_sDeg OO := c_sDeg (by rfl)
theorem r77 : K_sDeg OO := k_sDeg r76
theorem r78 : K_sMonic OO := k_sMonic (by rfl) r77
theorem r79 : C_sIn OO := c_sIn (by rfl)
theorem r80 : K_sInverse OO := k_sInverse (by rfl)
theorem r81 : K_sDivide OO := k_sDivide (by rfl) r77 r80
theorem r82 : K_sMod OO := k_sMod (by rfl) r81
theorem r83 : K_sOne OO := k_sOne (by rfl)
theorem r84 : K_sUp OO := k_sUp (by rfl) r77 r80
theorem r85 : K_sAdd OO := k_sAdd (by rfl)
theorem r86 : K_sMulMod OO := k_sMulMod (by rfl) r77 r84 r85 r82
theorem r87 : K_sPowMod OO := k_sPowMod (by rfl) r83 r82 r86
theorem r88 : K_sTimes OO := k_sTimes (by rfl) r77
theorem r89 : K_sBezout OO := k_sBezout (by rfl) r83 r77 r81 r88 r85 r80
theorem r90 : K_sGcd OO := k_sGcd (by rfl) r77 r89
theorem r91 : K_sT OO := k_sT (by rfl)
theorem r92 : K_sIrr OO := k_sIrr (by rfl) r77 r82 r87 r90 r85 r91
theorem r93 : C_IsDr OO F_spec_l06Is := c_sDr (by rfl) r75 r78 r77 r79 r92
theorem r94 : K_sUp6 OO := k_sUp6 (by rfl) r87
theorem r95 : K_sTimes6 OO := k_sTimes6 (by rfl) r86
theorem r96 : K_sNorm OO := k_sNorm (by rfl) r83 r77 r94 r95
theorem r97 : K_sT6 OO := k_sT6 (by rfl) r91 r82
theorem r98 : K_sTrim4 OO := k_sTrim4 (by rfl)
theorem r99 : K_sComp OO := k_sComp (by rfl) r95 r85 r94 r98
theorem r100 : K_sAction OO := k_sAction (by rfl) r77 r83 r85 r97 r99
theorem r101 : K_sFrob6 OO := k_sFrob6 (by rfl) r77 r96 r80 r85 r100
theorem r102 : K_FrobOf OO F_spec_FrobeniusOf := k_sFrobOf (by rfl) r93 r101
theorem r103 : L_FrobeniusOf OO := law_FrobeniusOf (by rfl) r2 r3 r72 r102
theorem law : L_FrobeniusOf OO := r103
end Pe
