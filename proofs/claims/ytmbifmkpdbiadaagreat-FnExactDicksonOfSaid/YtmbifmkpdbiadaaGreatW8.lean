/-
  A part of the proof: an evaluator for a small form of the code, its soundness, and contracts of functions over it.
-/
import Derived.Test.YtmbifmkpdbiadaaGreatW1
import Derived.Test.YtmbifmkpdbiadaaGreatW2
import Derived.Test.YtmbifmkpdbiadaaGreatW3
import Derived.Test.YtmbifmkpdbiadaaGreatW4
import Derived.Test.YtmbifmkpdbiadaaGreatW5
import Derived.Test.YtmbifmkpdbiadaaGreatW6
import Derived.Test.YtmbifmkpdbiadaaGreatW7

namespace Pe
open Go
noncomputable abbrev OO : Oracle := den tabF (cloneA cloneIds)
theorem rClone : C_clone OO := fun l hl => den_prim (T := tabF) rfl (cloneA_eq (ids := cloneIds) rfl rfl (by simp [ints]; omega)|>.trans (by simp [ints]))
theorem r1 : C_toPoly OO := c_toPoly (by rfl)
theorem r2 : C_toPs OO := c_toPs (by rfl) r1
theorem r3 : H_toPs OO := h_toPs (by rfl) r1
theorem r4 : C_eqPoly OO := c_eqPoly (by rfl)
theorem r5 : C_eqPs OO := c_eqPs (by rfl) r4
theorem r6 : C_szPs OO := c_szPs (by rfl)
theorem r7 : H_markPs OO := h_markPs (by rfl)
theorem r8 : C_heldPs OO := c_heldPs (by rfl)
theorem r9 : C_trimmed OO := c_trimmed (by rfl)
theorem r10 : C_rowOf OO := c_rowOf (by rfl) r9
theorem r11 : C_isPrime OO := c_isPrime (by rfl)
theorem r12 : C_indexOf OO F_slices_IndexFunc_byte_byte .leaf := c_indexB (by rfl)
theorem r13 : C_anyOf OO F_slices_ContainsFunc_byte_byte .leaf := c_containsB (by rfl) r12
theorem r14 : C_allOf OO F_impl_areAll_byte .leaf := c_areAllB (by rfl) (by rfl) r13
theorem r15 : C_isPoly OO := c_isPoly (by rfl) (by rfl) r14
theorem r16 : C_IsPoly OO := c_IsPoly (by rfl) r11 r15
theorem r17 : C_degree OO := c_degree (by rfl)
theorem r18 : C_within OO := c_within (by rfl)
theorem r19 : C_lead OO := c_lead (by rfl)
theorem r20 : K_numbered OO := k_numbered (by rfl)
theorem r21 : C_inverse OO := c_inverse (by rfl)
theorem r22 : C_reduce OO := c_reduce (by rfl)
theorem r23 : K_divide OO := k_divide (by rfl) rClone r9 r19 r21 r22
theorem r24 : K_rest OO := k_rest (by rfl) r23
theorem r25 : C_norm OO := c_norm (by rfl)
theorem r26 : C_at OO := c_at (by rfl)
theorem r27 : C_combine OO := c_combine (by rfl) r26 r22 r9
theorem r28 : C_scale OO := c_scale (by rfl) r27
theorem r29 : K_scale OO := k_scale r28
theorem r30 : K_withDegree OO := k_withDegree (by rfl) r20 r24 r25 r17 r19 r21 r29
theorem r31 : K_strip OO := k_strip (by rfl) r23
theorem r32 : C_times OO := c_times (by rfl) r9
theorem r33 : K_times OO := k_times r32
theorem r34 : K_power OO := k_power (by rfl) r24 r33
theorem r35 : C_letter OO := c_letter (by rfl)
theorem r36 : K_combine OO := k_combine r27
theorem r37 : K_combine1 OO := k_combine1 r36
theorem r38 : K_bezout OO := k_bezout (by rfl) r23 r33 r37 r19 r21 r29
theorem r39 : K_gcd OO := k_gcd (by rfl) r38
theorem r40 : C_isNaN OO F_cmp_isNaN_int := c_isNaN (by rfl)
theorem r41 : C_compareI OO F_cmp_Compare_int := c_compareI (by rfl) r40
theorem r42 : C_isNaN OO F_cmp_isNaN_int64 := c_isNaN64 (by rfl)
theorem r43 : C_compareI OO F_cmp_Compare_int64 := c_compareI64 (by rfl) r42
theorem r44 : C_compare OO := c_compare (by rfl) r41 r43
theorem r45 : H_insertion OO := h_insertion (by rfl)
theorem r46 : C_len64 OO F_math_bits_Len64 := c_len64 (by rfl)
theorem r47 : C_len64 OO F_math_bits_Len := c_len (by rfl) r46
theorem r48 : H_sortFunc OO := h_sortFunc (by rfl) (by rfl) r45 r47
theorem r49 : K_factors OO := k_factors (by rfl) (by rfl) r30 r31 r17 r34 r35 r37 r39 r19 r21 r29 r44 r48
theorem r50 : K_fac OO := k_fac r49
theorem r51 : K_isIrr OO := k_isIrr (by rfl) r19 r17 r50
theorem r52 : C_isField OO := c_isField (by rfl) r10 r16 r17 r18 r51
theorem r53 : K_rowOf OO := k_rowOf r10
theorem r54 : K_fieldOf OO := k_fieldOf (by rfl) r53
theorem r55 : C_isRes OO := c_isRes (by rfl) r15 r10 r17
theorem r56 : C_indexOf OO F_slices_IndexFunc_impl_Poly_impl_Poly (.arr 64 .leaf) := c_indexP (by rfl)
theorem r57 : C_anyOf OO F_slices_ContainsFunc_impl_Poly_impl_Poly (.arr 64 .leaf) := c_containsP (by rfl) r56
theorem r58 : C_allOf OO F_impl_areAll_impl_Poly (.arr 64 .leaf) := c_areAllP (by rfl) (by rfl) r57
theorem r59 : C_resCode OO F_impl_residuesCode := c_resCode (by rfl) r52 r54 r55 r58
theorem r60 : K_rows OO := k_rows (by rfl) r53
theorem r61 : K_single OO := k_single (by rfl)
theorem r62 : K_frob OO := k_frob (by rfl) r34 r17
theorem r63 : K_product OO := k_product (by rfl) r33 r24
theorem r64 : K_combine2 OO := k_combine2 r36
theorem r65 : K_value OO := k_value (by rfl) r62 r63 r64
theorem r66 : K_inverted OO := k_inverted (by rfl) r38 r24
theorem r67 : K_sktrim OO := k_sktrim (by rfl)
theorem r68 : K_by OO := k_by (by rfl) r62 r63 r64 r67
theorem r69 : K_by2 OO := k_by2 r68
theorem r70 : K_least OO := k_least (by rfl) r61 r65 r62 r66 r63 r29 r69
theorem r71 : C_poly OO := c_poly (by rfl)
theorem r72 : K_poly OO := k_poly r71
theorem r73 : K_polys OO := k_polys (by rfl) r72
theorem r74 : K_DicksonOf OO F_impl_DicksonOf := k_DicksonOf (by rfl) r59 r60 r54 r70 r73
theorem r75 : H_rows OO := h_rows (by rfl) r53
theorem r76 : H_polys OO := h_polys (by rfl) r72
theorem r77 : H_DicksonOf OO := h_DicksonOf (by rfl) r59 r75 r54 r70 r76
theorem r78 : C_sPrime OO := c_sPrime (by rfl)
theorem r79 : C_sIs OO := c_sIs (by rfl) r78
theorem r80 : C_sDeg OO := c_sDeg (by rfl)
theorem r81 : K_sDeg OO := k_sDeg r80
theorem r82 : K_sMonic OO := k_sMonic (by rfl) r81
theorem r83 : C_sIn OO := c_sIn (by rfl)
theorem r84 : K_sInverse OO := k_sInverse (by rfl)
theorem r85 : K_sDivide OO := k_sDivide (by rfl) r81 r84
theorem r86 : K_sMod OO := k_sMod (by rfl) r85
theorem r87 : K_sOne OO := k_sOne (by rfl)
theorem r88 : K_sUp OO := k_sUp (by rfl) r81 r84
theorem r89 : K_sAdd OO := k_sAdd (by rfl)
theorem r90 : K_sMulMod OO := k_sMulMod (by rfl) r81 r88 r89 r86
theorem r91 : K_sPowMod OO := k_sPowMod (by rfl) r87 r86 r90
theorem r92 : K_sTimes OO := k_sTimes (by rfl) r81
theorem r93 : K_sBezout OO := k_sBezout (by rfl) r87 r81 r85 r92 r89 r84
theorem r94 : K_sGcd OO := k_sGcd (by rfl) r81 r93
theorem r95 : K_sT OO := k_sT (by rfl)
theorem r96 : K_sIrr OO := k_sIrr (by rfl) r81 r86 r91 r94 r89 r95
theorem r97 : C_sField OO := c_sField (by rfl) r79 r82 r81 r83 r96
theorem r98 : C_sRes OO := c_sRes (by rfl) r79 r81
theorem r99 : C_resCode OO F_spec_l03Residues := c_sRsCode (by rfl) r97 r98
theorem r100 : K_sSkDeg OO := k_sSkDeg (by rfl)
theorem r101 : K_sDeg8 OO := k_sDeg8 r100
theorem r102 : K_sOne3 OO := k_sOne3 (by rfl) r87
theorem r103 : K_sFrob OO := k_sFrob (by rfl) r91 r81
theorem r104 : K_sSkVal OO := k_sSkVal (by rfl) r103 r90 r89
theorem r105 : K_sTimes3 OO := k_sTimes3 (by rfl) r100 r103 r90 r89
theorem r106 : K_sTimes8 OO := k_sTimes8 r105
theorem r107 : K_sLeast3 OO := k_sLeast3 (by rfl) r102 r104 r81 r91 r89 r87 r106
theorem r108 : K_DicksonOf OO F_spec_DicksonOf := k_sDicksonOf (by rfl) r99 r101 r107
theorem r109 : L_DicksonOf OO := law_DicksonOf (by rfl) r1 r2 r3 r5 r6 r7 r8 r74 r77 r108
theorem law : L_DicksonOf OO := r109
end Pe
