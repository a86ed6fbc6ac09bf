/-
  A part of the proof: an evaluator for a small form of the code, its soundness, and contracts of functions over it.
-/
import Derived.Test.YtbangpnofnhhnaaGreatW1
import Derived.Test.YtbangpnofnhhnaaGreatW2
import Derived.Test.YtbangpnofnhhnaaGreatW3
import Derived.Test.YtbangpnofnhhnaaGreatW4
import Derived.Test.YtbangpnofnhhnaaGreatW5
import Derived.Test.YtbangpnofnhhnaaGreatW6
import Derived.Test.YtbangpnofnhhnaaGreatW7

namespace Pe
open Go
noncomputable abbrev OO : Oracle := den tabF (cloneA cloneIds)
theorem rClone : C_clone OO := fun l hl => den_prim (T := tabF) rfl (cloneA_eq (ids := cloneIds) rfl rfl (by simp [ints]; omega)|>.trans (by simp [ints]))
theorem r1 : C_toPoly OO := c_toPoly (by rfl)
theorem r2 : C_toDr OO := c_toDr (by rfl) r1
theorem r3 : C_toPs OO := c_toPs (by rfl) r1
theorem r4 : C_eqPoly OO := c_eqPoly (by rfl)
theorem r5 : C_eqPs OO := c_eqPs (by rfl) r4
theorem r6 : C_szPs OO := c_szPs (by rfl)
theorem r7 : C_trimmed OO := c_trimmed (by rfl)
theorem r8 : C_rowOf OO := c_rowOf (by rfl) r7
theorem r9 : C_isPrime OO := c_isPrime (by rfl)
theorem r10 : C_indexOf OO F_slices_IndexFunc_byte_byte .leaf := c_indexB (by rfl)
theorem r11 : C_anyOf OO F_slices_ContainsFunc_byte_byte .leaf := c_containsB (by rfl) r10
theorem r12 : C_allOf OO F_impl_areAll_byte .leaf := c_areAllB (by rfl) (by rfl) r11
theorem r13 : C_isPoly OO := c_isPoly (by rfl) (by rfl) r12
theorem r14 : C_IsPoly OO := c_IsPoly (by rfl) r9 r13
theorem r15 : C_degree OO := c_degree (by rfl)
theorem r16 : C_within OO := c_within (by rfl)
theorem r17 : C_lead OO := c_lead (by rfl)
theorem r18 : K_numbered OO := k_numbered (by rfl)
theorem r19 : C_inverse OO := c_inverse (by rfl)
theorem r20 : C_reduce OO := c_reduce (by rfl)
theorem r21 : K_divide OO := k_divide (by rfl) rClone r7 r17 r19 r20
theorem r22 : K_rest OO := k_rest (by rfl) r21
theorem r23 : C_norm OO := c_norm (by rfl)
theorem r24 : C_at OO := c_at (by rfl)
theorem r25 : C_combine OO := c_combine (by rfl) r24 r20 r7
theorem r26 : C_scale OO := c_scale (by rfl) r25
theorem r27 : K_scale OO := k_scale r26
theorem r28 : K_withDegree OO := k_withDegree (by rfl) r18 r22 r23 r15 r17 r19 r27
theorem r29 : K_strip OO := k_strip (by rfl) r21
theorem r30 : C_times OO := c_times (by rfl) r7
theorem r31 : K_times OO := k_times r30
theorem r32 : K_power OO := k_power (by rfl) r22 r31
theorem r33 : C_letter OO := c_letter (by rfl)
theorem r34 : K_combine OO := k_combine r25
theorem r35 : K_combine1 OO := k_combine1 r34
theorem r36 : K_bezout OO := k_bezout (by rfl) r21 r31 r35 r17 r19 r27
theorem r37 : K_gcd OO := k_gcd (by rfl) r36
theorem r38 : C_isNaN OO F_cmp_isNaN_int := c_isNaN (by rfl)
theorem r39 : C_compareI OO F_cmp_Compare_int := c_compareI (by rfl) r38
theorem r40 : C_isNaN OO F_cmp_isNaN_int64 := c_isNaN64 (by rfl)
theorem r41 : C_compareI OO F_cmp_Compare_int64 := c_compareI64 (by rfl) r40
theorem r42 : C_compare OO := c_compare (by rfl) r39 r41
theorem r43 : H_insertion OO := h_insertion (by rfl)
theorem r44 : C_len64 OO F_math_bits_Len64 := c_len64 (by rfl)
theorem r45 : C_len64 OO F_math_bits_Len := c_len (by rfl) r44
theorem r46 : H_sortFunc OO := h_sortFunc (by rfl) (by rfl) r43 r45
theorem r47 : K_factors OO := k_factors (by rfl) (by rfl) r28 r29 r15 r32 r33 r35 r37 r17 r19 r27 r42 r46
theorem r48 : K_fac OO := k_fac r47
theorem r49 : K_isIrr OO := k_isIrr (by rfl) r17 r15 r48
theorem r50 : C_isField OO := c_isField (by rfl) r8 r14 r15 r16 r49
theorem r51 : K_rowOf OO := k_rowOf r8
theorem r52 : K_fieldOf OO := k_fieldOf (by rfl) r51
theorem r53 : C_isRes OO := c_isRes (by rfl) r13 r8 r15
theorem r54 : C_IsDr OO F_impl_IsDrinfeld := c_IsDr (by rfl) r50 r52 r53
theorem r55 : C_indexOf OO F_slices_IndexFunc_impl_Poly_impl_Poly (.arr 64 .leaf) := c_indexP (by rfl)
theorem r56 : C_anyOf OO F_slices_ContainsFunc_impl_Poly_impl_Poly (.arr 64 .leaf) := c_containsP (by rfl) r55
theorem r57 : C_allOf OO F_impl_areAll_impl_Poly (.arr 64 .leaf) := c_areAllP (by rfl) (by rfl) r56
theorem r58 : C_drCode OO F_impl_drinfeldCode := c_drCode (by rfl) (by rfl) r54 r13 r57
theorem r59 : C_pair OO F_impl_pairCode := c_pair (by rfl) r54
theorem r60 : K_drField OO := k_drField (by rfl) r52
theorem r61 : K_rows OO := k_rows (by rfl) r51
theorem r62 : K_sktrim OO := k_sktrim (by rfl)
theorem r63 : K_letterAction OO := k_letterAction (by rfl) r60 r33 r22 r51
theorem r64 : K_frob OO := k_frob (by rfl) r32 r15
theorem r65 : K_product OO := k_product (by rfl) r31 r22
theorem r66 : K_combine2 OO := k_combine2 r34
theorem r67 : K_by OO := k_by (by rfl) r64 r65 r66 r62
theorem r68 : K_by2 OO := k_by2 r67
theorem r69 : K_skAt OO := k_skAt (by rfl)
theorem r70 : K_plus OO := k_plus (by rfl) r69 r34 r62
theorem r71 : K_IsIso OO F_impl_IsIsogeny := k_IsIso (by rfl) r58 r59 r60 r16 r53 r57 r61 r62 r63 r68 r70
theorem r72 : C_sPrime OO := c_sPrime (by rfl)
theorem r73 : C_sIs OO := c_sIs (by rfl) r72
theorem r74 : C_sCode OO := c_sCode (by rfl) r72 r73
theorem r75 : C_sDeg OO := c_sDeg (by rfl)
theorem r76 : K_sDeg OO := k_sDeg r75
theorem r77 : K_sMonic OO := k_sMonic (by rfl) r76
theorem r78 : C_sIn OO := c_sIn (by rfl)
theorem r79 : K_sInverse OO := k_sInverse (by rfl)
theorem r80 : K_sDivide OO := k_sDivide (by rfl) r76 r79
theorem r81 : K_sMod OO := k_sMod (by rfl) r80
theorem r82 : K_sOne OO := k_sOne (by rfl)
theorem r83 : K_sUp OO := k_sUp (by rfl) r76 r79
theorem r84 : K_sAdd OO := k_sAdd (by rfl)
theorem r85 : K_sMulMod OO := k_sMulMod (by rfl) r76 r83 r84 r81
theorem r86 : K_sPowMod OO := k_sPowMod (by rfl) r82 r81 r85
theorem r87 : K_sTimes OO := k_sTimes (by rfl) r76
theorem r88 : K_sBezout OO := k_sBezout (by rfl) r82 r76 r80 r87 r84 r79
theorem r89 : K_sGcd OO := k_sGcd (by rfl) r76 r88
theorem r90 : K_sT OO := k_sT (by rfl)
theorem r91 : K_sIrr OO := k_sIrr (by rfl) r76 r81 r86 r89 r84 r90
theorem r92 : C_IsDr OO F_spec_l06Is := c_sDr (by rfl) r74 r77 r76 r78 r91
theorem r93 : C_pair OO F_spec_l06Both := c_sPair (by rfl) r92
theorem r94 : K_sT6 OO := k_sT6 (by rfl) r90 r81
theorem r95 : K_sTimes6 OO := k_sTimes6 (by rfl) r85
theorem r96 : K_sUp6 OO := k_sUp6 (by rfl) r86
theorem r97 : K_sTrim4 OO := k_sTrim4 (by rfl)
theorem r98 : K_sComp OO := k_sComp (by rfl) r95 r84 r96 r97
theorem r99 : K_IsIso OO F_spec_IsIsogeny := k_sIsIso (by rfl) r92 r74 r93 r76 r94 r98
theorem r100 : L_IsIsogeny OO := law_IsIsogeny (by rfl) r2 r3 r5 r6 r71 r99
theorem law : L_IsIsogeny OO := r100
end Pe
