/-
  A part of the proof: an evaluator for a small form of the code, its soundness, and contracts of functions over it.
-/
import Derived.Test.YtbangpnofnhhnaaW1
import Derived.Test.YtbangpnofnhhnaaW2
import Derived.Test.YtbangpnofnhhnaaW3
import Derived.Test.YtbangpnofnhhnaaW4
import Derived.Test.YtbangpnofnhhnaaW5
import Derived.Test.YtbangpnofnhhnaaW6
import Derived.Test.YtbangpnofnhhnaaW7

namespace Pe
open Go
noncomputable abbrev OO : Oracle := den tabF (cloneA cloneIds)
theorem rClone : C_clone OO := fun l hl => den_prim (T := tabF) rfl (cloneA_eq (ids := cloneIds) rfl rfl (by simp [ints]; omega)|>.trans (by simp [ints]))
theorem r1 : C_toPoly OO := c_toPoly (by rfl)
theorem r2 : C_eqPoly OO := c_eqPoly (by rfl)
theorem r3 : C_eqDr OO := c_eqDr (by rfl) r2
theorem r4 : C_eqDs OO := c_eqDs (by rfl) r3
theorem r5 : H_markDs OO := h_markDs (by rfl)
theorem r6 : C_heldDs OO := c_heldDs (by rfl)
theorem r7 : C_isPrime OO := c_isPrime (by rfl)
theorem r8 : C_indexOf OO F_slices_IndexFunc_byte_byte .leaf := c_indexB (by rfl)
theorem r9 : C_anyOf OO F_slices_ContainsFunc_byte_byte .leaf := c_containsB (by rfl) r8
theorem r10 : C_allOf OO F_impl_areAll_byte .leaf := c_areAllB (by rfl) (by rfl) r9
theorem r11 : C_isPoly OO := c_isPoly (by rfl) (by rfl) r10
theorem r12 : C_indexOf OO F_slices_IndexFunc_impl_Poly_impl_Poly (.arr 64 .leaf) := c_indexP (by rfl)
theorem r13 : C_anyOf OO F_slices_ContainsFunc_impl_Poly_impl_Poly (.arr 64 .leaf) := c_containsP (by rfl) r12
theorem r14 : C_allOf OO F_impl_areAll_impl_Poly (.arr 64 .leaf) := c_areAllP (by rfl) (by rfl) r13
theorem r15 : C_polysCode OO := c_polysCode (by rfl) (by rfl) r7 r11 r14
theorem r16 : C_trimmed OO := c_trimmed (by rfl)
theorem r17 : C_rowOf OO := c_rowOf (by rfl) r16
theorem r18 : C_IsPoly OO := c_IsPoly (by rfl) r7 r11
theorem r19 : C_degree OO := c_degree (by rfl)
theorem r20 : C_within OO := c_within (by rfl)
theorem r21 : C_lead OO := c_lead (by rfl)
theorem r22 : K_numbered OO := k_numbered (by rfl)
theorem r23 : C_inverse OO := c_inverse (by rfl)
theorem r24 : C_reduce OO := c_reduce (by rfl)
theorem r25 : K_divide OO := k_divide (by rfl) rClone r16 r21 r23 r24
theorem r26 : K_rest OO := k_rest (by rfl) r25
theorem r27 : C_norm OO := c_norm (by rfl)
theorem r28 : C_at OO := c_at (by rfl)
theorem r29 : C_combine OO := c_combine (by rfl) r28 r24 r16
theorem r30 : C_scale OO := c_scale (by rfl) r29
theorem r31 : K_scale OO := k_scale r30
theorem r32 : K_withDegree OO := k_withDegree (by rfl) r22 r26 r27 r19 r21 r23 r31
theorem r33 : K_strip OO := k_strip (by rfl) r25
theorem r34 : C_times OO := c_times (by rfl) r16
theorem r35 : K_times OO := k_times r34
theorem r36 : K_power OO := k_power (by rfl) r26 r35
theorem r37 : C_letter OO := c_letter (by rfl)
theorem r38 : K_combine OO := k_combine r29
theorem r39 : K_combine1 OO := k_combine1 r38
theorem r40 : K_bezout OO := k_bezout (by rfl) r25 r35 r39 r21 r23 r31
theorem r41 : K_gcd OO := k_gcd (by rfl) r40
theorem r42 : C_isNaN OO F_cmp_isNaN_int := c_isNaN (by rfl)
theorem r43 : C_compareI OO F_cmp_Compare_int := c_compareI (by rfl) r42
theorem r44 : C_isNaN OO F_cmp_isNaN_int64 := c_isNaN64 (by rfl)
theorem r45 : C_compareI OO F_cmp_Compare_int64 := c_compareI64 (by rfl) r44
theorem r46 : C_compare OO := c_compare (by rfl) r43 r45
theorem r47 : H_insertion OO := h_insertion (by rfl)
theorem r48 : C_len64 OO F_math_bits_Len64 := c_len64 (by rfl)
theorem r49 : C_len64 OO F_math_bits_Len := c_len (by rfl) r48
theorem r50 : H_sortFunc OO := h_sortFunc (by rfl) (by rfl) r47 r49
theorem r51 : K_factors OO := k_factors (by rfl) (by rfl) r32 r33 r19 r36 r37 r39 r41 r21 r23 r31 r46 r50
theorem r52 : K_fac OO := k_fac r51
theorem r53 : K_isIrr OO := k_isIrr (by rfl) r21 r19 r52
theorem r54 : C_isField OO := c_isField (by rfl) r17 r18 r19 r20 r53
theorem r55 : K_rowOf OO := k_rowOf r17
theorem r56 : K_fieldOf OO := k_fieldOf (by rfl) r55
theorem r57 : C_poly OO := c_poly (by rfl)
theorem r58 : K_poly OO := k_poly r57
theorem r59 : K_all OO F_impl_allDrinfeld := k_all (by rfl) r56 r19 r27 r22 r58
theorem r60 : K_AllDrinfeld OO F_impl_AllDrinfeld := k_AllDrinfeld (by rfl) r15 r54 r55 r19 r27 r59
theorem r61 : H_all OO := h_all (by rfl) r56 r19 r27 r22 r58
theorem r62 : H_AllDrinfeld OO := h_AllDrinfeld (by rfl) r15 r54 r55 r19 r27 r61
theorem r63 : C_sPrime OO := c_sPrime (by rfl)
theorem r64 : C_sIs OO := c_sIs (by rfl) r63
theorem r65 : C_sCode OO := c_sCode (by rfl) r63 r64
theorem r66 : C_sDeg OO := c_sDeg (by rfl)
theorem r67 : K_sDeg OO := k_sDeg r66
theorem r68 : K_sMonic OO := k_sMonic (by rfl) r67
theorem r69 : C_sIn OO := c_sIn (by rfl)
theorem r70 : K_sCount OO := k_sCount (by rfl)
theorem r71 : K_sInverse OO := k_sInverse (by rfl)
theorem r72 : K_sDivide OO := k_sDivide (by rfl) r67 r71
theorem r73 : K_sMod OO := k_sMod (by rfl) r72
theorem r74 : K_sOne OO := k_sOne (by rfl)
theorem r75 : K_sUp OO := k_sUp (by rfl) r67 r71
theorem r76 : K_sAdd OO := k_sAdd (by rfl)
theorem r77 : K_sMulMod OO := k_sMulMod (by rfl) r67 r75 r76 r73
theorem r78 : K_sPowMod OO := k_sPowMod (by rfl) r74 r73 r77
theorem r79 : K_sTimes OO := k_sTimes (by rfl) r67
theorem r80 : K_sBezout OO := k_sBezout (by rfl) r74 r67 r72 r79 r76 r71
theorem r81 : K_sGcd OO := k_sGcd (by rfl) r67 r80
theorem r82 : K_sT OO := k_sT (by rfl)
theorem r83 : K_sIrr OO := k_sIrr (by rfl) r67 r73 r78 r81 r76 r82
theorem r84 : C_sSmall OO := c_sSmall (by rfl) r65 r68 r67 r69 r70 r83
theorem r85 : K_sOf OO := k_sOf (by rfl)
theorem r86 : K_all OO F_spec_l06All := k_sAll (by rfl) r67 r70 r85
theorem r87 : K_AllDrinfeld OO F_spec_AllDrinfeld := k_sAllDrinfeld (by rfl) r84 r86
theorem r88 : L_AllDrinfeld OO := law_AllDrinfeld (by rfl) r1 r4 r5 r6 r60 r62 r87
theorem law : L_AllDrinfeld OO := r88
end Pe
