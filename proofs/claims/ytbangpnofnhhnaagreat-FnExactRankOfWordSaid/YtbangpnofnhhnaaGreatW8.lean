/-
  A part of the proof: an evaluator for a small form of the code, its soundness, and contracts of functions over it.
-/
import Derived.Test.YtbangpnofnhhnaaGreatW1
import Derived.Test.YtbangpnofnhhnaaGreatW2
import Derived.Test.YtbangpnofnhhnaaGreatW3
import Derived.Test.YtbangpnofnhhnaaGreatW4
import Derived.Test.YtbangpnofnhhnaaGreatW5
import Derived.Test.YtbangpnofnhhnaaGreatW6
import Derived.Test.YtbangpnofnhhnaaGreatW7

namespace Pe
open Go
noncomputable abbrev OO : Oracle := den tabF (cloneA cloneIds)
theorem rClone : C_clone OO := fun l hl => den_prim (T := tabF) rfl (cloneA_eq (ids := cloneIds) rfl rfl (by simp [ints]; omega)|>.trans (by simp [ints]))
theorem r1 : C_toPoly OO := c_toPoly (by rfl)
theorem r2 : C_toPs OO := c_toPs (by rfl) r1
theorem r3 : C_eqPoly OO := c_eqPoly (by rfl)
theorem r4 : C_eqPs OO := c_eqPs (by rfl) r3
theorem r5 : C_szPs OO := c_szPs (by rfl)
theorem r6 : C_trimmed OO := c_trimmed (by rfl)
theorem r7 : C_rowOf OO := c_rowOf (by rfl) r6
theorem r8 : C_isPrime OO := c_isPrime (by rfl)
theorem r9 : C_indexOf OO F_slices_IndexFunc_byte_byte .leaf := c_indexB (by rfl)
theorem r10 : C_anyOf OO F_slices_ContainsFunc_byte_byte .leaf := c_containsB (by rfl) r9
theorem r11 : C_allOf OO F_impl_areAll_byte .leaf := c_areAllB (by rfl) (by rfl) r10
theorem r12 : C_isPoly OO := c_isPoly (by rfl) (by rfl) r11
theorem r13 : C_IsPoly OO := c_IsPoly (by rfl) r8 r12
theorem r14 : C_degree OO := c_degree (by rfl)
theorem r15 : C_within OO := c_within (by rfl)
theorem r16 : C_lead OO := c_lead (by rfl)
theorem r17 : K_numbered OO := k_numbered (by rfl)
theorem r18 : C_inverse OO := c_inverse (by rfl)
theorem r19 : C_reduce OO := c_reduce (by rfl)
theorem r20 : K_divide OO := k_divide (by rfl) rClone r6 r16 r18 r19
theorem r21 : K_rest OO := k_rest (by rfl) r20
theorem r22 : C_norm OO := c_norm (by rfl)
theorem r23 : C_at OO := c_at (by rfl)
theorem r24 : C_combine OO := c_combine (by rfl) r23 r19 r6
theorem r25 : C_scale OO := c_scale (by rfl) r24
theorem r26 : K_scale OO := k_scale r25
theorem r27 : K_withDegree OO := k_withDegree (by rfl) r17 r21 r22 r14 r16 r18 r26
theorem r28 : K_strip OO := k_strip (by rfl) r20
theorem r29 : C_times OO := c_times (by rfl) r6
theorem r30 : K_times OO := k_times r29
theorem r31 : K_power OO := k_power (by rfl) r21 r30
theorem r32 : C_letter OO := c_letter (by rfl)
theorem r33 : K_combine OO := k_combine r24
theorem r34 : K_combine1 OO := k_combine1 r33
theorem r35 : K_bezout OO := k_bezout (by rfl) r20 r30 r34 r16 r18 r26
theorem r36 : K_gcd OO := k_gcd (by rfl) r35
theorem r37 : C_isNaN OO F_cmp_isNaN_int := c_isNaN (by rfl)
theorem r38 : C_compareI OO F_cmp_Compare_int := c_compareI (by rfl) r37
theorem r39 : C_isNaN OO F_cmp_isNaN_int64 := c_isNaN64 (by rfl)
theorem r40 : C_compareI OO F_cmp_Compare_int64 := c_compareI64 (by rfl) r39
theorem r41 : C_compare OO := c_compare (by rfl) r38 r40
theorem r42 : H_insertion OO := h_insertion (by rfl)
theorem r43 : C_len64 OO F_math_bits_Len64 := c_len64 (by rfl)
theorem r44 : C_len64 OO F_math_bits_Len := c_len (by rfl) r43
theorem r45 : H_sortFunc OO := h_sortFunc (by rfl) (by rfl) r42 r44
theorem r46 : K_factors OO := k_factors (by rfl) (by rfl) r27 r28 r14 r31 r32 r34 r36 r16 r18 r26 r41 r45
theorem r47 : K_fac OO := k_fac r46
theorem r48 : K_isIrr OO := k_isIrr (by rfl) r16 r14 r47
theorem r49 : C_isField OO := c_isField (by rfl) r7 r13 r14 r15 r48
theorem r50 : K_rowOf OO := k_rowOf r7
theorem r51 : K_fieldOf OO := k_fieldOf (by rfl) r50
theorem r52 : C_isRes OO := c_isRes (by rfl) r12 r7 r14
theorem r53 : C_indexOf OO F_slices_IndexFunc_impl_Poly_impl_Poly (.arr 64 .leaf) := c_indexP (by rfl)
theorem r54 : C_anyOf OO F_slices_ContainsFunc_impl_Poly_impl_Poly (.arr 64 .leaf) := c_containsP (by rfl) r53
theorem r55 : C_allOf OO F_impl_areAll_impl_Poly (.arr 64 .leaf) := c_areAllP (by rfl) (by rfl) r54
theorem r56 : C_resCode OO F_impl_residuesCode := c_resCode (by rfl) r49 r51 r52 r55
theorem r57 : C_listCode OO := c_listCode (by rfl) r56
theorem r58 : K_rows OO := k_rows (by rfl) r50
theorem r59 : H_insRow OO := h_insRow (by rfl)
theorem r60 : H_sortRow OO := h_sortRow (by rfl) (by rfl) r59 r44
theorem r61 : K_redList OO := k_redList (by rfl) (by rfl) r23 r33 r16 r18 r26 r60
theorem r62 : K_rank OO := k_rank (by rfl) r61
theorem r63 : K_RankOfWord OO F_impl_RankOfWord := k_RankOfWord (by rfl) r57 r58 r62
theorem r64 : C_sPrime OO := c_sPrime (by rfl)
theorem r65 : C_sIs OO := c_sIs (by rfl) r64
theorem r66 : C_sDeg OO := c_sDeg (by rfl)
theorem r67 : K_sDeg OO := k_sDeg r66
theorem r68 : K_sMonic OO := k_sMonic (by rfl) r67
theorem r69 : C_sIn OO := c_sIn (by rfl)
theorem r70 : K_sInverse OO := k_sInverse (by rfl)
theorem r71 : K_sDivide OO := k_sDivide (by rfl) r67 r70
theorem r72 : K_sMod OO := k_sMod (by rfl) r71
theorem r73 : K_sOne OO := k_sOne (by rfl)
theorem r74 : K_sUp OO := k_sUp (by rfl) r67 r70
theorem r75 : K_sAdd OO := k_sAdd (by rfl)
theorem r76 : K_sMulMod OO := k_sMulMod (by rfl) r67 r74 r75 r72
theorem r77 : K_sPowMod OO := k_sPowMod (by rfl) r73 r72 r76
theorem r78 : K_sTimes OO := k_sTimes (by rfl) r67
theorem r79 : K_sBezout OO := k_sBezout (by rfl) r73 r67 r71 r78 r75 r70
theorem r80 : K_sGcd OO := k_sGcd (by rfl) r67 r79
theorem r81 : K_sT OO := k_sT (by rfl)
theorem r82 : K_sIrr OO := k_sIrr (by rfl) r67 r72 r77 r80 r75 r81
theorem r83 : C_sField OO := c_sField (by rfl) r65 r68 r67 r69 r82
theorem r84 : C_sRes OO := c_sRes (by rfl) r65 r67
theorem r85 : C_resCode OO F_spec_l03Residues := c_sRsCode (by rfl) r83 r84
theorem r86 : C_sListed OO := c_sListed (by rfl) r85
theorem r87 : K_sPut OO := k_sPut (by rfl) r67 r70 r75
theorem r88 : K_sSpan OO := k_sSpan (by rfl) r87
theorem r89 : K_RankOfWord OO F_spec_RankOfWord := k_sRankOfWord (by rfl) r86 r88
theorem r90 : L_RankOfWord OO := law_RankOfWord (by rfl) r1 r2 r4 r5 r63 r89
theorem law : L_RankOfWord OO := r90
end Pe
