/-
  A part of the proof: an evaluator for a small form of the code, its soundness, and contracts of functions over it.
-/
import Derived.Test.YtbangpnofnhhnaaW1
import Derived.Test.YtbangpnofnhhnaaW2
import Derived.Test.YtbangpnofnhhnaaW3
import Derived.Test.YtbangpnofnhhnaaW4
import Derived.Test.YtbangpnofnhhnaaW5
import Derived.Test.YtbangpnofnhhnaaW6
import Derived.Test.YtbangpnofnhhnaaW7

namespace Pe
open Go
noncomputable abbrev OO : Oracle := den tabF (cloneA cloneIds)
theorem rClone : C_clone OO := fun l hl => den_prim (T := tabF) rfl (cloneA_eq (ids := cloneIds) rfl rfl (by simp [ints]; omega)|>.trans (by simp [ints]))
theorem r1 : C_toPoly OO := c_toPoly (by rfl)
theorem r2 : C_isPrime OO := c_isPrime (by rfl)
theorem r3 : C_indexOf OO F_slices_IndexFunc_byte_byte .leaf := c_indexB (by rfl)
theorem r4 : C_anyOf OO F_slices_ContainsFunc_byte_byte .leaf := c_containsB (by rfl) r3
theorem r5 : C_allOf OO F_impl_areAll_byte .leaf := c_areAllB (by rfl) (by rfl) r4
theorem r6 : C_isPoly OO := c_isPoly (by rfl) (by rfl) r5
theorem r7 : C_indexOf OO F_slices_IndexFunc_impl_Poly_impl_Poly (.arr 64 .leaf) := c_indexP (by rfl)
theorem r8 : C_anyOf OO F_slices_ContainsFunc_impl_Poly_impl_Poly (.arr 64 .leaf) := c_containsP (by rfl) r7
theorem r9 : C_allOf OO F_impl_areAll_impl_Poly (.arr 64 .leaf) := c_areAllP (by rfl) (by rfl) r8
theorem r10 : C_polysCode OO := c_polysCode (by rfl) (by rfl) r2 r6 r9
theorem r11 : C_trimmed OO := c_trimmed (by rfl)
theorem r12 : C_rowOf OO := c_rowOf (by rfl) r11
theorem r13 : K_rowOf OO := k_rowOf r12
theorem r14 : C_lead OO := c_lead (by rfl)
theorem r15 : C_degree OO := c_degree (by rfl)
theorem r16 : C_within OO := c_within (by rfl)
theorem r17 : H_monicCode OO := h_monicCode (by rfl) r10 r13 r14 r15 r16
theorem r18 : C_norm OO := c_norm (by rfl)
theorem r19 : C_isSummed OO := c_isSummed (by rfl) r18
theorem r20 : K_numbered OO := k_numbered (by rfl)
theorem r21 : C_inverse OO := c_inverse (by rfl)
theorem r22 : C_reduce OO := c_reduce (by rfl)
theorem r23 : K_divide OO := k_divide (by rfl) rClone r11 r14 r21 r22
theorem r24 : K_rest OO := k_rest (by rfl) r23
theorem r25 : C_at OO := c_at (by rfl)
theorem r26 : C_combine OO := c_combine (by rfl) r25 r22 r11
theorem r27 : C_scale OO := c_scale (by rfl) r26
theorem r28 : K_scale OO := k_scale r27
theorem r29 : K_withDegree OO := k_withDegree (by rfl) r20 r24 r18 r15 r14 r21 r28
theorem r30 : K_strip OO := k_strip (by rfl) r23
theorem r31 : C_times OO := c_times (by rfl) r11
theorem r32 : K_times OO := k_times r31
theorem r33 : K_power OO := k_power (by rfl) r24 r32
theorem r34 : C_letter OO := c_letter (by rfl)
theorem r35 : K_combine OO := k_combine r26
theorem r36 : K_combine1 OO := k_combine1 r35
theorem r37 : K_bezout OO := k_bezout (by rfl) r23 r32 r36 r14 r21 r28
theorem r38 : K_gcd OO := k_gcd (by rfl) r37
theorem r39 : C_isNaN OO F_cmp_isNaN_int := c_isNaN (by rfl)
theorem r40 : C_compareI OO F_cmp_Compare_int := c_compareI (by rfl) r39
theorem r41 : C_isNaN OO F_cmp_isNaN_int64 := c_isNaN64 (by rfl)
theorem r42 : C_compareI OO F_cmp_Compare_int64 := c_compareI64 (by rfl) r41
theorem r43 : C_compare OO := c_compare (by rfl) r40 r42
theorem r44 : H_insertion OO := h_insertion (by rfl)
theorem r45 : C_len64 OO F_math_bits_Len64 := c_len64 (by rfl)
theorem r46 : C_len64 OO F_math_bits_Len := c_len (by rfl) r45
theorem r47 : H_sortFunc OO := h_sortFunc (by rfl) (by rfl) r44 r46
theorem r48 : K_factors OO := k_factors (by rfl) (by rfl) r29 r30 r15 r33 r34 r36 r38 r14 r21 r28 r43 r47
theorem r49 : K_fac OO := k_fac r48
theorem r50 : K_symbol OO := k_symbol (by rfl) r49 r15 r18 r33 r25
theorem r51 : K_quad OO := k_quad (by rfl) r50
theorem r52 : K_monics OO := k_monics (by rfl) r18 r20
theorem r53 : K_SymbolPolynomial OO F_impl_SymbolPolynomial := k_SymbolPolynomial (by rfl) r17 r13 r15 r19 r51 r52
theorem r54 : H_SymbolPolynomial OO := h_SymbolPolynomial (by rfl) r17 r13 r15 r19 r51 r52
theorem r55 : C_sPrime OO := c_sPrime (by rfl)
theorem r56 : C_sIs OO := c_sIs (by rfl) r55
theorem r57 : C_sCode OO := c_sCode (by rfl) r55 r56
theorem r58 : C_sDeg OO := c_sDeg (by rfl)
theorem r59 : K_sDeg OO := k_sDeg r58
theorem r60 : K_sMonic OO := k_sMonic (by rfl) r59
theorem r61 : C_sIn OO := c_sIn (by rfl)
theorem r62 : K_sOdd OO := k_sOdd (by rfl) r57 r60 r59 r61
theorem r63 : K_sCount OO := k_sCount (by rfl)
theorem r64 : K_sOf OO := k_sOf (by rfl)
theorem r65 : K_sInverse OO := k_sInverse (by rfl)
theorem r66 : K_sDivide OO := k_sDivide (by rfl) r59 r65
theorem r67 : K_sAdd OO := k_sAdd (by rfl)
theorem r68 : K_sSplit OO := k_sSplit (by rfl) r66 r59 r63 r64 r65 r67
theorem r69 : K_sPower OO := k_sPower (by rfl)
theorem r70 : K_sOne OO := k_sOne (by rfl)
theorem r71 : K_sMod OO := k_sMod (by rfl) r66
theorem r72 : K_sUp OO := k_sUp (by rfl) r59 r65
theorem r73 : K_sMulMod OO := k_sMulMod (by rfl) r59 r72 r67 r71
theorem r74 : K_sPowMod OO := k_sPowMod (by rfl) r70 r71 r73
theorem r75 : K_sSymbol OO := k_sSymbol (by rfl) r68 r49 r59 r69 r74
theorem r76 : K_sQuad OO := k_sQuad (by rfl) r75
theorem r77 : K_SymbolPolynomial OO F_spec_SymbolPolynomial := k_sSymbolPolynomial (by rfl) r62 r59 r63 r64 r76
theorem r78 : C_eqI OO := c_eqI (by rfl)
theorem r79 : H_markI OO := h_markI (by rfl)
theorem r80 : C_heldI OO := c_heldI (by rfl)
theorem r81 : L_SymbolPolynomial OO := law_SymbolPolynomial (by rfl) r1 r53 r54 r77 r78 r79 r80
theorem law : L_SymbolPolynomial OO := r81
end Pe
