/-
  A part of the proof: an evaluator for a small form of the code, its soundness, and contracts of functions over it.
-/
import Derived.Test.YtbangpnofnhhnaaW1
import Derived.Test.YtbangpnofnhhnaaW2
import Derived.Test.YtbangpnofnhhnaaW3
import Derived.Test.YtbangpnofnhhnaaW4
import Derived.Test.YtbangpnofnhhnaaW5
import Derived.Test.YtbangpnofnhhnaaW6

namespace Pe
open Go
noncomputable abbrev OO : Oracle := den tabF (cloneA cloneIds)
theorem rClone : C_clone OO := fun l hl => den_prim (T := tabF) rfl (cloneA_eq (ids := cloneIds) rfl rfl (by simp [ints]; omega)|>.trans (by simp [ints]))
theorem r1 : C_toPoly OO := c_toPoly (by rfl)
theorem r2 : C_eqPoly OO := c_eqPoly (by rfl)
theorem r3 : C_isPrime OO := c_isPrime (by rfl)
theorem r4 : C_indexOf OO F1n .leaf := c_indexB (by rfl)
theorem r5 : C_anyOf OO F1l .leaf := c_containsB (by rfl) r4
theorem r6 : C_allOf OO F5 .leaf := c_areAllB (by rfl) (by rfl) r5
theorem r7 : C_isPoly OO := c_isPoly (by rfl) (by rfl) r6
theorem r8 : C_indexOf OO F1o (.arr 64 .leaf) := c_indexP (by rfl)
theorem r9 : C_anyOf OO F1m (.arr 64 .leaf) := c_containsP (by rfl) r8
theorem r10 : C_allOf OO F7 (.arr 64 .leaf) := c_areAllP (by rfl) (by rfl) r9
theorem r11 : C_polysCode OO := c_polysCode (by rfl) (by rfl) r3 r7 r10
theorem r12 : C_trimmed OO := c_trimmed (by rfl)
theorem r13 : C_rowOf OO := c_rowOf (by rfl) r12
theorem r14 : K_rowOf OO := k_rowOf r13
theorem r15 : C_lead OO := c_lead (by rfl)
theorem r16 : C_degree OO := c_degree (by rfl)
theorem r17 : C_within OO := c_within (by rfl)
theorem r18 : K_isModulus OO := k_isModulus (by rfl) r14 r15 r16 r17
theorem r19 : H_modCode0 OO := h_modCode0 (by rfl) r11 r18
theorem r20 : K_numbered OO := k_numbered (by rfl)
theorem r21 : C_inverse OO := c_inverse (by rfl)
theorem r22 : C_reduce OO := c_reduce (by rfl)
theorem r23 : K_divide OO := k_divide (by rfl) rClone r12 r15 r21 r22
theorem r24 : K_rest OO := k_rest (by rfl) r23
theorem r25 : C_norm OO := c_norm (by rfl)
theorem r26 : C_at OO := c_at (by rfl)
theorem r27 : C_combine OO := c_combine (by rfl) r26 r22 r12
theorem r28 : C_scale OO := c_scale (by rfl) r27
theorem r29 : K_scale OO := k_scale r28
theorem r30 : K_withDegree OO := k_withDegree (by rfl) r20 r24 r25 r16 r15 r21 r29
theorem r31 : K_strip OO := k_strip (by rfl) r23
theorem r32 : C_times OO := c_times (by rfl) r12
theorem r33 : K_times OO := k_times r32
theorem r34 : K_power OO := k_power (by rfl) r24 r33
theorem r35 : C_letter OO := c_letter (by rfl)
theorem r36 : K_combine OO := k_combine r27
theorem r37 : K_combine1 OO := k_combine1 r36
theorem r38 : K_bezout OO := k_bezout (by rfl) r23 r33 r37 r15 r21 r29
theorem r39 : K_gcd OO := k_gcd (by rfl) r38
theorem r40 : C_isNaN OO F2 := c_isNaN (by rfl)
theorem r41 : C_compareI OO F0 := c_compareI (by rfl) r40
theorem r42 : C_isNaN OO F3 := c_isNaN64 (by rfl)
theorem r43 : C_compareI OO F1 := c_compareI64 (by rfl) r42
theorem r44 : C_compare OO := c_compare (by rfl) r41 r43
theorem r45 : H_insertion OO := h_insertion (by rfl)
theorem r46 : C_len64 OO F1j := c_len64 (by rfl)
theorem r47 : C_len64 OO F1h := c_len (by rfl) r46
theorem r48 : H_sortFunc OO := h_sortFunc (by rfl) (by rfl) r45 r47
theorem r49 : K_factors OO := k_factors (by rfl) (by rfl) r30 r31 r16 r34 r35 r37 r39 r15 r21 r29 r44 r48
theorem r50 : K_fac OO := k_fac r49
theorem r51 : K_isIrr OO := k_isIrr (by rfl) r15 r16 r50
theorem r52 : K_isOne OO := k_isOne (by rfl)
theorem r53 : K_order OO := k_order (by rfl) r52 r33 r24
theorem r54 : K_primitive OO := k_primitive (by rfl) r16 r25 r20 r53
theorem r55 : C_fits OO := c_fits (by rfl) r16
theorem r56 : C_poly OO := c_poly (by rfl)
theorem r57 : C_told OO := c_told (by rfl) r55 r56
theorem r58 : K_PrimitiveOf OO F4 := k_PrimitiveOf (by rfl) r19 r14 r51 r54 r57
theorem r59 : C_sPrime OO := c_sPrime (by rfl)
theorem r60 : C_sIs OO := c_sIs (by rfl) r59
theorem r61 : C_sCode OO := c_sCode (by rfl) r59 r60
theorem r62 : C_sDeg OO := c_sDeg (by rfl)
theorem r63 : K_sDeg OO := k_sDeg r62
theorem r64 : K_sMonic OO := k_sMonic (by rfl) r63
theorem r65 : C_sIn OO := c_sIn (by rfl)
theorem r66 : C_sModulus OO := c_sModulus (by rfl) r61 r64 r63 r65
theorem r67 : K_sInverse OO := k_sInverse (by rfl)
theorem r68 : K_sDivide OO := k_sDivide (by rfl) r63 r67
theorem r69 : K_sMod OO := k_sMod (by rfl) r68
theorem r70 : K_sOne OO := k_sOne (by rfl)
theorem r71 : K_sUp OO := k_sUp (by rfl) r63 r67
theorem r72 : K_sAdd OO := k_sAdd (by rfl)
theorem r73 : K_sMulMod OO := k_sMulMod (by rfl) r63 r71 r72 r69
theorem r74 : K_sPowMod OO := k_sPowMod (by rfl) r70 r69 r73
theorem r75 : K_sTimes OO := k_sTimes (by rfl) r63
theorem r76 : K_sBezout OO := k_sBezout (by rfl) r70 r63 r68 r75 r72 r67
theorem r77 : K_sGcd OO := k_sGcd (by rfl) r63 r76
theorem r78 : K_sT OO := k_sT (by rfl)
theorem r79 : K_sIrr OO := k_sIrr (by rfl) r63 r69 r74 r77 r72 r78
theorem r80 : K_sCount OO := k_sCount (by rfl)
theorem r81 : K_sOf OO := k_sOf (by rfl)
theorem r82 : K_sSplit OO := k_sSplit (by rfl) r68 r63 r80 r81 r67 r72
theorem r83 : K_sPowG OO := k_sPowG (by rfl)
theorem r84 : K_sEuler OO := k_sEuler (by rfl) r82 r50 r63 r83
theorem r85 : K_sOrder OO := k_sOrder (by rfl) r84 r74 r70
theorem r86 : K_PrimitiveOf OO F25 := k_sPrimitiveOf (by rfl) r66 r79 r63 r80 r81 r85
theorem r87 : L_PrimitiveOf OO := law_PrimitiveOf (by rfl) r1 r2 r58 r86
theorem law : L_PrimitiveOf OO := r87
end Pe
