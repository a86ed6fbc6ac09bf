/-
  A part of the proof: an evaluator for a small form of the code, its soundness, and contracts of functions over it.
-/
import Derived.Test.YtfcpjhlcflajpaaGreatW1
import Derived.Test.YtfcpjhlcflajpaaGreatW2
import Derived.Test.YtfcpjhlcflajpaaGreatW3
import Derived.Test.YtfcpjhlcflajpaaGreatW4
import Derived.Test.YtfcpjhlcflajpaaGreatW5
import Derived.Test.YtfcpjhlcflajpaaGreatW6
import Derived.Test.YtfcpjhlcflajpaaGreatW7

namespace Pe
open Go
noncomputable abbrev OO : Oracle := den tabF (cloneA cloneIds)
theorem rClone : C_clone OO := fun l hl => den_prim (T := tabF) rfl (cloneA_eq (ids := cloneIds) rfl rfl (by simp [ints]; omega)|>.trans (by simp [ints]))
theorem r1 : C_big OO := c_big (by rfl)
theorem r2 : H_from OO := h_from (by rfl)
theorem r3 : H_next OO F35 := h_next (by rfl)
theorem r4 : H_pick OO := h_pick (by rfl) r3
theorem r5 : H_drawPrime OO := h_drawPrime (by rfl) r4
theorem r6 : H_draw OO := h_draw (by rfl) r3
theorem r7 : K_sT OO := k_sT (by rfl)
theorem r8 : C_sDeg OO := c_sDeg (by rfl)
theorem r9 : K_sDeg OO := k_sDeg r8
theorem r10 : K_sInverse OO := k_sInverse (by rfl)
theorem r11 : K_sDivide OO := k_sDivide (by rfl) r9 r10
theorem r12 : K_sMod OO := k_sMod (by rfl) r11
theorem r13 : K_sOne OO := k_sOne (by rfl)
theorem r14 : K_sUp OO := k_sUp (by rfl) r9 r10
theorem r15 : K_sAdd OO := k_sAdd (by rfl)
theorem r16 : K_sMulMod OO := k_sMulMod (by rfl) r9 r14 r15 r12
theorem r17 : K_sPowMod OO := k_sPowMod (by rfl) r13 r12 r16
theorem r18 : K_sTimes OO := k_sTimes (by rfl) r9
theorem r19 : K_sBezout OO := k_sBezout (by rfl) r13 r9 r11 r18 r15 r10
theorem r20 : K_sGcd OO := k_sGcd (by rfl) r9 r19
theorem r21 : K_sIrr OO := k_sIrr (by rfl) r9 r12 r17 r20 r15 r7
theorem r22 : H_drawMod OO := h_drawMod (by rfl) r3 r7 r21
theorem r23 : H_bad OO := h_bad (by rfl) r3 r4
theorem r24 : H_l02Draw OO := h_l02Draw (by rfl) r3 r4 r5 r6 r22 r23
theorem r25 : H_DrawInverseModulo OO := h_DrawInverseModulo (by rfl) r2 r24
theorem r26 : H_DrawPrimitiveOf OO := h_DrawPrimitiveOf (by rfl) r2 r24
theorem r27 : C_sPrime OO := c_sPrime (by rfl)
theorem r28 : C_sFine OO := c_sFine (by rfl) r27
theorem r29 : C_sIs OO := c_sIs (by rfl) r27
theorem r30 : C_sCode OO := c_sCode (by rfl) r27 r29
theorem r31 : K_sMonic OO := k_sMonic (by rfl) r9
theorem r32 : C_sIn OO := c_sIn (by rfl)
theorem r33 : C_sModulus OO := c_sModulus (by rfl) r30 r31 r9 r32
theorem r34 : K_sCount OO := k_sCount (by rfl)
theorem r35 : K_sOf OO := k_sOf (by rfl)
theorem r36 : K_sSplit OO := k_sSplit (by rfl) r11 r9 r34 r35 r10 r15
theorem r37 : K_numbered OO := k_numbered (by rfl)
theorem r38 : C_trimmed OO := c_trimmed (by rfl)
theorem r39 : C_lead OO := c_lead (by rfl)
theorem r40 : C_inverse OO := c_inverse (by rfl)
theorem r41 : C_reduce OO := c_reduce (by rfl)
theorem r42 : K_divide OO := k_divide (by rfl) rClone r38 r39 r40 r41
theorem r43 : K_rest OO := k_rest (by rfl) r42
theorem r44 : C_norm OO := c_norm (by rfl)
theorem r45 : C_degree OO := c_degree (by rfl)
theorem r46 : C_at OO := c_at (by rfl)
theorem r47 : C_combine OO := c_combine (by rfl) r46 r41 r38
theorem r48 : C_scale OO := c_scale (by rfl) r47
theorem r49 : K_scale OO := k_scale r48
theorem r50 : K_withDegree OO := k_withDegree (by rfl) r37 r43 r44 r45 r39 r40 r49
theorem r51 : K_strip OO := k_strip (by rfl) r42
theorem r52 : C_times OO := c_times (by rfl) r38
theorem r53 : K_times OO := k_times r52
theorem r54 : K_power OO := k_power (by rfl) r43 r53
theorem r55 : C_letter OO := c_letter (by rfl)
theorem r56 : K_combine OO := k_combine r47
theorem r57 : K_combine1 OO := k_combine1 r56
theorem r58 : K_bezout OO := k_bezout (by rfl) r42 r53 r57 r39 r40 r49
theorem r59 : K_gcd OO := k_gcd (by rfl) r58
theorem r60 : C_isNaN OO F2 := c_isNaN (by rfl)
theorem r61 : C_compareI OO F0 := c_compareI (by rfl) r60
theorem r62 : C_isNaN OO F3 := c_isNaN64 (by rfl)
theorem r63 : C_compareI OO F1 := c_compareI64 (by rfl) r62
theorem r64 : C_compare OO := c_compare (by rfl) r61 r63
theorem r65 : H_insertion OO := h_insertion (by rfl)
theorem r66 : C_len64 OO F1q := c_len64 (by rfl)
theorem r67 : C_len64 OO F1o := c_len (by rfl) r66
theorem r68 : H_sortFunc OO := h_sortFunc (by rfl) (by rfl) r65 r67
theorem r69 : K_factors OO := k_factors (by rfl) (by rfl) r50 r51 r45 r54 r55 r57 r59 r39 r40 r49 r64 r68
theorem r70 : K_fac OO := k_fac r69
theorem r71 : K_sPowG OO := k_sPowG (by rfl)
theorem r72 : K_sEuler OO := k_sEuler (by rfl) r36 r70 r9 r71
theorem r73 : K_sOrder OO := k_sOrder (by rfl) r72 r17 r13
theorem r74 : K_PrimitiveOf OO F2l := k_sPrimitiveOf (by rfl) r33 r21 r9 r34 r35 r73
theorem r75 : H_DrawLogarithmOf OO := h_DrawLogarithmOf (by rfl) r2 r3 r24 r28 r6 r74
theorem r76 : H_split1 OO := h_split1 (by rfl) r2 r3 r4 r5 r6 r22 r23 r18 r9
theorem r77 : H_DrawEulerOf OO := h_DrawEulerOf (by rfl) r76
theorem r78 : C_isPrime OO := c_isPrime (by rfl)
theorem r79 : C_indexOf OO F1v .leaf := c_indexB (by rfl)
theorem r80 : C_anyOf OO F1s .leaf := c_containsB (by rfl) r79
theorem r81 : C_allOf OO Fb .leaf := c_areAllB (by rfl) (by rfl) r80
theorem r82 : C_isPoly OO := c_isPoly (by rfl) (by rfl) r81
theorem r83 : C_indexOf OO F1w (.arr 64 .leaf) := c_indexP (by rfl)
theorem r84 : C_anyOf OO F1t (.arr 64 .leaf) := c_containsP (by rfl) r83
theorem r85 : C_allOf OO Fe (.arr 64 .leaf) := c_areAllP (by rfl) (by rfl) r84
theorem r86 : C_polysCode OO := c_polysCode (by rfl) (by rfl) r78 r82 r85
theorem r87 : C_rowOf OO := c_rowOf (by rfl) r38
theorem r88 : K_rowOf OO := k_rowOf r87
theorem r89 : C_within OO := c_within (by rfl)
theorem r90 : K_isModulus OO := k_isModulus (by rfl) r88 r39 r45 r89
theorem r91 : H_modCode OO := h_modCode (by rfl) r86 r90
theorem r92 : K_isOne OO := k_isOne (by rfl)
theorem r93 : C_fits OO := c_fits (by rfl) r45
theorem r94 : C_poly OO := c_poly (by rfl)
theorem r95 : C_told OO := c_told (by rfl) r93 r94
theorem r96 : K_InverseModulo OO F6 := k_InverseModulo (by rfl) r91 r88 r58 r92 r43 r95
theorem r97 : K_sGcd2 OO := k_sGcd2 (by rfl) r9 r19
theorem r98 : K_sUnit OO := k_sUnit (by rfl) r97 r13
theorem r99 : K_sInvU OO := k_sInvU (by rfl) r12 r19
theorem r100 : K_InverseModulo OO F2i := k_sInverseModulo (by rfl) r33 r98 r99
theorem r101 : K_order OO := k_order (by rfl) r92 r53 r43
theorem r102 : K_OrderModulo OO F8 := k_OrderModulo (by rfl) r91 r88 r59 r92 r70 r101
theorem r103 : K_OrderModulo OO F2k := k_sOrderModulo (by rfl) r33 r98 r70 r73
theorem r104 : H_modCode0 OO := h_modCode0 (by rfl) r86 r90
theorem r105 : K_isIrr OO := k_isIrr (by rfl) r39 r45 r70
theorem r106 : K_primitive OO := k_primitive (by rfl) r45 r44 r37 r101
theorem r107 : K_PrimitiveOf OO Fa := k_PrimitiveOf (by rfl) r104 r88 r105 r106 r95
theorem r108 : C_Equal OO := c_Equal (by rfl)
theorem r109 : K_LogarithmOf OO F7 := k_LogarithmOf (by rfl) r91 r88 r43 r45 r44 r108 r53
theorem r110 : K_LogarithmOf OO F2j := k_sLogarithmOf (by rfl) r33 r12 r13 r9 r34 r16
theorem r111 : C_degreeCode OO Fh := c_degreeCode (by rfl) r86 r88 r45 r89
theorem r112 : K_EulerOf OO F5 := k_EulerOf (by rfl) r111 r88 r70 r45 r44
theorem r113 : C_degreeCode OO F3e := c_sDegree (by rfl) r30 r9 r32
theorem r114 : K_EulerOf OO F2h := k_sEulerOf (by rfl) r113 r72
theorem r115 : C_isNumber OO := c_isNumber (by rfl) r89
theorem r116 : K_PowerModulo OO := k_PowerModulo (by rfl) r86 r115 r88 r54 r95
theorem r117 : K_poly OO := k_poly r94
theorem r118 : K_DividePolys OO := k_DividePolys (by rfl) r86 r88 r42 r117
theorem r119 : L_Residues OO := law_Residues (by rfl) r1 r25 r26 r75 r77 r96 r100 r102 r103 r107 r74 r109 r110 r112 r114 r116 r118 r70
theorem law : L_Residues OO := r119
end Pe
