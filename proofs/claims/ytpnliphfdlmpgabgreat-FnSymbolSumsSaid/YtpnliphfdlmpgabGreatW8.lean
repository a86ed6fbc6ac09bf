/-
  A part of the proof: an evaluator for a small form of the code, its soundness, and contracts of functions over it.
-/
import Derived.Test.YtpnliphfdlmpgabGreatW1
import Derived.Test.YtpnliphfdlmpgabGreatW2
import Derived.Test.YtpnliphfdlmpgabGreatW3
import Derived.Test.YtpnliphfdlmpgabGreatW4
import Derived.Test.YtpnliphfdlmpgabGreatW5
import Derived.Test.YtpnliphfdlmpgabGreatW6
import Derived.Test.YtpnliphfdlmpgabGreatW7

namespace Pe
open Go
noncomputable abbrev OO:Oracle:=den tabF (cloneA cloneIds)
theorem rClone:C_clone OO:=fun l hl=>den_prim (T:=tabF) rfl (cloneA_eq (ids:=cloneIds) rfl rfl (by simp [ints]; omega)|>.trans (by simp [ints]))
theorem r1:C_big OO:=c_big (by rfl)
theorem r2:H_from OO:=h_from (by rfl)
theorem r3:H_next OO F3a:=h_next (by rfl)
theorem r4:H_pick OO:=h_pick (by rfl) r3
theorem r5:H_draw OO:=h_draw (by rfl) r3
theorem r6:K_sT OO:=k_sT (by rfl)
theorem r7:C_sDeg OO:=c_sDeg (by rfl)
theorem r8:K_sDeg OO:=k_sDeg r7
theorem r9:K_sInverse OO:=k_sInverse (by rfl)
theorem r10:K_sDivide OO:=k_sDivide (by rfl) r8 r9
theorem r11:K_sMod OO:=k_sMod (by rfl) r10
theorem r12:K_sOne OO:=k_sOne (by rfl)
theorem r13:K_sUp OO:=k_sUp (by rfl) r8 r9
theorem r14:K_sAdd OO:=k_sAdd (by rfl)
theorem r15:K_sMulMod OO:=k_sMulMod (by rfl) r8 r13 r14 r11
theorem r16:K_sPowMod OO:=k_sPowMod (by rfl) r12 r11 r15
theorem r17:K_sTimes OO:=k_sTimes (by rfl) r8
theorem r18:K_sBezout OO:=k_sBezout (by rfl) r12 r8 r10 r17 r14 r9
theorem r19:K_sGcd OO:=k_sGcd (by rfl) r8 r18
theorem r20:K_sIrr OO:=k_sIrr (by rfl) r8 r11 r16 r19 r14 r6
theorem r21:H_drawMod OO:=h_drawMod (by rfl) r3 r6 r20
theorem r22:H_l08Mod OO:=h_l08Mod (by rfl) r3 r4 r5 r21
theorem r23:H_bad OO:=h_bad (by rfl) r3 r4
theorem r24:H_DrawQuadraticSymbol OO:=h_DrawQuadraticSymbol (by rfl) r2 r22 r5 r23
theorem r25:H_DrawSymbolPolynomial OO:=h_DrawSymbolPolynomial (by rfl) r2 r4 r22
theorem r26:H_near OO:=h_near (by rfl) r3 r4
theorem r27:H_DrawSymbolSum OO:=h_DrawSymbolSum (by rfl) r2 r4 r22 r26
theorem r28:H_DrawShiftedSum OO:=h_DrawShiftedSum (by rfl) r2 r3 r4 r22 r26
theorem r29:C_isPrime OO:=c_isPrime (by rfl)
theorem r30:C_indexOf OO F20 .leaf:=c_indexB (by rfl)
theorem r31:C_anyOf OO F1y .leaf:=c_containsB (by rfl) r30
theorem r32:C_allOf OO Fe .leaf:=c_areAllB (by rfl) (by rfl) r31
theorem r33:C_isPoly OO:=c_isPoly (by rfl) (by rfl) r32
theorem r34:C_indexOf OO F21 (.arr 64 .leaf):=c_indexP (by rfl)
theorem r35:C_anyOf OO F1z (.arr 64 .leaf):=c_containsP (by rfl) r34
theorem r36:C_allOf OO Fg (.arr 64 .leaf):=c_areAllP (by rfl) (by rfl) r35
theorem r37:C_polysCode OO:=c_polysCode (by rfl) (by rfl) r29 r33 r36
theorem r38:C_trimmed OO:=c_trimmed (by rfl)
theorem r39:C_rowOf OO:=c_rowOf (by rfl) r38
theorem r40:K_rowOf OO:=k_rowOf r39
theorem r41:C_lead OO:=c_lead (by rfl)
theorem r42:C_degree OO:=c_degree (by rfl)
theorem r43:C_within OO:=c_within (by rfl)
theorem r44:H_monicCode1 OO:=h_monicCode1 (by rfl) r37 r40 r41 r42 r43
theorem r45:K_numbered OO:=k_numbered (by rfl)
theorem r46:C_inverse OO:=c_inverse (by rfl)
theorem r47:C_reduce OO:=c_reduce (by rfl)
theorem r48:K_divide OO:=k_divide (by rfl) rClone r38 r41 r46 r47
theorem r49:K_rest OO:=k_rest (by rfl) r48
theorem r50:C_norm OO:=c_norm (by rfl)
theorem r51:C_at OO:=c_at (by rfl)
theorem r52:C_combine OO:=c_combine (by rfl) r51 r47 r38
theorem r53:C_scale OO:=c_scale (by rfl) r52
theorem r54:K_scale OO:=k_scale r53
theorem r55:K_withDegree OO:=k_withDegree (by rfl) r45 r49 r50 r42 r41 r46 r54
theorem r56:K_strip OO:=k_strip (by rfl) r48
theorem r57:C_times OO:=c_times (by rfl) r38
theorem r58:K_times OO:=k_times r57
theorem r59:K_power OO:=k_power (by rfl) r49 r58
theorem r60:C_letter OO:=c_letter (by rfl)
theorem r61:K_combine OO:=k_combine r52
theorem r62:K_combine1 OO:=k_combine1 r61
theorem r63:K_bezout OO:=k_bezout (by rfl) r48 r58 r62 r41 r46 r54
theorem r64:K_gcd OO:=k_gcd (by rfl) r63
theorem r65:C_isNaN OO F2:=c_isNaN (by rfl)
theorem r66:C_compareI OO F0:=c_compareI (by rfl) r65
theorem r67:C_isNaN OO F3:=c_isNaN64 (by rfl)
theorem r68:C_compareI OO F1:=c_compareI64 (by rfl) r67
theorem r69:C_compare OO:=c_compare (by rfl) r66 r68
theorem r70:H_insertion OO:=h_insertion (by rfl)
theorem r71:C_len64 OO F1w:=c_len64 (by rfl)
theorem r72:C_len64 OO F1u:=c_len (by rfl) r71
theorem r73:H_sortFunc OO:=h_sortFunc (by rfl) (by rfl) r70 r72
theorem r74:K_factors OO:=k_factors (by rfl) (by rfl) r55 r56 r42 r59 r60 r62 r64 r41 r46 r54 r69 r73
theorem r75:K_fac OO:=k_fac r74
theorem r76:K_symbol OO:=k_symbol (by rfl) r75 r42 r50 r59 r51
theorem r77:K_quad OO:=k_quad (by rfl) r76
theorem r78:K_QuadraticSymbol OO F9:=k_QuadraticSymbol (by rfl) r44 r40 r77
theorem r79:C_sPrime OO:=c_sPrime (by rfl)
theorem r80:C_sIs OO:=c_sIs (by rfl) r79
theorem r81:C_sCode OO:=c_sCode (by rfl) r79 r80
theorem r82:K_sMonic OO:=k_sMonic (by rfl) r8
theorem r83:C_sIn OO:=c_sIn (by rfl)
theorem r84:K_sOdd OO:=k_sOdd (by rfl) r81 r82 r8 r83
theorem r85:K_sCount OO:=k_sCount (by rfl)
theorem r86:K_sOf OO:=k_sOf (by rfl)
theorem r87:K_sSplit OO:=k_sSplit (by rfl) r10 r8 r85 r86 r9 r14
theorem r88:K_sPower OO:=k_sPower (by rfl)
theorem r89:K_sSymbol OO:=k_sSymbol (by rfl) r87 r75 r8 r88 r16
theorem r90:K_sQuad OO:=k_sQuad (by rfl) r89
theorem r91:K_QuadraticSymbol OO F2n:=k_sQuadraticSymbol (by rfl) r81 r84 r90
theorem r92:H_monicCode OO:=h_monicCode (by rfl) r37 r40 r41 r42 r43
theorem r93:C_isSummed OO:=c_isSummed (by rfl) r50
theorem r94:K_monics OO:=k_monics (by rfl) r50 r45
theorem r95:K_SymbolPolynomial OO Fb:=k_SymbolPolynomial (by rfl) r92 r40 r42 r93 r77 r94
theorem r96:K_SymbolPolynomial OO F2p:=k_sSymbolPolynomial (by rfl) r84 r8 r85 r86 r90
theorem r97:K_ClassSum OO F5:=k_ClassSum (by rfl) r95
theorem r98:K_ClassSum OO F2i:=k_sClassSum (by rfl) r96
theorem r99:C_isSumDegree OO:=c_isSumDegree (by rfl) r43 r93
theorem r100:K_SymbolSum OO Fc:=k_SymbolSum (by rfl) r29 r99 r92 r94 r40 r76
theorem r101:C_l08Code OO:=c_l08Code (by rfl) r79 r83 r85
theorem r102:C_l08Monic OO:=c_l08Monic (by rfl) r81 r82 r8 r83 r101
theorem r103:K_SymbolSum OO F2q:=k_sSymbolSum (by rfl) r102 r85 r86 r89
theorem r104:C_isExponent OO:=c_isExponent (by rfl) r43
theorem r105:K_raised OO:=k_raised (by rfl) r58
theorem r106:C_fits OO:=c_fits (by rfl) r42
theorem r107:C_poly OO:=c_poly (by rfl)
theorem r108:C_told OO:=c_told (by rfl) r106 r107
theorem r109:K_ShiftedSum OO Fa:=k_ShiftedSum (by rfl) r104 r29 r99 r92 r94 r40 r42 r58 r61 r105 r108
theorem r110:K_s8Power OO:=k_s8Power (by rfl) r12 r17
theorem r111:K_ShiftedSum OO F2o:=k_sShiftedSum (by rfl) r102 r8 r85 r86 r17 r12 r14 r110
theorem r112:C_likeInts OO:=c_likeInts (by rfl)
theorem r113:C_sumInts OO:=c_sumInts (by rfl)
theorem r114:K_DegreeOf OO:=k_DegreeOf (by rfl) r37 r40 r42
theorem r115:C_degreeCode OO Fj:=c_degreeCode (by rfl) r37 r40 r42 r43
theorem r116:K_isIrr OO:=k_isIrr (by rfl) r41 r42 r75
theorem r117:K_IsIrreducible OO:=k_IsIrreducible (by rfl) r115 r40 r116
theorem r118:K_poly OO:=k_poly r107
theorem r119:K_BezoutOf OO:=k_BezoutOf (by rfl) r37 r40 r63 r118
theorem r120:K_GcdOf OO:=k_GcdOf (by rfl) r119
theorem r121:L_SymbolSums OO:=law_SymbolSums (by rfl) r1 r24 r25 r27 r28 r78 r91 r95 r96 r97 r98 r100 r103 r109 r111 r112 r113 r114 r117 r120 r75
theorem law:L_SymbolSums OO:=r121
end Pe
