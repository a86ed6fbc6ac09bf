/-
  A part of the proof: an evaluator for a small form of the code, its soundness, and contracts of functions over it.
-/
import Derived.Test.YtpnliphfdlmpgadGreatW1
import Derived.Test.YtpnliphfdlmpgadGreatW2
import Derived.Test.YtpnliphfdlmpgadGreatW3
import Derived.Test.YtpnliphfdlmpgadGreatW4
import Derived.Test.YtpnliphfdlmpgadGreatW5
import Derived.Test.YtpnliphfdlmpgadGreatW6
import Derived.Test.YtpnliphfdlmpgadGreatW7
import Derived.Test.YtpnliphfdlmpgadGreatW8

namespace Pe
open Go
noncomputable abbrev OO:Oracle:=den tabF (cloneA cloneIds)
theorem rClone:C_clone OO:=fun l hl=>den_prim (T:=tabF) rfl (cloneA_eq (ids:=cloneIds) rfl rfl (by simp [ints]; omega)|>.trans (by simp [ints]))
theorem r1:C_big OO:=c_big (by rfl)
theorem r2:H_from OO:=h_from (by rfl)
theorem r3:H_next OO F3r:=h_next (by rfl)
theorem r4:H_pick OO:=h_pick (by rfl) r3
theorem r5:K_sPower OO:=k_sPower (by rfl)
theorem r6:K_sOf OO:=k_sOf (by rfl)
theorem r7:C_sDeg OO:=c_sDeg (by rfl)
theorem r8:K_sDeg OO:=k_sDeg r7
theorem r9:K_sInverse OO:=k_sInverse (by rfl)
theorem r10:K_sDivide OO:=k_sDivide (by rfl) r8 r9
theorem r11:K_sMod OO:=k_sMod (by rfl) r10
theorem r12:K_sOne OO:=k_sOne (by rfl)
theorem r13:K_sUp OO:=k_sUp (by rfl) r8 r9
theorem r14:K_sAdd OO:=k_sAdd (by rfl)
theorem r15:K_sMulMod OO:=k_sMulMod (by rfl) r8 r13 r14 r11
theorem r16:K_sPowMod OO:=k_sPowMod (by rfl) r12 r11 r15
theorem r17:K_sTimes OO:=k_sTimes (by rfl) r8
theorem r18:K_sBezout OO:=k_sBezout (by rfl) r12 r8 r10 r17 r14 r9
theorem r19:K_sGcd OO:=k_sGcd (by rfl) r8 r18
theorem r20:K_sT OO:=k_sT (by rfl)
theorem r21:K_sIrr OO:=k_sIrr (by rfl) r8 r11 r16 r19 r14 r20
theorem r22:H_l06DrawMod OO:=h_l06DrawMod (by rfl) r3 r4 r5 r6 r21 r20
theorem r23:K_sCount OO:=k_sCount (by rfl)
theorem r24:H_l06Of OO:=h_l06Of (by rfl) r3 r8 r23 r6
theorem r25:H_l06Draw OO:=h_l06Draw (by rfl) r4 r22 r24
theorem r26:H_l06Bad OO:=h_l06Bad (by rfl) r3 r4
theorem r27:H_l06Spoil OO:=h_l06Spoil (by rfl) r25 r26
theorem r28:H_DrawFrobeniusOf OO:=h_DrawFrobeniusOf (by rfl) r2 r27
theorem r29:C_sPrime OO:=c_sPrime (by rfl)
theorem r30:C_sFine OO:=c_sFine (by rfl) r29
theorem r31:H_draw OO:=h_draw (by rfl) r3
theorem r32:H_DrawTwistOf OO F36:=h_DrawTwistOf (by rfl) r2 r27 r30 r4 r31
theorem r33:H_DrawTwistOf OO F35:=h_DrawNormOf (by rfl) r32
theorem r34:H_DrawAllDrinfeld OO:=h_DrawAllDrinfeld (by rfl) r2 r3 r4 r22 r31
theorem r35:C_trimmed OO:=c_trimmed (by rfl)
theorem r36:C_rowOf OO:=c_rowOf (by rfl) r35
theorem r37:C_isPrime OO:=c_isPrime (by rfl)
theorem r38:C_indexOf OO F2j .leaf:=c_indexB (by rfl)
theorem r39:C_anyOf OO F2h .leaf:=c_containsB (by rfl) r38
theorem r40:C_allOf OO Fq .leaf:=c_areAllB (by rfl) (by rfl) r39
theorem r41:C_isPoly OO:=c_isPoly (by rfl) (by rfl) r40
theorem r42:C_IsPoly OO:=c_IsPoly (by rfl) r37 r41
theorem r43:C_degree OO:=c_degree (by rfl)
theorem r44:C_within OO:=c_within (by rfl)
theorem r45:C_lead OO:=c_lead (by rfl)
theorem r46:K_numbered OO:=k_numbered (by rfl)
theorem r47:C_inverse OO:=c_inverse (by rfl)
theorem r48:C_reduce OO:=c_reduce (by rfl)
theorem r49:K_divide OO:=k_divide (by rfl) rClone r35 r45 r47 r48
theorem r50:K_rest OO:=k_rest (by rfl) r49
theorem r51:C_norm OO:=c_norm (by rfl)
theorem r52:C_at OO:=c_at (by rfl)
theorem r53:C_combine OO:=c_combine (by rfl) r52 r48 r35
theorem r54:C_scale OO:=c_scale (by rfl) r53
theorem r55:K_scale OO:=k_scale r54
theorem r56:K_withDegree OO:=k_withDegree (by rfl) r46 r50 r51 r43 r45 r47 r55
theorem r57:K_strip OO:=k_strip (by rfl) r49
theorem r58:C_times OO:=c_times (by rfl) r35
theorem r59:K_times OO:=k_times r58
theorem r60:K_power OO:=k_power (by rfl) r50 r59
theorem r61:C_letter OO:=c_letter (by rfl)
theorem r62:K_combine OO:=k_combine r53
theorem r63:K_combine1 OO:=k_combine1 r62
theorem r64:K_bezout OO:=k_bezout (by rfl) r49 r59 r63 r45 r47 r55
theorem r65:K_gcd OO:=k_gcd (by rfl) r64
theorem r66:C_isNaN OO F2:=c_isNaN (by rfl)
theorem r67:C_compareI OO F0:=c_compareI (by rfl) r66
theorem r68:C_isNaN OO F3:=c_isNaN64 (by rfl)
theorem r69:C_compareI OO F1:=c_compareI64 (by rfl) r68
theorem r70:C_compare OO:=c_compare (by rfl) r67 r69
theorem r71:H_insertion OO:=h_insertion (by rfl)
theorem r72:C_len64 OO F2f:=c_len64 (by rfl)
theorem r73:C_len64 OO F2d:=c_len (by rfl) r72
theorem r74:H_sortFunc OO:=h_sortFunc (by rfl) (by rfl) r71 r73
theorem r75:K_factors OO:=k_factors (by rfl) (by rfl) r56 r57 r43 r60 r61 r63 r65 r45 r47 r55 r70 r74
theorem r76:K_fac OO:=k_fac r75
theorem r77:K_isIrr OO:=k_isIrr (by rfl) r45 r43 r76
theorem r78:C_isField OO:=c_isField (by rfl) r36 r42 r43 r44 r77
theorem r79:K_rowOf OO:=k_rowOf r36
theorem r80:K_fieldOf OO:=k_fieldOf (by rfl) r79
theorem r81:C_isRes OO:=c_isRes (by rfl) r41 r36 r43
theorem r82:C_IsDr OO Fg:=c_IsDr (by rfl) r78 r80 r81
theorem r83:C_indexOf OO F2k (.arr 64 .leaf):=c_indexP (by rfl)
theorem r84:C_anyOf OO F2i (.arr 64 .leaf):=c_containsP (by rfl) r83
theorem r85:C_allOf OO Fs (.arr 64 .leaf):=c_areAllP (by rfl) (by rfl) r84
theorem r86:C_drCode OO Fv:=c_drCode (by rfl) (by rfl) r82 r41 r85
theorem r87:K_drField OO:=k_drField (by rfl) r80
theorem r88:K_frob OO:=k_frob (by rfl) r60 r43
theorem r89:K_product OO:=k_product (by rfl) r59 r50
theorem r90:K_normOf OO:=k_normOf (by rfl) r43 r52 r88 r89
theorem r91:K_letterAction OO:=k_letterAction (by rfl) r87 r61 r50 r79
theorem r92:K_combine2 OO:=k_combine2 r62
theorem r93:K_sktrim OO:=k_sktrim (by rfl)
theorem r94:K_by OO:=k_by (by rfl) r88 r89 r92 r93
theorem r95:K_by2 OO:=k_by2 r94
theorem r96:K_single OO:=k_single (by rfl)
theorem r97:K_skAt OO:=k_skAt (by rfl)
theorem r98:K_plus OO:=k_plus (by rfl) r97 r62 r93
theorem r99:K_action OO:=k_action (by rfl) r87 r91 r95 r35 r96 r98
theorem r100:K_drFrob OO:=k_drFrob (by rfl) r87 r79 r90 r47 r43 r55 r99 r97
theorem r101:C_poly OO:=c_poly (by rfl)
theorem r102:K_poly OO:=k_poly r101
theorem r103:K_FrobOf OO Ff:=k_FrobOf (by rfl) r86 r100 r102
theorem r104:C_sIs OO:=c_sIs (by rfl) r29
theorem r105:C_sCode OO:=c_sCode (by rfl) r29 r104
theorem r106:K_sMonic OO:=k_sMonic (by rfl) r8
theorem r107:C_sIn OO:=c_sIn (by rfl)
theorem r108:C_IsDr OO F4c:=c_sDr (by rfl) r105 r106 r8 r107 r21
theorem r109:K_sUp6 OO:=k_sUp6 (by rfl) r16
theorem r110:K_sTimes6 OO:=k_sTimes6 (by rfl) r15
theorem r111:K_sNorm OO:=k_sNorm (by rfl) r12 r8 r109 r110
theorem r112:K_sT6 OO:=k_sT6 (by rfl) r20 r11
theorem r113:K_sTrim4 OO:=k_sTrim4 (by rfl)
theorem r114:K_sComp OO:=k_sComp (by rfl) r110 r14 r109 r113
theorem r115:K_sAction OO:=k_sAction (by rfl) r8 r12 r14 r112 r114
theorem r116:K_sFrob6 OO:=k_sFrob6 (by rfl) r8 r111 r9 r14 r115
theorem r117:K_FrobOf OO F37:=k_sFrobOf (by rfl) r108 r116
theorem r118:K_Ssing OO Fi:=k_Ssing (by rfl) r86 r100
theorem r119:K_Ssing OO F38:=k_sSsing (by rfl) r108 r116
theorem r120:C_fits OO:=c_fits (by rfl) r43
theorem r121:C_told OO:=c_told (by rfl) r120 r101
theorem r122:K_OrderP OO Fl:=k_OrderP (by rfl) r86 r87 r100 r62 r45 r47 r55 r121
theorem r123:K_OrderP OO F3a:=k_sOrderP (by rfl) r108 r116 r12 r14 r8 r9
theorem r124:K_NormOf OO Fj:=k_NormOf (by rfl) r86 r87 r81 r79 r90
theorem r125:C_drCode OO F47:=c_sDrCode (by rfl) r108 r105
theorem r126:K_NormOf OO F39:=k_sNormOf (by rfl) r125 r8 r111
theorem r127:C_polysCode OO:=c_polysCode (by rfl) (by rfl) r37 r41 r85
theorem r128:K_all OO Fo:=k_all (by rfl) r80 r43 r51 r46 r102
theorem r129:K_AllDrinfeld OO F5:=k_AllDrinfeld (by rfl) r127 r78 r79 r43 r51 r128
theorem r130:C_sSmall OO:=c_sSmall (by rfl) r105 r106 r8 r107 r23 r21
theorem r131:K_all OO F45:=k_sAll (by rfl) r8 r23 r6
theorem r132:K_AllDrinfeld OO F31:=k_sAllDrinfeld (by rfl) r130 r131
theorem r133:K_NumberOf OO:=k_NumberOf (by rfl) r127 r79
theorem r134:K_CountByTrace OO F6:=k_CountByTrace (by rfl) r129 r79 r43 r51 r100 r102 r133
theorem r135:K_sValue OO:=k_sValue (by rfl) r8
theorem r136:K_CountByTrace OO F32:=k_sCountByTrace (by rfl) r130 r8 r23 r131 r116 r135
theorem r137:C_likeInts OO:=c_likeInts (by rfl)
theorem r138:C_sumInts OO:=c_sumInts (by rfl)
theorem r139:K_DegreeOf OO:=k_DegreeOf (by rfl) r127 r79 r43
theorem r140:K_polys OO:=k_polys (by rfl) r102
theorem r141:K_DrAct OO F8:=k_DrAct (by rfl) r86 r79 r43 r99 r140
theorem r142:K_PlusPolys OO F4 1:=k_AddPolys (by rfl) r127 r79 r62 r121
theorem r143:K_PlusPolys OO Fm (-1):=k_SubtractPolys (by rfl) r127 r79 r62 r121
theorem r144:H_roll OO:=h_roll (by rfl)
theorem r145:H_next OO F28:=h_below (by rfl)
theorem r146:H_poly9 OO:=h_poly9 (by rfl) r145
theorem r147:K_value OO:=k_value (by rfl) r88 r89 r92
theorem r148:K_DrVal OO F9:=k_DrVal (by rfl) r86 r87 r91 r79 r50 r147 r62 r121
theorem r149:L_Frobenius OO:=law_Frobenius (by rfl) r1 r28 r33 r34 r103 r117 r118 r119 r122 r123 r124 r126 r129 r132 r134 r136 r137 r138 r139 r141 r142 r143 r144 r146 r148
theorem law:L_Frobenius OO:=r149
end Pe
