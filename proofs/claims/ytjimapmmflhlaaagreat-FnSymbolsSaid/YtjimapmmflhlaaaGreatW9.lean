/-
  A part of the proof: an evaluator for a small form of the code, its soundness, and contracts of functions over it.
-/
import Derived.Test.YtjimapmmflhlaaaGreatW1
import Derived.Test.YtjimapmmflhlaaaGreatW2
import Derived.Test.YtjimapmmflhlaaaGreatW3
import Derived.Test.YtjimapmmflhlaaaGreatW4
import Derived.Test.YtjimapmmflhlaaaGreatW5
import Derived.Test.YtjimapmmflhlaaaGreatW6
import Derived.Test.YtjimapmmflhlaaaGreatW7
import Derived.Test.YtjimapmmflhlaaaGreatW8

namespace Pe
open Go
noncomputable abbrev OO : Oracle := den tabF (cloneA cloneIds)
theorem rClone : C_clone OO := fun l hl => den_prim (T := tabF) rfl (cloneA_eq (ids := cloneIds) rfl rfl (by simp [ints]; omega)|>.trans (by simp [ints]))
theorem r1 : C_big OO := c_big (by rfl)
theorem r2 : H_from OO := h_from (by rfl)
theorem r3 : H_next OO F2x := h_next (by rfl)
theorem r4 : H_pick OO := h_pick (by rfl) r3
theorem r5 : H_drawPrime OO := h_drawPrime (by rfl) r4
theorem r6 : H_draw OO := h_draw (by rfl) r3
theorem r7 : K_sT OO := k_sT (by rfl)
theorem r8 : C_sDeg OO := c_sDeg (by rfl)
theorem r9 : K_sDeg OO := k_sDeg r8
theorem r10 : K_sInverse OO := k_sInverse (by rfl)
theorem r11 : K_sDivide OO := k_sDivide (by rfl) r9 r10
theorem r12 : K_sMod OO := k_sMod (by rfl) r11
theorem r13 : K_sOne OO := k_sOne (by rfl)
theorem r14 : K_sUp OO := k_sUp (by rfl) r9 r10
theorem r15 : K_sAdd OO := k_sAdd (by rfl)
theorem r16 : K_sMulMod OO := k_sMulMod (by rfl) r9 r14 r15 r12
theorem r17 : K_sPowMod OO := k_sPowMod (by rfl) r13 r12 r16
theorem r18 : K_sTimes OO := k_sTimes (by rfl) r9
theorem r19 : K_sBezout OO := k_sBezout (by rfl) r13 r9 r11 r18 r15 r10
theorem r20 : K_sGcd OO := k_sGcd (by rfl) r9 r19
theorem r21 : K_sIrr OO := k_sIrr (by rfl) r9 r12 r17 r20 r15 r7
theorem r22 : H_drawMod OO := h_drawMod (by rfl) r3 r7 r21
theorem r23 : H_bad OO := h_bad (by rfl) r3 r4
theorem r24 : H_l02Draw OO := h_l02Draw (by rfl) r3 r4 r5 r6 r22 r23
theorem r25 : C_sPrime OO := c_sPrime (by rfl)
theorem r26 : H_DrawSymbolOf OO := h_DrawSymbolOf (by rfl) r2 r24 r3 r25 r22
theorem r27 : C_sFine OO := c_sFine (by rfl) r25
theorem r28 : H_DrawRestForTwo OO := h_DrawRestForTwo (by rfl) r2 r24 r27 r6 r22
theorem r29 : C_isPrime OO := c_isPrime (by rfl)
theorem r30 : C_indexOf OO F1s .leaf := c_indexB (by rfl)
theorem r31 : C_anyOf OO F1q .leaf := c_containsB (by rfl) r30
theorem r32 : C_allOf OO Fb .leaf := c_areAllB (by rfl) (by rfl) r31
theorem r33 : C_isPoly OO := c_isPoly (by rfl) (by rfl) r32
theorem r34 : C_indexOf OO F1t (.arr 64 .leaf) := c_indexP (by rfl)
theorem r35 : C_anyOf OO F1r (.arr 64 .leaf) := c_containsP (by rfl) r34
theorem r36 : C_allOf OO Fe (.arr 64 .leaf) := c_areAllP (by rfl) (by rfl) r35
theorem r37 : C_polysCode OO := c_polysCode (by rfl) (by rfl) r29 r33 r36
theorem r38 : C_trimmed OO := c_trimmed (by rfl)
theorem r39 : C_rowOf OO := c_rowOf (by rfl) r38
theorem r40 : K_rowOf OO := k_rowOf r39
theorem r41 : C_lead OO := c_lead (by rfl)
theorem r42 : C_degree OO := c_degree (by rfl)
theorem r43 : C_within OO := c_within (by rfl)
theorem r44 : K_numbered OO := k_numbered (by rfl)
theorem r45 : C_inverse OO := c_inverse (by rfl)
theorem r46 : C_reduce OO := c_reduce (by rfl)
theorem r47 : K_divide OO := k_divide (by rfl) rClone r38 r41 r45 r46
theorem r48 : K_rest OO := k_rest (by rfl) r47
theorem r49 : C_norm OO := c_norm (by rfl)
theorem r50 : C_at OO := c_at (by rfl)
theorem r51 : C_combine OO := c_combine (by rfl) r50 r46 r38
theorem r52 : C_scale OO := c_scale (by rfl) r51
theorem r53 : K_scale OO := k_scale r52
theorem r54 : K_withDegree OO := k_withDegree (by rfl) r44 r48 r49 r42 r41 r45 r53
theorem r55 : K_strip OO := k_strip (by rfl) r47
theorem r56 : C_times OO := c_times (by rfl) r38
theorem r57 : K_times OO := k_times r56
theorem r58 : K_power OO := k_power (by rfl) r48 r57
theorem r59 : C_letter OO := c_letter (by rfl)
theorem r60 : K_combine OO := k_combine r51
theorem r61 : K_combine1 OO := k_combine1 r60
theorem r62 : K_bezout OO := k_bezout (by rfl) r47 r57 r61 r41 r45 r53
theorem r63 : K_gcd OO := k_gcd (by rfl) r62
theorem r64 : C_isNaN OO F2 := c_isNaN (by rfl)
theorem r65 : C_compareI OO F0 := c_compareI (by rfl) r64
theorem r66 : C_isNaN OO F3 := c_isNaN64 (by rfl)
theorem r67 : C_compareI OO F1 := c_compareI64 (by rfl) r66
theorem r68 : C_compare OO := c_compare (by rfl) r65 r67
theorem r69 : H_insertion OO := h_insertion (by rfl)
theorem r70 : C_len64 OO F1o := c_len64 (by rfl)
theorem r71 : C_len64 OO F1m := c_len (by rfl) r70
theorem r72 : H_sortFunc OO := h_sortFunc (by rfl) (by rfl) r69 r71
theorem r73 : K_factors OO := k_factors (by rfl) (by rfl) r54 r55 r42 r58 r59 r61 r63 r41 r45 r53 r68 r72
theorem r74 : K_fac OO := k_fac r73
theorem r75 : K_symbol OO := k_symbol (by rfl) r74 r42 r49 r58 r50
theorem r76 : K_SymbolOf OO Fa := k_SymbolOf (by rfl) r37 r40 r41 r42 r43 r75
theorem r77 : C_sIs OO := c_sIs (by rfl) r25
theorem r78 : C_sCode OO := c_sCode (by rfl) r25 r77
theorem r79 : K_sMonic OO := k_sMonic (by rfl) r9
theorem r80 : C_sIn OO := c_sIn (by rfl)
theorem r81 : K_sCount OO := k_sCount (by rfl)
theorem r82 : K_sOf OO := k_sOf (by rfl)
theorem r83 : K_sSplit OO := k_sSplit (by rfl) r11 r9 r81 r82 r10 r15
theorem r84 : K_sPower OO := k_sPower (by rfl)
theorem r85 : K_sSymbol OO := k_sSymbol (by rfl) r83 r74 r9 r84 r17
theorem r86 : K_SymbolOf OO F2d := k_sSymbolOf (by rfl) r78 r79 r9 r80 r85
theorem r87 : K_isModulus OO := k_isModulus (by rfl) r40 r41 r42 r43
theorem r88 : K_isOne OO := k_isOne (by rfl)
theorem r89 : K_combine2 OO := k_combine2 r60
theorem r90 : C_fits OO := c_fits (by rfl) r42
theorem r91 : C_poly OO := c_poly (by rfl)
theorem r92 : C_told OO := c_told (by rfl) r90 r91
theorem r93 : K_RestForTwo OO F9 := k_RestForTwo (by rfl) r37 r87 r40 r62 r88 r57 r89 r48 r92
theorem r94 : C_sModulus OO := c_sModulus (by rfl) r78 r79 r9 r80
theorem r95 : K_sGcd2 OO := k_sGcd2 (by rfl) r9 r19
theorem r96 : K_sInvU OO := k_sInvU (by rfl) r12 r19
theorem r97 : K_RestForTwo OO F2c := k_sRestForTwo (by rfl) r94 r95 r13 r12 r96 r15 r16 r18
theorem r98 : K_poly OO := k_poly r91
theorem r99 : K_DividePolys OO := k_DividePolys (by rfl) r37 r40 r47 r98
theorem r100 : H_roll OO := h_roll (by rfl)
theorem r101 : H_next OO F1j := h_below (by rfl)
theorem r102 : H_poly9 OO := h_poly9 (by rfl) r101
theorem r103 : K_MultiplyPolys OO := k_MultiplyPolys (by rfl) r37 r40 r57 r92
theorem r104 : K_DegreeOf OO := k_DegreeOf (by rfl) r37 r40 r42
theorem r105 : K_BezoutOf OO := k_BezoutOf (by rfl) r37 r40 r62 r98
theorem r106 : K_GcdOf OO := k_GcdOf (by rfl) r105
theorem r107 : L_Symbols OO := law_Symbols (by rfl) r1 r26 r28 r76 r86 r93 r97 r99 r100 r102 r101 r103 r104 r106 r74
theorem law : L_Symbols OO := r107
end Pe
