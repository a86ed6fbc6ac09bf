/-
  A part of the proof: an evaluator for a small form of the code, its soundness, and contracts of functions over it.
-/
import Derived.Test.YtmbifmkpdbiadaaGreatW1
import Derived.Test.YtmbifmkpdbiadaaGreatW2
import Derived.Test.YtmbifmkpdbiadaaGreatW3
import Derived.Test.YtmbifmkpdbiadaaGreatW4
import Derived.Test.YtmbifmkpdbiadaaGreatW5
import Derived.Test.YtmbifmkpdbiadaaGreatW6
import Derived.Test.YtmbifmkpdbiadaaGreatW7
import Derived.Test.YtmbifmkpdbiadaaGreatW8

namespace Pe
open Go
noncomputable abbrev OO : Oracle := den tabF (cloneA cloneIds)
theorem rClone : C_clone OO := fun l hl => den_prim (T := tabF) rfl (cloneA_eq (ids := cloneIds) rfl rfl (by simp [ints]; omega)|>.trans (by simp [ints]))
theorem r1 : C_toPoly OO := c_toPoly (by rfl)
theorem r2 : C_isPrime OO := c_isPrime (by rfl)
theorem r3 : C_indexOf OO F23 .leaf := c_indexB (by rfl)
theorem r4 : C_anyOf OO F21 .leaf := c_containsB (by rfl) r3
theorem r5 : C_allOf OO Fh .leaf := c_areAllB (by rfl) (by rfl) r4
theorem r6 : C_isPoly OO := c_isPoly (by rfl) (by rfl) r5
theorem r7 : C_indexOf OO F24 (.arr 64 .leaf) := c_indexP (by rfl)
theorem r8 : C_anyOf OO F22 (.arr 64 .leaf) := c_containsP (by rfl) r7
theorem r9 : C_allOf OO Fj (.arr 64 .leaf) := c_areAllP (by rfl) (by rfl) r8
theorem r10 : C_polysCode OO := c_polysCode (by rfl) (by rfl) r2 r6 r9
theorem r11 : C_trimmed OO := c_trimmed (by rfl)
theorem r12 : C_rowOf OO := c_rowOf (by rfl) r11
theorem r13 : C_IsPoly OO := c_IsPoly (by rfl) r2 r6
theorem r14 : C_degree OO := c_degree (by rfl)
theorem r15 : C_within OO := c_within (by rfl)
theorem r16 : C_lead OO := c_lead (by rfl)
theorem r17 : K_numbered OO := k_numbered (by rfl)
theorem r18 : C_inverse OO := c_inverse (by rfl)
theorem r19 : C_reduce OO := c_reduce (by rfl)
theorem r20 : K_divide OO := k_divide (by rfl) rClone r11 r16 r18 r19
theorem r21 : K_rest OO := k_rest (by rfl) r20
theorem r22 : C_norm OO := c_norm (by rfl)
theorem r23 : C_at OO := c_at (by rfl)
theorem r24 : C_combine OO := c_combine (by rfl) r23 r19 r11
theorem r25 : C_scale OO := c_scale (by rfl) r24
theorem r26 : K_scale OO := k_scale r25
theorem r27 : K_withDegree OO := k_withDegree (by rfl) r17 r21 r22 r14 r16 r18 r26
theorem r28 : K_strip OO := k_strip (by rfl) r20
theorem r29 : C_times OO := c_times (by rfl) r11
theorem r30 : K_times OO := k_times r29
theorem r31 : K_power OO := k_power (by rfl) r21 r30
theorem r32 : C_letter OO := c_letter (by rfl)
theorem r33 : K_combine OO := k_combine r24
theorem r34 : K_combine1 OO := k_combine1 r33
theorem r35 : K_bezout OO := k_bezout (by rfl) r20 r30 r34 r16 r18 r26
theorem r36 : K_gcd OO := k_gcd (by rfl) r35
theorem r37 : C_isNaN OO F2 := c_isNaN (by rfl)
theorem r38 : C_compareI OO F0 := c_compareI (by rfl) r37
theorem r39 : C_isNaN OO F3 := c_isNaN64 (by rfl)
theorem r40 : C_compareI OO F1 := c_compareI64 (by rfl) r39
theorem r41 : C_compare OO := c_compare (by rfl) r38 r40
theorem r42 : H_insertion OO := h_insertion (by rfl)
theorem r43 : C_len64 OO F1z := c_len64 (by rfl)
theorem r44 : C_len64 OO F1x := c_len (by rfl) r43
theorem r45 : H_sortFunc OO := h_sortFunc (by rfl) (by rfl) r42 r44
theorem r46 : K_factors OO := k_factors (by rfl) (by rfl) r27 r28 r14 r31 r32 r34 r36 r16 r18 r26 r41 r45
theorem r47 : K_fac OO := k_fac r46
theorem r48 : K_isIrr OO := k_isIrr (by rfl) r16 r14 r47
theorem r49 : C_isField OO := c_isField (by rfl) r12 r13 r14 r15 r48
theorem r50 : K_rowOf OO := k_rowOf r12
theorem r51 : K_fieldOf OO := k_fieldOf (by rfl) r50
theorem r52 : C_poly OO := c_poly (by rfl)
theorem r53 : K_poly OO := k_poly r52
theorem r54 : K_all OO Ff := k_all (by rfl) r51 r14 r22 r17 r53
theorem r55 : K_AllDrinfeld OO F4 := k_AllDrinfeld (by rfl) r10 r49 r50 r14 r22 r54
theorem r56 : K_drField OO := k_drField (by rfl) r51
theorem r57 : K_frob OO := k_frob (by rfl) r31 r14
theorem r58 : K_product OO := k_product (by rfl) r30 r21
theorem r59 : K_normOf OO := k_normOf (by rfl) r14 r23 r57 r58
theorem r60 : K_letterAction OO := k_letterAction (by rfl) r56 r32 r21 r50
theorem r61 : K_combine2 OO := k_combine2 r33
theorem r62 : K_sktrim OO := k_sktrim (by rfl)
theorem r63 : K_by OO := k_by (by rfl) r57 r58 r61 r62
theorem r64 : K_by2 OO := k_by2 r63
theorem r65 : K_single OO := k_single (by rfl)
theorem r66 : K_skAt OO := k_skAt (by rfl)
theorem r67 : K_plus OO := k_plus (by rfl) r66 r33 r62
theorem r68 : K_action OO := k_action (by rfl) r56 r60 r64 r11 r65 r67
theorem r69 : K_drFrob OO := k_drFrob (by rfl) r56 r50 r59 r18 r14 r26 r68 r66
theorem r70 : K_NumberOf OO := k_NumberOf (by rfl) r10 r50
theorem r71 : K_CountByTrace OO F6 := k_CountByTrace (by rfl) r55 r50 r14 r22 r69 r53 r70
theorem r72 : H_all OO := h_all (by rfl) r51 r14 r22 r17 r53
theorem r73 : H_AllDrinfeld OO := h_AllDrinfeld (by rfl) r10 r49 r50 r14 r22 r72
theorem r74 : H_CountByTrace OO := h_CountByTrace (by rfl) r73 r50 r14 r22 r69 r53 r70
theorem r75 : C_sPrime OO := c_sPrime (by rfl)
theorem r76 : C_sIs OO := c_sIs (by rfl) r75
theorem r77 : C_sCode OO := c_sCode (by rfl) r75 r76
theorem r78 : C_sDeg OO := c_sDeg (by rfl)
theorem r79 : K_sDeg OO := k_sDeg r78
theorem r80 : K_sMonic OO := k_sMonic (by rfl) r79
theorem r81 : C_sIn OO := c_sIn (by rfl)
theorem r82 : K_sCount OO := k_sCount (by rfl)
theorem r83 : K_sInverse OO := k_sInverse (by rfl)
theorem r84 : K_sDivide OO := k_sDivide (by rfl) r79 r83
theorem r85 : K_sMod OO := k_sMod (by rfl) r84
theorem r86 : K_sOne OO := k_sOne (by rfl)
theorem r87 : K_sUp OO := k_sUp (by rfl) r79 r83
theorem r88 : K_sAdd OO := k_sAdd (by rfl)
theorem r89 : K_sMulMod OO := k_sMulMod (by rfl) r79 r87 r88 r85
theorem r90 : K_sPowMod OO := k_sPowMod (by rfl) r86 r85 r89
theorem r91 : K_sTimes OO := k_sTimes (by rfl) r79
theorem r92 : K_sBezout OO := k_sBezout (by rfl) r86 r79 r84 r91 r88 r83
theorem r93 : K_sGcd OO := k_sGcd (by rfl) r79 r92
theorem r94 : K_sT OO := k_sT (by rfl)
theorem r95 : K_sIrr OO := k_sIrr (by rfl) r79 r85 r90 r93 r88 r94
theorem r96 : C_sSmall OO := c_sSmall (by rfl) r77 r80 r79 r81 r82 r95
theorem r97 : K_sOf OO := k_sOf (by rfl)
theorem r98 : K_all OO F3a := k_sAll (by rfl) r79 r82 r97
theorem r99 : K_sUp6 OO := k_sUp6 (by rfl) r90
theorem r100 : K_sTimes6 OO := k_sTimes6 (by rfl) r89
theorem r101 : K_sNorm OO := k_sNorm (by rfl) r86 r79 r99 r100
theorem r102 : K_sT6 OO := k_sT6 (by rfl) r94 r85
theorem r103 : K_sTrim4 OO := k_sTrim4 (by rfl)
theorem r104 : K_sComp OO := k_sComp (by rfl) r100 r88 r99 r103
theorem r105 : K_sAction OO := k_sAction (by rfl) r79 r86 r88 r102 r104
theorem r106 : K_sFrob6 OO := k_sFrob6 (by rfl) r79 r101 r83 r88 r105
theorem r107 : K_sValue OO := k_sValue (by rfl) r79
theorem r108 : K_CountByTrace OO F2l := k_sCountByTrace (by rfl) r96 r79 r82 r98 r106 r107
theorem r109 : C_eqI OO := c_eqI (by rfl)
theorem r110 : H_markI OO := h_markI (by rfl)
theorem r111 : C_heldI OO := c_heldI (by rfl)
theorem r112 : L_CountByTrace OO := law_CountByTrace (by rfl) r1 r71 r74 r108 r109 r110 r111
theorem law : L_CountByTrace OO := r112
end Pe
