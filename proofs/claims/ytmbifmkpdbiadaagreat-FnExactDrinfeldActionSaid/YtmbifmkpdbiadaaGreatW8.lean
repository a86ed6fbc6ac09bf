/-
  A part of the proof: an evaluator for a small form of the code, its soundness, and contracts of functions over it.
-/
import Derived.Test.YtmbifmkpdbiadaaGreatW1
import Derived.Test.YtmbifmkpdbiadaaGreatW2
import Derived.Test.YtmbifmkpdbiadaaGreatW3
import Derived.Test.YtmbifmkpdbiadaaGreatW4
import Derived.Test.YtmbifmkpdbiadaaGreatW5
import Derived.Test.YtmbifmkpdbiadaaGreatW6
import Derived.Test.YtmbifmkpdbiadaaGreatW7

namespace Pe
open Go
noncomputable abbrev OO : Oracle := den tabF (cloneA cloneIds)
theorem rClone : C_clone OO := fun l hl => den_prim (T := tabF) rfl (cloneA_eq (ids := cloneIds) rfl rfl (by simp [ints]; omega)|>.trans (by simp [ints]))
theorem r1 : C_toPoly OO := c_toPoly (by rfl)
theorem r2 : C_toDr OO := c_toDr (by rfl) r1
theorem r3 : C_eqPoly OO := c_eqPoly (by rfl)
theorem r4 : C_eqPs OO := c_eqPs (by rfl) r3
theorem r5 : H_markPs OO := h_markPs (by rfl)
theorem r6 : C_heldPs OO := c_heldPs (by rfl)
theorem r7 : C_trimmed OO := c_trimmed (by rfl)
theorem r8 : C_rowOf OO := c_rowOf (by rfl) r7
theorem r9 : C_isPrime OO := c_isPrime (by rfl)
theorem r10 : C_indexOf OO F22 .leaf := c_indexB (by rfl)
theorem r11 : C_anyOf OO F20 .leaf := c_containsB (by rfl) r10
theorem r12 : C_allOf OO Fb .leaf := c_areAllB (by rfl) (by rfl) r11
theorem r13 : C_isPoly OO := c_isPoly (by rfl) (by rfl) r12
theorem r14 : C_IsPoly OO := c_IsPoly (by rfl) r9 r13
theorem r15 : C_degree OO := c_degree (by rfl)
theorem r16 : C_within OO := c_within (by rfl)
theorem r17 : C_lead OO := c_lead (by rfl)
theorem r18 : K_numbered OO := k_numbered (by rfl)
theorem r19 : C_inverse OO := c_inverse (by rfl)
theorem r20 : C_reduce OO := c_reduce (by rfl)
theorem r21 : K_divide OO := k_divide (by rfl) rClone r7 r17 r19 r20
theorem r22 : K_rest OO := k_rest (by rfl) r21
theorem r23 : C_norm OO := c_norm (by rfl)
theorem r24 : C_at OO := c_at (by rfl)
theorem r25 : C_combine OO := c_combine (by rfl) r24 r20 r7
theorem r26 : C_scale OO := c_scale (by rfl) r25
theorem r27 : K_scale OO := k_scale r26
theorem r28 : K_withDegree OO := k_withDegree (by rfl) r18 r22 r23 r15 r17 r19 r27
theorem r29 : K_strip OO := k_strip (by rfl) r21
theorem r30 : C_times OO := c_times (by rfl) r7
theorem r31 : K_times OO := k_times r30
theorem r32 : K_power OO := k_power (by rfl) r22 r31
theorem r33 : C_letter OO := c_letter (by rfl)
theorem r34 : K_combine OO := k_combine r25
theorem r35 : K_combine1 OO := k_combine1 r34
theorem r36 : K_bezout OO := k_bezout (by rfl) r21 r31 r35 r17 r19 r27
theorem r37 : K_gcd OO := k_gcd (by rfl) r36
theorem r38 : C_isNaN OO F2 := c_isNaN (by rfl)
theorem r39 : C_compareI OO F0 := c_compareI (by rfl) r38
theorem r40 : C_isNaN OO F3 := c_isNaN64 (by rfl)
theorem r41 : C_compareI OO F1 := c_compareI64 (by rfl) r40
theorem r42 : C_compare OO := c_compare (by rfl) r39 r41
theorem r43 : H_insertion OO := h_insertion (by rfl)
theorem r44 : C_len64 OO F1y := c_len64 (by rfl)
theorem r45 : C_len64 OO F1w := c_len (by rfl) r44
theorem r46 : H_sortFunc OO := h_sortFunc (by rfl) (by rfl) r43 r45
theorem r47 : K_factors OO := k_factors (by rfl) (by rfl) r28 r29 r15 r32 r33 r35 r37 r17 r19 r27 r42 r46
theorem r48 : K_fac OO := k_fac r47
theorem r49 : K_isIrr OO := k_isIrr (by rfl) r17 r15 r48
theorem r50 : C_isField OO := c_isField (by rfl) r8 r14 r15 r16 r49
theorem r51 : K_rowOf OO := k_rowOf r8
theorem r52 : K_fieldOf OO := k_fieldOf (by rfl) r51
theorem r53 : C_isRes OO := c_isRes (by rfl) r13 r8 r15
theorem r54 : C_IsDr OO F9 := c_IsDr (by rfl) r50 r52 r53
theorem r55 : C_indexOf OO F23 (.arr 64 .leaf) := c_indexP (by rfl)
theorem r56 : C_anyOf OO F21 (.arr 64 .leaf) := c_containsP (by rfl) r55
theorem r57 : C_allOf OO Fe (.arr 64 .leaf) := c_areAllP (by rfl) (by rfl) r56
theorem r58 : C_drCode OO Fh := c_drCode (by rfl) (by rfl) r54 r13 r57
theorem r59 : K_drField OO := k_drField (by rfl) r52
theorem r60 : K_letterAction OO := k_letterAction (by rfl) r59 r33 r22 r51
theorem r61 : K_frob OO := k_frob (by rfl) r32 r15
theorem r62 : K_product OO := k_product (by rfl) r31 r22
theorem r63 : K_combine2 OO := k_combine2 r34
theorem r64 : K_sktrim OO := k_sktrim (by rfl)
theorem r65 : K_by OO := k_by (by rfl) r61 r62 r63 r64
theorem r66 : K_by2 OO := k_by2 r65
theorem r67 : K_single OO := k_single (by rfl)
theorem r68 : K_skAt OO := k_skAt (by rfl)
theorem r69 : K_plus OO := k_plus (by rfl) r68 r34 r64
theorem r70 : K_action OO := k_action (by rfl) r59 r60 r66 r7 r67 r69
theorem r71 : C_poly OO := c_poly (by rfl)
theorem r72 : K_poly OO := k_poly r71
theorem r73 : K_polys OO := k_polys (by rfl) r72
theorem r74 : K_DrAct OO F4 := k_DrAct (by rfl) r58 r51 r15 r70 r73
theorem r75 : H_polys OO := h_polys (by rfl) r72
theorem r76 : H_DrAct OO := h_DrAct (by rfl) r58 r51 r15 r70 r75
theorem r77 : C_sPrime OO := c_sPrime (by rfl)
theorem r78 : C_sIs OO := c_sIs (by rfl) r77
theorem r79 : C_sCode OO := c_sCode (by rfl) r77 r78
theorem r80 : C_sDeg OO := c_sDeg (by rfl)
theorem r81 : K_sDeg OO := k_sDeg r80
theorem r82 : K_sMonic OO := k_sMonic (by rfl) r81
theorem r83 : C_sIn OO := c_sIn (by rfl)
theorem r84 : K_sInverse OO := k_sInverse (by rfl)
theorem r85 : K_sDivide OO := k_sDivide (by rfl) r81 r84
theorem r86 : K_sMod OO := k_sMod (by rfl) r85
theorem r87 : K_sOne OO := k_sOne (by rfl)
theorem r88 : K_sUp OO := k_sUp (by rfl) r81 r84
theorem r89 : K_sAdd OO := k_sAdd (by rfl)
theorem r90 : K_sMulMod OO := k_sMulMod (by rfl) r81 r88 r89 r86
theorem r91 : K_sPowMod OO := k_sPowMod (by rfl) r87 r86 r90
theorem r92 : K_sTimes OO := k_sTimes (by rfl) r81
theorem r93 : K_sBezout OO := k_sBezout (by rfl) r87 r81 r85 r92 r89 r84
theorem r94 : K_sGcd OO := k_sGcd (by rfl) r81 r93
theorem r95 : K_sT OO := k_sT (by rfl)
theorem r96 : K_sIrr OO := k_sIrr (by rfl) r81 r86 r91 r94 r89 r95
theorem r97 : C_IsDr OO F38 := c_sDr (by rfl) r79 r82 r81 r83 r96
theorem r98 : C_drCode OO F36 := c_sDrCode (by rfl) r97 r79
theorem r99 : K_sT6 OO := k_sT6 (by rfl) r95 r86
theorem r100 : K_sTimes6 OO := k_sTimes6 (by rfl) r90
theorem r101 : K_sUp6 OO := k_sUp6 (by rfl) r91
theorem r102 : K_sTrim4 OO := k_sTrim4 (by rfl)
theorem r103 : K_sComp OO := k_sComp (by rfl) r100 r89 r101 r102
theorem r104 : K_sAction OO := k_sAction (by rfl) r81 r87 r89 r99 r103
theorem r105 : K_sAction0 OO := k_sAction0 (by rfl) r81 r87
theorem r106 : K_DrAct OO F2k := k_sDrAct (by rfl) r98 r81 r104 r105
theorem r107 : L_DrinfeldAction OO := law_DrinfeldAction (by rfl) r1 r2 r4 r5 r6 r74 r76 r106
theorem law : L_DrinfeldAction OO := r107
end Pe
