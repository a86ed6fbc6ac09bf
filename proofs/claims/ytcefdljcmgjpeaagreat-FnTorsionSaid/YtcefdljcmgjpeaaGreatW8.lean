/-
  A part of the proof: an evaluator for a small form of the code, its soundness, and contracts of functions over it.
-/
import Derived.Test.YtcefdljcmgjpeaaGreatW1
import Derived.Test.YtcefdljcmgjpeaaGreatW2
import Derived.Test.YtcefdljcmgjpeaaGreatW3
import Derived.Test.YtcefdljcmgjpeaaGreatW4
import Derived.Test.YtcefdljcmgjpeaaGreatW5
import Derived.Test.YtcefdljcmgjpeaaGreatW6
import Derived.Test.YtcefdljcmgjpeaaGreatW7

namespace Pe
open Go
noncomputable abbrev OO:ap:=den tabF (orA (Ep Aj) (a0q Lp))
theorem aao:Xp OO:=fun l hl=>Ss (T:=tabF) rfl (a3s ((Yy (ids:=Aj) rfl rfl (by simp [af]; omega)).trans (by simp [af])))
theorem a7g:rt OO:=fun xs v n i cap h1 h2 h3=>Ss (T:=tabF) rfl (a05 (a8i (ids:=Lp) rfl h1 h2 h3) rfl)
theorem r1:a63 OO:=agp (by rfl)
theorem r2:Jm OO:=aa6 (by rfl)
theorem r3:uc OO F3w:=abb (by rfl)
theorem r4:Iz OO:=aa4 (by rfl) r3
theorem r5:zz OO:=Qk (by rfl) r4
theorem r6:Up OO:=abm (by rfl) r3
theorem r7:a17 OO:=aj5 (by rfl)
theorem r8:Tu OO:=abk (by rfl)
theorem r9:iu OO:=abo r8
theorem r10:na OO:=Vr (by rfl)
theorem r11:rj OO:=a0z (by rfl) r9 r10
theorem r12:xb OO:=abv (by rfl) r11
theorem r13:Jd OO:=abt (by rfl)
theorem r14:Wu OO:=afk (by rfl) r9 r10
theorem r15:mf OO:=aca (by rfl)
theorem r16:xj OO:=a08 (by rfl) r9 r14 r15 r12
theorem r17:xz OO:=a1l (by rfl) r13 r12 r16
theorem r18:vw OO:=a3g (by rfl) r9
theorem r19:G8 OO:=a1a (by rfl) r13 r9 r11 r18 r15 r10
theorem r20:Ny OO:=abn (by rfl) r9 r19
theorem r21:Ju OO:=abi (by rfl) r9 r12 r17 r20 r15 r7
theorem r22:Bl OO:=a0s (by rfl) r3 r7 r21
theorem r23:a26 OO:=af8 (by rfl) r3 r4
theorem r24:y8 OO:=a07 (by rfl) r3 r4 r5 r6 r22 r23
theorem r25:B8 OO:=a1u (by rfl)
theorem r26:Yb OO:=afx (by rfl) r25
theorem r27:Ia OO:=a84 (by rfl) r25 r26
theorem r28:E7 OO:=a31 (by rfl) r9
theorem r29:Xk OO:=ag6 (by rfl)
theorem r30:t5 OO:=Vu (by rfl) r27 r28 r9 r29
theorem r31:uj OO:=a9c (by rfl) r7 r12 r16 r17 r15
theorem r32:xl OO:=a4j (by rfl) r31 r9 r15 r10
theorem r33:wm OO:=Rz (by rfl) r9 r32
theorem r34:mn OO F3c:=J9 (by rfl) r30 r33
theorem r35:Gj OO:=a1g (by rfl) r2 r24 r3 r34
theorem r36:Ew OO:=a0n (by rfl) r2 r24
theorem r37:Cn OO:=Us (by rfl) r2 r24 r3 r25 r22
theorem r38:G9 OO:=a0d (by rfl)
theorem r39:jc OO F25 .leaf:=a3v (by rfl)
theorem r40:Bb OO F23 .leaf:=T6 (by rfl) r39
theorem r41:Bc OO Fi .leaf:=a0e (by rfl) (by rfl) r40
theorem r42:Dt OO:=a3p (by rfl) (by rfl) r41
theorem r43:jc OO F26 (.arr 64 .leaf):=a64 (by rfl)
theorem r44:Bb OO F24 (.arr 64 .leaf):=Rj (by rfl) r43
theorem r45:Bc OO Fk (.arr 64 .leaf):=a1q (by rfl) (by rfl) r44
theorem r46:mu OO:=Ri (by rfl) (by rfl) r38 r42 r45
theorem r47:ut OO:=a1e (by rfl)
theorem r48:Nq OO:=a77 (by rfl) r47
theorem r49:od OO:=a7u r48
theorem r50:lk OO:=abe (by rfl)
theorem r51:lg OO:=a5o (by rfl)
theorem r52:B4 OO:=a52 (by rfl)
theorem r53:wt OO:=Qw (by rfl) r49 r50 r51 r52
theorem r54:xu OO:=a1j (by rfl) r46 r53
theorem r55:xe OO:=aby (by rfl)
theorem r56:kq OO:=U8 (by rfl)
theorem r57:y9 OO:=ajt (by rfl)
theorem r58:v7 OO:=a1w (by rfl)
theorem r59:Bh OO:=a0x (by rfl) r57 r58 r47
theorem r60:fl OO:=Yr r59
theorem r61:Ad OO:=a60 (by rfl)
theorem r62:Q5 OO:=a8t (by rfl) r47
theorem r63:um OO:=a7y r62
theorem r64:g8 OO:=a0t (by rfl)
theorem r65:qq OO:=a6r (by rfl) aao r47 r50 r64 r58
theorem r66:xd OO:=ac6 (by rfl) r65
theorem r67:Bz OO:=a70 (by rfl) r66 r63
theorem r68:Ck OO:=Tm r60
theorem r69:L0 OO:=abc (by rfl) r61 r63 r67 r68 r66
theorem r70:G3 OO:=abj (by rfl) r60 r69 r66
theorem r71:Ph OO:=a78 (by rfl) r59
theorem r72:wi OO:=a72 r71
theorem r73:E2 OO:=a2g (by rfl)
theorem r74:yo OO F21:=a8m (by rfl)
theorem r75:yo OO F1z:=aen (by rfl) r74
theorem r76:Bg OO:=a0c (by rfl) (by rfl) r73 r75
theorem r77:G7 OO:=a14 (by rfl) (by rfl) r57 r60 r50 r64 r72 r76
theorem r78:mj OO Fh:=Hi (by rfl) r54 r49 r51 r55 r56 r70 r77
theorem r79:J2 OO:=aad (by rfl) r9 r15 r31 r12
theorem r80:Dx OO:=a1x (by rfl) r9 r15 r10
theorem r81:mj OO F3d:=Gd (by rfl) r30 r9 r79 r80
theorem r82:wv OO:=ac9 (by rfl) r69
theorem r83:jc OO F27 .leaf:=a3f (by rfl)
theorem r84:wc OO:=ab9 (by rfl)
theorem r85:H_relO OO:=aab r82 r57 r50 r64 r60 r83 r84 a7g
theorem r86:De OO:=Uu (by rfl) r85
theorem r87:wk OO:=a9b (by rfl) r66 r86
theorem r88:V4 OO:=ac8 (by rfl) r51
theorem r89:Ol OO:=abp (by rfl)
theorem r90:zj OO:=aa9 (by rfl) r88 r89
theorem r91:mh OO F7:=Hf (by rfl) r54 r49 r87 r90
theorem r92:mh OO F36:=Ex (by rfl) r30 r12 r32
theorem r93:yu OO:=U5 (by rfl) r46 r53
theorem r94:qz OO:=Vs r60
theorem r95:Ip OO:=a38 (by rfl) r65 r63 r94 r50 r64 r72
theorem r96:Qu OO:=ads (by rfl) r95
theorem r97:Qx OO:=agy (by rfl) r63 r96 r65
theorem r98:mn OO Fc:=Lz (by rfl) r93 r49 r51 r55 r56 r87 r97 r90
theorem r99:pu OO F8:=Q9 (by rfl) r93 r49 r98 r51 r55 r56 r87 r90
theorem akx:Xd OO:=ag3 (by rfl)
theorem akw:pu OO F37:=M1 (by rfl) r30 r33 akx r32 r9
theorem ajc:sd OO:=O8 (by rfl) r56 r66 r55 r51 r50 r64 r72
theorem aja:Dg OO:=a7k (by rfl) r65
theorem aki:Ba OO F4:=a7d (by rfl)
theorem akb:qy OO F0:=Uz (by rfl) aki
theorem akc:Ba OO F5:=a19 (by rfl)
theorem ak7:qy OO F3:=Oi (by rfl) akc
theorem aj7:C8 OO:=a1k (by rfl) akb ak7
theorem ajg:wq OO:=Sf (by rfl)
theorem aj0:Dc OO:=Uc (by rfl) (by rfl) ajg r75
theorem ak2:Eo OO:=Ys (by rfl) (by rfl) ajc aja r51 r67 r61 r94 r96 r50 r64 r72 aj7 aj0
theorem akq:a2v OO:=afq ak2
theorem aeq:Hw OO:=a88 (by rfl) r50 r51 akq
theorem ajv:sw OO F9:=Tn (by rfl) r46 r49 r50 r51 r52 aeq r94 r66 r63 r70 r65 r90
theorem ako:sw OO F38:=S0 (by rfl) r27 r28 r9 r29 r21 r18 r13 r15 r12 r79 r11
theorem ajz:P7 OO:=a7r (by rfl) r54 r49 r70 r90
theorem akk:Wj OO:=ab5 r89
theorem aj1:wz OO:=Lu (by rfl) r46 r49 r65 akk
theorem ak3:Cu OO:=Vz (by rfl) r46 r49 r51
theorem akv:yv OO Fo:=Oa (by rfl) r46 r49 r51 r52
theorem aj6:Jo OO Fe:=a1t (by rfl) akv r49 aeq
theorem akm:zw OO Fg (-1):=Hl (by rfl) r46 r49 r60 r90
theorem akl:G0 OO:=Sb (by rfl) r1 r35 r36 r37 r78 r81 r91 r92 r98 r34 r99 akw ajv ako ajz aj1 ak3 aj6 akm
theorem law:G0 OO:=akl
end Pe
