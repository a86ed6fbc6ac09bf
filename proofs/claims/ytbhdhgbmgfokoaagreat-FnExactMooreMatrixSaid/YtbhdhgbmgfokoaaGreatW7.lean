/-
  A part of the proof: an evaluator for a small form of the code, its soundness, and contracts of functions over it.
-/
import Derived.Test.YtbhdhgbmgfokoaaGreatW1
import Derived.Test.YtbhdhgbmgfokoaaGreatW2
import Derived.Test.YtbhdhgbmgfokoaaGreatW3
import Derived.Test.YtbhdhgbmgfokoaaGreatW4
import Derived.Test.YtbhdhgbmgfokoaaGreatW5
import Derived.Test.YtbhdhgbmgfokoaaGreatW6

namespace Pe
open Go
noncomputable abbrev OO:af:=den tabF (Ac uz)
theorem a2o:Qg OO:=fun l hl=>V6 (T:=tabF) rfl (T5 (ids:=uz) rfl rfl (by simp [am]; omega)|>.trans (by simp [am]))
theorem r1:qj OO:=Xp (by rfl)
theorem r2:Ot OO:=a1v (by rfl) r1
theorem r3:Mx OO:=a1s (by rfl) r1
theorem r4:yy OO:=U7 (by rfl)
theorem r5:Di OO:=a2b (by rfl) r4
theorem r6:Hs OO:=Y4 (by rfl) r5
theorem r7:Oz OO:=a1k (by rfl)
theorem r8:E5 OO:=W3 (by rfl)
theorem r9:vp OO:=Rz (by rfl)
theorem r10:A7 OO:=Tn (by rfl) r9
theorem r11:y7 OO:=N7 (by rfl)
theorem r12:yj OO:=Vd (by rfl)
theorem r13:zk OO:=S2 (by rfl) r12
theorem r14:pr OO:=Ry (by rfl)
theorem r15:ye OO:=a0j (by rfl) r14
theorem r16:A9 OO:=T8 (by rfl)
theorem r17:pt OO F1z .leaf:=Xt (by rfl)
theorem r18:wn OO F1x .leaf:=L0 (by rfl) r17
theorem r19:vj OO F7 .leaf:=Tt (by rfl) (by rfl) r18
theorem r20:yq OO:=Uy (by rfl) (by rfl) r19
theorem r21:Dj OO:=V7 (by rfl) r16 r20
theorem r22:lm OO:=Wu (by rfl)
theorem r23:Cw OO:=Xc (by rfl)
theorem r24:uw OO:=a1n (by rfl)
theorem r25:tk OO:=P4 (by rfl)
theorem r26:o8 OO:=Si (by rfl)
theorem r27:rg OO:=X0 (by rfl)
theorem r28:qd OO:=W2 (by rfl) a2o r14 r24 r26 r27
theorem r29:zw OO:=a25 (by rfl) r28
theorem r30:Mf OO:=a23 (by rfl)
theorem r31:a05 OO:=aa2 (by rfl)
theorem r32:wu OO:=Sr (by rfl) r31 r27 r14
theorem r33:Hi OO:=Yu (by rfl) r32
theorem r34:wm OO:=a08 r33
theorem r35:n6 OO:=Hq (by rfl) r25 r29 r30 r22 r24 r26 r34
theorem r36:yh OO:=Yb (by rfl) r28
theorem r37:Hj OO:=a0h (by rfl) r14
theorem r38:vr OO:=Y2 r37
theorem r39:tu OO:=a0p (by rfl) r29 r38
theorem r40:z5 OO:=Xk (by rfl)
theorem r41:zi OO:=Rv r32
theorem r42:o7 OO:=Oe r41
theorem r43:Cg OO:=Xe (by rfl) r28 r38 r42 r24 r26 r34
theorem r44:Q6 OO:=a7n (by rfl) r43
theorem r45:wb OO F2:=Y8 (by rfl)
theorem r46:mc OO F0:=Mp (by rfl) r45
theorem r47:wb OO F3:=Ss (by rfl)
theorem r48:mc OO F1:=J0 (by rfl) r47
theorem r49:ww OO:=Sj (by rfl) r46 r48
theorem r50:rt OO:=Lp (by rfl)
theorem r51:vo OO F1v:=a01 (by rfl)
theorem r52:vo OO F1t:=a70 (by rfl) r51
theorem r53:xx OO:=Nh (by rfl) (by rfl) r50 r52
theorem r54:A2 OO:=T7 (by rfl) (by rfl) r35 r36 r22 r39 r40 r42 r44 r24 r26 r34 r49 r53
theorem r55:Xg OO:=a7h r54
theorem r56:Ir OO:=a0b (by rfl) r24 r22 r55
theorem r57:zq OO:=S0 (by rfl) r15 r21 r22 r23 r56
theorem r58:t6 OO:=a0f r15
theorem r59:px OO:=S3 (by rfl) r58
theorem r60:Bf OO:=a0s (by rfl) r20 r15 r22
theorem r61:pt OO F20 (.arr 64 .leaf):=Wy (by rfl)
theorem r62:wn OO F1y (.arr 64 .leaf):=Jg (by rfl) r61
theorem r63:vj OO F9 (.arr 64 .leaf):=Sw (by rfl) (by rfl) r62
theorem r64:pz OO F18:=Rt (by rfl) r57 r59 r60 r63
theorem r65:qe OO:=N3 (by rfl) r64
theorem r66:Nz OO:=a3l (by rfl) r58
theorem r67:Dt OO:=a3k (by rfl) r39 r22
theorem r68:zc OO:=Yn (by rfl) r67
theorem r69:Mw OO:=a1w (by rfl)
theorem r70:A1 OO:=a2g r69
theorem r71:Bz OO:=Yl (by rfl) r70
theorem r72:jv OO F5:=Ej (by rfl) r65 r59 r66 r68 r71
theorem r73:Hh OO:=a3c (by rfl) r58
theorem r74:wq OO:=Yr (by rfl) r70
theorem r75:U0 OO:=a6l (by rfl) r65 r59 r73 r68 r74
theorem r76:X3 OO:=a6o (by rfl) r65 r59 r73 r68 r74
theorem r77:D6 OO:=Vl (by rfl)
theorem r78:Rc OO:=a5f (by rfl) r77
theorem r79:Mi OO:=a27 (by rfl)
theorem r80:k9 OO:=a29 r79
theorem r81:E4 OO:=Xi (by rfl) r80
theorem r82:U3 OO:=a7o (by rfl)
theorem r83:qz OO:=Ms (by rfl)
theorem r84:od OO:=Rs (by rfl) r80 r83
theorem r85:zn OO:=a2i (by rfl) r84
theorem r86:Hp OO:=a2f (by rfl)
theorem r87:Qo OO:=a6r (by rfl) r80 r83
theorem r88:s9 OO:=a31 (by rfl)
theorem r89:wt OO:=Su (by rfl) r80 r87 r88 r85
theorem r90:py OO:=Sm (by rfl) r86 r85 r89
theorem r91:su OO:=Wg (by rfl) r80
theorem r92:zo OO:=Th (by rfl) r86 r80 r84 r91 r88 r83
theorem r93:Ik OO:=a2q (by rfl) r80 r92
theorem r94:Xy OO:=ab1 (by rfl)
theorem r95:Nx OO:=a35 (by rfl) r80 r85 r90 r93 r88 r94
theorem r96:Co OO:=X6 (by rfl) r78 r81 r80 r82 r95
theorem r97:Iy OO:=a2e (by rfl) r78 r80
theorem r98:pz OO F33:=T1 (by rfl) r96 r97
theorem r99:A4 OO:=S6 (by rfl) r98
theorem a9s:yf OO:=a0o (by rfl) r90 r80
theorem aae:Cz OO:=X5 (by rfl) a9s
theorem aab:jv OO F2h:=Cc (by rfl) r99 aae
theorem aau:sb OO:=Ba (by rfl) r1 r2 r3 r5 r6 r7 r8 r10 r11 r13 r72 r75 r76 aab
theorem law:sb OO:=aau
end Pe
