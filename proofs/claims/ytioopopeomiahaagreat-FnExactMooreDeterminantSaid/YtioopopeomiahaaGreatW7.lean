/-
  A part of the proof: an evaluator for a small form of the code, its soundness, and contracts of functions over it.
-/
import Derived.Test.YtioopopeomiahaaGreatW1
import Derived.Test.YtioopopeomiahaaGreatW2
import Derived.Test.YtioopopeomiahaaGreatW3
import Derived.Test.YtioopopeomiahaaGreatW4
import Derived.Test.YtioopopeomiahaaGreatW5
import Derived.Test.YtioopopeomiahaaGreatW6

namespace Pe
open Go
noncomputable abbrev OO:ah:=den tabF (Am uz)
theorem a3a:R7 OO:=fun l hl=>Um (T:=tabF) rfl (T8 (ids:=uz) rfl rfl (by simp [am]; omega)|>.trans (by simp [am]))
theorem r1:ui OO:=W6 (by rfl)
theorem r2:P4 OO:=a46 (by rfl) r1
theorem r3:ur OO:=W2 (by rfl)
theorem r4:Nw OO:=a2n (by rfl) r3
theorem r5:Oo OO:=a36 (by rfl)
theorem r6:pu OO:=Tf (by rfl)
theorem r7:ze OO:=Ym (by rfl) r6
theorem r8:zy OO:=Tu (by rfl)
theorem r9:q9 OO F1v .leaf:=V8 (by rfl)
theorem r10:vw OO F1t .leaf:=Lh (by rfl) r9
theorem r11:x9 OO F7 .leaf:=S2 (by rfl) (by rfl) r10
theorem r12:yw OO:=Vj (by rfl) (by rfl) r11
theorem r13:Cl OO:=Vv (by rfl) r8 r12
theorem r14:jy OO:=Vy (by rfl)
theorem r15:Cm OO:=Uo (by rfl)
theorem r16:v9 OO:=a4f (by rfl)
theorem r17:tc OO:=Mx (by rfl)
theorem r18:o7 OO:=Ry (by rfl)
theorem r19:ri OO:=Uf (by rfl)
theorem r20:qw OO:=V6 (by rfl) a3a r6 r16 r18 r19
theorem r21:y8 OO:=a4i (by rfl) r20
theorem r22:Oy OO:=a2x (by rfl)
theorem r23:a0h OO:=abg (by rfl)
theorem r24:wq OO:=Sr (by rfl) r23 r19 r6
theorem r25:Hr OO:=a0l (by rfl) r24
theorem r26:wb OO:=a1g r25
theorem r27:n4 OO:=Hz (by rfl) r17 r21 r22 r14 r16 r18 r26
theorem r28:zo OO:=a1l (by rfl) r20
theorem r29:Hb OO:=a0z (by rfl) r6
theorem r30:ta OO:=Yt r29
theorem r31:td OO:=a0m (by rfl) r21 r30
theorem r32:yv OO:=V3 (by rfl)
theorem r33:sx OO:=Sf r24
theorem r34:o9 OO:=Mr r33
theorem r35:Eh OO:=Up (by rfl) r20 r30 r34 r16 r18 r26
theorem r36:Rn OO:=a6a (by rfl) r35
theorem r37:wt OO F2:=Yr (by rfl)
theorem r38:me OO F0:=Ob (by rfl) r37
theorem r39:wt OO F3:=Tk (by rfl)
theorem r40:me OO F1:=Iv (by rfl) r39
theorem r41:vr OO:=Rz (by rfl) r38 r40
theorem r42:rr OO:=Mf (by rfl)
theorem r43:ww OO F1r:=a1e (by rfl)
theorem r44:ww OO F1p:=a86 (by rfl) r43
theorem r45:ye OO:=Mp (by rfl) (by rfl) r42 r44
theorem r46:zq OO:=S4 (by rfl) (by rfl) r27 r28 r14 r31 r32 r34 r36 r16 r18 r26 r41 r45
theorem r47:V9 OO:=a5x r46
theorem r48:Hy OO:=a0e (by rfl) r16 r14 r47
theorem r49:Ae OO:=Tn (by rfl) r7 r13 r14 r15 r48
theorem r50:yy OO:=Yo r7
theorem r51:wx OO:=Tg (by rfl) r50
theorem r52:Ce OO:=Yk (by rfl) r12 r7 r14
theorem r53:q9 OO F1w (.arr 64 .leaf):=Xg (by rfl)
theorem r54:vw OO F1u (.arr 64 .leaf):=Ju (by rfl) r53
theorem r55:x9 OO F9 (.arr 64 .leaf):=Tw (by rfl) (by rfl) r54
theorem r56:py OO F18:=Sp (by rfl) r49 r51 r52 r55
theorem r57:xu OO:=O4 (by rfl) r56
theorem r58:Mn OO:=a38 (by rfl) r50
theorem r59:Ej OO:=a4g (by rfl) r31 r14
theorem r60:I5 OO:=a0o (by rfl) r59
theorem r61:xb OO:=Rx (by rfl) r30 r21
theorem r62:Ui OO:=a87 (by rfl) r33 r61
theorem r63:O8 OO:=a3e (by rfl) r14
theorem r64:Mz OO:=a3y (by rfl)
theorem r65:Nq OO:=a2t (by rfl) r63 r64
theorem r66:oa OO F5:=N0 (by rfl) r57 r51 r58 r60 r62 r65
theorem r67:Cs OO:=Xx (by rfl)
theorem r68:Qw OO:=a6b (by rfl) r67
theorem r69:Nv OO:=a4c (by rfl)
theorem r70:iz OO:=a2g r69
theorem r71:Ck OO:=Vp (by rfl) r70
theorem r72:V4 OO:=a63 (by rfl)
theorem r73:rj OO:=Mv (by rfl)
theorem r74:o8 OO:=Sv (by rfl) r70 r73
theorem r75:vm OO:=a39 (by rfl) r74
theorem r76:zt OO:=a44 (by rfl)
theorem r77:Rb OO:=a7a (by rfl) r70 r73
theorem r78:qu OO:=a3k (by rfl)
theorem r79:mh OO:=Sa (by rfl) r70 r77 r78 r75
theorem r80:qa OO:=S6 (by rfl) r76 r75 r79
theorem r81:sf OO:=Vd (by rfl) r70
theorem r82:xc OO:=S0 (by rfl) r76 r70 r74 r81 r78 r73
theorem r83:If OO:=a3g (by rfl) r70 r82
theorem r84:Yq OO:=abw (by rfl)
theorem r85:Ok OO:=a2l (by rfl) r70 r75 r80 r83 r78 r84
theorem r86:Ei OO:=Y9 (by rfl) r68 r71 r70 r72 r85
theorem r87:Ho OO:=a3m (by rfl) r68 r70
theorem r88:py OO F30:=T5 (by rfl) r86 r87
theorem r89:A1 OO:=Si (by rfl) r88
theorem r90:wm OO:=a0c (by rfl) r80 r70
theorem r91:Dw OO:=Wg (by rfl) r90
theorem r92:Af OO:=Tx (by rfl)
theorem r93:zr OO:=a4b r78
theorem r94:Br OO:=a1c (by rfl) r75 r82
theorem r95:Nh OO:=a2p (by rfl) r76 r70 r93 r79 r94
theorem r96:I8 OO:=a1j (by rfl) r76
theorem r97:oa OO F2d:=L4 (by rfl) r89 r91 r92 r95 r96 r75
theorem r98:ma OO:=vk (by rfl) r1 r2 r4 r3 r5 r66 r97
theorem law:ma OO:=r98
end Pe
