/-
  A part of the proof: an evaluator for a small form of the code, its soundness, and contracts of functions over it.
-/
import Derived.Test.YtmiehgdodocfcabGreatW1
import Derived.Test.YtmiehgdodocfcabGreatW2
import Derived.Test.YtmiehgdodocfcabGreatW3
import Derived.Test.YtmiehgdodocfcabGreatW4
import Derived.Test.YtmiehgdodocfcabGreatW5
import Derived.Test.YtmiehgdodocfcabGreatW6

namespace Pe
open Go
noncomputable abbrev OO:ac:=den tabF (yu uj)
theorem Yn:Oy OO:=fun l hl=>Sp (T:=tabF) rfl (Qo (ids:=uj) rfl rfl (by simp [ae]; omega)|>.trans (by simp [ae]))
theorem r1:Da OO:=Tv (by rfl)
theorem r2:ke OO:=Rj (by rfl)
theorem r3:Av OO:=Vx (by rfl) r2
theorem r4:B7 OO:=Vw r3
theorem r5:v9 OO:=Q6 (by rfl)
theorem r6:pe OO F24 .leaf:=Sl (by rfl)
theorem r7:vz OO F21 .leaf:=Jk (by rfl) r6
theorem r8:vh OO Fc .leaf:=Qn (by rfl) (by rfl) r7
theorem r9:uq OO:=Tb (by rfl) (by rfl) r8
theorem r10:Di OO:=Vq (by rfl) r5 r9
theorem r11:lh OO:=V5 (by rfl)
theorem r12:pe OO F26 (.arr 64 .leaf):=Sc (by rfl)
theorem r13:vz OO F23 (.arr 64 .leaf):=Jt (by rfl) r12
theorem r14:vh OO Fh (.arr 64 .leaf):=Qd (by rfl) (by rfl) r13
theorem r15:ut OO:=Id (by rfl) (by rfl) r5 r9 r14
theorem r16:ik OO F8:=Cc (by rfl) r15
theorem r17:ug OO:=a0o (by rfl)
theorem r18:n8 OO:=Ro (by rfl)
theorem r19:py OO:=T0 (by rfl)
theorem r20:qq OO:=Ue (by rfl) Yn r2 r17 r18 r19
theorem r21:Ez OO:=Wj (by rfl) r2
theorem r22:t8 OO:=Vv r21
theorem r23:Xq OO:=a7a (by rfl)
theorem r24:vm OO:=Qc (by rfl) r23 r19 r2
theorem r25:pk OO:=Qs r24
theorem r26:ni OO:=Lf r25
theorem r27:G0 OO:=Xf (by rfl) r24
theorem r28:vw OO:=Xb r27
theorem r29:Ct OO:=To (by rfl) r20 r22 r26 r17 r18 r28
theorem r30:Ij OO:=a3u (by rfl) r29
theorem r31:Hp OO:=Wq (by rfl)
theorem r32:ro OO F9:=T8 (by rfl) r3 r4 r10 r11 r16 r30 r31
theorem r33:Mc OO:=a0a (by rfl)
theorem r34:M0 OO:=a0e (by rfl) r33
theorem r35:Ml OO:=a0r (by rfl) r34
theorem r36:rf OO:=Ii (by rfl) r32 r35
theorem r37:v6 OO:=Rs (by rfl) r4
theorem r38:Db OO:=a02 (by rfl)
theorem r39:ix OO:=Mv (by rfl)
theorem r40:C0 OO:=S3 (by rfl) r38 r39
theorem r41:xi OO:=a05 (by rfl) r20
theorem r42:mi OO:=G3 (by rfl) r39 r41 r38 r11 r17 r18 r28
theorem r43:yi OO:=W2 (by rfl) r20
theorem r44:y8 OO:=Wo (by rfl) r41 r22
theorem r45:rp OO:=Uv (by rfl)
theorem r46:vf OO F4:=Vu (by rfl)
theorem r47:lw OO F0:=N7 (by rfl) r46
theorem r48:vf OO F5:=Qx (by rfl)
theorem r49:lw OO F3:=Ge (by rfl) r48
theorem r50:vo OO:=Rk (by rfl) r47 r49
theorem r51:qz OO:=Jr (by rfl)
theorem r52:vd OO F1z:=Xi (by rfl)
theorem r53:vd OO F1x:=a3w (by rfl) r52
theorem r54:xq OO:=Nj (by rfl) (by rfl) r51 r53
theorem r55:yv OO:=Rl (by rfl) (by rfl) r42 r43 r11 r44 r45 r26 r30 r17 r18 r28 r50 r54
theorem r56:Vn OO:=a38 r55
theorem r57:Au OO:=Wd (by rfl) r17 r11 r56
theorem r58:pc OO:=Qe (by rfl) r22 r41
theorem r59:Bz OO:=a0h (by rfl)
theorem r60:Bx OO:=Te (by rfl) r11 r38 r39 r58 r25 r2 r59
theorem r61:ml OO:=Gc (by rfl) r40 r57 r45 r60
theorem r62:B1 OO:=W4 (by rfl) r11
theorem r63:E5 OO F6 cvD:=yc (by rfl) r36 r37 r61 r62
theorem r64:V4 OO F7 cvD:=yj (by rfl) r36 r37 r61 r62
theorem r65:yd OO:=Sx (by rfl)
theorem r66:L3 OO:=a28 (by rfl) r65
theorem r67:Ng OO:=Yk (by rfl)
theorem r68:jo OO:=Yy r67
theorem r69:Ho OO:=Xm (by rfl) r65 r66
theorem r70:ik OO F2o:=Ap (by rfl) r69
theorem r71:uk OO:=a0w (by rfl)
theorem r72:qb OO:=Lc (by rfl)
theorem r73:na OO:=Qv (by rfl) r68 r72
theorem r74:rz OO:=Tp (by rfl) r68
theorem r75:ot OO:=Yl (by rfl)
theorem r76:z9 OO:=Qm (by rfl) r71 r68 r73 r74 r75 r72
theorem r77:Dh OO:=a12 (by rfl) r68 r76
theorem r78:ro OO F3a:=Wb (by rfl) r66 r68 r70 r77
theorem r79:yy OO:=a10 (by rfl) r73
theorem r80:P9 OO:=a34 (by rfl) r68 r72
theorem r81:pj OO:=Rn (by rfl) r68 r80 r75 r79
theorem r82:pf OO:=Qt (by rfl) r71 r79 r81
theorem r83:W6 OO:=a7p (by rfl)
theorem r84:C5 OO:=a0f (by rfl) r68 r79 r82 r77 r75 r83
theorem r85:Bd OO:=a2k (by rfl)
theorem r86:xl OO:=M8 (by rfl) r84 r85
theorem r87:Ay OO:=Wl (by rfl) r68 r81 r75 r71
theorem r88:tz OO:=Iu (by rfl) r86 r85 r87 r68 r82 r71
theorem r89:xp OO:=Mx (by rfl) r68
theorem r90:E5 OO F2n cvD:=xo (by rfl) r78 r88 r89
theorem r91:Rv OO:=a2d (by rfl)
theorem r92:Gz OO:=Vz (by rfl)
theorem r93:H1 OO:=X1 (by rfl)
theorem r94:mn OO:=wd (by rfl) r1 r63 r64 r90 r91 r92 r93
theorem law:mn OO:=r94
end Pe
