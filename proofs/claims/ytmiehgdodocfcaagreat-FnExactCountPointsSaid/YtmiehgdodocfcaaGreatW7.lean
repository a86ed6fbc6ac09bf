/-
  A part of the proof: an evaluator for a small form of the code, its soundness, and contracts of functions over it.
-/
import Derived.Test.YtmiehgdodocfcaaGreatW1
import Derived.Test.YtmiehgdodocfcaaGreatW2
import Derived.Test.YtmiehgdodocfcaaGreatW3
import Derived.Test.YtmiehgdodocfcaaGreatW4
import Derived.Test.YtmiehgdodocfcaaGreatW5
import Derived.Test.YtmiehgdodocfcaaGreatW6

namespace Pe
open Go
noncomputable abbrev OO:ac:=den tabF (zh ut)
theorem a04:Ny OO:=fun l hl=>U8 (T:=tabF) rfl (Pj (ids:=ut) rfl rfl (by simp [ae]; omega)|>.trans (by simp [ae]))
theorem r1:D5 OO:=U5 (by rfl)
theorem r2:kg OO:=Q1 (by rfl)
theorem r3:At OO:=Wp (by rfl) r2
theorem r4:B5 OO:=Xd r3
theorem r5:ve OO:=Rk (by rfl)
theorem r6:pe OO F24 .leaf:=Sv (by rfl)
theorem r7:vi OO F21 .leaf:=Ig (by rfl) r6
theorem r8:vo OO Fc .leaf:=Ps (by rfl) (by rfl) r7
theorem r9:ur OO:=T4 (by rfl) (by rfl) r8
theorem r10:Db OO:=Tz (by rfl) r5 r9
theorem r11:ml OO:=To (by rfl)
theorem r12:pe OO F26 (.arr 64 .leaf):=Td (by rfl)
theorem r13:vi OO F23 (.arr 64 .leaf):=Jq (by rfl) r12
theorem r14:vo OO Fh (.arr 64 .leaf):=Qg (by rfl) (by rfl) r13
theorem r15:u6 OO:=Je (by rfl) (by rfl) r5 r9 r14
theorem r16:ia OO F8:=Bq (by rfl) r15
theorem r17:uj OO:=Yt (by rfl)
theorem r18:na OO:=Qb (by rfl)
theorem r19:px OO:=Uq (by rfl)
theorem r20:q9 OO:=Ud (by rfl) a04 r2 r17 r18 r19
theorem r21:Hd OO:=W5 (by rfl) r2
theorem r22:sv OO:=Wx r21
theorem r23:X5 OO:=a77 (by rfl)
theorem r24:vf OO:=Qr (by rfl) r23 r19 r2
theorem r25:pf OO:=Pz r24
theorem r26:nr OO:=L8 r25
theorem r27:H0 OO:=We (by rfl) r24
theorem r28:vh OO:=X4 r27
theorem r29:Cf OO:=Sm (by rfl) r20 r22 r26 r17 r18 r28
theorem r30:Ji OO:=a2d (by rfl) r29
theorem r31:Gx OO:=Vs (by rfl)
theorem r32:rt OO F9:=Um (by rfl) r3 r4 r10 r11 r16 r30 r31
theorem r33:Ng OO:=Yr (by rfl)
theorem r34:Li OO:=a0b (by rfl) r33
theorem r35:Nl OO:=Yw (by rfl) r34
theorem r36:qw OO:=Ju (by rfl) r32 r35
theorem r37:vu OO:=Ql (by rfl) r4
theorem r38:Bf OO:=Ys (by rfl)
theorem r39:ja OO:=M0 (by rfl)
theorem r40:Ck OO:=Rv (by rfl) r38 r39
theorem r41:wo OO:=a0k (by rfl) r20
theorem r42:mg OO:=Gm (by rfl) r39 r41 r38 r11 r17 r18 r28
theorem r43:xv OO:=Xj (by rfl) r20
theorem r44:xx OO:=Vp (by rfl) r41 r22
theorem r45:rq OO:=S8 (by rfl)
theorem r46:vd OO F4:=W7 (by rfl)
theorem r47:lq OO F0:=M2 (by rfl) r46
theorem r48:vd OO F5:=Qe (by rfl)
theorem r49:lq OO F3:=Hg (by rfl) r48
theorem r50:vv OO:=Qm (by rfl) r47 r49
theorem r51:re OO:=I8 (by rfl)
theorem r52:v4 OO F1z:=Wy (by rfl)
theorem r53:v4 OO F1x:=a23 (by rfl) r52
theorem r54:x9 OO:=Mn (by rfl) (by rfl) r51 r53
theorem r55:zc OO:=Rc (by rfl) (by rfl) r42 r43 r11 r44 r45 r26 r30 r17 r18 r28 r50 r54
theorem r56:Sg OO:=a3c r55
theorem r57:Al OO:=W3 (by rfl) r17 r11 r56
theorem r58:pa OO:=Qj (by rfl) r22 r41
theorem r59:Bd OO:=a0w (by rfl)
theorem r60:D4 OO:=Ry (by rfl) r11 r38 r39 r58 r25 r2 r59
theorem r61:mf OO:=Gv (by rfl) r40 r57 r45 r60
theorem r62:Dx OO F6 ptD:=Dg (by rfl) r36 r37 r61
theorem r63:T7 OO F7 ptD:=Dj (by rfl) r36 r37 r61
theorem r64:xq OO:=U0 (by rfl)
theorem r65:Jw OO:=a4a (by rfl) r64
theorem r66:M8 OO:=Yn (by rfl)
theorem r67:jz OO:=a0u r66
theorem r68:G1 OO:=Vx (by rfl) r64 r65
theorem r69:ia OO F2o:=Ai (by rfl) r68
theorem r70:tt OO:=Yv (by rfl)
theorem r71:qb OO:=M4 (by rfl)
theorem r72:nv OO:=Q9 (by rfl) r67 r71
theorem r73:rx OO:=Tm (by rfl) r67
theorem r74:oq OO:=Y8 (by rfl)
theorem r75:ze OO:=Qa (by rfl) r70 r67 r72 r73 r74 r71
theorem r76:Bb OO:=a01 (by rfl) r67 r75
theorem r77:rt OO F39:=X2 (by rfl) r65 r67 r69 r76
theorem r78:yv OO:=a07 (by rfl) r72
theorem r79:Nz OO:=a28 (by rfl) r67 r71
theorem r80:ph OO:=Qf (by rfl) r67 r79 r74 r78
theorem r81:pb OO:=Qw (by rfl) r70 r78 r80
theorem r82:Wr OO:=a7b (by rfl)
theorem r83:Ba OO:=a09 (by rfl) r67 r78 r81 r76 r74 r82
theorem r84:B9 OO:=a43 (by rfl)
theorem r85:xe OO:=Lc (by rfl) r83 r84
theorem r86:Ay OO:=Wu (by rfl) r67 r80 r74 r70
theorem r87:tz OO:=Jm (by rfl) r85 r84 r86 r67 r81 r70
theorem r88:Dx OO F2n ptD:=Bu (by rfl) r77 r87
theorem r89:Sw OO:=a3t (by rfl)
theorem r90:G4 OO:=Wz (by rfl)
theorem r91:H9 OO:=X6 (by rfl)
theorem r92:rj OO:=Af (by rfl) r1 r62 r63 r88 r89 r90 r91
theorem law:rj OO:=r92
end Pe
