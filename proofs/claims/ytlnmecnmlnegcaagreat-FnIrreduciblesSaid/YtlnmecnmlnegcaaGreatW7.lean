/-
  A part of the proof: an evaluator for a small form of the code, its soundness, and contracts of functions over it.
-/
import Derived.Test.YtlnmecnmlnegcaaGreatW1
import Derived.Test.YtlnmecnmlnegcaaGreatW2
import Derived.Test.YtlnmecnmlnegcaaGreatW3
import Derived.Test.YtlnmecnmlnegcaaGreatW4
import Derived.Test.YtlnmecnmlnegcaaGreatW5
import Derived.Test.YtlnmecnmlnegcaaGreatW6

namespace Pe
open Go
noncomputable abbrev OO:ah:=den tabF (ze uw)
theorem a0h:Nw OO:=fun l hl=>S0 (T:=tabF) rfl (Qh (ids:=uw) rfl rfl (by simp [ak]; omega)|>.trans (by simp [ak]))
theorem r1:Tm OO:=a2x (by rfl)
theorem r2:A0 OO:=Y3 (by rfl)
theorem r3:om OO F3b:=a07 (by rfl)
theorem r4:uq OO:=a0q (by rfl) r3
theorem r5:rr OO:=Ih (by rfl) r4
theorem r6:Lj OO:=Y4 (by rfl) r3
theorem r7:T4 OO:=a7l (by rfl)
theorem r8:Ly OO:=Yj (by rfl)
theorem r9:ja OO:=a0l r8
theorem r10:ou OO:=M7 (by rfl)
theorem r11:jg OO:=Qd (by rfl) r9 r10
theorem r12:zf OO:=Yw (by rfl) r11
theorem r13:H1 OO:=a0k (by rfl)
theorem r14:O7 OO:=a2j (by rfl) r9 r10
theorem r15:rk OO:=Yy (by rfl)
theorem r16:vv OO:=P6 (by rfl) r9 r14 r15 r12
theorem r17:wj OO:=Rc (by rfl) r13 r12 r16
theorem r18:pc OO:=S7 (by rfl) r9
theorem r19:zw OO:=Rb (by rfl) r13 r9 r11 r18 r15 r10
theorem r20:Ge OO:=Y1 (by rfl) r9 r19
theorem r21:xg OO:=Y8 (by rfl) r9 r12 r17 r20 r15 r7
theorem r22:sw OO:=Qs (by rfl) r3 r7 r21
theorem r23:Vf OO:=a2l (by rfl) r3 r4
theorem r24:ye OO:=Td (by rfl) r2 r3 r4 r5 r6 r22 r23 r18 r9
theorem r25:pm OO:=Ao (by rfl) r24
theorem r26:kn OO:=ug (by rfl) r2 r4 r3
theorem r27:Ma OO:=Y2 (by rfl) r3 r4
theorem r28:ri OO:=Cl (by rfl) r2 r4 r27
theorem r29:uy OO:=Iw (by rfl) r2 r3 r5 r22 r24
theorem r30:qd OO:=Pk (by rfl)
theorem r31:lr OO F1z .leaf:=Uc (by rfl)
theorem r32:vj OO F1w .leaf:=I5 (by rfl) r31
theorem r33:vq OO Fg .leaf:=R6 (by rfl) (by rfl) r32
theorem r34:yg OO:=Sv (by rfl) (by rfl) r33
theorem r35:lr OO F20 (.arr 64 .leaf):=Ui (by rfl)
theorem r36:vj OO F1x (.arr 64 .leaf):=Hu (by rfl) r35
theorem r37:vq OO Fi (.arr 64 .leaf):=Qj (by rfl) (by rfl) r36
theorem r38:n7 OO:=Ie (by rfl) (by rfl) r30 r34 r37
theorem r39:qh OO:=Po (by rfl)
theorem r40:Gy OO:=X3 (by rfl) r39
theorem r41:pv OO:=Wi r40
theorem r42:kq OO:=V1 (by rfl)
theorem r43:u7 OO:=Tp (by rfl)
theorem r44:fi OO Fl:=Gd (by rfl) r38 r41 r42 r43
theorem r45:n4 OO:=Jy (by rfl)
theorem r46:ul OO:=a0j (by rfl)
theorem r47:ow OO:=R7 (by rfl)
theorem r48:qz OO:=V8 (by rfl)
theorem r49:rm OO:=Ub (by rfl) a0h r39 r46 r47 r48
theorem r50:z5 OO:=Yc (by rfl) r49
theorem r51:xf OO:=Yi (by rfl)
theorem r52:Wo OO:=a7e (by rfl)
theorem r53:vo OO:=Q0 (by rfl) r52 r48 r39
theorem r54:Ga OO:=Wj (by rfl) r53
theorem r55:vh OO:=Wk r54
theorem r56:nv OO:=Gz (by rfl) r45 r50 r51 r42 r46 r47 r55
theorem r57:yc OO:=X0 (by rfl) r49
theorem r58:Gb OO:=X8 (by rfl) r39
theorem r59:pz OO:=W4 r58
theorem r60:y8 OO:=Wh (by rfl) r50 r59
theorem r61:yz OO:=T6 (by rfl)
theorem r62:z9 OO:=Qe r53
theorem r63:oh OO:=La r62
theorem r64:Cw OO:=Te (by rfl) r49 r59 r63 r46 r47 r55
theorem r65:O2 OO:=a4i (by rfl) r64
theorem r66:vr OO F3:=X2 (by rfl)
theorem r67:my OO F0:=Mh (by rfl) r66
theorem r68:vr OO F4:=Qc (by rfl)
theorem r69:my OO F2:=Gp (by rfl) r68
theorem r70:wa OO:=Qo (by rfl) r67 r69
theorem r71:ry OO:=Io (by rfl)
theorem r72:wn OO F1u:=Wx (by rfl)
theorem r73:wn OO F1s:=a35 (by rfl) r72
theorem r74:xj OO:=Ml (by rfl) (by rfl) r71 r73
theorem r75:za OO:=Qa (by rfl) (by rfl) r56 r57 r42 r60 r61 r63 r65 r46 r47 r55 r70 r74
theorem r76:Ak OO:=a47 r75
theorem r77:H0 OO:=a0p (by rfl)
theorem r78:zg OO:=a03 r77
theorem r79:ni OO F7:=Ia (by rfl) r44 r41 r76 r78
theorem r80:sn OO:=T2 (by rfl)
theorem r81:Oi OO:=a32 (by rfl) r80
theorem r82:Hm OO:=W7 (by rfl) r80 r81
theorem r83:Jd OO:=a3e (by rfl)
theorem r84:fi OO F3k:=Q2 (by rfl) r82 r9 r83
theorem r85:p9 OO:=Ss (by rfl)
theorem r86:D3 OO:=a3m (by rfl)
theorem r87:yy OO:=Sa (by rfl) r11 r9 r85 r86 r10 r15
theorem r88:ni OO F2n:=H3 (by rfl) r84 r87
theorem r89:x9 OO:=Jq (by rfl)
theorem r90:n9 OO Fb:=Iq (by rfl) r44 r41 r76
theorem r91:n9 OO F2q:=Hf (by rfl) r84 r87 r76
theorem r92:Cq OO:=Rn (by rfl) r51 r45
theorem r93:lr OO F21 .leaf:=Tk (by rfl)
theorem r94:B1 OO:=Ww (by rfl) r46 r42 r76
theorem r95:Hn OO:=Yq (by rfl) r94
theorem r96:D0 OO:=T1 (by rfl) r93 r95
theorem r97:Gl OO:=Wa (by rfl) r78
theorem r98:gy OO F8:=zr (by rfl) r30 r51 r92 r96 r97
theorem r99:gy OO F2o:=z3 (by rfl) r80 r83 r85 r86 r21
theorem a7a:M8 OO:=a02 (by rfl)
theorem a6d:uc OO Ft:=a0a (by rfl)
theorem a6u:oq OO F5:=Jt (by rfl) r30 r43 a6d r51
theorem a7t:uc OO F3l:=Wl (by rfl)
theorem a7q:B9 OO:=W1 (by rfl)
theorem a69:oq OO F2i:=Ij (by rfl) r80 r83 a7t a7q
theorem a6e:p8 OO Fa:=Tf (by rfl) r44 r41 r94
theorem a6o:D5 OO:=Sx (by rfl) r9
theorem a7o:p8 OO F2p:=Qx (by rfl) r84 a6o r21
theorem a2m:ti OO:=Mz (by rfl) r43
theorem a29:Bx OO:=Xz (by rfl) r42
theorem Yu:Bm OO:=Yg (by rfl) a29 r77
theorem a78:sd OO:=Q5 (by rfl) r38 r41 a2m r42 r59 a29 Yu
theorem a6h:jz OO:=Au (by rfl) r38 r41 r59 Yu
theorem a6c:vz OO:=Pz (by rfl) r30 a2m r45 Yu
theorem a6z:th OO:=Lh (by rfl) r38 r41 r42
theorem a70:rg OO:=zq (by rfl) r1 r25 r26 r28 r29 r79 r88 r89 r90 r91 r98 r99 a7a a6u a69 a6e a7o a78 a6h a6c a6z r76
theorem law:rg OO:=a70
end Pe
