/-
  A part of the proof: an evaluator for a small form of the code, its soundness, and contracts of functions over it.
-/
import Derived.Test.YtjccdlpphbjckaaGreatW1
import Derived.Test.YtjccdlpphbjckaaGreatW2
import Derived.Test.YtjccdlpphbjckaaGreatW3
import Derived.Test.YtjccdlpphbjckaaGreatW4
import Derived.Test.YtjccdlpphbjckaaGreatW5
import Derived.Test.YtjccdlpphbjckaaGreatW6
import Derived.Test.YtjccdlpphbjckaaGreatW7
import Derived.Test.YtjccdlpphbjckaaGreatW8

namespace Pe
open Go
noncomputable abbrev OO:ap:=den tabF (orA (H7 Ay) (Oy G0))
theorem agj:a1i OO:=fun l hl=>Vk (T:=tabF) rfl (a65 ((a3z (ids:=Ay) rfl rfl (by simp [aq]; omega)).trans (by simp [aq])))
theorem aiw:a9c OO:=fun n hn=>Vk (T:=tabF) rfl (a3y (a5h (ids:=G0) rfl rfl (by omega) (by omega)) rfl)
theorem r1:a9w OO:=al1 (by rfl)
theorem r2:D8 OO:=aex (by rfl)
theorem r3:Dl OO:=adq (by rfl)
theorem r4:px OO F40:=aei (by rfl)
theorem r5:Xl OO:=ag3 (by rfl) r4
theorem r6:Ao OO:=Up (by rfl) r5
theorem r7:a46 OO:=ao4 (by rfl)
theorem r8:kb OO:=afn r3
theorem r9:u9 OO:=Wr (by rfl)
theorem r10:u7 OO:=a4g (by rfl) r8 r9
theorem r11:Ap OO:=af4 (by rfl) r10
theorem r12:A4 OO:=aeb (by rfl)
theorem r13:a1j OO:=ajx (by rfl) r8 r9
theorem r14:lk OO:=aej (by rfl)
theorem r15:lf OO:=a4w (by rfl) r8 r13 r14 r11
theorem r16:tc OO:=a3w (by rfl) r12 r11 r15
theorem r17:yb OO:=a9l (by rfl) r8
theorem r18:Bw OO:=a2e (by rfl) r12 r8 r10 r17 r14 r9
theorem r19:T8 OO:=aff (by rfl) r8 r18
theorem r20:D3 OO:=adx (by rfl) r8 r11 r16 r19 r14 r7
theorem r21:Bh OO:=a3q (by rfl) r4 r7 r20
theorem r22:sb OO:=J1 (by rfl) r6 r4 r21 r20 r7
theorem r23:sm OO:=Y9 (by rfl) r3 r22
theorem r24:Hp OO:=aes (by rfl) r4
theorem r25:jr OO:=Ht (by rfl) r3 r24 r4
theorem r26:Hx OO:=a3u (by rfl) r4 r25
theorem r27:zk OO:=af9 (by rfl) r8 r9 r14
theorem r28:Gf OO:=acb (by rfl) r27
theorem r29:B9 OO:=a4z (by rfl)
theorem r30:B8 OO:=Ux (by rfl) r3 r4 r26 r24 r28 r29 r27 r25
theorem r31:p8 OO F3b:=Nv (by rfl) r2 r23 r30
theorem r32:vu OO:=a3a (by rfl) r25
theorem r33:sj OO:=Da (by rfl) r2 r23 r4 r32
theorem r34:p8 OO F3e:=Qx (by rfl) r2 r23 r4 r32
theorem r35:p8 OO F3a:=Iw (by rfl) r2 r23 r4 r32
theorem r36:p8 OO F3d:=H6 (by rfl) r2 r23 r4 r32
theorem r37:wc OO:=a49 (by rfl)
theorem r38:G2 OO:=ac6 (by rfl) r37
theorem r39:Hy OO:=a3m (by rfl)
theorem r40:wa OO F2d .leaf:=a5w (by rfl)
theorem r41:Bp OO F2a .leaf:=Vd (by rfl) r40
theorem r42:Bm OO Fe .leaf:=a2g (by rfl) (by rfl) r41
theorem r43:El OO:=a81 (by rfl) (by rfl) r42
theorem r44:Me OO:=a7x (by rfl) r39 r43
theorem r45:pu OO:=a6j (by rfl)
theorem r46:Np OO:=a8w (by rfl)
theorem r47:y7 OO:=age (by rfl)
theorem r48:zq OO:=Wn (by rfl)
theorem r49:rf OO:=a3d (by rfl)
theorem r50:ww OO:=a8e (by rfl)
theorem r51:wm OO:=a7e (by rfl) agj r37 r47 r49 r50
theorem r52:Bd OO:=aen (by rfl) r51
theorem r53:Ym OO:=ae8 (by rfl)
theorem r54:Uu OO:=aom (by rfl)
theorem r55:Cf OO:=a3v (by rfl) r54 r50 r37
theorem r56:Sz OO:=aad (by rfl) r55
theorem r57:uq OO:=ab9 r56
theorem r58:tg OO:=Sx (by rfl) r48 r52 r53 r45 r47 r49 r57
theorem r59:Gh OO:=aaf (by rfl) r51
theorem r60:Rg OO:=ab2 (by rfl) r37
theorem r61:yw OO:=aao r60
theorem r62:zz OO:=aal (by rfl) r52 r61
theorem r63:Ek OO:=a7j (by rfl)
theorem r64:o5 OO:=a4s r55
theorem r65:pz OO:=Xf r64
theorem r66:Ef OO:=a9d (by rfl) r51 r61 r65 r47 r49 r57
theorem r67:a1u OO:=ail (by rfl) r66
theorem r68:Bo OO F2:=abt (by rfl)
theorem r69:sv OO F0:=Wo (by rfl) r68
theorem r70:Bo OO F3:=a32 (by rfl)
theorem r71:sv OO F1:=Sv (by rfl) r70
theorem r72:Br OO:=a4r (by rfl) r69 r71
theorem r73:xr OO:=Vq (by rfl)
theorem r74:A3 OO F27:=ac1 (by rfl)
theorem r75:A3 OO F25:=akd (by rfl) r74
theorem r76:Ds OO:=Yo (by rfl) (by rfl) r73 r75
theorem r77:Ha OO:=a38 (by rfl) (by rfl) r58 r59 r45 r62 r63 r65 r67 r47 r49 r57 r72 r76
theorem r78:a6q OO:=akj r77
theorem r79:T2 OO:=abk (by rfl) r47 r45 r78
theorem r80:H5 OO:=a3e (by rfl) r38 r44 r45 r46 r79
theorem r81:za OO:=act r38
theorem r82:u5 OO:=a4u (by rfl) r81
theorem r83:Jo OO:=ab0 (by rfl) r43 r38 r45
theorem r84:wa OO F2e (.arr 64 .leaf):=a9v (by rfl)
theorem r85:Bp OO F2b (.arr 64 .leaf):=V1 (by rfl) r84
theorem r86:Bm OO Fg (.arr 64 .leaf):=a4i (by rfl) (by rfl) r85
theorem r87:lg OO F1n:=a3f (by rfl) r80 r82 r83 r86
theorem r88:wh OO:=Wu (by rfl) r87
theorem r89:Aj OO:=afq (by rfl) r81
theorem r90:v8 OO:=aep (by rfl) r62 r45
theorem r91:J7 OO:=acl (by rfl) r90
theorem r92:nk OO:=a4c (by rfl) r61 r52
theorem r93:a9t OO:=aj3 (by rfl) r64 r92
theorem r94:Xo OO:=afb (by rfl) r45
theorem r95:Sj OO:=af8 (by rfl)
theorem r96:a00 OO:=ael (by rfl) r94 r95
theorem r97:ua OO F7:=X2 (by rfl) r88 r82 r89 r91 r93 r96
theorem r98:Ma OO:=a8t (by rfl)
theorem r99:a1r OO:=akw (by rfl) r98
theorem ap2:Mc OO:=a55 (by rfl) r8
theorem anu:aa4 OO:=aih (by rfl)
theorem ano:L8 OO:=a91 (by rfl) r99 ap2 r8 anu r20
theorem anm:S0 OO:=ag6 (by rfl) r99 r8
theorem ab8:lg OO F4j:=a2u (by rfl) ano anm
theorem ae1:yl OO:=a2s (by rfl) ab8
theorem aaz:pn OO:=ab4 (by rfl) r16 r8
theorem an9:L7 OO:=a72 (by rfl) aaz
theorem anl:H9 OO:=a3o (by rfl)
theorem aj9:Aw OO:=ae7 r14
theorem ao8:Jn OO:=ac3 (by rfl) r11 r18
theorem apf:Y7 OO:=ag9 (by rfl) r12 r8 aj9 r15 ao8
theorem an6:T9 OO:=abn (by rfl) r12
theorem aoi:ua OO F3f:=Vv (by rfl) ae1 an9 anl apf an6 r11
theorem akl:Hk OO:=ag4 r95
theorem af3:Co OO:=ac7 (by rfl) akl
theorem ao6:pb OO F8:=O3 (by rfl) r88 r82 r89 r91 af3
theorem apm:Mn OO:=a8l (by rfl) aaz
theorem apo:pb OO F3g:=Li (by rfl) ae1 apm
theorem apa:Mp OO:=a5g (by rfl)
theorem apt:G1 OO:=a90 (by rfl)
theorem aot:Bx OO:=a4d (by rfl) (by rfl) apt r75
theorem ak7:Bq OO:=a31 (by rfl) (by rfl) r54 r64 r47 r49 r57 aot
theorem ap5:wj OO Fc:=a76 (by rfl) r87 r89 ak7 af3
theorem afs:Ey OO:=ack (by rfl) r27
theorem anw:wj OO F3j:=a2m (by rfl) ab8 afs
theorem aoy:M1 OO:=a5j (by rfl)
theorem ahw:si OO:=Wf r64
theorem aoz:Jm OO:=ab1 (by rfl) r90 r92 ahw
theorem ane:zx OO:=Xh (by rfl) r66 r52
theorem aog:Lp OO:=a87 (by rfl)
theorem apq:adw OO:=ap4 (by rfl) r90 r92 ahw aog
theorem anq:a0w OO:=aix apq
theorem ajf:Jj OO:=aag (by rfl) aoy aoz r90 ane r92 r57 anq
theorem aou:pv OO F4:=Um (by rfl) r87 r89 r82 ajf af3
theorem ako:E9 OO:=a96 (by rfl)
theorem anx:Jh OO:=acm ako
theorem apu:Rr OO:=ace (by rfl) r12
theorem anp:Gb OO:=a6f (by rfl) aaz r15 r14
theorem aov:Gt OO:=a3t (by rfl) ako aaz r15 r14
theorem anh:Bz OO:=a2v aov
theorem aox:Gr OO:=a4h (by rfl) apu anp r8 r16 r14 r12 anh
theorem ap1:pv OO F39:=Rp (by rfl) ab8 anx aox
theorem ap8:Td OO:=ab3 (by rfl)
theorem aos:N9 OO:=a6b (by rfl) ap8 akl
theorem ana:xp OO F6:=Tw (by rfl) r87 r81 r82 ajf aos
theorem ai6:Qq OO:=ae3 (by rfl) ak7
theorem aoh:oq OO Fb:=Sa (by rfl) r88 r89 ai6
theorem aob:oq OO F3i:=O7 (by rfl) ae1 afs
theorem ap9:M8 OO:=a88 (by rfl) aiw
theorem ap7:Dc OO:=X8 (by rfl) r65 ai6
theorem ap0:nv OO Fa:=Lq (by rfl) ap9 r87 r89 ap7
theorem aoe:Az OO:=Vj (by rfl) aj9 afs
theorem apg:nv OO F3h:=J0 (by rfl) ab8 aoe
theorem ank:Sf OO:=a36 (by rfl) r1 r31 r33 r34 r35 r36 r97 aoi ao6 apo apa ap5 anw aou ap1 ana aoh aob ap0 apg
theorem law:Sf OO:=ank
end Pe
