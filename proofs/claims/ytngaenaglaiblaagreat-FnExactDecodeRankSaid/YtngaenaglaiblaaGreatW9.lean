/-
  A part of the proof: an evaluator for a small form of the code, its soundness, and contracts of functions over it.
-/
import Derived.Test.YtngaenaglaiblaaGreatW1
import Derived.Test.YtngaenaglaiblaaGreatW2
import Derived.Test.YtngaenaglaiblaaGreatW3
import Derived.Test.YtngaenaglaiblaaGreatW4
import Derived.Test.YtngaenaglaiblaaGreatW5
import Derived.Test.YtngaenaglaiblaaGreatW6
import Derived.Test.YtngaenaglaiblaaGreatW7
import Derived.Test.YtngaenaglaiblaaGreatW8

namespace Pe
open Go
noncomputable abbrev OO:am:=den tabF (orA (Gl Ae) (Nz Ef))
theorem aee:a0w OO:=fun l hl=>Sc (T:=tabF) rfl (a5k ((a2k (ids:=Ae) rfl rfl (by simp [aq]; omega)).trans (by simp [aq])))
theorem aif:a5p OO:=fun n hn=>Sc (T:=tabF) rfl (a2j (a4e (ids:=Ef) rfl rfl (by omega) (by omega)) rfl)
theorem r1:wj OO:=a9e (by rfl)
theorem r2:Wp OO:=afd (by rfl) r1
theorem r3:Y3 OO:=af3 (by rfl) r1
theorem r4:Em OO:=a6q (by rfl)
theorem r5:Y8 OO:=ada (by rfl) r4
theorem r6:Xt OO:=aey (by rfl)
theorem r7:Js OO:=a5d (by rfl)
theorem r8:Lm OO:=a5j (by rfl)
theorem r9:E4 OO:=a56 (by rfl)
theorem r10:G7 OO:=a4t (by rfl) r9
theorem r11:Mq OO:=a5a (by rfl) aif
theorem r12:vb OO:=a3a (by rfl)
theorem r13:G8 OO:=a9s (by rfl) r12
theorem r14:Gh OO:=a3y (by rfl)
theorem r15:v6 OO F2f .leaf:=a73 (by rfl)
theorem r16:Cc OO F2c .leaf:=Sw (by rfl) r15
theorem r17:Ch OO F8 .leaf:=a1y (by rfl) (by rfl) r16
theorem r18:Ej OO:=a5l (by rfl) (by rfl) r17
theorem r19:Mo OO:=a4y (by rfl) r14 r18
theorem r20:po OO:=a9m (by rfl)
theorem r21:xq OO:=aev (by rfl)
theorem r22:zt OO:=Wv (by rfl)
theorem r23:qb OO:=a3v (by rfl)
theorem r24:wb OO:=a4k (by rfl)
theorem r25:vk OO:=a89 (by rfl) aee r12 r21 r23 r24
theorem r26:B5 OO:=afe (by rfl) r25
theorem r27:Xo OO:=aeb (by rfl)
theorem r28:Uy OO:=am3 (by rfl)
theorem r29:Bf OO:=a2n (by rfl) r28 r24 r12
theorem r30:Ps OO:=aad (by rfl) r29
theorem r31:sy OO:=abn r30
theorem r32:su OO:=Ph (by rfl) r22 r26 r27 r20 r21 r23 r31
theorem r33:G3 OO:=ab9 (by rfl) r25
theorem r34:S6 OO:=ab5 (by rfl) r12
theorem r35:yr OO:=abl r34
theorem r36:zg OO:=a9w (by rfl) r26 r35
theorem r37:G6 OO:=a51 (by rfl)
theorem r38:o5 OO:=a2v r29
theorem r39:jn OO:=W9 r38
theorem r40:G2 OO:=a58 (by rfl) r25 r35 r39 r21 r23 r31
theorem r41:Yt OO:=aiq (by rfl) r40
theorem r42:Be OO F2:=abc (by rfl)
theorem r43:rj OO F0:=Vj (by rfl) r42
theorem r44:Be OO F3:=a45 (by rfl)
theorem r45:rj OO F1:=R0 (by rfl) r44
theorem r46:Ca OO:=a2i (by rfl) r43 r45
theorem r47:xi OO:=Uk (by rfl)
theorem r48:yp OO F29:=a9y (by rfl)
theorem r49:yp OO F27:=aji (by rfl) r48
theorem r50:D7 OO:=Y9 (by rfl) (by rfl) r47 r49
theorem r51:Hf OO:=a44 (by rfl) (by rfl) r32 r33 r20 r36 r37 r39 r41 r21 r23 r31 r46 r50
theorem r52:a7u OO:=ah5 r51
theorem r53:S1 OO:=aag (by rfl) r21 r20 r52
theorem r54:Gm OO:=a3o (by rfl) r13 r19 r20 r9 r53
theorem r55:zd OO:=aai r13
theorem r56:xv OO:=a28 (by rfl) r55
theorem r57:J0 OO:=aaw (by rfl) r18 r13 r20
theorem r58:v6 OO F2g (.arr 64 .leaf):=a5v (by rfl)
theorem r59:Cc OO F2d (.arr 64 .leaf):=V9 (by rfl) r58
theorem r60:Ch OO Fa (.arr 64 .leaf):=a35 (by rfl) (by rfl) r59
theorem r61:uz OO F1l:=a48 (by rfl) r54 r56 r57 r60
theorem r62:Qe OO:=adm (by rfl) r55
theorem r63:Ex OO:=a9h (by rfl)
theorem r64:Bb OO:=a37 (by rfl) (by rfl) r63 r49
theorem r65:H2 OO:=a2x (by rfl) (by rfl) r28 r38 r21 r23 r31 r64
theorem r66:Qd OO:=af7 (by rfl) r65
theorem r67:Gb OO:=a6k (by rfl) r11 r61 r62 r66
theorem r68:sk OO:=adw (by rfl) r36 r20
theorem r69:jl OO:=a3k (by rfl) r35 r26
theorem r70:rx OO:=Vc (by rfl) r40 r26
theorem r71:Cv OO:=Ya (by rfl) r39 r69 r70 r31
theorem r72:A4 OO:=a8y (by rfl)
theorem r73:Iv OO:=abh (by rfl)
theorem r74:Ei OO:=a8a (by rfl)
theorem r75:Re OO:=afh (by rfl)
theorem r76:Q4 OO:=afn (by rfl) r75 r38 r72
theorem r77:rp OO:=Y7 r38
theorem r78:afj OO:=anb (by rfl) r68 r69 r77 r72
theorem r79:a09 OO:=aiw r78
theorem r80:a6j OO Fh true:=ad8 (by rfl) r68 r70 r20 r73 r69 r74 r76 r79
theorem r81:Jd OO:=ab7 (by rfl) r68 r69 r77
theorem r82:Mg OO:=a4j (by rfl) r81
theorem r83:Df OO:=W4 (by rfl) r39 r66
theorem r84:En OO:=a4o (by rfl) r68 r31 r71 r72 r80 r82 r83
theorem r85:Xn OO:=aez (by rfl)
theorem r86:Rj OO:=ae0 r85
theorem r87:It OO:=abb (by rfl) r86
theorem r88:qf OO F4:=Pz (by rfl) r10 r67 r56 r62 r84 r87
theorem r89:Xv OO:=aex (by rfl) r55
theorem r90:zc OO:=Qy (by rfl) r10 r67 r56 r89 r84 r87
theorem r91:Jj OO:=a54 (by rfl)
theorem r92:a14 OO:=ajh (by rfl) r91
theorem r93:Y5 OO:=adv (by rfl)
theorem r94:jw OO:=af6 r93
theorem r95:My OO:=a8v (by rfl) r94
theorem r96:a1p OO:=ah3 (by rfl)
theorem r97:tc OO:=X6 (by rfl)
theorem r98:th OO:=a2f (by rfl) r94 r97
theorem r99:Da OO:=aei (by rfl) r98
theorem adq:Ma OO:=afm (by rfl)
theorem ame:Yl OO:=ain (by rfl) r94 r97
theorem S8:m8 OO:=aff (by rfl)
theorem a9p:im OO:=a2e (by rfl) r94 ame S8 r99
theorem ahd:ve OO:=a2h (by rfl) adq r99 a9p
theorem anu:ym OO:=a95 (by rfl) r94
theorem aia:Cb OO:=a2s (by rfl) adq r94 r98 anu S8 r97
theorem anv:Qq OO:=adj (by rfl) r94 aia
theorem amy:ac3 OO:=amz (by rfl)
theorem anz:Wj OO:=adx (by rfl) r94 r99 ahd anv S8 amy
theorem ao4:Mp OO:=a7f (by rfl) r92 r95 r94 r96 anz
theorem ang:R9 OO:=ad9 (by rfl) r92 r94
theorem amr:uz OO F42:=a2c (by rfl) ao4 ang
theorem amu:Qo OO:=af9 (by rfl) r94 r97 S8
theorem ajo:Ip OO:=aaj (by rfl) amu
theorem alz:Xl OO:=aeg (by rfl) amr ajo
theorem an4:M2 OO:=a7h (by rfl) alz r96
theorem aa3:p8 OO:=abw (by rfl) ahd r94
theorem adg:si OO:=afl S8
theorem aih:zj OO:=abp (by rfl) r99 aia
theorem amg:Rx OO:=ab4 (by rfl) r94 adg a9p aih adq
theorem anp:Q5 OO:=abe (by rfl)
theorem aje:Eg OO:=a8j (by rfl)
theorem ahu:Ec OO:=aak aje
theorem an9:Iz OO:=ab8 (by rfl)
theorem aml:Gj OO:=a34 (by rfl) aje aa3 a9p S8
theorem anj:Cj OO:=a21 aml
theorem ao1:J8 OO:=aay (by rfl) S8
theorem anr:Wf OO F3z true:=a9x (by rfl) r94 aa3 aih a9p an9 anj ao1 ahu
theorem ao6:E5 OO:=a4w (by rfl) aa3 a9p S8
theorem an6:He OO:=a22 (by rfl) ao6
theorem am4:Ai OO:=Sd (by rfl) adg ajo
theorem an3:H6 OO:=a31 (by rfl) aa3 adg amg anp ahu anr an6 am4
theorem ant:qf OO F3b:=N6 (by rfl) an4 an3
theorem amm:za OO:=L6 (by rfl) r1 r2 r3 r5 r6 r7 r8 r88 r90 ant
theorem law:za OO:=amm
end Pe
