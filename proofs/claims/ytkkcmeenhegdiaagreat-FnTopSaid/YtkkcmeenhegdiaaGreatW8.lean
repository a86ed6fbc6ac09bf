/-
  A part of the proof: an evaluator for a small form of the code, its soundness, and contracts of functions over it.
-/
import Derived.Test.YtkkcmeenhegdiaaGreatW1
import Derived.Test.YtkkcmeenhegdiaaGreatW2
import Derived.Test.YtkkcmeenhegdiaaGreatW3
import Derived.Test.YtkkcmeenhegdiaaGreatW4
import Derived.Test.YtkkcmeenhegdiaaGreatW5
import Derived.Test.YtkkcmeenhegdiaaGreatW6
import Derived.Test.YtkkcmeenhegdiaaGreatW7

namespace Pe
open Go
noncomputable abbrev OO:ap:=den tabF (orA (Et zm) (Y9 Hx))
theorem a9r:W6 OO:=fun l hl=>Se (T:=tabF) rfl (a27 ((a13 (ids:=zm) rfl rfl (by simp [ah]; omega)).trans (by simp [ah])))
theorem a7z:rg OO:=fun xs v n i cap h1 h2 h3=>Se (T:=tabF) rfl (Yq (a8o (ids:=Hx) rfl h1 h2 h3) rfl)
theorem r1:a5b OO:=ado (by rfl)
theorem r2:Tb OO:=a9n (by rfl)
theorem r3:Iq OO F21:=a7k (by rfl)
theorem r4:O0 OO:=a8d (by rfl) r3
theorem r5:Aj OO:=a10 (by rfl)
theorem r6:ti OO:=a9m (by rfl)
theorem r7:kf OO:=Tf (by rfl)
theorem r8:I8 OO:=a2r (by rfl) r6 r7
theorem r9:gy OO F2e .leaf:=a50 (by rfl)
theorem r10:my OO:=a9f (by rfl)
theorem r11:me OO:=a5l (by rfl)
theorem r12:u5 OO:=a02 (by rfl)
theorem r13:gq OO:=a0n (by rfl)
theorem r14:uu OO:=a3h (by rfl)
theorem r15:t7 OO:=a32 (by rfl) a9r r12 r10 r13 r14
theorem r16:uo OO:=a9k (by rfl) r15
theorem r17:Bf OO:=ajh (by rfl)
theorem r18:Ah OO:=a07 (by rfl) r17 r14 r12
theorem r19:N9 OO:=a8i (by rfl) r18
theorem r20:Ag OO:=a7u r19
theorem r21:ro OO:=Nn (by rfl) r7 r16 r6 r11 r10 r13 r20
theorem r22:D6 OO:=a65 (by rfl) r15
theorem r23:Ot OO:=a7i (by rfl) r12
theorem r24:rh OO:=a6n r23
theorem r25:Ai OO:=a6s (by rfl) r16 r24
theorem r26:zk OO:=a4u (by rfl)
theorem r27:fu OO:=a0a r18
theorem r28:rx OO:=Th r27
theorem r29:J9 OO:=a49 (by rfl) r15 r24 r28 r10 r13 r20
theorem r30:L4 OO:=afn (by rfl) r29
theorem r31:B8 OO F3:=a8p (by rfl)
theorem r32:qj OO F0:=Tn (by rfl) r31
theorem r33:B8 OO F4:=a0s (by rfl)
theorem r34:qj OO F2:=Mo (by rfl) r33
theorem r35:Al OO:=Y6 (by rfl) r32 r34
theorem r36:vg OO:=Rh (by rfl)
theorem r37:Am OO F27:=a6d (by rfl)
theorem r38:Am OO F25:=aem (by rfl) r37
theorem r39:Br OO:=Uh (by rfl) (by rfl) r36 r38
theorem r40:Ee OO:=a09 (by rfl) (by rfl) r21 r22 r11 r25 r26 r28 r30 r10 r13 r20 r35 r39
theorem r41:Lz OO:=ag2 r40
theorem r42:H5 OO:=a75 (by rfl) r10 r11 r41
theorem r43:Ow OO:=aap (by rfl) r42
theorem r44:J0 OO:=a2q (by rfl) r9 r43
theorem r45:Of OO:=aav (by rfl)
theorem r46:N0 OO:=aa5 r45
theorem r47:Mq OO:=a6i (by rfl) r46
theorem r48:lg OO F9:=Ef (by rfl) r5 r6 r8 r44 r47
theorem r49:zy OO:=a5d (by rfl)
theorem r50:X3 OO:=ae9 (by rfl)
theorem r51:zz OO:=a3k (by rfl)
theorem r52:Ww OO:=af5 (by rfl)
theorem r53:Tq OO:=aam (by rfl)
theorem r54:m8 OO:=aae r53
theorem r55:nm OO:=Vu (by rfl)
theorem r56:s9 OO:=a0c (by rfl) r54 r55
theorem r57:By OO:=aau (by rfl) r56
theorem r58:Mr OO:=a9x (by rfl)
theorem r59:Wc OO:=ad8 (by rfl) r54 r55
theorem r60:pq OO:=a9g (by rfl)
theorem r61:x9 OO:=a0o (by rfl) r54 r59 r60 r57
theorem r62:wm OO:=a04 (by rfl) r58 r57 r61
theorem r63:wq OO:=a3v (by rfl) r54
theorem r64:Dx OO:=Yt (by rfl) r58 r54 r56 r63 r60 r55
theorem r65:O7 OO:=a9h (by rfl) r54 r64
theorem r66:a2n OO:=ajc (by rfl)
theorem r67:Nj OO:=aag (by rfl) r54 r57 r62 r65 r60 r66
theorem r68:lg OO F30:=D3 (by rfl) r49 r50 r51 r52 r67
theorem r69:Tv OO:=aa7 (by rfl)
theorem r70:gy OO F2c .leaf:=a23 (by rfl)
theorem r71:Av OO F29 .leaf:=Q4 (by rfl) r70
theorem r72:Ap OO Fh .leaf:=Yc (by rfl) (by rfl) r71
theorem r73:D9 OO:=a4c (by rfl) (by rfl) r72
theorem r74:gy OO F2d (.arr 64 .leaf):=a2f (by rfl)
theorem r75:Av OO F2a (.arr 64 .leaf):=Qb (by rfl) r74
theorem r76:Ap OO Fj (.arr 64 .leaf):=Yr (by rfl) (by rfl) r75
theorem r77:ni OO:=Pc (by rfl) (by rfl) r5 r73 r76
theorem r78:Nu OO:=a66 (by rfl) r12
theorem r79:qa OO:=a6b r78
theorem r80:Dl OO:=a1i (by rfl)
theorem r81:vj OO:=Sr (by rfl) r79 r10 r11 r80
theorem r82:xo OO:=Vk (by rfl) r77 r81
theorem r83:C5 OO:=Vy r27
theorem r84:Jj OO:=a9e (by rfl) r26 r24 r25 r83 r16
theorem r85:wd OO:=aa2 (by rfl) r84
theorem r86:uy OO:=abk (by rfl)
theorem r87:H_relO OO:=a9u r85 r17 r10 r13 r27 r9 r86 a7z
theorem r88:Bx OO:=Tx (by rfl) r87
theorem r89:Dj OO:=a74 (by rfl) r16 r88
theorem r90:Ru OO:=ag3 (by rfl) r24 r30 r15
theorem r91:V7 OO:=aa3 (by rfl) r11
theorem r92:zu OO:=ab6 (by rfl) r91 r45
theorem r93:wv OO F8:=O4 (by rfl) r82 r79 r11 r6 r7 r89 r90 r92
theorem r94:Xj OO:=afh (by rfl) r49
theorem r95:Mv OO:=a7g (by rfl) r49 r94
theorem r96:Hz OO:=a3t (by rfl) r54
theorem r97:Cf OO:=U1 (by rfl) r95 r96 r54 r50
theorem r98:yh OO:=a7y (by rfl) r66 r57 r61 r62 r60
theorem r99:In OO:=a2u (by rfl) r98 r54 r60 r55
theorem aiy:zq OO:=Rl (by rfl) r54 r99
theorem ajy:wv OO F2z:=Jz (by rfl) r97 aiy
theorem aiu:qx OO F6 1:=W2 (by rfl) r77 r79 r27 r92
theorem aiw:qx OO Fg (-1):=Gp (by rfl) r77 r79 r27 r92
theorem ak3:tg OO:=Gs (by rfl) r77 r79 r24 r92
theorem aex:Dr OO:=a6p (by rfl)
theorem af1:Dc OO:=a8f (by rfl) aex r24 r16
theorem aix:ze OO:=Sq (by rfl) r11 r6 r7 af1
theorem ajd:we OO Ff:=Jx (by rfl) r82 r79 r42 aix r92
theorem afc:B9 OO:=Yf (by rfl) r77 r81
theorem aij:wb OO Fe:=Jy (by rfl) afc r79 r30 aex r41 af1
theorem ajt:xv OO Fm:=N6 (by rfl) r77 r79 r11 r80
theorem ak4:E8 OO F7:=a0b (by rfl) ajt r79 r41 r11 r6
theorem ai6:Tk OO:=a9y (by rfl) r27 r84 r16
theorem ai8:O6 OO:=a8a (by rfl) afc r79 ai6 r92
theorem ak2:a3g OO:=a81 (by rfl) r1 r2 r3 r4 r48 r68 r69 r93 ajy aiu aiw ak3 ajd aij ak4 ai8 r41
theorem law:a3g OO:=ak2
end Pe
