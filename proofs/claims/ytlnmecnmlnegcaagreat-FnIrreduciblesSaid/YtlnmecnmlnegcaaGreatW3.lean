/-
  A part of the proof: an evaluator for a small form of the code, its soundness, and contracts of functions over it.
-/
import GoSem.Core.View
import Derived.Test.YtlnmecnmlnegcaaGreatW1
import Derived.Test.YtlnmecnmlnegcaaGreatW2

/-
 Functions of the program in the small form,printed by a program.
-/
namespace Pe
open Go
def Z1l_L0:Cd:=
 .seq (.seq (.region [Lw 6 3,
 Ll 7 (.bin .gtr (.t 6) (Acx 0)),
 Lw 8 7,
 Lx 9 0 8 true,
 Lx 10 3 8 true,
 Lg 11 (.bin .sub (.t 10) (Acx 1)) 8 true,
 Lg 12 (.idxA none .leaf (.t 9) (.t 11)) 8 true,
 Lg 13 (.load .leaf (.t 12)) 8 true,
 Lg 14 (.bin .eql (.t 13) (Acx 0)) 8 true,
 Ll 15 (.pick (.t 8) (.t 14) (.c (.bool false)))] [0,3,15])
 (.cond (.t 15)
 (.skip)
 (.exit 0)))
 (.block 1 (.region [Lw 16 3,
 Ll 17 (.bin .sub (.t 16) (Acx 1)),
 Lw 3 17] [0,3]))
def Z1l_B:Cd:=
 .seq (.region [Ll 2 (.mv (.c (.sl .leaf [])))] [0])
 (.seq (.region [Lw 4 0,
 Ll 5 (.len false (.t 4)),
 Lw 3 5] [0,3])
 (.seq (.block 0 (.loop (Z1l_L0)))
 (.seq (.region [Lw 18 0,
 Lw 19 3,
 Lw 20 3,
 Ll 21 (.cut none .leaf (.t 18) none (some (.t 19)) (some (.t 20))),
 Lw 2 21] [2])
 (.ret))))
def Z1l:Fn:=
 { nparams:=1,nblk:=0,results:=[.tmp 2],body:=Z1l_B }
def Z1f_L0:Cd:=
 .seq (.region [Ll 8 (.bin .lss (.t 7) (Acx 64))] [3,6,7,8])
 (.seq (.cond (.t 8)
 (.skip)
 (.exit 0))
 (.seq (.block 1 (.seq (.region [Ll 9 (.idx (some 64) .leaf (.t 6) (.t 7)),
 Lw 5 9] [3,5,6,7])
 (.region [Lw 10 3,
 Lw 11 5,
 Ll 12 (.conv .i64 (.t 11)),
 Ll 13 (.buildSl false 2 .leaf (.int .i64 0) 1 [(0,(.t 12))]),
 Ll 14 (.append .leaf 3 8 (.t 10) (.t 13)),
 Lw 3 14] [3,6,7])))
 (.region [Ll 15 (.bin .add (.t 7) (Acx 1)),
 Lw 7 15] [3,6,7])))
def Z1f_B:Cd:=
 .seq (.region [Ll 1 (.box false 0 (.t 0)),
 Ll 2 (.mv (.c (.sl .leaf [])))] [1])
 (.seq (.region [Ll 3 (.nilOwn 1 .leaf)] [1,3])
 (.seq (.seq (.region [Ipx 6 1,
 Ll 7 (.mv (Acx 0))] [3,6,7])
 (.block 0 (.loop (Z1f_L0))))
 (.seq (.region [Lw 16 3,
 Ll 17 (.call .data [] (.f F1l) [(.t 16)]),
 Lw 2 17] [2])
 (.ret))))
def Z1f:Fn:=
 { nparams:=1,nblk:=4,results:=[.tmp 2],body:=Z1f_B }
def Z1h_B:Cd:=
 .seq (.region [Ll 2 (.mv (Acx 0))] [0])
 (.seq (.region [Lw 3 0,
 Ll 4 (.len false (.t 3)),
 Ll 5 (.bin .sub (.t 4) (Acx 1)),
 Lw 2 5] [2])
 (.ret))
def Z1h:Fn:=
 { nparams:=1,nblk:=0,results:=[.tmp 2],body:=Z1h_B }
def Zr_B:Cd:=
 .seq (.region [Ll 2 (.mv (.c (.bool false)))] [0])
 (.seq (.region [Lw 3 0,
 Ll 4 (.bin .eql (.t 3) (Acx 2)),
 Lw 5 4,
 Lx 6 0 5 false,
 Lg 7 (.bin .eql (.t 6) (Acx 3)) 5 false,
 Ll 8 (.pick (.t 5) (.c (.bool true)) (.t 7)),
 Lw 9 8,
 Lx 10 0 9 false,
 Lg 11 (.bin .eql (.t 10) (Acx 5)) 9 false,
 Ll 12 (.pick (.t 9) (.c (.bool true)) (.t 11)),
 Lw 13 12,
 Lx 14 0 13 false,
 Lg 15 (.bin .eql (.t 14) (Acx 7)) 13 false,
 Ll 16 (.pick (.t 13) (.c (.bool true)) (.t 15)),
 Lw 2 16] [2])
 (.ret))
def Zr:Fn:=
 { nparams:=1,nblk:=0,results:=[.tmp 2],body:=Zr_B }
def Zj_B:Cd:=
 .seq (.region [Ll 2 (.box false 0 (.t 0)),
 Ll 3 (.mv (.c (.bool false)))] [1,2])
 (.seq (.region [Ilx 4 1,
 Ipx 5 2,
 Ll 6 (.call .flat [] (.t 4) [(.t 5)]),
 Ll 7 (.un .not (.t 6)),
 Lw 3 7] [3])
 (.ret))
def Zj:Fn:=
 { nparams:=2,nblk:=1,results:=[.tmp 3],body:=Zj_B }
def Zi_B:Cd:=
 .seq (.region [Ll 3 (.box false 0 (.t 1)),
 Ll 4 (.mv (.c (.bool false)))] [0,3])
 (.seq (.region [Lw 5 0,
 Ll 6 (.mkFn Fj [] [(.t 3)]),
 Ll 7 (Ofx F1x [(.t 5),(.t 6)]),
 Ll 8 (.un .not (.t 7)),
 Lw 4 8] [4])
 (.ret))
def Zi:Fn:=
 { nparams:=2,nblk:=1,results:=[.tmp 4],body:=Zi_B }
def Zh_B:Cd:=
 .seq (.region [Ll 3 (.mv (.c (.bool false)))] [0,1])
 (.seq (.region [Ilx 4 1,
 Lw 5 0,
 Ll 6 (.call .flat [] (.t 4) [(.t 5)]),
 Ll 7 (.un .not (.t 6)),
 Lw 3 7] [3])
 (.ret))
def Zh:Fn:=
 { nparams:=2,nblk:=0,results:=[.tmp 3],body:=Zh_B }
def Zg_B:Cd:=
 .seq (.region [Ll 3 (.box false 0 (.t 1)),
 Ll 4 (.mv (.c (.bool false)))] [0,3])
 (.seq (.region [Lw 5 0,
 Ll 6 (.mkFn Fh [] [(.t 3)]),
 Ll 7 (Ofx F1w [(.t 5),(.t 6)]),
 Ll 8 (.un .not (.t 7)),
 Lw 4 8] [4])
 (.ret))
def Zg:Fn:=
 { nparams:=2,nblk:=1,results:=[.tmp 4],body:=Zg_B }
def Zq_B:Cd:=
 .seq (.region [Ll 3 (.mv (.c (.bool false)))] [0,1])
 (.seq (.region [Lw 4 0,
 Ll 5 (.conv .i64 (.t 4)),
 Ilx 6 1,
 Ll 7 (.bin .lss (.t 5) (.t 6)),
 Lw 3 7] [3])
 (.ret))
def Zq:Fn:=
 { nparams:=2,nblk:=0,results:=[.tmp 3],body:=Zq_B }
def Zo_B:Cd:=
 .seq (.region [Ll 2 (.box false 0 (.t 0)),
 Ll 3 (.box false 1 (.t 1)),
 Ll 4 (.mv (.c (.bool false)))] [2,3])
 (.seq (.region [Ll 5 (.cut (some 64) .leaf (.t 3) none none none),
 Ll 6 (.mkFn Fq [] [(.t 2)]),
 Ll 7 (Ofx Fg [(.t 5),(.t 6)]),
 Lw 4 7] [4])
 (.ret))
def Zo:Fn:=
 { nparams:=2,nblk:=2,results:=[.tmp 4],body:=Zo_B }
def Zw_B:Cd:=
 .seq (.region [Ll 2 (.box false 0 (.t 0)),
 Ll 3 (.mv (.c (.bool false)))] [1,2])
 (.seq (.region [Ilx 4 1,
 Ipx 5 2,
 Ll 6 (Ofx Fo [(.t 4),(.t 5)]),
 Lw 3 6] [3])
 (.ret))
def Zw:Fn:=
 { nparams:=2,nblk:=1,results:=[.tmp 3],body:=Zw_B }
def Zv_B:Cd:=
 .seq (.region [Ll 2 (.box false 0 (.t 0)),
 Ll 4 (.mv (Acx 0))] [1,2])
 (.seq (.seq (.region [Ilx 5 2,
 Ll 6 (Ofx Fr [(.t 5)]),
 Ll 7 (.un .not (.t 6)),
 Lw 8 7,
 Lx 9 1 8 false,
 Lg 10 (.mkFn Fw [] [(.t 2)]) 8 false,
 Lg 11 (Ofx Fi [(.t 9),(.t 10)]) 8 false,
 Lg 12 (.un .not (.t 11)) 8 false,
 Ll 13 (.pick (.t 8) (.c (.bool true)) (.t 12))] [13])
 (.cond (.t 13)
 (.seq (.region [Ll 4 (.mv (Acx 1))] [4])
 (.ret))
 (.skip)))
 (.seq (.region [Ll 4 (.mv (Acx 0))] [4])
 (.ret)))
def Zv:Fn:=
 { nparams:=2,nblk:=1,results:=[.tmp 4],body:=Zv_B }
def Z1n_B:Cd:=
 .seq (.region [Ll 6 (.mv (.c (.bool false)))] [0,1,2])
 (.seq (.region [Lw 7 1,
 Lw 8 0,
 Ll 9 (.bin .leq (.t 7) (.t 8)),
 Lw 10 9,
 Lx 11 0 10 true,
 Lx 12 2 10 true,
 Lg 13 (.bin .leq (.t 11) (.t 12)) 10 true,
 Ll 14 (.pick (.t 10) (.t 13) (.c (.bool false))),
 Lw 6 14] [6])
 (.ret))
def Z1n:Fn:=
 { nparams:=3,nblk:=0,results:=[.tmp 6],body:=Z1n_B }
def Z1j_B:Cd:=
 .seq (.region [Ll 2 (.mv (Acx 0))] [0])
 (.seq (.seq (.region [Lw 3 0,
 Ll 4 (.len false (.t 3)),
 Ll 5 (.bin .eql (.t 4) (Acx 0))] [0,5])
 (.cond (.t 5)
 (.seq (.region [Ll 2 (.mv (Acx 0))] [2])
 (.ret))
 (.skip)))
 (.seq (.region [Lw 6 0,
 Lw 7 0,
 Ll 8 (.len false (.t 7)),
 Ll 9 (.bin .sub (.t 8) (Acx 1)),
 Ll 10 (.idxA none .leaf (.t 6) (.t 9)),
 Ilx 11 10,
 Lw 2 11] [2])
 (.ret)))
def Z1j:Fn:=
 { nparams:=1,nblk:=0,results:=[.tmp 2],body:=Z1j_B }
def Z16_L0:Cd:=
 .seq (.region [Ll 10 (.bin .lss (.t 9) (.t 8))] [0,2,7,8,9,10])
 (.seq (.cond (.t 10)
 (.skip)
 (.exit 0))
 (.seq (.block 1 (.seq (.seq (.region [Lw 11 7,
 Lw 12 2,
 Ll 13 (.bin .gtr (.t 11) (.t 12))] [0,2,7,8,9,13])
 (.cond (.t 13)
 (.exit 0)
 (.skip)))
 (.region [Lw 14 7,
 Lw 15 0,
 Ll 16 (.bin .mul (.t 14) (.t 15)),
 Lw 7 16] [0,2,7,8,9])))
 (.region [Ll 17 (.bin .add (.t 9) (Acx 1)),
 Lw 9 17] [0,2,7,8,9])))
def Z16_B:Cd:=
 .seq (.region [Ll 6 (.mv (Acx 0))] [0,1,2])
 (.seq (.region [Ll 7 (.mv (Acx 1))] [0,1,2,7])
 (.seq (.seq (.region [Lw 8 1,
 Ll 9 (.mv (Acx 0))] [0,2,7,8,9])
 (.block 0 (.loop (Z16_L0))))
 (.seq (.region [Lw 18 7,
 Lw 6 18] [6])
 (.ret))))
def Z16:Fn:=
 { nparams:=3,nblk:=0,results:=[.tmp 6],body:=Z16_B }
def Z17_L0:Cd:=
 .seq (.seq (.region [Lw 6 1,
 Ll 7 (.bin .gtr (.t 6) (Acx 0))] [0,1,5,7])
 (.cond (.t 7)
 (.skip)
 (.exit 0)))
 (.seq (.block 1 (.region [Lw 11 5,
 Lw 12 1,
 Lw 13 0,
 Ll 14 (.bin .rem (.t 12) (.t 13)),
 Ll 15 (.buildSl false 1 .leaf (.int .i64 0) 1 [(0,(.t 14))]),
 Ll 16 (.append .leaf 2 8 (.t 11) (.t 15)),
 Lw 5 16] [0,1,5]))
 (.region [Lw 8 1,
 Lw 9 0,
 Ll 10 (.bin .quo (.t 8) (.t 9)),
 Lw 1 10] [0,1,5]))
def Z17_B:Cd:=
 .seq (.region [Ll 4 (.mv (.c (.sl .leaf [])))] [0,1])
 (.seq (.region [Ll 5 (.nilOwn 0 .leaf)] [0,1,5])
 (.seq (.block 0 (.loop (Z17_L0)))
 (.seq (.region [Lw 17 5,
 Lw 4 17] [4])
 (.ret))))
def Z17:Fn:=
 { nparams:=2,nblk:=3,results:=[.tmp 4],body:=Z17_B }
def Z19_B:Cd:=
 .seq (.region [Ll 4 (.mv (Acx 0))] [0,1])
 (.seq (.region [Lw 5 1,
 Lw 6 0,
 Ll 7 (.bin .rem (.t 5) (.t 6)),
 Lw 8 0,
 Ll 9 (.bin .add (.t 7) (.t 8)),
 Lw 10 0,
 Ll 11 (.bin .rem (.t 9) (.t 10)),
 Lw 4 11] [4])
 (.ret))
def Z19:Fn:=
 { nparams:=2,nblk:=0,results:=[.tmp 4],body:=Z19_B }
def Z1g_B:Cd:=
 .seq (.region [Ll 4 (.mv (Acx 0))] [0,1])
 (.seq (.seq (.region [Lw 5 1,
 Lw 6 0,
 Ll 7 (.len false (.t 6)),
 Ll 8 (.bin .lss (.t 5) (.t 7))] [0,1,8])
 (.cond (.t 8)
 (.seq (.region [Lw 9 0,
 Lw 10 1,
 Ll 11 (.idxA none .leaf (.t 9) (.t 10)),
 Ilx 12 11,
 Lw 4 12] [4])
 (.ret))
 (.skip)))
 (.seq (.region [Ll 4 (.mv (Acx 0))] [4])
 (.ret)))
def Z1g:Fn:=
 { nparams:=2,nblk:=0,results:=[.tmp 4],body:=Z1g_B }
def Zy_L0:Cd:=
 .seq (.region [Ll 20 (.bin .lss (.t 19) (.t 18))] [0,1,2,3,9,18,19,20])
 (.seq (.cond (.t 20)
 (.skip)
 (.exit 0))
 (.seq (.block 1 (.seq (.region [Lw 21 19,
 Lw 10 21] [0,1,2,3,9,10,18,19])
 (.region [Lw 22 9,
 Lw 23 10,
 Lw 24 0,
 Lw 25 1,
 Lw 26 10,
 Ll 27 (Ofx F1g [(.t 25),(.t 26)]),
 Lw 28 3,
 Lw 29 2,
 Lw 30 10,
 Ll 31 (Ofx F1g [(.t 29),(.t 30)]),
 Ll 32 (.bin .mul (.t 28) (.t 31)),
 Ll 33 (.bin .add (.t 27) (.t 32)),
 Ll 34 (Ofx F19 [(.t 24),(.t 33)]),
 Ll 35 (.idxA none .leaf (.t 22) (.t 23)),
 Ls (.store false .leaf (.t 35) (.t 34))] [0,1,2,3,9,18,19])))
 (.region [Ll 36 (.bin .add (.t 19) (Acx 1)),
 Lw 19 36] [0,1,2,3,9,18,19])))
def Zy_B:Cd:=
 .seq (.region [Ll 8 (.mv (.c (.sl .leaf [])))] [0,1,2,3])
 (.seq (.region [Lw 11 1,
 Ll 12 (.len false (.t 11)),
 Lw 13 2,
 Ll 14 (.len false (.t 13)),
 Ll 15 (.maxI (.t 12) (.t 14)),
 Ll 16 (.mkSl 0 .leaf (.int .i64 0) 8 (.t 15) (.t 15)),
 Lw 9 16] [0,1,2,3,9])
 (.seq (.seq (.region [Lw 17 9,
 Ll 18 (.len false (.t 17)),
 Ll 19 (.mv (Acx 0))] [0,1,2,3,9,18,19])
 (.block 0 (.loop (Zy_L0))))
 (.seq (.region [Lw 37 9,
 Ll 38 (.call .data [] (.f F1l) [(.t 37)]),
 Lw 8 38] [8])
 (.ret))))
def Zy:Fn:=
 { nparams:=4,nblk:=1,results:=[.tmp 8],body:=Zy_B }
def Z1d_L0:Cd:=
 .seq (.region [Ll 39 (.bin .lss (.t 38) (.t 37))] [0,2,7,8,9,29,30,31,36,37,38,39])
 (.seq (.cond (.t 39)
 (.skip)
 (.exit 2))
 (.seq (.block 3 (.seq (.region [Lw 40 38,
 Ll 41 (.idxA none .leaf (.t 36) (.t 38)),
 Ilx 42 41,
 Lw 10 40,
 Lw 11 42] [0,2,7,8,9,10,11,29,30,31,36,37,38])
 (.region [Lw 43 7,
 Lw 44 8,
 Lw 45 10,
 Ll 46 (.bin .add (.t 44) (.t 45)),
 Ll 47 (.idxA none .leaf (.t 43) (.t 46)),
 Ilx 48 47,
 Lw 49 9,
 Lw 50 11,
 Ll 51 (.bin .mul (.t 49) (.t 50)),
 Ll 52 (.bin .add (.t 48) (.t 51)),
 Ll 53 (.idxA none .leaf (.t 43) (.t 46)),
 Ls (.store false .leaf (.t 53) (.t 52))] [0,2,7,8,9,29,30,31,36,37,38])))
 (.region [Ll 54 (.bin .add (.t 38) (Acx 1)),
 Lw 38 54] [0,2,7,8,9,29,30,31,36,37,38])))
def Z1d_L1:Cd:=
 .seq (.region [Ll 32 (.bin .lss (.t 31) (.t 30))] [0,2,7,29,30,31,32])
 (.seq (.cond (.t 32)
 (.skip)
 (.exit 0))
 (.seq (.block 1 (.seq (.region [Lw 33 31,
 Ll 34 (.idxA none .leaf (.t 29) (.t 31)),
 Ilx 35 34,
 Lw 8 33,
 Lw 9 35] [0,2,7,8,9,29,30,31])
 (.seq (.region [Lw 36 2,
 Ll 37 (.len false (.t 36)),
 Ll 38 (.mv (Acx 0))] [0,2,7,8,9,29,30,31,36,37,38])
 (.block 2 (.loop (Z1d_L0))))))
 (.region [Ll 55 (.bin .add (.t 31) (Acx 1)),
 Lw 31 55] [0,2,7,29,30,31])))
def Z1d_L2:Cd:=
 .seq (.region [Ll 59 (.bin .lss (.t 58) (.t 57))] [0,7,56,57,58,59])
 (.seq (.cond (.t 59)
 (.skip)
 (.exit 4))
 (.seq (.block 5 (.seq (.region [Lw 60 58,
 Ll 61 (.idxA none .leaf (.t 56) (.t 58)),
 Ilx 62 61,
 Lw 12 60,
 Lw 13 62] [0,7,12,13,56,57,58])
 (.region [Lw 63 7,
 Lw 64 12,
 Lw 65 13,
 Lw 66 0,
 Ll 67 (.bin .rem (.t 65) (.t 66)),
 Ll 68 (.idxA none .leaf (.t 63) (.t 64)),
 Ls (.store false .leaf (.t 68) (.t 67))] [0,7,56,57,58])))
 (.region [Ll 69 (.bin .add (.t 58) (Acx 1)),
 Lw 58 69] [0,7,56,57,58])))
def Z1d_B:Cd:=
 .seq (.region [Ll 6 (.mv (.c (.sl .leaf [])))] [0,1,2])
 (.seq (.seq (.region [Lw 14 1,
 Ll 15 (.len false (.t 14)),
 Ll 16 (.bin .eql (.t 15) (Acx 0)),
 Lw 17 16,
 Lx 18 2 17 false,
 Lg 19 (.len false (.t 18)) 17 false,
 Lg 20 (.bin .eql (.t 19) (Acx 0)) 17 false,
 Ll 21 (.pick (.t 17) (.c (.bool true)) (.t 20))] [0,1,2,21])
 (.cond (.t 21)
 (.seq (.region [Ll 6 (.mv (.c (.sl .leaf [])))] [6])
 (.ret))
 (.skip)))
 (.seq (.region [Lw 22 1,
 Ll 23 (.len false (.t 22)),
 Lw 24 2,
 Ll 25 (.len false (.t 24)),
 Ll 26 (.bin .add (.t 23) (.t 25)),
 Ll 27 (.bin .sub (.t 26) (Acx 1)),
 Ll 28 (.mkSl 0 .leaf (.int .i64 0) 8 (.t 27) (.t 27)),
 Lw 7 28] [0,1,2,7])
 (.seq (.seq (.region [Lw 29 1,
 Ll 30 (.len false (.t 29)),
 Ll 31 (.mv (Acx 0))] [0,2,7,29,30,31])
 (.block 0 (.loop (Z1d_L1))))
 (.seq (.seq (.region [Lw 56 7,
 Ll 57 (.len false (.t 56)),
 Ll 58 (.mv (Acx 0))] [0,7,56,57,58])
 (.block 4 (.loop (Z1d_L2))))
 (.seq (.region [Lw 70 7,
 Ll 71 (.call .data [] (.f F1l) [(.t 70)]),
 Lw 6 71] [6])
 (.ret))))))
def Z1d:Fn:=
 { nparams:=3,nblk:=1,results:=[.tmp 6],body:=Z1d_B }
def Z1b_B:Cd:=
 .seq (.region [Ll 6 (.mv (.c (.sl .leaf [])))] [0,1,2])
 (.seq (.region [Lw 7 0,
 Lw 8 1,
 Lw 9 2,
 Ll 10 (Opx Fy [(.t 7),(.c (.sl .leaf [])),(.t 8),(.t 9)]),
 Lw 6 10] [6])
 (.ret))
def Z1b:Fn:=
 { nparams:=3,nblk:=0,results:=[.tmp 6],body:=Z1b_B }
def Z13_L0:Cd:=
 .seq (.region [Ll 9 (.bin .lss (.t 8) (.t 7))] [0,1,5,7,8,9])
 (.seq (.cond (.t 9)
 (.skip)
 (.exit 0))
 (.seq (.block 1 (.region [Lw 10 5,
 Lw 11 1,
 Ll 12 (.bin .mul (.t 10) (.t 11)),
 Lw 13 0,
 Ll 14 (.bin .rem (.t 12) (.t 13)),
 Lw 5 14] [0,1,5,7,8]))
 (.region [Ll 15 (.bin .add (.t 8) (Acx 1)),
 Lw 8 15] [0,1,5,7,8])))
def Z13_B:Cd:=
 .seq (.region [Ll 4 (.mv (Acx 0))] [0,1])
 (.seq (.region [Ll 5 (.mv (Acx 1))] [0,1,5])
 (.seq (.seq (.region [Lw 6 0,
 Ll 7 (.bin .sub (.t 6) (Acx 2)),
 Ll 8 (.mv (Acx 0))] [0,1,5,7,8])
 (.block 0 (.loop (Z13_L0))))
 (.seq (.region [Lw 16 5,
 Lw 4 16] [4])
 (.ret))))
def Z13:Fn:=
 { nparams:=2,nblk:=0,results:=[.tmp 4],body:=Z13_B }
def Zz_L0:Cd:=
 .seq (.region [Ll 60 (.bin .lss (.t 59) (.t 58))] [0,2,8,9,10,11,12,57,58,59,60])
 (.seq (.cond (.t 60)
 (.skip)
 (.exit 2))
 (.seq (.block 3 (.seq (.region [Lw 61 59,
 Ll 62 (.idxA none .leaf (.t 57) (.t 59)),
 Ilx 63 62,
 Lw 13 61,
 Lw 14 63] [0,2,8,9,10,11,12,13,14,57,58,59])
 (.region [Lw 64 8,
 Lw 65 11,
 Lw 66 13,
 Ll 67 (.bin .add (.t 65) (.t 66)),
 Lw 68 0,
 Lw 69 8,
 Lw 70 11,
 Lw 71 13,
 Ll 72 (.bin .add (.t 70) (.t 71)),
 Ll 73 (.idxA none .leaf (.t 69) (.t 72)),
 Ilx 74 73,
 Lw 75 12,
 Lw 76 14,
 Ll 77 (.bin .mul (.t 75) (.t 76)),
 Ll 78 (.bin .sub (.t 74) (.t 77)),
 Ll 79 (Ofx F19 [(.t 68),(.t 78)]),
 Ll 80 (.idxA none .leaf (.t 64) (.t 67)),
 Ls (.store false .leaf (.t 80) (.t 79))] [0,2,8,9,10,11,12,57,58,59])))
 (.region [Ll 81 (.bin .add (.t 59) (Acx 1)),
 Lw 59 81] [0,2,8,9,10,11,12,57,58,59])))
def Zz_L1:Cd:=
 .seq (.seq (.region [Lw 37 11,
 Ll 38 (.bin .geq (.t 37) (Acx 0))] [0,2,8,9,10,11,38])
 (.cond (.t 38)
 (.skip)
 (.exit 0)))
 (.seq (.block 1 (.seq (.region [Lw 41 8,
 Lw 42 11,
 Lw 43 2,
 Ll 44 (.len false (.t 43)),
 Ll 45 (.bin .add (.t 42) (.t 44)),
 Ll 46 (.bin .sub (.t 45) (Acx 1)),
 Ll 47 (.idxA none .leaf (.t 41) (.t 46)),
 Ilx 48 47,
 Lw 49 10,
 Ll 50 (.bin .mul (.t 48) (.t 49)),
 Lw 51 0,
 Ll 52 (.bin .rem (.t 50) (.t 51)),
 Lw 12 52] [0,2,8,9,10,11,12])
 (.seq (.region [Lw 53 9,
 Lw 54 11,
 Lw 55 12,
 Ll 56 (.idxA none .leaf (.t 53) (.t 54)),
 Ls (.store false .leaf (.t 56) (.t 55))] [0,2,8,9,10,11,12])
 (.seq (.region [Lw 57 2,
 Ll 58 (.len false (.t 57)),
 Ll 59 (.mv (Acx 0))] [0,2,8,9,10,11,12,57,58,59])
 (.block 2 (.loop (Zz_L0)))))))
 (.region [Lw 39 11,
 Ll 40 (.bin .sub (.t 39) (Acx 1)),
 Lw 11 40] [0,2,8,9,10,11]))
def Zz_B:Cd:=
 .seq (.region [Ll 6 (.mv (.c (.sl .leaf []))),
 Ll 7 (.mv (.c (.sl .leaf [])))] [0,1,2])
 (.seq (.region [Lw 15 1,
 Ll 16 (.call .heap [0] (.f F1v) [(.t 15)]),
 Lw 8 16] [0,1,2,8])
 (.seq (.seq (.region [Lw 17 1,
 Ll 18 (.len false (.t 17)),
 Lw 19 2,
 Ll 20 (.len false (.t 19)),
 Ll 21 (.bin .lss (.t 18) (.t 20))] [0,1,2,8,21])
 (.cond (.t 21)
 (.seq (.region [Lw 22 8,
 Ll 6 (.mv (.c (.sl .leaf []))),
 Lw 7 22] [6,7])
 (.ret))
 (.skip)))
 (.seq (.region [Lw 23 1,
 Ll 24 (.len false (.t 23)),
 Lw 25 2,
 Ll 26 (.len false (.t 25)),
 Ll 27 (.bin .sub (.t 24) (.t 26)),
 Ll 28 (.bin .add (.t 27) (Acx 1)),
 Ll 29 (.mkSl 1 .leaf (.int .i64 0) 8 (.t 28) (.t 28)),
 Lw 9 29] [0,2,8,9])
 (.seq (.region [Lw 30 0,
 Lw 31 2,
 Ll 32 (Ofx F1j [(.t 31)]),
 Ll 33 (Ofx F13 [(.t 30),(.t 32)]),
 Lw 10 33] [0,2,8,9,10])
 (.seq (.seq (.region [Lw 34 9,
 Ll 35 (.len false (.t 34)),
 Ll 36 (.bin .sub (.t 35) (Acx 1)),
 Lw 11 36] [0,2,8,9,10,11])
 (.block 0 (.loop (Zz_L1))))
 (.seq (.region [Lw 82 9,
 Ll 83 (.call .data [] (.f F1l) [(.t 82)]),
 Lw 84 8,
 Ll 85 (.call .data [] (.f F1l) [(.t 84)]),
 Lw 6 83,
 Lw 7 85] [6,7])
 (.ret)))))))
def Zz:Fn:=
 { nparams:=3,nblk:=2,results:=[.tmp 6,.tmp 7],body:=Zz_B }
def Zx_L0:Cd:=
 .seq (.seq (.region [Lw 18 2,
 Ll 19 (.len false (.t 18)),
 Ll 20 (.bin .gtr (.t 19) (Acx 0))] [0,1,2,9,10,11,12,20])
 (.cond (.t 20)
 (.skip)
 (.exit 0)))
 (.block 1 (.seq (.region [Lw 22 0,
 Lw 23 1,
 Lw 24 2,
 Ll 25 (Opx Fz [(.t 22),(.t 23),(.t 24)]),
 Lw 21 25,
 Iex 26 21 0,
 Iex 27 21 1,
 Lw 13 26,
 Lw 14 27] [0,2,9,10,11,12,13,14])
 (.seq (.region [Lw 28 2,
 Lw 29 14,
 Lw 1 28,
 Lw 2 29] [0,1,2,9,10,11,12,13])
 (.seq (.region [Lw 30 11,
 Lw 31 0,
 Lw 32 9,
 Lw 33 0,
 Lw 34 13,
 Lw 35 11,
 Ll 36 (Opx F1d [(.t 33),(.t 34),(.t 35)]),
 Ll 37 (.call .data [] (.f Fy) [(.t 31),(.t 32),(.t 36),(Acx (-1))]),
 Lw 9 30,
 Lw 11 37] [0,1,2,9,10,11,12,13])
 (.region [Lw 38 12,
 Lw 39 0,
 Lw 40 10,
 Lw 41 0,
 Lw 42 13,
 Lw 43 12,
 Ll 44 (.call .data [] (.f F1d) [(.t 41),(.t 42),(.t 43)]),
 Ll 45 (.call .data [] (.f Fy) [(.t 39),(.t 40),(.t 44),(Acx (-1))]),
 Lw 10 38,
 Lw 12 45] [0,1,2,9,10,11,12])))))
def Zx_B:Cd:=
 .seq (.region [Ll 6 (.mv (.c (.sl .leaf []))),
 Ll 7 (.mv (.c (.sl .leaf []))),
 Ll 8 (.mv (.c (.sl .leaf [])))] [0,1,2])
 (.seq (.region [Ll 16 (.buildSl false 0 .leaf (.int .i64 0) 1 [(0,(Acx 1))]),
 Lw 9 16,
 Ll 10 (.mv (.c (.sl .leaf [])))] [0,1,2,9,10])
 (.seq (.region [Ll 17 (.buildSl false 1 .leaf (.int .i64 0) 1 [(0,(Acx 1))]),
 Ll 11 (.mv (.c (.sl .leaf []))),
 Lw 12 17] [0,1,2,9,10,11,12])
 (.seq (.block 0 (.loop (Zx_L0)))
 (.seq (.region [Lw 46 0,
 Lw 47 1,
 Ll 48 (Ofx F1j [(.t 47)]),
 Ll 49 (Ofx F13 [(.t 46),(.t 48)]),
 Lw 15 49] [0,1,9,10,15])
 (.seq (.region [Lw 50 0,
 Lw 51 1,
 Lw 52 15,
 Ll 53 (Opx F1b [(.t 50),(.t 51),(.t 52)]),
 Lw 54 0,
 Lw 55 9,
 Lw 56 15,
 Ll 57 (.call .data [] (.f F1b) [(.t 54),(.t 55),(.t 56)]),
 Lw 58 0,
 Lw 59 10,
 Lw 60 15,
 Ll 61 (.call .data [] (.f F1b) [(.t 58),(.t 59),(.t 60)]),
 Lw 6 53,
 Lw 7 57,
 Lw 8 61] [6,7,8])
 (.ret))))))
def Zx:Fn:=
 { nparams:=3,nblk:=2,results:=[.tmp 6,.tmp 7,.tmp 8],body:=Zx_B }
def Z12_B:Cd:=
 .seq (.region [Ll 6 (.mv (.c (.sl .leaf [])))] [0,1,2])
 (.seq (.region [Lw 11 0,
 Lw 12 1,
 Lw 13 2,
 Ll 14 (Opx Fx [(.t 11),(.t 12),(.t 13)]),
 Lw 10 14,
 Iex 15 10 0,
 Iex 16 10 1,
 Iex 17 10 2,
 Lw 7 15,
 Lw 8 16,
 Lw 9 17] [7])
 (.seq (.region [Lw 18 7,
 Lw 6 18] [6])
 (.ret)))
def Z12:Fn:=
 { nparams:=3,nblk:=0,results:=[.tmp 6],body:=Z12_B }
def Z1a_B:Cd:=
 .seq (.region [Ll 6 (.mv (.c (.sl .leaf [])))] [0,1,2])
 (.seq (.region [Lw 10 0,
 Lw 11 1,
 Lw 12 2,
 Ll 13 (Opx Fz [(.t 10),(.t 11),(.t 12)]),
 Lw 9 13,
 Iex 14 9 0,
 Iex 15 9 1,
 Lw 7 14,
 Lw 8 15] [8])
 (.seq (.region [Lw 16 8,
 Lw 6 16] [6])
 (.ret)))
def Z1a:Fn:=
 { nparams:=3,nblk:=0,results:=[.tmp 6],body:=Z1a_B }
def Z18_L0:Cd:=
 .seq (.seq (.region [Lw 19 2,
 Ll 20 (.bin .gtr (.t 19) (Acx 0))] [0,2,3,9,10,20])
 (.cond (.t 20)
 (.skip)
 (.exit 0)))
 (.seq (.block 1 (.seq (.seq (.region [Lw 23 2,
 Ll 24 (.bin .and (.t 23) (Acx 1)),
 Ll 25 (.bin .eql (.t 24) (Acx 1))] [0,2,3,9,10,25])
 (.cond (.t 25)
 (.region [Lw 26 0,
 Lw 27 0,
 Lw 28 9,
 Lw 29 10,
 Ll 30 (Opx F1d [(.t 27),(.t 28),(.t 29)]),
 Lw 31 3,
 Ll 32 (Opx F1a [(.t 26),(.t 30),(.t 31)]),
 Lw 9 32] [0,2,3,9,10])
 (.skip)))
 (.region [Lw 33 0,
 Lw 34 0,
 Lw 35 10,
 Lw 36 10,
 Ll 37 (Opx F1d [(.t 34),(.t 35),(.t 36)]),
 Lw 38 3,
 Ll 39 (Opx F1a [(.t 33),(.t 37),(.t 38)]),
 Lw 10 39] [0,2,3,9,10])))
 (.region [Lw 21 2,
 Ll 22 (.bin .shr (.t 21) (.c (.int .u64 1))),
 Lw 2 22] [0,2,3,9,10]))
def Z18_B:Cd:=
 .seq (.region [Ll 8 (.mv (.c (.sl .leaf [])))] [0,1,2,3])
 (.seq (.region [Lw 11 0,
 Ll 12 (.buildSl false 0 .leaf (.int .i64 0) 1 [(0,(Acx 1))]),
 Lw 13 3,
 Ll 14 (.call .data [] (.f F1a) [(.t 11),(.t 12),(.t 13)]),
 Lw 15 0,
 Lw 16 1,
 Lw 17 3,
 Ll 18 (Opx F1a [(.t 15),(.t 16),(.t 17)]),
 Lw 9 14,
 Lw 10 18] [0,2,3,9,10])
 (.seq (.block 0 (.loop (Z18_L0)))
 (.seq (.region [Lw 40 9,
 Lw 8 40] [8])
 (.ret))))
def Z18:Fn:=
 { nparams:=4,nblk:=1,results:=[.tmp 8],body:=Z18_B }
def Z1k_L0:Cd:=
 .seq (.region [Ll 9 (.bin .lss (.t 8) (.t 7))] [2,3,6,7,8,9])
 (.seq (.cond (.t 9)
 (.skip)
 (.exit 0))
 (.seq (.block 1 (.seq (.region [Lw 10 8,
 Ll 11 (.idxA none .leaf (.t 6) (.t 8)),
 Ilx 12 11,
 Lw 4 10,
 Lw 5 12] [2,3,4,5,6,7,8])
 (.region [Lw 13 4,
 Lw 14 5,
 Ll 15 (.conv .u8 (.t 14)),
 Ll 16 (.idxA (some 64) .leaf (.t 3) (.t 13)),
 Ls (.store false .leaf (.t 16) (.t 15))] [2,3,6,7,8])))
 (.region [Ll 17 (.bin .add (.t 8) (Acx 1)),
 Lw 8 17] [2,3,6,7,8])))
def Z1k_B:Cd:=
 .seq (.region [Ll 2 (.box false 0 (.c (.arr 64 .leaf z64)))] [0,2])
 (.seq (.region [Ll 3 (.box false 1 (.c (.arr 64 .leaf z64)))] [0,2,3])
 (.seq (.seq (.region [Lw 6 0,
 Ll 7 (.len false (.t 6)),
 Ll 8 (.mv (Acx 0))] [2,3,6,7,8])
 (.block 0 (.loop (Z1k_L0))))
 (.seq (.region [Ipx 18 3,
 Ls (.store false Sx6 (.t 2) (.t 18))] [2])
 (.ret))))
def Z1k:Fn:=
 { nparams:=1,nblk:=2,results:=[.cell 2 Sx6],body:=Z1k_B }
def Z1i_B:Cd:=
 .seq (.region [Ll 2 (.mv (.c (.bool false)))] [0])
 (.seq (.region [Lw 3 0,
 Ll 4 (Ofx F1h [(.t 3)]),
 Ll 5 (.bin .leq (.t 4) (Acx 63)),
 Lw 2 5] [2])
 (.ret))
def Z1i:Fn:=
 { nparams:=1,nblk:=0,results:=[.tmp 2],body:=Z1i_B }
def Z1m_B:Cd:=
 .seq (.region [Ll 2 (.box false 0 (.c (.arr 64 .leaf z64))),
 Ll 3 (.mv (Acx 0))] [0,2])
 (.seq (.seq (.region [Lw 4 0,
 Ll 5 (Ofx F1i [(.t 4)]),
 Ll 6 (.un .not (.t 5))] [0,2,6])
 (.cond (.t 6)
 (.seq (.region [Ll 7 (.build false (.arr 64 .leaf z64) []),
 Ls (.store false Sx6 (.t 2) (.t 7)),
 Ll 3 (.mv (Acx 3))] [2,3])
 (.ret))
 (.skip)))
 (.seq (.region [Lw 8 0,
 Ll 9 (Ofx F1k [(.t 8)]),
 Ls (.store false Sx6 (.t 2) (.t 9)),
 Ll 3 (.mv (Acx 0))] [2,3])
 (.ret)))
def Z1m:Fn:=
 { nparams:=1,nblk:=1,results:=[.cell 2 Sx6,.tmp 3],body:=Z1m_B }
def Z15_L0:Cd:=
 .seq (.region [Ll 13 (.bin .lss (.t 12) (.t 11))] [0,5,6,11,12,13])
 (.seq (.cond (.t 13)
 (.skip)
 (.exit 0))
 (.seq (.block 1 (.seq (.region [Lw 14 12,
 Lw 7 14] [0,5,6,7,11,12])
 (.region [Lw 15 6,
 Lw 16 0,
 Lw 17 5,
 Lw 18 7,
 Ll 19 (.bin .add (.t 17) (.t 18)),
 Ll 20 (Opx F17 [(.t 16),(.t 19)]),
 Ll 21 (.buildSl false 2 .leaf (.sl .leaf []) 1 [(0,(.t 20))]),
 Ll 22 (.append .leaf 3 24 (.t 15) (.t 21)),
 Lw 6 22] [0,5,6,11,12])))
 (.region [Ll 23 (.bin .add (.t 12) (Acx 1)),
 Lw 12 23] [0,5,6,11,12])))
def Z15_B:Cd:=
 .seq (.region [Ll 4 (.nilOwn 0 .leaf)] [0,1])
 (.seq (.region [Lw 8 0,
 Lw 9 1,
 Ll 10 (Ofx F16 [(.t 8),(.t 9),(Acx 343)]),
 Lw 5 10] [0,5])
 (.seq (.region [Ll 6 (.nilOwn 1 .leaf)] [0,5,6])
 (.seq (.seq (.region [Lw 11 5,
 Ll 12 (.mv (Acx 0))] [0,5,6,11,12])
 (.block 0 (.loop (Z15_L0))))
 (.seq (.region [Lw 24 6,
 Lw 4 24] [4])
 (.ret)))))
def Z15:Fn:=
 { nparams:=2,nblk:=4,results:=[.tmp 4],body:=Z15_B }
def Zu_L0:Cd:=
 .seq (.region [Ll 9 (.bin .lss (.t 8) (.t 7))] [3,6,7,8,9])
 (.seq (.cond (.t 9)
 (.skip)
 (.exit 0))
 (.seq (.block 1 (.seq (.region [Ll 10 (.idxA none .leaf (.t 6) (.t 8)),
 Ilx 11 10,
 Lw 5 11] [3,5,6,7,8])
 (.region [Lw 12 3,
 Lw 13 5,
 Ll 14 (Ofx F1k [(.t 13)]),
 Ll 15 (.buildSl false 1 Sx6 (.arr 64 .leaf z64) 1 [(0,(.t 14))]),
 Ll 16 (.append Sx6 2 64 (.t 12) (.t 15)),
 Lw 3 16] [3,6,7,8])))
 (.region [Ll 17 (.bin .add (.t 8) (Acx 1)),
 Lw 8 17] [3,6,7,8])))
def Zu_B:Cd:=
 .seq (.region [Ll 2 (.mv (.c (.sl Sx6 [])))] [0])
 (.seq (.region [Ll 3 (.nilOwn 0 Sx6)] [0,3])
 (.seq (.seq (.region [Lw 6 0,
 Ll 7 (.len false (.t 6)),
 Ll 8 (.mv (Acx 0))] [3,6,7,8])
 (.block 0 (.loop (Zu_L0))))
 (.seq (.region [Lw 18 3,
 Lw 2 18] [2])
 (.ret))))
def Zu:Fn:=
 { nparams:=1,nblk:=3,results:=[.tmp 2],body:=Zu_B }
def Zc_B:Cd:=
 .seq (.region [Ll 4 (.box false 0 (.t 1)),
 Ll 5 (.box false 1 (.t 2)),
 Ll 6 (.box false 2 (.c (.arr 64 .leaf z64))),
 Ll 7 (.mv (Acx 0))] [0,4,5,6])
 (.seq (.seq (.region [Lw 9 0,
 Ipx 10 4,
 Ipx 11 5,
 Ll 12 (.buildSl false 3 Sx6 (.arr 64 .leaf z64) 2 [(0,(.t 10)),(1,(.t 11))]),
 Ll 13 (Ofx Fv [(.t 9),(.t 12)]),
 Lw 8 13] [0,4,5,6,8])
 (.seq (.region [Lw 14 8,
 Ll 15 (.bin .neq (.t 14) (Acx 0))] [0,4,5,6,8,15])
 (.cond (.t 15)
 (.seq (.region [Ll 16 (.build false (.arr 64 .leaf z64) []),
 Lw 17 8,
 Ls (.store false Sx6 (.t 6) (.t 16)),
 Lw 7 17] [6,7])
 (.ret))
 (.skip))))
 (.seq (.region [Lw 18 0,
 Ipx 19 4,
 Ll 20 (Opx F1f [(.t 19)]),
 Ipx 21 5,
 Ll 22 (Opx F1f [(.t 21)]),
 Ll 23 (Opx F1d [(.t 18),(.t 20),(.t 22)]),
 Ll 24 (Ofx F1m [(.t 23)]),
 Iex 25 24 0,
 Iex 26 24 1,
 Ls (.store false Sx6 (.t 6) (.t 25)),
 Lw 7 26] [6,7])
 (.ret)))
def Zc:Fn:=
 { nparams:=3,nblk:=4,results:=[.cell 6 Sx6,.tmp 7],body:=Zc_B }
def Z6_B:Cd:=
 .seq (.region [Ll 3 (.box false 0 (.t 1)),
 Ll 4 (.mv (Acx 0)),
 Ll 5 (.mv (Acx 0))] [0,3])
 (.seq (.seq (.region [Lw 7 0,
 Ipx 8 3,
 Ll 9 (.buildSl false 1 Sx6 (.arr 64 .leaf z64) 1 [(0,(.t 8))]),
 Ll 10 (Ofx Fv [(.t 7),(.t 9)]),
 Lw 6 10] [3,6])
 (.seq (.region [Lw 11 6,
 Ll 12 (.bin .neq (.t 11) (Acx 0))] [3,6,12])
 (.cond (.t 12)
 (.seq (.region [Lw 13 6,
 Ll 4 (.mv (Acx 0)),
 Lw 5 13] [4,5])
 (.ret))
 (.skip))))
 (.seq (.region [Ipx 14 3,
 Ll 15 (Opx F1f [(.t 14)]),
 Ll 16 (Ofx F1h [(.t 15)]),
 Lw 4 16,
 Ll 5 (.mv (Acx 0))] [4,5])
 (.ret)))
def Z6:Fn:=
 { nparams:=2,nblk:=2,results:=[.tmp 4,.tmp 5],body:=Z6_B }
def Zm_B:Cd:=
 .seq (.region [Ll 2 (.mv (.c (.bool false)))] [0])
 (.seq (.region [Lw 3 0,
 Ll 4 (Ofx F1n [(.t 3),(Acx 0),(Acx 1000000000000)]),
 Lw 2 4] [2])
 (.ret))
def Zm:Fn:=
 { nparams:=1,nblk:=0,results:=[.tmp 2],body:=Zm_B }
def Ze_B:Cd:=
 .seq (.region [Ll 4 (.box false 0 (.c (.arr 64 .leaf z64))),
 Ll 5 (.mv (Acx 0))] [0,1,4])
 (.seq (.block 0 (.seq (.region [Lw 7 0,
 Ll 8 (Ofx Fr [(.t 7)]),
 Ll 9 (.un .not (.t 8)),
 Lw 6 9] [0,1,4,6])
 (.cond (.t 6)
 (.seq (.region [Ll 10 (.build false (.arr 64 .leaf z64) []),
 Ls (.store false Sx6 (.t 4) (.t 10)),
 Ll 5 (.mv (Acx 1))] [4,5])
 (.ret))
 (.seq (.region [Lw 12 1,
 Ll 13 (Ofx Fm [(.t 12)]),
 Ll 14 (.un .not (.t 13)),
 Lw 11 14] [0,1,4,11])
 (.cond (.t 11)
 (.seq (.region [Ll 15 (.build false (.arr 64 .leaf z64) []),
 Ls (.store false Sx6 (.t 4) (.t 15)),
 Ll 5 (.mv (Acx 2))] [4,5])
 (.ret))
 (.skip))))))
 (.seq (.region [Lw 16 0,
 Lw 17 1,
 Ll 18 (Opx F17 [(.t 16),(.t 17)]),
 Ll 19 (Ofx F1m [(.t 18)]),
 Iex 20 19 0,
 Iex 21 19 1,
 Ls (.store false Sx6 (.t 4) (.t 20)),
 Lw 5 21] [4,5])
 (.ret)))
def Ze:Fn:=
 { nparams:=2,nblk:=1,results:=[.cell 4 Sx6,.tmp 5],body:=Ze_B }
def Zf_L0:Cd:=
 .seq (.region [Ll 50 (.bin .lss (.t 49) (.t 48))] [0,6,9,10,48,49,50])
 (.seq (.cond (.t 50)
 (.skip)
 (.exit 1))
 (.seq (.block 2 (.seq (.region [Lw 51 0,
 Lw 52 10,
 Lw 53 9,
 Ll 54 (.call .data [] (.f F1d) [(.t 51),(.t 52),(.t 53)]),
 Lw 10 54] [0,6,9,10,48,49])
 (.seq (.region [Lw 55 10,
 Ll 56 (Ofx F1i [(.t 55)]),
 Ll 57 (.un .not (.t 56))] [0,6,9,10,48,49,57])
 (.cond (.t 57)
 (.seq (.region [Ll 58 (.build false (.arr 64 .leaf z64) []),
 Ls (.store false Sx6 (.t 6) (.t 58)),
 Ll 7 (.mv (Acx 3))] [6,7])
 (.ret))
 (.skip)))))
 (.region [Ll 59 (.bin .add (.t 49) (Acx 1)),
 Lw 49 59] [0,6,9,10,48,49])))
def Zf_B:Cd:=
 .seq (.region [Ll 4 (.box false 0 (.t 1)),
 Ll 6 (.box false 1 (.c (.arr 64 .leaf z64))),
 Ll 7 (.mv (Acx 0))] [0,2,4,6])
 (.seq (.seq (.region [Lw 11 0,
 Ipx 12 4,
 Ll 13 (.buildSl false 2 Sx6 (.arr 64 .leaf z64) 1 [(0,(.t 12))]),
 Ll 14 (Ofx Fv [(.t 11),(.t 13)]),
 Lw 8 14] [0,2,4,6,8])
 (.seq (.region [Lw 15 8,
 Ll 16 (.bin .neq (.t 15) (Acx 0))] [0,2,4,6,8,16])
 (.cond (.t 16)
 (.seq (.region [Ll 17 (.build false (.arr 64 .leaf z64) []),
 Lw 18 8,
 Ls (.store false Sx6 (.t 6) (.t 17)),
 Lw 7 18] [6,7])
 (.ret))
 (.skip))))
 (.seq (.region [Ipx 19 4,
 Ll 20 (Opx F1f [(.t 19)]),
 Lw 9 20] [0,2,6,9])
 (.seq (.block 0 (.seq (.region [Lw 22 2,
 Ll 23 (Ofx Fm [(.t 22)]),
 Ll 24 (.un .not (.t 23)),
 Lw 21 24] [0,2,6,9,21])
 (.cond (.t 21)
 (.seq (.region [Ll 25 (.build false (.arr 64 .leaf z64) []),
 Ls (.store false Sx6 (.t 6) (.t 25)),
 Ll 7 (.mv (Acx 2))] [6,7])
 (.ret))
 (.seq (.region [Lw 27 9,
 Ll 28 (Ofx F1h [(.t 27)]),
 Ll 29 (.bin .gtr (.t 28) (Acx 0)),
 Lw 30 29,
 Lx 31 2 30 true,
 Lg 32 (.bin .gtr (.t 31) (Acx 63)) 30 true,
 Ll 33 (.pick (.t 30) (.t 32) (.c (.bool false))),
 Lw 26 33] [0,2,6,9,26])
 (.cond (.t 26)
 (.seq (.region [Ll 34 (.build false (.arr 64 .leaf z64) []),
 Ls (.store false Sx6 (.t 6) (.t 34)),
 Ll 7 (.mv (Acx 3))] [6,7])
 (.ret))
 (.seq (.region [Lw 36 9,
 Ll 37 (Ofx F1h [(.t 36)]),
 Ll 38 (.bin .leq (.t 37) (Acx 0)),
 Lw 35 38] [0,2,6,9,35])
 (.cond (.t 35)
 (.seq (.region [Lw 39 0,
 Lw 40 9,
 Lw 41 2,
 Ll 42 (.buildSl false 3 .leaf (.int .i64 0) 2 [(0,(Acx 0)),(1,(Acx 1))]),
 Ll 43 (.call .data [] (.f F18) [(.t 39),(.t 40),(.t 41),(.t 42)]),
 Ll 44 (Ofx F1m [(.t 43)]),
 Iex 45 44 0,
 Iex 46 44 1,
 Ls (.store false Sx6 (.t 6) (.t 45)),
 Lw 7 46] [6,7])
 (.ret))
 (.skip))))))))
 (.seq (.region [Ll 47 (.buildSl false 4 .leaf (.int .i64 0) 1 [(0,(Acx 1))]),
 Lw 10 47] [0,2,6,9,10])
 (.seq (.seq (.region [Lw 48 2,
 Ll 49 (.mv (Acx 0))] [0,6,9,10,48,49])
 (.block 1 (.loop (Zf_L0))))
 (.seq (.region [Lw 60 10,
 Ll 61 (Ofx F1m [(.t 60)]),
 Iex 62 61 0,
 Iex 63 61 1,
 Ls (.store false Sx6 (.t 6) (.t 62)),
 Lw 7 63] [6,7])
 (.ret)))))))
def Zf:Fn:=
 { nparams:=3,nblk:=5,results:=[.cell 6 Sx6,.tmp 7],body:=Zf_B }
end Pe

/-
 Functions of the program in the small form,printed by a program.
-/
namespace Pe
open Go
def Zs_B:Cd:=
 .seq (.region [Ll 0 (.mv (.c (.sl .leaf [])))] [])
 (.seq (.region [Ll 1 (.buildSl false 0 .leaf (.int .i64 0) 2 [(0,(Acx 0)),(1,(Acx 1))]),
 Lw 0 1] [0])
 (.ret))
def Zs:Fn:=
 { nparams:=0,nblk:=1,results:=[.tmp 0],body:=Zs_B }
def Z1e_L0:Cd:=
 .seq (.seq (.region [Lw 25 8,
 Lw 26 7,
 Ll 27 (.bin .mul (Acx 2) (.t 26)),
 Ll 28 (.bin .lss (.t 25) (.t 27))] [0,1,7,8,28])
 (.cond (.t 28)
 (.skip)
 (.exit 0)))
 (.seq (.block 1 (.seq (.region [Lw 31 0,
 Lw 32 8,
 Ll 33 (Opx F17 [(.t 31),(.t 32)]),
 Lw 9 33] [0,1,7,8,9])
 (.seq (.region [Lw 34 0,
 Lw 35 1,
 Lw 36 9,
 Ll 37 (Opx F1a [(.t 34),(.t 35),(.t 36)]),
 Ll 38 (.len false (.t 37)),
 Ll 39 (.bin .eql (.t 38) (Acx 0))] [0,1,7,8,9,39])
 (.cond (.t 39)
 (.seq (.region [Lw 40 9,
 Lw 6 40] [6])
 (.ret))
 (.skip)))))
 (.region [Lw 29 8,
 Ll 30 (.bin .add (.t 29) (Acx 1)),
 Lw 8 30] [0,1,7,8]))
def Z1e_B:Cd:=
 .seq (.region [Ll 6 (.mv (.c (.sl .leaf [])))] [0,1,2])
 (.seq (.seq (.region [Lw 10 1,
 Ll 11 (Ofx F1h [(.t 10)]),
 Lw 12 2,
 Ll 13 (.bin .eql (.t 11) (.t 12))] [0,1,2,13])
 (.cond (.t 13)
 (.seq (.region [Lw 14 0,
 Lw 15 1,
 Lw 16 0,
 Lw 17 1,
 Ll 18 (Ofx F1j [(.t 17)]),
 Ll 19 (Ofx F13 [(.t 16),(.t 18)]),
 Ll 20 (Opx F1b [(.t 14),(.t 15),(.t 19)]),
 Lw 6 20] [6])
 (.ret))
 (.skip)))
 (.seq (.region [Lw 21 0,
 Lw 22 2,
 Ll 23 (Ofx F16 [(.t 21),(.t 22),(Acx 1099511627776)]),
 Lw 7 23] [0,1,7])
 (.seq (.seq (.region [Lw 24 7,
 Lw 8 24] [0,1,7,8])
 (.block 0 (.loop (Z1e_L0))))
 (.seq (.region [Lw 41 1,
 Lw 6 41] [6])
 (.ret)))))
def Z1e:Fn:=
 { nparams:=3,nblk:=0,results:=[.tmp 6],body:=Z1e_B }
def Z1c_L0:Cd:=
 .block 1 (.seq (.region [Lw 12 0,
 Lw 13 1,
 Lw 14 2,
 Ll 15 (Opx Fz [(.t 12),(.t 13),(.t 14)]),
 Lw 11 15,
 Iex 16 11 0,
 Iex 17 11 1,
 Lw 9 16,
 Lw 10 17] [0,1,2,8,9,10])
 (.seq (.seq (.region [Lw 18 10,
 Ll 19 (.len false (.t 18)),
 Ll 20 (.bin .gtr (.t 19) (Acx 0))] [0,1,2,8,9,20])
 (.cond (.t 20)
 (.seq (.region [Lw 21 1,
 Lw 22 8,
 Lw 6 21,
 Lw 7 22] [6,7])
 (.ret))
 (.skip)))
 (.seq (.region [Lw 23 9,
 Lw 1 23] [0,1,2,8])
 (.region [Lw 24 8,
 Ll 25 (.bin .add (.t 24) (Acx 1)),
 Lw 8 25] [0,1,2,8]))))
def Z1c_B:Cd:=
 .seq (.region [Ll 6 (.mv (.c (.sl .leaf []))),
 Ll 7 (.mv (Acx 0))] [0,1,2])
 (.seq (.region [Ll 8 (.mv (Acx 0))] [0,1,2,8])
 (.block 0 (.loop (Z1c_L0))))
def Z1c:Fn:=
 { nparams:=3,nblk:=0,results:=[.tmp 6,.tmp 7],body:=Z1c_B }
def Zk_L0:Cd:=
 .seq (.seq (.region [Lw 19 6,
 Ll 20 (.bin .geq (.t 19) (Acx 0))] [0,1,6,20])
 (.cond (.t 20)
 (.skip)
 (.exit 0)))
 (.seq (.block 1 (.seq (.region [Lw 23 0,
 Lw 24 6,
 Ll 25 (.idxA none .leaf (.t 23) (.t 24)),
 Ilx 26 25,
 Lw 27 1,
 Lw 28 6,
 Ll 29 (.idxA none .leaf (.t 27) (.t 28)),
 Ilx 30 29,
 Ll 31 (Ofx F2 [(.t 26),(.t 30)]),
 Lw 7 31] [0,1,6,7])
 (.seq (.region [Lw 32 7,
 Ll 33 (.bin .neq (.t 32) (Acx 0))] [0,1,6,7,33])
 (.cond (.t 33)
 (.seq (.region [Lw 34 7,
 Lw 4 34] [4])
 (.ret))
 (.skip)))))
 (.region [Lw 21 6,
 Ll 22 (.bin .sub (.t 21) (Acx 1)),
 Lw 6 22] [0,1,6]))
def Zk_B:Cd:=
 .seq (.region [Ll 4 (.mv (Acx 0))] [0,1])
 (.seq (.seq (.region [Lw 8 0,
 Ll 9 (.len false (.t 8)),
 Lw 10 1,
 Ll 11 (.len false (.t 10)),
 Ll 12 (Ofx F0 [(.t 9),(.t 11)]),
 Lw 5 12] [0,1,5])
 (.seq (.region [Lw 13 5,
 Ll 14 (.bin .neq (.t 13) (Acx 0))] [0,1,5,14])
 (.cond (.t 14)
 (.seq (.region [Lw 15 5,
 Lw 4 15] [4])
 (.ret))
 (.skip))))
 (.seq (.seq (.region [Lw 16 0,
 Ll 17 (.len false (.t 16)),
 Ll 18 (.bin .sub (.t 17) (Acx 1)),
 Lw 6 18] [0,1,6])
 (.block 0 (.loop (Zk_L0))))
 (.seq (.region [Ll 4 (.mv (Acx 0))] [4])
 (.ret))))
def Zk:Fn:=
 { nparams:=2,nblk:=0,results:=[.tmp 4],body:=Zk_B }
def Z11_B:Cd:=
 .seq (.region [Ll 2 (.box false 0 (.t 0)),
 Ll 3 (.box false 1 (.t 1)),
 Ll 4 (.mv (Acx 0))] [2,3])
 (.seq (.region [Ll 5 (.fldA [.leaf,.leaf] (.t 2) 0),
 Ilx 6 5,
 Ll 7 (.fldA [.leaf,.leaf] (.t 3) 0),
 Ilx 8 7,
 Ll 9 (Ofx Fk [(.t 6),(.t 8)]),
 Lw 4 9] [4])
 (.ret))
def Z11:Fn:=
 { nparams:=2,nblk:=2,results:=[.tmp 4],body:=Z11_B }
def Z10_L0:Cd:=
 .seq (.region [Ll 36 (.bin .lss (.t 35) (.t 34))] [0,1,5,6,7,34,35,36])
 (.seq (.cond (.t 36)
 (.skip)
 (.exit 2))
 (.seq (.block 3 (.region [Lw 37 0,
 Lw 38 7,
 Lw 39 0,
 Lw 40 1,
 Ll 41 (Opx F18 [(.t 37),(.t 38),(.t 39),(.t 40)]),
 Lw 7 41] [0,1,5,6,7,34,35]))
 (.region [Ll 42 (.bin .add (.t 35) (Acx 1)),
 Lw 35 42] [0,1,5,6,7,34,35])))
def Z10_L1:Cd:=
 .seq (.seq (.region [Lw 50 8,
 Ll 51 (Ofx F1h [(.t 50)]),
 Ll 52 (.bin .gtr (.t 51) (Acx 0))] [0,1,5,6,8,52])
 (.cond (.t 52)
 (.skip)
 (.exit 4)))
 (.block 5 (.seq (.region [Lw 53 0,
 Lw 54 8,
 Lw 55 6,
 Ll 56 (Opx F1e [(.t 53),(.t 54),(.t 55)]),
 Lw 9 56] [0,1,5,6,8,9])
 (.seq (.region [Lw 58 0,
 Lw 59 1,
 Lw 60 9,
 Ll 61 (Opx F1c [(.t 58),(.t 59),(.t 60)]),
 Lw 57 61,
 Iex 62 57 0,
 Iex 63 57 1,
 Lw 10 62,
 Lw 11 63] [0,5,6,8,9,10,11])
 (.seq (.region [Lw 64 10,
 Lw 1 64] [0,1,5,6,8,9,11])
 (.seq (.region [Lw 66 0,
 Lw 67 8,
 Lw 68 9,
 Ll 69 (Opx F1c [(.t 66),(.t 67),(.t 68)]),
 Lw 65 69,
 Iex 70 65 0,
 Iex 71 65 1,
 Lw 8 70] [0,1,5,6,8,9,11])
 (.region [Lw 72 5,
 Lw 73 9,
 Lw 74 11,
 Ll 75 (.build false (.st [.leaf,.leaf] [(.sl .leaf []),(.int .i64 0)]) [(0,(.t 73)),(1,(.t 74))]),
 Ll 76 (.buildSl false 3 (.st [.leaf,.leaf]) (.st [.leaf,.leaf] [(.sl .leaf []),(.int .i64 0)]) 1 [(0,(.t 75))]),
 Ll 77 (.append (.st [.leaf,.leaf]) 4 32 (.t 72) (.t 76)),
 Lw 5 77] [0,1,5,6,8]))))))
def Z10_L2:Cd:=
 .seq (.seq (.region [Lw 12 1,
 Ll 13 (Ofx F1h [(.t 12)]),
 Ll 14 (.bin .gtr (.t 13) (Acx 0))] [0,1,5,6,14])
 (.cond (.t 14)
 (.skip)
 (.exit 0)))
 (.seq (.block 1 (.seq (.seq (.region [Lw 17 6,
 Ll 18 (.bin .mul (Acx 2) (.t 17)),
 Lw 19 1,
 Ll 20 (Ofx F1h [(.t 19)]),
 Ll 21 (.bin .gtr (.t 18) (.t 20))] [0,1,5,6,21])
 (.cond (.t 21)
 (.seq (.region [Lw 22 5,
 Lw 23 0,
 Lw 24 1,
 Lw 25 0,
 Lw 26 1,
 Ll 27 (Ofx F1j [(.t 26)]),
 Ll 28 (Ofx F13 [(.t 25),(.t 27)]),
 Ll 29 (Opx F1b [(.t 23),(.t 24),(.t 28)]),
 Ll 30 (.build false (.st [.leaf,.leaf] [(.sl .leaf []),(.int .i64 0)]) [(0,(.t 29)),(1,(Acx 1))]),
 Ll 31 (.buildSl false 1 (.st [.leaf,.leaf]) (.st [.leaf,.leaf] [(.sl .leaf []),(.int .i64 0)]) 1 [(0,(.t 30))]),
 Ll 32 (.append (.st [.leaf,.leaf]) 2 32 (.t 22) (.t 31)),
 Lw 5 32] [5])
 (.exit 0))
 (.skip)))
 (.seq (.region [Ll 33 (Opx Fs []),
 Lw 7 33] [0,1,5,6,7])
 (.seq (.seq (.region [Lw 34 6,
 Ll 35 (.mv (Acx 0))] [0,1,5,6,7,34,35])
 (.block 2 (.loop (Z10_L0))))
 (.seq (.region [Lw 43 0,
 Lw 44 0,
 Lw 45 7,
 Ll 46 (Opx Fs []),
 Ll 47 (Opx Fy [(.t 44),(.t 45),(.t 46),(Acx (-1))]),
 Lw 48 1,
 Ll 49 (Opx F12 [(.t 43),(.t 47),(.t 48)]),
 Lw 8 49] [0,1,5,6,8])
 (.block 4 (.loop (Z10_L1))))))))
 (.region [Lw 15 6,
 Ll 16 (.bin .add (.t 15) (Acx 1)),
 Lw 6 16] [0,1,5,6]))
def Z10_B:Cd:=
 .seq (.region [Ll 4 (.mv (.c (.sl (.st [.leaf,.leaf]) [])))] [0,1])
 (.seq (.region [Ll 5 (.nilOwn 0 (.st [.leaf,.leaf]))] [0,1,5])
 (.seq (.seq (.region [Ll 6 (.mv (Acx 1))] [0,1,5,6])
 (.block 0 (.loop (Z10_L2))))
 (.seq (.region [Lw 78 5,
 Ll 79 (.call .heap [] (.f F22) [(.t 78),(.f F11)])] [5])
 (.seq (.region [Lw 80 5,
 Lw 4 80] [4])
 (.ret)))))
def Z10:Fn:=
 { nparams:=2,nblk:=5,results:=[.tmp 4],body:=Z10_B }
def Z14_B:Cd:=
 .seq (.region [Ll 4 (.mv (.c (.bool false)))] [0,1])
 (.seq (.seq (.region [Lw 6 1,
 Ll 7 (Ofx F1j [(.t 6)]),
 Ll 8 (.bin .neq (.t 7) (Acx 1)),
 Lw 9 8,
 Lx 10 1 9 false,
 Lg 11 (Ofx F1h [(.t 10)]) 9 false,
 Lg 12 (.bin .lss (.t 11) (Acx 1)) 9 false,
 Ll 13 (.pick (.t 9) (.c (.bool true)) (.t 12))] [0,1,13])
 (.cond (.t 13)
 (.seq (.region [Ll 4 (.mv (.c (.bool false)))] [4])
 (.ret))
 (.skip)))
 (.seq (.region [Lw 14 0,
 Lw 15 1,
 Ll 16 (Opx F10 [(.t 14),(.t 15)]),
 Lw 5 16] [5])
 (.seq (.region [Lw 17 5,
 Ll 18 (.len false (.t 17)),
 Ll 19 (.bin .eql (.t 18) (Acx 1)),
 Lw 20 19,
 Lx 21 5 20 true,
 Lg 22 (.idxA none (.st [.leaf,.leaf]) (.t 21) (Acx 0)) 20 true,
 Lg 23 (.fldA [.leaf,.leaf] (.t 22) 1) 20 true,
 Lg 24 (.load .leaf (.t 23)) 20 true,
 Lg 25 (.bin .eql (.t 24) (Acx 1)) 20 true,
 Ll 26 (.pick (.t 20) (.t 25) (.c (.bool false))),
 Lw 4 26] [4])
 (.ret))))
def Z14:Fn:=
 { nparams:=2,nblk:=0,results:=[.tmp 4],body:=Z14_B }
def Z9_B:Cd:=
 .seq (.region [Ll 3 (.mv (.c (.bool false)))] [0,1])
 (.seq (.region [Ilx 4 1,
 Lw 5 0,
 Ll 6 (Ofx F14 [(.t 4),(.t 5)]),
 Ll 7 (.un .not (.t 6)),
 Lw 3 7] [3])
 (.ret))
def Z9:Fn:=
 { nparams:=2,nblk:=0,results:=[.tmp 3],body:=Z9_B }
def Z8_B:Cd:=
 .seq (.region [Ll 2 (.box false 0 (.t 0)),
 Ll 4 (.mv (.c (.sl Sx6 []))),
 Ll 5 (.mv (Acx 0))] [1,2])
 (.seq (.block 0 (.seq (.region [Ilx 8 2,
 Ll 9 (Ofx Fr [(.t 8)]),
 Ll 10 (.un .not (.t 9)),
 Lw 7 10] [1,2,7])
 (.cond (.t 7)
 (.seq (.region [Ll 4 (.mv (.c (.sl Sx6 []))),
 Ll 5 (.mv (Acx 1))] [4,5])
 (.ret))
 (.seq (.region [Lw 12 1,
 Ll 13 (.bin .lss (.t 12) (Acx 1)),
 Lw 14 13,
 Lg 15 (.load .leaf (.t 2)) 14 false,
 Lx 16 1 14 false,
 Lg 17 (Ofx F16 [(.t 15),(.t 16),(Acx 343)]) 14 false,
 Lg 18 (.bin .gtr (.t 17) (Acx 343)) 14 false,
 Ll 19 (.pick (.t 14) (.c (.bool true)) (.t 18)),
 Lw 11 19] [1,2,11])
 (.cond (.t 11)
 (.seq (.region [Ll 4 (.mv (.c (.sl Sx6 []))),
 Ll 5 (.mv (Acx 2))] [4,5])
 (.ret))
 (.skip))))))
 (.seq (.region [Ilx 20 2,
 Lw 21 1,
 Ll 22 (.call .heap [1] (.f F15) [(.t 20),(.t 21)]),
 Ll 23 (.mkFn F9 [] [(.t 2)]),
 Ll 24 (.call .heap [2] (.f F1y) [(.t 22),(.t 23)]),
 Lw 6 24] [6])
 (.seq (.region [Lw 25 6,
 Ll 26 (.call .data [] (.f Fu) [(.t 25)]),
 Lw 4 26,
 Ll 5 (.mv (Acx 0))] [4,5])
 (.ret))))
def Z8:Fn:=
 { nparams:=2,nblk:=3,results:=[.tmp 4,.tmp 5],body:=Z8_B }
def Zl_B:Cd:=
 .seq (.region [Ll 5 (.box false 0 (.t 1)),
 Ll 8 (.mv (Acx 0))] [0,2,3,5])
 (.seq (.seq (.region [Lw 10 0,
 Ipx 11 5,
 Ll 12 (.buildSl false 1 Sx6 (.arr 64 .leaf z64) 1 [(0,(.t 11))]),
 Ll 13 (Ofx Fv [(.t 10),(.t 12)]),
 Lw 9 13] [2,3,5,9])
 (.seq (.region [Lw 14 9,
 Ll 15 (.bin .neq (.t 14) (Acx 0))] [2,3,5,9,15])
 (.cond (.t 15)
 (.seq (.region [Lw 16 9,
 Lw 8 16] [8])
 (.ret))
 (.skip))))
 (.seq (.seq (.region [Ipx 17 5,
 Ll 18 (Opx F1f [(.t 17)]),
 Ll 19 (Ofx F1h [(.t 18)]),
 Lw 20 2,
 Lw 21 3,
 Ll 22 (Ofx F1n [(.t 19),(.t 20),(.t 21)]),
 Ll 23 (.un .not (.t 22))] [23])
 (.cond (.t 23)
 (.seq (.region [Ll 8 (.mv (Acx 2))] [8])
 (.ret))
 (.skip)))
 (.seq (.region [Ll 8 (.mv (Acx 0))] [8])
 (.ret))))
def Zl:Fn:=
 { nparams:=4,nblk:=2,results:=[.tmp 8],body:=Zl_B }
def Z7_L0:Cd:=
 .seq (.region [Ll 22 (.bin .lss (.t 21) (.t 20))] [7,19,20,21,22])
 (.seq (.cond (.t 22)
 (.skip)
 (.exit 0))
 (.seq (.block 1 (.seq (.region [Ll 23 (.idxA none (.st [.leaf,.leaf]) (.t 19) (.t 21)),
 Ll 24 (.load (.st [.leaf,.leaf]) (.t 23)),
 Ll 9 (.box false 2 (.c (.st [.leaf,.leaf] [(.sl .leaf []),(.int .i64 0)]))),
 Ls (.store false (.st [.leaf,.leaf]) (.t 9) (.t 24))] [7,9,19,20,21])
 (.region [Lw 25 7,
 Ll 26 (.fldA [.leaf,.leaf] (.t 9) 0),
 Ilx 27 26,
 Ll 28 (Ofx F1k [(.t 27)]),
 Ll 29 (.fldA [.leaf,.leaf] (.t 9) 1),
 Ilx 30 29,
 Ll 31 (.build false (.st [Sx6,.leaf] [(.arr 64 .leaf z64),(.int .i64 0)]) [(0,(.t 28)),(1,(.t 30))]),
 Ll 32 (.buildSl false 3 (.st [Sx6,.leaf]) (.st [Sx6,.leaf] [(.arr 64 .leaf z64),(.int .i64 0)]) 1 [(0,(.t 31))]),
 Ll 33 (.append (.st [Sx6,.leaf]) 4 72 (.t 25) (.t 32)),
 Lw 7 33] [7,19,20,21])))
 (.region [Ll 34 (.bin .add (.t 21) (Acx 1)),
 Lw 21 34] [7,19,20,21])))
def Z7_B:Cd:=
 .seq (.region [Ll 3 (.box false 0 (.t 1)),
 Ll 4 (.mv (.c (.sl (.st [Sx6,.leaf]) []))),
 Ll 5 (.mv (Acx 0))] [0,3])
 (.seq (.seq (.region [Lw 10 0,
 Ipx 11 3,
 Ll 12 (Ofx Fl [(.t 10),(.t 11),(Acx 0),(Acx 12)]),
 Lw 6 12] [0,3,6])
 (.seq (.region [Lw 13 6,
 Ll 14 (.bin .neq (.t 13) (Acx 0))] [0,3,6,14])
 (.cond (.t 14)
 (.seq (.region [Lw 15 6,
 Ll 4 (.mv (.c (.sl (.st [Sx6,.leaf]) []))),
 Lw 5 15] [4,5])
 (.ret))
 (.skip))))
 (.seq (.region [Ll 7 (.nilOwn 1 (.st [Sx6,.leaf]))] [0,3,7])
 (.seq (.seq (.region [Lw 16 0,
 Ipx 17 3,
 Ll 18 (Opx F1f [(.t 17)]),
 Ll 19 (Opx F10 [(.t 16),(.t 18)]),
 Ll 20 (.len false (.t 19)),
 Ll 21 (.mv (Acx 0))] [7,19,20,21])
 (.block 0 (.loop (Z7_L0))))
 (.seq (.region [Lw 35 7,
 Lw 4 35,
 Ll 5 (.mv (Acx 0))] [4,5])
 (.ret)))))
def Z7:Fn:=
 { nparams:=2,nblk:=5,results:=[.tmp 4,.tmp 5],body:=Z7_B }
def Zb_L0:Cd:=
 .seq (.region [Ll 22 (.bin .lss (.t 21) (.t 20))] [7,19,20,21,22])
 (.seq (.cond (.t 22)
 (.skip)
 (.exit 0))
 (.seq (.block 1 (.seq (.region [Ll 23 (.idxA none (.st [.leaf,.leaf]) (.t 19) (.t 21)),
 Ll 24 (.load (.st [.leaf,.leaf]) (.t 23)),
 Ll 9 (.box false 1 (.c (.st [.leaf,.leaf] [(.sl .leaf []),(.int .i64 0)]))),
 Ls (.store false (.st [.leaf,.leaf]) (.t 9) (.t 24))] [7,9,19,20,21])
 (.seq (.seq (.region [Ll 25 (.fldA [.leaf,.leaf] (.t 9) 1),
 Ilx 26 25,
 Ll 27 (.bin .gtr (.t 26) (Acx 1))] [7,19,20,21,27])
 (.cond (.t 27)
 (.seq (.region [Ll 4 (.mv (Acx 0)),
 Ll 5 (.mv (Acx 0))] [4,5])
 (.ret))
 (.skip)))
 (.region [Lw 28 7,
 Ll 29 (.un .neg (.t 28)),
 Lw 7 29] [7,19,20,21]))))
 (.region [Ll 30 (.bin .add (.t 21) (Acx 1)),
 Lw 21 30] [7,19,20,21])))
def Zb_B:Cd:=
 .seq (.region [Ll 3 (.box false 0 (.t 1)),
 Ll 4 (.mv (Acx 0)),
 Ll 5 (.mv (Acx 0))] [0,3])
 (.seq (.seq (.region [Lw 10 0,
 Ipx 11 3,
 Ll 12 (Ofx Fl [(.t 10),(.t 11),(Acx 0),(Acx 12)]),
 Lw 6 12] [0,3,6])
 (.seq (.region [Lw 13 6,
 Ll 14 (.bin .neq (.t 13) (Acx 0))] [0,3,6,14])
 (.cond (.t 14)
 (.seq (.region [Lw 15 6,
 Ll 4 (.mv (Acx 0)),
 Lw 5 15] [4,5])
 (.ret))
 (.skip))))
 (.seq (.region [Ll 7 (.mv (Acx 1))] [0,3,7])
 (.seq (.seq (.region [Lw 16 0,
 Ipx 17 3,
 Ll 18 (Opx F1f [(.t 17)]),
 Ll 19 (Opx F10 [(.t 16),(.t 18)]),
 Ll 20 (.len false (.t 19)),
 Ll 21 (.mv (Acx 0))] [7,19,20,21])
 (.block 0 (.loop (Zb_L0))))
 (.seq (.region [Lw 31 7,
 Lw 4 31,
 Ll 5 (.mv (Acx 0))] [4,5])
 (.ret)))))
def Zb:Fn:=
 { nparams:=2,nblk:=2,results:=[.tmp 4,.tmp 5],body:=Zb_B }
def Zt_L0:Cd:=
 .seq (.seq (.region [Lw 5 4,
 Lw 6 0,
 Ll 7 (.bin .leq (.t 5) (.t 6))] [0,3,4,7])
 (.cond (.t 7)
 (.skip)
 (.exit 0)))
 (.seq (.block 1 (.seq (.seq (.region [Lw 10 0,
 Lw 11 4,
 Ll 12 (.bin .rem (.t 10) (.t 11)),
 Ll 13 (.bin .neq (.t 12) (Acx 0))] [0,3,4,13])
 (.cond (.t 13)
 (.exit 1)
 (.skip)))
 (.seq (.region [Lw 14 0,
 Lw 15 4,
 Ll 16 (.bin .quo (.t 14) (.t 15)),
 Lw 0 16] [0,3,4])
 (.seq (.seq (.region [Lw 17 0,
 Lw 18 4,
 Ll 19 (.bin .rem (.t 17) (.t 18)),
 Ll 20 (.bin .eql (.t 19) (Acx 0))] [0,3,4,20])
 (.cond (.t 20)
 (.seq (.region [Ll 2 (.mv (Acx 0))] [2])
 (.ret))
 (.skip)))
 (.region [Lw 21 3,
 Ll 22 (.un .neg (.t 21)),
 Lw 3 22] [0,3,4])))))
 (.region [Lw 8 4,
 Ll 9 (.bin .add (.t 8) (Acx 1)),
 Lw 4 9] [0,3,4]))
def Zt_B:Cd:=
 .seq (.region [Ll 2 (.mv (Acx 0))] [0])
 (.seq (.region [Ll 3 (.mv (Acx 1))] [0,3])
 (.seq (.seq (.region [Ll 4 (.mv (Acx 2))] [0,3,4])
 (.block 0 (.loop (Zt_L0))))
 (.seq (.region [Lw 23 3,
 Lw 2 23] [2])
 (.ret))))
def Zt:Fn:=
 { nparams:=1,nblk:=0,results:=[.tmp 2],body:=Zt_B }
def Z5_L0:Cd:=
 .seq (.seq (.region [Lw 16 7,
 Lw 17 1,
 Ll 18 (.bin .leq (.t 16) (.t 17))] [0,1,6,7,18])
 (.cond (.t 18)
 (.skip)
 (.exit 1)))
 (.seq (.block 2 (.seq (.region [Lw 21 1,
 Lw 22 7,
 Ll 23 (.bin .rem (.t 21) (.t 22)),
 Ll 24 (.bin .eql (.t 23) (Acx 0))] [0,1,6,7,24])
 (.cond (.t 24)
 (.region [Lw 25 6,
 Lw 26 7,
 Ll 27 (Ofx Ft [(.t 26)]),
 Lw 28 0,
 Lw 29 1,
 Lw 30 7,
 Ll 31 (.bin .quo (.t 29) (.t 30)),
 Ll 32 (Ofx F16 [(.t 28),(.t 31),(Acx 1152921504606846976)]),
 Ll 33 (.bin .mul (.t 27) (.t 32)),
 Ll 34 (.bin .add (.t 25) (.t 33)),
 Lw 6 34] [0,1,6,7])
 (.skip))))
 (.region [Lw 19 7,
 Ll 20 (.bin .add (.t 19) (Acx 1)),
 Lw 7 20] [0,1,6,7]))
def Z5_B:Cd:=
 .seq (.region [Ll 4 (.mv (Acx 0)),
 Ll 5 (.mv (Acx 0))] [0,1])
 (.seq (.block 0 (.seq (.region [Lw 9 0,
 Ll 10 (Ofx Fr [(.t 9)]),
 Ll 11 (.un .not (.t 10)),
 Lw 8 11] [0,1,8])
 (.cond (.t 8)
 (.seq (.region [Ll 4 (.mv (Acx 0)),
 Ll 5 (.mv (Acx 1))] [4,5])
 (.ret))
 (.seq (.region [Lw 13 1,
 Ll 14 (Ofx F1n [(.t 13),(Acx 1),(Acx 20)]),
 Ll 15 (.un .not (.t 14)),
 Lw 12 15] [0,1,12])
 (.cond (.t 12)
 (.seq (.region [Ll 4 (.mv (Acx 0)),
 Ll 5 (.mv (Acx 2))] [4,5])
 (.ret))
 (.skip))))))
 (.seq (.region [Ll 6 (.mv (Acx 0))] [0,1,6])
 (.seq (.seq (.region [Ll 7 (.mv (Acx 1))] [0,1,6,7])
 (.block 1 (.loop (Z5_L0))))
 (.seq (.region [Lw 35 6,
 Lw 36 1,
 Ll 37 (.bin .quo (.t 35) (.t 36)),
 Lw 4 37,
 Ll 5 (.mv (Acx 0))] [4,5])
 (.ret)))))
def Z5:Fn:=
 { nparams:=2,nblk:=0,results:=[.tmp 4,.tmp 5],body:=Z5_B }
def Za_B:Cd:=
 .seq (.region [Ll 3 (.box false 0 (.t 1)),
 Ll 4 (.mv (.c (.bool false))),
 Ll 5 (.mv (Acx 0))] [0,3])
 (.seq (.seq (.region [Lw 7 0,
 Ipx 8 3,
 Ll 9 (Ofx Fl [(.t 7),(.t 8),(Acx (-1)),(Acx 12)]),
 Lw 6 9] [0,3,6])
 (.seq (.region [Lw 10 6,
 Ll 11 (.bin .neq (.t 10) (Acx 0))] [0,3,6,11])
 (.cond (.t 11)
 (.seq (.region [Lw 12 6,
 Ll 4 (.mv (.c (.bool false))),
 Lw 5 12] [4,5])
 (.ret))
 (.skip))))
 (.seq (.region [Lw 13 0,
 Ipx 14 3,
 Ll 15 (Opx F1f [(.t 14)]),
 Ll 16 (Ofx F14 [(.t 13),(.t 15)]),
 Lw 4 16,
 Ll 5 (.mv (Acx 0))] [4,5])
 (.ret)))
def Za:Fn:=
 { nparams:=2,nblk:=1,results:=[.tmp 4,.tmp 5],body:=Za_B }
end Pe

namespace Pe
open Go
variable {T:Nat→Option Fn} {A:ah}
theorem yb {n p:Int} (hp:0<p):-p<n.tmod p∧n.tmod p<p:=by
 have hp0:p≠0:=by omega
 have e:=Int.tmod_eq_emod (a:=n) (b:=p);have g1:=co n hp0;have g2:=cd n hp;refine ⟨?_,Int.tmod_lt_of_pos n hp⟩;rw [e]
 split
 ·omega
 ·rename_i hx
  have hx':n%p≠0:=fun h0=>hx (.inr (Int.dvd_of_emod_eq_zero h0))
  omega
theorem wk {n p:Int} (hp:0<p):(n.tmod p+p).tmod p=n%p:=by
 have e0:=yb (n:=n) hp;rw [c8 (by omega),Int.add_emod_right,Int.tmod_eq_emod]
 split
 ·simp
 ·rw [show ((p.natAbs:Nat):Int)=p by omega,Int.sub_emod,Int.emod_self,Int.sub_zero,iw _ (Int.dvd_refl p),iw _ (Int.dvd_refl p)]
def qz (O:ah):Prop:=∀p n:Int,0<p→p<1000000→-9000000000000000000≤n→n≤9000000000000000000→ask O F19 [(D.int .i64 p),(D.int .i64 n)]=some ((D.int .i64 (n%p)))
theorem V8 (hT:T F19=some Z19):qz (den T A):=by
 intro p n hp hp' hn hn';have hp0:p≠0:=by omega
 have e0:=yb (n:=n) hp;have h1:IntKind.i64.wrap (n.tmod p+p)=n.tmod p+p:=w64 (by omega)
 refine bc hT rfl ?_;simp -implicitDefEqProofs [Z19,Z19_B,hp0,h1,wk hp]
def cf (l:List Int) (i:Nat):Int:=l.getD i 0
theorem dt {l:List Int} {i:Nat} (h:i<l.length):cf l i=l[i]:=by simp [cf,h]
theorem ko {l:List Int} {i:Nat} (h:l.length≤i):cf l i=0:=by simp [cf,h]
def Wo (O:ah):Prop:=∀(l:List Int) (i:Nat),i<9000000000000000000→ask O F1g [(D.sl .leaf (ak .i64 l)),(D.int .i64 i)]=some ((D.int .i64 (cf l i)))
theorem a7e (hT:T F1g=some Z1g):Wo (den T A):=by
 intro l i hi;refine bc hT rfl ?_
 by_cases h:i<l.length
 ·have h1:l[i]? = some l[i]:=ao h
  have h2:(i:Int)<(l.length:Int):=by omega
  simp -implicitDefEqProofs [Z1g,Z1g_B,h1,h2,af,dt h]
 ·have h2:¬ (i:Int)<(l.length:Int):=by omega
  simp -implicitDefEqProofs [Z1g,Z1g_B,h2,af,ko (Nat.le_of_not_lt h)]
def nk (l:List Int):Nat→Nat
 | 0=>0
 | n+1=>if cf l n=0 then nk l n else n+1
def xd (l:List Int):List Int:=l.take (nk l l.length)
theorem B8 (l:List Int):∀n,nk l n≤n
 | 0=>az 0
 | n+1=>by
  simp only [nk]
  split
  ·have:=B8 l n; omega
  ·exact az _
theorem Dz {O:ah} {l:List Int} (hl:l.length<1000000):∀(n:Nat),n≤l.length →
 dn O 0 (.loop Z1l_L0) ⟨[(0,(.d (.sl .leaf (ak .i64 l)))),(3,(.d (.int .i64 n)))],[]⟩=some (.exit 0,⟨[(0,(.d (.sl .leaf (ak .i64 l)))),(3,(.d (.int .i64 (nk l n)))),(15,(.d (.bool false)))],[]⟩)
 | 0,_=>bo (by simp -implicitDefEqProofs [Z1l_L0,af,nk])
 | n+1,hn=>by
  have hlt:n<l.length:=by omega
  have h1:l[n]? = some l[n]:=ao hlt;have h2:IntKind.i64.wrap (n:Int)=n:=w64 (by omega)
  have h3:(0:Int)<(n:Int)+1:=by omega
  by_cases h0:l[n]=0
  ·have e:nk l (n+1)=nk l n:=by simp [nk,dt hlt,h0]
   rw [e];exact bb (by simp -implicitDefEqProofs [Z1l_L0,af,h1,h2,h3,h0]) (Dz hl n (by omega))
  ·have e:nk l (n+1)=n+1:=by simp [nk,dt hlt,h0]
   rw [e];exact bo (by simp -implicitDefEqProofs [Z1l_L0,af,h1,h2,h3,h0])
def qh (O:ah):Prop:=∀l:List Int,l.length<1000000→ask O F1l [(D.sl .leaf (ak .i64 l))]=some ((D.sl .leaf (ak .i64 (xd l))))
theorem Po (hT:T F1l=some Z1l):qh (den T A):=by
 intro l hl;refine bc hT rfl ?_;have ht:=B8 l l.length;simp -implicitDefEqProofs [Z1l,Z1l_B,Dz hl l.length (az _),ht,xd]
def upd (f:Nat→Int):Nat→Nat→List Int→List Int
 | 0,_,l=>l
 | m+1,i,l=>upd f m (i+1) (l.set i (f i))
theorem sz (f:Nat→Int):∀(m i:Nat) (l:List Int),(upd f m i l).length=l.length
 | 0,_,_=>rfl
 | m+1,i,l=>by rw [upd,sz f m]; simp
theorem Bb (f:Nat→Int):∀(m i:Nat) (l:List Int) (j:Nat),(upd f m i l)[j]? = if i≤j∧j<i+m∧j<l.length then some (f j) else l[j]?
 | 0,i,l,j=>by rw [upd,if_neg (by omega)]
 | m+1,i,l,j=>by
  rw [upd,Bb f m,cg]
  by_cases h1:i+1≤j∧j<i+1+m∧j<l.length
  ·rw [if_pos h1,if_pos (by omega)]
  ·rw [if_neg h1]
   by_cases h2:j=i
   ·subst h2
    by_cases h3:j<l.length
    ·rw [if_pos (by omega),b9 h3]
    ·rw [if_neg (by omega),c5 (by simpa using h3),c5 (by omega)]
   ·rw [bn (ig h2),if_neg (by omega)]
theorem Ho (f:Nat→Int) (n:Nat) (l:List Int) (hl:l.length=n):upd f n 0 l=(List.range n).map f:=by
 apply d9;intro j;rw [Bb,d8]
 by_cases hj:j<n
 ·rw [if_pos (by omega),gu hj]; rfl
 ·rw [if_neg (by omega),c5 (by omega),c5 (by simpa using hj)]; rfl
def Small (b:Int) (l:List Int):Prop:=∀x∈l,-b≤x∧x≤b
theorem Small.le {b:Int} {l:List Int} (h:Small b l) (hb:0≤b) (i:Nat):-b≤cf l i∧cf l i≤b:=by
 rw [Pe.cf,bt];cases hq:l[i]? with
 | none=>simp; omega
 | some x=>exact h x (fy hq)
def lin (p:Int) (a b:List Int) (k:Int) (i:Nat):Int:=(cf a i+k*cf b i)%p
def Wr (p:Int) (a b:List Int) (k:Int):List Int:=xd ((List.range (max a.length b.length)).map (lin p a b k))
theorem gz {x y b c:Int} (hx:-b≤x∧x≤b) (hy:-c≤y∧y≤c) (_hb:0≤b):-(b*c)≤x*y∧x*y≤b*c:=by
 have hc:0≤c:=by omega
 have h1:0≤(b-x)*(c+y):=dy (by omega) (by omega)
 have h2:0≤(b+x)*(c-y):=dy (by omega) (by omega)
 have h3:0≤(b-x)*(c-y):=dy (by omega) (by omega)
 have h4:0≤(b+x)*(c+y):=dy (by omega) (by omega)
 have e1:(b-x)*(c+y)=b*c+b*y-x*c-x*y:=by simp only [Int.sub_mul,pj]; omega
 have e2:(b+x)*(c-y)=b*c-b*y+x*c-x*y:=by simp only [Int.add_mul,Int.mul_sub]; omega
 have e3:(b-x)*(c-y)=b*c-b*y-x*c+x*y:=by simp only [Int.sub_mul,Int.mul_sub]; omega
 have e4:(b+x)*(c+y)=b*c+b*y+x*c+x*y:=by simp only [Int.add_mul,pj]; omega
 constructor <;> omega
theorem Eh {O:ah} (hat:Wo O) (hred:qz O) {p k:Int} {a b:List Int} (hp:0<p∧p<1000000) (ha:Small 1000000 a) (hb:Small 1000000 b) (hk:-1000000≤k∧k≤1000000) {n:Nat} (hn:n<1000000) :
 ∀(m i:Nat) (cur:List Int),i+m=n→cur.length=n →
 dn O 0 (.loop Zy_L0) ⟨[(0,(.d (.int .i64 p))),(1,(.d (.sl .leaf (ak .i64 a)))),(2,(.d (.sl .leaf (ak .i64 b)))),(3,(.d (.int .i64 k))),(9,.sl 0 [] 0 n (some n)),(18,(.d (.int .i64 n))),(19,(.d (.int .i64 i)))],[.sl false .leaf (ak .i64 cur)]⟩ =
  some (.exit 0,⟨[(0,(.d (.int .i64 p))),(1,(.d (.sl .leaf (ak .i64 a)))),(2,(.d (.sl .leaf (ak .i64 b)))),(3,(.d (.int .i64 k))),(9,.sl 0 [] 0 n (some n)),(18,(.d (.int .i64 n))),(19,(.d (.int .i64 n))),(20,(.d (.bool false)))],[.sl false .leaf (ak .i64 (upd (lin p a b k) m i cur))]⟩)
 | 0,i,cur,hi,hc=>by
  have:i=n:=by omega
  subst this;exact bo (by simp -implicitDefEqProofs [Zy_L0,af,upd])
 | m+1,i,cur,hi,hc=>by
  have h1:(i:Int)<(n:Int):=by omega
  have hin:i<n:=by omega
  have e1:=hat a i (by omega)
  have e2:=hat b i (by omega)
  have ga:=ha.le (by omega) i
  have gb:=hb.le (by omega) i
  have gm:=gz hk gb (by omega)
  have w1:IntKind.i64.wrap (k*cf b i)=k*cf b i:=w64 (by omega)
  have w2:IntKind.i64.wrap (cf a i+k*cf b i)=cf a i+k*cf b i:=w64 (by omega)
  have e3:=hred p (cf a i+k*cf b i) hp.1 hp.2 (by omega) (by omega)
  have w3:IntKind.i64.wrap ((i:Int)+1)=((i+1:Nat):Int):=by rw [w64 (by omega)]; omega
  have hcur:cur[i]? = some cur[i]:=ao (by omega)
  refine bb ?_ (Eh hat hred hp ha hb hk hn m (i+1) (cur.set i (lin p a b k i)) (by omega) (by simpa using hc))
  simp -implicitDefEqProofs [Zy_L0,af,h1,hin,e1,e2,w1,w2,e3,w3,hcur,lin]
def vo (O:ah):Prop:=∀(p k:Int) (a b:List Int),0<p→p<1000000→Small 1000000 a→Small 1000000 b→-1000000≤k→k≤1000000→a.length<1000000→b.length<1000000 →
 ask O Fy [(D.int .i64 p),(D.sl .leaf (ak .i64 a)),(D.sl .leaf (ak .i64 b)),(D.int .i64 k)]=some ((D.sl .leaf (ak .i64 (Wr p a b k))))
theorem Q0 (hT:T Fy=some Zy) (hat:Wo (den T A)) (hred:qz (den T A)) (htr:qh (den T A)):vo (den T A):=by
 intro p k a b hp hp' ha hb hk hk' hla hlb;have hl:=Eh hat hred ⟨hp,hp'⟩ ha hb ⟨hk,hk'⟩ (n:=max a.length b.length) (by omega) (max a.length b.length) 0 (List.replicate (max a.length b.length) 0) (by omega) (by simp)
 rw [Ho _ _ _ (by simp)] at hl
 have e1:=htr ((List.range (max a.length b.length)).map (lin p a b k)) (by simp; omega)
 have emax:(if a.length<b.length then (b.length:Int) else (a.length:Int))=((max a.length b.length:Nat):Int):=by
  split <;> omega
 have h64:max a.length b.length*8≤1099511627776:=by omega
 refine bc hT rfl ?_;unfold Wr;generalize max a.length b.length=n at *;rw [show ((0:Nat):Int)=0 from rfl] at hl;have htk:((List.range n).map (lin p a b k)).take n=(List.range n).map (lin p a b k):=aw (by simp)
 simp -implicitDefEqProofs [Zy,Zy_B,emax,h64,hl,e1,htk]
end Pe

namespace Pe
open Go
variable {T:Nat→Option Fn} {A:ah}
def qu (x:Int) (b:List Int) (i:Nat):Nat→Nat→List Int→List Int
 | 0,_,cur=>cur
 | m+1,k,cur=>qu x b i m (k+1) (cur.set (i+k) (cf cur (i+k)+x*cf b k))
theorem px (x:Int) (b:List Int) (i:Nat):∀(m k:Nat) (cur:List Int),(qu x b i m k cur).length=cur.length
 | 0,_,_=>rfl
 | m+1,k,cur=>by rw [qu,px]; simp
theorem po (l:List Int) (i:Nat) (x:Int) (j:Nat):cf (l.set i x) j=if j=i∧i<l.length then x else cf l j:=by
 unfold cf;rw [bt,bt,List.getElem?_set]
 by_cases h:i=j
 ·subst h
  by_cases h2:i<l.length
  ·simp [h2]
  ·simp [h2]
 ·rw [if_neg h,if_neg (by omega)]
theorem Dg (x:Int) (b:List Int) (i:Nat):∀(m k:Nat) (cur:List Int) (j:Nat),i+k+m≤cur.length→cf (qu x b i m k cur) j=cf cur j+if i+k≤j∧j<i+k+m then x*cf b (j-i) else 0
 | 0,k,cur,j,_=>by rw [qu,if_neg (by omega)]; omega
 | m+1,k,cur,j,h=>by
  rw [qu,Dg x b i m (k+1) _ j (by rw [cg]; omega),po]
  by_cases hj:j=i+k
  ·subst hj
   rw [if_pos ⟨rfl,by omega⟩,if_neg (by omega),if_pos (by omega),show i+k-i=k by omega]
   omega
  ·rw [if_neg (by omega)]
   by_cases h2:i+k+1≤j∧j<i+k+1+m
   ·rw [if_pos (by omega),if_pos (by omega)]
   ·rw [if_neg (by omega),if_neg (by omega)]
theorem Small.of_cf {B:Int} (_hB:0≤B) {l:List Int} (h:∀j,-B≤cf l j∧cf l j≤B):Small B l:=by
 intro x hx;obtain ⟨j,hj,rfl⟩:=me hx;have:=h j
 rwa [dt hj] at this
theorem Jp {O:ah} {p x:Int} {b:List Int} {i la nb:Nat} {a:List Int} (hx:-1000≤x∧x≤1000) (hb:Small 1000 b) (hi:i<10000) (hbl:b.length<10000) {n:Nat} (hn:i+b.length≤n) (hn':n<1000000) :
 ∀(m k:Nat) (cur:List Int),k+m=b.length→cur.length=n→(∀j,i+k≤j→-9000000000000≤cf cur j∧cf cur j≤9000000000000) →
 dn O 0 (.loop Z1d_L0) ⟨[(0,(.d (.int .i64 p))),(2,(.d (.sl .leaf (ak .i64 b)))),(7,.sl 0 [] 0 n (some n)),(8,(.d (.int .i64 i))),(9,(.d (.int .i64 x))),(29,(.d (.sl .leaf (ak .i64 a)))),(30,(.d (.int .i64 la))),(31,(.d (.int .i64 nb))),(36,(.d (.sl .leaf (ak .i64 b)))),(37,(.d (.int .i64 b.length))),(38,(.d (.int .i64 k)))],[.sl false .leaf (ak .i64 cur)]⟩ =
  some (.exit 2,⟨[(0,(.d (.int .i64 p))),(2,(.d (.sl .leaf (ak .i64 b)))),(7,.sl 0 [] 0 n (some n)),(8,(.d (.int .i64 i))),(9,(.d (.int .i64 x))),(29,(.d (.sl .leaf (ak .i64 a)))),(30,(.d (.int .i64 la))),(31,(.d (.int .i64 nb))),(36,(.d (.sl .leaf (ak .i64 b)))),(37,(.d (.int .i64 b.length))),(38,(.d (.int .i64 b.length))),(39,(.d (.bool false)))],[.sl false .leaf (ak .i64 (qu x b i m k cur))]⟩)
 | 0,k,cur,hk,hc,hs=>by
  have:k=b.length:=by omega
  subst this;exact bo (by simp -implicitDefEqProofs [Z1d_L0,af,qu])
 | m+1,k,cur,hk,hc,hs=>by
  have h1:(k:Int)<(b.length:Int):=by omega
  have hkl:k<b.length:=by omega
  have hbk:b[k]=cf b k:=(dt hkl).symm;have w1:IntKind.i64.wrap ((i:Int)+(k:Int))=((i+k:Nat):Int):=by rw [w64 (by omega)]; omega
  have hik:i+k<n:=by omega
  have t1:(0:Int)≤(i:Int)+(k:Int):=by omega
  have t2:((i:Int)+(k:Int)).toNat=i+k:=by omega
  have hikc:i+k<cur.length:=by omega
  have hck:cur[i+k]=cf cur (i+k):=(dt hikc).symm;have gb:=hb.le (by omega) k
  have gc:=hs (i+k) (by omega)
  have gm:=gz hx gb (by omega)
  have w2:IntKind.i64.wrap (x*cf b k)=x*cf b k:=w64 (by omega)
  have w3:IntKind.i64.wrap (cf cur (i+k)+x*cf b k)=cf cur (i+k)+x*cf b k:=w64 (by omega)
  have w4:IntKind.i64.wrap ((k:Int)+1)=((k+1:Nat):Int):=by rw [w64 (by omega)]; omega
  refine bb ?_ (Jp hx hb hi hbl hn hn' m (k+1) (cur.set (i+k) (cf cur (i+k)+x*cf b k)) (by omega) (by simpa using hc) (fun j hj=>by rw [po,if_neg (by omega)]; exact hs j (by omega)))
  simp -implicitDefEqProofs [Z1d_L0,af,hkl,hbk,w1,t1,t2,hik,hikc,hck,w2,w3,w4]
def tt (a b:List Int):Nat→Nat→List Int→List Int
 | 0,_,cur=>cur
 | m+1,i,cur=>tt a b m (i+1) (qu (cf a i) b i b.length 0 cur)
theorem yf (a b:List Int):∀(m i:Nat) (cur:List Int),(tt a b m i cur).length=cur.length
 | 0,_,_=>rfl
 | m+1,i,cur=>by rw [tt,yf,px]
theorem Jo {x:Int} {b:List Int} {i:Nat} {cur:List Int} {M:Int} (hx:-1000≤x∧x≤1000) (hb:Small 1000 b) (hl:i+b.length≤cur.length) (h:∀j,-M≤cf cur j∧cf cur j≤M) (j:Nat) :
 -(M+1000000)≤cf (qu x b i b.length 0 cur) j∧cf (qu x b i b.length 0 cur) j≤M+1000000:=by
 rw [Dg _ _ _ _ _ _ _ (by omega)]
 have h1:=h j;have h2:=gz hx (hb.le (by omega) (j-i)) (by omega)
 split <;> omega
theorem Vi {O:ah} {p:Int} {a b:List Int} (ha:Small 1000 a) (hb:Small 1000 b) (hal:a.length<10000) (hbl:b.length<10000) (hb0:0<b.length) {n:Nat} (hn:n=a.length+b.length-1) :
 ∀(m i:Nat) (cur:List Int),i+m=a.length→cur.length=n→(∀j,-((i:Int)*1000000)≤cf cur j∧cf cur j≤(i:Int)*1000000) →
 dn O 0 (.loop Z1d_L1) ⟨[(0,(.d (.int .i64 p))),(2,(.d (.sl .leaf (ak .i64 b)))),(7,.sl 0 [] 0 n (some n)),(29,(.d (.sl .leaf (ak .i64 a)))),(30,(.d (.int .i64 a.length))),(31,(.d (.int .i64 i)))],[.sl false .leaf (ak .i64 cur)]⟩ =
  some (.exit 0,⟨[(0,(.d (.int .i64 p))),(2,(.d (.sl .leaf (ak .i64 b)))),(7,.sl 0 [] 0 n (some n)),(29,(.d (.sl .leaf (ak .i64 a)))),(30,(.d (.int .i64 a.length))),(31,(.d (.int .i64 a.length))),(32,(.d (.bool false)))],[.sl false .leaf (ak .i64 (tt a b m i cur))]⟩):=by
 intro m
 induction m with
 | zero=>
  intro i cur hi hc hs;have:i=a.length:=by omega
  subst this;exact bo (by simp -implicitDefEqProofs [Z1d_L1,af,tt])
 | succ m ih=>
  intro i cur hi hc hs;have hil:i<a.length:=by omega
  have hai:a[i]=cf a i:=(dt hil).symm;have gx:=ha.le (by omega) i
  have q1:i<10000:=by omega
  have q2:i+b.length≤n:=by omega
  have q3:n<1000000:=by omega
  have q4:∀j,i+0≤j→-9000000000000≤cf cur j∧cf cur j≤9000000000000:=fun j _=>by
   have h9:=hs j;omega
  have h0:=Jp (O:=O) (p:=p) (a:=a) (la:=a.length) (nb:=i) gx hb q1 hbl q2 q3 b.length 0 cur (bf _) hc q4;have e0:((0:Nat):Int)=0:=rfl;rw [e0] at h0;have w4:IntKind.i64.wrap ((i:Int)+1)=((i+1:Nat):Int):=(w64 (x:=(i:Int)+1) (by omega)).trans (by omega)
  have hnew:∀j,-(((i+1:Nat):Int)*1000000)≤cf (qu (cf a i) b i b.length 0 cur) j∧cf (qu (cf a i) b i b.length 0 cur) j≤((i+1:Nat):Int)*1000000:=by
   intro j;have:=Jo (x:=cf a i) (b:=b) (i:=i) (cur:=cur) gx hb (by omega) hs j
   omega
  refine bb ?_ (ih (i+1) (qu (cf a i) b i b.length 0 cur) (by omega) (by rw [px]; exact hc) hnew)
  simp -implicitDefEqProofs [Z1d_L1,af,hil,hai,h0,w4]
theorem Il {O:ah} {p:Int} {out:List Int} (hp:0<p) {n:Nat} (hn:n<1000000) (hout:out.length=n) (hpos:∀j,-9000000000000000≤cf out j∧cf out j≤9000000000000000) :
 ∀(m i:Nat) (cur:List Int),i+m=n→cur.length=n→(∀j,i≤j→cf cur j=cf out j) →
 dn O 0 (.loop Z1d_L2) ⟨[(0,(.d (.int .i64 p))),(7,.sl 0 [] 0 n (some n)),(56,.sl 0 [] 0 n (some n)),(57,(.d (.int .i64 n))),(58,(.d (.int .i64 i)))],[.sl false .leaf (ak .i64 cur)]⟩ =
  some (.exit 4,⟨[(0,(.d (.int .i64 p))),(7,.sl 0 [] 0 n (some n)),(56,.sl 0 [] 0 n (some n)),(57,(.d (.int .i64 n))),(58,(.d (.int .i64 n))),(59,(.d (.bool false)))],[.sl false .leaf (ak .i64 (upd (fun j=>(cf out j).tmod p) m i cur))]⟩)
 | 0,i,cur,hi,hc,hs=>by
  have:i=n:=by omega
  subst this;exact bo (by simp -implicitDefEqProofs [Z1d_L2,af,upd])
 | m+1,i,cur,hi,hc,hs=>by
  have hp0:p≠0:=by omega
  have hin:i<n:=by omega
  have hic:i<cur.length:=by omega
  have hci:cur[i]=cf out i:=by rw [←dt hic]; exact hs i (by omega)
  have w4:IntKind.i64.wrap ((i:Int)+1)=((i+1:Nat):Int):=by rw [w64 (by omega)]; omega
  refine bb ?_ (Il hp hn hout hpos m (i+1) (cur.set i ((cf out i).tmod p)) (by omega) (by simpa using hc) (fun j hj=>by rw [po,if_neg (by omega)]; exact hs j (by omega)))
  simp -implicitDefEqProofs [Z1d_L2,af,hin,hic,hci,hp0,w4]
def conv (a b:List Int):Nat→Nat→Int
 | 0,_=>0
 | m+1,j=>conv a b m j+if m≤j then cf a m*cf b (j-m) else 0
theorem Cj (a b:List Int):∀(m i:Nat) (cur:List Int) (j:Nat),i+m=a.length→a.length+b.length≤cur.length+1→0<b.length→(cf cur j=conv a b i j)→(∀j',cf cur j'=conv a b i j')→cf (tt a b m i cur) j=conv a b (i+m) j
 | 0,i,cur,j,_,_,_,h,_=>h
 | m+1,i,cur,j,hi,hl,hb,h,hall=>by
  have step:∀j',cf (qu (cf a i) b i b.length 0 cur) j'=conv a b (i+1) j':=by
   intro j';rw [Dg _ _ _ _ _ _ _ (by omega),hall j',conv]
   by_cases h1:i+0≤j'∧j'<i+0+b.length
   ·rw [if_pos h1,if_pos (by omega)]
   ·rw [if_neg h1]
    by_cases h2:i≤j'
    ·rw [if_pos h2,ko (l:=b) (by omega),Int.mul_zero]
    ·rw [if_neg h2]
  rw [tt,show i+(m+1)=(i+1)+m by omega]
  exact Cj a b m (i+1) _ j (by omega) (by rw [px]; exact hl) hb (step j) step
def Can (p:Int) (l:List Int):Prop:=∀x∈l,0≤x∧x<p
theorem Can.small {p:Int} {l:List Int} (h:Can p l) {b:Int} (hp:p≤b):Small b l:=fun x hx=>by have:=h x hx; omega
theorem Can.le {p:Int} {l:List Int} (h:Can p l) (hp:0<p) (i:Nat):0≤cf l i∧cf l i<p:=by
 by_cases hi:i<l.length
 ·rw [dt hi]; exact h _ (ce hi)
 ·rw [ko (by omega)]; omega
theorem uv {p:Int} {a b:List Int} (hp:0<p) (ha:Can p a) (hb:Can p b):∀m j,0≤conv a b m j
 | 0,j=>by simp [conv]
 | m+1,j=>by
  have:=uv hp ha hb m j;rw [conv]
  split
  ·have:=dy (ha.le hp m).1 (hb.le hp (j-m)).1
   omega
  ·omega
def mul (p:Int) (a b:List Int):List Int:=xd ((List.range (a.length+b.length-1)).map fun j=>conv a b a.length j%p)
theorem zm {l:List Int}:∀n,(∀j,j<n→cf l j=0)→nk l n=0
 | 0,_=>rfl
 | n+1,h=>by
  rw [nk,if_pos (h n (by omega))]
  exact zm n fun j hj=>h j (by omega)
theorem J8 (a:List Int):∀m j,conv a [] m j=0
 | 0,_=>rfl
 | m+1,j=>by rw [conv,J8 a m j,ko (l:=[]) (by simp)]; simp
theorem m5 (f:Nat→Int) (n j:Nat) (hj:j<n):cf ((List.range n).map f) j=f j:=by
 rw [dt (by simpa using hj)]; simp
theorem G1 (p:Int) (b:List Int):mul p [] b=[]:=by
 unfold mul xd;rw [zm,g7];intro j hj;rw [m5 _ _ _ (by simpa using hj)]
 simp [conv]
theorem Dq (p:Int) (a:List Int):mul p a []=[]:=by
 unfold mul xd;rw [zm,g7];intro j hj;rw [m5 _ _ _ (by simpa using hj),J8]
 simp
def Gb (O:ah):Prop:=∀(p:Int) (a b:List Int),0<p→p<1000→Can p a→Can p b→a.length<10000→b.length<10000 →
 ask O F1d [(D.int .i64 p),(D.sl .leaf (ak .i64 a)),(D.sl .leaf (ak .i64 b))]=some ((D.sl .leaf (ak .i64 (mul p a b))))
theorem X8 (hT:T F1d=some Z1d) (htr:qh (den T A)):Gb (den T A):=by
 intro p a b hp hp' ha hb hal hbl;refine bc hT rfl ?_
 by_cases h1:a=[]
 ·subst h1
  rw [G1];simp -implicitDefEqProofs [Z1d,Z1d_B,af,gt]
 ·by_cases h2:b=[]
  ·subst h2
   have hal0:a.length≠0:=by simpa using h1
   rw [Dq];simp -implicitDefEqProofs [Z1d,Z1d_B,af,gt,h1]
  ·have g1:0<a.length:=jd.2 h1
   have g2:0<b.length:=jd.2 h2
   have l1:=Vi (O:=den T A) (p:=p) (ha.small (b:=1000) (by omega)) (hb.small (b:=1000) (by omega)) hal hbl g2 rfl a.length 0 (List.replicate (a.length+b.length-1) 0) (bf _) (by simp) (fun j=>by
    have:cf (List.replicate (a.length+b.length-1) 0) j=0:=by
     by_cases hj:j<a.length+b.length-1
     ·rw [dt (by simpa using hj)]; simp
     ·exact ko (by simp; omega)
    rw [this]; simp)
   have hz:∀j,cf (List.replicate (a.length+b.length-1) (0:Int)) j=0:=fun j=>by
    by_cases hj:j<a.length+b.length-1
    ·rw [dt (by simpa using hj)]; simp
    ·exact ko (by simp; omega)
   have hrl:(tt a b a.length 0 (List.replicate (a.length+b.length-1) 0)).length=a.length+b.length-1:=by rw [yf]; simp
   have hrc:∀j,cf (tt a b a.length 0 (List.replicate (a.length+b.length-1) 0)) j=conv a b a.length j:=fun j=>by
    have:=Cj a b a.length 0 (List.replicate (a.length+b.length-1) 0) j (bf _) (by simp; omega) g2 (by rw [hz]; rfl) (fun j'=>by rw [hz]; rfl)
    rwa [bf] at this
   have hcb:∀m j,conv a b m j≤(m:Int)*1000000:=by
    intro m
    induction m with
    | zero=>intro j; simp [conv]
    | succ m ih=>
     intro j;have h3:=ih j;have h4:=gz ((ha.small (b:=1000) (by omega)).le (by omega) m) ((hb.small (b:=1000) (by omega)).le (by omega) (j-m)) (by omega)
     rw [conv]
     split <;> omega
   have l2:=Il (O:=den T A) (p:=p) (out:=tt a b a.length 0 (List.replicate (a.length+b.length-1) 0)) hp (n:=a.length+b.length-1) (by omega) hrl (fun j=>by
    rw [hrc];have h3:=uv hp ha hb a.length j;have h4:=hcb a.length j;omega) (a.length+b.length-1) 0 (tt a b a.length 0 (List.replicate (a.length+b.length-1) 0)) (bf _) hrl (fun _ _=>rfl)
   rw [Ho _ _ _ hrl] at l2
   have hfun:(fun j=>(cf (tt a b a.length 0 (List.replicate (a.length+b.length-1) 0)) j).tmod p)=fun j=>conv a b a.length j%p:=by
    funext j
    rw [hrc,c8 (uv hp ha hb a.length j)]
   rw [hfun] at l2;have e0:((0:Nat):Int)=0:=rfl;rw [e0] at l1 l2;have e1:=htr ((List.range (a.length+b.length-1)).map fun j=>conv a b a.length j%p) (by simp; omega)
   have n1:a.length≠0:=by omega
   have n2:b.length≠0:=by omega
   have w1:IntKind.i64.wrap ((a.length:Int)+(b.length:Int))=(a.length:Int)+(b.length:Int):=w64 (by omega)
   have w2:IntKind.i64.wrap ((a.length:Int)+(b.length:Int)-1)=((a.length+b.length-1:Nat):Int):=(w64 (x:=(a.length:Int)+(b.length:Int)-1) (by omega)).trans (by omega)
   have h8:(a.length+b.length-1)*8≤1099511627776:=by omega
   unfold mul;generalize a.length+b.length-1=n at *;have htk:((List.range n).map fun j=>conv a b a.length j%p).take n=(List.range n).map fun j=>conv a b a.length j%p:=aw (by simp)
   simp -implicitDefEqProofs [Z1d,Z1d_B,af,h1,h2,w1,w2,h8,l1,l2,e1,htk]
end Pe

namespace Pe
open Go
variable {T:Nat→Option Fn} {A:ah}
def zh (p n:Int):Nat→Int
 | 0=>1
 | m+1=>zh p n m*n%p
def inv (p n:Int):Int:=zh p n (p-2).toNat
theorem Oo {p n:Int} (hp:1<p):∀m,0≤zh p n m∧zh p n m<p
 | 0=>by simp [zh]; omega
 | m+1=>⟨co _ (by omega),cd _ (by omega)⟩
theorem Dt {O:ah} {p n:Int} (hp:1<p) (hp':p<1000) (hn:0≤n∧n<p) {k:Nat} (hk:(k:Int)=p-2):∀(m i:Nat),i+m=k →
 dn O 0 (.loop Z13_L0) ⟨[(0,(.d (.int .i64 p))),(1,(.d (.int .i64 n))),(5,(.d (.int .i64 (zh p n i)))),(7,(.d (.int .i64 k))),(8,(.d (.int .i64 i)))],[]⟩=some (.exit 0,⟨[(0,(.d (.int .i64 p))),(1,(.d (.int .i64 n))),(5,(.d (.int .i64 (zh p n k)))),(7,(.d (.int .i64 k))),(8,(.d (.int .i64 k))),(9,(.d (.bool false)))],[]⟩)
 | 0,i,hi=>by
  have:i=k:=by omega
  subst this;exact bo (by simp -implicitDefEqProofs [Z13_L0,af])
 | m+1,i,hi=>by
  have hik:i<k:=by omega
  have g:=Oo (n:=n) hp i;have hp0:p≠0:=by omega
  have gm:=gz (x:=zh p n i) (y:=n) (b:=1000) (c:=1000) (by omega) (by omega) (by omega)
  have w1:IntKind.i64.wrap (zh p n i*n)=zh p n i*n:=w64 (by omega)
  have w2:(zh p n i*n).tmod p=zh p n (i+1):=c8 (dy g.1 hn.1);have w4:IntKind.i64.wrap ((i:Int)+1)=((i+1:Nat):Int):=(w64 (x:=(i:Int)+1) (by omega)).trans (by omega)
  refine bb ?_ (Dt hp hp' hn hk m (i+1) (by omega))
  simp -implicitDefEqProofs [Z13_L0,af,hik,hp0,w1,w2,w4]
def ow (O:ah):Prop:=∀p n:Int,1<p→p<1000→0≤n→n<p→ask O F13 [(D.int .i64 p),(D.int .i64 n)]=some ((D.int .i64 (inv p n)))
theorem R7 (hT:T F13=some Z13):ow (den T A):=by
 intro p n hp hp' hn hn';have hk:(((p-2).toNat:Nat):Int)=p-2:=by omega
 have hl:=Dt (O:=den T A) hp hp' ⟨hn,hn'⟩ hk (p-2).toNat 0 (by omega)
 have w1:IntKind.i64.wrap (p-2)=(((p-2).toNat:Nat):Int):=(w64 (x:=p-2) (by omega)).trans (by omega)
 have e0:((0:Nat):Int)=0:=rfl;rw [e0] at hl;have e1:zh p n 0=1:=rfl;rw [e1] at hl;refine bc hT rfl ?_;unfold inv;generalize (p-2).toNat=k at *;simp -implicitDefEqProofs [Z13,Z13_B,w1,hl]
def kq (O:ah):Prop:=∀l:List Int,l.length<1000000→ask O F1h [(D.sl .leaf (ak .i64 l))]=some ((D.int .i64 ((l.length:Int)-1)))
theorem V1 (hT:T F1h=some Z1h):kq (den T A):=by
 intro l hl;have w1:IntKind.i64.wrap ((l.length:Int)-1)=(l.length:Int)-1:=w64 (by omega)
 refine bc hT rfl ?_;simp -implicitDefEqProofs [Z1h,Z1h_B,w1]
def As (l:List Int):Int:=cf l (l.length-1)
def ul (O:ah):Prop:=∀l:List Int,l.length<1000000→ask O F1j [(D.sl .leaf (ak .i64 l))]=some ((D.int .i64 (As l)))
theorem a0j (hT:T F1j=some Z1j):ul (den T A):=by
 intro l hl;refine bc hT rfl ?_
 by_cases h:l=[]
 ·subst h
  simp -implicitDefEqProofs [Z1j,Z1j_B,af,gt,As,cf]
 ·have h1:0<l.length:=jd.2 h
  have w1:IntKind.i64.wrap ((l.length:Int)-1)=((l.length-1:Nat):Int):=(w64 (x:=(l.length:Int)-1) (by omega)).trans (by omega)
  have h2:l.length-1<l.length:=by omega
  have h3:l[l.length-1]? = some (As l):=by
   rw [ao h2]; exact congrArg some (dt h2).symm
  have h4:(l.length:Int)≠0:=by omega
  simp -implicitDefEqProofs [Z1j,Z1j_B,af,h,w1,h3]
def u7 (O:ah):Prop:=∀n a b:Int,ask O F1n [(D.int .i64 n),(D.int .i64 a),(D.int .i64 b)]=some ((D.bool (decide (a≤n∧n≤b))))
theorem Tp (hT:T F1n=some Z1n):u7 (den T A):=by
 intro n a b;refine bc hT rfl ?_
 by_cases h:a≤n <;> simp -implicitDefEqProofs [Z1n,Z1n_B,h]
def isP (p:Int):Bool:=decide (p=2∨p=3∨p=5∨p=7)
def qd (O:ah):Prop:=∀p:Int,ask O Fr [(D.int .i64 p)]=some ((D.bool (isP p)))
theorem Pk (hT:T Fr=some Zr):qd (den T A):=by
 intro p;refine bc hT rfl ?_
 by_cases h2:p=2
 ·simp -implicitDefEqProofs [Zr,Zr_B,h2,isP]
 ·by_cases h3:p=3
  ·simp -implicitDefEqProofs [Zr,Zr_B,h3,isP]
  ·by_cases h5:p=5
   ·simp -implicitDefEqProofs [Zr,Zr_B,h5,isP]
   ·simp -implicitDefEqProofs [Zr,Zr_B,h2,h3,h5,isP]
def Ga (O:ah):Prop:=∀(p k:Int) (a:List Int),0<p→p<1000000→Small 1000000 a→-1000000≤k→k≤1000000→a.length<1000000 →
 ask O F1b [(D.int .i64 p),(D.sl .leaf (ak .i64 a)),(D.int .i64 k)]=some ((D.sl .leaf (ak .i64 (Wr p [] a k))))
theorem Wj (hT:T F1b=some Z1b) (hc:vo (den T A)):Ga (den T A):=by
 intro p k a hp hp' ha hk hk' hl;have e1:=hc p k [] a hp hp' (by intro x hx; simp at hx) ha hk hk' (by simp) hl
 rw [gt] at e1;refine bc hT rfl ?_;simp -implicitDefEqProofs [Z1b,Z1b_B,e1]
def yz (O:ah):Prop:=ask O Fs []=some ((D.sl .leaf (ak .i64 ([0,1]))))
theorem T6 (hT:T Fs=some Zs):yz (den T A):=by
 refine bc hT rfl ?_;simp -implicitDefEqProofs [Zs,Zs_B,ak,List.replicate]
end Pe

namespace Pe
open Go
variable {T:Nat→Option Fn} {A:ah}
def k8 (p q:Int) (b:List Int) (i:Nat):Nat→Nat→List Int→List Int
 | 0,_,cur=>cur
 | m+1,k,cur=>k8 p q b i m (k+1) (cur.set (i+k) ((cf cur (i+k)-q*cf b k)%p))
theorem jt (p q:Int) (b:List Int) (i:Nat):∀(m k:Nat) (cur:List Int),(k8 p q b i m k cur).length=cur.length
 | 0,_,_=>rfl
 | m+1,k,cur=>by rw [k8,jt]; simp
theorem ue (p q:Int) (b:List Int) (i:Nat):∀(m k:Nat) (cur:List Int) (j:Nat),i+k+m≤cur.length→cf (k8 p q b i m k cur) j=if i+k≤j∧j<i+k+m then (cf cur j-q*cf b (j-i))%p else cf cur j
 | 0,k,cur,j,_=>by rw [k8,if_neg (by omega)]
 | m+1,k,cur,j,h=>by
  rw [k8,ue p q b i m (k+1) _ j (by rw [cg]; omega),po]
  by_cases hj:j=i+k
  ·subst hj
   rw [if_neg (by omega),if_pos ⟨rfl,by omega⟩,if_pos (by omega),show i+k-i=k by omega]
  ·have e:(if j=i+k∧i+k<cur.length then (cf cur (i+k)-q*cf b k)%p else cf cur j)=cf cur j:=if_neg fun h=>hj h.1
   rw [e]
   by_cases h2:i+k+1≤j∧j<i+k+1+m
   ·rw [if_pos (by omega),if_pos (by omega)]
   ·rw [if_neg (by omega),if_neg (by omega)]
theorem Can.of_cf {p:Int} {l:List Int} (h:∀j,j<l.length→0≤cf l j∧cf l j<p):Can p l:=by
 intro x hx;obtain ⟨j,hj,rfl⟩:=me hx;have:=h j hj
 rwa [dt hj] at this
theorem zk {p q:Int} {b:List Int} {i:Nat} (hp:0<p) {m k:Nat} {cur:List Int} (hl:i+k+m≤cur.length) (hc:Can p cur):Can p (k8 p q b i m k cur):=by
 apply Can.of_cf;intro j hj;rw [ue _ _ _ _ _ _ _ _ hl]
 split
 ·exact ⟨co _ (by omega),cd _ hp⟩
 ·exact hc.le hp j
theorem Ox {O:ah} (hred:qz O) {p q by_:Int} {b quo:List Int} {i la nq:Nat} {cp:Option Nat} (hp:0<p) (hp':p<1000) (hq:0≤q∧q<p) (hb:Can p b) (hi:i<10000) (hbl:b.length<10000) (hn:i+b.length≤la) (hn':la<1000000) :
 ∀(m k:Nat) (cur:List Int),k+m=b.length→cur.length=la→Can p cur →
 dn O 0 (.loop Zz_L0) ⟨[(0,(.d (.int .i64 p))),(2,(.d (.sl .leaf (ak .i64 b)))),(8,.sl 0 [] 0 la cp),(9,.sl 1 [] 0 nq (some nq)),(10,(.d (.int .i64 by_))),(11,(.d (.int .i64 i))),(12,(.d (.int .i64 q))),(57,(.d (.sl .leaf (ak .i64 b)))),(58,(.d (.int .i64 b.length))),(59,(.d (.int .i64 k)))],[.sl false .leaf (ak .i64 cur),.sl false .leaf (ak .i64 quo)]⟩ =
  some (.exit 2,⟨[(0,(.d (.int .i64 p))),(2,(.d (.sl .leaf (ak .i64 b)))),(8,.sl 0 [] 0 la cp),(9,.sl 1 [] 0 nq (some nq)),(10,(.d (.int .i64 by_))),(11,(.d (.int .i64 i))),(12,(.d (.int .i64 q))),(57,(.d (.sl .leaf (ak .i64 b)))),(58,(.d (.int .i64 b.length))),(59,(.d (.int .i64 b.length))),(60,(.d (.bool false)))],[.sl false .leaf (ak .i64 (k8 p q b i m k cur)),.sl false .leaf (ak .i64 quo)]⟩):=by
 intro m
 induction m with
 | zero=>
  intro k cur hk hc hcan;have:k=b.length:=by omega
  subst this;exact bo (by simp -implicitDefEqProofs [Zz_L0,af,k8])
 | succ m ih=>
  intro k cur hk hc hcan;have hkl:k<b.length:=by omega
  have hbk:b[k]=cf b k:=(dt hkl).symm;have hik:i+k<la:=by omega
  have hikc:i+k<cur.length:=by omega
  have hck:cur[i+k]=cf cur (i+k):=(dt hikc).symm;have t1:(0:Int)≤(i:Int)+(k:Int):=by omega
  have t2:((i:Int)+(k:Int)).toNat=i+k:=by omega
  have w1:IntKind.i64.wrap ((i:Int)+(k:Int))=((i+k:Nat):Int):=(w64 (x:=(i:Int)+(k:Int)) (by omega)).trans (by omega)
  have gb:=hb.le hp k;have gc:=hcan.le hp (i+k);have gm:=gz (x:=q) (y:=cf b k) (b:=1000) (c:=1000) (by omega) (by omega) (by omega)
  have w2:IntKind.i64.wrap (q*cf b k)=q*cf b k:=w64 (by omega)
  have w3:IntKind.i64.wrap (cf cur (i+k)-q*cf b k)=cf cur (i+k)-q*cf b k:=w64 (by omega)
  have w4:IntKind.i64.wrap ((k:Int)+1)=((k+1:Nat):Int):=(w64 (x:=(k:Int)+1) (by omega)).trans (by omega)
  have e3:=hred p (cf cur (i+k)-q*cf b k) hp (by omega) (by omega) (by omega)
  have hcan':Can p (cur.set (i+k) ((cf cur (i+k)-q*cf b k)%p)):=by
   intro x hx;rcases di hx with h | h
   ·exact hcan x h
   ·subst h; exact ⟨co _ (by omega),cd _ hp⟩
  refine bb ?_ (ih (k+1) (cur.set (i+k) ((cf cur (i+k)-q*cf b k)%p)) (by omega) (by simpa using hc) hcan')
  simp -implicitDefEqProofs [Zz_L0,af,hkl,hbk,w1,t1,t2,hik,hikc,hck,w2,w3,w4,e3]
def dv (p by_:Int) (b:List Int):Nat→List Int×List Int→List Int×List Int
 | 0,r=>r
 | c+1,(cur,quo)=>
  let q:=cf cur (c+b.length-1)*by_%p
  dv p by_ b c (k8 p q b c b.length 0 cur,quo.set c q)
theorem P7 {O:ah} (hred:qz O) {p by_:Int} {b:List Int} {la nq:Nat} {cp:Option Nat} (hp:0<p) (hp':p<1000) (hby:0≤by_∧by_<p) (hb:Can p b) (hb0:0<b.length) (hn:nq+b.length=la+1) (hn':la<10000) :
 ∀(c:Nat) (cur quo:List Int),c≤nq→cur.length=la→quo.length=nq→Can p cur →
 dn O 0 (.loop Zz_L1) ⟨[(0,(.d (.int .i64 p))),(2,(.d (.sl .leaf (ak .i64 b)))),(8,.sl 0 [] 0 la cp),(9,.sl 1 [] 0 nq (some nq)),(10,(.d (.int .i64 by_))),(11,(.d (.int .i64 ((c:Int)-1))))],[.sl false .leaf (ak .i64 cur),.sl false .leaf (ak .i64 quo)]⟩ =
  some (.exit 0,⟨[(0,(.d (.int .i64 p))),(2,(.d (.sl .leaf (ak .i64 b)))),(8,.sl 0 [] 0 la cp),(9,.sl 1 [] 0 nq (some nq)),(10,(.d (.int .i64 by_))),(11,(.d (.int .i64 (-1)))),(38,(.d (.bool false)))],[.sl false .leaf (ak .i64 (dv p by_ b c (cur,quo)).1),.sl false .leaf (ak .i64 (dv p by_ b c (cur,quo)).2)]⟩):=by
 intro c
 induction c with
 | zero=>
  intro cur quo hc h1 h2 hcan;exact bo (by simp -implicitDefEqProofs [Zz_L1,af,dv])
 | succ c ih=>
  intro cur quo hc h1 h2 hcan;have hp0:p≠0:=by omega
  have t0:(((c+1:Nat):Int)-1)=(c:Int):=by omega
  rw [t0];have hil:c+b.length-1<cur.length:=by omega
  have hil2:c+b.length-1<la:=by omega
  have hci:cur[c+b.length-1]=cf cur (c+b.length-1):=(dt hil).symm;have gc:=hcan.le hp (c+b.length-1);have w1:IntKind.i64.wrap ((c:Int)+(b.length:Int))=(c:Int)+(b.length:Int):=w64 (by omega)
  have w2:IntKind.i64.wrap ((c:Int)+(b.length:Int)-1)=((c+b.length-1:Nat):Int):=(w64 (x:=(c:Int)+(b.length:Int)-1) (by omega)).trans (by omega)
  have gm:=gz (x:=cf cur (c+b.length-1)) (y:=by_) (b:=1000) (c:=1000) (by omega) (by omega) (by omega)
  have w3:IntKind.i64.wrap (cf cur (c+b.length-1)*by_)=cf cur (c+b.length-1)*by_:=w64 (by omega)
  have w4:(cf cur (c+b.length-1)*by_).tmod p=cf cur (c+b.length-1)*by_%p:=c8 (dy gc.1 hby.1);have w5:IntKind.i64.wrap ((c:Int)-1)=(c:Int)-1:=w64 (by omega)
  have hcq:c<quo.length:=by omega
  have hcn:c<nq:=by omega
  have hq:0≤cf cur (c+b.length-1)*by_%p∧cf cur (c+b.length-1)*by_%p<p:=⟨co _ hp0,cd _ hp⟩;have l0:=Ox (by_:=by_) (quo:=quo.set c (cf cur (c+b.length-1)*by_%p)) (nq:=nq) (cp:=cp) hred hp hp' hq hb (i:=c) (by omega) (by omega) (la:=la) (by omega) (by omega) b.length 0 cur (bf _) h1 hcan
  have e0:((0:Nat):Int)=0:=rfl;rw [e0] at l0;have ih':=ih (k8 p (cf cur (c+b.length-1)*by_%p) b c b.length 0 cur) (quo.set c (cf cur (c+b.length-1)*by_%p)) (by omega) (by rw [jt]; exact h1) (by simpa using h2) (zk hp (by omega) hcan)
  refine bb ?_ ih';simp -implicitDefEqProofs [Zz_L1,af,hp0,w1,w2,hil,hil2,hci,w3,w4,w5,hcq,hcn,l0]
end Pe

namespace Gq
class CR (α:Type) extends Zero α,One α,Add α,Mul α,Neg α,Sub α where
 add_zero:∀a:α,a+0=a
 add_comm:∀a b:α,a+b=b+a
 add_assoc:∀a b c:α,a+b+c=a+(b+c)
 mul_one:∀a:α,a*1=a
 mul_comm:∀a b:α,a*b=b*a
 mul_assoc:∀a b c:α,a*b*c=a*(b*c)
 mul_add:∀a b c:α,a*(b+c)=a*b+a*c
 add_neg:∀a:α,a + -a=0
 sub_eq:∀a b:α,a-b=a + -b
section
variable {α:Type} [CR α]
theorem add_zero (a:α):a+0=a:=CR.add_zero a
theorem add_comm (a b:α):a+b=b+a:=CR.add_comm a b
theorem add_assoc (a b c:α):a+b+c=a+(b+c):=CR.add_assoc a b c
theorem mul_one (a:α):a*1=a:=CR.mul_one a
theorem mul_comm (a b:α):a*b=b*a:=CR.mul_comm a b
theorem mul_assoc (a b c:α):a*b*c=a*(b*c):=CR.mul_assoc a b c
theorem mul_add (a b c:α):a*(b+c)=a*b+a*c:=CR.mul_add a b c
theorem add_neg (a:α):a + -a=0:=CR.add_neg a
theorem sub_eq (a b:α):a-b=a + -b:=CR.sub_eq a b
end
instance:CR Int where
 add_zero:=Int.add_zero
 add_comm:=Int.add_comm
 add_assoc:=Int.add_assoc
 mul_one:=ix
 mul_comm:=eg
 mul_assoc:=kf
 mul_add:=pj
 add_neg:=Int.add_right_neg
 sub_eq:=fun _ _=>Int.sub_eq_add_neg
section
variable {α:Type} [CR α]
def pw (a:α):Nat→α
 | 0=>1
 | n+1=>pw a n*a
instance (priority:=100):HPow α Nat α:=⟨pw⟩
theorem pow_zero (a:α):a^0=1:=rfl
theorem pow_succ (a:α) (n:Nat):a^(n+1)=a^n*a:=rfl
theorem zero_add (a:α):0+a=a:=by rw [add_comm,add_zero]
theorem O4 (a:α):-a+a=0:=by rw [add_comm,add_neg]
theorem one_mul (a:α):1*a=a:=by rw [mul_comm,mul_one]
theorem add_mul (a b c:α):(a+b)*c=a*c+b*c:=by rw [mul_comm,mul_add,mul_comm c,mul_comm c]
theorem oz (a b c:α):a+(b+c)=b+(a+c):=by rw [←add_assoc,add_comm a,add_assoc]
theorem mul_left_comm (a b c:α):a*(b*c)=b*(a*c):=by rw [←mul_assoc,mul_comm a,mul_assoc]
theorem D4 {a b c:α} (h:a+b=a+c):b=c:=by
 have:-a+(a+b)=-a+(a+c):=by rw [h]
 rwa [←add_assoc,←add_assoc,O4,zero_add,zero_add] at this
theorem mul_zero (a:α):a*0=0:=by
 apply D4 (a:=a*0);rw [←mul_add,add_zero,add_zero]
theorem zero_mul (a:α):0*a=0:=by rw [mul_comm,mul_zero]
theorem A3 {a b:α} (h:a+b=0):b=-a:=D4 (a:=a) (by rw [h,add_neg])
theorem vp (a b:α):-a*b=-(a*b):=A3 (by rw [←add_mul,add_neg,zero_mul])
theorem neg_neg (a:α):- -a=a:=(A3 (O4 a)).symm
theorem neg_zero:-(0:α)=0:=(A3 (add_zero 0)).symm
theorem um (a b:α):-(a+b)=-a + -b:=by
 apply (A3 _).symm;rw [add_assoc,oz b,←add_assoc,add_neg,zero_add,add_neg]
def nc:Nat→α
 | 0=>0
 | n+1=>nc n+1
theorem xe (m n:Nat):nc (m+n)=(nc m+nc n:α):=by
 induction n with
 | zero=>exact (add_zero _).symm
 | succ n ih=>rw [←fm,nc,nc,ih,add_assoc]
theorem Gx (m n:Nat):nc (m*n)=(nc m*nc n:α):=by
 induction n with
 | zero=>exact (mul_zero _).symm
 | succ n ih=>rw [Nat.mul_succ,xe,nc,ih,mul_add,mul_one]
def ic:Int→α
 | .ofNat n=>nc n
 | .negSucc n=>-nc (n+1)
theorem Hk:ic 0=(0:α):=rfl
theorem M9:ic 1=(1:α):=zero_add 1
theorem zl (m n:Nat):ic ((m:Int)-n)=(nc m + -nc n:α):=by
 by_cases h:n≤m
 ·obtain ⟨k,rfl⟩:=f5 h
  have:((n+k:Nat):Int)-n=(k:Nat):=by omega
  rw [this];show nc k=_;rw [xe,add_comm (nc n),add_assoc,add_neg,add_zero]
 ·obtain ⟨k,rfl⟩:=f5 (show m+1≤n by omega)
  have:(m:Int)-((m+1+k:Nat):Int)=Int.negSucc k:=by omega
  rw [this];show -nc (k+1)=_;rw [show m+1+k=m+(k+1) by omega,xe m,um,←add_assoc,add_neg,zero_add]
theorem Be (j:Int):∃m n:Nat,j=(m:Int)-n:=by
 cases j with
 | ofNat m=>exact ⟨m,0,by simp⟩
 | negSucc n=>exact ⟨0,n+1,by omega⟩
theorem Lz (j k:Int):ic (j+k)=(ic j+ic k:α):=by
 obtain ⟨a,b,rfl⟩:=Be j;obtain ⟨c,d,rfl⟩:=Be k;rw [show ((a:Int)-b)+((c:Int)-d)=((a+c:Nat):Int)-((b+d:Nat):Int) by omega,zl,zl,zl,xe,xe,um,add_assoc,add_assoc,oz (nc c)]
theorem a06 (j:Int):ic (-j)=(-ic j:α):=A3 (by rw [←Lz,Int.add_right_neg]; rfl)
theorem Yd (j k:Int):ic (j*k)=(ic j*ic k:α):=by
 obtain ⟨a,b,rfl⟩:=Be j;obtain ⟨c,d,rfl⟩:=Be k
 have e:((a:Int)-b)*((c:Int)-d)=((a*c+b*d:Nat):Int)-((a*d+b*c:Nat):Int):=by
  simp only [Int.sub_mul,Int.mul_sub,Int.natCast_add,Int.natCast_mul]; omega
 rw [e,zl,zl,zl,xe,xe,Gx,Gx,Gx,Gx,add_mul,mul_add,mul_add,vp,vp,mul_comm (nc a) (-nc d),vp,mul_comm (nc b) (-nc d),vp,neg_neg,um,mul_comm (nc d) (nc a),mul_comm (nc d) (nc b)];simp only [add_assoc,oz,add_comm]
inductive RE where
 | zero | one
 | i (k:Int)
 | v (n:Nat)
 | add (a b:RE) | mul (a b:RE) | sub (a b:RE)
 | neg (a:RE)
 | pow (a:RE) (n:Nat)
def RE.ev (env:List α):RE→α
 | .zero=>0
 | .one=>1
 | .i k=>ic k
 | .v n=>(env[n]?).getD 0
 | .add a b=>a.ev env+b.ev env
 | .mul a b=>a.ev env*b.ev env
 | .sub a b=>a.ev env-b.ev env
 | .neg a=>-a.ev env
 | .pow a n=>pw (a.ev env) n
abbrev Mon:=List Nat
def Vr (n:Nat):Mon→Mon
 | []=>[n]
 | m::r=>if Nat.ble n m then n::m::r else m::Vr n r
def X7:Mon→Mon→Mon
 | [],b=>b
 | n::a,b=>Vr n (X7 a b)
def ltM:Mon→Mon→Bool
 | [],[]=>false
 | [],_::_=>true
 | _::_,[]=>false
 | a::r,b::s=>if Nat.beq a b then ltM r s else Nat.blt a b
def eqM:Mon→Mon→Bool
 | [],[]=>true
 | a::r,b::s=>Nat.beq a b&&eqM r s
 | _,_=>false
abbrev Pl:=List (Mon×Int)
def Lf (m:Mon) (k:Int):Pl→Pl
 | []=>if k=0 then [] else [(m,k)]
 | (m',k')::r=>if eqM m m' then (if k+k'=0 then r else (m,k+k')::r) else if ltM m m' then (if k=0 then (m',k')::r else (m,k)::(m',k')::r) else (m',k')::Lf m k r
def Ph:Pl→Pl→Pl
 | [],b=>b
 | (m,k)::a,b=>Lf m k (Ph a b)
def M6 (m:Mon) (k:Int):Pl→Pl
 | []=>[]
 | (m',k')::r=>Lf (X7 m m') (k*k') (M6 m k r)
def Rk:Pl→Pl→Pl
 | [],_=>[]
 | (m,k)::a,b=>Ph (M6 m k b) (Rk a b)
def Wy (a:Pl):Nat→Pl
 | 0=>[([],1)]
 | n+1=>Rk (Wy a n) a
def RE.nf:RE→Pl
 | .zero=>[]
 | .one=>[([],1)]
 | .i k=>Lf [] k []
 | .v n=>[([n],1)]
 | .add a b=>Ph a.nf b.nf
 | .mul a b=>Rk a.nf b.nf
 | .sub a b=>Ph a.nf (M6 [] (-1) b.nf)
 | .neg a=>M6 [] (-1) a.nf
 | .pow a n=>Wy a.nf n
def eqP:Pl→Pl→Bool
 | [],[]=>true
 | (m,k)::a,(m',k')::b=>eqM m m'&&decide (k=k')&&eqP a b
 | _,_=>false
def evM (env:List α):Mon→α
 | []=>1
 | n::m=>(env[n]?).getD 0*evM env m
def evP (env:List α):Pl→α
 | []=>0
 | (m,k)::r=>ic k*evM env m+evP env r
theorem N6:∀{a b:Mon},eqM a b=true→a=b
 | [],[],_=>rfl
 | x::a,y::b,h=>by
  simp only [eqM,al] at h;rw [Nat.eq_of_beq_eq_true h.1,N6 h.2]
theorem Tl:∀{a b:Pl},eqP a b=true→a=b
 | [],[],_=>rfl
 | (m,k)::a,(m',k')::b,h=>by
  simp only [eqP,al,decide_eq_true_eq] at h;rw [N6 h.1.1,h.1.2,Tl h.2]
theorem No (env:List α) (n:Nat):∀m,evM env (Vr n m)=(env[n]?).getD 0*evM env m
 | []=>rfl
 | m::r=>by
  unfold Vr
  split
  ·rfl
  ·rw [evM,evM,No env n r,mul_left_comm]
theorem O6 (env:List α):∀a b,evM env (X7 a b)=evM env a*evM env b
 | [],b=>(one_mul _).symm
 | n::a,b=>by rw [X7,No,O6 env a b,evM,mul_assoc]
theorem Ba (env:List α) (m:Mon) (k:Int):∀r,evP env (Lf m k r)=ic k*evM env m+evP env r
 | []=>by
  unfold Lf
  split
  ·rename_i h; rw [h,Hk,zero_mul,zero_add]
  ·rfl
 | (m',k')::r=>by
  unfold Lf
  split
  ·rename_i h
   obtain rfl:=N6 h
   split
   ·rename_i h2
    rw [evP,←add_assoc,←add_mul,←Lz,h2,Hk,zero_mul,zero_add]
   ·rw [evP,evP,Lz,add_mul,add_assoc]
  ·split
   ·split
    ·rename_i h; rw [h,Hk,zero_mul,zero_add]
    ·rfl
   ·rw [evP,Ba env m k r,evP,oz]
theorem Az (env:List α):∀a b,evP env (Ph a b)=evP env a+evP env b
 | [],b=>(zero_add _).symm
 | (m,k)::a,b=>by rw [Ph,Ba,Az env a b,evP,add_assoc]
theorem Hg (env:List α) (m:Mon) (k:Int):∀r,evP env (M6 m k r)=ic k*evM env m*evP env r
 | []=>(mul_zero _).symm
 | (m',k')::r=>by
  rw [M6,Ba,Hg env m k r,evP,mul_add,O6,Yd,mul_assoc,mul_assoc,mul_left_comm (ic k')];simp only [mul_assoc]
theorem Hl (env:List α):∀a b,evP env (Rk a b)=evP env a*evP env b
 | [],b=>(zero_mul _).symm
 | (m,k)::a,b=>by rw [Rk,Az,Hg,Hl env a b,evP,add_mul]
theorem Tb (env:List α):evP env [([],1)]=1:=by simp only [evP,evM,M9,mul_one,add_zero]
theorem Og (env:List α) (a:Pl):∀n,evP env (Wy a n)=pw (evP env a) n
 | 0=>Tb env
 | n+1=>by rw [Wy,Hl,Og env a n]; rfl
theorem Wf (a b:α):a * -b=-(a*b):=by rw [mul_comm,vp,mul_comm]
theorem Su (env:List α) (a:Pl):evP env (M6 [] (-1) a)=-evP env a:=by
 rw [Hg,evM,mul_one,a06,M9,vp,one_mul]
theorem wv (env:List α):∀e:RE,evP env e.nf=e.ev env
 | .zero=>rfl
 | .one=>Tb env
 | .i k=>by rw [RE.nf,Ba,evM,mul_one,evP,add_zero]; rfl
 | .v n=>by simp only [RE.nf,evP,evM,M9,one_mul,mul_one,add_zero]; rfl
 | .add a b=>by rw [RE.nf,Az,wv env a,wv env b]; rfl
 | .mul a b=>by rw [RE.nf,Hl,wv env a,wv env b]; rfl
 | .sub a b=>by rw [RE.nf,Az,Su,wv env a,wv env b,←sub_eq]; rfl
 | .neg a=>by rw [RE.nf,Su,wv env a]; rfl
 | .pow a n=>by rw [RE.nf,Og,wv env a]; rfl
class Ix {α:Type} (env:List α) (x:α) (n:outParam Nat):Prop where
 h:env[n]? = some x
instance (priority:=1000) {l:List α} {x:α}:Ix (x::l) x 0:=⟨rfl⟩
instance (priority:=500) {l:List α} {x y:α} {n:Nat} [h:Ix l x n]:Ix (y::l) x (n+1):=⟨by simpa using h.h⟩
class Rf (env:List α) (x:α) (e:outParam RE):Prop where
 h:e.ev env=x
variable {env:List α} {x y:α} {a b:RE}
instance:Rf env (0:α) .zero:=⟨rfl⟩
instance:Rf env (1:α) .one:=⟨rfl⟩
instance {k:Int}:Rf env (ic k:α) (.i k):=⟨rfl⟩
instance [h:Rf env x a] [h':Rf env y b]:Rf env (x+y) (.add a b):=⟨by rw [RE.ev,h.h,h'.h]⟩
instance [h:Rf env x a] [h':Rf env y b]:Rf env (x*y) (.mul a b):=⟨by rw [RE.ev,h.h,h'.h]⟩
instance [h:Rf env x a] [h':Rf env y b]:Rf env (x-y) (.sub a b):=⟨by rw [RE.ev,h.h,h'.h]⟩
instance [h:Rf env x a]:Rf env (-x) (.neg a):=⟨by rw [RE.ev,h.h]⟩
instance {n:Nat} [h:Rf env x a]:Rf env (x^n) (.pow a n):=⟨by rw [RE.ev,h.h]; rfl⟩
instance (priority:=10) {n:Nat} [h:Ix env x n]:Rf env x (.v n):=⟨by rw [RE.ev,h.h]; rfl⟩
theorem c6 (env:List α) {x y:α} {a b:RE} [h:Rf env x a] [h':Rf env y b] (e:eqP a.nf b.nf=true):x=y:=by
 rw [←h.h,←h'.h,←wv,←wv,Tl e]
end
end Gq

namespace Gq
section
variable {R:Type} [CR R]
def Y6 (m:R):Setoid R where
 r a b:=∃c,a=b+m*c
 iseqv:={
  refl:=fun a=>⟨0,by rw [mul_zero,add_zero]⟩
  symm:=fun {a b} ⟨c,h⟩=>⟨-c,by rw [h]; exact c6 [b,m,c] rfl⟩
  trans:=fun {a b c} ⟨u,h⟩ ⟨v,h'⟩=>⟨u+v,by rw [h,h']; exact c6 [c,m,u,v] rfl⟩ }
def Quo (m:R):Type:=Quotient (Y6 m)
variable {m:R}
def Quo.mk (m:R) (a:R):Quo m:=Quotient.mk (Y6 m) a
theorem Quo.eq {a b:R}:Quo.mk m a=Quo.mk m b↔∃c,a=b+m*c:=⟨fun h=>Quotient.exact h,fun h=>Quotient.sound h⟩
theorem Quo.ind {P:Quo m→Prop} (h:∀a,P (Quo.mk m a)) (x:Quo m):P x:=Quotient.ind h x
instance:Zero (Quo m):=⟨Quo.mk m 0⟩
instance:One (Quo m):=⟨Quo.mk m 1⟩
instance:Add (Quo m):=⟨Quotient.lift₂ (fun a b=>Quo.mk m (a+b)) (fun a b a' b' ⟨c,h⟩ ⟨d,h'⟩=>Quo.eq.2 ⟨c+d,by rw [h,h']; exact c6 [a',b',c,d,m] rfl⟩)⟩
instance:Mul (Quo m):=⟨Quotient.lift₂ (fun a b=>Quo.mk m (a*b)) (fun a b a' b' ⟨c,h⟩ ⟨d,h'⟩=>Quo.eq.2 ⟨c*b'+a'*d+m*c*d,by rw [h,h']; exact c6 [a',b',c,d,m] rfl⟩)⟩
instance:Neg (Quo m):=⟨Quotient.lift (fun a=>Quo.mk m (-a)) (fun a a' ⟨c,h⟩=>Quo.eq.2 ⟨-c,by rw [h]; exact c6 [a',c,m] rfl⟩)⟩
instance:Sub (Quo m):=⟨fun a b=>a + -b⟩
theorem Quo.mk_add (a b:R):Quo.mk m (a+b)=Quo.mk m a+Quo.mk m b:=rfl
theorem Quo.mk_mul (a b:R):Quo.mk m (a*b)=Quo.mk m a*Quo.mk m b:=rfl
theorem Quo.mk_neg (a:R):Quo.mk m (-a)=-Quo.mk m a:=rfl
theorem Quo.mk_zero:Quo.mk m 0=0:=rfl
theorem Quo.mk_one:Quo.mk m 1=1:=rfl
instance:CR (Quo m) where
 add_zero:=Quo.ind fun a=>congrArg (Quo.mk m) (add_zero a)
 add_comm:=Quo.ind fun a=>Quo.ind fun b=>congrArg (Quo.mk m) (add_comm a b)
 add_assoc:=Quo.ind fun a=>Quo.ind fun b=>Quo.ind fun c=>congrArg (Quo.mk m) (add_assoc a b c)
 mul_one:=Quo.ind fun a=>congrArg (Quo.mk m) (mul_one a)
 mul_comm:=Quo.ind fun a=>Quo.ind fun b=>congrArg (Quo.mk m) (mul_comm a b)
 mul_assoc:=Quo.ind fun a=>Quo.ind fun b=>Quo.ind fun c=>congrArg (Quo.mk m) (mul_assoc a b c)
 mul_add:=Quo.ind fun a=>Quo.ind fun b=>Quo.ind fun c=>congrArg (Quo.mk m) (mul_add a b c)
 add_neg:=Quo.ind fun a=>congrArg (Quo.mk m) (add_neg a)
 sub_eq:=fun _ _=>rfl
theorem Quo.mk_sub (a b:R):Quo.mk m (a-b)=Quo.mk m a-Quo.mk m b:=by rw [sub_eq,mk_add,mk_neg,←sub_eq]
theorem Quo.mk_pow (a:R):∀n,Quo.mk m (pw a n)=pw (Quo.mk m a) n
 | 0=>rfl
 | n+1=>by rw [pw,pw,mk_mul,mk_pow a n]
end
theorem sub_self {α:Type} [CR α] (a:α):a-a=0:=by rw [sub_eq,add_neg]
theorem og {α:Type} [CR α] {a b:α} (h:a-b=0):a=b:=by
 have:a=(a-b)+b:=c6 [a,b] rfl;rw [this,h,zero_add]
class Fd (K:Type) extends CR K where
 one_ne:(1:K)≠0
 inv:K→K
 mul_inv:∀a:K,a≠0→a*inv a=1
theorem Fd.mul_ne {K:Type} [Fd K] {a b:K} (ha:a≠0) (hb:b≠0):a*b≠0:=fun h=>by
 have:(inv a*inv b)*(a*b)=1:=by
  rw [show (inv a*inv b)*(a*b)=(a*inv a)*(b*inv b) from c6 [a,b,inv a,inv b] rfl,Fd.mul_inv a ha,Fd.mul_inv b hb,mul_one]
 rw [h,mul_zero] at this;exact Fd.one_ne this.symm
theorem Fd.zero_or {K:Type} [Fd K] {a b:K} (h:a*b=0):a=0∨b=0:=by
 by_cases ha:a=0
 ·exact .inl ha
 ·by_cases hb:b=0
  ·exact .inr hb
  ·exact absurd h (Fd.mul_ne ha hb)
theorem Fd.inv_ne {K:Type} [Fd K] {a:K} (ha:a≠0):inv a≠0:=fun h=>by
 have:=Fd.mul_inv a ha;rw [h,mul_zero] at this;exact Fd.one_ne this.symm
class IsP (p:Int):Prop where
 h:p=2∨p=3∨p=5∨p=7
theorem IsP.pos {p:Int} [h:IsP p]:0<p:=by have:=h.h; omega
theorem IsP.le {p:Int} [h:IsP p]:p≤7:=by have:=h.h; omega
theorem IsP.ge {p:Int} [h:IsP p]:2≤p:=by have:=h.h; omega
abbrev Zp (p:Int):Type:=Quo p
abbrev zp (p:Int) (n:Int):Zp p:=Quo.mk p n
theorem Cg {p a b:Int}:zp p a=zp p b↔a%p=b%p:=by
 rw [Quo.eq];constructor
 ·rintro ⟨c,rfl⟩
  rw [lh]
 ·intro h
  obtain ⟨c,hc⟩:=Int.dvd_of_emod_eq_zero (Int.emod_eq_emod_iff_emod_sub_eq_zero.1 h);exact ⟨c,by omega⟩
theorem t6 (p a:Int):zp p (a%p)=zp p a:=Cg.2 (iw _ (Int.dvd_refl p))
theorem Mi (p a b:Int):zp p (a+b)=zp p a+zp p b:=rfl
theorem xn (p a b:Int):zp p (a*b)=zp p a*zp p b:=rfl
theorem Yf (p a:Int):zp p (-a)=-zp p a:=rfl
theorem Tt (p a b:Int):zp p (a-b)=zp p a-zp p b:=rfl
theorem td (p:Int):zp p 0=0:=rfl
theorem Mb (p:Int):zp p 1=1:=rfl
def rep {p:Int}:Zp p→Int:=Quotient.lift (fun a:Int=>a%p) fun a b h=>by
 have:=Cg.1 (Quotient.sound (s:=Y6 p) h);exact this
theorem Cz (p a:Int):rep (zp p a)=a%p:=rfl
theorem jk {p:Int}:∀x:Zp p,zp p (rep x)=x:=Quo.ind fun a=>t6 p a
theorem kg {p:Int} [IsP p] (x:Zp p):0≤rep x∧rep x<p:=by
 rw [←jk x,Cz];have:=IsP.pos (p:=p);exact ⟨co _ (by omega),cd _ (by omega)⟩
theorem Oj {p:Int} {x y:Zp p} (h:rep x=rep y):x=y:=by rw [←jk x,←jk y,h]
theorem G5 {p a:Int} (h:0≤a∧a<p):rep (zp p a)=a:=by rw [Cz,iv h.1 h.2]
theorem rep_zero {p:Int}:rep (0:Zp p)=0:=by show (0:Int)%p=0; simp
theorem fw {p:Int} {x:Zp p}:rep x=0↔x=0:=⟨fun h=>Oj (by rw [h,rep_zero]),fun h=>by rw [h,rep_zero]⟩
theorem va {p:Int} [IsP p]:rep (1:Zp p)=1:=by
 have:=IsP.ge (p:=p);exact G5 (a:=1) (by omega)
def Xb (p a:Int):Int:=(a^(p-2).toNat)%p
theorem W8 (p:Int) [h:IsP p] (a:Int) (h0:0<a) (h1:a<p):a*Xb p a%p=1:=by
 rcases h.h with rfl | rfl | rfl | rfl
 ·obtain rfl:a=1:=by omega
  decide
 ·have:a=1∨a=2:=by omega
  rcases this with rfl | rfl <;> decide
 ·have:a=1∨a=2∨a=3∨a=4:=by omega
  rcases this with rfl | rfl | rfl | rfl <;> decide
 ·have:a=1∨a=2∨a=3∨a=4∨a=5∨a=6:=by omega
  rcases this with rfl | rfl | rfl | rfl | rfl | rfl <;> decide
instance {p:Int} [IsP p]:Fd (Zp p) where
 one_ne:=fun h=>by
  have:=congrArg rep h;rw [va,rep_zero] at this;omega
 inv:=fun x=>zp p (Xb p (rep x))
 mul_inv:=fun x hx=>by
  have h0:=kg x;have h1:rep x≠0:=fun h=>hx (fw.1 h)
  have h2:zp p (rep x*Xb p (rep x))=1:=by
   rw [←t6,W8 p _ (by omega) h0.2]; rfl
  have h3:zp p (rep x)*zp p (Xb p (rep x))=1:=h2
  rwa [jk] at h3
section
variable {K:Type} [CR K]
def cv:Nat→(Nat→K)→(Nat→K)→K
 | 0,f,g=>f 0*g 0
 | n+1,f,g=>f 0*g (n+1)+cv n (fun i=>f (i+1)) g
theorem Hv:∀(n:Nat) (f g:Nat→K),cv (n+1) f g=cv n f (fun i=>g (i+1))+f (n+1)*g 0
 | 0,f,g=>rfl
 | n+1,f,g=>by rw [cv,Hv n,cv]; simp only [add_assoc]
theorem vg:∀(n:Nat) (f g:Nat→K),cv n f g=cv n g f
 | 0,f,g=>mul_comm _ _
 | n+1,f,g=>by rw [cv,Hv,vg n,add_comm,mul_comm (f 0)]
theorem Jz:∀(n:Nat) (f f' g:Nat→K),cv n (fun i=>f i+f' i) g=cv n f g+cv n f' g
 | 0,f,f',g=>add_mul _ _ _
 | n+1,f,f',g=>by rw [cv,Jz n,cv,cv,add_mul]; exact c6 [f 0*g (n+1),f' 0*g (n+1),cv n (fun i=>f (i+1)) g,cv n (fun i=>f' (i+1)) g] rfl
theorem Om (k:K):∀(n:Nat) (f g:Nat→K),cv n (fun i=>k*f i) g=k*cv n f g
 | 0,f,g=>mul_assoc _ _ _
 | n+1,f,g=>by rw [cv,Om k n,cv,mul_add,mul_assoc]
theorem He (n:Nat) (f g g':Nat→K):cv n f (fun i=>g i+g' i)=cv n f g+cv n f g':=by rw [vg,Jz,vg n g,vg n g']
theorem Ii:∀(n:Nat) (f g h:Nat→K),cv n (fun i=>cv i f g) h=cv n f (fun i=>cv i g h)
 | 0,f,g,h=>mul_assoc _ _ _
 | n+1,f,g,h=>by
  rw [cv,cv];show f 0*g 0*h (n+1)+cv n (fun i=>f 0*g (i+1)+cv i (fun i=>f (i+1)) g) h=f 0*cv (n+1) g h+cv n (fun i=>f (i+1)) (fun i=>cv i g h)
  rw [Jz,Om,Ii n,cv,mul_add,mul_assoc,add_assoc]
theorem vi {g:Nat→K}:∀(n:Nat) {f:Nat→K},(∀i,f i=0)→cv n f g=0
 | 0,f,h=>by rw [cv,h,zero_mul]
 | n+1,f,h=>by rw [cv,h,zero_mul,vi n (fun i=>h _),add_zero]
theorem Lm {g:Nat→K} {b:Nat} (hg:∀i,b≤i→g i=0):∀(a n:Nat) {f:Nat→K},(∀i,a≤i→f i=0)→a+b≤n+1→cv n f g=0
 | 0,n,f,hf,_=>vi n fun i=>hf i (jn i)
 | a+1,0,f,hf,h=>by
  have:b=0:=by omega
  subst this;rw [cv,hg 0 (az _),mul_zero]
 | a+1,n+1,f,hf,h=>by rw [cv,hg (n+1) (by omega),mul_zero,Lm hg a n (fun i hi=>hf _ (by omega)) (by omega),add_zero]
structure Pol (K:Type) [CR K] where
 c:Nat→K
 fin:∃n,∀i,n≤i→c i=0
theorem Pol.ext {a b:Pol K} (h:∀i,a.c i=b.c i):a=b:=by
 obtain ⟨f,hf⟩:=a;obtain ⟨g,hg⟩:=b;have:f=g:=funext h;subst this;rfl
def Q4:Nat→K:=fun i=>if i=0 then 1 else 0
instance:Zero (Pol K):=⟨⟨fun _=>0,0,fun _ _=>rfl⟩⟩
instance:One (Pol K):=⟨⟨Q4,1,fun i hi=>if_neg (by omega)⟩⟩
instance:Add (Pol K):=⟨fun a b=>⟨fun i=>a.c i+b.c i,by
 obtain ⟨n,hn⟩:=a.fin;obtain ⟨m,hm⟩:=b.fin;exact ⟨max n m,fun i hi=>by rw [hn i (by omega),hm i (by omega),add_zero]⟩⟩⟩
instance:Neg (Pol K):=⟨fun a=>⟨fun i=>-a.c i,by
 obtain ⟨n,hn⟩:=a.fin;exact ⟨n,fun i hi=>by rw [hn i hi,neg_zero]⟩⟩⟩
instance:Sub (Pol K):=⟨fun a b=>a + -b⟩
instance:Mul (Pol K):=⟨fun a b=>⟨fun i=>cv i a.c b.c,by
 obtain ⟨n,hn⟩:=a.fin;obtain ⟨m,hm⟩:=b.fin;exact ⟨n+m,fun i hi=>Lm hm n i hn (by omega)⟩⟩⟩
theorem Pol.c_zero (i:Nat):(0:Pol K).c i=0:=rfl
theorem Pol.c_add (a b:Pol K) (i:Nat):(a+b).c i=a.c i+b.c i:=rfl
theorem Pol.c_neg (a:Pol K) (i:Nat):(-a).c i=-a.c i:=rfl
theorem Pol.c_mul (a b:Pol K) (i:Nat):(a*b).c i=cv i a.c b.c:=rfl
theorem Ul (n:Nat) (f:Nat→K):cv n Q4 f=f n:=by
 cases n with
 | zero=>exact one_mul _
 | succ n=>
  have e:cv n (fun i=>Q4 (i+1)) f=0:=vi n (f:=fun i=>Q4 (i+1)) (fun i=>if_neg (Nat.succ_ne_zero i))
  rw [cv,e,add_zero];exact one_mul _
instance:CR (Pol K) where
 add_zero:=fun a=>Pol.ext fun i=>add_zero _
 add_comm:=fun a b=>Pol.ext fun i=>add_comm _ _
 add_assoc:=fun a b c=>Pol.ext fun i=>add_assoc _ _ _
 mul_one:=fun a=>Pol.ext fun i=>by rw [Pol.c_mul,vg]; exact Ul i a.c
 mul_comm:=fun a b=>Pol.ext fun i=>vg _ _ _
 mul_assoc:=fun a b c=>Pol.ext fun i=>Ii _ _ _ _
 mul_add:=fun a b c=>Pol.ext fun i=>He _ _ _ _
 add_neg:=fun a=>Pol.ext fun i=>add_neg _
 sub_eq:=fun _ _=>rfl
theorem Pol.c_sub (a b:Pol K) (i:Nat):(a-b).c i=a.c i-b.c i:=by rw [sub_eq,c_add,c_neg,←sub_eq]
def Pol.C (k:K):Pol K:=⟨fun i=>if i=0 then k else 0,1,fun i hi=>if_neg (by omega)⟩
def Pol.X:Pol K:=⟨fun i=>if i=1 then 1 else 0,2,fun i hi=>if_neg (by omega)⟩
theorem Pol.c_C (k:K) (i:Nat):(Pol.C k).c i=if i=0 then k else 0:=rfl
theorem Pol.c_X (i:Nat):(Pol.X:Pol K).c i=if i=1 then 1 else 0:=rfl
theorem Pol.c_Cmul (k:K) (a:Pol K) (i:Nat):(Pol.C k*a).c i=k*a.c i:=by
 rw [c_mul];cases i with
 | zero=>rfl
 | succ n=>
  have e:cv n (fun i=>(Pol.C k).c (i+1)) a.c=0:=vi n (f:=fun i=>(Pol.C k).c (i+1)) (fun i=>by rw [c_C,if_neg (Nat.succ_ne_zero i)])
  rw [cv,e,add_zero]; rfl
theorem Pol.c_Xmul (a:Pol K) (i:Nat):(Pol.X*a).c i=if i=0 then 0 else a.c (i-1):=by
 rw [c_mul];cases i with
 | zero=>exact zero_mul _
 | succ n=>
  have e:(fun i=>(Pol.X:Pol K).c (i+1))=Q4:=funext fun i=>by
   rw [c_X]; unfold Q4
   by_cases h:i=0
   ·rw [if_pos h,if_pos (by omega)]
   ·rw [if_neg h,if_neg (by omega)]
  rw [cv,e,Ul,c_X,if_neg (by omega),zero_mul,zero_add,if_neg (by omega)]; rfl
theorem Pol.C_zero:Pol.C (0:K)=0:=Pol.ext fun i=>by rw [c_C,c_zero]; split <;> rfl
theorem Pol.C_one:Pol.C (1:K)=1:=rfl
theorem Pol.C_add (a b:K):Pol.C (a+b)=Pol.C a+Pol.C b:=Pol.ext fun i=>by
 rw [c_add,c_C,c_C,c_C]; split
 ·rfl
 ·rw [add_zero]
theorem Pol.C_mul (a b:K):Pol.C (a*b)=Pol.C a*Pol.C b:=Pol.ext fun i=>by
 rw [c_Cmul,c_C,c_C]; split
 ·rfl
 ·rw [mul_zero]
theorem Pol.C_neg (a:K):Pol.C (-a)=-Pol.C a:=A3 (by rw [←C_add,add_neg,C_zero])
def Pol.lt (a:Pol K) (n:Nat):Prop:=∀i,n≤i→a.c i=0
theorem Pol.lt.mono {a:Pol K} {n m:Nat} (h:a.lt n) (hnm:n≤m):a.lt m:=fun i hi=>h i (by omega)
theorem Pol.lt_zero {a:Pol K}:a.lt 0↔a=0:=⟨fun h=>Pol.ext fun i=>h i (jn i),fun h=>by rw [h]; exact fun _ _=>rfl⟩
theorem Pol.lt_add {a b:Pol K} {n:Nat} (ha:a.lt n) (hb:b.lt n):(a+b).lt n:=fun i hi=>by rw [c_add,ha i hi,hb i hi,add_zero]
theorem Pol.lt_neg {a:Pol K} {n:Nat} (ha:a.lt n):(-a).lt n:=fun i hi=>by rw [c_neg,ha i hi,neg_zero]
theorem Pol.lt_sub {a b:Pol K} {n:Nat} (ha:a.lt n) (hb:b.lt n):(a-b).lt n:=by rw [sub_eq]; exact lt_add ha (lt_neg hb)
theorem Pol.lt_mul {a b:Pol K} {n m:Nat} (ha:a.lt n) (hb:b.lt m):(a*b).lt (n+m-1):=fun i hi=>Lm hb n i ha (by omega)
theorem Pol.lt_Cmul {a:Pol K} {n:Nat} (k:K) (ha:a.lt n):(C k*a).lt n:=fun i hi=>by rw [c_Cmul,ha i hi,mul_zero]
theorem Pol.lt_one:(1:Pol K).lt 1:=fun i hi=>if_neg (by omega)
theorem Pol.lt_C (k:K):(C k).lt 1:=fun i hi=>if_neg (by omega)
theorem Pol.lt_X:(X:Pol K).lt 2:=fun i hi=>if_neg (by omega)
theorem Pol.eq_C {a:Pol K} (h:a.lt 1):a=C (a.c 0):=Pol.ext fun i=>by
 rw [c_C]; split
 ·rename_i h0; rw [h0]
 ·exact h i (by omega)
theorem Pol.len_ex (a:Pol K):∃n,a.lt n∧∀m,a.lt m→n≤m:=by
 obtain ⟨n,hn⟩:=a.fin
 have h:∀k,∀n,n≤k→a.lt n→∃n,a.lt n∧∀m,a.lt m→n≤m:=by
  intro k
  induction k with
  | zero=>exact fun n hk hn=>⟨n,hn,fun m _=>by omega⟩
  | succ k ih=>
   intro n hk hn
   by_cases h:∃m,m<n∧a.lt m
   ·obtain ⟨m,h1,h2⟩:=h
    exact ih m (by omega) h2
   ·exact ⟨n,hn,fun m hm=>by
     rcases ct m n with h1 | h1
     ·exact absurd ⟨m,h1,hm⟩ h
     ·exact h1⟩
 exact h n n (az n) hn
noncomputable def Pol.len (a:Pol K):Nat:=Classical.choose a.len_ex
theorem Pol.lt_len (a:Pol K):a.lt a.len:=(ci a.len_ex).1
theorem Pol.len_le {a:Pol K} {n:Nat} (h:a.lt n):a.len≤n:=(ci a.len_ex).2 n h
theorem Pol.lt_iff {a:Pol K} {n:Nat}:a.lt n↔a.len≤n:=⟨len_le,fun h=>a.lt_len.mono h⟩
theorem Pol.len_zero_iff {a:Pol K}:a.len=0↔a=0:=by rw [←lt_zero,lt_iff]; omega
theorem Pol.len_zero:(0:Pol K).len=0:=len_zero_iff.2 rfl
theorem Pol.len_pos {a:Pol K} (h:a≠0):0<a.len:=by
 have:a.len≠0:=fun h'=>h (len_zero_iff.1 h')
 omega
noncomputable def Pol.ld (a:Pol K):K:=a.c (a.len-1)
theorem Pol.ld_ne {a:Pol K} (h:a≠0):a.ld≠0:=fun h0=>by
 have hp:=len_pos h
 have:a.lt (a.len-1):=fun i hi=>by
  rcases ct i a.len with h1 | h1
  ·rw [show i=a.len-1 by omega]; exact h0
  ·exact a.lt_len i h1
 have:=len_le this;omega
theorem Pol.len_eq {a:Pol K} {n:Nat} (h:a.lt (n+1)) (h':a.c n≠0):a.len=n+1:=by
 have h1:=len_le h;rcases ct n a.len with h2 | h2
 ·omega
 ·exact absurd (a.lt_len n h2) h'
theorem Js {g:Nat→K} {b:Nat} (hg:∀i,b+1≤i→g i=0):∀(a:Nat) {f:Nat→K},(∀i,a+1≤i→f i=0)→cv (a+b) f g=f a*g b
 | 0,f,hf=>by
  rw [bf];cases b with
  | zero=>rfl
  | succ b=>rw [cv,vi b (fun i=>hf _ (by omega)),add_zero]
 | a+1,f,hf=>by
  rw [show a+1+b=(a+b)+1 by omega,cv,hg (a+b+1) (by omega),mul_zero,zero_add,Js hg a (fun i hi=>hf _ (by omega))]
end
section
variable {K:Type} [Fd K]
theorem Pol.len_mul {a b:Pol K} (ha:a≠0) (hb:b≠0):(a*b).len+1=a.len+b.len:=by
 have h1:=len_pos ha;have h2:=len_pos hb
 have e:(a*b).c ((a.len-1)+(b.len-1))=a.ld*b.ld:=by
  rw [c_mul];exact Js (f:=a.c) (fun i hi=>b.lt_len i (by omega)) _ (fun i hi=>a.lt_len i (by omega))
 have l:=len_eq (a:=a*b) (n:=(a.len-1)+(b.len-1)) ((lt_mul a.lt_len b.lt_len).mono (by omega)) (by rw [e]; exact Fd.mul_ne (ld_ne ha) (ld_ne hb))
 omega
theorem Pol.ld_mul {a b:Pol K} (ha:a≠0) (hb:b≠0):(a*b).ld=a.ld*b.ld:=by
 have h1:=len_pos ha;have h2:=len_pos hb
 have e:(a*b).c ((a.len-1)+(b.len-1))=a.ld*b.ld:=by
  rw [c_mul];exact Js (f:=a.c) (fun i hi=>b.lt_len i (by omega)) _ (fun i hi=>a.lt_len i (by omega))
 have l:=len_mul ha hb;unfold ld at *;rw [←e]; congr 1; omega
theorem Pol.mul_ne {a b:Pol K} (ha:a≠0) (hb:b≠0):a*b≠0:=fun h=>by
 have l:=len_mul ha hb;have h1:=len_pos ha;have h2:=len_pos hb;rw [h,len_zero] at l;omega
theorem Pol.zero_or {a b:Pol K} (h:a*b=0):a=0∨b=0:=by
 by_cases ha:a=0
 ·exact .inl ha
 ·by_cases hb:b=0
  ·exact .inr hb
  ·exact absurd h (mul_ne ha hb)
theorem Pol.mul_cancel {a b c:Pol K} (ha:a≠0) (h:a*b=a*c):b=c:=by
 have:a*(b-c)=0:=by
  rw [show a*(b-c)=a*b-a*c from c6 [a,b,c] rfl,h,sub_self]
 exact og ((zero_or this).resolve_left ha)
theorem Pol.one_ne:(1:Pol K)≠0:=fun h=>Fd.one_ne (K:=K) (congrArg (fun f=>Pol.c f 0) h)
theorem Pol.len_one:(1:Pol K).len=1:=len_eq lt_one Fd.one_ne
theorem Pol.ld_one:(1:Pol K).ld=1:=by unfold ld; rw [len_one]; rfl
theorem Pol.len_X:(X:Pol K).len=2:=len_eq lt_X Fd.one_ne
theorem Pol.X_ne:(X:Pol K)≠0:=fun h=>by have:=len_X (K:=K); rw [h,len_zero] at this; omega
theorem Pol.len_C {k:K} (h:k≠0):(C k).len=1:=len_eq (lt_C k) h
theorem Pol.C_ne {k:K} (h:k≠0):C k≠0:=fun h'=>by have:=len_C h; rw [h',len_zero] at this; omega
theorem Pol.len_Cmul {k:K} (h:k≠0) (a:Pol K):(C k*a).len=a.len:=by
 by_cases ha:a=0
 ·rw [ha,mul_zero]
 ·have:=len_mul (C_ne h) ha
  rw [len_C h] at this;omega
def Pol.mo (k:K) (n:Nat):Pol K:=⟨fun i=>if i=n then k else 0,n+1,fun i hi=>if_neg (by omega)⟩
theorem Xo (k:K) (g:Nat→K):∀(n j:Nat),cv (n+j) (fun i=>if i=n then k else 0) g=k*g j
 | 0,0=>rfl
 | 0,j+1=>by
  rw [bf,cv,vi j (fun i=>if_neg (by omega)),add_zero]; rfl
 | n+1,j=>by
  have e:(fun i=>if i+1=n+1 then k else 0)=(fun i=>if i=n then k else 0):=funext fun i=>by
   by_cases h:i=n
   ·rw [if_pos h,if_pos (by omega)]
   ·rw [if_neg h,if_neg (by omega)]
  rw [show n+1+j=(n+j)+1 by omega,cv,if_neg (by omega),zero_mul,zero_add,e,Xo k g n j]
theorem Pol.c_momul (k:K) (n:Nat) (a:Pol K) (i:Nat) (h:n≤i):(mo k n*a).c i=k*a.c (i-n):=by
 obtain ⟨j,rfl⟩:=f5 h;rw [c_mul,Nat.add_sub_cancel_left];exact Xo k a.c n j
theorem Pol.div_ex (b:Pol K) (hb:b≠0):∀(n:Nat) (a:Pol K),a.lt n→∃q r:Pol K,a=q*b+r∧r.len<b.len
 | 0,a,h=>⟨0,0,by rw [lt_zero.1 h,zero_mul,add_zero],by rw [len_zero]; exact len_pos hb⟩
 | n+1,a,h=>by
  rcases ct n (b.len-1) with h1 | h1
  ·exact ⟨0,a,by rw [zero_mul,zero_add],by have:=len_le h; omega⟩
  ·have hp:=len_pos hb
   have key:(a-mo (a.c n*Fd.inv b.ld) (n-(b.len-1))*b).lt n:=fun i hi=>by
    rw [c_sub,c_momul _ _ _ _ (by omega)]
    by_cases h2:i=n
    ·subst h2
     rw [show i-(i-(b.len-1))=b.len-1 by omega]
     have:=Fd.mul_inv b.ld (ld_ne hb);show a.c i-a.c i*Fd.inv b.ld*b.ld=0;rw [mul_assoc,mul_comm (Fd.inv b.ld),this,mul_one,sub_self]
    ·rw [h i (by omega),b.lt_len _ (by omega),mul_zero,sub_self]
   obtain ⟨q,r,h2,h3⟩:=div_ex b hb n _ key;refine ⟨mo (a.c n*Fd.inv b.ld) (n-(b.len-1))+q,r,?_,h3⟩
   revert h2
   generalize mo (a.c n*Fd.inv b.ld) (n-(b.len-1))=t;intro h2;have:a=(a-t*b)+t*b:=c6 [a,t,b] rfl;rw [this,h2];exact c6 [q,b,r,t] rfl
theorem Pol.div_unique {b q r q' r':Pol K} (h:q*b+r=q'*b+r') (hr:r.len<b.len) (hr':r'.len<b.len):q=q'∧r=r':=by
 have e:(q-q')*b=r'-r:=by
  have:(q-q')*b=(q*b+r)-(q'*b+r):=c6 [q,q',b,r] rfl;rw [this,h];exact c6 [q',b,r,r'] rfl
 have hb:b≠0:=fun h0=>by rw [h0,len_zero] at hr; omega
 by_cases hq:q-q'=0
 ·have hq':=og hq
  rw [hq,zero_mul] at e;exact ⟨hq',(og e.symm).symm⟩
 ·have l:=len_mul hq hb
  rw [e] at l;have h1:=len_le (lt_sub (Pol.lt_iff.2 (show r'.len≤b.len-1 by omega)) (Pol.lt_iff.2 (show r.len≤b.len-1 by omega)))
  have:=len_pos hq;omega
open Classical in
noncomputable def Pol.qr (a b:Pol K):Pol K×Pol K:=
 if hb:b=0 then (0,a) else ((Classical.choose (div_ex b hb a.len a a.lt_len)),Classical.choose (ci (div_ex b hb a.len a a.lt_len)))
noncomputable instance:Div (Pol K):=⟨fun a b=>(Pol.qr a b).1⟩
noncomputable instance:Mod (Pol K):=⟨fun a b=>(Pol.qr a b).2⟩
theorem Pol.div_mod (a b:Pol K):a=(a/b)*b+a%b:=by
 show a=(qr a b).1*b+(qr a b).2;unfold qr
 split
 ·rename_i h; rw [h,mul_zero,zero_add]
 ·rename_i h; exact (ci (ci (div_ex b h a.len a a.lt_len))).1
theorem Pol.len_mod (a:Pol K) {b:Pol K} (h:b≠0):(a%b).len<b.len:=by
 show (qr a b).2.len<_;unfold qr;rw [dif_neg h];exact (ci (ci (div_ex b h a.len a a.lt_len))).2
theorem Pol.div_mod_eq {a b q r:Pol K} (h:a=q*b+r) (hr:r.len<b.len):a/b=q∧a%b=r:=by
 have hb:b≠0:=fun h0=>by rw [h0,len_zero] at hr; omega
 exact div_unique ((div_mod a b).symm.trans h) (len_mod a hb) hr
end
end Gq

namespace Pe
open Go Gq
abbrev Fp (p:Int):Type:=Pol (Zp p)
noncomputable def row {p:Int} (a:Fp p):List Int:=(List.range a.len).map fun i=>rep (a.c i)
def pad (l:List Int):List Int:=(List.range 64).map (cf l)
section
variable {p:Int}
@[simp] theorem bg (a:Fp p):(row a).length=a.len:=by simp [row]
theorem f7 (a:Fp p) (i:Nat):cf (row a) i=rep (a.c i):=by
 rcases ct i a.len with h | h
 ·exact m5 _ _ _ h
 ·rw [ko (by rw [bg]; exact h),a.lt_len i h,rep_zero]
theorem gv [IsP p] (a:Fp p):Can p (row a):=Can.of_cf fun j _=>by rw [f7]; exact kg _
theorem zz [IsP p] (a:Fp p) {b:Int} (hb:7≤b):Small b (row a):=(gv a).small (by have:=IsP.le (p:=p); omega)
theorem dd:row (0:Fp p)=[]:=by
 apply pk;rw [bg,Pol.len_zero]
theorem Wm {a:Fp p}:row a=[]↔a=0:=by rw [←ez,bg,Pol.len_zero_iff]
theorem E4 (l:List Int):∀n,(∀i,nk l n≤i→i<n→cf l i=0)∧(nk l n=0∨cf l (nk l n-1)≠0)
 | 0=>⟨fun i _ h=>absurd h (Nat.not_lt_zero i),.inl rfl⟩
 | n+1=>by
  have ih:=E4 l n;unfold nk
  by_cases h:cf l n=0
  ·rw [if_pos h]
   refine ⟨fun i h1 h2=>?_,ih.2⟩
   by_cases hi:i=n
   ·rw [hi,h]
   ·exact ih.1 i h1 (by omega)
  ·rw [if_neg h]
   exact ⟨fun i h1 h2=>by omega,.inr h⟩
theorem uz {l:List Int} {f:Fp p} (h:∀i,cf l i=rep (f.c i)):xd l=row f:=by
 have ht:=E4 l l.length;have hl:=B8 l l.length
 have e:nk l l.length=f.len:=by
  apply Nat.le_antisymm
  ·rcases ht.2 with h0 | h0
   ·omega
   ·rw [h] at h0
    rcases ct (nk l l.length-1) f.len with h1 | h1
    ·omega
    ·exact absurd (by rw [f.lt_len _ h1,rep_zero]) h0
  ·apply Pol.len_le
   intro i hi;apply fw.1;rw [←h];rcases ct i l.length with h1 | h1
   ·exact ht.1 i hi h1
   ·exact ko h1
 apply m9
 ·rw [bg,←e]; unfold xd; rw [bp]; omega
 ·intro i h1 h2
  have e1:(xd l)[i]=cf l i:=by
   unfold xd at h1 ⊢;rw [o7,dt]
  have e2:(row f)[i]=cf (row f) i:=(dt h2).symm;rw [e1,e2,f7,h]
def dl (p:Int) (l:List Int):Fp p:=⟨fun i=>zp p (cf l i),l.length,fun i hi=>by rw [ko hi]; rfl⟩
theorem fc (l:List Int) (i:Nat):(dl p l).c i=zp p (cf l i):=rfl
theorem U3 (l:List Int):(dl p l).lt l.length:=fun i hi=>by rw [fc,ko hi]; rfl
theorem sq (a:Fp p):dl p (row a)=a:=Pol.ext fun i=>by rw [fc,f7,jk]
theorem n5 [IsP p] {l:List Int} (h:Can p l):xd l=row (dl p l):=uz fun i=>by
 have h1:=h.le IsP.pos i;rw [fc,G5 h1]
theorem W9 {a b:Fp p} (h:row a=row b):a=b:=by rw [←sq a,←sq b,h]
theorem X1:pad []=List.replicate 64 0:=by decide +kernel
@[simp] theorem a7n:z64=ak .u8 (pad []):=by rw [X1]; unfold ak z64; rw [List.map_replicate]
theorem bq (l:List Int):(pad l).length=64:=by simp [pad]
theorem uk {l:List Int} (h:l.length≤64) (i:Nat):cf (pad l) i=cf l i:=by
 rcases ct i 64 with h1 | h1
 ·exact m5 _ _ _ h1
 ·rw [ko (by rw [bq]; exact h1),ko (by omega)]
theorem o3 (l:List Int) (i:Nat) (h:i<64):(pad l)[i]? = some (cf l i):=by
 rw [pad,d8,gu h]; rfl
theorem Gn {l m:List Int} (hl:m.length=64) (h:∀i,i<64→cf l i=cf m i):pad l=m:=by
 apply m9
 ·rw [bq,hl]
 ·intro i h1 h2
  rw [←dt h2,←h i (by omega)]
  simp [pad]
theorem Je [IsP p] (a b:Fp p) (k:Int):Wr p (row a) (row b) k=row (a+Pol.C (zp p k)*b):=by
 apply uz;intro i
 have e:rep ((a+Pol.C (zp p k)*b).c i)=(rep (a.c i)+k*rep (b.c i))%p:=by
  rw [Pol.c_add,Pol.c_Cmul,←Cz]
  congr 1
  rw [Mi,xn,jk,jk]
 rw [e];rcases ct i (max a.len b.len) with h | h
 ·rw [m5 _ _ _ (by simpa using h)]
  unfold lin;rw [f7,f7]
 ·rw [ko (by simpa using h),a.lt_len i (by omega),b.lt_len i (by omega)]
  simp [rep_zero]
def cvs {K:Type} [CR K] (f g:Nat→K):Nat→Nat→K
 | 0,_=>0
 | m+1,j=>cvs f g m j+if m≤j then f m*g (j-m) else 0
theorem Bw {K:Type} [CR K] (f g:Nat→K):∀m j,cvs f g (m+1) j=f 0*g j+if j=0 then 0 else cvs (fun i=>f (i+1)) g m (j-1)
 | 0,j=>by
  show 0+(if 0≤j then f 0*g (j-0) else 0)=_
  rw [if_pos (jn j),Nat.sub_zero,Gq.zero_add]
  split <;> exact (Gq.add_zero _).symm
 | m+1,j=>by
  rw [cvs,Bw f g m j]
  by_cases h:j=0
  ·subst h
   rw [if_pos rfl,if_neg (by omega),if_pos rfl,Gq.add_zero]
  ·rw [if_neg h,if_neg h,cvs]
   rw [Gq.add_assoc]
   congr 2
   by_cases h2:m+1≤j
   ·rw [if_pos h2,if_pos (by omega),show j-(m+1)=j-1-m by omega]
   ·rw [if_neg h2,if_neg (by omega)]
theorem Vj {K:Type} [CR K] (g:Nat→K):∀(j m:Nat) (f:Nat→K),j<m→cvs f g m j=cv j f g
 | 0,0,f,h=>by omega
 | 0,m+1,f,_=>by rw [Bw,if_pos rfl,Gq.add_zero]; rfl
 | j+1,0,f,h=>by omega
 | j+1,m+1,f,h=>by rw [Bw,if_neg (by omega),cv,Nat.add_sub_cancel,Vj g j m _ (by omega)]
theorem I8 {K:Type} [CR K] (f g:Nat→K) {m:Nat} (h:∀i,m≤i→f i=0) (j:Nat):∀k,cvs f g (m+k) j=cvs f g m j
 | 0=>rfl
 | k+1=>by
  rw [←fm,cvs,I8 f g h j k,h (m+k) (by omega),Gq.zero_mul]
  split <;> exact Gq.add_zero _
theorem Nz (l m:List Int):∀n j,zp p (conv l m n j)=cvs (dl p l).c (dl p m).c n j
 | 0,j=>rfl
 | n+1,j=>by
  rw [conv,cvs,←Nz l m n j]
  split
  ·rfl
  ·rfl
theorem Vw [IsP p] (a b:Fp p):mul p (row a) (row b)=row (a*b):=by
 apply uz;intro i
 have e:∀i,conv (row a) (row b) (row a).length i%p=rep ((a*b).c i):=fun i=>by
  rw [←Cz,Nz,sq,sq,bg,Pol.c_mul]
  congr 1
  rw [←I8 a.c b.c a.lt_len i (i+1),Vj];omega
 rcases ct i (a.len+b.len-1) with h | h
 ·rw [m5 _ _ _ (by simpa using h),e]
 ·rw [ko (by simpa using h),Pol.lt_mul a.lt_len b.lt_len i h,rep_zero]
end
end Pe

namespace Pe
open Go Gq
variable {T:Nat→Option Fn} {A:ah}
theorem U2 (p:Int) [h:IsP p] (a:Int) (h0:0<a) (h1:a<p):a*inv p a%p=1:=by
 rcases h.h with rfl | rfl | rfl | rfl
 ·obtain rfl:a=1:=by omega
  decide
 ·have:a=1∨a=2:=by omega
  rcases this with rfl | rfl <;> decide
 ·have:a=1∨a=2∨a=3∨a=4:=by omega
  rcases this with rfl | rfl | rfl | rfl <;> decide
 ·have:a=1∨a=2∨a=3∨a=4∨a=5∨a=6:=by omega
  rcases this with rfl | rfl | rfl | rfl | rfl | rfl <;> decide
theorem v6 (p:Int) [IsP p] (a:Int):0≤inv p a∧inv p a<p:=by
 have:=IsP.ge (p:=p);exact Oo (by omega) _
@[simp] theorem Sm {p:Int} (a:Fp p):(row a).take a.len=row a:=aw (by simp)
def z9 (O:ah):Prop:=∀(p:Int) [IsP p] (k:Int) (a b:Fp p),-1000000≤k→k≤1000000→a.len<1000000→b.len<1000000 →
 ask O Fy [(D.int .i64 p),(D.sl .leaf (ak .i64 (row a))),(D.sl .leaf (ak .i64 (row b))),(D.int .i64 k)]=some (D.sl .leaf (ak .i64 (row (a+Pol.C (zp p k)*b))))
theorem Qe {O:ah} (h:vo O):z9 O:=fun p i k a b h1 h2 h3 h4=>by
 have h5:=IsP.pos (p:=p);have h6:=IsP.le (p:=p);rw [h p k (row a) (row b) h5 (by omega) (zz a (by omega)) (zz b (by omega)) h1 h2 (by simpa using h3) (by simpa using h4),Je]
def pz (O:ah):Prop:=∀(p:Int) [IsP p] (a b:Fp p),a.len<10000→b.len<10000 →
 ask O F1d [(D.int .i64 p),(D.sl .leaf (ak .i64 (row a))),(D.sl .leaf (ak .i64 (row b)))]=some (D.sl .leaf (ak .i64 (row (a*b))))
theorem W4 {O:ah} (h:Gb O):pz O:=fun p i a b h1 h2=>by
 have h5:=IsP.pos (p:=p);have h6:=IsP.le (p:=p);rw [h p (row a) (row b) h5 (by omega) (gv a) (gv b) (by simpa using h1) (by simpa using h2),Vw]
def vh (O:ah):Prop:=∀(p:Int) [IsP p] (k:Int) (a:Fp p),-1000000≤k→k≤1000000→a.len<1000000 →
 ask O F1b [(D.int .i64 p),(D.sl .leaf (ak .i64 (row a))),(D.int .i64 k)]=some (D.sl .leaf (ak .i64 (row (Pol.C (zp p k)*a))))
theorem Wk {O:ah} (h:Ga O):vh O:=fun p i k a h1 h2 h3=>by
 have h5:=IsP.pos (p:=p);have h6:=IsP.le (p:=p);have e:=Je (0:Fp p) a k;rw [dd,Gq.zero_add] at e;rw [h p k (row a) h5 (by omega) (zz a (by omega)) h1 h2 (by simpa using h3),e]
theorem S1 {K:Type} [CR K] {g:Nat→K}:∀{i:Nat} {f:Nat→K},(∀j,j≤i→f j=0)→cv i f g=0
 | 0,f,h=>by rw [cv,h 0 (az 0),Gq.zero_mul]
 | i+1,f,h=>by rw [cv,h 0 (jn _),Gq.zero_mul,S1 (fun j hj=>h (j+1) (by omega)),Gq.add_zero]
theorem Ir {K:Type} [Fd K] (k:K) (n:Nat) (a:Pol K) (i:Nat):(Pol.mo k n*a).c i=if n≤i then k*a.c (i-n) else 0:=by
 split
 ·rename_i h; exact Pol.c_momul k n a i h
 ·rename_i h
  rw [Pol.c_mul];exact S1 fun j hj=>if_neg (by omega)
section
variable {p:Int} [IsP p]
theorem Jn (q:Int) (b:Fp p) (c:Nat) (cur:List Int) (h:c+b.len≤cur.length):dl p (k8 p q (row b) c b.len 0 cur)=dl p cur-Pol.mo (zp p q) c*b:=Pol.ext fun j=>by
 rw [Pol.c_sub,Ir,fc,fc,ue _ _ _ _ _ _ _ _ (by omega)]
 by_cases h1:c+0≤j∧j<c+0+b.len
 ·rw [if_pos h1,if_pos (by omega),t6,Tt,xn,f7,jk]
 ·rw [if_neg h1]
  split
  ·rw [b.lt_len _ (by omega),Gq.mul_zero,sub_eq,neg_zero,Gq.add_zero]
  ·rw [sub_eq,neg_zero,Gq.add_zero]
theorem Qk (q:Int) (c:Nat) (quo:List Int) (h:c<quo.length) (h0:cf quo c=0):dl p (quo.set c q)=dl p quo+Pol.mo (zp p q) c:=Pol.ext fun j=>by
 rw [Pol.c_add,fc,fc,po];show _=_+(if j=c then zp p q else 0)
 by_cases h1:j=c
 ·subst h1
  rw [if_pos ⟨rfl,h⟩,if_pos rfl,h0,td,Gq.zero_add]
 ·rw [if_neg (by omega),if_neg h1,Gq.add_zero]
theorem Gg (b:Fp p) (hb:b≠0):∀(c:Nat) (cur quo:List Int),c+b.len≤cur.length+1→c≤quo.length→Can p cur→(∀j,j<c→cf quo j=0)→(∀j,c+b.len-1≤j→cf cur j=0)→Can p quo →
 let r:=dv p (inv p (rep b.ld)) (row b) c (cur,quo)
 dl p r.1+dl p r.2*b=dl p cur+dl p quo*b∧(∀j,b.len-1≤j→cf r.1 j=0)∧Can p r.1∧Can p r.2
 | 0,cur,quo,_,_,hcan,_,h,hq=>⟨rfl,fun j hj=>h j (by omega),hcan,hq⟩
 | c+1,cur,quo,hl,hlq,hcan,hq0,h,hq=>by
  have hp:=IsP.pos (p:=p);have hbl:=Pol.len_pos hb;have hr:=kg b.ld;have hld:rep b.ld≠0:=fun h0=>Pol.ld_ne hb (fw.1 h0)
  generalize hqd:cf cur (c+b.len-1)*inv p (rep b.ld)%p=q;have hqin:0≤q∧q<p:=by subst hqd; exact ⟨co _ (by omega),cd _ hp⟩
  have hlen:c+b.len≤cur.length:=by omega
  have e:dv p (inv p (rep b.ld)) (row b) (c+1) (cur,quo)=dv p (inv p (rep b.ld)) (row b) c (k8 p q (row b) c b.len 0 cur,quo.set c q):=by
   rw [dv]; simp only [bg,hqd]
  rw [e]
  have key:(cf cur (c+b.len-1)-q*rep b.ld)%p=0:=by
   have h1:=U2 p (rep b.ld) (by omega) hr.2
   have h2:q*rep b.ld%p=cf cur (c+b.len-1)%p:=by
    subst hqd;rw [Int.mul_emod,iw _ (Int.dvd_refl p),←Int.mul_emod,kf,eg (inv p _),Int.mul_emod,h1,ix,iw _ (Int.dvd_refl p)]
   rw [Int.sub_emod,h2,←Int.sub_emod,Int.sub_self,Int.zero_emod]
  have ih:=Gg b hb c (k8 p q (row b) c b.len 0 cur) (quo.set c q) (by rw [jt]; omega) (by simp; omega) (zk hp (by omega) hcan)
   (fun j hj=>by rw [po,if_neg (by omega)]; exact hq0 j (by omega))
   (fun j hj=>by
    rw [ue _ _ _ _ _ _ _ _ (by omega)]
    by_cases hj2:j=c+b.len-1
    ·subst hj2
     rw [if_pos (by omega),f7,show c+b.len-1-c=b.len-1 by omega]; exact key
    ·rw [if_neg (by omega)]; exact h j (by omega))
   (fun x hx=>by
    rcases di hx with h1 | h1
    ·exact hq x h1
    ·subst h1; exact hqin)
  refine ⟨?_,ih.2⟩;rw [ih.1,Jn q b c cur hlen,Qk q c quo (by omega) (hq0 c (by omega))]
  exact c6 [dl p cur,Pol.mo (zp p q) c,b,dl p quo] rfl
def Nw (O:ah):Prop:=∀l:List Int,l.length<1000000→O F1v [(.d (.sl .leaf (ak .i64 l)))] []=some (.sl 0 [] 0 l.length none,[],[.sl false .leaf (ak .i64 l)])
def rm (O:ah):Prop:=∀(p:Int) [IsP p] (a b:Fp p),b≠0→a.len<5000→b.len<5000 →
 ask O Fz [(D.int .i64 p),(D.sl .leaf (ak .i64 (row a))),(D.sl .leaf (ak .i64 (row b)))]=some (.tup [(D.sl .leaf (ak .i64 (row (a/b)))),(D.sl .leaf (ak .i64 (row (a%b))))])
end
section
variable {p:Int}
theorem Bf (b:Fp p):As (row b)=rep b.ld:=by unfold As Pol.ld; rw [f7,bg]
end
section
variable {p:Int} [IsP p]
theorem Ub (hT:T Fz=some Zz) (hcl:Nw (den T A)) (htr:qh (den T A)) (hld:ul (den T A)) (hinv:ow (den T A)) (hred:qz (den T A)):rm (den T A):=by
 intro p ip a b hb ha hbl;have hp:=IsP.ge (p:=p);have hp7:=IsP.le (p:=p);have e1:=hcl (row a) (by simpa using (show a.len<1000000 by omega))
 rw [bg] at e1;have hb0:=Pol.len_pos hb;refine bc hT rfl ?_
 by_cases hlt:a.len<b.len
 ·obtain ⟨h1,h2⟩:=Pol.div_mod_eq (a:=a) (b:=b) (q:=0) (r:=a) (by rw [Gq.zero_mul,Gq.zero_add]) hlt
  rw [h1,h2,dd];have h3:(a.len:Int)<(b.len:Int):=by omega
  simp -implicitDefEqProofs [Zz,Zz_B,af,e1,h3,gt,Sm]
 ·have h3:¬ (a.len:Int)<(b.len:Int):=by omega
  have hr:=kg b.ld;have e2:=hld (row b) (by simpa using (show b.len<1000000 by omega))
  rw [Bf] at e2;have e3:=hinv p (rep b.ld) (by omega) (by omega) hr.1 hr.2
  have w1:IntKind.i64.wrap ((a.len:Int)-b.len)=(a.len:Int)-b.len:=w64 (by omega)
  have w2:IntKind.i64.wrap ((a.len:Int)-b.len+1)=((a.len-b.len+1:Nat):Int):=(w64 (x:=(a.len:Int)-b.len+1) (by omega)).trans (by omega)
  have w3:IntKind.i64.wrap (((a.len-b.len+1:Nat):Int)-1)=((a.len-b.len+1:Nat):Int)-1:=w64 (by omega)
  have h8:(a.len-b.len+1)*8≤1099511627776:=by omega
  have l1:=P7 (O:=den T A) (by_:=inv p (rep b.ld)) (b:=row b) (la:=a.len) (nq:=a.len-b.len+1) (cp:=none) hred (by omega) (by omega) (v6 p _) (gv b) (by rw [bg]; omega) (by rw [bg]; omega) (by omega)
   (a.len-b.len+1) (row a) (List.replicate (a.len-b.len+1) 0) (az _) (bg a) (by simp) (gv a)
  have hz:∀n j,cf (List.replicate n (0:Int)) j=0:=fun n j=>by
   by_cases hj:j<n
   ·rw [dt (by simpa using hj)]; simp
   ·exact ko (by simp; omega)
  have sp:=Gg b hb (a.len-b.len+1) (row a) (List.replicate (a.len-b.len+1) 0) (by rw [bg]; omega) (by simp) (gv a) (fun j _=>hz _ j) (fun j hj=>by rw [ko]; rw [bg]; omega) (fun x hx=>by
   obtain rfl:=(List.mem_replicate.1 hx).2; omega)
  have hl1:∀(c:Nat) (x y:List Int),(dv p (inv p (rep b.ld)) (row b) c (x,y)).1.length=x.length∧(dv p (inv p (rep b.ld)) (row b) c (x,y)).2.length=y.length:=by
   intro c
   induction c with
   | zero=>exact fun x y=>⟨rfl,rfl⟩
   | succ c ih=>
    intro x y;rw [dv];obtain ⟨i1,i2⟩:=ih (k8 p (cf x (c+(row b).length-1)*inv p (rep b.ld)%p) (row b) c (row b).length 0 x) (y.set c (cf x (c+(row b).length-1)*inv p (rep b.ld)%p));exact ⟨by rw [i1,jt],by rw [i2,cg]⟩
  obtain ⟨l2,l3⟩:=hl1 (a.len-b.len+1) (row a) (List.replicate (a.len-b.len+1) 0);generalize dv p (inv p (rep b.ld)) (row b) (a.len-b.len+1) (row a,List.replicate (a.len-b.len+1) 0)=r at *;obtain ⟨s1,s2,s3,s4⟩:=sp;have z0:dl p (List.replicate (a.len-b.len+1) 0)=0:=Pol.ext fun j=>by rw [fc,hz]; rfl
  rw [z0,Gq.zero_mul,Gq.add_zero,sq,Gq.add_comm] at s1
  have hrl:(dl p r.1).len<b.len:=by
   have:(dl p r.1).lt (b.len-1):=fun i hi=>by rw [fc,s2 i hi]; rfl
   have:=Pol.len_le this;omega
  obtain ⟨h1,h2⟩:=Pol.div_mod_eq s1.symm hrl;rw [h1,h2,←n5 s3,←n5 s4];have t1:=htr r.1 (by rw [l2,bg]; omega)
  have t2:=htr r.2 (by rw [l3,o9]; omega)
  have k1:r.1.take a.len=r.1:=aw (by rw [l2,bg]; omega)
  have k2:r.2.take (a.len-b.len+1)=r.2:=aw (by rw [l3,o9]; omega)
  rw [o9] at l3;rw [bg] at l2;generalize a.len-b.len+1=n at *;simp -implicitDefEqProofs [Zz,Zz_B,af,e1,h3,w1,w2,w3,h8,e2,e3,l1,t1,t2,l2,l3,k1,k2]
end
end Pe

/-
 Functions of the program in the small form,printed by a program.
-/
namespace Pe
open Go
def Z20_L0:Cd:=
 .seq (.region [Ll 9 (.bin .lss (.t 8) (.t 7))] [0,1,7,8,9])
 (.seq (.cond (.t 9)
 (.skip)
 (.exit 0))
 (.seq (.block 1 (.seq (.region [Lw 10 8,
 Lw 5 10] [0,1,5,7,8])
 (.seq (.region [Lw 11 1,
 Lw 12 0,
 Lw 13 5,
 Ll 14 (.idxA none Sx6 (.t 12) (.t 13)),
 Ipx 15 14,
 Ll 16 (.call .flat [] (.t 11) [(.t 15)])] [0,1,5,7,8,16])
 (.cond (.t 16)
 (.seq (.region [Lw 17 5,
 Lw 4 17] [4])
 (.ret))
 (.skip)))))
 (.region [Ll 18 (.bin .add (.t 8) (Acx 1)),
 Lw 8 18] [0,1,7,8])))
def Z20_B:Cd:=
 .seq (.region [Ll 4 (.mv (Acx 0))] [0,1])
 (.seq (.seq (.region [Lw 6 0,
 Ll 7 (.len false (.t 6)),
 Ll 8 (.mv (Acx 0))] [0,1,7,8])
 (.block 0 (.loop (Z20_L0))))
 (.seq (.region [Ll 4 (.mv (Acx (-1)))] [4])
 (.ret)))
def Z20:Fn:=
 { nparams:=2,nblk:=0,results:=[.tmp 4],body:=Z20_B }
def Z1x_B:Cd:=
 .seq (.region [Ll 4 (.mv (.c (.bool false)))] [0,1])
 (.seq (.region [Lw 5 0,
 Lw 6 1,
 Ll 7 (Ofx F20 [(.t 5),(.t 6)]),
 Ll 8 (.bin .geq (.t 7) (Acx 0)),
 Lw 4 8] [4])
 (.ret))
def Z1x:Fn:=
 { nparams:=2,nblk:=0,results:=[.tmp 4],body:=Z1x_B }
def Z1z_L0:Cd:=
 .seq (.region [Ll 9 (.bin .lss (.t 8) (.t 7))] [0,1,7,8,9])
 (.seq (.cond (.t 9)
 (.skip)
 (.exit 0))
 (.seq (.block 1 (.seq (.region [Lw 10 8,
 Lw 5 10] [0,1,5,7,8])
 (.seq (.region [Lw 11 1,
 Lw 12 0,
 Lw 13 5,
 Ll 14 (.idxA none .leaf (.t 12) (.t 13)),
 Ilx 15 14,
 Ll 16 (.call .flat [] (.t 11) [(.t 15)])] [0,1,5,7,8,16])
 (.cond (.t 16)
 (.seq (.region [Lw 17 5,
 Lw 4 17] [4])
 (.ret))
 (.skip)))))
 (.region [Ll 18 (.bin .add (.t 8) (Acx 1)),
 Lw 8 18] [0,1,7,8])))
def Z1z_B:Cd:=
 .seq (.region [Ll 4 (.mv (Acx 0))] [0,1])
 (.seq (.seq (.region [Lw 6 0,
 Ll 7 (.len false (.t 6)),
 Ll 8 (.mv (Acx 0))] [0,1,7,8])
 (.block 0 (.loop (Z1z_L0))))
 (.seq (.region [Ll 4 (.mv (Acx (-1)))] [4])
 (.ret)))
def Z1z:Fn:=
 { nparams:=2,nblk:=0,results:=[.tmp 4],body:=Z1z_B }
def Z1w_B:Cd:=
 .seq (.region [Ll 4 (.mv (.c (.bool false)))] [0,1])
 (.seq (.region [Lw 5 0,
 Lw 6 1,
 Ll 7 (Ofx F1z [(.t 5),(.t 6)]),
 Ll 8 (.bin .geq (.t 7) (Acx 0)),
 Lw 4 8] [4])
 (.ret))
def Z1w:Fn:=
 { nparams:=2,nblk:=0,results:=[.tmp 4],body:=Z1w_B }
def Z26_L0:Cd:=
 .seq (.seq (.region [Lw 18 9,
 Lw 19 1,
 Ll 20 (.bin .gtr (.t 18) (.t 19)),
 Lw 21 20,
 Lx 22 3 21 true,
 Lx 23 0 21 true,
 Lx 24 9 21 true,
 Lg 25 (.idxA none (.st [.leaf,.leaf]) (.t 23) (.t 24)) 21 true,
 Lg 26 (.load (.st [.leaf,.leaf]) (.t 25)) 21 true,
 Lx 27 0 21 true,
 Lx 28 9 21 true,
 Lg 29 (.bin .sub (.t 28) (Acx 1)) 21 true,
 Lg 30 (.idxA none (.st [.leaf,.leaf]) (.t 27) (.t 29)) 21 true,
 Lg 31 (.load (.st [.leaf,.leaf]) (.t 30)) 21 true,
 Lg 32 (.call .flat [] (.t 22) [(.t 26),(.t 31)]) 21 true,
 Lg 33 (.bin .lss (.t 32) (Acx 0)) 21 true,
 Ll 34 (.pick (.t 21) (.t 33) (.c (.bool false)))] [0,1,2,3,8,9,34])
 (.cond (.t 34)
 (.skip)
 (.exit 2)))
 (.seq (.block 3 (.region [Lw 37 0,
 Lw 38 9,
 Lw 39 0,
 Lw 40 9,
 Ll 41 (.bin .sub (.t 40) (Acx 1)),
 Lw 42 0,
 Lw 43 9,
 Ll 44 (.bin .sub (.t 43) (Acx 1)),
 Ll 45 (.idxA none (.st [.leaf,.leaf]) (.t 42) (.t 44)),
 Ll 46 (.load (.st [.leaf,.leaf]) (.t 45)),
 Lw 47 0,
 Lw 48 9,
 Ll 49 (.idxA none (.st [.leaf,.leaf]) (.t 47) (.t 48)),
 Ll 50 (.load (.st [.leaf,.leaf]) (.t 49)),
 Ll 51 (.idxA none (.st [.leaf,.leaf]) (.t 37) (.t 38)),
 Ls (.store false (.st [.leaf,.leaf]) (.t 51) (.t 46)),
 Ll 52 (.idxA none (.st [.leaf,.leaf]) (.t 39) (.t 41)),
 Ls (.store false (.st [.leaf,.leaf]) (.t 52) (.t 50))] [0,1,2,3,8,9]))
 (.region [Lw 35 9,
 Ll 36 (.bin .sub (.t 35) (Acx 1)),
 Lw 9 36] [0,1,2,3,8,9]))
def Z26_L1:Cd:=
 .seq (.seq (.region [Lw 12 8,
 Lw 13 2,
 Ll 14 (.bin .lss (.t 12) (.t 13))] [0,1,2,3,8,14])
 (.cond (.t 14)
 (.skip)
 (.exit 0)))
 (.seq (.block 1 (.seq (.region [Lw 17 8,
 Lw 9 17] [0,1,2,3,8,9])
 (.block 2 (.loop (Z26_L0)))))
 (.region [Lw 15 8,
 Ll 16 (.bin .add (.t 15) (Acx 1)),
 Lw 8 16] [0,1,2,3,8]))
def Z26_B:Cd:=
 .seq (.region [Lw 10 1,
 Ll 11 (.bin .add (.t 10) (Acx 1)),
 Lw 8 11] [0,1,2,3,8])
 (.block 0 (.loop (Z26_L1)))
def Z26:Fn:=
 { nparams:=4,nblk:=0,results:=[],body:=Z26_B }
def Z1u_B:Cd:=
 .seq (.region [Ll 2 (.mv (Acx 0))] [0,2])
 (.seq (.seq (.region [Lw 3 0,
 Ll 4 (.bin .geq (.t 3) (.c (.int .u64 4294967296)))] [0,2,4])
 (.cond (.t 4)
 (.seq (.region [Lw 5 0,
 Ll 6 (.bin .shr (.t 5) (.c (.int .u64 32))),
 Lw 0 6] [0])
 (.region [Ll 2 (.mv (Acx 32))] [0,2]))
 (.skip)))
 (.seq (.seq (.region [Lw 7 0,
 Ll 8 (.bin .geq (.t 7) (.c (.int .u64 65536)))] [0,2,8])
 (.cond (.t 8)
 (.seq (.region [Lw 9 0,
 Ll 10 (.bin .shr (.t 9) (.c (.int .u64 16))),
 Lw 0 10] [0,2])
 (.region [Lw 11 2,
 Ll 12 (.bin .add (.t 11) (Acx 16)),
 Lw 2 12] [0,2]))
 (.skip)))
 (.seq (.seq (.region [Lw 13 0,
 Ll 14 (.bin .geq (.t 13) (.c (.int .u64 256)))] [0,2,14])
 (.cond (.t 14)
 (.seq (.region [Lw 15 0,
 Ll 16 (.bin .shr (.t 15) (.c (.int .u64 8))),
 Lw 0 16] [0,2])
 (.region [Lw 17 2,
 Ll 18 (.bin .add (.t 17) (Acx 8)),
 Lw 2 18] [0,2]))
 (.skip)))
 (.seq (.region [Lw 19 2,
 Lw 20 0,
 Ll 21 (.conv .u8 (.t 20)),
 Ll 22 (.idx none .leaf (.c (.str (ByteArray.mk #[0,1,2,2,3,3,3,3,4,4,4,4,4,4,4,4,5,5,5,5,5,5,5,5,5,5,5,5,5,5,5,5,6,6,6,6,6,6,6,6,6,6,6,6,6,6,6,6,6,6,6,6,6,6,6,6,6,6,6,6,6,6,6,6,7,7,7,7,7,7,7,7,7,7,7,7,7,7,7,7,7,7,7,7,7,7,7,7,7,7,7,7,7,7,7,7,7,7,7,7,7,7,7,7,7,7,7,7,7,7,7,7,7,7,7,7,7,7,7,7,7,7,7,7,7,7,7,7,8,8,8,8,8,8,8,8,8,8,8,8,8,8,8,8,8,8,8,8,8,8,8,8,8,8,8,8,8,8,8,8,8,8,8,8,8,8,8,8,8,8,8,8,8,8,8,8,8,8,8,8,8,8,8,8,8,8,8,8,8,8,8,8,8,8,8,8,8,8,8,8,8,8,8,8,8,8,8,8,8,8,8,8,8,8,8,8,8,8,8,8,8,8,8,8,8,8,8,8,8,8,8,8,8,8,8,8,8,8,8,8,8,8,8,8,8,8,8,8,8,8,8,8,8,8,8,8]))) (.t 21)),
 Ll 23 (.conv .i64 (.t 22)),
 Ll 24 (.bin .add (.t 19) (.t 23)),
 Lw 2 24] [2])
 (.ret)))))
def Z1u:Fn:=
 { nparams:=1,nblk:=0,results:=[.tmp 2],body:=Z1u_B }
def Z1s_B:Cd:=
 .seq (.region [Ll 2 (.mv (Acx 0))] [0])
 (.seq (.cond (.c (.bool false))
 (.seq (.region [Lw 3 0,
 Ll 4 (.conv .u32 (.t 3)),
 Ll 5 (Ofx F1t [(.t 4)]),
 Lw 2 5] [2])
 (.ret))
 (.skip))
 (.seq (.region [Lw 6 0,
 Ll 7 (Ofx F1u [(.t 6)]),
 Lw 2 7] [2])
 (.ret)))
def Z1s:Fn:=
 { nparams:=1,nblk:=0,results:=[.tmp 2],body:=Z1s_B }
def Z2e_L0:Cd:=
 .block 1 (.seq (.region [Lw 21 2,
 Lw 22 1,
 Ll 23 (.bin .sub (.t 21) (.t 22)),
 Lw 12 23] [0,1,2,3,4,10,11,12])
 (.seq (.seq (.region [Lw 24 12,
 Ll 25 (.bin .leq (.t 24) (Acx 12))] [0,1,2,3,4,10,11,12,25])
 (.cond (.t 25)
 (.seq (.region [Lw 26 0,
 Lw 27 1,
 Lw 28 2,
 Lw 29 4,
 Ll 30 (.call .heap [] (.f F26) [(.t 26),(.t 27),(.t 28),(.t 29)])] [])
 (.ret))
 (.skip)))
 (.seq (.seq (.region [Lw 31 3,
 Ll 32 (.bin .eql (.t 31) (Acx 0))] [0,1,2,3,4,10,11,12,32])
 (.cond (.t 32)
 (.seq (.region [Lw 33 0,
 Lw 34 1,
 Lw 35 2,
 Lw 36 4,
 Ll 37 (.call .heap [] (.f F25) [(.t 33),(.t 34),(.t 35),(.t 36)])] [])
 (.ret))
 (.skip)))
 (.seq (.seq (.region [Lw 38 10,
 Ll 39 (.un .not (.t 38))] [0,1,2,3,4,10,11,12,39])
 (.cond (.t 39)
 (.seq (.region [Lw 40 0,
 Lw 41 1,
 Lw 42 2,
 Lw 43 4,
 Ll 44 (.call .heap [] (.f F23) [(.t 40),(.t 41),(.t 42),(.t 43)])] [0,1,2,3,4,10,11,12])
 (.region [Lw 45 3,
 Ll 46 (.bin .sub (.t 45) (Acx 1)),
 Lw 3 46] [0,1,2,3,4,10,11,12]))
 (.skip)))
 (.seq (.region [Lw 48 0,
 Lw 49 1,
 Lw 50 2,
 Lw 51 4,
 Ll 52 (Ofx F24 [(.t 48),(.t 49),(.t 50),(.t 51)]),
 Lw 47 52,
 Iex 53 47 0,
 Iex 54 47 1,
 Lw 13 53,
 Lw 14 54] [0,1,2,3,4,10,11,12,13,14])
 (.seq (.seq (.region [Lw 55 14,
 Ll 56 (.bin .eql (.t 55) (Acx 2))] [0,1,2,3,4,10,11,12,13,14,56])
 (.cond (.t 56)
 (.seq (.region [Lw 57 0,
 Lw 58 1,
 Lw 59 2,
 Lw 60 4,
 Ll 61 (.call .heap [] (.f F2f) [(.t 57),(.t 58),(.t 59),(.t 60)])] [0,1,2,3,4,10,11,12,13])
 (.seq (.region [Lw 62 2,
 Ll 63 (.bin .sub (.t 62) (Acx 1)),
 Lw 64 13,
 Lw 65 1,
 Ll 66 (.bin .sub (.t 64) (.t 65)),
 Ll 67 (.bin .sub (.t 63) (.t 66)),
 Lw 13 67] [0,1,2,3,4,10,11,12,13])
 (.region [Ll 14 (.mv (Acx 1))] [0,1,2,3,4,10,11,12,13,14])))
 (.skip)))
 (.seq (.seq (.region [Lw 68 10,
 Lw 69 68,
 Lx 70 11 69 true,
 Ll 71 (.pick (.t 69) (.t 70) (.c (.bool false))),
 Lw 72 71,
 Lx 73 14 72 true,
 Lg 74 (.bin .eql (.t 73) (Acx 1)) 72 true,
 Ll 75 (.pick (.t 72) (.t 74) (.c (.bool false)))] [0,1,2,3,4,10,11,12,13,75])
 (.cond (.t 75)
 (.seq (.region [Lw 76 0,
 Lw 77 1,
 Lw 78 2,
 Lw 79 4,
 Ll 80 (.call .heap [] (.f F2b) [(.t 76),(.t 77),(.t 78),(.t 79)])] [0,1,2,3,4,10,11,12,13,80])
 (.cond (.t 80)
 (.ret)
 (.skip)))
 (.skip)))
 (.seq (.seq (.region [Lw 81 1,
 Ll 82 (.bin .gtr (.t 81) (Acx 0)),
 Lw 83 82,
 Lx 84 4 83 true,
 Lx 85 0 83 true,
 Lx 86 1 83 true,
 Lg 87 (.bin .sub (.t 86) (Acx 1)) 83 true,
 Lg 88 (.idxA none (.st [.leaf,.leaf]) (.t 85) (.t 87)) 83 true,
 Lg 89 (.load (.st [.leaf,.leaf]) (.t 88)) 83 true,
 Lx 90 0 83 true,
 Lx 91 13 83 true,
 Lg 92 (.idxA none (.st [.leaf,.leaf]) (.t 90) (.t 91)) 83 true,
 Lg 93 (.load (.st [.leaf,.leaf]) (.t 92)) 83 true,
 Lg 94 (.call .flat [] (.t 84) [(.t 89),(.t 93)]) 83 true,
 Lg 95 (.bin .lss (.t 94) (Acx 0)) 83 true,
 Lg 96 (.un .not (.t 95)) 83 true,
 Ll 97 (.pick (.t 83) (.t 96) (.c (.bool false)))] [0,1,2,3,4,10,11,12,13,97])
 (.cond (.t 97)
 (.seq (.region [Lw 98 0,
 Lw 99 1,
 Lw 100 2,
 Lw 101 13,
 Lw 102 4,
 Ll 103 (.call .heap [] (.f F2d) [(.t 98),(.t 99),(.t 100),(.t 101),(.t 102)]),
 Lw 15 103] [0,2,3,4,10,11,15])
 (.seq (.region [Lw 104 15,
 Lw 1 104] [0,1,2,3,4,10,11])
 (.exit 1)))
 (.skip)))
 (.seq (.region [Lw 106 0,
 Lw 107 1,
 Lw 108 2,
 Lw 109 13,
 Lw 110 4,
 Ll 111 (.call .heap [] (.f F2c) [(.t 106),(.t 107),(.t 108),(.t 109),(.t 110)]),
 Lw 105 111,
 Iex 112 105 0,
 Iex 113 105 1,
 Lw 16 112,
 Lw 17 113] [0,1,2,3,4,12,16,17])
 (.seq (.region [Lw 114 17,
 Lw 11 114] [0,1,2,3,4,11,12,16])
 (.seq (.region [Lw 115 16,
 Lw 116 1,
 Ll 117 (.bin .sub (.t 115) (.t 116)),
 Lw 118 2,
 Lw 119 16,
 Ll 120 (.bin .sub (.t 118) (.t 119)),
 Lw 18 117,
 Lw 19 120] [0,1,2,3,4,11,12,16,18,19])
 (.seq (.region [Lw 121 12,
 Ll 122 (.bin .quo (.t 121) (Acx 8)),
 Lw 20 122] [0,1,2,3,4,11,16,18,19,20])
 (.seq (.region [Lw 123 18,
 Lw 124 19,
 Ll 125 (.bin .lss (.t 123) (.t 124))] [0,1,2,3,4,11,16,18,19,20,125])
 (.cond (.t 125)
 (.seq (.region [Lw 126 18,
 Lw 127 20,
 Ll 128 (.bin .geq (.t 126) (.t 127)),
 Lw 10 128] [0,1,2,3,4,10,11,16])
 (.seq (.region [Lw 129 0,
 Lw 130 1,
 Lw 131 16,
 Lw 132 3,
 Lw 133 4,
 Ll 134 (.call .heap [] (.f F2e) [(.t 129),(.t 130),(.t 131),(.t 132),(.t 133)])] [0,2,3,4,10,11,16])
 (.region [Lw 135 16,
 Ll 136 (.bin .add (.t 135) (Acx 1)),
 Lw 1 136] [0,1,2,3,4,10,11])))
 (.seq (.region [Lw 137 19,
 Lw 138 20,
 Ll 139 (.bin .geq (.t 137) (.t 138)),
 Lw 10 139] [0,1,2,3,4,10,11,16])
 (.seq (.region [Lw 140 0,
 Lw 141 16,
 Ll 142 (.bin .add (.t 141) (Acx 1)),
 Lw 143 2,
 Lw 144 3,
 Lw 145 4,
 Ll 146 (.call .heap [] (.f F2e) [(.t 140),(.t 142),(.t 143),(.t 144),(.t 145)])] [0,1,3,4,10,11,16])
 (.region [Lw 147 16,
 Lw 2 147] [0,1,2,3,4,10,11])))))))))))))))))
def Z2e_B:Cd:=
 .seq (.region [Ll 10 (.mv (.c (.bool true)))] [0,1,2,3,4,10])
 (.seq (.region [Ll 11 (.mv (.c (.bool true)))] [0,1,2,3,4,10,11])
 (.block 0 (.loop (Z2e_L0))))
def Z2e:Fn:=
 { nparams:=5,nblk:=0,results:=[],body:=Z2e_B }
def Z22_B:Cd:=
 .seq (.region [Lw 5 0,
 Ll 6 (.len false (.t 5)),
 Lw 4 6] [0,1,4])
 (.region [Lw 7 0,
 Lw 8 4,
 Lw 9 4,
 Ll 10 (.conv .u64 (.t 9)),
 Ll 11 (Ofx F1s [(.t 10)]),
 Lw 12 1,
 Ll 13 (.call .heap [] (.f F2e) [(.t 7),(Acx 0),(.t 8),(.t 11),(.t 12)])] [])
def Z22:Fn:=
 { nparams:=2,nblk:=0,results:=[],body:=Z22_B }
def Z3_B:Cd:=
 .seq (.region [Ll 2 (.mv (.c (.bool false)))] [0])
 (.seq (.region [Lw 3 0,
 Lw 4 0,
 Ll 5 (.bin .neq (.t 3) (.t 4)),
 Lw 2 5] [2])
 (.ret))
def Z3:Fn:=
 { nparams:=1,nblk:=0,results:=[.tmp 2],body:=Z3_B }
def Z0_B:Cd:=
 .seq (.region [Ll 4 (.mv (Acx 0))] [0,1])
 (.seq (.region [Lw 7 0,
 Ll 8 (Ofx F3 [(.t 7)]),
 Lw 5 8] [0,1,5])
 (.seq (.region [Lw 9 1,
 Ll 10 (Ofx F3 [(.t 9)]),
 Lw 6 10] [0,1,5,6])
 (.seq (.seq (.region [Lw 11 5] [0,1,6,11])
 (.cond (.t 11)
 (.seq (.seq (.region [Lw 12 6] [12])
 (.cond (.t 12)
 (.seq (.region [Ll 4 (.mv (Acx 0))] [4])
 (.ret))
 (.skip)))
 (.seq (.region [Ll 4 (.mv (Acx (-1)))] [4])
 (.ret)))
 (.skip)))
 (.seq (.seq (.region [Lw 13 6] [0,1,13])
 (.cond (.t 13)
 (.seq (.region [Ll 4 (.mv (Acx 1))] [4])
 (.ret))
 (.skip)))
 (.seq (.seq (.region [Lw 14 0,
 Lw 15 1,
 Ll 16 (.bin .lss (.t 14) (.t 15))] [0,1,16])
 (.cond (.t 16)
 (.seq (.region [Ll 4 (.mv (Acx (-1)))] [4])
 (.ret))
 (.skip)))
 (.seq (.seq (.region [Lw 17 0,
 Lw 18 1,
 Ll 19 (.bin .gtr (.t 17) (.t 18))] [19])
 (.cond (.t 19)
 (.seq (.region [Ll 4 (.mv (Acx 1))] [4])
 (.ret))
 (.skip)))
 (.seq (.region [Ll 4 (.mv (Acx 0))] [4])
 (.ret))))))))
def Z0:Fn:=
 { nparams:=2,nblk:=0,results:=[.tmp 4],body:=Z0_B }
def Z4_B:Cd:=
 .seq (.region [Ll 2 (.mv (.c (.bool false)))] [0])
 (.seq (.region [Lw 3 0,
 Lw 4 0,
 Ll 5 (.bin .neq (.t 3) (.t 4)),
 Lw 2 5] [2])
 (.ret))
def Z4:Fn:=
 { nparams:=1,nblk:=0,results:=[.tmp 2],body:=Z4_B }
def Z2_B:Cd:=
 .seq (.region [Ll 4 (.mv (Acx 0))] [0,1])
 (.seq (.region [Lw 7 0,
 Ll 8 (Ofx F4 [(.t 7)]),
 Lw 5 8] [0,1,5])
 (.seq (.region [Lw 9 1,
 Ll 10 (Ofx F4 [(.t 9)]),
 Lw 6 10] [0,1,5,6])
 (.seq (.seq (.region [Lw 11 5] [0,1,6,11])
 (.cond (.t 11)
 (.seq (.seq (.region [Lw 12 6] [12])
 (.cond (.t 12)
 (.seq (.region [Ll 4 (.mv (Acx 0))] [4])
 (.ret))
 (.skip)))
 (.seq (.region [Ll 4 (.mv (Acx (-1)))] [4])
 (.ret)))
 (.skip)))
 (.seq (.seq (.region [Lw 13 6] [0,1,13])
 (.cond (.t 13)
 (.seq (.region [Ll 4 (.mv (Acx 1))] [4])
 (.ret))
 (.skip)))
 (.seq (.seq (.region [Lw 14 0,
 Lw 15 1,
 Ll 16 (.bin .lss (.t 14) (.t 15))] [0,1,16])
 (.cond (.t 16)
 (.seq (.region [Ll 4 (.mv (Acx (-1)))] [4])
 (.ret))
 (.skip)))
 (.seq (.seq (.region [Lw 17 0,
 Lw 18 1,
 Ll 19 (.bin .gtr (.t 17) (.t 18))] [19])
 (.cond (.t 19)
 (.seq (.region [Ll 4 (.mv (Acx 1))] [4])
 (.ret))
 (.skip)))
 (.seq (.region [Ll 4 (.mv (Acx 0))] [4])
 (.ret))))))))
def Z2:Fn:=
 { nparams:=2,nblk:=0,results:=[.tmp 4],body:=Z2_B }
def ir_slices_IndexFunc_impl_row_impl_row_L0:Cd:=
 .seq (.region [Ll 9 (.bin .lss (.t 8) (.t 7))] [0,1,7,8,9])
 (.seq (.cond (.t 9)
 (.skip)
 (.exit 0))
 (.seq (.block 1 (.seq (.region [Lw 10 8,
 Lw 5 10] [0,1,5,7,8])
 (.seq (.region [Lw 11 1,
 Lw 12 0,
 Lw 13 5,
 Ll 14 (.idxA none .leaf (.t 12) (.t 13)),
 Ilx 15 14,
 Ll 16 (.call .flat [] (.t 11) [(.t 15)])] [0,1,5,7,8,16])
 (.cond (.t 16)
 (.seq (.region [Lw 17 5,
 Lw 4 17] [4])
 (.ret))
 (.skip)))))
 (.region [Ll 18 (.bin .add (.t 8) (Acx 1)),
 Lw 8 18] [0,1,7,8])))
def ir_slices_IndexFunc_impl_row_impl_row_B:Cd:=
 .seq (.region [Ll 4 (.mv (Acx 0))] [0,1])
 (.seq (.seq (.region [Lw 6 0,
 Ll 7 (.len false (.t 6)),
 Ll 8 (.mv (Acx 0))] [0,1,7,8])
 (.block 0 (.loop (ir_slices_IndexFunc_impl_row_impl_row_L0))))
 (.seq (.region [Ll 4 (.mv (Acx (-1)))] [4])
 (.ret)))
def Z21:Fn:=
 { nparams:=2,nblk:=0,results:=[.tmp 4],body:=ir_slices_IndexFunc_impl_row_impl_row_B }
def ir_slices_DeleteFunc_impl_row_impl_row_L0:Cd:=
 .seq (.seq (.region [Lw 16 6,
 Lw 17 0,
 Ll 18 (.len false (.t 17)),
 Ll 19 (.bin .lss (.t 16) (.t 18))] [0,1,5,6,19])
 (.cond (.t 19)
 (.skip)
 (.exit 0)))
 (.seq (.block 1 (.seq (.region [Lw 22 0,
 Lw 23 6,
 Ll 24 (.idxA none .leaf (.t 22) (.t 23)),
 Ilx 25 24,
 Lw 7 25] [0,1,5,6,7])
 (.seq (.region [Lw 26 1,
 Lw 27 7,
 Ll 28 (.call .flat [] (.t 26) [(.t 27)]),
 Ll 29 (.un .not (.t 28))] [0,1,5,6,7,29])
 (.cond (.t 29)
 (.seq (.region [Lw 30 0,
 Lw 31 5,
 Lw 32 7,
 Ll 33 (.idxA none .leaf (.t 30) (.t 31)),
 Ls (.store false .leaf (.t 33) (.t 32))] [0,1,5,6])
 (.region [Lw 34 5,
 Ll 35 (.bin .add (.t 34) (Acx 1)),
 Lw 5 35] [0,1,5,6]))
 (.skip)))))
 (.region [Lw 20 6,
 Ll 21 (.bin .add (.t 20) (Acx 1)),
 Lw 6 21] [0,1,5,6]))
def ir_slices_DeleteFunc_impl_row_impl_row_B:Cd:=
 .seq (.region [Ll 4 (.mv (.c (.sl .leaf [])))] [0,1])
 (.seq (.region [Lw 8 0,
 Lw 9 1,
 Ll 10 (Ofx F21 [(.t 8),(.t 9)]),
 Lw 5 10] [0,1,5])
 (.seq (.seq (.region [Lw 11 5,
 Ll 12 (.bin .eql (.t 11) (Acx (-1)))] [0,1,5,12])
 (.cond (.t 12)
 (.seq (.region [Lw 13 0,
 Lw 4 13] [4])
 (.ret))
 (.skip)))
 (.seq (.seq (.region [Lw 14 5,
 Ll 15 (.bin .add (.t 14) (Acx 1)),
 Lw 6 15] [0,1,5,6])
 (.block 0 (.loop (ir_slices_DeleteFunc_impl_row_impl_row_L0))))
 (.seq (.region [Lw 36 0,
 Lw 37 5,
 Ll 38 (.cut none .leaf (.t 36) (some (.t 37)) none none),
 Ls (.clear .leaf (.sl .leaf []) (.t 38))] [0,5])
 (.seq (.region [Lw 39 0,
 Lw 40 5,
 Ll 41 (.cut none .leaf (.t 39) none (some (.t 40)) none),
 Lw 4 41] [4])
 (.ret))))))
def Z1y:Fn:=
 { nparams:=2,nblk:=0,results:=[.tmp 4],body:=ir_slices_DeleteFunc_impl_row_impl_row_B }
end Pe

namespace Pe
open Go Gq
variable {T:Nat→Option Fn} {A:ah}
def tq (ds:List D):Prop:=∀x∈ds,x.isTup=false
theorem jx (h:Heap):∀{ds:List D},tq ds→ll h (ds.map .d)=some ds
 | [],_=>rfl
 | d::ds,hn=>by
  have h1:d.isTup=false:=hn d (by simp)
  have h2:=jx h (ds:=ds) fun x hx=>hn x (by simp [hx])
  simp [h1,h2]
theorem re (h:Heap):∀{a b:List V} {x y:List D},ll h a=some x→ll h b=some y→ll h (a++b)=some (x++y)
 | [],b,x,y,h1,h2=>by simp at h1; subst h1; simpa using h2
 | v::a,b,x,y,h1,h2=>by
  simp only [Q6] at h1;obtain ⟨d,hd,h1⟩:=a8.1 h1;simp only [a0e] at h1
  split at h1
  ·cases h1
  ·rename_i hn
   obtain ⟨z,hz,rfl⟩:=ab.1 h1;have:=re h hz h2;simp [hd,hn,this]
theorem xy {O:ah} {np:Nat} {h:Heap} {news:List Nat} {g:Nat} {first caps:List D} {x r:D} (h1:tq first) (h2:tq caps) (hx:x.isTup=false) (ha:ask O g (first++[x]++caps)=some r) (hr:r.flat=true) :
 yn O np h .flat news (g,first.map .d,caps.map .d) [.d x]=some (.d r,h):=by
 have e:ll h (first.map .d++[.d x]++caps.map .d)=some (first++[x]++caps):=
  re h (re h (jx h h1) (jx h (ds:=[x]) (by intro y hy; simp at hy; subst hy; exact hx))) (jx h h2)
 rw [xu,e,ac,Db,ha,ac,A1,hr,if_pos rfl]
def lq (P:D→Bool):List D→Nat→Int
 | [],_=>-1
 | d::ds,i=>if P d then i else lq P ds (i+1)
theorem Gw (P:D→Bool):∀(ds:List D) (i:Nat),(0≤lq P ds i)↔ds.any P=true
 | [],i=>by simp [lq]
 | d::ds,i=>by
  rw [lq];cases h:P d
  ·simp [h,Gw P ds (i+1)]
  ·simp [h]
def oc (O:ah) (g:Nat) (first caps cs:List D) (P:D→Bool):Prop:=tq first∧tq caps∧tq cs∧∀x∈cs,ask O g (first++[x]++caps)=some (D.bool (P x))
def ud (s:Sh) (cs:List D):Prop:=∀x∈cs,x.sh=s
theorem J6 {O:ah} {g:Nat} {first caps cs:List D} {P:D→Bool} (hF:oc O g first caps cs P) (hs:ud .leaf cs) (hl:cs.length<2000000):∀(m i:Nat),i+m=cs.length →
 dn O 0 (.loop Z1z_L0) ⟨[(0,.d (.sl .leaf cs)),(1,.d (.fn g first caps)),(7,(.d (.int .i64 cs.length))),(8,(.d (.int .i64 i)))],[]⟩ =
  if (cs.drop i).any P then some (.ret,⟨[(4,(.d (.int .i64 (lq P (cs.drop i) i))))],[]⟩) else some (.exit 0,⟨[(0,.d (.sl .leaf cs)),(1,.d (.fn g first caps)),(7,(.d (.int .i64 cs.length))),(8,(.d (.int .i64 cs.length))),(9,(.d (.bool false)))],[]⟩)
 | 0,i,hi=>by
  have:i=cs.length:=by omega
  subst this;rw [ew];exact bo (by simp -implicitDefEqProofs [Z1z_L0,af])
 | m+1,i,hi=>by
  have hlt:i<cs.length:=by omega
  have h1:(i:Int)<cs.length:=by omega
  have hx:cs[i]? = some cs[i]:=ao hlt;have hm:cs[i]∈cs:=ce hlt;have hc:=xy (O:=O) (np:=0) (h:=[]) (news:=[]) hF.1 hF.2.1 (hF.2.2.1 _ hm) (hF.2.2.2 _ hm) rfl;have hsh:=hs _ hm;have w4:IntKind.i64.wrap ((i:Int)+1)=((i+1:Nat):Int):=(w64 (x:=(i:Int)+1) (by omega)).trans (by omega)
  rw [bv hlt];cases hp:P cs[i]
  ·rw [hp] at hc
   refine bb (s1:=⟨[(0,.d (.sl .leaf cs)),(1,.d (.fn g first caps)),(7,(.d (.int .i64 cs.length))),(8,(.d (.int .i64 ((i+1:Nat)))))],[]⟩) ?_ ?_
   ·simp -implicitDefEqProofs [Z1z_L0,af,h1,hx,hsh,hc,w4]
   ·rw [J6 hF hs hl m (i+1) (by omega)]
    simp only [ke,hp,Bool.false_or,lq,au,if_false]
  ·rw [hp] at hc
   have e:lq P (cs[i]::cs.drop (i+1)) i=i:=by simp [lq,hp]
   rw [e];simp only [ke,hp,Bool.true_or,if_true];exact ki (by simp -implicitDefEqProofs [Z1z_L0,af,h1,hx,hsh,hc])
theorem Hs {O:ah} {g:Nat} {first caps cs:List D} {P:D→Bool} (hF:oc O g first caps cs P) (hs:ud (.arr 64 .leaf) cs) (hl:cs.length<2000000):∀(m i:Nat),i+m=cs.length →
 dn O 0 (.loop Z20_L0) ⟨[(0,.d (.sl (.arr 64 .leaf) cs)),(1,.d (.fn g first caps)),(7,(.d (.int .i64 cs.length))),(8,(.d (.int .i64 i)))],[]⟩ =
  if (cs.drop i).any P then some (.ret,⟨[(4,(.d (.int .i64 (lq P (cs.drop i) i))))],[]⟩) else some (.exit 0,⟨[(0,.d (.sl (.arr 64 .leaf) cs)),(1,.d (.fn g first caps)),(7,(.d (.int .i64 cs.length))),(8,(.d (.int .i64 cs.length))),(9,(.d (.bool false)))],[]⟩)
 | 0,i,hi=>by
  have:i=cs.length:=by omega
  subst this;rw [ew];exact bo (by simp -implicitDefEqProofs [Z20_L0,af])
 | m+1,i,hi=>by
  have hlt:i<cs.length:=by omega
  have h1:(i:Int)<cs.length:=by omega
  have hx:cs[i]? = some cs[i]:=ao hlt;have hm:cs[i]∈cs:=ce hlt;have hc:=xy (O:=O) (np:=0) (h:=[]) (news:=[]) hF.1 hF.2.1 (hF.2.2.1 _ hm) (hF.2.2.2 _ hm) rfl;have hsh:=hs _ hm;have w4:IntKind.i64.wrap ((i:Int)+1)=((i+1:Nat):Int):=(w64 (x:=(i:Int)+1) (by omega)).trans (by omega)
  rw [bv hlt];cases hp:P cs[i]
  ·rw [hp] at hc
   refine bb (s1:=⟨[(0,.d (.sl (.arr 64 .leaf) cs)),(1,.d (.fn g first caps)),(7,(.d (.int .i64 cs.length))),(8,(.d (.int .i64 ((i+1:Nat)))))],[]⟩) ?_ ?_
   ·simp -implicitDefEqProofs [Z20_L0,af,h1,hx,hsh,hc,w4]
   ·rw [Hs hF hs hl m (i+1) (by omega)]
    simp only [ke,hp,Bool.false_or,lq,au,if_false]
  ·rw [hp] at hc
   have e:lq P (cs[i]::cs.drop (i+1)) i=i:=by simp [lq,hp]
   rw [e];simp only [ke,hp,Bool.true_or,if_true];exact ki (by simp -implicitDefEqProofs [Z20_L0,af,h1,hx,hsh,hc])
def lr (O:ah) (F:Nat) (s:Sh):Prop:=∀(g:Nat) (first caps cs:List D) (P:D→Bool),oc O g first caps cs P→ud s cs→cs.length<2000000 →
 ask O F [.sl s cs,.fn g first caps]=some (D.int .i64 (lq P cs 0))
theorem Uc (hT:T F1z=some Z1z):lr (den T A) F1z .leaf:=by
 intro g first caps cs P hF hs hl;have h:=J6 hF hs hl cs.length 0 (bf _);rw [de] at h;have e0:((0:Nat):Int)=0:=rfl;rw [e0] at h;refine bc hT rfl ?_
 by_cases ha:cs.any P=true
 ·rw [if_pos ha] at h
  simp -implicitDefEqProofs [Z1z,Z1z_B,h]
 ·rw [if_neg ha] at h
  have hn:lq P cs 0=-1:=by
   have hi:∀(ds:List D) (i:Nat),ds.any P=false→lq P ds i=-1:=by
    intro ds
    induction ds with
    | nil=>intro i _; rfl
    | cons d ds ih=>intro i hd; simp at hd; rw [lq,hd.1]; simpa using ih (i+1) (by simpa using hd.2)
   exact hi cs 0 (by simpa using ha)
  simp -implicitDefEqProofs [Z1z,Z1z_B,h,hn]
theorem Ui (hT:T F20=some Z20):lr (den T A) F20 (.arr 64 .leaf):=by
 intro g first caps cs P hF hs hl;have h:=Hs hF hs hl cs.length 0 (bf _);rw [de] at h;have e0:((0:Nat):Int)=0:=rfl;rw [e0] at h;refine bc hT rfl ?_
 by_cases ha:cs.any P=true
 ·rw [if_pos ha] at h
  simp -implicitDefEqProofs [Z20,Z20_B,h]
 ·rw [if_neg ha] at h
  have hn:lq P cs 0=-1:=by
   have hi:∀(ds:List D) (i:Nat),ds.any P=false→lq P ds i=-1:=by
    intro ds
    induction ds with
    | nil=>intro i _; rfl
    | cons d ds ih=>intro i hd; simp at hd; rw [lq,hd.1]; simpa using ih (i+1) (by simpa using hd.2)
   exact hi cs 0 (by simpa using ha)
  simp -implicitDefEqProofs [Z20,Z20_B,h,hn]
def vj (O:ah) (F:Nat) (s:Sh):Prop:=∀(g:Nat) (first caps cs:List D) (P:D→Bool),oc O g first caps cs P→ud s cs→cs.length<2000000 →
 ask O F [.sl s cs,.fn g first caps]=some (D.bool (cs.any P))
theorem I5 (hT:T F1w=some Z1w) (hi:lr (den T A) F1z .leaf):vj (den T A) F1w .leaf:=by
 intro g first caps cs P hF hs hl;have h:=hi g first caps cs P hF hs hl;have e:decide (0≤lq P cs 0)=cs.any P:=by rw [Bool.eq_iff_iff]; simpa using Gw P cs 0
 refine bc hT rfl ?_;simp -implicitDefEqProofs [Z1w,Z1w_B,h,e]
theorem Hu (hT:T F1x=some Z1x) (hi:lr (den T A) F20 (.arr 64 .leaf)):vj (den T A) F1x (.arr 64 .leaf):=by
 intro g first caps cs P hF hs hl;have h:=hi g first caps cs P hF hs hl;have e:decide (0≤lq P cs 0)=cs.any P:=by rw [Bool.eq_iff_iff]; simpa using Gw P cs 0
 refine bc hT rfl ?_;simp -implicitDefEqProofs [Z1x,Z1x_B,h,e]
end Pe

namespace Pe
open Go Gq
variable {T:Nat→Option Fn} {A:ah}
def D.num:D→Int
 | .int _ n=>n
 | _=>0
def ft (l:List Int):Prop:=∀x∈l,0≤x∧x<256
abbrev nw (l:List Int):D:=(D.arr 64 .leaf (ak .u8 l))
def vq (O:ah) (F:Nat) (s:Sh):Prop:=∀(g:Nat) (first caps cs:List D) (P:D→Bool),oc O g first caps cs P→ud s cs→cs.length<2000000 →
 ask O F [.sl s cs,.fn g first caps]=some (D.bool (cs.all P))
theorem Ot (P:D→Bool) (cs:List D):(!cs.any fun x=>!P x)=cs.all P:=by
 induction cs with
 | nil=>rfl
 | cons c cs ih=>simp [←ih]
theorem Yr {g:Nat} {first caps cs:List D} {P:D→Bool} (hT:T Fh=some Zh) (hF:oc (den T A) g first caps cs P):oc (den T A) Fh [] [.ip (.fn g first caps)] cs fun x=>!P x:=by
 refine ⟨fun x hx=>by simp at hx,fun x hx=>by simp at hx; subst hx; rfl,hF.2.2.1,fun x hx=>?_⟩
 have hc:=xy (O:=den T A) (np:=0) (h:=[]) (news:=[]) hF.1 hF.2.1 (hF.2.2.1 _ hx) (hF.2.2.2 _ hx) rfl;refine bc hT rfl ?_;simp -implicitDefEqProofs [Zh,Zh_B,hc]
theorem R6 (hT:T Fg=some Zg) (hT1:T Fh=some Zh) (hc:vj (den T A) F1w .leaf):vq (den T A) Fg .leaf:=by
 intro g first caps cs P hF hs hl;have e:=hc _ _ _ _ _ (Yr hT1 hF) hs hl;have e2:=Ot P cs;have t1:=jx [.box false (.fn g first caps)] hF.1;have t2:=jx [.box false (.fn g first caps)] hF.2.1;rw [←e2];generalize (cs.any fun x=>!P x)=r at *
 refine bc hT rfl ?_;simp -implicitDefEqProofs [Zg,Zg_B,e]
theorem a09 {g:Nat} {first caps cs:List D} {P:D→Bool} (hT:T Fj=some Zj) (hs:ud (.arr 64 .leaf) cs) (hF:oc (den T A) g first caps cs P):oc (den T A) Fj [] [.ip (.fn g first caps)] cs fun x=>!P x:=by
 refine ⟨fun x hx=>by simp at hx,fun x hx=>by simp at hx; subst hx; rfl,hF.2.2.1,fun x hx=>?_⟩
 have hc:=xy (O:=den T A) (np:=0) (h:=[.box false x]) (news:=[]) hF.1 hF.2.1 (hF.2.2.1 _ hx) (hF.2.2.2 _ hx) rfl;have h1:=hF.2.2.1 _ hx;have h2:=hs _ hx;refine bc hT rfl ?_;simp -implicitDefEqProofs [Zj,Zj_B,hc,h1,h2]
theorem Qj (hT:T Fi=some Zi) (hT1:T Fj=some Zj) (hc:vj (den T A) F1x (.arr 64 .leaf)):vq (den T A) Fi (.arr 64 .leaf):=by
 intro g first caps cs P hF hs hl;have e:=hc _ _ _ _ _ (a09 hT1 hs hF) hs hl;have e2:=Ot P cs;rw [←e2];generalize (cs.any fun x=>!P x)=r at *
 refine bc hT rfl ?_;simp -implicitDefEqProofs [Zi,Zi_B,e]
def sk (p:Int) (l:List Int):Bool:=l.all fun x=>decide (x<p)
def yg (O:ah):Prop:=∀(p:Int) (l:List Int),ft l→l.length=64→ask O Fo [(D.int .i64 p),(D.arr 64 .leaf (ak .u8 l))]=some (D.bool (sk p l))
theorem Sb (p:Int) (l:List Int):((ak .u8 l).all fun x=>decide (x.num<p))=sk p l:=by
 unfold ak sk;rw [List.all_map];rfl
theorem Sv (hT:T Fo=some Zo) (hT1:T Fq=some Zq) (ha:vq (den T A) Fg .leaf):yg (den T A):=by
 intro p l hb hl
 have hF:oc (den T A) Fq [] [.ip (D.int .i64 p)] (ak .u8 l) fun x=>decide (x.num<p):=by
  refine ⟨fun x hx=>by simp at hx,fun x hx=>by simp at hx; subst hx; rfl,fun x hx=>?_,fun x hx=>?_⟩
  ·obtain ⟨n,_,rfl⟩:=cb.1 hx; rfl
  ·obtain ⟨n,hn,rfl⟩:=cb.1 hx
   have h1:=hb n hn;have w1:IntKind.i64.wrap n=n:=w64 (by omega)
   refine bc hT1 rfl ?_;simp -implicitDefEqProofs [Zq,Zq_B,w1,D.num];exact decide_eq_decide.2 wo
 have e:=ha _ _ _ _ _ hF (fun x hx=>by obtain ⟨n,_,rfl⟩:=cb.1 hx; rfl) (by simp [hl])
 rw [Sb] at e;have ht:l.take 64=l:=aw (by omega)
 refine bc hT rfl ?_;simp -implicitDefEqProofs [Zo,Zo_B,e,hl,ht]
def pq (p:Int) (ls:List (List Int)):Int:=if isP p∧ls.all (sk p) then 0 else 1
def Ti (ls:List (List Int)):Prop:=∀l∈ls,l.length=64∧ft l
def D.nums:D→List Int
 | .arr _ _ cs=>cs.map D.num
 | _=>[]
theorem E5 (l:List Int):(nw l).nums=l:=by
 simp only [D.nums,ak,tp];have:(D.num ∘ D.int .u8)=id:=rfl;rw [this,List.map_id]
def n7 (O:ah):Prop:=∀(p:Int) (ls:List (List Int)),Ti ls→ls.length<2000000→ask O Fv [(D.int .i64 p),.sl (.arr 64 .leaf) (ls.map nw)]=some (D.int .i64 (pq p ls))
theorem Qt {p:Int} {ls:List (List Int)} (h:Ti ls) (hT1:T Fw=some Zw) (hi:yg (den T A)):oc (den T A) Fw [] [.ip (D.int .i64 p)] (ls.map nw) fun x=>sk p x.nums:=by
 refine ⟨fun x hx=>by simp at hx,fun x hx=>by simp at hx; subst hx; rfl,fun x hx=>?_,fun x hx=>?_⟩
 ·obtain ⟨n,_,rfl⟩:=cb.1 hx; rfl
 ·obtain ⟨n,hn,rfl⟩:=cb.1 hx
  have e:=hi p n (h n hn).2 (h n hn).1;have e2:=E5 n;refine bc hT1 rfl ?_;simp -implicitDefEqProofs [Zw,Zw_B,e,e2]
theorem Tn (p:Int) (ls:List (List Int)):((ls.map nw).all fun x=>sk p x.nums)=ls.all (sk p):=by
 rw [List.all_map]
 congr 1
 funext l
 simp only [Function.comp,E5]
theorem Ie (hT:T Fv=some Zv) (hT1:T Fw=some Zw) (hp:qd (den T A)) (hi:yg (den T A)) (ha:vq (den T A) Fi (.arr 64 .leaf)):n7 (den T A):=by
 intro p ls h hl;have e:=ha _ _ _ _ _ (Qt (p:=p) h hT1 hi) (fun x hx=>by obtain ⟨n,_,rfl⟩:=cb.1 hx; rfl) (by simpa using hl)
 rw [Tn] at e;have e1:=hp p;unfold pq;refine bc hT rfl ?_;cases h1:isP p
 ·rw [h1] at e1
  simp -implicitDefEqProofs [Zv,Zv_B,e1,af]
 ·rw [h1] at e1
  cases h2:ls.all (sk p)
  ·rw [h2] at e
   simp -implicitDefEqProofs [Zv,Zv_B,e1,e,af]
  ·rw [h2] at e
   simp -implicitDefEqProofs [Zv,Zv_B,e1,e,af]
end Pe

namespace Pe
open Go
theorem Eu:∀(xs:List D),(∀x∈xs,(Ty.int .u8).has x)→∃l:List Int,xs=ak .u8 l∧ft l
 | [],_=>⟨[],rfl,fun _ h=>by cases h⟩
 | x::xs,h=>by
  obtain ⟨l,rfl,hb⟩:=Eu xs fun y hy=>h y (List.mem_cons_of_mem _ hy)
  have h1:=h x (by simp)
  cases x <;> simp only [Ty.has] at h1
  obtain ⟨rfl,h1⟩:=h1;refine ⟨_::l,rfl,fun y hy=>?_⟩
  rcases da.1 hy with rfl | hy
  ·have:=bounds_u8 h1; omega
  ·exact hb y hy
theorem Lq {xs:List D} (h:Ty.hasAll [] xs):xs=[]:=by
 cases xs <;> simp only [Ty.hasAll] at h; rfl
theorem Iz {T:Ty} {Ts:List Ty} {xs:List D} (h:Ty.hasAll (T::Ts) xs):∃x r,xs=x::r∧T.has x∧Ty.hasAll Ts r:=by
 cases xs <;> simp only [Ty.hasAll] at h; exact ⟨_,_,rfl,h⟩
def cn (P:Program) (num:Nat→Nat) (g:Nat) (fn:Fn):Bool:=match P.funcs[g]? with
 | some x=>Am P num fn x
 | none=>false
def Xs (P:Program) (num:Nat→Nat):List (Nat×Fn)→Prop
 | []=>True
 | e::r=>cn P num (num e.1) e.2=true∧Xs P num r
theorem Ep {P:Program} {num:Nat→Nat}:∀{l:List (Nat×Fn)},Xs P num l→∀f fn,l.lookup f=some fn→∃g,P.funcs[num f]? = some g∧Am P num fn g=true
 | [],_,f,fn,h=>by cases h
 | (a,b)::r,⟨h1,h2⟩,f,fn,h=>by
  rw [List.lookup_cons] at h
  split at h
  ·rename_i e
   obtain rfl:=av h;have:f=a:=by simpa using e
   subst this;unfold cn at h1
   split at h1
   ·rename_i g hg; exact ⟨g,hg,h1⟩
   ·cases h1
  ·exact Ep h2 f fn h
end Pe

namespace Pe
open Go
variable {P:Program} {num:Nat→Nat}
theorem Mq {C:Cx} {φ:Loc} {s:St} {a:Act} {ops:Array Oper} {N np:Nat} {o:Oper} {j d:Nat} {v:V} {K:Act→World→Prop} {Q:Exit→Act→World→Prop}
 (hs:SR C φ s a.tmps) (hN:N≤a.tmps.size) (hd:o.dst=some d) (hdN:d<N) (hg:o.guard=none) (hj:ops[j]? = some o) (hop:OpWp P o a C φ s.h v s.h (fun _=>False))
 (hK:∀C' φ' u,Runs np C C' φ φ' s.h s.h→SR C' φ' ⟨(d,v)::s.e,s.h⟩ (a.put o.dst u).tmps→K (a.put o.dst u) C'.w):wpOp P ops Q j K a C.w:=by
 have hw:Region.wanted o (yielded ops a.tmps)=true:=by unfold Region.wanted; rw [hg]
 unfold wpOp;simp only [hj];rw [hw,if_pos rfl];left;refine hop K Q fun C' φ' u st hx k=>hK C' φ' u ⟨st,k.mono fun _ h=>h.elim⟩ ⟨st.hr,st.bd,fun n w hn=>?_⟩
 simp only [Env.get] at hn;rw [hd,Gt (jv hdN hN)]
 by_cases hdn:d=n
 ·subst hdn
  simp only [if_true,a9] at hn;subst hn;refine ⟨u,if_pos rfl,?_⟩;rcases hx with hx | hx
  ·rw [hd] at hx; cases hx
  ·exact hx
 ·rw [if_neg hdn] at hn
  rw [if_neg (ig hdn)];obtain ⟨u0,h1,h2⟩:=hs.env n w hn;exact ⟨u0,h1,k w u0 (fun _ _ h=>h.elim) h2⟩
theorem S3 {C:Cx} {φ:Loc} {s:St} {a:Act} {o:Oper} (hs:SR C φ s a.tmps) {x:Arg} {x' y':Operand} {t yt e:TypeId} (ho:o.op=.binOp .eql t x' y' yt) (hx:ca C.num x x'=true) (ht:P.underlying t=some (.slice e)) (hy:a.eval y'=.slice none 0 0)
 {sh:Sh} {cs:List D} (hv:s.e.arg x=some (.d (.sl sh cs))):∃b,OpGood P o a C φ s.h (.d (.bool b)) s.h (fun _=>False):=by
 obtain ⟨ad,c,e1,_,_⟩:=En (bi hs hx hv);refine ⟨decide (ad=none),br hs (u:=.bool (decide (ad=none))) ?_ (gi ..)⟩
 have hq:(Go.Op.equal t (.slice ad cs.length c) (.slice none 0 0)).run P C.w=.ok (decide (ad=none)) C.w:=by
  show (Go.Op.equalIn (9999+1) t (.slice ad cs.length c) (.slice none 0 0)).run P C.w=.ok (decide (ad=none)) C.w;generalize 9999=d;cases ad <;> simp [Go.Op.equalIn,Sem.run_bind,run_underlying ht,Result.andThen_ok,Sem.run_pure]
 have hb:binOp .eql t (.slice ad cs.length c) (.slice none 0 0)=(do pure (.bool (←Go.Op.equal t (.slice ad cs.length c) (.slice none 0 0)))):=rfl;simp [execOp,ho,e1,hy,eqGuard,hb,hq]
theorem Qv {x:Arg} {o:Oper} (h:Qg P num (.nilq false x) o=true):∃t x' y' yt e,o.op=.binOp .eql t x' y' yt∧ca num x x'=true∧kr y'=true∧P.underlying t=some (.slice e):=by
 cases hq:o.op with
 | binOp op t x' y' yt=>
  simp only [Qg,hq,al,decide_eq_true_eq] at h;obtain ⟨⟨⟨h3,h4⟩,h5⟩,h6⟩:=h
  split at h6
  ·rename_i e he
   exact ⟨t,x',y',yt,e,by rw [h3]; rfl,h4,h5,he⟩
  ·cases h6
 | _=>simp only [Qg,hq,au] at h
def Hi (s:Sh) (z:D) (bytes:Nat):Cd:=
 .seq (.region [⟨some 2,.nilOwn 0 s,none,[]⟩] [0])
 (.seq (.seq (.region [⟨some 3,.mv (.t 0),none,[]⟩,
  ⟨some 4,.nilq false (.t 3),none,[]⟩] [0,4])
  (.cond (.t 4)
   (.seq (.region [⟨some 2,.nilOwn 2 s,none,[]⟩] [2])
    (.ret))
   (.skip)))
  (.seq (.region [⟨some 5,.buildSl false 2 s z 0 [],none,[]⟩,
   ⟨some 6,.mv (.t 0),none,[]⟩,
   ⟨some 7,.append s 3 bytes (.t 5) (.t 6),none,[]⟩,
   ⟨some 2,.mv (.t 7),none,[]⟩] [2])
   (.ret)))
def rq (s:Sh) (z:D) (bytes:Nat):Fn:={ nparams:=1,nblk:=4,results:=[.tmp 2],body:=Hi s z bytes }
def ov:Code→Bool
 | .seq _ (.seq (.seq (.region _ _ false) _) _)=>true
 | _=>false
theorem xl {N:Nat} {a b:Cd} {x:Code} (h:gj P num N (.seq a b) x=true):∃y z,x=.seq y z∧gj P num N a y=true∧gj P num N b z=true:=by
 cases x <;> simp only [gj,au,al] at h
 exact ⟨_,_,rfl,h⟩
def si (s:Sh):St:=⟨[(2,.sl 2 [] 0 0 none)],[.hole,.hole,.sl false s [],.hole]⟩
theorem Oh:jp P num (fun _ _ _=>none):=fun f vs bs ans h=>by cases h
theorem Ip {s:Sh} {z:D} {bytes N:Nat} (hm:P.follows .mixedOrders=true) {x:Code} (hok:gj P num N (Hi s z bytes) x=true) (hshape:ov x=true) (hbeq:Sh.beq s s=true)
 (C:Cx) (φ:Loc) (a:Act) (hC:C.num=num) (hs:SR C φ ⟨params 0 [.d (.sl s [])],[]++List.replicate 4 .hole⟩ a.tmps) (hN:N≤a.tmps.size)
 (Q:Exit→Act→World→Prop) (hQ:Vs num 0 Q .ret C φ ([]++List.replicate 4 .hole) (si s) a):x.wp P Q a C.w:=by
 obtain ⟨x1,x2,rfl,ok1,ok2⟩:=xl hok;obtain ⟨x3,x4,rfl,ok3,ok4⟩:=xl ok2;obtain ⟨x5,x6,rfl,ok5,ok6⟩:=xl ok3;have nc:jp P num (fun _ _ _=>none):=Oh
 -- ahead
 refine wp_seq (rp (O:=fun _ _ _=>none) (np:=0) (N:=N) nc hm 1 _ _ ok1 C φ _ ⟨[(0,.d (.sl s []))],[.hole,.hole,.hole,.hole]⟩ a .normal hC hs hN rfl _ ?_)
 intro C1 φ1 a1 k1 r1 hs1 z1 d1;refine wp_seq (wp_seq ?_)
 -- the question
 cases x5 <;> simp only [gj,au,al] at ok5
 rename_i id ops draw
 cases draw with
 | true=>simp [ov] at hshape
 | false=>
 have hops:=ok5.1;obtain ⟨hl,hget⟩:=qk hops;have hl2:ops.size=2:=by simpa using hl.symm
 have g0:ops.toList[0]? = some ops[0]:=by simp [hl2]
 have g1:ops.toList[1]? = some ops[1]:=by simp [hl2]
 have i0:=hget 0 _ _ rfl g0;have i1:=hget 1 _ _ rfl g1;have N1:N≤a1.tmps.size:=by rw [z1]; exact hN
 refine wp_region ?_;rw [hl2];show wpOps P ops _ [0,1] a1 C1.w;rw [wpOps_cons];refine zo (O:=fun _ _ _=>none) (np:=0) (k1▸nc) hs1 N1 (k1▸i0) (by simp) (s':=⟨[(3,.d (.sl s [])),(0,.d (.sl s []))],[.hole,.hole,.hole,.hole]⟩) rfl fun C2 φ2 u2 rn2 hs2=>?_
 have k2:C2.num=num:=rn2.st.le.num.trans k1;rw [wpOps_cons];unfold E1 at i1;simp only [al,decide_eq_true_eq] at i1;obtain ⟨⟨⟨hdst,hdN⟩,hop⟩,hguard⟩:=i1;have hdst':ops[1].dst=some 4:=hdst.symm;have hdN':4<N:=by simpa [hdst'] using hdN
 have hg:ops[1].guard=none:=by
  cases hq:ops[1].guard with
  | none=>rfl
  | some q=>rw [hq] at hguard; simp at hguard
 have N2:N≤(a1.put ops[0].dst u2).tmps.size:=by rw [pe]; exact N1
 have key:∃b,OpGood P ops[1] (a1.put ops[0].dst u2) C2 φ2 [.hole,.hole,.hole,.hole] (.d (.bool b)) [.hole,.hole,.hole,.hole] (fun _=>False):=by
  obtain ⟨t,x',y',yt,e,h1,h2,h3,h4⟩:=Qv hop;refine S3 hs2 h1 (k2▸h2) h4 ?_ (x:=.t 3) (sh:=s) (cs:=[]) rfl;unfold kr at h3
  split at h3
  ·rfl
  ·cases h3
 obtain ⟨b,key⟩:=key;refine Mq (np:=0) hs2 N2 hdst' hdN' hg (by simp) key.wp fun C3 φ3 u3 rn3 hs3=>?_
 have k3:C3.num=num:=rn3.st.le.num.trans k2;show (Exit.then _ _) .normal _ _;obtain ⟨rn4,hs4⟩:=Cr 0 hs3 [0,4];have N4:N≤((a1.put ops[0].dst u2).put ops[1].dst u3).tmps.size:=by rw [pe]; exact N2
 have d4:((a1.put ops[0].dst u2).put ops[1].dst u3).defers=a.defers:=by
  rw [←d1];cases ops[0].dst <;> cases ops[1].dst <;> rfl
 have z4:((a1.put ops[0].dst u2).put ops[1].dst u3).tmps.size=a.tmps.size:=by rw [pe,pe,z1]
 have back:Runs 0 C C3 φ φ3 ([]++List.replicate 4 .hole) [.hole,.hole,.hole,.hole]:=(r1.trans (rn2.trans rn3)).trans rn4;generalize ((a1.put ops[0].dst u2).put ops[1].dst u3)=a3 at *;have hs5:SR C3 φ3 ⟨[(0,.d (.sl s [])),(4,.d (.bool b))],[.hole,.hole,.hole,.hole]⟩ a3.tmps:=hs4;cases b with
 | true=>
  have ev:cr (fun _ _ _=>none) 0 1 (.cond (.t 4) (.seq (.region [⟨some 2,.nilOwn 2 s,none,[]⟩] [2]) (.ret)) (.skip)) ⟨[(0,.d (.sl s [])),(4,.d (.bool true))],[.hole,.hole,.hole,.hole]⟩=some (.ret,⟨[(2,.sl 2 [] 0 0 (some 0))],[.hole,.hole,.sl false s [],.hole]⟩):=rfl
  refine rp (O:=fun _ _ _=>none) (np:=0) (N:=N) nc hm 1 _ _ ok6 C3 φ3 _ _ a3 .ret k3 hs5 N4 ev _ ?_
  intro C6 φ6 a6 k6 r6 hs6 z6 d6;refine hQ C6 φ6 a6 k6 (back.trans r6) ⟨hs6.hr,hs6.bd,fun n v hn=>?_⟩ (z6.trans z4) (d6.trans d4)
  simp only [si,Env.get] at hn
  split at hn
  ·rename_i h2
   subst h2;obtain rfl:=av hn;obtain ⟨u,h5,h6⟩:=hs6.env 2 (.sl 2 [] 0 0 (some 0)) rfl;refine ⟨u,h5,?_⟩;simp only [RX] at h6 ⊢;obtain ⟨B,base,sh,m,ad,c,e1,e2,e3,e4,e5,e6,e7⟩:=h6;exact ⟨B,base,sh,m,ad,c,e1,e2,e3,e4,e5,(fun k hk=>by cases hk),e7⟩
  ·cases hn
 | false=>
  have ev:cr (fun _ _ _=>none) 0 1 (.cond (.t 4) (.seq (.region [⟨some 2,.nilOwn 2 s,none,[]⟩] [2]) (.ret)) (.skip)) ⟨[(0,.d (.sl s [])),(4,.d (.bool false))],[.hole,.hole,.hole,.hole]⟩=some (.normal,⟨[(0,.d (.sl s [])),(4,.d (.bool false))],[.hole,.hole,.hole,.hole]⟩):=rfl
  refine rp (O:=fun _ _ _=>none) (np:=0) (N:=N) nc hm 1 _ _ ok6 C3 φ3 _ _ a3 .normal k3 hs5 N4 ev _ ?_
  intro C6 φ6 a6 k6 r6 hs6 z6 d6
  have ev2:cr (fun _ _ _=>none) 0 1 (.seq (.region [⟨some 5,.buildSl false 2 s z 0 [],none,[]⟩,⟨some 6,.mv (.t 0),none,[]⟩,⟨some 7,.append s 3 bytes (.t 5) (.t 6),none,[]⟩,⟨some 2,.mv (.t 7),none,[]⟩] [2]) (.ret)) ⟨[(0,.d (.sl s [])),(4,.d (.bool false))],[.hole,.hole,.hole,.hole]⟩=some (.ret,si s):=by
   simp [cr,em,nr,jq,Ins.side,Ins.on,aq,gn,n8,freezeIf,d5,f6,Env.arg,Env.get,Env.putO,Env.kill,Op.kill,toD,hbeq,Env.keep,pa,Env.refd,V.refs,si,Env.clear]
  refine rp (O:=fun _ _ _=>none) (np:=0) (N:=N) nc hm 1 _ _ ok4 C6 φ6 _ _ a6 .ret k6 hs6 (by rw [z6]; exact N4) ev2 _ ?_
  intro C7 φ7 a7 k7 r7 hs7 z7 d7;exact hQ C7 φ7 a7 k7 ((back.trans r6).trans r7) hs7 (z7.trans (z6.trans z4)) (d7.trans (d6.trans d4))
theorem Jc {s:Sh} {z:D} {bytes:Nat} (hm:P.follows .mixedOrders=true) {f:Nat} {g:Func} (hg:P.funcs[num f]? = some g) (hok:Am P num (rq s z bytes) g=true) (hshape:(match g.body with | some x=>ov x | none=>false)=true) (hbeq:Sh.beq s s=true)
 {cs:List D} (hl:cs.length*bytes≤1099511627776) {C:Cx} {φ:Loc} {us:List Value} (hC:C.num=num) (hr:HR C φ []) (hb:∀b,C.I b→b<C.w.heap.size) (hv:RXs C φ [] [.d (.sl s cs)] us) :
 N7 P (num f) us C φ [] [.sl false s cs] (.sl 0 [] 0 cs.length none):=by
 cases cs with
 | cons c cs=>
  have hl':(cs.length+1)*bytes≤1099511627776:=hl
  have hrun:run (fun _ _ _=>none) 1 (rq s z bytes) [.d (.sl s (c::cs))] []=some (.sl 0 [] 0 (c::cs).length none,[],[.sl false s (c::cs)]):=by
   simp [hl',run,rq,Hi,cr,em,nr,jq,Ins.side,Ins.on,aq,gn,n8,freezeIf,d5,f6,Env.arg,Env.get,Env.putO,Env.kill,Op.kill,toD,hbeq,Env.keep,pa,Env.refd,V.refs,Env.clear,params,tr,L0,jf,pn,Heap.pick,V.ren,List.idxOf,List.findIdx,List.findIdx.go]
  exact (E7 Oh hm hg hok hrun hC hr hb hv).2
 | nil=>
  unfold Am at hok;simp only [al,bne_iff_ne,ne_eq,decide_eq_true_eq] at hok;obtain ⟨⟨⟨hname,hnp⟩,hres⟩,hbody⟩:=hok;cases hcode:g.body with
  | none=>rw [hcode] at hbody; cases hbody
  | some code=>
   rw [hcode] at hbody hshape;simp only at hbody hshape;refine (Uq (rq s z bytes) hg hname hnp hres hcode (vs:=[.d (.sl s [])]) (bs:=[]) (ans:=(.sl 0 [] 0 0 none,[],[.sl false s []])) .ret (si s) rfl ?_ (fun C φ a hC hs hN Q hQ=>Ip hm hbody hshape hbeq C φ a hC hs hN Q hQ) hC hr hb hv).2
   simp [rq,si,tr,L0,Env.get,jf,pn,V.refs,Heap.pick,V.ren,List.idxOf,List.findIdx,List.findIdx.go]
def ze (ids:Nat→Option (Sh×D×Nat)):ah:=fun f vs bs=>
 match ids f with
 | some (s,_,bytes)=>match vs with
  | [.d (.sl t cs)]=>match bs with
   | []=>if Sh.beq t s=true∧cs.length*bytes≤1099511627776 then some (.sl 0 [] 0 cs.length none,[],[.sl false t cs]) else none
   | _=>none
  | _=>none
 | none=>none
theorem Qh {ids:Nat→Option (Sh×D×Nat)} {f:Nat} {s:Sh} {z:D} {bytes:Nat} {cs:List D} (h1:ids f=some (s,z,bytes)) (h0:Sh.beq s s=true) (h2:cs.length*bytes≤1099511627776) :
 ze ids f [.d (.sl s cs)] []=some (.sl 0 [] 0 cs.length none,[],[.sl false s cs]):=by
 simp [ze,h1,h0,h2]
theorem Hd {ids:Nat→Option (Sh×D×Nat)} (hm:P.follows .mixedOrders=true)
 (hids:∀f s z bytes,ids f=some (s,z,bytes)→Sh.beq s s=true∧∃g,P.funcs[num f]? = some g∧Am P num (rq s z bytes) g=true∧(match g.body with | some x=>ov x | none=>false)=true):jp P num (ze ids):=by
 intro f vs bs ans h C φ us hC hr hb hv;unfold ze at h
 split at h
 ·rename_i s z bytes hi
  split at h
  ·rename_i t cs
   split at h
   ·split at h
    ·rename_i hc
     obtain rfl:=av h;obtain ⟨hbeq,g,hg,hok,hshape⟩:=hids f s z bytes hi;obtain rfl:=Sh.beq_eq _ _ hc.1;exact ⟨rfl,Jc hm hg hok hshape hbeq hc.2 hC hr hb hv⟩
    ·cases h
   ·cases h
  ·cases h
 ·cases h
end Pe

/-
 Functions of the laws in the small form,printed by a program.
-/
namespace Pe
open Go
def Z1o_L0:Cd:=
 .seq (.seq (.region [Lw 200 36,
 Lw 201 5,
 Ll 202 (.len false (.t 201)),
 Ll 203 (.bin .lss (.t 200) (.t 202))] [3,4,5,9,33,35,36,203])
 (.cond (.t 203)
 (.skip)
 (.exit 0)))
 (.seq (.block 1 (.seq (.region [Lw 207 3,
 Lw 208 5,
 Lw 209 36,
 Ll 210 (.idxA none (.st [Sx6,.leaf]) (.t 208) (.t 209)),
 Ll 211 (.fldA [Sx6,.leaf] (.t 210) 0),
 Ipx 212 211,
 Ll 213 (Ofx Fa [(.t 207),(.t 212)]),
 Lw 206 213,
 Iex 214 206 0,
 Iex 215 206 1,
 Lw 37 214,
 Lw 38 215] [3,4,5,9,33,35,36,37,38])
 (.seq (.region [Lw 217 3,
 Lw 218 5,
 Lw 219 36,
 Ll 220 (.idxA none (.st [Sx6,.leaf]) (.t 218) (.t 219)),
 Ll 221 (.fldA [Sx6,.leaf] (.t 220) 0),
 Ipx 222 221,
 Lw 223 5,
 Lw 224 36,
 Ll 225 (.idxA none (.st [Sx6,.leaf]) (.t 223) (.t 224)),
 Ll 226 (.fldA [Sx6,.leaf] (.t 225) 1),
 Ilx 227 226,
 Ll 228 (Ofx Ff [(.t 217),(.t 222),(.t 227)]),
 Lw 216 228,
 Iex 229 216 0,
 Iex 230 216 1,
 Ll 39 (.box false 3 (.c (.arr 64 .leaf z64))),
 Ls (.store false Sx6 (.t 39) (.t 229)),
 Lw 40 230] [3,4,5,9,33,35,36,37,38,39,40])
 (.seq (.region [Lw 232 3,
 Ipx 233 33,
 Ipx 234 39,
 Ll 235 (Ofx Fc [(.t 232),(.t 233),(.t 234)]),
 Lw 231 235,
 Iex 236 231 0,
 Iex 237 231 1,
 Ll 41 (.box false 4 (.c (.arr 64 .leaf z64))),
 Ls (.store false Sx6 (.t 41) (.t 236)),
 Lw 42 237] [3,4,5,9,33,35,36,37,38,40,41,42])
 (.seq (.seq (.region [Lw 238 38,
 Ll 239 (.bin .neq (.t 238) (Acx 0)),
 Lw 240 239,
 Lx 241 37 240 false,
 Lg 242 (.un .not (.t 241)) 240 false,
 Ll 243 (.pick (.t 240) (.c (.bool true)) (.t 242)),
 Lw 244 243,
 Lx 245 40 244 false,
 Lg 246 (.bin .neq (.t 245) (Acx 0)) 244 false,
 Ll 247 (.pick (.t 244) (.c (.bool true)) (.t 246)),
 Lw 248 247,
 Lx 249 42 248 false,
 Lg 250 (.bin .neq (.t 249) (Acx 0)) 248 false,
 Ll 251 (.pick (.t 248) (.c (.bool true)) (.t 250))] [3,4,5,9,33,35,36,41,251])
 (.cond (.t 251)
 (.seq (.region [Ll 2 (.mv (.c (.bool false)))] [2])
 (.ret))
 (.skip)))
 (.seq (.region [Ipx 252 41,
 Ls (.store false Sx6 (.t 33) (.t 252))] [3,4,5,9,33,35,36])
 (.seq (.seq (.region [Lw 253 5,
 Lw 254 36,
 Ll 255 (.idxA none (.st [Sx6,.leaf]) (.t 253) (.t 254)),
 Ll 256 (.fldA [Sx6,.leaf] (.t 255) 1),
 Ilx 257 256,
 Ll 258 (.bin .gtr (.t 257) (Acx 1))] [3,4,5,9,33,35,36,258])
 (.cond (.t 258)
 (.region [Ll 35 (.mv (Acx 0))] [3,4,5,9,33,35,36])
 (.skip)))
 (.region [Lw 259 35,
 Ll 260 (.un .neg (.t 259)),
 Lw 35 260] [3,4,5,9,33,35,36]))))))))
 (.region [Lw 204 36,
 Ll 205 (.bin .add (.t 204) (Acx 1)),
 Lw 36 205] [3,4,5,9,33,35,36]))
def Z1o_B:Cd:=
 .seq (.region [Ll 2 (.mv (.c (.bool false)))] [0])
 (.seq (.seq (.region [Lw 48 0,
 Ll 49 (Ofx F1p [(.t 48)])] [0,49])
 (.cond (.t 49)
 (.seq (.region [Ll 2 (.mv (.c (.bool true)))] [2])
 (.ret))
 (.skip)))
 (.seq (.region [Lw 51 0,
 Ll 52 (Ofx F2k [(.t 51)]),
 Lw 50 52,
 Iex 53 50 0,
 Iex 54 50 1,
 Ll 4 (.box false 0 (.c (.arr 64 .leaf z64))),
 Lw 3 53,
 Ls (.store false Sx6 (.t 4) (.t 54))] [0,3,4])
 (.seq (.region [Lw 56 3,
 Ipx 57 4,
 Ll 58 (Opx F7 [(.t 56),(.t 57)]),
 Lw 55 58,
 Iex 59 55 0,
 Iex 60 55 1,
 Lw 5 59,
 Lw 6 60] [0,3,4,5,6])
 (.seq (.seq (.region [Lw 62 3,
 Ipx 63 4,
 Ll 64 (Opx F2n [(.t 62),(.t 63)]),
 Lw 61 64,
 Iex 65 61 0,
 Iex 66 61 1,
 Lw 7 65,
 Lw 8 66] [0,3,4,5,6,7,8])
 (.seq (.region [Lw 67 6,
 Lw 68 8,
 Ll 69 (.bin .neq (.t 67) (.t 68)),
 Lw 70 69,
 Lx 71 5 70 false,
 Lx 72 7 70 false,
 Lg 73 (Ofx F1q [(.t 71),(.t 72)]) 70 false,
 Lg 74 (.un .not (.t 73)) 70 false,
 Ll 75 (.pick (.t 70) (.c (.bool true)) (.t 74))] [0,3,4,5,6,75])
 (.cond (.t 75)
 (.seq (.region [Ll 2 (.mv (.c (.bool false)))] [2])
 (.ret))
 (.skip))))
 (.seq (.region [Lw 77 3,
 Ipx 78 4,
 Ll 79 (Ofx Fb [(.t 77),(.t 78)]),
 Lw 76 79,
 Iex 80 76 0,
 Iex 81 76 1,
 Lw 9 80,
 Lw 10 81] [0,3,4,5,6,9,10])
 (.seq (.seq (.region [Lw 83 3,
 Ipx 84 4,
 Ll 85 (Ofx F2q [(.t 83),(.t 84)]),
 Lw 82 85,
 Iex 86 82 0,
 Iex 87 82 1,
 Lw 11 86,
 Lw 12 87] [0,3,4,5,6,9,10,11,12])
 (.seq (.region [Lw 88 10,
 Lw 89 12,
 Ll 90 (.bin .neq (.t 88) (.t 89)),
 Lw 91 90,
 Lx 92 9 91 false,
 Lx 93 11 91 false,
 Lg 94 (.bin .neq (.t 92) (.t 93)) 91 false,
 Ll 95 (.pick (.t 91) (.c (.bool true)) (.t 94))] [0,3,4,5,6,9,95])
 (.cond (.t 95)
 (.seq (.region [Ll 2 (.mv (.c (.bool false)))] [2])
 (.ret))
 (.skip))))
 (.seq (.region [Lw 97 0,
 Ll 98 (Ofx F2l [(.t 97)]),
 Lw 96 98,
 Iex 99 96 0,
 Iex 100 96 1,
 Lw 13 99,
 Lw 14 100] [0,3,4,5,6,9,13,14])
 (.seq (.region [Lw 102 13,
 Lw 103 14,
 Ll 104 (Opx F8 [(.t 102),(.t 103)]),
 Lw 101 104,
 Iex 105 101 0,
 Iex 106 101 1,
 Lw 15 105,
 Lw 16 106] [0,3,4,5,6,9,13,14,15,16])
 (.seq (.seq (.region [Lw 108 13,
 Lw 109 14,
 Ll 110 (Opx F2o [(.t 108),(.t 109)]),
 Lw 107 110,
 Iex 111 107 0,
 Iex 112 107 1,
 Lw 17 111,
 Lw 18 112] [0,3,4,5,6,9,13,14,15,16,17,18])
 (.seq (.region [Lw 113 16,
 Lw 114 18,
 Ll 115 (.bin .neq (.t 113) (.t 114)),
 Lw 116 115,
 Lx 117 15 116 false,
 Lx 118 17 116 false,
 Lg 119 (Ofx F1r [(.t 117),(.t 118)]) 116 false,
 Lg 120 (.un .not (.t 119)) 116 false,
 Ll 121 (.pick (.t 116) (.c (.bool true)) (.t 120))] [0,3,4,5,6,9,13,14,15,16,121])
 (.cond (.t 121)
 (.seq (.region [Ll 2 (.mv (.c (.bool false)))] [2])
 (.ret))
 (.skip))))
 (.seq (.region [Lw 123 0,
 Ll 124 (Ofx F2j [(.t 123)]),
 Lw 122 124,
 Iex 125 122 0,
 Iex 126 122 1,
 Lw 19 125,
 Lw 20 126] [0,3,4,5,6,9,13,14,15,16,19,20])
 (.seq (.region [Lw 128 19,
 Lw 129 20,
 Ll 130 (Ofx F5 [(.t 128),(.t 129)]),
 Lw 127 130,
 Iex 131 127 0,
 Iex 132 127 1,
 Lw 21 131,
 Lw 22 132] [0,3,4,5,6,9,13,14,15,16,19,20,21,22])
 (.seq (.seq (.region [Lw 134 19,
 Lw 135 20,
 Ll 136 (Ofx F2i [(.t 134),(.t 135)]),
 Lw 133 136,
 Iex 137 133 0,
 Iex 138 133 1,
 Lw 23 137,
 Lw 24 138] [0,3,4,5,6,9,13,14,15,16,21,22,23,24])
 (.seq (.region [Lw 139 22,
 Lw 140 24,
 Ll 141 (.bin .neq (.t 139) (.t 140)),
 Lw 142 141,
 Lx 143 21 142 false,
 Lx 144 23 142 false,
 Lg 145 (.bin .neq (.t 143) (.t 144)) 142 false,
 Ll 146 (.pick (.t 142) (.c (.bool true)) (.t 145))] [0,3,4,5,6,9,13,14,15,16,146])
 (.cond (.t 146)
 (.seq (.region [Ll 2 (.mv (.c (.bool false)))] [2])
 (.ret))
 (.skip))))
 (.seq (.region [Lw 148 0,
 Ll 149 (Ofx F2m [(.t 148)]),
 Lw 147 149,
 Iex 150 147 0,
 Iex 151 147 1,
 Ll 26 (.box false 1 (.c (.arr 64 .leaf z64))),
 Lw 25 150,
 Ls (.store false Sx6 (.t 26) (.t 151))] [3,4,5,6,9,13,14,15,16,25,26])
 (.seq (.region [Lw 153 25,
 Ipx 154 26,
 Ll 155 (Ofx Fa [(.t 153),(.t 154)]),
 Lw 152 155,
 Iex 156 152 0,
 Iex 157 152 1,
 Lw 27 156,
 Lw 28 157] [3,4,5,6,9,13,14,15,16,25,26,27,28])
 (.seq (.seq (.region [Lw 159 25,
 Ipx 160 26,
 Ll 161 (Ofx F2p [(.t 159),(.t 160)]),
 Lw 158 161,
 Iex 162 158 0,
 Iex 163 158 1,
 Lw 29 162,
 Lw 30 163] [3,4,5,6,9,13,14,15,16,27,28,29,30])
 (.seq (.region [Lw 164 28,
 Lw 165 30,
 Ll 166 (.bin .neq (.t 164) (.t 165)),
 Lw 167 166,
 Lx 168 27 167 false,
 Lx 169 29 167 false,
 Lg 170 (.eqv true .bool (.t 168) (.t 169)) 167 false,
 Ll 171 (.pick (.t 167) (.c (.bool true)) (.t 170))] [3,4,5,6,9,13,14,15,16,171])
 (.cond (.t 171)
 (.seq (.region [Ll 2 (.mv (.c (.bool false)))] [2])
 (.ret))
 (.skip))))
 (.seq (.seq (.region [Lw 172 16,
 Ll 173 (.bin .eql (.t 172) (Acx 0))] [3,4,5,6,9,13,14,15,173])
 (.cond (.t 173)
 (.seq (.region [Lw 175 13,
 Lw 176 14,
 Ll 177 (Ofx F5 [(.t 175),(.t 176)]),
 Lw 174 177,
 Iex 178 174 0,
 Iex 179 174 1,
 Lw 31 178,
 Lw 32 179] [3,4,5,6,9,15,31,32])
 (.seq (.region [Lw 180 32,
 Ll 181 (.bin .neq (.t 180) (Acx 0)),
 Lw 182 181,
 Lx 183 31 182 false,
 Lx 184 15 182 false,
 Lg 185 (.len false (.t 184)) 182 false,
 Lg 186 (.bin .neq (.t 183) (.t 185)) 182 false,
 Ll 187 (.pick (.t 182) (.c (.bool true)) (.t 186))] [3,4,5,6,9,187])
 (.cond (.t 187)
 (.seq (.region [Ll 2 (.mv (.c (.bool false)))] [2])
 (.ret))
 (.skip))))
 (.skip)))
 (.seq (.seq (.region [Lw 188 6,
 Ll 189 (.bin .neq (.t 188) (Acx 0))] [3,4,5,9,189])
 (.cond (.t 189)
 (.seq (.region [Lw 190 5,
 Ll 191 (.len false (.t 190)),
 Ll 192 (.bin .eql (.t 191) (Acx 0)),
 Lw 2 192] [2])
 (.ret))
 (.skip)))
 (.seq (.region [Lw 194 3,
 Ll 195 (Ofx Fe [(.t 194),(Acx 1)]),
 Lw 193 195,
 Iex 196 193 0,
 Iex 197 193 1,
 Ll 33 (.box false 2 (.c (.arr 64 .leaf z64))),
 Ls (.store false Sx6 (.t 33) (.t 196)),
 Lw 34 197] [3,4,5,9,33,34])
 (.seq (.region [Ll 35 (.mv (Acx 1))] [3,4,5,9,33,34,35])
 (.seq (.seq (.region [Lw 198 34,
 Ll 199 (.bin .neq (.t 198) (Acx 0))] [3,4,5,9,33,35,199])
 (.cond (.t 199)
 (.seq (.region [Ll 2 (.mv (.c (.bool false)))] [2])
 (.ret))
 (.skip)))
 (.seq (.seq (.region [Ll 36 (.mv (Acx 0))] [3,4,5,9,33,35,36])
 (.block 0 (.loop (Z1o_L0))))
 (.seq (.region [Lw 262 3,
 Ipx 263 4,
 Ll 264 (Ofx F6 [(.t 262),(.t 263)]),
 Lw 261 264,
 Iex 265 261 0,
 Iex 266 261 1,
 Lw 43 265,
 Lw 44 266] [3,4,9,33,35,43,44])
 (.seq (.seq (.region [Lw 267 44,
 Ll 268 (.bin .neq (.t 267) (Acx 0)),
 Lw 269 268,
 Lx 270 9 269 false,
 Lx 271 35 269 false,
 Lg 272 (.bin .neq (.t 270) (.t 271)) 269 false,
 Ll 273 (.pick (.t 269) (.c (.bool true)) (.t 272))] [3,4,33,43,273])
 (.cond (.t 273)
 (.seq (.region [Ll 2 (.mv (.c (.bool false)))] [2])
 (.ret))
 (.skip)))
 (.seq (.region [Lw 274 43,
 Ll 275 (.idxA (some 64) .leaf (.t 4) (.t 274)),
 Ilx 276 275,
 Ll 277 (.build false (.arr 64 .leaf z64) [(0,(.t 276))]),
 Ll 45 (.box false 5 (.c (.arr 64 .leaf z64))),
 Ls (.store false Sx6 (.t 45) (.t 277))] [3,4,33,45])
 (.seq (.region [Lw 279 3,
 Ipx 280 33,
 Ipx 281 45,
 Ll 282 (Ofx Fc [(.t 279),(.t 280),(.t 281)]),
 Lw 278 282,
 Iex 283 278 0,
 Iex 284 278 1,
 Ll 46 (.box false 6 (.c (.arr 64 .leaf z64))),
 Ls (.store false Sx6 (.t 46) (.t 283)),
 Lw 47 284] [4,46,47])
 (.seq (.region [Lw 285 47,
 Ll 286 (.bin .eql (.t 285) (Acx 0)),
 Lw 287 286,
 Lg 288 (.load Sx6 (.t 46)) 287 true,
 Lg 289 (.load Sx6 (.t 4)) 287 true,
 Lg 290 (.eqv false (.arr 64 .leaf .int) (.t 288) (.t 289)) 287 true,
 Ll 291 (.pick (.t 287) (.t 290) (.c (.bool false))),
 Lw 2 291] [2])
 (.ret)))))))))))))))))))))))))))
def Z1o:Fn:=
 { nparams:=1,nblk:=7,results:=[.tmp 2],body:=Z1o_B }
def Z1q_L0:Cd:=
 .seq (.seq (.region [Lw 11 5,
 Lw 12 0,
 Ll 13 (.len false (.t 12)),
 Ll 14 (.bin .lss (.t 11) (.t 13))] [0,1,5,14])
 (.cond (.t 14)
 (.skip)
 (.exit 0)))
 (.seq (.block 1 (.seq (.region [Lw 17 0,
 Lw 18 5,
 Ll 19 (.idxA none (.st [Sx6,.leaf]) (.t 17) (.t 18)),
 Ll 20 (.load (.st [Sx6,.leaf]) (.t 19)),
 Lw 21 1,
 Lw 22 5,
 Ll 23 (.idxA none (.st [Sx6,.leaf]) (.t 21) (.t 22)),
 Ll 24 (.load (.st [Sx6,.leaf]) (.t 23)),
 Ll 25 (.eqv true (.st [Sx6,.leaf] [(.arr 64 .leaf .int),.int]) (.t 20) (.t 24))] [0,1,5,25])
 (.cond (.t 25)
 (.seq (.region [Ll 4 (.mv (.c (.bool false)))] [4])
 (.ret))
 (.skip))))
 (.region [Lw 15 5,
 Ll 16 (.bin .add (.t 15) (Acx 1)),
 Lw 5 16] [0,1,5]))
def Z1q_B:Cd:=
 .seq (.region [Ll 4 (.mv (.c (.bool false)))] [0,1])
 (.seq (.seq (.region [Lw 6 0,
 Ll 7 (.len false (.t 6)),
 Lw 8 1,
 Ll 9 (.len false (.t 8)),
 Ll 10 (.bin .neq (.t 7) (.t 9))] [0,1,10])
 (.cond (.t 10)
 (.seq (.region [Ll 4 (.mv (.c (.bool false)))] [4])
 (.ret))
 (.skip)))
 (.seq (.seq (.region [Ll 5 (.mv (Acx 0))] [0,1,5])
 (.block 0 (.loop (Z1q_L0))))
 (.seq (.region [Ll 4 (.mv (.c (.bool true)))] [4])
 (.ret))))
def Z1q:Fn:=
 { nparams:=2,nblk:=0,results:=[.tmp 4],body:=Z1q_B }
end Pe

/-
 Functions of the laws in the small form,printed by a program.
-/
namespace Pe
open Go
def Z1p_B:Cd:=
 .seq (.region [Ll 2 (.mv (.c (.bool false)))] [0])
 (.seq (.region [Lw 3 0,
 Ll 4 (.len false (.t 3)),
 Ll 5 (.bin .gtr (.t 4) (Acx 4096)),
 Lw 2 5] [2])
 (.ret))
def Z1p:Fn:=
 { nparams:=1,nblk:=0,results:=[.tmp 2],body:=Z1p_B }
end Pe

/-
 Functions of the laws in the small form,printed by a program.
-/
namespace Pe
open Go
def Z1r_L0:Cd:=
 .seq (.seq (.region [Lw 11 5,
 Lw 12 0,
 Ll 13 (.len false (.t 12)),
 Ll 14 (.bin .lss (.t 11) (.t 13))] [0,1,5,14])
 (.cond (.t 14)
 (.skip)
 (.exit 0)))
 (.seq (.block 1 (.seq (.region [Lw 17 0,
 Lw 18 5,
 Ll 19 (.idxA none Sx6 (.t 17) (.t 18)),
 Ipx 20 19,
 Lw 21 1,
 Lw 22 5,
 Ll 23 (.idxA none Sx6 (.t 21) (.t 22)),
 Ipx 24 23,
 Ll 25 (.eqv true (.arr 64 .leaf .int) (.t 20) (.t 24))] [0,1,5,25])
 (.cond (.t 25)
 (.seq (.region [Ll 4 (.mv (.c (.bool false)))] [4])
 (.ret))
 (.skip))))
 (.region [Lw 15 5,
 Ll 16 (.bin .add (.t 15) (Acx 1)),
 Lw 5 16] [0,1,5]))
def Z1r_B:Cd:=
 .seq (.region [Ll 4 (.mv (.c (.bool false)))] [0,1])
 (.seq (.seq (.region [Lw 6 0,
 Ll 7 (.len false (.t 6)),
 Lw 8 1,
 Ll 9 (.len false (.t 8)),
 Ll 10 (.bin .neq (.t 7) (.t 9))] [0,1,10])
 (.cond (.t 10)
 (.seq (.region [Ll 4 (.mv (.c (.bool false)))] [4])
 (.ret))
 (.skip)))
 (.seq (.seq (.region [Ll 5 (.mv (Acx 0))] [0,1,5])
 (.block 0 (.loop (Z1r_L0))))
 (.seq (.region [Ll 4 (.mv (.c (.bool true)))] [4])
 (.ret))))
def Z1r:Fn:=
 { nparams:=2,nblk:=0,results:=[.tmp 4],body:=Z1r_B }
end Pe

/-
 Functions of the program in the small form,printed by a program.
-/
namespace Pe
open Go
def Z2w_L0:Cd:=
 .seq (.seq (.region [Lw 4 3,
 Ll 5 (.bin .geq (.t 4) (Acx 0)),
 Lw 6 5,
 Lx 7 3 6 true,
 Lg 8 (.idxA (some 64) .leaf (.t 1) (.t 7)) 6 true,
 Lg 9 (.load .leaf (.t 8)) 6 true,
 Lg 10 (.bin .eql (.t 9) (.c (.int .u8 0))) 6 true,
 Ll 11 (.pick (.t 6) (.t 10) (.c (.bool false)))] [1,3,11])
 (.cond (.t 11)
 (.skip)
 (.exit 0)))
 (.block 1 (.region [Lw 12 3,
 Ll 13 (.bin .sub (.t 12) (Acx 1)),
 Lw 3 13] [1,3]))
def Z2w_B:Cd:=
 .seq (.region [Ll 1 (.box false 0 (.t 0)),
 Ll 2 (.mv (Acx 0))] [1])
 (.seq (.region [Ll 3 (.mv (Acx 63))] [1,3])
 (.seq (.block 0 (.loop (Z2w_L0)))
 (.seq (.region [Lw 14 3,
 Lw 2 14] [2])
 (.ret))))
def Z2w:Fn:=
 { nparams:=1,nblk:=1,results:=[.tmp 2],body:=Z2w_B }
def Z33_B:Cd:=
 .seq (.region [Ll 6 (.mv (.c (.bool false)))] [0,1,2])
 (.seq (.region [Lw 7 0,
 Lw 8 1,
 Ll 9 (.bin .geq (.t 7) (.t 8)),
 Lw 10 9,
 Lx 11 0 10 true,
 Lx 12 2 10 true,
 Lg 13 (.bin .leq (.t 11) (.t 12)) 10 true,
 Ll 14 (.pick (.t 10) (.t 13) (.c (.bool false))),
 Lw 6 14] [6])
 (.ret))
def Z33:Fn:=
 { nparams:=3,nblk:=0,results:=[.tmp 6],body:=Z33_B }
def Z3g_B:Cd:=
 .seq (.region [Ll 2 (.mv (.c (.bool false)))] [0])
 (.seq (.region [Lw 3 0,
 Ll 4 (.bin .eql (.t 3) (Acx 2)),
 Lw 5 4,
 Lx 6 0 5 false,
 Lg 7 (.bin .eql (.t 6) (Acx 3)) 5 false,
 Ll 8 (.pick (.t 5) (.c (.bool true)) (.t 7)),
 Lw 9 8,
 Lx 10 0 9 false,
 Lg 11 (.bin .eql (.t 10) (Acx 5)) 9 false,
 Ll 12 (.pick (.t 9) (.c (.bool true)) (.t 11)),
 Lw 13 12,
 Lx 14 0 13 false,
 Lg 15 (.bin .eql (.t 14) (Acx 7)) 13 false,
 Ll 16 (.pick (.t 13) (.c (.bool true)) (.t 15)),
 Lw 2 16] [2])
 (.ret))
def Z3g:Fn:=
 { nparams:=1,nblk:=0,results:=[.tmp 2],body:=Z3g_B }
def Z36_L0:Cd:=
 .seq (.seq (.region [Lw 6 5,
 Ll 7 (.bin .lss (.t 6) (Acx 64))] [0,3,5,7])
 (.cond (.t 7)
 (.skip)
 (.exit 0)))
 (.seq (.block 1 (.seq (.region [Lw 10 5,
 Ll 11 (.idxA (some 64) .leaf (.t 3) (.t 10)),
 Ilx 12 11,
 Ll 13 (.conv .i64 (.t 12)),
 Lw 14 0,
 Ll 15 (.bin .geq (.t 13) (.t 14))] [0,3,5,15])
 (.cond (.t 15)
 (.seq (.region [Ll 4 (.mv (.c (.bool false)))] [4])
 (.ret))
 (.skip))))
 (.region [Lw 8 5,
 Ll 9 (.bin .add (.t 8) (Acx 1)),
 Lw 5 9] [0,3,5]))
def Z36_B:Cd:=
 .seq (.region [Ll 3 (.box false 0 (.t 1)),
 Ll 4 (.mv (.c (.bool false)))] [0,3])
 (.seq (.seq (.region [Ll 5 (.mv (Acx 0))] [0,3,5])
 (.block 0 (.loop (Z36_L0))))
 (.seq (.region [Lw 16 0,
 Ll 17 (Ofx F3g [(.t 16)]),
 Lw 4 17] [4])
 (.ret)))
def Z36:Fn:=
 { nparams:=2,nblk:=1,results:=[.tmp 4],body:=Z36_B }
def Z2u_L0:Cd:=
 .seq (.seq (.region [Lw 9 5,
 Lw 10 1,
 Ll 11 (.len false (.t 10)),
 Ll 12 (.bin .lss (.t 9) (.t 11))] [0,1,5,12])
 (.cond (.t 12)
 (.skip)
 (.exit 0)))
 (.seq (.block 1 (.seq (.region [Lw 15 0,
 Lw 16 1,
 Lw 17 5,
 Ll 18 (.idxA none Sx6 (.t 16) (.t 17)),
 Ipx 19 18,
 Ll 20 (Ofx F36 [(.t 15),(.t 19)]),
 Ll 21 (.un .not (.t 20))] [0,1,5,21])
 (.cond (.t 21)
 (.seq (.region [Ll 4 (.mv (Acx 1))] [4])
 (.ret))
 (.skip))))
 (.region [Lw 13 5,
 Ll 14 (.bin .add (.t 13) (Acx 1)),
 Lw 5 14] [0,1,5]))
def Z2u_B:Cd:=
 .seq (.region [Ll 4 (.mv (Acx 0))] [0,1])
 (.seq (.seq (.region [Lw 6 0,
 Ll 7 (Ofx F3g [(.t 6)]),
 Ll 8 (.un .not (.t 7))] [0,1,8])
 (.cond (.t 8)
 (.seq (.region [Ll 4 (.mv (Acx 1))] [4])
 (.ret))
 (.skip)))
 (.seq (.seq (.region [Ll 5 (.mv (Acx 0))] [0,1,5])
 (.block 0 (.loop (Z2u_L0))))
 (.seq (.region [Ll 4 (.mv (Acx 0))] [4])
 (.ret))))
def Z2u:Fn:=
 { nparams:=2,nblk:=0,results:=[.tmp 4],body:=Z2u_B }
def Z38_B:Cd:=
 .seq (.region [Ll 1 (.box false 0 (.t 0)),
 Ll 2 (.mv (.c (.bool false)))] [1])
 (.seq (.region [Ipx 4 1,
 Ll 5 (Ofx F2w [(.t 4)]),
 Lw 3 5] [1,3])
 (.seq (.region [Lw 6 3,
 Ll 7 (.bin .geq (.t 6) (Acx 0)),
 Lw 8 7,
 Lx 9 3 8 true,
 Lg 10 (.idxA (some 64) .leaf (.t 1) (.t 9)) 8 true,
 Lg 11 (.load .leaf (.t 10)) 8 true,
 Lg 12 (.bin .eql (.t 11) (.c (.int .u8 1))) 8 true,
 Ll 13 (.pick (.t 8) (.t 12) (.c (.bool false))),
 Lw 2 13] [2])
 (.ret)))
def Z38:Fn:=
 { nparams:=1,nblk:=1,results:=[.tmp 2],body:=Z38_B }
def Z2v_L0:Cd:=
 .seq (.seq (.region [Lw 6 1,
 Ll 7 (.bin .gtr (.t 6) (Acx 0)),
 Lw 8 7,
 Lx 9 5 8 true,
 Lg 10 (.bin .leq (.t 9) (Acx 1000000000000)) 8 true,
 Ll 11 (.pick (.t 8) (.t 10) (.c (.bool false)))] [0,1,5,11])
 (.cond (.t 11)
 (.skip)
 (.exit 0)))
 (.seq (.block 1 (.region [Lw 14 5,
 Lw 15 0,
 Ll 16 (.bin .mul (.t 14) (.t 15)),
 Lw 5 16] [0,1,5]))
 (.region [Lw 12 1,
 Ll 13 (.bin .sub (.t 12) (Acx 1)),
 Lw 1 13] [0,1,5]))
def Z2v_B:Cd:=
 .seq (.region [Ll 4 (.mv (Acx 0))] [0,1])
 (.seq (.region [Ll 5 (.mv (Acx 1))] [0,1,5])
 (.seq (.block 0 (.loop (Z2v_L0)))
 (.seq (.region [Lw 17 5,
 Ll 18 (.minI (.t 17) (Acx 1000000000001)),
 Lw 4 18] [4])
 (.ret))))
def Z2v:Fn:=
 { nparams:=2,nblk:=0,results:=[.tmp 4],body:=Z2v_B }
def Z34_L0:Cd:=
 .seq (.seq (.region [Lw 6 5,
 Lw 7 0,
 Ll 8 (.bin .lss (.t 6) (.t 7))] [0,1,5,8])
 (.cond (.t 8)
 (.skip)
 (.exit 0)))
 (.seq (.block 1 (.seq (.region [Lw 11 5,
 Lw 12 1,
 Ll 13 (.conv .i64 (.t 12)),
 Ll 14 (.bin .mul (.t 11) (.t 13)),
 Lw 15 0,
 Ll 16 (.bin .rem (.t 14) (.t 15)),
 Ll 17 (.bin .eql (.t 16) (Acx 1))] [0,1,5,17])
 (.cond (.t 17)
 (.seq (.region [Lw 18 5,
 Ll 19 (.conv .u8 (.t 18)),
 Lw 4 19] [4])
 (.ret))
 (.skip))))
 (.region [Lw 9 5,
 Ll 10 (.bin .add (.t 9) (Acx 1)),
 Lw 5 10] [0,1,5]))
def Z34_B:Cd:=
 .seq (.region [Ll 4 (.mv (.c (.int .u8 0)))] [0,1])
 (.seq (.seq (.region [Ll 5 (.mv (Acx 1))] [0,1,5])
 (.block 0 (.loop (Z34_L0))))
 (.seq (.region [Ll 4 (.mv (.c (.int .u8 0)))] [4])
 (.ret)))
def Z34:Fn:=
 { nparams:=2,nblk:=0,results:=[.tmp 4],body:=Z34_B }
def Z2x_L0:Cd:=
 .seq (.seq (.region [Lw 44 13,
 Lw 45 9,
 Ll 46 (.bin .leq (.t 44) (.t 45)),
 Lw 47 46,
 Lx 48 12 47 true,
 Lg 49 (.bin .neq (.t 48) (Acx 0)) 47 true,
 Ll 50 (.pick (.t 47) (.t 49) (.c (.bool false)))] [0,4,5,6,7,8,9,10,11,12,13,50])
 (.cond (.t 50)
 (.skip)
 (.exit 2)))
 (.seq (.block 3 (.region [Lw 53 11,
 Lw 54 9,
 Ll 55 (.bin .sub (.t 53) (.t 54)),
 Lw 56 13,
 Ll 57 (.bin .add (.t 55) (.t 56)),
 Lw 58 11,
 Lw 59 9,
 Ll 60 (.bin .sub (.t 58) (.t 59)),
 Lw 61 13,
 Ll 62 (.bin .add (.t 60) (.t 61)),
 Ll 63 (.idxA (some 64) .leaf (.t 4) (.t 62)),
 Ilx 64 63,
 Ll 65 (.conv .i64 (.t 64)),
 Lw 66 12,
 Lw 67 13,
 Ll 68 (.idxA (some 64) .leaf (.t 5) (.t 67)),
 Ilx 69 68,
 Ll 70 (.conv .i64 (.t 69)),
 Ll 71 (.bin .mul (.t 66) (.t 70)),
 Ll 72 (.bin .sub (.t 65) (.t 71)),
 Lw 73 0,
 Ll 74 (.bin .rem (.t 72) (.t 73)),
 Lw 75 0,
 Ll 76 (.bin .add (.t 74) (.t 75)),
 Lw 77 0,
 Ll 78 (.bin .rem (.t 76) (.t 77)),
 Ll 79 (.conv .u8 (.t 78)),
 Ll 80 (.idxA (some 64) .leaf (.t 4) (.t 57)),
 Ls (.store false .leaf (.t 80) (.t 79))] [0,4,5,6,7,8,9,10,11,12,13]))
 (.region [Lw 51 13,
 Ll 52 (.bin .add (.t 51) (Acx 1)),
 Lw 13 52] [0,4,5,6,7,8,9,10,11,12,13]))
def Z2x_L1:Cd:=
 .seq (.seq (.region [Lw 25 11,
 Lw 26 9,
 Ll 27 (.bin .geq (.t 25) (.t 26))] [0,4,5,6,7,8,9,10,11,27])
 (.cond (.t 27)
 (.skip)
 (.exit 0)))
 (.seq (.block 1 (.seq (.region [Lw 30 11,
 Ll 31 (.idxA (some 64) .leaf (.t 4) (.t 30)),
 Ilx 32 31,
 Ll 33 (.conv .i64 (.t 32)),
 Lw 34 10,
 Ll 35 (.bin .mul (.t 33) (.t 34)),
 Lw 36 0,
 Ll 37 (.bin .rem (.t 35) (.t 36)),
 Lw 12 37] [0,4,5,6,7,8,9,10,11,12])
 (.seq (.region [Lw 38 11,
 Lw 39 9,
 Ll 40 (.bin .sub (.t 38) (.t 39)),
 Lw 41 12,
 Ll 42 (.conv .u8 (.t 41)),
 Ll 43 (.idxA (some 64) .leaf (.t 8) (.t 40)),
 Ls (.store false .leaf (.t 43) (.t 42))] [0,4,5,6,7,8,9,10,11,12])
 (.seq (.region [Ll 13 (.mv (Acx 0))] [0,4,5,6,7,8,9,10,11,12,13])
 (.block 2 (.loop (Z2x_L0)))))))
 (.region [Lw 28 11,
 Ll 29 (.bin .sub (.t 28) (Acx 1)),
 Lw 11 29] [0,4,5,6,7,8,9,10,11]))
def Z2x_B:Cd:=
 .seq (.region [Ll 4 (.box false 0 (.t 1)),
 Ll 5 (.box false 1 (.t 2)),
 Ll 6 (.box false 2 (.c (.arr 64 .leaf z64))),
 Ll 7 (.box false 3 (.c (.arr 64 .leaf z64)))] [0,4,5,6,7])
 (.seq (.region [Ll 14 (.build false (.arr 64 .leaf z64) []),
 Ipx 15 5,
 Ll 16 (Ofx F2w [(.t 15)]),
 Ll 8 (.box false 4 (.c (.arr 64 .leaf z64))),
 Ls (.store false Sx6 (.t 8) (.t 14)),
 Lw 9 16] [0,4,5,6,7,8,9])
 (.seq (.region [Lw 17 0,
 Lw 18 9,
 Ll 19 (.idxA (some 64) .leaf (.t 5) (.t 18)),
 Ilx 20 19,
 Ll 21 (Ofx F34 [(.t 17),(.t 20)]),
 Ll 22 (.conv .i64 (.t 21)),
 Lw 10 22] [0,4,5,6,7,8,9,10])
 (.seq (.seq (.region [Ipx 23 4,
 Ll 24 (Ofx F2w [(.t 23)]),
 Lw 11 24] [0,4,5,6,7,8,9,10,11])
 (.block 0 (.loop (Z2x_L1))))
 (.seq (.region [Ipx 81 8,
 Ipx 82 4,
 ⟨none,.store false Sx6 (.t 6) (.t 81),none,[4]⟩,
 Ls (.store false Sx6 (.t 7) (.t 82))] [6,7])
 (.ret)))))
def Z2x:Fn:=
 { nparams:=3,nblk:=5,results:=[.cell 6 Sx6,.cell 7 Sx6],body:=Z2x_B }
def Z37_B:Cd:=
 .seq (.region [Ll 4 (.box false 0 (.t 1)),
 Ll 5 (.box false 1 (.t 2)),
 Ll 6 (.box false 2 (.c (.arr 64 .leaf z64)))] [0,4,5,6])
 (.seq (.region [Lw 10 0,
 Ipx 11 4,
 Ipx 12 5,
 Ll 13 (Ofx F2x [(.t 10),(.t 11),(.t 12)]),
 Lw 9 13,
 Iex 14 9 0,
 Iex 15 9 1,
 Ll 7 (.box false 3 (.c (.arr 64 .leaf z64))),
 Ll 8 (.box false 4 (.c (.arr 64 .leaf z64))),
 Ls (.store false Sx6 (.t 7) (.t 14)),
 Ls (.store false Sx6 (.t 8) (.t 15))] [6,8])
 (.seq (.region [Ipx 16 8,
 Ls (.store false Sx6 (.t 6) (.t 16))] [6])
 (.ret)))
def Z37:Fn:=
 { nparams:=3,nblk:=5,results:=[.cell 6 Sx6],body:=Z37_B }
def Z3d_B:Cd:=
 .seq (.region [Ll 0 (.box false 0 (.c (.arr 64 .leaf z64)))] [0])
 (.seq (.region [Ll 1 (.build false (.arr 64 .leaf z64) [(0,(.c (.int .u8 1)))]),
 Ls (.store false Sx6 (.t 0) (.t 1))] [0])
 (.ret))
def Z3d:Fn:=
 { nparams:=0,nblk:=1,results:=[.cell 0 Sx6],body:=Z3d_B }
def Z2r_L0:Cd:=
 .seq (.seq (.region [Lw 10 9,
 Ll 11 (.bin .lss (.t 10) (Acx 64))] [0,3,5,6,8,9,11])
 (.cond (.t 11)
 (.skip)
 (.exit 0)))
 (.seq (.block 1 (.region [Lw 14 9,
 Lw 15 9,
 Ll 16 (.idxA (some 64) .leaf (.t 5) (.t 15)),
 Ilx 17 16,
 Ll 18 (.conv .i64 (.t 17)),
 Lw 19 3,
 Lw 20 9,
 Ll 21 (.idxA (some 64) .leaf (.t 6) (.t 20)),
 Ilx 22 21,
 Ll 23 (.conv .i64 (.t 22)),
 Ll 24 (.bin .mul (.t 19) (.t 23)),
 Ll 25 (.bin .add (.t 18) (.t 24)),
 Lw 26 0,
 Ll 27 (.bin .rem (.t 25) (.t 26)),
 Lw 28 0,
 Ll 29 (.bin .add (.t 27) (.t 28)),
 Lw 30 0,
 Ll 31 (.bin .rem (.t 29) (.t 30)),
 Ll 32 (.conv .u8 (.t 31)),
 Ll 33 (.idxA (some 64) .leaf (.t 5) (.t 14)),
 Ls (.store false .leaf (.t 33) (.t 32))] [0,3,5,6,8,9]))
 (.region [Lw 12 9,
 Ll 13 (.bin .add (.t 12) (Acx 1)),
 Lw 9 13] [0,3,5,6,8,9]))
def Z2r_B:Cd:=
 .seq (.region [Ll 5 (.box false 0 (.t 1)),
 Ll 6 (.box false 1 (.t 2)),
 Ll 8 (.box false 2 (.c (.arr 64 .leaf z64)))] [0,3,5,6,8])
 (.seq (.seq (.region [Ll 9 (.mv (Acx 0))] [0,3,5,6,8,9])
 (.block 0 (.loop (Z2r_L0))))
 (.seq (.region [Ipx 34 5,
 Ls (.store false Sx6 (.t 8) (.t 34))] [8])
 (.ret)))
def Z2r:Fn:=
 { nparams:=4,nblk:=3,results:=[.cell 8 Sx6],body:=Z2r_B }
def Z3j_L0:Cd:=
 .seq (.seq (.region [Lw 24 10,
 Lw 25 7,
 Ll 26 (.bin .lss (.t 24) (.t 25))] [0,4,5,6,7,8,9,10,26])
 (.cond (.t 26)
 (.skip)
 (.exit 0)))
 (.seq (.block 1 (.region [Lw 29 10,
 Lw 30 10,
 Ll 31 (.bin .sub (.t 30) (Acx 1)),
 Ll 32 (.idxA (some 64) .leaf (.t 4) (.t 31)),
 Ilx 33 32,
 Ll 34 (.idxA (some 64) .leaf (.t 9) (.t 29)),
 Ls (.store false .leaf (.t 34) (.t 33))] [0,4,5,6,7,8,9,10]))
 (.region [Lw 27 10,
 Ll 28 (.bin .add (.t 27) (Acx 1)),
 Lw 10 28] [0,4,5,6,7,8,9,10]))
def Z3j_L1:Cd:=
 .seq (.seq (.region [Lw 45 12,
 Lw 46 7,
 Ll 47 (.bin .lss (.t 45) (.t 46))] [0,5,6,7,9,11,12,47])
 (.cond (.t 47)
 (.skip)
 (.exit 2)))
 (.seq (.block 3 (.region [Lw 50 12,
 Lw 51 12,
 Ll 52 (.idxA (some 64) .leaf (.t 9) (.t 51)),
 Ilx 53 52,
 Ll 54 (.conv .i64 (.t 53)),
 Lw 55 11,
 Lw 56 12,
 Ll 57 (.idxA (some 64) .leaf (.t 5) (.t 56)),
 Ilx 58 57,
 Ll 59 (.conv .i64 (.t 58)),
 Ll 60 (.bin .mul (.t 55) (.t 59)),
 Ll 61 (.bin .sub (.t 54) (.t 60)),
 Lw 62 0,
 Ll 63 (.bin .rem (.t 61) (.t 62)),
 Lw 64 0,
 Ll 65 (.bin .add (.t 63) (.t 64)),
 Lw 66 0,
 Ll 67 (.bin .rem (.t 65) (.t 66)),
 Ll 68 (.conv .u8 (.t 67)),
 Ll 69 (.idxA (some 64) .leaf (.t 9) (.t 50)),
 Ls (.store false .leaf (.t 69) (.t 68))] [0,5,6,7,9,11,12]))
 (.region [Lw 48 12,
 Ll 49 (.bin .add (.t 48) (Acx 1)),
 Lw 12 49] [0,5,6,7,9,11,12]))
def Z3j_B:Cd:=
 .seq (.region [Ll 4 (.box false 0 (.t 1)),
 Ll 5 (.box false 1 (.t 2)),
 Ll 6 (.box false 2 (.c (.arr 64 .leaf z64)))] [0,4,5,6])
 (.seq (.region [Ipx 13 5,
 Ll 14 (Ofx F2w [(.t 13)]),
 Lw 7 14] [0,4,5,6,7])
 (.seq (.seq (.region [Lw 15 7,
 Ll 16 (.bin .eql (.t 15) (Acx 0))] [0,4,5,6,7,16])
 (.cond (.t 16)
 (.seq (.region [Ll 17 (.build false (.arr 64 .leaf z64) []),
 Ls (.store false Sx6 (.t 6) (.t 17))] [6])
 (.ret))
 (.skip)))
 (.seq (.region [Lw 18 7,
 Ll 19 (.bin .sub (.t 18) (Acx 1)),
 Ll 20 (.idxA (some 64) .leaf (.t 4) (.t 19)),
 Ilx 21 20,
 Ll 22 (.conv .i64 (.t 21)),
 Ll 23 (.build false (.arr 64 .leaf z64) []),
 Ll 9 (.box false 3 (.c (.arr 64 .leaf z64))),
 Lw 8 22,
 Ls (.store false Sx6 (.t 9) (.t 23))] [0,4,5,6,7,8,9])
 (.seq (.seq (.region [Ll 10 (.mv (Acx 1))] [0,4,5,6,7,8,9,10])
 (.block 0 (.loop (Z3j_L0))))
 (.seq (.region [Lw 35 8,
 Lw 36 0,
 Lw 37 7,
 Ll 38 (.idxA (some 64) .leaf (.t 5) (.t 37)),
 Ilx 39 38,
 Ll 40 (Ofx F34 [(.t 36),(.t 39)]),
 Ll 41 (.conv .i64 (.t 40)),
 Ll 42 (.bin .mul (.t 35) (.t 41)),
 Lw 43 0,
 Ll 44 (.bin .rem (.t 42) (.t 43)),
 Lw 11 44] [0,5,6,7,9,11])
 (.seq (.seq (.region [Ll 12 (.mv (Acx 0))] [0,5,6,7,9,11,12])
 (.block 2 (.loop (Z3j_L1))))
 (.seq (.region [Ipx 70 9,
 Ls (.store false Sx6 (.t 6) (.t 70))] [6])
 (.ret))))))))
def Z3j:Fn:=
 { nparams:=3,nblk:=4,results:=[.cell 6 Sx6],body:=Z3j_B }
def Z39_L0:Cd:=
 .seq (.seq (.region [Lw 14 10,
 Ll 15 (.bin .geq (.t 14) (Acx 0))] [0,5,6,7,8,9,10,15])
 (.cond (.t 15)
 (.skip)
 (.exit 0)))
 (.seq (.block 1 (.seq (.region [Lw 18 0,
 Ipx 19 9,
 Ipx 20 7,
 Ll 21 (Ofx F3j [(.t 18),(.t 19),(.t 20)]),
 Ls (.store false Sx6 (.t 9) (.t 21))] [0,5,6,7,8,9,10])
 (.region [Lw 22 0,
 Lw 23 0,
 Ipx 24 9,
 Ipx 25 5,
 Lw 26 10,
 Ll 27 (.idxA (some 64) .leaf (.t 6) (.t 26)),
 Ilx 28 27,
 Ll 29 (.conv .i64 (.t 28)),
 Ll 30 (Ofx F2r [(.t 23),(.t 24),(.t 25),(.t 29)]),
 Ipx 31 7,
 Ll 32 (Ofx F37 [(.t 22),(.t 30),(.t 31)]),
 Ls (.store false Sx6 (.t 9) (.t 32))] [0,5,6,7,8,9,10])))
 (.region [Lw 16 10,
 Ll 17 (.bin .sub (.t 16) (Acx 1)),
 Lw 10 17] [0,5,6,7,8,9,10]))
def Z39_B:Cd:=
 .seq (.region [Ll 5 (.box false 0 (.t 1)),
 Ll 6 (.box false 1 (.t 2)),
 Ll 7 (.box false 2 (.t 3)),
 Ll 8 (.box false 3 (.c (.arr 64 .leaf z64)))] [0,5,6,7,8])
 (.seq (.region [Ll 11 (.build false (.arr 64 .leaf z64) []),
 Ll 9 (.box false 4 (.c (.arr 64 .leaf z64))),
 Ls (.store false Sx6 (.t 9) (.t 11))] [0,5,6,7,8,9])
 (.seq (.seq (.region [Ipx 12 6,
 Ll 13 (Ofx F2w [(.t 12)]),
 Lw 10 13] [0,5,6,7,8,9,10])
 (.block 0 (.loop (Z39_L0))))
 (.seq (.region [Ipx 33 9,
 Ls (.store false Sx6 (.t 8) (.t 33))] [8])
 (.ret))))
def Z39:Fn:=
 { nparams:=4,nblk:=5,results:=[.cell 8 Sx6],body:=Z39_B }
def Z3f_L0:Cd:=
 .seq (.seq (.region [Lw 19 2,
 Ll 20 (.bin .gtr (.t 19) (Acx 0))] [0,2,7,8,9,10,20])
 (.cond (.t 20)
 (.skip)
 (.exit 0)))
 (.seq (.block 1 (.seq (.seq (.region [Lw 23 2,
 Ll 24 (.bin .rem (.t 23) (Acx 2)),
 Ll 25 (.bin .eql (.t 24) (Acx 1))] [0,2,7,8,9,10,25])
 (.cond (.t 25)
 (.region [Lw 26 0,
 Ipx 27 9,
 Ipx 28 10,
 Ipx 29 7,
 Ll 30 (Ofx F39 [(.t 26),(.t 27),(.t 28),(.t 29)]),
 Ls (.store false Sx6 (.t 9) (.t 30))] [0,2,7,8,9,10])
 (.skip)))
 (.region [Lw 31 0,
 Ipx 32 10,
 Ipx 33 10,
 Ipx 34 7,
 Ll 35 (Ofx F39 [(.t 31),(.t 32),(.t 33),(.t 34)]),
 Ls (.store false Sx6 (.t 10) (.t 35))] [0,2,7,8,9,10])))
 (.region [Lw 21 2,
 Ll 22 (.bin .quo (.t 21) (Acx 2)),
 Lw 2 22] [0,2,7,8,9,10]))
def Z3f_B:Cd:=
 .seq (.region [Ll 5 (.box false 0 (.t 1)),
 Ll 7 (.box false 1 (.t 3)),
 Ll 8 (.box false 2 (.c (.arr 64 .leaf z64)))] [0,2,5,7,8])
 (.seq (.region [Lw 11 0,
 Ll 12 (Ofx F3d []),
 Ipx 13 7,
 Ll 14 (Ofx F37 [(.t 11),(.t 12),(.t 13)]),
 Lw 15 0,
 Ipx 16 5,
 Ipx 17 7,
 Ll 18 (Ofx F37 [(.t 15),(.t 16),(.t 17)]),
 Ll 9 (.box false 3 (.c (.arr 64 .leaf z64))),
 Ll 10 (.box false 4 (.c (.arr 64 .leaf z64))),
 Ls (.store false Sx6 (.t 9) (.t 14)),
 Ls (.store false Sx6 (.t 10) (.t 18))] [0,2,7,8,9,10])
 (.seq (.block 0 (.loop (Z3f_L0)))
 (.seq (.region [Ipx 36 9,
 Ls (.store false Sx6 (.t 8) (.t 36))] [8])
 (.ret))))
def Z3f:Fn:=
 { nparams:=4,nblk:=5,results:=[.cell 8 Sx6],body:=Z3f_B }
def Z3c_L0:Cd:=
 .seq (.seq (.region [Lw 8 1,
 Ll 9 (.bin .gtr (.t 8) (Acx 0))] [0,1,4,5,6,9])
 (.cond (.t 9)
 (.skip)
 (.exit 0)))
 (.seq (.block 1 (.seq (.region [Lw 12 6,
 Lw 13 1,
 Lw 14 0,
 Ll 15 (.bin .rem (.t 13) (.t 14)),
 Ll 16 (.conv .u8 (.t 15)),
 Ll 17 (.idxA (some 64) .leaf (.t 5) (.t 12)),
 Ls (.store false .leaf (.t 17) (.t 16))] [0,1,4,5,6])
 (.region [Lw 18 1,
 Lw 19 0,
 Ll 20 (.bin .quo (.t 18) (.t 19)),
 Lw 1 20] [0,1,4,5,6])))
 (.region [Lw 10 6,
 Ll 11 (.bin .add (.t 10) (Acx 1)),
 Lw 6 11] [0,1,4,5,6]))
def Z3c_B:Cd:=
 .seq (.region [Ll 4 (.box false 0 (.c (.arr 64 .leaf z64)))] [0,1,4])
 (.seq (.region [Ll 7 (.build false (.arr 64 .leaf z64) []),
 Ll 5 (.box false 1 (.c (.arr 64 .leaf z64))),
 Ls (.store false Sx6 (.t 5) (.t 7))] [0,1,4,5])
 (.seq (.seq (.region [Ll 6 (.mv (Acx 0))] [0,1,4,5,6])
 (.block 0 (.loop (Z3c_L0))))
 (.seq (.region [Ipx 21 5,
 Ls (.store false Sx6 (.t 4) (.t 21))] [4])
 (.ret))))
def Z3c:Fn:=
 { nparams:=2,nblk:=2,results:=[.cell 4 Sx6],body:=Z3c_B }
def Z3i_L0:Cd:=
 .seq (.seq (.region [Lw 35 12,
 Lw 36 9,
 Ll 37 (.bin .leq (.t 35) (.t 36)),
 Lw 38 37,
 Lx 39 11 38 true,
 Lg 40 (.idxA (some 64) .leaf (.t 4) (.t 39)) 38 true,
 Lg 41 (.load .leaf (.t 40)) 38 true,
 Lg 42 (.bin .neq (.t 41) (.c (.int .u8 0))) 38 true,
 Ll 43 (.pick (.t 38) (.t 42) (.c (.bool false)))] [0,4,5,6,8,9,10,11,12,43])
 (.cond (.t 43)
 (.skip)
 (.exit 2)))
 (.seq (.block 3 (.region [Lw 46 11,
 Lw 47 12,
 Ll 48 (.bin .add (.t 46) (.t 47)),
 Lw 49 11,
 Lw 50 12,
 Ll 51 (.bin .add (.t 49) (.t 50)),
 Ll 52 (.idxA (some 64) .leaf (.t 10) (.t 51)),
 Ilx 53 52,
 Ll 54 (.conv .i64 (.t 53)),
 Lw 55 11,
 Ll 56 (.idxA (some 64) .leaf (.t 4) (.t 55)),
 Ilx 57 56,
 Ll 58 (.conv .i64 (.t 57)),
 Lw 59 12,
 Ll 60 (.idxA (some 64) .leaf (.t 5) (.t 59)),
 Ilx 61 60,
 Ll 62 (.conv .i64 (.t 61)),
 Ll 63 (.bin .mul (.t 58) (.t 62)),
 Ll 64 (.bin .add (.t 54) (.t 63)),
 Lw 65 0,
 Ll 66 (.bin .rem (.t 64) (.t 65)),
 Ll 67 (.conv .u8 (.t 66)),
 Ll 68 (.idxA (some 64) .leaf (.t 10) (.t 48)),
 Ls (.store false .leaf (.t 68) (.t 67))] [0,4,5,6,8,9,10,11,12]))
 (.region [Lw 44 12,
 Ll 45 (.bin .add (.t 44) (Acx 1)),
 Lw 12 45] [0,4,5,6,8,9,10,11,12]))
def Z3i_L1:Cd:=
 .seq (.seq (.region [Lw 30 11,
 Lw 31 8,
 Ll 32 (.bin .leq (.t 30) (.t 31))] [0,4,5,6,8,9,10,11,32])
 (.cond (.t 32)
 (.skip)
 (.exit 0)))
 (.seq (.block 1 (.seq (.region [Ll 12 (.mv (Acx 0))] [0,4,5,6,8,9,10,11,12])
 (.block 2 (.loop (Z3i_L0)))))
 (.region [Lw 33 11,
 Ll 34 (.bin .add (.t 33) (Acx 1)),
 Lw 11 34] [0,4,5,6,8,9,10,11]))
def Z3i_B:Cd:=
 .seq (.region [Ll 4 (.box false 0 (.t 1)),
 Ll 5 (.box false 1 (.t 2)),
 Ll 6 (.box false 2 (.c (.arr 64 .leaf z64))),
 Ll 7 (.mv (.c (.bool false)))] [0,4,5,6])
 (.seq (.region [Ipx 13 4,
 Ll 14 (Ofx F2w [(.t 13)]),
 Ipx 15 5,
 Ll 16 (Ofx F2w [(.t 15)]),
 Ll 17 (.build false (.arr 64 .leaf z64) []),
 Ll 10 (.box false 3 (.c (.arr 64 .leaf z64))),
 Lw 8 14,
 Lw 9 16,
 Ls (.store false Sx6 (.t 10) (.t 17))] [0,4,5,6,8,9,10])
 (.seq (.seq (.region [Lw 18 8,
 Ll 19 (.bin .lss (.t 18) (Acx 0)),
 Lw 20 19,
 Lx 21 9 20 false,
 Lg 22 (.bin .lss (.t 21) (Acx 0)) 20 false,
 Ll 23 (.pick (.t 20) (.c (.bool true)) (.t 22))] [0,4,5,6,8,9,10,23])
 (.cond (.t 23)
 (.seq (.region [Ipx 24 10,
 Ls (.store false Sx6 (.t 6) (.t 24)),
 Ll 7 (.mv (.c (.bool true)))] [6,7])
 (.ret))
 (.skip)))
 (.seq (.seq (.region [Lw 25 8,
 Lw 26 9,
 Ll 27 (.bin .add (.t 25) (.t 26)),
 Ll 28 (.bin .gtr (.t 27) (Acx 63))] [0,4,5,6,8,9,10,28])
 (.cond (.t 28)
 (.seq (.region [Ipx 29 10,
 Ls (.store false Sx6 (.t 6) (.t 29)),
 Ll 7 (.mv (.c (.bool false)))] [6,7])
 (.ret))
 (.skip)))
 (.seq (.seq (.region [Ll 11 (.mv (Acx 0))] [0,4,5,6,8,9,10,11])
 (.block 0 (.loop (Z3i_L1))))
 (.seq (.region [Ipx 69 10,
 Ls (.store false Sx6 (.t 6) (.t 69)),
 Ll 7 (.mv (.c (.bool true)))] [6,7])
 (.ret))))))
def Z3i:Fn:=
 { nparams:=3,nblk:=4,results:=[.cell 6 Sx6,.tmp 7],body:=Z3i_B }
def Z2t_L0:Cd:=
 .seq (.seq (.region [Ipx 26 5,
 Ll 27 (Ofx F2w [(.t 26)]),
 Ll 28 (.bin .geq (.t 27) (Acx 0))] [0,4,5,6,7,8,9,10,11,12,28])
 (.cond (.t 28)
 (.skip)
 (.exit 0)))
 (.block 1 (.seq (.region [Lw 30 0,
 Ipx 31 4,
 Ipx 32 5,
 Ll 33 (Ofx F2x [(.t 30),(.t 31),(.t 32)]),
 Lw 29 33,
 Iex 34 29 0,
 Iex 35 29 1,
 Ll 13 (.box false 9 (.c (.arr 64 .leaf z64))),
 Ll 14 (.box false 10 (.c (.arr 64 .leaf z64))),
 Ls (.store false Sx6 (.t 13) (.t 34)),
 Ls (.store false Sx6 (.t 14) (.t 35))] [0,4,5,6,7,8,9,10,11,12,13,14])
 (.seq (.region [Lw 37 0,
 Ipx 38 13,
 Ipx 39 10,
 Ll 40 (Ofx F3i [(.t 37),(.t 38),(.t 39)]),
 Lw 36 40,
 Iex 41 36 0,
 Iex 42 36 1,
 Ll 15 (.box false 11 (.c (.arr 64 .leaf z64))),
 Ls (.store false Sx6 (.t 15) (.t 41)),
 Lw 16 42] [0,4,5,6,7,8,9,10,11,12,13,14,15])
 (.seq (.region [Lw 44 0,
 Ipx 45 13,
 Ipx 46 12,
 Ll 47 (Ofx F3i [(.t 44),(.t 45),(.t 46)]),
 Lw 43 47,
 Iex 48 43 0,
 Iex 49 43 1,
 Ll 17 (.box false 12 (.c (.arr 64 .leaf z64))),
 Ls (.store false Sx6 (.t 17) (.t 48)),
 Lw 18 49] [0,4,5,6,7,8,9,10,11,12,14,15,17])
 (.seq (.region [Lw 50 0,
 Ipx 51 9,
 Ipx 52 15,
 Ll 53 (Ofx F2r [(.t 50),(.t 51),(.t 52),(Acx (-1))]),
 Lw 54 0,
 Ipx 55 11,
 Ipx 56 17,
 Ll 57 (Ofx F2r [(.t 54),(.t 55),(.t 56),(Acx (-1))]),
 Ll 19 (.box false 13 (.c (.arr 64 .leaf z64))),
 Ll 20 (.box false 14 (.c (.arr 64 .leaf z64))),
 Ls (.store false Sx6 (.t 19) (.t 53)),
 Ls (.store false Sx6 (.t 20) (.t 57))] [0,4,5,6,7,8,9,10,11,12,14,19,20])
 (.seq (.region [Ipx 58 5,
 Ls (.store false Sx6 (.t 4) (.t 58))] [0,4,5,6,7,8,9,10,11,12,14,19,20])
 (.seq (.region [Ipx 59 14,
 Ls (.store false Sx6 (.t 5) (.t 59))] [0,4,5,6,7,8,9,10,11,12,19,20])
 (.seq (.region [Ipx 60 10,
 Ls (.store false Sx6 (.t 9) (.t 60))] [0,4,5,6,7,8,9,10,11,12,19,20])
 (.seq (.region [Ipx 61 12,
 Ls (.store false Sx6 (.t 11) (.t 61))] [0,4,5,6,7,8,9,10,11,12,19,20])
 (.seq (.region [Ipx 62 19,
 Ls (.store false Sx6 (.t 10) (.t 62))] [0,4,5,6,7,8,9,10,11,12,20])
 (.region [Ipx 63 20,
 Ls (.store false Sx6 (.t 12) (.t 63))] [0,4,5,6,7,8,9,10,11,12])))))))))))
def Z2t_B:Cd:=
 .seq (.region [Ll 4 (.box false 0 (.t 1)),
 Ll 5 (.box false 1 (.t 2)),
 Ll 6 (.box false 2 (.c (.arr 64 .leaf z64))),
 Ll 7 (.box false 3 (.c (.arr 64 .leaf z64))),
 Ll 8 (.box false 4 (.c (.arr 64 .leaf z64)))] [0,4,5,6,7,8])
 (.seq (.region [Ll 22 (Ofx F3d []),
 Ll 23 (.build false (.arr 64 .leaf z64) []),
 Ll 24 (.build false (.arr 64 .leaf z64) []),
 Ll 25 (Ofx F3d []),
 Ll 9 (.box false 5 (.c (.arr 64 .leaf z64))),
 Ll 10 (.box false 6 (.c (.arr 64 .leaf z64))),
 Ll 11 (.box false 7 (.c (.arr 64 .leaf z64))),
 Ll 12 (.box false 8 (.c (.arr 64 .leaf z64))),
 Ls (.store false Sx6 (.t 9) (.t 22)),
 Ls (.store false Sx6 (.t 10) (.t 23)),
 Ls (.store false Sx6 (.t 11) (.t 24)),
 Ls (.store false Sx6 (.t 12) (.t 25))] [0,4,5,6,7,8,9,10,11,12])
 (.seq (.block 0 (.loop (Z2t_L0)))
 (.seq (.region [Lw 64 0,
 Ipx 65 4,
 Ll 66 (Ofx F2w [(.t 65)]),
 Ll 67 (.idxA (some 64) .leaf (.t 4) (.t 66)),
 Ilx 68 67,
 Ll 69 (Ofx F34 [(.t 64),(.t 68)]),
 Ll 70 (.conv .i64 (.t 69)),
 Lw 21 70] [0,4,6,7,8,9,11,21])
 (.seq (.region [Lw 71 0,
 Ll 72 (.build false (.arr 64 .leaf z64) []),
 Ipx 73 4,
 Lw 74 21,
 Ll 75 (Ofx F2r [(.t 71),(.t 72),(.t 73),(.t 74)]),
 Lw 76 0,
 Ll 77 (.build false (.arr 64 .leaf z64) []),
 Ipx 78 9,
 Lw 79 21,
 Ll 80 (Ofx F2r [(.t 76),(.t 77),(.t 78),(.t 79)]),
 Lw 81 0,
 Ll 82 (.build false (.arr 64 .leaf z64) []),
 Ipx 83 11,
 Lw 84 21,
 Ll 85 (Ofx F2r [(.t 81),(.t 82),(.t 83),(.t 84)]),
 Ls (.store false Sx6 (.t 6) (.t 75)),
 Ls (.store false Sx6 (.t 7) (.t 80)),
 Ls (.store false Sx6 (.t 8) (.t 85))] [6,7,8])
 (.ret)))))
def Z2t:Fn:=
 { nparams:=3,nblk:=15,results:=[.cell 6 Sx6,.cell 7 Sx6,.cell 8 Sx6],body:=Z2t_B }
def Z32_B:Cd:=
 .seq (.region [Ll 4 (.box false 0 (.t 1)),
 Ll 5 (.box false 1 (.t 2)),
 Ll 6 (.box false 2 (.c (.arr 64 .leaf z64)))] [0,4,5,6])
 (.seq (.seq (.region [Ipx 10 4,
 Ll 11 (Ofx F2w [(.t 10)]),
 Ll 12 (.bin .lss (.t 11) (Acx 0)),
 Lw 13 12,
 Lg 14 (.load Sx6 (.t 5)) 13 true,
 Lg 15 (Ofx F2w [(.t 14)]) 13 true,
 Lg 16 (.bin .lss (.t 15) (Acx 0)) 13 true,
 Ll 17 (.pick (.t 13) (.t 16) (.c (.bool false)))] [0,4,5,6,17])
 (.cond (.t 17)
 (.seq (.region [Ll 18 (.build false (.arr 64 .leaf z64) []),
 Ls (.store false Sx6 (.t 6) (.t 18))] [6])
 (.ret))
 (.skip)))
 (.seq (.region [Lw 20 0,
 Ipx 21 4,
 Ipx 22 5,
 Ll 23 (Ofx F2t [(.t 20),(.t 21),(.t 22)]),
 Lw 19 23,
 Iex 24 19 0,
 Iex 25 19 1,
 Iex 26 19 2,
 Ll 7 (.box false 3 (.c (.arr 64 .leaf z64))),
 Ll 8 (.box false 4 (.c (.arr 64 .leaf z64))),
 Ll 9 (.box false 5 (.c (.arr 64 .leaf z64))),
 Ls (.store false Sx6 (.t 7) (.t 24)),
 Ls (.store false Sx6 (.t 8) (.t 25)),
 Ls (.store false Sx6 (.t 9) (.t 26))] [6,7])
 (.seq (.region [Ipx 27 7,
 Ls (.store false Sx6 (.t 6) (.t 27))] [6])
 (.ret))))
def Z32:Fn:=
 { nparams:=3,nblk:=6,results:=[.cell 6 Sx6],body:=Z32_B }
def Z3h_B:Cd:=
 .seq (.region [Ll 0 (.box false 0 (.c (.arr 64 .leaf z64)))] [0])
 (.seq (.region [Ll 1 (.build false (.arr 64 .leaf z64) [(0,(.c (.int .u8 0))),(1,(.c (.int .u8 1)))]),
 Ls (.store false Sx6 (.t 0) (.t 1))] [0])
 (.ret))
def Z3h:Fn:=
 { nparams:=0,nblk:=1,results:=[.cell 0 Sx6],body:=Z3h_B }
def Z35_L0:Cd:=
 .seq (.seq (.region [Lw 16 7,
 Ll 17 (.bin .mul (Acx 2) (.t 16)),
 Lw 18 5,
 Ll 19 (.bin .leq (.t 17) (.t 18))] [0,3,5,6,7,19])
 (.cond (.t 19)
 (.skip)
 (.exit 0)))
 (.seq (.block 1 (.seq (.region [Lw 22 0,
 Ipx 23 6,
 Lw 24 0,
 Ipx 25 3,
 Ll 26 (Ofx F3f [(.t 22),(.t 23),(.t 24),(.t 25)]),
 Ls (.store false Sx6 (.t 6) (.t 26))] [0,3,5,6,7])
 (.seq (.region [Lw 27 0,
 Ipx 28 3,
 Lw 29 0,
 Ipx 30 6,
 Ll 31 (Ofx F3h []),
 Ll 32 (Ofx F2r [(.t 29),(.t 30),(.t 31),(Acx (-1))]),
 Ll 33 (Ofx F32 [(.t 27),(.t 28),(.t 32)]),
 Ll 34 (Ofx F2w [(.t 33)]),
 Ll 35 (.bin .neq (.t 34) (Acx 0))] [0,3,5,6,7,35])
 (.cond (.t 35)
 (.seq (.region [Ll 4 (.mv (.c (.bool false)))] [4])
 (.ret))
 (.skip)))))
 (.region [Lw 20 7,
 Ll 21 (.bin .add (.t 20) (Acx 1)),
 Lw 7 21] [0,3,5,6,7]))
def Z35_B:Cd:=
 .seq (.region [Ll 3 (.box false 0 (.t 1)),
 Ll 4 (.mv (.c (.bool false)))] [0,3])
 (.seq (.region [Ipx 8 3,
 Ll 9 (Ofx F2w [(.t 8)]),
 Lw 10 0,
 Ll 11 (Ofx F3h []),
 Ipx 12 3,
 Ll 13 (Ofx F37 [(.t 10),(.t 11),(.t 12)]),
 Ll 6 (.box false 1 (.c (.arr 64 .leaf z64))),
 Lw 5 9,
 Ls (.store false Sx6 (.t 6) (.t 13))] [0,3,5,6])
 (.seq (.seq (.region [Lw 14 5,
 Ll 15 (.bin .lss (.t 14) (Acx 1))] [0,3,5,6,15])
 (.cond (.t 15)
 (.seq (.region [Ll 4 (.mv (.c (.bool false)))] [4])
 (.ret))
 (.skip)))
 (.seq (.seq (.region [Ll 7 (.mv (Acx 1))] [0,3,5,6,7])
 (.block 0 (.loop (Z35_L0))))
 (.seq (.region [Ll 4 (.mv (.c (.bool true)))] [4])
 (.ret)))))
def Z35:Fn:=
 { nparams:=2,nblk:=2,results:=[.tmp 4],body:=Z35_B }
def Z31_L0:Cd:=
 .seq (.seq (.region [Lw 12 4,
 Lw 13 0,
 Ll 14 (.len false (.t 13)),
 Ll 15 (.bin .lss (.t 12) (.t 14)),
 Lw 16 15,
 Lx 17 4 16 true,
 Lg 18 (.bin .lss (.t 17) (Acx 4096)) 16 true,
 Ll 19 (.pick (.t 16) (.t 18) (.c (.bool false)))] [0,3,4,19])
 (.cond (.t 19)
 (.skip)
 (.exit 0)))
 (.seq (.block 1 (.region [Lw 22 3,
 Lw 23 3,
 Ll 24 (.chk (.t 23)),
 Ll 25 (.fldA [.leaf,.leaf,.leaf] (.t 24) 2),
 Ilx 26 25,
 Ll 27 (.bin .mul (.t 26) (.c (.int .u64 1099511628211))),
 Lw 28 0,
 Lw 29 4,
 Ll 30 (.idxA none .leaf (.t 28) (.t 29)),
 Ilx 31 30,
 Ll 32 (.conv .u64 (.t 31)),
 Ll 33 (.bin .add (.t 27) (.t 32)),
 Ll 34 (.bin .add (.t 33) (.c (.int .u64 61))),
 Ll 35 (.chk (.t 22)),
 Ll 36 (.fldA [.leaf,.leaf,.leaf] (.t 35) 2),
 Ls (.store false .leaf (.t 36) (.t 34))] [0,3,4]))
 (.region [Lw 20 4,
 Ll 21 (.bin .add (.t 20) (Acx 1)),
 Lw 4 21] [0,3,4]))
def Z31_B:Cd:=
 .seq (.region [Ll 2 (.mv (.c .nilp))] [0])
 (.seq (.region [Lw 5 0,
 Lw 6 0,
 Ll 7 (.len false (.t 6)),
 Ll 8 (.conv .u64 (.t 7)),
 Ll 9 (.bin .add (.c (.int .u64 12251)) (.t 8)),
 Ll 10 (.build true (.st [.leaf,.leaf,.leaf] [(.sl .leaf []),(.int .i64 0),(.int .u64 0)]) [(0,(.t 5)),(2,(.t 9))]),
 Ll 11 (.box false 0 (.t 10)),
 Lw 3 11] [0,3])
 (.seq (.seq (.region [Ll 4 (.mv (Acx 0))] [0,3,4])
 (.block 0 (.loop (Z31_L0))))
 (.seq (.region [Lw 37 3,
 Lw 2 37] [2])
 (.ret))))
def Z31:Fn:=
 { nparams:=1,nblk:=1,results:=[.tmp 2],body:=Z31_B }
def Z3b_B:Cd:=
 .seq (.region [Ll 4 (.mv (Acx 0))] [0,1])
 (.seq (.seq (.region [Lw 6 1,
 Ll 7 (.bin .lss (.t 6) (Acx 1))] [0,1,7])
 (.cond (.t 7)
 (.seq (.region [Ll 4 (.mv (Acx 0))] [4])
 (.ret))
 (.skip)))
 (.seq (.region [Lw 8 0,
 Lw 9 0,
 Ll 10 (.chk (.t 9)),
 Ll 11 (.fldA [.leaf,.leaf,.leaf] (.t 10) 2),
 Ilx 12 11,
 Ll 13 (.bin .mul (.t 12) (.c (.int .u64 6364136223846793005))),
 Ll 14 (.bin .add (.t 13) (.c (.int .u64 1442695040888963407))),
 Ll 15 (.chk (.t 8)),
 Ll 16 (.fldA [.leaf,.leaf,.leaf] (.t 15) 2),
 Ls (.store false .leaf (.t 16) (.t 14))] [0,1])
 (.seq (.region [Lw 17 0,
 Ll 18 (.chk (.t 17)),
 Ll 19 (.fldA [.leaf,.leaf,.leaf] (.t 18) 2),
 Ilx 20 19,
 Ll 21 (.bin .shr (.t 20) (.c (.int .u64 33))),
 Ll 22 (.bin .and (.t 21) (.c (.int .u64 16777215))),
 Ll 23 (.conv .i64 (.t 22)),
 Lw 5 23] [0,1,5])
 (.seq (.seq (.region [Lw 24 0,
 Ll 25 (.chk (.t 24)),
 Ll 26 (.fldA [.leaf,.leaf,.leaf] (.t 25) 1),
 Ilx 27 26,
 Lw 28 0,
 Ll 29 (.chk (.t 28)),
 Ll 30 (.fldA [.leaf,.leaf,.leaf] (.t 29) 0),
 Ilx 31 30,
 Ll 32 (.len false (.t 31)),
 Ll 33 (.bin .lss (.t 27) (.t 32))] [0,1,5,33])
 (.cond (.t 33)
 (.seq (.region [Lw 34 5,
 Lw 35 0,
 Ll 36 (.chk (.t 35)),
 Ll 37 (.fldA [.leaf,.leaf,.leaf] (.t 36) 0),
 Ilx 38 37,
 Lw 39 0,
 Ll 40 (.chk (.t 39)),
 Ll 41 (.fldA [.leaf,.leaf,.leaf] (.t 40) 1),
 Ilx 42 41,
 Ll 43 (.idxA none .leaf (.t 38) (.t 42)),
 Ilx 44 43,
 Ll 45 (.conv .i64 (.t 44)),
 Ll 46 (.bin .add (.t 34) (.t 45)),
 Lw 5 46] [0,1,5])
 (.region [Lw 47 0,
 Lw 48 0,
 Ll 49 (.chk (.t 48)),
 Ll 50 (.fldA [.leaf,.leaf,.leaf] (.t 49) 1),
 Ilx 51 50,
 Ll 52 (.bin .add (.t 51) (Acx 1)),
 Ll 53 (.chk (.t 47)),
 Ll 54 (.fldA [.leaf,.leaf,.leaf] (.t 53) 1),
 Ls (.store false .leaf (.t 54) (.t 52))] [1,5]))
 (.skip)))
 (.seq (.region [Lw 55 5,
 Lw 56 1,
 Ll 57 (.bin .rem (.t 55) (.t 56)),
 Lw 4 57] [4])
 (.ret))))))
def Z3b:Fn:=
 { nparams:=2,nblk:=0,results:=[.tmp 4],body:=Z3b_B }
def Z2z_L0:Cd:=
 .seq (.seq (.region [Lw 21 10,
 Lw 22 9,
 Ll 23 (.bin .lss (.t 21) (.t 22))] [0,1,2,6,7,8,9,10,23])
 (.cond (.t 23)
 (.skip)
 (.exit 2)))
 (.seq (.block 3 (.region [Lw 26 10,
 Lw 27 0,
 Lw 28 1,
 Ll 29 (.call .heap [] (.f F3b) [(.t 27),(.t 28)]),
 Ll 30 (.conv .u8 (.t 29)),
 Ll 31 (.idxA (some 64) .leaf (.t 7) (.t 26)),
 Ls (.store false .leaf (.t 31) (.t 30))] [0,1,2,6,7,8,9,10]))
 (.region [Lw 24 10,
 Ll 25 (.bin .add (.t 24) (Acx 1)),
 Lw 10 25] [0,1,2,6,7,8,9,10]))
def Z2z_L1:Cd:=
 .seq (.seq (.region [Lw 12 8,
 Ll 13 (.bin .lss (.t 12) (Acx 4))] [0,1,2,6,7,8,13])
 (.cond (.t 13)
 (.skip)
 (.exit 0)))
 (.seq (.block 1 (.seq (.region [Lw 16 0,
 Lw 17 2,
 Ll 18 (.call .heap [] (.f F3b) [(.t 16),(.t 17)]),
 Ll 19 (.bin .add (Acx 1) (.t 18)),
 Lw 9 19] [0,1,2,6,7,8,9])
 (.seq (.region [Ll 20 (.build false (.arr 64 .leaf z64) []),
 Ls (.store false Sx6 (.t 7) (.t 20))] [0,1,2,6,7,8,9])
 (.seq (.seq (.region [Ll 10 (.mv (Acx 0))] [0,1,2,6,7,8,9,10])
 (.block 2 (.loop (Z2z_L0))))
 (.seq (.region [Lw 32 9,
 Ll 33 (.idxA (some 64) .leaf (.t 7) (.t 32)),
 Ls (.store false .leaf (.t 33) (.c (.int .u8 1)))] [0,1,2,6,7,8])
 (.seq (.region [Lw 34 0,
 Ll 35 (.call .heap [] (.f F3b) [(.t 34),(Acx 3)]),
 Ll 36 (.bin .eql (.t 35) (Acx 0)),
 Lw 37 36,
 Lx 38 1 37 false,
 Lg 39 (.load Sx6 (.t 7)) 37 false,
 Lg 40 (Ofx F35 [(.t 38),(.t 39)]) 37 false,
 Ll 41 (.pick (.t 37) (.c (.bool true)) (.t 40))] [0,1,2,6,7,8,41])
 (.cond (.t 41)
 (.seq (.region [Ipx 42 7,
 Ls (.store false Sx6 (.t 6) (.t 42))] [6])
 (.ret))
 (.skip))))))))
 (.region [Lw 14 8,
 Ll 15 (.bin .add (.t 14) (Acx 1)),
 Lw 8 15] [0,1,2,6,7,8]))
def Z2z_B:Cd:=
 .seq (.region [Ll 6 (.box false 0 (.c (.arr 64 .leaf z64)))] [0,1,2,6])
 (.seq (.region [Ll 11 (Ofx F3h []),
 Ll 7 (.box false 1 (.c (.arr 64 .leaf z64))),
 Ls (.store false Sx6 (.t 7) (.t 11))] [0,1,2,6,7])
 (.seq (.seq (.region [Ll 8 (.mv (Acx 0))] [0,1,2,6,7,8])
 (.block 0 (.loop (Z2z_L1))))
 (.seq (.region [Ipx 43 7,
 Ls (.store false Sx6 (.t 6) (.t 43))] [6])
 (.ret))))
def Z2z:Fn:=
 { nparams:=3,nblk:=2,results:=[.cell 6 Sx6],body:=Z2z_B }
def ir_spec_l01Draw_L0:Cd:=
 .seq (.seq (.region [Lw 15 8,
 Ll 16 (.bin .geq (.t 15) (Acx 0))] [0,1,6,7,8,16])
 (.cond (.t 16)
 (.skip)
 (.exit 0)))
 (.seq (.block 1 (.seq (.region [Lw 19 0,
 Ll 20 (.call .heap [] (.f F3b) [(.t 19),(Acx 3)]),
 Ll 21 (.bin .gtr (.t 20) (Acx 0))] [0,1,6,7,8,21])
 (.cond (.t 21)
 (.region [Lw 22 8,
 Lw 23 0,
 Lw 24 1,
 Ll 25 (.call .heap [] (.f F3b) [(.t 23),(.t 24)]),
 Ll 26 (.conv .u8 (.t 25)),
 Ll 27 (.idxA (some 64) .leaf (.t 7) (.t 22)),
 Ls (.store false .leaf (.t 27) (.t 26))] [0,1,6,7,8])
 (.skip))))
 (.region [Lw 17 8,
 Ll 18 (.bin .sub (.t 17) (Acx 1)),
 Lw 8 18] [0,1,6,7,8]))
def ir_spec_l01Draw_B:Cd:=
 .seq (.region [Ll 6 (.box false 0 (.c (.arr 64 .leaf z64)))] [0,1,2,6])
 (.seq (.region [Ll 9 (.build false (.arr 64 .leaf z64) []),
 Ll 7 (.box false 1 (.c (.arr 64 .leaf z64))),
 Ls (.store false Sx6 (.t 7) (.t 9))] [0,1,2,6,7])
 (.seq (.seq (.region [Lw 10 0,
 Lw 11 2,
 Ll 12 (.bin .add (.t 11) (Acx 2)),
 Ll 13 (.call .heap [] (.f F3b) [(.t 10),(.t 12)]),
 Ll 14 (.bin .sub (.t 13) (Acx 1)),
 Lw 8 14] [0,1,6,7,8])
 (.block 0 (.loop (ir_spec_l01Draw_L0))))
 (.seq (.region [Ipx 28 7,
 Ls (.store false Sx6 (.t 6) (.t 28))] [6])
 (.ret))))
def Z2y:Fn:=
 { nparams:=3,nblk:=2,results:=[.cell 6 Sx6],body:=ir_spec_l01Draw_B }
def Z3e_B:Cd:=
 .seq (.region [Ll 4 (.mv (Acx 0))] [0,1])
 (.seq (.region [Lw 5 1,
 Lw 6 0,
 Lw 7 1,
 Ll 8 (.len false (.t 7)),
 Ll 9 (.call .heap [] (.f F3b) [(.t 6),(.t 8)]),
 Ll 10 (.idxA none .leaf (.t 5) (.t 9)),
 Ilx 11 10,
 Lw 4 11] [4])
 (.ret))
def Z3e:Fn:=
 { nparams:=2,nblk:=0,results:=[.tmp 4],body:=Z3e_B }
def Z30_B:Cd:=
 .seq (.region [Ll 2 (.mv (Acx 0))] [0])
 (.seq (.region [Lw 3 0,
 Ll 4 (.buildSl false 0 .leaf (.int .i64 0) 6 [(0,(Acx 2)),(1,(Acx 2)),(2,(Acx 3)),(3,(Acx 3)),(4,(Acx 5)),(5,(Acx 7))]),
 Ll 5 (.call .heap [] (.f F3e) [(.t 3),(.t 4)]),
 Lw 2 5] [2])
 (.ret))
def Z30:Fn:=
 { nparams:=1,nblk:=1,results:=[.tmp 2],body:=Z30_B }
def Z2s_B:Cd:=
 .seq (.region [Ll 5 (.box false 0 (.t 2)),
 Ll 6 (.box false 1 (.c (.arr 64 .leaf z64)))] [0,1,5,6])
 (.seq (.seq (.region [Lw 7 0,
 Ll 8 (.call .heap [] (.f F3b) [(.t 7),(Acx 40)]),
 Ll 9 (.bin .eql (.t 8) (Acx 0))] [0,1,5,6,9])
 (.cond (.t 9)
 (.region [Lw 10 0,
 Ll 11 (.call .heap [] (.f F3b) [(.t 10),(Acx 64)]),
 Lw 12 0,
 Lw 13 1,
 Ll 14 (.buildSl false 2 .leaf (.int .i64 0) 4 [(0,(.t 13)),(1,(Acx 7)),(2,(Acx 255)),(3,(Acx 1))]),
 Ll 15 (.call .heap [] (.f F3e) [(.t 12),(.t 14)]),
 Ll 16 (.conv .u8 (.t 15)),
 Ll 17 (.idxA (some 64) .leaf (.t 5) (.t 11)),
 Ls (.store false .leaf (.t 17) (.t 16))] [5,6])
 (.skip)))
 (.seq (.region [Ipx 18 5,
 Ls (.store false Sx6 (.t 6) (.t 18))] [6])
 (.ret)))
def Z2s:Fn:=
 { nparams:=3,nblk:=3,results:=[.cell 6 Sx6],body:=Z2s_B }
def Z3a_B:Cd:=
 .seq (.region [Ll 4 (.mv (Acx 0))] [0,1])
 (.seq (.seq (.region [Lw 5 0,
 Ll 6 (.call .heap [] (.f F3b) [(.t 5),(Acx 14)]),
 Ll 7 (.bin .eql (.t 6) (Acx 0))] [0,1,7])
 (.cond (.t 7)
 (.seq (.region [Lw 8 0,
 Lw 9 1,
 Ll 10 (.bin .add (.t 9) (Acx 1)),
 Ll 11 (.buildSl false 0 .leaf (.int .i64 0) 4 [(0,(Acx (-1))),(1,(.t 10)),(2,(Acx 1099511627776)),(3,(Acx (-4611686018427387904)))]),
 Ll 12 (.call .heap [] (.f F3e) [(.t 8),(.t 11)]),
 Lw 4 12] [4])
 (.ret))
 (.skip)))
 (.seq (.region [Lw 13 0,
 Lw 14 1,
 Ll 15 (.bin .add (.t 14) (Acx 1)),
 Ll 16 (.call .heap [] (.f F3b) [(.t 13),(.t 15)]),
 Lw 4 16] [4])
 (.ret)))
def Z3a:Fn:=
 { nparams:=2,nblk:=1,results:=[.tmp 4],body:=Z3a_B }
end Pe

/-
 Functions of the program in the small form,printed by a program.
-/
namespace Pe
open Go
def Z3n_L0:Cd:=
 .seq (.seq (.region [Ipx 44 3,
 Ll 45 (Ofx F2w [(.t 44)]),
 Lw 46 6,
 Ll 47 (.bin .geq (.t 45) (.t 46))] [0,3,5,6,7,8,9,47])
 (.cond (.t 47)
 (.skip)
 (.exit 4)))
 (.block 5 (.seq (.region [Lw 49 0,
 Ipx 50 3,
 Ipx 51 8,
 Ll 52 (Ofx F2x [(.t 49),(.t 50),(.t 51)]),
 Lw 48 52,
 Iex 53 48 0,
 Iex 54 48 1,
 Ll 10 (.box false 3 (.c (.arr 64 .leaf z64))),
 Ll 11 (.box false 4 (.c (.arr 64 .leaf z64))),
 Ls (.store false Sx6 (.t 10) (.t 53)),
 Ls (.store false Sx6 (.t 11) (.t 54))] [0,3,5,6,7,8,9,10,11])
 (.seq (.seq (.region [Ipx 55 11,
 Ll 56 (.build false (.arr 64 .leaf z64) []),
 Ll 57 (.eqv true (.arr 64 .leaf .int) (.t 55) (.t 56))] [0,3,5,6,7,8,9,10,57])
 (.cond (.t 57)
 (.exit 4)
 (.skip)))
 (.seq (.region [Ipx 58 10,
 Ls (.store false Sx6 (.t 3) (.t 58))] [0,3,5,6,7,8,9])
 (.region [Lw 59 9,
 Ll 60 (.bin .add (.t 59) (Acx 1)),
 Lw 9 60] [0,3,5,6,7,8,9])))))
def Z3n_L1:Cd:=
 .seq (.seq (.region [Lw 26 7,
 Lw 27 0,
 Lw 28 6,
 Ll 29 (Ofx F2v [(.t 27),(.t 28)]),
 Ll 30 (.bin .mul (Acx 2) (.t 29)),
 Ll 31 (.bin .lss (.t 26) (.t 30)),
 Lw 32 31,
 Lx 33 6 32 true,
 Lg 34 (.bin .mul (Acx 2) (.t 33)) 32 true,
 Lg 35 (.load Sx6 (.t 3)) 32 true,
 Lg 36 (Ofx F2w [(.t 35)]) 32 true,
 Lg 37 (.bin .leq (.t 34) (.t 36)) 32 true,
 Ll 38 (.pick (.t 32) (.t 37) (.c (.bool false)))] [0,3,5,6,7,38])
 (.cond (.t 38)
 (.skip)
 (.exit 2)))
 (.seq (.block 3 (.seq (.region [Lw 41 0,
 Lw 42 7,
 Ll 43 (Ofx F3c [(.t 41),(.t 42)]),
 Ll 8 (.box false 2 (.c (.arr 64 .leaf z64))),
 Ls (.store false Sx6 (.t 8) (.t 43)),
 Ll 9 (.mv (Acx 0))] [0,3,5,6,7,8,9])
 (.seq (.block 4 (.loop (Z3n_L0)))
 (.seq (.region [Lw 61 9,
 Ll 62 (.bin .gtr (.t 61) (Acx 0))] [0,3,5,6,7,8,9,62])
 (.cond (.t 62)
 (.region [Lw 63 5,
 Ipx 64 8,
 Lw 65 9,
 Ll 66 (.build false (.st [Sx6,.leaf] [(.arr 64 .leaf z64),(.int .i64 0)]) [(0,(.t 64)),(1,(.t 65))]),
 Ll 67 (.buildSl false 5 (.st [Sx6,.leaf]) (.st [Sx6,.leaf] [(.arr 64 .leaf z64),(.int .i64 0)]) 1 [(0,(.t 66))]),
 Ll 68 (.append (.st [Sx6,.leaf]) 6 72 (.t 63) (.t 67)),
 Lw 5 68] [0,3,5,6,7])
 (.skip))))))
 (.region [Lw 39 7,
 Ll 40 (.bin .add (.t 39) (Acx 1)),
 Lw 7 40] [0,3,5,6,7]))
def Z3n_L2:Cd:=
 .seq (.seq (.region [Lw 16 6,
 Ll 17 (.bin .mul (Acx 2) (.t 16)),
 Ipx 18 3,
 Ll 19 (Ofx F2w [(.t 18)]),
 Ll 20 (.bin .leq (.t 17) (.t 19))] [0,3,5,6,20])
 (.cond (.t 20)
 (.skip)
 (.exit 0)))
 (.seq (.block 1 (.seq (.region [Lw 23 0,
 Lw 24 6,
 Ll 25 (Ofx F2v [(.t 23),(.t 24)]),
 Lw 7 25] [0,3,5,6,7])
 (.block 2 (.loop (Z3n_L1)))))
 (.region [Lw 21 6,
 Ll 22 (.bin .add (.t 21) (Acx 1)),
 Lw 6 22] [0,3,5,6]))
def Z3n_B:Cd:=
 .seq (.region [Ll 3 (.box false 0 (.t 1)),
 Ll 4 (.mv (.c (.sl (.st [Sx6,.leaf]) [])))] [0,3])
 (.seq (.region [Ll 15 (.buildSl false 1 (.st [Sx6,.leaf]) (.st [Sx6,.leaf] [(.arr 64 .leaf z64),(.int .i64 0)]) 0 []),
 Lw 5 15] [0,3,5])
 (.seq (.seq (.region [Ll 6 (.mv (Acx 1))] [0,3,5,6])
 (.block 0 (.loop (Z3n_L2))))
 (.seq (.seq (.region [Ipx 69 3,
 Ll 70 (Ofx F2w [(.t 69)]),
 Lw 12 70] [0,3,5,12])
 (.seq (.region [Lw 71 12,
 Ll 72 (.bin .gtr (.t 71) (Acx 0))] [0,3,5,12,72])
 (.cond (.t 72)
 (.seq (.region [Lw 73 0,
 Ll 74 (.build false (.arr 64 .leaf z64) []),
 Ipx 75 3,
 Lw 76 0,
 Lw 77 12,
 Ll 78 (.idxA (some 64) .leaf (.t 3) (.t 77)),
 Ilx 79 78,
 Ll 80 (Ofx F34 [(.t 76),(.t 79)]),
 Ll 81 (.conv .i64 (.t 80)),
 Ll 82 (Ofx F2r [(.t 73),(.t 74),(.t 75),(.t 81)]),
 Ll 13 (.box false 7 (.c (.arr 64 .leaf z64))),
 Ls (.store false Sx6 (.t 13) (.t 82))] [5,13])
 (.seq (.region [Lw 83 5,
 Ll 84 (.len false (.t 83)),
 Ll 85 (.bin .sub (.t 84) (Acx 1)),
 Lw 14 85] [5,13,14])
 (.seq (.region [Lw 86 14,
 Ll 87 (.bin .geq (.t 86) (Acx 0)),
 Lw 88 87,
 Lx 89 5 88 true,
 Lx 90 14 88 true,
 Lg 91 (.idxA none (.st [Sx6,.leaf]) (.t 89) (.t 90)) 88 true,
 Lg 92 (.fldA [Sx6,.leaf] (.t 91) 0) 88 true,
 Lg 93 (.load Sx6 (.t 92)) 88 true,
 Lg 94 (.load Sx6 (.t 13)) 88 true,
 Lg 95 (.eqv false (.arr 64 .leaf .int) (.t 93) (.t 94)) 88 true,
 Ll 96 (.pick (.t 88) (.t 95) (.c (.bool false)))] [5,13,14,96])
 (.cond (.t 96)
 (.region [Lw 97 5,
 Lw 98 14,
 Lw 99 5,
 Lw 100 14,
 Ll 101 (.idxA none (.st [Sx6,.leaf]) (.t 99) (.t 100)),
 Ll 102 (.fldA [Sx6,.leaf] (.t 101) 1),
 Ilx 103 102,
 Ll 104 (.bin .add (.t 103) (Acx 1)),
 Ll 105 (.idxA none (.st [Sx6,.leaf]) (.t 97) (.t 98)),
 Ll 106 (.fldA [Sx6,.leaf] (.t 105) 1),
 Ls (.store false .leaf (.t 106) (.t 104))] [5])
 (.region [Lw 107 5,
 Ipx 108 13,
 Ll 109 (.build false (.st [Sx6,.leaf] [(.arr 64 .leaf z64),(.int .i64 0)]) [(0,(.t 108)),(1,(Acx 1))]),
 Ll 110 (.buildSl false 8 (.st [Sx6,.leaf]) (.st [Sx6,.leaf] [(.arr 64 .leaf z64),(.int .i64 0)]) 1 [(0,(.t 109))]),
 Ll 111 (.append (.st [Sx6,.leaf]) 9 72 (.t 107) (.t 110)),
 Lw 5 111] [5])))))
 (.skip))))
 (.seq (.region [Lw 112 5,
 Lw 4 112] [4])
 (.ret)))))
def Z3n:Fn:=
 { nparams:=2,nblk:=10,results:=[.tmp 4],body:=Z3n_B }
def Z3m_L0:Cd:=
 .seq (.seq (.region [Lw 6 1,
 Ll 7 (.bin .gtr (.t 6) (Acx 0))] [0,1,5,7])
 (.cond (.t 7)
 (.skip)
 (.exit 0)))
 (.seq (.block 1 (.region [Lw 10 5,
 Lw 11 0,
 Ll 12 (.bin .mul (.t 10) (.t 11)),
 Lw 5 12] [0,1,5]))
 (.region [Lw 8 1,
 Ll 9 (.bin .sub (.t 8) (Acx 1)),
 Lw 1 9] [0,1,5]))
def Z3m_B:Cd:=
 .seq (.region [Ll 4 (.mv (Acx 0))] [0,1])
 (.seq (.region [Ll 5 (.mv (Acx 1))] [0,1,5])
 (.seq (.block 0 (.loop (Z3m_L0)))
 (.seq (.region [Lw 13 5,
 Lw 4 13] [4])
 (.ret))))
def Z3m:Fn:=
 { nparams:=2,nblk:=0,results:=[.tmp 4],body:=Z3m_B }
def Z2o_L0:Cd:=
 .seq (.seq (.region [Lw 27 7,
 Lw 28 0,
 Lw 29 1,
 Ll 30 (Ofx F2v [(.t 28),(.t 29)]),
 Ll 31 (.bin .mul (Acx 2) (.t 30)),
 Ll 32 (.bin .lss (.t 27) (.t 31))] [0,1,6,7,32])
 (.cond (.t 32)
 (.skip)
 (.exit 1)))
 (.seq (.block 2 (.seq (.region [Lw 35 0,
 Lw 36 7,
 Ll 37 (Ofx F3c [(.t 35),(.t 36)]),
 Ll 8 (.box false 1 (.c (.arr 64 .leaf z64))),
 Ls (.store false Sx6 (.t 8) (.t 37))] [0,1,6,7,8])
 (.seq (.region [Lw 38 0,
 Ipx 39 8,
 Ll 40 (Ofx F35 [(.t 38),(.t 39)])] [0,1,6,7,8,40])
 (.cond (.t 40)
 (.region [Lw 41 6,
 Ipx 42 8,
 Ll 43 (.buildSl false 2 Sx6 (.arr 64 .leaf z64) 1 [(0,(.t 42))]),
 Ll 44 (.append Sx6 3 64 (.t 41) (.t 43)),
 Lw 6 44] [0,1,6,7])
 (.skip)))))
 (.region [Lw 33 7,
 Ll 34 (.bin .add (.t 33) (Acx 1)),
 Lw 7 34] [0,1,6,7]))
def Z2o_B:Cd:=
 .seq (.region [Ll 4 (.mv (.c (.sl Sx6 []))),
 Ll 5 (.mv (Acx 0))] [0,1])
 (.seq (.block 0 (.seq (.region [Lw 10 0,
 Ll 11 (Ofx F3g [(.t 10)]),
 Ll 12 (.un .not (.t 11)),
 Lw 9 12] [0,1,9])
 (.cond (.t 9)
 (.seq (.region [Ll 4 (.mv (.c (.sl Sx6 []))),
 Ll 5 (.mv (Acx 1))] [4,5])
 (.ret))
 (.seq (.region [Lw 14 1,
 Ll 15 (Ofx F33 [(.t 14),(Acx 1),(Acx 8)]),
 Ll 16 (.un .not (.t 15)),
 Lw 17 16,
 Lx 18 0 17 false,
 Lx 19 1 17 false,
 Lg 20 (Ofx F2v [(.t 18),(.t 19)]) 17 false,
 Lg 21 (.bin .gtr (.t 20) (Acx 343)) 17 false,
 Ll 22 (.pick (.t 17) (.c (.bool true)) (.t 21)),
 Lw 13 22] [0,1,13])
 (.cond (.t 13)
 (.seq (.region [Ll 4 (.mv (.c (.sl Sx6 []))),
 Ll 5 (.mv (Acx 2))] [4,5])
 (.ret))
 (.skip))))))
 (.seq (.region [Ll 23 (.buildSl false 0 Sx6 (.arr 64 .leaf z64) 0 []),
 Lw 6 23] [0,1,6])
 (.seq (.seq (.region [Lw 24 0,
 Lw 25 1,
 Ll 26 (Ofx F2v [(.t 24),(.t 25)]),
 Lw 7 26] [0,1,6,7])
 (.block 1 (.loop (Z2o_L0))))
 (.seq (.region [Lw 45 6,
 Lw 4 45,
 Ll 5 (.mv (Acx 0))] [4,5])
 (.ret)))))
def Z2o:Fn:=
 { nparams:=2,nblk:=4,results:=[.tmp 4,.tmp 5],body:=Z2o_B }
def Z3o_L0:Cd:=
 .seq (.seq (.region [Lw 22 7,
 Ll 23 (.bin .gtr (.t 22) (Acx 0))] [3,4,5,6,7,23])
 (.cond (.t 23)
 (.skip)
 (.exit 0)))
 (.seq (.block 1 (.seq (.region [Lw 27 5,
 Ipx 28 6,
 Lw 29 4,
 Lw 30 5,
 ⟨some 31,.call .heap [] (.f F2z) [(.t 29),(.t 30),(Acx 2)],none,[6]⟩,
 Ll 32 (Ofx F3i [(.t 27),(.t 28),(.t 31)]),
 Lw 26 32,
 Iex 33 26 0,
 Iex 34 26 1,
 Ll 8 (.box false 4 (.c (.arr 64 .leaf z64))),
 Ls (.store false Sx6 (.t 8) (.t 33)),
 Lw 9 34] [3,4,5,6,7,8,9])
 (.seq (.region [Lw 35 9,
 Lw 36 35,
 Lg 37 (.load Sx6 (.t 8)) 36 true,
 Lg 38 (Ofx F2w [(.t 37)]) 36 true,
 Lg 39 (.bin .leq (.t 38) (Acx 9)) 36 true,
 Ll 40 (.pick (.t 36) (.t 39) (.c (.bool false)))] [3,4,5,6,7,8,40])
 (.cond (.t 40)
 (.region [Ipx 41 8,
 Ls (.store false Sx6 (.t 6) (.t 41))] [3,4,5,6,7])
 (.skip)))))
 (.region [Lw 24 7,
 Ll 25 (.bin .sub (.t 24) (Acx 1)),
 Lw 7 25] [3,4,5,6,7]))
def Z3o_B:Cd:=
 .seq (.region [Ll 2 (.mv (Acx 0)),
 Ll 3 (.box false 0 (.c (.arr 64 .leaf z64)))] [0,3])
 (.seq (.region [Lw 10 0,
 Ll 11 (.call .heap [1] (.f F31) [(.t 10)]),
 Lw 4 11] [3,4])
 (.seq (.region [Lw 12 4,
 Ll 13 (.call .heap [] (.f F30) [(.t 12)]),
 Lw 5 13] [3,4,5])
 (.seq (.region [Lw 14 4,
 Lw 15 5,
 Lw 16 4,
 Ll 17 (.buildSl false 2 .leaf (.int .i64 0) 3 [(0,(Acx 4)),(1,(Acx 6)),(2,(Acx 8))]),
 Ll 18 (.call .heap [] (.f F3e) [(.t 16),(.t 17)]),
 Ll 19 (.call .heap [] (.f F2y) [(.t 14),(.t 15),(.t 18)]),
 Ll 6 (.box false 3 (.c (.arr 64 .leaf z64))),
 Ls (.store false Sx6 (.t 6) (.t 19))] [3,4,5,6])
 (.seq (.seq (.region [Lw 20 4,
 Ll 21 (.call .heap [] (.f F3b) [(.t 20),(Acx 3)]),
 Lw 7 21] [3,4,5,6,7])
 (.block 0 (.loop (Z3o_L0))))
 (.seq (.seq (.region [Lw 42 4,
 Ll 43 (.call .heap [] (.f F3b) [(.t 42),(Acx 24)]),
 Ll 44 (.bin .eql (.t 43) (Acx 0))] [3,4,5,6,44])
 (.cond (.t 44)
 (.region [Lw 45 4,
 Lw 46 5,
 Ll 47 (.call .heap [] (.f F2y) [(.t 45),(.t 46),(Acx 20)]),
 Ls (.store false Sx6 (.t 6) (.t 47))] [3,4,5,6])
 (.skip)))
 (.seq (.region [Lw 48 5,
 Lw 49 4,
 Lw 50 5,
 Ipx 51 6,
 Ll 52 (.call .heap [] (.f F2s) [(.t 49),(.t 50),(.t 51)]),
 Lw 2 48,
 Ls (.store false Sx6 (.t 3) (.t 52))] [2,3])
 (.ret)))))))
def Z3o:Fn:=
 { nparams:=1,nblk:=5,results:=[.tmp 2,.cell 3 Sx6],body:=Z3o_B }
def Z3k_B:Cd:=
 .seq (.region [Ll 5 (.box false 0 (.t 1)),
 Ll 8 (.mv (Acx 0))] [0,2,3,5])
 (.seq (.block 0 (.seq (.region [Lw 10 0,
 Ipx 11 5,
 Ll 12 (.buildSl false 1 Sx6 (.arr 64 .leaf z64) 1 [(0,(.t 11))]),
 Ll 13 (Ofx F2u [(.t 10),(.t 12)]),
 Ll 14 (.bin .neq (.t 13) (Acx 0)),
 Lw 9 14] [2,3,5,9])
 (.cond (.t 9)
 (.seq (.region [Ll 8 (.mv (Acx 1))] [8])
 (.ret))
 (.seq (.region [Ipx 16 5,
 Ll 17 (Ofx F2w [(.t 16)]),
 Lw 18 2,
 Lw 19 3,
 Ll 20 (Ofx F33 [(.t 17),(.t 18),(.t 19)]),
 Ll 21 (.un .not (.t 20)),
 Lw 15 21] [15])
 (.cond (.t 15)
 (.seq (.region [Ll 8 (.mv (Acx 2))] [8])
 (.ret))
 (.skip))))))
 (.seq (.region [Ll 8 (.mv (Acx 0))] [8])
 (.ret)))
def Z3k:Fn:=
 { nparams:=4,nblk:=2,results:=[.tmp 8],body:=Z3k_B }
def Z2k_B:Cd:=
 .seq (.region [Ll 2 (.mv (Acx 0)),
 Ll 3 (.box false 0 (.c (.arr 64 .leaf z64)))] [0,3])
 (.seq (.region [Lw 4 0,
 Ll 5 (Ofx F3o [(.t 4)]),
 Iex 6 5 0,
 Iex 7 5 1,
 Lw 2 6,
 Ls (.store false Sx6 (.t 3) (.t 7))] [2,3])
 (.ret))
def Z2k:Fn:=
 { nparams:=1,nblk:=1,results:=[.tmp 2,.cell 3 Sx6],body:=Z2k_B }
def Z2n_B:Cd:=
 .seq (.region [Ll 3 (.box false 0 (.t 1)),
 Ll 4 (.mv (.c (.sl (.st [Sx6,.leaf]) []))),
 Ll 5 (.mv (Acx 0))] [0,3])
 (.seq (.seq (.region [Lw 7 0,
 Ipx 8 3,
 Ll 9 (Ofx F3k [(.t 7),(.t 8),(Acx 0),(Acx 12)]),
 Lw 6 9] [0,3,6])
 (.seq (.region [Lw 10 6,
 Ll 11 (.bin .neq (.t 10) (Acx 0))] [0,3,6,11])
 (.cond (.t 11)
 (.seq (.region [Lw 12 6,
 Ll 4 (.mv (.c (.sl (.st [Sx6,.leaf]) []))),
 Lw 5 12] [4,5])
 (.ret))
 (.skip))))
 (.seq (.region [Lw 13 0,
 Ipx 14 3,
 Ll 15 (Opx F3n [(.t 13),(.t 14)]),
 Lw 4 15,
 Ll 5 (.mv (Acx 0))] [4,5])
 (.ret)))
def Z2n:Fn:=
 { nparams:=2,nblk:=1,results:=[.tmp 4,.tmp 5],body:=Z2n_B }
def Z2q_L0:Cd:=
 .seq (.seq (.region [Lw 19 9,
 Lw 20 7,
 Ll 21 (.len false (.t 20)),
 Ll 22 (.bin .lss (.t 19) (.t 21))] [7,8,9,22])
 (.cond (.t 22)
 (.skip)
 (.exit 0)))
 (.seq (.block 1 (.seq (.seq (.region [Lw 25 7,
 Lw 26 9,
 Ll 27 (.idxA none (.st [Sx6,.leaf]) (.t 25) (.t 26)),
 Ll 28 (.fldA [Sx6,.leaf] (.t 27) 1),
 Ilx 29 28,
 Ll 30 (.bin .gtr (.t 29) (Acx 1))] [7,8,9,30])
 (.cond (.t 30)
 (.seq (.region [Ll 4 (.mv (Acx 0)),
 Ll 5 (.mv (Acx 0))] [4,5])
 (.ret))
 (.skip)))
 (.region [Lw 31 8,
 Ll 32 (.un .neg (.t 31)),
 Lw 8 32] [7,8,9])))
 (.region [Lw 23 9,
 Ll 24 (.bin .add (.t 23) (Acx 1)),
 Lw 9 24] [7,8,9]))
def Z2q_B:Cd:=
 .seq (.region [Ll 3 (.box false 0 (.t 1)),
 Ll 4 (.mv (Acx 0)),
 Ll 5 (.mv (Acx 0))] [0,3])
 (.seq (.seq (.region [Lw 10 0,
 Ipx 11 3,
 Ll 12 (Ofx F3k [(.t 10),(.t 11),(Acx 0),(Acx 12)]),
 Lw 6 12] [0,3,6])
 (.seq (.region [Lw 13 6,
 Ll 14 (.bin .neq (.t 13) (Acx 0))] [0,3,6,14])
 (.cond (.t 14)
 (.seq (.region [Lw 15 6,
 Ll 4 (.mv (Acx 0)),
 Lw 5 15] [4,5])
 (.ret))
 (.skip))))
 (.seq (.region [Lw 16 0,
 Ipx 17 3,
 Ll 18 (Opx F3n [(.t 16),(.t 17)]),
 Lw 7 18,
 Ll 8 (.mv (Acx 1))] [7,8])
 (.seq (.seq (.region [Ll 9 (.mv (Acx 0))] [7,8,9])
 (.block 0 (.loop (Z2q_L0))))
 (.seq (.region [Lw 33 8,
 Lw 4 33,
 Ll 5 (.mv (Acx 0))] [4,5])
 (.ret)))))
def Z2q:Fn:=
 { nparams:=2,nblk:=1,results:=[.tmp 4,.tmp 5],body:=Z2q_B }
def Z2l_B:Cd:=
 .seq (.region [Ll 2 (.mv (Acx 0)),
 Ll 3 (.mv (Acx 0))] [0])
 (.seq (.region [Lw 5 0,
 Ll 6 (.call .heap [0] (.f F31) [(.t 5)]),
 Lw 4 6] [4])
 (.seq (.region [Lw 7 4,
 Ll 8 (.buildSl false 1 .leaf (.int .i64 0) 5 [(0,(Acx 2)),(1,(Acx 3)),(2,(Acx 5)),(3,(Acx 7)),(4,(Acx 4))]),
 Ll 9 (.call .heap [] (.f F3e) [(.t 7),(.t 8)]),
 Lw 10 4,
 Ll 11 (.call .heap [] (.f F3b) [(.t 10),(Acx 6)]),
 Lw 2 9,
 Lw 3 11] [2,3])
 (.ret)))
def Z2l:Fn:=
 { nparams:=1,nblk:=2,results:=[.tmp 2,.tmp 3],body:=Z2l_B }
def Z2j_B:Cd:=
 .seq (.region [Ll 2 (.mv (Acx 0)),
 Ll 3 (.mv (Acx 0))] [0])
 (.seq (.region [Lw 5 0,
 Ll 6 (.call .heap [0] (.f F31) [(.t 5)]),
 Lw 4 6] [4])
 (.seq (.region [Lw 7 4,
 Ll 8 (.buildSl false 1 .leaf (.int .i64 0) 5 [(0,(Acx 2)),(1,(Acx 3)),(2,(Acx 5)),(3,(Acx 7)),(4,(Acx 4))]),
 Ll 9 (.call .heap [] (.f F3e) [(.t 7),(.t 8)]),
 Lw 10 4,
 Ll 11 (.call .heap [] (.f F3a) [(.t 10),(Acx 20)]),
 Lw 2 9,
 Lw 3 11] [2,3])
 (.ret)))
def Z2j:Fn:=
 { nparams:=1,nblk:=2,results:=[.tmp 2,.tmp 3],body:=Z2j_B }
def Z3l_L0:Cd:=
 .seq (.seq (.region [Lw 5 4,
 Lw 6 0,
 Ll 7 (.bin .leq (.t 5) (.t 6))] [0,3,4,7])
 (.cond (.t 7)
 (.skip)
 (.exit 0)))
 (.seq (.block 1 (.seq (.seq (.region [Lw 10 0,
 Lw 11 4,
 Ll 12 (.bin .rem (.t 10) (.t 11)),
 Ll 13 (.bin .neq (.t 12) (Acx 0))] [0,3,4,13])
 (.cond (.t 13)
 (.exit 1)
 (.skip)))
 (.seq (.region [Lw 14 0,
 Lw 15 4,
 Ll 16 (.bin .quo (.t 14) (.t 15)),
 Lw 0 16] [0,3,4])
 (.seq (.seq (.region [Lw 17 0,
 Lw 18 4,
 Ll 19 (.bin .rem (.t 17) (.t 18)),
 Ll 20 (.bin .eql (.t 19) (Acx 0))] [0,3,4,20])
 (.cond (.t 20)
 (.seq (.region [Ll 2 (.mv (Acx 0))] [2])
 (.ret))
 (.skip)))
 (.region [Lw 21 3,
 Ll 22 (.un .neg (.t 21)),
 Lw 3 22] [0,3,4])))))
 (.region [Lw 8 4,
 Ll 9 (.bin .add (.t 8) (Acx 1)),
 Lw 4 9] [0,3,4]))
def Z3l_B:Cd:=
 .seq (.region [Ll 2 (.mv (Acx 0))] [0])
 (.seq (.region [Ll 3 (.mv (Acx 1))] [0,3])
 (.seq (.seq (.region [Ll 4 (.mv (Acx 2))] [0,3,4])
 (.block 0 (.loop (Z3l_L0))))
 (.seq (.region [Lw 23 3,
 Lw 2 23] [2])
 (.ret))))
def Z3l:Fn:=
 { nparams:=1,nblk:=0,results:=[.tmp 2],body:=Z3l_B }
def Z2i_L0:Cd:=
 .seq (.seq (.region [Lw 16 7,
 Lw 17 1,
 Ll 18 (.bin .leq (.t 16) (.t 17))] [0,1,6,7,18])
 (.cond (.t 18)
 (.skip)
 (.exit 1)))
 (.seq (.block 2 (.seq (.region [Lw 21 1,
 Lw 22 7,
 Ll 23 (.bin .rem (.t 21) (.t 22)),
 Ll 24 (.bin .eql (.t 23) (Acx 0))] [0,1,6,7,24])
 (.cond (.t 24)
 (.region [Lw 25 6,
 Lw 26 7,
 Ll 27 (Ofx F3l [(.t 26)]),
 Lw 28 0,
 Lw 29 1,
 Lw 30 7,
 Ll 31 (.bin .quo (.t 29) (.t 30)),
 Ll 32 (Ofx F3m [(.t 28),(.t 31)]),
 Ll 33 (.bin .mul (.t 27) (.t 32)),
 Ll 34 (.bin .add (.t 25) (.t 33)),
 Lw 6 34] [0,1,6,7])
 (.skip))))
 (.region [Lw 19 7,
 Ll 20 (.bin .add (.t 19) (Acx 1)),
 Lw 7 20] [0,1,6,7]))
def Z2i_B:Cd:=
 .seq (.region [Ll 4 (.mv (Acx 0)),
 Ll 5 (.mv (Acx 0))] [0,1])
 (.seq (.block 0 (.seq (.region [Lw 9 0,
 Ll 10 (Ofx F3g [(.t 9)]),
 Ll 11 (.un .not (.t 10)),
 Lw 8 11] [0,1,8])
 (.cond (.t 8)
 (.seq (.region [Ll 4 (.mv (Acx 0)),
 Ll 5 (.mv (Acx 1))] [4,5])
 (.ret))
 (.seq (.region [Lw 13 1,
 Ll 14 (Ofx F33 [(.t 13),(Acx 1),(Acx 20)]),
 Ll 15 (.un .not (.t 14)),
 Lw 12 15] [0,1,12])
 (.cond (.t 12)
 (.seq (.region [Ll 4 (.mv (Acx 0)),
 Ll 5 (.mv (Acx 2))] [4,5])
 (.ret))
 (.skip))))))
 (.seq (.region [Ll 6 (.mv (Acx 0))] [0,1,6])
 (.seq (.seq (.region [Ll 7 (.mv (Acx 1))] [0,1,6,7])
 (.block 1 (.loop (Z2i_L0))))
 (.seq (.region [Lw 35 6,
 Lw 36 1,
 Ll 37 (.bin .quo (.t 35) (.t 36)),
 Lw 4 37,
 Ll 5 (.mv (Acx 0))] [4,5])
 (.ret)))))
def Z2i:Fn:=
 { nparams:=2,nblk:=0,results:=[.tmp 4,.tmp 5],body:=Z2i_B }
def Z2m_B:Cd:=
 .seq (.region [Ll 2 (.mv (Acx 0)),
 Ll 3 (.box false 0 (.c (.arr 64 .leaf z64)))] [0,3])
 (.seq (.region [Lw 8 0,
 Ll 9 (.call .heap [1] (.f F31) [(.t 8)]),
 Lw 4 9] [0,3,4])
 (.seq (.seq (.region [Lw 10 4,
 Ll 11 (.call .heap [] (.f F3b) [(.t 10),(Acx 2)]),
 Ll 12 (.bin .eql (.t 11) (Acx 0))] [0,3,4,12])
 (.cond (.t 12)
 (.seq (.region [Lw 13 4,
 Ll 14 (.call .heap [] (.f F30) [(.t 13)]),
 Lw 5 14] [3,4,5])
 (.seq (.region [Lw 15 5,
 Lw 16 4,
 Lw 17 5,
 Ll 18 (.call .heap [] (.f F2z) [(.t 16),(.t 17),(Acx 8)]),
 Lw 2 15,
 Ls (.store false Sx6 (.t 3) (.t 18))] [2,3])
 (.ret)))
 (.skip)))
 (.seq (.region [Lw 20 0,
 Ll 21 (Ofx F3o [(.t 20)]),
 Lw 19 21,
 Iex 22 19 0,
 Iex 23 19 1,
 Ll 7 (.box false 2 (.c (.arr 64 .leaf z64))),
 Lw 6 22,
 Ls (.store false Sx6 (.t 7) (.t 23))] [3,6,7])
 (.seq (.region [Lw 24 6,
 Ipx 25 7,
 Lw 2 24,
 Ls (.store false Sx6 (.t 3) (.t 25))] [2,3])
 (.ret)))))
def Z2m:Fn:=
 { nparams:=1,nblk:=3,results:=[.tmp 2,.cell 3 Sx6],body:=Z2m_B }
def Z2p_B:Cd:=
 .seq (.region [Ll 3 (.box false 0 (.t 1)),
 Ll 4 (.mv (.c (.bool false))),
 Ll 5 (.mv (Acx 0))] [0,3])
 (.seq (.seq (.region [Lw 7 0,
 Ipx 8 3,
 Ll 9 (Ofx F3k [(.t 7),(.t 8),(Acx (-1)),(Acx 12)]),
 Lw 6 9] [0,3,6])
 (.seq (.region [Lw 10 6,
 Ll 11 (.bin .neq (.t 10) (Acx 0))] [0,3,6,11])
 (.cond (.t 11)
 (.seq (.region [Lw 12 6,
 Ll 4 (.mv (.c (.bool false))),
 Lw 5 12] [4,5])
 (.ret))
 (.skip))))
 (.seq (.region [Ipx 13 3,
 Ll 14 (Ofx F38 [(.t 13)]),
 Lw 15 14,
 Lx 16 0 15 true,
 Lg 17 (.load Sx6 (.t 3)) 15 true,
 Lg 18 (Ofx F35 [(.t 16),(.t 17)]) 15 true,
 Ll 19 (.pick (.t 15) (.t 18) (.c (.bool false))),
 Lw 4 19,
 Ll 5 (.mv (Acx 0))] [4,5])
 (.ret)))
def Z2p:Fn:=
 { nparams:=2,nblk:=1,results:=[.tmp 4,.tmp 5],body:=Z2p_B }
end Pe

namespace Gq
section
variable {K:Type} [Fd K]
theorem Pol.mod_eq_iff {a b m:Pol K} (hm:m≠0):a%m=b%m↔Quo.mk m a=Quo.mk m b:=by
 rw [Quo.eq];constructor
 ·intro h
  refine ⟨a/m-b/m,?_⟩;have h1:=div_mod a m;have h2:=div_mod b m;rw [h] at h1;generalize a/m=q at *;generalize b/m=q' at *;rw [h1];have e:q*m+b%m=(q'*m+b%m)+m*(q-q'):=c6 [q,q',m,b%m] rfl;rw [e,←h2]
 ·rintro ⟨c,rfl⟩
  have h2:=div_mod b m;refine (div_mod_eq (q:=b/m+c) ?_ (len_mod b hm)).2;have e:b+m*c=(b/m*m+b%m)+m*c:=by rw [←h2]
  rw [e];exact c6 [b/m,m,b%m,c] rfl
theorem Pol.mk_mod (a m:Pol K):Quo.mk m (a%m)=Quo.mk m a:=by
 rw [Quo.eq];refine ⟨-(a/m),?_⟩;have h:=div_mod a m;have e:a%m=(a/m*m+a%m)+m * -(a/m):=c6 [a/m,m,a%m] rfl;rw [e,←h]
theorem Pol.mod_small {a m:Pol K} (h:a.len<m.len):a%m=a:=(div_mod_eq (q:=0) (by rw [zero_mul,zero_add]) h).2
theorem Pol.zero_mod {m:Pol K} (hm:m≠0):(0:Pol K)%m=0:=mod_small (by rw [len_zero]; exact len_pos hm)
theorem Pol.div_small {a m:Pol K} (h:a.len<m.len):a/m=0:=(div_mod_eq (q:=0) (by rw [zero_mul,zero_add]) h).1
theorem Pol.mul_mod_left (a b:Pol K) {m:Pol K} (hm:m≠0):(a%m)*b%m=a*b%m:=by
 rw [mod_eq_iff hm,Quo.mk_mul,Quo.mk_mul,mk_mod]
theorem Pol.mod_self_mul (a:Pol K) {m:Pol K} (hm:m≠0):(a*m)%m=0:=
 (div_mod_eq (q:=a) (by rw [add_zero]) (by rw [len_zero]; exact len_pos hm)).2
theorem Pol.len_mod_le (a:Pol K) {m:Pol K} (hm:m≠0):(a%m).len≤a.len:=by
 rcases ct a.len m.len with h | h
 ·rw [mod_small h]; exact az _
 ·have:=len_mod a hm; omega
theorem Pol.len_div {a m:Pol K} (hm:m≠0) (h:m.len≤a.len):(a/m).len+m.len=a.len+1:=by
 have h1:=div_mod a m;have h2:=len_mod a hm;have h3:=len_pos hm
 by_cases hq:a/m=0
 ·rw [hq,zero_mul,zero_add] at h1
  rw [←h1] at h2; omega
 ·have h4:=len_mul hq hm
  have h5:=len_pos hq
  have e:a.len=(a/m*m).len:=by
   apply Nat.le_antisymm
   ·rw [h1]
    exact len_le (lt_add (by rw [←h1]; exact lt_len _) (lt_iff.2 (by rw [←h1]; omega)))
   ·have:a/m*m=a-a%m:=by
     have e:a-a%m=(a/m*m+a%m)-a%m:=by rw [←h1]
     rw [e]; exact c6 [a/m*m,a%m] rfl
    rw [this];exact len_le (lt_sub a.lt_len (lt_iff.2 (by omega)))
  omega
theorem Pol.len_div_le (a:Pol K) {m:Pol K} (hm:m≠0):(a/m).len≤a.len:=by
 rcases ct a.len m.len with h | h
 ·rw [div_small h,len_zero]; omega
 ·have:=len_div hm h
  have:=len_pos hm;omega
theorem uf {R:Type} [CR R] (a:R) (m:Nat):∀n,pw a (m+n)=pw a m*pw a n
 | 0=>(mul_one _).symm
 | n+1=>by rw [←fm,pw,uf a m n,pw,mul_assoc]
theorem zi {R:Type} [CR R] (a b:R):∀n,pw (a*b) n=pw a n*pw b n
 | 0=>(mul_one _).symm
 | n+1=>by rw [pw,pw,pw,zi a b n]; exact c6 [a,b,pw a n,pw b n] rfl
theorem tu {R:Type} [CR R] (a:R) (m:Nat):∀n,pw (pw a m) n=pw a (m*n)
 | 0=>rfl
 | n+1=>by rw [pw,tu a m n,Nat.mul_succ,uf]
theorem G2 {R:Type} [CR R]:∀n,pw (1:R) n=1
 | 0=>rfl
 | n+1=>by rw [pw,G2 n,mul_one]
theorem tw {R:Type} [CR R] (a:R):pw a 1=a:=one_mul a
theorem Pol.pow_mod (a:Pol K) {m:Pol K} (hm:m≠0) (n:Nat):pw (a%m) n%m=pw a n%m:=by
 rw [mod_eq_iff hm,Quo.mk_pow,Quo.mk_pow,mk_mod]
theorem Pol.bin_step {out base m:Pol K} (hm:m≠0) (k:Nat) (_hk:0<k) :
 (if k%2=1 then out*base%m else out)*pw (base*base%m) (k/2)%m=out*pw base k%m:=by
 rw [mod_eq_iff hm,Quo.mk_mul,Quo.mk_mul,Quo.mk_pow,mk_mod,Quo.mk_mul,zi,Quo.mk_pow,←uf]
 split
 ·rename_i h
  rw [mk_mod,Quo.mk_mul];have e:k=1+(k/2+k/2):=by omega
  have e2:pw (Quo.mk m base) k=Quo.mk m base*pw (Quo.mk m base) (k/2+k/2):=by
   have:=uf (Quo.mk m base) 1 (k/2+k/2)
   rwa [←e,tw] at this
  rw [e2,mul_assoc]
 ·rename_i h
  have e:k/2+k/2=k:=by omega
  rw [e]
open Classical in
noncomputable def Pol.bz:Nat→Pol K→Pol K→Pol K→Pol K→Pol K→Pol K→Pol K×Pol K×Pol K
 | 0,a,_,u,_,v,_=>(a,u,v)
 | n+1,a,b,u,x,v,y=>if b=0 then (a,u,v) else bz n b (a%b) x (u-a/b*x) y (v-a/b*y)
structure Pol.BzI (A B a b u x v y:Pol K):Prop where
 one:u*A+v*B=a
 two:x*A+y*B=b
 lx:x.len=0∨x.len+a.len≤B.len+1
 ly:y.len=0∨y.len+a.len≤A.len+1
 lu:u.len=0∨u.len+b.len≤B.len+1
 lv:v.len=0∨v.len+b.len≤A.len+1
 any:a≠0∨b≠0
theorem Pol.BzI.init {A B:Pol K} (h:A≠0∨B≠0):BzI A B A B 1 0 0 1:=
 ⟨c6 [A,B] rfl,c6 [A,B] rfl,.inl len_zero,.inr (by rw [len_one]; omega),.inr (by rw [len_one]; omega),.inl len_zero,h⟩
theorem Pol.len_sub_le {a b:Pol K} {n:Nat} (ha:a.len≤n) (hb:b.len≤n):(a-b).len≤n:=len_le (lt_sub (lt_iff.2 ha) (lt_iff.2 hb))
theorem Pol.len_add_le {a b:Pol K} {n:Nat} (ha:a.len≤n) (hb:b.len≤n):(a+b).len≤n:=len_le (lt_add (lt_iff.2 ha) (lt_iff.2 hb))
theorem Pol.BzI.qlen {A B a b u x v y:Pol K} (h:BzI A B a b u x v y) (hb:b≠0) :
 ((a/b*x).len=0∨(a/b*x).len+b.len≤B.len+1)∧((a/b*y).len=0∨(a/b*y).len+b.len≤A.len+1):=by
 have key:∀(x:Pol K) (n:Nat),(x.len=0∨x.len+a.len≤n+1)→((a/b*x).len=0∨(a/b*x).len+b.len≤n+1):=by
  intro x n hx
  by_cases hx0:x=0
  ·left; rw [hx0,mul_zero,len_zero]
  ·rcases ct a.len b.len with hl | hl
   ·left; rw [div_small hl,zero_mul,len_zero]
   ·have h1:=len_div hb hl
    have hq:a/b≠0:=fun h0=>by
     rw [h0,len_zero] at h1;omega
    have h2:=len_mul hq hx0;have h3:=len_pos hx0;right; omega
 exact ⟨key x B.len h.lx,key y A.len h.ly⟩
theorem Pol.BzI.step {A B a b u x v y:Pol K} (h:BzI A B a b u x v y) (hb:b≠0):BzI A B b (a%b) x (u-a/b*x) y (v-a/b*y):=by
 have hm:=div_mod a b;have hl:=len_mod a hb;have hle:=len_mod_le a hb;obtain ⟨q1,q2⟩:=h.qlen hb
 have sub:∀(u q:Pol K) (n:Nat),(u.len=0∨u.len+b.len≤n+1)→(q.len=0∨q.len+b.len≤n+1)→((u-q).len=0∨(u-q).len+b.len≤n+1):=by
  intro u q n h1 h2
  by_cases hn:n+1≤b.len
  ·left
   have e1:u.len=0:=by omega
   have e2:q.len=0:=by omega
   have:=len_sub_le (a:=u) (b:=q) (n:=0) (by omega) (by omega)
   omega
  ·right
   have:=len_sub_le (a:=u) (b:=q) (n:=n+1-b.len) (by omega) (by omega)
   omega
 refine ⟨h.two,?_,sub _ _ _ h.lu q1,sub _ _ _ h.lv q2,?_,?_,.inl hb⟩
 ·have e:(u-a/b*x)*A+(v-a/b*y)*B=(u*A+v*B)-a/b*(x*A+y*B):=c6 [u,a/b,x,A,v,y,B] rfl
  rw [e,h.one,h.two];have e2:a-a/b*b=(a/b*b+a%b)-a/b*b:=by rw [←hm]
  rw [e2];exact c6 [a/b,b,a%b] rfl
 ·exact h.lx.imp id fun h=>by omega
 ·exact h.ly.imp id fun h=>by omega
theorem Pol.bz_spec {A B:Pol K}:∀(n:Nat) (a b u x v y:Pol K),b.len≤n→BzI A B a b u x v y →
 ∃x' y',BzI A B (bz n a b u x v y).1 0 (bz n a b u x v y).2.1 x' (bz n a b u x v y).2.2 y'∧(∃s,a=s*(bz n a b u x v y).1)∧(∃s,b=s*(bz n a b u x v y).1)
 | 0,a,b,u,x,v,y,hn,h=>by
  obtain rfl:=len_zero_iff.1 (show b.len=0 by omega)
  exact ⟨x,y,h,⟨1,(one_mul a).symm⟩,⟨0,(zero_mul a).symm⟩⟩
 | n+1,a,b,u,x,v,y,hn,h=>by
  unfold bz
  split
  ·rename_i hb
   subst hb;exact ⟨x,y,h,⟨1,(one_mul a).symm⟩,⟨0,(zero_mul a).symm⟩⟩
  ·rename_i hb
   have hl:=len_mod a hb;obtain ⟨x',y',h1,⟨s,h2⟩,⟨t,h3⟩⟩:=bz_spec n b (a%b) x (u-a/b*x) y (v-a/b*y) (by omega) (h.step hb)
   refine ⟨x',y',h1,⟨a/b*s+t,?_⟩,⟨s,h2⟩⟩;generalize (bz n b (a%b) x (u-a/b*x) y (v-a/b*y)).1=d at *;have e:(a/b*s+t)*d=a/b*(s*d)+t*d:=c6 [a/b,s,t,d] rfl;rw [e,←h2,←h3];exact div_mod a b
noncomputable def Pol.eu (a b:Pol K):Pol K×Pol K×Pol K:=bz b.len a b 1 0 0 1
noncomputable def Pol.bezout (a b:Pol K):Pol K×Pol K×Pol K:=
 let r:=eu a b
 (C (Fd.inv r.1.ld)*r.1,C (Fd.inv r.1.ld)*r.2.1,C (Fd.inv r.1.ld)*r.2.2)
noncomputable def Pol.gcd (a b:Pol K):Pol K:=(bezout a b).1
end
end Gq
