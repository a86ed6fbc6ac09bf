/-
  A part of the proof: an evaluator for a small form of the code, its soundness, and contracts of functions over it.
-/
import GoSem.Core.View
import Derived.Test.YtmiehgdodocfcabGreatW1
import Derived.Test.YtmiehgdodocfcabGreatW2

/-
 Functions of the program in the small form,printed by a program.
-/
namespace Pe
open Go
def Z1r_L0:Cd:=
 .seq (.seq (.region [Lw 6 3,
 Ll 7 (.bin .gtr (.t 6) (Acx 0)),
 Lw 8 7,
 Lx 9 0 8 true,
 Lx 10 3 8 true,
 Lg 11 (.bin .sub (.t 10) (Acx 1)) 8 true,
 Lg 12 (.idxA none .leaf (.t 9) (.t 11)) 8 true,
 Lg 13 (.load .leaf (.t 12)) 8 true,
 Lg 14 (.bin .eql (.t 13) (Acx 0)) 8 true,
 Ll 15 (.pick (.t 8) (.t 14) (.c (.bool false)))] [0,3,15])
 (.cond (.t 15)
 (.skip)
 (.exit 0)))
 (.block 1 (.region [Lw 16 3,
 Ll 17 (.bin .sub (.t 16) (Acx 1)),
 Lw 3 17] [0,3]))
def Z1r_B:Cd:=
 .seq (.region [Ll 2 (.mv (.c (.sl .leaf [])))] [0])
 (.seq (.region [Lw 4 0,
 Ll 5 (.len false (.t 4)),
 Lw 3 5] [0,3])
 (.seq (.block 0 (.loop (Z1r_L0)))
 (.seq (.region [Lw 18 0,
 Lw 19 3,
 Lw 20 3,
 Ll 21 (.cut none .leaf (.t 18) none (some (.t 19)) (some (.t 20))),
 Lw 2 21] [2])
 (.ret))))
def Z1r:Fn:=
 { nparams:=1,nblk:=0,results:=[.tmp 2],body:=Z1r_B }
def Z1m_L0:Cd:=
 .seq (.region [Ll 8 (.bin .lss (.t 7) (Acx 64))] [3,6,7,8])
 (.seq (.cond (.t 8)
 (.skip)
 (.exit 0))
 (.seq (.block 1 (.seq (.region [Ll 9 (.idx (some 64) .leaf (.t 6) (.t 7)),
 Lw 5 9] [3,5,6,7])
 (.region [Lw 10 3,
 Lw 11 5,
 Ll 12 (.conv .i64 (.t 11)),
 Ll 13 (.buildSl false 2 .leaf (.int .i64 0) 1 [(0,(.t 12))]),
 Ll 14 (.append .leaf 3 8 (.t 10) (.t 13)),
 Lw 3 14] [3,6,7])))
 (.region [Ll 15 (.bin .add (.t 7) (Acx 1)),
 Lw 7 15] [3,6,7])))
def Z1m_B:Cd:=
 .seq (.region [Ll 1 (.box false 0 (.t 0)),
 Ll 2 (.mv (.c (.sl .leaf [])))] [1])
 (.seq (.region [Ll 3 (.nilOwn 1 .leaf)] [1,3])
 (.seq (.seq (.region [Ipx 6 1,
 Ll 7 (.mv (Acx 0))] [3,6,7])
 (.block 0 (.loop (Z1m_L0))))
 (.seq (.region [Lw 16 3,
 Ll 17 (.call .data [] (.f F1r) [(.t 16)]),
 Lw 2 17] [2])
 (.ret))))
def Z1m:Fn:=
 { nparams:=1,nblk:=4,results:=[.tmp 2],body:=Z1m_B }
def Z1o_B:Cd:=
 .seq (.region [Ll 2 (.mv (Acx 0))] [0])
 (.seq (.region [Lw 3 0,
 Ll 4 (.len false (.t 3)),
 Ll 5 (.bin .sub (.t 4) (Acx 1)),
 Lw 2 5] [2])
 (.ret))
def Z1o:Fn:=
 { nparams:=1,nblk:=0,results:=[.tmp 2],body:=Z1o_B }
def Z10_B:Cd:=
 .seq (.region [Ll 2 (.mv (.c (.bool false)))] [0])
 (.seq (.region [Lw 3 0,
 Ll 4 (.bin .eql (.t 3) (Acx 2)),
 Lw 5 4,
 Lx 6 0 5 false,
 Lg 7 (.bin .eql (.t 6) (Acx 3)) 5 false,
 Ll 8 (.pick (.t 5) (.c (.bool true)) (.t 7)),
 Lw 9 8,
 Lx 10 0 9 false,
 Lg 11 (.bin .eql (.t 10) (Acx 5)) 9 false,
 Ll 12 (.pick (.t 9) (.c (.bool true)) (.t 11)),
 Lw 13 12,
 Lx 14 0 13 false,
 Lg 15 (.bin .eql (.t 14) (Acx 7)) 13 false,
 Ll 16 (.pick (.t 13) (.c (.bool true)) (.t 15)),
 Lw 2 16] [2])
 (.ret))
def Z10:Fn:=
 { nparams:=1,nblk:=0,results:=[.tmp 2],body:=Z10_B }
def Zi_B:Cd:=
 .seq (.region [Ll 2 (.box false 0 (.t 0)),
 Ll 3 (.mv (.c (.bool false)))] [1,2])
 (.seq (.region [Ilx 4 1,
 Ipx 5 2,
 Ll 6 (.call .flat [] (.t 4) [(.t 5)]),
 Ll 7 (.un .not (.t 6)),
 Lw 3 7] [3])
 (.ret))
def Zi:Fn:=
 { nparams:=2,nblk:=1,results:=[.tmp 3],body:=Zi_B }
def Zh_B:Cd:=
 .seq (.region [Ll 3 (.box false 0 (.t 1)),
 Ll 4 (.mv (.c (.bool false)))] [0,3])
 (.seq (.region [Lw 5 0,
 Ll 6 (.mkFn Fi [] [(.t 3)]),
 Ll 7 (Ofx F23 [(.t 5),(.t 6)]),
 Ll 8 (.un .not (.t 7)),
 Lw 4 8] [4])
 (.ret))
def Zh:Fn:=
 { nparams:=2,nblk:=1,results:=[.tmp 4],body:=Zh_B }
def Ze_B:Cd:=
 .seq (.region [Ll 3 (.mv (.c (.bool false)))] [0,1])
 (.seq (.region [Ilx 4 1,
 Lw 5 0,
 Ll 6 (.call .flat [] (.t 4) [(.t 5)]),
 Ll 7 (.un .not (.t 6)),
 Lw 3 7] [3])
 (.ret))
def Ze:Fn:=
 { nparams:=2,nblk:=0,results:=[.tmp 3],body:=Ze_B }
def Zc_B:Cd:=
 .seq (.region [Ll 3 (.box false 0 (.t 1)),
 Ll 4 (.mv (.c (.bool false)))] [0,3])
 (.seq (.region [Lw 5 0,
 Ll 6 (.mkFn Fe [] [(.t 3)]),
 Ll 7 (Ofx F21 [(.t 5),(.t 6)]),
 Ll 8 (.un .not (.t 7)),
 Lw 4 8] [4])
 (.ret))
def Zc:Fn:=
 { nparams:=2,nblk:=1,results:=[.tmp 4],body:=Zc_B }
def Zz_B:Cd:=
 .seq (.region [Ll 3 (.mv (.c (.bool false)))] [0,1])
 (.seq (.region [Lw 4 0,
 Ll 5 (.conv .i64 (.t 4)),
 Ilx 6 1,
 Ll 7 (.bin .lss (.t 5) (.t 6)),
 Lw 3 7] [3])
 (.ret))
def Zz:Fn:=
 { nparams:=2,nblk:=0,results:=[.tmp 3],body:=Zz_B }
def Zy_B:Cd:=
 .seq (.region [Ll 2 (.box false 0 (.t 0)),
 Ll 3 (.box false 1 (.t 1)),
 Ll 4 (.mv (.c (.bool false)))] [2,3])
 (.seq (.region [Ll 5 (.cut (some 64) .leaf (.t 3) none none none),
 Ll 6 (.mkFn Fz [] [(.t 2)]),
 Ll 7 (Ofx Fc [(.t 5),(.t 6)]),
 Lw 4 7] [4])
 (.ret))
def Zy:Fn:=
 { nparams:=2,nblk:=2,results:=[.tmp 4],body:=Zy_B }
def Z13_B:Cd:=
 .seq (.region [Ll 2 (.box false 0 (.t 0)),
 Ll 3 (.mv (.c (.bool false)))] [1,2])
 (.seq (.region [Ilx 4 1,
 Ipx 5 2,
 Ll 6 (Ofx Fy [(.t 4),(.t 5)]),
 Lw 3 6] [3])
 (.ret))
def Z13:Fn:=
 { nparams:=2,nblk:=1,results:=[.tmp 3],body:=Z13_B }
def Z12_B:Cd:=
 .seq (.region [Ll 2 (.box false 0 (.t 0)),
 Ll 4 (.mv (Acx 0))] [1,2])
 (.seq (.seq (.region [Ilx 5 2,
 Ll 6 (Ofx F10 [(.t 5)]),
 Ll 7 (.un .not (.t 6)),
 Lw 8 7,
 Lx 9 1 8 false,
 Lg 10 (.mkFn F13 [] [(.t 2)]) 8 false,
 Lg 11 (Ofx Fh [(.t 9),(.t 10)]) 8 false,
 Lg 12 (.un .not (.t 11)) 8 false,
 Ll 13 (.pick (.t 8) (.c (.bool true)) (.t 12))] [13])
 (.cond (.t 13)
 (.seq (.region [Ll 4 (.mv (Acx 1))] [4])
 (.ret))
 (.skip)))
 (.seq (.region [Ll 4 (.mv (Acx 0))] [4])
 (.ret)))
def Z12:Fn:=
 { nparams:=2,nblk:=1,results:=[.tmp 4],body:=Z12_B }
def Z1p_B:Cd:=
 .seq (.region [Ll 2 (.mv (Acx 0))] [0])
 (.seq (.seq (.region [Lw 3 0,
 Ll 4 (.len false (.t 3)),
 Ll 5 (.bin .eql (.t 4) (Acx 0))] [0,5])
 (.cond (.t 5)
 (.seq (.region [Ll 2 (.mv (Acx 0))] [2])
 (.ret))
 (.skip)))
 (.seq (.region [Lw 6 0,
 Lw 7 0,
 Ll 8 (.len false (.t 7)),
 Ll 9 (.bin .sub (.t 8) (Acx 1)),
 Ll 10 (.idxA none .leaf (.t 6) (.t 9)),
 Ilx 11 10,
 Lw 2 11] [2])
 (.ret)))
def Z1p:Fn:=
 { nparams:=1,nblk:=0,results:=[.tmp 2],body:=Z1p_B }
def Z1d_L0:Cd:=
 .seq (.region [Ll 10 (.bin .lss (.t 9) (.t 8))] [0,2,7,8,9,10])
 (.seq (.cond (.t 10)
 (.skip)
 (.exit 0))
 (.seq (.block 1 (.seq (.seq (.region [Lw 11 7,
 Lw 12 2,
 Ll 13 (.bin .gtr (.t 11) (.t 12))] [0,2,7,8,9,13])
 (.cond (.t 13)
 (.exit 0)
 (.skip)))
 (.region [Lw 14 7,
 Lw 15 0,
 Ll 16 (.bin .mul (.t 14) (.t 15)),
 Lw 7 16] [0,2,7,8,9])))
 (.region [Ll 17 (.bin .add (.t 9) (Acx 1)),
 Lw 9 17] [0,2,7,8,9])))
def Z1d_B:Cd:=
 .seq (.region [Ll 6 (.mv (Acx 0))] [0,1,2])
 (.seq (.region [Ll 7 (.mv (Acx 1))] [0,1,2,7])
 (.seq (.seq (.region [Lw 8 1,
 Ll 9 (.mv (Acx 0))] [0,2,7,8,9])
 (.block 0 (.loop (Z1d_L0))))
 (.seq (.region [Lw 18 7,
 Lw 6 18] [6])
 (.ret))))
def Z1d:Fn:=
 { nparams:=3,nblk:=0,results:=[.tmp 6],body:=Z1d_B }
def Z1e_L0:Cd:=
 .seq (.seq (.region [Lw 6 1,
 Ll 7 (.bin .gtr (.t 6) (Acx 0))] [0,1,5,7])
 (.cond (.t 7)
 (.skip)
 (.exit 0)))
 (.seq (.block 1 (.region [Lw 11 5,
 Lw 12 1,
 Lw 13 0,
 Ll 14 (.bin .rem (.t 12) (.t 13)),
 Ll 15 (.buildSl false 1 .leaf (.int .i64 0) 1 [(0,(.t 14))]),
 Ll 16 (.append .leaf 2 8 (.t 11) (.t 15)),
 Lw 5 16] [0,1,5]))
 (.region [Lw 8 1,
 Lw 9 0,
 Ll 10 (.bin .quo (.t 8) (.t 9)),
 Lw 1 10] [0,1,5]))
def Z1e_B:Cd:=
 .seq (.region [Ll 4 (.mv (.c (.sl .leaf [])))] [0,1])
 (.seq (.region [Ll 5 (.nilOwn 0 .leaf)] [0,1,5])
 (.seq (.block 0 (.loop (Z1e_L0)))
 (.seq (.region [Lw 17 5,
 Lw 4 17] [4])
 (.ret))))
def Z1e:Fn:=
 { nparams:=2,nblk:=3,results:=[.tmp 4],body:=Z1e_B }
def Z1c_L0:Cd:=
 .seq (.region [Ll 13 (.bin .lss (.t 12) (.t 11))] [0,5,6,11,12,13])
 (.seq (.cond (.t 13)
 (.skip)
 (.exit 0))
 (.seq (.block 1 (.seq (.region [Lw 14 12,
 Lw 7 14] [0,5,6,7,11,12])
 (.region [Lw 15 6,
 Lw 16 0,
 Lw 17 5,
 Lw 18 7,
 Ll 19 (.bin .add (.t 17) (.t 18)),
 Ll 20 (Opx F1e [(.t 16),(.t 19)]),
 Ll 21 (.buildSl false 1 .leaf (.sl .leaf []) 1 [(0,(.t 20))]),
 Ll 22 (.append .leaf 2 24 (.t 15) (.t 21)),
 Lw 6 22] [0,5,6,11,12])))
 (.region [Ll 23 (.bin .add (.t 12) (Acx 1)),
 Lw 12 23] [0,5,6,11,12])))
def Z1c_B:Cd:=
 .seq (.region [Ll 4 (.mv (.c (.sl .leaf [])))] [0,1])
 (.seq (.region [Lw 8 0,
 Lw 9 1,
 Ll 10 (Ofx F1d [(.t 8),(.t 9),(Acx 343)]),
 Lw 5 10] [0,5])
 (.seq (.region [Ll 6 (.nilOwn 0 .leaf)] [0,5,6])
 (.seq (.seq (.region [Lw 11 5,
 Ll 12 (.mv (Acx 0))] [0,5,6,11,12])
 (.block 0 (.loop (Z1c_L0))))
 (.seq (.region [Lw 24 6,
 Lw 4 24] [4])
 (.ret)))))
def Z1c:Fn:=
 { nparams:=2,nblk:=3,results:=[.tmp 4],body:=Z1c_B }
def Z1g_B:Cd:=
 .seq (.region [Ll 4 (.mv (Acx 0))] [0,1])
 (.seq (.region [Lw 5 1,
 Lw 6 0,
 Ll 7 (.bin .rem (.t 5) (.t 6)),
 Lw 8 0,
 Ll 9 (.bin .add (.t 7) (.t 8)),
 Lw 10 0,
 Ll 11 (.bin .rem (.t 9) (.t 10)),
 Lw 4 11] [4])
 (.ret))
def Z1g:Fn:=
 { nparams:=2,nblk:=0,results:=[.tmp 4],body:=Z1g_B }
def Z1n_B:Cd:=
 .seq (.region [Ll 4 (.mv (Acx 0))] [0,1])
 (.seq (.seq (.region [Lw 5 1,
 Lw 6 0,
 Ll 7 (.len false (.t 6)),
 Ll 8 (.bin .lss (.t 5) (.t 7))] [0,1,8])
 (.cond (.t 8)
 (.seq (.region [Lw 9 0,
 Lw 10 1,
 Ll 11 (.idxA none .leaf (.t 9) (.t 10)),
 Ilx 12 11,
 Lw 4 12] [4])
 (.ret))
 (.skip)))
 (.seq (.region [Ll 4 (.mv (Acx 0))] [4])
 (.ret)))
def Z1n:Fn:=
 { nparams:=2,nblk:=0,results:=[.tmp 4],body:=Z1n_B }
def Z15_L0:Cd:=
 .seq (.region [Ll 20 (.bin .lss (.t 19) (.t 18))] [0,1,2,3,9,18,19,20])
 (.seq (.cond (.t 20)
 (.skip)
 (.exit 0))
 (.seq (.block 1 (.seq (.region [Lw 21 19,
 Lw 10 21] [0,1,2,3,9,10,18,19])
 (.region [Lw 22 9,
 Lw 23 10,
 Lw 24 0,
 Lw 25 1,
 Lw 26 10,
 Ll 27 (Ofx F1n [(.t 25),(.t 26)]),
 Lw 28 3,
 Lw 29 2,
 Lw 30 10,
 Ll 31 (Ofx F1n [(.t 29),(.t 30)]),
 Ll 32 (.bin .mul (.t 28) (.t 31)),
 Ll 33 (.bin .add (.t 27) (.t 32)),
 Ll 34 (Ofx F1g [(.t 24),(.t 33)]),
 Ll 35 (.idxA none .leaf (.t 22) (.t 23)),
 Ls (.store false .leaf (.t 35) (.t 34))] [0,1,2,3,9,18,19])))
 (.region [Ll 36 (.bin .add (.t 19) (Acx 1)),
 Lw 19 36] [0,1,2,3,9,18,19])))
def Z15_B:Cd:=
 .seq (.region [Ll 8 (.mv (.c (.sl .leaf [])))] [0,1,2,3])
 (.seq (.region [Lw 11 1,
 Ll 12 (.len false (.t 11)),
 Lw 13 2,
 Ll 14 (.len false (.t 13)),
 Ll 15 (.maxI (.t 12) (.t 14)),
 Ll 16 (.mkSl 0 .leaf (.int .i64 0) 8 (.t 15) (.t 15)),
 Lw 9 16] [0,1,2,3,9])
 (.seq (.seq (.region [Lw 17 9,
 Ll 18 (.len false (.t 17)),
 Ll 19 (.mv (Acx 0))] [0,1,2,3,9,18,19])
 (.block 0 (.loop (Z15_L0))))
 (.seq (.region [Lw 37 9,
 Ll 38 (.call .data [] (.f F1r) [(.t 37)]),
 Lw 8 38] [8])
 (.ret))))
def Z15:Fn:=
 { nparams:=4,nblk:=1,results:=[.tmp 8],body:=Z15_B }
def Z1k_L0:Cd:=
 .seq (.region [Ll 39 (.bin .lss (.t 38) (.t 37))] [0,2,7,8,9,29,30,31,36,37,38,39])
 (.seq (.cond (.t 39)
 (.skip)
 (.exit 2))
 (.seq (.block 3 (.seq (.region [Lw 40 38,
 Ll 41 (.idxA none .leaf (.t 36) (.t 38)),
 Ilx 42 41,
 Lw 10 40,
 Lw 11 42] [0,2,7,8,9,10,11,29,30,31,36,37,38])
 (.region [Lw 43 7,
 Lw 44 8,
 Lw 45 10,
 Ll 46 (.bin .add (.t 44) (.t 45)),
 Ll 47 (.idxA none .leaf (.t 43) (.t 46)),
 Ilx 48 47,
 Lw 49 9,
 Lw 50 11,
 Ll 51 (.bin .mul (.t 49) (.t 50)),
 Ll 52 (.bin .add (.t 48) (.t 51)),
 Ll 53 (.idxA none .leaf (.t 43) (.t 46)),
 Ls (.store false .leaf (.t 53) (.t 52))] [0,2,7,8,9,29,30,31,36,37,38])))
 (.region [Ll 54 (.bin .add (.t 38) (Acx 1)),
 Lw 38 54] [0,2,7,8,9,29,30,31,36,37,38])))
def Z1k_L1:Cd:=
 .seq (.region [Ll 32 (.bin .lss (.t 31) (.t 30))] [0,2,7,29,30,31,32])
 (.seq (.cond (.t 32)
 (.skip)
 (.exit 0))
 (.seq (.block 1 (.seq (.region [Lw 33 31,
 Ll 34 (.idxA none .leaf (.t 29) (.t 31)),
 Ilx 35 34,
 Lw 8 33,
 Lw 9 35] [0,2,7,8,9,29,30,31])
 (.seq (.region [Lw 36 2,
 Ll 37 (.len false (.t 36)),
 Ll 38 (.mv (Acx 0))] [0,2,7,8,9,29,30,31,36,37,38])
 (.block 2 (.loop (Z1k_L0))))))
 (.region [Ll 55 (.bin .add (.t 31) (Acx 1)),
 Lw 31 55] [0,2,7,29,30,31])))
def Z1k_L2:Cd:=
 .seq (.region [Ll 59 (.bin .lss (.t 58) (.t 57))] [0,7,56,57,58,59])
 (.seq (.cond (.t 59)
 (.skip)
 (.exit 4))
 (.seq (.block 5 (.seq (.region [Lw 60 58,
 Ll 61 (.idxA none .leaf (.t 56) (.t 58)),
 Ilx 62 61,
 Lw 12 60,
 Lw 13 62] [0,7,12,13,56,57,58])
 (.region [Lw 63 7,
 Lw 64 12,
 Lw 65 13,
 Lw 66 0,
 Ll 67 (.bin .rem (.t 65) (.t 66)),
 Ll 68 (.idxA none .leaf (.t 63) (.t 64)),
 Ls (.store false .leaf (.t 68) (.t 67))] [0,7,56,57,58])))
 (.region [Ll 69 (.bin .add (.t 58) (Acx 1)),
 Lw 58 69] [0,7,56,57,58])))
def Z1k_B:Cd:=
 .seq (.region [Ll 6 (.mv (.c (.sl .leaf [])))] [0,1,2])
 (.seq (.seq (.region [Lw 14 1,
 Ll 15 (.len false (.t 14)),
 Ll 16 (.bin .eql (.t 15) (Acx 0)),
 Lw 17 16,
 Lx 18 2 17 false,
 Lg 19 (.len false (.t 18)) 17 false,
 Lg 20 (.bin .eql (.t 19) (Acx 0)) 17 false,
 Ll 21 (.pick (.t 17) (.c (.bool true)) (.t 20))] [0,1,2,21])
 (.cond (.t 21)
 (.seq (.region [Ll 6 (.mv (.c (.sl .leaf [])))] [6])
 (.ret))
 (.skip)))
 (.seq (.region [Lw 22 1,
 Ll 23 (.len false (.t 22)),
 Lw 24 2,
 Ll 25 (.len false (.t 24)),
 Ll 26 (.bin .add (.t 23) (.t 25)),
 Ll 27 (.bin .sub (.t 26) (Acx 1)),
 Ll 28 (.mkSl 0 .leaf (.int .i64 0) 8 (.t 27) (.t 27)),
 Lw 7 28] [0,1,2,7])
 (.seq (.seq (.region [Lw 29 1,
 Ll 30 (.len false (.t 29)),
 Ll 31 (.mv (Acx 0))] [0,2,7,29,30,31])
 (.block 0 (.loop (Z1k_L1))))
 (.seq (.seq (.region [Lw 56 7,
 Ll 57 (.len false (.t 56)),
 Ll 58 (.mv (Acx 0))] [0,7,56,57,58])
 (.block 4 (.loop (Z1k_L2))))
 (.seq (.region [Lw 70 7,
 Ll 71 (.call .data [] (.f F1r) [(.t 70)]),
 Lw 6 71] [6])
 (.ret))))))
def Z1k:Fn:=
 { nparams:=3,nblk:=1,results:=[.tmp 6],body:=Z1k_B }
def Z1i_B:Cd:=
 .seq (.region [Ll 6 (.mv (.c (.sl .leaf [])))] [0,1,2])
 (.seq (.region [Lw 7 0,
 Lw 8 1,
 Lw 9 2,
 Ll 10 (Opx F15 [(.t 7),(.c (.sl .leaf [])),(.t 8),(.t 9)]),
 Lw 6 10] [6])
 (.ret))
def Z1i:Fn:=
 { nparams:=3,nblk:=0,results:=[.tmp 6],body:=Z1i_B }
def Z1a_L0:Cd:=
 .seq (.region [Ll 9 (.bin .lss (.t 8) (.t 7))] [0,1,5,7,8,9])
 (.seq (.cond (.t 9)
 (.skip)
 (.exit 0))
 (.seq (.block 1 (.region [Lw 10 5,
 Lw 11 1,
 Ll 12 (.bin .mul (.t 10) (.t 11)),
 Lw 13 0,
 Ll 14 (.bin .rem (.t 12) (.t 13)),
 Lw 5 14] [0,1,5,7,8]))
 (.region [Ll 15 (.bin .add (.t 8) (Acx 1)),
 Lw 8 15] [0,1,5,7,8])))
def Z1a_B:Cd:=
 .seq (.region [Ll 4 (.mv (Acx 0))] [0,1])
 (.seq (.region [Ll 5 (.mv (Acx 1))] [0,1,5])
 (.seq (.seq (.region [Lw 6 0,
 Ll 7 (.bin .sub (.t 6) (Acx 2)),
 Ll 8 (.mv (Acx 0))] [0,1,5,7,8])
 (.block 0 (.loop (Z1a_L0))))
 (.seq (.region [Lw 16 5,
 Lw 4 16] [4])
 (.ret))))
def Z1a:Fn:=
 { nparams:=2,nblk:=0,results:=[.tmp 4],body:=Z1a_B }
def Z16_L0:Cd:=
 .seq (.region [Ll 60 (.bin .lss (.t 59) (.t 58))] [0,2,8,9,10,11,12,57,58,59,60])
 (.seq (.cond (.t 60)
 (.skip)
 (.exit 2))
 (.seq (.block 3 (.seq (.region [Lw 61 59,
 Ll 62 (.idxA none .leaf (.t 57) (.t 59)),
 Ilx 63 62,
 Lw 13 61,
 Lw 14 63] [0,2,8,9,10,11,12,13,14,57,58,59])
 (.region [Lw 64 8,
 Lw 65 11,
 Lw 66 13,
 Ll 67 (.bin .add (.t 65) (.t 66)),
 Lw 68 0,
 Lw 69 8,
 Lw 70 11,
 Lw 71 13,
 Ll 72 (.bin .add (.t 70) (.t 71)),
 Ll 73 (.idxA none .leaf (.t 69) (.t 72)),
 Ilx 74 73,
 Lw 75 12,
 Lw 76 14,
 Ll 77 (.bin .mul (.t 75) (.t 76)),
 Ll 78 (.bin .sub (.t 74) (.t 77)),
 Ll 79 (Ofx F1g [(.t 68),(.t 78)]),
 Ll 80 (.idxA none .leaf (.t 64) (.t 67)),
 Ls (.store false .leaf (.t 80) (.t 79))] [0,2,8,9,10,11,12,57,58,59])))
 (.region [Ll 81 (.bin .add (.t 59) (Acx 1)),
 Lw 59 81] [0,2,8,9,10,11,12,57,58,59])))
def Z16_L1:Cd:=
 .seq (.seq (.region [Lw 37 11,
 Ll 38 (.bin .geq (.t 37) (Acx 0))] [0,2,8,9,10,11,38])
 (.cond (.t 38)
 (.skip)
 (.exit 0)))
 (.seq (.block 1 (.seq (.region [Lw 41 8,
 Lw 42 11,
 Lw 43 2,
 Ll 44 (.len false (.t 43)),
 Ll 45 (.bin .add (.t 42) (.t 44)),
 Ll 46 (.bin .sub (.t 45) (Acx 1)),
 Ll 47 (.idxA none .leaf (.t 41) (.t 46)),
 Ilx 48 47,
 Lw 49 10,
 Ll 50 (.bin .mul (.t 48) (.t 49)),
 Lw 51 0,
 Ll 52 (.bin .rem (.t 50) (.t 51)),
 Lw 12 52] [0,2,8,9,10,11,12])
 (.seq (.region [Lw 53 9,
 Lw 54 11,
 Lw 55 12,
 Ll 56 (.idxA none .leaf (.t 53) (.t 54)),
 Ls (.store false .leaf (.t 56) (.t 55))] [0,2,8,9,10,11,12])
 (.seq (.region [Lw 57 2,
 Ll 58 (.len false (.t 57)),
 Ll 59 (.mv (Acx 0))] [0,2,8,9,10,11,12,57,58,59])
 (.block 2 (.loop (Z16_L0)))))))
 (.region [Lw 39 11,
 Ll 40 (.bin .sub (.t 39) (Acx 1)),
 Lw 11 40] [0,2,8,9,10,11]))
def Z16_B:Cd:=
 .seq (.region [Ll 6 (.mv (.c (.sl .leaf []))),
 Ll 7 (.mv (.c (.sl .leaf [])))] [0,1,2])
 (.seq (.region [Lw 15 1,
 Ll 16 (.call .heap [0] (.f F20) [(.t 15)]),
 Lw 8 16] [0,1,2,8])
 (.seq (.seq (.region [Lw 17 1,
 Ll 18 (.len false (.t 17)),
 Lw 19 2,
 Ll 20 (.len false (.t 19)),
 Ll 21 (.bin .lss (.t 18) (.t 20))] [0,1,2,8,21])
 (.cond (.t 21)
 (.seq (.region [Lw 22 8,
 Ll 6 (.mv (.c (.sl .leaf []))),
 Lw 7 22] [6,7])
 (.ret))
 (.skip)))
 (.seq (.region [Lw 23 1,
 Ll 24 (.len false (.t 23)),
 Lw 25 2,
 Ll 26 (.len false (.t 25)),
 Ll 27 (.bin .sub (.t 24) (.t 26)),
 Ll 28 (.bin .add (.t 27) (Acx 1)),
 Ll 29 (.mkSl 1 .leaf (.int .i64 0) 8 (.t 28) (.t 28)),
 Lw 9 29] [0,2,8,9])
 (.seq (.region [Lw 30 0,
 Lw 31 2,
 Ll 32 (Ofx F1p [(.t 31)]),
 Ll 33 (Ofx F1a [(.t 30),(.t 32)]),
 Lw 10 33] [0,2,8,9,10])
 (.seq (.seq (.region [Lw 34 9,
 Ll 35 (.len false (.t 34)),
 Ll 36 (.bin .sub (.t 35) (Acx 1)),
 Lw 11 36] [0,2,8,9,10,11])
 (.block 0 (.loop (Z16_L1))))
 (.seq (.region [Lw 82 9,
 Ll 83 (.call .data [] (.f F1r) [(.t 82)]),
 Lw 84 8,
 Ll 85 (.call .data [] (.f F1r) [(.t 84)]),
 Lw 6 83,
 Lw 7 85] [6,7])
 (.ret)))))))
def Z16:Fn:=
 { nparams:=3,nblk:=2,results:=[.tmp 6,.tmp 7],body:=Z16_B }
def Z14_L0:Cd:=
 .seq (.seq (.region [Lw 18 2,
 Ll 19 (.len false (.t 18)),
 Ll 20 (.bin .gtr (.t 19) (Acx 0))] [0,1,2,9,10,11,12,20])
 (.cond (.t 20)
 (.skip)
 (.exit 0)))
 (.block 1 (.seq (.region [Lw 22 0,
 Lw 23 1,
 Lw 24 2,
 Ll 25 (Opx F16 [(.t 22),(.t 23),(.t 24)]),
 Lw 21 25,
 Iex 26 21 0,
 Iex 27 21 1,
 Lw 13 26,
 Lw 14 27] [0,2,9,10,11,12,13,14])
 (.seq (.region [Lw 28 2,
 Lw 29 14,
 Lw 1 28,
 Lw 2 29] [0,1,2,9,10,11,12,13])
 (.seq (.region [Lw 30 11,
 Lw 31 0,
 Lw 32 9,
 Lw 33 0,
 Lw 34 13,
 Lw 35 11,
 Ll 36 (Opx F1k [(.t 33),(.t 34),(.t 35)]),
 Ll 37 (.call .data [] (.f F15) [(.t 31),(.t 32),(.t 36),(Acx (-1))]),
 Lw 9 30,
 Lw 11 37] [0,1,2,9,10,11,12,13])
 (.region [Lw 38 12,
 Lw 39 0,
 Lw 40 10,
 Lw 41 0,
 Lw 42 13,
 Lw 43 12,
 Ll 44 (.call .data [] (.f F1k) [(.t 41),(.t 42),(.t 43)]),
 Ll 45 (.call .data [] (.f F15) [(.t 39),(.t 40),(.t 44),(Acx (-1))]),
 Lw 10 38,
 Lw 12 45] [0,1,2,9,10,11,12])))))
def Z14_B:Cd:=
 .seq (.region [Ll 6 (.mv (.c (.sl .leaf []))),
 Ll 7 (.mv (.c (.sl .leaf []))),
 Ll 8 (.mv (.c (.sl .leaf [])))] [0,1,2])
 (.seq (.region [Ll 16 (.buildSl false 0 .leaf (.int .i64 0) 1 [(0,(Acx 1))]),
 Lw 9 16,
 Ll 10 (.mv (.c (.sl .leaf [])))] [0,1,2,9,10])
 (.seq (.region [Ll 17 (.buildSl false 1 .leaf (.int .i64 0) 1 [(0,(Acx 1))]),
 Ll 11 (.mv (.c (.sl .leaf []))),
 Lw 12 17] [0,1,2,9,10,11,12])
 (.seq (.block 0 (.loop (Z14_L0)))
 (.seq (.region [Lw 46 0,
 Lw 47 1,
 Ll 48 (Ofx F1p [(.t 47)]),
 Ll 49 (Ofx F1a [(.t 46),(.t 48)]),
 Lw 15 49] [0,1,9,10,15])
 (.seq (.region [Lw 50 0,
 Lw 51 1,
 Lw 52 15,
 Ll 53 (Opx F1i [(.t 50),(.t 51),(.t 52)]),
 Lw 54 0,
 Lw 55 9,
 Lw 56 15,
 Ll 57 (.call .data [] (.f F1i) [(.t 54),(.t 55),(.t 56)]),
 Lw 58 0,
 Lw 59 10,
 Lw 60 15,
 Ll 61 (.call .data [] (.f F1i) [(.t 58),(.t 59),(.t 60)]),
 Lw 6 53,
 Lw 7 57,
 Lw 8 61] [6,7,8])
 (.ret))))))
def Z14:Fn:=
 { nparams:=3,nblk:=2,results:=[.tmp 6,.tmp 7,.tmp 8],body:=Z14_B }
def Z19_B:Cd:=
 .seq (.region [Ll 6 (.mv (.c (.sl .leaf [])))] [0,1,2])
 (.seq (.region [Lw 11 0,
 Lw 12 1,
 Lw 13 2,
 Ll 14 (Opx F14 [(.t 11),(.t 12),(.t 13)]),
 Lw 10 14,
 Iex 15 10 0,
 Iex 16 10 1,
 Iex 17 10 2,
 Lw 7 15,
 Lw 8 16,
 Lw 9 17] [7])
 (.seq (.region [Lw 18 7,
 Lw 6 18] [6])
 (.ret)))
def Z19:Fn:=
 { nparams:=3,nblk:=0,results:=[.tmp 6],body:=Z19_B }
def Z1h_B:Cd:=
 .seq (.region [Ll 6 (.mv (.c (.sl .leaf [])))] [0,1,2])
 (.seq (.region [Lw 10 0,
 Lw 11 1,
 Lw 12 2,
 Ll 13 (Opx F16 [(.t 10),(.t 11),(.t 12)]),
 Lw 9 13,
 Iex 14 9 0,
 Iex 15 9 1,
 Lw 7 14,
 Lw 8 15] [8])
 (.seq (.region [Lw 16 8,
 Lw 6 16] [6])
 (.ret)))
def Z1h:Fn:=
 { nparams:=3,nblk:=0,results:=[.tmp 6],body:=Z1h_B }
def Z1f_L0:Cd:=
 .seq (.seq (.region [Lw 19 2,
 Ll 20 (.bin .gtr (.t 19) (Acx 0))] [0,2,3,9,10,20])
 (.cond (.t 20)
 (.skip)
 (.exit 0)))
 (.seq (.block 1 (.seq (.seq (.region [Lw 23 2,
 Ll 24 (.bin .and (.t 23) (Acx 1)),
 Ll 25 (.bin .eql (.t 24) (Acx 1))] [0,2,3,9,10,25])
 (.cond (.t 25)
 (.region [Lw 26 0,
 Lw 27 0,
 Lw 28 9,
 Lw 29 10,
 Ll 30 (Opx F1k [(.t 27),(.t 28),(.t 29)]),
 Lw 31 3,
 Ll 32 (Opx F1h [(.t 26),(.t 30),(.t 31)]),
 Lw 9 32] [0,2,3,9,10])
 (.skip)))
 (.region [Lw 33 0,
 Lw 34 0,
 Lw 35 10,
 Lw 36 10,
 Ll 37 (Opx F1k [(.t 34),(.t 35),(.t 36)]),
 Lw 38 3,
 Ll 39 (Opx F1h [(.t 33),(.t 37),(.t 38)]),
 Lw 10 39] [0,2,3,9,10])))
 (.region [Lw 21 2,
 Ll 22 (.bin .shr (.t 21) (.c (.int .u64 1))),
 Lw 2 22] [0,2,3,9,10]))
def Z1f_B:Cd:=
 .seq (.region [Ll 8 (.mv (.c (.sl .leaf [])))] [0,1,2,3])
 (.seq (.region [Lw 11 0,
 Ll 12 (.buildSl false 0 .leaf (.int .i64 0) 1 [(0,(Acx 1))]),
 Lw 13 3,
 Ll 14 (.call .data [] (.f F1h) [(.t 11),(.t 12),(.t 13)]),
 Lw 15 0,
 Lw 16 1,
 Lw 17 3,
 Ll 18 (Opx F1h [(.t 15),(.t 16),(.t 17)]),
 Lw 9 14,
 Lw 10 18] [0,2,3,9,10])
 (.seq (.block 0 (.loop (Z1f_L0)))
 (.seq (.region [Lw 40 9,
 Lw 8 40] [8])
 (.ret))))
def Z1f:Fn:=
 { nparams:=4,nblk:=1,results:=[.tmp 8],body:=Z1f_B }
def Zb_B:Cd:=
 .seq (.region [Ll 3 (.box false 0 (.t 1)),
 Ll 4 (.mv (.c (.bool false)))] [0,3])
 (.seq (.region [Lw 5 0,
 Ll 6 (Ofx F10 [(.t 5)]),
 Lw 7 6,
 Lx 8 0 7 true,
 Lg 9 (.load Sx6 (.t 3)) 7 true,
 Lg 10 (Ofx Fy [(.t 8),(.t 9)]) 7 true,
 Ll 11 (.pick (.t 7) (.t 10) (.c (.bool false))),
 Lw 4 11] [4])
 (.ret))
def Zb:Fn:=
 { nparams:=2,nblk:=1,results:=[.tmp 4],body:=Zb_B }
def Z8_L0:Cd:=
 .seq (.seq (.region [Lw 17 8,
 Ll 18 (.bin .lss (.t 17) (Acx 64))] [0,3,4,7,8,18])
 (.cond (.t 18)
 (.skip)
 (.exit 0)))
 (.seq (.block 1 (.region [Lw 21 8,
 Ll 22 (.bin .sub (.t 21) (Acx 1)),
 Lw 23 8,
 Lw 24 8,
 Ll 25 (.idxA (some 64) .leaf (.t 3) (.t 24)),
 Ilx 26 25,
 Ll 27 (.conv .i64 (.t 26)),
 Ll 28 (.bin .mul (.t 23) (.t 27)),
 Lw 29 0,
 Ll 30 (.bin .rem (.t 28) (.t 29)),
 Ll 31 (.conv .u8 (.t 30)),
 Ll 32 (.idxA (some 64) .leaf (.t 7) (.t 22)),
 Ls (.store false .leaf (.t 32) (.t 31))] [0,3,4,7,8]))
 (.region [Lw 19 8,
 Ll 20 (.bin .add (.t 19) (Acx 1)),
 Lw 8 20] [0,3,4,7,8]))
def Z8_B:Cd:=
 .seq (.region [Ll 3 (.box false 0 (.t 1)),
 Ll 4 (.box false 1 (.c (.arr 64 .leaf z64))),
 Ll 5 (.mv (Acx 0))] [0,3,4])
 (.seq (.seq (.region [Lw 9 0,
 Ipx 10 3,
 Ll 11 (.buildSl false 2 Sx6 (.arr 64 .leaf z64) 1 [(0,(.t 10))]),
 Ll 12 (Ofx F12 [(.t 9),(.t 11)]),
 Lw 6 12] [0,3,4,6])
 (.seq (.region [Lw 13 6,
 Ll 14 (.bin .neq (.t 13) (Acx 0))] [0,3,4,6,14])
 (.cond (.t 14)
 (.seq (.region [Ll 15 (.build false (.arr 64 .leaf z64) []),
 Lw 16 6,
 Ls (.store false Sx6 (.t 4) (.t 15)),
 Lw 5 16] [4,5])
 (.ret))
 (.skip))))
 (.seq (.region [Ll 7 (.box false 3 (.c (.arr 64 .leaf z64)))] [0,3,4,7])
 (.seq (.seq (.region [Ll 8 (.mv (Acx 1))] [0,3,4,7,8])
 (.block 0 (.loop (Z8_L0))))
 (.seq (.region [Ipx 33 7,
 Ls (.store false Sx6 (.t 4) (.t 33)),
 Ll 5 (.mv (Acx 0))] [4,5])
 (.ret)))))
def Z8:Fn:=
 { nparams:=2,nblk:=4,results:=[.cell 4 Sx6,.tmp 5],body:=Z8_B }
def Zf_B:Cd:=
 .seq (.region [Ll 3 (.box false 0 (.t 1)),
 Ll 4 (.mv (.c (.bool false)))] [0,3])
 (.seq (.region [Lw 5 0,
 Ll 6 (.mkFn Fg [] [(.t 3)]),
 Ll 7 (Ofx F22 [(.t 5),(.t 6)]),
 Ll 8 (.un .not (.t 7)),
 Lw 4 8] [4])
 (.ret))
def Zf:Fn:=
 { nparams:=2,nblk:=1,results:=[.tmp 4],body:=Zf_B }
def Z1q_L0:Cd:=
 .seq (.seq (.region [Lw 11 4,
 Ll 12 (.bin .geq (.t 11) (Acx 0))] [0,3,4,12])
 (.cond (.t 12)
 (.skip)
 (.exit 0)))
 (.seq (.block 1 (.region [Lw 15 3,
 Lw 16 0,
 Lw 17 4,
 Ll 18 (.idxA none .leaf (.t 16) (.t 17)),
 Ilx 19 18,
 Ll 20 (.bin .add (Acx 48) (.t 19)),
 Ll 21 (.conv .u8 (.t 20)),
 Ll 22 (.buildSl false 1 .leaf (.int .u8 0) 1 [(0,(.t 21))]),
 Ll 23 (.append .leaf 2 1 (.t 15) (.t 22)),
 Lw 3 23] [0,3,4]))
 (.region [Lw 13 4,
 Ll 14 (.bin .sub (.t 13) (Acx 1)),
 Lw 4 14] [0,3,4]))
def Z1q_B:Cd:=
 .seq (.region [Ll 2 (.mv (.c (.str (ByteArray.mk #[]))))] [0])
 (.seq (.seq (.region [Lw 5 0,
 Ll 6 (.len false (.t 5)),
 Ll 7 (.bin .eql (.t 6) (Acx 0))] [0,7])
 (.cond (.t 7)
 (.seq (.region [Ll 2 (.mv (.c (.str (ByteArray.mk #[48]))))] [2])
 (.ret))
 (.skip)))
 (.seq (.region [Ll 3 (.nilOwn 0 .leaf)] [0,3])
 (.seq (.seq (.region [Lw 8 0,
 Ll 9 (.len false (.t 8)),
 Ll 10 (.bin .sub (.t 9) (Acx 1)),
 Lw 4 10] [0,3,4])
 (.block 0 (.loop (Z1q_L0))))
 (.seq (.region [Lw 24 3,
 Ll 25 (.toStr (.t 24)),
 Lw 2 25] [2])
 (.ret)))))
def Z1q:Fn:=
 { nparams:=1,nblk:=3,results:=[.tmp 2],body:=Z1q_B }
end Pe

/-
 Functions of the program in the small form,printed by a program.
-/
namespace Pe
open Go
def Z11_B:Cd:=
 .seq (.region [Ll 0 (.mv (.c (.sl .leaf [])))] [])
 (.seq (.region [Ll 1 (.buildSl false 0 .leaf (.int .i64 0) 2 [(0,(Acx 0)),(1,(Acx 1))]),
 Lw 0 1] [0])
 (.ret))
def Z11:Fn:=
 { nparams:=0,nblk:=1,results:=[.tmp 0],body:=Z11_B }
def Z1l_L0:Cd:=
 .seq (.seq (.region [Lw 25 8,
 Lw 26 7,
 Ll 27 (.bin .mul (Acx 2) (.t 26)),
 Ll 28 (.bin .lss (.t 25) (.t 27))] [0,1,7,8,28])
 (.cond (.t 28)
 (.skip)
 (.exit 0)))
 (.seq (.block 1 (.seq (.region [Lw 31 0,
 Lw 32 8,
 Ll 33 (Opx F1e [(.t 31),(.t 32)]),
 Lw 9 33] [0,1,7,8,9])
 (.seq (.region [Lw 34 0,
 Lw 35 1,
 Lw 36 9,
 Ll 37 (Opx F1h [(.t 34),(.t 35),(.t 36)]),
 Ll 38 (.len false (.t 37)),
 Ll 39 (.bin .eql (.t 38) (Acx 0))] [0,1,7,8,9,39])
 (.cond (.t 39)
 (.seq (.region [Lw 40 9,
 Lw 6 40] [6])
 (.ret))
 (.skip)))))
 (.region [Lw 29 8,
 Ll 30 (.bin .add (.t 29) (Acx 1)),
 Lw 8 30] [0,1,7,8]))
def Z1l_B:Cd:=
 .seq (.region [Ll 6 (.mv (.c (.sl .leaf [])))] [0,1,2])
 (.seq (.seq (.region [Lw 10 1,
 Ll 11 (Ofx F1o [(.t 10)]),
 Lw 12 2,
 Ll 13 (.bin .eql (.t 11) (.t 12))] [0,1,2,13])
 (.cond (.t 13)
 (.seq (.region [Lw 14 0,
 Lw 15 1,
 Lw 16 0,
 Lw 17 1,
 Ll 18 (Ofx F1p [(.t 17)]),
 Ll 19 (Ofx F1a [(.t 16),(.t 18)]),
 Ll 20 (Opx F1i [(.t 14),(.t 15),(.t 19)]),
 Lw 6 20] [6])
 (.ret))
 (.skip)))
 (.seq (.region [Lw 21 0,
 Lw 22 2,
 Ll 23 (Ofx F1d [(.t 21),(.t 22),(Acx 1099511627776)]),
 Lw 7 23] [0,1,7])
 (.seq (.seq (.region [Lw 24 7,
 Lw 8 24] [0,1,7,8])
 (.block 0 (.loop (Z1l_L0))))
 (.seq (.region [Lw 41 1,
 Lw 6 41] [6])
 (.ret)))))
def Z1l:Fn:=
 { nparams:=3,nblk:=0,results:=[.tmp 6],body:=Z1l_B }
def Z1j_L0:Cd:=
 .block 1 (.seq (.region [Lw 12 0,
 Lw 13 1,
 Lw 14 2,
 Ll 15 (Opx F16 [(.t 12),(.t 13),(.t 14)]),
 Lw 11 15,
 Iex 16 11 0,
 Iex 17 11 1,
 Lw 9 16,
 Lw 10 17] [0,1,2,8,9,10])
 (.seq (.seq (.region [Lw 18 10,
 Ll 19 (.len false (.t 18)),
 Ll 20 (.bin .gtr (.t 19) (Acx 0))] [0,1,2,8,9,20])
 (.cond (.t 20)
 (.seq (.region [Lw 21 1,
 Lw 22 8,
 Lw 6 21,
 Lw 7 22] [6,7])
 (.ret))
 (.skip)))
 (.seq (.region [Lw 23 9,
 Lw 1 23] [0,1,2,8])
 (.region [Lw 24 8,
 Ll 25 (.bin .add (.t 24) (Acx 1)),
 Lw 8 25] [0,1,2,8]))))
def Z1j_B:Cd:=
 .seq (.region [Ll 6 (.mv (.c (.sl .leaf []))),
 Ll 7 (.mv (Acx 0))] [0,1,2])
 (.seq (.region [Ll 8 (.mv (Acx 0))] [0,1,2,8])
 (.block 0 (.loop (Z1j_L0))))
def Z1j:Fn:=
 { nparams:=3,nblk:=0,results:=[.tmp 6,.tmp 7],body:=Z1j_B }
def Zj_L0:Cd:=
 .seq (.seq (.region [Lw 19 6,
 Ll 20 (.bin .geq (.t 19) (Acx 0))] [0,1,6,20])
 (.cond (.t 20)
 (.skip)
 (.exit 0)))
 (.seq (.block 1 (.seq (.region [Lw 23 0,
 Lw 24 6,
 Ll 25 (.idxA none .leaf (.t 23) (.t 24)),
 Ilx 26 25,
 Lw 27 1,
 Lw 28 6,
 Ll 29 (.idxA none .leaf (.t 27) (.t 28)),
 Ilx 30 29,
 Ll 31 (Ofx F3 [(.t 26),(.t 30)]),
 Lw 7 31] [0,1,6,7])
 (.seq (.region [Lw 32 7,
 Ll 33 (.bin .neq (.t 32) (Acx 0))] [0,1,6,7,33])
 (.cond (.t 33)
 (.seq (.region [Lw 34 7,
 Lw 4 34] [4])
 (.ret))
 (.skip)))))
 (.region [Lw 21 6,
 Ll 22 (.bin .sub (.t 21) (Acx 1)),
 Lw 6 22] [0,1,6]))
def Zj_B:Cd:=
 .seq (.region [Ll 4 (.mv (Acx 0))] [0,1])
 (.seq (.seq (.region [Lw 8 0,
 Ll 9 (.len false (.t 8)),
 Lw 10 1,
 Ll 11 (.len false (.t 10)),
 Ll 12 (Ofx F0 [(.t 9),(.t 11)]),
 Lw 5 12] [0,1,5])
 (.seq (.region [Lw 13 5,
 Ll 14 (.bin .neq (.t 13) (Acx 0))] [0,1,5,14])
 (.cond (.t 14)
 (.seq (.region [Lw 15 5,
 Lw 4 15] [4])
 (.ret))
 (.skip))))
 (.seq (.seq (.region [Lw 16 0,
 Ll 17 (.len false (.t 16)),
 Ll 18 (.bin .sub (.t 17) (Acx 1)),
 Lw 6 18] [0,1,6])
 (.block 0 (.loop (Zj_L0))))
 (.seq (.region [Ll 4 (.mv (Acx 0))] [4])
 (.ret))))
def Zj:Fn:=
 { nparams:=2,nblk:=0,results:=[.tmp 4],body:=Zj_B }
def Z18_B:Cd:=
 .seq (.region [Ll 2 (.box false 0 (.t 0)),
 Ll 3 (.box false 1 (.t 1)),
 Ll 4 (.mv (Acx 0))] [2,3])
 (.seq (.region [Ll 5 (.fldA [.leaf,.leaf] (.t 2) 0),
 Ilx 6 5,
 Ll 7 (.fldA [.leaf,.leaf] (.t 3) 0),
 Ilx 8 7,
 Ll 9 (Ofx Fj [(.t 6),(.t 8)]),
 Lw 4 9] [4])
 (.ret))
def Z18:Fn:=
 { nparams:=2,nblk:=2,results:=[.tmp 4],body:=Z18_B }
def Z17_L0:Cd:=
 .seq (.region [Ll 36 (.bin .lss (.t 35) (.t 34))] [0,1,5,6,7,34,35,36])
 (.seq (.cond (.t 36)
 (.skip)
 (.exit 2))
 (.seq (.block 3 (.region [Lw 37 0,
 Lw 38 7,
 Lw 39 0,
 Lw 40 1,
 Ll 41 (Opx F1f [(.t 37),(.t 38),(.t 39),(.t 40)]),
 Lw 7 41] [0,1,5,6,7,34,35]))
 (.region [Ll 42 (.bin .add (.t 35) (Acx 1)),
 Lw 35 42] [0,1,5,6,7,34,35])))
def Z17_L1:Cd:=
 .seq (.seq (.region [Lw 50 8,
 Ll 51 (Ofx F1o [(.t 50)]),
 Ll 52 (.bin .gtr (.t 51) (Acx 0))] [0,1,5,6,8,52])
 (.cond (.t 52)
 (.skip)
 (.exit 4)))
 (.block 5 (.seq (.region [Lw 53 0,
 Lw 54 8,
 Lw 55 6,
 Ll 56 (Opx F1l [(.t 53),(.t 54),(.t 55)]),
 Lw 9 56] [0,1,5,6,8,9])
 (.seq (.region [Lw 58 0,
 Lw 59 1,
 Lw 60 9,
 Ll 61 (Opx F1j [(.t 58),(.t 59),(.t 60)]),
 Lw 57 61,
 Iex 62 57 0,
 Iex 63 57 1,
 Lw 10 62,
 Lw 11 63] [0,5,6,8,9,10,11])
 (.seq (.region [Lw 64 10,
 Lw 1 64] [0,1,5,6,8,9,11])
 (.seq (.region [Lw 66 0,
 Lw 67 8,
 Lw 68 9,
 Ll 69 (Opx F1j [(.t 66),(.t 67),(.t 68)]),
 Lw 65 69,
 Iex 70 65 0,
 Iex 71 65 1,
 Lw 8 70] [0,1,5,6,8,9,11])
 (.region [Lw 72 5,
 Lw 73 9,
 Lw 74 11,
 Ll 75 (.build false (.st [.leaf,.leaf] [(.sl .leaf []),(.int .i64 0)]) [(0,(.t 73)),(1,(.t 74))]),
 Ll 76 (.buildSl false 3 (.st [.leaf,.leaf]) (.st [.leaf,.leaf] [(.sl .leaf []),(.int .i64 0)]) 1 [(0,(.t 75))]),
 Ll 77 (.append (.st [.leaf,.leaf]) 4 32 (.t 72) (.t 76)),
 Lw 5 77] [0,1,5,6,8]))))))
def Z17_L2:Cd:=
 .seq (.seq (.region [Lw 12 1,
 Ll 13 (Ofx F1o [(.t 12)]),
 Ll 14 (.bin .gtr (.t 13) (Acx 0))] [0,1,5,6,14])
 (.cond (.t 14)
 (.skip)
 (.exit 0)))
 (.seq (.block 1 (.seq (.seq (.region [Lw 17 6,
 Ll 18 (.bin .mul (Acx 2) (.t 17)),
 Lw 19 1,
 Ll 20 (Ofx F1o [(.t 19)]),
 Ll 21 (.bin .gtr (.t 18) (.t 20))] [0,1,5,6,21])
 (.cond (.t 21)
 (.seq (.region [Lw 22 5,
 Lw 23 0,
 Lw 24 1,
 Lw 25 0,
 Lw 26 1,
 Ll 27 (Ofx F1p [(.t 26)]),
 Ll 28 (Ofx F1a [(.t 25),(.t 27)]),
 Ll 29 (Opx F1i [(.t 23),(.t 24),(.t 28)]),
 Ll 30 (.build false (.st [.leaf,.leaf] [(.sl .leaf []),(.int .i64 0)]) [(0,(.t 29)),(1,(Acx 1))]),
 Ll 31 (.buildSl false 1 (.st [.leaf,.leaf]) (.st [.leaf,.leaf] [(.sl .leaf []),(.int .i64 0)]) 1 [(0,(.t 30))]),
 Ll 32 (.append (.st [.leaf,.leaf]) 2 32 (.t 22) (.t 31)),
 Lw 5 32] [5])
 (.exit 0))
 (.skip)))
 (.seq (.region [Ll 33 (Opx F11 []),
 Lw 7 33] [0,1,5,6,7])
 (.seq (.seq (.region [Lw 34 6,
 Ll 35 (.mv (Acx 0))] [0,1,5,6,7,34,35])
 (.block 2 (.loop (Z17_L0))))
 (.seq (.region [Lw 43 0,
 Lw 44 0,
 Lw 45 7,
 Ll 46 (Opx F11 []),
 Ll 47 (Opx F15 [(.t 44),(.t 45),(.t 46),(Acx (-1))]),
 Lw 48 1,
 Ll 49 (Opx F19 [(.t 43),(.t 47),(.t 48)]),
 Lw 8 49] [0,1,5,6,8])
 (.block 4 (.loop (Z17_L1))))))))
 (.region [Lw 15 6,
 Ll 16 (.bin .add (.t 15) (Acx 1)),
 Lw 6 16] [0,1,5,6]))
def Z17_B:Cd:=
 .seq (.region [Ll 4 (.mv (.c (.sl (.st [.leaf,.leaf]) [])))] [0,1])
 (.seq (.region [Ll 5 (.nilOwn 0 (.st [.leaf,.leaf]))] [0,1,5])
 (.seq (.seq (.region [Ll 6 (.mv (Acx 1))] [0,1,5,6])
 (.block 0 (.loop (Z17_L2))))
 (.seq (.region [Lw 78 5,
 Ll 79 (.call .heap [] (.f F27) [(.t 78),(.f F18)])] [5])
 (.seq (.region [Lw 80 5,
 Lw 4 80] [4])
 (.ret)))))
def Z17:Fn:=
 { nparams:=2,nblk:=5,results:=[.tmp 4],body:=Z17_B }
def Z1b_B:Cd:=
 .seq (.region [Ll 4 (.mv (.c (.bool false)))] [0,1])
 (.seq (.seq (.region [Lw 6 1,
 Ll 7 (Ofx F1p [(.t 6)]),
 Ll 8 (.bin .neq (.t 7) (Acx 1)),
 Lw 9 8,
 Lx 10 1 9 false,
 Lg 11 (Ofx F1o [(.t 10)]) 9 false,
 Lg 12 (.bin .lss (.t 11) (Acx 1)) 9 false,
 Ll 13 (.pick (.t 9) (.c (.bool true)) (.t 12))] [0,1,13])
 (.cond (.t 13)
 (.seq (.region [Ll 4 (.mv (.c (.bool false)))] [4])
 (.ret))
 (.skip)))
 (.seq (.region [Lw 14 0,
 Lw 15 1,
 Ll 16 (Opx F17 [(.t 14),(.t 15)]),
 Lw 5 16] [5])
 (.seq (.region [Lw 17 5,
 Ll 18 (.len false (.t 17)),
 Ll 19 (.bin .eql (.t 18) (Acx 1)),
 Lw 20 19,
 Lx 21 5 20 true,
 Lg 22 (.idxA none (.st [.leaf,.leaf]) (.t 21) (Acx 0)) 20 true,
 Lg 23 (.fldA [.leaf,.leaf] (.t 22) 1) 20 true,
 Lg 24 (.load .leaf (.t 23)) 20 true,
 Lg 25 (.bin .eql (.t 24) (Acx 1)) 20 true,
 Ll 26 (.pick (.t 20) (.t 25) (.c (.bool false))),
 Lw 4 26] [4])
 (.ret))))
def Z1b:Fn:=
 { nparams:=2,nblk:=0,results:=[.tmp 4],body:=Z1b_B }
def Zx_B:Cd:=
 .seq (.region [Ll 2 (.mv (.c (.bool false)))] [0])
 (.seq (.region [Lw 3 0,
 Ll 4 (.len false (.t 3)),
 Ll 5 (.bin .eql (.t 4) (Acx 1)),
 Lw 6 5,
 Lx 7 0 6 true,
 Lg 8 (.idxA none .leaf (.t 7) (Acx 0)) 6 true,
 Lg 9 (.load .leaf (.t 8)) 6 true,
 Lg 10 (.bin .eql (.t 9) (Acx 1)) 6 true,
 Ll 11 (.pick (.t 6) (.t 10) (.c (.bool false))),
 Lw 2 11] [2])
 (.ret))
def Zx:Fn:=
 { nparams:=1,nblk:=0,results:=[.tmp 2],body:=Zx_B }
end Pe

namespace Pe
open Go
variable {T:Nat→Option Fn} {A:ac}
theorem y7 {n p:Int} (hp:0<p):-p<n.tmod p∧n.tmod p<p:=by
 have hp0:p≠0:=by omega
 have e:=Int.tmod_eq_emod (a:=n) (b:=p);have g1:=c8 n hp0;have g2:=bq n hp;refine ⟨?_,Int.tmod_lt_of_pos n hp⟩;rw [e]
 split
 ·omega
 ·rename_i hx
  have hx':n%p≠0:=fun h0=>hx (.inr (Int.dvd_of_emod_eq_zero h0))
  omega
theorem v7 {n p:Int} (hp:0<p):(n.tmod p+p).tmod p=n%p:=by
 have e0:=y7 (n:=n) hp;rw [br (by omega),Int.add_emod_right,Int.tmod_eq_emod]
 split
 ·simp
 ·rw [show ((p.natAbs:Nat):Int)=p by omega,Int.sub_emod,Int.emod_self,Int.sub_zero,fd _ (Int.dvd_refl p),fd _ (Int.dvd_refl p)]
def py (O:ac):Prop:=∀p n:Int,0<p→p<1000000→-9000000000000000000≤n→n≤9000000000000000000→ask O F1g [(D.int .i64 p),(D.int .i64 n)]=some ((D.int .i64 (n%p)))
theorem T0 (hT:T F1g=some Z1g):py (den T A):=by
 intro p n hp hp' hn hn';have hp0:p≠0:=by omega
 have e0:=y7 (n:=n) hp;have h1:IntKind.i64.wrap (n.tmod p+p)=n.tmod p+p:=w64 (by omega)
 refine bj hT rfl ?_;simp -implicitDefEqProofs [Z1g,Z1g_B,hp0,h1,v7 hp]
def cf (l:List Int) (i:Nat):Int:=l.getD i 0
theorem da {l:List Int} {i:Nat} (h:i<l.length):cf l i=l[i]:=by simp [cf,h]
theorem jw {l:List Int} {i:Nat} (h:l.length≤i):cf l i=0:=by simp [cf,h]
def Xq (O:ac):Prop:=∀(l:List Int) (i:Nat),i<9000000000000000000→ask O F1n [(D.sl .leaf (ae .i64 l)),(D.int .i64 i)]=some ((D.int .i64 (cf l i)))
theorem a7a (hT:T F1n=some Z1n):Xq (den T A):=by
 intro l i hi;refine bj hT rfl ?_
 by_cases h:i<l.length
 ·have h1:l[i]? = some l[i]:=ah h
  have h2:(i:Int)<(l.length:Int):=by omega
  simp -implicitDefEqProofs [Z1n,Z1n_B,h1,h2,af,da h]
 ·have h2:¬ (i:Int)<(l.length:Int):=by omega
  simp -implicitDefEqProofs [Z1n,Z1n_B,h2,af,jw (Nat.le_of_not_lt h)]
def mc (l:List Int):Nat→Nat
 | 0=>0
 | n+1=>if cf l n=0 then mc l n else n+1
def trim (l:List Int):List Int:=l.take (mc l l.length)
theorem Ax (l:List Int):∀n,mc l n≤n
 | 0=>ap 0
 | n+1=>by
  simp only [mc]
  split
  ·have:=Ax l n; omega
  ·exact ap _
theorem E6 {O:ac} {l:List Int} (hl:l.length<1000000):∀(n:Nat),n≤l.length →
 dn O 0 (.loop Z1r_L0) ⟨[(0,(.d (.sl .leaf (ae .i64 l)))),(3,(.d (.int .i64 n)))],[]⟩=some (.exit 0,⟨[(0,(.d (.sl .leaf (ae .i64 l)))),(3,(.d (.int .i64 (mc l n)))),(15,(.d (.bool false)))],[]⟩)
 | 0,_=>bi (by simp -implicitDefEqProofs [Z1r_L0,af,mc])
 | n+1,hn=>by
  have hlt:n<l.length:=by omega
  have h1:l[n]? = some l[n]:=ah hlt;have h2:IntKind.i64.wrap (n:Int)=n:=w64 (by omega)
  have h3:(0:Int)<(n:Int)+1:=by omega
  by_cases h0:l[n]=0
  ·have e:mc l (n+1)=mc l n:=by simp [mc,da hlt,h0]
   rw [e];exact bh (by simp -implicitDefEqProofs [Z1r_L0,af,h1,h2,h3,h0]) (E6 hl n (by omega))
  ·have e:mc l (n+1)=n+1:=by simp [mc,da hlt,h0]
   rw [e];exact bi (by simp -implicitDefEqProofs [Z1r_L0,af,h1,h2,h3,h0])
def ke (O:ac):Prop:=∀l:List Int,l.length<1000000→ask O F1r [(D.sl .leaf (ae .i64 l))]=some ((D.sl .leaf (ae .i64 (trim l))))
theorem Rj (hT:T F1r=some Z1r):ke (den T A):=by
 intro l hl;refine bj hT rfl ?_;have ht:=Ax l l.length;simp -implicitDefEqProofs [Z1r,Z1r_B,E6 hl l.length (ap _),ht,trim]
def upd (f:Nat→Int):Nat→Nat→List Int→List Int
 | 0,_,l=>l
 | m+1,i,l=>upd f m (i+1) (l.set i (f i))
theorem sv (f:Nat→Int):∀(m i:Nat) (l:List Int),(upd f m i l).length=l.length
 | 0,_,_=>rfl
 | m+1,i,l=>by rw [upd,sv f m]; simp
theorem Ba (f:Nat→Int):∀(m i:Nat) (l:List Int) (j:Nat),(upd f m i l)[j]? = if i≤j∧j<i+m∧j<l.length then some (f j) else l[j]?
 | 0,i,l,j=>by rw [upd,if_neg (by omega)]
 | m+1,i,l,j=>by
  rw [upd,Ba f m,bt]
  by_cases h1:i+1≤j∧j<i+1+m∧j<l.length
  ·rw [if_pos h1,if_pos (by omega)]
  ·rw [if_neg h1]
   by_cases h2:j=i
   ·subst h2
    by_cases h3:j<l.length
    ·rw [if_pos (by omega),aq h3]
    ·rw [if_neg (by omega),bg (by simpa using h3),bg (by omega)]
   ·rw [b5 (gk h2),if_neg (by omega)]
theorem Hq (f:Nat→Int) (n:Nat) (l:List Int) (hl:l.length=n):upd f n 0 l=(List.range n).map f:=by
 apply cu;intro j;rw [Ba,dd]
 by_cases hj:j<n
 ·rw [if_pos (by omega),ek hj]; rfl
 ·rw [if_neg (by omega),bg (by omega),bg (by simpa using hj)]; rfl
def Small (b:Int) (l:List Int):Prop:=∀x∈l,-b≤x∧x≤b
theorem Small.le {b:Int} {l:List Int} (h:Small b l) (hb:0≤b) (i:Nat):-b≤cf l i∧cf l i≤b:=by
 rw [Pe.cf,c5];cases hq:l[i]? with
 | none=>simp; omega
 | some x=>exact h x (dw hq)
def lin (p:Int) (a b:List Int) (k:Int) (i:Nat):Int:=(cf a i+k*cf b i)%p
def Wy (p:Int) (a b:List Int) (k:Int):List Int:=trim ((List.range (max a.length b.length)).map (lin p a b k))
theorem db {x y b c:Int} (hx:-b≤x∧x≤b) (hy:-c≤y∧y≤c) (_hb:0≤b):-(b*c)≤x*y∧x*y≤b*c:=by
 have hc:0≤c:=by omega
 have h1:0≤(b-x)*(c+y):=ce (by omega) (by omega)
 have h2:0≤(b+x)*(c-y):=ce (by omega) (by omega)
 have h3:0≤(b-x)*(c-y):=ce (by omega) (by omega)
 have h4:0≤(b+x)*(c+y):=ce (by omega) (by omega)
 have e1:(b-x)*(c+y)=b*c+b*y-x*c-x*y:=by simp only [Int.sub_mul,ka]; omega
 have e2:(b+x)*(c-y)=b*c-b*y+x*c-x*y:=by simp only [Int.add_mul,Int.mul_sub]; omega
 have e3:(b-x)*(c-y)=b*c-b*y-x*c+x*y:=by simp only [Int.sub_mul,Int.mul_sub]; omega
 have e4:(b+x)*(c+y)=b*c+b*y+x*c+x*y:=by simp only [Int.add_mul,ka]; omega
 constructor <;> omega
theorem En {O:ac} (hat:Xq O) (hred:py O) {p k:Int} {a b:List Int} (hp:0<p∧p<1000000) (ha:Small 1000000 a) (hb:Small 1000000 b) (hk:-1000000≤k∧k≤1000000) {n:Nat} (hn:n<1000000) :
 ∀(m i:Nat) (cur:List Int),i+m=n→cur.length=n →
 dn O 0 (.loop Z15_L0) ⟨[(0,(.d (.int .i64 p))),(1,(.d (.sl .leaf (ae .i64 a)))),(2,(.d (.sl .leaf (ae .i64 b)))),(3,(.d (.int .i64 k))),(9,.sl 0 [] 0 n (some n)),(18,(.d (.int .i64 n))),(19,(.d (.int .i64 i)))],[.sl false .leaf (ae .i64 cur)]⟩ =
  some (.exit 0,⟨[(0,(.d (.int .i64 p))),(1,(.d (.sl .leaf (ae .i64 a)))),(2,(.d (.sl .leaf (ae .i64 b)))),(3,(.d (.int .i64 k))),(9,.sl 0 [] 0 n (some n)),(18,(.d (.int .i64 n))),(19,(.d (.int .i64 n))),(20,(.d (.bool false)))],[.sl false .leaf (ae .i64 (upd (lin p a b k) m i cur))]⟩)
 | 0,i,cur,hi,hc=>by
  have:i=n:=by omega
  subst this;exact bi (by simp -implicitDefEqProofs [Z15_L0,af,upd])
 | m+1,i,cur,hi,hc=>by
  have h1:(i:Int)<(n:Int):=by omega
  have hin:i<n:=by omega
  have e1:=hat a i (by omega)
  have e2:=hat b i (by omega)
  have ga:=ha.le (by omega) i
  have gb:=hb.le (by omega) i
  have gm:=db hk gb (by omega)
  have w1:IntKind.i64.wrap (k*cf b i)=k*cf b i:=w64 (by omega)
  have w2:IntKind.i64.wrap (cf a i+k*cf b i)=cf a i+k*cf b i:=w64 (by omega)
  have e3:=hred p (cf a i+k*cf b i) hp.1 hp.2 (by omega) (by omega)
  have w3:IntKind.i64.wrap ((i:Int)+1)=((i+1:Nat):Int):=by rw [w64 (by omega)]; omega
  have hcur:cur[i]? = some cur[i]:=ah (by omega)
  refine bh ?_ (En hat hred hp ha hb hk hn m (i+1) (cur.set i (lin p a b k i)) (by omega) (by simpa using hc))
  simp -implicitDefEqProofs [Z15_L0,af,h1,hin,e1,e2,w1,w2,e3,w3,hcur,lin]
def vm (O:ac):Prop:=∀(p k:Int) (a b:List Int),0<p→p<1000000→Small 1000000 a→Small 1000000 b→-1000000≤k→k≤1000000→a.length<1000000→b.length<1000000 →
 ask O F15 [(D.int .i64 p),(D.sl .leaf (ae .i64 a)),(D.sl .leaf (ae .i64 b)),(D.int .i64 k)]=some ((D.sl .leaf (ae .i64 (Wy p a b k))))
theorem Qc (hT:T F15=some Z15) (hat:Xq (den T A)) (hred:py (den T A)) (htr:ke (den T A)):vm (den T A):=by
 intro p k a b hp hp' ha hb hk hk' hla hlb;have hl:=En hat hred ⟨hp,hp'⟩ ha hb ⟨hk,hk'⟩ (n:=max a.length b.length) (by omega) (max a.length b.length) 0 (List.replicate (max a.length b.length) 0) (by omega) (by simp)
 rw [Hq _ _ _ (by simp)] at hl
 have e1:=htr ((List.range (max a.length b.length)).map (lin p a b k)) (by simp; omega)
 have emax:(if a.length<b.length then (b.length:Int) else (a.length:Int))=((max a.length b.length:Nat):Int):=by
  split <;> omega
 have h64:max a.length b.length*8≤1099511627776:=by omega
 refine bj hT rfl ?_;unfold Wy;generalize max a.length b.length=n at *;rw [show ((0:Nat):Int)=0 from rfl] at hl;have htk:((List.range n).map (lin p a b k)).take n=(List.range n).map (lin p a b k):=az (by simp)
 simp -implicitDefEqProofs [Z15,Z15_B,emax,h64,hl,e1,htk]
end Pe

namespace Pe
open Go
variable {T:Nat→Option Fn} {A:ac}
def qh (x:Int) (b:List Int) (i:Nat):Nat→Nat→List Int→List Int
 | 0,_,cur=>cur
 | m+1,k,cur=>qh x b i m (k+1) (cur.set (i+k) (cf cur (i+k)+x*cf b k))
theorem p8 (x:Int) (b:List Int) (i:Nat):∀(m k:Nat) (cur:List Int),(qh x b i m k cur).length=cur.length
 | 0,_,_=>rfl
 | m+1,k,cur=>by rw [qh,p8]; simp
theorem qj (l:List Int) (i:Nat) (x:Int) (j:Nat):cf (l.set i x) j=if j=i∧i<l.length then x else cf l j:=by
 unfold cf;rw [c5,c5,List.getElem?_set]
 by_cases h:i=j
 ·subst h
  by_cases h2:i<l.length
  ·simp [h2]
  ·simp [h2]
 ·rw [if_neg h,if_neg (by omega)]
theorem Bn (x:Int) (b:List Int) (i:Nat):∀(m k:Nat) (cur:List Int) (j:Nat),i+k+m≤cur.length→cf (qh x b i m k cur) j=cf cur j+if i+k≤j∧j<i+k+m then x*cf b (j-i) else 0
 | 0,k,cur,j,_=>by rw [qh,if_neg (by omega)]; omega
 | m+1,k,cur,j,h=>by
  rw [qh,Bn x b i m (k+1) _ j (by rw [bt]; omega),qj]
  by_cases hj:j=i+k
  ·subst hj
   rw [if_pos ⟨rfl,by omega⟩,if_neg (by omega),if_pos (by omega),show i+k-i=k by omega]
   omega
  ·rw [if_neg (by omega)]
   by_cases h2:i+k+1≤j∧j<i+k+1+m
   ·rw [if_pos (by omega),if_pos (by omega)]
   ·rw [if_neg (by omega),if_neg (by omega)]
theorem Small.of_cf {B:Int} (_hB:0≤B) {l:List Int} (h:∀j,-B≤cf l j∧cf l j≤B):Small B l:=by
 intro x hx;obtain ⟨j,hj,rfl⟩:=i5 hx;have:=h j
 rwa [da hj] at this
theorem Jf {O:ac} {p x:Int} {b:List Int} {i la nb:Nat} {a:List Int} (hx:-1000≤x∧x≤1000) (hb:Small 1000 b) (hi:i<10000) (hbl:b.length<10000) {n:Nat} (hn:i+b.length≤n) (hn':n<1000000) :
 ∀(m k:Nat) (cur:List Int),k+m=b.length→cur.length=n→(∀j,i+k≤j→-9000000000000≤cf cur j∧cf cur j≤9000000000000) →
 dn O 0 (.loop Z1k_L0) ⟨[(0,(.d (.int .i64 p))),(2,(.d (.sl .leaf (ae .i64 b)))),(7,.sl 0 [] 0 n (some n)),(8,(.d (.int .i64 i))),(9,(.d (.int .i64 x))),(29,(.d (.sl .leaf (ae .i64 a)))),(30,(.d (.int .i64 la))),(31,(.d (.int .i64 nb))),(36,(.d (.sl .leaf (ae .i64 b)))),(37,(.d (.int .i64 b.length))),(38,(.d (.int .i64 k)))],[.sl false .leaf (ae .i64 cur)]⟩ =
  some (.exit 2,⟨[(0,(.d (.int .i64 p))),(2,(.d (.sl .leaf (ae .i64 b)))),(7,.sl 0 [] 0 n (some n)),(8,(.d (.int .i64 i))),(9,(.d (.int .i64 x))),(29,(.d (.sl .leaf (ae .i64 a)))),(30,(.d (.int .i64 la))),(31,(.d (.int .i64 nb))),(36,(.d (.sl .leaf (ae .i64 b)))),(37,(.d (.int .i64 b.length))),(38,(.d (.int .i64 b.length))),(39,(.d (.bool false)))],[.sl false .leaf (ae .i64 (qh x b i m k cur))]⟩)
 | 0,k,cur,hk,hc,hs=>by
  have:k=b.length:=by omega
  subst this;exact bi (by simp -implicitDefEqProofs [Z1k_L0,af,qh])
 | m+1,k,cur,hk,hc,hs=>by
  have h1:(k:Int)<(b.length:Int):=by omega
  have hkl:k<b.length:=by omega
  have hbk:b[k]=cf b k:=(da hkl).symm;have w1:IntKind.i64.wrap ((i:Int)+(k:Int))=((i+k:Nat):Int):=by rw [w64 (by omega)]; omega
  have hik:i+k<n:=by omega
  have t1:(0:Int)≤(i:Int)+(k:Int):=by omega
  have t2:((i:Int)+(k:Int)).toNat=i+k:=by omega
  have hikc:i+k<cur.length:=by omega
  have hck:cur[i+k]=cf cur (i+k):=(da hikc).symm;have gb:=hb.le (by omega) k
  have gc:=hs (i+k) (by omega)
  have gm:=db hx gb (by omega)
  have w2:IntKind.i64.wrap (x*cf b k)=x*cf b k:=w64 (by omega)
  have w3:IntKind.i64.wrap (cf cur (i+k)+x*cf b k)=cf cur (i+k)+x*cf b k:=w64 (by omega)
  have w4:IntKind.i64.wrap ((k:Int)+1)=((k+1:Nat):Int):=by rw [w64 (by omega)]; omega
  refine bh ?_ (Jf hx hb hi hbl hn hn' m (k+1) (cur.set (i+k) (cf cur (i+k)+x*cf b k)) (by omega) (by simpa using hc) (fun j hj=>by rw [qj,if_neg (by omega)]; exact hs j (by omega)))
  simp -implicitDefEqProofs [Z1k_L0,af,hkl,hbk,w1,t1,t2,hik,hikc,hck,w2,w3,w4]
def te (a b:List Int):Nat→Nat→List Int→List Int
 | 0,_,cur=>cur
 | m+1,i,cur=>te a b m (i+1) (qh (cf a i) b i b.length 0 cur)
theorem xu (a b:List Int):∀(m i:Nat) (cur:List Int),(te a b m i cur).length=cur.length
 | 0,_,_=>rfl
 | m+1,i,cur=>by rw [te,xu,p8]
theorem Iz {x:Int} {b:List Int} {i:Nat} {cur:List Int} {M:Int} (hx:-1000≤x∧x≤1000) (hb:Small 1000 b) (hl:i+b.length≤cur.length) (h:∀j,-M≤cf cur j∧cf cur j≤M) (j:Nat) :
 -(M+1000000)≤cf (qh x b i b.length 0 cur) j∧cf (qh x b i b.length 0 cur) j≤M+1000000:=by
 rw [Bn _ _ _ _ _ _ _ (by omega)]
 have h1:=h j;have h2:=db hx (hb.le (by omega) (j-i)) (by omega)
 split <;> omega
theorem Uc {O:ac} {p:Int} {a b:List Int} (ha:Small 1000 a) (hb:Small 1000 b) (hal:a.length<10000) (hbl:b.length<10000) (hb0:0<b.length) {n:Nat} (hn:n=a.length+b.length-1) :
 ∀(m i:Nat) (cur:List Int),i+m=a.length→cur.length=n→(∀j,-((i:Int)*1000000)≤cf cur j∧cf cur j≤(i:Int)*1000000) →
 dn O 0 (.loop Z1k_L1) ⟨[(0,(.d (.int .i64 p))),(2,(.d (.sl .leaf (ae .i64 b)))),(7,.sl 0 [] 0 n (some n)),(29,(.d (.sl .leaf (ae .i64 a)))),(30,(.d (.int .i64 a.length))),(31,(.d (.int .i64 i)))],[.sl false .leaf (ae .i64 cur)]⟩ =
  some (.exit 0,⟨[(0,(.d (.int .i64 p))),(2,(.d (.sl .leaf (ae .i64 b)))),(7,.sl 0 [] 0 n (some n)),(29,(.d (.sl .leaf (ae .i64 a)))),(30,(.d (.int .i64 a.length))),(31,(.d (.int .i64 a.length))),(32,(.d (.bool false)))],[.sl false .leaf (ae .i64 (te a b m i cur))]⟩):=by
 intro m
 induction m with
 | zero=>
  intro i cur hi hc hs;have:i=a.length:=by omega
  subst this;exact bi (by simp -implicitDefEqProofs [Z1k_L1,af,te])
 | succ m ih=>
  intro i cur hi hc hs;have hil:i<a.length:=by omega
  have hai:a[i]=cf a i:=(da hil).symm;have gx:=ha.le (by omega) i
  have q1:i<10000:=by omega
  have q2:i+b.length≤n:=by omega
  have q3:n<1000000:=by omega
  have q4:∀j,i+0≤j→-9000000000000≤cf cur j∧cf cur j≤9000000000000:=fun j _=>by
   have h9:=hs j;omega
  have h0:=Jf (O:=O) (p:=p) (a:=a) (la:=a.length) (nb:=i) gx hb q1 hbl q2 q3 b.length 0 cur (b9 _) hc q4;have e0:((0:Nat):Int)=0:=rfl;rw [e0] at h0;have w4:IntKind.i64.wrap ((i:Int)+1)=((i+1:Nat):Int):=(w64 (x:=(i:Int)+1) (by omega)).trans (by omega)
  have hnew:∀j,-(((i+1:Nat):Int)*1000000)≤cf (qh (cf a i) b i b.length 0 cur) j∧cf (qh (cf a i) b i b.length 0 cur) j≤((i+1:Nat):Int)*1000000:=by
   intro j;have:=Iz (x:=cf a i) (b:=b) (i:=i) (cur:=cur) gx hb (by omega) hs j
   omega
  refine bh ?_ (ih (i+1) (qh (cf a i) b i b.length 0 cur) (by omega) (by rw [p8]; exact hc) hnew)
  simp -implicitDefEqProofs [Z1k_L1,af,hil,hai,h0,w4]
theorem Jy {O:ac} {p:Int} {out:List Int} (hp:0<p) {n:Nat} (hn:n<1000000) (hout:out.length=n) (hpos:∀j,-9000000000000000≤cf out j∧cf out j≤9000000000000000) :
 ∀(m i:Nat) (cur:List Int),i+m=n→cur.length=n→(∀j,i≤j→cf cur j=cf out j) →
 dn O 0 (.loop Z1k_L2) ⟨[(0,(.d (.int .i64 p))),(7,.sl 0 [] 0 n (some n)),(56,.sl 0 [] 0 n (some n)),(57,(.d (.int .i64 n))),(58,(.d (.int .i64 i)))],[.sl false .leaf (ae .i64 cur)]⟩ =
  some (.exit 4,⟨[(0,(.d (.int .i64 p))),(7,.sl 0 [] 0 n (some n)),(56,.sl 0 [] 0 n (some n)),(57,(.d (.int .i64 n))),(58,(.d (.int .i64 n))),(59,(.d (.bool false)))],[.sl false .leaf (ae .i64 (upd (fun j=>(cf out j).tmod p) m i cur))]⟩)
 | 0,i,cur,hi,hc,hs=>by
  have:i=n:=by omega
  subst this;exact bi (by simp -implicitDefEqProofs [Z1k_L2,af,upd])
 | m+1,i,cur,hi,hc,hs=>by
  have hp0:p≠0:=by omega
  have hin:i<n:=by omega
  have hic:i<cur.length:=by omega
  have hci:cur[i]=cf out i:=by rw [←da hic]; exact hs i (by omega)
  have w4:IntKind.i64.wrap ((i:Int)+1)=((i+1:Nat):Int):=by rw [w64 (by omega)]; omega
  refine bh ?_ (Jy hp hn hout hpos m (i+1) (cur.set i ((cf out i).tmod p)) (by omega) (by simpa using hc) (fun j hj=>by rw [qj,if_neg (by omega)]; exact hs j (by omega)))
  simp -implicitDefEqProofs [Z1k_L2,af,hin,hic,hci,hp0,w4]
def conv (a b:List Int):Nat→Nat→Int
 | 0,_=>0
 | m+1,j=>conv a b m j+if m≤j then cf a m*cf b (j-m) else 0
theorem Bv (a b:List Int):∀(m i:Nat) (cur:List Int) (j:Nat),i+m=a.length→a.length+b.length≤cur.length+1→0<b.length→(cf cur j=conv a b i j)→(∀j',cf cur j'=conv a b i j')→cf (te a b m i cur) j=conv a b (i+m) j
 | 0,i,cur,j,_,_,_,h,_=>h
 | m+1,i,cur,j,hi,hl,hb,h,hall=>by
  have step:∀j',cf (qh (cf a i) b i b.length 0 cur) j'=conv a b (i+1) j':=by
   intro j';rw [Bn _ _ _ _ _ _ _ (by omega),hall j',conv]
   by_cases h1:i+0≤j'∧j'<i+0+b.length
   ·rw [if_pos h1,if_pos (by omega)]
   ·rw [if_neg h1]
    by_cases h2:i≤j'
    ·rw [if_pos h2,jw (l:=b) (by omega),Int.mul_zero]
    ·rw [if_neg h2]
  rw [te,show i+(m+1)=(i+1)+m by omega]
  exact Bv a b m (i+1) _ j (by omega) (by rw [p8]; exact hl) hb (step j) step
def Can (p:Int) (l:List Int):Prop:=∀x∈l,0≤x∧x<p
theorem Can.small {p:Int} {l:List Int} (h:Can p l) {b:Int} (hp:p≤b):Small b l:=fun x hx=>by have:=h x hx; omega
theorem Can.le {p:Int} {l:List Int} (h:Can p l) (hp:0<p) (i:Nat):0≤cf l i∧cf l i<p:=by
 by_cases hi:i<l.length
 ·rw [da hi]; exact h _ (cx hi)
 ·rw [jw (by omega)]; omega
theorem uc {p:Int} {a b:List Int} (hp:0<p) (ha:Can p a) (hb:Can p b):∀m j,0≤conv a b m j
 | 0,j=>by simp [conv]
 | m+1,j=>by
  have:=uc hp ha hb m j;rw [conv]
  split
  ·have:=ce (ha.le hp m).1 (hb.le hp (j-m)).1
   omega
  ·omega
def mul (p:Int) (a b:List Int):List Int:=trim ((List.range (a.length+b.length-1)).map fun j=>conv a b a.length j%p)
theorem zl {l:List Int}:∀n,(∀j,j<n→cf l j=0)→mc l n=0
 | 0,_=>rfl
 | n+1,h=>by
  rw [mc,if_pos (h n (by omega))]
  exact zl n fun j hj=>h j (by omega)
theorem I8 (a:List Int):∀m j,conv a [] m j=0
 | 0,_=>rfl
 | m+1,j=>by rw [conv,I8 a m j,jw (l:=[]) (by simp)]; simp
theorem kg (f:Nat→Int) (n j:Nat) (hj:j<n):cf ((List.range n).map f) j=f j:=by
 rw [da (by simpa using hj)]; simp
theorem Hk (p:Int) (b:List Int):mul p [] b=[]:=by
 unfold mul trim;rw [zl,il];intro j hj;rw [kg _ _ _ (by simpa using hj)]
 simp [conv]
theorem Dn (p:Int) (a:List Int):mul p a []=[]:=by
 unfold mul trim;rw [zl,il];intro j hj;rw [kg _ _ _ (by simpa using hj),I8]
 simp
def Ez (O:ac):Prop:=∀(p:Int) (a b:List Int),0<p→p<1000→Can p a→Can p b→a.length<10000→b.length<10000 →
 ask O F1k [(D.int .i64 p),(D.sl .leaf (ae .i64 a)),(D.sl .leaf (ae .i64 b))]=some ((D.sl .leaf (ae .i64 (mul p a b))))
theorem Wj (hT:T F1k=some Z1k) (htr:ke (den T A)):Ez (den T A):=by
 intro p a b hp hp' ha hb hal hbl;refine bj hT rfl ?_
 by_cases h1:a=[]
 ·subst h1
  rw [Hk];simp -implicitDefEqProofs [Z1k,Z1k_B,af,ec]
 ·by_cases h2:b=[]
  ·subst h2
   have hal0:a.length≠0:=by simpa using h1
   rw [Dn];simp -implicitDefEqProofs [Z1k,Z1k_B,af,ec,h1]
  ·have g1:0<a.length:=i6.2 h1
   have g2:0<b.length:=i6.2 h2
   have l1:=Uc (O:=den T A) (p:=p) (ha.small (b:=1000) (by omega)) (hb.small (b:=1000) (by omega)) hal hbl g2 rfl a.length 0 (List.replicate (a.length+b.length-1) 0) (b9 _) (by simp) (fun j=>by
    have:cf (List.replicate (a.length+b.length-1) 0) j=0:=by
     by_cases hj:j<a.length+b.length-1
     ·rw [da (by simpa using hj)]; simp
     ·exact jw (by simp; omega)
    rw [this]; simp)
   have hz:∀j,cf (List.replicate (a.length+b.length-1) (0:Int)) j=0:=fun j=>by
    by_cases hj:j<a.length+b.length-1
    ·rw [da (by simpa using hj)]; simp
    ·exact jw (by simp; omega)
   have hrl:(te a b a.length 0 (List.replicate (a.length+b.length-1) 0)).length=a.length+b.length-1:=by rw [xu]; simp
   have hrc:∀j,cf (te a b a.length 0 (List.replicate (a.length+b.length-1) 0)) j=conv a b a.length j:=fun j=>by
    have:=Bv a b a.length 0 (List.replicate (a.length+b.length-1) 0) j (b9 _) (by simp; omega) g2 (by rw [hz]; rfl) (fun j'=>by rw [hz]; rfl)
    rwa [b9] at this
   have hcb:∀m j,conv a b m j≤(m:Int)*1000000:=by
    intro m
    induction m with
    | zero=>intro j; simp [conv]
    | succ m ih=>
     intro j;have h3:=ih j;have h4:=db ((ha.small (b:=1000) (by omega)).le (by omega) m) ((hb.small (b:=1000) (by omega)).le (by omega) (j-m)) (by omega)
     rw [conv]
     split <;> omega
   have l2:=Jy (O:=den T A) (p:=p) (out:=te a b a.length 0 (List.replicate (a.length+b.length-1) 0)) hp (n:=a.length+b.length-1) (by omega) hrl (fun j=>by
    rw [hrc];have h3:=uc hp ha hb a.length j;have h4:=hcb a.length j;omega) (a.length+b.length-1) 0 (te a b a.length 0 (List.replicate (a.length+b.length-1) 0)) (b9 _) hrl (fun _ _=>rfl)
   rw [Hq _ _ _ hrl] at l2
   have hfun:(fun j=>(cf (te a b a.length 0 (List.replicate (a.length+b.length-1) 0)) j).tmod p)=fun j=>conv a b a.length j%p:=by
    funext j
    rw [hrc,br (uc hp ha hb a.length j)]
   rw [hfun] at l2;have e0:((0:Nat):Int)=0:=rfl;rw [e0] at l1 l2;have e1:=htr ((List.range (a.length+b.length-1)).map fun j=>conv a b a.length j%p) (by simp; omega)
   have n1:a.length≠0:=by omega
   have n2:b.length≠0:=by omega
   have w1:IntKind.i64.wrap ((a.length:Int)+(b.length:Int))=(a.length:Int)+(b.length:Int):=w64 (by omega)
   have w2:IntKind.i64.wrap ((a.length:Int)+(b.length:Int)-1)=((a.length+b.length-1:Nat):Int):=(w64 (x:=(a.length:Int)+(b.length:Int)-1) (by omega)).trans (by omega)
   have h8:(a.length+b.length-1)*8≤1099511627776:=by omega
   unfold mul;generalize a.length+b.length-1=n at *;have htk:((List.range n).map fun j=>conv a b a.length j%p).take n=(List.range n).map fun j=>conv a b a.length j%p:=az (by simp)
   simp -implicitDefEqProofs [Z1k,Z1k_B,af,h1,h2,w1,w2,h8,l1,l2,e1,htk]
end Pe

namespace Pe
open Go
variable {T:Nat→Option Fn} {A:ac}
def zj (p n:Int):Nat→Int
 | 0=>1
 | m+1=>zj p n m*n%p
def inv (p n:Int):Int:=zj p n (p-2).toNat
theorem Ow {p n:Int} (hp:1<p):∀m,0≤zj p n m∧zj p n m<p
 | 0=>by simp [zj]; omega
 | m+1=>⟨c8 _ (by omega),bq _ (by omega)⟩
theorem Ew {O:ac} {p n:Int} (hp:1<p) (hp':p<1000) (hn:0≤n∧n<p) {k:Nat} (hk:(k:Int)=p-2):∀(m i:Nat),i+m=k →
 dn O 0 (.loop Z1a_L0) ⟨[(0,(.d (.int .i64 p))),(1,(.d (.int .i64 n))),(5,(.d (.int .i64 (zj p n i)))),(7,(.d (.int .i64 k))),(8,(.d (.int .i64 i)))],[]⟩=some (.exit 0,⟨[(0,(.d (.int .i64 p))),(1,(.d (.int .i64 n))),(5,(.d (.int .i64 (zj p n k)))),(7,(.d (.int .i64 k))),(8,(.d (.int .i64 k))),(9,(.d (.bool false)))],[]⟩)
 | 0,i,hi=>by
  have:i=k:=by omega
  subst this;exact bi (by simp -implicitDefEqProofs [Z1a_L0,af])
 | m+1,i,hi=>by
  have hik:i<k:=by omega
  have g:=Ow (n:=n) hp i;have hp0:p≠0:=by omega
  have gm:=db (x:=zj p n i) (y:=n) (b:=1000) (c:=1000) (by omega) (by omega) (by omega)
  have w1:IntKind.i64.wrap (zj p n i*n)=zj p n i*n:=w64 (by omega)
  have w2:(zj p n i*n).tmod p=zj p n (i+1):=br (ce g.1 hn.1);have w4:IntKind.i64.wrap ((i:Int)+1)=((i+1:Nat):Int):=(w64 (x:=(i:Int)+1) (by omega)).trans (by omega)
  refine bh ?_ (Ew hp hp' hn hk m (i+1) (by omega))
  simp -implicitDefEqProofs [Z1a_L0,af,hik,hp0,w1,w2,w4]
def n8 (O:ac):Prop:=∀p n:Int,1<p→p<1000→0≤n→n<p→ask O F1a [(D.int .i64 p),(D.int .i64 n)]=some ((D.int .i64 (inv p n)))
theorem Ro (hT:T F1a=some Z1a):n8 (den T A):=by
 intro p n hp hp' hn hn';have hk:(((p-2).toNat:Nat):Int)=p-2:=by omega
 have hl:=Ew (O:=den T A) hp hp' ⟨hn,hn'⟩ hk (p-2).toNat 0 (by omega)
 have w1:IntKind.i64.wrap (p-2)=(((p-2).toNat:Nat):Int):=(w64 (x:=p-2) (by omega)).trans (by omega)
 have e0:((0:Nat):Int)=0:=rfl;rw [e0] at hl;have e1:zj p n 0=1:=rfl;rw [e1] at hl;refine bj hT rfl ?_;unfold inv;generalize (p-2).toNat=k at *;simp -implicitDefEqProofs [Z1a,Z1a_B,w1,hl]
def lh (O:ac):Prop:=∀l:List Int,l.length<1000000→ask O F1o [(D.sl .leaf (ae .i64 l))]=some ((D.int .i64 ((l.length:Int)-1)))
theorem V5 (hT:T F1o=some Z1o):lh (den T A):=by
 intro l hl;have w1:IntKind.i64.wrap ((l.length:Int)-1)=(l.length:Int)-1:=w64 (by omega)
 refine bj hT rfl ?_;simp -implicitDefEqProofs [Z1o,Z1o_B,w1]
def Aj (l:List Int):Int:=cf l (l.length-1)
def ug (O:ac):Prop:=∀l:List Int,l.length<1000000→ask O F1p [(D.sl .leaf (ae .i64 l))]=some ((D.int .i64 (Aj l)))
theorem a0o (hT:T F1p=some Z1p):ug (den T A):=by
 intro l hl;refine bj hT rfl ?_
 by_cases h:l=[]
 ·subst h
  simp -implicitDefEqProofs [Z1p,Z1p_B,af,ec,Aj,cf]
 ·have h1:0<l.length:=i6.2 h
  have w1:IntKind.i64.wrap ((l.length:Int)-1)=((l.length-1:Nat):Int):=(w64 (x:=(l.length:Int)-1) (by omega)).trans (by omega)
  have h2:l.length-1<l.length:=by omega
  have h3:l[l.length-1]? = some (Aj l):=by
   rw [ah h2]; exact congrArg some (da h2).symm
  have h4:(l.length:Int)≠0:=by omega
  simp -implicitDefEqProofs [Z1p,Z1p_B,af,h,w1,h3]
def isP (p:Int):Bool:=decide (p=2∨p=3∨p=5∨p=7)
def v9 (O:ac):Prop:=∀p:Int,ask O F10 [(D.int .i64 p)]=some ((D.bool (isP p)))
theorem Q6 (hT:T F10=some Z10):v9 (den T A):=by
 intro p;refine bj hT rfl ?_
 by_cases h2:p=2
 ·simp -implicitDefEqProofs [Z10,Z10_B,h2,isP]
 ·by_cases h3:p=3
  ·simp -implicitDefEqProofs [Z10,Z10_B,h3,isP]
  ·by_cases h5:p=5
   ·simp -implicitDefEqProofs [Z10,Z10_B,h5,isP]
   ·simp -implicitDefEqProofs [Z10,Z10_B,h2,h3,h5,isP]
def G0 (O:ac):Prop:=∀(p k:Int) (a:List Int),0<p→p<1000000→Small 1000000 a→-1000000≤k→k≤1000000→a.length<1000000 →
 ask O F1i [(D.int .i64 p),(D.sl .leaf (ae .i64 a)),(D.int .i64 k)]=some ((D.sl .leaf (ae .i64 (Wy p [] a k))))
theorem Xf (hT:T F1i=some Z1i) (hc:vm (den T A)):G0 (den T A):=by
 intro p k a hp hp' ha hk hk' hl;have e1:=hc p k [] a hp hp' (by intro x hx; simp at hx) ha hk hk' (by simp) hl
 rw [ec] at e1;refine bj hT rfl ?_;simp -implicitDefEqProofs [Z1i,Z1i_B,e1]
def rp (O:ac):Prop:=ask O F11 []=some ((D.sl .leaf (ae .i64 ([0,1]))))
theorem Uv (hT:T F11=some Z11):rp (den T A):=by
 refine bj hT rfl ?_;simp -implicitDefEqProofs [Z11,Z11_B,ae,List.replicate]
end Pe

namespace Pe
open Go
variable {T:Nat→Option Fn} {A:ac}
def jg (p q:Int) (b:List Int) (i:Nat):Nat→Nat→List Int→List Int
 | 0,_,cur=>cur
 | m+1,k,cur=>jg p q b i m (k+1) (cur.set (i+k) ((cf cur (i+k)-q*cf b k)%p))
theorem iv (p q:Int) (b:List Int) (i:Nat):∀(m k:Nat) (cur:List Int),(jg p q b i m k cur).length=cur.length
 | 0,_,_=>rfl
 | m+1,k,cur=>by rw [jg,iv]; simp
theorem uy (p q:Int) (b:List Int) (i:Nat):∀(m k:Nat) (cur:List Int) (j:Nat),i+k+m≤cur.length→cf (jg p q b i m k cur) j=if i+k≤j∧j<i+k+m then (cf cur j-q*cf b (j-i))%p else cf cur j
 | 0,k,cur,j,_=>by rw [jg,if_neg (by omega)]
 | m+1,k,cur,j,h=>by
  rw [jg,uy p q b i m (k+1) _ j (by rw [bt]; omega),qj]
  by_cases hj:j=i+k
  ·subst hj
   rw [if_neg (by omega),if_pos ⟨rfl,by omega⟩,if_pos (by omega),show i+k-i=k by omega]
  ·have e:(if j=i+k∧i+k<cur.length then (cf cur (i+k)-q*cf b k)%p else cf cur j)=cf cur j:=if_neg fun h=>hj h.1
   rw [e]
   by_cases h2:i+k+1≤j∧j<i+k+1+m
   ·rw [if_pos (by omega),if_pos (by omega)]
   ·rw [if_neg (by omega),if_neg (by omega)]
theorem Can.of_cf {p:Int} {l:List Int} (h:∀j,j<l.length→0≤cf l j∧cf l j<p):Can p l:=by
 intro x hx;obtain ⟨j,hj,rfl⟩:=i5 hx;have:=h j hj
 rwa [da hj] at this
theorem z5 {p q:Int} {b:List Int} {i:Nat} (hp:0<p) {m k:Nat} {cur:List Int} (hl:i+k+m≤cur.length) (hc:Can p cur):Can p (jg p q b i m k cur):=by
 apply Can.of_cf;intro j hj;rw [uy _ _ _ _ _ _ _ _ hl]
 split
 ·exact ⟨c8 _ (by omega),bq _ hp⟩
 ·exact hc.le hp j
theorem Q2 {O:ac} (hred:py O) {p q by_:Int} {b quo:List Int} {i la nq:Nat} {cp:Option Nat} (hp:0<p) (hp':p<1000) (hq:0≤q∧q<p) (hb:Can p b) (hi:i<10000) (hbl:b.length<10000) (hn:i+b.length≤la) (hn':la<1000000) :
 ∀(m k:Nat) (cur:List Int),k+m=b.length→cur.length=la→Can p cur →
 dn O 0 (.loop Z16_L0) ⟨[(0,(.d (.int .i64 p))),(2,(.d (.sl .leaf (ae .i64 b)))),(8,.sl 0 [] 0 la cp),(9,.sl 1 [] 0 nq (some nq)),(10,(.d (.int .i64 by_))),(11,(.d (.int .i64 i))),(12,(.d (.int .i64 q))),(57,(.d (.sl .leaf (ae .i64 b)))),(58,(.d (.int .i64 b.length))),(59,(.d (.int .i64 k)))],[.sl false .leaf (ae .i64 cur),.sl false .leaf (ae .i64 quo)]⟩ =
  some (.exit 2,⟨[(0,(.d (.int .i64 p))),(2,(.d (.sl .leaf (ae .i64 b)))),(8,.sl 0 [] 0 la cp),(9,.sl 1 [] 0 nq (some nq)),(10,(.d (.int .i64 by_))),(11,(.d (.int .i64 i))),(12,(.d (.int .i64 q))),(57,(.d (.sl .leaf (ae .i64 b)))),(58,(.d (.int .i64 b.length))),(59,(.d (.int .i64 b.length))),(60,(.d (.bool false)))],[.sl false .leaf (ae .i64 (jg p q b i m k cur)),.sl false .leaf (ae .i64 quo)]⟩):=by
 intro m
 induction m with
 | zero=>
  intro k cur hk hc hcan;have:k=b.length:=by omega
  subst this;exact bi (by simp -implicitDefEqProofs [Z16_L0,af,jg])
 | succ m ih=>
  intro k cur hk hc hcan;have hkl:k<b.length:=by omega
  have hbk:b[k]=cf b k:=(da hkl).symm;have hik:i+k<la:=by omega
  have hikc:i+k<cur.length:=by omega
  have hck:cur[i+k]=cf cur (i+k):=(da hikc).symm;have t1:(0:Int)≤(i:Int)+(k:Int):=by omega
  have t2:((i:Int)+(k:Int)).toNat=i+k:=by omega
  have w1:IntKind.i64.wrap ((i:Int)+(k:Int))=((i+k:Nat):Int):=(w64 (x:=(i:Int)+(k:Int)) (by omega)).trans (by omega)
  have gb:=hb.le hp k;have gc:=hcan.le hp (i+k);have gm:=db (x:=q) (y:=cf b k) (b:=1000) (c:=1000) (by omega) (by omega) (by omega)
  have w2:IntKind.i64.wrap (q*cf b k)=q*cf b k:=w64 (by omega)
  have w3:IntKind.i64.wrap (cf cur (i+k)-q*cf b k)=cf cur (i+k)-q*cf b k:=w64 (by omega)
  have w4:IntKind.i64.wrap ((k:Int)+1)=((k+1:Nat):Int):=(w64 (x:=(k:Int)+1) (by omega)).trans (by omega)
  have e3:=hred p (cf cur (i+k)-q*cf b k) hp (by omega) (by omega) (by omega)
  have hcan':Can p (cur.set (i+k) ((cf cur (i+k)-q*cf b k)%p)):=by
   intro x hx;rcases dk hx with h | h
   ·exact hcan x h
   ·subst h; exact ⟨c8 _ (by omega),bq _ hp⟩
  refine bh ?_ (ih (k+1) (cur.set (i+k) ((cf cur (i+k)-q*cf b k)%p)) (by omega) (by simpa using hc) hcan')
  simp -implicitDefEqProofs [Z16_L0,af,hkl,hbk,w1,t1,t2,hik,hikc,hck,w2,w3,w4,e3]
def dv (p by_:Int) (b:List Int):Nat→List Int×List Int→List Int×List Int
 | 0,r=>r
 | c+1,(cur,quo)=>
  let q:=cf cur (c+b.length-1)*by_%p
  dv p by_ b c (jg p q b c b.length 0 cur,quo.set c q)
theorem Qf {O:ac} (hred:py O) {p by_:Int} {b:List Int} {la nq:Nat} {cp:Option Nat} (hp:0<p) (hp':p<1000) (hby:0≤by_∧by_<p) (hb:Can p b) (hb0:0<b.length) (hn:nq+b.length=la+1) (hn':la<10000) :
 ∀(c:Nat) (cur quo:List Int),c≤nq→cur.length=la→quo.length=nq→Can p cur →
 dn O 0 (.loop Z16_L1) ⟨[(0,(.d (.int .i64 p))),(2,(.d (.sl .leaf (ae .i64 b)))),(8,.sl 0 [] 0 la cp),(9,.sl 1 [] 0 nq (some nq)),(10,(.d (.int .i64 by_))),(11,(.d (.int .i64 ((c:Int)-1))))],[.sl false .leaf (ae .i64 cur),.sl false .leaf (ae .i64 quo)]⟩ =
  some (.exit 0,⟨[(0,(.d (.int .i64 p))),(2,(.d (.sl .leaf (ae .i64 b)))),(8,.sl 0 [] 0 la cp),(9,.sl 1 [] 0 nq (some nq)),(10,(.d (.int .i64 by_))),(11,(.d (.int .i64 (-1)))),(38,(.d (.bool false)))],[.sl false .leaf (ae .i64 (dv p by_ b c (cur,quo)).1),.sl false .leaf (ae .i64 (dv p by_ b c (cur,quo)).2)]⟩):=by
 intro c
 induction c with
 | zero=>
  intro cur quo hc h1 h2 hcan;exact bi (by simp -implicitDefEqProofs [Z16_L1,af,dv])
 | succ c ih=>
  intro cur quo hc h1 h2 hcan;have hp0:p≠0:=by omega
  have t0:(((c+1:Nat):Int)-1)=(c:Int):=by omega
  rw [t0];have hil:c+b.length-1<cur.length:=by omega
  have hil2:c+b.length-1<la:=by omega
  have hci:cur[c+b.length-1]=cf cur (c+b.length-1):=(da hil).symm;have gc:=hcan.le hp (c+b.length-1);have w1:IntKind.i64.wrap ((c:Int)+(b.length:Int))=(c:Int)+(b.length:Int):=w64 (by omega)
  have w2:IntKind.i64.wrap ((c:Int)+(b.length:Int)-1)=((c+b.length-1:Nat):Int):=(w64 (x:=(c:Int)+(b.length:Int)-1) (by omega)).trans (by omega)
  have gm:=db (x:=cf cur (c+b.length-1)) (y:=by_) (b:=1000) (c:=1000) (by omega) (by omega) (by omega)
  have w3:IntKind.i64.wrap (cf cur (c+b.length-1)*by_)=cf cur (c+b.length-1)*by_:=w64 (by omega)
  have w4:(cf cur (c+b.length-1)*by_).tmod p=cf cur (c+b.length-1)*by_%p:=br (ce gc.1 hby.1);have w5:IntKind.i64.wrap ((c:Int)-1)=(c:Int)-1:=w64 (by omega)
  have hcq:c<quo.length:=by omega
  have hcn:c<nq:=by omega
  have hq:0≤cf cur (c+b.length-1)*by_%p∧cf cur (c+b.length-1)*by_%p<p:=⟨c8 _ hp0,bq _ hp⟩;have l0:=Q2 (by_:=by_) (quo:=quo.set c (cf cur (c+b.length-1)*by_%p)) (nq:=nq) (cp:=cp) hred hp hp' hq hb (i:=c) (by omega) (by omega) (la:=la) (by omega) (by omega) b.length 0 cur (b9 _) h1 hcan
  have e0:((0:Nat):Int)=0:=rfl;rw [e0] at l0;have ih':=ih (jg p (cf cur (c+b.length-1)*by_%p) b c b.length 0 cur) (quo.set c (cf cur (c+b.length-1)*by_%p)) (by omega) (by rw [iv]; exact h1) (by simpa using h2) (z5 hp (by omega) hcan)
  refine bh ?_ ih';simp -implicitDefEqProofs [Z16_L1,af,hp0,w1,w2,hil,hil2,hci,w3,w4,w5,hcq,hcn,l0]
end Pe

namespace Gq
class CR (α:Type) extends Zero α,One α,Add α,Mul α,Neg α,Sub α where
 add_zero:∀a:α,a+0=a
 add_comm:∀a b:α,a+b=b+a
 add_assoc:∀a b c:α,a+b+c=a+(b+c)
 mul_one:∀a:α,a*1=a
 mul_comm:∀a b:α,a*b=b*a
 mul_assoc:∀a b c:α,a*b*c=a*(b*c)
 mul_add:∀a b c:α,a*(b+c)=a*b+a*c
 add_neg:∀a:α,a + -a=0
 sub_eq:∀a b:α,a-b=a + -b
section
variable {α:Type} [CR α]
theorem add_zero (a:α):a+0=a:=CR.add_zero a
theorem add_comm (a b:α):a+b=b+a:=CR.add_comm a b
theorem add_assoc (a b c:α):a+b+c=a+(b+c):=CR.add_assoc a b c
theorem mul_one (a:α):a*1=a:=CR.mul_one a
theorem mul_comm (a b:α):a*b=b*a:=CR.mul_comm a b
theorem mul_assoc (a b c:α):a*b*c=a*(b*c):=CR.mul_assoc a b c
theorem mul_add (a b c:α):a*(b+c)=a*b+a*c:=CR.mul_add a b c
theorem add_neg (a:α):a + -a=0:=CR.add_neg a
theorem sub_eq (a b:α):a-b=a + -b:=CR.sub_eq a b
end
instance:CR Int where
 add_zero:=Int.add_zero
 add_comm:=Int.add_comm
 add_assoc:=Int.add_assoc
 mul_one:=gv
 mul_comm:=f8
 mul_assoc:=rm
 mul_add:=ka
 add_neg:=Int.add_right_neg
 sub_eq:=fun _ _=>Int.sub_eq_add_neg
section
variable {α:Type} [CR α]
def pw (a:α):Nat→α
 | 0=>1
 | n+1=>pw a n*a
instance (priority:=100):HPow α Nat α:=⟨pw⟩
theorem pow_zero (a:α):a^0=1:=rfl
theorem pow_succ (a:α) (n:Nat):a^(n+1)=a^n*a:=rfl
theorem zero_add (a:α):0+a=a:=by rw [add_comm,add_zero]
theorem Oq (a:α):-a+a=0:=by rw [add_comm,add_neg]
theorem one_mul (a:α):1*a=a:=by rw [mul_comm,mul_one]
theorem add_mul (a b c:α):(a+b)*c=a*c+b*c:=by rw [mul_comm,mul_add,mul_comm c,mul_comm c]
theorem o5 (a b c:α):a+(b+c)=b+(a+c):=by rw [←add_assoc,add_comm a,add_assoc]
theorem mul_left_comm (a b c:α):a*(b*c)=b*(a*c):=by rw [←mul_assoc,mul_comm a,mul_assoc]
theorem Bm {a b c:α} (h:a+b=a+c):b=c:=by
 have:-a+(a+b)=-a+(a+c):=by rw [h]
 rwa [←add_assoc,←add_assoc,Oq,zero_add,zero_add] at this
theorem mul_zero (a:α):a*0=0:=by
 apply Bm (a:=a*0);rw [←mul_add,add_zero,add_zero]
theorem zero_mul (a:α):0*a=0:=by rw [mul_comm,mul_zero]
theorem zf {a b:α} (h:a+b=0):b=-a:=Bm (a:=a) (by rw [h,add_neg])
theorem vi (a b:α):-a*b=-(a*b):=zf (by rw [←add_mul,add_neg,zero_mul])
theorem neg_neg (a:α):- -a=a:=(zf (Oq a)).symm
theorem rt:-(0:α)=0:=(zf (add_zero 0)).symm
theorem ui (a b:α):-(a+b)=-a + -b:=by
 apply (zf _).symm;rw [add_assoc,o5 b,←add_assoc,add_neg,zero_add,add_neg]
def nc:Nat→α
 | 0=>0
 | n+1=>nc n+1
theorem wq (m n:Nat):nc (m+n)=(nc m+nc n:α):=by
 induction n with
 | zero=>exact (add_zero _).symm
 | succ n ih=>rw [←f7,nc,nc,ih,add_assoc]
theorem Gs (m n:Nat):nc (m*n)=(nc m*nc n:α):=by
 induction n with
 | zero=>exact (mul_zero _).symm
 | succ n ih=>rw [Nat.mul_succ,wq,nc,ih,mul_add,mul_one]
def ic:Int→α
 | .ofNat n=>nc n
 | .negSucc n=>-nc (n+1)
theorem G8:ic 0=(0:α):=rfl
theorem Nd:ic 1=(1:α):=zero_add 1
theorem zb (m n:Nat):ic ((m:Int)-n)=(nc m + -nc n:α):=by
 by_cases h:n≤m
 ·obtain ⟨k,rfl⟩:=dz h
  have:((n+k:Nat):Int)-n=(k:Nat):=by omega
  rw [this];show nc k=_;rw [wq,add_comm (nc n),add_assoc,add_neg,add_zero]
 ·obtain ⟨k,rfl⟩:=dz (show m+1≤n by omega)
  have:(m:Int)-((m+1+k:Nat):Int)=Int.negSucc k:=by omega
  rw [this];show -nc (k+1)=_;rw [show m+1+k=m+(k+1) by omega,wq m,ui,←add_assoc,add_neg,zero_add]
theorem As (j:Int):∃m n:Nat,j=(m:Int)-n:=by
 cases j with
 | ofNat m=>exact ⟨m,0,by simp⟩
 | negSucc n=>exact ⟨0,n+1,by omega⟩
theorem Nm (j k:Int):ic (j+k)=(ic j+ic k:α):=by
 obtain ⟨a,b,rfl⟩:=As j;obtain ⟨c,d,rfl⟩:=As k;rw [show ((a:Int)-b)+((c:Int)-d)=((a+c:Nat):Int)-((b+d:Nat):Int) by omega,zb,zb,zb,wq,wq,ui,add_assoc,add_assoc,o5 (nc c)]
theorem a0i (j:Int):ic (-j)=(-ic j:α):=zf (by rw [←Nm,Int.add_right_neg]; rfl)
theorem Yi (j k:Int):ic (j*k)=(ic j*ic k:α):=by
 obtain ⟨a,b,rfl⟩:=As j;obtain ⟨c,d,rfl⟩:=As k
 have e:((a:Int)-b)*((c:Int)-d)=((a*c+b*d:Nat):Int)-((a*d+b*c:Nat):Int):=by
  simp only [Int.sub_mul,Int.mul_sub,Int.natCast_add,Int.natCast_mul]; omega
 rw [e,zb,zb,zb,wq,wq,Gs,Gs,Gs,Gs,add_mul,mul_add,mul_add,vi,vi,mul_comm (nc a) (-nc d),vi,mul_comm (nc b) (-nc d),vi,neg_neg,ui,mul_comm (nc d) (nc a),mul_comm (nc d) (nc b)];simp only [add_assoc,o5,add_comm]
inductive RE where
 | zero | one
 | i (k:Int)
 | v (n:Nat)
 | add (a b:RE) | mul (a b:RE) | sub (a b:RE)
 | neg (a:RE)
 | pow (a:RE) (n:Nat)
def RE.ev (env:List α):RE→α
 | .zero=>0
 | .one=>1
 | .i k=>ic k
 | .v n=>(env[n]?).getD 0
 | .add a b=>a.ev env+b.ev env
 | .mul a b=>a.ev env*b.ev env
 | .sub a b=>a.ev env-b.ev env
 | .neg a=>-a.ev env
 | .pow a n=>pw (a.ev env) n
abbrev Mon:=List Nat
def Wi (n:Nat):Mon→Mon
 | []=>[n]
 | m::r=>if Nat.ble n m then n::m::r else m::Wi n r
def Xl:Mon→Mon→Mon
 | [],b=>b
 | n::a,b=>Wi n (Xl a b)
def ltM:Mon→Mon→Bool
 | [],[]=>false
 | [],_::_=>true
 | _::_,[]=>false
 | a::r,b::s=>if Nat.beq a b then ltM r s else Nat.blt a b
def eqM:Mon→Mon→Bool
 | [],[]=>true
 | a::r,b::s=>Nat.beq a b&&eqM r s
 | _,_=>false
abbrev Pl:=List (Mon×Int)
def L8 (m:Mon) (k:Int):Pl→Pl
 | []=>if k=0 then [] else [(m,k)]
 | (m',k')::r=>if eqM m m' then (if k+k'=0 then r else (m,k+k')::r) else if ltM m m' then (if k=0 then (m',k')::r else (m,k)::(m',k')::r) else (m',k')::L8 m k r
def Rr:Pl→Pl→Pl
 | [],b=>b
 | (m,k)::a,b=>L8 m k (Rr a b)
def Mb (m:Mon) (k:Int):Pl→Pl
 | []=>[]
 | (m',k')::r=>L8 (Xl m m') (k*k') (Mb m k r)
def V6:Pl→Pl→Pl
 | [],_=>[]
 | (m,k)::a,b=>Rr (Mb m k b) (V6 a b)
def Wa (a:Pl):Nat→Pl
 | 0=>[([],1)]
 | n+1=>V6 (Wa a n) a
def RE.nf:RE→Pl
 | .zero=>[]
 | .one=>[([],1)]
 | .i k=>L8 [] k []
 | .v n=>[([n],1)]
 | .add a b=>Rr a.nf b.nf
 | .mul a b=>V6 a.nf b.nf
 | .sub a b=>Rr a.nf (Mb [] (-1) b.nf)
 | .neg a=>Mb [] (-1) a.nf
 | .pow a n=>Wa a.nf n
def eqP:Pl→Pl→Bool
 | [],[]=>true
 | (m,k)::a,(m',k')::b=>eqM m m'&&decide (k=k')&&eqP a b
 | _,_=>false
def evM (env:List α):Mon→α
 | []=>1
 | n::m=>(env[n]?).getD 0*evM env m
def evP (env:List α):Pl→α
 | []=>0
 | (m,k)::r=>ic k*evM env m+evP env r
theorem M2:∀{a b:Mon},eqM a b=true→a=b
 | [],[],_=>rfl
 | x::a,y::b,h=>by
  simp only [eqM,ab] at h;rw [Nat.eq_of_beq_eq_true h.1,M2 h.2]
theorem Vg:∀{a b:Pl},eqP a b=true→a=b
 | [],[],_=>rfl
 | (m,k)::a,(m',k')::b,h=>by
  simp only [eqP,ab,decide_eq_true_eq] at h;rw [M2 h.1.1,h.1.2,Vg h.2]
theorem Pc (env:List α) (n:Nat):∀m,evM env (Wi n m)=(env[n]?).getD 0*evM env m
 | []=>rfl
 | m::r=>by
  unfold Wi
  split
  ·rfl
  ·rw [evM,evM,Pc env n r,mul_left_comm]
theorem O4 (env:List α):∀a b,evM env (Xl a b)=evM env a*evM env b
 | [],b=>(one_mul _).symm
 | n::a,b=>by rw [Xl,Pc,O4 env a b,evM,mul_assoc]
theorem Az (env:List α) (m:Mon) (k:Int):∀r,evP env (L8 m k r)=ic k*evM env m+evP env r
 | []=>by
  unfold L8
  split
  ·rename_i h; rw [h,G8,zero_mul,zero_add]
  ·rfl
 | (m',k')::r=>by
  unfold L8
  split
  ·rename_i h
   obtain rfl:=M2 h
   split
   ·rename_i h2
    rw [evP,←add_assoc,←add_mul,←Nm,h2,G8,zero_mul,zero_add]
   ·rw [evP,evP,Nm,add_mul,add_assoc]
  ·split
   ·split
    ·rename_i h; rw [h,G8,zero_mul,zero_add]
    ·rfl
   ·rw [evP,Az env m k r,evP,o5]
theorem At (env:List α):∀a b,evP env (Rr a b)=evP env a+evP env b
 | [],b=>(zero_add _).symm
 | (m,k)::a,b=>by rw [Rr,Az,At env a b,evP,add_assoc]
theorem Gr (env:List α) (m:Mon) (k:Int):∀r,evP env (Mb m k r)=ic k*evM env m*evP env r
 | []=>(mul_zero _).symm
 | (m',k')::r=>by
  rw [Mb,Az,Gr env m k r,evP,mul_add,O4,Yi,mul_assoc,mul_assoc,mul_left_comm (ic k')];simp only [mul_assoc]
theorem G6 (env:List α):∀a b,evP env (V6 a b)=evP env a*evP env b
 | [],b=>(zero_mul _).symm
 | (m,k)::a,b=>by rw [V6,At,Gr,G6 env a b,evP,add_mul]
theorem Ur (env:List α):evP env [([],1)]=1:=by simp only [evP,evM,Nd,mul_one,add_zero]
theorem Ny (env:List α) (a:Pl):∀n,evP env (Wa a n)=pw (evP env a) n
 | 0=>Ur env
 | n+1=>by rw [Wa,G6,Ny env a n]; rfl
theorem X3 (a b:α):a * -b=-(a*b):=by rw [mul_comm,vi,mul_comm]
theorem Tm (env:List α) (a:Pl):evP env (Mb [] (-1) a)=-evP env a:=by
 rw [Gr,evM,mul_one,a0i,Nd,vi,one_mul]
theorem wi (env:List α):∀e:RE,evP env e.nf=e.ev env
 | .zero=>rfl
 | .one=>Ur env
 | .i k=>by rw [RE.nf,Az,evM,mul_one,evP,add_zero]; rfl
 | .v n=>by simp only [RE.nf,evP,evM,Nd,one_mul,mul_one,add_zero]; rfl
 | .add a b=>by rw [RE.nf,At,wi env a,wi env b]; rfl
 | .mul a b=>by rw [RE.nf,G6,wi env a,wi env b]; rfl
 | .sub a b=>by rw [RE.nf,At,Tm,wi env a,wi env b,←sub_eq]; rfl
 | .neg a=>by rw [RE.nf,Tm,wi env a]; rfl
 | .pow a n=>by rw [RE.nf,Ny,wi env a]; rfl
class Ix {α:Type} (env:List α) (x:α) (n:outParam Nat):Prop where
 h:env[n]? = some x
instance (priority:=1000) {l:List α} {x:α}:Ix (x::l) x 0:=⟨rfl⟩
instance (priority:=500) {l:List α} {x y:α} {n:Nat} [h:Ix l x n]:Ix (y::l) x (n+1):=⟨by simpa using h.h⟩
class Rf (env:List α) (x:α) (e:outParam RE):Prop where
 h:e.ev env=x
variable {env:List α} {x y:α} {a b:RE}
instance:Rf env (0:α) .zero:=⟨rfl⟩
instance:Rf env (1:α) .one:=⟨rfl⟩
instance {k:Int}:Rf env (ic k:α) (.i k):=⟨rfl⟩
instance [h:Rf env x a] [h':Rf env y b]:Rf env (x+y) (.add a b):=⟨by rw [RE.ev,h.h,h'.h]⟩
instance [h:Rf env x a] [h':Rf env y b]:Rf env (x*y) (.mul a b):=⟨by rw [RE.ev,h.h,h'.h]⟩
instance [h:Rf env x a] [h':Rf env y b]:Rf env (x-y) (.sub a b):=⟨by rw [RE.ev,h.h,h'.h]⟩
instance [h:Rf env x a]:Rf env (-x) (.neg a):=⟨by rw [RE.ev,h.h]⟩
instance {n:Nat} [h:Rf env x a]:Rf env (x^n) (.pow a n):=⟨by rw [RE.ev,h.h]; rfl⟩
instance (priority:=10) {n:Nat} [h:Ix env x n]:Rf env x (.v n):=⟨by rw [RE.ev,h.h]; rfl⟩
theorem ba (env:List α) {x y:α} {a b:RE} [h:Rf env x a] [h':Rf env y b] (e:eqP a.nf b.nf=true):x=y:=by
 rw [←h.h,←h'.h,←wi,←wi,Vg e]
end
end Gq

namespace Gq
section
variable {R:Type} [CR R]
def a0p (m:R):Setoid R where
 r a b:=∃c,a=b+m*c
 iseqv:={
  refl:=fun a=>⟨0,by rw [mul_zero,add_zero]⟩
  symm:=fun {a b} ⟨c,h⟩=>⟨-c,by rw [h]; exact ba [b,m,c] rfl⟩
  trans:=fun {a b c} ⟨u,h⟩ ⟨v,h'⟩=>⟨u+v,by rw [h,h']; exact ba [c,m,u,v] rfl⟩ }
def Quo (m:R):Type:=Quotient (a0p m)
variable {m:R}
def Quo.mk (m:R) (a:R):Quo m:=Quotient.mk (a0p m) a
theorem Quo.eq {a b:R}:Quo.mk m a=Quo.mk m b↔∃c,a=b+m*c:=⟨fun h=>Quotient.exact h,fun h=>Quotient.sound h⟩
theorem Quo.ind {P:Quo m→Prop} (h:∀a,P (Quo.mk m a)) (x:Quo m):P x:=Quotient.ind h x
instance:Zero (Quo m):=⟨Quo.mk m 0⟩
instance:One (Quo m):=⟨Quo.mk m 1⟩
instance:Add (Quo m):=⟨Quotient.lift₂ (fun a b=>Quo.mk m (a+b)) (fun a b a' b' ⟨c,h⟩ ⟨d,h'⟩=>Quo.eq.2 ⟨c+d,by rw [h,h']; exact ba [a',b',c,d,m] rfl⟩)⟩
instance:Mul (Quo m):=⟨Quotient.lift₂ (fun a b=>Quo.mk m (a*b)) (fun a b a' b' ⟨c,h⟩ ⟨d,h'⟩=>Quo.eq.2 ⟨c*b'+a'*d+m*c*d,by rw [h,h']; exact ba [a',b',c,d,m] rfl⟩)⟩
instance:Neg (Quo m):=⟨Quotient.lift (fun a=>Quo.mk m (-a)) (fun a a' ⟨c,h⟩=>Quo.eq.2 ⟨-c,by rw [h]; exact ba [a',c,m] rfl⟩)⟩
instance:Sub (Quo m):=⟨fun a b=>a + -b⟩
theorem Quo.mk_add (a b:R):Quo.mk m (a+b)=Quo.mk m a+Quo.mk m b:=rfl
theorem Quo.mk_mul (a b:R):Quo.mk m (a*b)=Quo.mk m a*Quo.mk m b:=rfl
theorem Quo.mk_neg (a:R):Quo.mk m (-a)=-Quo.mk m a:=rfl
theorem Quo.mk_zero:Quo.mk m 0=0:=rfl
theorem Quo.mk_one:Quo.mk m 1=1:=rfl
instance:CR (Quo m) where
 add_zero:=Quo.ind fun a=>congrArg (Quo.mk m) (add_zero a)
 add_comm:=Quo.ind fun a=>Quo.ind fun b=>congrArg (Quo.mk m) (add_comm a b)
 add_assoc:=Quo.ind fun a=>Quo.ind fun b=>Quo.ind fun c=>congrArg (Quo.mk m) (add_assoc a b c)
 mul_one:=Quo.ind fun a=>congrArg (Quo.mk m) (mul_one a)
 mul_comm:=Quo.ind fun a=>Quo.ind fun b=>congrArg (Quo.mk m) (mul_comm a b)
 mul_assoc:=Quo.ind fun a=>Quo.ind fun b=>Quo.ind fun c=>congrArg (Quo.mk m) (mul_assoc a b c)
 mul_add:=Quo.ind fun a=>Quo.ind fun b=>Quo.ind fun c=>congrArg (Quo.mk m) (mul_add a b c)
 add_neg:=Quo.ind fun a=>congrArg (Quo.mk m) (add_neg a)
 sub_eq:=fun _ _=>rfl
theorem Quo.mk_sub (a b:R):Quo.mk m (a-b)=Quo.mk m a-Quo.mk m b:=by rw [sub_eq,mk_add,mk_neg,←sub_eq]
theorem Quo.mk_pow (a:R):∀n,Quo.mk m (pw a n)=pw (Quo.mk m a) n
 | 0=>rfl
 | n+1=>by rw [pw,pw,mk_mul,mk_pow a n]
end
theorem sub_self {α:Type} [CR α] (a:α):a-a=0:=by rw [sub_eq,add_neg]
theorem jl {α:Type} [CR α] {a b:α} (h:a-b=0):a=b:=by
 have:a=(a-b)+b:=ba [a,b] rfl;rw [this,h,zero_add]
class Fd (K:Type) extends CR K where
 one_ne:(1:K)≠0
 inv:K→K
 mul_inv:∀a:K,a≠0→a*inv a=1
theorem Fd.mul_ne {K:Type} [Fd K] {a b:K} (ha:a≠0) (hb:b≠0):a*b≠0:=fun h=>by
 have:(inv a*inv b)*(a*b)=1:=by
  rw [show (inv a*inv b)*(a*b)=(a*inv a)*(b*inv b) from ba [a,b,inv a,inv b] rfl,Fd.mul_inv a ha,Fd.mul_inv b hb,mul_one]
 rw [h,mul_zero] at this;exact Fd.one_ne this.symm
theorem Fd.zero_or {K:Type} [Fd K] {a b:K} (h:a*b=0):a=0∨b=0:=by
 by_cases ha:a=0
 ·exact .inl ha
 ·by_cases hb:b=0
  ·exact .inr hb
  ·exact absurd h (Fd.mul_ne ha hb)
theorem Fd.inv_ne {K:Type} [Fd K] {a:K} (ha:a≠0):inv a≠0:=fun h=>by
 have:=Fd.mul_inv a ha;rw [h,mul_zero] at this;exact Fd.one_ne this.symm
class IsP (p:Int):Prop where
 h:p=2∨p=3∨p=5∨p=7
theorem IsP.pos {p:Int} [h:IsP p]:0<p:=by have:=h.h; omega
theorem IsP.le {p:Int} [h:IsP p]:p≤7:=by have:=h.h; omega
theorem IsP.ge {p:Int} [h:IsP p]:2≤p:=by have:=h.h; omega
abbrev Zp (p:Int):Type:=Quo p
abbrev zp (p:Int) (n:Int):Zp p:=Quo.mk p n
theorem wo {p a b:Int}:zp p a=zp p b↔a%p=b%p:=by
 rw [Quo.eq];constructor
 ·rintro ⟨c,rfl⟩
  rw [gi]
 ·intro h
  obtain ⟨c,hc⟩:=Int.dvd_of_emod_eq_zero (Int.emod_eq_emod_iff_emod_sub_eq_zero.1 h);exact ⟨c,by omega⟩
theorem sn (p a:Int):zp p (a%p)=zp p a:=wo.2 (fd _ (Int.dvd_refl p))
theorem Hn (p a b:Int):zp p (a+b)=zp p a+zp p b:=rfl
theorem tv (p a b:Int):zp p (a*b)=zp p a*zp p b:=rfl
theorem Sr (p a:Int):zp p (-a)=-zp p a:=rfl
theorem U9 (p a b:Int):zp p (a-b)=zp p a-zp p b:=rfl
theorem sm (p:Int):zp p 0=0:=rfl
theorem Gx (p:Int):zp p 1=1:=rfl
def rep {p:Int}:Zp p→Int:=Quotient.lift (fun a:Int=>a%p) fun a b h=>by
 have:=wo.1 (Quotient.sound (s:=a0p p) h);exact this
theorem D0 (p a:Int):rep (zp p a)=a%p:=rfl
theorem g9 {p:Int}:∀x:Zp p,zp p (rep x)=x:=Quo.ind fun a=>sn p a
theorem gw {p:Int} [IsP p] (x:Zp p):0≤rep x∧rep x<p:=by
 rw [←g9 x,D0];have:=IsP.pos (p:=p);exact ⟨c8 _ (by omega),bq _ (by omega)⟩
theorem P7 {p:Int} {x y:Zp p} (h:rep x=rep y):x=y:=by rw [←g9 x,←g9 y,h]
theorem G9 {p a:Int} (h:0≤a∧a<p):rep (zp p a)=a:=by rw [D0,gu h.1 h.2]
theorem mh {p:Int}:rep (0:Zp p)=0:=by show (0:Int)%p=0; simp
theorem fy {p:Int} {x:Zp p}:rep x=0↔x=0:=⟨fun h=>P7 (by rw [h,mh]),fun h=>by rw [h,mh]⟩
theorem rep_one {p:Int} [IsP p]:rep (1:Zp p)=1:=by
 have:=IsP.ge (p:=p);exact G9 (a:=1) (by omega)
def We (p a:Int):Int:=(a^(p-2).toNat)%p
theorem Ws (p:Int) [h:IsP p] (a:Int) (h0:0<a) (h1:a<p):a*We p a%p=1:=by
 rcases h.h with rfl | rfl | rfl | rfl
 ·obtain rfl:a=1:=by omega
  decide
 ·have:a=1∨a=2:=by omega
  rcases this with rfl | rfl <;> decide
 ·have:a=1∨a=2∨a=3∨a=4:=by omega
  rcases this with rfl | rfl | rfl | rfl <;> decide
 ·have:a=1∨a=2∨a=3∨a=4∨a=5∨a=6:=by omega
  rcases this with rfl | rfl | rfl | rfl | rfl | rfl <;> decide
instance {p:Int} [IsP p]:Fd (Zp p) where
 one_ne:=fun h=>by
  have:=congrArg rep h;rw [rep_one,mh] at this;omega
 inv:=fun x=>zp p (We p (rep x))
 mul_inv:=fun x hx=>by
  have h0:=gw x;have h1:rep x≠0:=fun h=>hx (fy.1 h)
  have h2:zp p (rep x*We p (rep x))=1:=by
   rw [←sn,Ws p _ (by omega) h0.2]; rfl
  have h3:zp p (rep x)*zp p (We p (rep x))=1:=h2
  rwa [g9] at h3
section
variable {K:Type} [CR K]
def cv:Nat→(Nat→K)→(Nat→K)→K
 | 0,f,g=>f 0*g 0
 | n+1,f,g=>f 0*g (n+1)+cv n (fun i=>f (i+1)) g
theorem Ja:∀(n:Nat) (f g:Nat→K),cv (n+1) f g=cv n f (fun i=>g (i+1))+f (n+1)*g 0
 | 0,f,g=>rfl
 | n+1,f,g=>by rw [cv,Ja n,cv]; simp only [add_assoc]
theorem vv:∀(n:Nat) (f g:Nat→K),cv n f g=cv n g f
 | 0,f,g=>mul_comm _ _
 | n+1,f,g=>by rw [cv,Ja,vv n,add_comm,mul_comm (f 0)]
theorem Ns:∀(n:Nat) (f f' g:Nat→K),cv n (fun i=>f i+f' i) g=cv n f g+cv n f' g
 | 0,f,f',g=>add_mul _ _ _
 | n+1,f,f',g=>by rw [cv,Ns n,cv,cv,add_mul]; exact ba [f 0*g (n+1),f' 0*g (n+1),cv n (fun i=>f (i+1)) g,cv n (fun i=>f' (i+1)) g] rfl
theorem Om (k:K):∀(n:Nat) (f g:Nat→K),cv n (fun i=>k*f i) g=k*cv n f g
 | 0,f,g=>mul_assoc _ _ _
 | n+1,f,g=>by rw [cv,Om k n,cv,mul_add,mul_assoc]
theorem H8 (n:Nat) (f g g':Nat→K):cv n f (fun i=>g i+g' i)=cv n f g+cv n f g':=by rw [vv,Ns,vv n g,vv n g']
theorem Ib:∀(n:Nat) (f g h:Nat→K),cv n (fun i=>cv i f g) h=cv n f (fun i=>cv i g h)
 | 0,f,g,h=>mul_assoc _ _ _
 | n+1,f,g,h=>by
  rw [cv,cv];show f 0*g 0*h (n+1)+cv n (fun i=>f 0*g (i+1)+cv i (fun i=>f (i+1)) g) h=f 0*cv (n+1) g h+cv n (fun i=>f (i+1)) (fun i=>cv i g h)
  rw [Ns,Om,Ib n,cv,mul_add,mul_assoc,add_assoc]
theorem va {g:Nat→K}:∀(n:Nat) {f:Nat→K},(∀i,f i=0)→cv n f g=0
 | 0,f,h=>by rw [cv,h,zero_mul]
 | n+1,f,h=>by rw [cv,h,zero_mul,va n (fun i=>h _),add_zero]
theorem Nu {g:Nat→K} {b:Nat} (hg:∀i,b≤i→g i=0):∀(a n:Nat) {f:Nat→K},(∀i,a≤i→f i=0)→a+b≤n+1→cv n f g=0
 | 0,n,f,hf,_=>va n fun i=>hf i (iu i)
 | a+1,0,f,hf,h=>by
  have:b=0:=by omega
  subst this;rw [cv,hg 0 (ap _),mul_zero]
 | a+1,n+1,f,hf,h=>by rw [cv,hg (n+1) (by omega),mul_zero,Nu hg a n (fun i hi=>hf _ (by omega)) (by omega),add_zero]
structure Pol (K:Type) [CR K] where
 c:Nat→K
 fin:∃n,∀i,n≤i→c i=0
theorem Pol.ext {a b:Pol K} (h:∀i,a.c i=b.c i):a=b:=by
 obtain ⟨f,hf⟩:=a;obtain ⟨g,hg⟩:=b;have:f=g:=funext h;subst this;rfl
def Q8:Nat→K:=fun i=>if i=0 then 1 else 0
instance:Zero (Pol K):=⟨⟨fun _=>0,0,fun _ _=>rfl⟩⟩
instance:One (Pol K):=⟨⟨Q8,1,fun i hi=>if_neg (by omega)⟩⟩
instance:Add (Pol K):=⟨fun a b=>⟨fun i=>a.c i+b.c i,by
 obtain ⟨n,hn⟩:=a.fin;obtain ⟨m,hm⟩:=b.fin;exact ⟨max n m,fun i hi=>by rw [hn i (by omega),hm i (by omega),add_zero]⟩⟩⟩
instance:Neg (Pol K):=⟨fun a=>⟨fun i=>-a.c i,by
 obtain ⟨n,hn⟩:=a.fin;exact ⟨n,fun i hi=>by rw [hn i hi,rt]⟩⟩⟩
instance:Sub (Pol K):=⟨fun a b=>a + -b⟩
instance:Mul (Pol K):=⟨fun a b=>⟨fun i=>cv i a.c b.c,by
 obtain ⟨n,hn⟩:=a.fin;obtain ⟨m,hm⟩:=b.fin;exact ⟨n+m,fun i hi=>Nu hm n i hn (by omega)⟩⟩⟩
theorem Pol.c_zero (i:Nat):(0:Pol K).c i=0:=rfl
theorem Pol.c_add (a b:Pol K) (i:Nat):(a+b).c i=a.c i+b.c i:=rfl
theorem Pol.c_neg (a:Pol K) (i:Nat):(-a).c i=-a.c i:=rfl
theorem Pol.c_mul (a b:Pol K) (i:Nat):(a*b).c i=cv i a.c b.c:=rfl
theorem Vo (n:Nat) (f:Nat→K):cv n Q8 f=f n:=by
 cases n with
 | zero=>exact one_mul _
 | succ n=>
  have e:cv n (fun i=>Q8 (i+1)) f=0:=va n (f:=fun i=>Q8 (i+1)) (fun i=>if_neg (Nat.succ_ne_zero i))
  rw [cv,e,add_zero];exact one_mul _
instance:CR (Pol K) where
 add_zero:=fun a=>Pol.ext fun i=>add_zero _
 add_comm:=fun a b=>Pol.ext fun i=>add_comm _ _
 add_assoc:=fun a b c=>Pol.ext fun i=>add_assoc _ _ _
 mul_one:=fun a=>Pol.ext fun i=>by rw [Pol.c_mul,vv]; exact Vo i a.c
 mul_comm:=fun a b=>Pol.ext fun i=>vv _ _ _
 mul_assoc:=fun a b c=>Pol.ext fun i=>Ib _ _ _ _
 mul_add:=fun a b c=>Pol.ext fun i=>H8 _ _ _ _
 add_neg:=fun a=>Pol.ext fun i=>add_neg _
 sub_eq:=fun _ _=>rfl
theorem Pol.c_sub (a b:Pol K) (i:Nat):(a-b).c i=a.c i-b.c i:=by rw [sub_eq,c_add,c_neg,←sub_eq]
def Pol.C (k:K):Pol K:=⟨fun i=>if i=0 then k else 0,1,fun i hi=>if_neg (by omega)⟩
def Pol.X:Pol K:=⟨fun i=>if i=1 then 1 else 0,2,fun i hi=>if_neg (by omega)⟩
theorem Pol.c_C (k:K) (i:Nat):(Pol.C k).c i=if i=0 then k else 0:=rfl
theorem Pol.c_X (i:Nat):(Pol.X:Pol K).c i=if i=1 then 1 else 0:=rfl
theorem Pol.c_Cmul (k:K) (a:Pol K) (i:Nat):(Pol.C k*a).c i=k*a.c i:=by
 rw [c_mul];cases i with
 | zero=>rfl
 | succ n=>
  have e:cv n (fun i=>(Pol.C k).c (i+1)) a.c=0:=va n (f:=fun i=>(Pol.C k).c (i+1)) (fun i=>by rw [c_C,if_neg (Nat.succ_ne_zero i)])
  rw [cv,e,add_zero]; rfl
theorem Pol.c_Xmul (a:Pol K) (i:Nat):(Pol.X*a).c i=if i=0 then 0 else a.c (i-1):=by
 rw [c_mul];cases i with
 | zero=>exact zero_mul _
 | succ n=>
  have e:(fun i=>(Pol.X:Pol K).c (i+1))=Q8:=funext fun i=>by
   rw [c_X]; unfold Q8
   by_cases h:i=0
   ·rw [if_pos h,if_pos (by omega)]
   ·rw [if_neg h,if_neg (by omega)]
  rw [cv,e,Vo,c_X,if_neg (by omega),zero_mul,zero_add,if_neg (by omega)]; rfl
theorem Pol.C_zero:Pol.C (0:K)=0:=Pol.ext fun i=>by rw [c_C,c_zero]; split <;> rfl
theorem Pol.C_one:Pol.C (1:K)=1:=rfl
theorem Pol.C_add (a b:K):Pol.C (a+b)=Pol.C a+Pol.C b:=Pol.ext fun i=>by
 rw [c_add,c_C,c_C,c_C]; split
 ·rfl
 ·rw [add_zero]
theorem Pol.C_mul (a b:K):Pol.C (a*b)=Pol.C a*Pol.C b:=Pol.ext fun i=>by
 rw [c_Cmul,c_C,c_C]; split
 ·rfl
 ·rw [mul_zero]
theorem Pol.C_neg (a:K):Pol.C (-a)=-Pol.C a:=zf (by rw [←C_add,add_neg,C_zero])
def Pol.lt (a:Pol K) (n:Nat):Prop:=∀i,n≤i→a.c i=0
theorem Pol.lt.mono {a:Pol K} {n m:Nat} (h:a.lt n) (hnm:n≤m):a.lt m:=fun i hi=>h i (by omega)
theorem Pol.lt_zero {a:Pol K}:a.lt 0↔a=0:=⟨fun h=>Pol.ext fun i=>h i (iu i),fun h=>by rw [h]; exact fun _ _=>rfl⟩
theorem Pol.lt_add {a b:Pol K} {n:Nat} (ha:a.lt n) (hb:b.lt n):(a+b).lt n:=fun i hi=>by rw [c_add,ha i hi,hb i hi,add_zero]
theorem Pol.lt_neg {a:Pol K} {n:Nat} (ha:a.lt n):(-a).lt n:=fun i hi=>by rw [c_neg,ha i hi,rt]
theorem Pol.lt_sub {a b:Pol K} {n:Nat} (ha:a.lt n) (hb:b.lt n):(a-b).lt n:=by rw [sub_eq]; exact lt_add ha (lt_neg hb)
theorem Pol.lt_mul {a b:Pol K} {n m:Nat} (ha:a.lt n) (hb:b.lt m):(a*b).lt (n+m-1):=fun i hi=>Nu hb n i ha (by omega)
theorem Pol.lt_Cmul {a:Pol K} {n:Nat} (k:K) (ha:a.lt n):(C k*a).lt n:=fun i hi=>by rw [c_Cmul,ha i hi,mul_zero]
theorem Pol.lt_one:(1:Pol K).lt 1:=fun i hi=>if_neg (by omega)
theorem Pol.lt_C (k:K):(C k).lt 1:=fun i hi=>if_neg (by omega)
theorem Pol.lt_X:(X:Pol K).lt 2:=fun i hi=>if_neg (by omega)
theorem Pol.eq_C {a:Pol K} (h:a.lt 1):a=C (a.c 0):=Pol.ext fun i=>by
 rw [c_C]; split
 ·rename_i h0; rw [h0]
 ·exact h i (by omega)
theorem Pol.len_ex (a:Pol K):∃n,a.lt n∧∀m,a.lt m→n≤m:=by
 obtain ⟨n,hn⟩:=a.fin
 have h:∀k,∀n,n≤k→a.lt n→∃n,a.lt n∧∀m,a.lt m→n≤m:=by
  intro k
  induction k with
  | zero=>exact fun n hk hn=>⟨n,hn,fun m _=>by omega⟩
  | succ k ih=>
   intro n hk hn
   by_cases h:∃m,m<n∧a.lt m
   ·obtain ⟨m,h1,h2⟩:=h
    exact ih m (by omega) h2
   ·exact ⟨n,hn,fun m hm=>by
     rcases cb m n with h1 | h1
     ·exact absurd ⟨m,h1,hm⟩ h
     ·exact h1⟩
 exact h n n (ap n) hn
noncomputable def Pol.len (a:Pol K):Nat:=Classical.choose a.len_ex
theorem Pol.lt_len (a:Pol K):a.lt a.len:=(c6 a.len_ex).1
theorem Pol.len_le {a:Pol K} {n:Nat} (h:a.lt n):a.len≤n:=(c6 a.len_ex).2 n h
theorem Pol.lt_iff {a:Pol K} {n:Nat}:a.lt n↔a.len≤n:=⟨len_le,fun h=>a.lt_len.mono h⟩
theorem Pol.len_zero_iff {a:Pol K}:a.len=0↔a=0:=by rw [←lt_zero,lt_iff]; omega
theorem Pol.len_zero:(0:Pol K).len=0:=len_zero_iff.2 rfl
theorem Pol.len_pos {a:Pol K} (h:a≠0):0<a.len:=by
 have:a.len≠0:=fun h'=>h (len_zero_iff.1 h')
 omega
noncomputable def Pol.ld (a:Pol K):K:=a.c (a.len-1)
theorem Pol.ld_ne {a:Pol K} (h:a≠0):a.ld≠0:=fun h0=>by
 have hp:=len_pos h
 have:a.lt (a.len-1):=fun i hi=>by
  rcases cb i a.len with h1 | h1
  ·rw [show i=a.len-1 by omega]; exact h0
  ·exact a.lt_len i h1
 have:=len_le this;omega
theorem Pol.len_eq {a:Pol K} {n:Nat} (h:a.lt (n+1)) (h':a.c n≠0):a.len=n+1:=by
 have h1:=len_le h;rcases cb n a.len with h2 | h2
 ·omega
 ·exact absurd (a.lt_len n h2) h'
theorem Nl {g:Nat→K} {b:Nat} (hg:∀i,b+1≤i→g i=0):∀(a:Nat) {f:Nat→K},(∀i,a+1≤i→f i=0)→cv (a+b) f g=f a*g b
 | 0,f,hf=>by
  rw [b9];cases b with
  | zero=>rfl
  | succ b=>rw [cv,va b (fun i=>hf _ (by omega)),add_zero]
 | a+1,f,hf=>by
  rw [show a+1+b=(a+b)+1 by omega,cv,hg (a+b+1) (by omega),mul_zero,zero_add,Nl hg a (fun i hi=>hf _ (by omega))]
end
section
variable {K:Type} [Fd K]
theorem Pol.len_mul {a b:Pol K} (ha:a≠0) (hb:b≠0):(a*b).len+1=a.len+b.len:=by
 have h1:=len_pos ha;have h2:=len_pos hb
 have e:(a*b).c ((a.len-1)+(b.len-1))=a.ld*b.ld:=by
  rw [c_mul];exact Nl (f:=a.c) (fun i hi=>b.lt_len i (by omega)) _ (fun i hi=>a.lt_len i (by omega))
 have l:=len_eq (a:=a*b) (n:=(a.len-1)+(b.len-1)) ((lt_mul a.lt_len b.lt_len).mono (by omega)) (by rw [e]; exact Fd.mul_ne (ld_ne ha) (ld_ne hb))
 omega
theorem Pol.ld_mul {a b:Pol K} (ha:a≠0) (hb:b≠0):(a*b).ld=a.ld*b.ld:=by
 have h1:=len_pos ha;have h2:=len_pos hb
 have e:(a*b).c ((a.len-1)+(b.len-1))=a.ld*b.ld:=by
  rw [c_mul];exact Nl (f:=a.c) (fun i hi=>b.lt_len i (by omega)) _ (fun i hi=>a.lt_len i (by omega))
 have l:=len_mul ha hb;unfold ld at *;rw [←e]; congr 1; omega
theorem Pol.mul_ne {a b:Pol K} (ha:a≠0) (hb:b≠0):a*b≠0:=fun h=>by
 have l:=len_mul ha hb;have h1:=len_pos ha;have h2:=len_pos hb;rw [h,len_zero] at l;omega
theorem Pol.zero_or {a b:Pol K} (h:a*b=0):a=0∨b=0:=by
 by_cases ha:a=0
 ·exact .inl ha
 ·by_cases hb:b=0
  ·exact .inr hb
  ·exact absurd h (mul_ne ha hb)
theorem Pol.mul_cancel {a b c:Pol K} (ha:a≠0) (h:a*b=a*c):b=c:=by
 have:a*(b-c)=0:=by
  rw [show a*(b-c)=a*b-a*c from ba [a,b,c] rfl,h,sub_self]
 exact jl ((zero_or this).resolve_left ha)
theorem Pol.one_ne:(1:Pol K)≠0:=fun h=>Fd.one_ne (K:=K) (congrArg (fun f=>Pol.c f 0) h)
theorem Pol.len_one:(1:Pol K).len=1:=len_eq lt_one Fd.one_ne
theorem Pol.ld_one:(1:Pol K).ld=1:=by unfold ld; rw [len_one]; rfl
theorem Pol.len_X:(X:Pol K).len=2:=len_eq lt_X Fd.one_ne
theorem Pol.X_ne:(X:Pol K)≠0:=fun h=>by have:=len_X (K:=K); rw [h,len_zero] at this; omega
theorem Pol.len_C {k:K} (h:k≠0):(C k).len=1:=len_eq (lt_C k) h
theorem Pol.C_ne {k:K} (h:k≠0):C k≠0:=fun h'=>by have:=len_C h; rw [h',len_zero] at this; omega
theorem Pol.len_Cmul {k:K} (h:k≠0) (a:Pol K):(C k*a).len=a.len:=by
 by_cases ha:a=0
 ·rw [ha,mul_zero]
 ·have:=len_mul (C_ne h) ha
  rw [len_C h] at this;omega
def Pol.mo (k:K) (n:Nat):Pol K:=⟨fun i=>if i=n then k else 0,n+1,fun i hi=>if_neg (by omega)⟩
theorem Y8 (k:K) (g:Nat→K):∀(n j:Nat),cv (n+j) (fun i=>if i=n then k else 0) g=k*g j
 | 0,0=>rfl
 | 0,j+1=>by
  rw [b9,cv,va j (fun i=>if_neg (by omega)),add_zero]; rfl
 | n+1,j=>by
  have e:(fun i=>if i+1=n+1 then k else 0)=(fun i=>if i=n then k else 0):=funext fun i=>by
   by_cases h:i=n
   ·rw [if_pos h,if_pos (by omega)]
   ·rw [if_neg h,if_neg (by omega)]
  rw [show n+1+j=(n+j)+1 by omega,cv,if_neg (by omega),zero_mul,zero_add,e,Y8 k g n j]
theorem Pol.c_momul (k:K) (n:Nat) (a:Pol K) (i:Nat) (h:n≤i):(mo k n*a).c i=k*a.c (i-n):=by
 obtain ⟨j,rfl⟩:=dz h;rw [c_mul,Nat.add_sub_cancel_left];exact Y8 k a.c n j
theorem Pol.div_ex (b:Pol K) (hb:b≠0):∀(n:Nat) (a:Pol K),a.lt n→∃q r:Pol K,a=q*b+r∧r.len<b.len
 | 0,a,h=>⟨0,0,by rw [lt_zero.1 h,zero_mul,add_zero],by rw [len_zero]; exact len_pos hb⟩
 | n+1,a,h=>by
  rcases cb n (b.len-1) with h1 | h1
  ·exact ⟨0,a,by rw [zero_mul,zero_add],by have:=len_le h; omega⟩
  ·have hp:=len_pos hb
   have key:(a-mo (a.c n*Fd.inv b.ld) (n-(b.len-1))*b).lt n:=fun i hi=>by
    rw [c_sub,c_momul _ _ _ _ (by omega)]
    by_cases h2:i=n
    ·subst h2
     rw [show i-(i-(b.len-1))=b.len-1 by omega]
     have:=Fd.mul_inv b.ld (ld_ne hb);show a.c i-a.c i*Fd.inv b.ld*b.ld=0;rw [mul_assoc,mul_comm (Fd.inv b.ld),this,mul_one,sub_self]
    ·rw [h i (by omega),b.lt_len _ (by omega),mul_zero,sub_self]
   obtain ⟨q,r,h2,h3⟩:=div_ex b hb n _ key;refine ⟨mo (a.c n*Fd.inv b.ld) (n-(b.len-1))+q,r,?_,h3⟩
   revert h2
   generalize mo (a.c n*Fd.inv b.ld) (n-(b.len-1))=t;intro h2;have:a=(a-t*b)+t*b:=ba [a,t,b] rfl;rw [this,h2];exact ba [q,b,r,t] rfl
theorem Pol.div_unique {b q r q' r':Pol K} (h:q*b+r=q'*b+r') (hr:r.len<b.len) (hr':r'.len<b.len):q=q'∧r=r':=by
 have e:(q-q')*b=r'-r:=by
  have:(q-q')*b=(q*b+r)-(q'*b+r):=ba [q,q',b,r] rfl;rw [this,h];exact ba [q',b,r,r'] rfl
 have hb:b≠0:=fun h0=>by rw [h0,len_zero] at hr; omega
 by_cases hq:q-q'=0
 ·have hq':=jl hq
  rw [hq,zero_mul] at e;exact ⟨hq',(jl e.symm).symm⟩
 ·have l:=len_mul hq hb
  rw [e] at l;have h1:=len_le (lt_sub (Pol.lt_iff.2 (show r'.len≤b.len-1 by omega)) (Pol.lt_iff.2 (show r.len≤b.len-1 by omega)))
  have:=len_pos hq;omega
open Classical in
noncomputable def Pol.qr (a b:Pol K):Pol K×Pol K:=
 if hb:b=0 then (0,a) else ((Classical.choose (div_ex b hb a.len a a.lt_len)),Classical.choose (c6 (div_ex b hb a.len a a.lt_len)))
noncomputable instance:Div (Pol K):=⟨fun a b=>(Pol.qr a b).1⟩
noncomputable instance:Mod (Pol K):=⟨fun a b=>(Pol.qr a b).2⟩
theorem Pol.div_mod (a b:Pol K):a=(a/b)*b+a%b:=by
 show a=(qr a b).1*b+(qr a b).2;unfold qr
 split
 ·rename_i h; rw [h,mul_zero,zero_add]
 ·rename_i h; exact (c6 (c6 (div_ex b h a.len a a.lt_len))).1
theorem Pol.len_mod (a:Pol K) {b:Pol K} (h:b≠0):(a%b).len<b.len:=by
 show (qr a b).2.len<_;unfold qr;rw [dif_neg h];exact (c6 (c6 (div_ex b h a.len a a.lt_len))).2
theorem Pol.div_mod_eq {a b q r:Pol K} (h:a=q*b+r) (hr:r.len<b.len):a/b=q∧a%b=r:=by
 have hb:b≠0:=fun h0=>by rw [h0,len_zero] at hr; omega
 exact div_unique ((div_mod a b).symm.trans h) (len_mod a hb) hr
end
end Gq

namespace Pe
open Go Gq
abbrev Fp (p:Int):Type:=Pol (Zp p)
noncomputable def row {p:Int} (a:Fp p):List Int:=(List.range a.len).map fun i=>rep (a.c i)
def pad (l:List Int):List Int:=(List.range 64).map (cf l)
section
variable {p:Int}
@[simp] theorem b8 (a:Fp p):(row a).length=a.len:=by simp [row]
theorem e9 (a:Fp p) (i:Nat):cf (row a) i=rep (a.c i):=by
 rcases cb i a.len with h | h
 ·exact kg _ _ _ h
 ·rw [jw (by rw [b8]; exact h),a.lt_len i h,mh]
theorem fu [IsP p] (a:Fp p):Can p (row a):=Can.of_cf fun j _=>by rw [e9]; exact gw _
theorem zh [IsP p] (a:Fp p) {b:Int} (hb:7≤b):Small b (row a):=(fu a).small (by have:=IsP.le (p:=p); omega)
theorem cw:row (0:Fp p)=[]:=by
 apply om;rw [b8,Pol.len_zero]
theorem B4 {a:Fp p}:row a=[]↔a=0:=by rw [←dx,b8,Pol.len_zero_iff]
theorem E9 (l:List Int):∀n,(∀i,mc l n≤i→i<n→cf l i=0)∧(mc l n=0∨cf l (mc l n-1)≠0)
 | 0=>⟨fun i _ h=>absurd h (Nat.not_lt_zero i),.inl rfl⟩
 | n+1=>by
  have ih:=E9 l n;unfold mc
  by_cases h:cf l n=0
  ·rw [if_pos h]
   refine ⟨fun i h1 h2=>?_,ih.2⟩
   by_cases hi:i=n
   ·rw [hi,h]
   ·exact ih.1 i h1 (by omega)
  ·rw [if_neg h]
   exact ⟨fun i h1 h2=>by omega,.inr h⟩
theorem ua {l:List Int} {f:Fp p} (h:∀i,cf l i=rep (f.c i)):trim l=row f:=by
 have ht:=E9 l l.length;have hl:=Ax l l.length
 have e:mc l l.length=f.len:=by
  apply Nat.le_antisymm
  ·rcases ht.2 with h0 | h0
   ·omega
   ·rw [h] at h0
    rcases cb (mc l l.length-1) f.len with h1 | h1
    ·omega
    ·exact absurd (by rw [f.lt_len _ h1,mh]) h0
  ·apply Pol.len_le
   intro i hi;apply fy.1;rw [←h];rcases cb i l.length with h1 | h1
   ·exact ht.1 i hi h1
   ·exact jw h1
 apply kr
 ·rw [b8,←e]; unfold trim; rw [b6]; omega
 ·intro i h1 h2
  have e1:(trim l)[i]=cf l i:=by
   unfold trim at h1 ⊢;rw [my,da]
  have e2:(row f)[i]=cf (row f) i:=(da h2).symm;rw [e1,e2,e9,h]
def dj (p:Int) (l:List Int):Fp p:=⟨fun i=>zp p (cf l i),l.length,fun i hi=>by rw [jw hi]; rfl⟩
theorem fh (l:List Int) (i:Nat):(dj p l).c i=zp p (cf l i):=rfl
theorem yn (l:List Int):(dj p l).lt l.length:=fun i hi=>by rw [fh,jw hi]; rfl
theorem nj (a:Fp p):dj p (row a)=a:=Pol.ext fun i=>by rw [fh,e9,g9]
theorem k8 [IsP p] {l:List Int} (h:Can p l):trim l=row (dj p l):=ua fun i=>by
 have h1:=h.le IsP.pos i;rw [fh,G9 h1]
theorem Wm {a b:Fp p} (h:row a=row b):a=b:=by rw [←nj a,←nj b,h]
theorem Wn:pad []=List.replicate 64 0:=by decide +kernel
@[simp] theorem a74:z64=ae .u8 (pad []):=by rw [Wn]; unfold ae z64; rw [List.map_replicate]
theorem bm (l:List Int):(pad l).length=64:=by simp [pad]
theorem uu {l:List Int} (h:l.length≤64) (i:Nat):cf (pad l) i=cf l i:=by
 rcases cb i 64 with h1 | h1
 ·exact kg _ _ _ h1
 ·rw [jw (by rw [bm]; exact h1),jw (by omega)]
theorem qy (l:List Int) (i:Nat) (h:i<64):(pad l)[i]? = some (cf l i):=by
 rw [pad,dd,ek h]; rfl
theorem N3 {l m:List Int} (hl:m.length=64) (h:∀i,i<64→cf l i=cf m i):pad l=m:=by
 apply kr
 ·rw [bm,hl]
 ·intro i h1 h2
  rw [←da h2,←h i (by omega)]
  simp [pad]
theorem Hx [IsP p] (a b:Fp p) (k:Int):Wy p (row a) (row b) k=row (a+Pol.C (zp p k)*b):=by
 apply ua;intro i
 have e:rep ((a+Pol.C (zp p k)*b).c i)=(rep (a.c i)+k*rep (b.c i))%p:=by
  rw [Pol.c_add,Pol.c_Cmul,←D0]
  congr 1
  rw [Hn,tv,g9,g9]
 rw [e];rcases cb i (max a.len b.len) with h | h
 ·rw [kg _ _ _ (by simpa using h)]
  unfold lin;rw [e9,e9]
 ·rw [jw (by simpa using h),a.lt_len i (by omega),b.lt_len i (by omega)]
  simp [mh]
def cvs {K:Type} [CR K] (f g:Nat→K):Nat→Nat→K
 | 0,_=>0
 | m+1,j=>cvs f g m j+if m≤j then f m*g (j-m) else 0
theorem Bq {K:Type} [CR K] (f g:Nat→K):∀m j,cvs f g (m+1) j=f 0*g j+if j=0 then 0 else cvs (fun i=>f (i+1)) g m (j-1)
 | 0,j=>by
  show 0+(if 0≤j then f 0*g (j-0) else 0)=_
  rw [if_pos (iu j),Nat.sub_zero,Gq.zero_add]
  split <;> exact (Gq.add_zero _).symm
 | m+1,j=>by
  rw [cvs,Bq f g m j]
  by_cases h:j=0
  ·subst h
   rw [if_pos rfl,if_neg (by omega),if_pos rfl,Gq.add_zero]
  ·rw [if_neg h,if_neg h,cvs]
   rw [Gq.add_assoc]
   congr 2
   by_cases h2:m+1≤j
   ·rw [if_pos h2,if_pos (by omega),show j-(m+1)=j-1-m by omega]
   ·rw [if_neg h2,if_neg (by omega)]
theorem Ui {K:Type} [CR K] (g:Nat→K):∀(j m:Nat) (f:Nat→K),j<m→cvs f g m j=cv j f g
 | 0,0,f,h=>by omega
 | 0,m+1,f,_=>by rw [Bq,if_pos rfl,Gq.add_zero]; rfl
 | j+1,0,f,h=>by omega
 | j+1,m+1,f,h=>by rw [Bq,if_neg (by omega),cv,Nat.add_sub_cancel,Ui g j m _ (by omega)]
theorem I4 {K:Type} [CR K] (f g:Nat→K) {m:Nat} (h:∀i,m≤i→f i=0) (j:Nat):∀k,cvs f g (m+k) j=cvs f g m j
 | 0=>rfl
 | k+1=>by
  rw [←f7,cvs,I4 f g h j k,h (m+k) (by omega),Gq.zero_mul]
  split <;> exact Gq.add_zero _
theorem Nz (l m:List Int):∀n j,zp p (conv l m n j)=cvs (dj p l).c (dj p m).c n j
 | 0,j=>rfl
 | n+1,j=>by
  rw [conv,cvs,←Nz l m n j]
  split
  ·rfl
  ·rfl
theorem W5 [IsP p] (a b:Fp p):mul p (row a) (row b)=row (a*b):=by
 apply ua;intro i
 have e:∀i,conv (row a) (row b) (row a).length i%p=rep ((a*b).c i):=fun i=>by
  rw [←D0,Nz,nj,nj,b8,Pol.c_mul]
  congr 1
  rw [←I4 a.c b.c a.lt_len i (i+1),Ui];omega
 rcases cb i (a.len+b.len-1) with h | h
 ·rw [kg _ _ _ (by simpa using h),e]
 ·rw [jw (by simpa using h),Pol.lt_mul a.lt_len b.lt_len i h,mh]
end
end Pe

namespace Pe
open Go Gq
variable {T:Nat→Option Fn} {A:ac}
theorem Rw (p:Int) [h:IsP p] (a:Int) (h0:0<a) (h1:a<p):a*inv p a%p=1:=by
 rcases h.h with rfl | rfl | rfl | rfl
 ·obtain rfl:a=1:=by omega
  decide
 ·have:a=1∨a=2:=by omega
  rcases this with rfl | rfl <;> decide
 ·have:a=1∨a=2∨a=3∨a=4:=by omega
  rcases this with rfl | rfl | rfl | rfl <;> decide
 ·have:a=1∨a=2∨a=3∨a=4∨a=5∨a=6:=by omega
  rcases this with rfl | rfl | rfl | rfl | rfl | rfl <;> decide
theorem xj (p:Int) [IsP p] (a:Int):0≤inv p a∧inv p a<p:=by
 have:=IsP.ge (p:=p);exact Ow (by omega) _
@[simp] theorem T6 {p:Int} (a:Fp p):(row a).take a.len=row a:=az (by simp)
def pk (O:ac):Prop:=∀(p:Int) [IsP p] (k:Int) (a b:Fp p),-1000000≤k→k≤1000000→a.len<1000000→b.len<1000000 →
 ask O F15 [(D.int .i64 p),(D.sl .leaf (ae .i64 (row a))),(D.sl .leaf (ae .i64 (row b))),(D.int .i64 k)]=some (D.sl .leaf (ae .i64 (row (a+Pol.C (zp p k)*b))))
theorem Qs {O:ac} (h:vm O):pk O:=fun p i k a b h1 h2 h3 h4=>by
 have h5:=IsP.pos (p:=p);have h6:=IsP.le (p:=p);rw [h p k (row a) (row b) h5 (by omega) (zh a (by omega)) (zh b (by omega)) h1 h2 (by simpa using h3) (by simpa using h4),Hx]
def t8 (O:ac):Prop:=∀(p:Int) [IsP p] (a b:Fp p),a.len<10000→b.len<10000 →
 ask O F1k [(D.int .i64 p),(D.sl .leaf (ae .i64 (row a))),(D.sl .leaf (ae .i64 (row b)))]=some (D.sl .leaf (ae .i64 (row (a*b))))
theorem Vv {O:ac} (h:Ez O):t8 O:=fun p i a b h1 h2=>by
 have h5:=IsP.pos (p:=p);have h6:=IsP.le (p:=p);rw [h p (row a) (row b) h5 (by omega) (fu a) (fu b) (by simpa using h1) (by simpa using h2),W5]
def vw (O:ac):Prop:=∀(p:Int) [IsP p] (k:Int) (a:Fp p),-1000000≤k→k≤1000000→a.len<1000000 →
 ask O F1i [(D.int .i64 p),(D.sl .leaf (ae .i64 (row a))),(D.int .i64 k)]=some (D.sl .leaf (ae .i64 (row (Pol.C (zp p k)*a))))
theorem Xb {O:ac} (h:G0 O):vw O:=fun p i k a h1 h2 h3=>by
 have h5:=IsP.pos (p:=p);have h6:=IsP.le (p:=p);have e:=Hx (0:Fp p) a k;rw [cw,Gq.zero_add] at e;rw [h p k (row a) h5 (by omega) (zh a (by omega)) h1 h2 (by simpa using h3),e]
theorem U1 {K:Type} [CR K] {g:Nat→K}:∀{i:Nat} {f:Nat→K},(∀j,j≤i→f j=0)→cv i f g=0
 | 0,f,h=>by rw [cv,h 0 (ap 0),Gq.zero_mul]
 | i+1,f,h=>by rw [cv,h 0 (iu _),Gq.zero_mul,U1 (fun j hj=>h (j+1) (by omega)),Gq.add_zero]
theorem I7 {K:Type} [Fd K] (k:K) (n:Nat) (a:Pol K) (i:Nat):(Pol.mo k n*a).c i=if n≤i then k*a.c (i-n) else 0:=by
 split
 ·rename_i h; exact Pol.c_momul k n a i h
 ·rename_i h
  rw [Pol.c_mul];exact U1 fun j hj=>if_neg (by omega)
section
variable {p:Int} [IsP p]
theorem Jl (q:Int) (b:Fp p) (c:Nat) (cur:List Int) (h:c+b.len≤cur.length):dj p (jg p q (row b) c b.len 0 cur)=dj p cur-Pol.mo (zp p q) c*b:=Pol.ext fun j=>by
 rw [Pol.c_sub,I7,fh,fh,uy _ _ _ _ _ _ _ _ (by omega)]
 by_cases h1:c+0≤j∧j<c+0+b.len
 ·rw [if_pos h1,if_pos (by omega),sn,U9,tv,e9,g9]
 ·rw [if_neg h1]
  split
  ·rw [b.lt_len _ (by omega),Gq.mul_zero,sub_eq,rt,Gq.add_zero]
  ·rw [sub_eq,rt,Gq.add_zero]
theorem R0 (q:Int) (c:Nat) (quo:List Int) (h:c<quo.length) (h0:cf quo c=0):dj p (quo.set c q)=dj p quo+Pol.mo (zp p q) c:=Pol.ext fun j=>by
 rw [Pol.c_add,fh,fh,qj];show _=_+(if j=c then zp p q else 0)
 by_cases h1:j=c
 ·subst h1
  rw [if_pos ⟨rfl,h⟩,if_pos rfl,h0,sm,Gq.zero_add]
 ·rw [if_neg (by omega),if_neg h1,Gq.add_zero]
theorem Hc (b:Fp p) (hb:b≠0):∀(c:Nat) (cur quo:List Int),c+b.len≤cur.length+1→c≤quo.length→Can p cur→(∀j,j<c→cf quo j=0)→(∀j,c+b.len-1≤j→cf cur j=0)→Can p quo →
 let r:=dv p (inv p (rep b.ld)) (row b) c (cur,quo)
 dj p r.1+dj p r.2*b=dj p cur+dj p quo*b∧(∀j,b.len-1≤j→cf r.1 j=0)∧Can p r.1∧Can p r.2
 | 0,cur,quo,_,_,hcan,_,h,hq=>⟨rfl,fun j hj=>h j (by omega),hcan,hq⟩
 | c+1,cur,quo,hl,hlq,hcan,hq0,h,hq=>by
  have hp:=IsP.pos (p:=p);have hbl:=Pol.len_pos hb;have hr:=gw b.ld;have hld:rep b.ld≠0:=fun h0=>Pol.ld_ne hb (fy.1 h0)
  generalize hqd:cf cur (c+b.len-1)*inv p (rep b.ld)%p=q;have hqin:0≤q∧q<p:=by subst hqd; exact ⟨c8 _ (by omega),bq _ hp⟩
  have hlen:c+b.len≤cur.length:=by omega
  have e:dv p (inv p (rep b.ld)) (row b) (c+1) (cur,quo)=dv p (inv p (rep b.ld)) (row b) c (jg p q (row b) c b.len 0 cur,quo.set c q):=by
   rw [dv]; simp only [b8,hqd]
  rw [e]
  have key:(cf cur (c+b.len-1)-q*rep b.ld)%p=0:=by
   have h1:=Rw p (rep b.ld) (by omega) hr.2
   have h2:q*rep b.ld%p=cf cur (c+b.len-1)%p:=by
    subst hqd;rw [Int.mul_emod,fd _ (Int.dvd_refl p),←Int.mul_emod,rm,f8 (inv p _),Int.mul_emod,h1,gv,fd _ (Int.dvd_refl p)]
   rw [Int.sub_emod,h2,←Int.sub_emod,Int.sub_self,Int.zero_emod]
  have ih:=Hc b hb c (jg p q (row b) c b.len 0 cur) (quo.set c q) (by rw [iv]; omega) (by simp; omega) (z5 hp (by omega) hcan)
   (fun j hj=>by rw [qj,if_neg (by omega)]; exact hq0 j (by omega))
   (fun j hj=>by
    rw [uy _ _ _ _ _ _ _ _ (by omega)]
    by_cases hj2:j=c+b.len-1
    ·subst hj2
     rw [if_pos (by omega),e9,show c+b.len-1-c=b.len-1 by omega]; exact key
    ·rw [if_neg (by omega)]; exact h j (by omega))
   (fun x hx=>by
    rcases dk hx with h1 | h1
    ·exact hq x h1
    ·subst h1; exact hqin)
  refine ⟨?_,ih.2⟩;rw [ih.1,Jl q b c cur hlen,R0 q c quo (by omega) (hq0 c (by omega))]
  exact ba [dj p cur,Pol.mo (zp p q) c,b,dj p quo] rfl
def Oy (O:ac):Prop:=∀l:List Int,l.length<1000000→O F20 [(.d (.sl .leaf (ae .i64 l)))] []=some (.sl 0 [] 0 l.length none,[],[.sl false .leaf (ae .i64 l)])
def qq (O:ac):Prop:=∀(p:Int) [IsP p] (a b:Fp p),b≠0→a.len<5000→b.len<5000 →
 ask O F16 [(D.int .i64 p),(D.sl .leaf (ae .i64 (row a))),(D.sl .leaf (ae .i64 (row b)))]=some (.tup [(D.sl .leaf (ae .i64 (row (a/b)))),(D.sl .leaf (ae .i64 (row (a%b))))])
end
section
variable {p:Int}
theorem Bf (b:Fp p):Aj (row b)=rep b.ld:=by unfold Aj Pol.ld; rw [e9,b8]
end
section
variable {p:Int} [IsP p]
theorem Ue (hT:T F16=some Z16) (hcl:Oy (den T A)) (htr:ke (den T A)) (hld:ug (den T A)) (hinv:n8 (den T A)) (hred:py (den T A)):qq (den T A):=by
 intro p ip a b hb ha hbl;have hp:=IsP.ge (p:=p);have hp7:=IsP.le (p:=p);have e1:=hcl (row a) (by simpa using (show a.len<1000000 by omega))
 rw [b8] at e1;have hb0:=Pol.len_pos hb;refine bj hT rfl ?_
 by_cases hlt:a.len<b.len
 ·obtain ⟨h1,h2⟩:=Pol.div_mod_eq (a:=a) (b:=b) (q:=0) (r:=a) (by rw [Gq.zero_mul,Gq.zero_add]) hlt
  rw [h1,h2,cw];have h3:(a.len:Int)<(b.len:Int):=by omega
  simp -implicitDefEqProofs [Z16,Z16_B,af,e1,h3,ec,T6]
 ·have h3:¬ (a.len:Int)<(b.len:Int):=by omega
  have hr:=gw b.ld;have e2:=hld (row b) (by simpa using (show b.len<1000000 by omega))
  rw [Bf] at e2;have e3:=hinv p (rep b.ld) (by omega) (by omega) hr.1 hr.2
  have w1:IntKind.i64.wrap ((a.len:Int)-b.len)=(a.len:Int)-b.len:=w64 (by omega)
  have w2:IntKind.i64.wrap ((a.len:Int)-b.len+1)=((a.len-b.len+1:Nat):Int):=(w64 (x:=(a.len:Int)-b.len+1) (by omega)).trans (by omega)
  have w3:IntKind.i64.wrap (((a.len-b.len+1:Nat):Int)-1)=((a.len-b.len+1:Nat):Int)-1:=w64 (by omega)
  have h8:(a.len-b.len+1)*8≤1099511627776:=by omega
  have l1:=Qf (O:=den T A) (by_:=inv p (rep b.ld)) (b:=row b) (la:=a.len) (nq:=a.len-b.len+1) (cp:=none) hred (by omega) (by omega) (xj p _) (fu b) (by rw [b8]; omega) (by rw [b8]; omega) (by omega)
   (a.len-b.len+1) (row a) (List.replicate (a.len-b.len+1) 0) (ap _) (b8 a) (by simp) (fu a)
  have hz:∀n j,cf (List.replicate n (0:Int)) j=0:=fun n j=>by
   by_cases hj:j<n
   ·rw [da (by simpa using hj)]; simp
   ·exact jw (by simp; omega)
  have sp:=Hc b hb (a.len-b.len+1) (row a) (List.replicate (a.len-b.len+1) 0) (by rw [b8]; omega) (by simp) (fu a) (fun j _=>hz _ j) (fun j hj=>by rw [jw]; rw [b8]; omega) (fun x hx=>by
   obtain rfl:=(List.mem_replicate.1 hx).2; omega)
  have hl1:∀(c:Nat) (x y:List Int),(dv p (inv p (rep b.ld)) (row b) c (x,y)).1.length=x.length∧(dv p (inv p (rep b.ld)) (row b) c (x,y)).2.length=y.length:=by
   intro c
   induction c with
   | zero=>exact fun x y=>⟨rfl,rfl⟩
   | succ c ih=>
    intro x y;rw [dv];obtain ⟨i1,i2⟩:=ih (jg p (cf x (c+(row b).length-1)*inv p (rep b.ld)%p) (row b) c (row b).length 0 x) (y.set c (cf x (c+(row b).length-1)*inv p (rep b.ld)%p));exact ⟨by rw [i1,iv],by rw [i2,bt]⟩
  obtain ⟨l2,l3⟩:=hl1 (a.len-b.len+1) (row a) (List.replicate (a.len-b.len+1) 0);generalize dv p (inv p (rep b.ld)) (row b) (a.len-b.len+1) (row a,List.replicate (a.len-b.len+1) 0)=r at *;obtain ⟨s1,s2,s3,s4⟩:=sp;have z0:dj p (List.replicate (a.len-b.len+1) 0)=0:=Pol.ext fun j=>by rw [fh,hz]; rfl
  rw [z0,Gq.zero_mul,Gq.add_zero,nj,Gq.add_comm] at s1
  have hrl:(dj p r.1).len<b.len:=by
   have:(dj p r.1).lt (b.len-1):=fun i hi=>by rw [fh,s2 i hi]; rfl
   have:=Pol.len_le this;omega
  obtain ⟨h1,h2⟩:=Pol.div_mod_eq s1.symm hrl;rw [h1,h2,←k8 s3,←k8 s4];have t1:=htr r.1 (by rw [l2,b8]; omega)
  have t2:=htr r.2 (by rw [l3,co]; omega)
  have k1:r.1.take a.len=r.1:=az (by rw [l2,b8]; omega)
  have k2:r.2.take (a.len-b.len+1)=r.2:=az (by rw [l3,co]; omega)
  rw [co] at l3;rw [b8] at l2;generalize a.len-b.len+1=n at *;simp -implicitDefEqProofs [Z16,Z16_B,af,e1,h3,w1,w2,w3,h8,e2,e3,l1,t1,t2,l2,l3,k1,k2]
end
end Pe

/-
 Functions of the program in the small form,printed by a program.
-/
namespace Pe
open Go
def Z26_L0:Cd:=
 .seq (.region [Ll 9 (.bin .lss (.t 8) (.t 7))] [0,1,7,8,9])
 (.seq (.cond (.t 9)
 (.skip)
 (.exit 0))
 (.seq (.block 1 (.seq (.region [Lw 10 8,
 Lw 5 10] [0,1,5,7,8])
 (.seq (.region [Lw 11 1,
 Lw 12 0,
 Lw 13 5,
 Ll 14 (.idxA none Sx6 (.t 12) (.t 13)),
 Ipx 15 14,
 Ll 16 (.call .flat [] (.t 11) [(.t 15)])] [0,1,5,7,8,16])
 (.cond (.t 16)
 (.seq (.region [Lw 17 5,
 Lw 4 17] [4])
 (.ret))
 (.skip)))))
 (.region [Ll 18 (.bin .add (.t 8) (Acx 1)),
 Lw 8 18] [0,1,7,8])))
def Z26_B:Cd:=
 .seq (.region [Ll 4 (.mv (Acx 0))] [0,1])
 (.seq (.seq (.region [Lw 6 0,
 Ll 7 (.len false (.t 6)),
 Ll 8 (.mv (Acx 0))] [0,1,7,8])
 (.block 0 (.loop (Z26_L0))))
 (.seq (.region [Ll 4 (.mv (Acx (-1)))] [4])
 (.ret)))
def Z26:Fn:=
 { nparams:=2,nblk:=0,results:=[.tmp 4],body:=Z26_B }
def Z23_B:Cd:=
 .seq (.region [Ll 4 (.mv (.c (.bool false)))] [0,1])
 (.seq (.region [Lw 5 0,
 Lw 6 1,
 Ll 7 (Ofx F26 [(.t 5),(.t 6)]),
 Ll 8 (.bin .geq (.t 7) (Acx 0)),
 Lw 4 8] [4])
 (.ret))
def Z23:Fn:=
 { nparams:=2,nblk:=0,results:=[.tmp 4],body:=Z23_B }
def Z24_L0:Cd:=
 .seq (.region [Ll 9 (.bin .lss (.t 8) (.t 7))] [0,1,7,8,9])
 (.seq (.cond (.t 9)
 (.skip)
 (.exit 0))
 (.seq (.block 1 (.seq (.region [Lw 10 8,
 Lw 5 10] [0,1,5,7,8])
 (.seq (.region [Lw 11 1,
 Lw 12 0,
 Lw 13 5,
 Ll 14 (.idxA none .leaf (.t 12) (.t 13)),
 Ilx 15 14,
 Ll 16 (.call .flat [] (.t 11) [(.t 15)])] [0,1,5,7,8,16])
 (.cond (.t 16)
 (.seq (.region [Lw 17 5,
 Lw 4 17] [4])
 (.ret))
 (.skip)))))
 (.region [Ll 18 (.bin .add (.t 8) (Acx 1)),
 Lw 8 18] [0,1,7,8])))
def Z24_B:Cd:=
 .seq (.region [Ll 4 (.mv (Acx 0))] [0,1])
 (.seq (.seq (.region [Lw 6 0,
 Ll 7 (.len false (.t 6)),
 Ll 8 (.mv (Acx 0))] [0,1,7,8])
 (.block 0 (.loop (Z24_L0))))
 (.seq (.region [Ll 4 (.mv (Acx (-1)))] [4])
 (.ret)))
def Z24:Fn:=
 { nparams:=2,nblk:=0,results:=[.tmp 4],body:=Z24_B }
def Z21_B:Cd:=
 .seq (.region [Ll 4 (.mv (.c (.bool false)))] [0,1])
 (.seq (.region [Lw 5 0,
 Lw 6 1,
 Ll 7 (Ofx F24 [(.t 5),(.t 6)]),
 Ll 8 (.bin .geq (.t 7) (Acx 0)),
 Lw 4 8] [4])
 (.ret))
def Z21:Fn:=
 { nparams:=2,nblk:=0,results:=[.tmp 4],body:=Z21_B }
def Z2b_L0:Cd:=
 .seq (.seq (.region [Lw 18 9,
 Lw 19 1,
 Ll 20 (.bin .gtr (.t 18) (.t 19)),
 Lw 21 20,
 Lx 22 3 21 true,
 Lx 23 0 21 true,
 Lx 24 9 21 true,
 Lg 25 (.idxA none (.st [.leaf,.leaf]) (.t 23) (.t 24)) 21 true,
 Lg 26 (.load (.st [.leaf,.leaf]) (.t 25)) 21 true,
 Lx 27 0 21 true,
 Lx 28 9 21 true,
 Lg 29 (.bin .sub (.t 28) (Acx 1)) 21 true,
 Lg 30 (.idxA none (.st [.leaf,.leaf]) (.t 27) (.t 29)) 21 true,
 Lg 31 (.load (.st [.leaf,.leaf]) (.t 30)) 21 true,
 Lg 32 (.call .flat [] (.t 22) [(.t 26),(.t 31)]) 21 true,
 Lg 33 (.bin .lss (.t 32) (Acx 0)) 21 true,
 Ll 34 (.pick (.t 21) (.t 33) (.c (.bool false)))] [0,1,2,3,8,9,34])
 (.cond (.t 34)
 (.skip)
 (.exit 2)))
 (.seq (.block 3 (.region [Lw 37 0,
 Lw 38 9,
 Lw 39 0,
 Lw 40 9,
 Ll 41 (.bin .sub (.t 40) (Acx 1)),
 Lw 42 0,
 Lw 43 9,
 Ll 44 (.bin .sub (.t 43) (Acx 1)),
 Ll 45 (.idxA none (.st [.leaf,.leaf]) (.t 42) (.t 44)),
 Ll 46 (.load (.st [.leaf,.leaf]) (.t 45)),
 Lw 47 0,
 Lw 48 9,
 Ll 49 (.idxA none (.st [.leaf,.leaf]) (.t 47) (.t 48)),
 Ll 50 (.load (.st [.leaf,.leaf]) (.t 49)),
 Ll 51 (.idxA none (.st [.leaf,.leaf]) (.t 37) (.t 38)),
 Ls (.store false (.st [.leaf,.leaf]) (.t 51) (.t 46)),
 Ll 52 (.idxA none (.st [.leaf,.leaf]) (.t 39) (.t 41)),
 Ls (.store false (.st [.leaf,.leaf]) (.t 52) (.t 50))] [0,1,2,3,8,9]))
 (.region [Lw 35 9,
 Ll 36 (.bin .sub (.t 35) (Acx 1)),
 Lw 9 36] [0,1,2,3,8,9]))
def Z2b_L1:Cd:=
 .seq (.seq (.region [Lw 12 8,
 Lw 13 2,
 Ll 14 (.bin .lss (.t 12) (.t 13))] [0,1,2,3,8,14])
 (.cond (.t 14)
 (.skip)
 (.exit 0)))
 (.seq (.block 1 (.seq (.region [Lw 17 8,
 Lw 9 17] [0,1,2,3,8,9])
 (.block 2 (.loop (Z2b_L0)))))
 (.region [Lw 15 8,
 Ll 16 (.bin .add (.t 15) (Acx 1)),
 Lw 8 16] [0,1,2,3,8]))
def Z2b_B:Cd:=
 .seq (.region [Lw 10 1,
 Ll 11 (.bin .add (.t 10) (Acx 1)),
 Lw 8 11] [0,1,2,3,8])
 (.block 0 (.loop (Z2b_L1)))
def Z2b:Fn:=
 { nparams:=4,nblk:=0,results:=[],body:=Z2b_B }
def Z1z_B:Cd:=
 .seq (.region [Ll 2 (.mv (Acx 0))] [0,2])
 (.seq (.seq (.region [Lw 3 0,
 Ll 4 (.bin .geq (.t 3) (.c (.int .u64 4294967296)))] [0,2,4])
 (.cond (.t 4)
 (.seq (.region [Lw 5 0,
 Ll 6 (.bin .shr (.t 5) (.c (.int .u64 32))),
 Lw 0 6] [0])
 (.region [Ll 2 (.mv (Acx 32))] [0,2]))
 (.skip)))
 (.seq (.seq (.region [Lw 7 0,
 Ll 8 (.bin .geq (.t 7) (.c (.int .u64 65536)))] [0,2,8])
 (.cond (.t 8)
 (.seq (.region [Lw 9 0,
 Ll 10 (.bin .shr (.t 9) (.c (.int .u64 16))),
 Lw 0 10] [0,2])
 (.region [Lw 11 2,
 Ll 12 (.bin .add (.t 11) (Acx 16)),
 Lw 2 12] [0,2]))
 (.skip)))
 (.seq (.seq (.region [Lw 13 0,
 Ll 14 (.bin .geq (.t 13) (.c (.int .u64 256)))] [0,2,14])
 (.cond (.t 14)
 (.seq (.region [Lw 15 0,
 Ll 16 (.bin .shr (.t 15) (.c (.int .u64 8))),
 Lw 0 16] [0,2])
 (.region [Lw 17 2,
 Ll 18 (.bin .add (.t 17) (Acx 8)),
 Lw 2 18] [0,2]))
 (.skip)))
 (.seq (.region [Lw 19 2,
 Lw 20 0,
 Ll 21 (.conv .u8 (.t 20)),
 Ll 22 (.idx none .leaf (.c (.str (ByteArray.mk #[0,1,2,2,3,3,3,3,4,4,4,4,4,4,4,4,5,5,5,5,5,5,5,5,5,5,5,5,5,5,5,5,6,6,6,6,6,6,6,6,6,6,6,6,6,6,6,6,6,6,6,6,6,6,6,6,6,6,6,6,6,6,6,6,7,7,7,7,7,7,7,7,7,7,7,7,7,7,7,7,7,7,7,7,7,7,7,7,7,7,7,7,7,7,7,7,7,7,7,7,7,7,7,7,7,7,7,7,7,7,7,7,7,7,7,7,7,7,7,7,7,7,7,7,7,7,7,7,8,8,8,8,8,8,8,8,8,8,8,8,8,8,8,8,8,8,8,8,8,8,8,8,8,8,8,8,8,8,8,8,8,8,8,8,8,8,8,8,8,8,8,8,8,8,8,8,8,8,8,8,8,8,8,8,8,8,8,8,8,8,8,8,8,8,8,8,8,8,8,8,8,8,8,8,8,8,8,8,8,8,8,8,8,8,8,8,8,8,8,8,8,8,8,8,8,8,8,8,8,8,8,8,8,8,8,8,8,8,8,8,8,8,8,8,8,8,8,8,8,8,8,8,8,8,8,8]))) (.t 21)),
 Ll 23 (.conv .i64 (.t 22)),
 Ll 24 (.bin .add (.t 19) (.t 23)),
 Lw 2 24] [2])
 (.ret)))))
def Z1z:Fn:=
 { nparams:=1,nblk:=0,results:=[.tmp 2],body:=Z1z_B }
def Z1x_B:Cd:=
 .seq (.region [Ll 2 (.mv (Acx 0))] [0])
 (.seq (.cond (.c (.bool false))
 (.seq (.region [Lw 3 0,
 Ll 4 (.conv .u32 (.t 3)),
 Ll 5 (Ofx F1y [(.t 4)]),
 Lw 2 5] [2])
 (.ret))
 (.skip))
 (.seq (.region [Lw 6 0,
 Ll 7 (Ofx F1z [(.t 6)]),
 Lw 2 7] [2])
 (.ret)))
def Z1x:Fn:=
 { nparams:=1,nblk:=0,results:=[.tmp 2],body:=Z1x_B }
def Z2j_L0:Cd:=
 .block 1 (.seq (.region [Lw 21 2,
 Lw 22 1,
 Ll 23 (.bin .sub (.t 21) (.t 22)),
 Lw 12 23] [0,1,2,3,4,10,11,12])
 (.seq (.seq (.region [Lw 24 12,
 Ll 25 (.bin .leq (.t 24) (Acx 12))] [0,1,2,3,4,10,11,12,25])
 (.cond (.t 25)
 (.seq (.region [Lw 26 0,
 Lw 27 1,
 Lw 28 2,
 Lw 29 4,
 Ll 30 (.call .heap [] (.f F2b) [(.t 26),(.t 27),(.t 28),(.t 29)])] [])
 (.ret))
 (.skip)))
 (.seq (.seq (.region [Lw 31 3,
 Ll 32 (.bin .eql (.t 31) (Acx 0))] [0,1,2,3,4,10,11,12,32])
 (.cond (.t 32)
 (.seq (.region [Lw 33 0,
 Lw 34 1,
 Lw 35 2,
 Lw 36 4,
 Ll 37 (.call .heap [] (.f F2a) [(.t 33),(.t 34),(.t 35),(.t 36)])] [])
 (.ret))
 (.skip)))
 (.seq (.seq (.region [Lw 38 10,
 Ll 39 (.un .not (.t 38))] [0,1,2,3,4,10,11,12,39])
 (.cond (.t 39)
 (.seq (.region [Lw 40 0,
 Lw 41 1,
 Lw 42 2,
 Lw 43 4,
 Ll 44 (.call .heap [] (.f F28) [(.t 40),(.t 41),(.t 42),(.t 43)])] [0,1,2,3,4,10,11,12])
 (.region [Lw 45 3,
 Ll 46 (.bin .sub (.t 45) (Acx 1)),
 Lw 3 46] [0,1,2,3,4,10,11,12]))
 (.skip)))
 (.seq (.region [Lw 48 0,
 Lw 49 1,
 Lw 50 2,
 Lw 51 4,
 Ll 52 (Ofx F29 [(.t 48),(.t 49),(.t 50),(.t 51)]),
 Lw 47 52,
 Iex 53 47 0,
 Iex 54 47 1,
 Lw 13 53,
 Lw 14 54] [0,1,2,3,4,10,11,12,13,14])
 (.seq (.seq (.region [Lw 55 14,
 Ll 56 (.bin .eql (.t 55) (Acx 2))] [0,1,2,3,4,10,11,12,13,14,56])
 (.cond (.t 56)
 (.seq (.region [Lw 57 0,
 Lw 58 1,
 Lw 59 2,
 Lw 60 4,
 Ll 61 (.call .heap [] (.f F2k) [(.t 57),(.t 58),(.t 59),(.t 60)])] [0,1,2,3,4,10,11,12,13])
 (.seq (.region [Lw 62 2,
 Ll 63 (.bin .sub (.t 62) (Acx 1)),
 Lw 64 13,
 Lw 65 1,
 Ll 66 (.bin .sub (.t 64) (.t 65)),
 Ll 67 (.bin .sub (.t 63) (.t 66)),
 Lw 13 67] [0,1,2,3,4,10,11,12,13])
 (.region [Ll 14 (.mv (Acx 1))] [0,1,2,3,4,10,11,12,13,14])))
 (.skip)))
 (.seq (.seq (.region [Lw 68 10,
 Lw 69 68,
 Lx 70 11 69 true,
 Ll 71 (.pick (.t 69) (.t 70) (.c (.bool false))),
 Lw 72 71,
 Lx 73 14 72 true,
 Lg 74 (.bin .eql (.t 73) (Acx 1)) 72 true,
 Ll 75 (.pick (.t 72) (.t 74) (.c (.bool false)))] [0,1,2,3,4,10,11,12,13,75])
 (.cond (.t 75)
 (.seq (.region [Lw 76 0,
 Lw 77 1,
 Lw 78 2,
 Lw 79 4,
 Ll 80 (.call .heap [] (.f F2g) [(.t 76),(.t 77),(.t 78),(.t 79)])] [0,1,2,3,4,10,11,12,13,80])
 (.cond (.t 80)
 (.ret)
 (.skip)))
 (.skip)))
 (.seq (.seq (.region [Lw 81 1,
 Ll 82 (.bin .gtr (.t 81) (Acx 0)),
 Lw 83 82,
 Lx 84 4 83 true,
 Lx 85 0 83 true,
 Lx 86 1 83 true,
 Lg 87 (.bin .sub (.t 86) (Acx 1)) 83 true,
 Lg 88 (.idxA none (.st [.leaf,.leaf]) (.t 85) (.t 87)) 83 true,
 Lg 89 (.load (.st [.leaf,.leaf]) (.t 88)) 83 true,
 Lx 90 0 83 true,
 Lx 91 13 83 true,
 Lg 92 (.idxA none (.st [.leaf,.leaf]) (.t 90) (.t 91)) 83 true,
 Lg 93 (.load (.st [.leaf,.leaf]) (.t 92)) 83 true,
 Lg 94 (.call .flat [] (.t 84) [(.t 89),(.t 93)]) 83 true,
 Lg 95 (.bin .lss (.t 94) (Acx 0)) 83 true,
 Lg 96 (.un .not (.t 95)) 83 true,
 Ll 97 (.pick (.t 83) (.t 96) (.c (.bool false)))] [0,1,2,3,4,10,11,12,13,97])
 (.cond (.t 97)
 (.seq (.region [Lw 98 0,
 Lw 99 1,
 Lw 100 2,
 Lw 101 13,
 Lw 102 4,
 Ll 103 (.call .heap [] (.f F2i) [(.t 98),(.t 99),(.t 100),(.t 101),(.t 102)]),
 Lw 15 103] [0,2,3,4,10,11,15])
 (.seq (.region [Lw 104 15,
 Lw 1 104] [0,1,2,3,4,10,11])
 (.exit 1)))
 (.skip)))
 (.seq (.region [Lw 106 0,
 Lw 107 1,
 Lw 108 2,
 Lw 109 13,
 Lw 110 4,
 Ll 111 (.call .heap [] (.f F2h) [(.t 106),(.t 107),(.t 108),(.t 109),(.t 110)]),
 Lw 105 111,
 Iex 112 105 0,
 Iex 113 105 1,
 Lw 16 112,
 Lw 17 113] [0,1,2,3,4,12,16,17])
 (.seq (.region [Lw 114 17,
 Lw 11 114] [0,1,2,3,4,11,12,16])
 (.seq (.region [Lw 115 16,
 Lw 116 1,
 Ll 117 (.bin .sub (.t 115) (.t 116)),
 Lw 118 2,
 Lw 119 16,
 Ll 120 (.bin .sub (.t 118) (.t 119)),
 Lw 18 117,
 Lw 19 120] [0,1,2,3,4,11,12,16,18,19])
 (.seq (.region [Lw 121 12,
 Ll 122 (.bin .quo (.t 121) (Acx 8)),
 Lw 20 122] [0,1,2,3,4,11,16,18,19,20])
 (.seq (.region [Lw 123 18,
 Lw 124 19,
 Ll 125 (.bin .lss (.t 123) (.t 124))] [0,1,2,3,4,11,16,18,19,20,125])
 (.cond (.t 125)
 (.seq (.region [Lw 126 18,
 Lw 127 20,
 Ll 128 (.bin .geq (.t 126) (.t 127)),
 Lw 10 128] [0,1,2,3,4,10,11,16])
 (.seq (.region [Lw 129 0,
 Lw 130 1,
 Lw 131 16,
 Lw 132 3,
 Lw 133 4,
 Ll 134 (.call .heap [] (.f F2j) [(.t 129),(.t 130),(.t 131),(.t 132),(.t 133)])] [0,2,3,4,10,11,16])
 (.region [Lw 135 16,
 Ll 136 (.bin .add (.t 135) (Acx 1)),
 Lw 1 136] [0,1,2,3,4,10,11])))
 (.seq (.region [Lw 137 19,
 Lw 138 20,
 Ll 139 (.bin .geq (.t 137) (.t 138)),
 Lw 10 139] [0,1,2,3,4,10,11,16])
 (.seq (.region [Lw 140 0,
 Lw 141 16,
 Ll 142 (.bin .add (.t 141) (Acx 1)),
 Lw 143 2,
 Lw 144 3,
 Lw 145 4,
 Ll 146 (.call .heap [] (.f F2j) [(.t 140),(.t 142),(.t 143),(.t 144),(.t 145)])] [0,1,3,4,10,11,16])
 (.region [Lw 147 16,
 Lw 2 147] [0,1,2,3,4,10,11])))))))))))))))))
def Z2j_B:Cd:=
 .seq (.region [Ll 10 (.mv (.c (.bool true)))] [0,1,2,3,4,10])
 (.seq (.region [Ll 11 (.mv (.c (.bool true)))] [0,1,2,3,4,10,11])
 (.block 0 (.loop (Z2j_L0))))
def Z2j:Fn:=
 { nparams:=5,nblk:=0,results:=[],body:=Z2j_B }
def Z27_B:Cd:=
 .seq (.region [Lw 5 0,
 Ll 6 (.len false (.t 5)),
 Lw 4 6] [0,1,4])
 (.region [Lw 7 0,
 Lw 8 4,
 Lw 9 4,
 Ll 10 (.conv .u64 (.t 9)),
 Ll 11 (Ofx F1x [(.t 10)]),
 Lw 12 1,
 Ll 13 (.call .heap [] (.f F2j) [(.t 7),(Acx 0),(.t 8),(.t 11),(.t 12)])] [])
def Z27:Fn:=
 { nparams:=2,nblk:=0,results:=[],body:=Z27_B }
def Z4_B:Cd:=
 .seq (.region [Ll 2 (.mv (.c (.bool false)))] [0])
 (.seq (.region [Lw 3 0,
 Lw 4 0,
 Ll 5 (.bin .neq (.t 3) (.t 4)),
 Lw 2 5] [2])
 (.ret))
def Z4:Fn:=
 { nparams:=1,nblk:=0,results:=[.tmp 2],body:=Z4_B }
def Z0_B:Cd:=
 .seq (.region [Ll 4 (.mv (Acx 0))] [0,1])
 (.seq (.region [Lw 7 0,
 Ll 8 (Ofx F4 [(.t 7)]),
 Lw 5 8] [0,1,5])
 (.seq (.region [Lw 9 1,
 Ll 10 (Ofx F4 [(.t 9)]),
 Lw 6 10] [0,1,5,6])
 (.seq (.seq (.region [Lw 11 5] [0,1,6,11])
 (.cond (.t 11)
 (.seq (.seq (.region [Lw 12 6] [12])
 (.cond (.t 12)
 (.seq (.region [Ll 4 (.mv (Acx 0))] [4])
 (.ret))
 (.skip)))
 (.seq (.region [Ll 4 (.mv (Acx (-1)))] [4])
 (.ret)))
 (.skip)))
 (.seq (.seq (.region [Lw 13 6] [0,1,13])
 (.cond (.t 13)
 (.seq (.region [Ll 4 (.mv (Acx 1))] [4])
 (.ret))
 (.skip)))
 (.seq (.seq (.region [Lw 14 0,
 Lw 15 1,
 Ll 16 (.bin .lss (.t 14) (.t 15))] [0,1,16])
 (.cond (.t 16)
 (.seq (.region [Ll 4 (.mv (Acx (-1)))] [4])
 (.ret))
 (.skip)))
 (.seq (.seq (.region [Lw 17 0,
 Lw 18 1,
 Ll 19 (.bin .gtr (.t 17) (.t 18))] [19])
 (.cond (.t 19)
 (.seq (.region [Ll 4 (.mv (Acx 1))] [4])
 (.ret))
 (.skip)))
 (.seq (.region [Ll 4 (.mv (Acx 0))] [4])
 (.ret))))))))
def Z0:Fn:=
 { nparams:=2,nblk:=0,results:=[.tmp 4],body:=Z0_B }
def Z5_B:Cd:=
 .seq (.region [Ll 2 (.mv (.c (.bool false)))] [0])
 (.seq (.region [Lw 3 0,
 Lw 4 0,
 Ll 5 (.bin .neq (.t 3) (.t 4)),
 Lw 2 5] [2])
 (.ret))
def Z5:Fn:=
 { nparams:=1,nblk:=0,results:=[.tmp 2],body:=Z5_B }
def Z3_B:Cd:=
 .seq (.region [Ll 4 (.mv (Acx 0))] [0,1])
 (.seq (.region [Lw 7 0,
 Ll 8 (Ofx F5 [(.t 7)]),
 Lw 5 8] [0,1,5])
 (.seq (.region [Lw 9 1,
 Ll 10 (Ofx F5 [(.t 9)]),
 Lw 6 10] [0,1,5,6])
 (.seq (.seq (.region [Lw 11 5] [0,1,6,11])
 (.cond (.t 11)
 (.seq (.seq (.region [Lw 12 6] [12])
 (.cond (.t 12)
 (.seq (.region [Ll 4 (.mv (Acx 0))] [4])
 (.ret))
 (.skip)))
 (.seq (.region [Ll 4 (.mv (Acx (-1)))] [4])
 (.ret)))
 (.skip)))
 (.seq (.seq (.region [Lw 13 6] [0,1,13])
 (.cond (.t 13)
 (.seq (.region [Ll 4 (.mv (Acx 1))] [4])
 (.ret))
 (.skip)))
 (.seq (.seq (.region [Lw 14 0,
 Lw 15 1,
 Ll 16 (.bin .lss (.t 14) (.t 15))] [0,1,16])
 (.cond (.t 16)
 (.seq (.region [Ll 4 (.mv (Acx (-1)))] [4])
 (.ret))
 (.skip)))
 (.seq (.seq (.region [Lw 17 0,
 Lw 18 1,
 Ll 19 (.bin .gtr (.t 17) (.t 18))] [19])
 (.cond (.t 19)
 (.seq (.region [Ll 4 (.mv (Acx 1))] [4])
 (.ret))
 (.skip)))
 (.seq (.region [Ll 4 (.mv (Acx 0))] [4])
 (.ret))))))))
def Z3:Fn:=
 { nparams:=2,nblk:=0,results:=[.tmp 4],body:=Z3_B }
def Z25_L0:Cd:=
 .seq (.region [Ll 9 (.bin .lss (.t 8) (.t 7))] [0,1,7,8,9])
 (.seq (.cond (.t 9)
 (.skip)
 (.exit 0))
 (.seq (.block 1 (.seq (.region [Lw 10 8,
 Lw 5 10] [0,1,5,7,8])
 (.seq (.region [Lw 11 1,
 Lw 12 0,
 Lw 13 5,
 Ll 14 (.idxA none (.st [Sx6,Sx6]) (.t 12) (.t 13)),
 Ll 15 (.load (.st [Sx6,Sx6]) (.t 14)),
 Ll 16 (.call .flat [] (.t 11) [(.t 15)])] [0,1,5,7,8,16])
 (.cond (.t 16)
 (.seq (.region [Lw 17 5,
 Lw 4 17] [4])
 (.ret))
 (.skip)))))
 (.region [Ll 18 (.bin .add (.t 8) (Acx 1)),
 Lw 8 18] [0,1,7,8])))
def Z25_B:Cd:=
 .seq (.region [Ll 4 (.mv (Acx 0))] [0,1])
 (.seq (.seq (.region [Lw 6 0,
 Ll 7 (.len false (.t 6)),
 Ll 8 (.mv (Acx 0))] [0,1,7,8])
 (.block 0 (.loop (Z25_L0))))
 (.seq (.region [Ll 4 (.mv (Acx (-1)))] [4])
 (.ret)))
def Z25:Fn:=
 { nparams:=2,nblk:=0,results:=[.tmp 4],body:=Z25_B }
def Z22_B:Cd:=
 .seq (.region [Ll 4 (.mv (.c (.bool false)))] [0,1])
 (.seq (.region [Lw 5 0,
 Lw 6 1,
 Ll 7 (Ofx F25 [(.t 5),(.t 6)]),
 Ll 8 (.bin .geq (.t 7) (Acx 0)),
 Lw 4 8] [4])
 (.ret))
def Z22:Fn:=
 { nparams:=2,nblk:=0,results:=[.tmp 4],body:=Z22_B }
end Pe

namespace Pe
open Go Gq
variable {T:Nat→Option Fn} {A:ac}
def ta (ds:List D):Prop:=∀x∈ds,x.isTup=false
theorem jj (h:Heap):∀{ds:List D},ta ds→kl h (ds.map .d)=some ds
 | [],_=>rfl
 | d::ds,hn=>by
  have h1:d.isTup=false:=hn d (by simp)
  have h2:=jj h (ds:=ds) fun x hx=>hn x (by simp [hx])
  simp [h1,h2]
theorem pv (h:Heap):∀{a b:List V} {x y:List D},kl h a=some x→kl h b=some y→kl h (a++b)=some (x++y)
 | [],b,x,y,h1,h2=>by simp at h1; subst h1; simpa using h2
 | v::a,b,x,y,h1,h2=>by
  simp only [Rp] at h1;obtain ⟨d,hd,h1⟩:=a4.1 h1;simp only [Yf] at h1
  split at h1
  ·cases h1
  ·rename_i hn
   obtain ⟨z,hz,rfl⟩:=a8.1 h1;have:=pv h hz h2;simp [hd,hn,this]
theorem B9 {O:ac} {np:Nat} {h:Heap} {news:List Nat} {g:Nat} {first caps:List D} {x r:D} (h1:ta first) (h2:ta caps) (hx:x.isTup=false) (ha:ask O g (first++[x]++caps)=some r) (hr:r.flat=true) :
 xz O np h .flat news (g,first.map .d,caps.map .d) [.d x]=some (.d r,h):=by
 have e:kl h (first.map .d++[.d x]++caps.map .d)=some (first++[x]++caps):=
  pv h (pv h (jj h h1) (jj h (ds:=[x]) (by intro y hy; simp at hy; subst hy; exact hx))) (jj h h2)
 rw [wx,e,a9,D6,ha,a9,yw,hr,if_pos rfl]
def rj (P:D→Bool):List D→Nat→Int
 | [],_=>-1
 | d::ds,i=>if P d then i else rj P ds (i+1)
theorem Hd (P:D→Bool):∀(ds:List D) (i:Nat),(0≤rj P ds i)↔ds.any P=true
 | [],i=>by simp [rj]
 | d::ds,i=>by
  rw [rj];cases h:P d
  ·simp [h,Hd P ds (i+1)]
  ·simp [h]
def pz (O:ac) (g:Nat) (first caps cs:List D) (P:D→Bool):Prop:=ta first∧ta caps∧ta cs∧∀x∈cs,ask O g (first++[x]++caps)=some (D.bool (P x))
def Ag (s:Sh) (cs:List D):Prop:=∀x∈cs,x.sh=s
theorem Ik {O:ac} {g:Nat} {first caps cs:List D} {P:D→Bool} (hF:pz O g first caps cs P) (hs:Ag .leaf cs) (hl:cs.length<2000000):∀(m i:Nat),i+m=cs.length →
 dn O 0 (.loop Z24_L0) ⟨[(0,.d (.sl .leaf cs)),(1,.d (.fn g first caps)),(7,(.d (.int .i64 cs.length))),(8,(.d (.int .i64 i)))],[]⟩ =
  if (cs.drop i).any P then some (.ret,⟨[(4,(.d (.int .i64 (rj P (cs.drop i) i))))],[]⟩) else some (.exit 0,⟨[(0,.d (.sl .leaf cs)),(1,.d (.fn g first caps)),(7,(.d (.int .i64 cs.length))),(8,(.d (.int .i64 cs.length))),(9,(.d (.bool false)))],[]⟩)
 | 0,i,hi=>by
  have:i=cs.length:=by omega
  subst this;rw [nz];exact bi (by simp -implicitDefEqProofs [Z24_L0,af])
 | m+1,i,hi=>by
  have hlt:i<cs.length:=by omega
  have h1:(i:Int)<cs.length:=by omega
  have hx:cs[i]? = some cs[i]:=ah hlt;have hm:cs[i]∈cs:=cx hlt;have hc:=B9 (O:=O) (np:=0) (h:=[]) (news:=[]) hF.1 hF.2.1 (hF.2.2.1 _ hm) (hF.2.2.2 _ hm) rfl;have hsh:=hs _ hm;have w4:IntKind.i64.wrap ((i:Int)+1)=((i+1:Nat):Int):=(w64 (x:=(i:Int)+1) (by omega)).trans (by omega)
  rw [ci hlt];cases hp:P cs[i]
  ·rw [hp] at hc
   refine bh (s1:=⟨[(0,.d (.sl .leaf cs)),(1,.d (.fn g first caps)),(7,(.d (.int .i64 cs.length))),(8,(.d (.int .i64 ((i+1:Nat)))))],[]⟩) ?_ ?_
   ·simp -implicitDefEqProofs [Z24_L0,af,h1,hx,hsh,hc,w4]
   ·rw [Ik hF hs hl m (i+1) (by omega)]
    simp only [o9,hp,Bool.false_or,rj,ak,if_false]
  ·rw [hp] at hc
   have e:rj P (cs[i]::cs.drop (i+1)) i=i:=by simp [rj,hp]
   rw [e];simp only [o9,hp,Bool.true_or,if_true];exact p7 (by simp -implicitDefEqProofs [Z24_L0,af,h1,hx,hsh,hc])
theorem Ht {O:ac} {g:Nat} {first caps cs:List D} {P:D→Bool} (hF:pz O g first caps cs P) (hs:Ag (.arr 64 .leaf) cs) (hl:cs.length<2000000):∀(m i:Nat),i+m=cs.length →
 dn O 0 (.loop Z26_L0) ⟨[(0,.d (.sl (.arr 64 .leaf) cs)),(1,.d (.fn g first caps)),(7,(.d (.int .i64 cs.length))),(8,(.d (.int .i64 i)))],[]⟩ =
  if (cs.drop i).any P then some (.ret,⟨[(4,(.d (.int .i64 (rj P (cs.drop i) i))))],[]⟩) else some (.exit 0,⟨[(0,.d (.sl (.arr 64 .leaf) cs)),(1,.d (.fn g first caps)),(7,(.d (.int .i64 cs.length))),(8,(.d (.int .i64 cs.length))),(9,(.d (.bool false)))],[]⟩)
 | 0,i,hi=>by
  have:i=cs.length:=by omega
  subst this;rw [nz];exact bi (by simp -implicitDefEqProofs [Z26_L0,af])
 | m+1,i,hi=>by
  have hlt:i<cs.length:=by omega
  have h1:(i:Int)<cs.length:=by omega
  have hx:cs[i]? = some cs[i]:=ah hlt;have hm:cs[i]∈cs:=cx hlt;have hc:=B9 (O:=O) (np:=0) (h:=[]) (news:=[]) hF.1 hF.2.1 (hF.2.2.1 _ hm) (hF.2.2.2 _ hm) rfl;have hsh:=hs _ hm;have w4:IntKind.i64.wrap ((i:Int)+1)=((i+1:Nat):Int):=(w64 (x:=(i:Int)+1) (by omega)).trans (by omega)
  rw [ci hlt];cases hp:P cs[i]
  ·rw [hp] at hc
   refine bh (s1:=⟨[(0,.d (.sl (.arr 64 .leaf) cs)),(1,.d (.fn g first caps)),(7,(.d (.int .i64 cs.length))),(8,(.d (.int .i64 ((i+1:Nat)))))],[]⟩) ?_ ?_
   ·simp -implicitDefEqProofs [Z26_L0,af,h1,hx,hsh,hc,w4]
   ·rw [Ht hF hs hl m (i+1) (by omega)]
    simp only [o9,hp,Bool.false_or,rj,ak,if_false]
  ·rw [hp] at hc
   have e:rj P (cs[i]::cs.drop (i+1)) i=i:=by simp [rj,hp]
   rw [e];simp only [o9,hp,Bool.true_or,if_true];exact p7 (by simp -implicitDefEqProofs [Z26_L0,af,h1,hx,hsh,hc])
def pe (O:ac) (F:Nat) (s:Sh):Prop:=∀(g:Nat) (first caps cs:List D) (P:D→Bool),pz O g first caps cs P→Ag s cs→cs.length<2000000 →
 ask O F [.sl s cs,.fn g first caps]=some (D.int .i64 (rj P cs 0))
theorem Sl (hT:T F24=some Z24):pe (den T A) F24 .leaf:=by
 intro g first caps cs P hF hs hl;have h:=Ik hF hs hl cs.length 0 (b9 _);rw [gf] at h;have e0:((0:Nat):Int)=0:=rfl;rw [e0] at h;refine bj hT rfl ?_
 by_cases ha:cs.any P=true
 ·rw [if_pos ha] at h
  simp -implicitDefEqProofs [Z24,Z24_B,h]
 ·rw [if_neg ha] at h
  have hn:rj P cs 0=-1:=by
   have hi:∀(ds:List D) (i:Nat),ds.any P=false→rj P ds i=-1:=by
    intro ds
    induction ds with
    | nil=>intro i _; rfl
    | cons d ds ih=>intro i hd; simp at hd; rw [rj,hd.1]; simpa using ih (i+1) (by simpa using hd.2)
   exact hi cs 0 (by simpa using ha)
  simp -implicitDefEqProofs [Z24,Z24_B,h,hn]
theorem Sc (hT:T F26=some Z26):pe (den T A) F26 (.arr 64 .leaf):=by
 intro g first caps cs P hF hs hl;have h:=Ht hF hs hl cs.length 0 (b9 _);rw [gf] at h;have e0:((0:Nat):Int)=0:=rfl;rw [e0] at h;refine bj hT rfl ?_
 by_cases ha:cs.any P=true
 ·rw [if_pos ha] at h
  simp -implicitDefEqProofs [Z26,Z26_B,h]
 ·rw [if_neg ha] at h
  have hn:rj P cs 0=-1:=by
   have hi:∀(ds:List D) (i:Nat),ds.any P=false→rj P ds i=-1:=by
    intro ds
    induction ds with
    | nil=>intro i _; rfl
    | cons d ds ih=>intro i hd; simp at hd; rw [rj,hd.1]; simpa using ih (i+1) (by simpa using hd.2)
   exact hi cs 0 (by simpa using ha)
  simp -implicitDefEqProofs [Z26,Z26_B,h,hn]
def vz (O:ac) (F:Nat) (s:Sh):Prop:=∀(g:Nat) (first caps cs:List D) (P:D→Bool),pz O g first caps cs P→Ag s cs→cs.length<2000000 →
 ask O F [.sl s cs,.fn g first caps]=some (D.bool (cs.any P))
theorem Jk (hT:T F21=some Z21) (hi:pe (den T A) F24 .leaf):vz (den T A) F21 .leaf:=by
 intro g first caps cs P hF hs hl;have h:=hi g first caps cs P hF hs hl;have e:decide (0≤rj P cs 0)=cs.any P:=by rw [lq]; simpa using Hd P cs 0
 refine bj hT rfl ?_;simp -implicitDefEqProofs [Z21,Z21_B,h,e]
theorem Jt (hT:T F23=some Z23) (hi:pe (den T A) F26 (.arr 64 .leaf)):vz (den T A) F23 (.arr 64 .leaf):=by
 intro g first caps cs P hF hs hl;have h:=hi g first caps cs P hF hs hl;have e:decide (0≤rj P cs 0)=cs.any P:=by rw [lq]; simpa using Hd P cs 0
 refine bj hT rfl ?_;simp -implicitDefEqProofs [Z23,Z23_B,h,e]
end Pe

namespace Pe
open Go Gq
variable {T:Nat→Option Fn} {A:ac}
def D.num:D→Int
 | .int _ n=>n
 | _=>0
def jz (l:List Int):Prop:=∀x∈l,0≤x∧x<256
abbrev Gd (l:List Int):D:=(D.arr 64 .leaf (ae .u8 l))
def vh (O:ac) (F:Nat) (s:Sh):Prop:=∀(g:Nat) (first caps cs:List D) (P:D→Bool),pz O g first caps cs P→Ag s cs→cs.length<2000000 →
 ask O F [.sl s cs,.fn g first caps]=some (D.bool (cs.all P))
theorem Pp (P:D→Bool) (cs:List D):(!cs.any fun x=>!P x)=cs.all P:=by
 induction cs with
 | nil=>rfl
 | cons c cs ih=>simp [←ih]
theorem a0q {g:Nat} {first caps cs:List D} {P:D→Bool} (hT:T Fe=some Ze) (hF:pz (den T A) g first caps cs P):pz (den T A) Fe [] [.ip (.fn g first caps)] cs fun x=>!P x:=by
 refine ⟨fun x hx=>by simp at hx,fun x hx=>by simp at hx; subst hx; rfl,hF.2.2.1,fun x hx=>?_⟩
 have hc:=B9 (O:=den T A) (np:=0) (h:=[]) (news:=[]) hF.1 hF.2.1 (hF.2.2.1 _ hx) (hF.2.2.2 _ hx) rfl;refine bj hT rfl ?_;simp -implicitDefEqProofs [Ze,Ze_B,hc]
theorem Qn (hT:T Fc=some Zc) (hT1:T Fe=some Ze) (hc:vz (den T A) F21 .leaf):vh (den T A) Fc .leaf:=by
 intro g first caps cs P hF hs hl;have e:=hc _ _ _ _ _ (a0q hT1 hF) hs hl;have e2:=Pp P cs;have t1:=jj [.box false (.fn g first caps)] hF.1;have t2:=jj [.box false (.fn g first caps)] hF.2.1;rw [←e2];generalize (cs.any fun x=>!P x)=r at *
 refine bj hT rfl ?_;simp -implicitDefEqProofs [Zc,Zc_B,e]
theorem Yx {g:Nat} {first caps cs:List D} {P:D→Bool} (hT:T Fi=some Zi) (hs:Ag (.arr 64 .leaf) cs) (hF:pz (den T A) g first caps cs P):pz (den T A) Fi [] [.ip (.fn g first caps)] cs fun x=>!P x:=by
 refine ⟨fun x hx=>by simp at hx,fun x hx=>by simp at hx; subst hx; rfl,hF.2.2.1,fun x hx=>?_⟩
 have hc:=B9 (O:=den T A) (np:=0) (h:=[.box false x]) (news:=[]) hF.1 hF.2.1 (hF.2.2.1 _ hx) (hF.2.2.2 _ hx) rfl;have h1:=hF.2.2.1 _ hx;have h2:=hs _ hx;refine bj hT rfl ?_;simp -implicitDefEqProofs [Zi,Zi_B,hc,h1,h2]
theorem Qd (hT:T Fh=some Zh) (hT1:T Fi=some Zi) (hc:vz (den T A) F23 (.arr 64 .leaf)):vh (den T A) Fh (.arr 64 .leaf):=by
 intro g first caps cs P hF hs hl;have e:=hc _ _ _ _ _ (Yx hT1 hs hF) hs hl;have e2:=Pp P cs;rw [←e2];generalize (cs.any fun x=>!P x)=r at *
 refine bj hT rfl ?_;simp -implicitDefEqProofs [Zh,Zh_B,e]
def md (p:Int) (l:List Int):Bool:=l.all fun x=>decide (x<p)
def uq (O:ac):Prop:=∀(p:Int) (l:List Int),jz l→l.length=64→ask O Fy [(D.int .i64 p),(D.arr 64 .leaf (ae .u8 l))]=some (D.bool (md p l))
theorem U7 (p:Int) (l:List Int):((ae .u8 l).all fun x=>decide (x.num<p))=md p l:=by
 unfold ae md;rw [List.all_map];rfl
theorem Tb (hT:T Fy=some Zy) (hT1:T Fz=some Zz) (ha:vh (den T A) Fc .leaf):uq (den T A):=by
 intro p l hb hl
 have hF:pz (den T A) Fz [] [.ip (D.int .i64 p)] (ae .u8 l) fun x=>decide (x.num<p):=by
  refine ⟨fun x hx=>by simp at hx,fun x hx=>by simp at hx; subst hx; rfl,fun x hx=>?_,fun x hx=>?_⟩
  ·obtain ⟨n,_,rfl⟩:=cd.1 hx; rfl
  ·obtain ⟨n,hn,rfl⟩:=cd.1 hx
   have h1:=hb n hn;have w1:IntKind.i64.wrap n=n:=w64 (by omega)
   refine bj hT1 rfl ?_;simp -implicitDefEqProofs [Zz,Zz_B,w1,D.num];exact decide_eq_decide.2 wb
 have e:=ha _ _ _ _ _ hF (fun x hx=>by obtain ⟨n,_,rfl⟩:=cd.1 hx; rfl) (by simp [hl])
 rw [U7] at e;have ht:l.take 64=l:=az (by omega)
 refine bj hT rfl ?_;simp -implicitDefEqProofs [Zy,Zy_B,e,hl,ht]
def rr (p:Int) (ls:List (List Int)):Int:=if isP p∧ls.all (md p) then 0 else 1
def Tj (ls:List (List Int)):Prop:=∀l∈ls,l.length=64∧jz l
def D.nums:D→List Int
 | .arr _ _ cs=>cs.map D.num
 | _=>[]
theorem Ej (l:List Int):(Gd l).nums=l:=by
 simp only [D.nums,ae,List.map_map];have:(D.num ∘ D.int .u8)=id:=rfl;rw [this,List.map_id]
def ut (O:ac):Prop:=∀(p:Int) (ls:List (List Int)),Tj ls→ls.length<2000000→ask O F12 [(D.int .i64 p),.sl (.arr 64 .leaf) (ls.map Gd)]=some (D.int .i64 (rr p ls))
theorem Qz {p:Int} {ls:List (List Int)} (h:Tj ls) (hT1:T F13=some Z13) (hi:uq (den T A)):pz (den T A) F13 [] [.ip (D.int .i64 p)] (ls.map Gd) fun x=>md p x.nums:=by
 refine ⟨fun x hx=>by simp at hx,fun x hx=>by simp at hx; subst hx; rfl,fun x hx=>?_,fun x hx=>?_⟩
 ·obtain ⟨n,_,rfl⟩:=cd.1 hx; rfl
 ·obtain ⟨n,hn,rfl⟩:=cd.1 hx
  have e:=hi p n (h n hn).2 (h n hn).1;have e2:=Ej n;refine bj hT1 rfl ?_;simp -implicitDefEqProofs [Z13,Z13_B,e,e2]
theorem Uy (p:Int) (ls:List (List Int)):((ls.map Gd).all fun x=>md p x.nums)=ls.all (md p):=by
 rw [List.all_map]
 congr 1
 funext l
 simp only [Function.comp,Ej]
theorem Id (hT:T F12=some Z12) (hT1:T F13=some Z13) (hp:v9 (den T A)) (hi:uq (den T A)) (ha:vh (den T A) Fh (.arr 64 .leaf)):ut (den T A):=by
 intro p ls h hl;have e:=ha _ _ _ _ _ (Qz (p:=p) h hT1 hi) (fun x hx=>by obtain ⟨n,_,rfl⟩:=cd.1 hx; rfl) (by simpa using hl)
 rw [Uy] at e;have e1:=hp p;unfold rr;refine bj hT rfl ?_;cases h1:isP p
 ·rw [h1] at e1
  simp -implicitDefEqProofs [Z12,Z12_B,e1,af]
 ·rw [h1] at e1
  cases h2:ls.all (md p)
  ·rw [h2] at e
   simp -implicitDefEqProofs [Z12,Z12_B,e1,e,af]
  ·rw [h2] at e
   simp -implicitDefEqProofs [Z12,Z12_B,e1,e,af]
end Pe

namespace Pe
open Go
abbrev tyN:Ty:=.int .i64
abbrev tyP:Ty:=.arr 64 (.int .u8)
theorem a3m {d:D} (h:tyN.has d):∃n:Int,d=(D.int .i64 n)∧-9223372036854775808≤n∧n≤9223372036854775807:=by
 cases d <;> simp only [Ty.has] at h
 obtain ⟨rfl,h⟩:=h;exact ⟨_,rfl,bounds_i64 h⟩
theorem Eu:∀(xs:List D),(∀x∈xs,(Ty.int .u8).has x)→∃l:List Int,xs=ae .u8 l∧jz l
 | [],_=>⟨[],rfl,fun _ h=>by cases h⟩
 | x::xs,h=>by
  obtain ⟨l,rfl,hb⟩:=Eu xs fun y hy=>h y (List.mem_cons_of_mem _ hy)
  have h1:=h x (by simp)
  cases x <;> simp only [Ty.has] at h1
  obtain ⟨rfl,h1⟩:=h1;refine ⟨_::l,rfl,fun y hy=>?_⟩
  rcases cr.1 hy with rfl | hy
  ·have:=bounds_u8 h1; omega
  ·exact hb y hy
theorem a46 {d:D} (h:tyP.has d):∃l:List Int,d=(D.arr 64 .leaf (ae .u8 l))∧jz l∧l.length=64:=by
 cases d <;> simp only [Ty.has] at h
 obtain ⟨rfl,rfl,h1,h2⟩:=h;obtain ⟨l,rfl,hb⟩:=Eu _ h2;exact ⟨l,rfl,hb,by simpa [ae] using h1⟩
theorem Ma {xs:List D} (h:Ty.hasAll [] xs):xs=[]:=by
 cases xs <;> simp only [Ty.hasAll] at h; rfl
theorem A6 {T:Ty} {Ts:List Ty} {xs:List D} (h:Ty.hasAll (T::Ts) xs):∃x r,xs=x::r∧T.has x∧Ty.hasAll Ts r:=by
 cases xs <;> simp only [Ty.hasAll] at h; exact ⟨_,_,rfl,h⟩
def cl (P:Program) (num:Nat→Nat) (g:Nat) (fn:Fn):Bool:=match P.funcs[g]? with
 | some x=>Al P num fn x
 | none=>false
def Xx (P:Program) (num:Nat→Nat):List (Nat×Fn)→Prop
 | []=>True
 | e::r=>cl P num (num e.1) e.2=true∧Xx P num r
theorem Eo {P:Program} {num:Nat→Nat}:∀{l:List (Nat×Fn)},Xx P num l→∀f fn,l.lookup f=some fn→∃g,P.funcs[num f]? = some g∧Al P num fn g=true
 | [],_,f,fn,h=>by cases h
 | (a,b)::r,⟨h1,h2⟩,f,fn,h=>by
  rw [List.lookup_cons] at h
  split at h
  ·rename_i e
   obtain rfl:=ao h;have:f=a:=by simpa using e
   subst this;unfold cl at h1
   split at h1
   ·rename_i g hg; exact ⟨g,hg,h1⟩
   ·cases h1
  ·exact Eo h2 f fn h
end Pe

namespace Pe
open Go
variable {P:Program} {num:Nat→Nat}
theorem Mj {C:Cx} {φ:Loc} {s:St} {a:Act} {ops:Array Oper} {N np:Nat} {o:Oper} {j d:Nat} {v:V} {K:Act→World→Prop} {Q:Exit→Act→World→Prop}
 (hs:SR C φ s a.tmps) (hN:N≤a.tmps.size) (hd:o.dst=some d) (hdN:d<N) (hg:o.guard=none) (hj:ops[j]? = some o) (hop:OpWp P o a C φ s.h v s.h (fun _=>False))
 (hK:∀C' φ' u,Runs np C C' φ φ' s.h s.h→SR C' φ' ⟨(d,v)::s.e,s.h⟩ (a.put o.dst u).tmps→K (a.put o.dst u) C'.w):wpOp P ops Q j K a C.w:=by
 have hw:Region.wanted o (yielded ops a.tmps)=true:=by unfold Region.wanted; rw [hg]
 unfold wpOp;simp only [hj];rw [hw,if_pos rfl];left;refine hop K Q fun C' φ' u st hx k=>hK C' φ' u ⟨st,k.mono fun _ h=>h.elim⟩ ⟨st.hr,st.bd,fun n w hn=>?_⟩
 simp only [Env.get] at hn;rw [hd,H5 (jd hdN hN)]
 by_cases hdn:d=n
 ·subst hdn
  simp only [if_true,a5] at hn;subst hn;refine ⟨u,if_pos rfl,?_⟩;rcases hx with hx | hx
  ·rw [hd] at hx; cases hx
  ·exact hx
 ·rw [if_neg hdn] at hn
  rw [if_neg (gk hdn)];obtain ⟨u0,h1,h2⟩:=hs.env n w hn;exact ⟨u0,h1,k w u0 (fun _ _ h=>h.elim) h2⟩
theorem Vh {C:Cx} {φ:Loc} {s:St} {a:Act} {o:Oper} (hs:SR C φ s a.tmps) {x:Arg} {x' y':Operand} {t yt e:TypeId} (ho:o.op=.binOp .eql t x' y' yt) (hx:bw C.num x x'=true) (ht:P.underlying t=some (.slice e)) (hy:a.eval y'=.slice none 0 0)
 {sh:Sh} {cs:List D} (hv:s.e.arg x=some (.d (.sl sh cs))):∃b,OpGood P o a C φ s.h (.d (.bool b)) s.h (fun _=>False):=by
 obtain ⟨ad,c,e1,_,_⟩:=Ep (b7 hs hx hv);refine ⟨decide (ad=none),bc hs (u:=.bool (decide (ad=none))) ?_ (fm ..)⟩
 have hq:(Go.Op.equal t (.slice ad cs.length c) (.slice none 0 0)).run P C.w=.ok (decide (ad=none)) C.w:=by
  show (Go.Op.equalIn (9999+1) t (.slice ad cs.length c) (.slice none 0 0)).run P C.w=.ok (decide (ad=none)) C.w;generalize 9999=d;cases ad <;> simp [Go.Op.equalIn,Sem.run_bind,run_underlying ht,Result.andThen_ok,Sem.run_pure]
 have hb:binOp .eql t (.slice ad cs.length c) (.slice none 0 0)=(do pure (.bool (←Go.Op.equal t (.slice ad cs.length c) (.slice none 0 0)))):=rfl;simp [execOp,ho,e1,hy,eqGuard,hb,hq]
theorem Qu {x:Arg} {o:Oper} (h:Qp P num (.nilq false x) o=true):∃t x' y' yt e,o.op=.binOp .eql t x' y' yt∧bw num x x'=true∧jy y'=true∧P.underlying t=some (.slice e):=by
 cases hq:o.op with
 | binOp op t x' y' yt=>
  simp only [Qp,hq,ab,decide_eq_true_eq] at h;obtain ⟨⟨⟨h3,h4⟩,h5⟩,h6⟩:=h
  split at h6
  ·rename_i e he
   exact ⟨t,x',y',yt,e,by rw [h3]; rfl,h4,h5,he⟩
  ·cases h6
 | _=>simp only [Qp,hq,ak] at h
def H9 (s:Sh) (z:D) (bytes:Nat):Cd:=
 .seq (.region [⟨some 2,.nilOwn 0 s,none,[]⟩] [0])
 (.seq (.seq (.region [⟨some 3,.mv (.t 0),none,[]⟩,
  ⟨some 4,.nilq false (.t 3),none,[]⟩] [0,4])
  (.cond (.t 4)
   (.seq (.region [⟨some 2,.nilOwn 2 s,none,[]⟩] [2])
    (.ret))
   (.skip)))
  (.seq (.region [⟨some 5,.buildSl false 2 s z 0 [],none,[]⟩,
   ⟨some 6,.mv (.t 0),none,[]⟩,
   ⟨some 7,.append s 3 bytes (.t 5) (.t 6),none,[]⟩,
   ⟨some 2,.mv (.t 7),none,[]⟩] [2])
   (.ret)))
def rc (s:Sh) (z:D) (bytes:Nat):Fn:={ nparams:=1,nblk:=4,results:=[.tmp 2],body:=H9 s z bytes }
def nk:Code→Bool
 | .seq _ (.seq (.seq (.region _ _ false) _) _)=>true
 | _=>false
theorem xk {N:Nat} {a b:Cd} {x:Code} (h:fo P num N (.seq a b) x=true):∃y z,x=.seq y z∧fo P num N a y=true∧fo P num N b z=true:=by
 cases x <;> simp only [fo,ak,ab] at h
 exact ⟨_,_,rfl,h⟩
def sc (s:Sh):St:=⟨[(2,.sl 2 [] 0 0 none)],[.hole,.hole,.sl false s [],.hole]⟩
theorem Ok:ja P num (fun _ _ _=>none):=fun f vs bs ans h=>by cases h
theorem Jo {s:Sh} {z:D} {bytes N:Nat} (hm:P.follows .mixedOrders=true) {x:Code} (hok:fo P num N (H9 s z bytes) x=true) (hshape:nk x=true) (hbeq:Sh.beq s s=true)
 (C:Cx) (φ:Loc) (a:Act) (hC:C.num=num) (hs:SR C φ ⟨params 0 [.d (.sl s [])],[]++List.replicate 4 .hole⟩ a.tmps) (hN:N≤a.tmps.size)
 (Q:Exit→Act→World→Prop) (hQ:Xe num 0 Q .ret C φ ([]++List.replicate 4 .hole) (sc s) a):x.wp P Q a C.w:=by
 obtain ⟨x1,x2,rfl,ok1,ok2⟩:=xk hok;obtain ⟨x3,x4,rfl,ok3,ok4⟩:=xk ok2;obtain ⟨x5,x6,rfl,ok5,ok6⟩:=xk ok3;have nc:ja P num (fun _ _ _=>none):=Ok
 -- ahead
 refine wp_seq (pu (O:=fun _ _ _=>none) (np:=0) (N:=N) nc hm 1 _ _ ok1 C φ _ ⟨[(0,.d (.sl s []))],[.hole,.hole,.hole,.hole]⟩ a .normal hC hs hN rfl _ ?_)
 intro C1 φ1 a1 k1 r1 hs1 z1 d1;refine wp_seq (wp_seq ?_)
 -- the question
 cases x5 <;> simp only [fo,ak,ab] at ok5
 rename_i id ops draw
 cases draw with
 | true=>simp [nk] at hshape
 | false=>
 have hops:=ok5.1;obtain ⟨hl,hget⟩:=qa hops;have hl2:ops.size=2:=by simpa using hl.symm
 have g0:ops.toList[0]? = some ops[0]:=by simp [hl2]
 have g1:ops.toList[1]? = some ops[1]:=by simp [hl2]
 have i0:=hget 0 _ _ rfl g0;have i1:=hget 1 _ _ rfl g1;have N1:N≤a1.tmps.size:=by rw [z1]; exact hN
 refine wp_region ?_;rw [hl2];show wpOps P ops _ [0,1] a1 C1.w;rw [wpOps_cons];refine zn (O:=fun _ _ _=>none) (np:=0) (k1▸nc) hs1 N1 (k1▸i0) (by simp) (s':=⟨[(3,.d (.sl s [])),(0,.d (.sl s []))],[.hole,.hole,.hole,.hole]⟩) rfl fun C2 φ2 u2 rn2 hs2=>?_
 have k2:C2.num=num:=rn2.st.le.num.trans k1;rw [wpOps_cons];unfold Em at i1;simp only [ab,decide_eq_true_eq] at i1;obtain ⟨⟨⟨hdst,hdN⟩,hop⟩,hguard⟩:=i1;have hdst':ops[1].dst=some 4:=hdst.symm;have hdN':4<N:=by simpa [hdst'] using hdN
 have hg:ops[1].guard=none:=by
  cases hq:ops[1].guard with
  | none=>rfl
  | some q=>rw [hq] at hguard; simp at hguard
 have N2:N≤(a1.put ops[0].dst u2).tmps.size:=by rw [ol]; exact N1
 have key:∃b,OpGood P ops[1] (a1.put ops[0].dst u2) C2 φ2 [.hole,.hole,.hole,.hole] (.d (.bool b)) [.hole,.hole,.hole,.hole] (fun _=>False):=by
  obtain ⟨t,x',y',yt,e,h1,h2,h3,h4⟩:=Qu hop;refine Vh hs2 h1 (k2▸h2) h4 ?_ (x:=.t 3) (sh:=s) (cs:=[]) rfl;unfold jy at h3
  split at h3
  ·rfl
  ·cases h3
 obtain ⟨b,key⟩:=key;refine Mj (np:=0) hs2 N2 hdst' hdN' hg (by simp) key.wp fun C3 φ3 u3 rn3 hs3=>?_
 have k3:C3.num=num:=rn3.st.le.num.trans k2;show (Exit.then _ _) .normal _ _;obtain ⟨rn4,hs4⟩:=Cl 0 hs3 [0,4];have N4:N≤((a1.put ops[0].dst u2).put ops[1].dst u3).tmps.size:=by rw [ol]; exact N2
 have d4:((a1.put ops[0].dst u2).put ops[1].dst u3).defers=a.defers:=by
  rw [←d1];cases ops[0].dst <;> cases ops[1].dst <;> rfl
 have z4:((a1.put ops[0].dst u2).put ops[1].dst u3).tmps.size=a.tmps.size:=by rw [ol,ol,z1]
 have back:Runs 0 C C3 φ φ3 ([]++List.replicate 4 .hole) [.hole,.hole,.hole,.hole]:=(r1.trans (rn2.trans rn3)).trans rn4;generalize ((a1.put ops[0].dst u2).put ops[1].dst u3)=a3 at *;have hs5:SR C3 φ3 ⟨[(0,.d (.sl s [])),(4,.d (.bool b))],[.hole,.hole,.hole,.hole]⟩ a3.tmps:=hs4;cases b with
 | true=>
  have ev:ch (fun _ _ _=>none) 0 1 (.cond (.t 4) (.seq (.region [⟨some 2,.nilOwn 2 s,none,[]⟩] [2]) (.ret)) (.skip)) ⟨[(0,.d (.sl s [])),(4,.d (.bool true))],[.hole,.hole,.hole,.hole]⟩=some (.ret,⟨[(2,.sl 2 [] 0 0 (some 0))],[.hole,.hole,.sl false s [],.hole]⟩):=rfl
  refine pu (O:=fun _ _ _=>none) (np:=0) (N:=N) nc hm 1 _ _ ok6 C3 φ3 _ _ a3 .ret k3 hs5 N4 ev _ ?_
  intro C6 φ6 a6 k6 r6 hs6 z6 d6;refine hQ C6 φ6 a6 k6 (back.trans r6) ⟨hs6.hr,hs6.bd,fun n v hn=>?_⟩ (z6.trans z4) (d6.trans d4)
  simp only [sc,Env.get] at hn
  split at hn
  ·rename_i h2
   subst h2;obtain rfl:=ao hn;obtain ⟨u,h5,h6⟩:=hs6.env 2 (.sl 2 [] 0 0 (some 0)) rfl;refine ⟨u,h5,?_⟩;simp only [RX] at h6 ⊢;obtain ⟨B,base,sh,m,ad,c,e1,e2,e3,e4,e5,e6,e7⟩:=h6;exact ⟨B,base,sh,m,ad,c,e1,e2,e3,e4,e5,(fun k hk=>by cases hk),e7⟩
  ·cases hn
 | false=>
  have ev:ch (fun _ _ _=>none) 0 1 (.cond (.t 4) (.seq (.region [⟨some 2,.nilOwn 2 s,none,[]⟩] [2]) (.ret)) (.skip)) ⟨[(0,.d (.sl s [])),(4,.d (.bool false))],[.hole,.hole,.hole,.hole]⟩=some (.normal,⟨[(0,.d (.sl s [])),(4,.d (.bool false))],[.hole,.hole,.hole,.hole]⟩):=rfl
  refine pu (O:=fun _ _ _=>none) (np:=0) (N:=N) nc hm 1 _ _ ok6 C3 φ3 _ _ a3 .normal k3 hs5 N4 ev _ ?_
  intro C6 φ6 a6 k6 r6 hs6 z6 d6
  have ev2:ch (fun _ _ _=>none) 0 1 (.seq (.region [⟨some 5,.buildSl false 2 s z 0 [],none,[]⟩,⟨some 6,.mv (.t 0),none,[]⟩,⟨some 7,.append s 3 bytes (.t 5) (.t 6),none,[]⟩,⟨some 2,.mv (.t 7),none,[]⟩] [2]) (.ret)) ⟨[(0,.d (.sl s [])),(4,.d (.bool false))],[.hole,.hole,.hole,.hole]⟩=some (.ret,sc s):=by
   simp [ch,du,mu,jb,Ins.side,Ins.on,am,fl,m7,freezeIf,cq,ee,Env.arg,Env.get,Env.putO,Env.kill,Op.kill,toD,hbeq,Env.keep,og,Env.refd,V.refs,sc,Env.clear]
  refine pu (O:=fun _ _ _=>none) (np:=0) (N:=N) nc hm 1 _ _ ok4 C6 φ6 _ _ a6 .ret k6 hs6 (by rw [z6]; exact N4) ev2 _ ?_
  intro C7 φ7 a7 k7 r7 hs7 z7 d7;exact hQ C7 φ7 a7 k7 ((back.trans r6).trans r7) hs7 (z7.trans (z6.trans z4)) (d7.trans (d6.trans d4))
theorem L0 {s:Sh} {z:D} {bytes:Nat} (hm:P.follows .mixedOrders=true) {f:Nat} {g:Func} (hg:P.funcs[num f]? = some g) (hok:Al P num (rc s z bytes) g=true) (hshape:(match g.body with | some x=>nk x | none=>false)=true) (hbeq:Sh.beq s s=true)
 {cs:List D} (hl:cs.length*bytes≤1099511627776) {C:Cx} {φ:Loc} {us:List Value} (hC:C.num=num) (hr:HR C φ []) (hb:∀b,C.I b→b<C.w.heap.size) (hv:RXs C φ [] [.d (.sl s cs)] us) :
 Nr P (num f) us C φ [] [.sl false s cs] (.sl 0 [] 0 cs.length none):=by
 cases cs with
 | cons c cs=>
  have hl':(cs.length+1)*bytes≤1099511627776:=hl
  have hrun:run (fun _ _ _=>none) 1 (rc s z bytes) [.d (.sl s (c::cs))] []=some (.sl 0 [] 0 (c::cs).length none,[],[.sl false s (c::cs)]):=by
   simp [hl',run,rc,H9,ch,du,mu,jb,Ins.side,Ins.on,am,fl,m7,freezeIf,cq,ee,Env.arg,Env.get,Env.putO,Env.kill,Op.kill,toD,hbeq,Env.keep,og,Env.refd,V.refs,Env.clear,params,td,Mr,i9,oq,Heap.pick,V.ren,List.idxOf,List.findIdx,List.findIdx.go]
  exact (Do Ok hm hg hok hrun hC hr hb hv).2
 | nil=>
  unfold Al at hok;simp only [ab,bne_iff_ne,ne_eq,decide_eq_true_eq] at hok;obtain ⟨⟨⟨hname,hnp⟩,hres⟩,hbody⟩:=hok;cases hcode:g.body with
  | none=>rw [hcode] at hbody; cases hbody
  | some code=>
   rw [hcode] at hbody hshape;simp only at hbody hshape;refine (Rz (rc s z bytes) hg hname hnp hres hcode (vs:=[.d (.sl s [])]) (bs:=[]) (ans:=(.sl 0 [] 0 0 none,[],[.sl false s []])) .ret (sc s) rfl ?_ (fun C φ a hC hs hN Q hQ=>Jo hm hbody hshape hbeq C φ a hC hs hN Q hQ) hC hr hb hv).2
   simp [rc,sc,td,Mr,Env.get,i9,oq,V.refs,Heap.pick,V.ren,List.idxOf,List.findIdx,List.findIdx.go]
def yu (ids:Nat→Option (Sh×D×Nat)):ac:=fun f vs bs=>
 match ids f with
 | some (s,_,bytes)=>match vs with
  | [.d (.sl t cs)]=>match bs with
   | []=>if Sh.beq t s=true∧cs.length*bytes≤1099511627776 then some (.sl 0 [] 0 cs.length none,[],[.sl false t cs]) else none
   | _=>none
  | _=>none
 | none=>none
theorem Qo {ids:Nat→Option (Sh×D×Nat)} {f:Nat} {s:Sh} {z:D} {bytes:Nat} {cs:List D} (h1:ids f=some (s,z,bytes)) (h0:Sh.beq s s=true) (h2:cs.length*bytes≤1099511627776) :
 yu ids f [.d (.sl s cs)] []=some (.sl 0 [] 0 cs.length none,[],[.sl false s cs]):=by
 simp [yu,h1,h0,h2]
theorem Hr {ids:Nat→Option (Sh×D×Nat)} (hm:P.follows .mixedOrders=true)
 (hids:∀f s z bytes,ids f=some (s,z,bytes)→Sh.beq s s=true∧∃g,P.funcs[num f]? = some g∧Al P num (rc s z bytes) g=true∧(match g.body with | some x=>nk x | none=>false)=true):ja P num (yu ids):=by
 intro f vs bs ans h C φ us hC hr hb hv;unfold yu at h
 split at h
 ·rename_i s z bytes hi
  split at h
  ·rename_i t cs
   split at h
   ·split at h
    ·rename_i hc
     obtain rfl:=ao h;obtain ⟨hbeq,g,hg,hok,hshape⟩:=hids f s z bytes hi;obtain rfl:=Sh.beq_eq _ _ hc.1;exact ⟨rfl,L0 hm hg hok hshape hbeq hc.2 hC hr hb hv⟩
    ·cases h
   ·cases h
  ·cases h
 ·cases h
end Pe

/-
 Functions of the laws in the small form,printed by a program.
-/
namespace Pe
open Go
def Z1w_L0:Cd:=
 .seq (.seq (.region [Lw 5 4,
 Ll 6 (.bin .lss (.t 5) (Acx 64))] [1,2,3,4,6])
 (.cond (.t 6)
 (.skip)
 (.exit 0)))
 (.seq (.block 1 (.region [Lw 9 4,
 Lw 10 4,
 Ll 11 (.idxA (some 64) .leaf (.t 1) (.t 10)),
 Ilx 12 11,
 Ll 13 (.idxA (some 64) .leaf (.t 3) (.t 9)),
 Ls (.store false .leaf (.t 13) (.t 12))] [1,2,3,4]))
 (.region [Lw 7 4,
 Ll 8 (.bin .add (.t 7) (Acx 1)),
 Lw 4 8] [1,2,3,4]))
def Z1w_B:Cd:=
 .seq (.region [Ll 1 (.box false 0 (.t 0)),
 Ll 2 (.box false 1 (.c (.arr 64 .leaf z64)))] [1,2])
 (.seq (.region [Ll 3 (.box false 2 (.c (.arr 64 .leaf z64)))] [1,2,3])
 (.seq (.seq (.region [Ll 4 (.mv (Acx 0))] [1,2,3,4])
 (.block 0 (.loop (Z1w_L0))))
 (.seq (.region [Ipx 14 3,
 Ls (.store false Sx6 (.t 2) (.t 14))] [2])
 (.ret))))
def Z1w:Fn:=
 { nparams:=1,nblk:=3,results:=[.cell 2 Sx6],body:=Z1w_B }
end Pe

/-
 Functions of the laws in the small form,printed by a program.
-/
namespace Pe
open Go
def Z1t_L0:Cd:=
 .seq (.seq (.region [Lw 11 5,
 Lw 12 0,
 Ll 13 (.len false (.t 12)),
 Ll 14 (.bin .lss (.t 11) (.t 13))] [0,1,5,14])
 (.cond (.t 14)
 (.skip)
 (.exit 0)))
 (.seq (.block 1 (.seq (.region [Lw 17 0,
 Lw 18 5,
 Ll 19 (.idxA none .leaf (.t 17) (.t 18)),
 Ilx 20 19,
 Lw 21 1,
 Lw 22 5,
 Ll 23 (.idxA none .leaf (.t 21) (.t 22)),
 Ilx 24 23,
 Ll 25 (.bin .neq (.t 20) (.t 24))] [0,1,5,25])
 (.cond (.t 25)
 (.seq (.region [Ll 4 (.mv (.c (.bool false)))] [4])
 (.ret))
 (.skip))))
 (.region [Lw 15 5,
 Ll 16 (.bin .add (.t 15) (Acx 1)),
 Lw 5 16] [0,1,5]))
def Z1t_B:Cd:=
 .seq (.region [Ll 4 (.mv (.c (.bool false)))] [0,1])
 (.seq (.seq (.region [Lw 6 0,
 Ll 7 (.len false (.t 6)),
 Lw 8 1,
 Ll 9 (.len false (.t 8)),
 Ll 10 (.bin .neq (.t 7) (.t 9))] [0,1,10])
 (.cond (.t 10)
 (.seq (.region [Ll 4 (.mv (.c (.bool false)))] [4])
 (.ret))
 (.skip)))
 (.seq (.seq (.region [Ll 5 (.mv (Acx 0))] [0,1,5])
 (.block 0 (.loop (Z1t_L0))))
 (.seq (.region [Ll 4 (.mv (.c (.bool true)))] [4])
 (.ret))))
def Z1t:Fn:=
 { nparams:=2,nblk:=0,results:=[.tmp 4],body:=Z1t_B }
def Z1v_L0:Cd:=
 .seq (.seq (.region [Lw 6 5,
 Lw 7 0,
 Ll 8 (.len false (.t 7)),
 Ll 9 (.bin .lss (.t 6) (.t 8))] [0,1,5,9])
 (.cond (.t 9)
 (.skip)
 (.exit 0)))
 (.seq (.block 1 (.seq (.region [Lw 12 0,
 Lw 13 5,
 Lw 14 1,
 Ll 15 (.idxA none .leaf (.t 12) (.t 13)),
 Ls (.store false .leaf (.t 15) (.t 14))] [0,1,5])
 (.region [Lw 16 1,
 Ll 17 (.bin .add (.t 16) (Acx 1)),
 Lw 1 17] [0,1,5])))
 (.region [Lw 10 5,
 Ll 11 (.bin .add (.t 10) (Acx 1)),
 Lw 5 11] [0,1,5]))
def Z1v_B:Cd:=
 .seq (.region [Ll 4 (.mv (Acx 0))] [0,1])
 (.seq (.seq (.region [Ll 5 (.mv (Acx 0))] [0,1,5])
 (.block 0 (.loop (Z1v_L0))))
 (.seq (.region [Lw 18 1,
 Lw 4 18] [4])
 (.ret)))
def Z1v:Fn:=
 { nparams:=2,nblk:=0,results:=[.tmp 4],body:=Z1v_B }
def Z1u_L0:Cd:=
 .seq (.seq (.region [Lw 6 5,
 Lw 7 0,
 Ll 8 (.len false (.t 7)),
 Ll 9 (.bin .lss (.t 6) (.t 8))] [0,1,5,9])
 (.cond (.t 9)
 (.skip)
 (.exit 0)))
 (.seq (.block 1 (.seq (.seq (.region [Lw 12 0,
 Lw 13 5,
 Ll 14 (.idxA none .leaf (.t 12) (.t 13)),
 Ilx 15 14,
 Lw 16 1,
 Ll 17 (.bin .neq (.t 15) (.t 16))] [0,1,5,17])
 (.cond (.t 17)
 (.seq (.region [Ll 4 (.mv (Acx (-1)))] [4])
 (.ret))
 (.skip)))
 (.region [Lw 18 1,
 Ll 19 (.bin .add (.t 18) (Acx 1)),
 Lw 1 19] [0,1,5])))
 (.region [Lw 10 5,
 Ll 11 (.bin .add (.t 10) (Acx 1)),
 Lw 5 11] [0,1,5]))
def Z1u_B:Cd:=
 .seq (.region [Ll 4 (.mv (Acx 0))] [0,1])
 (.seq (.seq (.region [Ll 5 (.mv (Acx 0))] [0,1,5])
 (.block 0 (.loop (Z1u_L0))))
 (.seq (.region [Lw 20 1,
 Lw 4 20] [4])
 (.ret)))
def Z1u:Fn:=
 { nparams:=2,nblk:=0,results:=[.tmp 4],body:=Z1u_B }
end Pe

/-
 Functions of the laws in the small form,printed by a program.
-/
namespace Pe
open Go
def Z1s_B:Cd:=
 .seq (.region [Ll 3 (.box false 0 (.t 1)),
 Ll 4 (.mv (.c (.bool false)))] [0,3])
 (.seq (.region [Lw 14 0,
 Ipx 15 3,
 Ll 16 (Ofx F1w [(.t 15)]),
 Ll 17 (Opx F2n [(.t 14),(.t 16)]),
 Lw 13 17,
 Iex 18 13 0,
 Iex 19 13 1,
 Lw 5 18,
 Lw 6 19] [0,3,5,6])
 (.seq (.region [Lw 21 0,
 Ipx 22 3,
 Ll 23 (Ofx F1w [(.t 22)]),
 Ll 24 (.call .heap [1] (.f F7) [(.t 21),(.t 23)]),
 Lw 20 24,
 Iex 25 20 0,
 Iex 26 20 1,
 Lw 7 25,
 Lw 8 26] [0,3,5,6,7,8])
 (.seq (.seq (.region [Lw 27 7,
 Lw 28 5,
 Ll 29 (Ofx F1t [(.t 27),(.t 28)]),
 Ll 30 (.un .not (.t 29)),
 Lw 31 30,
 Lx 32 8 31 false,
 Lx 33 6 31 false,
 Lg 34 (.bin .neq (.t 32) (.t 33)) 31 false,
 Ll 35 (.pick (.t 31) (.c (.bool true)) (.t 34))] [0,3,5,6,7,35])
 (.cond (.t 35)
 (.seq (.region [Ll 4 (.mv (.c (.bool false)))] [4])
 (.ret))
 (.skip)))
 (.seq (.region [Ll 9 (.mv (Acx 1))] [0,3,5,6,7,9])
 (.seq (.region [Lw 36 7,
 Lw 37 9,
 Ll 38 (.call .heap [] (.f F1v) [(.t 36),(.t 37)]),
 Lw 9 38] [0,3,5,6,7,9])
 (.seq (.region [Ll 10 (.mv (Acx 1))] [0,3,5,6,7,9,10])
 (.seq (.region [Lw 39 7,
 Lw 40 10,
 Ll 41 (Ofx F1u [(.t 39),(.t 40)]),
 Lw 10 41] [0,3,5,6,7,9,10])
 (.seq (.seq (.region [Lw 42 10,
 Ll 43 (.bin .lss (.t 42) (Acx 0))] [0,3,5,6,7,9,10,43])
 (.cond (.t 43)
 (.seq (.region [Ll 4 (.mv (.c (.bool false)))] [4])
 (.ret))
 (.skip)))
 (.seq (.seq (.region [Lw 44 10,
 Lw 45 9,
 Ll 46 (.bin .neq (.t 44) (.t 45))] [0,3,5,6,7,9,46])
 (.cond (.t 46)
 (.seq (.region [Ll 4 (.mv (.c (.bool false)))] [4])
 (.ret))
 (.skip)))
 (.seq (.region [Lw 48 0,
 Ipx 49 3,
 Ll 50 (Ofx F1w [(.t 49)]),
 Ll 51 (Opx F6 [(.t 48),(.t 50)]),
 Lw 47 51,
 Iex 52 47 0,
 Iex 53 47 1,
 Lw 11 52,
 Lw 12 53] [5,6,7,9,11,12])
 (.seq (.seq (.region [Lw 54 11,
 Lw 55 5,
 Ll 56 (Ofx F1t [(.t 54),(.t 55)]),
 Ll 57 (.un .not (.t 56)),
 Lw 58 57,
 Lx 59 12 58 false,
 Lx 60 6 58 false,
 Lg 61 (.bin .neq (.t 59) (.t 60)) 58 false,
 Ll 62 (.pick (.t 58) (.c (.bool true)) (.t 61))] [7,9,62])
 (.cond (.t 62)
 (.seq (.region [Ll 4 (.mv (.c (.bool false)))] [4])
 (.ret))
 (.skip)))
 (.seq (.region [Ll 10 (.mv (Acx 1))] [7,9,10])
 (.seq (.region [Lw 63 7,
 Lw 64 10,
 Ll 65 (Ofx F1u [(.t 63),(.t 64)]),
 Lw 10 65] [9,10])
 (.seq (.seq (.region [Lw 66 10,
 Ll 67 (.bin .lss (.t 66) (Acx 0))] [9,10,67])
 (.cond (.t 67)
 (.seq (.region [Ll 4 (.mv (.c (.bool false)))] [4])
 (.ret))
 (.skip)))
 (.seq (.seq (.region [Lw 68 10,
 Lw 69 9,
 Ll 70 (.bin .neq (.t 68) (.t 69))] [70])
 (.cond (.t 70)
 (.seq (.region [Ll 4 (.mv (.c (.bool false)))] [4])
 (.ret))
 (.skip)))
 (.seq (.region [Ll 4 (.mv (.c (.bool true)))] [4])
 (.ret)))))))))))))))))
def Z1s:Fn:=
 { nparams:=2,nblk:=2,results:=[.tmp 4],body:=Z1s_B }
end Pe

/-
 Functions of the program in the small form,printed by a program.
-/
namespace Pe
open Go
def Zs_B:Cd:=
 .seq (.region [Ll 3 (.box false 0 (.t 0)),
 Ll 6 (.mv (.c (.sl .leaf [])))] [1,2,3])
 (.seq (.region [Ll 7 (.fldA [.leaf,.leaf] (.t 3) 0),
 Ilx 8 7,
 Ll 9 (.fldA [.leaf,.leaf] (.t 3) 0),
 Ilx 10 9,
 Lw 11 1,
 Lw 12 2,
 Ll 13 (Opx F1k [(.t 10),(.t 11),(.t 12)]),
 Ll 14 (.fldA [.leaf,.leaf] (.t 3) 1),
 Ilx 15 14,
 Ll 16 (Opx F1h [(.t 8),(.t 13),(.t 15)]),
 Lw 6 16] [6])
 (.ret))
def Zs:Fn:=
 { nparams:=3,nblk:=1,results:=[.tmp 6],body:=Zs_B }
end Pe

/-
 Functions of the program in the small form,printed by a program.
-/
namespace Pe
open Go
def Z9_B:Cd:=
 .seq (.region [Ll 3 (.box false 0 (.t 1)),
 Ll 4 (.mv (.c (.bool false)))] [0,3])
 (.seq (.region [Ipx 8 3,
 Ll 9 (Opx F1m [(.t 8)]),
 Lw 5 9] [0,3,5])
 (.seq (.seq (.region [Lw 10 0,
 Ipx 11 3,
 Ll 12 (Ofx Fb [(.t 10),(.t 11)]),
 Ll 13 (.un .not (.t 12)),
 Lw 14 13,
 Lx 15 0 14 false,
 Lg 16 (.bin .eql (.t 15) (Acx 2)) 14 false,
 Ll 17 (.pick (.t 14) (.c (.bool true)) (.t 16)),
 Lw 18 17,
 Lx 19 5 18 false,
 Lg 20 (Ofx F1o [(.t 19)]) 18 false,
 Lg 21 (.bin .neq (.t 20) (Acx 1)) 18 false,
 Lx 22 21 18 false,
 Lx 23 5 22 true,
 Lg 24 (Ofx F1o [(.t 23)]) 22 true,
 Lg 25 (.bin .neq (.t 24) (Acx 3)) 22 true,
 Lg 26 (.pick (.t 22) (.t 25) (.c (.bool false))) 18 false,
 Lx 27 26 18 false,
 Lx 28 5 27 true,
 Lg 29 (Ofx F1o [(.t 28)]) 27 true,
 Lg 30 (.bin .neq (.t 29) (Acx 5)) 27 true,
 Lg 31 (.pick (.t 27) (.t 30) (.c (.bool false))) 18 false,
 Ll 32 (.pick (.t 18) (.c (.bool true)) (.t 31))] [0,3,5,32])
 (.cond (.t 32)
 (.seq (.region [Ll 4 (.mv (.c (.bool false)))] [4])
 (.ret))
 (.skip)))
 (.seq (.region [Lw 34 0,
 Ipx 35 3,
 Ll 36 (Ofx F8 [(.t 34),(.t 35)]),
 Lw 33 36,
 Iex 37 33 0,
 Iex 38 33 1,
 Ll 6 (.box false 1 (.c (.arr 64 .leaf z64))),
 Ls (.store false Sx6 (.t 6) (.t 37)),
 Lw 7 38] [0,5,6])
 (.seq (.region [Lw 39 0,
 Lw 40 5,
 Ipx 41 6,
 Ll 42 (Opx F1m [(.t 41)]),
 Ll 43 (Opx F19 [(.t 39),(.t 40),(.t 42)]),
 Ll 44 (Ofx Fx [(.t 43)]),
 Lw 4 44] [4])
 (.ret)))))
def Z9:Fn:=
 { nparams:=2,nblk:=2,results:=[.tmp 4],body:=Z9_B }
def Zk_B:Cd:=
 .seq (.region [Ll 3 (.box false 0 (.t 1)),
 Ll 4 (.box false 1 (.c (.st [.leaf,.leaf] [(.int .i64 0),(.sl .leaf [])])))] [0,3,4])
 (.seq (.region [Lw 5 0,
 Ipx 6 3,
 Ll 7 (Opx F1m [(.t 6)]),
 Ll 8 (.build false (.st [.leaf,.leaf] [(.int .i64 0),(.sl .leaf [])]) [(0,(.t 5)),(1,(.t 7))]),
 Ls (.store false (.st [.leaf,.leaf]) (.t 4) (.t 8))] [4])
 (.ret))
def Zk:Fn:=
 { nparams:=2,nblk:=2,results:=[.cell 4 (.st [.leaf,.leaf])],body:=Zk_B }
def Zm_B:Cd:=
 .seq (.region [Ll 1 (.box false 0 (.t 0)),
 Ll 2 (.mv (Acx 0))] [1])
 (.seq (.region [Ll 3 (.fldA [.leaf,.leaf] (.t 1) 1),
 Ilx 4 3,
 Ll 5 (Ofx F1o [(.t 4)]),
 Ll 6 (.bin .sub (.t 5) (Acx 1)),
 Ll 7 (.bin .quo (.t 6) (Acx 2)),
 Lw 2 7] [2])
 (.ret))
def Zm:Fn:=
 { nparams:=1,nblk:=1,results:=[.tmp 2],body:=Zm_B }
def Zt_B:Cd:=
 .seq (.region [Ll 5 (.box false 0 (.t 0)),
 Ll 6 (.box false 1 (.t 1)),
 Ll 10 (.mv (Acx 0))] [2,3,4,5,6])
 (.seq (.block 0 (.seq (.region [Ilx 12 5,
 Ipx 13 6,
 Ll 14 (Ofx F9 [(.t 12),(.t 13)]),
 Ll 15 (.un .not (.t 14)),
 Lw 16 15,
 Lx 17 4 16 false,
 Lg 18 (.mkFn Fu [] [(.t 5),(.t 6)]) 16 false,
 Lg 19 (Ofx Ff [(.t 17),(.t 18)]) 16 false,
 Lg 20 (.un .not (.t 19)) 16 false,
 Ll 21 (.pick (.t 16) (.c (.bool true)) (.t 20)),
 Lw 11 21] [2,3,4,5,6,11])
 (.cond (.t 11)
 (.seq (.region [Ll 10 (.mv (Acx 1))] [10])
 (.ret))
 (.seq (.region [Lw 23 2,
 Ll 24 (.un .not (.t 23)),
 Lw 22 24] [3,4,5,6,22])
 (.cond (.t 22)
 (.seq (.region [Ll 10 (.mv (Acx 2))] [10])
 (.ret))
 (.seq (.region [Lw 26 3,
 Lw 27 26,
 Lx 28 4 27 true,
 Lg 29 (.mkFn Fv [] [(.t 5),(.t 6)]) 27 true,
 Lg 30 (Ofx Ff [(.t 28),(.t 29)]) 27 true,
 Lg 31 (.un .not (.t 30)) 27 true,
 Ll 32 (.pick (.t 27) (.t 31) (.c (.bool false))),
 Lw 25 32] [25])
 (.cond (.t 25)
 (.seq (.region [Ll 10 (.mv (Acx 5))] [10])
 (.ret))
 (.skip))))))))
 (.seq (.region [Ll 10 (.mv (Acx 0))] [10])
 (.ret)))
def Zt:Fn:=
 { nparams:=5,nblk:=2,results:=[.tmp 10],body:=Zt_B }
def Zr_L0:Cd:=
 .seq (.region [Ll 27 (.bin .lss (.t 26) (.t 25))] [2,5,6,7,25,26,27])
 (.seq (.cond (.t 27)
 (.skip)
 (.exit 0))
 (.seq (.block 1 (.seq (.region [Lw 28 26,
 Lw 8 28] [2,5,6,7,8,25,26])
 (.seq (.region [Ll 29 (.fldA [.leaf,.leaf] (.t 2) 0),
 Ilx 30 29,
 Lw 31 8,
 Ll 32 (Opx F1e [(.t 30),(.t 31)]),
 Lw 9 32] [2,5,6,7,9,25,26])
 (.region [Lw 33 7,
 Ll 34 (.load (.st [.leaf,.leaf]) (.t 5)),
 Lw 35 9,
 Lw 36 9,
 Ll 37 (Opx Fs [(.t 34),(.t 35),(.t 36)]),
 Ll 38 (Ofx F1q [(.t 37)]),
 Ll 39 (.mapGet (.t 33) (.t 38)),
 Ll 40 (.bin .add (.t 39) (Acx 1)),
 Ls (.mapSet (.t 33) (.t 38) (.t 40))] [2,5,6,7,25,26]))))
 (.region [Ll 41 (.bin .add (.t 26) (Acx 1)),
 Lw 26 41] [2,5,6,7,25,26])))
def Zr_L1:Cd:=
 .seq (.seq (.region [Lw 54 14,
 Ll 55 (.bin .geq (.t 54) (Acx 0))] [2,5,7,10,12,13,14,42,43,55])
 (.cond (.t 55)
 (.skip)
 (.exit 4)))
 (.seq (.block 5 (.region [Ll 58 (.fldA [.leaf,.leaf] (.t 2) 0),
 Ilx 59 58,
 Ll 60 (.load (.st [.leaf,.leaf]) (.t 5)),
 Lw 61 13,
 Lw 62 12,
 Ll 63 (Opx Fs [(.t 60),(.t 61),(.t 62)]),
 Ll 64 (.fldA [.leaf,.leaf] (.t 2) 1),
 Ilx 65 64,
 Lw 66 14,
 Ll 67 (.idxA none .leaf (.t 65) (.t 66)),
 Ilx 68 67,
 Ll 69 (.buildSl false 3 .leaf (.int .i64 0) 1 [(0,(.t 68))]),
 ⟨some 70,.call .data [] (.f F1r) [(.t 69)],none,[2,58]⟩,
 Ll 71 (Opx F15 [(.t 59),(.t 63),(.t 70),(Acx 1)]),
 Lw 13 71] [2,5,7,10,12,13,14,42,43]))
 (.region [Lw 56 14,
 Ll 57 (.bin .sub (.t 56) (Acx 1)),
 Lw 14 57] [2,5,7,10,12,13,14,42,43]))
def Zr_L2:Cd:=
 .seq (.region [Ll 44 (.bin .lss (.t 43) (.t 42))] [2,5,7,10,42,43,44])
 (.seq (.cond (.t 44)
 (.skip)
 (.exit 2))
 (.seq (.block 3 (.seq (.region [Lw 45 43,
 Lw 11 45] [2,5,7,10,11,42,43])
 (.seq (.region [Ll 46 (.fldA [.leaf,.leaf] (.t 2) 0),
 Ilx 47 46,
 Lw 48 11,
 Ll 49 (Opx F1e [(.t 47),(.t 48)]),
 Lw 12 49] [2,5,7,10,12,42,43])
 (.seq (.region [Ll 13 (.mv (.c (.sl .leaf [])))] [2,5,7,10,12,13,42,43])
 (.seq (.seq (.region [Ll 50 (.fldA [.leaf,.leaf] (.t 2) 1),
 Ilx 51 50,
 Ll 52 (.len false (.t 51)),
 Ll 53 (.bin .sub (.t 52) (Acx 1)),
 Lw 14 53] [2,5,7,10,12,13,14,42,43])
 (.block 4 (.loop (Zr_L1))))
 (.region [Lw 72 10,
 Lw 73 7,
 Lw 74 13,
 Ll 75 (Ofx F1q [(.t 74)]),
 Ll 76 (.mapGet (.t 73) (.t 75)),
 Ll 77 (.bin .add (.t 72) (.t 76)),
 Lw 10 77] [2,5,7,10,42,43]))))))
 (.region [Ll 78 (.bin .add (.t 43) (Acx 1)),
 Lw 43 78] [2,5,7,10,42,43])))
def Zr_B:Cd:=
 .seq (.region [Ll 2 (.box false 0 (.t 0)),
 Ll 4 (.mv (Acx 0))] [1,2])
 (.seq (.region [Ll 15 (.fldA [.leaf,.leaf] (.t 2) 0),
 Ilx 16 15,
 Lw 17 1,
 Ll 18 (.build false (.st [.leaf,.leaf] [(.int .i64 0),(.sl .leaf [])]) [(0,(.t 16)),(1,(.t 17))]),
 Ll 5 (.box false 1 (.c (.st [.leaf,.leaf] [(.int .i64 0),(.sl .leaf [])]))),
 Ls (.store false (.st [.leaf,.leaf]) (.t 5) (.t 18))] [1,2,5])
 (.seq (.region [Ll 19 (.fldA [.leaf,.leaf] (.t 2) 0),
 Ilx 20 19,
 Lw 21 1,
 Ll 22 (Ofx F1o [(.t 21)]),
 Ll 23 (Ofx F1d [(.t 20),(.t 22),(Acx 1099511627776)]),
 Lw 6 23] [2,5,6])
 (.seq (.region [Ll 24 (.mkMap 2),
 Lw 7 24] [2,5,6,7])
 (.seq (.seq (.region [Lw 25 6,
 Ll 26 (.mv (Acx 0))] [2,5,6,7,25,26])
 (.block 0 (.loop (Zr_L0))))
 (.seq (.region [Ll 10 (.mv (Acx 1))] [2,5,6,7,10])
 (.seq (.seq (.region [Lw 42 6,
 Ll 43 (.mv (Acx 0))] [2,5,7,10,42,43])
 (.block 2 (.loop (Zr_L2))))
 (.seq (.region [Lw 79 10,
 Lw 4 79] [4])
 (.ret))))))))
def Zr:Fn:=
 { nparams:=2,nblk:=4,results:=[.tmp 4],body:=Zr_B }
def Zl_L0:Cd:=
 .seq (.region [Ll 12 (.bin .lss (.t 11) (.t 10))] [1,4,9,10,11,12])
 (.seq (.cond (.t 12)
 (.skip)
 (.exit 0))
 (.seq (.block 1 (.seq (.region [Ll 13 (.idxA none .leaf (.t 9) (.t 11)),
 Ilx 14 13,
 Lw 6 14] [1,4,6,9,10,11])
 (.seq (.region [Ll 15 (.fldA [.leaf,.leaf] (.t 1) 0),
 Ilx 16 15,
 Lw 17 6,
 Ll 18 (Ofx F1b [(.t 16),(.t 17)])] [1,4,6,9,10,11,18])
 (.cond (.t 18)
 (.seq (.region [Lw 19 6,
 Lw 4 19] [1,4])
 (.exit 0))
 (.skip)))))
 (.region [Ll 20 (.bin .add (.t 11) (Acx 1)),
 Lw 11 20] [1,4,9,10,11])))
def Zl_B:Cd:=
 .seq (.region [Ll 1 (.box false 0 (.t 0)),
 Ll 2 (.mv (Acx 0)),
 Ll 3 (.mv (Acx 0))] [1])
 (.seq (.region [Ll 4 (.mv (.c (.sl .leaf [])))] [1,4])
 (.seq (.seq (.region [Ll 7 (.fldA [.leaf,.leaf] (.t 1) 0),
 Ilx 8 7,
 Ll 9 (Opx F1c [(.t 8),(Acx 2)]),
 Ll 10 (.len false (.t 9)),
 Ll 11 (.mv (Acx 0))] [1,4,9,10,11])
 (.block 0 (.loop (Zl_L0))))
 (.seq (.region [Ll 21 (.load (.st [.leaf,.leaf]) (.t 1)),
 Ll 22 (Opx F11 []),
 Ll 23 (Ofx Fr [(.t 21),(.t 22)]),
 Ll 24 (.load (.st [.leaf,.leaf]) (.t 1)),
 Lw 25 4,
 Ll 26 (Ofx Fr [(.t 24),(.t 25)]),
 Lw 2 23,
 Lw 3 26] [2,3])
 (.ret))))
def Zl:Fn:=
 { nparams:=1,nblk:=1,results:=[.tmp 2,.tmp 3],body:=Zl_B }
def Z6_B:Cd:=
 .seq (.region [Ll 3 (.box false 0 (.t 1)),
 Ll 4 (.mv (.c (.sl .leaf []))),
 Ll 5 (.mv (Acx 0))] [0,3])
 (.seq (.seq (.region [Lw 12 0,
 Ipx 13 3,
 Ll 14 (Ofx Ft [(.t 12),(.t 13),(.c (.bool true)),(.c (.bool false)),(.c (.sl (.st [Sx6,Sx6]) []))]),
 Lw 6 14] [0,3,6])
 (.seq (.region [Lw 15 6,
 Ll 16 (.bin .neq (.t 15) (Acx 0))] [0,3,6,16])
 (.cond (.t 16)
 (.seq (.region [Lw 17 6,
 Ll 4 (.mv (.c (.sl .leaf []))),
 Lw 5 17] [4,5])
 (.ret))
 (.skip))))
 (.seq (.region [Lw 18 0,
 Ipx 19 3,
 Ll 20 (Opx Fk [(.t 18),(.t 19)]),
 Ll 7 (.box false 1 (.c (.st [.leaf,.leaf] [(.int .i64 0),(.sl .leaf [])]))),
 Ls (.store false (.st [.leaf,.leaf]) (.t 7) (.t 20))] [0,7])
 (.seq (.region [Ll 22 (.load (.st [.leaf,.leaf]) (.t 7)),
 Ll 23 (Ofx Fl [(.t 22)]),
 Lw 21 23,
 Iex 24 21 0,
 Iex 25 21 1,
 Lw 8 24,
 Lw 9 25] [0,7,8,9])
 (.seq (.region [Lw 26 8,
 Lw 27 0,
 Ll 28 (.bin .sub (.t 26) (.t 27)),
 Ll 29 (.bin .sub (.t 28) (Acx 1)),
 Lw 30 9,
 Lw 31 0,
 Lw 32 0,
 Ll 33 (.bin .mul (.t 31) (.t 32)),
 Ll 34 (.bin .sub (.t 30) (.t 33)),
 Ll 35 (.bin .sub (.t 34) (Acx 1)),
 Lw 10 29,
 Lw 11 35] [0,7,10,11])
 (.seq (.seq (.region [Ll 36 (.load (.st [.leaf,.leaf]) (.t 7)),
 Ll 37 (Ofx Fm [(.t 36)])] [0,10,11,37])
 (.block 0 (.seq (.region [Ll 39 (.bin .eql (.t 37) (Acx 0)),
 Lw 38 39] [0,10,11,37,38])
 (.cond (.t 38)
 (.seq (.region [Ll 40 (.buildSl false 2 .leaf (.int .i64 0) 1 [(0,(Acx 1))]),
 Lw 4 40,
 Ll 5 (.mv (Acx 0))] [4,5])
 (.ret))
 (.seq (.region [Ll 42 (.bin .eql (.t 37) (Acx 1)),
 Lw 41 42] [0,10,11,41])
 (.cond (.t 41)
 (.seq (.region [Lw 43 10,
 Lw 44 0,
 Ll 45 (.buildSl false 3 .leaf (.int .i64 0) 3 [(0,(Acx 1)),(1,(.t 43)),(2,(.t 44))]),
 Lw 4 45,
 Ll 5 (.mv (Acx 0))] [4,5])
 (.ret))
 (.skip)))))))
 (.seq (.region [Lw 46 10,
 Lw 47 11,
 Lw 48 10,
 Lw 49 10,
 Ll 50 (.bin .mul (.t 48) (.t 49)),
 Ll 51 (.bin .add (.t 47) (.t 50)),
 Ll 52 (.bin .quo (.t 51) (Acx 2)),
 Lw 53 0,
 Lw 54 10,
 Ll 55 (.bin .mul (.t 53) (.t 54)),
 Lw 56 0,
 Lw 57 0,
 Ll 58 (.bin .mul (.t 56) (.t 57)),
 Ll 59 (.buildSl false 4 .leaf (.int .i64 0) 5 [(0,(Acx 1)),(1,(.t 46)),(2,(.t 52)),(3,(.t 55)),(4,(.t 58))]),
 Lw 4 59,
 Ll 5 (.mv (Acx 0))] [4,5])
 (.ret)))))))
def Z6:Fn:=
 { nparams:=2,nblk:=5,results:=[.tmp 4,.tmp 5],body:=Z6_B }
def Z7_B:Cd:=
 .seq (.region [Ll 3 (.box false 0 (.t 1)),
 Ll 4 (.nilOwn 1 .leaf),
 Ll 5 (.mv (Acx 0))] [0,3])
 (.seq (.seq (.region [Lw 12 0,
 Ipx 13 3,
 Ll 14 (Ofx Ft [(.t 12),(.t 13),(.c (.bool true)),(.c (.bool false)),(.c (.sl (.st [Sx6,Sx6]) []))]),
 Lw 6 14] [0,3,6])
 (.seq (.region [Lw 15 6,
 Ll 16 (.bin .neq (.t 15) (Acx 0))] [0,3,6,16])
 (.cond (.t 16)
 (.seq (.region [Lw 17 6,
 Ll 4 (.nilOwn 2 .leaf),
 Lw 5 17] [4,5])
 (.ret))
 (.skip))))
 (.seq (.region [Lw 18 0,
 Ipx 19 3,
 Ll 20 (Opx Fk [(.t 18),(.t 19)]),
 Ll 7 (.box false 3 (.c (.st [.leaf,.leaf] [(.int .i64 0),(.sl .leaf [])]))),
 Ls (.store false (.st [.leaf,.leaf]) (.t 7) (.t 20))] [0,7])
 (.seq (.region [Ll 22 (.load (.st [.leaf,.leaf]) (.t 7)),
 Ll 23 (Ofx Fl [(.t 22)]),
 Lw 21 23,
 Iex 24 21 0,
 Iex 25 21 1,
 Lw 8 24,
 Lw 9 25] [0,7,8,9])
 (.seq (.region [Lw 26 8,
 Lw 27 0,
 Ll 28 (.bin .sub (.t 26) (.t 27)),
 Ll 29 (.bin .sub (.t 28) (Acx 1)),
 Lw 30 9,
 Lw 31 0,
 Lw 32 0,
 Ll 33 (.bin .mul (.t 31) (.t 32)),
 Ll 34 (.bin .sub (.t 30) (.t 33)),
 Ll 35 (.bin .sub (.t 34) (Acx 1)),
 Lw 10 29,
 Lw 11 35] [0,7,10,11])
 (.seq (.seq (.region [Ll 36 (.load (.st [.leaf,.leaf]) (.t 7)),
 Ll 37 (Ofx Fm [(.t 36)])] [0,10,11,37])
 (.block 0 (.seq (.region [Ll 39 (.bin .eql (.t 37) (Acx 0)),
 Lw 38 39] [0,10,11,37,38])
 (.cond (.t 38)
 (.seq (.region [Ll 40 (.buildSl false 4 .leaf (.int .i64 0) 1 [(0,(Acx 1))]),
 Lw 4 40,
 Ll 5 (.mv (Acx 0))] [4,5])
 (.ret))
 (.seq (.region [Ll 42 (.bin .eql (.t 37) (Acx 1)),
 Lw 41 42] [0,10,11,41])
 (.cond (.t 41)
 (.seq (.region [Lw 43 10,
 Lw 44 0,
 Ll 45 (.buildSl false 5 .leaf (.int .i64 0) 3 [(0,(Acx 1)),(1,(.t 43)),(2,(.t 44))]),
 Lw 4 45,
 Ll 5 (.mv (Acx 0))] [4,5])
 (.ret))
 (.skip)))))))
 (.seq (.region [Lw 46 10,
 Lw 47 11,
 Lw 48 10,
 Lw 49 10,
 Ll 50 (.bin .mul (.t 48) (.t 49)),
 Ll 51 (.bin .add (.t 47) (.t 50)),
 Ll 52 (.bin .quo (.t 51) (Acx 2)),
 Lw 53 0,
 Lw 54 10,
 Ll 55 (.bin .mul (.t 53) (.t 54)),
 Lw 56 0,
 Lw 57 0,
 Ll 58 (.bin .mul (.t 56) (.t 57)),
 Ll 59 (.buildSl false 6 .leaf (.int .i64 0) 5 [(0,(Acx 1)),(1,(.t 46)),(2,(.t 52)),(3,(.t 55)),(4,(.t 58))]),
 Lw 4 59,
 Ll 5 (.mv (Acx 0))] [4,5])
 (.ret)))))))
def Z7:Fn:=
 { nparams:=2,nblk:=7,results:=[.tmp 4,.tmp 5],body:=Z7_B }
end Pe

/-
 Functions of the program in the small form,printed by a program.
-/
namespace Pe
open Go
def Z2s_L0:Cd:=
 .seq (.seq (.region [Lw 4 3,
 Ll 5 (.bin .geq (.t 4) (Acx 0)),
 Lw 6 5,
 Lx 7 3 6 true,
 Lg 8 (.idxA (some 64) .leaf (.t 1) (.t 7)) 6 true,
 Lg 9 (.load .leaf (.t 8)) 6 true,
 Lg 10 (.bin .eql (.t 9) (.c (.int .u8 0))) 6 true,
 Ll 11 (.pick (.t 6) (.t 10) (.c (.bool false)))] [1,3,11])
 (.cond (.t 11)
 (.skip)
 (.exit 0)))
 (.block 1 (.region [Lw 12 3,
 Ll 13 (.bin .sub (.t 12) (Acx 1)),
 Lw 3 13] [1,3]))
def Z2s_B:Cd:=
 .seq (.region [Ll 1 (.box false 0 (.t 0)),
 Ll 2 (.mv (Acx 0))] [1])
 (.seq (.region [Ll 3 (.mv (Acx 63))] [1,3])
 (.seq (.block 0 (.loop (Z2s_L0)))
 (.seq (.region [Lw 14 3,
 Lw 2 14] [2])
 (.ret))))
def Z2s:Fn:=
 { nparams:=1,nblk:=1,results:=[.tmp 2],body:=Z2s_B }
def Z33_B:Cd:=
 .seq (.region [Ll 2 (.mv (.c (.bool false)))] [0])
 (.seq (.region [Lw 3 0,
 Ll 4 (.bin .eql (.t 3) (Acx 2)),
 Lw 5 4,
 Lx 6 0 5 false,
 Lg 7 (.bin .eql (.t 6) (Acx 3)) 5 false,
 Ll 8 (.pick (.t 5) (.c (.bool true)) (.t 7)),
 Lw 9 8,
 Lx 10 0 9 false,
 Lg 11 (.bin .eql (.t 10) (Acx 5)) 9 false,
 Ll 12 (.pick (.t 9) (.c (.bool true)) (.t 11)),
 Lw 13 12,
 Lx 14 0 13 false,
 Lg 15 (.bin .eql (.t 14) (Acx 7)) 13 false,
 Ll 16 (.pick (.t 13) (.c (.bool true)) (.t 15)),
 Lw 2 16] [2])
 (.ret))
def Z33:Fn:=
 { nparams:=1,nblk:=0,results:=[.tmp 2],body:=Z33_B }
def Z2x_L0:Cd:=
 .seq (.seq (.region [Lw 6 5,
 Ll 7 (.bin .lss (.t 6) (Acx 64))] [0,3,5,7])
 (.cond (.t 7)
 (.skip)
 (.exit 0)))
 (.seq (.block 1 (.seq (.region [Lw 10 5,
 Ll 11 (.idxA (some 64) .leaf (.t 3) (.t 10)),
 Ilx 12 11,
 Ll 13 (.conv .i64 (.t 12)),
 Lw 14 0,
 Ll 15 (.bin .geq (.t 13) (.t 14))] [0,3,5,15])
 (.cond (.t 15)
 (.seq (.region [Ll 4 (.mv (.c (.bool false)))] [4])
 (.ret))
 (.skip))))
 (.region [Lw 8 5,
 Ll 9 (.bin .add (.t 8) (Acx 1)),
 Lw 5 9] [0,3,5]))
def Z2x_B:Cd:=
 .seq (.region [Ll 3 (.box false 0 (.t 1)),
 Ll 4 (.mv (.c (.bool false)))] [0,3])
 (.seq (.seq (.region [Ll 5 (.mv (Acx 0))] [0,3,5])
 (.block 0 (.loop (Z2x_L0))))
 (.seq (.region [Lw 16 0,
 Ll 17 (Ofx F33 [(.t 16)]),
 Lw 4 17] [4])
 (.ret)))
def Z2x:Fn:=
 { nparams:=2,nblk:=1,results:=[.tmp 4],body:=Z2x_B }
def Z2r_L0:Cd:=
 .seq (.seq (.region [Lw 9 5,
 Lw 10 1,
 Ll 11 (.len false (.t 10)),
 Ll 12 (.bin .lss (.t 9) (.t 11))] [0,1,5,12])
 (.cond (.t 12)
 (.skip)
 (.exit 0)))
 (.seq (.block 1 (.seq (.region [Lw 15 0,
 Lw 16 1,
 Lw 17 5,
 Ll 18 (.idxA none Sx6 (.t 16) (.t 17)),
 Ipx 19 18,
 Ll 20 (Ofx F2x [(.t 15),(.t 19)]),
 Ll 21 (.un .not (.t 20))] [0,1,5,21])
 (.cond (.t 21)
 (.seq (.region [Ll 4 (.mv (Acx 1))] [4])
 (.ret))
 (.skip))))
 (.region [Lw 13 5,
 Ll 14 (.bin .add (.t 13) (Acx 1)),
 Lw 5 14] [0,1,5]))
def Z2r_B:Cd:=
 .seq (.region [Ll 4 (.mv (Acx 0))] [0,1])
 (.seq (.seq (.region [Lw 6 0,
 Ll 7 (Ofx F33 [(.t 6)]),
 Ll 8 (.un .not (.t 7))] [0,1,8])
 (.cond (.t 8)
 (.seq (.region [Ll 4 (.mv (Acx 1))] [4])
 (.ret))
 (.skip)))
 (.seq (.seq (.region [Ll 5 (.mv (Acx 0))] [0,1,5])
 (.block 0 (.loop (Z2r_L0))))
 (.seq (.region [Ll 4 (.mv (Acx 0))] [4])
 (.ret))))
def Z2r:Fn:=
 { nparams:=2,nblk:=0,results:=[.tmp 4],body:=Z2r_B }
def Z2v_L0:Cd:=
 .seq (.seq (.region [Lw 6 5,
 Lw 7 0,
 Ll 8 (.bin .lss (.t 6) (.t 7))] [0,1,5,8])
 (.cond (.t 8)
 (.skip)
 (.exit 0)))
 (.seq (.block 1 (.seq (.region [Lw 11 5,
 Lw 12 1,
 Ll 13 (.conv .i64 (.t 12)),
 Ll 14 (.bin .mul (.t 11) (.t 13)),
 Lw 15 0,
 Ll 16 (.bin .rem (.t 14) (.t 15)),
 Ll 17 (.bin .eql (.t 16) (Acx 1))] [0,1,5,17])
 (.cond (.t 17)
 (.seq (.region [Lw 18 5,
 Ll 19 (.conv .u8 (.t 18)),
 Lw 4 19] [4])
 (.ret))
 (.skip))))
 (.region [Lw 9 5,
 Ll 10 (.bin .add (.t 9) (Acx 1)),
 Lw 5 10] [0,1,5]))
def Z2v_B:Cd:=
 .seq (.region [Ll 4 (.mv (.c (.int .u8 0)))] [0,1])
 (.seq (.seq (.region [Ll 5 (.mv (Acx 1))] [0,1,5])
 (.block 0 (.loop (Z2v_L0))))
 (.seq (.region [Ll 4 (.mv (.c (.int .u8 0)))] [4])
 (.ret)))
def Z2v:Fn:=
 { nparams:=2,nblk:=0,results:=[.tmp 4],body:=Z2v_B }
def Z2t_L0:Cd:=
 .seq (.seq (.region [Lw 44 13,
 Lw 45 9,
 Ll 46 (.bin .leq (.t 44) (.t 45)),
 Lw 47 46,
 Lx 48 12 47 true,
 Lg 49 (.bin .neq (.t 48) (Acx 0)) 47 true,
 Ll 50 (.pick (.t 47) (.t 49) (.c (.bool false)))] [0,4,5,6,7,8,9,10,11,12,13,50])
 (.cond (.t 50)
 (.skip)
 (.exit 2)))
 (.seq (.block 3 (.region [Lw 53 11,
 Lw 54 9,
 Ll 55 (.bin .sub (.t 53) (.t 54)),
 Lw 56 13,
 Ll 57 (.bin .add (.t 55) (.t 56)),
 Lw 58 11,
 Lw 59 9,
 Ll 60 (.bin .sub (.t 58) (.t 59)),
 Lw 61 13,
 Ll 62 (.bin .add (.t 60) (.t 61)),
 Ll 63 (.idxA (some 64) .leaf (.t 4) (.t 62)),
 Ilx 64 63,
 Ll 65 (.conv .i64 (.t 64)),
 Lw 66 12,
 Lw 67 13,
 Ll 68 (.idxA (some 64) .leaf (.t 5) (.t 67)),
 Ilx 69 68,
 Ll 70 (.conv .i64 (.t 69)),
 Ll 71 (.bin .mul (.t 66) (.t 70)),
 Ll 72 (.bin .sub (.t 65) (.t 71)),
 Lw 73 0,
 Ll 74 (.bin .rem (.t 72) (.t 73)),
 Lw 75 0,
 Ll 76 (.bin .add (.t 74) (.t 75)),
 Lw 77 0,
 Ll 78 (.bin .rem (.t 76) (.t 77)),
 Ll 79 (.conv .u8 (.t 78)),
 Ll 80 (.idxA (some 64) .leaf (.t 4) (.t 57)),
 Ls (.store false .leaf (.t 80) (.t 79))] [0,4,5,6,7,8,9,10,11,12,13]))
 (.region [Lw 51 13,
 Ll 52 (.bin .add (.t 51) (Acx 1)),
 Lw 13 52] [0,4,5,6,7,8,9,10,11,12,13]))
def Z2t_L1:Cd:=
 .seq (.seq (.region [Lw 25 11,
 Lw 26 9,
 Ll 27 (.bin .geq (.t 25) (.t 26))] [0,4,5,6,7,8,9,10,11,27])
 (.cond (.t 27)
 (.skip)
 (.exit 0)))
 (.seq (.block 1 (.seq (.region [Lw 30 11,
 Ll 31 (.idxA (some 64) .leaf (.t 4) (.t 30)),
 Ilx 32 31,
 Ll 33 (.conv .i64 (.t 32)),
 Lw 34 10,
 Ll 35 (.bin .mul (.t 33) (.t 34)),
 Lw 36 0,
 Ll 37 (.bin .rem (.t 35) (.t 36)),
 Lw 12 37] [0,4,5,6,7,8,9,10,11,12])
 (.seq (.region [Lw 38 11,
 Lw 39 9,
 Ll 40 (.bin .sub (.t 38) (.t 39)),
 Lw 41 12,
 Ll 42 (.conv .u8 (.t 41)),
 Ll 43 (.idxA (some 64) .leaf (.t 8) (.t 40)),
 Ls (.store false .leaf (.t 43) (.t 42))] [0,4,5,6,7,8,9,10,11,12])
 (.seq (.region [Ll 13 (.mv (Acx 0))] [0,4,5,6,7,8,9,10,11,12,13])
 (.block 2 (.loop (Z2t_L0)))))))
 (.region [Lw 28 11,
 Ll 29 (.bin .sub (.t 28) (Acx 1)),
 Lw 11 29] [0,4,5,6,7,8,9,10,11]))
def Z2t_B:Cd:=
 .seq (.region [Ll 4 (.box false 0 (.t 1)),
 Ll 5 (.box false 1 (.t 2)),
 Ll 6 (.box false 2 (.c (.arr 64 .leaf z64))),
 Ll 7 (.box false 3 (.c (.arr 64 .leaf z64)))] [0,4,5,6,7])
 (.seq (.region [Ll 14 (.build false (.arr 64 .leaf z64) []),
 Ipx 15 5,
 Ll 16 (Ofx F2s [(.t 15)]),
 Ll 8 (.box false 4 (.c (.arr 64 .leaf z64))),
 Ls (.store false Sx6 (.t 8) (.t 14)),
 Lw 9 16] [0,4,5,6,7,8,9])
 (.seq (.region [Lw 17 0,
 Lw 18 9,
 Ll 19 (.idxA (some 64) .leaf (.t 5) (.t 18)),
 Ilx 20 19,
 Ll 21 (Ofx F2v [(.t 17),(.t 20)]),
 Ll 22 (.conv .i64 (.t 21)),
 Lw 10 22] [0,4,5,6,7,8,9,10])
 (.seq (.seq (.region [Ipx 23 4,
 Ll 24 (Ofx F2s [(.t 23)]),
 Lw 11 24] [0,4,5,6,7,8,9,10,11])
 (.block 0 (.loop (Z2t_L1))))
 (.seq (.region [Ipx 81 8,
 Ipx 82 4,
 ⟨none,.store false Sx6 (.t 6) (.t 81),none,[4]⟩,
 Ls (.store false Sx6 (.t 7) (.t 82))] [6,7])
 (.ret)))))
def Z2t:Fn:=
 { nparams:=3,nblk:=5,results:=[.cell 6 Sx6,.cell 7 Sx6],body:=Z2t_B }
def Z2y_B:Cd:=
 .seq (.region [Ll 4 (.box false 0 (.t 1)),
 Ll 5 (.box false 1 (.t 2)),
 Ll 6 (.box false 2 (.c (.arr 64 .leaf z64)))] [0,4,5,6])
 (.seq (.region [Lw 10 0,
 Ipx 11 4,
 Ipx 12 5,
 Ll 13 (Ofx F2t [(.t 10),(.t 11),(.t 12)]),
 Lw 9 13,
 Iex 14 9 0,
 Iex 15 9 1,
 Ll 7 (.box false 3 (.c (.arr 64 .leaf z64))),
 Ll 8 (.box false 4 (.c (.arr 64 .leaf z64))),
 Ls (.store false Sx6 (.t 7) (.t 14)),
 Ls (.store false Sx6 (.t 8) (.t 15))] [6,8])
 (.seq (.region [Ipx 16 8,
 Ls (.store false Sx6 (.t 6) (.t 16))] [6])
 (.ret)))
def Z2y:Fn:=
 { nparams:=3,nblk:=5,results:=[.cell 6 Sx6],body:=Z2y_B }
def Z31_B:Cd:=
 .seq (.region [Ll 0 (.box false 0 (.c (.arr 64 .leaf z64)))] [0])
 (.seq (.region [Ll 1 (.build false (.arr 64 .leaf z64) [(0,(.c (.int .u8 1)))]),
 Ls (.store false Sx6 (.t 0) (.t 1))] [0])
 (.ret))
def Z31:Fn:=
 { nparams:=0,nblk:=1,results:=[.cell 0 Sx6],body:=Z31_B }
def Z2p_L0:Cd:=
 .seq (.seq (.region [Lw 10 9,
 Ll 11 (.bin .lss (.t 10) (Acx 64))] [0,3,5,6,8,9,11])
 (.cond (.t 11)
 (.skip)
 (.exit 0)))
 (.seq (.block 1 (.region [Lw 14 9,
 Lw 15 9,
 Ll 16 (.idxA (some 64) .leaf (.t 5) (.t 15)),
 Ilx 17 16,
 Ll 18 (.conv .i64 (.t 17)),
 Lw 19 3,
 Lw 20 9,
 Ll 21 (.idxA (some 64) .leaf (.t 6) (.t 20)),
 Ilx 22 21,
 Ll 23 (.conv .i64 (.t 22)),
 Ll 24 (.bin .mul (.t 19) (.t 23)),
 Ll 25 (.bin .add (.t 18) (.t 24)),
 Lw 26 0,
 Ll 27 (.bin .rem (.t 25) (.t 26)),
 Lw 28 0,
 Ll 29 (.bin .add (.t 27) (.t 28)),
 Lw 30 0,
 Ll 31 (.bin .rem (.t 29) (.t 30)),
 Ll 32 (.conv .u8 (.t 31)),
 Ll 33 (.idxA (some 64) .leaf (.t 5) (.t 14)),
 Ls (.store false .leaf (.t 33) (.t 32))] [0,3,5,6,8,9]))
 (.region [Lw 12 9,
 Ll 13 (.bin .add (.t 12) (Acx 1)),
 Lw 9 13] [0,3,5,6,8,9]))
def Z2p_B:Cd:=
 .seq (.region [Ll 5 (.box false 0 (.t 1)),
 Ll 6 (.box false 1 (.t 2)),
 Ll 8 (.box false 2 (.c (.arr 64 .leaf z64)))] [0,3,5,6,8])
 (.seq (.seq (.region [Ll 9 (.mv (Acx 0))] [0,3,5,6,8,9])
 (.block 0 (.loop (Z2p_L0))))
 (.seq (.region [Ipx 34 5,
 Ls (.store false Sx6 (.t 8) (.t 34))] [8])
 (.ret)))
def Z2p:Fn:=
 { nparams:=4,nblk:=3,results:=[.cell 8 Sx6],body:=Z2p_B }
def Z36_L0:Cd:=
 .seq (.seq (.region [Lw 24 10,
 Lw 25 7,
 Ll 26 (.bin .lss (.t 24) (.t 25))] [0,4,5,6,7,8,9,10,26])
 (.cond (.t 26)
 (.skip)
 (.exit 0)))
 (.seq (.block 1 (.region [Lw 29 10,
 Lw 30 10,
 Ll 31 (.bin .sub (.t 30) (Acx 1)),
 Ll 32 (.idxA (some 64) .leaf (.t 4) (.t 31)),
 Ilx 33 32,
 Ll 34 (.idxA (some 64) .leaf (.t 9) (.t 29)),
 Ls (.store false .leaf (.t 34) (.t 33))] [0,4,5,6,7,8,9,10]))
 (.region [Lw 27 10,
 Ll 28 (.bin .add (.t 27) (Acx 1)),
 Lw 10 28] [0,4,5,6,7,8,9,10]))
def Z36_L1:Cd:=
 .seq (.seq (.region [Lw 45 12,
 Lw 46 7,
 Ll 47 (.bin .lss (.t 45) (.t 46))] [0,5,6,7,9,11,12,47])
 (.cond (.t 47)
 (.skip)
 (.exit 2)))
 (.seq (.block 3 (.region [Lw 50 12,
 Lw 51 12,
 Ll 52 (.idxA (some 64) .leaf (.t 9) (.t 51)),
 Ilx 53 52,
 Ll 54 (.conv .i64 (.t 53)),
 Lw 55 11,
 Lw 56 12,
 Ll 57 (.idxA (some 64) .leaf (.t 5) (.t 56)),
 Ilx 58 57,
 Ll 59 (.conv .i64 (.t 58)),
 Ll 60 (.bin .mul (.t 55) (.t 59)),
 Ll 61 (.bin .sub (.t 54) (.t 60)),
 Lw 62 0,
 Ll 63 (.bin .rem (.t 61) (.t 62)),
 Lw 64 0,
 Ll 65 (.bin .add (.t 63) (.t 64)),
 Lw 66 0,
 Ll 67 (.bin .rem (.t 65) (.t 66)),
 Ll 68 (.conv .u8 (.t 67)),
 Ll 69 (.idxA (some 64) .leaf (.t 9) (.t 50)),
 Ls (.store false .leaf (.t 69) (.t 68))] [0,5,6,7,9,11,12]))
 (.region [Lw 48 12,
 Ll 49 (.bin .add (.t 48) (Acx 1)),
 Lw 12 49] [0,5,6,7,9,11,12]))
def Z36_B:Cd:=
 .seq (.region [Ll 4 (.box false 0 (.t 1)),
 Ll 5 (.box false 1 (.t 2)),
 Ll 6 (.box false 2 (.c (.arr 64 .leaf z64)))] [0,4,5,6])
 (.seq (.region [Ipx 13 5,
 Ll 14 (Ofx F2s [(.t 13)]),
 Lw 7 14] [0,4,5,6,7])
 (.seq (.seq (.region [Lw 15 7,
 Ll 16 (.bin .eql (.t 15) (Acx 0))] [0,4,5,6,7,16])
 (.cond (.t 16)
 (.seq (.region [Ll 17 (.build false (.arr 64 .leaf z64) []),
 Ls (.store false Sx6 (.t 6) (.t 17))] [6])
 (.ret))
 (.skip)))
 (.seq (.region [Lw 18 7,
 Ll 19 (.bin .sub (.t 18) (Acx 1)),
 Ll 20 (.idxA (some 64) .leaf (.t 4) (.t 19)),
 Ilx 21 20,
 Ll 22 (.conv .i64 (.t 21)),
 Ll 23 (.build false (.arr 64 .leaf z64) []),
 Ll 9 (.box false 3 (.c (.arr 64 .leaf z64))),
 Lw 8 22,
 Ls (.store false Sx6 (.t 9) (.t 23))] [0,4,5,6,7,8,9])
 (.seq (.seq (.region [Ll 10 (.mv (Acx 1))] [0,4,5,6,7,8,9,10])
 (.block 0 (.loop (Z36_L0))))
 (.seq (.region [Lw 35 8,
 Lw 36 0,
 Lw 37 7,
 Ll 38 (.idxA (some 64) .leaf (.t 5) (.t 37)),
 Ilx 39 38,
 Ll 40 (Ofx F2v [(.t 36),(.t 39)]),
 Ll 41 (.conv .i64 (.t 40)),
 Ll 42 (.bin .mul (.t 35) (.t 41)),
 Lw 43 0,
 Ll 44 (.bin .rem (.t 42) (.t 43)),
 Lw 11 44] [0,5,6,7,9,11])
 (.seq (.seq (.region [Ll 12 (.mv (Acx 0))] [0,5,6,7,9,11,12])
 (.block 2 (.loop (Z36_L1))))
 (.seq (.region [Ipx 70 9,
 Ls (.store false Sx6 (.t 6) (.t 70))] [6])
 (.ret))))))))
def Z36:Fn:=
 { nparams:=3,nblk:=4,results:=[.cell 6 Sx6],body:=Z36_B }
def Z2z_L0:Cd:=
 .seq (.seq (.region [Lw 14 10,
 Ll 15 (.bin .geq (.t 14) (Acx 0))] [0,5,6,7,8,9,10,15])
 (.cond (.t 15)
 (.skip)
 (.exit 0)))
 (.seq (.block 1 (.seq (.region [Lw 18 0,
 Ipx 19 9,
 Ipx 20 7,
 Ll 21 (Ofx F36 [(.t 18),(.t 19),(.t 20)]),
 Ls (.store false Sx6 (.t 9) (.t 21))] [0,5,6,7,8,9,10])
 (.region [Lw 22 0,
 Lw 23 0,
 Ipx 24 9,
 Ipx 25 5,
 Lw 26 10,
 Ll 27 (.idxA (some 64) .leaf (.t 6) (.t 26)),
 Ilx 28 27,
 Ll 29 (.conv .i64 (.t 28)),
 Ll 30 (Ofx F2p [(.t 23),(.t 24),(.t 25),(.t 29)]),
 Ipx 31 7,
 Ll 32 (Ofx F2y [(.t 22),(.t 30),(.t 31)]),
 Ls (.store false Sx6 (.t 9) (.t 32))] [0,5,6,7,8,9,10])))
 (.region [Lw 16 10,
 Ll 17 (.bin .sub (.t 16) (Acx 1)),
 Lw 10 17] [0,5,6,7,8,9,10]))
def Z2z_B:Cd:=
 .seq (.region [Ll 5 (.box false 0 (.t 1)),
 Ll 6 (.box false 1 (.t 2)),
 Ll 7 (.box false 2 (.t 3)),
 Ll 8 (.box false 3 (.c (.arr 64 .leaf z64)))] [0,5,6,7,8])
 (.seq (.region [Ll 11 (.build false (.arr 64 .leaf z64) []),
 Ll 9 (.box false 4 (.c (.arr 64 .leaf z64))),
 Ls (.store false Sx6 (.t 9) (.t 11))] [0,5,6,7,8,9])
 (.seq (.seq (.region [Ipx 12 6,
 Ll 13 (Ofx F2s [(.t 12)]),
 Lw 10 13] [0,5,6,7,8,9,10])
 (.block 0 (.loop (Z2z_L0))))
 (.seq (.region [Ipx 33 9,
 Ls (.store false Sx6 (.t 8) (.t 33))] [8])
 (.ret))))
def Z2z:Fn:=
 { nparams:=4,nblk:=5,results:=[.cell 8 Sx6],body:=Z2z_B }
def Z32_L0:Cd:=
 .seq (.seq (.region [Lw 19 2,
 Ll 20 (.bin .gtr (.t 19) (Acx 0))] [0,2,7,8,9,10,20])
 (.cond (.t 20)
 (.skip)
 (.exit 0)))
 (.seq (.block 1 (.seq (.seq (.region [Lw 23 2,
 Ll 24 (.bin .rem (.t 23) (Acx 2)),
 Ll 25 (.bin .eql (.t 24) (Acx 1))] [0,2,7,8,9,10,25])
 (.cond (.t 25)
 (.region [Lw 26 0,
 Ipx 27 9,
 Ipx 28 10,
 Ipx 29 7,
 Ll 30 (Ofx F2z [(.t 26),(.t 27),(.t 28),(.t 29)]),
 Ls (.store false Sx6 (.t 9) (.t 30))] [0,2,7,8,9,10])
 (.skip)))
 (.region [Lw 31 0,
 Ipx 32 10,
 Ipx 33 10,
 Ipx 34 7,
 Ll 35 (Ofx F2z [(.t 31),(.t 32),(.t 33),(.t 34)]),
 Ls (.store false Sx6 (.t 10) (.t 35))] [0,2,7,8,9,10])))
 (.region [Lw 21 2,
 Ll 22 (.bin .quo (.t 21) (Acx 2)),
 Lw 2 22] [0,2,7,8,9,10]))
def Z32_B:Cd:=
 .seq (.region [Ll 5 (.box false 0 (.t 1)),
 Ll 7 (.box false 1 (.t 3)),
 Ll 8 (.box false 2 (.c (.arr 64 .leaf z64)))] [0,2,5,7,8])
 (.seq (.region [Lw 11 0,
 Ll 12 (Ofx F31 []),
 Ipx 13 7,
 Ll 14 (Ofx F2y [(.t 11),(.t 12),(.t 13)]),
 Lw 15 0,
 Ipx 16 5,
 Ipx 17 7,
 Ll 18 (Ofx F2y [(.t 15),(.t 16),(.t 17)]),
 Ll 9 (.box false 3 (.c (.arr 64 .leaf z64))),
 Ll 10 (.box false 4 (.c (.arr 64 .leaf z64))),
 Ls (.store false Sx6 (.t 9) (.t 14)),
 Ls (.store false Sx6 (.t 10) (.t 18))] [0,2,7,8,9,10])
 (.seq (.block 0 (.loop (Z32_L0)))
 (.seq (.region [Ipx 36 9,
 Ls (.store false Sx6 (.t 8) (.t 36))] [8])
 (.ret))))
def Z32:Fn:=
 { nparams:=4,nblk:=5,results:=[.cell 8 Sx6],body:=Z32_B }
def Z30_L0:Cd:=
 .seq (.seq (.region [Lw 8 1,
 Ll 9 (.bin .gtr (.t 8) (Acx 0))] [0,1,4,5,6,9])
 (.cond (.t 9)
 (.skip)
 (.exit 0)))
 (.seq (.block 1 (.seq (.region [Lw 12 6,
 Lw 13 1,
 Lw 14 0,
 Ll 15 (.bin .rem (.t 13) (.t 14)),
 Ll 16 (.conv .u8 (.t 15)),
 Ll 17 (.idxA (some 64) .leaf (.t 5) (.t 12)),
 Ls (.store false .leaf (.t 17) (.t 16))] [0,1,4,5,6])
 (.region [Lw 18 1,
 Lw 19 0,
 Ll 20 (.bin .quo (.t 18) (.t 19)),
 Lw 1 20] [0,1,4,5,6])))
 (.region [Lw 10 6,
 Ll 11 (.bin .add (.t 10) (Acx 1)),
 Lw 6 11] [0,1,4,5,6]))
def Z30_B:Cd:=
 .seq (.region [Ll 4 (.box false 0 (.c (.arr 64 .leaf z64)))] [0,1,4])
 (.seq (.region [Ll 7 (.build false (.arr 64 .leaf z64) []),
 Ll 5 (.box false 1 (.c (.arr 64 .leaf z64))),
 Ls (.store false Sx6 (.t 5) (.t 7))] [0,1,4,5])
 (.seq (.seq (.region [Ll 6 (.mv (Acx 0))] [0,1,4,5,6])
 (.block 0 (.loop (Z30_L0))))
 (.seq (.region [Ipx 21 5,
 Ls (.store false Sx6 (.t 4) (.t 21))] [4])
 (.ret))))
def Z30:Fn:=
 { nparams:=2,nblk:=2,results:=[.cell 4 Sx6],body:=Z30_B }
def Z35_L0:Cd:=
 .seq (.seq (.region [Lw 35 12,
 Lw 36 9,
 Ll 37 (.bin .leq (.t 35) (.t 36)),
 Lw 38 37,
 Lx 39 11 38 true,
 Lg 40 (.idxA (some 64) .leaf (.t 4) (.t 39)) 38 true,
 Lg 41 (.load .leaf (.t 40)) 38 true,
 Lg 42 (.bin .neq (.t 41) (.c (.int .u8 0))) 38 true,
 Ll 43 (.pick (.t 38) (.t 42) (.c (.bool false)))] [0,4,5,6,8,9,10,11,12,43])
 (.cond (.t 43)
 (.skip)
 (.exit 2)))
 (.seq (.block 3 (.region [Lw 46 11,
 Lw 47 12,
 Ll 48 (.bin .add (.t 46) (.t 47)),
 Lw 49 11,
 Lw 50 12,
 Ll 51 (.bin .add (.t 49) (.t 50)),
 Ll 52 (.idxA (some 64) .leaf (.t 10) (.t 51)),
 Ilx 53 52,
 Ll 54 (.conv .i64 (.t 53)),
 Lw 55 11,
 Ll 56 (.idxA (some 64) .leaf (.t 4) (.t 55)),
 Ilx 57 56,
 Ll 58 (.conv .i64 (.t 57)),
 Lw 59 12,
 Ll 60 (.idxA (some 64) .leaf (.t 5) (.t 59)),
 Ilx 61 60,
 Ll 62 (.conv .i64 (.t 61)),
 Ll 63 (.bin .mul (.t 58) (.t 62)),
 Ll 64 (.bin .add (.t 54) (.t 63)),
 Lw 65 0,
 Ll 66 (.bin .rem (.t 64) (.t 65)),
 Ll 67 (.conv .u8 (.t 66)),
 Ll 68 (.idxA (some 64) .leaf (.t 10) (.t 48)),
 Ls (.store false .leaf (.t 68) (.t 67))] [0,4,5,6,8,9,10,11,12]))
 (.region [Lw 44 12,
 Ll 45 (.bin .add (.t 44) (Acx 1)),
 Lw 12 45] [0,4,5,6,8,9,10,11,12]))
def Z35_L1:Cd:=
 .seq (.seq (.region [Lw 30 11,
 Lw 31 8,
 Ll 32 (.bin .leq (.t 30) (.t 31))] [0,4,5,6,8,9,10,11,32])
 (.cond (.t 32)
 (.skip)
 (.exit 0)))
 (.seq (.block 1 (.seq (.region [Ll 12 (.mv (Acx 0))] [0,4,5,6,8,9,10,11,12])
 (.block 2 (.loop (Z35_L0)))))
 (.region [Lw 33 11,
 Ll 34 (.bin .add (.t 33) (Acx 1)),
 Lw 11 34] [0,4,5,6,8,9,10,11]))
def Z35_B:Cd:=
 .seq (.region [Ll 4 (.box false 0 (.t 1)),
 Ll 5 (.box false 1 (.t 2)),
 Ll 6 (.box false 2 (.c (.arr 64 .leaf z64))),
 Ll 7 (.mv (.c (.bool false)))] [0,4,5,6])
 (.seq (.region [Ipx 13 4,
 Ll 14 (Ofx F2s [(.t 13)]),
 Ipx 15 5,
 Ll 16 (Ofx F2s [(.t 15)]),
 Ll 17 (.build false (.arr 64 .leaf z64) []),
 Ll 10 (.box false 3 (.c (.arr 64 .leaf z64))),
 Lw 8 14,
 Lw 9 16,
 Ls (.store false Sx6 (.t 10) (.t 17))] [0,4,5,6,8,9,10])
 (.seq (.seq (.region [Lw 18 8,
 Ll 19 (.bin .lss (.t 18) (Acx 0)),
 Lw 20 19,
 Lx 21 9 20 false,
 Lg 22 (.bin .lss (.t 21) (Acx 0)) 20 false,
 Ll 23 (.pick (.t 20) (.c (.bool true)) (.t 22))] [0,4,5,6,8,9,10,23])
 (.cond (.t 23)
 (.seq (.region [Ipx 24 10,
 Ls (.store false Sx6 (.t 6) (.t 24)),
 Ll 7 (.mv (.c (.bool true)))] [6,7])
 (.ret))
 (.skip)))
 (.seq (.seq (.region [Lw 25 8,
 Lw 26 9,
 Ll 27 (.bin .add (.t 25) (.t 26)),
 Ll 28 (.bin .gtr (.t 27) (Acx 63))] [0,4,5,6,8,9,10,28])
 (.cond (.t 28)
 (.seq (.region [Ipx 29 10,
 Ls (.store false Sx6 (.t 6) (.t 29)),
 Ll 7 (.mv (.c (.bool false)))] [6,7])
 (.ret))
 (.skip)))
 (.seq (.seq (.region [Ll 11 (.mv (Acx 0))] [0,4,5,6,8,9,10,11])
 (.block 0 (.loop (Z35_L1))))
 (.seq (.region [Ipx 69 10,
 Ls (.store false Sx6 (.t 6) (.t 69)),
 Ll 7 (.mv (.c (.bool true)))] [6,7])
 (.ret))))))
def Z35:Fn:=
 { nparams:=3,nblk:=4,results:=[.cell 6 Sx6,.tmp 7],body:=Z35_B }
def Z2q_L0:Cd:=
 .seq (.seq (.region [Ipx 26 5,
 Ll 27 (Ofx F2s [(.t 26)]),
 Ll 28 (.bin .geq (.t 27) (Acx 0))] [0,4,5,6,7,8,9,10,11,12,28])
 (.cond (.t 28)
 (.skip)
 (.exit 0)))
 (.block 1 (.seq (.region [Lw 30 0,
 Ipx 31 4,
 Ipx 32 5,
 Ll 33 (Ofx F2t [(.t 30),(.t 31),(.t 32)]),
 Lw 29 33,
 Iex 34 29 0,
 Iex 35 29 1,
 Ll 13 (.box false 9 (.c (.arr 64 .leaf z64))),
 Ll 14 (.box false 10 (.c (.arr 64 .leaf z64))),
 Ls (.store false Sx6 (.t 13) (.t 34)),
 Ls (.store false Sx6 (.t 14) (.t 35))] [0,4,5,6,7,8,9,10,11,12,13,14])
 (.seq (.region [Lw 37 0,
 Ipx 38 13,
 Ipx 39 10,
 Ll 40 (Ofx F35 [(.t 37),(.t 38),(.t 39)]),
 Lw 36 40,
 Iex 41 36 0,
 Iex 42 36 1,
 Ll 15 (.box false 11 (.c (.arr 64 .leaf z64))),
 Ls (.store false Sx6 (.t 15) (.t 41)),
 Lw 16 42] [0,4,5,6,7,8,9,10,11,12,13,14,15])
 (.seq (.region [Lw 44 0,
 Ipx 45 13,
 Ipx 46 12,
 Ll 47 (Ofx F35 [(.t 44),(.t 45),(.t 46)]),
 Lw 43 47,
 Iex 48 43 0,
 Iex 49 43 1,
 Ll 17 (.box false 12 (.c (.arr 64 .leaf z64))),
 Ls (.store false Sx6 (.t 17) (.t 48)),
 Lw 18 49] [0,4,5,6,7,8,9,10,11,12,14,15,17])
 (.seq (.region [Lw 50 0,
 Ipx 51 9,
 Ipx 52 15,
 Ll 53 (Ofx F2p [(.t 50),(.t 51),(.t 52),(Acx (-1))]),
 Lw 54 0,
 Ipx 55 11,
 Ipx 56 17,
 Ll 57 (Ofx F2p [(.t 54),(.t 55),(.t 56),(Acx (-1))]),
 Ll 19 (.box false 13 (.c (.arr 64 .leaf z64))),
 Ll 20 (.box false 14 (.c (.arr 64 .leaf z64))),
 Ls (.store false Sx6 (.t 19) (.t 53)),
 Ls (.store false Sx6 (.t 20) (.t 57))] [0,4,5,6,7,8,9,10,11,12,14,19,20])
 (.seq (.region [Ipx 58 5,
 Ls (.store false Sx6 (.t 4) (.t 58))] [0,4,5,6,7,8,9,10,11,12,14,19,20])
 (.seq (.region [Ipx 59 14,
 Ls (.store false Sx6 (.t 5) (.t 59))] [0,4,5,6,7,8,9,10,11,12,19,20])
 (.seq (.region [Ipx 60 10,
 Ls (.store false Sx6 (.t 9) (.t 60))] [0,4,5,6,7,8,9,10,11,12,19,20])
 (.seq (.region [Ipx 61 12,
 Ls (.store false Sx6 (.t 11) (.t 61))] [0,4,5,6,7,8,9,10,11,12,19,20])
 (.seq (.region [Ipx 62 19,
 Ls (.store false Sx6 (.t 10) (.t 62))] [0,4,5,6,7,8,9,10,11,12,20])
 (.region [Ipx 63 20,
 Ls (.store false Sx6 (.t 12) (.t 63))] [0,4,5,6,7,8,9,10,11,12])))))))))))
def Z2q_B:Cd:=
 .seq (.region [Ll 4 (.box false 0 (.t 1)),
 Ll 5 (.box false 1 (.t 2)),
 Ll 6 (.box false 2 (.c (.arr 64 .leaf z64))),
 Ll 7 (.box false 3 (.c (.arr 64 .leaf z64))),
 Ll 8 (.box false 4 (.c (.arr 64 .leaf z64)))] [0,4,5,6,7,8])
 (.seq (.region [Ll 22 (Ofx F31 []),
 Ll 23 (.build false (.arr 64 .leaf z64) []),
 Ll 24 (.build false (.arr 64 .leaf z64) []),
 Ll 25 (Ofx F31 []),
 Ll 9 (.box false 5 (.c (.arr 64 .leaf z64))),
 Ll 10 (.box false 6 (.c (.arr 64 .leaf z64))),
 Ll 11 (.box false 7 (.c (.arr 64 .leaf z64))),
 Ll 12 (.box false 8 (.c (.arr 64 .leaf z64))),
 Ls (.store false Sx6 (.t 9) (.t 22)),
 Ls (.store false Sx6 (.t 10) (.t 23)),
 Ls (.store false Sx6 (.t 11) (.t 24)),
 Ls (.store false Sx6 (.t 12) (.t 25))] [0,4,5,6,7,8,9,10,11,12])
 (.seq (.block 0 (.loop (Z2q_L0)))
 (.seq (.region [Lw 64 0,
 Ipx 65 4,
 Ll 66 (Ofx F2s [(.t 65)]),
 Ll 67 (.idxA (some 64) .leaf (.t 4) (.t 66)),
 Ilx 68 67,
 Ll 69 (Ofx F2v [(.t 64),(.t 68)]),
 Ll 70 (.conv .i64 (.t 69)),
 Lw 21 70] [0,4,6,7,8,9,11,21])
 (.seq (.region [Lw 71 0,
 Ll 72 (.build false (.arr 64 .leaf z64) []),
 Ipx 73 4,
 Lw 74 21,
 Ll 75 (Ofx F2p [(.t 71),(.t 72),(.t 73),(.t 74)]),
 Lw 76 0,
 Ll 77 (.build false (.arr 64 .leaf z64) []),
 Ipx 78 9,
 Lw 79 21,
 Ll 80 (Ofx F2p [(.t 76),(.t 77),(.t 78),(.t 79)]),
 Lw 81 0,
 Ll 82 (.build false (.arr 64 .leaf z64) []),
 Ipx 83 11,
 Lw 84 21,
 Ll 85 (Ofx F2p [(.t 81),(.t 82),(.t 83),(.t 84)]),
 Ls (.store false Sx6 (.t 6) (.t 75)),
 Ls (.store false Sx6 (.t 7) (.t 80)),
 Ls (.store false Sx6 (.t 8) (.t 85))] [6,7,8])
 (.ret)))))
def Z2q:Fn:=
 { nparams:=3,nblk:=15,results:=[.cell 6 Sx6,.cell 7 Sx6,.cell 8 Sx6],body:=Z2q_B }
def Z2u_B:Cd:=
 .seq (.region [Ll 4 (.box false 0 (.t 1)),
 Ll 5 (.box false 1 (.t 2)),
 Ll 6 (.box false 2 (.c (.arr 64 .leaf z64)))] [0,4,5,6])
 (.seq (.seq (.region [Ipx 10 4,
 Ll 11 (Ofx F2s [(.t 10)]),
 Ll 12 (.bin .lss (.t 11) (Acx 0)),
 Lw 13 12,
 Lg 14 (.load Sx6 (.t 5)) 13 true,
 Lg 15 (Ofx F2s [(.t 14)]) 13 true,
 Lg 16 (.bin .lss (.t 15) (Acx 0)) 13 true,
 Ll 17 (.pick (.t 13) (.t 16) (.c (.bool false)))] [0,4,5,6,17])
 (.cond (.t 17)
 (.seq (.region [Ll 18 (.build false (.arr 64 .leaf z64) []),
 Ls (.store false Sx6 (.t 6) (.t 18))] [6])
 (.ret))
 (.skip)))
 (.seq (.region [Lw 20 0,
 Ipx 21 4,
 Ipx 22 5,
 Ll 23 (Ofx F2q [(.t 20),(.t 21),(.t 22)]),
 Lw 19 23,
 Iex 24 19 0,
 Iex 25 19 1,
 Iex 26 19 2,
 Ll 7 (.box false 3 (.c (.arr 64 .leaf z64))),
 Ll 8 (.box false 4 (.c (.arr 64 .leaf z64))),
 Ll 9 (.box false 5 (.c (.arr 64 .leaf z64))),
 Ls (.store false Sx6 (.t 7) (.t 24)),
 Ls (.store false Sx6 (.t 8) (.t 25)),
 Ls (.store false Sx6 (.t 9) (.t 26))] [6,7])
 (.seq (.region [Ipx 27 7,
 Ls (.store false Sx6 (.t 6) (.t 27))] [6])
 (.ret))))
def Z2u:Fn:=
 { nparams:=3,nblk:=6,results:=[.cell 6 Sx6],body:=Z2u_B }
def Z34_B:Cd:=
 .seq (.region [Ll 0 (.box false 0 (.c (.arr 64 .leaf z64)))] [0])
 (.seq (.region [Ll 1 (.build false (.arr 64 .leaf z64) [(0,(.c (.int .u8 0))),(1,(.c (.int .u8 1)))]),
 Ls (.store false Sx6 (.t 0) (.t 1))] [0])
 (.ret))
def Z34:Fn:=
 { nparams:=0,nblk:=1,results:=[.cell 0 Sx6],body:=Z34_B }
def Z2w_L0:Cd:=
 .seq (.seq (.region [Lw 16 7,
 Ll 17 (.bin .mul (Acx 2) (.t 16)),
 Lw 18 5,
 Ll 19 (.bin .leq (.t 17) (.t 18))] [0,3,5,6,7,19])
 (.cond (.t 19)
 (.skip)
 (.exit 0)))
 (.seq (.block 1 (.seq (.region [Lw 22 0,
 Ipx 23 6,
 Lw 24 0,
 Ipx 25 3,
 Ll 26 (Ofx F32 [(.t 22),(.t 23),(.t 24),(.t 25)]),
 Ls (.store false Sx6 (.t 6) (.t 26))] [0,3,5,6,7])
 (.seq (.region [Lw 27 0,
 Ipx 28 3,
 Lw 29 0,
 Ipx 30 6,
 Ll 31 (Ofx F34 []),
 Ll 32 (Ofx F2p [(.t 29),(.t 30),(.t 31),(Acx (-1))]),
 Ll 33 (Ofx F2u [(.t 27),(.t 28),(.t 32)]),
 Ll 34 (Ofx F2s [(.t 33)]),
 Ll 35 (.bin .neq (.t 34) (Acx 0))] [0,3,5,6,7,35])
 (.cond (.t 35)
 (.seq (.region [Ll 4 (.mv (.c (.bool false)))] [4])
 (.ret))
 (.skip)))))
 (.region [Lw 20 7,
 Ll 21 (.bin .add (.t 20) (Acx 1)),
 Lw 7 21] [0,3,5,6,7]))
def Z2w_B:Cd:=
 .seq (.region [Ll 3 (.box false 0 (.t 1)),
 Ll 4 (.mv (.c (.bool false)))] [0,3])
 (.seq (.region [Ipx 8 3,
 Ll 9 (Ofx F2s [(.t 8)]),
 Lw 10 0,
 Ll 11 (Ofx F34 []),
 Ipx 12 3,
 Ll 13 (Ofx F2y [(.t 10),(.t 11),(.t 12)]),
 Ll 6 (.box false 1 (.c (.arr 64 .leaf z64))),
 Lw 5 9,
 Ls (.store false Sx6 (.t 6) (.t 13))] [0,3,5,6])
 (.seq (.seq (.region [Lw 14 5,
 Ll 15 (.bin .lss (.t 14) (Acx 1))] [0,3,5,6,15])
 (.cond (.t 15)
 (.seq (.region [Ll 4 (.mv (.c (.bool false)))] [4])
 (.ret))
 (.skip)))
 (.seq (.seq (.region [Ll 7 (.mv (Acx 1))] [0,3,5,6,7])
 (.block 0 (.loop (Z2w_L0))))
 (.seq (.region [Ll 4 (.mv (.c (.bool true)))] [4])
 (.ret)))))
def Z2w:Fn:=
 { nparams:=2,nblk:=2,results:=[.tmp 4],body:=Z2w_B }
def Z2o_L0:Cd:=
 .seq (.seq (.region [Lw 18 8,
 Ll 19 (.bin .lss (.t 18) (Acx 64))] [0,3,4,7,8,19])
 (.cond (.t 19)
 (.skip)
 (.exit 0)))
 (.seq (.block 1 (.region [Lw 22 8,
 Ll 23 (.bin .sub (.t 22) (Acx 1)),
 Lw 24 8,
 Lw 25 0,
 Ll 26 (.bin .rem (.t 24) (.t 25)),
 Lw 27 8,
 Ll 28 (.idxA (some 64) .leaf (.t 3) (.t 27)),
 Ilx 29 28,
 Ll 30 (.conv .i64 (.t 29)),
 Ll 31 (.bin .mul (.t 26) (.t 30)),
 Lw 32 0,
 Ll 33 (.bin .rem (.t 31) (.t 32)),
 Ll 34 (.conv .u8 (.t 33)),
 Ll 35 (.idxA (some 64) .leaf (.t 7) (.t 23)),
 Ls (.store false .leaf (.t 35) (.t 34))] [0,3,4,7,8]))
 (.region [Lw 20 8,
 Ll 21 (.bin .add (.t 20) (Acx 1)),
 Lw 8 21] [0,3,4,7,8]))
def Z2o_B:Cd:=
 .seq (.region [Ll 3 (.box false 0 (.t 1)),
 Ll 4 (.box false 1 (.c (.arr 64 .leaf z64))),
 Ll 5 (.mv (Acx 0))] [0,3,4])
 (.seq (.seq (.region [Lw 9 0,
 Ipx 10 3,
 Ll 11 (.buildSl false 2 Sx6 (.arr 64 .leaf z64) 1 [(0,(.t 10))]),
 Ll 12 (Ofx F2r [(.t 9),(.t 11)]),
 Lw 6 12] [0,3,4,6])
 (.seq (.region [Lw 13 6,
 Ll 14 (.bin .neq (.t 13) (Acx 0))] [0,3,4,6,14])
 (.cond (.t 14)
 (.seq (.region [Ll 15 (.build false (.arr 64 .leaf z64) []),
 Lw 16 6,
 Ls (.store false Sx6 (.t 4) (.t 15)),
 Lw 5 16] [4,5])
 (.ret))
 (.skip))))
 (.seq (.region [Ll 17 (.build false (.arr 64 .leaf z64) []),
 Ll 7 (.box false 3 (.c (.arr 64 .leaf z64))),
 Ls (.store false Sx6 (.t 7) (.t 17))] [0,3,4,7])
 (.seq (.seq (.region [Ll 8 (.mv (Acx 1))] [0,3,4,7,8])
 (.block 0 (.loop (Z2o_L0))))
 (.seq (.region [Ipx 36 7,
 Ls (.store false Sx6 (.t 4) (.t 36)),
 Ll 5 (.mv (Acx 0))] [4,5])
 (.ret)))))
def Z2o:Fn:=
 { nparams:=2,nblk:=4,results:=[.cell 4 Sx6,.tmp 5],body:=Z2o_B }
end Pe

/-
 Functions of the program in the small form,printed by a program.
-/
namespace Pe
open Go
def Z3a_B:Cd:=
 .seq (.region [Ll 3 (.box false 0 (.t 1)),
 Ll 4 (.mv (.c (.bool false)))] [0,3])
 (.seq (.seq (.region [Lw 8 0,
 Ipx 9 3,
 Ll 10 (Ofx F2x [(.t 8),(.t 9)]),
 Ll 11 (.un .not (.t 10)),
 Lw 12 11,
 Lx 13 0 12 false,
 Lg 14 (.bin .eql (.t 13) (Acx 2)) 12 false,
 Ll 15 (.pick (.t 12) (.c (.bool true)) (.t 14))] [0,3,15])
 (.cond (.t 15)
 (.seq (.region [Ll 4 (.mv (.c (.bool false)))] [4])
 (.ret))
 (.skip)))
 (.seq (.region [Ipx 16 3,
 Ll 17 (Ofx F2s [(.t 16)]),
 Lw 5 17] [0,3,5])
 (.seq (.seq (.region [Lw 18 5,
 Ll 19 (.bin .neq (.t 18) (Acx 1)),
 Lw 20 19,
 Lx 21 5 20 true,
 Lg 22 (.bin .neq (.t 21) (Acx 3)) 20 true,
 Ll 23 (.pick (.t 20) (.t 22) (.c (.bool false))),
 Lw 24 23,
 Lx 25 5 24 true,
 Lg 26 (.bin .neq (.t 25) (Acx 5)) 24 true,
 Ll 27 (.pick (.t 24) (.t 26) (.c (.bool false)))] [0,3,27])
 (.cond (.t 27)
 (.seq (.region [Ll 4 (.mv (.c (.bool false)))] [4])
 (.ret))
 (.skip)))
 (.seq (.region [Lw 29 0,
 Ipx 30 3,
 Ll 31 (Ofx F2o [(.t 29),(.t 30)]),
 Lw 28 31,
 Iex 32 28 0,
 Iex 33 28 1,
 Ll 6 (.box false 1 (.c (.arr 64 .leaf z64))),
 Ls (.store false Sx6 (.t 6) (.t 32)),
 Lw 7 33] [0,3,6])
 (.seq (.region [Lw 34 0,
 Ipx 35 3,
 Ipx 36 6,
 Ll 37 (Ofx F2u [(.t 34),(.t 35),(.t 36)]),
 Ll 38 (Ofx F2s [(.t 37)]),
 Ll 39 (.bin .eql (.t 38) (Acx 0)),
 Lw 4 39] [4])
 (.ret))))))
def Z3a:Fn:=
 { nparams:=2,nblk:=2,results:=[.tmp 4],body:=Z3a_B }
def Z38_L0:Cd:=
 .seq (.seq (.region [Lw 6 0,
 Ipx 7 3,
 Ll 8 (Ofx F2w [(.t 6),(.t 7)]),
 Ll 9 (.un .not (.t 8))] [0,2,3,4,9])
 (.cond (.t 9)
 (.skip)
 (.exit 0)))
 (.seq (.block 1 (.seq (.region [Lw 12 0,
 Lw 13 4,
 Ll 14 (Ofx F30 [(.t 12),(.t 13)]),
 Ls (.store false Sx6 (.t 3) (.t 14))] [0,2,3,4])
 (.region [Ll 15 (.idxA (some 64) .leaf (.t 3) (Acx 2)),
 Ls (.store false .leaf (.t 15) (.c (.int .u8 1)))] [0,2,3,4])))
 (.region [Lw 10 4,
 Ll 11 (.bin .add (.t 10) (Acx 1)),
 Lw 4 11] [0,2,3,4]))
def Z38_B:Cd:=
 .seq (.region [Ll 2 (.box false 0 (.c (.arr 64 .leaf z64)))] [0,2])
 (.seq (.region [Ll 5 (.build false (.arr 64 .leaf z64) [(0,(.c (.int .u8 0))),(1,(.c (.int .u8 0))),(2,(.c (.int .u8 1)))]),
 Ll 3 (.box false 1 (.c (.arr 64 .leaf z64))),
 Ls (.store false Sx6 (.t 3) (.t 5))] [0,2,3])
 (.seq (.seq (.region [Ll 4 (.mv (Acx 0))] [0,2,3,4])
 (.block 0 (.loop (Z38_L0))))
 (.seq (.region [Ipx 16 3,
 Ls (.store false Sx6 (.t 2) (.t 16))] [2])
 (.ret))))
def Z38:Fn:=
 { nparams:=1,nblk:=2,results:=[.cell 2 Sx6],body:=Z38_B }
def Z37_L0:Cd:=
 .seq (.seq (.region [Lw 14 10,
 Ll 15 (.bin .geq (.t 14) (Acx 0))] [0,5,6,7,8,9,10,15])
 (.cond (.t 15)
 (.skip)
 (.exit 0)))
 (.seq (.block 1 (.region [Lw 18 0,
 Lw 19 0,
 Ipx 20 9,
 Ipx 21 6,
 Ipx 22 7,
 Ll 23 (Ofx F2z [(.t 19),(.t 20),(.t 21),(.t 22)]),
 Ll 24 (Ofx F31 []),
 Lw 25 10,
 Ll 26 (.idxA (some 64) .leaf (.t 5) (.t 25)),
 Ilx 27 26,
 Ll 28 (.conv .i64 (.t 27)),
 Ll 29 (Ofx F2p [(.t 18),(.t 23),(.t 24),(.t 28)]),
 Ls (.store false Sx6 (.t 9) (.t 29))] [0,5,6,7,8,9,10]))
 (.region [Lw 16 10,
 Ll 17 (.bin .sub (.t 16) (Acx 1)),
 Lw 10 17] [0,5,6,7,8,9,10]))
def Z37_B:Cd:=
 .seq (.region [Ll 5 (.box false 0 (.t 1)),
 Ll 6 (.box false 1 (.t 2)),
 Ll 7 (.box false 2 (.t 3)),
 Ll 8 (.box false 3 (.c (.arr 64 .leaf z64)))] [0,5,6,7,8])
 (.seq (.region [Ll 11 (.build false (.arr 64 .leaf z64) []),
 Ll 9 (.box false 4 (.c (.arr 64 .leaf z64))),
 Ls (.store false Sx6 (.t 9) (.t 11))] [0,5,6,7,8,9])
 (.seq (.seq (.region [Ipx 12 5,
 Ll 13 (Ofx F2s [(.t 12)]),
 Lw 10 13] [0,5,6,7,8,9,10])
 (.block 0 (.loop (Z37_L0))))
 (.seq (.region [Ipx 30 9,
 Ls (.store false Sx6 (.t 8) (.t 30))] [8])
 (.ret))))
def Z37:Fn:=
 { nparams:=4,nblk:=5,results:=[.cell 8 Sx6],body:=Z37_B }
def Z3b_L0:Cd:=
 .seq (.seq (.region [Lw 13 9,
 Lw 14 0,
 Lw 15 0,
 Ll 16 (.bin .mul (.t 14) (.t 15)),
 Ll 17 (.bin .lss (.t 13) (.t 16))] [0,3,6,7,8,9,17])
 (.cond (.t 17)
 (.skip)
 (.exit 0)))
 (.seq (.block 1 (.seq (.region [Lw 20 0,
 Ipx 21 3,
 Lw 22 0,
 Lw 23 9,
 Ll 24 (Ofx F30 [(.t 22),(.t 23)]),
 Ipx 25 8,
 Ll 26 (Ofx F37 [(.t 20),(.t 21),(.t 24),(.t 25)]),
 Ll 10 (.box false 2 (.c (.arr 64 .leaf z64))),
 Ls (.store false Sx6 (.t 10) (.t 26))] [0,3,6,7,8,9,10])
 (.seq (.block 2 (.seq (.region [Ipx 28 10,
 Ll 29 (Ofx F2s [(.t 28)]),
 Ll 30 (.bin .lss (.t 29) (Acx 0)),
 Lw 27 30] [0,3,6,7,8,9,10,27])
 (.cond (.t 27)
 (.region [Lw 31 7,
 Ll 32 (.bin .add (.t 31) (Acx 1)),
 Lw 7 32] [0,3,6,7,8,9,10])
 (.seq (.region [Lw 34 0,
 Ipx 35 10,
 Lw 36 0,
 Lw 37 0,
 Ll 38 (.bin .mul (.t 36) (.t 37)),
 Ll 39 (.bin .sub (.t 38) (Acx 1)),
 Ll 40 (.bin .quo (.t 39) (Acx 2)),
 Ipx 41 8,
 Ll 42 (Ofx F32 [(.t 34),(.t 35),(.t 40),(.t 41)]),
 Ll 43 (Ofx F31 []),
 Ll 44 (.eqv false (.arr 64 .leaf .int) (.t 42) (.t 43)),
 Lw 33 44] [0,3,6,7,8,9,10,33])
 (.cond (.t 33)
 (.region [Lw 45 7,
 Ll 46 (.bin .add (.t 45) (Acx 2)),
 Lw 7 46] [0,3,6,7,8,9,10])
 (.skip))))))
 (.seq (.seq (.region [Lw 47 9,
 Lw 48 0,
 Ll 49 (.bin .geq (.t 47) (.t 48))] [0,3,6,7,8,9,10,49])
 (.cond (.t 49)
 (.exit 1)
 (.skip)))
 (.block 3 (.seq (.region [Ipx 51 10,
 Ll 52 (Ofx F2s [(.t 51)]),
 Ll 53 (.bin .lss (.t 52) (Acx 0)),
 Lw 50 53] [0,3,6,7,8,9,10,50])
 (.cond (.t 50)
 (.region [Lw 54 6,
 Ll 55 (.bin .add (.t 54) (Acx 1)),
 Lw 6 55] [0,3,6,7,8,9])
 (.seq (.region [Lw 57 0,
 Ipx 58 10,
 Lw 59 0,
 Ll 60 (.bin .sub (.t 59) (Acx 1)),
 Ll 61 (.bin .quo (.t 60) (Acx 2)),
 Ipx 62 8,
 Ll 63 (Ofx F32 [(.t 57),(.t 58),(.t 61),(.t 62)]),
 Ll 64 (Ofx F31 []),
 Ll 65 (.eqv false (.arr 64 .leaf .int) (.t 63) (.t 64)),
 Lw 56 65] [0,3,6,7,8,9,56])
 (.cond (.t 56)
 (.region [Lw 66 6,
 Ll 67 (.bin .add (.t 66) (Acx 2)),
 Lw 6 67] [0,3,6,7,8,9])
 (.skip))))))))))
 (.region [Lw 18 9,
 Ll 19 (.bin .add (.t 18) (Acx 1)),
 Lw 9 19] [0,3,6,7,8,9]))
def Z3b_B:Cd:=
 .seq (.region [Ll 3 (.box false 0 (.t 1)),
 Ll 4 (.mv (Acx 0)),
 Ll 5 (.mv (Acx 0))] [0,3])
 (.seq (.region [Lw 11 0,
 Ll 12 (Ofx F38 [(.t 11)]),
 Ll 8 (.box false 1 (.c (.arr 64 .leaf z64))),
 Ll 6 (.mv (Acx 1)),
 Ll 7 (.mv (Acx 1)),
 Ls (.store false Sx6 (.t 8) (.t 12))] [0,3,6,7,8])
 (.seq (.seq (.region [Ll 9 (.mv (Acx 0))] [0,3,6,7,8,9])
 (.block 0 (.loop (Z3b_L0))))
 (.seq (.region [Lw 68 6,
 Lw 69 7,
 Lw 4 68,
 Lw 5 69] [4,5])
 (.ret))))
def Z3b:Fn:=
 { nparams:=2,nblk:=3,results:=[.tmp 4,.tmp 5],body:=Z3b_B }
def Z39_B:Cd:=
 .seq (.region [Ll 1 (.box false 0 (.t 0)),
 Ll 2 (.mv (Acx 0))] [1])
 (.seq (.region [Ipx 3 1,
 Ll 4 (Ofx F2s [(.t 3)]),
 Ll 5 (.bin .sub (.t 4) (Acx 1)),
 Ll 6 (.bin .quo (.t 5) (Acx 2)),
 Lw 2 6] [2])
 (.ret))
def Z39:Fn:=
 { nparams:=1,nblk:=1,results:=[.tmp 2],body:=Z39_B }
def Z2n_B:Cd:=
 .seq (.region [Ll 3 (.box false 0 (.t 1)),
 Ll 4 (.mv (.c (.sl .leaf []))),
 Ll 5 (.mv (Acx 0))] [0,3])
 (.seq (.seq (.region [Lw 10 0,
 Ipx 11 3,
 Ll 12 (Ofx F3a [(.t 10),(.t 11)]),
 Ll 13 (.un .not (.t 12))] [0,3,13])
 (.cond (.t 13)
 (.seq (.region [Ll 4 (.mv (.c (.sl .leaf []))),
 Ll 5 (.mv (Acx 1))] [4,5])
 (.ret))
 (.skip)))
 (.seq (.region [Lw 15 0,
 Ipx 16 3,
 Ll 17 (Ofx F3b [(.t 15),(.t 16)]),
 Lw 14 17,
 Iex 18 14 0,
 Iex 19 14 1,
 Lw 6 18,
 Lw 7 19] [0,3,6,7])
 (.seq (.region [Lw 20 6,
 Lw 21 0,
 Ll 22 (.bin .sub (.t 20) (.t 21)),
 Ll 23 (.bin .sub (.t 22) (Acx 1)),
 Lw 24 7,
 Lw 25 0,
 Lw 26 0,
 Ll 27 (.bin .mul (.t 25) (.t 26)),
 Ll 28 (.bin .sub (.t 24) (.t 27)),
 Ll 29 (.bin .sub (.t 28) (Acx 1)),
 Lw 8 23,
 Lw 9 29] [0,3,8,9])
 (.seq (.seq (.region [Ipx 30 3,
 Ll 31 (Ofx F39 [(.t 30)])] [0,8,9,31])
 (.block 0 (.seq (.region [Ll 33 (.bin .eql (.t 31) (Acx 0)),
 Lw 32 33] [0,8,9,31,32])
 (.cond (.t 32)
 (.seq (.region [Ll 34 (.buildSl false 1 .leaf (.int .i64 0) 1 [(0,(Acx 1))]),
 Lw 4 34,
 Ll 5 (.mv (Acx 0))] [4,5])
 (.ret))
 (.seq (.region [Ll 36 (.bin .eql (.t 31) (Acx 1)),
 Lw 35 36] [0,8,9,35])
 (.cond (.t 35)
 (.seq (.region [Lw 37 8,
 Lw 38 0,
 Ll 39 (.buildSl false 2 .leaf (.int .i64 0) 3 [(0,(Acx 1)),(1,(.t 37)),(2,(.t 38))]),
 Lw 4 39,
 Ll 5 (.mv (Acx 0))] [4,5])
 (.ret))
 (.skip)))))))
 (.seq (.region [Lw 40 8,
 Lw 41 9,
 Lw 42 8,
 Lw 43 8,
 Ll 44 (.bin .mul (.t 42) (.t 43)),
 Ll 45 (.bin .add (.t 41) (.t 44)),
 Ll 46 (.bin .quo (.t 45) (Acx 2)),
 Lw 47 0,
 Lw 48 8,
 Ll 49 (.bin .mul (.t 47) (.t 48)),
 Lw 50 0,
 Lw 51 0,
 Ll 52 (.bin .mul (.t 50) (.t 51)),
 Ll 53 (.buildSl false 3 .leaf (.int .i64 0) 5 [(0,(Acx 1)),(1,(.t 40)),(2,(.t 46)),(3,(.t 49)),(4,(.t 52))]),
 Lw 4 53,
 Ll 5 (.mv (Acx 0))] [4,5])
 (.ret))))))
def Z2n:Fn:=
 { nparams:=2,nblk:=4,results:=[.tmp 4,.tmp 5],body:=Z2n_B }
end Pe

namespace Gq
section
variable {K:Type} [Fd K]
theorem Pol.mod_eq_iff {a b m:Pol K} (hm:m≠0):a%m=b%m↔Quo.mk m a=Quo.mk m b:=by
 rw [Quo.eq];constructor
 ·intro h
  refine ⟨a/m-b/m,?_⟩;have h1:=div_mod a m;have h2:=div_mod b m;rw [h] at h1;generalize a/m=q at *;generalize b/m=q' at *;rw [h1];have e:q*m+b%m=(q'*m+b%m)+m*(q-q'):=ba [q,q',m,b%m] rfl;rw [e,←h2]
 ·rintro ⟨c,rfl⟩
  have h2:=div_mod b m;refine (div_mod_eq (q:=b/m+c) ?_ (len_mod b hm)).2;have e:b+m*c=(b/m*m+b%m)+m*c:=by rw [←h2]
  rw [e];exact ba [b/m,m,b%m,c] rfl
theorem Pol.mk_mod (a m:Pol K):Quo.mk m (a%m)=Quo.mk m a:=by
 rw [Quo.eq];refine ⟨-(a/m),?_⟩;have h:=div_mod a m;have e:a%m=(a/m*m+a%m)+m * -(a/m):=ba [a/m,m,a%m] rfl;rw [e,←h]
theorem Pol.mod_small {a m:Pol K} (h:a.len<m.len):a%m=a:=(div_mod_eq (q:=0) (by rw [zero_mul,zero_add]) h).2
theorem Pol.zero_mod {m:Pol K} (hm:m≠0):(0:Pol K)%m=0:=mod_small (by rw [len_zero]; exact len_pos hm)
theorem Pol.div_small {a m:Pol K} (h:a.len<m.len):a/m=0:=(div_mod_eq (q:=0) (by rw [zero_mul,zero_add]) h).1
theorem Pol.mul_mod_left (a b:Pol K) {m:Pol K} (hm:m≠0):(a%m)*b%m=a*b%m:=by
 rw [mod_eq_iff hm,Quo.mk_mul,Quo.mk_mul,mk_mod]
theorem Pol.mod_self_mul (a:Pol K) {m:Pol K} (hm:m≠0):(a*m)%m=0:=
 (div_mod_eq (q:=a) (by rw [add_zero]) (by rw [len_zero]; exact len_pos hm)).2
theorem Pol.len_mod_le (a:Pol K) {m:Pol K} (hm:m≠0):(a%m).len≤a.len:=by
 rcases cb a.len m.len with h | h
 ·rw [mod_small h]; exact ap _
 ·have:=len_mod a hm; omega
theorem Pol.len_div {a m:Pol K} (hm:m≠0) (h:m.len≤a.len):(a/m).len+m.len=a.len+1:=by
 have h1:=div_mod a m;have h2:=len_mod a hm;have h3:=len_pos hm
 by_cases hq:a/m=0
 ·rw [hq,zero_mul,zero_add] at h1
  rw [←h1] at h2; omega
 ·have h4:=len_mul hq hm
  have h5:=len_pos hq
  have e:a.len=(a/m*m).len:=by
   apply Nat.le_antisymm
   ·rw [h1]
    exact len_le (lt_add (by rw [←h1]; exact lt_len _) (lt_iff.2 (by rw [←h1]; omega)))
   ·have:a/m*m=a-a%m:=by
     have e:a-a%m=(a/m*m+a%m)-a%m:=by rw [←h1]
     rw [e]; exact ba [a/m*m,a%m] rfl
    rw [this];exact len_le (lt_sub a.lt_len (lt_iff.2 (by omega)))
  omega
theorem Pol.len_div_le (a:Pol K) {m:Pol K} (hm:m≠0):(a/m).len≤a.len:=by
 rcases cb a.len m.len with h | h
 ·rw [div_small h,len_zero]; omega
 ·have:=len_div hm h
  have:=len_pos hm;omega
theorem pq {R:Type} [CR R] (a:R) (m:Nat):∀n,pw a (m+n)=pw a m*pw a n
 | 0=>(mul_one _).symm
 | n+1=>by rw [←f7,pw,pq a m n,pw,mul_assoc]
theorem xn {R:Type} [CR R] (a b:R):∀n,pw (a*b) n=pw a n*pw b n
 | 0=>(mul_one _).symm
 | n+1=>by rw [pw,pw,pw,xn a b n]; exact ba [a,b,pw a n,pw b n] rfl
theorem n5 {R:Type} [CR R] (a:R) (m:Nat):∀n,pw (pw a m) n=pw a (m*n)
 | 0=>rfl
 | n+1=>by rw [pw,n5 a m n,Nat.mul_succ,pq]
theorem wy {R:Type} [CR R]:∀n,pw (1:R) n=1
 | 0=>rfl
 | n+1=>by rw [pw,wy n,mul_one]
theorem x8 {R:Type} [CR R] (a:R):pw a 1=a:=one_mul a
theorem Pol.pow_mod (a:Pol K) {m:Pol K} (hm:m≠0) (n:Nat):pw (a%m) n%m=pw a n%m:=by
 rw [mod_eq_iff hm,Quo.mk_pow,Quo.mk_pow,mk_mod]
theorem Pol.bin_step {out base m:Pol K} (hm:m≠0) (k:Nat) (_hk:0<k) :
 (if k%2=1 then out*base%m else out)*pw (base*base%m) (k/2)%m=out*pw base k%m:=by
 rw [mod_eq_iff hm,Quo.mk_mul,Quo.mk_mul,Quo.mk_pow,mk_mod,Quo.mk_mul,xn,Quo.mk_pow,←pq]
 split
 ·rename_i h
  rw [mk_mod,Quo.mk_mul];have e:k=1+(k/2+k/2):=by omega
  have e2:pw (Quo.mk m base) k=Quo.mk m base*pw (Quo.mk m base) (k/2+k/2):=by
   have:=pq (Quo.mk m base) 1 (k/2+k/2)
   rwa [←e,x8] at this
  rw [e2,mul_assoc]
 ·rename_i h
  have e:k/2+k/2=k:=by omega
  rw [e]
open Classical in
noncomputable def Pol.bz:Nat→Pol K→Pol K→Pol K→Pol K→Pol K→Pol K→Pol K×Pol K×Pol K
 | 0,a,_,u,_,v,_=>(a,u,v)
 | n+1,a,b,u,x,v,y=>if b=0 then (a,u,v) else bz n b (a%b) x (u-a/b*x) y (v-a/b*y)
structure Pol.BzI (A B a b u x v y:Pol K):Prop where
 one:u*A+v*B=a
 two:x*A+y*B=b
 lx:x.len=0∨x.len+a.len≤B.len+1
 ly:y.len=0∨y.len+a.len≤A.len+1
 lu:u.len=0∨u.len+b.len≤B.len+1
 lv:v.len=0∨v.len+b.len≤A.len+1
 any:a≠0∨b≠0
theorem Pol.BzI.init {A B:Pol K} (h:A≠0∨B≠0):BzI A B A B 1 0 0 1:=
 ⟨ba [A,B] rfl,ba [A,B] rfl,.inl len_zero,.inr (by rw [len_one]; omega),.inr (by rw [len_one]; omega),.inl len_zero,h⟩
theorem Pol.len_sub_le {a b:Pol K} {n:Nat} (ha:a.len≤n) (hb:b.len≤n):(a-b).len≤n:=len_le (lt_sub (lt_iff.2 ha) (lt_iff.2 hb))
theorem Pol.len_add_le {a b:Pol K} {n:Nat} (ha:a.len≤n) (hb:b.len≤n):(a+b).len≤n:=len_le (lt_add (lt_iff.2 ha) (lt_iff.2 hb))
theorem Pol.BzI.qlen {A B a b u x v y:Pol K} (h:BzI A B a b u x v y) (hb:b≠0) :
 ((a/b*x).len=0∨(a/b*x).len+b.len≤B.len+1)∧((a/b*y).len=0∨(a/b*y).len+b.len≤A.len+1):=by
 have key:∀(x:Pol K) (n:Nat),(x.len=0∨x.len+a.len≤n+1)→((a/b*x).len=0∨(a/b*x).len+b.len≤n+1):=by
  intro x n hx
  by_cases hx0:x=0
  ·left; rw [hx0,mul_zero,len_zero]
  ·rcases cb a.len b.len with hl | hl
   ·left; rw [div_small hl,zero_mul,len_zero]
   ·have h1:=len_div hb hl
    have hq:a/b≠0:=fun h0=>by
     rw [h0,len_zero] at h1;omega
    have h2:=len_mul hq hx0;have h3:=len_pos hx0;right; omega
 exact ⟨key x B.len h.lx,key y A.len h.ly⟩
theorem Pol.BzI.step {A B a b u x v y:Pol K} (h:BzI A B a b u x v y) (hb:b≠0):BzI A B b (a%b) x (u-a/b*x) y (v-a/b*y):=by
 have hm:=div_mod a b;have hl:=len_mod a hb;have hle:=len_mod_le a hb;obtain ⟨q1,q2⟩:=h.qlen hb
 have sub:∀(u q:Pol K) (n:Nat),(u.len=0∨u.len+b.len≤n+1)→(q.len=0∨q.len+b.len≤n+1)→((u-q).len=0∨(u-q).len+b.len≤n+1):=by
  intro u q n h1 h2
  by_cases hn:n+1≤b.len
  ·left
   have e1:u.len=0:=by omega
   have e2:q.len=0:=by omega
   have:=len_sub_le (a:=u) (b:=q) (n:=0) (by omega) (by omega)
   omega
  ·right
   have:=len_sub_le (a:=u) (b:=q) (n:=n+1-b.len) (by omega) (by omega)
   omega
 refine ⟨h.two,?_,sub _ _ _ h.lu q1,sub _ _ _ h.lv q2,?_,?_,.inl hb⟩
 ·have e:(u-a/b*x)*A+(v-a/b*y)*B=(u*A+v*B)-a/b*(x*A+y*B):=ba [u,a/b,x,A,v,y,B] rfl
  rw [e,h.one,h.two];have e2:a-a/b*b=(a/b*b+a%b)-a/b*b:=by rw [←hm]
  rw [e2];exact ba [a/b,b,a%b] rfl
 ·exact h.lx.imp id fun h=>by omega
 ·exact h.ly.imp id fun h=>by omega
theorem Pol.bz_spec {A B:Pol K}:∀(n:Nat) (a b u x v y:Pol K),b.len≤n→BzI A B a b u x v y →
 ∃x' y',BzI A B (bz n a b u x v y).1 0 (bz n a b u x v y).2.1 x' (bz n a b u x v y).2.2 y'∧(∃s,a=s*(bz n a b u x v y).1)∧(∃s,b=s*(bz n a b u x v y).1)
 | 0,a,b,u,x,v,y,hn,h=>by
  obtain rfl:=len_zero_iff.1 (show b.len=0 by omega)
  exact ⟨x,y,h,⟨1,(one_mul a).symm⟩,⟨0,(zero_mul a).symm⟩⟩
 | n+1,a,b,u,x,v,y,hn,h=>by
  unfold bz
  split
  ·rename_i hb
   subst hb;exact ⟨x,y,h,⟨1,(one_mul a).symm⟩,⟨0,(zero_mul a).symm⟩⟩
  ·rename_i hb
   have hl:=len_mod a hb;obtain ⟨x',y',h1,⟨s,h2⟩,⟨t,h3⟩⟩:=bz_spec n b (a%b) x (u-a/b*x) y (v-a/b*y) (by omega) (h.step hb)
   refine ⟨x',y',h1,⟨a/b*s+t,?_⟩,⟨s,h2⟩⟩;generalize (bz n b (a%b) x (u-a/b*x) y (v-a/b*y)).1=d at *;have e:(a/b*s+t)*d=a/b*(s*d)+t*d:=ba [a/b,s,t,d] rfl;rw [e,←h2,←h3];exact div_mod a b
noncomputable def Pol.eu (a b:Pol K):Pol K×Pol K×Pol K:=bz b.len a b 1 0 0 1
noncomputable def Pol.bezout (a b:Pol K):Pol K×Pol K×Pol K:=
 let r:=eu a b
 (C (Fd.inv r.1.ld)*r.1,C (Fd.inv r.1.ld)*r.2.1,C (Fd.inv r.1.ld)*r.2.2)
noncomputable def Pol.gcd (a b:Pol K):Pol K:=(bezout a b).1
end
end Gq

namespace Pe
open Go Gq
variable {T:Nat→Option Fn} {A:ac}
theorem T3 {p:Int} (a:Fp p) (h:a.len≤64):trim (pad (row a))=row a:=ua fun i=>by rw [uu (by rw [b8]; exact h),e9]
theorem wk {l:List Int} {i:Nat} (h:i<l.length):l.take i++[l[i]]=l.take (i+1):=by
 rw [List.take_add_one,ah h]; rfl
theorem Oe {O:ac} {l:List Int} (hb:jz l) (hl:l.length=64):∀(m i:Nat) (cp:Option Nat),i+m=64 →
 dn O 0 (.loop Z1m_L0) ⟨[(3,.sl 1 [] 0 i cp),(6,(.d (.arr 64 .leaf (ae .u8 l)))),(7,(.d (.int .i64 i)))],[.hole,.sl false .leaf (ae .i64 (l.take i)),.hole,.hole]⟩ =
  some (.exit 0,⟨[(3,.sl 1 [] 0 64 (if m=0 then cp else none)),(6,(.d (.arr 64 .leaf (ae .u8 l)))),(7,(.d (.int .i64 64))),(8,(.d (.bool false)))],[.hole,.sl false .leaf (ae .i64 (l.take 64)),.hole,.hole]⟩)
 | 0,i,cp,hi=>by
  have:i=64:=by omega
  subst this;exact bi (by simp -implicitDefEqProofs [Z1m_L0,af])
 | m+1,i,cp,hi=>by
  have h1:(i:Int)<64:=by omega
  have hlt:i<l.length:=by omega
  have hx:l[i]? = some l[i]:=ah hlt;have hb':=hb _ (cx hlt);have w1:IntKind.i64.wrap l[i]=l[i]:=w64 (by omega)
  have w4:IntKind.i64.wrap ((i:Int)+1)=((i+1:Nat):Int):=(w64 (x:=(i:Int)+1) (by omega)).trans (by omega)
  have h8:(i+1)*8≤1099511627776:=by omega
  have hlen:i≤l.length:=by omega
  have ht:(l.take i).take i=l.take i:=by rw [List.take_take,Nat.min_self]
  have e1:ae .i64 (l.take i)++[D.int .i64 l[i]]=ae .i64 (l.take (i+1)):=by rw [←wk hlt,←u9]; rfl
  have ih:=Oe (O:=O) hb hl m (i+1) none (by omega)
  have e2:(if m=0 then (none:Option Nat) else none)=none:=by split <;> rfl
  rw [e2] at ih;rw [if_neg (Nat.succ_ne_zero m)];refine bh ?_ ih;simp -implicitDefEqProofs [Z1m_L0,af,h1,hlt,w1,w4,h8,hlen,ht,e1,List.replicate]
def Av (O:ac):Prop:=∀l:List Int,jz l→l.length=64→ask O F1m [(D.arr 64 .leaf (ae .u8 l))]=some (D.sl .leaf (ae .i64 (trim l)))
theorem Vx (hT:T F1m=some Z1m) (ht:ke (den T A)):Av (den T A):=by
 intro l hb hl;have e:=Oe (O:=den T A) hb hl 64 0 (some 0) (b9 _);have e0:((0:Nat):Int)=0:=rfl;rw [e0,il,ec,az (by omega)] at e
 have e1:=ht l (by omega)
 have ht:l.take 64=l:=az (by omega)
 refine bj hT rfl ?_;simp -implicitDefEqProofs [Z1m,Z1m_B,e,e1,hl,ht]
def B7 (O:ac):Prop:=∀(p:Int) [IsP p] (a:Fp p),a.len≤64→ask O F1m [(D.arr 64 .leaf (ae .u8 (pad (row a))))]=some (D.sl .leaf (ae .i64 (row a)))
theorem ze {p:Int} [IsP p] (a:Fp p):jz (pad (row a)):=fun x hx=>by
 obtain ⟨i,_,rfl⟩:=cd.1 hx;have:=(fu a).le IsP.pos i;have:=IsP.le (p:=p);omega
theorem Vw {O:ac} (h:Av O):B7 O:=fun p i a hl=>by
 rw [h _ (ze a) (bm _),T3 a hl]
def xi (O:ac):Prop:=∀(p:Int) [IsP p] (a b:Fp p),b≠0→a.len<5000→b.len<5000 →
 ask O F1h [(D.int .i64 p),(D.sl .leaf (ae .i64 (row a))),(D.sl .leaf (ae .i64 (row b)))]=some (D.sl .leaf (ae .i64 (row (a%b))))
theorem a05 (hT:T F1h=some Z1h) (hd:qq (den T A)):xi (den T A):=by
 intro p i a b hb h1 h2;have e:=hd p a b hb h1 h2;refine bj hT rfl ?_;simp -implicitDefEqProofs [Z1h,Z1h_B,e]
end Pe

namespace Pe
open Go Gq
variable {T:Nat→Option Fn} {A:ac}
section
variable {p:Int} [IsP p]
theorem vg:row (1:Fp p)=[1]:=by
 unfold row;rw [Pol.len_one];show [rep ((1:Fp p).c 0)]=[1];have:(1:Fp p).c 0=1:=rfl;rw [this,rep_one]
end
section
variable {p:Int}
theorem Cs (u z:Fp p):u+Pol.C (zp p (-1))*z=u-z:=by
 rw [Sr,Gx,Pol.C_neg,Pol.C_one];exact ba [u,z] rfl
end
section
variable {p:Int} [IsP p]
end
def ni (O:ac):Prop:=∀(p:Int) [IsP p] (a b:Fp p),a.len<1000000→b.len<1000000 →
 ask O F15 [(D.int .i64 p),(D.sl .leaf (ae .i64 (row a))),(D.sl .leaf (ae .i64 (row b))),(D.int .i64 (-1))]=some (D.sl .leaf (ae .i64 (row (a-b))))
theorem Lf {O:ac} (h:pk O):ni O:=fun p i a b h1 h2=>by
 rw [h p (-1) a b (by omega) (by omega) h1 h2,Cs]
section
variable {p:Int} [IsP p]
theorem Bt {A B a b u x v y:Fp p} (h:Pol.BzI A B a b u x v y) (hA:A.len≤2000) (hB:B.len≤2000) (ha:a.len≤2000) (hb:b.len≤2000) (hb0:b≠0) :
 u.len<3000∧v.len<3000∧x.len<3000∧y.len<3000∧(a/b).len<3000∧(a%b).len≤2000∧(a/b*x).len<3000∧(a/b*y).len<3000:=by
 have h1:=h.lu;have h2:=h.lv;have h3:=h.lx;have h4:=h.ly;have h5:=Pol.len_div_le a hb0;have h6:=Pol.len_mod_le a hb0;obtain ⟨h7,h8⟩:=h.qlen hb0;omega
theorem T5 {O:ac} (hd:qq O) (ht:t8 O) (hc:ni O) {A B:Fp p} (hA:A.len≤2000) (hB:B.len≤2000):∀(n:Nat) (a b u x v y:Fp p),b.len≤n→a.len≤2000→b.len≤2000→Pol.BzI A B a b u x v y→∃x' y',
 dn O 0 (.loop Z14_L0) ⟨[(0,(.d (.int .i64 p))),(1,(.d (.sl .leaf (ae .i64 (row a))))),(2,(.d (.sl .leaf (ae .i64 (row b))))),(9,(.d (.sl .leaf (ae .i64 (row u))))),(10,(.d (.sl .leaf (ae .i64 (row v))))),(11,(.d (.sl .leaf (ae .i64 (row x))))),(12,(.d (.sl .leaf (ae .i64 (row y)))))],[.hole,.hole]⟩ =
  some (.exit 0,⟨[(0,(.d (.int .i64 p))),(1,(.d (.sl .leaf (ae .i64 (row (Pol.bz n a b u x v y).1))))),(2,(.d (.sl .leaf (ae .i64 ([]))))),(9,(.d (.sl .leaf (ae .i64 (row (Pol.bz n a b u x v y).2.1))))),(10,(.d (.sl .leaf (ae .i64 (row (Pol.bz n a b u x v y).2.2))))),(11,(.d (.sl .leaf (ae .i64 x')))),(12,(.d (.sl .leaf (ae .i64 y')))),(20,(.d (.bool false)))],[.hole,.hole]⟩):=by
 intro n
 induction n with
 | zero=>
  intro a b u x v y hn ha hb hi;obtain rfl:=Pol.len_zero_iff.1 (show b.len=0 by omega)
  exact ⟨row x,row y,bi (by simp -implicitDefEqProofs [Z14_L0,af,cw,Pol.bz,ec])⟩
 | succ n ih=>
  intro a b u x v y hn ha hb hi;unfold Pol.bz
  by_cases h0:b=0
  ·subst h0
   rw [if_pos rfl];exact ⟨row x,row y,bi (by simp -implicitDefEqProofs [Z14_L0,af,cw,ec])⟩
  ·rw [if_neg h0]
   obtain ⟨s1,s2,s3,s4,s5,s6,s7,s8⟩:=Bt hi hA hB ha hb h0;have hl:=Pol.len_mod a h0;have hp:=Pol.len_pos h0;obtain ⟨x',y',e⟩:=ih b (a%b) x (u-a/b*x) y (v-a/b*y) (by omega) hb s6 (hi.step h0)
   refine ⟨x',y',bh ?_ e⟩;have e1:=hd p a b h0 (by omega) (by omega)
   have e2:=ht p (a/b) x (by omega) (by omega)
   have e3:=hc p u (a/b*x) (by omega) (by omega)
   have e4:=ht p (a/b) y (by omega) (by omega)
   have e5:=hc p v (a/b*y) (by omega) (by omega)
   simp -implicitDefEqProofs [Z14_L0,af,hp,e1,e2,e3,e4,e5]
end
def Ct (O:ac):Prop:=∀(p:Int) [IsP p] (a b:Fp p),(a≠0∨b≠0)→a.len≤2000→b.len≤2000 →
 ask O F14 [(D.int .i64 p),(D.sl .leaf (ae .i64 (row a))),(D.sl .leaf (ae .i64 (row b)))]=some (.tup [(D.sl .leaf (ae .i64 (row (Pol.bezout a b).1))),(D.sl .leaf (ae .i64 (row (Pol.bezout a b).2.1))),(D.sl .leaf (ae .i64 (row (Pol.bezout a b).2.2)))])
theorem ur {p:Int} [IsP p] (x:Zp p) (hx:x≠0):zp p (inv p (rep x))=Fd.inv x:=by
 have h0:=gw x;have h1:rep x≠0:=fun h=>hx (fy.1 h)
 have h2:x*zp p (inv p (rep x))=1:=by
  have:zp p (rep x*inv p (rep x))=1:=by rw [←sn,Rw p _ (by omega) h0.2]; rfl
  rwa [tv,g9] at this
 have h3:=Fd.mul_inv x hx;have:Fd.inv x*(x*zp p (inv p (rep x)))=Fd.inv x*1:=by rw [h2]
 rw [←Gq.mul_assoc,Gq.mul_comm (Fd.inv x),h3,Gq.one_mul,Gq.mul_one] at this;exact this
theorem To (hT:T F14=some Z14) (hd:qq (den T A)) (ht:t8 (den T A)) (hc:ni (den T A)) (hld:ug (den T A)) (hinv:n8 (den T A)) (hs:vw (den T A)):Ct (den T A):=by
 intro p i a b hab ha hb;have hp:=IsP.ge (p:=p);have hp7:=IsP.le (p:=p)
 -- the end
 have last:∀{x y:Fp p} {a' u v:Fp p},Pol.BzI a b a' 0 u x v y→ask (den T A) F1p [(D.sl .leaf (ae .i64 (row a')))]=some (D.int .i64 (rep a'.ld))∧ask (den T A) F1a [(D.int .i64 p),(D.int .i64 (rep a'.ld))]=some (D.int .i64 (inv p (rep a'.ld))) ∧
  ask (den T A) F1i [(D.int .i64 p),(D.sl .leaf (ae .i64 (row a'))),(D.int .i64 (inv p (rep a'.ld)))]=some (D.sl .leaf (ae .i64 (row (Pol.C (Fd.inv a'.ld)*a'))))∧ask (den T A) F1i [(D.int .i64 p),(D.sl .leaf (ae .i64 (row u))),(D.int .i64 (inv p (rep a'.ld)))]=some (D.sl .leaf (ae .i64 (row (Pol.C (Fd.inv a'.ld)*u))))∧ask (den T A) F1i [(D.int .i64 p),(D.sl .leaf (ae .i64 (row v))),(D.int .i64 (inv p (rep a'.ld)))]=some (D.sl .leaf (ae .i64 (row (Pol.C (Fd.inv a'.ld)*v)))):=by
  intro x y a' u v hi;have ha0:a'≠0:=hi.any.resolve_right (fun h=>h rfl)
  have hr:=gw a'.ld;have hin:=xj p (rep a'.ld);have h1:=hi.lu;have h2:=hi.lv;rw [Pol.len_zero] at h1 h2
  have hal:a'.len<5000:=by
   have:=Pol.len_add_le (a:=u*a) (b:=v*b) (n:=4500) (by
    by_cases hu:u=0
    ·rw [hu,Gq.zero_mul,Pol.len_zero]; omega
    ·by_cases ha0:a=0
     ·rw [ha0,Gq.mul_zero,Pol.len_zero]; omega
     ·have:=Pol.len_mul hu ha0; omega) (by
    by_cases hu:v=0
    ·rw [hu,Gq.zero_mul,Pol.len_zero]; omega
    ·by_cases ha0:b=0
     ·rw [ha0,Gq.mul_zero,Pol.len_zero]; omega
     ·have:=Pol.len_mul hu ha0; omega)
   rw [hi.one] at this;omega
  have e1:=hld (row a') (by rw [b8]; omega)
  rw [Bf] at e1;have e2:=hinv p (rep a'.ld) (by omega) (by omega) hr.1 hr.2
  have e3:=hs p (inv p (rep a'.ld)) a' (by omega) (by omega) (by omega)
  have e4:=hs p (inv p (rep a'.ld)) u (by omega) (by omega) (by omega)
  have e5:=hs p (inv p (rep a'.ld)) v (by omega) (by omega) (by omega)
  rw [ur _ (Pol.ld_ne ha0)] at e3 e4 e5;exact ⟨e1,e2,e3,e4,e5⟩
 have I0:=Pol.BzI.init (A:=a) (B:=b) hab;refine bj hT rfl ?_;unfold Pol.bezout Pol.eu
 by_cases h0:b=0
 ·subst h0
  have l0:=bi (O:=den T A) (np:=0) (c:=Z14_L0) (s:=⟨[(0,(.d (.int .i64 p))),(1,(.d (.sl .leaf (ae .i64 (row a))))),(2,(.d (.sl .leaf (ae .i64 ([]))))),(9,.sl 0 [] 0 1 (some 1)),(10,(.d (.sl .leaf (ae .i64 ([]))))),(11,(.d (.sl .leaf (ae .i64 ([]))))),(12,.sl 1 [] 0 1 (some 1))],[.sl false .leaf (ae .i64 [1]),.sl false .leaf (ae .i64 [1])]⟩) (s1:=⟨[(0,(.d (.int .i64 p))),(1,(.d (.sl .leaf (ae .i64 (row a))))),(2,(.d (.sl .leaf (ae .i64 ([]))))),(9,.sl 0 [] 0 1 (some 1)),(10,(.d (.sl .leaf (ae .i64 ([]))))),(11,(.d (.sl .leaf (ae .i64 ([]))))),(12,.sl 1 [] 0 1 (some 1)),(20,(.d (.bool false)))],[.sl false .leaf (ae .i64 [1]),.sl false .leaf (ae .i64 [1])]⟩) (id:=0) (by simp -implicitDefEqProofs [Z14_L0,af,ec])
  obtain ⟨e1,e2,e3,e4,e5⟩:=last I0;rw [vg] at e4;rw [cw] at e5;rw [ec] at l0 e5;rw [Pol.len_zero];have o1:D.int IntKind.i64 1::[]=ae .i64 [1]:=rfl;simp -implicitDefEqProofs [Z14,Z14_B,cw,ec,Pol.bz,e1,e2,e3,e4,e5,l0,o1,List.replicate]
 ·have hp0:=Pol.len_pos h0
  have I1:=I0.step h0;obtain ⟨_,_,_,_,q5,q6,q7,q8⟩:=Bt I0 ha hb ha hb h0;have l0:=hd p a b h0 (by omega) (by omega)
  have l1:=ht p (a/b) 0 (by omega) (by rw [Pol.len_zero]; omega)
  have l2:=ht p (a/b) 1 (by omega) (by rw [Pol.len_one]; omega)
  have l3:=hc p 1 (a/b*0) (by rw [Pol.len_one]; omega) (by omega)
  have l4:=hc p 0 (a/b*1) (by rw [Pol.len_zero]; omega) (by omega)
  rw [vg] at l2 l3;rw [cw,ec] at l1 l4
  have st1:dn (den T A) 0 Z14_L0 ⟨[(0,(.d (.int .i64 p))),(1,(.d (.sl .leaf (ae .i64 (row a))))),(2,(.d (.sl .leaf (ae .i64 (row b))))),(9,.sl 0 [] 0 1 (some 1)),(10,.d (.sl .leaf [])),(11,.d (.sl .leaf [])),(12,.sl 1 [] 0 1 (some 1))],[.sl false .leaf (ae .i64 [1]),.sl false .leaf (ae .i64 [1])]⟩ =
   some (.normal,⟨[(0,(.d (.int .i64 p))),(1,(.d (.sl .leaf (ae .i64 (row b))))),(2,(.d (.sl .leaf (ae .i64 (row (a%b)))))),(9,.d (.sl .leaf [])),(10,.sl 1 [] 0 1 (some 1)),(11,(.d (.sl .leaf (ae .i64 (row (1-a/b*0)))))),(12,(.d (.sl .leaf (ae .i64 (row (0-a/b*1))))))],[.hole,.sl true .leaf (ae .i64 [1])]⟩):=by
   simp -implicitDefEqProofs [Z14_L0,af,hp0,l0,l1,l2,l3,l4]
  by_cases h1:a%b=0
  ·have st2:dn (den T A) 0 Z14_L0 ⟨[(0,(.d (.int .i64 p))),(1,(.d (.sl .leaf (ae .i64 (row b))))),(2,(.d (.sl .leaf (ae .i64 (row (a%b)))))),(9,.d (.sl .leaf [])),(10,.sl 1 [] 0 1 (some 1)),(11,(.d (.sl .leaf (ae .i64 (row (1-a/b*0)))))),(12,(.d (.sl .leaf (ae .i64 (row (0-a/b*1))))))],[.hole,.sl true .leaf (ae .i64 [1])]⟩ =
    some (.exit 0,⟨[(0,(.d (.int .i64 p))),(1,(.d (.sl .leaf (ae .i64 (row b))))),(2,(.d (.sl .leaf (ae .i64 (row (a%b)))))),(9,.d (.sl .leaf [])),(10,.sl 1 [] 0 1 (some 1)),(11,(.d (.sl .leaf (ae .i64 (row (1-a/b*0)))))),(12,(.d (.sl .leaf (ae .i64 (row (0-a/b*1)))))),(20,(.d (.bool false)))],[.hole,.sl true .leaf (ae .i64 [1])]⟩):=by
    simp -implicitDefEqProofs [Z14_L0,af,h1,cw]
   have lp:=bh st1 (bi st2)
   have hb1:Pol.bz b.len a b 1 0 0 1=(b,0,1):=by
    rw [show b.len=(b.len-1)+1 by omega,Pol.bz,if_neg h0]
    cases hn:b.len-1 with
    | zero=>rfl
    | succ n=>rw [Pol.bz,if_pos h1]
   rw [hb1];have I1':Pol.BzI a b b 0 0 (1-a/b*0) 1 (0-a/b*1):=h1▸I1;obtain ⟨e1,e2,e3,e4,e5⟩:=last I1';rw [vg] at e5;rw [cw,ec] at e4;have o1:D.int IntKind.i64 1::[]=ae .i64 [1]:=rfl;simp -implicitDefEqProofs [Z14,Z14_B,e1,e2,e3,e4,e5,lp,o1,List.replicate]
  ·have hp1:=Pol.len_pos h1
   have hl1:=Pol.len_mod a h0;obtain ⟨s1,s2,s3,s4,s5,s6,s7,s8⟩:=Bt I1 ha hb hb (by omega) h1
   have m0:=hd p b (a%b) h1 (by omega) (by omega)
   have m1:=ht p (b/(a%b)) (1-a/b*0) (by omega) (by omega)
   have m2:=ht p (b/(a%b)) (0-a/b*1) (by omega) (by omega)
   have m3:=hc p 0 (b/(a%b)*(1-a/b*0)) (by omega) (by omega)
   have m4:=hc p 1 (b/(a%b)*(0-a/b*1)) (by omega) (by omega)
   rw [vg] at m4;rw [cw,ec] at m3
   have st2:dn (den T A) 0 Z14_L0 ⟨[(0,(.d (.int .i64 p))),(1,(.d (.sl .leaf (ae .i64 (row b))))),(2,(.d (.sl .leaf (ae .i64 (row (a%b)))))),(9,.d (.sl .leaf [])),(10,.sl 1 [] 0 1 (some 1)),(11,(.d (.sl .leaf (ae .i64 (row (1-a/b*0)))))),(12,(.d (.sl .leaf (ae .i64 (row (0-a/b*1))))))],[.hole,.sl true .leaf (ae .i64 [1])]⟩ =
    some (.normal,⟨[(0,(.d (.int .i64 p))),(1,(.d (.sl .leaf (ae .i64 (row (a%b)))))),(2,(.d (.sl .leaf (ae .i64 (row (b%(a%b))))))),(9,(.d (.sl .leaf (ae .i64 (row (1-a/b*0)))))),(10,(.d (.sl .leaf (ae .i64 (row (0-a/b*1)))))),(11,(.d (.sl .leaf (ae .i64 (row (0-b/(a%b)*(1-a/b*0))))))),(12,(.d (.sl .leaf (ae .i64 (row (1-b/(a%b)*(0-a/b*1)))))))],[.hole,.hole]⟩):=by
    simp -implicitDefEqProofs [Z14_L0,af,hp1,m0,m1,m2,m3,m4]
   have I2:=I1.step h1;have hl2:=Pol.len_mod b h1;obtain ⟨x',y',e⟩:=T5 hd ht hc ha hb (b.len-2) _ _ _ _ _ _ (by omega) (by omega) (by omega) I2
   have lp:=bh st1 (bh st2 e)
   have hb1:Pol.bz b.len a b 1 0 0 1=Pol.bz (b.len-2) (a%b) (b%(a%b)) (1-a/b*0) (0-b/(a%b)*(1-a/b*0)) (0-a/b*1) (1-b/(a%b)*(0-a/b*1)):=by
    rw [show b.len=(b.len-2+1)+1 by omega,Pol.bz,if_neg h0,Pol.bz,if_neg h1]
    rfl
   rw [hb1];obtain ⟨x2,y2,I3,_,_⟩:=Pol.bz_spec (b.len-2) _ _ _ _ _ _ (by omega) I2
   obtain ⟨e1,e2,e3,e4,e5⟩:=last I3;have o1:D.int IntKind.i64 1::[]=ae .i64 [1]:=rfl;simp -implicitDefEqProofs [Z14,Z14_B,ec,e1,e2,e3,e4,e5,lp,o1,List.replicate]
end Pe

namespace Pe
open Go Gq
variable {T:Nat→Option Fn} {A:ac}
def Ij (O:ac):Prop:=∀(p:Int) [IsP p] (a b:Fp p),(a≠0∨b≠0)→a.len≤2000→b.len≤2000 →
 ask O F19 [(D.int .i64 p),(D.sl .leaf (ae .i64 (row a))),(D.sl .leaf (ae .i64 (row b)))]=some (D.sl .leaf (ae .i64 (row (Pol.gcd a b))))
theorem a3u (hT:T F19=some Z19) (hb:Ct (den T A)):Ij (den T A):=by
 intro p i a b hab h1 h2;have e:=hb p a b hab h1 h2;refine bj hT rfl ?_;simp -implicitDefEqProofs [Z19,Z19_B,e,Pol.gcd]
theorem a70 (x:Int) (_h:0≤x):((BitVec.ofInt 64 x &&& 1#64).toNat:Int)=x%2:=by
 rw [BitVec.toNat_and];have e:(1#64).toNat=2^1-1:=rfl;rw [e,Nat.and_two_pow_sub_one_eq_mod,BitVec.toNat_ofInt];omega
theorem W1 (x:Int) (h:0≤x):a2p .i64 x 1=x%2:=by
 show IntKind.i64.wrap ((BitVec.ofInt 64 x &&& 1#64).toNat:Int)=_;rw [a70 x h,w64 (by omega)]
theorem Wc (x:Int):x9 .shr .i64 x 1=some (.int .i64 (x/2)):=by
 show (if (1:Int)<0 then none else some (D.int .i64 (x.fdiv (2^min (1:Int).toNat 64))))=_
 rw [if_neg (by omega)]
 congr 2
 show x.fdiv 2=x/2;rw [Int.fdiv_eq_ediv_of_nonneg _ (by omega)]
theorem W7 {O:ac} (hr:xi O) (ht:t8 O) {p:Int} [IsP p] {m:Fp p} (hm:m≠0) (hml:m.len<2000):∀(n:Nat) (k:Int) (out base:Fp p),0≤k→k.toNat<2^n→k<4611686018427387904→out.len<m.len→base.len<m.len→∃base':List Int,
 dn O 0 (.loop Z1f_L0) ⟨[(0,(.d (.int .i64 p))),(2,(.d (.int .i64 k))),(3,(.d (.sl .leaf (ae .i64 (row m))))),(9,(.d (.sl .leaf (ae .i64 (row out))))),(10,(.d (.sl .leaf (ae .i64 (row base)))))],[.hole]⟩ =
  some (.exit 0,⟨[(0,(.d (.int .i64 p))),(2,(.d (.int .i64 0))),(3,(.d (.sl .leaf (ae .i64 (row m))))),(9,(.d (.sl .leaf (ae .i64 (row (out*pw base k.toNat%m)))))),(10,(.d (.sl .leaf (ae .i64 base')))),(20,(.d (.bool false)))],[.hole]⟩):=by
 intro n
 induction n with
 | zero=>
  intro k out base hk hn _ ho hb;obtain rfl:k=0:=by simp at hn; omega
  refine ⟨row base,?_⟩
  have e:out*pw base (0:Int).toNat%m=out:=by
   show out*1%m=out;rw [Gq.mul_one,Pol.mod_small ho]
  rw [e];exact bi (by simp -implicitDefEqProofs [Z1f_L0,af])
 | succ n ih=>
  intro k out base hk hn hkm ho hb
  by_cases h0:k=0
  ·subst h0
   refine ⟨row base,?_⟩
   have e:out*pw base (0:Int).toNat%m=out:=by
    show out*1%m=out;rw [Gq.mul_one,Pol.mod_small ho]
   rw [e];exact bi (by simp -implicitDefEqProofs [Z1f_L0,af])
  ·have hkp:0<k:=by omega
   have hlen:∀x y:Fp p,x.len<m.len→y.len<m.len→(x*y).len<5000:=fun x y hx hy=>by
    have:=Pol.len_le (Pol.lt_mul x.lt_len y.lt_len);omega
   have t1:=ht p out base (by omega) (by omega)
   have t2:=ht p base base (by omega) (by omega)
   have r1:=hr p (out*base) m hm (hlen _ _ ho hb) (by omega)
   have r2:=hr p (base*base) m hm (hlen _ _ hb hb) (by omega)
   have s:=Pol.bin_step (out:=out) (base:=base) hm k.toNat (by omega)
   have hdiv:(k/2).toNat=k.toNat/2:=by omega
   obtain ⟨b',e⟩:=ih (k/2) (if k.toNat%2=1 then out*base%m else out) (base*base%m) (by omega) (by rw [df] at hn; omega) (by omega) (by split; exact Pol.len_mod _ hm; exact ho) (Pol.len_mod _ hm)
   rw [hdiv,s] at e;refine ⟨b',bh ?_ e⟩;have ea:=W1 k (by omega)
   have es:=Wc k
   by_cases hodd:k%2=1
   ·rw [if_pos (show k.toNat%2=1 by omega)]
    simp -implicitDefEqProofs [Z1f_L0,af,hkp,t1,t2,r1,r2,ea,es,hodd]
   ·rw [if_neg (show ¬ k.toNat%2=1 by omega)]
    simp -implicitDefEqProofs [Z1f_L0,af,hkp,t2,r2,ea,es,hodd]
def y8 (O:ac):Prop:=∀(p:Int) [IsP p] (a:Fp p) (k:Int) (m:Fp p),m≠0→a.len<5000→m.len<2000→0≤k→k<4611686018427387904 →
 ask O F1f [(D.int .i64 p),(D.sl .leaf (ae .i64 (row a))),(D.int .i64 k),(D.sl .leaf (ae .i64 (row m)))]=some (D.sl .leaf (ae .i64 (row (pw a k.toNat%m))))
theorem Wo (hT:T F1f=some Z1f) (hr:xi (den T A)) (ht:t8 (den T A)):y8 (den T A):=by
 intro p i a k m hm ha hml hk hkm;have r1:=hr p 1 m hm (by rw [Pol.len_one]; omega) (by omega)
 rw [vg] at r1;have r2:=hr p a m hm (by omega) (by omega)
 obtain ⟨b',e⟩:=W7 hr ht hm hml 62 k (1%m) (a%m) hk (by omega) hkm (Pol.len_mod _ hm) (Pol.len_mod _ hm)
 have e2:1%m*pw (a%m) k.toNat%m=pw a k.toNat%m:=by
  rw [Pol.mul_mod_left _ _ hm,Gq.one_mul,Pol.pow_mod _ hm]
 rw [e2] at e;have o1:D.int IntKind.i64 1::[]=ae .i64 [1]:=rfl;refine bj hT rfl ?_;simp -implicitDefEqProofs [Z1f,Z1f_B,r1,r2,e,o1,List.replicate]
def s9 (p most:Int):Nat→Int→Int
 | 0,out=>out
 | n+1,out=>if out > most then out else s9 p most n (out*p)
theorem Ua {O:ac} {p:Int} [IsP p] {most nn:Int} (hmost:most≤1152921504606846976):∀(n:Nat) (i:Int) (out:Int),i+n=nn→-1000000<i→nn<1000000→0≤out→out≤8070450532247928832→∃(i':Int) (b:List (Nat×V)),
 dn O 0 (.loop Z1d_L0) ⟨[(0,(.d (.int .i64 p))),(2,(.d (.int .i64 most))),(7,(.d (.int .i64 out))),(8,(.d (.int .i64 nn))),(9,(.d (.int .i64 i)))],[]⟩ =
  some (.exit 0,⟨[(0,(.d (.int .i64 p))),(2,(.d (.int .i64 most))),(7,(.d (.int .i64 (s9 p most n out)))),(8,(.d (.int .i64 nn))),(9,(.d (.int .i64 i')))]++b,[]⟩)
 | 0,i,out,hi,h1,h2,ho,ho2=>by
  have:i=nn:=by omega
  subst this;exact ⟨i,[(10,(.d (.bool false)))],bi (by simp -implicitDefEqProofs [Z1d_L0,af,s9])⟩
 | n+1,i,out,hi,h1,h2,ho,ho2=>by
  have hlt:i<nn:=by omega
  have hp:=IsP.le (p:=p);have hp2:=IsP.pos (p:=p)
  by_cases hm:most<out
  ·exact ⟨i,[(13,(.d (.bool true)))],bi (by simp -implicitDefEqProofs [Z1d_L0,af,s9,hlt,hm])⟩
  ·have hmul:0≤out*p∧out*p≤8070450532247928832:=by
    refine ⟨ce ho (by omega),?_⟩
    have:out*p≤out*7:=b4 hp ho;omega
   obtain ⟨i',b,e⟩:=Ua (O:=O) (p:=p) (nn:=nn) hmost n (i+1) (out*p) (by omega) (by omega) h2 hmul.1 hmul.2
   have w1:IntKind.i64.wrap (out*p)=out*p:=w64 (by omega)
   have w2:IntKind.i64.wrap (i+1)=i+1:=w64 (by omega)
   refine ⟨i',b,bh (s1:=⟨[(0,(.d (.int .i64 p))),(2,(.d (.int .i64 most))),(7,(.d (.int .i64 (out*p)))),(8,(.d (.int .i64 nn))),(9,(.d (.int .i64 (i+1))))],[]⟩) (by simp -implicitDefEqProofs [Z1d_L0,af,hlt,hm,w1,w2]) ?_⟩
   rw [e,s9,if_neg (by omega)]
def Db (O:ac):Prop:=∀(p:Int) [IsP p] (n:Nat) (most:Int),n<1000000→most≤1152921504606846976→ask O F1d [(D.int .i64 p),(D.int .i64 n),(D.int .i64 most)]=some (D.int .i64 (s9 p most n 1))
theorem a02 (hT:T F1d=some Z1d):Db (den T A):=by
 intro p i n most hn hm;obtain ⟨i',b,e⟩:=Ua (O:=den T A) (p:=p) (nn:=(n:Int)) hm n 0 1 (by omega) (by omega) (by omega) (by omega) (by omega)
 refine bj hT rfl ?_;simp -implicitDefEqProofs [Z1d,Z1d_B,e]
end Pe

namespace Pe
open Go Gq
variable {T:Nat→Option Fn} {A:ac}
def dgs (p:Int):Nat→Int→List Int
 | 0,_=>[]
 | f+1,n=>if n≤0 then [] else n%p::dgs p f (n/p)
def bx (p n:Int):Fp p:=dj p (dgs p 64 n)
theorem Po {p:Int} [IsP p]:∀f n,Can p (dgs p f n)
 | 0,n=>fun x hx=>by simp [dgs] at hx
 | f+1,n=>fun x hx=>by
  unfold dgs at hx
  split at hx
  ·simp at hx
  ·have hp:=IsP.pos (p:=p)
   rcases cr.1 hx with rfl | hx
   ·exact ⟨c8 _ (by omega),bq _ hp⟩
   ·exact Po f _ x hx
theorem Dm {p n:Int} [IsP p] (h:0<n) (h2:n/p=0):n%p≠0:=by
 have h3:=Int.mul_ediv_add_emod n p;rw [h2] at h3;simp at h3;omega
theorem J8 {p:Int} [IsP p]:∀(f:Nat) (n:Int),n<2^f→dgs p f n=[]∨cf (dgs p f n) ((dgs p f n).length-1)≠0
 | 0,n,h=>.inl rfl
 | f+1,n,h=>by
  by_cases h0:n≤0
  ·left; simp [dgs,h0]
  ·right
   have hp:=IsP.ge (p:=p)
   have hd:n/p<2^f:=by
    apply dl (by omega)
    have:(2:Int)^(f+1)=2^f*2:=c9 _ _;have h2:(2:Int)^f*2≤2^f*p:=b4 hp (k9 (by omega))
    omega
   have e:dgs p (f+1) n=n%p::dgs p f (n/p):=by simp [dgs,h0]
   rw [e];have hdn:0≤n/p:=gr (by omega) (by omega)
   rcases J8 (p:=p) f (n/p) hd with h1 | h1
   ·rw [h1]
    show n%p≠0
    by_cases hz:n/p=0
    ·exact Dm (p:=p) (show 0<n by omega) hz
    ·exfalso
     cases f with
     | zero=>simp at hd; omega
     | succ f=>
      rw [dgs,if_neg (by omega)] at h1
      cases h1
   ·cases hq:dgs p f (n/p) with
    | nil=>rw [hq] at h1; simp [cf] at h1
    | cons a l=>
     rw [hq] at h1
     simpa [cf] using h1
theorem Ig {p:Int} [IsP p] {l:List Int} (h:Can p l) (hl:l=[]∨cf l (l.length-1)≠0):row (dj p l)=l:=by
 rw [←k8 h];unfold trim
 have:mc l l.length=l.length:=by
  cases hn:l.length with
  | zero=>rfl
  | succ n=>
   rcases hl with h0 | h0
   ·rw [h0] at hn; simp at hn
   ·rw [hn,Nat.add_sub_cancel] at h0
    rw [mc,if_neg h0]
 rw [this,im]
theorem C9 {p:Int} [IsP p] {n:Int} (h:n<18446744073709551616):row (bx p n)=dgs p 64 n:=Ig (Po 64 n) (J8 64 n (by simpa using h))
theorem Lh (p:Int):∀f n,(dgs p f n).length≤f
 | 0,n=>by simp [dgs]
 | f+1,n=>by
  unfold dgs
  split
  ·simp
  ·have:=Lh p f (n/p); simp; omega
theorem um {p:Int} (n:Int):(bx p n).len≤64:=ko (Pol.len_le (yn _)) (Lh p 64 n)
theorem Bh {O:ac} {p:Int} [IsP p]:∀(f:Nat) (n:Int) (cur:List Int) (cp:Option Nat),0≤n→n<2^f→n<9223372036854775807→cur.length+f<1000→∃cp',
 dn O 0 (.loop Z1e_L0) ⟨[(0,(.d (.int .i64 p))),(1,(.d (.int .i64 n))),(5,.sl 0 [] 0 cur.length cp)],[.sl false .leaf (ae .i64 cur),.hole,.hole]⟩ =
  some (.exit 0,⟨[(0,(.d (.int .i64 p))),(1,(.d (.int .i64 0))),(5,.sl 0 [] 0 (cur++dgs p f n).length cp'),(7,(.d (.bool false)))],[.sl false .leaf (ae .i64 (cur++dgs p f n)),.hole,.hole]⟩)
 | 0,n,cur,cp,h0,hn,hm,hl=>by
  obtain rfl:n=0:=by simp at hn; omega
  refine ⟨cp,?_⟩;rw [dgs,jk];exact bi (by simp -implicitDefEqProofs [Z1e_L0,af])
 | f+1,n,cur,cp,h0,hn,hm,hl=>by
  have hp:=IsP.ge (p:=p);have hp7:=IsP.le (p:=p)
  by_cases hz:n=0
  ·subst hz
   refine ⟨cp,?_⟩;rw [dgs,if_pos (rg 0),jk];exact bi (by simp -implicitDefEqProofs [Z1e_L0,af])
  ·have hd:n/p<2^f:=by
    apply dl (by omega)
    have:(2:Int)^(f+1)=2^f*2:=c9 _ _;have h2:(2:Int)^f*2≤2^f*p:=b4 hp (k9 (by omega))
    omega
   have hdn:0≤n/p:=gr (by omega) (by omega)
   have hdl:n/p≤n:=Int.ediv_le_self _ h0;obtain ⟨cp',e⟩:=Bh (O:=O) (p:=p) f (n/p) (cur++[n%p]) none hdn hd (by omega) (by simp; omega)
   have hpos:0<n:=by omega
   have w1:IntKind.i64.wrap (n.tdiv p)=n/p:=by rw [bn h0,w64 (by omega)]
   have w2:n.tmod p=n%p:=br h0;have hp0:p≠0:=by omega
   have h8:(cur.length+1)*8≤1099511627776:=by omega
   have o1:ae .i64 cur++[D.int .i64 (n%p)]=ae .i64 (cur++[n%p]):=by rw [←u9]; rfl
   refine ⟨cp',?_⟩;rw [dgs,if_neg (by omega),show cur++n%p::dgs p f (n/p)=(cur++[n%p])++dgs p f (n/p) by simp]
   refine bh ?_ e;simp -implicitDefEqProofs [Z1e_L0,af,hpos,w1,w2,hp0,h8,o1,List.replicate]
def ix (O:ac):Prop:=∀(p:Int) [IsP p] (n:Int),0≤n→n<4611686018427387904→ask O F1e [(D.int .i64 p),(D.int .i64 n)]=some (D.sl .leaf (ae .i64 (row (bx p n))))
theorem Mv (hT:T F1e=some Z1e):ix (den T A):=by
 intro p i n h0 hn;obtain ⟨cp,e⟩:=Bh (O:=den T A) (p:=p) 64 n [] (some 0) h0 (by omega) (by omega) (by simp)
 rw [C9 (by omega)]
 rw [ec,ew] at e;have e0:(([]:List Int).length:Nat)=0:=rfl;rw [e0] at e;refine bj hT rfl ?_;simp -implicitDefEqProofs [Z1e,Z1e_B,e]
theorem Jv {p most:Int} [IsP p] (hm:1≤most):∀(n:Nat) (out:Int),0<out→out≤most*7→0<s9 p most n out∧s9 p most n out≤most*7
 | 0,out,h1,h2=>⟨h1,h2⟩
 | n+1,out,h1,h2=>by
  unfold s9
  split
  ·exact ⟨h1,h2⟩
  ·have hp:=IsP.pos (p:=p)
   have hp7:=IsP.le (p:=p);refine Jv hm n (out*p) (Int.mul_pos h1 hp) ?_;have:out*p≤out*7:=b4 hp7 (by omega)
   omega
theorem Mf (n:Nat) {α:Type} (f:Nat→α):(List.range n).map f++[f n]=(List.range (n+1)).map f:=by rw [List.range_succ,ou]; rfl
theorem Js {O:ac} (hn:ix O) {p:Int} [IsP p] {many:Nat} (hmany:many<100000):∀(m i:Nat) (cp:Option Nat),i+m=many→∃cp',
 dn O 0 (.loop Z1c_L0) ⟨[(0,(.d (.int .i64 p))),(5,(.d (.int .i64 many))),(6,.sl 0 [] 0 i cp),(11,(.d (.int .i64 many))),(12,(.d (.int .i64 i)))],[.sl false .leaf ((List.range i).map fun (k:Nat)=>(D.sl .leaf (ae .i64 (row (bx p ((many:Int)+k)))))),.hole,.hole]⟩ =
  some (.exit 0,⟨[(0,(.d (.int .i64 p))),(5,(.d (.int .i64 many))),(6,.sl 0 [] 0 many cp'),(11,(.d (.int .i64 many))),(12,(.d (.int .i64 many))),(13,(.d (.bool false)))],[.sl false .leaf ((List.range many).map fun (k:Nat)=>(D.sl .leaf (ae .i64 (row (bx p ((many:Int)+k)))))),.hole,.hole]⟩)
 | 0,i,cp,hi=>by
  obtain rfl:i=many:=by omega
  exact ⟨cp,bi (by simp -implicitDefEqProofs [Z1c_L0,af])⟩
 | m+1,i,cp,hi=>by
  obtain ⟨cp',e⟩:=Js hn (p:=p) hmany m (i+1) none (by omega)
  have hlt:i<many:=by omega
  have w1:IntKind.i64.wrap ((many:Int)+i)=(many:Int)+i:=w64 (by omega)
  have w4:IntKind.i64.wrap ((i:Int)+1)=((i+1:Nat):Int):=(w64 (x:=(i:Int)+1) (by omega)).trans (by omega)
  have e1:=hn p ((many:Int)+i) (by omega) (by omega)
  have h8:(i+1)*24≤1099511627776:=by omega
  have ht:((List.range i).map fun (k:Nat)=>(D.sl .leaf (ae .i64 (row (bx p ((many:Int)+k)))))).take i=(List.range i).map fun (k:Nat)=>(D.sl .leaf (ae .i64 (row (bx p ((many:Int)+k))))):=az (by simp)
  have o1:=Mf i fun (k:Nat)=>(D.sl .leaf (ae .i64 (row (bx p ((many:Int)+k)))))
  refine ⟨cp',bh ?_ e⟩;have hL:((List.range i).map fun (k:Nat)=>(D.sl .leaf (ae .i64 (row (bx p ((many:Int)+k)))))).length=i:=by simp
  rw [←o1];generalize (List.range i).map (fun (k:Nat)=>(D.sl .leaf (ae .i64 (row (bx p ((many:Int)+k))))))=L at *
  simp -implicitDefEqProofs [Z1c_L0,af,hlt,w1,w4,e1,h8,ht,hL,List.replicate]
def C0 (O:ac):Prop:=∀(p:Int) [IsP p] (n:Nat),n<1000000→∃many:Nat,(many:Int)=s9 p 343 n 1∧many≤2401 ∧
 ask O F1c [(D.int .i64 p),(D.int .i64 n)]=some (.sl .leaf ((List.range many).map fun (k:Nat)=>(D.sl .leaf (ae .i64 (row (bx p ((many:Int)+k)))))))
theorem S3 (hT:T F1c=some Z1c) (hno:Db (den T A)) (hnu:ix (den T A)):C0 (den T A):=by
 intro p i n hn;have h1:=Jv (p:=p) (most:=343) (by omega) n 1 (by omega) (by omega)
 obtain ⟨many,hm⟩:=Int.eq_ofNat_of_zero_le (show 0≤s9 p 343 n 1 by omega)
 refine ⟨many,hm.symm,by omega,?_⟩
 have e1:=hno p n 343 hn (by omega)
 rw [hm] at e1;obtain ⟨cp',e⟩:=Js hnu (p:=p) (many:=many) (by omega) many 0 (some 0) (b9 _)
 have e0:((0:Nat):Int)=0:=rfl;rw [e0,List.range_zero,List.map_nil] at e;have hL:((List.range many).map fun (k:Nat)=>(D.sl .leaf (ae .i64 (row (bx p ((many:Int)+k)))))).length=many:=by simp
 have ht:((List.range many).map fun (k:Nat)=>(D.sl .leaf (ae .i64 (row (bx p ((many:Int)+k)))))).take many=(List.range many).map fun (k:Nat)=>(D.sl .leaf (ae .i64 (row (bx p ((many:Int)+k))))):=az (by simp)
 refine bj hT rfl ?_;generalize (List.range many).map (fun (k:Nat)=>(D.sl .leaf (ae .i64 (row (bx p ((many:Int)+k))))))=L at *
 simp -implicitDefEqProofs [Z1c,Z1c_B,e1,e,hL,ht]
end Pe
