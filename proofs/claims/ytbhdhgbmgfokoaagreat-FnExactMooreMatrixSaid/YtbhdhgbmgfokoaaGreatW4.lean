/-
  A part of the proof: an evaluator for a small form of the code, its soundness, and contracts of functions over it.
-/
import Derived.KernelRfl
import Derived.Test.YtbhdhgbmgfokoaaGreatW1
import Derived.Test.YtbhdhgbmgfokoaaGreatW2
import Derived.Test.YtbhdhgbmgfokoaaGreatW3

/-
 Functions of the laws in the small form,printed by a program.
-/
namespace Pe
open Go
abbrev F6:Nat:=1122
def Z6_w_L0:Cd:=
 .seq (.region [Ll 27 (.bin .lss (.t 26) (.t 25))] [9,24,25,26,27])
 (.seq (.cond (.t 27)
 (.skip)
 (.exit 0))
 (.seq (.block 1 (.seq (.region [Ll 28 (.idxA none .leaf (.t 24) (.t 26)),
 Ilx 29 28,
 Lw 11 29] [9,11,24,25,26])
 (.region [Lw 30 9,
 Lw 31 11,
 Ll 32 (.call .heap [5] (.f Fq) [(.t 31)]),
 Ll 33 (.tbOne 6 (.t 32)),
 Ll 34 (.tbApp 24 (.t 30) (.t 33)),
 Lw 9 34] [9,24,25,26])))
 (.region [Ll 35 (.bin .add (.t 26) (Acx 1)),
 Lw 26 35] [9,24,25,26])))
def Z6_w_B:Cd:=
 .seq (.region [Ll 4 (.box false 0 (.t 1)),
 Ll 6 (.nilOwn 1 .leaf),
 Ll 7 (.mv (Acx 0))] [0,2,4])
 (.seq (.seq (.region [Lw 12 0,
 Ipx 13 4,
 Lw 14 2,
 Ll 15 (Ofx Fm [(.t 12),(.t 13),(.t 14),(Acx 0),(Acx 4)]),
 Lw 8 15] [0,2,4,8])
 (.seq (.region [Lw 16 8,
 Ll 17 (.bin .neq (.t 16) (Acx 0))] [0,2,4,8,17])
 (.cond (.t 17)
 (.seq (.region [Lw 18 8,
 Ll 6 (.nilOwn 2 .leaf),
 Lw 7 18] [6,7])
 (.ret))
 (.skip))))
 (.seq (.region [Ll 9 (.nilOwn 3 .leaf)] [0,2,4,9])
 (.seq (.seq (.region [Lw 19 0,
 Ipx 20 4,
 Ll 21 (Opx Fc [(.t 19),(.t 20)]),
 Lw 22 2,
 Ll 23 (.call .heap [4] (.f F1f) [(.t 22)]),
 Ll 24 (.call .data [] (.f Fg) [(.t 21),(.t 23)]),
 Ll 25 (.len false (.t 24)),
 Ll 26 (.mv (Acx 0))] [9,24,25,26])
 (.block 0 (.loop (Z6_w_L0))))
 (.seq (.region [Lw 36 9,
 Lw 6 36,
 Ll 7 (.mv (Acx 0))] [6,7])
 (.ret)))))
def Z6_w:Fn:=
 { nparams:=3,nblk:=7,results:=[.tmp 6,.tmp 7],body:=Z6_w_B }
def Z1o_L0:Cd:=
 .seq (.seq (.region [Lw 6 5,
 Lw 7 0,
 Ll 8 (.len false (.t 7)),
 Ll 9 (.bin .lss (.t 6) (.t 8))] [0,1,5,9])
 (.cond (.t 9)
 (.skip)
 (.exit 0)))
 (.seq (.block 1 (.region [Lw 12 0,
 Lw 13 5,
 Ll 14 (.tbA (.t 12) (.t 13)),
 Ll 15 (.tbLoad (.t 14)),
 Lw 16 1,
 Ll 17 (.call .heap [] (.f F1n) [(.t 15),(.t 16)]),
 Lw 1 17] [0,1,5]))
 (.region [Lw 10 5,
 Ll 11 (.bin .add (.t 10) (Acx 1)),
 Lw 5 11] [0,1,5]))
def Z1o_B:Cd:=
 .seq (.region [Ll 4 (.mv (Acx 0))] [0,1])
 (.seq (.seq (.region [Ll 5 (.mv (Acx 0))] [0,1,5])
 (.block 0 (.loop (Z1o_L0))))
 (.seq (.region [Lw 18 1,
 Lw 4 18] [4])
 (.ret)))
def Z1o:Fn:=
 { nparams:=2,nblk:=0,results:=[.tmp 4],body:=Z1o_B }
def Z1h_B:Cd:=
 .seq (.region [Ll 4 (.box false 0 (.t 1)),
 Ll 6 (.mv (.c (.bool false)))] [0,2,4])
 (.seq (.region [Ll 7 (.mv (Acx 1048576))] [0,2,4,7])
 (.seq (.region [Lw 18 2,
 Lw 19 7,
 Ll 20 (Ofx F1p [(.t 18),(.t 19)]),
 Lw 7 20] [0,2,4,7])
 (.seq (.seq (.region [Lw 21 7,
 Ll 22 (.bin .lss (.t 21) (Acx 0))] [0,2,4,22])
 (.cond (.t 22)
 (.seq (.region [Ll 6 (.mv (.c (.bool true)))] [6])
 (.ret))
 (.skip)))
 (.seq (.region [Lw 24 0,
 Ipx 25 4,
 Ll 26 (Ofx F1q [(.t 25)]),
 Lw 27 2,
 Ll 28 (Opx F1r [(.t 27)]),
 Ll 29 (Opx F2h [(.t 24),(.t 26),(.t 28)]),
 Lw 23 29,
 Iex 30 23 0,
 Iex 31 23 1,
 Lw 8 30,
 Lw 9 31] [0,2,4,8,9])
 (.seq (.region [Lw 32 2,
 Ll 33 (.call .heap [1] (.f F1s) [(.t 32)]),
 Lw 10 33] [0,2,4,8,9,10])
 (.seq (.region [Lw 35 0,
 Ipx 36 4,
 Ll 37 (Ofx F1q [(.t 36)]),
 Lw 38 10,
 Ll 39 (.call .heap [2] (.f F6) [(.t 35),(.t 37),(.t 38)]),
 Lw 34 39,
 Iex 40 34 0,
 Iex 41 34 1,
 Lw 11 40,
 Lw 12 41] [0,2,4,8,9,10,11,12])
 (.seq (.seq (.region [Lw 42 11,
 Lw 43 8,
 Ll 44 (Ofx F1k [(.t 42),(.t 43)]),
 Ll 45 (.un .not (.t 44)),
 Lw 46 45,
 Lx 47 12 46 false,
 Lx 48 9 46 false,
 Lg 49 (.bin .neq (.t 47) (.t 48)) 46 false,
 Ll 50 (.pick (.t 46) (.c (.bool true)) (.t 49))] [0,2,4,8,9,10,11,12,50])
 (.cond (.t 50)
 (.seq (.region [Ll 6 (.mv (.c (.bool false)))] [6])
 (.ret))
 (.skip)))
 (.seq (.seq (.region [Lw 51 10,
 Lw 52 2,
 Ll 53 (Opx F1r [(.t 52)]),
 Ll 54 (Ofx F1j [(.t 51),(.t 53)]),
 Ll 55 (.un .not (.t 54))] [0,2,4,8,9,10,11,12,55])
 (.cond (.t 55)
 (.seq (.region [Ll 6 (.mv (.c (.bool false)))] [6])
 (.ret))
 (.skip)))
 (.seq (.region [Ll 13 (.mv (Acx 1))] [0,2,4,8,9,10,11,12,13])
 (.seq (.region [Lw 56 10,
 Lw 57 13,
 Ll 58 (.call .heap [] (.f F1n) [(.t 56),(.t 57)]),
 Lw 13 58] [0,2,4,8,9,11,12,13])
 (.seq (.seq (.region [Lw 59 13,
 Ll 60 (.bin .lss (.t 59) (Acx 0)),
 Lw 61 60,
 Lx 62 11 61 false,
 Lx 63 8 61 false,
 Lg 64 (Ofx F1k [(.t 62),(.t 63)]) 61 false,
 Lg 65 (.un .not (.t 64)) 61 false,
 Ll 66 (.pick (.t 61) (.c (.bool true)) (.t 65)),
 Lw 67 66,
 Lx 68 12 67 false,
 Lx 69 9 67 false,
 Lg 70 (.bin .neq (.t 68) (.t 69)) 67 false,
 Ll 71 (.pick (.t 67) (.c (.bool true)) (.t 70))] [0,2,4,8,9,11,71])
 (.cond (.t 71)
 (.seq (.region [Ll 6 (.mv (.c (.bool false)))] [6])
 (.ret))
 (.skip)))
 (.seq (.region [Ll 14 (.mv (Acx 1))] [0,2,4,8,9,11,14])
 (.seq (.region [Lw 72 11,
 Lw 73 14,
 Ll 74 (.call .heap [] (.f F1o) [(.t 72),(.t 73)]),
 Lw 14 74] [0,2,4,8,9,11,14])
 (.seq (.region [Ll 15 (.mv (Acx 1))] [0,2,4,8,9,11,14,15])
 (.seq (.region [Lw 75 11,
 Lw 76 15,
 Ll 77 (Ofx F1m [(.t 75),(.t 76)]),
 Lw 15 77] [0,2,4,8,9,11,14,15])
 (.seq (.seq (.region [Lw 78 15,
 Ll 79 (.bin .lss (.t 78) (Acx 0))] [0,2,4,8,9,11,14,15,79])
 (.cond (.t 79)
 (.seq (.region [Ll 6 (.mv (.c (.bool false)))] [6])
 (.ret))
 (.skip)))
 (.seq (.seq (.region [Lw 80 15,
 Lw 81 14,
 Ll 82 (.bin .neq (.t 80) (.t 81))] [0,2,4,8,9,11,14,82])
 (.cond (.t 82)
 (.seq (.region [Ll 6 (.mv (.c (.bool false)))] [6])
 (.ret))
 (.skip)))
 (.seq (.region [Lw 84 0,
 Ipx 85 4,
 Ll 86 (Ofx F1q [(.t 85)]),
 Lw 87 2,
 Ll 88 (Opx F1r [(.t 87)]),
 Ll 89 (Opx F5 [(.t 84),(.t 86),(.t 88)]),
 Lw 83 89,
 Iex 90 83 0,
 Iex 91 83 1,
 Lw 16 90,
 Lw 17 91] [8,9,11,14,16,17])
 (.seq (.seq (.region [Lw 92 16,
 Lw 93 8,
 Ll 94 (Ofx F1k [(.t 92),(.t 93)]),
 Ll 95 (.un .not (.t 94)),
 Lw 96 95,
 Lx 97 17 96 false,
 Lx 98 9 96 false,
 Lg 99 (.bin .neq (.t 97) (.t 98)) 96 false,
 Ll 100 (.pick (.t 96) (.c (.bool true)) (.t 99))] [11,14,100])
 (.cond (.t 100)
 (.seq (.region [Ll 6 (.mv (.c (.bool false)))] [6])
 (.ret))
 (.skip)))
 (.seq (.region [Ll 15 (.mv (Acx 1))] [11,14,15])
 (.seq (.region [Lw 101 11,
 Lw 102 15,
 Ll 103 (Ofx F1m [(.t 101),(.t 102)]),
 Lw 15 103] [14,15])
 (.seq (.seq (.region [Lw 104 15,
 Ll 105 (.bin .lss (.t 104) (Acx 0))] [14,15,105])
 (.cond (.t 105)
 (.seq (.region [Ll 6 (.mv (.c (.bool false)))] [6])
 (.ret))
 (.skip)))
 (.seq (.seq (.region [Lw 106 15,
 Lw 107 14,
 Ll 108 (.bin .neq (.t 106) (.t 107))] [108])
 (.cond (.t 108)
 (.seq (.region [Ll 6 (.mv (.c (.bool false)))] [6])
 (.ret))
 (.skip)))
 (.seq (.region [Ll 6 (.mv (.c (.bool true)))] [6])
 (.ret)))))))))))))))))))))))))
def Z1h:Fn:=
 { nparams:=3,nblk:=3,results:=[.tmp 6],body:=Z1h_B }
end Pe

/-
 Functions of the laws in the small form,printed by a program.
-/
namespace Pe
open Go
def Z1k_L0:Cd:=
 .seq (.seq (.region [Lw 11 5,
 Lw 12 0,
 Ll 13 (.len false (.t 12)),
 Ll 14 (.bin .lss (.t 11) (.t 13))] [0,1,5,14])
 (.cond (.t 14)
 (.skip)
 (.exit 0)))
 (.seq (.block 1 (.seq (.region [Lw 17 0,
 Lw 18 5,
 Ll 19 (.idxA none .leaf (.t 17) (.t 18)),
 Ilx 20 19,
 Lw 21 1,
 Lw 22 5,
 Ll 23 (.idxA none .leaf (.t 21) (.t 22)),
 Ilx 24 23,
 Ll 25 (Ofx F1j [(.t 20),(.t 24)]),
 Ll 26 (.un .not (.t 25))] [0,1,5,26])
 (.cond (.t 26)
 (.seq (.region [Ll 4 (.mv (.c (.bool false)))] [4])
 (.ret))
 (.skip))))
 (.region [Lw 15 5,
 Ll 16 (.bin .add (.t 15) (Acx 1)),
 Lw 5 16] [0,1,5]))
def Z1k_B:Cd:=
 .seq (.region [Ll 4 (.mv (.c (.bool false)))] [0,1])
 (.seq (.seq (.region [Lw 6 0,
 Ll 7 (.len false (.t 6)),
 Lw 8 1,
 Ll 9 (.len false (.t 8)),
 Ll 10 (.bin .neq (.t 7) (.t 9))] [0,1,10])
 (.cond (.t 10)
 (.seq (.region [Ll 4 (.mv (.c (.bool false)))] [4])
 (.ret))
 (.skip)))
 (.seq (.seq (.region [Ll 5 (.mv (Acx 0))] [0,1,5])
 (.block 0 (.loop (Z1k_L0))))
 (.seq (.region [Ll 4 (.mv (.c (.bool true)))] [4])
 (.ret))))
def Z1k:Fn:=
 { nparams:=2,nblk:=0,results:=[.tmp 4],body:=Z1k_B }
def Z1m_L0:Cd:=
 .seq (.seq (.region [Lw 6 5,
 Lw 7 0,
 Ll 8 (.len false (.t 7)),
 Ll 9 (.bin .lss (.t 6) (.t 8))] [0,1,5,9])
 (.cond (.t 9)
 (.skip)
 (.exit 0)))
 (.seq (.block 1 (.seq (.region [Lw 12 0,
 Lw 13 5,
 Ll 14 (.idxA none .leaf (.t 12) (.t 13)),
 Ilx 15 14,
 Lw 16 1,
 Ll 17 (Ofx F1l [(.t 15),(.t 16)]),
 Lw 1 17] [0,1,5])
 (.seq (.region [Lw 18 1,
 Ll 19 (.bin .lss (.t 18) (Acx 0))] [0,1,5,19])
 (.cond (.t 19)
 (.seq (.region [Ll 4 (.mv (Acx (-1)))] [4])
 (.ret))
 (.skip)))))
 (.region [Lw 10 5,
 Ll 11 (.bin .add (.t 10) (Acx 1)),
 Lw 5 11] [0,1,5]))
def Z1m_B:Cd:=
 .seq (.region [Ll 4 (.mv (Acx 0))] [0,1])
 (.seq (.seq (.region [Ll 5 (.mv (Acx 0))] [0,1,5])
 (.block 0 (.loop (Z1m_L0))))
 (.seq (.region [Lw 20 1,
 Lw 4 20] [4])
 (.ret)))
def Z1m:Fn:=
 { nparams:=2,nblk:=0,results:=[.tmp 4],body:=Z1m_B }
end Pe

/-
 Functions of the program in the small form,printed by a program.
-/
namespace Pe
open Go
def Z2k_L0:Cd:=
 .seq (.seq (.region [Lw 4 3,
 Ll 5 (.bin .geq (.t 4) (Acx 0)),
 Lw 6 5,
 Lx 7 3 6 true,
 Lg 8 (.idxA (some 64) .leaf (.t 1) (.t 7)) 6 true,
 Lg 9 (.load .leaf (.t 8)) 6 true,
 Lg 10 (.bin .eql (.t 9) (.c (.int .u8 0))) 6 true,
 Ll 11 (.pick (.t 6) (.t 10) (.c (.bool false)))] [1,3,11])
 (.cond (.t 11)
 (.skip)
 (.exit 0)))
 (.block 1 (.region [Lw 12 3,
 Ll 13 (.bin .sub (.t 12) (Acx 1)),
 Lw 3 13] [1,3]))
def Z2k_B:Cd:=
 .seq (.region [Ll 1 (.box false 0 (.t 0)),
 Ll 2 (.mv (Acx 0))] [1])
 (.seq (.region [Ll 3 (.mv (Acx 63))] [1,3])
 (.seq (.block 0 (.loop (Z2k_L0)))
 (.seq (.region [Lw 14 3,
 Lw 2 14] [2])
 (.ret))))
def Z2k:Fn:=
 { nparams:=1,nblk:=1,results:=[.tmp 2],body:=Z2k_B }
def Z2n_B:Cd:=
 .seq (.region [Ll 6 (.mv (.c (.bool false)))] [0,1,2])
 (.seq (.region [Lw 7 0,
 Lw 8 1,
 Ll 9 (.bin .geq (.t 7) (.t 8)),
 Lw 10 9,
 Lx 11 0 10 true,
 Lx 12 2 10 true,
 Lg 13 (.bin .leq (.t 11) (.t 12)) 10 true,
 Ll 14 (.pick (.t 10) (.t 13) (.c (.bool false))),
 Lw 6 14] [6])
 (.ret))
def Z2n:Fn:=
 { nparams:=3,nblk:=0,results:=[.tmp 6],body:=Z2n_B }
def Z2w_B:Cd:=
 .seq (.region [Ll 2 (.mv (.c (.bool false)))] [0])
 (.seq (.region [Lw 3 0,
 Ll 4 (.bin .eql (.t 3) (Acx 2)),
 Lw 5 4,
 Lx 6 0 5 false,
 Lg 7 (.bin .eql (.t 6) (Acx 3)) 5 false,
 Ll 8 (.pick (.t 5) (.c (.bool true)) (.t 7)),
 Lw 9 8,
 Lx 10 0 9 false,
 Lg 11 (.bin .eql (.t 10) (Acx 5)) 9 false,
 Ll 12 (.pick (.t 9) (.c (.bool true)) (.t 11)),
 Lw 13 12,
 Lx 14 0 13 false,
 Lg 15 (.bin .eql (.t 14) (Acx 7)) 13 false,
 Ll 16 (.pick (.t 13) (.c (.bool true)) (.t 15)),
 Lw 2 16] [2])
 (.ret))
def Z2w:Fn:=
 { nparams:=1,nblk:=0,results:=[.tmp 2],body:=Z2w_B }
def Z2q_L0:Cd:=
 .seq (.seq (.region [Lw 6 5,
 Ll 7 (.bin .lss (.t 6) (Acx 64))] [0,3,5,7])
 (.cond (.t 7)
 (.skip)
 (.exit 0)))
 (.seq (.block 1 (.seq (.region [Lw 10 5,
 Ll 11 (.idxA (some 64) .leaf (.t 3) (.t 10)),
 Ilx 12 11,
 Ll 13 (.conv .i64 (.t 12)),
 Lw 14 0,
 Ll 15 (.bin .geq (.t 13) (.t 14))] [0,3,5,15])
 (.cond (.t 15)
 (.seq (.region [Ll 4 (.mv (.c (.bool false)))] [4])
 (.ret))
 (.skip))))
 (.region [Lw 8 5,
 Ll 9 (.bin .add (.t 8) (Acx 1)),
 Lw 5 9] [0,3,5]))
def Z2q_B:Cd:=
 .seq (.region [Ll 3 (.box false 0 (.t 1)),
 Ll 4 (.mv (.c (.bool false)))] [0,3])
 (.seq (.seq (.region [Ll 5 (.mv (Acx 0))] [0,3,5])
 (.block 0 (.loop (Z2q_L0))))
 (.seq (.region [Lw 16 0,
 Ll 17 (Ofx F2w [(.t 16)]),
 Lw 4 17] [4])
 (.ret)))
def Z2q:Fn:=
 { nparams:=2,nblk:=1,results:=[.tmp 4],body:=Z2q_B }
def Z2s_B:Cd:=
 .seq (.region [Ll 1 (.box false 0 (.t 0)),
 Ll 2 (.mv (.c (.bool false)))] [1])
 (.seq (.region [Ipx 4 1,
 Ll 5 (Ofx F2k [(.t 4)]),
 Lw 3 5] [1,3])
 (.seq (.region [Lw 6 3,
 Ll 7 (.bin .geq (.t 6) (Acx 0)),
 Lw 8 7,
 Lx 9 3 8 true,
 Lg 10 (.idxA (some 64) .leaf (.t 1) (.t 9)) 8 true,
 Lg 11 (.load .leaf (.t 10)) 8 true,
 Lg 12 (.bin .eql (.t 11) (.c (.int .u8 1))) 8 true,
 Ll 13 (.pick (.t 8) (.t 12) (.c (.bool false))),
 Lw 2 13] [2])
 (.ret)))
def Z2s:Fn:=
 { nparams:=1,nblk:=1,results:=[.tmp 2],body:=Z2s_B }
def Z2o_L0:Cd:=
 .seq (.seq (.region [Lw 6 5,
 Lw 7 0,
 Ll 8 (.bin .lss (.t 6) (.t 7))] [0,1,5,8])
 (.cond (.t 8)
 (.skip)
 (.exit 0)))
 (.seq (.block 1 (.seq (.region [Lw 11 5,
 Lw 12 1,
 Ll 13 (.conv .i64 (.t 12)),
 Ll 14 (.bin .mul (.t 11) (.t 13)),
 Lw 15 0,
 Ll 16 (.bin .rem (.t 14) (.t 15)),
 Ll 17 (.bin .eql (.t 16) (Acx 1))] [0,1,5,17])
 (.cond (.t 17)
 (.seq (.region [Lw 18 5,
 Ll 19 (.conv .u8 (.t 18)),
 Lw 4 19] [4])
 (.ret))
 (.skip))))
 (.region [Lw 9 5,
 Ll 10 (.bin .add (.t 9) (Acx 1)),
 Lw 5 10] [0,1,5]))
def Z2o_B:Cd:=
 .seq (.region [Ll 4 (.mv (.c (.int .u8 0)))] [0,1])
 (.seq (.seq (.region [Ll 5 (.mv (Acx 1))] [0,1,5])
 (.block 0 (.loop (Z2o_L0))))
 (.seq (.region [Ll 4 (.mv (.c (.int .u8 0)))] [4])
 (.ret)))
def Z2o:Fn:=
 { nparams:=2,nblk:=0,results:=[.tmp 4],body:=Z2o_B }
def Z2l_L0:Cd:=
 .seq (.seq (.region [Lw 44 13,
 Lw 45 9,
 Ll 46 (.bin .leq (.t 44) (.t 45)),
 Lw 47 46,
 Lx 48 12 47 true,
 Lg 49 (.bin .neq (.t 48) (Acx 0)) 47 true,
 Ll 50 (.pick (.t 47) (.t 49) (.c (.bool false)))] [0,4,5,6,7,8,9,10,11,12,13,50])
 (.cond (.t 50)
 (.skip)
 (.exit 2)))
 (.seq (.block 3 (.region [Lw 53 11,
 Lw 54 9,
 Ll 55 (.bin .sub (.t 53) (.t 54)),
 Lw 56 13,
 Ll 57 (.bin .add (.t 55) (.t 56)),
 Lw 58 11,
 Lw 59 9,
 Ll 60 (.bin .sub (.t 58) (.t 59)),
 Lw 61 13,
 Ll 62 (.bin .add (.t 60) (.t 61)),
 Ll 63 (.idxA (some 64) .leaf (.t 4) (.t 62)),
 Ilx 64 63,
 Ll 65 (.conv .i64 (.t 64)),
 Lw 66 12,
 Lw 67 13,
 Ll 68 (.idxA (some 64) .leaf (.t 5) (.t 67)),
 Ilx 69 68,
 Ll 70 (.conv .i64 (.t 69)),
 Ll 71 (.bin .mul (.t 66) (.t 70)),
 Ll 72 (.bin .sub (.t 65) (.t 71)),
 Lw 73 0,
 Ll 74 (.bin .rem (.t 72) (.t 73)),
 Lw 75 0,
 Ll 76 (.bin .add (.t 74) (.t 75)),
 Lw 77 0,
 Ll 78 (.bin .rem (.t 76) (.t 77)),
 Ll 79 (.conv .u8 (.t 78)),
 Ll 80 (.idxA (some 64) .leaf (.t 4) (.t 57)),
 Ls (.store false .leaf (.t 80) (.t 79))] [0,4,5,6,7,8,9,10,11,12,13]))
 (.region [Lw 51 13,
 Ll 52 (.bin .add (.t 51) (Acx 1)),
 Lw 13 52] [0,4,5,6,7,8,9,10,11,12,13]))
def Z2l_L1:Cd:=
 .seq (.seq (.region [Lw 25 11,
 Lw 26 9,
 Ll 27 (.bin .geq (.t 25) (.t 26))] [0,4,5,6,7,8,9,10,11,27])
 (.cond (.t 27)
 (.skip)
 (.exit 0)))
 (.seq (.block 1 (.seq (.region [Lw 30 11,
 Ll 31 (.idxA (some 64) .leaf (.t 4) (.t 30)),
 Ilx 32 31,
 Ll 33 (.conv .i64 (.t 32)),
 Lw 34 10,
 Ll 35 (.bin .mul (.t 33) (.t 34)),
 Lw 36 0,
 Ll 37 (.bin .rem (.t 35) (.t 36)),
 Lw 12 37] [0,4,5,6,7,8,9,10,11,12])
 (.seq (.region [Lw 38 11,
 Lw 39 9,
 Ll 40 (.bin .sub (.t 38) (.t 39)),
 Lw 41 12,
 Ll 42 (.conv .u8 (.t 41)),
 Ll 43 (.idxA (some 64) .leaf (.t 8) (.t 40)),
 Ls (.store false .leaf (.t 43) (.t 42))] [0,4,5,6,7,8,9,10,11,12])
 (.seq (.region [Ll 13 (.mv (Acx 0))] [0,4,5,6,7,8,9,10,11,12,13])
 (.block 2 (.loop (Z2l_L0)))))))
 (.region [Lw 28 11,
 Ll 29 (.bin .sub (.t 28) (Acx 1)),
 Lw 11 29] [0,4,5,6,7,8,9,10,11]))
def Z2l_B:Cd:=
 .seq (.region [Ll 4 (.box false 0 (.t 1)),
 Ll 5 (.box false 1 (.t 2)),
 Ll 6 (.box false 2 (.c (.arr 64 .leaf z64))),
 Ll 7 (.box false 3 (.c (.arr 64 .leaf z64)))] [0,4,5,6,7])
 (.seq (.region [Ll 14 (.build false (.arr 64 .leaf z64) []),
 Ipx 15 5,
 Ll 16 (Ofx F2k [(.t 15)]),
 Ll 8 (.box false 4 (.c (.arr 64 .leaf z64))),
 Ls (.store false Sx6 (.t 8) (.t 14)),
 Lw 9 16] [0,4,5,6,7,8,9])
 (.seq (.region [Lw 17 0,
 Lw 18 9,
 Ll 19 (.idxA (some 64) .leaf (.t 5) (.t 18)),
 Ilx 20 19,
 Ll 21 (Ofx F2o [(.t 17),(.t 20)]),
 Ll 22 (.conv .i64 (.t 21)),
 Lw 10 22] [0,4,5,6,7,8,9,10])
 (.seq (.seq (.region [Ipx 23 4,
 Ll 24 (Ofx F2k [(.t 23)]),
 Lw 11 24] [0,4,5,6,7,8,9,10,11])
 (.block 0 (.loop (Z2l_L1))))
 (.seq (.region [Ipx 81 8,
 Ipx 82 4,
 ⟨none,.store false Sx6 (.t 6) (.t 81),none,[4]⟩,
 Ls (.store false Sx6 (.t 7) (.t 82))] [6,7])
 (.ret)))))
def Z2l:Fn:=
 { nparams:=3,nblk:=5,results:=[.cell 6 Sx6,.cell 7 Sx6],body:=Z2l_B }
def Z2r_B:Cd:=
 .seq (.region [Ll 4 (.box false 0 (.t 1)),
 Ll 5 (.box false 1 (.t 2)),
 Ll 6 (.box false 2 (.c (.arr 64 .leaf z64)))] [0,4,5,6])
 (.seq (.region [Lw 10 0,
 Ipx 11 4,
 Ipx 12 5,
 Ll 13 (Ofx F2l [(.t 10),(.t 11),(.t 12)]),
 Lw 9 13,
 Iex 14 9 0,
 Iex 15 9 1,
 Ll 7 (.box false 3 (.c (.arr 64 .leaf z64))),
 Ll 8 (.box false 4 (.c (.arr 64 .leaf z64))),
 Ls (.store false Sx6 (.t 7) (.t 14)),
 Ls (.store false Sx6 (.t 8) (.t 15))] [6,8])
 (.seq (.region [Ipx 16 8,
 Ls (.store false Sx6 (.t 6) (.t 16))] [6])
 (.ret)))
def Z2r:Fn:=
 { nparams:=3,nblk:=5,results:=[.cell 6 Sx6],body:=Z2r_B }
def Z2u_B:Cd:=
 .seq (.region [Ll 0 (.box false 0 (.c (.arr 64 .leaf z64)))] [0])
 (.seq (.region [Ll 1 (.build false (.arr 64 .leaf z64) [(0,(.c (.int .u8 1)))]),
 Ls (.store false Sx6 (.t 0) (.t 1))] [0])
 (.ret))
def Z2u:Fn:=
 { nparams:=0,nblk:=1,results:=[.cell 0 Sx6],body:=Z2u_B }
def Z2i_L0:Cd:=
 .seq (.seq (.region [Lw 10 9,
 Ll 11 (.bin .lss (.t 10) (Acx 64))] [0,3,5,6,8,9,11])
 (.cond (.t 11)
 (.skip)
 (.exit 0)))
 (.seq (.block 1 (.region [Lw 14 9,
 Lw 15 9,
 Ll 16 (.idxA (some 64) .leaf (.t 5) (.t 15)),
 Ilx 17 16,
 Ll 18 (.conv .i64 (.t 17)),
 Lw 19 3,
 Lw 20 9,
 Ll 21 (.idxA (some 64) .leaf (.t 6) (.t 20)),
 Ilx 22 21,
 Ll 23 (.conv .i64 (.t 22)),
 Ll 24 (.bin .mul (.t 19) (.t 23)),
 Ll 25 (.bin .add (.t 18) (.t 24)),
 Lw 26 0,
 Ll 27 (.bin .rem (.t 25) (.t 26)),
 Lw 28 0,
 Ll 29 (.bin .add (.t 27) (.t 28)),
 Lw 30 0,
 Ll 31 (.bin .rem (.t 29) (.t 30)),
 Ll 32 (.conv .u8 (.t 31)),
 Ll 33 (.idxA (some 64) .leaf (.t 5) (.t 14)),
 Ls (.store false .leaf (.t 33) (.t 32))] [0,3,5,6,8,9]))
 (.region [Lw 12 9,
 Ll 13 (.bin .add (.t 12) (Acx 1)),
 Lw 9 13] [0,3,5,6,8,9]))
def Z2i_B:Cd:=
 .seq (.region [Ll 5 (.box false 0 (.t 1)),
 Ll 6 (.box false 1 (.t 2)),
 Ll 8 (.box false 2 (.c (.arr 64 .leaf z64)))] [0,3,5,6,8])
 (.seq (.seq (.region [Ll 9 (.mv (Acx 0))] [0,3,5,6,8,9])
 (.block 0 (.loop (Z2i_L0))))
 (.seq (.region [Ipx 34 5,
 Ls (.store false Sx6 (.t 8) (.t 34))] [8])
 (.ret)))
def Z2i:Fn:=
 { nparams:=4,nblk:=3,results:=[.cell 8 Sx6],body:=Z2i_B }
def Z2z_L0:Cd:=
 .seq (.seq (.region [Lw 24 10,
 Lw 25 7,
 Ll 26 (.bin .lss (.t 24) (.t 25))] [0,4,5,6,7,8,9,10,26])
 (.cond (.t 26)
 (.skip)
 (.exit 0)))
 (.seq (.block 1 (.region [Lw 29 10,
 Lw 30 10,
 Ll 31 (.bin .sub (.t 30) (Acx 1)),
 Ll 32 (.idxA (some 64) .leaf (.t 4) (.t 31)),
 Ilx 33 32,
 Ll 34 (.idxA (some 64) .leaf (.t 9) (.t 29)),
 Ls (.store false .leaf (.t 34) (.t 33))] [0,4,5,6,7,8,9,10]))
 (.region [Lw 27 10,
 Ll 28 (.bin .add (.t 27) (Acx 1)),
 Lw 10 28] [0,4,5,6,7,8,9,10]))
def Z2z_L1:Cd:=
 .seq (.seq (.region [Lw 45 12,
 Lw 46 7,
 Ll 47 (.bin .lss (.t 45) (.t 46))] [0,5,6,7,9,11,12,47])
 (.cond (.t 47)
 (.skip)
 (.exit 2)))
 (.seq (.block 3 (.region [Lw 50 12,
 Lw 51 12,
 Ll 52 (.idxA (some 64) .leaf (.t 9) (.t 51)),
 Ilx 53 52,
 Ll 54 (.conv .i64 (.t 53)),
 Lw 55 11,
 Lw 56 12,
 Ll 57 (.idxA (some 64) .leaf (.t 5) (.t 56)),
 Ilx 58 57,
 Ll 59 (.conv .i64 (.t 58)),
 Ll 60 (.bin .mul (.t 55) (.t 59)),
 Ll 61 (.bin .sub (.t 54) (.t 60)),
 Lw 62 0,
 Ll 63 (.bin .rem (.t 61) (.t 62)),
 Lw 64 0,
 Ll 65 (.bin .add (.t 63) (.t 64)),
 Lw 66 0,
 Ll 67 (.bin .rem (.t 65) (.t 66)),
 Ll 68 (.conv .u8 (.t 67)),
 Ll 69 (.idxA (some 64) .leaf (.t 9) (.t 50)),
 Ls (.store false .leaf (.t 69) (.t 68))] [0,5,6,7,9,11,12]))
 (.region [Lw 48 12,
 Ll 49 (.bin .add (.t 48) (Acx 1)),
 Lw 12 49] [0,5,6,7,9,11,12]))
def Z2z_B:Cd:=
 .seq (.region [Ll 4 (.box false 0 (.t 1)),
 Ll 5 (.box false 1 (.t 2)),
 Ll 6 (.box false 2 (.c (.arr 64 .leaf z64)))] [0,4,5,6])
 (.seq (.region [Ipx 13 5,
 Ll 14 (Ofx F2k [(.t 13)]),
 Lw 7 14] [0,4,5,6,7])
 (.seq (.seq (.region [Lw 15 7,
 Ll 16 (.bin .eql (.t 15) (Acx 0))] [0,4,5,6,7,16])
 (.cond (.t 16)
 (.seq (.region [Ll 17 (.build false (.arr 64 .leaf z64) []),
 Ls (.store false Sx6 (.t 6) (.t 17))] [6])
 (.ret))
 (.skip)))
 (.seq (.region [Lw 18 7,
 Ll 19 (.bin .sub (.t 18) (Acx 1)),
 Ll 20 (.idxA (some 64) .leaf (.t 4) (.t 19)),
 Ilx 21 20,
 Ll 22 (.conv .i64 (.t 21)),
 Ll 23 (.build false (.arr 64 .leaf z64) []),
 Ll 9 (.box false 3 (.c (.arr 64 .leaf z64))),
 Lw 8 22,
 Ls (.store false Sx6 (.t 9) (.t 23))] [0,4,5,6,7,8,9])
 (.seq (.seq (.region [Ll 10 (.mv (Acx 1))] [0,4,5,6,7,8,9,10])
 (.block 0 (.loop (Z2z_L0))))
 (.seq (.region [Lw 35 8,
 Lw 36 0,
 Lw 37 7,
 Ll 38 (.idxA (some 64) .leaf (.t 5) (.t 37)),
 Ilx 39 38,
 Ll 40 (Ofx F2o [(.t 36),(.t 39)]),
 Ll 41 (.conv .i64 (.t 40)),
 Ll 42 (.bin .mul (.t 35) (.t 41)),
 Lw 43 0,
 Ll 44 (.bin .rem (.t 42) (.t 43)),
 Lw 11 44] [0,5,6,7,9,11])
 (.seq (.seq (.region [Ll 12 (.mv (Acx 0))] [0,5,6,7,9,11,12])
 (.block 2 (.loop (Z2z_L1))))
 (.seq (.region [Ipx 70 9,
 Ls (.store false Sx6 (.t 6) (.t 70))] [6])
 (.ret))))))))
def Z2z:Fn:=
 { nparams:=3,nblk:=4,results:=[.cell 6 Sx6],body:=Z2z_B }
def Z2t_L0:Cd:=
 .seq (.seq (.region [Lw 14 10,
 Ll 15 (.bin .geq (.t 14) (Acx 0))] [0,5,6,7,8,9,10,15])
 (.cond (.t 15)
 (.skip)
 (.exit 0)))
 (.seq (.block 1 (.seq (.region [Lw 18 0,
 Ipx 19 9,
 Ipx 20 7,
 Ll 21 (Ofx F2z [(.t 18),(.t 19),(.t 20)]),
 Ls (.store false Sx6 (.t 9) (.t 21))] [0,5,6,7,8,9,10])
 (.region [Lw 22 0,
 Lw 23 0,
 Ipx 24 9,
 Ipx 25 5,
 Lw 26 10,
 Ll 27 (.idxA (some 64) .leaf (.t 6) (.t 26)),
 Ilx 28 27,
 Ll 29 (.conv .i64 (.t 28)),
 Ll 30 (Ofx F2i [(.t 23),(.t 24),(.t 25),(.t 29)]),
 Ipx 31 7,
 Ll 32 (Ofx F2r [(.t 22),(.t 30),(.t 31)]),
 Ls (.store false Sx6 (.t 9) (.t 32))] [0,5,6,7,8,9,10])))
 (.region [Lw 16 10,
 Ll 17 (.bin .sub (.t 16) (Acx 1)),
 Lw 10 17] [0,5,6,7,8,9,10]))
def Z2t_B:Cd:=
 .seq (.region [Ll 5 (.box false 0 (.t 1)),
 Ll 6 (.box false 1 (.t 2)),
 Ll 7 (.box false 2 (.t 3)),
 Ll 8 (.box false 3 (.c (.arr 64 .leaf z64)))] [0,5,6,7,8])
 (.seq (.region [Ll 11 (.build false (.arr 64 .leaf z64) []),
 Ll 9 (.box false 4 (.c (.arr 64 .leaf z64))),
 Ls (.store false Sx6 (.t 9) (.t 11))] [0,5,6,7,8,9])
 (.seq (.seq (.region [Ipx 12 6,
 Ll 13 (Ofx F2k [(.t 12)]),
 Lw 10 13] [0,5,6,7,8,9,10])
 (.block 0 (.loop (Z2t_L0))))
 (.seq (.region [Ipx 33 9,
 Ls (.store false Sx6 (.t 8) (.t 33))] [8])
 (.ret))))
def Z2t:Fn:=
 { nparams:=4,nblk:=5,results:=[.cell 8 Sx6],body:=Z2t_B }
def Z2v_L0:Cd:=
 .seq (.seq (.region [Lw 19 2,
 Ll 20 (.bin .gtr (.t 19) (Acx 0))] [0,2,7,8,9,10,20])
 (.cond (.t 20)
 (.skip)
 (.exit 0)))
 (.seq (.block 1 (.seq (.seq (.region [Lw 23 2,
 Ll 24 (.bin .rem (.t 23) (Acx 2)),
 Ll 25 (.bin .eql (.t 24) (Acx 1))] [0,2,7,8,9,10,25])
 (.cond (.t 25)
 (.region [Lw 26 0,
 Ipx 27 9,
 Ipx 28 10,
 Ipx 29 7,
 Ll 30 (Ofx F2t [(.t 26),(.t 27),(.t 28),(.t 29)]),
 Ls (.store false Sx6 (.t 9) (.t 30))] [0,2,7,8,9,10])
 (.skip)))
 (.region [Lw 31 0,
 Ipx 32 10,
 Ipx 33 10,
 Ipx 34 7,
 Ll 35 (Ofx F2t [(.t 31),(.t 32),(.t 33),(.t 34)]),
 Ls (.store false Sx6 (.t 10) (.t 35))] [0,2,7,8,9,10])))
 (.region [Lw 21 2,
 Ll 22 (.bin .quo (.t 21) (Acx 2)),
 Lw 2 22] [0,2,7,8,9,10]))
def Z2v_B:Cd:=
 .seq (.region [Ll 5 (.box false 0 (.t 1)),
 Ll 7 (.box false 1 (.t 3)),
 Ll 8 (.box false 2 (.c (.arr 64 .leaf z64)))] [0,2,5,7,8])
 (.seq (.region [Lw 11 0,
 Ll 12 (Ofx F2u []),
 Ipx 13 7,
 Ll 14 (Ofx F2r [(.t 11),(.t 12),(.t 13)]),
 Lw 15 0,
 Ipx 16 5,
 Ipx 17 7,
 Ll 18 (Ofx F2r [(.t 15),(.t 16),(.t 17)]),
 Ll 9 (.box false 3 (.c (.arr 64 .leaf z64))),
 Ll 10 (.box false 4 (.c (.arr 64 .leaf z64))),
 Ls (.store false Sx6 (.t 9) (.t 14)),
 Ls (.store false Sx6 (.t 10) (.t 18))] [0,2,7,8,9,10])
 (.seq (.block 0 (.loop (Z2v_L0)))
 (.seq (.region [Ipx 36 9,
 Ls (.store false Sx6 (.t 8) (.t 36))] [8])
 (.ret))))
def Z2v:Fn:=
 { nparams:=4,nblk:=5,results:=[.cell 8 Sx6],body:=Z2v_B }
def Z2y_L0:Cd:=
 .seq (.seq (.region [Lw 35 12,
 Lw 36 9,
 Ll 37 (.bin .leq (.t 35) (.t 36)),
 Lw 38 37,
 Lx 39 11 38 true,
 Lg 40 (.idxA (some 64) .leaf (.t 4) (.t 39)) 38 true,
 Lg 41 (.load .leaf (.t 40)) 38 true,
 Lg 42 (.bin .neq (.t 41) (.c (.int .u8 0))) 38 true,
 Ll 43 (.pick (.t 38) (.t 42) (.c (.bool false)))] [0,4,5,6,8,9,10,11,12,43])
 (.cond (.t 43)
 (.skip)
 (.exit 2)))
 (.seq (.block 3 (.region [Lw 46 11,
 Lw 47 12,
 Ll 48 (.bin .add (.t 46) (.t 47)),
 Lw 49 11,
 Lw 50 12,
 Ll 51 (.bin .add (.t 49) (.t 50)),
 Ll 52 (.idxA (some 64) .leaf (.t 10) (.t 51)),
 Ilx 53 52,
 Ll 54 (.conv .i64 (.t 53)),
 Lw 55 11,
 Ll 56 (.idxA (some 64) .leaf (.t 4) (.t 55)),
 Ilx 57 56,
 Ll 58 (.conv .i64 (.t 57)),
 Lw 59 12,
 Ll 60 (.idxA (some 64) .leaf (.t 5) (.t 59)),
 Ilx 61 60,
 Ll 62 (.conv .i64 (.t 61)),
 Ll 63 (.bin .mul (.t 58) (.t 62)),
 Ll 64 (.bin .add (.t 54) (.t 63)),
 Lw 65 0,
 Ll 66 (.bin .rem (.t 64) (.t 65)),
 Ll 67 (.conv .u8 (.t 66)),
 Ll 68 (.idxA (some 64) .leaf (.t 10) (.t 48)),
 Ls (.store false .leaf (.t 68) (.t 67))] [0,4,5,6,8,9,10,11,12]))
 (.region [Lw 44 12,
 Ll 45 (.bin .add (.t 44) (Acx 1)),
 Lw 12 45] [0,4,5,6,8,9,10,11,12]))
def Z2y_L1:Cd:=
 .seq (.seq (.region [Lw 30 11,
 Lw 31 8,
 Ll 32 (.bin .leq (.t 30) (.t 31))] [0,4,5,6,8,9,10,11,32])
 (.cond (.t 32)
 (.skip)
 (.exit 0)))
 (.seq (.block 1 (.seq (.region [Ll 12 (.mv (Acx 0))] [0,4,5,6,8,9,10,11,12])
 (.block 2 (.loop (Z2y_L0)))))
 (.region [Lw 33 11,
 Ll 34 (.bin .add (.t 33) (Acx 1)),
 Lw 11 34] [0,4,5,6,8,9,10,11]))
def Z2y_B:Cd:=
 .seq (.region [Ll 4 (.box false 0 (.t 1)),
 Ll 5 (.box false 1 (.t 2)),
 Ll 6 (.box false 2 (.c (.arr 64 .leaf z64))),
 Ll 7 (.mv (.c (.bool false)))] [0,4,5,6])
 (.seq (.region [Ipx 13 4,
 Ll 14 (Ofx F2k [(.t 13)]),
 Ipx 15 5,
 Ll 16 (Ofx F2k [(.t 15)]),
 Ll 17 (.build false (.arr 64 .leaf z64) []),
 Ll 10 (.box false 3 (.c (.arr 64 .leaf z64))),
 Lw 8 14,
 Lw 9 16,
 Ls (.store false Sx6 (.t 10) (.t 17))] [0,4,5,6,8,9,10])
 (.seq (.seq (.region [Lw 18 8,
 Ll 19 (.bin .lss (.t 18) (Acx 0)),
 Lw 20 19,
 Lx 21 9 20 false,
 Lg 22 (.bin .lss (.t 21) (Acx 0)) 20 false,
 Ll 23 (.pick (.t 20) (.c (.bool true)) (.t 22))] [0,4,5,6,8,9,10,23])
 (.cond (.t 23)
 (.seq (.region [Ipx 24 10,
 Ls (.store false Sx6 (.t 6) (.t 24)),
 Ll 7 (.mv (.c (.bool true)))] [6,7])
 (.ret))
 (.skip)))
 (.seq (.seq (.region [Lw 25 8,
 Lw 26 9,
 Ll 27 (.bin .add (.t 25) (.t 26)),
 Ll 28 (.bin .gtr (.t 27) (Acx 63))] [0,4,5,6,8,9,10,28])
 (.cond (.t 28)
 (.seq (.region [Ipx 29 10,
 Ls (.store false Sx6 (.t 6) (.t 29)),
 Ll 7 (.mv (.c (.bool false)))] [6,7])
 (.ret))
 (.skip)))
 (.seq (.seq (.region [Ll 11 (.mv (Acx 0))] [0,4,5,6,8,9,10,11])
 (.block 0 (.loop (Z2y_L1))))
 (.seq (.region [Ipx 69 10,
 Ls (.store false Sx6 (.t 6) (.t 69)),
 Ll 7 (.mv (.c (.bool true)))] [6,7])
 (.ret))))))
def Z2y:Fn:=
 { nparams:=3,nblk:=4,results:=[.cell 6 Sx6,.tmp 7],body:=Z2y_B }
def Z2j_L0:Cd:=
 .seq (.seq (.region [Ipx 26 5,
 Ll 27 (Ofx F2k [(.t 26)]),
 Ll 28 (.bin .geq (.t 27) (Acx 0))] [0,4,5,6,7,8,9,10,11,12,28])
 (.cond (.t 28)
 (.skip)
 (.exit 0)))
 (.block 1 (.seq (.region [Lw 30 0,
 Ipx 31 4,
 Ipx 32 5,
 Ll 33 (Ofx F2l [(.t 30),(.t 31),(.t 32)]),
 Lw 29 33,
 Iex 34 29 0,
 Iex 35 29 1,
 Ll 13 (.box false 9 (.c (.arr 64 .leaf z64))),
 Ll 14 (.box false 10 (.c (.arr 64 .leaf z64))),
 Ls (.store false Sx6 (.t 13) (.t 34)),
 Ls (.store false Sx6 (.t 14) (.t 35))] [0,4,5,6,7,8,9,10,11,12,13,14])
 (.seq (.region [Lw 37 0,
 Ipx 38 13,
 Ipx 39 10,
 Ll 40 (Ofx F2y [(.t 37),(.t 38),(.t 39)]),
 Lw 36 40,
 Iex 41 36 0,
 Iex 42 36 1,
 Ll 15 (.box false 11 (.c (.arr 64 .leaf z64))),
 Ls (.store false Sx6 (.t 15) (.t 41)),
 Lw 16 42] [0,4,5,6,7,8,9,10,11,12,13,14,15])
 (.seq (.region [Lw 44 0,
 Ipx 45 13,
 Ipx 46 12,
 Ll 47 (Ofx F2y [(.t 44),(.t 45),(.t 46)]),
 Lw 43 47,
 Iex 48 43 0,
 Iex 49 43 1,
 Ll 17 (.box false 12 (.c (.arr 64 .leaf z64))),
 Ls (.store false Sx6 (.t 17) (.t 48)),
 Lw 18 49] [0,4,5,6,7,8,9,10,11,12,14,15,17])
 (.seq (.region [Lw 50 0,
 Ipx 51 9,
 Ipx 52 15,
 Ll 53 (Ofx F2i [(.t 50),(.t 51),(.t 52),(Acx (-1))]),
 Lw 54 0,
 Ipx 55 11,
 Ipx 56 17,
 Ll 57 (Ofx F2i [(.t 54),(.t 55),(.t 56),(Acx (-1))]),
 Ll 19 (.box false 13 (.c (.arr 64 .leaf z64))),
 Ll 20 (.box false 14 (.c (.arr 64 .leaf z64))),
 Ls (.store false Sx6 (.t 19) (.t 53)),
 Ls (.store false Sx6 (.t 20) (.t 57))] [0,4,5,6,7,8,9,10,11,12,14,19,20])
 (.seq (.region [Ipx 58 5,
 Ls (.store false Sx6 (.t 4) (.t 58))] [0,4,5,6,7,8,9,10,11,12,14,19,20])
 (.seq (.region [Ipx 59 14,
 Ls (.store false Sx6 (.t 5) (.t 59))] [0,4,5,6,7,8,9,10,11,12,19,20])
 (.seq (.region [Ipx 60 10,
 Ls (.store false Sx6 (.t 9) (.t 60))] [0,4,5,6,7,8,9,10,11,12,19,20])
 (.seq (.region [Ipx 61 12,
 Ls (.store false Sx6 (.t 11) (.t 61))] [0,4,5,6,7,8,9,10,11,12,19,20])
 (.seq (.region [Ipx 62 19,
 Ls (.store false Sx6 (.t 10) (.t 62))] [0,4,5,6,7,8,9,10,11,12,20])
 (.region [Ipx 63 20,
 Ls (.store false Sx6 (.t 12) (.t 63))] [0,4,5,6,7,8,9,10,11,12])))))))))))
def Z2j_B:Cd:=
 .seq (.region [Ll 4 (.box false 0 (.t 1)),
 Ll 5 (.box false 1 (.t 2)),
 Ll 6 (.box false 2 (.c (.arr 64 .leaf z64))),
 Ll 7 (.box false 3 (.c (.arr 64 .leaf z64))),
 Ll 8 (.box false 4 (.c (.arr 64 .leaf z64)))] [0,4,5,6,7,8])
 (.seq (.region [Ll 22 (Ofx F2u []),
 Ll 23 (.build false (.arr 64 .leaf z64) []),
 Ll 24 (.build false (.arr 64 .leaf z64) []),
 Ll 25 (Ofx F2u []),
 Ll 9 (.box false 5 (.c (.arr 64 .leaf z64))),
 Ll 10 (.box false 6 (.c (.arr 64 .leaf z64))),
 Ll 11 (.box false 7 (.c (.arr 64 .leaf z64))),
 Ll 12 (.box false 8 (.c (.arr 64 .leaf z64))),
 Ls (.store false Sx6 (.t 9) (.t 22)),
 Ls (.store false Sx6 (.t 10) (.t 23)),
 Ls (.store false Sx6 (.t 11) (.t 24)),
 Ls (.store false Sx6 (.t 12) (.t 25))] [0,4,5,6,7,8,9,10,11,12])
 (.seq (.block 0 (.loop (Z2j_L0)))
 (.seq (.region [Lw 64 0,
 Ipx 65 4,
 Ll 66 (Ofx F2k [(.t 65)]),
 Ll 67 (.idxA (some 64) .leaf (.t 4) (.t 66)),
 Ilx 68 67,
 Ll 69 (Ofx F2o [(.t 64),(.t 68)]),
 Ll 70 (.conv .i64 (.t 69)),
 Lw 21 70] [0,4,6,7,8,9,11,21])
 (.seq (.region [Lw 71 0,
 Ll 72 (.build false (.arr 64 .leaf z64) []),
 Ipx 73 4,
 Lw 74 21,
 Ll 75 (Ofx F2i [(.t 71),(.t 72),(.t 73),(.t 74)]),
 Lw 76 0,
 Ll 77 (.build false (.arr 64 .leaf z64) []),
 Ipx 78 9,
 Lw 79 21,
 Ll 80 (Ofx F2i [(.t 76),(.t 77),(.t 78),(.t 79)]),
 Lw 81 0,
 Ll 82 (.build false (.arr 64 .leaf z64) []),
 Ipx 83 11,
 Lw 84 21,
 Ll 85 (Ofx F2i [(.t 81),(.t 82),(.t 83),(.t 84)]),
 Ls (.store false Sx6 (.t 6) (.t 75)),
 Ls (.store false Sx6 (.t 7) (.t 80)),
 Ls (.store false Sx6 (.t 8) (.t 85))] [6,7,8])
 (.ret)))))
def Z2j:Fn:=
 { nparams:=3,nblk:=15,results:=[.cell 6 Sx6,.cell 7 Sx6,.cell 8 Sx6],body:=Z2j_B }
def Z2m_B:Cd:=
 .seq (.region [Ll 4 (.box false 0 (.t 1)),
 Ll 5 (.box false 1 (.t 2)),
 Ll 6 (.box false 2 (.c (.arr 64 .leaf z64)))] [0,4,5,6])
 (.seq (.seq (.region [Ipx 10 4,
 Ll 11 (Ofx F2k [(.t 10)]),
 Ll 12 (.bin .lss (.t 11) (Acx 0)),
 Lw 13 12,
 Lg 14 (.load Sx6 (.t 5)) 13 true,
 Lg 15 (Ofx F2k [(.t 14)]) 13 true,
 Lg 16 (.bin .lss (.t 15) (Acx 0)) 13 true,
 Ll 17 (.pick (.t 13) (.t 16) (.c (.bool false)))] [0,4,5,6,17])
 (.cond (.t 17)
 (.seq (.region [Ll 18 (.build false (.arr 64 .leaf z64) []),
 Ls (.store false Sx6 (.t 6) (.t 18))] [6])
 (.ret))
 (.skip)))
 (.seq (.region [Lw 20 0,
 Ipx 21 4,
 Ipx 22 5,
 Ll 23 (Ofx F2j [(.t 20),(.t 21),(.t 22)]),
 Lw 19 23,
 Iex 24 19 0,
 Iex 25 19 1,
 Iex 26 19 2,
 Ll 7 (.box false 3 (.c (.arr 64 .leaf z64))),
 Ll 8 (.box false 4 (.c (.arr 64 .leaf z64))),
 Ll 9 (.box false 5 (.c (.arr 64 .leaf z64))),
 Ls (.store false Sx6 (.t 7) (.t 24)),
 Ls (.store false Sx6 (.t 8) (.t 25)),
 Ls (.store false Sx6 (.t 9) (.t 26))] [6,7])
 (.seq (.region [Ipx 27 7,
 Ls (.store false Sx6 (.t 6) (.t 27))] [6])
 (.ret))))
def Z2m:Fn:=
 { nparams:=3,nblk:=6,results:=[.cell 6 Sx6],body:=Z2m_B }
def Z2x_B:Cd:=
 .seq (.region [Ll 0 (.box false 0 (.c (.arr 64 .leaf z64)))] [0])
 (.seq (.region [Ll 1 (.build false (.arr 64 .leaf z64) [(0,(.c (.int .u8 0))),(1,(.c (.int .u8 1)))]),
 Ls (.store false Sx6 (.t 0) (.t 1))] [0])
 (.ret))
def Z2x:Fn:=
 { nparams:=0,nblk:=1,results:=[.cell 0 Sx6],body:=Z2x_B }
def Z2p_L0:Cd:=
 .seq (.seq (.region [Lw 16 7,
 Ll 17 (.bin .mul (Acx 2) (.t 16)),
 Lw 18 5,
 Ll 19 (.bin .leq (.t 17) (.t 18))] [0,3,5,6,7,19])
 (.cond (.t 19)
 (.skip)
 (.exit 0)))
 (.seq (.block 1 (.seq (.region [Lw 22 0,
 Ipx 23 6,
 Lw 24 0,
 Ipx 25 3,
 Ll 26 (Ofx F2v [(.t 22),(.t 23),(.t 24),(.t 25)]),
 Ls (.store false Sx6 (.t 6) (.t 26))] [0,3,5,6,7])
 (.seq (.region [Lw 27 0,
 Ipx 28 3,
 Lw 29 0,
 Ipx 30 6,
 Ll 31 (Ofx F2x []),
 Ll 32 (Ofx F2i [(.t 29),(.t 30),(.t 31),(Acx (-1))]),
 Ll 33 (Ofx F2m [(.t 27),(.t 28),(.t 32)]),
 Ll 34 (Ofx F2k [(.t 33)]),
 Ll 35 (.bin .neq (.t 34) (Acx 0))] [0,3,5,6,7,35])
 (.cond (.t 35)
 (.seq (.region [Ll 4 (.mv (.c (.bool false)))] [4])
 (.ret))
 (.skip)))))
 (.region [Lw 20 7,
 Ll 21 (.bin .add (.t 20) (Acx 1)),
 Lw 7 21] [0,3,5,6,7]))
def Z2p_B:Cd:=
 .seq (.region [Ll 3 (.box false 0 (.t 1)),
 Ll 4 (.mv (.c (.bool false)))] [0,3])
 (.seq (.region [Ipx 8 3,
 Ll 9 (Ofx F2k [(.t 8)]),
 Lw 10 0,
 Ll 11 (Ofx F2x []),
 Ipx 12 3,
 Ll 13 (Ofx F2r [(.t 10),(.t 11),(.t 12)]),
 Ll 6 (.box false 1 (.c (.arr 64 .leaf z64))),
 Lw 5 9,
 Ls (.store false Sx6 (.t 6) (.t 13))] [0,3,5,6])
 (.seq (.seq (.region [Lw 14 5,
 Ll 15 (.bin .lss (.t 14) (Acx 1))] [0,3,5,6,15])
 (.cond (.t 15)
 (.seq (.region [Ll 4 (.mv (.c (.bool false)))] [4])
 (.ret))
 (.skip)))
 (.seq (.seq (.region [Ll 7 (.mv (Acx 1))] [0,3,5,6,7])
 (.block 0 (.loop (Z2p_L0))))
 (.seq (.region [Ll 4 (.mv (.c (.bool true)))] [4])
 (.ret)))))
def Z2p:Fn:=
 { nparams:=2,nblk:=2,results:=[.tmp 4],body:=Z2p_B }
end Pe

/-
 Functions of the program in the small form,printed by a program.
-/
namespace Pe
open Go
def Z30_B:Cd:=
 .seq (.region [Ll 3 (.box false 0 (.t 1)),
 Ll 4 (.mv (.c (.bool false)))] [0,3])
 (.seq (.region [Lw 5 0,
 Ipx 6 3,
 Ll 7 (Ofx F2q [(.t 5),(.t 6)]),
 Lw 8 7,
 Lg 9 (.load Sx6 (.t 3)) 8 true,
 Lg 10 (Ofx F2s [(.t 9)]) 8 true,
 Ll 11 (.pick (.t 8) (.t 10) (.c (.bool false))),
 Lw 12 11,
 Lg 13 (.load Sx6 (.t 3)) 12 true,
 Lg 14 (Ofx F2k [(.t 13)]) 12 true,
 Lg 15 (Ofx F2n [(.t 14),(Acx 1),(Acx 4)]) 12 true,
 Ll 16 (.pick (.t 12) (.t 15) (.c (.bool false))),
 Lw 17 16,
 Lx 18 0 17 true,
 Lg 19 (.load Sx6 (.t 3)) 17 true,
 Lg 20 (Ofx F2p [(.t 18),(.t 19)]) 17 true,
 Ll 21 (.pick (.t 17) (.t 20) (.c (.bool false))),
 Lw 4 21] [4])
 (.ret))
def Z30:Fn:=
 { nparams:=2,nblk:=1,results:=[.tmp 4],body:=Z30_B }
def Z32_B:Cd:=
 .seq (.region [Ll 4 (.box false 0 (.t 1)),
 Ll 5 (.box false 1 (.t 2)),
 Ll 6 (.mv (.c (.bool false)))] [0,4,5])
 (.seq (.region [Lw 7 0,
 Ipx 8 5,
 Ll 9 (Ofx F2q [(.t 7),(.t 8)]),
 Lw 10 9,
 Lg 11 (.load Sx6 (.t 5)) 10 true,
 Lg 12 (Ofx F2k [(.t 11)]) 10 true,
 Lg 13 (.load Sx6 (.t 4)) 10 true,
 Lg 14 (Ofx F2k [(.t 13)]) 10 true,
 Lg 15 (.bin .lss (.t 12) (.t 14)) 10 true,
 Ll 16 (.pick (.t 10) (.t 15) (.c (.bool false))),
 Lw 6 16] [6])
 (.ret))
def Z32:Fn:=
 { nparams:=3,nblk:=2,results:=[.tmp 6],body:=Z32_B }
def Z31_L0:Cd:=
 .seq (.seq (.region [Lw 14 9,
 Ll 15 (.bin .gtr (.t 14) (Acx 0))] [0,5,7,8,9,15])
 (.cond (.t 15)
 (.skip)
 (.exit 0)))
 (.seq (.block 1 (.region [Lw 18 0,
 Ipx 19 5,
 Lw 20 0,
 Ipx 21 7,
 Ll 22 (Ofx F2v [(.t 18),(.t 19),(.t 20),(.t 21)]),
 Ls (.store false Sx6 (.t 5) (.t 22))] [0,5,7,8,9]))
 (.region [Lw 16 9,
 Ll 17 (.bin .sub (.t 16) (Acx 1)),
 Lw 9 17] [0,5,7,8,9]))
def Z31_B:Cd:=
 .seq (.region [Ll 5 (.box false 0 (.t 1)),
 Ll 7 (.box false 1 (.t 3)),
 Ll 8 (.box false 2 (.c (.arr 64 .leaf z64)))] [0,2,5,7,8])
 (.seq (.seq (.region [Lw 10 2,
 Ipx 11 7,
 Ll 12 (Ofx F2k [(.t 11)]),
 Ll 13 (.bin .rem (.t 10) (.t 12)),
 Lw 9 13] [0,5,7,8,9])
 (.block 0 (.loop (Z31_L0))))
 (.seq (.region [Ipx 23 5,
 Ls (.store false Sx6 (.t 8) (.t 23))] [8])
 (.ret)))
def Z31:Fn:=
 { nparams:=4,nblk:=3,results:=[.cell 8 Sx6],body:=Z31_B }
def Z33_L0:Cd:=
 .seq (.seq (.region [Lw 12 7,
 Lw 13 2,
 Ll 14 (.len false (.t 13)),
 Ll 15 (.bin .lss (.t 12) (.t 14))] [0,2,4,7,15])
 (.cond (.t 15)
 (.skip)
 (.exit 0)))
 (.seq (.block 1 (.seq (.region [Lw 18 0,
 Ipx 19 4,
 Lw 20 2,
 Lw 21 7,
 Ll 22 (.idxA none Sx6 (.t 20) (.t 21)),
 Ipx 23 22,
 Ll 24 (Ofx F32 [(.t 18),(.t 19),(.t 23)]),
 Ll 25 (.un .not (.t 24))] [0,2,4,7,25])
 (.cond (.t 25)
 (.seq (.region [Ll 6 (.mv (Acx 1))] [6])
 (.ret))
 (.skip))))
 (.region [Lw 16 7,
 Ll 17 (.bin .add (.t 16) (Acx 1)),
 Lw 7 17] [0,2,4,7]))
def Z33_B:Cd:=
 .seq (.region [Ll 4 (.box false 0 (.t 1)),
 Ll 6 (.mv (Acx 0))] [0,2,4])
 (.seq (.seq (.region [Lw 8 0,
 Ipx 9 4,
 Ll 10 (Ofx F30 [(.t 8),(.t 9)]),
 Ll 11 (.un .not (.t 10))] [0,2,4,11])
 (.cond (.t 11)
 (.seq (.region [Ll 6 (.mv (Acx 1))] [6])
 (.ret))
 (.skip)))
 (.seq (.seq (.region [Ll 7 (.mv (Acx 0))] [0,2,4,7])
 (.block 0 (.loop (Z33_L0))))
 (.seq (.region [Ll 6 (.mv (Acx 0))] [6])
 (.ret))))
def Z33:Fn:=
 { nparams:=3,nblk:=1,results:=[.tmp 6],body:=Z33_B }
end Pe

/-
 Functions of the program in the small form,printed by a program.
-/
namespace Pe
open Go
def Z34_B:Cd:=
 .seq (.region [Ll 5 (.box false 0 (.t 1)),
 Ll 8 (.mv (Acx 0))] [0,2,3,5])
 (.seq (.region [Lw 10 0,
 Ipx 11 5,
 Lw 12 2,
 Ll 13 (Ofx F33 [(.t 10),(.t 11),(.t 12)]),
 Lw 9 13] [2,3,9])
 (.seq (.seq (.region [Lw 14 9,
 Ll 15 (.bin .eql (.t 14) (Acx 0)),
 Lw 16 15,
 Lx 17 2 16 true,
 Lg 18 (.len false (.t 17)) 16 true,
 Lx 19 3 16 true,
 Lg 20 (.bin .gtr (.t 18) (.t 19)) 16 true,
 Ll 21 (.pick (.t 16) (.t 20) (.c (.bool false)))] [9,21])
 (.cond (.t 21)
 (.seq (.region [Ll 8 (.mv (Acx 2))] [8])
 (.ret))
 (.skip)))
 (.seq (.region [Lw 22 9,
 Lw 8 22] [8])
 (.ret))))
def Z34:Fn:=
 { nparams:=4,nblk:=1,results:=[.tmp 8],body:=Z34_B }
def Z35_L0:Cd:=
 .seq (.seq (.region [Lw 19 10,
 Lw 20 2,
 Ll 21 (.len false (.t 20)),
 Ll 22 (.bin .lss (.t 19) (.t 21))] [0,2,4,7,8,9,10,22])
 (.cond (.t 22)
 (.skip)
 (.exit 2)))
 (.seq (.block 3 (.region [Lw 25 9,
 Lw 26 0,
 Lw 27 2,
 Lw 28 10,
 Ll 29 (.idxA none Sx6 (.t 27) (.t 28)),
 Ipx 30 29,
 Lw 31 8,
 Ipx 32 4,
 Ll 33 (Ofx F31 [(.t 26),(.t 30),(.t 31),(.t 32)]),
 Ll 34 (.buildSl false 3 Sx6 (.arr 64 .leaf z64) 1 [(0,(.t 33))]),
 Ll 35 (.append Sx6 4 64 (.t 25) (.t 34)),
 Lw 9 35] [0,2,4,7,8,9,10]))
 (.region [Lw 23 10,
 Ll 24 (.bin .add (.t 23) (Acx 1)),
 Lw 10 24] [0,2,4,7,8,9,10]))
def Z35_L1:Cd:=
 .seq (.seq (.region [Lw 12 8,
 Lw 13 2,
 Ll 14 (.len false (.t 13)),
 Ll 15 (.bin .lss (.t 12) (.t 14))] [0,2,4,7,8,15])
 (.cond (.t 15)
 (.skip)
 (.exit 0)))
 (.seq (.block 1 (.seq (.region [Ll 18 (.buildSl false 2 Sx6 (.arr 64 .leaf z64) 0 []),
 Lw 9 18] [0,2,4,7,8,9])
 (.seq (.seq (.region [Ll 10 (.mv (Acx 0))] [0,2,4,7,8,9,10])
 (.block 2 (.loop (Z35_L0))))
 (.region [Lw 36 7,
 Lw 37 9,
 Ll 38 (.buildSl true 5 .leaf (.sl Sx6 []) 1 [(0,(.t 37))]),
 Ll 39 (.append .leaf 6 24 (.t 36) (.t 38)),
 Lw 7 39] [0,2,4,7,8]))))
 (.region [Lw 16 8,
 Ll 17 (.bin .add (.t 16) (Acx 1)),
 Lw 8 17] [0,2,4,7,8]))
def Z35_B:Cd:=
 .seq (.region [Ll 4 (.box false 0 (.t 1)),
 Ll 6 (.mv (.c (.sl .leaf [])))] [0,2,4])
 (.seq (.region [Ll 11 (.buildSl false 1 .leaf (.sl Sx6 []) 0 []),
 Lw 7 11] [0,2,4,7])
 (.seq (.seq (.region [Ll 8 (.mv (Acx 0))] [0,2,4,7,8])
 (.block 0 (.loop (Z35_L1))))
 (.seq (.region [Lw 40 7,
 Lw 6 40] [6])
 (.ret))))
def Z35:Fn:=
 { nparams:=3,nblk:=7,results:=[.tmp 6],body:=Z35_B }
def Z2h_B:Cd:=
 .seq (.region [Ll 4 (.box false 0 (.t 1)),
 Ll 6 (.mv (.c (.sl .leaf []))),
 Ll 7 (.mv (Acx 0))] [0,2,4])
 (.seq (.seq (.region [Lw 9 0,
 Ipx 10 4,
 Lw 11 2,
 Ll 12 (Ofx F34 [(.t 9),(.t 10),(.t 11),(Acx 4)]),
 Lw 8 12] [0,2,4,8])
 (.seq (.region [Lw 13 8,
 Ll 14 (.bin .neq (.t 13) (Acx 0))] [0,2,4,8,14])
 (.cond (.t 14)
 (.seq (.region [Lw 15 8,
 Ll 6 (.mv (.c (.sl .leaf []))),
 Lw 7 15] [6,7])
 (.ret))
 (.skip))))
 (.seq (.region [Lw 16 0,
 Ipx 17 4,
 Lw 18 2,
 Ll 19 (Opx F35 [(.t 16),(.t 17),(.t 18)]),
 Lw 6 19,
 Ll 7 (.mv (Acx 0))] [6,7])
 (.ret)))
def Z2h:Fn:=
 { nparams:=3,nblk:=1,results:=[.tmp 6,.tmp 7],body:=Z2h_B }
end Pe

namespace Gq
section
variable {K:Type} [Fd K]
theorem Pol.mod_eq_iff {a b m:Pol K} (hm:m≠0):a%m=b%m↔Quo.mk m a=Quo.mk m b:=by
 rw [Quo.eq];constructor
 ·intro h
  refine ⟨a/m-b/m,?_⟩;have h1:=div_mod a m;have h2:=div_mod b m;rw [h] at h1;generalize a/m=q at *;generalize b/m=q' at *;rw [h1];have e:q*m+b%m=(q'*m+b%m)+m*(q-q'):=bv [q,q',m,b%m] rfl;rw [e,←h2]
 ·rintro ⟨c,rfl⟩
  have h2:=div_mod b m;refine (div_mod_eq (q:=b/m+c) ?_ (len_mod b hm)).2;have e:b+m*c=(b/m*m+b%m)+m*c:=by rw [←h2]
  rw [e];exact bv [b/m,m,b%m,c] rfl
theorem Pol.mk_mod (a m:Pol K):Quo.mk m (a%m)=Quo.mk m a:=by
 rw [Quo.eq];refine ⟨-(a/m),?_⟩;have h:=div_mod a m;have e:a%m=(a/m*m+a%m)+m * -(a/m):=bv [a/m,m,a%m] rfl;rw [e,←h]
theorem Pol.mod_small {a m:Pol K} (h:a.len<m.len):a%m=a:=(div_mod_eq (q:=0) (by rw [zero_mul,zero_add]) h).2
theorem Pol.zero_mod {m:Pol K} (hm:m≠0):(0:Pol K)%m=0:=mod_small (by rw [len_zero]; exact len_pos hm)
theorem Pol.div_small {a m:Pol K} (h:a.len<m.len):a/m=0:=(div_mod_eq (q:=0) (by rw [zero_mul,zero_add]) h).1
theorem Pol.mul_mod_left (a b:Pol K) {m:Pol K} (hm:m≠0):(a%m)*b%m=a*b%m:=by
 rw [mod_eq_iff hm,Quo.mk_mul,Quo.mk_mul,mk_mod]
theorem Pol.mod_self_mul (a:Pol K) {m:Pol K} (hm:m≠0):(a*m)%m=0:=
 (div_mod_eq (q:=a) (by rw [add_zero]) (by rw [len_zero]; exact len_pos hm)).2
theorem Pol.len_mod_le (a:Pol K) {m:Pol K} (hm:m≠0):(a%m).len≤a.len:=by
 rcases dg a.len m.len with h | h
 ·rw [mod_small h]; exact b9 _
 ·have:=len_mod a hm; omega
theorem Pol.len_div {a m:Pol K} (hm:m≠0) (h:m.len≤a.len):(a/m).len+m.len=a.len+1:=by
 have h1:=div_mod a m;have h2:=len_mod a hm;have h3:=len_pos hm
 by_cases hq:a/m=0
 ·rw [hq,zero_mul,zero_add] at h1
  rw [←h1] at h2; omega
 ·have h4:=len_mul hq hm
  have h5:=len_pos hq
  have e:a.len=(a/m*m).len:=by
   apply Nat.le_antisymm
   ·rw [h1]
    exact len_le (lt_add (by rw [←h1]; exact lt_len _) (lt_iff.2 (by rw [←h1]; omega)))
   ·have:a/m*m=a-a%m:=by
     have e:a-a%m=(a/m*m+a%m)-a%m:=by rw [←h1]
     rw [e]; exact bv [a/m*m,a%m] rfl
    rw [this];exact len_le (lt_sub a.lt_len (lt_iff.2 (by omega)))
  omega
theorem Pol.len_div_le (a:Pol K) {m:Pol K} (hm:m≠0):(a/m).len≤a.len:=by
 rcases dg a.len m.len with h | h
 ·rw [div_small h,len_zero]; omega
 ·have:=len_div hm h
  have:=len_pos hm;omega
theorem zj {R:Type} [CR R] (a:R) (m:Nat):∀n,pw a (m+n)=pw a m*pw a n
 | 0=>(mul_one _).symm
 | n+1=>by rw [←f8,pw,zj a m n,pw,mul_assoc]
theorem Dc {R:Type} [CR R] (a b:R):∀n,pw (a*b) n=pw a n*pw b n
 | 0=>(mul_one _).symm
 | n+1=>by rw [pw,pw,pw,Dc a b n]; exact bv [a,b,pw a n,pw b n] rfl
theorem x9 {R:Type} [CR R] (a:R) (m:Nat):∀n,pw (pw a m) n=pw a (m*n)
 | 0=>rfl
 | n+1=>by rw [pw,x9 a m n,Nat.mul_succ,zj]
theorem Uu {R:Type} [CR R]:∀n,pw (1:R) n=1
 | 0=>rfl
 | n+1=>by rw [pw,Uu n,mul_one]
theorem z9 {R:Type} [CR R] (a:R):pw a 1=a:=one_mul a
theorem Pol.pow_mod (a:Pol K) {m:Pol K} (hm:m≠0) (n:Nat):pw (a%m) n%m=pw a n%m:=by
 rw [mod_eq_iff hm,Quo.mk_pow,Quo.mk_pow,mk_mod]
theorem Pol.bin_step {out base m:Pol K} (hm:m≠0) (k:Nat) (_hk:0<k) :
 (if k%2=1 then out*base%m else out)*pw (base*base%m) (k/2)%m=out*pw base k%m:=by
 rw [mod_eq_iff hm,Quo.mk_mul,Quo.mk_mul,Quo.mk_pow,mk_mod,Quo.mk_mul,Dc,Quo.mk_pow,←zj]
 split
 ·rename_i h
  rw [mk_mod,Quo.mk_mul];have e:k=1+(k/2+k/2):=by omega
  have e2:pw (Quo.mk m base) k=Quo.mk m base*pw (Quo.mk m base) (k/2+k/2):=by
   have:=zj (Quo.mk m base) 1 (k/2+k/2)
   rwa [←e,z9] at this
  rw [e2,mul_assoc]
 ·rename_i h
  have e:k/2+k/2=k:=by omega
  rw [e]
open Classical in
noncomputable def Pol.bz:Nat→Pol K→Pol K→Pol K→Pol K→Pol K→Pol K→Pol K×Pol K×Pol K
 | 0,a,_,u,_,v,_=>(a,u,v)
 | n+1,a,b,u,x,v,y=>if b=0 then (a,u,v) else bz n b (a%b) x (u-a/b*x) y (v-a/b*y)
structure Pol.BzI (A B a b u x v y:Pol K):Prop where
 one:u*A+v*B=a
 two:x*A+y*B=b
 lx:x.len=0∨x.len+a.len≤B.len+1
 ly:y.len=0∨y.len+a.len≤A.len+1
 lu:u.len=0∨u.len+b.len≤B.len+1
 lv:v.len=0∨v.len+b.len≤A.len+1
 any:a≠0∨b≠0
theorem Pol.BzI.init {A B:Pol K} (h:A≠0∨B≠0):BzI A B A B 1 0 0 1:=
 ⟨bv [A,B] rfl,bv [A,B] rfl,.inl len_zero,.inr (by rw [len_one]; omega),.inr (by rw [len_one]; omega),.inl len_zero,h⟩
theorem Pol.len_sub_le {a b:Pol K} {n:Nat} (ha:a.len≤n) (hb:b.len≤n):(a-b).len≤n:=len_le (lt_sub (lt_iff.2 ha) (lt_iff.2 hb))
theorem Pol.len_add_le {a b:Pol K} {n:Nat} (ha:a.len≤n) (hb:b.len≤n):(a+b).len≤n:=len_le (lt_add (lt_iff.2 ha) (lt_iff.2 hb))
theorem Pol.BzI.qlen {A B a b u x v y:Pol K} (h:BzI A B a b u x v y) (hb:b≠0) :
 ((a/b*x).len=0∨(a/b*x).len+b.len≤B.len+1)∧((a/b*y).len=0∨(a/b*y).len+b.len≤A.len+1):=by
 have key:∀(x:Pol K) (n:Nat),(x.len=0∨x.len+a.len≤n+1)→((a/b*x).len=0∨(a/b*x).len+b.len≤n+1):=by
  intro x n hx
  by_cases hx0:x=0
  ·left; rw [hx0,mul_zero,len_zero]
  ·rcases dg a.len b.len with hl | hl
   ·left; rw [div_small hl,zero_mul,len_zero]
   ·have h1:=len_div hb hl
    have hq:a/b≠0:=fun h0=>by
     rw [h0,len_zero] at h1;omega
    have h2:=len_mul hq hx0;have h3:=len_pos hx0;right; omega
 exact ⟨key x B.len h.lx,key y A.len h.ly⟩
theorem Pol.BzI.step {A B a b u x v y:Pol K} (h:BzI A B a b u x v y) (hb:b≠0):BzI A B b (a%b) x (u-a/b*x) y (v-a/b*y):=by
 have hm:=div_mod a b;have hl:=len_mod a hb;have hle:=len_mod_le a hb;obtain ⟨q1,q2⟩:=h.qlen hb
 have sub:∀(u q:Pol K) (n:Nat),(u.len=0∨u.len+b.len≤n+1)→(q.len=0∨q.len+b.len≤n+1)→((u-q).len=0∨(u-q).len+b.len≤n+1):=by
  intro u q n h1 h2
  by_cases hn:n+1≤b.len
  ·left
   have e1:u.len=0:=by omega
   have e2:q.len=0:=by omega
   have:=len_sub_le (a:=u) (b:=q) (n:=0) (by omega) (by omega)
   omega
  ·right
   have:=len_sub_le (a:=u) (b:=q) (n:=n+1-b.len) (by omega) (by omega)
   omega
 refine ⟨h.two,?_,sub _ _ _ h.lu q1,sub _ _ _ h.lv q2,?_,?_,.inl hb⟩
 ·have e:(u-a/b*x)*A+(v-a/b*y)*B=(u*A+v*B)-a/b*(x*A+y*B):=bv [u,a/b,x,A,v,y,B] rfl
  rw [e,h.one,h.two];have e2:a-a/b*b=(a/b*b+a%b)-a/b*b:=by rw [←hm]
  rw [e2];exact bv [a/b,b,a%b] rfl
 ·exact h.lx.imp id fun h=>by omega
 ·exact h.ly.imp id fun h=>by omega
theorem Pol.bz_spec {A B:Pol K}:∀(n:Nat) (a b u x v y:Pol K),b.len≤n→BzI A B a b u x v y →
 ∃x' y',BzI A B (bz n a b u x v y).1 0 (bz n a b u x v y).2.1 x' (bz n a b u x v y).2.2 y'∧(∃s,a=s*(bz n a b u x v y).1)∧(∃s,b=s*(bz n a b u x v y).1)
 | 0,a,b,u,x,v,y,hn,h=>by
  obtain rfl:=len_zero_iff.1 (show b.len=0 by omega)
  exact ⟨x,y,h,⟨1,(one_mul a).symm⟩,⟨0,(zero_mul a).symm⟩⟩
 | n+1,a,b,u,x,v,y,hn,h=>by
  unfold bz
  split
  ·rename_i hb
   subst hb;exact ⟨x,y,h,⟨1,(one_mul a).symm⟩,⟨0,(zero_mul a).symm⟩⟩
  ·rename_i hb
   have hl:=len_mod a hb;obtain ⟨x',y',h1,⟨s,h2⟩,⟨t,h3⟩⟩:=bz_spec n b (a%b) x (u-a/b*x) y (v-a/b*y) (by omega) (h.step hb)
   refine ⟨x',y',h1,⟨a/b*s+t,?_⟩,⟨s,h2⟩⟩;generalize (bz n b (a%b) x (u-a/b*x) y (v-a/b*y)).1=d at *;have e:(a/b*s+t)*d=a/b*(s*d)+t*d:=bv [a/b,s,t,d] rfl;rw [e,←h2,←h3];exact div_mod a b
noncomputable def Pol.eu (a b:Pol K):Pol K×Pol K×Pol K:=bz b.len a b 1 0 0 1
noncomputable def Pol.bezout (a b:Pol K):Pol K×Pol K×Pol K:=
 let r:=eu a b
 (C (Fd.inv r.1.ld)*r.1,C (Fd.inv r.1.ld)*r.2.1,C (Fd.inv r.1.ld)*r.2.2)
noncomputable def Pol.gcd (a b:Pol K):Pol K:=(bezout a b).1
end
end Gq

namespace Pe
open Go Gq
variable {T:Nat→Option Fn} {A:af}
theorem Ed {p:Int} (a:Fp p) (h:a.len≤64):trim (pad (row a))=row a:=ui fun i=>by rw [Aa (by rw [bn]; exact h),ff]
theorem xe {l:List Int} {i:Nat} (h:i<l.length):l.take i++[l[i]]=l.take (i+1):=by
 rw [List.take_add_one,al h]; rfl
theorem Ps {O:af} {l:List Int} (hb:iu l) (hl:l.length=64):∀(m i:Nat) (cp:Option Nat),i+m=64 →
 dn O 0 (.loop Z19_L0) ⟨[(3,.sl 1 [] 0 i cp),(6,(.d (.arr 64 .leaf (am .u8 l)))),(7,(.d (.int .i64 i)))],[.hole,.sl false .leaf (am .i64 (l.take i)),.hole,.hole]⟩ =
  some (.exit 0,⟨[(3,.sl 1 [] 0 64 (if m=0 then cp else none)),(6,(.d (.arr 64 .leaf (am .u8 l)))),(7,(.d (.int .i64 64))),(8,(.d (.bool false)))],[.hole,.sl false .leaf (am .i64 (l.take 64)),.hole,.hole]⟩)
 | 0,i,cp,hi=>by
  have:i=64:=by omega
  subst this;exact bo (by simp -implicitDefEqProofs [Z19_L0,ap])
 | m+1,i,cp,hi=>by
  have h1:(i:Int)<64:=by omega
  have hlt:i<l.length:=by omega
  have hx:l[i]? = some l[i]:=al hlt;have hb':=hb _ (bh hlt);have w1:IntKind.i64.wrap l[i]=l[i]:=w64 (by omega)
  have w4:IntKind.i64.wrap ((i:Int)+1)=((i+1:Nat):Int):=(w64 (x:=(i:Int)+1) (by omega)).trans (by omega)
  have h8:(i+1)*8≤1099511627776:=by omega
  have hlen:i≤l.length:=by omega
  have ht:(l.take i).take i=l.take i:=by rw [List.take_take,Nat.min_self]
  have e1:am .i64 (l.take i)++[D.int .i64 l[i]]=am .i64 (l.take (i+1)):=by rw [←xe hlt,←Ai]; rfl
  have ih:=Ps (O:=O) hb hl m (i+1) none (by omega)
  have e2:(if m=0 then (none:Option Nat) else none)=none:=by split <;> rfl
  rw [e2] at ih;rw [if_neg (Nat.succ_ne_zero m)];refine bm ?_ ih;simp -implicitDefEqProofs [Z19_L0,ap,h1,hlt,w1,w4,h8,hlen,ht,e1,List.replicate]
def ye (O:af):Prop:=∀l:List Int,iu l→l.length=64→ask O F19 [(D.arr 64 .leaf (am .u8 l))]=some (D.sl .leaf (am .i64 (trim l)))
theorem a0j (hT:T F19=some Z19) (ht:pr (den T A)):ye (den T A):=by
 intro l hb hl;have e:=Ps (O:=den T A) hb hl 64 0 (some 0) (b7 _);have e0:((0:Nat):Int)=0:=rfl;rw [e0,cz,gf,av (by omega)] at e
 have e1:=ht l (by omega)
 have ht:l.take 64=l:=av (by omega)
 refine br hT rfl ?_;simp -implicitDefEqProofs [Z19,Z19_B,e,e1,hl,ht]
def t6 (O:af):Prop:=∀(p:Int) [IsP p] (a:Fp p),a.len≤64→ask O F19 [(D.arr 64 .leaf (am .u8 (pad (row a))))]=some (D.sl .leaf (am .i64 (row a)))
theorem Td {p:Int} [IsP p] (a:Fp p):iu (pad (row a)):=fun x hx=>by
 obtain ⟨i,_,rfl⟩:=ca.1 hx;have:=(gp a).le IsP.pos i;have:=IsP.le (p:=p);omega
theorem a0f {O:af} (h:ye O):t6 O:=fun p i a hl=>by
 rw [h _ (Td a) (cx _),Ed a hl]
theorem Vr {O:af} {l z:List Int} (hb:iu l) (hl:l.length≤64):∀(m i:Nat) (cur:List Int),i+m=l.length→cur.length=64 →
 dn O 0 (.loop Z1d_L0) ⟨[(2,.ptr 0 []),(3,.ptr 1 []),(6,(.d (.sl .leaf (am .i64 l)))),(7,(.d (.int .i64 l.length))),(8,(.d (.int .i64 i)))],[.box false (D.arr 64 .leaf (am .u8 z)),.box false (D.arr 64 .leaf (am .u8 cur))]⟩ =
  some (.exit 0,⟨[(2,.ptr 0 []),(3,.ptr 1 []),(6,(.d (.sl .leaf (am .i64 l)))),(7,(.d (.int .i64 l.length))),(8,(.d (.int .i64 l.length))),(9,(.d (.bool false)))],[.box false (D.arr 64 .leaf (am .u8 z)),.box false (D.arr 64 .leaf (am .u8 (upd (cf l) m i cur)))]⟩)
 | 0,i,cur,hi,hc=>by
  have:i=l.length:=by omega
  subst this;exact bo (by simp -implicitDefEqProofs [Z1d_L0,ap,upd])
 | m+1,i,cur,hi,hc=>by
  have hlt:i<l.length:=by omega
  have hx:l[i]? = some (cf l i):=by rw [al hlt,dp hlt]
  have hb':=hb _ (bh hlt);rw [←dp hlt] at hb';have w1:IntKind.u8.wrap l[i]=cf l i:=by rw [←dp hlt]; exact w8 hb'
  have w4:IntKind.i64.wrap ((i:Int)+1)=((i+1:Nat):Int):=(w64 (x:=(i:Int)+1) (by omega)).trans (by omega)
  have hi64:i<64:=by omega
  have hcur:cur[i]? = some (cf cur i):=by rw [al (by omega),dp]
  have ih:=Vr (O:=O) (z:=z) hb hl m (i+1) (cur.set i (cf l i)) (by omega) (by simpa using hc)
  refine bm ?_ ih;simp -implicitDefEqProofs [Z1d_L0,ap,hlt,w1,w4,hi64,hcur]
def Mw (O:af):Prop:=∀l:List Int,iu l→l.length≤64→ask O F1d [(D.sl .leaf (am .i64 l))]=some (D.arr 64 .leaf (am .u8 (pad l)))
theorem Yx {l:List Int} (_hl:l.length≤64):upd (cf l) l.length 0 (pad [])=pad l:=by
 symm
 apply Nj
 ·rw [tv,cx]
 ·intro i hi
  unfold cf;rw [c6,c6,Bl]
  by_cases h:i<l.length
  ·rw [if_pos (by rw [cx]; omega)]
   simp [h]
  ·rw [if_neg (by omega),bi (by omega),om _ _ hi]; rfl
theorem a1w (hT:T F1d=some Z1d):Mw (den T A):=by
 intro l hb hl;have e:=Vr (O:=den T A) (z:=pad []) hb hl l.length 0 (pad []) (b7 _) (cx []);have e0:((0:Nat):Int)=0:=rfl;rw [e0,Yx hl] at e;refine br hT rfl ?_;simp -implicitDefEqProofs [Z1d,Z1d_B,e]
theorem Sy {p:Int} [IsP p] (a:Fp p):iu (row a):=fun x hx=>by
 have:=gp a x hx;have:=IsP.le (p:=p);omega
def A1 (O:af):Prop:=∀(p:Int) [IsP p] (a:Fp p),a.len≤64→ask O F1d [(D.sl .leaf (am .i64 (row a)))]=some (D.arr 64 .leaf (am .u8 (pad (row a))))
theorem a2g {O:af} (h:Mw O):A1 O:=fun p i a hl=>h _ (Sy a) (by simpa using hl)
def zw (O:af):Prop:=∀(p:Int) [IsP p] (a b:Fp p),b≠0→a.len<5000→b.len<5000 →
 ask O F13 [(D.int .i64 p),(D.sl .leaf (am .i64 (row a))),(D.sl .leaf (am .i64 (row b)))]=some (D.sl .leaf (am .i64 (row (a%b))))
theorem a25 (hT:T F13=some Z13) (hd:qd (den T A)):zw (den T A):=by
 intro p i a b hb h1 h2;have e:=hd p a b hb h1 h2;refine br hT rfl ?_;simp -implicitDefEqProofs [Z13,Z13_B,e]
end Pe

namespace Pe
open Go Gq
variable {T:Nat→Option Fn} {A:af}
section
variable {p:Int} [IsP p]
theorem vu:row (1:Fp p)=[1]:=by
 unfold row;rw [Pol.len_one];show [rep ((1:Fp p).c 0)]=[1];have:(1:Fp p).c 0=1:=rfl;rw [this,wd]
end
section
variable {p:Int}
theorem Cr (u z:Fp p):u+Pol.C (zp p (-1))*z=u-z:=by
 rw [N9,Nb,Pol.C_neg,Pol.C_one];exact bv [u,z] rfl
end
section
variable {p:Int} [IsP p]
end
def o7 (O:af):Prop:=∀(p:Int) [IsP p] (a b:Fp p),a.len<1000000→b.len<1000000 →
 ask O Fs [(D.int .i64 p),(D.sl .leaf (am .i64 (row a))),(D.sl .leaf (am .i64 (row b))),(D.int .i64 (-1))]=some (D.sl .leaf (am .i64 (row (a-b))))
theorem Oe {O:af} (h:zi O):o7 O:=fun p i a b h1 h2=>by
 rw [h p (-1) a b (by omega) (by omega) h1 h2,Cr]
section
variable {p:Int} [IsP p]
theorem Cf {A B a b u x v y:Fp p} (h:Pol.BzI A B a b u x v y) (hA:A.len≤2000) (hB:B.len≤2000) (ha:a.len≤2000) (hb:b.len≤2000) (hb0:b≠0) :
 u.len<3000∧v.len<3000∧x.len<3000∧y.len<3000∧(a/b).len<3000∧(a%b).len≤2000∧(a/b*x).len<3000∧(a/b*y).len<3000:=by
 have h1:=h.lu;have h2:=h.lv;have h3:=h.lx;have h4:=h.ly;have h5:=Pol.len_div_le a hb0;have h6:=Pol.len_mod_le a hb0;obtain ⟨h7,h8⟩:=h.qlen hb0;omega
theorem Tw {O:af} (hd:qd O) (ht:vr O) (hc:o7 O) {A B:Fp p} (hA:A.len≤2000) (hB:B.len≤2000):∀(n:Nat) (a b u x v y:Fp p),b.len≤n→a.len≤2000→b.len≤2000→Pol.BzI A B a b u x v y→∃x' y',
 dn O 0 (.loop Zr_L0) ⟨[(0,(.d (.int .i64 p))),(1,(.d (.sl .leaf (am .i64 (row a))))),(2,(.d (.sl .leaf (am .i64 (row b))))),(9,(.d (.sl .leaf (am .i64 (row u))))),(10,(.d (.sl .leaf (am .i64 (row v))))),(11,(.d (.sl .leaf (am .i64 (row x))))),(12,(.d (.sl .leaf (am .i64 (row y)))))],[.hole,.hole]⟩ =
  some (.exit 0,⟨[(0,(.d (.int .i64 p))),(1,(.d (.sl .leaf (am .i64 (row (Pol.bz n a b u x v y).1))))),(2,(.d (.sl .leaf (am .i64 ([]))))),(9,(.d (.sl .leaf (am .i64 (row (Pol.bz n a b u x v y).2.1))))),(10,(.d (.sl .leaf (am .i64 (row (Pol.bz n a b u x v y).2.2))))),(11,(.d (.sl .leaf (am .i64 x')))),(12,(.d (.sl .leaf (am .i64 y')))),(20,(.d (.bool false)))],[.hole,.hole]⟩):=by
 intro n
 induction n with
 | zero=>
  intro a b u x v y hn ha hb hi;obtain rfl:=Pol.len_zero_iff.1 (show b.len=0 by omega)
  exact ⟨row x,row y,bo (by simp -implicitDefEqProofs [Zr_L0,ap,du,Pol.bz,gf])⟩
 | succ n ih=>
  intro a b u x v y hn ha hb hi;unfold Pol.bz
  by_cases h0:b=0
  ·subst h0
   rw [if_pos rfl];exact ⟨row x,row y,bo (by simp -implicitDefEqProofs [Zr_L0,ap,du,gf])⟩
  ·rw [if_neg h0]
   obtain ⟨s1,s2,s3,s4,s5,s6,s7,s8⟩:=Cf hi hA hB ha hb h0;have hl:=Pol.len_mod a h0;have hp:=Pol.len_pos h0;obtain ⟨x',y',e⟩:=ih b (a%b) x (u-a/b*x) y (v-a/b*y) (by omega) hb s6 (hi.step h0)
   refine ⟨x',y',bm ?_ e⟩;have e1:=hd p a b h0 (by omega) (by omega)
   have e2:=ht p (a/b) x (by omega) (by omega)
   have e3:=hc p u (a/b*x) (by omega) (by omega)
   have e4:=ht p (a/b) y (by omega) (by omega)
   have e5:=hc p v (a/b*y) (by omega) (by omega)
   simp -implicitDefEqProofs [Zr_L0,ap,hp,e1,e2,e3,e4,e5]
end
def Cg (O:af):Prop:=∀(p:Int) [IsP p] (a b:Fp p),(a≠0∨b≠0)→a.len≤2000→b.len≤2000 →
 ask O Fr [(D.int .i64 p),(D.sl .leaf (am .i64 (row a))),(D.sl .leaf (am .i64 (row b)))]=some (.tup [(D.sl .leaf (am .i64 (row (Pol.bezout a b).1))),(D.sl .leaf (am .i64 (row (Pol.bezout a b).2.1))),(D.sl .leaf (am .i64 (row (Pol.bezout a b).2.2)))])
theorem ul {p:Int} [IsP p] (x:Zp p) (hx:x≠0):zp p (inv p (rep x))=Fd.inv x:=by
 have h0:=k8 x;have h1:rep x≠0:=fun h=>hx (gt.1 h)
 have h2:x*zp p (inv p (rep x))=1:=by
  have:zp p (rep x*inv p (rep x))=1:=by rw [←tt,Xf p _ (by omega) h0.2]; rfl
  rwa [xf,jb] at this
 have h3:=Fd.mul_inv x hx;have:Fd.inv x*(x*zp p (inv p (rep x)))=Fd.inv x*1:=by rw [h2]
 rw [←Gq.mul_assoc,Gq.mul_comm (Fd.inv x),h3,Gq.one_mul,Gq.mul_one] at this;exact this
theorem Xe (hT:T Fr=some Zr) (hd:qd (den T A)) (ht:vr (den T A)) (hc:o7 (den T A)) (hld:uw (den T A)) (hinv:o8 (den T A)) (hs:wm (den T A)):Cg (den T A):=by
 intro p i a b hab ha hb;have hp:=IsP.ge (p:=p);have hp7:=IsP.le (p:=p)
 -- the end
 have last:∀{x y:Fp p} {a' u v:Fp p},Pol.BzI a b a' 0 u x v y→ask (den T A) F1c [(D.sl .leaf (am .i64 (row a')))]=some (D.int .i64 (rep a'.ld))∧ask (den T A) Fx [(D.int .i64 p),(D.int .i64 (rep a'.ld))]=some (D.int .i64 (inv p (rep a'.ld))) ∧
  ask (den T A) F14 [(D.int .i64 p),(D.sl .leaf (am .i64 (row a'))),(D.int .i64 (inv p (rep a'.ld)))]=some (D.sl .leaf (am .i64 (row (Pol.C (Fd.inv a'.ld)*a'))))∧ask (den T A) F14 [(D.int .i64 p),(D.sl .leaf (am .i64 (row u))),(D.int .i64 (inv p (rep a'.ld)))]=some (D.sl .leaf (am .i64 (row (Pol.C (Fd.inv a'.ld)*u))))∧ask (den T A) F14 [(D.int .i64 p),(D.sl .leaf (am .i64 (row v))),(D.int .i64 (inv p (rep a'.ld)))]=some (D.sl .leaf (am .i64 (row (Pol.C (Fd.inv a'.ld)*v)))):=by
  intro x y a' u v hi;have ha0:a'≠0:=hi.any.resolve_right (fun h=>h rfl)
  have hr:=k8 a'.ld;have hin:=xq p (rep a'.ld);have h1:=hi.lu;have h2:=hi.lv;rw [Pol.len_zero] at h1 h2
  have hal:a'.len<5000:=by
   have:=Pol.len_add_le (a:=u*a) (b:=v*b) (n:=4500) (by
    by_cases hu:u=0
    ·rw [hu,Gq.zero_mul,Pol.len_zero]; omega
    ·by_cases ha0:a=0
     ·rw [ha0,Gq.mul_zero,Pol.len_zero]; omega
     ·have:=Pol.len_mul hu ha0; omega) (by
    by_cases hu:v=0
    ·rw [hu,Gq.zero_mul,Pol.len_zero]; omega
    ·by_cases ha0:b=0
     ·rw [ha0,Gq.mul_zero,Pol.len_zero]; omega
     ·have:=Pol.len_mul hu ha0; omega)
   rw [hi.one] at this;omega
  have e1:=hld (row a') (by rw [bn]; omega)
  rw [Ca] at e1;have e2:=hinv p (rep a'.ld) (by omega) (by omega) hr.1 hr.2
  have e3:=hs p (inv p (rep a'.ld)) a' (by omega) (by omega) (by omega)
  have e4:=hs p (inv p (rep a'.ld)) u (by omega) (by omega) (by omega)
  have e5:=hs p (inv p (rep a'.ld)) v (by omega) (by omega) (by omega)
  rw [ul _ (Pol.ld_ne ha0)] at e3 e4 e5;exact ⟨e1,e2,e3,e4,e5⟩
 have I0:=Pol.BzI.init (A:=a) (B:=b) hab;refine br hT rfl ?_;unfold Pol.bezout Pol.eu
 by_cases h0:b=0
 ·subst h0
  have l0:=bo (O:=den T A) (np:=0) (c:=Zr_L0) (s:=⟨[(0,(.d (.int .i64 p))),(1,(.d (.sl .leaf (am .i64 (row a))))),(2,(.d (.sl .leaf (am .i64 ([]))))),(9,.sl 0 [] 0 1 (some 1)),(10,(.d (.sl .leaf (am .i64 ([]))))),(11,(.d (.sl .leaf (am .i64 ([]))))),(12,.sl 1 [] 0 1 (some 1))],[.sl false .leaf (am .i64 [1]),.sl false .leaf (am .i64 [1])]⟩) (s1:=⟨[(0,(.d (.int .i64 p))),(1,(.d (.sl .leaf (am .i64 (row a))))),(2,(.d (.sl .leaf (am .i64 ([]))))),(9,.sl 0 [] 0 1 (some 1)),(10,(.d (.sl .leaf (am .i64 ([]))))),(11,(.d (.sl .leaf (am .i64 ([]))))),(12,.sl 1 [] 0 1 (some 1)),(20,(.d (.bool false)))],[.sl false .leaf (am .i64 [1]),.sl false .leaf (am .i64 [1])]⟩) (id:=0) (by simp -implicitDefEqProofs [Zr_L0,ap,gf])
  obtain ⟨e1,e2,e3,e4,e5⟩:=last I0;rw [vu] at e4;rw [du] at e5;rw [gf] at l0 e5;rw [Pol.len_zero];have o1:D.int IntKind.i64 1::[]=am .i64 [1]:=rfl;simp -implicitDefEqProofs [Zr,Zr_B,du,gf,Pol.bz,e1,e2,e3,e4,e5,l0,o1,List.replicate]
 ·have hp0:=Pol.len_pos h0
  have I1:=I0.step h0;obtain ⟨_,_,_,_,q5,q6,q7,q8⟩:=Cf I0 ha hb ha hb h0;have l0:=hd p a b h0 (by omega) (by omega)
  have l1:=ht p (a/b) 0 (by omega) (by rw [Pol.len_zero]; omega)
  have l2:=ht p (a/b) 1 (by omega) (by rw [Pol.len_one]; omega)
  have l3:=hc p 1 (a/b*0) (by rw [Pol.len_one]; omega) (by omega)
  have l4:=hc p 0 (a/b*1) (by rw [Pol.len_zero]; omega) (by omega)
  rw [vu] at l2 l3;rw [du,gf] at l1 l4
  have st1:dn (den T A) 0 Zr_L0 ⟨[(0,(.d (.int .i64 p))),(1,(.d (.sl .leaf (am .i64 (row a))))),(2,(.d (.sl .leaf (am .i64 (row b))))),(9,.sl 0 [] 0 1 (some 1)),(10,.d (.sl .leaf [])),(11,.d (.sl .leaf [])),(12,.sl 1 [] 0 1 (some 1))],[.sl false .leaf (am .i64 [1]),.sl false .leaf (am .i64 [1])]⟩ =
   some (.normal,⟨[(0,(.d (.int .i64 p))),(1,(.d (.sl .leaf (am .i64 (row b))))),(2,(.d (.sl .leaf (am .i64 (row (a%b)))))),(9,.d (.sl .leaf [])),(10,.sl 1 [] 0 1 (some 1)),(11,(.d (.sl .leaf (am .i64 (row (1-a/b*0)))))),(12,(.d (.sl .leaf (am .i64 (row (0-a/b*1))))))],[.hole,.sl true .leaf (am .i64 [1])]⟩):=by
   simp -implicitDefEqProofs [Zr_L0,ap,hp0,l0,l1,l2,l3,l4]
  by_cases h1:a%b=0
  ·have st2:dn (den T A) 0 Zr_L0 ⟨[(0,(.d (.int .i64 p))),(1,(.d (.sl .leaf (am .i64 (row b))))),(2,(.d (.sl .leaf (am .i64 (row (a%b)))))),(9,.d (.sl .leaf [])),(10,.sl 1 [] 0 1 (some 1)),(11,(.d (.sl .leaf (am .i64 (row (1-a/b*0)))))),(12,(.d (.sl .leaf (am .i64 (row (0-a/b*1))))))],[.hole,.sl true .leaf (am .i64 [1])]⟩ =
    some (.exit 0,⟨[(0,(.d (.int .i64 p))),(1,(.d (.sl .leaf (am .i64 (row b))))),(2,(.d (.sl .leaf (am .i64 (row (a%b)))))),(9,.d (.sl .leaf [])),(10,.sl 1 [] 0 1 (some 1)),(11,(.d (.sl .leaf (am .i64 (row (1-a/b*0)))))),(12,(.d (.sl .leaf (am .i64 (row (0-a/b*1)))))),(20,(.d (.bool false)))],[.hole,.sl true .leaf (am .i64 [1])]⟩):=by
    simp -implicitDefEqProofs [Zr_L0,ap,h1,du]
   have lp:=bm st1 (bo st2)
   have hb1:Pol.bz b.len a b 1 0 0 1=(b,0,1):=by
    rw [show b.len=(b.len-1)+1 by omega,Pol.bz,if_neg h0]
    cases hn:b.len-1 with
    | zero=>rfl
    | succ n=>rw [Pol.bz,if_pos h1]
   rw [hb1];have I1':Pol.BzI a b b 0 0 (1-a/b*0) 1 (0-a/b*1):=h1▸I1;obtain ⟨e1,e2,e3,e4,e5⟩:=last I1';rw [vu] at e5;rw [du,gf] at e4;have o1:D.int IntKind.i64 1::[]=am .i64 [1]:=rfl;simp -implicitDefEqProofs [Zr,Zr_B,e1,e2,e3,e4,e5,lp,o1,List.replicate]
  ·have hp1:=Pol.len_pos h1
   have hl1:=Pol.len_mod a h0;obtain ⟨s1,s2,s3,s4,s5,s6,s7,s8⟩:=Cf I1 ha hb hb (by omega) h1
   have m0:=hd p b (a%b) h1 (by omega) (by omega)
   have m1:=ht p (b/(a%b)) (1-a/b*0) (by omega) (by omega)
   have m2:=ht p (b/(a%b)) (0-a/b*1) (by omega) (by omega)
   have m3:=hc p 0 (b/(a%b)*(1-a/b*0)) (by omega) (by omega)
   have m4:=hc p 1 (b/(a%b)*(0-a/b*1)) (by omega) (by omega)
   rw [vu] at m4;rw [du,gf] at m3
   have st2:dn (den T A) 0 Zr_L0 ⟨[(0,(.d (.int .i64 p))),(1,(.d (.sl .leaf (am .i64 (row b))))),(2,(.d (.sl .leaf (am .i64 (row (a%b)))))),(9,.d (.sl .leaf [])),(10,.sl 1 [] 0 1 (some 1)),(11,(.d (.sl .leaf (am .i64 (row (1-a/b*0)))))),(12,(.d (.sl .leaf (am .i64 (row (0-a/b*1))))))],[.hole,.sl true .leaf (am .i64 [1])]⟩ =
    some (.normal,⟨[(0,(.d (.int .i64 p))),(1,(.d (.sl .leaf (am .i64 (row (a%b)))))),(2,(.d (.sl .leaf (am .i64 (row (b%(a%b))))))),(9,(.d (.sl .leaf (am .i64 (row (1-a/b*0)))))),(10,(.d (.sl .leaf (am .i64 (row (0-a/b*1)))))),(11,(.d (.sl .leaf (am .i64 (row (0-b/(a%b)*(1-a/b*0))))))),(12,(.d (.sl .leaf (am .i64 (row (1-b/(a%b)*(0-a/b*1)))))))],[.hole,.hole]⟩):=by
    simp -implicitDefEqProofs [Zr_L0,ap,hp1,m0,m1,m2,m3,m4]
   have I2:=I1.step h1;have hl2:=Pol.len_mod b h1;obtain ⟨x',y',e⟩:=Tw hd ht hc ha hb (b.len-2) _ _ _ _ _ _ (by omega) (by omega) (by omega) I2
   have lp:=bm st1 (bm st2 e)
   have hb1:Pol.bz b.len a b 1 0 0 1=Pol.bz (b.len-2) (a%b) (b%(a%b)) (1-a/b*0) (0-b/(a%b)*(1-a/b*0)) (0-a/b*1) (1-b/(a%b)*(0-a/b*1)):=by
    rw [show b.len=(b.len-2+1)+1 by omega,Pol.bz,if_neg h0,Pol.bz,if_neg h1]
    rfl
   rw [hb1];obtain ⟨x2,y2,I3,_,_⟩:=Pol.bz_spec (b.len-2) _ _ _ _ _ _ (by omega) I2
   obtain ⟨e1,e2,e3,e4,e5⟩:=last I3;have o1:D.int IntKind.i64 1::[]=am .i64 [1]:=rfl;simp -implicitDefEqProofs [Zr,Zr_B,gf,e1,e2,e3,e4,e5,lp,o1,List.replicate]
end Pe

namespace Pe
open Go Gq
variable {T:Nat→Option Fn} {A:af}
def Q6 (O:af):Prop:=∀(p:Int) [IsP p] (a b:Fp p),(a≠0∨b≠0)→a.len≤2000→b.len≤2000 →
 ask O Fw [(D.int .i64 p),(D.sl .leaf (am .i64 (row a))),(D.sl .leaf (am .i64 (row b)))]=some (D.sl .leaf (am .i64 (row (Pol.gcd a b))))
theorem a7n (hT:T Fw=some Zw) (hb:Cg (den T A)):Q6 (den T A):=by
 intro p i a b hab h1 h2;have e:=hb p a b hab h1 h2;refine br hT rfl ?_;simp -implicitDefEqProofs [Zw,Zw_B,e,Pol.gcd]
theorem a9o (x:Int) (_h:0≤x):((BitVec.ofInt 64 x &&& 1#64).toNat:Int)=x%2:=by
 rw [BitVec.toNat_and];have e:(1#64).toNat=2^1-1:=rfl;rw [e,Nat.and_two_pow_sub_one_eq_mod,BitVec.toNat_ofInt];omega
theorem Ys (x:Int) (h:0≤x):a6b .i64 x 1=x%2:=by
 show IntKind.i64.wrap ((BitVec.ofInt 64 x &&& 1#64).toNat:Int)=_;rw [a9o x h,w64 (by omega)]
theorem a07 (x:Int):xy .shr .i64 x 1=some (.int .i64 (x/2)):=by
 show (if (1:Int)<0 then none else some (D.int .i64 (x.fdiv (2^min (1:Int).toNat 64))))=_
 rw [if_neg (by omega)]
 congr 2
 show x.fdiv 2=x/2;rw [Int.fdiv_eq_ediv_of_nonneg _ (by omega)]
theorem Yy {O:af} (hr:zw O) (ht:vr O) {p:Int} [IsP p] {m:Fp p} (hm:m≠0) (hml:m.len<2000):∀(n:Nat) (k:Int) (out base:Fp p),0≤k→k.toNat<2^n→k<4611686018427387904→out.len<m.len→base.len<m.len→∃base':List Int,
 dn O 0 (.loop Z11_L0) ⟨[(0,(.d (.int .i64 p))),(2,(.d (.int .i64 k))),(3,(.d (.sl .leaf (am .i64 (row m))))),(9,(.d (.sl .leaf (am .i64 (row out))))),(10,(.d (.sl .leaf (am .i64 (row base)))))],[.hole]⟩ =
  some (.exit 0,⟨[(0,(.d (.int .i64 p))),(2,(.d (.int .i64 0))),(3,(.d (.sl .leaf (am .i64 (row m))))),(9,(.d (.sl .leaf (am .i64 (row (out*pw base k.toNat%m)))))),(10,(.d (.sl .leaf (am .i64 base')))),(20,(.d (.bool false)))],[.hole]⟩):=by
 intro n
 induction n with
 | zero=>
  intro k out base hk hn _ ho hb;obtain rfl:k=0:=by simp at hn; omega
  refine ⟨row base,?_⟩
  have e:out*pw base (0:Int).toNat%m=out:=by
   show out*1%m=out;rw [Gq.mul_one,Pol.mod_small ho]
  rw [e];exact bo (by simp -implicitDefEqProofs [Z11_L0,ap])
 | succ n ih=>
  intro k out base hk hn hkm ho hb
  by_cases h0:k=0
  ·subst h0
   refine ⟨row base,?_⟩
   have e:out*pw base (0:Int).toNat%m=out:=by
    show out*1%m=out;rw [Gq.mul_one,Pol.mod_small ho]
   rw [e];exact bo (by simp -implicitDefEqProofs [Z11_L0,ap])
  ·have hkp:0<k:=by omega
   have hlen:∀x y:Fp p,x.len<m.len→y.len<m.len→(x*y).len<5000:=fun x y hx hy=>by
    have:=Pol.len_le (Pol.lt_mul x.lt_len y.lt_len);omega
   have t1:=ht p out base (by omega) (by omega)
   have t2:=ht p base base (by omega) (by omega)
   have r1:=hr p (out*base) m hm (hlen _ _ ho hb) (by omega)
   have r2:=hr p (base*base) m hm (hlen _ _ hb hb) (by omega)
   have s:=Pol.bin_step (out:=out) (base:=base) hm k.toNat (by omega)
   have hdiv:(k/2).toNat=k.toNat/2:=by omega
   obtain ⟨b',e⟩:=ih (k/2) (if k.toNat%2=1 then out*base%m else out) (base*base%m) (by omega) (by rw [lc] at hn; omega) (by omega) (by split; exact Pol.len_mod _ hm; exact ho) (Pol.len_mod _ hm)
   rw [hdiv,s] at e;refine ⟨b',bm ?_ e⟩;have ea:=Ys k (by omega)
   have es:=a07 k
   by_cases hodd:k%2=1
   ·rw [if_pos (show k.toNat%2=1 by omega)]
    simp -implicitDefEqProofs [Z11_L0,ap,hkp,t1,t2,r1,r2,ea,es,hodd]
   ·rw [if_neg (show ¬ k.toNat%2=1 by omega)]
    simp -implicitDefEqProofs [Z11_L0,ap,hkp,t2,r2,ea,es,hodd]
def tu (O:af):Prop:=∀(p:Int) [IsP p] (a:Fp p) (k:Int) (m:Fp p),m≠0→a.len<5000→m.len<2000→0≤k→k<4611686018427387904 →
 ask O F11 [(D.int .i64 p),(D.sl .leaf (am .i64 (row a))),(D.int .i64 k),(D.sl .leaf (am .i64 (row m)))]=some (D.sl .leaf (am .i64 (row (pw a k.toNat%m))))
theorem a0p (hT:T F11=some Z11) (hr:zw (den T A)) (ht:vr (den T A)):tu (den T A):=by
 intro p i a k m hm ha hml hk hkm;have r1:=hr p 1 m hm (by rw [Pol.len_one]; omega) (by omega)
 rw [vu] at r1;have r2:=hr p a m hm (by omega) (by omega)
 obtain ⟨b',e⟩:=Yy hr ht hm hml 62 k (1%m) (a%m) hk (by omega) hkm (Pol.len_mod _ hm) (Pol.len_mod _ hm)
 have e2:1%m*pw (a%m) k.toNat%m=pw a k.toNat%m:=by
  rw [Pol.mul_mod_left _ _ hm,Gq.one_mul,Pol.pow_mod _ hm]
 rw [e2] at e;have o1:D.int IntKind.i64 1::[]=am .i64 [1]:=rfl;refine br hT rfl ?_;simp -implicitDefEqProofs [Z11,Z11_B,r1,r2,e,o1,List.replicate]
def Ah (p most:Int):Nat→Int→Int
 | 0,out=>out
 | n+1,out=>if out > most then out else Ah p most n (out*p)
theorem Vw {O:af} {p:Int} [IsP p] {most nn:Int} (hmost:most≤1152921504606846976):∀(n:Nat) (i:Int) (out:Int),i+n=nn→-1000000<i→nn<1000000→0≤out→out≤8070450532247928832→∃(i':Int) (b:List (Nat×V)),
 dn O 0 (.loop Zz_L0) ⟨[(0,(.d (.int .i64 p))),(2,(.d (.int .i64 most))),(7,(.d (.int .i64 out))),(8,(.d (.int .i64 nn))),(9,(.d (.int .i64 i)))],[]⟩ =
  some (.exit 0,⟨[(0,(.d (.int .i64 p))),(2,(.d (.int .i64 most))),(7,(.d (.int .i64 (Ah p most n out)))),(8,(.d (.int .i64 nn))),(9,(.d (.int .i64 i')))]++b,[]⟩)
 | 0,i,out,hi,h1,h2,ho,ho2=>by
  have:i=nn:=by omega
  subst this;exact ⟨i,[(10,(.d (.bool false)))],bo (by simp -implicitDefEqProofs [Zz_L0,ap,Ah])⟩
 | n+1,i,out,hi,h1,h2,ho,ho2=>by
  have hlt:i<nn:=by omega
  have hp:=IsP.le (p:=p);have hp2:=IsP.pos (p:=p)
  by_cases hm:most<out
  ·exact ⟨i,[(13,(.d (.bool true)))],bo (by simp -implicitDefEqProofs [Zz_L0,ap,Ah,hlt,hm])⟩
  ·have hmul:0≤out*p∧out*p≤8070450532247928832:=by
    refine ⟨ec ho (by omega),?_⟩
    have:out*p≤out*7:=c8 hp ho;omega
   obtain ⟨i',b,e⟩:=Vw (O:=O) (p:=p) (nn:=nn) hmost n (i+1) (out*p) (by omega) (by omega) h2 hmul.1 hmul.2
   have w1:IntKind.i64.wrap (out*p)=out*p:=w64 (by omega)
   have w2:IntKind.i64.wrap (i+1)=i+1:=w64 (by omega)
   refine ⟨i',b,bm (s1:=⟨[(0,(.d (.int .i64 p))),(2,(.d (.int .i64 most))),(7,(.d (.int .i64 (out*p)))),(8,(.d (.int .i64 nn))),(9,(.d (.int .i64 (i+1))))],[]⟩) (by simp -implicitDefEqProofs [Zz_L0,ap,hlt,hm,w1,w2]) ?_⟩
   rw [e,Ah,if_neg (by omega)]
def Mf (O:af):Prop:=∀(p:Int) [IsP p] (n:Nat) (most:Int),n<1000000→most≤1152921504606846976→ask O Fz [(D.int .i64 p),(D.int .i64 n),(D.int .i64 most)]=some (D.int .i64 (Ah p most n 1))
theorem a23 (hT:T Fz=some Zz):Mf (den T A):=by
 intro p i n most hn hm;obtain ⟨i',b,e⟩:=Vw (O:=den T A) (p:=p) (nn:=(n:Int)) hm n 0 1 (by omega) (by omega) (by omega) (by omega) (by omega)
 refine br hT rfl ?_;simp -implicitDefEqProofs [Zz,Zz_B,e]
end Pe

namespace Pe
open Go Gq
variable {T:Nat→Option Fn} {A:af}
def dgs (p:Int):Nat→Int→List Int
 | 0,_=>[]
 | f+1,n=>if n≤0 then [] else n%p::dgs p f (n/p)
def kn (p n:Int):Fp p:=f7 p (dgs p 64 n)
theorem Qe {p:Int} [IsP p]:∀f n,Can p (dgs p f n)
 | 0,n=>fun x hx=>by simp [dgs] at hx
 | f+1,n=>fun x hx=>by
  unfold dgs at hx
  split at hx
  ·simp at hx
  ·have hp:=IsP.pos (p:=p)
   rcases d5.1 hx with rfl | hx
   ·exact ⟨d8 _ (by omega),ck _ hp⟩
   ·exact Qe f _ x hx
theorem Ei {p n:Int} [IsP p] (h:0<n) (h2:n/p=0):n%p≠0:=by
 have h3:=Int.mul_ediv_add_emod n p;rw [h2] at h3;simp at h3;omega
theorem Lt {p:Int} [IsP p]:∀(f:Nat) (n:Int),n<2^f→dgs p f n=[]∨cf (dgs p f n) ((dgs p f n).length-1)≠0
 | 0,n,h=>.inl rfl
 | f+1,n,h=>by
  by_cases h0:n≤0
  ·left; simp [dgs,h0]
  ·right
   have hp:=IsP.ge (p:=p)
   have hd:n/p<2^f:=by
    apply i4 (by omega)
    have:(2:Int)^(f+1)=2^f*2:=fj _ _;have h2:(2:Int)^f*2≤2^f*p:=c8 hp (na (by omega))
    omega
   have e:dgs p (f+1) n=n%p::dgs p f (n/p):=by simp [dgs,h0]
   rw [e];have hdn:0≤n/p:=m6 (by omega) (by omega)
   rcases Lt (p:=p) f (n/p) hd with h1 | h1
   ·rw [h1]
    show n%p≠0
    by_cases hz:n/p=0
    ·exact Ei (p:=p) (show 0<n by omega) hz
    ·exfalso
     cases f with
     | zero=>simp at hd; omega
     | succ f=>
      rw [dgs,if_neg (by omega)] at h1
      cases h1
   ·cases hq:dgs p f (n/p) with
    | nil=>rw [hq] at h1; simp [cf] at h1
    | cons a l=>
     rw [hq] at h1
     simpa [cf] using h1
theorem Jo {p:Int} [IsP p] {l:List Int} (h:Can p l) (hl:l=[]∨cf l (l.length-1)≠0):row (f7 p l)=l:=by
 rw [←md h];unfold trim
 have:mu l l.length=l.length:=by
  cases hn:l.length with
  | zero=>rfl
  | succ n=>
   rcases hl with h0 | h0
   ·rw [h0] at hn; simp at hn
   ·rw [hn,Nat.add_sub_cancel] at h0
    rw [mu,if_neg h0]
 rw [this,ee]
theorem M9 {p:Int} [IsP p] {n:Int} (h:n<18446744073709551616):row (kn p n)=dgs p 64 n:=Jo (Qe 64 n) (Lt 64 n (by simpa using h))
theorem Cp {O:af} {p:Int} [IsP p]:∀(f:Nat) (n:Int) (cur:List Int) (cp:Option Nat),0≤n→n<2^f→n<9223372036854775807→cur.length+f<1000→∃cp',
 dn O 0 (.loop Z10_L0) ⟨[(0,(.d (.int .i64 p))),(1,(.d (.int .i64 n))),(5,.sl 0 [] 0 cur.length cp)],[.sl false .leaf (am .i64 cur),.hole,.hole]⟩ =
  some (.exit 0,⟨[(0,(.d (.int .i64 p))),(1,(.d (.int .i64 0))),(5,.sl 0 [] 0 (cur++dgs p f n).length cp'),(7,(.d (.bool false)))],[.sl false .leaf (am .i64 (cur++dgs p f n)),.hole,.hole]⟩)
 | 0,n,cur,cp,h0,hn,hm,hl=>by
  obtain rfl:n=0:=by simp at hn; omega
  refine ⟨cp,?_⟩;rw [dgs,jt];exact bo (by simp -implicitDefEqProofs [Z10_L0,ap])
 | f+1,n,cur,cp,h0,hn,hm,hl=>by
  have hp:=IsP.ge (p:=p);have hp7:=IsP.le (p:=p)
  by_cases hz:n=0
  ·subst hz
   refine ⟨cp,?_⟩;rw [dgs,if_pos (vg 0),jt];exact bo (by simp -implicitDefEqProofs [Z10_L0,ap])
  ·have hd:n/p<2^f:=by
    apply i4 (by omega)
    have:(2:Int)^(f+1)=2^f*2:=fj _ _;have h2:(2:Int)^f*2≤2^f*p:=c8 hp (na (by omega))
    omega
   have hdn:0≤n/p:=m6 (by omega) (by omega)
   have hdl:n/p≤n:=Int.ediv_le_self _ h0;obtain ⟨cp',e⟩:=Cp (O:=O) (p:=p) f (n/p) (cur++[n%p]) none hdn hd (by omega) (by simp; omega)
   have hpos:0<n:=by omega
   have w1:IntKind.i64.wrap (n.tdiv p)=n/p:=by rw [Int.tdiv_eq_ediv_of_nonneg h0,w64 (by omega)]
   have w2:n.tmod p=n%p:=ci h0;have hp0:p≠0:=by omega
   have h8:(cur.length+1)*8≤1099511627776:=by omega
   have o1:am .i64 cur++[D.int .i64 (n%p)]=am .i64 (cur++[n%p]):=by rw [←Ai]; rfl
   refine ⟨cp',?_⟩;rw [dgs,if_neg (by omega),show cur++n%p::dgs p f (n/p)=(cur++[n%p])++dgs p f (n/p) by simp]
   refine bm ?_ e;simp -implicitDefEqProofs [Z10_L0,ap,hpos,w1,w2,hp0,h8,o1,List.replicate]
def tk (O:af):Prop:=∀(p:Int) [IsP p] (n:Int),0≤n→n<4611686018427387904→ask O F10 [(D.int .i64 p),(D.int .i64 n)]=some (D.sl .leaf (am .i64 (row (kn p n))))
theorem P4 (hT:T F10=some Z10):tk (den T A):=by
 intro p i n h0 hn;obtain ⟨cp,e⟩:=Cp (O:=den T A) (p:=p) 64 n [] (some 0) h0 (by omega) (by omega) (by simp)
 rw [M9 (by omega)]
 rw [gf,ej] at e;have e0:(([]:List Int).length:Nat)=0:=rfl;rw [e0] at e;refine br hT rfl ?_;simp -implicitDefEqProofs [Z10,Z10_B,e]
end Pe

namespace Gq
section
variable {K:Type} [Fd K]
def Dv (a b:Pol K):Prop:=∃c,b=a*c
theorem Dv.refl (a:Pol K):Dv a a:=⟨1,(mul_one a).symm⟩
theorem Dv.trans {a b c:Pol K} (h:Dv a b) (h':Dv b c):Dv a c:=by
 obtain ⟨x,rfl⟩:=h;obtain ⟨y,rfl⟩:=h';exact ⟨x*y,mul_assoc _ _ _⟩
theorem Dv.zero (a:Pol K):Dv a 0:=⟨0,(mul_zero a).symm⟩
theorem Dv.mul_right {a b:Pol K} (h:Dv a b) (c:Pol K):Dv a (b*c):=h.trans ⟨c,rfl⟩
theorem Dv.mul_left {a b:Pol K} (h:Dv a b) (c:Pol K):Dv a (c*b):=h.trans ⟨c,mul_comm _ _⟩
theorem Dv.add {a b c:Pol K} (h:Dv a b) (h':Dv a c):Dv a (b+c):=by
 obtain ⟨x,rfl⟩:=h;obtain ⟨y,rfl⟩:=h';exact ⟨x+y,(mul_add _ _ _).symm⟩
theorem Dv.neg {a b:Pol K} (h:Dv a b):Dv a (-b):=by
 obtain ⟨x,rfl⟩:=h;exact ⟨-x,(a0n _ _).symm⟩
theorem Dv.sub {a b c:Pol K} (h:Dv a b) (h':Dv a c):Dv a (b-c):=by
 rw [sub_eq]; exact h.add h'.neg
theorem Dv.len {a b:Pol K} (h:Dv a b) (hb:b≠0):a.len≤b.len:=by
 obtain ⟨x,rfl⟩:=h;have ha:a≠0:=fun h=>hb (by rw [h,zero_mul])
 have hx:x≠0:=fun h=>hb (by rw [h,mul_zero])
 have:=Pol.len_mul ha hx;have:=Pol.len_pos hx;omega
theorem tg {a m:Pol K} (hm:m≠0):Dv m a↔a%m=0:=by
 constructor
 ·rintro ⟨c,rfl⟩
  rw [mul_comm];exact Pol.mod_self_mul c hm
 ·intro h
  have:=Pol.div_mod a m;rw [h,add_zero,mul_comm] at this;exact ⟨_,this⟩
theorem ki {a m:Pol K}:Dv m a↔Quo.mk m a=0:=by
 rw [←Quo.mk_zero,Quo.eq];constructor
 ·rintro ⟨c,h⟩; exact ⟨c,by rw [zero_add,h]⟩
 ·rintro ⟨c,h⟩; exact ⟨c,by rw [h,zero_add]⟩
theorem kb {a:Pol K} (h:a.len=1):∃k:K,k≠0∧a=Pol.C k:=by
 have e:=Pol.eq_C (Pol.lt_iff.2 (show a.len≤1 by omega))
 refine ⟨a.c 0,fun h0=>?_,e⟩
 rw [h0,Pol.C_zero] at e;rw [e,Pol.len_zero] at h;omega
theorem Vh {k:K} (h:k≠0):Pol.C k*Pol.C (Fd.inv k)=1:=by rw [←Pol.C_mul,Fd.mul_inv k h,Pol.C_one]
theorem Dv.Cmul {a b:Pol K} {k:K} (hk:k≠0):Dv (Pol.C k*a) b↔Dv a b:=by
 constructor
 ·rintro ⟨c,h⟩
  exact ⟨Pol.C k*c,by rw [h]; exact bv [Pol.C k,a,c] rfl⟩
 ·rintro ⟨c,h⟩
  refine ⟨Pol.C (Fd.inv k)*c,?_⟩;have:Pol.C k*a*(Pol.C (Fd.inv k)*c)=(Pol.C k*Pol.C (Fd.inv k))*(a*c):=bv [Pol.C k,a,Pol.C (Fd.inv k),c] rfl;rw [this,Vh hk,one_mul,h]
def Monic (a:Pol K):Prop:=a.ld=1∧a≠0
theorem Monic.mul {a b:Pol K} (ha:Monic a) (hb:Monic b):Monic (a*b):=⟨by rw [Pol.ld_mul ha.2 hb.2,ha.1,hb.1,mul_one],Pol.mul_ne ha.2 hb.2⟩
theorem Monic.one:Monic (1:Pol K):=⟨Pol.ld_one,Pol.one_ne⟩
theorem Pol.ld_C {k:K} (h:k≠0):(C k).ld=k:=by unfold ld; rw [len_C h]; rfl
theorem Monic.eq_one {a:Pol K} (h:Monic a) (hl:a.len=1):a=1:=by
 obtain ⟨k,hk,rfl⟩:=kb hl;have:=h.1;rw [Pol.ld_C hk] at this;rw [this,Pol.C_one]
theorem Monic.antisymm {a b:Pol K} (ha:Monic a) (hb:Monic b) (h:Dv a b) (h':Dv b a):a=b:=by
 obtain ⟨x,rfl⟩:=h;have h1:=h'.len ha.2;have hx:x≠0:=fun h=>hb.2 (by rw [h,mul_zero])
 have h2:=Pol.len_mul ha.2 hx;have h3:=Pol.len_pos hx;obtain ⟨k,hk,rfl⟩:=kb (show x.len=1 by omega)
 have h4:=hb.1;rw [Pol.ld_mul ha.2 hx,ha.1,one_mul,Pol.ld_C hk] at h4;rw [h4,Pol.C_one,mul_one]
noncomputable def mon (a:Pol K):Pol K:=Pol.C (Fd.inv a.ld)*a
theorem o6 {a:Pol K} (h:a≠0):Monic (mon a):=by
 have h1:=Fd.inv_ne (Pol.ld_ne h);refine ⟨?_,Pol.mul_ne (Pol.C_ne h1) h⟩;unfold mon;rw [Pol.ld_mul (Pol.C_ne h1) h,Pol.ld_C h1,mul_comm,Fd.mul_inv _ (Pol.ld_ne h)]
theorem xk {a b:Pol K} (h:a≠0):Dv (mon a) b↔Dv a b:=Dv.Cmul (Fd.inv_ne (Pol.ld_ne h))
theorem t5 {a:Pol K} (h:a≠0):(mon a).len=a.len:=Pol.len_Cmul (Fd.inv_ne (Pol.ld_ne h)) a
theorem W4 {a:Pol K} (h:a≠0):a=Pol.C a.ld*mon a:=by
 unfold mon;rw [←mul_assoc,Vh (Pol.ld_ne h),one_mul]
theorem Pol.eu_spec {a b:Pol K} (h:a≠0∨b≠0):(eu a b).1≠0∧Dv (eu a b).1 a∧Dv (eu a b).1 b∧(eu a b).2.1*a+(eu a b).2.2*b=(eu a b).1:=by
 obtain ⟨x,y,h1,⟨s,h2⟩,⟨t,h3⟩⟩:=bz_spec b.len a b 1 0 0 1 (b9 _) (BzI.init h);exact ⟨h1.any.resolve_right fun h=>h rfl,⟨s,by rw [mul_comm]; exact h2⟩,⟨t,by rw [mul_comm]; exact h3⟩,h1.one⟩
theorem Pol.gcd_monic {a b:Pol K} (h:a≠0∨b≠0):Monic (gcd a b):=o6 (eu_spec h).1
theorem Pol.gcd_dv_left {a b:Pol K} (h:a≠0∨b≠0):Dv (gcd a b) a:=(xk (eu_spec h).1).2 (eu_spec h).2.1
theorem Pol.gcd_dv_right {a b:Pol K} (h:a≠0∨b≠0):Dv (gcd a b) b:=(xk (eu_spec h).1).2 (eu_spec h).2.2.1
theorem Pol.bezout_eq {a b:Pol K} (h:a≠0∨b≠0):(bezout a b).2.1*a+(bezout a b).2.2*b=gcd a b:=by
 have e:=(eu_spec h).2.2.2;show C (Fd.inv (eu a b).1.ld)*(eu a b).2.1*a+C (Fd.inv (eu a b).1.ld)*(eu a b).2.2*b=C (Fd.inv (eu a b).1.ld)*(eu a b).1;generalize C (Fd.inv (eu a b).1.ld)=k;generalize (eu a b).2.1=u at *;generalize (eu a b).2.2=v at *;rw [←e];exact bv [k,u,a,v,b] rfl
theorem Pol.dv_gcd {a b c:Pol K} (h:a≠0∨b≠0) (ha:Dv c a) (hb:Dv c b):Dv c (gcd a b):=by
 rw [←bezout_eq h];exact (ha.mul_left _).add (hb.mul_left _)
structure Irr (q:Pol K):Prop where
 len:2≤q.len
 no:∀u v,q=u*v→u.len=1∨v.len=1
theorem Irr.ne {q:Pol K} (h:Irr q):q≠0:=fun h0=>by have:=h.len; rw [h0,Pol.len_zero] at this; omega
theorem Irr.dv {q u:Pol K} (h:Irr q) (hd:Dv u q):u.len=1∨u.len=q.len:=by
 obtain ⟨v,hv⟩:=hd;have hu:u≠0:=fun h0=>h.ne (by rw [hv,h0,zero_mul])
 have hv0:v≠0:=fun h0=>h.ne (by rw [hv,h0,mul_zero])
 have l:=Pol.len_mul hu hv0;rw [←hv] at l;rcases h.no u v hv with h1 | h1
 ·exact .inl h1
 ·right; omega
theorem Irr.coprime {q a:Pol K} (h:Irr q) (hn:¬ Dv q a):∃u v,u*q+v*a=1:=by
 have h0:q≠0∨a≠0:=.inl h.ne;have e:=Pol.bezout_eq h0;have d1:=Pol.gcd_dv_left h0;have d2:=Pol.gcd_dv_right h0;have m:=Pol.gcd_monic h0;rcases h.dv d1 with h1 | h1
 ·rw [m.eq_one h1] at e
  exact ⟨_,_,e⟩
 ·exfalso
  obtain ⟨c,hc⟩:=d1;have hc0:c≠0:=fun h0=>h.ne (by rw [hc,h0,mul_zero])
  have l:=Pol.len_mul m.2 hc0;rw [←hc] at l;obtain ⟨k,hk,rfl⟩:=kb (show c.len=1 by omega)
  apply hn;rw [hc,mul_comm];exact (Dv.Cmul hk).2 d2
theorem Irr.prime {q a b:Pol K} (h:Irr q) (hd:Dv q (a*b)):Dv q a∨Dv q b:=by
 by_cases ha:Dv q a
 ·exact .inl ha
 ·obtain ⟨u,v,e⟩:=h.coprime ha
  right
  have:b=u*b*q+v*(a*b):=by
   have e2:u*b*q+v*(a*b)=(u*q+v*a)*b:=bv [u,b,q,v,a] rfl;rw [e2,e,one_mul]
  rw [this];exact ((Dv.refl q).mul_left _).add (hd.mul_left _)
theorem Irr.of_dv {q:Pol K} (hl:2≤q.len) (h:∀u,Dv u q→u.len=1∨u.len=q.len):Irr q:=⟨hl,fun u v e=>by
 have hq:q≠0:=fun h0=>by rw [h0,Pol.len_zero] at hl; omega
 have hu:u≠0:=fun h0=>hq (by rw [e,h0,zero_mul])
 have hv0:v≠0:=fun h0=>hq (by rw [e,h0,mul_zero])
 have l:=Pol.len_mul hu hv0;rw [←e] at l;rcases h u ⟨v,e⟩ with h1 | h1
 ·exact .inl h1
 ·right; omega⟩
theorem Irr.mon {q:Pol K} (h:Irr q):Irr (mon q):=Irr.of_dv (by rw [t5 h.ne]; exact h.len) fun u hu=>by
 rw [t5 h.ne];apply h.dv;refine hu.trans ?_;rw [xk h.ne];exact .refl q
theorem zm:∀(n:Nat) (a:Pol K),a.len≤n→2≤a.len→∃q,Irr q∧Monic q∧Dv q a
 | 0,a,h,h2=>by omega
 | n+1,a,h,h2=>by
  have ha:a≠0:=fun h0=>by rw [h0,Pol.len_zero] at h2; omega
  by_cases hi:Irr a
  ·exact ⟨Gq.mon a,hi.mon,o6 ha,(xk ha).2 (.refl a)⟩
  ·have:∃u,Dv u a∧u.len≠1∧u.len≠a.len:=ef fun hx=>hi (Irr.of_dv h2 fun u hu=>ef fun hy=>hx ⟨u,hu,by omega,by omega⟩)
   obtain ⟨u,hu,h3,h4⟩:=this;have h5:=hu.len ha
   have hu0:u≠0:=fun h0=>by
    obtain ⟨c,hc⟩:=hu;exact ha (by rw [hc,h0,zero_mul])
   have h6:=Pol.len_pos hu0;obtain ⟨q,h7,h8,h9⟩:=zm n u (by omega) (by omega)
   exact ⟨q,h7,h8,h9.trans hu⟩
theorem Irr.eq_of_dv {q r:Pol K} (hq:Irr q) (hr:Irr r) (mq:Monic q) (mr:Monic r) (h:Dv q r):q=r:=by
 refine mq.antisymm mr h ?_;rcases hr.dv h with h1 | h1
 ·have:=hq.len; omega
 ·obtain ⟨c,rfl⟩:=h
  have hc:c≠0:=fun h0=>mr.2 (by rw [h0,mul_zero])
  have l:=Pol.len_mul mq.2 hc;obtain ⟨k,hk,rfl⟩:=kb (show c.len=1 by omega)
  rw [mul_comm];exact (Dv.Cmul hk).2 (.refl q)
theorem Quo.ex {R:Type} [CR R] {m:R} (x:Quo m):∃a,x=Quo.mk m a:=Quo.ind (P:=fun x=>∃a,x=Quo.mk m a) (fun a=>⟨a,rfl⟩) x
theorem Irr.quo_zero {q:Pol K} (h:Irr q) {x y:Quo q} (e:x*y=0):x=0∨y=0:=by
 obtain ⟨a,rfl⟩:=Quo.ex x;obtain ⟨b,rfl⟩:=Quo.ex y;rw [←Quo.mk_mul,←ki] at e;rw [←ki,←ki];exact h.prime e
theorem Irr.quo_inv {q:Pol K} (h:Irr q) {x:Quo q} (hx:x≠0):∃y,x*y=1:=by
 obtain ⟨a,rfl⟩:=Quo.ex x;obtain ⟨u,v,e⟩:=h.coprime fun hd=>hx (ki.1 hd)
 refine ⟨Quo.mk q v,?_⟩;rw [←Quo.mk_mul,←Quo.mk_one,Quo.eq];refine ⟨-u,?_⟩;rw [←e];exact bv [a,v,u,q] rfl
open Classical in
noncomputable abbrev a1e {q:Pol K} (h:Irr q):Fd (Quo q) where
 one_ne:=fun e=>by
  have:=ki.2 e;have h1:=this.len Pol.one_ne;have:=h.len;rw [Pol.len_one] at h1;omega
 inv:=fun x=>if hx:x=0 then 0 else Classical.choose (h.quo_inv hx)
 mul_inv:=fun x hx=>by rw [dif_neg hx]; exact ch (h.quo_inv hx)
end
def lg {R:Type} [CR R]:List R→R
 | []=>1
 | x::l=>x*lg l
theorem Dk {R:Type} [CR R] {l m:List R} (h:l.Perm m):lg l=lg m:=by
 induction h with
 | nil=>rfl
 | cons x _ ih=>rw [lg,lg,ih]
 | swap x y l=>rw [lg,lg,lg,lg,ol]
 | trans _ _ h1 h2=>exact h1.trans h2
theorem Eq {R:Type} [CR R] (x:R):∀l:List R,lg (l.map (x * ·))=pw x l.length*lg l
 | []=>(one_mul _).symm
 | y::l=>by
  rw [ou,lg,Eq x l,lg,bc,pw];exact bv [x,y,pw x l.length,lg l] rfl
theorem At {α:Type} [DecidableEq α]:∀{l m:List α},l.Nodup→(∀x∈l,x∈m)→m.length=l.length→l.Perm m
 | [],m,_,_,hl=>by
  obtain rfl:=pa (by simpa using hl)
  exact .nil
 | x::l,m,hn,hs,hl=>by
  have hx:x∈m:=hs x (by simp)
  obtain ⟨h1,h2⟩:=i7.1 hn;have p:=List.perm_cons_erase hx;refine (List.Perm.cons x (At h2 (fun y hy=>?_) ?_)).trans p.symm
  ·have hne:y≠x:=fun e=>h1 (e▸hy)
   exact (List.mem_erase_of_ne hne).2 (hs y (by simp [hy]))
  ·rw [List.length_erase_of_mem hx]; simp at hl; omega
theorem U9 {R:Type} [CR R] [DecidableEq R] {l:List R} (hn:l.Nodup) (hc:∀x y:R,x*y=0→x=0∨y=0) (h1:(1:R)≠0) (hl:∀x,x∈l↔x≠0) {x:R} (hx:x≠0):pw x l.length=1:=by
 have hcan:∀y z:R,x*y=x*z→y=z:=fun y z e=>by
  have:x*(y-z)=0:=by
   have e2:x*(y-z)=x*y-x*z:=bv [x,y,z] rfl;rw [e2,e,sub_self]
  exact nz ((hc _ _ this).resolve_left hx)
 have hp:(l.map (x * ·)).Perm l:=by
  refine At ?_ (fun y hy=>?_) (by simp)
  ·unfold List.Nodup at hn ⊢
   rw [nu];exact hn.imp fun hab e=>hab (hcan _ _ e)
  ·obtain ⟨z,hz,rfl⟩:=ca.1 hy
   exact (hl _).2 fun e=>((hc _ _ e).elim hx) ((hl z).1 hz)
 have hprod:lg l≠0:=by
  have:∀m:List R,(∀z∈m,z≠0)→lg m≠0:=by
   intro m
   induction m with
   | nil=>exact fun _=>h1
   | cons z m ih=>exact fun hm e=>((hc _ _ e).elim (hm z (by simp))) (ih fun y hy=>hm y (by simp [hy]))
  exact this l fun z hz=>(hl z).1 hz
 have e:=Dk hp;rw [Eq] at e
 have e2:lg l*(pw x l.length-1)=0:=by
  have e3:lg l*(pw x l.length-1)=pw x l.length*lg l-lg l:=bv [lg l,pw x l.length] rfl;rw [e3,e,sub_self]
 exact nz ((hc _ _ e2).resolve_left hprod)
section
variable {K:Type} [CR K]
def fu (f:Nat→K):Nat→K
 | 0=>0
 | n+1=>fu f n+f n
noncomputable def Pol.val (a:Pol K) (x:K):K:=fu (fun i=>a.c i*pw x i) a.len
theorem Dp (f g:Nat→K):∀n,fu (fun i=>f i+g i) n=fu f n+fu g n
 | 0=>(add_zero _).symm
 | n+1=>by rw [fu,Dp f g n,fu,fu]; exact bv [fu f n,fu g n,f n,g n] rfl
theorem Dz (k:K) (f:Nat→K):∀n,fu (fun i=>k*f i) n=k*fu f n
 | 0=>(mul_zero _).symm
 | n+1=>by rw [fu,Dz k f n,fu,mul_add]
theorem Tg (x:K):∀n,∃g:Nat→K,(∀i,n≤i→g i=0)∧(∀k,n=k+1→g k=1)∧∀y,pw y n-pw x n=(y-x)*fu (fun i=>g i*pw y i) n:=by
 intro n
 induction n with
 | zero=>exact ⟨fun _=>0,fun _ _=>rfl,fun k h=>by omega,fun y=>by show (1:K)-1=(y-x)*0; rw [mul_zero,sub_self]⟩
 | succ n ih=>
  obtain ⟨g,h1,h2,h3⟩:=ih;refine ⟨fun i=>if i=n then 1 else x*g i,fun i hi=>?_,fun k hk=>?_,fun y=>?_⟩
  ·dsimp only; rw [if_neg (by omega),h1 i (by omega),mul_zero]
  ·dsimp only; rw [if_pos (by omega)]
  ·rw [fu]; dsimp only; rw [if_pos rfl,one_mul]
   have e:fu (fun i=>(if i=n then 1 else x*g i)*pw y i) n=x*fu (fun i=>g i*pw y i) n:=by
    rw [←Dz]
    have:∀m,m≤n→fu (fun i=>(if i=n then 1 else x*g i)*pw y i) m=fu (fun i=>x*(g i*pw y i)) m:=by
     intro m
     induction m with
     | zero=>intro _; rfl
     | succ m ihm=>intro hm; rw [fu,fu,ihm (by omega),if_neg (by omega),mul_assoc]
    exact this n (b9 n)
   rw [e,pw,pw];have e2:(y-x)*(x*fu (fun i=>g i*pw y i) n+pw y n)=x*((y-x)*fu (fun i=>g i*pw y i) n)+(y-x)*pw y n:=bv [y,x,fu (fun i=>g i*pw y i) n,pw y n] rfl
   rw [e2,←h3 y];exact bv [pw y n,y,pw x n,x] rfl
theorem Ml (f:Nat→K) (x:K):∀n,∃g:Nat→K,(∀i,n≤i+1→g i=0)∧(∀k,n=k+2→g k=f (k+1))∧∀y,fu (fun i=>f i*pw y i) n-fu (fun i=>f i*pw x i) n=(y-x)*fu (fun i=>g i*pw y i) n:=by
 intro n
 induction n with
 | zero=>exact ⟨fun _=>0,fun _ _=>rfl,fun k h=>by omega,fun y=>by show (0:K)-0=(y-x)*0; rw [mul_zero,sub_self]⟩
 | succ n ih=>
  obtain ⟨g,h1,h2,h3⟩:=ih;obtain ⟨g',h1',h2',h3'⟩:=Tg x n;refine ⟨fun i=>g i+f n*g' i,fun i hi=>?_,fun k hk=>?_,fun y=>?_⟩
  ·dsimp only; rw [h1 i (by omega),h1' i (by omega),mul_zero,add_zero]
  ·obtain rfl:k+1=n:=by omega
   dsimp only; rw [h1 k (by omega),h2' k rfl,mul_one,zero_add]
  ·rw [fu,fu,fu]
   have e0:g n+f n*g' n=0:=by rw [h1 n (by omega),h1' n (by omega),mul_zero,add_zero]
   dsimp only
   rw [e0,zero_mul,add_zero]
   have e:fu (fun i=>(g i+f n*g' i)*pw y i) n=fu (fun i=>g i*pw y i) n+f n*fu (fun i=>g' i*pw y i) n:=by
    rw [←Dz,←Dp]
    congr 1
    funext i
    exact bv [g i,f n,g' i,pw y i] rfl
   rw [e];have e2:(y-x)*(fu (fun i=>g i*pw y i) n+f n*fu (fun i=>g' i*pw y i) n)=(y-x)*fu (fun i=>g i*pw y i) n+f n*((y-x)*fu (fun i=>g' i*pw y i) n):=bv [y,x,fu (fun i=>g i*pw y i) n,f n,fu (fun i=>g' i*pw y i) n] rfl
   rw [e2,←h3 y,←h3' y];exact bv [fu (fun i=>f i*pw y i) n,f n,pw y n,fu (fun i=>f i*pw x i) n,pw x n] rfl
theorem Jc (hc:∀x y:K,x*y=0→x=0∨y=0):∀(n:Nat) (f:Nat→K) (l:List K),f n≠0→l.Nodup→(∀y∈l,fu (fun i=>f i*pw y i) (n+1)=0)→l.length≤n
 | n,f,[],_,_,_=>mj n
 | 0,f,x::l,hf,_,hr=>by
  have:=hr x (by simp)
  have e:fu (fun i=>f i*pw x i) (0+1)=f 0:=by show 0+f 0*1=f 0; rw [zero_add,mul_one]
  rw [e] at this;exact absurd this hf
 | n+1,f,x::l,hf,hn,hr=>by
  obtain ⟨g,h1,h2,h5⟩:=Ml f x (n+2);have hx:=hr x (by simp)
  obtain ⟨h3,h4⟩:=i7.1 hn;have hg0:g n≠0:=by rw [h2 n rfl]; exact hf
  have hg:∀y,fu (fun i=>f i*pw y i) (n+2)=(y-x)*fu (fun i=>g i*pw y i) (n+1):=fun y=>by
   have:=h5 y;rw [hx] at this
   have e:fu (fun i=>g i*pw y i) (n+2)=fu (fun i=>g i*pw y i) (n+1):=by
    show fu (fun i=>g i*pw y i) (n+1)+g (n+1)*pw y (n+1)=_
    rw [h1 (n+1) (by omega),zero_mul,add_zero]
   rw [e] at this;rw [←this];exact bv [fu (fun i=>f i*pw y i) (n+2)] rfl
  have:=Jc hc n g l hg0 h4 fun y hy=>by
   have e:=hr y (by simp [hy])
   rw [hg y] at e;refine (hc _ _ e).resolve_left fun h0=>h3 ?_
   rw [←nz h0]; exact hy
  simp; omega
end
end Gq

namespace Pe
open Go Gq
section
variable {p:Int} [IsP p]
end
section
variable {p:Int}
theorem kr (h:1≤p) {a b:Nat} (hab:a≤b):p^a≤p^b:=by
 obtain ⟨k,rfl⟩:=f6 hab;rw [Int.pow_add];have h1:1≤p^k:=Int.pow_pos (n:=p) (m:=k) (by omega)
 have h2:0≤p^a:=na (by omega)
 have:=c8 h1 h2;omega
end
section
variable {p:Int} [IsP p]
def vl (p:Int):List Int→Int
 | []=>0
 | d::l=>d+p*vl p l
theorem Pn:∀{l:List Int},Can p l→0≤vl p l∧vl p l<p^l.length
 | [],_=>by simp [vl]
 | d::l,h=>by
  have hp:=IsP.pos (p:=p);obtain ⟨h1,h2⟩:=Pn (l:=l) fun x hx=>h x (by simp [hx])
  have h3:=h d (by simp)
  have h4:0≤p*vl p l:=ec (by omega) h1
  have h5:p*vl p l≤p*(p^l.length-1):=c8 (by omega) (by omega)
  rw [Int.mul_sub,mn] at h5;rw [bc,fj,gq (p^l.length),vl];omega
theorem Xd:∀{l:List Int},Can p l→∀i,cf l i=vl p l/p^i%p
 | [],_,i=>by simp [vl,cf]
 | d::l,h,0=>by
  have h3:=h d (by simp)
  show d=(d+p*vl p l)/p^0%p;rw [Int.pow_zero,Int.ediv_one,kg,ia h3.1 h3.2]
 | d::l,h,i+1=>by
  have hp:=IsP.pos (p:=p);have h3:=h d (by simp)
  have e:cf (d::l) (i+1)=cf l i:=by simp [cf]
  rw [e,Xd (l:=l) fun x hx=>h x (by simp [hx]),vl,fj,gq (p^i),←Int.ediv_ediv_of_nonneg (by omega),Int.add_mul_ediv_left _ _ (by omega),nr h3.1 h3.2,Int.zero_add]
theorem Vq:∀(f:Nat) (n:Int),0≤n→n<2^f→∀i,cf (dgs p f n) i=n/p^i%p
 | 0,n,h0,hn,i=>by
  obtain rfl:n=0:=by simp at hn; omega
  simp [dgs,cf]
 | f+1,n,h0,hn,i=>by
  have hp:=IsP.ge (p:=p);unfold dgs
  split
  ·obtain rfl:n=0:=by omega
   simp [cf]
  ·have hd:n/p<2^f:=by
    apply i4 (by omega)
    have:(2:Int)^(f+1)=2^f*2:=fj _ _;have h2:(2:Int)^f*2≤2^f*p:=c8 hp (na (by omega))
    omega
   cases i with
   | zero=>show n%p=n/p^0%p; rw [Int.pow_zero,Int.ediv_one]
   | succ i=>
    have e:cf (n%p::dgs p f (n/p)) (i+1)=cf (dgs p f (n/p)) i:=by simp [cf]
    rw [e,Vq f _ (m6 h0 (by omega)) hd,fj,gq (p^i),←Int.ediv_ediv_of_nonneg (by omega)]
abbrev yc (n:Int):Prop:=0≤n∧n<18446744073709551616
theorem Iw {n:Int} (h:yc n) (i:Nat):(kn p n).c i=zp p (n/p^i):=by
 unfold kn;rw [gn,Vq 64 n h.1 (by simpa using h.2),tt]
noncomputable def dx (a:Fp p):Int:=vl p (row a)
theorem yx (a:Fp p):0≤dx a∧dx a<p^a.len:=by
 have:=Pn (gp a)
 rwa [bn] at this
theorem D9 {a:Fp p} (h:dx a<18446744073709551616):kn p (dx a)=a:=Pol.ext fun i=>by
 rw [Iw ⟨(yx a).1,h⟩];have:=Xd (gp a) i;rw [ff] at this;rw [←tt,show dx a/p^i%p=rep (a.c i) from this.symm,jb]
theorem Un:∀(f:Nat) (n:Int),0≤n→n<2^f→vl p (dgs p f n)=n
 | 0,n,h0,hn=>by
  obtain rfl:n=0:=by simp at hn; omega
  rfl
 | f+1,n,h0,hn=>by
  have hp:=IsP.ge (p:=p);unfold dgs
  split
  ·show (0:Int)=n; omega
  ·have hd:n/p<2^f:=by
    apply i4 (by omega)
    have:(2:Int)^(f+1)=2^f*2:=fj _ _;have h2:(2:Int)^f*2≤2^f*p:=c8 hp (na (by omega))
    omega
   rw [vl,Un f _ (m6 h0 (by omega)) hd]
   exact Int.emod_add_mul_ediv n p
theorem ti {n:Int} (h:yc n):dx (kn p n)=n:=by
 unfold dx;rw [M9 h.2,Un 64 n h.1 (by simpa using h.2)]
theorem L9 {n m:Int} (hn:yc n) (hm:yc m) (h:kn p n=kn p m):n=m:=by rw [←ti (p:=p) hn,h,ti hm]
theorem C0 {n:Int} (h:yc n) {d:Nat} (hd:n<p^d):(kn p n).lt d:=fun i hi=>by
 have hp:=IsP.pos (p:=p);rw [Iw h,nr h.1 (Int.lt_of_lt_of_le hd (kr (by omega) hi)),vm]
theorem Rq (d:Nat):((p.toNat^d:Nat):Int)=p^d:=by
 have hp:=IsP.pos (p:=p);rw [Int.natCast_pow,Int.toNat_of_nonneg (by omega)]
theorem Gr:kn p 0=0:=Pol.ext fun i=>by rw [Iw ⟨by omega,by omega⟩,Int.zero_ediv,vm]; rfl
def xh (q:Fp p) (d:Nat):List (Quo q):=(List.range (p.toNat^d-1)).map fun (n:Nat)=>Quo.mk q (kn p (n+1))
theorem si (d:Nat):0<p.toNat^d:=Nat.pow_pos (by have:=IsP.pos (p:=p); omega)
theorem zd {q:Fp p} {d:Nat} (hq:q.len=d+1) (hd:p^d<1000000000000):(xh q d).Nodup:=by
 unfold xh List.Nodup;rw [nu];refine List.Pairwise.imp_of_mem ?_ (List.pairwise_lt_range (n:=p.toNat^d-1));intro a b ha hb hab e;rw [ke] at ha hb;have hc:=Rq (p:=p) d;have hpos:=si (p:=p) d;have h1:yc ((a:Int)+1):=⟨by omega,by omega⟩
 have h2:yc ((b:Int)+1):=⟨by omega,by omega⟩
 have hq0:q≠0:=fun h0=>by rw [h0,Pol.len_zero] at hq; omega
 have l1:=Pol.len_le (C0 (p:=p) h1 (d:=d) (by omega))
 have l2:=Pol.len_le (C0 (p:=p) h2 (d:=d) (by omega))
 rw [←Pol.mod_eq_iff hq0,Pol.mod_small (by omega),Pol.mod_small (by omega)] at e
 have:=L9 h1 h2 e;omega
theorem Ef {q:Fp p} {d:Nat} (hq:q.len=d+1) (hd:p^d<1000000000000) (x:Quo q):x∈xh q d↔x≠0:=by
 have hc:=Rq (p:=p) d;have hpos:=si (p:=p) d;have hq0:q≠0:=fun h0=>by rw [h0,Pol.len_zero] at hq; omega
 constructor
 ·intro h e
  obtain ⟨n,hn,rfl⟩:=ca.1 h;rw [ke] at hn;have h1:yc ((n:Int)+1):=⟨by omega,by omega⟩
  have l1:=Pol.len_le (C0 (p:=p) h1 (d:=d) (by omega))
  rw [←Quo.mk_zero,←Pol.mod_eq_iff hq0,Pol.mod_small (by omega),Pol.zero_mod hq0,←Gr] at e
  have:=L9 h1 ⟨by omega,by omega⟩ e
  omega
 ·intro h
  obtain ⟨a,rfl⟩:=Quo.ex x;have hl:=Pol.len_mod a hq0;rw [←Pol.mk_mod] at h ⊢;have hin:=yx (a%q);have hle:p^(a%q).len≤p^d:=kr (by have:=IsP.pos (p:=p); omega) (by omega)
  have e:=D9 (a:=a%q) (by omega)
  have hne:dx (a%q)≠0:=fun h0=>by
   rw [h0,Gr] at e;exact h (by rw [←e,Quo.mk_zero])
  refine ca.2 ⟨(dx (a%q)).toNat-1,?_,?_⟩
  ·rw [ke]; omega
  ·rw [show (((dx (a%q)).toNat-1:Nat):Int)+1=dx (a%q) by omega,e]
theorem a2s {q:Fp p} (hi:Irr q) {d:Nat} (hq:q.len=d+1) (hd:p^d<1000000000000) {x:Quo q} (hx:x≠0):pw x (p.toNat^d-1)=1:=by
 classical
 have h1:(1:Quo q)≠0:=(a1e hi).one_ne;have:=U9 (zd hq hd) (fun x y e=>hi.quo_zero e) h1 (Ef hq hd) hx
 rwa [xh,ah,fb] at this
theorem Dw {q:Fp p} (hi:Irr q) {d:Nat} (hq:q.len=d+1) (hd:p^d<1000000000000) (x:Quo q):pw x (p.toNat^d)=x:=by
 have hpos:=si (p:=p) d
 by_cases hx:x=0
 ·rw [hx]
  cases hn:p.toNat^d with
  | zero=>omega
  | succ n=>rw [pw,Gq.mul_zero]
 ·have:=a2s hi hq hd hx
  have e:p.toNat^d=(p.toNat^d-1)+1:=by omega
  rw [e,pw,this,Gq.one_mul]
end
section
variable {p:Int}
theorem aah {q:Fp p}:(ic p:Quo q)=0:=by
 have h:∀n:Int,(ic n:Quo q)=Quo.mk q (Pol.C (zp p n)):=by
  have hn:∀n:Nat,(nc n:Quo q)=Quo.mk q (Pol.C (zp p n)):=by
   intro n
   induction n with
   | zero=>show (0:Quo q)=_; rw [show zp p ((0:Nat):Int)=0 from rfl,Pol.C_zero,Quo.mk_zero]
   | succ n ih=>
    rw [nc,ih];have:zp p ((n+1:Nat):Int)=zp p n+1:=rfl;rw [this,Pol.C_add,Quo.mk_add,Pol.C_one,Quo.mk_one]
  intro n;cases n with
  | ofNat n=>exact hn n
  | negSucc n=>
   show -(nc (n+1):Quo q)=_;rw [hn,←Quo.mk_neg,←Pol.C_neg]; rfl
 rw [h];have:zp p p=0:=Cv.2 (by simp)
 rw [this,Pol.C_zero,Quo.mk_zero]
end
section
variable {p:Int} [IsP p]
theorem L8 {q:Fp p} (x y:Quo q):pw (x+y) p.toNat=pw x p.toNat+pw y p.toNat:=by
 have h:=aah (q:=q);rcases (inferInstance:IsP p).h with rfl | rfl | rfl | rfl
 ·have e:pw (x+y) 2=pw x 2+pw y 2+ic 2*(x*y):=by
   show (x+y)^2=x^2+y^2+ic 2*(x*y);exact bv [x,y] rfl
  rw [h,Gq.zero_mul,Gq.add_zero] at e;exact e
 ·have e:pw (x+y) 3=pw x 3+pw y 3+ic 3*(x*x*y+x*y*y):=by
   show (x+y)^3=x^3+y^3+ic 3*(x*x*y+x*y*y);exact bv [x,y] rfl
  rw [h,Gq.zero_mul,Gq.add_zero] at e;exact e
 ·have e:pw (x+y) 5=pw x 5+pw y 5+ic 5*(x^4*y+ic 2*x^3*y^2+ic 2*x^2*y^3+x*y^4):=by
   show (x+y)^5=x^5+y^5+ic 5*(x^4*y+ic 2*x^3*y^2+ic 2*x^2*y^3+x*y^4);exact bv [x,y] rfl
  rw [h,Gq.zero_mul,Gq.add_zero] at e;exact e
 ·have e:pw (x+y) 7=pw x 7+pw y 7+ic 7*(x^6*y+ic 3*x^5*y^2+ic 5*x^4*y^3+ic 5*x^3*y^4+ic 3*x^2*y^5+x*y^6):=by
   show (x+y)^7=x^7+y^7+ic 7*(x^6*y+ic 3*x^5*y^2+ic 5*x^4*y^3+ic 5*x^3*y^4+ic 3*x^2*y^5+x*y^6);exact bv [x,y] rfl
  rw [h,Gq.zero_mul,Gq.add_zero] at e;exact e
theorem De (c:Zp p):pw c p.toNat=c:=by
 have h0:=k8 c;have e:c=zp p (rep c):=(jb c).symm;generalize rep c=n at *;subst e;rcases (inferInstance:IsP p).h with rfl | rfl | rfl | rfl
 ·have:n=0∨n=1:=by omega
  rcases this with rfl | rfl <;> exact Cv.2 (by decide)
 ·have:n=0∨n=1∨n=2:=by omega
  rcases this with rfl | rfl | rfl <;> exact Cv.2 (by decide)
 ·have:n=0∨n=1∨n=2∨n=3∨n=4:=by omega
  rcases this with rfl | rfl | rfl | rfl | rfl <;> exact Cv.2 (by decide)
 ·have:n=0∨n=1∨n=2∨n=3∨n=4∨n=5∨n=6:=by omega
  rcases this with rfl | rfl | rfl | rfl | rfl | rfl | rfl <;> exact Cv.2 (by decide)
end
end Pe

namespace Pe
open Go Gq
section
variable {p:Int} [IsP p]
theorem Eo {q:Fp p} (x y:Quo q):∀k,pw (x+y) (p.toNat^k)=pw x (p.toNat^k)+pw y (p.toNat^k)
 | 0=>by rw [nk,z9,z9,z9]
 | k+1=>by rw [lc,←x9,Eo x y k,L8,x9,x9]
theorem Am (c:Zp p):∀k,pw c (p.toNat^k)=c
 | 0=>by rw [nk,z9]
 | k+1=>by rw [lc,←x9,Am c k,De]
end
section
variable {p:Int}
theorem a39 (c:Zp p):∀n,Pol.C (pw c n)=pw (Pol.C c) n
 | 0=>rfl
 | n+1=>by rw [pw,Pol.C_mul,a39 c n,pw]
end
section
variable {p:Int} [IsP p]
end
section
variable {p:Int}
theorem R8 {P:Fp p→Prop} (h0:P 0) (h:∀c a,P a→P (Pol.C c+Pol.X*a)):∀(n:Nat) (a:Fp p),a.lt n→P a
 | 0,a,ha=>by rw [Pol.lt_zero.1 ha]; exact h0
 | n+1,a,ha=>by
  obtain ⟨m,hm⟩:=a.fin
  let b:Fp p:=⟨fun i=>a.c (i+1),m,fun i hi=>hm _ (by omega)⟩
  have e:a=Pol.C (a.c 0)+Pol.X*b:=Pol.ext fun i=>by
   rw [Pol.c_add,Pol.c_C,Pol.c_Xmul];cases i with
   | zero=>rw [if_pos rfl,if_pos rfl,Gq.add_zero]
   | succ i=>rw [if_neg (by omega),if_neg (by omega),Gq.zero_add]; rfl
  rw [e];exact h _ _ (R8 h0 h n b fun i hi=>ha _ (by omega))
end
section
variable {p:Int} [IsP p]
theorem Uw {q:Fp p} (k:Nat) (h:pw (Quo.mk q Pol.X) (p.toNat^k)=Quo.mk q Pol.X) (x:Quo q):pw x (p.toNat^k)=x:=by
 obtain ⟨a,rfl⟩:=Quo.ex x;refine R8 (P:=fun a=>pw (Quo.mk q a) (p.toNat^k)=Quo.mk q a) ?_ (fun c a ha=>?_) _ a a.lt_len
 ·rw [Quo.mk_zero]
  have:=si (p:=p) k;cases hn:p.toNat^k with
  | zero=>omega
  | succ n=>rw [pw,Gq.mul_zero]
 ·rw [Quo.mk_add,Quo.mk_mul,Eo,Dc,h,ha]
  congr 1
  rw [←Quo.mk_pow,←a39,Am]
theorem Df {K:Type} [CR K] (m:Nat) (g:Nat→K):∀n,fu (fun i=>(if i=m then 1 else 0)*g i) n=if m<n then g m else 0
 | 0=>by rw [if_neg (by omega)]; rfl
 | n+1=>by
  rw [fu,Df m g n];rcases ij m n with h | h | h
  ·rw [if_pos h,if_neg (by omega),if_pos (by omega),Gq.zero_mul,Gq.add_zero]
  ·rw [if_neg (by omega),if_pos h.symm,if_pos (by omega),Gq.one_mul,Gq.zero_add,h]
  ·rw [if_neg (by omega),if_neg (by omega),if_neg (by omega),Gq.zero_mul,Gq.add_zero]
noncomputable def frT (p:Int) (k:Nat):Fp p:=pw Pol.X (p.toNat^k)-Pol.X
theorem Wz {q:Fp p} {k:Nat}:Dv q (frT p k)↔pw (Quo.mk q Pol.X) (p.toNat^k)=Quo.mk q Pol.X:=by
 rw [ki,frT,Quo.mk_sub,Quo.mk_pow];exact ⟨fun h=>nz h,fun h=>by rw [h,sub_self]⟩
theorem R7 {q:Fp p} (hi:Irr q) {d:Nat} (hq:q.len=d+1) (hd:p^d<1000000000000):Dv q (frT p d):=Wz.2 (Dw hi hq hd _)
theorem D4 {q:Fp p} (hi:Irr q) {d k:Nat} (hq:q.len=d+1) (hd:p^d<1000000000000) (hk:0<k) (h:Dv q (frT p k)):d≤k:=by
 classical
 have hfix:=Uw k (Wz.1 h);have hone:(1:Quo q)≠0:=(a1e hi).one_ne;have hP:2≤p.toNat:=by have:=IsP.ge (p:=p); omega
 have hne1:1<p.toNat^k:=Nat.one_lt_pow (by omega) hP
 have r:=Jc (fun x y e=>hi.quo_zero e) (p.toNat^k) (fun i=>(if i=p.toNat^k then (1:Quo q) else 0)-(if i=1 then 1 else 0)) ((0:Quo q)::xh q d)
  (by rw [if_pos rfl,if_neg (by omega),sub_eq,rh,Gq.add_zero]; exact hone)
  (i7.2 ⟨fun h0=>(Ef hq hd 0).1 h0 rfl,zd hq hd⟩)
  (fun y _=>by
   have e:(fun i=>((if i=p.toNat^k then (1:Quo q) else 0)-(if i=1 then 1 else 0))*pw y i)=fun i=>(if i=p.toNat^k then (1:Quo q) else 0)*pw y i+(if i=1 then 1 else 0) * -pw y i:=by
    funext i
    exact bv [(if i=p.toNat^k then (1:Quo q) else 0),(if i=1 then (1:Quo q) else 0),pw y i] rfl
   rw [e,Dp,Df,Df _ (fun i=>-pw y i),if_pos (by omega),if_pos (by omega),hfix,z9,add_neg])
 have hl:(xh q d).length=p.toNat^d-1:=by unfold xh; rw [ah,fb]
 have hpos:=si (p:=p) d;rw [bc,hl] at r;have:p.toNat^d≤p.toNat^k:=by omega
 exact (Nat.pow_le_pow_iff_right (by omega)).1 this
end
end Pe

namespace Pe
open Go Gq
section
variable {p:Int} [IsP p]
theorem Ih:∀{l m:List Int},Can p l→Can p m→l.length<m.length→cf m (m.length-1)≠0→vl p l<vl p m
 | l,[],_,_,h,_=>by simp at h
 | l,d::m,hl,hm,h,hc=>by
  have hp:=IsP.pos (p:=p);have hd:=hm d (by simp)
  have hmc:Can p m:=fun x hx=>hm x (by simp [hx])
  cases l with
  | nil=>
   show 0<d+p*vl p m;have h2:=(Pn hmc).1;cases m with
   | nil=>
    have:d≠0:=hc;simp [vl]; omega
   | cons e m=>
    have h3:cf (e::m) ((e::m).length-1)≠0:=by simpa [cf] using hc
    have:=Ih (l:=[]) (m:=e::m) (fun x hx=>by simp at hx) hmc (by simp) h3
    have h5:0<p*vl p (e::m):=Int.mul_pos hp (by simpa [vl] using this)
    omega
  | cons c l=>
   have hlc:Can p l:=fun x hx=>hl x (by simp [hx])
   have hcc:=hl c (by simp)
   have h3:cf m (m.length-1)≠0:=by
    cases m with
    | nil=>simp at h
    | cons e m=>simpa [cf] using hc
   have:=Ih hlc hmc (by simpa using h) h3
   have h5:p*(vl p l+1)≤p*vl p m:=c8 (by omega) (by omega)
   rw [p9,mn] at h5;show c+p*vl p l<d+p*vl p m;omega
end
section
variable {p:Int}
theorem Tz {a:Fp p} (h:a≠0):cf (row a) ((row a).length-1)≠0:=by
 rw [bn,ff];exact fun h0=>Pol.ld_ne h (gt.1 h0)
end
section
variable {p:Int} [IsP p]
theorem qa {a b:Fp p} (h:a.len<b.len):dx a<dx b:=Ih (gp a) (gp b) (by simpa using h) (Tz fun h0=>by rw [h0,Pol.len_zero] at h; omega)
theorem Vy:∀{l m:List Int},Can p l→Can p m→l.length=m.length→vl p l=vl p m→l=m
 | [],[],_,_,_,_=>rfl
 | [],_::_,_,_,h,_=>by simp at h
 | _::_,[],_,_,h,_=>by simp at h
 | c::l,d::m,hl,hm,h,e=>by
  have hp:=IsP.pos (p:=p);have hcc:=hl c (by simp)
  have hd:=hm d (by simp)
  have e2:c+p*vl p l=d+p*vl p m:=e
  have e3:c=d:=by
   have:=congrArg (· % p) e2
   simp only [kg] at this
   rwa [ia hcc.1 hcc.2,ia hd.1 hd.2] at this
  subst e3;have e4:p*vl p l=p*vl p m:=by omega
  rw [Vy (l:=l) (m:=m) (fun x hx=>hl x (by simp [hx])) (fun x hx=>hm x (by simp [hx])) (by simpa using h) (Int.eq_of_mul_eq_mul_left (by omega) e4)]
theorem Gf {a b:Fp p} (h:dx a=dx b):a=b:=by
 rcases ij a.len b.len with h1 | h1 | h1
 ·have:=qa h1; omega
 ·exact a00 (Vy (gp a) (gp b) (by simpa using h1) h)
 ·have:=qa h1; omega
abbrev jx (p:Int):=List (Fp p×Nat)
noncomputable def je (L:jx p):Fp p:=lg (L.map fun x=>pw x.1 x.2)
structure FacOk (L:jx p):Prop where
 irr:∀x∈L,Irr x.1∧Monic x.1∧1≤x.2
 dis:L.Pairwise fun x y=>x.1≠y.1
structure IsFac (a:Fp p) (L:jx p):Prop where
 ok:FacOk L
 sorted:L.Pairwise fun x y=>dx x.1<dx y.1
 eq:a=Pol.C a.ld*je L
end
section
variable {p:Int}
theorem qp (x:Fp p×Nat) (L:jx p):je (x::L)=pw x.1 x.2*je L:=rfl
end
section
variable {p:Int} [IsP p]
theorem Monic.pw {a:Fp p} (h:Monic a):∀n,Monic (pw a n)
 | 0=>Monic.one
 | n+1=>(Monic.pw h n).mul h
theorem Ao {L:jx p} (h:FacOk L):Monic (je L):=by
 induction L with
 | nil=>exact Monic.one
 | cons x L ih=>
  rw [qp];exact (Monic.pw (h.irr x (by simp)).2.1 _).mul (ih ⟨fun y hy=>h.irr y (by simp [hy]),(df.1 h.dis).2⟩)
theorem Irr.pw_dv {q a:Fp p} (h:Irr q):∀n,Dv q (pw a n)→Dv q a
 | 0,hd=>by
  have h1:q.len≤(1:Fp p).len:=hd.len Pol.one_ne;have h2:=h.len;rw [Pol.len_one] at h1; omega
 | n+1,hd=>(h.prime hd).elim (Irr.pw_dv h n) id
theorem I7 {q:Fp p} (hq:Irr q) (mq:Monic q):∀{L:jx p},FacOk L→Dv q (je L)→∃k,(q,k)∈L
 | [],_,h=>by
  have h1:q.len≤(1:Fp p).len:=h.len Pol.one_ne;have h2:=hq.len;rw [Pol.len_one] at h1; omega
 | x::L,ok,h=>by
  rw [qp] at h;rcases hq.prime h with h1 | h1
  ·have h2:=Irr.pw_dv hq _ h1
   obtain ⟨i1,i2,_⟩:=ok.irr x (by simp)
   have:=hq.eq_of_dv i1 mq i2 h2;exact ⟨x.2,by rw [this]; simp⟩
  ·obtain ⟨k,hk⟩:=I7 hq mq ⟨fun y hy=>ok.irr y (by simp [hy]),(df.1 ok.dis).2⟩ h1
   exact ⟨k,by simp [hk]⟩
theorem wa {q:Fp p} {k:Nat}:∀{L:jx p},FacOk L→(q,k)∈L→∃r,je L=pw q k*r∧¬ Dv q r
 | x::L,ok,h=>by
  have ok':FacOk L:=⟨fun y hy=>ok.irr y (by simp [hy]),(df.1 ok.dis).2⟩
  rw [qp];rcases d5.1 h with rfl | h
  ·refine ⟨je L,rfl,fun hd=>?_⟩
   obtain ⟨i1,i2,_⟩:=ok.irr (q,k) (by simp)
   obtain ⟨k',hk⟩:=I7 i1 i2 ok' hd;exact (df.1 ok.dis).1 _ hk rfl
  ·obtain ⟨r,e,hn⟩:=wa ok' h
   refine ⟨pw x.1 x.2*r,by rw [e,ol],fun hd=>?_⟩
   obtain ⟨i1,i2,_⟩:=ok.irr (q,k) (by simp [h])
   obtain ⟨j1,j2,_⟩:=ok.irr x (by simp)
   rcases i1.prime hd with h1 | h1
   ·have h2:=Irr.pw_dv i1 _ h1
    have e:=i1.eq_of_dv j1 i2 j2 h2;exact (df.1 ok.dis).1 _ h e.symm
   ·exact hn h1
theorem Cl {a:Fp p} (h:a≠0):∀n,pw a n≠0
 | 0=>Pol.one_ne
 | n+1=>Pol.mul_ne (Cl h n) h
theorem Id {a:Fp p} (ha:a≠0) {L:jx p} (ok:FacOk L) (e:a=Pol.C a.ld*je L) (q:Fp p) (k:Nat):(q,k)∈L↔Irr q∧Monic q∧1≤k∧Dv (pw q k) a∧¬ Dv (pw q (k+1)) a:=by
 have hld:=Pol.ld_ne ha
 have dvP:∀c,Dv c a↔Dv c (je L):=fun c=>by
  constructor
  ·rintro ⟨x,hx⟩
   refine ⟨Pol.C (Fd.inv a.ld)*x,?_⟩
   have:je L=Pol.C (Fd.inv a.ld)*a:=by
    rw [e];have e2:(Pol.C a.ld*je L).ld=a.ld:=by rw [←e]
    rw [e2,←Gq.mul_assoc,Gq.mul_comm (Pol.C (Fd.inv _)),Vh hld,Gq.one_mul]
   rw [this];generalize Pol.C (Fd.inv a.ld)=k;rw [hx];exact bv [k,c,x] rfl
  ·intro h
   rw [e]; exact h.mul_left _
 constructor
 ·intro h
  obtain ⟨i1,i2,i3⟩:=ok.irr (q,k) h;obtain ⟨r,e2,hn⟩:=wa ok h;refine ⟨i1,i2,i3,(dvP _).2 ⟨r,e2⟩,fun hd=>hn ?_⟩
  obtain ⟨y,hy⟩:=(dvP _).1 hd;rw [e2,pw,Gq.mul_assoc] at hy;exact ⟨y,Pol.mul_cancel (Cl i1.ne k) hy⟩
 ·rintro ⟨i1,i2,i3,h1,h2⟩
  have hq:Dv q a:=by
   obtain ⟨k,rfl⟩:∃j,k=j+1:=⟨k-1,by omega⟩
   exact Dv.trans ⟨pw q k,Gq.mul_comm _ _⟩ h1
  obtain ⟨k',hk'⟩:=I7 i1 i2 ok ((dvP _).1 hq);obtain ⟨r,e2,hn⟩:=wa ok hk'
  have:k=k':=by
   rcases ij k k' with h | h | h
   ·exfalso
    apply h2;rw [dvP,e2];obtain ⟨j,rfl⟩:=f6 (show k+1≤k' from h);rw [zj q (k+1) j];exact ((Dv.refl _).mul_right _).mul_right _
   ·exact h
   ·exfalso
    apply hn;obtain ⟨y,hy⟩:=(dvP _).1 h1;obtain ⟨j,rfl⟩:=f6 (show k'+1≤k from h);rw [e2,zj,pw,Gq.mul_assoc,Gq.mul_assoc] at hy;exact ⟨_,Pol.mul_cancel (Cl i1.ne k') hy⟩
  rw [this]; exact hk'
theorem Gi {α:Type} (f:α→Int):∀{l m:List α},l.Pairwise (fun x y=>f x<f y)→m.Pairwise (fun x y=>f x<f y)→(∀x,x∈l↔x∈m)→l=m
 | [],[],_,_,_=>rfl
 | [],y::m,_,_,h=>by have:=(h y).2 (by simp); simp at this
 | x::l,[],_,_,h=>by have:=(h x).1 (by simp); simp at this
 | x::l,y::m,hl,hm,h=>by
  obtain ⟨l1,l2⟩:=df.1 hl;obtain ⟨m1,m2⟩:=df.1 hm
  have e:x=y:=by
   rcases d5.1 ((h x).1 (by simp)) with h1 | h1
   ·exact h1
   ·rcases d5.1 ((h y).2 (by simp)) with h2 | h2
    ·exact h2.symm
    ·have:=m1 _ h1
     have:=l1 _ h2;omega
  subst e;rw [Gi f l2 m2 fun z=>?_]
  constructor
  ·intro hz
   rcases d5.1 ((h z).1 (by simp [hz])) with h1 | h1
   ·subst h1; have:=l1 _ hz; omega
   ·exact h1
  ·intro hz
   rcases d5.1 ((h z).2 (by simp [hz])) with h1 | h1
   ·subst h1; have:=m1 _ hz; omega
   ·exact h1
theorem IsFac.unique {a:Fp p} (ha:a≠0) {L L':jx p} (h:IsFac a L) (h':IsFac a L'):L=L':=
 Gi (fun x=>dx x.1) h.sorted h'.sorted fun x=>by
  obtain ⟨q,k⟩:=x;rw [Id ha h.ok h.eq,Id ha h'.ok h'.eq]
def wx (n:Nat) (a:Fp p):Prop:=∀q,Irr q→Dv q a→n+1≤q.len
theorem uk {a:Fp p} {n:Nat} (h:wx n a) (hl:2≤a.len) (hs:a.len<2*n+1):Irr a:=by
 refine Irr.of_dv hl fun u hu=>?_
 have ha:a≠0:=fun h0=>by rw [h0,Pol.len_zero] at hl; omega
 obtain ⟨v,rfl⟩:=hu;have hu0:u≠0:=fun h0=>ha (by rw [h0,Gq.zero_mul])
 have hv0:v≠0:=fun h0=>ha (by rw [h0,Gq.mul_zero])
 have l:=Pol.len_mul hu0 hv0;have l1:=Pol.len_pos hu0;have l2:=Pol.len_pos hv0;apply ef;intro hx;have hu2:2≤u.len:=by omega
 have hv2:2≤v.len:=by omega
 obtain ⟨q,q1,_,q2⟩:=zm u.len u (b9 _) hu2;obtain ⟨r,r1,_,r2⟩:=zm v.len v (b9 _) hv2;have s1:=h q q1 (q2.mul_right v);have s2:=h r r1 (r2.mul_left u);have s3:=q2.len hu0;have s4:=r2.len hv0;omega
theorem M3 (a:Fp p):wx 1 a:=fun _q h _=>h.len
theorem Pf {a b:Fp p} {n:Nat} (h:wx n a) (hd:Dv b a):wx n b:=fun q hq hb=>h q hq (hb.trans hd)
end
end Pe

namespace Pe
open Go Gq
variable {T:Nat→Option Fn} {A:af}
def wb (O:af) (F:Nat):Prop:=∀x:Int,ask O F [(D.int .i64 x)]=some (D.bool false)
theorem Y8 (hT:T F2=some Z2):wb (den T A) F2:=fun x=>by
 refine br hT rfl ?_;simp -implicitDefEqProofs [Z2,Z2_B]
theorem Ss (hT:T F3=some Z3):wb (den T A) F3:=fun x=>by
 refine br hT rfl ?_;simp -implicitDefEqProofs [Z3,Z3_B]
def lj (x y:Int):Int:=if x<y then -1 else if y<x then 1 else 0
def mc (O:af) (F:Nat):Prop:=∀x y:Int,ask O F [(D.int .i64 x),(D.int .i64 y)]=some (D.int .i64 (lj x y))
theorem Mp (hT:T F0=some Z0) (h:wb (den T A) F2):mc (den T A) F0:=fun x y=>by
 have e1:=h x;have e2:=h y;refine br hT rfl ?_;unfold lj
 by_cases h1:x<y
 ·simp -implicitDefEqProofs [Z0,Z0_B,e1,e2,h1,ap]
 ·by_cases h2:y<x
  ·simp -implicitDefEqProofs [Z0,Z0_B,e1,e2,h1,h2,ap]
  ·simp -implicitDefEqProofs [Z0,Z0_B,e1,e2,h1,h2,ap]
theorem J0 (hT:T F1=some Z1) (h:wb (den T A) F3):mc (den T A) F1:=fun x y=>by
 have e1:=h x;have e2:=h y;refine br hT rfl ?_;unfold lj
 by_cases h1:x<y
 ·simp -implicitDefEqProofs [Z1,Z1_B,e1,e2,h1,ap]
 ·by_cases h2:y<x
  ·simp -implicitDefEqProofs [Z1,Z1_B,e1,e2,h1,h2,ap]
  ·simp -implicitDefEqProofs [Z1,Z1_B,e1,e2,h1,h2,ap]
def zu (l m:List Int):Nat→Int
 | 0=>0
 | n+1=>if lj (cf l n) (cf m n)≠0 then lj (cf l n) (cf m n) else zu l m n
theorem Ev {O:af} (hc:mc O F1) {l m:List Int} (hlm:l.length=m.length) (hl:l.length<1000000):∀n:Nat,n≤l.length →
 dn O 0 (.loop Zb_L0) ⟨[(0,(.d (.sl .leaf (am .i64 l)))),(1,(.d (.sl .leaf (am .i64 m)))),(6,(.d (.int .i64 ((n:Int)-1))))],[]⟩ =
  if zu l m n=0 then some (.exit 0,⟨[(0,(.d (.sl .leaf (am .i64 l)))),(1,(.d (.sl .leaf (am .i64 m)))),(6,(.d (.int .i64 (-1)))),(20,(.d (.bool false)))],[]⟩) else some (.ret,⟨[(4,(.d (.int .i64 (zu l m n))))],[]⟩)
 | 0,hn=>by
  simp only [zu,if_true];exact bo (by simp -implicitDefEqProofs [Zb_L0,ap])
 | n+1,hn=>by
  have t0:(((n+1:Nat):Int)-1)=(n:Int):=by omega
  rw [t0];have h1:n<l.length:=by omega
  have h2:n<m.length:=by omega
  have e1:l[n]? = some (cf l n):=by rw [al h1,dp h1]
  have e2:m[n]? = some (cf m n):=by rw [al h2,dp h2]
  have e1':l[n]=cf l n:=(dp h1).symm;have e2':m[n]=cf m n:=(dp h2).symm;have e3:=hc (cf l n) (cf m n);have w1:IntKind.i64.wrap ((n:Int)-1)=(n:Int)-1:=w64 (by omega)
  by_cases h0:lj (cf l n) (cf m n)=0
  ·rw [h0] at e3
   have e:zu l m (n+1)=zu l m n:=if_neg (fun h=>h h0)
   rw [e];refine bm ?_ (Ev hc hlm hl n (by omega))
   simp -implicitDefEqProofs [Zb_L0,ap,h1,h2,e1',e2',e3,w1]
  ·have e:zu l m (n+1)=lj (cf l n) (cf m n):=if_pos h0
   rw [e,if_neg h0];refine pk ?_;simp -implicitDefEqProofs [Zb_L0,ap,h1,h2,e1',e2',e3,h0]
def a0k (l m:List Int):Int:=if lj l.length m.length≠0 then lj l.length m.length else zu l m l.length
def ww (O:af):Prop:=∀l m:List Int,l.length<1000000→m.length<1000000→ask O Fb [(D.sl .leaf (am .i64 l)),(D.sl .leaf (am .i64 m))]=some (D.int .i64 (a0k l m))
theorem Sj (hT:T Fb=some Zb) (h1:mc (den T A) F0) (h2:mc (den T A) F1):ww (den T A):=by
 intro l m hl hm;have e1:=h1 l.length m.length;unfold a0k;refine br hT rfl ?_
 by_cases h0:lj l.length m.length=0
 ·have hlm:l.length=m.length:=by
   unfold lj at h0
   split at h0
   ·omega
   ·split at h0 <;> omega
  rw [if_neg (fun h=>h h0)]
  rw [h0] at e1;have e2:=Ev h2 hlm hl l.length (b9 _);have w1:IntKind.i64.wrap ((l.length:Int)-1)=(l.length:Int)-1:=w64 (by omega)
  by_cases hz:zu l m l.length=0
  ·rw [if_pos hz] at e2
   simp -implicitDefEqProofs [Zb,Zb_B,ap,e1,e2,w1,hz]
  ·rw [if_neg hz] at e2
   simp -implicitDefEqProofs [Zb,Zb_B,ap,e1,e2,w1]
 ·rw [if_pos h0]
  simp -implicitDefEqProofs [Zb,Zb_B,ap,e1,h0]
section
variable (f:D→Int)
def wy:List D→D→List D→List D
 | [],x,R=>x::R
 | y::L,x,R=>if f x<f y then wy L x (y::R) else (y::L).reverse++x::R
def Eh:List D→List D→List D
 | P,[]=>P
 | P,x::r=>Eh (wy f P.reverse x []) r
theorem Lf:∀(L:List D) (x:D) (R S:List D),wy f L x (R++S)=wy f L x R++S
 | [],x,R,S=>rfl
 | y::L,x,R,S=>by
  unfold wy
  split
  ·rw [←dt,Lf L x (y::R) S]
  ·simp
theorem vk:∀(L:List D) (x:D) (R:List D),(wy f L x R).Perm (x::(L.reverse++R))
 | [],x,R=>.refl _
 | y::L,x,R=>by
  unfold wy
  split
  ·refine (vk L x (y::R)).trans ?_
   simp
  ·exact List.perm_middle
theorem Wh (L:List D) (x:D) (R:List D):(wy f L x R).length=L.length+R.length+1:=by
 have:=(vk f L x R).length_eq
 simpa using this
def Asc (l:List D):Prop:=l.Pairwise fun x y=>f x≤f y
theorem Jk:∀(L:List D) (x:D) (R:List D),Asc f (L.reverse++R)→(∀y∈R,f x≤f y)→Asc f (wy f L x R)
 | [],x,R,h,hx=>by
  unfold wy Asc;refine df.2 ⟨hx,?_⟩;have h':Asc f R:=by simpa using h
  exact h'
 | y::L,x,R,h,hx=>by
  unfold wy
  split
  ·rename_i hlt
   refine Jk L x (y::R) (by simpa using h) fun z hz=>?_
   rcases d5.1 hz with rfl | hz
   ·omega
   ·exact hx z hz
  ·rename_i hlt
   unfold Asc at h ⊢;rw [fq] at h ⊢;refine ⟨h.1,df.2 ⟨hx,h.2.1⟩,fun a ha b hb=>?_⟩
   rcases d5.1 hb with rfl | hb
   ·have hay:f a≤f y:=by
     have h1:=h.1;rw [List.reverse_cons,fq] at h1;rw [List.reverse_cons] at ha;rcases b6.1 ha with ha | ha
     ·exact h1.2.2 a ha y (by simp)
     ·simp at ha; rw [ha]; exact vg _
    omega
   ·exact h.2.2 a ha b hb
theorem G3:∀(r P:List D),(Eh f P r).Perm (P++r)
 | [],P=>by simp [Eh]
 | x::r,P=>by
  unfold Eh;refine (G3 r _).trans ?_;have:=vk f P.reverse x [];refine (List.Perm.append_right r this).trans ?_;simp;exact List.perm_middle.symm
theorem Ji:∀(r P:List D),Asc f P→Asc f (Eh f P r)
 | [],P,h=>h
 | x::r,P,h=>by
  unfold Eh;exact Ji r _ (Jk f P.reverse x [] (by simpa using h) (by simp))
end
section
variable {O:af} {g:Nat} {first caps:List D}
abbrev iq:Sh:=.st [.leaf,.leaf]
structure CmpOk (O:af) (g:Nat) (first caps:List D) (f:D→Int) (s:Sh) (cs:List D):Prop where
 nf:u9 first
 nc:u9 caps
 nx:u9 cs
 sh:Ax s cs
 ask:∀x∈cs,∀y∈cs,ask O g (first++[x,y]++caps)=some (D.int .i64 (lj (f x) (f y)))
theorem CmpOk.perm {f:D→Int} {s:Sh} {cs ds:List D} (h:CmpOk O g first caps f s cs) (p:ds.Perm cs):CmpOk O g first caps f s ds:=
 ⟨h.nf,h.nc,fun x hx=>h.nx x (p.subset hx),fun x hx=>h.sh x (p.subset hx),fun x hx y hy=>h.ask x (p.subset hx) y (p.subset hy)⟩
theorem CmpOk.call {f:D→Int} {s:Sh} {cs:List D} (h:CmpOk O g first caps f s cs) {hp:Heap} {np:Nat} {news:List Nat} {x y:D} (hx:x∈cs) (hy:y∈cs) :
 yi O np hp .flat news (g,first.map .d,caps.map .d) [.d x,.d y]=some (.d (D.int .i64 (lj (f x) (f y))),hp):=by
 have e:kj hp (first.map .d++[.d x,.d y]++caps.map .d)=some (first++[x,y]++caps):=
  qq hp (qq hp (jq hp h.nf) (jq hp (ds:=[x,y]) (by intro z hz; simp at hz; rcases hz with rfl | rfl; exact h.nx _ hx; exact h.nx _ hy))) (jq hp h.nc)
 rw [xo,e,aa,D0,h.ask x hx y hy,aa,zg,show (D.int IntKind.i64 (lj (f x) (f y))).flat=true from rfl,if_pos rfl]
theorem Jb (x y:Int):lj x y<0↔x<y:=by
 unfold lj
 split
 ·omega
 ·split <;> omega
theorem Uj {f:D→Int} {n:Nat} {cp:Option Nat} (hn:n≤1000) {i:Nat}:∀(L:List D) (x:D) (R:List D),(L.reverse++x::R).length=n→CmpOk O g first caps f iq (L.reverse++x::R)→∃j:Int,
 dn O 1 (.loop Z25_L0) ⟨[(0,.sl 0 [] 0 n cp),(1,(.d (.int .i64 0))),(2,(.d (.int .i64 n))),(3,.d (.fn g first caps)),(8,(.d (.int .i64 i))),(9,(.d (.int .i64 L.length)))],[.sl false iq (L.reverse++x::R)]⟩ =
  some (.exit 2,⟨[(0,.sl 0 [] 0 n cp),(1,(.d (.int .i64 0))),(2,(.d (.int .i64 n))),(3,.d (.fn g first caps)),(8,(.d (.int .i64 i))),(9,(.d (.int .i64 j))),(34,(.d (.bool false)))],[.sl false iq (wy f L x R)]⟩)
 | [],x,R,hl,ok=>by
  refine ⟨0,bo ?_⟩;simp -implicitDefEqProofs [Z25_L0,ap,wy]
 | y::L,x,R,hl,ok=>by
  have hj:(y::L).length=L.length+1:=rfl;have hlen:((y::L).reverse++x::R).length=L.length+1+(R.length+1):=by simp; omega
  have e1:((y::L).reverse++x::R)[L.length+1]? = some x:=by
   rw [b4 (by simp)]; simp
  have e2:((y::L).reverse++x::R)[L.length]? = some y:=by
   rw [b5 (by simp)]; simp
  have m1:x∈(y::L).reverse++x::R:=by simp
  have m2:y∈(y::L).reverse++x::R:=by simp
  have c:=ok.call (hp:=[.sl false iq ((y::L).reverse++x::R)]) (np:=1) (news:=[]) m1 m2;have s1:=ok.sh x m1;have s2:=ok.sh y m2;have n1:=ok.nx x m1;have n2:=ok.nx y m2
  have e3:(((y::L).reverse++x::R).set (L.length+1) y).set L.length x=L.reverse++x::y::R:=by
   rw [List.set_append_right _ _ (by simp),List.set_append_left _ _ (by simp)]
   simp
  have hp:((y::L).reverse++x::R).Perm (L.reverse++x::y::R):=by
   simp;exact (List.Perm.swap x y R).append_left _
  have w1:IntKind.i64.wrap (L.length:Int)=L.length:=w64 (by omega)
  have h0:(0:Int)<(L.length:Int)+1:=by omega
  have h00:(0:Int)≤(L.length:Int)+1:=by omega
  have h1:L.length+1<n:=by omega
  have h2:L.length<n:=by omega
  have h3:L.length<((y::L).reverse++x::R).length:=by omega
  have h4:L.length+1<((y::L).reverse++x::R).length:=by omega
  have e4:(((y::L).reverse++x::R).set (L.length+1) y)[L.length]? = some y:=by
   rw [az (by omega),e2]
  unfold wy;rw [hj,show ((L.length+1:Nat):Int)=(L.length:Int)+1 by omega]
  generalize (y::L).reverse++x::R=cs at *;have e1':cs[L.length+1]=x:=by rw [al h4] at e1; exact ao e1
  have e2':cs[L.length]=y:=by rw [al h3] at e2; exact ao e2
  by_cases hlt:f x<f y
  ·rw [if_pos hlt]
   obtain ⟨j,e⟩:=Uj hn L x (y::R) (by rw [←hp.length_eq]; omega) (ok.perm hp.symm)
   have hc:=(Jb (f x) (f y)).2 hlt;refine ⟨j,bm ?_ e⟩;simp -implicitDefEqProofs [Z25_L0,ap,h0,h00,h1,h2,h3,h4,e1',e2',c,s1,s2,n1,n2,w1,hc,e3]
  ·rw [if_neg hlt]
   have hc:=mt (Jb (f x) (f y)).1 hlt;refine ⟨(L.length:Int)+1,bo ?_⟩;simp -implicitDefEqProofs [Z25_L0,ap,h0,h00,h1,h2,h3,h4,e1',e2',c,s1,s2,w1,hc]
end
theorem Vx {O:af} {g:Nat} {first caps:List D} {f:D→Int} {n:Nat} {cp:Option Nat} (hn:n≤1000):∀(r P:List D),P.length+r.length=n→0<P.length→CmpOk O g first caps f iq (P++r) →
 dn O 1 (.loop Z25_L1) ⟨[(0,.sl 0 [] 0 n cp),(1,(.d (.int .i64 0))),(2,(.d (.int .i64 n))),(3,.d (.fn g first caps)),(8,(.d (.int .i64 P.length)))],[.sl false iq (P++r)]⟩ =
  some (.exit 0,⟨[(0,.sl 0 [] 0 n cp),(1,(.d (.int .i64 0))),(2,(.d (.int .i64 n))),(3,.d (.fn g first caps)),(8,(.d (.int .i64 n))),(14,(.d (.bool false)))],[.sl false iq (Eh f P r)]⟩)
 | [],P,hl,hP,ok=>by
  have hl':P.length=n:=by simpa using hl
  refine bo ?_;simp -implicitDefEqProofs [Z25_L1,ap,Eh,hl']
 | x::r,P,hl,hP,ok=>by
  simp at hl;have e0:P.reverse.reverse++x::r=P++x::r:=by simp
  obtain ⟨j,e⟩:=Uj (O:=O) (g:=g) (first:=first) (caps:=caps) (f:=f) (n:=n) (cp:=cp) hn (i:=P.length) P.reverse x r (by simp; omega) (by rw [e0]; exact ok)
  rw [e0,List.length_reverse,←ej r,Lf,ej] at e;have hlen:=Wh f P.reverse x [];rw [List.length_reverse,cn,cg] at hlen
  have hperm:(wy f P.reverse x []++r).Perm (P++x::r):=by
   refine (List.Perm.append_right r (vk f P.reverse x [])).trans ?_;simp;exact List.perm_middle.symm
  have ih:=Vx (O:=O) (g:=g) (first:=first) (caps:=caps) (f:=f) (cp:=cp) hn r (wy f P.reverse x []) (by rw [hlen]; omega) (by omega) (ok.perm hperm)
  have hlt:P.length<n:=by omega
  have w1:IntKind.i64.wrap ((P.length:Int)+1)=((P.length+1:Nat):Int):=(w64 (x:=(P.length:Int)+1) (by omega)).trans (by omega)
  rw [hlen] at ih;unfold Eh;refine bm ?_ ih;simp -implicitDefEqProofs [Z25_L1,ap,hlt,e,w1]
def a32 (O:af) (F:Nat) (args:V→List V→List V):Prop:=∀(g:Nat) (first caps:List D) (f:D→Int) (cs:List D) (cp:Option Nat),cs.length≤12→CmpOk O g first caps f iq cs →
 ∃ds:List D,ds.Perm cs∧Asc f ds∧O F (args (.sl 0 [] 0 cs.length cp) [(.d (.int .i64 cs.length)),.d (.fn g first caps)]) [.sl false iq cs]=some (.tup [],[.sl false iq ds],[])
def rt (O:af):Prop:=a32 O F25 fun s l=>[s,(.d (.int .i64 0))]++l
theorem Lp (hT:T F25=some Z25):rt (den T A):=by
 intro g first caps f cs cp hl ok;cases cs with
 | nil=>
  refine ⟨[],.refl _,List.Pairwise.nil,m9 hT rfl ?_⟩;have st:=bo (O:=den T A) (np:=1) (c:=Z25_L1) (s:=⟨[(0,.sl 0 [] 0 0 cp),(1,(.d (.int .i64 0))),(2,(.d (.int .i64 0))),(3,.d (.fn g first caps)),(8,(.d (.int .i64 1)))],[.sl false iq []]⟩) (s1:=⟨[(0,.sl 0 [] 0 0 cp),(1,(.d (.int .i64 0))),(2,(.d (.int .i64 0))),(3,.d (.fn g first caps)),(8,(.d (.int .i64 1))),(14,(.d (.bool false)))],[.sl false iq []]⟩) (id:=0) (by simp -implicitDefEqProofs [Z25_L1,ap])
  have w1:IntKind.i64.wrap 1=1:=w64 (by omega)
  simp -implicitDefEqProofs [Z25,Z25_B,st,w1]
 | cons x r=>
  have e:=Vx (O:=den T A) (g:=g) (first:=first) (caps:=caps) (f:=f) (n:=(x::r).length) (cp:=cp) (by omega) r [x] (by simp; omega) (by simp) ok
  have e1:(([x]:List D).length:Int)=1:=rfl;rw [e1] at e;refine ⟨Eh f [x] r,G3 f r [x],Ji f r [x] (dy _ _),m9 hT rfl ?_⟩;have w1:IntKind.i64.wrap 1=1:=w64 (by omega)
  rw [List.singleton_append] at e;generalize x::r=cs at *;simp -implicitDefEqProofs [Z25,Z25_B,e,w1]
def vo (O:af) (F:Nat):Prop:=∀n:Nat,n≤12→∃v:Int,ask O F [.int .u64 n]=some (D.int .i64 v)
theorem a01 (hT:T F1v=some Z1v):vo (den T A) F1v:=by
 intro n hn
 have key:∀v:Int,run (fun _ _ _=>none) 1 Z1v [.d (.int .u64 n)] []=some ((.d (.int .i64 v)),[],[])→ask (den T A) F1v [.int .u64 n]=some (D.int .i64 v):=by
  intro v h
  have h2:=Hk (A:=A) hT (n:=1) (vs:=[.d (.int .u64 n)]) (bs:=[]) (ans:=((.d (.int .i64 v)),[],[])) (by
   obtain ⟨qs,h3,h4⟩:=wi h;cases qs with
   | nil=>exact h4 _ (by intro q hq; simp at hq)
   | cons q qs=>exact absurd (h3 q (by simp)) (by simp))
  unfold ask;rw [show ([D.int .u64 n]:List D).map V.d=[.d (.int .u64 n)] from rfl,h2];rfl
 have h:n=0∨n=1∨n=2∨n=3∨n=4∨n=5∨n=6∨n=7∨n=8∨n=9∨n=10∨n=11∨n=12:=by omega
 rcases h with rfl | rfl | rfl | rfl | rfl | rfl | rfl | rfl | rfl | rfl | rfl | rfl | rfl
 ·exact ⟨0,key 0 (by kernel_rfl)⟩
 ·exact ⟨1,key 1 (by kernel_rfl)⟩
 ·exact ⟨2,key 2 (by kernel_rfl)⟩
 ·exact ⟨2,key 2 (by kernel_rfl)⟩
 ·exact ⟨3,key 3 (by kernel_rfl)⟩
 ·exact ⟨3,key 3 (by kernel_rfl)⟩
 ·exact ⟨3,key 3 (by kernel_rfl)⟩
 ·exact ⟨3,key 3 (by kernel_rfl)⟩
 ·exact ⟨4,key 4 (by kernel_rfl)⟩
 ·exact ⟨4,key 4 (by kernel_rfl)⟩
 ·exact ⟨4,key 4 (by kernel_rfl)⟩
 ·exact ⟨4,key 4 (by kernel_rfl)⟩
 ·exact ⟨4,key 4 (by kernel_rfl)⟩
theorem a70 (hT:T F1t=some Z1t) (h:vo (den T A) F1v):vo (den T A) F1t:=by
 intro n hn;obtain ⟨v,e⟩:=h n hn;refine ⟨v,br hT rfl ?_⟩;simp -implicitDefEqProofs [Z1t,Z1t_B,ap,e]
theorem a5c (hT:T F2d=some Z2d) (hi:rt (den T A)):∀(g:Nat) (first caps:List D) (f:D→Int) (cs:List D) (cp:Option Nat) (v:Int),cs.length≤12→CmpOk (den T A) g first caps f iq cs →
 ∃ds:List D,ds.Perm cs∧Asc f ds∧den T A F2d [.sl 0 [] 0 cs.length cp,(.d (.int .i64 0)),(.d (.int .i64 cs.length)),(.d (.int .i64 v)),.d (.fn g first caps)] [.sl false iq cs]=some (.tup [],[.sl false iq ds],[]):=by
 intro g first caps f cs cp v hl ok;obtain ⟨ds,h1,h2,e⟩:=hi g first caps f cs cp hl ok;refine ⟨ds,h1,h2,m9 hT rfl ?_⟩;have w1:IntKind.i64.wrap (cs.length:Int)=cs.length:=w64 (by omega)
 have h12:(cs.length:Int)≤12:=by omega
 have lp:=pk (O:=den T A) (np:=1) (c:=Z2d_L0) (s:=⟨[(0,.sl 0 [] 0 cs.length cp),(1,(.d (.int .i64 0))),(2,(.d (.int .i64 cs.length))),(3,(.d (.int .i64 v))),(4,.d (.fn g first caps)),(10,(.d (.bool true))),(11,(.d (.bool true)))],[.sl false iq cs]⟩) (s1:=⟨[],[.sl false iq ds]⟩) (by
  simp at e;simp -implicitDefEqProofs [Z2d_L0,ap,w1,h12,e,List.idxOf,List.findIdx,List.findIdx.go])
 simp -implicitDefEqProofs [Z2d,Z2d_B,lp]
def xx (O:af):Prop:=∀(g:Nat) (first caps:List D) (f:D→Int) (cs:List D) (cp:Option Nat),cs.length≤12→CmpOk O g first caps f iq cs →
 ∃ds:List D,ds.Perm cs∧Asc f ds∧O F21 [.sl 0 [] 0 cs.length cp,.d (.fn g first caps)] [.sl false iq cs]=some (.tup [],[.sl false iq ds],[])
theorem Nh (hT:T F21=some Z21) (hTp:T F2d=some Z2d) (hi:rt (den T A)) (hl:vo (den T A) F1t):xx (den T A):=by
 intro g first caps f cs cp hl12 ok;obtain ⟨v,ev⟩:=hl cs.length hl12;obtain ⟨ds,h1,h2,e⟩:=a5c hTp hi g first caps f cs cp v hl12 ok;refine ⟨ds,h1,h2,m9 hT rfl ?_⟩
 have w1:IntKind.u64.wrap (cs.length:Int)=cs.length:=by
  simp [IntKind.wrap,IntKind.bits,IntKind.signed]; omega
 simp -implicitDefEqProofs [Z21,Z21_B,w1,ev,e,List.idxOf,List.findIdx,List.findIdx.go]
end Pe

namespace Pe
open Go Gq
variable {T:Nat→Option Fn} {A:af}
theorem Pz {O:af} (hd:qd O) {p:Int} [IsP p] {b:Fp p} (hb:2≤b.len) (hbl:b.len<2000):∀(n:Nat) (a:Fp p) (i:Nat),a.len≤n→a≠0→n<2000→i+n<100000→∃(k:Nat) (r:Fp p),a=r*pw b k∧¬ Dv b r ∧
 dn O 0 (.loop Z15_L0) ⟨[(0,(.d (.int .i64 p))),(1,(.d (.sl .leaf (am .i64 (row a))))),(2,(.d (.sl .leaf (am .i64 (row b))))),(8,(.d (.int .i64 i)))],[]⟩=some (.ret,⟨[(6,(.d (.sl .leaf (am .i64 (row r))))),(7,(.d (.int .i64 ((i+k:Nat)))))],[]⟩)
 | 0,a,i,hn,ha,_,_=>absurd (Pol.len_zero_iff.1 (by omega)) ha
 | n+1,a,i,hn,ha,hn2,hi=>by
  have hb0:b≠0:=fun h=>by rw [h,Pol.len_zero] at hb; omega
  have e:=hd p a b hb0 (by omega) (by omega)
  by_cases h0:a%b=0
  ·have hm:=Pol.div_mod a b
   rw [h0,Gq.add_zero] at hm;have hq:a/b≠0:=fun h=>ha (by rw [hm,h,Gq.zero_mul])
   have hl:=Pol.len_mul hq hb0;rw [←hm] at hl;obtain ⟨k,r,e1,e2,e3⟩:=Pz hd hb hbl n (a/b) (i+1) (by omega) hq (by omega) (by omega)
   refine ⟨k+1,r,?_,e2,?_⟩
   ·rw [pw,←Gq.mul_assoc,←e1]; exact hm
   ·have w1:IntKind.i64.wrap ((i:Int)+1)=((i+1:Nat):Int):=(w64 (x:=(i:Int)+1) (by omega)).trans (by omega)
    rw [show i+(k+1)=i+1+k by omega]
    refine bm ?_ e3;simp -implicitDefEqProofs [Z15_L0,ap,e,h0,du,w1]
  ·refine ⟨0,a,(Gq.mul_one a).symm,fun hdv=>h0 ((tg hb0).1 hdv),pk ?_⟩
   have hp:=Pol.len_pos h0;simp -implicitDefEqProofs [Z15_L0,ap,e,hp]
def yh (O:af):Prop:=∀(p:Int) [IsP p] (a b:Fp p),a≠0→2≤b.len→a.len<1000→b.len<1000→∃(k:Nat) (r:Fp p),a=r*pw b k∧¬ Dv b r ∧
 ask O F15 [(D.int .i64 p),(D.sl .leaf (am .i64 (row a))),(D.sl .leaf (am .i64 (row b)))]=some (.tup [(D.sl .leaf (am .i64 (row r))),(D.int .i64 k)])
theorem Yb (hT:T F15=some Z15) (hd:qd (den T A)):yh (den T A):=by
 intro p i a b ha hb hal hbl;obtain ⟨k,r,h1,h2,e⟩:=Pz hd hb (by omega) a.len a 0 (b9 _) ha (by omega) (by omega)
 have e0:((0:Nat):Int)=0:=rfl;rw [e0,b7] at e;refine ⟨k,r,h1,h2,br hT rfl ?_⟩;simp -implicitDefEqProofs [Z15,Z15_B,e]
section
variable {p:Int} [IsP p]
theorem og {n:Nat} (h:n≤12):p^n≤13841287201:=by
 have hp:=IsP.pos (p:=p);have h1:=kr (p:=p) (by omega) h
 have h2:p^12≤13841287201:=by
  rcases (inferInstance:IsP p).h with rfl | rfl | rfl | rfl <;> decide
 omega
theorem lq (n:Nat):0<p^n:=Int.pow_pos (IsP.pos)
theorem Gw (n:Nat):2*p^n≤p^(n+1):=by
 have hp:=IsP.ge (p:=p);rw [fj,gq];exact c8 hp (Int.le_of_lt (lq n))
theorem J4 {most:Int}:∀(n:Nat) (out:Int),0<out→out*p^n≤most→Ah p most n out=out*p^n
 | 0,out,h0,h=>by rw [Int.pow_zero,mn]; rfl
 | n+1,out,h0,h=>by
  have hp:=IsP.pos (p:=p);have e:out*p^(n+1)=out*p*p^n:=by rw [fj,sf,gq p]
  rw [e] at h ⊢;have h1:1≤p^(n+1):=lq (n+1);have h2:out*1≤out*p^(n+1):=c8 h1 (by omega)
  rw [e] at h2;rw [Ah,if_neg (by omega)]
  exact J4 n (out*p) (Int.mul_pos h0 hp) h
theorem xz {n:Nat} (hn:n≤12) {k:Int} (h1:p^n≤k) (h2:k<2*p^n):Monic (kn p k)∧(kn p k).len=n+1:=by
 have hp:=IsP.ge (p:=p);have hb:=og (p:=p) hn;have hpos:=lq (p:=p) n;have ok:yc k:=⟨by omega,by omega⟩
 have hs:=Gw (p:=p) n;have hlt:=C0 (p:=p) ok (d:=n+1) (by omega)
 have hc:(kn p k).c n=1:=by
  rw [Iw ok]
  have:k/p^n=1:=by
   have e:k=(k-p^n)+p^n:=by omega
   rw [e,Int.add_ediv_of_dvd_right (Int.dvd_refl _),Int.ediv_self (by omega),nr (by omega) (by omega)]; rfl
  rw [this]; rfl
 have hl:=Pol.len_eq hlt (by rw [hc]; exact Fd.one_ne)
 refine ⟨⟨?_,fun h0=>by rw [h0,Pol.len_zero] at hl; omega⟩,hl⟩
 unfold Pol.ld;rw [hl]; exact hc
theorem p4 {n:Nat} (_hn:n≤12) {q:Fp p} (hq:Monic q) (hl:q.len=n+1):p^n≤dx q∧dx q<2*p^n:=by
 have hp:=IsP.ge (p:=p);have hpos:=lq (p:=p) n;have h1:=yx q;have h2:=Xd (gp q) n;have h3:q.c n=1:=by have:=hq.1; unfold Pol.ld at this; rwa [hl] at this
 rw [ff,h3,wd] at h2
 have h4:dx q/p^n<p:=by
  apply i4 hpos;rw [hl,fj,gq] at h1;exact h1.2
 have h5:0≤dx q/p^n:=m6 h1.1 (by omega)
 have h6:dx q/p^n=1:=by
  have:dx q/p^n%p=dx q/p^n:=ia h5 h4;have h7:(1:Int)=dx q/p^n%p:=h2;omega
 have h8:=Int.mul_ediv_add_emod (dx q) (p^n);rw [h6,mn] at h8;have h9:=d8 (dx q) (show p^n≠0 by omega)
 have h10:=ck (dx q) hpos;omega
theorem Ck {n:Nat} (hn:n≤12) {q:Fp p} (hq:Monic q) (hl:q.len=n+1):kn p (dx q)=q:=D9 (by
 have:=p4 hn hq hl;have:=og (p:=p) hn;omega)
theorem V8 {O:af} (hnu:tk O) (hr:zw O) {a:Fp p} (hal:a.len<1000) {n:Nat} (hn:n≤12):∀(m:Nat) (k:Int),p^n≤k→k<2*p^n→(2*p^n-k).toNat≤m→(∃k0,k≤k0∧k0<2*p^n∧Dv (kn p k0) a)→∃b:Fp p,Monic b∧b.len=n+1∧Dv b a ∧
 dn O 0 (.loop Z17_L0) ⟨[(0,(.d (.int .i64 p))),(1,(.d (.sl .leaf (am .i64 (row a))))),(7,(.d (.int .i64 (p^n)))),(8,(.d (.int .i64 k)))],[]⟩=some (.ret,⟨[(6,(.d (.sl .leaf (am .i64 (row b)))))],[]⟩)
 | 0,k,h1,h2,hm,hx=>by omega
 | m+1,k,h1,h2,hm,hx=>by
  have hb:=og (p:=p) hn;have hpos:=lq (p:=p) n;obtain ⟨m1,m2⟩:=xz hn h1 h2;have e1:=hnu p k (by omega) (by omega)
  have e2:=hr p a (kn p k) m1.2 (by omega) (by omega)
  have w1:IntKind.i64.wrap (2*p^n)=2*p^n:=w64 (by omega)
  have w2:IntKind.i64.wrap (k+1)=k+1:=w64 (by omega)
  by_cases hd:Dv (kn p k) a
  ·refine ⟨kn p k,m1,m2,hd,pk ?_⟩
   have h0:=(tg m1.2).1 hd;rw [h0,du] at e2;simp -implicitDefEqProofs [Z17_L0,ap,e1,e2,w1,h2]
  ·obtain ⟨k0,g1,g2,g3⟩:=hx
   have hne:k≠k0:=fun h=>hd (h▸g3)
   obtain ⟨b,b1,b2,b3,e⟩:=V8 hnu hr hal hn m (k+1) (by omega) (by omega) (by omega) ⟨k0,by omega,g2,g3⟩
   refine ⟨b,b1,b2,b3,bm ?_ e⟩;have h0:a%kn p k≠0:=fun h=>hd ((tg m1.2).2 h)
   have h0':row (a%kn p k)≠[]:=fun h=>h0 (Ye.1 h)
   have h0'':(a%kn p k).len≠0:=fun h=>h0 (Pol.len_zero_iff.1 h)
   simp -implicitDefEqProofs [Z17_L0,ap,e1,e2,w1,w2,h2,h0'']
end
def n6 (O:af):Prop:=∀(p:Int) [IsP p] (a:Fp p) (n:Nat),1≤n→n≤12→a.len<1000→a≠0→(∃q,Monic q∧q.len=n+1∧Dv q a)→∃b:Fp p,Monic b∧b.len=n+1∧Dv b a ∧
 ask O F17 [(D.int .i64 p),(D.sl .leaf (am .i64 (row a))),(D.int .i64 n)]=some (D.sl .leaf (am .i64 (row b)))
theorem Hq (hT:T F17=some Z17) (hnu:tk (den T A)) (hr:zw (den T A)) (hno:Mf (den T A)) (hdg:lm (den T A)) (hld:uw (den T A)) (hinv:o8 (den T A)) (hs:wm (den T A)):n6 (den T A):=by
 intro p i a n hn1 hn hal ha ⟨q,q1,q2,q3⟩;have hp:=IsP.ge (p:=p);have hp7:=IsP.le (p:=p);have e1:=hdg (row a) (by rw [bn]; omega)
 rw [bn] at e1
 by_cases hd:a.len=n+1
 ·have hr:=k8 a.ld
  have hin:=xq p (rep a.ld);have e2:=hld (row a) (by rw [bn]; omega)
  rw [Ca] at e2;have e3:=hinv p (rep a.ld) (by omega) (by omega) hr.1 hr.2
  have e4:=hs p (inv p (rep a.ld)) a (by omega) (by omega) (by omega)
  rw [ul _ (Pol.ld_ne ha)] at e4;have hd2:(a.len:Int)-1=n:=by omega
  refine ⟨mon a,o6 ha,by rw [t5 ha,hd],(xk ha).2 (.refl a),br hT rfl ?_⟩
  simp -implicitDefEqProofs [Z17,Z17_B,ap,e1,e2,e3,e4,hd2,mon]
 ·have hd2:¬ (a.len:Int)-1=n:=by omega
  have hb:=og (p:=p) hn;have hpos:=lq (p:=p) n;have e2:=hno p n 1099511627776 (by omega) (by omega)
  rw [J4 n 1 (by omega) (by omega),Int.one_mul] at e2
  have hq:=p4 hn q1 q2;obtain ⟨b,b1,b2,b3,e⟩:=V8 hnu hr hal hn (2*p^n-p^n).toNat (p^n) (vg _) (by omega) (b9 _) ⟨dx q,hq.1,hq.2,by rw [Ck hn q1 q2]; exact q3⟩
  refine ⟨b,b1,b2,b3,br hT rfl ?_⟩;simp -implicitDefEqProofs [Z17,Z17_B,ap,e1,e2,hd2,e]
end Pe

namespace Pe
open Go Gq
variable {T:Nat→Option Fn} {A:af}
section
variable {p:Int} [IsP p]
theorem a1d:row (Pol.X:Fp p)=[0,1]:=by
 unfold row;rw [Pol.len_X];show [rep ((Pol.X:Fp p).c 0),rep ((Pol.X:Fp p).c 1)]=[0,1];have e0:(Pol.X:Fp p).c 0=0:=rfl;have e1:(Pol.X:Fp p).c 1=1:=rfl;rw [e0,e1,n5,wd]
theorem Irr.assoc {q b:Fp p} (hq:Irr q) (hb:Irr b) (h:Dv q b):Dv b q:=by
 obtain ⟨c,hc⟩:=h;have hc0:c≠0:=fun h0=>hb.ne (by rw [hc,h0,Gq.mul_zero])
 have l:=Pol.len_mul hq.ne hc0;rw [←hc] at l;have h1:=hq.len;rcases hb.dv ⟨c,hc⟩ with h2 | h2
 ·omega
 ·obtain ⟨k,hk,rfl⟩:=kb (show c.len=1 by omega)
  rw [hc,Gq.mul_comm];exact (Dv.Cmul hk).2 (.refl q)
structure FInv (a0:Fp p) (n:Nat) (a:Fp p) (out:jx p):Prop where
 ne:a≠0
 eq:a0=a*je out
 ok:FacOk out
 nd:∀x∈out,¬ Dv x.1 a
 ns:wx n a
 ln:out.length+a.len≤13
structure JInv (a0:Fp p) (n:Nat) (a:Fp p) (out:jx p) (all:Fp p):Prop where
 f:FInv a0 n a out
 ne:all≠0
 ln:all.len≤13
 one:∀q,Irr q→Dv q all→q.len=n+1∧Dv q a
 two:∀q,Irr q→q.len=n+1→Dv q a→Dv q all
end
section
variable {p:Int}
theorem tz (L:jx p) (x:Fp p×Nat):je (L++[x])=je L*pw x.1 x.2:=by
 induction L with
 | nil=>show pw x.1 x.2*1=1*pw x.1 x.2; rw [Gq.mul_one,Gq.one_mul]
 | cons y L ih=>rw [dt,qp,qp,ih,Gq.mul_assoc]
end
section
variable {p:Int} [IsP p]
theorem FacOk.snoc {L:jx p} (h:FacOk L) {q:Fp p} {k:Nat} (hi:Irr q) (hm:Monic q) (hk:1≤k) (hd:∀x∈L,x.1≠q):FacOk (L++[(q,k)]):=by
 refine ⟨fun x hx=>?_,?_⟩
 ·rcases b6.1 hx with hx | hx
  ·exact h.irr x hx
  ·simp at hx; subst hx; exact ⟨hi,hm,hk⟩
 ·rw [fq]
  refine ⟨h.dis,dy _ _,fun x hx y hy=>?_⟩
  simp at hy; subst hy; exact hd x hx
theorem JInv.irr {a0 a:Fp p} {n:Nat} {out:jx p} {all b:Fp p} (h:JInv a0 n a out all) (hn:1≤n) (hb:b.len=n+1) (hd:Dv b all):Irr b:=by
 have hb0:b≠0:=fun h0=>by rw [h0,Pol.len_zero] at hb; omega
 refine Irr.of_dv (by omega) fun u hu=>?_
 have hul:=hu.len hb0
 have hu0:u≠0:=fun h0=>by
  obtain ⟨c,hc⟩:=hu;exact hb0 (by rw [hc,h0,Gq.zero_mul])
 have hup:=Pol.len_pos hu0
 by_cases h1:u.len=1
 ·exact .inl h1
 ·right
  obtain ⟨r,r1,_,r2⟩:=zm u.len u (b9 _) (by omega)
  have h2:=(h.one r r1 ((r2.trans hu).trans hd)).1;have h3:=r2.len hu0;omega
theorem JInv.step {a0 a:Fp p} {n:Nat} {out:jx p} {all b:Fp p} (h:JInv a0 n a out all) (hn:1≤n) (hm:Monic b) (hb:b.len=n+1) (hd:Dv b all)
 {k k':Nat} {r r':Fp p} (h1:a=r*pw b k) (h2:¬ Dv b r) (h3:all=r'*pw b k') (h4:¬ Dv b r'):JInv a0 n r (out++[(b,k)]) r'∧r'.len<all.len∧1≤k:=by
 have hi:=h.irr hn hb hd;have hda:=(h.one b hi hd).2
 have hk:1≤k:=by
  cases k with
  | zero=>exact absurd (by rw [h1,pw,Gq.mul_one] at hda; exact hda) h2
  | succ k=>omega
 have hk':1≤k':=by
  cases k' with
  | zero=>exact absurd (by rw [h3,pw,Gq.mul_one] at hd; exact hd) h4
  | succ k=>omega
 have hr0:r≠0:=fun h0=>h.f.ne (by rw [h1,h0,Gq.zero_mul])
 have hr0':r'≠0:=fun h0=>h.ne (by rw [h3,h0,Gq.zero_mul])
 have shrink:∀(a r:Fp p) (k:Nat),r≠0→1≤k→a=r*pw b k→r.len<a.len:=by
  intro a r k hr hk e;obtain ⟨j,rfl⟩:∃j,k=j+1:=⟨k-1,by omega⟩
  have hj:=Cl hi.ne j;have l1:=Pol.len_mul hj hi.ne;have l2:=Pol.len_mul hr (Pol.mul_ne hj hi.ne);have l3:=Pol.len_pos hj;rw [e,pw]; omega
 have s1:=shrink a r k hr0 hk h1;have s2:=shrink all r' k' hr0' hk' h3;have dr:∀q,Dv q r→Dv q a:=fun q hq=>by rw [h1]; exact hq.mul_right _
 have pd:∀q,Irr q→∀m,Dv q (pw b m)→Dv b q:=fun q hq m hq2=>Irr.assoc hq hi (Irr.pw_dv hq m hq2)
 refine ⟨⟨⟨hr0,?_,h.f.ok.snoc hi hm hk fun x hx e=>h.f.nd x hx (e▸hda),?_,Pf h.f.ns ⟨pw b k,h1⟩,?_⟩,hr0',by have:=h.ln; omega,?_,?_⟩,s2,hk⟩
 ·rw [h.f.eq,tz]
  conv=>lhs; rw [h1]
  exact bv [r,pw b k,je out] rfl
 ·intro x hx
  rcases b6.1 hx with hx | hx
  ·exact fun hq=>h.f.nd x hx (dr _ hq)
  ·simp at hx; subst hx; exact h2
 ·have:=h.f.ln
  simp; omega
 ·intro q hq hqr
  have hqa:Dv q all:=by rw [h3]; exact hqr.mul_right _
  obtain ⟨g1,g2⟩:=h.one q hq hqa;refine ⟨g1,?_⟩;rw [h1] at g2;rcases hq.prime g2 with g | g
  ·exact g
  ·exact absurd ((pd q hq k g).trans hqr) h4
 ·intro q hq hql hqr
  have:=h.two q hq hql (dr q hqr);rw [h3] at this;rcases hq.prime this with g | g
  ·exact g
  ·exact absurd ((pd q hq k' g).trans hqr) h2
theorem JInv.done {a0 a:Fp p} {n:Nat} {out:jx p} {all:Fp p} (h:JInv a0 n a out all) (hl:all.len<2):FInv a0 (n+1) a out:=by
 refine ⟨h.f.ne,h.f.eq,h.f.ok,h.f.nd,fun q hq hd=>?_,h.f.ln⟩
 have h1:=h.f.ns q hq hd;apply ef;intro hx;have h2:=(h.two q hq (by omega) hd).len h.ne
 have:=hq.len;omega
theorem JInv.init {a0 a:Fp p} {n:Nat} {out:jx p} (h:FInv a0 n a out) (hn:1≤n) (hn2:n≤12) {fr:Fp p} (hf:fr%a=pw Pol.X (p.toNat^n)%a):JInv a0 n a out (Pol.gcd (fr-Pol.X) a):=by
 have h0:fr-Pol.X≠0∨a≠0:=.inr h.ne;have hm:=Pol.gcd_monic h0;have hd2:=Pol.gcd_dv_right h0
 have key:∀q,Dv q a→(Dv q (fr-Pol.X)↔Dv q (frT p n)):=by
  intro q hq
  have e:Dv q (fr-pw Pol.X (p.toNat^n)):=by
   refine hq.trans ?_;rw [ki,Quo.mk_sub];rw [(Pol.mod_eq_iff h.ne).1 hf,sub_self]
  unfold frT;constructor
  ·intro g
   have:pw Pol.X (p.toNat^n)-Pol.X=(fr-Pol.X)-(fr-pw Pol.X (p.toNat^n)):=bv [pw Pol.X (p.toNat^n),Pol.X,fr] rfl;rw [this]; exact g.sub e
  ·intro g
   have:fr-Pol.X=(pw Pol.X (p.toNat^n)-Pol.X)+(fr-pw Pol.X (p.toNat^n)):=bv [pw Pol.X (p.toNat^n),Pol.X,fr] rfl;rw [this]; exact g.add e
 have hl:=hd2.len h.ne;have hl2:=h.ln;refine ⟨h,hm.2,by omega,fun q hq hd=>?_,fun q hq hql hqa=>?_⟩
 ·have g1:=hd.trans hd2
  have g2:=(key q g1).1 (hd.trans (Pol.gcd_dv_left h0));have g3:=h.ns q hq g1;have g4:=g1.len h.ne;have g5:=D4 hq (d:=q.len-1) (k:=n) (by have:=hq.len; omega) (by have:=og (p:=p) (n:=q.len-1) (by omega); omega) hn g2
  exact ⟨by omega,g1⟩
 ·have g2:=R7 hq hql (by have:=og (p:=p) hn2; omega)
  exact Pol.dv_gcd h0 ((key q hqa).2 g2) hqa
noncomputable abbrev kq (x:Fp p×Nat):D:=.st [.leaf,.leaf] [(D.sl .leaf (am .i64 (row x.1))),(D.int .i64 x.2)]
theorem W8 {O:af} (hw:n6 O) (hst:yh O) (hdg:lm O) {a0:Fp p} {n:Nat} (hn:1≤n) (hn2:n≤12):∀(m:Nat) (a:Fp p) (out:jx p) (all:Fp p) (cp:Option Nat),all.len≤m→JInv a0 n a out all→∃(a':Fp p) (out':jx p) (all':List Int) (cp':Option Nat),FInv a0 (n+1) a' out'∧a'.len≤a.len ∧
 dn O 0 (.loop Zu_L1) ⟨[(0,(.d (.int .i64 p))),(1,(.d (.sl .leaf (am .i64 (row a))))),(5,.sl 0 [] 0 out.length cp),(6,(.d (.int .i64 n))),(8,(.d (.sl .leaf (am .i64 (row all)))))],[.sl false iq (out.map kq),.hole,.hole,.hole,.hole]⟩ =
  some (.exit 4,⟨[(0,(.d (.int .i64 p))),(1,(.d (.sl .leaf (am .i64 (row a'))))),(5,.sl 0 [] 0 out'.length cp'),(6,(.d (.int .i64 n))),(8,(.d (.sl .leaf (am .i64 all')))),(52,(.d (.bool false)))],[.sl false iq (out'.map kq),.hole,.hole,.hole,.hole]⟩)
 | m,a,out,all,cp,hm,h=>by
  have hln:=h.ln;have hp:=Pol.len_pos h.ne;have e1:=hdg (row all) (by rw [bn]; omega)
  rw [bn] at e1
  by_cases hl:all.len<2
  ·refine ⟨a,out,row all,cp,h.done hl,b9 _,bo ?_⟩
   have h1:¬ (1:Int)<(all.len:Int):=by omega
   simp -implicitDefEqProofs [Zu_L1,ap,e1,h1]
  ·have hlo:=h.f.ln
   obtain ⟨q,q1,q2,q3⟩:=zm all.len all (b9 _) (by omega)
   obtain ⟨b,b1,b2,b3,e2⟩:=hw p all n hn hn2 (by omega) h.ne ⟨q,q2,(h.one q q1 q3).1,q3⟩
   obtain ⟨k,r,g1,g2,e3⟩:=hst p a b h.f.ne (by omega) (by omega) (by omega)
   obtain ⟨k',r',g3,g4,e4⟩:=hst p all b h.ne (by omega) (by omega) (by omega)
   obtain ⟨hJ,hlt,hk⟩:=h.step hn b1 b2 b3 g1 g2 g3 g4;cases m with
   | zero=>omega
   | succ m=>
    obtain ⟨a',out',all',cp',i1,i2,e⟩:=W8 hw hst hdg hn hn2 m r (out++[(b,k)]) r' none (by omega) hJ
    have hra:r.len≤a.len:=(show Dv r a from ⟨_,g1⟩).len h.f.ne;refine ⟨a',out',all',cp',i1,by omega,bm ?_ e⟩
    have h1:(1:Int)<(all.len:Int):=by omega
    have h8:(out.length+1)*32≤1099511627776:=by omega
    have ht:(out.map kq).take out.length=out.map kq:=av (by simp)
    have hL:(out.map kq).length=out.length:=by simp
    have o1:(out++[(b,k)]).map kq=out.map kq++[kq (b,k)]:=by simp
    have o2:(out++[(b,k)]).length=out.length+1:=by simp
    rw [o1,o2];generalize out.map kq=LD at *;simp -implicitDefEqProofs [Zu_L1,ap,e1,e2,e3,e4,h1,h8,ht,hL,List.replicate]
theorem Tu {O:af} (hpw:tu O) {a:Fp p} (ha:a≠0) (hal:a.len≤13) {n:Nat} (hn2:n≤1000) {st:V} {hp:Heap} (hst:st.refs=[0]) (hhp:∃b,hp=[b,.hole,.hole,.hole,.hole]):∀(m i:Nat) (fr:Fp p),i+m=n→fr.len≤13→∃fr':Fp p,fr'.len≤13∧fr'%a=pw fr (p.toNat^m)%a ∧
 dn O 0 (.loop Zu_L0) ⟨[(0,(.d (.int .i64 p))),(1,(.d (.sl .leaf (am .i64 (row a))))),(5,st),(6,(.d (.int .i64 n))),(7,(.d (.sl .leaf (am .i64 (row fr))))),(34,(.d (.int .i64 n))),(35,(.d (.int .i64 i)))],hp⟩ =
  some (.exit 2,⟨[(0,(.d (.int .i64 p))),(1,(.d (.sl .leaf (am .i64 (row a))))),(5,st),(6,(.d (.int .i64 n))),(7,(.d (.sl .leaf (am .i64 (row fr'))))),(34,(.d (.int .i64 n))),(35,(.d (.int .i64 n))),(36,(.d (.bool false)))],hp⟩)
 | 0,i,fr,hi,hf=>by
  obtain ⟨b,rfl⟩:=hhp;obtain rfl:i=n:=by omega
  refine ⟨fr,hf,by rw [nk,z9],bo ?_⟩
  simp -implicitDefEqProofs [Zu_L0,ap,hst]
 | m+1,i,fr,hi,hf=>by
  have hP:=IsP.pos (p:=p);have hP7:=IsP.le (p:=p);have e:=hpw p fr p a ha (by omega) (by omega) (by omega) (by omega)
  have hl:=Pol.len_mod (pw fr p.toNat) ha;obtain ⟨fr',g1,g2,g3⟩:=Tu (O:=O) hpw ha hal hn2 hst hhp m (i+1) (pw fr p.toNat%a) (by omega) (by omega)
  obtain ⟨b,rfl⟩:=hhp;have h1:i<n:=by omega
  have w1:IntKind.i64.wrap ((i:Int)+1)=((i+1:Nat):Int):=(w64 (x:=(i:Int)+1) (by omega)).trans (by omega)
  refine ⟨fr',g1,?_,bm ?_ g3⟩
  ·rw [g2,Pol.pow_mod _ ha,x9,lc,Nat.mul_comm]
  ·simp -implicitDefEqProofs [Zu_L0,ap,e,h1,w1,hst]
structure FEnd (a0:Fp p) (out:jx p):Prop where
 ok:FacOk out
 eq:∃c:Zp p,c≠0∧a0=Pol.C c*je out
 ln:out.length≤12
theorem U2 {O:af} (hw:n6 O) (hst:yh O) (hdg:lm O) (hpw:tu O) (hlet:z5 O) (hc:o7 O) (hg:Q6 O) (hld:uw O) (hinv:o8 O) (hs:wm O) {a0:Fp p}:∀(m n:Nat) (a:Fp p) (out:jx p) (cp:Option Nat),1≤n→n+m=15→FInv a0 n a out→∃(out':jx p) (cp':Option Nat) (e:Env),FEnd a0 out'∧((∃x y,e=[(0,(.d (.int .i64 p))),(1,(.d (.sl .leaf (am .i64 x)))),(5,.sl 0 [] 0 out'.length cp'),(6,(.d (.int .i64 y))),(14,(.d (.bool false)))])∨e=[(5,.sl 0 [] 0 out'.length cp')]) ∧
 dn O 0 (.loop Zu_L2) ⟨[(0,(.d (.int .i64 p))),(1,(.d (.sl .leaf (am .i64 (row a))))),(5,.sl 0 [] 0 out.length cp),(6,(.d (.int .i64 n)))],[.sl false iq (out.map kq),.hole,.hole,.hole,.hole]⟩ =
  some (.exit 0,⟨e,[.sl false iq (out'.map kq),.hole,.hole,.hole,.hole]⟩)
 | m,n,a,out,cp,hn,hm,h=>by
  have hp:=IsP.ge (p:=p);have hp7:=IsP.le (p:=p);have hln:=h.ln;have ha:=Pol.len_pos h.ne;have e1:=hdg (row a) (by rw [bn]; omega)
  rw [bn] at e1
  by_cases hl:a.len=1
  ·have h1:¬ (1:Int)<(a.len:Int):=by omega
   obtain ⟨c,hc0,rfl⟩:=kb hl;refine ⟨out,cp,_,⟨h.ok,⟨c,hc0,h.eq⟩,by omega⟩,.inl ⟨row (Pol.C c),n,rfl⟩,bo ?_⟩
   simp -implicitDefEqProofs [Zu_L2,ap,e1,h1]
  ·have h1:(1:Int)<(a.len:Int):=by omega
   have w1:IntKind.i64.wrap (2*(n:Int))=2*(n:Int):=w64 (by omega)
   have h8:(out.length+1)*32≤1099511627776:=by omega
   have ht:(out.map kq).take out.length=out.map kq:=av (by simp)
   have hL:(out.map kq).length=out.length:=by simp
   by_cases h2:(a.len:Int)-1<2*(n:Int)
   ·have hi:=uk h.ns (by omega) (by omega)
    have hr:=k8 a.ld;have hin:=xq p (rep a.ld);have e2:=hld (row a) (by rw [bn]; omega)
    rw [Ca] at e2;have e3:=hinv p (rep a.ld) (by omega) (by omega) hr.1 hr.2
    have e4:=hs p (inv p (rep a.ld)) a (by omega) (by omega) (by omega)
    rw [ul _ (Pol.ld_ne h.ne)] at e4;have e4':ask O F14 [(D.int .i64 p),(D.sl .leaf (am .i64 (row a))),(D.int .i64 (inv p (rep a.ld)))]=some (D.sl .leaf (am .i64 (row (mon a)))):=e4;have o1:(out++[(mon a,1)]).map kq=out.map kq++[kq (mon a,1)]:=by simp
    have o2:(out++[(mon a,1)]).length=out.length+1:=by simp
    refine ⟨out++[(mon a,1)],none,_,⟨h.ok.snoc hi.mon (o6 h.ne) (b9 1) fun x hx e=>h.nd x hx (by rw [e,xk h.ne]; exact .refl a),⟨a.ld,Pol.ld_ne h.ne,?_⟩,by rw [o2]; omega⟩,.inr rfl,bo ?_⟩
    ·rw [tz]
     show a0=Pol.C a.ld*(je out*pw (mon a) 1);rw [z9,h.eq]
     conv=>lhs; rw [W4 h.ne]
     exact bv [Pol.C a.ld,mon a,je out] rfl
    ·rw [o1,o2]
     generalize out.map kq=LD at *;simp -implicitDefEqProofs [Zu_L2,ap,e1,h1,h2,w1,e2,e3,e4',h8,ht,hL,List.replicate]
   ·cases m with
    | zero=>omega
    | succ m=>
     have hl2:(Pol.X:Fp p).len≤13:=by rw [Pol.len_X]; omega
     obtain ⟨fr,g1,g2,g3⟩:=Tu (O:=O) hpw h.ne (by omega) (n:=n) (by omega) (st:=.sl 0 [] 0 out.length cp) (hp:=[.sl false iq (out.map kq),.hole,.hole,.hole,.hole]) (by simp [V.refs]) ⟨_,rfl⟩ n 0 Pol.X (b7 _) hl2
     have hJ:=JInv.init h hn (by omega) g2
     have hlj:=hJ.ln;obtain ⟨a',out',all',cp',i1,i2,i3⟩:=W8 (O:=O) hw hst hdg hn (by omega) (Pol.gcd (fr-Pol.X) a).len a out _ cp (b9 _) hJ
     obtain ⟨out2,cp2,e,j1,j2,j3⟩:=U2 hw hst hdg hpw hlet hc hg hld hinv hs m (n+1) a' out' cp' (by omega) (by omega) i1
     have e2:ask O Fl []=some (D.sl .leaf (am .i64 (row (Pol.X:Fp p)))):=by rw [a1d]; exact hlet
     have e3:=hc p fr Pol.X (by omega) (by omega)
     have hsl:=Pol.len_sub_le (a:=fr) (b:=Pol.X) (n:=13) g1 hl2;have e4:=hg p (fr-Pol.X) a (.inr h.ne) (by omega) (by omega)
     have w2:IntKind.i64.wrap ((n:Int)+1)=((n+1:Nat):Int):=(w64 (x:=(n:Int)+1) (by omega)).trans (by omega)
     have e0:((0:Nat):Int)=0:=rfl;rw [e0] at g3;refine ⟨out2,cp2,e,j1,j2,bm ?_ j3⟩;generalize out.map kq=LD at *;simp -implicitDefEqProofs [Zu_L2,ap,e1,h1,h2,w1,w2,e2,e3,e4,g3,i3]
end
theorem Jh {α β:Type} (f:α→β) {m ds:List β} (h:m.Perm ds):∀l:List α,l.map f=m→∃l':List α,l'.Perm l∧l'.map f=ds:=by
 induction h with
 | nil=>intro l hl; exact ⟨[],by simp at hl; subst hl; exact .refl _,rfl⟩
 | cons x h ih=>
  intro l hl;cases l with
  | nil=>simp at hl
  | cons y l=>
   simp at hl;obtain ⟨l',p,e⟩:=ih l hl.2;exact ⟨y::l',p.cons y,by simp [e,hl.1]⟩
 | swap x y s=>
  intro l hl;cases l with
  | nil=>simp at hl
  | cons a l=>
   cases l with
   | nil=>simp at hl
   | cons b l=>
    simp at hl;exact ⟨b::a::l,List.Perm.swap a b l,by simp [hl]⟩
 | trans _ _ ih1 ih2=>
  intro l hl;obtain ⟨l',p,e⟩:=ih1 l hl;obtain ⟨l'',p2,e2⟩:=ih2 l' e;exact ⟨l'',p2.trans p,e2⟩
section
variable {p:Int} [IsP p]
theorem a38:∀(n:Nat) {l m:List Int},Can p l→Can p m→l.length=n→m.length=n→zu l m n=lj (vl p l) (vl p m):=by
 have hp:=IsP.pos (p:=p)
 -- the value of the first coefficients
 have key:∀(k:Nat) (l:List Int),Can p l→k≤l.length→vl p (l.take k)+(if k<l.length then p^k*cf l k else 0)=vl p (l.take (k+1))∧0≤vl p (l.take k)∧vl p (l.take k)<p^k:=by
  intro k l hl hk;have hin:=Pn (p:=p) (l:=l.take k) fun x hx=>hl x (List.mem_of_mem_take hx)
  rw [b8,Nat.min_eq_left hk] at hin;refine ⟨?_,hin⟩
  have app:∀(a b:List Int),vl p (a++b)=vl p a+p^a.length*vl p b:=by
   intro a
   induction a with
   | nil=>intro b; simp [vl]
   | cons x a ih=>
    intro b;rw [dt,vl,ih,vl,bc,fj,p9,gq (p^a.length) p,sf,Int.add_assoc]
  by_cases hlt:k<l.length
  ·rw [if_pos hlt,←xe hlt,app,b8,Nat.min_eq_left hk,dp hlt]
   simp [vl]
  ·rw [if_neg hlt,av (by omega),av (by omega),Int.add_zero]
 intro n l m hl hm hln hmn
 have main:∀k,k≤n→zu l m k=lj (vl p (l.take k)) (vl p (m.take k)):=by
  intro k
  induction k with
  | zero=>intro _; simp [zu,lj,vl]
  | succ k ih=>
   intro hk;obtain ⟨a1,a2,a3⟩:=key k l hl (by omega)
   obtain ⟨b1,b2,b3⟩:=key k m hm (by omega)
   rw [if_pos (by omega)] at a1 b1
   rw [←a1,←b1,zu,ih (by omega)]
   have hpk:=lq (p:=p) k;generalize vl p (l.take k)=u at *;generalize vl p (m.take k)=v at *;generalize cf l k=c at *;generalize cf m k=d at *
   have mono:∀x y:Int,x<y→p^k*x+p^k≤p^k*y:=fun x y h=>by
    have:=c8 (show x+1≤y by omega) (Int.le_of_lt hpk)
    rwa [p9,mn] at this
   rcases Int.lt_trichotomy c d with h | h | h
   ·have:=mono c d h
    have e:lj c d=-1:=if_pos h;rw [e,if_pos (by omega)]
    exact (if_pos (by omega)).symm
   ·subst h
    have e:lj c c=0:=by unfold lj; rw [if_neg (by omega),if_neg (by omega)]
    rw [e,if_neg (fun h=>h rfl)]
    unfold lj
    by_cases h1:u<v
    ·rw [if_pos h1,if_pos (by omega)]
    ·rw [if_neg h1]
     by_cases h2:v<u
     ·rw [if_pos h2,if_neg (by omega),if_pos (by omega)]
     ·rw [if_neg h2,if_neg (by omega),if_neg (by omega)]
   ·have:=mono d c h
    have e:lj c d=1:=by unfold lj; rw [if_neg (by omega),if_pos h]
    rw [e,if_pos (by omega)]
    unfold lj;rw [if_neg (by omega),if_pos (by omega)]
 have:=main n (b9 n)
 rwa [av (by omega),av (by omega)] at this
theorem X7 (a b:Fp p):a0k (row a) (row b)=lj (dx a) (dx b):=by
 unfold a0k;rw [bn,bn];rcases ij a.len b.len with h | h | h
 ·have:=qa h
  have e:lj (a.len:Int) b.len=-1:=if_pos (by omega)
  rw [e,if_pos (by omega)]
  exact (if_pos this).symm
 ·have e:lj (a.len:Int) b.len=0:=by unfold lj; rw [if_neg (by omega),if_neg (by omega)]
  rw [e,if_neg (fun h=>h rfl)]
  exact a38 a.len (gp a) (gp b) (bn a) (by rw [bn,h])
 ·have:=qa h
  have e:lj (a.len:Int) b.len=1:=by unfold lj; rw [if_neg (by omega),if_pos (by omega)]
  rw [e,if_pos (by omega)]
  unfold lj;rw [if_neg (by omega),if_pos this]
end
def a6y (p:Int):D→Int
 | .st _ (.sl _ cs::_)=>vl p (cs.map D.num)
 | _=>0
theorem y9 {p:Int} (x:Fp p×Nat):a6y p (kq x)=vl p (row x.1):=by
 show vl p ((am .i64 (row x.1)).map D.num)=_;unfold am;rw [kz];have:(D.num ∘ D.int .i64)=id:=rfl;rw [this,List.map_id]
theorem Ym {p:Int} [IsP p] (hT:T Fv=some Zv) (hc:ww (den T A)) {L:jx p} (hl:∀x∈L,x.1.len≤1000):CmpOk (den T A) Fv [] [] (a6y p) iq (L.map kq):=by
 refine ⟨fun x hx=>by simp at hx,fun x hx=>by simp at hx,fun x hx=>?_,fun x hx=>?_,fun x hx y hy=>?_⟩
 ·obtain ⟨a,_,rfl⟩:=ca.1 hx; rfl
 ·obtain ⟨a,_,rfl⟩:=ca.1 hx; rfl
 ·obtain ⟨a,ha,rfl⟩:=ca.1 hx
  obtain ⟨b,hb,rfl⟩:=ca.1 hy;have h1:=hl a ha;have h2:=hl b hb;have e:=hc (row a.1) (row b.1) (by rw [bn]; omega) (by rw [bn]; omega)
  rw [X7] at e;have n1:=y9 a;have n2:=y9 b;rw [n1,n2];refine br hT rfl ?_;simp -implicitDefEqProofs [Zv,Zv_B,e,dx]
def A2 (O:af):Prop:=∀(p:Int) [IsP p] (a:Fp p),a≠0→a.len≤13→∃L:jx p,IsFac a L∧L.length≤12 ∧
 ask O Fu [(D.int .i64 p),(D.sl .leaf (am .i64 (row a)))]=some (.sl iq (L.map kq))
theorem FacOk.perm {p:Int} [IsP p] {L L':jx p} (h:FacOk L) (hp:L'.Perm L):FacOk L':=
 ⟨fun x hx=>h.irr x (hp.subset hx),(hp.pairwise_iff (fun h e=>h e.symm)).2 h.dis⟩
theorem Oh {p:Int} {L L':jx p} (hp:L'.Perm L):je L'=je L:=Dk (hp.map _)
theorem T7 (hT:T Fu=some Zu) (hT1:T Fv=some Zv) (hw:n6 (den T A)) (hst:yh (den T A)) (hdg:lm (den T A)) (hpw:tu (den T A)) (hlet:z5 (den T A)) (hc:o7 (den T A)) (hg:Q6 (den T A)) (hld:uw (den T A)) (hinv:o8 (den T A)) (hs:wm (den T A)) (hcmp:ww (den T A)) (hsort:xx (den T A)):A2 (den T A):=by
 intro p i a ha hal;have h0:FInv a 1 a []:=⟨ha,(Gq.mul_one a).symm,⟨by simp,List.Pairwise.nil⟩,by simp,M3 a,by simpa using hal⟩
 obtain ⟨out,cp,e,j1,j2,j3⟩:=U2 hw hst hdg hpw hlet hc hg hld hinv hs 14 1 a [] (some 0) (b9 1) rfl h0;obtain ⟨c,hc0,hac⟩:=j1.eq;have hP:=Ao j1.ok
 have hlen:∀x∈out,x.1.len≤1000:=fun x hx=>by
  have h1:Dv x.1 a:=by
   obtain ⟨r,h2,_⟩:=wa j1.ok (show (x.1,x.2)∈out from hx);obtain ⟨k,hk⟩:∃k,x.2=k+1:=⟨x.2-1,by have:=(j1.ok.irr x hx).2.2; omega⟩
   rw [hac,h2,hk,pw];exact (((Dv.refl x.1).mul_left _).mul_right _).mul_left _
  have:=h1.len ha;omega
 obtain ⟨ds,s1,s2,s3⟩:=hsort _ _ _ _ (out.map kq) cp (by simpa using j1.ln) (Ym hT1 hcmp hlen)
 obtain ⟨L,p1,p2⟩:=Jh kq s1.symm out rfl;have ok:=j1.ok.perm p1;subst p2;have hLl:L.length=out.length:=p1.length_eq;refine ⟨L,⟨ok,?_,?_⟩,by rw [hLl]; exact j1.ln,br hT rfl ?_⟩
 ·have s4:L.Pairwise fun x y=>dx x.1≤dx y.1:=by
   have:=s2;unfold Asc at this;rw [nu] at this;exact this.imp fun h=>by rw [y9,y9] at h; exact h
  exact (s4.and ok.dis).imp fun {x y} h=>by
   have h1:=h.1;rcases Int.lt_or_eq_of_le h1 with h2 | h2
   ·exact h2
   ·exact absurd (Gf h2) h.2
 ·have:a.ld=c:=by
   rw [hac,Pol.ld_mul (Pol.C_ne hc0) hP.2,Pol.ld_C hc0,hP.1,Gq.mul_one]
  rw [this,Oh p1]; exact hac
 ·have e0:(([]:jx p).length:Nat)=0:=rfl
  have e00:((1:Nat):Int)=1:=rfl;rw [e0,e00,fk] at j3;have hds:(L.map kq).length=out.length:=by rw [ah,hLl]
  have hol:(out.map kq).length=out.length:=by simp
  have htk:(L.map kq).take out.length=L.map kq:=av (by omega)
  rw [hol] at s3;generalize L.map kq=LD at *;generalize out.map kq=OD at *;rcases j2 with ⟨x,y,rfl⟩ | rfl
  ·simp -implicitDefEqProofs [Zu,Zu_B,j3,s3,hds,htk,List.idxOf,List.findIdx,List.findIdx.go]
  ·simp -implicitDefEqProofs [Zu,Zu_B,j3,s3,hds,htk,List.idxOf,List.findIdx,List.findIdx.go]
end Pe


namespace Pe
open Go Gq
variable {T:Nat→Option Fn} {A:af}
open Classical in
noncomputable def fac {p:Int} [IsP p] (a:Fp p):jx p:=if h:∃L,IsFac a L then Classical.choose h else []
theorem Wv {p:Int} [IsP p] {a:Fp p} (ha:a≠0) {L:jx p} (h:IsFac a L):fac a=L:=by
 have hx:∃L,IsFac a L:=⟨L,h⟩;unfold fac;rw [dif_pos hx];exact IsFac.unique ha (ch hx) h
def Xg (O:af):Prop:=∀(p:Int) [IsP p] (a:Fp p),a≠0→a.len≤13→IsFac a (fac a)∧(fac a).length≤12 ∧
 ask O Fu [(D.int .i64 p),(D.sl .leaf (am .i64 (row a)))]=some (.sl iq ((fac a).map kq))
theorem a7h {O:af} (h:A2 O):Xg O:=fun p i a ha hl=>by
 obtain ⟨L,h1,h2,h3⟩:=h p a ha hl;rw [Wv ha h1];exact ⟨h1,h2,h3⟩
section
variable {p:Int} [IsP p]
theorem IsFac.len {m:Fp p} (hm:m≠0) {L:jx p} (h:IsFac m L) {x:Fp p×Nat} (hx:x∈L):2≤x.1.len∧x.1.len≤m.len∧x.2<m.len∧x.1≠0:=by
 obtain ⟨i1,i2,i3⟩:=h.ok.irr x hx;obtain ⟨_,_,_,h4,_⟩:=(Id hm h.ok h.eq x.1 x.2).1 hx;have h5:=h4.len hm
 have h6:∀n,n<(pw x.1 n).len:=by
  intro n
  induction n with
  | zero=>show 0<(1:Fp p).len; rw [Pol.len_one]; omega
  | succ n ih=>
   have l:=Pol.len_mul (Cl i1.ne n) i1.ne;have:=i1.len;rw [pw]; omega
 have h7:=h6 x.2
 have h8:x.1.len≤(pw x.1 x.2).len:=by
  obtain ⟨k,hk⟩:∃k,x.2=k+1:=⟨x.2-1,by omega⟩
  rw [hk,pw];exact (show Dv x.1 (pw x.1 k*x.1) from ⟨pw x.1 k,Gq.mul_comm _ _⟩).len (Pol.mul_ne (Cl i1.ne k) i1.ne)
 exact ⟨i1.len,by omega,by omega,i1.ne⟩
end
end Pe

namespace Pe
open Go Gq
variable {T:Nat→Option Fn} {A:af}
theorem a2a {p:Int} (h:isP p=true):IsP p:=⟨by unfold isP at h; simpa using h⟩
theorem yr {p:Int} [h:IsP p]:isP p=true:=by unfold isP; exact decide_eq_true h.h
theorem v7 {p:Int} [IsP p] {a:Fp p}:rk p (pad (row a))=true:=by
 unfold rk;rw [dq];intro x hx;obtain ⟨i,_,rfl⟩:=ca.1 hx;have:=(gp a).le IsP.pos i
 simpa using this.2
theorem v9 {p:Int} [IsP p] {l:List Int} (hb:iu l) (hl:l.length=64) (h:rk p l=true):∃a:Fp p,a.len≤64∧l=pad (row a):=by
 have hc:Can p l:=fun x hx=>⟨(hb x hx).1,by
  unfold rk at h;rw [dq] at h
  simpa using h x hx⟩
 refine ⟨f7 p l,ni (Pol.len_le (Xq l)) (by omega),?_⟩
 rw [←md hc]
 symm
 apply Nj hl;intro i hi;rw [md hc,ff,gn,Hz (hc.le IsP.pos i)]
inductive Arg1 (p:Int) (l:List Int):Prop
 | bad (h:V5 p [l]=1) (h2:isP p=true→rk p l=false)
 | good (ip:IsP p) (a:Fp p) (hl:a.len≤64) (e:l=pad (row a))
theorem a7e (p:Int) {l:List Int} (hb:iu l) (hl:l.length=64):Arg1 p l:=by
 by_cases h1:isP p=true
 ·by_cases h2:rk p l=true
  ·have ip:=a2a h1
   obtain ⟨a,g1,g2⟩:=v9 hb hl h2;exact .good ip a g1 g2
  ·refine .bad (by simp [V5,h2]) fun _=>by simpa using h2
 ·exact .bad (by simp [V5,h1]) fun h=>absurd h h1
theorem uq {p:Int} [IsP p] (x:Zp p):rep x=1↔x=1:=⟨fun h=>Ro (by rw [h,wd]),fun h=>by rw [h,wd]⟩
theorem Gn {p:Int} [IsP p] (a:Fp p):Monic a↔a.ld=1:=⟨fun h=>h.1,fun h=>⟨h,fun h0=>by
 rw [h0] at h;have:(0:Fp p).ld=0:=rfl;rw [this] at h;exact Fd.one_ne h.symm⟩⟩
end Pe

namespace Pe
open Go Gq
variable {T:Nat→Option Fn} {A:af}
theorem Wi {p:Int} {l:List Int} {f:Fp p} (h:∀i,cf l i=rep (f.c i)):mu l l.length=f.len:=by
 have e:=congrArg List.length (ui h);rw [bn] at e;unfold trim at e;rw [b8] at e;have:=Bn l l.length;omega
theorem W1 {O:af} {l:List Int} (hl:l.length=64):∀n:Nat,n≤64 →
 dn O 0 (.loop Z2k_L0) ⟨[(1,.ptr 0 []),(3,(.d (.int .i64 ((n:Int)-1))))],[.box false (D.arr 64 .leaf (am .u8 l))]⟩ =
  some (.exit 0,⟨[(1,.ptr 0 []),(3,(.d (.int .i64 ((mu l n:Int)-1)))),(11,(.d (.bool false)))],[.box false (D.arr 64 .leaf (am .u8 l))]⟩)
 | 0,_=>bo (by simp -implicitDefEqProofs [Z2k_L0,ap,mu])
 | n+1,hn=>by
  have hlt:n<l.length:=by omega
  have hn64:n<64:=by omega
  have hx:l[n]=cf l n:=(dp hlt).symm;have t0:(((n+1:Nat):Int)-1)=(n:Int):=by omega
  rw [t0];have w1:IntKind.i64.wrap ((n:Int)-1)=(n:Int)-1:=w64 (by omega)
  by_cases h0:cf l n=0
  ·have e:mu l (n+1)=mu l n:=by simp [mu,h0]
   rw [e];refine bm ?_ (W1 hl n (by omega))
   simp -implicitDefEqProofs [Z2k_L0,ap,hlt,hn64,hx,h0,w1]
  ·have e:mu l (n+1)=n+1:=by simp [mu,h0]
   rw [e,t0];refine bo ?_;simp -implicitDefEqProofs [Z2k_L0,ap,hlt,hn64,hx,h0]
def Mi (O:af):Prop:=∀l:List Int,l.length=64→ask O F2k [(D.arr 64 .leaf (am .u8 l))]=some (D.int .i64 ((mu l 64:Int)-1))
theorem a27 (hT:T F2k=some Z2k):Mi (den T A):=by
 intro l hl;have e:=W1 (O:=den T A) hl 64 (b9 _);have e0:((64:Nat):Int)-1=63:=rfl;rw [e0] at e;refine br hT rfl ?_;simp -implicitDefEqProofs [Z2k,Z2k_B,e]
def k9 (O:af):Prop:=∀(p:Int) [IsP p] (a:Fp p),a.len≤64→ask O F2k [(D.arr 64 .leaf (am .u8 (pad (row a))))]=some (D.int .i64 ((a.len:Int)-1))
theorem a29 {O:af} (h:Mi O):k9 O:=fun p i a hl=>by
 have e:=Wi (f:=a) (l:=pad (row a)) fun i=>by rw [Aa (by rw [bn]; exact hl),ff]
 rw [cx] at e;rw [h _ (cx _),e]
def U3 (O:af):Prop:=∀n a b:Int,ask O F2n [(D.int .i64 n),(D.int .i64 a),(D.int .i64 b)]=some (D.bool (decide (a≤n∧n≤b)))
theorem a7o (hT:T F2n=some Z2n):U3 (den T A):=by
 intro n a b;refine br hT rfl ?_
 by_cases h:a≤n <;> simp -implicitDefEqProofs [Z2n,Z2n_B,h]
def D6 (O:af):Prop:=∀p:Int,ask O F2w [(D.int .i64 p)]=some (D.bool (isP p))
theorem Vl (hT:T F2w=some Z2w):D6 (den T A):=by
 intro p;refine br hT rfl ?_
 by_cases h2:p=2
 ·simp -implicitDefEqProofs [Z2w,Z2w_B,h2,isP]
 ·by_cases h3:p=3
  ·simp -implicitDefEqProofs [Z2w,Z2w_B,h3,isP]
  ·by_cases h5:p=5
   ·simp -implicitDefEqProofs [Z2w,Z2w_B,h5,isP]
   ·simp -implicitDefEqProofs [Z2w,Z2w_B,h2,h3,h5,isP]
theorem a12 {O:af} {p:Int} {l:List Int} (hb:iu l) (hl:l.length=64):∀(m i:Nat),i+m=64 →
 dn O 0 (.loop Z2q_L0) ⟨[(0,(.d (.int .i64 p))),(3,.ptr 0 []),(5,(.d (.int .i64 i)))],[.box false (D.arr 64 .leaf (am .u8 l))]⟩ =
  if (l.drop i).all (fun x=>decide (x<p)) then some (.exit 0,⟨[(0,(.d (.int .i64 p))),(3,.ptr 0 []),(5,(.d (.int .i64 64))),(7,(.d (.bool false)))],[.box false (D.arr 64 .leaf (am .u8 l))]⟩) else some (.ret,⟨[(4,(.d (.bool false)))],[.hole]⟩)
 | 0,i,hi=>by
  obtain rfl:i=64:=by omega
  rw [show l.drop 64=[] from List.drop_eq_nil_of_le (by omega)]
  exact bo (by simp -implicitDefEqProofs [Z2q_L0,ap])
 | m+1,i,hi=>by
  have hlt:i<l.length:=by omega
  have hi64:i<64:=by omega
  have hi64':(i:Int)<64:=by omega
  have hx:l[i]=cf l i:=(dp hlt).symm;have hb':=hb _ (bh hlt);rw [hx] at hb';have w1:IntKind.i64.wrap (cf l i)=cf l i:=w64 (by omega)
  have w4:IntKind.i64.wrap ((i:Int)+1)=((i+1:Nat):Int):=(w64 (x:=(i:Int)+1) (by omega)).trans (by omega)
  rw [cd hlt,List.all_cons,hx]
  by_cases h0:cf l i<p
  ·rw [decide_eq_true h0,Bool.true_and]
   refine bm ?_ (a12 hb hl m (i+1) (by omega))
   have h1:¬ p≤cf l i:=by omega
   simp -implicitDefEqProofs [Z2q_L0,ap,hlt,hi64,hi64',hx,h1,w1,w4]
  ·rw [decide_eq_false h0,Bool.false_and]
   have h1:p≤cf l i:=by omega
   refine pk ?_;simp -implicitDefEqProofs [Z2q_L0,ap,hlt,hi64,hi64',hx,h1,w1]
def Rc (O:af):Prop:=∀(p:Int) (l:List Int),iu l→l.length=64→ask O F2q [(D.int .i64 p),(D.arr 64 .leaf (am .u8 l))]=some (D.bool (rk p l&&isP p))
theorem a5f (hT:T F2q=some Z2q) (hp:D6 (den T A)):Rc (den T A):=by
 intro p l hb hl;have e:=a12 (O:=den T A) (p:=p) hb hl 64 0 (by omega)
 have e0:((0:Nat):Int)=0:=rfl;rw [e0,fp,show (l.all fun x=>decide (x<p))=rk p l from rfl] at e
 have e1:=hp p;refine br hT rfl ?_
 by_cases h:rk p l=true
 ·rw [if_pos h] at e
  simp -implicitDefEqProofs [Z2q,Z2q_B,e,e1,h]
 ·rw [if_neg h] at e
  simp -implicitDefEqProofs [Z2q,Z2q_B,e,h]
open Classical in
def E4 (O:af):Prop:=∀(p:Int) [IsP p] (a:Fp p),a.len≤64→ask O F2s [(D.arr 64 .leaf (am .u8 (pad (row a))))]=some (D.bool (decide (Monic a)))
open Classical in
theorem Xi (hT:T F2s=some Z2s) (hd:k9 (den T A)):E4 (den T A):=by
 intro p i a hl;have e1:=hd p a hl;refine br hT rfl ?_
 by_cases h0:a=0
 ·subst h0
  have hm:¬ Monic (0:Fp p):=fun h=>h.2 rfl
  rw [decide_eq_false hm];rw [Pol.len_zero] at e1;simp -implicitDefEqProofs [Z2s,Z2s_B,e1]
 ·have hp:=Pol.len_pos h0
  have hd2:((a.len:Int)-1)=((a.len-1:Nat):Int):=by omega
  rw [hd2] at e1;have hx:(pad (row a))[a.len-1]? = some (rep a.ld):=by rw [om _ _ (by omega),ff]; rfl
  have h64:a.len-1<64:=by omega
  have e2:decide (rep a.ld=1)=decide (Monic a):=decide_eq_decide.2 (by rw [uq,Gn])
  rw [←e2];generalize a.len-1=n at *;generalize pad (row a)=L at *;simp -implicitDefEqProofs [Z2s,Z2s_B,e1,hx,h64]
end Pe

namespace Pe
open Go Gq
variable {T:Nat→Option Fn} {A:af}
def qz (O:af):Prop:=∀(p:Int) [IsP p] (x:Int),0<x→x<p→ask O F2o [(D.int .i64 p),.int .u8 x]=some (.int .u8 (inv p x))
theorem fi {F:Nat} {fn:Fn} (hT:T F=some fn) {ds:List D} {d:D} {n:Nat} (h:run (fun _ _ _=>none) n fn (ds.map .d) []=some (.d d,[],[])):ask (den T A) F ds=some d:=by
 have h2:=Hk (A:=A) hT (n:=n) (vs:=ds.map .d) (bs:=[]) (ans:=(.d d,[],[])) (by
  obtain ⟨qs,h3,h4⟩:=wi h;cases qs with
  | nil=>exact h4 _ (by intro q hq; simp at hq)
  | cons q qs=>exact absurd (h3 q (by simp)) (by simp))
 unfold ask;rw [h2];simp
theorem Ms (hT:T F2o=some Z2o):qz (den T A):=by
 intro p ip x h0 h1;rcases ip.h with rfl | rfl | rfl | rfl
 ·obtain rfl:x=1:=by omega
  exact fi hT (n:=10) (by kernel_rfl)
 ·have:x=1∨x=2:=by omega
  rcases this with rfl | rfl
  ·exact fi hT (n:=10) (by kernel_rfl)
  ·exact fi hT (n:=10) (by kernel_rfl)
 ·have:x=1∨x=2∨x=3∨x=4:=by omega
  rcases this with rfl | rfl | rfl | rfl
  ·exact fi hT (n:=10) (by kernel_rfl)
  ·exact fi hT (n:=10) (by kernel_rfl)
  ·exact fi hT (n:=10) (by kernel_rfl)
  ·exact fi hT (n:=10) (by kernel_rfl)
 ·have:x=1∨x=2∨x=3∨x=4∨x=5∨x=6:=by omega
  rcases this with rfl | rfl | rfl | rfl | rfl | rfl
  ·exact fi hT (n:=10) (by kernel_rfl)
  ·exact fi hT (n:=10) (by kernel_rfl)
  ·exact fi hT (n:=10) (by kernel_rfl)
  ·exact fi hT (n:=10) (by kernel_rfl)
  ·exact fi hT (n:=10) (by kernel_rfl)
  ·exact fi hT (n:=10) (by kernel_rfl)
theorem I5 {p:Int} [IsP p] {l:List Int} (h:Can p l) (hl:l.length=64):l=pad (row (f7 p l)):=by
 rw [←md h]
 symm
 apply Nj hl;intro i hi;rw [md h,ff,gn,Hz (h.le IsP.pos i)]
theorem tq {p:Int} [IsP p] (a:Fp p):Can p (pad (row a)):=fun x hx=>by
 obtain ⟨i,_,rfl⟩:=ca.1 hx;exact (gp a).le IsP.pos i
theorem qb {p:Int} {a:Fp p} (hl:a.len≤64):f7 p (pad (row a))=a:=Pol.ext fun i=>by rw [gn,Aa (by rw [bn]; exact hl),ff,jb]
theorem oa {p:Int} {a:Fp p} (hl:a.len≤64) (i:Nat):cf (pad (row a)) i=rep (a.c i):=by rw [Aa (by rw [bn]; exact hl),ff]
theorem Vt {O:af} {p k:Int} [IsP p] {a b z:List Int} (ha:Can p a) (hb:Can p b) (hbl:b.length=64) (hk:-1000000≤k∧k≤1000000):∀(m i:Nat) (cur:List Int),i+m=64→cur.length=64→(∀j,i≤j→cf cur j=cf a j) →
 dn O 0 (.loop Z2i_L0) ⟨[(0,(.d (.int .i64 p))),(3,(.d (.int .i64 k))),(5,.ptr 0 []),(6,.ptr 1 []),(8,.ptr 2 []),(9,(.d (.int .i64 i)))],[.box false (D.arr 64 .leaf (am .u8 cur)),.box false (D.arr 64 .leaf (am .u8 b)),.box false (D.arr 64 .leaf (am .u8 z))]⟩ =
  some (.exit 0,⟨[(0,(.d (.int .i64 p))),(3,(.d (.int .i64 k))),(5,.ptr 0 []),(6,.ptr 1 []),(8,.ptr 2 []),(9,(.d (.int .i64 64))),(11,(.d (.bool false)))],[.box false (D.arr 64 .leaf (am .u8 (upd (lin p a b k) m i cur))),.box false (D.arr 64 .leaf (am .u8 b)),.box false (D.arr 64 .leaf (am .u8 z))]⟩)
 | 0,i,cur,hi,hc,hs=>by
  obtain rfl:i=64:=by omega
  exact bo (by simp -implicitDefEqProofs [Z2i_L0,ap,upd])
 | m+1,i,cur,hi,hc,hs=>by
  have hp:=IsP.pos (p:=p);have hp7:=IsP.le (p:=p);have hp0:p≠0:=by omega
  have hlt:i<cur.length:=by omega
  have hlb:i<b.length:=by omega
  have hi64:i<64:=by omega
  have hi64':(i:Int)<64:=by omega
  have hx:cur[i]=cf a i:=by rw [←dp hlt]; exact hs i (b9 i)
  have hy:b[i]=cf b i:=(dp hlb).symm;have ga:=ha.le hp i;have gb:=hb.le hp i;have gm:=gv (x:=k) (y:=cf b i) (b:=1000000) (c:=10) hk (by omega) (by omega)
  have w1:IntKind.i64.wrap (cf a i)=cf a i:=w64 (by omega)
  have w2:IntKind.i64.wrap (cf b i)=cf b i:=w64 (by omega)
  have w3:IntKind.i64.wrap (k*cf b i)=k*cf b i:=w64 (by omega)
  have w5:IntKind.i64.wrap (cf a i+k*cf b i)=cf a i+k*cf b i:=w64 (by omega)
  have hin:=yv (n:=cf a i+k*cf b i) hp;have w6:IntKind.i64.wrap ((cf a i+k*cf b i).tmod p+p)=(cf a i+k*cf b i).tmod p+p:=w64 (by omega)
  have w7:((cf a i+k*cf b i).tmod p+p).tmod p=lin p a b k i:=wo hp;have hlin:0≤lin p a b k i∧lin p a b k i<p:=⟨d8 _ (by omega),ck _ hp⟩
  have w8':IntKind.u8.wrap (lin p a b k i)=lin p a b k i:=w8 (by omega)
  have w4:IntKind.i64.wrap ((i:Int)+1)=((i+1:Nat):Int):=(w64 (x:=(i:Int)+1) (by omega)).trans (by omega)
  refine bm ?_ (Vt ha hb hbl hk m (i+1) (cur.set i (lin p a b k i)) (by omega) (by simpa using hc) (fun j hj=>by rw [tl,if_neg (by omega)]; exact hs j (by omega)))
  simp -implicitDefEqProofs [Z2i_L0,ap,hlt,hlb,hi64,hi64',hx,hy,w1,w2,w3,w5,w6,w7,w8',w4,hp0]
def s9 (O:af):Prop:=∀(p:Int) [IsP p] (k:Int) (a b:Fp p),-1000000≤k→k≤1000000→a.len≤64→b.len≤64 →
 ask O F2i [(D.int .i64 p),(D.arr 64 .leaf (am .u8 (pad (row a)))),(D.arr 64 .leaf (am .u8 (pad (row b)))),(D.int .i64 k)]=some (D.arr 64 .leaf (am .u8 (pad (row (a+Pol.C (zp p k)*b)))))
theorem a31 (hT:T F2i=some Z2i):s9 (den T A):=by
 intro p i k a b hk hk' hal hbl;have e:=Vt (O:=den T A) (z:=pad []) (tq a) (tq b) (cx _) ⟨hk,hk'⟩ 64 0 (pad (row a)) (by omega) (cx _) (fun _ _=>rfl)
 have e0:((0:Nat):Int)=0:=rfl;rw [e0,ze _ _ _ (cx _)] at e
 have e2:(List.range 64).map (lin p (pad (row a)) (pad (row b)) k)=pad (row (a+Pol.C (zp p k)*b)):=by
  unfold pad
  congr 1
  funext j
  rw [ff,Pol.c_add,Pol.c_Cmul];show (cf (pad (row a)) j+k*cf (pad (row b)) j)%p=_;rw [oa hal,oa hbl,←Ct,Nw,xf,jb,jb]
 rw [e2] at e;refine br hT rfl ?_;generalize pad (row (a+Pol.C (zp p k)*b))=R at *;simp -implicitDefEqProofs [Z2i,Z2i_B,e]
def Hp (O:af):Prop:=∀(p:Int) [IsP p],ask O F2u []=some (D.arr 64 .leaf (am .u8 (pad (row (1:Fp p)))))
theorem a2f (hT:T F2u=some Z2u):Hp (den T A):=by
 intro p i;have e:(pad []).set 0 1=pad [1]:=by decide +kernel
 have h0:(0:Nat)<(pad []).length:=by rw [cx]; omega
 rw [vu];refine br hT rfl ?_;simp -implicitDefEqProofs [Z2u,Z2u_B,e,h0]
end Pe

namespace Pe
open Go Gq
variable {T:Nat→Option Fn} {A:af}
def H4 (p q:Int) (b:List Int) (i:Nat) (m:Nat) (cur:List Int):List Int:=if q=0 then cur else jo p q b i m 0 cur
theorem Hx {p q:Int} [IsP p] {b cur:List Int} {i m:Nat} (hc:Can p cur) (hl:i+m≤cur.length):H4 p q b i m cur=jo p q b i m 0 cur:=by
 unfold H4
 split
 ·rename_i h
  subst h;apply oe
  ·rw [ji]
  ·intro j h1 h2
   rw [←dp h1,←dp h2,uj _ _ _ _ _ _ _ _ (by omega)]
   have:=hc.le IsP.pos j
   split
   ·rw [Int.zero_mul,Int.sub_zero,ia this.1 this.2]
   ·rfl
 ·rfl
theorem Rd {O:af} {p q by_:Int} [IsP p] {b quo z z':List Int} {i bl:Nat} (hq:0<q∧q<p) (hb:Can p b) (hbl:b.length=64) (hn:i+bl≤64) (h0:0<bl):∀(m k:Nat) (cur:List Int),k+m=bl→cur.length=64→Can p cur →
 dn O 0 (.loop Z2l_L0) ⟨[(0,(.d (.int .i64 p))),(4,.ptr 0 []),(5,.ptr 1 []),(6,.ptr 2 []),(7,.ptr 3 []),(8,.ptr 4 []),(9,(.d (.int .i64 ((bl:Int)-1)))),(10,(.d (.int .i64 by_))),(11,(.d (.int .i64 ((i:Int)+bl-1)))),(12,(.d (.int .i64 q))),(13,(.d (.int .i64 k)))],[.box false (D.arr 64 .leaf (am .u8 cur)),.box false (D.arr 64 .leaf (am .u8 b)),.box false (D.arr 64 .leaf (am .u8 z)),.box false (D.arr 64 .leaf (am .u8 z')),.box false (D.arr 64 .leaf (am .u8 quo))]⟩ =
  some (.exit 2,⟨[(0,(.d (.int .i64 p))),(4,.ptr 0 []),(5,.ptr 1 []),(6,.ptr 2 []),(7,.ptr 3 []),(8,.ptr 4 []),(9,(.d (.int .i64 ((bl:Int)-1)))),(10,(.d (.int .i64 by_))),(11,(.d (.int .i64 ((i:Int)+bl-1)))),(12,(.d (.int .i64 q))),(13,(.d (.int .i64 bl))),(50,(.d (.bool false)))],[.box false (D.arr 64 .leaf (am .u8 (jo p q b i m k cur))),.box false (D.arr 64 .leaf (am .u8 b)),.box false (D.arr 64 .leaf (am .u8 z)),.box false (D.arr 64 .leaf (am .u8 z')),.box false (D.arr 64 .leaf (am .u8 quo))]⟩)
 | 0,k,cur,hk,hc,hcan=>by
  obtain rfl:k=bl:=by omega
  have h1:¬ (k:Int)≤(k:Int)-1:=by omega
  exact bo (by simp -implicitDefEqProofs [Z2l_L0,ap,jo,h1])
 | m+1,k,cur,hk,hc,hcan=>by
  have hp:=IsP.pos (p:=p);have hp7:=IsP.le (p:=p);have hp0:p≠0:=by omega
  have hq0:q≠0:=by omega
  have h1:(k:Int)≤(bl:Int)-1:=by omega
  have w1:IntKind.i64.wrap ((i:Int)+bl-1-(bl-1))=i:=(w64 (x:=(i:Int)+bl-1-(bl-1)) (by omega)).trans (by omega)
  have w2:IntKind.i64.wrap ((i:Int)+k)=((i+k:Nat):Int):=(w64 (x:=(i:Int)+k) (by omega)).trans (by omega)
  have hik:i+k<64:=by omega
  have hikc:i+k<cur.length:=by omega
  have hkb:k<b.length:=by omega
  have hk64:k<64:=by omega
  have hx:cur[i+k]=cf cur (i+k):=(dp hikc).symm;have hy:b[k]=cf b k:=(dp hkb).symm;have gc:=hcan.le hp (i+k);have gb:=hb.le hp k;have gm:=gv (x:=q) (y:=cf b k) (b:=10) (c:=10) (by omega) (by omega) (by omega)
  have w3:IntKind.i64.wrap (cf cur (i+k))=cf cur (i+k):=w64 (by omega)
  have w5:IntKind.i64.wrap (cf b k)=cf b k:=w64 (by omega)
  have w6:IntKind.i64.wrap (q*cf b k)=q*cf b k:=w64 (by omega)
  have w7:IntKind.i64.wrap (cf cur (i+k)-q*cf b k)=cf cur (i+k)-q*cf b k:=w64 (by omega)
  have hin:=yv (n:=cf cur (i+k)-q*cf b k) hp;have w9:IntKind.i64.wrap ((cf cur (i+k)-q*cf b k).tmod p+p)=(cf cur (i+k)-q*cf b k).tmod p+p:=w64 (by omega)
  have w10:((cf cur (i+k)-q*cf b k).tmod p+p).tmod p=(cf cur (i+k)-q*cf b k)%p:=wo hp;have hlin:0≤(cf cur (i+k)-q*cf b k)%p∧(cf cur (i+k)-q*cf b k)%p<p:=⟨d8 _ (by omega),ck _ hp⟩
  have w11:IntKind.u8.wrap ((cf cur (i+k)-q*cf b k)%p)=(cf cur (i+k)-q*cf b k)%p:=w8 (by omega)
  have w4:IntKind.i64.wrap ((k:Int)+1)=((k+1:Nat):Int):=(w64 (x:=(k:Int)+1) (by omega)).trans (by omega)
  have t1:(0:Int)≤(i:Int)+k:=by omega
  have t2:((i:Int)+k).toNat=i+k:=by omega
  have hcan':Can p (cur.set (i+k) ((cf cur (i+k)-q*cf b k)%p)):=by
   intro x hx;rcases d9 hx with h | h
   ·exact hcan x h
   ·subst h; exact hlin
  refine bm ?_ (Rd hq hb hbl hn h0 m (k+1) (cur.set (i+k) ((cf cur (i+k)-q*cf b k)%p)) (by omega) (by simpa using hc) hcan')
  simp -implicitDefEqProofs [Z2l_L0,ap,h1,hq0,w1,w2,hik,hikc,hkb,hk64,hx,hy,w3,w5,w6,w7,w9,w10,w11,w4,hp0,t1,t2]
theorem Re {O:af} {p by_:Int} [IsP p] {b:List Int} {bl:Nat} {z z':List Int} (hby:0≤by_∧by_<p) (hb:Can p b) (hbl:b.length=64) (h0:0<bl):∀(c:Nat) (cur quo:List Int),c+bl≤65→cur.length=64→quo.length=64→Can p cur →
 dn O 0 (.loop Z2l_L1) ⟨[(0,(.d (.int .i64 p))),(4,.ptr 0 []),(5,.ptr 1 []),(6,.ptr 2 []),(7,.ptr 3 []),(8,.ptr 4 []),(9,(.d (.int .i64 ((bl:Int)-1)))),(10,(.d (.int .i64 by_))),(11,(.d (.int .i64 ((c:Int)+bl-2))))],[.box false (D.arr 64 .leaf (am .u8 cur)),.box false (D.arr 64 .leaf (am .u8 b)),.box false (D.arr 64 .leaf (am .u8 z)),.box false (D.arr 64 .leaf (am .u8 z')),.box false (D.arr 64 .leaf (am .u8 quo))]⟩ =
  some (.exit 0,⟨[(0,(.d (.int .i64 p))),(4,.ptr 0 []),(5,.ptr 1 []),(6,.ptr 2 []),(7,.ptr 3 []),(8,.ptr 4 []),(9,(.d (.int .i64 ((bl:Int)-1)))),(10,(.d (.int .i64 by_))),(11,(.d (.int .i64 ((bl:Int)-2)))),(27,(.d (.bool false)))],[.box false (D.arr 64 .leaf (am .u8 ((dv p by_ (b.take bl) c (cur,quo)).1))),.box false (D.arr 64 .leaf (am .u8 b)),.box false (D.arr 64 .leaf (am .u8 z)),.box false (D.arr 64 .leaf (am .u8 z')),.box false (D.arr 64 .leaf (am .u8 ((dv p by_ (b.take bl) c (cur,quo)).2)))]⟩)
 | 0,cur,quo,_,hc,hqo,hcan=>by
  have h1:¬ (bl:Int)-1≤(bl:Int)-2:=by omega
  have t0:((0:Nat):Int)+bl-2=(bl:Int)-2:=by omega
  rw [t0];exact bo (by simp -implicitDefEqProofs [Z2l_L1,ap,h1,dv])
 | c+1,cur,quo,hcb,hc,hqo,hcan=>by
  have hp:=IsP.pos (p:=p);have hp7:=IsP.le (p:=p);have hp0:p≠0:=by omega
  have hbt:(b.take bl).length=bl:=by rw [b8]; omega
  have t0:((c+1:Nat):Int)+bl-2=(c:Int)+bl-1:=by omega
  rw [t0];have h1:(bl:Int)-1≤(c:Int)+bl-1:=by omega
  have hi64:c+bl-1<64:=by omega
  have hic:c+bl-1<cur.length:=by omega
  have t1:(0:Int)≤(c:Int)+bl-1:=by omega
  have t2:((c:Int)+bl-1).toNat=c+bl-1:=by omega
  have t3:(1:Int)≤(c:Int)+bl:=by omega
  have hx:cur[c+bl-1]=cf cur (c+bl-1):=(dp hic).symm;have gc:=hcan.le hp (c+bl-1);have gm:=gv (x:=cf cur (c+bl-1)) (y:=by_) (b:=10) (c:=10) (by omega) (by omega) (by omega)
  have w1:IntKind.i64.wrap (cf cur (c+bl-1))=cf cur (c+bl-1):=w64 (by omega)
  have w2:IntKind.i64.wrap (cf cur (c+bl-1)*by_)=cf cur (c+bl-1)*by_:=w64 (by omega)
  have w3:(cf cur (c+bl-1)*by_).tmod p=cf cur (c+bl-1)*by_%p:=ci (ec gc.1 hby.1);have hq:0≤cf cur (c+bl-1)*by_%p∧cf cur (c+bl-1)*by_%p<p:=⟨d8 _ hp0,ck _ hp⟩;have w4:IntKind.i64.wrap ((c:Int)+bl-1-(bl-1))=c:=(w64 (x:=(c:Int)+bl-1-(bl-1)) (by omega)).trans (by omega)
  have w5:IntKind.u8.wrap (cf cur (c+bl-1)*by_%p)=cf cur (c+bl-1)*by_%p:=w8 (by omega)
  have hc64:c<64:=by omega
  have hcq:c<quo.length:=by omega
  have w6:IntKind.i64.wrap ((c:Int)+bl-1-1)=(c:Int)+bl-2:=(w64 (x:=(c:Int)+bl-1-1) (by omega)).trans (by omega)
  have ed:dv p by_ (b.take bl) (c+1) (cur,quo)=dv p by_ (b.take bl) c (H4 p (cf cur (c+bl-1)*by_%p) b c bl cur,quo.set c (cf cur (c+bl-1)*by_%p)):=by
   rw [dv,hbt,Hx hcan (by omega)]
   have es:∀(m k:Nat) (x:List Int),k+m≤bl→jo p (cf cur (c+bl-1)*by_%p) (b.take bl) c m k x=jo p (cf cur (c+bl-1)*by_%p) b c m k x:=by
    intro m
    induction m with
    | zero=>intro k x _; rfl
    | succ m ih=>
     intro k x hk;have e:cf (b.take bl) k=cf b k:=by rw [dp (by omega),dp (by omega),nm]
     rw [jo,jo,e,ih _ _ (by omega)]
   rw [es bl 0 cur (by omega)]
  rw [ed];have hcan':Can p (H4 p (cf cur (c+bl-1)*by_%p) b c bl cur):=by rw [Hx hcan (by omega)]; exact zl hp (by omega) hcan
  have hlen':(H4 p (cf cur (c+bl-1)*by_%p) b c bl cur).length=64:=by rw [Hx hcan (by omega),ji,hc]
  have ih:=Re (O:=O) (z:=z) (z':=z') hby hb hbl h0 c (H4 p (cf cur (c+bl-1)*by_%p) b c bl cur) (quo.set c (cf cur (c+bl-1)*by_%p)) (by omega) hlen' (by simpa using hqo) hcan'
  refine bm ?_ ih;generalize cf cur (c+bl-1)*by_%p=q at *
  have l0:∃k:Int,dn O 0 (.loop Z2l_L0) ⟨[(0,(.d (.int .i64 p))),(4,.ptr 0 []),(5,.ptr 1 []),(6,.ptr 2 []),(7,.ptr 3 []),(8,.ptr 4 []),(9,(.d (.int .i64 ((bl:Int)-1)))),(10,(.d (.int .i64 by_))),(11,(.d (.int .i64 ((c:Int)+bl-1)))),(12,(.d (.int .i64 q))),(13,(.d (.int .i64 0)))],[.box false (D.arr 64 .leaf (am .u8 cur)),.box false (D.arr 64 .leaf (am .u8 b)),.box false (D.arr 64 .leaf (am .u8 z)),.box false (D.arr 64 .leaf (am .u8 z')),.box false (D.arr 64 .leaf (am .u8 (quo.set c q)))]⟩ =
   some (.exit 2,⟨[(0,(.d (.int .i64 p))),(4,.ptr 0 []),(5,.ptr 1 []),(6,.ptr 2 []),(7,.ptr 3 []),(8,.ptr 4 []),(9,(.d (.int .i64 ((bl:Int)-1)))),(10,(.d (.int .i64 by_))),(11,(.d (.int .i64 ((c:Int)+bl-1)))),(12,(.d (.int .i64 q))),(13,(.d (.int .i64 k))),(50,(.d (.bool false)))],[.box false (D.arr 64 .leaf (am .u8 (H4 p q b c bl cur))),.box false (D.arr 64 .leaf (am .u8 b)),.box false (D.arr 64 .leaf (am .u8 z)),.box false (D.arr 64 .leaf (am .u8 z')),.box false (D.arr 64 .leaf (am .u8 (quo.set c q)))]⟩):=by
   by_cases hq0:q=0
   ·subst hq0
    refine ⟨0,?_⟩;have e:H4 p 0 b c bl cur=cur:=if_pos rfl;rw [e];have h2:(1:Int)≤(bl:Int):=by omega
    exact bo (by simp -implicitDefEqProofs [Z2l_L0,ap,h2])
   ·refine ⟨bl,?_⟩
    have e:H4 p q b c bl cur=jo p q b c bl 0 cur:=if_neg hq0;rw [e];have:=Rd (O:=O) (by_:=by_) (quo:=quo.set c q) (z:=z) (z':=z') (i:=c) (bl:=bl) ⟨by omega,hq.2⟩ hb hbl (by omega) h0 bl 0 cur (b7 _) hc hcan
    exact this
  obtain ⟨k,l0⟩:=l0;simp -implicitDefEqProofs [Z2l_L1,ap,h1,hi64,hic,t2,t3,hx,w1,w2,w3,w4,w5,w6,hc64,hcq,hp0,l0]
def od (O:af):Prop:=∀(p:Int) [IsP p] (a b:Fp p),b≠0→a.len≤64→b.len≤64 →
 ask O F2l [(D.int .i64 p),(D.arr 64 .leaf (am .u8 (pad (row a)))),(D.arr 64 .leaf (am .u8 (pad (row b))))]=some (.tup [(D.arr 64 .leaf (am .u8 (pad (row (a/b))))),(D.arr 64 .leaf (am .u8 (pad (row (a%b)))))])
theorem Vp {p:Int} {b:Fp p} (h:b.len≤64):(pad (row b)).take b.len=row b:=by
 apply oe
 ·rw [b8,cx,bn]; omega
 ·intro i h1 h2
  rw [nm,←dp,oa h,←ff,dp h2]
theorem Rs (hT:T F2l=some Z2l) (hd:k9 (den T A)) (hinv:qz (den T A)):od (den T A):=by
 intro p i a b hb hal hbl;have hp:=IsP.ge (p:=p);have hp7:=IsP.le (p:=p);have hb0:=Pol.len_pos hb;have e1:=hd p b hbl;have e2:=hd p a hal;have hr:=k8 b.ld;have hld:rep b.ld≠0:=fun h0=>Pol.ld_ne hb (gt.1 h0)
 have e3:=hinv p (rep b.ld) (by omega) hr.2
 have hin:=xq p (rep b.ld);have w1:IntKind.i64.wrap (inv p (rep b.ld))=inv p (rep b.ld):=w64 (by omega)
 have hbx:(pad (row b))[b.len-1]? = some (rep b.ld):=by rw [om _ _ (by omega),ff]; rfl
 have hbx':((b.len:Int)-1).toNat=b.len-1:=by omega
 have hbx2:(1:Int)≤(b.len:Int):=by omega
 have hbx3:b.len-1<64:=by omega
 have hz:∀j,cf (pad []) j=0:=fun j=>by rw [Aa (by simp),n4 (by simp)]
 have hcanz:Can p (pad []):=fun x hx=>by
  obtain ⟨j,_,rfl⟩:=ca.1 hx;rw [n4 (by simp)]; omega
 have sp:=Hc b hb (a.len+1-b.len) (pad (row a)) (pad []) (by rw [cx]; omega) (by rw [cx]; omega) (tq a) (fun j _=>hz j) (fun j hj=>by
  rw [oa hal,a.lt_len j (by omega),n5]) hcanz
 have hl1:∀(B:List Int) (c:Nat) (x y:List Int),(dv p (inv p (rep b.ld)) B c (x,y)).1.length=x.length∧(dv p (inv p (rep b.ld)) B c (x,y)).2.length=y.length:=by
  intro B c
  induction c with
  | zero=>exact fun x y=>⟨rfl,rfl⟩
  | succ c ih=>
   intro x y;rw [dv];obtain ⟨i1,i2⟩:=ih (jo p (cf x (c+B.length-1)*inv p (rep b.ld)%p) B c B.length 0 x) (y.set c (cf x (c+B.length-1)*inv p (rep b.ld)%p));exact ⟨by rw [i1,ji],by rw [i2,c5]⟩
 obtain ⟨g1,g2⟩:=hl1 (row b) (a.len+1-b.len) (pad (row a)) (pad []);rw [cx] at g1 g2;have l1:=Re (O:=den T A) (b:=pad (row b)) (bl:=b.len) (z:=pad []) (z':=pad []) hin (tq b) (cx _) hb0 (a.len+1-b.len) (pad (row a)) (pad []) (by omega) (cx _) (cx _) (tq a)
 rw [Vp hbl] at l1;generalize dv p (inv p (rep b.ld)) (row b) (a.len+1-b.len) (pad (row a),pad [])=r at *;obtain ⟨s1,s2,s3,s4⟩:=sp;have z0:f7 p (pad [])=0:=Pol.ext fun j=>by rw [gn,hz]; rfl
 rw [z0,Gq.zero_mul,Gq.add_zero,qb hal,Gq.add_comm] at s1
 have hrl:(f7 p r.1).len<b.len:=by
  have:(f7 p r.1).lt (b.len-1):=fun i hi=>by rw [gn,s2 i hi]; rfl
  have:=Pol.len_le this;omega
 obtain ⟨h1,h2⟩:=Pol.div_mod_eq s1.symm hrl;rw [h1,h2,←I5 s3 g1,←I5 s4 g2]
 have lz:∃n:Int,dn (den T A) 0 (.loop Z2l_L1) ⟨[(0,(.d (.int .i64 p))),(4,.ptr 0 []),(5,.ptr 1 []),(6,.ptr 2 []),(7,.ptr 3 []),(8,.ptr 4 []),(9,(.d (.int .i64 ((b.len:Int)-1)))),(10,(.d (.int .i64 (inv p (rep b.ld))))),(11,(.d (.int .i64 ((a.len:Int)-1))))],[.box false (D.arr 64 .leaf (am .u8 (pad (row a)))),.box false (D.arr 64 .leaf (am .u8 (pad (row b)))),.box false (D.arr 64 .leaf (am .u8 (pad []))),.box false (D.arr 64 .leaf (am .u8 (pad []))),.box false (D.arr 64 .leaf (am .u8 (pad [])))]⟩ =
  some (.exit 0,⟨[(0,(.d (.int .i64 p))),(4,.ptr 0 []),(5,.ptr 1 []),(6,.ptr 2 []),(7,.ptr 3 []),(8,.ptr 4 []),(9,(.d (.int .i64 ((b.len:Int)-1)))),(10,(.d (.int .i64 (inv p (rep b.ld))))),(11,(.d (.int .i64 n))),(27,(.d (.bool false)))],[.box false (D.arr 64 .leaf (am .u8 r.1)),.box false (D.arr 64 .leaf (am .u8 (pad (row b)))),.box false (D.arr 64 .leaf (am .u8 (pad []))),.box false (D.arr 64 .leaf (am .u8 (pad []))),.box false (D.arr 64 .leaf (am .u8 r.2))]⟩):=by
  by_cases hlt:b.len≤a.len
  ·rw [show ((a.len+1-b.len:Nat):Int)+b.len-2=(a.len:Int)-1 by omega] at l1
   exact ⟨_,l1⟩
  ·rw [show a.len+1-b.len=0 by omega] at l1
   have h3:¬ (b.len:Int)-1≤(b.len:Int)-2:=by omega
   have h4:¬ (b.len:Int)-1≤(a.len:Int)-1:=by omega
   have st:=bo (O:=den T A) (np:=0) (c:=Z2l_L1) (s:=⟨[(0,(.d (.int .i64 p))),(4,.ptr 0 []),(5,.ptr 1 []),(6,.ptr 2 []),(7,.ptr 3 []),(8,.ptr 4 []),(9,(.d (.int .i64 ((b.len:Int)-1)))),(10,(.d (.int .i64 (inv p (rep b.ld))))),(11,(.d (.int .i64 (((0:Nat):Int)+b.len-2))))],[.box false (D.arr 64 .leaf (am .u8 (pad (row a)))),.box false (D.arr 64 .leaf (am .u8 (pad (row b)))),.box false (D.arr 64 .leaf (am .u8 (pad []))),.box false (D.arr 64 .leaf (am .u8 (pad []))),.box false (D.arr 64 .leaf (am .u8 (pad [])))]⟩) (s1:=⟨[(0,(.d (.int .i64 p))),(4,.ptr 0 []),(5,.ptr 1 []),(6,.ptr 2 []),(7,.ptr 3 []),(8,.ptr 4 []),(9,(.d (.int .i64 ((b.len:Int)-1)))),(10,(.d (.int .i64 (inv p (rep b.ld))))),(11,(.d (.int .i64 (((0:Nat):Int)+b.len-2)))),(27,(.d (.bool false)))],[.box false (D.arr 64 .leaf (am .u8 (pad (row a)))),.box false (D.arr 64 .leaf (am .u8 (pad (row b)))),.box false (D.arr 64 .leaf (am .u8 (pad []))),.box false (D.arr 64 .leaf (am .u8 (pad []))),.box false (D.arr 64 .leaf (am .u8 (pad [])))]⟩) (id:=0) (by
    have h3':¬ (b.len:Int)-1≤((0:Nat):Int)+b.len-2:=by omega
    simp -implicitDefEqProofs only [Int.natCast_zero,Int.zero_add] at h3' ⊢;simp -implicitDefEqProofs [Z2l_L1,ap,h3'])
   rw [st] at l1;have l2:=ao l1;injection l2 with _ l3
   injection l3 with _ l4
   injection l4 with l5 l6
   injection l6 with _ l7
   injection l7 with _ l8
   injection l8 with _ l9
   injection l9 with l10 _
   have e5:(D.arr 64 .leaf (am .u8 (pad (row a))))=(D.arr 64 .leaf (am .u8 r.1)):=by injection l5
   have e6:(D.arr 64 .leaf (am .u8 (pad [])))=(D.arr 64 .leaf (am .u8 r.2)):=by injection l10
   rw [←e5,←e6];exact ⟨(a.len:Int)-1,bo (by simp -implicitDefEqProofs [Z2l_L1,ap,h4])⟩
 obtain ⟨n,lz⟩:=lz;refine br hT rfl ?_;obtain ⟨r1,r2⟩:=r;simp only at lz ⊢;generalize pad (row a)=PA at *;generalize pad (row b)=PB at *;simp -implicitDefEqProofs [Z2l,Z2l_B,e1,e2,e3,w1,hbx,hbx',hbx2,hbx3,lz]
end Pe

namespace Pe
open Go Gq
variable {T:Nat→Option Fn} {A:af}
def zn (O:af):Prop:=∀(p:Int) [IsP p] (a b:Fp p),b≠0→a.len≤64→b.len≤64 →
 ask O F2r [(D.int .i64 p),(D.arr 64 .leaf (am .u8 (pad (row a)))),(D.arr 64 .leaf (am .u8 (pad (row b))))]=some (D.arr 64 .leaf (am .u8 (pad (row (a%b)))))
theorem a2i (hT:T F2r=some Z2r) (hd:od (den T A)):zn (den T A):=by
 intro p i a b hb h1 h2;have e:=hd p a b hb h1 h2;refine br hT rfl ?_;simp -implicitDefEqProofs [Z2r,Z2r_B,e]
theorem Wm (f:Nat→Int) (m i:Nat) (l:List Int) (j:Nat):cf (upd f m i l) j=if i≤j∧j<i+m∧j<l.length then f j else cf l j:=by
 unfold cf;rw [c6,c6,Bl]
 split <;> rfl
theorem Wf {O:af} {p:Int} {a:List Int} {mm z:List Int} {n:Nat} {top:Int} (hal:a.length=64) (hn:n<64):∀(k i:Nat) (cur:List Int),i+k=n→1≤i→cur.length=64 →
 dn O 0 (.loop Z2z_L0) ⟨[(0,(.d (.int .i64 p))),(4,.ptr 0 []),(5,.ptr 1 []),(6,.ptr 2 []),(7,(.d (.int .i64 n))),(8,(.d (.int .i64 top))),(9,.ptr 3 []),(10,(.d (.int .i64 i)))],[.box false (D.arr 64 .leaf (am .u8 a)),.box false (D.arr 64 .leaf (am .u8 mm)),.box false (D.arr 64 .leaf (am .u8 z)),.box false (D.arr 64 .leaf (am .u8 cur))]⟩ =
  some (.exit 0,⟨[(0,(.d (.int .i64 p))),(4,.ptr 0 []),(5,.ptr 1 []),(6,.ptr 2 []),(7,(.d (.int .i64 n))),(8,(.d (.int .i64 top))),(9,.ptr 3 []),(10,(.d (.int .i64 n))),(26,(.d (.bool false)))],[.box false (D.arr 64 .leaf (am .u8 a)),.box false (D.arr 64 .leaf (am .u8 mm)),.box false (D.arr 64 .leaf (am .u8 z)),.box false (D.arr 64 .leaf (am .u8 (upd (fun j=>cf a (j-1)) k i cur)))]⟩)
 | 0,i,cur,hi,h1,hc=>by
  obtain rfl:i=n:=by omega
  exact bo (by simp -implicitDefEqProofs [Z2z_L0,ap,upd])
 | k+1,i,cur,hi,h1,hc=>by
  have hlt:i<n:=by omega
  have hi1:i-1<a.length:=by omega
  have hi2:i-1<64:=by omega
  have hi64:i<64:=by omega
  have hic:i<cur.length:=by omega
  have hx:a[i-1]=cf a (i-1):=(dp hi1).symm;have w1:IntKind.i64.wrap ((i:Int)-1)=((i-1:Nat):Int):=(w64 (x:=(i:Int)-1) (by omega)).trans (by omega)
  have w4:IntKind.i64.wrap ((i:Int)+1)=((i+1:Nat):Int):=(w64 (x:=(i:Int)+1) (by omega)).trans (by omega)
  refine bm ?_ (Wf hal hn k (i+1) (cur.set i (cf a (i-1))) (by omega) (by omega) (by simpa using hc))
  simp -implicitDefEqProofs [Z2z_L0,ap,hlt,hi1,hi2,hi64,hic,hx,w1,w4]
theorem Vj {O:af} {p q:Int} [IsP p] {b z out:List Int} {n:Nat} {hol:Blk} (hh:hol=.hole) (hb:Can p b) (hbl:b.length=64) (hq:0≤q∧q<p) (hn:n<64) (ho:Can p out):∀(k i:Nat) (cur:List Int),i+k=n→cur.length=64→(∀j,i≤j→cf cur j=cf out j) →
 dn O 0 (.loop Z2z_L1) ⟨[(0,(.d (.int .i64 p))),(5,.ptr 1 []),(6,.ptr 2 []),(7,(.d (.int .i64 n))),(9,.ptr 3 []),(11,(.d (.int .i64 q))),(12,(.d (.int .i64 i)))],[hol,.box false (D.arr 64 .leaf (am .u8 b)),.box false (D.arr 64 .leaf (am .u8 z)),.box false (D.arr 64 .leaf (am .u8 cur))]⟩ =
  some (.exit 2,⟨[(0,(.d (.int .i64 p))),(5,.ptr 1 []),(6,.ptr 2 []),(7,(.d (.int .i64 n))),(9,.ptr 3 []),(11,(.d (.int .i64 q))),(12,(.d (.int .i64 n))),(47,(.d (.bool false)))],[hol,.box false (D.arr 64 .leaf (am .u8 b)),.box false (D.arr 64 .leaf (am .u8 z)),.box false (D.arr 64 .leaf (am .u8 (upd (fun j=>(cf out j-q*cf b j)%p) k i cur)))]⟩)
 | 0,i,cur,hi,hc,hs=>by
  subst hh;obtain rfl:i=n:=by omega
  exact bo (by simp -implicitDefEqProofs [Z2z_L1,ap,upd])
 | k+1,i,cur,hi,hc,hs=>by
  have hp:=IsP.pos (p:=p);have hp7:=IsP.le (p:=p);have hp0:p≠0:=by omega
  have hlt:i<n:=by omega
  have hi64:i<64:=by omega
  have hic:i<cur.length:=by omega
  have hib:i<b.length:=by omega
  have hx:cur[i]=cf out i:=by rw [←dp hic]; exact hs i (b9 i)
  have hy:b[i]=cf b i:=(dp hib).symm;have gc:=ho.le hp i;have gb:=hb.le hp i;have gm:=gv (x:=q) (y:=cf b i) (b:=10) (c:=10) (by omega) (by omega) (by omega)
  have w3:IntKind.i64.wrap (cf out i)=cf out i:=w64 (by omega)
  have w5:IntKind.i64.wrap (cf b i)=cf b i:=w64 (by omega)
  have w6:IntKind.i64.wrap (q*cf b i)=q*cf b i:=w64 (by omega)
  have w7:IntKind.i64.wrap (cf out i-q*cf b i)=cf out i-q*cf b i:=w64 (by omega)
  have hin:=yv (n:=cf out i-q*cf b i) hp;have w9:IntKind.i64.wrap ((cf out i-q*cf b i).tmod p+p)=(cf out i-q*cf b i).tmod p+p:=w64 (by omega)
  have w10:((cf out i-q*cf b i).tmod p+p).tmod p=(cf out i-q*cf b i)%p:=wo hp;have hlin:0≤(cf out i-q*cf b i)%p∧(cf out i-q*cf b i)%p<p:=⟨d8 _ (by omega),ck _ hp⟩
  have w11:IntKind.u8.wrap ((cf out i-q*cf b i)%p)=(cf out i-q*cf b i)%p:=w8 (by omega)
  have w4:IntKind.i64.wrap ((i:Int)+1)=((i+1:Nat):Int):=(w64 (x:=(i:Int)+1) (by omega)).trans (by omega)
  refine bm ?_ (Vj hh hb hbl hq hn ho k (i+1) (cur.set i ((cf out i-q*cf b i)%p)) (by omega) (by simpa using hc) (fun j hj=>by rw [tl,if_neg (by omega)]; exact hs j (by omega)))
  subst hh;simp -implicitDefEqProofs [Z2z_L1,ap,hlt,hi64,hic,hib,hx,hy,w3,w5,w6,w7,w9,w10,w11,w4,hp0]
def Qo (O:af):Prop:=∀(p:Int) [IsP p] (a m:Fp p),m≠0→a.len<m.len→m.len≤64 →
 ask O F2z [(D.int .i64 p),(D.arr 64 .leaf (am .u8 (pad (row a)))),(D.arr 64 .leaf (am .u8 (pad (row m))))]=some (D.arr 64 .leaf (am .u8 (pad (row (Pol.X*a%m)))))
theorem a6r (hT:T F2z=some Z2z) (hd:k9 (den T A)) (hinv:qz (den T A)):Qo (den T A):=by
 intro p i a m hm hal hml;have hp:=IsP.ge (p:=p);have hp7:=IsP.le (p:=p);have e1:=hd p m hml;refine br hT rfl ?_
 by_cases h1:m.len=1
 ·have ha:a=0:=Pol.len_zero_iff.1 (by omega)
  subst ha;rw [Gq.mul_zero,Pol.zero_mod hm,du];rw [h1] at e1;simp -implicitDefEqProofs [Z2z,Z2z_B,ap,e1]
 ·have hm0:=Pol.len_pos hm
  obtain ⟨n,hn⟩:∃n,m.len=n+2:=⟨m.len-2,by omega⟩
  have e1':ask (den T A) F2k [(D.arr 64 .leaf (am .u8 (pad (row m))))]=some (D.int .i64 ((n+1:Nat))):=by rw [e1,hn]; congr 2; omega
  have hr:=k8 m.ld;have hld:rep m.ld≠0:=fun h0=>Pol.ld_ne hm (gt.1 h0)
  have e3:=hinv p (rep m.ld) (by omega) hr.2
  have hin:=xq p (rep m.ld);have hpa:a.len≤64:=by omega
  have hax:(pad (row a))[n]? = some (rep (a.c n)):=by rw [om _ _ (by omega),ff]
  have hmx:(pad (row m))[n+1]? = some (rep m.ld):=by
   rw [om _ _ (by omega),ff]
   unfold Pol.ld;rw [hn]; rfl
  have ha0:=k8 (a.c n);have w0:IntKind.i64.wrap ((n:Int)+1-1)=(n:Int):=(w64 (x:=(n:Int)+1-1) (by omega)).trans (by omega)
  have w0':IntKind.i64.wrap (n:Int)=(n:Int):=w64 (by omega)
  have w1:IntKind.i64.wrap (rep (a.c n))=rep (a.c n):=w64 (by omega)
  have w2:IntKind.i64.wrap (inv p (rep m.ld))=inv p (rep m.ld):=w64 (by omega)
  have gm:=gv (x:=rep (a.c n)) (y:=inv p (rep m.ld)) (b:=10) (c:=10) (by omega) (by omega) (by omega)
  have w3:IntKind.i64.wrap (rep (a.c n)*inv p (rep m.ld))=rep (a.c n)*inv p (rep m.ld):=w64 (by omega)
  have w4:(rep (a.c n)*inv p (rep m.ld)).tmod p=rep (a.c n)*inv p (rep m.ld)%p:=ci (ec ha0.1 hin.1);have hq:0≤rep (a.c n)*inv p (rep m.ld)%p∧rep (a.c n)*inv p (rep m.ld)%p<p:=⟨d8 _ (by omega),ck _ (by omega)⟩
  have hqz:zp p (rep (a.c n)*inv p (rep m.ld)%p)=a.c n*Fd.inv m.ld:=by
   rw [tt,xf,jb,ul _ (Pol.ld_ne hm)]
  generalize rep (a.c n)*inv p (rep m.ld)%p=q at *;have l0:=Wf (O:=den T A) (p:=p) (a:=pad (row a)) (mm:=pad (row m)) (z:=pad []) (n:=n+1) (top:=rep (a.c n)) (cx _) (by omega) n 1 (pad []) (by omega) (b9 1) (cx _)
  have hz:∀j,cf (pad []) j=0:=fun j=>by rw [Aa (by simp),n4 (by simp)]
  have c0:∀j,cf (upd (fun j=>cf (pad (row a)) (j-1)) n 1 (pad [])) j=if 1≤j∧j<n+1 then rep (a.c (j-1)) else 0:=fun j=>by
   rw [Wm,hz,cx]
   by_cases h:1≤j∧j<n+1
   ·rw [if_pos (by omega),if_pos h,oa hpa]
   ·rw [if_neg (by omega),if_neg h]
  have hlen0:(upd (fun j=>cf (pad (row a)) (j-1)) n 1 (pad [])).length=64:=by rw [tv,cx]
  generalize upd (fun j=>cf (pad (row a)) (j-1)) n 1 (pad [])=out at *
  have hcan0:Can p out:=Can.of_cf fun j _=>by rw [c0]; split; exact k8 _; omega
  have l1:=Vj (O:=den T A) (p:=p) (q:=q) (b:=pad (row m)) (z:=pad []) (out:=out) (n:=n+1) rfl (tq m) (cx _) hq (by omega) hcan0 (n+1) 0 out (by omega) hlen0 (fun _ _=>rfl)
  have hres:upd (fun j=>(cf out j-q*cf (pad (row m)) j)%p) (n+1) 0 out=pad (row (Pol.X*a%m)):=by
   have hlenR:(upd (fun j=>(cf out j-q*cf (pad (row m)) j)%p) (n+1) 0 out).length=64:=by rw [tv,hlen0]
   have hcR:∀j,cf (upd (fun j=>(cf out j-q*cf (pad (row m)) j)%p) (n+1) 0 out) j=if j<n+1 then (cf out j-q*rep (m.c j))%p else 0:=fun j=>by
    rw [Wm,hlen0]
    by_cases h:j<n+1
    ·rw [if_pos (by omega),if_pos h,oa hml]
    ·rw [if_neg (by omega),if_neg h,c0,if_neg (by omega)]
   have hcanR:Can p (upd (fun j=>(cf out j-q*cf (pad (row m)) j)%p) (n+1) 0 out):=Can.of_cf fun j _=>by
    rw [hcR]; split
    ·exact ⟨d8 _ (by omega),ck _ (by omega)⟩
    ·omega
   rw [I5 hcanR hlenR]
   congr 2
   symm
   refine (Pol.div_mod_eq (q:=Pol.C (zp p q)) ?_ ?_).2
   ·refine Pol.ext fun j=>?_
    rw [Pol.c_add,Pol.c_Cmul,Pol.c_Xmul,gn,hcR];rcases ij j (n+1) with h | h | h
    ·rw [if_pos h,tt,Xs,xf,jb,c0]
     by_cases hj:j=0
     ·subst hj
      rw [if_pos rfl,if_neg (by omega),vm]
      exact bv [zp p q,m.c 0] rfl
     ·rw [if_neg hj,if_pos (by omega),jb]
      exact bv [zp p q,m.c j,a.c (j-1)] rfl
    ·subst h
     rw [if_neg (by omega),if_neg (by omega),vm,Gq.add_zero,hqz]
     have e:m.c (n+1)=m.ld:=by unfold Pol.ld; rw [hn]; rfl
     rw [e,Gq.mul_assoc,Gq.mul_comm (Fd.inv m.ld),Fd.mul_inv _ (Pol.ld_ne hm),Gq.mul_one]; rfl
    ·rw [if_neg (by omega),if_neg (by omega),vm,m.lt_len j (by omega),Gq.mul_zero,Gq.add_zero,a.lt_len (j-1) (by omega)]
   ·have:(f7 p (upd (fun j=>(cf out j-q*cf (pad (row m)) j)%p) (n+1) 0 out)).lt (n+1):=fun j hj=>by
     rw [gn,hcR,if_neg (by omega)]; rfl
    have:=Pol.len_le this;omega
  rw [hres] at l1;have e0:((0:Nat):Int)=0:=rfl;have e11:((1:Nat):Int)=1:=rfl;have en:((n+1:Nat):Int)=(n:Int)+1:=by omega
  rw [e0,en] at l1;rw [e11,en] at l0;rw [en] at e1';have hp0:p≠0:=by omega
  have hn64:n<64:=by omega
  have hn65:n+1<64:=by omega
  have t1:¬ (n:Int)+1=0:=by omega
  have t2:(0:Int)≤(n:Int)+1:=by omega
  have t3:((n:Int)+1).toNat=n+1:=by omega
  generalize pad (row (Pol.X*a%m))=R at *;generalize pad (row a)=PA at *;generalize pad (row m)=PM at *;simp -implicitDefEqProofs [Z2z,Z2z_B,ap,e1',e3,hax,hmx,w0',w1,w2,w3,w4,l0,l1,hn64,hn65,t1,t2,t3,hp0]
def nv {p:Int} (b:Fp p) (i:Nat):Fp p:=⟨fun j=>b.c (i+j),b.len,fun j hj=>b.lt_len _ (by omega)⟩
theorem Mr {p:Int} (b:Fp p):nv b 0=b:=Pol.ext fun j=>by show b.c (0+j)=b.c j; rw [b7]
theorem Sp {p:Int} (b:Fp p):nv b b.len=0:=Pol.ext fun j=>b.lt_len _ (by omega)
theorem Ou {p:Int} (b:Fp p) (i:Nat):nv b i=Pol.X*nv b (i+1)+Pol.C (b.c i):=Pol.ext fun j=>by
 rw [Pol.c_add,Pol.c_Xmul,Pol.c_C];show b.c (i+j)=(if j=0 then 0 else b.c (i+1+(j-1)))+if j=0 then b.c i else 0
 by_cases h:j=0
 ·subst h; rw [if_pos rfl,if_pos rfl,Gq.zero_add]; rfl
 ·rw [if_neg h,if_neg h,Gq.add_zero,show i+1+(j-1)=i+j by omega]
theorem G2 {O:af} (hu:Qo O) (ha:s9 O) (hmo:zn O) {p:Int} [IsP p] {a b m:Fp p} {z:List Int} (hm:m≠0) (hml:m.len≤64) (hal:a.len≤64) (hbl:b.len≤64):∀(n:Nat),n≤b.len →
 dn O 0 (.loop Z2t_L0) ⟨[(0,(.d (.int .i64 p))),(5,.ptr 0 []),(6,.ptr 1 []),(7,.ptr 2 []),(8,.ptr 3 []),(9,.ptr 4 []),(10,(.d (.int .i64 ((n:Int)-1))))],[.box false (D.arr 64 .leaf (am .u8 (pad (row a)))),.box false (D.arr 64 .leaf (am .u8 (pad (row b)))),.box false (D.arr 64 .leaf (am .u8 (pad (row m)))),.box false (D.arr 64 .leaf (am .u8 z)),.box false (D.arr 64 .leaf (am .u8 (pad (row (a*nv b n%m)))))]⟩ =
  some (.exit 0,⟨[(0,(.d (.int .i64 p))),(5,.ptr 0 []),(6,.ptr 1 []),(7,.ptr 2 []),(8,.ptr 3 []),(9,.ptr 4 []),(10,(.d (.int .i64 (-1)))),(15,(.d (.bool false)))],[.box false (D.arr 64 .leaf (am .u8 (pad (row a)))),.box false (D.arr 64 .leaf (am .u8 (pad (row b)))),.box false (D.arr 64 .leaf (am .u8 (pad (row m)))),.box false (D.arr 64 .leaf (am .u8 z)),.box false (D.arr 64 .leaf (am .u8 (pad (row (a*b%m)))))]⟩)
 | 0,_=>by
  rw [Mr];exact bo (by simp -implicitDefEqProofs [Z2t_L0,ap])
 | n+1,hn=>by
  have hp:=IsP.pos (p:=p);have hp7:=IsP.le (p:=p);have hlr:=Pol.len_mod (a*nv b (n+1)) hm;have hr:=k8 (b.c n);have e1:=hu p (a*nv b (n+1)%m) m hm hlr hml;have hl2:=Pol.len_mod (Pol.X*(a*nv b (n+1)%m)) hm;have e2:=ha p (rep (b.c n)) (Pol.X*(a*nv b (n+1)%m)%m) a (by omega) (by omega) (by omega) hal
  rw [jb] at e2;have hl3:=Pol.len_add_le (a:=Pol.X*(a*nv b (n+1)%m)%m) (b:=Pol.C (b.c n)*a) (n:=64) (by omega) (ni (Pol.len_le (Pol.lt_Cmul _ a.lt_len)) hal)
  have e3:=hmo p (Pol.X*(a*nv b (n+1)%m)%m+Pol.C (b.c n)*a) m hm hl3 hml
  have e4:(Pol.X*(a*nv b (n+1)%m)%m+Pol.C (b.c n)*a)%m=a*nv b n%m:=by
   rw [Ou b n,Pol.mod_eq_iff hm,Quo.mk_add,Pol.mk_mod,Quo.mk_mul,Pol.mk_mod,←Quo.mk_mul,←Quo.mk_add]
   congr 1
   exact bv [Pol.X,a,nv b (n+1),Pol.C (b.c n)] rfl
  rw [e4] at e3;have t0:(((n+1:Nat):Int)-1)=(n:Int):=by omega
  rw [t0];have hn64:n<64:=by omega
  have hx:(pad (row b))[n]? = some (rep (b.c n)):=by rw [om _ _ hn64,ff]
  have w1:IntKind.i64.wrap (rep (b.c n))=rep (b.c n):=w64 (by omega)
  have w2:IntKind.i64.wrap ((n:Int)-1)=(n:Int)-1:=w64 (by omega)
  refine bm ?_ (G2 hu ha hmo hm hml hal hbl n (by omega))
  generalize pad (row (a*nv b n%m))=R at *;generalize pad (row (a*nv b (n+1)%m))=R1 at *;generalize pad (row (Pol.X*(a*nv b (n+1)%m)%m+Pol.C (b.c n)*a))=R2 at *;generalize pad (row (Pol.X*(a*nv b (n+1)%m)%m))=R3 at *;generalize pad (row a)=PA at *;generalize pad (row b)=PB at *;generalize pad (row m)=PM at *;simp -implicitDefEqProofs [Z2t_L0,ap,e1,e2,e3,hn64,hx,w1,w2]
def wt (O:af):Prop:=∀(p:Int) [IsP p] (a b m:Fp p),m≠0→m.len≤64→a.len≤64→b.len≤64 →
 ask O F2t [(D.int .i64 p),(D.arr 64 .leaf (am .u8 (pad (row a)))),(D.arr 64 .leaf (am .u8 (pad (row b)))),(D.arr 64 .leaf (am .u8 (pad (row m))))]=some (D.arr 64 .leaf (am .u8 (pad (row (a*b%m)))))
theorem Su (hT:T F2t=some Z2t) (hd:k9 (den T A)) (hu:Qo (den T A)) (ha:s9 (den T A)) (hmo:zn (den T A)):wt (den T A):=by
 intro p i a b m hm hml hal hbl;have e1:=hd p b hbl;have e2:=G2 (O:=den T A) (z:=pad []) hu ha hmo hm hml hal hbl b.len (b9 _);rw [Sp,Gq.mul_zero,Pol.zero_mod hm,du] at e2;refine br hT rfl ?_;generalize pad (row (a*b%m))=R at *;generalize pad (row a)=PA at *;generalize pad (row b)=PB at *;generalize pad (row m)=PM at *;simp -implicitDefEqProofs [Z2t,Z2t_B,e1,e2]
theorem a1y {O:af} (hmm:wt O) {p:Int} [IsP p] {m:Fp p} {z:List Int} {hol:Blk} (hh:hol=.hole) (hm:m≠0) (hml:m.len≤64):∀(n:Nat) (k:Int) (out base:Fp p),0≤k→k.toNat<2^n→k<4611686018427387904→out.len<m.len→base.len<m.len→∃base':List Int,
 dn O 0 (.loop Z2v_L0) ⟨[(0,(.d (.int .i64 p))),(2,(.d (.int .i64 k))),(7,.ptr 1 []),(8,.ptr 2 []),(9,.ptr 3 []),(10,.ptr 4 [])],[hol,.box false (D.arr 64 .leaf (am .u8 (pad (row m)))),.box false (D.arr 64 .leaf (am .u8 z)),.box false (D.arr 64 .leaf (am .u8 (pad (row out)))),.box false (D.arr 64 .leaf (am .u8 (pad (row base))))]⟩ =
  some (.exit 0,⟨[(0,(.d (.int .i64 p))),(2,(.d (.int .i64 0))),(7,.ptr 1 []),(8,.ptr 2 []),(9,.ptr 3 []),(10,.ptr 4 []),(20,(.d (.bool false)))],[hol,.box false (D.arr 64 .leaf (am .u8 (pad (row m)))),.box false (D.arr 64 .leaf (am .u8 z)),.box false (D.arr 64 .leaf (am .u8 (pad (row (out*pw base k.toNat%m))))),.box false (D.arr 64 .leaf (am .u8 base'))]⟩):=by
 intro n
 induction n with
 | zero=>
  intro k out base hk hn _ ho hb;obtain rfl:k=0:=by simp at hn; omega
  refine ⟨pad (row base),?_⟩
  have e:out*pw base (0:Int).toNat%m=out:=by
   show out*1%m=out;rw [Gq.mul_one,Pol.mod_small ho]
  rw [e];subst hh;exact bo (by simp -implicitDefEqProofs [Z2v_L0,ap])
 | succ n ih=>
  intro k out base hk hn hkm ho hb
  by_cases h0:k=0
  ·subst h0
   refine ⟨pad (row base),?_⟩
   have e:out*pw base (0:Int).toNat%m=out:=by
    show out*1%m=out;rw [Gq.mul_one,Pol.mod_small ho]
   rw [e];subst hh;exact bo (by simp -implicitDefEqProofs [Z2v_L0,ap])
  ·have hkp:0<k:=by omega
   have t1:=hmm p out base m hm hml (by omega) (by omega)
   have t2:=hmm p base base m hm hml (by omega) (by omega)
   have s:=Pol.bin_step (out:=out) (base:=base) hm k.toNat (by omega)
   have hdiv:(k/2).toNat=k.toNat/2:=by omega
   obtain ⟨b',e⟩:=ih (k/2) (if k.toNat%2=1 then out*base%m else out) (base*base%m) (by omega) (by rw [lc] at hn; omega) (by omega) (by split; exact Pol.len_mod _ hm; exact ho) (Pol.len_mod _ hm)
   rw [hdiv,s] at e;refine ⟨b',bm ?_ e⟩;subst hh;have w1:IntKind.i64.wrap (k.tdiv 2)=k/2:=by rw [Int.tdiv_eq_ediv_of_nonneg hk,w64 (by omega)]
   have w2:k.tmod 2=k%2:=ci hk
   by_cases hodd:k%2=1
   ·rw [if_pos (show k.toNat%2=1 by omega)]
    generalize pad (row (out*base%m))=R1 at *;generalize pad (row (base*base%m))=R2 at *;generalize pad (row out)=R3 at *;generalize pad (row base)=R4 at *;generalize pad (row m)=R5 at *;simp -implicitDefEqProofs [Z2v_L0,ap,hkp,t1,t2,w1,w2,hodd]
   ·rw [if_neg (show ¬ k.toNat%2=1 by omega)]
    generalize pad (row (base*base%m))=R2 at *;generalize pad (row out)=R3 at *;generalize pad (row base)=R4 at *;generalize pad (row m)=R5 at *;simp -implicitDefEqProofs [Z2v_L0,ap,hkp,t2,w1,w2,hodd]
def py (O:af):Prop:=∀(p:Int) [IsP p] (a:Fp p) (k:Int) (m:Fp p),m≠0→a.len≤64→m.len≤64→0≤k→k<4611686018427387904 →
 ask O F2v [(D.int .i64 p),(D.arr 64 .leaf (am .u8 (pad (row a)))),(D.int .i64 k),(D.arr 64 .leaf (am .u8 (pad (row m))))]=some (D.arr 64 .leaf (am .u8 (pad (row (pw a k.toNat%m)))))
theorem Sm (hT:T F2v=some Z2v) (h1:Hp (den T A)) (hmo:zn (den T A)) (hmm:wt (den T A)):py (den T A):=by
 intro p i a k m hm hal hml hk hkm;have e1:=h1 p;have e2:=hmo p 1 m hm (by rw [Pol.len_one]; omega) hml
 have e3:=hmo p a m hm hal hml;obtain ⟨b',e⟩:=a1y (O:=den T A) hmm (z:=pad []) (hol:=.hole) rfl hm hml 62 k (1%m) (a%m) hk (by omega) hkm (Pol.len_mod _ hm) (Pol.len_mod _ hm)
 have e4:1%m*pw (a%m) k.toNat%m=pw a k.toNat%m:=by
  rw [Pol.mul_mod_left _ _ hm,Gq.one_mul,Pol.pow_mod _ hm]
 rw [e4] at e;refine br hT rfl ?_;generalize pad (row (pw a k.toNat%m))=R at *;generalize pad (row (1%m))=R1 at *;generalize pad (row (a%m))=R2 at *;generalize pad (row (1:Fp p))=R3 at *;generalize pad (row a)=PA at *;generalize pad (row m)=PM at *;simp -implicitDefEqProofs [Z2v,Z2v_B,e1,e2,e3,e]
end Pe

namespace Pe
open Go Gq
section
variable {p:Int} [IsP p]
noncomputable def frW (m:Fp p) (k:Nat):Fp p:=pw Pol.X (p.toNat^k)%m-Pol.X
theorem Uh {m q:Fp p} (_hm:m≠0) (hq:Dv q m) (k:Nat):Dv q (frW m k)↔Dv q (frT p k):=by
 have h1:frT p k=frW m k+pw Pol.X (p.toNat^k)/m*m:=by
  have h:=Pol.div_mod (pw Pol.X (p.toNat^k)) m;show pw Pol.X (p.toNat^k)-Pol.X=pw Pol.X (p.toNat^k)%m-Pol.X+pw Pol.X (p.toNat^k)/m*m;generalize pw Pol.X (p.toNat^k)%m=R at *;generalize pw Pol.X (p.toNat^k)/m=Q at *;rw [h];exact bv [Q,m,R,Pol.X] rfl
 have h2:Dv q (pw Pol.X (p.toNat^k)/m*m):=hq.mul_left _;constructor
 ·intro h; rw [h1]; exact h.add h2
 ·intro h
  have:=h.sub h2;rw [h1] at this;have e:frW m k+pw Pol.X (p.toNat^k)/m*m-pw Pol.X (p.toNat^k)/m*m=frW m k:=bv [frW m k,pw Pol.X (p.toNat^k)/m,m] rfl
  rwa [e] at this
theorem U1 {m:Fp p} (h2:2≤m.len) (h13:m.len≤13):(∀k,1≤k→2*k≤m.len-1→(Pol.gcd m (frW m k)).len=1)↔Irr m:=by
 have hm:m≠0:=fun h=>by rw [h,Pol.len_zero] at h2; omega
 have small:∀d,d≤12→p^d<1000000000000:=fun d hd=>by
  have h1:=kr (p:=p) (by have:=IsP.pos (p:=p); omega) hd
  have h7:=og (p:=p) (n:=12) (by omega)
  omega
 constructor
 ·intro h
  refine uk (n:=(m.len-1)/2+1) (fun q hq hd=>?_) h2 (by omega)
  rcases dg ((m.len-1)/2+1) q.len with g | g
  ·omega
  ·exfalso
   have hl:=hq.len;have h1:=h (q.len-1) (by omega) (by omega)
   have h3:Dv q (frT p (q.len-1)):=R7 hq (by omega) (small _ (by omega))
   have h4:=Pol.dv_gcd (.inl hm) hd ((Uh hm hd _).2 h3);have h5:=h4.len (fun h0=>by rw [h0,Pol.len_zero] at h1; omega)
   omega
 ·intro hi k hk hk2
  by_cases hd:Dv m (frW m k)
  ·have h3:=(Uh hm (Dv.refl m) k).1 hd
   have:=D4 hi (d:=m.len-1) (by omega) (small _ (by omega)) hk h3
   omega
  ·obtain ⟨u,v,e⟩:=hi.coprime hd
   have h1:=Pol.gcd_dv_left (a:=m) (b:=frW m k) (.inl hm);have h3:=Pol.gcd_dv_right (a:=m) (b:=frW m k) (.inl hm)
   have h4:Dv (Pol.gcd m (frW m k)) 1:=by
    rw [←e];exact (h1.mul_left u).add (h3.mul_left v)
   have h5:=h4.len Pol.one_ne;rw [Pol.len_one] at h5;have h6:=Pol.len_pos (Pol.gcd_monic (a:=m) (b:=frW m k) (.inl hm)).2;omega
theorem Yp {m:Fp p} (hi:Irr m) (hm:Monic m):IsFac m [(m,1)] where
 ok:=⟨fun x hx=>by simp only [bg] at hx; subst hx; exact ⟨hi,hm,b9 1⟩,dy _ _⟩
 sorted:=dy _ _
 eq:=by
  rw [hm.1,Pol.C_one,Gq.one_mul];show m=pw m 1*1;rw [z9,Gq.mul_one]
theorem Xz {m:Fp p} {L:jx p} (hm:Monic m) (h:IsFac m L):(∃q,L=[(q,1)])↔Irr m:=by
 constructor
 ·rintro ⟨q,rfl⟩
  have e:=h.eq;rw [hm.1,Pol.C_one,Gq.one_mul] at e
  have e2:je [(q,1)]=q:=by
   show pw q 1*1=q;rw [z9,Gq.mul_one]
  rw [e2] at e;rw [e];exact (h.ok.irr (q,1) (by simp)).1
 ·intro hi
  exact ⟨m,h.unique hm.2 (Yp hi hm)⟩
end
end Pe

namespace Pe
open Go Gq
variable {T:Nat→Option Fn} {A:af}
section
variable {p:Int}
def Bb (a:Fp p) (i:Nat):Fp p:=⟨fun n=>if n<i then a.c n else 0,i,fun n hn=>if_neg (by omega)⟩
theorem Il (a:Fp p) (i n:Nat):(Bb a i).c n=if n<i then a.c n else 0:=rfl
theorem Ep (a:Fp p):Bb a 0=0:=Pol.ext fun n=>by rw [Il,if_neg (by omega)]; rfl
theorem Lo (a:Fp p):Bb a a.len=a:=Pol.ext fun n=>by
 rw [Il]
 split
 ·rfl
 ·rename_i h; exact (a.lt_len n (by omega)).symm
end
section
variable {p:Int} [IsP p]
theorem Ul (k:Zp p) (n i:Nat):(Pol.mo k n).c i=if i=n then k else 0:=rfl
theorem A0 (a:Fp p) (i:Nat):Bb a (i+1)=Bb a i+Pol.mo (a.c i) i:=Pol.ext fun n=>by
 rw [Pol.c_add,Il,Il,Ul]
 by_cases h:n=i
 ·subst h; rw [if_pos (by omega),if_neg (by omega),if_pos rfl,Gq.zero_add]
 ·rw [if_neg h,Gq.add_zero]
  by_cases h2:n<i
  ·rw [if_pos (by omega),if_pos h2]
  ·rw [if_neg (by omega),if_neg h2]
theorem a04 (n:Nat):(Pol.mo 0 n:Fp p)=0:=Pol.ext fun i=>by rw [Ul]; split <;> rfl
theorem a5g (k l:Zp p) (n m:Nat):(Pol.mo k n*Pol.mo l m:Fp p)=Pol.mo (k*l) (n+m):=Pol.ext fun i=>by
 rw [M4,Ul,Ul]
 by_cases h:n≤i
 ·rw [if_pos h]
  by_cases h2:i-n=m
  ·rw [if_pos h2,if_pos (by omega)]
  ·rw [if_neg h2,if_neg (by omega),Gq.mul_zero]
 ·rw [if_neg h,if_neg (by omega)]
theorem En {cur:List Int} {k:Nat} (h:k<cur.length) (t:Int):f7 p (cur.set k ((cf cur k+t)%p))=f7 p cur+Pol.mo (zp p t) k:=Pol.ext fun j=>by
 rw [Pol.c_add,gn,gn,tl,Ul]
 by_cases h1:j=k
 ·subst h1
  rw [if_pos ⟨rfl,h⟩,if_pos rfl,tt,Nw]
 ·rw [if_neg (by omega),if_neg h1,Gq.add_zero]
end
theorem Uz {O:af} {p:Int} [IsP p] {a b:Fp p} {z:List Int} {n i:Nat} (hn:n<64) (hi:i<a.len) (hal:a.len≤64) (hbl:b.len≤64) (hab:a.len+b.len≤65) (hb1:0<b.len) (hai:a.c i≠0) {P:Fp p} {vn:V} (hvn:vn.refs=[]):∀(m j:Nat) (cur:List Int),j+m=b.len→cur.length=64→Can p cur→f7 p cur=P+Pol.mo (a.c i) i*Bb b j→∃cur':List Int,cur'.length=64∧Can p cur'∧f7 p cur'=P+Pol.mo (a.c i) i*b ∧
 dn O 0 (.loop Z2y_L0) ⟨[(0,(.d (.int .i64 p))),(4,.ptr 0 []),(5,.ptr 1 []),(6,.ptr 2 []),(8,vn),(9,(.d (.int .i64 (((b.len-1:Nat):Int))))),(10,.ptr 3 []),(11,(.d (.int .i64 i))),(12,(.d (.int .i64 j)))],[.box false (D.arr 64 .leaf (am .u8 (pad (row a)))),.box false (D.arr 64 .leaf (am .u8 (pad (row b)))),.box false (D.arr 64 .leaf (am .u8 z)),.box false (D.arr 64 .leaf (am .u8 cur))]⟩ =
  some (.exit 2,⟨[(0,(.d (.int .i64 p))),(4,.ptr 0 []),(5,.ptr 1 []),(6,.ptr 2 []),(8,vn),(9,(.d (.int .i64 (((b.len-1:Nat):Int))))),(10,.ptr 3 []),(11,(.d (.int .i64 i))),(12,(.d (.int .i64 b.len))),(43,(.d (.bool false)))],[.box false (D.arr 64 .leaf (am .u8 (pad (row a)))),.box false (D.arr 64 .leaf (am .u8 (pad (row b)))),.box false (D.arr 64 .leaf (am .u8 z)),.box false (D.arr 64 .leaf (am .u8 cur'))]⟩)
 | 0,j,cur,hj,hc,hcan,he=>by
  obtain rfl:j=b.len:=by omega
  rw [Lo] at he;have hlt:¬ (b.len:Int)≤((b.len-1:Nat):Int):=by omega
  refine ⟨cur,hc,hcan,he,bo ?_⟩;generalize ((b.len-1:Nat):Int)=m1 at *;generalize pad (row a)=PA at *;generalize pad (row b)=PB at *;simp -implicitDefEqProofs [Z2y_L0,ap,hlt,hvn]
 | m+1,j,cur,hj,hc,hcan,he=>by
  have hp:=IsP.pos (p:=p);have hp7:=IsP.le (p:=p);have hp0:p≠0:=by omega
  have hlt:(j:Int)≤((b.len-1:Nat):Int):=by omega
  have hi64:i<64:=by omega
  have hj64:j<64:=by omega
  have hij:i+j<64:=by omega
  have hs0:(0:Int)≤(i:Int)+j:=by omega
  have hs1:((i:Int)+j).toNat=i+j:=by omega
  have hx:(pad (row a))[i]? = some (rep (a.c i)):=by rw [om _ _ hi64,ff]
  have hy:(pad (row b))[j]? = some (rep (b.c j)):=by rw [om _ _ hj64,ff]
  have hx0:rep (a.c i)≠0:=fun h=>hai (gt.1 h)
  have hr1:=k8 (a.c i);have hr2:=k8 (b.c j);have hkc:i+j<cur.length:=by omega
  have hw:cur[i+j]=cf cur (i+j):=(dp hkc).symm;have gc:=hcan.le hp (i+j);have gm:=gv (x:=rep (a.c i)) (y:=rep (b.c j)) (b:=10) (c:=10) (by omega) (by omega) (by omega)
  have gm0:=ec hr1.1 hr2.1;have w0:IntKind.i64.wrap ((i:Int)+j)=((i+j:Nat):Int):=(w64 (x:=(i:Int)+j) (by omega)).trans (by omega)
  have w1:IntKind.i64.wrap (rep (a.c i))=rep (a.c i):=w64 (by omega)
  have w2:IntKind.i64.wrap (rep (b.c j))=rep (b.c j):=w64 (by omega)
  have w3:IntKind.i64.wrap (cf cur (i+j))=cf cur (i+j):=w64 (by omega)
  have w4:IntKind.i64.wrap (rep (a.c i)*rep (b.c j))=rep (a.c i)*rep (b.c j):=w64 (by omega)
  have w5:IntKind.i64.wrap (cf cur (i+j)+rep (a.c i)*rep (b.c j))=cf cur (i+j)+rep (a.c i)*rep (b.c j):=w64 (by omega)
  have w6:(cf cur (i+j)+rep (a.c i)*rep (b.c j)).tmod p=(cf cur (i+j)+rep (a.c i)*rep (b.c j))%p:=ci (by omega)
  have hin:=d8 (cf cur (i+j)+rep (a.c i)*rep (b.c j)) hp0;have hin2:=ck (cf cur (i+j)+rep (a.c i)*rep (b.c j)) hp;have w7:IntKind.u8.wrap ((cf cur (i+j)+rep (a.c i)*rep (b.c j))%p)=(cf cur (i+j)+rep (a.c i)*rep (b.c j))%p:=w8 (by omega)
  have w8':IntKind.i64.wrap ((j:Int)+1)=((j+1:Nat):Int):=(w64 (x:=(j:Int)+1) (by omega)).trans (by omega)
  have hnew:f7 p (cur.set (i+j) ((cf cur (i+j)+rep (a.c i)*rep (b.c j))%p))=P+Pol.mo (a.c i) i*Bb b (j+1):=by
   rw [En hkc,he,xf,jb,jb,A0,Gq.mul_add,a5g,Gq.add_assoc]
  have hcan':Can p (cur.set (i+j) ((cf cur (i+j)+rep (a.c i)*rep (b.c j))%p)):=fun x hx=>by
   rcases d9 hx with h | rfl
   ·exact hcan x h
   ·exact ⟨hin,hin2⟩
  obtain ⟨cur',g1,g2,g3,g4⟩:=Uz (O:=O) (z:=z) hn hi hal hbl hab hb1 hai hvn m (j+1) (cur.set (i+j) ((cf cur (i+j)+rep (a.c i)*rep (b.c j))%p)) (by omega) (by rw [c5]; exact hc) hcan' hnew
  have hs:am .u8 (cur.set (i+j) ((cf cur (i+j)+rep (a.c i)*rep (b.c j))%p))=(am .u8 cur).set (i+j) (D.int .u8 ((cf cur (i+j)+rep (a.c i)*rep (b.c j))%p)):=by unfold am; rw [pq]
  rw [hs] at g4;refine ⟨cur',g1,g2,g3,bm ?_ g4⟩;generalize (cf cur (i+j)+rep (a.c i)*rep (b.c j))%p=W at *;generalize ((b.len-1:Nat):Int)=m1 at *;generalize pad (row a)=PA at *;generalize pad (row b)=PB at *;simp -implicitDefEqProofs [Z2y_L0,ap,hlt,hi64,hj64,hij,hs0,hs1,hx,hy,hx0,hc,hw,w0,w1,w2,w3,w4,w5,w6,w7,w8',hp0,hvn]
theorem P9 {O:af} {p:Int} [IsP p] {a b:Fp p} {z:List Int} (hal:a.len≤64) (hbl:b.len≤64) (hab:a.len+b.len≤65) (ha1:0<a.len) (hb1:0<b.len):∀(m i:Nat) (cur:List Int),i+m=a.len→cur.length=64→Can p cur→f7 p cur=Bb a i*b→∃cur':List Int,cur'.length=64∧Can p cur'∧f7 p cur'=a*b ∧
 dn O 0 (.loop Z2y_L1) ⟨[(0,(.d (.int .i64 p))),(4,.ptr 0 []),(5,.ptr 1 []),(6,.ptr 2 []),(8,(.d (.int .i64 (((a.len-1:Nat):Int))))),(9,(.d (.int .i64 (((b.len-1:Nat):Int))))),(10,.ptr 3 []),(11,(.d (.int .i64 i)))],[.box false (D.arr 64 .leaf (am .u8 (pad (row a)))),.box false (D.arr 64 .leaf (am .u8 (pad (row b)))),.box false (D.arr 64 .leaf (am .u8 z)),.box false (D.arr 64 .leaf (am .u8 cur))]⟩ =
  some (.exit 0,⟨[(0,(.d (.int .i64 p))),(4,.ptr 0 []),(5,.ptr 1 []),(6,.ptr 2 []),(8,(.d (.int .i64 (((a.len-1:Nat):Int))))),(9,(.d (.int .i64 (((b.len-1:Nat):Int))))),(10,.ptr 3 []),(11,(.d (.int .i64 a.len))),(32,(.d (.bool false)))],[.box false (D.arr 64 .leaf (am .u8 (pad (row a)))),.box false (D.arr 64 .leaf (am .u8 (pad (row b)))),.box false (D.arr 64 .leaf (am .u8 z)),.box false (D.arr 64 .leaf (am .u8 cur'))]⟩)
 | 0,i,cur,hi,hc,hcan,he=>by
  obtain rfl:i=a.len:=by omega
  rw [Lo] at he;have hlt:¬ (a.len:Int)≤((a.len-1:Nat):Int):=by omega
  refine ⟨cur,hc,hcan,he,bo ?_⟩;generalize ((b.len-1:Nat):Int)=m1 at *;generalize ((a.len-1:Nat):Int)=n1 at *;generalize pad (row a)=PA at *;generalize pad (row b)=PB at *;simp -implicitDefEqProofs [Z2y_L1,ap,hlt]
 | m+1,i,cur,hi,hc,hcan,he=>by
  have hlt:(i:Int)≤((a.len-1:Nat):Int):=by omega
  have hi64:i<64:=by omega
  have w8':IntKind.i64.wrap ((i:Int)+1)=((i+1:Nat):Int):=(w64 (x:=(i:Int)+1) (by omega)).trans (by omega)
  have hx:(pad (row a))[i]? = some (rep (a.c i)):=by rw [om _ _ hi64,ff]
  by_cases hai:a.c i=0
  ·have hr:rep (a.c i)=0:=gt.2 hai
   have he':f7 p cur=Bb a (i+1)*b:=by rw [A0,hai,a04,Gq.add_zero]; exact he
   obtain ⟨cur',g1,g2,g3,g4⟩:=P9 (O:=O) (z:=z) hal hbl hab ha1 hb1 m (i+1) cur (by omega) hc hcan he'
   rw [hr] at hx
   have hin:dn O 0 (.loop Z2y_L0) ⟨[(0,(.d (.int .i64 p))),(4,.ptr 0 []),(5,.ptr 1 []),(6,.ptr 2 []),(8,(.d (.int .i64 (((a.len-1:Nat):Int))))),(9,(.d (.int .i64 (((b.len-1:Nat):Int))))),(10,.ptr 3 []),(11,(.d (.int .i64 i))),(12,(.d (.int .i64 0)))],[.box false (D.arr 64 .leaf (am .u8 (pad (row a)))),.box false (D.arr 64 .leaf (am .u8 (pad (row b)))),.box false (D.arr 64 .leaf (am .u8 z)),.box false (D.arr 64 .leaf (am .u8 cur))]⟩ =
    some (.exit 2,⟨[(0,(.d (.int .i64 p))),(4,.ptr 0 []),(5,.ptr 1 []),(6,.ptr 2 []),(8,(.d (.int .i64 (((a.len-1:Nat):Int))))),(9,(.d (.int .i64 (((b.len-1:Nat):Int))))),(10,.ptr 3 []),(11,(.d (.int .i64 i))),(12,(.d (.int .i64 0))),(43,(.d (.bool false)))],[.box false (D.arr 64 .leaf (am .u8 (pad (row a)))),.box false (D.arr 64 .leaf (am .u8 (pad (row b)))),.box false (D.arr 64 .leaf (am .u8 z)),.box false (D.arr 64 .leaf (am .u8 cur))]⟩):=by
    refine bo ?_;generalize b.len-1=m1 at *;generalize ((a.len-1:Nat):Int)=n1 at *;generalize pad (row a)=PA at *;generalize pad (row b)=PB at *;simp -implicitDefEqProofs [Z2y_L0,ap,hi64,hx]
   refine ⟨cur',g1,g2,g3,bm ?_ g4⟩;generalize ((b.len-1:Nat):Int)=m1 at *;generalize ((a.len-1:Nat):Int)=n1 at *;generalize pad (row a)=PA at *;generalize pad (row b)=PB at *;simp -implicitDefEqProofs [Z2y_L1,ap,hlt,hin,w8']
  ·obtain ⟨cur1,k1,k2,k3,k4⟩:=Uz (O:=O) (z:=z) (n:=0) (i:=i) (by omega) (by omega) hal hbl hab hb1 hai (P:=Bb a i*b) (vn:=(.d (.int .i64 (((a.len-1:Nat):Int))))) rfl b.len 0 cur (b7 _) hc hcan (by rw [Ep,Gq.mul_zero,Gq.add_zero]; exact he)
   have e00:((0:Nat):Int)=0:=rfl;rw [e00] at k4
   have he':f7 p cur1=Bb a (i+1)*b:=by
    rw [k3,A0];exact bv [Bb a i,b,Pol.mo (a.c i) i] rfl
   obtain ⟨cur',g1,g2,g3,g4⟩:=P9 (O:=O) (z:=z) hal hbl hab ha1 hb1 m (i+1) cur1 (by omega) k1 k2 he'
   refine ⟨cur',g1,g2,g3,bm ?_ g4⟩;generalize ((b.len-1:Nat):Int)=m1 at *;generalize ((a.len-1:Nat):Int)=n1 at *;generalize pad (row a)=PA at *;generalize pad (row b)=PB at *;simp -implicitDefEqProofs [Z2y_L1,ap,hlt,k4,w8']
def su (O:af):Prop:=∀(p:Int) [IsP p] (a b:Fp p),a.len≤64→b.len≤64→(a*b).len≤64 →
 ask O F2y [(D.int .i64 p),(D.arr 64 .leaf (am .u8 (pad (row a)))),(D.arr 64 .leaf (am .u8 (pad (row b))))]=some (.tup [(D.arr 64 .leaf (am .u8 (pad (row (a*b))))),(D.bool true)])
theorem Wg (hT:T F2y=some Z2y) (hd:k9 (den T A)):su (den T A):=by
 intro p i a b hal hbl hab;have e1:=hd p a hal;have e2:=hd p b hbl;refine br hT rfl ?_
 by_cases ha:a=0
 ·subst ha
  rw [Gq.zero_mul,du];rw [Pol.len_zero,du] at e1;generalize pad (row b)=PB at *;simp -implicitDefEqProofs [Z2y,Z2y_B,ap,e1,e2,List.replicate]
 ·have ha1:=Pol.len_pos ha
  by_cases hb:b=0
  ·subst hb
   rw [Gq.mul_zero,du];rw [Pol.len_zero,du] at e2;have ha2:¬ ((a.len:Int)-1<0):=by omega
   generalize pad (row a)=PA at *;simp -implicitDefEqProofs [Z2y,Z2y_B,ap,e1,e2,ha2,List.replicate]
  ·have hb1:=Pol.len_pos hb
   have hm:=Pol.len_mul ha hb;rw [show ((a.len:Int)-1)=((a.len-1:Nat):Int) by omega] at e1
   rw [show ((b.len:Int)-1)=((b.len-1:Nat):Int) by omega] at e2
   have w1:IntKind.i64.wrap (((a.len-1:Nat):Int)+((b.len-1:Nat):Int))=((a.len-1+(b.len-1):Nat):Int):=(w64 (by omega)).trans (by omega)
   have w2:¬ ((63:Int)<((a.len-1+(b.len-1):Nat):Int)):=by omega
   obtain ⟨cur',g1,g2,g3,g4⟩:=P9 (O:=den T A) (z:=pad []) hal hbl (by omega) ha1 hb1 a.len 0 (pad []) (b7 _) (cx _) (by
    have:=tq (0:Fp p); rwa [du] at this) (by
    rw [Ep,Gq.zero_mul];have:=qb (p:=p) (a:=0) (by rw [Pol.len_zero]; omega)
    rwa [du] at this)
   have e00:((0:Nat):Int)=0:=rfl;rw [e00] at g4;have hcur:cur'=pad (row (a*b)):=by rw [I5 g2 g1,g3]
   rw [hcur] at g4;have n1:¬ (((a.len-1:Nat):Int)<0):=by omega
   have n2:¬ (((b.len-1:Nat):Int)<0):=by omega
   generalize ((a.len-1+(b.len-1):Nat):Int)=s1 at *;generalize ((b.len-1:Nat):Int)=m1 at *;generalize ((a.len-1:Nat):Int)=k1 at *;generalize pad (row (a*b))=PR at *;generalize pad (row a)=PA at *;generalize pad (row b)=PB at *;simp -implicitDefEqProofs [Z2y,Z2y_B,ap,e1,e2,w1,w2,n1,n2,g4,List.replicate]
structure BzS {p:Int} [IsP p] (A B a b u x v y:Fp p):Prop where
 i:Pol.BzI A B a b u x v y
 la:a.len≤64
 lb:b.len≤64
 lu:u.len≤64
 lv:v.len≤64
 ne:a≠0
theorem BzS.step {p:Int} [IsP p] {A B a b u x v y:Fp p} (h:BzS A B a b u x v y) (hA:A.len≤64) (hB:B.len≤64) (hb:b≠0) :
 BzS A B b (a%b) x (u-a/b*x) y (v-a/b*y)∧x.len≤64∧y.len≤64∧(a/b).len≤64∧(a/b*x).len≤64∧(a/b*y).len≤64∧(a%b).len≤64:=by
 have h1:=h.i.lx;have h2:=h.i.ly;have h3:=Pol.len_pos h.ne;have h4:=Pol.len_pos hb;have h5:=Pol.len_div_le a hb;have h6:=Pol.len_mod_le a hb;obtain ⟨h7,h8⟩:=h.i.qlen hb;have h9:=h.la;have hx:x.len≤64:=by omega
 have hy:y.len≤64:=by omega
 exact ⟨⟨h.i.step hb,h.lb,by omega,hx,hy,hb⟩,hx,hy,by omega,by omega,by omega,by omega⟩
theorem Vz {O:af} (hdg:k9 O) (hd:od O) (ht:su O) (ha:s9 O) {p:Int} [IsP p] {z:List Int} {a b u x v y:Fp p} (h0:b≠0) (ha':a.len≤64) (hb:b.len≤64) (hu:u.len≤64) (hv:v.len≤64) (s1:x.len≤64) (s2:y.len≤64) (s3:(a/b).len≤64) (s4:(a/b*x).len≤64) (s5:(a/b*y).len≤64) :
 dn O 0 Z2j_L0 ⟨[(0,(.d (.int .i64 p))),(4,.ptr 0 []),(5,.ptr 1 []),(6,.ptr 2 []),(7,.ptr 3 []),(8,.ptr 4 []),(9,.ptr 5 []),(10,.ptr 6 []),(11,.ptr 7 []),(12,.ptr 8 [])],[.box false (D.arr 64 .leaf (am .u8 (pad (row a)))),.box false (D.arr 64 .leaf (am .u8 (pad (row b)))),.box false (D.arr 64 .leaf (am .u8 z)),.box false (D.arr 64 .leaf (am .u8 z)),.box false (D.arr 64 .leaf (am .u8 z)),.box false (D.arr 64 .leaf (am .u8 (pad (row u)))),.box false (D.arr 64 .leaf (am .u8 (pad (row x)))),.box false (D.arr 64 .leaf (am .u8 (pad (row v)))),.box false (D.arr 64 .leaf (am .u8 (pad (row y)))),.hole,.hole,.hole,.hole,.hole,.hole]⟩ =
  some (.normal,⟨[(0,(.d (.int .i64 p))),(4,.ptr 0 []),(5,.ptr 1 []),(6,.ptr 2 []),(7,.ptr 3 []),(8,.ptr 4 []),(9,.ptr 5 []),(10,.ptr 6 []),(11,.ptr 7 []),(12,.ptr 8 [])],[.box false (D.arr 64 .leaf (am .u8 (pad (row b)))),.box false (D.arr 64 .leaf (am .u8 (pad (row (a%b))))),.box false (D.arr 64 .leaf (am .u8 z)),.box false (D.arr 64 .leaf (am .u8 z)),.box false (D.arr 64 .leaf (am .u8 z)),.box false (D.arr 64 .leaf (am .u8 (pad (row x)))),.box false (D.arr 64 .leaf (am .u8 (pad (row (u-a/b*x))))),.box false (D.arr 64 .leaf (am .u8 (pad (row y)))),.box false (D.arr 64 .leaf (am .u8 (pad (row (v-a/b*y))))),.hole,.hole,.hole,.hole,.hole,.hole]⟩):=by
 have hp:=Pol.len_pos h0;have e0:=hdg p b hb;have e1:=hd p a b h0 ha' hb;have e2:=ht p (a/b) x s3 s1 s4;have e3:=ha p (-1) u (a/b*x) (by omega) (by omega) hu s4
 have e4:=ht p (a/b) y s3 s2 s5;have e5:=ha p (-1) v (a/b*y) (by omega) (by omega) hv s5
 rw [Cr] at e3 e5;have hge:¬ ((b.len:Int)-1<0):=by omega
 have hge2:(0:Int)≤(b.len:Int)-1:=by omega
 have hge3:(1:Int)≤(b.len:Int):=by omega
 generalize pad (row (u-a/b*x))=Pux at *;generalize pad (row (v-a/b*y))=Pvy at *;generalize pad (row (a/b*x))=Pqx at *;generalize pad (row (a/b*y))=Pqy at *;generalize pad (row (a/b))=Pq at *;generalize pad (row (a%b))=Pr at *;generalize pad (row a)=Pa at *;generalize pad (row b)=Pb at *;generalize pad (row u)=Pu at *;generalize pad (row x)=Px at *;generalize pad (row v)=Pv at *;generalize pad (row y)=Py at *;simp -implicitDefEqProofs [Z2j_L0,ap,hge3,e0,e1,e2,e3,e4,e5]
theorem Ui {O:af} (hdg:k9 O) (hd:od O) (ht:su O) (ha:s9 O) {p:Int} [IsP p] {A B:Fp p} {z:List Int} (hA:A.len≤64) (hB:B.len≤64):∀(n:Nat) (a b u x v y:Fp p),b.len≤n→BzS A B a b u x v y→∃x' y':List Int,(Pol.bz n a b u x v y).1≠0∧(Pol.bz n a b u x v y).1.len≤64∧(Pol.bz n a b u x v y).2.1.len≤64∧(Pol.bz n a b u x v y).2.2.len≤64 ∧
 dn O 0 (.loop Z2j_L0) ⟨[(0,(.d (.int .i64 p))),(4,.ptr 0 []),(5,.ptr 1 []),(6,.ptr 2 []),(7,.ptr 3 []),(8,.ptr 4 []),(9,.ptr 5 []),(10,.ptr 6 []),(11,.ptr 7 []),(12,.ptr 8 [])],[.box false (D.arr 64 .leaf (am .u8 (pad (row a)))),.box false (D.arr 64 .leaf (am .u8 (pad (row b)))),.box false (D.arr 64 .leaf (am .u8 z)),.box false (D.arr 64 .leaf (am .u8 z)),.box false (D.arr 64 .leaf (am .u8 z)),.box false (D.arr 64 .leaf (am .u8 (pad (row u)))),.box false (D.arr 64 .leaf (am .u8 (pad (row x)))),.box false (D.arr 64 .leaf (am .u8 (pad (row v)))),.box false (D.arr 64 .leaf (am .u8 (pad (row y)))),.hole,.hole,.hole,.hole,.hole,.hole]⟩ =
  some (.exit 0,⟨[(0,(.d (.int .i64 p))),(4,.ptr 0 []),(5,.ptr 1 []),(6,.ptr 2 []),(7,.ptr 3 []),(8,.ptr 4 []),(9,.ptr 5 []),(10,.ptr 6 []),(11,.ptr 7 []),(12,.ptr 8 []),(28,(.d (.bool false)))],[.box false (D.arr 64 .leaf (am .u8 (pad (row (Pol.bz n a b u x v y).1)))),.box false (D.arr 64 .leaf (am .u8 (pad []))),.box false (D.arr 64 .leaf (am .u8 z)),.box false (D.arr 64 .leaf (am .u8 z)),.box false (D.arr 64 .leaf (am .u8 z)),.box false (D.arr 64 .leaf (am .u8 (pad (row (Pol.bz n a b u x v y).2.1)))),.box false (D.arr 64 .leaf (am .u8 x')),.box false (D.arr 64 .leaf (am .u8 (pad (row (Pol.bz n a b u x v y).2.2)))),.box false (D.arr 64 .leaf (am .u8 y')),.hole,.hole,.hole,.hole,.hole,.hole]⟩):=by
 intro n
 have stop:∀(a u x v y:Fp p),dn O 0 (.loop Z2j_L0) ⟨[(0,(.d (.int .i64 p))),(4,.ptr 0 []),(5,.ptr 1 []),(6,.ptr 2 []),(7,.ptr 3 []),(8,.ptr 4 []),(9,.ptr 5 []),(10,.ptr 6 []),(11,.ptr 7 []),(12,.ptr 8 [])],[.box false (D.arr 64 .leaf (am .u8 (pad (row a)))),.box false (D.arr 64 .leaf (am .u8 (pad (row (0:Fp p))))),.box false (D.arr 64 .leaf (am .u8 z)),.box false (D.arr 64 .leaf (am .u8 z)),.box false (D.arr 64 .leaf (am .u8 z)),.box false (D.arr 64 .leaf (am .u8 (pad (row u)))),.box false (D.arr 64 .leaf (am .u8 (pad (row x)))),.box false (D.arr 64 .leaf (am .u8 (pad (row v)))),.box false (D.arr 64 .leaf (am .u8 (pad (row y)))),.hole,.hole,.hole,.hole,.hole,.hole]⟩ =
  some (.exit 0,⟨[(0,(.d (.int .i64 p))),(4,.ptr 0 []),(5,.ptr 1 []),(6,.ptr 2 []),(7,.ptr 3 []),(8,.ptr 4 []),(9,.ptr 5 []),(10,.ptr 6 []),(11,.ptr 7 []),(12,.ptr 8 []),(28,(.d (.bool false)))],[.box false (D.arr 64 .leaf (am .u8 (pad (row a)))),.box false (D.arr 64 .leaf (am .u8 (pad []))),.box false (D.arr 64 .leaf (am .u8 z)),.box false (D.arr 64 .leaf (am .u8 z)),.box false (D.arr 64 .leaf (am .u8 z)),.box false (D.arr 64 .leaf (am .u8 (pad (row u)))),.box false (D.arr 64 .leaf (am .u8 (pad (row x)))),.box false (D.arr 64 .leaf (am .u8 (pad (row v)))),.box false (D.arr 64 .leaf (am .u8 (pad (row y)))),.hole,.hole,.hole,.hole,.hole,.hole]⟩):=by
  intro a u x v y;have e:=hdg p 0 (by rw [Pol.len_zero]; omega)
  rw [du,Pol.len_zero] at e;rw [du];refine bo ?_;generalize pad (row a)=Pa;generalize pad (row u)=Pu;generalize pad (row x)=Px;generalize pad (row v)=Pv;generalize pad (row y)=Py;simp -implicitDefEqProofs [Z2j_L0,ap,e]
 induction n with
 | zero=>
  intro a b u x v y hn hs;obtain rfl:=Pol.len_zero_iff.1 (show b.len=0 by omega)
  exact ⟨_,_,hs.ne,hs.la,hs.lu,hs.lv,stop a u x v y⟩
 | succ n ih=>
  intro a b u x v y hn hs;unfold Pol.bz
  by_cases h0:b=0
  ·subst h0
   rw [if_pos rfl];exact ⟨_,_,hs.ne,hs.la,hs.lu,hs.lv,stop a u x v y⟩
  ·rw [if_neg h0]
   obtain ⟨s0,s1,s2,s3,s4,s5,s6⟩:=hs.step hA hB h0;have hl:=Pol.len_mod a h0;have hp:=Pol.len_pos h0;obtain ⟨x',y',g1,g2,g3,g4,e⟩:=ih b (a%b) x (u-a/b*x) y (v-a/b*y) (by omega) s0
   exact ⟨x',y',g1,g2,g3,g4,bm (Vz hdg hd ht ha h0 hs.la hs.lb hs.lu hs.lv s1 s2 s3 s4 s5) e⟩
theorem a0g {O:af} (hdg:k9 O) (hd:od O) (ht:su O) (ha:s9 O) {p:Int} [IsP p] {a b:Fp p} {z:List Int} (h:a≠0∨b≠0) (hal:a.len≤64) (hbl:b.len≤64):∃x' y':List Int,(Pol.bz b.len a b 1 0 0 1).1≠0∧(Pol.bz b.len a b 1 0 0 1).1.len≤64∧(Pol.bz b.len a b 1 0 0 1).2.1.len≤64∧(Pol.bz b.len a b 1 0 0 1).2.2.len≤64 ∧
 dn O 0 (.loop Z2j_L0) ⟨[(0,(.d (.int .i64 p))),(4,.ptr 0 []),(5,.ptr 1 []),(6,.ptr 2 []),(7,.ptr 3 []),(8,.ptr 4 []),(9,.ptr 5 []),(10,.ptr 6 []),(11,.ptr 7 []),(12,.ptr 8 [])],[.box false (D.arr 64 .leaf (am .u8 (pad (row a)))),.box false (D.arr 64 .leaf (am .u8 (pad (row b)))),.box false (D.arr 64 .leaf (am .u8 z)),.box false (D.arr 64 .leaf (am .u8 z)),.box false (D.arr 64 .leaf (am .u8 z)),.box false (D.arr 64 .leaf (am .u8 (pad (row (1:Fp p))))),.box false (D.arr 64 .leaf (am .u8 (pad (row (0:Fp p))))),.box false (D.arr 64 .leaf (am .u8 (pad (row (0:Fp p))))),.box false (D.arr 64 .leaf (am .u8 (pad (row (1:Fp p))))),.hole,.hole,.hole,.hole,.hole,.hole]⟩ =
  some (.exit 0,⟨[(0,(.d (.int .i64 p))),(4,.ptr 0 []),(5,.ptr 1 []),(6,.ptr 2 []),(7,.ptr 3 []),(8,.ptr 4 []),(9,.ptr 5 []),(10,.ptr 6 []),(11,.ptr 7 []),(12,.ptr 8 []),(28,(.d (.bool false)))],[.box false (D.arr 64 .leaf (am .u8 (pad (row (Pol.bz b.len a b 1 0 0 1).1)))),.box false (D.arr 64 .leaf (am .u8 (pad []))),.box false (D.arr 64 .leaf (am .u8 z)),.box false (D.arr 64 .leaf (am .u8 z)),.box false (D.arr 64 .leaf (am .u8 z)),.box false (D.arr 64 .leaf (am .u8 (pad (row (Pol.bz b.len a b 1 0 0 1).2.1)))),.box false (D.arr 64 .leaf (am .u8 x')),.box false (D.arr 64 .leaf (am .u8 (pad (row (Pol.bz b.len a b 1 0 0 1).2.2)))),.box false (D.arr 64 .leaf (am .u8 y')),.hole,.hole,.hole,.hole,.hole,.hole]⟩):=by
 by_cases h0:a=0
 ·subst h0
  have hb:=h.resolve_left (fun h=>h rfl)
  have hp:=Pol.len_pos hb;obtain ⟨k,hk⟩:∃k,b.len=k+1:=⟨b.len-1,by omega⟩
  have h1:(1:Fp p).len=1:=Pol.len_one;have hz:(0:Fp p).len=0:=Pol.len_zero;have hq:(0:Fp p)/b=0:=(Pol.div_mod_eq (a:=(0:Fp p)) (b:=b) (q:=0) (r:=0) (by rw [Gq.zero_mul,Gq.zero_add]) (by omega)).1
  have hs0:∀c:Fp p,c-0=c:=fun c=>by rw [Gq.sub_eq,rh,Gq.add_zero]
  have hr:(0:Fp p)%b=0:=Pol.zero_mod hb;have e:=Vz (z:=z) hdg hd ht ha (a:=0) (b:=b) (u:=1) (x:=0) (v:=0) (y:=1) hb (by omega) hbl (by omega) (by omega) (by omega) (by omega) (by rw [hq]; omega) (by rw [hq,Gq.zero_mul]; omega) (by rw [hq,Gq.zero_mul]; omega)
  rw [hk];unfold Pol.bz;rw [if_neg hb];rw [hq,hr,Gq.zero_mul,Gq.zero_mul,hs0,hs0] at e ⊢;have hi:Pol.BzI (0:Fp p) b b 0 0 1 1 0:=⟨by rw [Gq.zero_mul,Gq.zero_add,Gq.one_mul],by rw [Gq.mul_zero,Gq.zero_mul,Gq.add_zero],.inr (by omega),.inl hz,.inl hz,.inr (by omega),.inl hb⟩
  obtain ⟨x',y',g1,g2,g3,g4,e2⟩:=Ui (O:=O) (z:=z) hdg hd ht ha (A:=0) (B:=b) (by omega) hbl k b 0 0 1 1 0 (by omega) ⟨hi,hbl,by omega,by omega,by omega,hb⟩
  exact ⟨x',y',g1,g2,g3,g4,bm e e2⟩
 ·exact Ui (O:=O) (z:=z) hdg hd ht ha hal hbl b.len a b 1 0 0 1 (b9 _) ⟨Pol.BzI.init (.inl h0),hal,hbl,by rw [Pol.len_one]; omega,by rw [Pol.len_zero]; omega,h0⟩
def zo (O:af):Prop:=∀(p:Int) [IsP p] (a b:Fp p),a≠0∨b≠0→a.len≤64→b.len≤64 →
 ask O F2j [(D.int .i64 p),(D.arr 64 .leaf (am .u8 (pad (row a)))),(D.arr 64 .leaf (am .u8 (pad (row b))))]=some (.tup [(D.arr 64 .leaf (am .u8 (pad (row (Pol.bezout a b).1)))),(D.arr 64 .leaf (am .u8 (pad (row (Pol.bezout a b).2.1)))),(D.arr 64 .leaf (am .u8 (pad (row (Pol.bezout a b).2.2))))])
theorem Th (hT:T F2j=some Z2j) (h1:Hp (den T A)) (hdg:k9 (den T A)) (hd:od (den T A)) (ht:su (den T A)) (ha:s9 (den T A)) (hinv:qz (den T A)):zo (den T A):=by
 intro p i a b h0 hal hbl;have hp:=IsP.ge (p:=p);have hp7:=IsP.le (p:=p);have e1:=h1 p;obtain ⟨x',y',g1,g2,g3,g4,e2⟩:=a0g (O:=den T A) (z:=pad []) hdg hd ht ha h0 hal hbl;unfold Pol.bezout;have heu:Pol.eu a b=Pol.bz b.len a b 1 0 0 1:=rfl;rw [heu];generalize Pol.bz b.len a b 1 0 0 1=R at *;obtain ⟨d,u,v⟩:=R;simp only at g1 g2 g3 g4 e2 ⊢;rw [du] at e2;have hd1:=Pol.len_pos g1;have e3:=hdg p d g2;rw [show ((d.len:Int)-1)=((d.len-1:Nat):Int) by omega] at e3
 have hi64:d.len-1<64:=by omega
 have hx:(pad (row d))[d.len-1]? = some (rep d.ld):=by rw [om _ _ hi64,ff]; rfl
 have hr:=k8 d.ld;have hr0:rep d.ld≠0:=fun h=>Pol.ld_ne g1 (gt.1 h)
 have hin:=xq p (rep d.ld);have e4:=hinv p (rep d.ld) (by omega) hr.2
 have w1:IntKind.i64.wrap (inv p (rep d.ld))=inv p (rep d.ld):=w64 (by omega)
 have z0:(0:Fp p).len≤64:=by rw [Pol.len_zero]; omega
 have e5:=ha p (inv p (rep d.ld)) 0 d (by omega) (by omega) z0 g2
 have e6:=ha p (inv p (rep d.ld)) 0 u (by omega) (by omega) z0 g3
 have e7:=ha p (inv p (rep d.ld)) 0 v (by omega) (by omega) z0 g4
 rw [ul _ (Pol.ld_ne g1),Gq.zero_add,du] at e5 e6 e7;refine br hT rfl ?_;generalize pad (row (Pol.C (Fd.inv d.ld)*d))=P1 at *;generalize pad (row (Pol.C (Fd.inv d.ld)*u))=P2 at *;generalize pad (row (Pol.C (Fd.inv d.ld)*v))=P3 at *;generalize pad (row d)=Pd at *;generalize pad (row u)=Pu at *;generalize pad (row v)=Pv at *;generalize pad (row a)=Pa at *;generalize pad (row b)=Pb at *;generalize pad (row (1:Fp p))=P0 at *;generalize d.len-1=n1 at *;simp -implicitDefEqProofs [Z2j,Z2j_B,e1,e2,e3,e4,e5,e6,e7,hi64,hx,w1,List.replicate]
def Ik (O:af):Prop:=∀(p:Int) [IsP p] (a b:Fp p),a≠0→a.len≤64→b.len≤64 →
 ask O F2m [(D.int .i64 p),(D.arr 64 .leaf (am .u8 (pad (row a)))),(D.arr 64 .leaf (am .u8 (pad (row b))))]=some (D.arr 64 .leaf (am .u8 (pad (row (Pol.gcd a b)))))
theorem a2q (hT:T F2m=some Z2m) (hdg:k9 (den T A)) (hb:zo (den T A)):Ik (den T A):=by
 intro p i a b h0 hal hbl;have e1:=hdg p a hal;have e2:=hb p a b (.inl h0) hal hbl;have hp:=Pol.len_pos h0;have hge:¬ ((a.len:Int)-1<0):=by omega
 refine br hT rfl ?_;unfold Pol.gcd;generalize pad (row (Pol.bezout a b).1)=P1 at *;generalize pad (row (Pol.bezout a b).2.1)=P2 at *;generalize pad (row (Pol.bezout a b).2.2)=P3 at *;generalize pad (row a)=Pa at *;generalize pad (row b)=Pb at *;generalize (a.len:Int)-1=n1 at *;simp -implicitDefEqProofs [Z2m,Z2m_B,ap,e1,e2,hge,List.replicate]
def Xy (O:af):Prop:=∀(p:Int) [IsP p],ask O F2x []=some (D.arr 64 .leaf (am .u8 (pad (row (Pol.X:Fp p)))))
theorem ab1 (hT:T F2x=some Z2x):Xy (den T A):=by
 intro p i;have e:((pad []).set 0 0).set 1 1=pad [0,1]:=by decide +kernel
 have h0:(pad [])[0]? = some 0:=by decide +kernel
 have h1:(pad [])[1]? = some 0:=by decide +kernel
 rw [a1d];refine br hT rfl ?_;simp -implicitDefEqProofs [Z2x,Z2x_B,e,h0,h1]
open Classical in
theorem Xo {O:af} (hdg:k9 O) (hpw:py O) (hg:Ik O) (ha:s9 O) (ht:Xy O) {p:Int} [IsP p] {m:Fp p} (hm:m≠0) (hml:m.len≤13) {n:Nat} (hn:n+1=m.len):∀(f k:Nat),1≤k→k+f=n/2+1→∃P':List Int,
 dn O 0 (.loop Z2p_L0) ⟨[(0,(.d (.int .i64 p))),(3,.ptr 0 []),(5,(.d (.int .i64 n))),(6,.ptr 1 []),(7,(.d (.int .i64 k)))],[.box false (D.arr 64 .leaf (am .u8 (pad (row m)))),.box false (D.arr 64 .leaf (am .u8 (pad (row (pw Pol.X (p.toNat^(k-1))%m)))))]⟩ =
  if ∀k',k≤k'→2*k'≤n→(Pol.gcd m (frW m k')).len=1 then some (.exit 0,⟨[(0,(.d (.int .i64 p))),(3,.ptr 0 []),(5,(.d (.int .i64 n))),(6,.ptr 1 []),(7,(.d (.int .i64 (((n/2+1:Nat):Int))))),(19,(.d (.bool false)))],[.box false (D.arr 64 .leaf (am .u8 (pad (row m)))),.box false (D.arr 64 .leaf (am .u8 P'))]⟩)
  else some (.ret,⟨[(4,(.d (.bool false)))],[.hole,.hole]⟩)
 | 0,k,hk,hf=>by
  obtain rfl:k=n/2+1:=by omega
  refine ⟨pad (row (pw Pol.X (p.toNat^(n/2+1-1))%m)),?_⟩;rw [if_pos (fun k' h1 h2=>by omega)]
  have w1:IntKind.i64.wrap (2*((n/2+1:Nat):Int))=2*((n/2+1:Nat):Int):=w64 (by omega)
  have hlt:¬ (2*((n/2+1:Nat):Int)≤n):=by omega
  refine bo ?_;generalize ((n/2+1:Nat):Int)=k1 at *;generalize pad (row (pw Pol.X (p.toNat^(n/2+1-1))%m))=P1 at *;generalize pad (row m)=Pm at *;simp -implicitDefEqProofs [Z2p_L0,ap,w1,hlt]
 | f+1,k,hk,hf=>by
  have hp:=IsP.pos (p:=p);have hp7:=IsP.le (p:=p);have w1:IntKind.i64.wrap (2*(k:Int))=2*(k:Int):=w64 (by omega)
  have hlt:2*(k:Int)≤n:=by omega
  have w4:IntKind.i64.wrap ((k:Int)+1)=((k+1:Nat):Int):=(w64 (x:=(k:Int)+1) (by omega)).trans (by omega)
  have hl1:=Pol.len_mod (pw Pol.X (p.toNat^(k-1))) hm;have hl2:=Pol.len_mod (pw Pol.X (p.toNat^k)) hm;have e1:=hpw p (pw Pol.X (p.toNat^(k-1))%m) p m hm (by omega) (by omega) (by omega) (by omega)
  have e2:pw (pw Pol.X (p.toNat^(k-1))%m) p.toNat%m=pw Pol.X (p.toNat^k)%m:=by
   rw [Pol.pow_mod _ hm,x9,←lc,show (k-1).succ=k by omega]
  rw [e2] at e1;have e3:=ht p;have hX:(Pol.X:Fp p).len≤64:=by rw [Pol.len_X]; omega
  have e4:=ha p (-1) (pw Pol.X (p.toNat^k)%m) Pol.X (by omega) (by omega) (by omega) hX
  rw [Cr] at e4;have e4':pw Pol.X (p.toNat^k)%m-Pol.X=frW m k:=rfl;rw [e4'] at e4;have hl3:(frW m k).len≤64:=Pol.len_sub_le (by omega) hX
  have e5:=hg p m (frW m k) hm (by omega) hl3
  have hgm:=Pol.gcd_monic (a:=m) (b:=frW m k) (.inl hm);have hgl:=(Pol.gcd_dv_left (a:=m) (b:=frW m k) (.inl hm)).len hm;have e6:=hdg p (Pol.gcd m (frW m k)) (by omega)
  have hg1:=Pol.len_pos hgm.2
  by_cases hc:(Pol.gcd m (frW m k)).len=1
  ·obtain ⟨P',ih⟩:=Xo hdg hpw hg ha ht hm hml hn f (k+1) (by omega) (by omega)
   rw [show k+1-1=k by omega] at ih
   refine ⟨P',?_⟩
   have hiff:(∀k',k≤k'→2*k'≤n→(Pol.gcd m (frW m k')).len=1)↔∀k',k+1≤k'→2*k'≤n→(Pol.gcd m (frW m k')).len=1:=by
    constructor
    ·intro h k' h1 h2; exact h k' (by omega) h2
    ·intro h k' h1 h2
     by_cases hkk:k'=k
     ·rw [hkk]; exact hc
     ·exact h k' (by omega) h2
   rw [propext hiff];refine bm ?_ ih;rw [hc] at e6;have e7:((1:Nat):Int)-1=0:=rfl;rw [e7] at e6;generalize pad (row (Pol.gcd m (frW m k)))=Pg at *;generalize pad (row (frW m k))=Pw at *;generalize pad (row (pw Pol.X (p.toNat^k)%m))=P2 at *;generalize pad (row (pw Pol.X (p.toNat^(k-1))%m))=P1 at *;generalize pad (row (Pol.X:Fp p))=PX at *;generalize pad (row m)=Pm at *;simp -implicitDefEqProofs [Z2p_L0,ap,w1,hlt,e1,e3,e4,e5,e6,w4]
  ·refine ⟨pad [],?_⟩
   rw [if_neg (fun h=>hc (h k (b9 k) (by omega)))]
   have hne:¬ (((Pol.gcd m (frW m k)).len:Int)-1=0):=by omega
   refine pk ?_;generalize ((Pol.gcd m (frW m k)).len:Int)-1=g1 at *;generalize pad (row (Pol.gcd m (frW m k)))=Pg at *;generalize pad (row (frW m k))=Pw at *;generalize pad (row (pw Pol.X (p.toNat^k)%m))=P2 at *;generalize pad (row (pw Pol.X (p.toNat^(k-1))%m))=P1 at *;generalize pad (row (Pol.X:Fp p))=PX at *;generalize pad (row m)=Pm at *;simp -implicitDefEqProofs [Z2p_L0,ap,w1,hlt,e1,e3,e4,e5,e6,hne]
open Classical in
def Nx (O:af):Prop:=∀(p:Int) [IsP p] (m:Fp p),m≠0→m.len≤13→ask O F2p [(D.int .i64 p),(D.arr 64 .leaf (am .u8 (pad (row m))))]=some (D.bool (decide (Irr m)))
open Classical in
theorem a35 (hT:T F2p=some Z2p) (hdg:k9 (den T A)) (hmo:zn (den T A)) (hpw:py (den T A)) (hg:Ik (den T A)) (ha:s9 (den T A)) (ht:Xy (den T A)):Nx (den T A):=by
 intro p i m hm hml;have e1:=hdg p m (by omega)
 have e2:=ht p;have e3:=hmo p Pol.X m hm (by rw [Pol.len_X]; omega) (by omega)
 have h1:=Pol.len_pos hm;refine br hT rfl ?_
 by_cases h2:2≤m.len
 ·obtain ⟨P',e4⟩:=Xo (O:=den T A) hdg hpw hg ha ht hm hml (n:=m.len-1) (by omega) ((m.len-1)/2) 1 (b9 1) (by omega)
  have e5:pw (Pol.X:Fp p) (p.toNat^(1-1))=Pol.X:=by rw [jl,nk,z9]
  rw [e5,U1 h2 hml] at e4;rw [show ((m.len:Int)-1)=((m.len-1:Nat):Int) by omega] at e1
  have hlt:¬ (((m.len-1:Nat):Int)<1):=by omega
  have e01:((1:Nat):Int)=1:=rfl;rw [e01] at e4
  by_cases hi:Irr m
  ·rw [if_pos hi] at e4
   rw [decide_eq_true hi];generalize (((m.len-1)/2+1:Nat):Int)=k1 at *;generalize ((m.len-1:Nat):Int)=n1 at *;generalize pad (row (Pol.X%m))=P1 at *;generalize pad (row (Pol.X:Fp p))=PX at *;generalize pad (row m)=Pm at *;simp -implicitDefEqProofs [Z2p,Z2p_B,ap,e1,e2,e3,e4,hlt,List.replicate]
  ·rw [if_neg hi] at e4
   rw [decide_eq_false hi];generalize ((m.len-1:Nat):Int)=n1 at *;generalize pad (row (Pol.X%m))=P1 at *;generalize pad (row (Pol.X:Fp p))=PX at *;generalize pad (row m)=Pm at *;simp -implicitDefEqProofs [Z2p,Z2p_B,ap,e1,e2,e3,e4,hlt,List.replicate]
 ·have hl:m.len=1:=by omega
  rw [hl] at e1;have e7:((1:Nat):Int)-1=0:=rfl;rw [e7] at e1;rw [decide_eq_false (fun h:Irr m=>h2 h.len)]
  generalize pad (row (Pol.X%m))=P1 at *;generalize pad (row (Pol.X:Fp p))=PX at *;generalize pad (row m)=Pm at *;simp -implicitDefEqProofs [Z2p,Z2p_B,ap,e1,e2,e3,List.replicate]
end Pe


namespace Pe
open Go Gq
variable {T:Nat→Option Fn} {A:af}
theorem uo {p:Int} {a b:Fp p} (ha:a.len≤64) (hb:b.len≤64):pad (row a)=pad (row b)↔a=b:=by
 constructor
 ·intro h
  rw [←qb ha,h,qb hb]
 ·rintro rfl; rfl
section
variable {p:Int} [IsP p]
structure SInv (a0:Fp p) (k:Int) (a:Fp p) (out:jx p):Prop where
 ne:a≠0
 eq:a0=a*je out
 ok:FacOk out
 so:out.Pairwise fun x y=>dx x.1<dx y.1
 lt:∀x∈out,dx x.1<k
 ge:∀q,Irr q→Monic q→Dv q a→k≤dx q
 ln:out.length+a.len≤13
structure SEnd (a0 a:Fp p) (out:jx p):Prop where
 ne:a≠0
 eq:a0=a*je out
 ok:FacOk out
 so:out.Pairwise fun x y=>dx x.1<dx y.1
 irr:2≤a.len→Irr a∧∀x∈out,dx x.1<dx (mon a)
 ln:out.length+a.len≤13
theorem Oo {q a:Fp p} (hq:Irr q) (h:Dv q a):Dv (mon q) a:=(xk hq.ne).2 h
theorem SInv.small {a0 a:Fp p} {n:Nat} {k:Int} {out:jx p} (h:SInv a0 k a out) (_hn:n≤12) (hk:p^n≤k):wx n a:=by
 intro q hq hd;have h1:=h.ge _ hq.mon (o6 hq.ne) (Oo hq hd);have h2:=yx (mon q);rw [t5 hq.ne] at h2;apply ef;intro hx;have:=kr (p:=p) (by have:=IsP.pos (p:=p); omega) (show q.len≤n by omega)
 omega
theorem SInv.step {a0 a:Fp p} {n:Nat} {k:Int} {out:jx p} (h:SInv a0 k a out) (hn1:1≤n) (hn:n≤12) (hk:p^n≤k) (hk2:k<2*p^n) {j:Nat} {r:Fp p} (h1:a=r*pw (kn p k) j) (h2:¬ Dv (kn p k) r) :
 SInv a0 (k+1) r (if j=0 then out else out++[(kn p k,j)]):=by
 obtain ⟨m1,m2⟩:=xz hn hk hk2;have hb:=og (p:=p) hn;have hpos:=lq (p:=p) n;have hnum:dx (kn p k)=k:=ti ⟨by omega,by omega⟩
 have hr0:r≠0:=fun h0=>h.ne (by rw [h1,h0,Gq.zero_mul])
 have ge':∀q,Irr q→Monic q→Dv q r→k+1≤dx q:=by
  intro q hq hm hd;have g1:=h.ge q hq hm (by rw [h1]; exact hd.mul_right _)
  have g2:dx q≠k:=fun e=>by
   have:q=kn p k:=Gf (by rw [e,hnum])
   exact h2 (this▸hd)
  omega
 by_cases hj:j=0
 ·subst hj
  rw [if_pos rfl];rw [pw,Gq.mul_one] at h1;subst h1;exact ⟨h.ne,h.eq,h.ok,h.so,fun x hx=>by have:=h.lt x hx; omega,ge',h.ln⟩
 ·rw [if_neg hj]
  have hda:Dv (kn p k) a:=by
   obtain ⟨i,rfl⟩:∃i,j=i+1:=⟨j-1,by omega⟩
   rw [h1,pw];exact ((Dv.refl _).mul_left _).mul_left _
  have hi:Irr (kn p k):=by
   refine Irr.of_dv (by omega) fun u hu=>?_
   have hul:=hu.len m1.2
   have hu0:u≠0:=fun h0=>by
    obtain ⟨c,hc⟩:=hu;exact m1.2 (by rw [hc,h0,Gq.zero_mul])
   have hup:=Pol.len_pos hu0
   by_cases hu1:u.len=1
   ·exact .inl hu1
   ·right
    obtain ⟨q,q1,q2,q3⟩:=zm u.len u (b9 _) (by omega)
    have g1:=h.ge q q1 q2 ((q3.trans hu).trans hda);have g2:=q3.len hu0;apply ef;intro hx;have g3:=qa (a:=q) (b:=kn p k) (by omega)
    omega
  have hlt:r.len<a.len:=by
   obtain ⟨i,rfl⟩:∃i,j=i+1:=⟨j-1,by omega⟩
   have hi0:=Cl hi.ne i;have l1:=Pol.len_mul hi0 hi.ne;have l2:=Pol.len_mul hr0 (Pol.mul_ne hi0 hi.ne);have l3:=Pol.len_pos hi0;rw [h1,pw]; omega
  refine ⟨hr0,?_,h.ok.snoc hi m1 (by omega) fun x hx e=>?_,?_,?_,ge',?_⟩
  ·rw [h.eq,tz]
   conv=>lhs; rw [h1]
   exact bv [r,pw (kn p k) j,je out] rfl
  ·have:=h.lt x hx
   rw [e,hnum] at this; omega
  ·rw [fq]
   refine ⟨h.so,dy _ _,fun x hx y hy=>?_⟩
   simp at hy; subst hy;have:=h.lt x hx;rw [hnum]; exact this
  ·intro x hx
   rcases b6.1 hx with hx | hx
   ·have:=h.lt x hx; omega
   ·simp at hx; subst hx; rw [hnum]; omega
  ·have:=h.ln
   simp; omega
theorem SInv.next {a0 a:Fp p} {n:Nat} {out:jx p} (h:SInv a0 (2*p^n) a out) (hn:n≤11):SInv a0 (p^(n+1)) a out:=by
 refine ⟨h.ne,h.eq,h.ok,h.so,fun x hx=>?_,fun q hq hm hd=>?_,h.ln⟩
 ·have:=h.lt x hx
  have:=Gw (p:=p) n;omega
 ·have h1:=h.ge q hq hm hd
  have hq0:=Pol.len_pos hm.2;rcases dg (n+1) q.len with h2 | h2
  ·obtain ⟨d,hd'⟩:∃d,q.len=d+1:=⟨q.len-1,by omega⟩
   have hl:=hd.len h.ne;have hln:=h.ln;have h3:=p4 (n:=d) (by omega) hm hd'
   have:=kr (p:=p) (by have:=IsP.pos (p:=p); omega) (show n+1≤d by omega)
   omega
  ·exfalso
   obtain ⟨d,hd'⟩:∃d,q.len=d+1:=⟨q.len-1,by omega⟩
   have h3:=p4 (n:=d) (by omega) hm hd'
   have:=kr (p:=p) (by have:=IsP.pos (p:=p); omega) (show d≤n by omega)
   omega
theorem SInv.init {a:Fp p} (ha:a≠0) (hl:a.len≤13):SInv a (p^1) a []:=
 ⟨ha,(Gq.mul_one a).symm,⟨by simp,.nil⟩,.nil,by simp,fun q hq hm _=>by
  have h1:=hq.len;obtain ⟨d,hd'⟩:∃d,q.len=d+1:=⟨q.len-1,by omega⟩
  by_cases hd12:d≤12
  ·have h3:=p4 (n:=d) hd12 hm hd'
   have:=kr (p:=p) (by have:=IsP.pos (p:=p); omega) (show 1≤d by omega)
   omega
  ·have h4:=qa (a:=kn p (p^1)) (b:=q) (by
    have:=(xz (p:=p) (n:=1) (by omega) (vg _) (by have:=lq (p:=p) 1; omega)).2
    omega)
   have h5:dx (kn p (p^1))=p^1:=ti ⟨Int.le_of_lt (lq 1),by have:=og (p:=p) (n:=1) (by omega); omega⟩
   omega,by simpa using hl⟩
theorem SEnd.fac {a0 a:Fp p} {out:jx p} (h:SEnd a0 a out) (h0:a0≠0):Pe.fac a0=if 2≤a.len then out++[(mon a,1)] else out:=by
 apply Wv h0;have hP:=Ao h.ok;have hld:a0.ld=a.ld:=by rw [h.eq,Pol.ld_mul h.ne hP.2,hP.1,Gq.mul_one]
 split
 ·rename_i hl
  obtain ⟨hi,hx⟩:=h.irr hl;refine ⟨h.ok.snoc hi.mon (o6 h.ne) (b9 1) fun x hx' e=>?_,?_,?_⟩
  ·have:=hx x hx'
   rw [e] at this; omega
  ·rw [fq]
   refine ⟨h.so,dy _ _,fun x hx' y hy=>?_⟩
   simp at hy; subst hy; exact hx x hx'
  ·rw [tz,hld]
   show a0=Pol.C a.ld*(je out*pw (mon a) 1);rw [z9,h.eq]
   conv=>lhs; rw [W4 h.ne]
   exact bv [Pol.C a.ld,mon a,je out] rfl
 ·rename_i hl
  have hp:=Pol.len_pos h.ne;obtain ⟨c,hc,rfl⟩:=kb (show a.len=1 by omega)
  refine ⟨h.ok,h.so,?_⟩;rw [hld,Pol.ld_C hc]; exact h.eq
end
end Pe

namespace Pe
open Go Gq
variable {T:Nat→Option Fn} {A:af}
section
variable {p:Int} [IsP p]
end
end Pe


namespace Pe
open Go Gq
variable {T:Nat→Option Fn} {A:af}
section
variable {p:Int} [IsP p]
end
section
variable {p:Int} [IsP p]
end
end Pe

namespace Pe
open Go Gq
variable {T:Nat→Option Fn} {A:af}
end Pe

namespace Pe
open Go Gq
variable {T:Nat→Option Fn} {A:af}
end Pe
