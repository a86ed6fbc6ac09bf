/-
  A part of the proof: an evaluator for a small form of the code, its soundness, and contracts of functions over it.
-/
import Derived.KernelRfl
import Derived.Test.YtioopopeomiahaaGreatW1
import Derived.Test.YtioopopeomiahaaGreatW2
import Derived.Test.YtioopopeomiahaaGreatW3

/-
 Functions of the laws in the small form,printed by a program.
-/
namespace Pe
open Go
abbrev F6:Nat:=1122
def ir_spec_l09Moore_ht_L0:Cd:=
 .seq (.seq (.region [Lw 19 10,
 Lw 20 2,
 Ll 21 (.len false (.t 20)),
 Ll 22 (.bin .lss (.t 19) (.t 21))] [0,2,4,7,8,9,10,22])
 (.cond (.t 22)
 (.skip)
 (.exit 2)))
 (.seq (.block 3 (.region [Lw 25 9,
 Lw 26 0,
 Lw 27 2,
 Lw 28 10,
 Ll 29 (.idxA none Sx6 (.t 27) (.t 28)),
 Ipx 30 29,
 Lw 31 8,
 Ipx 32 4,
 Ll 33 (Ofx F2x [(.t 26),(.t 30),(.t 31),(.t 32)]),
 Ll 34 (.buildSl false 4 Sx6 (.arr 64 .leaf z64) 1 [(0,(.t 33))]),
 Ll 35 (.append Sx6 5 64 (.t 25) (.t 34)),
 Lw 9 35] [0,2,4,7,8,9,10]))
 (.region [Lw 23 10,
 Ll 24 (.bin .add (.t 23) (Acx 1)),
 Lw 10 24] [0,2,4,7,8,9,10]))
def ir_spec_l09Moore_ht_L1:Cd:=
 .seq (.seq (.region [Lw 12 8,
 Lw 13 2,
 Ll 14 (.len false (.t 13)),
 Ll 15 (.bin .lss (.t 12) (.t 14))] [0,2,4,7,8,15])
 (.cond (.t 15)
 (.skip)
 (.exit 0)))
 (.seq (.block 1 (.seq (.region [Ll 18 (.buildSl false 3 Sx6 (.arr 64 .leaf z64) 0 []),
 Lw 9 18] [0,2,4,7,8,9])
 (.seq (.seq (.region [Ll 10 (.mv (Acx 0))] [0,2,4,7,8,9,10])
 (.block 2 (.loop (ir_spec_l09Moore_ht_L0))))
 (.region [Lw 36 7,
 Lw 37 9,
 Ll 38 (.tbOne 6 (.t 37)),
 Ll 39 (.tbApp 24 (.t 36) (.t 38)),
 Lw 7 39] [0,2,4,7,8]))))
 (.region [Lw 16 8,
 Ll 17 (.bin .add (.t 16) (Acx 1)),
 Lw 8 17] [0,2,4,7,8]))
def ir_spec_l09Moore_ht_B:Cd:=
 .seq (.region [Ll 4 (.box false 0 (.t 1)),
 Ll 6 (.nilOwn 1 .leaf)] [0,2,4])
 (.seq (.region [Ll 11 (.buildSl false 2 .leaf (.sl Sx6 []) 0 []),
 Lw 7 11] [0,2,4,7])
 (.seq (.seq (.region [Ll 8 (.mv (Acx 0))] [0,2,4,7,8])
 (.block 0 (.loop (ir_spec_l09Moore_ht_L1))))
 (.seq (.region [Lw 40 7,
 Lw 6 40] [6])
 (.ret))))
def ir_spec_l09Moore_ht:Fn:=
 { nparams:=3,nblk:=7,results:=[.tmp 6],body:=ir_spec_l09Moore_ht_B }
def ir_spec_l09Determinantt_L0:Cd:=
 .seq (.seq (.region [Lw 24 9,
 Lw 25 2,
 Ll 26 (.len false (.t 25)),
 Ll 27 (.bin .lss (.t 24) (.t 26)),
 Lw 28 27,
 Lx 29 2 28 true,
 Lx 30 9 28 true,
 Lg 31 (.tbA (.t 29) (.t 30)) 28 true,
 Lg 32 (.tbLoad (.t 31)) 28 true,
 Lx 33 8 28 true,
 Lg 34 (.idxA none Sx6 (.t 32) (.t 33)) 28 true,
 Lg 35 (.load Sx6 (.t 34)) 28 true,
 Lg 36 (Ofx F2g [(.t 35)]) 28 true,
 Lg 37 (.bin .lss (.t 36) (Acx 0)) 28 true,
 Ll 38 (.pick (.t 28) (.t 37) (.c (.bool false)))] [0,2,4,6,7,8,9,38])
 (.cond (.t 38)
 (.skip)
 (.exit 2)))
 (.block 3 (.region [Lw 39 9,
 Ll 40 (.bin .add (.t 39) (Acx 1)),
 Lw 9 40] [0,2,4,6,7,8,9]))
def ir_spec_l09Determinantt_L1:Cd:=
 .seq (.seq (.region [Lw 107 15,
 Lw 108 10,
 Ll 109 (.len false (.t 108)),
 Ll 110 (.bin .lss (.t 107) (.t 109))] [0,2,4,6,7,8,10,11,12,13,14,15,110])
 (.cond (.t 110)
 (.skip)
 (.exit 6)))
 (.seq (.block 7 (.region [Lw 113 14,
 Lw 114 15,
 Lw 115 0,
 Lw 116 14,
 Lw 117 15,
 Ll 118 (.idxA none Sx6 (.t 116) (.t 117)),
 Ipx 119 118,
 Lw 120 0,
 Ipx 121 13,
 Lw 122 10,
 Lw 123 15,
 Ll 124 (.idxA none Sx6 (.t 122) (.t 123)),
 Ipx 125 124,
 Ipx 126 4,
 Ll 127 (Ofx F2p [(.t 120),(.t 121),(.t 125),(.t 126)]),
 Ll 128 (Ofx F2e [(.t 115),(.t 119),(.t 127),(Acx (-1))]),
 Ll 129 (.idxA none Sx6 (.t 113) (.t 114)),
 Ls (.store false Sx6 (.t 129) (.t 128))] [0,2,4,6,7,8,10,11,12,13,14,15]))
 (.region [Lw 111 15,
 Ll 112 (.bin .add (.t 111) (Acx 1)),
 Lw 15 112] [0,2,4,6,7,8,10,11,12,13,14,15]))
def ir_spec_l09Determinantt_L2:Cd:=
 .seq (.seq (.region [Lw 85 12,
 Lw 86 2,
 Ll 87 (.len false (.t 86)),
 Ll 88 (.bin .lss (.t 85) (.t 87))] [0,2,4,6,7,8,10,11,12,88])
 (.cond (.t 88)
 (.skip)
 (.exit 4)))
 (.seq (.block 5 (.seq (.region [Lw 91 0,
 Lw 92 2,
 Lw 93 12,
 Ll 94 (.tbA (.t 92) (.t 93)),
 Ll 95 (.tbLoad (.t 94)),
 Lw 96 8,
 Ll 97 (.idxA none Sx6 (.t 95) (.t 96)),
 Ipx 98 97,
 Ipx 99 11,
 Ipx 100 4,
 Ll 101 (Ofx F2p [(.t 91),(.t 98),(.t 99),(.t 100)]),
 Lw 102 2,
 Lw 103 12,
 Ll 104 (.tbA (.t 102) (.t 103)),
 Ll 105 (.tbLoad (.t 104)),
 Ll 13 (.box false 4 (.c (.arr 64 .leaf z64))),
 ⟨none,.store false Sx6 (.t 13) (.t 101),none,[102,103,104]⟩,
 Lw 14 105] [0,2,4,6,7,8,10,11,12,13,14])
 (.seq (.region [Lw 106 8,
 Lw 15 106] [0,2,4,6,7,8,10,11,12,13,14,15])
 (.block 6 (.loop (ir_spec_l09Determinantt_L1))))))
 (.region [Lw 89 12,
 Ll 90 (.bin .add (.t 89) (Acx 1)),
 Lw 12 90] [0,2,4,6,7,8,10,11,12]))
def ir_spec_l09Determinantt_L3:Cd:=
 .seq (.seq (.region [Lw 17 8,
 Lw 18 2,
 Ll 19 (.len false (.t 18)),
 Ll 20 (.bin .lss (.t 17) (.t 19))] [0,2,4,6,7,8,20])
 (.cond (.t 20)
 (.skip)
 (.exit 0)))
 (.seq (.block 1 (.seq (.region [Lw 23 8,
 Lw 9 23] [0,2,4,6,7,8,9])
 (.seq (.block 2 (.loop (ir_spec_l09Determinantt_L0)))
 (.seq (.seq (.region [Lw 41 9,
 Lw 42 2,
 Ll 43 (.len false (.t 42)),
 Ll 44 (.bin .eql (.t 41) (.t 43))] [0,2,4,6,7,8,9,44])
 (.cond (.t 44)
 (.seq (.region [Ll 45 (.build false (.arr 64 .leaf z64) []),
 Ls (.store false Sx6 (.t 6) (.t 45))] [6])
 (.ret))
 (.skip)))
 (.seq (.region [Lw 46 2,
 Lw 47 9,
 Ll 48 (.tbA (.t 46) (.t 47)),
 Ll 49 (.tbLoad (.t 48)),
 Lw 10 49] [0,2,4,6,7,8,9,10])
 (.seq (.seq (.region [Lw 50 9,
 Lw 51 8,
 Ll 52 (.bin .neq (.t 50) (.t 51))] [0,2,4,6,7,8,9,10,52])
 (.cond (.t 52)
 (.seq (.region [Lw 53 2,
 Lw 54 9,
 Lw 55 2,
 Lw 56 8,
 Ll 57 (.tbA (.t 55) (.t 56)),
 Ll 58 (.tbLoad (.t 57)),
 Ll 59 (.tbA (.t 53) (.t 54)),
 Ls (.tbStore (.t 59) (.t 58))] [0,2,4,6,7,8,10])
 (.seq (.region [Lw 60 2,
 Lw 61 8,
 Lw 62 10,
 Ll 63 (.tbA (.t 60) (.t 61)),
 Ls (.tbStore (.t 63) (.t 62))] [0,2,4,6,7,8,10])
 (.region [Lw 64 0,
 Ll 65 (.build false (.arr 64 .leaf z64) []),
 Ipx 66 7,
 Ll 67 (Ofx F2e [(.t 64),(.t 65),(.t 66),(Acx (-1))]),
 Ls (.store false Sx6 (.t 7) (.t 67))] [0,2,4,6,7,8,10])))
 (.skip)))
 (.seq (.region [Lw 68 0,
 Ipx 69 7,
 Lw 70 10,
 Lw 71 8,
 Ll 72 (.idxA none Sx6 (.t 70) (.t 71)),
 Ipx 73 72,
 Ipx 74 4,
 Ll 75 (Ofx F2p [(.t 68),(.t 69),(.t 73),(.t 74)]),
 Ls (.store false Sx6 (.t 7) (.t 75))] [0,2,4,6,7,8,10])
 (.seq (.region [Lw 76 0,
 Lw 77 10,
 Lw 78 8,
 Ll 79 (.idxA none Sx6 (.t 77) (.t 78)),
 Ipx 80 79,
 Ipx 81 4,
 Ll 82 (Ofx F2y [(.t 76),(.t 80),(.t 81)]),
 Ll 11 (.box false 3 (.c (.arr 64 .leaf z64))),
 Ls (.store false Sx6 (.t 11) (.t 82))] [0,2,4,6,7,8,10,11])
 (.seq (.region [Lw 83 8,
 Ll 84 (.bin .add (.t 83) (Acx 1)),
 Lw 12 84] [0,2,4,6,7,8,10,11,12])
 (.block 4 (.loop (ir_spec_l09Determinantt_L2))))))))))))
 (.region [Lw 21 8,
 Ll 22 (.bin .add (.t 21) (Acx 1)),
 Lw 8 22] [0,2,4,6,7,8]))
def ir_spec_l09Determinantt_B:Cd:=
 .seq (.region [Ll 4 (.box false 0 (.t 1)),
 Ll 6 (.box false 1 (.c (.arr 64 .leaf z64)))] [0,2,4,6])
 (.seq (.region [Ll 16 (Ofx F2q []),
 Ll 7 (.box false 2 (.c (.arr 64 .leaf z64))),
 Ls (.store false Sx6 (.t 7) (.t 16))] [0,2,4,6,7])
 (.seq (.seq (.region [Ll 8 (.mv (Acx 0))] [0,2,4,6,7,8])
 (.block 0 (.loop (ir_spec_l09Determinantt_L3))))
 (.seq (.region [Ipx 130 7,
 Ls (.store false Sx6 (.t 6) (.t 130))] [6])
 (.ret))))
def ir_spec_l09Determinantt:Fn:=
 { nparams:=3,nblk:=5,results:=[.cell 6 Sx6],body:=ir_spec_l09Determinantt_B }
def ir_spec_MooreDeterminantt_B:Cd:=
 .seq (.region [Ll 4 (.box false 0 (.t 1)),
 Ll 6 (.box false 1 (.c (.arr 64 .leaf z64))),
 Ll 7 (.mv (Acx 0))] [0,2,4,6])
 (.seq (.seq (.region [Lw 9 0,
 Ipx 10 4,
 Lw 11 2,
 Ll 12 (Ofx F32 [(.t 9),(.t 10),(.t 11),(Acx 4)]),
 Lw 8 12] [0,2,4,6,8])
 (.seq (.region [Lw 13 8,
 Ll 14 (.bin .neq (.t 13) (Acx 0))] [0,2,4,6,8,14])
 (.cond (.t 14)
 (.seq (.region [Ll 15 (.build false (.arr 64 .leaf z64) []),
 Lw 16 8,
 Ls (.store false Sx6 (.t 6) (.t 15)),
 Lw 7 16] [6,7])
 (.ret))
 (.skip))))
 (.seq (.region [Lw 17 0,
 Lw 18 0,
 Ipx 19 4,
 Lw 20 0,
 Ipx 21 4,
 Lw 22 2,
 ⟨some 23,.call .heap [2] (.f F33) [(.t 20),(.t 21),(.t 22)],none,[4]⟩,
 Ll 24 (.call .heap [] (.f F31) [(.t 18),(.t 19),(.t 23)]),
 ⟨some 25,.load Sx6 (.t 4),none,[18,19,20,21,22,23]⟩,
 Ll 26 (Ofx F2n [(.t 17),(.t 24),(.t 25)]),
 Ls (.store false Sx6 (.t 6) (.t 26)),
 Ll 7 (.mv (Acx 0))] [6,7])
 (.ret)))
def ir_spec_MooreDeterminantt:Fn:=
 { nparams:=3,nblk:=3,results:=[.cell 6 Sx6,.tmp 7],body:=ir_spec_MooreDeterminantt_B }
end Pe

/-
 Functions of the laws in the small form,printed by a program.
-/
namespace Pe
open Go
def Z1j_B:Cd:=
 .seq (.region [Ll 4 (.box false 0 (.t 1)),
 Ll 6 (.mv (.c (.bool false)))] [0,2,4])
 (.seq (.region [Ll 7 (.mv (Acx 1048576))] [0,2,4,7])
 (.seq (.region [Lw 13 2,
 Lw 14 7,
 Ll 15 (Ofx F1m [(.t 13),(.t 14)]),
 Lw 7 15] [0,2,4,7])
 (.seq (.seq (.region [Lw 16 7,
 Ll 17 (.bin .lss (.t 16) (Acx 0))] [0,2,4,17])
 (.cond (.t 17)
 (.seq (.region [Ll 6 (.mv (.c (.bool true)))] [6])
 (.ret))
 (.skip)))
 (.seq (.region [Lw 19 0,
 Ipx 20 4,
 Ll 21 (Ofx F1n [(.t 20)]),
 Lw 22 2,
 Ll 23 (Opx F1o [(.t 22)]),
 Ll 24 (Ofx F2d [(.t 19),(.t 21),(.t 23)]),
 Lw 18 24,
 Iex 25 18 0,
 Iex 26 18 1,
 Ll 8 (.box false 1 (.c (.arr 64 .leaf z64))),
 Ls (.store false Sx6 (.t 8) (.t 25)),
 Lw 9 26] [0,2,4,8,9])
 (.seq (.region [Lw 27 2,
 Ll 28 (Opx F1o [(.t 27)]),
 Lw 10 28] [0,2,4,8,9,10])
 (.seq (.region [Lw 30 0,
 Ipx 31 4,
 Ll 32 (Ofx F1n [(.t 31)]),
 Lw 33 10,
 Ll 34 (Ofx F5 [(.t 30),(.t 32),(.t 33)]),
 Lw 29 34,
 Iex 35 29 0,
 Iex 36 29 1,
 Ll 11 (.box false 2 (.c (.arr 64 .leaf z64))),
 Ls (.store false Sx6 (.t 11) (.t 35)),
 Lw 12 36] [2,8,9,10,11,12])
 (.seq (.seq (.region [Ipx 37 11,
 Ipx 38 8,
 Ll 39 (Ofx F1k [(.t 37),(.t 38)]),
 Ll 40 (.un .not (.t 39)),
 Lw 41 40,
 Lx 42 12 41 false,
 Lx 43 9 41 false,
 Lg 44 (.bin .neq (.t 42) (.t 43)) 41 false,
 Ll 45 (.pick (.t 41) (.c (.bool true)) (.t 44))] [2,10,45])
 (.cond (.t 45)
 (.seq (.region [Ll 6 (.mv (.c (.bool false)))] [6])
 (.ret))
 (.skip)))
 (.seq (.seq (.region [Lw 46 10,
 Lw 47 2,
 Ll 48 (Opx F1o [(.t 47)]),
 Ll 49 (Ofx F1l [(.t 46),(.t 48)]),
 Ll 50 (.un .not (.t 49))] [50])
 (.cond (.t 50)
 (.seq (.region [Ll 6 (.mv (.c (.bool false)))] [6])
 (.ret))
 (.skip)))
 (.seq (.region [Ll 6 (.mv (.c (.bool true)))] [6])
 (.ret))))))))))
def Z1j:Fn:=
 { nparams:=3,nblk:=3,results:=[.tmp 6],body:=Z1j_B }
end Pe

/-
 Functions of the program in the small form,printed by a program.
-/
namespace Pe
open Go
def Z2g_L0:Cd:=
 .seq (.seq (.region [Lw 4 3,
 Ll 5 (.bin .geq (.t 4) (Acx 0)),
 Lw 6 5,
 Lx 7 3 6 true,
 Lg 8 (.idxA (some 64) .leaf (.t 1) (.t 7)) 6 true,
 Lg 9 (.load .leaf (.t 8)) 6 true,
 Lg 10 (.bin .eql (.t 9) (.c (.int .u8 0))) 6 true,
 Ll 11 (.pick (.t 6) (.t 10) (.c (.bool false)))] [1,3,11])
 (.cond (.t 11)
 (.skip)
 (.exit 0)))
 (.block 1 (.region [Lw 12 3,
 Ll 13 (.bin .sub (.t 12) (Acx 1)),
 Lw 3 13] [1,3]))
def Z2g_B:Cd:=
 .seq (.region [Ll 1 (.box false 0 (.t 0)),
 Ll 2 (.mv (Acx 0))] [1])
 (.seq (.region [Ll 3 (.mv (Acx 63))] [1,3])
 (.seq (.block 0 (.loop (Z2g_L0)))
 (.seq (.region [Lw 14 3,
 Lw 2 14] [2])
 (.ret))))
def Z2g:Fn:=
 { nparams:=1,nblk:=1,results:=[.tmp 2],body:=Z2g_B }
def Z2j_B:Cd:=
 .seq (.region [Ll 6 (.mv (.c (.bool false)))] [0,1,2])
 (.seq (.region [Lw 7 0,
 Lw 8 1,
 Ll 9 (.bin .geq (.t 7) (.t 8)),
 Lw 10 9,
 Lx 11 0 10 true,
 Lx 12 2 10 true,
 Lg 13 (.bin .leq (.t 11) (.t 12)) 10 true,
 Ll 14 (.pick (.t 10) (.t 13) (.c (.bool false))),
 Lw 6 14] [6])
 (.ret))
def Z2j:Fn:=
 { nparams:=3,nblk:=0,results:=[.tmp 6],body:=Z2j_B }
def Z2s_B:Cd:=
 .seq (.region [Ll 2 (.mv (.c (.bool false)))] [0])
 (.seq (.region [Lw 3 0,
 Ll 4 (.bin .eql (.t 3) (Acx 2)),
 Lw 5 4,
 Lx 6 0 5 false,
 Lg 7 (.bin .eql (.t 6) (Acx 3)) 5 false,
 Ll 8 (.pick (.t 5) (.c (.bool true)) (.t 7)),
 Lw 9 8,
 Lx 10 0 9 false,
 Lg 11 (.bin .eql (.t 10) (Acx 5)) 9 false,
 Ll 12 (.pick (.t 9) (.c (.bool true)) (.t 11)),
 Lw 13 12,
 Lx 14 0 13 false,
 Lg 15 (.bin .eql (.t 14) (Acx 7)) 13 false,
 Ll 16 (.pick (.t 13) (.c (.bool true)) (.t 15)),
 Lw 2 16] [2])
 (.ret))
def Z2s:Fn:=
 { nparams:=1,nblk:=0,results:=[.tmp 2],body:=Z2s_B }
def Z2m_L0:Cd:=
 .seq (.seq (.region [Lw 6 5,
 Ll 7 (.bin .lss (.t 6) (Acx 64))] [0,3,5,7])
 (.cond (.t 7)
 (.skip)
 (.exit 0)))
 (.seq (.block 1 (.seq (.region [Lw 10 5,
 Ll 11 (.idxA (some 64) .leaf (.t 3) (.t 10)),
 Ilx 12 11,
 Ll 13 (.conv .i64 (.t 12)),
 Lw 14 0,
 Ll 15 (.bin .geq (.t 13) (.t 14))] [0,3,5,15])
 (.cond (.t 15)
 (.seq (.region [Ll 4 (.mv (.c (.bool false)))] [4])
 (.ret))
 (.skip))))
 (.region [Lw 8 5,
 Ll 9 (.bin .add (.t 8) (Acx 1)),
 Lw 5 9] [0,3,5]))
def Z2m_B:Cd:=
 .seq (.region [Ll 3 (.box false 0 (.t 1)),
 Ll 4 (.mv (.c (.bool false)))] [0,3])
 (.seq (.seq (.region [Ll 5 (.mv (Acx 0))] [0,3,5])
 (.block 0 (.loop (Z2m_L0))))
 (.seq (.region [Lw 16 0,
 Ll 17 (Ofx F2s [(.t 16)]),
 Lw 4 17] [4])
 (.ret)))
def Z2m:Fn:=
 { nparams:=2,nblk:=1,results:=[.tmp 4],body:=Z2m_B }
def Z2o_B:Cd:=
 .seq (.region [Ll 1 (.box false 0 (.t 0)),
 Ll 2 (.mv (.c (.bool false)))] [1])
 (.seq (.region [Ipx 4 1,
 Ll 5 (Ofx F2g [(.t 4)]),
 Lw 3 5] [1,3])
 (.seq (.region [Lw 6 3,
 Ll 7 (.bin .geq (.t 6) (Acx 0)),
 Lw 8 7,
 Lx 9 3 8 true,
 Lg 10 (.idxA (some 64) .leaf (.t 1) (.t 9)) 8 true,
 Lg 11 (.load .leaf (.t 10)) 8 true,
 Lg 12 (.bin .eql (.t 11) (.c (.int .u8 1))) 8 true,
 Ll 13 (.pick (.t 8) (.t 12) (.c (.bool false))),
 Lw 2 13] [2])
 (.ret)))
def Z2o:Fn:=
 { nparams:=1,nblk:=1,results:=[.tmp 2],body:=Z2o_B }
def Z2k_L0:Cd:=
 .seq (.seq (.region [Lw 6 5,
 Lw 7 0,
 Ll 8 (.bin .lss (.t 6) (.t 7))] [0,1,5,8])
 (.cond (.t 8)
 (.skip)
 (.exit 0)))
 (.seq (.block 1 (.seq (.region [Lw 11 5,
 Lw 12 1,
 Ll 13 (.conv .i64 (.t 12)),
 Ll 14 (.bin .mul (.t 11) (.t 13)),
 Lw 15 0,
 Ll 16 (.bin .rem (.t 14) (.t 15)),
 Ll 17 (.bin .eql (.t 16) (Acx 1))] [0,1,5,17])
 (.cond (.t 17)
 (.seq (.region [Lw 18 5,
 Ll 19 (.conv .u8 (.t 18)),
 Lw 4 19] [4])
 (.ret))
 (.skip))))
 (.region [Lw 9 5,
 Ll 10 (.bin .add (.t 9) (Acx 1)),
 Lw 5 10] [0,1,5]))
def Z2k_B:Cd:=
 .seq (.region [Ll 4 (.mv (.c (.int .u8 0)))] [0,1])
 (.seq (.seq (.region [Ll 5 (.mv (Acx 1))] [0,1,5])
 (.block 0 (.loop (Z2k_L0))))
 (.seq (.region [Ll 4 (.mv (.c (.int .u8 0)))] [4])
 (.ret)))
def Z2k:Fn:=
 { nparams:=2,nblk:=0,results:=[.tmp 4],body:=Z2k_B }
def Z2h_L0:Cd:=
 .seq (.seq (.region [Lw 44 13,
 Lw 45 9,
 Ll 46 (.bin .leq (.t 44) (.t 45)),
 Lw 47 46,
 Lx 48 12 47 true,
 Lg 49 (.bin .neq (.t 48) (Acx 0)) 47 true,
 Ll 50 (.pick (.t 47) (.t 49) (.c (.bool false)))] [0,4,5,6,7,8,9,10,11,12,13,50])
 (.cond (.t 50)
 (.skip)
 (.exit 2)))
 (.seq (.block 3 (.region [Lw 53 11,
 Lw 54 9,
 Ll 55 (.bin .sub (.t 53) (.t 54)),
 Lw 56 13,
 Ll 57 (.bin .add (.t 55) (.t 56)),
 Lw 58 11,
 Lw 59 9,
 Ll 60 (.bin .sub (.t 58) (.t 59)),
 Lw 61 13,
 Ll 62 (.bin .add (.t 60) (.t 61)),
 Ll 63 (.idxA (some 64) .leaf (.t 4) (.t 62)),
 Ilx 64 63,
 Ll 65 (.conv .i64 (.t 64)),
 Lw 66 12,
 Lw 67 13,
 Ll 68 (.idxA (some 64) .leaf (.t 5) (.t 67)),
 Ilx 69 68,
 Ll 70 (.conv .i64 (.t 69)),
 Ll 71 (.bin .mul (.t 66) (.t 70)),
 Ll 72 (.bin .sub (.t 65) (.t 71)),
 Lw 73 0,
 Ll 74 (.bin .rem (.t 72) (.t 73)),
 Lw 75 0,
 Ll 76 (.bin .add (.t 74) (.t 75)),
 Lw 77 0,
 Ll 78 (.bin .rem (.t 76) (.t 77)),
 Ll 79 (.conv .u8 (.t 78)),
 Ll 80 (.idxA (some 64) .leaf (.t 4) (.t 57)),
 Ls (.store false .leaf (.t 80) (.t 79))] [0,4,5,6,7,8,9,10,11,12,13]))
 (.region [Lw 51 13,
 Ll 52 (.bin .add (.t 51) (Acx 1)),
 Lw 13 52] [0,4,5,6,7,8,9,10,11,12,13]))
def Z2h_L1:Cd:=
 .seq (.seq (.region [Lw 25 11,
 Lw 26 9,
 Ll 27 (.bin .geq (.t 25) (.t 26))] [0,4,5,6,7,8,9,10,11,27])
 (.cond (.t 27)
 (.skip)
 (.exit 0)))
 (.seq (.block 1 (.seq (.region [Lw 30 11,
 Ll 31 (.idxA (some 64) .leaf (.t 4) (.t 30)),
 Ilx 32 31,
 Ll 33 (.conv .i64 (.t 32)),
 Lw 34 10,
 Ll 35 (.bin .mul (.t 33) (.t 34)),
 Lw 36 0,
 Ll 37 (.bin .rem (.t 35) (.t 36)),
 Lw 12 37] [0,4,5,6,7,8,9,10,11,12])
 (.seq (.region [Lw 38 11,
 Lw 39 9,
 Ll 40 (.bin .sub (.t 38) (.t 39)),
 Lw 41 12,
 Ll 42 (.conv .u8 (.t 41)),
 Ll 43 (.idxA (some 64) .leaf (.t 8) (.t 40)),
 Ls (.store false .leaf (.t 43) (.t 42))] [0,4,5,6,7,8,9,10,11,12])
 (.seq (.region [Ll 13 (.mv (Acx 0))] [0,4,5,6,7,8,9,10,11,12,13])
 (.block 2 (.loop (Z2h_L0)))))))
 (.region [Lw 28 11,
 Ll 29 (.bin .sub (.t 28) (Acx 1)),
 Lw 11 29] [0,4,5,6,7,8,9,10,11]))
def Z2h_B:Cd:=
 .seq (.region [Ll 4 (.box false 0 (.t 1)),
 Ll 5 (.box false 1 (.t 2)),
 Ll 6 (.box false 2 (.c (.arr 64 .leaf z64))),
 Ll 7 (.box false 3 (.c (.arr 64 .leaf z64)))] [0,4,5,6,7])
 (.seq (.region [Ll 14 (.build false (.arr 64 .leaf z64) []),
 Ipx 15 5,
 Ll 16 (Ofx F2g [(.t 15)]),
 Ll 8 (.box false 4 (.c (.arr 64 .leaf z64))),
 Ls (.store false Sx6 (.t 8) (.t 14)),
 Lw 9 16] [0,4,5,6,7,8,9])
 (.seq (.region [Lw 17 0,
 Lw 18 9,
 Ll 19 (.idxA (some 64) .leaf (.t 5) (.t 18)),
 Ilx 20 19,
 Ll 21 (Ofx F2k [(.t 17),(.t 20)]),
 Ll 22 (.conv .i64 (.t 21)),
 Lw 10 22] [0,4,5,6,7,8,9,10])
 (.seq (.seq (.region [Ipx 23 4,
 Ll 24 (Ofx F2g [(.t 23)]),
 Lw 11 24] [0,4,5,6,7,8,9,10,11])
 (.block 0 (.loop (Z2h_L1))))
 (.seq (.region [Ipx 81 8,
 Ipx 82 4,
 ⟨none,.store false Sx6 (.t 6) (.t 81),none,[4]⟩,
 Ls (.store false Sx6 (.t 7) (.t 82))] [6,7])
 (.ret)))))
def Z2h:Fn:=
 { nparams:=3,nblk:=5,results:=[.cell 6 Sx6,.cell 7 Sx6],body:=Z2h_B }
def Z2n_B:Cd:=
 .seq (.region [Ll 4 (.box false 0 (.t 1)),
 Ll 5 (.box false 1 (.t 2)),
 Ll 6 (.box false 2 (.c (.arr 64 .leaf z64)))] [0,4,5,6])
 (.seq (.region [Lw 10 0,
 Ipx 11 4,
 Ipx 12 5,
 Ll 13 (Ofx F2h [(.t 10),(.t 11),(.t 12)]),
 Lw 9 13,
 Iex 14 9 0,
 Iex 15 9 1,
 Ll 7 (.box false 3 (.c (.arr 64 .leaf z64))),
 Ll 8 (.box false 4 (.c (.arr 64 .leaf z64))),
 Ls (.store false Sx6 (.t 7) (.t 14)),
 Ls (.store false Sx6 (.t 8) (.t 15))] [6,8])
 (.seq (.region [Ipx 16 8,
 Ls (.store false Sx6 (.t 6) (.t 16))] [6])
 (.ret)))
def Z2n:Fn:=
 { nparams:=3,nblk:=5,results:=[.cell 6 Sx6],body:=Z2n_B }
def Z2q_B:Cd:=
 .seq (.region [Ll 0 (.box false 0 (.c (.arr 64 .leaf z64)))] [0])
 (.seq (.region [Ll 1 (.build false (.arr 64 .leaf z64) [(0,(.c (.int .u8 1)))]),
 Ls (.store false Sx6 (.t 0) (.t 1))] [0])
 (.ret))
def Z2q:Fn:=
 { nparams:=0,nblk:=1,results:=[.cell 0 Sx6],body:=Z2q_B }
def Z2e_L0:Cd:=
 .seq (.seq (.region [Lw 10 9,
 Ll 11 (.bin .lss (.t 10) (Acx 64))] [0,3,5,6,8,9,11])
 (.cond (.t 11)
 (.skip)
 (.exit 0)))
 (.seq (.block 1 (.region [Lw 14 9,
 Lw 15 9,
 Ll 16 (.idxA (some 64) .leaf (.t 5) (.t 15)),
 Ilx 17 16,
 Ll 18 (.conv .i64 (.t 17)),
 Lw 19 3,
 Lw 20 9,
 Ll 21 (.idxA (some 64) .leaf (.t 6) (.t 20)),
 Ilx 22 21,
 Ll 23 (.conv .i64 (.t 22)),
 Ll 24 (.bin .mul (.t 19) (.t 23)),
 Ll 25 (.bin .add (.t 18) (.t 24)),
 Lw 26 0,
 Ll 27 (.bin .rem (.t 25) (.t 26)),
 Lw 28 0,
 Ll 29 (.bin .add (.t 27) (.t 28)),
 Lw 30 0,
 Ll 31 (.bin .rem (.t 29) (.t 30)),
 Ll 32 (.conv .u8 (.t 31)),
 Ll 33 (.idxA (some 64) .leaf (.t 5) (.t 14)),
 Ls (.store false .leaf (.t 33) (.t 32))] [0,3,5,6,8,9]))
 (.region [Lw 12 9,
 Ll 13 (.bin .add (.t 12) (Acx 1)),
 Lw 9 13] [0,3,5,6,8,9]))
def Z2e_B:Cd:=
 .seq (.region [Ll 5 (.box false 0 (.t 1)),
 Ll 6 (.box false 1 (.t 2)),
 Ll 8 (.box false 2 (.c (.arr 64 .leaf z64)))] [0,3,5,6,8])
 (.seq (.seq (.region [Ll 9 (.mv (Acx 0))] [0,3,5,6,8,9])
 (.block 0 (.loop (Z2e_L0))))
 (.seq (.region [Ipx 34 5,
 Ls (.store false Sx6 (.t 8) (.t 34))] [8])
 (.ret)))
def Z2e:Fn:=
 { nparams:=4,nblk:=3,results:=[.cell 8 Sx6],body:=Z2e_B }
def Z2v_L0:Cd:=
 .seq (.seq (.region [Lw 24 10,
 Lw 25 7,
 Ll 26 (.bin .lss (.t 24) (.t 25))] [0,4,5,6,7,8,9,10,26])
 (.cond (.t 26)
 (.skip)
 (.exit 0)))
 (.seq (.block 1 (.region [Lw 29 10,
 Lw 30 10,
 Ll 31 (.bin .sub (.t 30) (Acx 1)),
 Ll 32 (.idxA (some 64) .leaf (.t 4) (.t 31)),
 Ilx 33 32,
 Ll 34 (.idxA (some 64) .leaf (.t 9) (.t 29)),
 Ls (.store false .leaf (.t 34) (.t 33))] [0,4,5,6,7,8,9,10]))
 (.region [Lw 27 10,
 Ll 28 (.bin .add (.t 27) (Acx 1)),
 Lw 10 28] [0,4,5,6,7,8,9,10]))
def Z2v_L1:Cd:=
 .seq (.seq (.region [Lw 45 12,
 Lw 46 7,
 Ll 47 (.bin .lss (.t 45) (.t 46))] [0,5,6,7,9,11,12,47])
 (.cond (.t 47)
 (.skip)
 (.exit 2)))
 (.seq (.block 3 (.region [Lw 50 12,
 Lw 51 12,
 Ll 52 (.idxA (some 64) .leaf (.t 9) (.t 51)),
 Ilx 53 52,
 Ll 54 (.conv .i64 (.t 53)),
 Lw 55 11,
 Lw 56 12,
 Ll 57 (.idxA (some 64) .leaf (.t 5) (.t 56)),
 Ilx 58 57,
 Ll 59 (.conv .i64 (.t 58)),
 Ll 60 (.bin .mul (.t 55) (.t 59)),
 Ll 61 (.bin .sub (.t 54) (.t 60)),
 Lw 62 0,
 Ll 63 (.bin .rem (.t 61) (.t 62)),
 Lw 64 0,
 Ll 65 (.bin .add (.t 63) (.t 64)),
 Lw 66 0,
 Ll 67 (.bin .rem (.t 65) (.t 66)),
 Ll 68 (.conv .u8 (.t 67)),
 Ll 69 (.idxA (some 64) .leaf (.t 9) (.t 50)),
 Ls (.store false .leaf (.t 69) (.t 68))] [0,5,6,7,9,11,12]))
 (.region [Lw 48 12,
 Ll 49 (.bin .add (.t 48) (Acx 1)),
 Lw 12 49] [0,5,6,7,9,11,12]))
def Z2v_B:Cd:=
 .seq (.region [Ll 4 (.box false 0 (.t 1)),
 Ll 5 (.box false 1 (.t 2)),
 Ll 6 (.box false 2 (.c (.arr 64 .leaf z64)))] [0,4,5,6])
 (.seq (.region [Ipx 13 5,
 Ll 14 (Ofx F2g [(.t 13)]),
 Lw 7 14] [0,4,5,6,7])
 (.seq (.seq (.region [Lw 15 7,
 Ll 16 (.bin .eql (.t 15) (Acx 0))] [0,4,5,6,7,16])
 (.cond (.t 16)
 (.seq (.region [Ll 17 (.build false (.arr 64 .leaf z64) []),
 Ls (.store false Sx6 (.t 6) (.t 17))] [6])
 (.ret))
 (.skip)))
 (.seq (.region [Lw 18 7,
 Ll 19 (.bin .sub (.t 18) (Acx 1)),
 Ll 20 (.idxA (some 64) .leaf (.t 4) (.t 19)),
 Ilx 21 20,
 Ll 22 (.conv .i64 (.t 21)),
 Ll 23 (.build false (.arr 64 .leaf z64) []),
 Ll 9 (.box false 3 (.c (.arr 64 .leaf z64))),
 Lw 8 22,
 Ls (.store false Sx6 (.t 9) (.t 23))] [0,4,5,6,7,8,9])
 (.seq (.seq (.region [Ll 10 (.mv (Acx 1))] [0,4,5,6,7,8,9,10])
 (.block 0 (.loop (Z2v_L0))))
 (.seq (.region [Lw 35 8,
 Lw 36 0,
 Lw 37 7,
 Ll 38 (.idxA (some 64) .leaf (.t 5) (.t 37)),
 Ilx 39 38,
 Ll 40 (Ofx F2k [(.t 36),(.t 39)]),
 Ll 41 (.conv .i64 (.t 40)),
 Ll 42 (.bin .mul (.t 35) (.t 41)),
 Lw 43 0,
 Ll 44 (.bin .rem (.t 42) (.t 43)),
 Lw 11 44] [0,5,6,7,9,11])
 (.seq (.seq (.region [Ll 12 (.mv (Acx 0))] [0,5,6,7,9,11,12])
 (.block 2 (.loop (Z2v_L1))))
 (.seq (.region [Ipx 70 9,
 Ls (.store false Sx6 (.t 6) (.t 70))] [6])
 (.ret))))))))
def Z2v:Fn:=
 { nparams:=3,nblk:=4,results:=[.cell 6 Sx6],body:=Z2v_B }
def Z2p_L0:Cd:=
 .seq (.seq (.region [Lw 14 10,
 Ll 15 (.bin .geq (.t 14) (Acx 0))] [0,5,6,7,8,9,10,15])
 (.cond (.t 15)
 (.skip)
 (.exit 0)))
 (.seq (.block 1 (.seq (.region [Lw 18 0,
 Ipx 19 9,
 Ipx 20 7,
 Ll 21 (Ofx F2v [(.t 18),(.t 19),(.t 20)]),
 Ls (.store false Sx6 (.t 9) (.t 21))] [0,5,6,7,8,9,10])
 (.region [Lw 22 0,
 Lw 23 0,
 Ipx 24 9,
 Ipx 25 5,
 Lw 26 10,
 Ll 27 (.idxA (some 64) .leaf (.t 6) (.t 26)),
 Ilx 28 27,
 Ll 29 (.conv .i64 (.t 28)),
 Ll 30 (Ofx F2e [(.t 23),(.t 24),(.t 25),(.t 29)]),
 Ipx 31 7,
 Ll 32 (Ofx F2n [(.t 22),(.t 30),(.t 31)]),
 Ls (.store false Sx6 (.t 9) (.t 32))] [0,5,6,7,8,9,10])))
 (.region [Lw 16 10,
 Ll 17 (.bin .sub (.t 16) (Acx 1)),
 Lw 10 17] [0,5,6,7,8,9,10]))
def Z2p_B:Cd:=
 .seq (.region [Ll 5 (.box false 0 (.t 1)),
 Ll 6 (.box false 1 (.t 2)),
 Ll 7 (.box false 2 (.t 3)),
 Ll 8 (.box false 3 (.c (.arr 64 .leaf z64)))] [0,5,6,7,8])
 (.seq (.region [Ll 11 (.build false (.arr 64 .leaf z64) []),
 Ll 9 (.box false 4 (.c (.arr 64 .leaf z64))),
 Ls (.store false Sx6 (.t 9) (.t 11))] [0,5,6,7,8,9])
 (.seq (.seq (.region [Ipx 12 6,
 Ll 13 (Ofx F2g [(.t 12)]),
 Lw 10 13] [0,5,6,7,8,9,10])
 (.block 0 (.loop (Z2p_L0))))
 (.seq (.region [Ipx 33 9,
 Ls (.store false Sx6 (.t 8) (.t 33))] [8])
 (.ret))))
def Z2p:Fn:=
 { nparams:=4,nblk:=5,results:=[.cell 8 Sx6],body:=Z2p_B }
def Z2r_L0:Cd:=
 .seq (.seq (.region [Lw 19 2,
 Ll 20 (.bin .gtr (.t 19) (Acx 0))] [0,2,7,8,9,10,20])
 (.cond (.t 20)
 (.skip)
 (.exit 0)))
 (.seq (.block 1 (.seq (.seq (.region [Lw 23 2,
 Ll 24 (.bin .rem (.t 23) (Acx 2)),
 Ll 25 (.bin .eql (.t 24) (Acx 1))] [0,2,7,8,9,10,25])
 (.cond (.t 25)
 (.region [Lw 26 0,
 Ipx 27 9,
 Ipx 28 10,
 Ipx 29 7,
 Ll 30 (Ofx F2p [(.t 26),(.t 27),(.t 28),(.t 29)]),
 Ls (.store false Sx6 (.t 9) (.t 30))] [0,2,7,8,9,10])
 (.skip)))
 (.region [Lw 31 0,
 Ipx 32 10,
 Ipx 33 10,
 Ipx 34 7,
 Ll 35 (Ofx F2p [(.t 31),(.t 32),(.t 33),(.t 34)]),
 Ls (.store false Sx6 (.t 10) (.t 35))] [0,2,7,8,9,10])))
 (.region [Lw 21 2,
 Ll 22 (.bin .quo (.t 21) (Acx 2)),
 Lw 2 22] [0,2,7,8,9,10]))
def Z2r_B:Cd:=
 .seq (.region [Ll 5 (.box false 0 (.t 1)),
 Ll 7 (.box false 1 (.t 3)),
 Ll 8 (.box false 2 (.c (.arr 64 .leaf z64)))] [0,2,5,7,8])
 (.seq (.region [Lw 11 0,
 Ll 12 (Ofx F2q []),
 Ipx 13 7,
 Ll 14 (Ofx F2n [(.t 11),(.t 12),(.t 13)]),
 Lw 15 0,
 Ipx 16 5,
 Ipx 17 7,
 Ll 18 (Ofx F2n [(.t 15),(.t 16),(.t 17)]),
 Ll 9 (.box false 3 (.c (.arr 64 .leaf z64))),
 Ll 10 (.box false 4 (.c (.arr 64 .leaf z64))),
 Ls (.store false Sx6 (.t 9) (.t 14)),
 Ls (.store false Sx6 (.t 10) (.t 18))] [0,2,7,8,9,10])
 (.seq (.block 0 (.loop (Z2r_L0)))
 (.seq (.region [Ipx 36 9,
 Ls (.store false Sx6 (.t 8) (.t 36))] [8])
 (.ret))))
def Z2r:Fn:=
 { nparams:=4,nblk:=5,results:=[.cell 8 Sx6],body:=Z2r_B }
def Z2u_L0:Cd:=
 .seq (.seq (.region [Lw 35 12,
 Lw 36 9,
 Ll 37 (.bin .leq (.t 35) (.t 36)),
 Lw 38 37,
 Lx 39 11 38 true,
 Lg 40 (.idxA (some 64) .leaf (.t 4) (.t 39)) 38 true,
 Lg 41 (.load .leaf (.t 40)) 38 true,
 Lg 42 (.bin .neq (.t 41) (.c (.int .u8 0))) 38 true,
 Ll 43 (.pick (.t 38) (.t 42) (.c (.bool false)))] [0,4,5,6,8,9,10,11,12,43])
 (.cond (.t 43)
 (.skip)
 (.exit 2)))
 (.seq (.block 3 (.region [Lw 46 11,
 Lw 47 12,
 Ll 48 (.bin .add (.t 46) (.t 47)),
 Lw 49 11,
 Lw 50 12,
 Ll 51 (.bin .add (.t 49) (.t 50)),
 Ll 52 (.idxA (some 64) .leaf (.t 10) (.t 51)),
 Ilx 53 52,
 Ll 54 (.conv .i64 (.t 53)),
 Lw 55 11,
 Ll 56 (.idxA (some 64) .leaf (.t 4) (.t 55)),
 Ilx 57 56,
 Ll 58 (.conv .i64 (.t 57)),
 Lw 59 12,
 Ll 60 (.idxA (some 64) .leaf (.t 5) (.t 59)),
 Ilx 61 60,
 Ll 62 (.conv .i64 (.t 61)),
 Ll 63 (.bin .mul (.t 58) (.t 62)),
 Ll 64 (.bin .add (.t 54) (.t 63)),
 Lw 65 0,
 Ll 66 (.bin .rem (.t 64) (.t 65)),
 Ll 67 (.conv .u8 (.t 66)),
 Ll 68 (.idxA (some 64) .leaf (.t 10) (.t 48)),
 Ls (.store false .leaf (.t 68) (.t 67))] [0,4,5,6,8,9,10,11,12]))
 (.region [Lw 44 12,
 Ll 45 (.bin .add (.t 44) (Acx 1)),
 Lw 12 45] [0,4,5,6,8,9,10,11,12]))
def Z2u_L1:Cd:=
 .seq (.seq (.region [Lw 30 11,
 Lw 31 8,
 Ll 32 (.bin .leq (.t 30) (.t 31))] [0,4,5,6,8,9,10,11,32])
 (.cond (.t 32)
 (.skip)
 (.exit 0)))
 (.seq (.block 1 (.seq (.region [Ll 12 (.mv (Acx 0))] [0,4,5,6,8,9,10,11,12])
 (.block 2 (.loop (Z2u_L0)))))
 (.region [Lw 33 11,
 Ll 34 (.bin .add (.t 33) (Acx 1)),
 Lw 11 34] [0,4,5,6,8,9,10,11]))
def Z2u_B:Cd:=
 .seq (.region [Ll 4 (.box false 0 (.t 1)),
 Ll 5 (.box false 1 (.t 2)),
 Ll 6 (.box false 2 (.c (.arr 64 .leaf z64))),
 Ll 7 (.mv (.c (.bool false)))] [0,4,5,6])
 (.seq (.region [Ipx 13 4,
 Ll 14 (Ofx F2g [(.t 13)]),
 Ipx 15 5,
 Ll 16 (Ofx F2g [(.t 15)]),
 Ll 17 (.build false (.arr 64 .leaf z64) []),
 Ll 10 (.box false 3 (.c (.arr 64 .leaf z64))),
 Lw 8 14,
 Lw 9 16,
 Ls (.store false Sx6 (.t 10) (.t 17))] [0,4,5,6,8,9,10])
 (.seq (.seq (.region [Lw 18 8,
 Ll 19 (.bin .lss (.t 18) (Acx 0)),
 Lw 20 19,
 Lx 21 9 20 false,
 Lg 22 (.bin .lss (.t 21) (Acx 0)) 20 false,
 Ll 23 (.pick (.t 20) (.c (.bool true)) (.t 22))] [0,4,5,6,8,9,10,23])
 (.cond (.t 23)
 (.seq (.region [Ipx 24 10,
 Ls (.store false Sx6 (.t 6) (.t 24)),
 Ll 7 (.mv (.c (.bool true)))] [6,7])
 (.ret))
 (.skip)))
 (.seq (.seq (.region [Lw 25 8,
 Lw 26 9,
 Ll 27 (.bin .add (.t 25) (.t 26)),
 Ll 28 (.bin .gtr (.t 27) (Acx 63))] [0,4,5,6,8,9,10,28])
 (.cond (.t 28)
 (.seq (.region [Ipx 29 10,
 Ls (.store false Sx6 (.t 6) (.t 29)),
 Ll 7 (.mv (.c (.bool false)))] [6,7])
 (.ret))
 (.skip)))
 (.seq (.seq (.region [Ll 11 (.mv (Acx 0))] [0,4,5,6,8,9,10,11])
 (.block 0 (.loop (Z2u_L1))))
 (.seq (.region [Ipx 69 10,
 Ls (.store false Sx6 (.t 6) (.t 69)),
 Ll 7 (.mv (.c (.bool true)))] [6,7])
 (.ret))))))
def Z2u:Fn:=
 { nparams:=3,nblk:=4,results:=[.cell 6 Sx6,.tmp 7],body:=Z2u_B }
def Z2f_L0:Cd:=
 .seq (.seq (.region [Ipx 26 5,
 Ll 27 (Ofx F2g [(.t 26)]),
 Ll 28 (.bin .geq (.t 27) (Acx 0))] [0,4,5,6,7,8,9,10,11,12,28])
 (.cond (.t 28)
 (.skip)
 (.exit 0)))
 (.block 1 (.seq (.region [Lw 30 0,
 Ipx 31 4,
 Ipx 32 5,
 Ll 33 (Ofx F2h [(.t 30),(.t 31),(.t 32)]),
 Lw 29 33,
 Iex 34 29 0,
 Iex 35 29 1,
 Ll 13 (.box false 9 (.c (.arr 64 .leaf z64))),
 Ll 14 (.box false 10 (.c (.arr 64 .leaf z64))),
 Ls (.store false Sx6 (.t 13) (.t 34)),
 Ls (.store false Sx6 (.t 14) (.t 35))] [0,4,5,6,7,8,9,10,11,12,13,14])
 (.seq (.region [Lw 37 0,
 Ipx 38 13,
 Ipx 39 10,
 Ll 40 (Ofx F2u [(.t 37),(.t 38),(.t 39)]),
 Lw 36 40,
 Iex 41 36 0,
 Iex 42 36 1,
 Ll 15 (.box false 11 (.c (.arr 64 .leaf z64))),
 Ls (.store false Sx6 (.t 15) (.t 41)),
 Lw 16 42] [0,4,5,6,7,8,9,10,11,12,13,14,15])
 (.seq (.region [Lw 44 0,
 Ipx 45 13,
 Ipx 46 12,
 Ll 47 (Ofx F2u [(.t 44),(.t 45),(.t 46)]),
 Lw 43 47,
 Iex 48 43 0,
 Iex 49 43 1,
 Ll 17 (.box false 12 (.c (.arr 64 .leaf z64))),
 Ls (.store false Sx6 (.t 17) (.t 48)),
 Lw 18 49] [0,4,5,6,7,8,9,10,11,12,14,15,17])
 (.seq (.region [Lw 50 0,
 Ipx 51 9,
 Ipx 52 15,
 Ll 53 (Ofx F2e [(.t 50),(.t 51),(.t 52),(Acx (-1))]),
 Lw 54 0,
 Ipx 55 11,
 Ipx 56 17,
 Ll 57 (Ofx F2e [(.t 54),(.t 55),(.t 56),(Acx (-1))]),
 Ll 19 (.box false 13 (.c (.arr 64 .leaf z64))),
 Ll 20 (.box false 14 (.c (.arr 64 .leaf z64))),
 Ls (.store false Sx6 (.t 19) (.t 53)),
 Ls (.store false Sx6 (.t 20) (.t 57))] [0,4,5,6,7,8,9,10,11,12,14,19,20])
 (.seq (.region [Ipx 58 5,
 Ls (.store false Sx6 (.t 4) (.t 58))] [0,4,5,6,7,8,9,10,11,12,14,19,20])
 (.seq (.region [Ipx 59 14,
 Ls (.store false Sx6 (.t 5) (.t 59))] [0,4,5,6,7,8,9,10,11,12,19,20])
 (.seq (.region [Ipx 60 10,
 Ls (.store false Sx6 (.t 9) (.t 60))] [0,4,5,6,7,8,9,10,11,12,19,20])
 (.seq (.region [Ipx 61 12,
 Ls (.store false Sx6 (.t 11) (.t 61))] [0,4,5,6,7,8,9,10,11,12,19,20])
 (.seq (.region [Ipx 62 19,
 Ls (.store false Sx6 (.t 10) (.t 62))] [0,4,5,6,7,8,9,10,11,12,20])
 (.region [Ipx 63 20,
 Ls (.store false Sx6 (.t 12) (.t 63))] [0,4,5,6,7,8,9,10,11,12])))))))))))
def Z2f_B:Cd:=
 .seq (.region [Ll 4 (.box false 0 (.t 1)),
 Ll 5 (.box false 1 (.t 2)),
 Ll 6 (.box false 2 (.c (.arr 64 .leaf z64))),
 Ll 7 (.box false 3 (.c (.arr 64 .leaf z64))),
 Ll 8 (.box false 4 (.c (.arr 64 .leaf z64)))] [0,4,5,6,7,8])
 (.seq (.region [Ll 22 (Ofx F2q []),
 Ll 23 (.build false (.arr 64 .leaf z64) []),
 Ll 24 (.build false (.arr 64 .leaf z64) []),
 Ll 25 (Ofx F2q []),
 Ll 9 (.box false 5 (.c (.arr 64 .leaf z64))),
 Ll 10 (.box false 6 (.c (.arr 64 .leaf z64))),
 Ll 11 (.box false 7 (.c (.arr 64 .leaf z64))),
 Ll 12 (.box false 8 (.c (.arr 64 .leaf z64))),
 Ls (.store false Sx6 (.t 9) (.t 22)),
 Ls (.store false Sx6 (.t 10) (.t 23)),
 Ls (.store false Sx6 (.t 11) (.t 24)),
 Ls (.store false Sx6 (.t 12) (.t 25))] [0,4,5,6,7,8,9,10,11,12])
 (.seq (.block 0 (.loop (Z2f_L0)))
 (.seq (.region [Lw 64 0,
 Ipx 65 4,
 Ll 66 (Ofx F2g [(.t 65)]),
 Ll 67 (.idxA (some 64) .leaf (.t 4) (.t 66)),
 Ilx 68 67,
 Ll 69 (Ofx F2k [(.t 64),(.t 68)]),
 Ll 70 (.conv .i64 (.t 69)),
 Lw 21 70] [0,4,6,7,8,9,11,21])
 (.seq (.region [Lw 71 0,
 Ll 72 (.build false (.arr 64 .leaf z64) []),
 Ipx 73 4,
 Lw 74 21,
 Ll 75 (Ofx F2e [(.t 71),(.t 72),(.t 73),(.t 74)]),
 Lw 76 0,
 Ll 77 (.build false (.arr 64 .leaf z64) []),
 Ipx 78 9,
 Lw 79 21,
 Ll 80 (Ofx F2e [(.t 76),(.t 77),(.t 78),(.t 79)]),
 Lw 81 0,
 Ll 82 (.build false (.arr 64 .leaf z64) []),
 Ipx 83 11,
 Lw 84 21,
 Ll 85 (Ofx F2e [(.t 81),(.t 82),(.t 83),(.t 84)]),
 Ls (.store false Sx6 (.t 6) (.t 75)),
 Ls (.store false Sx6 (.t 7) (.t 80)),
 Ls (.store false Sx6 (.t 8) (.t 85))] [6,7,8])
 (.ret)))))
def Z2f:Fn:=
 { nparams:=3,nblk:=15,results:=[.cell 6 Sx6,.cell 7 Sx6,.cell 8 Sx6],body:=Z2f_B }
def Z2i_B:Cd:=
 .seq (.region [Ll 4 (.box false 0 (.t 1)),
 Ll 5 (.box false 1 (.t 2)),
 Ll 6 (.box false 2 (.c (.arr 64 .leaf z64)))] [0,4,5,6])
 (.seq (.seq (.region [Ipx 10 4,
 Ll 11 (Ofx F2g [(.t 10)]),
 Ll 12 (.bin .lss (.t 11) (Acx 0)),
 Lw 13 12,
 Lg 14 (.load Sx6 (.t 5)) 13 true,
 Lg 15 (Ofx F2g [(.t 14)]) 13 true,
 Lg 16 (.bin .lss (.t 15) (Acx 0)) 13 true,
 Ll 17 (.pick (.t 13) (.t 16) (.c (.bool false)))] [0,4,5,6,17])
 (.cond (.t 17)
 (.seq (.region [Ll 18 (.build false (.arr 64 .leaf z64) []),
 Ls (.store false Sx6 (.t 6) (.t 18))] [6])
 (.ret))
 (.skip)))
 (.seq (.region [Lw 20 0,
 Ipx 21 4,
 Ipx 22 5,
 Ll 23 (Ofx F2f [(.t 20),(.t 21),(.t 22)]),
 Lw 19 23,
 Iex 24 19 0,
 Iex 25 19 1,
 Iex 26 19 2,
 Ll 7 (.box false 3 (.c (.arr 64 .leaf z64))),
 Ll 8 (.box false 4 (.c (.arr 64 .leaf z64))),
 Ll 9 (.box false 5 (.c (.arr 64 .leaf z64))),
 Ls (.store false Sx6 (.t 7) (.t 24)),
 Ls (.store false Sx6 (.t 8) (.t 25)),
 Ls (.store false Sx6 (.t 9) (.t 26))] [6,7])
 (.seq (.region [Ipx 27 7,
 Ls (.store false Sx6 (.t 6) (.t 27))] [6])
 (.ret))))
def Z2i:Fn:=
 { nparams:=3,nblk:=6,results:=[.cell 6 Sx6],body:=Z2i_B }
def Z2t_B:Cd:=
 .seq (.region [Ll 0 (.box false 0 (.c (.arr 64 .leaf z64)))] [0])
 (.seq (.region [Ll 1 (.build false (.arr 64 .leaf z64) [(0,(.c (.int .u8 0))),(1,(.c (.int .u8 1)))]),
 Ls (.store false Sx6 (.t 0) (.t 1))] [0])
 (.ret))
def Z2t:Fn:=
 { nparams:=0,nblk:=1,results:=[.cell 0 Sx6],body:=Z2t_B }
def Z2l_L0:Cd:=
 .seq (.seq (.region [Lw 16 7,
 Ll 17 (.bin .mul (Acx 2) (.t 16)),
 Lw 18 5,
 Ll 19 (.bin .leq (.t 17) (.t 18))] [0,3,5,6,7,19])
 (.cond (.t 19)
 (.skip)
 (.exit 0)))
 (.seq (.block 1 (.seq (.region [Lw 22 0,
 Ipx 23 6,
 Lw 24 0,
 Ipx 25 3,
 Ll 26 (Ofx F2r [(.t 22),(.t 23),(.t 24),(.t 25)]),
 Ls (.store false Sx6 (.t 6) (.t 26))] [0,3,5,6,7])
 (.seq (.region [Lw 27 0,
 Ipx 28 3,
 Lw 29 0,
 Ipx 30 6,
 Ll 31 (Ofx F2t []),
 Ll 32 (Ofx F2e [(.t 29),(.t 30),(.t 31),(Acx (-1))]),
 Ll 33 (Ofx F2i [(.t 27),(.t 28),(.t 32)]),
 Ll 34 (Ofx F2g [(.t 33)]),
 Ll 35 (.bin .neq (.t 34) (Acx 0))] [0,3,5,6,7,35])
 (.cond (.t 35)
 (.seq (.region [Ll 4 (.mv (.c (.bool false)))] [4])
 (.ret))
 (.skip)))))
 (.region [Lw 20 7,
 Ll 21 (.bin .add (.t 20) (Acx 1)),
 Lw 7 21] [0,3,5,6,7]))
def Z2l_B:Cd:=
 .seq (.region [Ll 3 (.box false 0 (.t 1)),
 Ll 4 (.mv (.c (.bool false)))] [0,3])
 (.seq (.region [Ipx 8 3,
 Ll 9 (Ofx F2g [(.t 8)]),
 Lw 10 0,
 Ll 11 (Ofx F2t []),
 Ipx 12 3,
 Ll 13 (Ofx F2n [(.t 10),(.t 11),(.t 12)]),
 Ll 6 (.box false 1 (.c (.arr 64 .leaf z64))),
 Lw 5 9,
 Ls (.store false Sx6 (.t 6) (.t 13))] [0,3,5,6])
 (.seq (.seq (.region [Lw 14 5,
 Ll 15 (.bin .lss (.t 14) (Acx 1))] [0,3,5,6,15])
 (.cond (.t 15)
 (.seq (.region [Ll 4 (.mv (.c (.bool false)))] [4])
 (.ret))
 (.skip)))
 (.seq (.seq (.region [Ll 7 (.mv (Acx 1))] [0,3,5,6,7])
 (.block 0 (.loop (Z2l_L0))))
 (.seq (.region [Ll 4 (.mv (.c (.bool true)))] [4])
 (.ret)))))
def Z2l:Fn:=
 { nparams:=2,nblk:=2,results:=[.tmp 4],body:=Z2l_B }
end Pe

/-
 Functions of the program in the small form,printed by a program.
-/
namespace Pe
open Go
def Z2w_B:Cd:=
 .seq (.region [Ll 3 (.box false 0 (.t 1)),
 Ll 4 (.mv (.c (.bool false)))] [0,3])
 (.seq (.region [Lw 5 0,
 Ipx 6 3,
 Ll 7 (Ofx F2m [(.t 5),(.t 6)]),
 Lw 8 7,
 Lg 9 (.load Sx6 (.t 3)) 8 true,
 Lg 10 (Ofx F2o [(.t 9)]) 8 true,
 Ll 11 (.pick (.t 8) (.t 10) (.c (.bool false))),
 Lw 12 11,
 Lg 13 (.load Sx6 (.t 3)) 12 true,
 Lg 14 (Ofx F2g [(.t 13)]) 12 true,
 Lg 15 (Ofx F2j [(.t 14),(Acx 1),(Acx 4)]) 12 true,
 Ll 16 (.pick (.t 12) (.t 15) (.c (.bool false))),
 Lw 17 16,
 Lx 18 0 17 true,
 Lg 19 (.load Sx6 (.t 3)) 17 true,
 Lg 20 (Ofx F2l [(.t 18),(.t 19)]) 17 true,
 Ll 21 (.pick (.t 17) (.t 20) (.c (.bool false))),
 Lw 4 21] [4])
 (.ret))
def Z2w:Fn:=
 { nparams:=2,nblk:=1,results:=[.tmp 4],body:=Z2w_B }
def Z2z_B:Cd:=
 .seq (.region [Ll 4 (.box false 0 (.t 1)),
 Ll 5 (.box false 1 (.t 2)),
 Ll 6 (.mv (.c (.bool false)))] [0,4,5])
 (.seq (.region [Lw 7 0,
 Ipx 8 5,
 Ll 9 (Ofx F2m [(.t 7),(.t 8)]),
 Lw 10 9,
 Lg 11 (.load Sx6 (.t 5)) 10 true,
 Lg 12 (Ofx F2g [(.t 11)]) 10 true,
 Lg 13 (.load Sx6 (.t 4)) 10 true,
 Lg 14 (Ofx F2g [(.t 13)]) 10 true,
 Lg 15 (.bin .lss (.t 12) (.t 14)) 10 true,
 Ll 16 (.pick (.t 10) (.t 15) (.c (.bool false))),
 Lw 6 16] [6])
 (.ret))
def Z2z:Fn:=
 { nparams:=3,nblk:=2,results:=[.tmp 6],body:=Z2z_B }
def Z2x_L0:Cd:=
 .seq (.seq (.region [Lw 14 9,
 Ll 15 (.bin .gtr (.t 14) (Acx 0))] [0,5,7,8,9,15])
 (.cond (.t 15)
 (.skip)
 (.exit 0)))
 (.seq (.block 1 (.region [Lw 18 0,
 Ipx 19 5,
 Lw 20 0,
 Ipx 21 7,
 Ll 22 (Ofx F2r [(.t 18),(.t 19),(.t 20),(.t 21)]),
 Ls (.store false Sx6 (.t 5) (.t 22))] [0,5,7,8,9]))
 (.region [Lw 16 9,
 Ll 17 (.bin .sub (.t 16) (Acx 1)),
 Lw 9 17] [0,5,7,8,9]))
def Z2x_B:Cd:=
 .seq (.region [Ll 5 (.box false 0 (.t 1)),
 Ll 7 (.box false 1 (.t 3)),
 Ll 8 (.box false 2 (.c (.arr 64 .leaf z64)))] [0,2,5,7,8])
 (.seq (.seq (.region [Lw 10 2,
 Ipx 11 7,
 Ll 12 (Ofx F2g [(.t 11)]),
 Ll 13 (.bin .rem (.t 10) (.t 12)),
 Lw 9 13] [0,5,7,8,9])
 (.block 0 (.loop (Z2x_L0))))
 (.seq (.region [Ipx 23 5,
 Ls (.store false Sx6 (.t 8) (.t 23))] [8])
 (.ret)))
def Z2x:Fn:=
 { nparams:=4,nblk:=3,results:=[.cell 8 Sx6],body:=Z2x_B }
def Z30_L0:Cd:=
 .seq (.seq (.region [Lw 12 7,
 Lw 13 2,
 Ll 14 (.len false (.t 13)),
 Ll 15 (.bin .lss (.t 12) (.t 14))] [0,2,4,7,15])
 (.cond (.t 15)
 (.skip)
 (.exit 0)))
 (.seq (.block 1 (.seq (.region [Lw 18 0,
 Ipx 19 4,
 Lw 20 2,
 Lw 21 7,
 Ll 22 (.idxA none Sx6 (.t 20) (.t 21)),
 Ipx 23 22,
 Ll 24 (Ofx F2z [(.t 18),(.t 19),(.t 23)]),
 Ll 25 (.un .not (.t 24))] [0,2,4,7,25])
 (.cond (.t 25)
 (.seq (.region [Ll 6 (.mv (Acx 1))] [6])
 (.ret))
 (.skip))))
 (.region [Lw 16 7,
 Ll 17 (.bin .add (.t 16) (Acx 1)),
 Lw 7 17] [0,2,4,7]))
def Z30_B:Cd:=
 .seq (.region [Ll 4 (.box false 0 (.t 1)),
 Ll 6 (.mv (Acx 0))] [0,2,4])
 (.seq (.seq (.region [Lw 8 0,
 Ipx 9 4,
 Ll 10 (Ofx F2w [(.t 8),(.t 9)]),
 Ll 11 (.un .not (.t 10))] [0,2,4,11])
 (.cond (.t 11)
 (.seq (.region [Ll 6 (.mv (Acx 1))] [6])
 (.ret))
 (.skip)))
 (.seq (.seq (.region [Ll 7 (.mv (Acx 0))] [0,2,4,7])
 (.block 0 (.loop (Z30_L0))))
 (.seq (.region [Ll 6 (.mv (Acx 0))] [6])
 (.ret))))
def Z30:Fn:=
 { nparams:=3,nblk:=1,results:=[.tmp 6],body:=Z30_B }
def Z2y_B:Cd:=
 .seq (.region [Ll 4 (.box false 0 (.t 1)),
 Ll 5 (.box false 1 (.t 2)),
 Ll 6 (.box false 2 (.c (.arr 64 .leaf z64)))] [0,4,5,6])
 (.seq (.region [Lw 11 0,
 Ipx 12 4,
 Ipx 13 5,
 Ll 14 (Ofx F2f [(.t 11),(.t 12),(.t 13)]),
 Lw 10 14,
 Iex 15 10 0,
 Iex 16 10 1,
 Iex 17 10 2,
 Ll 7 (.box false 3 (.c (.arr 64 .leaf z64))),
 Ll 8 (.box false 4 (.c (.arr 64 .leaf z64))),
 Ll 9 (.box false 5 (.c (.arr 64 .leaf z64))),
 Ls (.store false Sx6 (.t 7) (.t 15)),
 Ls (.store false Sx6 (.t 8) (.t 16)),
 Ls (.store false Sx6 (.t 9) (.t 17))] [0,5,6,8])
 (.seq (.region [Lw 18 0,
 Ipx 19 8,
 Ipx 20 5,
 Ll 21 (Ofx F2n [(.t 18),(.t 19),(.t 20)]),
 Ls (.store false Sx6 (.t 6) (.t 21))] [6])
 (.ret)))
def Z2y:Fn:=
 { nparams:=3,nblk:=6,results:=[.cell 6 Sx6],body:=Z2y_B }
end Pe

/-
 Functions of the program in the small form,printed by a program.
-/
namespace Pe
open Go
def Z32_B:Cd:=
 .seq (.region [Ll 5 (.box false 0 (.t 1)),
 Ll 8 (.mv (Acx 0))] [0,2,3,5])
 (.seq (.region [Lw 10 0,
 Ipx 11 5,
 Lw 12 2,
 Ll 13 (Ofx F30 [(.t 10),(.t 11),(.t 12)]),
 Lw 9 13] [2,3,9])
 (.seq (.seq (.region [Lw 14 9,
 Ll 15 (.bin .eql (.t 14) (Acx 0)),
 Lw 16 15,
 Lx 17 2 16 true,
 Lg 18 (.len false (.t 17)) 16 true,
 Lx 19 3 16 true,
 Lg 20 (.bin .gtr (.t 18) (.t 19)) 16 true,
 Ll 21 (.pick (.t 16) (.t 20) (.c (.bool false)))] [9,21])
 (.cond (.t 21)
 (.seq (.region [Ll 8 (.mv (Acx 2))] [8])
 (.ret))
 (.skip)))
 (.seq (.region [Lw 22 9,
 Lw 8 22] [8])
 (.ret))))
def Z32:Fn:=
 { nparams:=4,nblk:=1,results:=[.tmp 8],body:=Z32_B }
end Pe

namespace Gq
section
variable {K:Type} [Fd K]
theorem Pol.mod_eq_iff {a b m:Pol K} (hm:m≠0):a%m=b%m↔Quo.mk m a=Quo.mk m b:=by
 rw [Quo.eq];constructor
 ·intro h
  refine ⟨a/m-b/m,?_⟩;have h1:=div_mod a m;have h2:=div_mod b m;rw [h] at h1;generalize a/m=q at *;generalize b/m=q' at *;rw [h1];have e:q*m+b%m=(q'*m+b%m)+m*(q-q'):=bf [q,q',m,b%m] rfl;rw [e,←h2]
 ·rintro ⟨c,rfl⟩
  have h2:=div_mod b m;refine (div_mod_eq (q:=b/m+c) ?_ (len_mod b hm)).2;have e:b+m*c=(b/m*m+b%m)+m*c:=by rw [←h2]
  rw [e];exact bf [b/m,m,b%m,c] rfl
theorem Pol.mk_mod (a m:Pol K):Quo.mk m (a%m)=Quo.mk m a:=by
 rw [Quo.eq];refine ⟨-(a/m),?_⟩;have h:=div_mod a m;have e:a%m=(a/m*m+a%m)+m * -(a/m):=bf [a/m,m,a%m] rfl;rw [e,←h]
theorem Pol.mod_small {a m:Pol K} (h:a.len<m.len):a%m=a:=(div_mod_eq (q:=0) (by rw [zero_mul,zero_add]) h).2
theorem Pol.zero_mod {m:Pol K} (hm:m≠0):(0:Pol K)%m=0:=mod_small (by rw [len_zero]; exact len_pos hm)
theorem Pol.div_small {a m:Pol K} (h:a.len<m.len):a/m=0:=(div_mod_eq (q:=0) (by rw [zero_mul,zero_add]) h).1
theorem Pol.mul_mod_left (a b:Pol K) {m:Pol K} (hm:m≠0):(a%m)*b%m=a*b%m:=by
 rw [mod_eq_iff hm,Quo.mk_mul,Quo.mk_mul,mk_mod]
theorem Pol.mod_self_mul (a:Pol K) {m:Pol K} (hm:m≠0):(a*m)%m=0:=
 (div_mod_eq (q:=a) (by rw [add_zero]) (by rw [len_zero]; exact len_pos hm)).2
theorem Pol.len_mod_le (a:Pol K) {m:Pol K} (hm:m≠0):(a%m).len≤a.len:=by
 rcases cn a.len m.len with h | h
 ·rw [mod_small h]; exact b9 _
 ·have:=len_mod a hm; omega
theorem Pol.len_div {a m:Pol K} (hm:m≠0) (h:m.len≤a.len):(a/m).len+m.len=a.len+1:=by
 have h1:=div_mod a m;have h2:=len_mod a hm;have h3:=len_pos hm
 by_cases hq:a/m=0
 ·rw [hq,zero_mul,zero_add] at h1
  rw [←h1] at h2; omega
 ·have h4:=len_mul hq hm
  have h5:=len_pos hq
  have e:a.len=(a/m*m).len:=by
   apply Nat.le_antisymm
   ·rw [h1]
    exact len_le (lt_add (by rw [←h1]; exact lt_len _) (lt_iff.2 (by rw [←h1]; omega)))
   ·have:a/m*m=a-a%m:=by
     have e:a-a%m=(a/m*m+a%m)-a%m:=by rw [←h1]
     rw [e]; exact bf [a/m*m,a%m] rfl
    rw [this];exact len_le (lt_sub a.lt_len (lt_iff.2 (by omega)))
  omega
theorem Pol.len_div_le (a:Pol K) {m:Pol K} (hm:m≠0):(a/m).len≤a.len:=by
 rcases cn a.len m.len with h | h
 ·rw [div_small h,len_zero]; omega
 ·have:=len_div hm h
  have:=len_pos hm;omega
theorem Ah {R:Type} [CR R] (a:R) (m:Nat):∀n,pw a (m+n)=pw a m*pw a n
 | 0=>(mul_one _).symm
 | n+1=>by rw [←fa,pw,Ah a m n,pw,mul_assoc]
theorem uq {R:Type} [CR R] (a b:R):∀n,pw (a*b) n=pw a n*pw b n
 | 0=>(mul_one _).symm
 | n+1=>by rw [pw,pw,pw,uq a b n]; exact bf [a,b,pw a n,pw b n] rfl
theorem sr {R:Type} [CR R] (a:R) (m:Nat):∀n,pw (pw a m) n=pw a (m*n)
 | 0=>rfl
 | n+1=>by rw [pw,sr a m n,Nat.mul_succ,Ah]
theorem Cy {R:Type} [CR R]:∀n,pw (1:R) n=1
 | 0=>rfl
 | n+1=>by rw [pw,Cy n,mul_one]
theorem yu {R:Type} [CR R] (a:R):pw a 1=a:=one_mul a
theorem Pol.pow_mod (a:Pol K) {m:Pol K} (hm:m≠0) (n:Nat):pw (a%m) n%m=pw a n%m:=by
 rw [mod_eq_iff hm,Quo.mk_pow,Quo.mk_pow,mk_mod]
theorem Pol.bin_step {out base m:Pol K} (hm:m≠0) (k:Nat) (_hk:0<k) :
 (if k%2=1 then out*base%m else out)*pw (base*base%m) (k/2)%m=out*pw base k%m:=by
 rw [mod_eq_iff hm,Quo.mk_mul,Quo.mk_mul,Quo.mk_pow,mk_mod,Quo.mk_mul,uq,Quo.mk_pow,←Ah]
 split
 ·rename_i h
  rw [mk_mod,Quo.mk_mul];have e:k=1+(k/2+k/2):=by omega
  have e2:pw (Quo.mk m base) k=Quo.mk m base*pw (Quo.mk m base) (k/2+k/2):=by
   have:=Ah (Quo.mk m base) 1 (k/2+k/2)
   rwa [←e,yu] at this
  rw [e2,mul_assoc]
 ·rename_i h
  have e:k/2+k/2=k:=by omega
  rw [e]
open Classical in
noncomputable def Pol.bz:Nat→Pol K→Pol K→Pol K→Pol K→Pol K→Pol K→Pol K×Pol K×Pol K
 | 0,a,_,u,_,v,_=>(a,u,v)
 | n+1,a,b,u,x,v,y=>if b=0 then (a,u,v) else bz n b (a%b) x (u-a/b*x) y (v-a/b*y)
structure Pol.BzI (A B a b u x v y:Pol K):Prop where
 one:u*A+v*B=a
 two:x*A+y*B=b
 lx:x.len=0∨x.len+a.len≤B.len+1
 ly:y.len=0∨y.len+a.len≤A.len+1
 lu:u.len=0∨u.len+b.len≤B.len+1
 lv:v.len=0∨v.len+b.len≤A.len+1
 any:a≠0∨b≠0
theorem Pol.BzI.init {A B:Pol K} (h:A≠0∨B≠0):BzI A B A B 1 0 0 1:=
 ⟨bf [A,B] rfl,bf [A,B] rfl,.inl len_zero,.inr (by rw [len_one]; omega),.inr (by rw [len_one]; omega),.inl len_zero,h⟩
theorem Pol.len_sub_le {a b:Pol K} {n:Nat} (ha:a.len≤n) (hb:b.len≤n):(a-b).len≤n:=len_le (lt_sub (lt_iff.2 ha) (lt_iff.2 hb))
theorem Pol.len_add_le {a b:Pol K} {n:Nat} (ha:a.len≤n) (hb:b.len≤n):(a+b).len≤n:=len_le (lt_add (lt_iff.2 ha) (lt_iff.2 hb))
theorem Pol.BzI.qlen {A B a b u x v y:Pol K} (h:BzI A B a b u x v y) (hb:b≠0) :
 ((a/b*x).len=0∨(a/b*x).len+b.len≤B.len+1)∧((a/b*y).len=0∨(a/b*y).len+b.len≤A.len+1):=by
 have key:∀(x:Pol K) (n:Nat),(x.len=0∨x.len+a.len≤n+1)→((a/b*x).len=0∨(a/b*x).len+b.len≤n+1):=by
  intro x n hx
  by_cases hx0:x=0
  ·left; rw [hx0,mul_zero,len_zero]
  ·rcases cn a.len b.len with hl | hl
   ·left; rw [div_small hl,zero_mul,len_zero]
   ·have h1:=len_div hb hl
    have hq:a/b≠0:=fun h0=>by
     rw [h0,len_zero] at h1;omega
    have h2:=len_mul hq hx0;have h3:=len_pos hx0;right; omega
 exact ⟨key x B.len h.lx,key y A.len h.ly⟩
theorem Pol.BzI.step {A B a b u x v y:Pol K} (h:BzI A B a b u x v y) (hb:b≠0):BzI A B b (a%b) x (u-a/b*x) y (v-a/b*y):=by
 have hm:=div_mod a b;have hl:=len_mod a hb;have hle:=len_mod_le a hb;obtain ⟨q1,q2⟩:=h.qlen hb
 have sub:∀(u q:Pol K) (n:Nat),(u.len=0∨u.len+b.len≤n+1)→(q.len=0∨q.len+b.len≤n+1)→((u-q).len=0∨(u-q).len+b.len≤n+1):=by
  intro u q n h1 h2
  by_cases hn:n+1≤b.len
  ·left
   have e1:u.len=0:=by omega
   have e2:q.len=0:=by omega
   have:=len_sub_le (a:=u) (b:=q) (n:=0) (by omega) (by omega)
   omega
  ·right
   have:=len_sub_le (a:=u) (b:=q) (n:=n+1-b.len) (by omega) (by omega)
   omega
 refine ⟨h.two,?_,sub _ _ _ h.lu q1,sub _ _ _ h.lv q2,?_,?_,.inl hb⟩
 ·have e:(u-a/b*x)*A+(v-a/b*y)*B=(u*A+v*B)-a/b*(x*A+y*B):=bf [u,a/b,x,A,v,y,B] rfl
  rw [e,h.one,h.two];have e2:a-a/b*b=(a/b*b+a%b)-a/b*b:=by rw [←hm]
  rw [e2];exact bf [a/b,b,a%b] rfl
 ·exact h.lx.imp id fun h=>by omega
 ·exact h.ly.imp id fun h=>by omega
theorem Pol.bz_spec {A B:Pol K}:∀(n:Nat) (a b u x v y:Pol K),b.len≤n→BzI A B a b u x v y →
 ∃x' y',BzI A B (bz n a b u x v y).1 0 (bz n a b u x v y).2.1 x' (bz n a b u x v y).2.2 y'∧(∃s,a=s*(bz n a b u x v y).1)∧(∃s,b=s*(bz n a b u x v y).1)
 | 0,a,b,u,x,v,y,hn,h=>by
  obtain rfl:=len_zero_iff.1 (show b.len=0 by omega)
  exact ⟨x,y,h,⟨1,(one_mul a).symm⟩,⟨0,(zero_mul a).symm⟩⟩
 | n+1,a,b,u,x,v,y,hn,h=>by
  unfold bz
  split
  ·rename_i hb
   subst hb;exact ⟨x,y,h,⟨1,(one_mul a).symm⟩,⟨0,(zero_mul a).symm⟩⟩
  ·rename_i hb
   have hl:=len_mod a hb;obtain ⟨x',y',h1,⟨s,h2⟩,⟨t,h3⟩⟩:=bz_spec n b (a%b) x (u-a/b*x) y (v-a/b*y) (by omega) (h.step hb)
   refine ⟨x',y',h1,⟨a/b*s+t,?_⟩,⟨s,h2⟩⟩;generalize (bz n b (a%b) x (u-a/b*x) y (v-a/b*y)).1=d at *;have e:(a/b*s+t)*d=a/b*(s*d)+t*d:=bf [a/b,s,t,d] rfl;rw [e,←h2,←h3];exact div_mod a b
noncomputable def Pol.eu (a b:Pol K):Pol K×Pol K×Pol K:=bz b.len a b 1 0 0 1
noncomputable def Pol.bezout (a b:Pol K):Pol K×Pol K×Pol K:=
 let r:=eu a b
 (C (Fd.inv r.1.ld)*r.1,C (Fd.inv r.1.ld)*r.2.1,C (Fd.inv r.1.ld)*r.2.2)
noncomputable def Pol.gcd (a b:Pol K):Pol K:=(bezout a b).1
end
end Gq

namespace Pe
open Go Gq
variable {T:Nat→Option Fn} {A:ah}
theorem E6 {p:Int} (a:Fp p) (h:a.len≤64):trim (pad (row a))=row a:=uo fun i=>by rw [y9 (by rw [bp]; exact h),fg]
theorem xh {l:List Int} {i:Nat} (h:i<l.length):l.take i++[l[i]]=l.take (i+1):=by
 rw [List.take_add_one,ac h]; rfl
theorem Qh {O:ah} {l:List Int} (hb:i5 l) (hl:l.length=64):∀(m i:Nat) (cp:Option Nat),i+m=64 →
 dn O 0 (.loop Z19_L0) ⟨[(3,.sl 1 [] 0 i cp),(6,(.d (.arr 64 .leaf (am .u8 l)))),(7,(.d (.int .i64 i)))],[.hole,.sl false .leaf (am .i64 (l.take i)),.hole,.hole]⟩ =
  some (.exit 0,⟨[(3,.sl 1 [] 0 64 (if m=0 then cp else none)),(6,(.d (.arr 64 .leaf (am .u8 l)))),(7,(.d (.int .i64 64))),(8,(.d (.bool false)))],[.hole,.sl false .leaf (am .i64 (l.take 64)),.hole,.hole]⟩)
 | 0,i,cp,hi=>by
  have:i=64:=by omega
  subst this;exact bv (by simp -implicitDefEqProofs [Z19_L0,ao])
 | m+1,i,cp,hi=>by
  have h1:(i:Int)<64:=by omega
  have hlt:i<l.length:=by omega
  have hx:l[i]? = some l[i]:=ac hlt;have hb':=hb _ (bm hlt);have w1:IntKind.i64.wrap l[i]=l[i]:=w64 (by omega)
  have w4:IntKind.i64.wrap ((i:Int)+1)=((i+1:Nat):Int):=(w64 (x:=(i:Int)+1) (by omega)).trans (by omega)
  have h8:(i+1)*8≤1099511627776:=by omega
  have hlen:i≤l.length:=by omega
  have ht:(l.take i).take i=l.take i:=by rw [List.take_take,Nat.min_self]
  have e1:am .i64 (l.take i)++[D.int .i64 l[i]]=am .i64 (l.take (i+1)):=by rw [←xh hlt,←Bb]; rfl
  have ih:=Qh (O:=O) hb hl m (i+1) none (by omega)
  have e2:(if m=0 then (none:Option Nat) else none)=none:=by split <;> rfl
  rw [e2] at ih;rw [if_neg (Nat.succ_ne_zero m)];refine bq ?_ ih;simp -implicitDefEqProofs [Z19_L0,ao,h1,hlt,w1,w4,h8,hlen,ht,e1,List.replicate]
def ze (O:ah):Prop:=∀l:List Int,i5 l→l.length=64→ask O F19 [(D.arr 64 .leaf (am .u8 l))]=some (D.sl .leaf (am .i64 (trim l)))
theorem Ym (hT:T F19=some Z19) (ht:pu (den T A)):ze (den T A):=by
 intro l hb hl;have e:=Qh (O:=den T A) hb hl 64 0 (some 0) (bi _);have e0:((0:Nat):Int)=0:=rfl;rw [e0,dy,gd,b5 (by omega)] at e
 have e1:=ht l (by omega)
 have ht:l.take 64=l:=b5 (by omega)
 refine bu hT rfl ?_;simp -implicitDefEqProofs [Z19,Z19_B,e,e1,hl,ht]
def yy (O:ah):Prop:=∀(p:Int) [IsP p] (a:Fp p),a.len≤64→ask O F19 [(D.arr 64 .leaf (am .u8 (pad (row a))))]=some (D.sl .leaf (am .i64 (row a)))
theorem S5 {p:Int} [IsP p] (a:Fp p):i5 (pad (row a)):=fun x hx=>by
 obtain ⟨i,_,rfl⟩:=cg.1 hx;have:=(gh a).le IsP.pos i;have:=IsP.le (p:=p);omega
theorem Yo {O:ah} (h:ze O):yy O:=fun p i a hl=>by
 rw [h _ (S5 a) (cu _),E6 a hl]
theorem Wp {O:ah} {l z:List Int} (hb:i5 l) (hl:l.length≤64):∀(m i:Nat) (cur:List Int),i+m=l.length→cur.length=64 →
 dn O 0 (.loop Z1e_L0) ⟨[(2,.ptr 0 []),(3,.ptr 1 []),(6,(.d (.sl .leaf (am .i64 l)))),(7,(.d (.int .i64 l.length))),(8,(.d (.int .i64 i)))],[.box false (D.arr 64 .leaf (am .u8 z)),.box false (D.arr 64 .leaf (am .u8 cur))]⟩ =
  some (.exit 0,⟨[(2,.ptr 0 []),(3,.ptr 1 []),(6,(.d (.sl .leaf (am .i64 l)))),(7,(.d (.int .i64 l.length))),(8,(.d (.int .i64 l.length))),(9,(.d (.bool false)))],[.box false (D.arr 64 .leaf (am .u8 z)),.box false (D.arr 64 .leaf (am .u8 (upd (cf l) m i cur)))]⟩)
 | 0,i,cur,hi,hc=>by
  have:i=l.length:=by omega
  subst this;exact bv (by simp -implicitDefEqProofs [Z1e_L0,ao,upd])
 | m+1,i,cur,hi,hc=>by
  have hlt:i<l.length:=by omega
  have hx:l[i]? = some (cf l i):=by rw [ac hlt,e8 hlt]
  have hb':=hb _ (bm hlt);rw [←e8 hlt] at hb';have w1:IntKind.u8.wrap l[i]=cf l i:=by rw [←e8 hlt]; exact w8 hb'
  have w4:IntKind.i64.wrap ((i:Int)+1)=((i+1:Nat):Int):=(w64 (x:=(i:Int)+1) (by omega)).trans (by omega)
  have hi64:i<64:=by omega
  have hcur:cur[i]? = some (cf cur i):=by rw [ac (by omega),e8]
  have ih:=Wp (O:=O) (z:=z) hb hl m (i+1) (cur.set i (cf l i)) (by omega) (by simpa using hc)
  refine bq ?_ ih;simp -implicitDefEqProofs [Z1e_L0,ao,hlt,w1,w4,hi64,hcur]
def Mz (O:ah):Prop:=∀l:List Int,i5 l→l.length≤64→ask O F1e [(D.sl .leaf (am .i64 l))]=some (D.arr 64 .leaf (am .u8 (pad l)))
theorem Yu {l:List Int} (_hl:l.length≤64):upd (cf l) l.length 0 (pad [])=pad l:=by
 symm
 apply P5
 ·rw [u5,cu]
 ·intro i hi
  unfold cf;rw [bc,bc,Bs]
  by_cases h:i<l.length
  ·rw [if_pos (by rw [cu]; omega)]
   simp [h]
  ·rw [if_neg (by omega),bo (by omega),ov _ _ hi]; rfl
theorem a3y (hT:T F1e=some Z1e):Mz (den T A):=by
 intro l hb hl;have e:=Wp (O:=den T A) (z:=pad []) hb hl l.length 0 (pad []) (bi _) (cu []);have e0:((0:Nat):Int)=0:=rfl;rw [e0,Yu hl] at e;refine bu hT rfl ?_;simp -implicitDefEqProofs [Z1e,Z1e_B,e]
theorem Tv {p:Int} [IsP p] (a:Fp p):i5 (row a):=fun x hx=>by
 have:=gh a x hx;have:=IsP.le (p:=p);omega
def O8 (O:ah):Prop:=∀l:List Int,l.length<1000000→ask O F1c [(D.sl .leaf (am .i64 l))]=some (D.bool (decide (l.length≤64)))
theorem a3e (hT:T F1c=some Z1c) (hd:jy (den T A)):O8 (den T A):=by
 intro l hl;have e:=hd l hl;have e2:decide ((l.length:Int)-1≤63)=decide (l.length≤64):=decide_eq_decide.2 (by omega)
 refine bu hT rfl ?_;simp -implicitDefEqProofs [Z1c,Z1c_B,e,e2]
def Us (l:List Int):D:=if l.length≤64 then .tup [(D.arr 64 .leaf (am .u8 (pad l))),(D.int .i64 0)] else .tup [(D.arr 64 .leaf (am .u8 (pad []))),(D.int .i64 3)]
def Nq (O:ah):Prop:=∀l:List Int,i5 l→l.length<1000000→ask O F1h [(D.sl .leaf (am .i64 l))]=some (Us l)
theorem a2t (hT:T F1h=some Z1h) (hf:O8 (den T A)) (hp:Mz (den T A)):Nq (den T A):=by
 intro l hb hl;have e:=hf l hl;unfold Us;refine bu hT rfl ?_
 by_cases h:l.length≤64
 ·have e2:=hp l hb h
  simp -implicitDefEqProofs [Z1h,Z1h_B,e,e2,h,ao]
 ·simp -implicitDefEqProofs [Z1h,Z1h_B,e,h,ao]
def y8 (O:ah):Prop:=∀(p:Int) [IsP p] (a b:Fp p),b≠0→a.len<5000→b.len<5000 →
 ask O F13 [(D.int .i64 p),(D.sl .leaf (am .i64 (row a))),(D.sl .leaf (am .i64 (row b)))]=some (D.sl .leaf (am .i64 (row (a%b))))
theorem a4i (hT:T F13=some Z13) (hd:qw (den T A)):y8 (den T A):=by
 intro p i a b hb h1 h2;have e:=hd p a b hb h1 h2;refine bu hT rfl ?_;simp -implicitDefEqProofs [Z13,Z13_B,e]
end Pe

namespace Pe
open Go Gq
variable {T:Nat→Option Fn} {A:ah}
section
variable {p:Int} [IsP p]
theorem u7:row (1:Fp p)=[1]:=by
 unfold row;rw [Pol.len_one];show [rep ((1:Fp p).c 0)]=[1];have:(1:Fp p).c 0=1:=rfl;rw [this,wc]
end
section
variable {p:Int}
theorem zh (u z:Fp p):u+Pol.C (zp p (-1))*z=u-z:=by
 rw [Hl,Hu,Pol.C_neg,Pol.C_one];exact bf [u,z] rfl
end
section
variable {p:Int} [IsP p]
end
def o9 (O:ah):Prop:=∀(p:Int) [IsP p] (a b:Fp p),a.len<1000000→b.len<1000000 →
 ask O Fs [(D.int .i64 p),(D.sl .leaf (am .i64 (row a))),(D.sl .leaf (am .i64 (row b))),(D.int .i64 (-1))]=some (D.sl .leaf (am .i64 (row (a-b))))
theorem Mr {O:ah} (h:sx O):o9 O:=fun p i a b h1 h2=>by
 rw [h p (-1) a b (by omega) (by omega) h1 h2,zh]
section
variable {p:Int} [IsP p]
theorem D4 {A B a b u x v y:Fp p} (h:Pol.BzI A B a b u x v y) (hA:A.len≤2000) (hB:B.len≤2000) (ha:a.len≤2000) (hb:b.len≤2000) (hb0:b≠0) :
 u.len<3000∧v.len<3000∧x.len<3000∧y.len<3000∧(a/b).len<3000∧(a%b).len≤2000∧(a/b*x).len<3000∧(a/b*y).len<3000:=by
 have h1:=h.lu;have h2:=h.lv;have h3:=h.lx;have h4:=h.ly;have h5:=Pol.len_div_le a hb0;have h6:=Pol.len_mod_le a hb0;obtain ⟨h7,h8⟩:=h.qlen hb0;omega
theorem W9 {O:ah} (hd:qw O) (ht:ta O) (hc:o9 O) {A B:Fp p} (hA:A.len≤2000) (hB:B.len≤2000):∀(n:Nat) (a b u x v y:Fp p),b.len≤n→a.len≤2000→b.len≤2000→Pol.BzI A B a b u x v y→∃x' y',
 dn O 0 (.loop Zr_L0) ⟨[(0,(.d (.int .i64 p))),(1,(.d (.sl .leaf (am .i64 (row a))))),(2,(.d (.sl .leaf (am .i64 (row b))))),(9,(.d (.sl .leaf (am .i64 (row u))))),(10,(.d (.sl .leaf (am .i64 (row v))))),(11,(.d (.sl .leaf (am .i64 (row x))))),(12,(.d (.sl .leaf (am .i64 (row y)))))],[.hole,.hole]⟩ =
  some (.exit 0,⟨[(0,(.d (.int .i64 p))),(1,(.d (.sl .leaf (am .i64 (row (Pol.bz n a b u x v y).1))))),(2,(.d (.sl .leaf (am .i64 ([]))))),(9,(.d (.sl .leaf (am .i64 (row (Pol.bz n a b u x v y).2.1))))),(10,(.d (.sl .leaf (am .i64 (row (Pol.bz n a b u x v y).2.2))))),(11,(.d (.sl .leaf (am .i64 x')))),(12,(.d (.sl .leaf (am .i64 y')))),(20,(.d (.bool false)))],[.hole,.hole]⟩):=by
 intro n
 induction n with
 | zero=>
  intro a b u x v y hn ha hb hi;obtain rfl:=Pol.len_zero_iff.1 (show b.len=0 by omega)
  exact ⟨row x,row y,bv (by simp -implicitDefEqProofs [Zr_L0,ao,dt,Pol.bz,gd])⟩
 | succ n ih=>
  intro a b u x v y hn ha hb hi;unfold Pol.bz
  by_cases h0:b=0
  ·subst h0
   rw [if_pos rfl];exact ⟨row x,row y,bv (by simp -implicitDefEqProofs [Zr_L0,ao,dt,gd])⟩
  ·rw [if_neg h0]
   obtain ⟨s1,s2,s3,s4,s5,s6,s7,s8⟩:=D4 hi hA hB ha hb h0;have hl:=Pol.len_mod a h0;have hp:=Pol.len_pos h0;obtain ⟨x',y',e⟩:=ih b (a%b) x (u-a/b*x) y (v-a/b*y) (by omega) hb s6 (hi.step h0)
   refine ⟨x',y',bq ?_ e⟩;have e1:=hd p a b h0 (by omega) (by omega)
   have e2:=ht p (a/b) x (by omega) (by omega)
   have e3:=hc p u (a/b*x) (by omega) (by omega)
   have e4:=ht p (a/b) y (by omega) (by omega)
   have e5:=hc p v (a/b*y) (by omega) (by omega)
   simp -implicitDefEqProofs [Zr_L0,ao,hp,e1,e2,e3,e4,e5]
end
def Eh (O:ah):Prop:=∀(p:Int) [IsP p] (a b:Fp p),(a≠0∨b≠0)→a.len≤2000→b.len≤2000 →
 ask O Fr [(D.int .i64 p),(D.sl .leaf (am .i64 (row a))),(D.sl .leaf (am .i64 (row b)))]=some (.tup [(D.sl .leaf (am .i64 (row (Pol.bezout a b).1))),(D.sl .leaf (am .i64 (row (Pol.bezout a b).2.1))),(D.sl .leaf (am .i64 (row (Pol.bezout a b).2.2)))])
theorem uj {p:Int} [IsP p] (x:Zp p) (hx:x≠0):zp p (inv p (rep x))=Fd.inv x:=by
 have h0:=ka x;have h1:rep x≠0:=fun h=>hx (gv.1 h)
 have h2:x*zp p (inv p (rep x))=1:=by
  have:zp p (rep x*inv p (rep x))=1:=by rw [←te,X6 p _ (by omega) h0.2]; rfl
  rwa [xt,ja] at this
 have h3:=Fd.mul_inv x hx;have:Fd.inv x*(x*zp p (inv p (rep x)))=Fd.inv x*1:=by rw [h2]
 rw [←Gq.mul_assoc,Gq.mul_comm (Fd.inv x),h3,Gq.one_mul,Gq.mul_one] at this;exact this
theorem Up (hT:T Fr=some Zr) (hd:qw (den T A)) (ht:ta (den T A)) (hc:o9 (den T A)) (hld:v9 (den T A)) (hinv:o7 (den T A)) (hs:wb (den T A)):Eh (den T A):=by
 intro p i a b hab ha hb;have hp:=IsP.ge (p:=p);have hp7:=IsP.le (p:=p)
 -- the end
 have last:∀{x y:Fp p} {a' u v:Fp p},Pol.BzI a b a' 0 u x v y→ask (den T A) F1d [(D.sl .leaf (am .i64 (row a')))]=some (D.int .i64 (rep a'.ld))∧ask (den T A) Fx [(D.int .i64 p),(D.int .i64 (rep a'.ld))]=some (D.int .i64 (inv p (rep a'.ld))) ∧
  ask (den T A) F14 [(D.int .i64 p),(D.sl .leaf (am .i64 (row a'))),(D.int .i64 (inv p (rep a'.ld)))]=some (D.sl .leaf (am .i64 (row (Pol.C (Fd.inv a'.ld)*a'))))∧ask (den T A) F14 [(D.int .i64 p),(D.sl .leaf (am .i64 (row u))),(D.int .i64 (inv p (rep a'.ld)))]=some (D.sl .leaf (am .i64 (row (Pol.C (Fd.inv a'.ld)*u))))∧ask (den T A) F14 [(D.int .i64 p),(D.sl .leaf (am .i64 (row v))),(D.int .i64 (inv p (rep a'.ld)))]=some (D.sl .leaf (am .i64 (row (Pol.C (Fd.inv a'.ld)*v)))):=by
  intro x y a' u v hi;have ha0:a'≠0:=hi.any.resolve_right (fun h=>h rfl)
  have hr:=ka a'.ld;have hin:=y0 p (rep a'.ld);have h1:=hi.lu;have h2:=hi.lv;rw [Pol.len_zero] at h1 h2
  have hal:a'.len<5000:=by
   have:=Pol.len_add_le (a:=u*a) (b:=v*b) (n:=4500) (by
    by_cases hu:u=0
    ·rw [hu,Gq.zero_mul,Pol.len_zero]; omega
    ·by_cases ha0:a=0
     ·rw [ha0,Gq.mul_zero,Pol.len_zero]; omega
     ·have:=Pol.len_mul hu ha0; omega) (by
    by_cases hu:v=0
    ·rw [hu,Gq.zero_mul,Pol.len_zero]; omega
    ·by_cases ha0:b=0
     ·rw [ha0,Gq.mul_zero,Pol.len_zero]; omega
     ·have:=Pol.len_mul hu ha0; omega)
   rw [hi.one] at this;omega
  have e1:=hld (row a') (by rw [bp]; omega)
  rw [Dj] at e1;have e2:=hinv p (rep a'.ld) (by omega) (by omega) hr.1 hr.2
  have e3:=hs p (inv p (rep a'.ld)) a' (by omega) (by omega) (by omega)
  have e4:=hs p (inv p (rep a'.ld)) u (by omega) (by omega) (by omega)
  have e5:=hs p (inv p (rep a'.ld)) v (by omega) (by omega) (by omega)
  rw [uj _ (Pol.ld_ne ha0)] at e3 e4 e5;exact ⟨e1,e2,e3,e4,e5⟩
 have I0:=Pol.BzI.init (A:=a) (B:=b) hab;refine bu hT rfl ?_;unfold Pol.bezout Pol.eu
 by_cases h0:b=0
 ·subst h0
  have l0:=bv (O:=den T A) (np:=0) (c:=Zr_L0) (s:=⟨[(0,(.d (.int .i64 p))),(1,(.d (.sl .leaf (am .i64 (row a))))),(2,(.d (.sl .leaf (am .i64 ([]))))),(9,.sl 0 [] 0 1 (some 1)),(10,(.d (.sl .leaf (am .i64 ([]))))),(11,(.d (.sl .leaf (am .i64 ([]))))),(12,.sl 1 [] 0 1 (some 1))],[.sl false .leaf (am .i64 [1]),.sl false .leaf (am .i64 [1])]⟩) (s1:=⟨[(0,(.d (.int .i64 p))),(1,(.d (.sl .leaf (am .i64 (row a))))),(2,(.d (.sl .leaf (am .i64 ([]))))),(9,.sl 0 [] 0 1 (some 1)),(10,(.d (.sl .leaf (am .i64 ([]))))),(11,(.d (.sl .leaf (am .i64 ([]))))),(12,.sl 1 [] 0 1 (some 1)),(20,(.d (.bool false)))],[.sl false .leaf (am .i64 [1]),.sl false .leaf (am .i64 [1])]⟩) (id:=0) (by simp -implicitDefEqProofs [Zr_L0,ao,gd])
  obtain ⟨e1,e2,e3,e4,e5⟩:=last I0;rw [u7] at e4;rw [dt] at e5;rw [gd] at l0 e5;rw [Pol.len_zero];have o1:D.int IntKind.i64 1::[]=am .i64 [1]:=rfl;simp -implicitDefEqProofs [Zr,Zr_B,dt,gd,Pol.bz,e1,e2,e3,e4,e5,l0,o1,List.replicate]
 ·have hp0:=Pol.len_pos h0
  have I1:=I0.step h0;obtain ⟨_,_,_,_,q5,q6,q7,q8⟩:=D4 I0 ha hb ha hb h0;have l0:=hd p a b h0 (by omega) (by omega)
  have l1:=ht p (a/b) 0 (by omega) (by rw [Pol.len_zero]; omega)
  have l2:=ht p (a/b) 1 (by omega) (by rw [Pol.len_one]; omega)
  have l3:=hc p 1 (a/b*0) (by rw [Pol.len_one]; omega) (by omega)
  have l4:=hc p 0 (a/b*1) (by rw [Pol.len_zero]; omega) (by omega)
  rw [u7] at l2 l3;rw [dt,gd] at l1 l4
  have st1:dn (den T A) 0 Zr_L0 ⟨[(0,(.d (.int .i64 p))),(1,(.d (.sl .leaf (am .i64 (row a))))),(2,(.d (.sl .leaf (am .i64 (row b))))),(9,.sl 0 [] 0 1 (some 1)),(10,.d (.sl .leaf [])),(11,.d (.sl .leaf [])),(12,.sl 1 [] 0 1 (some 1))],[.sl false .leaf (am .i64 [1]),.sl false .leaf (am .i64 [1])]⟩ =
   some (.normal,⟨[(0,(.d (.int .i64 p))),(1,(.d (.sl .leaf (am .i64 (row b))))),(2,(.d (.sl .leaf (am .i64 (row (a%b)))))),(9,.d (.sl .leaf [])),(10,.sl 1 [] 0 1 (some 1)),(11,(.d (.sl .leaf (am .i64 (row (1-a/b*0)))))),(12,(.d (.sl .leaf (am .i64 (row (0-a/b*1))))))],[.hole,.sl true .leaf (am .i64 [1])]⟩):=by
   simp -implicitDefEqProofs [Zr_L0,ao,hp0,l0,l1,l2,l3,l4]
  by_cases h1:a%b=0
  ·have st2:dn (den T A) 0 Zr_L0 ⟨[(0,(.d (.int .i64 p))),(1,(.d (.sl .leaf (am .i64 (row b))))),(2,(.d (.sl .leaf (am .i64 (row (a%b)))))),(9,.d (.sl .leaf [])),(10,.sl 1 [] 0 1 (some 1)),(11,(.d (.sl .leaf (am .i64 (row (1-a/b*0)))))),(12,(.d (.sl .leaf (am .i64 (row (0-a/b*1))))))],[.hole,.sl true .leaf (am .i64 [1])]⟩ =
    some (.exit 0,⟨[(0,(.d (.int .i64 p))),(1,(.d (.sl .leaf (am .i64 (row b))))),(2,(.d (.sl .leaf (am .i64 (row (a%b)))))),(9,.d (.sl .leaf [])),(10,.sl 1 [] 0 1 (some 1)),(11,(.d (.sl .leaf (am .i64 (row (1-a/b*0)))))),(12,(.d (.sl .leaf (am .i64 (row (0-a/b*1)))))),(20,(.d (.bool false)))],[.hole,.sl true .leaf (am .i64 [1])]⟩):=by
    simp -implicitDefEqProofs [Zr_L0,ao,h1,dt]
   have lp:=bq st1 (bv st2)
   have hb1:Pol.bz b.len a b 1 0 0 1=(b,0,1):=by
    rw [show b.len=(b.len-1)+1 by omega,Pol.bz,if_neg h0]
    cases hn:b.len-1 with
    | zero=>rfl
    | succ n=>rw [Pol.bz,if_pos h1]
   rw [hb1];have I1':Pol.BzI a b b 0 0 (1-a/b*0) 1 (0-a/b*1):=h1▸I1;obtain ⟨e1,e2,e3,e4,e5⟩:=last I1';rw [u7] at e5;rw [dt,gd] at e4;have o1:D.int IntKind.i64 1::[]=am .i64 [1]:=rfl;simp -implicitDefEqProofs [Zr,Zr_B,e1,e2,e3,e4,e5,lp,o1,List.replicate]
  ·have hp1:=Pol.len_pos h1
   have hl1:=Pol.len_mod a h0;obtain ⟨s1,s2,s3,s4,s5,s6,s7,s8⟩:=D4 I1 ha hb hb (by omega) h1
   have m0:=hd p b (a%b) h1 (by omega) (by omega)
   have m1:=ht p (b/(a%b)) (1-a/b*0) (by omega) (by omega)
   have m2:=ht p (b/(a%b)) (0-a/b*1) (by omega) (by omega)
   have m3:=hc p 0 (b/(a%b)*(1-a/b*0)) (by omega) (by omega)
   have m4:=hc p 1 (b/(a%b)*(0-a/b*1)) (by omega) (by omega)
   rw [u7] at m4;rw [dt,gd] at m3
   have st2:dn (den T A) 0 Zr_L0 ⟨[(0,(.d (.int .i64 p))),(1,(.d (.sl .leaf (am .i64 (row b))))),(2,(.d (.sl .leaf (am .i64 (row (a%b)))))),(9,.d (.sl .leaf [])),(10,.sl 1 [] 0 1 (some 1)),(11,(.d (.sl .leaf (am .i64 (row (1-a/b*0)))))),(12,(.d (.sl .leaf (am .i64 (row (0-a/b*1))))))],[.hole,.sl true .leaf (am .i64 [1])]⟩ =
    some (.normal,⟨[(0,(.d (.int .i64 p))),(1,(.d (.sl .leaf (am .i64 (row (a%b)))))),(2,(.d (.sl .leaf (am .i64 (row (b%(a%b))))))),(9,(.d (.sl .leaf (am .i64 (row (1-a/b*0)))))),(10,(.d (.sl .leaf (am .i64 (row (0-a/b*1)))))),(11,(.d (.sl .leaf (am .i64 (row (0-b/(a%b)*(1-a/b*0))))))),(12,(.d (.sl .leaf (am .i64 (row (1-b/(a%b)*(0-a/b*1)))))))],[.hole,.hole]⟩):=by
    simp -implicitDefEqProofs [Zr_L0,ao,hp1,m0,m1,m2,m3,m4]
   have I2:=I1.step h1;have hl2:=Pol.len_mod b h1;obtain ⟨x',y',e⟩:=W9 hd ht hc ha hb (b.len-2) _ _ _ _ _ _ (by omega) (by omega) (by omega) I2
   have lp:=bq st1 (bq st2 e)
   have hb1:Pol.bz b.len a b 1 0 0 1=Pol.bz (b.len-2) (a%b) (b%(a%b)) (1-a/b*0) (0-b/(a%b)*(1-a/b*0)) (0-a/b*1) (1-b/(a%b)*(0-a/b*1)):=by
    rw [show b.len=(b.len-2+1)+1 by omega,Pol.bz,if_neg h0,Pol.bz,if_neg h1]
    rfl
   rw [hb1];obtain ⟨x2,y2,I3,_,_⟩:=Pol.bz_spec (b.len-2) _ _ _ _ _ _ (by omega) I2
   obtain ⟨e1,e2,e3,e4,e5⟩:=last I3;have o1:D.int IntKind.i64 1::[]=am .i64 [1]:=rfl;simp -implicitDefEqProofs [Zr,Zr_B,gd,e1,e2,e3,e4,e5,lp,o1,List.replicate]
end Pe

namespace Pe
open Go Gq
variable {T:Nat→Option Fn} {A:ah}
def Rn (O:ah):Prop:=∀(p:Int) [IsP p] (a b:Fp p),(a≠0∨b≠0)→a.len≤2000→b.len≤2000 →
 ask O Fw [(D.int .i64 p),(D.sl .leaf (am .i64 (row a))),(D.sl .leaf (am .i64 (row b)))]=some (D.sl .leaf (am .i64 (row (Pol.gcd a b))))
theorem a6a (hT:T Fw=some Zw) (hb:Eh (den T A)):Rn (den T A):=by
 intro p i a b hab h1 h2;have e:=hb p a b hab h1 h2;refine bu hT rfl ?_;simp -implicitDefEqProofs [Zw,Zw_B,e,Pol.gcd]
theorem abz (x:Int) (_h:0≤x):((BitVec.ofInt 64 x &&& 1#64).toNat:Int)=x%2:=by
 rw [BitVec.toNat_and];have e:(1#64).toNat=2^1-1:=rfl;rw [e,Nat.and_two_pow_sub_one_eq_mod,BitVec.toNat_ofInt];omega
theorem a08 (x:Int) (h:0≤x):a6d .i64 x 1=x%2:=by
 show IntKind.i64.wrap ((BitVec.ofInt 64 x &&& 1#64).toNat:Int)=_;rw [abz x h,w64 (by omega)]
theorem a0g (x:Int):xw .shr .i64 x 1=some (.int .i64 (x/2)):=by
 show (if (1:Int)<0 then none else some (D.int .i64 (x.fdiv (2^min (1:Int).toNat 64))))=_
 rw [if_neg (by omega)]
 congr 2
 show x.fdiv 2=x/2;rw [Int.fdiv_eq_ediv_of_nonneg _ (by omega)]
theorem a15 {O:ah} (hr:y8 O) (ht:ta O) {p:Int} [IsP p] {m:Fp p} (hm:m≠0) (hml:m.len<2000):∀(n:Nat) (k:Int) (out base:Fp p),0≤k→k.toNat<2^n→k<4611686018427387904→out.len<m.len→base.len<m.len→∃base':List Int,
 dn O 0 (.loop Z11_L0) ⟨[(0,(.d (.int .i64 p))),(2,(.d (.int .i64 k))),(3,(.d (.sl .leaf (am .i64 (row m))))),(9,(.d (.sl .leaf (am .i64 (row out))))),(10,(.d (.sl .leaf (am .i64 (row base)))))],[.hole]⟩ =
  some (.exit 0,⟨[(0,(.d (.int .i64 p))),(2,(.d (.int .i64 0))),(3,(.d (.sl .leaf (am .i64 (row m))))),(9,(.d (.sl .leaf (am .i64 (row (out*pw base k.toNat%m)))))),(10,(.d (.sl .leaf (am .i64 base')))),(20,(.d (.bool false)))],[.hole]⟩):=by
 intro n
 induction n with
 | zero=>
  intro k out base hk hn _ ho hb;obtain rfl:k=0:=by simp at hn; omega
  refine ⟨row base,?_⟩
  have e:out*pw base (0:Int).toNat%m=out:=by
   show out*1%m=out;rw [Gq.mul_one,Pol.mod_small ho]
  rw [e];exact bv (by simp -implicitDefEqProofs [Z11_L0,ao])
 | succ n ih=>
  intro k out base hk hn hkm ho hb
  by_cases h0:k=0
  ·subst h0
   refine ⟨row base,?_⟩
   have e:out*pw base (0:Int).toNat%m=out:=by
    show out*1%m=out;rw [Gq.mul_one,Pol.mod_small ho]
   rw [e];exact bv (by simp -implicitDefEqProofs [Z11_L0,ao])
  ·have hkp:0<k:=by omega
   have hlen:∀x y:Fp p,x.len<m.len→y.len<m.len→(x*y).len<5000:=fun x y hx hy=>by
    have:=Pol.len_le (Pol.lt_mul x.lt_len y.lt_len);omega
   have t1:=ht p out base (by omega) (by omega)
   have t2:=ht p base base (by omega) (by omega)
   have r1:=hr p (out*base) m hm (hlen _ _ ho hb) (by omega)
   have r2:=hr p (base*base) m hm (hlen _ _ hb hb) (by omega)
   have s:=Pol.bin_step (out:=out) (base:=base) hm k.toNat (by omega)
   have hdiv:(k/2).toNat=k.toNat/2:=by omega
   obtain ⟨b',e⟩:=ih (k/2) (if k.toNat%2=1 then out*base%m else out) (base*base%m) (by omega) (by rw [lc] at hn; omega) (by omega) (by split; exact Pol.len_mod _ hm; exact ho) (Pol.len_mod _ hm)
   rw [hdiv,s] at e;refine ⟨b',bq ?_ e⟩;have ea:=a08 k (by omega)
   have es:=a0g k
   by_cases hodd:k%2=1
   ·rw [if_pos (show k.toNat%2=1 by omega)]
    simp -implicitDefEqProofs [Z11_L0,ao,hkp,t1,t2,r1,r2,ea,es,hodd]
   ·rw [if_neg (show ¬ k.toNat%2=1 by omega)]
    simp -implicitDefEqProofs [Z11_L0,ao,hkp,t2,r2,ea,es,hodd]
def td (O:ah):Prop:=∀(p:Int) [IsP p] (a:Fp p) (k:Int) (m:Fp p),m≠0→a.len<5000→m.len<2000→0≤k→k<4611686018427387904 →
 ask O F11 [(D.int .i64 p),(D.sl .leaf (am .i64 (row a))),(D.int .i64 k),(D.sl .leaf (am .i64 (row m)))]=some (D.sl .leaf (am .i64 (row (pw a k.toNat%m))))
theorem a0m (hT:T F11=some Z11) (hr:y8 (den T A)) (ht:ta (den T A)):td (den T A):=by
 intro p i a k m hm ha hml hk hkm;have r1:=hr p 1 m hm (by rw [Pol.len_one]; omega) (by omega)
 rw [u7] at r1;have r2:=hr p a m hm (by omega) (by omega)
 obtain ⟨b',e⟩:=a15 hr ht hm hml 62 k (1%m) (a%m) hk (by omega) hkm (Pol.len_mod _ hm) (Pol.len_mod _ hm)
 have e2:1%m*pw (a%m) k.toNat%m=pw a k.toNat%m:=by
  rw [Pol.mul_mod_left _ _ hm,Gq.one_mul,Pol.pow_mod _ hm]
 rw [e2] at e;have o1:D.int IntKind.i64 1::[]=am .i64 [1]:=rfl;refine bu hT rfl ?_;simp -implicitDefEqProofs [Z11,Z11_B,r1,r2,e,o1,List.replicate]
def B8 (p most:Int):Nat→Int→Int
 | 0,out=>out
 | n+1,out=>if out > most then out else B8 p most n (out*p)
theorem Vc {O:ah} {p:Int} [IsP p] {most nn:Int} (hmost:most≤1152921504606846976):∀(n:Nat) (i:Int) (out:Int),i+n=nn→-1000000<i→nn<1000000→0≤out→out≤8070450532247928832→∃(i':Int) (b:List (Nat×V)),
 dn O 0 (.loop Zz_L0) ⟨[(0,(.d (.int .i64 p))),(2,(.d (.int .i64 most))),(7,(.d (.int .i64 out))),(8,(.d (.int .i64 nn))),(9,(.d (.int .i64 i)))],[]⟩ =
  some (.exit 0,⟨[(0,(.d (.int .i64 p))),(2,(.d (.int .i64 most))),(7,(.d (.int .i64 (B8 p most n out)))),(8,(.d (.int .i64 nn))),(9,(.d (.int .i64 i')))]++b,[]⟩)
 | 0,i,out,hi,h1,h2,ho,ho2=>by
  have:i=nn:=by omega
  subst this;exact ⟨i,[(10,(.d (.bool false)))],bv (by simp -implicitDefEqProofs [Zz_L0,ao,B8])⟩
 | n+1,i,out,hi,h1,h2,ho,ho2=>by
  have hlt:i<nn:=by omega
  have hp:=IsP.le (p:=p);have hp2:=IsP.pos (p:=p)
  by_cases hm:most<out
  ·exact ⟨i,[(13,(.d (.bool true)))],bv (by simp -implicitDefEqProofs [Zz_L0,ao,B8,hlt,hm])⟩
  ·have hmul:0≤out*p∧out*p≤8070450532247928832:=by
    refine ⟨eg ho (by omega),?_⟩
    have:out*p≤out*7:=ca hp ho;omega
   obtain ⟨i',b,e⟩:=Vc (O:=O) (p:=p) (nn:=nn) hmost n (i+1) (out*p) (by omega) (by omega) h2 hmul.1 hmul.2
   have w1:IntKind.i64.wrap (out*p)=out*p:=w64 (by omega)
   have w2:IntKind.i64.wrap (i+1)=i+1:=w64 (by omega)
   refine ⟨i',b,bq (s1:=⟨[(0,(.d (.int .i64 p))),(2,(.d (.int .i64 most))),(7,(.d (.int .i64 (out*p)))),(8,(.d (.int .i64 nn))),(9,(.d (.int .i64 (i+1))))],[]⟩) (by simp -implicitDefEqProofs [Zz_L0,ao,hlt,hm,w1,w2]) ?_⟩
   rw [e,B8,if_neg (by omega)]
def Oy (O:ah):Prop:=∀(p:Int) [IsP p] (n:Nat) (most:Int),n<1000000→most≤1152921504606846976→ask O Fz [(D.int .i64 p),(D.int .i64 n),(D.int .i64 most)]=some (D.int .i64 (B8 p most n 1))
theorem a2x (hT:T Fz=some Zz):Oy (den T A):=by
 intro p i n most hn hm;obtain ⟨i',b,e⟩:=Vc (O:=den T A) (p:=p) (nn:=(n:Int)) hm n 0 1 (by omega) (by omega) (by omega) (by omega) (by omega)
 refine bu hT rfl ?_;simp -implicitDefEqProofs [Zz,Zz_B,e]
end Pe

namespace Pe
open Go Gq
variable {T:Nat→Option Fn} {A:ah}
def dgs (p:Int):Nat→Int→List Int
 | 0,_=>[]
 | f+1,n=>if n≤0 then [] else n%p::dgs p f (n/p)
def jx (p n:Int):Fp p:=ep p (dgs p 64 n)
theorem Q7 {p:Int} [IsP p]:∀f n,Can p (dgs p f n)
 | 0,n=>fun x hx=>by simp [dgs] at hx
 | f+1,n=>fun x hx=>by
  unfold dgs at hx
  split at hx
  ·simp at hx
  ·have hp:=IsP.pos (p:=p)
   rcases d9.1 hx with rfl | hx
   ·exact ⟨db _ (by omega),cl _ hp⟩
   ·exact Q7 f _ x hx
theorem Eq {p n:Int} [IsP p] (h:0<n) (h2:n/p=0):n%p≠0:=by
 have h3:=Int.mul_ediv_add_emod n p;rw [h2] at h3;simp at h3;omega
theorem M3 {p:Int} [IsP p]:∀(f:Nat) (n:Int),n<2^f→dgs p f n=[]∨cf (dgs p f n) ((dgs p f n).length-1)≠0
 | 0,n,h=>.inl rfl
 | f+1,n,h=>by
  by_cases h0:n≤0
  ·left; simp [dgs,h0]
  ·right
   have hp:=IsP.ge (p:=p)
   have hd:n/p<2^f:=by
    apply gz (by omega)
    have:(2:Int)^(f+1)=2^f*2:=fk _ _;have h2:(2:Int)^f*2≤2^f*p:=ca hp (na (by omega))
    omega
   have e:dgs p (f+1) n=n%p::dgs p f (n/p):=by simp [dgs,h0]
   rw [e];have hdn:0≤n/p:=m8 (by omega) (by omega)
   rcases M3 (p:=p) f (n/p) hd with h1 | h1
   ·rw [h1]
    show n%p≠0
    by_cases hz:n/p=0
    ·exact Eq (p:=p) (show 0<n by omega) hz
    ·exfalso
     cases f with
     | zero=>simp at hd; omega
     | succ f=>
      rw [dgs,if_neg (by omega)] at h1
      cases h1
   ·cases hq:dgs p f (n/p) with
    | nil=>rw [hq] at h1; simp [cf] at h1
    | cons a l=>
     rw [hq] at h1
     simpa [cf] using h1
theorem Jt {p:Int} [IsP p] {l:List Int} (h:Can p l) (hl:l=[]∨cf l (l.length-1)≠0):row (ep p l)=l:=by
 rw [←mc h];unfold trim
 have:mw l l.length=l.length:=by
  cases hn:l.length with
  | zero=>rfl
  | succ n=>
   rcases hl with h0 | h0
   ·rw [h0] at hn; simp at hn
   ·rw [hn,Nat.add_sub_cancel] at h0
    rw [mw,if_neg h0]
 rw [this,jc]
theorem Lj {p:Int} [IsP p] {n:Int} (h:n<18446744073709551616):row (jx p n)=dgs p 64 n:=Jt (Q7 64 n) (M3 64 n (by simpa using h))
theorem Dq {O:ah} {p:Int} [IsP p]:∀(f:Nat) (n:Int) (cur:List Int) (cp:Option Nat),0≤n→n<2^f→n<9223372036854775807→cur.length+f<1000→∃cp',
 dn O 0 (.loop Z10_L0) ⟨[(0,(.d (.int .i64 p))),(1,(.d (.int .i64 n))),(5,.sl 0 [] 0 cur.length cp)],[.sl false .leaf (am .i64 cur),.hole,.hole]⟩ =
  some (.exit 0,⟨[(0,(.d (.int .i64 p))),(1,(.d (.int .i64 0))),(5,.sl 0 [] 0 (cur++dgs p f n).length cp'),(7,(.d (.bool false)))],[.sl false .leaf (am .i64 (cur++dgs p f n)),.hole,.hole]⟩)
 | 0,n,cur,cp,h0,hn,hm,hl=>by
  obtain rfl:n=0:=by simp at hn; omega
  refine ⟨cp,?_⟩;rw [dgs,i7];exact bv (by simp -implicitDefEqProofs [Z10_L0,ao])
 | f+1,n,cur,cp,h0,hn,hm,hl=>by
  have hp:=IsP.ge (p:=p);have hp7:=IsP.le (p:=p)
  by_cases hz:n=0
  ·subst hz
   refine ⟨cp,?_⟩;rw [dgs,if_pos (vp 0),i7];exact bv (by simp -implicitDefEqProofs [Z10_L0,ao])
  ·have hd:n/p<2^f:=by
    apply gz (by omega)
    have:(2:Int)^(f+1)=2^f*2:=fk _ _;have h2:(2:Int)^f*2≤2^f*p:=ca hp (na (by omega))
    omega
   have hdn:0≤n/p:=m8 (by omega) (by omega)
   have hdl:n/p≤n:=Int.ediv_le_self _ h0;obtain ⟨cp',e⟩:=Dq (O:=O) (p:=p) f (n/p) (cur++[n%p]) none hdn hd (by omega) (by simp; omega)
   have hpos:0<n:=by omega
   have w1:IntKind.i64.wrap (n.tdiv p)=n/p:=by rw [Int.tdiv_eq_ediv_of_nonneg h0,w64 (by omega)]
   have w2:n.tmod p=n%p:=cd h0;have hp0:p≠0:=by omega
   have h8:(cur.length+1)*8≤1099511627776:=by omega
   have o1:am .i64 cur++[D.int .i64 (n%p)]=am .i64 (cur++[n%p]):=by rw [←Bb]; rfl
   refine ⟨cp',?_⟩;rw [dgs,if_neg (by omega),show cur++n%p::dgs p f (n/p)=(cur++[n%p])++dgs p f (n/p) by simp]
   refine bq ?_ e;simp -implicitDefEqProofs [Z10_L0,ao,hpos,w1,w2,hp0,h8,o1,List.replicate]
def tc (O:ah):Prop:=∀(p:Int) [IsP p] (n:Int),0≤n→n<4611686018427387904→ask O F10 [(D.int .i64 p),(D.int .i64 n)]=some (D.sl .leaf (am .i64 (row (jx p n))))
theorem Mx (hT:T F10=some Z10):tc (den T A):=by
 intro p i n h0 hn;obtain ⟨cp,e⟩:=Dq (O:=den T A) (p:=p) 64 n [] (some 0) h0 (by omega) (by omega) (by simp)
 rw [Lj (by omega)]
 rw [gd,c6] at e;have e0:(([]:List Int).length:Nat)=0:=rfl;rw [e0] at e;refine bu hT rfl ?_;simp -implicitDefEqProofs [Z10,Z10_B,e]
end Pe

namespace Gq
section
variable {K:Type} [Fd K]
def Dv (a b:Pol K):Prop:=∃c,b=a*c
theorem Dv.refl (a:Pol K):Dv a a:=⟨1,(mul_one a).symm⟩
theorem Dv.trans {a b c:Pol K} (h:Dv a b) (h':Dv b c):Dv a c:=by
 obtain ⟨x,rfl⟩:=h;obtain ⟨y,rfl⟩:=h';exact ⟨x*y,mul_assoc _ _ _⟩
theorem Dv.zero (a:Pol K):Dv a 0:=⟨0,(mul_zero a).symm⟩
theorem Dv.mul_right {a b:Pol K} (h:Dv a b) (c:Pol K):Dv a (b*c):=h.trans ⟨c,rfl⟩
theorem Dv.mul_left {a b:Pol K} (h:Dv a b) (c:Pol K):Dv a (c*b):=h.trans ⟨c,mul_comm _ _⟩
theorem Dv.add {a b c:Pol K} (h:Dv a b) (h':Dv a c):Dv a (b+c):=by
 obtain ⟨x,rfl⟩:=h;obtain ⟨y,rfl⟩:=h';exact ⟨x+y,(mul_add _ _ _).symm⟩
theorem Dv.neg {a b:Pol K} (h:Dv a b):Dv a (-b):=by
 obtain ⟨x,rfl⟩:=h;exact ⟨-x,(a0a _ _).symm⟩
theorem Dv.sub {a b c:Pol K} (h:Dv a b) (h':Dv a c):Dv a (b-c):=by
 rw [sub_eq]; exact h.add h'.neg
theorem Dv.len {a b:Pol K} (h:Dv a b) (hb:b≠0):a.len≤b.len:=by
 obtain ⟨x,rfl⟩:=h;have ha:a≠0:=fun h=>hb (by rw [h,zero_mul])
 have hx:x≠0:=fun h=>hb (by rw [h,mul_zero])
 have:=Pol.len_mul ha hx;have:=Pol.len_pos hx;omega
theorem u6 {a m:Pol K} (hm:m≠0):Dv m a↔a%m=0:=by
 constructor
 ·rintro ⟨c,rfl⟩
  rw [mul_comm];exact Pol.mod_self_mul c hm
 ·intro h
  have:=Pol.div_mod a m;rw [h,add_zero,mul_comm] at this;exact ⟨_,this⟩
theorem ko {a m:Pol K}:Dv m a↔Quo.mk m a=0:=by
 rw [←Quo.mk_zero,Quo.eq];constructor
 ·rintro ⟨c,h⟩; exact ⟨c,by rw [zero_add,h]⟩
 ·rintro ⟨c,h⟩; exact ⟨c,by rw [h,zero_add]⟩
theorem jz {a:Pol K} (h:a.len=1):∃k:K,k≠0∧a=Pol.C k:=by
 have e:=Pol.eq_C (Pol.lt_iff.2 (show a.len≤1 by omega))
 refine ⟨a.c 0,fun h0=>?_,e⟩
 rw [h0,Pol.C_zero] at e;rw [e,Pol.len_zero] at h;omega
theorem Uz {k:K} (h:k≠0):Pol.C k*Pol.C (Fd.inv k)=1:=by rw [←Pol.C_mul,Fd.mul_inv k h,Pol.C_one]
theorem Dv.Cmul {a b:Pol K} {k:K} (hk:k≠0):Dv (Pol.C k*a) b↔Dv a b:=by
 constructor
 ·rintro ⟨c,h⟩
  exact ⟨Pol.C k*c,by rw [h]; exact bf [Pol.C k,a,c] rfl⟩
 ·rintro ⟨c,h⟩
  refine ⟨Pol.C (Fd.inv k)*c,?_⟩;have:Pol.C k*a*(Pol.C (Fd.inv k)*c)=(Pol.C k*Pol.C (Fd.inv k))*(a*c):=bf [Pol.C k,a,Pol.C (Fd.inv k),c] rfl;rw [this,Uz hk,one_mul,h]
def Monic (a:Pol K):Prop:=a.ld=1∧a≠0
theorem Monic.mul {a b:Pol K} (ha:Monic a) (hb:Monic b):Monic (a*b):=⟨by rw [Pol.ld_mul ha.2 hb.2,ha.1,hb.1,mul_one],Pol.mul_ne ha.2 hb.2⟩
theorem Monic.one:Monic (1:Pol K):=⟨Pol.ld_one,Pol.one_ne⟩
theorem Pol.ld_C {k:K} (h:k≠0):(C k).ld=k:=by unfold ld; rw [len_C h]; rfl
theorem Monic.eq_one {a:Pol K} (h:Monic a) (hl:a.len=1):a=1:=by
 obtain ⟨k,hk,rfl⟩:=jz hl;have:=h.1;rw [Pol.ld_C hk] at this;rw [this,Pol.C_one]
theorem Monic.antisymm {a b:Pol K} (ha:Monic a) (hb:Monic b) (h:Dv a b) (h':Dv b a):a=b:=by
 obtain ⟨x,rfl⟩:=h;have h1:=h'.len ha.2;have hx:x≠0:=fun h=>hb.2 (by rw [h,mul_zero])
 have h2:=Pol.len_mul ha.2 hx;have h3:=Pol.len_pos hx;obtain ⟨k,hk,rfl⟩:=jz (show x.len=1 by omega)
 have h4:=hb.1;rw [Pol.ld_mul ha.2 hx,ha.1,one_mul,Pol.ld_C hk] at h4;rw [h4,Pol.C_one,mul_one]
noncomputable def mon (a:Pol K):Pol K:=Pol.C (Fd.inv a.ld)*a
theorem o6 {a:Pol K} (h:a≠0):Monic (mon a):=by
 have h1:=Fd.inv_ne (Pol.ld_ne h);refine ⟨?_,Pol.mul_ne (Pol.C_ne h1) h⟩;unfold mon;rw [Pol.ld_mul (Pol.C_ne h1) h,Pol.ld_C h1,mul_comm,Fd.mul_inv _ (Pol.ld_ne h)]
theorem ym {a b:Pol K} (h:a≠0):Dv (mon a) b↔Dv a b:=Dv.Cmul (Fd.inv_ne (Pol.ld_ne h))
theorem tv {a:Pol K} (h:a≠0):(mon a).len=a.len:=Pol.len_Cmul (Fd.inv_ne (Pol.ld_ne h)) a
theorem Xe {a:Pol K} (h:a≠0):a=Pol.C a.ld*mon a:=by
 unfold mon;rw [←mul_assoc,Uz (Pol.ld_ne h),one_mul]
theorem Pol.eu_spec {a b:Pol K} (h:a≠0∨b≠0):(eu a b).1≠0∧Dv (eu a b).1 a∧Dv (eu a b).1 b∧(eu a b).2.1*a+(eu a b).2.2*b=(eu a b).1:=by
 obtain ⟨x,y,h1,⟨s,h2⟩,⟨t,h3⟩⟩:=bz_spec b.len a b 1 0 0 1 (b9 _) (BzI.init h);exact ⟨h1.any.resolve_right fun h=>h rfl,⟨s,by rw [mul_comm]; exact h2⟩,⟨t,by rw [mul_comm]; exact h3⟩,h1.one⟩
theorem Pol.gcd_monic {a b:Pol K} (h:a≠0∨b≠0):Monic (gcd a b):=o6 (eu_spec h).1
theorem Pol.gcd_dv_left {a b:Pol K} (h:a≠0∨b≠0):Dv (gcd a b) a:=(ym (eu_spec h).1).2 (eu_spec h).2.1
theorem Pol.gcd_dv_right {a b:Pol K} (h:a≠0∨b≠0):Dv (gcd a b) b:=(ym (eu_spec h).1).2 (eu_spec h).2.2.1
theorem Pol.bezout_eq {a b:Pol K} (h:a≠0∨b≠0):(bezout a b).2.1*a+(bezout a b).2.2*b=gcd a b:=by
 have e:=(eu_spec h).2.2.2;show C (Fd.inv (eu a b).1.ld)*(eu a b).2.1*a+C (Fd.inv (eu a b).1.ld)*(eu a b).2.2*b=C (Fd.inv (eu a b).1.ld)*(eu a b).1;generalize C (Fd.inv (eu a b).1.ld)=k;generalize (eu a b).2.1=u at *;generalize (eu a b).2.2=v at *;rw [←e];exact bf [k,u,a,v,b] rfl
theorem Pol.dv_gcd {a b c:Pol K} (h:a≠0∨b≠0) (ha:Dv c a) (hb:Dv c b):Dv c (gcd a b):=by
 rw [←bezout_eq h];exact (ha.mul_left _).add (hb.mul_left _)
structure Irr (q:Pol K):Prop where
 len:2≤q.len
 no:∀u v,q=u*v→u.len=1∨v.len=1
theorem Irr.ne {q:Pol K} (h:Irr q):q≠0:=fun h0=>by have:=h.len; rw [h0,Pol.len_zero] at this; omega
theorem Irr.dv {q u:Pol K} (h:Irr q) (hd:Dv u q):u.len=1∨u.len=q.len:=by
 obtain ⟨v,hv⟩:=hd;have hu:u≠0:=fun h0=>h.ne (by rw [hv,h0,zero_mul])
 have hv0:v≠0:=fun h0=>h.ne (by rw [hv,h0,mul_zero])
 have l:=Pol.len_mul hu hv0;rw [←hv] at l;rcases h.no u v hv with h1 | h1
 ·exact .inl h1
 ·right; omega
theorem Irr.coprime {q a:Pol K} (h:Irr q) (hn:¬ Dv q a):∃u v,u*q+v*a=1:=by
 have h0:q≠0∨a≠0:=.inl h.ne;have e:=Pol.bezout_eq h0;have d1:=Pol.gcd_dv_left h0;have d2:=Pol.gcd_dv_right h0;have m:=Pol.gcd_monic h0;rcases h.dv d1 with h1 | h1
 ·rw [m.eq_one h1] at e
  exact ⟨_,_,e⟩
 ·exfalso
  obtain ⟨c,hc⟩:=d1;have hc0:c≠0:=fun h0=>h.ne (by rw [hc,h0,mul_zero])
  have l:=Pol.len_mul m.2 hc0;rw [←hc] at l;obtain ⟨k,hk,rfl⟩:=jz (show c.len=1 by omega)
  apply hn;rw [hc,mul_comm];exact (Dv.Cmul hk).2 d2
theorem Irr.prime {q a b:Pol K} (h:Irr q) (hd:Dv q (a*b)):Dv q a∨Dv q b:=by
 by_cases ha:Dv q a
 ·exact .inl ha
 ·obtain ⟨u,v,e⟩:=h.coprime ha
  right
  have:b=u*b*q+v*(a*b):=by
   have e2:u*b*q+v*(a*b)=(u*q+v*a)*b:=bf [u,b,q,v,a] rfl;rw [e2,e,one_mul]
  rw [this];exact ((Dv.refl q).mul_left _).add (hd.mul_left _)
theorem Irr.of_dv {q:Pol K} (hl:2≤q.len) (h:∀u,Dv u q→u.len=1∨u.len=q.len):Irr q:=⟨hl,fun u v e=>by
 have hq:q≠0:=fun h0=>by rw [h0,Pol.len_zero] at hl; omega
 have hu:u≠0:=fun h0=>hq (by rw [e,h0,zero_mul])
 have hv0:v≠0:=fun h0=>hq (by rw [e,h0,mul_zero])
 have l:=Pol.len_mul hu hv0;rw [←e] at l;rcases h u ⟨v,e⟩ with h1 | h1
 ·exact .inl h1
 ·right; omega⟩
theorem Irr.mon {q:Pol K} (h:Irr q):Irr (mon q):=Irr.of_dv (by rw [tv h.ne]; exact h.len) fun u hu=>by
 rw [tv h.ne];apply h.dv;refine hu.trans ?_;rw [ym h.ne];exact .refl q
theorem A4:∀(n:Nat) (a:Pol K),a.len≤n→2≤a.len→∃q,Irr q∧Monic q∧Dv q a
 | 0,a,h,h2=>by omega
 | n+1,a,h,h2=>by
  have ha:a≠0:=fun h0=>by rw [h0,Pol.len_zero] at h2; omega
  by_cases hi:Irr a
  ·exact ⟨Gq.mon a,hi.mon,o6 ha,(ym ha).2 (.refl a)⟩
  ·have:∃u,Dv u a∧u.len≠1∧u.len≠a.len:=dc fun hx=>hi (Irr.of_dv h2 fun u hu=>dc fun hy=>hx ⟨u,hu,by omega,by omega⟩)
   obtain ⟨u,hu,h3,h4⟩:=this;have h5:=hu.len ha
   have hu0:u≠0:=fun h0=>by
    obtain ⟨c,hc⟩:=hu;exact ha (by rw [hc,h0,zero_mul])
   have h6:=Pol.len_pos hu0;obtain ⟨q,h7,h8,h9⟩:=A4 n u (by omega) (by omega)
   exact ⟨q,h7,h8,h9.trans hu⟩
theorem Irr.eq_of_dv {q r:Pol K} (hq:Irr q) (hr:Irr r) (mq:Monic q) (mr:Monic r) (h:Dv q r):q=r:=by
 refine mq.antisymm mr h ?_;rcases hr.dv h with h1 | h1
 ·have:=hq.len; omega
 ·obtain ⟨c,rfl⟩:=h
  have hc:c≠0:=fun h0=>mr.2 (by rw [h0,mul_zero])
  have l:=Pol.len_mul mq.2 hc;obtain ⟨k,hk,rfl⟩:=jz (show c.len=1 by omega)
  rw [mul_comm];exact (Dv.Cmul hk).2 (.refl q)
theorem Quo.ex {R:Type} [CR R] {m:R} (x:Quo m):∃a,x=Quo.mk m a:=Quo.ind (P:=fun x=>∃a,x=Quo.mk m a) (fun a=>⟨a,rfl⟩) x
theorem Irr.quo_zero {q:Pol K} (h:Irr q) {x y:Quo q} (e:x*y=0):x=0∨y=0:=by
 obtain ⟨a,rfl⟩:=Quo.ex x;obtain ⟨b,rfl⟩:=Quo.ex y;rw [←Quo.mk_mul,←ko] at e;rw [←ko,←ko];exact h.prime e
theorem Irr.quo_inv {q:Pol K} (h:Irr q) {x:Quo q} (hx:x≠0):∃y,x*y=1:=by
 obtain ⟨a,rfl⟩:=Quo.ex x;obtain ⟨u,v,e⟩:=h.coprime fun hd=>hx (ko.1 hd)
 refine ⟨Quo.mk q v,?_⟩;rw [←Quo.mk_mul,←Quo.mk_one,Quo.eq];refine ⟨-u,?_⟩;rw [←e];exact bf [a,v,u,q] rfl
open Classical in
noncomputable abbrev a2a {q:Pol K} (h:Irr q):Fd (Quo q) where
 one_ne:=fun e=>by
  have:=ko.2 e;have h1:=this.len Pol.one_ne;have:=h.len;rw [Pol.len_one] at h1;omega
 inv:=fun x=>if hx:x=0 then 0 else Classical.choose (h.quo_inv hx)
 mul_inv:=fun x hx=>by rw [dif_neg hx]; exact cj (h.quo_inv hx)
end
def lj {R:Type} [CR R]:List R→R
 | []=>1
 | x::l=>x*lj l
theorem Cz {R:Type} [CR R] {l m:List R} (h:l.Perm m):lj l=lj m:=by
 induction h with
 | nil=>rfl
 | cons x _ ih=>rw [lj,lj,ih]
 | swap x y l=>rw [lj,lj,lj,lj,mul_left_comm]
 | trans _ _ h1 h2=>exact h1.trans h2
theorem G1 {R:Type} [CR R] (x:R):∀l:List R,lj (l.map (x * ·))=pw x l.length*lj l
 | []=>(one_mul _).symm
 | y::l=>by
  rw [eo,lj,G1 x l,lj,b4,pw];exact bf [x,y,pw x l.length,lj l] rfl
theorem Bd {α:Type} [DecidableEq α]:∀{l m:List α},l.Nodup→(∀x∈l,x∈m)→m.length=l.length→l.Perm m
 | [],m,_,_,hl=>by
  obtain rfl:=pf (by simpa using hl)
  exact .nil
 | x::l,m,hn,hs,hl=>by
  have hx:x∈m:=hs x (by simp)
  obtain ⟨h1,h2⟩:=i8.1 hn;have p:=List.perm_cons_erase hx;refine (List.Perm.cons x (Bd h2 (fun y hy=>?_) ?_)).trans p.symm
  ·have hne:y≠x:=fun e=>h1 (e▸hy)
   exact (List.mem_erase_of_ne hne).2 (hs y (by simp [hy]))
  ·rw [List.length_erase_of_mem hx]; simp at hl; omega
theorem V1 {R:Type} [CR R] [DecidableEq R] {l:List R} (hn:l.Nodup) (hc:∀x y:R,x*y=0→x=0∨y=0) (h1:(1:R)≠0) (hl:∀x,x∈l↔x≠0) {x:R} (hx:x≠0):pw x l.length=1:=by
 have hcan:∀y z:R,x*y=x*z→y=z:=fun y z e=>by
  have:x*(y-z)=0:=by
   have e2:x*(y-z)=x*y-x*z:=bf [x,y,z] rfl;rw [e2,e,sub_self]
  exact o4 ((hc _ _ this).resolve_left hx)
 have hp:(l.map (x * ·)).Perm l:=by
  refine Bd ?_ (fun y hy=>?_) (by simp)
  ·unfold List.Nodup at hn ⊢
   rw [nv];exact hn.imp fun hab e=>hab (hcan _ _ e)
  ·obtain ⟨z,hz,rfl⟩:=cg.1 hy
   exact (hl _).2 fun e=>((hc _ _ e).elim hx) ((hl z).1 hz)
 have hprod:lj l≠0:=by
  have:∀m:List R,(∀z∈m,z≠0)→lj m≠0:=by
   intro m
   induction m with
   | nil=>exact fun _=>h1
   | cons z m ih=>exact fun hm e=>((hc _ _ e).elim (hm z (by simp))) (ih fun y hy=>hm y (by simp [hy]))
  exact this l fun z hz=>(hl z).1 hz
 have e:=Cz hp;rw [G1] at e
 have e2:lj l*(pw x l.length-1)=0:=by
  have e3:lj l*(pw x l.length-1)=pw x l.length*lj l-lj l:=bf [lj l,pw x l.length] rfl;rw [e3,e,sub_self]
 exact o4 ((hc _ _ e2).resolve_left hprod)
section
variable {K:Type} [CR K]
def fj (f:Nat→K):Nat→K
 | 0=>0
 | n+1=>fj f n+f n
noncomputable def Pol.val (a:Pol K) (x:K):K:=fj (fun i=>a.c i*pw x i) a.len
theorem Cp (f g:Nat→K):∀n,fj (fun i=>f i+g i) n=fj f n+fj g n
 | 0=>(add_zero _).symm
 | n+1=>by rw [fj,Cp f g n,fj,fj]; exact bf [fj f n,fj g n,f n,g n] rfl
theorem Dm (k:K) (f:Nat→K):∀n,fj (fun i=>k*f i) n=k*fj f n
 | 0=>(mul_zero _).symm
 | n+1=>by rw [fj,Dm k f n,fj,mul_add]
theorem Ta (x:K):∀n,∃g:Nat→K,(∀i,n≤i→g i=0)∧(∀k,n=k+1→g k=1)∧∀y,pw y n-pw x n=(y-x)*fj (fun i=>g i*pw y i) n:=by
 intro n
 induction n with
 | zero=>exact ⟨fun _=>0,fun _ _=>rfl,fun k h=>by omega,fun y=>by show (1:K)-1=(y-x)*0; rw [mul_zero,sub_self]⟩
 | succ n ih=>
  obtain ⟨g,h1,h2,h3⟩:=ih;refine ⟨fun i=>if i=n then 1 else x*g i,fun i hi=>?_,fun k hk=>?_,fun y=>?_⟩
  ·dsimp only; rw [if_neg (by omega),h1 i (by omega),mul_zero]
  ·dsimp only; rw [if_pos (by omega)]
  ·rw [fj]; dsimp only; rw [if_pos rfl,one_mul]
   have e:fj (fun i=>(if i=n then 1 else x*g i)*pw y i) n=x*fj (fun i=>g i*pw y i) n:=by
    rw [←Dm]
    have:∀m,m≤n→fj (fun i=>(if i=n then 1 else x*g i)*pw y i) m=fj (fun i=>x*(g i*pw y i)) m:=by
     intro m
     induction m with
     | zero=>intro _; rfl
     | succ m ihm=>intro hm; rw [fj,fj,ihm (by omega),if_neg (by omega),mul_assoc]
    exact this n (b9 n)
   rw [e,pw,pw];have e2:(y-x)*(x*fj (fun i=>g i*pw y i) n+pw y n)=x*((y-x)*fj (fun i=>g i*pw y i) n)+(y-x)*pw y n:=bf [y,x,fj (fun i=>g i*pw y i) n,pw y n] rfl
   rw [e2,←h3 y];exact bf [pw y n,y,pw x n,x] rfl
theorem Nf (f:Nat→K) (x:K):∀n,∃g:Nat→K,(∀i,n≤i+1→g i=0)∧(∀k,n=k+2→g k=f (k+1))∧∀y,fj (fun i=>f i*pw y i) n-fj (fun i=>f i*pw x i) n=(y-x)*fj (fun i=>g i*pw y i) n:=by
 intro n
 induction n with
 | zero=>exact ⟨fun _=>0,fun _ _=>rfl,fun k h=>by omega,fun y=>by show (0:K)-0=(y-x)*0; rw [mul_zero,sub_self]⟩
 | succ n ih=>
  obtain ⟨g,h1,h2,h3⟩:=ih;obtain ⟨g',h1',h2',h3'⟩:=Ta x n;refine ⟨fun i=>g i+f n*g' i,fun i hi=>?_,fun k hk=>?_,fun y=>?_⟩
  ·dsimp only; rw [h1 i (by omega),h1' i (by omega),mul_zero,add_zero]
  ·obtain rfl:k+1=n:=by omega
   dsimp only; rw [h1 k (by omega),h2' k rfl,mul_one,zero_add]
  ·rw [fj,fj,fj]
   have e0:g n+f n*g' n=0:=by rw [h1 n (by omega),h1' n (by omega),mul_zero,add_zero]
   dsimp only
   rw [e0,zero_mul,add_zero]
   have e:fj (fun i=>(g i+f n*g' i)*pw y i) n=fj (fun i=>g i*pw y i) n+f n*fj (fun i=>g' i*pw y i) n:=by
    rw [←Dm,←Cp]
    congr 1
    funext i
    exact bf [g i,f n,g' i,pw y i] rfl
   rw [e];have e2:(y-x)*(fj (fun i=>g i*pw y i) n+f n*fj (fun i=>g' i*pw y i) n)=(y-x)*fj (fun i=>g i*pw y i) n+f n*((y-x)*fj (fun i=>g' i*pw y i) n):=bf [y,x,fj (fun i=>g i*pw y i) n,f n,fj (fun i=>g' i*pw y i) n] rfl
   rw [e2,←h3 y,←h3' y];exact bf [fj (fun i=>f i*pw y i) n,f n,pw y n,fj (fun i=>f i*pw x i) n,pw x n] rfl
theorem Mb (hc:∀x y:K,x*y=0→x=0∨y=0):∀(n:Nat) (f:Nat→K) (l:List K),f n≠0→l.Nodup→(∀y∈l,fj (fun i=>f i*pw y i) (n+1)=0)→l.length≤n
 | n,f,[],_,_,_=>jg n
 | 0,f,x::l,hf,_,hr=>by
  have:=hr x (by simp)
  have e:fj (fun i=>f i*pw x i) (0+1)=f 0:=by show 0+f 0*1=f 0; rw [zero_add,mul_one]
  rw [e] at this;exact absurd this hf
 | n+1,f,x::l,hf,hn,hr=>by
  obtain ⟨g,h1,h2,h5⟩:=Nf f x (n+2);have hx:=hr x (by simp)
  obtain ⟨h3,h4⟩:=i8.1 hn;have hg0:g n≠0:=by rw [h2 n rfl]; exact hf
  have hg:∀y,fj (fun i=>f i*pw y i) (n+2)=(y-x)*fj (fun i=>g i*pw y i) (n+1):=fun y=>by
   have:=h5 y;rw [hx] at this
   have e:fj (fun i=>g i*pw y i) (n+2)=fj (fun i=>g i*pw y i) (n+1):=by
    show fj (fun i=>g i*pw y i) (n+1)+g (n+1)*pw y (n+1)=_
    rw [h1 (n+1) (by omega),zero_mul,add_zero]
   rw [e] at this;rw [←this];exact bf [fj (fun i=>f i*pw y i) (n+2)] rfl
  have:=Mb hc n g l hg0 h4 fun y hy=>by
   have e:=hr y (by simp [hy])
   rw [hg y] at e;refine (hc _ _ e).resolve_left fun h0=>h3 ?_
   rw [←o4 h0]; exact hy
  simp; omega
end
end Gq

namespace Pe
open Go Gq
section
variable {p:Int} [IsP p]
end
section
variable {p:Int}
theorem kr (h:1≤p) {a b:Nat} (hab:a≤b):p^a≤p^b:=by
 obtain ⟨k,rfl⟩:=f8 hab;rw [Int.pow_add];have h1:1≤p^k:=Int.pow_pos (n:=p) (m:=k) (by omega)
 have h2:0≤p^a:=na (by omega)
 have:=ca h1 h2;omega
end
section
variable {p:Int} [IsP p]
def vl (p:Int):List Int→Int
 | []=>0
 | d::l=>d+p*vl p l
theorem Qn:∀{l:List Int},Can p l→0≤vl p l∧vl p l<p^l.length
 | [],_=>by simp [vl]
 | d::l,h=>by
  have hp:=IsP.pos (p:=p);obtain ⟨h1,h2⟩:=Qn (l:=l) fun x hx=>h x (by simp [hx])
  have h3:=h d (by simp)
  have h4:0≤p*vl p l:=eg (by omega) h1
  have h5:p*vl p l≤p*(p^l.length-1):=ca (by omega) (by omega)
  rw [Int.mul_sub,mu] at h5;rw [b4,fk,gt (p^l.length),vl];omega
theorem Vt:∀{l:List Int},Can p l→∀i,cf l i=vl p l/p^i%p
 | [],_,i=>by simp [vl,cf]
 | d::l,h,0=>by
  have h3:=h d (by simp)
  show d=(d+p*vl p l)/p^0%p;rw [Int.pow_zero,Int.ediv_one,kg,ia h3.1 h3.2]
 | d::l,h,i+1=>by
  have hp:=IsP.pos (p:=p);have h3:=h d (by simp)
  have e:cf (d::l) (i+1)=cf l i:=by simp [cf]
  rw [e,Vt (l:=l) fun x hx=>h x (by simp [hx]),vl,fk,gt (p^i),←Int.ediv_ediv_of_nonneg (by omega),Int.add_mul_ediv_left _ _ (by omega),nu h3.1 h3.2,Int.zero_add]
theorem Wt:∀(f:Nat) (n:Int),0≤n→n<2^f→∀i,cf (dgs p f n) i=n/p^i%p
 | 0,n,h0,hn,i=>by
  obtain rfl:n=0:=by simp at hn; omega
  simp [dgs,cf]
 | f+1,n,h0,hn,i=>by
  have hp:=IsP.ge (p:=p);unfold dgs
  split
  ·obtain rfl:n=0:=by omega
   simp [cf]
  ·have hd:n/p<2^f:=by
    apply gz (by omega)
    have:(2:Int)^(f+1)=2^f*2:=fk _ _;have h2:(2:Int)^f*2≤2^f*p:=ca hp (na (by omega))
    omega
   cases i with
   | zero=>show n%p=n/p^0%p; rw [Int.pow_zero,Int.ediv_one]
   | succ i=>
    have e:cf (n%p::dgs p f (n/p)) (i+1)=cf (dgs p f (n/p)) i:=by simp [cf]
    rw [e,Wt f _ (m8 h0 (by omega)) hd,fk,gt (p^i),←Int.ediv_ediv_of_nonneg (by omega)]
abbrev z5 (n:Int):Prop:=0≤n∧n<18446744073709551616
theorem I7 {n:Int} (h:z5 n) (i:Nat):(jx p n).c i=zp p (n/p^i):=by
 unfold jx;rw [gn,Wt 64 n h.1 (by simpa using h.2),te]
noncomputable def e9 (a:Fp p):Int:=vl p (row a)
theorem zk (a:Fp p):0≤e9 a∧e9 a<p^a.len:=by
 have:=Qn (gh a)
 rwa [bp] at this
theorem Ds {a:Fp p} (h:e9 a<18446744073709551616):jx p (e9 a)=a:=Pol.ext fun i=>by
 rw [I7 ⟨(zk a).1,h⟩];have:=Vt (gh a) i;rw [fg] at this;rw [←te,show e9 a/p^i%p=rep (a.c i) from this.symm,ja]
theorem Y1:∀(f:Nat) (n:Int),0≤n→n<2^f→vl p (dgs p f n)=n
 | 0,n,h0,hn=>by
  obtain rfl:n=0:=by simp at hn; omega
  rfl
 | f+1,n,h0,hn=>by
  have hp:=IsP.ge (p:=p);unfold dgs
  split
  ·show (0:Int)=n; omega
  ·have hd:n/p<2^f:=by
    apply gz (by omega)
    have:(2:Int)^(f+1)=2^f*2:=fk _ _;have h2:(2:Int)^f*2≤2^f*p:=ca hp (na (by omega))
    omega
   rw [vl,Y1 f _ (m8 h0 (by omega)) hd]
   exact Int.emod_add_mul_ediv n p
theorem tp {n:Int} (h:z5 n):e9 (jx p n)=n:=by
 unfold e9;rw [Lj h.2,Y1 64 n h.1 (by simpa using h.2)]
theorem Ja {n m:Int} (hn:z5 n) (hm:z5 m) (h:jx p n=jx p m):n=m:=by rw [←tp (p:=p) hn,h,tp hm]
theorem C8 {n:Int} (h:z5 n) {d:Nat} (hd:n<p^d):(jx p n).lt d:=fun i hi=>by
 have hp:=IsP.pos (p:=p);rw [I7 h,nu h.1 (Int.lt_of_lt_of_le hd (kr (by omega) hi)),wa]
theorem Ru (d:Nat):((p.toNat^d:Nat):Int)=p^d:=by
 have hp:=IsP.pos (p:=p);rw [Int.natCast_pow,Int.toNat_of_nonneg (by omega)]
theorem Gl:jx p 0=0:=Pol.ext fun i=>by rw [I7 ⟨by omega,by omega⟩,Int.zero_ediv,wa]; rfl
def xp (q:Fp p) (d:Nat):List (Quo q):=(List.range (p.toNat^d-1)).map fun (n:Nat)=>Quo.mk q (jx p (n+1))
theorem t5 (d:Nat):0<p.toNat^d:=Nat.pow_pos (by have:=IsP.pos (p:=p); omega)
theorem zj {q:Fp p} {d:Nat} (hq:q.len=d+1) (hd:p^d<1000000000000):(xp q d).Nodup:=by
 unfold xp List.Nodup;rw [nv];refine List.Pairwise.imp_of_mem ?_ (List.pairwise_lt_range (n:=p.toNat^d-1));intro a b ha hb hab e;rw [ke] at ha hb;have hc:=Ru (p:=p) d;have hpos:=t5 (p:=p) d;have h1:z5 ((a:Int)+1):=⟨by omega,by omega⟩
 have h2:z5 ((b:Int)+1):=⟨by omega,by omega⟩
 have hq0:q≠0:=fun h0=>by rw [h0,Pol.len_zero] at hq; omega
 have l1:=Pol.len_le (C8 (p:=p) h1 (d:=d) (by omega))
 have l2:=Pol.len_le (C8 (p:=p) h2 (d:=d) (by omega))
 rw [←Pol.mod_eq_iff hq0,Pol.mod_small (by omega),Pol.mod_small (by omega)] at e
 have:=Ja h1 h2 e;omega
theorem E5 {q:Fp p} {d:Nat} (hq:q.len=d+1) (hd:p^d<1000000000000) (x:Quo q):x∈xp q d↔x≠0:=by
 have hc:=Ru (p:=p) d;have hpos:=t5 (p:=p) d;have hq0:q≠0:=fun h0=>by rw [h0,Pol.len_zero] at hq; omega
 constructor
 ·intro h e
  obtain ⟨n,hn,rfl⟩:=cg.1 h;rw [ke] at hn;have h1:z5 ((n:Int)+1):=⟨by omega,by omega⟩
  have l1:=Pol.len_le (C8 (p:=p) h1 (d:=d) (by omega))
  rw [←Quo.mk_zero,←Pol.mod_eq_iff hq0,Pol.mod_small (by omega),Pol.zero_mod hq0,←Gl] at e
  have:=Ja h1 ⟨by omega,by omega⟩ e
  omega
 ·intro h
  obtain ⟨a,rfl⟩:=Quo.ex x;have hl:=Pol.len_mod a hq0;rw [←Pol.mk_mod] at h ⊢;have hin:=zk (a%q);have hle:p^(a%q).len≤p^d:=kr (by have:=IsP.pos (p:=p); omega) (by omega)
  have e:=Ds (a:=a%q) (by omega)
  have hne:e9 (a%q)≠0:=fun h0=>by
   rw [h0,Gl] at e;exact h (by rw [←e,Quo.mk_zero])
  refine cg.2 ⟨(e9 (a%q)).toNat-1,?_,?_⟩
  ·rw [ke]; omega
  ·rw [show (((e9 (a%q)).toNat-1:Nat):Int)+1=e9 (a%q) by omega,e]
theorem a32 {q:Fp p} (hi:Irr q) {d:Nat} (hq:q.len=d+1) (hd:p^d<1000000000000) {x:Quo q} (hx:x≠0):pw x (p.toNat^d-1)=1:=by
 classical
 have h1:(1:Quo q)≠0:=(a2a hi).one_ne;have:=V1 (zj hq hd) (fun x y e=>hi.quo_zero e) h1 (E5 hq hd) hx
 rwa [xp,az,fq] at this
theorem D0 {q:Fp p} (hi:Irr q) {d:Nat} (hq:q.len=d+1) (hd:p^d<1000000000000) (x:Quo q):pw x (p.toNat^d)=x:=by
 have hpos:=t5 (p:=p) d
 by_cases hx:x=0
 ·rw [hx]
  cases hn:p.toNat^d with
  | zero=>omega
  | succ n=>rw [pw,Gq.mul_zero]
 ·have:=a32 hi hq hd hx
  have e:p.toNat^d=(p.toNat^d-1)+1:=by omega
  rw [e,pw,this,Gq.one_mul]
end
section
variable {p:Int}
theorem abt {q:Fp p}:(ic p:Quo q)=0:=by
 have h:∀n:Int,(ic n:Quo q)=Quo.mk q (Pol.C (zp p n)):=by
  have hn:∀n:Nat,(nc n:Quo q)=Quo.mk q (Pol.C (zp p n)):=by
   intro n
   induction n with
   | zero=>show (0:Quo q)=_; rw [show zp p ((0:Nat):Int)=0 from rfl,Pol.C_zero,Quo.mk_zero]
   | succ n ih=>
    rw [nc,ih];have:zp p ((n+1:Nat):Int)=zp p n+1:=rfl;rw [this,Pol.C_add,Quo.mk_add,Pol.C_one,Quo.mk_one]
  intro n;cases n with
  | ofNat n=>exact hn n
  | negSucc n=>
   show -(nc (n+1):Quo q)=_;rw [hn,←Quo.mk_neg,←Pol.C_neg]; rfl
 rw [h];have:zp p p=0:=Eb.2 (by simp)
 rw [this,Pol.C_zero,Quo.mk_zero]
end
section
variable {p:Int} [IsP p]
theorem Jr {q:Fp p} (x y:Quo q):pw (x+y) p.toNat=pw x p.toNat+pw y p.toNat:=by
 have h:=abt (q:=q);rcases (inferInstance:IsP p).h with rfl | rfl | rfl | rfl
 ·have e:pw (x+y) 2=pw x 2+pw y 2+ic 2*(x*y):=by
   show (x+y)^2=x^2+y^2+ic 2*(x*y);exact bf [x,y] rfl
  rw [h,Gq.zero_mul,Gq.add_zero] at e;exact e
 ·have e:pw (x+y) 3=pw x 3+pw y 3+ic 3*(x*x*y+x*y*y):=by
   show (x+y)^3=x^3+y^3+ic 3*(x*x*y+x*y*y);exact bf [x,y] rfl
  rw [h,Gq.zero_mul,Gq.add_zero] at e;exact e
 ·have e:pw (x+y) 5=pw x 5+pw y 5+ic 5*(x^4*y+ic 2*x^3*y^2+ic 2*x^2*y^3+x*y^4):=by
   show (x+y)^5=x^5+y^5+ic 5*(x^4*y+ic 2*x^3*y^2+ic 2*x^2*y^3+x*y^4);exact bf [x,y] rfl
  rw [h,Gq.zero_mul,Gq.add_zero] at e;exact e
 ·have e:pw (x+y) 7=pw x 7+pw y 7+ic 7*(x^6*y+ic 3*x^5*y^2+ic 5*x^4*y^3+ic 5*x^3*y^4+ic 3*x^2*y^5+x*y^6):=by
   show (x+y)^7=x^7+y^7+ic 7*(x^6*y+ic 3*x^5*y^2+ic 5*x^4*y^3+ic 5*x^3*y^4+ic 3*x^2*y^5+x*y^6);exact bf [x,y] rfl
  rw [h,Gq.zero_mul,Gq.add_zero] at e;exact e
theorem Cq (c:Zp p):pw c p.toNat=c:=by
 have h0:=ka c;have e:c=zp p (rep c):=(ja c).symm;generalize rep c=n at *;subst e;rcases (inferInstance:IsP p).h with rfl | rfl | rfl | rfl
 ·have:n=0∨n=1:=by omega
  rcases this with rfl | rfl <;> exact Eb.2 (by decide)
 ·have:n=0∨n=1∨n=2:=by omega
  rcases this with rfl | rfl | rfl <;> exact Eb.2 (by decide)
 ·have:n=0∨n=1∨n=2∨n=3∨n=4:=by omega
  rcases this with rfl | rfl | rfl | rfl | rfl <;> exact Eb.2 (by decide)
 ·have:n=0∨n=1∨n=2∨n=3∨n=4∨n=5∨n=6:=by omega
  rcases this with rfl | rfl | rfl | rfl | rfl | rfl | rfl <;> exact Eb.2 (by decide)
end
end Pe

namespace Pe
open Go Gq
section
variable {p:Int} [IsP p]
theorem Gc {q:Fp p} (x y:Quo q):∀k,pw (x+y) (p.toNat^k)=pw x (p.toNat^k)+pw y (p.toNat^k)
 | 0=>by rw [nk,yu,yu,yu]
 | k+1=>by rw [lc,←sr,Gc x y k,Jr,sr,sr]
theorem Ba (c:Zp p):∀k,pw c (p.toNat^k)=c
 | 0=>by rw [nk,yu]
 | k+1=>by rw [lc,←sr,Ba c k,Cq]
end
section
variable {p:Int}
theorem a2o (c:Zp p):∀n,Pol.C (pw c n)=pw (Pol.C c) n
 | 0=>rfl
 | n+1=>by rw [pw,Pol.C_mul,a2o c n,pw]
end
section
variable {p:Int} [IsP p]
end
section
variable {p:Int}
theorem Rs {P:Fp p→Prop} (h0:P 0) (h:∀c a,P a→P (Pol.C c+Pol.X*a)):∀(n:Nat) (a:Fp p),a.lt n→P a
 | 0,a,ha=>by rw [Pol.lt_zero.1 ha]; exact h0
 | n+1,a,ha=>by
  obtain ⟨m,hm⟩:=a.fin
  let b:Fp p:=⟨fun i=>a.c (i+1),m,fun i hi=>hm _ (by omega)⟩
  have e:a=Pol.C (a.c 0)+Pol.X*b:=Pol.ext fun i=>by
   rw [Pol.c_add,Pol.c_C,Pol.c_Xmul];cases i with
   | zero=>rw [if_pos rfl,if_pos rfl,Gq.add_zero]
   | succ i=>rw [if_neg (by omega),if_neg (by omega),Gq.zero_add]; rfl
  rw [e];exact h _ _ (Rs h0 h n b fun i hi=>ha _ (by omega))
end
section
variable {p:Int} [IsP p]
theorem Xs {q:Fp p} (k:Nat) (h:pw (Quo.mk q Pol.X) (p.toNat^k)=Quo.mk q Pol.X) (x:Quo q):pw x (p.toNat^k)=x:=by
 obtain ⟨a,rfl⟩:=Quo.ex x;refine Rs (P:=fun a=>pw (Quo.mk q a) (p.toNat^k)=Quo.mk q a) ?_ (fun c a ha=>?_) _ a a.lt_len
 ·rw [Quo.mk_zero]
  have:=t5 (p:=p) k;cases hn:p.toNat^k with
  | zero=>omega
  | succ n=>rw [pw,Gq.mul_zero]
 ·rw [Quo.mk_add,Quo.mk_mul,Gc,uq,h,ha]
  congr 1
  rw [←Quo.mk_pow,←a2o,Ba]
theorem Ci {K:Type} [CR K] (m:Nat) (g:Nat→K):∀n,fj (fun i=>(if i=m then 1 else 0)*g i) n=if m<n then g m else 0
 | 0=>by rw [if_neg (by omega)]; rfl
 | n+1=>by
  rw [fj,Ci m g n];rcases fu m n with h | h | h
  ·rw [if_pos h,if_neg (by omega),if_pos (by omega),Gq.zero_mul,Gq.add_zero]
  ·rw [if_neg (by omega),if_pos h.symm,if_pos (by omega),Gq.one_mul,Gq.zero_add,h]
  ·rw [if_neg (by omega),if_neg (by omega),if_neg (by omega),Gq.zero_mul,Gq.add_zero]
noncomputable def frT (p:Int) (k:Nat):Fp p:=pw Pol.X (p.toNat^k)-Pol.X
theorem Xb {q:Fp p} {k:Nat}:Dv q (frT p k)↔pw (Quo.mk q Pol.X) (p.toNat^k)=Quo.mk q Pol.X:=by
 rw [ko,frT,Quo.mk_sub,Quo.mk_pow];exact ⟨fun h=>o4 h,fun h=>by rw [h,sub_self]⟩
theorem Qe {q:Fp p} (hi:Irr q) {d:Nat} (hq:q.len=d+1) (hd:p^d<1000000000000):Dv q (frT p d):=Xb.2 (D0 hi hq hd _)
theorem E8 {q:Fp p} (hi:Irr q) {d k:Nat} (hq:q.len=d+1) (hd:p^d<1000000000000) (hk:0<k) (h:Dv q (frT p k)):d≤k:=by
 classical
 have hfix:=Xs k (Xb.1 h);have hone:(1:Quo q)≠0:=(a2a hi).one_ne;have hP:2≤p.toNat:=by have:=IsP.ge (p:=p); omega
 have hne1:1<p.toNat^k:=Nat.one_lt_pow (by omega) hP
 have r:=Mb (fun x y e=>hi.quo_zero e) (p.toNat^k) (fun i=>(if i=p.toNat^k then (1:Quo q) else 0)-(if i=1 then 1 else 0)) ((0:Quo q)::xp q d)
  (by rw [if_pos rfl,if_neg (by omega),sub_eq,qv,Gq.add_zero]; exact hone)
  (i8.2 ⟨fun h0=>(E5 hq hd 0).1 h0 rfl,zj hq hd⟩)
  (fun y _=>by
   have e:(fun i=>((if i=p.toNat^k then (1:Quo q) else 0)-(if i=1 then 1 else 0))*pw y i)=fun i=>(if i=p.toNat^k then (1:Quo q) else 0)*pw y i+(if i=1 then 1 else 0) * -pw y i:=by
    funext i
    exact bf [(if i=p.toNat^k then (1:Quo q) else 0),(if i=1 then (1:Quo q) else 0),pw y i] rfl
   rw [e,Cp,Ci,Ci _ (fun i=>-pw y i),if_pos (by omega),if_pos (by omega),hfix,yu,add_neg])
 have hl:(xp q d).length=p.toNat^d-1:=by unfold xp; rw [az,fq]
 have hpos:=t5 (p:=p) d;rw [b4,hl] at r;have:p.toNat^d≤p.toNat^k:=by omega
 exact (Nat.pow_le_pow_iff_right (by omega)).1 this
end
end Pe

namespace Pe
open Go Gq
section
variable {p:Int} [IsP p]
theorem Hk:∀{l m:List Int},Can p l→Can p m→l.length<m.length→cf m (m.length-1)≠0→vl p l<vl p m
 | l,[],_,_,h,_=>by simp at h
 | l,d::m,hl,hm,h,hc=>by
  have hp:=IsP.pos (p:=p);have hd:=hm d (by simp)
  have hmc:Can p m:=fun x hx=>hm x (by simp [hx])
  cases l with
  | nil=>
   show 0<d+p*vl p m;have h2:=(Qn hmc).1;cases m with
   | nil=>
    have:d≠0:=hc;simp [vl]; omega
   | cons e m=>
    have h3:cf (e::m) ((e::m).length-1)≠0:=by simpa [cf] using hc
    have:=Hk (l:=[]) (m:=e::m) (fun x hx=>by simp at hx) hmc (by simp) h3
    have h5:0<p*vl p (e::m):=Int.mul_pos hp (by simpa [vl] using this)
    omega
  | cons c l=>
   have hlc:Can p l:=fun x hx=>hl x (by simp [hx])
   have hcc:=hl c (by simp)
   have h3:cf m (m.length-1)≠0:=by
    cases m with
    | nil=>simp at h
    | cons e m=>simpa [cf] using hc
   have:=Hk hlc hmc (by simpa using h) h3
   have h5:p*(vl p l+1)≤p*vl p m:=ca (by omega) (by omega)
   rw [pe,mu] at h5;show c+p*vl p l<d+p*vl p m;omega
end
section
variable {p:Int}
theorem Wm {a:Fp p} (h:a≠0):cf (row a) ((row a).length-1)≠0:=by
 rw [bp,fg];exact fun h0=>Pol.ld_ne h (gv.1 h0)
end
section
variable {p:Int} [IsP p]
theorem qd {a b:Fp p} (h:a.len<b.len):e9 a<e9 b:=Hk (gh a) (gh b) (by simpa using h) (Wm fun h0=>by rw [h0,Pol.len_zero] at h; omega)
theorem Uc:∀{l m:List Int},Can p l→Can p m→l.length=m.length→vl p l=vl p m→l=m
 | [],[],_,_,_,_=>rfl
 | [],_::_,_,_,h,_=>by simp at h
 | _::_,[],_,_,h,_=>by simp at h
 | c::l,d::m,hl,hm,h,e=>by
  have hp:=IsP.pos (p:=p);have hcc:=hl c (by simp)
  have hd:=hm d (by simp)
  have e2:c+p*vl p l=d+p*vl p m:=e
  have e3:c=d:=by
   have:=congrArg (· % p) e2
   simp only [kg] at this
   rwa [ia hcc.1 hcc.2,ia hd.1 hd.2] at this
  subst e3;have e4:p*vl p l=p*vl p m:=by omega
  rw [Uc (l:=l) (m:=m) (fun x hx=>hl x (by simp [hx])) (fun x hx=>hm x (by simp [hx])) (by simpa using h) (Int.eq_of_mul_eq_mul_left (by omega) e4)]
theorem Ew {a b:Fp p} (h:e9 a=e9 b):a=b:=by
 rcases fu a.len b.len with h1 | h1 | h1
 ·have:=qd h1; omega
 ·exact a0b (Uc (gh a) (gh b) (by simpa using h1) h)
 ·have:=qd h1; omega
abbrev jf (p:Int):=List (Fp p×Nat)
noncomputable def iq (L:jf p):Fp p:=lj (L.map fun x=>pw x.1 x.2)
structure FacOk (L:jf p):Prop where
 irr:∀x∈L,Irr x.1∧Monic x.1∧1≤x.2
 dis:L.Pairwise fun x y=>x.1≠y.1
structure IsFac (a:Fp p) (L:jf p):Prop where
 ok:FacOk L
 sorted:L.Pairwise fun x y=>e9 x.1<e9 y.1
 eq:a=Pol.C a.ld*iq L
end
section
variable {p:Int}
theorem og (x:Fp p×Nat) (L:jf p):iq (x::L)=pw x.1 x.2*iq L:=rfl
end
section
variable {p:Int} [IsP p]
theorem Monic.pw {a:Fp p} (h:Monic a):∀n,Monic (pw a n)
 | 0=>Monic.one
 | n+1=>(Monic.pw h n).mul h
theorem uu {L:jf p} (h:FacOk L):Monic (iq L):=by
 induction L with
 | nil=>exact Monic.one
 | cons x L ih=>
  rw [og];exact (Monic.pw (h.irr x (by simp)).2.1 _).mul (ih ⟨fun y hy=>h.irr y (by simp [hy]),(dk.1 h.dis).2⟩)
theorem Irr.pw_dv {q a:Fp p} (h:Irr q):∀n,Dv q (pw a n)→Dv q a
 | 0,hd=>by
  have h1:q.len≤(1:Fp p).len:=hd.len Pol.one_ne;have h2:=h.len;rw [Pol.len_one] at h1; omega
 | n+1,hd=>(h.prime hd).elim (Irr.pw_dv h n) id
theorem Hi {q:Fp p} (hq:Irr q) (mq:Monic q):∀{L:jf p},FacOk L→Dv q (iq L)→∃k,(q,k)∈L
 | [],_,h=>by
  have h1:q.len≤(1:Fp p).len:=h.len Pol.one_ne;have h2:=hq.len;rw [Pol.len_one] at h1; omega
 | x::L,ok,h=>by
  rw [og] at h;rcases hq.prime h with h1 | h1
  ·have h2:=Irr.pw_dv hq _ h1
   obtain ⟨i1,i2,_⟩:=ok.irr x (by simp)
   have:=hq.eq_of_dv i1 mq i2 h2;exact ⟨x.2,by rw [this]; simp⟩
  ·obtain ⟨k,hk⟩:=Hi hq mq ⟨fun y hy=>ok.irr y (by simp [hy]),(dk.1 ok.dis).2⟩ h1
   exact ⟨k,by simp [hk]⟩
theorem wh {q:Fp p} {k:Nat}:∀{L:jf p},FacOk L→(q,k)∈L→∃r,iq L=pw q k*r∧¬ Dv q r
 | x::L,ok,h=>by
  have ok':FacOk L:=⟨fun y hy=>ok.irr y (by simp [hy]),(dk.1 ok.dis).2⟩
  rw [og];rcases d9.1 h with rfl | h
  ·refine ⟨iq L,rfl,fun hd=>?_⟩
   obtain ⟨i1,i2,_⟩:=ok.irr (q,k) (by simp)
   obtain ⟨k',hk⟩:=Hi i1 i2 ok' hd;exact (dk.1 ok.dis).1 _ hk rfl
  ·obtain ⟨r,e,hn⟩:=wh ok' h
   refine ⟨pw x.1 x.2*r,by rw [e,Gq.mul_left_comm],fun hd=>?_⟩
   obtain ⟨i1,i2,_⟩:=ok.irr (q,k) (by simp [h])
   obtain ⟨j1,j2,_⟩:=ok.irr x (by simp)
   rcases i1.prime hd with h1 | h1
   ·have h2:=Irr.pw_dv i1 _ h1
    have e:=i1.eq_of_dv j1 i2 j2 h2;exact (dk.1 ok.dis).1 _ h e.symm
   ·exact hn h1
theorem De {a:Fp p} (h:a≠0):∀n,pw a n≠0
 | 0=>Pol.one_ne
 | n+1=>Pol.mul_ne (De h n) h
theorem Hq {a:Fp p} (ha:a≠0) {L:jf p} (ok:FacOk L) (e:a=Pol.C a.ld*iq L) (q:Fp p) (k:Nat):(q,k)∈L↔Irr q∧Monic q∧1≤k∧Dv (pw q k) a∧¬ Dv (pw q (k+1)) a:=by
 have hld:=Pol.ld_ne ha
 have dvP:∀c,Dv c a↔Dv c (iq L):=fun c=>by
  constructor
  ·rintro ⟨x,hx⟩
   refine ⟨Pol.C (Fd.inv a.ld)*x,?_⟩
   have:iq L=Pol.C (Fd.inv a.ld)*a:=by
    rw [e];have e2:(Pol.C a.ld*iq L).ld=a.ld:=by rw [←e]
    rw [e2,←Gq.mul_assoc,Gq.mul_comm (Pol.C (Fd.inv _)),Uz hld,Gq.one_mul]
   rw [this];generalize Pol.C (Fd.inv a.ld)=k;rw [hx];exact bf [k,c,x] rfl
  ·intro h
   rw [e]; exact h.mul_left _
 constructor
 ·intro h
  obtain ⟨i1,i2,i3⟩:=ok.irr (q,k) h;obtain ⟨r,e2,hn⟩:=wh ok h;refine ⟨i1,i2,i3,(dvP _).2 ⟨r,e2⟩,fun hd=>hn ?_⟩
  obtain ⟨y,hy⟩:=(dvP _).1 hd;rw [e2,pw,Gq.mul_assoc] at hy;exact ⟨y,Pol.mul_cancel (De i1.ne k) hy⟩
 ·rintro ⟨i1,i2,i3,h1,h2⟩
  have hq:Dv q a:=by
   obtain ⟨k,rfl⟩:∃j,k=j+1:=⟨k-1,by omega⟩
   exact Dv.trans ⟨pw q k,Gq.mul_comm _ _⟩ h1
  obtain ⟨k',hk'⟩:=Hi i1 i2 ok ((dvP _).1 hq);obtain ⟨r,e2,hn⟩:=wh ok hk'
  have:k=k':=by
   rcases fu k k' with h | h | h
   ·exfalso
    apply h2;rw [dvP,e2];obtain ⟨j,rfl⟩:=f8 (show k+1≤k' from h);rw [Ah q (k+1) j];exact ((Dv.refl _).mul_right _).mul_right _
   ·exact h
   ·exfalso
    apply hn;obtain ⟨y,hy⟩:=(dvP _).1 h1;obtain ⟨j,rfl⟩:=f8 (show k'+1≤k from h);rw [e2,Ah,pw,Gq.mul_assoc,Gq.mul_assoc] at hy;exact ⟨_,Pol.mul_cancel (De i1.ne k') hy⟩
  rw [this]; exact hk'
theorem G0 {α:Type} (f:α→Int):∀{l m:List α},l.Pairwise (fun x y=>f x<f y)→m.Pairwise (fun x y=>f x<f y)→(∀x,x∈l↔x∈m)→l=m
 | [],[],_,_,_=>rfl
 | [],y::m,_,_,h=>by have:=(h y).2 (by simp); simp at this
 | x::l,[],_,_,h=>by have:=(h x).1 (by simp); simp at this
 | x::l,y::m,hl,hm,h=>by
  obtain ⟨l1,l2⟩:=dk.1 hl;obtain ⟨m1,m2⟩:=dk.1 hm
  have e:x=y:=by
   rcases d9.1 ((h x).1 (by simp)) with h1 | h1
   ·exact h1
   ·rcases d9.1 ((h y).2 (by simp)) with h2 | h2
    ·exact h2.symm
    ·have:=m1 _ h1
     have:=l1 _ h2;omega
  subst e;rw [G0 f l2 m2 fun z=>?_]
  constructor
  ·intro hz
   rcases d9.1 ((h z).1 (by simp [hz])) with h1 | h1
   ·subst h1; have:=l1 _ hz; omega
   ·exact h1
  ·intro hz
   rcases d9.1 ((h z).2 (by simp [hz])) with h1 | h1
   ·subst h1; have:=m1 _ hz; omega
   ·exact h1
theorem IsFac.unique {a:Fp p} (ha:a≠0) {L L':jf p} (h:IsFac a L) (h':IsFac a L'):L=L':=
 G0 (fun x=>e9 x.1) h.sorted h'.sorted fun x=>by
  obtain ⟨q,k⟩:=x;rw [Hq ha h.ok h.eq,Hq ha h'.ok h'.eq]
def wk (n:Nat) (a:Fp p):Prop:=∀q,Irr q→Dv q a→n+1≤q.len
theorem vg {a:Fp p} {n:Nat} (h:wk n a) (hl:2≤a.len) (hs:a.len<2*n+1):Irr a:=by
 refine Irr.of_dv hl fun u hu=>?_
 have ha:a≠0:=fun h0=>by rw [h0,Pol.len_zero] at hl; omega
 obtain ⟨v,rfl⟩:=hu;have hu0:u≠0:=fun h0=>ha (by rw [h0,Gq.zero_mul])
 have hv0:v≠0:=fun h0=>ha (by rw [h0,Gq.mul_zero])
 have l:=Pol.len_mul hu0 hv0;have l1:=Pol.len_pos hu0;have l2:=Pol.len_pos hv0;apply dc;intro hx;have hu2:2≤u.len:=by omega
 have hv2:2≤v.len:=by omega
 obtain ⟨q,q1,_,q2⟩:=A4 u.len u (b9 _) hu2;obtain ⟨r,r1,_,r2⟩:=A4 v.len v (b9 _) hv2;have s1:=h q q1 (q2.mul_right v);have s2:=h r r1 (r2.mul_left u);have s3:=q2.len hu0;have s4:=r2.len hv0;omega
theorem Jo (a:Fp p):wk 1 a:=fun _q h _=>h.len
theorem Nr {a b:Fp p} {n:Nat} (h:wk n a) (hd:Dv b a):wk n b:=fun q hq hb=>h q hq (hb.trans hd)
end
end Pe

namespace Pe
open Go Gq
variable {T:Nat→Option Fn} {A:ah}
def wt (O:ah) (F:Nat):Prop:=∀x:Int,ask O F [(D.int .i64 x)]=some (D.bool false)
theorem Yr (hT:T F2=some Z2):wt (den T A) F2:=fun x=>by
 refine bu hT rfl ?_;simp -implicitDefEqProofs [Z2,Z2_B]
theorem Tk (hT:T F3=some Z3):wt (den T A) F3:=fun x=>by
 refine bu hT rfl ?_;simp -implicitDefEqProofs [Z3,Z3_B]
def ll (x y:Int):Int:=if x<y then -1 else if y<x then 1 else 0
def me (O:ah) (F:Nat):Prop:=∀x y:Int,ask O F [(D.int .i64 x),(D.int .i64 y)]=some (D.int .i64 (ll x y))
theorem Ob (hT:T F0=some Z0) (h:wt (den T A) F2):me (den T A) F0:=fun x y=>by
 have e1:=h x;have e2:=h y;refine bu hT rfl ?_;unfold ll
 by_cases h1:x<y
 ·simp -implicitDefEqProofs [Z0,Z0_B,e1,e2,h1,ao]
 ·by_cases h2:y<x
  ·simp -implicitDefEqProofs [Z0,Z0_B,e1,e2,h1,h2,ao]
  ·simp -implicitDefEqProofs [Z0,Z0_B,e1,e2,h1,h2,ao]
theorem Iv (hT:T F1=some Z1) (h:wt (den T A) F3):me (den T A) F1:=fun x y=>by
 have e1:=h x;have e2:=h y;refine bu hT rfl ?_;unfold ll
 by_cases h1:x<y
 ·simp -implicitDefEqProofs [Z1,Z1_B,e1,e2,h1,ao]
 ·by_cases h2:y<x
  ·simp -implicitDefEqProofs [Z1,Z1_B,e1,e2,h1,h2,ao]
  ·simp -implicitDefEqProofs [Z1,Z1_B,e1,e2,h1,h2,ao]
def Al (l m:List Int):Nat→Int
 | 0=>0
 | n+1=>if ll (cf l n) (cf m n)≠0 then ll (cf l n) (cf m n) else Al l m n
theorem H4 {O:ah} (hc:me O F1) {l m:List Int} (hlm:l.length=m.length) (hl:l.length<1000000):∀n:Nat,n≤l.length →
 dn O 0 (.loop Zb_L0) ⟨[(0,(.d (.sl .leaf (am .i64 l)))),(1,(.d (.sl .leaf (am .i64 m)))),(6,(.d (.int .i64 ((n:Int)-1))))],[]⟩ =
  if Al l m n=0 then some (.exit 0,⟨[(0,(.d (.sl .leaf (am .i64 l)))),(1,(.d (.sl .leaf (am .i64 m)))),(6,(.d (.int .i64 (-1)))),(20,(.d (.bool false)))],[]⟩) else some (.ret,⟨[(4,(.d (.int .i64 (Al l m n))))],[]⟩)
 | 0,hn=>by
  simp only [Al,if_true];exact bv (by simp -implicitDefEqProofs [Zb_L0,ao])
 | n+1,hn=>by
  have t0:(((n+1:Nat):Int)-1)=(n:Int):=by omega
  rw [t0];have h1:n<l.length:=by omega
  have h2:n<m.length:=by omega
  have e1:l[n]? = some (cf l n):=by rw [ac h1,e8 h1]
  have e2:m[n]? = some (cf m n):=by rw [ac h2,e8 h2]
  have e1':l[n]=cf l n:=(e8 h1).symm;have e2':m[n]=cf m n:=(e8 h2).symm;have e3:=hc (cf l n) (cf m n);have w1:IntKind.i64.wrap ((n:Int)-1)=(n:Int)-1:=w64 (by omega)
  by_cases h0:ll (cf l n) (cf m n)=0
  ·rw [h0] at e3
   have e:Al l m (n+1)=Al l m n:=if_neg (fun h=>h h0)
   rw [e];refine bq ?_ (H4 hc hlm hl n (by omega))
   simp -implicitDefEqProofs [Zb_L0,ao,h1,h2,e1',e2',e3,w1]
  ·have e:Al l m (n+1)=ll (cf l n) (cf m n):=if_pos h0
   rw [e,if_neg h0];refine oo ?_;simp -implicitDefEqProofs [Zb_L0,ao,h1,h2,e1',e2',e3,h0]
def a0u (l m:List Int):Int:=if ll l.length m.length≠0 then ll l.length m.length else Al l m l.length
def vr (O:ah):Prop:=∀l m:List Int,l.length<1000000→m.length<1000000→ask O Fb [(D.sl .leaf (am .i64 l)),(D.sl .leaf (am .i64 m))]=some (D.int .i64 (a0u l m))
theorem Rz (hT:T Fb=some Zb) (h1:me (den T A) F0) (h2:me (den T A) F1):vr (den T A):=by
 intro l m hl hm;have e1:=h1 l.length m.length;unfold a0u;refine bu hT rfl ?_
 by_cases h0:ll l.length m.length=0
 ·have hlm:l.length=m.length:=by
   unfold ll at h0
   split at h0
   ·omega
   ·split at h0 <;> omega
  rw [if_neg (fun h=>h h0)]
  rw [h0] at e1;have e2:=H4 h2 hlm hl l.length (b9 _);have w1:IntKind.i64.wrap ((l.length:Int)-1)=(l.length:Int)-1:=w64 (by omega)
  by_cases hz:Al l m l.length=0
  ·rw [if_pos hz] at e2
   simp -implicitDefEqProofs [Zb,Zb_B,ao,e1,e2,w1,hz]
  ·rw [if_neg hz] at e2
   simp -implicitDefEqProofs [Zb,Zb_B,ao,e1,e2,w1]
 ·rw [if_pos h0]
  simp -implicitDefEqProofs [Zb,Zb_B,ao,e1,h0]
section
variable (f:D→Int)
def xf:List D→D→List D→List D
 | [],x,R=>x::R
 | y::L,x,R=>if f x<f y then xf L x (y::R) else (y::L).reverse++x::R
def Er:List D→List D→List D
 | P,[]=>P
 | P,x::r=>Er (xf f P.reverse x []) r
theorem Md:∀(L:List D) (x:D) (R S:List D),xf f L x (R++S)=xf f L x R++S
 | [],x,R,S=>rfl
 | y::L,x,R,S=>by
  unfold xf
  split
  ·rw [←c7,Md L x (y::R) S]
  ·simp
theorem vv:∀(L:List D) (x:D) (R:List D),(xf f L x R).Perm (x::(L.reverse++R))
 | [],x,R=>.refl _
 | y::L,x,R=>by
  unfold xf
  split
  ·refine (vv L x (y::R)).trans ?_
   simp
  ·exact List.perm_middle
theorem Vn (L:List D) (x:D) (R:List D):(xf f L x R).length=L.length+R.length+1:=by
 have:=(vv f L x R).length_eq
 simpa using this
def Asc (l:List D):Prop:=l.Pairwise fun x y=>f x≤f y
theorem L7:∀(L:List D) (x:D) (R:List D),Asc f (L.reverse++R)→(∀y∈R,f x≤f y)→Asc f (xf f L x R)
 | [],x,R,h,hx=>by
  unfold xf Asc;refine dk.2 ⟨hx,?_⟩;have h':Asc f R:=by simpa using h
  exact h'
 | y::L,x,R,h,hx=>by
  unfold xf
  split
  ·rename_i hlt
   refine L7 L x (y::R) (by simpa using h) fun z hz=>?_
   rcases d9.1 hz with rfl | hz
   ·omega
   ·exact hx z hz
  ·rename_i hlt
   unfold Asc at h ⊢;rw [fo] at h ⊢;refine ⟨h.1,dk.2 ⟨hx,h.2.1⟩,fun a ha b hb=>?_⟩
   rcases d9.1 hb with rfl | hb
   ·have hay:f a≤f y:=by
     have h1:=h.1;rw [List.reverse_cons,fo] at h1;rw [List.reverse_cons] at ha;rcases b7.1 ha with ha | ha
     ·exact h1.2.2 a ha y (by simp)
     ·simp at ha; rw [ha]; exact vp _
    omega
   ·exact h.2.2 a ha b hb
theorem H2:∀(r P:List D),(Er f P r).Perm (P++r)
 | [],P=>by simp [Er]
 | x::r,P=>by
  unfold Er;refine (H2 r _).trans ?_;have:=vv f P.reverse x [];refine (List.Perm.append_right r this).trans ?_;simp;exact List.perm_middle.symm
theorem Lz:∀(r P:List D),Asc f P→Asc f (Er f P r)
 | [],P,h=>h
 | x::r,P,h=>by
  unfold Er;exact Lz r _ (L7 f P.reverse x [] (by simpa using h) (by simp))
end
section
variable {O:ah} {g:Nat} {first caps:List D}
abbrev im:Sh:=.st [.leaf,.leaf]
structure CmpOk (O:ah) (g:Nat) (first caps:List D) (f:D→Int) (s:Sh) (cs:List D):Prop where
 nf:ue first
 nc:ue caps
 nx:ue cs
 sh:B6 s cs
 ask:∀x∈cs,∀y∈cs,ask O g (first++[x,y]++caps)=some (D.int .i64 (ll (f x) (f y)))
theorem CmpOk.perm {f:D→Int} {s:Sh} {cs ds:List D} (h:CmpOk O g first caps f s cs) (p:ds.Perm cs):CmpOk O g first caps f s ds:=
 ⟨h.nf,h.nc,fun x hx=>h.nx x (p.subset hx),fun x hx=>h.sh x (p.subset hx),fun x hx y hy=>h.ask x (p.subset hx) y (p.subset hy)⟩
theorem CmpOk.call {f:D→Int} {s:Sh} {cs:List D} (h:CmpOk O g first caps f s cs) {hp:Heap} {np:Nat} {news:List Nat} {x y:D} (hx:x∈cs) (hy:y∈cs) :
 za O np hp .flat news (g,first.map .d,caps.map .d) [.d x,.d y]=some (.d (D.int .i64 (ll (f x) (f y))),hp):=by
 have e:ku hp (first.map .d++[.d x,.d y]++caps.map .d)=some (first++[x,y]++caps):=
  rh hp (rh hp (jr hp h.nf) (jr hp (ds:=[x,y]) (by intro z hz; simp at hz; rcases hz with rfl | rfl; exact h.nx _ hx; exact h.nx _ hy))) (jr hp h.nc)
 rw [yh,e,aa,Cr,h.ask x hx y hy,aa,A3,show (D.int IntKind.i64 (ll (f x) (f y))).flat=true from rfl,if_pos rfl]
theorem Jn (x y:Int):ll x y<0↔x<y:=by
 unfold ll
 split
 ·omega
 ·split <;> omega
theorem Wr {f:D→Int} {n:Nat} {cp:Option Nat} (hn:n≤1000) {i:Nat}:∀(L:List D) (x:D) (R:List D),(L.reverse++x::R).length=n→CmpOk O g first caps f im (L.reverse++x::R)→∃j:Int,
 dn O 1 (.loop Z21_L0) ⟨[(0,.sl 0 [] 0 n cp),(1,(.d (.int .i64 0))),(2,(.d (.int .i64 n))),(3,.d (.fn g first caps)),(8,(.d (.int .i64 i))),(9,(.d (.int .i64 L.length)))],[.sl false im (L.reverse++x::R)]⟩ =
  some (.exit 2,⟨[(0,.sl 0 [] 0 n cp),(1,(.d (.int .i64 0))),(2,(.d (.int .i64 n))),(3,.d (.fn g first caps)),(8,(.d (.int .i64 i))),(9,(.d (.int .i64 j))),(34,(.d (.bool false)))],[.sl false im (xf f L x R)]⟩)
 | [],x,R,hl,ok=>by
  refine ⟨0,bv ?_⟩;simp -implicitDefEqProofs [Z21_L0,ao,xf]
 | y::L,x,R,hl,ok=>by
  have hj:(y::L).length=L.length+1:=rfl;have hlen:((y::L).reverse++x::R).length=L.length+1+(R.length+1):=by simp; omega
  have e1:((y::L).reverse++x::R)[L.length+1]? = some x:=by
   rw [b6 (by simp)]; simp
  have e2:((y::L).reverse++x::R)[L.length]? = some y:=by
   rw [b8 (by simp)]; simp
  have m1:x∈(y::L).reverse++x::R:=by simp
  have m2:y∈(y::L).reverse++x::R:=by simp
  have c:=ok.call (hp:=[.sl false im ((y::L).reverse++x::R)]) (np:=1) (news:=[]) m1 m2;have s1:=ok.sh x m1;have s2:=ok.sh y m2;have n1:=ok.nx x m1;have n2:=ok.nx y m2
  have e3:(((y::L).reverse++x::R).set (L.length+1) y).set L.length x=L.reverse++x::y::R:=by
   rw [List.set_append_right _ _ (by simp),List.set_append_left _ _ (by simp)]
   simp
  have hp:((y::L).reverse++x::R).Perm (L.reverse++x::y::R):=by
   simp;exact (List.Perm.swap x y R).append_left _
  have w1:IntKind.i64.wrap (L.length:Int)=L.length:=w64 (by omega)
  have h0:(0:Int)<(L.length:Int)+1:=by omega
  have h00:(0:Int)≤(L.length:Int)+1:=by omega
  have h1:L.length+1<n:=by omega
  have h2:L.length<n:=by omega
  have h3:L.length<((y::L).reverse++x::R).length:=by omega
  have h4:L.length+1<((y::L).reverse++x::R).length:=by omega
  have e4:(((y::L).reverse++x::R).set (L.length+1) y)[L.length]? = some y:=by
   rw [av (by omega),e2]
  unfold xf;rw [hj,show ((L.length+1:Nat):Int)=(L.length:Int)+1 by omega]
  generalize (y::L).reverse++x::R=cs at *;have e1':cs[L.length+1]=x:=by rw [ac h4] at e1; exact al e1
  have e2':cs[L.length]=y:=by rw [ac h3] at e2; exact al e2
  by_cases hlt:f x<f y
  ·rw [if_pos hlt]
   obtain ⟨j,e⟩:=Wr hn L x (y::R) (by rw [←hp.length_eq]; omega) (ok.perm hp.symm)
   have hc:=(Jn (f x) (f y)).2 hlt;refine ⟨j,bq ?_ e⟩;simp -implicitDefEqProofs [Z21_L0,ao,h0,h00,h1,h2,h3,h4,e1',e2',c,s1,s2,n1,n2,w1,hc,e3]
  ·rw [if_neg hlt]
   have hc:=mt (Jn (f x) (f y)).1 hlt;refine ⟨(L.length:Int)+1,bv ?_⟩;simp -implicitDefEqProofs [Z21_L0,ao,h0,h00,h1,h2,h3,h4,e1',e2',c,s1,s2,w1,hc]
end
theorem W8 {O:ah} {g:Nat} {first caps:List D} {f:D→Int} {n:Nat} {cp:Option Nat} (hn:n≤1000):∀(r P:List D),P.length+r.length=n→0<P.length→CmpOk O g first caps f im (P++r) →
 dn O 1 (.loop Z21_L1) ⟨[(0,.sl 0 [] 0 n cp),(1,(.d (.int .i64 0))),(2,(.d (.int .i64 n))),(3,.d (.fn g first caps)),(8,(.d (.int .i64 P.length)))],[.sl false im (P++r)]⟩ =
  some (.exit 0,⟨[(0,.sl 0 [] 0 n cp),(1,(.d (.int .i64 0))),(2,(.d (.int .i64 n))),(3,.d (.fn g first caps)),(8,(.d (.int .i64 n))),(14,(.d (.bool false)))],[.sl false im (Er f P r)]⟩)
 | [],P,hl,hP,ok=>by
  have hl':P.length=n:=by simpa using hl
  refine bv ?_;simp -implicitDefEqProofs [Z21_L1,ao,Er,hl']
 | x::r,P,hl,hP,ok=>by
  simp at hl;have e0:P.reverse.reverse++x::r=P++x::r:=by simp
  obtain ⟨j,e⟩:=Wr (O:=O) (g:=g) (first:=first) (caps:=caps) (f:=f) (n:=n) (cp:=cp) hn (i:=P.length) P.reverse x r (by simp; omega) (by rw [e0]; exact ok)
  rw [e0,List.length_reverse,←c6 r,Md,c6] at e;have hlen:=Vn f P.reverse x [];rw [List.length_reverse,bh,cz] at hlen
  have hperm:(xf f P.reverse x []++r).Perm (P++x::r):=by
   refine (List.Perm.append_right r (vv f P.reverse x [])).trans ?_;simp;exact List.perm_middle.symm
  have ih:=W8 (O:=O) (g:=g) (first:=first) (caps:=caps) (f:=f) (cp:=cp) hn r (xf f P.reverse x []) (by rw [hlen]; omega) (by omega) (ok.perm hperm)
  have hlt:P.length<n:=by omega
  have w1:IntKind.i64.wrap ((P.length:Int)+1)=((P.length+1:Nat):Int):=(w64 (x:=(P.length:Int)+1) (by omega)).trans (by omega)
  rw [hlen] at ih;unfold Er;refine bq ?_ ih;simp -implicitDefEqProofs [Z21_L1,ao,hlt,e,w1]
def a3z (O:ah) (F:Nat) (args:V→List V→List V):Prop:=∀(g:Nat) (first caps:List D) (f:D→Int) (cs:List D) (cp:Option Nat),cs.length≤12→CmpOk O g first caps f im cs →
 ∃ds:List D,ds.Perm cs∧Asc f ds∧O F (args (.sl 0 [] 0 cs.length cp) [(.d (.int .i64 cs.length)),.d (.fn g first caps)]) [.sl false im cs]=some (.tup [],[.sl false im ds],[])
def rr (O:ah):Prop:=a3z O F21 fun s l=>[s,(.d (.int .i64 0))]++l
theorem Mf (hT:T F21=some Z21):rr (den T A):=by
 intro g first caps f cs cp hl ok;cases cs with
 | nil=>
  refine ⟨[],.refl _,List.Pairwise.nil,t7 hT rfl ?_⟩;have st:=bv (O:=den T A) (np:=1) (c:=Z21_L1) (s:=⟨[(0,.sl 0 [] 0 0 cp),(1,(.d (.int .i64 0))),(2,(.d (.int .i64 0))),(3,.d (.fn g first caps)),(8,(.d (.int .i64 1)))],[.sl false im []]⟩) (s1:=⟨[(0,.sl 0 [] 0 0 cp),(1,(.d (.int .i64 0))),(2,(.d (.int .i64 0))),(3,.d (.fn g first caps)),(8,(.d (.int .i64 1))),(14,(.d (.bool false)))],[.sl false im []]⟩) (id:=0) (by simp -implicitDefEqProofs [Z21_L1,ao])
  have w1:IntKind.i64.wrap 1=1:=w64 (by omega)
  simp -implicitDefEqProofs [Z21,Z21_B,st,w1]
 | cons x r=>
  have e:=W8 (O:=den T A) (g:=g) (first:=first) (caps:=caps) (f:=f) (n:=(x::r).length) (cp:=cp) (by omega) r [x] (by simp; omega) (by simp) ok
  have e1:(([x]:List D).length:Int)=1:=rfl;rw [e1] at e;refine ⟨Er f [x] r,H2 f r [x],Lz f r [x] (ec _ _),t7 hT rfl ?_⟩;have w1:IntKind.i64.wrap 1=1:=w64 (by omega)
  rw [List.singleton_append] at e;generalize x::r=cs at *;simp -implicitDefEqProofs [Z21,Z21_B,e,w1]
def ww (O:ah) (F:Nat):Prop:=∀n:Nat,n≤12→∃v:Int,ask O F [.int .u64 n]=some (D.int .i64 v)
theorem a1e (hT:T F1r=some Z1r):ww (den T A) F1r:=by
 intro n hn
 have key:∀v:Int,run (fun _ _ _=>none) 1 Z1r [.d (.int .u64 n)] []=some ((.d (.int .i64 v)),[],[])→ask (den T A) F1r [.int .u64 n]=some (D.int .i64 v):=by
  intro v h
  have h2:=J0 (A:=A) hT (n:=1) (vs:=[.d (.int .u64 n)]) (bs:=[]) (ans:=((.d (.int .i64 v)),[],[])) (by
   obtain ⟨qs,h3,h4⟩:=x7 h;cases qs with
   | nil=>exact h4 _ (by intro q hq; simp at hq)
   | cons q qs=>exact absurd (h3 q (by simp)) (by simp))
  unfold ask;rw [show ([D.int .u64 n]:List D).map V.d=[.d (.int .u64 n)] from rfl,h2];rfl
 have h:n=0∨n=1∨n=2∨n=3∨n=4∨n=5∨n=6∨n=7∨n=8∨n=9∨n=10∨n=11∨n=12:=by omega
 rcases h with rfl | rfl | rfl | rfl | rfl | rfl | rfl | rfl | rfl | rfl | rfl | rfl | rfl
 ·exact ⟨0,key 0 (by kernel_rfl)⟩
 ·exact ⟨1,key 1 (by kernel_rfl)⟩
 ·exact ⟨2,key 2 (by kernel_rfl)⟩
 ·exact ⟨2,key 2 (by kernel_rfl)⟩
 ·exact ⟨3,key 3 (by kernel_rfl)⟩
 ·exact ⟨3,key 3 (by kernel_rfl)⟩
 ·exact ⟨3,key 3 (by kernel_rfl)⟩
 ·exact ⟨3,key 3 (by kernel_rfl)⟩
 ·exact ⟨4,key 4 (by kernel_rfl)⟩
 ·exact ⟨4,key 4 (by kernel_rfl)⟩
 ·exact ⟨4,key 4 (by kernel_rfl)⟩
 ·exact ⟨4,key 4 (by kernel_rfl)⟩
 ·exact ⟨4,key 4 (by kernel_rfl)⟩
theorem a86 (hT:T F1p=some Z1p) (h:ww (den T A) F1r):ww (den T A) F1p:=by
 intro n hn;obtain ⟨v,e⟩:=h n hn;refine ⟨v,bu hT rfl ?_⟩;simp -implicitDefEqProofs [Z1p,Z1p_B,ao,e]
theorem a69 (hT:T F29=some Z29) (hi:rr (den T A)):∀(g:Nat) (first caps:List D) (f:D→Int) (cs:List D) (cp:Option Nat) (v:Int),cs.length≤12→CmpOk (den T A) g first caps f im cs →
 ∃ds:List D,ds.Perm cs∧Asc f ds∧den T A F29 [.sl 0 [] 0 cs.length cp,(.d (.int .i64 0)),(.d (.int .i64 cs.length)),(.d (.int .i64 v)),.d (.fn g first caps)] [.sl false im cs]=some (.tup [],[.sl false im ds],[]):=by
 intro g first caps f cs cp v hl ok;obtain ⟨ds,h1,h2,e⟩:=hi g first caps f cs cp hl ok;refine ⟨ds,h1,h2,t7 hT rfl ?_⟩;have w1:IntKind.i64.wrap (cs.length:Int)=cs.length:=w64 (by omega)
 have h12:(cs.length:Int)≤12:=by omega
 have lp:=oo (O:=den T A) (np:=1) (c:=Z29_L0) (s:=⟨[(0,.sl 0 [] 0 cs.length cp),(1,(.d (.int .i64 0))),(2,(.d (.int .i64 cs.length))),(3,(.d (.int .i64 v))),(4,.d (.fn g first caps)),(10,(.d (.bool true))),(11,(.d (.bool true)))],[.sl false im cs]⟩) (s1:=⟨[],[.sl false im ds]⟩) (by
  simp at e;simp -implicitDefEqProofs [Z29_L0,ao,w1,h12,e,List.idxOf,List.findIdx,List.findIdx.go])
 simp -implicitDefEqProofs [Z29,Z29_B,lp]
def ye (O:ah):Prop:=∀(g:Nat) (first caps:List D) (f:D→Int) (cs:List D) (cp:Option Nat),cs.length≤12→CmpOk O g first caps f im cs →
 ∃ds:List D,ds.Perm cs∧Asc f ds∧O F1x [.sl 0 [] 0 cs.length cp,.d (.fn g first caps)] [.sl false im cs]=some (.tup [],[.sl false im ds],[])
theorem Mp (hT:T F1x=some Z1x) (hTp:T F29=some Z29) (hi:rr (den T A)) (hl:ww (den T A) F1p):ye (den T A):=by
 intro g first caps f cs cp hl12 ok;obtain ⟨v,ev⟩:=hl cs.length hl12;obtain ⟨ds,h1,h2,e⟩:=a69 hTp hi g first caps f cs cp v hl12 ok;refine ⟨ds,h1,h2,t7 hT rfl ?_⟩
 have w1:IntKind.u64.wrap (cs.length:Int)=cs.length:=by
  simp [IntKind.wrap,IntKind.bits,IntKind.signed]; omega
 simp -implicitDefEqProofs [Z1x,Z1x_B,w1,ev,e,List.idxOf,List.findIdx,List.findIdx.go]
end Pe

namespace Pe
open Go Gq
variable {T:Nat→Option Fn} {A:ah}
theorem Ql {O:ah} (hd:qw O) {p:Int} [IsP p] {b:Fp p} (hb:2≤b.len) (hbl:b.len<2000):∀(n:Nat) (a:Fp p) (i:Nat),a.len≤n→a≠0→n<2000→i+n<100000→∃(k:Nat) (r:Fp p),a=r*pw b k∧¬ Dv b r ∧
 dn O 0 (.loop Z15_L0) ⟨[(0,(.d (.int .i64 p))),(1,(.d (.sl .leaf (am .i64 (row a))))),(2,(.d (.sl .leaf (am .i64 (row b))))),(8,(.d (.int .i64 i)))],[]⟩=some (.ret,⟨[(6,(.d (.sl .leaf (am .i64 (row r))))),(7,(.d (.int .i64 ((i+k:Nat)))))],[]⟩)
 | 0,a,i,hn,ha,_,_=>absurd (Pol.len_zero_iff.1 (by omega)) ha
 | n+1,a,i,hn,ha,hn2,hi=>by
  have hb0:b≠0:=fun h=>by rw [h,Pol.len_zero] at hb; omega
  have e:=hd p a b hb0 (by omega) (by omega)
  by_cases h0:a%b=0
  ·have hm:=Pol.div_mod a b
   rw [h0,Gq.add_zero] at hm;have hq:a/b≠0:=fun h=>ha (by rw [hm,h,Gq.zero_mul])
   have hl:=Pol.len_mul hq hb0;rw [←hm] at hl;obtain ⟨k,r,e1,e2,e3⟩:=Ql hd hb hbl n (a/b) (i+1) (by omega) hq (by omega) (by omega)
   refine ⟨k+1,r,?_,e2,?_⟩
   ·rw [pw,←Gq.mul_assoc,←e1]; exact hm
   ·have w1:IntKind.i64.wrap ((i:Int)+1)=((i+1:Nat):Int):=(w64 (x:=(i:Int)+1) (by omega)).trans (by omega)
    rw [show i+(k+1)=i+1+k by omega]
    refine bq ?_ e3;simp -implicitDefEqProofs [Z15_L0,ao,e,h0,dt,w1]
  ·refine ⟨0,a,(Gq.mul_one a).symm,fun hdv=>h0 ((u6 hb0).1 hdv),oo ?_⟩
   have hp:=Pol.len_pos h0;simp -implicitDefEqProofs [Z15_L0,ao,e,hp]
def zo (O:ah):Prop:=∀(p:Int) [IsP p] (a b:Fp p),a≠0→2≤b.len→a.len<1000→b.len<1000→∃(k:Nat) (r:Fp p),a=r*pw b k∧¬ Dv b r ∧
 ask O F15 [(D.int .i64 p),(D.sl .leaf (am .i64 (row a))),(D.sl .leaf (am .i64 (row b)))]=some (.tup [(D.sl .leaf (am .i64 (row r))),(D.int .i64 k)])
theorem a1l (hT:T F15=some Z15) (hd:qw (den T A)):zo (den T A):=by
 intro p i a b ha hb hal hbl;obtain ⟨k,r,h1,h2,e⟩:=Ql hd hb (by omega) a.len a 0 (b9 _) ha (by omega) (by omega)
 have e0:((0:Nat):Int)=0:=rfl;rw [e0,bi] at e;refine ⟨k,r,h1,h2,bu hT rfl ?_⟩;simp -implicitDefEqProofs [Z15,Z15_B,e]
section
variable {p:Int} [IsP p]
theorem ot {n:Nat} (h:n≤12):p^n≤13841287201:=by
 have hp:=IsP.pos (p:=p);have h1:=kr (p:=p) (by omega) h
 have h2:p^12≤13841287201:=by
  rcases (inferInstance:IsP p).h with rfl | rfl | rfl | rfl <;> decide
 omega
theorem lw (n:Nat):0<p^n:=Int.pow_pos (IsP.pos)
theorem Gk (n:Nat):2*p^n≤p^(n+1):=by
 have hp:=IsP.ge (p:=p);rw [fk,gt];exact ca hp (Int.le_of_lt (lw n))
theorem Ld {most:Int}:∀(n:Nat) (out:Int),0<out→out*p^n≤most→B8 p most n out=out*p^n
 | 0,out,h0,h=>by rw [Int.pow_zero,mu]; rfl
 | n+1,out,h0,h=>by
  have hp:=IsP.pos (p:=p);have e:out*p^(n+1)=out*p*p^n:=by rw [fk,sd,gt p]
  rw [e] at h ⊢;have h1:1≤p^(n+1):=lw (n+1);have h2:out*1≤out*p^(n+1):=ca h1 (by omega)
  rw [e] at h2;rw [B8,if_neg (by omega)]
  exact Ld n (out*p) (Int.mul_pos h0 hp) h
theorem xr {n:Nat} (hn:n≤12) {k:Int} (h1:p^n≤k) (h2:k<2*p^n):Monic (jx p k)∧(jx p k).len=n+1:=by
 have hp:=IsP.ge (p:=p);have hb:=ot (p:=p) hn;have hpos:=lw (p:=p) n;have ok:z5 k:=⟨by omega,by omega⟩
 have hs:=Gk (p:=p) n;have hlt:=C8 (p:=p) ok (d:=n+1) (by omega)
 have hc:(jx p k).c n=1:=by
  rw [I7 ok]
  have:k/p^n=1:=by
   have e:k=(k-p^n)+p^n:=by omega
   rw [e,Int.add_ediv_of_dvd_right (Int.dvd_refl _),Int.ediv_self (by omega),nu (by omega) (by omega)]; rfl
  rw [this]; rfl
 have hl:=Pol.len_eq hlt (by rw [hc]; exact Fd.one_ne)
 refine ⟨⟨?_,fun h0=>by rw [h0,Pol.len_zero] at hl; omega⟩,hl⟩
 unfold Pol.ld;rw [hl]; exact hc
theorem pa {n:Nat} (_hn:n≤12) {q:Fp p} (hq:Monic q) (hl:q.len=n+1):p^n≤e9 q∧e9 q<2*p^n:=by
 have hp:=IsP.ge (p:=p);have hpos:=lw (p:=p) n;have h1:=zk q;have h2:=Vt (gh q) n;have h3:q.c n=1:=by have:=hq.1; unfold Pol.ld at this; rwa [hl] at this
 rw [fg,h3,wc] at h2
 have h4:e9 q/p^n<p:=by
  apply gz hpos;rw [hl,fk,gt] at h1;exact h1.2
 have h5:0≤e9 q/p^n:=m8 h1.1 (by omega)
 have h6:e9 q/p^n=1:=by
  have:e9 q/p^n%p=e9 q/p^n:=ia h5 h4;have h7:(1:Int)=e9 q/p^n%p:=h2;omega
 have h8:=Int.mul_ediv_add_emod (e9 q) (p^n);rw [h6,mu] at h8;have h9:=db (e9 q) (show p^n≠0 by omega)
 have h10:=cl (e9 q) hpos;omega
theorem Da {n:Nat} (hn:n≤12) {q:Fp p} (hq:Monic q) (hl:q.len=n+1):jx p (e9 q)=q:=Ds (by
 have:=pa hn hq hl;have:=ot (p:=p) hn;omega)
theorem Wz {O:ah} (hnu:tc O) (hr:y8 O) {a:Fp p} (hal:a.len<1000) {n:Nat} (hn:n≤12):∀(m:Nat) (k:Int),p^n≤k→k<2*p^n→(2*p^n-k).toNat≤m→(∃k0,k≤k0∧k0<2*p^n∧Dv (jx p k0) a)→∃b:Fp p,Monic b∧b.len=n+1∧Dv b a ∧
 dn O 0 (.loop Z17_L0) ⟨[(0,(.d (.int .i64 p))),(1,(.d (.sl .leaf (am .i64 (row a))))),(7,(.d (.int .i64 (p^n)))),(8,(.d (.int .i64 k)))],[]⟩=some (.ret,⟨[(6,(.d (.sl .leaf (am .i64 (row b)))))],[]⟩)
 | 0,k,h1,h2,hm,hx=>by omega
 | m+1,k,h1,h2,hm,hx=>by
  have hb:=ot (p:=p) hn;have hpos:=lw (p:=p) n;obtain ⟨m1,m2⟩:=xr hn h1 h2;have e1:=hnu p k (by omega) (by omega)
  have e2:=hr p a (jx p k) m1.2 (by omega) (by omega)
  have w1:IntKind.i64.wrap (2*p^n)=2*p^n:=w64 (by omega)
  have w2:IntKind.i64.wrap (k+1)=k+1:=w64 (by omega)
  by_cases hd:Dv (jx p k) a
  ·refine ⟨jx p k,m1,m2,hd,oo ?_⟩
   have h0:=(u6 m1.2).1 hd;rw [h0,dt] at e2;simp -implicitDefEqProofs [Z17_L0,ao,e1,e2,w1,h2]
  ·obtain ⟨k0,g1,g2,g3⟩:=hx
   have hne:k≠k0:=fun h=>hd (h▸g3)
   obtain ⟨b,b1,b2,b3,e⟩:=Wz hnu hr hal hn m (k+1) (by omega) (by omega) (by omega) ⟨k0,by omega,g2,g3⟩
   refine ⟨b,b1,b2,b3,bq ?_ e⟩;have h0:a%jx p k≠0:=fun h=>hd ((u6 m1.2).2 h)
   have h0':row (a%jx p k)≠[]:=fun h=>h0 (a1m.1 h)
   have h0'':(a%jx p k).len≠0:=fun h=>h0 (Pol.len_zero_iff.1 h)
   simp -implicitDefEqProofs [Z17_L0,ao,e1,e2,w1,w2,h2,h0'']
end
def n4 (O:ah):Prop:=∀(p:Int) [IsP p] (a:Fp p) (n:Nat),1≤n→n≤12→a.len<1000→a≠0→(∃q,Monic q∧q.len=n+1∧Dv q a)→∃b:Fp p,Monic b∧b.len=n+1∧Dv b a ∧
 ask O F17 [(D.int .i64 p),(D.sl .leaf (am .i64 (row a))),(D.int .i64 n)]=some (D.sl .leaf (am .i64 (row b)))
theorem Hz (hT:T F17=some Z17) (hnu:tc (den T A)) (hr:y8 (den T A)) (hno:Oy (den T A)) (hdg:jy (den T A)) (hld:v9 (den T A)) (hinv:o7 (den T A)) (hs:wb (den T A)):n4 (den T A):=by
 intro p i a n hn1 hn hal ha ⟨q,q1,q2,q3⟩;have hp:=IsP.ge (p:=p);have hp7:=IsP.le (p:=p);have e1:=hdg (row a) (by rw [bp]; omega)
 rw [bp] at e1
 by_cases hd:a.len=n+1
 ·have hr:=ka a.ld
  have hin:=y0 p (rep a.ld);have e2:=hld (row a) (by rw [bp]; omega)
  rw [Dj] at e2;have e3:=hinv p (rep a.ld) (by omega) (by omega) hr.1 hr.2
  have e4:=hs p (inv p (rep a.ld)) a (by omega) (by omega) (by omega)
  rw [uj _ (Pol.ld_ne ha)] at e4;have hd2:(a.len:Int)-1=n:=by omega
  refine ⟨mon a,o6 ha,by rw [tv ha,hd],(ym ha).2 (.refl a),bu hT rfl ?_⟩
  simp -implicitDefEqProofs [Z17,Z17_B,ao,e1,e2,e3,e4,hd2,mon]
 ·have hd2:¬ (a.len:Int)-1=n:=by omega
  have hb:=ot (p:=p) hn;have hpos:=lw (p:=p) n;have e2:=hno p n 1099511627776 (by omega) (by omega)
  rw [Ld n 1 (by omega) (by omega),Int.one_mul] at e2
  have hq:=pa hn q1 q2;obtain ⟨b,b1,b2,b3,e⟩:=Wz hnu hr hal hn (2*p^n-p^n).toNat (p^n) (vp _) (by omega) (b9 _) ⟨e9 q,hq.1,hq.2,by rw [Da hn q1 q2]; exact q3⟩
  refine ⟨b,b1,b2,b3,bu hT rfl ?_⟩;simp -implicitDefEqProofs [Z17,Z17_B,ao,e1,e2,hd2,e]
end Pe

namespace Pe
open Go Gq
variable {T:Nat→Option Fn} {A:ah}
section
variable {p:Int} [IsP p]
theorem a21:row (Pol.X:Fp p)=[0,1]:=by
 unfold row;rw [Pol.len_X];show [rep ((Pol.X:Fp p).c 0),rep ((Pol.X:Fp p).c 1)]=[0,1];have e0:(Pol.X:Fp p).c 0=0:=rfl;have e1:(Pol.X:Fp p).c 1=1:=rfl;rw [e0,e1,n5,wc]
theorem Irr.assoc {q b:Fp p} (hq:Irr q) (hb:Irr b) (h:Dv q b):Dv b q:=by
 obtain ⟨c,hc⟩:=h;have hc0:c≠0:=fun h0=>hb.ne (by rw [hc,h0,Gq.mul_zero])
 have l:=Pol.len_mul hq.ne hc0;rw [←hc] at l;have h1:=hq.len;rcases hb.dv ⟨c,hc⟩ with h2 | h2
 ·omega
 ·obtain ⟨k,hk,rfl⟩:=jz (show c.len=1 by omega)
  rw [hc,Gq.mul_comm];exact (Dv.Cmul hk).2 (.refl q)
structure FInv (a0:Fp p) (n:Nat) (a:Fp p) (out:jf p):Prop where
 ne:a≠0
 eq:a0=a*iq out
 ok:FacOk out
 nd:∀x∈out,¬ Dv x.1 a
 ns:wk n a
 ln:out.length+a.len≤13
structure JInv (a0:Fp p) (n:Nat) (a:Fp p) (out:jf p) (all:Fp p):Prop where
 f:FInv a0 n a out
 ne:all≠0
 ln:all.len≤13
 one:∀q,Irr q→Dv q all→q.len=n+1∧Dv q a
 two:∀q,Irr q→q.len=n+1→Dv q a→Dv q all
end
section
variable {p:Int}
theorem tj (L:jf p) (x:Fp p×Nat):iq (L++[x])=iq L*pw x.1 x.2:=by
 induction L with
 | nil=>show pw x.1 x.2*1=1*pw x.1 x.2; rw [Gq.mul_one,Gq.one_mul]
 | cons y L ih=>rw [c7,og,og,ih,Gq.mul_assoc]
end
section
variable {p:Int} [IsP p]
theorem FacOk.snoc {L:jf p} (h:FacOk L) {q:Fp p} {k:Nat} (hi:Irr q) (hm:Monic q) (hk:1≤k) (hd:∀x∈L,x.1≠q):FacOk (L++[(q,k)]):=by
 refine ⟨fun x hx=>?_,?_⟩
 ·rcases b7.1 hx with hx | hx
  ·exact h.irr x hx
  ·simp at hx; subst hx; exact ⟨hi,hm,hk⟩
 ·rw [fo]
  refine ⟨h.dis,ec _ _,fun x hx y hy=>?_⟩
  simp at hy; subst hy; exact hd x hx
theorem JInv.irr {a0 a:Fp p} {n:Nat} {out:jf p} {all b:Fp p} (h:JInv a0 n a out all) (hn:1≤n) (hb:b.len=n+1) (hd:Dv b all):Irr b:=by
 have hb0:b≠0:=fun h0=>by rw [h0,Pol.len_zero] at hb; omega
 refine Irr.of_dv (by omega) fun u hu=>?_
 have hul:=hu.len hb0
 have hu0:u≠0:=fun h0=>by
  obtain ⟨c,hc⟩:=hu;exact hb0 (by rw [hc,h0,Gq.zero_mul])
 have hup:=Pol.len_pos hu0
 by_cases h1:u.len=1
 ·exact .inl h1
 ·right
  obtain ⟨r,r1,_,r2⟩:=A4 u.len u (b9 _) (by omega)
  have h2:=(h.one r r1 ((r2.trans hu).trans hd)).1;have h3:=r2.len hu0;omega
theorem JInv.step {a0 a:Fp p} {n:Nat} {out:jf p} {all b:Fp p} (h:JInv a0 n a out all) (hn:1≤n) (hm:Monic b) (hb:b.len=n+1) (hd:Dv b all)
 {k k':Nat} {r r':Fp p} (h1:a=r*pw b k) (h2:¬ Dv b r) (h3:all=r'*pw b k') (h4:¬ Dv b r'):JInv a0 n r (out++[(b,k)]) r'∧r'.len<all.len∧1≤k:=by
 have hi:=h.irr hn hb hd;have hda:=(h.one b hi hd).2
 have hk:1≤k:=by
  cases k with
  | zero=>exact absurd (by rw [h1,pw,Gq.mul_one] at hda; exact hda) h2
  | succ k=>omega
 have hk':1≤k':=by
  cases k' with
  | zero=>exact absurd (by rw [h3,pw,Gq.mul_one] at hd; exact hd) h4
  | succ k=>omega
 have hr0:r≠0:=fun h0=>h.f.ne (by rw [h1,h0,Gq.zero_mul])
 have hr0':r'≠0:=fun h0=>h.ne (by rw [h3,h0,Gq.zero_mul])
 have shrink:∀(a r:Fp p) (k:Nat),r≠0→1≤k→a=r*pw b k→r.len<a.len:=by
  intro a r k hr hk e;obtain ⟨j,rfl⟩:∃j,k=j+1:=⟨k-1,by omega⟩
  have hj:=De hi.ne j;have l1:=Pol.len_mul hj hi.ne;have l2:=Pol.len_mul hr (Pol.mul_ne hj hi.ne);have l3:=Pol.len_pos hj;rw [e,pw]; omega
 have s1:=shrink a r k hr0 hk h1;have s2:=shrink all r' k' hr0' hk' h3;have dr:∀q,Dv q r→Dv q a:=fun q hq=>by rw [h1]; exact hq.mul_right _
 have pd:∀q,Irr q→∀m,Dv q (pw b m)→Dv b q:=fun q hq m hq2=>Irr.assoc hq hi (Irr.pw_dv hq m hq2)
 refine ⟨⟨⟨hr0,?_,h.f.ok.snoc hi hm hk fun x hx e=>h.f.nd x hx (e▸hda),?_,Nr h.f.ns ⟨pw b k,h1⟩,?_⟩,hr0',by have:=h.ln; omega,?_,?_⟩,s2,hk⟩
 ·rw [h.f.eq,tj]
  conv=>lhs; rw [h1]
  exact bf [r,pw b k,iq out] rfl
 ·intro x hx
  rcases b7.1 hx with hx | hx
  ·exact fun hq=>h.f.nd x hx (dr _ hq)
  ·simp at hx; subst hx; exact h2
 ·have:=h.f.ln
  simp; omega
 ·intro q hq hqr
  have hqa:Dv q all:=by rw [h3]; exact hqr.mul_right _
  obtain ⟨g1,g2⟩:=h.one q hq hqa;refine ⟨g1,?_⟩;rw [h1] at g2;rcases hq.prime g2 with g | g
  ·exact g
  ·exact absurd ((pd q hq k g).trans hqr) h4
 ·intro q hq hql hqr
  have:=h.two q hq hql (dr q hqr);rw [h3] at this;rcases hq.prime this with g | g
  ·exact g
  ·exact absurd ((pd q hq k' g).trans hqr) h2
theorem JInv.done {a0 a:Fp p} {n:Nat} {out:jf p} {all:Fp p} (h:JInv a0 n a out all) (hl:all.len<2):FInv a0 (n+1) a out:=by
 refine ⟨h.f.ne,h.f.eq,h.f.ok,h.f.nd,fun q hq hd=>?_,h.f.ln⟩
 have h1:=h.f.ns q hq hd;apply dc;intro hx;have h2:=(h.two q hq (by omega) hd).len h.ne
 have:=hq.len;omega
theorem JInv.init {a0 a:Fp p} {n:Nat} {out:jf p} (h:FInv a0 n a out) (hn:1≤n) (hn2:n≤12) {fr:Fp p} (hf:fr%a=pw Pol.X (p.toNat^n)%a):JInv a0 n a out (Pol.gcd (fr-Pol.X) a):=by
 have h0:fr-Pol.X≠0∨a≠0:=.inr h.ne;have hm:=Pol.gcd_monic h0;have hd2:=Pol.gcd_dv_right h0
 have key:∀q,Dv q a→(Dv q (fr-Pol.X)↔Dv q (frT p n)):=by
  intro q hq
  have e:Dv q (fr-pw Pol.X (p.toNat^n)):=by
   refine hq.trans ?_;rw [ko,Quo.mk_sub];rw [(Pol.mod_eq_iff h.ne).1 hf,sub_self]
  unfold frT;constructor
  ·intro g
   have:pw Pol.X (p.toNat^n)-Pol.X=(fr-Pol.X)-(fr-pw Pol.X (p.toNat^n)):=bf [pw Pol.X (p.toNat^n),Pol.X,fr] rfl;rw [this]; exact g.sub e
  ·intro g
   have:fr-Pol.X=(pw Pol.X (p.toNat^n)-Pol.X)+(fr-pw Pol.X (p.toNat^n)):=bf [pw Pol.X (p.toNat^n),Pol.X,fr] rfl;rw [this]; exact g.add e
 have hl:=hd2.len h.ne;have hl2:=h.ln;refine ⟨h,hm.2,by omega,fun q hq hd=>?_,fun q hq hql hqa=>?_⟩
 ·have g1:=hd.trans hd2
  have g2:=(key q g1).1 (hd.trans (Pol.gcd_dv_left h0));have g3:=h.ns q hq g1;have g4:=g1.len h.ne;have g5:=E8 hq (d:=q.len-1) (k:=n) (by have:=hq.len; omega) (by have:=ot (p:=p) (n:=q.len-1) (by omega); omega) hn g2
  exact ⟨by omega,g1⟩
 ·have g2:=Qe hq hql (by have:=ot (p:=p) hn2; omega)
  exact Pol.dv_gcd h0 ((key q hqa).2 g2) hqa
noncomputable abbrev kh (x:Fp p×Nat):D:=.st [.leaf,.leaf] [(D.sl .leaf (am .i64 (row x.1))),(D.int .i64 x.2)]
theorem X8 {O:ah} (hw:n4 O) (hst:zo O) (hdg:jy O) {a0:Fp p} {n:Nat} (hn:1≤n) (hn2:n≤12):∀(m:Nat) (a:Fp p) (out:jf p) (all:Fp p) (cp:Option Nat),all.len≤m→JInv a0 n a out all→∃(a':Fp p) (out':jf p) (all':List Int) (cp':Option Nat),FInv a0 (n+1) a' out'∧a'.len≤a.len ∧
 dn O 0 (.loop Zu_L1) ⟨[(0,(.d (.int .i64 p))),(1,(.d (.sl .leaf (am .i64 (row a))))),(5,.sl 0 [] 0 out.length cp),(6,(.d (.int .i64 n))),(8,(.d (.sl .leaf (am .i64 (row all)))))],[.sl false im (out.map kh),.hole,.hole,.hole,.hole]⟩ =
  some (.exit 4,⟨[(0,(.d (.int .i64 p))),(1,(.d (.sl .leaf (am .i64 (row a'))))),(5,.sl 0 [] 0 out'.length cp'),(6,(.d (.int .i64 n))),(8,(.d (.sl .leaf (am .i64 all')))),(52,(.d (.bool false)))],[.sl false im (out'.map kh),.hole,.hole,.hole,.hole]⟩)
 | m,a,out,all,cp,hm,h=>by
  have hln:=h.ln;have hp:=Pol.len_pos h.ne;have e1:=hdg (row all) (by rw [bp]; omega)
  rw [bp] at e1
  by_cases hl:all.len<2
  ·refine ⟨a,out,row all,cp,h.done hl,b9 _,bv ?_⟩
   have h1:¬ (1:Int)<(all.len:Int):=by omega
   simp -implicitDefEqProofs [Zu_L1,ao,e1,h1]
  ·have hlo:=h.f.ln
   obtain ⟨q,q1,q2,q3⟩:=A4 all.len all (b9 _) (by omega)
   obtain ⟨b,b1,b2,b3,e2⟩:=hw p all n hn hn2 (by omega) h.ne ⟨q,q2,(h.one q q1 q3).1,q3⟩
   obtain ⟨k,r,g1,g2,e3⟩:=hst p a b h.f.ne (by omega) (by omega) (by omega)
   obtain ⟨k',r',g3,g4,e4⟩:=hst p all b h.ne (by omega) (by omega) (by omega)
   obtain ⟨hJ,hlt,hk⟩:=h.step hn b1 b2 b3 g1 g2 g3 g4;cases m with
   | zero=>omega
   | succ m=>
    obtain ⟨a',out',all',cp',i1,i2,e⟩:=X8 hw hst hdg hn hn2 m r (out++[(b,k)]) r' none (by omega) hJ
    have hra:r.len≤a.len:=(show Dv r a from ⟨_,g1⟩).len h.f.ne;refine ⟨a',out',all',cp',i1,by omega,bq ?_ e⟩
    have h1:(1:Int)<(all.len:Int):=by omega
    have h8:(out.length+1)*32≤1099511627776:=by omega
    have ht:(out.map kh).take out.length=out.map kh:=b5 (by simp)
    have hL:(out.map kh).length=out.length:=by simp
    have o1:(out++[(b,k)]).map kh=out.map kh++[kh (b,k)]:=by simp
    have o2:(out++[(b,k)]).length=out.length+1:=by simp
    rw [o1,o2];generalize out.map kh=LD at *;simp -implicitDefEqProofs [Zu_L1,ao,e1,e2,e3,e4,h1,h8,ht,hL,List.replicate]
theorem Uu {O:ah} (hpw:td O) {a:Fp p} (ha:a≠0) (hal:a.len≤13) {n:Nat} (hn2:n≤1000) {st:V} {hp:Heap} (hst:st.refs=[0]) (hhp:∃b,hp=[b,.hole,.hole,.hole,.hole]):∀(m i:Nat) (fr:Fp p),i+m=n→fr.len≤13→∃fr':Fp p,fr'.len≤13∧fr'%a=pw fr (p.toNat^m)%a ∧
 dn O 0 (.loop Zu_L0) ⟨[(0,(.d (.int .i64 p))),(1,(.d (.sl .leaf (am .i64 (row a))))),(5,st),(6,(.d (.int .i64 n))),(7,(.d (.sl .leaf (am .i64 (row fr))))),(34,(.d (.int .i64 n))),(35,(.d (.int .i64 i)))],hp⟩ =
  some (.exit 2,⟨[(0,(.d (.int .i64 p))),(1,(.d (.sl .leaf (am .i64 (row a))))),(5,st),(6,(.d (.int .i64 n))),(7,(.d (.sl .leaf (am .i64 (row fr'))))),(34,(.d (.int .i64 n))),(35,(.d (.int .i64 n))),(36,(.d (.bool false)))],hp⟩)
 | 0,i,fr,hi,hf=>by
  obtain ⟨b,rfl⟩:=hhp;obtain rfl:i=n:=by omega
  refine ⟨fr,hf,by rw [nk,yu],bv ?_⟩
  simp -implicitDefEqProofs [Zu_L0,ao,hst]
 | m+1,i,fr,hi,hf=>by
  have hP:=IsP.pos (p:=p);have hP7:=IsP.le (p:=p);have e:=hpw p fr p a ha (by omega) (by omega) (by omega) (by omega)
  have hl:=Pol.len_mod (pw fr p.toNat) ha;obtain ⟨fr',g1,g2,g3⟩:=Uu (O:=O) hpw ha hal hn2 hst hhp m (i+1) (pw fr p.toNat%a) (by omega) (by omega)
  obtain ⟨b,rfl⟩:=hhp;have h1:i<n:=by omega
  have w1:IntKind.i64.wrap ((i:Int)+1)=((i+1:Nat):Int):=(w64 (x:=(i:Int)+1) (by omega)).trans (by omega)
  refine ⟨fr',g1,?_,bq ?_ g3⟩
  ·rw [g2,Pol.pow_mod _ ha,sr,lc,u9]
  ·simp -implicitDefEqProofs [Zu_L0,ao,e,h1,w1,hst]
structure FEnd (a0:Fp p) (out:jf p):Prop where
 ok:FacOk out
 eq:∃c:Zp p,c≠0∧a0=Pol.C c*iq out
 ln:out.length≤12
theorem Wu {O:ah} (hw:n4 O) (hst:zo O) (hdg:jy O) (hpw:td O) (hlet:yv O) (hc:o9 O) (hg:Rn O) (hld:v9 O) (hinv:o7 O) (hs:wb O) {a0:Fp p}:∀(m n:Nat) (a:Fp p) (out:jf p) (cp:Option Nat),1≤n→n+m=15→FInv a0 n a out→∃(out':jf p) (cp':Option Nat) (e:Env),FEnd a0 out'∧((∃x y,e=[(0,(.d (.int .i64 p))),(1,(.d (.sl .leaf (am .i64 x)))),(5,.sl 0 [] 0 out'.length cp'),(6,(.d (.int .i64 y))),(14,(.d (.bool false)))])∨e=[(5,.sl 0 [] 0 out'.length cp')]) ∧
 dn O 0 (.loop Zu_L2) ⟨[(0,(.d (.int .i64 p))),(1,(.d (.sl .leaf (am .i64 (row a))))),(5,.sl 0 [] 0 out.length cp),(6,(.d (.int .i64 n)))],[.sl false im (out.map kh),.hole,.hole,.hole,.hole]⟩ =
  some (.exit 0,⟨e,[.sl false im (out'.map kh),.hole,.hole,.hole,.hole]⟩)
 | m,n,a,out,cp,hn,hm,h=>by
  have hp:=IsP.ge (p:=p);have hp7:=IsP.le (p:=p);have hln:=h.ln;have ha:=Pol.len_pos h.ne;have e1:=hdg (row a) (by rw [bp]; omega)
  rw [bp] at e1
  by_cases hl:a.len=1
  ·have h1:¬ (1:Int)<(a.len:Int):=by omega
   obtain ⟨c,hc0,rfl⟩:=jz hl;refine ⟨out,cp,_,⟨h.ok,⟨c,hc0,h.eq⟩,by omega⟩,.inl ⟨row (Pol.C c),n,rfl⟩,bv ?_⟩
   simp -implicitDefEqProofs [Zu_L2,ao,e1,h1]
  ·have h1:(1:Int)<(a.len:Int):=by omega
   have w1:IntKind.i64.wrap (2*(n:Int))=2*(n:Int):=w64 (by omega)
   have h8:(out.length+1)*32≤1099511627776:=by omega
   have ht:(out.map kh).take out.length=out.map kh:=b5 (by simp)
   have hL:(out.map kh).length=out.length:=by simp
   by_cases h2:(a.len:Int)-1<2*(n:Int)
   ·have hi:=vg h.ns (by omega) (by omega)
    have hr:=ka a.ld;have hin:=y0 p (rep a.ld);have e2:=hld (row a) (by rw [bp]; omega)
    rw [Dj] at e2;have e3:=hinv p (rep a.ld) (by omega) (by omega) hr.1 hr.2
    have e4:=hs p (inv p (rep a.ld)) a (by omega) (by omega) (by omega)
    rw [uj _ (Pol.ld_ne h.ne)] at e4;have e4':ask O F14 [(D.int .i64 p),(D.sl .leaf (am .i64 (row a))),(D.int .i64 (inv p (rep a.ld)))]=some (D.sl .leaf (am .i64 (row (mon a)))):=e4;have o1:(out++[(mon a,1)]).map kh=out.map kh++[kh (mon a,1)]:=by simp
    have o2:(out++[(mon a,1)]).length=out.length+1:=by simp
    refine ⟨out++[(mon a,1)],none,_,⟨h.ok.snoc hi.mon (o6 h.ne) (b9 1) fun x hx e=>h.nd x hx (by rw [e,ym h.ne]; exact .refl a),⟨a.ld,Pol.ld_ne h.ne,?_⟩,by rw [o2]; omega⟩,.inr rfl,bv ?_⟩
    ·rw [tj]
     show a0=Pol.C a.ld*(iq out*pw (mon a) 1);rw [yu,h.eq]
     conv=>lhs; rw [Xe h.ne]
     exact bf [Pol.C a.ld,mon a,iq out] rfl
    ·rw [o1,o2]
     generalize out.map kh=LD at *;simp -implicitDefEqProofs [Zu_L2,ao,e1,h1,h2,w1,e2,e3,e4',h8,ht,hL,List.replicate]
   ·cases m with
    | zero=>omega
    | succ m=>
     have hl2:(Pol.X:Fp p).len≤13:=by rw [Pol.len_X]; omega
     obtain ⟨fr,g1,g2,g3⟩:=Uu (O:=O) hpw h.ne (by omega) (n:=n) (by omega) (st:=.sl 0 [] 0 out.length cp) (hp:=[.sl false im (out.map kh),.hole,.hole,.hole,.hole]) (by simp [V.refs]) ⟨_,rfl⟩ n 0 Pol.X (bi _) hl2
     have hJ:=JInv.init h hn (by omega) g2
     have hlj:=hJ.ln;obtain ⟨a',out',all',cp',i1,i2,i3⟩:=X8 (O:=O) hw hst hdg hn (by omega) (Pol.gcd (fr-Pol.X) a).len a out _ cp (b9 _) hJ
     obtain ⟨out2,cp2,e,j1,j2,j3⟩:=Wu hw hst hdg hpw hlet hc hg hld hinv hs m (n+1) a' out' cp' (by omega) (by omega) i1
     have e2:ask O Fo []=some (D.sl .leaf (am .i64 (row (Pol.X:Fp p)))):=by rw [a21]; exact hlet
     have e3:=hc p fr Pol.X (by omega) (by omega)
     have hsl:=Pol.len_sub_le (a:=fr) (b:=Pol.X) (n:=13) g1 hl2;have e4:=hg p (fr-Pol.X) a (.inr h.ne) (by omega) (by omega)
     have w2:IntKind.i64.wrap ((n:Int)+1)=((n+1:Nat):Int):=(w64 (x:=(n:Int)+1) (by omega)).trans (by omega)
     have e0:((0:Nat):Int)=0:=rfl;rw [e0] at g3;refine ⟨out2,cp2,e,j1,j2,bq ?_ j3⟩;generalize out.map kh=LD at *;simp -implicitDefEqProofs [Zu_L2,ao,e1,h1,h2,w1,w2,e2,e3,e4,g3,i3]
end
theorem Jj {α β:Type} (f:α→β) {m ds:List β} (h:m.Perm ds):∀l:List α,l.map f=m→∃l':List α,l'.Perm l∧l'.map f=ds:=by
 induction h with
 | nil=>intro l hl; exact ⟨[],by simp at hl; subst hl; exact .refl _,rfl⟩
 | cons x h ih=>
  intro l hl;cases l with
  | nil=>simp at hl
  | cons y l=>
   simp at hl;obtain ⟨l',p,e⟩:=ih l hl.2;exact ⟨y::l',p.cons y,by simp [e,hl.1]⟩
 | swap x y s=>
  intro l hl;cases l with
  | nil=>simp at hl
  | cons a l=>
   cases l with
   | nil=>simp at hl
   | cons b l=>
    simp at hl;exact ⟨b::a::l,List.Perm.swap a b l,by simp [hl]⟩
 | trans _ _ ih1 ih2=>
  intro l hl;obtain ⟨l',p,e⟩:=ih1 l hl;obtain ⟨l'',p2,e2⟩:=ih2 l' e;exact ⟨l'',p2.trans p,e2⟩
section
variable {p:Int} [IsP p]
theorem a43:∀(n:Nat) {l m:List Int},Can p l→Can p m→l.length=n→m.length=n→Al l m n=ll (vl p l) (vl p m):=by
 have hp:=IsP.pos (p:=p)
 -- the value of the first coefficients
 have key:∀(k:Nat) (l:List Int),Can p l→k≤l.length→vl p (l.take k)+(if k<l.length then p^k*cf l k else 0)=vl p (l.take (k+1))∧0≤vl p (l.take k)∧vl p (l.take k)<p^k:=by
  intro k l hl hk;have hin:=Qn (p:=p) (l:=l.take k) fun x hx=>hl x (List.mem_of_mem_take hx)
  rw [ba,Nat.min_eq_left hk] at hin;refine ⟨?_,hin⟩
  have app:∀(a b:List Int),vl p (a++b)=vl p a+p^a.length*vl p b:=by
   intro a
   induction a with
   | nil=>intro b; simp [vl]
   | cons x a ih=>
    intro b;rw [c7,vl,ih,vl,b4,fk,pe,gt (p^a.length) p,sd,Int.add_assoc]
  by_cases hlt:k<l.length
  ·rw [if_pos hlt,←xh hlt,app,ba,Nat.min_eq_left hk,e8 hlt]
   simp [vl]
  ·rw [if_neg hlt,b5 (by omega),b5 (by omega),Int.add_zero]
 intro n l m hl hm hln hmn
 have main:∀k,k≤n→Al l m k=ll (vl p (l.take k)) (vl p (m.take k)):=by
  intro k
  induction k with
  | zero=>intro _; simp [Al,ll,vl]
  | succ k ih=>
   intro hk;obtain ⟨a1,a2,a3⟩:=key k l hl (by omega)
   obtain ⟨b1,b2,b3⟩:=key k m hm (by omega)
   rw [if_pos (by omega)] at a1 b1
   rw [←a1,←b1,Al,ih (by omega)]
   have hpk:=lw (p:=p) k;generalize vl p (l.take k)=u at *;generalize vl p (m.take k)=v at *;generalize cf l k=c at *;generalize cf m k=d at *
   have mono:∀x y:Int,x<y→p^k*x+p^k≤p^k*y:=fun x y h=>by
    have:=ca (show x+1≤y by omega) (Int.le_of_lt hpk)
    rwa [pe,mu] at this
   rcases Int.lt_trichotomy c d with h | h | h
   ·have:=mono c d h
    have e:ll c d=-1:=if_pos h;rw [e,if_pos (by omega)]
    exact (if_pos (by omega)).symm
   ·subst h
    have e:ll c c=0:=by unfold ll; rw [if_neg (by omega),if_neg (by omega)]
    rw [e,if_neg (fun h=>h rfl)]
    unfold ll
    by_cases h1:u<v
    ·rw [if_pos h1,if_pos (by omega)]
    ·rw [if_neg h1]
     by_cases h2:v<u
     ·rw [if_pos h2,if_neg (by omega),if_pos (by omega)]
     ·rw [if_neg h2,if_neg (by omega),if_neg (by omega)]
   ·have:=mono d c h
    have e:ll c d=1:=by unfold ll; rw [if_neg (by omega),if_pos h]
    rw [e,if_pos (by omega)]
    unfold ll;rw [if_neg (by omega),if_pos (by omega)]
 have:=main n (b9 n)
 rwa [b5 (by omega),b5 (by omega)] at this
theorem Ua (a b:Fp p):a0u (row a) (row b)=ll (e9 a) (e9 b):=by
 unfold a0u;rw [bp,bp];rcases fu a.len b.len with h | h | h
 ·have:=qd h
  have e:ll (a.len:Int) b.len=-1:=if_pos (by omega)
  rw [e,if_pos (by omega)]
  exact (if_pos this).symm
 ·have e:ll (a.len:Int) b.len=0:=by unfold ll; rw [if_neg (by omega),if_neg (by omega)]
  rw [e,if_neg (fun h=>h rfl)]
  exact a43 a.len (gh a) (gh b) (bp a) (by rw [bp,h])
 ·have:=qd h
  have e:ll (a.len:Int) b.len=1:=by unfold ll; rw [if_neg (by omega),if_pos (by omega)]
  rw [e,if_pos (by omega)]
  unfold ll;rw [if_neg (by omega),if_pos this]
end
def a7j (p:Int):D→Int
 | .st _ (.sl _ cs::_)=>vl p (cs.map D.num)
 | _=>0
theorem zb {p:Int} (x:Fp p×Nat):a7j p (kh x)=vl p (row x.1):=by
 show vl p ((am .i64 (row x.1)).map D.num)=_;unfold am;rw [kz];have:(D.num ∘ D.int .i64)=id:=rfl;rw [this,List.map_id]
theorem Yz {p:Int} [IsP p] (hT:T Fv=some Zv) (hc:vr (den T A)) {L:jf p} (hl:∀x∈L,x.1.len≤1000):CmpOk (den T A) Fv [] [] (a7j p) im (L.map kh):=by
 refine ⟨fun x hx=>by simp at hx,fun x hx=>by simp at hx,fun x hx=>?_,fun x hx=>?_,fun x hx y hy=>?_⟩
 ·obtain ⟨a,_,rfl⟩:=cg.1 hx; rfl
 ·obtain ⟨a,_,rfl⟩:=cg.1 hx; rfl
 ·obtain ⟨a,ha,rfl⟩:=cg.1 hx
  obtain ⟨b,hb,rfl⟩:=cg.1 hy;have h1:=hl a ha;have h2:=hl b hb;have e:=hc (row a.1) (row b.1) (by rw [bp]; omega) (by rw [bp]; omega)
  rw [Ua] at e;have n1:=zb a;have n2:=zb b;rw [n1,n2];refine bu hT rfl ?_;simp -implicitDefEqProofs [Zv,Zv_B,e,e9]
def zq (O:ah):Prop:=∀(p:Int) [IsP p] (a:Fp p),a≠0→a.len≤13→∃L:jf p,IsFac a L∧L.length≤12 ∧
 ask O Fu [(D.int .i64 p),(D.sl .leaf (am .i64 (row a)))]=some (.sl im (L.map kh))
theorem FacOk.perm {p:Int} [IsP p] {L L':jf p} (h:FacOk L) (hp:L'.Perm L):FacOk L':=
 ⟨fun x hx=>h.irr x (hp.subset hx),(hp.pairwise_iff (fun h e=>h e.symm)).2 h.dis⟩
theorem Pt {p:Int} {L L':jf p} (hp:L'.Perm L):iq L'=iq L:=Cz (hp.map _)
theorem S4 (hT:T Fu=some Zu) (hT1:T Fv=some Zv) (hw:n4 (den T A)) (hst:zo (den T A)) (hdg:jy (den T A)) (hpw:td (den T A)) (hlet:yv (den T A)) (hc:o9 (den T A)) (hg:Rn (den T A)) (hld:v9 (den T A)) (hinv:o7 (den T A)) (hs:wb (den T A)) (hcmp:vr (den T A)) (hsort:ye (den T A)):zq (den T A):=by
 intro p i a ha hal;have h0:FInv a 1 a []:=⟨ha,(Gq.mul_one a).symm,⟨by simp,List.Pairwise.nil⟩,by simp,Jo a,by simpa using hal⟩
 obtain ⟨out,cp,e,j1,j2,j3⟩:=Wu hw hst hdg hpw hlet hc hg hld hinv hs 14 1 a [] (some 0) (b9 1) rfl h0;obtain ⟨c,hc0,hac⟩:=j1.eq;have hP:=uu j1.ok
 have hlen:∀x∈out,x.1.len≤1000:=fun x hx=>by
  have h1:Dv x.1 a:=by
   obtain ⟨r,h2,_⟩:=wh j1.ok (show (x.1,x.2)∈out from hx);obtain ⟨k,hk⟩:∃k,x.2=k+1:=⟨x.2-1,by have:=(j1.ok.irr x hx).2.2; omega⟩
   rw [hac,h2,hk,pw];exact (((Dv.refl x.1).mul_left _).mul_right _).mul_left _
  have:=h1.len ha;omega
 obtain ⟨ds,s1,s2,s3⟩:=hsort _ _ _ _ (out.map kh) cp (by simpa using j1.ln) (Yz hT1 hcmp hlen)
 obtain ⟨L,p1,p2⟩:=Jj kh s1.symm out rfl;have ok:=j1.ok.perm p1;subst p2;have hLl:L.length=out.length:=p1.length_eq;refine ⟨L,⟨ok,?_,?_⟩,by rw [hLl]; exact j1.ln,bu hT rfl ?_⟩
 ·have s4:L.Pairwise fun x y=>e9 x.1≤e9 y.1:=by
   have:=s2;unfold Asc at this;rw [nv] at this;exact this.imp fun h=>by rw [zb,zb] at h; exact h
  exact (s4.and ok.dis).imp fun {x y} h=>by
   have h1:=h.1;rcases Int.lt_or_eq_of_le h1 with h2 | h2
   ·exact h2
   ·exact absurd (Ew h2) h.2
 ·have:a.ld=c:=by
   rw [hac,Pol.ld_mul (Pol.C_ne hc0) hP.2,Pol.ld_C hc0,hP.1,Gq.mul_one]
  rw [this,Pt p1]; exact hac
 ·have e0:(([]:jf p).length:Nat)=0:=rfl
  have e00:((1:Nat):Int)=1:=rfl;rw [e0,e00,kv] at j3;have hds:(L.map kh).length=out.length:=by rw [az,hLl]
  have hol:(out.map kh).length=out.length:=by simp
  have htk:(L.map kh).take out.length=L.map kh:=b5 (by omega)
  rw [hol] at s3;generalize L.map kh=LD at *;generalize out.map kh=OD at *;rcases j2 with ⟨x,y,rfl⟩ | rfl
  ·simp -implicitDefEqProofs [Zu,Zu_B,j3,s3,hds,htk,List.idxOf,List.findIdx,List.findIdx.go]
  ·simp -implicitDefEqProofs [Zu,Zu_B,j3,s3,hds,htk,List.idxOf,List.findIdx,List.findIdx.go]
end Pe


namespace Pe
open Go Gq
variable {T:Nat→Option Fn} {A:ah}
open Classical in
noncomputable def fac {p:Int} [IsP p] (a:Fp p):jf p:=if h:∃L,IsFac a L then Classical.choose h else []
theorem Y7 {p:Int} [IsP p] {a:Fp p} (ha:a≠0) {L:jf p} (h:IsFac a L):fac a=L:=by
 have hx:∃L,IsFac a L:=⟨L,h⟩;unfold fac;rw [dif_pos hx];exact IsFac.unique ha (cj hx) h
def V9 (O:ah):Prop:=∀(p:Int) [IsP p] (a:Fp p),a≠0→a.len≤13→IsFac a (fac a)∧(fac a).length≤12 ∧
 ask O Fu [(D.int .i64 p),(D.sl .leaf (am .i64 (row a)))]=some (.sl im ((fac a).map kh))
theorem a5x {O:ah} (h:zq O):V9 O:=fun p i a ha hl=>by
 obtain ⟨L,h1,h2,h3⟩:=h p a ha hl;rw [Y7 ha h1];exact ⟨h1,h2,h3⟩
section
variable {p:Int} [IsP p]
theorem IsFac.len {m:Fp p} (hm:m≠0) {L:jf p} (h:IsFac m L) {x:Fp p×Nat} (hx:x∈L):2≤x.1.len∧x.1.len≤m.len∧x.2<m.len∧x.1≠0:=by
 obtain ⟨i1,i2,i3⟩:=h.ok.irr x hx;obtain ⟨_,_,_,h4,_⟩:=(Hq hm h.ok h.eq x.1 x.2).1 hx;have h5:=h4.len hm
 have h6:∀n,n<(pw x.1 n).len:=by
  intro n
  induction n with
  | zero=>show 0<(1:Fp p).len; rw [Pol.len_one]; omega
  | succ n ih=>
   have l:=Pol.len_mul (De i1.ne n) i1.ne;have:=i1.len;rw [pw]; omega
 have h7:=h6 x.2
 have h8:x.1.len≤(pw x.1 x.2).len:=by
  obtain ⟨k,hk⟩:∃k,x.2=k+1:=⟨x.2-1,by omega⟩
  rw [hk,pw];exact (show Dv x.1 (pw x.1 k*x.1) from ⟨pw x.1 k,Gq.mul_comm _ _⟩).len (Pol.mul_ne (De i1.ne k) i1.ne)
 exact ⟨i1.len,by omega,by omega,i1.ne⟩
end
end Pe

namespace Pe
open Go Gq
variable {T:Nat→Option Fn} {A:ah}
theorem a2r {p:Int} (h:isP p=true):IsP p:=⟨by unfold isP at h; simpa using h⟩
theorem yx {p:Int} [h:IsP p]:isP p=true:=by unfold isP; exact decide_eq_true h.h
theorem vd {p:Int} [IsP p] {a:Fp p}:rl p (pad (row a))=true:=by
 unfold rl;rw [dz];intro x hx;obtain ⟨i,_,rfl⟩:=cg.1 hx;have:=(gh a).le IsP.pos i
 simpa using this.2
theorem vh {p:Int} [IsP p] {l:List Int} (hb:i5 l) (hl:l.length=64) (h:rl p l=true):∃a:Fp p,a.len≤64∧l=pad (row a):=by
 have hc:Can p l:=fun x hx=>⟨(hb x hx).1,by
  unfold rl at h;rw [dz] at h
  simpa using h x hx⟩
 refine ⟨ep p l,ni (Pol.len_le (Ye l)) (by omega),?_⟩
 rw [←mc hc]
 symm
 apply P5 hl;intro i hi;rw [mc hc,fg,gn,Ic (hc.le IsP.pos i)]
inductive Arg1 (p:Int) (l:List Int):Prop
 | bad (h:Ve p [l]=1) (h2:isP p=true→rl p l=false)
 | good (ip:IsP p) (a:Fp p) (hl:a.len≤64) (e:l=pad (row a))
theorem a7r (p:Int) {l:List Int} (hb:i5 l) (hl:l.length=64):Arg1 p l:=by
 by_cases h1:isP p=true
 ·by_cases h2:rl p l=true
  ·have ip:=a2r h1
   obtain ⟨a,g1,g2⟩:=vh hb hl h2;exact .good ip a g1 g2
  ·refine .bad (by simp [Ve,h2]) fun _=>by simpa using h2
 ·exact .bad (by simp [Ve,h1]) fun h=>absurd h h1
theorem vj {p:Int} [IsP p] (x:Zp p):rep x=1↔x=1:=⟨fun h=>Rp (by rw [h,wc]),fun h=>by rw [h,wc]⟩
theorem Ey {p:Int} [IsP p] (a:Fp p):Monic a↔a.ld=1:=⟨fun h=>h.1,fun h=>⟨h,fun h0=>by
 rw [h0] at h;have:(0:Fp p).ld=0:=rfl;rw [this] at h;exact Fd.one_ne h.symm⟩⟩
end Pe

namespace Pe
open Go Gq
variable {T:Nat→Option Fn} {A:ah}
theorem Wd {p:Int} {l:List Int} {f:Fp p} (h:∀i,cf l i=rep (f.c i)):mw l l.length=f.len:=by
 have e:=congrArg List.length (uo h);rw [bp] at e;unfold trim at e;rw [ba] at e;have:=Ca l l.length;omega
theorem Wa {O:ah} {l:List Int} (hl:l.length=64):∀n:Nat,n≤64 →
 dn O 0 (.loop Z2g_L0) ⟨[(1,.ptr 0 []),(3,(.d (.int .i64 ((n:Int)-1))))],[.box false (D.arr 64 .leaf (am .u8 l))]⟩ =
  some (.exit 0,⟨[(1,.ptr 0 []),(3,(.d (.int .i64 ((mw l n:Int)-1)))),(11,(.d (.bool false)))],[.box false (D.arr 64 .leaf (am .u8 l))]⟩)
 | 0,_=>bv (by simp -implicitDefEqProofs [Z2g_L0,ao,mw])
 | n+1,hn=>by
  have hlt:n<l.length:=by omega
  have hn64:n<64:=by omega
  have hx:l[n]=cf l n:=(e8 hlt).symm;have t0:(((n+1:Nat):Int)-1)=(n:Int):=by omega
  rw [t0];have w1:IntKind.i64.wrap ((n:Int)-1)=(n:Int)-1:=w64 (by omega)
  by_cases h0:cf l n=0
  ·have e:mw l (n+1)=mw l n:=by simp [mw,h0]
   rw [e];refine bq ?_ (Wa hl n (by omega))
   simp -implicitDefEqProofs [Z2g_L0,ao,hlt,hn64,hx,h0,w1]
  ·have e:mw l (n+1)=n+1:=by simp [mw,h0]
   rw [e,t0];refine bv ?_;simp -implicitDefEqProofs [Z2g_L0,ao,hlt,hn64,hx,h0]
def Nv (O:ah):Prop:=∀l:List Int,l.length=64→ask O F2g [(D.arr 64 .leaf (am .u8 l))]=some (D.int .i64 ((mw l 64:Int)-1))
theorem a4c (hT:T F2g=some Z2g):Nv (den T A):=by
 intro l hl;have e:=Wa (O:=den T A) hl 64 (b9 _);have e0:((64:Nat):Int)-1=63:=rfl;rw [e0] at e;refine bu hT rfl ?_;simp -implicitDefEqProofs [Z2g,Z2g_B,e]
def iz (O:ah):Prop:=∀(p:Int) [IsP p] (a:Fp p),a.len≤64→ask O F2g [(D.arr 64 .leaf (am .u8 (pad (row a))))]=some (D.int .i64 ((a.len:Int)-1))
theorem a2g {O:ah} (h:Nv O):iz O:=fun p i a hl=>by
 have e:=Wd (f:=a) (l:=pad (row a)) fun i=>by rw [y9 (by rw [bp]; exact hl),fg]
 rw [cu] at e;rw [h _ (cu _),e]
def V4 (O:ah):Prop:=∀n a b:Int,ask O F2j [(D.int .i64 n),(D.int .i64 a),(D.int .i64 b)]=some (D.bool (decide (a≤n∧n≤b)))
theorem a63 (hT:T F2j=some Z2j):V4 (den T A):=by
 intro n a b;refine bu hT rfl ?_
 by_cases h:a≤n <;> simp -implicitDefEqProofs [Z2j,Z2j_B,h]
def Cs (O:ah):Prop:=∀p:Int,ask O F2s [(D.int .i64 p)]=some (D.bool (isP p))
theorem Xx (hT:T F2s=some Z2s):Cs (den T A):=by
 intro p;refine bu hT rfl ?_
 by_cases h2:p=2
 ·simp -implicitDefEqProofs [Z2s,Z2s_B,h2,isP]
 ·by_cases h3:p=3
  ·simp -implicitDefEqProofs [Z2s,Z2s_B,h3,isP]
  ·by_cases h5:p=5
   ·simp -implicitDefEqProofs [Z2s,Z2s_B,h5,isP]
   ·simp -implicitDefEqProofs [Z2s,Z2s_B,h2,h3,h5,isP]
theorem a1q {O:ah} {p:Int} {l:List Int} (hb:i5 l) (hl:l.length=64):∀(m i:Nat),i+m=64 →
 dn O 0 (.loop Z2m_L0) ⟨[(0,(.d (.int .i64 p))),(3,.ptr 0 []),(5,(.d (.int .i64 i)))],[.box false (D.arr 64 .leaf (am .u8 l))]⟩ =
  if (l.drop i).all (fun x=>decide (x<p)) then some (.exit 0,⟨[(0,(.d (.int .i64 p))),(3,.ptr 0 []),(5,(.d (.int .i64 64))),(7,(.d (.bool false)))],[.box false (D.arr 64 .leaf (am .u8 l))]⟩) else some (.ret,⟨[(4,(.d (.bool false)))],[.hole]⟩)
 | 0,i,hi=>by
  obtain rfl:i=64:=by omega
  rw [show l.drop 64=[] from List.drop_eq_nil_of_le (by omega)]
  exact bv (by simp -implicitDefEqProofs [Z2m_L0,ao])
 | m+1,i,hi=>by
  have hlt:i<l.length:=by omega
  have hi64:i<64:=by omega
  have hi64':(i:Int)<64:=by omega
  have hx:l[i]=cf l i:=(e8 hlt).symm;have hb':=hb _ (bm hlt);rw [hx] at hb';have w1:IntKind.i64.wrap (cf l i)=cf l i:=w64 (by omega)
  have w4:IntKind.i64.wrap ((i:Int)+1)=((i+1:Nat):Int):=(w64 (x:=(i:Int)+1) (by omega)).trans (by omega)
  rw [c9 hlt,List.all_cons,hx]
  by_cases h0:cf l i<p
  ·rw [decide_eq_true h0,Bool.true_and]
   refine bq ?_ (a1q hb hl m (i+1) (by omega))
   have h1:¬ p≤cf l i:=by omega
   simp -implicitDefEqProofs [Z2m_L0,ao,hlt,hi64,hi64',hx,h1,w1,w4]
  ·rw [decide_eq_false h0,Bool.false_and]
   have h1:p≤cf l i:=by omega
   refine oo ?_;simp -implicitDefEqProofs [Z2m_L0,ao,hlt,hi64,hi64',hx,h1,w1]
def Qw (O:ah):Prop:=∀(p:Int) (l:List Int),i5 l→l.length=64→ask O F2m [(D.int .i64 p),(D.arr 64 .leaf (am .u8 l))]=some (D.bool (rl p l&&isP p))
theorem a6b (hT:T F2m=some Z2m) (hp:Cs (den T A)):Qw (den T A):=by
 intro p l hb hl;have e:=a1q (O:=den T A) (p:=p) hb hl 64 0 (by omega)
 have e0:((0:Nat):Int)=0:=rfl;rw [e0,fb,show (l.all fun x=>decide (x<p))=rl p l from rfl] at e
 have e1:=hp p;refine bu hT rfl ?_
 by_cases h:rl p l=true
 ·rw [if_pos h] at e
  simp -implicitDefEqProofs [Z2m,Z2m_B,e,e1,h]
 ·rw [if_neg h] at e
  simp -implicitDefEqProofs [Z2m,Z2m_B,e,h]
open Classical in
def Ck (O:ah):Prop:=∀(p:Int) [IsP p] (a:Fp p),a.len≤64→ask O F2o [(D.arr 64 .leaf (am .u8 (pad (row a))))]=some (D.bool (decide (Monic a)))
open Classical in
theorem Vp (hT:T F2o=some Z2o) (hd:iz (den T A)):Ck (den T A):=by
 intro p i a hl;have e1:=hd p a hl;refine bu hT rfl ?_
 by_cases h0:a=0
 ·subst h0
  have hm:¬ Monic (0:Fp p):=fun h=>h.2 rfl
  rw [decide_eq_false hm];rw [Pol.len_zero] at e1;simp -implicitDefEqProofs [Z2o,Z2o_B,e1]
 ·have hp:=Pol.len_pos h0
  have hd2:((a.len:Int)-1)=((a.len-1:Nat):Int):=by omega
  rw [hd2] at e1;have hx:(pad (row a))[a.len-1]? = some (rep a.ld):=by rw [ov _ _ (by omega),fg]; rfl
  have h64:a.len-1<64:=by omega
  have e2:decide (rep a.ld=1)=decide (Monic a):=decide_eq_decide.2 (by rw [vj,Ey])
  rw [←e2];generalize a.len-1=n at *;generalize pad (row a)=L at *;simp -implicitDefEqProofs [Z2o,Z2o_B,e1,hx,h64]
end Pe

namespace Pe
open Go Gq
variable {T:Nat→Option Fn} {A:ah}
def rj (O:ah):Prop:=∀(p:Int) [IsP p] (x:Int),0<x→x<p→ask O F2k [(D.int .i64 p),.int .u8 x]=some (.int .u8 (inv p x))
theorem fh {F:Nat} {fn:Fn} (hT:T F=some fn) {ds:List D} {d:D} {n:Nat} (h:run (fun _ _ _=>none) n fn (ds.map .d) []=some (.d d,[],[])):ask (den T A) F ds=some d:=by
 have h2:=J0 (A:=A) hT (n:=n) (vs:=ds.map .d) (bs:=[]) (ans:=(.d d,[],[])) (by
  obtain ⟨qs,h3,h4⟩:=x7 h;cases qs with
  | nil=>exact h4 _ (by intro q hq; simp at hq)
  | cons q qs=>exact absurd (h3 q (by simp)) (by simp))
 unfold ask;rw [h2];simp
theorem Mv (hT:T F2k=some Z2k):rj (den T A):=by
 intro p ip x h0 h1;rcases ip.h with rfl | rfl | rfl | rfl
 ·obtain rfl:x=1:=by omega
  exact fh hT (n:=10) (by kernel_rfl)
 ·have:x=1∨x=2:=by omega
  rcases this with rfl | rfl
  ·exact fh hT (n:=10) (by kernel_rfl)
  ·exact fh hT (n:=10) (by kernel_rfl)
 ·have:x=1∨x=2∨x=3∨x=4:=by omega
  rcases this with rfl | rfl | rfl | rfl
  ·exact fh hT (n:=10) (by kernel_rfl)
  ·exact fh hT (n:=10) (by kernel_rfl)
  ·exact fh hT (n:=10) (by kernel_rfl)
  ·exact fh hT (n:=10) (by kernel_rfl)
 ·have:x=1∨x=2∨x=3∨x=4∨x=5∨x=6:=by omega
  rcases this with rfl | rfl | rfl | rfl | rfl | rfl
  ·exact fh hT (n:=10) (by kernel_rfl)
  ·exact fh hT (n:=10) (by kernel_rfl)
  ·exact fh hT (n:=10) (by kernel_rfl)
  ·exact fh hT (n:=10) (by kernel_rfl)
  ·exact fh hT (n:=10) (by kernel_rfl)
  ·exact fh hT (n:=10) (by kernel_rfl)
theorem J3 {p:Int} [IsP p] {l:List Int} (h:Can p l) (hl:l.length=64):l=pad (row (ep p l)):=by
 rw [←mc h]
 symm
 apply P5 hl;intro i hi;rw [mc h,fg,gn,Ic (h.le IsP.pos i)]
theorem tt {p:Int} [IsP p] (a:Fp p):Can p (pad (row a)):=fun x hx=>by
 obtain ⟨i,_,rfl⟩:=cg.1 hx;exact (gh a).le IsP.pos i
theorem pv {p:Int} {a:Fp p} (hl:a.len≤64):ep p (pad (row a))=a:=Pol.ext fun i=>by rw [gn,y9 (by rw [bp]; exact hl),fg,ja]
theorem o5 {p:Int} {a:Fp p} (hl:a.len≤64) (i:Nat):cf (pad (row a)) i=rep (a.c i):=by rw [y9 (by rw [bp]; exact hl),fg]
theorem Wn {O:ah} {p k:Int} [IsP p] {a b z:List Int} (ha:Can p a) (hb:Can p b) (hbl:b.length=64) (hk:-1000000≤k∧k≤1000000):∀(m i:Nat) (cur:List Int),i+m=64→cur.length=64→(∀j,i≤j→cf cur j=cf a j) →
 dn O 0 (.loop Z2e_L0) ⟨[(0,(.d (.int .i64 p))),(3,(.d (.int .i64 k))),(5,.ptr 0 []),(6,.ptr 1 []),(8,.ptr 2 []),(9,(.d (.int .i64 i)))],[.box false (D.arr 64 .leaf (am .u8 cur)),.box false (D.arr 64 .leaf (am .u8 b)),.box false (D.arr 64 .leaf (am .u8 z))]⟩ =
  some (.exit 0,⟨[(0,(.d (.int .i64 p))),(3,(.d (.int .i64 k))),(5,.ptr 0 []),(6,.ptr 1 []),(8,.ptr 2 []),(9,(.d (.int .i64 64))),(11,(.d (.bool false)))],[.box false (D.arr 64 .leaf (am .u8 (upd (lin p a b k) m i cur))),.box false (D.arr 64 .leaf (am .u8 b)),.box false (D.arr 64 .leaf (am .u8 z))]⟩)
 | 0,i,cur,hi,hc,hs=>by
  obtain rfl:i=64:=by omega
  exact bv (by simp -implicitDefEqProofs [Z2e_L0,ao,upd])
 | m+1,i,cur,hi,hc,hs=>by
  have hp:=IsP.pos (p:=p);have hp7:=IsP.le (p:=p);have hp0:p≠0:=by omega
  have hlt:i<cur.length:=by omega
  have hlb:i<b.length:=by omega
  have hi64:i<64:=by omega
  have hi64':(i:Int)<64:=by omega
  have hx:cur[i]=cf a i:=by rw [←e8 hlt]; exact hs i (b9 i)
  have hy:b[i]=cf b i:=(e8 hlb).symm;have ga:=ha.le hp i;have gb:=hb.le hp i;have gm:=gw (x:=k) (y:=cf b i) (b:=1000000) (c:=10) hk (by omega) (by omega)
  have w1:IntKind.i64.wrap (cf a i)=cf a i:=w64 (by omega)
  have w2:IntKind.i64.wrap (cf b i)=cf b i:=w64 (by omega)
  have w3:IntKind.i64.wrap (k*cf b i)=k*cf b i:=w64 (by omega)
  have w5:IntKind.i64.wrap (cf a i+k*cf b i)=cf a i+k*cf b i:=w64 (by omega)
  have hin:=zc (n:=cf a i+k*cf b i) hp;have w6:IntKind.i64.wrap ((cf a i+k*cf b i).tmod p+p)=(cf a i+k*cf b i).tmod p+p:=w64 (by omega)
  have w7:((cf a i+k*cf b i).tmod p+p).tmod p=lin p a b k i:=vu hp;have hlin:0≤lin p a b k i∧lin p a b k i<p:=⟨db _ (by omega),cl _ hp⟩
  have w8':IntKind.u8.wrap (lin p a b k i)=lin p a b k i:=w8 (by omega)
  have w4:IntKind.i64.wrap ((i:Int)+1)=((i+1:Nat):Int):=(w64 (x:=(i:Int)+1) (by omega)).trans (by omega)
  refine bq ?_ (Wn ha hb hbl hk m (i+1) (cur.set i (lin p a b k i)) (by omega) (by simpa using hc) (fun j hj=>by rw [s9,if_neg (by omega)]; exact hs j (by omega)))
  simp -implicitDefEqProofs [Z2e_L0,ao,hlt,hlb,hi64,hi64',hx,hy,w1,w2,w3,w5,w6,w7,w8',w4,hp0]
def qu (O:ah):Prop:=∀(p:Int) [IsP p] (k:Int) (a b:Fp p),-1000000≤k→k≤1000000→a.len≤64→b.len≤64 →
 ask O F2e [(D.int .i64 p),(D.arr 64 .leaf (am .u8 (pad (row a)))),(D.arr 64 .leaf (am .u8 (pad (row b)))),(D.int .i64 k)]=some (D.arr 64 .leaf (am .u8 (pad (row (a+Pol.C (zp p k)*b)))))
theorem a3k (hT:T F2e=some Z2e):qu (den T A):=by
 intro p i k a b hk hk' hal hbl;have e:=Wn (O:=den T A) (z:=pad []) (tt a) (tt b) (cu _) ⟨hk,hk'⟩ 64 0 (pad (row a)) (by omega) (cu _) (fun _ _=>rfl)
 have e0:((0:Nat):Int)=0:=rfl;rw [e0,Iy _ _ _ (cu _)] at e
 have e2:(List.range 64).map (lin p (pad (row a)) (pad (row b)) k)=pad (row (a+Pol.C (zp p k)*b)):=by
  unfold pad
  congr 1
  funext j
  rw [fg,Pol.c_add,Pol.c_Cmul];show (cf (pad (row a)) j+k*cf (pad (row b)) j)%p=_;rw [o5 hal,o5 hbl,←Ec,Ns,xt,ja,ja]
 rw [e2] at e;refine bu hT rfl ?_;generalize pad (row (a+Pol.C (zp p k)*b))=R at *;simp -implicitDefEqProofs [Z2e,Z2e_B,e]
def zt (O:ah):Prop:=∀(p:Int) [IsP p],ask O F2q []=some (D.arr 64 .leaf (am .u8 (pad (row (1:Fp p)))))
theorem a44 (hT:T F2q=some Z2q):zt (den T A):=by
 intro p i;have e:(pad []).set 0 1=pad [1]:=by decide +kernel
 have h0:(0:Nat)<(pad []).length:=by rw [cu]; omega
 rw [u7];refine bu hT rfl ?_;simp -implicitDefEqProofs [Z2q,Z2q_B,e,h0]
end Pe

namespace Pe
open Go Gq
variable {T:Nat→Option Fn} {A:ah}
def J2 (p q:Int) (b:List Int) (i:Nat) (m:Nat) (cur:List Int):List Int:=if q=0 then cur else jp p q b i m 0 cur
theorem Ij {p q:Int} [IsP p] {b cur:List Int} {i m:Nat} (hc:Can p cur) (hl:i+m≤cur.length):J2 p q b i m cur=jp p q b i m 0 cur:=by
 unfold J2
 split
 ·rename_i h
  subst h;apply lf
  ·rw [jh]
  ·intro j h1 h2
   rw [←e8 h1,←e8 h2,uy _ _ _ _ _ _ _ _ (by omega)]
   have:=hc.le IsP.pos j
   split
   ·rw [Int.zero_mul,Int.sub_zero,ia this.1 this.2]
   ·rfl
 ·rfl
theorem Q0 {O:ah} {p q by_:Int} [IsP p] {b quo z z':List Int} {i bl:Nat} (hq:0<q∧q<p) (hb:Can p b) (hbl:b.length=64) (hn:i+bl≤64) (h0:0<bl):∀(m k:Nat) (cur:List Int),k+m=bl→cur.length=64→Can p cur →
 dn O 0 (.loop Z2h_L0) ⟨[(0,(.d (.int .i64 p))),(4,.ptr 0 []),(5,.ptr 1 []),(6,.ptr 2 []),(7,.ptr 3 []),(8,.ptr 4 []),(9,(.d (.int .i64 ((bl:Int)-1)))),(10,(.d (.int .i64 by_))),(11,(.d (.int .i64 ((i:Int)+bl-1)))),(12,(.d (.int .i64 q))),(13,(.d (.int .i64 k)))],[.box false (D.arr 64 .leaf (am .u8 cur)),.box false (D.arr 64 .leaf (am .u8 b)),.box false (D.arr 64 .leaf (am .u8 z)),.box false (D.arr 64 .leaf (am .u8 z')),.box false (D.arr 64 .leaf (am .u8 quo))]⟩ =
  some (.exit 2,⟨[(0,(.d (.int .i64 p))),(4,.ptr 0 []),(5,.ptr 1 []),(6,.ptr 2 []),(7,.ptr 3 []),(8,.ptr 4 []),(9,(.d (.int .i64 ((bl:Int)-1)))),(10,(.d (.int .i64 by_))),(11,(.d (.int .i64 ((i:Int)+bl-1)))),(12,(.d (.int .i64 q))),(13,(.d (.int .i64 bl))),(50,(.d (.bool false)))],[.box false (D.arr 64 .leaf (am .u8 (jp p q b i m k cur))),.box false (D.arr 64 .leaf (am .u8 b)),.box false (D.arr 64 .leaf (am .u8 z)),.box false (D.arr 64 .leaf (am .u8 z')),.box false (D.arr 64 .leaf (am .u8 quo))]⟩)
 | 0,k,cur,hk,hc,hcan=>by
  obtain rfl:k=bl:=by omega
  have h1:¬ (k:Int)≤(k:Int)-1:=by omega
  exact bv (by simp -implicitDefEqProofs [Z2h_L0,ao,jp,h1])
 | m+1,k,cur,hk,hc,hcan=>by
  have hp:=IsP.pos (p:=p);have hp7:=IsP.le (p:=p);have hp0:p≠0:=by omega
  have hq0:q≠0:=by omega
  have h1:(k:Int)≤(bl:Int)-1:=by omega
  have w1:IntKind.i64.wrap ((i:Int)+bl-1-(bl-1))=i:=(w64 (x:=(i:Int)+bl-1-(bl-1)) (by omega)).trans (by omega)
  have w2:IntKind.i64.wrap ((i:Int)+k)=((i+k:Nat):Int):=(w64 (x:=(i:Int)+k) (by omega)).trans (by omega)
  have hik:i+k<64:=by omega
  have hikc:i+k<cur.length:=by omega
  have hkb:k<b.length:=by omega
  have hk64:k<64:=by omega
  have hx:cur[i+k]=cf cur (i+k):=(e8 hikc).symm;have hy:b[k]=cf b k:=(e8 hkb).symm;have gc:=hcan.le hp (i+k);have gb:=hb.le hp k;have gm:=gw (x:=q) (y:=cf b k) (b:=10) (c:=10) (by omega) (by omega) (by omega)
  have w3:IntKind.i64.wrap (cf cur (i+k))=cf cur (i+k):=w64 (by omega)
  have w5:IntKind.i64.wrap (cf b k)=cf b k:=w64 (by omega)
  have w6:IntKind.i64.wrap (q*cf b k)=q*cf b k:=w64 (by omega)
  have w7:IntKind.i64.wrap (cf cur (i+k)-q*cf b k)=cf cur (i+k)-q*cf b k:=w64 (by omega)
  have hin:=zc (n:=cf cur (i+k)-q*cf b k) hp;have w9:IntKind.i64.wrap ((cf cur (i+k)-q*cf b k).tmod p+p)=(cf cur (i+k)-q*cf b k).tmod p+p:=w64 (by omega)
  have w10:((cf cur (i+k)-q*cf b k).tmod p+p).tmod p=(cf cur (i+k)-q*cf b k)%p:=vu hp;have hlin:0≤(cf cur (i+k)-q*cf b k)%p∧(cf cur (i+k)-q*cf b k)%p<p:=⟨db _ (by omega),cl _ hp⟩
  have w11:IntKind.u8.wrap ((cf cur (i+k)-q*cf b k)%p)=(cf cur (i+k)-q*cf b k)%p:=w8 (by omega)
  have w4:IntKind.i64.wrap ((k:Int)+1)=((k+1:Nat):Int):=(w64 (x:=(k:Int)+1) (by omega)).trans (by omega)
  have t1:(0:Int)≤(i:Int)+k:=by omega
  have t2:((i:Int)+k).toNat=i+k:=by omega
  have hcan':Can p (cur.set (i+k) ((cf cur (i+k)-q*cf b k)%p)):=by
   intro x hx;rcases dd hx with h | h
   ·exact hcan x h
   ·subst h; exact hlin
  refine bq ?_ (Q0 hq hb hbl hn h0 m (k+1) (cur.set (i+k) ((cf cur (i+k)-q*cf b k)%p)) (by omega) (by simpa using hc) hcan')
  simp -implicitDefEqProofs [Z2h_L0,ao,h1,hq0,w1,w2,hik,hikc,hkb,hk64,hx,hy,w3,w5,w6,w7,w9,w10,w11,w4,hp0,t1,t2]
theorem R9 {O:ah} {p by_:Int} [IsP p] {b:List Int} {bl:Nat} {z z':List Int} (hby:0≤by_∧by_<p) (hb:Can p b) (hbl:b.length=64) (h0:0<bl):∀(c:Nat) (cur quo:List Int),c+bl≤65→cur.length=64→quo.length=64→Can p cur →
 dn O 0 (.loop Z2h_L1) ⟨[(0,(.d (.int .i64 p))),(4,.ptr 0 []),(5,.ptr 1 []),(6,.ptr 2 []),(7,.ptr 3 []),(8,.ptr 4 []),(9,(.d (.int .i64 ((bl:Int)-1)))),(10,(.d (.int .i64 by_))),(11,(.d (.int .i64 ((c:Int)+bl-2))))],[.box false (D.arr 64 .leaf (am .u8 cur)),.box false (D.arr 64 .leaf (am .u8 b)),.box false (D.arr 64 .leaf (am .u8 z)),.box false (D.arr 64 .leaf (am .u8 z')),.box false (D.arr 64 .leaf (am .u8 quo))]⟩ =
  some (.exit 0,⟨[(0,(.d (.int .i64 p))),(4,.ptr 0 []),(5,.ptr 1 []),(6,.ptr 2 []),(7,.ptr 3 []),(8,.ptr 4 []),(9,(.d (.int .i64 ((bl:Int)-1)))),(10,(.d (.int .i64 by_))),(11,(.d (.int .i64 ((bl:Int)-2)))),(27,(.d (.bool false)))],[.box false (D.arr 64 .leaf (am .u8 ((dv p by_ (b.take bl) c (cur,quo)).1))),.box false (D.arr 64 .leaf (am .u8 b)),.box false (D.arr 64 .leaf (am .u8 z)),.box false (D.arr 64 .leaf (am .u8 z')),.box false (D.arr 64 .leaf (am .u8 ((dv p by_ (b.take bl) c (cur,quo)).2)))]⟩)
 | 0,cur,quo,_,hc,hqo,hcan=>by
  have h1:¬ (bl:Int)-1≤(bl:Int)-2:=by omega
  have t0:((0:Nat):Int)+bl-2=(bl:Int)-2:=by omega
  rw [t0];exact bv (by simp -implicitDefEqProofs [Z2h_L1,ao,h1,dv])
 | c+1,cur,quo,hcb,hc,hqo,hcan=>by
  have hp:=IsP.pos (p:=p);have hp7:=IsP.le (p:=p);have hp0:p≠0:=by omega
  have hbt:(b.take bl).length=bl:=by rw [ba]; omega
  have t0:((c+1:Nat):Int)+bl-2=(c:Int)+bl-1:=by omega
  rw [t0];have h1:(bl:Int)-1≤(c:Int)+bl-1:=by omega
  have hi64:c+bl-1<64:=by omega
  have hic:c+bl-1<cur.length:=by omega
  have t1:(0:Int)≤(c:Int)+bl-1:=by omega
  have t2:((c:Int)+bl-1).toNat=c+bl-1:=by omega
  have t3:(1:Int)≤(c:Int)+bl:=by omega
  have hx:cur[c+bl-1]=cf cur (c+bl-1):=(e8 hic).symm;have gc:=hcan.le hp (c+bl-1);have gm:=gw (x:=cf cur (c+bl-1)) (y:=by_) (b:=10) (c:=10) (by omega) (by omega) (by omega)
  have w1:IntKind.i64.wrap (cf cur (c+bl-1))=cf cur (c+bl-1):=w64 (by omega)
  have w2:IntKind.i64.wrap (cf cur (c+bl-1)*by_)=cf cur (c+bl-1)*by_:=w64 (by omega)
  have w3:(cf cur (c+bl-1)*by_).tmod p=cf cur (c+bl-1)*by_%p:=cd (eg gc.1 hby.1);have hq:0≤cf cur (c+bl-1)*by_%p∧cf cur (c+bl-1)*by_%p<p:=⟨db _ hp0,cl _ hp⟩;have w4:IntKind.i64.wrap ((c:Int)+bl-1-(bl-1))=c:=(w64 (x:=(c:Int)+bl-1-(bl-1)) (by omega)).trans (by omega)
  have w5:IntKind.u8.wrap (cf cur (c+bl-1)*by_%p)=cf cur (c+bl-1)*by_%p:=w8 (by omega)
  have hc64:c<64:=by omega
  have hcq:c<quo.length:=by omega
  have w6:IntKind.i64.wrap ((c:Int)+bl-1-1)=(c:Int)+bl-2:=(w64 (x:=(c:Int)+bl-1-1) (by omega)).trans (by omega)
  have ed:dv p by_ (b.take bl) (c+1) (cur,quo)=dv p by_ (b.take bl) c (J2 p (cf cur (c+bl-1)*by_%p) b c bl cur,quo.set c (cf cur (c+bl-1)*by_%p)):=by
   rw [dv,hbt,Ij hcan (by omega)]
   have es:∀(m k:Nat) (x:List Int),k+m≤bl→jp p (cf cur (c+bl-1)*by_%p) (b.take bl) c m k x=jp p (cf cur (c+bl-1)*by_%p) b c m k x:=by
    intro m
    induction m with
    | zero=>intro k x _; rfl
    | succ m ih=>
     intro k x hk;have e:cf (b.take bl) k=cf b k:=by rw [e8 (by omega),e8 (by omega),nr]
     rw [jp,jp,e,ih _ _ (by omega)]
   rw [es bl 0 cur (by omega)]
  rw [ed];have hcan':Can p (J2 p (cf cur (c+bl-1)*by_%p) b c bl cur):=by rw [Ij hcan (by omega)]; exact Ak hp (by omega) hcan
  have hlen':(J2 p (cf cur (c+bl-1)*by_%p) b c bl cur).length=64:=by rw [Ij hcan (by omega),jh,hc]
  have ih:=R9 (O:=O) (z:=z) (z':=z') hby hb hbl h0 c (J2 p (cf cur (c+bl-1)*by_%p) b c bl cur) (quo.set c (cf cur (c+bl-1)*by_%p)) (by omega) hlen' (by simpa using hqo) hcan'
  refine bq ?_ ih;generalize cf cur (c+bl-1)*by_%p=q at *
  have l0:∃k:Int,dn O 0 (.loop Z2h_L0) ⟨[(0,(.d (.int .i64 p))),(4,.ptr 0 []),(5,.ptr 1 []),(6,.ptr 2 []),(7,.ptr 3 []),(8,.ptr 4 []),(9,(.d (.int .i64 ((bl:Int)-1)))),(10,(.d (.int .i64 by_))),(11,(.d (.int .i64 ((c:Int)+bl-1)))),(12,(.d (.int .i64 q))),(13,(.d (.int .i64 0)))],[.box false (D.arr 64 .leaf (am .u8 cur)),.box false (D.arr 64 .leaf (am .u8 b)),.box false (D.arr 64 .leaf (am .u8 z)),.box false (D.arr 64 .leaf (am .u8 z')),.box false (D.arr 64 .leaf (am .u8 (quo.set c q)))]⟩ =
   some (.exit 2,⟨[(0,(.d (.int .i64 p))),(4,.ptr 0 []),(5,.ptr 1 []),(6,.ptr 2 []),(7,.ptr 3 []),(8,.ptr 4 []),(9,(.d (.int .i64 ((bl:Int)-1)))),(10,(.d (.int .i64 by_))),(11,(.d (.int .i64 ((c:Int)+bl-1)))),(12,(.d (.int .i64 q))),(13,(.d (.int .i64 k))),(50,(.d (.bool false)))],[.box false (D.arr 64 .leaf (am .u8 (J2 p q b c bl cur))),.box false (D.arr 64 .leaf (am .u8 b)),.box false (D.arr 64 .leaf (am .u8 z)),.box false (D.arr 64 .leaf (am .u8 z')),.box false (D.arr 64 .leaf (am .u8 (quo.set c q)))]⟩):=by
   by_cases hq0:q=0
   ·subst hq0
    refine ⟨0,?_⟩;have e:J2 p 0 b c bl cur=cur:=if_pos rfl;rw [e];have h2:(1:Int)≤(bl:Int):=by omega
    exact bv (by simp -implicitDefEqProofs [Z2h_L0,ao,h2])
   ·refine ⟨bl,?_⟩
    have e:J2 p q b c bl cur=jp p q b c bl 0 cur:=if_neg hq0;rw [e];have:=Q0 (O:=O) (by_:=by_) (quo:=quo.set c q) (z:=z) (z':=z') (i:=c) (bl:=bl) ⟨by omega,hq.2⟩ hb hbl (by omega) h0 bl 0 cur (bi _) hc hcan
    exact this
  obtain ⟨k,l0⟩:=l0;simp -implicitDefEqProofs [Z2h_L1,ao,h1,hi64,hic,t2,t3,hx,w1,w2,w3,w4,w5,w6,hc64,hcq,hp0,l0]
def o8 (O:ah):Prop:=∀(p:Int) [IsP p] (a b:Fp p),b≠0→a.len≤64→b.len≤64 →
 ask O F2h [(D.int .i64 p),(D.arr 64 .leaf (am .u8 (pad (row a)))),(D.arr 64 .leaf (am .u8 (pad (row b))))]=some (.tup [(D.arr 64 .leaf (am .u8 (pad (row (a/b))))),(D.arr 64 .leaf (am .u8 (pad (row (a%b)))))])
theorem Wx {p:Int} {b:Fp p} (h:b.len≤64):(pad (row b)).take b.len=row b:=by
 apply lf
 ·rw [ba,cu,bp]; omega
 ·intro i h1 h2
  rw [nr,←e8,o5 h,←fg,e8 h2]
theorem Sv (hT:T F2h=some Z2h) (hd:iz (den T A)) (hinv:rj (den T A)):o8 (den T A):=by
 intro p i a b hb hal hbl;have hp:=IsP.ge (p:=p);have hp7:=IsP.le (p:=p);have hb0:=Pol.len_pos hb;have e1:=hd p b hbl;have e2:=hd p a hal;have hr:=ka b.ld;have hld:rep b.ld≠0:=fun h0=>Pol.ld_ne hb (gv.1 h0)
 have e3:=hinv p (rep b.ld) (by omega) hr.2
 have hin:=y0 p (rep b.ld);have w1:IntKind.i64.wrap (inv p (rep b.ld))=inv p (rep b.ld):=w64 (by omega)
 have hbx:(pad (row b))[b.len-1]? = some (rep b.ld):=by rw [ov _ _ (by omega),fg]; rfl
 have hbx':((b.len:Int)-1).toNat=b.len-1:=by omega
 have hbx2:(1:Int)≤(b.len:Int):=by omega
 have hbx3:b.len-1<64:=by omega
 have hz:∀j,cf (pad []) j=0:=fun j=>by rw [y9 (by simp),m5 (by simp)]
 have hcanz:Can p (pad []):=fun x hx=>by
  obtain ⟨j,_,rfl⟩:=cg.1 hx;rw [m5 (by simp)]; omega
 have sp:=J1 b hb (a.len+1-b.len) (pad (row a)) (pad []) (by rw [cu]; omega) (by rw [cu]; omega) (tt a) (fun j _=>hz j) (fun j hj=>by
  rw [o5 hal,a.lt_len j (by omega),n5]) hcanz
 have hl1:∀(B:List Int) (c:Nat) (x y:List Int),(dv p (inv p (rep b.ld)) B c (x,y)).1.length=x.length∧(dv p (inv p (rep b.ld)) B c (x,y)).2.length=y.length:=by
  intro B c
  induction c with
  | zero=>exact fun x y=>⟨rfl,rfl⟩
  | succ c ih=>
   intro x y;rw [dv];obtain ⟨i1,i2⟩:=ih (jp p (cf x (c+B.length-1)*inv p (rep b.ld)%p) B c B.length 0 x) (y.set c (cf x (c+B.length-1)*inv p (rep b.ld)%p));exact ⟨by rw [i1,jh],by rw [i2,br]⟩
 obtain ⟨g1,g2⟩:=hl1 (row b) (a.len+1-b.len) (pad (row a)) (pad []);rw [cu] at g1 g2;have l1:=R9 (O:=den T A) (b:=pad (row b)) (bl:=b.len) (z:=pad []) (z':=pad []) hin (tt b) (cu _) hb0 (a.len+1-b.len) (pad (row a)) (pad []) (by omega) (cu _) (cu _) (tt a)
 rw [Wx hbl] at l1;generalize dv p (inv p (rep b.ld)) (row b) (a.len+1-b.len) (pad (row a),pad [])=r at *;obtain ⟨s1,s2,s3,s4⟩:=sp;have z0:ep p (pad [])=0:=Pol.ext fun j=>by rw [gn,hz]; rfl
 rw [z0,Gq.zero_mul,Gq.add_zero,pv hal,Gq.add_comm] at s1
 have hrl:(ep p r.1).len<b.len:=by
  have:(ep p r.1).lt (b.len-1):=fun i hi=>by rw [gn,s2 i hi]; rfl
  have:=Pol.len_le this;omega
 obtain ⟨h1,h2⟩:=Pol.div_mod_eq s1.symm hrl;rw [h1,h2,←J3 s3 g1,←J3 s4 g2]
 have lz:∃n:Int,dn (den T A) 0 (.loop Z2h_L1) ⟨[(0,(.d (.int .i64 p))),(4,.ptr 0 []),(5,.ptr 1 []),(6,.ptr 2 []),(7,.ptr 3 []),(8,.ptr 4 []),(9,(.d (.int .i64 ((b.len:Int)-1)))),(10,(.d (.int .i64 (inv p (rep b.ld))))),(11,(.d (.int .i64 ((a.len:Int)-1))))],[.box false (D.arr 64 .leaf (am .u8 (pad (row a)))),.box false (D.arr 64 .leaf (am .u8 (pad (row b)))),.box false (D.arr 64 .leaf (am .u8 (pad []))),.box false (D.arr 64 .leaf (am .u8 (pad []))),.box false (D.arr 64 .leaf (am .u8 (pad [])))]⟩ =
  some (.exit 0,⟨[(0,(.d (.int .i64 p))),(4,.ptr 0 []),(5,.ptr 1 []),(6,.ptr 2 []),(7,.ptr 3 []),(8,.ptr 4 []),(9,(.d (.int .i64 ((b.len:Int)-1)))),(10,(.d (.int .i64 (inv p (rep b.ld))))),(11,(.d (.int .i64 n))),(27,(.d (.bool false)))],[.box false (D.arr 64 .leaf (am .u8 r.1)),.box false (D.arr 64 .leaf (am .u8 (pad (row b)))),.box false (D.arr 64 .leaf (am .u8 (pad []))),.box false (D.arr 64 .leaf (am .u8 (pad []))),.box false (D.arr 64 .leaf (am .u8 r.2))]⟩):=by
  by_cases hlt:b.len≤a.len
  ·rw [show ((a.len+1-b.len:Nat):Int)+b.len-2=(a.len:Int)-1 by omega] at l1
   exact ⟨_,l1⟩
  ·rw [show a.len+1-b.len=0 by omega] at l1
   have h3:¬ (b.len:Int)-1≤(b.len:Int)-2:=by omega
   have h4:¬ (b.len:Int)-1≤(a.len:Int)-1:=by omega
   have st:=bv (O:=den T A) (np:=0) (c:=Z2h_L1) (s:=⟨[(0,(.d (.int .i64 p))),(4,.ptr 0 []),(5,.ptr 1 []),(6,.ptr 2 []),(7,.ptr 3 []),(8,.ptr 4 []),(9,(.d (.int .i64 ((b.len:Int)-1)))),(10,(.d (.int .i64 (inv p (rep b.ld))))),(11,(.d (.int .i64 (((0:Nat):Int)+b.len-2))))],[.box false (D.arr 64 .leaf (am .u8 (pad (row a)))),.box false (D.arr 64 .leaf (am .u8 (pad (row b)))),.box false (D.arr 64 .leaf (am .u8 (pad []))),.box false (D.arr 64 .leaf (am .u8 (pad []))),.box false (D.arr 64 .leaf (am .u8 (pad [])))]⟩) (s1:=⟨[(0,(.d (.int .i64 p))),(4,.ptr 0 []),(5,.ptr 1 []),(6,.ptr 2 []),(7,.ptr 3 []),(8,.ptr 4 []),(9,(.d (.int .i64 ((b.len:Int)-1)))),(10,(.d (.int .i64 (inv p (rep b.ld))))),(11,(.d (.int .i64 (((0:Nat):Int)+b.len-2)))),(27,(.d (.bool false)))],[.box false (D.arr 64 .leaf (am .u8 (pad (row a)))),.box false (D.arr 64 .leaf (am .u8 (pad (row b)))),.box false (D.arr 64 .leaf (am .u8 (pad []))),.box false (D.arr 64 .leaf (am .u8 (pad []))),.box false (D.arr 64 .leaf (am .u8 (pad [])))]⟩) (id:=0) (by
    have h3':¬ (b.len:Int)-1≤((0:Nat):Int)+b.len-2:=by omega
    simp -implicitDefEqProofs only [Int.natCast_zero,Int.zero_add] at h3' ⊢;simp -implicitDefEqProofs [Z2h_L1,ao,h3'])
   rw [st] at l1;have l2:=al l1;injection l2 with _ l3
   injection l3 with _ l4
   injection l4 with l5 l6
   injection l6 with _ l7
   injection l7 with _ l8
   injection l8 with _ l9
   injection l9 with l10 _
   have e5:(D.arr 64 .leaf (am .u8 (pad (row a))))=(D.arr 64 .leaf (am .u8 r.1)):=by injection l5
   have e6:(D.arr 64 .leaf (am .u8 (pad [])))=(D.arr 64 .leaf (am .u8 r.2)):=by injection l10
   rw [←e5,←e6];exact ⟨(a.len:Int)-1,bv (by simp -implicitDefEqProofs [Z2h_L1,ao,h4])⟩
 obtain ⟨n,lz⟩:=lz;refine bu hT rfl ?_;obtain ⟨r1,r2⟩:=r;simp only at lz ⊢;generalize pad (row a)=PA at *;generalize pad (row b)=PB at *;simp -implicitDefEqProofs [Z2h,Z2h_B,e1,e2,e3,w1,hbx,hbx',hbx2,hbx3,lz]
end Pe

namespace Pe
open Go Gq
variable {T:Nat→Option Fn} {A:ah}
def vm (O:ah):Prop:=∀(p:Int) [IsP p] (a b:Fp p),b≠0→a.len≤64→b.len≤64 →
 ask O F2n [(D.int .i64 p),(D.arr 64 .leaf (am .u8 (pad (row a)))),(D.arr 64 .leaf (am .u8 (pad (row b))))]=some (D.arr 64 .leaf (am .u8 (pad (row (a%b)))))
theorem a39 (hT:T F2n=some Z2n) (hd:o8 (den T A)):vm (den T A):=by
 intro p i a b hb h1 h2;have e:=hd p a b hb h1 h2;refine bu hT rfl ?_;simp -implicitDefEqProofs [Z2n,Z2n_B,e]
theorem Uv (f:Nat→Int) (m i:Nat) (l:List Int) (j:Nat):cf (upd f m i l) j=if i≤j∧j<i+m∧j<l.length then f j else cf l j:=by
 unfold cf;rw [bc,bc,Bs]
 split <;> rfl
theorem Vs {O:ah} {p:Int} {a:List Int} {mm z:List Int} {n:Nat} {top:Int} (hal:a.length=64) (hn:n<64):∀(k i:Nat) (cur:List Int),i+k=n→1≤i→cur.length=64 →
 dn O 0 (.loop Z2v_L0) ⟨[(0,(.d (.int .i64 p))),(4,.ptr 0 []),(5,.ptr 1 []),(6,.ptr 2 []),(7,(.d (.int .i64 n))),(8,(.d (.int .i64 top))),(9,.ptr 3 []),(10,(.d (.int .i64 i)))],[.box false (D.arr 64 .leaf (am .u8 a)),.box false (D.arr 64 .leaf (am .u8 mm)),.box false (D.arr 64 .leaf (am .u8 z)),.box false (D.arr 64 .leaf (am .u8 cur))]⟩ =
  some (.exit 0,⟨[(0,(.d (.int .i64 p))),(4,.ptr 0 []),(5,.ptr 1 []),(6,.ptr 2 []),(7,(.d (.int .i64 n))),(8,(.d (.int .i64 top))),(9,.ptr 3 []),(10,(.d (.int .i64 n))),(26,(.d (.bool false)))],[.box false (D.arr 64 .leaf (am .u8 a)),.box false (D.arr 64 .leaf (am .u8 mm)),.box false (D.arr 64 .leaf (am .u8 z)),.box false (D.arr 64 .leaf (am .u8 (upd (fun j=>cf a (j-1)) k i cur)))]⟩)
 | 0,i,cur,hi,h1,hc=>by
  obtain rfl:i=n:=by omega
  exact bv (by simp -implicitDefEqProofs [Z2v_L0,ao,upd])
 | k+1,i,cur,hi,h1,hc=>by
  have hlt:i<n:=by omega
  have hi1:i-1<a.length:=by omega
  have hi2:i-1<64:=by omega
  have hi64:i<64:=by omega
  have hic:i<cur.length:=by omega
  have hx:a[i-1]=cf a (i-1):=(e8 hi1).symm;have w1:IntKind.i64.wrap ((i:Int)-1)=((i-1:Nat):Int):=(w64 (x:=(i:Int)-1) (by omega)).trans (by omega)
  have w4:IntKind.i64.wrap ((i:Int)+1)=((i+1:Nat):Int):=(w64 (x:=(i:Int)+1) (by omega)).trans (by omega)
  refine bq ?_ (Vs hal hn k (i+1) (cur.set i (cf a (i-1))) (by omega) (by omega) (by simpa using hc))
  simp -implicitDefEqProofs [Z2v_L0,ao,hlt,hi1,hi2,hi64,hic,hx,w1,w4]
theorem Vz {O:ah} {p q:Int} [IsP p] {b z out:List Int} {n:Nat} {hol:Blk} (hh:hol=.hole) (hb:Can p b) (hbl:b.length=64) (hq:0≤q∧q<p) (hn:n<64) (ho:Can p out):∀(k i:Nat) (cur:List Int),i+k=n→cur.length=64→(∀j,i≤j→cf cur j=cf out j) →
 dn O 0 (.loop Z2v_L1) ⟨[(0,(.d (.int .i64 p))),(5,.ptr 1 []),(6,.ptr 2 []),(7,(.d (.int .i64 n))),(9,.ptr 3 []),(11,(.d (.int .i64 q))),(12,(.d (.int .i64 i)))],[hol,.box false (D.arr 64 .leaf (am .u8 b)),.box false (D.arr 64 .leaf (am .u8 z)),.box false (D.arr 64 .leaf (am .u8 cur))]⟩ =
  some (.exit 2,⟨[(0,(.d (.int .i64 p))),(5,.ptr 1 []),(6,.ptr 2 []),(7,(.d (.int .i64 n))),(9,.ptr 3 []),(11,(.d (.int .i64 q))),(12,(.d (.int .i64 n))),(47,(.d (.bool false)))],[hol,.box false (D.arr 64 .leaf (am .u8 b)),.box false (D.arr 64 .leaf (am .u8 z)),.box false (D.arr 64 .leaf (am .u8 (upd (fun j=>(cf out j-q*cf b j)%p) k i cur)))]⟩)
 | 0,i,cur,hi,hc,hs=>by
  subst hh;obtain rfl:i=n:=by omega
  exact bv (by simp -implicitDefEqProofs [Z2v_L1,ao,upd])
 | k+1,i,cur,hi,hc,hs=>by
  have hp:=IsP.pos (p:=p);have hp7:=IsP.le (p:=p);have hp0:p≠0:=by omega
  have hlt:i<n:=by omega
  have hi64:i<64:=by omega
  have hic:i<cur.length:=by omega
  have hib:i<b.length:=by omega
  have hx:cur[i]=cf out i:=by rw [←e8 hic]; exact hs i (b9 i)
  have hy:b[i]=cf b i:=(e8 hib).symm;have gc:=ho.le hp i;have gb:=hb.le hp i;have gm:=gw (x:=q) (y:=cf b i) (b:=10) (c:=10) (by omega) (by omega) (by omega)
  have w3:IntKind.i64.wrap (cf out i)=cf out i:=w64 (by omega)
  have w5:IntKind.i64.wrap (cf b i)=cf b i:=w64 (by omega)
  have w6:IntKind.i64.wrap (q*cf b i)=q*cf b i:=w64 (by omega)
  have w7:IntKind.i64.wrap (cf out i-q*cf b i)=cf out i-q*cf b i:=w64 (by omega)
  have hin:=zc (n:=cf out i-q*cf b i) hp;have w9:IntKind.i64.wrap ((cf out i-q*cf b i).tmod p+p)=(cf out i-q*cf b i).tmod p+p:=w64 (by omega)
  have w10:((cf out i-q*cf b i).tmod p+p).tmod p=(cf out i-q*cf b i)%p:=vu hp;have hlin:0≤(cf out i-q*cf b i)%p∧(cf out i-q*cf b i)%p<p:=⟨db _ (by omega),cl _ hp⟩
  have w11:IntKind.u8.wrap ((cf out i-q*cf b i)%p)=(cf out i-q*cf b i)%p:=w8 (by omega)
  have w4:IntKind.i64.wrap ((i:Int)+1)=((i+1:Nat):Int):=(w64 (x:=(i:Int)+1) (by omega)).trans (by omega)
  refine bq ?_ (Vz hh hb hbl hq hn ho k (i+1) (cur.set i ((cf out i-q*cf b i)%p)) (by omega) (by simpa using hc) (fun j hj=>by rw [s9,if_neg (by omega)]; exact hs j (by omega)))
  subst hh;simp -implicitDefEqProofs [Z2v_L1,ao,hlt,hi64,hic,hib,hx,hy,w3,w5,w6,w7,w9,w10,w11,w4,hp0]
def Rb (O:ah):Prop:=∀(p:Int) [IsP p] (a m:Fp p),m≠0→a.len<m.len→m.len≤64 →
 ask O F2v [(D.int .i64 p),(D.arr 64 .leaf (am .u8 (pad (row a)))),(D.arr 64 .leaf (am .u8 (pad (row m))))]=some (D.arr 64 .leaf (am .u8 (pad (row (Pol.X*a%m)))))
theorem a7a (hT:T F2v=some Z2v) (hd:iz (den T A)) (hinv:rj (den T A)):Rb (den T A):=by
 intro p i a m hm hal hml;have hp:=IsP.ge (p:=p);have hp7:=IsP.le (p:=p);have e1:=hd p m hml;refine bu hT rfl ?_
 by_cases h1:m.len=1
 ·have ha:a=0:=Pol.len_zero_iff.1 (by omega)
  subst ha;rw [Gq.mul_zero,Pol.zero_mod hm,dt];rw [h1] at e1;simp -implicitDefEqProofs [Z2v,Z2v_B,ao,e1]
 ·have hm0:=Pol.len_pos hm
  obtain ⟨n,hn⟩:∃n,m.len=n+2:=⟨m.len-2,by omega⟩
  have e1':ask (den T A) F2g [(D.arr 64 .leaf (am .u8 (pad (row m))))]=some (D.int .i64 ((n+1:Nat))):=by rw [e1,hn]; congr 2; omega
  have hr:=ka m.ld;have hld:rep m.ld≠0:=fun h0=>Pol.ld_ne hm (gv.1 h0)
  have e3:=hinv p (rep m.ld) (by omega) hr.2
  have hin:=y0 p (rep m.ld);have hpa:a.len≤64:=by omega
  have hax:(pad (row a))[n]? = some (rep (a.c n)):=by rw [ov _ _ (by omega),fg]
  have hmx:(pad (row m))[n+1]? = some (rep m.ld):=by
   rw [ov _ _ (by omega),fg]
   unfold Pol.ld;rw [hn]; rfl
  have ha0:=ka (a.c n);have w0:IntKind.i64.wrap ((n:Int)+1-1)=(n:Int):=(w64 (x:=(n:Int)+1-1) (by omega)).trans (by omega)
  have w0':IntKind.i64.wrap (n:Int)=(n:Int):=w64 (by omega)
  have w1:IntKind.i64.wrap (rep (a.c n))=rep (a.c n):=w64 (by omega)
  have w2:IntKind.i64.wrap (inv p (rep m.ld))=inv p (rep m.ld):=w64 (by omega)
  have gm:=gw (x:=rep (a.c n)) (y:=inv p (rep m.ld)) (b:=10) (c:=10) (by omega) (by omega) (by omega)
  have w3:IntKind.i64.wrap (rep (a.c n)*inv p (rep m.ld))=rep (a.c n)*inv p (rep m.ld):=w64 (by omega)
  have w4:(rep (a.c n)*inv p (rep m.ld)).tmod p=rep (a.c n)*inv p (rep m.ld)%p:=cd (eg ha0.1 hin.1);have hq:0≤rep (a.c n)*inv p (rep m.ld)%p∧rep (a.c n)*inv p (rep m.ld)%p<p:=⟨db _ (by omega),cl _ (by omega)⟩
  have hqz:zp p (rep (a.c n)*inv p (rep m.ld)%p)=a.c n*Fd.inv m.ld:=by
   rw [te,xt,ja,uj _ (Pol.ld_ne hm)]
  generalize rep (a.c n)*inv p (rep m.ld)%p=q at *;have l0:=Vs (O:=den T A) (p:=p) (a:=pad (row a)) (mm:=pad (row m)) (z:=pad []) (n:=n+1) (top:=rep (a.c n)) (cu _) (by omega) n 1 (pad []) (by omega) (b9 1) (cu _)
  have hz:∀j,cf (pad []) j=0:=fun j=>by rw [y9 (by simp),m5 (by simp)]
  have c0:∀j,cf (upd (fun j=>cf (pad (row a)) (j-1)) n 1 (pad [])) j=if 1≤j∧j<n+1 then rep (a.c (j-1)) else 0:=fun j=>by
   rw [Uv,hz,cu]
   by_cases h:1≤j∧j<n+1
   ·rw [if_pos (by omega),if_pos h,o5 hpa]
   ·rw [if_neg (by omega),if_neg h]
  have hlen0:(upd (fun j=>cf (pad (row a)) (j-1)) n 1 (pad [])).length=64:=by rw [u5,cu]
  generalize upd (fun j=>cf (pad (row a)) (j-1)) n 1 (pad [])=out at *
  have hcan0:Can p out:=Can.of_cf fun j _=>by rw [c0]; split; exact ka _; omega
  have l1:=Vz (O:=den T A) (p:=p) (q:=q) (b:=pad (row m)) (z:=pad []) (out:=out) (n:=n+1) rfl (tt m) (cu _) hq (by omega) hcan0 (n+1) 0 out (by omega) hlen0 (fun _ _=>rfl)
  have hres:upd (fun j=>(cf out j-q*cf (pad (row m)) j)%p) (n+1) 0 out=pad (row (Pol.X*a%m)):=by
   have hlenR:(upd (fun j=>(cf out j-q*cf (pad (row m)) j)%p) (n+1) 0 out).length=64:=by rw [u5,hlen0]
   have hcR:∀j,cf (upd (fun j=>(cf out j-q*cf (pad (row m)) j)%p) (n+1) 0 out) j=if j<n+1 then (cf out j-q*rep (m.c j))%p else 0:=fun j=>by
    rw [Uv,hlen0]
    by_cases h:j<n+1
    ·rw [if_pos (by omega),if_pos h,o5 hml]
    ·rw [if_neg (by omega),if_neg h,c0,if_neg (by omega)]
   have hcanR:Can p (upd (fun j=>(cf out j-q*cf (pad (row m)) j)%p) (n+1) 0 out):=Can.of_cf fun j _=>by
    rw [hcR]; split
    ·exact ⟨db _ (by omega),cl _ (by omega)⟩
    ·omega
   rw [J3 hcanR hlenR]
   congr 2
   symm
   refine (Pol.div_mod_eq (q:=Pol.C (zp p q)) ?_ ?_).2
   ·refine Pol.ext fun j=>?_
    rw [Pol.c_add,Pol.c_Cmul,Pol.c_Xmul,gn,hcR];rcases fu j (n+1) with h | h | h
    ·rw [if_pos h,te,Wv,xt,ja,c0]
     by_cases hj:j=0
     ·subst hj
      rw [if_pos rfl,if_neg (by omega),wa]
      exact bf [zp p q,m.c 0] rfl
     ·rw [if_neg hj,if_pos (by omega),ja]
      exact bf [zp p q,m.c j,a.c (j-1)] rfl
    ·subst h
     rw [if_neg (by omega),if_neg (by omega),wa,Gq.add_zero,hqz]
     have e:m.c (n+1)=m.ld:=by unfold Pol.ld; rw [hn]; rfl
     rw [e,Gq.mul_assoc,Gq.mul_comm (Fd.inv m.ld),Fd.mul_inv _ (Pol.ld_ne hm),Gq.mul_one]; rfl
    ·rw [if_neg (by omega),if_neg (by omega),wa,m.lt_len j (by omega),Gq.mul_zero,Gq.add_zero,a.lt_len (j-1) (by omega)]
   ·have:(ep p (upd (fun j=>(cf out j-q*cf (pad (row m)) j)%p) (n+1) 0 out)).lt (n+1):=fun j hj=>by
     rw [gn,hcR,if_neg (by omega)]; rfl
    have:=Pol.len_le this;omega
  rw [hres] at l1;have e0:((0:Nat):Int)=0:=rfl;have e11:((1:Nat):Int)=1:=rfl;have en:((n+1:Nat):Int)=(n:Int)+1:=by omega
  rw [e0,en] at l1;rw [e11,en] at l0;rw [en] at e1';have hp0:p≠0:=by omega
  have hn64:n<64:=by omega
  have hn65:n+1<64:=by omega
  have t1:¬ (n:Int)+1=0:=by omega
  have t2:(0:Int)≤(n:Int)+1:=by omega
  have t3:((n:Int)+1).toNat=n+1:=by omega
  generalize pad (row (Pol.X*a%m))=R at *;generalize pad (row a)=PA at *;generalize pad (row m)=PM at *;simp -implicitDefEqProofs [Z2v,Z2v_B,ao,e1',e3,hax,hmx,w0',w1,w2,w3,w4,l0,l1,hn64,hn65,t1,t2,t3,hp0]
def nz {p:Int} (b:Fp p) (i:Nat):Fp p:=⟨fun j=>b.c (i+j),b.len,fun j hj=>b.lt_len _ (by omega)⟩
theorem N8 {p:Int} (b:Fp p):nz b 0=b:=Pol.ext fun j=>by show b.c (0+j)=b.c j; rw [bi]
theorem Tp {p:Int} (b:Fp p):nz b b.len=0:=Pol.ext fun j=>b.lt_len _ (by omega)
theorem Nx {p:Int} (b:Fp p) (i:Nat):nz b i=Pol.X*nz b (i+1)+Pol.C (b.c i):=Pol.ext fun j=>by
 rw [Pol.c_add,Pol.c_Xmul,Pol.c_C];show b.c (i+j)=(if j=0 then 0 else b.c (i+1+(j-1)))+if j=0 then b.c i else 0
 by_cases h:j=0
 ·subst h; rw [if_pos rfl,if_pos rfl,Gq.zero_add]; rfl
 ·rw [if_neg h,if_neg h,Gq.add_zero,show i+1+(j-1)=i+j by omega]
theorem Gn {O:ah} (hu:Rb O) (ha:qu O) (hmo:vm O) {p:Int} [IsP p] {a b m:Fp p} {z:List Int} (hm:m≠0) (hml:m.len≤64) (hal:a.len≤64) (hbl:b.len≤64):∀(n:Nat),n≤b.len →
 dn O 0 (.loop Z2p_L0) ⟨[(0,(.d (.int .i64 p))),(5,.ptr 0 []),(6,.ptr 1 []),(7,.ptr 2 []),(8,.ptr 3 []),(9,.ptr 4 []),(10,(.d (.int .i64 ((n:Int)-1))))],[.box false (D.arr 64 .leaf (am .u8 (pad (row a)))),.box false (D.arr 64 .leaf (am .u8 (pad (row b)))),.box false (D.arr 64 .leaf (am .u8 (pad (row m)))),.box false (D.arr 64 .leaf (am .u8 z)),.box false (D.arr 64 .leaf (am .u8 (pad (row (a*nz b n%m)))))]⟩ =
  some (.exit 0,⟨[(0,(.d (.int .i64 p))),(5,.ptr 0 []),(6,.ptr 1 []),(7,.ptr 2 []),(8,.ptr 3 []),(9,.ptr 4 []),(10,(.d (.int .i64 (-1)))),(15,(.d (.bool false)))],[.box false (D.arr 64 .leaf (am .u8 (pad (row a)))),.box false (D.arr 64 .leaf (am .u8 (pad (row b)))),.box false (D.arr 64 .leaf (am .u8 (pad (row m)))),.box false (D.arr 64 .leaf (am .u8 z)),.box false (D.arr 64 .leaf (am .u8 (pad (row (a*b%m)))))]⟩)
 | 0,_=>by
  rw [N8];exact bv (by simp -implicitDefEqProofs [Z2p_L0,ao])
 | n+1,hn=>by
  have hp:=IsP.pos (p:=p);have hp7:=IsP.le (p:=p);have hlr:=Pol.len_mod (a*nz b (n+1)) hm;have hr:=ka (b.c n);have e1:=hu p (a*nz b (n+1)%m) m hm hlr hml;have hl2:=Pol.len_mod (Pol.X*(a*nz b (n+1)%m)) hm;have e2:=ha p (rep (b.c n)) (Pol.X*(a*nz b (n+1)%m)%m) a (by omega) (by omega) (by omega) hal
  rw [ja] at e2;have hl3:=Pol.len_add_le (a:=Pol.X*(a*nz b (n+1)%m)%m) (b:=Pol.C (b.c n)*a) (n:=64) (by omega) (ni (Pol.len_le (Pol.lt_Cmul _ a.lt_len)) hal)
  have e3:=hmo p (Pol.X*(a*nz b (n+1)%m)%m+Pol.C (b.c n)*a) m hm hl3 hml
  have e4:(Pol.X*(a*nz b (n+1)%m)%m+Pol.C (b.c n)*a)%m=a*nz b n%m:=by
   rw [Nx b n,Pol.mod_eq_iff hm,Quo.mk_add,Pol.mk_mod,Quo.mk_mul,Pol.mk_mod,←Quo.mk_mul,←Quo.mk_add]
   congr 1
   exact bf [Pol.X,a,nz b (n+1),Pol.C (b.c n)] rfl
  rw [e4] at e3;have t0:(((n+1:Nat):Int)-1)=(n:Int):=by omega
  rw [t0];have hn64:n<64:=by omega
  have hx:(pad (row b))[n]? = some (rep (b.c n)):=by rw [ov _ _ hn64,fg]
  have w1:IntKind.i64.wrap (rep (b.c n))=rep (b.c n):=w64 (by omega)
  have w2:IntKind.i64.wrap ((n:Int)-1)=(n:Int)-1:=w64 (by omega)
  refine bq ?_ (Gn hu ha hmo hm hml hal hbl n (by omega))
  generalize pad (row (a*nz b n%m))=R at *;generalize pad (row (a*nz b (n+1)%m))=R1 at *;generalize pad (row (Pol.X*(a*nz b (n+1)%m)%m+Pol.C (b.c n)*a))=R2 at *;generalize pad (row (Pol.X*(a*nz b (n+1)%m)%m))=R3 at *;generalize pad (row a)=PA at *;generalize pad (row b)=PB at *;generalize pad (row m)=PM at *;simp -implicitDefEqProofs [Z2p_L0,ao,e1,e2,e3,hn64,hx,w1,w2]
def mh (O:ah):Prop:=∀(p:Int) [IsP p] (a b m:Fp p),m≠0→m.len≤64→a.len≤64→b.len≤64 →
 ask O F2p [(D.int .i64 p),(D.arr 64 .leaf (am .u8 (pad (row a)))),(D.arr 64 .leaf (am .u8 (pad (row b)))),(D.arr 64 .leaf (am .u8 (pad (row m))))]=some (D.arr 64 .leaf (am .u8 (pad (row (a*b%m)))))
theorem Sa (hT:T F2p=some Z2p) (hd:iz (den T A)) (hu:Rb (den T A)) (ha:qu (den T A)) (hmo:vm (den T A)):mh (den T A):=by
 intro p i a b m hm hml hal hbl;have e1:=hd p b hbl;have e2:=Gn (O:=den T A) (z:=pad []) hu ha hmo hm hml hal hbl b.len (b9 _);rw [Tp,Gq.mul_zero,Pol.zero_mod hm,dt] at e2;refine bu hT rfl ?_;generalize pad (row (a*b%m))=R at *;generalize pad (row a)=PA at *;generalize pad (row b)=PB at *;generalize pad (row m)=PM at *;simp -implicitDefEqProofs [Z2p,Z2p_B,e1,e2]
theorem a3d {O:ah} (hmm:mh O) {p:Int} [IsP p] {m:Fp p} {z:List Int} {hol:Blk} (hh:hol=.hole) (hm:m≠0) (hml:m.len≤64):∀(n:Nat) (k:Int) (out base:Fp p),0≤k→k.toNat<2^n→k<4611686018427387904→out.len<m.len→base.len<m.len→∃base':List Int,
 dn O 0 (.loop Z2r_L0) ⟨[(0,(.d (.int .i64 p))),(2,(.d (.int .i64 k))),(7,.ptr 1 []),(8,.ptr 2 []),(9,.ptr 3 []),(10,.ptr 4 [])],[hol,.box false (D.arr 64 .leaf (am .u8 (pad (row m)))),.box false (D.arr 64 .leaf (am .u8 z)),.box false (D.arr 64 .leaf (am .u8 (pad (row out)))),.box false (D.arr 64 .leaf (am .u8 (pad (row base))))]⟩ =
  some (.exit 0,⟨[(0,(.d (.int .i64 p))),(2,(.d (.int .i64 0))),(7,.ptr 1 []),(8,.ptr 2 []),(9,.ptr 3 []),(10,.ptr 4 []),(20,(.d (.bool false)))],[hol,.box false (D.arr 64 .leaf (am .u8 (pad (row m)))),.box false (D.arr 64 .leaf (am .u8 z)),.box false (D.arr 64 .leaf (am .u8 (pad (row (out*pw base k.toNat%m))))),.box false (D.arr 64 .leaf (am .u8 base'))]⟩):=by
 intro n
 induction n with
 | zero=>
  intro k out base hk hn _ ho hb;obtain rfl:k=0:=by simp at hn; omega
  refine ⟨pad (row base),?_⟩
  have e:out*pw base (0:Int).toNat%m=out:=by
   show out*1%m=out;rw [Gq.mul_one,Pol.mod_small ho]
  rw [e];subst hh;exact bv (by simp -implicitDefEqProofs [Z2r_L0,ao])
 | succ n ih=>
  intro k out base hk hn hkm ho hb
  by_cases h0:k=0
  ·subst h0
   refine ⟨pad (row base),?_⟩
   have e:out*pw base (0:Int).toNat%m=out:=by
    show out*1%m=out;rw [Gq.mul_one,Pol.mod_small ho]
   rw [e];subst hh;exact bv (by simp -implicitDefEqProofs [Z2r_L0,ao])
  ·have hkp:0<k:=by omega
   have t1:=hmm p out base m hm hml (by omega) (by omega)
   have t2:=hmm p base base m hm hml (by omega) (by omega)
   have s:=Pol.bin_step (out:=out) (base:=base) hm k.toNat (by omega)
   have hdiv:(k/2).toNat=k.toNat/2:=by omega
   obtain ⟨b',e⟩:=ih (k/2) (if k.toNat%2=1 then out*base%m else out) (base*base%m) (by omega) (by rw [lc] at hn; omega) (by omega) (by split; exact Pol.len_mod _ hm; exact ho) (Pol.len_mod _ hm)
   rw [hdiv,s] at e;refine ⟨b',bq ?_ e⟩;subst hh;have w1:IntKind.i64.wrap (k.tdiv 2)=k/2:=by rw [Int.tdiv_eq_ediv_of_nonneg hk,w64 (by omega)]
   have w2:k.tmod 2=k%2:=cd hk
   by_cases hodd:k%2=1
   ·rw [if_pos (show k.toNat%2=1 by omega)]
    generalize pad (row (out*base%m))=R1 at *;generalize pad (row (base*base%m))=R2 at *;generalize pad (row out)=R3 at *;generalize pad (row base)=R4 at *;generalize pad (row m)=R5 at *;simp -implicitDefEqProofs [Z2r_L0,ao,hkp,t1,t2,w1,w2,hodd]
   ·rw [if_neg (show ¬ k.toNat%2=1 by omega)]
    generalize pad (row (base*base%m))=R2 at *;generalize pad (row out)=R3 at *;generalize pad (row base)=R4 at *;generalize pad (row m)=R5 at *;simp -implicitDefEqProofs [Z2r_L0,ao,hkp,t2,w1,w2,hodd]
def qa (O:ah):Prop:=∀(p:Int) [IsP p] (a:Fp p) (k:Int) (m:Fp p),m≠0→a.len≤64→m.len≤64→0≤k→k<4611686018427387904 →
 ask O F2r [(D.int .i64 p),(D.arr 64 .leaf (am .u8 (pad (row a)))),(D.int .i64 k),(D.arr 64 .leaf (am .u8 (pad (row m))))]=some (D.arr 64 .leaf (am .u8 (pad (row (pw a k.toNat%m)))))
theorem S6 (hT:T F2r=some Z2r) (h1:zt (den T A)) (hmo:vm (den T A)) (hmm:mh (den T A)):qa (den T A):=by
 intro p i a k m hm hal hml hk hkm;have e1:=h1 p;have e2:=hmo p 1 m hm (by rw [Pol.len_one]; omega) hml
 have e3:=hmo p a m hm hal hml;obtain ⟨b',e⟩:=a3d (O:=den T A) hmm (z:=pad []) (hol:=.hole) rfl hm hml 62 k (1%m) (a%m) hk (by omega) hkm (Pol.len_mod _ hm) (Pol.len_mod _ hm)
 have e4:1%m*pw (a%m) k.toNat%m=pw a k.toNat%m:=by
  rw [Pol.mul_mod_left _ _ hm,Gq.one_mul,Pol.pow_mod _ hm]
 rw [e4] at e;refine bu hT rfl ?_;generalize pad (row (pw a k.toNat%m))=R at *;generalize pad (row (1%m))=R1 at *;generalize pad (row (a%m))=R2 at *;generalize pad (row (1:Fp p))=R3 at *;generalize pad (row a)=PA at *;generalize pad (row m)=PM at *;simp -implicitDefEqProofs [Z2r,Z2r_B,e1,e2,e3,e]
end Pe

namespace Pe
open Go Gq
section
variable {p:Int} [IsP p]
noncomputable def frW (m:Fp p) (k:Nat):Fp p:=pw Pol.X (p.toNat^k)%m-Pol.X
theorem W1 {m q:Fp p} (_hm:m≠0) (hq:Dv q m) (k:Nat):Dv q (frW m k)↔Dv q (frT p k):=by
 have h1:frT p k=frW m k+pw Pol.X (p.toNat^k)/m*m:=by
  have h:=Pol.div_mod (pw Pol.X (p.toNat^k)) m;show pw Pol.X (p.toNat^k)-Pol.X=pw Pol.X (p.toNat^k)%m-Pol.X+pw Pol.X (p.toNat^k)/m*m;generalize pw Pol.X (p.toNat^k)%m=R at *;generalize pw Pol.X (p.toNat^k)/m=Q at *;rw [h];exact bf [Q,m,R,Pol.X] rfl
 have h2:Dv q (pw Pol.X (p.toNat^k)/m*m):=hq.mul_left _;constructor
 ·intro h; rw [h1]; exact h.add h2
 ·intro h
  have:=h.sub h2;rw [h1] at this;have e:frW m k+pw Pol.X (p.toNat^k)/m*m-pw Pol.X (p.toNat^k)/m*m=frW m k:=bf [frW m k,pw Pol.X (p.toNat^k)/m,m] rfl
  rwa [e] at this
theorem Vh {m:Fp p} (h2:2≤m.len) (h13:m.len≤13):(∀k,1≤k→2*k≤m.len-1→(Pol.gcd m (frW m k)).len=1)↔Irr m:=by
 have hm:m≠0:=fun h=>by rw [h,Pol.len_zero] at h2; omega
 have small:∀d,d≤12→p^d<1000000000000:=fun d hd=>by
  have h1:=kr (p:=p) (by have:=IsP.pos (p:=p); omega) hd
  have h7:=ot (p:=p) (n:=12) (by omega)
  omega
 constructor
 ·intro h
  refine vg (n:=(m.len-1)/2+1) (fun q hq hd=>?_) h2 (by omega)
  rcases cn ((m.len-1)/2+1) q.len with g | g
  ·omega
  ·exfalso
   have hl:=hq.len;have h1:=h (q.len-1) (by omega) (by omega)
   have h3:Dv q (frT p (q.len-1)):=Qe hq (by omega) (small _ (by omega))
   have h4:=Pol.dv_gcd (.inl hm) hd ((W1 hm hd _).2 h3);have h5:=h4.len (fun h0=>by rw [h0,Pol.len_zero] at h1; omega)
   omega
 ·intro hi k hk hk2
  by_cases hd:Dv m (frW m k)
  ·have h3:=(W1 hm (Dv.refl m) k).1 hd
   have:=E8 hi (d:=m.len-1) (by omega) (small _ (by omega)) hk h3
   omega
  ·obtain ⟨u,v,e⟩:=hi.coprime hd
   have h1:=Pol.gcd_dv_left (a:=m) (b:=frW m k) (.inl hm);have h3:=Pol.gcd_dv_right (a:=m) (b:=frW m k) (.inl hm)
   have h4:Dv (Pol.gcd m (frW m k)) 1:=by
    rw [←e];exact (h1.mul_left u).add (h3.mul_left v)
   have h5:=h4.len Pol.one_ne;rw [Pol.len_one] at h5;have h6:=Pol.len_pos (Pol.gcd_monic (a:=m) (b:=frW m k) (.inl hm)).2;omega
theorem a0r {m:Fp p} (hi:Irr m) (hm:Monic m):IsFac m [(m,1)] where
 ok:=⟨fun x hx=>by simp only [bj] at hx; subst hx; exact ⟨hi,hm,b9 1⟩,ec _ _⟩
 sorted:=ec _ _
 eq:=by
  rw [hm.1,Pol.C_one,Gq.one_mul];show m=pw m 1*1;rw [yu,Gq.mul_one]
theorem a1n {m:Fp p} {L:jf p} (hm:Monic m) (h:IsFac m L):(∃q,L=[(q,1)])↔Irr m:=by
 constructor
 ·rintro ⟨q,rfl⟩
  have e:=h.eq;rw [hm.1,Pol.C_one,Gq.one_mul] at e
  have e2:iq [(q,1)]=q:=by
   show pw q 1*1=q;rw [yu,Gq.mul_one]
  rw [e2] at e;rw [e];exact (h.ok.irr (q,1) (by simp)).1
 ·intro hi
  exact ⟨m,h.unique hm.2 (a0r hi hm)⟩
end
end Pe

namespace Pe
open Go Gq
variable {T:Nat→Option Fn} {A:ah}
section
variable {p:Int}
def Bl (a:Fp p) (i:Nat):Fp p:=⟨fun n=>if n<i then a.c n else 0,i,fun n hn=>if_neg (by omega)⟩
theorem I9 (a:Fp p) (i n:Nat):(Bl a i).c n=if n<i then a.c n else 0:=rfl
theorem Ex (a:Fp p):Bl a 0=0:=Pol.ext fun n=>by rw [I9,if_neg (by omega)]; rfl
theorem Je (a:Fp p):Bl a a.len=a:=Pol.ext fun n=>by
 rw [I9]
 split
 ·rfl
 ·rename_i h; exact (a.lt_len n (by omega)).symm
end
section
variable {p:Int} [IsP p]
theorem Xt (k:Zp p) (n i:Nat):(Pol.mo k n).c i=if i=n then k else 0:=rfl
theorem A2 (a:Fp p) (i:Nat):Bl a (i+1)=Bl a i+Pol.mo (a.c i) i:=Pol.ext fun n=>by
 rw [Pol.c_add,I9,I9,Xt]
 by_cases h:n=i
 ·subst h; rw [if_pos (by omega),if_neg (by omega),if_pos rfl,Gq.zero_add]
 ·rw [if_neg h,Gq.add_zero]
  by_cases h2:n<i
  ·rw [if_pos (by omega),if_pos h2]
  ·rw [if_neg (by omega),if_neg h2]
theorem a04 (n:Nat):(Pol.mo 0 n:Fp p)=0:=Pol.ext fun i=>by rw [Xt]; split <;> rfl
theorem a5t (k l:Zp p) (n m:Nat):(Pol.mo k n*Pol.mo l m:Fp p)=Pol.mo (k*l) (n+m):=Pol.ext fun i=>by
 rw [Lq,Xt,Xt]
 by_cases h:n≤i
 ·rw [if_pos h]
  by_cases h2:i-n=m
  ·rw [if_pos h2,if_pos (by omega)]
  ·rw [if_neg h2,if_neg (by omega),Gq.mul_zero]
 ·rw [if_neg h,if_neg (by omega)]
theorem En {cur:List Int} {k:Nat} (h:k<cur.length) (t:Int):ep p (cur.set k ((cf cur k+t)%p))=ep p cur+Pol.mo (zp p t) k:=Pol.ext fun j=>by
 rw [Pol.c_add,gn,gn,s9,Xt]
 by_cases h1:j=k
 ·subst h1
  rw [if_pos ⟨rfl,h⟩,if_pos rfl,te,Ns]
 ·rw [if_neg (by omega),if_neg h1,Gq.add_zero]
end
theorem Ud {O:ah} {p:Int} [IsP p] {a b:Fp p} {z:List Int} {n i:Nat} (hn:n<64) (hi:i<a.len) (hal:a.len≤64) (hbl:b.len≤64) (hab:a.len+b.len≤65) (hb1:0<b.len) (hai:a.c i≠0) {P:Fp p} {vn:V} (hvn:vn.refs=[]):∀(m j:Nat) (cur:List Int),j+m=b.len→cur.length=64→Can p cur→ep p cur=P+Pol.mo (a.c i) i*Bl b j→∃cur':List Int,cur'.length=64∧Can p cur'∧ep p cur'=P+Pol.mo (a.c i) i*b ∧
 dn O 0 (.loop Z2u_L0) ⟨[(0,(.d (.int .i64 p))),(4,.ptr 0 []),(5,.ptr 1 []),(6,.ptr 2 []),(8,vn),(9,(.d (.int .i64 (((b.len-1:Nat):Int))))),(10,.ptr 3 []),(11,(.d (.int .i64 i))),(12,(.d (.int .i64 j)))],[.box false (D.arr 64 .leaf (am .u8 (pad (row a)))),.box false (D.arr 64 .leaf (am .u8 (pad (row b)))),.box false (D.arr 64 .leaf (am .u8 z)),.box false (D.arr 64 .leaf (am .u8 cur))]⟩ =
  some (.exit 2,⟨[(0,(.d (.int .i64 p))),(4,.ptr 0 []),(5,.ptr 1 []),(6,.ptr 2 []),(8,vn),(9,(.d (.int .i64 (((b.len-1:Nat):Int))))),(10,.ptr 3 []),(11,(.d (.int .i64 i))),(12,(.d (.int .i64 b.len))),(43,(.d (.bool false)))],[.box false (D.arr 64 .leaf (am .u8 (pad (row a)))),.box false (D.arr 64 .leaf (am .u8 (pad (row b)))),.box false (D.arr 64 .leaf (am .u8 z)),.box false (D.arr 64 .leaf (am .u8 cur'))]⟩)
 | 0,j,cur,hj,hc,hcan,he=>by
  obtain rfl:j=b.len:=by omega
  rw [Je] at he;have hlt:¬ (b.len:Int)≤((b.len-1:Nat):Int):=by omega
  refine ⟨cur,hc,hcan,he,bv ?_⟩;generalize ((b.len-1:Nat):Int)=m1 at *;generalize pad (row a)=PA at *;generalize pad (row b)=PB at *;simp -implicitDefEqProofs [Z2u_L0,ao,hlt,hvn]
 | m+1,j,cur,hj,hc,hcan,he=>by
  have hp:=IsP.pos (p:=p);have hp7:=IsP.le (p:=p);have hp0:p≠0:=by omega
  have hlt:(j:Int)≤((b.len-1:Nat):Int):=by omega
  have hi64:i<64:=by omega
  have hj64:j<64:=by omega
  have hij:i+j<64:=by omega
  have hs0:(0:Int)≤(i:Int)+j:=by omega
  have hs1:((i:Int)+j).toNat=i+j:=by omega
  have hx:(pad (row a))[i]? = some (rep (a.c i)):=by rw [ov _ _ hi64,fg]
  have hy:(pad (row b))[j]? = some (rep (b.c j)):=by rw [ov _ _ hj64,fg]
  have hx0:rep (a.c i)≠0:=fun h=>hai (gv.1 h)
  have hr1:=ka (a.c i);have hr2:=ka (b.c j);have hkc:i+j<cur.length:=by omega
  have hw:cur[i+j]=cf cur (i+j):=(e8 hkc).symm;have gc:=hcan.le hp (i+j);have gm:=gw (x:=rep (a.c i)) (y:=rep (b.c j)) (b:=10) (c:=10) (by omega) (by omega) (by omega)
  have gm0:=eg hr1.1 hr2.1;have w0:IntKind.i64.wrap ((i:Int)+j)=((i+j:Nat):Int):=(w64 (x:=(i:Int)+j) (by omega)).trans (by omega)
  have w1:IntKind.i64.wrap (rep (a.c i))=rep (a.c i):=w64 (by omega)
  have w2:IntKind.i64.wrap (rep (b.c j))=rep (b.c j):=w64 (by omega)
  have w3:IntKind.i64.wrap (cf cur (i+j))=cf cur (i+j):=w64 (by omega)
  have w4:IntKind.i64.wrap (rep (a.c i)*rep (b.c j))=rep (a.c i)*rep (b.c j):=w64 (by omega)
  have w5:IntKind.i64.wrap (cf cur (i+j)+rep (a.c i)*rep (b.c j))=cf cur (i+j)+rep (a.c i)*rep (b.c j):=w64 (by omega)
  have w6:(cf cur (i+j)+rep (a.c i)*rep (b.c j)).tmod p=(cf cur (i+j)+rep (a.c i)*rep (b.c j))%p:=cd (by omega)
  have hin:=db (cf cur (i+j)+rep (a.c i)*rep (b.c j)) hp0;have hin2:=cl (cf cur (i+j)+rep (a.c i)*rep (b.c j)) hp;have w7:IntKind.u8.wrap ((cf cur (i+j)+rep (a.c i)*rep (b.c j))%p)=(cf cur (i+j)+rep (a.c i)*rep (b.c j))%p:=w8 (by omega)
  have w8':IntKind.i64.wrap ((j:Int)+1)=((j+1:Nat):Int):=(w64 (x:=(j:Int)+1) (by omega)).trans (by omega)
  have hnew:ep p (cur.set (i+j) ((cf cur (i+j)+rep (a.c i)*rep (b.c j))%p))=P+Pol.mo (a.c i) i*Bl b (j+1):=by
   rw [En hkc,he,xt,ja,ja,A2,Gq.mul_add,a5t,Gq.add_assoc]
  have hcan':Can p (cur.set (i+j) ((cf cur (i+j)+rep (a.c i)*rep (b.c j))%p)):=fun x hx=>by
   rcases dd hx with h | rfl
   ·exact hcan x h
   ·exact ⟨hin,hin2⟩
  obtain ⟨cur',g1,g2,g3,g4⟩:=Ud (O:=O) (z:=z) hn hi hal hbl hab hb1 hai hvn m (j+1) (cur.set (i+j) ((cf cur (i+j)+rep (a.c i)*rep (b.c j))%p)) (by omega) (by rw [br]; exact hc) hcan' hnew
  have hs:am .u8 (cur.set (i+j) ((cf cur (i+j)+rep (a.c i)*rep (b.c j))%p))=(am .u8 cur).set (i+j) (D.int .u8 ((cf cur (i+j)+rep (a.c i)*rep (b.c j))%p)):=by unfold am; rw [ua]
  rw [hs] at g4;refine ⟨cur',g1,g2,g3,bq ?_ g4⟩;generalize (cf cur (i+j)+rep (a.c i)*rep (b.c j))%p=W at *;generalize ((b.len-1:Nat):Int)=m1 at *;generalize pad (row a)=PA at *;generalize pad (row b)=PB at *;simp -implicitDefEqProofs [Z2u_L0,ao,hlt,hi64,hj64,hij,hs0,hs1,hx,hy,hx0,hc,hw,w0,w1,w2,w3,w4,w5,w6,w7,w8',hp0,hvn]
theorem Ms {O:ah} {p:Int} [IsP p] {a b:Fp p} {z:List Int} (hal:a.len≤64) (hbl:b.len≤64) (hab:a.len+b.len≤65) (ha1:0<a.len) (hb1:0<b.len):∀(m i:Nat) (cur:List Int),i+m=a.len→cur.length=64→Can p cur→ep p cur=Bl a i*b→∃cur':List Int,cur'.length=64∧Can p cur'∧ep p cur'=a*b ∧
 dn O 0 (.loop Z2u_L1) ⟨[(0,(.d (.int .i64 p))),(4,.ptr 0 []),(5,.ptr 1 []),(6,.ptr 2 []),(8,(.d (.int .i64 (((a.len-1:Nat):Int))))),(9,(.d (.int .i64 (((b.len-1:Nat):Int))))),(10,.ptr 3 []),(11,(.d (.int .i64 i)))],[.box false (D.arr 64 .leaf (am .u8 (pad (row a)))),.box false (D.arr 64 .leaf (am .u8 (pad (row b)))),.box false (D.arr 64 .leaf (am .u8 z)),.box false (D.arr 64 .leaf (am .u8 cur))]⟩ =
  some (.exit 0,⟨[(0,(.d (.int .i64 p))),(4,.ptr 0 []),(5,.ptr 1 []),(6,.ptr 2 []),(8,(.d (.int .i64 (((a.len-1:Nat):Int))))),(9,(.d (.int .i64 (((b.len-1:Nat):Int))))),(10,.ptr 3 []),(11,(.d (.int .i64 a.len))),(32,(.d (.bool false)))],[.box false (D.arr 64 .leaf (am .u8 (pad (row a)))),.box false (D.arr 64 .leaf (am .u8 (pad (row b)))),.box false (D.arr 64 .leaf (am .u8 z)),.box false (D.arr 64 .leaf (am .u8 cur'))]⟩)
 | 0,i,cur,hi,hc,hcan,he=>by
  obtain rfl:i=a.len:=by omega
  rw [Je] at he;have hlt:¬ (a.len:Int)≤((a.len-1:Nat):Int):=by omega
  refine ⟨cur,hc,hcan,he,bv ?_⟩;generalize ((b.len-1:Nat):Int)=m1 at *;generalize ((a.len-1:Nat):Int)=n1 at *;generalize pad (row a)=PA at *;generalize pad (row b)=PB at *;simp -implicitDefEqProofs [Z2u_L1,ao,hlt]
 | m+1,i,cur,hi,hc,hcan,he=>by
  have hlt:(i:Int)≤((a.len-1:Nat):Int):=by omega
  have hi64:i<64:=by omega
  have w8':IntKind.i64.wrap ((i:Int)+1)=((i+1:Nat):Int):=(w64 (x:=(i:Int)+1) (by omega)).trans (by omega)
  have hx:(pad (row a))[i]? = some (rep (a.c i)):=by rw [ov _ _ hi64,fg]
  by_cases hai:a.c i=0
  ·have hr:rep (a.c i)=0:=gv.2 hai
   have he':ep p cur=Bl a (i+1)*b:=by rw [A2,hai,a04,Gq.add_zero]; exact he
   obtain ⟨cur',g1,g2,g3,g4⟩:=Ms (O:=O) (z:=z) hal hbl hab ha1 hb1 m (i+1) cur (by omega) hc hcan he'
   rw [hr] at hx
   have hin:dn O 0 (.loop Z2u_L0) ⟨[(0,(.d (.int .i64 p))),(4,.ptr 0 []),(5,.ptr 1 []),(6,.ptr 2 []),(8,(.d (.int .i64 (((a.len-1:Nat):Int))))),(9,(.d (.int .i64 (((b.len-1:Nat):Int))))),(10,.ptr 3 []),(11,(.d (.int .i64 i))),(12,(.d (.int .i64 0)))],[.box false (D.arr 64 .leaf (am .u8 (pad (row a)))),.box false (D.arr 64 .leaf (am .u8 (pad (row b)))),.box false (D.arr 64 .leaf (am .u8 z)),.box false (D.arr 64 .leaf (am .u8 cur))]⟩ =
    some (.exit 2,⟨[(0,(.d (.int .i64 p))),(4,.ptr 0 []),(5,.ptr 1 []),(6,.ptr 2 []),(8,(.d (.int .i64 (((a.len-1:Nat):Int))))),(9,(.d (.int .i64 (((b.len-1:Nat):Int))))),(10,.ptr 3 []),(11,(.d (.int .i64 i))),(12,(.d (.int .i64 0))),(43,(.d (.bool false)))],[.box false (D.arr 64 .leaf (am .u8 (pad (row a)))),.box false (D.arr 64 .leaf (am .u8 (pad (row b)))),.box false (D.arr 64 .leaf (am .u8 z)),.box false (D.arr 64 .leaf (am .u8 cur))]⟩):=by
    refine bv ?_;generalize b.len-1=m1 at *;generalize ((a.len-1:Nat):Int)=n1 at *;generalize pad (row a)=PA at *;generalize pad (row b)=PB at *;simp -implicitDefEqProofs [Z2u_L0,ao,hi64,hx]
   refine ⟨cur',g1,g2,g3,bq ?_ g4⟩;generalize ((b.len-1:Nat):Int)=m1 at *;generalize ((a.len-1:Nat):Int)=n1 at *;generalize pad (row a)=PA at *;generalize pad (row b)=PB at *;simp -implicitDefEqProofs [Z2u_L1,ao,hlt,hin,w8']
  ·obtain ⟨cur1,k1,k2,k3,k4⟩:=Ud (O:=O) (z:=z) (n:=0) (i:=i) (by omega) (by omega) hal hbl hab hb1 hai (P:=Bl a i*b) (vn:=(.d (.int .i64 (((a.len-1:Nat):Int))))) rfl b.len 0 cur (bi _) hc hcan (by rw [Ex,Gq.mul_zero,Gq.add_zero]; exact he)
   have e00:((0:Nat):Int)=0:=rfl;rw [e00] at k4
   have he':ep p cur1=Bl a (i+1)*b:=by
    rw [k3,A2];exact bf [Bl a i,b,Pol.mo (a.c i) i] rfl
   obtain ⟨cur',g1,g2,g3,g4⟩:=Ms (O:=O) (z:=z) hal hbl hab ha1 hb1 m (i+1) cur1 (by omega) k1 k2 he'
   refine ⟨cur',g1,g2,g3,bq ?_ g4⟩;generalize ((b.len-1:Nat):Int)=m1 at *;generalize ((a.len-1:Nat):Int)=n1 at *;generalize pad (row a)=PA at *;generalize pad (row b)=PB at *;simp -implicitDefEqProofs [Z2u_L1,ao,hlt,k4,w8']
def sf (O:ah):Prop:=∀(p:Int) [IsP p] (a b:Fp p),a.len≤64→b.len≤64→(a*b).len≤64 →
 ask O F2u [(D.int .i64 p),(D.arr 64 .leaf (am .u8 (pad (row a)))),(D.arr 64 .leaf (am .u8 (pad (row b))))]=some (.tup [(D.arr 64 .leaf (am .u8 (pad (row (a*b))))),(D.bool true)])
theorem Vd (hT:T F2u=some Z2u) (hd:iz (den T A)):sf (den T A):=by
 intro p i a b hal hbl hab;have e1:=hd p a hal;have e2:=hd p b hbl;refine bu hT rfl ?_
 by_cases ha:a=0
 ·subst ha
  rw [Gq.zero_mul,dt];rw [Pol.len_zero,dt] at e1;generalize pad (row b)=PB at *;simp -implicitDefEqProofs [Z2u,Z2u_B,ao,e1,e2,List.replicate]
 ·have ha1:=Pol.len_pos ha
  by_cases hb:b=0
  ·subst hb
   rw [Gq.mul_zero,dt];rw [Pol.len_zero,dt] at e2;have ha2:¬ ((a.len:Int)-1<0):=by omega
   generalize pad (row a)=PA at *;simp -implicitDefEqProofs [Z2u,Z2u_B,ao,e1,e2,ha2,List.replicate]
  ·have hb1:=Pol.len_pos hb
   have hm:=Pol.len_mul ha hb;rw [show ((a.len:Int)-1)=((a.len-1:Nat):Int) by omega] at e1
   rw [show ((b.len:Int)-1)=((b.len-1:Nat):Int) by omega] at e2
   have w1:IntKind.i64.wrap (((a.len-1:Nat):Int)+((b.len-1:Nat):Int))=((a.len-1+(b.len-1):Nat):Int):=(w64 (by omega)).trans (by omega)
   have w2:¬ ((63:Int)<((a.len-1+(b.len-1):Nat):Int)):=by omega
   obtain ⟨cur',g1,g2,g3,g4⟩:=Ms (O:=den T A) (z:=pad []) hal hbl (by omega) ha1 hb1 a.len 0 (pad []) (bi _) (cu _) (by
    have:=tt (0:Fp p); rwa [dt] at this) (by
    rw [Ex,Gq.zero_mul];have:=pv (p:=p) (a:=0) (by rw [Pol.len_zero]; omega)
    rwa [dt] at this)
   have e00:((0:Nat):Int)=0:=rfl;rw [e00] at g4;have hcur:cur'=pad (row (a*b)):=by rw [J3 g2 g1,g3]
   rw [hcur] at g4;have n1:¬ (((a.len-1:Nat):Int)<0):=by omega
   have n2:¬ (((b.len-1:Nat):Int)<0):=by omega
   generalize ((a.len-1+(b.len-1):Nat):Int)=s1 at *;generalize ((b.len-1:Nat):Int)=m1 at *;generalize ((a.len-1:Nat):Int)=k1 at *;generalize pad (row (a*b))=PR at *;generalize pad (row a)=PA at *;generalize pad (row b)=PB at *;simp -implicitDefEqProofs [Z2u,Z2u_B,ao,e1,e2,w1,w2,n1,n2,g4,List.replicate]
structure BzS {p:Int} [IsP p] (A B a b u x v y:Fp p):Prop where
 i:Pol.BzI A B a b u x v y
 la:a.len≤64
 lb:b.len≤64
 lu:u.len≤64
 lv:v.len≤64
 ne:a≠0
theorem BzS.step {p:Int} [IsP p] {A B a b u x v y:Fp p} (h:BzS A B a b u x v y) (hA:A.len≤64) (hB:B.len≤64) (hb:b≠0) :
 BzS A B b (a%b) x (u-a/b*x) y (v-a/b*y)∧x.len≤64∧y.len≤64∧(a/b).len≤64∧(a/b*x).len≤64∧(a/b*y).len≤64∧(a%b).len≤64:=by
 have h1:=h.i.lx;have h2:=h.i.ly;have h3:=Pol.len_pos h.ne;have h4:=Pol.len_pos hb;have h5:=Pol.len_div_le a hb;have h6:=Pol.len_mod_le a hb;obtain ⟨h7,h8⟩:=h.i.qlen hb;have h9:=h.la;have hx:x.len≤64:=by omega
 have hy:y.len≤64:=by omega
 exact ⟨⟨h.i.step hb,h.lb,by omega,hx,hy,hb⟩,hx,hy,by omega,by omega,by omega,by omega⟩
theorem Y6 {O:ah} (hdg:iz O) (hd:o8 O) (ht:sf O) (ha:qu O) {p:Int} [IsP p] {z:List Int} {a b u x v y:Fp p} (h0:b≠0) (ha':a.len≤64) (hb:b.len≤64) (hu:u.len≤64) (hv:v.len≤64) (s1:x.len≤64) (s2:y.len≤64) (s3:(a/b).len≤64) (s4:(a/b*x).len≤64) (s5:(a/b*y).len≤64) :
 dn O 0 Z2f_L0 ⟨[(0,(.d (.int .i64 p))),(4,.ptr 0 []),(5,.ptr 1 []),(6,.ptr 2 []),(7,.ptr 3 []),(8,.ptr 4 []),(9,.ptr 5 []),(10,.ptr 6 []),(11,.ptr 7 []),(12,.ptr 8 [])],[.box false (D.arr 64 .leaf (am .u8 (pad (row a)))),.box false (D.arr 64 .leaf (am .u8 (pad (row b)))),.box false (D.arr 64 .leaf (am .u8 z)),.box false (D.arr 64 .leaf (am .u8 z)),.box false (D.arr 64 .leaf (am .u8 z)),.box false (D.arr 64 .leaf (am .u8 (pad (row u)))),.box false (D.arr 64 .leaf (am .u8 (pad (row x)))),.box false (D.arr 64 .leaf (am .u8 (pad (row v)))),.box false (D.arr 64 .leaf (am .u8 (pad (row y)))),.hole,.hole,.hole,.hole,.hole,.hole]⟩ =
  some (.normal,⟨[(0,(.d (.int .i64 p))),(4,.ptr 0 []),(5,.ptr 1 []),(6,.ptr 2 []),(7,.ptr 3 []),(8,.ptr 4 []),(9,.ptr 5 []),(10,.ptr 6 []),(11,.ptr 7 []),(12,.ptr 8 [])],[.box false (D.arr 64 .leaf (am .u8 (pad (row b)))),.box false (D.arr 64 .leaf (am .u8 (pad (row (a%b))))),.box false (D.arr 64 .leaf (am .u8 z)),.box false (D.arr 64 .leaf (am .u8 z)),.box false (D.arr 64 .leaf (am .u8 z)),.box false (D.arr 64 .leaf (am .u8 (pad (row x)))),.box false (D.arr 64 .leaf (am .u8 (pad (row (u-a/b*x))))),.box false (D.arr 64 .leaf (am .u8 (pad (row y)))),.box false (D.arr 64 .leaf (am .u8 (pad (row (v-a/b*y))))),.hole,.hole,.hole,.hole,.hole,.hole]⟩):=by
 have hp:=Pol.len_pos h0;have e0:=hdg p b hb;have e1:=hd p a b h0 ha' hb;have e2:=ht p (a/b) x s3 s1 s4;have e3:=ha p (-1) u (a/b*x) (by omega) (by omega) hu s4
 have e4:=ht p (a/b) y s3 s2 s5;have e5:=ha p (-1) v (a/b*y) (by omega) (by omega) hv s5
 rw [zh] at e3 e5;have hge:¬ ((b.len:Int)-1<0):=by omega
 have hge2:(0:Int)≤(b.len:Int)-1:=by omega
 have hge3:(1:Int)≤(b.len:Int):=by omega
 generalize pad (row (u-a/b*x))=Pux at *;generalize pad (row (v-a/b*y))=Pvy at *;generalize pad (row (a/b*x))=Pqx at *;generalize pad (row (a/b*y))=Pqy at *;generalize pad (row (a/b))=Pq at *;generalize pad (row (a%b))=Pr at *;generalize pad (row a)=Pa at *;generalize pad (row b)=Pb at *;generalize pad (row u)=Pu at *;generalize pad (row x)=Px at *;generalize pad (row v)=Pv at *;generalize pad (row y)=Py at *;simp -implicitDefEqProofs [Z2f_L0,ao,hge3,e0,e1,e2,e3,e4,e5]
theorem Vw {O:ah} (hdg:iz O) (hd:o8 O) (ht:sf O) (ha:qu O) {p:Int} [IsP p] {A B:Fp p} {z:List Int} (hA:A.len≤64) (hB:B.len≤64):∀(n:Nat) (a b u x v y:Fp p),b.len≤n→BzS A B a b u x v y→∃x' y':List Int,(Pol.bz n a b u x v y).1≠0∧(Pol.bz n a b u x v y).1.len≤64∧(Pol.bz n a b u x v y).2.1.len≤64∧(Pol.bz n a b u x v y).2.2.len≤64 ∧
 dn O 0 (.loop Z2f_L0) ⟨[(0,(.d (.int .i64 p))),(4,.ptr 0 []),(5,.ptr 1 []),(6,.ptr 2 []),(7,.ptr 3 []),(8,.ptr 4 []),(9,.ptr 5 []),(10,.ptr 6 []),(11,.ptr 7 []),(12,.ptr 8 [])],[.box false (D.arr 64 .leaf (am .u8 (pad (row a)))),.box false (D.arr 64 .leaf (am .u8 (pad (row b)))),.box false (D.arr 64 .leaf (am .u8 z)),.box false (D.arr 64 .leaf (am .u8 z)),.box false (D.arr 64 .leaf (am .u8 z)),.box false (D.arr 64 .leaf (am .u8 (pad (row u)))),.box false (D.arr 64 .leaf (am .u8 (pad (row x)))),.box false (D.arr 64 .leaf (am .u8 (pad (row v)))),.box false (D.arr 64 .leaf (am .u8 (pad (row y)))),.hole,.hole,.hole,.hole,.hole,.hole]⟩ =
  some (.exit 0,⟨[(0,(.d (.int .i64 p))),(4,.ptr 0 []),(5,.ptr 1 []),(6,.ptr 2 []),(7,.ptr 3 []),(8,.ptr 4 []),(9,.ptr 5 []),(10,.ptr 6 []),(11,.ptr 7 []),(12,.ptr 8 []),(28,(.d (.bool false)))],[.box false (D.arr 64 .leaf (am .u8 (pad (row (Pol.bz n a b u x v y).1)))),.box false (D.arr 64 .leaf (am .u8 (pad []))),.box false (D.arr 64 .leaf (am .u8 z)),.box false (D.arr 64 .leaf (am .u8 z)),.box false (D.arr 64 .leaf (am .u8 z)),.box false (D.arr 64 .leaf (am .u8 (pad (row (Pol.bz n a b u x v y).2.1)))),.box false (D.arr 64 .leaf (am .u8 x')),.box false (D.arr 64 .leaf (am .u8 (pad (row (Pol.bz n a b u x v y).2.2)))),.box false (D.arr 64 .leaf (am .u8 y')),.hole,.hole,.hole,.hole,.hole,.hole]⟩):=by
 intro n
 have stop:∀(a u x v y:Fp p),dn O 0 (.loop Z2f_L0) ⟨[(0,(.d (.int .i64 p))),(4,.ptr 0 []),(5,.ptr 1 []),(6,.ptr 2 []),(7,.ptr 3 []),(8,.ptr 4 []),(9,.ptr 5 []),(10,.ptr 6 []),(11,.ptr 7 []),(12,.ptr 8 [])],[.box false (D.arr 64 .leaf (am .u8 (pad (row a)))),.box false (D.arr 64 .leaf (am .u8 (pad (row (0:Fp p))))),.box false (D.arr 64 .leaf (am .u8 z)),.box false (D.arr 64 .leaf (am .u8 z)),.box false (D.arr 64 .leaf (am .u8 z)),.box false (D.arr 64 .leaf (am .u8 (pad (row u)))),.box false (D.arr 64 .leaf (am .u8 (pad (row x)))),.box false (D.arr 64 .leaf (am .u8 (pad (row v)))),.box false (D.arr 64 .leaf (am .u8 (pad (row y)))),.hole,.hole,.hole,.hole,.hole,.hole]⟩ =
  some (.exit 0,⟨[(0,(.d (.int .i64 p))),(4,.ptr 0 []),(5,.ptr 1 []),(6,.ptr 2 []),(7,.ptr 3 []),(8,.ptr 4 []),(9,.ptr 5 []),(10,.ptr 6 []),(11,.ptr 7 []),(12,.ptr 8 []),(28,(.d (.bool false)))],[.box false (D.arr 64 .leaf (am .u8 (pad (row a)))),.box false (D.arr 64 .leaf (am .u8 (pad []))),.box false (D.arr 64 .leaf (am .u8 z)),.box false (D.arr 64 .leaf (am .u8 z)),.box false (D.arr 64 .leaf (am .u8 z)),.box false (D.arr 64 .leaf (am .u8 (pad (row u)))),.box false (D.arr 64 .leaf (am .u8 (pad (row x)))),.box false (D.arr 64 .leaf (am .u8 (pad (row v)))),.box false (D.arr 64 .leaf (am .u8 (pad (row y)))),.hole,.hole,.hole,.hole,.hole,.hole]⟩):=by
  intro a u x v y;have e:=hdg p 0 (by rw [Pol.len_zero]; omega)
  rw [dt,Pol.len_zero] at e;rw [dt];refine bv ?_;generalize pad (row a)=Pa;generalize pad (row u)=Pu;generalize pad (row x)=Px;generalize pad (row v)=Pv;generalize pad (row y)=Py;simp -implicitDefEqProofs [Z2f_L0,ao,e]
 induction n with
 | zero=>
  intro a b u x v y hn hs;obtain rfl:=Pol.len_zero_iff.1 (show b.len=0 by omega)
  exact ⟨_,_,hs.ne,hs.la,hs.lu,hs.lv,stop a u x v y⟩
 | succ n ih=>
  intro a b u x v y hn hs;unfold Pol.bz
  by_cases h0:b=0
  ·subst h0
   rw [if_pos rfl];exact ⟨_,_,hs.ne,hs.la,hs.lu,hs.lv,stop a u x v y⟩
  ·rw [if_neg h0]
   obtain ⟨s0,s1,s2,s3,s4,s5,s6⟩:=hs.step hA hB h0;have hl:=Pol.len_mod a h0;have hp:=Pol.len_pos h0;obtain ⟨x',y',g1,g2,g3,g4,e⟩:=ih b (a%b) x (u-a/b*x) y (v-a/b*y) (by omega) s0
   exact ⟨x',y',g1,g2,g3,g4,bq (Y6 hdg hd ht ha h0 hs.la hs.lb hs.lu hs.lv s1 s2 s3 s4 s5) e⟩
theorem a0t {O:ah} (hdg:iz O) (hd:o8 O) (ht:sf O) (ha:qu O) {p:Int} [IsP p] {a b:Fp p} {z:List Int} (h:a≠0∨b≠0) (hal:a.len≤64) (hbl:b.len≤64):∃x' y':List Int,(Pol.bz b.len a b 1 0 0 1).1≠0∧(Pol.bz b.len a b 1 0 0 1).1.len≤64∧(Pol.bz b.len a b 1 0 0 1).2.1.len≤64∧(Pol.bz b.len a b 1 0 0 1).2.2.len≤64 ∧
 dn O 0 (.loop Z2f_L0) ⟨[(0,(.d (.int .i64 p))),(4,.ptr 0 []),(5,.ptr 1 []),(6,.ptr 2 []),(7,.ptr 3 []),(8,.ptr 4 []),(9,.ptr 5 []),(10,.ptr 6 []),(11,.ptr 7 []),(12,.ptr 8 [])],[.box false (D.arr 64 .leaf (am .u8 (pad (row a)))),.box false (D.arr 64 .leaf (am .u8 (pad (row b)))),.box false (D.arr 64 .leaf (am .u8 z)),.box false (D.arr 64 .leaf (am .u8 z)),.box false (D.arr 64 .leaf (am .u8 z)),.box false (D.arr 64 .leaf (am .u8 (pad (row (1:Fp p))))),.box false (D.arr 64 .leaf (am .u8 (pad (row (0:Fp p))))),.box false (D.arr 64 .leaf (am .u8 (pad (row (0:Fp p))))),.box false (D.arr 64 .leaf (am .u8 (pad (row (1:Fp p))))),.hole,.hole,.hole,.hole,.hole,.hole]⟩ =
  some (.exit 0,⟨[(0,(.d (.int .i64 p))),(4,.ptr 0 []),(5,.ptr 1 []),(6,.ptr 2 []),(7,.ptr 3 []),(8,.ptr 4 []),(9,.ptr 5 []),(10,.ptr 6 []),(11,.ptr 7 []),(12,.ptr 8 []),(28,(.d (.bool false)))],[.box false (D.arr 64 .leaf (am .u8 (pad (row (Pol.bz b.len a b 1 0 0 1).1)))),.box false (D.arr 64 .leaf (am .u8 (pad []))),.box false (D.arr 64 .leaf (am .u8 z)),.box false (D.arr 64 .leaf (am .u8 z)),.box false (D.arr 64 .leaf (am .u8 z)),.box false (D.arr 64 .leaf (am .u8 (pad (row (Pol.bz b.len a b 1 0 0 1).2.1)))),.box false (D.arr 64 .leaf (am .u8 x')),.box false (D.arr 64 .leaf (am .u8 (pad (row (Pol.bz b.len a b 1 0 0 1).2.2)))),.box false (D.arr 64 .leaf (am .u8 y')),.hole,.hole,.hole,.hole,.hole,.hole]⟩):=by
 by_cases h0:a=0
 ·subst h0
  have hb:=h.resolve_left (fun h=>h rfl)
  have hp:=Pol.len_pos hb;obtain ⟨k,hk⟩:∃k,b.len=k+1:=⟨b.len-1,by omega⟩
  have h1:(1:Fp p).len=1:=Pol.len_one;have hz:(0:Fp p).len=0:=Pol.len_zero;have hq:(0:Fp p)/b=0:=(Pol.div_mod_eq (a:=(0:Fp p)) (b:=b) (q:=0) (r:=0) (by rw [Gq.zero_mul,Gq.zero_add]) (by omega)).1
  have hs0:∀c:Fp p,c-0=c:=fun c=>by rw [Gq.sub_eq,qv,Gq.add_zero]
  have hr:(0:Fp p)%b=0:=Pol.zero_mod hb;have e:=Y6 (z:=z) hdg hd ht ha (a:=0) (b:=b) (u:=1) (x:=0) (v:=0) (y:=1) hb (by omega) hbl (by omega) (by omega) (by omega) (by omega) (by rw [hq]; omega) (by rw [hq,Gq.zero_mul]; omega) (by rw [hq,Gq.zero_mul]; omega)
  rw [hk];unfold Pol.bz;rw [if_neg hb];rw [hq,hr,Gq.zero_mul,Gq.zero_mul,hs0,hs0] at e ⊢;have hi:Pol.BzI (0:Fp p) b b 0 0 1 1 0:=⟨by rw [Gq.zero_mul,Gq.zero_add,Gq.one_mul],by rw [Gq.mul_zero,Gq.zero_mul,Gq.add_zero],.inr (by omega),.inl hz,.inl hz,.inr (by omega),.inl hb⟩
  obtain ⟨x',y',g1,g2,g3,g4,e2⟩:=Vw (O:=O) (z:=z) hdg hd ht ha (A:=0) (B:=b) (by omega) hbl k b 0 0 1 1 0 (by omega) ⟨hi,hbl,by omega,by omega,by omega,hb⟩
  exact ⟨x',y',g1,g2,g3,g4,bq e e2⟩
 ·exact Vw (O:=O) (z:=z) hdg hd ht ha hal hbl b.len a b 1 0 0 1 (b9 _) ⟨Pol.BzI.init (.inl h0),hal,hbl,by rw [Pol.len_one]; omega,by rw [Pol.len_zero]; omega,h0⟩
def xc (O:ah):Prop:=∀(p:Int) [IsP p] (a b:Fp p),a≠0∨b≠0→a.len≤64→b.len≤64 →
 ask O F2f [(D.int .i64 p),(D.arr 64 .leaf (am .u8 (pad (row a)))),(D.arr 64 .leaf (am .u8 (pad (row b))))]=some (.tup [(D.arr 64 .leaf (am .u8 (pad (row (Pol.bezout a b).1)))),(D.arr 64 .leaf (am .u8 (pad (row (Pol.bezout a b).2.1)))),(D.arr 64 .leaf (am .u8 (pad (row (Pol.bezout a b).2.2))))])
theorem S0 (hT:T F2f=some Z2f) (h1:zt (den T A)) (hdg:iz (den T A)) (hd:o8 (den T A)) (ht:sf (den T A)) (ha:qu (den T A)) (hinv:rj (den T A)):xc (den T A):=by
 intro p i a b h0 hal hbl;have hp:=IsP.ge (p:=p);have hp7:=IsP.le (p:=p);have e1:=h1 p;obtain ⟨x',y',g1,g2,g3,g4,e2⟩:=a0t (O:=den T A) (z:=pad []) hdg hd ht ha h0 hal hbl;unfold Pol.bezout;have heu:Pol.eu a b=Pol.bz b.len a b 1 0 0 1:=rfl;rw [heu];generalize Pol.bz b.len a b 1 0 0 1=R at *;obtain ⟨d,u,v⟩:=R;simp only at g1 g2 g3 g4 e2 ⊢;rw [dt] at e2;have hd1:=Pol.len_pos g1;have e3:=hdg p d g2;rw [show ((d.len:Int)-1)=((d.len-1:Nat):Int) by omega] at e3
 have hi64:d.len-1<64:=by omega
 have hx:(pad (row d))[d.len-1]? = some (rep d.ld):=by rw [ov _ _ hi64,fg]; rfl
 have hr:=ka d.ld;have hr0:rep d.ld≠0:=fun h=>Pol.ld_ne g1 (gv.1 h)
 have hin:=y0 p (rep d.ld);have e4:=hinv p (rep d.ld) (by omega) hr.2
 have w1:IntKind.i64.wrap (inv p (rep d.ld))=inv p (rep d.ld):=w64 (by omega)
 have z0:(0:Fp p).len≤64:=by rw [Pol.len_zero]; omega
 have e5:=ha p (inv p (rep d.ld)) 0 d (by omega) (by omega) z0 g2
 have e6:=ha p (inv p (rep d.ld)) 0 u (by omega) (by omega) z0 g3
 have e7:=ha p (inv p (rep d.ld)) 0 v (by omega) (by omega) z0 g4
 rw [uj _ (Pol.ld_ne g1),Gq.zero_add,dt] at e5 e6 e7;refine bu hT rfl ?_;generalize pad (row (Pol.C (Fd.inv d.ld)*d))=P1 at *;generalize pad (row (Pol.C (Fd.inv d.ld)*u))=P2 at *;generalize pad (row (Pol.C (Fd.inv d.ld)*v))=P3 at *;generalize pad (row d)=Pd at *;generalize pad (row u)=Pu at *;generalize pad (row v)=Pv at *;generalize pad (row a)=Pa at *;generalize pad (row b)=Pb at *;generalize pad (row (1:Fp p))=P0 at *;generalize d.len-1=n1 at *;simp -implicitDefEqProofs [Z2f,Z2f_B,e1,e2,e3,e4,e5,e6,e7,hi64,hx,w1,List.replicate]
def If (O:ah):Prop:=∀(p:Int) [IsP p] (a b:Fp p),a≠0→a.len≤64→b.len≤64 →
 ask O F2i [(D.int .i64 p),(D.arr 64 .leaf (am .u8 (pad (row a)))),(D.arr 64 .leaf (am .u8 (pad (row b))))]=some (D.arr 64 .leaf (am .u8 (pad (row (Pol.gcd a b)))))
theorem a3g (hT:T F2i=some Z2i) (hdg:iz (den T A)) (hb:xc (den T A)):If (den T A):=by
 intro p i a b h0 hal hbl;have e1:=hdg p a hal;have e2:=hb p a b (.inl h0) hal hbl;have hp:=Pol.len_pos h0;have hge:¬ ((a.len:Int)-1<0):=by omega
 refine bu hT rfl ?_;unfold Pol.gcd;generalize pad (row (Pol.bezout a b).1)=P1 at *;generalize pad (row (Pol.bezout a b).2.1)=P2 at *;generalize pad (row (Pol.bezout a b).2.2)=P3 at *;generalize pad (row a)=Pa at *;generalize pad (row b)=Pb at *;generalize (a.len:Int)-1=n1 at *;simp -implicitDefEqProofs [Z2i,Z2i_B,ao,e1,e2,hge,List.replicate]
def Yq (O:ah):Prop:=∀(p:Int) [IsP p],ask O F2t []=some (D.arr 64 .leaf (am .u8 (pad (row (Pol.X:Fp p)))))
theorem abw (hT:T F2t=some Z2t):Yq (den T A):=by
 intro p i;have e:((pad []).set 0 0).set 1 1=pad [0,1]:=by decide +kernel
 have h0:(pad [])[0]? = some 0:=by decide +kernel
 have h1:(pad [])[1]? = some 0:=by decide +kernel
 rw [a21];refine bu hT rfl ?_;simp -implicitDefEqProofs [Z2t,Z2t_B,e,h0,h1]
open Classical in
theorem Wk {O:ah} (hdg:iz O) (hpw:qa O) (hg:If O) (ha:qu O) (ht:Yq O) {p:Int} [IsP p] {m:Fp p} (hm:m≠0) (hml:m.len≤13) {n:Nat} (hn:n+1=m.len):∀(f k:Nat),1≤k→k+f=n/2+1→∃P':List Int,
 dn O 0 (.loop Z2l_L0) ⟨[(0,(.d (.int .i64 p))),(3,.ptr 0 []),(5,(.d (.int .i64 n))),(6,.ptr 1 []),(7,(.d (.int .i64 k)))],[.box false (D.arr 64 .leaf (am .u8 (pad (row m)))),.box false (D.arr 64 .leaf (am .u8 (pad (row (pw Pol.X (p.toNat^(k-1))%m)))))]⟩ =
  if ∀k',k≤k'→2*k'≤n→(Pol.gcd m (frW m k')).len=1 then some (.exit 0,⟨[(0,(.d (.int .i64 p))),(3,.ptr 0 []),(5,(.d (.int .i64 n))),(6,.ptr 1 []),(7,(.d (.int .i64 (((n/2+1:Nat):Int))))),(19,(.d (.bool false)))],[.box false (D.arr 64 .leaf (am .u8 (pad (row m)))),.box false (D.arr 64 .leaf (am .u8 P'))]⟩)
  else some (.ret,⟨[(4,(.d (.bool false)))],[.hole,.hole]⟩)
 | 0,k,hk,hf=>by
  obtain rfl:k=n/2+1:=by omega
  refine ⟨pad (row (pw Pol.X (p.toNat^(n/2+1-1))%m)),?_⟩;rw [if_pos (fun k' h1 h2=>by omega)]
  have w1:IntKind.i64.wrap (2*((n/2+1:Nat):Int))=2*((n/2+1:Nat):Int):=w64 (by omega)
  have hlt:¬ (2*((n/2+1:Nat):Int)≤n):=by omega
  refine bv ?_;generalize ((n/2+1:Nat):Int)=k1 at *;generalize pad (row (pw Pol.X (p.toNat^(n/2+1-1))%m))=P1 at *;generalize pad (row m)=Pm at *;simp -implicitDefEqProofs [Z2l_L0,ao,w1,hlt]
 | f+1,k,hk,hf=>by
  have hp:=IsP.pos (p:=p);have hp7:=IsP.le (p:=p);have w1:IntKind.i64.wrap (2*(k:Int))=2*(k:Int):=w64 (by omega)
  have hlt:2*(k:Int)≤n:=by omega
  have w4:IntKind.i64.wrap ((k:Int)+1)=((k+1:Nat):Int):=(w64 (x:=(k:Int)+1) (by omega)).trans (by omega)
  have hl1:=Pol.len_mod (pw Pol.X (p.toNat^(k-1))) hm;have hl2:=Pol.len_mod (pw Pol.X (p.toNat^k)) hm;have e1:=hpw p (pw Pol.X (p.toNat^(k-1))%m) p m hm (by omega) (by omega) (by omega) (by omega)
  have e2:pw (pw Pol.X (p.toNat^(k-1))%m) p.toNat%m=pw Pol.X (p.toNat^k)%m:=by
   rw [Pol.pow_mod _ hm,sr,←lc,show (k-1).succ=k by omega]
  rw [e2] at e1;have e3:=ht p;have hX:(Pol.X:Fp p).len≤64:=by rw [Pol.len_X]; omega
  have e4:=ha p (-1) (pw Pol.X (p.toNat^k)%m) Pol.X (by omega) (by omega) (by omega) hX
  rw [zh] at e4;have e4':pw Pol.X (p.toNat^k)%m-Pol.X=frW m k:=rfl;rw [e4'] at e4;have hl3:(frW m k).len≤64:=Pol.len_sub_le (by omega) hX
  have e5:=hg p m (frW m k) hm (by omega) hl3
  have hgm:=Pol.gcd_monic (a:=m) (b:=frW m k) (.inl hm);have hgl:=(Pol.gcd_dv_left (a:=m) (b:=frW m k) (.inl hm)).len hm;have e6:=hdg p (Pol.gcd m (frW m k)) (by omega)
  have hg1:=Pol.len_pos hgm.2
  by_cases hc:(Pol.gcd m (frW m k)).len=1
  ·obtain ⟨P',ih⟩:=Wk hdg hpw hg ha ht hm hml hn f (k+1) (by omega) (by omega)
   rw [show k+1-1=k by omega] at ih
   refine ⟨P',?_⟩
   have hiff:(∀k',k≤k'→2*k'≤n→(Pol.gcd m (frW m k')).len=1)↔∀k',k+1≤k'→2*k'≤n→(Pol.gcd m (frW m k')).len=1:=by
    constructor
    ·intro h k' h1 h2; exact h k' (by omega) h2
    ·intro h k' h1 h2
     by_cases hkk:k'=k
     ·rw [hkk]; exact hc
     ·exact h k' (by omega) h2
   rw [propext hiff];refine bq ?_ ih;rw [hc] at e6;have e7:((1:Nat):Int)-1=0:=rfl;rw [e7] at e6;generalize pad (row (Pol.gcd m (frW m k)))=Pg at *;generalize pad (row (frW m k))=Pw at *;generalize pad (row (pw Pol.X (p.toNat^k)%m))=P2 at *;generalize pad (row (pw Pol.X (p.toNat^(k-1))%m))=P1 at *;generalize pad (row (Pol.X:Fp p))=PX at *;generalize pad (row m)=Pm at *;simp -implicitDefEqProofs [Z2l_L0,ao,w1,hlt,e1,e3,e4,e5,e6,w4]
  ·refine ⟨pad [],?_⟩
   rw [if_neg (fun h=>hc (h k (b9 k) (by omega)))]
   have hne:¬ (((Pol.gcd m (frW m k)).len:Int)-1=0):=by omega
   refine oo ?_;generalize ((Pol.gcd m (frW m k)).len:Int)-1=g1 at *;generalize pad (row (Pol.gcd m (frW m k)))=Pg at *;generalize pad (row (frW m k))=Pw at *;generalize pad (row (pw Pol.X (p.toNat^k)%m))=P2 at *;generalize pad (row (pw Pol.X (p.toNat^(k-1))%m))=P1 at *;generalize pad (row (Pol.X:Fp p))=PX at *;generalize pad (row m)=Pm at *;simp -implicitDefEqProofs [Z2l_L0,ao,w1,hlt,e1,e3,e4,e5,e6,hne]
open Classical in
def Ok (O:ah):Prop:=∀(p:Int) [IsP p] (m:Fp p),m≠0→m.len≤13→ask O F2l [(D.int .i64 p),(D.arr 64 .leaf (am .u8 (pad (row m))))]=some (D.bool (decide (Irr m)))
open Classical in
theorem a2l (hT:T F2l=some Z2l) (hdg:iz (den T A)) (hmo:vm (den T A)) (hpw:qa (den T A)) (hg:If (den T A)) (ha:qu (den T A)) (ht:Yq (den T A)):Ok (den T A):=by
 intro p i m hm hml;have e1:=hdg p m (by omega)
 have e2:=ht p;have e3:=hmo p Pol.X m hm (by rw [Pol.len_X]; omega) (by omega)
 have h1:=Pol.len_pos hm;refine bu hT rfl ?_
 by_cases h2:2≤m.len
 ·obtain ⟨P',e4⟩:=Wk (O:=den T A) hdg hpw hg ha ht hm hml (n:=m.len-1) (by omega) ((m.len-1)/2) 1 (b9 1) (by omega)
  have e5:pw (Pol.X:Fp p) (p.toNat^(1-1))=Pol.X:=by rw [kw,nk,yu]
  rw [e5,Vh h2 hml] at e4;rw [show ((m.len:Int)-1)=((m.len-1:Nat):Int) by omega] at e1
  have hlt:¬ (((m.len-1:Nat):Int)<1):=by omega
  have e01:((1:Nat):Int)=1:=rfl;rw [e01] at e4
  by_cases hi:Irr m
  ·rw [if_pos hi] at e4
   rw [decide_eq_true hi];generalize (((m.len-1)/2+1:Nat):Int)=k1 at *;generalize ((m.len-1:Nat):Int)=n1 at *;generalize pad (row (Pol.X%m))=P1 at *;generalize pad (row (Pol.X:Fp p))=PX at *;generalize pad (row m)=Pm at *;simp -implicitDefEqProofs [Z2l,Z2l_B,ao,e1,e2,e3,e4,hlt,List.replicate]
  ·rw [if_neg hi] at e4
   rw [decide_eq_false hi];generalize ((m.len-1:Nat):Int)=n1 at *;generalize pad (row (Pol.X%m))=P1 at *;generalize pad (row (Pol.X:Fp p))=PX at *;generalize pad (row m)=Pm at *;simp -implicitDefEqProofs [Z2l,Z2l_B,ao,e1,e2,e3,e4,hlt,List.replicate]
 ·have hl:m.len=1:=by omega
  rw [hl] at e1;have e7:((1:Nat):Int)-1=0:=rfl;rw [e7] at e1;rw [decide_eq_false (fun h:Irr m=>h2 h.len)]
  generalize pad (row (Pol.X%m))=P1 at *;generalize pad (row (Pol.X:Fp p))=PX at *;generalize pad (row m)=Pm at *;simp -implicitDefEqProofs [Z2l,Z2l_B,ao,e1,e2,e3,List.replicate]
end Pe


namespace Pe
open Go Gq
variable {T:Nat→Option Fn} {A:ah}
theorem uh {p:Int} {a b:Fp p} (ha:a.len≤64) (hb:b.len≤64):pad (row a)=pad (row b)↔a=b:=by
 constructor
 ·intro h
  rw [←pv ha,h,pv hb]
 ·rintro rfl; rfl
section
variable {p:Int} [IsP p]
structure SInv (a0:Fp p) (k:Int) (a:Fp p) (out:jf p):Prop where
 ne:a≠0
 eq:a0=a*iq out
 ok:FacOk out
 so:out.Pairwise fun x y=>e9 x.1<e9 y.1
 lt:∀x∈out,e9 x.1<k
 ge:∀q,Irr q→Monic q→Dv q a→k≤e9 q
 ln:out.length+a.len≤13
structure SEnd (a0 a:Fp p) (out:jf p):Prop where
 ne:a≠0
 eq:a0=a*iq out
 ok:FacOk out
 so:out.Pairwise fun x y=>e9 x.1<e9 y.1
 irr:2≤a.len→Irr a∧∀x∈out,e9 x.1<e9 (mon a)
 ln:out.length+a.len≤13
theorem Oq {q a:Fp p} (hq:Irr q) (h:Dv q a):Dv (mon q) a:=(ym hq.ne).2 h
theorem SInv.small {a0 a:Fp p} {n:Nat} {k:Int} {out:jf p} (h:SInv a0 k a out) (_hn:n≤12) (hk:p^n≤k):wk n a:=by
 intro q hq hd;have h1:=h.ge _ hq.mon (o6 hq.ne) (Oq hq hd);have h2:=zk (mon q);rw [tv hq.ne] at h2;apply dc;intro hx;have:=kr (p:=p) (by have:=IsP.pos (p:=p); omega) (show q.len≤n by omega)
 omega
theorem SInv.step {a0 a:Fp p} {n:Nat} {k:Int} {out:jf p} (h:SInv a0 k a out) (hn1:1≤n) (hn:n≤12) (hk:p^n≤k) (hk2:k<2*p^n) {j:Nat} {r:Fp p} (h1:a=r*pw (jx p k) j) (h2:¬ Dv (jx p k) r) :
 SInv a0 (k+1) r (if j=0 then out else out++[(jx p k,j)]):=by
 obtain ⟨m1,m2⟩:=xr hn hk hk2;have hb:=ot (p:=p) hn;have hpos:=lw (p:=p) n;have hnum:e9 (jx p k)=k:=tp ⟨by omega,by omega⟩
 have hr0:r≠0:=fun h0=>h.ne (by rw [h1,h0,Gq.zero_mul])
 have ge':∀q,Irr q→Monic q→Dv q r→k+1≤e9 q:=by
  intro q hq hm hd;have g1:=h.ge q hq hm (by rw [h1]; exact hd.mul_right _)
  have g2:e9 q≠k:=fun e=>by
   have:q=jx p k:=Ew (by rw [e,hnum])
   exact h2 (this▸hd)
  omega
 by_cases hj:j=0
 ·subst hj
  rw [if_pos rfl];rw [pw,Gq.mul_one] at h1;subst h1;exact ⟨h.ne,h.eq,h.ok,h.so,fun x hx=>by have:=h.lt x hx; omega,ge',h.ln⟩
 ·rw [if_neg hj]
  have hda:Dv (jx p k) a:=by
   obtain ⟨i,rfl⟩:∃i,j=i+1:=⟨j-1,by omega⟩
   rw [h1,pw];exact ((Dv.refl _).mul_left _).mul_left _
  have hi:Irr (jx p k):=by
   refine Irr.of_dv (by omega) fun u hu=>?_
   have hul:=hu.len m1.2
   have hu0:u≠0:=fun h0=>by
    obtain ⟨c,hc⟩:=hu;exact m1.2 (by rw [hc,h0,Gq.zero_mul])
   have hup:=Pol.len_pos hu0
   by_cases hu1:u.len=1
   ·exact .inl hu1
   ·right
    obtain ⟨q,q1,q2,q3⟩:=A4 u.len u (b9 _) (by omega)
    have g1:=h.ge q q1 q2 ((q3.trans hu).trans hda);have g2:=q3.len hu0;apply dc;intro hx;have g3:=qd (a:=q) (b:=jx p k) (by omega)
    omega
  have hlt:r.len<a.len:=by
   obtain ⟨i,rfl⟩:∃i,j=i+1:=⟨j-1,by omega⟩
   have hi0:=De hi.ne i;have l1:=Pol.len_mul hi0 hi.ne;have l2:=Pol.len_mul hr0 (Pol.mul_ne hi0 hi.ne);have l3:=Pol.len_pos hi0;rw [h1,pw]; omega
  refine ⟨hr0,?_,h.ok.snoc hi m1 (by omega) fun x hx e=>?_,?_,?_,ge',?_⟩
  ·rw [h.eq,tj]
   conv=>lhs; rw [h1]
   exact bf [r,pw (jx p k) j,iq out] rfl
  ·have:=h.lt x hx
   rw [e,hnum] at this; omega
  ·rw [fo]
   refine ⟨h.so,ec _ _,fun x hx y hy=>?_⟩
   simp at hy; subst hy;have:=h.lt x hx;rw [hnum]; exact this
  ·intro x hx
   rcases b7.1 hx with hx | hx
   ·have:=h.lt x hx; omega
   ·simp at hx; subst hx; rw [hnum]; omega
  ·have:=h.ln
   simp; omega
theorem SInv.next {a0 a:Fp p} {n:Nat} {out:jf p} (h:SInv a0 (2*p^n) a out) (hn:n≤11):SInv a0 (p^(n+1)) a out:=by
 refine ⟨h.ne,h.eq,h.ok,h.so,fun x hx=>?_,fun q hq hm hd=>?_,h.ln⟩
 ·have:=h.lt x hx
  have:=Gk (p:=p) n;omega
 ·have h1:=h.ge q hq hm hd
  have hq0:=Pol.len_pos hm.2;rcases cn (n+1) q.len with h2 | h2
  ·obtain ⟨d,hd'⟩:∃d,q.len=d+1:=⟨q.len-1,by omega⟩
   have hl:=hd.len h.ne;have hln:=h.ln;have h3:=pa (n:=d) (by omega) hm hd'
   have:=kr (p:=p) (by have:=IsP.pos (p:=p); omega) (show n+1≤d by omega)
   omega
  ·exfalso
   obtain ⟨d,hd'⟩:∃d,q.len=d+1:=⟨q.len-1,by omega⟩
   have h3:=pa (n:=d) (by omega) hm hd'
   have:=kr (p:=p) (by have:=IsP.pos (p:=p); omega) (show d≤n by omega)
   omega
theorem SInv.init {a:Fp p} (ha:a≠0) (hl:a.len≤13):SInv a (p^1) a []:=
 ⟨ha,(Gq.mul_one a).symm,⟨by simp,.nil⟩,.nil,by simp,fun q hq hm _=>by
  have h1:=hq.len;obtain ⟨d,hd'⟩:∃d,q.len=d+1:=⟨q.len-1,by omega⟩
  by_cases hd12:d≤12
  ·have h3:=pa (n:=d) hd12 hm hd'
   have:=kr (p:=p) (by have:=IsP.pos (p:=p); omega) (show 1≤d by omega)
   omega
  ·have h4:=qd (a:=jx p (p^1)) (b:=q) (by
    have:=(xr (p:=p) (n:=1) (by omega) (vp _) (by have:=lw (p:=p) 1; omega)).2
    omega)
   have h5:e9 (jx p (p^1))=p^1:=tp ⟨Int.le_of_lt (lw 1),by have:=ot (p:=p) (n:=1) (by omega); omega⟩
   omega,by simpa using hl⟩
theorem SEnd.fac {a0 a:Fp p} {out:jf p} (h:SEnd a0 a out) (h0:a0≠0):Pe.fac a0=if 2≤a.len then out++[(mon a,1)] else out:=by
 apply Y7 h0;have hP:=uu h.ok;have hld:a0.ld=a.ld:=by rw [h.eq,Pol.ld_mul h.ne hP.2,hP.1,Gq.mul_one]
 split
 ·rename_i hl
  obtain ⟨hi,hx⟩:=h.irr hl;refine ⟨h.ok.snoc hi.mon (o6 h.ne) (b9 1) fun x hx' e=>?_,?_,?_⟩
  ·have:=hx x hx'
   rw [e] at this; omega
  ·rw [fo]
   refine ⟨h.so,ec _ _,fun x hx' y hy=>?_⟩
   simp at hy; subst hy; exact hx x hx'
  ·rw [tj,hld]
   show a0=Pol.C a.ld*(iq out*pw (mon a) 1);rw [yu,h.eq]
   conv=>lhs; rw [Xe h.ne]
   exact bf [Pol.C a.ld,mon a,iq out] rfl
 ·rename_i hl
  have hp:=Pol.len_pos h.ne;obtain ⟨c,hc,rfl⟩:=jz (show a.len=1 by omega)
  refine ⟨h.ok,h.so,?_⟩;rw [hld,Pol.ld_C hc]; exact h.eq
end
end Pe

namespace Pe
open Go Gq
variable {T:Nat→Option Fn} {A:ah}
section
variable {p:Int} [IsP p]
end
end Pe


namespace Pe
open Go Gq
variable {T:Nat→Option Fn} {A:ah}
section
variable {p:Int} [IsP p]
end
section
variable {p:Int} [IsP p]
end
end Pe

namespace Pe
open Go Gq
variable {T:Nat→Option Fn} {A:ah}
end Pe

namespace Pe
open Go Gq
variable {T:Nat→Option Fn} {A:ah}
end Pe
