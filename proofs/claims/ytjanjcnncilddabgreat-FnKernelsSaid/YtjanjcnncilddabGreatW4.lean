/-
  A part of the proof: an evaluator for a small form of the code, its soundness, and contracts of functions over it.
-/
import Derived.KernelRfl
import Derived.Test.YtjanjcnncilddabGreatW1
import Derived.Test.YtjanjcnncilddabGreatW2
import Derived.Test.YtjanjcnncilddabGreatW3

/-
 Functions of the program in the small form,printed by a program.
-/
namespace Pe
open Go
def Z4q_B:Cd:=
 .seq (.region [Ll 3 (.box false 0 (.t 1)),
 Ll 4 (.mv (.c (.bool false)))] [0,3])
 (.seq (.region [Lw 5 0,
 Ipx 6 3,
 Ll 7 (Ofx F46 [(.t 5),(.t 6)]),
 Lw 8 7,
 Lg 9 (.load Sx6 (.t 3)) 8 true,
 Lg 10 (Ofx F48 [(.t 9)]) 8 true,
 Ll 11 (.pick (.t 8) (.t 10) (.c (.bool false))),
 Lw 12 11,
 Lg 13 (.load Sx6 (.t 3)) 12 true,
 Lg 14 (Ofx F3w [(.t 13)]) 12 true,
 Lg 15 (Ofx F43 [(.t 14),(Acx 1),(Acx 4)]) 12 true,
 Ll 16 (.pick (.t 12) (.t 15) (.c (.bool false))),
 Lw 17 16,
 Lx 18 0 17 true,
 Lg 19 (.load Sx6 (.t 3)) 17 true,
 Lg 20 (Ofx F45 [(.t 18),(.t 19)]) 17 true,
 Ll 21 (.pick (.t 17) (.t 20) (.c (.bool false))),
 Lw 4 21] [4])
 (.ret))
def Z4q:Fn:=
 { nparams:=2,nblk:=1,results:=[.tmp 4],body:=Z4q_B }
def Z51_B:Cd:=
 .seq (.region [Ll 4 (.box false 0 (.t 1)),
 Ll 5 (.box false 1 (.t 2)),
 Ll 6 (.mv (.c (.bool false)))] [0,4,5])
 (.seq (.region [Lw 7 0,
 Ipx 8 5,
 Ll 9 (Ofx F46 [(.t 7),(.t 8)]),
 Lw 10 9,
 Lg 11 (.load Sx6 (.t 5)) 10 true,
 Lg 12 (Ofx F3w [(.t 11)]) 10 true,
 Lg 13 (.load Sx6 (.t 4)) 10 true,
 Lg 14 (Ofx F3w [(.t 13)]) 10 true,
 Lg 15 (.bin .lss (.t 12) (.t 14)) 10 true,
 Ll 16 (.pick (.t 10) (.t 15) (.c (.bool false))),
 Lw 6 16] [6])
 (.ret))
def Z51:Fn:=
 { nparams:=3,nblk:=2,results:=[.tmp 6],body:=Z51_B }
def Z4t_L0:Cd:=
 .seq (.seq (.region [Lw 8 7,
 Ll 9 (.bin .lss (.t 8) (Acx 8))] [0,4,5,7,9])
 (.cond (.t 9)
 (.skip)
 (.exit 0)))
 (.seq (.block 1 (.seq (.region [Lw 12 0,
 Ipx 13 4,
 Lw 14 7,
 Ll 15 (.idxA (some 8) Sx6 (.t 5) (.t 14)),
 Ipx 16 15,
 Ll 17 (Ofx F51 [(.t 12),(.t 13),(.t 16)]),
 Ll 18 (.un .not (.t 17))] [0,4,5,7,18])
 (.cond (.t 18)
 (.seq (.region [Ll 6 (.mv (.c (.bool false)))] [6])
 (.ret))
 (.skip))))
 (.region [Lw 10 7,
 Ll 11 (.bin .add (.t 10) (Acx 1)),
 Lw 7 11] [0,4,5,7]))
def Z4t_B:Cd:=
 .seq (.region [Ll 4 (.box false 0 (.t 1)),
 Ll 5 (.box false 1 (.t 2)),
 Ll 6 (.mv (.c (.bool false)))] [0,4,5])
 (.seq (.seq (.region [Ll 7 (.mv (Acx 0))] [0,4,5,7])
 (.block 0 (.loop (Z4t_L0))))
 (.seq (.region [Ll 6 (.mv (.c (.bool true)))] [6])
 (.ret)))
def Z4t:Fn:=
 { nparams:=3,nblk:=2,results:=[.tmp 6],body:=Z4t_B }
def Z4k_L0:Cd:=
 .seq (.seq (.region [Lw 12 7,
 Lw 13 2,
 Ll 14 (.len false (.t 13)),
 Ll 15 (.bin .lss (.t 12) (.t 14))] [0,2,4,7,15])
 (.cond (.t 15)
 (.skip)
 (.exit 0)))
 (.seq (.block 1 (.seq (.region [Lw 18 0,
 Ipx 19 4,
 Lw 20 2,
 Lw 21 7,
 Ll 22 (.idxA none Sx8 (.t 20) (.t 21)),
 Isx 23 22,
 Ll 24 (Ofx F4t [(.t 18),(.t 19),(.t 23)]),
 Ll 25 (.un .not (.t 24))] [0,2,4,7,25])
 (.cond (.t 25)
 (.seq (.region [Ll 6 (.mv (Acx 1))] [6])
 (.ret))
 (.skip))))
 (.region [Lw 16 7,
 Ll 17 (.bin .add (.t 16) (Acx 1)),
 Lw 7 17] [0,2,4,7]))
def Z4k_B:Cd:=
 .seq (.region [Ll 4 (.box false 0 (.t 1)),
 Ll 6 (.mv (Acx 0))] [0,2,4])
 (.seq (.seq (.region [Lw 8 0,
 Ipx 9 4,
 Ll 10 (Ofx F4q [(.t 8),(.t 9)]),
 Ll 11 (.un .not (.t 10))] [0,2,4,11])
 (.cond (.t 11)
 (.seq (.region [Ll 6 (.mv (Acx 1))] [6])
 (.ret))
 (.skip)))
 (.seq (.seq (.region [Ll 7 (.mv (Acx 0))] [0,2,4,7])
 (.block 0 (.loop (Z4k_L0))))
 (.seq (.region [Ll 6 (.mv (Acx 0))] [6])
 (.ret))))
def Z4k:Fn:=
 { nparams:=3,nblk:=1,results:=[.tmp 6],body:=Z4k_B }
def Z4r_L0:Cd:=
 .seq (.seq (.region [Lw 14 9,
 Ll 15 (.bin .gtr (.t 14) (Acx 0))] [0,5,7,8,9,15])
 (.cond (.t 15)
 (.skip)
 (.exit 0)))
 (.seq (.block 1 (.region [Lw 18 0,
 Ipx 19 5,
 Lw 20 0,
 Ipx 21 7,
 Ll 22 (Ofx F4d [(.t 18),(.t 19),(.t 20),(.t 21)]),
 Ls (.store false Sx6 (.t 5) (.t 22))] [0,5,7,8,9]))
 (.region [Lw 16 9,
 Ll 17 (.bin .sub (.t 16) (Acx 1)),
 Lw 9 17] [0,5,7,8,9]))
def Z4r_B:Cd:=
 .seq (.region [Ll 5 (.box false 0 (.t 1)),
 Ll 7 (.box false 1 (.t 3)),
 Ll 8 (.box false 2 (.c (.arr 64 .leaf z64)))] [0,2,5,7,8])
 (.seq (.seq (.region [Lw 10 2,
 Ipx 11 7,
 Ll 12 (Ofx F3w [(.t 11)]),
 Ll 13 (.bin .rem (.t 10) (.t 12)),
 Lw 9 13] [0,5,7,8,9])
 (.block 0 (.loop (Z4r_L0))))
 (.seq (.region [Ipx 23 5,
 Ls (.store false Sx6 (.t 8) (.t 23))] [8])
 (.ret)))
def Z4r:Fn:=
 { nparams:=4,nblk:=3,results:=[.cell 8 Sx6],body:=Z4r_B }
def Z56_L0:Cd:=
 .seq (.seq (.region [Lw 12 10,
 Ll 13 (.bin .lss (.t 12) (Acx 8))] [0,5,6,7,8,9,10,13])
 (.cond (.t 13)
 (.skip)
 (.exit 0)))
 (.seq (.block 1 (.seq (.region [Lw 16 10,
 Ll 17 (.idxA (some 8) Sx6 (.t 6) (.t 16)),
 Ipx 18 17,
 Ll 19 (.build false (.arr 64 .leaf z64) []),
 Ll 20 (.eqv true (.arr 64 .leaf .int) (.t 18) (.t 19))] [0,5,6,7,8,9,10,20])
 (.cond (.t 20)
 (.region [Lw 21 0,
 Ipx 22 9,
 Lw 23 0,
 Lw 24 10,
 Ll 25 (.idxA (some 8) Sx6 (.t 6) (.t 24)),
 Ipx 26 25,
 Lw 27 0,
 Ipx 28 7,
 Lw 29 10,
 Ipx 30 5,
 Ll 31 (Ofx F4r [(.t 27),(.t 28),(.t 29),(.t 30)]),
 Ipx 32 5,
 Ll 33 (Ofx F49 [(.t 23),(.t 26),(.t 31),(.t 32)]),
 Ll 34 (Ofx F3t [(.t 21),(.t 22),(.t 33),(Acx 1)]),
 Ls (.store false Sx6 (.t 9) (.t 34))] [0,5,6,7,8,9,10])
 (.skip))))
 (.region [Lw 14 10,
 Ll 15 (.bin .add (.t 14) (Acx 1)),
 Lw 10 15] [0,5,6,7,8,9,10]))
def Z56_B:Cd:=
 .seq (.region [Ll 5 (.box false 0 (.t 1)),
 Ll 6 (.box false 1 (.t 2)),
 Ll 7 (.box false 2 (.t 3)),
 Ll 8 (.box false 3 (.c (.arr 64 .leaf z64)))] [0,5,6,7,8])
 (.seq (.region [Ll 11 (.build false (.arr 64 .leaf z64) []),
 Ll 9 (.box false 4 (.c (.arr 64 .leaf z64))),
 Ls (.store false Sx6 (.t 9) (.t 11))] [0,5,6,7,8,9])
 (.seq (.seq (.region [Ll 10 (.mv (Acx 0))] [0,5,6,7,8,9,10])
 (.block 0 (.loop (Z56_L0))))
 (.seq (.region [Ipx 35 9,
 Ls (.store false Sx6 (.t 8) (.t 35))] [8])
 (.ret))))
def Z56:Fn:=
 { nparams:=4,nblk:=5,results:=[.cell 8 Sx6],body:=Z56_B }
def ir_spec_ValueOfSkew_B:Cd:=
 .seq (.region [Ll 5 (.box false 0 (.t 1)),
 Ll 6 (.box false 1 (.t 2)),
 Ll 7 (.box false 2 (.t 3)),
 Ll 8 (.box false 3 (.c (.arr 64 .leaf z64))),
 Ll 9 (.mv (Acx 0))] [0,5,6,7,8])
 (.seq (.region [Lw 11 0,
 Ipx 12 5,
 Isx 13 6,
 Ll 14 (.buildSl false 4 Sx8 (.arr 8 Sx6 z8) 1 [(0,(.t 13))]),
 Ll 15 (Ofx F4k [(.t 11),(.t 12),(.t 14)]),
 Lw 10 15] [0,5,6,7,8,10])
 (.seq (.seq (.region [Lw 16 10,
 Ll 17 (.bin .eql (.t 16) (Acx 0)),
 Lw 18 17,
 Lx 19 0 18 true,
 Lg 20 (.load Sx6 (.t 5)) 18 true,
 Lg 21 (.load Sx6 (.t 7)) 18 true,
 Lg 22 (Ofx F51 [(.t 19),(.t 20),(.t 21)]) 18 true,
 Lg 23 (.un .not (.t 22)) 18 true,
 Ll 24 (.pick (.t 18) (.t 23) (.c (.bool false)))] [0,5,6,7,8,10,24])
 (.cond (.t 24)
 (.region [Ll 10 (.mv (Acx 1))] [0,5,6,7,8,10])
 (.skip)))
 (.seq (.seq (.region [Lw 25 10,
 Ll 26 (.bin .neq (.t 25) (Acx 0))] [0,5,6,7,8,10,26])
 (.cond (.t 26)
 (.seq (.region [Ll 27 (.build false (.arr 64 .leaf z64) []),
 Lw 28 10,
 Ls (.store false Sx6 (.t 8) (.t 27)),
 Lw 9 28] [8,9])
 (.ret))
 (.skip)))
 (.seq (.region [Lw 29 0,
 Ipx 30 5,
 Isx 31 6,
 Ipx 32 7,
 Ll 33 (Ofx F56 [(.t 29),(.t 30),(.t 31),(.t 32)]),
 Ls (.store false Sx6 (.t 8) (.t 33)),
 Ll 9 (.mv (Acx 0))] [8,9])
 (.ret)))))
def Z3s:Fn:=
 { nparams:=4,nblk:=5,results:=[.cell 8 Sx6,.tmp 9],body:=ir_spec_ValueOfSkew_B }
def Z52_L0:Cd:=
 .seq (.seq (.region [Lw 12 7,
 Lw 13 2,
 Ll 14 (.len false (.t 13)),
 Ll 15 (.bin .lss (.t 12) (.t 14))] [0,2,4,7,15])
 (.cond (.t 15)
 (.skip)
 (.exit 0)))
 (.seq (.block 1 (.seq (.region [Lw 18 0,
 Ipx 19 4,
 Lw 20 2,
 Lw 21 7,
 Ll 22 (.idxA none Sx6 (.t 20) (.t 21)),
 Ipx 23 22,
 Ll 24 (Ofx F51 [(.t 18),(.t 19),(.t 23)]),
 Ll 25 (.un .not (.t 24))] [0,2,4,7,25])
 (.cond (.t 25)
 (.seq (.region [Ll 6 (.mv (Acx 1))] [6])
 (.ret))
 (.skip))))
 (.region [Lw 16 7,
 Ll 17 (.bin .add (.t 16) (Acx 1)),
 Lw 7 17] [0,2,4,7]))
def Z52_B:Cd:=
 .seq (.region [Ll 4 (.box false 0 (.t 1)),
 Ll 6 (.mv (Acx 0))] [0,2,4])
 (.seq (.seq (.region [Lw 8 0,
 Ipx 9 4,
 Ll 10 (Ofx F4q [(.t 8),(.t 9)]),
 Ll 11 (.un .not (.t 10))] [0,2,4,11])
 (.cond (.t 11)
 (.seq (.region [Ll 6 (.mv (Acx 1))] [6])
 (.ret))
 (.skip)))
 (.seq (.seq (.region [Ll 7 (.mv (Acx 0))] [0,2,4,7])
 (.block 0 (.loop (Z52_L0))))
 (.seq (.region [Ll 6 (.mv (Acx 0))] [6])
 (.ret))))
def Z52:Fn:=
 { nparams:=3,nblk:=1,results:=[.tmp 6],body:=Z52_B }
def Z50_L0:Cd:=
 .seq (.seq (.region [Lw 13 7,
 Lw 14 1,
 Ll 15 (.len false (.t 14)),
 Ll 16 (.bin .lss (.t 13) (.t 15))] [0,1,5,7,16])
 (.cond (.t 16)
 (.skip)
 (.exit 0)))
 (.seq (.block 1 (.seq (.region [Lw 19 1,
 Lw 20 7,
 Ll 21 (.idxA none Sx6 (.t 19) (.t 20)),
 Ipx 22 21,
 Ll 23 (Ofx F3w [(.t 22)]),
 Lw 8 23] [0,1,5,7,8])
 (.seq (.region [Lw 24 8,
 Ll 25 (.idxA (some 64) .leaf (.t 5) (.t 24)),
 Ilx 26 25,
 Ll 27 (.bin .neq (.t 26) (.c (.int .u8 0)))] [0,1,5,7,8,27])
 (.cond (.t 27)
 (.region [Lw 28 0,
 Ipx 29 5,
 Lw 30 1,
 Lw 31 7,
 Ll 32 (.idxA none Sx6 (.t 30) (.t 31)),
 Ipx 33 32,
 Lw 34 8,
 Ll 35 (.idxA (some 64) .leaf (.t 5) (.t 34)),
 Ilx 36 35,
 Ll 37 (.conv .i64 (.t 36)),
 Ll 38 (.un .neg (.t 37)),
 Ll 39 (Ofx F3t [(.t 28),(.t 29),(.t 33),(.t 38)]),
 Ls (.store false Sx6 (.t 5) (.t 39))] [0,1,5,7])
 (.skip)))))
 (.region [Lw 17 7,
 Ll 18 (.bin .add (.t 17) (Acx 1)),
 Lw 7 18] [0,1,5,7]))
def Z50_L1:Cd:=
 .seq (.seq (.region [Lw 56 12,
 Lw 57 1,
 Ll 58 (.len false (.t 57)),
 Ll 59 (.bin .lss (.t 56) (.t 58))] [0,1,5,9,10,11,12,59])
 (.cond (.t 59)
 (.skip)
 (.exit 2)))
 (.seq (.block 3 (.seq (.seq (.region [Lw 62 11,
 Ll 63 (.un .not (.t 62)),
 Lw 64 63,
 Lx 65 1 64 true,
 Lx 66 12 64 true,
 Lg 67 (.idxA none Sx6 (.t 65) (.t 66)) 64 true,
 Lg 68 (.load Sx6 (.t 67)) 64 true,
 Lg 69 (Ofx F3w [(.t 68)]) 64 true,
 Lx 70 9 64 true,
 Lg 71 (.bin .lss (.t 69) (.t 70)) 64 true,
 Ll 72 (.pick (.t 64) (.t 71) (.c (.bool false)))] [0,1,5,9,10,11,12,72])
 (.cond (.t 72)
 (.seq (.region [Lw 73 10,
 Ipx 74 5,
 Ll 75 (.buildSl false 2 Sx6 (.arr 64 .leaf z64) 1 [(0,(.t 74))]),
 Ll 76 (.append Sx6 3 64 (.t 73) (.t 75)),
 Lw 10 76] [0,1,5,9,10,12])
 (.region [Ll 11 (.mv (.c (.bool true)))] [0,1,5,9,10,11,12]))
 (.skip)))
 (.region [Lw 77 10,
 Lw 78 0,
 Lw 79 1,
 Lw 80 12,
 Ll 81 (.idxA none Sx6 (.t 79) (.t 80)),
 Ipx 82 81,
 Ipx 83 5,
 Lw 84 1,
 Lw 85 12,
 Lw 86 9,
 Ll 87 (.idxA none Sx6 (.t 84) (.t 85)),
 Ll 88 (.idxA (some 64) .leaf (.t 87) (.t 86)),
 Ilx 89 88,
 Ll 90 (.conv .i64 (.t 89)),
 Ll 91 (.un .neg (.t 90)),
 Ll 92 (Ofx F3t [(.t 78),(.t 82),(.t 83),(.t 91)]),
 Ll 93 (.buildSl false 4 Sx6 (.arr 64 .leaf z64) 1 [(0,(.t 92))]),
 Ll 94 (.append Sx6 5 64 (.t 77) (.t 93)),
 Lw 10 94] [0,1,5,9,10,11,12])))
 (.region [Lw 60 12,
 Ll 61 (.bin .add (.t 60) (Acx 1)),
 Lw 12 61] [0,1,5,9,10,11,12]))
def Z50_B:Cd:=
 .seq (.region [Ll 5 (.box false 0 (.t 2)),
 Ll 6 (.mv (.c (.sl Sx6 [])))] [0,1,5])
 (.seq (.seq (.region [Ll 7 (.mv (Acx 0))] [0,1,5,7])
 (.block 0 (.loop (Z50_L0))))
 (.seq (.region [Ipx 40 5,
 Ll 41 (Ofx F3w [(.t 40)]),
 Lw 9 41] [0,1,5,9])
 (.seq (.seq (.region [Lw 42 9,
 Ll 43 (.bin .lss (.t 42) (Acx 0))] [0,1,5,9,43])
 (.cond (.t 43)
 (.seq (.region [Lw 44 1,
 Lw 6 44] [6])
 (.ret))
 (.skip)))
 (.seq (.region [Lw 45 0,
 Ll 46 (.build false (.arr 64 .leaf z64) []),
 Ipx 47 5,
 Lw 48 0,
 Lw 49 9,
 Ll 50 (.idxA (some 64) .leaf (.t 5) (.t 49)),
 Ilx 51 50,
 Ll 52 (Ofx F44 [(.t 48),(.t 51)]),
 Ll 53 (.conv .i64 (.t 52)),
 Ll 54 (Ofx F3t [(.t 45),(.t 46),(.t 47),(.t 53)]),
 Ls (.store false Sx6 (.t 5) (.t 54))] [0,1,5,9])
 (.seq (.region [Ll 55 (.buildSl false 1 Sx6 (.arr 64 .leaf z64) 0 []),
 Lw 10 55,
 Ll 11 (.mv (.c (.bool false)))] [0,1,5,9,10,11])
 (.seq (.seq (.region [Ll 12 (.mv (Acx 0))] [0,1,5,9,10,11,12])
 (.block 2 (.loop (Z50_L1))))
 (.seq (.seq (.region [Lw 95 11,
 Ll 96 (.un .not (.t 95))] [5,10,96])
 (.cond (.t 96)
 (.region [Lw 97 10,
 Ipx 98 5,
 Ll 99 (.buildSl false 6 Sx6 (.arr 64 .leaf z64) 1 [(0,(.t 98))]),
 Ll 100 (.append Sx6 7 64 (.t 97) (.t 99)),
 Lw 10 100] [10])
 (.skip)))
 (.seq (.region [Lw 101 10,
 Lw 6 101] [6])
 (.ret)))))))))
def Z50:Fn:=
 { nparams:=3,nblk:=8,results:=[.tmp 6],body:=Z50_B }
def Z4l_L0:Cd:=
 .seq (.seq (.region [Lw 4 3,
 Ll 5 (.bin .geq (.t 4) (Acx 0)),
 Lw 6 5,
 Lx 7 3 6 true,
 Lg 8 (.idxA (some 8) Sx6 (.t 1) (.t 7)) 6 true,
 Lg 9 (.load Sx6 (.t 8)) 6 true,
 Lg 10 (.build false (.arr 64 .leaf z64) []) 6 true,
 Lg 11 (.eqv false (.arr 64 .leaf .int) (.t 9) (.t 10)) 6 true,
 Ll 12 (.pick (.t 6) (.t 11) (.c (.bool false)))] [1,3,12])
 (.cond (.t 12)
 (.skip)
 (.exit 0)))
 (.block 1 (.region [Lw 13 3,
 Ll 14 (.bin .sub (.t 13) (Acx 1)),
 Lw 3 14] [1,3]))
def Z4l_B:Cd:=
 .seq (.region [Ll 1 (.box false 0 (.t 0)),
 Ll 2 (.mv (Acx 0))] [1])
 (.seq (.region [Ll 3 (.mv (Acx 7))] [1,3])
 (.seq (.block 0 (.loop (Z4l_L0)))
 (.seq (.region [Lw 15 3,
 Lw 2 15] [2])
 (.ret))))
def Z4l:Fn:=
 { nparams:=1,nblk:=1,results:=[.tmp 2],body:=Z4l_B }
def Z55_L0:Cd:=
 .seq (.seq (.region [Lw 38 14,
 Lw 39 11,
 Ll 40 (.bin .leq (.t 38) (.t 39))] [0,5,6,7,8,10,11,12,13,14,40])
 (.cond (.t 40)
 (.skip)
 (.exit 2)))
 (.seq (.block 3 (.seq (.region [Lw 43 0,
 Lw 44 13,
 Ll 45 (.idxA (some 8) Sx6 (.t 6) (.t 44)),
 Ipx 46 45,
 Lw 47 0,
 Lw 48 14,
 Ll 49 (.idxA (some 8) Sx6 (.t 7) (.t 48)),
 Ipx 50 49,
 Lw 51 13,
 Ipx 52 5,
 Ll 53 (Ofx F4r [(.t 47),(.t 50),(.t 51),(.t 52)]),
 Ipx 54 5,
 Ll 55 (Ofx F49 [(.t 43),(.t 46),(.t 53),(.t 54)]),
 Ll 15 (.box false 5 (.c (.arr 64 .leaf z64))),
 Ls (.store false Sx6 (.t 15) (.t 55))] [0,5,6,7,8,10,11,12,13,14,15])
 (.region [Lw 56 13,
 Lw 57 14,
 Ll 58 (.bin .add (.t 56) (.t 57)),
 Lw 59 0,
 Lw 60 13,
 Lw 61 14,
 Ll 62 (.bin .add (.t 60) (.t 61)),
 Ll 63 (.idxA (some 8) Sx6 (.t 12) (.t 62)),
 Ipx 64 63,
 Ipx 65 15,
 Ll 66 (Ofx F3t [(.t 59),(.t 64),(.t 65),(Acx 1)]),
 Ll 67 (.idxA (some 8) Sx6 (.t 12) (.t 58)),
 Ls (.store false Sx6 (.t 67) (.t 66))] [0,5,6,7,8,10,11,12,13,14])))
 (.region [Lw 41 14,
 Ll 42 (.bin .add (.t 41) (Acx 1)),
 Lw 14 42] [0,5,6,7,8,10,11,12,13,14]))
def Z55_L1:Cd:=
 .seq (.seq (.region [Lw 33 13,
 Lw 34 10,
 Ll 35 (.bin .leq (.t 33) (.t 34))] [0,5,6,7,8,10,11,12,13,35])
 (.cond (.t 35)
 (.skip)
 (.exit 0)))
 (.seq (.block 1 (.seq (.region [Ll 14 (.mv (Acx 0))] [0,5,6,7,8,10,11,12,13,14])
 (.block 2 (.loop (Z55_L0)))))
 (.region [Lw 36 13,
 Ll 37 (.bin .add (.t 36) (Acx 1)),
 Lw 13 37] [0,5,6,7,8,10,11,12,13]))
def Z55_B:Cd:=
 .seq (.region [Ll 5 (.box false 0 (.t 1)),
 Ll 6 (.box false 1 (.t 2)),
 Ll 7 (.box false 2 (.t 3)),
 Ll 8 (.box false 3 (.c (.arr 8 Sx6 z8))),
 Ll 9 (.mv (.c (.bool false)))] [0,5,6,7,8])
 (.seq (.region [Isx 16 6,
 Ll 17 (Ofx F4l [(.t 16)]),
 Isx 18 7,
 Ll 19 (Ofx F4l [(.t 18)]),
 Ll 20 (.build false (.arr 8 Sx6 z8) []),
 Ll 12 (.box false 4 (.c (.arr 8 Sx6 z8))),
 Lw 10 17,
 Lw 11 19,
 Ls (.store false Sx8 (.t 12) (.t 20))] [0,5,6,7,8,10,11,12])
 (.seq (.seq (.region [Lw 21 10,
 Ll 22 (.bin .lss (.t 21) (Acx 0)),
 Lw 23 22,
 Lx 24 11 23 false,
 Lg 25 (.bin .lss (.t 24) (Acx 0)) 23 false,
 Ll 26 (.pick (.t 23) (.c (.bool true)) (.t 25))] [0,5,6,7,8,10,11,12,26])
 (.cond (.t 26)
 (.seq (.region [Isx 27 12,
 Ls (.store false Sx8 (.t 8) (.t 27)),
 Ll 9 (.mv (.c (.bool true)))] [8,9])
 (.ret))
 (.skip)))
 (.seq (.seq (.region [Lw 28 10,
 Lw 29 11,
 Ll 30 (.bin .add (.t 28) (.t 29)),
 Ll 31 (.bin .gtr (.t 30) (Acx 7))] [0,5,6,7,8,10,11,12,31])
 (.cond (.t 31)
 (.seq (.region [Isx 32 12,
 Ls (.store false Sx8 (.t 8) (.t 32)),
 Ll 9 (.mv (.c (.bool false)))] [8,9])
 (.ret))
 (.skip)))
 (.seq (.seq (.region [Ll 13 (.mv (Acx 0))] [0,5,6,7,8,10,11,12,13])
 (.block 0 (.loop (Z55_L1))))
 (.seq (.region [Isx 68 12,
 Ls (.store false Sx8 (.t 8) (.t 68)),
 Ll 9 (.mv (.c (.bool true)))] [8,9])
 (.ret))))))
def Z55:Fn:=
 { nparams:=4,nblk:=6,results:=[.cell 8 Sx8,.tmp 9],body:=Z55_B }
def Z4z_B:Cd:=
 .seq (.region [Ll 0 (.box false 0 (.c (.arr 8 Sx6 z8)))] [0])
 (.seq (.region [Ll 1 (Ofx F4b []),
 Ll 2 (.build false (.arr 8 Sx6 z8) [(0,(.t 1))]),
 Ls (.store false Sx8 (.t 0) (.t 2))] [0])
 (.ret))
def Z4z:Fn:=
 { nparams:=0,nblk:=1,results:=[.cell 0 Sx8],body:=Z4z_B }
def Z4s_B:Cd:=
 .seq (.region [Ll 4 (.box false 0 (.t 1)),
 Ll 5 (.box false 1 (.t 2)),
 Ll 6 (.box false 2 (.c (.arr 64 .leaf z64)))] [0,4,5,6])
 (.seq (.region [Lw 11 0,
 Ipx 12 4,
 Ipx 13 5,
 Ll 14 (Ofx F3v [(.t 11),(.t 12),(.t 13)]),
 Lw 10 14,
 Iex 15 10 0,
 Iex 16 10 1,
 Iex 17 10 2,
 Ll 7 (.box false 3 (.c (.arr 64 .leaf z64))),
 Ll 8 (.box false 4 (.c (.arr 64 .leaf z64))),
 Ll 9 (.box false 5 (.c (.arr 64 .leaf z64))),
 Ls (.store false Sx6 (.t 7) (.t 15)),
 Ls (.store false Sx6 (.t 8) (.t 16)),
 Ls (.store false Sx6 (.t 9) (.t 17))] [0,5,6,8])
 (.seq (.region [Lw 18 0,
 Ipx 19 8,
 Ipx 20 5,
 Ll 21 (Ofx F47 [(.t 18),(.t 19),(.t 20)]),
 Ls (.store false Sx6 (.t 6) (.t 21))] [6])
 (.ret)))
def Z4s:Fn:=
 { nparams:=3,nblk:=6,results:=[.cell 6 Sx6],body:=Z4s_B }
def Z4v_L0:Cd:=
 .seq (.seq (.region [Lw 14 8,
 Lw 15 2,
 Ll 16 (.len false (.t 15)),
 Ll 17 (.bin .lss (.t 14) (.t 16))] [0,2,4,6,7,8,17])
 (.cond (.t 17)
 (.skip)
 (.exit 0)))
 (.seq (.block 1 (.seq (.region [Lw 20 0,
 Ipx 21 4,
 Isx 22 7,
 Lw 23 2,
 Lw 24 8,
 Ll 25 (.idxA none Sx6 (.t 23) (.t 24)),
 Ipx 26 25,
 Ll 27 (Ofx F56 [(.t 20),(.t 21),(.t 22),(.t 26)]),
 Ll 9 (.box false 3 (.c (.arr 64 .leaf z64))),
 Ls (.store false Sx6 (.t 9) (.t 27))] [0,2,4,6,7,8,9])
 (.seq (.seq (.region [Ipx 28 9,
 Ll 29 (Ofx F3w [(.t 28)]),
 Ll 30 (.bin .lss (.t 29) (Acx 0))] [0,2,4,6,7,8,9,30])
 (.cond (.t 30)
 (.exit 1)
 (.skip)))
 (.seq (.region [Lw 31 0,
 Ll 32 (.build false (.arr 64 .leaf z64) []),
 Lw 33 0,
 Ipx 34 9,
 Lw 35 0,
 Ll 36 (.bin .sub (.t 35) (Acx 1)),
 Ipx 37 4,
 Ll 38 (Ofx F4d [(.t 33),(.t 34),(.t 36),(.t 37)]),
 Ll 39 (Ofx F3t [(.t 31),(.t 32),(.t 38),(Acx (-1))]),
 Ll 40 (Ofx F4b []),
 Ll 41 (.build false (.arr 8 Sx6 z8) [(0,(.t 39)),(1,(.t 40))]),
 Ll 10 (.box false 4 (.c (.arr 8 Sx6 z8))),
 Ls (.store false Sx8 (.t 10) (.t 41))] [0,2,4,6,7,8,10])
 (.seq (.region [Lw 43 0,
 Ipx 44 4,
 Isx 45 10,
 Isx 46 7,
 Ll 47 (Ofx F55 [(.t 43),(.t 44),(.t 45),(.t 46)]),
 Lw 42 47,
 Iex 48 42 0,
 Iex 49 42 1,
 Ll 11 (.box false 5 (.c (.arr 8 Sx6 z8))),
 Ls (.store false Sx8 (.t 11) (.t 48)),
 Lw 12 49] [0,2,4,6,7,8,11])
 (.region [Isx 50 11,
 Ls (.store false Sx8 (.t 7) (.t 50))] [0,2,4,6,7,8]))))))
 (.region [Lw 18 8,
 Ll 19 (.bin .add (.t 18) (Acx 1)),
 Lw 8 19] [0,2,4,6,7,8]))
def Z4v_B:Cd:=
 .seq (.region [Ll 4 (.box false 0 (.t 1)),
 Ll 6 (.box false 1 (.c (.arr 8 Sx6 z8)))] [0,2,4,6])
 (.seq (.region [Ll 13 (Ofx F4z []),
 Ll 7 (.box false 2 (.c (.arr 8 Sx6 z8))),
 Ls (.store false Sx8 (.t 7) (.t 13))] [0,2,4,6,7])
 (.seq (.seq (.region [Ll 8 (.mv (Acx 0))] [0,2,4,6,7,8])
 (.block 0 (.loop (Z4v_L0))))
 (.seq (.region [Isx 51 7,
 Ls (.store false Sx8 (.t 6) (.t 51))] [6])
 (.ret))))
def Z4v:Fn:=
 { nparams:=3,nblk:=6,results:=[.cell 6 Sx8],body:=Z4v_B }
def ir_spec_LeastSkew_B:Cd:=
 .seq (.region [Ll 4 (.box false 0 (.t 1)),
 Ll 6 (.box false 1 (.c (.arr 8 Sx6 z8))),
 Ll 7 (.mv (Acx 0))] [0,2,4,6])
 (.seq (.seq (.region [Lw 9 0,
 Ipx 10 4,
 Lw 11 2,
 Ll 12 (Ofx F52 [(.t 9),(.t 10),(.t 11)]),
 Lw 8 12] [0,2,4,6,8])
 (.seq (.region [Lw 13 8,
 Ll 14 (.bin .neq (.t 13) (Acx 0))] [0,2,4,6,8,14])
 (.cond (.t 14)
 (.seq (.region [Ll 15 (.build false (.arr 8 Sx6 z8) []),
 Lw 16 8,
 Ls (.store false Sx8 (.t 6) (.t 15)),
 Lw 7 16] [6,7])
 (.ret))
 (.skip))))
 (.seq (.region [Lw 17 0,
 Ipx 18 4,
 Lw 19 2,
 Ll 20 (Ofx F4v [(.t 17),(.t 18),(.t 19)]),
 Ls (.store false Sx8 (.t 6) (.t 20)),
 Ll 7 (.mv (Acx 0))] [6,7])
 (.ret)))
def Z3p:Fn:=
 { nparams:=3,nblk:=2,results:=[.cell 6 Sx8,.tmp 7],body:=ir_spec_LeastSkew_B }
def Z4u_L0:Cd:=
 .seq (.seq (.region [Lw 33 13,
 Lw 34 7,
 Ll 35 (.len false (.t 34)),
 Ll 36 (.bin .lss (.t 33) (.t 35))] [0,4,5,7,8,9,10,11,12,13,36])
 (.cond (.t 36)
 (.skip)
 (.exit 2)))
 (.seq (.block 3 (.seq (.region [Lw 39 7,
 Lw 40 13,
 Ll 41 (.idxA none Sx6 (.t 39) (.t 40)),
 Ipx 42 41,
 Ll 43 (Ofx F3w [(.t 42)]),
 Lw 14 43] [0,4,5,7,8,9,10,11,12,13,14])
 (.seq (.region [Lw 44 14,
 Ll 45 (.idxA (some 64) .leaf (.t 12) (.t 44)),
 Ilx 46 45,
 Ll 47 (.bin .neq (.t 46) (.c (.int .u8 0)))] [0,4,5,7,8,9,10,11,12,13,14,47])
 (.cond (.t 47)
 (.seq (.region [Lw 48 14,
 Ll 49 (.idxA (some 64) .leaf (.t 12) (.t 48)),
 Ilx 50 49,
 Ll 51 (.conv .i64 (.t 50)),
 Ll 52 (.un .neg (.t 51)),
 Lw 53 0,
 Lw 54 7,
 Lw 55 13,
 Lw 56 14,
 Ll 57 (.idxA none Sx6 (.t 54) (.t 55)),
 Ll 58 (.idxA (some 64) .leaf (.t 57) (.t 56)),
 Ilx 59 58,
 Ll 60 (Ofx F44 [(.t 53),(.t 59)]),
 Ll 61 (.conv .i64 (.t 60)),
 Ll 62 (.bin .mul (.t 52) (.t 61)),
 Lw 15 62] [0,4,5,7,8,9,10,11,12,13,15])
 (.seq (.region [Lw 63 0,
 Ipx 64 12,
 Lw 65 7,
 Lw 66 13,
 Ll 67 (.idxA none Sx6 (.t 65) (.t 66)),
 Ipx 68 67,
 Lw 69 15,
 Ll 70 (Ofx F3t [(.t 63),(.t 64),(.t 68),(.t 69)]),
 Ls (.store false Sx6 (.t 12) (.t 70))] [0,4,5,7,8,9,10,11,12,13,15])
 (.region [Lw 71 0,
 Ipx 72 11,
 Lw 73 8,
 Lw 74 13,
 Ll 75 (.idxA none Sx6 (.t 73) (.t 74)),
 Ipx 76 75,
 Lw 77 15,
 Ll 78 (Ofx F3t [(.t 71),(.t 72),(.t 76),(.t 77)]),
 Ls (.store false Sx6 (.t 11) (.t 78))] [0,4,5,7,8,9,10,11,12,13])))
 (.skip)))))
 (.region [Lw 37 13,
 Ll 38 (.bin .add (.t 37) (Acx 1)),
 Lw 13 38] [0,4,5,7,8,9,10,11,12,13]))
def Z4u_L1:Cd:=
 .seq (.seq (.region [Lw 19 10,
 Ipx 20 4,
 Ll 21 (Ofx F3w [(.t 20)]),
 Ll 22 (.bin .lss (.t 19) (.t 21))] [0,4,5,7,8,9,10,22])
 (.cond (.t 22)
 (.skip)
 (.exit 0)))
 (.seq (.block 1 (.seq (.region [Ll 25 (.build false (.arr 64 .leaf z64) []),
 Ll 11 (.box false 5 (.c (.arr 64 .leaf z64))),
 Ls (.store false Sx6 (.t 11) (.t 25))] [0,4,5,7,8,9,10,11])
 (.seq (.region [Lw 26 10,
 Ll 27 (.idxA (some 64) .leaf (.t 11) (.t 26)),
 Ls (.store false .leaf (.t 27) (.c (.int .u8 1)))] [0,4,5,7,8,9,10,11])
 (.seq (.region [Lw 28 0,
 Ipx 29 4,
 Isx 30 5,
 Ipx 31 11,
 Ll 32 (Ofx F56 [(.t 28),(.t 29),(.t 30),(.t 31)]),
 Ll 12 (.box false 6 (.c (.arr 64 .leaf z64))),
 Ls (.store false Sx6 (.t 12) (.t 32))] [0,4,5,7,8,9,10,11,12])
 (.seq (.seq (.region [Ll 13 (.mv (Acx 0))] [0,4,5,7,8,9,10,11,12,13])
 (.block 2 (.loop (Z4u_L0))))
 (.seq (.seq (.region [Ipx 79 12,
 Ll 80 (Ofx F3w [(.t 79)]),
 Ll 81 (.bin .lss (.t 80) (Acx 0))] [0,4,5,7,8,9,10,11,12,81])
 (.cond (.t 81)
 (.seq (.region [Lw 82 0,
 Lw 83 9,
 Ipx 84 11,
 Ll 85 (.call .data [] (.f F50) [(.t 82),(.t 83),(.t 84)]),
 Lw 9 85] [0,4,5,7,8,9,10])
 (.exit 1))
 (.skip)))
 (.seq (.region [Lw 86 7,
 Ipx 87 12,
 Ll 88 (.buildSl false 7 Sx6 (.arr 64 .leaf z64) 1 [(0,(.t 87))]),
 Ll 89 (.append Sx6 8 64 (.t 86) (.t 88)),
 Lw 7 89] [0,4,5,7,8,9,10,11])
 (.region [Lw 90 8,
 Ipx 91 11,
 Ll 92 (.buildSl false 9 Sx6 (.arr 64 .leaf z64) 1 [(0,(.t 91))]),
 Ll 93 (.append Sx6 10 64 (.t 90) (.t 92)),
 Lw 8 93] [0,4,5,7,8,9,10]))))))))
 (.region [Lw 23 10,
 Ll 24 (.bin .add (.t 23) (Acx 1)),
 Lw 10 24] [0,4,5,7,8,9,10]))
def Z4u_B:Cd:=
 .seq (.region [Ll 4 (.box false 0 (.t 1)),
 Ll 5 (.box false 1 (.t 2)),
 Ll 6 (.mv (.c (.sl Sx6 [])))] [0,4,5])
 (.seq (.region [Ll 16 (.buildSl false 2 Sx6 (.arr 64 .leaf z64) 0 []),
 Ll 17 (.buildSl false 3 Sx6 (.arr 64 .leaf z64) 0 []),
 Ll 18 (.buildSl false 4 Sx6 (.arr 64 .leaf z64) 0 []),
 Lw 7 16,
 Lw 8 17,
 Lw 9 18] [0,4,5,7,8,9])
 (.seq (.seq (.region [Ll 10 (.mv (Acx 0))] [0,4,5,7,8,9,10])
 (.block 0 (.loop (Z4u_L1))))
 (.seq (.region [Lw 94 9,
 Lw 6 94] [6])
 (.ret))))
def Z4u:Fn:=
 { nparams:=3,nblk:=11,results:=[.tmp 6],body:=Z4u_B }
def ir_spec_KernelOfSkew_B:Cd:=
 .seq (.region [Ll 4 (.box false 0 (.t 1)),
 Ll 5 (.box false 1 (.t 2)),
 Ll 6 (.mv (.c (.sl Sx6 []))),
 Ll 7 (.mv (Acx 0))] [0,4,5])
 (.seq (.seq (.region [Lw 9 0,
 Ipx 10 4,
 Isx 11 5,
 Ll 12 (.buildSl false 2 Sx8 (.arr 8 Sx6 z8) 1 [(0,(.t 11))]),
 Ll 13 (Ofx F4k [(.t 9),(.t 10),(.t 12)]),
 Lw 8 13] [0,4,5,8])
 (.seq (.region [Lw 14 8,
 Ll 15 (.bin .neq (.t 14) (Acx 0))] [0,4,5,8,15])
 (.cond (.t 15)
 (.seq (.region [Lw 16 8,
 Ll 6 (.mv (.c (.sl Sx6 []))),
 Lw 7 16] [6,7])
 (.ret))
 (.skip))))
 (.seq (.region [Lw 17 0,
 Ipx 18 4,
 Isx 19 5,
 Ll 20 (Opx F4u [(.t 17),(.t 18),(.t 19)]),
 Lw 6 20,
 Ll 7 (.mv (Acx 0))] [6,7])
 (.ret)))
def Z3o:Fn:=
 { nparams:=3,nblk:=3,results:=[.tmp 6,.tmp 7],body:=ir_spec_KernelOfSkew_B }
def Z4i_L0:Cd:=
 .seq (.seq (.region [Lw 10 9,
 Ll 11 (.bin .lss (.t 10) (Acx 8))] [0,3,5,6,8,9,11])
 (.cond (.t 11)
 (.skip)
 (.exit 0)))
 (.seq (.block 1 (.region [Lw 14 9,
 Lw 15 0,
 Lw 16 9,
 Ll 17 (.idxA (some 8) Sx6 (.t 5) (.t 16)),
 Ipx 18 17,
 Lw 19 9,
 Ll 20 (.idxA (some 8) Sx6 (.t 6) (.t 19)),
 Ipx 21 20,
 Lw 22 3,
 Ll 23 (Ofx F3t [(.t 15),(.t 18),(.t 21),(.t 22)]),
 Ll 24 (.idxA (some 8) Sx6 (.t 5) (.t 14)),
 Ls (.store false Sx6 (.t 24) (.t 23))] [0,3,5,6,8,9]))
 (.region [Lw 12 9,
 Ll 13 (.bin .add (.t 12) (Acx 1)),
 Lw 9 13] [0,3,5,6,8,9]))
def Z4i_B:Cd:=
 .seq (.region [Ll 5 (.box false 0 (.t 1)),
 Ll 6 (.box false 1 (.t 2)),
 Ll 8 (.box false 2 (.c (.arr 8 Sx6 z8)))] [0,3,5,6,8])
 (.seq (.seq (.region [Ll 9 (.mv (Acx 0))] [0,3,5,6,8,9])
 (.block 0 (.loop (Z4i_L0))))
 (.seq (.region [Isx 25 5,
 Ls (.store false Sx8 (.t 8) (.t 25))] [8])
 (.ret)))
def Z4i:Fn:=
 { nparams:=4,nblk:=3,results:=[.cell 8 Sx8],body:=Z4i_B }
def Z54_B:Cd:=
 .seq (.region [Ll 2 (.box false 0 (.t 0)),
 Ll 4 (.box false 1 (.c (.arr 8 Sx6 z8)))] [1,2,4])
 (.seq (.region [Ll 6 (.build false (.arr 8 Sx6 z8) []),
 Ll 5 (.box false 2 (.c (.arr 8 Sx6 z8))),
 Ls (.store false Sx8 (.t 5) (.t 6))] [1,2,4,5])
 (.seq (.region [Lw 7 1,
 Ipx 8 2,
 Ll 9 (.idxA (some 8) Sx6 (.t 5) (.t 7)),
 Ls (.store false Sx6 (.t 9) (.t 8))] [4,5])
 (.seq (.region [Isx 10 5,
 Ls (.store false Sx8 (.t 4) (.t 10))] [4])
 (.ret))))
def Z54:Fn:=
 { nparams:=2,nblk:=3,results:=[.cell 4 Sx8],body:=Z54_B }
def Z53_L0:Cd:=
 .seq (.seq (.region [Lw 21 12,
 Lw 22 11,
 Ll 23 (.bin .geq (.t 21) (.t 22))] [0,5,6,7,8,9,10,11,12,23])
 (.cond (.t 23)
 (.skip)
 (.exit 0)))
 (.seq (.block 1 (.seq (.region [Lw 26 0,
 Lw 27 12,
 Ll 28 (.idxA (some 8) Sx6 (.t 6) (.t 27)),
 Ipx 29 28,
 Lw 30 0,
 Lw 31 0,
 Lw 32 11,
 Ll 33 (.idxA (some 8) Sx6 (.t 7) (.t 32)),
 Ipx 34 33,
 Lw 35 12,
 Lw 36 11,
 Ll 37 (.bin .sub (.t 35) (.t 36)),
 Ipx 38 5,
 Ll 39 (Ofx F4r [(.t 31),(.t 34),(.t 37),(.t 38)]),
 Ipx 40 5,
 Ll 41 (Ofx F4s [(.t 30),(.t 39),(.t 40)]),
 Ipx 42 5,
 Ll 43 (Ofx F49 [(.t 26),(.t 29),(.t 41),(.t 42)]),
 Ll 13 (.box false 6 (.c (.arr 64 .leaf z64))),
 Ls (.store false Sx6 (.t 13) (.t 43))] [0,5,6,7,8,9,10,11,12,13])
 (.seq (.region [Lw 44 12,
 Lw 45 11,
 Ll 46 (.bin .sub (.t 44) (.t 45)),
 Ipx 47 13,
 Ll 48 (.idxA (some 8) Sx6 (.t 10) (.t 46)),
 Ls (.store false Sx6 (.t 48) (.t 47))] [0,5,6,7,8,9,10,11,12,13])
 (.seq (.region [Lw 50 0,
 Ipx 51 5,
 Ipx 52 13,
 Lw 53 12,
 Lw 54 11,
 Ll 55 (.bin .sub (.t 53) (.t 54)),
 Ll 56 (Ofx F54 [(.t 52),(.t 55)]),
 Isx 57 7,
 Ll 58 (Ofx F55 [(.t 50),(.t 51),(.t 56),(.t 57)]),
 Lw 49 58,
 Iex 59 49 0,
 Iex 60 49 1,
 Ll 14 (.box false 7 (.c (.arr 8 Sx6 z8))),
 Ls (.store false Sx8 (.t 14) (.t 59)),
 Lw 15 60] [0,5,6,7,8,9,10,11,14])
 (.region [Lw 61 0,
 Isx 62 6,
 Isx 63 14,
 Ll 64 (Ofx F4i [(.t 61),(.t 62),(.t 63),(Acx (-1))]),
 Ls (.store false Sx8 (.t 6) (.t 64))] [0,5,6,7,8,9,10,11])))))
 (.region [Isx 24 6,
 Ll 25 (Ofx F4l [(.t 24)]),
 Lw 12 25] [0,5,6,7,8,9,10,11,12]))
def Z53_B:Cd:=
 .seq (.region [Ll 5 (.box false 0 (.t 1)),
 Ll 6 (.box false 1 (.t 2)),
 Ll 7 (.box false 2 (.t 3)),
 Ll 8 (.box false 3 (.c (.arr 8 Sx6 z8))),
 Ll 9 (.box false 4 (.c (.arr 8 Sx6 z8)))] [0,5,6,7,8,9])
 (.seq (.region [Ll 16 (.build false (.arr 8 Sx6 z8) []),
 Isx 17 7,
 Ll 18 (Ofx F4l [(.t 17)]),
 Ll 10 (.box false 5 (.c (.arr 8 Sx6 z8))),
 Ls (.store false Sx8 (.t 10) (.t 16)),
 Lw 11 18] [0,5,6,7,8,9,10,11])
 (.seq (.seq (.region [Isx 19 6,
 Ll 20 (Ofx F4l [(.t 19)]),
 Lw 12 20] [0,5,6,7,8,9,10,11,12])
 (.block 0 (.loop (Z53_L0))))
 (.seq (.region [Isx 65 10,
 Isx 66 6,
 ⟨none,.store false Sx8 (.t 8) (.t 65),none,[6]⟩,
 Ls (.store false Sx8 (.t 9) (.t 66))] [8,9])
 (.ret))))
def Z53:Fn:=
 { nparams:=4,nblk:=8,results:=[.cell 8 Sx8,.cell 9 Sx8],body:=Z53_B }
def Z4x_L0:Cd:=
 .seq (.seq (.region [Lw 16 8,
 Ll 17 (.bin .lss (.t 16) (Acx 8))] [0,4,5,6,7,8,17])
 (.cond (.t 17)
 (.skip)
 (.exit 0)))
 (.seq (.block 1 (.region [Lw 20 8,
 Lw 21 0,
 Ipx 22 7,
 Lw 23 8,
 Ll 24 (.idxA (some 8) Sx6 (.t 5) (.t 23)),
 Ipx 25 24,
 Ipx 26 4,
 Ll 27 (Ofx F49 [(.t 21),(.t 22),(.t 25),(.t 26)]),
 Ll 28 (.idxA (some 8) Sx6 (.t 5) (.t 20)),
 Ls (.store false Sx6 (.t 28) (.t 27))] [0,4,5,6,7,8]))
 (.region [Lw 18 8,
 Ll 19 (.bin .add (.t 18) (Acx 1)),
 Lw 8 19] [0,4,5,6,7,8]))
def Z4x_B:Cd:=
 .seq (.region [Ll 4 (.box false 0 (.t 1)),
 Ll 5 (.box false 1 (.t 2)),
 Ll 6 (.box false 2 (.c (.arr 8 Sx6 z8)))] [0,4,5,6])
 (.seq (.region [Lw 9 0,
 Isx 10 5,
 Ll 11 (Ofx F4l [(.t 10)]),
 Ll 12 (.idxA (some 8) Sx6 (.t 5) (.t 11)),
 Ipx 13 12,
 Ipx 14 4,
 Ll 15 (Ofx F4s [(.t 9),(.t 13),(.t 14)]),
 Ll 7 (.box false 3 (.c (.arr 64 .leaf z64))),
 Ls (.store false Sx6 (.t 7) (.t 15))] [0,4,5,6,7])
 (.seq (.seq (.region [Ll 8 (.mv (Acx 0))] [0,4,5,6,7,8])
 (.block 0 (.loop (Z4x_L0))))
 (.seq (.region [Isx 29 5,
 Ls (.store false Sx8 (.t 6) (.t 29))] [6])
 (.ret))))
def Z4x:Fn:=
 { nparams:=3,nblk:=4,results:=[.cell 6 Sx8],body:=Z4x_B }
def Z4m_L0:Cd:=
 .seq (.seq (.region [Isx 11 7,
 Ll 12 (Ofx F4l [(.t 11)]),
 Ll 13 (.bin .geq (.t 12) (Acx 0))] [0,5,6,7,8,13])
 (.cond (.t 13)
 (.skip)
 (.exit 0)))
 (.block 1 (.seq (.region [Lw 15 0,
 Ipx 16 5,
 Isx 17 6,
 Isx 18 7,
 Ll 19 (Ofx F53 [(.t 15),(.t 16),(.t 17),(.t 18)]),
 Lw 14 19,
 Iex 20 14 0,
 Iex 21 14 1,
 Ll 9 (.box false 4 (.c (.arr 8 Sx6 z8))),
 Ll 10 (.box false 5 (.c (.arr 8 Sx6 z8))),
 Ls (.store false Sx8 (.t 9) (.t 20)),
 Ls (.store false Sx8 (.t 10) (.t 21))] [0,5,6,7,8,10])
 (.seq (.region [Isx 22 7,
 Ls (.store false Sx8 (.t 6) (.t 22))] [0,5,6,7,8,10])
 (.region [Isx 23 10,
 Ls (.store false Sx8 (.t 7) (.t 23))] [0,5,6,7,8]))))
def Z4m_B:Cd:=
 .seq (.region [Ll 5 (.box false 0 (.t 1)),
 Ll 6 (.box false 1 (.t 2)),
 Ll 7 (.box false 2 (.t 3)),
 Ll 8 (.box false 3 (.c (.arr 8 Sx6 z8)))] [0,5,6,7,8])
 (.seq (.block 0 (.loop (Z4m_L0)))
 (.seq (.region [Lw 24 0,
 Ipx 25 5,
 Isx 26 6,
 Ll 27 (Ofx F4x [(.t 24),(.t 25),(.t 26)]),
 Ls (.store false Sx8 (.t 8) (.t 27))] [8])
 (.ret)))
def Z4m:Fn:=
 { nparams:=4,nblk:=6,results:=[.cell 8 Sx8],body:=Z4m_B }
def Z3r_B:Cd:=
 .seq (.region [Ll 5 (.box false 0 (.t 1)),
 Ll 6 (.box false 1 (.t 2)),
 Ll 7 (.box false 2 (.t 3)),
 Ll 8 (.box false 3 (.c (.arr 8 Sx6 z8))),
 Ll 9 (.mv (Acx 0))] [0,5,6,7,8])
 (.seq (.region [Lw 11 0,
 Ipx 12 5,
 Isx 13 6,
 Isx 14 7,
 Ll 15 (.buildSl false 4 Sx8 (.arr 8 Sx6 z8) 2 [(0,(.t 13)),(1,(.t 14))]),
 Ll 16 (Ofx F4k [(.t 11),(.t 12),(.t 15)]),
 Lw 10 16] [0,5,6,7,8,10])
 (.seq (.seq (.region [Lw 17 10,
 Ll 18 (.bin .eql (.t 17) (Acx 0)),
 Lw 19 18,
 Lg 20 (.load Sx8 (.t 6)) 19 true,
 Lg 21 (Ofx F4l [(.t 20)]) 19 true,
 Lg 22 (.bin .lss (.t 21) (Acx 0)) 19 true,
 Ll 23 (.pick (.t 19) (.t 22) (.c (.bool false))),
 Lw 24 23,
 Lg 25 (.load Sx8 (.t 7)) 24 true,
 Lg 26 (Ofx F4l [(.t 25)]) 24 true,
 Lg 27 (.bin .lss (.t 26) (Acx 0)) 24 true,
 Ll 28 (.pick (.t 24) (.t 27) (.c (.bool false)))] [0,5,6,7,8,10,28])
 (.cond (.t 28)
 (.region [Ll 10 (.mv (Acx 5))] [0,5,6,7,8,10])
 (.skip)))
 (.seq (.seq (.region [Lw 29 10,
 Ll 30 (.bin .neq (.t 29) (Acx 0))] [0,5,6,7,8,10,30])
 (.cond (.t 30)
 (.seq (.region [Ll 31 (.build false (.arr 8 Sx6 z8) []),
 Lw 32 10,
 Ls (.store false Sx8 (.t 8) (.t 31)),
 Lw 9 32] [8,9])
 (.ret))
 (.skip)))
 (.seq (.region [Lw 33 0,
 Ipx 34 5,
 Isx 35 6,
 Isx 36 7,
 Ll 37 (Ofx F4m [(.t 33),(.t 34),(.t 35),(.t 36)]),
 Ls (.store false Sx8 (.t 8) (.t 37)),
 Ll 9 (.mv (Acx 0))] [8,9])
 (.ret)))))
def Z3r:Fn:=
 { nparams:=4,nblk:=5,results:=[.cell 8 Sx8,.tmp 9],body:=Z3r_B }
def Z4y_L0:Cd:=
 .seq (.seq (.region [Isx 39 11,
 Ll 40 (Ofx F4l [(.t 39)]),
 Ll 41 (.bin .geq (.t 40) (Acx 0))] [0,5,6,8,10,11,12,13,41])
 (.cond (.t 41)
 (.skip)
 (.exit 0)))
 (.block 1 (.seq (.region [Lw 43 0,
 Ipx 44 5,
 Isx 45 10,
 Isx 46 11,
 Ll 47 (Ofx F53 [(.t 43),(.t 44),(.t 45),(.t 46)]),
 Lw 42 47,
 Iex 48 42 0,
 Iex 49 42 1,
 Ll 14 (.box false 8 (.c (.arr 8 Sx6 z8))),
 Ll 15 (.box false 9 (.c (.arr 8 Sx6 z8))),
 Ls (.store false Sx8 (.t 14) (.t 48)),
 Ls (.store false Sx8 (.t 15) (.t 49))] [0,5,6,8,10,11,12,13,14,15])
 (.seq (.region [Lw 51 0,
 Ipx 52 5,
 Isx 53 14,
 Isx 54 13,
 Ll 55 (Ofx F55 [(.t 51),(.t 52),(.t 53),(.t 54)]),
 Lw 50 55,
 Iex 56 50 0,
 Iex 57 50 1,
 Ll 16 (.box false 10 (.c (.arr 8 Sx6 z8))),
 Ls (.store false Sx8 (.t 16) (.t 56)),
 Lw 17 57] [0,5,6,8,10,11,12,13,15,16])
 (.seq (.region [Lw 58 0,
 Isx 59 12,
 Isx 60 16,
 Ll 61 (Ofx F4i [(.t 58),(.t 59),(.t 60),(Acx (-1))]),
 Ll 18 (.box false 11 (.c (.arr 8 Sx6 z8))),
 Ls (.store false Sx8 (.t 18) (.t 61))] [0,5,6,8,10,11,12,13,15,18])
 (.seq (.region [Isx 62 11,
 Ls (.store false Sx8 (.t 10) (.t 62))] [0,5,6,8,10,11,12,13,15,18])
 (.seq (.region [Isx 63 15,
 Ls (.store false Sx8 (.t 11) (.t 63))] [0,5,6,8,10,11,12,13,18])
 (.seq (.region [Isx 64 13,
 Ls (.store false Sx8 (.t 12) (.t 64))] [0,5,6,8,10,11,12,13,18])
 (.region [Isx 65 18,
 Ls (.store false Sx8 (.t 13) (.t 65))] [0,5,6,8,10,11,12,13]))))))))
def Z4y_B:Cd:=
 .seq (.region [Ll 5 (.box false 0 (.t 1)),
 Ll 6 (.box false 1 (.t 2)),
 Ll 7 (.box false 2 (.t 3)),
 Ll 8 (.box false 3 (.c (.arr 8 Sx6 z8))),
 Ll 9 (.mv (.c (.bool false)))] [0,5,6,7,8])
 (.seq (.seq (.region [Isx 21 6,
 Ll 22 (Ofx F4l [(.t 21)]),
 Isx 23 7,
 Ll 24 (Ofx F4l [(.t 23)]),
 Ll 25 (.bin .add (.t 22) (.t 24)),
 Lw 26 0,
 Ipx 27 5,
 Isx 28 6,
 Isx 29 7,
 Ll 30 (Ofx F4m [(.t 26),(.t 27),(.t 28),(.t 29)]),
 Ll 31 (Ofx F4l [(.t 30)]),
 Ll 32 (.bin .sub (.t 25) (.t 31)),
 Ll 33 (.bin .gtr (.t 32) (Acx 7))] [0,5,6,7,8,33])
 (.cond (.t 33)
 (.seq (.region [Ll 34 (.build false (.arr 8 Sx6 z8) []),
 Ls (.store false Sx8 (.t 8) (.t 34)),
 Ll 9 (.mv (.c (.bool false)))] [8,9])
 (.ret))
 (.skip)))
 (.seq (.region [Isx 35 6,
 Isx 36 7,
 Ll 37 (Ofx F4z []),
 Ll 38 (.build false (.arr 8 Sx6 z8) []),
 Ll 10 (.box false 4 (.c (.arr 8 Sx6 z8))),
 Ll 11 (.box false 5 (.c (.arr 8 Sx6 z8))),
 Ll 12 (.box false 6 (.c (.arr 8 Sx6 z8))),
 Ll 13 (.box false 7 (.c (.arr 8 Sx6 z8))),
 ⟨none,.store false Sx8 (.t 10) (.t 35),none,[7]⟩,
 Ls (.store false Sx8 (.t 11) (.t 36)),
 Ls (.store false Sx8 (.t 12) (.t 37)),
 Ls (.store false Sx8 (.t 13) (.t 38))] [0,5,6,8,10,11,12,13])
 (.seq (.block 0 (.loop (Z4y_L0)))
 (.seq (.region [Lw 67 0,
 Ipx 68 5,
 Isx 69 13,
 Isx 70 6,
 Ll 71 (Ofx F55 [(.t 67),(.t 68),(.t 69),(.t 70)]),
 Lw 66 71,
 Iex 72 66 0,
 Iex 73 66 1,
 Ll 19 (.box false 12 (.c (.arr 8 Sx6 z8))),
 Ls (.store false Sx8 (.t 19) (.t 72)),
 Lw 20 73] [0,5,8,19])
 (.seq (.region [Lw 74 0,
 Ipx 75 5,
 Isx 76 19,
 Ll 77 (Ofx F4x [(.t 74),(.t 75),(.t 76)]),
 Ls (.store false Sx8 (.t 8) (.t 77)),
 Ll 9 (.mv (.c (.bool true)))] [8,9])
 (.ret))))))
def Z4y:Fn:=
 { nparams:=4,nblk:=13,results:=[.cell 8 Sx8,.tmp 9],body:=Z4y_B }
def Z3q_B:Cd:=
 .seq (.region [Ll 5 (.box false 0 (.t 1)),
 Ll 6 (.box false 1 (.t 2)),
 Ll 7 (.box false 2 (.t 3)),
 Ll 8 (.box false 3 (.c (.arr 8 Sx6 z8))),
 Ll 9 (.mv (Acx 0))] [0,5,6,7,8])
 (.seq (.region [Lw 13 0,
 Ipx 14 5,
 Isx 15 6,
 Isx 16 7,
 Ll 17 (.buildSl false 4 Sx8 (.arr 8 Sx6 z8) 2 [(0,(.t 15)),(1,(.t 16))]),
 Ll 18 (Ofx F4k [(.t 13),(.t 14),(.t 17)]),
 Lw 10 18] [0,5,6,7,8,10])
 (.seq (.seq (.region [Lw 19 10,
 Ll 20 (.bin .eql (.t 19) (Acx 0)),
 Lw 21 20,
 Lg 22 (.load Sx8 (.t 6)) 21 true,
 Lg 23 (Ofx F4l [(.t 22)]) 21 true,
 Lg 24 (.bin .lss (.t 23) (Acx 0)) 21 true,
 Lx 25 24 21 true,
 Lg 26 (.load Sx8 (.t 7)) 25 false,
 Lg 27 (Ofx F4l [(.t 26)]) 25 false,
 Lg 28 (.bin .lss (.t 27) (Acx 0)) 25 false,
 Lg 29 (.pick (.t 25) (.c (.bool true)) (.t 28)) 21 true,
 Ll 30 (.pick (.t 21) (.t 29) (.c (.bool false)))] [0,5,6,7,8,10,30])
 (.cond (.t 30)
 (.region [Ll 10 (.mv (Acx 5))] [0,5,6,7,8,10])
 (.skip)))
 (.seq (.seq (.region [Lw 31 10,
 Ll 32 (.bin .neq (.t 31) (Acx 0))] [0,5,6,7,8,10,32])
 (.cond (.t 32)
 (.seq (.region [Ll 33 (.build false (.arr 8 Sx6 z8) []),
 Lw 34 10,
 Ls (.store false Sx8 (.t 8) (.t 33)),
 Lw 9 34] [8,9])
 (.ret))
 (.skip)))
 (.seq (.region [Lw 36 0,
 Ipx 37 5,
 Isx 38 6,
 Isx 39 7,
 Ll 40 (Ofx F4y [(.t 36),(.t 37),(.t 38),(.t 39)]),
 Lw 35 40,
 Iex 41 35 0,
 Iex 42 35 1,
 Ll 11 (.box false 5 (.c (.arr 8 Sx6 z8))),
 Ls (.store false Sx8 (.t 11) (.t 41)),
 Lw 12 42] [8,11,12])
 (.seq (.seq (.region [Lw 43 12,
 Ll 44 (.un .not (.t 43))] [8,11,44])
 (.cond (.t 44)
 (.seq (.region [Ll 45 (.build false (.arr 8 Sx6 z8) []),
 Ls (.store false Sx8 (.t 8) (.t 45)),
 Ll 9 (.mv (Acx 3))] [8,9])
 (.ret))
 (.skip)))
 (.seq (.region [Isx 46 11,
 Ls (.store false Sx8 (.t 8) (.t 46)),
 Ll 9 (.mv (Acx 0))] [8,9])
 (.ret)))))))
def Z3q:Fn:=
 { nparams:=4,nblk:=6,results:=[.cell 8 Sx8,.tmp 9],body:=Z3q_B }
def Z4o_L0:Cd:=
 .seq (.seq (.region [Lw 9 5,
 Ll 10 (.bin .lss (.t 9) (Acx 6))] [0,3,4,5,10])
 (.cond (.t 10)
 (.skip)
 (.exit 0)))
 (.seq (.block 1 (.seq (.region [Lw 13 0,
 Lw 14 4,
 Ll 15 (.call .heap [] (.f F3z) [(.t 13),(.t 14),(Acx 4)]),
 Ll 6 (.box false 1 (.c (.arr 64 .leaf z64))),
 Ls (.store false Sx6 (.t 6) (.t 15))] [0,3,4,5,6])
 (.seq (.region [Lw 16 4,
 Ipx 17 6,
 Ll 18 (Ofx F45 [(.t 16),(.t 17)])] [0,3,4,5,6,18])
 (.cond (.t 18)
 (.seq (.seq (.region [Lw 19 0,
 Ll 20 (.call .heap [] (.f F4a) [(.t 19),(Acx 40)]),
 Ll 21 (.bin .eql (.t 20) (Acx 0))] [0,3,4,6,21])
 (.cond (.t 21)
 (.region [Lw 22 0,
 Ll 23 (.call .heap [] (.f F4a) [(.t 22),(Acx 5)]),
 Lw 24 0,
 Ll 25 (.call .heap [] (.f F4a) [(.t 24),(Acx 8)]),
 Ll 26 (.conv .u8 (.t 25)),
 Ll 27 (.idxA (some 64) .leaf (.t 6) (.t 23)),
 Ls (.store false .leaf (.t 27) (.t 26))] [3,4,6])
 (.skip)))
 (.seq (.region [Lw 28 4,
 Ipx 29 6,
 Lw 2 28,
 Ls (.store false Sx6 (.t 3) (.t 29))] [2,3])
 (.ret)))
 (.skip)))))
 (.region [Lw 11 5,
 Ll 12 (.bin .add (.t 11) (Acx 1)),
 Lw 5 12] [0,3,4,5]))
def Z4o_B:Cd:=
 .seq (.region [Ll 2 (.mv (Acx 0)),
 Ll 3 (.box false 0 (.c (.arr 64 .leaf z64)))] [0,3])
 (.seq (.region [Lw 7 0,
 Ll 8 (.call .heap [] (.f F40) [(.t 7)]),
 Lw 4 8] [0,3,4])
 (.seq (.seq (.region [Ll 5 (.mv (Acx 0))] [0,3,4,5])
 (.block 0 (.loop (Z4o_L0))))
 (.seq (.region [Lw 30 4,
 Ll 31 (Ofx F4f []),
 Lw 2 30,
 Ls (.store false Sx6 (.t 3) (.t 31))] [2,3])
 (.ret))))
def Z4o:Fn:=
 { nparams:=1,nblk:=2,results:=[.tmp 2,.cell 3 Sx6],body:=Z4o_B }
def Z4p_B:Cd:=
 .seq (.region [Ll 5 (.box false 0 (.t 2)),
 Ll 6 (.box false 1 (.c (.arr 64 .leaf z64)))] [0,1,5,6])
 (.seq (.region [Lw 8 0,
 Lw 9 1,
 Ipx 10 5,
 Ll 11 (Ofx F3w [(.t 10)]),
 Ll 12 (.bin .sub (.t 11) (Acx 1)),
 Ll 13 (.maxI (.t 12) (Acx 0)),
 Ll 14 (.call .heap [] (.f F3y) [(.t 8),(.t 9),(.t 13)]),
 Ll 7 (.box false 2 (.c (.arr 64 .leaf z64))),
 Ls (.store false Sx6 (.t 7) (.t 14))] [0,6,7])
 (.seq (.seq (.region [Lw 15 0,
 Ll 16 (.call .heap [] (.f F4a) [(.t 15),(Acx 60)]),
 Ll 17 (.bin .eql (.t 16) (Acx 0))] [0,6,7,17])
 (.cond (.t 17)
 (.region [Lw 18 0,
 Ll 19 (.call .heap [] (.f F4a) [(.t 18),(Acx 8)]),
 Lw 20 0,
 Ll 21 (.call .heap [] (.f F4a) [(.t 20),(Acx 7)]),
 Ll 22 (.conv .u8 (.t 21)),
 Ll 23 (.idxA (some 64) .leaf (.t 7) (.t 19)),
 Ls (.store false .leaf (.t 23) (.t 22))] [6,7])
 (.skip)))
 (.seq (.region [Ipx 24 7,
 Ls (.store false Sx6 (.t 6) (.t 24))] [6])
 (.ret))))
def Z4p:Fn:=
 { nparams:=3,nblk:=3,results:=[.cell 6 Sx6],body:=Z4p_B }
def ir_spec_l03Draw_L0:Cd:=
 .seq (.seq (.region [Lw 17 10,
 Ll 18 (.bin .geq (.t 17) (Acx 0))] [0,1,6,8,9,10,18])
 (.cond (.t 18)
 (.skip)
 (.exit 0)))
 (.seq (.block 1 (.seq (.region [Lw 21 0,
 Ll 22 (.call .heap [] (.f F4a) [(.t 21),(Acx 4)]),
 Ll 23 (.bin .gtr (.t 22) (Acx 0))] [0,1,6,8,9,10,23])
 (.cond (.t 23)
 (.region [Lw 24 10,
 Lw 25 0,
 Lw 26 1,
 Ipx 27 6,
 Ll 28 (.call .heap [] (.f F4p) [(.t 25),(.t 26),(.t 27)]),
 Ll 29 (.idxA (some 8) Sx6 (.t 9) (.t 24)),
 Ls (.store false Sx6 (.t 29) (.t 28))] [0,1,6,8,9,10])
 (.skip))))
 (.region [Lw 19 10,
 Ll 20 (.bin .sub (.t 19) (Acx 1)),
 Lw 10 20] [0,1,6,8,9,10]))
def ir_spec_l03Draw_B:Cd:=
 .seq (.region [Ll 6 (.box false 0 (.t 2)),
 Ll 8 (.box false 1 (.c (.arr 8 Sx6 z8)))] [0,1,3,6,8])
 (.seq (.region [Ll 11 (.build false (.arr 8 Sx6 z8) []),
 Ll 9 (.box false 2 (.c (.arr 8 Sx6 z8))),
 Ls (.store false Sx8 (.t 9) (.t 11))] [0,1,3,6,8,9])
 (.seq (.seq (.region [Lw 12 0,
 Lw 13 3,
 Ll 14 (.bin .add (.t 13) (Acx 2)),
 Ll 15 (.call .heap [] (.f F4a) [(.t 12),(.t 14)]),
 Ll 16 (.bin .sub (.t 15) (Acx 1)),
 Lw 10 16] [0,1,6,8,9,10])
 (.block 0 (.loop (ir_spec_l03Draw_L0))))
 (.seq (.region [Isx 30 9,
 Ls (.store false Sx8 (.t 8) (.t 30))] [8])
 (.ret))))
def Z4n:Fn:=
 { nparams:=4,nblk:=3,results:=[.cell 8 Sx8],body:=ir_spec_l03Draw_B }
def Z4j_B:Cd:=
 .seq (.region [Ll 2 (.mv (Acx 0)),
 Ll 3 (.box false 0 (.c (.arr 64 .leaf z64))),
 Ll 4 (.box false 1 (.c (.arr 8 Sx6 z8))),
 Ll 5 (.box false 2 (.c (.arr 8 Sx6 z8)))] [0,3,4,5])
 (.seq (.region [Lw 16 0,
 Ll 17 (.call .heap [3] (.f F41) [(.t 16)]),
 Lw 6 17] [3,4,5,6])
 (.seq (.region [Lw 19 6,
 Ll 20 (.call .heap [] (.f F4o) [(.t 19)]),
 Lw 18 20,
 Iex 21 18 0,
 Iex 22 18 1,
 Ll 8 (.box false 4 (.c (.arr 64 .leaf z64))),
 Lw 7 21,
 Ls (.store false Sx6 (.t 8) (.t 22))] [3,4,5,6,7,8])
 (.seq (.region [Lw 23 6,
 Lw 24 7,
 Ipx 25 8,
 Lw 26 6,
 Ll 27 (.buildSl false 5 .leaf (.int .i64 0) 3 [(0,(Acx 1)),(1,(Acx 3)),(2,(Acx 7))]),
 ⟨some 28,.call .heap [] (.f F4c) [(.t 26),(.t 27)],none,[8]⟩,
 Ll 29 (.call .heap [] (.f F4n) [(.t 23),(.t 24),(.t 25),(.t 28)]),
 Lw 30 6,
 Lw 31 7,
 ⟨some 32,.load Sx6 (.t 8),none,[23,24,25,26,27,28]⟩,
 Lw 33 6,
 Ll 34 (.buildSl false 6 .leaf (.int .i64 0) 3 [(0,(Acx 1)),(1,(Acx 2)),(2,(Acx 4))]),
 ⟨some 35,.call .heap [] (.f F4c) [(.t 33),(.t 34)],none,[8]⟩,
 Ll 36 (.call .heap [] (.f F4n) [(.t 30),(.t 31),(.t 32),(.t 35)]),
 Ll 9 (.box false 7 (.c (.arr 8 Sx6 z8))),
 Ll 10 (.box false 8 (.c (.arr 8 Sx6 z8))),
 Ls (.store false Sx8 (.t 9) (.t 29)),
 Ls (.store false Sx8 (.t 10) (.t 36))] [3,4,5,6,7,8,9,10])
 (.seq (.seq (.region [Lw 37 6,
 Ll 38 (.call .heap [] (.f F4a) [(.t 37),(Acx 3)]),
 Ll 39 (.bin .eql (.t 38) (Acx 0)),
 Lw 40 39,
 Lx 41 7 40 true,
 Lg 42 (.load Sx6 (.t 8)) 40 true,
 Lg 43 (.load Sx8 (.t 9)) 40 true,
 Lg 44 (.load Sx8 (.t 10)) 40 true,
 Lg 45 (.buildSl false 9 Sx8 (.arr 8 Sx6 z8) 2 [(0,(.t 43)),(1,(.t 44))]) 40 true,
 Lg 46 (Ofx F4k [(.t 41),(.t 42),(.t 45)]) 40 true,
 Lg 47 (.bin .eql (.t 46) (Acx 0)) 40 true,
 Ll 48 (.pick (.t 40) (.t 47) (.c (.bool false)))] [3,4,5,6,7,8,9,10,48])
 (.cond (.t 48)
 (.seq (.region [Lw 49 6,
 Lw 50 7,
 Ipx 51 8,
 Ll 52 (.call .heap [] (.f F4n) [(.t 49),(.t 50),(.t 51),(Acx 1)]),
 Ll 11 (.box false 10 (.c (.arr 8 Sx6 z8))),
 Ls (.store false Sx8 (.t 11) (.t 52))] [3,4,5,7,8,9,10,11])
 (.seq (.region [Lw 54 7,
 Ipx 55 8,
 Isx 56 9,
 Isx 57 11,
 Ll 58 (Ofx F55 [(.t 54),(.t 55),(.t 56),(.t 57)]),
 Lw 53 58,
 Iex 59 53 0,
 Iex 60 53 1,
 Ll 12 (.box false 11 (.c (.arr 8 Sx6 z8))),
 Ls (.store false Sx8 (.t 12) (.t 59)),
 Lw 13 60] [3,4,5,7,8,9,10,11,12,13])
 (.seq (.region [Lw 62 7,
 Ipx 63 8,
 Isx 64 10,
 Isx 65 11,
 Ll 66 (Ofx F55 [(.t 62),(.t 63),(.t 64),(.t 65)]),
 Lw 61 66,
 Iex 67 61 0,
 Iex 68 61 1,
 Ll 14 (.box false 12 (.c (.arr 8 Sx6 z8))),
 Ls (.store false Sx8 (.t 14) (.t 67)),
 Lw 15 68] [3,4,5,7,8,9,10,12,13,14,15])
 (.seq (.region [Lw 69 13,
 Lw 70 69,
 Lx 71 15 70 true,
 Ll 72 (.pick (.t 70) (.t 71) (.c (.bool false))),
 Lw 73 72,
 Lx 74 7 73 true,
 Lg 75 (.load Sx6 (.t 8)) 73 true,
 Lg 76 (.load Sx8 (.t 12)) 73 true,
 Lg 77 (.load Sx8 (.t 14)) 73 true,
 Lg 78 (.buildSl false 13 Sx8 (.arr 8 Sx6 z8) 2 [(0,(.t 76)),(1,(.t 77))]) 73 true,
 Lg 79 (Ofx F4k [(.t 74),(.t 75),(.t 78)]) 73 true,
 Lg 80 (.bin .eql (.t 79) (Acx 0)) 73 true,
 Ll 81 (.pick (.t 73) (.t 80) (.c (.bool false)))] [3,4,5,7,8,9,10,12,14,81])
 (.cond (.t 81)
 (.seq (.region [Lw 82 7,
 Ipx 83 8,
 Isx 84 12,
 Isx 85 14,
 Lw 2 82,
 ⟨none,.store false Sx6 (.t 3) (.t 83),none,[12,14]⟩,
 ⟨none,.store false Sx8 (.t 4) (.t 84),none,[14]⟩,
 Ls (.store false Sx8 (.t 5) (.t 85))] [2,3,4,5])
 (.ret))
 (.skip))))))
 (.skip)))
 (.seq (.region [Lw 86 7,
 Ipx 87 8,
 Isx 88 9,
 Isx 89 10,
 Lw 2 86,
 ⟨none,.store false Sx6 (.t 3) (.t 87),none,[9,10]⟩,
 ⟨none,.store false Sx8 (.t 4) (.t 88),none,[10]⟩,
 Ls (.store false Sx8 (.t 5) (.t 89))] [2,3,4,5])
 (.ret))))))
def Z4j:Fn:=
 { nparams:=1,nblk:=14,results:=[.tmp 2,.cell 3 Sx6,.cell 4 Sx8,.cell 5 Sx8],body:=Z4j_B }
def Z4w_L0:Cd:=
 .seq (.seq (.region [Lw 12 8,
 Ll 13 (.bin .gtr (.t 12) (Acx 0))] [0,1,5,7,8,13])
 (.cond (.t 13)
 (.skip)
 (.exit 0)))
 (.seq (.block 1 (.region [Lw 16 7,
 Lw 17 0,
 Lw 18 1,
 Ipx 19 5,
 Ll 20 (.call .heap [] (.f F4p) [(.t 17),(.t 18),(.t 19)]),
 Ll 21 (.buildSl false 2 Sx6 (.arr 64 .leaf z64) 1 [(0,(.t 20))]),
 Ll 22 (.append Sx6 3 64 (.t 16) (.t 21)),
 Lw 7 22] [0,1,5,7,8]))
 (.region [Lw 14 8,
 Ll 15 (.bin .sub (.t 14) (Acx 1)),
 Lw 8 15] [0,1,5,7,8]))
def Z4w_B:Cd:=
 .seq (.region [Ll 5 (.box false 0 (.t 2)),
 Ll 6 (.mv (.c (.sl Sx6 [])))] [0,1,5])
 (.seq (.region [Ll 9 (.buildSl false 1 Sx6 (.arr 64 .leaf z64) 0 []),
 Lw 7 9] [0,1,5,7])
 (.seq (.seq (.region [Lw 10 0,
 Ll 11 (.call .heap [] (.f F4a) [(.t 10),(Acx 5)]),
 Lw 8 11] [0,1,5,7,8])
 (.block 0 (.loop (Z4w_L0))))
 (.seq (.region [Lw 23 7,
 Lw 6 23] [6])
 (.ret))))
def Z4w:Fn:=
 { nparams:=3,nblk:=4,results:=[.tmp 6],body:=Z4w_B }
def Z3l_B:Cd:=
 .seq (.region [Ll 2 (.mv (Acx 0)),
 Ll 3 (.box false 0 (.c (.arr 64 .leaf z64))),
 Ll 4 (.box false 1 (.c (.arr 8 Sx6 z8))),
 Ll 5 (.box false 2 (.c (.arr 8 Sx6 z8)))] [0,3,4,5])
 (.seq (.region [Lw 11 0,
 Ll 12 (Ofx F4j [(.t 11)]),
 Lw 10 12,
 Iex 13 10 0,
 Iex 14 10 1,
 Iex 15 10 2,
 Iex 16 10 3,
 Ll 7 (.box false 3 (.c (.arr 64 .leaf z64))),
 Ll 8 (.box false 4 (.c (.arr 8 Sx6 z8))),
 Ll 9 (.box false 5 (.c (.arr 8 Sx6 z8))),
 Lw 6 13,
 Ls (.store false Sx6 (.t 7) (.t 14)),
 Ls (.store false Sx8 (.t 8) (.t 15)),
 Ls (.store false Sx8 (.t 9) (.t 16))] [3,4,5,6,7,8,9])
 (.seq (.region [Lw 17 6,
 Ipx 18 7,
 Isx 19 8,
 Isx 20 9,
 Lw 2 17,
 ⟨none,.store false Sx6 (.t 3) (.t 18),none,[8,9]⟩,
 ⟨none,.store false Sx8 (.t 4) (.t 19),none,[9]⟩,
 Ls (.store false Sx8 (.t 5) (.t 20))] [2,3,4,5])
 (.ret)))
def Z3l:Fn:=
 { nparams:=1,nblk:=6,results:=[.tmp 2,.cell 3 Sx6,.cell 4 Sx8,.cell 5 Sx8],body:=Z3l_B }
def ir_spec_DrawKernelOfSkew_B:Cd:=
 .seq (.region [Ll 2 (.mv (Acx 0)),
 Ll 3 (.box false 0 (.c (.arr 64 .leaf z64))),
 Ll 4 (.box false 1 (.c (.arr 8 Sx6 z8)))] [0,3,4])
 (.seq (.region [Lw 11 0,
 Ll 12 (.call .heap [2] (.f F41) [(.t 11)]),
 Lw 5 12] [3,4,5])
 (.seq (.region [Lw 14 5,
 Ll 15 (.call .heap [] (.f F4o) [(.t 14)]),
 Lw 13 15,
 Iex 16 13 0,
 Iex 17 13 1,
 Ll 7 (.box false 3 (.c (.arr 64 .leaf z64))),
 Lw 6 16,
 Ls (.store false Sx6 (.t 7) (.t 17))] [3,4,5,6,7])
 (.seq (.region [Lw 18 5,
 Lw 19 6,
 Ipx 20 7,
 Ll 21 (.call .heap [] (.f F4n) [(.t 18),(.t 19),(.t 20),(Acx 3)]),
 Ll 8 (.box false 4 (.c (.arr 8 Sx6 z8))),
 Ls (.store false Sx8 (.t 8) (.t 21))] [3,4,5,6,7,8])
 (.seq (.seq (.region [Lw 22 5,
 Ll 23 (.call .heap [] (.f F4a) [(.t 22),(Acx 2)]),
 Ll 24 (.bin .eql (.t 23) (Acx 0)),
 Lw 25 24,
 Lx 26 6 25 true,
 Lg 27 (.load Sx6 (.t 7)) 25 true,
 Lg 28 (.load Sx8 (.t 8)) 25 true,
 Lg 29 (.buildSl false 5 Sx8 (.arr 8 Sx6 z8) 1 [(0,(.t 28))]) 25 true,
 Lg 30 (Ofx F4k [(.t 26),(.t 27),(.t 29)]) 25 true,
 Lg 31 (.bin .eql (.t 30) (Acx 0)) 25 true,
 Ll 32 (.pick (.t 25) (.t 31) (.c (.bool false)))] [3,4,5,6,7,8,32])
 (.cond (.t 32)
 (.seq (.region [Lw 34 6,
 Ipx 35 7,
 Isx 36 8,
 Lw 37 6,
 Ipx 38 7,
 Lw 39 6,
 Lw 40 5,
 Lw 41 6,
 ⟨some 42,.call .heap [] (.f F3y) [(.t 40),(.t 41),(Acx 3)],none,[7,8]⟩,
 ⟨some 43,.load Sx6 (.t 7),none,[40,41]⟩,
 Ll 44 (Ofx F47 [(.t 39),(.t 42),(.t 43)]),
 Ll 45 (.buildSl false 6 Sx6 (.arr 64 .leaf z64) 1 [(0,(.t 44))]),
 Ll 46 (Ofx F4v [(.t 37),(.t 38),(.t 45)]),
 Ll 47 (Ofx F55 [(.t 34),(.t 35),(.t 36),(.t 46)]),
 Lw 33 47,
 Iex 48 33 0,
 Iex 49 33 1,
 Ll 9 (.box false 7 (.c (.arr 8 Sx6 z8))),
 Ls (.store false Sx8 (.t 9) (.t 48)),
 Lw 10 49] [3,4,6,7,8,9,10])
 (.seq (.region [Lw 50 10] [3,4,6,7,8,9,50])
 (.cond (.t 50)
 (.seq (.region [Lw 51 6,
 Ipx 52 7,
 Isx 53 9,
 Lw 2 51,
 ⟨none,.store false Sx6 (.t 3) (.t 52),none,[9]⟩,
 Ls (.store false Sx8 (.t 4) (.t 53))] [2,3,4])
 (.ret))
 (.skip))))
 (.skip)))
 (.seq (.region [Lw 54 6,
 Ipx 55 7,
 Isx 56 8,
 Lw 2 54,
 ⟨none,.store false Sx6 (.t 3) (.t 55),none,[8]⟩,
 Ls (.store false Sx8 (.t 4) (.t 56))] [2,3,4])
 (.ret))))))
def Z3j:Fn:=
 { nparams:=1,nblk:=8,results:=[.tmp 2,.cell 3 Sx6,.cell 4 Sx8],body:=ir_spec_DrawKernelOfSkew_B }
def ir_spec_DrawLeastSkew_B:Cd:=
 .seq (.region [Ll 2 (.mv (Acx 0)),
 Ll 3 (.box false 0 (.c (.arr 64 .leaf z64))),
 Ll 4 (.mv (.c (.sl Sx6 [])))] [0,3])
 (.seq (.region [Lw 8 0,
 Ll 9 (.call .heap [1] (.f F41) [(.t 8)]),
 Lw 5 9] [3,5])
 (.seq (.region [Lw 11 5,
 Ll 12 (.call .heap [] (.f F4o) [(.t 11)]),
 Lw 10 12,
 Iex 13 10 0,
 Iex 14 10 1,
 Ll 7 (.box false 2 (.c (.arr 64 .leaf z64))),
 Lw 6 13,
 Ls (.store false Sx6 (.t 7) (.t 14))] [3,5,6,7])
 (.seq (.region [Lw 15 6,
 Ipx 16 7,
 Lw 17 5,
 Lw 18 6,
 Ipx 19 7,
 ⟨some 20,.call .heap [3] (.f F4w) [(.t 17),(.t 18),(.t 19)],none,[7]⟩,
 Lw 2 15,
 Ls (.store false Sx6 (.t 3) (.t 16)),
 Lw 4 20] [2,3,4])
 (.ret))))
def Z3k:Fn:=
 { nparams:=1,nblk:=4,results:=[.tmp 2,.cell 3 Sx6,.tmp 4],body:=ir_spec_DrawLeastSkew_B }
def ir_spec_DrawValueOfSkew_B:Cd:=
 .seq (.region [Ll 2 (.mv (Acx 0)),
 Ll 3 (.box false 0 (.c (.arr 64 .leaf z64))),
 Ll 4 (.box false 1 (.c (.arr 8 Sx6 z8))),
 Ll 5 (.box false 2 (.c (.arr 64 .leaf z64)))] [0,3,4,5])
 (.seq (.region [Lw 9 0,
 Ll 10 (.call .heap [3] (.f F41) [(.t 9)]),
 Lw 6 10] [3,4,5,6])
 (.seq (.region [Lw 12 6,
 Ll 13 (.call .heap [] (.f F4o) [(.t 12)]),
 Lw 11 13,
 Iex 14 11 0,
 Iex 15 11 1,
 Ll 8 (.box false 4 (.c (.arr 64 .leaf z64))),
 Lw 7 14,
 Ls (.store false Sx6 (.t 8) (.t 15))] [3,4,5,6,7,8])
 (.seq (.region [Lw 16 7,
 Ipx 17 8,
 Lw 18 6,
 Lw 19 7,
 Ipx 20 8,
 ⟨some 21,.call .heap [] (.f F4n) [(.t 18),(.t 19),(.t 20),(Acx 5)],none,[8]⟩,
 Lw 22 6,
 Lw 23 7,
 ⟨some 24,.load Sx6 (.t 8),none,[18,19,20]⟩,
 ⟨some 25,.call .heap [] (.f F4p) [(.t 22),(.t 23),(.t 24)],none,[8]⟩,
 Lw 2 16,
 Ls (.store false Sx6 (.t 3) (.t 17)),
 Ls (.store false Sx8 (.t 4) (.t 21)),
 Ls (.store false Sx6 (.t 5) (.t 25))] [2,3,4,5])
 (.ret))))
def Z3m:Fn:=
 { nparams:=1,nblk:=5,results:=[.tmp 2,.cell 3 Sx6,.cell 4 Sx8,.cell 5 Sx6],body:=ir_spec_DrawValueOfSkew_B }
def Z3i_B:Cd:=
 .seq (.region [Ll 2 (.mv (Acx 0)),
 Ll 3 (.box false 0 (.c (.arr 64 .leaf z64)))] [0,3])
 (.seq (.region [Lw 6 0,
 Ll 7 (.call .heap [1] (.f F41) [(.t 6)]),
 Lw 4 7] [3,4])
 (.seq (.region [Lw 8 4,
 Ll 9 (.call .heap [] (.f F40) [(.t 8)]),
 Lw 5 9] [3,4,5])
 (.seq (.region [Lw 10 5,
 Lw 11 4,
 Lw 12 5,
 Lw 13 4,
 Lw 14 5,
 Ll 15 (.call .heap [] (.f F3z) [(.t 13),(.t 14),(Acx 5)]),
 Ll 16 (.call .heap [] (.f F3u) [(.t 11),(.t 12),(.t 15)]),
 Lw 2 10,
 Ls (.store false Sx6 (.t 3) (.t 16))] [2,3])
 (.ret))))
def Z3i:Fn:=
 { nparams:=1,nblk:=2,results:=[.tmp 2,.cell 3 Sx6],body:=Z3i_B }
def Z3n_B:Cd:=
 .seq (.region [Ll 3 (.box false 0 (.t 1)),
 Ll 4 (.mv (.c (.bool false)))] [0,3])
 (.seq (.region [Lw 5 0,
 Ipx 6 3,
 Ll 7 (Ofx F4q [(.t 5),(.t 6)]),
 Lw 4 7] [4])
 (.ret))
def Z3n:Fn:=
 { nparams:=2,nblk:=1,results:=[.tmp 4],body:=Z3n_B }
end Pe

namespace Gq
section
variable {K:Type} [Fd K]
theorem Pol.mod_eq_iff {a b m:Pol K} (hm:m≠0):a%m=b%m↔Quo.mk m a=Quo.mk m b:=by
 rw [Quo.eq];constructor
 ·intro h
  refine ⟨a/m-b/m,?_⟩;have h1:=div_mod a m;have h2:=div_mod b m;rw [h] at h1;generalize a/m=q at *;generalize b/m=q' at *;rw [h1];have e:q*m+b%m=(q'*m+b%m)+m*(q-q'):=bo [q,q',m,b%m] rfl;rw [e,←h2]
 ·rintro ⟨c,rfl⟩
  have h2:=div_mod b m;refine (div_mod_eq (q:=b/m+c) ?_ (len_mod b hm)).2;have e:b+m*c=(b/m*m+b%m)+m*c:=by rw [←h2]
  rw [e];exact bo [b/m,m,b%m,c] rfl
theorem Pol.mk_mod (a m:Pol K):Quo.mk m (a%m)=Quo.mk m a:=by
 rw [Quo.eq];refine ⟨-(a/m),?_⟩;have h:=div_mod a m;have e:a%m=(a/m*m+a%m)+m * -(a/m):=bo [a/m,m,a%m] rfl;rw [e,←h]
theorem Pol.mod_small {a m:Pol K} (h:a.len<m.len):a%m=a:=(div_mod_eq (q:=0) (by rw [zero_mul,zero_add]) h).2
theorem Pol.zero_mod {m:Pol K} (hm:m≠0):(0:Pol K)%m=0:=mod_small (by rw [len_zero]; exact len_pos hm)
theorem Pol.div_small {a m:Pol K} (h:a.len<m.len):a/m=0:=(div_mod_eq (q:=0) (by rw [zero_mul,zero_add]) h).1
theorem Pol.mul_mod_left (a b:Pol K) {m:Pol K} (hm:m≠0):(a%m)*b%m=a*b%m:=by
 rw [mod_eq_iff hm,Quo.mk_mul,Quo.mk_mul,mk_mod]
theorem Pol.mul_mod_right (a b:Pol K) {m:Pol K} (hm:m≠0):a*(b%m)%m=a*b%m:=by
 rw [mod_eq_iff hm,Quo.mk_mul,Quo.mk_mul,mk_mod]
theorem Pol.add_mod_mod (a b:Pol K) {m:Pol K} (hm:m≠0):(a%m+b%m)%m=(a+b)%m:=by
 rw [mod_eq_iff hm,Quo.mk_add,Quo.mk_add,mk_mod,mk_mod]
theorem Pol.mod_add_small {a b m:Pol K} (hm:m≠0):(a+b)%m=a%m+b%m:=by
 rw [←add_mod_mod a b hm];apply mod_small;have h1:=len_mod a hm;have h2:=len_mod b hm;have:=len_le (lt_add (lt_iff.2 (show (a%m).len≤m.len-1 by omega)) (lt_iff.2 (show (b%m).len≤m.len-1 by omega)))
 omega
theorem Pol.mod_Cmul (k:K) (a:Pol K) {m:Pol K} (hm:m≠0):(C k*a)%m=C k*(a%m):=by
 rw [←mul_mod_right _ _ hm];apply mod_small;have h1:=len_mod a hm;have:=len_le (lt_Cmul k (lt_iff.2 (show (a%m).len≤m.len-1 by omega)))
 omega
theorem Pol.mod_self_mul (a:Pol K) {m:Pol K} (hm:m≠0):(a*m)%m=0:=
 (div_mod_eq (q:=a) (by rw [add_zero]) (by rw [len_zero]; exact len_pos hm)).2
theorem Pol.len_mod_le (a:Pol K) {m:Pol K} (hm:m≠0):(a%m).len≤a.len:=by
 rcases dm a.len m.len with h | h
 ·rw [mod_small h]; exact ba _
 ·have:=len_mod a hm; omega
theorem Pol.len_div {a m:Pol K} (hm:m≠0) (h:m.len≤a.len):(a/m).len+m.len=a.len+1:=by
 have h1:=div_mod a m;have h2:=len_mod a hm;have h3:=len_pos hm
 by_cases hq:a/m=0
 ·rw [hq,zero_mul,zero_add] at h1
  rw [←h1] at h2; omega
 ·have h4:=len_mul hq hm
  have h5:=len_pos hq
  have e:a.len=(a/m*m).len:=by
   apply Nat.le_antisymm
   ·rw [h1]
    exact len_le (lt_add (by rw [←h1]; exact lt_len _) (lt_iff.2 (by rw [←h1]; omega)))
   ·have:a/m*m=a-a%m:=by
     have e:a-a%m=(a/m*m+a%m)-a%m:=by rw [←h1]
     rw [e]; exact bo [a/m*m,a%m] rfl
    rw [this];exact len_le (lt_sub a.lt_len (lt_iff.2 (by omega)))
  omega
theorem Pol.len_div_le (a:Pol K) {m:Pol K} (hm:m≠0):(a/m).len≤a.len:=by
 rcases dm a.len m.len with h | h
 ·rw [div_small h,len_zero]; omega
 ·have:=len_div hm h
  have:=len_pos hm;omega
theorem Ht {R:Type} [CR R] (a:R) (m:Nat):∀n,pw a (m+n)=pw a m*pw a n
 | 0=>(mul_one _).symm
 | n+1=>by rw [←jf,pw,Ht a m n,pw,mul_assoc]
theorem Ae {R:Type} [CR R] (a b:R):∀n,pw (a*b) n=pw a n*pw b n
 | 0=>(mul_one _).symm
 | n+1=>by rw [pw,pw,pw,Ae a b n]; exact bo [a,b,pw a n,pw b n] rfl
theorem yg {R:Type} [CR R] (a:R) (m:Nat):∀n,pw (pw a m) n=pw a (m*n)
 | 0=>rfl
 | n+1=>by rw [pw,yg a m n,Nat.mul_succ,Ht]
theorem Hm {R:Type} [CR R]:∀n,pw (1:R) n=1
 | 0=>rfl
 | n+1=>by rw [pw,Hm n,mul_one]
theorem Gn {R:Type} [CR R] (a:R):pw a 1=a:=one_mul a
theorem Pol.pow_mod (a:Pol K) {m:Pol K} (hm:m≠0) (n:Nat):pw (a%m) n%m=pw a n%m:=by
 rw [mod_eq_iff hm,Quo.mk_pow,Quo.mk_pow,mk_mod]
theorem Pol.bin_step {out base m:Pol K} (hm:m≠0) (k:Nat) (_hk:0<k) :
 (if k%2=1 then out*base%m else out)*pw (base*base%m) (k/2)%m=out*pw base k%m:=by
 rw [mod_eq_iff hm,Quo.mk_mul,Quo.mk_mul,Quo.mk_pow,mk_mod,Quo.mk_mul,Ae,Quo.mk_pow,←Ht]
 split
 ·rename_i h
  rw [mk_mod,Quo.mk_mul];have e:k=1+(k/2+k/2):=by omega
  have e2:pw (Quo.mk m base) k=Quo.mk m base*pw (Quo.mk m base) (k/2+k/2):=by
   have:=Ht (Quo.mk m base) 1 (k/2+k/2)
   rwa [←e,Gn] at this
  rw [e2,mul_assoc]
 ·rename_i h
  have e:k/2+k/2=k:=by omega
  rw [e]
open Classical in
noncomputable def Pol.bz:Nat→Pol K→Pol K→Pol K→Pol K→Pol K→Pol K→Pol K×Pol K×Pol K
 | 0,a,_,u,_,v,_=>(a,u,v)
 | n+1,a,b,u,x,v,y=>if b=0 then (a,u,v) else bz n b (a%b) x (u-a/b*x) y (v-a/b*y)
structure Pol.BzI (A B a b u x v y:Pol K):Prop where
 one:u*A+v*B=a
 two:x*A+y*B=b
 lx:x.len=0∨x.len+a.len≤B.len+1
 ly:y.len=0∨y.len+a.len≤A.len+1
 lu:u.len=0∨u.len+b.len≤B.len+1
 lv:v.len=0∨v.len+b.len≤A.len+1
 any:a≠0∨b≠0
theorem Pol.BzI.init {A B:Pol K} (h:A≠0∨B≠0):BzI A B A B 1 0 0 1:=
 ⟨bo [A,B] rfl,bo [A,B] rfl,.inl len_zero,.inr (by rw [len_one]; omega),.inr (by rw [len_one]; omega),.inl len_zero,h⟩
theorem Pol.len_sub_le {a b:Pol K} {n:Nat} (ha:a.len≤n) (hb:b.len≤n):(a-b).len≤n:=len_le (lt_sub (lt_iff.2 ha) (lt_iff.2 hb))
theorem Pol.len_add_le {a b:Pol K} {n:Nat} (ha:a.len≤n) (hb:b.len≤n):(a+b).len≤n:=len_le (lt_add (lt_iff.2 ha) (lt_iff.2 hb))
theorem Pol.BzI.qlen {A B a b u x v y:Pol K} (h:BzI A B a b u x v y) (hb:b≠0) :
 ((a/b*x).len=0∨(a/b*x).len+b.len≤B.len+1)∧((a/b*y).len=0∨(a/b*y).len+b.len≤A.len+1):=by
 have key:∀(x:Pol K) (n:Nat),(x.len=0∨x.len+a.len≤n+1)→((a/b*x).len=0∨(a/b*x).len+b.len≤n+1):=by
  intro x n hx
  by_cases hx0:x=0
  ·left; rw [hx0,mul_zero,len_zero]
  ·rcases dm a.len b.len with hl | hl
   ·left; rw [div_small hl,zero_mul,len_zero]
   ·have h1:=len_div hb hl
    have hq:a/b≠0:=fun h0=>by
     rw [h0,len_zero] at h1;omega
    have h2:=len_mul hq hx0;have h3:=len_pos hx0;right; omega
 exact ⟨key x B.len h.lx,key y A.len h.ly⟩
theorem Pol.BzI.step {A B a b u x v y:Pol K} (h:BzI A B a b u x v y) (hb:b≠0):BzI A B b (a%b) x (u-a/b*x) y (v-a/b*y):=by
 have hm:=div_mod a b;have hl:=len_mod a hb;have hle:=len_mod_le a hb;obtain ⟨q1,q2⟩:=h.qlen hb
 have sub:∀(u q:Pol K) (n:Nat),(u.len=0∨u.len+b.len≤n+1)→(q.len=0∨q.len+b.len≤n+1)→((u-q).len=0∨(u-q).len+b.len≤n+1):=by
  intro u q n h1 h2
  by_cases hn:n+1≤b.len
  ·left
   have e1:u.len=0:=by omega
   have e2:q.len=0:=by omega
   have:=len_sub_le (a:=u) (b:=q) (n:=0) (by omega) (by omega)
   omega
  ·right
   have:=len_sub_le (a:=u) (b:=q) (n:=n+1-b.len) (by omega) (by omega)
   omega
 refine ⟨h.two,?_,sub _ _ _ h.lu q1,sub _ _ _ h.lv q2,?_,?_,.inl hb⟩
 ·have e:(u-a/b*x)*A+(v-a/b*y)*B=(u*A+v*B)-a/b*(x*A+y*B):=bo [u,a/b,x,A,v,y,B] rfl
  rw [e,h.one,h.two];have e2:a-a/b*b=(a/b*b+a%b)-a/b*b:=by rw [←hm]
  rw [e2];exact bo [a/b,b,a%b] rfl
 ·exact h.lx.imp id fun h=>by omega
 ·exact h.ly.imp id fun h=>by omega
theorem Pol.bz_spec {A B:Pol K}:∀(n:Nat) (a b u x v y:Pol K),b.len≤n→BzI A B a b u x v y →
 ∃x' y',BzI A B (bz n a b u x v y).1 0 (bz n a b u x v y).2.1 x' (bz n a b u x v y).2.2 y'∧(∃s,a=s*(bz n a b u x v y).1)∧(∃s,b=s*(bz n a b u x v y).1)
 | 0,a,b,u,x,v,y,hn,h=>by
  obtain rfl:=len_zero_iff.1 (show b.len=0 by omega)
  exact ⟨x,y,h,⟨1,(one_mul a).symm⟩,⟨0,(zero_mul a).symm⟩⟩
 | n+1,a,b,u,x,v,y,hn,h=>by
  unfold bz
  split
  ·rename_i hb
   subst hb;exact ⟨x,y,h,⟨1,(one_mul a).symm⟩,⟨0,(zero_mul a).symm⟩⟩
  ·rename_i hb
   have hl:=len_mod a hb;obtain ⟨x',y',h1,⟨s,h2⟩,⟨t,h3⟩⟩:=bz_spec n b (a%b) x (u-a/b*x) y (v-a/b*y) (by omega) (h.step hb)
   refine ⟨x',y',h1,⟨a/b*s+t,?_⟩,⟨s,h2⟩⟩;generalize (bz n b (a%b) x (u-a/b*x) y (v-a/b*y)).1=d at *;have e:(a/b*s+t)*d=a/b*(s*d)+t*d:=bo [a/b,s,t,d] rfl;rw [e,←h2,←h3];exact div_mod a b
noncomputable def Pol.eu (a b:Pol K):Pol K×Pol K×Pol K:=bz b.len a b 1 0 0 1
noncomputable def Pol.bezout (a b:Pol K):Pol K×Pol K×Pol K:=
 let r:=eu a b
 (C (Fd.inv r.1.ld)*r.1,C (Fd.inv r.1.ld)*r.2.1,C (Fd.inv r.1.ld)*r.2.2)
noncomputable def Pol.gcd (a b:Pol K):Pol K:=(bezout a b).1
end
end Gq

namespace Pe
open Go Gq
variable {T:Nat→Option Fn} {A:ah}
theorem N9 {p:Int} (a:Fp p) (h:a.len≤64):trim (pad (row a))=row a:=Bv fun i=>by rw [Bn (by rw [cg]; exact h),gz]
theorem Df {l:List Int} {i:Nat} (h:i<l.length):l.take i++[l[i]]=l.take (i+1):=by
 rw [List.take_add_one,au h]; rfl
theorem a09 {O:ah} {l:List Int} (hb:g9 l) (hl:l.length=64):∀(m i:Nat) (cp:Option Nat),i+m=64 →
 dn O 0 (.loop Z1u_L0) ⟨[(3,.sl 1 [] 0 i cp),(6,(.d (.arr 64 .leaf (ab .u8 l)))),(7,(.d (.int .i64 i)))],[.hole,.sl false .leaf (ab .i64 (l.take i)),.hole,.hole]⟩ =
  some (.exit 0,⟨[(3,.sl 1 [] 0 64 (if m=0 then cp else none)),(6,(.d (.arr 64 .leaf (ab .u8 l)))),(7,(.d (.int .i64 64))),(8,(.d (.bool false)))],[.hole,.sl false .leaf (ab .i64 (l.take 64)),.hole,.hole]⟩)
 | 0,i,cp,hi=>by
  have:i=64:=by omega
  subst this;exact bt (by simp -implicitDefEqProofs [Z1u_L0,ac])
 | m+1,i,cp,hi=>by
  have h1:(i:Int)<64:=by omega
  have hlt:i<l.length:=by omega
  have hx:l[i]? = some l[i]:=au hlt;have hb':=hb _ (bj hlt);have w1:IntKind.i64.wrap l[i]=l[i]:=w64 (by omega)
  have w4:IntKind.i64.wrap ((i:Int)+1)=((i+1:Nat):Int):=(w64 (x:=(i:Int)+1) (by omega)).trans (by omega)
  have h8:(i+1)*8≤1099511627776:=by omega
  have hlen:i≤l.length:=by omega
  have ht:(l.take i).take i=l.take i:=by rw [List.take_take,Nat.min_self]
  have e1:ab .i64 (l.take i)++[D.int .i64 l[i]]=ab .i64 (l.take (i+1)):=by rw [←Df hlt,←Io]; rfl
  have ih:=a09 (O:=O) hb hl m (i+1) none (by omega)
  have e2:(if m=0 then (none:Option Nat) else none)=none:=by split <;> rfl
  rw [e2] at ih;rw [if_neg (Nat.succ_ne_zero m)];refine bm ?_ ih;simp -implicitDefEqProofs [Z1u_L0,ac,h1,hlt,w1,w4,h8,hlen,ht,e1,List.replicate]
def Gg (O:ah):Prop:=∀l:List Int,g9 l→l.length=64→ask O F1u [(D.arr 64 .leaf (ab .u8 l))]=some (D.sl .leaf (ab .i64 (trim l)))
theorem aax (hT:T F1u=some Z1u) (ht:vz (den T A)):Gg (den T A):=by
 intro l hb hl;have e:=a09 (O:=den T A) hb hl 64 0 (some 0) (bn _);have e0:((0:Nat):Int)=0:=rfl;rw [e0,ff,gy,bb (by omega)] at e
 have e1:=ht l (by omega)
 have ht:l.take 64=l:=bb (by omega)
 refine bi hT rfl ?_;simp -implicitDefEqProofs [Z1u,Z1u_B,e,e1,hl,ht]
def tw (O:ah):Prop:=∀(p:Int) [IsP p] (a:Fp p),a.len≤64→ask O F1u [(D.arr 64 .leaf (ab .u8 (pad (row a))))]=some (D.sl .leaf (ab .i64 (row a)))
theorem yy {p:Int} [IsP p] (a:Fp p):g9 (pad (row a)):=fun x hx=>by
 obtain ⟨i,_,rfl⟩:=cj.1 hx;have:=(k9 a).le IsP.pos i;have:=IsP.le (p:=p);omega
theorem ab3 {O:ah} (h:Gg O):tw O:=fun p i a hl=>by
 rw [h _ (yy a) (ck _),N9 a hl]
theorem a7z {O:ah} {l z:List Int} (hb:g9 l) (hl:l.length≤64):∀(m i:Nat) (cur:List Int),i+m=l.length→cur.length=64 →
 dn O 0 (.loop Z1z_L0) ⟨[(2,.ptr 0 []),(3,.ptr 1 []),(6,(.d (.sl .leaf (ab .i64 l)))),(7,(.d (.int .i64 l.length))),(8,(.d (.int .i64 i)))],[.box false (D.arr 64 .leaf (ab .u8 z)),.box false (D.arr 64 .leaf (ab .u8 cur))]⟩ =
  some (.exit 0,⟨[(2,.ptr 0 []),(3,.ptr 1 []),(6,(.d (.sl .leaf (ab .i64 l)))),(7,(.d (.int .i64 l.length))),(8,(.d (.int .i64 l.length))),(9,(.d (.bool false)))],[.box false (D.arr 64 .leaf (ab .u8 z)),.box false (D.arr 64 .leaf (ab .u8 (upd (cf l) m i cur)))]⟩)
 | 0,i,cur,hi,hc=>by
  have:i=l.length:=by omega
  subst this;exact bt (by simp -implicitDefEqProofs [Z1z_L0,ac,upd])
 | m+1,i,cur,hi,hc=>by
  have hlt:i<l.length:=by omega
  have hx:l[i]? = some (cf l i):=by rw [au hlt,fj hlt]
  have hb':=hb _ (bj hlt);rw [←fj hlt] at hb';have w1:IntKind.u8.wrap l[i]=cf l i:=by rw [←fj hlt]; exact w8 hb'
  have w4:IntKind.i64.wrap ((i:Int)+1)=((i+1:Nat):Int):=(w64 (x:=(i:Int)+1) (by omega)).trans (by omega)
  have hi64:i<64:=by omega
  have hcur:cur[i]? = some (cf cur i):=by rw [au (by omega),fj]
  have ih:=a7z (O:=O) (z:=z) hb hl m (i+1) (cur.set i (cf l i)) (by omega) (by simpa using hc)
  refine bm ?_ ih;simp -implicitDefEqProofs [Z1z_L0,ac,hlt,w1,w4,hi64,hcur]
def Qt (O:ah):Prop:=∀l:List Int,g9 l→l.length≤64→ask O F1z [(D.sl .leaf (ab .i64 l))]=some (D.arr 64 .leaf (ab .u8 (pad l)))
theorem ab8 {l:List Int} (_hl:l.length≤64):upd (cf l) l.length 0 (pad [])=pad l:=by
 symm
 apply X8
 ·rw [zr,ck]
 ·intro i hi
  unfold cf;rw [cx,cx,L0]
  by_cases h:i<l.length
  ·rw [if_pos (by rw [ck]; omega)]
   simp [h]
  ·rw [if_neg (by omega),cb (by omega),qt _ _ hi]; rfl
theorem ada (hT:T F1z=some Z1z):Qt (den T A):=by
 intro l hb hl;have e:=a7z (O:=den T A) (z:=pad []) hb hl l.length 0 (pad []) (bn _) (ck []);have e0:((0:Nat):Int)=0:=rfl;rw [e0,ab8 hl] at e;refine bi hT rfl ?_;simp -implicitDefEqProofs [Z1z,Z1z_B,e]
theorem Ou {p:Int} [IsP p] (a:Fp p):g9 (row a):=fun x hx=>by
 have:=k9 a x hx;have:=IsP.le (p:=p);omega
def Hq (O:ah):Prop:=∀(p:Int) [IsP p] (a:Fp p),a.len≤64→ask O F1z [(D.sl .leaf (ab .i64 (row a)))]=some (D.arr 64 .leaf (ab .u8 (pad (row a))))
theorem af4 {O:ah} (h:Qt O):Hq O:=fun p i a hl=>h _ (Ou a) (by simpa using hl)
def Wp (O:ah):Prop:=∀l:List Int,l.length<1000000→ask O F1x [(D.sl .leaf (ab .i64 l))]=some (D.bool (decide (l.length≤64)))
theorem adl (hT:T F1x=some Z1x) (hd:o7 (den T A)):Wp (den T A):=by
 intro l hl;have e:=hd l hl;have e2:decide ((l.length:Int)-1≤63)=decide (l.length≤64):=decide_eq_decide.2 (by omega)
 refine bi hT rfl ?_;simp -implicitDefEqProofs [Z1x,Z1x_B,e,e2]
def a4i (l:List Int):D:=if l.length≤64 then .tup [(D.arr 64 .leaf (ab .u8 (pad l))),(D.int .i64 0)] else .tup [(D.arr 64 .leaf (ab .u8 (pad []))),(D.int .i64 3)]
def Xa (O:ah):Prop:=∀l:List Int,g9 l→l.length<1000000→ask O F28 [(D.sl .leaf (ab .i64 l))]=some (a4i l)
theorem adg (hT:T F28=some Z28) (hf:Wp (den T A)) (hp:Qt (den T A)):Xa (den T A):=by
 intro l hb hl;have e:=hf l hl;unfold a4i;refine bi hT rfl ?_
 by_cases h:l.length≤64
 ·have e2:=hp l hb h
  simp -implicitDefEqProofs [Z28,Z28_B,e,e2,h,ac]
 ·simp -implicitDefEqProofs [Z28,Z28_B,e,h,ac]
def Bw (O:ah):Prop:=∀(p:Int) [IsP p] (a b:Fp p),b≠0→a.len<5000→b.len<5000 →
 ask O F1o [(D.int .i64 p),(D.sl .leaf (ab .i64 (row a))),(D.sl .leaf (ab .i64 (row b)))]=some (D.sl .leaf (ab .i64 (row (a%b))))
theorem ad8 (hT:T F1o=some Z1o) (hd:wy (den T A)):Bw (den T A):=by
 intro p i a b hb h1 h2;have e:=hd p a b hb h1 h2;refine bi hT rfl ?_;simp -implicitDefEqProofs [Z1o,Z1o_B,e]
end Pe

namespace Pe
open Go Gq
variable {T:Nat→Option Fn} {A:ah}
section
variable {p:Int} [IsP p]
theorem uz:row (1:Fp p)=[1]:=by
 unfold row;rw [Pol.len_one];show [rep ((1:Fp p).c 0)]=[1];have:(1:Fp p).c 0=1:=rfl;rw [this,zt]
end
section
variable {p:Int}
theorem Ld (u z:Fp p):u+Pol.C (zp p (-1))*z=u-z:=by
 rw [Bp,t9,Pol.C_neg,Pol.C_one];exact bo [u,z] rfl
end
section
variable {p:Int} [IsP p]
end
def ti (O:ah):Prop:=∀(p:Int) [IsP p] (a b:Fp p),a.len<1000000→b.len<1000000 →
 ask O F1b [(D.int .i64 p),(D.sl .leaf (ab .i64 (row a))),(D.sl .leaf (ab .i64 (row b))),(D.int .i64 (-1))]=some (D.sl .leaf (ab .i64 (row (a-b))))
theorem Xq {O:ah} (h:mg O):ti O:=fun p i a b h1 h2=>by
 rw [h p (-1) a b (by omega) (by omega) h1 h2,Ld]
def rm (O:ah):Prop:=∀(p:Int) [IsP p] (a b:Fp p),a.len<1000000→b.len<1000000 →
 ask O F1b [(D.int .i64 p),(D.sl .leaf (ab .i64 (row a))),(D.sl .leaf (ab .i64 (row b))),(D.int .i64 1)]=some (D.sl .leaf (ab .i64 (row (a+b))))
theorem Xp {O:ah} (h:mg O):rm O:=fun p i a b h1 h2=>by
 rw [h p 1 a b (by omega) (by omega) h1 h2,t9,Pol.C_one,Gq.one_mul]
section
variable {p:Int} [IsP p]
theorem Lc {A B a b u x v y:Fp p} (h:Pol.BzI A B a b u x v y) (hA:A.len≤2000) (hB:B.len≤2000) (ha:a.len≤2000) (hb:b.len≤2000) (hb0:b≠0) :
 u.len<3000∧v.len<3000∧x.len<3000∧y.len<3000∧(a/b).len<3000∧(a%b).len≤2000∧(a/b*x).len<3000∧(a/b*y).len<3000:=by
 have h1:=h.lu;have h2:=h.lv;have h3:=h.lx;have h4:=h.ly;have h5:=Pol.len_div_le a hb0;have h6:=Pol.len_mod_le a hb0;obtain ⟨h7,h8⟩:=h.qlen hb0;omega
theorem a6h {O:ah} (hd:wy O) (ht:Ac O) (hc:ti O) {A B:Fp p} (hA:A.len≤2000) (hB:B.len≤2000):∀(n:Nat) (a b u x v y:Fp p),b.len≤n→a.len≤2000→b.len≤2000→Pol.BzI A B a b u x v y→∃x' y',
 dn O 0 (.loop Z1a_L0) ⟨[(0,(.d (.int .i64 p))),(1,(.d (.sl .leaf (ab .i64 (row a))))),(2,(.d (.sl .leaf (ab .i64 (row b))))),(9,(.d (.sl .leaf (ab .i64 (row u))))),(10,(.d (.sl .leaf (ab .i64 (row v))))),(11,(.d (.sl .leaf (ab .i64 (row x))))),(12,(.d (.sl .leaf (ab .i64 (row y)))))],[.hole,.hole]⟩ =
  some (.exit 0,⟨[(0,(.d (.int .i64 p))),(1,(.d (.sl .leaf (ab .i64 (row (Pol.bz n a b u x v y).1))))),(2,(.d (.sl .leaf (ab .i64 ([]))))),(9,(.d (.sl .leaf (ab .i64 (row (Pol.bz n a b u x v y).2.1))))),(10,(.d (.sl .leaf (ab .i64 (row (Pol.bz n a b u x v y).2.2))))),(11,(.d (.sl .leaf (ab .i64 x')))),(12,(.d (.sl .leaf (ab .i64 y')))),(20,(.d (.bool false)))],[.hole,.hole]⟩):=by
 intro n
 induction n with
 | zero=>
  intro a b u x v y hn ha hb hi;obtain rfl:=Pol.len_zero_iff.1 (show b.len=0 by omega)
  exact ⟨row x,row y,bt (by simp -implicitDefEqProofs [Z1a_L0,ac,dq,Pol.bz,gy])⟩
 | succ n ih=>
  intro a b u x v y hn ha hb hi;unfold Pol.bz
  by_cases h0:b=0
  ·subst h0
   rw [if_pos rfl];exact ⟨row x,row y,bt (by simp -implicitDefEqProofs [Z1a_L0,ac,dq,gy])⟩
  ·rw [if_neg h0]
   obtain ⟨s1,s2,s3,s4,s5,s6,s7,s8⟩:=Lc hi hA hB ha hb h0;have hl:=Pol.len_mod a h0;have hp:=Pol.len_pos h0;obtain ⟨x',y',e⟩:=ih b (a%b) x (u-a/b*x) y (v-a/b*y) (by omega) hb s6 (hi.step h0)
   refine ⟨x',y',bm ?_ e⟩;have e1:=hd p a b h0 (by omega) (by omega)
   have e2:=ht p (a/b) x (by omega) (by omega)
   have e3:=hc p u (a/b*x) (by omega) (by omega)
   have e4:=ht p (a/b) y (by omega) (by omega)
   have e5:=hc p v (a/b*y) (by omega) (by omega)
   simp -implicitDefEqProofs [Z1a_L0,ac,hp,e1,e2,e3,e4,e5]
end
def G4 (O:ah):Prop:=∀(p:Int) [IsP p] (a b:Fp p),(a≠0∨b≠0)→a.len≤2000→b.len≤2000 →
 ask O F1a [(D.int .i64 p),(D.sl .leaf (ab .i64 (row a))),(D.sl .leaf (ab .i64 (row b)))]=some (.tup [(D.sl .leaf (ab .i64 (row (Pol.bezout a b).1))),(D.sl .leaf (ab .i64 (row (Pol.bezout a b).2.1))),(D.sl .leaf (ab .i64 (row (Pol.bezout a b).2.2)))])
theorem uc {p:Int} [IsP p] (x:Zp p) (hx:x≠0):zp p (inv p (rep x))=Fd.inv x:=by
 have h0:=kl x;have h1:rep x≠0:=fun h=>hx (g7.1 h)
 have h2:x*zp p (inv p (rep x))=1:=by
  have:zp p (rep x*inv p (rep x))=1:=by rw [←A3,a48 p _ (by omega) h0.2]; rfl
  rwa [B4,kq] at this
 have h3:=Fd.mul_inv x hx;have:Fd.inv x*(x*zp p (inv p (rep x)))=Fd.inv x*1:=by rw [h2]
 rw [←Gq.mul_assoc,Gq.mul_comm (Fd.inv x),h3,Gq.one_mul,Gq.mul_one] at this;exact this
theorem a8u (hT:T F1a=some Z1a) (hd:wy (den T A)) (ht:Ac (den T A)) (hc:ti (den T A)) (hld:xw (den T A)) (hinv:py (den T A)) (hs:u4 (den T A)):G4 (den T A):=by
 intro p i a b hab ha hb;have hp:=IsP.ge (p:=p);have hp7:=IsP.le (p:=p)
 -- the end
 have last:∀{x y:Fp p} {a' u v:Fp p},Pol.BzI a b a' 0 u x v y→ask (den T A) F1y [(D.sl .leaf (ab .i64 (row a')))]=some (D.int .i64 (rep a'.ld))∧ask (den T A) F1g [(D.int .i64 p),(D.int .i64 (rep a'.ld))]=some (D.int .i64 (inv p (rep a'.ld))) ∧
  ask (den T A) F1p [(D.int .i64 p),(D.sl .leaf (ab .i64 (row a'))),(D.int .i64 (inv p (rep a'.ld)))]=some (D.sl .leaf (ab .i64 (row (Pol.C (Fd.inv a'.ld)*a'))))∧ask (den T A) F1p [(D.int .i64 p),(D.sl .leaf (ab .i64 (row u))),(D.int .i64 (inv p (rep a'.ld)))]=some (D.sl .leaf (ab .i64 (row (Pol.C (Fd.inv a'.ld)*u))))∧ask (den T A) F1p [(D.int .i64 p),(D.sl .leaf (ab .i64 (row v))),(D.int .i64 (inv p (rep a'.ld)))]=some (D.sl .leaf (ab .i64 (row (Pol.C (Fd.inv a'.ld)*v)))):=by
  intro x y a' u v hi;have ha0:a'≠0:=hi.any.resolve_right (fun h=>h rfl)
  have hr:=kl a'.ld;have hin:=y9 p (rep a'.ld);have h1:=hi.lu;have h2:=hi.lv;rw [Pol.len_zero] at h1 h2
  have hal:a'.len<5000:=by
   have:=Pol.len_add_le (a:=u*a) (b:=v*b) (n:=4500) (by
    by_cases hu:u=0
    ·rw [hu,Gq.zero_mul,Pol.len_zero]; omega
    ·by_cases ha0:a=0
     ·rw [ha0,Gq.mul_zero,Pol.len_zero]; omega
     ·have:=Pol.len_mul hu ha0; omega) (by
    by_cases hu:v=0
    ·rw [hu,Gq.zero_mul,Pol.len_zero]; omega
    ·by_cases ha0:b=0
     ·rw [ha0,Gq.mul_zero,Pol.len_zero]; omega
     ·have:=Pol.len_mul hu ha0; omega)
   rw [hi.one] at this;omega
  have e1:=hld (row a') (by rw [cg]; omega)
  rw [H7] at e1;have e2:=hinv p (rep a'.ld) (by omega) (by omega) hr.1 hr.2
  have e3:=hs p (inv p (rep a'.ld)) a' (by omega) (by omega) (by omega)
  have e4:=hs p (inv p (rep a'.ld)) u (by omega) (by omega) (by omega)
  have e5:=hs p (inv p (rep a'.ld)) v (by omega) (by omega) (by omega)
  rw [uc _ (Pol.ld_ne ha0)] at e3 e4 e5;exact ⟨e1,e2,e3,e4,e5⟩
 have I0:=Pol.BzI.init (A:=a) (B:=b) hab;refine bi hT rfl ?_;unfold Pol.bezout Pol.eu
 by_cases h0:b=0
 ·subst h0
  have l0:=bt (O:=den T A) (np:=0) (c:=Z1a_L0) (s:=⟨[(0,(.d (.int .i64 p))),(1,(.d (.sl .leaf (ab .i64 (row a))))),(2,(.d (.sl .leaf (ab .i64 ([]))))),(9,.sl 0 [] 0 1 (some 1)),(10,(.d (.sl .leaf (ab .i64 ([]))))),(11,(.d (.sl .leaf (ab .i64 ([]))))),(12,.sl 1 [] 0 1 (some 1))],[.sl false .leaf (ab .i64 [1]),.sl false .leaf (ab .i64 [1])]⟩) (s1:=⟨[(0,(.d (.int .i64 p))),(1,(.d (.sl .leaf (ab .i64 (row a))))),(2,(.d (.sl .leaf (ab .i64 ([]))))),(9,.sl 0 [] 0 1 (some 1)),(10,(.d (.sl .leaf (ab .i64 ([]))))),(11,(.d (.sl .leaf (ab .i64 ([]))))),(12,.sl 1 [] 0 1 (some 1)),(20,(.d (.bool false)))],[.sl false .leaf (ab .i64 [1]),.sl false .leaf (ab .i64 [1])]⟩) (id:=0) (by simp -implicitDefEqProofs [Z1a_L0,ac,gy])
  obtain ⟨e1,e2,e3,e4,e5⟩:=last I0;rw [uz] at e4;rw [dq] at e5;rw [gy] at l0 e5;rw [Pol.len_zero];have o1:D.int IntKind.i64 1::[]=ab .i64 [1]:=rfl;simp -implicitDefEqProofs [Z1a,Z1a_B,dq,gy,Pol.bz,e1,e2,e3,e4,e5,l0,o1,List.replicate]
 ·have hp0:=Pol.len_pos h0
  have I1:=I0.step h0;obtain ⟨_,_,_,_,q5,q6,q7,q8⟩:=Lc I0 ha hb ha hb h0;have l0:=hd p a b h0 (by omega) (by omega)
  have l1:=ht p (a/b) 0 (by omega) (by rw [Pol.len_zero]; omega)
  have l2:=ht p (a/b) 1 (by omega) (by rw [Pol.len_one]; omega)
  have l3:=hc p 1 (a/b*0) (by rw [Pol.len_one]; omega) (by omega)
  have l4:=hc p 0 (a/b*1) (by rw [Pol.len_zero]; omega) (by omega)
  rw [uz] at l2 l3;rw [dq,gy] at l1 l4
  have st1:dn (den T A) 0 Z1a_L0 ⟨[(0,(.d (.int .i64 p))),(1,(.d (.sl .leaf (ab .i64 (row a))))),(2,(.d (.sl .leaf (ab .i64 (row b))))),(9,.sl 0 [] 0 1 (some 1)),(10,.d (.sl .leaf [])),(11,.d (.sl .leaf [])),(12,.sl 1 [] 0 1 (some 1))],[.sl false .leaf (ab .i64 [1]),.sl false .leaf (ab .i64 [1])]⟩ =
   some (.normal,⟨[(0,(.d (.int .i64 p))),(1,(.d (.sl .leaf (ab .i64 (row b))))),(2,(.d (.sl .leaf (ab .i64 (row (a%b)))))),(9,.d (.sl .leaf [])),(10,.sl 1 [] 0 1 (some 1)),(11,(.d (.sl .leaf (ab .i64 (row (1-a/b*0)))))),(12,(.d (.sl .leaf (ab .i64 (row (0-a/b*1))))))],[.hole,.sl true .leaf (ab .i64 [1])]⟩):=by
   simp -implicitDefEqProofs [Z1a_L0,ac,hp0,l0,l1,l2,l3,l4]
  by_cases h1:a%b=0
  ·have st2:dn (den T A) 0 Z1a_L0 ⟨[(0,(.d (.int .i64 p))),(1,(.d (.sl .leaf (ab .i64 (row b))))),(2,(.d (.sl .leaf (ab .i64 (row (a%b)))))),(9,.d (.sl .leaf [])),(10,.sl 1 [] 0 1 (some 1)),(11,(.d (.sl .leaf (ab .i64 (row (1-a/b*0)))))),(12,(.d (.sl .leaf (ab .i64 (row (0-a/b*1))))))],[.hole,.sl true .leaf (ab .i64 [1])]⟩ =
    some (.exit 0,⟨[(0,(.d (.int .i64 p))),(1,(.d (.sl .leaf (ab .i64 (row b))))),(2,(.d (.sl .leaf (ab .i64 (row (a%b)))))),(9,.d (.sl .leaf [])),(10,.sl 1 [] 0 1 (some 1)),(11,(.d (.sl .leaf (ab .i64 (row (1-a/b*0)))))),(12,(.d (.sl .leaf (ab .i64 (row (0-a/b*1)))))),(20,(.d (.bool false)))],[.hole,.sl true .leaf (ab .i64 [1])]⟩):=by
    simp -implicitDefEqProofs [Z1a_L0,ac,h1,dq]
   have lp:=bm st1 (bt st2)
   have hb1:Pol.bz b.len a b 1 0 0 1=(b,0,1):=by
    rw [show b.len=(b.len-1)+1 by omega,Pol.bz,if_neg h0]
    cases hn:b.len-1 with
    | zero=>rfl
    | succ n=>rw [Pol.bz,if_pos h1]
   rw [hb1];have I1':Pol.BzI a b b 0 0 (1-a/b*0) 1 (0-a/b*1):=h1▸I1;obtain ⟨e1,e2,e3,e4,e5⟩:=last I1';rw [uz] at e5;rw [dq,gy] at e4;have o1:D.int IntKind.i64 1::[]=ab .i64 [1]:=rfl;simp -implicitDefEqProofs [Z1a,Z1a_B,e1,e2,e3,e4,e5,lp,o1,List.replicate]
  ·have hp1:=Pol.len_pos h1
   have hl1:=Pol.len_mod a h0;obtain ⟨s1,s2,s3,s4,s5,s6,s7,s8⟩:=Lc I1 ha hb hb (by omega) h1
   have m0:=hd p b (a%b) h1 (by omega) (by omega)
   have m1:=ht p (b/(a%b)) (1-a/b*0) (by omega) (by omega)
   have m2:=ht p (b/(a%b)) (0-a/b*1) (by omega) (by omega)
   have m3:=hc p 0 (b/(a%b)*(1-a/b*0)) (by omega) (by omega)
   have m4:=hc p 1 (b/(a%b)*(0-a/b*1)) (by omega) (by omega)
   rw [uz] at m4;rw [dq,gy] at m3
   have st2:dn (den T A) 0 Z1a_L0 ⟨[(0,(.d (.int .i64 p))),(1,(.d (.sl .leaf (ab .i64 (row b))))),(2,(.d (.sl .leaf (ab .i64 (row (a%b)))))),(9,.d (.sl .leaf [])),(10,.sl 1 [] 0 1 (some 1)),(11,(.d (.sl .leaf (ab .i64 (row (1-a/b*0)))))),(12,(.d (.sl .leaf (ab .i64 (row (0-a/b*1))))))],[.hole,.sl true .leaf (ab .i64 [1])]⟩ =
    some (.normal,⟨[(0,(.d (.int .i64 p))),(1,(.d (.sl .leaf (ab .i64 (row (a%b)))))),(2,(.d (.sl .leaf (ab .i64 (row (b%(a%b))))))),(9,(.d (.sl .leaf (ab .i64 (row (1-a/b*0)))))),(10,(.d (.sl .leaf (ab .i64 (row (0-a/b*1)))))),(11,(.d (.sl .leaf (ab .i64 (row (0-b/(a%b)*(1-a/b*0))))))),(12,(.d (.sl .leaf (ab .i64 (row (1-b/(a%b)*(0-a/b*1)))))))],[.hole,.hole]⟩):=by
    simp -implicitDefEqProofs [Z1a_L0,ac,hp1,m0,m1,m2,m3,m4]
   have I2:=I1.step h1;have hl2:=Pol.len_mod b h1;obtain ⟨x',y',e⟩:=a6h hd ht hc ha hb (b.len-2) _ _ _ _ _ _ (by omega) (by omega) (by omega) I2
   have lp:=bm st1 (bm st2 e)
   have hb1:Pol.bz b.len a b 1 0 0 1=Pol.bz (b.len-2) (a%b) (b%(a%b)) (1-a/b*0) (0-b/(a%b)*(1-a/b*0)) (0-a/b*1) (1-b/(a%b)*(0-a/b*1)):=by
    rw [show b.len=(b.len-2+1)+1 by omega,Pol.bz,if_neg h0,Pol.bz,if_neg h1]
    rfl
   rw [hb1];obtain ⟨x2,y2,I3,_,_⟩:=Pol.bz_spec (b.len-2) _ _ _ _ _ _ (by omega) I2
   obtain ⟨e1,e2,e3,e4,e5⟩:=last I3;have o1:D.int IntKind.i64 1::[]=ab .i64 [1]:=rfl;simp -implicitDefEqProofs [Z1a,Z1a_B,gy,e1,e2,e3,e4,e5,lp,o1,List.replicate]
end Pe

namespace Pe
open Go Gq
variable {T:Nat→Option Fn} {A:ah}
def Ys (O:ah):Prop:=∀(p:Int) [IsP p] (a b:Fp p),(a≠0∨b≠0)→a.len≤2000→b.len≤2000 →
 ask O F1f [(D.int .i64 p),(D.sl .leaf (ab .i64 (row a))),(D.sl .leaf (ab .i64 (row b)))]=some (D.sl .leaf (ab .i64 (row (Pol.gcd a b))))
theorem ah3 (hT:T F1f=some Z1f) (hb:G4 (den T A)):Ys (den T A):=by
 intro p i a b hab h1 h2;have e:=hb p a b hab h1 h2;refine bi hT rfl ?_;simp -implicitDefEqProofs [Z1f,Z1f_B,e,Pol.gcd]
theorem ame (x:Int) (_h:0≤x):((BitVec.ofInt 64 x &&& 1#64).toNat:Int)=x%2:=by
 rw [BitVec.toNat_and];have e:(1#64).toNat=2^1-1:=rfl;rw [e,Nat.and_two_pow_sub_one_eq_mod,BitVec.toNat_ofInt];omega
theorem aaj (x:Int) (h:0≤x):a1v .i64 x 1=x%2:=by
 show IntKind.i64.wrap ((BitVec.ofInt 64 x &&& 1#64).toNat:Int)=_;rw [ame x h,w64 (by omega)]
theorem aba (x:Int):zm .shr .i64 x 1=some (.int .i64 (x/2)):=by
 show (if (1:Int)<0 then none else some (D.int .i64 (x.fdiv (2^min (1:Int).toNat 64))))=_
 rw [if_neg (by omega)]
 congr 2
 show x.fdiv 2=x/2;rw [Int.fdiv_eq_ediv_of_nonneg _ (by omega)]
theorem a9r {O:ah} (hr:Bw O) (ht:Ac O) {p:Int} [IsP p] {m:Fp p} (hm:m≠0) (hml:m.len<2000):∀(n:Nat) (k:Int) (out base:Fp p),0≤k→k.toNat<2^n→k<4611686018427387904→out.len<m.len→base.len<m.len→∃base':List Int,
 dn O 0 (.loop Z1k_L0) ⟨[(0,(.d (.int .i64 p))),(2,(.d (.int .i64 k))),(3,(.d (.sl .leaf (ab .i64 (row m))))),(9,(.d (.sl .leaf (ab .i64 (row out))))),(10,(.d (.sl .leaf (ab .i64 (row base)))))],[.hole]⟩ =
  some (.exit 0,⟨[(0,(.d (.int .i64 p))),(2,(.d (.int .i64 0))),(3,(.d (.sl .leaf (ab .i64 (row m))))),(9,(.d (.sl .leaf (ab .i64 (row (out*pw base k.toNat%m)))))),(10,(.d (.sl .leaf (ab .i64 base')))),(20,(.d (.bool false)))],[.hole]⟩):=by
 intro n
 induction n with
 | zero=>
  intro k out base hk hn _ ho hb;obtain rfl:k=0:=by simp at hn; omega
  refine ⟨row base,?_⟩
  have e:out*pw base (0:Int).toNat%m=out:=by
   show out*1%m=out;rw [Gq.mul_one,Pol.mod_small ho]
  rw [e];exact bt (by simp -implicitDefEqProofs [Z1k_L0,ac])
 | succ n ih=>
  intro k out base hk hn hkm ho hb
  by_cases h0:k=0
  ·subst h0
   refine ⟨row base,?_⟩
   have e:out*pw base (0:Int).toNat%m=out:=by
    show out*1%m=out;rw [Gq.mul_one,Pol.mod_small ho]
   rw [e];exact bt (by simp -implicitDefEqProofs [Z1k_L0,ac])
  ·have hkp:0<k:=by omega
   have hlen:∀x y:Fp p,x.len<m.len→y.len<m.len→(x*y).len<5000:=fun x y hx hy=>by
    have:=Pol.len_le (Pol.lt_mul x.lt_len y.lt_len);omega
   have t1:=ht p out base (by omega) (by omega)
   have t2:=ht p base base (by omega) (by omega)
   have r1:=hr p (out*base) m hm (hlen _ _ ho hb) (by omega)
   have r2:=hr p (base*base) m hm (hlen _ _ hb hb) (by omega)
   have s:=Pol.bin_step (out:=out) (base:=base) hm k.toNat (by omega)
   have hdiv:(k/2).toNat=k.toNat/2:=by omega
   obtain ⟨b',e⟩:=ih (k/2) (if k.toNat%2=1 then out*base%m else out) (base*base%m) (by omega) (by rw [lw] at hn; omega) (by omega) (by split; exact Pol.len_mod _ hm; exact ho) (Pol.len_mod _ hm)
   rw [hdiv,s] at e;refine ⟨b',bm ?_ e⟩;have ea:=aaj k (by omega)
   have es:=aba k
   by_cases hodd:k%2=1
   ·rw [if_pos (show k.toNat%2=1 by omega)]
    simp -implicitDefEqProofs [Z1k_L0,ac,hkp,t1,t2,r1,r2,ea,es,hodd]
   ·rw [if_neg (show ¬ k.toNat%2=1 by omega)]
    simp -implicitDefEqProofs [Z1k_L0,ac,hkp,t2,r2,ea,es,hodd]
def zk (O:ah):Prop:=∀(p:Int) [IsP p] (a:Fp p) (k:Int) (m:Fp p),m≠0→a.len<5000→m.len<2000→0≤k→k<4611686018427387904 →
 ask O F1k [(D.int .i64 p),(D.sl .leaf (ab .i64 (row a))),(D.int .i64 k),(D.sl .leaf (ab .i64 (row m)))]=some (D.sl .leaf (ab .i64 (row (pw a k.toNat%m))))
theorem a9b (hT:T F1k=some Z1k) (hr:Bw (den T A)) (ht:Ac (den T A)):zk (den T A):=by
 intro p i a k m hm ha hml hk hkm;have r1:=hr p 1 m hm (by rw [Pol.len_one]; omega) (by omega)
 rw [uz] at r1;have r2:=hr p a m hm (by omega) (by omega)
 obtain ⟨b',e⟩:=a9r hr ht hm hml 62 k (1%m) (a%m) hk (by omega) hkm (Pol.len_mod _ hm) (Pol.len_mod _ hm)
 have e2:1%m*pw (a%m) k.toNat%m=pw a k.toNat%m:=by
  rw [Pol.mul_mod_left _ _ hm,Gq.one_mul,Pol.pow_mod _ hm]
 rw [e2] at e;have o1:D.int IntKind.i64 1::[]=ab .i64 [1]:=rfl;refine bi hT rfl ?_;simp -implicitDefEqProofs [Z1k,Z1k_B,r1,r2,e,o1,List.replicate]
def J6 (p most:Int):Nat→Int→Int
 | 0,out=>out
 | n+1,out=>if out > most then out else J6 p most n (out*p)
theorem a7q {O:ah} {p:Int} [IsP p] {most nn:Int} (hmost:most≤1152921504606846976):∀(n:Nat) (i:Int) (out:Int),i+n=nn→-1000000<i→nn<1000000→0≤out→out≤8070450532247928832→∃(i':Int) (b:List (Nat×V)),
 dn O 0 (.loop Z1i_L0) ⟨[(0,(.d (.int .i64 p))),(2,(.d (.int .i64 most))),(7,(.d (.int .i64 out))),(8,(.d (.int .i64 nn))),(9,(.d (.int .i64 i)))],[]⟩ =
  some (.exit 0,⟨[(0,(.d (.int .i64 p))),(2,(.d (.int .i64 most))),(7,(.d (.int .i64 (J6 p most n out)))),(8,(.d (.int .i64 nn))),(9,(.d (.int .i64 i')))]++b,[]⟩)
 | 0,i,out,hi,h1,h2,ho,ho2=>by
  have:i=nn:=by omega
  subst this;exact ⟨i,[(10,(.d (.bool false)))],bt (by simp -implicitDefEqProofs [Z1i_L0,ac,J6])⟩
 | n+1,i,out,hi,h1,h2,ho,ho2=>by
  have hlt:i<nn:=by omega
  have hp:=IsP.le (p:=p);have hp2:=IsP.pos (p:=p)
  by_cases hm:most<out
  ·exact ⟨i,[(13,(.d (.bool true)))],bt (by simp -implicitDefEqProofs [Z1i_L0,ac,J6,hlt,hm])⟩
  ·have hmul:0≤out*p∧out*p≤8070450532247928832:=by
    refine ⟨fm ho (by omega),?_⟩
    have:out*p≤out*7:=dl hp ho;omega
   obtain ⟨i',b,e⟩:=a7q (O:=O) (p:=p) (nn:=nn) hmost n (i+1) (out*p) (by omega) (by omega) h2 hmul.1 hmul.2
   have w1:IntKind.i64.wrap (out*p)=out*p:=w64 (by omega)
   have w2:IntKind.i64.wrap (i+1)=i+1:=w64 (by omega)
   refine ⟨i',b,bm (s1:=⟨[(0,(.d (.int .i64 p))),(2,(.d (.int .i64 most))),(7,(.d (.int .i64 (out*p)))),(8,(.d (.int .i64 nn))),(9,(.d (.int .i64 (i+1))))],[]⟩) (by simp -implicitDefEqProofs [Z1i_L0,ac,hlt,hm,w1,w2]) ?_⟩
   rw [e,J6,if_neg (by omega)]
def Sg (O:ah):Prop:=∀(p:Int) [IsP p] (n:Nat) (most:Int),n<1000000→most≤1152921504606846976→ask O F1i [(D.int .i64 p),(D.int .i64 n),(D.int .i64 most)]=some (D.int .i64 (J6 p most n 1))
theorem acq (hT:T F1i=some Z1i):Sg (den T A):=by
 intro p i n most hn hm;obtain ⟨i',b,e⟩:=a7q (O:=den T A) (p:=p) (nn:=(n:Int)) hm n 0 1 (by omega) (by omega) (by omega) (by omega) (by omega)
 refine bi hT rfl ?_;simp -implicitDefEqProofs [Z1i,Z1i_B,e]
end Pe

namespace Pe
open Go Gq
variable {T:Nat→Option Fn} {A:ah}
def dgs (p:Int):Nat→Int→List Int
 | 0,_=>[]
 | f+1,n=>if n≤0 then [] else n%p::dgs p f (n/p)
def jb (p n:Int):Fp p:=ew p (dgs p 64 n)
theorem a04 {p:Int} [IsP p]:∀f n,Can p (dgs p f n)
 | 0,n=>fun x hx=>by simp [dgs] at hx
 | f+1,n=>fun x hx=>by
  unfold dgs at hx
  split at hx
  ·simp at hx
  ·have hp:=IsP.pos (p:=p)
   rcases dk.1 hx with rfl | hx
   ·exact ⟨dt _ (by omega),cz _ hp⟩
   ·exact a04 f _ x hx
theorem O4 {p n:Int} [IsP p] (h:0<n) (h2:n/p=0):n%p≠0:=by
 have h3:=Int.mul_ediv_add_emod n p;rw [h2] at h3;simp at h3;omega
theorem Tx {p:Int} [IsP p]:∀(f:Nat) (n:Int),n<2^f→dgs p f n=[]∨cf (dgs p f n) ((dgs p f n).length-1)≠0
 | 0,n,h=>.inl rfl
 | f+1,n,h=>by
  by_cases h0:n≤0
  ·left; simp [dgs,h0]
  ·right
   have hp:=IsP.ge (p:=p)
   have hd:n/p<2^f:=by
    apply kv (by omega)
    have:(2:Int)^(f+1)=2^f*2:=je _ _;have h2:(2:Int)^f*2≤2^f*p:=dl hp (sw (by omega))
    omega
   have e:dgs p (f+1) n=n%p::dgs p f (n/p):=by simp [dgs,h0]
   rw [e];have hdn:0≤n/p:=qv (by omega) (by omega)
   rcases Tx (p:=p) f (n/p) hd with h1 | h1
   ·rw [h1]
    show n%p≠0
    by_cases hz:n/p=0
    ·exact O4 (p:=p) (show 0<n by omega) hz
    ·exfalso
     cases f with
     | zero=>simp at hd; omega
     | succ f=>
      rw [dgs,if_neg (by omega)] at h1
      cases h1
   ·cases hq:dgs p f (n/p) with
    | nil=>rw [hq] at h1; simp [cf] at h1
    | cons a l=>
     rw [hq] at h1
     simpa [cf] using h1
theorem W1 {p:Int} [IsP p] {l:List Int} (h:Can p l) (hl:l=[]∨cf l (l.length-1)≠0):row (ew p l)=l:=by
 rw [←rf h];unfold trim
 have:jz l l.length=l.length:=by
  cases hn:l.length with
  | zero=>rfl
  | succ n=>
   rcases hl with h0 | h0
   ·rw [h0] at hn; simp at hn
   ·rw [hn,Nat.add_sub_cancel] at h0
    rw [jz,if_neg h0]
 rw [this,jd]
theorem Tp {p:Int} [IsP p] {n:Int} (h:n<18446744073709551616):row (jb p n)=dgs p 64 n:=W1 (a04 64 n) (Tx 64 n (by simpa using h))
theorem a88 (p:Int):∀f n,(dgs p f n).length≤f
 | 0,n=>by simp [dgs]
 | f+1,n=>by
  unfold dgs
  split
  ·simp
  ·have:=a88 p f (n/p); simp; omega
theorem a5k {p:Int} (n:Int):(jb p n).len≤64:=nw (Pol.len_le (Tz _)) (a88 p 64 n)
theorem Mf {O:ah} {p:Int} [IsP p]:∀(f:Nat) (n:Int) (cur:List Int) (cp:Option Nat),0≤n→n<2^f→n<9223372036854775807→cur.length+f<1000→∃cp',
 dn O 0 (.loop Z1j_L0) ⟨[(0,(.d (.int .i64 p))),(1,(.d (.int .i64 n))),(5,.sl 0 [] 0 cur.length cp)],[.sl false .leaf (ab .i64 cur),.hole,.hole]⟩ =
  some (.exit 0,⟨[(0,(.d (.int .i64 p))),(1,(.d (.int .i64 0))),(5,.sl 0 [] 0 (cur++dgs p f n).length cp'),(7,(.d (.bool false)))],[.sl false .leaf (ab .i64 (cur++dgs p f n)),.hole,.hole]⟩)
 | 0,n,cur,cp,h0,hn,hm,hl=>by
  obtain rfl:n=0:=by simp at hn; omega
  refine ⟨cp,?_⟩;rw [dgs,qw];exact bt (by simp -implicitDefEqProofs [Z1j_L0,ac])
 | f+1,n,cur,cp,h0,hn,hm,hl=>by
  have hp:=IsP.ge (p:=p);have hp7:=IsP.le (p:=p)
  by_cases hz:n=0
  ·subst hz
   refine ⟨cp,?_⟩;rw [dgs,if_pos (xr 0),qw];exact bt (by simp -implicitDefEqProofs [Z1j_L0,ac])
  ·have hd:n/p<2^f:=by
    apply kv (by omega)
    have:(2:Int)^(f+1)=2^f*2:=je _ _;have h2:(2:Int)^f*2≤2^f*p:=dl hp (sw (by omega))
    omega
   have hdn:0≤n/p:=qv (by omega) (by omega)
   have hdl:n/p≤n:=Int.ediv_le_self _ h0;obtain ⟨cp',e⟩:=Mf (O:=O) (p:=p) f (n/p) (cur++[n%p]) none hdn hd (by omega) (by simp; omega)
   have hpos:0<n:=by omega
   have w1:IntKind.i64.wrap (n.tdiv p)=n/p:=by rw [pf h0,w64 (by omega)]
   have w2:n.tmod p=n%p:=ct h0;have hp0:p≠0:=by omega
   have h8:(cur.length+1)*8≤1099511627776:=by omega
   have o1:ab .i64 cur++[D.int .i64 (n%p)]=ab .i64 (cur++[n%p]):=by rw [←Io]; rfl
   refine ⟨cp',?_⟩;rw [dgs,if_neg (by omega),show cur++n%p::dgs p f (n/p)=(cur++[n%p])++dgs p f (n/p) by simp]
   refine bm ?_ e;simp -implicitDefEqProofs [Z1j_L0,ac,hpos,w1,w2,hp0,h8,o1,List.replicate]
def tj (O:ah):Prop:=∀(p:Int) [IsP p] (n:Int),0≤n→n<4611686018427387904→ask O F1j [(D.int .i64 p),(D.int .i64 n)]=some (D.sl .leaf (ab .i64 (row (jb p n))))
theorem X7 (hT:T F1j=some Z1j):tj (den T A):=by
 intro p i n h0 hn;obtain ⟨cp,e⟩:=Mf (O:=den T A) (p:=p) 64 n [] (some 0) h0 (by omega) (by omega) (by simp)
 rw [Tp (by omega)]
 rw [gy,eh] at e;have e0:(([]:List Int).length:Nat)=0:=rfl;rw [e0] at e;refine bi hT rfl ?_;simp -implicitDefEqProofs [Z1j,Z1j_B,e]
end Pe

namespace Gq
section
variable {K:Type} [Fd K]
def Dv (a b:Pol K):Prop:=∃c,b=a*c
theorem Dv.refl (a:Pol K):Dv a a:=⟨1,(mul_one a).symm⟩
theorem Dv.trans {a b c:Pol K} (h:Dv a b) (h':Dv b c):Dv a c:=by
 obtain ⟨x,rfl⟩:=h;obtain ⟨y,rfl⟩:=h';exact ⟨x*y,mul_assoc _ _ _⟩
theorem Dv.zero (a:Pol K):Dv a 0:=⟨0,(mul_zero a).symm⟩
theorem Dv.mul_right {a b:Pol K} (h:Dv a b) (c:Pol K):Dv a (b*c):=h.trans ⟨c,rfl⟩
theorem Dv.mul_left {a b:Pol K} (h:Dv a b) (c:Pol K):Dv a (c*b):=h.trans ⟨c,mul_comm _ _⟩
theorem Dv.add {a b c:Pol K} (h:Dv a b) (h':Dv a c):Dv a (b+c):=by
 obtain ⟨x,rfl⟩:=h;obtain ⟨y,rfl⟩:=h';exact ⟨x+y,(mul_add _ _ _).symm⟩
theorem Dv.neg {a b:Pol K} (h:Dv a b):Dv a (-b):=by
 obtain ⟨x,rfl⟩:=h;exact ⟨-x,(a9t _ _).symm⟩
theorem Dv.sub {a b c:Pol K} (h:Dv a b) (h':Dv a c):Dv a (b-c):=by
 rw [sub_eq]; exact h.add h'.neg
theorem Dv.len {a b:Pol K} (h:Dv a b) (hb:b≠0):a.len≤b.len:=by
 obtain ⟨x,rfl⟩:=h;have ha:a≠0:=fun h=>hb (by rw [h,zero_mul])
 have hx:x≠0:=fun h=>hb (by rw [h,mul_zero])
 have:=Pol.len_mul ha hx;have:=Pol.len_pos hx;omega
theorem A1 {a m:Pol K} (hm:m≠0):Dv m a↔a%m=0:=by
 constructor
 ·rintro ⟨c,rfl⟩
  rw [mul_comm];exact Pol.mod_self_mul c hm
 ·intro h
  have:=Pol.div_mod a m;rw [h,add_zero,mul_comm] at this;exact ⟨_,this⟩
theorem og {a m:Pol K}:Dv m a↔Quo.mk m a=0:=by
 rw [←Quo.mk_zero,Quo.eq];constructor
 ·rintro ⟨c,h⟩; exact ⟨c,by rw [zero_add,h]⟩
 ·rintro ⟨c,h⟩; exact ⟨c,by rw [h,zero_add]⟩
theorem p9 {a:Pol K} (h:a.len=1):∃k:K,k≠0∧a=Pol.C k:=by
 have e:=Pol.eq_C (Pol.lt_iff.2 (show a.len≤1 by omega))
 refine ⟨a.c 0,fun h0=>?_,e⟩
 rw [h0,Pol.C_zero] at e;rw [e,Pol.len_zero] at h;omega
theorem a5q {k:K} (h:k≠0):Pol.C k*Pol.C (Fd.inv k)=1:=by rw [←Pol.C_mul,Fd.mul_inv k h,Pol.C_one]
theorem Dv.Cmul {a b:Pol K} {k:K} (hk:k≠0):Dv (Pol.C k*a) b↔Dv a b:=by
 constructor
 ·rintro ⟨c,h⟩
  exact ⟨Pol.C k*c,by rw [h]; exact bo [Pol.C k,a,c] rfl⟩
 ·rintro ⟨c,h⟩
  refine ⟨Pol.C (Fd.inv k)*c,?_⟩;have:Pol.C k*a*(Pol.C (Fd.inv k)*c)=(Pol.C k*Pol.C (Fd.inv k))*(a*c):=bo [Pol.C k,a,Pol.C (Fd.inv k),c] rfl;rw [this,a5q hk,one_mul,h]
def Monic (a:Pol K):Prop:=a.ld=1∧a≠0
theorem Monic.mul {a b:Pol K} (ha:Monic a) (hb:Monic b):Monic (a*b):=⟨by rw [Pol.ld_mul ha.2 hb.2,ha.1,hb.1,mul_one],Pol.mul_ne ha.2 hb.2⟩
theorem Monic.one:Monic (1:Pol K):=⟨Pol.ld_one,Pol.one_ne⟩
theorem Pol.ld_C {k:K} (h:k≠0):(C k).ld=k:=by unfold ld; rw [len_C h]; rfl
theorem Monic.eq_one {a:Pol K} (h:Monic a) (hl:a.len=1):a=1:=by
 obtain ⟨k,hk,rfl⟩:=p9 hl;have:=h.1;rw [Pol.ld_C hk] at this;rw [this,Pol.C_one]
theorem Monic.antisymm {a b:Pol K} (ha:Monic a) (hb:Monic b) (h:Dv a b) (h':Dv b a):a=b:=by
 obtain ⟨x,rfl⟩:=h;have h1:=h'.len ha.2;have hx:x≠0:=fun h=>hb.2 (by rw [h,mul_zero])
 have h2:=Pol.len_mul ha.2 hx;have h3:=Pol.len_pos hx;obtain ⟨k,hk,rfl⟩:=p9 (show x.len=1 by omega)
 have h4:=hb.1;rw [Pol.ld_mul ha.2 hx,ha.1,one_mul,Pol.ld_C hk] at h4;rw [h4,Pol.C_one,mul_one]
noncomputable def mon (a:Pol K):Pol K:=Pol.C (Fd.inv a.ld)*a
theorem oe {a:Pol K} (h:a≠0):Monic (mon a):=by
 have h1:=Fd.inv_ne (Pol.ld_ne h);refine ⟨?_,Pol.mul_ne (Pol.C_ne h1) h⟩;unfold mon;rw [Pol.ld_mul (Pol.C_ne h1) h,Pol.ld_C h1,mul_comm,Fd.mul_inv _ (Pol.ld_ne h)]
theorem Dk {a b:Pol K} (h:a≠0):Dv (mon a) b↔Dv a b:=Dv.Cmul (Fd.inv_ne (Pol.ld_ne h))
theorem u9 {a:Pol K} (h:a≠0):(mon a).len=a.len:=Pol.len_Cmul (Fd.inv_ne (Pol.ld_ne h)) a
theorem Wd {a:Pol K} (h:a≠0):a=Pol.C a.ld*mon a:=by
 unfold mon;rw [←mul_assoc,a5q (Pol.ld_ne h),one_mul]
theorem Pol.eu_spec {a b:Pol K} (h:a≠0∨b≠0):(eu a b).1≠0∧Dv (eu a b).1 a∧Dv (eu a b).1 b∧(eu a b).2.1*a+(eu a b).2.2*b=(eu a b).1:=by
 obtain ⟨x,y,h1,⟨s,h2⟩,⟨t,h3⟩⟩:=bz_spec b.len a b 1 0 0 1 (ba _) (BzI.init h);exact ⟨h1.any.resolve_right fun h=>h rfl,⟨s,by rw [mul_comm]; exact h2⟩,⟨t,by rw [mul_comm]; exact h3⟩,h1.one⟩
theorem Pol.gcd_monic {a b:Pol K} (h:a≠0∨b≠0):Monic (gcd a b):=oe (eu_spec h).1
theorem Pol.gcd_dv_left {a b:Pol K} (h:a≠0∨b≠0):Dv (gcd a b) a:=(Dk (eu_spec h).1).2 (eu_spec h).2.1
theorem Pol.gcd_dv_right {a b:Pol K} (h:a≠0∨b≠0):Dv (gcd a b) b:=(Dk (eu_spec h).1).2 (eu_spec h).2.2.1
theorem Pol.bezout_eq {a b:Pol K} (h:a≠0∨b≠0):(bezout a b).2.1*a+(bezout a b).2.2*b=gcd a b:=by
 have e:=(eu_spec h).2.2.2;show C (Fd.inv (eu a b).1.ld)*(eu a b).2.1*a+C (Fd.inv (eu a b).1.ld)*(eu a b).2.2*b=C (Fd.inv (eu a b).1.ld)*(eu a b).1;generalize C (Fd.inv (eu a b).1.ld)=k;generalize (eu a b).2.1=u at *;generalize (eu a b).2.2=v at *;rw [←e];exact bo [k,u,a,v,b] rfl
theorem Pol.dv_gcd {a b c:Pol K} (h:a≠0∨b≠0) (ha:Dv c a) (hb:Dv c b):Dv c (gcd a b):=by
 rw [←bezout_eq h];exact (ha.mul_left _).add (hb.mul_left _)
structure Irr (q:Pol K):Prop where
 len:2≤q.len
 no:∀u v,q=u*v→u.len=1∨v.len=1
theorem Irr.ne {q:Pol K} (h:Irr q):q≠0:=fun h0=>by have:=h.len; rw [h0,Pol.len_zero] at this; omega
theorem Irr.dv {q u:Pol K} (h:Irr q) (hd:Dv u q):u.len=1∨u.len=q.len:=by
 obtain ⟨v,hv⟩:=hd;have hu:u≠0:=fun h0=>h.ne (by rw [hv,h0,zero_mul])
 have hv0:v≠0:=fun h0=>h.ne (by rw [hv,h0,mul_zero])
 have l:=Pol.len_mul hu hv0;rw [←hv] at l;rcases h.no u v hv with h1 | h1
 ·exact .inl h1
 ·right; omega
theorem Irr.coprime {q a:Pol K} (h:Irr q) (hn:¬ Dv q a):∃u v,u*q+v*a=1:=by
 have h0:q≠0∨a≠0:=.inl h.ne;have e:=Pol.bezout_eq h0;have d1:=Pol.gcd_dv_left h0;have d2:=Pol.gcd_dv_right h0;have m:=Pol.gcd_monic h0;rcases h.dv d1 with h1 | h1
 ·rw [m.eq_one h1] at e
  exact ⟨_,_,e⟩
 ·exfalso
  obtain ⟨c,hc⟩:=d1;have hc0:c≠0:=fun h0=>h.ne (by rw [hc,h0,mul_zero])
  have l:=Pol.len_mul m.2 hc0;rw [←hc] at l;obtain ⟨k,hk,rfl⟩:=p9 (show c.len=1 by omega)
  apply hn;rw [hc,mul_comm];exact (Dv.Cmul hk).2 d2
theorem Irr.prime {q a b:Pol K} (h:Irr q) (hd:Dv q (a*b)):Dv q a∨Dv q b:=by
 by_cases ha:Dv q a
 ·exact .inl ha
 ·obtain ⟨u,v,e⟩:=h.coprime ha
  right
  have:b=u*b*q+v*(a*b):=by
   have e2:u*b*q+v*(a*b)=(u*q+v*a)*b:=bo [u,b,q,v,a] rfl;rw [e2,e,one_mul]
  rw [this];exact ((Dv.refl q).mul_left _).add (hd.mul_left _)
theorem Irr.of_dv {q:Pol K} (hl:2≤q.len) (h:∀u,Dv u q→u.len=1∨u.len=q.len):Irr q:=⟨hl,fun u v e=>by
 have hq:q≠0:=fun h0=>by rw [h0,Pol.len_zero] at hl; omega
 have hu:u≠0:=fun h0=>hq (by rw [e,h0,zero_mul])
 have hv0:v≠0:=fun h0=>hq (by rw [e,h0,mul_zero])
 have l:=Pol.len_mul hu hv0;rw [←e] at l;rcases h u ⟨v,e⟩ with h1 | h1
 ·exact .inl h1
 ·right; omega⟩
theorem Irr.mon {q:Pol K} (h:Irr q):Irr (mon q):=Irr.of_dv (by rw [u9 h.ne]; exact h.len) fun u hu=>by
 rw [u9 h.ne];apply h.dv;refine hu.trans ?_;rw [Dk h.ne];exact .refl q
theorem Hv:∀(n:Nat) (a:Pol K),a.len≤n→2≤a.len→∃q,Irr q∧Monic q∧Dv q a
 | 0,a,h,h2=>by omega
 | n+1,a,h,h2=>by
  have ha:a≠0:=fun h0=>by rw [h0,Pol.len_zero] at h2; omega
  by_cases hi:Irr a
  ·exact ⟨Gq.mon a,hi.mon,oe ha,(Dk ha).2 (.refl a)⟩
  ·have:∃u,Dv u a∧u.len≠1∧u.len≠a.len:=dd fun hx=>hi (Irr.of_dv h2 fun u hu=>dd fun hy=>hx ⟨u,hu,by omega,by omega⟩)
   obtain ⟨u,hu,h3,h4⟩:=this;have h5:=hu.len ha
   have hu0:u≠0:=fun h0=>by
    obtain ⟨c,hc⟩:=hu;exact ha (by rw [hc,h0,zero_mul])
   have h6:=Pol.len_pos hu0;obtain ⟨q,h7,h8,h9⟩:=Hv n u (by omega) (by omega)
   exact ⟨q,h7,h8,h9.trans hu⟩
theorem Irr.eq_of_dv {q r:Pol K} (hq:Irr q) (hr:Irr r) (mq:Monic q) (mr:Monic r) (h:Dv q r):q=r:=by
 refine mq.antisymm mr h ?_;rcases hr.dv h with h1 | h1
 ·have:=hq.len; omega
 ·obtain ⟨c,rfl⟩:=h
  have hc:c≠0:=fun h0=>mr.2 (by rw [h0,mul_zero])
  have l:=Pol.len_mul mq.2 hc;obtain ⟨k,hk,rfl⟩:=p9 (show c.len=1 by omega)
  rw [mul_comm];exact (Dv.Cmul hk).2 (.refl q)
theorem Quo.ex {R:Type} [CR R] {m:R} (x:Quo m):∃a,x=Quo.mk m a:=Quo.ind (P:=fun x=>∃a,x=Quo.mk m a) (fun a=>⟨a,rfl⟩) x
theorem Irr.quo_zero {q:Pol K} (h:Irr q) {x y:Quo q} (e:x*y=0):x=0∨y=0:=by
 obtain ⟨a,rfl⟩:=Quo.ex x;obtain ⟨b,rfl⟩:=Quo.ex y;rw [←Quo.mk_mul,←og] at e;rw [←og,←og];exact h.prime e
theorem Irr.quo_inv {q:Pol K} (h:Irr q) {x:Quo q} (hx:x≠0):∃y,x*y=1:=by
 obtain ⟨a,rfl⟩:=Quo.ex x;obtain ⟨u,v,e⟩:=h.coprime fun hd=>hx (og.1 hd)
 refine ⟨Quo.mk q v,?_⟩;rw [←Quo.mk_mul,←Quo.mk_one,Quo.eq];refine ⟨-u,?_⟩;rw [←e];exact bo [a,v,u,q] rfl
open Classical in
noncomputable abbrev abu {q:Pol K} (h:Irr q):Fd (Quo q) where
 one_ne:=fun e=>by
  have:=og.2 e;have h1:=this.len Pol.one_ne;have:=h.len;rw [Pol.len_one] at h1;omega
 inv:=fun x=>if hx:x=0 then 0 else Classical.choose (h.quo_inv hx)
 mul_inv:=fun x hx=>by rw [dif_neg hx]; exact dw (h.quo_inv hx)
end
def qb {R:Type} [CR R]:List R→R
 | []=>1
 | x::l=>x*qb l
theorem Lr {R:Type} [CR R] {l m:List R} (h:l.Perm m):qb l=qb m:=by
 induction h with
 | nil=>rfl
 | cons x _ ih=>rw [qb,qb,ih]
 | swap x y l=>rw [qb,qb,qb,qb,mul_left_comm]
 | trans _ _ h1 h2=>exact h1.trans h2
theorem Oy {R:Type} [CR R] (x:R):∀l:List R,qb (l.map (x * ·))=pw x l.length*qb l
 | []=>(one_mul _).symm
 | y::l=>by
  rw [om,qb,Oy x l,qb,bv,pw];exact bo [x,y,pw x l.length,qb l] rfl
theorem Ii {α:Type} [DecidableEq α]:∀{l m:List α},l.Nodup→(∀x∈l,x∈m)→m.length=l.length→l.Perm m
 | [],m,_,_,hl=>by
  obtain rfl:=uk (by simpa using hl)
  exact .nil
 | x::l,m,hn,hs,hl=>by
  have hx:x∈m:=hs x (by simp)
  obtain ⟨h1,h2⟩:=lj.1 hn;have p:=List.perm_cons_erase hx;refine (List.Perm.cons x (Ii h2 (fun y hy=>?_) ?_)).trans p.symm
  ·have hne:y≠x:=fun e=>h1 (e▸hy)
   exact (List.mem_erase_of_ne hne).2 (hs y (by simp [hy]))
  ·rw [List.length_erase_of_mem hx]; simp at hl; omega
theorem a81 {R:Type} [CR R] [DecidableEq R] {l:List R} (hn:l.Nodup) (hc:∀x y:R,x*y=0→x=0∨y=0) (h1:(1:R)≠0) (hl:∀x,x∈l↔x≠0) {x:R} (hx:x≠0):pw x l.length=1:=by
 have hcan:∀y z:R,x*y=x*z→y=z:=fun y z e=>by
  have:x*(y-z)=0:=by
   have e2:x*(y-z)=x*y-x*z:=bo [x,y,z] rfl;rw [e2,e,sub_self]
  exact ru ((hc _ _ this).resolve_left hx)
 have hp:(l.map (x * ·)).Perm l:=by
  refine Ii ?_ (fun y hy=>?_) (by simp)
  ·unfold List.Nodup at hn ⊢
   rw [ow];exact hn.imp fun hab e=>hab (hcan _ _ e)
  ·obtain ⟨z,hz,rfl⟩:=cj.1 hy
   exact (hl _).2 fun e=>((hc _ _ e).elim hx) ((hl z).1 hz)
 have hprod:qb l≠0:=by
  have:∀m:List R,(∀z∈m,z≠0)→qb m≠0:=by
   intro m
   induction m with
   | nil=>exact fun _=>h1
   | cons z m ih=>exact fun hm e=>((hc _ _ e).elim (hm z (by simp))) (ih fun y hy=>hm y (by simp [hy]))
  exact this l fun z hz=>(hl z).1 hz
 have e:=Lr hp;rw [Oy] at e
 have e2:qb l*(pw x l.length-1)=0:=by
  have e3:qb l*(pw x l.length-1)=pw x l.length*qb l-qb l:=bo [qb l,pw x l.length] rfl;rw [e3,e,sub_self]
 exact ru ((hc _ _ e2).resolve_left hprod)
section
variable {K:Type} [CR K]
def jm (f:Nat→K):Nat→K
 | 0=>0
 | n+1=>jm f n+f n
theorem Mt (f g:Nat→K):∀n,jm (fun i=>f i+g i) n=jm f n+jm g n
 | 0=>(add_zero _).symm
 | n+1=>by rw [jm,Mt f g n,jm,jm]; exact bo [jm f n,jm g n,f n,g n] rfl
theorem Lv (k:K) (f:Nat→K):∀n,jm (fun i=>k*f i) n=k*jm f n
 | 0=>(mul_zero _).symm
 | n+1=>by rw [jm,Lv k f n,jm,mul_add]
theorem a2w (x:K):∀n,∃g:Nat→K,(∀i,n≤i→g i=0)∧(∀k,n=k+1→g k=1)∧∀y,pw y n-pw x n=(y-x)*jm (fun i=>g i*pw y i) n:=by
 intro n
 induction n with
 | zero=>exact ⟨fun _=>0,fun _ _=>rfl,fun k h=>by omega,fun y=>by show (1:K)-1=(y-x)*0; rw [mul_zero,sub_self]⟩
 | succ n ih=>
  obtain ⟨g,h1,h2,h3⟩:=ih;refine ⟨fun i=>if i=n then 1 else x*g i,fun i hi=>?_,fun k hk=>?_,fun y=>?_⟩
  ·dsimp only; rw [if_neg (by omega),h1 i (by omega),mul_zero]
  ·dsimp only; rw [if_pos (by omega)]
  ·rw [jm]; dsimp only; rw [if_pos rfl,one_mul]
   have e:jm (fun i=>(if i=n then 1 else x*g i)*pw y i) n=x*jm (fun i=>g i*pw y i) n:=by
    rw [←Lv]
    have:∀m,m≤n→jm (fun i=>(if i=n then 1 else x*g i)*pw y i) m=jm (fun i=>x*(g i*pw y i)) m:=by
     intro m
     induction m with
     | zero=>intro _; rfl
     | succ m ihm=>intro hm; rw [jm,jm,ihm (by omega),if_neg (by omega),mul_assoc]
    exact this n (ba n)
   rw [e,pw,pw];have e2:(y-x)*(x*jm (fun i=>g i*pw y i) n+pw y n)=x*((y-x)*jm (fun i=>g i*pw y i) n)+(y-x)*pw y n:=bo [y,x,jm (fun i=>g i*pw y i) n,pw y n] rfl
   rw [e2,←h3 y];exact bo [pw y n,y,pw x n,x] rfl
theorem Wb (f:Nat→K) (x:K):∀n,∃g:Nat→K,(∀i,n≤i+1→g i=0)∧(∀k,n=k+2→g k=f (k+1))∧∀y,jm (fun i=>f i*pw y i) n-jm (fun i=>f i*pw x i) n=(y-x)*jm (fun i=>g i*pw y i) n:=by
 intro n
 induction n with
 | zero=>exact ⟨fun _=>0,fun _ _=>rfl,fun k h=>by omega,fun y=>by show (0:K)-0=(y-x)*0; rw [mul_zero,sub_self]⟩
 | succ n ih=>
  obtain ⟨g,h1,h2,h3⟩:=ih;obtain ⟨g',h1',h2',h3'⟩:=a2w x n;refine ⟨fun i=>g i+f n*g' i,fun i hi=>?_,fun k hk=>?_,fun y=>?_⟩
  ·dsimp only; rw [h1 i (by omega),h1' i (by omega),mul_zero,add_zero]
  ·obtain rfl:k+1=n:=by omega
   dsimp only; rw [h1 k (by omega),h2' k rfl,mul_one,zero_add]
  ·rw [jm,jm,jm]
   have e0:g n+f n*g' n=0:=by rw [h1 n (by omega),h1' n (by omega),mul_zero,add_zero]
   dsimp only
   rw [e0,zero_mul,add_zero]
   have e:jm (fun i=>(g i+f n*g' i)*pw y i) n=jm (fun i=>g i*pw y i) n+f n*jm (fun i=>g' i*pw y i) n:=by
    rw [←Lv,←Mt]
    congr 1
    funext i
    exact bo [g i,f n,g' i,pw y i] rfl
   rw [e];have e2:(y-x)*(jm (fun i=>g i*pw y i) n+f n*jm (fun i=>g' i*pw y i) n)=(y-x)*jm (fun i=>g i*pw y i) n+f n*((y-x)*jm (fun i=>g' i*pw y i) n):=bo [y,x,jm (fun i=>g i*pw y i) n,f n,jm (fun i=>g' i*pw y i) n] rfl
   rw [e2,←h3 y,←h3' y];exact bo [jm (fun i=>f i*pw y i) n,f n,pw y n,jm (fun i=>f i*pw x i) n,pw x n] rfl
theorem U6 (hc:∀x y:K,x*y=0→x=0∨y=0):∀(n:Nat) (f:Nat→K) (l:List K),f n≠0→l.Nodup→(∀y∈l,jm (fun i=>f i*pw y i) (n+1)=0)→l.length≤n
 | n,f,[],_,_,_=>kg n
 | 0,f,x::l,hf,_,hr=>by
  have:=hr x (by simp)
  have e:jm (fun i=>f i*pw x i) (0+1)=f 0:=by show 0+f 0*1=f 0; rw [zero_add,mul_one]
  rw [e] at this;exact absurd this hf
 | n+1,f,x::l,hf,hn,hr=>by
  obtain ⟨g,h1,h2,h5⟩:=Wb f x (n+2);have hx:=hr x (by simp)
  obtain ⟨h3,h4⟩:=lj.1 hn;have hg0:g n≠0:=by rw [h2 n rfl]; exact hf
  have hg:∀y,jm (fun i=>f i*pw y i) (n+2)=(y-x)*jm (fun i=>g i*pw y i) (n+1):=fun y=>by
   have:=h5 y;rw [hx] at this
   have e:jm (fun i=>g i*pw y i) (n+2)=jm (fun i=>g i*pw y i) (n+1):=by
    show jm (fun i=>g i*pw y i) (n+1)+g (n+1)*pw y (n+1)=_
    rw [h1 (n+1) (by omega),zero_mul,add_zero]
   rw [e] at this;rw [←this];exact bo [jm (fun i=>f i*pw y i) (n+2)] rfl
  have:=U6 hc n g l hg0 h4 fun y hy=>by
   have e:=hr y (by simp [hy])
   rw [hg y] at e;refine (hc _ _ e).resolve_left fun h0=>h3 ?_
   rw [←ru h0]; exact hy
  simp; omega
end
end Gq

namespace Pe
open Go Gq
section
variable {p:Int} [IsP p]
end
section
variable {p:Int}
theorem n5 (h:1≤p) {a b:Nat} (hab:a≤b):p^a≤p^b:=by
 obtain ⟨k,rfl⟩:=ia hab;rw [Int.pow_add];have h1:1≤p^k:=Int.pow_pos (n:=p) (m:=k) (by omega)
 have h2:0≤p^a:=sw (by omega)
 have:=dl h1 h2;omega
end
section
variable {p:Int} [IsP p]
def vl (p:Int):List Int→Int
 | []=>0
 | d::l=>d+p*vl p l
theorem a0u:∀{l:List Int},Can p l→0≤vl p l∧vl p l<p^l.length
 | [],_=>by simp [vl]
 | d::l,h=>by
  have hp:=IsP.pos (p:=p);obtain ⟨h1,h2⟩:=a0u (l:=l) fun x hx=>h x (by simp [hx])
  have h3:=h d (by simp)
  have h4:0≤p*vl p l:=fm (by omega) h1
  have h5:p*vl p l≤p*(p^l.length-1):=dl (by omega) (by omega)
  rw [Int.mul_sub,sb] at h5;rw [bv,je,kc (p^l.length),vl];omega
theorem a5n:∀{l:List Int},Can p l→∀i,cf l i=vl p l/p^i%p
 | [],_,i=>by simp [vl,cf]
 | d::l,h,0=>by
  have h3:=h d (by simp)
  show d=(d+p*vl p l)/p^0%p;rw [Int.pow_zero,Int.ediv_one,pj,m6 h3.1 h3.2]
 | d::l,h,i+1=>by
  have hp:=IsP.pos (p:=p);have h3:=h d (by simp)
  have e:cf (d::l) (i+1)=cf l i:=by simp [cf]
  rw [e,a5n (l:=l) fun x hx=>h x (by simp [hx]),vl,je,kc (p^i),←Int.ediv_ediv_of_nonneg (by omega),Int.add_mul_ediv_left _ _ (by omega),t5 h3.1 h3.2,Int.zero_add]
theorem a6f:∀(f:Nat) (n:Int),0≤n→n<2^f→∀i,cf (dgs p f n) i=n/p^i%p
 | 0,n,h0,hn,i=>by
  obtain rfl:n=0:=by simp at hn; omega
  simp [dgs,cf]
 | f+1,n,h0,hn,i=>by
  have hp:=IsP.ge (p:=p);unfold dgs
  split
  ·obtain rfl:n=0:=by omega
   simp [cf]
  ·have hd:n/p<2^f:=by
    apply kv (by omega)
    have:(2:Int)^(f+1)=2^f*2:=je _ _;have h2:(2:Int)^f*2≤2^f*p:=dl hp (sw (by omega))
    omega
   cases i with
   | zero=>show n%p=n/p^0%p; rw [Int.pow_zero,Int.ediv_one]
   | succ i=>
    have e:cf (n%p::dgs p f (n/p)) (i+1)=cf (dgs p f (n/p)) i:=by simp [cf]
    rw [e,a6f f _ (qv h0 (by omega)) hd,je,kc (p^i),←Int.ediv_ediv_of_nonneg (by omega)]
abbrev G1 (n:Int):Prop:=0≤n∧n<18446744073709551616
theorem Qp {n:Int} (h:G1 n) (i:Nat):(jb p n).c i=zp p (n/p^i):=by
 unfold jb;rw [iu,a6f 64 n h.1 (by simpa using h.2),A3]
noncomputable def fw (a:Fp p):Int:=vl p (row a)
theorem Ap (a:Fp p):0≤fw a∧fw a<p^a.len:=by
 have:=a0u (k9 a)
 rwa [cg] at this
theorem Ee {a:Fp p} (h:fw a<18446744073709551616):jb p (fw a)=a:=Pol.ext fun i=>by
 rw [Qp ⟨(Ap a).1,h⟩];have:=a5n (k9 a) i;rw [gz] at this;rw [←A3,show fw a/p^i%p=rep (a.c i) from this.symm,kq]
theorem a6o:∀(f:Nat) (n:Int),0≤n→n<2^f→vl p (dgs p f n)=n
 | 0,n,h0,hn=>by
  obtain rfl:n=0:=by simp at hn; omega
  rfl
 | f+1,n,h0,hn=>by
  have hp:=IsP.ge (p:=p);unfold dgs
  split
  ·show (0:Int)=n; omega
  ·have hd:n/p<2^f:=by
    apply kv (by omega)
    have:(2:Int)^(f+1)=2^f*2:=je _ _;have h2:(2:Int)^f*2≤2^f*p:=dl hp (sw (by omega))
    omega
   rw [vl,a6o f _ (qv h0 (by omega)) hd]
   exact Int.emod_add_mul_ediv n p
theorem zh {n:Int} (h:G1 n):fw (jb p n)=n:=by
 unfold fw;rw [Tp h.2,a6o 64 n h.1 (by simpa using h.2)]
theorem Ut {n m:Int} (hn:G1 n) (hm:G1 m) (h:jb p n=jb p m):n=m:=by rw [←zh (p:=p) hn,h,zh hm]
theorem G0 {n:Int} (h:G1 n) {d:Nat} (hd:n<p^d):(jb p n).lt d:=fun i hi=>by
 have hp:=IsP.pos (p:=p);rw [Qp h,t5 h.1 (Int.lt_of_lt_of_le hd (n5 (by omega) hi)),Cu]
theorem a0n (d:Nat):((p.toNat^d:Nat):Int)=p^d:=by
 have hp:=IsP.pos (p:=p);rw [Int.natCast_pow,Int.toNat_of_nonneg (by omega)]
theorem Oq:jb p 0=0:=Pol.ext fun i=>by rw [Qp ⟨by omega,by omega⟩,Int.zero_ediv,Cu]; rfl
def Dp (q:Fp p) (d:Nat):List (Quo q):=(List.range (p.toNat^d-1)).map fun (n:Nat)=>Quo.mk q (jb p (n+1))
theorem zb (d:Nat):0<p.toNat^d:=Nat.pow_pos (by have:=IsP.pos (p:=p); omega)
theorem Ge {q:Fp p} {d:Nat} (hq:q.len=d+1) (hd:p^d<1000000000000):(Dp q d).Nodup:=by
 unfold Dp List.Nodup;rw [ow];refine List.Pairwise.imp_of_mem ?_ (List.pairwise_lt_range (n:=p.toNat^d-1));intro a b ha hb hab e;rw [ph] at ha hb;have hc:=a0n (p:=p) d;have hpos:=zb (p:=p) d;have h1:G1 ((a:Int)+1):=⟨by omega,by omega⟩
 have h2:G1 ((b:Int)+1):=⟨by omega,by omega⟩
 have hq0:q≠0:=fun h0=>by rw [h0,Pol.len_zero] at hq; omega
 have l1:=Pol.len_le (G0 (p:=p) h1 (d:=d) (by omega))
 have l2:=Pol.len_le (G0 (p:=p) h2 (d:=d) (by omega))
 rw [←Pol.mod_eq_iff hq0,Pol.mod_small (by omega),Pol.mod_small (by omega)] at e
 have:=Ut h1 h2 e;omega
theorem Nz {q:Fp p} {d:Nat} (hq:q.len=d+1) (hd:p^d<1000000000000) (x:Quo q):x∈Dp q d↔x≠0:=by
 have hc:=a0n (p:=p) d;have hpos:=zb (p:=p) d;have hq0:q≠0:=fun h0=>by rw [h0,Pol.len_zero] at hq; omega
 constructor
 ·intro h e
  obtain ⟨n,hn,rfl⟩:=cj.1 h;rw [ph] at hn;have h1:G1 ((n:Int)+1):=⟨by omega,by omega⟩
  have l1:=Pol.len_le (G0 (p:=p) h1 (d:=d) (by omega))
  rw [←Quo.mk_zero,←Pol.mod_eq_iff hq0,Pol.mod_small (by omega),Pol.zero_mod hq0,←Oq] at e
  have:=Ut h1 ⟨by omega,by omega⟩ e
  omega
 ·intro h
  obtain ⟨a,rfl⟩:=Quo.ex x;have hl:=Pol.len_mod a hq0;rw [←Pol.mk_mod] at h ⊢;have hin:=Ap (a%q);have hle:p^(a%q).len≤p^d:=n5 (by have:=IsP.pos (p:=p); omega) (by omega)
  have e:=Ee (a:=a%q) (by omega)
  have hne:fw (a%q)≠0:=fun h0=>by
   rw [h0,Oq] at e;exact h (by rw [←e,Quo.mk_zero])
  refine cj.2 ⟨(fw (a%q)).toNat-1,?_,?_⟩
  ·rw [ph]; omega
  ·rw [show (((fw (a%q)).toNat-1:Nat):Int)+1=fw (a%q) by omega,e]
theorem aek {q:Fp p} (hi:Irr q) {d:Nat} (hq:q.len=d+1) (hd:p^d<1000000000000) {x:Quo q} (hx:x≠0):pw x (p.toNat^d-1)=1:=by
 classical
 have h1:(1:Quo q)≠0:=(abu hi).one_ne;have:=a81 (Ge hq hd) (fun x y e=>hi.quo_zero e) h1 (Nz hq hd) hx
 rwa [Dp,ap,gu] at this
theorem Nn {q:Fp p} (hi:Irr q) {d:Nat} (hq:q.len=d+1) (hd:p^d<1000000000000) (x:Quo q):pw x (p.toNat^d)=x:=by
 have hpos:=zb (p:=p) d
 by_cases hx:x=0
 ·rw [hx]
  cases hn:p.toNat^d with
  | zero=>omega
  | succ n=>rw [pw,Gq.mul_zero]
 ·have:=aek hi hq hd hx
  have e:p.toNat^d=(p.toNat^d-1)+1:=by omega
  rw [e,pw,this,Gq.one_mul]
end
section
variable {p:Int}
theorem agf {q:Fp p}:(ic p:Quo q)=0:=by
 have h:∀n:Int,(ic n:Quo q)=Quo.mk q (Pol.C (zp p n)):=by
  have hn:∀n:Nat,(nc n:Quo q)=Quo.mk q (Pol.C (zp p n)):=by
   intro n
   induction n with
   | zero=>show (0:Quo q)=_; rw [show zp p ((0:Nat):Int)=0 from rfl,Pol.C_zero,Quo.mk_zero]
   | succ n ih=>
    rw [nc,ih];have:zp p ((n+1:Nat):Int)=zp p n+1:=rfl;rw [this,Pol.C_add,Quo.mk_add,Pol.C_one,Quo.mk_one]
  intro n;cases n with
  | ofNat n=>exact hn n
  | negSucc n=>
   show -(nc (n+1):Quo q)=_;rw [hn,←Quo.mk_neg,←Pol.C_neg]; rfl
 rw [h];have:zp p p=0:=Lt.2 (by simp)
 rw [this,Pol.C_zero,Quo.mk_zero]
end
section
variable {p:Int} [IsP p]
theorem Mj {q:Fp p} (x y:Quo q):pw (x+y) p.toNat=pw x p.toNat+pw y p.toNat:=by
 have h:=agf (q:=q);rcases (inferInstance:IsP p).h with rfl | rfl | rfl | rfl
 ·have e:pw (x+y) 2=pw x 2+pw y 2+ic 2*(x*y):=by
   show (x+y)^2=x^2+y^2+ic 2*(x*y);exact bo [x,y] rfl
  rw [h,Gq.zero_mul,Gq.add_zero] at e;exact e
 ·have e:pw (x+y) 3=pw x 3+pw y 3+ic 3*(x*x*y+x*y*y):=by
   show (x+y)^3=x^3+y^3+ic 3*(x*x*y+x*y*y);exact bo [x,y] rfl
  rw [h,Gq.zero_mul,Gq.add_zero] at e;exact e
 ·have e:pw (x+y) 5=pw x 5+pw y 5+ic 5*(x^4*y+ic 2*x^3*y^2+ic 2*x^2*y^3+x*y^4):=by
   show (x+y)^5=x^5+y^5+ic 5*(x^4*y+ic 2*x^3*y^2+ic 2*x^2*y^3+x*y^4);exact bo [x,y] rfl
  rw [h,Gq.zero_mul,Gq.add_zero] at e;exact e
 ·have e:pw (x+y) 7=pw x 7+pw y 7+ic 7*(x^6*y+ic 3*x^5*y^2+ic 5*x^4*y^3+ic 5*x^3*y^4+ic 3*x^2*y^5+x*y^6):=by
   show (x+y)^7=x^7+y^7+ic 7*(x^6*y+ic 3*x^5*y^2+ic 5*x^4*y^3+ic 5*x^3*y^4+ic 3*x^2*y^5+x*y^6);exact bo [x,y] rfl
  rw [h,Gq.zero_mul,Gq.add_zero] at e;exact e
theorem Dj (c:Zp p):pw c p.toNat=c:=by
 have h0:=kl c;have e:c=zp p (rep c):=(kq c).symm;generalize rep c=n at *;subst e;rcases (inferInstance:IsP p).h with rfl | rfl | rfl | rfl
 ·have:n=0∨n=1:=by omega
  rcases this with rfl | rfl <;> exact Lt.2 (by decide)
 ·have:n=0∨n=1∨n=2:=by omega
  rcases this with rfl | rfl | rfl <;> exact Lt.2 (by decide)
 ·have:n=0∨n=1∨n=2∨n=3∨n=4:=by omega
  rcases this with rfl | rfl | rfl | rfl | rfl <;> exact Lt.2 (by decide)
 ·have:n=0∨n=1∨n=2∨n=3∨n=4∨n=5∨n=6:=by omega
  rcases this with rfl | rfl | rfl | rfl | rfl | rfl | rfl <;> exact Lt.2 (by decide)
end
end Pe

namespace Pe
open Go Gq
section
variable {p:Int} [IsP p]
theorem Qf {q:Fp p} (x y:Quo q):∀k,pw (x+y) (p.toNat^k)=pw x (p.toNat^k)+pw y (p.toNat^k)
 | 0=>by rw [sz,Gn,Gn,Gn]
 | k+1=>by rw [lw,←yg,Qf x y k,Mj,yg,yg]
theorem Ik (c:Zp p):∀k,pw c (p.toNat^k)=c
 | 0=>by rw [sz,Gn]
 | k+1=>by rw [lw,←yg,Ik c k,Dj]
end
section
variable {p:Int}
theorem abc (c:Zp p):∀n,Pol.C (pw c n)=pw (Pol.C c) n
 | 0=>rfl
 | n+1=>by rw [pw,Pol.C_mul,abc c n,pw]
end
section
variable {p:Int} [IsP p]
end
section
variable {p:Int}
theorem Ym {P:Fp p→Prop} (h0:P 0) (h:∀c a,P a→P (Pol.C c+Pol.X*a)):∀(n:Nat) (a:Fp p),a.lt n→P a
 | 0,a,ha=>by rw [Pol.lt_zero.1 ha]; exact h0
 | n+1,a,ha=>by
  obtain ⟨m,hm⟩:=a.fin
  let b:Fp p:=⟨fun i=>a.c (i+1),m,fun i hi=>hm _ (by omega)⟩
  have e:a=Pol.C (a.c 0)+Pol.X*b:=Pol.ext fun i=>by
   rw [Pol.c_add,Pol.c_C,Pol.c_Xmul];cases i with
   | zero=>rw [if_pos rfl,if_pos rfl,Gq.add_zero]
   | succ i=>rw [if_neg (by omega),if_neg (by omega),Gq.zero_add]; rfl
  rw [e];exact h _ _ (Ym h0 h n b fun i hi=>ha _ (by omega))
end
section
variable {p:Int} [IsP p]
theorem a6u {q:Fp p} (k:Nat) (h:pw (Quo.mk q Pol.X) (p.toNat^k)=Quo.mk q Pol.X) (x:Quo q):pw x (p.toNat^k)=x:=by
 obtain ⟨a,rfl⟩:=Quo.ex x;refine Ym (P:=fun a=>pw (Quo.mk q a) (p.toNat^k)=Quo.mk q a) ?_ (fun c a ha=>?_) _ a a.lt_len
 ·rw [Quo.mk_zero]
  have:=zb (p:=p) k;cases hn:p.toNat^k with
  | zero=>omega
  | succ n=>rw [pw,Gq.mul_zero]
 ·rw [Quo.mk_add,Quo.mk_mul,Qf,Ae,h,ha]
  congr 1
  rw [←Quo.mk_pow,←abc,Ik]
theorem Mn {K:Type} [CR K] (m:Nat) (g:Nat→K):∀n,jm (fun i=>(if i=m then 1 else 0)*g i) n=if m<n then g m else 0
 | 0=>by rw [if_neg (by omega)]; rfl
 | n+1=>by
  rw [jm,Mn m g n];rcases jp m n with h | h | h
  ·rw [if_pos h,if_neg (by omega),if_pos (by omega),Gq.zero_mul,Gq.add_zero]
  ·rw [if_neg (by omega),if_pos h.symm,if_pos (by omega),Gq.one_mul,Gq.zero_add,h]
  ·rw [if_neg (by omega),if_neg (by omega),if_neg (by omega),Gq.zero_mul,Gq.add_zero]
noncomputable def frT (p:Int) (k:Nat):Fp p:=pw Pol.X (p.toNat^k)-Pol.X
theorem a4d {q:Fp p} {k:Nat}:Dv q (frT p k)↔pw (Quo.mk q Pol.X) (p.toNat^k)=Quo.mk q Pol.X:=by
 rw [og,frT,Quo.mk_sub,Quo.mk_pow];exact ⟨fun h=>ru h,fun h=>by rw [h,sub_self]⟩
theorem Yv {q:Fp p} (hi:Irr q) {d:Nat} (hq:q.len=d+1) (hd:p^d<1000000000000):Dv q (frT p d):=a4d.2 (Nn hi hq hd _)
theorem Lj {q:Fp p} (hi:Irr q) {d k:Nat} (hq:q.len=d+1) (hd:p^d<1000000000000) (hk:0<k) (h:Dv q (frT p k)):d≤k:=by
 classical
 have hfix:=a6u k (a4d.1 h);have hone:(1:Quo q)≠0:=(abu hi).one_ne;have hP:2≤p.toNat:=by have:=IsP.ge (p:=p); omega
 have hne1:1<p.toNat^k:=Nat.one_lt_pow (by omega) hP
 have r:=U6 (fun x y e=>hi.quo_zero e) (p.toNat^k) (fun i=>(if i=p.toNat^k then (1:Quo q) else 0)-(if i=1 then 1 else 0)) ((0:Quo q)::Dp q d)
  (by rw [if_pos rfl,if_neg (by omega),sub_eq,qj,Gq.add_zero]; exact hone)
  (lj.2 ⟨fun h0=>(Nz hq hd 0).1 h0 rfl,Ge hq hd⟩)
  (fun y _=>by
   have e:(fun i=>((if i=p.toNat^k then (1:Quo q) else 0)-(if i=1 then 1 else 0))*pw y i)=fun i=>(if i=p.toNat^k then (1:Quo q) else 0)*pw y i+(if i=1 then 1 else 0) * -pw y i:=by
    funext i
    exact bo [(if i=p.toNat^k then (1:Quo q) else 0),(if i=1 then (1:Quo q) else 0),pw y i] rfl
   rw [e,Mt,Mn,Mn _ (fun i=>-pw y i),if_pos (by omega),if_pos (by omega),hfix,Gn,add_neg])
 have hl:(Dp q d).length=p.toNat^d-1:=by unfold Dp; rw [ap,gu]
 have hpos:=zb (p:=p) d;rw [bv,hl] at r;have:p.toNat^d≤p.toNat^k:=by omega
 exact (Nat.pow_le_pow_iff_right (by omega)).1 this
end
end Pe

namespace Pe
open Go Gq
section
variable {p:Int} [IsP p]
theorem T9:∀{l m:List Int},Can p l→Can p m→l.length<m.length→cf m (m.length-1)≠0→vl p l<vl p m
 | l,[],_,_,h,_=>by simp at h
 | l,d::m,hl,hm,h,hc=>by
  have hp:=IsP.pos (p:=p);have hd:=hm d (by simp)
  have hmc:Can p m:=fun x hx=>hm x (by simp [hx])
  cases l with
  | nil=>
   show 0<d+p*vl p m;have h2:=(a0u hmc).1;cases m with
   | nil=>
    have:d≠0:=hc;simp [vl]; omega
   | cons e m=>
    have h3:cf (e::m) ((e::m).length-1)≠0:=by simpa [cf] using hc
    have:=T9 (l:=[]) (m:=e::m) (fun x hx=>by simp at hx) hmc (by simp) h3
    have h5:0<p*vl p (e::m):=Int.mul_pos hp (by simpa [vl] using this)
    omega
  | cons c l=>
   have hlc:Can p l:=fun x hx=>hl x (by simp [hx])
   have hcc:=hl c (by simp)
   have h3:cf m (m.length-1)≠0:=by
    cases m with
    | nil=>simp at h
    | cons e m=>simpa [cf] using hc
   have:=T9 hlc hmc (by simpa using h) h3
   have h5:p*(vl p l+1)≤p*vl p m:=dl (by omega) (by omega)
   rw [uj,sb] at h5;show c+p*vl p l<d+p*vl p m;omega
end
section
variable {p:Int}
theorem a7y {a:Fp p} (h:a≠0):cf (row a) ((row a).length-1)≠0:=by
 rw [cg,gz];exact fun h0=>Pol.ld_ne h (g7.1 h0)
end
section
variable {p:Int} [IsP p]
theorem vk {a b:Fp p} (h:a.len<b.len):fw a<fw b:=T9 (k9 a) (k9 b) (by simpa using h) (a7y fun h0=>by rw [h0,Pol.len_zero] at h; omega)
theorem a7a:∀{l m:List Int},Can p l→Can p m→l.length=m.length→vl p l=vl p m→l=m
 | [],[],_,_,_,_=>rfl
 | [],_::_,_,_,h,_=>by simp at h
 | _::_,[],_,_,h,_=>by simp at h
 | c::l,d::m,hl,hm,h,e=>by
  have hp:=IsP.pos (p:=p);have hcc:=hl c (by simp)
  have hd:=hm d (by simp)
  have e2:c+p*vl p l=d+p*vl p m:=e
  have e3:c=d:=by
   have:=congrArg (· % p) e2
   simp only [pj] at this
   rwa [m6 hcc.1 hcc.2,m6 hd.1 hd.2] at this
  subst e3;have e4:p*vl p l=p*vl p m:=by omega
  rw [a7a (l:=l) (m:=m) (fun x hx=>hl x (by simp [hx])) (fun x hx=>hm x (by simp [hx])) (by simpa using h) (Int.eq_of_mul_eq_mul_left (by omega) e4)]
theorem Oj {a b:Fp p} (h:fw a=fw b):a=b:=by
 rcases jp a.len b.len with h1 | h1 | h1
 ·have:=vk h1; omega
 ·exact a9v (a7a (k9 a) (k9 b) (by simpa using h1) h)
 ·have:=vk h1; omega
abbrev ni (p:Int):=List (Fp p×Nat)
noncomputable def mp (L:ni p):Fp p:=qb (L.map fun x=>pw x.1 x.2)
structure FacOk (L:ni p):Prop where
 irr:∀x∈L,Irr x.1∧Monic x.1∧1≤x.2
 dis:L.Pairwise fun x y=>x.1≠y.1
structure IsFac (a:Fp p) (L:ni p):Prop where
 ok:FacOk L
 sorted:L.Pairwise fun x y=>fw x.1<fw y.1
 eq:a=Pol.C a.ld*mp L
end
section
variable {p:Int}
theorem tf (x:Fp p×Nat) (L:ni p):mp (x::L)=pw x.1 x.2*mp L:=rfl
end
section
variable {p:Int} [IsP p]
theorem Monic.pw {a:Fp p} (h:Monic a):∀n,Monic (pw a n)
 | 0=>Monic.one
 | n+1=>(Monic.pw h n).mul h
theorem Be {L:ni p} (h:FacOk L):Monic (mp L):=by
 induction L with
 | nil=>exact Monic.one
 | cons x L ih=>
  rw [tf];exact (Monic.pw (h.irr x (by simp)).2.1 _).mul (ih ⟨fun y hy=>h.irr y (by simp [hy]),(ep.1 h.dis).2⟩)
theorem Irr.pw_dv {q a:Fp p} (h:Irr q):∀n,Dv q (pw a n)→Dv q a
 | 0,hd=>by
  have h1:q.len≤(1:Fp p).len:=hd.len Pol.one_ne;have h2:=h.len;rw [Pol.len_one] at h1; omega
 | n+1,hd=>(h.prime hd).elim (Irr.pw_dv h n) id
theorem Su {q:Fp p} (hq:Irr q) (mq:Monic q):∀{L:ni p},FacOk L→Dv q (mp L)→∃k,(q,k)∈L
 | [],_,h=>by
  have h1:q.len≤(1:Fp p).len:=h.len Pol.one_ne;have h2:=hq.len;rw [Pol.len_one] at h1; omega
 | x::L,ok,h=>by
  rw [tf] at h;rcases hq.prime h with h1 | h1
  ·have h2:=Irr.pw_dv hq _ h1
   obtain ⟨i1,i2,_⟩:=ok.irr x (by simp)
   have:=hq.eq_of_dv i1 mq i2 h2;exact ⟨x.2,by rw [this]; simp⟩
  ·obtain ⟨k,hk⟩:=Su hq mq ⟨fun y hy=>ok.irr y (by simp [hy]),(ep.1 ok.dis).2⟩ h1
   exact ⟨k,by simp [hk]⟩
theorem Cr {q:Fp p} {k:Nat}:∀{L:ni p},FacOk L→(q,k)∈L→∃r,mp L=pw q k*r∧¬ Dv q r
 | x::L,ok,h=>by
  have ok':FacOk L:=⟨fun y hy=>ok.irr y (by simp [hy]),(ep.1 ok.dis).2⟩
  rw [tf];rcases dk.1 h with rfl | h
  ·refine ⟨mp L,rfl,fun hd=>?_⟩
   obtain ⟨i1,i2,_⟩:=ok.irr (q,k) (by simp)
   obtain ⟨k',hk⟩:=Su i1 i2 ok' hd;exact (ep.1 ok.dis).1 _ hk rfl
  ·obtain ⟨r,e,hn⟩:=Cr ok' h
   refine ⟨pw x.1 x.2*r,by rw [e,Gq.mul_left_comm],fun hd=>?_⟩
   obtain ⟨i1,i2,_⟩:=ok.irr (q,k) (by simp [h])
   obtain ⟨j1,j2,_⟩:=ok.irr x (by simp)
   rcases i1.prime hd with h1 | h1
   ·have h2:=Irr.pw_dv i1 _ h1
    have e:=i1.eq_of_dv j1 i2 j2 h2;exact (ep.1 ok.dis).1 _ h e.symm
   ·exact hn h1
theorem N6 {a:Fp p} (h:a≠0):∀n,pw a n≠0
 | 0=>Pol.one_ne
 | n+1=>Pol.mul_ne (N6 h n) h
theorem S9 {a:Fp p} (ha:a≠0) {L:ni p} (ok:FacOk L) (e:a=Pol.C a.ld*mp L) (q:Fp p) (k:Nat):(q,k)∈L↔Irr q∧Monic q∧1≤k∧Dv (pw q k) a∧¬ Dv (pw q (k+1)) a:=by
 have hld:=Pol.ld_ne ha
 have dvP:∀c,Dv c a↔Dv c (mp L):=fun c=>by
  constructor
  ·rintro ⟨x,hx⟩
   refine ⟨Pol.C (Fd.inv a.ld)*x,?_⟩
   have:mp L=Pol.C (Fd.inv a.ld)*a:=by
    rw [e];have e2:(Pol.C a.ld*mp L).ld=a.ld:=by rw [←e]
    rw [e2,←Gq.mul_assoc,Gq.mul_comm (Pol.C (Fd.inv _)),a5q hld,Gq.one_mul]
   rw [this];generalize Pol.C (Fd.inv a.ld)=k;rw [hx];exact bo [k,c,x] rfl
  ·intro h
   rw [e]; exact h.mul_left _
 constructor
 ·intro h
  obtain ⟨i1,i2,i3⟩:=ok.irr (q,k) h;obtain ⟨r,e2,hn⟩:=Cr ok h;refine ⟨i1,i2,i3,(dvP _).2 ⟨r,e2⟩,fun hd=>hn ?_⟩
  obtain ⟨y,hy⟩:=(dvP _).1 hd;rw [e2,pw,Gq.mul_assoc] at hy;exact ⟨y,Pol.mul_cancel (N6 i1.ne k) hy⟩
 ·rintro ⟨i1,i2,i3,h1,h2⟩
  have hq:Dv q a:=by
   obtain ⟨k,rfl⟩:∃j,k=j+1:=⟨k-1,by omega⟩
   exact Dv.trans ⟨pw q k,Gq.mul_comm _ _⟩ h1
  obtain ⟨k',hk'⟩:=Su i1 i2 ok ((dvP _).1 hq);obtain ⟨r,e2,hn⟩:=Cr ok hk'
  have:k=k':=by
   rcases jp k k' with h | h | h
   ·exfalso
    apply h2;rw [dvP,e2];obtain ⟨j,rfl⟩:=ia (show k+1≤k' from h);rw [Ht q (k+1) j];exact ((Dv.refl _).mul_right _).mul_right _
   ·exact h
   ·exfalso
    apply hn;obtain ⟨y,hy⟩:=(dvP _).1 h1;obtain ⟨j,rfl⟩:=ia (show k'+1≤k from h);rw [e2,Ht,pw,Gq.mul_assoc,Gq.mul_assoc] at hy;exact ⟨_,Pol.mul_cancel (N6 i1.ne k') hy⟩
  rw [this]; exact hk'
theorem H4 {α:Type} (f:α→Int):∀{l m:List α},l.Pairwise (fun x y=>f x<f y)→m.Pairwise (fun x y=>f x<f y)→(∀x,x∈l↔x∈m)→l=m
 | [],[],_,_,_=>rfl
 | [],y::m,_,_,h=>by have:=(h y).2 (by simp); simp at this
 | x::l,[],_,_,h=>by have:=(h x).1 (by simp); simp at this
 | x::l,y::m,hl,hm,h=>by
  obtain ⟨l1,l2⟩:=ep.1 hl;obtain ⟨m1,m2⟩:=ep.1 hm
  have e:x=y:=by
   rcases dk.1 ((h x).1 (by simp)) with h1 | h1
   ·exact h1
   ·rcases dk.1 ((h y).2 (by simp)) with h2 | h2
    ·exact h2.symm
    ·have:=m1 _ h1
     have:=l1 _ h2;omega
  subst e;rw [H4 f l2 m2 fun z=>?_]
  constructor
  ·intro hz
   rcases dk.1 ((h z).1 (by simp [hz])) with h1 | h1
   ·subst h1; have:=l1 _ hz; omega
   ·exact h1
  ·intro hz
   rcases dk.1 ((h z).2 (by simp [hz])) with h1 | h1
   ·subst h1; have:=m1 _ hz; omega
   ·exact h1
theorem IsFac.unique {a:Fp p} (ha:a≠0) {L L':ni p} (h:IsFac a L) (h':IsFac a L'):L=L':=
 H4 (fun x=>fw x.1) h.sorted h'.sorted fun x=>by
  obtain ⟨q,k⟩:=x;rw [S9 ha h.ok h.eq,S9 ha h'.ok h'.eq]
def Bz (n:Nat) (a:Fp p):Prop:=∀q,Irr q→Dv q a→n+1≤q.len
theorem Bu {a:Fp p} {n:Nat} (h:Bz n a) (hl:2≤a.len) (hs:a.len<2*n+1):Irr a:=by
 refine Irr.of_dv hl fun u hu=>?_
 have ha:a≠0:=fun h0=>by rw [h0,Pol.len_zero] at hl; omega
 obtain ⟨v,rfl⟩:=hu;have hu0:u≠0:=fun h0=>ha (by rw [h0,Gq.zero_mul])
 have hv0:v≠0:=fun h0=>ha (by rw [h0,Gq.mul_zero])
 have l:=Pol.len_mul hu0 hv0;have l1:=Pol.len_pos hu0;have l2:=Pol.len_pos hv0;apply dd;intro hx;have hu2:2≤u.len:=by omega
 have hv2:2≤v.len:=by omega
 obtain ⟨q,q1,_,q2⟩:=Hv u.len u (ba _) hu2;obtain ⟨r,r1,_,r2⟩:=Hv v.len v (ba _) hv2;have s1:=h q q1 (q2.mul_right v);have s2:=h r r1 (r2.mul_left u);have s3:=q2.len hu0;have s4:=r2.len hv0;omega
theorem Uu (a:Fp p):Bz 1 a:=fun _q h _=>h.len
theorem Yh {a b:Fp p} {n:Nat} (h:Bz n a) (hd:Dv b a):Bz n b:=fun q hq hb=>h q hq (hb.trans hd)
end
end Pe

namespace Pe
open Go Gq
variable {T:Nat→Option Fn} {A:ah}
def C9 (O:ah) (F:Nat):Prop:=∀x:Int,ask O F [(D.int .i64 x)]=some (D.bool false)
theorem a91 (hT:T F2=some Z2):C9 (den T A) F2:=fun x=>by
 refine bi hT rfl ?_;simp -implicitDefEqProofs [Z2,Z2_B]
theorem a28 (hT:T F3=some Z3):C9 (den T A) F3:=fun x=>by
 refine bi hT rfl ?_;simp -implicitDefEqProofs [Z3,Z3_B]
def qd (x y:Int):Int:=if x<y then -1 else if y<x then 1 else 0
def rj (O:ah) (F:Nat):Prop:=∀x y:Int,ask O F [(D.int .i64 x),(D.int .i64 y)]=some (D.int .i64 (qd x y))
theorem Xd (hT:T F0=some Z0) (h:C9 (den T A) F2):rj (den T A) F0:=fun x y=>by
 have e1:=h x;have e2:=h y;refine bi hT rfl ?_;unfold qd
 by_cases h1:x<y
 ·simp -implicitDefEqProofs [Z0,Z0_B,e1,e2,h1,ac]
 ·by_cases h2:y<x
  ·simp -implicitDefEqProofs [Z0,Z0_B,e1,e2,h1,h2,ac]
  ·simp -implicitDefEqProofs [Z0,Z0_B,e1,e2,h1,h2,ac]
theorem Sm (hT:T F1=some Z1) (h:C9 (den T A) F3):rj (den T A) F1:=fun x y=>by
 have e1:=h x;have e2:=h y;refine bi hT rfl ?_;unfold qd
 by_cases h1:x<y
 ·simp -implicitDefEqProofs [Z1,Z1_B,e1,e2,h1,ac]
 ·by_cases h2:y<x
  ·simp -implicitDefEqProofs [Z1,Z1_B,e1,e2,h1,h2,ac]
  ·simp -implicitDefEqProofs [Z1,Z1_B,e1,e2,h1,h2,ac]
def H8 (l m:List Int):Nat→Int
 | 0=>0
 | n+1=>if qd (cf l n) (cf m n)≠0 then qd (cf l n) (cf m n) else H8 l m n
theorem Ql {O:ah} (hc:rj O F1) {l m:List Int} (hlm:l.length=m.length) (hl:l.length<1000000):∀n:Nat,n≤l.length →
 dn O 0 (.loop Zl_L0) ⟨[(0,(.d (.sl .leaf (ab .i64 l)))),(1,(.d (.sl .leaf (ab .i64 m)))),(6,(.d (.int .i64 ((n:Int)-1))))],[]⟩ =
  if H8 l m n=0 then some (.exit 0,⟨[(0,(.d (.sl .leaf (ab .i64 l)))),(1,(.d (.sl .leaf (ab .i64 m)))),(6,(.d (.int .i64 (-1)))),(20,(.d (.bool false)))],[]⟩) else some (.ret,⟨[(4,(.d (.int .i64 (H8 l m n))))],[]⟩)
 | 0,hn=>by
  simp only [H8,if_true];exact bt (by simp -implicitDefEqProofs [Zl_L0,ac])
 | n+1,hn=>by
  have t0:(((n+1:Nat):Int)-1)=(n:Int):=by omega
  rw [t0];have h1:n<l.length:=by omega
  have h2:n<m.length:=by omega
  have e1:l[n]? = some (cf l n):=by rw [au h1,fj h1]
  have e2:m[n]? = some (cf m n):=by rw [au h2,fj h2]
  have e1':l[n]=cf l n:=(fj h1).symm;have e2':m[n]=cf m n:=(fj h2).symm;have e3:=hc (cf l n) (cf m n);have w1:IntKind.i64.wrap ((n:Int)-1)=(n:Int)-1:=w64 (by omega)
  by_cases h0:qd (cf l n) (cf m n)=0
  ·rw [h0] at e3
   have e:H8 l m (n+1)=H8 l m n:=if_neg (fun h=>h h0)
   rw [e];refine bm ?_ (Ql hc hlm hl n (by omega))
   simp -implicitDefEqProofs [Zl_L0,ac,h1,h2,e1',e2',e3,w1]
  ·have e:H8 l m (n+1)=qd (cf l n) (cf m n):=if_pos h0
   rw [e,if_neg h0];refine lq ?_;simp -implicitDefEqProofs [Zl_L0,ac,h1,h2,e1',e2',e3,h0]
def aa8 (l m:List Int):Int:=if qd l.length m.length≠0 then qd l.length m.length else H8 l m l.length
def Ca (O:ah):Prop:=∀l m:List Int,l.length<1000000→m.length<1000000→ask O Fl [(D.sl .leaf (ab .i64 l)),(D.sl .leaf (ab .i64 m))]=some (D.int .i64 (aa8 l m))
theorem a2f (hT:T Fl=some Zl) (h1:rj (den T A) F0) (h2:rj (den T A) F1):Ca (den T A):=by
 intro l m hl hm;have e1:=h1 l.length m.length;unfold aa8;refine bi hT rfl ?_
 by_cases h0:qd l.length m.length=0
 ·have hlm:l.length=m.length:=by
   unfold qd at h0
   split at h0
   ·omega
   ·split at h0 <;> omega
  rw [if_neg (fun h=>h h0)]
  rw [h0] at e1;have e2:=Ql h2 hlm hl l.length (ba _);have w1:IntKind.i64.wrap ((l.length:Int)-1)=(l.length:Int)-1:=w64 (by omega)
  by_cases hz:H8 l m l.length=0
  ·rw [if_pos hz] at e2
   simp -implicitDefEqProofs [Zl,Zl_B,ac,e1,e2,w1,hz]
  ·rw [if_neg hz] at e2
   simp -implicitDefEqProofs [Zl,Zl_B,ac,e1,e2,w1]
 ·rw [if_pos h0]
  simp -implicitDefEqProofs [Zl,Zl_B,ac,e1,h0]
section
variable (f:D→Int)
def yb:List D→D→List D→List D
 | [],x,R=>x::R
 | y::L,x,R=>if f x<f y then yb L x (y::R) else (y::L).reverse++x::R
def Gm:List D→List D→List D
 | P,[]=>P
 | P,x::r=>Gm (yb f P.reverse x []) r
theorem Mh:∀(L:List D) (x:D) (R S:List D),yb f L x (R++S)=yb f L x R++S
 | [],x,R,S=>rfl
 | y::L,x,R,S=>by
  unfold yb
  split
  ·rw [←gq,Mh L x (y::R) S]
  ·simp
theorem za:∀(L:List D) (x:D) (R:List D),(yb f L x R).Perm (x::(L.reverse++R))
 | [],x,R=>.refl _
 | y::L,x,R=>by
  unfold yb
  split
  ·refine (za L x (y::R)).trans ?_
   simp
  ·exact List.perm_middle
theorem Ti (L:List D) (x:D) (R:List D):(yb f L x R).length=L.length+R.length+1:=by
 have:=(za f L x R).length_eq
 simpa using this
def Asc (l:List D):Prop:=l.Pairwise fun x y=>f x≤f y
theorem Uo:∀(L:List D) (x:D) (R:List D),Asc f (L.reverse++R)→(∀y∈R,f x≤f y)→Asc f (yb f L x R)
 | [],x,R,h,hx=>by
  unfold yb Asc;refine ep.2 ⟨hx,?_⟩;have h':Asc f R:=by simpa using h
  exact h'
 | y::L,x,R,h,hx=>by
  unfold yb
  split
  ·rename_i hlt
   refine Uo L x (y::R) (by simpa using h) fun z hz=>?_
   rcases dk.1 hz with rfl | hz
   ·omega
   ·exact hx z hz
  ·rename_i hlt
   unfold Asc at h ⊢;rw [i9] at h ⊢;refine ⟨h.1,ep.2 ⟨hx,h.2.1⟩,fun a ha b hb=>?_⟩
   rcases dk.1 hb with rfl | hb
   ·have hay:f a≤f y:=by
     have h1:=h.1;rw [List.reverse_cons,i9] at h1;rw [List.reverse_cons] at ha;rcases bp.1 ha with ha | ha
     ·exact h1.2.2 a ha y (by simp)
     ·simp at ha; rw [ha]; exact xr _
    omega
   ·exact h.2.2 a ha b hb
theorem Hu:∀(r P:List D),(Gm f P r).Perm (P++r)
 | [],P=>by simp [Gm]
 | x::r,P=>by
  unfold Gm;refine (Hu r _).trans ?_;have:=za f P.reverse x [];refine (List.Perm.append_right r this).trans ?_;simp;exact List.perm_middle.symm
theorem Na:∀(r P:List D),Asc f P→Asc f (Gm f P r)
 | [],P,h=>h
 | x::r,P,h=>by
  unfold Gm;exact Na r _ (Uo f P.reverse x [] (by simpa using h) (by simp))
end
section
variable {O:ah} {g:Nat} {first caps:List D}
abbrev mf:Sh:=.st [.leaf,.leaf]
structure CmpOk (O:ah) (g:Nat) (first caps:List D) (f:D→Int) (s:Sh) (cs:List D):Prop where
 nf:Aj first
 nc:Aj caps
 nx:Aj cs
 sh:D0 s cs
 ask:∀x∈cs,∀y∈cs,ask O g (first++[x,y]++caps)=some (D.int .i64 (qd (f x) (f y)))
theorem CmpOk.perm {f:D→Int} {s:Sh} {cs ds:List D} (h:CmpOk O g first caps f s cs) (p:ds.Perm cs):CmpOk O g first caps f s ds:=
 ⟨h.nf,h.nc,fun x hx=>h.nx x (p.subset hx),fun x hx=>h.sh x (p.subset hx),fun x hx y hy=>h.ask x (p.subset hx) y (p.subset hy)⟩
theorem CmpOk.call {f:D→Int} {s:Sh} {cs:List D} (h:CmpOk O g first caps f s cs) {hp:Heap} {np:Nat} {news:List Nat} {x y:D} (hx:x∈cs) (hy:y∈cs) :
 Ef O np hp .flat news (g,first.map .d,caps.map .d) [.d x,.d y]=some (.d (D.int .i64 (qd (f x) (f y))),hp):=by
 have e:pq hp (first.map .d++[.d x,.d y]++caps.map .d)=some (first++[x,y]++caps):=
  xd hp (xd hp (oa hp h.nf) (oa hp (ds:=[x,y]) (by intro z hz; simp at hz; rcases hz with rfl | rfl; exact h.nx _ hx; exact h.nx _ hy))) (oa hp h.nc)
 rw [E2,e,ae,Ng,h.ask x hx y hy,ae,Hd,show (D.int IntKind.i64 (qd (f x) (f y))).flat=true from rfl,if_pos rfl]
theorem Ud (x y:Int):qd x y<0↔x<y:=by
 unfold qd
 split
 ·omega
 ·split <;> omega
theorem a7h {f:D→Int} {n:Nat} {cp:Option Nat} (hn:n≤1000) {i:Nat}:∀(L:List D) (x:D) (R:List D),(L.reverse++x::R).length=n→CmpOk O g first caps f mf (L.reverse++x::R)→∃j:Int,
 dn O 1 (.loop Z2w_L0) ⟨[(0,.sl 0 [] 0 n cp),(1,(.d (.int .i64 0))),(2,(.d (.int .i64 n))),(3,.d (.fn g first caps)),(8,(.d (.int .i64 i))),(9,(.d (.int .i64 L.length)))],[.sl false mf (L.reverse++x::R)]⟩ =
  some (.exit 2,⟨[(0,.sl 0 [] 0 n cp),(1,(.d (.int .i64 0))),(2,(.d (.int .i64 n))),(3,.d (.fn g first caps)),(8,(.d (.int .i64 i))),(9,(.d (.int .i64 j))),(34,(.d (.bool false)))],[.sl false mf (yb f L x R)]⟩)
 | [],x,R,hl,ok=>by
  refine ⟨0,bt ?_⟩;simp -implicitDefEqProofs [Z2w_L0,ac,yb]
 | y::L,x,R,hl,ok=>by
  have hj:(y::L).length=L.length+1:=rfl;have hlen:((y::L).reverse++x::R).length=L.length+1+(R.length+1):=by simp; omega
  have e1:((y::L).reverse++x::R)[L.length+1]? = some x:=by
   rw [ci (by simp)]; simp
  have e2:((y::L).reverse++x::R)[L.length]? = some y:=by
   rw [cd (by simp)]; simp
  have m1:x∈(y::L).reverse++x::R:=by simp
  have m2:y∈(y::L).reverse++x::R:=by simp
  have c:=ok.call (hp:=[.sl false mf ((y::L).reverse++x::R)]) (np:=1) (news:=[]) m1 m2;have s1:=ok.sh x m1;have s2:=ok.sh y m2;have n1:=ok.nx x m1;have n2:=ok.nx y m2
  have e3:(((y::L).reverse++x::R).set (L.length+1) y).set L.length x=L.reverse++x::y::R:=by
   rw [ou _ _ (by simp),List.set_append_left _ _ (by simp)]
   simp
  have hp:((y::L).reverse++x::R).Perm (L.reverse++x::y::R):=by
   simp;exact (List.Perm.swap x y R).append_left _
  have w1:IntKind.i64.wrap (L.length:Int)=L.length:=w64 (by omega)
  have h0:(0:Int)<(L.length:Int)+1:=by omega
  have h00:(0:Int)≤(L.length:Int)+1:=by omega
  have h1:L.length+1<n:=by omega
  have h2:L.length<n:=by omega
  have h3:L.length<((y::L).reverse++x::R).length:=by omega
  have h4:L.length+1<((y::L).reverse++x::R).length:=by omega
  have e4:(((y::L).reverse++x::R).set (L.length+1) y)[L.length]? = some y:=by
   rw [ce (by omega),e2]
  unfold yb;rw [hj,show ((L.length+1:Nat):Int)=(L.length:Int)+1 by omega]
  generalize (y::L).reverse++x::R=cs at *;have e1':cs[L.length+1]=x:=by rw [au h4] at e1; exact bc e1
  have e2':cs[L.length]=y:=by rw [au h3] at e2; exact bc e2
  by_cases hlt:f x<f y
  ·rw [if_pos hlt]
   obtain ⟨j,e⟩:=a7h hn L x (y::R) (by rw [←hp.length_eq]; omega) (ok.perm hp.symm)
   have hc:=(Ud (f x) (f y)).2 hlt;refine ⟨j,bm ?_ e⟩;simp -implicitDefEqProofs [Z2w_L0,ac,h0,h00,h1,h2,h3,h4,e1',e2',c,s1,s2,n1,n2,w1,hc,e3]
  ·rw [if_neg hlt]
   have hc:=mt (Ud (f x) (f y)).1 hlt;refine ⟨(L.length:Int)+1,bt ?_⟩;simp -implicitDefEqProofs [Z2w_L0,ac,h0,h00,h1,h2,h3,h4,e1',e2',c,s1,s2,w1,hc]
end
theorem a8f {O:ah} {g:Nat} {first caps:List D} {f:D→Int} {n:Nat} {cp:Option Nat} (hn:n≤1000):∀(r P:List D),P.length+r.length=n→0<P.length→CmpOk O g first caps f mf (P++r) →
 dn O 1 (.loop Z2w_L1) ⟨[(0,.sl 0 [] 0 n cp),(1,(.d (.int .i64 0))),(2,(.d (.int .i64 n))),(3,.d (.fn g first caps)),(8,(.d (.int .i64 P.length)))],[.sl false mf (P++r)]⟩ =
  some (.exit 0,⟨[(0,.sl 0 [] 0 n cp),(1,(.d (.int .i64 0))),(2,(.d (.int .i64 n))),(3,.d (.fn g first caps)),(8,(.d (.int .i64 n))),(14,(.d (.bool false)))],[.sl false mf (Gm f P r)]⟩)
 | [],P,hl,hP,ok=>by
  have hl':P.length=n:=by simpa using hl
  refine bt ?_;simp -implicitDefEqProofs [Z2w_L1,ac,Gm,hl']
 | x::r,P,hl,hP,ok=>by
  simp at hl;have e0:P.reverse.reverse++x::r=P++x::r:=by simp
  obtain ⟨j,e⟩:=a7h (O:=O) (g:=g) (first:=first) (caps:=caps) (f:=f) (n:=n) (cp:=cp) hn (i:=P.length) P.reverse x r (by simp; omega) (by rw [e0]; exact ok)
  rw [e0,qf,←eh r,Mh,eh] at e;have hlen:=Ti f P.reverse x [];rw [qf,cw,kb] at hlen
  have hperm:(yb f P.reverse x []++r).Perm (P++x::r):=by
   refine (List.Perm.append_right r (za f P.reverse x [])).trans ?_;simp;exact List.perm_middle.symm
  have ih:=a8f (O:=O) (g:=g) (first:=first) (caps:=caps) (f:=f) (cp:=cp) hn r (yb f P.reverse x []) (by rw [hlen]; omega) (by omega) (ok.perm hperm)
  have hlt:P.length<n:=by omega
  have w1:IntKind.i64.wrap ((P.length:Int)+1)=((P.length+1:Nat):Int):=(w64 (x:=(P.length:Int)+1) (by omega)).trans (by omega)
  rw [hlen] at ih;unfold Gm;refine bm ?_ ih;simp -implicitDefEqProofs [Z2w_L1,ac,hlt,e,w1]
def aea (O:ah) (F:Nat) (args:V→List V→List V):Prop:=∀(g:Nat) (first caps:List D) (f:D→Int) (cs:List D) (cp:Option Nat),cs.length≤12→CmpOk O g first caps f mf cs →
 ∃ds:List D,ds.Perm cs∧Asc f ds∧O F (args (.sl 0 [] 0 cs.length cp) [(.d (.int .i64 cs.length)),.d (.fn g first caps)]) [.sl false mf cs]=some (.tup [],[.sl false mf ds],[])
def xq (O:ah):Prop:=aea O F2w fun s l=>[s,(.d (.int .i64 0))]++l
theorem Ub (hT:T F2w=some Z2w):xq (den T A):=by
 intro g first caps f cs cp hl ok;cases cs with
 | nil=>
  refine ⟨[],.refl _,List.Pairwise.nil,jh hT rfl ?_⟩;have st:=bt (O:=den T A) (np:=1) (c:=Z2w_L1) (s:=⟨[(0,.sl 0 [] 0 0 cp),(1,(.d (.int .i64 0))),(2,(.d (.int .i64 0))),(3,.d (.fn g first caps)),(8,(.d (.int .i64 1)))],[.sl false mf []]⟩) (s1:=⟨[(0,.sl 0 [] 0 0 cp),(1,(.d (.int .i64 0))),(2,(.d (.int .i64 0))),(3,.d (.fn g first caps)),(8,(.d (.int .i64 1))),(14,(.d (.bool false)))],[.sl false mf []]⟩) (id:=0) (by simp -implicitDefEqProofs [Z2w_L1,ac])
  have w1:IntKind.i64.wrap 1=1:=w64 (by omega)
  simp -implicitDefEqProofs [Z2w,Z2w_B,st,w1]
 | cons x r=>
  have e:=a8f (O:=den T A) (g:=g) (first:=first) (caps:=caps) (f:=f) (n:=(x::r).length) (cp:=cp) (by omega) r [x] (by simp; omega) (by simp) ok
  have e1:(([x]:List D).length:Int)=1:=rfl;rw [e1] at e;refine ⟨Gm f [x] r,Hu f r [x],Na f r [x] (fc _ _),jh hT rfl ?_⟩;have w1:IntKind.i64.wrap 1=1:=w64 (by omega)
  rw [List.singleton_append] at e;generalize x::r=cs at *;simp -implicitDefEqProofs [Z2w,Z2w_B,e,w1]
def zj (O:ah) (F:Nat):Prop:=∀n:Nat,n≤12→∃v:Int,ask O F [.int .u64 n]=some (D.int .i64 v)
theorem aa2 (hT:T F2g=some Z2g):zj (den T A) F2g:=by
 intro n hn
 have key:∀v:Int,run (fun _ _ _=>none) 1 Z2g [.d (.int .u64 n)] []=some ((.d (.int .i64 v)),[],[])→ask (den T A) F2g [.int .u64 n]=some (D.int .i64 v):=by
  intro v h
  have h2:=T2 (A:=A) hT (n:=1) (vs:=[.d (.int .u64 n)]) (bs:=[]) (ans:=((.d (.int .i64 v)),[],[])) (by
   obtain ⟨qs,h3,h4⟩:=Cy h;cases qs with
   | nil=>exact h4 _ (by intro q hq; simp at hq)
   | cons q qs=>exact absurd (h3 q (by simp)) (by simp))
  unfold ask;rw [show ([D.int .u64 n]:List D).map V.d=[.d (.int .u64 n)] from rfl,h2];rfl
 have h:n=0∨n=1∨n=2∨n=3∨n=4∨n=5∨n=6∨n=7∨n=8∨n=9∨n=10∨n=11∨n=12:=by omega
 rcases h with rfl | rfl | rfl | rfl | rfl | rfl | rfl | rfl | rfl | rfl | rfl | rfl | rfl
 ·exact ⟨0,key 0 (by kernel_rfl)⟩
 ·exact ⟨1,key 1 (by kernel_rfl)⟩
 ·exact ⟨2,key 2 (by kernel_rfl)⟩
 ·exact ⟨2,key 2 (by kernel_rfl)⟩
 ·exact ⟨3,key 3 (by kernel_rfl)⟩
 ·exact ⟨3,key 3 (by kernel_rfl)⟩
 ·exact ⟨3,key 3 (by kernel_rfl)⟩
 ·exact ⟨3,key 3 (by kernel_rfl)⟩
 ·exact ⟨4,key 4 (by kernel_rfl)⟩
 ·exact ⟨4,key 4 (by kernel_rfl)⟩
 ·exact ⟨4,key 4 (by kernel_rfl)⟩
 ·exact ⟨4,key 4 (by kernel_rfl)⟩
 ·exact ⟨4,key 4 (by kernel_rfl)⟩
theorem ah9 (hT:T F2e=some Z2e) (h:zj (den T A) F2g):zj (den T A) F2e:=by
 intro n hn;obtain ⟨v,e⟩:=h n hn;refine ⟨v,bi hT rfl ?_⟩;simp -implicitDefEqProofs [Z2e,Z2e_B,ac,e]
theorem ahh (hT:T F3b=some Z3b) (hi:xq (den T A)):∀(g:Nat) (first caps:List D) (f:D→Int) (cs:List D) (cp:Option Nat) (v:Int),cs.length≤12→CmpOk (den T A) g first caps f mf cs →
 ∃ds:List D,ds.Perm cs∧Asc f ds∧den T A F3b [.sl 0 [] 0 cs.length cp,(.d (.int .i64 0)),(.d (.int .i64 cs.length)),(.d (.int .i64 v)),.d (.fn g first caps)] [.sl false mf cs]=some (.tup [],[.sl false mf ds],[]):=by
 intro g first caps f cs cp v hl ok;obtain ⟨ds,h1,h2,e⟩:=hi g first caps f cs cp hl ok;refine ⟨ds,h1,h2,jh hT rfl ?_⟩;have w1:IntKind.i64.wrap (cs.length:Int)=cs.length:=w64 (by omega)
 have h12:(cs.length:Int)≤12:=by omega
 have lp:=lq (O:=den T A) (np:=1) (c:=Z3b_L0) (s:=⟨[(0,.sl 0 [] 0 cs.length cp),(1,(.d (.int .i64 0))),(2,(.d (.int .i64 cs.length))),(3,(.d (.int .i64 v))),(4,.d (.fn g first caps)),(10,(.d (.bool true))),(11,(.d (.bool true)))],[.sl false mf cs]⟩) (s1:=⟨[],[.sl false mf ds]⟩) (by
  simp at e;simp -implicitDefEqProofs [Z3b_L0,ac,w1,h12,e,List.idxOf,List.findIdx,List.findIdx.go])
 simp -implicitDefEqProofs [Z3b,Z3b_B,lp]
def E1 (O:ah):Prop:=∀(g:Nat) (first caps:List D) (f:D→Int) (cs:List D) (cp:Option Nat),cs.length≤12→CmpOk O g first caps f mf cs →
 ∃ds:List D,ds.Perm cs∧Asc f ds∧O F2o [.sl 0 [] 0 cs.length cp,.d (.fn g first caps)] [.sl false mf cs]=some (.tup [],[.sl false mf ds],[])
theorem X3 (hT:T F2o=some Z2o) (hTp:T F3b=some Z3b) (hi:xq (den T A)) (hl:zj (den T A) F2e):E1 (den T A):=by
 intro g first caps f cs cp hl12 ok;obtain ⟨v,ev⟩:=hl cs.length hl12;obtain ⟨ds,h1,h2,e⟩:=ahh hTp hi g first caps f cs cp v hl12 ok;refine ⟨ds,h1,h2,jh hT rfl ?_⟩
 have w1:IntKind.u64.wrap (cs.length:Int)=cs.length:=by
  simp [IntKind.wrap,IntKind.bits,IntKind.signed]; omega
 simp -implicitDefEqProofs [Z2o,Z2o_B,w1,ev,e,List.idxOf,List.findIdx,List.findIdx.go]
end Pe

namespace Pe
open Go Gq
variable {T:Nat→Option Fn} {A:ah}
theorem Yu {O:ah} (hd:wy O) {p:Int} [IsP p] {b:Fp p} (hb:2≤b.len) (hbl:b.len<2000):∀(n:Nat) (a:Fp p) (i:Nat),a.len≤n→a≠0→n<2000→i+n<100000→∃(k:Nat) (r:Fp p),a=r*pw b k∧¬ Dv b r ∧
 dn O 0 (.loop Z1q_L0) ⟨[(0,(.d (.int .i64 p))),(1,(.d (.sl .leaf (ab .i64 (row a))))),(2,(.d (.sl .leaf (ab .i64 (row b))))),(8,(.d (.int .i64 i)))],[]⟩=some (.ret,⟨[(6,(.d (.sl .leaf (ab .i64 (row r))))),(7,(.d (.int .i64 ((i+k:Nat)))))],[]⟩)
 | 0,a,i,hn,ha,_,_=>absurd (Pol.len_zero_iff.1 (by omega)) ha
 | n+1,a,i,hn,ha,hn2,hi=>by
  have hb0:b≠0:=fun h=>by rw [h,Pol.len_zero] at hb; omega
  have e:=hd p a b hb0 (by omega) (by omega)
  by_cases h0:a%b=0
  ·have hm:=Pol.div_mod a b
   rw [h0,Gq.add_zero] at hm;have hq:a/b≠0:=fun h=>ha (by rw [hm,h,Gq.zero_mul])
   have hl:=Pol.len_mul hq hb0;rw [←hm] at hl;obtain ⟨k,r,e1,e2,e3⟩:=Yu hd hb hbl n (a/b) (i+1) (by omega) hq (by omega) (by omega)
   refine ⟨k+1,r,?_,e2,?_⟩
   ·rw [pw,←Gq.mul_assoc,←e1]; exact hm
   ·have w1:IntKind.i64.wrap ((i:Int)+1)=((i+1:Nat):Int):=(w64 (x:=(i:Int)+1) (by omega)).trans (by omega)
    rw [show i+(k+1)=i+1+k by omega]
    refine bm ?_ e3;simp -implicitDefEqProofs [Z1q_L0,ac,e,h0,dq,w1]
  ·refine ⟨0,a,(Gq.mul_one a).symm,fun hdv=>h0 ((A1 hb0).1 hdv),lq ?_⟩
   have hp:=Pol.len_pos h0;simp -implicitDefEqProofs [Z1q_L0,ac,e,hp]
def El (O:ah):Prop:=∀(p:Int) [IsP p] (a b:Fp p),a≠0→2≤b.len→a.len<1000→b.len<1000→∃(k:Nat) (r:Fp p),a=r*pw b k∧¬ Dv b r ∧
 ask O F1q [(D.int .i64 p),(D.sl .leaf (ab .i64 (row a))),(D.sl .leaf (ab .i64 (row b)))]=some (.tup [(D.sl .leaf (ab .i64 (row r))),(D.int .i64 k)])
theorem abj (hT:T F1q=some Z1q) (hd:wy (den T A)):El (den T A):=by
 intro p i a b ha hb hal hbl;obtain ⟨k,r,h1,h2,e⟩:=Yu hd hb (by omega) a.len a 0 (ba _) ha (by omega) (by omega)
 have e0:((0:Nat):Int)=0:=rfl;rw [e0,bn] at e;refine ⟨k,r,h1,h2,bi hT rfl ?_⟩;simp -implicitDefEqProofs [Z1q,Z1q_B,e]
section
variable {p:Int} [IsP p]
theorem u7 {n:Nat} (h:n≤12):p^n≤13841287201:=by
 have hp:=IsP.pos (p:=p);have h1:=n5 (p:=p) (by omega) h
 have h2:p^12≤13841287201:=by
  rcases (inferInstance:IsP p).h with rfl | rfl | rfl | rfl <;> decide
 omega
theorem p7 (n:Nat):0<p^n:=Int.pow_pos (IsP.pos)
theorem Pj (n:Nat):2*p^n≤p^(n+1):=by
 have hp:=IsP.ge (p:=p);rw [je,kc];exact dl hp (Int.le_of_lt (p7 n))
theorem M8 {most:Int}:∀(n:Nat) (out:Int),0<out→out*p^n≤most→J6 p most n out=out*p^n
 | 0,out,h0,h=>by rw [Int.pow_zero,sb]; rfl
 | n+1,out,h0,h=>by
  have hp:=IsP.pos (p:=p);have e:out*p^(n+1)=out*p*p^n:=by rw [je,ye,kc p]
  rw [e] at h ⊢;have h1:1≤p^(n+1):=p7 (n+1);have h2:out*1≤out*p^(n+1):=dl h1 (by omega)
  rw [e] at h2;rw [J6,if_neg (by omega)]
  exact M8 n (out*p) (Int.mul_pos h0 hp) h
theorem Dn {n:Nat} (hn:n≤12) {k:Int} (h1:p^n≤k) (h2:k<2*p^n):Monic (jb p k)∧(jb p k).len=n+1:=by
 have hp:=IsP.ge (p:=p);have hb:=u7 (p:=p) hn;have hpos:=p7 (p:=p) n;have ok:G1 k:=⟨by omega,by omega⟩
 have hs:=Pj (p:=p) n;have hlt:=G0 (p:=p) ok (d:=n+1) (by omega)
 have hc:(jb p k).c n=1:=by
  rw [Qp ok]
  have:k/p^n=1:=by
   have e:k=(k-p^n)+p^n:=by omega
   rw [e,Int.add_ediv_of_dvd_right (Int.dvd_refl _),Int.ediv_self (by omega),t5 (by omega) (by omega)]; rfl
  rw [this]; rfl
 have hl:=Pol.len_eq hlt (by rw [hc]; exact Fd.one_ne)
 refine ⟨⟨?_,fun h0=>by rw [h0,Pol.len_zero] at hl; omega⟩,hl⟩
 unfold Pol.ld;rw [hl]; exact hc
theorem ue {n:Nat} (_hn:n≤12) {q:Fp p} (hq:Monic q) (hl:q.len=n+1):p^n≤fw q∧fw q<2*p^n:=by
 have hp:=IsP.ge (p:=p);have hpos:=p7 (p:=p) n;have h1:=Ap q;have h2:=a5n (k9 q) n;have h3:q.c n=1:=by have:=hq.1; unfold Pol.ld at this; rwa [hl] at this
 rw [gz,h3,zt] at h2
 have h4:fw q/p^n<p:=by
  apply kv hpos;rw [hl,je,kc] at h1;exact h1.2
 have h5:0≤fw q/p^n:=qv h1.1 (by omega)
 have h6:fw q/p^n=1:=by
  have:fw q/p^n%p=fw q/p^n:=m6 h5 h4;have h7:(1:Int)=fw q/p^n%p:=h2;omega
 have h8:=Int.mul_ediv_add_emod (fw q) (p^n);rw [h6,sb] at h8;have h9:=dt (fw q) (show p^n≠0 by omega)
 have h10:=cz (fw q) hpos;omega
theorem No {n:Nat} (hn:n≤12) {q:Fp p} (hq:Monic q) (hl:q.len=n+1):jb p (fw q)=q:=Ee (by
 have:=ue hn hq hl;have:=u7 (p:=p) hn;omega)
theorem a54 {O:ah} (hnu:tj O) (hr:Bw O) {a:Fp p} (hal:a.len<1000) {n:Nat} (hn:n≤12):∀(m:Nat) (k:Int),p^n≤k→k<2*p^n→(2*p^n-k).toNat≤m→(∃k0,k≤k0∧k0<2*p^n∧Dv (jb p k0) a)→∃b:Fp p,Monic b∧b.len=n+1∧Dv b a ∧
 dn O 0 (.loop Z1s_L0) ⟨[(0,(.d (.int .i64 p))),(1,(.d (.sl .leaf (ab .i64 (row a))))),(7,(.d (.int .i64 (p^n)))),(8,(.d (.int .i64 k)))],[]⟩=some (.ret,⟨[(6,(.d (.sl .leaf (ab .i64 (row b)))))],[]⟩)
 | 0,k,h1,h2,hm,hx=>by omega
 | m+1,k,h1,h2,hm,hx=>by
  have hb:=u7 (p:=p) hn;have hpos:=p7 (p:=p) n;obtain ⟨m1,m2⟩:=Dn hn h1 h2;have e1:=hnu p k (by omega) (by omega)
  have e2:=hr p a (jb p k) m1.2 (by omega) (by omega)
  have w1:IntKind.i64.wrap (2*p^n)=2*p^n:=w64 (by omega)
  have w2:IntKind.i64.wrap (k+1)=k+1:=w64 (by omega)
  by_cases hd:Dv (jb p k) a
  ·refine ⟨jb p k,m1,m2,hd,lq ?_⟩
   have h0:=(A1 m1.2).1 hd;rw [h0,dq] at e2;simp -implicitDefEqProofs [Z1s_L0,ac,e1,e2,w1,h2]
  ·obtain ⟨k0,g1,g2,g3⟩:=hx
   have hne:k≠k0:=fun h=>hd (h▸g3)
   obtain ⟨b,b1,b2,b3,e⟩:=a54 hnu hr hal hn m (k+1) (by omega) (by omega) (by omega) ⟨k0,by omega,g2,g3⟩
   refine ⟨b,b1,b2,b3,bm ?_ e⟩;have h0:a%jb p k≠0:=fun h=>hd ((A1 m1.2).2 h)
   have h0':row (a%jb p k)≠[]:=fun h=>h0 (a9o.1 h)
   have h0'':(a%jb p k).len≠0:=fun h=>h0 (Pol.len_zero_iff.1 h)
   simp -implicitDefEqProofs [Z1s_L0,ac,e1,e2,w1,w2,h2,h0'']
end
def sv (O:ah):Prop:=∀(p:Int) [IsP p] (a:Fp p) (n:Nat),1≤n→n≤12→a.len<1000→a≠0→(∃q,Monic q∧q.len=n+1∧Dv q a)→∃b:Fp p,Monic b∧b.len=n+1∧Dv b a ∧
 ask O F1s [(D.int .i64 p),(D.sl .leaf (ab .i64 (row a))),(D.int .i64 n)]=some (D.sl .leaf (ab .i64 (row b)))
theorem Qz (hT:T F1s=some Z1s) (hnu:tj (den T A)) (hr:Bw (den T A)) (hno:Sg (den T A)) (hdg:o7 (den T A)) (hld:xw (den T A)) (hinv:py (den T A)) (hs:u4 (den T A)):sv (den T A):=by
 intro p i a n hn1 hn hal ha ⟨q,q1,q2,q3⟩;have hp:=IsP.ge (p:=p);have hp7:=IsP.le (p:=p);have e1:=hdg (row a) (by rw [cg]; omega)
 rw [cg] at e1
 by_cases hd:a.len=n+1
 ·have hr:=kl a.ld
  have hin:=y9 p (rep a.ld);have e2:=hld (row a) (by rw [cg]; omega)
  rw [H7] at e2;have e3:=hinv p (rep a.ld) (by omega) (by omega) hr.1 hr.2
  have e4:=hs p (inv p (rep a.ld)) a (by omega) (by omega) (by omega)
  rw [uc _ (Pol.ld_ne ha)] at e4;have hd2:(a.len:Int)-1=n:=by omega
  refine ⟨mon a,oe ha,by rw [u9 ha,hd],(Dk ha).2 (.refl a),bi hT rfl ?_⟩
  simp -implicitDefEqProofs [Z1s,Z1s_B,ac,e1,e2,e3,e4,hd2,mon]
 ·have hd2:¬ (a.len:Int)-1=n:=by omega
  have hb:=u7 (p:=p) hn;have hpos:=p7 (p:=p) n;have e2:=hno p n 1099511627776 (by omega) (by omega)
  rw [M8 n 1 (by omega) (by omega),Int.one_mul] at e2
  have hq:=ue hn q1 q2;obtain ⟨b,b1,b2,b3,e⟩:=a54 hnu hr hal hn (2*p^n-p^n).toNat (p^n) (xr _) (by omega) (ba _) ⟨fw q,hq.1,hq.2,by rw [No hn q1 q2]; exact q3⟩
  refine ⟨b,b1,b2,b3,bi hT rfl ?_⟩;simp -implicitDefEqProofs [Z1s,Z1s_B,ac,e1,e2,hd2,e]
end Pe

namespace Pe
open Go Gq
variable {T:Nat→Option Fn} {A:ah}
section
variable {p:Int} [IsP p]
theorem abp:row (Pol.X:Fp p)=[0,1]:=by
 unfold row;rw [Pol.len_X];show [rep ((Pol.X:Fp p).c 0),rep ((Pol.X:Fp p).c 1)]=[0,1];have e0:(Pol.X:Fp p).c 0=0:=rfl;have e1:(Pol.X:Fp p).c 1=1:=rfl;rw [e0,e1,qk,zt]
theorem Irr.assoc {q b:Fp p} (hq:Irr q) (hb:Irr b) (h:Dv q b):Dv b q:=by
 obtain ⟨c,hc⟩:=h;have hc0:c≠0:=fun h0=>hb.ne (by rw [hc,h0,Gq.mul_zero])
 have l:=Pol.len_mul hq.ne hc0;rw [←hc] at l;have h1:=hq.len;rcases hb.dv ⟨c,hc⟩ with h2 | h2
 ·omega
 ·obtain ⟨k,hk,rfl⟩:=p9 (show c.len=1 by omega)
  rw [hc,Gq.mul_comm];exact (Dv.Cmul hk).2 (.refl q)
structure FInv (a0:Fp p) (n:Nat) (a:Fp p) (out:ni p):Prop where
 ne:a≠0
 eq:a0=a*mp out
 ok:FacOk out
 nd:∀x∈out,¬ Dv x.1 a
 ns:Bz n a
 ln:out.length+a.len≤13
structure JInv (a0:Fp p) (n:Nat) (a:Fp p) (out:ni p) (all:Fp p):Prop where
 f:FInv a0 n a out
 ne:all≠0
 ln:all.len≤13
 one:∀q,Irr q→Dv q all→q.len=n+1∧Dv q a
 two:∀q,Irr q→q.len=n+1→Dv q a→Dv q all
end
section
variable {p:Int}
theorem A6 (L:ni p) (x:Fp p×Nat):mp (L++[x])=mp L*pw x.1 x.2:=by
 induction L with
 | nil=>show pw x.1 x.2*1=1*pw x.1 x.2; rw [Gq.mul_one,Gq.one_mul]
 | cons y L ih=>rw [gq,tf,tf,ih,Gq.mul_assoc]
end
section
variable {p:Int} [IsP p]
theorem FacOk.snoc {L:ni p} (h:FacOk L) {q:Fp p} {k:Nat} (hi:Irr q) (hm:Monic q) (hk:1≤k) (hd:∀x∈L,x.1≠q):FacOk (L++[(q,k)]):=by
 refine ⟨fun x hx=>?_,?_⟩
 ·rcases bp.1 hx with hx | hx
  ·exact h.irr x hx
  ·simp at hx; subst hx; exact ⟨hi,hm,hk⟩
 ·rw [i9]
  refine ⟨h.dis,fc _ _,fun x hx y hy=>?_⟩
  simp at hy; subst hy; exact hd x hx
theorem JInv.irr {a0 a:Fp p} {n:Nat} {out:ni p} {all b:Fp p} (h:JInv a0 n a out all) (hn:1≤n) (hb:b.len=n+1) (hd:Dv b all):Irr b:=by
 have hb0:b≠0:=fun h0=>by rw [h0,Pol.len_zero] at hb; omega
 refine Irr.of_dv (by omega) fun u hu=>?_
 have hul:=hu.len hb0
 have hu0:u≠0:=fun h0=>by
  obtain ⟨c,hc⟩:=hu;exact hb0 (by rw [hc,h0,Gq.zero_mul])
 have hup:=Pol.len_pos hu0
 by_cases h1:u.len=1
 ·exact .inl h1
 ·right
  obtain ⟨r,r1,_,r2⟩:=Hv u.len u (ba _) (by omega)
  have h2:=(h.one r r1 ((r2.trans hu).trans hd)).1;have h3:=r2.len hu0;omega
theorem JInv.step {a0 a:Fp p} {n:Nat} {out:ni p} {all b:Fp p} (h:JInv a0 n a out all) (hn:1≤n) (hm:Monic b) (hb:b.len=n+1) (hd:Dv b all)
 {k k':Nat} {r r':Fp p} (h1:a=r*pw b k) (h2:¬ Dv b r) (h3:all=r'*pw b k') (h4:¬ Dv b r'):JInv a0 n r (out++[(b,k)]) r'∧r'.len<all.len∧1≤k:=by
 have hi:=h.irr hn hb hd;have hda:=(h.one b hi hd).2
 have hk:1≤k:=by
  cases k with
  | zero=>exact absurd (by rw [h1,pw,Gq.mul_one] at hda; exact hda) h2
  | succ k=>omega
 have hk':1≤k':=by
  cases k' with
  | zero=>exact absurd (by rw [h3,pw,Gq.mul_one] at hd; exact hd) h4
  | succ k=>omega
 have hr0:r≠0:=fun h0=>h.f.ne (by rw [h1,h0,Gq.zero_mul])
 have hr0':r'≠0:=fun h0=>h.ne (by rw [h3,h0,Gq.zero_mul])
 have shrink:∀(a r:Fp p) (k:Nat),r≠0→1≤k→a=r*pw b k→r.len<a.len:=by
  intro a r k hr hk e;obtain ⟨j,rfl⟩:∃j,k=j+1:=⟨k-1,by omega⟩
  have hj:=N6 hi.ne j;have l1:=Pol.len_mul hj hi.ne;have l2:=Pol.len_mul hr (Pol.mul_ne hj hi.ne);have l3:=Pol.len_pos hj;rw [e,pw]; omega
 have s1:=shrink a r k hr0 hk h1;have s2:=shrink all r' k' hr0' hk' h3;have dr:∀q,Dv q r→Dv q a:=fun q hq=>by rw [h1]; exact hq.mul_right _
 have pd:∀q,Irr q→∀m,Dv q (pw b m)→Dv b q:=fun q hq m hq2=>Irr.assoc hq hi (Irr.pw_dv hq m hq2)
 refine ⟨⟨⟨hr0,?_,h.f.ok.snoc hi hm hk fun x hx e=>h.f.nd x hx (e▸hda),?_,Yh h.f.ns ⟨pw b k,h1⟩,?_⟩,hr0',by have:=h.ln; omega,?_,?_⟩,s2,hk⟩
 ·rw [h.f.eq,A6]
  conv=>lhs; rw [h1]
  exact bo [r,pw b k,mp out] rfl
 ·intro x hx
  rcases bp.1 hx with hx | hx
  ·exact fun hq=>h.f.nd x hx (dr _ hq)
  ·simp at hx; subst hx; exact h2
 ·have:=h.f.ln
  simp; omega
 ·intro q hq hqr
  have hqa:Dv q all:=by rw [h3]; exact hqr.mul_right _
  obtain ⟨g1,g2⟩:=h.one q hq hqa;refine ⟨g1,?_⟩;rw [h1] at g2;rcases hq.prime g2 with g | g
  ·exact g
  ·exact absurd ((pd q hq k g).trans hqr) h4
 ·intro q hq hql hqr
  have:=h.two q hq hql (dr q hqr);rw [h3] at this;rcases hq.prime this with g | g
  ·exact g
  ·exact absurd ((pd q hq k' g).trans hqr) h2
theorem JInv.done {a0 a:Fp p} {n:Nat} {out:ni p} {all:Fp p} (h:JInv a0 n a out all) (hl:all.len<2):FInv a0 (n+1) a out:=by
 refine ⟨h.f.ne,h.f.eq,h.f.ok,h.f.nd,fun q hq hd=>?_,h.f.ln⟩
 have h1:=h.f.ns q hq hd;apply dd;intro hx;have h2:=(h.two q hq (by omega) hd).len h.ne
 have:=hq.len;omega
theorem JInv.init {a0 a:Fp p} {n:Nat} {out:ni p} (h:FInv a0 n a out) (hn:1≤n) (hn2:n≤12) {fr:Fp p} (hf:fr%a=pw Pol.X (p.toNat^n)%a):JInv a0 n a out (Pol.gcd (fr-Pol.X) a):=by
 have h0:fr-Pol.X≠0∨a≠0:=.inr h.ne;have hm:=Pol.gcd_monic h0;have hd2:=Pol.gcd_dv_right h0
 have key:∀q,Dv q a→(Dv q (fr-Pol.X)↔Dv q (frT p n)):=by
  intro q hq
  have e:Dv q (fr-pw Pol.X (p.toNat^n)):=by
   refine hq.trans ?_;rw [og,Quo.mk_sub];rw [(Pol.mod_eq_iff h.ne).1 hf,sub_self]
  unfold frT;constructor
  ·intro g
   have:pw Pol.X (p.toNat^n)-Pol.X=(fr-Pol.X)-(fr-pw Pol.X (p.toNat^n)):=bo [pw Pol.X (p.toNat^n),Pol.X,fr] rfl;rw [this]; exact g.sub e
  ·intro g
   have:fr-Pol.X=(pw Pol.X (p.toNat^n)-Pol.X)+(fr-pw Pol.X (p.toNat^n)):=bo [pw Pol.X (p.toNat^n),Pol.X,fr] rfl;rw [this]; exact g.add e
 have hl:=hd2.len h.ne;have hl2:=h.ln;refine ⟨h,hm.2,by omega,fun q hq hd=>?_,fun q hq hql hqa=>?_⟩
 ·have g1:=hd.trans hd2
  have g2:=(key q g1).1 (hd.trans (Pol.gcd_dv_left h0));have g3:=h.ns q hq g1;have g4:=g1.len h.ne;have g5:=Lj hq (d:=q.len-1) (k:=n) (by have:=hq.len; omega) (by have:=u7 (p:=p) (n:=q.len-1) (by omega); omega) hn g2
  exact ⟨by omega,g1⟩
 ·have g2:=Yv hq hql (by have:=u7 (p:=p) hn2; omega)
  exact Pol.dv_gcd h0 ((key q hqa).2 g2) hqa
noncomputable abbrev po (x:Fp p×Nat):D:=.st [.leaf,.leaf] [(D.sl .leaf (ab .i64 (row x.1))),(D.int .i64 x.2)]
theorem a59 {O:ah} (hw:sv O) (hst:El O) (hdg:o7 O) {a0:Fp p} {n:Nat} (hn:1≤n) (hn2:n≤12):∀(m:Nat) (a:Fp p) (out:ni p) (all:Fp p) (cp:Option Nat),all.len≤m→JInv a0 n a out all→∃(a':Fp p) (out':ni p) (all':List Int) (cp':Option Nat),FInv a0 (n+1) a' out'∧a'.len≤a.len ∧
 dn O 0 (.loop Z1d_L1) ⟨[(0,(.d (.int .i64 p))),(1,(.d (.sl .leaf (ab .i64 (row a))))),(5,.sl 0 [] 0 out.length cp),(6,(.d (.int .i64 n))),(8,(.d (.sl .leaf (ab .i64 (row all)))))],[.sl false mf (out.map po),.hole,.hole,.hole,.hole]⟩ =
  some (.exit 4,⟨[(0,(.d (.int .i64 p))),(1,(.d (.sl .leaf (ab .i64 (row a'))))),(5,.sl 0 [] 0 out'.length cp'),(6,(.d (.int .i64 n))),(8,(.d (.sl .leaf (ab .i64 all')))),(52,(.d (.bool false)))],[.sl false mf (out'.map po),.hole,.hole,.hole,.hole]⟩)
 | m,a,out,all,cp,hm,h=>by
  have hln:=h.ln;have hp:=Pol.len_pos h.ne;have e1:=hdg (row all) (by rw [cg]; omega)
  rw [cg] at e1
  by_cases hl:all.len<2
  ·refine ⟨a,out,row all,cp,h.done hl,ba _,bt ?_⟩
   have h1:¬ (1:Int)<(all.len:Int):=by omega
   simp -implicitDefEqProofs [Z1d_L1,ac,e1,h1]
  ·have hlo:=h.f.ln
   obtain ⟨q,q1,q2,q3⟩:=Hv all.len all (ba _) (by omega)
   obtain ⟨b,b1,b2,b3,e2⟩:=hw p all n hn hn2 (by omega) h.ne ⟨q,q2,(h.one q q1 q3).1,q3⟩
   obtain ⟨k,r,g1,g2,e3⟩:=hst p a b h.f.ne (by omega) (by omega) (by omega)
   obtain ⟨k',r',g3,g4,e4⟩:=hst p all b h.ne (by omega) (by omega) (by omega)
   obtain ⟨hJ,hlt,hk⟩:=h.step hn b1 b2 b3 g1 g2 g3 g4;cases m with
   | zero=>omega
   | succ m=>
    obtain ⟨a',out',all',cp',i1,i2,e⟩:=a59 hw hst hdg hn hn2 m r (out++[(b,k)]) r' none (by omega) hJ
    have hra:r.len≤a.len:=(show Dv r a from ⟨_,g1⟩).len h.f.ne;refine ⟨a',out',all',cp',i1,by omega,bm ?_ e⟩
    have h1:(1:Int)<(all.len:Int):=by omega
    have h8:(out.length+1)*32≤1099511627776:=by omega
    have ht:(out.map po).take out.length=out.map po:=bb (by simp)
    have hL:(out.map po).length=out.length:=by simp
    have o1:(out++[(b,k)]).map po=out.map po++[po (b,k)]:=by simp
    have o2:(out++[(b,k)]).length=out.length+1:=by simp
    rw [o1,o2];generalize out.map po=LD at *;simp -implicitDefEqProofs [Z1d_L1,ac,e1,e2,e3,e4,h1,h8,ht,hL,List.replicate]
theorem a4p {O:ah} (hpw:zk O) {a:Fp p} (ha:a≠0) (hal:a.len≤13) {n:Nat} (hn2:n≤1000) {st:V} {hp:Heap} (hst:st.refs=[0]) (hhp:∃b,hp=[b,.hole,.hole,.hole,.hole]):∀(m i:Nat) (fr:Fp p),i+m=n→fr.len≤13→∃fr':Fp p,fr'.len≤13∧fr'%a=pw fr (p.toNat^m)%a ∧
 dn O 0 (.loop Z1d_L0) ⟨[(0,(.d (.int .i64 p))),(1,(.d (.sl .leaf (ab .i64 (row a))))),(5,st),(6,(.d (.int .i64 n))),(7,(.d (.sl .leaf (ab .i64 (row fr))))),(34,(.d (.int .i64 n))),(35,(.d (.int .i64 i)))],hp⟩ =
  some (.exit 2,⟨[(0,(.d (.int .i64 p))),(1,(.d (.sl .leaf (ab .i64 (row a))))),(5,st),(6,(.d (.int .i64 n))),(7,(.d (.sl .leaf (ab .i64 (row fr'))))),(34,(.d (.int .i64 n))),(35,(.d (.int .i64 n))),(36,(.d (.bool false)))],hp⟩)
 | 0,i,fr,hi,hf=>by
  obtain ⟨b,rfl⟩:=hhp;obtain rfl:i=n:=by omega
  refine ⟨fr,hf,by rw [sz,Gn],bt ?_⟩
  simp -implicitDefEqProofs [Z1d_L0,ac,hst]
 | m+1,i,fr,hi,hf=>by
  have hP:=IsP.pos (p:=p);have hP7:=IsP.le (p:=p);have e:=hpw p fr p a ha (by omega) (by omega) (by omega) (by omega)
  have hl:=Pol.len_mod (pw fr p.toNat) ha;obtain ⟨fr',g1,g2,g3⟩:=a4p (O:=O) hpw ha hal hn2 hst hhp m (i+1) (pw fr p.toNat%a) (by omega) (by omega)
  obtain ⟨b,rfl⟩:=hhp;have h1:i<n:=by omega
  have w1:IntKind.i64.wrap ((i:Int)+1)=((i+1:Nat):Int):=(w64 (x:=(i:Int)+1) (by omega)).trans (by omega)
  refine ⟨fr',g1,?_,bm ?_ g3⟩
  ·rw [g2,Pol.pow_mod _ ha,yg,lw,Ah]
  ·simp -implicitDefEqProofs [Z1d_L0,ac,e,h1,w1,hst]
structure FEnd (a0:Fp p) (out:ni p):Prop where
 ok:FacOk out
 eq:∃c:Zp p,c≠0∧a0=Pol.C c*mp out
 ln:out.length≤12
theorem a6i {O:ah} (hw:sv O) (hst:El O) (hdg:o7 O) (hpw:zk O) (hlet:Et O) (hc:ti O) (hg:Ys O) (hld:xw O) (hinv:py O) (hs:u4 O) {a0:Fp p}:∀(m n:Nat) (a:Fp p) (out:ni p) (cp:Option Nat),1≤n→n+m=15→FInv a0 n a out→∃(out':ni p) (cp':Option Nat) (e:Env),FEnd a0 out'∧((∃x y,e=[(0,(.d (.int .i64 p))),(1,(.d (.sl .leaf (ab .i64 x)))),(5,.sl 0 [] 0 out'.length cp'),(6,(.d (.int .i64 y))),(14,(.d (.bool false)))])∨e=[(5,.sl 0 [] 0 out'.length cp')]) ∧
 dn O 0 (.loop Z1d_L2) ⟨[(0,(.d (.int .i64 p))),(1,(.d (.sl .leaf (ab .i64 (row a))))),(5,.sl 0 [] 0 out.length cp),(6,(.d (.int .i64 n)))],[.sl false mf (out.map po),.hole,.hole,.hole,.hole]⟩ =
  some (.exit 0,⟨e,[.sl false mf (out'.map po),.hole,.hole,.hole,.hole]⟩)
 | m,n,a,out,cp,hn,hm,h=>by
  have hp:=IsP.ge (p:=p);have hp7:=IsP.le (p:=p);have hln:=h.ln;have ha:=Pol.len_pos h.ne;have e1:=hdg (row a) (by rw [cg]; omega)
  rw [cg] at e1
  by_cases hl:a.len=1
  ·have h1:¬ (1:Int)<(a.len:Int):=by omega
   obtain ⟨c,hc0,rfl⟩:=p9 hl;refine ⟨out,cp,_,⟨h.ok,⟨c,hc0,h.eq⟩,by omega⟩,.inl ⟨row (Pol.C c),n,rfl⟩,bt ?_⟩
   simp -implicitDefEqProofs [Z1d_L2,ac,e1,h1]
  ·have h1:(1:Int)<(a.len:Int):=by omega
   have w1:IntKind.i64.wrap (2*(n:Int))=2*(n:Int):=w64 (by omega)
   have h8:(out.length+1)*32≤1099511627776:=by omega
   have ht:(out.map po).take out.length=out.map po:=bb (by simp)
   have hL:(out.map po).length=out.length:=by simp
   by_cases h2:(a.len:Int)-1<2*(n:Int)
   ·have hi:=Bu h.ns (by omega) (by omega)
    have hr:=kl a.ld;have hin:=y9 p (rep a.ld);have e2:=hld (row a) (by rw [cg]; omega)
    rw [H7] at e2;have e3:=hinv p (rep a.ld) (by omega) (by omega) hr.1 hr.2
    have e4:=hs p (inv p (rep a.ld)) a (by omega) (by omega) (by omega)
    rw [uc _ (Pol.ld_ne h.ne)] at e4;have e4':ask O F1p [(D.int .i64 p),(D.sl .leaf (ab .i64 (row a))),(D.int .i64 (inv p (rep a.ld)))]=some (D.sl .leaf (ab .i64 (row (mon a)))):=e4;have o1:(out++[(mon a,1)]).map po=out.map po++[po (mon a,1)]:=by simp
    have o2:(out++[(mon a,1)]).length=out.length+1:=by simp
    refine ⟨out++[(mon a,1)],none,_,⟨h.ok.snoc hi.mon (oe h.ne) (ba 1) fun x hx e=>h.nd x hx (by rw [e,Dk h.ne]; exact .refl a),⟨a.ld,Pol.ld_ne h.ne,?_⟩,by rw [o2]; omega⟩,.inr rfl,bt ?_⟩
    ·rw [A6]
     show a0=Pol.C a.ld*(mp out*pw (mon a) 1);rw [Gn,h.eq]
     conv=>lhs; rw [Wd h.ne]
     exact bo [Pol.C a.ld,mon a,mp out] rfl
    ·rw [o1,o2]
     generalize out.map po=LD at *;simp -implicitDefEqProofs [Z1d_L2,ac,e1,h1,h2,w1,e2,e3,e4',h8,ht,hL,List.replicate]
   ·cases m with
    | zero=>omega
    | succ m=>
     have hl2:(Pol.X:Fp p).len≤13:=by rw [Pol.len_X]; omega
     obtain ⟨fr,g1,g2,g3⟩:=a4p (O:=O) hpw h.ne (by omega) (n:=n) (by omega) (st:=.sl 0 [] 0 out.length cp) (hp:=[.sl false mf (out.map po),.hole,.hole,.hole,.hole]) (by simp [V.refs]) ⟨_,rfl⟩ n 0 Pol.X (bn _) hl2
     have hJ:=JInv.init h hn (by omega) g2
     have hlj:=hJ.ln;obtain ⟨a',out',all',cp',i1,i2,i3⟩:=a59 (O:=O) hw hst hdg hn (by omega) (Pol.gcd (fr-Pol.X) a).len a out _ cp (ba _) hJ
     obtain ⟨out2,cp2,e,j1,j2,j3⟩:=a6i hw hst hdg hpw hlet hc hg hld hinv hs m (n+1) a' out' cp' (by omega) (by omega) i1
     have e2:ask O F18 []=some (D.sl .leaf (ab .i64 (row (Pol.X:Fp p)))):=by rw [abp]; exact hlet
     have e3:=hc p fr Pol.X (by omega) (by omega)
     have hsl:=Pol.len_sub_le (a:=fr) (b:=Pol.X) (n:=13) g1 hl2;have e4:=hg p (fr-Pol.X) a (.inr h.ne) (by omega) (by omega)
     have w2:IntKind.i64.wrap ((n:Int)+1)=((n+1:Nat):Int):=(w64 (x:=(n:Int)+1) (by omega)).trans (by omega)
     have e0:((0:Nat):Int)=0:=rfl;rw [e0] at g3;refine ⟨out2,cp2,e,j1,j2,bm ?_ j3⟩;generalize out.map po=LD at *;simp -implicitDefEqProofs [Z1d_L2,ac,e1,h1,h2,w1,w2,e2,e3,e4,g3,i3]
end
theorem Iz {α β:Type} (f:α→β) {m ds:List β} (h:m.Perm ds):∀l:List α,l.map f=m→∃l':List α,l'.Perm l∧l'.map f=ds:=by
 induction h with
 | nil=>intro l hl; exact ⟨[],by simp at hl; subst hl; exact .refl _,rfl⟩
 | cons x h ih=>
  intro l hl;cases l with
  | nil=>simp at hl
  | cons y l=>
   simp at hl;obtain ⟨l',p,e⟩:=ih l hl.2;exact ⟨y::l',p.cons y,by simp [e,hl.1]⟩
 | swap x y s=>
  intro l hl;cases l with
  | nil=>simp at hl
  | cons a l=>
   cases l with
   | nil=>simp at hl
   | cons b l=>
    simp at hl;exact ⟨b::a::l,List.Perm.swap a b l,by simp [hl]⟩
 | trans _ _ ih1 ih2=>
  intro l hl;obtain ⟨l',p,e⟩:=ih1 l hl;obtain ⟨l'',p2,e2⟩:=ih2 l' e;exact ⟨l'',p2.trans p,e2⟩
section
variable {p:Int} [IsP p]
theorem ade:∀(n:Nat) {l m:List Int},Can p l→Can p m→l.length=n→m.length=n→H8 l m n=qd (vl p l) (vl p m):=by
 have hp:=IsP.pos (p:=p)
 -- the value of the first coefficients
 have key:∀(k:Nat) (l:List Int),Can p l→k≤l.length→vl p (l.take k)+(if k<l.length then p^k*cf l k else 0)=vl p (l.take (k+1))∧0≤vl p (l.take k)∧vl p (l.take k)<p^k:=by
  intro k l hl hk;have hin:=a0u (p:=p) (l:=l.take k) fun x hx=>hl x (lr hx)
  rw [bq,Nat.min_eq_left hk] at hin;refine ⟨?_,hin⟩
  have app:∀(a b:List Int),vl p (a++b)=vl p a+p^a.length*vl p b:=by
   intro a
   induction a with
   | nil=>intro b; simp [vl]
   | cons x a ih=>
    intro b;rw [gq,vl,ih,vl,bv,je,uj,kc (p^a.length) p,ye,Int.add_assoc]
  by_cases hlt:k<l.length
  ·rw [if_pos hlt,←Df hlt,app,bq,Nat.min_eq_left hk,fj hlt]
   simp [vl]
  ·rw [if_neg hlt,bb (by omega),bb (by omega),Int.add_zero]
 intro n l m hl hm hln hmn
 have main:∀k,k≤n→H8 l m k=qd (vl p (l.take k)) (vl p (m.take k)):=by
  intro k
  induction k with
  | zero=>intro _; simp [H8,qd,vl]
  | succ k ih=>
   intro hk;obtain ⟨a1,a2,a3⟩:=key k l hl (by omega)
   obtain ⟨b1,b2,b3⟩:=key k m hm (by omega)
   rw [if_pos (by omega)] at a1 b1
   rw [←a1,←b1,H8,ih (by omega)]
   have hpk:=p7 (p:=p) k;generalize vl p (l.take k)=u at *;generalize vl p (m.take k)=v at *;generalize cf l k=c at *;generalize cf m k=d at *
   have mono:∀x y:Int,x<y→p^k*x+p^k≤p^k*y:=fun x y h=>by
    have:=dl (show x+1≤y by omega) (Int.le_of_lt hpk)
    rwa [uj,sb] at this
   rcases Int.lt_trichotomy c d with h | h | h
   ·have:=mono c d h
    have e:qd c d=-1:=if_pos h;rw [e,if_pos (by omega)]
    exact (if_pos (by omega)).symm
   ·subst h
    have e:qd c c=0:=by unfold qd; rw [if_neg (by omega),if_neg (by omega)]
    rw [e,if_neg (fun h=>h rfl)]
    unfold qd
    by_cases h1:u<v
    ·rw [if_pos h1,if_pos (by omega)]
    ·rw [if_neg h1]
     by_cases h2:v<u
     ·rw [if_pos h2,if_neg (by omega),if_pos (by omega)]
     ·rw [if_neg h2,if_neg (by omega),if_neg (by omega)]
   ·have:=mono d c h
    have e:qd c d=1:=by unfold qd; rw [if_neg (by omega),if_pos h]
    rw [e,if_pos (by omega)]
    unfold qd;rw [if_neg (by omega),if_pos (by omega)]
 have:=main n (ba n)
 rwa [bb (by omega),bb (by omega)] at this
theorem a5b (a b:Fp p):aa8 (row a) (row b)=qd (fw a) (fw b):=by
 unfold aa8;rw [cg,cg];rcases jp a.len b.len with h | h | h
 ·have:=vk h
  have e:qd (a.len:Int) b.len=-1:=if_pos (by omega)
  rw [e,if_pos (by omega)]
  exact (if_pos this).symm
 ·have e:qd (a.len:Int) b.len=0:=by unfold qd; rw [if_neg (by omega),if_neg (by omega)]
  rw [e,if_neg (fun h=>h rfl)]
  exact ade a.len (k9 a) (k9 b) (cg a) (by rw [cg,h])
 ·have:=vk h
  have e:qd (a.len:Int) b.len=1:=by unfold qd; rw [if_neg (by omega),if_pos (by omega)]
  rw [e,if_pos (by omega)]
  unfold qd;rw [if_neg (by omega),if_pos this]
end
def agn (p:Int):D→Int
 | .st _ (.sl _ cs::_)=>vl p (cs.map D.num)
 | _=>0
theorem Gz {p:Int} (x:Fp p×Nat):agn p (po x)=vl p (row x.1):=by
 show vl p ((ab .i64 (row x.1)).map D.num)=_;unfold ab;rw [sy];have:(D.num ∘ D.int .i64)=id:=rfl;rw [this,List.map_id]
theorem aag {p:Int} [IsP p] (hT:T F1e=some Z1e) (hc:Ca (den T A)) {L:ni p} (hl:∀x∈L,x.1.len≤1000):CmpOk (den T A) F1e [] [] (agn p) mf (L.map po):=by
 refine ⟨fun x hx=>by simp at hx,fun x hx=>by simp at hx,fun x hx=>?_,fun x hx=>?_,fun x hx y hy=>?_⟩
 ·obtain ⟨a,_,rfl⟩:=cj.1 hx; rfl
 ·obtain ⟨a,_,rfl⟩:=cj.1 hx; rfl
 ·obtain ⟨a,ha,rfl⟩:=cj.1 hx
  obtain ⟨b,hb,rfl⟩:=cj.1 hy;have h1:=hl a ha;have h2:=hl b hb;have e:=hc (row a.1) (row b.1) (by rw [cg]; omega) (by rw [cg]; omega)
  rw [a5b] at e;have n1:=Gz a;have n2:=Gz b;rw [n1,n2];refine bi hT rfl ?_;simp -implicitDefEqProofs [Z1e,Z1e_B,e,fw]
def Hi (O:ah):Prop:=∀(p:Int) [IsP p] (a:Fp p),a≠0→a.len≤13→∃L:ni p,IsFac a L∧L.length≤12 ∧
 ask O F1d [(D.int .i64 p),(D.sl .leaf (ab .i64 (row a)))]=some (.sl mf (L.map po))
theorem FacOk.perm {p:Int} [IsP p] {L L':ni p} (h:FacOk L) (hp:L'.Perm L):FacOk L':=
 ⟨fun x hx=>h.irr x (hp.subset hx),(hp.pairwise_iff (fun h e=>h e.symm)).2 h.dis⟩
theorem Xl {p:Int} {L L':ni p} (hp:L'.Perm L):mp L'=mp L:=Lr (hp.map _)
theorem a1g (hT:T F1d=some Z1d) (hT1:T F1e=some Z1e) (hw:sv (den T A)) (hst:El (den T A)) (hdg:o7 (den T A)) (hpw:zk (den T A)) (hlet:Et (den T A)) (hc:ti (den T A)) (hg:Ys (den T A)) (hld:xw (den T A)) (hinv:py (den T A)) (hs:u4 (den T A)) (hcmp:Ca (den T A)) (hsort:E1 (den T A)):Hi (den T A):=by
 intro p i a ha hal;have h0:FInv a 1 a []:=⟨ha,(Gq.mul_one a).symm,⟨by simp,List.Pairwise.nil⟩,by simp,Uu a,by simpa using hal⟩
 obtain ⟨out,cp,e,j1,j2,j3⟩:=a6i hw hst hdg hpw hlet hc hg hld hinv hs 14 1 a [] (some 0) (ba 1) rfl h0;obtain ⟨c,hc0,hac⟩:=j1.eq;have hP:=Be j1.ok
 have hlen:∀x∈out,x.1.len≤1000:=fun x hx=>by
  have h1:Dv x.1 a:=by
   obtain ⟨r,h2,_⟩:=Cr j1.ok (show (x.1,x.2)∈out from hx);obtain ⟨k,hk⟩:∃k,x.2=k+1:=⟨x.2-1,by have:=(j1.ok.irr x hx).2.2; omega⟩
   rw [hac,h2,hk,pw];exact (((Dv.refl x.1).mul_left _).mul_right _).mul_left _
  have:=h1.len ha;omega
 obtain ⟨ds,s1,s2,s3⟩:=hsort _ _ _ _ (out.map po) cp (by simpa using j1.ln) (aag hT1 hcmp hlen)
 obtain ⟨L,p1,p2⟩:=Iz po s1.symm out rfl;have ok:=j1.ok.perm p1;subst p2;have hLl:L.length=out.length:=p1.length_eq;refine ⟨L,⟨ok,?_,?_⟩,by rw [hLl]; exact j1.ln,bi hT rfl ?_⟩
 ·have s4:L.Pairwise fun x y=>fw x.1≤fw y.1:=by
   have:=s2;unfold Asc at this;rw [ow] at this;exact this.imp fun h=>by rw [Gz,Gz] at h; exact h
  exact (s4.and ok.dis).imp fun {x y} h=>by
   have h1:=h.1;rcases Int.lt_or_eq_of_le h1 with h2 | h2
   ·exact h2
   ·exact absurd (Oj h2) h.2
 ·have:a.ld=c:=by
   rw [hac,Pol.ld_mul (Pol.C_ne hc0) hP.2,Pol.ld_C hc0,hP.1,Gq.mul_one]
  rw [this,Xl p1]; exact hac
 ·have e0:(([]:ni p).length:Nat)=0:=rfl
  have e00:((1:Nat):Int)=1:=rfl;rw [e0,e00,ij] at j3;have hds:(L.map po).length=out.length:=by rw [ap,hLl]
  have hol:(out.map po).length=out.length:=by simp
  have htk:(L.map po).take out.length=L.map po:=bb (by omega)
  rw [hol] at s3;generalize L.map po=LD at *;generalize out.map po=OD at *;rcases j2 with ⟨x,y,rfl⟩ | rfl
  ·simp -implicitDefEqProofs [Z1d,Z1d_B,j3,s3,hds,htk,List.idxOf,List.findIdx,List.findIdx.go]
  ·simp -implicitDefEqProofs [Z1d,Z1d_B,j3,s3,hds,htk,List.idxOf,List.findIdx,List.findIdx.go]
end Pe


namespace Pe
open Go Gq
variable {T:Nat→Option Fn} {A:ah}
open Classical in
noncomputable def fac {p:Int} [IsP p] (a:Fp p):ni p:=if h:∃L,IsFac a L then Classical.choose h else []
theorem a5m {p:Int} [IsP p] {a:Fp p} (ha:a≠0) {L:ni p} (h:IsFac a L):fac a=L:=by
 have hx:∃L,IsFac a L:=⟨L,h⟩;unfold fac;rw [dif_pos hx];exact IsFac.unique ha (dw hx) h
def a5e (O:ah):Prop:=∀(p:Int) [IsP p] (a:Fp p),a≠0→a.len≤13→IsFac a (fac a)∧(fac a).length≤12 ∧
 ask O F1d [(D.int .i64 p),(D.sl .leaf (ab .i64 (row a)))]=some (.sl mf ((fac a).map po))
theorem aid {O:ah} (h:Hi O):a5e O:=fun p i a ha hl=>by
 obtain ⟨L,h1,h2,h3⟩:=h p a ha hl;rw [a5m ha h1];exact ⟨h1,h2,h3⟩
section
variable {p:Int} [IsP p]
theorem IsFac.len {m:Fp p} (hm:m≠0) {L:ni p} (h:IsFac m L) {x:Fp p×Nat} (hx:x∈L):2≤x.1.len∧x.1.len≤m.len∧x.2<m.len∧x.1≠0:=by
 obtain ⟨i1,i2,i3⟩:=h.ok.irr x hx;obtain ⟨_,_,_,h4,_⟩:=(S9 hm h.ok h.eq x.1 x.2).1 hx;have h5:=h4.len hm
 have h6:∀n,n<(pw x.1 n).len:=by
  intro n
  induction n with
  | zero=>show 0<(1:Fp p).len; rw [Pol.len_one]; omega
  | succ n ih=>
   have l:=Pol.len_mul (N6 i1.ne n) i1.ne;have:=i1.len;rw [pw]; omega
 have h7:=h6 x.2
 have h8:x.1.len≤(pw x.1 x.2).len:=by
  obtain ⟨k,hk⟩:∃k,x.2=k+1:=⟨x.2-1,by omega⟩
  rw [hk,pw];exact (show Dv x.1 (pw x.1 k*x.1) from ⟨pw x.1 k,Gq.mul_comm _ _⟩).len (Pol.mul_ne (N6 i1.ne k) i1.ne)
 exact ⟨i1.len,by omega,by omega,i1.ne⟩
end
end Pe

namespace Pe
open Go Gq
variable {T:Nat→Option Fn} {A:ah}
theorem aei {p:Int} (h:isP p=true):IsP p:=⟨by unfold isP at h; simpa using h⟩
theorem Gw {p:Int} [h:IsP p]:isP p=true:=by unfold isP; exact decide_eq_true h.h
theorem Bl {p:Int} [IsP p] {a:Fp p}:xe p (pad (row a))=true:=by
 unfold xe;rw [fe];intro x hx;obtain ⟨i,_,rfl⟩:=cj.1 hx;have:=(k9 a).le IsP.pos i
 simpa using this.2
theorem Bf {p:Int} [IsP p] {l:List Int} (hb:g9 l) (hl:l.length=64) (h:xe p l=true):∃a:Fp p,a.len≤64∧l=pad (row a):=by
 have hc:Can p l:=fun x hx=>⟨(hb x hx).1,by
  unfold xe at h;rw [fe] at h
  simpa using h x hx⟩
 refine ⟨ew p l,nw (Pol.len_le (Tz l)) (by omega),?_⟩
 rw [←rf hc]
 symm
 apply X8 hl;intro i hi;rw [rf hc,gz,iu,Ta (hc.le IsP.pos i)]
inductive Arg1 (p:Int) (l:List Int):Prop
 | bad (h:a6y p [l]=1) (h2:isP p=true→xe p l=false)
 | good (ip:IsP p) (a:Fp p) (hl:a.len≤64) (e:l=pad (row a))
theorem ahi (p:Int) {l:List Int} (hb:g9 l) (hl:l.length=64):Arg1 p l:=by
 by_cases h1:isP p=true
 ·by_cases h2:xe p l=true
  ·have ip:=aei h1
   obtain ⟨a,g1,g2⟩:=Bf hb hl h2;exact .good ip a g1 g2
  ·refine .bad (by simp [a6y,h2]) fun _=>by simpa using h2
 ·exact .bad (by simp [a6y,h1]) fun h=>absurd h h1
theorem B3 {p:Int} [IsP p] (x:Zp p):rep x=1↔x=1:=⟨fun h=>a0k (by rw [h,zt]),fun h=>by rw [h,zt]⟩
theorem Q0 {p:Int} [IsP p] (a:Fp p):Monic a↔a.ld=1:=⟨fun h=>h.1,fun h=>⟨h,fun h0=>by
 rw [h0] at h;have:(0:Fp p).ld=0:=rfl;rw [this] at h;exact Fd.one_ne h.symm⟩⟩
end Pe

namespace Pe
open Go Gq
variable {T:Nat→Option Fn} {A:ah}
theorem a8s {p:Int} {l:List Int} {f:Fp p} (h:∀i,cf l i=rep (f.c i)):jz l l.length=f.len:=by
 have e:=congrArg List.length (Bv h);rw [cg] at e;unfold trim at e;rw [bq] at e;have:=Ab l l.length;omega
theorem a8e {O:ah} {l:List Int} (hl:l.length=64):∀n:Nat,n≤64 →
 dn O 0 (.loop Z3w_L0) ⟨[(1,.ptr 0 []),(3,(.d (.int .i64 ((n:Int)-1))))],[.box false (D.arr 64 .leaf (ab .u8 l))]⟩ =
  some (.exit 0,⟨[(1,.ptr 0 []),(3,(.d (.int .i64 ((jz l n:Int)-1)))),(11,(.d (.bool false)))],[.box false (D.arr 64 .leaf (ab .u8 l))]⟩)
 | 0,_=>bt (by simp -implicitDefEqProofs [Z3w_L0,ac,jz])
 | n+1,hn=>by
  have hlt:n<l.length:=by omega
  have hn64:n<64:=by omega
  have hx:l[n]=cf l n:=(fj hlt).symm;have t0:(((n+1:Nat):Int)-1)=(n:Int):=by omega
  rw [t0];have w1:IntKind.i64.wrap ((n:Int)-1)=(n:Int)-1:=w64 (by omega)
  by_cases h0:cf l n=0
  ·have e:jz l (n+1)=jz l n:=by simp [jz,h0]
   rw [e];refine bm ?_ (a8e hl n (by omega))
   simp -implicitDefEqProofs [Z3w_L0,ac,hlt,hn64,hx,h0,w1]
  ·have e:jz l (n+1)=n+1:=by simp [jz,h0]
   rw [e,t0];refine bt ?_;simp -implicitDefEqProofs [Z3w_L0,ac,hlt,hn64,hx,h0]
def Ig (O:ah):Prop:=∀l:List Int,l.length=64→ask O F3w [(D.arr 64 .leaf (ab .u8 l))]=some (D.int .i64 ((jz l 64:Int)-1))
theorem adu (hT:T F3w=some Z3w):Ig (den T A):=by
 intro l hl;have e:=a8e (O:=den T A) hl 64 (ba _);have e0:((64:Nat):Int)-1=63:=rfl;rw [e0] at e;refine bi hT rfl ?_;simp -implicitDefEqProofs [Z3w,Z3w_B,e]
def iq (O:ah):Prop:=∀(p:Int) [IsP p] (a:Fp p),a.len≤64→ask O F3w [(D.arr 64 .leaf (ab .u8 (pad (row a))))]=some (D.int .i64 ((a.len:Int)-1))
theorem adp {O:ah} (h:Ig O):iq O:=fun p i a hl=>by
 have e:=a8s (f:=a) (l:=pad (row a)) fun i=>by rw [Bn (by rw [cg]; exact hl),gz]
 rw [ck] at e;rw [h _ (ck _),e]
def a7s (O:ah):Prop:=∀n a b:Int,ask O F43 [(D.int .i64 n),(D.int .i64 a),(D.int .i64 b)]=some (D.bool (decide (a≤n∧n≤b)))
theorem ah8 (hT:T F43=some Z43):a7s (den T A):=by
 intro n a b;refine bi hT rfl ?_
 by_cases h:a≤n <;> simp -implicitDefEqProofs [Z43,Z43_B,h]
def Nt (O:ah):Prop:=∀p:Int,ask O F4e [(D.int .i64 p)]=some (D.bool (isP p))
theorem a6v (hT:T F4e=some Z4e):Nt (den T A):=by
 intro p;refine bi hT rfl ?_
 by_cases h2:p=2
 ·simp -implicitDefEqProofs [Z4e,Z4e_B,h2,isP]
 ·by_cases h3:p=3
  ·simp -implicitDefEqProofs [Z4e,Z4e_B,h3,isP]
  ·by_cases h5:p=5
   ·simp -implicitDefEqProofs [Z4e,Z4e_B,h5,isP]
   ·simp -implicitDefEqProofs [Z4e,Z4e_B,h2,h3,h5,isP]
theorem aca {O:ah} {p:Int} {l:List Int} (hb:g9 l) (hl:l.length=64):∀(m i:Nat),i+m=64 →
 dn O 0 (.loop Z46_L0) ⟨[(0,(.d (.int .i64 p))),(3,.ptr 0 []),(5,(.d (.int .i64 i)))],[.box false (D.arr 64 .leaf (ab .u8 l))]⟩ =
  if (l.drop i).all (fun x=>decide (x<p)) then some (.exit 0,⟨[(0,(.d (.int .i64 p))),(3,.ptr 0 []),(5,(.d (.int .i64 64))),(7,(.d (.bool false)))],[.box false (D.arr 64 .leaf (ab .u8 l))]⟩) else some (.ret,⟨[(4,(.d (.bool false)))],[.hole]⟩)
 | 0,i,hi=>by
  obtain rfl:i=64:=by omega
  rw [show l.drop 64=[] from ft (by omega)]
  exact bt (by simp -implicitDefEqProofs [Z46_L0,ac])
 | m+1,i,hi=>by
  have hlt:i<l.length:=by omega
  have hi64:i<64:=by omega
  have hi64':(i:Int)<64:=by omega
  have hx:l[i]=cf l i:=(fj hlt).symm;have hb':=hb _ (bj hlt);rw [hx] at hb';have w1:IntKind.i64.wrap (cf l i)=cf l i:=w64 (by omega)
  have w4:IntKind.i64.wrap ((i:Int)+1)=((i+1:Nat):Int):=(w64 (x:=(i:Int)+1) (by omega)).trans (by omega)
  rw [bu hlt,List.all_cons,hx]
  by_cases h0:cf l i<p
  ·rw [decide_eq_true h0,Bool.true_and]
   refine bm ?_ (aca hb hl m (i+1) (by omega))
   have h1:¬ p≤cf l i:=by omega
   simp -implicitDefEqProofs [Z46_L0,ac,hlt,hi64,hi64',hx,h1,w1,w4]
  ·rw [decide_eq_false h0,Bool.false_and]
   have h1:p≤cf l i:=by omega
   refine lq ?_;simp -implicitDefEqProofs [Z46_L0,ac,hlt,hi64,hi64',hx,h1,w1]
def Yr (O:ah):Prop:=∀(p:Int) (l:List Int),g9 l→l.length=64→ask O F46 [(D.int .i64 p),(D.arr 64 .leaf (ab .u8 l))]=some (D.bool (xe p l&&isP p))
theorem ahy (hT:T F46=some Z46) (hp:Nt (den T A)):Yr (den T A):=by
 intro p l hb hl;have e:=aca (O:=den T A) (p:=p) hb hl 64 0 (by omega)
 have e0:((0:Nat):Int)=0:=rfl;rw [e0,dc,show (l.all fun x=>decide (x<p))=xe p l from rfl] at e
 have e1:=hp p;refine bi hT rfl ?_
 by_cases h:xe p l=true
 ·rw [if_pos h] at e
  simp -implicitDefEqProofs [Z46,Z46_B,e,e1,h]
 ·rw [if_neg h] at e
  simp -implicitDefEqProofs [Z46,Z46_B,e,h]
open Classical in
def Mu (O:ah):Prop:=∀(p:Int) [IsP p] (a:Fp p),a.len≤64→ask O F48 [(D.arr 64 .leaf (ab .u8 (pad (row a))))]=some (D.bool (decide (Monic a)))
open Classical in
theorem a7n (hT:T F48=some Z48) (hd:iq (den T A)):Mu (den T A):=by
 intro p i a hl;have e1:=hd p a hl;refine bi hT rfl ?_
 by_cases h0:a=0
 ·subst h0
  have hm:¬ Monic (0:Fp p):=fun h=>h.2 rfl
  rw [decide_eq_false hm];rw [Pol.len_zero] at e1;simp -implicitDefEqProofs [Z48,Z48_B,e1]
 ·have hp:=Pol.len_pos h0
  have hd2:((a.len:Int)-1)=((a.len-1:Nat):Int):=by omega
  rw [hd2] at e1;have hx:(pad (row a))[a.len-1]? = some (rep a.ld):=by rw [qt _ _ (by omega),gz]; rfl
  have h64:a.len-1<64:=by omega
  have e2:decide (rep a.ld=1)=decide (Monic a):=decide_eq_decide.2 (by rw [B3,Q0])
  rw [←e2];generalize a.len-1=n at *;generalize pad (row a)=L at *;simp -implicitDefEqProofs [Z48,Z48_B,e1,hx,h64]
end Pe

namespace Pe
open Go Gq
variable {T:Nat→Option Fn} {A:ah}
def md (O:ah):Prop:=∀(p:Int) [IsP p] (x:Int),0<x→x<p→ask O F44 [(D.int .i64 p),.int .u8 x]=some (.int .u8 (inv p x))
theorem iz {F:Nat} {fn:Fn} (hT:T F=some fn) {ds:List D} {d:D} {n:Nat} (h:run (fun _ _ _=>none) n fn (ds.map .d) []=some (.d d,[],[])):ask (den T A) F ds=some d:=by
 have h2:=T2 (A:=A) hT (n:=n) (vs:=ds.map .d) (bs:=[]) (ans:=(.d d,[],[])) (by
  obtain ⟨qs,h3,h4⟩:=Cy h;cases qs with
  | nil=>exact h4 _ (by intro q hq; simp at hq)
  | cons q qs=>exact absurd (h3 q (by simp)) (by simp))
 unfold ask;rw [h2];simp
theorem Yi (hT:T F44=some Z44):md (den T A):=by
 intro p ip x h0 h1;rcases ip.h with rfl | rfl | rfl | rfl
 ·obtain rfl:x=1:=by omega
  exact iz hT (n:=10) (by kernel_rfl)
 ·have:x=1∨x=2:=by omega
  rcases this with rfl | rfl
  ·exact iz hT (n:=10) (by kernel_rfl)
  ·exact iz hT (n:=10) (by kernel_rfl)
 ·have:x=1∨x=2∨x=3∨x=4:=by omega
  rcases this with rfl | rfl | rfl | rfl
  ·exact iz hT (n:=10) (by kernel_rfl)
  ·exact iz hT (n:=10) (by kernel_rfl)
  ·exact iz hT (n:=10) (by kernel_rfl)
  ·exact iz hT (n:=10) (by kernel_rfl)
 ·have:x=1∨x=2∨x=3∨x=4∨x=5∨x=6:=by omega
  rcases this with rfl | rfl | rfl | rfl | rfl | rfl
  ·exact iz hT (n:=10) (by kernel_rfl)
  ·exact iz hT (n:=10) (by kernel_rfl)
  ·exact iz hT (n:=10) (by kernel_rfl)
  ·exact iz hT (n:=10) (by kernel_rfl)
  ·exact iz hT (n:=10) (by kernel_rfl)
  ·exact iz hT (n:=10) (by kernel_rfl)
theorem Hw {p:Int} [IsP p] {l:List Int} (h:Can p l) (hl:l.length=64):l=pad (row (ew p l)):=by
 rw [←rf h]
 symm
 apply X8 hl;intro i hi;rw [rf h,gz,iu,Ta (h.le IsP.pos i)]
theorem Ag {p:Int} [IsP p] (a:Fp p):Can p (pad (row a)):=fun x hx=>by
 obtain ⟨i,_,rfl⟩:=cj.1 hx;exact (k9 a).le IsP.pos i
theorem lh {p:Int} {a:Fp p} (hl:a.len≤64):ew p (pad (row a))=a:=Pol.ext fun i=>by rw [iu,Bn (by rw [cg]; exact hl),gz,kq]
theorem rk {p:Int} {a:Fp p} (hl:a.len≤64) (i:Nat):cf (pad (row a)) i=rep (a.c i):=by rw [Bn (by rw [cg]; exact hl),gz]
theorem a6j {O:ah} {p k:Int} [IsP p] {a b z:List Int} (ha:Can p a) (hb:Can p b) (hbl:b.length=64) (hk:-1000000≤k∧k≤1000000):∀(m i:Nat) (cur:List Int),i+m=64→cur.length=64→(∀j,i≤j→cf cur j=cf a j) →
 dn O 0 (.loop Z3t_L0) ⟨[(0,(.d (.int .i64 p))),(3,(.d (.int .i64 k))),(5,.ptr 0 []),(6,.ptr 1 []),(8,.ptr 2 []),(9,(.d (.int .i64 i)))],[.box false (D.arr 64 .leaf (ab .u8 cur)),.box false (D.arr 64 .leaf (ab .u8 b)),.box false (D.arr 64 .leaf (ab .u8 z))]⟩ =
  some (.exit 0,⟨[(0,(.d (.int .i64 p))),(3,(.d (.int .i64 k))),(5,.ptr 0 []),(6,.ptr 1 []),(8,.ptr 2 []),(9,(.d (.int .i64 64))),(11,(.d (.bool false)))],[.box false (D.arr 64 .leaf (ab .u8 (upd (lin p a b k) m i cur))),.box false (D.arr 64 .leaf (ab .u8 b)),.box false (D.arr 64 .leaf (ab .u8 z))]⟩)
 | 0,i,cur,hi,hc,hs=>by
  obtain rfl:i=64:=by omega
  exact bt (by simp -implicitDefEqProofs [Z3t_L0,ac,upd])
 | m+1,i,cur,hi,hc,hs=>by
  have hp:=IsP.pos (p:=p);have hp7:=IsP.le (p:=p);have hp0:p≠0:=by omega
  have hlt:i<cur.length:=by omega
  have hlb:i<b.length:=by omega
  have hi64:i<64:=by omega
  have hi64':(i:Int)<64:=by omega
  have hx:cur[i]=cf a i:=by rw [←fj hlt]; exact hs i (ba i)
  have hy:b[i]=cf b i:=(fj hlb).symm;have ga:=ha.le hp i;have gb:=hb.le hp i;have gm:=il (x:=k) (y:=cf b i) (b:=1000000) (c:=10) hk (by omega) (by omega)
  have w1:IntKind.i64.wrap (cf a i)=cf a i:=w64 (by omega)
  have w2:IntKind.i64.wrap (cf b i)=cf b i:=w64 (by omega)
  have w3:IntKind.i64.wrap (k*cf b i)=k*cf b i:=w64 (by omega)
  have w5:IntKind.i64.wrap (cf a i+k*cf b i)=cf a i+k*cf b i:=w64 (by omega)
  have hin:=A5 (n:=cf a i+k*cf b i) hp;have w6:IntKind.i64.wrap ((cf a i+k*cf b i).tmod p+p)=(cf a i+k*cf b i).tmod p+p:=w64 (by omega)
  have w7:((cf a i+k*cf b i).tmod p+p).tmod p=lin p a b k i:=vj hp;have hlin:0≤lin p a b k i∧lin p a b k i<p:=⟨dt _ (by omega),cz _ hp⟩
  have w8':IntKind.u8.wrap (lin p a b k i)=lin p a b k i:=w8 (by omega)
  have w4:IntKind.i64.wrap ((i:Int)+1)=((i+1:Nat):Int):=(w64 (x:=(i:Int)+1) (by omega)).trans (by omega)
  refine bm ?_ (a6j ha hb hbl hk m (i+1) (cur.set i (lin p a b k i)) (by omega) (by simpa using hc) (fun j hj=>by rw [tk,if_neg (by omega)]; exact hs j (by omega)))
  simp -implicitDefEqProofs [Z3t_L0,ac,hlt,hlb,hi64,hi64',hx,hy,w1,w2,w3,w5,w6,w7,w8',w4,hp0]
def ja (O:ah):Prop:=∀(p:Int) [IsP p] (k:Int) (a b:Fp p),-1000000≤k→k≤1000000→a.len≤64→b.len≤64 →
 ask O F3t [(D.int .i64 p),(D.arr 64 .leaf (ab .u8 (pad (row a)))),(D.arr 64 .leaf (ab .u8 (pad (row b)))),(D.int .i64 k)]=some (D.arr 64 .leaf (ab .u8 (pad (row (a+Pol.C (zp p k)*b)))))
theorem af8 (hT:T F3t=some Z3t):ja (den T A):=by
 intro p i k a b hk hk' hal hbl;have e:=a6j (O:=den T A) (z:=pad []) (Ag a) (Ag b) (ck _) ⟨hk,hk'⟩ 64 0 (pad (row a)) (by omega) (ck _) (fun _ _=>rfl)
 have e0:((0:Nat):Int)=0:=rfl;rw [e0,L6 _ _ _ (ck _)] at e
 have e2:(List.range 64).map (lin p (pad (row a)) (pad (row b)) k)=pad (row (a+Pol.C (zp p k)*b)):=by
  unfold pad
  congr 1
  funext j
  rw [gz,Pol.c_add,Pol.c_Cmul];show (cf (pad (row a)) j+k*cf (pad (row b)) j)%p=_;rw [rk hal,rk hbl,←Mp,Wf,B4,kq,kq]
 rw [e2] at e;refine bi hT rfl ?_;generalize pad (row (a+Pol.C (zp p k)*b))=R at *;simp -implicitDefEqProofs [Z3t,Z3t_B,e]
def Au (O:ah):Prop:=∀(p:Int) [IsP p],ask O F4b []=some (D.arr 64 .leaf (ab .u8 (pad (row (1:Fp p)))))
theorem adn (hT:T F4b=some Z4b):Au (den T A):=by
 intro p i;have e:(pad []).set 0 1=pad [1]:=by decide +kernel
 have h0:(0:Nat)<(pad []).length:=by rw [ck]; omega
 rw [uz];refine bi hT rfl ?_;simp -implicitDefEqProofs [Z4b,Z4b_B,e,h0]
end Pe

namespace Pe
open Go Gq
variable {T:Nat→Option Fn} {A:ah}
def Sf (p q:Int) (b:List Int) (i:Nat) (m:Nat) (cur:List Int):List Int:=if q=0 then cur else o6 p q b i m 0 cur
theorem S1 {p q:Int} [IsP p] {b cur:List Int} {i m:Nat} (hc:Can p cur) (hl:i+m≤cur.length):Sf p q b i m cur=o6 p q b i m 0 cur:=by
 unfold Sf
 split
 ·rename_i h
  subst h;apply n9
  ·rw [nm]
  ·intro j h1 h2
   rw [←fj h1,←fj h2,B6 _ _ _ _ _ _ _ _ (by omega)]
   have:=hc.le IsP.pos j
   split
   ·rw [Int.zero_mul,Int.sub_zero,m6 this.1 this.2]
   ·rfl
 ·rfl
theorem a00 {O:ah} {p q by_:Int} [IsP p] {b quo z z':List Int} {i bl:Nat} (hq:0<q∧q<p) (hb:Can p b) (hbl:b.length=64) (hn:i+bl≤64) (h0:0<bl):∀(m k:Nat) (cur:List Int),k+m=bl→cur.length=64→Can p cur →
 dn O 0 (.loop Z3x_L0) ⟨[(0,(.d (.int .i64 p))),(4,.ptr 0 []),(5,.ptr 1 []),(6,.ptr 2 []),(7,.ptr 3 []),(8,.ptr 4 []),(9,(.d (.int .i64 ((bl:Int)-1)))),(10,(.d (.int .i64 by_))),(11,(.d (.int .i64 ((i:Int)+bl-1)))),(12,(.d (.int .i64 q))),(13,(.d (.int .i64 k)))],[.box false (D.arr 64 .leaf (ab .u8 cur)),.box false (D.arr 64 .leaf (ab .u8 b)),.box false (D.arr 64 .leaf (ab .u8 z)),.box false (D.arr 64 .leaf (ab .u8 z')),.box false (D.arr 64 .leaf (ab .u8 quo))]⟩ =
  some (.exit 2,⟨[(0,(.d (.int .i64 p))),(4,.ptr 0 []),(5,.ptr 1 []),(6,.ptr 2 []),(7,.ptr 3 []),(8,.ptr 4 []),(9,(.d (.int .i64 ((bl:Int)-1)))),(10,(.d (.int .i64 by_))),(11,(.d (.int .i64 ((i:Int)+bl-1)))),(12,(.d (.int .i64 q))),(13,(.d (.int .i64 bl))),(50,(.d (.bool false)))],[.box false (D.arr 64 .leaf (ab .u8 (o6 p q b i m k cur))),.box false (D.arr 64 .leaf (ab .u8 b)),.box false (D.arr 64 .leaf (ab .u8 z)),.box false (D.arr 64 .leaf (ab .u8 z')),.box false (D.arr 64 .leaf (ab .u8 quo))]⟩)
 | 0,k,cur,hk,hc,hcan=>by
  obtain rfl:k=bl:=by omega
  have h1:¬ (k:Int)≤(k:Int)-1:=by omega
  exact bt (by simp -implicitDefEqProofs [Z3x_L0,ac,o6,h1])
 | m+1,k,cur,hk,hc,hcan=>by
  have hp:=IsP.pos (p:=p);have hp7:=IsP.le (p:=p);have hp0:p≠0:=by omega
  have hq0:q≠0:=by omega
  have h1:(k:Int)≤(bl:Int)-1:=by omega
  have w1:IntKind.i64.wrap ((i:Int)+bl-1-(bl-1))=i:=(w64 (x:=(i:Int)+bl-1-(bl-1)) (by omega)).trans (by omega)
  have w2:IntKind.i64.wrap ((i:Int)+k)=((i+k:Nat):Int):=(w64 (x:=(i:Int)+k) (by omega)).trans (by omega)
  have hik:i+k<64:=by omega
  have hikc:i+k<cur.length:=by omega
  have hkb:k<b.length:=by omega
  have hk64:k<64:=by omega
  have hx:cur[i+k]=cf cur (i+k):=(fj hikc).symm;have hy:b[k]=cf b k:=(fj hkb).symm;have gc:=hcan.le hp (i+k);have gb:=hb.le hp k;have gm:=il (x:=q) (y:=cf b k) (b:=10) (c:=10) (by omega) (by omega) (by omega)
  have w3:IntKind.i64.wrap (cf cur (i+k))=cf cur (i+k):=w64 (by omega)
  have w5:IntKind.i64.wrap (cf b k)=cf b k:=w64 (by omega)
  have w6:IntKind.i64.wrap (q*cf b k)=q*cf b k:=w64 (by omega)
  have w7:IntKind.i64.wrap (cf cur (i+k)-q*cf b k)=cf cur (i+k)-q*cf b k:=w64 (by omega)
  have hin:=A5 (n:=cf cur (i+k)-q*cf b k) hp;have w9:IntKind.i64.wrap ((cf cur (i+k)-q*cf b k).tmod p+p)=(cf cur (i+k)-q*cf b k).tmod p+p:=w64 (by omega)
  have w10:((cf cur (i+k)-q*cf b k).tmod p+p).tmod p=(cf cur (i+k)-q*cf b k)%p:=vj hp;have hlin:0≤(cf cur (i+k)-q*cf b k)%p∧(cf cur (i+k)-q*cf b k)%p<p:=⟨dt _ (by omega),cz _ hp⟩
  have w11:IntKind.u8.wrap ((cf cur (i+k)-q*cf b k)%p)=(cf cur (i+k)-q*cf b k)%p:=w8 (by omega)
  have w4:IntKind.i64.wrap ((k:Int)+1)=((k+1:Nat):Int):=(w64 (x:=(k:Int)+1) (by omega)).trans (by omega)
  have t1:(0:Int)≤(i:Int)+k:=by omega
  have t2:((i:Int)+k).toNat=i+k:=by omega
  have hcan':Can p (cur.set (i+k) ((cf cur (i+k)-q*cf b k)%p)):=by
   intro x hx;rcases dh hx with h | h
   ·exact hcan x h
   ·subst h; exact hlin
  refine bm ?_ (a00 hq hb hbl hn h0 m (k+1) (cur.set (i+k) ((cf cur (i+k)-q*cf b k)%p)) (by omega) (by simpa using hc) hcan')
  simp -implicitDefEqProofs [Z3x_L0,ac,h1,hq0,w1,w2,hik,hikc,hkb,hk64,hx,hy,w3,w5,w6,w7,w9,w10,w11,w4,hp0,t1,t2]
theorem a15 {O:ah} {p by_:Int} [IsP p] {b:List Int} {bl:Nat} {z z':List Int} (hby:0≤by_∧by_<p) (hb:Can p b) (hbl:b.length=64) (h0:0<bl):∀(c:Nat) (cur quo:List Int),c+bl≤65→cur.length=64→quo.length=64→Can p cur →
 dn O 0 (.loop Z3x_L1) ⟨[(0,(.d (.int .i64 p))),(4,.ptr 0 []),(5,.ptr 1 []),(6,.ptr 2 []),(7,.ptr 3 []),(8,.ptr 4 []),(9,(.d (.int .i64 ((bl:Int)-1)))),(10,(.d (.int .i64 by_))),(11,(.d (.int .i64 ((c:Int)+bl-2))))],[.box false (D.arr 64 .leaf (ab .u8 cur)),.box false (D.arr 64 .leaf (ab .u8 b)),.box false (D.arr 64 .leaf (ab .u8 z)),.box false (D.arr 64 .leaf (ab .u8 z')),.box false (D.arr 64 .leaf (ab .u8 quo))]⟩ =
  some (.exit 0,⟨[(0,(.d (.int .i64 p))),(4,.ptr 0 []),(5,.ptr 1 []),(6,.ptr 2 []),(7,.ptr 3 []),(8,.ptr 4 []),(9,(.d (.int .i64 ((bl:Int)-1)))),(10,(.d (.int .i64 by_))),(11,(.d (.int .i64 ((bl:Int)-2)))),(27,(.d (.bool false)))],[.box false (D.arr 64 .leaf (ab .u8 ((dv p by_ (b.take bl) c (cur,quo)).1))),.box false (D.arr 64 .leaf (ab .u8 b)),.box false (D.arr 64 .leaf (ab .u8 z)),.box false (D.arr 64 .leaf (ab .u8 z')),.box false (D.arr 64 .leaf (ab .u8 ((dv p by_ (b.take bl) c (cur,quo)).2)))]⟩)
 | 0,cur,quo,_,hc,hqo,hcan=>by
  have h1:¬ (bl:Int)-1≤(bl:Int)-2:=by omega
  have t0:((0:Nat):Int)+bl-2=(bl:Int)-2:=by omega
  rw [t0];exact bt (by simp -implicitDefEqProofs [Z3x_L1,ac,h1,dv])
 | c+1,cur,quo,hcb,hc,hqo,hcan=>by
  have hp:=IsP.pos (p:=p);have hp7:=IsP.le (p:=p);have hp0:p≠0:=by omega
  have hbt:(b.take bl).length=bl:=by rw [bq]; omega
  have t0:((c+1:Nat):Int)+bl-2=(c:Int)+bl-1:=by omega
  rw [t0];have h1:(bl:Int)-1≤(c:Int)+bl-1:=by omega
  have hi64:c+bl-1<64:=by omega
  have hic:c+bl-1<cur.length:=by omega
  have t1:(0:Int)≤(c:Int)+bl-1:=by omega
  have t2:((c:Int)+bl-1).toNat=c+bl-1:=by omega
  have t3:(1:Int)≤(c:Int)+bl:=by omega
  have hx:cur[c+bl-1]=cf cur (c+bl-1):=(fj hic).symm;have gc:=hcan.le hp (c+bl-1);have gm:=il (x:=cf cur (c+bl-1)) (y:=by_) (b:=10) (c:=10) (by omega) (by omega) (by omega)
  have w1:IntKind.i64.wrap (cf cur (c+bl-1))=cf cur (c+bl-1):=w64 (by omega)
  have w2:IntKind.i64.wrap (cf cur (c+bl-1)*by_)=cf cur (c+bl-1)*by_:=w64 (by omega)
  have w3:(cf cur (c+bl-1)*by_).tmod p=cf cur (c+bl-1)*by_%p:=ct (fm gc.1 hby.1);have hq:0≤cf cur (c+bl-1)*by_%p∧cf cur (c+bl-1)*by_%p<p:=⟨dt _ hp0,cz _ hp⟩;have w4:IntKind.i64.wrap ((c:Int)+bl-1-(bl-1))=c:=(w64 (x:=(c:Int)+bl-1-(bl-1)) (by omega)).trans (by omega)
  have w5:IntKind.u8.wrap (cf cur (c+bl-1)*by_%p)=cf cur (c+bl-1)*by_%p:=w8 (by omega)
  have hc64:c<64:=by omega
  have hcq:c<quo.length:=by omega
  have w6:IntKind.i64.wrap ((c:Int)+bl-1-1)=(c:Int)+bl-2:=(w64 (x:=(c:Int)+bl-1-1) (by omega)).trans (by omega)
  have ed:dv p by_ (b.take bl) (c+1) (cur,quo)=dv p by_ (b.take bl) c (Sf p (cf cur (c+bl-1)*by_%p) b c bl cur,quo.set c (cf cur (c+bl-1)*by_%p)):=by
   rw [dv,hbt,S1 hcan (by omega)]
   have es:∀(m k:Nat) (x:List Int),k+m≤bl→o6 p (cf cur (c+bl-1)*by_%p) (b.take bl) c m k x=o6 p (cf cur (c+bl-1)*by_%p) b c m k x:=by
    intro m
    induction m with
    | zero=>intro k x _; rfl
    | succ m ih=>
     intro k x hk;have e:cf (b.take bl) k=cf b k:=by rw [fj (by omega),fj (by omega),ma]
     rw [o6,o6,e,ih _ _ (by omega)]
   rw [es bl 0 cur (by omega)]
  rw [ed];have hcan':Can p (Sf p (cf cur (c+bl-1)*by_%p) b c bl cur):=by rw [S1 hcan (by omega)]; exact H1 hp (by omega) hcan
  have hlen':(Sf p (cf cur (c+bl-1)*by_%p) b c bl cur).length=64:=by rw [S1 hcan (by omega),nm,hc]
  have ih:=a15 (O:=O) (z:=z) (z':=z') hby hb hbl h0 c (Sf p (cf cur (c+bl-1)*by_%p) b c bl cur) (quo.set c (cf cur (c+bl-1)*by_%p)) (by omega) hlen' (by simpa using hqo) hcan'
  refine bm ?_ ih;generalize cf cur (c+bl-1)*by_%p=q at *
  have l0:∃k:Int,dn O 0 (.loop Z3x_L0) ⟨[(0,(.d (.int .i64 p))),(4,.ptr 0 []),(5,.ptr 1 []),(6,.ptr 2 []),(7,.ptr 3 []),(8,.ptr 4 []),(9,(.d (.int .i64 ((bl:Int)-1)))),(10,(.d (.int .i64 by_))),(11,(.d (.int .i64 ((c:Int)+bl-1)))),(12,(.d (.int .i64 q))),(13,(.d (.int .i64 0)))],[.box false (D.arr 64 .leaf (ab .u8 cur)),.box false (D.arr 64 .leaf (ab .u8 b)),.box false (D.arr 64 .leaf (ab .u8 z)),.box false (D.arr 64 .leaf (ab .u8 z')),.box false (D.arr 64 .leaf (ab .u8 (quo.set c q)))]⟩ =
   some (.exit 2,⟨[(0,(.d (.int .i64 p))),(4,.ptr 0 []),(5,.ptr 1 []),(6,.ptr 2 []),(7,.ptr 3 []),(8,.ptr 4 []),(9,(.d (.int .i64 ((bl:Int)-1)))),(10,(.d (.int .i64 by_))),(11,(.d (.int .i64 ((c:Int)+bl-1)))),(12,(.d (.int .i64 q))),(13,(.d (.int .i64 k))),(50,(.d (.bool false)))],[.box false (D.arr 64 .leaf (ab .u8 (Sf p q b c bl cur))),.box false (D.arr 64 .leaf (ab .u8 b)),.box false (D.arr 64 .leaf (ab .u8 z)),.box false (D.arr 64 .leaf (ab .u8 z')),.box false (D.arr 64 .leaf (ab .u8 (quo.set c q)))]⟩):=by
   by_cases hq0:q=0
   ·subst hq0
    refine ⟨0,?_⟩;have e:Sf p 0 b c bl cur=cur:=if_pos rfl;rw [e];have h2:(1:Int)≤(bl:Int):=by omega
    exact bt (by simp -implicitDefEqProofs [Z3x_L0,ac,h2])
   ·refine ⟨bl,?_⟩
    have e:Sf p q b c bl cur=o6 p q b c bl 0 cur:=if_neg hq0;rw [e];have:=a00 (O:=O) (by_:=by_) (quo:=quo.set c q) (z:=z) (z':=z') (i:=c) (bl:=bl) ⟨by omega,hq.2⟩ hb hbl (by omega) h0 bl 0 cur (bn _) hc hcan
    exact this
  obtain ⟨k,l0⟩:=l0;simp -implicitDefEqProofs [Z3x_L1,ac,h1,hi64,hic,t2,t3,hx,w1,w2,w3,w4,w5,w6,hc64,hcq,hp0,l0]
def tg (O:ah):Prop:=∀(p:Int) [IsP p] (a b:Fp p),b≠0→a.len≤64→b.len≤64 →
 ask O F3x [(D.int .i64 p),(D.arr 64 .leaf (ab .u8 (pad (row a)))),(D.arr 64 .leaf (ab .u8 (pad (row b))))]=some (.tup [(D.arr 64 .leaf (ab .u8 (pad (row (a/b))))),(D.arr 64 .leaf (ab .u8 (pad (row (a%b)))))])
theorem a4r {p:Int} {b:Fp p} (h:b.len≤64):(pad (row b)).take b.len=row b:=by
 apply n9
 ·rw [bq,ck,cg]; omega
 ·intro i h1 h2
  rw [ma,←fj,rk h,←gz,fj h2]
theorem a20 (hT:T F3x=some Z3x) (hd:iq (den T A)) (hinv:md (den T A)):tg (den T A):=by
 intro p i a b hb hal hbl;have hp:=IsP.ge (p:=p);have hp7:=IsP.le (p:=p);have hb0:=Pol.len_pos hb;have e1:=hd p b hbl;have e2:=hd p a hal;have hr:=kl b.ld;have hld:rep b.ld≠0:=fun h0=>Pol.ld_ne hb (g7.1 h0)
 have e3:=hinv p (rep b.ld) (by omega) hr.2
 have hin:=y9 p (rep b.ld);have w1:IntKind.i64.wrap (inv p (rep b.ld))=inv p (rep b.ld):=w64 (by omega)
 have hbx:(pad (row b))[b.len-1]? = some (rep b.ld):=by rw [qt _ _ (by omega),gz]; rfl
 have hbx':((b.len:Int)-1).toNat=b.len-1:=by omega
 have hbx2:(1:Int)≤(b.len:Int):=by omega
 have hbx3:b.len-1<64:=by omega
 have hz:∀j,cf (pad []) j=0:=fun j=>by rw [Bn (by simp),nj (by simp)]
 have hcanz:Can p (pad []):=fun x hx=>by
  obtain ⟨j,_,rfl⟩:=cj.1 hx;rw [nj (by simp)]; omega
 have sp:=Qv b hb (a.len+1-b.len) (pad (row a)) (pad []) (by rw [ck]; omega) (by rw [ck]; omega) (Ag a) (fun j _=>hz j) (fun j hj=>by
  rw [rk hal,a.lt_len j (by omega),qk]) hcanz
 have hl1:∀(B:List Int) (c:Nat) (x y:List Int),(dv p (inv p (rep b.ld)) B c (x,y)).1.length=x.length∧(dv p (inv p (rep b.ld)) B c (x,y)).2.length=y.length:=by
  intro B c
  induction c with
  | zero=>exact fun x y=>⟨rfl,rfl⟩
  | succ c ih=>
   intro x y;rw [dv];obtain ⟨i1,i2⟩:=ih (o6 p (cf x (c+B.length-1)*inv p (rep b.ld)%p) B c B.length 0 x) (y.set c (cf x (c+B.length-1)*inv p (rep b.ld)%p));exact ⟨by rw [i1,nm],by rw [i2,cr]⟩
 obtain ⟨g1,g2⟩:=hl1 (row b) (a.len+1-b.len) (pad (row a)) (pad []);rw [ck] at g1 g2;have l1:=a15 (O:=den T A) (b:=pad (row b)) (bl:=b.len) (z:=pad []) (z':=pad []) hin (Ag b) (ck _) hb0 (a.len+1-b.len) (pad (row a)) (pad []) (by omega) (ck _) (ck _) (Ag a)
 rw [a4r hbl] at l1;generalize dv p (inv p (rep b.ld)) (row b) (a.len+1-b.len) (pad (row a),pad [])=r at *;obtain ⟨s1,s2,s3,s4⟩:=sp;have z0:ew p (pad [])=0:=Pol.ext fun j=>by rw [iu,hz]; rfl
 rw [z0,Gq.zero_mul,Gq.add_zero,lh hal,Gq.add_comm] at s1
 have hrl:(ew p r.1).len<b.len:=by
  have:(ew p r.1).lt (b.len-1):=fun i hi=>by rw [iu,s2 i hi]; rfl
  have:=Pol.len_le this;omega
 obtain ⟨h1,h2⟩:=Pol.div_mod_eq s1.symm hrl;rw [h1,h2,←Hw s3 g1,←Hw s4 g2]
 have lz:∃n:Int,dn (den T A) 0 (.loop Z3x_L1) ⟨[(0,(.d (.int .i64 p))),(4,.ptr 0 []),(5,.ptr 1 []),(6,.ptr 2 []),(7,.ptr 3 []),(8,.ptr 4 []),(9,(.d (.int .i64 ((b.len:Int)-1)))),(10,(.d (.int .i64 (inv p (rep b.ld))))),(11,(.d (.int .i64 ((a.len:Int)-1))))],[.box false (D.arr 64 .leaf (ab .u8 (pad (row a)))),.box false (D.arr 64 .leaf (ab .u8 (pad (row b)))),.box false (D.arr 64 .leaf (ab .u8 (pad []))),.box false (D.arr 64 .leaf (ab .u8 (pad []))),.box false (D.arr 64 .leaf (ab .u8 (pad [])))]⟩ =
  some (.exit 0,⟨[(0,(.d (.int .i64 p))),(4,.ptr 0 []),(5,.ptr 1 []),(6,.ptr 2 []),(7,.ptr 3 []),(8,.ptr 4 []),(9,(.d (.int .i64 ((b.len:Int)-1)))),(10,(.d (.int .i64 (inv p (rep b.ld))))),(11,(.d (.int .i64 n))),(27,(.d (.bool false)))],[.box false (D.arr 64 .leaf (ab .u8 r.1)),.box false (D.arr 64 .leaf (ab .u8 (pad (row b)))),.box false (D.arr 64 .leaf (ab .u8 (pad []))),.box false (D.arr 64 .leaf (ab .u8 (pad []))),.box false (D.arr 64 .leaf (ab .u8 r.2))]⟩):=by
  by_cases hlt:b.len≤a.len
  ·rw [show ((a.len+1-b.len:Nat):Int)+b.len-2=(a.len:Int)-1 by omega] at l1
   exact ⟨_,l1⟩
  ·rw [show a.len+1-b.len=0 by omega] at l1
   have h3:¬ (b.len:Int)-1≤(b.len:Int)-2:=by omega
   have h4:¬ (b.len:Int)-1≤(a.len:Int)-1:=by omega
   have st:=bt (O:=den T A) (np:=0) (c:=Z3x_L1) (s:=⟨[(0,(.d (.int .i64 p))),(4,.ptr 0 []),(5,.ptr 1 []),(6,.ptr 2 []),(7,.ptr 3 []),(8,.ptr 4 []),(9,(.d (.int .i64 ((b.len:Int)-1)))),(10,(.d (.int .i64 (inv p (rep b.ld))))),(11,(.d (.int .i64 (((0:Nat):Int)+b.len-2))))],[.box false (D.arr 64 .leaf (ab .u8 (pad (row a)))),.box false (D.arr 64 .leaf (ab .u8 (pad (row b)))),.box false (D.arr 64 .leaf (ab .u8 (pad []))),.box false (D.arr 64 .leaf (ab .u8 (pad []))),.box false (D.arr 64 .leaf (ab .u8 (pad [])))]⟩) (s1:=⟨[(0,(.d (.int .i64 p))),(4,.ptr 0 []),(5,.ptr 1 []),(6,.ptr 2 []),(7,.ptr 3 []),(8,.ptr 4 []),(9,(.d (.int .i64 ((b.len:Int)-1)))),(10,(.d (.int .i64 (inv p (rep b.ld))))),(11,(.d (.int .i64 (((0:Nat):Int)+b.len-2)))),(27,(.d (.bool false)))],[.box false (D.arr 64 .leaf (ab .u8 (pad (row a)))),.box false (D.arr 64 .leaf (ab .u8 (pad (row b)))),.box false (D.arr 64 .leaf (ab .u8 (pad []))),.box false (D.arr 64 .leaf (ab .u8 (pad []))),.box false (D.arr 64 .leaf (ab .u8 (pad [])))]⟩) (id:=0) (by
    have h3':¬ (b.len:Int)-1≤((0:Nat):Int)+b.len-2:=by omega
    simp -implicitDefEqProofs only [Int.natCast_zero,Int.zero_add] at h3' ⊢;simp -implicitDefEqProofs [Z3x_L1,ac,h3'])
   rw [st] at l1;have l2:=bc l1;injection l2 with _ l3
   injection l3 with _ l4
   injection l4 with l5 l6
   injection l6 with _ l7
   injection l7 with _ l8
   injection l8 with _ l9
   injection l9 with l10 _
   have e5:(D.arr 64 .leaf (ab .u8 (pad (row a))))=(D.arr 64 .leaf (ab .u8 r.1)):=by injection l5
   have e6:(D.arr 64 .leaf (ab .u8 (pad [])))=(D.arr 64 .leaf (ab .u8 r.2)):=by injection l10
   rw [←e5,←e6];exact ⟨(a.len:Int)-1,bt (by simp -implicitDefEqProofs [Z3x_L1,ac,h4])⟩
 obtain ⟨n,lz⟩:=lz;refine bi hT rfl ?_;obtain ⟨r1,r2⟩:=r;simp only at lz ⊢;generalize pad (row a)=PA at *;generalize pad (row b)=PB at *;simp -implicitDefEqProofs [Z3x,Z3x_B,e1,e2,e3,w1,hbx,hbx',hbx2,hbx3,lz]
end Pe

namespace Pe
open Go Gq
variable {T:Nat→Option Fn} {A:ah}
def xy (O:ah):Prop:=∀(p:Int) [IsP p] (a b:Fp p),b≠0→a.len≤64→b.len≤64 →
 ask O F47 [(D.int .i64 p),(D.arr 64 .leaf (ab .u8 (pad (row a)))),(D.arr 64 .leaf (ab .u8 (pad (row b))))]=some (D.arr 64 .leaf (ab .u8 (pad (row (a%b)))))
theorem af9 (hT:T F47=some Z47) (hd:tg (den T A)):xy (den T A):=by
 intro p i a b hb h1 h2;have e:=hd p a b hb h1 h2;refine bi hT rfl ?_;simp -implicitDefEqProofs [Z47,Z47_B,e]
theorem a4g (f:Nat→Int) (m i:Nat) (l:List Int) (j:Nat):cf (upd f m i l) j=if i≤j∧j<i+m∧j<l.length then f j else cf l j:=by
 unfold cf;rw [cx,cx,L0]
 split <;> rfl
theorem a67 {O:ah} {p:Int} {a:List Int} {mm z:List Int} {n:Nat} {top:Int} (hal:a.length=64) (hn:n<64):∀(k i:Nat) (cur:List Int),i+k=n→1≤i→cur.length=64 →
 dn O 0 (.loop Z4h_L0) ⟨[(0,(.d (.int .i64 p))),(4,.ptr 0 []),(5,.ptr 1 []),(6,.ptr 2 []),(7,(.d (.int .i64 n))),(8,(.d (.int .i64 top))),(9,.ptr 3 []),(10,(.d (.int .i64 i)))],[.box false (D.arr 64 .leaf (ab .u8 a)),.box false (D.arr 64 .leaf (ab .u8 mm)),.box false (D.arr 64 .leaf (ab .u8 z)),.box false (D.arr 64 .leaf (ab .u8 cur))]⟩ =
  some (.exit 0,⟨[(0,(.d (.int .i64 p))),(4,.ptr 0 []),(5,.ptr 1 []),(6,.ptr 2 []),(7,(.d (.int .i64 n))),(8,(.d (.int .i64 top))),(9,.ptr 3 []),(10,(.d (.int .i64 n))),(26,(.d (.bool false)))],[.box false (D.arr 64 .leaf (ab .u8 a)),.box false (D.arr 64 .leaf (ab .u8 mm)),.box false (D.arr 64 .leaf (ab .u8 z)),.box false (D.arr 64 .leaf (ab .u8 (upd (fun j=>cf a (j-1)) k i cur)))]⟩)
 | 0,i,cur,hi,h1,hc=>by
  obtain rfl:i=n:=by omega
  exact bt (by simp -implicitDefEqProofs [Z4h_L0,ac,upd])
 | k+1,i,cur,hi,h1,hc=>by
  have hlt:i<n:=by omega
  have hi1:i-1<a.length:=by omega
  have hi2:i-1<64:=by omega
  have hi64:i<64:=by omega
  have hic:i<cur.length:=by omega
  have hx:a[i-1]=cf a (i-1):=(fj hi1).symm;have w1:IntKind.i64.wrap ((i:Int)-1)=((i-1:Nat):Int):=(w64 (x:=(i:Int)-1) (by omega)).trans (by omega)
  have w4:IntKind.i64.wrap ((i:Int)+1)=((i+1:Nat):Int):=(w64 (x:=(i:Int)+1) (by omega)).trans (by omega)
  refine bm ?_ (a67 hal hn k (i+1) (cur.set i (cf a (i-1))) (by omega) (by omega) (by simpa using hc))
  simp -implicitDefEqProofs [Z4h_L0,ac,hlt,hi1,hi2,hi64,hic,hx,w1,w4]
theorem a5s {O:ah} {p q:Int} [IsP p] {b z out:List Int} {n:Nat} {hol:Blk} (hh:hol=.hole) (hb:Can p b) (hbl:b.length=64) (hq:0≤q∧q<p) (hn:n<64) (ho:Can p out):∀(k i:Nat) (cur:List Int),i+k=n→cur.length=64→(∀j,i≤j→cf cur j=cf out j) →
 dn O 0 (.loop Z4h_L1) ⟨[(0,(.d (.int .i64 p))),(5,.ptr 1 []),(6,.ptr 2 []),(7,(.d (.int .i64 n))),(9,.ptr 3 []),(11,(.d (.int .i64 q))),(12,(.d (.int .i64 i)))],[hol,.box false (D.arr 64 .leaf (ab .u8 b)),.box false (D.arr 64 .leaf (ab .u8 z)),.box false (D.arr 64 .leaf (ab .u8 cur))]⟩ =
  some (.exit 2,⟨[(0,(.d (.int .i64 p))),(5,.ptr 1 []),(6,.ptr 2 []),(7,(.d (.int .i64 n))),(9,.ptr 3 []),(11,(.d (.int .i64 q))),(12,(.d (.int .i64 n))),(47,(.d (.bool false)))],[hol,.box false (D.arr 64 .leaf (ab .u8 b)),.box false (D.arr 64 .leaf (ab .u8 z)),.box false (D.arr 64 .leaf (ab .u8 (upd (fun j=>(cf out j-q*cf b j)%p) k i cur)))]⟩)
 | 0,i,cur,hi,hc,hs=>by
  subst hh;obtain rfl:i=n:=by omega
  exact bt (by simp -implicitDefEqProofs [Z4h_L1,ac,upd])
 | k+1,i,cur,hi,hc,hs=>by
  have hp:=IsP.pos (p:=p);have hp7:=IsP.le (p:=p);have hp0:p≠0:=by omega
  have hlt:i<n:=by omega
  have hi64:i<64:=by omega
  have hic:i<cur.length:=by omega
  have hib:i<b.length:=by omega
  have hx:cur[i]=cf out i:=by rw [←fj hic]; exact hs i (ba i)
  have hy:b[i]=cf b i:=(fj hib).symm;have gc:=ho.le hp i;have gb:=hb.le hp i;have gm:=il (x:=q) (y:=cf b i) (b:=10) (c:=10) (by omega) (by omega) (by omega)
  have w3:IntKind.i64.wrap (cf out i)=cf out i:=w64 (by omega)
  have w5:IntKind.i64.wrap (cf b i)=cf b i:=w64 (by omega)
  have w6:IntKind.i64.wrap (q*cf b i)=q*cf b i:=w64 (by omega)
  have w7:IntKind.i64.wrap (cf out i-q*cf b i)=cf out i-q*cf b i:=w64 (by omega)
  have hin:=A5 (n:=cf out i-q*cf b i) hp;have w9:IntKind.i64.wrap ((cf out i-q*cf b i).tmod p+p)=(cf out i-q*cf b i).tmod p+p:=w64 (by omega)
  have w10:((cf out i-q*cf b i).tmod p+p).tmod p=(cf out i-q*cf b i)%p:=vj hp;have hlin:0≤(cf out i-q*cf b i)%p∧(cf out i-q*cf b i)%p<p:=⟨dt _ (by omega),cz _ hp⟩
  have w11:IntKind.u8.wrap ((cf out i-q*cf b i)%p)=(cf out i-q*cf b i)%p:=w8 (by omega)
  have w4:IntKind.i64.wrap ((i:Int)+1)=((i+1:Nat):Int):=(w64 (x:=(i:Int)+1) (by omega)).trans (by omega)
  refine bm ?_ (a5s hh hb hbl hq hn ho k (i+1) (cur.set i ((cf out i-q*cf b i)%p)) (by omega) (by simpa using hc) (fun j hj=>by rw [tk,if_neg (by omega)]; exact hs j (by omega)))
  subst hh;simp -implicitDefEqProofs [Z4h_L1,ac,hlt,hi64,hic,hib,hx,hy,w3,w5,w6,w7,w9,w10,w11,w4,hp0]
def Om (O:ah):Prop:=∀(p:Int) [IsP p] (a m:Fp p),m≠0→a.len<m.len→m.len≤64 →
 ask O F4h [(D.int .i64 p),(D.arr 64 .leaf (ab .u8 (pad (row a)))),(D.arr 64 .leaf (ab .u8 (pad (row m))))]=some (D.arr 64 .leaf (ab .u8 (pad (row (Pol.X*a%m)))))
theorem aim (hT:T F4h=some Z4h) (hd:iq (den T A)) (hinv:md (den T A)):Om (den T A):=by
 intro p i a m hm hal hml;have hp:=IsP.ge (p:=p);have hp7:=IsP.le (p:=p);have e1:=hd p m hml;refine bi hT rfl ?_
 by_cases h1:m.len=1
 ·have ha:a=0:=Pol.len_zero_iff.1 (by omega)
  subst ha;rw [Gq.mul_zero,Pol.zero_mod hm,dq];rw [h1] at e1;simp -implicitDefEqProofs [Z4h,Z4h_B,ac,e1]
 ·have hm0:=Pol.len_pos hm
  obtain ⟨n,hn⟩:∃n,m.len=n+2:=⟨m.len-2,by omega⟩
  have e1':ask (den T A) F3w [(D.arr 64 .leaf (ab .u8 (pad (row m))))]=some (D.int .i64 ((n+1:Nat))):=by rw [e1,hn]; congr 2; omega
  have hr:=kl m.ld;have hld:rep m.ld≠0:=fun h0=>Pol.ld_ne hm (g7.1 h0)
  have e3:=hinv p (rep m.ld) (by omega) hr.2
  have hin:=y9 p (rep m.ld);have hpa:a.len≤64:=by omega
  have hax:(pad (row a))[n]? = some (rep (a.c n)):=by rw [qt _ _ (by omega),gz]
  have hmx:(pad (row m))[n+1]? = some (rep m.ld):=by
   rw [qt _ _ (by omega),gz]
   unfold Pol.ld;rw [hn]; rfl
  have ha0:=kl (a.c n);have w0:IntKind.i64.wrap ((n:Int)+1-1)=(n:Int):=(w64 (x:=(n:Int)+1-1) (by omega)).trans (by omega)
  have w0':IntKind.i64.wrap (n:Int)=(n:Int):=w64 (by omega)
  have w1:IntKind.i64.wrap (rep (a.c n))=rep (a.c n):=w64 (by omega)
  have w2:IntKind.i64.wrap (inv p (rep m.ld))=inv p (rep m.ld):=w64 (by omega)
  have gm:=il (x:=rep (a.c n)) (y:=inv p (rep m.ld)) (b:=10) (c:=10) (by omega) (by omega) (by omega)
  have w3:IntKind.i64.wrap (rep (a.c n)*inv p (rep m.ld))=rep (a.c n)*inv p (rep m.ld):=w64 (by omega)
  have w4:(rep (a.c n)*inv p (rep m.ld)).tmod p=rep (a.c n)*inv p (rep m.ld)%p:=ct (fm ha0.1 hin.1);have hq:0≤rep (a.c n)*inv p (rep m.ld)%p∧rep (a.c n)*inv p (rep m.ld)%p<p:=⟨dt _ (by omega),cz _ (by omega)⟩
  have hqz:zp p (rep (a.c n)*inv p (rep m.ld)%p)=a.c n*Fd.inv m.ld:=by
   rw [A3,B4,kq,uc _ (Pol.ld_ne hm)]
  generalize rep (a.c n)*inv p (rep m.ld)%p=q at *;have l0:=a67 (O:=den T A) (p:=p) (a:=pad (row a)) (mm:=pad (row m)) (z:=pad []) (n:=n+1) (top:=rep (a.c n)) (ck _) (by omega) n 1 (pad []) (by omega) (ba 1) (ck _)
  have hz:∀j,cf (pad []) j=0:=fun j=>by rw [Bn (by simp),nj (by simp)]
  have c0:∀j,cf (upd (fun j=>cf (pad (row a)) (j-1)) n 1 (pad [])) j=if 1≤j∧j<n+1 then rep (a.c (j-1)) else 0:=fun j=>by
   rw [a4g,hz,ck]
   by_cases h:1≤j∧j<n+1
   ·rw [if_pos (by omega),if_pos h,rk hpa]
   ·rw [if_neg (by omega),if_neg h]
  have hlen0:(upd (fun j=>cf (pad (row a)) (j-1)) n 1 (pad [])).length=64:=by rw [zr,ck]
  generalize upd (fun j=>cf (pad (row a)) (j-1)) n 1 (pad [])=out at *
  have hcan0:Can p out:=Can.of_cf fun j _=>by rw [c0]; split; exact kl _; omega
  have l1:=a5s (O:=den T A) (p:=p) (q:=q) (b:=pad (row m)) (z:=pad []) (out:=out) (n:=n+1) rfl (Ag m) (ck _) hq (by omega) hcan0 (n+1) 0 out (by omega) hlen0 (fun _ _=>rfl)
  have hres:upd (fun j=>(cf out j-q*cf (pad (row m)) j)%p) (n+1) 0 out=pad (row (Pol.X*a%m)):=by
   have hlenR:(upd (fun j=>(cf out j-q*cf (pad (row m)) j)%p) (n+1) 0 out).length=64:=by rw [zr,hlen0]
   have hcR:∀j,cf (upd (fun j=>(cf out j-q*cf (pad (row m)) j)%p) (n+1) 0 out) j=if j<n+1 then (cf out j-q*rep (m.c j))%p else 0:=fun j=>by
    rw [a4g,hlen0]
    by_cases h:j<n+1
    ·rw [if_pos (by omega),if_pos h,rk hml]
    ·rw [if_neg (by omega),if_neg h,c0,if_neg (by omega)]
   have hcanR:Can p (upd (fun j=>(cf out j-q*cf (pad (row m)) j)%p) (n+1) 0 out):=Can.of_cf fun j _=>by
    rw [hcR]; split
    ·exact ⟨dt _ (by omega),cz _ (by omega)⟩
    ·omega
   rw [Hw hcanR hlenR]
   congr 2
   symm
   refine (Pol.div_mod_eq (q:=Pol.C (zp p q)) ?_ ?_).2
   ·refine Pol.ext fun j=>?_
    rw [Pol.c_add,Pol.c_Cmul,Pol.c_Xmul,iu,hcR];rcases jp j (n+1) with h | h | h
    ·rw [if_pos h,A3,a5c,B4,kq,c0]
     by_cases hj:j=0
     ·subst hj
      rw [if_pos rfl,if_neg (by omega),Cu]
      exact bo [zp p q,m.c 0] rfl
     ·rw [if_neg hj,if_pos (by omega),kq]
      exact bo [zp p q,m.c j,a.c (j-1)] rfl
    ·subst h
     rw [if_neg (by omega),if_neg (by omega),Cu,Gq.add_zero,hqz]
     have e:m.c (n+1)=m.ld:=by unfold Pol.ld; rw [hn]; rfl
     rw [e,Gq.mul_assoc,Gq.mul_comm (Fd.inv m.ld),Fd.mul_inv _ (Pol.ld_ne hm),Gq.mul_one]; rfl
    ·rw [if_neg (by omega),if_neg (by omega),Cu,m.lt_len j (by omega),Gq.mul_zero,Gq.add_zero,a.lt_len (j-1) (by omega)]
   ·have:(ew p (upd (fun j=>(cf out j-q*cf (pad (row m)) j)%p) (n+1) 0 out)).lt (n+1):=fun j hj=>by
     rw [iu,hcR,if_neg (by omega)]; rfl
    have:=Pol.len_le this;omega
  rw [hres] at l1;have e0:((0:Nat):Int)=0:=rfl;have e11:((1:Nat):Int)=1:=rfl;have en:((n+1:Nat):Int)=(n:Int)+1:=by omega
  rw [e0,en] at l1;rw [e11,en] at l0;rw [en] at e1';have hp0:p≠0:=by omega
  have hn64:n<64:=by omega
  have hn65:n+1<64:=by omega
  have t1:¬ (n:Int)+1=0:=by omega
  have t2:(0:Int)≤(n:Int)+1:=by omega
  have t3:((n:Int)+1).toNat=n+1:=by omega
  generalize pad (row (Pol.X*a%m))=R at *;generalize pad (row a)=PA at *;generalize pad (row m)=PM at *;simp -implicitDefEqProofs [Z4h,Z4h_B,ac,e1',e3,hax,hmx,w0',w1,w2,w3,w4,l0,l1,hn64,hn65,t1,t2,t3,hp0]
def t6 {p:Int} (b:Fp p) (i:Nat):Fp p:=⟨fun j=>b.c (i+j),b.len,fun j hj=>b.lt_len _ (by omega)⟩
theorem Wk {p:Int} (b:Fp p):t6 b 0=b:=Pol.ext fun j=>by show b.c (0+j)=b.c j; rw [bn]
theorem a3s {p:Int} (b:Fp p):t6 b b.len=0:=Pol.ext fun j=>b.lt_len _ (by omega)
theorem X4 {p:Int} (b:Fp p) (i:Nat):t6 b i=Pol.X*t6 b (i+1)+Pol.C (b.c i):=Pol.ext fun j=>by
 rw [Pol.c_add,Pol.c_Xmul,Pol.c_C];show b.c (i+j)=(if j=0 then 0 else b.c (i+1+(j-1)))+if j=0 then b.c i else 0
 by_cases h:j=0
 ·subst h; rw [if_pos rfl,if_pos rfl,Gq.zero_add]; rfl
 ·rw [if_neg h,if_neg h,Gq.add_zero,show i+1+(j-1)=i+j by omega]
theorem Ow {O:ah} (hu:Om O) (ha:ja O) (hmo:xy O) {p:Int} [IsP p] {a b m:Fp p} {z:List Int} (hm:m≠0) (hml:m.len≤64) (hal:a.len≤64) (hbl:b.len≤64):∀(n:Nat),n≤b.len →
 dn O 0 (.loop Z49_L0) ⟨[(0,(.d (.int .i64 p))),(5,.ptr 0 []),(6,.ptr 1 []),(7,.ptr 2 []),(8,.ptr 3 []),(9,.ptr 4 []),(10,(.d (.int .i64 ((n:Int)-1))))],[.box false (D.arr 64 .leaf (ab .u8 (pad (row a)))),.box false (D.arr 64 .leaf (ab .u8 (pad (row b)))),.box false (D.arr 64 .leaf (ab .u8 (pad (row m)))),.box false (D.arr 64 .leaf (ab .u8 z)),.box false (D.arr 64 .leaf (ab .u8 (pad (row (a*t6 b n%m)))))]⟩ =
  some (.exit 0,⟨[(0,(.d (.int .i64 p))),(5,.ptr 0 []),(6,.ptr 1 []),(7,.ptr 2 []),(8,.ptr 3 []),(9,.ptr 4 []),(10,(.d (.int .i64 (-1)))),(15,(.d (.bool false)))],[.box false (D.arr 64 .leaf (ab .u8 (pad (row a)))),.box false (D.arr 64 .leaf (ab .u8 (pad (row b)))),.box false (D.arr 64 .leaf (ab .u8 (pad (row m)))),.box false (D.arr 64 .leaf (ab .u8 z)),.box false (D.arr 64 .leaf (ab .u8 (pad (row (a*b%m)))))]⟩)
 | 0,_=>by
  rw [Wk];exact bt (by simp -implicitDefEqProofs [Z49_L0,ac])
 | n+1,hn=>by
  have hp:=IsP.pos (p:=p);have hp7:=IsP.le (p:=p);have hlr:=Pol.len_mod (a*t6 b (n+1)) hm;have hr:=kl (b.c n);have e1:=hu p (a*t6 b (n+1)%m) m hm hlr hml;have hl2:=Pol.len_mod (Pol.X*(a*t6 b (n+1)%m)) hm;have e2:=ha p (rep (b.c n)) (Pol.X*(a*t6 b (n+1)%m)%m) a (by omega) (by omega) (by omega) hal
  rw [kq] at e2;have hl3:=Pol.len_add_le (a:=Pol.X*(a*t6 b (n+1)%m)%m) (b:=Pol.C (b.c n)*a) (n:=64) (by omega) (nw (Pol.len_le (Pol.lt_Cmul _ a.lt_len)) hal)
  have e3:=hmo p (Pol.X*(a*t6 b (n+1)%m)%m+Pol.C (b.c n)*a) m hm hl3 hml
  have e4:(Pol.X*(a*t6 b (n+1)%m)%m+Pol.C (b.c n)*a)%m=a*t6 b n%m:=by
   rw [X4 b n,Pol.mod_eq_iff hm,Quo.mk_add,Pol.mk_mod,Quo.mk_mul,Pol.mk_mod,←Quo.mk_mul,←Quo.mk_add]
   congr 1
   exact bo [Pol.X,a,t6 b (n+1),Pol.C (b.c n)] rfl
  rw [e4] at e3;have t0:(((n+1:Nat):Int)-1)=(n:Int):=by omega
  rw [t0];have hn64:n<64:=by omega
  have hx:(pad (row b))[n]? = some (rep (b.c n)):=by rw [qt _ _ hn64,gz]
  have w1:IntKind.i64.wrap (rep (b.c n))=rep (b.c n):=w64 (by omega)
  have w2:IntKind.i64.wrap ((n:Int)-1)=(n:Int)-1:=w64 (by omega)
  refine bm ?_ (Ow hu ha hmo hm hml hal hbl n (by omega))
  generalize pad (row (a*t6 b n%m))=R at *;generalize pad (row (a*t6 b (n+1)%m))=R1 at *;generalize pad (row (Pol.X*(a*t6 b (n+1)%m)%m+Pol.C (b.c n)*a))=R2 at *;generalize pad (row (Pol.X*(a*t6 b (n+1)%m)%m))=R3 at *;generalize pad (row a)=PA at *;generalize pad (row b)=PB at *;generalize pad (row m)=PM at *;simp -implicitDefEqProofs [Z49_L0,ac,e1,e2,e3,hn64,hx,w1,w2]
def ki (O:ah):Prop:=∀(p:Int) [IsP p] (a b m:Fp p),m≠0→m.len≤64→a.len≤64→b.len≤64 →
 ask O F49 [(D.int .i64 p),(D.arr 64 .leaf (ab .u8 (pad (row a)))),(D.arr 64 .leaf (ab .u8 (pad (row b)))),(D.arr 64 .leaf (ab .u8 (pad (row m))))]=some (D.arr 64 .leaf (ab .u8 (pad (row (a*b%m)))))
theorem a2l (hT:T F49=some Z49) (hd:iq (den T A)) (hu:Om (den T A)) (ha:ja (den T A)) (hmo:xy (den T A)):ki (den T A):=by
 intro p i a b m hm hml hal hbl;have e1:=hd p b hbl;have e2:=Ow (O:=den T A) (z:=pad []) hu ha hmo hm hml hal hbl b.len (ba _);rw [a3s,Gq.mul_zero,Pol.zero_mod hm,dq] at e2;refine bi hT rfl ?_;generalize pad (row (a*b%m))=R at *;generalize pad (row a)=PA at *;generalize pad (row b)=PB at *;generalize pad (row m)=PM at *;simp -implicitDefEqProofs [Z49,Z49_B,e1,e2]
theorem af6 {O:ah} (hmm:ki O) {p:Int} [IsP p] {m:Fp p} {z:List Int} {hol:Blk} (hh:hol=.hole) (hm:m≠0) (hml:m.len≤64):∀(n:Nat) (k:Int) (out base:Fp p),0≤k→k.toNat<2^n→k<4611686018427387904→out.len<m.len→base.len<m.len→∃base':List Int,
 dn O 0 (.loop Z4d_L0) ⟨[(0,(.d (.int .i64 p))),(2,(.d (.int .i64 k))),(7,.ptr 1 []),(8,.ptr 2 []),(9,.ptr 3 []),(10,.ptr 4 [])],[hol,.box false (D.arr 64 .leaf (ab .u8 (pad (row m)))),.box false (D.arr 64 .leaf (ab .u8 z)),.box false (D.arr 64 .leaf (ab .u8 (pad (row out)))),.box false (D.arr 64 .leaf (ab .u8 (pad (row base))))]⟩ =
  some (.exit 0,⟨[(0,(.d (.int .i64 p))),(2,(.d (.int .i64 0))),(7,.ptr 1 []),(8,.ptr 2 []),(9,.ptr 3 []),(10,.ptr 4 []),(20,(.d (.bool false)))],[hol,.box false (D.arr 64 .leaf (ab .u8 (pad (row m)))),.box false (D.arr 64 .leaf (ab .u8 z)),.box false (D.arr 64 .leaf (ab .u8 (pad (row (out*pw base k.toNat%m))))),.box false (D.arr 64 .leaf (ab .u8 base'))]⟩):=by
 intro n
 induction n with
 | zero=>
  intro k out base hk hn _ ho hb;obtain rfl:k=0:=by simp at hn; omega
  refine ⟨pad (row base),?_⟩
  have e:out*pw base (0:Int).toNat%m=out:=by
   show out*1%m=out;rw [Gq.mul_one,Pol.mod_small ho]
  rw [e];subst hh;exact bt (by simp -implicitDefEqProofs [Z4d_L0,ac])
 | succ n ih=>
  intro k out base hk hn hkm ho hb
  by_cases h0:k=0
  ·subst h0
   refine ⟨pad (row base),?_⟩
   have e:out*pw base (0:Int).toNat%m=out:=by
    show out*1%m=out;rw [Gq.mul_one,Pol.mod_small ho]
   rw [e];subst hh;exact bt (by simp -implicitDefEqProofs [Z4d_L0,ac])
  ·have hkp:0<k:=by omega
   have t1:=hmm p out base m hm hml (by omega) (by omega)
   have t2:=hmm p base base m hm hml (by omega) (by omega)
   have s:=Pol.bin_step (out:=out) (base:=base) hm k.toNat (by omega)
   have hdiv:(k/2).toNat=k.toNat/2:=by omega
   obtain ⟨b',e⟩:=ih (k/2) (if k.toNat%2=1 then out*base%m else out) (base*base%m) (by omega) (by rw [lw] at hn; omega) (by omega) (by split; exact Pol.len_mod _ hm; exact ho) (Pol.len_mod _ hm)
   rw [hdiv,s] at e;refine ⟨b',bm ?_ e⟩;subst hh;have w1:IntKind.i64.wrap (k.tdiv 2)=k/2:=by rw [pf hk,w64 (by omega)]
   have w2:k.tmod 2=k%2:=ct hk
   by_cases hodd:k%2=1
   ·rw [if_pos (show k.toNat%2=1 by omega)]
    generalize pad (row (out*base%m))=R1 at *;generalize pad (row (base*base%m))=R2 at *;generalize pad (row out)=R3 at *;generalize pad (row base)=R4 at *;generalize pad (row m)=R5 at *;simp -implicitDefEqProofs [Z4d_L0,ac,hkp,t1,t2,w1,w2,hodd]
   ·rw [if_neg (show ¬ k.toNat%2=1 by omega)]
    generalize pad (row (base*base%m))=R2 at *;generalize pad (row out)=R3 at *;generalize pad (row base)=R4 at *;generalize pad (row m)=R5 at *;simp -implicitDefEqProofs [Z4d_L0,ac,hkp,t2,w1,w2,hodd]
def s9 (O:ah):Prop:=∀(p:Int) [IsP p] (a:Fp p) (k:Int) (m:Fp p),m≠0→a.len≤64→m.len≤64→0≤k→k<4611686018427387904 →
 ask O F4d [(D.int .i64 p),(D.arr 64 .leaf (ab .u8 (pad (row a)))),(D.int .i64 k),(D.arr 64 .leaf (ab .u8 (pad (row m))))]=some (D.arr 64 .leaf (ab .u8 (pad (row (pw a k.toNat%m)))))
theorem a1l (hT:T F4d=some Z4d) (h1:Au (den T A)) (hmo:xy (den T A)) (hmm:ki (den T A)):s9 (den T A):=by
 intro p i a k m hm hal hml hk hkm;have e1:=h1 p;have e2:=hmo p 1 m hm (by rw [Pol.len_one]; omega) hml
 have e3:=hmo p a m hm hal hml;obtain ⟨b',e⟩:=af6 (O:=den T A) hmm (z:=pad []) (hol:=.hole) rfl hm hml 62 k (1%m) (a%m) hk (by omega) hkm (Pol.len_mod _ hm) (Pol.len_mod _ hm)
 have e4:1%m*pw (a%m) k.toNat%m=pw a k.toNat%m:=by
  rw [Pol.mul_mod_left _ _ hm,Gq.one_mul,Pol.pow_mod _ hm]
 rw [e4] at e;refine bi hT rfl ?_;generalize pad (row (pw a k.toNat%m))=R at *;generalize pad (row (1%m))=R1 at *;generalize pad (row (a%m))=R2 at *;generalize pad (row (1:Fp p))=R3 at *;generalize pad (row a)=PA at *;generalize pad (row m)=PM at *;simp -implicitDefEqProofs [Z4d,Z4d_B,e1,e2,e3,e]
end Pe

namespace Pe
open Go Gq
section
variable {p:Int} [IsP p]
noncomputable def frW (m:Fp p) (k:Nat):Fp p:=pw Pol.X (p.toNat^k)%m-Pol.X
theorem a6n {m q:Fp p} (_hm:m≠0) (hq:Dv q m) (k:Nat):Dv q (frW m k)↔Dv q (frT p k):=by
 have h1:frT p k=frW m k+pw Pol.X (p.toNat^k)/m*m:=by
  have h:=Pol.div_mod (pw Pol.X (p.toNat^k)) m;show pw Pol.X (p.toNat^k)-Pol.X=pw Pol.X (p.toNat^k)%m-Pol.X+pw Pol.X (p.toNat^k)/m*m;generalize pw Pol.X (p.toNat^k)%m=R at *;generalize pw Pol.X (p.toNat^k)/m=Q at *;rw [h];exact bo [Q,m,R,Pol.X] rfl
 have h2:Dv q (pw Pol.X (p.toNat^k)/m*m):=hq.mul_left _;constructor
 ·intro h; rw [h1]; exact h.add h2
 ·intro h
  have:=h.sub h2;rw [h1] at this;have e:frW m k+pw Pol.X (p.toNat^k)/m*m-pw Pol.X (p.toNat^k)/m*m=frW m k:=bo [frW m k,pw Pol.X (p.toNat^k)/m,m] rfl
  rwa [e] at this
theorem a8a {m:Fp p} (h2:2≤m.len) (h13:m.len≤13):(∀k,1≤k→2*k≤m.len-1→(Pol.gcd m (frW m k)).len=1)↔Irr m:=by
 have hm:m≠0:=fun h=>by rw [h,Pol.len_zero] at h2; omega
 have small:∀d,d≤12→p^d<1000000000000:=fun d hd=>by
  have h1:=n5 (p:=p) (by have:=IsP.pos (p:=p); omega) hd
  have h7:=u7 (p:=p) (n:=12) (by omega)
  omega
 constructor
 ·intro h
  refine Bu (n:=(m.len-1)/2+1) (fun q hq hd=>?_) h2 (by omega)
  rcases dm ((m.len-1)/2+1) q.len with g | g
  ·omega
  ·exfalso
   have hl:=hq.len;have h1:=h (q.len-1) (by omega) (by omega)
   have h3:Dv q (frT p (q.len-1)):=Yv hq (by omega) (small _ (by omega))
   have h4:=Pol.dv_gcd (.inl hm) hd ((a6n hm hd _).2 h3);have h5:=h4.len (fun h0=>by rw [h0,Pol.len_zero] at h1; omega)
   omega
 ·intro hi k hk hk2
  by_cases hd:Dv m (frW m k)
  ·have h3:=(a6n hm (Dv.refl m) k).1 hd
   have:=Lj hi (d:=m.len-1) (by omega) (small _ (by omega)) hk h3
   omega
  ·obtain ⟨u,v,e⟩:=hi.coprime hd
   have h1:=Pol.gcd_dv_left (a:=m) (b:=frW m k) (.inl hm);have h3:=Pol.gcd_dv_right (a:=m) (b:=frW m k) (.inl hm)
   have h4:Dv (Pol.gcd m (frW m k)) 1:=by
    rw [←e];exact (h1.mul_left u).add (h3.mul_left v)
   have h5:=h4.len Pol.one_ne;rw [Pol.len_one] at h5;have h6:=Pol.len_pos (Pol.gcd_monic (a:=m) (b:=frW m k) (.inl hm)).2;omega
theorem abd {m:Fp p} (hi:Irr m) (hm:Monic m):IsFac m [(m,1)] where
 ok:=⟨fun x hx=>by simp only [cl] at hx; subst hx; exact ⟨hi,hm,ba 1⟩,fc _ _⟩
 sorted:=fc _ _
 eq:=by
  rw [hm.1,Pol.C_one,Gq.one_mul];show m=pw m 1*1;rw [Gn,Gq.mul_one]
theorem a9y {m:Fp p} {L:ni p} (hm:Monic m) (h:IsFac m L):(∃q,L=[(q,1)])↔Irr m:=by
 constructor
 ·rintro ⟨q,rfl⟩
  have e:=h.eq;rw [hm.1,Pol.C_one,Gq.one_mul] at e
  have e2:mp [(q,1)]=q:=by
   show pw q 1*1=q;rw [Gn,Gq.mul_one]
  rw [e2] at e;rw [e];exact (h.ok.irr (q,1) (by simp)).1
 ·intro hi
  exact ⟨m,h.unique hm.2 (abd hi hm)⟩
end
end Pe
