/-
  A part of the proof: an evaluator for a small form of the code, its soundness, and contracts of functions over it.
-/
import Derived.Lib.AppendZeros
import Derived.Test.YtfmkdfhhbejpnaaGreatW1
import Derived.Test.YtfmkdfhhbejpnaaGreatW2
import Derived.Test.YtfmkdfhhbejpnaaGreatW3

/-
 Functions of the program in the small form, printed by a program.
-/
namespace Pe
open Go
def Z27_L0 : Cd :=
 .seq (.region [⟨some 9, .bin .lss (.t 8) (.t 7), none, []⟩] [0, 1, 7, 8, 9])
 (.seq (.cond (.t 9)
 (.skip)
 (.exit 0))
 (.seq (.block 1 (.seq (.region [⟨some 10, .mv (.t 8), none, []⟩,
 ⟨some 5, .mv (.t 10), none, []⟩] [0, 1, 5, 7, 8])
 (.seq (.region [⟨some 11, .mv (.t 1), none, []⟩,
 ⟨some 12, .mv (.t 0), none, []⟩,
 ⟨some 13, .mv (.t 5), none, []⟩,
 ⟨some 14, .idxA none (.arr 64 .leaf) (.t 12) (.t 13), none, []⟩,
 ⟨some 15, .load (.arr 64 .leaf) (.t 14), none, []⟩,
 ⟨some 16, .call .flat [] (.t 11) [(.t 15)], none, []⟩] [0, 1, 5, 7, 8, 16])
 (.cond (.t 16)
 (.seq (.region [⟨some 17, .mv (.t 5), none, []⟩,
 ⟨some 4, .mv (.t 17), none, []⟩] [4])
 (.ret))
 (.skip)))))
 (.region [⟨some 18, .bin .add (.t 8) (.c (.int .i64 1)), none, []⟩,
 ⟨some 8, .mv (.t 18), none, []⟩] [0, 1, 7, 8])))
def Z27_B : Cd :=
 .seq (.region [⟨some 4, .mv (.c (.int .i64 0)), none, []⟩] [0, 1])
 (.seq (.seq (.region [⟨some 6, .mv (.t 0), none, []⟩,
 ⟨some 7, .len false (.t 6), none, []⟩,
 ⟨some 8, .mv (.c (.int .i64 0)), none, []⟩] [0, 1, 7, 8])
 (.block 0 (.loop (Z27_L0))))
 (.seq (.region [⟨some 4, .mv (.c (.int .i64 (-1))), none, []⟩] [4])
 (.ret)))
def Z27 : Fn :=
 { nparams := 2, nblk := 0, results := [.tmp 4], body := Z27_B }
def Z24_B : Cd :=
 .seq (.region [⟨some 4, .mv (.c (.bool false)), none, []⟩] [0, 1])
 (.seq (.region [⟨some 5, .mv (.t 0), none, []⟩,
 ⟨some 6, .mv (.t 1), none, []⟩,
 ⟨some 7, .call .flat [] (.f F27) [(.t 5), (.t 6)], none, []⟩,
 ⟨some 8, .bin .geq (.t 7) (.c (.int .i64 0)), none, []⟩,
 ⟨some 4, .mv (.t 8), none, []⟩] [4])
 (.ret))
def Z24 : Fn :=
 { nparams := 2, nblk := 0, results := [.tmp 4], body := Z24_B }
def Z26_L0 : Cd :=
 .seq (.region [⟨some 9, .bin .lss (.t 8) (.t 7), none, []⟩] [0, 1, 7, 8, 9])
 (.seq (.cond (.t 9)
 (.skip)
 (.exit 0))
 (.seq (.block 1 (.seq (.region [⟨some 10, .mv (.t 8), none, []⟩,
 ⟨some 5, .mv (.t 10), none, []⟩] [0, 1, 5, 7, 8])
 (.seq (.region [⟨some 11, .mv (.t 1), none, []⟩,
 ⟨some 12, .mv (.t 0), none, []⟩,
 ⟨some 13, .mv (.t 5), none, []⟩,
 ⟨some 14, .idxA none .leaf (.t 12) (.t 13), none, []⟩,
 ⟨some 15, .load .leaf (.t 14), none, []⟩,
 ⟨some 16, .call .flat [] (.t 11) [(.t 15)], none, []⟩] [0, 1, 5, 7, 8, 16])
 (.cond (.t 16)
 (.seq (.region [⟨some 17, .mv (.t 5), none, []⟩,
 ⟨some 4, .mv (.t 17), none, []⟩] [4])
 (.ret))
 (.skip)))))
 (.region [⟨some 18, .bin .add (.t 8) (.c (.int .i64 1)), none, []⟩,
 ⟨some 8, .mv (.t 18), none, []⟩] [0, 1, 7, 8])))
def Z26_B : Cd :=
 .seq (.region [⟨some 4, .mv (.c (.int .i64 0)), none, []⟩] [0, 1])
 (.seq (.seq (.region [⟨some 6, .mv (.t 0), none, []⟩,
 ⟨some 7, .len false (.t 6), none, []⟩,
 ⟨some 8, .mv (.c (.int .i64 0)), none, []⟩] [0, 1, 7, 8])
 (.block 0 (.loop (Z26_L0))))
 (.seq (.region [⟨some 4, .mv (.c (.int .i64 (-1))), none, []⟩] [4])
 (.ret)))
def Z26 : Fn :=
 { nparams := 2, nblk := 0, results := [.tmp 4], body := Z26_B }
def Z23_B : Cd :=
 .seq (.region [⟨some 4, .mv (.c (.bool false)), none, []⟩] [0, 1])
 (.seq (.region [⟨some 5, .mv (.t 0), none, []⟩,
 ⟨some 6, .mv (.t 1), none, []⟩,
 ⟨some 7, .call .flat [] (.f F26) [(.t 5), (.t 6)], none, []⟩,
 ⟨some 8, .bin .geq (.t 7) (.c (.int .i64 0)), none, []⟩,
 ⟨some 4, .mv (.t 8), none, []⟩] [4])
 (.ret))
def Z23 : Fn :=
 { nparams := 2, nblk := 0, results := [.tmp 4], body := Z23_B }
def Z2g_L0 : Cd :=
 .seq (.seq (.region [⟨some 18, .mv (.t 9), none, []⟩,
 ⟨some 19, .mv (.t 1), none, []⟩,
 ⟨some 20, .bin .gtr (.t 18) (.t 19), none, []⟩,
 ⟨some 21, .mv (.t 20), none, []⟩,
 ⟨some 22, .mv (.t 3), some (21, true), []⟩,
 ⟨some 23, .mv (.t 0), some (21, true), []⟩,
 ⟨some 24, .mv (.t 9), some (21, true), []⟩,
 ⟨some 25, .idxA none (.st [.leaf, .leaf]) (.t 23) (.t 24), some (21, true), []⟩,
 ⟨some 26, .load (.st [.leaf, .leaf]) (.t 25), some (21, true), []⟩,
 ⟨some 27, .mv (.t 0), some (21, true), []⟩,
 ⟨some 28, .mv (.t 9), some (21, true), []⟩,
 ⟨some 29, .bin .sub (.t 28) (.c (.int .i64 1)), some (21, true), []⟩,
 ⟨some 30, .idxA none (.st [.leaf, .leaf]) (.t 27) (.t 29), some (21, true), []⟩,
 ⟨some 31, .load (.st [.leaf, .leaf]) (.t 30), some (21, true), []⟩,
 ⟨some 32, .call .flat [] (.t 22) [(.t 26), (.t 31)], some (21, true), []⟩,
 ⟨some 33, .bin .lss (.t 32) (.c (.int .i64 0)), some (21, true), []⟩,
 ⟨some 34, .pick (.t 21) (.t 33) (.c (.bool false)), none, []⟩] [0, 1, 2, 3, 8, 9, 34])
 (.cond (.t 34)
 (.skip)
 (.exit 2)))
 (.seq (.block 3 (.region [⟨some 37, .mv (.t 0), none, []⟩,
 ⟨some 38, .mv (.t 9), none, []⟩,
 ⟨some 39, .mv (.t 0), none, []⟩,
 ⟨some 40, .mv (.t 9), none, []⟩,
 ⟨some 41, .bin .sub (.t 40) (.c (.int .i64 1)), none, []⟩,
 ⟨some 42, .mv (.t 0), none, []⟩,
 ⟨some 43, .mv (.t 9), none, []⟩,
 ⟨some 44, .bin .sub (.t 43) (.c (.int .i64 1)), none, []⟩,
 ⟨some 45, .idxA none (.st [.leaf, .leaf]) (.t 42) (.t 44), none, []⟩,
 ⟨some 46, .load (.st [.leaf, .leaf]) (.t 45), none, []⟩,
 ⟨some 47, .mv (.t 0), none, []⟩,
 ⟨some 48, .mv (.t 9), none, []⟩,
 ⟨some 49, .idxA none (.st [.leaf, .leaf]) (.t 47) (.t 48), none, []⟩,
 ⟨some 50, .load (.st [.leaf, .leaf]) (.t 49), none, []⟩,
 ⟨some 51, .idxA none (.st [.leaf, .leaf]) (.t 37) (.t 38), none, []⟩,
 ⟨none, .store false (.st [.leaf, .leaf]) (.t 51) (.t 46), none, []⟩,
 ⟨some 52, .idxA none (.st [.leaf, .leaf]) (.t 39) (.t 41), none, []⟩,
 ⟨none, .store false (.st [.leaf, .leaf]) (.t 52) (.t 50), none, []⟩] [0, 1, 2, 3, 8, 9]))
 (.region [⟨some 35, .mv (.t 9), none, []⟩,
 ⟨some 36, .bin .sub (.t 35) (.c (.int .i64 1)), none, []⟩,
 ⟨some 9, .mv (.t 36), none, []⟩] [0, 1, 2, 3, 8, 9]))
def Z2g_L1 : Cd :=
 .seq (.seq (.region [⟨some 12, .mv (.t 8), none, []⟩,
 ⟨some 13, .mv (.t 2), none, []⟩,
 ⟨some 14, .bin .lss (.t 12) (.t 13), none, []⟩] [0, 1, 2, 3, 8, 14])
 (.cond (.t 14)
 (.skip)
 (.exit 0)))
 (.seq (.block 1 (.seq (.region [⟨some 17, .mv (.t 8), none, []⟩,
 ⟨some 9, .mv (.t 17), none, []⟩] [0, 1, 2, 3, 8, 9])
 (.block 2 (.loop (Z2g_L0)))))
 (.region [⟨some 15, .mv (.t 8), none, []⟩,
 ⟨some 16, .bin .add (.t 15) (.c (.int .i64 1)), none, []⟩,
 ⟨some 8, .mv (.t 16), none, []⟩] [0, 1, 2, 3, 8]))
def Z2g_B : Cd :=
 .seq (.region [⟨some 10, .mv (.t 1), none, []⟩,
 ⟨some 11, .bin .add (.t 10) (.c (.int .i64 1)), none, []⟩,
 ⟨some 8, .mv (.t 11), none, []⟩] [0, 1, 2, 3, 8])
 (.block 0 (.loop (Z2g_L1)))
def Z2g : Fn :=
 { nparams := 4, nblk := 0, results := [], body := Z2g_B }
def Z20_B : Cd :=
 .seq (.region [⟨some 2, .mv (.c (.int .i64 0)), none, []⟩] [0, 2])
 (.seq (.seq (.region [⟨some 3, .mv (.t 0), none, []⟩,
 ⟨some 4, .bin .geq (.t 3) (.c (.int .u64 4294967296)), none, []⟩] [0, 2, 4])
 (.cond (.t 4)
 (.seq (.region [⟨some 5, .mv (.t 0), none, []⟩,
 ⟨some 6, .bin .shr (.t 5) (.c (.int .u64 32)), none, []⟩,
 ⟨some 0, .mv (.t 6), none, []⟩] [0])
 (.region [⟨some 2, .mv (.c (.int .i64 32)), none, []⟩] [0, 2]))
 (.skip)))
 (.seq (.seq (.region [⟨some 7, .mv (.t 0), none, []⟩,
 ⟨some 8, .bin .geq (.t 7) (.c (.int .u64 65536)), none, []⟩] [0, 2, 8])
 (.cond (.t 8)
 (.seq (.region [⟨some 9, .mv (.t 0), none, []⟩,
 ⟨some 10, .bin .shr (.t 9) (.c (.int .u64 16)), none, []⟩,
 ⟨some 0, .mv (.t 10), none, []⟩] [0, 2])
 (.region [⟨some 11, .mv (.t 2), none, []⟩,
 ⟨some 12, .bin .add (.t 11) (.c (.int .i64 16)), none, []⟩,
 ⟨some 2, .mv (.t 12), none, []⟩] [0, 2]))
 (.skip)))
 (.seq (.seq (.region [⟨some 13, .mv (.t 0), none, []⟩,
 ⟨some 14, .bin .geq (.t 13) (.c (.int .u64 256)), none, []⟩] [0, 2, 14])
 (.cond (.t 14)
 (.seq (.region [⟨some 15, .mv (.t 0), none, []⟩,
 ⟨some 16, .bin .shr (.t 15) (.c (.int .u64 8)), none, []⟩,
 ⟨some 0, .mv (.t 16), none, []⟩] [0, 2])
 (.region [⟨some 17, .mv (.t 2), none, []⟩,
 ⟨some 18, .bin .add (.t 17) (.c (.int .i64 8)), none, []⟩,
 ⟨some 2, .mv (.t 18), none, []⟩] [0, 2]))
 (.skip)))
 (.seq (.region [⟨some 19, .mv (.t 2), none, []⟩,
 ⟨some 20, .mv (.t 0), none, []⟩,
 ⟨some 21, .conv .u8 (.t 20), none, []⟩,
 ⟨some 22, .idx none .leaf (.c (.str (ByteArray.mk #[0, 1, 2, 2, 3, 3, 3, 3, 4, 4, 4, 4, 4, 4, 4, 4, 5, 5, 5, 5, 5, 5, 5, 5, 5, 5, 5, 5, 5, 5, 5, 5, 6, 6, 6, 6, 6, 6, 6, 6, 6, 6, 6, 6, 6, 6, 6, 6, 6, 6, 6, 6, 6, 6, 6, 6, 6, 6, 6, 6, 6, 6, 6, 6, 7, 7, 7, 7, 7, 7, 7, 7, 7, 7, 7, 7, 7, 7, 7, 7, 7, 7, 7, 7, 7, 7, 7, 7, 7, 7, 7, 7, 7, 7, 7, 7, 7, 7, 7, 7, 7, 7, 7, 7, 7, 7, 7, 7, 7, 7, 7, 7, 7, 7, 7, 7, 7, 7, 7, 7, 7, 7, 7, 7, 7, 7, 7, 7, 8, 8, 8, 8, 8, 8, 8, 8, 8, 8, 8, 8, 8, 8, 8, 8, 8, 8, 8, 8, 8, 8, 8, 8, 8, 8, 8, 8, 8, 8, 8, 8, 8, 8, 8, 8, 8, 8, 8, 8, 8, 8, 8, 8, 8, 8, 8, 8, 8, 8, 8, 8, 8, 8, 8, 8, 8, 8, 8, 8, 8, 8, 8, 8, 8, 8, 8, 8, 8, 8, 8, 8, 8, 8, 8, 8, 8, 8, 8, 8, 8, 8, 8, 8, 8, 8, 8, 8, 8, 8, 8, 8, 8, 8, 8, 8, 8, 8, 8, 8, 8, 8, 8, 8, 8, 8, 8, 8, 8, 8, 8, 8, 8, 8, 8, 8, 8, 8, 8, 8, 8, 8, 8, 8, 8, 8, 8, 8]))) (.t 21), none, []⟩,
 ⟨some 23, .conv .i64 (.t 22), none, []⟩,
 ⟨some 24, .bin .add (.t 19) (.t 23), none, []⟩,
 ⟨some 2, .mv (.t 24), none, []⟩] [2])
 (.ret)))))
def Z20 : Fn :=
 { nparams := 1, nblk := 0, results := [.tmp 2], body := Z20_B }
def Z1y_B : Cd :=
 .seq (.region [⟨some 2, .mv (.c (.int .i64 0)), none, []⟩] [0])
 (.seq (.cond (.c (.bool false))
 (.seq (.region [⟨some 3, .mv (.t 0), none, []⟩,
 ⟨some 4, .conv .u32 (.t 3), none, []⟩,
 ⟨some 5, .call .flat [] (.f F1z) [(.t 4)], none, []⟩,
 ⟨some 2, .mv (.t 5), none, []⟩] [2])
 (.ret))
 (.skip))
 (.seq (.region [⟨some 6, .mv (.t 0), none, []⟩,
 ⟨some 7, .call .flat [] (.f F20) [(.t 6)], none, []⟩,
 ⟨some 2, .mv (.t 7), none, []⟩] [2])
 (.ret)))
def Z1y : Fn :=
 { nparams := 1, nblk := 0, results := [.tmp 2], body := Z1y_B }
def Z2v_L0 : Cd :=
 .block 1 (.seq (.region [⟨some 21, .mv (.t 2), none, []⟩,
 ⟨some 22, .mv (.t 1), none, []⟩,
 ⟨some 23, .bin .sub (.t 21) (.t 22), none, []⟩,
 ⟨some 12, .mv (.t 23), none, []⟩] [0, 1, 2, 3, 4, 10, 11, 12])
 (.seq (.seq (.region [⟨some 24, .mv (.t 12), none, []⟩,
 ⟨some 25, .bin .leq (.t 24) (.c (.int .i64 12)), none, []⟩] [0, 1, 2, 3, 4, 10, 11, 12, 25])
 (.cond (.t 25)
 (.seq (.region [⟨some 26, .mv (.t 0), none, []⟩,
 ⟨some 27, .mv (.t 1), none, []⟩,
 ⟨some 28, .mv (.t 2), none, []⟩,
 ⟨some 29, .mv (.t 4), none, []⟩,
 ⟨some 30, .call .heap [] (.f F2g) [(.t 26), (.t 27), (.t 28), (.t 29)], none, []⟩] [])
 (.ret))
 (.skip)))
 (.seq (.seq (.region [⟨some 31, .mv (.t 3), none, []⟩,
 ⟨some 32, .bin .eql (.t 31) (.c (.int .i64 0)), none, []⟩] [0, 1, 2, 3, 4, 10, 11, 12, 32])
 (.cond (.t 32)
 (.seq (.region [⟨some 33, .mv (.t 0), none, []⟩,
 ⟨some 34, .mv (.t 1), none, []⟩,
 ⟨some 35, .mv (.t 2), none, []⟩,
 ⟨some 36, .mv (.t 4), none, []⟩,
 ⟨some 37, .call .heap [] (.f F2e) [(.t 33), (.t 34), (.t 35), (.t 36)], none, []⟩] [])
 (.ret))
 (.skip)))
 (.seq (.seq (.region [⟨some 38, .mv (.t 10), none, []⟩,
 ⟨some 39, .un .not (.t 38), none, []⟩] [0, 1, 2, 3, 4, 10, 11, 12, 39])
 (.cond (.t 39)
 (.seq (.region [⟨some 40, .mv (.t 0), none, []⟩,
 ⟨some 41, .mv (.t 1), none, []⟩,
 ⟨some 42, .mv (.t 2), none, []⟩,
 ⟨some 43, .mv (.t 4), none, []⟩,
 ⟨some 44, .call .heap [] (.f F2a) [(.t 40), (.t 41), (.t 42), (.t 43)], none, []⟩] [0, 1, 2, 3, 4, 10, 11, 12])
 (.region [⟨some 45, .mv (.t 3), none, []⟩,
 ⟨some 46, .bin .sub (.t 45) (.c (.int .i64 1)), none, []⟩,
 ⟨some 3, .mv (.t 46), none, []⟩] [0, 1, 2, 3, 4, 10, 11, 12]))
 (.skip)))
 (.seq (.region [⟨some 48, .mv (.t 0), none, []⟩,
 ⟨some 49, .mv (.t 1), none, []⟩,
 ⟨some 50, .mv (.t 2), none, []⟩,
 ⟨some 51, .mv (.t 4), none, []⟩,
 ⟨some 52, .call .flat [] (.f F2c) [(.t 48), (.t 49), (.t 50), (.t 51)], none, []⟩,
 ⟨some 47, .mv (.t 52), none, []⟩,
 ⟨some 53, .ext (.t 47) 0, none, []⟩,
 ⟨some 54, .ext (.t 47) 1, none, []⟩,
 ⟨some 13, .mv (.t 53), none, []⟩,
 ⟨some 14, .mv (.t 54), none, []⟩] [0, 1, 2, 3, 4, 10, 11, 12, 13, 14])
 (.seq (.seq (.region [⟨some 55, .mv (.t 14), none, []⟩,
 ⟨some 56, .bin .eql (.t 55) (.c (.int .i64 2)), none, []⟩] [0, 1, 2, 3, 4, 10, 11, 12, 13, 14, 56])
 (.cond (.t 56)
 (.seq (.region [⟨some 57, .mv (.t 0), none, []⟩,
 ⟨some 58, .mv (.t 1), none, []⟩,
 ⟨some 59, .mv (.t 2), none, []⟩,
 ⟨some 60, .mv (.t 4), none, []⟩,
 ⟨some 61, .call .heap [] (.f F2x) [(.t 57), (.t 58), (.t 59), (.t 60)], none, []⟩] [0, 1, 2, 3, 4, 10, 11, 12, 13])
 (.seq (.region [⟨some 62, .mv (.t 2), none, []⟩,
 ⟨some 63, .bin .sub (.t 62) (.c (.int .i64 1)), none, []⟩,
 ⟨some 64, .mv (.t 13), none, []⟩,
 ⟨some 65, .mv (.t 1), none, []⟩,
 ⟨some 66, .bin .sub (.t 64) (.t 65), none, []⟩,
 ⟨some 67, .bin .sub (.t 63) (.t 66), none, []⟩,
 ⟨some 13, .mv (.t 67), none, []⟩] [0, 1, 2, 3, 4, 10, 11, 12, 13])
 (.region [⟨some 14, .mv (.c (.int .i64 1)), none, []⟩] [0, 1, 2, 3, 4, 10, 11, 12, 13, 14])))
 (.skip)))
 (.seq (.seq (.region [⟨some 68, .mv (.t 10), none, []⟩,
 ⟨some 69, .mv (.t 68), none, []⟩,
 ⟨some 70, .mv (.t 11), some (69, true), []⟩,
 ⟨some 71, .pick (.t 69) (.t 70) (.c (.bool false)), none, []⟩,
 ⟨some 72, .mv (.t 71), none, []⟩,
 ⟨some 73, .mv (.t 14), some (72, true), []⟩,
 ⟨some 74, .bin .eql (.t 73) (.c (.int .i64 1)), some (72, true), []⟩,
 ⟨some 75, .pick (.t 72) (.t 74) (.c (.bool false)), none, []⟩] [0, 1, 2, 3, 4, 10, 11, 12, 13, 75])
 (.cond (.t 75)
 (.seq (.region [⟨some 76, .mv (.t 0), none, []⟩,
 ⟨some 77, .mv (.t 1), none, []⟩,
 ⟨some 78, .mv (.t 2), none, []⟩,
 ⟨some 79, .mv (.t 4), none, []⟩,
 ⟨some 80, .call .heap [] (.f F2p) [(.t 76), (.t 77), (.t 78), (.t 79)], none, []⟩] [0, 1, 2, 3, 4, 10, 11, 12, 13, 80])
 (.cond (.t 80)
 (.ret)
 (.skip)))
 (.skip)))
 (.seq (.seq (.region [⟨some 81, .mv (.t 1), none, []⟩,
 ⟨some 82, .bin .gtr (.t 81) (.c (.int .i64 0)), none, []⟩,
 ⟨some 83, .mv (.t 82), none, []⟩,
 ⟨some 84, .mv (.t 4), some (83, true), []⟩,
 ⟨some 85, .mv (.t 0), some (83, true), []⟩,
 ⟨some 86, .mv (.t 1), some (83, true), []⟩,
 ⟨some 87, .bin .sub (.t 86) (.c (.int .i64 1)), some (83, true), []⟩,
 ⟨some 88, .idxA none (.st [.leaf, .leaf]) (.t 85) (.t 87), some (83, true), []⟩,
 ⟨some 89, .load (.st [.leaf, .leaf]) (.t 88), some (83, true), []⟩,
 ⟨some 90, .mv (.t 0), some (83, true), []⟩,
 ⟨some 91, .mv (.t 13), some (83, true), []⟩,
 ⟨some 92, .idxA none (.st [.leaf, .leaf]) (.t 90) (.t 91), some (83, true), []⟩,
 ⟨some 93, .load (.st [.leaf, .leaf]) (.t 92), some (83, true), []⟩,
 ⟨some 94, .call .flat [] (.t 84) [(.t 89), (.t 93)], some (83, true), []⟩,
 ⟨some 95, .bin .lss (.t 94) (.c (.int .i64 0)), some (83, true), []⟩,
 ⟨some 96, .un .not (.t 95), some (83, true), []⟩,
 ⟨some 97, .pick (.t 83) (.t 96) (.c (.bool false)), none, []⟩] [0, 1, 2, 3, 4, 10, 11, 12, 13, 97])
 (.cond (.t 97)
 (.seq (.region [⟨some 98, .mv (.t 0), none, []⟩,
 ⟨some 99, .mv (.t 1), none, []⟩,
 ⟨some 100, .mv (.t 2), none, []⟩,
 ⟨some 101, .mv (.t 13), none, []⟩,
 ⟨some 102, .mv (.t 4), none, []⟩,
 ⟨some 103, .call .heap [] (.f F2t) [(.t 98), (.t 99), (.t 100), (.t 101), (.t 102)], none, []⟩,
 ⟨some 15, .mv (.t 103), none, []⟩] [0, 2, 3, 4, 10, 11, 15])
 (.seq (.region [⟨some 104, .mv (.t 15), none, []⟩,
 ⟨some 1, .mv (.t 104), none, []⟩] [0, 1, 2, 3, 4, 10, 11])
 (.exit 1)))
 (.skip)))
 (.seq (.region [⟨some 106, .mv (.t 0), none, []⟩,
 ⟨some 107, .mv (.t 1), none, []⟩,
 ⟨some 108, .mv (.t 2), none, []⟩,
 ⟨some 109, .mv (.t 13), none, []⟩,
 ⟨some 110, .mv (.t 4), none, []⟩,
 ⟨some 111, .call .heap [] (.f F2r) [(.t 106), (.t 107), (.t 108), (.t 109), (.t 110)], none, []⟩,
 ⟨some 105, .mv (.t 111), none, []⟩,
 ⟨some 112, .ext (.t 105) 0, none, []⟩,
 ⟨some 113, .ext (.t 105) 1, none, []⟩,
 ⟨some 16, .mv (.t 112), none, []⟩,
 ⟨some 17, .mv (.t 113), none, []⟩] [0, 1, 2, 3, 4, 12, 16, 17])
 (.seq (.region [⟨some 114, .mv (.t 17), none, []⟩,
 ⟨some 11, .mv (.t 114), none, []⟩] [0, 1, 2, 3, 4, 11, 12, 16])
 (.seq (.region [⟨some 115, .mv (.t 16), none, []⟩,
 ⟨some 116, .mv (.t 1), none, []⟩,
 ⟨some 117, .bin .sub (.t 115) (.t 116), none, []⟩,
 ⟨some 118, .mv (.t 2), none, []⟩,
 ⟨some 119, .mv (.t 16), none, []⟩,
 ⟨some 120, .bin .sub (.t 118) (.t 119), none, []⟩,
 ⟨some 18, .mv (.t 117), none, []⟩,
 ⟨some 19, .mv (.t 120), none, []⟩] [0, 1, 2, 3, 4, 11, 12, 16, 18, 19])
 (.seq (.region [⟨some 121, .mv (.t 12), none, []⟩,
 ⟨some 122, .bin .quo (.t 121) (.c (.int .i64 8)), none, []⟩,
 ⟨some 20, .mv (.t 122), none, []⟩] [0, 1, 2, 3, 4, 11, 16, 18, 19, 20])
 (.seq (.region [⟨some 123, .mv (.t 18), none, []⟩,
 ⟨some 124, .mv (.t 19), none, []⟩,
 ⟨some 125, .bin .lss (.t 123) (.t 124), none, []⟩] [0, 1, 2, 3, 4, 11, 16, 18, 19, 20, 125])
 (.cond (.t 125)
 (.seq (.region [⟨some 126, .mv (.t 18), none, []⟩,
 ⟨some 127, .mv (.t 20), none, []⟩,
 ⟨some 128, .bin .geq (.t 126) (.t 127), none, []⟩,
 ⟨some 10, .mv (.t 128), none, []⟩] [0, 1, 2, 3, 4, 10, 11, 16])
 (.seq (.region [⟨some 129, .mv (.t 0), none, []⟩,
 ⟨some 130, .mv (.t 1), none, []⟩,
 ⟨some 131, .mv (.t 16), none, []⟩,
 ⟨some 132, .mv (.t 3), none, []⟩,
 ⟨some 133, .mv (.t 4), none, []⟩,
 ⟨some 134, .call .heap [] (.f F2v) [(.t 129), (.t 130), (.t 131), (.t 132), (.t 133)], none, []⟩] [0, 2, 3, 4, 10, 11, 16])
 (.region [⟨some 135, .mv (.t 16), none, []⟩,
 ⟨some 136, .bin .add (.t 135) (.c (.int .i64 1)), none, []⟩,
 ⟨some 1, .mv (.t 136), none, []⟩] [0, 1, 2, 3, 4, 10, 11])))
 (.seq (.region [⟨some 137, .mv (.t 19), none, []⟩,
 ⟨some 138, .mv (.t 20), none, []⟩,
 ⟨some 139, .bin .geq (.t 137) (.t 138), none, []⟩,
 ⟨some 10, .mv (.t 139), none, []⟩] [0, 1, 2, 3, 4, 10, 11, 16])
 (.seq (.region [⟨some 140, .mv (.t 0), none, []⟩,
 ⟨some 141, .mv (.t 16), none, []⟩,
 ⟨some 142, .bin .add (.t 141) (.c (.int .i64 1)), none, []⟩,
 ⟨some 143, .mv (.t 2), none, []⟩,
 ⟨some 144, .mv (.t 3), none, []⟩,
 ⟨some 145, .mv (.t 4), none, []⟩,
 ⟨some 146, .call .heap [] (.f F2v) [(.t 140), (.t 142), (.t 143), (.t 144), (.t 145)], none, []⟩] [0, 1, 3, 4, 10, 11, 16])
 (.region [⟨some 147, .mv (.t 16), none, []⟩,
 ⟨some 2, .mv (.t 147), none, []⟩] [0, 1, 2, 3, 4, 10, 11])))))))))))))))))
def Z2v_B : Cd :=
 .seq (.region [⟨some 10, .mv (.c (.bool true)), none, []⟩] [0, 1, 2, 3, 4, 10])
 (.seq (.region [⟨some 11, .mv (.c (.bool true)), none, []⟩] [0, 1, 2, 3, 4, 10, 11])
 (.block 0 (.loop (Z2v_L0))))
def Z2v : Fn :=
 { nparams := 5, nblk := 0, results := [], body := Z2v_B }
def Z28_B : Cd :=
 .seq (.region [⟨some 5, .mv (.t 0), none, []⟩,
 ⟨some 6, .len false (.t 5), none, []⟩,
 ⟨some 4, .mv (.t 6), none, []⟩] [0, 1, 4])
 (.region [⟨some 7, .mv (.t 0), none, []⟩,
 ⟨some 8, .mv (.t 4), none, []⟩,
 ⟨some 9, .mv (.t 4), none, []⟩,
 ⟨some 10, .conv .u64 (.t 9), none, []⟩,
 ⟨some 11, .call .flat [] (.f F1y) [(.t 10)], none, []⟩,
 ⟨some 12, .mv (.t 1), none, []⟩,
 ⟨some 13, .call .heap [] (.f F2v) [(.t 7), (.c (.int .i64 0)), (.t 8), (.t 11), (.t 12)], none, []⟩] [])
def Z28 : Fn :=
 { nparams := 2, nblk := 0, results := [], body := Z28_B }
def Z2_B : Cd :=
 .seq (.region [⟨some 2, .mv (.c (.bool false)), none, []⟩] [0])
 (.seq (.region [⟨some 3, .mv (.t 0), none, []⟩,
 ⟨some 4, .mv (.t 0), none, []⟩,
 ⟨some 5, .bin .neq (.t 3) (.t 4), none, []⟩,
 ⟨some 2, .mv (.t 5), none, []⟩] [2])
 (.ret))
def Z2 : Fn :=
 { nparams := 1, nblk := 0, results := [.tmp 2], body := Z2_B }
def Z0_B : Cd :=
 .seq (.region [⟨some 4, .mv (.c (.int .i64 0)), none, []⟩] [0, 1])
 (.seq (.region [⟨some 7, .mv (.t 0), none, []⟩,
 ⟨some 8, .call .flat [] (.f F2) [(.t 7)], none, []⟩,
 ⟨some 5, .mv (.t 8), none, []⟩] [0, 1, 5])
 (.seq (.region [⟨some 9, .mv (.t 1), none, []⟩,
 ⟨some 10, .call .flat [] (.f F2) [(.t 9)], none, []⟩,
 ⟨some 6, .mv (.t 10), none, []⟩] [0, 1, 5, 6])
 (.seq (.seq (.region [⟨some 11, .mv (.t 5), none, []⟩] [0, 1, 6, 11])
 (.cond (.t 11)
 (.seq (.seq (.region [⟨some 12, .mv (.t 6), none, []⟩] [12])
 (.cond (.t 12)
 (.seq (.region [⟨some 4, .mv (.c (.int .i64 0)), none, []⟩] [4])
 (.ret))
 (.skip)))
 (.seq (.region [⟨some 4, .mv (.c (.int .i64 (-1))), none, []⟩] [4])
 (.ret)))
 (.skip)))
 (.seq (.seq (.region [⟨some 13, .mv (.t 6), none, []⟩] [0, 1, 13])
 (.cond (.t 13)
 (.seq (.region [⟨some 4, .mv (.c (.int .i64 1)), none, []⟩] [4])
 (.ret))
 (.skip)))
 (.seq (.seq (.region [⟨some 14, .mv (.t 0), none, []⟩,
 ⟨some 15, .mv (.t 1), none, []⟩,
 ⟨some 16, .bin .lss (.t 14) (.t 15), none, []⟩] [0, 1, 16])
 (.cond (.t 16)
 (.seq (.region [⟨some 4, .mv (.c (.int .i64 (-1))), none, []⟩] [4])
 (.ret))
 (.skip)))
 (.seq (.seq (.region [⟨some 17, .mv (.t 0), none, []⟩,
 ⟨some 18, .mv (.t 1), none, []⟩,
 ⟨some 19, .bin .gtr (.t 17) (.t 18), none, []⟩] [19])
 (.cond (.t 19)
 (.seq (.region [⟨some 4, .mv (.c (.int .i64 1)), none, []⟩] [4])
 (.ret))
 (.skip)))
 (.seq (.region [⟨some 4, .mv (.c (.int .i64 0)), none, []⟩] [4])
 (.ret))))))))
def Z0 : Fn :=
 { nparams := 2, nblk := 0, results := [.tmp 4], body := Z0_B }
def Z3_B : Cd :=
 .seq (.region [⟨some 2, .mv (.c (.bool false)), none, []⟩] [0])
 (.seq (.region [⟨some 3, .mv (.t 0), none, []⟩,
 ⟨some 4, .mv (.t 0), none, []⟩,
 ⟨some 5, .bin .neq (.t 3) (.t 4), none, []⟩,
 ⟨some 2, .mv (.t 5), none, []⟩] [2])
 (.ret))
def Z3 : Fn :=
 { nparams := 1, nblk := 0, results := [.tmp 2], body := Z3_B }
def Z1_B : Cd :=
 .seq (.region [⟨some 4, .mv (.c (.int .i64 0)), none, []⟩] [0, 1])
 (.seq (.region [⟨some 7, .mv (.t 0), none, []⟩,
 ⟨some 8, .call .flat [] (.f F3) [(.t 7)], none, []⟩,
 ⟨some 5, .mv (.t 8), none, []⟩] [0, 1, 5])
 (.seq (.region [⟨some 9, .mv (.t 1), none, []⟩,
 ⟨some 10, .call .flat [] (.f F3) [(.t 9)], none, []⟩,
 ⟨some 6, .mv (.t 10), none, []⟩] [0, 1, 5, 6])
 (.seq (.seq (.region [⟨some 11, .mv (.t 5), none, []⟩] [0, 1, 6, 11])
 (.cond (.t 11)
 (.seq (.seq (.region [⟨some 12, .mv (.t 6), none, []⟩] [12])
 (.cond (.t 12)
 (.seq (.region [⟨some 4, .mv (.c (.int .i64 0)), none, []⟩] [4])
 (.ret))
 (.skip)))
 (.seq (.region [⟨some 4, .mv (.c (.int .i64 (-1))), none, []⟩] [4])
 (.ret)))
 (.skip)))
 (.seq (.seq (.region [⟨some 13, .mv (.t 6), none, []⟩] [0, 1, 13])
 (.cond (.t 13)
 (.seq (.region [⟨some 4, .mv (.c (.int .i64 1)), none, []⟩] [4])
 (.ret))
 (.skip)))
 (.seq (.seq (.region [⟨some 14, .mv (.t 0), none, []⟩,
 ⟨some 15, .mv (.t 1), none, []⟩,
 ⟨some 16, .bin .lss (.t 14) (.t 15), none, []⟩] [0, 1, 16])
 (.cond (.t 16)
 (.seq (.region [⟨some 4, .mv (.c (.int .i64 (-1))), none, []⟩] [4])
 (.ret))
 (.skip)))
 (.seq (.seq (.region [⟨some 17, .mv (.t 0), none, []⟩,
 ⟨some 18, .mv (.t 1), none, []⟩,
 ⟨some 19, .bin .gtr (.t 17) (.t 18), none, []⟩] [19])
 (.cond (.t 19)
 (.seq (.region [⟨some 4, .mv (.c (.int .i64 1)), none, []⟩] [4])
 (.ret))
 (.skip)))
 (.seq (.region [⟨some 4, .mv (.c (.int .i64 0)), none, []⟩] [4])
 (.ret))))))))
def Z1 : Fn :=
 { nparams := 2, nblk := 0, results := [.tmp 4], body := Z1_B }
def ir_slices_insertionSortCmpFunc_impl_row_L0 : Cd :=
 .seq (.seq (.region [⟨some 18, .mv (.t 9), none, []⟩,
 ⟨some 19, .mv (.t 1), none, []⟩,
 ⟨some 20, .bin .gtr (.t 18) (.t 19), none, []⟩,
 ⟨some 21, .mv (.t 20), none, []⟩,
 ⟨some 22, .mv (.t 3), some (21, true), []⟩,
 ⟨some 23, .mv (.t 0), some (21, true), []⟩,
 ⟨some 24, .mv (.t 9), some (21, true), []⟩,
 ⟨some 25, .idxA none .leaf (.t 23) (.t 24), some (21, true), []⟩,
 ⟨some 26, .load .leaf (.t 25), some (21, true), []⟩,
 ⟨some 27, .mv (.t 0), some (21, true), []⟩,
 ⟨some 28, .mv (.t 9), some (21, true), []⟩,
 ⟨some 29, .bin .sub (.t 28) (.c (.int .i64 1)), some (21, true), []⟩,
 ⟨some 30, .idxA none .leaf (.t 27) (.t 29), some (21, true), []⟩,
 ⟨some 31, .load .leaf (.t 30), some (21, true), []⟩,
 ⟨some 32, .call .flat [] (.t 22) [(.t 26), (.t 31)], some (21, true), []⟩,
 ⟨some 33, .bin .lss (.t 32) (.c (.int .i64 0)), some (21, true), []⟩,
 ⟨some 34, .pick (.t 21) (.t 33) (.c (.bool false)), none, []⟩] [0, 1, 2, 3, 8, 9, 34])
 (.cond (.t 34)
 (.skip)
 (.exit 2)))
 (.seq (.block 3 (.region [⟨some 37, .mv (.t 0), none, []⟩,
 ⟨some 38, .mv (.t 9), none, []⟩,
 ⟨some 39, .mv (.t 0), none, []⟩,
 ⟨some 40, .mv (.t 9), none, []⟩,
 ⟨some 41, .bin .sub (.t 40) (.c (.int .i64 1)), none, []⟩,
 ⟨some 42, .mv (.t 0), none, []⟩,
 ⟨some 43, .mv (.t 9), none, []⟩,
 ⟨some 44, .bin .sub (.t 43) (.c (.int .i64 1)), none, []⟩,
 ⟨some 45, .idxA none .leaf (.t 42) (.t 44), none, []⟩,
 ⟨some 46, .load .leaf (.t 45), none, []⟩,
 ⟨some 47, .mv (.t 0), none, []⟩,
 ⟨some 48, .mv (.t 9), none, []⟩,
 ⟨some 49, .idxA none .leaf (.t 47) (.t 48), none, []⟩,
 ⟨some 50, .load .leaf (.t 49), none, []⟩,
 ⟨some 51, .idxA none .leaf (.t 37) (.t 38), none, []⟩,
 ⟨none, .store false .leaf (.t 51) (.t 46), none, []⟩,
 ⟨some 52, .idxA none .leaf (.t 39) (.t 41), none, []⟩,
 ⟨none, .store false .leaf (.t 52) (.t 50), none, []⟩] [0, 1, 2, 3, 8, 9]))
 (.region [⟨some 35, .mv (.t 9), none, []⟩,
 ⟨some 36, .bin .sub (.t 35) (.c (.int .i64 1)), none, []⟩,
 ⟨some 9, .mv (.t 36), none, []⟩] [0, 1, 2, 3, 8, 9]))
def ir_slices_insertionSortCmpFunc_impl_row_L1 : Cd :=
 .seq (.seq (.region [⟨some 12, .mv (.t 8), none, []⟩,
 ⟨some 13, .mv (.t 2), none, []⟩,
 ⟨some 14, .bin .lss (.t 12) (.t 13), none, []⟩] [0, 1, 2, 3, 8, 14])
 (.cond (.t 14)
 (.skip)
 (.exit 0)))
 (.seq (.block 1 (.seq (.region [⟨some 17, .mv (.t 8), none, []⟩,
 ⟨some 9, .mv (.t 17), none, []⟩] [0, 1, 2, 3, 8, 9])
 (.block 2 (.loop (ir_slices_insertionSortCmpFunc_impl_row_L0)))))
 (.region [⟨some 15, .mv (.t 8), none, []⟩,
 ⟨some 16, .bin .add (.t 15) (.c (.int .i64 1)), none, []⟩,
 ⟨some 8, .mv (.t 16), none, []⟩] [0, 1, 2, 3, 8]))
def ir_slices_insertionSortCmpFunc_impl_row_B : Cd :=
 .seq (.region [⟨some 10, .mv (.t 1), none, []⟩,
 ⟨some 11, .bin .add (.t 10) (.c (.int .i64 1)), none, []⟩,
 ⟨some 8, .mv (.t 11), none, []⟩] [0, 1, 2, 3, 8])
 (.block 0 (.loop (ir_slices_insertionSortCmpFunc_impl_row_L1)))
def Z2h : Fn :=
 { nparams := 4, nblk := 0, results := [], body := ir_slices_insertionSortCmpFunc_impl_row_B }
def ir_slices_pdqsortCmpFunc_impl_row_L0 : Cd :=
 .block 1 (.seq (.region [⟨some 21, .mv (.t 2), none, []⟩,
 ⟨some 22, .mv (.t 1), none, []⟩,
 ⟨some 23, .bin .sub (.t 21) (.t 22), none, []⟩,
 ⟨some 12, .mv (.t 23), none, []⟩] [0, 1, 2, 3, 4, 10, 11, 12])
 (.seq (.seq (.region [⟨some 24, .mv (.t 12), none, []⟩,
 ⟨some 25, .bin .leq (.t 24) (.c (.int .i64 12)), none, []⟩] [0, 1, 2, 3, 4, 10, 11, 12, 25])
 (.cond (.t 25)
 (.seq (.region [⟨some 26, .mv (.t 0), none, []⟩,
 ⟨some 27, .mv (.t 1), none, []⟩,
 ⟨some 28, .mv (.t 2), none, []⟩,
 ⟨some 29, .mv (.t 4), none, []⟩,
 ⟨some 30, .call .heap [] (.f F2h) [(.t 26), (.t 27), (.t 28), (.t 29)], none, []⟩] [])
 (.ret))
 (.skip)))
 (.seq (.seq (.region [⟨some 31, .mv (.t 3), none, []⟩,
 ⟨some 32, .bin .eql (.t 31) (.c (.int .i64 0)), none, []⟩] [0, 1, 2, 3, 4, 10, 11, 12, 32])
 (.cond (.t 32)
 (.seq (.region [⟨some 33, .mv (.t 0), none, []⟩,
 ⟨some 34, .mv (.t 1), none, []⟩,
 ⟨some 35, .mv (.t 2), none, []⟩,
 ⟨some 36, .mv (.t 4), none, []⟩,
 ⟨some 37, .call .heap [] (.f F2f) [(.t 33), (.t 34), (.t 35), (.t 36)], none, []⟩] [])
 (.ret))
 (.skip)))
 (.seq (.seq (.region [⟨some 38, .mv (.t 10), none, []⟩,
 ⟨some 39, .un .not (.t 38), none, []⟩] [0, 1, 2, 3, 4, 10, 11, 12, 39])
 (.cond (.t 39)
 (.seq (.region [⟨some 40, .mv (.t 0), none, []⟩,
 ⟨some 41, .mv (.t 1), none, []⟩,
 ⟨some 42, .mv (.t 2), none, []⟩,
 ⟨some 43, .mv (.t 4), none, []⟩,
 ⟨some 44, .call .heap [] (.f F2b) [(.t 40), (.t 41), (.t 42), (.t 43)], none, []⟩] [0, 1, 2, 3, 4, 10, 11, 12])
 (.region [⟨some 45, .mv (.t 3), none, []⟩,
 ⟨some 46, .bin .sub (.t 45) (.c (.int .i64 1)), none, []⟩,
 ⟨some 3, .mv (.t 46), none, []⟩] [0, 1, 2, 3, 4, 10, 11, 12]))
 (.skip)))
 (.seq (.region [⟨some 48, .mv (.t 0), none, []⟩,
 ⟨some 49, .mv (.t 1), none, []⟩,
 ⟨some 50, .mv (.t 2), none, []⟩,
 ⟨some 51, .mv (.t 4), none, []⟩,
 ⟨some 52, .call .flat [] (.f F2d) [(.t 48), (.t 49), (.t 50), (.t 51)], none, []⟩,
 ⟨some 47, .mv (.t 52), none, []⟩,
 ⟨some 53, .ext (.t 47) 0, none, []⟩,
 ⟨some 54, .ext (.t 47) 1, none, []⟩,
 ⟨some 13, .mv (.t 53), none, []⟩,
 ⟨some 14, .mv (.t 54), none, []⟩] [0, 1, 2, 3, 4, 10, 11, 12, 13, 14])
 (.seq (.seq (.region [⟨some 55, .mv (.t 14), none, []⟩,
 ⟨some 56, .bin .eql (.t 55) (.c (.int .i64 2)), none, []⟩] [0, 1, 2, 3, 4, 10, 11, 12, 13, 14, 56])
 (.cond (.t 56)
 (.seq (.region [⟨some 57, .mv (.t 0), none, []⟩,
 ⟨some 58, .mv (.t 1), none, []⟩,
 ⟨some 59, .mv (.t 2), none, []⟩,
 ⟨some 60, .mv (.t 4), none, []⟩,
 ⟨some 61, .call .heap [] (.f F2y) [(.t 57), (.t 58), (.t 59), (.t 60)], none, []⟩] [0, 1, 2, 3, 4, 10, 11, 12, 13])
 (.seq (.region [⟨some 62, .mv (.t 2), none, []⟩,
 ⟨some 63, .bin .sub (.t 62) (.c (.int .i64 1)), none, []⟩,
 ⟨some 64, .mv (.t 13), none, []⟩,
 ⟨some 65, .mv (.t 1), none, []⟩,
 ⟨some 66, .bin .sub (.t 64) (.t 65), none, []⟩,
 ⟨some 67, .bin .sub (.t 63) (.t 66), none, []⟩,
 ⟨some 13, .mv (.t 67), none, []⟩] [0, 1, 2, 3, 4, 10, 11, 12, 13])
 (.region [⟨some 14, .mv (.c (.int .i64 1)), none, []⟩] [0, 1, 2, 3, 4, 10, 11, 12, 13, 14])))
 (.skip)))
 (.seq (.seq (.region [⟨some 68, .mv (.t 10), none, []⟩,
 ⟨some 69, .mv (.t 68), none, []⟩,
 ⟨some 70, .mv (.t 11), some (69, true), []⟩,
 ⟨some 71, .pick (.t 69) (.t 70) (.c (.bool false)), none, []⟩,
 ⟨some 72, .mv (.t 71), none, []⟩,
 ⟨some 73, .mv (.t 14), some (72, true), []⟩,
 ⟨some 74, .bin .eql (.t 73) (.c (.int .i64 1)), some (72, true), []⟩,
 ⟨some 75, .pick (.t 72) (.t 74) (.c (.bool false)), none, []⟩] [0, 1, 2, 3, 4, 10, 11, 12, 13, 75])
 (.cond (.t 75)
 (.seq (.region [⟨some 76, .mv (.t 0), none, []⟩,
 ⟨some 77, .mv (.t 1), none, []⟩,
 ⟨some 78, .mv (.t 2), none, []⟩,
 ⟨some 79, .mv (.t 4), none, []⟩,
 ⟨some 80, .call .heap [] (.f F2q) [(.t 76), (.t 77), (.t 78), (.t 79)], none, []⟩] [0, 1, 2, 3, 4, 10, 11, 12, 13, 80])
 (.cond (.t 80)
 (.ret)
 (.skip)))
 (.skip)))
 (.seq (.seq (.region [⟨some 81, .mv (.t 1), none, []⟩,
 ⟨some 82, .bin .gtr (.t 81) (.c (.int .i64 0)), none, []⟩,
 ⟨some 83, .mv (.t 82), none, []⟩,
 ⟨some 84, .mv (.t 4), some (83, true), []⟩,
 ⟨some 85, .mv (.t 0), some (83, true), []⟩,
 ⟨some 86, .mv (.t 1), some (83, true), []⟩,
 ⟨some 87, .bin .sub (.t 86) (.c (.int .i64 1)), some (83, true), []⟩,
 ⟨some 88, .idxA none .leaf (.t 85) (.t 87), some (83, true), []⟩,
 ⟨some 89, .load .leaf (.t 88), some (83, true), []⟩,
 ⟨some 90, .mv (.t 0), some (83, true), []⟩,
 ⟨some 91, .mv (.t 13), some (83, true), []⟩,
 ⟨some 92, .idxA none .leaf (.t 90) (.t 91), some (83, true), []⟩,
 ⟨some 93, .load .leaf (.t 92), some (83, true), []⟩,
 ⟨some 94, .call .flat [] (.t 84) [(.t 89), (.t 93)], some (83, true), []⟩,
 ⟨some 95, .bin .lss (.t 94) (.c (.int .i64 0)), some (83, true), []⟩,
 ⟨some 96, .un .not (.t 95), some (83, true), []⟩,
 ⟨some 97, .pick (.t 83) (.t 96) (.c (.bool false)), none, []⟩] [0, 1, 2, 3, 4, 10, 11, 12, 13, 97])
 (.cond (.t 97)
 (.seq (.region [⟨some 98, .mv (.t 0), none, []⟩,
 ⟨some 99, .mv (.t 1), none, []⟩,
 ⟨some 100, .mv (.t 2), none, []⟩,
 ⟨some 101, .mv (.t 13), none, []⟩,
 ⟨some 102, .mv (.t 4), none, []⟩,
 ⟨some 103, .call .heap [] (.f F2u) [(.t 98), (.t 99), (.t 100), (.t 101), (.t 102)], none, []⟩,
 ⟨some 15, .mv (.t 103), none, []⟩] [0, 2, 3, 4, 10, 11, 15])
 (.seq (.region [⟨some 104, .mv (.t 15), none, []⟩,
 ⟨some 1, .mv (.t 104), none, []⟩] [0, 1, 2, 3, 4, 10, 11])
 (.exit 1)))
 (.skip)))
 (.seq (.region [⟨some 106, .mv (.t 0), none, []⟩,
 ⟨some 107, .mv (.t 1), none, []⟩,
 ⟨some 108, .mv (.t 2), none, []⟩,
 ⟨some 109, .mv (.t 13), none, []⟩,
 ⟨some 110, .mv (.t 4), none, []⟩,
 ⟨some 111, .call .heap [] (.f F2s) [(.t 106), (.t 107), (.t 108), (.t 109), (.t 110)], none, []⟩,
 ⟨some 105, .mv (.t 111), none, []⟩,
 ⟨some 112, .ext (.t 105) 0, none, []⟩,
 ⟨some 113, .ext (.t 105) 1, none, []⟩,
 ⟨some 16, .mv (.t 112), none, []⟩,
 ⟨some 17, .mv (.t 113), none, []⟩] [0, 1, 2, 3, 4, 12, 16, 17])
 (.seq (.region [⟨some 114, .mv (.t 17), none, []⟩,
 ⟨some 11, .mv (.t 114), none, []⟩] [0, 1, 2, 3, 4, 11, 12, 16])
 (.seq (.region [⟨some 115, .mv (.t 16), none, []⟩,
 ⟨some 116, .mv (.t 1), none, []⟩,
 ⟨some 117, .bin .sub (.t 115) (.t 116), none, []⟩,
 ⟨some 118, .mv (.t 2), none, []⟩,
 ⟨some 119, .mv (.t 16), none, []⟩,
 ⟨some 120, .bin .sub (.t 118) (.t 119), none, []⟩,
 ⟨some 18, .mv (.t 117), none, []⟩,
 ⟨some 19, .mv (.t 120), none, []⟩] [0, 1, 2, 3, 4, 11, 12, 16, 18, 19])
 (.seq (.region [⟨some 121, .mv (.t 12), none, []⟩,
 ⟨some 122, .bin .quo (.t 121) (.c (.int .i64 8)), none, []⟩,
 ⟨some 20, .mv (.t 122), none, []⟩] [0, 1, 2, 3, 4, 11, 16, 18, 19, 20])
 (.seq (.region [⟨some 123, .mv (.t 18), none, []⟩,
 ⟨some 124, .mv (.t 19), none, []⟩,
 ⟨some 125, .bin .lss (.t 123) (.t 124), none, []⟩] [0, 1, 2, 3, 4, 11, 16, 18, 19, 20, 125])
 (.cond (.t 125)
 (.seq (.region [⟨some 126, .mv (.t 18), none, []⟩,
 ⟨some 127, .mv (.t 20), none, []⟩,
 ⟨some 128, .bin .geq (.t 126) (.t 127), none, []⟩,
 ⟨some 10, .mv (.t 128), none, []⟩] [0, 1, 2, 3, 4, 10, 11, 16])
 (.seq (.region [⟨some 129, .mv (.t 0), none, []⟩,
 ⟨some 130, .mv (.t 1), none, []⟩,
 ⟨some 131, .mv (.t 16), none, []⟩,
 ⟨some 132, .mv (.t 3), none, []⟩,
 ⟨some 133, .mv (.t 4), none, []⟩,
 ⟨some 134, .call .heap [] (.f F2w) [(.t 129), (.t 130), (.t 131), (.t 132), (.t 133)], none, []⟩] [0, 2, 3, 4, 10, 11, 16])
 (.region [⟨some 135, .mv (.t 16), none, []⟩,
 ⟨some 136, .bin .add (.t 135) (.c (.int .i64 1)), none, []⟩,
 ⟨some 1, .mv (.t 136), none, []⟩] [0, 1, 2, 3, 4, 10, 11])))
 (.seq (.region [⟨some 137, .mv (.t 19), none, []⟩,
 ⟨some 138, .mv (.t 20), none, []⟩,
 ⟨some 139, .bin .geq (.t 137) (.t 138), none, []⟩,
 ⟨some 10, .mv (.t 139), none, []⟩] [0, 1, 2, 3, 4, 10, 11, 16])
 (.seq (.region [⟨some 140, .mv (.t 0), none, []⟩,
 ⟨some 141, .mv (.t 16), none, []⟩,
 ⟨some 142, .bin .add (.t 141) (.c (.int .i64 1)), none, []⟩,
 ⟨some 143, .mv (.t 2), none, []⟩,
 ⟨some 144, .mv (.t 3), none, []⟩,
 ⟨some 145, .mv (.t 4), none, []⟩,
 ⟨some 146, .call .heap [] (.f F2w) [(.t 140), (.t 142), (.t 143), (.t 144), (.t 145)], none, []⟩] [0, 1, 3, 4, 10, 11, 16])
 (.region [⟨some 147, .mv (.t 16), none, []⟩,
 ⟨some 2, .mv (.t 147), none, []⟩] [0, 1, 2, 3, 4, 10, 11])))))))))))))))))
def ir_slices_pdqsortCmpFunc_impl_row_B : Cd :=
 .seq (.region [⟨some 10, .mv (.c (.bool true)), none, []⟩] [0, 1, 2, 3, 4, 10])
 (.seq (.region [⟨some 11, .mv (.c (.bool true)), none, []⟩] [0, 1, 2, 3, 4, 10, 11])
 (.block 0 (.loop (ir_slices_pdqsortCmpFunc_impl_row_L0))))
def Z2w : Fn :=
 { nparams := 5, nblk := 0, results := [], body := ir_slices_pdqsortCmpFunc_impl_row_B }
def ir_slices_SortFunc_impl_row_impl_row_B : Cd :=
 .seq (.region [⟨some 5, .mv (.t 0), none, []⟩,
 ⟨some 6, .len false (.t 5), none, []⟩,
 ⟨some 4, .mv (.t 6), none, []⟩] [0, 1, 4])
 (.region [⟨some 7, .mv (.t 0), none, []⟩,
 ⟨some 8, .mv (.t 4), none, []⟩,
 ⟨some 9, .mv (.t 4), none, []⟩,
 ⟨some 10, .conv .u64 (.t 9), none, []⟩,
 ⟨some 11, .call .flat [] (.f F1y) [(.t 10)], none, []⟩,
 ⟨some 12, .mv (.t 1), none, []⟩,
 ⟨some 13, .call .heap [] (.f F2w) [(.t 7), (.c (.int .i64 0)), (.t 8), (.t 11), (.t 12)], none, []⟩] [])
def Z29 : Fn :=
 { nparams := 2, nblk := 0, results := [], body := ir_slices_SortFunc_impl_row_impl_row_B }
def Z22_L0 : Cd :=
 .seq (.region [⟨some 12, .bin .lss (.t 11) (.t 10), none, []⟩] [0, 3, 9, 10, 11, 12])
 (.seq (.cond (.t 12)
 (.skip)
 (.exit 0))
 (.seq (.block 1 (.seq (.region [⟨some 13, .idxA none .leaf (.t 9) (.t 11), none, []⟩,
 ⟨some 14, .load .leaf (.t 13), none, []⟩,
 ⟨some 5, .mv (.t 14), none, []⟩] [0, 3, 5, 9, 10, 11])
 (.seq (.region [⟨some 15, .mv (.t 3), none, []⟩,
 ⟨some 16, .mv (.t 5), none, []⟩,
 ⟨some 17, .len false (.t 16), none, []⟩,
 ⟨some 18, .bin .add (.t 15) (.t 17), none, []⟩,
 ⟨some 3, .mv (.t 18), none, []⟩] [0, 3, 9, 10, 11])
 (.seq (.region [⟨some 19, .mv (.t 3), none, []⟩,
 ⟨some 20, .bin .lss (.t 19) (.c (.int .i64 0)), none, []⟩] [0, 3, 9, 10, 11, 20])
 (.cond (.t 20)
 (.region [⟨some 21, .fail, none, []⟩,
 ⟨none, .fail, none, []⟩] [0, 3, 9, 10, 11])
 (.skip))))))
 (.region [⟨some 22, .bin .add (.t 11) (.c (.int .i64 1)), none, []⟩,
 ⟨some 11, .mv (.t 22), none, []⟩] [0, 3, 9, 10, 11])))
def Z22_L1 : Cd :=
 .seq (.region [⟨some 28, .bin .lss (.t 27) (.t 26), none, []⟩] [6, 25, 26, 27, 28])
 (.seq (.cond (.t 28)
 (.skip)
 (.exit 2))
 (.seq (.block 3 (.seq (.region [⟨some 29, .idxA none .leaf (.t 25) (.t 27), none, []⟩,
 ⟨some 30, .load .leaf (.t 29), none, []⟩,
 ⟨some 8, .mv (.t 30), none, []⟩] [6, 8, 25, 26, 27])
 (.region [⟨some 31, .mv (.t 6), none, []⟩,
 ⟨some 32, .mv (.t 8), none, []⟩,
 ⟨some 33, .append (.arr 64 .leaf) 1 64 (.t 31) (.t 32), none, []⟩,
 ⟨some 6, .mv (.t 33), none, []⟩] [6, 25, 26, 27])))
 (.region [⟨some 34, .bin .add (.t 27) (.c (.int .i64 1)), none, []⟩,
 ⟨some 27, .mv (.t 34), none, []⟩] [6, 25, 26, 27])))
def Z22_B : Cd :=
 .seq (.region [⟨some 2, .mv (.c (.sl (.arr 64 .leaf) [])), none, []⟩] [0])
 (.seq (.region [⟨some 3, .mv (.c (.int .i64 0)), none, []⟩] [0, 3])
 (.seq (.seq (.region [⟨some 9, .mv (.t 0), none, []⟩,
 ⟨some 10, .len false (.t 9), none, []⟩,
 ⟨some 11, .mv (.c (.int .i64 0)), none, []⟩] [0, 3, 9, 10, 11])
 (.block 0 (.loop (Z22_L0))))
 (.seq (.region [⟨some 23, .mv (.t 3), none, []⟩,
 ⟨some 24, .call .heap [0] (.f F25) [(.c (.nils (.arr 64 .leaf))), (.t 23)], none, []⟩,
 ⟨some 6, .mv (.t 24), none, []⟩] [0, 6])
 (.seq (.seq (.region [⟨some 25, .mv (.t 0), none, []⟩,
 ⟨some 26, .len false (.t 25), none, []⟩,
 ⟨some 27, .mv (.c (.int .i64 0)), none, []⟩] [6, 25, 26, 27])
 (.block 2 (.loop (Z22_L1))))
 (.seq (.region [⟨some 35, .mv (.t 6), none, []⟩,
 ⟨some 2, .mv (.t 35), none, []⟩] [2])
 (.ret))))))
def Z22 : Fn :=
 { nparams := 1, nblk := 2, results := [.tmp 2], body := Z22_B }
end Pe

namespace Pe
open Go Gq
variable {T : Nat → Option Fn} {A : Oracle}
def noTup (ds : List D) : Prop := ∀ x ∈ ds, x.isTup = false
theorem toDs_map (h : Heap) : ∀ {ds : List D}, noTup ds → toDs h (ds.map .d) = some ds
 | [], _ => rfl
 | d :: ds, hn => by
  have h1 : d.isTup = false := hn d (by simp)
  have h2 := toDs_map h (ds := ds) fun x hx => hn x (by simp [hx])
  simp [h1, h2]
theorem toDs_app (h : Heap) : ∀ {a b : List V} {x y : List D}, toDs h a = some x → toDs h b = some y → toDs h (a ++ b) = some (x ++ y)
 | [], b, x, y, h1, h2 => by simp at h1; subst h1; simpa using h2
 | v :: a, b, x, y, h1, h2 => by
  simp only [toDs_cons] at h1
  obtain ⟨d, hd, h1⟩ := Option.bind_eq_some_iff.1 h1
  simp only [kDs_eq] at h1
  split at h1
  ·cases h1
  ·rename_i hn
   obtain ⟨z, hz, rfl⟩ := Option.map_eq_some_iff.1 h1
   have := toDs_app h hz h2
   simp [hd, hn, this]
theorem call_fn {O : Oracle} {np : Nat} {h : Heap} {news : List Nat} {g : Nat} {first caps : List D} {x r : D} (h1 : noTup first) (h2 : noTup caps) (hx : x.isTup = false) (ha : ask O g (first ++ [x] ++ caps) = some r) (hr : r.flat = true) :
 kCall O np h .flat news (g, first.map .d, caps.map .d) [.d x] = some (.d r, h) := by
 have e : toDs h (first.map .d ++ [.d x] ++ caps.map .d) = some (first ++ [x] ++ caps) :=
  toDs_app h (toDs_app h (toDs_map h h1) (toDs_map h (ds := [x]) (by intro y hy; simp at hy; subst hy; exact hx))) (toDs_map h h2)
 rw [kCall_flat, e, Option.bind_some, kAsk_ask, ha, Option.bind_some, kAns_flat, hr, if_pos rfl]
def idxF (P : D → Bool) : List D → Nat → Int
 | [], _ => -1
 | d :: ds, i => if P d then i else idxF P ds (i + 1)
theorem idxF_ge (P : D → Bool) : ∀ (ds : List D) (i : Nat), (0 ≤ idxF P ds i) ↔ ds.any P = true
 | [], i => by simp [idxF]
 | d :: ds, i => by
  rw [idxF]
  cases h : P d
  ·simp [h, idxF_ge P ds (i + 1)]
  ·simp [h]
def FnBool (O : Oracle) (g : Nat) (first caps cs : List D) (P : D → Bool) : Prop := noTup first ∧ noTup caps ∧ noTup cs ∧ ∀ x ∈ cs, ask O g (first ++ [x] ++ caps) = some (D.bool (P x))
def AllSh (s : Sh) (cs : List D) : Prop := ∀ x ∈ cs, x.sh = s
theorem l_indexB {O : Oracle} {g : Nat} {first caps cs : List D} {P : D → Bool} (hF : FnBool O g first caps cs P) (hs : AllSh .leaf cs) (hl : cs.length < 2000000) : ∀ (m i : Nat), i + m = cs.length →
 dn O 0 (.loop Z26_L0) ⟨[(0, .d (.sl .leaf cs)), (1, .d (.fn g first caps)), (7, (.d (.int .i64 cs.length))), (8, (.d (.int .i64 i)))], []⟩ =
  if (cs.drop i).any P then some (.ret, ⟨[(4, (.d (.int .i64 (idxF P (cs.drop i) i))))], []⟩) else some (.exit 0, ⟨[(0, .d (.sl .leaf cs)), (1, .d (.fn g first caps)), (7, (.d (.int .i64 cs.length))), (8, (.d (.int .i64 cs.length))), (9, (.d (.bool false)))], []⟩)
 | 0, i, hi => by
  have : i = cs.length := by omega
  subst this
  rw [List.drop_length]
  exact dn_stop (by simp -implicitDefEqProofs [Z26_L0, dn_cond])
 | m + 1, i, hi => by
  have hlt : i < cs.length := by omega
  have h1 : (i : Int) < cs.length := by omega
  have hx : cs[i]? = some cs[i] := List.getElem?_eq_getElem hlt
  have hm : cs[i] ∈ cs := List.getElem_mem hlt
  have hc := call_fn (O := O) (np := 0) (h := []) (news := []) hF.1 hF.2.1 (hF.2.2.1 _ hm) (hF.2.2.2 _ hm) rfl
  have hsh := hs _ hm
  have w4 : IntKind.i64.wrap ((i : Int) + 1) = ((i + 1 : Nat) : Int) := (w64 (x := (i : Int) + 1) (by omega)).trans (by omega)
  rw [List.drop_eq_getElem_cons hlt]
  cases hp : P cs[i]
  ·rw [hp] at hc
   refine dn_round (s1 := ⟨[(0, .d (.sl .leaf cs)), (1, .d (.fn g first caps)), (7, (.d (.int .i64 cs.length))), (8, (.d (.int .i64 ((i + 1 : Nat)))))], []⟩) ?_ ?_
   ·simp -implicitDefEqProofs [Z26_L0, dn_cond, h1, hx, hsh, hc, w4]
   ·rw [l_indexB hF hs hl m (i + 1) (by omega)]
    simp only [List.any_cons, hp, Bool.false_or, idxF, Bool.false_eq_true, if_false]
  ·rw [hp] at hc
   have e : idxF P (cs[i] :: cs.drop (i + 1)) i = i := by simp [idxF, hp]
   rw [e]
   simp only [List.any_cons, hp, Bool.true_or, if_true]
   exact dn_back (by simp -implicitDefEqProofs [Z26_L0, dn_cond, h1, hx, hsh, hc])
theorem l_indexP {O : Oracle} {g : Nat} {first caps cs : List D} {P : D → Bool} (hF : FnBool O g first caps cs P) (hs : AllSh (.arr 64 .leaf) cs) (hl : cs.length < 2000000) : ∀ (m i : Nat), i + m = cs.length →
 dn O 0 (.loop Z27_L0) ⟨[(0, .d (.sl (.arr 64 .leaf) cs)), (1, .d (.fn g first caps)), (7, (.d (.int .i64 cs.length))), (8, (.d (.int .i64 i)))], []⟩ =
  if (cs.drop i).any P then some (.ret, ⟨[(4, (.d (.int .i64 (idxF P (cs.drop i) i))))], []⟩) else some (.exit 0, ⟨[(0, .d (.sl (.arr 64 .leaf) cs)), (1, .d (.fn g first caps)), (7, (.d (.int .i64 cs.length))), (8, (.d (.int .i64 cs.length))), (9, (.d (.bool false)))], []⟩)
 | 0, i, hi => by
  have : i = cs.length := by omega
  subst this
  rw [List.drop_length]
  exact dn_stop (by simp -implicitDefEqProofs [Z27_L0, dn_cond])
 | m + 1, i, hi => by
  have hlt : i < cs.length := by omega
  have h1 : (i : Int) < cs.length := by omega
  have hx : cs[i]? = some cs[i] := List.getElem?_eq_getElem hlt
  have hm : cs[i] ∈ cs := List.getElem_mem hlt
  have hc := call_fn (O := O) (np := 0) (h := []) (news := []) hF.1 hF.2.1 (hF.2.2.1 _ hm) (hF.2.2.2 _ hm) rfl
  have hsh := hs _ hm
  have w4 : IntKind.i64.wrap ((i : Int) + 1) = ((i + 1 : Nat) : Int) := (w64 (x := (i : Int) + 1) (by omega)).trans (by omega)
  rw [List.drop_eq_getElem_cons hlt]
  cases hp : P cs[i]
  ·rw [hp] at hc
   refine dn_round (s1 := ⟨[(0, .d (.sl (.arr 64 .leaf) cs)), (1, .d (.fn g first caps)), (7, (.d (.int .i64 cs.length))), (8, (.d (.int .i64 ((i + 1 : Nat)))))], []⟩) ?_ ?_
   ·simp -implicitDefEqProofs [Z27_L0, dn_cond, h1, hx, hsh, hc, w4]
   ·rw [l_indexP hF hs hl m (i + 1) (by omega)]
    simp only [List.any_cons, hp, Bool.false_or, idxF, Bool.false_eq_true, if_false]
  ·rw [hp] at hc
   have e : idxF P (cs[i] :: cs.drop (i + 1)) i = i := by simp [idxF, hp]
   rw [e]
   simp only [List.any_cons, hp, Bool.true_or, if_true]
   exact dn_back (by simp -implicitDefEqProofs [Z27_L0, dn_cond, h1, hx, hsh, hc])
def C_indexOf (O : Oracle) (F : Nat) (s : Sh) : Prop := ∀ (g : Nat) (first caps cs : List D) (P : D → Bool), FnBool O g first caps cs P → AllSh s cs → cs.length < 2000000 →
 ask O F [.sl s cs, .fn g first caps] = some (D.int .i64 (idxF P cs 0))
theorem c_indexB (hT : T F26 = some Z26) : C_indexOf (den T A) F26 .leaf := by
 intro g first caps cs P hF hs hl
 have h := l_indexB hF hs hl cs.length 0 (Nat.zero_add _)
 rw [List.drop_zero] at h
 have e0 : ((0 : Nat) : Int) = 0 := rfl
 rw [e0] at h
 refine ask_of hT rfl ?_
 by_cases ha : cs.any P = true
 ·rw [if_pos ha] at h
  simp -implicitDefEqProofs [Z26, Z26_B, h]
 ·rw [if_neg ha] at h
  have hn : idxF P cs 0 = -1 := by
   have hi : ∀ (ds : List D) (i : Nat), ds.any P = false → idxF P ds i = -1 := by
    intro ds
    induction ds with
    | nil => intro i _; rfl
    | cons d ds ih => intro i hd; simp at hd; rw [idxF, hd.1]; simpa using ih (i + 1) (by simpa using hd.2)
   exact hi cs 0 (by simpa using ha)
  simp -implicitDefEqProofs [Z26, Z26_B, h, hn]
theorem c_indexP (hT : T F27 = some Z27) : C_indexOf (den T A) F27 (.arr 64 .leaf) := by
 intro g first caps cs P hF hs hl
 have h := l_indexP hF hs hl cs.length 0 (Nat.zero_add _)
 rw [List.drop_zero] at h
 have e0 : ((0 : Nat) : Int) = 0 := rfl
 rw [e0] at h
 refine ask_of hT rfl ?_
 by_cases ha : cs.any P = true
 ·rw [if_pos ha] at h
  simp -implicitDefEqProofs [Z27, Z27_B, h]
 ·rw [if_neg ha] at h
  have hn : idxF P cs 0 = -1 := by
   have hi : ∀ (ds : List D) (i : Nat), ds.any P = false → idxF P ds i = -1 := by
    intro ds
    induction ds with
    | nil => intro i _; rfl
    | cons d ds ih => intro i hd; simp at hd; rw [idxF, hd.1]; simpa using ih (i + 1) (by simpa using hd.2)
   exact hi cs 0 (by simpa using ha)
  simp -implicitDefEqProofs [Z27, Z27_B, h, hn]
def C_anyOf (O : Oracle) (F : Nat) (s : Sh) : Prop := ∀ (g : Nat) (first caps cs : List D) (P : D → Bool), FnBool O g first caps cs P → AllSh s cs → cs.length < 2000000 →
 ask O F [.sl s cs, .fn g first caps] = some (D.bool (cs.any P))
theorem c_containsB (hT : T F23 = some Z23) (hi : C_indexOf (den T A) F26 .leaf) : C_anyOf (den T A) F23 .leaf := by
 intro g first caps cs P hF hs hl
 have h := hi g first caps cs P hF hs hl
 have e : decide (0 ≤ idxF P cs 0) = cs.any P := by rw [Bool.eq_iff_iff]; simpa using idxF_ge P cs 0
 refine ask_of hT rfl ?_
 simp -implicitDefEqProofs [Z23, Z23_B, h, e]
theorem c_containsP (hT : T F24 = some Z24) (hi : C_indexOf (den T A) F27 (.arr 64 .leaf)) : C_anyOf (den T A) F24 (.arr 64 .leaf) := by
 intro g first caps cs P hF hs hl
 have h := hi g first caps cs P hF hs hl
 have e : decide (0 ≤ idxF P cs 0) = cs.any P := by rw [Bool.eq_iff_iff]; simpa using idxF_ge P cs 0
 refine ask_of hT rfl ?_
 simp -implicitDefEqProofs [Z24, Z24_B, h, e]
end Pe

namespace Pe
open Go Gq
variable {T : Nat → Option Fn} {A : Oracle}
def D.num : D → Int
 | .int _ n => n
 | _ => 0
def Bytes (l : List Int) : Prop := ∀ x ∈ l, 0 ≤ x ∧ x < 256
abbrev arr8 (l : List Int) : D := (D.arr 64 .leaf (ints .u8 l))
def C_allOf (O : Oracle) (F : Nat) (s : Sh) : Prop := ∀ (g : Nat) (first caps cs : List D) (P : D → Bool), FnBool O g first caps cs P → AllSh s cs → cs.length < 2000000 →
 ask O F [.sl s cs, .fn g first caps] = some (D.bool (cs.all P))
theorem any_not (P : D → Bool) (cs : List D) : (!cs.any fun x => !P x) = cs.all P := by
 induction cs with
 | nil => rfl
 | cons c cs ih => simp [← ih]
theorem c_notB {g : Nat} {first caps cs : List D} {P : D → Bool} (hT : T F7 = some Z7) (hF : FnBool (den T A) g first caps cs P) : FnBool (den T A) F7 [] [.ip (.fn g first caps)] cs fun x => !P x := by
 refine ⟨fun x hx => by simp at hx, fun x hx => by simp at hx; subst hx; rfl, hF.2.2.1, fun x hx => ?_⟩
 have hc := call_fn (O := den T A) (np := 0) (h := []) (news := []) hF.1 hF.2.1 (hF.2.2.1 _ hx) (hF.2.2.2 _ hx) rfl
 refine ask_of hT rfl ?_
 simp -implicitDefEqProofs [Z7, Z7_B, hc]
theorem c_areAllB (hT : T F6 = some Z6) (hT1 : T F7 = some Z7) (hc : C_anyOf (den T A) F23 .leaf) : C_allOf (den T A) F6 .leaf := by
 intro g first caps cs P hF hs hl
 have e := hc _ _ _ _ _ (c_notB hT1 hF) hs hl
 have e2 := any_not P cs
 have t1 := toDs_map [.box false (.fn g first caps)] hF.1
 have t2 := toDs_map [.box false (.fn g first caps)] hF.2.1
 rw [← e2]
 generalize (cs.any fun x => !P x) = r at *
 refine ask_of hT rfl ?_
 simp -implicitDefEqProofs [Z6, Z6_B, e]
theorem c_notP {g : Nat} {first caps cs : List D} {P : D → Bool} (hT : T F9 = some Z9) (hs : AllSh (.arr 64 .leaf) cs) (hF : FnBool (den T A) g first caps cs P) : FnBool (den T A) F9 [] [.ip (.fn g first caps)] cs fun x => !P x := by
 refine ⟨fun x hx => by simp at hx, fun x hx => by simp at hx; subst hx; rfl, hF.2.2.1, fun x hx => ?_⟩
 have hc := call_fn (O := den T A) (np := 0) (h := [.box false x]) (news := []) hF.1 hF.2.1 (hF.2.2.1 _ hx) (hF.2.2.2 _ hx) rfl
 have h1 := hF.2.2.1 _ hx
 have h2 := hs _ hx
 refine ask_of hT rfl ?_
 simp -implicitDefEqProofs [Z9, Z9_B, hc, h1, h2]
theorem c_areAllP (hT : T F8 = some Z8) (hT1 : T F9 = some Z9) (hc : C_anyOf (den T A) F24 (.arr 64 .leaf)) : C_allOf (den T A) F8 (.arr 64 .leaf) := by
 intro g first caps cs P hF hs hl
 have e := hc _ _ _ _ _ (c_notP hT1 hs hF) hs hl
 have e2 := any_not P cs
 rw [← e2]
 generalize (cs.any fun x => !P x) = r at *
 refine ask_of hT rfl ?_
 simp -implicitDefEqProofs [Z8, Z8_B, e]
def isPl (p : Int) (l : List Int) : Bool := l.all fun x => decide (x < p)
def C_isPoly (O : Oracle) : Prop := ∀ (p : Int) (l : List Int), Bytes l → l.length = 64 → ask O Fm [(D.int .i64 p), (D.arr 64 .leaf (ints .u8 l))] = some (D.bool (isPl p l))
theorem all_ints (p : Int) (l : List Int) : ((ints .u8 l).all fun x => decide (x.num < p)) = isPl p l := by
 unfold ints isPl
 rw [List.all_map]
 rfl
theorem c_isPoly (hT : T Fm = some Zm) (hT1 : T Fo = some Zo) (ha : C_allOf (den T A) F6 .leaf) : C_isPoly (den T A) := by
 intro p l hb hl
 have hF : FnBool (den T A) Fo [] [.ip (D.int .i64 p)] (ints .u8 l) fun x => decide (x.num < p) := by
  refine ⟨fun x hx => by simp at hx, fun x hx => by simp at hx; subst hx; rfl, fun x hx => ?_, fun x hx => ?_⟩
  ·obtain ⟨n, _, rfl⟩ := List.mem_map.1 hx; rfl
  ·obtain ⟨n, hn, rfl⟩ := List.mem_map.1 hx
   have h1 := hb n hn
   have w1 : IntKind.i64.wrap n = n := w64 (by omega)
   refine ask_of hT1 rfl ?_
   simp -implicitDefEqProofs [Zo, Zo_B, w1, D.num]
   exact decide_eq_decide.2 Iff.rfl
 have e := ha _ _ _ _ _ hF (fun x hx => by obtain ⟨n, _, rfl⟩ := List.mem_map.1 hx; rfl) (by simp [hl])
 rw [all_ints] at e
 have ht : l.take 64 = l := List.take_of_length_le (by omega)
 refine ask_of hT rfl ?_
 simp -implicitDefEqProofs [Zm, Zm_B, e, hl, ht]
def codeP (p : Int) (ls : List (List Int)) : Int := if isP p ∧ ls.all (isPl p) then 0 else 1
def Arrs (ls : List (List Int)) : Prop := ∀ l ∈ ls, l.length = 64 ∧ Bytes l
def D.nums : D → List Int
 | .arr _ _ cs => cs.map D.num
 | _ => []
theorem nums_arr8 (l : List Int) : (arr8 l).nums = l := by
 simp only [D.nums, ints, List.map_map]
 have : (D.num ∘ D.int .u8) = id := rfl
 rw [this, List.map_id]
end Pe

namespace Pe
open Go
abbrev tyN : Ty := .int .i64
abbrev tyP : Ty := .arr 64 (.int .u8)
theorem has_N {d : D} (h : tyN.has d) : ∃ n : Int, d = (D.int .i64 n) ∧ -9223372036854775808 ≤ n ∧ n ≤ 9223372036854775807 := by
 cases d <;> simp only [Ty.has] at h
 obtain ⟨rfl, h⟩ := h
 exact ⟨_, rfl, bounds_i64 h⟩
theorem has_bytes : ∀ (xs : List D), (∀ x ∈ xs, (Ty.int .u8).has x) → ∃ l : List Int, xs = ints .u8 l ∧ Bytes l
 | [], _ => ⟨[], rfl, fun _ h => by cases h⟩
 | x :: xs, h => by
  obtain ⟨l, rfl, hb⟩ := has_bytes xs fun y hy => h y (List.mem_cons_of_mem _ hy)
  have h1 := h x (by simp)
  cases x <;> simp only [Ty.has] at h1
  obtain ⟨rfl, h1⟩ := h1
  refine ⟨_ :: l, rfl, fun y hy => ?_⟩
  rcases List.mem_cons.1 hy with rfl | hy
  ·have := bounds_u8 h1; omega
  ·exact hb y hy
theorem has_P {d : D} (h : tyP.has d) : ∃ l : List Int, d = (D.arr 64 .leaf (ints .u8 l)) ∧ Bytes l ∧ l.length = 64 := by
 cases d <;> simp only [Ty.has] at h
 obtain ⟨rfl, rfl, h1, h2⟩ := h
 obtain ⟨l, rfl, hb⟩ := has_bytes _ h2
 exact ⟨l, rfl, hb, by simpa [ints] using h1⟩
theorem hasAll_nil {xs : List D} (h : Ty.hasAll [] xs) : xs = [] := by
 cases xs <;> simp only [Ty.hasAll] at h; rfl
theorem hasAll_cons {T : Ty} {Ts : List Ty} {xs : List D} (h : Ty.hasAll (T :: Ts) xs) : ∃ x r, xs = x :: r ∧ T.has x ∧ Ty.hasAll Ts r := by
 cases xs <;> simp only [Ty.hasAll] at h; exact ⟨_, _, rfl, h⟩
def okAt (P : Program) (num : Nat → Nat) (g : Nat) (fn : Fn) : Bool := match P.funcs[g]? with
 | some x => fnOk P num fn x
 | none => false
def AllOk (P : Program) (num : Nat → Nat) : List (Nat × Fn) → Prop
 | [] => True
 | e :: r => okAt P num (num e.1) e.2 = true ∧ AllOk P num r
theorem tab_sound {P : Program} {num : Nat → Nat} : ∀ {l : List (Nat × Fn)}, AllOk P num l → ∀ f fn, l.lookup f = some fn → ∃ g, P.funcs[num f]? = some g ∧ fnOk P num fn g = true
 | [], _, f, fn, h => by cases h
 | (a, b) :: r, ⟨h1, h2⟩, f, fn, h => by
  rw [List.lookup_cons] at h
  split at h
  ·rename_i e
   obtain rfl := Option.some.inj h
   have : f = a := by simpa using e
   subst this
   unfold okAt at h1
   split at h1
   ·rename_i g hg; exact ⟨g, hg, h1⟩
   ·cases h1
  ·exact tab_sound h2 f fn h
end Pe

namespace Pe
open Go
variable {P : Program} {num : Nat → Nat}
theorem line_sound {C : Cx} {φ : Loc} {s : St} {a : Act} {ops : Array Oper} {N np : Nat} {o : Oper} {j d : Nat} {v : V} {K : Act → World → Prop} {Q : Exit → Act → World → Prop}
 (hs : SR C φ s a.tmps) (hN : N ≤ a.tmps.size) (hd : o.dst = some d) (hdN : d < N) (hg : o.guard = none) (hj : ops[j]? = some o) (hop : OpWp P o a C φ s.h v s.h (fun _ => False))
 (hK : ∀ C' φ' u, Runs np C C' φ φ' s.h s.h → SR C' φ' ⟨(d, v) :: s.e, s.h⟩ (a.put o.dst u).tmps → K (a.put o.dst u) C'.w) : wpOp P ops Q j K a C.w := by
 have hw : Region.wanted o (yielded ops a.tmps) = true := by unfold Region.wanted; rw [hg]
 unfold wpOp
 simp only [hj]
 rw [hw, if_pos rfl]
 left
 refine hop K Q fun C' φ' u st hx k => hK C' φ' u ⟨st, k.mono fun _ h => h.elim⟩ ⟨st.hr, st.bd, fun n w hn => ?_⟩
 simp only [Env.get] at hn
 rw [hd, act_get (Nat.lt_of_lt_of_le hdN hN)]
 by_cases hdn : d = n
 ·subst hdn
  simp only [if_true, Option.some.injEq] at hn
  subst hn
  refine ⟨u, if_pos rfl, ?_⟩
  rcases hx with hx | hx
  ·rw [hd] at hx; cases hx
  ·exact hx
 ·rw [if_neg hdn] at hn
  rw [if_neg (Ne.symm hdn)]
  obtain ⟨u0, h1, h2⟩ := hs.env n w hn
  exact ⟨u0, h1, k w u0 (fun _ _ h => h.elim) h2⟩
theorem nilq_any {C : Cx} {φ : Loc} {s : St} {a : Act} {o : Oper} (hs : SR C φ s a.tmps) {x : Arg} {x' y' : Operand} {t yt e : TypeId} (ho : o.op = .binOp .eql t x' y' yt) (hx : argOk C.num x x' = true) (ht : P.underlying t = some (.slice e)) (hy : a.eval y' = .slice none 0 0)
 {sh : Sh} {cs : List D} (hv : s.e.arg x = some (.d (.sl sh cs))) : ∃ b, OpGood P o a C φ s.h (.d (.bool b)) s.h (fun _ => False) := by
 obtain ⟨ad, c, e1, _, _⟩ := RX_sl (arg_sound hs hx hv)
 refine ⟨decide (ad = none), good_same hs (u := .bool (decide (ad = none))) ?_ (RX_mk_bool ..)⟩
 have hq : (Go.Op.equal t (.slice ad cs.length c) (.slice none 0 0)).run P C.w = .ok (decide (ad = none)) C.w := by
  show (Go.Op.equalIn (9999 + 1) t (.slice ad cs.length c) (.slice none 0 0)).run P C.w = .ok (decide (ad = none)) C.w
  generalize 9999 = d
  cases ad <;> simp [Go.Op.equalIn, Sem.run_bind, run_underlying ht, Result.andThen_ok, Sem.run_pure]
 have hb : binOp .eql t (.slice ad cs.length c) (.slice none 0 0) = (do pure (.bool (← Go.Op.equal t (.slice ad cs.length c) (.slice none 0 0)))) := rfl
 simp [execOp, ho, e1, hy, eqGuard, hb, hq]
theorem opOk_nilq {x : Arg} {o : Oper} (h : opOk P num (.nilq false x) o = true) : ∃ t x' y' yt e, o.op = .binOp .eql t x' y' yt ∧ argOk num x x' = true ∧ isNilSlice y' = true ∧ P.underlying t = some (.slice e) := by
 cases hq : o.op with
 | binOp op t x' y' yt =>
  simp only [opOk, hq, Bool.and_eq_true, decide_eq_true_eq] at h
  obtain ⟨⟨⟨h3, h4⟩, h5⟩, h6⟩ := h
  split at h6
  ·rename_i e he
   exact ⟨t, x', y', yt, e, by rw [h3]; rfl, h4, h5, he⟩
  ·cases h6
 | _ => simp only [opOk, hq, Bool.false_eq_true] at h
def cloneCd (s : Sh) (z : D) (bytes : Nat) : Cd :=
 .seq (.region [⟨some 2, .nilOwn 0 s, none, []⟩] [0])
 (.seq (.seq (.region [⟨some 3, .mv (.t 0), none, []⟩,
  ⟨some 4, .nilq false (.t 3), none, []⟩] [0, 4])
  (.cond (.t 4)
   (.seq (.region [⟨some 2, .nilOwn 2 s, none, []⟩] [2])
    (.ret))
   (.skip)))
  (.seq (.region [⟨some 5, .buildSl false 2 s z 0 [], none, []⟩,
   ⟨some 6, .mv (.t 0), none, []⟩,
   ⟨some 7, .append s 3 bytes (.t 5) (.t 6), none, []⟩,
   ⟨some 2, .mv (.t 7), none, []⟩] [2])
   (.ret)))
def cloneFn (s : Sh) (z : D) (bytes : Nat) : Fn := { nparams := 1, nblk := 4, results := [.tmp 2], body := cloneCd s z bytes }
def cloneShape : Code → Bool
 | .seq _ (.seq (.seq (.region _ _ false) _) _) => true
 | _ => false
theorem codeOk_seq {N : Nat} {a b : Cd} {x : Code} (h : codeOk P num N (.seq a b) x = true) : ∃ y z, x = .seq y z ∧ codeOk P num N a y = true ∧ codeOk P num N b z = true := by
 cases x <;> simp only [codeOk, Bool.false_eq_true, Bool.and_eq_true] at h
 exact ⟨_, _, rfl, h⟩
def cloneEnd (s : Sh) : St := ⟨[(2, .sl 2 [] 0 0 none)], [.hole, .hole, .sl false s [], .hole]⟩
theorem noCalls : CallOk P num (fun _ _ _ => none) := fun f vs bs ans h => by cases h
theorem clone_empty {s : Sh} {z : D} {bytes N : Nat} (hm : P.follows .mixedOrders = true) {x : Code} (hok : codeOk P num N (cloneCd s z bytes) x = true) (hshape : cloneShape x = true) (hbeq : Sh.beq s s = true)
 (C : Cx) (φ : Loc) (a : Act) (hC : C.num = num) (hs : SR C φ ⟨params 0 [.d (.sl s [])], [] ++ List.replicate 4 .hole⟩ a.tmps) (hN : N ≤ a.tmps.size)
 (Q : Exit → Act → World → Prop) (hQ : Fits num 0 Q .ret C φ ([] ++ List.replicate 4 .hole) (cloneEnd s) a) : x.wp P Q a C.w := by
 obtain ⟨x1, x2, rfl, ok1, ok2⟩ := codeOk_seq hok
 obtain ⟨x3, x4, rfl, ok3, ok4⟩ := codeOk_seq ok2
 obtain ⟨x5, x6, rfl, ok5, ok6⟩ := codeOk_seq ok3
 have nc : CallOk P num (fun _ _ _ => none) := noCalls
 -- ahead
 refine wp_seq (code_sound (O := fun _ _ _ => none) (np := 0) (N := N) nc hm 1 _ _ ok1 C φ _ ⟨[(0, .d (.sl s []))], [.hole, .hole, .hole, .hole]⟩ a .normal hC hs hN rfl _ ?_)
 intro C1 φ1 a1 k1 r1 hs1 z1 d1
 refine wp_seq (wp_seq ?_)
 -- the question
 cases x5 <;> simp only [codeOk, Bool.false_eq_true, Bool.and_eq_true] at ok5
 rename_i id ops draw
 cases draw with
 | true => simp [cloneShape] at hshape
 | false =>
 have hops := ok5.1
 obtain ⟨hl, hget⟩ := insOks_get hops
 have hl2 : ops.size = 2 := by simpa using hl.symm
 have g0 : ops.toList[0]? = some ops[0] := by simp [hl2]
 have g1 : ops.toList[1]? = some ops[1] := by simp [hl2]
 have i0 := hget 0 _ _ rfl g0
 have i1 := hget 1 _ _ rfl g1
 have N1 : N ≤ a1.tmps.size := by rw [z1]; exact hN
 refine wp_region ?_
 rw [hl2]
 show wpOps P ops _ [0, 1] a1 C1.w
 rw [wpOps_cons]
 refine ins_sound (O := fun _ _ _ => none) (np := 0) (k1 ▸ nc) hs1 N1 (k1 ▸ i0) (by simp) (s' := ⟨[(3, .d (.sl s [])), (0, .d (.sl s []))], [.hole, .hole, .hole, .hole]⟩) rfl fun C2 φ2 u2 rn2 hs2 => ?_
 have k2 : C2.num = num := rn2.st.le.num.trans k1
 rw [wpOps_cons]
 unfold insOk at i1
 simp only [Bool.and_eq_true, decide_eq_true_eq] at i1
 obtain ⟨⟨⟨hdst, hdN⟩, hop⟩, hguard⟩ := i1
 have hdst' : ops[1].dst = some 4 := hdst.symm
 have hdN' : 4 < N := by simpa [hdst'] using hdN
 have hg : ops[1].guard = none := by
  cases hq : ops[1].guard with
  | none => rfl
  | some q => rw [hq] at hguard; simp at hguard
 have N2 : N ≤ (a1.put ops[0].dst u2).tmps.size := by rw [put_size]; exact N1
 have key : ∃ b, OpGood P ops[1] (a1.put ops[0].dst u2) C2 φ2 [.hole, .hole, .hole, .hole] (.d (.bool b)) [.hole, .hole, .hole, .hole] (fun _ => False) := by
  obtain ⟨t, x', y', yt, e, h1, h2, h3, h4⟩ := opOk_nilq hop
  refine nilq_any hs2 h1 (k2 ▸ h2) h4 ?_ (x := .t 3) (sh := s) (cs := []) rfl
  unfold isNilSlice at h3
  split at h3
  ·rfl
  ·cases h3
 obtain ⟨b, key⟩ := key
 refine line_sound (np := 0) hs2 N2 hdst' hdN' hg (by simp) key.wp fun C3 φ3 u3 rn3 hs3 => ?_
 have k3 : C3.num = num := rn3.st.le.num.trans k2
 show (Exit.then _ _) .normal _ _
 obtain ⟨rn4, hs4⟩ := region_end 0 hs3 [0, 4]
 have N4 : N ≤ ((a1.put ops[0].dst u2).put ops[1].dst u3).tmps.size := by rw [put_size]; exact N2
 have d4 : ((a1.put ops[0].dst u2).put ops[1].dst u3).defers = a.defers := by
  rw [← d1]
  cases ops[0].dst <;> cases ops[1].dst <;> rfl
 have z4 : ((a1.put ops[0].dst u2).put ops[1].dst u3).tmps.size = a.tmps.size := by rw [put_size, put_size, z1]
 have back : Runs 0 C C3 φ φ3 ([] ++ List.replicate 4 .hole) [.hole, .hole, .hole, .hole] := (r1.trans (rn2.trans rn3)).trans rn4
 generalize ((a1.put ops[0].dst u2).put ops[1].dst u3) = a3 at *
 have hs5 : SR C3 φ3 ⟨[(0, .d (.sl s [])), (4, .d (.bool b))], [.hole, .hole, .hole, .hole]⟩ a3.tmps := hs4
 cases b with
 | true =>
  have ev : evalCd (fun _ _ _ => none) 0 1 (.cond (.t 4) (.seq (.region [⟨some 2, .nilOwn 2 s, none, []⟩] [2]) (.ret)) (.skip)) ⟨[(0, .d (.sl s [])), (4, .d (.bool true))], [.hole, .hole, .hole, .hole]⟩ = some (.ret, ⟨[(2, .sl 2 [] 0 0 (some 0))], [.hole, .hole, .sl false s [], .hole]⟩) := rfl
  refine code_sound (O := fun _ _ _ => none) (np := 0) (N := N) nc hm 1 _ _ ok6 C3 φ3 _ _ a3 .ret k3 hs5 N4 ev _ ?_
  intro C6 φ6 a6 k6 r6 hs6 z6 d6
  refine hQ C6 φ6 a6 k6 (back.trans r6) ⟨hs6.hr, hs6.bd, fun n v hn => ?_⟩ (z6.trans z4) (d6.trans d4)
  simp only [cloneEnd, Env.get] at hn
  split at hn
  ·rename_i h2
   subst h2
   obtain rfl := Option.some.inj hn
   obtain ⟨u, h5, h6⟩ := hs6.env 2 (.sl 2 [] 0 0 (some 0)) rfl
   refine ⟨u, h5, ?_⟩
   simp only [RX] at h6 ⊢
   obtain ⟨B, base, sh, m, ad, c, e1, e2, e3, e4, e5, e6, e7⟩ := h6
   exact ⟨B, base, sh, m, ad, c, e1, e2, e3, e4, e5, (fun k hk => by cases hk), e7⟩
  ·cases hn
 | false =>
  have ev : evalCd (fun _ _ _ => none) 0 1 (.cond (.t 4) (.seq (.region [⟨some 2, .nilOwn 2 s, none, []⟩] [2]) (.ret)) (.skip)) ⟨[(0, .d (.sl s [])), (4, .d (.bool false))], [.hole, .hole, .hole, .hole]⟩ = some (.normal, ⟨[(0, .d (.sl s [])), (4, .d (.bool false))], [.hole, .hole, .hole, .hole]⟩) := rfl
  refine code_sound (O := fun _ _ _ => none) (np := 0) (N := N) nc hm 1 _ _ ok6 C3 φ3 _ _ a3 .normal k3 hs5 N4 ev _ ?_
  intro C6 φ6 a6 k6 r6 hs6 z6 d6
  have ev2 : evalCd (fun _ _ _ => none) 0 1 (.seq (.region [⟨some 5, .buildSl false 2 s z 0 [], none, []⟩, ⟨some 6, .mv (.t 0), none, []⟩, ⟨some 7, .append s 3 bytes (.t 5) (.t 6), none, []⟩, ⟨some 2, .mv (.t 7), none, []⟩] [2]) (.ret)) ⟨[(0, .d (.sl s [])), (4, .d (.bool false))], [.hole, .hole, .hole, .hole]⟩ = some (.ret, cloneEnd s) := by
   simp [evalCd, evalList, evalIns, execIns, Ins.side, Ins.on, evalOp, partsD, fillD, freezeIf, partsRefs, putBlk, Env.arg, Env.get, Env.putO, Env.kill, Op.kill, toD, hbeq, Env.keep, clean, Env.refd, V.refs, cloneEnd, Env.clear]
  refine code_sound (O := fun _ _ _ => none) (np := 0) (N := N) nc hm 1 _ _ ok4 C6 φ6 _ _ a6 .ret k6 hs6 (by rw [z6]; exact N4) ev2 _ ?_
  intro C7 φ7 a7 k7 r7 hs7 z7 d7
  exact hQ C7 φ7 a7 k7 ((back.trans r6).trans r7) hs7 (z7.trans (z6.trans z4)) (d7.trans (d6.trans d4))
theorem clone_sound {s : Sh} {z : D} {bytes : Nat} (hm : P.follows .mixedOrders = true) {f : Nat} {g : Func} (hg : P.funcs[num f]? = some g) (hok : fnOk P num (cloneFn s z bytes) g = true) (hshape : (match g.body with | some x => cloneShape x | none => false) = true) (hbeq : Sh.beq s s = true)
 {cs : List D} (hl : cs.length * bytes ≤ 1099511627776) {C : Cx} {φ : Loc} {us : List Value} (hC : C.num = num) (hr : HR C φ []) (hb : ∀ b, C.I b → b < C.w.heap.size) (hv : RXs C φ [] [.d (.sl s cs)] us) :
 Ends P (num f) us C φ [] [.sl false s cs] (.sl 0 [] 0 cs.length none) := by
 cases cs with
 | cons c cs =>
  have hl' : (cs.length + 1) * bytes ≤ 1099511627776 := hl
  have hrun : run (fun _ _ _ => none) 1 (cloneFn s z bytes) [.d (.sl s (c :: cs))] [] = some (.sl 0 [] 0 (c :: cs).length none, [], [.sl false s (c :: cs)]) := by
   simp [hl', run, cloneFn, cloneCd, evalCd, evalList, evalIns, execIns, Ins.side, Ins.on, evalOp, partsD, fillD, freezeIf, partsRefs, putBlk, Env.arg, Env.get, Env.putO, Env.kill, Op.kill, toD, hbeq, Env.keep, clean, Env.refd, V.refs, Env.clear, params, resVs, resV, result, once, Heap.pick, V.ren, List.idxOf, List.findIdx, List.findIdx.go]
  exact (run_sound noCalls hm hg hok hrun hC hr hb hv).2
 | nil =>
  unfold fnOk at hok
  simp only [Bool.and_eq_true, bne_iff_ne, ne_eq, decide_eq_true_eq] at hok
  obtain ⟨⟨⟨hname, hnp⟩, hres⟩, hbody⟩ := hok
  cases hcode : g.body with
  | none => rw [hcode] at hbody; cases hbody
  | some code =>
   rw [hcode] at hbody hshape
   simp only at hbody hshape
   refine (run_of (cloneFn s z bytes) hg hname hnp hres hcode (vs := [.d (.sl s [])]) (bs := []) (ans := (.sl 0 [] 0 0 none, [], [.sl false s []])) .ret (cloneEnd s) rfl ?_ (fun C φ a hC hs hN Q hQ => clone_empty hm hbody hshape hbeq C φ a hC hs hN Q hQ) hC hr hb hv).2
   simp [cloneFn, cloneEnd, resVs, resV, Env.get, result, once, V.refs, Heap.pick, V.ren, List.idxOf, List.findIdx, List.findIdx.go]
def cloneA (ids : Nat → Option (Sh × D × Nat)) : Oracle := fun f vs bs =>
 match ids f with
 | some (s, _, bytes) => match vs with
  | [.d (.sl t cs)] => match bs with
   | [] => if Sh.beq t s = true ∧ cs.length * bytes ≤ 1099511627776 then some (.sl 0 [] 0 cs.length none, [], [.sl false t cs]) else none
   | _ => none
  | _ => none
 | none => none
theorem cloneA_eq {ids : Nat → Option (Sh × D × Nat)} {f : Nat} {s : Sh} {z : D} {bytes : Nat} {cs : List D} (h1 : ids f = some (s, z, bytes)) (h0 : Sh.beq s s = true) (h2 : cs.length * bytes ≤ 1099511627776) :
 cloneA ids f [.d (.sl s cs)] [] = some (.sl 0 [] 0 cs.length none, [], [.sl false s cs]) := by
 simp [cloneA, h1, h0, h2]
theorem cloneA_sound {ids : Nat → Option (Sh × D × Nat)} (hm : P.follows .mixedOrders = true)
 (hids : ∀ f s z bytes, ids f = some (s, z, bytes) → Sh.beq s s = true ∧ ∃ g, P.funcs[num f]? = some g ∧ fnOk P num (cloneFn s z bytes) g = true ∧ (match g.body with | some x => cloneShape x | none => false) = true) : CallOk P num (cloneA ids) := by
 intro f vs bs ans h C φ us hC hr hb hv
 unfold cloneA at h
 split at h
 ·rename_i s z bytes hi
  split at h
  ·rename_i t cs
   split at h
   ·split at h
    ·rename_i hc
     obtain rfl := Option.some.inj h
     obtain ⟨hbeq, g, hg, hok, hshape⟩ := hids f s z bytes hi
     obtain rfl := Sh.beq_eq _ _ hc.1
     exact ⟨rfl, clone_sound hm hg hok hshape hbeq hc.2 hC hr hb hv⟩
    ·cases h
   ·cases h
  ·cases h
 ·cases h
end Pe

namespace Pe
open Go
variable {P : Program} {num : Nat → Nat}
def Goes (P : Program) (num : Nat → Nat) (ops : Array Oper) (N np : Nat) (js : List Nat) (s s' : St) : Prop :=
 ∀ (Q : Exit → Act → World → Prop) (rest : List Nat) (C : Cx) (φ : Loc) (a : Act), C.num = num → SR C φ s a.tmps → N ≤ a.tmps.size →
  (∀ C' φ' a', C'.num = num → Runs np C C' φ φ' s.h s'.h → SR C' φ' s' a'.tmps → a'.tmps.size = a.tmps.size → a'.defers = a.defers → wpOps P ops Q rest a' C'.w) → wpOps P ops Q (js ++ rest) a C.w
theorem Goes.trans {ops : Array Oper} {N np : Nat} {js ks : List Nat} {s s1 s2 : St} (h1 : Goes P num ops N np js s s1) (h2 : Goes P num ops N np ks s1 s2) : Goes P num ops N np (js ++ ks) s s2 := by
 intro Q rest C φ a hC hs hN hK
 rw [List.append_assoc]
 refine h1 Q (ks ++ rest) C φ a hC hs hN fun C1 φ1 a1 k1 r1 hs1 z1 d1 => ?_
 refine h2 Q rest C1 φ1 a1 k1 hs1 (by rw [z1]; exact hN) fun C2 φ2 a2 k2 r2 hs2 z2 d2 => ?_
 exact hK C2 φ2 a2 k2 (r1.trans r2) hs2 (z2.trans z1) (d2.trans d1)
theorem goes_line {ops : Array Oper} {N np : Nat} {is : List Ins} (hok : insOks P num ops N is ops.toList = true) (j : Nat) {i : Ins} (hi : is[j]? = some i) {s s' : St} (he : evalIns (fun _ _ _ => none) np s i = some s') : Goes P num ops N np [j] s s' := by
 obtain ⟨hl, hget⟩ := insOks_get hok
 have hjl : j < ops.toList.length := by rw [← hl]; exact (List.getElem?_eq_some_iff.1 hi).1
 have ho : ops.toList[j]? = some ops.toList[j] := List.getElem?_eq_getElem hjl
 intro Q rest C φ a hC hs hN hK
 show wpOps P ops Q (j :: rest) a C.w
 rw [wpOps_cons]
 have ho' : ops[j]? = some ops.toList[j] := by simp
 refine ins_sound (O := fun _ _ _ => none) (np := np) (hC ▸ noCalls) hs hN (hC ▸ hget j _ _ hi ho) ho' (eval_exec he) fun C' φ' u rn hs' => ?_
 exact hK C' φ' _ (rn.st.le.num.trans hC) rn hs' (put_size ..) (by cases ops.toList[j].dst <;> rfl)
theorem goes_hand {ops : Array Oper} {N np : Nat} {is : List Ins} (hok : insOks P num ops N is ops.toList = true) (j d : Nat) (hi : is[j]? = some ⟨some d, .fail, none, []⟩) {s : St} (v : V) (h' : Heap)
 (hop : ∀ o, ops[j]? = some o → ∀ C φ a, C.num = num → SR C φ s a.tmps → OpGood P o a C φ s.h v h' (fun _ => False)) : Goes P num ops N np [j] s ⟨(d, v) :: s.e, h'⟩ := by
 obtain ⟨hl, hget⟩ := insOks_get hok
 have hjl : j < ops.toList.length := by rw [← hl]; exact (List.getElem?_eq_some_iff.1 hi).1
 have ho : ops.toList[j]? = some ops.toList[j] := List.getElem?_eq_getElem hjl
 have ho' : ops[j]? = some ops.toList[j] := by simp
 have hins := hget j _ _ hi ho
 generalize ops.toList[j] = o at ho ho' hins
 unfold insOk at hins
 simp only [Bool.and_eq_true, decide_eq_true_eq] at hins
 obtain ⟨⟨⟨hdst, hdN⟩, -⟩, hguard⟩ := hins
 have hd : o.dst = some d := hdst.symm
 have hdN' : d < N := by simpa [hd] using hdN
 have hg : o.guard = none := by
  cases hq : o.guard with
  | none => rfl
  | some q => rw [hq] at hguard; simp at hguard
 intro Q rest C φ a hC hs hN hK
 show wpOps P ops Q (j :: rest) a C.w
 rw [wpOps_cons]
 have hw : Region.wanted o (yielded ops a.tmps) = true := by unfold Region.wanted; rw [hg]
 unfold wpOp
 simp only [ho']
 rw [hw, if_pos rfl]
 left
 refine (hop o ho' C φ a hC hs).wp _ Q fun C' φ' u st hx k => ?_
 refine hK C' φ' _ (st.le.num.trans hC) ⟨st, k.mono fun _ h => h.elim⟩ ⟨st.hr, st.bd, fun n w hn => ?_⟩ (put_size ..) (by rw [hd]; rfl)
 simp only [Env.get] at hn
 rw [hd, act_get (Nat.lt_of_lt_of_le hdN' hN)]
 by_cases hdn : d = n
 ·subst hdn
  simp only [if_true, Option.some.injEq] at hn
  subst hn
  refine ⟨u, if_pos rfl, ?_⟩
  rcases hx with hx | hx
  ·rw [hd] at hx; cases hx
  ·exact hx
 ·rw [if_neg hdn] at hn
  rw [if_neg (Ne.symm hdn)]
  obtain ⟨u0, h1, h2⟩ := hs.env n w hn
  exact ⟨u0, h1, k w u0 (fun _ _ h => h.elim) h2⟩
theorem goes_region {ops : Array Oper} {N np m : Nat} {s s1 : St} (hg : Goes P num ops N np (List.range m) s s1) (hm : ops.size = m) {id : Nat} {ks : List Nat} {Q : Exit → Act → World → Prop} {C : Cx} {φ : Loc} {a : Act} (hC : C.num = num) (hs : SR C φ s a.tmps) (hN : N ≤ a.tmps.size)
 (hQ : Fits num np Q .normal C φ s.h ⟨s1.e.keep ks, clean (s1.e.keep ks) np 0 s1.h⟩ a) : (Code.region id ops false).wp P Q a C.w := by
 subst hm
 refine wp_region ?_
 have := hg Q [] C φ a hC hs hN fun C' φ' a' h1 h2 h3 h4 h5 => by
  simp only [wpOps]
  obtain ⟨r1, r2⟩ := region_end np h3 ks
  exact hQ C' φ' a' h1 (h2.trans r1) r2 h4 h5
 simpa using this
theorem nil_arg {C : Cx} {φ : Loc} {s : St} {a : Act} (hs : SR C φ s a.tmps) {x : Arg} {x' : Operand} (hx : argOk C.num x x' = true) {sh : Sh} (hv : s.e.arg x = some (.d (.nils sh))) : a.eval x' = .slice none 0 0 := by
 have := arg_sound hs hx hv
 simp only [RX, RV, RD] at this
 cases hq : a.eval x' <;> simp_all [Value.cells, isAgg, D.isAgg]
def capOk (P : Program) (num : Nat → Nat) (n : Nat) (o : Oper) : Bool :=
 match o.op with
 | .call ⟨.builtin .cap, ⟨[x']⟩, ⟨[t]⟩⟩ => argOk num (.t n) x' && (match P.underlying t with | some (.slice _) => true | _ => false)
 | _ => false
def lenOk (P : Program) (num : Nat → Nat) (n : Nat) (o : Oper) : Bool :=
 match o.op with
 | .call ⟨.builtin .len, ⟨[x']⟩, ⟨[t]⟩⟩ => argOk num (.t n) x' && (match P.underlying t with | some (.slice _) => true | _ => false)
 | _ => false
def cutOk (P : Program) (num : Nat → Nat) (n m : Nat) (o : Oper) : Bool :=
 match o.op with
 | .slice t x' none (some y') none => argOk num (.t n) x' && argOk num (.t m) y' && (match P.underlying t with | some (.slice e) => (P.info? e).isSome | _ => false)
 | _ => false
def zerosOk (P : Program) (num : Nat → Nat) (n m : Nat) (sh : Sh) (z : D) (bytes : Nat) (o : Oper) : Bool :=
 match o.op with
 | .call ⟨.builtin .append, ⟨[x', y']⟩, ⟨[t, tn]⟩⟩ => argOk num (.t n) x' && argOk num (.t m) y' && (match P.underlying tn with | some (.int _) => true | _ => false) && decide (0 < bytes) &&
  (match P.underlying t with | some (.slice e) => tyOk P e sh && zeroOk P e z && Sh.beq z.sh sh && decide (0 < sh.size) && (match P.info? e with | some inf => inf.bytes == bytes | none => false) | _ => false)
 | _ => false
theorem good_cap {C : Cx} {φ : Loc} {s : St} {a : Act} {o : Oper} {n : Nat} {K : Nat → Prop} (hs : SR C φ s a.tmps) (ho : capOk P C.num n o = true) {sh : Sh} (hv : s.e.arg (.t n) = some (.d (.nils sh))) : OpGood P o a C φ s.h (.d (.int .i64 0)) s.h K := by
 unfold capOk at ho
 split at ho
 ·rename_i x' t hq
  simp only [Bool.and_eq_true] at ho
  obtain ⟨h1, h2⟩ := ho
  split at h2
  ·rename_i e he
   have hx := nil_arg hs h1 hv
   exact good_same hs (u := .int .i64 0) (by simp [execOp, hq, resolve, invoke, builtin, hx, Builtin.cap_, run_underlying he, goInt]) (RX_mk_int ..)
  ·cases h2
 ·cases ho
theorem good_len0 {C : Cx} {φ : Loc} {s : St} {a : Act} {o : Oper} {n : Nat} {K : Nat → Prop} (hs : SR C φ s a.tmps) (ho : lenOk P C.num n o = true) {sh : Sh} (hv : s.e.arg (.t n) = some (.d (.nils sh))) : OpGood P o a C φ s.h (.d (.int .i64 0)) s.h K := by
 unfold lenOk at ho
 split at ho
 ·rename_i x' t hq
  simp only [Bool.and_eq_true] at ho
  obtain ⟨h1, h2⟩ := ho
  split at h2
  ·rename_i e he
   have hx := nil_arg hs h1 hv
   exact good_same hs (u := .int .i64 0) (by simp [execOp, hq, resolve, invoke, builtin, hx, Builtin.len_, run_underlying he, goInt]) (RX_mk_int ..)
  ·cases h2
 ·cases ho
theorem good_cut0 {C : Cx} {φ : Loc} {s : St} {a : Act} {o : Oper} {n m : Nat} {K : Nat → Prop} (hs : SR C φ s a.tmps) (ho : cutOk P C.num n m o = true) {sh : Sh} (hv : s.e.arg (.t n) = some (.d (.nils sh))) (hm : s.e.arg (.t m) = some (.d (.int .i64 0))) : OpGood P o a C φ s.h (.d (.nils sh)) s.h K := by
 unfold cutOk at ho
 split at ho
 ·rename_i t x' y' hq
  simp only [Bool.and_eq_true] at ho
  obtain ⟨⟨h1, h2⟩, h3⟩ := ho
  split at h3
  ·rename_i e he
   obtain ⟨inf, hinf⟩ := Option.isSome_iff_exists.1 h3
   have hx := nil_arg hs h1 hv
   have hn : optNat s.e (some (.t m)) 0 = some 0 := by
    show (s.e.arg (.t m)).bind V.nat? = some 0
    rw [hm]; rfl
   have hb := bounds_run (isS := true) (len := 0) (cap := 0) (l := 0) (hh := 0) (m := 0) (lo := none) (hi := some (.t m)) (mx := none) (lo' := none) (hi' := some y') (mx' := none) (P := P) hs rfl (by simpa [optOk] using h2) rfl rfl hn rfl (Nat.le_refl _) (Nat.le_refl _)
   refine good_same hs (u := .slice none 0 0) ?_ ?_
   ·simp only [Option.map_none, Option.map_some] at hb
    simp [execOp, hq, hx, Instr.sliceAt, Instr.slice, run_underlying he, hb, run_size hinf]
   ·rw [← hx]
    exact arg_sound hs h1 hv
  ·cases h3
 ·cases ho
theorem good_zeros {C : Cx} {φ : Loc} {s : St} {a : Act} {o : Oper} {n m i : Nat} {sh : Sh} {z : D} {bytes : Nat} (hs : SR C φ s a.tmps) (ho : zerosOk P C.num n m sh z bytes o = true) {sh' : Sh} (hv : s.e.arg (.t n) = some (.d (.nils sh'))) {k : Nat} (hk : s.e.arg (.t m) = some (.d (.int .i64 k))) (h0 : 0 < k)
 (hroom : k * bytes ≤ 1099511627776) (hi : s.h[i]? = some .hole) : OpGood P o a C φ s.h (.sl i [] 0 k none) (s.h.set i (.sl false sh (List.replicate k z))) (fun _ => False) := by
 unfold zerosOk at ho
 split at ho
 ·rename_i x' y' t tn hq
  simp only [Bool.and_eq_true, decide_eq_true_eq] at ho
  obtain ⟨⟨⟨⟨h1, h2⟩, h3⟩, hby⟩, h4⟩ := ho
  split at h4
  ·rename_i e he
   simp only [Bool.and_eq_true, decide_eq_true_eq] at h4
   obtain ⟨⟨⟨⟨g1, g2⟩, g3⟩, g4⟩, g5⟩ := h4
   split at h3
   ·rename_i kn hkn
    split at g5
    ·rename_i inf hinf
     have g5' : inf.bytes = bytes := by simpa using g5
     obtain ⟨inf2, u, hinf2, hiz, -, hzv, hnt⟩ := zeroOk_run g2
     obtain rfl : inf = inf2 := Option.some.inj (hinf.symm.trans hinf2)
     obtain ⟨ie, hie, hse⟩ := tyOk_info g1
     obtain rfl : inf = ie := Option.some.inj (hinf.symm.trans hie)
     have hzs := Sh.beq_eq _ _ g3
     have hx := nil_arg hs h1 hv
     have hy := RX_int (arg_sound hs h2 hk)
     have hkb : k * 1 ≤ k * bytes := Nat.mul_le_mul_left _ hby
     have hrun := Lib.run_append_nil_zeros (P := P) C.w t tn o.type e inf u .i64 kn he hkn hinf hiz k h0 (by rw [hse]; exact g4) (by omega) (by rw [g5']; omega)
     obtain ⟨st1, k1⟩ := step_same (C := C) (w' := C.w.drew) hs.hr hs.bd ⟨rfl, rfl, rfl, rfl⟩
     obtain ⟨ha, hcells⟩ := (hzv { C with w := C.w.drew }).notTup hnt
     have hul : u.cells.size = sh.size := by rw [← hzs, ← RD_len z _ hcells]; simp
     have hsz0 : ∀ c : Nat, (Builtin.zeroCells u.cells c).size = c * sh.size := by
      intro c
      simp [Builtin.zeroCells, hul]
     have hge := grownCap_ge C.w k 0 e
     obtain ⟨st2, k2, hv2⟩ := good_row_step (C := { C with w := C.w.drew }) (φ := φ) (s := s) st1.hr st1.bd (sh := sh) (xs := List.replicate k z) (cs := Builtin.zeroCells u.cells k ++ Builtin.zeroCells u.cells (grownCap C.w k 0 e - k)) (us := (List.replicate k u.cells.toList).flatten) e (RDs_replicate hzs hcells k)
      (fun j v hj => by
       have hfl := flatten_replicate_range u.cells (by omega) k
       have hjl := (List.getElem?_eq_some_iff.1 hj).1
       have e1 : (Builtin.zeroCells u.cells k).toList = (List.replicate k u.cells.toList).flatten := hfl
       rw [Array.getElem?_append_left (by rw [← Array.length_toList, e1]; exact hjl), ← Array.getElem?_toList, e1]
       exact hj) hi (len := k) (c := grownCap C.w k 0 e) (cap := none) (by simp) hge (by simp) (by
       rw [Array.size_append, hsz0, hsz0, ← Nat.add_mul]
       exact Nat.mul_le_mul_right _ (by omega))
     refine ⟨_, _, _, _, ?_, .inl rfl, st1.trans st2, hv2, k1.trans k2⟩
     rw [← hx, ← hy] at hrun
     simp [execOp, hq, resolve, invoke, builtin, hrun]
    ·cases g5
   ·cases h3
  ·cases h4
 ·cases ho
def growA3 : List Ins := [⟨some 8, .mv (.t 1), none, []⟩, ⟨some 9, .mv (.t 0), none, []⟩, ⟨some 10, .fail, none, []⟩, ⟨some 11, .mv (.t 0), none, []⟩, ⟨some 12, .fail, none, []⟩, ⟨some 13, .bin .sub (.t 10) (.t 12), none, []⟩, ⟨some 14, .bin .sub (.t 8) (.t 13), none, []⟩, ⟨some 1, .mv (.t 14), none, []⟩]
def growA5 (s : Sh) : List Ins := [⟨some 17, .mv (.t 0), none, []⟩, ⟨some 18, .mv (.t 0), none, []⟩, ⟨some 19, .fail, none, []⟩, ⟨some 20, .fail, none, []⟩, ⟨some 21, .mv (.t 1), none, []⟩, ⟨some 22, .fail, none, []⟩, ⟨some 23, .mv (.t 0), none, []⟩, ⟨some 24, .fail, none, []⟩, ⟨some 25, .cut none s (.t 22) none (some (.t 24)) none, none, []⟩, ⟨some 0, .mv (.t 25), none, []⟩]
def growCd (s : Sh) : Cd :=
 .seq (.region [⟨some 4, .nilOwn 0 s, none, []⟩] [0, 1])
 (.seq (.seq (.region [⟨some 5, .mv (.t 1), none, []⟩, ⟨some 6, .bin .lss (.t 5) (.c (.int .i64 0)), none, []⟩] [0, 1, 6])
  (.cond (.t 6) (.region [⟨some 7, .fail, none, []⟩, ⟨none, .fail, none, []⟩] [0, 1]) .skip))
 (.seq (.seq (.region growA3 [0, 1])
  (.seq (.region [⟨some 15, .mv (.t 1), none, []⟩, ⟨some 16, .bin .gtr (.t 15) (.c (.int .i64 0)), none, []⟩] [0, 1, 16])
   (.cond (.t 16) (.region (growA5 s) [0]) .skip)))
  (.seq (.region [⟨some 26, .mv (.t 0), none, []⟩, ⟨some 4, .mv (.t 26), none, []⟩] [4]) .ret)))
def growFn (s : Sh) : Fn := { nparams := 2, nblk := 2, results := [.tmp 4], body := growCd s }
def lineIs (f : Oper → Bool) (o : Option Oper) : Bool :=
 match o with
 | some o => f o
 | none => false
def growShape (P : Program) (num : Nat → Nat) (s : Sh) (z : D) (bytes : Nat) : Code → Bool
 | .seq _ (.seq _ (.seq (.seq (.region _ a false) (.seq _ (.cond _ (.region _ b false) _))) _)) =>
  lineIs (capOk P num 9) a[2]? && lineIs (lenOk P num 11) a[4]? && lineIs (capOk P num 18) b[2]? && lineIs (cutOk P num 17 19) b[3]? && lineIs (zerosOk P num 20 21 s z bytes) b[5]? && lineIs (lenOk P num 23) b[7]?
 | _ => false
theorem lineIs_get {f : Oper → Bool} {x : Option Oper} (h : lineIs f x = true) {o : Oper} (ho : x = some o) : f o = true := by
 subst ho; exact h
theorem grow_three {a : Array Oper} {N : Nat} {s : Sh} {n : Nat} {r : Env} (hn : n ≤ 1099511627776) (hok : insOks P num a N growA3 a.toList = true) (h1 : lineIs (capOk P num 9) a[2]? = true) (h2 : lineIs (lenOk P num 11) a[4]? = true) :
 Goes P num a N 0 (List.range 8) ⟨[(0, .d (.nils s)), (1, .d (.int .i64 n))] ++ r, [.hole, .hole]⟩ ⟨[(1, .d (.int .i64 n)), (14, .d (.int .i64 n)), (13, .d (.int .i64 0)), (12, .d (.int .i64 0)), (11, .d (.nils s)), (10, .d (.int .i64 0)), (9, .d (.nils s)), (8, .d (.int .i64 n)), (0, .d (.nils s)), (1, .d (.int .i64 n))] ++ r, [.hole, .hole]⟩ := by
 have hw : IntKind.i64.wrap (n : Int) = n := by simp [IntKind.wrap, IntKind.bits, IntKind.signed]; omega
 have g0 : Goes P num a N 0 [0] ⟨[(0, .d (.nils s)), (1, .d (.int .i64 n))] ++ r, [.hole, .hole]⟩ ⟨[(8, .d (.int .i64 n)), (0, .d (.nils s)), (1, .d (.int .i64 n))] ++ r, [.hole, .hole]⟩ := goes_line hok 0 rfl rfl
 have g1 : Goes P num a N 0 [1] ⟨[(8, .d (.int .i64 n)), (0, .d (.nils s)), (1, .d (.int .i64 n))] ++ r, [.hole, .hole]⟩ ⟨[(9, .d (.nils s)), (8, .d (.int .i64 n)), (0, .d (.nils s)), (1, .d (.int .i64 n))] ++ r, [.hole, .hole]⟩ := goes_line hok 1 rfl rfl
 have g2 : Goes P num a N 0 [2] ⟨[(9, .d (.nils s)), (8, .d (.int .i64 n)), (0, .d (.nils s)), (1, .d (.int .i64 n))] ++ r, [.hole, .hole]⟩ ⟨[(10, .d (.int .i64 0)), (9, .d (.nils s)), (8, .d (.int .i64 n)), (0, .d (.nils s)), (1, .d (.int .i64 n))] ++ r, [.hole, .hole]⟩ := goes_hand hok 2 10 rfl (.d (.int .i64 0)) _ fun o ho C φ a hC hs => good_cap hs (hC ▸ lineIs_get h1 ho) rfl
 have g3 : Goes P num a N 0 [3] ⟨[(10, .d (.int .i64 0)), (9, .d (.nils s)), (8, .d (.int .i64 n)), (0, .d (.nils s)), (1, .d (.int .i64 n))] ++ r, [.hole, .hole]⟩ ⟨[(11, .d (.nils s)), (10, .d (.int .i64 0)), (9, .d (.nils s)), (8, .d (.int .i64 n)), (0, .d (.nils s)), (1, .d (.int .i64 n))] ++ r, [.hole, .hole]⟩ := goes_line hok 3 rfl rfl
 have g4 : Goes P num a N 0 [4] ⟨[(11, .d (.nils s)), (10, .d (.int .i64 0)), (9, .d (.nils s)), (8, .d (.int .i64 n)), (0, .d (.nils s)), (1, .d (.int .i64 n))] ++ r, [.hole, .hole]⟩ ⟨[(12, .d (.int .i64 0)), (11, .d (.nils s)), (10, .d (.int .i64 0)), (9, .d (.nils s)), (8, .d (.int .i64 n)), (0, .d (.nils s)), (1, .d (.int .i64 n))] ++ r, [.hole, .hole]⟩ := goes_hand hok 4 12 rfl (.d (.int .i64 0)) _ fun o ho C φ a hC hs => good_len0 hs (hC ▸ lineIs_get h2 ho) rfl
 have g5 : Goes P num a N 0 [5] ⟨[(12, .d (.int .i64 0)), (11, .d (.nils s)), (10, .d (.int .i64 0)), (9, .d (.nils s)), (8, .d (.int .i64 n)), (0, .d (.nils s)), (1, .d (.int .i64 n))] ++ r, [.hole, .hole]⟩ ⟨[(13, .d (.int .i64 0)), (12, .d (.int .i64 0)), (11, .d (.nils s)), (10, .d (.int .i64 0)), (9, .d (.nils s)), (8, .d (.int .i64 n)), (0, .d (.nils s)), (1, .d (.int .i64 n))] ++ r, [.hole, .hole]⟩ := goes_line hok 5 rfl rfl
 have g6 : Goes P num a N 0 [6] ⟨[(13, .d (.int .i64 0)), (12, .d (.int .i64 0)), (11, .d (.nils s)), (10, .d (.int .i64 0)), (9, .d (.nils s)), (8, .d (.int .i64 n)), (0, .d (.nils s)), (1, .d (.int .i64 n))] ++ r, [.hole, .hole]⟩ ⟨[(14, .d (.int .i64 n)), (13, .d (.int .i64 0)), (12, .d (.int .i64 0)), (11, .d (.nils s)), (10, .d (.int .i64 0)), (9, .d (.nils s)), (8, .d (.int .i64 n)), (0, .d (.nils s)), (1, .d (.int .i64 n))] ++ r, [.hole, .hole]⟩ := goes_line hok 6 rfl (by simp [evalIns, execIns, Ins.side, Ins.on, evalOp, Env.arg, Env.get, Env.putO, Env.kill, Op.kill, binD, binI, hw])
 have g7 : Goes P num a N 0 [7] ⟨[(14, .d (.int .i64 n)), (13, .d (.int .i64 0)), (12, .d (.int .i64 0)), (11, .d (.nils s)), (10, .d (.int .i64 0)), (9, .d (.nils s)), (8, .d (.int .i64 n)), (0, .d (.nils s)), (1, .d (.int .i64 n))] ++ r, [.hole, .hole]⟩ ⟨[(1, .d (.int .i64 n)), (14, .d (.int .i64 n)), (13, .d (.int .i64 0)), (12, .d (.int .i64 0)), (11, .d (.nils s)), (10, .d (.int .i64 0)), (9, .d (.nils s)), (8, .d (.int .i64 n)), (0, .d (.nils s)), (1, .d (.int .i64 n))] ++ r, [.hole, .hole]⟩ := goes_line hok 7 rfl rfl
 exact (((((((g0).trans g1).trans g2).trans g3).trans g4).trans g5).trans g6).trans g7
theorem grow_five {b : Array Oper} {N : Nat} {s : Sh} {z : D} {bytes n : Nat} {r : Env} (h0 : 0 < n) (hroom : n * bytes ≤ 1099511627776) (hbeq : Sh.beq s s = true) (hok : insOks P num b N (growA5 s) b.toList = true) (h1 : lineIs (capOk P num 18) b[2]? = true) (h2 : lineIs (cutOk P num 17 19) b[3]? = true)
 (h3 : lineIs (zerosOk P num 20 21 s z bytes) b[5]? = true) (h4 : lineIs (lenOk P num 23) b[7]? = true) :
 Goes P num b N 0 (List.range 10) ⟨[(0, .d (.nils s)), (1, .d (.int .i64 n))] ++ r, [.hole, .hole]⟩ ⟨[(0, .sl 1 [] 0 0 none), (25, .sl 1 [] 0 0 none), (24, .d (.int .i64 0)), (23, .d (.nils s)), (22, .sl 1 [] 0 n none), (21, .d (.int .i64 n)), (20, .d (.nils s)), (19, .d (.int .i64 0)), (18, .d (.nils s)), (17, .d (.nils s)), (0, .d (.nils s)), (1, .d (.int .i64 n))] ++ r, [.hole, .sl false s (List.replicate n z)]⟩ := by
 have g0 : Goes P num b N 0 [0] ⟨[(0, .d (.nils s)), (1, .d (.int .i64 n))] ++ r, [.hole, .hole]⟩ ⟨[(17, .d (.nils s)), (0, .d (.nils s)), (1, .d (.int .i64 n))] ++ r, [.hole, .hole]⟩ := goes_line hok 0 rfl rfl
 have g1 : Goes P num b N 0 [1] ⟨[(17, .d (.nils s)), (0, .d (.nils s)), (1, .d (.int .i64 n))] ++ r, [.hole, .hole]⟩ ⟨[(18, .d (.nils s)), (17, .d (.nils s)), (0, .d (.nils s)), (1, .d (.int .i64 n))] ++ r, [.hole, .hole]⟩ := goes_line hok 1 rfl rfl
 have g2 : Goes P num b N 0 [2] ⟨[(18, .d (.nils s)), (17, .d (.nils s)), (0, .d (.nils s)), (1, .d (.int .i64 n))] ++ r, [.hole, .hole]⟩ ⟨[(19, .d (.int .i64 0)), (18, .d (.nils s)), (17, .d (.nils s)), (0, .d (.nils s)), (1, .d (.int .i64 n))] ++ r, [.hole, .hole]⟩ := goes_hand hok 2 19 rfl (.d (.int .i64 0)) _ fun o ho C φ a hC hs => good_cap hs (hC ▸ lineIs_get h1 ho) rfl
 have g3 : Goes P num b N 0 [3] ⟨[(19, .d (.int .i64 0)), (18, .d (.nils s)), (17, .d (.nils s)), (0, .d (.nils s)), (1, .d (.int .i64 n))] ++ r, [.hole, .hole]⟩ ⟨[(20, .d (.nils s)), (19, .d (.int .i64 0)), (18, .d (.nils s)), (17, .d (.nils s)), (0, .d (.nils s)), (1, .d (.int .i64 n))] ++ r, [.hole, .hole]⟩ := goes_hand hok 3 20 rfl (.d (.nils s)) _ fun o ho C φ a hC hs => good_cut0 hs (hC ▸ lineIs_get h2 ho) rfl rfl
 have g4 : Goes P num b N 0 [4] ⟨[(20, .d (.nils s)), (19, .d (.int .i64 0)), (18, .d (.nils s)), (17, .d (.nils s)), (0, .d (.nils s)), (1, .d (.int .i64 n))] ++ r, [.hole, .hole]⟩ ⟨[(21, .d (.int .i64 n)), (20, .d (.nils s)), (19, .d (.int .i64 0)), (18, .d (.nils s)), (17, .d (.nils s)), (0, .d (.nils s)), (1, .d (.int .i64 n))] ++ r, [.hole, .hole]⟩ := goes_line hok 4 rfl rfl
 have g5 : Goes P num b N 0 [5] ⟨[(21, .d (.int .i64 n)), (20, .d (.nils s)), (19, .d (.int .i64 0)), (18, .d (.nils s)), (17, .d (.nils s)), (0, .d (.nils s)), (1, .d (.int .i64 n))] ++ r, [.hole, .hole]⟩ ⟨[(22, .sl 1 [] 0 n none), (21, .d (.int .i64 n)), (20, .d (.nils s)), (19, .d (.int .i64 0)), (18, .d (.nils s)), (17, .d (.nils s)), (0, .d (.nils s)), (1, .d (.int .i64 n))] ++ r, [.hole, .sl false s (List.replicate n z)]⟩ := goes_hand hok 5 22 rfl (.sl 1 [] 0 n none) _ fun o ho C φ a hC hs => good_zeros hs (hC ▸ lineIs_get h3 ho) rfl rfl h0 hroom rfl
 have g6 : Goes P num b N 0 [6] ⟨[(22, .sl 1 [] 0 n none), (21, .d (.int .i64 n)), (20, .d (.nils s)), (19, .d (.int .i64 0)), (18, .d (.nils s)), (17, .d (.nils s)), (0, .d (.nils s)), (1, .d (.int .i64 n))] ++ r, [.hole, .sl false s (List.replicate n z)]⟩ ⟨[(23, .d (.nils s)), (22, .sl 1 [] 0 n none), (21, .d (.int .i64 n)), (20, .d (.nils s)), (19, .d (.int .i64 0)), (18, .d (.nils s)), (17, .d (.nils s)), (0, .d (.nils s)), (1, .d (.int .i64 n))] ++ r, [.hole, .sl false s (List.replicate n z)]⟩ := goes_line hok 6 rfl rfl
 have g7 : Goes P num b N 0 [7] ⟨[(23, .d (.nils s)), (22, .sl 1 [] 0 n none), (21, .d (.int .i64 n)), (20, .d (.nils s)), (19, .d (.int .i64 0)), (18, .d (.nils s)), (17, .d (.nils s)), (0, .d (.nils s)), (1, .d (.int .i64 n))] ++ r, [.hole, .sl false s (List.replicate n z)]⟩ ⟨[(24, .d (.int .i64 0)), (23, .d (.nils s)), (22, .sl 1 [] 0 n none), (21, .d (.int .i64 n)), (20, .d (.nils s)), (19, .d (.int .i64 0)), (18, .d (.nils s)), (17, .d (.nils s)), (0, .d (.nils s)), (1, .d (.int .i64 n))] ++ r, [.hole, .sl false s (List.replicate n z)]⟩ := goes_hand hok 7 24 rfl (.d (.int .i64 0)) _ fun o ho C φ a hC hs => good_len0 hs (hC ▸ lineIs_get h4 ho) rfl
 have g8 : Goes P num b N 0 [8] ⟨[(24, .d (.int .i64 0)), (23, .d (.nils s)), (22, .sl 1 [] 0 n none), (21, .d (.int .i64 n)), (20, .d (.nils s)), (19, .d (.int .i64 0)), (18, .d (.nils s)), (17, .d (.nils s)), (0, .d (.nils s)), (1, .d (.int .i64 n))] ++ r, [.hole, .sl false s (List.replicate n z)]⟩ ⟨[(25, .sl 1 [] 0 0 none), (24, .d (.int .i64 0)), (23, .d (.nils s)), (22, .sl 1 [] 0 n none), (21, .d (.int .i64 n)), (20, .d (.nils s)), (19, .d (.int .i64 0)), (18, .d (.nils s)), (17, .d (.nils s)), (0, .d (.nils s)), (1, .d (.int .i64 n))] ++ r, [.hole, .sl false s (List.replicate n z)]⟩ := goes_line hok 8 rfl (by simp [evalIns, execIns, Ins.side, Ins.on, evalOp, Env.arg, Env.get, Env.putO, Env.kill, Op.kill, Blk.elems, optNat, V.nat?, hbeq])
 have g9 : Goes P num b N 0 [9] ⟨[(25, .sl 1 [] 0 0 none), (24, .d (.int .i64 0)), (23, .d (.nils s)), (22, .sl 1 [] 0 n none), (21, .d (.int .i64 n)), (20, .d (.nils s)), (19, .d (.int .i64 0)), (18, .d (.nils s)), (17, .d (.nils s)), (0, .d (.nils s)), (1, .d (.int .i64 n))] ++ r, [.hole, .sl false s (List.replicate n z)]⟩ ⟨[(0, .sl 1 [] 0 0 none), (25, .sl 1 [] 0 0 none), (24, .d (.int .i64 0)), (23, .d (.nils s)), (22, .sl 1 [] 0 n none), (21, .d (.int .i64 n)), (20, .d (.nils s)), (19, .d (.int .i64 0)), (18, .d (.nils s)), (17, .d (.nils s)), (0, .d (.nils s)), (1, .d (.int .i64 n))] ++ r, [.hole, .sl false s (List.replicate n z)]⟩ := goes_line hok 9 rfl rfl
 exact (((((((((g0).trans g1).trans g2).trans g3).trans g4).trans g5).trans g6).trans g7).trans g8).trans g9
theorem nil_block {C : Cx} {φ : Loc} {e : Env} {h : Heap} {tmps : Array Value} (hs : SR C φ ⟨e, h⟩ tmps) {n i : Nat} {s : Sh} (hn : e.get n = some (.d (.nils s))) (hi : h[i]? = some .hole) :
 ∃ φ', Runs 0 C C φ φ' h (h.set i (.sl false s [])) ∧ SR C φ' ⟨[(n, .sl i [] 0 0 none)], h.set i (.sl false s [])⟩ tmps := by
 obtain ⟨st, k⟩ := step_new hs.hr hs.bd hi (w' := C.w) (B := .sl false s []) (l := none) (fun _ _ => rfl) (Nat.le_refl _) rfl rfl rfl (by simp) (by simp [RB])
 have hil : i < h.length := (List.getElem?_eq_some_iff.1 hi).1
 refine ⟨φ.put i none, ⟨st, k.mono fun _ h => h.elim⟩, st.hr, st.bd, fun m v hm => ?_⟩
 simp only [Env.get] at hm
 split at hm
 ·rename_i e1
  subst e1
  obtain rfl := Option.some.inj hm
  obtain ⟨u, h1, h2⟩ := hs.env n _ hn
  refine ⟨u, h1, ?_⟩
  have hu : u = .slice none 0 0 := by
   simp only [RX, RV, RD] at h2
   cases u <;> simp_all [Value.cells, isAgg, D.isAgg]
  subst hu
  simp only [RX]
  exact ⟨_, 0, s, 0, none, 0, List.getElem?_set_self hil, by simp [Blk.run], by omega, rfl, by omega, by simp, by simp⟩
 ·cases hm
def growEnd (s : Sh) (z : D) (n : Nat) : St := ⟨[(4, .sl 1 [] 0 0 none)], [.hole, .sl false s (List.replicate n z)]⟩
theorem grow_wp {s : Sh} {z : D} {bytes N n : Nat} (hm : P.follows .mixedOrders = true) {x : Code} (hok : codeOk P num N (growCd s) x = true) (hshape : growShape P num s z bytes x = true) (hbeq : Sh.beq s s = true) (hroom : n * bytes ≤ 1099511627776) (hn : n ≤ 1099511627776)
 (C : Cx) (φ : Loc) (a : Act) (hC : C.num = num) (hs : SR C φ ⟨params 0 [.d (.nils s), .d (.int .i64 n)], [] ++ List.replicate 2 .hole⟩ a.tmps) (hN : N ≤ a.tmps.size)
 (Q : Exit → Act → World → Prop) (hQ : Fits num 0 Q .ret C φ ([] ++ List.replicate 2 .hole) (growEnd s z n) a) : x.wp P Q a C.w := by
 obtain ⟨x1, x2, rfl, ok1, ok2⟩ := codeOk_seq hok
 obtain ⟨x3, x4, rfl, ok3, ok4⟩ := codeOk_seq ok2
 obtain ⟨x5, x6, rfl, ok5, ok6⟩ := codeOk_seq ok4
 obtain ⟨x7, x8, rfl, ok7, ok8⟩ := codeOk_seq ok5
 obtain ⟨x9, xc, rfl, ok9, okc⟩ := codeOk_seq ok8
 have nc : CallOk P num (fun _ _ _ => none) := noCalls
 have hn0 : ¬ ((n : Int) < 0) := by omega
 cases x7 <;> simp only [codeOk, Bool.false_eq_true, Bool.and_eq_true] at ok7
 rename_i id3 ra draw3
 cases xc <;> simp only [codeOk, Bool.false_eq_true, Bool.and_eq_true] at okc
 rename_i cc xb xe
 obtain ⟨⟨okc1, okb⟩, oke⟩ := okc
 cases xb <;> simp only [codeOk, Bool.false_eq_true, Bool.and_eq_true] at okb
 rename_i id5 rb draw5
 cases draw3 with
 | true => simp [growShape] at hshape
 | false =>
 cases draw5 with
 | true => simp [growShape] at hshape
 | false =>
 simp only [growShape, Bool.and_eq_true] at hshape
 obtain ⟨⟨⟨⟨⟨h1, h2⟩, h3⟩, h4⟩, h5⟩, h6⟩ := hshape
 have ra8 : ra.size = 8 := by
  have := (insOks_get ok7.1).1
  simpa [growA3] using this.symm
 have rb10 : rb.size = 10 := by
  have := (insOks_get okb.1).1
  simpa [growA5] using this.symm
 refine wp_seq (code_sound (O := fun _ _ _ => none) (np := 0) (N := N) nc hm 1 _ _ ok1 C φ _ ⟨[(0, .d (.nils s)), (1, .d (.int .i64 n))], [.hole, .hole]⟩ a .normal hC hs hN rfl _ ?_)
 intro C1 φ1 a1 k1 r1 hs1 z1 d1
 refine wp_seq (code_sound (O := fun _ _ _ => none) (np := 0) (N := N) nc hm 1 _ _ ok3 C1 φ1 _ ⟨[(0, .d (.nils s)), (1, .d (.int .i64 n)), (6, .d (.bool false))], [.hole, .hole]⟩ a1 .normal k1 hs1 (by rw [z1]; exact hN) (by
  simp [evalCd, evalList, evalIns, execIns, Ins.side, Ins.on, evalOp, Env.arg, Env.get, Env.putO, Env.kill, Op.kill, Env.keep, clean, Env.refd, V.refs, binD, binI, hn0]) _ ?_)
 intro C2 φ2 a2 k2 r2 hs2 z2 d2
 refine wp_seq (wp_seq (goes_region (ks := [0, 1]) (grow_three (r := [(6, .d (.bool false))]) hn ok7.1 h1 h2) ra8 k2 hs2 (by rw [z2, z1]; exact hN) ?_))
 intro C3 φ3 a3 k3 r3 hs3 z3 d3
 have hs3' : SR C3 φ3 ⟨[(0, .d (.nils s)), (1, .d (.int .i64 n))], [.hole, .hole]⟩ a3.tmps := hs3
 have N3 : N ≤ a3.tmps.size := by rw [z3, z2, z1]; exact hN
 have r03 : Runs 0 C C3 φ φ3 ([] ++ List.replicate 2 .hole) [.hole, .hole] := (r1.trans r2).trans r3
 have z03 : a3.tmps.size = a.tmps.size := z3.trans (z2.trans z1)
 have d03 : a3.defers = a.defers := d3.trans (d2.trans d1)
 by_cases h0 : n = 0
 ·subst h0
  refine wp_seq (code_sound (O := fun _ _ _ => none) (np := 0) (N := N) nc hm 1 _ _ ok9 C3 φ3 _ ⟨[(0, .d (.nils s)), (1, .d (.int .i64 (0 : Nat))), (16, .d (.bool false))], [.hole, .hole]⟩ a3 .normal k3 hs3' N3 rfl _ ?_)
  intro C4 φ4 a4 k4 r4 hs4 z4 d4
  refine wp_cond_false (RX_bool (arg_sound hs4 (k4 ▸ okc1) rfl)) ?_
  cases xe <;> simp only [codeOk, Bool.false_eq_true] at oke
  refine wp_skip ?_
  refine code_sound (O := fun _ _ _ => none) (np := 0) (N := N) nc hm 1 _ _ ok6 C4 φ4 _ ⟨[(4, .d (.nils s))], [.hole, .hole]⟩ a4 .ret k4 hs4 (by rw [z4]; exact N3) rfl _ ?_
  intro C5 φ5 a5 k5 r5 hs5 z5 d5
  obtain ⟨φ6, r6, hs6⟩ := nil_block (n := 4) (i := 1) (s := s) hs5 rfl rfl
  exact hQ C5 φ6 a5 k5 (((r03.trans r4).trans r5).trans r6) hs6 (z5.trans (z4.trans z03)) (d5.trans (d4.trans d03))
 ·have hpos : 0 < n := by omega
  refine wp_seq (code_sound (O := fun _ _ _ => none) (np := 0) (N := N) nc hm 1 _ _ ok9 C3 φ3 _ ⟨[(0, .d (.nils s)), (1, .d (.int .i64 n)), (16, .d (.bool true))], [.hole, .hole]⟩ a3 .normal k3 hs3' N3 (by
   simp [evalCd, evalList, evalIns, execIns, Ins.side, Ins.on, evalOp, Env.arg, Env.get, Env.putO, Env.kill, Op.kill, Env.keep, clean, Env.refd, V.refs, binD, binI, hpos]) _ ?_)
  intro C4 φ4 a4 k4 r4 hs4 z4 d4
  refine wp_cond_true (RX_bool (arg_sound hs4 (k4 ▸ okc1) rfl)) ?_
  refine goes_region (ks := [0]) (grow_five (r := [(16, .d (.bool true))]) hpos hroom hbeq okb.1 h3 h4 h5 h6) rb10 k4 hs4 (by rw [z4]; exact N3) ?_
  intro C5 φ5 a5 k5 r5 hs5 z5 d5
  have N5 : N ≤ a5.tmps.size := by rw [z5, z4]; exact N3
  refine code_sound (O := fun _ _ _ => none) (np := 0) (N := N) nc hm 1 _ _ ok6 C5 φ5 ⟨[(0, .sl 1 [] 0 0 none)], [.hole, .sl false s (List.replicate n z)]⟩ (growEnd s z n) a5 .ret k5 hs5 N5 rfl _ ?_
  intro C6 φ6 a6 k6 r6 hs6 z6 d6
  exact hQ C6 φ6 a6 k6 (((r03.trans r4).trans r5).trans r6) hs6 (z6.trans (z5.trans (z4.trans z03))) (d6.trans (d5.trans (d4.trans d03)))
theorem grow_sound {s : Sh} {z : D} {bytes : Nat} (hm : P.follows .mixedOrders = true) {f : Nat} {g : Func} (hg : P.funcs[num f]? = some g) (hok : fnOk P num (growFn s) g = true) (hshape : (match g.body with | some x => growShape P num s z bytes x | none => false) = true) (hbeq : Sh.beq s s = true)
 {n : Nat} (hroom : n * bytes ≤ 1099511627776) (hn : n ≤ 1099511627776) {C : Cx} {φ : Loc} {us : List Value} (hC : C.num = num) (hr : HR C φ []) (hb : ∀ b, C.I b → b < C.w.heap.size) (hv : RXs C φ [] [.d (.nils s), .d (.int .i64 n)] us) :
 Ends P (num f) us C φ [] [.sl false s (List.replicate n z)] (.sl 0 [] 0 0 none) := by
 unfold fnOk at hok
 simp only [Bool.and_eq_true, bne_iff_ne, ne_eq, decide_eq_true_eq] at hok
 obtain ⟨⟨⟨hname, hnp⟩, hres⟩, hbody⟩ := hok
 cases hcode : g.body with
 | none => rw [hcode] at hbody; cases hbody
 | some code =>
  rw [hcode] at hbody hshape
  simp only at hbody hshape
  refine (run_of (growFn s) hg hname hnp hres hcode (vs := [.d (.nils s), .d (.int .i64 n)]) (bs := []) (ans := (.sl 0 [] 0 0 none, [], [.sl false s (List.replicate n z)])) .ret (growEnd s z n) rfl ?_ (fun C φ a hC hs hN Q hQ => grow_wp hm hbody hshape hbeq hroom hn C φ a hC hs hN Q hQ) hC hr hb hv).2
  simp [growFn, growEnd, resVs, resV, Env.get, result, once, V.refs, Heap.pick, V.ren, List.idxOf, List.findIdx, List.findIdx.go]
def growA (ids : Nat → Option (Sh × D × Nat)) : Oracle := fun f vs bs =>
 match ids f with
 | some (s, z, bytes) => match vs with
  | [.d (.nils t), .d (.int .i64 (.ofNat n))] => match bs with
   | [] => if Sh.beq t s = true ∧ n * bytes ≤ 1099511627776 ∧ n ≤ 1099511627776 then some (.sl 0 [] 0 0 none, [], [.sl false s (List.replicate n z)]) else none
   | _ => none
  | _ => none
 | none => none
theorem growA_eq {ids : Nat → Option (Sh × D × Nat)} {f : Nat} {s : Sh} {z : D} {bytes : Nat} {n : Nat} (h1 : ids f = some (s, z, bytes)) (h0 : Sh.beq s s = true) (h2 : n * bytes ≤ 1099511627776) (h3 : n ≤ 1099511627776) :
 growA ids f [.d (.nils s), .d (.int .i64 n)] [] = some (.sl 0 [] 0 0 none, [], [.sl false s (List.replicate n z)]) := by
 have e : ((n : Nat) : Int) = .ofNat n := rfl
 rw [e]
 simp [growA, h1, h0, h2, h3]
theorem growA_sound {ids : Nat → Option (Sh × D × Nat)} (hm : P.follows .mixedOrders = true)
 (hids : ∀ f s z bytes, ids f = some (s, z, bytes) → Sh.beq s s = true ∧ ∃ g, P.funcs[num f]? = some g ∧ fnOk P num (growFn s) g = true ∧ (match g.body with | some x => growShape P num s z bytes x | none => false) = true) : CallOk P num (growA ids) := by
 intro f vs bs ans h C φ us hC hr hb hv
 unfold growA at h
 split at h
 ·rename_i s z bytes hi
  split at h
  ·rename_i t n
   split at h
   ·split at h
    ·rename_i hc
     obtain rfl := Option.some.inj h
     obtain ⟨hbeq, g, hg, hok, hshape⟩ := hids f s z bytes hi
     obtain rfl := Sh.beq_eq _ _ hc.1
     exact ⟨rfl, grow_sound hm hg hok hshape hbeq hc.2.1 hc.2.2 hC hr hb hv⟩
    ·cases h
   ·cases h
  ·cases h
 ·cases h
def orA (A B : Oracle) : Oracle := fun f vs bs => match A f vs bs with
 | some r => some r
 | none => B f vs bs
theorem orA_sound {A B : Oracle} (ha : CallOk P num A) (hb : CallOk P num B) : CallOk P num (orA A B) := by
 intro f vs bs ans h
 unfold orA at h
 split at h
 ·rename_i r hr
  obtain rfl := Option.some.inj h
  exact ha f vs bs _ hr
 ·exact hb f vs bs ans h
theorem orA_left {A B : Oracle} {f : Nat} {vs : List V} {bs : Heap} {r : Ans} (h : A f vs bs = some r) : orA A B f vs bs = some r := by
 simp [orA, h]
theorem orA_right {A B : Oracle} {f : Nat} {vs : List V} {bs : Heap} {r : Ans} (h : B f vs bs = some r) (h0 : A f vs bs = none) : orA A B f vs bs = some r := by
 simp [orA, h, h0]
end Pe

/-
 Functions of the laws in the small form, printed by a program.
-/
namespace Pe
open Go
def Z1w_L0 : Cd :=
 .seq (.seq (.region [⟨some 5, .mv (.t 4), none, []⟩,
 ⟨some 6, .bin .lss (.t 5) (.c (.int .i64 64)), none, []⟩] [1, 2, 3, 4, 6])
 (.cond (.t 6)
 (.skip)
 (.exit 0)))
 (.seq (.block 1 (.region [⟨some 9, .mv (.t 4), none, []⟩,
 ⟨some 10, .mv (.t 4), none, []⟩,
 ⟨some 11, .idxA (some 64) .leaf (.t 1) (.t 10), none, []⟩,
 ⟨some 12, .load .leaf (.t 11), none, []⟩,
 ⟨some 13, .idxA (some 64) .leaf (.t 3) (.t 9), none, []⟩,
 ⟨none, .store false .leaf (.t 13) (.t 12), none, []⟩] [1, 2, 3, 4]))
 (.region [⟨some 7, .mv (.t 4), none, []⟩,
 ⟨some 8, .bin .add (.t 7) (.c (.int .i64 1)), none, []⟩,
 ⟨some 4, .mv (.t 8), none, []⟩] [1, 2, 3, 4]))
def Z1w_B : Cd :=
 .seq (.region [⟨some 1, .box false 0 (.t 0), none, []⟩,
 ⟨some 2, .box false 1 (.c (.arr 64 .leaf z64)), none, []⟩] [1, 2])
 (.seq (.region [⟨some 3, .box false 2 (.c (.arr 64 .leaf z64)), none, []⟩] [1, 2, 3])
 (.seq (.seq (.region [⟨some 4, .mv (.c (.int .i64 0)), none, []⟩] [1, 2, 3, 4])
 (.block 0 (.loop (Z1w_L0))))
 (.seq (.region [⟨some 14, .load (.arr 64 .leaf) (.t 3), none, []⟩,
 ⟨none, .store false (.arr 64 .leaf) (.t 2) (.t 14), none, []⟩] [2])
 (.ret))))
def Z1w : Fn :=
 { nparams := 1, nblk := 3, results := [.cell 2 (.arr 64 .leaf)], body := Z1w_B }
end Pe

/-
 Functions of the laws in the small form, printed by a program.
-/
namespace Pe
open Go
def Z1s_L0 : Cd :=
 .seq (.seq (.region [⟨some 6, .mv (.t 5), none, []⟩,
 ⟨some 7, .bin .lss (.t 6) (.c (.int .i64 64)), none, []⟩] [2, 3, 5, 7])
 (.cond (.t 7)
 (.skip)
 (.exit 0)))
 (.seq (.block 1 (.seq (.region [⟨some 10, .mv (.t 5), none, []⟩,
 ⟨some 11, .idxA (some 64) .leaf (.t 2) (.t 10), none, []⟩,
 ⟨some 12, .load .leaf (.t 11), none, []⟩,
 ⟨some 13, .mv (.t 5), none, []⟩,
 ⟨some 14, .idxA (some 64) .leaf (.t 3) (.t 13), none, []⟩,
 ⟨some 15, .load .leaf (.t 14), none, []⟩,
 ⟨some 16, .bin .neq (.t 12) (.t 15), none, []⟩] [2, 3, 5, 16])
 (.cond (.t 16)
 (.seq (.region [⟨some 4, .mv (.c (.bool false)), none, []⟩] [4])
 (.ret))
 (.skip))))
 (.region [⟨some 8, .mv (.t 5), none, []⟩,
 ⟨some 9, .bin .add (.t 8) (.c (.int .i64 1)), none, []⟩,
 ⟨some 5, .mv (.t 9), none, []⟩] [2, 3, 5]))
def Z1s_B : Cd :=
 .seq (.region [⟨some 2, .box false 0 (.t 0), none, []⟩,
 ⟨some 3, .box false 1 (.t 1), none, []⟩,
 ⟨some 4, .mv (.c (.bool false)), none, []⟩] [2, 3])
 (.seq (.seq (.region [⟨some 5, .mv (.c (.int .i64 0)), none, []⟩] [2, 3, 5])
 (.block 0 (.loop (Z1s_L0))))
 (.seq (.region [⟨some 4, .mv (.c (.bool true)), none, []⟩] [4])
 (.ret)))
def Z1s : Fn :=
 { nparams := 2, nblk := 2, results := [.tmp 4], body := Z1s_B }
end Pe

/-
 Functions of the laws in the small form, printed by a program.
-/
namespace Pe
open Go
def ir_laws_eqSkew_L0 : Cd :=
 .seq (.seq (.region [⟨some 6, .mv (.t 5), none, []⟩,
 ⟨some 7, .bin .lss (.t 6) (.c (.int .i64 8)), none, []⟩] [2, 3, 5, 7])
 (.cond (.t 7)
 (.skip)
 (.exit 0)))
 (.seq (.block 1 (.seq (.region [⟨some 10, .mv (.t 5), none, []⟩,
 ⟨some 11, .idxA (some 8) (.arr 64 .leaf) (.t 2) (.t 10), none, []⟩,
 ⟨some 12, .load (.arr 64 .leaf) (.t 11), none, []⟩,
 ⟨some 13, .mv (.t 5), none, []⟩,
 ⟨some 14, .idxA (some 8) (.arr 64 .leaf) (.t 3) (.t 13), none, []⟩,
 ⟨some 15, .load (.arr 64 .leaf) (.t 14), none, []⟩,
 ⟨some 16, .call .flat [] (.f F1s) [(.t 12), (.t 15)], none, []⟩,
 ⟨some 17, .un .not (.t 16), none, []⟩] [2, 3, 5, 17])
 (.cond (.t 17)
 (.seq (.region [⟨some 4, .mv (.c (.bool false)), none, []⟩] [4])
 (.ret))
 (.skip))))
 (.region [⟨some 8, .mv (.t 5), none, []⟩,
 ⟨some 9, .bin .add (.t 8) (.c (.int .i64 1)), none, []⟩,
 ⟨some 5, .mv (.t 9), none, []⟩] [2, 3, 5]))
def ir_laws_eqSkew_B : Cd :=
 .seq (.region [⟨some 2, .box false 0 (.t 0), none, []⟩,
 ⟨some 3, .box false 1 (.t 1), none, []⟩,
 ⟨some 4, .mv (.c (.bool false)), none, []⟩] [2, 3])
 (.seq (.seq (.region [⟨some 5, .mv (.c (.int .i64 0)), none, []⟩] [2, 3, 5])
 (.block 0 (.loop (ir_laws_eqSkew_L0))))
 (.seq (.region [⟨some 4, .mv (.c (.bool true)), none, []⟩] [4])
 (.ret)))
def Z1u : Fn :=
 { nparams := 2, nblk := 2, results := [.tmp 4], body := ir_laws_eqSkew_B }
end Pe

/-
 Functions of the laws in the small form, printed by a program.
-/
namespace Pe
open Go
def Z1v_B : Cd :=
 .seq (.region [⟨some 4, .mv (.c (.int .i64 0)), none, []⟩] [0, 1])
 (.seq (.region [⟨some 5, .mv (.t 1), none, []⟩,
 ⟨some 6, .mv (.t 0), none, []⟩,
 ⟨some 7, .len false (.t 6), none, []⟩,
 ⟨some 8, .bin .sub (.t 5) (.t 7), none, []⟩,
 ⟨some 1, .mv (.t 8), none, []⟩] [1])
 (.seq (.seq (.region [⟨some 9, .mv (.t 1), none, []⟩,
 ⟨some 10, .bin .lss (.t 9) (.c (.int .i64 0)), none, []⟩] [1, 10])
 (.cond (.t 10)
 (.seq (.region [⟨some 4, .mv (.c (.int .i64 (-1))), none, []⟩] [4])
 (.ret))
 (.skip)))
 (.seq (.region [⟨some 11, .mv (.t 1), none, []⟩,
 ⟨some 4, .mv (.t 11), none, []⟩] [4])
 (.ret))))
def Z1v : Fn :=
 { nparams := 2, nblk := 0, results := [.tmp 4], body := Z1v_B }
def Z1x_L0 : Cd :=
 .seq (.seq (.region [⟨some 8, .mv (.t 4), none, []⟩,
 ⟨some 9, .mv (.t 0), none, []⟩,
 ⟨some 10, .len false (.t 9), none, []⟩,
 ⟨some 11, .bin .lss (.t 8) (.t 10), none, []⟩] [0, 3, 4, 11])
 (.cond (.t 11)
 (.skip)
 (.exit 0)))
 (.seq (.block 1 (.region [⟨some 14, .mv (.t 3), none, []⟩,
 ⟨some 15, .mv (.t 4), none, []⟩,
 ⟨some 16, .mv (.t 0), none, []⟩,
 ⟨some 17, .mv (.t 4), none, []⟩,
 ⟨some 18, .idxA none (.arr 64 .leaf) (.t 16) (.t 17), none, []⟩,
 ⟨some 19, .load (.arr 64 .leaf) (.t 18), none, []⟩,
 ⟨some 20, .call .flat [] (.f F1w) [(.t 19)], none, []⟩,
 ⟨some 21, .idxA none (.arr 64 .leaf) (.t 14) (.t 15), none, []⟩,
 ⟨none, .store false (.arr 64 .leaf) (.t 21) (.t 20), none, []⟩] [0, 3, 4]))
 (.region [⟨some 12, .mv (.t 4), none, []⟩,
 ⟨some 13, .bin .add (.t 12) (.c (.int .i64 1)), none, []⟩,
 ⟨some 4, .mv (.t 13), none, []⟩] [0, 3, 4]))
def Z1x_B : Cd :=
 .seq (.region [⟨some 2, .mv (.c (.sl (.arr 64 .leaf) [])), none, []⟩] [0])
 (.seq (.region [⟨some 5, .mv (.t 0), none, []⟩,
 ⟨some 6, .len false (.t 5), none, []⟩,
 ⟨some 7, .mkSl 0 (.arr 64 .leaf) (.arr 64 .leaf z64) 64 (.t 6) (.t 6), none, []⟩,
 ⟨some 3, .mv (.t 7), none, []⟩] [0, 3])
 (.seq (.seq (.region [⟨some 4, .mv (.c (.int .i64 0)), none, []⟩] [0, 3, 4])
 (.block 0 (.loop (Z1x_L0))))
 (.seq (.region [⟨some 22, .mv (.t 3), none, []⟩,
 ⟨some 2, .mv (.t 22), none, []⟩] [2])
 (.ret))))
def Z1x : Fn :=
 { nparams := 1, nblk := 1, results := [.tmp 2], body := Z1x_B }
def Z1t_L0 : Cd :=
 .seq (.seq (.region [⟨some 11, .mv (.t 5), none, []⟩,
 ⟨some 12, .mv (.t 0), none, []⟩,
 ⟨some 13, .len false (.t 12), none, []⟩,
 ⟨some 14, .bin .lss (.t 11) (.t 13), none, []⟩] [0, 1, 5, 14])
 (.cond (.t 14)
 (.skip)
 (.exit 0)))
 (.seq (.block 1 (.seq (.region [⟨some 17, .mv (.t 0), none, []⟩,
 ⟨some 18, .mv (.t 5), none, []⟩,
 ⟨some 19, .idxA none (.arr 64 .leaf) (.t 17) (.t 18), none, []⟩,
 ⟨some 20, .load (.arr 64 .leaf) (.t 19), none, []⟩,
 ⟨some 21, .mv (.t 1), none, []⟩,
 ⟨some 22, .mv (.t 5), none, []⟩,
 ⟨some 23, .idxA none (.arr 64 .leaf) (.t 21) (.t 22), none, []⟩,
 ⟨some 24, .load (.arr 64 .leaf) (.t 23), none, []⟩,
 ⟨some 25, .call .flat [] (.f F1s) [(.t 20), (.t 24)], none, []⟩,
 ⟨some 26, .un .not (.t 25), none, []⟩] [0, 1, 5, 26])
 (.cond (.t 26)
 (.seq (.region [⟨some 4, .mv (.c (.bool false)), none, []⟩] [4])
 (.ret))
 (.skip))))
 (.region [⟨some 15, .mv (.t 5), none, []⟩,
 ⟨some 16, .bin .add (.t 15) (.c (.int .i64 1)), none, []⟩,
 ⟨some 5, .mv (.t 16), none, []⟩] [0, 1, 5]))
def Z1t_B : Cd :=
 .seq (.region [⟨some 4, .mv (.c (.bool false)), none, []⟩] [0, 1])
 (.seq (.seq (.region [⟨some 6, .mv (.t 0), none, []⟩,
 ⟨some 7, .len false (.t 6), none, []⟩,
 ⟨some 8, .mv (.t 1), none, []⟩,
 ⟨some 9, .len false (.t 8), none, []⟩,
 ⟨some 10, .bin .neq (.t 7) (.t 9), none, []⟩] [0, 1, 10])
 (.cond (.t 10)
 (.seq (.region [⟨some 4, .mv (.c (.bool false)), none, []⟩] [4])
 (.ret))
 (.skip)))
 (.seq (.seq (.region [⟨some 5, .mv (.c (.int .i64 0)), none, []⟩] [0, 1, 5])
 (.block 0 (.loop (Z1t_L0))))
 (.seq (.region [⟨some 4, .mv (.c (.bool true)), none, []⟩] [4])
 (.ret))))
def Z1t : Fn :=
 { nparams := 2, nblk := 0, results := [.tmp 4], body := Z1t_B }
end Pe

/-
 Functions of the laws in the small form, printed by a program.
-/
namespace Pe
open Go
def ir_laws_FnExactInterpolateSkew_B : Cd :=
 .seq (.region [⟨some 5, .box false 0 (.t 1), none, []⟩,
 ⟨some 8, .mv (.c (.bool false)), none, []⟩] [0, 2, 3, 5])
 (.seq (.region [⟨some 9, .mv (.c (.int .i64 1048576)), none, []⟩] [0, 2, 3, 5, 9])
 (.seq (.region [⟨some 16, .mv (.t 2), none, []⟩,
 ⟨some 17, .mv (.t 9), none, []⟩,
 ⟨some 18, .call .flat [] (.f F1v) [(.t 16), (.t 17)], none, []⟩,
 ⟨some 9, .mv (.t 18), none, []⟩] [0, 2, 3, 5, 9])
 (.seq (.seq (.region [⟨some 19, .mv (.t 9), none, []⟩,
 ⟨some 20, .bin .lss (.t 19) (.c (.int .i64 0)), none, []⟩] [0, 2, 3, 5, 9, 20])
 (.cond (.t 20)
 (.seq (.region [⟨some 8, .mv (.c (.bool true)), none, []⟩] [8])
 (.ret))
 (.skip)))
 (.seq (.region [⟨some 21, .mv (.t 3), none, []⟩,
 ⟨some 22, .mv (.t 9), none, []⟩,
 ⟨some 23, .call .flat [] (.f F1v) [(.t 21), (.t 22)], none, []⟩,
 ⟨some 9, .mv (.t 23), none, []⟩] [0, 2, 3, 5, 9])
 (.seq (.seq (.region [⟨some 24, .mv (.t 9), none, []⟩,
 ⟨some 25, .bin .lss (.t 24) (.c (.int .i64 0)), none, []⟩] [0, 2, 3, 5, 25])
 (.cond (.t 25)
 (.seq (.region [⟨some 8, .mv (.c (.bool true)), none, []⟩] [8])
 (.ret))
 (.skip)))
 (.seq (.region [⟨some 27, .mv (.t 0), none, []⟩,
 ⟨some 28, .load (.arr 64 .leaf) (.t 5), none, []⟩,
 ⟨some 29, .call .flat [] (.f F1w) [(.t 28)], none, []⟩,
 ⟨some 30, .mv (.t 2), none, []⟩,
 ⟨some 31, .call .plain [] (.f F1x) [(.t 30)], none, []⟩,
 ⟨some 32, .mv (.t 3), none, []⟩,
 ⟨some 33, .call .plain [] (.f F1x) [(.t 32)], none, []⟩,
 ⟨some 34, .call .flat [] (.f F32) [(.t 27), (.t 29), (.t 31), (.t 33)], none, []⟩,
 ⟨some 26, .mv (.t 34), none, []⟩,
 ⟨some 35, .ext (.t 26) 0, none, []⟩,
 ⟨some 36, .ext (.t 26) 1, none, []⟩,
 ⟨some 10, .box false 1 (.c (.arr 8 (.arr 64 .leaf) z8)), none, []⟩,
 ⟨none, .store false (.arr 8 (.arr 64 .leaf)) (.t 10) (.t 35), none, []⟩,
 ⟨some 11, .mv (.t 36), none, []⟩] [0, 2, 3, 5, 10, 11])
 (.seq (.region [⟨some 37, .mv (.t 2), none, []⟩,
 ⟨some 38, .call .plain [] (.f F1x) [(.t 37)], none, []⟩,
 ⟨some 12, .mv (.t 38), none, []⟩] [0, 2, 3, 5, 10, 11, 12])
 (.seq (.region [⟨some 39, .mv (.t 3), none, []⟩,
 ⟨some 40, .call .plain [] (.f F1x) [(.t 39)], none, []⟩,
 ⟨some 13, .mv (.t 40), none, []⟩] [0, 2, 3, 5, 10, 11, 12, 13])
 (.seq (.region [⟨some 42, .mv (.t 0), none, []⟩,
 ⟨some 43, .load (.arr 64 .leaf) (.t 5), none, []⟩,
 ⟨some 44, .call .flat [] (.f F1w) [(.t 43)], none, []⟩,
 ⟨some 45, .mv (.t 12), none, []⟩,
 ⟨some 46, .mv (.t 13), none, []⟩,
 ⟨some 47, .call .flat [] (.f F4) [(.t 42), (.t 44), (.t 45), (.t 46)], none, []⟩,
 ⟨some 41, .mv (.t 47), none, []⟩,
 ⟨some 48, .ext (.t 41) 0, none, []⟩,
 ⟨some 49, .ext (.t 41) 1, none, []⟩,
 ⟨some 14, .box false 2 (.c (.arr 8 (.arr 64 .leaf) z8)), none, []⟩,
 ⟨none, .store false (.arr 8 (.arr 64 .leaf)) (.t 14) (.t 48), none, []⟩,
 ⟨some 15, .mv (.t 49), none, []⟩] [2, 3, 10, 11, 12, 13, 14, 15])
 (.seq (.seq (.region [⟨some 50, .load (.arr 8 (.arr 64 .leaf)) (.t 14), none, []⟩,
 ⟨some 51, .load (.arr 8 (.arr 64 .leaf)) (.t 10), none, []⟩,
 ⟨some 52, .call .flat [] (.f F1u) [(.t 50), (.t 51)], none, []⟩,
 ⟨some 53, .un .not (.t 52), none, []⟩,
 ⟨some 54, .mv (.t 53), none, []⟩,
 ⟨some 55, .mv (.t 15), some (54, false), []⟩,
 ⟨some 56, .mv (.t 11), some (54, false), []⟩,
 ⟨some 57, .bin .neq (.t 55) (.t 56), some (54, false), []⟩,
 ⟨some 58, .pick (.t 54) (.c (.bool true)) (.t 57), none, []⟩] [2, 3, 12, 13, 58])
 (.cond (.t 58)
 (.seq (.region [⟨some 8, .mv (.c (.bool false)), none, []⟩] [8])
 (.ret))
 (.skip)))
 (.seq (.seq (.region [⟨some 59, .mv (.t 12), none, []⟩,
 ⟨some 60, .mv (.t 2), none, []⟩,
 ⟨some 61, .call .plain [] (.f F1x) [(.t 60)], none, []⟩,
 ⟨some 62, .call .flat [] (.f F1t) [(.t 59), (.t 61)], none, []⟩,
 ⟨some 63, .un .not (.t 62), none, []⟩] [3, 13, 63])
 (.cond (.t 63)
 (.seq (.region [⟨some 8, .mv (.c (.bool false)), none, []⟩] [8])
 (.ret))
 (.skip)))
 (.seq (.seq (.region [⟨some 64, .mv (.t 13), none, []⟩,
 ⟨some 65, .mv (.t 3), none, []⟩,
 ⟨some 66, .call .plain [] (.f F1x) [(.t 65)], none, []⟩,
 ⟨some 67, .call .flat [] (.f F1t) [(.t 64), (.t 66)], none, []⟩,
 ⟨some 68, .un .not (.t 67), none, []⟩] [68])
 (.cond (.t 68)
 (.seq (.region [⟨some 8, .mv (.c (.bool false)), none, []⟩] [8])
 (.ret))
 (.skip)))
 (.seq (.region [⟨some 8, .mv (.c (.bool true)), none, []⟩] [8])
 (.ret))))))))))))))
def Z1r : Fn :=
 { nparams := 4, nblk := 3, results := [.tmp 8], body := ir_laws_FnExactInterpolateSkew_B }
end Pe

/-
 Functions of the program in the small form, printed by a program.
-/
namespace Pe
open Go
def Zh_B : Cd :=
 .seq (.region [⟨some 2, .box false 0 (.t 0), none, []⟩,
 ⟨some 3, .box false 1 (.t 1), none, []⟩,
 ⟨some 4, .mv (.c (.bool false)), none, []⟩] [2, 3])
 (.seq (.region [⟨some 5, .fldA [.leaf, .leaf] (.t 2) 0, none, []⟩,
 ⟨some 6, .load .leaf (.t 5), none, []⟩,
 ⟨some 7, .load (.arr 64 .leaf) (.t 3), none, []⟩,
 ⟨some 8, .call .flat [] (.f Fm) [(.t 6), (.t 7)], none, []⟩,
 ⟨some 9, .mv (.t 8), none, []⟩,
 ⟨some 10, .load (.arr 64 .leaf) (.t 3), some (9, true), []⟩,
 ⟨some 11, .call .plain [] (.f F1e) [(.t 10)], some (9, true), []⟩,
 ⟨some 12, .call .flat [] (.f F1g) [(.t 11)], some (9, true), []⟩,
 ⟨some 13, .fldA [.leaf, .leaf] (.t 2) 1, some (9, true), []⟩,
 ⟨some 14, .load .leaf (.t 13), some (9, true), []⟩,
 ⟨some 15, .call .flat [] (.f F1g) [(.t 14)], some (9, true), []⟩,
 ⟨some 16, .bin .lss (.t 12) (.t 15), some (9, true), []⟩,
 ⟨some 17, .pick (.t 9) (.t 16) (.c (.bool false)), none, []⟩,
 ⟨some 4, .mv (.t 17), none, []⟩] [4])
 (.ret))
def Zh : Fn :=
 { nparams := 2, nblk := 2, results := [.tmp 4], body := Zh_B }
def Zb_B : Cd :=
 .seq (.region [⟨some 3, .box false 0 (.t 1), none, []⟩,
 ⟨some 4, .box false 1 (.c (.st [.leaf, .leaf] [(.int .i64 0), (.sl .leaf [])])), none, []⟩] [0, 3, 4])
 (.seq (.region [⟨some 5, .mv (.t 0), none, []⟩,
 ⟨some 6, .load (.arr 64 .leaf) (.t 3), none, []⟩,
 ⟨some 7, .call .plain [] (.f F1e) [(.t 6)], none, []⟩,
 ⟨some 8, .build false (.st [.leaf, .leaf] [(.int .i64 0), (.sl .leaf [])]) [(0, (.t 5)), (1, (.t 7))], none, []⟩,
 ⟨none, .store false (.st [.leaf, .leaf]) (.t 4) (.t 8), none, []⟩] [4])
 (.ret))
def Zb : Fn :=
 { nparams := 2, nblk := 2, results := [.cell 4 (.st [.leaf, .leaf])], body := Zb_B }
def Zl_B : Cd :=
 .seq (.region [⟨some 3, .box false 0 (.t 1), none, []⟩,
 ⟨some 4, .mv (.c (.bool false)), none, []⟩] [0, 3])
 (.seq (.region [⟨some 6, .load (.arr 64 .leaf) (.t 3), none, []⟩,
 ⟨some 7, .call .plain [] (.f F1e) [(.t 6)], none, []⟩,
 ⟨some 5, .mv (.t 7), none, []⟩] [0, 3, 5])
 (.seq (.region [⟨some 8, .mv (.t 0), none, []⟩,
 ⟨some 9, .load (.arr 64 .leaf) (.t 3), none, []⟩,
 ⟨some 10, .call .flat [] (.f F5) [(.t 8), (.t 9)], none, []⟩,
 ⟨some 11, .mv (.t 10), none, []⟩,
 ⟨some 12, .mv (.t 5), some (11, true), []⟩,
 ⟨some 13, .call .flat [] (.f F1g) [(.t 12)], some (11, true), []⟩,
 ⟨some 14, .call .flat [] (.f F1q) [(.t 13), (.c (.int .i64 1)), (.c (.int .i64 4))], some (11, true), []⟩,
 ⟨some 15, .pick (.t 11) (.t 14) (.c (.bool false)), none, []⟩,
 ⟨some 16, .mv (.t 15), none, []⟩,
 ⟨some 17, .mv (.t 0), some (16, true), []⟩,
 ⟨some 18, .mv (.t 5), some (16, true), []⟩,
 ⟨some 19, .call .flat [] (.f F10) [(.t 17), (.t 18)], some (16, true), []⟩,
 ⟨some 20, .pick (.t 16) (.t 19) (.c (.bool false)), none, []⟩,
 ⟨some 4, .mv (.t 20), none, []⟩] [4])
 (.ret)))
def Zl : Fn :=
 { nparams := 2, nblk := 1, results := [.tmp 4], body := Zl_B }
def Zj_B : Cd :=
 .seq (.region [⟨some 3, .box false 0 (.t 0), none, []⟩,
 ⟨some 6, .mv (.c (.sl .leaf [])), none, []⟩] [1, 2, 3])
 (.seq (.region [⟨some 7, .fldA [.leaf, .leaf] (.t 3) 0, none, []⟩,
 ⟨some 8, .load .leaf (.t 7), none, []⟩,
 ⟨some 9, .fldA [.leaf, .leaf] (.t 3) 0, none, []⟩,
 ⟨some 10, .load .leaf (.t 9), none, []⟩,
 ⟨some 11, .mv (.t 1), none, []⟩,
 ⟨some 12, .mv (.t 2), none, []⟩,
 ⟨some 13, .call .plain [] (.f F1b) [(.t 10), (.t 11), (.t 12)], none, []⟩,
 ⟨some 14, .fldA [.leaf, .leaf] (.t 3) 1, none, []⟩,
 ⟨some 15, .load .leaf (.t 14), none, []⟩,
 ⟨some 16, .call .plain [] (.f F18) [(.t 8), (.t 13), (.t 15)], none, []⟩,
 ⟨some 6, .mv (.t 16), none, []⟩] [6])
 (.ret))
def Zj : Fn :=
 { nparams := 3, nblk := 1, results := [.tmp 6], body := Zj_B }
def Zg_B : Cd :=
 .seq (.region [⟨some 2, .box false 0 (.t 0), none, []⟩,
 ⟨some 4, .mv (.c (.sl .leaf [])), none, []⟩] [1, 2])
 (.seq (.region [⟨some 9, .fldA [.leaf, .leaf] (.t 2) 0, none, []⟩,
 ⟨some 10, .load .leaf (.t 9), none, []⟩,
 ⟨some 11, .mv (.t 1), none, []⟩,
 ⟨some 12, .fldA [.leaf, .leaf] (.t 2) 1, none, []⟩,
 ⟨some 13, .load .leaf (.t 12), none, []⟩,
 ⟨some 14, .call .plain [] (.f Ft) [(.t 10), (.t 11), (.t 13)], none, []⟩,
 ⟨some 8, .mv (.t 14), none, []⟩,
 ⟨some 15, .ext (.t 8) 0, none, []⟩,
 ⟨some 16, .ext (.t 8) 1, none, []⟩,
 ⟨some 17, .ext (.t 8) 2, none, []⟩,
 ⟨some 5, .mv (.t 15), none, []⟩,
 ⟨some 6, .mv (.t 16), none, []⟩,
 ⟨some 7, .mv (.t 17), none, []⟩] [2, 6])
 (.seq (.region [⟨some 18, .fldA [.leaf, .leaf] (.t 2) 0, none, []⟩,
 ⟨some 19, .load .leaf (.t 18), none, []⟩,
 ⟨some 20, .mv (.t 6), none, []⟩,
 ⟨some 21, .fldA [.leaf, .leaf] (.t 2) 1, none, []⟩,
 ⟨some 22, .load .leaf (.t 21), none, []⟩,
 ⟨some 23, .call .plain [] (.f F18) [(.t 19), (.t 20), (.t 22)], none, []⟩,
 ⟨some 4, .mv (.t 23), none, []⟩] [4])
 (.ret)))
def Zg : Fn :=
 { nparams := 2, nblk := 1, results := [.tmp 4], body := Zg_B }
def Ze_L0 : Cd :=
 .seq (.region [⟨some 13, .bin .lss (.t 12) (.t 11), none, []⟩] [1, 3, 11, 12, 13])
 (.seq (.cond (.t 13)
 (.skip)
 (.exit 0))
 (.seq (.block 1 (.region [⟨some 14, .fldA [.leaf, .leaf] (.t 3) 0, none, []⟩,
 ⟨some 15, .load .leaf (.t 14), none, []⟩,
 ⟨some 16, .mv (.t 1), none, []⟩,
 ⟨some 17, .fldA [.leaf, .leaf] (.t 3) 0, none, []⟩,
 ⟨some 18, .load .leaf (.t 17), none, []⟩,
 ⟨some 19, .fldA [.leaf, .leaf] (.t 3) 1, none, []⟩,
 ⟨some 20, .load .leaf (.t 19), none, []⟩,
 ⟨some 21, .call .plain [] (.f F13) [(.t 15), (.t 16), (.t 18), (.t 20)], none, []⟩,
 ⟨some 1, .mv (.t 21), none, []⟩] [1, 3, 11, 12]))
 (.region [⟨some 22, .bin .add (.t 12) (.c (.int .i64 1)), none, []⟩,
 ⟨some 12, .mv (.t 22), none, []⟩] [1, 3, 11, 12])))
def Ze_B : Cd :=
 .seq (.region [⟨some 3, .box false 0 (.t 0), none, []⟩,
 ⟨some 6, .mv (.c (.sl .leaf [])), none, []⟩] [1, 2, 3])
 (.seq (.seq (.region [⟨some 7, .mv (.t 2), none, []⟩,
 ⟨some 8, .fldA [.leaf, .leaf] (.t 3) 1, none, []⟩,
 ⟨some 9, .load .leaf (.t 8), none, []⟩,
 ⟨some 10, .call .flat [] (.f F1g) [(.t 9)], none, []⟩,
 ⟨some 11, .bin .rem (.t 7) (.t 10), none, []⟩,
 ⟨some 12, .mv (.c (.int .i64 0)), none, []⟩] [1, 3, 11, 12])
 (.block 0 (.loop (Ze_L0))))
 (.seq (.region [⟨some 23, .mv (.t 1), none, []⟩,
 ⟨some 6, .mv (.t 23), none, []⟩] [6])
 (.ret)))
def Ze : Fn :=
 { nparams := 3, nblk := 1, results := [.tmp 6], body := Ze_B }
def Zk_L0 : Cd :=
 .seq (.region [⟨some 13, .bin .lss (.t 12) (.t 11), none, []⟩] [2, 3, 7, 10, 11, 12, 13])
 (.seq (.cond (.t 13)
 (.skip)
 (.exit 0))
 (.seq (.block 1 (.seq (.region [⟨some 14, .mv (.t 12), none, []⟩,
 ⟨some 15, .idxA none .leaf (.t 10) (.t 12), none, []⟩,
 ⟨some 16, .load .leaf (.t 15), none, []⟩,
 ⟨some 8, .mv (.t 14), none, []⟩,
 ⟨some 9, .mv (.t 16), none, []⟩] [2, 3, 7, 8, 9, 10, 11, 12])
 (.region [⟨some 17, .fldA [.leaf, .leaf] (.t 3) 0, none, []⟩,
 ⟨some 18, .load .leaf (.t 17), none, []⟩,
 ⟨some 19, .mv (.t 7), none, []⟩,
 ⟨some 20, .load (.st [.leaf, .leaf]) (.t 3), none, []⟩,
 ⟨some 21, .mv (.t 9), none, []⟩,
 ⟨some 22, .load (.st [.leaf, .leaf]) (.t 3), none, []⟩,
 ⟨some 23, .mv (.t 2), none, []⟩,
 ⟨some 24, .mv (.t 8), none, []⟩,
 ⟨some 25, .call .plain [] (.f Fe) [(.t 22), (.t 23), (.t 24)], none, []⟩,
 ⟨some 26, .call .plain [] (.f Fj) [(.t 20), (.t 21), (.t 25)], none, []⟩,
 ⟨some 27, .call .plain [] (.f Fu) [(.t 18), (.t 19), (.t 26), (.c (.int .i64 1))], none, []⟩,
 ⟨some 7, .mv (.t 27), none, []⟩] [2, 3, 7, 10, 11, 12])))
 (.region [⟨some 28, .bin .add (.t 12) (.c (.int .i64 1)), none, []⟩,
 ⟨some 12, .mv (.t 28), none, []⟩] [2, 3, 7, 10, 11, 12])))
def Zk_B : Cd :=
 .seq (.region [⟨some 3, .box false 0 (.t 0), none, []⟩,
 ⟨some 6, .mv (.c (.sl .leaf [])), none, []⟩] [1, 2, 3])
 (.seq (.region [⟨some 7, .mv (.c (.sl .leaf [])), none, []⟩] [1, 2, 3, 7])
 (.seq (.seq (.region [⟨some 10, .mv (.t 1), none, []⟩,
 ⟨some 11, .len false (.t 10), none, []⟩,
 ⟨some 12, .mv (.c (.int .i64 0)), none, []⟩] [2, 3, 7, 10, 11, 12])
 (.block 0 (.loop (Zk_L0))))
 (.seq (.region [⟨some 29, .mv (.t 7), none, []⟩,
 ⟨some 6, .mv (.t 29), none, []⟩] [6])
 (.ret))))
def Zk : Fn :=
 { nparams := 3, nblk := 1, results := [.tmp 6], body := Zk_B }
def Z1d_B : Cd :=
 .seq (.region [⟨some 4, .box false 0 (.t 1), none, []⟩,
 ⟨some 6, .mv (.c (.int .i64 0)), none, []⟩] [0, 2, 4])
 (.seq (.seq (.region [⟨some 7, .mv (.t 0), none, []⟩,
 ⟨some 8, .load (.arr 64 .leaf) (.t 4), none, []⟩,
 ⟨some 9, .call .flat [] (.f Fl) [(.t 7), (.t 8)], none, []⟩,
 ⟨some 10, .un .not (.t 9), none, []⟩,
 ⟨some 11, .mv (.t 10), none, []⟩,
 ⟨some 12, .mv (.t 2), some (11, false), []⟩,
 ⟨some 13, .mv (.t 0), some (11, false), []⟩,
 ⟨some 14, .load (.arr 64 .leaf) (.t 4), some (11, false), []⟩,
 ⟨some 15, .call .plain [] (.f Fb) [(.t 13), (.t 14)], some (11, false), []⟩,
 ⟨some 16, .mkFn Fh [(.t 15)] [], some (11, false), []⟩,
 ⟨some 17, .call .flat [] (.f F8) [(.t 12), (.t 16)], some (11, false), []⟩,
 ⟨some 18, .un .not (.t 17), some (11, false), []⟩,
 ⟨some 19, .pick (.t 11) (.c (.bool true)) (.t 18), none, []⟩] [19])
 (.cond (.t 19)
 (.seq (.region [⟨some 6, .mv (.c (.int .i64 1)), none, []⟩] [6])
 (.ret))
 (.skip)))
 (.seq (.region [⟨some 6, .mv (.c (.int .i64 0)), none, []⟩] [6])
 (.ret)))
def Z1d : Fn :=
 { nparams := 3, nblk := 1, results := [.tmp 6], body := Z1d_B }
def Z1o_L0 : Cd :=
 .seq (.seq (.region [⟨some 6, .mv (.t 3), none, []⟩,
 ⟨some 7, .bin .gtr (.t 6) (.c (.int .i64 0)), none, []⟩,
 ⟨some 8, .mv (.t 7), none, []⟩,
 ⟨some 9, .mv (.t 0), some (8, true), []⟩,
 ⟨some 10, .mv (.t 3), some (8, true), []⟩,
 ⟨some 11, .bin .sub (.t 10) (.c (.int .i64 1)), some (8, true), []⟩,
 ⟨some 12, .idxA none .leaf (.t 9) (.t 11), some (8, true), []⟩,
 ⟨some 13, .load .leaf (.t 12), some (8, true), []⟩,
 ⟨some 14, .len false (.t 13), some (8, true), []⟩,
 ⟨some 15, .bin .eql (.t 14) (.c (.int .i64 0)), some (8, true), []⟩,
 ⟨some 16, .pick (.t 8) (.t 15) (.c (.bool false)), none, []⟩] [0, 3, 16])
 (.cond (.t 16)
 (.skip)
 (.exit 0)))
 (.block 1 (.region [⟨some 17, .mv (.t 3), none, []⟩,
 ⟨some 18, .bin .sub (.t 17) (.c (.int .i64 1)), none, []⟩,
 ⟨some 3, .mv (.t 18), none, []⟩] [0, 3]))
def Z1o_B : Cd :=
 .seq (.region [⟨some 2, .mv (.c (.sl .leaf [])), none, []⟩] [0])
 (.seq (.region [⟨some 4, .mv (.t 0), none, []⟩,
 ⟨some 5, .len false (.t 4), none, []⟩,
 ⟨some 3, .mv (.t 5), none, []⟩] [0, 3])
 (.seq (.block 0 (.loop (Z1o_L0)))
 (.seq (.region [⟨some 19, .mv (.t 0), none, []⟩,
 ⟨some 20, .mv (.t 3), none, []⟩,
 ⟨some 21, .mv (.t 3), none, []⟩,
 ⟨some 22, .cut none .leaf (.t 19) none (some (.t 20)) (some (.t 21)), none, []⟩,
 ⟨some 2, .mv (.t 22), none, []⟩] [2])
 (.ret))))
def Z1o : Fn :=
 { nparams := 1, nblk := 0, results := [.tmp 2], body := Z1o_B }
def Z17_B : Cd :=
 .seq (.region [⟨some 4, .mv (.c (.int .i64 0)), none, []⟩] [0, 1])
 (.seq (.region [⟨some 5, .mv (.t 1), none, []⟩,
 ⟨some 6, .len false (.t 5), none, []⟩,
 ⟨some 7, .mv (.t 0), none, []⟩,
 ⟨some 8, .len false (.t 7), none, []⟩,
 ⟨some 9, .bin .sub (.t 6) (.t 8), none, []⟩,
 ⟨some 4, .mv (.t 9), none, []⟩] [4])
 (.ret))
def Z17 : Fn :=
 { nparams := 2, nblk := 0, results := [.tmp 4], body := Z17_B }
def Z16_L0 : Cd :=
 .seq (.region [⟨some 21, .bin .lss (.t 20) (.t 19), none, []⟩] [0, 5, 7, 12, 13, 14, 18, 19, 20, 21])
 (.seq (.cond (.t 21)
 (.skip)
 (.exit 2))
 (.seq (.block 3 (.seq (.region [⟨some 22, .idxA none .leaf (.t 18) (.t 20), none, []⟩,
 ⟨some 23, .load .leaf (.t 22), none, []⟩,
 ⟨some 9, .mv (.t 23), none, []⟩] [0, 5, 7, 9, 12, 13, 14, 18, 19, 20])
 (.region [⟨some 24, .mv (.t 0), none, []⟩,
 ⟨some 25, .mv (.t 7), none, []⟩,
 ⟨some 26, .mv (.t 9), none, []⟩,
 ⟨some 27, .mv (.t 7), none, []⟩,
 ⟨some 28, .mv (.t 9), none, []⟩,
 ⟨some 29, .len false (.t 28), none, []⟩,
 ⟨some 30, .bin .sub (.t 29) (.c (.int .i64 1)), none, []⟩,
 ⟨some 31, .call .flat [] (.f F1f) [(.t 27), (.t 30)], none, []⟩,
 ⟨some 32, .un .neg (.t 31), none, []⟩,
 ⟨some 33, .call .plain [] (.f Fu) [(.t 24), (.t 25), (.t 26), (.t 32)], none, []⟩,
 ⟨some 7, .mv (.t 33), none, []⟩] [0, 5, 7, 12, 13, 14, 18, 19, 20])))
 (.region [⟨some 34, .bin .add (.t 20) (.c (.int .i64 1)), none, []⟩,
 ⟨some 20, .mv (.t 34), none, []⟩] [0, 5, 7, 12, 13, 14, 18, 19, 20])))
def Z16_L1 : Cd :=
 .seq (.region [⟨some 48, .bin .lss (.t 47) (.t 46), none, []⟩] [0, 5, 7, 12, 13, 14, 45, 46, 47, 48])
 (.seq (.cond (.t 48)
 (.skip)
 (.exit 4))
 (.seq (.block 5 (.seq (.region [⟨some 49, .mv (.t 47), none, []⟩,
 ⟨some 50, .idxA none .leaf (.t 45) (.t 47), none, []⟩,
 ⟨some 51, .load .leaf (.t 50), none, []⟩,
 ⟨some 10, .mv (.t 49), none, []⟩,
 ⟨some 11, .mv (.t 51), none, []⟩] [0, 5, 7, 10, 11, 12, 13, 14, 45, 46, 47])
 (.region [⟨some 52, .mv (.t 5), none, []⟩,
 ⟨some 53, .mv (.t 10), none, []⟩,
 ⟨some 54, .mv (.t 0), none, []⟩,
 ⟨some 55, .mv (.t 11), none, []⟩,
 ⟨some 56, .mv (.t 7), none, []⟩,
 ⟨some 57, .mv (.t 11), none, []⟩,
 ⟨some 58, .mv (.t 7), none, []⟩,
 ⟨some 59, .len false (.t 58), none, []⟩,
 ⟨some 60, .bin .sub (.t 59) (.c (.int .i64 1)), none, []⟩,
 ⟨some 61, .call .flat [] (.f F1f) [(.t 57), (.t 60)], none, []⟩,
 ⟨some 62, .un .neg (.t 61), none, []⟩,
 ⟨some 63, .call .plain [] (.f Fu) [(.t 54), (.t 55), (.t 56), (.t 62)], none, []⟩,
 ⟨some 64, .idxA none .leaf (.t 52) (.t 53), none, []⟩,
 ⟨none, .store false .leaf (.t 64) (.t 63), none, []⟩] [0, 5, 7, 12, 13, 14, 45, 46, 47])))
 (.region [⟨some 65, .bin .add (.t 47) (.c (.int .i64 1)), none, []⟩,
 ⟨some 47, .mv (.t 65), none, []⟩] [0, 5, 7, 12, 13, 14, 45, 46, 47])))
def Z16_L2 : Cd :=
 .seq (.region [⟨some 15, .bin .lss (.t 14) (.t 13), none, []⟩] [0, 5, 12, 13, 14, 15])
 (.seq (.cond (.t 15)
 (.skip)
 (.exit 0))
 (.seq (.block 1 (.seq (.region [⟨some 16, .idxA none .leaf (.t 12) (.t 14), none, []⟩,
 ⟨some 17, .load .leaf (.t 16), none, []⟩,
 ⟨some 7, .mv (.t 17), none, []⟩] [0, 5, 7, 12, 13, 14])
 (.seq (.seq (.region [⟨some 18, .mv (.t 5), none, []⟩,
 ⟨some 19, .len false (.t 18), none, []⟩,
 ⟨some 20, .mv (.c (.int .i64 0)), none, []⟩] [0, 5, 7, 12, 13, 14, 18, 19, 20])
 (.block 2 (.loop (Z16_L0))))
 (.seq (.seq (.region [⟨some 35, .mv (.t 7), none, []⟩,
 ⟨some 36, .len false (.t 35), none, []⟩,
 ⟨some 37, .bin .eql (.t 36) (.c (.int .i64 0)), none, []⟩] [0, 5, 7, 12, 13, 14, 37])
 (.cond (.t 37)
 (.exit 1)
 (.skip)))
 (.seq (.region [⟨some 38, .mv (.t 0), none, []⟩,
 ⟨some 39, .mv (.t 7), none, []⟩,
 ⟨some 40, .mv (.t 0), none, []⟩,
 ⟨some 41, .mv (.t 7), none, []⟩,
 ⟨some 42, .call .flat [] (.f F1h) [(.t 41)], none, []⟩,
 ⟨some 43, .call .flat [] (.f Fz) [(.t 40), (.t 42)], none, []⟩,
 ⟨some 44, .call .plain [] (.f F19) [(.t 38), (.t 39), (.t 43)], none, []⟩,
 ⟨some 7, .mv (.t 44), none, []⟩] [0, 5, 7, 12, 13, 14])
 (.seq (.seq (.region [⟨some 45, .mv (.t 5), none, []⟩,
 ⟨some 46, .len false (.t 45), none, []⟩,
 ⟨some 47, .mv (.c (.int .i64 0)), none, []⟩] [0, 5, 7, 12, 13, 14, 45, 46, 47])
 (.block 4 (.loop (Z16_L1))))
 (.seq (.region [⟨some 66, .mv (.t 5), none, []⟩,
 ⟨some 67, .mv (.t 7), none, []⟩,
 ⟨some 68, .buildSl false 1 .leaf (.sl .leaf []) 1 [(0, (.t 67))], none, []⟩,
 ⟨some 69, .append .leaf 2 24 (.t 66) (.t 68), none, []⟩,
 ⟨some 5, .mv (.t 69), none, []⟩] [0, 5, 12, 13, 14])
 (.region [⟨some 70, .mv (.t 5), none, []⟩,
 ⟨some 71, .call .heap [] (.f F29) [(.t 70), (.f F17)], none, []⟩] [0, 5, 12, 13, 14]))))))))
 (.region [⟨some 72, .bin .add (.t 14) (.c (.int .i64 1)), none, []⟩,
 ⟨some 14, .mv (.t 72), none, []⟩] [0, 5, 12, 13, 14])))
def Z16_B : Cd :=
 .seq (.region [⟨some 4, .mv (.c (.sl .leaf [])), none, []⟩] [0, 1])
 (.seq (.region [⟨some 5, .nilOwn 0 .leaf, none, []⟩] [0, 1, 5])
 (.seq (.seq (.region [⟨some 12, .mv (.t 1), none, []⟩,
 ⟨some 13, .len false (.t 12), none, []⟩,
 ⟨some 14, .mv (.c (.int .i64 0)), none, []⟩] [0, 5, 12, 13, 14])
 (.block 0 (.loop (Z16_L2))))
 (.seq (.region [⟨some 73, .mv (.t 5), none, []⟩,
 ⟨some 4, .mv (.t 73), none, []⟩] [4])
 (.ret))))
def Z16 : Fn :=
 { nparams := 2, nblk := 3, results := [.tmp 4], body := Z16_B }
def Z1n_B : Cd :=
 .seq (.region [⟨some 2, .mv (.c (.int .i64 0)), none, []⟩] [0])
 (.seq (.region [⟨some 3, .mv (.t 0), none, []⟩,
 ⟨some 4, .len false (.t 3), none, []⟩,
 ⟨some 5, .bin .sub (.t 4) (.c (.int .i64 1)), none, []⟩,
 ⟨some 2, .mv (.t 5), none, []⟩] [2])
 (.ret))
def Z1n : Fn :=
 { nparams := 1, nblk := 0, results := [.tmp 2], body := Z1n_B }
def ir_impl_toldSkew_L0 : Cd :=
 .seq (.region [⟨some 14, .bin .lss (.t 13) (.t 12), none, []⟩] [2, 4, 11, 12, 13, 14])
 (.seq (.cond (.t 14)
 (.skip)
 (.exit 0))
 (.seq (.block 1 (.seq (.region [⟨some 15, .mv (.t 13), none, []⟩,
 ⟨some 16, .idxA none .leaf (.t 11) (.t 13), none, []⟩,
 ⟨some 17, .load .leaf (.t 16), none, []⟩,
 ⟨some 5, .mv (.t 15), none, []⟩,
 ⟨some 6, .mv (.t 17), none, []⟩] [2, 4, 5, 6, 11, 12, 13])
 (.region [⟨some 18, .mv (.t 5), none, []⟩,
 ⟨some 19, .mv (.t 6), none, []⟩,
 ⟨some 20, .call .flat [] (.f F1i) [(.t 19)], none, []⟩,
 ⟨some 21, .idxA (some 8) (.arr 64 .leaf) (.t 4) (.t 18), none, []⟩,
 ⟨none, .store false (.arr 64 .leaf) (.t 21) (.t 20), none, []⟩] [2, 4, 11, 12, 13])))
 (.region [⟨some 22, .bin .add (.t 13) (.c (.int .i64 1)), none, []⟩,
 ⟨some 13, .mv (.t 22), none, []⟩] [2, 4, 11, 12, 13])))
def ir_impl_toldSkew_B : Cd :=
 .seq (.region [⟨some 2, .box false 0 (.c (.arr 8 (.arr 64 .leaf) z8)), none, []⟩,
 ⟨some 3, .mv (.c (.int .i64 0)), none, []⟩] [0, 2])
 (.seq (.region [⟨some 4, .box false 1 (.c (.arr 8 (.arr 64 .leaf) z8)), none, []⟩] [0, 2, 4])
 (.seq (.seq (.region [⟨some 7, .mv (.t 0), none, []⟩,
 ⟨some 8, .call .flat [] (.f F1n) [(.t 7)], none, []⟩,
 ⟨some 9, .bin .gtr (.t 8) (.c (.int .i64 7)), none, []⟩] [0, 2, 4, 9])
 (.cond (.t 9)
 (.seq (.region [⟨some 10, .load (.arr 8 (.arr 64 .leaf)) (.t 4), none, []⟩,
 ⟨none, .store false (.arr 8 (.arr 64 .leaf)) (.t 2) (.t 10), none, []⟩,
 ⟨some 3, .mv (.c (.int .i64 3)), none, []⟩] [2, 3])
 (.ret))
 (.skip)))
 (.seq (.seq (.region [⟨some 11, .mv (.t 0), none, []⟩,
 ⟨some 12, .len false (.t 11), none, []⟩,
 ⟨some 13, .mv (.c (.int .i64 0)), none, []⟩] [2, 4, 11, 12, 13])
 (.block 0 (.loop (ir_impl_toldSkew_L0))))
 (.seq (.region [⟨some 23, .load (.arr 8 (.arr 64 .leaf)) (.t 4), none, []⟩,
 ⟨none, .store false (.arr 8 (.arr 64 .leaf)) (.t 2) (.t 23), none, []⟩,
 ⟨some 3, .mv (.c (.int .i64 0)), none, []⟩] [2, 3])
 (.ret)))))
def Z1p : Fn :=
 { nparams := 1, nblk := 2, results := [.cell 2 (.arr 8 (.arr 64 .leaf)), .tmp 3], body := ir_impl_toldSkew_B }
def Zc_L0 : Cd :=
 .seq (.region [⟨some 37, .bin .lss (.t 36) (.t 35), none, []⟩] [2, 3, 7, 8, 9, 27, 28, 29, 34, 35, 36, 37])
 (.seq (.cond (.t 37)
 (.skip)
 (.exit 2))
 (.seq (.block 3 (.seq (.region [⟨some 38, .mv (.t 36), none, []⟩,
 ⟨some 39, .idxA none .leaf (.t 34) (.t 36), none, []⟩,
 ⟨some 40, .load .leaf (.t 39), none, []⟩,
 ⟨some 10, .mv (.t 38), none, []⟩,
 ⟨some 11, .mv (.t 40), none, []⟩] [2, 3, 7, 8, 9, 10, 11, 27, 28, 29, 34, 35, 36])
 (.region [⟨some 41, .mv (.t 7), none, []⟩,
 ⟨some 42, .mv (.t 8), none, []⟩,
 ⟨some 43, .mv (.t 10), none, []⟩,
 ⟨some 44, .bin .add (.t 42) (.t 43), none, []⟩,
 ⟨some 45, .fldA [.leaf, .leaf] (.t 3) 0, none, []⟩,
 ⟨some 46, .load .leaf (.t 45), none, []⟩,
 ⟨some 47, .mv (.t 7), none, []⟩,
 ⟨some 48, .mv (.t 8), none, []⟩,
 ⟨some 49, .mv (.t 10), none, []⟩,
 ⟨some 50, .bin .add (.t 48) (.t 49), none, []⟩,
 ⟨some 51, .idxA none .leaf (.t 47) (.t 50), none, []⟩,
 ⟨some 52, .load .leaf (.t 51), none, []⟩,
 ⟨some 53, .load (.st [.leaf, .leaf]) (.t 3), none, []⟩,
 ⟨some 54, .mv (.t 9), none, []⟩,
 ⟨some 55, .load (.st [.leaf, .leaf]) (.t 3), none, []⟩,
 ⟨some 56, .mv (.t 11), none, []⟩,
 ⟨some 57, .mv (.t 8), none, []⟩,
 ⟨some 58, .call .plain [] (.f Fe) [(.t 55), (.t 56), (.t 57)], none, []⟩,
 ⟨some 59, .call .plain [] (.f Fj) [(.t 53), (.t 54), (.t 58)], none, []⟩,
 ⟨some 60, .call .plain [] (.f Fu) [(.t 46), (.t 52), (.t 59), (.c (.int .i64 1))], none, []⟩,
 ⟨some 61, .idxA none .leaf (.t 41) (.t 44), none, []⟩,
 ⟨none, .store false .leaf (.t 61) (.t 60), none, []⟩] [2, 3, 7, 8, 9, 27, 28, 29, 34, 35, 36])))
 (.region [⟨some 62, .bin .add (.t 36) (.c (.int .i64 1)), none, []⟩,
 ⟨some 36, .mv (.t 62), none, []⟩] [2, 3, 7, 8, 9, 27, 28, 29, 34, 35, 36])))
def Zc_L1 : Cd :=
 .seq (.region [⟨some 30, .bin .lss (.t 29) (.t 28), none, []⟩] [2, 3, 7, 27, 28, 29, 30])
 (.seq (.cond (.t 30)
 (.skip)
 (.exit 0))
 (.seq (.block 1 (.seq (.region [⟨some 31, .mv (.t 29), none, []⟩,
 ⟨some 32, .idxA none .leaf (.t 27) (.t 29), none, []⟩,
 ⟨some 33, .load .leaf (.t 32), none, []⟩,
 ⟨some 8, .mv (.t 31), none, []⟩,
 ⟨some 9, .mv (.t 33), none, []⟩] [2, 3, 7, 8, 9, 27, 28, 29])
 (.seq (.region [⟨some 34, .mv (.t 2), none, []⟩,
 ⟨some 35, .len false (.t 34), none, []⟩,
 ⟨some 36, .mv (.c (.int .i64 0)), none, []⟩] [2, 3, 7, 8, 9, 27, 28, 29, 34, 35, 36])
 (.block 2 (.loop (Zc_L0))))))
 (.region [⟨some 63, .bin .add (.t 29) (.c (.int .i64 1)), none, []⟩,
 ⟨some 29, .mv (.t 63), none, []⟩] [2, 3, 7, 27, 28, 29])))
def Zc_B : Cd :=
 .seq (.region [⟨some 3, .box false 0 (.t 0), none, []⟩,
 ⟨some 6, .mv (.c (.sl .leaf [])), none, []⟩] [1, 2, 3])
 (.seq (.seq (.region [⟨some 12, .mv (.t 1), none, []⟩,
 ⟨some 13, .len false (.t 12), none, []⟩,
 ⟨some 14, .bin .eql (.t 13) (.c (.int .i64 0)), none, []⟩,
 ⟨some 15, .mv (.t 14), none, []⟩,
 ⟨some 16, .mv (.t 2), some (15, false), []⟩,
 ⟨some 17, .len false (.t 16), some (15, false), []⟩,
 ⟨some 18, .bin .eql (.t 17) (.c (.int .i64 0)), some (15, false), []⟩,
 ⟨some 19, .pick (.t 15) (.c (.bool true)) (.t 18), none, []⟩] [1, 2, 3, 19])
 (.cond (.t 19)
 (.seq (.region [⟨some 6, .mv (.c (.sl .leaf [])), none, []⟩] [6])
 (.ret))
 (.skip)))
 (.seq (.region [⟨some 20, .mv (.t 1), none, []⟩,
 ⟨some 21, .len false (.t 20), none, []⟩,
 ⟨some 22, .mv (.t 2), none, []⟩,
 ⟨some 23, .len false (.t 22), none, []⟩,
 ⟨some 24, .bin .add (.t 21) (.t 23), none, []⟩,
 ⟨some 25, .bin .sub (.t 24) (.c (.int .i64 1)), none, []⟩,
 ⟨some 26, .mkSl 1 .leaf (.sl .leaf []) 24 (.t 25) (.t 25), none, []⟩,
 ⟨some 7, .mv (.t 26), none, []⟩] [1, 2, 3, 7])
 (.seq (.seq (.region [⟨some 27, .mv (.t 1), none, []⟩,
 ⟨some 28, .len false (.t 27), none, []⟩,
 ⟨some 29, .mv (.c (.int .i64 0)), none, []⟩] [2, 3, 7, 27, 28, 29])
 (.block 0 (.loop (Zc_L1))))
 (.seq (.region [⟨some 64, .mv (.t 7), none, []⟩,
 ⟨some 65, .call .data [] (.f F1o) [(.t 64)], none, []⟩,
 ⟨some 6, .mv (.t 65), none, []⟩] [6])
 (.ret)))))
def Zc : Fn :=
 { nparams := 3, nblk := 2, results := [.tmp 6], body := Zc_B }
def Z1l_B : Cd :=
 .seq (.region [⟨some 4, .mv (.c (.sl .leaf [])), none, []⟩] [0, 1])
 (.seq (.region [⟨some 6, .mv (.t 1), none, []⟩,
 ⟨some 7, .bin .add (.t 6) (.c (.int .i64 1)), none, []⟩,
 ⟨some 8, .mkSl 0 .leaf (.sl .leaf []) 24 (.t 7) (.t 7), none, []⟩,
 ⟨some 5, .mv (.t 8), none, []⟩] [0, 1, 5])
 (.seq (.region [⟨some 9, .mv (.t 5), none, []⟩,
 ⟨some 10, .mv (.t 1), none, []⟩,
 ⟨some 11, .mv (.t 0), none, []⟩,
 ⟨some 12, .idxA none .leaf (.t 9) (.t 10), none, []⟩,
 ⟨none, .store false .leaf (.t 12) (.t 11), none, []⟩] [5])
 (.seq (.region [⟨some 13, .mv (.t 5), none, []⟩,
 ⟨some 4, .mv (.t 13), none, []⟩] [4])
 (.ret))))
def Z1l : Fn :=
 { nparams := 2, nblk := 1, results := [.tmp 4], body := Z1l_B }
def Z1m_B : Cd :=
 .seq (.region [⟨some 4, .mv (.c (.sl .leaf [])), none, []⟩] [0, 1])
 (.seq (.seq (.region [⟨some 5, .mv (.t 1), none, []⟩,
 ⟨some 6, .mv (.t 0), none, []⟩,
 ⟨some 7, .len false (.t 6), none, []⟩,
 ⟨some 8, .bin .lss (.t 5) (.t 7), none, []⟩] [0, 1, 8])
 (.cond (.t 8)
 (.seq (.region [⟨some 9, .mv (.t 0), none, []⟩,
 ⟨some 10, .mv (.t 1), none, []⟩,
 ⟨some 11, .idxA none .leaf (.t 9) (.t 10), none, []⟩,
 ⟨some 12, .load .leaf (.t 11), none, []⟩,
 ⟨some 4, .mv (.t 12), none, []⟩] [4])
 (.ret))
 (.skip)))
 (.seq (.region [⟨some 4, .mv (.c (.sl .leaf [])), none, []⟩] [4])
 (.ret)))
def Z1m : Fn :=
 { nparams := 2, nblk := 0, results := [.tmp 4], body := Z1m_B }
def Zi_L0 : Cd :=
 .seq (.region [⟨some 20, .bin .lss (.t 19) (.t 18), none, []⟩] [1, 2, 3, 4, 9, 18, 19, 20])
 (.seq (.cond (.t 20)
 (.skip)
 (.exit 0))
 (.seq (.block 1 (.seq (.region [⟨some 21, .mv (.t 19), none, []⟩,
 ⟨some 10, .mv (.t 21), none, []⟩] [1, 2, 3, 4, 9, 10, 18, 19])
 (.region [⟨some 22, .mv (.t 9), none, []⟩,
 ⟨some 23, .mv (.t 10), none, []⟩,
 ⟨some 24, .fldA [.leaf, .leaf] (.t 4) 0, none, []⟩,
 ⟨some 25, .load .leaf (.t 24), none, []⟩,
 ⟨some 26, .mv (.t 1), none, []⟩,
 ⟨some 27, .mv (.t 10), none, []⟩,
 ⟨some 28, .call .plain [] (.f F1m) [(.t 26), (.t 27)], none, []⟩,
 ⟨some 29, .mv (.t 2), none, []⟩,
 ⟨some 30, .mv (.t 10), none, []⟩,
 ⟨some 31, .call .plain [] (.f F1m) [(.t 29), (.t 30)], none, []⟩,
 ⟨some 32, .mv (.t 3), none, []⟩,
 ⟨some 33, .call .plain [] (.f Fu) [(.t 25), (.t 28), (.t 31), (.t 32)], none, []⟩,
 ⟨some 34, .idxA none .leaf (.t 22) (.t 23), none, []⟩,
 ⟨none, .store false .leaf (.t 34) (.t 33), none, []⟩] [1, 2, 3, 4, 9, 18, 19])))
 (.region [⟨some 35, .bin .add (.t 19) (.c (.int .i64 1)), none, []⟩,
 ⟨some 19, .mv (.t 35), none, []⟩] [1, 2, 3, 4, 9, 18, 19])))
def Zi_B : Cd :=
 .seq (.region [⟨some 4, .box false 0 (.t 0), none, []⟩,
 ⟨some 8, .mv (.c (.sl .leaf [])), none, []⟩] [1, 2, 3, 4])
 (.seq (.region [⟨some 11, .mv (.t 1), none, []⟩,
 ⟨some 12, .len false (.t 11), none, []⟩,
 ⟨some 13, .mv (.t 2), none, []⟩,
 ⟨some 14, .len false (.t 13), none, []⟩,
 ⟨some 15, .maxI (.t 12) (.t 14), none, []⟩,
 ⟨some 16, .mkSl 1 .leaf (.sl .leaf []) 24 (.t 15) (.t 15), none, []⟩,
 ⟨some 9, .mv (.t 16), none, []⟩] [1, 2, 3, 4, 9])
 (.seq (.seq (.region [⟨some 17, .mv (.t 9), none, []⟩,
 ⟨some 18, .len false (.t 17), none, []⟩,
 ⟨some 19, .mv (.c (.int .i64 0)), none, []⟩] [1, 2, 3, 4, 9, 18, 19])
 (.block 0 (.loop (Zi_L0))))
 (.seq (.region [⟨some 36, .mv (.t 9), none, []⟩,
 ⟨some 37, .call .data [] (.f F1o) [(.t 36)], none, []⟩,
 ⟨some 8, .mv (.t 37), none, []⟩] [8])
 (.ret))))
def Zi : Fn :=
 { nparams := 4, nblk := 2, results := [.tmp 8], body := Zi_B }
end Pe

/-
 Functions of the program in the small form, printed by a program.
-/
namespace Pe
open Go
def Z1k_L0 : Cd :=
 .seq (.region [⟨some 9, .bin .lss (.t 8) (.t 7), none, []⟩] [3, 6, 7, 8, 9])
 (.seq (.cond (.t 9)
 (.skip)
 (.exit 0))
 (.seq (.block 1 (.seq (.region [⟨some 10, .idxA none (.arr 64 .leaf) (.t 6) (.t 8), none, []⟩,
 ⟨some 11, .load (.arr 64 .leaf) (.t 10), none, []⟩,
 ⟨some 5, .box false 1 (.c (.arr 64 .leaf z64)), none, []⟩,
 ⟨none, .store false (.arr 64 .leaf) (.t 5) (.t 11), none, []⟩] [3, 5, 6, 7, 8])
 (.region [⟨some 12, .mv (.t 3), none, []⟩,
 ⟨some 13, .load (.arr 64 .leaf) (.t 5), none, []⟩,
 ⟨some 14, .call .plain [] (.f F1e) [(.t 13)], none, []⟩,
 ⟨some 15, .buildSl false 2 .leaf (.sl .leaf []) 1 [(0, (.t 14))], none, []⟩,
 ⟨some 16, .append .leaf 3 24 (.t 12) (.t 15), none, []⟩,
 ⟨some 3, .mv (.t 16), none, []⟩] [3, 6, 7, 8])))
 (.region [⟨some 17, .bin .add (.t 8) (.c (.int .i64 1)), none, []⟩,
 ⟨some 8, .mv (.t 17), none, []⟩] [3, 6, 7, 8])))
def Z1k_B : Cd :=
 .seq (.region [⟨some 2, .mv (.c (.sl .leaf [])), none, []⟩] [0])
 (.seq (.region [⟨some 3, .nilOwn 0 .leaf, none, []⟩] [0, 3])
 (.seq (.seq (.region [⟨some 6, .mv (.t 0), none, []⟩,
 ⟨some 7, .len false (.t 6), none, []⟩,
 ⟨some 8, .mv (.c (.int .i64 0)), none, []⟩] [3, 6, 7, 8])
 (.block 0 (.loop (Z1k_L0))))
 (.seq (.region [⟨some 18, .mv (.t 3), none, []⟩,
 ⟨some 2, .mv (.t 18), none, []⟩] [2])
 (.ret))))
def Z1k : Fn :=
 { nparams := 1, nblk := 4, results := [.tmp 2], body := Z1k_B }
end Pe

/-
 Functions of the program in the small form, printed by a program.
-/
namespace Pe
open Go
def Z14_B : Cd :=
 .seq (.region [⟨some 4, .mv (.c (.int .i64 0)), none, []⟩] [0, 1])
 (.seq (.region [⟨some 5, .mv (.t 0), none, []⟩,
 ⟨some 6, .mv (.t 1), none, []⟩,
 ⟨some 7, .call .plain [] (.f F16) [(.t 5), (.t 6)], none, []⟩,
 ⟨some 8, .len false (.t 7), none, []⟩,
 ⟨some 4, .mv (.t 8), none, []⟩] [4])
 (.ret))
def Z14 : Fn :=
 { nparams := 2, nblk := 0, results := [.tmp 4], body := Z14_B }
def Zs_B : Cd :=
 .seq (.region [⟨some 6, .box false 0 (.t 1), none, []⟩,
 ⟨some 10, .mv (.c (.int .i64 0)), none, []⟩] [0, 2, 3, 4, 6])
 (.seq (.seq (.region [⟨some 12, .mv (.t 0), none, []⟩,
 ⟨some 13, .load (.arr 64 .leaf) (.t 6), none, []⟩,
 ⟨some 14, .mv (.t 2), none, []⟩,
 ⟨some 15, .mv (.t 3), none, []⟩,
 ⟨some 16, .buildSl false 1 .leaf (.sl (.arr 64 .leaf) []) 2 [(0, (.t 14)), (1, (.t 15))], none, []⟩,
 ⟨some 17, .call .data [] (.f F22) [(.t 16)], none, [6]⟩,
 ⟨some 18, .call .flat [] (.f F1d) [(.t 12), (.t 13), (.t 17)], none, []⟩,
 ⟨some 11, .mv (.t 18), none, []⟩] [0, 2, 4, 11])
 (.seq (.region [⟨some 19, .mv (.t 11), none, []⟩,
 ⟨some 20, .bin .neq (.t 19) (.c (.int .i64 0)), none, []⟩] [0, 2, 4, 11, 20])
 (.cond (.t 20)
 (.seq (.region [⟨some 21, .mv (.t 11), none, []⟩,
 ⟨some 10, .mv (.t 21), none, []⟩] [10])
 (.ret))
 (.skip))))
 (.seq (.block 0 (.seq (.region [⟨some 23, .mv (.t 2), none, []⟩,
 ⟨some 24, .len false (.t 23), none, []⟩,
 ⟨some 25, .bin .lss (.t 24) (.c (.int .i64 1)), none, []⟩,
 ⟨some 26, .mv (.t 25), none, []⟩,
 ⟨some 27, .mv (.t 2), some (26, false), []⟩,
 ⟨some 28, .len false (.t 27), some (26, false), []⟩,
 ⟨some 29, .bin .gtr (.t 28) (.c (.int .i64 4)), some (26, false), []⟩,
 ⟨some 30, .pick (.t 26) (.c (.bool true)) (.t 29), none, []⟩,
 ⟨some 31, .mv (.t 30), none, []⟩,
 ⟨some 32, .mv (.t 4), some (31, false), []⟩,
 ⟨some 33, .un .not (.t 32), some (31, false), []⟩,
 ⟨some 34, .pick (.t 31) (.c (.bool true)) (.t 33), none, []⟩,
 ⟨some 22, .mv (.t 34), none, []⟩] [0, 2, 22])
 (.cond (.t 22)
 (.seq (.region [⟨some 10, .mv (.c (.int .i64 2)), none, []⟩] [10])
 (.ret))
 (.seq (.region [⟨some 36, .mv (.t 0), none, []⟩,
 ⟨some 37, .mv (.t 2), none, []⟩,
 ⟨some 38, .call .plain [] (.f F1k) [(.t 37)], none, []⟩,
 ⟨some 39, .call .flat [] (.f F14) [(.t 36), (.t 38)], none, []⟩,
 ⟨some 40, .mv (.t 2), none, []⟩,
 ⟨some 41, .len false (.t 40), none, []⟩,
 ⟨some 42, .bin .lss (.t 39) (.t 41), none, []⟩,
 ⟨some 35, .mv (.t 42), none, []⟩] [35])
 (.cond (.t 35)
 (.seq (.region [⟨some 10, .mv (.c (.int .i64 5)), none, []⟩] [10])
 (.ret))
 (.skip))))))
 (.seq (.region [⟨some 10, .mv (.c (.int .i64 0)), none, []⟩] [10])
 (.ret))))
def Zs : Fn :=
 { nparams := 5, nblk := 2, results := [.tmp 10], body := Zs_B }
def Zf_L0 : Cd :=
 .seq (.region [⟨some 19, .bin .lss (.t 18) (.t 17), none, []⟩] [2, 3, 7, 8, 16, 17, 18, 19])
 (.seq (.cond (.t 19)
 (.skip)
 (.exit 0))
 (.seq (.block 1 (.seq (.region [⟨some 20, .mv (.t 18), none, []⟩,
 ⟨some 21, .idxA none .leaf (.t 16) (.t 18), none, []⟩,
 ⟨some 22, .load .leaf (.t 21), none, []⟩,
 ⟨some 9, .mv (.t 20), none, []⟩,
 ⟨some 10, .mv (.t 22), none, []⟩] [2, 3, 7, 8, 9, 10, 16, 17, 18])
 (.seq (.region [⟨some 23, .load (.st [.leaf, .leaf]) (.t 3), none, []⟩,
 ⟨some 24, .mv (.t 8), none, []⟩,
 ⟨some 25, .mv (.t 10), none, []⟩,
 ⟨some 26, .call .plain [] (.f Fk) [(.t 23), (.t 24), (.t 25)], none, []⟩,
 ⟨some 11, .mv (.t 26), none, []⟩] [2, 3, 7, 8, 9, 10, 11, 16, 17, 18])
 (.seq (.region [⟨some 27, .load (.st [.leaf, .leaf]) (.t 3), none, []⟩,
 ⟨some 28, .fldA [.leaf, .leaf] (.t 3) 0, none, []⟩,
 ⟨some 29, .load .leaf (.t 28), none, []⟩,
 ⟨some 30, .mv (.t 2), none, []⟩,
 ⟨some 31, .mv (.t 9), none, []⟩,
 ⟨some 32, .idxA none .leaf (.t 30) (.t 31), none, []⟩,
 ⟨some 33, .load .leaf (.t 32), none, []⟩,
 ⟨some 34, .load (.st [.leaf, .leaf]) (.t 3), none, []⟩,
 ⟨some 35, .mv (.t 7), none, []⟩,
 ⟨some 36, .mv (.t 10), none, []⟩,
 ⟨some 37, .call .plain [] (.f Fk) [(.t 34), (.t 35), (.t 36)], none, []⟩,
 ⟨some 38, .call .plain [] (.f Fu) [(.t 29), (.t 33), (.t 37), (.c (.int .i64 (-1)))], none, []⟩,
 ⟨some 39, .load (.st [.leaf, .leaf]) (.t 3), none, []⟩,
 ⟨some 40, .mv (.t 11), none, []⟩,
 ⟨some 41, .call .plain [] (.f Fg) [(.t 39), (.t 40)], none, []⟩,
 ⟨some 42, .call .plain [] (.f Fj) [(.t 27), (.t 38), (.t 41)], none, []⟩,
 ⟨some 12, .mv (.t 42), none, []⟩] [2, 3, 7, 8, 11, 12, 16, 17, 18])
 (.seq (.region [⟨some 43, .load (.st [.leaf, .leaf]) (.t 3), none, []⟩,
 ⟨some 44, .mv (.t 7), none, []⟩,
 ⟨some 45, .load (.st [.leaf, .leaf]) (.t 3), none, []⟩,
 ⟨some 46, .mv (.t 12), none, []⟩,
 ⟨some 47, .call .plain [] (.f F1l) [(.t 46), (.c (.int .i64 0))], none, []⟩,
 ⟨some 48, .mv (.t 8), none, []⟩,
 ⟨some 49, .call .plain [] (.f Fc) [(.t 45), (.t 47), (.t 48)], none, []⟩,
 ⟨some 50, .call .plain [] (.f Fi) [(.t 43), (.t 44), (.t 49), (.c (.int .i64 1))], none, []⟩,
 ⟨some 7, .mv (.t 50), none, []⟩] [2, 3, 7, 8, 11, 16, 17, 18])
 (.seq (.region [⟨some 51, .load (.st [.leaf, .leaf]) (.t 3), none, []⟩,
 ⟨some 52, .load (.st [.leaf, .leaf]) (.t 3), none, []⟩,
 ⟨some 53, .mv (.t 11), none, []⟩,
 ⟨some 54, .call .plain [] (.f Fe) [(.t 52), (.t 53), (.c (.int .i64 1))], none, []⟩,
 ⟨some 55, .load (.st [.leaf, .leaf]) (.t 3), none, []⟩,
 ⟨some 56, .mv (.t 11), none, []⟩,
 ⟨some 57, .call .plain [] (.f Fg) [(.t 55), (.t 56)], none, []⟩,
 ⟨some 58, .call .plain [] (.f Fj) [(.t 51), (.t 54), (.t 57)], none, []⟩,
 ⟨some 13, .mv (.t 58), none, []⟩] [2, 3, 7, 8, 13, 16, 17, 18])
 (.region [⟨some 59, .load (.st [.leaf, .leaf]) (.t 3), none, []⟩,
 ⟨some 60, .fldA [.leaf, .leaf] (.t 3) 0, none, []⟩,
 ⟨some 61, .load .leaf (.t 60), none, []⟩,
 ⟨some 62, .mv (.t 13), none, []⟩,
 ⟨some 63, .call .plain [] (.f F19) [(.t 61), (.t 62), (.c (.int .i64 (-1)))], none, []⟩,
 ⟨some 64, .buildSl false 2 .leaf (.int .i64 0) 1 [(0, (.c (.int .i64 1)))], none, []⟩,
 ⟨some 65, .buildSl true 3 .leaf (.sl .leaf []) 2 [(0, (.t 63)), (1, (.t 64))], none, [3]⟩,
 ⟨some 66, .mv (.t 8), none, []⟩,
 ⟨some 67, .call .data [] (.f Fc) [(.t 59), (.t 65), (.t 66)], none, []⟩,
 ⟨some 8, .mv (.t 67), none, []⟩] [2, 3, 7, 8, 16, 17, 18])))))))
 (.region [⟨some 68, .bin .add (.t 18) (.c (.int .i64 1)), none, []⟩,
 ⟨some 18, .mv (.t 68), none, []⟩] [2, 3, 7, 8, 16, 17, 18])))
def Zf_B : Cd :=
 .seq (.region [⟨some 3, .box false 0 (.t 0), none, []⟩,
 ⟨some 6, .mv (.c (.sl .leaf [])), none, []⟩] [1, 2, 3])
 (.seq (.region [⟨some 7, .mv (.c (.sl .leaf [])), none, []⟩] [1, 2, 3, 7])
 (.seq (.region [⟨some 14, .buildSl false 1 .leaf (.int .i64 0) 1 [(0, (.c (.int .i64 1)))], none, []⟩,
 ⟨some 15, .call .data [] (.f F1l) [(.t 14), (.c (.int .i64 0))], none, []⟩,
 ⟨some 8, .mv (.t 15), none, []⟩] [1, 2, 3, 7, 8])
 (.seq (.seq (.region [⟨some 16, .mv (.t 1), none, []⟩,
 ⟨some 17, .len false (.t 16), none, []⟩,
 ⟨some 18, .mv (.c (.int .i64 0)), none, []⟩] [2, 3, 7, 8, 16, 17, 18])
 (.block 0 (.loop (Zf_L0))))
 (.seq (.region [⟨some 69, .mv (.t 7), none, []⟩,
 ⟨some 6, .mv (.t 69), none, []⟩] [6])
 (.ret)))))
def Zf : Fn :=
 { nparams := 3, nblk := 4, results := [.tmp 6], body := Zf_B }
def ir_impl_InterpolateSkew_B : Cd :=
 .seq (.region [⟨some 5, .box false 0 (.t 1), none, []⟩,
 ⟨some 8, .box false 1 (.c (.arr 8 (.arr 64 .leaf) z8)), none, []⟩,
 ⟨some 9, .mv (.c (.int .i64 0)), none, []⟩] [0, 2, 3, 5, 8])
 (.seq (.seq (.region [⟨some 11, .mv (.t 0), none, []⟩,
 ⟨some 12, .load (.arr 64 .leaf) (.t 5), none, []⟩,
 ⟨some 13, .mv (.t 2), none, []⟩,
 ⟨some 14, .mv (.t 3), none, []⟩,
 ⟨some 15, .mv (.t 3), none, []⟩,
 ⟨some 16, .len false (.t 15), none, []⟩,
 ⟨some 17, .mv (.t 2), none, []⟩,
 ⟨some 18, .len false (.t 17), none, []⟩,
 ⟨some 19, .bin .eql (.t 16) (.t 18), none, []⟩,
 ⟨some 20, .call .flat [] (.f Fs) [(.t 11), (.t 12), (.t 13), (.t 14), (.t 19)], none, []⟩,
 ⟨some 10, .mv (.t 20), none, []⟩] [0, 2, 3, 5, 8, 10])
 (.seq (.region [⟨some 21, .mv (.t 10), none, []⟩,
 ⟨some 22, .bin .neq (.t 21) (.c (.int .i64 0)), none, []⟩] [0, 2, 3, 5, 8, 10, 22])
 (.cond (.t 22)
 (.seq (.region [⟨some 23, .build false (.arr 8 (.arr 64 .leaf) z8) [], none, []⟩,
 ⟨some 24, .mv (.t 10), none, []⟩,
 ⟨none, .store false (.arr 8 (.arr 64 .leaf)) (.t 8) (.t 23), none, []⟩,
 ⟨some 9, .mv (.t 24), none, []⟩] [8, 9])
 (.ret))
 (.skip))))
 (.seq (.region [⟨some 25, .mv (.t 0), none, []⟩,
 ⟨some 26, .load (.arr 64 .leaf) (.t 5), none, []⟩,
 ⟨some 27, .call .plain [] (.f Fb) [(.t 25), (.t 26)], none, []⟩,
 ⟨some 28, .mv (.t 2), none, []⟩,
 ⟨some 29, .call .plain [] (.f F1k) [(.t 28)], none, []⟩,
 ⟨some 30, .mv (.t 3), none, []⟩,
 ⟨some 31, .call .plain [] (.f F1k) [(.t 30)], none, []⟩,
 ⟨some 32, .call .plain [] (.f Ff) [(.t 27), (.t 29), (.t 31)], none, []⟩,
 ⟨some 33, .call .flat [] (.f F1p) [(.t 32)], none, []⟩,
 ⟨some 34, .ext (.t 33) 0, none, []⟩,
 ⟨some 35, .ext (.t 33) 1, none, []⟩,
 ⟨none, .store false (.arr 8 (.arr 64 .leaf)) (.t 8) (.t 34), none, []⟩,
 ⟨some 9, .mv (.t 35), none, []⟩] [8, 9])
 (.ret)))
def Z4 : Fn :=
 { nparams := 4, nblk := 2, results := [.cell 8 (.arr 8 (.arr 64 .leaf)), .tmp 9], body := ir_impl_InterpolateSkew_B }
end Pe

/-
 Functions of the program in the small form, printed by a program.
-/
namespace Pe
open Go
def Z35_L0 : Cd :=
 .seq (.seq (.region [⟨some 4, .mv (.t 3), none, []⟩,
 ⟨some 5, .bin .geq (.t 4) (.c (.int .i64 0)), none, []⟩,
 ⟨some 6, .mv (.t 5), none, []⟩,
 ⟨some 7, .mv (.t 3), some (6, true), []⟩,
 ⟨some 8, .idxA (some 64) .leaf (.t 1) (.t 7), some (6, true), []⟩,
 ⟨some 9, .load .leaf (.t 8), some (6, true), []⟩,
 ⟨some 10, .bin .eql (.t 9) (.c (.int .u8 0)), some (6, true), []⟩,
 ⟨some 11, .pick (.t 6) (.t 10) (.c (.bool false)), none, []⟩] [1, 3, 11])
 (.cond (.t 11)
 (.skip)
 (.exit 0)))
 (.block 1 (.region [⟨some 12, .mv (.t 3), none, []⟩,
 ⟨some 13, .bin .sub (.t 12) (.c (.int .i64 1)), none, []⟩,
 ⟨some 3, .mv (.t 13), none, []⟩] [1, 3]))
def Z35_B : Cd :=
 .seq (.region [⟨some 1, .box false 0 (.t 0), none, []⟩,
 ⟨some 2, .mv (.c (.int .i64 0)), none, []⟩] [1])
 (.seq (.region [⟨some 3, .mv (.c (.int .i64 63)), none, []⟩] [1, 3])
 (.seq (.block 0 (.loop (Z35_L0)))
 (.seq (.region [⟨some 14, .mv (.t 3), none, []⟩,
 ⟨some 2, .mv (.t 14), none, []⟩] [2])
 (.ret))))
def Z35 : Fn :=
 { nparams := 1, nblk := 1, results := [.tmp 2], body := Z35_B }
def Z38_B : Cd :=
 .seq (.region [⟨some 6, .mv (.c (.bool false)), none, []⟩] [0, 1, 2])
 (.seq (.region [⟨some 7, .mv (.t 0), none, []⟩,
 ⟨some 8, .mv (.t 1), none, []⟩,
 ⟨some 9, .bin .geq (.t 7) (.t 8), none, []⟩,
 ⟨some 10, .mv (.t 9), none, []⟩,
 ⟨some 11, .mv (.t 0), some (10, true), []⟩,
 ⟨some 12, .mv (.t 2), some (10, true), []⟩,
 ⟨some 13, .bin .leq (.t 11) (.t 12), some (10, true), []⟩,
 ⟨some 14, .pick (.t 10) (.t 13) (.c (.bool false)), none, []⟩,
 ⟨some 6, .mv (.t 14), none, []⟩] [6])
 (.ret))
def Z38 : Fn :=
 { nparams := 3, nblk := 0, results := [.tmp 6], body := Z38_B }
def Z3h_B : Cd :=
 .seq (.region [⟨some 2, .mv (.c (.bool false)), none, []⟩] [0])
 (.seq (.region [⟨some 3, .mv (.t 0), none, []⟩,
 ⟨some 4, .bin .eql (.t 3) (.c (.int .i64 2)), none, []⟩,
 ⟨some 5, .mv (.t 4), none, []⟩,
 ⟨some 6, .mv (.t 0), some (5, false), []⟩,
 ⟨some 7, .bin .eql (.t 6) (.c (.int .i64 3)), some (5, false), []⟩,
 ⟨some 8, .pick (.t 5) (.c (.bool true)) (.t 7), none, []⟩,
 ⟨some 9, .mv (.t 8), none, []⟩,
 ⟨some 10, .mv (.t 0), some (9, false), []⟩,
 ⟨some 11, .bin .eql (.t 10) (.c (.int .i64 5)), some (9, false), []⟩,
 ⟨some 12, .pick (.t 9) (.c (.bool true)) (.t 11), none, []⟩,
 ⟨some 13, .mv (.t 12), none, []⟩,
 ⟨some 14, .mv (.t 0), some (13, false), []⟩,
 ⟨some 15, .bin .eql (.t 14) (.c (.int .i64 7)), some (13, false), []⟩,
 ⟨some 16, .pick (.t 13) (.c (.bool true)) (.t 15), none, []⟩,
 ⟨some 2, .mv (.t 16), none, []⟩] [2])
 (.ret))
def Z3h : Fn :=
 { nparams := 1, nblk := 0, results := [.tmp 2], body := Z3h_B }
def Z3b_L0 : Cd :=
 .seq (.seq (.region [⟨some 6, .mv (.t 5), none, []⟩,
 ⟨some 7, .bin .lss (.t 6) (.c (.int .i64 64)), none, []⟩] [0, 3, 5, 7])
 (.cond (.t 7)
 (.skip)
 (.exit 0)))
 (.seq (.block 1 (.seq (.region [⟨some 10, .mv (.t 5), none, []⟩,
 ⟨some 11, .idxA (some 64) .leaf (.t 3) (.t 10), none, []⟩,
 ⟨some 12, .load .leaf (.t 11), none, []⟩,
 ⟨some 13, .conv .i64 (.t 12), none, []⟩,
 ⟨some 14, .mv (.t 0), none, []⟩,
 ⟨some 15, .bin .geq (.t 13) (.t 14), none, []⟩] [0, 3, 5, 15])
 (.cond (.t 15)
 (.seq (.region [⟨some 4, .mv (.c (.bool false)), none, []⟩] [4])
 (.ret))
 (.skip))))
 (.region [⟨some 8, .mv (.t 5), none, []⟩,
 ⟨some 9, .bin .add (.t 8) (.c (.int .i64 1)), none, []⟩,
 ⟨some 5, .mv (.t 9), none, []⟩] [0, 3, 5]))
def Z3b_B : Cd :=
 .seq (.region [⟨some 3, .box false 0 (.t 1), none, []⟩,
 ⟨some 4, .mv (.c (.bool false)), none, []⟩] [0, 3])
 (.seq (.seq (.region [⟨some 5, .mv (.c (.int .i64 0)), none, []⟩] [0, 3, 5])
 (.block 0 (.loop (Z3b_L0))))
 (.seq (.region [⟨some 16, .mv (.t 0), none, []⟩,
 ⟨some 17, .call .flat [] (.f F3h) [(.t 16)], none, []⟩,
 ⟨some 4, .mv (.t 17), none, []⟩] [4])
 (.ret)))
def Z3b : Fn :=
 { nparams := 2, nblk := 1, results := [.tmp 4], body := Z3b_B }
def Z3d_B : Cd :=
 .seq (.region [⟨some 1, .box false 0 (.t 0), none, []⟩,
 ⟨some 2, .mv (.c (.bool false)), none, []⟩] [1])
 (.seq (.region [⟨some 4, .load (.arr 64 .leaf) (.t 1), none, []⟩,
 ⟨some 5, .call .flat [] (.f F35) [(.t 4)], none, []⟩,
 ⟨some 3, .mv (.t 5), none, []⟩] [1, 3])
 (.seq (.region [⟨some 6, .mv (.t 3), none, []⟩,
 ⟨some 7, .bin .geq (.t 6) (.c (.int .i64 0)), none, []⟩,
 ⟨some 8, .mv (.t 7), none, []⟩,
 ⟨some 9, .mv (.t 3), some (8, true), []⟩,
 ⟨some 10, .idxA (some 64) .leaf (.t 1) (.t 9), some (8, true), []⟩,
 ⟨some 11, .load .leaf (.t 10), some (8, true), []⟩,
 ⟨some 12, .bin .eql (.t 11) (.c (.int .u8 1)), some (8, true), []⟩,
 ⟨some 13, .pick (.t 8) (.t 12) (.c (.bool false)), none, []⟩,
 ⟨some 2, .mv (.t 13), none, []⟩] [2])
 (.ret)))
def Z3d : Fn :=
 { nparams := 1, nblk := 1, results := [.tmp 2], body := Z3d_B }
def Z39_L0 : Cd :=
 .seq (.seq (.region [⟨some 6, .mv (.t 5), none, []⟩,
 ⟨some 7, .mv (.t 0), none, []⟩,
 ⟨some 8, .bin .lss (.t 6) (.t 7), none, []⟩] [0, 1, 5, 8])
 (.cond (.t 8)
 (.skip)
 (.exit 0)))
 (.seq (.block 1 (.seq (.region [⟨some 11, .mv (.t 5), none, []⟩,
 ⟨some 12, .mv (.t 1), none, []⟩,
 ⟨some 13, .conv .i64 (.t 12), none, []⟩,
 ⟨some 14, .bin .mul (.t 11) (.t 13), none, []⟩,
 ⟨some 15, .mv (.t 0), none, []⟩,
 ⟨some 16, .bin .rem (.t 14) (.t 15), none, []⟩,
 ⟨some 17, .bin .eql (.t 16) (.c (.int .i64 1)), none, []⟩] [0, 1, 5, 17])
 (.cond (.t 17)
 (.seq (.region [⟨some 18, .mv (.t 5), none, []⟩,
 ⟨some 19, .conv .u8 (.t 18), none, []⟩,
 ⟨some 4, .mv (.t 19), none, []⟩] [4])
 (.ret))
 (.skip))))
 (.region [⟨some 9, .mv (.t 5), none, []⟩,
 ⟨some 10, .bin .add (.t 9) (.c (.int .i64 1)), none, []⟩,
 ⟨some 5, .mv (.t 10), none, []⟩] [0, 1, 5]))
def Z39_B : Cd :=
 .seq (.region [⟨some 4, .mv (.c (.int .u8 0)), none, []⟩] [0, 1])
 (.seq (.seq (.region [⟨some 5, .mv (.c (.int .i64 1)), none, []⟩] [0, 1, 5])
 (.block 0 (.loop (Z39_L0))))
 (.seq (.region [⟨some 4, .mv (.c (.int .u8 0)), none, []⟩] [4])
 (.ret)))
def Z39 : Fn :=
 { nparams := 2, nblk := 0, results := [.tmp 4], body := Z39_B }
def Z36_L0 : Cd :=
 .seq (.seq (.region [⟨some 44, .mv (.t 13), none, []⟩,
 ⟨some 45, .mv (.t 9), none, []⟩,
 ⟨some 46, .bin .leq (.t 44) (.t 45), none, []⟩,
 ⟨some 47, .mv (.t 46), none, []⟩,
 ⟨some 48, .mv (.t 12), some (47, true), []⟩,
 ⟨some 49, .bin .neq (.t 48) (.c (.int .i64 0)), some (47, true), []⟩,
 ⟨some 50, .pick (.t 47) (.t 49) (.c (.bool false)), none, []⟩] [0, 4, 5, 6, 7, 8, 9, 10, 11, 12, 13, 50])
 (.cond (.t 50)
 (.skip)
 (.exit 2)))
 (.seq (.block 3 (.region [⟨some 53, .mv (.t 11), none, []⟩,
 ⟨some 54, .mv (.t 9), none, []⟩,
 ⟨some 55, .bin .sub (.t 53) (.t 54), none, []⟩,
 ⟨some 56, .mv (.t 13), none, []⟩,
 ⟨some 57, .bin .add (.t 55) (.t 56), none, []⟩,
 ⟨some 58, .mv (.t 11), none, []⟩,
 ⟨some 59, .mv (.t 9), none, []⟩,
 ⟨some 60, .bin .sub (.t 58) (.t 59), none, []⟩,
 ⟨some 61, .mv (.t 13), none, []⟩,
 ⟨some 62, .bin .add (.t 60) (.t 61), none, []⟩,
 ⟨some 63, .idxA (some 64) .leaf (.t 4) (.t 62), none, []⟩,
 ⟨some 64, .load .leaf (.t 63), none, []⟩,
 ⟨some 65, .conv .i64 (.t 64), none, []⟩,
 ⟨some 66, .mv (.t 12), none, []⟩,
 ⟨some 67, .mv (.t 13), none, []⟩,
 ⟨some 68, .idxA (some 64) .leaf (.t 5) (.t 67), none, []⟩,
 ⟨some 69, .load .leaf (.t 68), none, []⟩,
 ⟨some 70, .conv .i64 (.t 69), none, []⟩,
 ⟨some 71, .bin .mul (.t 66) (.t 70), none, []⟩,
 ⟨some 72, .bin .sub (.t 65) (.t 71), none, []⟩,
 ⟨some 73, .mv (.t 0), none, []⟩,
 ⟨some 74, .bin .rem (.t 72) (.t 73), none, []⟩,
 ⟨some 75, .mv (.t 0), none, []⟩,
 ⟨some 76, .bin .add (.t 74) (.t 75), none, []⟩,
 ⟨some 77, .mv (.t 0), none, []⟩,
 ⟨some 78, .bin .rem (.t 76) (.t 77), none, []⟩,
 ⟨some 79, .conv .u8 (.t 78), none, []⟩,
 ⟨some 80, .idxA (some 64) .leaf (.t 4) (.t 57), none, []⟩,
 ⟨none, .store false .leaf (.t 80) (.t 79), none, []⟩] [0, 4, 5, 6, 7, 8, 9, 10, 11, 12, 13]))
 (.region [⟨some 51, .mv (.t 13), none, []⟩,
 ⟨some 52, .bin .add (.t 51) (.c (.int .i64 1)), none, []⟩,
 ⟨some 13, .mv (.t 52), none, []⟩] [0, 4, 5, 6, 7, 8, 9, 10, 11, 12, 13]))
def Z36_L1 : Cd :=
 .seq (.seq (.region [⟨some 25, .mv (.t 11), none, []⟩,
 ⟨some 26, .mv (.t 9), none, []⟩,
 ⟨some 27, .bin .geq (.t 25) (.t 26), none, []⟩] [0, 4, 5, 6, 7, 8, 9, 10, 11, 27])
 (.cond (.t 27)
 (.skip)
 (.exit 0)))
 (.seq (.block 1 (.seq (.region [⟨some 30, .mv (.t 11), none, []⟩,
 ⟨some 31, .idxA (some 64) .leaf (.t 4) (.t 30), none, []⟩,
 ⟨some 32, .load .leaf (.t 31), none, []⟩,
 ⟨some 33, .conv .i64 (.t 32), none, []⟩,
 ⟨some 34, .mv (.t 10), none, []⟩,
 ⟨some 35, .bin .mul (.t 33) (.t 34), none, []⟩,
 ⟨some 36, .mv (.t 0), none, []⟩,
 ⟨some 37, .bin .rem (.t 35) (.t 36), none, []⟩,
 ⟨some 12, .mv (.t 37), none, []⟩] [0, 4, 5, 6, 7, 8, 9, 10, 11, 12])
 (.seq (.region [⟨some 38, .mv (.t 11), none, []⟩,
 ⟨some 39, .mv (.t 9), none, []⟩,
 ⟨some 40, .bin .sub (.t 38) (.t 39), none, []⟩,
 ⟨some 41, .mv (.t 12), none, []⟩,
 ⟨some 42, .conv .u8 (.t 41), none, []⟩,
 ⟨some 43, .idxA (some 64) .leaf (.t 8) (.t 40), none, []⟩,
 ⟨none, .store false .leaf (.t 43) (.t 42), none, []⟩] [0, 4, 5, 6, 7, 8, 9, 10, 11, 12])
 (.seq (.region [⟨some 13, .mv (.c (.int .i64 0)), none, []⟩] [0, 4, 5, 6, 7, 8, 9, 10, 11, 12, 13])
 (.block 2 (.loop (Z36_L0)))))))
 (.region [⟨some 28, .mv (.t 11), none, []⟩,
 ⟨some 29, .bin .sub (.t 28) (.c (.int .i64 1)), none, []⟩,
 ⟨some 11, .mv (.t 29), none, []⟩] [0, 4, 5, 6, 7, 8, 9, 10, 11]))
def Z36_B : Cd :=
 .seq (.region [⟨some 4, .box false 0 (.t 1), none, []⟩,
 ⟨some 5, .box false 1 (.t 2), none, []⟩,
 ⟨some 6, .box false 2 (.c (.arr 64 .leaf z64)), none, []⟩,
 ⟨some 7, .box false 3 (.c (.arr 64 .leaf z64)), none, []⟩] [0, 4, 5, 6, 7])
 (.seq (.region [⟨some 14, .build false (.arr 64 .leaf z64) [], none, []⟩,
 ⟨some 15, .load (.arr 64 .leaf) (.t 5), none, []⟩,
 ⟨some 16, .call .flat [] (.f F35) [(.t 15)], none, []⟩,
 ⟨some 8, .box false 4 (.c (.arr 64 .leaf z64)), none, []⟩,
 ⟨none, .store false (.arr 64 .leaf) (.t 8) (.t 14), none, []⟩,
 ⟨some 9, .mv (.t 16), none, []⟩] [0, 4, 5, 6, 7, 8, 9])
 (.seq (.region [⟨some 17, .mv (.t 0), none, []⟩,
 ⟨some 18, .mv (.t 9), none, []⟩,
 ⟨some 19, .idxA (some 64) .leaf (.t 5) (.t 18), none, []⟩,
 ⟨some 20, .load .leaf (.t 19), none, []⟩,
 ⟨some 21, .call .flat [] (.f F39) [(.t 17), (.t 20)], none, []⟩,
 ⟨some 22, .conv .i64 (.t 21), none, []⟩,
 ⟨some 10, .mv (.t 22), none, []⟩] [0, 4, 5, 6, 7, 8, 9, 10])
 (.seq (.seq (.region [⟨some 23, .load (.arr 64 .leaf) (.t 4), none, []⟩,
 ⟨some 24, .call .flat [] (.f F35) [(.t 23)], none, []⟩,
 ⟨some 11, .mv (.t 24), none, []⟩] [0, 4, 5, 6, 7, 8, 9, 10, 11])
 (.block 0 (.loop (Z36_L1))))
 (.seq (.region [⟨some 81, .load (.arr 64 .leaf) (.t 8), none, []⟩,
 ⟨some 82, .load (.arr 64 .leaf) (.t 4), none, []⟩,
 ⟨none, .store false (.arr 64 .leaf) (.t 6) (.t 81), none, [4]⟩,
 ⟨none, .store false (.arr 64 .leaf) (.t 7) (.t 82), none, []⟩] [6, 7])
 (.ret)))))
def Z36 : Fn :=
 { nparams := 3, nblk := 5, results := [.cell 6 (.arr 64 .leaf), .cell 7 (.arr 64 .leaf)], body := Z36_B }
def Z3c_B : Cd :=
 .seq (.region [⟨some 4, .box false 0 (.t 1), none, []⟩,
 ⟨some 5, .box false 1 (.t 2), none, []⟩,
 ⟨some 6, .box false 2 (.c (.arr 64 .leaf z64)), none, []⟩] [0, 4, 5, 6])
 (.seq (.region [⟨some 10, .mv (.t 0), none, []⟩,
 ⟨some 11, .load (.arr 64 .leaf) (.t 4), none, []⟩,
 ⟨some 12, .load (.arr 64 .leaf) (.t 5), none, []⟩,
 ⟨some 13, .call .flat [] (.f F36) [(.t 10), (.t 11), (.t 12)], none, []⟩,
 ⟨some 9, .mv (.t 13), none, []⟩,
 ⟨some 14, .ext (.t 9) 0, none, []⟩,
 ⟨some 15, .ext (.t 9) 1, none, []⟩,
 ⟨some 7, .box false 3 (.c (.arr 64 .leaf z64)), none, []⟩,
 ⟨some 8, .box false 4 (.c (.arr 64 .leaf z64)), none, []⟩,
 ⟨none, .store false (.arr 64 .leaf) (.t 7) (.t 14), none, []⟩,
 ⟨none, .store false (.arr 64 .leaf) (.t 8) (.t 15), none, []⟩] [6, 8])
 (.seq (.region [⟨some 16, .load (.arr 64 .leaf) (.t 8), none, []⟩,
 ⟨none, .store false (.arr 64 .leaf) (.t 6) (.t 16), none, []⟩] [6])
 (.ret)))
def Z3c : Fn :=
 { nparams := 3, nblk := 5, results := [.cell 6 (.arr 64 .leaf)], body := Z3c_B }
def Z3f_B : Cd :=
 .seq (.region [⟨some 0, .box false 0 (.c (.arr 64 .leaf z64)), none, []⟩] [0])
 (.seq (.region [⟨some 1, .build false (.arr 64 .leaf z64) [(0, (.c (.int .u8 1)))], none, []⟩,
 ⟨none, .store false (.arr 64 .leaf) (.t 0) (.t 1), none, []⟩] [0])
 (.ret))
def Z3f : Fn :=
 { nparams := 0, nblk := 1, results := [.cell 0 (.arr 64 .leaf)], body := Z3f_B }
def Z33_L0 : Cd :=
 .seq (.seq (.region [⟨some 10, .mv (.t 9), none, []⟩,
 ⟨some 11, .bin .lss (.t 10) (.c (.int .i64 64)), none, []⟩] [0, 3, 5, 6, 8, 9, 11])
 (.cond (.t 11)
 (.skip)
 (.exit 0)))
 (.seq (.block 1 (.region [⟨some 14, .mv (.t 9), none, []⟩,
 ⟨some 15, .mv (.t 9), none, []⟩,
 ⟨some 16, .idxA (some 64) .leaf (.t 5) (.t 15), none, []⟩,
 ⟨some 17, .load .leaf (.t 16), none, []⟩,
 ⟨some 18, .conv .i64 (.t 17), none, []⟩,
 ⟨some 19, .mv (.t 3), none, []⟩,
 ⟨some 20, .mv (.t 9), none, []⟩,
 ⟨some 21, .idxA (some 64) .leaf (.t 6) (.t 20), none, []⟩,
 ⟨some 22, .load .leaf (.t 21), none, []⟩,
 ⟨some 23, .conv .i64 (.t 22), none, []⟩,
 ⟨some 24, .bin .mul (.t 19) (.t 23), none, []⟩,
 ⟨some 25, .bin .add (.t 18) (.t 24), none, []⟩,
 ⟨some 26, .mv (.t 0), none, []⟩,
 ⟨some 27, .bin .rem (.t 25) (.t 26), none, []⟩,
 ⟨some 28, .mv (.t 0), none, []⟩,
 ⟨some 29, .bin .add (.t 27) (.t 28), none, []⟩,
 ⟨some 30, .mv (.t 0), none, []⟩,
 ⟨some 31, .bin .rem (.t 29) (.t 30), none, []⟩,
 ⟨some 32, .conv .u8 (.t 31), none, []⟩,
 ⟨some 33, .idxA (some 64) .leaf (.t 5) (.t 14), none, []⟩,
 ⟨none, .store false .leaf (.t 33) (.t 32), none, []⟩] [0, 3, 5, 6, 8, 9]))
 (.region [⟨some 12, .mv (.t 9), none, []⟩,
 ⟨some 13, .bin .add (.t 12) (.c (.int .i64 1)), none, []⟩,
 ⟨some 9, .mv (.t 13), none, []⟩] [0, 3, 5, 6, 8, 9]))
def Z33_B : Cd :=
 .seq (.region [⟨some 5, .box false 0 (.t 1), none, []⟩,
 ⟨some 6, .box false 1 (.t 2), none, []⟩,
 ⟨some 8, .box false 2 (.c (.arr 64 .leaf z64)), none, []⟩] [0, 3, 5, 6, 8])
 (.seq (.seq (.region [⟨some 9, .mv (.c (.int .i64 0)), none, []⟩] [0, 3, 5, 6, 8, 9])
 (.block 0 (.loop (Z33_L0))))
 (.seq (.region [⟨some 34, .load (.arr 64 .leaf) (.t 5), none, []⟩,
 ⟨none, .store false (.arr 64 .leaf) (.t 8) (.t 34), none, []⟩] [8])
 (.ret)))
def Z33 : Fn :=
 { nparams := 4, nblk := 3, results := [.cell 8 (.arr 64 .leaf)], body := Z33_B }
def Z3k_L0 : Cd :=
 .seq (.seq (.region [⟨some 24, .mv (.t 10), none, []⟩,
 ⟨some 25, .mv (.t 7), none, []⟩,
 ⟨some 26, .bin .lss (.t 24) (.t 25), none, []⟩] [0, 4, 5, 6, 7, 8, 9, 10, 26])
 (.cond (.t 26)
 (.skip)
 (.exit 0)))
 (.seq (.block 1 (.region [⟨some 29, .mv (.t 10), none, []⟩,
 ⟨some 30, .mv (.t 10), none, []⟩,
 ⟨some 31, .bin .sub (.t 30) (.c (.int .i64 1)), none, []⟩,
 ⟨some 32, .idxA (some 64) .leaf (.t 4) (.t 31), none, []⟩,
 ⟨some 33, .load .leaf (.t 32), none, []⟩,
 ⟨some 34, .idxA (some 64) .leaf (.t 9) (.t 29), none, []⟩,
 ⟨none, .store false .leaf (.t 34) (.t 33), none, []⟩] [0, 4, 5, 6, 7, 8, 9, 10]))
 (.region [⟨some 27, .mv (.t 10), none, []⟩,
 ⟨some 28, .bin .add (.t 27) (.c (.int .i64 1)), none, []⟩,
 ⟨some 10, .mv (.t 28), none, []⟩] [0, 4, 5, 6, 7, 8, 9, 10]))
def Z3k_L1 : Cd :=
 .seq (.seq (.region [⟨some 45, .mv (.t 12), none, []⟩,
 ⟨some 46, .mv (.t 7), none, []⟩,
 ⟨some 47, .bin .lss (.t 45) (.t 46), none, []⟩] [0, 5, 6, 7, 9, 11, 12, 47])
 (.cond (.t 47)
 (.skip)
 (.exit 2)))
 (.seq (.block 3 (.region [⟨some 50, .mv (.t 12), none, []⟩,
 ⟨some 51, .mv (.t 12), none, []⟩,
 ⟨some 52, .idxA (some 64) .leaf (.t 9) (.t 51), none, []⟩,
 ⟨some 53, .load .leaf (.t 52), none, []⟩,
 ⟨some 54, .conv .i64 (.t 53), none, []⟩,
 ⟨some 55, .mv (.t 11), none, []⟩,
 ⟨some 56, .mv (.t 12), none, []⟩,
 ⟨some 57, .idxA (some 64) .leaf (.t 5) (.t 56), none, []⟩,
 ⟨some 58, .load .leaf (.t 57), none, []⟩,
 ⟨some 59, .conv .i64 (.t 58), none, []⟩,
 ⟨some 60, .bin .mul (.t 55) (.t 59), none, []⟩,
 ⟨some 61, .bin .sub (.t 54) (.t 60), none, []⟩,
 ⟨some 62, .mv (.t 0), none, []⟩,
 ⟨some 63, .bin .rem (.t 61) (.t 62), none, []⟩,
 ⟨some 64, .mv (.t 0), none, []⟩,
 ⟨some 65, .bin .add (.t 63) (.t 64), none, []⟩,
 ⟨some 66, .mv (.t 0), none, []⟩,
 ⟨some 67, .bin .rem (.t 65) (.t 66), none, []⟩,
 ⟨some 68, .conv .u8 (.t 67), none, []⟩,
 ⟨some 69, .idxA (some 64) .leaf (.t 9) (.t 50), none, []⟩,
 ⟨none, .store false .leaf (.t 69) (.t 68), none, []⟩] [0, 5, 6, 7, 9, 11, 12]))
 (.region [⟨some 48, .mv (.t 12), none, []⟩,
 ⟨some 49, .bin .add (.t 48) (.c (.int .i64 1)), none, []⟩,
 ⟨some 12, .mv (.t 49), none, []⟩] [0, 5, 6, 7, 9, 11, 12]))
def Z3k_B : Cd :=
 .seq (.region [⟨some 4, .box false 0 (.t 1), none, []⟩,
 ⟨some 5, .box false 1 (.t 2), none, []⟩,
 ⟨some 6, .box false 2 (.c (.arr 64 .leaf z64)), none, []⟩] [0, 4, 5, 6])
 (.seq (.region [⟨some 13, .load (.arr 64 .leaf) (.t 5), none, []⟩,
 ⟨some 14, .call .flat [] (.f F35) [(.t 13)], none, []⟩,
 ⟨some 7, .mv (.t 14), none, []⟩] [0, 4, 5, 6, 7])
 (.seq (.seq (.region [⟨some 15, .mv (.t 7), none, []⟩,
 ⟨some 16, .bin .eql (.t 15) (.c (.int .i64 0)), none, []⟩] [0, 4, 5, 6, 7, 16])
 (.cond (.t 16)
 (.seq (.region [⟨some 17, .build false (.arr 64 .leaf z64) [], none, []⟩,
 ⟨none, .store false (.arr 64 .leaf) (.t 6) (.t 17), none, []⟩] [6])
 (.ret))
 (.skip)))
 (.seq (.region [⟨some 18, .mv (.t 7), none, []⟩,
 ⟨some 19, .bin .sub (.t 18) (.c (.int .i64 1)), none, []⟩,
 ⟨some 20, .idxA (some 64) .leaf (.t 4) (.t 19), none, []⟩,
 ⟨some 21, .load .leaf (.t 20), none, []⟩,
 ⟨some 22, .conv .i64 (.t 21), none, []⟩,
 ⟨some 23, .build false (.arr 64 .leaf z64) [], none, []⟩,
 ⟨some 9, .box false 3 (.c (.arr 64 .leaf z64)), none, []⟩,
 ⟨some 8, .mv (.t 22), none, []⟩,
 ⟨none, .store false (.arr 64 .leaf) (.t 9) (.t 23), none, []⟩] [0, 4, 5, 6, 7, 8, 9])
 (.seq (.seq (.region [⟨some 10, .mv (.c (.int .i64 1)), none, []⟩] [0, 4, 5, 6, 7, 8, 9, 10])
 (.block 0 (.loop (Z3k_L0))))
 (.seq (.region [⟨some 35, .mv (.t 8), none, []⟩,
 ⟨some 36, .mv (.t 0), none, []⟩,
 ⟨some 37, .mv (.t 7), none, []⟩,
 ⟨some 38, .idxA (some 64) .leaf (.t 5) (.t 37), none, []⟩,
 ⟨some 39, .load .leaf (.t 38), none, []⟩,
 ⟨some 40, .call .flat [] (.f F39) [(.t 36), (.t 39)], none, []⟩,
 ⟨some 41, .conv .i64 (.t 40), none, []⟩,
 ⟨some 42, .bin .mul (.t 35) (.t 41), none, []⟩,
 ⟨some 43, .mv (.t 0), none, []⟩,
 ⟨some 44, .bin .rem (.t 42) (.t 43), none, []⟩,
 ⟨some 11, .mv (.t 44), none, []⟩] [0, 5, 6, 7, 9, 11])
 (.seq (.seq (.region [⟨some 12, .mv (.c (.int .i64 0)), none, []⟩] [0, 5, 6, 7, 9, 11, 12])
 (.block 2 (.loop (Z3k_L1))))
 (.seq (.region [⟨some 70, .load (.arr 64 .leaf) (.t 9), none, []⟩,
 ⟨none, .store false (.arr 64 .leaf) (.t 6) (.t 70), none, []⟩] [6])
 (.ret))))))))
def Z3k : Fn :=
 { nparams := 3, nblk := 4, results := [.cell 6 (.arr 64 .leaf)], body := Z3k_B }
def Z3e_L0 : Cd :=
 .seq (.seq (.region [⟨some 14, .mv (.t 10), none, []⟩,
 ⟨some 15, .bin .geq (.t 14) (.c (.int .i64 0)), none, []⟩] [0, 5, 6, 7, 8, 9, 10, 15])
 (.cond (.t 15)
 (.skip)
 (.exit 0)))
 (.seq (.block 1 (.seq (.region [⟨some 18, .mv (.t 0), none, []⟩,
 ⟨some 19, .load (.arr 64 .leaf) (.t 9), none, []⟩,
 ⟨some 20, .load (.arr 64 .leaf) (.t 7), none, []⟩,
 ⟨some 21, .call .flat [] (.f F3k) [(.t 18), (.t 19), (.t 20)], none, []⟩,
 ⟨none, .store false (.arr 64 .leaf) (.t 9) (.t 21), none, []⟩] [0, 5, 6, 7, 8, 9, 10])
 (.region [⟨some 22, .mv (.t 0), none, []⟩,
 ⟨some 23, .mv (.t 0), none, []⟩,
 ⟨some 24, .load (.arr 64 .leaf) (.t 9), none, []⟩,
 ⟨some 25, .load (.arr 64 .leaf) (.t 5), none, []⟩,
 ⟨some 26, .mv (.t 10), none, []⟩,
 ⟨some 27, .idxA (some 64) .leaf (.t 6) (.t 26), none, []⟩,
 ⟨some 28, .load .leaf (.t 27), none, []⟩,
 ⟨some 29, .conv .i64 (.t 28), none, []⟩,
 ⟨some 30, .call .flat [] (.f F33) [(.t 23), (.t 24), (.t 25), (.t 29)], none, []⟩,
 ⟨some 31, .load (.arr 64 .leaf) (.t 7), none, []⟩,
 ⟨some 32, .call .flat [] (.f F3c) [(.t 22), (.t 30), (.t 31)], none, []⟩,
 ⟨none, .store false (.arr 64 .leaf) (.t 9) (.t 32), none, []⟩] [0, 5, 6, 7, 8, 9, 10])))
 (.region [⟨some 16, .mv (.t 10), none, []⟩,
 ⟨some 17, .bin .sub (.t 16) (.c (.int .i64 1)), none, []⟩,
 ⟨some 10, .mv (.t 17), none, []⟩] [0, 5, 6, 7, 8, 9, 10]))
def Z3e_B : Cd :=
 .seq (.region [⟨some 5, .box false 0 (.t 1), none, []⟩,
 ⟨some 6, .box false 1 (.t 2), none, []⟩,
 ⟨some 7, .box false 2 (.t 3), none, []⟩,
 ⟨some 8, .box false 3 (.c (.arr 64 .leaf z64)), none, []⟩] [0, 5, 6, 7, 8])
 (.seq (.region [⟨some 11, .build false (.arr 64 .leaf z64) [], none, []⟩,
 ⟨some 9, .box false 4 (.c (.arr 64 .leaf z64)), none, []⟩,
 ⟨none, .store false (.arr 64 .leaf) (.t 9) (.t 11), none, []⟩] [0, 5, 6, 7, 8, 9])
 (.seq (.seq (.region [⟨some 12, .load (.arr 64 .leaf) (.t 6), none, []⟩,
 ⟨some 13, .call .flat [] (.f F35) [(.t 12)], none, []⟩,
 ⟨some 10, .mv (.t 13), none, []⟩] [0, 5, 6, 7, 8, 9, 10])
 (.block 0 (.loop (Z3e_L0))))
 (.seq (.region [⟨some 33, .load (.arr 64 .leaf) (.t 9), none, []⟩,
 ⟨none, .store false (.arr 64 .leaf) (.t 8) (.t 33), none, []⟩] [8])
 (.ret))))
def Z3e : Fn :=
 { nparams := 4, nblk := 5, results := [.cell 8 (.arr 64 .leaf)], body := Z3e_B }
def Z3g_L0 : Cd :=
 .seq (.seq (.region [⟨some 19, .mv (.t 2), none, []⟩,
 ⟨some 20, .bin .gtr (.t 19) (.c (.int .i64 0)), none, []⟩] [0, 2, 7, 8, 9, 10, 20])
 (.cond (.t 20)
 (.skip)
 (.exit 0)))
 (.seq (.block 1 (.seq (.seq (.region [⟨some 23, .mv (.t 2), none, []⟩,
 ⟨some 24, .bin .rem (.t 23) (.c (.int .i64 2)), none, []⟩,
 ⟨some 25, .bin .eql (.t 24) (.c (.int .i64 1)), none, []⟩] [0, 2, 7, 8, 9, 10, 25])
 (.cond (.t 25)
 (.region [⟨some 26, .mv (.t 0), none, []⟩,
 ⟨some 27, .load (.arr 64 .leaf) (.t 9), none, []⟩,
 ⟨some 28, .load (.arr 64 .leaf) (.t 10), none, []⟩,
 ⟨some 29, .load (.arr 64 .leaf) (.t 7), none, []⟩,
 ⟨some 30, .call .flat [] (.f F3e) [(.t 26), (.t 27), (.t 28), (.t 29)], none, []⟩,
 ⟨none, .store false (.arr 64 .leaf) (.t 9) (.t 30), none, []⟩] [0, 2, 7, 8, 9, 10])
 (.skip)))
 (.region [⟨some 31, .mv (.t 0), none, []⟩,
 ⟨some 32, .load (.arr 64 .leaf) (.t 10), none, []⟩,
 ⟨some 33, .load (.arr 64 .leaf) (.t 10), none, []⟩,
 ⟨some 34, .load (.arr 64 .leaf) (.t 7), none, []⟩,
 ⟨some 35, .call .flat [] (.f F3e) [(.t 31), (.t 32), (.t 33), (.t 34)], none, []⟩,
 ⟨none, .store false (.arr 64 .leaf) (.t 10) (.t 35), none, []⟩] [0, 2, 7, 8, 9, 10])))
 (.region [⟨some 21, .mv (.t 2), none, []⟩,
 ⟨some 22, .bin .quo (.t 21) (.c (.int .i64 2)), none, []⟩,
 ⟨some 2, .mv (.t 22), none, []⟩] [0, 2, 7, 8, 9, 10]))
def Z3g_B : Cd :=
 .seq (.region [⟨some 5, .box false 0 (.t 1), none, []⟩,
 ⟨some 7, .box false 1 (.t 3), none, []⟩,
 ⟨some 8, .box false 2 (.c (.arr 64 .leaf z64)), none, []⟩] [0, 2, 5, 7, 8])
 (.seq (.region [⟨some 11, .mv (.t 0), none, []⟩,
 ⟨some 12, .call .flat [] (.f F3f) [], none, []⟩,
 ⟨some 13, .load (.arr 64 .leaf) (.t 7), none, []⟩,
 ⟨some 14, .call .flat [] (.f F3c) [(.t 11), (.t 12), (.t 13)], none, []⟩,
 ⟨some 15, .mv (.t 0), none, []⟩,
 ⟨some 16, .load (.arr 64 .leaf) (.t 5), none, []⟩,
 ⟨some 17, .load (.arr 64 .leaf) (.t 7), none, []⟩,
 ⟨some 18, .call .flat [] (.f F3c) [(.t 15), (.t 16), (.t 17)], none, []⟩,
 ⟨some 9, .box false 3 (.c (.arr 64 .leaf z64)), none, []⟩,
 ⟨some 10, .box false 4 (.c (.arr 64 .leaf z64)), none, []⟩,
 ⟨none, .store false (.arr 64 .leaf) (.t 9) (.t 14), none, []⟩,
 ⟨none, .store false (.arr 64 .leaf) (.t 10) (.t 18), none, []⟩] [0, 2, 7, 8, 9, 10])
 (.seq (.block 0 (.loop (Z3g_L0)))
 (.seq (.region [⟨some 36, .load (.arr 64 .leaf) (.t 9), none, []⟩,
 ⟨none, .store false (.arr 64 .leaf) (.t 8) (.t 36), none, []⟩] [8])
 (.ret))))
def Z3g : Fn :=
 { nparams := 4, nblk := 5, results := [.cell 8 (.arr 64 .leaf)], body := Z3g_B }
def Z3j_L0 : Cd :=
 .seq (.seq (.region [⟨some 35, .mv (.t 12), none, []⟩,
 ⟨some 36, .mv (.t 9), none, []⟩,
 ⟨some 37, .bin .leq (.t 35) (.t 36), none, []⟩,
 ⟨some 38, .mv (.t 37), none, []⟩,
 ⟨some 39, .mv (.t 11), some (38, true), []⟩,
 ⟨some 40, .idxA (some 64) .leaf (.t 4) (.t 39), some (38, true), []⟩,
 ⟨some 41, .load .leaf (.t 40), some (38, true), []⟩,
 ⟨some 42, .bin .neq (.t 41) (.c (.int .u8 0)), some (38, true), []⟩,
 ⟨some 43, .pick (.t 38) (.t 42) (.c (.bool false)), none, []⟩] [0, 4, 5, 6, 8, 9, 10, 11, 12, 43])
 (.cond (.t 43)
 (.skip)
 (.exit 2)))
 (.seq (.block 3 (.region [⟨some 46, .mv (.t 11), none, []⟩,
 ⟨some 47, .mv (.t 12), none, []⟩,
 ⟨some 48, .bin .add (.t 46) (.t 47), none, []⟩,
 ⟨some 49, .mv (.t 11), none, []⟩,
 ⟨some 50, .mv (.t 12), none, []⟩,
 ⟨some 51, .bin .add (.t 49) (.t 50), none, []⟩,
 ⟨some 52, .idxA (some 64) .leaf (.t 10) (.t 51), none, []⟩,
 ⟨some 53, .load .leaf (.t 52), none, []⟩,
 ⟨some 54, .conv .i64 (.t 53), none, []⟩,
 ⟨some 55, .mv (.t 11), none, []⟩,
 ⟨some 56, .idxA (some 64) .leaf (.t 4) (.t 55), none, []⟩,
 ⟨some 57, .load .leaf (.t 56), none, []⟩,
 ⟨some 58, .conv .i64 (.t 57), none, []⟩,
 ⟨some 59, .mv (.t 12), none, []⟩,
 ⟨some 60, .idxA (some 64) .leaf (.t 5) (.t 59), none, []⟩,
 ⟨some 61, .load .leaf (.t 60), none, []⟩,
 ⟨some 62, .conv .i64 (.t 61), none, []⟩,
 ⟨some 63, .bin .mul (.t 58) (.t 62), none, []⟩,
 ⟨some 64, .bin .add (.t 54) (.t 63), none, []⟩,
 ⟨some 65, .mv (.t 0), none, []⟩,
 ⟨some 66, .bin .rem (.t 64) (.t 65), none, []⟩,
 ⟨some 67, .conv .u8 (.t 66), none, []⟩,
 ⟨some 68, .idxA (some 64) .leaf (.t 10) (.t 48), none, []⟩,
 ⟨none, .store false .leaf (.t 68) (.t 67), none, []⟩] [0, 4, 5, 6, 8, 9, 10, 11, 12]))
 (.region [⟨some 44, .mv (.t 12), none, []⟩,
 ⟨some 45, .bin .add (.t 44) (.c (.int .i64 1)), none, []⟩,
 ⟨some 12, .mv (.t 45), none, []⟩] [0, 4, 5, 6, 8, 9, 10, 11, 12]))
def Z3j_L1 : Cd :=
 .seq (.seq (.region [⟨some 30, .mv (.t 11), none, []⟩,
 ⟨some 31, .mv (.t 8), none, []⟩,
 ⟨some 32, .bin .leq (.t 30) (.t 31), none, []⟩] [0, 4, 5, 6, 8, 9, 10, 11, 32])
 (.cond (.t 32)
 (.skip)
 (.exit 0)))
 (.seq (.block 1 (.seq (.region [⟨some 12, .mv (.c (.int .i64 0)), none, []⟩] [0, 4, 5, 6, 8, 9, 10, 11, 12])
 (.block 2 (.loop (Z3j_L0)))))
 (.region [⟨some 33, .mv (.t 11), none, []⟩,
 ⟨some 34, .bin .add (.t 33) (.c (.int .i64 1)), none, []⟩,
 ⟨some 11, .mv (.t 34), none, []⟩] [0, 4, 5, 6, 8, 9, 10, 11]))
def Z3j_B : Cd :=
 .seq (.region [⟨some 4, .box false 0 (.t 1), none, []⟩,
 ⟨some 5, .box false 1 (.t 2), none, []⟩,
 ⟨some 6, .box false 2 (.c (.arr 64 .leaf z64)), none, []⟩,
 ⟨some 7, .mv (.c (.bool false)), none, []⟩] [0, 4, 5, 6])
 (.seq (.region [⟨some 13, .load (.arr 64 .leaf) (.t 4), none, []⟩,
 ⟨some 14, .call .flat [] (.f F35) [(.t 13)], none, []⟩,
 ⟨some 15, .load (.arr 64 .leaf) (.t 5), none, []⟩,
 ⟨some 16, .call .flat [] (.f F35) [(.t 15)], none, []⟩,
 ⟨some 17, .build false (.arr 64 .leaf z64) [], none, []⟩,
 ⟨some 10, .box false 3 (.c (.arr 64 .leaf z64)), none, []⟩,
 ⟨some 8, .mv (.t 14), none, []⟩,
 ⟨some 9, .mv (.t 16), none, []⟩,
 ⟨none, .store false (.arr 64 .leaf) (.t 10) (.t 17), none, []⟩] [0, 4, 5, 6, 8, 9, 10])
 (.seq (.seq (.region [⟨some 18, .mv (.t 8), none, []⟩,
 ⟨some 19, .bin .lss (.t 18) (.c (.int .i64 0)), none, []⟩,
 ⟨some 20, .mv (.t 19), none, []⟩,
 ⟨some 21, .mv (.t 9), some (20, false), []⟩,
 ⟨some 22, .bin .lss (.t 21) (.c (.int .i64 0)), some (20, false), []⟩,
 ⟨some 23, .pick (.t 20) (.c (.bool true)) (.t 22), none, []⟩] [0, 4, 5, 6, 8, 9, 10, 23])
 (.cond (.t 23)
 (.seq (.region [⟨some 24, .load (.arr 64 .leaf) (.t 10), none, []⟩,
 ⟨none, .store false (.arr 64 .leaf) (.t 6) (.t 24), none, []⟩,
 ⟨some 7, .mv (.c (.bool true)), none, []⟩] [6, 7])
 (.ret))
 (.skip)))
 (.seq (.seq (.region [⟨some 25, .mv (.t 8), none, []⟩,
 ⟨some 26, .mv (.t 9), none, []⟩,
 ⟨some 27, .bin .add (.t 25) (.t 26), none, []⟩,
 ⟨some 28, .bin .gtr (.t 27) (.c (.int .i64 63)), none, []⟩] [0, 4, 5, 6, 8, 9, 10, 28])
 (.cond (.t 28)
 (.seq (.region [⟨some 29, .load (.arr 64 .leaf) (.t 10), none, []⟩,
 ⟨none, .store false (.arr 64 .leaf) (.t 6) (.t 29), none, []⟩,
 ⟨some 7, .mv (.c (.bool false)), none, []⟩] [6, 7])
 (.ret))
 (.skip)))
 (.seq (.seq (.region [⟨some 11, .mv (.c (.int .i64 0)), none, []⟩] [0, 4, 5, 6, 8, 9, 10, 11])
 (.block 0 (.loop (Z3j_L1))))
 (.seq (.region [⟨some 69, .load (.arr 64 .leaf) (.t 10), none, []⟩,
 ⟨none, .store false (.arr 64 .leaf) (.t 6) (.t 69), none, []⟩,
 ⟨some 7, .mv (.c (.bool true)), none, []⟩] [6, 7])
 (.ret))))))
def Z3j : Fn :=
 { nparams := 3, nblk := 4, results := [.cell 6 (.arr 64 .leaf), .tmp 7], body := Z3j_B }
def Z34_L0 : Cd :=
 .seq (.seq (.region [⟨some 26, .load (.arr 64 .leaf) (.t 5), none, []⟩,
 ⟨some 27, .call .flat [] (.f F35) [(.t 26)], none, []⟩,
 ⟨some 28, .bin .geq (.t 27) (.c (.int .i64 0)), none, []⟩] [0, 4, 5, 6, 7, 8, 9, 10, 11, 12, 28])
 (.cond (.t 28)
 (.skip)
 (.exit 0)))
 (.block 1 (.seq (.region [⟨some 30, .mv (.t 0), none, []⟩,
 ⟨some 31, .load (.arr 64 .leaf) (.t 4), none, []⟩,
 ⟨some 32, .load (.arr 64 .leaf) (.t 5), none, []⟩,
 ⟨some 33, .call .flat [] (.f F36) [(.t 30), (.t 31), (.t 32)], none, []⟩,
 ⟨some 29, .mv (.t 33), none, []⟩,
 ⟨some 34, .ext (.t 29) 0, none, []⟩,
 ⟨some 35, .ext (.t 29) 1, none, []⟩,
 ⟨some 13, .box false 9 (.c (.arr 64 .leaf z64)), none, []⟩,
 ⟨some 14, .box false 10 (.c (.arr 64 .leaf z64)), none, []⟩,
 ⟨none, .store false (.arr 64 .leaf) (.t 13) (.t 34), none, []⟩,
 ⟨none, .store false (.arr 64 .leaf) (.t 14) (.t 35), none, []⟩] [0, 4, 5, 6, 7, 8, 9, 10, 11, 12, 13, 14])
 (.seq (.region [⟨some 37, .mv (.t 0), none, []⟩,
 ⟨some 38, .load (.arr 64 .leaf) (.t 13), none, []⟩,
 ⟨some 39, .load (.arr 64 .leaf) (.t 10), none, []⟩,
 ⟨some 40, .call .flat [] (.f F3j) [(.t 37), (.t 38), (.t 39)], none, []⟩,
 ⟨some 36, .mv (.t 40), none, []⟩,
 ⟨some 41, .ext (.t 36) 0, none, []⟩,
 ⟨some 42, .ext (.t 36) 1, none, []⟩,
 ⟨some 15, .box false 11 (.c (.arr 64 .leaf z64)), none, []⟩,
 ⟨none, .store false (.arr 64 .leaf) (.t 15) (.t 41), none, []⟩,
 ⟨some 16, .mv (.t 42), none, []⟩] [0, 4, 5, 6, 7, 8, 9, 10, 11, 12, 13, 14, 15])
 (.seq (.region [⟨some 44, .mv (.t 0), none, []⟩,
 ⟨some 45, .load (.arr 64 .leaf) (.t 13), none, []⟩,
 ⟨some 46, .load (.arr 64 .leaf) (.t 12), none, []⟩,
 ⟨some 47, .call .flat [] (.f F3j) [(.t 44), (.t 45), (.t 46)], none, []⟩,
 ⟨some 43, .mv (.t 47), none, []⟩,
 ⟨some 48, .ext (.t 43) 0, none, []⟩,
 ⟨some 49, .ext (.t 43) 1, none, []⟩,
 ⟨some 17, .box false 12 (.c (.arr 64 .leaf z64)), none, []⟩,
 ⟨none, .store false (.arr 64 .leaf) (.t 17) (.t 48), none, []⟩,
 ⟨some 18, .mv (.t 49), none, []⟩] [0, 4, 5, 6, 7, 8, 9, 10, 11, 12, 14, 15, 17])
 (.seq (.region [⟨some 50, .mv (.t 0), none, []⟩,
 ⟨some 51, .load (.arr 64 .leaf) (.t 9), none, []⟩,
 ⟨some 52, .load (.arr 64 .leaf) (.t 15), none, []⟩,
 ⟨some 53, .call .flat [] (.f F33) [(.t 50), (.t 51), (.t 52), (.c (.int .i64 (-1)))], none, []⟩,
 ⟨some 54, .mv (.t 0), none, []⟩,
 ⟨some 55, .load (.arr 64 .leaf) (.t 11), none, []⟩,
 ⟨some 56, .load (.arr 64 .leaf) (.t 17), none, []⟩,
 ⟨some 57, .call .flat [] (.f F33) [(.t 54), (.t 55), (.t 56), (.c (.int .i64 (-1)))], none, []⟩,
 ⟨some 19, .box false 13 (.c (.arr 64 .leaf z64)), none, []⟩,
 ⟨some 20, .box false 14 (.c (.arr 64 .leaf z64)), none, []⟩,
 ⟨none, .store false (.arr 64 .leaf) (.t 19) (.t 53), none, []⟩,
 ⟨none, .store false (.arr 64 .leaf) (.t 20) (.t 57), none, []⟩] [0, 4, 5, 6, 7, 8, 9, 10, 11, 12, 14, 19, 20])
 (.seq (.region [⟨some 58, .load (.arr 64 .leaf) (.t 5), none, []⟩,
 ⟨none, .store false (.arr 64 .leaf) (.t 4) (.t 58), none, []⟩] [0, 4, 5, 6, 7, 8, 9, 10, 11, 12, 14, 19, 20])
 (.seq (.region [⟨some 59, .load (.arr 64 .leaf) (.t 14), none, []⟩,
 ⟨none, .store false (.arr 64 .leaf) (.t 5) (.t 59), none, []⟩] [0, 4, 5, 6, 7, 8, 9, 10, 11, 12, 19, 20])
 (.seq (.region [⟨some 60, .load (.arr 64 .leaf) (.t 10), none, []⟩,
 ⟨none, .store false (.arr 64 .leaf) (.t 9) (.t 60), none, []⟩] [0, 4, 5, 6, 7, 8, 9, 10, 11, 12, 19, 20])
 (.seq (.region [⟨some 61, .load (.arr 64 .leaf) (.t 12), none, []⟩,
 ⟨none, .store false (.arr 64 .leaf) (.t 11) (.t 61), none, []⟩] [0, 4, 5, 6, 7, 8, 9, 10, 11, 12, 19, 20])
 (.seq (.region [⟨some 62, .load (.arr 64 .leaf) (.t 19), none, []⟩,
 ⟨none, .store false (.arr 64 .leaf) (.t 10) (.t 62), none, []⟩] [0, 4, 5, 6, 7, 8, 9, 10, 11, 12, 20])
 (.region [⟨some 63, .load (.arr 64 .leaf) (.t 20), none, []⟩,
 ⟨none, .store false (.arr 64 .leaf) (.t 12) (.t 63), none, []⟩] [0, 4, 5, 6, 7, 8, 9, 10, 11, 12])))))))))))
def Z34_B : Cd :=
 .seq (.region [⟨some 4, .box false 0 (.t 1), none, []⟩,
 ⟨some 5, .box false 1 (.t 2), none, []⟩,
 ⟨some 6, .box false 2 (.c (.arr 64 .leaf z64)), none, []⟩,
 ⟨some 7, .box false 3 (.c (.arr 64 .leaf z64)), none, []⟩,
 ⟨some 8, .box false 4 (.c (.arr 64 .leaf z64)), none, []⟩] [0, 4, 5, 6, 7, 8])
 (.seq (.region [⟨some 22, .call .flat [] (.f F3f) [], none, []⟩,
 ⟨some 23, .build false (.arr 64 .leaf z64) [], none, []⟩,
 ⟨some 24, .build false (.arr 64 .leaf z64) [], none, []⟩,
 ⟨some 25, .call .flat [] (.f F3f) [], none, []⟩,
 ⟨some 9, .box false 5 (.c (.arr 64 .leaf z64)), none, []⟩,
 ⟨some 10, .box false 6 (.c (.arr 64 .leaf z64)), none, []⟩,
 ⟨some 11, .box false 7 (.c (.arr 64 .leaf z64)), none, []⟩,
 ⟨some 12, .box false 8 (.c (.arr 64 .leaf z64)), none, []⟩,
 ⟨none, .store false (.arr 64 .leaf) (.t 9) (.t 22), none, []⟩,
 ⟨none, .store false (.arr 64 .leaf) (.t 10) (.t 23), none, []⟩,
 ⟨none, .store false (.arr 64 .leaf) (.t 11) (.t 24), none, []⟩,
 ⟨none, .store false (.arr 64 .leaf) (.t 12) (.t 25), none, []⟩] [0, 4, 5, 6, 7, 8, 9, 10, 11, 12])
 (.seq (.block 0 (.loop (Z34_L0)))
 (.seq (.region [⟨some 64, .mv (.t 0), none, []⟩,
 ⟨some 65, .load (.arr 64 .leaf) (.t 4), none, []⟩,
 ⟨some 66, .call .flat [] (.f F35) [(.t 65)], none, []⟩,
 ⟨some 67, .idxA (some 64) .leaf (.t 4) (.t 66), none, []⟩,
 ⟨some 68, .load .leaf (.t 67), none, []⟩,
 ⟨some 69, .call .flat [] (.f F39) [(.t 64), (.t 68)], none, []⟩,
 ⟨some 70, .conv .i64 (.t 69), none, []⟩,
 ⟨some 21, .mv (.t 70), none, []⟩] [0, 4, 6, 7, 8, 9, 11, 21])
 (.seq (.region [⟨some 71, .mv (.t 0), none, []⟩,
 ⟨some 72, .build false (.arr 64 .leaf z64) [], none, []⟩,
 ⟨some 73, .load (.arr 64 .leaf) (.t 4), none, []⟩,
 ⟨some 74, .mv (.t 21), none, []⟩,
 ⟨some 75, .call .flat [] (.f F33) [(.t 71), (.t 72), (.t 73), (.t 74)], none, []⟩,
 ⟨some 76, .mv (.t 0), none, []⟩,
 ⟨some 77, .build false (.arr 64 .leaf z64) [], none, []⟩,
 ⟨some 78, .load (.arr 64 .leaf) (.t 9), none, []⟩,
 ⟨some 79, .mv (.t 21), none, []⟩,
 ⟨some 80, .call .flat [] (.f F33) [(.t 76), (.t 77), (.t 78), (.t 79)], none, []⟩,
 ⟨some 81, .mv (.t 0), none, []⟩,
 ⟨some 82, .build false (.arr 64 .leaf z64) [], none, []⟩,
 ⟨some 83, .load (.arr 64 .leaf) (.t 11), none, []⟩,
 ⟨some 84, .mv (.t 21), none, []⟩,
 ⟨some 85, .call .flat [] (.f F33) [(.t 81), (.t 82), (.t 83), (.t 84)], none, []⟩,
 ⟨none, .store false (.arr 64 .leaf) (.t 6) (.t 75), none, []⟩,
 ⟨none, .store false (.arr 64 .leaf) (.t 7) (.t 80), none, []⟩,
 ⟨none, .store false (.arr 64 .leaf) (.t 8) (.t 85), none, []⟩] [6, 7, 8])
 (.ret)))))
def Z34 : Fn :=
 { nparams := 3, nblk := 15, results := [.cell 6 (.arr 64 .leaf), .cell 7 (.arr 64 .leaf), .cell 8 (.arr 64 .leaf)], body := Z34_B }
def Z37_B : Cd :=
 .seq (.region [⟨some 4, .box false 0 (.t 1), none, []⟩,
 ⟨some 5, .box false 1 (.t 2), none, []⟩,
 ⟨some 6, .box false 2 (.c (.arr 64 .leaf z64)), none, []⟩] [0, 4, 5, 6])
 (.seq (.seq (.region [⟨some 10, .load (.arr 64 .leaf) (.t 4), none, []⟩,
 ⟨some 11, .call .flat [] (.f F35) [(.t 10)], none, []⟩,
 ⟨some 12, .bin .lss (.t 11) (.c (.int .i64 0)), none, []⟩,
 ⟨some 13, .mv (.t 12), none, []⟩,
 ⟨some 14, .load (.arr 64 .leaf) (.t 5), some (13, true), []⟩,
 ⟨some 15, .call .flat [] (.f F35) [(.t 14)], some (13, true), []⟩,
 ⟨some 16, .bin .lss (.t 15) (.c (.int .i64 0)), some (13, true), []⟩,
 ⟨some 17, .pick (.t 13) (.t 16) (.c (.bool false)), none, []⟩] [0, 4, 5, 6, 17])
 (.cond (.t 17)
 (.seq (.region [⟨some 18, .build false (.arr 64 .leaf z64) [], none, []⟩,
 ⟨none, .store false (.arr 64 .leaf) (.t 6) (.t 18), none, []⟩] [6])
 (.ret))
 (.skip)))
 (.seq (.region [⟨some 20, .mv (.t 0), none, []⟩,
 ⟨some 21, .load (.arr 64 .leaf) (.t 4), none, []⟩,
 ⟨some 22, .load (.arr 64 .leaf) (.t 5), none, []⟩,
 ⟨some 23, .call .flat [] (.f F34) [(.t 20), (.t 21), (.t 22)], none, []⟩,
 ⟨some 19, .mv (.t 23), none, []⟩,
 ⟨some 24, .ext (.t 19) 0, none, []⟩,
 ⟨some 25, .ext (.t 19) 1, none, []⟩,
 ⟨some 26, .ext (.t 19) 2, none, []⟩,
 ⟨some 7, .box false 3 (.c (.arr 64 .leaf z64)), none, []⟩,
 ⟨some 8, .box false 4 (.c (.arr 64 .leaf z64)), none, []⟩,
 ⟨some 9, .box false 5 (.c (.arr 64 .leaf z64)), none, []⟩,
 ⟨none, .store false (.arr 64 .leaf) (.t 7) (.t 24), none, []⟩,
 ⟨none, .store false (.arr 64 .leaf) (.t 8) (.t 25), none, []⟩,
 ⟨none, .store false (.arr 64 .leaf) (.t 9) (.t 26), none, []⟩] [6, 7])
 (.seq (.region [⟨some 27, .load (.arr 64 .leaf) (.t 7), none, []⟩,
 ⟨none, .store false (.arr 64 .leaf) (.t 6) (.t 27), none, []⟩] [6])
 (.ret))))
def Z37 : Fn :=
 { nparams := 3, nblk := 6, results := [.cell 6 (.arr 64 .leaf)], body := Z37_B }
def Z3i_B : Cd :=
 .seq (.region [⟨some 0, .box false 0 (.c (.arr 64 .leaf z64)), none, []⟩] [0])
 (.seq (.region [⟨some 1, .build false (.arr 64 .leaf z64) [(0, (.c (.int .u8 0))), (1, (.c (.int .u8 1)))], none, []⟩,
 ⟨none, .store false (.arr 64 .leaf) (.t 0) (.t 1), none, []⟩] [0])
 (.ret))
def Z3i : Fn :=
 { nparams := 0, nblk := 1, results := [.cell 0 (.arr 64 .leaf)], body := Z3i_B }
def Z3a_L0 : Cd :=
 .seq (.seq (.region [⟨some 16, .mv (.t 7), none, []⟩,
 ⟨some 17, .bin .mul (.c (.int .i64 2)) (.t 16), none, []⟩,
 ⟨some 18, .mv (.t 5), none, []⟩,
 ⟨some 19, .bin .leq (.t 17) (.t 18), none, []⟩] [0, 3, 5, 6, 7, 19])
 (.cond (.t 19)
 (.skip)
 (.exit 0)))
 (.seq (.block 1 (.seq (.region [⟨some 22, .mv (.t 0), none, []⟩,
 ⟨some 23, .load (.arr 64 .leaf) (.t 6), none, []⟩,
 ⟨some 24, .mv (.t 0), none, []⟩,
 ⟨some 25, .load (.arr 64 .leaf) (.t 3), none, []⟩,
 ⟨some 26, .call .flat [] (.f F3g) [(.t 22), (.t 23), (.t 24), (.t 25)], none, []⟩,
 ⟨none, .store false (.arr 64 .leaf) (.t 6) (.t 26), none, []⟩] [0, 3, 5, 6, 7])
 (.seq (.region [⟨some 27, .mv (.t 0), none, []⟩,
 ⟨some 28, .load (.arr 64 .leaf) (.t 3), none, []⟩,
 ⟨some 29, .mv (.t 0), none, []⟩,
 ⟨some 30, .load (.arr 64 .leaf) (.t 6), none, []⟩,
 ⟨some 31, .call .flat [] (.f F3i) [], none, []⟩,
 ⟨some 32, .call .flat [] (.f F33) [(.t 29), (.t 30), (.t 31), (.c (.int .i64 (-1)))], none, []⟩,
 ⟨some 33, .call .flat [] (.f F37) [(.t 27), (.t 28), (.t 32)], none, []⟩,
 ⟨some 34, .call .flat [] (.f F35) [(.t 33)], none, []⟩,
 ⟨some 35, .bin .neq (.t 34) (.c (.int .i64 0)), none, []⟩] [0, 3, 5, 6, 7, 35])
 (.cond (.t 35)
 (.seq (.region [⟨some 4, .mv (.c (.bool false)), none, []⟩] [4])
 (.ret))
 (.skip)))))
 (.region [⟨some 20, .mv (.t 7), none, []⟩,
 ⟨some 21, .bin .add (.t 20) (.c (.int .i64 1)), none, []⟩,
 ⟨some 7, .mv (.t 21), none, []⟩] [0, 3, 5, 6, 7]))
def Z3a_B : Cd :=
 .seq (.region [⟨some 3, .box false 0 (.t 1), none, []⟩,
 ⟨some 4, .mv (.c (.bool false)), none, []⟩] [0, 3])
 (.seq (.region [⟨some 8, .load (.arr 64 .leaf) (.t 3), none, []⟩,
 ⟨some 9, .call .flat [] (.f F35) [(.t 8)], none, []⟩,
 ⟨some 10, .mv (.t 0), none, []⟩,
 ⟨some 11, .call .flat [] (.f F3i) [], none, []⟩,
 ⟨some 12, .load (.arr 64 .leaf) (.t 3), none, []⟩,
 ⟨some 13, .call .flat [] (.f F3c) [(.t 10), (.t 11), (.t 12)], none, []⟩,
 ⟨some 6, .box false 1 (.c (.arr 64 .leaf z64)), none, []⟩,
 ⟨some 5, .mv (.t 9), none, []⟩,
 ⟨none, .store false (.arr 64 .leaf) (.t 6) (.t 13), none, []⟩] [0, 3, 5, 6])
 (.seq (.seq (.region [⟨some 14, .mv (.t 5), none, []⟩,
 ⟨some 15, .bin .lss (.t 14) (.c (.int .i64 1)), none, []⟩] [0, 3, 5, 6, 15])
 (.cond (.t 15)
 (.seq (.region [⟨some 4, .mv (.c (.bool false)), none, []⟩] [4])
 (.ret))
 (.skip)))
 (.seq (.seq (.region [⟨some 7, .mv (.c (.int .i64 1)), none, []⟩] [0, 3, 5, 6, 7])
 (.block 0 (.loop (Z3a_L0))))
 (.seq (.region [⟨some 4, .mv (.c (.bool true)), none, []⟩] [4])
 (.ret)))))
def Z3a : Fn :=
 { nparams := 2, nblk := 2, results := [.tmp 4], body := Z3a_B }
end Pe

/-
 Functions of the program in the small form, printed by a program.
-/
namespace Pe
open Go
def Z3m_B : Cd :=
 .seq (.region [⟨some 3, .box false 0 (.t 1), none, []⟩,
 ⟨some 4, .mv (.c (.bool false)), none, []⟩] [0, 3])
 (.seq (.region [⟨some 5, .mv (.t 0), none, []⟩,
 ⟨some 6, .load (.arr 64 .leaf) (.t 3), none, []⟩,
 ⟨some 7, .call .flat [] (.f F3b) [(.t 5), (.t 6)], none, []⟩,
 ⟨some 8, .mv (.t 7), none, []⟩,
 ⟨some 9, .load (.arr 64 .leaf) (.t 3), some (8, true), []⟩,
 ⟨some 10, .call .flat [] (.f F3d) [(.t 9)], some (8, true), []⟩,
 ⟨some 11, .pick (.t 8) (.t 10) (.c (.bool false)), none, []⟩,
 ⟨some 12, .mv (.t 11), none, []⟩,
 ⟨some 13, .load (.arr 64 .leaf) (.t 3), some (12, true), []⟩,
 ⟨some 14, .call .flat [] (.f F35) [(.t 13)], some (12, true), []⟩,
 ⟨some 15, .call .flat [] (.f F38) [(.t 14), (.c (.int .i64 1)), (.c (.int .i64 4))], some (12, true), []⟩,
 ⟨some 16, .pick (.t 12) (.t 15) (.c (.bool false)), none, []⟩,
 ⟨some 17, .mv (.t 16), none, []⟩,
 ⟨some 18, .mv (.t 0), some (17, true), []⟩,
 ⟨some 19, .load (.arr 64 .leaf) (.t 3), some (17, true), []⟩,
 ⟨some 20, .call .flat [] (.f F3a) [(.t 18), (.t 19)], some (17, true), []⟩,
 ⟨some 21, .pick (.t 17) (.t 20) (.c (.bool false)), none, []⟩,
 ⟨some 4, .mv (.t 21), none, []⟩] [4])
 (.ret))
def Z3m : Fn :=
 { nparams := 2, nblk := 1, results := [.tmp 4], body := Z3m_B }
def Z3r_B : Cd :=
 .seq (.region [⟨some 4, .box false 0 (.t 1), none, []⟩,
 ⟨some 5, .box false 1 (.t 2), none, []⟩,
 ⟨some 6, .mv (.c (.bool false)), none, []⟩] [0, 4, 5])
 (.seq (.region [⟨some 7, .mv (.t 0), none, []⟩,
 ⟨some 8, .load (.arr 64 .leaf) (.t 5), none, []⟩,
 ⟨some 9, .call .flat [] (.f F3b) [(.t 7), (.t 8)], none, []⟩,
 ⟨some 10, .mv (.t 9), none, []⟩,
 ⟨some 11, .load (.arr 64 .leaf) (.t 5), some (10, true), []⟩,
 ⟨some 12, .call .flat [] (.f F35) [(.t 11)], some (10, true), []⟩,
 ⟨some 13, .load (.arr 64 .leaf) (.t 4), some (10, true), []⟩,
 ⟨some 14, .call .flat [] (.f F35) [(.t 13)], some (10, true), []⟩,
 ⟨some 15, .bin .lss (.t 12) (.t 14), some (10, true), []⟩,
 ⟨some 16, .pick (.t 10) (.t 15) (.c (.bool false)), none, []⟩,
 ⟨some 6, .mv (.t 16), none, []⟩] [6])
 (.ret))
def Z3r : Fn :=
 { nparams := 3, nblk := 2, results := [.tmp 6], body := Z3r_B }
def Z3n_L0 : Cd :=
 .seq (.seq (.region [⟨some 14, .mv (.t 9), none, []⟩,
 ⟨some 15, .bin .gtr (.t 14) (.c (.int .i64 0)), none, []⟩] [0, 5, 7, 8, 9, 15])
 (.cond (.t 15)
 (.skip)
 (.exit 0)))
 (.seq (.block 1 (.region [⟨some 18, .mv (.t 0), none, []⟩,
 ⟨some 19, .load (.arr 64 .leaf) (.t 5), none, []⟩,
 ⟨some 20, .mv (.t 0), none, []⟩,
 ⟨some 21, .load (.arr 64 .leaf) (.t 7), none, []⟩,
 ⟨some 22, .call .flat [] (.f F3g) [(.t 18), (.t 19), (.t 20), (.t 21)], none, []⟩,
 ⟨none, .store false (.arr 64 .leaf) (.t 5) (.t 22), none, []⟩] [0, 5, 7, 8, 9]))
 (.region [⟨some 16, .mv (.t 9), none, []⟩,
 ⟨some 17, .bin .sub (.t 16) (.c (.int .i64 1)), none, []⟩,
 ⟨some 9, .mv (.t 17), none, []⟩] [0, 5, 7, 8, 9]))
def Z3n_B : Cd :=
 .seq (.region [⟨some 5, .box false 0 (.t 1), none, []⟩,
 ⟨some 7, .box false 1 (.t 3), none, []⟩,
 ⟨some 8, .box false 2 (.c (.arr 64 .leaf z64)), none, []⟩] [0, 2, 5, 7, 8])
 (.seq (.seq (.region [⟨some 10, .mv (.t 2), none, []⟩,
 ⟨some 11, .load (.arr 64 .leaf) (.t 7), none, []⟩,
 ⟨some 12, .call .flat [] (.f F35) [(.t 11)], none, []⟩,
 ⟨some 13, .bin .rem (.t 10) (.t 12), none, []⟩,
 ⟨some 9, .mv (.t 13), none, []⟩] [0, 5, 7, 8, 9])
 (.block 0 (.loop (Z3n_L0))))
 (.seq (.region [⟨some 23, .load (.arr 64 .leaf) (.t 5), none, []⟩,
 ⟨none, .store false (.arr 64 .leaf) (.t 8) (.t 23), none, []⟩] [8])
 (.ret)))
def Z3n : Fn :=
 { nparams := 4, nblk := 3, results := [.cell 8 (.arr 64 .leaf)], body := Z3n_B }
def Z3u_L0 : Cd :=
 .seq (.seq (.region [⟨some 12, .mv (.t 10), none, []⟩,
 ⟨some 13, .bin .lss (.t 12) (.c (.int .i64 8)), none, []⟩] [0, 5, 6, 7, 8, 9, 10, 13])
 (.cond (.t 13)
 (.skip)
 (.exit 0)))
 (.seq (.block 1 (.seq (.region [⟨some 16, .mv (.t 10), none, []⟩,
 ⟨some 17, .idxA (some 8) (.arr 64 .leaf) (.t 6) (.t 16), none, []⟩,
 ⟨some 18, .load (.arr 64 .leaf) (.t 17), none, []⟩,
 ⟨some 19, .build false (.arr 64 .leaf z64) [], none, []⟩,
 ⟨some 20, .eqv true (.arr 64 .leaf .int) (.t 18) (.t 19), none, []⟩] [0, 5, 6, 7, 8, 9, 10, 20])
 (.cond (.t 20)
 (.region [⟨some 21, .mv (.t 0), none, []⟩,
 ⟨some 22, .load (.arr 64 .leaf) (.t 9), none, []⟩,
 ⟨some 23, .mv (.t 0), none, []⟩,
 ⟨some 24, .mv (.t 10), none, []⟩,
 ⟨some 25, .idxA (some 8) (.arr 64 .leaf) (.t 6) (.t 24), none, []⟩,
 ⟨some 26, .load (.arr 64 .leaf) (.t 25), none, []⟩,
 ⟨some 27, .mv (.t 0), none, []⟩,
 ⟨some 28, .load (.arr 64 .leaf) (.t 7), none, []⟩,
 ⟨some 29, .mv (.t 10), none, []⟩,
 ⟨some 30, .load (.arr 64 .leaf) (.t 5), none, []⟩,
 ⟨some 31, .call .flat [] (.f F3n) [(.t 27), (.t 28), (.t 29), (.t 30)], none, []⟩,
 ⟨some 32, .load (.arr 64 .leaf) (.t 5), none, []⟩,
 ⟨some 33, .call .flat [] (.f F3e) [(.t 23), (.t 26), (.t 31), (.t 32)], none, []⟩,
 ⟨some 34, .call .flat [] (.f F33) [(.t 21), (.t 22), (.t 33), (.c (.int .i64 1))], none, []⟩,
 ⟨none, .store false (.arr 64 .leaf) (.t 9) (.t 34), none, []⟩] [0, 5, 6, 7, 8, 9, 10])
 (.skip))))
 (.region [⟨some 14, .mv (.t 10), none, []⟩,
 ⟨some 15, .bin .add (.t 14) (.c (.int .i64 1)), none, []⟩,
 ⟨some 10, .mv (.t 15), none, []⟩] [0, 5, 6, 7, 8, 9, 10]))
def Z3u_B : Cd :=
 .seq (.region [⟨some 5, .box false 0 (.t 1), none, []⟩,
 ⟨some 6, .box false 1 (.t 2), none, []⟩,
 ⟨some 7, .box false 2 (.t 3), none, []⟩,
 ⟨some 8, .box false 3 (.c (.arr 64 .leaf z64)), none, []⟩] [0, 5, 6, 7, 8])
 (.seq (.region [⟨some 11, .build false (.arr 64 .leaf z64) [], none, []⟩,
 ⟨some 9, .box false 4 (.c (.arr 64 .leaf z64)), none, []⟩,
 ⟨none, .store false (.arr 64 .leaf) (.t 9) (.t 11), none, []⟩] [0, 5, 6, 7, 8, 9])
 (.seq (.seq (.region [⟨some 10, .mv (.c (.int .i64 0)), none, []⟩] [0, 5, 6, 7, 8, 9, 10])
 (.block 0 (.loop (Z3u_L0))))
 (.seq (.region [⟨some 35, .load (.arr 64 .leaf) (.t 9), none, []⟩,
 ⟨none, .store false (.arr 64 .leaf) (.t 8) (.t 35), none, []⟩] [8])
 (.ret))))
def Z3u : Fn :=
 { nparams := 4, nblk := 5, results := [.cell 8 (.arr 64 .leaf)], body := Z3u_B }
def Z3s_L0 : Cd :=
 .seq (.seq (.region [⟨some 12, .mv (.t 7), none, []⟩,
 ⟨some 13, .mv (.t 2), none, []⟩,
 ⟨some 14, .len false (.t 13), none, []⟩,
 ⟨some 15, .bin .lss (.t 12) (.t 14), none, []⟩] [0, 2, 4, 7, 15])
 (.cond (.t 15)
 (.skip)
 (.exit 0)))
 (.seq (.block 1 (.seq (.region [⟨some 18, .mv (.t 0), none, []⟩,
 ⟨some 19, .load (.arr 64 .leaf) (.t 4), none, []⟩,
 ⟨some 20, .mv (.t 2), none, []⟩,
 ⟨some 21, .mv (.t 7), none, []⟩,
 ⟨some 22, .idxA none (.arr 64 .leaf) (.t 20) (.t 21), none, []⟩,
 ⟨some 23, .load (.arr 64 .leaf) (.t 22), none, []⟩,
 ⟨some 24, .call .flat [] (.f F3r) [(.t 18), (.t 19), (.t 23)], none, []⟩,
 ⟨some 25, .un .not (.t 24), none, []⟩] [0, 2, 4, 7, 25])
 (.cond (.t 25)
 (.seq (.region [⟨some 6, .mv (.c (.int .i64 1)), none, []⟩] [6])
 (.ret))
 (.skip))))
 (.region [⟨some 16, .mv (.t 7), none, []⟩,
 ⟨some 17, .bin .add (.t 16) (.c (.int .i64 1)), none, []⟩,
 ⟨some 7, .mv (.t 17), none, []⟩] [0, 2, 4, 7]))
def Z3s_B : Cd :=
 .seq (.region [⟨some 4, .box false 0 (.t 1), none, []⟩,
 ⟨some 6, .mv (.c (.int .i64 0)), none, []⟩] [0, 2, 4])
 (.seq (.seq (.region [⟨some 8, .mv (.t 0), none, []⟩,
 ⟨some 9, .load (.arr 64 .leaf) (.t 4), none, []⟩,
 ⟨some 10, .call .flat [] (.f F3m) [(.t 8), (.t 9)], none, []⟩,
 ⟨some 11, .un .not (.t 10), none, []⟩] [0, 2, 4, 11])
 (.cond (.t 11)
 (.seq (.region [⟨some 6, .mv (.c (.int .i64 1)), none, []⟩] [6])
 (.ret))
 (.skip)))
 (.seq (.seq (.region [⟨some 7, .mv (.c (.int .i64 0)), none, []⟩] [0, 2, 4, 7])
 (.block 0 (.loop (Z3s_L0))))
 (.seq (.region [⟨some 6, .mv (.c (.int .i64 0)), none, []⟩] [6])
 (.ret))))
def Z3s : Fn :=
 { nparams := 3, nblk := 1, results := [.tmp 6], body := Z3s_B }
def Z3q_L0 : Cd :=
 .seq (.seq (.region [⟨some 13, .mv (.t 7), none, []⟩,
 ⟨some 14, .mv (.t 1), none, []⟩,
 ⟨some 15, .len false (.t 14), none, []⟩,
 ⟨some 16, .bin .lss (.t 13) (.t 15), none, []⟩] [0, 1, 5, 7, 16])
 (.cond (.t 16)
 (.skip)
 (.exit 0)))
 (.seq (.block 1 (.seq (.region [⟨some 19, .mv (.t 1), none, []⟩,
 ⟨some 20, .mv (.t 7), none, []⟩,
 ⟨some 21, .idxA none (.arr 64 .leaf) (.t 19) (.t 20), none, []⟩,
 ⟨some 22, .load (.arr 64 .leaf) (.t 21), none, []⟩,
 ⟨some 23, .call .flat [] (.f F35) [(.t 22)], none, []⟩,
 ⟨some 8, .mv (.t 23), none, []⟩] [0, 1, 5, 7, 8])
 (.seq (.region [⟨some 24, .mv (.t 8), none, []⟩,
 ⟨some 25, .idxA (some 64) .leaf (.t 5) (.t 24), none, []⟩,
 ⟨some 26, .load .leaf (.t 25), none, []⟩,
 ⟨some 27, .bin .neq (.t 26) (.c (.int .u8 0)), none, []⟩] [0, 1, 5, 7, 8, 27])
 (.cond (.t 27)
 (.region [⟨some 28, .mv (.t 0), none, []⟩,
 ⟨some 29, .load (.arr 64 .leaf) (.t 5), none, []⟩,
 ⟨some 30, .mv (.t 1), none, []⟩,
 ⟨some 31, .mv (.t 7), none, []⟩,
 ⟨some 32, .idxA none (.arr 64 .leaf) (.t 30) (.t 31), none, []⟩,
 ⟨some 33, .load (.arr 64 .leaf) (.t 32), none, []⟩,
 ⟨some 34, .mv (.t 8), none, []⟩,
 ⟨some 35, .idxA (some 64) .leaf (.t 5) (.t 34), none, []⟩,
 ⟨some 36, .load .leaf (.t 35), none, []⟩,
 ⟨some 37, .conv .i64 (.t 36), none, []⟩,
 ⟨some 38, .un .neg (.t 37), none, []⟩,
 ⟨some 39, .call .flat [] (.f F33) [(.t 28), (.t 29), (.t 33), (.t 38)], none, []⟩,
 ⟨none, .store false (.arr 64 .leaf) (.t 5) (.t 39), none, []⟩] [0, 1, 5, 7])
 (.skip)))))
 (.region [⟨some 17, .mv (.t 7), none, []⟩,
 ⟨some 18, .bin .add (.t 17) (.c (.int .i64 1)), none, []⟩,
 ⟨some 7, .mv (.t 18), none, []⟩] [0, 1, 5, 7]))
def Z3q_L1 : Cd :=
 .seq (.seq (.region [⟨some 56, .mv (.t 12), none, []⟩,
 ⟨some 57, .mv (.t 1), none, []⟩,
 ⟨some 58, .len false (.t 57), none, []⟩,
 ⟨some 59, .bin .lss (.t 56) (.t 58), none, []⟩] [0, 1, 5, 9, 10, 11, 12, 59])
 (.cond (.t 59)
 (.skip)
 (.exit 2)))
 (.seq (.block 3 (.seq (.seq (.region [⟨some 62, .mv (.t 11), none, []⟩,
 ⟨some 63, .un .not (.t 62), none, []⟩,
 ⟨some 64, .mv (.t 63), none, []⟩,
 ⟨some 65, .mv (.t 1), some (64, true), []⟩,
 ⟨some 66, .mv (.t 12), some (64, true), []⟩,
 ⟨some 67, .idxA none (.arr 64 .leaf) (.t 65) (.t 66), some (64, true), []⟩,
 ⟨some 68, .load (.arr 64 .leaf) (.t 67), some (64, true), []⟩,
 ⟨some 69, .call .flat [] (.f F35) [(.t 68)], some (64, true), []⟩,
 ⟨some 70, .mv (.t 9), some (64, true), []⟩,
 ⟨some 71, .bin .lss (.t 69) (.t 70), some (64, true), []⟩,
 ⟨some 72, .pick (.t 64) (.t 71) (.c (.bool false)), none, []⟩] [0, 1, 5, 9, 10, 11, 12, 72])
 (.cond (.t 72)
 (.seq (.region [⟨some 73, .mv (.t 10), none, []⟩,
 ⟨some 74, .load (.arr 64 .leaf) (.t 5), none, []⟩,
 ⟨some 75, .buildSl false 2 (.arr 64 .leaf) (.arr 64 .leaf z64) 1 [(0, (.t 74))], none, []⟩,
 ⟨some 76, .append (.arr 64 .leaf) 3 64 (.t 73) (.t 75), none, []⟩,
 ⟨some 10, .mv (.t 76), none, []⟩] [0, 1, 5, 9, 10, 12])
 (.region [⟨some 11, .mv (.c (.bool true)), none, []⟩] [0, 1, 5, 9, 10, 11, 12]))
 (.skip)))
 (.region [⟨some 77, .mv (.t 10), none, []⟩,
 ⟨some 78, .mv (.t 0), none, []⟩,
 ⟨some 79, .mv (.t 1), none, []⟩,
 ⟨some 80, .mv (.t 12), none, []⟩,
 ⟨some 81, .idxA none (.arr 64 .leaf) (.t 79) (.t 80), none, []⟩,
 ⟨some 82, .load (.arr 64 .leaf) (.t 81), none, []⟩,
 ⟨some 83, .load (.arr 64 .leaf) (.t 5), none, []⟩,
 ⟨some 84, .mv (.t 1), none, []⟩,
 ⟨some 85, .mv (.t 12), none, []⟩,
 ⟨some 86, .mv (.t 9), none, []⟩,
 ⟨some 87, .idxA none (.arr 64 .leaf) (.t 84) (.t 85), none, []⟩,
 ⟨some 88, .idxA (some 64) .leaf (.t 87) (.t 86), none, []⟩,
 ⟨some 89, .load .leaf (.t 88), none, []⟩,
 ⟨some 90, .conv .i64 (.t 89), none, []⟩,
 ⟨some 91, .un .neg (.t 90), none, []⟩,
 ⟨some 92, .call .flat [] (.f F33) [(.t 78), (.t 82), (.t 83), (.t 91)], none, []⟩,
 ⟨some 93, .buildSl false 4 (.arr 64 .leaf) (.arr 64 .leaf z64) 1 [(0, (.t 92))], none, []⟩,
 ⟨some 94, .append (.arr 64 .leaf) 5 64 (.t 77) (.t 93), none, []⟩,
 ⟨some 10, .mv (.t 94), none, []⟩] [0, 1, 5, 9, 10, 11, 12])))
 (.region [⟨some 60, .mv (.t 12), none, []⟩,
 ⟨some 61, .bin .add (.t 60) (.c (.int .i64 1)), none, []⟩,
 ⟨some 12, .mv (.t 61), none, []⟩] [0, 1, 5, 9, 10, 11, 12]))
def Z3q_B : Cd :=
 .seq (.region [⟨some 5, .box false 0 (.t 2), none, []⟩,
 ⟨some 6, .mv (.c (.sl (.arr 64 .leaf) [])), none, []⟩] [0, 1, 5])
 (.seq (.seq (.region [⟨some 7, .mv (.c (.int .i64 0)), none, []⟩] [0, 1, 5, 7])
 (.block 0 (.loop (Z3q_L0))))
 (.seq (.region [⟨some 40, .load (.arr 64 .leaf) (.t 5), none, []⟩,
 ⟨some 41, .call .flat [] (.f F35) [(.t 40)], none, []⟩,
 ⟨some 9, .mv (.t 41), none, []⟩] [0, 1, 5, 9])
 (.seq (.seq (.region [⟨some 42, .mv (.t 9), none, []⟩,
 ⟨some 43, .bin .lss (.t 42) (.c (.int .i64 0)), none, []⟩] [0, 1, 5, 9, 43])
 (.cond (.t 43)
 (.seq (.region [⟨some 44, .mv (.t 1), none, []⟩,
 ⟨some 6, .mv (.t 44), none, []⟩] [6])
 (.ret))
 (.skip)))
 (.seq (.region [⟨some 45, .mv (.t 0), none, []⟩,
 ⟨some 46, .build false (.arr 64 .leaf z64) [], none, []⟩,
 ⟨some 47, .load (.arr 64 .leaf) (.t 5), none, []⟩,
 ⟨some 48, .mv (.t 0), none, []⟩,
 ⟨some 49, .mv (.t 9), none, []⟩,
 ⟨some 50, .idxA (some 64) .leaf (.t 5) (.t 49), none, []⟩,
 ⟨some 51, .load .leaf (.t 50), none, []⟩,
 ⟨some 52, .call .flat [] (.f F39) [(.t 48), (.t 51)], none, []⟩,
 ⟨some 53, .conv .i64 (.t 52), none, []⟩,
 ⟨some 54, .call .flat [] (.f F33) [(.t 45), (.t 46), (.t 47), (.t 53)], none, []⟩,
 ⟨none, .store false (.arr 64 .leaf) (.t 5) (.t 54), none, []⟩] [0, 1, 5, 9])
 (.seq (.region [⟨some 55, .buildSl false 1 (.arr 64 .leaf) (.arr 64 .leaf z64) 0 [], none, []⟩,
 ⟨some 10, .mv (.t 55), none, []⟩,
 ⟨some 11, .mv (.c (.bool false)), none, []⟩] [0, 1, 5, 9, 10, 11])
 (.seq (.seq (.region [⟨some 12, .mv (.c (.int .i64 0)), none, []⟩] [0, 1, 5, 9, 10, 11, 12])
 (.block 2 (.loop (Z3q_L1))))
 (.seq (.seq (.region [⟨some 95, .mv (.t 11), none, []⟩,
 ⟨some 96, .un .not (.t 95), none, []⟩] [5, 10, 96])
 (.cond (.t 96)
 (.region [⟨some 97, .mv (.t 10), none, []⟩,
 ⟨some 98, .load (.arr 64 .leaf) (.t 5), none, []⟩,
 ⟨some 99, .buildSl false 6 (.arr 64 .leaf) (.arr 64 .leaf z64) 1 [(0, (.t 98))], none, []⟩,
 ⟨some 100, .append (.arr 64 .leaf) 7 64 (.t 97) (.t 99), none, []⟩,
 ⟨some 10, .mv (.t 100), none, []⟩] [10])
 (.skip)))
 (.seq (.region [⟨some 101, .mv (.t 10), none, []⟩,
 ⟨some 6, .mv (.t 101), none, []⟩] [6])
 (.ret)))))))))
def Z3q : Fn :=
 { nparams := 3, nblk := 8, results := [.tmp 6], body := Z3q_B }
def Z3l_L0 : Cd :=
 .seq (.seq (.region [⟨some 4, .mv (.t 3), none, []⟩,
 ⟨some 5, .bin .geq (.t 4) (.c (.int .i64 0)), none, []⟩,
 ⟨some 6, .mv (.t 5), none, []⟩,
 ⟨some 7, .mv (.t 3), some (6, true), []⟩,
 ⟨some 8, .idxA (some 8) (.arr 64 .leaf) (.t 1) (.t 7), some (6, true), []⟩,
 ⟨some 9, .load (.arr 64 .leaf) (.t 8), some (6, true), []⟩,
 ⟨some 10, .build false (.arr 64 .leaf z64) [], some (6, true), []⟩,
 ⟨some 11, .eqv false (.arr 64 .leaf .int) (.t 9) (.t 10), some (6, true), []⟩,
 ⟨some 12, .pick (.t 6) (.t 11) (.c (.bool false)), none, []⟩] [1, 3, 12])
 (.cond (.t 12)
 (.skip)
 (.exit 0)))
 (.block 1 (.region [⟨some 13, .mv (.t 3), none, []⟩,
 ⟨some 14, .bin .sub (.t 13) (.c (.int .i64 1)), none, []⟩,
 ⟨some 3, .mv (.t 14), none, []⟩] [1, 3]))
def Z3l_B : Cd :=
 .seq (.region [⟨some 1, .box false 0 (.t 0), none, []⟩,
 ⟨some 2, .mv (.c (.int .i64 0)), none, []⟩] [1])
 (.seq (.region [⟨some 3, .mv (.c (.int .i64 7)), none, []⟩] [1, 3])
 (.seq (.block 0 (.loop (Z3l_L0)))
 (.seq (.region [⟨some 15, .mv (.t 3), none, []⟩,
 ⟨some 2, .mv (.t 15), none, []⟩] [2])
 (.ret))))
def Z3l : Fn :=
 { nparams := 1, nblk := 1, results := [.tmp 2], body := Z3l_B }
def Z3t_L0 : Cd :=
 .seq (.seq (.region [⟨some 38, .mv (.t 14), none, []⟩,
 ⟨some 39, .mv (.t 11), none, []⟩,
 ⟨some 40, .bin .leq (.t 38) (.t 39), none, []⟩] [0, 5, 6, 7, 8, 10, 11, 12, 13, 14, 40])
 (.cond (.t 40)
 (.skip)
 (.exit 2)))
 (.seq (.block 3 (.seq (.region [⟨some 43, .mv (.t 0), none, []⟩,
 ⟨some 44, .mv (.t 13), none, []⟩,
 ⟨some 45, .idxA (some 8) (.arr 64 .leaf) (.t 6) (.t 44), none, []⟩,
 ⟨some 46, .load (.arr 64 .leaf) (.t 45), none, []⟩,
 ⟨some 47, .mv (.t 0), none, []⟩,
 ⟨some 48, .mv (.t 14), none, []⟩,
 ⟨some 49, .idxA (some 8) (.arr 64 .leaf) (.t 7) (.t 48), none, []⟩,
 ⟨some 50, .load (.arr 64 .leaf) (.t 49), none, []⟩,
 ⟨some 51, .mv (.t 13), none, []⟩,
 ⟨some 52, .load (.arr 64 .leaf) (.t 5), none, []⟩,
 ⟨some 53, .call .flat [] (.f F3n) [(.t 47), (.t 50), (.t 51), (.t 52)], none, []⟩,
 ⟨some 54, .load (.arr 64 .leaf) (.t 5), none, []⟩,
 ⟨some 55, .call .flat [] (.f F3e) [(.t 43), (.t 46), (.t 53), (.t 54)], none, []⟩,
 ⟨some 15, .box false 5 (.c (.arr 64 .leaf z64)), none, []⟩,
 ⟨none, .store false (.arr 64 .leaf) (.t 15) (.t 55), none, []⟩] [0, 5, 6, 7, 8, 10, 11, 12, 13, 14, 15])
 (.region [⟨some 56, .mv (.t 13), none, []⟩,
 ⟨some 57, .mv (.t 14), none, []⟩,
 ⟨some 58, .bin .add (.t 56) (.t 57), none, []⟩,
 ⟨some 59, .mv (.t 0), none, []⟩,
 ⟨some 60, .mv (.t 13), none, []⟩,
 ⟨some 61, .mv (.t 14), none, []⟩,
 ⟨some 62, .bin .add (.t 60) (.t 61), none, []⟩,
 ⟨some 63, .idxA (some 8) (.arr 64 .leaf) (.t 12) (.t 62), none, []⟩,
 ⟨some 64, .load (.arr 64 .leaf) (.t 63), none, []⟩,
 ⟨some 65, .load (.arr 64 .leaf) (.t 15), none, []⟩,
 ⟨some 66, .call .flat [] (.f F33) [(.t 59), (.t 64), (.t 65), (.c (.int .i64 1))], none, []⟩,
 ⟨some 67, .idxA (some 8) (.arr 64 .leaf) (.t 12) (.t 58), none, []⟩,
 ⟨none, .store false (.arr 64 .leaf) (.t 67) (.t 66), none, []⟩] [0, 5, 6, 7, 8, 10, 11, 12, 13, 14])))
 (.region [⟨some 41, .mv (.t 14), none, []⟩,
 ⟨some 42, .bin .add (.t 41) (.c (.int .i64 1)), none, []⟩,
 ⟨some 14, .mv (.t 42), none, []⟩] [0, 5, 6, 7, 8, 10, 11, 12, 13, 14]))
def Z3t_L1 : Cd :=
 .seq (.seq (.region [⟨some 33, .mv (.t 13), none, []⟩,
 ⟨some 34, .mv (.t 10), none, []⟩,
 ⟨some 35, .bin .leq (.t 33) (.t 34), none, []⟩] [0, 5, 6, 7, 8, 10, 11, 12, 13, 35])
 (.cond (.t 35)
 (.skip)
 (.exit 0)))
 (.seq (.block 1 (.seq (.region [⟨some 14, .mv (.c (.int .i64 0)), none, []⟩] [0, 5, 6, 7, 8, 10, 11, 12, 13, 14])
 (.block 2 (.loop (Z3t_L0)))))
 (.region [⟨some 36, .mv (.t 13), none, []⟩,
 ⟨some 37, .bin .add (.t 36) (.c (.int .i64 1)), none, []⟩,
 ⟨some 13, .mv (.t 37), none, []⟩] [0, 5, 6, 7, 8, 10, 11, 12, 13]))
def Z3t_B : Cd :=
 .seq (.region [⟨some 5, .box false 0 (.t 1), none, []⟩,
 ⟨some 6, .box false 1 (.t 2), none, []⟩,
 ⟨some 7, .box false 2 (.t 3), none, []⟩,
 ⟨some 8, .box false 3 (.c (.arr 8 (.arr 64 .leaf) z8)), none, []⟩,
 ⟨some 9, .mv (.c (.bool false)), none, []⟩] [0, 5, 6, 7, 8])
 (.seq (.region [⟨some 16, .load (.arr 8 (.arr 64 .leaf)) (.t 6), none, []⟩,
 ⟨some 17, .call .flat [] (.f F3l) [(.t 16)], none, []⟩,
 ⟨some 18, .load (.arr 8 (.arr 64 .leaf)) (.t 7), none, []⟩,
 ⟨some 19, .call .flat [] (.f F3l) [(.t 18)], none, []⟩,
 ⟨some 20, .build false (.arr 8 (.arr 64 .leaf) z8) [], none, []⟩,
 ⟨some 12, .box false 4 (.c (.arr 8 (.arr 64 .leaf) z8)), none, []⟩,
 ⟨some 10, .mv (.t 17), none, []⟩,
 ⟨some 11, .mv (.t 19), none, []⟩,
 ⟨none, .store false (.arr 8 (.arr 64 .leaf)) (.t 12) (.t 20), none, []⟩] [0, 5, 6, 7, 8, 10, 11, 12])
 (.seq (.seq (.region [⟨some 21, .mv (.t 10), none, []⟩,
 ⟨some 22, .bin .lss (.t 21) (.c (.int .i64 0)), none, []⟩,
 ⟨some 23, .mv (.t 22), none, []⟩,
 ⟨some 24, .mv (.t 11), some (23, false), []⟩,
 ⟨some 25, .bin .lss (.t 24) (.c (.int .i64 0)), some (23, false), []⟩,
 ⟨some 26, .pick (.t 23) (.c (.bool true)) (.t 25), none, []⟩] [0, 5, 6, 7, 8, 10, 11, 12, 26])
 (.cond (.t 26)
 (.seq (.region [⟨some 27, .load (.arr 8 (.arr 64 .leaf)) (.t 12), none, []⟩,
 ⟨none, .store false (.arr 8 (.arr 64 .leaf)) (.t 8) (.t 27), none, []⟩,
 ⟨some 9, .mv (.c (.bool true)), none, []⟩] [8, 9])
 (.ret))
 (.skip)))
 (.seq (.seq (.region [⟨some 28, .mv (.t 10), none, []⟩,
 ⟨some 29, .mv (.t 11), none, []⟩,
 ⟨some 30, .bin .add (.t 28) (.t 29), none, []⟩,
 ⟨some 31, .bin .gtr (.t 30) (.c (.int .i64 7)), none, []⟩] [0, 5, 6, 7, 8, 10, 11, 12, 31])
 (.cond (.t 31)
 (.seq (.region [⟨some 32, .load (.arr 8 (.arr 64 .leaf)) (.t 12), none, []⟩,
 ⟨none, .store false (.arr 8 (.arr 64 .leaf)) (.t 8) (.t 32), none, []⟩,
 ⟨some 9, .mv (.c (.bool false)), none, []⟩] [8, 9])
 (.ret))
 (.skip)))
 (.seq (.seq (.region [⟨some 13, .mv (.c (.int .i64 0)), none, []⟩] [0, 5, 6, 7, 8, 10, 11, 12, 13])
 (.block 0 (.loop (Z3t_L1))))
 (.seq (.region [⟨some 68, .load (.arr 8 (.arr 64 .leaf)) (.t 12), none, []⟩,
 ⟨none, .store false (.arr 8 (.arr 64 .leaf)) (.t 8) (.t 68), none, []⟩,
 ⟨some 9, .mv (.c (.bool true)), none, []⟩] [8, 9])
 (.ret))))))
def Z3t : Fn :=
 { nparams := 4, nblk := 6, results := [.cell 8 (.arr 8 (.arr 64 .leaf)), .tmp 9], body := Z3t_B }
def Z3p_B : Cd :=
 .seq (.region [⟨some 0, .box false 0 (.c (.arr 8 (.arr 64 .leaf) z8)), none, []⟩] [0])
 (.seq (.region [⟨some 1, .call .flat [] (.f F3f) [], none, []⟩,
 ⟨some 2, .build false (.arr 8 (.arr 64 .leaf) z8) [(0, (.t 1))], none, []⟩,
 ⟨none, .store false (.arr 8 (.arr 64 .leaf)) (.t 0) (.t 2), none, []⟩] [0])
 (.ret))
def Z3p : Fn :=
 { nparams := 0, nblk := 1, results := [.cell 0 (.arr 8 (.arr 64 .leaf))], body := Z3p_B }
def Z3o_B : Cd :=
 .seq (.region [⟨some 4, .box false 0 (.t 1), none, []⟩,
 ⟨some 5, .box false 1 (.t 2), none, []⟩,
 ⟨some 6, .box false 2 (.c (.arr 64 .leaf z64)), none, []⟩] [0, 4, 5, 6])
 (.seq (.region [⟨some 11, .mv (.t 0), none, []⟩,
 ⟨some 12, .load (.arr 64 .leaf) (.t 4), none, []⟩,
 ⟨some 13, .load (.arr 64 .leaf) (.t 5), none, []⟩,
 ⟨some 14, .call .flat [] (.f F34) [(.t 11), (.t 12), (.t 13)], none, []⟩,
 ⟨some 10, .mv (.t 14), none, []⟩,
 ⟨some 15, .ext (.t 10) 0, none, []⟩,
 ⟨some 16, .ext (.t 10) 1, none, []⟩,
 ⟨some 17, .ext (.t 10) 2, none, []⟩,
 ⟨some 7, .box false 3 (.c (.arr 64 .leaf z64)), none, []⟩,
 ⟨some 8, .box false 4 (.c (.arr 64 .leaf z64)), none, []⟩,
 ⟨some 9, .box false 5 (.c (.arr 64 .leaf z64)), none, []⟩,
 ⟨none, .store false (.arr 64 .leaf) (.t 7) (.t 15), none, []⟩,
 ⟨none, .store false (.arr 64 .leaf) (.t 8) (.t 16), none, []⟩,
 ⟨none, .store false (.arr 64 .leaf) (.t 9) (.t 17), none, []⟩] [0, 5, 6, 8])
 (.seq (.region [⟨some 18, .mv (.t 0), none, []⟩,
 ⟨some 19, .load (.arr 64 .leaf) (.t 8), none, []⟩,
 ⟨some 20, .load (.arr 64 .leaf) (.t 5), none, []⟩,
 ⟨some 21, .call .flat [] (.f F3c) [(.t 18), (.t 19), (.t 20)], none, []⟩,
 ⟨none, .store false (.arr 64 .leaf) (.t 6) (.t 21), none, []⟩] [6])
 (.ret)))
def Z3o : Fn :=
 { nparams := 3, nblk := 6, results := [.cell 6 (.arr 64 .leaf)], body := Z3o_B }
end Pe

/-
 Functions of the program in the small form, printed by a program.
-/
namespace Pe
open Go
def Z3x_L0 : Cd :=
 .seq (.seq (.region [⟨some 8, .mv (.t 6), none, []⟩,
 ⟨some 9, .mv (.t 1), none, []⟩,
 ⟨some 10, .len false (.t 9), none, []⟩,
 ⟨some 11, .bin .lss (.t 8) (.t 10), none, []⟩] [0, 1, 5, 6, 11])
 (.cond (.t 11)
 (.skip)
 (.exit 0)))
 (.seq (.block 1 (.region [⟨some 14, .mv (.t 0), none, []⟩,
 ⟨some 15, .mv (.t 5), none, []⟩,
 ⟨some 16, .mv (.t 1), none, []⟩,
 ⟨some 17, .mv (.t 6), none, []⟩,
 ⟨some 18, .idxA none (.arr 64 .leaf) (.t 16) (.t 17), none, []⟩,
 ⟨some 19, .load (.arr 64 .leaf) (.t 18), none, []⟩,
 ⟨some 20, .call .data [] (.f F3q) [(.t 14), (.t 15), (.t 19)], none, []⟩,
 ⟨some 5, .mv (.t 20), none, []⟩] [0, 1, 5, 6]))
 (.region [⟨some 12, .mv (.t 6), none, []⟩,
 ⟨some 13, .bin .add (.t 12) (.c (.int .i64 1)), none, []⟩,
 ⟨some 6, .mv (.t 13), none, []⟩] [0, 1, 5, 6]))
def Z3x_B : Cd :=
 .seq (.region [⟨some 4, .mv (.c (.sl (.arr 64 .leaf) [])), none, []⟩] [0, 1])
 (.seq (.region [⟨some 7, .buildSl false 0 (.arr 64 .leaf) (.arr 64 .leaf z64) 0 [], none, []⟩,
 ⟨some 5, .mv (.t 7), none, []⟩] [0, 1, 5])
 (.seq (.seq (.region [⟨some 6, .mv (.c (.int .i64 0)), none, []⟩] [0, 1, 5, 6])
 (.block 0 (.loop (Z3x_L0))))
 (.seq (.region [⟨some 21, .mv (.t 5), none, []⟩,
 ⟨some 4, .mv (.t 21), none, []⟩] [4])
 (.ret))))
def Z3x : Fn :=
 { nparams := 2, nblk := 1, results := [.tmp 4], body := Z3x_B }
def Z3v_B : Cd :=
 .seq (.region [⟨some 7, .box false 0 (.t 1), none, []⟩,
 ⟨some 12, .mv (.c (.int .i64 0)), none, []⟩] [0, 2, 3, 4, 5, 7])
 (.seq (.seq (.region [⟨some 13, .mv (.t 0), none, []⟩,
 ⟨some 14, .load (.arr 64 .leaf) (.t 7), none, []⟩,
 ⟨some 15, .mv (.t 2), none, []⟩,
 ⟨some 16, .call .flat [] (.f F3s) [(.t 13), (.t 14), (.t 15)], none, []⟩,
 ⟨some 17, .bin .neq (.t 16) (.c (.int .i64 0)), none, []⟩,
 ⟨some 18, .mv (.t 17), none, []⟩,
 ⟨some 19, .mv (.t 0), some (18, false), []⟩,
 ⟨some 20, .load (.arr 64 .leaf) (.t 7), some (18, false), []⟩,
 ⟨some 21, .mv (.t 3), some (18, false), []⟩,
 ⟨some 22, .call .flat [] (.f F3s) [(.t 19), (.t 20), (.t 21)], some (18, false), []⟩,
 ⟨some 23, .bin .neq (.t 22) (.c (.int .i64 0)), some (18, false), []⟩,
 ⟨some 24, .pick (.t 18) (.c (.bool true)) (.t 23), none, []⟩] [0, 2, 3, 4, 5, 24])
 (.cond (.t 24)
 (.seq (.region [⟨some 12, .mv (.c (.int .i64 1)), none, []⟩] [12])
 (.ret))
 (.skip)))
 (.seq (.block 0 (.seq (.region [⟨some 26, .mv (.t 2), none, []⟩,
 ⟨some 27, .len false (.t 26), none, []⟩,
 ⟨some 28, .bin .lss (.t 27) (.c (.int .i64 1)), none, []⟩,
 ⟨some 29, .mv (.t 28), none, []⟩,
 ⟨some 30, .mv (.t 2), some (29, false), []⟩,
 ⟨some 31, .len false (.t 30), some (29, false), []⟩,
 ⟨some 32, .bin .gtr (.t 31) (.c (.int .i64 4)), some (29, false), []⟩,
 ⟨some 33, .pick (.t 29) (.c (.bool true)) (.t 32), none, []⟩,
 ⟨some 34, .mv (.t 33), none, []⟩,
 ⟨some 35, .mv (.t 3), some (34, false), []⟩,
 ⟨some 36, .len false (.t 35), some (34, false), []⟩,
 ⟨some 37, .mv (.t 4), some (34, false), []⟩,
 ⟨some 38, .bin .lss (.t 36) (.t 37), some (34, false), []⟩,
 ⟨some 39, .pick (.t 34) (.c (.bool true)) (.t 38), none, []⟩,
 ⟨some 40, .mv (.t 39), none, []⟩,
 ⟨some 41, .mv (.t 3), some (40, false), []⟩,
 ⟨some 42, .len false (.t 41), some (40, false), []⟩,
 ⟨some 43, .mv (.t 5), some (40, false), []⟩,
 ⟨some 44, .bin .gtr (.t 42) (.t 43), some (40, false), []⟩,
 ⟨some 45, .pick (.t 40) (.c (.bool true)) (.t 44), none, []⟩,
 ⟨some 25, .mv (.t 45), none, []⟩] [0, 2, 25])
 (.cond (.t 25)
 (.seq (.region [⟨some 12, .mv (.c (.int .i64 2)), none, []⟩] [12])
 (.ret))
 (.seq (.region [⟨some 47, .mv (.t 0), none, []⟩,
 ⟨some 48, .mv (.t 2), none, []⟩,
 ⟨some 49, .call .plain [] (.f F3x) [(.t 47), (.t 48)], none, []⟩,
 ⟨some 50, .len false (.t 49), none, []⟩,
 ⟨some 51, .mv (.t 2), none, []⟩,
 ⟨some 52, .len false (.t 51), none, []⟩,
 ⟨some 53, .bin .neq (.t 50) (.t 52), none, []⟩,
 ⟨some 46, .mv (.t 53), none, []⟩] [46])
 (.cond (.t 46)
 (.seq (.region [⟨some 12, .mv (.c (.int .i64 5)), none, []⟩] [12])
 (.ret))
 (.skip))))))
 (.seq (.region [⟨some 12, .mv (.c (.int .i64 0)), none, []⟩] [12])
 (.ret))))
def Z3v : Fn :=
 { nparams := 6, nblk := 1, results := [.tmp 12], body := Z3v_B }
def Z3w_L0 : Cd :=
 .seq (.seq (.region [⟨some 57, .mv (.t 15), none, []⟩,
 ⟨some 58, .bin .lss (.t 57) (.c (.int .i64 8)), none, []⟩] [0, 2, 3, 5, 8, 9, 10, 11, 12, 14, 15, 58])
 (.cond (.t 58)
 (.skip)
 (.exit 2)))
 (.seq (.block 3 (.region [⟨some 61, .mv (.t 15), none, []⟩,
 ⟨some 62, .mv (.t 0), none, []⟩,
 ⟨some 63, .mv (.t 15), none, []⟩,
 ⟨some 64, .idxA (some 8) (.arr 64 .leaf) (.t 9) (.t 63), none, []⟩,
 ⟨some 65, .load (.arr 64 .leaf) (.t 64), none, []⟩,
 ⟨some 66, .mv (.t 0), none, []⟩,
 ⟨some 67, .load (.arr 64 .leaf) (.t 14), none, []⟩,
 ⟨some 68, .mv (.t 15), none, []⟩,
 ⟨some 69, .idxA (some 8) (.arr 64 .leaf) (.t 10) (.t 68), none, []⟩,
 ⟨some 70, .load (.arr 64 .leaf) (.t 69), none, []⟩,
 ⟨some 71, .load (.arr 64 .leaf) (.t 5), none, []⟩,
 ⟨some 72, .call .flat [] (.f F3e) [(.t 66), (.t 67), (.t 70), (.t 71)], none, []⟩,
 ⟨some 73, .call .flat [] (.f F33) [(.t 62), (.t 65), (.t 72), (.c (.int .i64 1))], none, []⟩,
 ⟨some 74, .idxA (some 8) (.arr 64 .leaf) (.t 9) (.t 61), none, []⟩,
 ⟨none, .store false (.arr 64 .leaf) (.t 74) (.t 73), none, []⟩] [0, 2, 3, 5, 8, 9, 10, 11, 12, 14, 15]))
 (.region [⟨some 59, .mv (.t 15), none, []⟩,
 ⟨some 60, .bin .add (.t 59) (.c (.int .i64 1)), none, []⟩,
 ⟨some 15, .mv (.t 60), none, []⟩] [0, 2, 3, 5, 8, 9, 10, 11, 12, 14, 15]))
def Z3w_L1 : Cd :=
 .seq (.seq (.region [⟨some 21, .mv (.t 11), none, []⟩,
 ⟨some 22, .mv (.t 2), none, []⟩,
 ⟨some 23, .len false (.t 22), none, []⟩,
 ⟨some 24, .bin .lss (.t 21) (.t 23), none, []⟩] [0, 2, 3, 5, 8, 9, 10, 11, 24])
 (.cond (.t 24)
 (.skip)
 (.exit 0)))
 (.seq (.block 1 (.seq (.region [⟨some 27, .mv (.t 0), none, []⟩,
 ⟨some 28, .load (.arr 64 .leaf) (.t 5), none, []⟩,
 ⟨some 29, .load (.arr 8 (.arr 64 .leaf)) (.t 10), none, []⟩,
 ⟨some 30, .mv (.t 2), none, []⟩,
 ⟨some 31, .mv (.t 11), none, []⟩,
 ⟨some 32, .idxA none (.arr 64 .leaf) (.t 30) (.t 31), none, []⟩,
 ⟨some 33, .load (.arr 64 .leaf) (.t 32), none, []⟩,
 ⟨some 34, .call .flat [] (.f F3u) [(.t 27), (.t 28), (.t 29), (.t 33)], none, []⟩,
 ⟨some 12, .box false 4 (.c (.arr 64 .leaf z64)), none, []⟩,
 ⟨none, .store false (.arr 64 .leaf) (.t 12) (.t 34), none, []⟩] [0, 2, 3, 5, 8, 9, 10, 11, 12])
 (.seq (.region [⟨some 35, .mv (.t 0), none, []⟩,
 ⟨some 36, .mv (.t 3), none, []⟩,
 ⟨some 37, .mv (.t 11), none, []⟩,
 ⟨some 38, .idxA none (.arr 64 .leaf) (.t 36) (.t 37), none, []⟩,
 ⟨some 39, .load (.arr 64 .leaf) (.t 38), none, []⟩,
 ⟨some 40, .mv (.t 0), none, []⟩,
 ⟨some 41, .load (.arr 64 .leaf) (.t 5), none, []⟩,
 ⟨some 42, .load (.arr 8 (.arr 64 .leaf)) (.t 9), none, []⟩,
 ⟨some 43, .mv (.t 2), none, []⟩,
 ⟨some 44, .mv (.t 11), none, []⟩,
 ⟨some 45, .idxA none (.arr 64 .leaf) (.t 43) (.t 44), none, []⟩,
 ⟨some 46, .load (.arr 64 .leaf) (.t 45), none, []⟩,
 ⟨some 47, .call .flat [] (.f F3u) [(.t 40), (.t 41), (.t 42), (.t 46)], none, []⟩,
 ⟨some 48, .call .flat [] (.f F33) [(.t 35), (.t 39), (.t 47), (.c (.int .i64 (-1)))], none, []⟩,
 ⟨some 13, .box false 5 (.c (.arr 64 .leaf z64)), none, []⟩,
 ⟨none, .store false (.arr 64 .leaf) (.t 13) (.t 48), none, []⟩] [0, 2, 3, 5, 8, 9, 10, 11, 12, 13])
 (.seq (.region [⟨some 49, .mv (.t 0), none, []⟩,
 ⟨some 50, .load (.arr 64 .leaf) (.t 13), none, []⟩,
 ⟨some 51, .mv (.t 0), none, []⟩,
 ⟨some 52, .load (.arr 64 .leaf) (.t 12), none, []⟩,
 ⟨some 53, .load (.arr 64 .leaf) (.t 5), none, []⟩,
 ⟨some 54, .call .flat [] (.f F3o) [(.t 51), (.t 52), (.t 53)], none, []⟩,
 ⟨some 55, .load (.arr 64 .leaf) (.t 5), none, []⟩,
 ⟨some 56, .call .flat [] (.f F3e) [(.t 49), (.t 50), (.t 54), (.t 55)], none, []⟩,
 ⟨some 14, .box false 6 (.c (.arr 64 .leaf z64)), none, []⟩,
 ⟨none, .store false (.arr 64 .leaf) (.t 14) (.t 56), none, []⟩] [0, 2, 3, 5, 8, 9, 10, 11, 12, 14])
 (.seq (.seq (.region [⟨some 15, .mv (.c (.int .i64 0)), none, []⟩] [0, 2, 3, 5, 8, 9, 10, 11, 12, 14, 15])
 (.block 2 (.loop (Z3w_L0))))
 (.seq (.region [⟨some 75, .mv (.t 0), none, []⟩,
 ⟨some 76, .build false (.arr 64 .leaf z64) [], none, []⟩,
 ⟨some 77, .mv (.t 0), none, []⟩,
 ⟨some 78, .load (.arr 64 .leaf) (.t 12), none, []⟩,
 ⟨some 79, .mv (.t 0), none, []⟩,
 ⟨some 80, .bin .sub (.t 79) (.c (.int .i64 1)), none, []⟩,
 ⟨some 81, .load (.arr 64 .leaf) (.t 5), none, []⟩,
 ⟨some 82, .call .flat [] (.f F3g) [(.t 77), (.t 78), (.t 80), (.t 81)], none, []⟩,
 ⟨some 83, .call .flat [] (.f F33) [(.t 75), (.t 76), (.t 82), (.c (.int .i64 (-1)))], none, []⟩,
 ⟨some 84, .call .flat [] (.f F3f) [], none, []⟩,
 ⟨some 85, .build false (.arr 8 (.arr 64 .leaf) z8) [(0, (.t 83)), (1, (.t 84))], none, []⟩,
 ⟨some 16, .box false 7 (.c (.arr 8 (.arr 64 .leaf) z8)), none, []⟩,
 ⟨none, .store false (.arr 8 (.arr 64 .leaf)) (.t 16) (.t 85), none, []⟩] [0, 2, 3, 5, 8, 9, 10, 11, 16])
 (.seq (.region [⟨some 87, .mv (.t 0), none, []⟩,
 ⟨some 88, .load (.arr 64 .leaf) (.t 5), none, []⟩,
 ⟨some 89, .load (.arr 8 (.arr 64 .leaf)) (.t 16), none, []⟩,
 ⟨some 90, .load (.arr 8 (.arr 64 .leaf)) (.t 10), none, []⟩,
 ⟨some 91, .call .flat [] (.f F3t) [(.t 87), (.t 88), (.t 89), (.t 90)], none, []⟩,
 ⟨some 86, .mv (.t 91), none, []⟩,
 ⟨some 92, .ext (.t 86) 0, none, []⟩,
 ⟨some 93, .ext (.t 86) 1, none, []⟩,
 ⟨some 17, .box false 8 (.c (.arr 8 (.arr 64 .leaf) z8)), none, []⟩,
 ⟨none, .store false (.arr 8 (.arr 64 .leaf)) (.t 17) (.t 92), none, []⟩,
 ⟨some 18, .mv (.t 93), none, []⟩] [0, 2, 3, 5, 8, 9, 10, 11, 17])
 (.region [⟨some 94, .load (.arr 8 (.arr 64 .leaf)) (.t 17), none, []⟩,
 ⟨none, .store false (.arr 8 (.arr 64 .leaf)) (.t 10) (.t 94), none, []⟩] [0, 2, 3, 5, 8, 9, 10, 11]))))))))
 (.region [⟨some 25, .mv (.t 11), none, []⟩,
 ⟨some 26, .bin .add (.t 25) (.c (.int .i64 1)), none, []⟩,
 ⟨some 11, .mv (.t 26), none, []⟩] [0, 2, 3, 5, 8, 9, 10, 11]))
def Z3w_B : Cd :=
 .seq (.region [⟨some 5, .box false 0 (.t 1), none, []⟩,
 ⟨some 8, .box false 1 (.c (.arr 8 (.arr 64 .leaf) z8)), none, []⟩] [0, 2, 3, 5, 8])
 (.seq (.region [⟨some 19, .build false (.arr 8 (.arr 64 .leaf) z8) [], none, []⟩,
 ⟨some 20, .call .flat [] (.f F3p) [], none, []⟩,
 ⟨some 9, .box false 2 (.c (.arr 8 (.arr 64 .leaf) z8)), none, []⟩,
 ⟨some 10, .box false 3 (.c (.arr 8 (.arr 64 .leaf) z8)), none, []⟩,
 ⟨none, .store false (.arr 8 (.arr 64 .leaf)) (.t 9) (.t 19), none, []⟩,
 ⟨none, .store false (.arr 8 (.arr 64 .leaf)) (.t 10) (.t 20), none, []⟩] [0, 2, 3, 5, 8, 9, 10])
 (.seq (.seq (.region [⟨some 11, .mv (.c (.int .i64 0)), none, []⟩] [0, 2, 3, 5, 8, 9, 10, 11])
 (.block 0 (.loop (Z3w_L1))))
 (.seq (.region [⟨some 95, .load (.arr 8 (.arr 64 .leaf)) (.t 9), none, []⟩,
 ⟨none, .store false (.arr 8 (.arr 64 .leaf)) (.t 8) (.t 95), none, []⟩] [8])
 (.ret))))
def Z3w : Fn :=
 { nparams := 4, nblk := 9, results := [.cell 8 (.arr 8 (.arr 64 .leaf))], body := Z3w_B }
def ir_spec_InterpolateSkew_B : Cd :=
 .seq (.region [⟨some 5, .box false 0 (.t 1), none, []⟩,
 ⟨some 8, .box false 1 (.c (.arr 8 (.arr 64 .leaf) z8)), none, []⟩,
 ⟨some 9, .mv (.c (.int .i64 0)), none, []⟩] [0, 2, 3, 5, 8])
 (.seq (.seq (.region [⟨some 11, .mv (.t 0), none, []⟩,
 ⟨some 12, .load (.arr 64 .leaf) (.t 5), none, []⟩,
 ⟨some 13, .mv (.t 2), none, []⟩,
 ⟨some 14, .mv (.t 3), none, []⟩,
 ⟨some 15, .mv (.t 2), none, []⟩,
 ⟨some 16, .len false (.t 15), none, []⟩,
 ⟨some 17, .mv (.t 2), none, []⟩,
 ⟨some 18, .len false (.t 17), none, []⟩,
 ⟨some 19, .call .flat [] (.f F3v) [(.t 11), (.t 12), (.t 13), (.t 14), (.t 16), (.t 18)], none, []⟩,
 ⟨some 10, .mv (.t 19), none, []⟩] [0, 2, 3, 5, 8, 10])
 (.seq (.region [⟨some 20, .mv (.t 10), none, []⟩,
 ⟨some 21, .bin .neq (.t 20) (.c (.int .i64 0)), none, []⟩] [0, 2, 3, 5, 8, 10, 21])
 (.cond (.t 21)
 (.seq (.region [⟨some 22, .build false (.arr 8 (.arr 64 .leaf) z8) [], none, []⟩,
 ⟨some 23, .mv (.t 10), none, []⟩,
 ⟨none, .store false (.arr 8 (.arr 64 .leaf)) (.t 8) (.t 22), none, []⟩,
 ⟨some 9, .mv (.t 23), none, []⟩] [8, 9])
 (.ret))
 (.skip))))
 (.seq (.region [⟨some 24, .mv (.t 0), none, []⟩,
 ⟨some 25, .load (.arr 64 .leaf) (.t 5), none, []⟩,
 ⟨some 26, .mv (.t 2), none, []⟩,
 ⟨some 27, .mv (.t 3), none, []⟩,
 ⟨some 28, .call .flat [] (.f F3w) [(.t 24), (.t 25), (.t 26), (.t 27)], none, []⟩,
 ⟨none, .store false (.arr 8 (.arr 64 .leaf)) (.t 8) (.t 28), none, []⟩,
 ⟨some 9, .mv (.c (.int .i64 0)), none, []⟩] [8, 9])
 (.ret)))
def Z32 : Fn :=
 { nparams := 4, nblk := 2, results := [.cell 8 (.arr 8 (.arr 64 .leaf)), .tmp 9], body := ir_spec_InterpolateSkew_B }
end Pe
