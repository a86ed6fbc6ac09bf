/-
  A part of the proof: an evaluator for a small form of the code, its soundness, and contracts of functions over it.
-/
import Derived.Test.YtjanjcnncilddaaGreatW1
import Derived.Test.YtjanjcnncilddaaGreatW2
import Derived.Test.YtjanjcnncilddaaGreatW3

/-
 Functions of the laws in the small form,printed by a program.
-/
namespace Pe
open Go
def Z29_L0:Cd:=
 .seq (.seq (.region [Lw 11 5,
 Lw 12 0,
 Ll 13 (.len false (.t 12)),
 Ll 14 (.bin .lss (.t 11) (.t 13))] [0,1,5,14])
 (.cond (.t 14)
 (.skip)
 (.exit 0)))
 (.seq (.block 1 (.seq (.region [Lw 17 0,
 Lw 18 5,
 Ll 19 (.idxA none (.arr 64 .leaf) (.t 17) (.t 18)),
 Ll 20 (.load (.arr 64 .leaf) (.t 19)),
 Lw 21 1,
 Lw 22 5,
 Ll 23 (.idxA none (.arr 64 .leaf) (.t 21) (.t 22)),
 Ll 24 (.load (.arr 64 .leaf) (.t 23)),
 Ll 25 (.eqv true (.arr 64 .leaf .int) (.t 20) (.t 24))] [0,1,5,25])
 (.cond (.t 25)
 (.seq (.region [Ll 4 (.mv (.c (.bool false)))] [4])
 (.ret))
 (.skip))))
 (.region [Lw 15 5,
 Ll 16 (.bin .add (.t 15) (.c (.int .i64 1))),
 Lw 5 16] [0,1,5]))
def Z29_B:Cd:=
 .seq (.region [Ll 4 (.mv (.c (.bool false)))] [0,1])
 (.seq (.seq (.region [Lw 6 0,
 Ll 7 (.len false (.t 6)),
 Lw 8 1,
 Ll 9 (.len false (.t 8)),
 Ll 10 (.bin .neq (.t 7) (.t 9))] [0,1,10])
 (.cond (.t 10)
 (.seq (.region [Ll 4 (.mv (.c (.bool false)))] [4])
 (.ret))
 (.skip)))
 (.seq (.seq (.region [Ll 5 (.mv (.c (.int .i64 0)))] [0,1,5])
 (.block 0 (.loop (Z29_L0))))
 (.seq (.region [Ll 4 (.mv (.c (.bool true)))] [4])
 (.ret))))
def Z29:Fn:=
 { nparams:=2,nblk:=0,results:=[.tmp 4],body:=Z29_B }
def Z25_B:Cd:=
 .seq (.region [Ll 2 (.mv (.c (.bool false)))] [0])
 (.seq (.seq (.region [Lw 60 0,
 Ll 61 (.call .flat [] (.f F26) [(.t 60)])] [0,61])
 (.cond (.t 61)
 (.seq (.region [Ll 2 (.mv (.c (.bool true)))] [2])
 (.ret))
 (.skip)))
 (.seq (.region [Lw 63 0,
 Ll 64 (.call .flat [] (.f F31) [(.t 63)]),
 Lw 62 64,
 Ll 65 (.ext (.t 62) 0),
 Ll 66 (.ext (.t 62) 1),
 Ll 3 (.box false 0 (.c (.st [.leaf,(.arr 64 .leaf),(.arr 64 .leaf),(.arr 64 .leaf)] [(.int .i64 0),(.arr 64 .leaf z64),(.arr 64 .leaf z64),(.arr 64 .leaf z64)]))),
 Ll 4 (.box false 1 (.c (.arr 64 .leaf z64))),
 Ls (.store false (.st [.leaf,(.arr 64 .leaf),(.arr 64 .leaf),(.arr 64 .leaf)]) (.t 3) (.t 65)),
 Ls (.store false (.arr 64 .leaf) (.t 4) (.t 66))] [0,3,4])
 (.seq (.region [Ll 68 (.load (.st [.leaf,(.arr 64 .leaf),(.arr 64 .leaf),(.arr 64 .leaf)]) (.t 3)),
 Ll 69 (.load (.arr 64 .leaf) (.t 4)),
 Ll 70 (.call .plain [] (.f F5) [(.t 68),(.t 69)]),
 Lw 67 70,
 Ll 71 (.ext (.t 67) 0),
 Ll 72 (.ext (.t 67) 1),
 Lw 5 71,
 Lw 6 72] [0,3,4,5,6])
 (.seq (.seq (.region [Ll 74 (.load (.st [.leaf,(.arr 64 .leaf),(.arr 64 .leaf),(.arr 64 .leaf)]) (.t 3)),
 Ll 75 (.load (.arr 64 .leaf) (.t 4)),
 Ll 76 (.call .plain [] (.f F36) [(.t 74),(.t 75)]),
 Lw 73 76,
 Ll 77 (.ext (.t 73) 0),
 Ll 78 (.ext (.t 73) 1),
 Lw 7 77,
 Lw 8 78] [0,3,5,6,7,8])
 (.seq (.region [Lw 79 6,
 Lw 80 8,
 Ll 81 (.bin .neq (.t 79) (.t 80)),
 Lw 82 81,
 Lx 83 5 82 false,
 Lx 84 7 82 false,
 Lg 85 (.call .flat [] (.f F29) [(.t 83),(.t 84)]) 82 false,
 Lg 86 (.un .not (.t 85)) 82 false,
 Ll 87 (.pick (.t 82) (.c (.bool true)) (.t 86)),
 Lw 88 87,
 Lg 89 (.load (.st [.leaf,(.arr 64 .leaf),(.arr 64 .leaf),(.arr 64 .leaf)]) (.t 3)) 88 false,
 Lg 90 (.call .flat [] (.f Ff) [(.t 89)]) 88 false,
 Lg 91 (.load (.st [.leaf,(.arr 64 .leaf),(.arr 64 .leaf),(.arr 64 .leaf)]) (.t 3)) 88 false,
 Lg 92 (.call .flat [] (.f F39) [(.t 91)]) 88 false,
 Lg 93 (.eqv true .bool (.t 90) (.t 92)) 88 false,
 Ll 94 (.pick (.t 88) (.c (.bool true)) (.t 93))] [0,94])
 (.cond (.t 94)
 (.seq (.region [Ll 2 (.mv (.c (.bool false)))] [2])
 (.ret))
 (.skip))))
 (.seq (.region [Lw 96 0,
 Ll 97 (.call .flat [] (.f F32) [(.t 96)]),
 Lw 95 97,
 Ll 98 (.ext (.t 95) 0),
 Ll 99 (.ext (.t 95) 1),
 Ll 100 (.ext (.t 95) 2),
 Ll 9 (.box false 2 (.c (.st [.leaf,(.arr 64 .leaf),(.arr 64 .leaf),(.arr 64 .leaf)] [(.int .i64 0),(.arr 64 .leaf z64),(.arr 64 .leaf z64),(.arr 64 .leaf z64)]))),
 Ll 10 (.box false 3 (.c (.arr 64 .leaf z64))),
 Ll 11 (.box false 4 (.c (.arr 64 .leaf z64))),
 Ls (.store false (.st [.leaf,(.arr 64 .leaf),(.arr 64 .leaf),(.arr 64 .leaf)]) (.t 9) (.t 98)),
 Ls (.store false (.arr 64 .leaf) (.t 10) (.t 99)),
 Ls (.store false (.arr 64 .leaf) (.t 11) (.t 100))] [0,9,10,11])
 (.seq (.region [Ll 102 (.load (.st [.leaf,(.arr 64 .leaf),(.arr 64 .leaf),(.arr 64 .leaf)]) (.t 9)),
 Ll 103 (.load (.arr 64 .leaf) (.t 10)),
 Ll 104 (.load (.arr 64 .leaf) (.t 11)),
 Ll 105 (.call .flat [] (.f F6) [(.t 102),(.t 103),(.t 104)]),
 Lw 101 105,
 Ll 106 (.ext (.t 101) 0),
 Ll 107 (.ext (.t 101) 1),
 Ll 12 (.box false 5 (.c (.arr 64 .leaf z64))),
 Ls (.store false (.arr 64 .leaf) (.t 12) (.t 106)),
 Lw 13 107] [0,9,10,11,12,13])
 (.seq (.seq (.region [Ll 109 (.load (.st [.leaf,(.arr 64 .leaf),(.arr 64 .leaf),(.arr 64 .leaf)]) (.t 9)),
 Ll 110 (.load (.arr 64 .leaf) (.t 10)),
 Ll 111 (.load (.arr 64 .leaf) (.t 11)),
 Ll 112 (.call .flat [] (.f F37) [(.t 109),(.t 110),(.t 111)]),
 Lw 108 112,
 Ll 113 (.ext (.t 108) 0),
 Ll 114 (.ext (.t 108) 1),
 Ll 14 (.box false 6 (.c (.arr 64 .leaf z64))),
 Ls (.store false (.arr 64 .leaf) (.t 14) (.t 113)),
 Lw 15 114] [0,9,10,11,12,13,14,15])
 (.seq (.region [Lw 115 13,
 Lw 116 15,
 Ll 117 (.bin .neq (.t 115) (.t 116)),
 Lw 118 117,
 Lg 119 (.load (.arr 64 .leaf) (.t 12)) 118 false,
 Lg 120 (.load (.arr 64 .leaf) (.t 14)) 118 false,
 Lg 121 (.eqv true (.arr 64 .leaf .int) (.t 119) (.t 120)) 118 false,
 Ll 122 (.pick (.t 118) (.c (.bool true)) (.t 121))] [0,9,10,11,12,13,122])
 (.cond (.t 122)
 (.seq (.region [Ll 2 (.mv (.c (.bool false)))] [2])
 (.ret))
 (.skip))))
 (.seq (.region [Lw 123 0,
 Ll 124 (.call .flat [] (.f F33) [(.t 123)]),
 Ll 16 (.box false 7 (.c (.st [.leaf,(.arr 64 .leaf),(.arr 64 .leaf),(.arr 64 .leaf)] [(.int .i64 0),(.arr 64 .leaf z64),(.arr 64 .leaf z64),(.arr 64 .leaf z64)]))),
 Ls (.store false (.st [.leaf,(.arr 64 .leaf),(.arr 64 .leaf),(.arr 64 .leaf)]) (.t 16) (.t 124))] [0,9,10,11,12,13,16])
 (.seq (.region [Ll 126 (.load (.st [.leaf,(.arr 64 .leaf),(.arr 64 .leaf),(.arr 64 .leaf)]) (.t 16)),
 Ll 127 (.call .flat [] (.f Fe) [(.t 126)]),
 Lw 125 127,
 Ll 128 (.ext (.t 125) 0),
 Ll 129 (.ext (.t 125) 1),
 Ll 17 (.box false 8 (.c (.arr 64 .leaf z64))),
 Ls (.store false (.arr 64 .leaf) (.t 17) (.t 128)),
 Lw 18 129] [0,9,10,11,12,13,16,17,18])
 (.seq (.seq (.region [Ll 131 (.load (.st [.leaf,(.arr 64 .leaf),(.arr 64 .leaf),(.arr 64 .leaf)]) (.t 16)),
 Ll 132 (.call .flat [] (.f F38) [(.t 131)]),
 Lw 130 132,
 Ll 133 (.ext (.t 130) 0),
 Ll 134 (.ext (.t 130) 1),
 Ll 19 (.box false 9 (.c (.arr 64 .leaf z64))),
 Ls (.store false (.arr 64 .leaf) (.t 19) (.t 133)),
 Lw 20 134] [0,9,10,11,12,13,17,18,19,20])
 (.seq (.region [Lw 135 18,
 Lw 136 20,
 Ll 137 (.bin .neq (.t 135) (.t 136)),
 Lw 138 137,
 Lg 139 (.load (.arr 64 .leaf) (.t 17)) 138 false,
 Lg 140 (.load (.arr 64 .leaf) (.t 19)) 138 false,
 Lg 141 (.eqv true (.arr 64 .leaf .int) (.t 139) (.t 140)) 138 false,
 Ll 142 (.pick (.t 138) (.c (.bool true)) (.t 141))] [0,9,10,11,12,13,142])
 (.cond (.t 142)
 (.seq (.region [Ll 2 (.mv (.c (.bool false)))] [2])
 (.ret))
 (.skip))))
 (.seq (.region [Lw 144 0,
 Ll 145 (.call .flat [] (.f F35) [(.t 144)]),
 Lw 143 145,
 Ll 146 (.ext (.t 143) 0),
 Ll 147 (.ext (.t 143) 1),
 Ll 21 (.box false 10 (.c (.st [.leaf,(.arr 64 .leaf),(.arr 64 .leaf),(.arr 64 .leaf)] [(.int .i64 0),(.arr 64 .leaf z64),(.arr 64 .leaf z64),(.arr 64 .leaf z64)]))),
 Ll 22 (.box false 11 (.c (.arr 64 .leaf z64))),
 Ls (.store false (.st [.leaf,(.arr 64 .leaf),(.arr 64 .leaf),(.arr 64 .leaf)]) (.t 21) (.t 146)),
 Ls (.store false (.arr 64 .leaf) (.t 22) (.t 147))] [0,9,10,11,12,13,21,22])
 (.seq (.region [Ll 149 (.load (.st [.leaf,(.arr 64 .leaf),(.arr 64 .leaf),(.arr 64 .leaf)]) (.t 21)),
 Ll 150 (.load (.arr 64 .leaf) (.t 22)),
 Ll 151 (.call .flat [] (.f Fj) [(.t 149),(.t 150)]),
 Lw 148 151,
 Ll 152 (.ext (.t 148) 0),
 Ll 153 (.ext (.t 148) 1),
 Ll 23 (.box false 12 (.c (.st [.leaf,(.arr 64 .leaf),(.arr 64 .leaf),(.arr 64 .leaf)] [(.int .i64 0),(.arr 64 .leaf z64),(.arr 64 .leaf z64),(.arr 64 .leaf z64)]))),
 Ls (.store false (.st [.leaf,(.arr 64 .leaf),(.arr 64 .leaf),(.arr 64 .leaf)]) (.t 23) (.t 152)),
 Lw 24 153] [0,9,10,11,12,13,21,22,23,24])
 (.seq (.seq (.region [Ll 155 (.load (.st [.leaf,(.arr 64 .leaf),(.arr 64 .leaf),(.arr 64 .leaf)]) (.t 21)),
 Ll 156 (.load (.arr 64 .leaf) (.t 22)),
 Ll 157 (.call .flat [] (.f F3b) [(.t 155),(.t 156)]),
 Lw 154 157,
 Ll 158 (.ext (.t 154) 0),
 Ll 159 (.ext (.t 154) 1),
 Ll 25 (.box false 13 (.c (.st [.leaf,(.arr 64 .leaf),(.arr 64 .leaf),(.arr 64 .leaf)] [(.int .i64 0),(.arr 64 .leaf z64),(.arr 64 .leaf z64),(.arr 64 .leaf z64)]))),
 Ls (.store false (.st [.leaf,(.arr 64 .leaf),(.arr 64 .leaf),(.arr 64 .leaf)]) (.t 25) (.t 158)),
 Lw 26 159] [0,9,10,11,12,13,21,23,24,25,26])
 (.seq (.region [Lw 160 24,
 Lw 161 26,
 Ll 162 (.bin .neq (.t 160) (.t 161)),
 Lw 163 162,
 Lg 164 (.load (.st [.leaf,(.arr 64 .leaf),(.arr 64 .leaf),(.arr 64 .leaf)]) (.t 23)) 163 false,
 Lg 165 (.load (.st [.leaf,(.arr 64 .leaf),(.arr 64 .leaf),(.arr 64 .leaf)]) (.t 25)) 163 false,
 Lg 166 (.eqv true (.st [.leaf,(.arr 64 .leaf),(.arr 64 .leaf),(.arr 64 .leaf)] [.int,(.arr 64 .leaf .int),(.arr 64 .leaf .int),(.arr 64 .leaf .int)]) (.t 164) (.t 165)) 163 false,
 Ll 167 (.pick (.t 163) (.c (.bool true)) (.t 166))] [0,9,10,11,12,13,21,23,24,167])
 (.cond (.t 167)
 (.seq (.region [Ll 2 (.mv (.c (.bool false)))] [2])
 (.ret))
 (.skip))))
 (.seq (.region [Lw 169 0,
 Ll 170 (.call .flat [] (.f F30) [(.t 169)]),
 Lw 168 170,
 Ll 171 (.ext (.t 168) 0),
 Ll 172 (.ext (.t 168) 1),
 Ll 27 (.box false 14 (.c (.st [.leaf,(.arr 64 .leaf),(.arr 64 .leaf),(.arr 64 .leaf)] [(.int .i64 0),(.arr 64 .leaf z64),(.arr 64 .leaf z64),(.arr 64 .leaf z64)]))),
 Ll 28 (.box false 15 (.c (.st [.leaf,(.arr 64 .leaf),(.arr 64 .leaf),(.arr 64 .leaf)] [(.int .i64 0),(.arr 64 .leaf z64),(.arr 64 .leaf z64),(.arr 64 .leaf z64)]))),
 Ls (.store false (.st [.leaf,(.arr 64 .leaf),(.arr 64 .leaf),(.arr 64 .leaf)]) (.t 27) (.t 171)),
 Ls (.store false (.st [.leaf,(.arr 64 .leaf),(.arr 64 .leaf),(.arr 64 .leaf)]) (.t 28) (.t 172))] [0,9,10,11,12,13,21,23,24,27,28])
 (.seq (.region [Ll 174 (.load (.st [.leaf,(.arr 64 .leaf),(.arr 64 .leaf),(.arr 64 .leaf)]) (.t 27)),
 Ll 175 (.load (.st [.leaf,(.arr 64 .leaf),(.arr 64 .leaf),(.arr 64 .leaf)]) (.t 28)),
 Ll 176 (.call .flat [] (.f F4) [(.t 174),(.t 175)]),
 Lw 173 176,
 Ll 177 (.ext (.t 173) 0),
 Ll 178 (.ext (.t 173) 1),
 Lw 29 177,
 Lw 30 178] [0,9,10,11,12,13,21,23,24,27,28,29,30])
 (.seq (.seq (.region [Ll 180 (.load (.st [.leaf,(.arr 64 .leaf),(.arr 64 .leaf),(.arr 64 .leaf)]) (.t 27)),
 Ll 181 (.load (.st [.leaf,(.arr 64 .leaf),(.arr 64 .leaf),(.arr 64 .leaf)]) (.t 28)),
 Ll 182 (.call .flat [] (.f F2z) [(.t 180),(.t 181)]),
 Lw 179 182,
 Ll 183 (.ext (.t 179) 0),
 Ll 184 (.ext (.t 179) 1),
 Lw 31 183,
 Lw 32 184] [0,9,10,11,12,13,21,23,24,29,30,31,32])
 (.seq (.region [Lw 185 30,
 Lw 186 32,
 Ll 187 (.bin .neq (.t 185) (.t 186)),
 Lw 188 187,
 Lx 189 29 188 false,
 Lx 190 31 188 false,
 Lg 191 (.eqv true .bool (.t 189) (.t 190)) 188 false,
 Ll 192 (.pick (.t 188) (.c (.bool true)) (.t 191))] [0,9,10,11,12,13,21,23,24,192])
 (.cond (.t 192)
 (.seq (.region [Ll 2 (.mv (.c (.bool false)))] [2])
 (.ret))
 (.skip))))
 (.seq (.region [Lw 194 0,
 Ll 195 (.call .plain [] (.f F34) [(.t 194)]),
 Lw 193 195,
 Ll 196 (.ext (.t 193) 0),
 Ll 197 (.ext (.t 193) 1),
 Ll 198 (.ext (.t 193) 2),
 Ll 33 (.box false 16 (.c (.st [.leaf,(.arr 64 .leaf),(.arr 64 .leaf),(.arr 64 .leaf)] [(.int .i64 0),(.arr 64 .leaf z64),(.arr 64 .leaf z64),(.arr 64 .leaf z64)]))),
 Ll 34 (.box false 17 (.c (.st [.leaf,(.arr 64 .leaf),(.arr 64 .leaf),(.arr 64 .leaf)] [(.int .i64 0),(.arr 64 .leaf z64),(.arr 64 .leaf z64),(.arr 64 .leaf z64)]))),
 Ls (.store false (.st [.leaf,(.arr 64 .leaf),(.arr 64 .leaf),(.arr 64 .leaf)]) (.t 33) (.t 196)),
 Ls (.store false (.st [.leaf,(.arr 64 .leaf),(.arr 64 .leaf),(.arr 64 .leaf)]) (.t 34) (.t 197)),
 Lw 35 198] [0,9,10,11,12,13,21,23,24,33,34,35])
 (.seq (.region [Ll 200 (.load (.st [.leaf,(.arr 64 .leaf),(.arr 64 .leaf),(.arr 64 .leaf)]) (.t 33)),
 Ll 201 (.load (.st [.leaf,(.arr 64 .leaf),(.arr 64 .leaf),(.arr 64 .leaf)]) (.t 34)),
 Lw 202 35,
 Ll 203 (.call .flat [] (.f Fg) [(.t 200),(.t 201),(.t 202)]),
 Lw 199 203,
 Ll 204 (.ext (.t 199) 0),
 Ll 205 (.ext (.t 199) 1),
 Lw 36 204,
 Lw 37 205] [0,9,10,11,12,13,21,23,24,33,34,35,36,37])
 (.seq (.seq (.region [Ll 207 (.load (.st [.leaf,(.arr 64 .leaf),(.arr 64 .leaf),(.arr 64 .leaf)]) (.t 33)),
 Ll 208 (.load (.st [.leaf,(.arr 64 .leaf),(.arr 64 .leaf),(.arr 64 .leaf)]) (.t 34)),
 Lw 209 35,
 Ll 210 (.call .flat [] (.f F3a) [(.t 207),(.t 208),(.t 209)]),
 Lw 206 210,
 Ll 211 (.ext (.t 206) 0),
 Ll 212 (.ext (.t 206) 1),
 Lw 38 211,
 Lw 39 212] [0,9,10,11,12,13,21,23,24,36,37,38,39])
 (.seq (.region [Lw 213 37,
 Lw 214 39,
 Ll 215 (.bin .neq (.t 213) (.t 214)),
 Lw 216 215,
 Lx 217 36 216 false,
 Lx 218 38 216 false,
 Lg 219 (.eqv true .bool (.t 217) (.t 218)) 216 false,
 Ll 220 (.pick (.t 216) (.c (.bool true)) (.t 219))] [0,9,10,11,12,13,21,23,24,220])
 (.cond (.t 220)
 (.seq (.region [Ll 2 (.mv (.c (.bool false)))] [2])
 (.ret))
 (.skip))))
 (.seq (.seq (.region [Lw 221 24,
 Ll 222 (.bin .eql (.t 221) (.c (.int .i64 0)))] [0,9,10,11,12,13,21,23,222])
 (.cond (.t 222)
 (.seq (.region [Ll 224 (.load (.st [.leaf,(.arr 64 .leaf),(.arr 64 .leaf),(.arr 64 .leaf)]) (.t 21)),
 Ll 225 (.call .flat [] (.f Fe) [(.t 224)]),
 Lw 223 225,
 Ll 226 (.ext (.t 223) 0),
 Ll 227 (.ext (.t 223) 1),
 Ll 40 (.box false 18 (.c (.arr 64 .leaf z64))),
 Ls (.store false (.arr 64 .leaf) (.t 40) (.t 226)),
 Lw 41 227] [0,9,10,11,12,13,21,23,40,41])
 (.seq (.region [Ll 229 (.load (.st [.leaf,(.arr 64 .leaf),(.arr 64 .leaf),(.arr 64 .leaf)]) (.t 23)),
 Ll 230 (.call .flat [] (.f Fe) [(.t 229)]),
 Lw 228 230,
 Ll 231 (.ext (.t 228) 0),
 Ll 232 (.ext (.t 228) 1),
 Ll 42 (.box false 19 (.c (.arr 64 .leaf z64))),
 Ls (.store false (.arr 64 .leaf) (.t 42) (.t 231)),
 Lw 43 232] [0,9,10,11,12,13,21,23,40,41,42,43])
 (.seq (.region [Ll 234 (.load (.st [.leaf,(.arr 64 .leaf),(.arr 64 .leaf),(.arr 64 .leaf)]) (.t 21)),
 Ll 235 (.load (.st [.leaf,(.arr 64 .leaf),(.arr 64 .leaf),(.arr 64 .leaf)]) (.t 23)),
 Ll 236 (.call .flat [] (.f F4) [(.t 234),(.t 235)]),
 Lw 233 236,
 Ll 237 (.ext (.t 233) 0),
 Ll 238 (.ext (.t 233) 1),
 Lw 44 237,
 Lw 45 238] [0,9,10,11,12,13,21,23,40,41,42,43,44,45])
 (.seq (.region [Ll 240 (.load (.st [.leaf,(.arr 64 .leaf),(.arr 64 .leaf),(.arr 64 .leaf)]) (.t 21)),
 Ll 241 (.call .flat [] (.f Fc) [(.t 240)]),
 Lw 239 241,
 Ll 242 (.ext (.t 239) 0),
 Ll 243 (.ext (.t 239) 1),
 Ll 244 (.ext (.t 239) 2),
 Ll 46 (.box false 20 (.c (.arr 64 .leaf z64))),
 Ll 47 (.box false 21 (.c (.arr 64 .leaf z64))),
 Ls (.store false (.arr 64 .leaf) (.t 46) (.t 242)),
 Ls (.store false (.arr 64 .leaf) (.t 47) (.t 243)),
 Lw 48 244] [0,9,10,11,12,13,23,40,41,42,43,44,45,46,47,48])
 (.seq (.region [Ll 246 (.load (.st [.leaf,(.arr 64 .leaf),(.arr 64 .leaf),(.arr 64 .leaf)]) (.t 23)),
 Ll 247 (.call .flat [] (.f Fc) [(.t 246)]),
 Lw 245 247,
 Ll 248 (.ext (.t 245) 0),
 Ll 249 (.ext (.t 245) 1),
 Ll 250 (.ext (.t 245) 2),
 Ll 49 (.box false 22 (.c (.arr 64 .leaf z64))),
 Ll 50 (.box false 23 (.c (.arr 64 .leaf z64))),
 Ls (.store false (.arr 64 .leaf) (.t 49) (.t 248)),
 Ls (.store false (.arr 64 .leaf) (.t 50) (.t 249)),
 Lw 51 250] [0,9,10,11,12,13,40,41,42,43,44,45,46,47,48,49,50,51])
 (.seq (.region [Lw 251 41,
 Ll 252 (.bin .neq (.t 251) (.c (.int .i64 0))),
 Lw 253 252,
 Lx 254 43 253 false,
 Lg 255 (.bin .neq (.t 254) (.c (.int .i64 0))) 253 false,
 Ll 256 (.pick (.t 253) (.c (.bool true)) (.t 255)),
 Lw 257 256,
 Lg 258 (.load (.arr 64 .leaf) (.t 40)) 257 false,
 Lg 259 (.load (.arr 64 .leaf) (.t 42)) 257 false,
 Lg 260 (.eqv true (.arr 64 .leaf .int) (.t 258) (.t 259)) 257 false,
 Ll 261 (.pick (.t 257) (.c (.bool true)) (.t 260)),
 Lw 262 261,
 Lx 263 45 262 false,
 Lg 264 (.bin .neq (.t 263) (.c (.int .i64 0))) 262 false,
 Ll 265 (.pick (.t 262) (.c (.bool true)) (.t 264)),
 Lw 266 265,
 Lx 267 44 266 false,
 Lg 268 (.un .not (.t 267)) 266 false,
 Ll 269 (.pick (.t 266) (.c (.bool true)) (.t 268)),
 Lw 270 269,
 Lx 271 48 270 false,
 Lg 272 (.bin .neq (.t 271) (.c (.int .i64 0))) 270 false,
 Ll 273 (.pick (.t 270) (.c (.bool true)) (.t 272)),
 Lw 274 273,
 Lx 275 51 274 false,
 Lg 276 (.bin .neq (.t 275) (.c (.int .i64 0))) 274 false,
 Ll 277 (.pick (.t 274) (.c (.bool true)) (.t 276)),
 Lw 278 277,
 Lg 279 (.load (.arr 64 .leaf) (.t 46)) 278 false,
 Lg 280 (.load (.arr 64 .leaf) (.t 49)) 278 false,
 Lg 281 (.eqv true (.arr 64 .leaf .int) (.t 279) (.t 280)) 278 false,
 Ll 282 (.pick (.t 278) (.c (.bool true)) (.t 281)),
 Lw 283 282,
 Lg 284 (.load (.arr 64 .leaf) (.t 47)) 283 false,
 Lg 285 (.load (.arr 64 .leaf) (.t 50)) 283 false,
 Lg 286 (.eqv true (.arr 64 .leaf .int) (.t 284) (.t 285)) 283 false,
 Ll 287 (.pick (.t 283) (.c (.bool true)) (.t 286))] [0,9,10,11,12,13,287])
 (.cond (.t 287)
 (.seq (.region [Ll 2 (.mv (.c (.bool false)))] [2])
 (.ret))
 (.skip))))))))
 (.skip)))
 (.seq (.seq (.region [Lw 288 13,
 Ll 289 (.bin .neq (.t 288) (.c (.int .i64 0)))] [0,9,10,11,12,289])
 (.cond (.t 289)
 (.seq (.region [Ll 290 (.load (.arr 64 .leaf) (.t 12)),
 Ll 291 (.build false (.arr 64 .leaf z64) []),
 Ll 292 (.eqv false (.arr 64 .leaf .int) (.t 290) (.t 291)),
 Lw 2 292] [2])
 (.ret))
 (.skip)))
 (.seq (.region [Lw 293 0,
 Ll 294 (.call .heap [24] (.f F2a) [(.t 293),(.c (.int .u64 9906))]),
 Lw 52 294] [9,10,11,12,52])
 (.seq (.region [Lw 295 52,
 Ll 296 (.fldA [.leaf,(.arr 64 .leaf),(.arr 64 .leaf),(.arr 64 .leaf)] (.t 9) 0),
 Ll 297 (.load .leaf (.t 296)),
 Ll 298 (.call .heap [] (.f F28) [(.t 295),(.t 297),(.c (.int .i64 2))]),
 Ll 53 (.box false 25 (.c (.arr 64 .leaf z64))),
 Ls (.store false (.arr 64 .leaf) (.t 53) (.t 298))] [9,10,11,12,53])
 (.seq (.region [Ll 300 (.load (.st [.leaf,(.arr 64 .leaf),(.arr 64 .leaf),(.arr 64 .leaf)]) (.t 9)),
 Ll 301 (.load (.arr 64 .leaf) (.t 53)),
 Ll 302 (.load (.arr 64 .leaf) (.t 12)),
 Ll 303 (.call .flat [] (.f F6) [(.t 300),(.t 301),(.t 302)]),
 Lw 299 303,
 Ll 304 (.ext (.t 299) 0),
 Ll 305 (.ext (.t 299) 1),
 Ll 54 (.box false 26 (.c (.arr 64 .leaf z64))),
 Ls (.store false (.arr 64 .leaf) (.t 54) (.t 304)),
 Lw 55 305] [9,10,11,53,54,55])
 (.seq (.region [Ll 307 (.fldA [.leaf,(.arr 64 .leaf),(.arr 64 .leaf),(.arr 64 .leaf)] (.t 9) 0),
 Ll 308 (.load .leaf (.t 307)),
 Ll 309 (.load (.arr 64 .leaf) (.t 10)),
 Ll 310 (.load (.arr 64 .leaf) (.t 53)),
 Ll 311 (.call .flat [] (.f Fi) [(.t 308),(.t 309),(.t 310)]),
 Lw 306 311,
 Ll 312 (.ext (.t 306) 0),
 Ll 313 (.ext (.t 306) 1),
 Ll 56 (.box false 27 (.c (.arr 64 .leaf z64))),
 Ls (.store false (.arr 64 .leaf) (.t 56) (.t 312)),
 Lw 57 313] [9,11,54,55,56,57])
 (.seq (.region [Ll 315 (.load (.st [.leaf,(.arr 64 .leaf),(.arr 64 .leaf),(.arr 64 .leaf)]) (.t 9)),
 Ll 316 (.load (.arr 64 .leaf) (.t 56)),
 Ll 317 (.load (.arr 64 .leaf) (.t 11)),
 Ll 318 (.call .flat [] (.f F6) [(.t 315),(.t 316),(.t 317)]),
 Lw 314 318,
 Ll 319 (.ext (.t 314) 0),
 Ll 320 (.ext (.t 314) 1),
 Ll 58 (.box false 28 (.c (.arr 64 .leaf z64))),
 Ls (.store false (.arr 64 .leaf) (.t 58) (.t 319)),
 Lw 59 320] [54,55,57,58,59])
 (.seq (.region [Lw 321 55,
 Ll 322 (.bin .eql (.t 321) (.c (.int .i64 0))),
 Lw 323 322,
 Lx 324 57 323 true,
 Lg 325 (.bin .neq (.t 324) (.c (.int .i64 0))) 323 true,
 Lx 326 325 323 true,
 Lx 327 59 326 false,
 Lg 328 (.bin .eql (.t 327) (.c (.int .i64 0))) 326 false,
 Lx 329 328 326 false,
 Lg 330 (.load (.arr 64 .leaf) (.t 58)) 329 true,
 Lg 331 (.load (.arr 64 .leaf) (.t 54)) 329 true,
 Lg 332 (.eqv false (.arr 64 .leaf .int) (.t 330) (.t 331)) 329 true,
 Lg 333 (.pick (.t 329) (.t 332) (.c (.bool false))) 326 false,
 Lg 334 (.pick (.t 326) (.c (.bool true)) (.t 333)) 323 true,
 Ll 335 (.pick (.t 323) (.t 334) (.c (.bool false))),
 Lw 2 335] [2])
 (.ret))))))))))))))))))))))))))))
def Z25:Fn:=
 { nparams:=1,nblk:=29,results:=[.tmp 2],body:=Z25_B }
end Pe

/-
 Functions of the program in the small form,printed by a program.
-/
namespace Pe
open Go
def Zx_B:Cd:=
 .seq (.region [Ll 2 (.box false 0 (.t 0)),
 Ll 3 (.box false 1 (.t 1)),
 Ll 4 (.mv (.c (.bool false)))] [2,3])
 (.seq (.region [Ll 5 (.fldA [.leaf,.leaf] (.t 2) 0),
 Ll 6 (.load .leaf (.t 5)),
 Ll 7 (.load (.arr 64 .leaf) (.t 3)),
 Ll 8 (.call .flat [] (.f F13) [(.t 6),(.t 7)]),
 Lw 9 8,
 Lg 10 (.load (.arr 64 .leaf) (.t 3)) 9 true,
 Lg 11 (.call .plain [] (.f F1s) [(.t 10)]) 9 true,
 Lg 12 (.call .flat [] (.f F1u) [(.t 11)]) 9 true,
 Lg 13 (.fldA [.leaf,.leaf] (.t 2) 1) 9 true,
 Lg 14 (.load .leaf (.t 13)) 9 true,
 Lg 15 (.call .flat [] (.f F1u) [(.t 14)]) 9 true,
 Lg 16 (.bin .lss (.t 12) (.t 15)) 9 true,
 Ll 17 (.pick (.t 9) (.t 16) (.c (.bool false))),
 Lw 4 17] [4])
 (.ret))
def Zx:Fn:=
 { nparams:=2,nblk:=2,results:=[.tmp 4],body:=Zx_B }
def Zt_B:Cd:=
 .seq (.region [Ll 3 (.box false 0 (.t 1)),
 Ll 4 (.box false 1 (.c (.st [.leaf,.leaf] [(.int .i64 0),(.sl .leaf [])])))] [0,3,4])
 (.seq (.region [Lw 5 0,
 Ll 6 (.load (.arr 64 .leaf) (.t 3)),
 Ll 7 (.call .plain [] (.f F1s) [(.t 6)]),
 Ll 8 (.build false (.st [.leaf,.leaf] [(.int .i64 0),(.sl .leaf [])]) [(0,(.t 5)),(1,(.t 7))]),
 Ls (.store false (.st [.leaf,.leaf]) (.t 4) (.t 8))] [4])
 (.ret))
def Zt:Fn:=
 { nparams:=2,nblk:=2,results:=[.cell 4 (.st [.leaf,.leaf])],body:=Zt_B }
def Z12_B:Cd:=
 .seq (.region [Ll 3 (.box false 0 (.t 1)),
 Ll 4 (.mv (.c (.bool false)))] [0,3])
 (.seq (.region [Ll 6 (.load (.arr 64 .leaf) (.t 3)),
 Ll 7 (.call .plain [] (.f F1s) [(.t 6)]),
 Lw 5 7] [0,3,5])
 (.seq (.region [Lw 8 0,
 Ll 9 (.load (.arr 64 .leaf) (.t 3)),
 Ll 10 (.call .flat [] (.f Fh) [(.t 8),(.t 9)]),
 Lw 11 10,
 Lx 12 5 11 true,
 Lg 13 (.call .flat [] (.f F1u) [(.t 12)]) 11 true,
 Lg 14 (.call .flat [] (.f F24) [(.t 13),(.c (.int .i64 1)),(.c (.int .i64 4))]) 11 true,
 Ll 15 (.pick (.t 11) (.t 14) (.c (.bool false))),
 Lw 16 15,
 Lx 17 0 16 true,
 Lx 18 5 16 true,
 Lg 19 (.call .flat [] (.f F1i) [(.t 17),(.t 18)]) 16 true,
 Ll 20 (.pick (.t 16) (.t 19) (.c (.bool false))),
 Lw 4 20] [4])
 (.ret)))
def Z12:Fn:=
 { nparams:=2,nblk:=1,results:=[.tmp 4],body:=Z12_B }
def Z10_B:Cd:=
 .seq (.region [Ll 3 (.box false 0 (.t 0)),
 Ll 6 (.mv (.c (.sl .leaf [])))] [1,2,3])
 (.seq (.region [Ll 7 (.fldA [.leaf,.leaf] (.t 3) 0),
 Ll 8 (.load .leaf (.t 7)),
 Ll 9 (.fldA [.leaf,.leaf] (.t 3) 0),
 Ll 10 (.load .leaf (.t 9)),
 Lw 11 1,
 Lw 12 2,
 Ll 13 (.call .plain [] (.f F1q) [(.t 10),(.t 11),(.t 12)]),
 Ll 14 (.fldA [.leaf,.leaf] (.t 3) 1),
 Ll 15 (.load .leaf (.t 14)),
 Ll 16 (.call .plain [] (.f F1n) [(.t 8),(.t 13),(.t 15)]),
 Lw 6 16] [6])
 (.ret))
def Z10:Fn:=
 { nparams:=3,nblk:=1,results:=[.tmp 6],body:=Z10_B }
def Zw_B:Cd:=
 .seq (.region [Ll 2 (.box false 0 (.t 0)),
 Ll 4 (.mv (.c (.sl .leaf [])))] [1,2])
 (.seq (.region [Ll 9 (.fldA [.leaf,.leaf] (.t 2) 0),
 Ll 10 (.load .leaf (.t 9)),
 Lw 11 1,
 Ll 12 (.fldA [.leaf,.leaf] (.t 2) 1),
 Ll 13 (.load .leaf (.t 12)),
 Ll 14 (.call .plain [] (.f F1b) [(.t 10),(.t 11),(.t 13)]),
 Lw 8 14,
 Ll 15 (.ext (.t 8) 0),
 Ll 16 (.ext (.t 8) 1),
 Ll 17 (.ext (.t 8) 2),
 Lw 5 15,
 Lw 6 16,
 Lw 7 17] [2,6])
 (.seq (.region [Ll 18 (.fldA [.leaf,.leaf] (.t 2) 0),
 Ll 19 (.load .leaf (.t 18)),
 Lw 20 6,
 Ll 21 (.fldA [.leaf,.leaf] (.t 2) 1),
 Ll 22 (.load .leaf (.t 21)),
 Ll 23 (.call .plain [] (.f F1n) [(.t 19),(.t 20),(.t 22)]),
 Lw 4 23] [4])
 (.ret)))
def Zw:Fn:=
 { nparams:=2,nblk:=1,results:=[.tmp 4],body:=Zw_B }
def Zv_L0:Cd:=
 .seq (.region [Ll 13 (.bin .lss (.t 12) (.t 11))] [1,3,11,12,13])
 (.seq (.cond (.t 13)
 (.skip)
 (.exit 0))
 (.seq (.block 1 (.region [Ll 14 (.fldA [.leaf,.leaf] (.t 3) 0),
 Ll 15 (.load .leaf (.t 14)),
 Lw 16 1,
 Ll 17 (.fldA [.leaf,.leaf] (.t 3) 0),
 Ll 18 (.load .leaf (.t 17)),
 Ll 19 (.fldA [.leaf,.leaf] (.t 3) 1),
 Ll 20 (.load .leaf (.t 19)),
 Ll 21 (.call .plain [] (.f F1l) [(.t 15),(.t 16),(.t 18),(.t 20)]),
 Lw 1 21] [1,3,11,12]))
 (.region [Ll 22 (.bin .add (.t 12) (.c (.int .i64 1))),
 Lw 12 22] [1,3,11,12])))
def Zv_B:Cd:=
 .seq (.region [Ll 3 (.box false 0 (.t 0)),
 Ll 6 (.mv (.c (.sl .leaf [])))] [1,2,3])
 (.seq (.seq (.region [Lw 7 2,
 Ll 8 (.fldA [.leaf,.leaf] (.t 3) 1),
 Ll 9 (.load .leaf (.t 8)),
 Ll 10 (.call .flat [] (.f F1u) [(.t 9)]),
 Ll 11 (.bin .rem (.t 7) (.t 10)),
 Ll 12 (.mv (.c (.int .i64 0)))] [1,3,11,12])
 (.block 0 (.loop (Zv_L0))))
 (.seq (.region [Lw 23 1,
 Lw 6 23] [6])
 (.ret)))
def Zv:Fn:=
 { nparams:=3,nblk:=1,results:=[.tmp 6],body:=Zv_B }
def Z11_L0:Cd:=
 .seq (.region [Ll 13 (.bin .lss (.t 12) (.t 11))] [2,3,7,10,11,12,13])
 (.seq (.cond (.t 13)
 (.skip)
 (.exit 0))
 (.seq (.block 1 (.seq (.region [Lw 14 12,
 Ll 15 (.idxA none .leaf (.t 10) (.t 12)),
 Ll 16 (.load .leaf (.t 15)),
 Lw 8 14,
 Lw 9 16] [2,3,7,8,9,10,11,12])
 (.region [Ll 17 (.fldA [.leaf,.leaf] (.t 3) 0),
 Ll 18 (.load .leaf (.t 17)),
 Lw 19 7,
 Ll 20 (.load (.st [.leaf,.leaf]) (.t 3)),
 Lw 21 9,
 Ll 22 (.load (.st [.leaf,.leaf]) (.t 3)),
 Lw 23 2,
 Lw 24 8,
 Ll 25 (.call .plain [] (.f Fv) [(.t 22),(.t 23),(.t 24)]),
 Ll 26 (.call .plain [] (.f F10) [(.t 20),(.t 21),(.t 25)]),
 Ll 27 (.call .plain [] (.f F1c) [(.t 18),(.t 19),(.t 26),(.c (.int .i64 1))]),
 Lw 7 27] [2,3,7,10,11,12])))
 (.region [Ll 28 (.bin .add (.t 12) (.c (.int .i64 1))),
 Lw 12 28] [2,3,7,10,11,12])))
def Z11_B:Cd:=
 .seq (.region [Ll 3 (.box false 0 (.t 0)),
 Ll 6 (.mv (.c (.sl .leaf [])))] [1,2,3])
 (.seq (.region [Ll 7 (.mv (.c (.sl .leaf [])))] [1,2,3,7])
 (.seq (.seq (.region [Lw 10 1,
 Ll 11 (.len false (.t 10)),
 Ll 12 (.mv (.c (.int .i64 0)))] [2,3,7,10,11,12])
 (.block 0 (.loop (Z11_L0))))
 (.seq (.region [Lw 29 7,
 Lw 6 29] [6])
 (.ret))))
def Z11:Fn:=
 { nparams:=3,nblk:=1,results:=[.tmp 6],body:=Z11_B }
def Z22_L0:Cd:=
 .seq (.seq (.region [Lw 6 3,
 Ll 7 (.bin .gtr (.t 6) (.c (.int .i64 0))),
 Lw 8 7,
 Lx 9 0 8 true,
 Lx 10 3 8 true,
 Lg 11 (.bin .sub (.t 10) (.c (.int .i64 1))) 8 true,
 Lg 12 (.idxA none .leaf (.t 9) (.t 11)) 8 true,
 Lg 13 (.load .leaf (.t 12)) 8 true,
 Lg 14 (.len false (.t 13)) 8 true,
 Lg 15 (.bin .eql (.t 14) (.c (.int .i64 0))) 8 true,
 Ll 16 (.pick (.t 8) (.t 15) (.c (.bool false)))] [0,3,16])
 (.cond (.t 16)
 (.skip)
 (.exit 0)))
 (.block 1 (.region [Lw 17 3,
 Ll 18 (.bin .sub (.t 17) (.c (.int .i64 1))),
 Lw 3 18] [0,3]))
def Z22_B:Cd:=
 .seq (.region [Ll 2 (.mv (.c (.sl .leaf [])))] [0])
 (.seq (.region [Lw 4 0,
 Ll 5 (.len false (.t 4)),
 Lw 3 5] [0,3])
 (.seq (.block 0 (.loop (Z22_L0)))
 (.seq (.region [Lw 19 0,
 Lw 20 3,
 Lw 21 3,
 Ll 22 (.cut none .leaf (.t 19) none (some (.t 20)) (some (.t 21))),
 Lw 2 22] [2])
 (.ret))))
def Z22:Fn:=
 { nparams:=1,nblk:=0,results:=[.tmp 2],body:=Z22_B }
def Zu_L0:Cd:=
 .seq (.region [Ll 37 (.bin .lss (.t 36) (.t 35))] [2,3,7,8,9,27,28,29,34,35,36,37])
 (.seq (.cond (.t 37)
 (.skip)
 (.exit 2))
 (.seq (.block 3 (.seq (.region [Lw 38 36,
 Ll 39 (.idxA none .leaf (.t 34) (.t 36)),
 Ll 40 (.load .leaf (.t 39)),
 Lw 10 38,
 Lw 11 40] [2,3,7,8,9,10,11,27,28,29,34,35,36])
 (.region [Lw 41 7,
 Lw 42 8,
 Lw 43 10,
 Ll 44 (.bin .add (.t 42) (.t 43)),
 Ll 45 (.fldA [.leaf,.leaf] (.t 3) 0),
 Ll 46 (.load .leaf (.t 45)),
 Lw 47 7,
 Lw 48 8,
 Lw 49 10,
 Ll 50 (.bin .add (.t 48) (.t 49)),
 Ll 51 (.idxA none .leaf (.t 47) (.t 50)),
 Ll 52 (.load .leaf (.t 51)),
 Ll 53 (.load (.st [.leaf,.leaf]) (.t 3)),
 Lw 54 9,
 Ll 55 (.load (.st [.leaf,.leaf]) (.t 3)),
 Lw 56 11,
 Lw 57 8,
 Ll 58 (.call .plain [] (.f Fv) [(.t 55),(.t 56),(.t 57)]),
 Ll 59 (.call .plain [] (.f F10) [(.t 53),(.t 54),(.t 58)]),
 Ll 60 (.call .plain [] (.f F1c) [(.t 46),(.t 52),(.t 59),(.c (.int .i64 1))]),
 Ll 61 (.idxA none .leaf (.t 41) (.t 44)),
 Ls (.store false .leaf (.t 61) (.t 60))] [2,3,7,8,9,27,28,29,34,35,36])))
 (.region [Ll 62 (.bin .add (.t 36) (.c (.int .i64 1))),
 Lw 36 62] [2,3,7,8,9,27,28,29,34,35,36])))
def Zu_L1:Cd:=
 .seq (.region [Ll 30 (.bin .lss (.t 29) (.t 28))] [2,3,7,27,28,29,30])
 (.seq (.cond (.t 30)
 (.skip)
 (.exit 0))
 (.seq (.block 1 (.seq (.region [Lw 31 29,
 Ll 32 (.idxA none .leaf (.t 27) (.t 29)),
 Ll 33 (.load .leaf (.t 32)),
 Lw 8 31,
 Lw 9 33] [2,3,7,8,9,27,28,29])
 (.seq (.region [Lw 34 2,
 Ll 35 (.len false (.t 34)),
 Ll 36 (.mv (.c (.int .i64 0)))] [2,3,7,8,9,27,28,29,34,35,36])
 (.block 2 (.loop (Zu_L0))))))
 (.region [Ll 63 (.bin .add (.t 29) (.c (.int .i64 1))),
 Lw 29 63] [2,3,7,27,28,29])))
def Zu_B:Cd:=
 .seq (.region [Ll 3 (.box false 0 (.t 0)),
 Ll 6 (.mv (.c (.sl .leaf [])))] [1,2,3])
 (.seq (.seq (.region [Lw 12 1,
 Ll 13 (.len false (.t 12)),
 Ll 14 (.bin .eql (.t 13) (.c (.int .i64 0))),
 Lw 15 14,
 Lx 16 2 15 false,
 Lg 17 (.len false (.t 16)) 15 false,
 Lg 18 (.bin .eql (.t 17) (.c (.int .i64 0))) 15 false,
 Ll 19 (.pick (.t 15) (.c (.bool true)) (.t 18))] [1,2,3,19])
 (.cond (.t 19)
 (.seq (.region [Ll 6 (.mv (.c (.sl .leaf [])))] [6])
 (.ret))
 (.skip)))
 (.seq (.region [Lw 20 1,
 Ll 21 (.len false (.t 20)),
 Lw 22 2,
 Ll 23 (.len false (.t 22)),
 Ll 24 (.bin .add (.t 21) (.t 23)),
 Ll 25 (.bin .sub (.t 24) (.c (.int .i64 1))),
 Ll 26 (.mkSl 1 .leaf (.sl .leaf []) 24 (.t 25) (.t 25)),
 Lw 7 26] [1,2,3,7])
 (.seq (.seq (.region [Lw 27 1,
 Ll 28 (.len false (.t 27)),
 Ll 29 (.mv (.c (.int .i64 0)))] [2,3,7,27,28,29])
 (.block 0 (.loop (Zu_L1))))
 (.seq (.region [Lw 64 7,
 Ll 65 (.call .data [] (.f F22) [(.t 64)]),
 Lw 6 65] [6])
 (.ret)))))
def Zu:Fn:=
 { nparams:=3,nblk:=2,results:=[.tmp 6],body:=Zu_B }
def Z20_B:Cd:=
 .seq (.region [Ll 4 (.mv (.c (.sl .leaf [])))] [0,1])
 (.seq (.region [Lw 6 1,
 Ll 7 (.bin .add (.t 6) (.c (.int .i64 1))),
 Ll 8 (.mkSl 0 .leaf (.sl .leaf []) 24 (.t 7) (.t 7)),
 Lw 5 8] [0,1,5])
 (.seq (.region [Lw 9 5,
 Lw 10 1,
 Lw 11 0,
 Ll 12 (.idxA none .leaf (.t 9) (.t 10)),
 Ls (.store false .leaf (.t 12) (.t 11))] [5])
 (.seq (.region [Lw 13 5,
 Lw 4 13] [4])
 (.ret))))
def Z20:Fn:=
 { nparams:=2,nblk:=1,results:=[.tmp 4],body:=Z20_B }
def Z21_B:Cd:=
 .seq (.region [Ll 4 (.mv (.c (.sl .leaf [])))] [0,1])
 (.seq (.seq (.region [Lw 5 1,
 Lw 6 0,
 Ll 7 (.len false (.t 6)),
 Ll 8 (.bin .lss (.t 5) (.t 7))] [0,1,8])
 (.cond (.t 8)
 (.seq (.region [Lw 9 0,
 Lw 10 1,
 Ll 11 (.idxA none .leaf (.t 9) (.t 10)),
 Ll 12 (.load .leaf (.t 11)),
 Lw 4 12] [4])
 (.ret))
 (.skip)))
 (.seq (.region [Ll 4 (.mv (.c (.sl .leaf [])))] [4])
 (.ret)))
def Z21:Fn:=
 { nparams:=2,nblk:=0,results:=[.tmp 4],body:=Z21_B }
def Zz_L0:Cd:=
 .seq (.region [Ll 20 (.bin .lss (.t 19) (.t 18))] [1,2,3,4,9,18,19,20])
 (.seq (.cond (.t 20)
 (.skip)
 (.exit 0))
 (.seq (.block 1 (.seq (.region [Lw 21 19,
 Lw 10 21] [1,2,3,4,9,10,18,19])
 (.region [Lw 22 9,
 Lw 23 10,
 Ll 24 (.fldA [.leaf,.leaf] (.t 4) 0),
 Ll 25 (.load .leaf (.t 24)),
 Lw 26 1,
 Lw 27 10,
 Ll 28 (.call .plain [] (.f F21) [(.t 26),(.t 27)]),
 Lw 29 2,
 Lw 30 10,
 Ll 31 (.call .plain [] (.f F21) [(.t 29),(.t 30)]),
 Lw 32 3,
 Ll 33 (.call .plain [] (.f F1c) [(.t 25),(.t 28),(.t 31),(.t 32)]),
 Ll 34 (.idxA none .leaf (.t 22) (.t 23)),
 Ls (.store false .leaf (.t 34) (.t 33))] [1,2,3,4,9,18,19])))
 (.region [Ll 35 (.bin .add (.t 19) (.c (.int .i64 1))),
 Lw 19 35] [1,2,3,4,9,18,19])))
def Zz_B:Cd:=
 .seq (.region [Ll 4 (.box false 0 (.t 0)),
 Ll 8 (.mv (.c (.sl .leaf [])))] [1,2,3,4])
 (.seq (.region [Lw 11 1,
 Ll 12 (.len false (.t 11)),
 Lw 13 2,
 Ll 14 (.len false (.t 13)),
 Ll 15 (.maxI (.t 12) (.t 14)),
 Ll 16 (.mkSl 1 .leaf (.sl .leaf []) 24 (.t 15) (.t 15)),
 Lw 9 16] [1,2,3,4,9])
 (.seq (.seq (.region [Lw 17 9,
 Ll 18 (.len false (.t 17)),
 Ll 19 (.mv (.c (.int .i64 0)))] [1,2,3,4,9,18,19])
 (.block 0 (.loop (Zz_L0))))
 (.seq (.region [Lw 36 9,
 Ll 37 (.call .data [] (.f F22) [(.t 36)]),
 Lw 8 37] [8])
 (.ret))))
def Zz:Fn:=
 { nparams:=4,nblk:=2,results:=[.tmp 8],body:=Zz_B }
end Pe

/-
 Functions of the program in the small form,printed by a program.
-/
namespace Pe
open Go
def Z1z_L0:Cd:=
 .seq (.region [Ll 9 (.bin .lss (.t 8) (.t 7))] [3,6,7,8,9])
 (.seq (.cond (.t 9)
 (.skip)
 (.exit 0))
 (.seq (.block 1 (.seq (.region [Ll 10 (.idxA none (.arr 64 .leaf) (.t 6) (.t 8)),
 Ll 11 (.load (.arr 64 .leaf) (.t 10)),
 Ll 5 (.box false 1 (.c (.arr 64 .leaf z64))),
 Ls (.store false (.arr 64 .leaf) (.t 5) (.t 11))] [3,5,6,7,8])
 (.region [Lw 12 3,
 Ll 13 (.load (.arr 64 .leaf) (.t 5)),
 Ll 14 (.call .plain [] (.f F1s) [(.t 13)]),
 Ll 15 (.buildSl false 2 .leaf (.sl .leaf []) 1 [(0,(.t 14))]),
 Ll 16 (.append .leaf 3 24 (.t 12) (.t 15)),
 Lw 3 16] [3,6,7,8])))
 (.region [Ll 17 (.bin .add (.t 8) (.c (.int .i64 1))),
 Lw 8 17] [3,6,7,8])))
def Z1z_B:Cd:=
 .seq (.region [Ll 2 (.mv (.c (.sl .leaf [])))] [0])
 (.seq (.region [Ll 3 (.nilOwn 0 .leaf)] [0,3])
 (.seq (.seq (.region [Lw 6 0,
 Ll 7 (.len false (.t 6)),
 Ll 8 (.mv (.c (.int .i64 0)))] [3,6,7,8])
 (.block 0 (.loop (Z1z_L0))))
 (.seq (.region [Lw 18 3,
 Lw 2 18] [2])
 (.ret))))
def Z1z:Fn:=
 { nparams:=1,nblk:=4,results:=[.tmp 2],body:=Z1z_B }
end Pe

/-
 Functions of the program in the small form,printed by a program.
-/
namespace Pe
open Go
def Zf_B:Cd:=
 .seq (.region [Ll 1 (.box false 0 (.t 0)),
 Ll 2 (.mv (.c (.bool false)))] [1])
 (.seq (.seq (.region [Ll 4 (.fldA [.leaf,(.arr 64 .leaf),(.arr 64 .leaf),(.arr 64 .leaf)] (.t 1) 0),
 Ll 5 (.load .leaf (.t 4)),
 Ll 6 (.fldA [.leaf,(.arr 64 .leaf),(.arr 64 .leaf),(.arr 64 .leaf)] (.t 1) 1),
 Ll 7 (.load (.arr 64 .leaf) (.t 6)),
 Ll 8 (.call .flat [] (.f F12) [(.t 5),(.t 7)]),
 Ll 9 (.un .not (.t 8))] [1,9])
 (.cond (.t 9)
 (.seq (.region [Ll 2 (.mv (.c (.bool false)))] [2])
 (.ret))
 (.skip)))
 (.seq (.region [Ll 10 (.fldA [.leaf,(.arr 64 .leaf),(.arr 64 .leaf),(.arr 64 .leaf)] (.t 1) 0),
 Ll 11 (.load .leaf (.t 10)),
 Ll 12 (.fldA [.leaf,(.arr 64 .leaf),(.arr 64 .leaf),(.arr 64 .leaf)] (.t 1) 1),
 Ll 13 (.load (.arr 64 .leaf) (.t 12)),
 Ll 14 (.call .plain [] (.f Ft) [(.t 11),(.t 13)]),
 Ll 3 (.box false 1 (.c (.st [.leaf,.leaf] [(.int .i64 0),(.sl .leaf [])]))),
 Ls (.store false (.st [.leaf,.leaf]) (.t 3) (.t 14))] [1,3])
 (.seq (.region [Ll 15 (.load (.st [.leaf,.leaf]) (.t 3)),
 Ll 16 (.fldA [.leaf,(.arr 64 .leaf),(.arr 64 .leaf),(.arr 64 .leaf)] (.t 1) 2),
 Ll 17 (.load (.arr 64 .leaf) (.t 16)),
 Ll 18 (.call .flat [] (.f Fx) [(.t 15),(.t 17)]),
 Lw 19 18,
 Lg 20 (.load (.st [.leaf,.leaf]) (.t 3)) 19 true,
 Lg 21 (.fldA [.leaf,(.arr 64 .leaf),(.arr 64 .leaf),(.arr 64 .leaf)] (.t 1) 3) 19 true,
 Lg 22 (.load (.arr 64 .leaf) (.t 21)) 19 true,
 Lg 23 (.call .flat [] (.f Fx) [(.t 20),(.t 22)]) 19 true,
 Ll 24 (.pick (.t 19) (.t 23) (.c (.bool false))),
 Lw 25 24,
 Lg 26 (.fldA [.leaf,(.arr 64 .leaf),(.arr 64 .leaf),(.arr 64 .leaf)] (.t 1) 3) 25 true,
 Lg 27 (.load (.arr 64 .leaf) (.t 26)) 25 true,
 Lg 28 (.build false (.arr 64 .leaf z64) []) 25 true,
 Lg 29 (.eqv true (.arr 64 .leaf .int) (.t 27) (.t 28)) 25 true,
 Ll 30 (.pick (.t 25) (.t 29) (.c (.bool false))),
 Lw 2 30] [2])
 (.ret))))
def Zf:Fn:=
 { nparams:=1,nblk:=2,results:=[.tmp 2],body:=Zf_B }
def Zs_B:Cd:=
 .seq (.region [Ll 2 (.box false 0 (.t 0)),
 Ll 3 (.mv (.c (.bool false)))] [1,2])
 (.seq (.region [Ll 4 (.fldA [.leaf,(.arr 64 .leaf),(.arr 64 .leaf),(.arr 64 .leaf)] (.t 1) 0),
 Ll 5 (.load .leaf (.t 4)),
 Ll 6 (.load (.arr 64 .leaf) (.t 2)),
 Ll 7 (.call .flat [] (.f F13) [(.t 5),(.t 6)]),
 Lw 3 7] [3])
 (.ret))
def Zs:Fn:=
 { nparams:=2,nblk:=1,results:=[.tmp 3],body:=Zs_B }
def Zr_B:Cd:=
 .seq (.region [Ll 2 (.box false 0 (.t 0)),
 Ll 4 (.mv (.c (.int .i64 0)))] [1,2])
 (.seq (.seq (.region [Ll 5 (.load (.st [.leaf,(.arr 64 .leaf),(.arr 64 .leaf),(.arr 64 .leaf)]) (.t 2)),
 Ll 6 (.call .flat [] (.f Ff) [(.t 5)]),
 Ll 7 (.un .not (.t 6)),
 Lw 8 7,
 Lx 9 1 8 false,
 Lg 10 (.mkFn Fs [] [(.t 2)]) 8 false,
 Lg 11 (.call .flat [] (.f Fm) [(.t 9),(.t 10)]) 8 false,
 Lg 12 (.un .not (.t 11)) 8 false,
 Ll 13 (.pick (.t 8) (.c (.bool true)) (.t 12))] [13])
 (.cond (.t 13)
 (.seq (.region [Ll 4 (.mv (.c (.int .i64 1)))] [4])
 (.ret))
 (.skip)))
 (.seq (.region [Ll 4 (.mv (.c (.int .i64 0)))] [4])
 (.ret)))
def Zr:Fn:=
 { nparams:=2,nblk:=1,results:=[.tmp 4],body:=Zr_B }
def Z8_B:Cd:=
 .seq (.region [Ll 1 (.box false 0 (.t 0)),
 Ll 2 (.box false 1 (.c (.st [.leaf,.leaf] [(.int .i64 0),(.sl .leaf [])])))] [1,2])
 (.seq (.region [Ll 3 (.fldA [.leaf,(.arr 64 .leaf),(.arr 64 .leaf),(.arr 64 .leaf)] (.t 1) 0),
 Ll 4 (.load .leaf (.t 3)),
 Ll 5 (.fldA [.leaf,(.arr 64 .leaf),(.arr 64 .leaf),(.arr 64 .leaf)] (.t 1) 1),
 Ll 6 (.load (.arr 64 .leaf) (.t 5)),
 Ll 7 (.call .plain [] (.f Ft) [(.t 4),(.t 6)]),
 Ls (.store false (.st [.leaf,.leaf]) (.t 2) (.t 7))] [2])
 (.ret))
def Z8:Fn:=
 { nparams:=1,nblk:=2,results:=[.cell 2 (.st [.leaf,.leaf])],body:=Z8_B }
def Zb_B:Cd:=
 .seq (.region [Ll 2 (.box false 0 (.t 0)),
 Ll 4 (.box false 1 (.c (.st [.leaf,(.arr 64 .leaf),(.arr 64 .leaf),(.arr 64 .leaf)] [(.int .i64 0),(.arr 64 .leaf z64),(.arr 64 .leaf z64),(.arr 64 .leaf z64)])))] [1,2,4])
 (.seq (.region [Ll 8 (.load (.st [.leaf,(.arr 64 .leaf),(.arr 64 .leaf),(.arr 64 .leaf)]) (.t 2)),
 Ll 9 (.call .plain [] (.f F8) [(.t 8)]),
 Ll 5 (.box false 2 (.c (.st [.leaf,.leaf] [(.int .i64 0),(.sl .leaf [])]))),
 Ls (.store false (.st [.leaf,.leaf]) (.t 5) (.t 9))] [1,2,4,5])
 (.seq (.region [Ll 10 (.load (.st [.leaf,.leaf]) (.t 5)),
 Ll 11 (.fldA [.leaf,.leaf] (.t 5) 0),
 Ll 12 (.load .leaf (.t 11)),
 Lw 13 1,
 Ll 14 (.fldA [.leaf,(.arr 64 .leaf),(.arr 64 .leaf),(.arr 64 .leaf)] (.t 2) 0),
 Ll 15 (.load .leaf (.t 14)),
 Ll 16 (.bin .sub (.t 15) (.c (.int .i64 1))),
 Ll 17 (.fldA [.leaf,.leaf] (.t 5) 1),
 Ll 18 (.load .leaf (.t 17)),
 Ll 19 (.call .plain [] (.f F1l) [(.t 12),(.t 13),(.t 16),(.t 18)]),
 Ll 20 (.call .plain [] (.f Fw) [(.t 10),(.t 19)]),
 Lw 6 20] [1,2,4,5,6])
 (.seq (.region [Ll 21 (.load (.st [.leaf,.leaf]) (.t 5)),
 Ll 22 (.fldA [.leaf,.leaf] (.t 5) 0),
 Ll 23 (.load .leaf (.t 22)),
 Lw 24 1,
 Ll 25 (.fldA [.leaf,(.arr 64 .leaf),(.arr 64 .leaf),(.arr 64 .leaf)] (.t 2) 0),
 Ll 26 (.load .leaf (.t 25)),
 Ll 27 (.fldA [.leaf,(.arr 64 .leaf),(.arr 64 .leaf),(.arr 64 .leaf)] (.t 2) 0),
 Ll 28 (.load .leaf (.t 27)),
 Ll 29 (.bin .mul (.t 26) (.t 28)),
 Ll 30 (.bin .sub (.t 29) (.c (.int .i64 1))),
 Ll 31 (.fldA [.leaf,.leaf] (.t 5) 1),
 Ll 32 (.load .leaf (.t 31)),
 Ll 33 (.call .plain [] (.f F1l) [(.t 23),(.t 24),(.t 30),(.t 32)]),
 Ll 34 (.call .plain [] (.f Fw) [(.t 21),(.t 33)]),
 Lw 7 34] [2,4,5,6,7])
 (.seq (.region [Ll 35 (.fldA [.leaf,(.arr 64 .leaf),(.arr 64 .leaf),(.arr 64 .leaf)] (.t 2) 0),
 Ll 36 (.load .leaf (.t 35)),
 Ll 37 (.fldA [.leaf,(.arr 64 .leaf),(.arr 64 .leaf),(.arr 64 .leaf)] (.t 2) 1),
 Ll 38 (.load (.arr 64 .leaf) (.t 37)),
 Ll 39 (.load (.st [.leaf,.leaf]) (.t 5)),
 Lw 40 6,
 Ll 41 (.fldA [.leaf,(.arr 64 .leaf),(.arr 64 .leaf),(.arr 64 .leaf)] (.t 2) 2),
 Ll 42 (.load (.arr 64 .leaf) (.t 41)),
 Ll 43 (.call .plain [] (.f F1s) [(.t 42)]),
 Ll 44 (.call .plain [] (.f F10) [(.t 39),(.t 40),(.t 43)]),
 Ll 45 (.call .flat [] (.f F1x) [(.t 44)]),
 Ll 46 (.load (.st [.leaf,.leaf]) (.t 5)),
 Lw 47 7,
 Ll 48 (.fldA [.leaf,(.arr 64 .leaf),(.arr 64 .leaf),(.arr 64 .leaf)] (.t 2) 3),
 Ll 49 (.load (.arr 64 .leaf) (.t 48)),
 Ll 50 (.call .plain [] (.f F1s) [(.t 49)]),
 Ll 51 (.call .plain [] (.f F10) [(.t 46),(.t 47),(.t 50)]),
 Ll 52 (.call .flat [] (.f F1x) [(.t 51)]),
 Ll 53 (.build false (.st [.leaf,(.arr 64 .leaf),(.arr 64 .leaf),(.arr 64 .leaf)] [(.int .i64 0),(.arr 64 .leaf z64),(.arr 64 .leaf z64),(.arr 64 .leaf z64)]) [(0,(.t 36)),(1,(.t 38)),(2,(.t 45)),(3,(.t 52))]),
 Ls (.store false (.st [.leaf,(.arr 64 .leaf),(.arr 64 .leaf),(.arr 64 .leaf)]) (.t 4) (.t 53))] [4])
 (.ret)))))
def Zb:Fn:=
 { nparams:=2,nblk:=3,results:=[.cell 4 (.st [.leaf,(.arr 64 .leaf),(.arr 64 .leaf),(.arr 64 .leaf)])],body:=Zb_B }
def Zj_B:Cd:=
 .seq (.region [Ll 2 (.box false 0 (.t 0)),
 Ll 3 (.box false 1 (.t 1)),
 Ll 4 (.box false 2 (.c (.st [.leaf,(.arr 64 .leaf),(.arr 64 .leaf),(.arr 64 .leaf)] [(.int .i64 0),(.arr 64 .leaf z64),(.arr 64 .leaf z64),(.arr 64 .leaf z64)]))),
 Ll 5 (.mv (.c (.int .i64 0)))] [2,3,4])
 (.seq (.seq (.region [Ll 7 (.load (.st [.leaf,(.arr 64 .leaf),(.arr 64 .leaf),(.arr 64 .leaf)]) (.t 2)),
 Ll 8 (.load (.arr 64 .leaf) (.t 3)),
 Ll 9 (.buildSl false 3 (.arr 64 .leaf) (.arr 64 .leaf z64) 1 [(0,(.t 8))]),
 Ll 10 (.call .flat [] (.f Fr) [(.t 7),(.t 9)]),
 Lw 6 10] [2,3,4,6])
 (.seq (.region [Lw 11 6,
 Ll 12 (.bin .neq (.t 11) (.c (.int .i64 0)))] [2,3,4,6,12])
 (.cond (.t 12)
 (.seq (.region [Ll 13 (.build false (.st [.leaf,(.arr 64 .leaf),(.arr 64 .leaf),(.arr 64 .leaf)] [(.int .i64 0),(.arr 64 .leaf z64),(.arr 64 .leaf z64),(.arr 64 .leaf z64)]) []),
 Lw 14 6,
 Ls (.store false (.st [.leaf,(.arr 64 .leaf),(.arr 64 .leaf),(.arr 64 .leaf)]) (.t 4) (.t 13)),
 Lw 5 14] [4,5])
 (.ret))
 (.skip))))
 (.seq (.seq (.region [Ll 15 (.load (.st [.leaf,(.arr 64 .leaf),(.arr 64 .leaf),(.arr 64 .leaf)]) (.t 2)),
 Ll 16 (.call .plain [] (.f F8) [(.t 15)]),
 Ll 17 (.load (.arr 64 .leaf) (.t 3)),
 Ll 18 (.call .flat [] (.f Fx) [(.t 16),(.t 17)]),
 Ll 19 (.un .not (.t 18)),
 Lw 20 19,
 Lg 21 (.load (.arr 64 .leaf) (.t 3)) 20 false,
 Lg 22 (.build false (.arr 64 .leaf z64) []) 20 false,
 Lg 23 (.eqv false (.arr 64 .leaf .int) (.t 21) (.t 22)) 20 false,
 Ll 24 (.pick (.t 20) (.c (.bool true)) (.t 23))] [2,3,4,24])
 (.cond (.t 24)
 (.seq (.region [Ll 25 (.build false (.st [.leaf,(.arr 64 .leaf),(.arr 64 .leaf),(.arr 64 .leaf)] [(.int .i64 0),(.arr 64 .leaf z64),(.arr 64 .leaf z64),(.arr 64 .leaf z64)]) []),
 Ls (.store false (.st [.leaf,(.arr 64 .leaf),(.arr 64 .leaf),(.arr 64 .leaf)]) (.t 4) (.t 25)),
 Ll 5 (.mv (.c (.int .i64 2)))] [4,5])
 (.ret))
 (.skip)))
 (.seq (.region [Ll 26 (.load (.st [.leaf,(.arr 64 .leaf),(.arr 64 .leaf),(.arr 64 .leaf)]) (.t 2)),
 Ll 27 (.load (.arr 64 .leaf) (.t 3)),
 Ll 28 (.call .plain [] (.f F1s) [(.t 27)]),
 Ll 29 (.call .flat [] (.f Fb) [(.t 26),(.t 28)]),
 Ls (.store false (.st [.leaf,(.arr 64 .leaf),(.arr 64 .leaf),(.arr 64 .leaf)]) (.t 4) (.t 29)),
 Ll 5 (.mv (.c (.int .i64 0)))] [4,5])
 (.ret))))
def Zj:Fn:=
 { nparams:=2,nblk:=4,results:=[.cell 4 (.st [.leaf,(.arr 64 .leaf),(.arr 64 .leaf),(.arr 64 .leaf)]),.tmp 5],body:=Zj_B }
def Za_B:Cd:=
 .seq (.region [Ll 1 (.box false 0 (.t 0)),
 Ll 2 (.mv (.c (.sl .leaf [])))] [1])
 (.seq (.region [Ll 4 (.load (.st [.leaf,(.arr 64 .leaf),(.arr 64 .leaf),(.arr 64 .leaf)]) (.t 1)),
 Ll 5 (.call .plain [] (.f F8) [(.t 4)]),
 Ll 3 (.box false 1 (.c (.st [.leaf,.leaf] [(.int .i64 0),(.sl .leaf [])]))),
 Ls (.store false (.st [.leaf,.leaf]) (.t 3) (.t 5))] [1,3])
 (.seq (.region [Ll 6 (.fldA [.leaf,.leaf] (.t 3) 0),
 Ll 7 (.load .leaf (.t 6)),
 Ll 8 (.call .plain [] (.f F16) []),
 Ll 9 (.fldA [.leaf,.leaf] (.t 3) 1),
 Ll 10 (.load .leaf (.t 9)),
 Ll 11 (.call .plain [] (.f F1n) [(.t 7),(.t 8),(.t 10)]),
 Ll 12 (.fldA [.leaf,(.arr 64 .leaf),(.arr 64 .leaf),(.arr 64 .leaf)] (.t 1) 2),
 Ll 13 (.load (.arr 64 .leaf) (.t 12)),
 Ll 14 (.call .plain [] (.f F1s) [(.t 13)]),
 Ll 15 (.fldA [.leaf,(.arr 64 .leaf),(.arr 64 .leaf),(.arr 64 .leaf)] (.t 1) 3),
 Ll 16 (.load (.arr 64 .leaf) (.t 15)),
 Ll 17 (.call .plain [] (.f F1s) [(.t 16)]),
 Ll 18 (.buildSl false 2 .leaf (.sl .leaf []) 3 [(0,(.t 11)),(1,(.t 14)),(2,(.t 17))]),
 Lw 2 18] [2])
 (.ret)))
def Za:Fn:=
 { nparams:=1,nblk:=3,results:=[.tmp 2],body:=Za_B }
def Z6_L0:Cd:=
 .seq (.region [Ll 39 (.bin .lss (.t 38) (.t 37))] [6,9,10,11,12,36,37,38,39])
 (.seq (.cond (.t 39)
 (.skip)
 (.exit 0))
 (.seq (.block 1 (.seq (.region [Ll 40 (.idxA none .leaf (.t 36) (.t 38)),
 Ll 41 (.load .leaf (.t 40)),
 Lw 14 41] [6,9,10,11,12,14,36,37,38])
 (.seq (.region [Ll 42 (.fldA [.leaf,.leaf] (.t 9) 0),
 Ll 43 (.load .leaf (.t 42)),
 Lw 44 12,
 Lw 45 11,
 Lw 46 14,
 Ll 47 (.call .plain [] (.f F1c) [(.t 43),(.t 44),(.t 45),(.t 46)]),
 Lw 12 47] [6,9,10,11,12,36,37,38])
 (.region [Ll 48 (.load (.st [.leaf,.leaf]) (.t 9)),
 Lw 49 10,
 Lw 50 11,
 Ll 51 (.call .plain [] (.f F11) [(.t 48),(.t 49),(.t 50)]),
 Lw 11 51] [6,9,10,11,12,36,37,38]))))
 (.region [Ll 52 (.bin .add (.t 38) (.c (.int .i64 1))),
 Lw 38 52] [6,9,10,11,12,36,37,38])))
def Z6_B:Cd:=
 .seq (.region [Ll 3 (.box false 0 (.t 0)),
 Ll 4 (.box false 1 (.t 1)),
 Ll 5 (.box false 2 (.t 2)),
 Ll 6 (.box false 3 (.c (.arr 64 .leaf z64))),
 Ll 7 (.mv (.c (.int .i64 0)))] [3,4,5,6])
 (.seq (.seq (.region [Ll 15 (.load (.st [.leaf,(.arr 64 .leaf),(.arr 64 .leaf),(.arr 64 .leaf)]) (.t 3)),
 Ll 16 (.load (.arr 64 .leaf) (.t 4)),
 Ll 17 (.load (.arr 64 .leaf) (.t 5)),
 Ll 18 (.buildSl false 4 (.arr 64 .leaf) (.arr 64 .leaf z64) 2 [(0,(.t 16)),(1,(.t 17))]),
 Ll 19 (.call .flat [] (.f Fr) [(.t 15),(.t 18)]),
 Lw 8 19] [3,4,5,6,8])
 (.seq (.region [Lw 20 8,
 Ll 21 (.bin .neq (.t 20) (.c (.int .i64 0)))] [3,4,5,6,8,21])
 (.cond (.t 21)
 (.seq (.region [Ll 22 (.build false (.arr 64 .leaf z64) []),
 Lw 23 8,
 Ls (.store false (.arr 64 .leaf) (.t 6) (.t 22)),
 Lw 7 23] [6,7])
 (.ret))
 (.skip))))
 (.seq (.region [Ll 24 (.load (.st [.leaf,(.arr 64 .leaf),(.arr 64 .leaf),(.arr 64 .leaf)]) (.t 3)),
 Ll 25 (.call .plain [] (.f F8) [(.t 24)]),
 Ll 26 (.load (.st [.leaf,(.arr 64 .leaf),(.arr 64 .leaf),(.arr 64 .leaf)]) (.t 3)),
 Ll 27 (.call .plain [] (.f Fa) [(.t 26)]),
 Ll 9 (.box false 5 (.c (.st [.leaf,.leaf] [(.int .i64 0),(.sl .leaf [])]))),
 Ls (.store false (.st [.leaf,.leaf]) (.t 9) (.t 25)),
 Lw 10 27] [4,5,6,9,10])
 (.seq (.region [Ll 28 (.fldA [.leaf,.leaf] (.t 9) 0),
 Ll 29 (.load .leaf (.t 28)),
 Ll 30 (.load (.arr 64 .leaf) (.t 5)),
 Ll 31 (.call .plain [] (.f F1s) [(.t 30)]),
 Ll 32 (.fldA [.leaf,.leaf] (.t 9) 1),
 Ll 33 (.load .leaf (.t 32)),
 Ll 34 (.call .plain [] (.f F1n) [(.t 29),(.t 31),(.t 33)]),
 Lw 11 34] [4,6,9,10,11])
 (.seq (.region [Ll 12 (.mv (.c (.sl .leaf [])))] [4,6,9,10,11,12])
 (.seq (.seq (.region [Ll 35 (.load (.arr 64 .leaf) (.t 4)),
 Ll 36 (.call .plain [] (.f F1s) [(.t 35)]),
 Ll 37 (.len false (.t 36)),
 Ll 38 (.mv (.c (.int .i64 0)))] [6,9,10,11,12,36,37,38])
 (.block 0 (.loop (Z6_L0))))
 (.seq (.region [Lw 53 12,
 Ll 54 (.call .flat [] (.f F23) [(.t 53)]),
 Ll 55 (.ext (.t 54) 0),
 Ll 56 (.ext (.t 54) 1),
 Ls (.store false (.arr 64 .leaf) (.t 6) (.t 55)),
 Lw 7 56] [6,7])
 (.ret)))))))
def Z6:Fn:=
 { nparams:=3,nblk:=6,results:=[.cell 6 (.arr 64 .leaf),.tmp 7],body:=Z6_B }
def Z7_L0:Cd:=
 .seq (.seq (.region [Lw 16 8,
 Ll 17 (.bin .geq (.t 16) (.c (.int .i64 0)))] [1,5,6,7,8,17])
 (.cond (.t 17)
 (.skip)
 (.exit 0)))
 (.seq (.block 1 (.region [Ll 20 (.load (.st [.leaf,.leaf]) (.t 5)),
 Ll 21 (.load (.st [.leaf,.leaf]) (.t 5)),
 Lw 22 7,
 Lw 23 6,
 Ll 24 (.call .plain [] (.f Fu) [(.t 21),(.t 22),(.t 23)]),
 Lw 25 1,
 Lw 26 8,
 Ll 27 (.idxA none .leaf (.t 25) (.t 26)),
 Ll 28 (.load .leaf (.t 27)),
 Ll 29 (.buildSl false 2 .leaf (.int .i64 0) 1 [(0,(.t 28))]),
 ⟨some 30,.call .data [] (.f F1y) [(.t 29)],none,[5]⟩,
 Ll 31 (.call .plain [] (.f F20) [(.t 30),(.c (.int .i64 0))]),
 Ll 32 (.call .plain [] (.f Fz) [(.t 20),(.t 24),(.t 31),(.c (.int .i64 1))]),
 Lw 7 32] [1,5,6,7,8]))
 (.region [Lw 18 8,
 Ll 19 (.bin .sub (.t 18) (.c (.int .i64 1))),
 Lw 8 19] [1,5,6,7,8]))
def Z7_B:Cd:=
 .seq (.region [Ll 2 (.box false 0 (.t 0)),
 Ll 4 (.mv (.c (.sl .leaf [])))] [1,2])
 (.seq (.region [Ll 9 (.load (.st [.leaf,(.arr 64 .leaf),(.arr 64 .leaf),(.arr 64 .leaf)]) (.t 2)),
 Ll 10 (.call .plain [] (.f F8) [(.t 9)]),
 Ll 11 (.load (.st [.leaf,(.arr 64 .leaf),(.arr 64 .leaf),(.arr 64 .leaf)]) (.t 2)),
 Ll 12 (.call .plain [] (.f Fa) [(.t 11)]),
 Ll 5 (.box false 1 (.c (.st [.leaf,.leaf] [(.int .i64 0),(.sl .leaf [])]))),
 Ls (.store false (.st [.leaf,.leaf]) (.t 5) (.t 10)),
 Lw 6 12] [1,5,6])
 (.seq (.region [Ll 7 (.mv (.c (.sl .leaf [])))] [1,5,6,7])
 (.seq (.seq (.region [Lw 13 1,
 Ll 14 (.len false (.t 13)),
 Ll 15 (.bin .sub (.t 14) (.c (.int .i64 1))),
 Lw 8 15] [1,5,6,7,8])
 (.block 0 (.loop (Z7_L0))))
 (.seq (.region [Lw 33 7,
 Lw 4 33] [4])
 (.ret)))))
def Z7:Fn:=
 { nparams:=2,nblk:=3,results:=[.tmp 4],body:=Z7_B }
def Zy_L0:Cd:=
 .seq (.region [Ll 11 (.bin .lss (.t 10) (.t 9))] [1,2,5,9,10,11])
 (.seq (.cond (.t 11)
 (.skip)
 (.exit 0))
 (.seq (.block 1 (.seq (.region [Ll 12 (.load (.st [.leaf,.leaf]) (.t 2)),
 Lw 13 5,
 Lw 14 1,
 Ll 15 (.call .data [] (.f F10) [(.t 12),(.t 13),(.t 14)]),
 Lw 5 15] [1,2,5,9,10])
 (.region [Ll 16 (.load (.st [.leaf,.leaf]) (.t 2)),
 Lw 17 1,
 Ll 18 (.call .plain [] (.f Fv) [(.t 16),(.t 17),(.c (.int .i64 1))]),
 Lw 1 18] [1,2,5,9,10])))
 (.region [Ll 19 (.bin .add (.t 10) (.c (.int .i64 1))),
 Lw 10 19] [1,2,5,9,10])))
def Zy_B:Cd:=
 .seq (.region [Ll 2 (.box false 0 (.t 0)),
 Ll 4 (.mv (.c (.int .i64 0)))] [1,2])
 (.seq (.region [Ll 6 (.buildSl false 1 .leaf (.int .i64 0) 1 [(0,(.c (.int .i64 1)))]),
 Lw 5 6] [1,2,5])
 (.seq (.seq (.region [Ll 7 (.fldA [.leaf,.leaf] (.t 2) 1),
 Ll 8 (.load .leaf (.t 7)),
 Ll 9 (.call .flat [] (.f F1u) [(.t 8)]),
 Ll 10 (.mv (.c (.int .i64 0)))] [1,2,5,9,10])
 (.block 0 (.loop (Zy_L0))))
 (.seq (.region [Lw 20 5,
 Ll 21 (.call .flat [] (.f F1t) [(.t 20),(.c (.int .i64 0))]),
 Lw 4 21] [4])
 (.ret))))
def Zy:Fn:=
 { nparams:=2,nblk:=2,results:=[.tmp 4],body:=Zy_B }
def Z9_B:Cd:=
 .seq (.region [Ll 1 (.box false 0 (.t 0)),
 Ll 2 (.mv (.c (.sl .leaf []))),
 Ll 3 (.mv (.c (.sl .leaf [])))] [1])
 (.seq (.region [Ll 7 (.load (.st [.leaf,(.arr 64 .leaf),(.arr 64 .leaf),(.arr 64 .leaf)]) (.t 1)),
 Ll 8 (.call .plain [] (.f F8) [(.t 7)]),
 Ll 4 (.box false 1 (.c (.st [.leaf,.leaf] [(.int .i64 0),(.sl .leaf [])]))),
 Ls (.store false (.st [.leaf,.leaf]) (.t 4) (.t 8))] [1,4])
 (.seq (.region [Ll 9 (.fldA [.leaf,.leaf] (.t 4) 0),
 Ll 10 (.load .leaf (.t 9)),
 Ll 11 (.load (.st [.leaf,.leaf]) (.t 4)),
 Ll 12 (.fldA [.leaf,(.arr 64 .leaf),(.arr 64 .leaf),(.arr 64 .leaf)] (.t 1) 3),
 Ll 13 (.load (.arr 64 .leaf) (.t 12)),
 Ll 14 (.call .plain [] (.f F1s) [(.t 13)]),
 Ll 15 (.call .flat [] (.f Fy) [(.t 11),(.t 14)]),
 Ll 16 (.call .flat [] (.f F1h) [(.t 10),(.t 15)]),
 Lw 5 16] [1,4,5])
 (.seq (.seq (.region [Ll 17 (.fldA [.leaf,.leaf] (.t 4) 1),
 Ll 18 (.load .leaf (.t 17)),
 Ll 19 (.call .flat [] (.f F1u) [(.t 18)]),
 Ll 20 (.bin .rem (.t 19) (.c (.int .i64 2))),
 Ll 21 (.bin .eql (.t 20) (.c (.int .i64 1)))] [1,4,5,21])
 (.cond (.t 21)
 (.region [Lw 22 5,
 Ll 23 (.un .neg (.t 22)),
 Lw 5 23] [1,4,5])
 (.skip)))
 (.seq (.region [Ll 24 (.fldA [.leaf,.leaf] (.t 4) 0),
 Ll 25 (.load .leaf (.t 24)),
 Ll 26 (.fldA [.leaf,.leaf] (.t 4) 1),
 Ll 27 (.load .leaf (.t 26)),
 Lw 28 5,
 Ll 29 (.call .plain [] (.f F1o) [(.t 25),(.t 27),(.t 28)]),
 Lw 6 29] [1,4,6])
 (.seq (.region [Ll 30 (.load (.st [.leaf,(.arr 64 .leaf),(.arr 64 .leaf),(.arr 64 .leaf)]) (.t 1)),
 Lw 31 6,
 Ll 32 (.call .plain [] (.f F7) [(.t 30),(.t 31)]),
 Ll 33 (.fldA [.leaf,.leaf] (.t 4) 1),
 Ll 34 (.load .leaf (.t 33)),
 Ll 35 (.call .flat [] (.f F1u) [(.t 34)]),
 Ll 36 (.call .plain [] (.f F21) [(.t 32),(.t 35)]),
 Lw 37 6,
 Lw 2 36,
 Lw 3 37] [2,3])
 (.ret))))))
def Z9:Fn:=
 { nparams:=1,nblk:=2,results:=[.tmp 2,.tmp 3],body:=Z9_B }
def Zc_B:Cd:=
 .seq (.region [Ll 1 (.box false 0 (.t 0)),
 Ll 2 (.box false 1 (.c (.arr 64 .leaf z64))),
 Ll 3 (.box false 2 (.c (.arr 64 .leaf z64))),
 Ll 4 (.mv (.c (.int .i64 0)))] [1,2,3])
 (.seq (.seq (.region [Ll 8 (.load (.st [.leaf,(.arr 64 .leaf),(.arr 64 .leaf),(.arr 64 .leaf)]) (.t 1)),
 Ll 9 (.call .flat [] (.f Fr) [(.t 8),(.c (.sl (.arr 64 .leaf) []))]),
 Lw 5 9] [1,2,3,5])
 (.seq (.region [Lw 10 5,
 Ll 11 (.bin .neq (.t 10) (.c (.int .i64 0)))] [1,2,3,5,11])
 (.cond (.t 11)
 (.seq (.region [Ll 12 (.build false (.arr 64 .leaf z64) []),
 Ll 13 (.build false (.arr 64 .leaf z64) []),
 Lw 14 5,
 Ls (.store false (.arr 64 .leaf) (.t 2) (.t 12)),
 Ls (.store false (.arr 64 .leaf) (.t 3) (.t 13)),
 Lw 4 14] [2,3,4])
 (.ret))
 (.skip))))
 (.seq (.region [Ll 16 (.load (.st [.leaf,(.arr 64 .leaf),(.arr 64 .leaf),(.arr 64 .leaf)]) (.t 1)),
 Ll 17 (.call .plain [] (.f F9) [(.t 16)]),
 Lw 15 17,
 Ll 18 (.ext (.t 15) 0),
 Ll 19 (.ext (.t 15) 1),
 Lw 6 18,
 Lw 7 19] [2,3,6,7])
 (.seq (.region [Lw 20 6,
 Ll 21 (.call .flat [] (.f F1x) [(.t 20)]),
 Lw 22 7,
 Ll 23 (.call .flat [] (.f F1x) [(.t 22)]),
 Ls (.store false (.arr 64 .leaf) (.t 2) (.t 21)),
 Ls (.store false (.arr 64 .leaf) (.t 3) (.t 23)),
 Ll 4 (.mv (.c (.int .i64 0)))] [2,3,4])
 (.ret))))
def Zc:Fn:=
 { nparams:=1,nblk:=3,results:=[.cell 2 (.arr 64 .leaf),.cell 3 (.arr 64 .leaf),.tmp 4],body:=Zc_B }
def Z17_B:Cd:=
 .seq (.region [Ll 2 (.box false 0 (.t 0)),
 Ll 3 (.box false 1 (.t 1)),
 Ll 4 (.mv (.c (.int .i64 0)))] [2,3])
 (.seq (.block 0 (.seq (.region [Ll 6 (.load (.st [.leaf,(.arr 64 .leaf),(.arr 64 .leaf),(.arr 64 .leaf)]) (.t 2)),
 Ll 7 (.call .flat [] (.f Ff) [(.t 6)]),
 Ll 8 (.un .not (.t 7)),
 Lw 9 8,
 Lg 10 (.load (.st [.leaf,(.arr 64 .leaf),(.arr 64 .leaf),(.arr 64 .leaf)]) (.t 3)) 9 false,
 Lg 11 (.call .flat [] (.f Ff) [(.t 10)]) 9 false,
 Lg 12 (.un .not (.t 11)) 9 false,
 Ll 13 (.pick (.t 9) (.c (.bool true)) (.t 12)),
 Lw 5 13] [2,3,5])
 (.cond (.t 5)
 (.seq (.region [Ll 4 (.mv (.c (.int .i64 1)))] [4])
 (.ret))
 (.seq (.region [Ll 15 (.fldA [.leaf,(.arr 64 .leaf),(.arr 64 .leaf),(.arr 64 .leaf)] (.t 2) 0),
 Ll 16 (.load .leaf (.t 15)),
 Ll 17 (.fldA [.leaf,(.arr 64 .leaf),(.arr 64 .leaf),(.arr 64 .leaf)] (.t 3) 0),
 Ll 18 (.load .leaf (.t 17)),
 Ll 19 (.bin .neq (.t 16) (.t 18)),
 Lw 20 19,
 Lg 21 (.fldA [.leaf,(.arr 64 .leaf),(.arr 64 .leaf),(.arr 64 .leaf)] (.t 2) 1) 20 false,
 Lg 22 (.load (.arr 64 .leaf) (.t 21)) 20 false,
 Lg 23 (.fldA [.leaf,(.arr 64 .leaf),(.arr 64 .leaf),(.arr 64 .leaf)] (.t 3) 1) 20 false,
 Lg 24 (.load (.arr 64 .leaf) (.t 23)) 20 false,
 Lg 25 (.eqv true (.arr 64 .leaf .int) (.t 22) (.t 24)) 20 false,
 Ll 26 (.pick (.t 20) (.c (.bool true)) (.t 25)),
 Lw 14 26] [14])
 (.cond (.t 14)
 (.seq (.region [Ll 4 (.mv (.c (.int .i64 2)))] [4])
 (.ret))
 (.skip))))))
 (.seq (.region [Ll 4 (.mv (.c (.int .i64 0)))] [4])
 (.ret)))
def Z17:Fn:=
 { nparams:=2,nblk:=2,results:=[.tmp 4],body:=Z17_B }
def Zg_B:Cd:=
 .seq (.region [Ll 3 (.box false 0 (.t 0)),
 Ll 4 (.box false 1 (.t 1)),
 Ll 6 (.mv (.c (.bool false))),
 Ll 7 (.mv (.c (.int .i64 0)))] [2,3,4])
 (.seq (.seq (.region [Ll 13 (.load (.st [.leaf,(.arr 64 .leaf),(.arr 64 .leaf),(.arr 64 .leaf)]) (.t 3)),
 Lw 14 2,
 Ll 15 (.call .flat [] (.f Fr) [(.t 13),(.t 14)]),
 Ll 16 (.bin .neq (.t 15) (.c (.int .i64 0)))] [2,3,4,16])
 (.cond (.t 16)
 (.seq (.region [Ll 6 (.mv (.c (.bool false))),
 Ll 7 (.mv (.c (.int .i64 1)))] [6,7])
 (.ret))
 (.skip)))
 (.seq (.seq (.region [Ll 17 (.load (.st [.leaf,(.arr 64 .leaf),(.arr 64 .leaf),(.arr 64 .leaf)]) (.t 3)),
 Ll 18 (.load (.st [.leaf,(.arr 64 .leaf),(.arr 64 .leaf),(.arr 64 .leaf)]) (.t 4)),
 Ll 19 (.call .flat [] (.f F17) [(.t 17),(.t 18)]),
 Lw 8 19] [2,3,4,8])
 (.seq (.region [Lw 20 8,
 Ll 21 (.bin .neq (.t 20) (.c (.int .i64 0)))] [2,3,4,8,21])
 (.cond (.t 21)
 (.seq (.region [Lw 22 8,
 Ll 6 (.mv (.c (.bool false))),
 Lw 7 22] [6,7])
 (.ret))
 (.skip))))
 (.seq (.region [Ll 23 (.load (.st [.leaf,(.arr 64 .leaf),(.arr 64 .leaf),(.arr 64 .leaf)]) (.t 3)),
 Ll 24 (.call .plain [] (.f F8) [(.t 23)]),
 Ll 9 (.box false 2 (.c (.st [.leaf,.leaf] [(.int .i64 0),(.sl .leaf [])]))),
 Ls (.store false (.st [.leaf,.leaf]) (.t 9) (.t 24))] [2,3,4,9])
 (.seq (.seq (.region [Lw 25 2,
 Ll 26 (.len false (.t 25)),
 Ll 27 (.call .flat [] (.f F24) [(.t 26),(.c (.int .i64 1)),(.c (.int .i64 6))]),
 Ll 28 (.un .not (.t 27)),
 Lw 29 28,
 Lx 30 2 29 false,
 Lg 31 (.load (.st [.leaf,.leaf]) (.t 9)) 29 false,
 Lg 32 (.mkFn Fx [(.t 31)] []) 29 false,
 Lg 33 (.call .flat [] (.f Fm) [(.t 30),(.t 32)]) 29 false,
 Lg 34 (.un .not (.t 33)) 29 false,
 Ll 35 (.pick (.t 29) (.c (.bool true)) (.t 34))] [2,3,4,9,35])
 (.cond (.t 35)
 (.seq (.region [Ll 6 (.mv (.c (.bool false))),
 Ll 7 (.mv (.c (.int .i64 2)))] [6,7])
 (.ret))
 (.skip)))
 (.seq (.region [Lw 36 2,
 Ll 37 (.call .plain [] (.f F1z) [(.t 36)]),
 Ll 38 (.call .plain [] (.f F22) [(.t 37)]),
 Lw 10 38] [3,4,9,10])
 (.seq (.region [Ll 39 (.load (.st [.leaf,.leaf]) (.t 9)),
 Lw 40 10,
 Ll 41 (.load (.st [.leaf,(.arr 64 .leaf),(.arr 64 .leaf),(.arr 64 .leaf)]) (.t 3)),
 Ll 42 (.call .plain [] (.f Fa) [(.t 41)]),
 Ll 43 (.call .plain [] (.f Fu) [(.t 39),(.t 40),(.t 42)]),
 Ll 44 (.load (.st [.leaf,.leaf]) (.t 9)),
 Ll 45 (.load (.st [.leaf,(.arr 64 .leaf),(.arr 64 .leaf),(.arr 64 .leaf)]) (.t 4)),
 Ll 46 (.call .plain [] (.f Fa) [(.t 45)]),
 Lw 47 10,
 Ll 48 (.call .plain [] (.f Fu) [(.t 44),(.t 46),(.t 47)]),
 Lw 11 43,
 Lw 12 48] [9,10,11,12])
 (.seq (.region [Lw 49 10,
 Ll 50 (.len false (.t 49)),
 Ll 51 (.bin .gtr (.t 50) (.c (.int .i64 0))),
 Lw 52 51,
 Lg 53 (.load (.st [.leaf,.leaf]) (.t 9)) 52 true,
 Lx 54 11 52 true,
 Lx 55 12 52 true,
 Lg 56 (.call .plain [] (.f Fz) [(.t 53),(.t 54),(.t 55),(.c (.int .i64 (-1)))]) 52 true,
 Lg 57 (.len false (.t 56)) 52 true,
 Lg 58 (.bin .eql (.t 57) (.c (.int .i64 0))) 52 true,
 Ll 59 (.pick (.t 52) (.t 58) (.c (.bool false))),
 Lw 6 59,
 Ll 7 (.mv (.c (.int .i64 0)))] [6,7])
 (.ret))))))))
def Zg:Fn:=
 { nparams:=3,nblk:=3,results:=[.tmp 6,.tmp 7],body:=Zg_B }
def Z5_B:Cd:=
 .seq (.region [Ll 2 (.box false 0 (.t 0)),
 Ll 3 (.box false 1 (.t 1)),
 Ll 4 (.mv (.c (.sl (.arr 64 .leaf) []))),
 Ll 5 (.mv (.c (.int .i64 0)))] [2,3])
 (.seq (.seq (.region [Ll 7 (.load (.st [.leaf,(.arr 64 .leaf),(.arr 64 .leaf),(.arr 64 .leaf)]) (.t 2)),
 Ll 8 (.load (.arr 64 .leaf) (.t 3)),
 Ll 9 (.buildSl false 2 (.arr 64 .leaf) (.arr 64 .leaf z64) 1 [(0,(.t 8))]),
 Ll 10 (.call .flat [] (.f Fr) [(.t 7),(.t 9)]),
 Lw 6 10] [2,3,6])
 (.seq (.region [Lw 11 6,
 Ll 12 (.bin .neq (.t 11) (.c (.int .i64 0)))] [2,3,6,12])
 (.cond (.t 12)
 (.seq (.region [Lw 13 6,
 Ll 4 (.mv (.c (.sl (.arr 64 .leaf) []))),
 Lw 5 13] [4,5])
 (.ret))
 (.skip))))
 (.seq (.seq (.region [Ll 14 (.load (.arr 64 .leaf) (.t 3)),
 Ll 15 (.call .plain [] (.f F1s) [(.t 14)]),
 Ll 16 (.call .flat [] (.f F1u) [(.t 15)]),
 Ll 17 (.bin .gtr (.t 16) (.c (.int .i64 5)))] [2,3,17])
 (.cond (.t 17)
 (.seq (.region [Ll 4 (.mv (.c (.sl (.arr 64 .leaf) []))),
 Ll 5 (.mv (.c (.int .i64 2)))] [4,5])
 (.ret))
 (.skip)))
 (.seq (.region [Ll 18 (.load (.st [.leaf,(.arr 64 .leaf),(.arr 64 .leaf),(.arr 64 .leaf)]) (.t 2)),
 Ll 19 (.load (.arr 64 .leaf) (.t 3)),
 Ll 20 (.call .plain [] (.f F1s) [(.t 19)]),
 Ll 21 (.call .plain [] (.f F7) [(.t 18),(.t 20)]),
 Ll 22 (.call .plain [] (.f F18) [(.t 21)]),
 Lw 4 22,
 Ll 5 (.mv (.c (.int .i64 0)))] [4,5])
 (.ret))))
def Z5:Fn:=
 { nparams:=2,nblk:=3,results:=[.tmp 4,.tmp 5],body:=Z5_B }
def Ze_B:Cd:=
 .seq (.region [Ll 1 (.box false 0 (.t 0)),
 Ll 2 (.box false 1 (.c (.arr 64 .leaf z64))),
 Ll 3 (.mv (.c (.int .i64 0)))] [1,2])
 (.seq (.seq (.region [Ll 6 (.load (.st [.leaf,(.arr 64 .leaf),(.arr 64 .leaf),(.arr 64 .leaf)]) (.t 1)),
 Ll 7 (.call .flat [] (.f Fr) [(.t 6),(.c (.sl (.arr 64 .leaf) []))]),
 Lw 4 7] [1,2,4])
 (.seq (.region [Lw 8 4,
 Ll 9 (.bin .neq (.t 8) (.c (.int .i64 0)))] [1,2,4,9])
 (.cond (.t 9)
 (.seq (.region [Ll 10 (.build false (.arr 64 .leaf z64) []),
 Lw 11 4,
 Ls (.store false (.arr 64 .leaf) (.t 2) (.t 10)),
 Lw 3 11] [2,3])
 (.ret))
 (.skip))))
 (.seq (.region [Ll 12 (.load (.st [.leaf,(.arr 64 .leaf),(.arr 64 .leaf),(.arr 64 .leaf)]) (.t 1)),
 Ll 13 (.call .plain [] (.f F8) [(.t 12)]),
 Ll 5 (.box false 2 (.c (.st [.leaf,.leaf] [(.int .i64 0),(.sl .leaf [])]))),
 Ls (.store false (.st [.leaf,.leaf]) (.t 5) (.t 13))] [1,2,5])
 (.seq (.region [Ll 14 (.load (.st [.leaf,.leaf]) (.t 5)),
 Ll 15 (.fldA [.leaf,.leaf] (.t 5) 0),
 Ll 16 (.load .leaf (.t 15)),
 Ll 17 (.fldA [.leaf,(.arr 64 .leaf),(.arr 64 .leaf),(.arr 64 .leaf)] (.t 1) 2),
 Ll 18 (.load (.arr 64 .leaf) (.t 17)),
 Ll 19 (.call .plain [] (.f F1s) [(.t 18)]),
 Ll 20 (.fldA [.leaf,(.arr 64 .leaf),(.arr 64 .leaf),(.arr 64 .leaf)] (.t 1) 0),
 Ll 21 (.load .leaf (.t 20)),
 Ll 22 (.bin .add (.t 21) (.c (.int .i64 1))),
 Ll 23 (.fldA [.leaf,.leaf] (.t 5) 1),
 Ll 24 (.load .leaf (.t 23)),
 Ll 25 (.call .plain [] (.f F1l) [(.t 16),(.t 19),(.t 22),(.t 24)]),
 Ll 26 (.load (.st [.leaf,.leaf]) (.t 5)),
 Ll 27 (.fldA [.leaf,(.arr 64 .leaf),(.arr 64 .leaf),(.arr 64 .leaf)] (.t 1) 3),
 Ll 28 (.load (.arr 64 .leaf) (.t 27)),
 Ll 29 (.call .plain [] (.f F1s) [(.t 28)]),
 Ll 30 (.call .plain [] (.f Fw) [(.t 26),(.t 29)]),
 Ll 31 (.call .plain [] (.f F10) [(.t 14),(.t 25),(.t 30)]),
 Ll 32 (.call .flat [] (.f F23) [(.t 31)]),
 Ll 33 (.ext (.t 32) 0),
 Ll 34 (.ext (.t 32) 1),
 Ls (.store false (.arr 64 .leaf) (.t 2) (.t 33)),
 Lw 3 34] [2,3])
 (.ret))))
def Ze:Fn:=
 { nparams:=1,nblk:=3,results:=[.cell 2 (.arr 64 .leaf),.tmp 3],body:=Ze_B }
def Z4_L0:Cd:=
 .seq (.seq (.region [Lw 17 8,
 Ll 18 (.fldA [.leaf,.leaf] (.t 7) 0),
 Ll 19 (.load .leaf (.t 18)),
 Ll 20 (.fldA [.leaf,.leaf] (.t 7) 1),
 Ll 21 (.load .leaf (.t 20)),
 Ll 22 (.call .flat [] (.f F1u) [(.t 21)]),
 Ll 23 (.call .flat [] (.f F1j) [(.t 19),(.t 22),(.c (.int .i64 1099511627776))]),
 Ll 24 (.bin .lss (.t 17) (.t 23))] [2,3,7,8,24])
 (.cond (.t 24)
 (.skip)
 (.exit 0)))
 (.seq (.block 1 (.seq (.region [Ll 27 (.load (.st [.leaf,(.arr 64 .leaf),(.arr 64 .leaf),(.arr 64 .leaf)]) (.t 2)),
 Ll 28 (.fldA [.leaf,.leaf] (.t 7) 0),
 Ll 29 (.load .leaf (.t 28)),
 Lw 30 8,
 Ll 31 (.call .plain [] (.f F1k) [(.t 29),(.t 30)]),
 Ll 32 (.call .flat [] (.f Fb) [(.t 27),(.t 31)]),
 Ll 33 (.load (.st [.leaf,(.arr 64 .leaf),(.arr 64 .leaf),(.arr 64 .leaf)]) (.t 3)),
 Ll 34 (.eqv false (.st [.leaf,(.arr 64 .leaf),(.arr 64 .leaf),(.arr 64 .leaf)] [.int,(.arr 64 .leaf .int),(.arr 64 .leaf .int),(.arr 64 .leaf .int)]) (.t 32) (.t 33))] [2,3,7,8,34])
 (.cond (.t 34)
 (.seq (.region [Ll 4 (.mv (.c (.bool true))),
 Ll 5 (.mv (.c (.int .i64 0)))] [4,5])
 (.ret))
 (.skip))))
 (.region [Lw 25 8,
 Ll 26 (.bin .add (.t 25) (.c (.int .i64 1))),
 Lw 8 26] [2,3,7,8]))
def Z4_B:Cd:=
 .seq (.region [Ll 2 (.box false 0 (.t 0)),
 Ll 3 (.box false 1 (.t 1)),
 Ll 4 (.mv (.c (.bool false))),
 Ll 5 (.mv (.c (.int .i64 0)))] [2,3])
 (.seq (.seq (.region [Ll 9 (.load (.st [.leaf,(.arr 64 .leaf),(.arr 64 .leaf),(.arr 64 .leaf)]) (.t 2)),
 Ll 10 (.load (.st [.leaf,(.arr 64 .leaf),(.arr 64 .leaf),(.arr 64 .leaf)]) (.t 3)),
 Ll 11 (.call .flat [] (.f F17) [(.t 9),(.t 10)]),
 Lw 6 11] [2,3,6])
 (.seq (.region [Lw 12 6,
 Ll 13 (.bin .neq (.t 12) (.c (.int .i64 0)))] [2,3,6,13])
 (.cond (.t 13)
 (.seq (.region [Lw 14 6,
 Ll 4 (.mv (.c (.bool false))),
 Lw 5 14] [4,5])
 (.ret))
 (.skip))))
 (.seq (.region [Ll 15 (.load (.st [.leaf,(.arr 64 .leaf),(.arr 64 .leaf),(.arr 64 .leaf)]) (.t 2)),
 Ll 16 (.call .plain [] (.f F8) [(.t 15)]),
 Ll 7 (.box false 2 (.c (.st [.leaf,.leaf] [(.int .i64 0),(.sl .leaf [])]))),
 Ls (.store false (.st [.leaf,.leaf]) (.t 7) (.t 16))] [2,3,7])
 (.seq (.seq (.region [Ll 8 (.mv (.c (.int .i64 1)))] [2,3,7,8])
 (.block 0 (.loop (Z4_L0))))
 (.seq (.region [Ll 4 (.mv (.c (.bool false))),
 Ll 5 (.mv (.c (.int .i64 0)))] [4,5])
 (.ret)))))
def Z4:Fn:=
 { nparams:=2,nblk:=3,results:=[.tmp 4,.tmp 5],body:=Z4_B }
end Pe

/-
 Functions of the program in the small form,printed by a program.
-/
namespace Pe
open Go
def Z3g_L0:Cd:=
 .seq (.seq (.region [Lw 4 3,
 Ll 5 (.bin .geq (.t 4) (.c (.int .i64 0))),
 Lw 6 5,
 Lx 7 3 6 true,
 Lg 8 (.idxA (some 64) .leaf (.t 1) (.t 7)) 6 true,
 Lg 9 (.load .leaf (.t 8)) 6 true,
 Lg 10 (.bin .eql (.t 9) (.c (.int .u8 0))) 6 true,
 Ll 11 (.pick (.t 6) (.t 10) (.c (.bool false)))] [1,3,11])
 (.cond (.t 11)
 (.skip)
 (.exit 0)))
 (.block 1 (.region [Lw 12 3,
 Ll 13 (.bin .sub (.t 12) (.c (.int .i64 1))),
 Lw 3 13] [1,3]))
def Z3g_B:Cd:=
 .seq (.region [Ll 1 (.box false 0 (.t 0)),
 Ll 2 (.mv (.c (.int .i64 0)))] [1])
 (.seq (.region [Ll 3 (.mv (.c (.int .i64 63)))] [1,3])
 (.seq (.block 0 (.loop (Z3g_L0)))
 (.seq (.region [Lw 14 3,
 Lw 2 14] [2])
 (.ret))))
def Z3g:Fn:=
 { nparams:=1,nblk:=1,results:=[.tmp 2],body:=Z3g_B }
def Z3l_B:Cd:=
 .seq (.region [Ll 6 (.mv (.c (.bool false)))] [0,1,2])
 (.seq (.region [Lw 7 0,
 Lw 8 1,
 Ll 9 (.bin .geq (.t 7) (.t 8)),
 Lw 10 9,
 Lx 11 0 10 true,
 Lx 12 2 10 true,
 Lg 13 (.bin .leq (.t 11) (.t 12)) 10 true,
 Ll 14 (.pick (.t 10) (.t 13) (.c (.bool false))),
 Lw 6 14] [6])
 (.ret))
def Z3l:Fn:=
 { nparams:=3,nblk:=0,results:=[.tmp 6],body:=Z3l_B }
def Z3x_B:Cd:=
 .seq (.region [Ll 2 (.mv (.c (.bool false)))] [0])
 (.seq (.region [Lw 3 0,
 Ll 4 (.bin .eql (.t 3) (.c (.int .i64 2))),
 Lw 5 4,
 Lx 6 0 5 false,
 Lg 7 (.bin .eql (.t 6) (.c (.int .i64 3))) 5 false,
 Ll 8 (.pick (.t 5) (.c (.bool true)) (.t 7)),
 Lw 9 8,
 Lx 10 0 9 false,
 Lg 11 (.bin .eql (.t 10) (.c (.int .i64 5))) 9 false,
 Ll 12 (.pick (.t 9) (.c (.bool true)) (.t 11)),
 Lw 13 12,
 Lx 14 0 13 false,
 Lg 15 (.bin .eql (.t 14) (.c (.int .i64 7))) 13 false,
 Ll 16 (.pick (.t 13) (.c (.bool true)) (.t 15)),
 Lw 2 16] [2])
 (.ret))
def Z3x:Fn:=
 { nparams:=1,nblk:=0,results:=[.tmp 2],body:=Z3x_B }
def Z3o_L0:Cd:=
 .seq (.seq (.region [Lw 6 5,
 Ll 7 (.bin .lss (.t 6) (.c (.int .i64 64)))] [0,3,5,7])
 (.cond (.t 7)
 (.skip)
 (.exit 0)))
 (.seq (.block 1 (.seq (.region [Lw 10 5,
 Ll 11 (.idxA (some 64) .leaf (.t 3) (.t 10)),
 Ll 12 (.load .leaf (.t 11)),
 Ll 13 (.conv .i64 (.t 12)),
 Lw 14 0,
 Ll 15 (.bin .geq (.t 13) (.t 14))] [0,3,5,15])
 (.cond (.t 15)
 (.seq (.region [Ll 4 (.mv (.c (.bool false)))] [4])
 (.ret))
 (.skip))))
 (.region [Lw 8 5,
 Ll 9 (.bin .add (.t 8) (.c (.int .i64 1))),
 Lw 5 9] [0,3,5]))
def Z3o_B:Cd:=
 .seq (.region [Ll 3 (.box false 0 (.t 1)),
 Ll 4 (.mv (.c (.bool false)))] [0,3])
 (.seq (.seq (.region [Ll 5 (.mv (.c (.int .i64 0)))] [0,3,5])
 (.block 0 (.loop (Z3o_L0))))
 (.seq (.region [Lw 16 0,
 Ll 17 (.call .flat [] (.f F3x) [(.t 16)]),
 Lw 4 17] [4])
 (.ret)))
def Z3o:Fn:=
 { nparams:=2,nblk:=1,results:=[.tmp 4],body:=Z3o_B }
def Z3e_L0:Cd:=
 .seq (.seq (.region [Lw 9 5,
 Lw 10 1,
 Ll 11 (.len false (.t 10)),
 Ll 12 (.bin .lss (.t 9) (.t 11))] [0,1,5,12])
 (.cond (.t 12)
 (.skip)
 (.exit 0)))
 (.seq (.block 1 (.seq (.region [Lw 15 0,
 Lw 16 1,
 Lw 17 5,
 Ll 18 (.idxA none (.arr 64 .leaf) (.t 16) (.t 17)),
 Ll 19 (.load (.arr 64 .leaf) (.t 18)),
 Ll 20 (.call .flat [] (.f F3o) [(.t 15),(.t 19)]),
 Ll 21 (.un .not (.t 20))] [0,1,5,21])
 (.cond (.t 21)
 (.seq (.region [Ll 4 (.mv (.c (.int .i64 1)))] [4])
 (.ret))
 (.skip))))
 (.region [Lw 13 5,
 Ll 14 (.bin .add (.t 13) (.c (.int .i64 1))),
 Lw 5 14] [0,1,5]))
def Z3e_B:Cd:=
 .seq (.region [Ll 4 (.mv (.c (.int .i64 0)))] [0,1])
 (.seq (.seq (.region [Lw 6 0,
 Ll 7 (.call .flat [] (.f F3x) [(.t 6)]),
 Ll 8 (.un .not (.t 7))] [0,1,8])
 (.cond (.t 8)
 (.seq (.region [Ll 4 (.mv (.c (.int .i64 1)))] [4])
 (.ret))
 (.skip)))
 (.seq (.seq (.region [Ll 5 (.mv (.c (.int .i64 0)))] [0,1,5])
 (.block 0 (.loop (Z3e_L0))))
 (.seq (.region [Ll 4 (.mv (.c (.int .i64 0)))] [4])
 (.ret))))
def Z3e:Fn:=
 { nparams:=2,nblk:=0,results:=[.tmp 4],body:=Z3e_B }
def Z3q_B:Cd:=
 .seq (.region [Ll 1 (.box false 0 (.t 0)),
 Ll 2 (.mv (.c (.bool false)))] [1])
 (.seq (.region [Ll 4 (.load (.arr 64 .leaf) (.t 1)),
 Ll 5 (.call .flat [] (.f F3g) [(.t 4)]),
 Lw 3 5] [1,3])
 (.seq (.region [Lw 6 3,
 Ll 7 (.bin .geq (.t 6) (.c (.int .i64 0))),
 Lw 8 7,
 Lx 9 3 8 true,
 Lg 10 (.idxA (some 64) .leaf (.t 1) (.t 9)) 8 true,
 Lg 11 (.load .leaf (.t 10)) 8 true,
 Lg 12 (.bin .eql (.t 11) (.c (.int .u8 1))) 8 true,
 Ll 13 (.pick (.t 8) (.t 12) (.c (.bool false))),
 Lw 2 13] [2])
 (.ret)))
def Z3q:Fn:=
 { nparams:=1,nblk:=1,results:=[.tmp 2],body:=Z3q_B }
def Z3f_L0:Cd:=
 .seq (.seq (.region [Lw 6 1,
 Ll 7 (.bin .gtr (.t 6) (.c (.int .i64 0))),
 Lw 8 7,
 Lx 9 5 8 true,
 Lg 10 (.bin .leq (.t 9) (.c (.int .i64 1000000000000))) 8 true,
 Ll 11 (.pick (.t 8) (.t 10) (.c (.bool false)))] [0,1,5,11])
 (.cond (.t 11)
 (.skip)
 (.exit 0)))
 (.seq (.block 1 (.region [Lw 14 5,
 Lw 15 0,
 Ll 16 (.bin .mul (.t 14) (.t 15)),
 Lw 5 16] [0,1,5]))
 (.region [Lw 12 1,
 Ll 13 (.bin .sub (.t 12) (.c (.int .i64 1))),
 Lw 1 13] [0,1,5]))
def Z3f_B:Cd:=
 .seq (.region [Ll 4 (.mv (.c (.int .i64 0)))] [0,1])
 (.seq (.region [Ll 5 (.mv (.c (.int .i64 1)))] [0,1,5])
 (.seq (.block 0 (.loop (Z3f_L0)))
 (.seq (.region [Lw 17 5,
 Ll 18 (.minI (.t 17) (.c (.int .i64 1000000000001))),
 Lw 4 18] [4])
 (.ret))))
def Z3f:Fn:=
 { nparams:=2,nblk:=0,results:=[.tmp 4],body:=Z3f_B }
def Z3m_L0:Cd:=
 .seq (.seq (.region [Lw 6 5,
 Lw 7 0,
 Ll 8 (.bin .lss (.t 6) (.t 7))] [0,1,5,8])
 (.cond (.t 8)
 (.skip)
 (.exit 0)))
 (.seq (.block 1 (.seq (.region [Lw 11 5,
 Lw 12 1,
 Ll 13 (.conv .i64 (.t 12)),
 Ll 14 (.bin .mul (.t 11) (.t 13)),
 Lw 15 0,
 Ll 16 (.bin .rem (.t 14) (.t 15)),
 Ll 17 (.bin .eql (.t 16) (.c (.int .i64 1)))] [0,1,5,17])
 (.cond (.t 17)
 (.seq (.region [Lw 18 5,
 Ll 19 (.conv .u8 (.t 18)),
 Lw 4 19] [4])
 (.ret))
 (.skip))))
 (.region [Lw 9 5,
 Ll 10 (.bin .add (.t 9) (.c (.int .i64 1))),
 Lw 5 10] [0,1,5]))
def Z3m_B:Cd:=
 .seq (.region [Ll 4 (.mv (.c (.int .u8 0)))] [0,1])
 (.seq (.seq (.region [Ll 5 (.mv (.c (.int .i64 1)))] [0,1,5])
 (.block 0 (.loop (Z3m_L0))))
 (.seq (.region [Ll 4 (.mv (.c (.int .u8 0)))] [4])
 (.ret)))
def Z3m:Fn:=
 { nparams:=2,nblk:=0,results:=[.tmp 4],body:=Z3m_B }
def Z3h_L0:Cd:=
 .seq (.seq (.region [Lw 44 13,
 Lw 45 9,
 Ll 46 (.bin .leq (.t 44) (.t 45)),
 Lw 47 46,
 Lx 48 12 47 true,
 Lg 49 (.bin .neq (.t 48) (.c (.int .i64 0))) 47 true,
 Ll 50 (.pick (.t 47) (.t 49) (.c (.bool false)))] [0,4,5,6,7,8,9,10,11,12,13,50])
 (.cond (.t 50)
 (.skip)
 (.exit 2)))
 (.seq (.block 3 (.region [Lw 53 11,
 Lw 54 9,
 Ll 55 (.bin .sub (.t 53) (.t 54)),
 Lw 56 13,
 Ll 57 (.bin .add (.t 55) (.t 56)),
 Lw 58 11,
 Lw 59 9,
 Ll 60 (.bin .sub (.t 58) (.t 59)),
 Lw 61 13,
 Ll 62 (.bin .add (.t 60) (.t 61)),
 Ll 63 (.idxA (some 64) .leaf (.t 4) (.t 62)),
 Ll 64 (.load .leaf (.t 63)),
 Ll 65 (.conv .i64 (.t 64)),
 Lw 66 12,
 Lw 67 13,
 Ll 68 (.idxA (some 64) .leaf (.t 5) (.t 67)),
 Ll 69 (.load .leaf (.t 68)),
 Ll 70 (.conv .i64 (.t 69)),
 Ll 71 (.bin .mul (.t 66) (.t 70)),
 Ll 72 (.bin .sub (.t 65) (.t 71)),
 Lw 73 0,
 Ll 74 (.bin .rem (.t 72) (.t 73)),
 Lw 75 0,
 Ll 76 (.bin .add (.t 74) (.t 75)),
 Lw 77 0,
 Ll 78 (.bin .rem (.t 76) (.t 77)),
 Ll 79 (.conv .u8 (.t 78)),
 Ll 80 (.idxA (some 64) .leaf (.t 4) (.t 57)),
 Ls (.store false .leaf (.t 80) (.t 79))] [0,4,5,6,7,8,9,10,11,12,13]))
 (.region [Lw 51 13,
 Ll 52 (.bin .add (.t 51) (.c (.int .i64 1))),
 Lw 13 52] [0,4,5,6,7,8,9,10,11,12,13]))
def Z3h_L1:Cd:=
 .seq (.seq (.region [Lw 25 11,
 Lw 26 9,
 Ll 27 (.bin .geq (.t 25) (.t 26))] [0,4,5,6,7,8,9,10,11,27])
 (.cond (.t 27)
 (.skip)
 (.exit 0)))
 (.seq (.block 1 (.seq (.region [Lw 30 11,
 Ll 31 (.idxA (some 64) .leaf (.t 4) (.t 30)),
 Ll 32 (.load .leaf (.t 31)),
 Ll 33 (.conv .i64 (.t 32)),
 Lw 34 10,
 Ll 35 (.bin .mul (.t 33) (.t 34)),
 Lw 36 0,
 Ll 37 (.bin .rem (.t 35) (.t 36)),
 Lw 12 37] [0,4,5,6,7,8,9,10,11,12])
 (.seq (.region [Lw 38 11,
 Lw 39 9,
 Ll 40 (.bin .sub (.t 38) (.t 39)),
 Lw 41 12,
 Ll 42 (.conv .u8 (.t 41)),
 Ll 43 (.idxA (some 64) .leaf (.t 8) (.t 40)),
 Ls (.store false .leaf (.t 43) (.t 42))] [0,4,5,6,7,8,9,10,11,12])
 (.seq (.region [Ll 13 (.mv (.c (.int .i64 0)))] [0,4,5,6,7,8,9,10,11,12,13])
 (.block 2 (.loop (Z3h_L0)))))))
 (.region [Lw 28 11,
 Ll 29 (.bin .sub (.t 28) (.c (.int .i64 1))),
 Lw 11 29] [0,4,5,6,7,8,9,10,11]))
def Z3h_B:Cd:=
 .seq (.region [Ll 4 (.box false 0 (.t 1)),
 Ll 5 (.box false 1 (.t 2)),
 Ll 6 (.box false 2 (.c (.arr 64 .leaf z64))),
 Ll 7 (.box false 3 (.c (.arr 64 .leaf z64)))] [0,4,5,6,7])
 (.seq (.region [Ll 14 (.build false (.arr 64 .leaf z64) []),
 Ll 15 (.load (.arr 64 .leaf) (.t 5)),
 Ll 16 (.call .flat [] (.f F3g) [(.t 15)]),
 Ll 8 (.box false 4 (.c (.arr 64 .leaf z64))),
 Ls (.store false (.arr 64 .leaf) (.t 8) (.t 14)),
 Lw 9 16] [0,4,5,6,7,8,9])
 (.seq (.region [Lw 17 0,
 Lw 18 9,
 Ll 19 (.idxA (some 64) .leaf (.t 5) (.t 18)),
 Ll 20 (.load .leaf (.t 19)),
 Ll 21 (.call .flat [] (.f F3m) [(.t 17),(.t 20)]),
 Ll 22 (.conv .i64 (.t 21)),
 Lw 10 22] [0,4,5,6,7,8,9,10])
 (.seq (.seq (.region [Ll 23 (.load (.arr 64 .leaf) (.t 4)),
 Ll 24 (.call .flat [] (.f F3g) [(.t 23)]),
 Lw 11 24] [0,4,5,6,7,8,9,10,11])
 (.block 0 (.loop (Z3h_L1))))
 (.seq (.region [Ll 81 (.load (.arr 64 .leaf) (.t 8)),
 Ll 82 (.load (.arr 64 .leaf) (.t 4)),
 ⟨none,.store false (.arr 64 .leaf) (.t 6) (.t 81),none,[4]⟩,
 Ls (.store false (.arr 64 .leaf) (.t 7) (.t 82))] [6,7])
 (.ret)))))
def Z3h:Fn:=
 { nparams:=3,nblk:=5,results:=[.cell 6 (.arr 64 .leaf),.cell 7 (.arr 64 .leaf)],body:=Z3h_B }
def Z3p_B:Cd:=
 .seq (.region [Ll 4 (.box false 0 (.t 1)),
 Ll 5 (.box false 1 (.t 2)),
 Ll 6 (.box false 2 (.c (.arr 64 .leaf z64)))] [0,4,5,6])
 (.seq (.region [Lw 10 0,
 Ll 11 (.load (.arr 64 .leaf) (.t 4)),
 Ll 12 (.load (.arr 64 .leaf) (.t 5)),
 Ll 13 (.call .flat [] (.f F3h) [(.t 10),(.t 11),(.t 12)]),
 Lw 9 13,
 Ll 14 (.ext (.t 9) 0),
 Ll 15 (.ext (.t 9) 1),
 Ll 7 (.box false 3 (.c (.arr 64 .leaf z64))),
 Ll 8 (.box false 4 (.c (.arr 64 .leaf z64))),
 Ls (.store false (.arr 64 .leaf) (.t 7) (.t 14)),
 Ls (.store false (.arr 64 .leaf) (.t 8) (.t 15))] [6,8])
 (.seq (.region [Ll 16 (.load (.arr 64 .leaf) (.t 8)),
 Ls (.store false (.arr 64 .leaf) (.t 6) (.t 16))] [6])
 (.ret)))
def Z3p:Fn:=
 { nparams:=3,nblk:=5,results:=[.cell 6 (.arr 64 .leaf)],body:=Z3p_B }
def Z3u_B:Cd:=
 .seq (.region [Ll 0 (.box false 0 (.c (.arr 64 .leaf z64)))] [0])
 (.seq (.region [Ll 1 (.build false (.arr 64 .leaf z64) [(0,(.c (.int .u8 1)))]),
 Ls (.store false (.arr 64 .leaf) (.t 0) (.t 1))] [0])
 (.ret))
def Z3u:Fn:=
 { nparams:=0,nblk:=1,results:=[.cell 0 (.arr 64 .leaf)],body:=Z3u_B }
def Z3c_L0:Cd:=
 .seq (.seq (.region [Lw 10 9,
 Ll 11 (.bin .lss (.t 10) (.c (.int .i64 64)))] [0,3,5,6,8,9,11])
 (.cond (.t 11)
 (.skip)
 (.exit 0)))
 (.seq (.block 1 (.region [Lw 14 9,
 Lw 15 9,
 Ll 16 (.idxA (some 64) .leaf (.t 5) (.t 15)),
 Ll 17 (.load .leaf (.t 16)),
 Ll 18 (.conv .i64 (.t 17)),
 Lw 19 3,
 Lw 20 9,
 Ll 21 (.idxA (some 64) .leaf (.t 6) (.t 20)),
 Ll 22 (.load .leaf (.t 21)),
 Ll 23 (.conv .i64 (.t 22)),
 Ll 24 (.bin .mul (.t 19) (.t 23)),
 Ll 25 (.bin .add (.t 18) (.t 24)),
 Lw 26 0,
 Ll 27 (.bin .rem (.t 25) (.t 26)),
 Lw 28 0,
 Ll 29 (.bin .add (.t 27) (.t 28)),
 Lw 30 0,
 Ll 31 (.bin .rem (.t 29) (.t 30)),
 Ll 32 (.conv .u8 (.t 31)),
 Ll 33 (.idxA (some 64) .leaf (.t 5) (.t 14)),
 Ls (.store false .leaf (.t 33) (.t 32))] [0,3,5,6,8,9]))
 (.region [Lw 12 9,
 Ll 13 (.bin .add (.t 12) (.c (.int .i64 1))),
 Lw 9 13] [0,3,5,6,8,9]))
def Z3c_B:Cd:=
 .seq (.region [Ll 5 (.box false 0 (.t 1)),
 Ll 6 (.box false 1 (.t 2)),
 Ll 8 (.box false 2 (.c (.arr 64 .leaf z64)))] [0,3,5,6,8])
 (.seq (.seq (.region [Ll 9 (.mv (.c (.int .i64 0)))] [0,3,5,6,8,9])
 (.block 0 (.loop (Z3c_L0))))
 (.seq (.region [Ll 34 (.load (.arr 64 .leaf) (.t 5)),
 Ls (.store false (.arr 64 .leaf) (.t 8) (.t 34))] [8])
 (.ret)))
def Z3c:Fn:=
 { nparams:=4,nblk:=3,results:=[.cell 8 (.arr 64 .leaf)],body:=Z3c_B }
def Z40_L0:Cd:=
 .seq (.seq (.region [Lw 24 10,
 Lw 25 7,
 Ll 26 (.bin .lss (.t 24) (.t 25))] [0,4,5,6,7,8,9,10,26])
 (.cond (.t 26)
 (.skip)
 (.exit 0)))
 (.seq (.block 1 (.region [Lw 29 10,
 Lw 30 10,
 Ll 31 (.bin .sub (.t 30) (.c (.int .i64 1))),
 Ll 32 (.idxA (some 64) .leaf (.t 4) (.t 31)),
 Ll 33 (.load .leaf (.t 32)),
 Ll 34 (.idxA (some 64) .leaf (.t 9) (.t 29)),
 Ls (.store false .leaf (.t 34) (.t 33))] [0,4,5,6,7,8,9,10]))
 (.region [Lw 27 10,
 Ll 28 (.bin .add (.t 27) (.c (.int .i64 1))),
 Lw 10 28] [0,4,5,6,7,8,9,10]))
def Z40_L1:Cd:=
 .seq (.seq (.region [Lw 45 12,
 Lw 46 7,
 Ll 47 (.bin .lss (.t 45) (.t 46))] [0,5,6,7,9,11,12,47])
 (.cond (.t 47)
 (.skip)
 (.exit 2)))
 (.seq (.block 3 (.region [Lw 50 12,
 Lw 51 12,
 Ll 52 (.idxA (some 64) .leaf (.t 9) (.t 51)),
 Ll 53 (.load .leaf (.t 52)),
 Ll 54 (.conv .i64 (.t 53)),
 Lw 55 11,
 Lw 56 12,
 Ll 57 (.idxA (some 64) .leaf (.t 5) (.t 56)),
 Ll 58 (.load .leaf (.t 57)),
 Ll 59 (.conv .i64 (.t 58)),
 Ll 60 (.bin .mul (.t 55) (.t 59)),
 Ll 61 (.bin .sub (.t 54) (.t 60)),
 Lw 62 0,
 Ll 63 (.bin .rem (.t 61) (.t 62)),
 Lw 64 0,
 Ll 65 (.bin .add (.t 63) (.t 64)),
 Lw 66 0,
 Ll 67 (.bin .rem (.t 65) (.t 66)),
 Ll 68 (.conv .u8 (.t 67)),
 Ll 69 (.idxA (some 64) .leaf (.t 9) (.t 50)),
 Ls (.store false .leaf (.t 69) (.t 68))] [0,5,6,7,9,11,12]))
 (.region [Lw 48 12,
 Ll 49 (.bin .add (.t 48) (.c (.int .i64 1))),
 Lw 12 49] [0,5,6,7,9,11,12]))
def Z40_B:Cd:=
 .seq (.region [Ll 4 (.box false 0 (.t 1)),
 Ll 5 (.box false 1 (.t 2)),
 Ll 6 (.box false 2 (.c (.arr 64 .leaf z64)))] [0,4,5,6])
 (.seq (.region [Ll 13 (.load (.arr 64 .leaf) (.t 5)),
 Ll 14 (.call .flat [] (.f F3g) [(.t 13)]),
 Lw 7 14] [0,4,5,6,7])
 (.seq (.seq (.region [Lw 15 7,
 Ll 16 (.bin .eql (.t 15) (.c (.int .i64 0)))] [0,4,5,6,7,16])
 (.cond (.t 16)
 (.seq (.region [Ll 17 (.build false (.arr 64 .leaf z64) []),
 Ls (.store false (.arr 64 .leaf) (.t 6) (.t 17))] [6])
 (.ret))
 (.skip)))
 (.seq (.region [Lw 18 7,
 Ll 19 (.bin .sub (.t 18) (.c (.int .i64 1))),
 Ll 20 (.idxA (some 64) .leaf (.t 4) (.t 19)),
 Ll 21 (.load .leaf (.t 20)),
 Ll 22 (.conv .i64 (.t 21)),
 Ll 23 (.build false (.arr 64 .leaf z64) []),
 Ll 9 (.box false 3 (.c (.arr 64 .leaf z64))),
 Lw 8 22,
 Ls (.store false (.arr 64 .leaf) (.t 9) (.t 23))] [0,4,5,6,7,8,9])
 (.seq (.seq (.region [Ll 10 (.mv (.c (.int .i64 1)))] [0,4,5,6,7,8,9,10])
 (.block 0 (.loop (Z40_L0))))
 (.seq (.region [Lw 35 8,
 Lw 36 0,
 Lw 37 7,
 Ll 38 (.idxA (some 64) .leaf (.t 5) (.t 37)),
 Ll 39 (.load .leaf (.t 38)),
 Ll 40 (.call .flat [] (.f F3m) [(.t 36),(.t 39)]),
 Ll 41 (.conv .i64 (.t 40)),
 Ll 42 (.bin .mul (.t 35) (.t 41)),
 Lw 43 0,
 Ll 44 (.bin .rem (.t 42) (.t 43)),
 Lw 11 44] [0,5,6,7,9,11])
 (.seq (.seq (.region [Ll 12 (.mv (.c (.int .i64 0)))] [0,5,6,7,9,11,12])
 (.block 2 (.loop (Z40_L1))))
 (.seq (.region [Ll 70 (.load (.arr 64 .leaf) (.t 9)),
 Ls (.store false (.arr 64 .leaf) (.t 6) (.t 70))] [6])
 (.ret))))))))
def Z40:Fn:=
 { nparams:=3,nblk:=4,results:=[.cell 6 (.arr 64 .leaf)],body:=Z40_B }
def Z3r_L0:Cd:=
 .seq (.seq (.region [Lw 14 10,
 Ll 15 (.bin .geq (.t 14) (.c (.int .i64 0)))] [0,5,6,7,8,9,10,15])
 (.cond (.t 15)
 (.skip)
 (.exit 0)))
 (.seq (.block 1 (.seq (.region [Lw 18 0,
 Ll 19 (.load (.arr 64 .leaf) (.t 9)),
 Ll 20 (.load (.arr 64 .leaf) (.t 7)),
 Ll 21 (.call .flat [] (.f F40) [(.t 18),(.t 19),(.t 20)]),
 Ls (.store false (.arr 64 .leaf) (.t 9) (.t 21))] [0,5,6,7,8,9,10])
 (.region [Lw 22 0,
 Lw 23 0,
 Ll 24 (.load (.arr 64 .leaf) (.t 9)),
 Ll 25 (.load (.arr 64 .leaf) (.t 5)),
 Lw 26 10,
 Ll 27 (.idxA (some 64) .leaf (.t 6) (.t 26)),
 Ll 28 (.load .leaf (.t 27)),
 Ll 29 (.conv .i64 (.t 28)),
 Ll 30 (.call .flat [] (.f F3c) [(.t 23),(.t 24),(.t 25),(.t 29)]),
 Ll 31 (.load (.arr 64 .leaf) (.t 7)),
 Ll 32 (.call .flat [] (.f F3p) [(.t 22),(.t 30),(.t 31)]),
 Ls (.store false (.arr 64 .leaf) (.t 9) (.t 32))] [0,5,6,7,8,9,10])))
 (.region [Lw 16 10,
 Ll 17 (.bin .sub (.t 16) (.c (.int .i64 1))),
 Lw 10 17] [0,5,6,7,8,9,10]))
def Z3r_B:Cd:=
 .seq (.region [Ll 5 (.box false 0 (.t 1)),
 Ll 6 (.box false 1 (.t 2)),
 Ll 7 (.box false 2 (.t 3)),
 Ll 8 (.box false 3 (.c (.arr 64 .leaf z64)))] [0,5,6,7,8])
 (.seq (.region [Ll 11 (.build false (.arr 64 .leaf z64) []),
 Ll 9 (.box false 4 (.c (.arr 64 .leaf z64))),
 Ls (.store false (.arr 64 .leaf) (.t 9) (.t 11))] [0,5,6,7,8,9])
 (.seq (.seq (.region [Ll 12 (.load (.arr 64 .leaf) (.t 6)),
 Ll 13 (.call .flat [] (.f F3g) [(.t 12)]),
 Lw 10 13] [0,5,6,7,8,9,10])
 (.block 0 (.loop (Z3r_L0))))
 (.seq (.region [Ll 33 (.load (.arr 64 .leaf) (.t 9)),
 Ls (.store false (.arr 64 .leaf) (.t 8) (.t 33))] [8])
 (.ret))))
def Z3r:Fn:=
 { nparams:=4,nblk:=5,results:=[.cell 8 (.arr 64 .leaf)],body:=Z3r_B }
def Z3w_L0:Cd:=
 .seq (.seq (.region [Lw 19 2,
 Ll 20 (.bin .gtr (.t 19) (.c (.int .i64 0)))] [0,2,7,8,9,10,20])
 (.cond (.t 20)
 (.skip)
 (.exit 0)))
 (.seq (.block 1 (.seq (.seq (.region [Lw 23 2,
 Ll 24 (.bin .rem (.t 23) (.c (.int .i64 2))),
 Ll 25 (.bin .eql (.t 24) (.c (.int .i64 1)))] [0,2,7,8,9,10,25])
 (.cond (.t 25)
 (.region [Lw 26 0,
 Ll 27 (.load (.arr 64 .leaf) (.t 9)),
 Ll 28 (.load (.arr 64 .leaf) (.t 10)),
 Ll 29 (.load (.arr 64 .leaf) (.t 7)),
 Ll 30 (.call .flat [] (.f F3r) [(.t 26),(.t 27),(.t 28),(.t 29)]),
 Ls (.store false (.arr 64 .leaf) (.t 9) (.t 30))] [0,2,7,8,9,10])
 (.skip)))
 (.region [Lw 31 0,
 Ll 32 (.load (.arr 64 .leaf) (.t 10)),
 Ll 33 (.load (.arr 64 .leaf) (.t 10)),
 Ll 34 (.load (.arr 64 .leaf) (.t 7)),
 Ll 35 (.call .flat [] (.f F3r) [(.t 31),(.t 32),(.t 33),(.t 34)]),
 Ls (.store false (.arr 64 .leaf) (.t 10) (.t 35))] [0,2,7,8,9,10])))
 (.region [Lw 21 2,
 Ll 22 (.bin .quo (.t 21) (.c (.int .i64 2))),
 Lw 2 22] [0,2,7,8,9,10]))
def Z3w_B:Cd:=
 .seq (.region [Ll 5 (.box false 0 (.t 1)),
 Ll 7 (.box false 1 (.t 3)),
 Ll 8 (.box false 2 (.c (.arr 64 .leaf z64)))] [0,2,5,7,8])
 (.seq (.region [Lw 11 0,
 Ll 12 (.call .flat [] (.f F3u) []),
 Ll 13 (.load (.arr 64 .leaf) (.t 7)),
 Ll 14 (.call .flat [] (.f F3p) [(.t 11),(.t 12),(.t 13)]),
 Lw 15 0,
 Ll 16 (.load (.arr 64 .leaf) (.t 5)),
 Ll 17 (.load (.arr 64 .leaf) (.t 7)),
 Ll 18 (.call .flat [] (.f F3p) [(.t 15),(.t 16),(.t 17)]),
 Ll 9 (.box false 3 (.c (.arr 64 .leaf z64))),
 Ll 10 (.box false 4 (.c (.arr 64 .leaf z64))),
 Ls (.store false (.arr 64 .leaf) (.t 9) (.t 14)),
 Ls (.store false (.arr 64 .leaf) (.t 10) (.t 18))] [0,2,7,8,9,10])
 (.seq (.block 0 (.loop (Z3w_L0)))
 (.seq (.region [Ll 36 (.load (.arr 64 .leaf) (.t 9)),
 Ls (.store false (.arr 64 .leaf) (.t 8) (.t 36))] [8])
 (.ret))))
def Z3w:Fn:=
 { nparams:=4,nblk:=5,results:=[.cell 8 (.arr 64 .leaf)],body:=Z3w_B }
def Z3t_L0:Cd:=
 .seq (.seq (.region [Lw 8 1,
 Ll 9 (.bin .gtr (.t 8) (.c (.int .i64 0)))] [0,1,4,5,6,9])
 (.cond (.t 9)
 (.skip)
 (.exit 0)))
 (.seq (.block 1 (.seq (.region [Lw 12 6,
 Lw 13 1,
 Lw 14 0,
 Ll 15 (.bin .rem (.t 13) (.t 14)),
 Ll 16 (.conv .u8 (.t 15)),
 Ll 17 (.idxA (some 64) .leaf (.t 5) (.t 12)),
 Ls (.store false .leaf (.t 17) (.t 16))] [0,1,4,5,6])
 (.region [Lw 18 1,
 Lw 19 0,
 Ll 20 (.bin .quo (.t 18) (.t 19)),
 Lw 1 20] [0,1,4,5,6])))
 (.region [Lw 10 6,
 Ll 11 (.bin .add (.t 10) (.c (.int .i64 1))),
 Lw 6 11] [0,1,4,5,6]))
def Z3t_B:Cd:=
 .seq (.region [Ll 4 (.box false 0 (.c (.arr 64 .leaf z64)))] [0,1,4])
 (.seq (.region [Ll 7 (.build false (.arr 64 .leaf z64) []),
 Ll 5 (.box false 1 (.c (.arr 64 .leaf z64))),
 Ls (.store false (.arr 64 .leaf) (.t 5) (.t 7))] [0,1,4,5])
 (.seq (.seq (.region [Ll 6 (.mv (.c (.int .i64 0)))] [0,1,4,5,6])
 (.block 0 (.loop (Z3t_L0))))
 (.seq (.region [Ll 21 (.load (.arr 64 .leaf) (.t 5)),
 Ls (.store false (.arr 64 .leaf) (.t 4) (.t 21))] [4])
 (.ret))))
def Z3t:Fn:=
 { nparams:=2,nblk:=2,results:=[.cell 4 (.arr 64 .leaf)],body:=Z3t_B }
def Z3z_L0:Cd:=
 .seq (.seq (.region [Lw 35 12,
 Lw 36 9,
 Ll 37 (.bin .leq (.t 35) (.t 36)),
 Lw 38 37,
 Lx 39 11 38 true,
 Lg 40 (.idxA (some 64) .leaf (.t 4) (.t 39)) 38 true,
 Lg 41 (.load .leaf (.t 40)) 38 true,
 Lg 42 (.bin .neq (.t 41) (.c (.int .u8 0))) 38 true,
 Ll 43 (.pick (.t 38) (.t 42) (.c (.bool false)))] [0,4,5,6,8,9,10,11,12,43])
 (.cond (.t 43)
 (.skip)
 (.exit 2)))
 (.seq (.block 3 (.region [Lw 46 11,
 Lw 47 12,
 Ll 48 (.bin .add (.t 46) (.t 47)),
 Lw 49 11,
 Lw 50 12,
 Ll 51 (.bin .add (.t 49) (.t 50)),
 Ll 52 (.idxA (some 64) .leaf (.t 10) (.t 51)),
 Ll 53 (.load .leaf (.t 52)),
 Ll 54 (.conv .i64 (.t 53)),
 Lw 55 11,
 Ll 56 (.idxA (some 64) .leaf (.t 4) (.t 55)),
 Ll 57 (.load .leaf (.t 56)),
 Ll 58 (.conv .i64 (.t 57)),
 Lw 59 12,
 Ll 60 (.idxA (some 64) .leaf (.t 5) (.t 59)),
 Ll 61 (.load .leaf (.t 60)),
 Ll 62 (.conv .i64 (.t 61)),
 Ll 63 (.bin .mul (.t 58) (.t 62)),
 Ll 64 (.bin .add (.t 54) (.t 63)),
 Lw 65 0,
 Ll 66 (.bin .rem (.t 64) (.t 65)),
 Ll 67 (.conv .u8 (.t 66)),
 Ll 68 (.idxA (some 64) .leaf (.t 10) (.t 48)),
 Ls (.store false .leaf (.t 68) (.t 67))] [0,4,5,6,8,9,10,11,12]))
 (.region [Lw 44 12,
 Ll 45 (.bin .add (.t 44) (.c (.int .i64 1))),
 Lw 12 45] [0,4,5,6,8,9,10,11,12]))
def Z3z_L1:Cd:=
 .seq (.seq (.region [Lw 30 11,
 Lw 31 8,
 Ll 32 (.bin .leq (.t 30) (.t 31))] [0,4,5,6,8,9,10,11,32])
 (.cond (.t 32)
 (.skip)
 (.exit 0)))
 (.seq (.block 1 (.seq (.region [Ll 12 (.mv (.c (.int .i64 0)))] [0,4,5,6,8,9,10,11,12])
 (.block 2 (.loop (Z3z_L0)))))
 (.region [Lw 33 11,
 Ll 34 (.bin .add (.t 33) (.c (.int .i64 1))),
 Lw 11 34] [0,4,5,6,8,9,10,11]))
def Z3z_B:Cd:=
 .seq (.region [Ll 4 (.box false 0 (.t 1)),
 Ll 5 (.box false 1 (.t 2)),
 Ll 6 (.box false 2 (.c (.arr 64 .leaf z64))),
 Ll 7 (.mv (.c (.bool false)))] [0,4,5,6])
 (.seq (.region [Ll 13 (.load (.arr 64 .leaf) (.t 4)),
 Ll 14 (.call .flat [] (.f F3g) [(.t 13)]),
 Ll 15 (.load (.arr 64 .leaf) (.t 5)),
 Ll 16 (.call .flat [] (.f F3g) [(.t 15)]),
 Ll 17 (.build false (.arr 64 .leaf z64) []),
 Ll 10 (.box false 3 (.c (.arr 64 .leaf z64))),
 Lw 8 14,
 Lw 9 16,
 Ls (.store false (.arr 64 .leaf) (.t 10) (.t 17))] [0,4,5,6,8,9,10])
 (.seq (.seq (.region [Lw 18 8,
 Ll 19 (.bin .lss (.t 18) (.c (.int .i64 0))),
 Lw 20 19,
 Lx 21 9 20 false,
 Lg 22 (.bin .lss (.t 21) (.c (.int .i64 0))) 20 false,
 Ll 23 (.pick (.t 20) (.c (.bool true)) (.t 22))] [0,4,5,6,8,9,10,23])
 (.cond (.t 23)
 (.seq (.region [Ll 24 (.load (.arr 64 .leaf) (.t 10)),
 Ls (.store false (.arr 64 .leaf) (.t 6) (.t 24)),
 Ll 7 (.mv (.c (.bool true)))] [6,7])
 (.ret))
 (.skip)))
 (.seq (.seq (.region [Lw 25 8,
 Lw 26 9,
 Ll 27 (.bin .add (.t 25) (.t 26)),
 Ll 28 (.bin .gtr (.t 27) (.c (.int .i64 63)))] [0,4,5,6,8,9,10,28])
 (.cond (.t 28)
 (.seq (.region [Ll 29 (.load (.arr 64 .leaf) (.t 10)),
 Ls (.store false (.arr 64 .leaf) (.t 6) (.t 29)),
 Ll 7 (.mv (.c (.bool false)))] [6,7])
 (.ret))
 (.skip)))
 (.seq (.seq (.region [Ll 11 (.mv (.c (.int .i64 0)))] [0,4,5,6,8,9,10,11])
 (.block 0 (.loop (Z3z_L1))))
 (.seq (.region [Ll 69 (.load (.arr 64 .leaf) (.t 10)),
 Ls (.store false (.arr 64 .leaf) (.t 6) (.t 69)),
 Ll 7 (.mv (.c (.bool true)))] [6,7])
 (.ret))))))
def Z3z:Fn:=
 { nparams:=3,nblk:=4,results:=[.cell 6 (.arr 64 .leaf),.tmp 7],body:=Z3z_B }
def Z3d_L0:Cd:=
 .seq (.seq (.region [Ll 26 (.load (.arr 64 .leaf) (.t 5)),
 Ll 27 (.call .flat [] (.f F3g) [(.t 26)]),
 Ll 28 (.bin .geq (.t 27) (.c (.int .i64 0)))] [0,4,5,6,7,8,9,10,11,12,28])
 (.cond (.t 28)
 (.skip)
 (.exit 0)))
 (.block 1 (.seq (.region [Lw 30 0,
 Ll 31 (.load (.arr 64 .leaf) (.t 4)),
 Ll 32 (.load (.arr 64 .leaf) (.t 5)),
 Ll 33 (.call .flat [] (.f F3h) [(.t 30),(.t 31),(.t 32)]),
 Lw 29 33,
 Ll 34 (.ext (.t 29) 0),
 Ll 35 (.ext (.t 29) 1),
 Ll 13 (.box false 9 (.c (.arr 64 .leaf z64))),
 Ll 14 (.box false 10 (.c (.arr 64 .leaf z64))),
 Ls (.store false (.arr 64 .leaf) (.t 13) (.t 34)),
 Ls (.store false (.arr 64 .leaf) (.t 14) (.t 35))] [0,4,5,6,7,8,9,10,11,12,13,14])
 (.seq (.region [Lw 37 0,
 Ll 38 (.load (.arr 64 .leaf) (.t 13)),
 Ll 39 (.load (.arr 64 .leaf) (.t 10)),
 Ll 40 (.call .flat [] (.f F3z) [(.t 37),(.t 38),(.t 39)]),
 Lw 36 40,
 Ll 41 (.ext (.t 36) 0),
 Ll 42 (.ext (.t 36) 1),
 Ll 15 (.box false 11 (.c (.arr 64 .leaf z64))),
 Ls (.store false (.arr 64 .leaf) (.t 15) (.t 41)),
 Lw 16 42] [0,4,5,6,7,8,9,10,11,12,13,14,15])
 (.seq (.region [Lw 44 0,
 Ll 45 (.load (.arr 64 .leaf) (.t 13)),
 Ll 46 (.load (.arr 64 .leaf) (.t 12)),
 Ll 47 (.call .flat [] (.f F3z) [(.t 44),(.t 45),(.t 46)]),
 Lw 43 47,
 Ll 48 (.ext (.t 43) 0),
 Ll 49 (.ext (.t 43) 1),
 Ll 17 (.box false 12 (.c (.arr 64 .leaf z64))),
 Ls (.store false (.arr 64 .leaf) (.t 17) (.t 48)),
 Lw 18 49] [0,4,5,6,7,8,9,10,11,12,14,15,17])
 (.seq (.region [Lw 50 0,
 Ll 51 (.load (.arr 64 .leaf) (.t 9)),
 Ll 52 (.load (.arr 64 .leaf) (.t 15)),
 Ll 53 (.call .flat [] (.f F3c) [(.t 50),(.t 51),(.t 52),(.c (.int .i64 (-1)))]),
 Lw 54 0,
 Ll 55 (.load (.arr 64 .leaf) (.t 11)),
 Ll 56 (.load (.arr 64 .leaf) (.t 17)),
 Ll 57 (.call .flat [] (.f F3c) [(.t 54),(.t 55),(.t 56),(.c (.int .i64 (-1)))]),
 Ll 19 (.box false 13 (.c (.arr 64 .leaf z64))),
 Ll 20 (.box false 14 (.c (.arr 64 .leaf z64))),
 Ls (.store false (.arr 64 .leaf) (.t 19) (.t 53)),
 Ls (.store false (.arr 64 .leaf) (.t 20) (.t 57))] [0,4,5,6,7,8,9,10,11,12,14,19,20])
 (.seq (.region [Ll 58 (.load (.arr 64 .leaf) (.t 5)),
 Ls (.store false (.arr 64 .leaf) (.t 4) (.t 58))] [0,4,5,6,7,8,9,10,11,12,14,19,20])
 (.seq (.region [Ll 59 (.load (.arr 64 .leaf) (.t 14)),
 Ls (.store false (.arr 64 .leaf) (.t 5) (.t 59))] [0,4,5,6,7,8,9,10,11,12,19,20])
 (.seq (.region [Ll 60 (.load (.arr 64 .leaf) (.t 10)),
 Ls (.store false (.arr 64 .leaf) (.t 9) (.t 60))] [0,4,5,6,7,8,9,10,11,12,19,20])
 (.seq (.region [Ll 61 (.load (.arr 64 .leaf) (.t 12)),
 Ls (.store false (.arr 64 .leaf) (.t 11) (.t 61))] [0,4,5,6,7,8,9,10,11,12,19,20])
 (.seq (.region [Ll 62 (.load (.arr 64 .leaf) (.t 19)),
 Ls (.store false (.arr 64 .leaf) (.t 10) (.t 62))] [0,4,5,6,7,8,9,10,11,12,20])
 (.region [Ll 63 (.load (.arr 64 .leaf) (.t 20)),
 Ls (.store false (.arr 64 .leaf) (.t 12) (.t 63))] [0,4,5,6,7,8,9,10,11,12])))))))))))
def Z3d_B:Cd:=
 .seq (.region [Ll 4 (.box false 0 (.t 1)),
 Ll 5 (.box false 1 (.t 2)),
 Ll 6 (.box false 2 (.c (.arr 64 .leaf z64))),
 Ll 7 (.box false 3 (.c (.arr 64 .leaf z64))),
 Ll 8 (.box false 4 (.c (.arr 64 .leaf z64)))] [0,4,5,6,7,8])
 (.seq (.region [Ll 22 (.call .flat [] (.f F3u) []),
 Ll 23 (.build false (.arr 64 .leaf z64) []),
 Ll 24 (.build false (.arr 64 .leaf z64) []),
 Ll 25 (.call .flat [] (.f F3u) []),
 Ll 9 (.box false 5 (.c (.arr 64 .leaf z64))),
 Ll 10 (.box false 6 (.c (.arr 64 .leaf z64))),
 Ll 11 (.box false 7 (.c (.arr 64 .leaf z64))),
 Ll 12 (.box false 8 (.c (.arr 64 .leaf z64))),
 Ls (.store false (.arr 64 .leaf) (.t 9) (.t 22)),
 Ls (.store false (.arr 64 .leaf) (.t 10) (.t 23)),
 Ls (.store false (.arr 64 .leaf) (.t 11) (.t 24)),
 Ls (.store false (.arr 64 .leaf) (.t 12) (.t 25))] [0,4,5,6,7,8,9,10,11,12])
 (.seq (.block 0 (.loop (Z3d_L0)))
 (.seq (.region [Lw 64 0,
 Ll 65 (.load (.arr 64 .leaf) (.t 4)),
 Ll 66 (.call .flat [] (.f F3g) [(.t 65)]),
 Ll 67 (.idxA (some 64) .leaf (.t 4) (.t 66)),
 Ll 68 (.load .leaf (.t 67)),
 Ll 69 (.call .flat [] (.f F3m) [(.t 64),(.t 68)]),
 Ll 70 (.conv .i64 (.t 69)),
 Lw 21 70] [0,4,6,7,8,9,11,21])
 (.seq (.region [Lw 71 0,
 Ll 72 (.build false (.arr 64 .leaf z64) []),
 Ll 73 (.load (.arr 64 .leaf) (.t 4)),
 Lw 74 21,
 Ll 75 (.call .flat [] (.f F3c) [(.t 71),(.t 72),(.t 73),(.t 74)]),
 Lw 76 0,
 Ll 77 (.build false (.arr 64 .leaf z64) []),
 Ll 78 (.load (.arr 64 .leaf) (.t 9)),
 Lw 79 21,
 Ll 80 (.call .flat [] (.f F3c) [(.t 76),(.t 77),(.t 78),(.t 79)]),
 Lw 81 0,
 Ll 82 (.build false (.arr 64 .leaf z64) []),
 Ll 83 (.load (.arr 64 .leaf) (.t 11)),
 Lw 84 21,
 Ll 85 (.call .flat [] (.f F3c) [(.t 81),(.t 82),(.t 83),(.t 84)]),
 Ls (.store false (.arr 64 .leaf) (.t 6) (.t 75)),
 Ls (.store false (.arr 64 .leaf) (.t 7) (.t 80)),
 Ls (.store false (.arr 64 .leaf) (.t 8) (.t 85))] [6,7,8])
 (.ret)))))
def Z3d:Fn:=
 { nparams:=3,nblk:=15,results:=[.cell 6 (.arr 64 .leaf),.cell 7 (.arr 64 .leaf),.cell 8 (.arr 64 .leaf)],body:=Z3d_B }
def Z3k_B:Cd:=
 .seq (.region [Ll 4 (.box false 0 (.t 1)),
 Ll 5 (.box false 1 (.t 2)),
 Ll 6 (.box false 2 (.c (.arr 64 .leaf z64)))] [0,4,5,6])
 (.seq (.seq (.region [Ll 10 (.load (.arr 64 .leaf) (.t 4)),
 Ll 11 (.call .flat [] (.f F3g) [(.t 10)]),
 Ll 12 (.bin .lss (.t 11) (.c (.int .i64 0))),
 Lw 13 12,
 Lg 14 (.load (.arr 64 .leaf) (.t 5)) 13 true,
 Lg 15 (.call .flat [] (.f F3g) [(.t 14)]) 13 true,
 Lg 16 (.bin .lss (.t 15) (.c (.int .i64 0))) 13 true,
 Ll 17 (.pick (.t 13) (.t 16) (.c (.bool false)))] [0,4,5,6,17])
 (.cond (.t 17)
 (.seq (.region [Ll 18 (.build false (.arr 64 .leaf z64) []),
 Ls (.store false (.arr 64 .leaf) (.t 6) (.t 18))] [6])
 (.ret))
 (.skip)))
 (.seq (.region [Lw 20 0,
 Ll 21 (.load (.arr 64 .leaf) (.t 4)),
 Ll 22 (.load (.arr 64 .leaf) (.t 5)),
 Ll 23 (.call .flat [] (.f F3d) [(.t 20),(.t 21),(.t 22)]),
 Lw 19 23,
 Ll 24 (.ext (.t 19) 0),
 Ll 25 (.ext (.t 19) 1),
 Ll 26 (.ext (.t 19) 2),
 Ll 7 (.box false 3 (.c (.arr 64 .leaf z64))),
 Ll 8 (.box false 4 (.c (.arr 64 .leaf z64))),
 Ll 9 (.box false 5 (.c (.arr 64 .leaf z64))),
 Ls (.store false (.arr 64 .leaf) (.t 7) (.t 24)),
 Ls (.store false (.arr 64 .leaf) (.t 8) (.t 25)),
 Ls (.store false (.arr 64 .leaf) (.t 9) (.t 26))] [6,7])
 (.seq (.region [Ll 27 (.load (.arr 64 .leaf) (.t 7)),
 Ls (.store false (.arr 64 .leaf) (.t 6) (.t 27))] [6])
 (.ret))))
def Z3k:Fn:=
 { nparams:=3,nblk:=6,results:=[.cell 6 (.arr 64 .leaf)],body:=Z3k_B }
def Z3y_B:Cd:=
 .seq (.region [Ll 0 (.box false 0 (.c (.arr 64 .leaf z64)))] [0])
 (.seq (.region [Ll 1 (.build false (.arr 64 .leaf z64) [(0,(.c (.int .u8 0))),(1,(.c (.int .u8 1)))]),
 Ls (.store false (.arr 64 .leaf) (.t 0) (.t 1))] [0])
 (.ret))
def Z3y:Fn:=
 { nparams:=0,nblk:=1,results:=[.cell 0 (.arr 64 .leaf)],body:=Z3y_B }
def Z3n_L0:Cd:=
 .seq (.seq (.region [Lw 16 7,
 Ll 17 (.bin .mul (.c (.int .i64 2)) (.t 16)),
 Lw 18 5,
 Ll 19 (.bin .leq (.t 17) (.t 18))] [0,3,5,6,7,19])
 (.cond (.t 19)
 (.skip)
 (.exit 0)))
 (.seq (.block 1 (.seq (.region [Lw 22 0,
 Ll 23 (.load (.arr 64 .leaf) (.t 6)),
 Lw 24 0,
 Ll 25 (.load (.arr 64 .leaf) (.t 3)),
 Ll 26 (.call .flat [] (.f F3w) [(.t 22),(.t 23),(.t 24),(.t 25)]),
 Ls (.store false (.arr 64 .leaf) (.t 6) (.t 26))] [0,3,5,6,7])
 (.seq (.region [Lw 27 0,
 Ll 28 (.load (.arr 64 .leaf) (.t 3)),
 Lw 29 0,
 Ll 30 (.load (.arr 64 .leaf) (.t 6)),
 Ll 31 (.call .flat [] (.f F3y) []),
 Ll 32 (.call .flat [] (.f F3c) [(.t 29),(.t 30),(.t 31),(.c (.int .i64 (-1)))]),
 Ll 33 (.call .flat [] (.f F3k) [(.t 27),(.t 28),(.t 32)]),
 Ll 34 (.call .flat [] (.f F3g) [(.t 33)]),
 Ll 35 (.bin .neq (.t 34) (.c (.int .i64 0)))] [0,3,5,6,7,35])
 (.cond (.t 35)
 (.seq (.region [Ll 4 (.mv (.c (.bool false)))] [4])
 (.ret))
 (.skip)))))
 (.region [Lw 20 7,
 Ll 21 (.bin .add (.t 20) (.c (.int .i64 1))),
 Lw 7 21] [0,3,5,6,7]))
def Z3n_B:Cd:=
 .seq (.region [Ll 3 (.box false 0 (.t 1)),
 Ll 4 (.mv (.c (.bool false)))] [0,3])
 (.seq (.region [Ll 8 (.load (.arr 64 .leaf) (.t 3)),
 Ll 9 (.call .flat [] (.f F3g) [(.t 8)]),
 Lw 10 0,
 Ll 11 (.call .flat [] (.f F3y) []),
 Ll 12 (.load (.arr 64 .leaf) (.t 3)),
 Ll 13 (.call .flat [] (.f F3p) [(.t 10),(.t 11),(.t 12)]),
 Ll 6 (.box false 1 (.c (.arr 64 .leaf z64))),
 Lw 5 9,
 Ls (.store false (.arr 64 .leaf) (.t 6) (.t 13))] [0,3,5,6])
 (.seq (.seq (.region [Lw 14 5,
 Ll 15 (.bin .lss (.t 14) (.c (.int .i64 1)))] [0,3,5,6,15])
 (.cond (.t 15)
 (.seq (.region [Ll 4 (.mv (.c (.bool false)))] [4])
 (.ret))
 (.skip)))
 (.seq (.seq (.region [Ll 7 (.mv (.c (.int .i64 1)))] [0,3,5,6,7])
 (.block 0 (.loop (Z3n_L0))))
 (.seq (.region [Ll 4 (.mv (.c (.bool true)))] [4])
 (.ret)))))
def Z3n:Fn:=
 { nparams:=2,nblk:=2,results:=[.tmp 4],body:=Z3n_B }
def Z3j_L0:Cd:=
 .seq (.seq (.region [Lw 12 4,
 Lw 13 0,
 Ll 14 (.len false (.t 13)),
 Ll 15 (.bin .lss (.t 12) (.t 14)),
 Lw 16 15,
 Lx 17 4 16 true,
 Lg 18 (.bin .lss (.t 17) (.c (.int .i64 4096))) 16 true,
 Ll 19 (.pick (.t 16) (.t 18) (.c (.bool false)))] [0,3,4,19])
 (.cond (.t 19)
 (.skip)
 (.exit 0)))
 (.seq (.block 1 (.region [Lw 22 3,
 Lw 23 3,
 Ll 24 (.chk (.t 23)),
 Ll 25 (.fldA [.leaf,.leaf,.leaf] (.t 24) 2),
 Ll 26 (.load .leaf (.t 25)),
 Ll 27 (.bin .mul (.t 26) (.c (.int .u64 1099511628211))),
 Lw 28 0,
 Lw 29 4,
 Ll 30 (.idxA none .leaf (.t 28) (.t 29)),
 Ll 31 (.load .leaf (.t 30)),
 Ll 32 (.conv .u64 (.t 31)),
 Ll 33 (.bin .add (.t 27) (.t 32)),
 Ll 34 (.bin .add (.t 33) (.c (.int .u64 61))),
 Ll 35 (.chk (.t 22)),
 Ll 36 (.fldA [.leaf,.leaf,.leaf] (.t 35) 2),
 Ls (.store false .leaf (.t 36) (.t 34))] [0,3,4]))
 (.region [Lw 20 4,
 Ll 21 (.bin .add (.t 20) (.c (.int .i64 1))),
 Lw 4 21] [0,3,4]))
def Z3j_B:Cd:=
 .seq (.region [Ll 2 (.mv (.c .nilp))] [0])
 (.seq (.region [Lw 5 0,
 Lw 6 0,
 Ll 7 (.len false (.t 6)),
 Ll 8 (.conv .u64 (.t 7)),
 Ll 9 (.bin .add (.c (.int .u64 12251)) (.t 8)),
 Ll 10 (.build true (.st [.leaf,.leaf,.leaf] [(.sl .leaf []),(.int .i64 0),(.int .u64 0)]) [(0,(.t 5)),(2,(.t 9))]),
 Ll 11 (.box false 0 (.t 10)),
 Lw 3 11] [0,3])
 (.seq (.seq (.region [Ll 4 (.mv (.c (.int .i64 0)))] [0,3,4])
 (.block 0 (.loop (Z3j_L0))))
 (.seq (.region [Lw 37 3,
 Lw 2 37] [2])
 (.ret))))
def Z3j:Fn:=
 { nparams:=1,nblk:=1,results:=[.tmp 2],body:=Z3j_B }
def Z3s_B:Cd:=
 .seq (.region [Ll 4 (.mv (.c (.int .i64 0)))] [0,1])
 (.seq (.seq (.region [Lw 6 1,
 Ll 7 (.bin .lss (.t 6) (.c (.int .i64 1)))] [0,1,7])
 (.cond (.t 7)
 (.seq (.region [Ll 4 (.mv (.c (.int .i64 0)))] [4])
 (.ret))
 (.skip)))
 (.seq (.region [Lw 8 0,
 Lw 9 0,
 Ll 10 (.chk (.t 9)),
 Ll 11 (.fldA [.leaf,.leaf,.leaf] (.t 10) 2),
 Ll 12 (.load .leaf (.t 11)),
 Ll 13 (.bin .mul (.t 12) (.c (.int .u64 6364136223846793005))),
 Ll 14 (.bin .add (.t 13) (.c (.int .u64 1442695040888963407))),
 Ll 15 (.chk (.t 8)),
 Ll 16 (.fldA [.leaf,.leaf,.leaf] (.t 15) 2),
 Ls (.store false .leaf (.t 16) (.t 14))] [0,1])
 (.seq (.region [Lw 17 0,
 Ll 18 (.chk (.t 17)),
 Ll 19 (.fldA [.leaf,.leaf,.leaf] (.t 18) 2),
 Ll 20 (.load .leaf (.t 19)),
 Ll 21 (.bin .shr (.t 20) (.c (.int .u64 33))),
 Ll 22 (.bin .and (.t 21) (.c (.int .u64 16777215))),
 Ll 23 (.conv .i64 (.t 22)),
 Lw 5 23] [0,1,5])
 (.seq (.seq (.region [Lw 24 0,
 Ll 25 (.chk (.t 24)),
 Ll 26 (.fldA [.leaf,.leaf,.leaf] (.t 25) 1),
 Ll 27 (.load .leaf (.t 26)),
 Lw 28 0,
 Ll 29 (.chk (.t 28)),
 Ll 30 (.fldA [.leaf,.leaf,.leaf] (.t 29) 0),
 Ll 31 (.load .leaf (.t 30)),
 Ll 32 (.len false (.t 31)),
 Ll 33 (.bin .lss (.t 27) (.t 32))] [0,1,5,33])
 (.cond (.t 33)
 (.seq (.region [Lw 34 5,
 Lw 35 0,
 Ll 36 (.chk (.t 35)),
 Ll 37 (.fldA [.leaf,.leaf,.leaf] (.t 36) 0),
 Ll 38 (.load .leaf (.t 37)),
 Lw 39 0,
 Ll 40 (.chk (.t 39)),
 Ll 41 (.fldA [.leaf,.leaf,.leaf] (.t 40) 1),
 Ll 42 (.load .leaf (.t 41)),
 Ll 43 (.idxA none .leaf (.t 38) (.t 42)),
 Ll 44 (.load .leaf (.t 43)),
 Ll 45 (.conv .i64 (.t 44)),
 Ll 46 (.bin .add (.t 34) (.t 45)),
 Lw 5 46] [0,1,5])
 (.region [Lw 47 0,
 Lw 48 0,
 Ll 49 (.chk (.t 48)),
 Ll 50 (.fldA [.leaf,.leaf,.leaf] (.t 49) 1),
 Ll 51 (.load .leaf (.t 50)),
 Ll 52 (.bin .add (.t 51) (.c (.int .i64 1))),
 Ll 53 (.chk (.t 47)),
 Ll 54 (.fldA [.leaf,.leaf,.leaf] (.t 53) 1),
 Ls (.store false .leaf (.t 54) (.t 52))] [1,5]))
 (.skip)))
 (.seq (.region [Lw 55 5,
 Lw 56 1,
 Ll 57 (.bin .rem (.t 55) (.t 56)),
 Lw 4 57] [4])
 (.ret))))))
def Z3s:Fn:=
 { nparams:=2,nblk:=0,results:=[.tmp 4],body:=Z3s_B }
def ir_spec_l01Draw_L0:Cd:=
 .seq (.seq (.region [Lw 15 8,
 Ll 16 (.bin .geq (.t 15) (.c (.int .i64 0)))] [0,1,6,7,8,16])
 (.cond (.t 16)
 (.skip)
 (.exit 0)))
 (.seq (.block 1 (.seq (.region [Lw 19 0,
 Ll 20 (.call .heap [] (.f F3s) [(.t 19),(.c (.int .i64 3))]),
 Ll 21 (.bin .gtr (.t 20) (.c (.int .i64 0)))] [0,1,6,7,8,21])
 (.cond (.t 21)
 (.region [Lw 22 8,
 Lw 23 0,
 Lw 24 1,
 Ll 25 (.call .heap [] (.f F3s) [(.t 23),(.t 24)]),
 Ll 26 (.conv .u8 (.t 25)),
 Ll 27 (.idxA (some 64) .leaf (.t 7) (.t 22)),
 Ls (.store false .leaf (.t 27) (.t 26))] [0,1,6,7,8])
 (.skip))))
 (.region [Lw 17 8,
 Ll 18 (.bin .sub (.t 17) (.c (.int .i64 1))),
 Lw 8 18] [0,1,6,7,8]))
def ir_spec_l01Draw_B:Cd:=
 .seq (.region [Ll 6 (.box false 0 (.c (.arr 64 .leaf z64)))] [0,1,2,6])
 (.seq (.region [Ll 9 (.build false (.arr 64 .leaf z64) []),
 Ll 7 (.box false 1 (.c (.arr 64 .leaf z64))),
 Ls (.store false (.arr 64 .leaf) (.t 7) (.t 9))] [0,1,2,6,7])
 (.seq (.seq (.region [Lw 10 0,
 Lw 11 2,
 Ll 12 (.bin .add (.t 11) (.c (.int .i64 2))),
 Ll 13 (.call .heap [] (.f F3s) [(.t 10),(.t 12)]),
 Ll 14 (.bin .sub (.t 13) (.c (.int .i64 1))),
 Lw 8 14] [0,1,6,7,8])
 (.block 0 (.loop (ir_spec_l01Draw_L0))))
 (.seq (.region [Ll 28 (.load (.arr 64 .leaf) (.t 7)),
 Ls (.store false (.arr 64 .leaf) (.t 6) (.t 28))] [6])
 (.ret))))
def Z3i:Fn:=
 { nparams:=3,nblk:=2,results:=[.cell 6 (.arr 64 .leaf)],body:=ir_spec_l01Draw_B }
def Z3v_B:Cd:=
 .seq (.region [Ll 4 (.mv (.c (.int .i64 0)))] [0,1])
 (.seq (.region [Lw 5 1,
 Lw 6 0,
 Lw 7 1,
 Ll 8 (.len false (.t 7)),
 Ll 9 (.call .heap [] (.f F3s) [(.t 6),(.t 8)]),
 Ll 10 (.idxA none .leaf (.t 5) (.t 9)),
 Ll 11 (.load .leaf (.t 10)),
 Lw 4 11] [4])
 (.ret))
def Z3v:Fn:=
 { nparams:=2,nblk:=0,results:=[.tmp 4],body:=Z3v_B }
end Pe

/-
 Functions of the program in the small form,printed by a program.
-/
namespace Pe
open Go
def Z43_L0:Cd:=
 .seq (.seq (.region [Lw 6 1,
 Ll 7 (.bin .gtr (.t 6) (.c (.int .i64 0)))] [0,1,5,7])
 (.cond (.t 7)
 (.skip)
 (.exit 0)))
 (.seq (.block 1 (.region [Lw 10 5,
 Lw 11 0,
 Ll 12 (.bin .mul (.t 10) (.t 11)),
 Lw 5 12] [0,1,5]))
 (.region [Lw 8 1,
 Ll 9 (.bin .sub (.t 8) (.c (.int .i64 1))),
 Lw 1 9] [0,1,5]))
def Z43_B:Cd:=
 .seq (.region [Ll 4 (.mv (.c (.int .i64 0)))] [0,1])
 (.seq (.region [Ll 5 (.mv (.c (.int .i64 1)))] [0,1,5])
 (.seq (.block 0 (.loop (Z43_L0)))
 (.seq (.region [Lw 13 5,
 Lw 4 13] [4])
 (.ret))))
def Z43:Fn:=
 { nparams:=2,nblk:=0,results:=[.tmp 4],body:=Z43_B }
def Z42_B:Cd:=
 .seq (.region [Ll 4 (.box false 0 (.t 1)),
 Ll 5 (.box false 1 (.t 2)),
 Ll 6 (.box false 2 (.c (.arr 64 .leaf z64)))] [0,4,5,6])
 (.seq (.region [Lw 11 0,
 Lw 12 0,
 Ll 13 (.load (.arr 64 .leaf) (.t 4)),
 Ll 14 (.load (.arr 64 .leaf) (.t 5)),
 Ll 15 (.call .flat [] (.f F3p) [(.t 12),(.t 13),(.t 14)]),
 Ll 16 (.load (.arr 64 .leaf) (.t 5)),
 Ll 17 (.call .flat [] (.f F3d) [(.t 11),(.t 15),(.t 16)]),
 Lw 10 17,
 Ll 18 (.ext (.t 10) 0),
 Ll 19 (.ext (.t 10) 1),
 Ll 20 (.ext (.t 10) 2),
 Ll 7 (.box false 3 (.c (.arr 64 .leaf z64))),
 Ll 8 (.box false 4 (.c (.arr 64 .leaf z64))),
 Ll 9 (.box false 5 (.c (.arr 64 .leaf z64))),
 Ls (.store false (.arr 64 .leaf) (.t 7) (.t 18)),
 Ls (.store false (.arr 64 .leaf) (.t 8) (.t 19)),
 Ls (.store false (.arr 64 .leaf) (.t 9) (.t 20))] [0,5,6,8])
 (.seq (.region [Lw 21 0,
 Ll 22 (.load (.arr 64 .leaf) (.t 8)),
 Ll 23 (.load (.arr 64 .leaf) (.t 5)),
 Ll 24 (.call .flat [] (.f F3p) [(.t 21),(.t 22),(.t 23)]),
 Ls (.store false (.arr 64 .leaf) (.t 6) (.t 24))] [6])
 (.ret)))
def Z42:Fn:=
 { nparams:=3,nblk:=6,results:=[.cell 6 (.arr 64 .leaf)],body:=Z42_B }
def Z41_B:Cd:=
 .seq (.region [Ll 2 (.mv (.c (.int .i64 0)))] [0])
 (.seq (.seq (.region [Lw 3 0,
 Ll 4 (.call .flat [] (.f F3x) [(.t 3)])] [0,4])
 (.cond (.t 4)
 (.seq (.region [Lw 5 0,
 Lw 2 5] [2])
 (.ret))
 (.skip)))
 (.seq (.region [Ll 2 (.mv (.c (.int .i64 3)))] [2])
 (.ret)))
def Z41:Fn:=
 { nparams:=1,nblk:=0,results:=[.tmp 2],body:=Z41_B }
end Pe

/-
 Functions of the program in the small form,printed by a program.
-/
namespace Pe
open Go
def Z44_L0:Cd:=
 .seq (.seq (.region [Lw 3 0,
 Ll 4 (.len false (.t 3)),
 Ll 5 (.bin .gtr (.t 4) (.c (.int .i64 0))),
 Lw 6 5,
 Lx 7 0 6 true,
 Lx 8 0 6 true,
 Lg 9 (.len false (.t 8)) 6 true,
 Lg 10 (.bin .sub (.t 9) (.c (.int .i64 1))) 6 true,
 Lg 11 (.idxA none (.arr 64 .leaf) (.t 7) (.t 10)) 6 true,
 Lg 12 (.load (.arr 64 .leaf) (.t 11)) 6 true,
 Lg 13 (.build false (.arr 64 .leaf z64) []) 6 true,
 Lg 14 (.eqv false (.arr 64 .leaf .int) (.t 12) (.t 13)) 6 true,
 Ll 15 (.pick (.t 6) (.t 14) (.c (.bool false)))] [0,15])
 (.cond (.t 15)
 (.skip)
 (.exit 0)))
 (.block 1 (.region [Lw 16 0,
 Lw 17 0,
 Ll 18 (.len false (.t 17)),
 Ll 19 (.bin .sub (.t 18) (.c (.int .i64 1))),
 Ll 20 (.cut none (.arr 64 .leaf) (.t 16) none (some (.t 19)) none),
 Lw 0 20] [0]))
def Z44_B:Cd:=
 .seq (.region [Ll 2 (.mv (.c (.sl (.arr 64 .leaf) [])))] [0])
 (.seq (.block 0 (.loop (Z44_L0)))
 (.seq (.region [Lw 21 0,
 Lw 2 21] [2])
 (.ret)))
def Z44:Fn:=
 { nparams:=1,nblk:=0,results:=[.tmp 2],body:=Z44_B }
end Pe

/-
 Functions of the program in the small form,printed by a program.
-/
namespace Pe
open Go
def Z4c_B:Cd:=
 .seq (.region [Ll 1 (.box false 0 (.t 0)),
 Ll 2 (.mv (.c (.bool false)))] [1])
 (.seq (.region [Ll 5 (.fldA [.leaf,(.arr 64 .leaf),(.arr 64 .leaf),(.arr 64 .leaf)] (.t 1) 0),
 Ll 6 (.load .leaf (.t 5)),
 Lw 3 6] [1,3])
 (.seq (.seq (.region [Lw 7 3,
 Ll 8 (.fldA [.leaf,(.arr 64 .leaf),(.arr 64 .leaf),(.arr 64 .leaf)] (.t 1) 1),
 Ll 9 (.load (.arr 64 .leaf) (.t 8)),
 Ll 10 (.fldA [.leaf,(.arr 64 .leaf),(.arr 64 .leaf),(.arr 64 .leaf)] (.t 1) 2),
 Ll 11 (.load (.arr 64 .leaf) (.t 10)),
 Ll 12 (.fldA [.leaf,(.arr 64 .leaf),(.arr 64 .leaf),(.arr 64 .leaf)] (.t 1) 3),
 Ll 13 (.load (.arr 64 .leaf) (.t 12)),
 Ll 14 (.buildSl false 1 (.arr 64 .leaf) (.arr 64 .leaf z64) 3 [(0,(.t 9)),(1,(.t 11)),(2,(.t 13))]),
 Ll 15 (.call .flat [] (.f F3e) [(.t 7),(.t 14)]),
 Ll 16 (.bin .neq (.t 15) (.c (.int .i64 0))),
 Lw 17 16,
 Lg 18 (.fldA [.leaf,(.arr 64 .leaf),(.arr 64 .leaf),(.arr 64 .leaf)] (.t 1) 1) 17 false,
 Lg 19 (.load (.arr 64 .leaf) (.t 18)) 17 false,
 Lg 20 (.call .flat [] (.f F3q) [(.t 19)]) 17 false,
 Lg 21 (.un .not (.t 20)) 17 false,
 Ll 22 (.pick (.t 17) (.c (.bool true)) (.t 21))] [1,3,22])
 (.cond (.t 22)
 (.seq (.region [Ll 2 (.mv (.c (.bool false)))] [2])
 (.ret))
 (.skip)))
 (.seq (.region [Ll 23 (.fldA [.leaf,(.arr 64 .leaf),(.arr 64 .leaf),(.arr 64 .leaf)] (.t 1) 1),
 Ll 24 (.load (.arr 64 .leaf) (.t 23)),
 Ll 25 (.call .flat [] (.f F3g) [(.t 24)]),
 Lw 4 25] [1,3,4])
 (.seq (.region [Lw 26 4,
 Ll 27 (.call .flat [] (.f F3l) [(.t 26),(.c (.int .i64 1)),(.c (.int .i64 4))]),
 Lw 28 27,
 Lx 29 3 28 true,
 Lg 30 (.fldA [.leaf,(.arr 64 .leaf),(.arr 64 .leaf),(.arr 64 .leaf)] (.t 1) 1) 28 true,
 Lg 31 (.load (.arr 64 .leaf) (.t 30)) 28 true,
 Lg 32 (.call .flat [] (.f F3n) [(.t 29),(.t 31)]) 28 true,
 Ll 33 (.pick (.t 28) (.t 32) (.c (.bool false))),
 Lw 34 33,
 Lg 35 (.fldA [.leaf,(.arr 64 .leaf),(.arr 64 .leaf),(.arr 64 .leaf)] (.t 1) 2) 34 true,
 Lg 36 (.load (.arr 64 .leaf) (.t 35)) 34 true,
 Lg 37 (.call .flat [] (.f F3g) [(.t 36)]) 34 true,
 Lx 38 4 34 true,
 Lg 39 (.bin .lss (.t 37) (.t 38)) 34 true,
 Ll 40 (.pick (.t 34) (.t 39) (.c (.bool false))),
 Lw 41 40,
 Lg 42 (.fldA [.leaf,(.arr 64 .leaf),(.arr 64 .leaf),(.arr 64 .leaf)] (.t 1) 3) 41 true,
 Lg 43 (.load (.arr 64 .leaf) (.t 42)) 41 true,
 Lg 44 (.call .flat [] (.f F3g) [(.t 43)]) 41 true,
 Lx 45 4 41 true,
 Lg 46 (.bin .lss (.t 44) (.t 45)) 41 true,
 Ll 47 (.pick (.t 41) (.t 46) (.c (.bool false))),
 Lw 48 47,
 Lg 49 (.fldA [.leaf,(.arr 64 .leaf),(.arr 64 .leaf),(.arr 64 .leaf)] (.t 1) 3) 48 true,
 Lg 50 (.load (.arr 64 .leaf) (.t 49)) 48 true,
 Lg 51 (.build false (.arr 64 .leaf z64) []) 48 true,
 Lg 52 (.eqv true (.arr 64 .leaf .int) (.t 50) (.t 51)) 48 true,
 Ll 53 (.pick (.t 48) (.t 52) (.c (.bool false))),
 Lw 2 53] [2])
 (.ret)))))
def Z4c:Fn:=
 { nparams:=1,nblk:=2,results:=[.tmp 2],body:=Z4c_B }
def Z48_B:Cd:=
 .seq (.region [Ll 2 (.box false 0 (.t 0)),
 Ll 4 (.mv (.c (.int .i64 0)))] [1,2])
 (.seq (.seq (.region [Ll 5 (.load (.st [.leaf,(.arr 64 .leaf),(.arr 64 .leaf),(.arr 64 .leaf)]) (.t 2)),
 Ll 6 (.call .flat [] (.f F4c) [(.t 5)]),
 Ll 7 (.un .not (.t 6)),
 Lw 8 7,
 Lg 9 (.fldA [.leaf,(.arr 64 .leaf),(.arr 64 .leaf),(.arr 64 .leaf)] (.t 2) 0) 8 false,
 Lg 10 (.load .leaf (.t 9)) 8 false,
 Lx 11 1 8 false,
 Lg 12 (.call .flat [] (.f F3e) [(.t 10),(.t 11)]) 8 false,
 Lg 13 (.bin .neq (.t 12) (.c (.int .i64 0))) 8 false,
 Ll 14 (.pick (.t 8) (.c (.bool true)) (.t 13))] [14])
 (.cond (.t 14)
 (.seq (.region [Ll 4 (.mv (.c (.int .i64 1)))] [4])
 (.ret))
 (.skip)))
 (.seq (.region [Ll 4 (.mv (.c (.int .i64 0)))] [4])
 (.ret)))
def Z48:Fn:=
 { nparams:=2,nblk:=1,results:=[.tmp 4],body:=Z48_B }
def Z4e_B:Cd:=
 .seq (.region [Ll 2 (.box false 0 (.t 0)),
 Ll 3 (.box false 1 (.t 1)),
 Ll 4 (.mv (.c (.bool false)))] [2,3])
 (.seq (.region [Ll 5 (.load (.arr 64 .leaf) (.t 3)),
 Ll 6 (.build false (.arr 64 .leaf z64) []),
 Ll 7 (.eqv true (.arr 64 .leaf .int) (.t 5) (.t 6)),
 Lw 8 7,
 Lg 9 (.load (.arr 64 .leaf) (.t 3)) 8 true,
 Lg 10 (.call .flat [] (.f F3g) [(.t 9)]) 8 true,
 Lg 11 (.fldA [.leaf,(.arr 64 .leaf),(.arr 64 .leaf),(.arr 64 .leaf)] (.t 2) 1) 8 true,
 Lg 12 (.load (.arr 64 .leaf) (.t 11)) 8 true,
 Lg 13 (.call .flat [] (.f F3g) [(.t 12)]) 8 true,
 Lg 14 (.bin .lss (.t 10) (.t 13)) 8 true,
 Ll 15 (.pick (.t 8) (.t 14) (.c (.bool false))),
 Lw 4 15] [4])
 (.ret))
def Z4e:Fn:=
 { nparams:=2,nblk:=2,results:=[.tmp 4],body:=Z4e_B }
def Z4h_B:Cd:=
 .seq (.region [Ll 3 (.box false 0 (.t 0)),
 Ll 4 (.box false 1 (.t 1)),
 Ll 5 (.box false 2 (.t 2)),
 Ll 6 (.box false 3 (.c (.arr 64 .leaf z64)))] [3,4,5,6])
 (.seq (.region [Ll 7 (.fldA [.leaf,(.arr 64 .leaf),(.arr 64 .leaf),(.arr 64 .leaf)] (.t 3) 0),
 Ll 8 (.load .leaf (.t 7)),
 Ll 9 (.load (.arr 64 .leaf) (.t 4)),
 Ll 10 (.load (.arr 64 .leaf) (.t 5)),
 Ll 11 (.fldA [.leaf,(.arr 64 .leaf),(.arr 64 .leaf),(.arr 64 .leaf)] (.t 3) 1),
 Ll 12 (.load (.arr 64 .leaf) (.t 11)),
 Ll 13 (.call .flat [] (.f F3r) [(.t 8),(.t 9),(.t 10),(.t 12)]),
 Ls (.store false (.arr 64 .leaf) (.t 6) (.t 13))] [6])
 (.ret))
def Z4h:Fn:=
 { nparams:=3,nblk:=4,results:=[.cell 6 (.arr 64 .leaf)],body:=Z4h_B }
def Z4i_B:Cd:=
 .seq (.region [Ll 2 (.box false 0 (.t 0)),
 Ll 3 (.box false 1 (.t 1)),
 Ll 4 (.box false 2 (.c (.st [.leaf,(.arr 64 .leaf),(.arr 64 .leaf),(.arr 64 .leaf)] [(.int .i64 0),(.arr 64 .leaf z64),(.arr 64 .leaf z64),(.arr 64 .leaf z64)])))] [2,3,4])
 (.seq (.region [Ll 8 (.fldA [.leaf,(.arr 64 .leaf),(.arr 64 .leaf),(.arr 64 .leaf)] (.t 2) 0),
 Ll 9 (.load .leaf (.t 8)),
 Ll 10 (.fldA [.leaf,(.arr 64 .leaf),(.arr 64 .leaf),(.arr 64 .leaf)] (.t 2) 0),
 Ll 11 (.load .leaf (.t 10)),
 Ll 12 (.load (.arr 64 .leaf) (.t 3)),
 Ll 13 (.fldA [.leaf,(.arr 64 .leaf),(.arr 64 .leaf),(.arr 64 .leaf)] (.t 2) 1),
 Ll 14 (.load (.arr 64 .leaf) (.t 13)),
 Ll 15 (.call .flat [] (.f F42) [(.t 11),(.t 12),(.t 14)]),
 Ll 6 (.box false 3 (.c (.arr 64 .leaf z64))),
 Lw 5 9,
 Ls (.store false (.arr 64 .leaf) (.t 6) (.t 15))] [2,4,5,6])
 (.seq (.region [Ll 16 (.load (.st [.leaf,(.arr 64 .leaf),(.arr 64 .leaf),(.arr 64 .leaf)]) (.t 2)),
 Ll 7 (.box false 4 (.c (.st [.leaf,(.arr 64 .leaf),(.arr 64 .leaf),(.arr 64 .leaf)] [(.int .i64 0),(.arr 64 .leaf z64),(.arr 64 .leaf z64),(.arr 64 .leaf z64)]))),
 Ls (.store false (.st [.leaf,(.arr 64 .leaf),(.arr 64 .leaf),(.arr 64 .leaf)]) (.t 7) (.t 16))] [2,4,5,6,7])
 (.seq (.region [Ll 17 (.load (.st [.leaf,(.arr 64 .leaf),(.arr 64 .leaf),(.arr 64 .leaf)]) (.t 2)),
 Ll 18 (.fldA [.leaf,(.arr 64 .leaf),(.arr 64 .leaf),(.arr 64 .leaf)] (.t 2) 2),
 Ll 19 (.load (.arr 64 .leaf) (.t 18)),
 Lw 20 5,
 Ll 21 (.load (.arr 64 .leaf) (.t 6)),
 Lw 22 5,
 Ll 23 (.bin .sub (.t 22) (.c (.int .i64 1))),
 Ll 24 (.fldA [.leaf,(.arr 64 .leaf),(.arr 64 .leaf),(.arr 64 .leaf)] (.t 2) 1),
 Ll 25 (.load (.arr 64 .leaf) (.t 24)),
 Ll 26 (.call .flat [] (.f F3w) [(.t 20),(.t 21),(.t 23),(.t 25)]),
 Ll 27 (.call .flat [] (.f F4h) [(.t 17),(.t 19),(.t 26)]),
 Ll 28 (.fldA [.leaf,(.arr 64 .leaf),(.arr 64 .leaf),(.arr 64 .leaf)] (.t 7) 2),
 Ls (.store false (.arr 64 .leaf) (.t 28) (.t 27))] [2,4,5,6,7])
 (.seq (.region [Ll 29 (.load (.st [.leaf,(.arr 64 .leaf),(.arr 64 .leaf),(.arr 64 .leaf)]) (.t 2)),
 Ll 30 (.fldA [.leaf,(.arr 64 .leaf),(.arr 64 .leaf),(.arr 64 .leaf)] (.t 2) 3),
 Ll 31 (.load (.arr 64 .leaf) (.t 30)),
 Lw 32 5,
 Ll 33 (.load (.arr 64 .leaf) (.t 6)),
 Lw 34 5,
 Lw 35 5,
 Ll 36 (.bin .mul (.t 34) (.t 35)),
 Ll 37 (.bin .sub (.t 36) (.c (.int .i64 1))),
 Ll 38 (.fldA [.leaf,(.arr 64 .leaf),(.arr 64 .leaf),(.arr 64 .leaf)] (.t 2) 1),
 Ll 39 (.load (.arr 64 .leaf) (.t 38)),
 Ll 40 (.call .flat [] (.f F3w) [(.t 32),(.t 33),(.t 37),(.t 39)]),
 Ll 41 (.call .flat [] (.f F4h) [(.t 29),(.t 31),(.t 40)]),
 Ll 42 (.fldA [.leaf,(.arr 64 .leaf),(.arr 64 .leaf),(.arr 64 .leaf)] (.t 7) 3),
 Ls (.store false (.arr 64 .leaf) (.t 42) (.t 41))] [4,7])
 (.seq (.region [Ll 43 (.load (.st [.leaf,(.arr 64 .leaf),(.arr 64 .leaf),(.arr 64 .leaf)]) (.t 7)),
 Ls (.store false (.st [.leaf,(.arr 64 .leaf),(.arr 64 .leaf),(.arr 64 .leaf)]) (.t 4) (.t 43))] [4])
 (.ret))))))
def Z4i:Fn:=
 { nparams:=2,nblk:=5,results:=[.cell 4 (.st [.leaf,(.arr 64 .leaf),(.arr 64 .leaf),(.arr 64 .leaf)])],body:=Z4i_B }
def Z3b_B:Cd:=
 .seq (.region [Ll 2 (.box false 0 (.t 0)),
 Ll 3 (.box false 1 (.t 1)),
 Ll 4 (.box false 2 (.c (.st [.leaf,(.arr 64 .leaf),(.arr 64 .leaf),(.arr 64 .leaf)] [(.int .i64 0),(.arr 64 .leaf z64),(.arr 64 .leaf z64),(.arr 64 .leaf z64)]))),
 Ll 5 (.mv (.c (.int .i64 0)))] [2,3,4])
 (.seq (.block 0 (.seq (.region [Ll 7 (.load (.st [.leaf,(.arr 64 .leaf),(.arr 64 .leaf),(.arr 64 .leaf)]) (.t 2)),
 Ll 8 (.load (.arr 64 .leaf) (.t 3)),
 Ll 9 (.buildSl false 3 (.arr 64 .leaf) (.arr 64 .leaf z64) 1 [(0,(.t 8))]),
 Ll 10 (.call .flat [] (.f F48) [(.t 7),(.t 9)]),
 Ll 11 (.bin .neq (.t 10) (.c (.int .i64 0))),
 Lw 6 11] [2,3,4,6])
 (.cond (.t 6)
 (.seq (.region [Ll 12 (.build false (.st [.leaf,(.arr 64 .leaf),(.arr 64 .leaf),(.arr 64 .leaf)] [(.int .i64 0),(.arr 64 .leaf z64),(.arr 64 .leaf z64),(.arr 64 .leaf z64)]) []),
 Ls (.store false (.st [.leaf,(.arr 64 .leaf),(.arr 64 .leaf),(.arr 64 .leaf)]) (.t 4) (.t 12)),
 Ll 5 (.mv (.c (.int .i64 1)))] [4,5])
 (.ret))
 (.seq (.region [Ll 14 (.load (.st [.leaf,(.arr 64 .leaf),(.arr 64 .leaf),(.arr 64 .leaf)]) (.t 2)),
 Ll 15 (.load (.arr 64 .leaf) (.t 3)),
 Ll 16 (.call .flat [] (.f F4e) [(.t 14),(.t 15)]),
 Ll 17 (.un .not (.t 16)),
 Lw 13 17] [2,3,4,13])
 (.cond (.t 13)
 (.seq (.region [Ll 18 (.build false (.st [.leaf,(.arr 64 .leaf),(.arr 64 .leaf),(.arr 64 .leaf)] [(.int .i64 0),(.arr 64 .leaf z64),(.arr 64 .leaf z64),(.arr 64 .leaf z64)]) []),
 Ls (.store false (.st [.leaf,(.arr 64 .leaf),(.arr 64 .leaf),(.arr 64 .leaf)]) (.t 4) (.t 18)),
 Ll 5 (.mv (.c (.int .i64 2)))] [4,5])
 (.ret))
 (.skip))))))
 (.seq (.region [Ll 19 (.load (.st [.leaf,(.arr 64 .leaf),(.arr 64 .leaf),(.arr 64 .leaf)]) (.t 2)),
 Ll 20 (.load (.arr 64 .leaf) (.t 3)),
 Ll 21 (.call .flat [] (.f F4i) [(.t 19),(.t 20)]),
 Ls (.store false (.st [.leaf,(.arr 64 .leaf),(.arr 64 .leaf),(.arr 64 .leaf)]) (.t 4) (.t 21)),
 Ll 5 (.mv (.c (.int .i64 0)))] [4,5])
 (.ret)))
def Z3b:Fn:=
 { nparams:=2,nblk:=4,results:=[.cell 4 (.st [.leaf,(.arr 64 .leaf),(.arr 64 .leaf),(.arr 64 .leaf)]),.tmp 5],body:=Z3b_B }
def Z4k_L0:Cd:=
 .seq (.seq (.region [Lw 7 2,
 Ll 8 (.bin .gtr (.t 7) (.c (.int .i64 0)))] [2,3,4,6,8])
 (.cond (.t 8)
 (.skip)
 (.exit 0)))
 (.seq (.block 1 (.region [Ll 11 (.fldA [.leaf,(.arr 64 .leaf),(.arr 64 .leaf),(.arr 64 .leaf)] (.t 3) 0),
 Ll 12 (.load .leaf (.t 11)),
 Ll 13 (.load (.arr 64 .leaf) (.t 4)),
 Ll 14 (.fldA [.leaf,(.arr 64 .leaf),(.arr 64 .leaf),(.arr 64 .leaf)] (.t 3) 0),
 Ll 15 (.load .leaf (.t 14)),
 Ll 16 (.fldA [.leaf,(.arr 64 .leaf),(.arr 64 .leaf),(.arr 64 .leaf)] (.t 3) 1),
 Ll 17 (.load (.arr 64 .leaf) (.t 16)),
 Ll 18 (.call .flat [] (.f F3w) [(.t 12),(.t 13),(.t 15),(.t 17)]),
 Ls (.store false (.arr 64 .leaf) (.t 4) (.t 18))] [2,3,4,6]))
 (.region [Lw 9 2,
 Ll 10 (.bin .sub (.t 9) (.c (.int .i64 1))),
 Lw 2 10] [2,3,4,6]))
def Z4k_B:Cd:=
 .seq (.region [Ll 3 (.box false 0 (.t 0)),
 Ll 4 (.box false 1 (.t 1)),
 Ll 6 (.box false 2 (.c (.arr 64 .leaf z64)))] [2,3,4,6])
 (.seq (.block 0 (.loop (Z4k_L0)))
 (.seq (.region [Ll 19 (.load (.arr 64 .leaf) (.t 4)),
 Ls (.store false (.arr 64 .leaf) (.t 6) (.t 19))] [6])
 (.ret)))
def Z4k:Fn:=
 { nparams:=3,nblk:=3,results:=[.cell 6 (.arr 64 .leaf)],body:=Z4k_B }
def Z4l_L0:Cd:=
 .seq (.seq (.region [Lw 23 10,
 Ll 24 (.load (.arr 64 .leaf) (.t 4)),
 Ll 25 (.call .flat [] (.f F3g) [(.t 24)]),
 Ll 26 (.bin .leq (.t 23) (.t 25))] [3,4,6,7,8,9,10,26])
 (.cond (.t 26)
 (.skip)
 (.exit 0)))
 (.seq (.block 1 (.seq (.region [Lw 29 9,
 Ll 30 (.load (.arr 64 .leaf) (.t 7)),
 Ll 31 (.load (.arr 64 .leaf) (.t 8)),
 Lw 32 10,
 Ll 33 (.idxA (some 64) .leaf (.t 4) (.t 32)),
 Ll 34 (.load .leaf (.t 33)),
 Ll 35 (.conv .i64 (.t 34)),
 Ll 36 (.call .flat [] (.f F3c) [(.t 29),(.t 30),(.t 31),(.t 35)]),
 Ls (.store false (.arr 64 .leaf) (.t 7) (.t 36))] [3,4,6,7,8,9,10])
 (.seq (.region [Ll 37 (.load (.st [.leaf,(.arr 64 .leaf),(.arr 64 .leaf),(.arr 64 .leaf)]) (.t 3)),
 Ll 38 (.load (.arr 64 .leaf) (.t 8)),
 Ll 39 (.call .flat [] (.f F4k) [(.t 37),(.t 38),(.c (.int .i64 1))]),
 Ll 40 (.load (.st [.leaf,(.arr 64 .leaf),(.arr 64 .leaf),(.arr 64 .leaf)]) (.t 3)),
 Ll 41 (.load (.arr 64 .leaf) (.t 8)),
 Ll 42 (.call .flat [] (.f F4k) [(.t 40),(.t 41),(.c (.int .i64 2))]),
 Ll 11 (.box false 6 (.c (.arr 64 .leaf z64))),
 Ll 12 (.box false 7 (.c (.arr 64 .leaf z64))),
 Ls (.store false (.arr 64 .leaf) (.t 11) (.t 39)),
 Ls (.store false (.arr 64 .leaf) (.t 12) (.t 42))] [3,4,6,7,8,9,10,11,12])
 (.seq (.region [Ll 43 (.load (.st [.leaf,(.arr 64 .leaf),(.arr 64 .leaf),(.arr 64 .leaf)]) (.t 3)),
 Lw 44 9,
 Ll 45 (.call .flat [] (.f F3y) []),
 Ll 46 (.fldA [.leaf,(.arr 64 .leaf),(.arr 64 .leaf),(.arr 64 .leaf)] (.t 3) 1),
 Ll 47 (.load (.arr 64 .leaf) (.t 46)),
 Ll 48 (.call .flat [] (.f F3p) [(.t 44),(.t 45),(.t 47)]),
 Ll 49 (.load (.arr 64 .leaf) (.t 8)),
 Ll 50 (.call .flat [] (.f F4h) [(.t 43),(.t 48),(.t 49)]),
 Ll 13 (.box false 8 (.c (.arr 64 .leaf z64))),
 Ls (.store false (.arr 64 .leaf) (.t 13) (.t 50))] [3,4,6,7,8,9,10,11,12,13])
 (.seq (.region [Lw 51 9,
 Ll 52 (.load (.arr 64 .leaf) (.t 13)),
 Ll 53 (.load (.st [.leaf,(.arr 64 .leaf),(.arr 64 .leaf),(.arr 64 .leaf)]) (.t 3)),
 Ll 54 (.fldA [.leaf,(.arr 64 .leaf),(.arr 64 .leaf),(.arr 64 .leaf)] (.t 3) 2),
 Ll 55 (.load (.arr 64 .leaf) (.t 54)),
 Ll 56 (.load (.arr 64 .leaf) (.t 11)),
 Ll 57 (.call .flat [] (.f F4h) [(.t 53),(.t 55),(.t 56)]),
 Ll 58 (.call .flat [] (.f F3c) [(.t 51),(.t 52),(.t 57),(.c (.int .i64 1))]),
 Ls (.store false (.arr 64 .leaf) (.t 13) (.t 58))] [3,4,6,7,8,9,10,12,13])
 (.region [Lw 59 9,
 Ll 60 (.load (.arr 64 .leaf) (.t 13)),
 Ll 61 (.load (.st [.leaf,(.arr 64 .leaf),(.arr 64 .leaf),(.arr 64 .leaf)]) (.t 3)),
 Ll 62 (.fldA [.leaf,(.arr 64 .leaf),(.arr 64 .leaf),(.arr 64 .leaf)] (.t 3) 3),
 Ll 63 (.load (.arr 64 .leaf) (.t 62)),
 Ll 64 (.load (.arr 64 .leaf) (.t 12)),
 Ll 65 (.call .flat [] (.f F4h) [(.t 61),(.t 63),(.t 64)]),
 Ll 66 (.call .flat [] (.f F3c) [(.t 59),(.t 60),(.t 65),(.c (.int .i64 1))]),
 Ls (.store false (.arr 64 .leaf) (.t 8) (.t 66))] [3,4,6,7,8,9,10]))))))
 (.region [Lw 27 10,
 Ll 28 (.bin .add (.t 27) (.c (.int .i64 1))),
 Lw 10 28] [3,4,6,7,8,9,10]))
def Z4l_B:Cd:=
 .seq (.region [Ll 3 (.box false 0 (.t 0)),
 Ll 4 (.box false 1 (.t 1)),
 Ll 5 (.box false 2 (.t 2)),
 Ll 6 (.box false 3 (.c (.arr 64 .leaf z64)))] [3,4,5,6])
 (.seq (.region [Ll 14 (.build false (.arr 64 .leaf z64) []),
 Ll 15 (.fldA [.leaf,(.arr 64 .leaf),(.arr 64 .leaf),(.arr 64 .leaf)] (.t 3) 0),
 Ll 16 (.load .leaf (.t 15)),
 Ll 17 (.load (.arr 64 .leaf) (.t 5)),
 Ll 18 (.fldA [.leaf,(.arr 64 .leaf),(.arr 64 .leaf),(.arr 64 .leaf)] (.t 3) 1),
 Ll 19 (.load (.arr 64 .leaf) (.t 18)),
 Ll 20 (.call .flat [] (.f F3p) [(.t 16),(.t 17),(.t 19)]),
 Ll 21 (.fldA [.leaf,(.arr 64 .leaf),(.arr 64 .leaf),(.arr 64 .leaf)] (.t 3) 0),
 Ll 22 (.load .leaf (.t 21)),
 Ll 7 (.box false 4 (.c (.arr 64 .leaf z64))),
 Ll 8 (.box false 5 (.c (.arr 64 .leaf z64))),
 ⟨none,.store false (.arr 64 .leaf) (.t 7) (.t 14),none,[3,21]⟩,
 ⟨none,.store false (.arr 64 .leaf) (.t 8) (.t 20),none,[3,21]⟩,
 Lw 9 22] [3,4,6,7,8,9])
 (.seq (.seq (.region [Ll 10 (.mv (.c (.int .i64 0)))] [3,4,6,7,8,9,10])
 (.block 0 (.loop (Z4l_L0))))
 (.seq (.region [Ll 67 (.load (.arr 64 .leaf) (.t 7)),
 Ls (.store false (.arr 64 .leaf) (.t 6) (.t 67))] [6])
 (.ret))))
def Z4l:Fn:=
 { nparams:=3,nblk:=9,results:=[.cell 6 (.arr 64 .leaf)],body:=Z4l_B }
def Z37_B:Cd:=
 .seq (.region [Ll 3 (.box false 0 (.t 0)),
 Ll 4 (.box false 1 (.t 1)),
 Ll 5 (.box false 2 (.t 2)),
 Ll 6 (.box false 3 (.c (.arr 64 .leaf z64))),
 Ll 7 (.mv (.c (.int .i64 0)))] [3,4,5,6])
 (.seq (.seq (.region [Ll 9 (.load (.st [.leaf,(.arr 64 .leaf),(.arr 64 .leaf),(.arr 64 .leaf)]) (.t 3)),
 Ll 10 (.load (.arr 64 .leaf) (.t 4)),
 Ll 11 (.load (.arr 64 .leaf) (.t 5)),
 Ll 12 (.buildSl false 4 (.arr 64 .leaf) (.arr 64 .leaf z64) 2 [(0,(.t 10)),(1,(.t 11))]),
 Ll 13 (.call .flat [] (.f F48) [(.t 9),(.t 12)]),
 Lw 8 13] [3,4,5,6,8])
 (.seq (.region [Lw 14 8,
 Ll 15 (.bin .neq (.t 14) (.c (.int .i64 0)))] [3,4,5,6,8,15])
 (.cond (.t 15)
 (.seq (.region [Ll 16 (.build false (.arr 64 .leaf z64) []),
 Lw 17 8,
 Ls (.store false (.arr 64 .leaf) (.t 6) (.t 16)),
 Lw 7 17] [6,7])
 (.ret))
 (.skip))))
 (.seq (.region [Ll 18 (.load (.st [.leaf,(.arr 64 .leaf),(.arr 64 .leaf),(.arr 64 .leaf)]) (.t 3)),
 Ll 19 (.load (.arr 64 .leaf) (.t 4)),
 Ll 20 (.load (.arr 64 .leaf) (.t 5)),
 Ll 21 (.call .flat [] (.f F4l) [(.t 18),(.t 19),(.t 20)]),
 Ls (.store false (.arr 64 .leaf) (.t 6) (.t 21)),
 Ll 7 (.mv (.c (.int .i64 0)))] [6,7])
 (.ret)))
def Z37:Fn:=
 { nparams:=3,nblk:=5,results:=[.cell 6 (.arr 64 .leaf),.tmp 7],body:=Z37_B }
def Z49_L0:Cd:=
 .seq (.seq (.region [Lw 27 10,
 Lw 28 1,
 Ll 29 (.len false (.t 28)),
 Ll 30 (.bin .lss (.t 27) (.t 29))] [1,2,3,7,8,9,10,30])
 (.cond (.t 30)
 (.skip)
 (.exit 2)))
 (.seq (.block 3 (.seq (.region [Lw 33 7,
 Lw 34 10,
 Lw 35 8,
 Ll 36 (.bin .add (.t 34) (.t 35)),
 Ll 37 (.fldA [.leaf,(.arr 64 .leaf),(.arr 64 .leaf),(.arr 64 .leaf)] (.t 3) 0),
 Ll 38 (.load .leaf (.t 37)),
 Lw 39 7,
 Lw 40 10,
 Lw 41 8,
 Ll 42 (.bin .add (.t 40) (.t 41)),
 Ll 43 (.idxA none (.arr 64 .leaf) (.t 39) (.t 42)),
 Ll 44 (.load (.arr 64 .leaf) (.t 43)),
 Ll 45 (.load (.st [.leaf,(.arr 64 .leaf),(.arr 64 .leaf),(.arr 64 .leaf)]) (.t 3)),
 Lw 46 1,
 Lw 47 10,
 Ll 48 (.idxA none (.arr 64 .leaf) (.t 46) (.t 47)),
 Ll 49 (.load (.arr 64 .leaf) (.t 48)),
 Ll 50 (.load (.arr 64 .leaf) (.t 9)),
 Ll 51 (.call .flat [] (.f F4h) [(.t 45),(.t 49),(.t 50)]),
 Ll 52 (.call .flat [] (.f F3c) [(.t 38),(.t 44),(.t 51),(.c (.int .i64 1))]),
 Ll 53 (.idxA none (.arr 64 .leaf) (.t 33) (.t 36)),
 Ls (.store false (.arr 64 .leaf) (.t 53) (.t 52))] [1,2,3,7,8,9,10])
 (.region [Ll 54 (.load (.st [.leaf,(.arr 64 .leaf),(.arr 64 .leaf),(.arr 64 .leaf)]) (.t 3)),
 Ll 55 (.load (.arr 64 .leaf) (.t 9)),
 Ll 56 (.call .flat [] (.f F4k) [(.t 54),(.t 55),(.c (.int .i64 1))]),
 Ls (.store false (.arr 64 .leaf) (.t 9) (.t 56))] [1,2,3,7,8,9,10])))
 (.region [Lw 31 10,
 Ll 32 (.bin .add (.t 31) (.c (.int .i64 1))),
 Lw 10 32] [1,2,3,7,8,9,10]))
def Z49_L1:Cd:=
 .seq (.seq (.region [Lw 17 8,
 Lw 18 2,
 Ll 19 (.len false (.t 18)),
 Ll 20 (.bin .lss (.t 17) (.t 19))] [1,2,3,7,8,20])
 (.cond (.t 20)
 (.skip)
 (.exit 0)))
 (.seq (.block 1 (.seq (.region [Lw 23 2,
 Lw 24 8,
 Ll 25 (.idxA none (.arr 64 .leaf) (.t 23) (.t 24)),
 Ll 26 (.load (.arr 64 .leaf) (.t 25)),
 Ll 9 (.box false 2 (.c (.arr 64 .leaf z64))),
 Ls (.store false (.arr 64 .leaf) (.t 9) (.t 26))] [1,2,3,7,8,9])
 (.seq (.region [Ll 10 (.mv (.c (.int .i64 0)))] [1,2,3,7,8,9,10])
 (.block 2 (.loop (Z49_L0))))))
 (.region [Lw 21 8,
 Ll 22 (.bin .add (.t 21) (.c (.int .i64 1))),
 Lw 8 22] [1,2,3,7,8]))
def Z49_B:Cd:=
 .seq (.region [Ll 3 (.box false 0 (.t 0)),
 Ll 6 (.mv (.c (.sl (.arr 64 .leaf) [])))] [1,2,3])
 (.seq (.region [Lw 11 1,
 Ll 12 (.len false (.t 11)),
 Lw 13 2,
 Ll 14 (.len false (.t 13)),
 Ll 15 (.bin .add (.t 12) (.t 14)),
 Ll 16 (.mkSl 1 (.arr 64 .leaf) (.arr 64 .leaf z64) 64 (.t 15) (.t 15)),
 Lw 7 16] [1,2,3,7])
 (.seq (.seq (.region [Ll 8 (.mv (.c (.int .i64 0)))] [1,2,3,7,8])
 (.block 0 (.loop (Z49_L1))))
 (.seq (.region [Lw 57 7,
 Ll 58 (.call .data [] (.f F44) [(.t 57)]),
 Lw 6 58] [6])
 (.ret))))
def Z49:Fn:=
 { nparams:=3,nblk:=3,results:=[.tmp 6],body:=Z49_B }
def Z4g_B:Cd:=
 .seq (.region [Ll 1 (.box false 0 (.t 0)),
 Ll 2 (.mv (.c (.sl (.arr 64 .leaf) [])))] [1])
 (.seq (.region [Ll 3 (.fldA [.leaf,(.arr 64 .leaf),(.arr 64 .leaf),(.arr 64 .leaf)] (.t 1) 0),
 Ll 4 (.load .leaf (.t 3)),
 Ll 5 (.call .flat [] (.f F3y) []),
 Ll 6 (.fldA [.leaf,(.arr 64 .leaf),(.arr 64 .leaf),(.arr 64 .leaf)] (.t 1) 1),
 Ll 7 (.load (.arr 64 .leaf) (.t 6)),
 Ll 8 (.call .flat [] (.f F3p) [(.t 4),(.t 5),(.t 7)]),
 Ll 9 (.fldA [.leaf,(.arr 64 .leaf),(.arr 64 .leaf),(.arr 64 .leaf)] (.t 1) 2),
 Ll 10 (.load (.arr 64 .leaf) (.t 9)),
 Ll 11 (.fldA [.leaf,(.arr 64 .leaf),(.arr 64 .leaf),(.arr 64 .leaf)] (.t 1) 3),
 Ll 12 (.load (.arr 64 .leaf) (.t 11)),
 Ll 13 (.buildSl false 1 (.arr 64 .leaf) (.arr 64 .leaf z64) 3 [(0,(.t 8)),(1,(.t 10)),(2,(.t 12))]),
 Lw 2 13] [2])
 (.ret))
def Z4g:Fn:=
 { nparams:=1,nblk:=2,results:=[.tmp 2],body:=Z4g_B }
def Z45_L0:Cd:=
 .seq (.seq (.region [Lw 24 9,
 Lw 25 7,
 Ll 26 (.len false (.t 25)),
 Ll 27 (.bin .lss (.t 24) (.t 26))] [2,3,5,6,7,8,9,27])
 (.cond (.t 27)
 (.skip)
 (.exit 2)))
 (.seq (.block 3 (.region [Lw 30 6,
 Lw 31 9,
 Ll 32 (.fldA [.leaf,(.arr 64 .leaf),(.arr 64 .leaf),(.arr 64 .leaf)] (.t 2) 0),
 Ll 33 (.load .leaf (.t 32)),
 Lw 34 6,
 Lw 35 9,
 Ll 36 (.idxA none (.arr 64 .leaf) (.t 34) (.t 35)),
 Ll 37 (.load (.arr 64 .leaf) (.t 36)),
 Lw 38 7,
 Lw 39 9,
 Ll 40 (.idxA none (.arr 64 .leaf) (.t 38) (.t 39)),
 Ll 41 (.load (.arr 64 .leaf) (.t 40)),
 Lw 42 8,
 Ll 43 (.idxA (some 64) .leaf (.t 3) (.t 42)),
 Ll 44 (.load .leaf (.t 43)),
 Ll 45 (.conv .i64 (.t 44)),
 Ll 46 (.call .flat [] (.f F3c) [(.t 33),(.t 37),(.t 41),(.t 45)]),
 Ll 47 (.idxA none (.arr 64 .leaf) (.t 30) (.t 31)),
 Ls (.store false (.arr 64 .leaf) (.t 47) (.t 46))] [2,3,5,6,7,8,9]))
 (.region [Lw 28 9,
 Ll 29 (.bin .add (.t 28) (.c (.int .i64 1))),
 Lw 9 29] [2,3,5,6,7,8,9]))
def Z45_L1:Cd:=
 .seq (.seq (.region [Lw 19 8,
 Lw 20 5,
 Ll 21 (.bin .leq (.t 19) (.t 20))] [2,3,5,6,7,8,21])
 (.cond (.t 21)
 (.skip)
 (.exit 0)))
 (.seq (.block 1 (.seq (.seq (.region [Ll 9 (.mv (.c (.int .i64 0)))] [2,3,5,6,7,8,9])
 (.block 2 (.loop (Z45_L0))))
 (.seq (.region [Lw 48 8,
 Lw 49 5,
 Ll 50 (.bin .lss (.t 48) (.t 49))] [2,3,5,6,7,8,50])
 (.cond (.t 50)
 (.region [Ll 51 (.load (.st [.leaf,(.arr 64 .leaf),(.arr 64 .leaf),(.arr 64 .leaf)]) (.t 2)),
 Ll 52 (.load (.st [.leaf,(.arr 64 .leaf),(.arr 64 .leaf),(.arr 64 .leaf)]) (.t 2)),
 Ll 53 (.call .plain [] (.f F4g) [(.t 52)]),
 Lw 54 7,
 Ll 55 (.call .data [] (.f F49) [(.t 51),(.t 53),(.t 54)]),
 Lw 7 55] [2,3,5,6,7,8])
 (.skip)))))
 (.region [Lw 22 8,
 Ll 23 (.bin .add (.t 22) (.c (.int .i64 1))),
 Lw 8 23] [2,3,5,6,7,8]))
def Z45_B:Cd:=
 .seq (.region [Ll 2 (.box false 0 (.t 0)),
 Ll 3 (.box false 1 (.t 1)),
 Ll 4 (.mv (.c (.sl (.arr 64 .leaf) [])))] [2,3])
 (.seq (.region [Ll 10 (.load (.arr 64 .leaf) (.t 3)),
 Ll 11 (.call .flat [] (.f F3g) [(.t 10)]),
 Lw 5 11] [2,3,5])
 (.seq (.region [Lw 12 5,
 Ll 13 (.bin .mul (.c (.int .i64 2)) (.t 12)),
 Ll 14 (.bin .add (.t 13) (.c (.int .i64 1))),
 Ll 15 (.maxI (.t 14) (.c (.int .i64 0))),
 Ll 16 (.mkSl 2 (.arr 64 .leaf) (.arr 64 .leaf z64) 64 (.t 15) (.t 15)),
 Ll 17 (.call .flat [] (.f F3u) []),
 Ll 18 (.buildSl false 3 (.arr 64 .leaf) (.arr 64 .leaf z64) 1 [(0,(.t 17))]),
 Lw 6 16,
 Lw 7 18] [2,3,5,6,7])
 (.seq (.seq (.region [Ll 8 (.mv (.c (.int .i64 0)))] [2,3,5,6,7,8])
 (.block 0 (.loop (Z45_L1))))
 (.seq (.region [Lw 56 6,
 Lw 4 56] [4])
 (.ret)))))
def Z45:Fn:=
 { nparams:=2,nblk:=4,results:=[.tmp 4],body:=Z45_B }
def Z47_B:Cd:=
 .seq (.region [Ll 2 (.box false 0 (.t 0)),
 Ll 3 (.box false 1 (.t 1)),
 Ll 4 (.mv (.c (.int .i64 0)))] [2,3])
 (.seq (.block 0 (.seq (.region [Ll 6 (.load (.st [.leaf,(.arr 64 .leaf),(.arr 64 .leaf),(.arr 64 .leaf)]) (.t 2)),
 Ll 7 (.call .flat [] (.f F4c) [(.t 6)]),
 Ll 8 (.un .not (.t 7)),
 Lw 9 8,
 Lg 10 (.load (.st [.leaf,(.arr 64 .leaf),(.arr 64 .leaf),(.arr 64 .leaf)]) (.t 3)) 9 false,
 Lg 11 (.call .flat [] (.f F4c) [(.t 10)]) 9 false,
 Lg 12 (.un .not (.t 11)) 9 false,
 Ll 13 (.pick (.t 9) (.c (.bool true)) (.t 12)),
 Lw 5 13] [2,3,5])
 (.cond (.t 5)
 (.seq (.region [Ll 4 (.mv (.c (.int .i64 1)))] [4])
 (.ret))
 (.seq (.region [Ll 15 (.fldA [.leaf,(.arr 64 .leaf),(.arr 64 .leaf),(.arr 64 .leaf)] (.t 2) 0),
 Ll 16 (.load .leaf (.t 15)),
 Ll 17 (.fldA [.leaf,(.arr 64 .leaf),(.arr 64 .leaf),(.arr 64 .leaf)] (.t 3) 0),
 Ll 18 (.load .leaf (.t 17)),
 Ll 19 (.bin .neq (.t 16) (.t 18)),
 Lw 20 19,
 Lg 21 (.fldA [.leaf,(.arr 64 .leaf),(.arr 64 .leaf),(.arr 64 .leaf)] (.t 2) 1) 20 false,
 Lg 22 (.load (.arr 64 .leaf) (.t 21)) 20 false,
 Lg 23 (.fldA [.leaf,(.arr 64 .leaf),(.arr 64 .leaf),(.arr 64 .leaf)] (.t 3) 1) 20 false,
 Lg 24 (.load (.arr 64 .leaf) (.t 23)) 20 false,
 Lg 25 (.eqv true (.arr 64 .leaf .int) (.t 22) (.t 24)) 20 false,
 Ll 26 (.pick (.t 20) (.c (.bool true)) (.t 25)),
 Lw 14 26] [14])
 (.cond (.t 14)
 (.seq (.region [Ll 4 (.mv (.c (.int .i64 2)))] [4])
 (.ret))
 (.skip))))))
 (.seq (.region [Ll 4 (.mv (.c (.int .i64 0)))] [4])
 (.ret)))
def Z47:Fn:=
 { nparams:=2,nblk:=2,results:=[.tmp 4],body:=Z47_B }
def Z3a_L0:Cd:=
 .seq (.seq (.region [Lw 43 9,
 Lw 44 2,
 Ll 45 (.len false (.t 44)),
 Ll 46 (.bin .lss (.t 43) (.t 45))] [2,3,4,8,9,46])
 (.cond (.t 46)
 (.skip)
 (.exit 0)))
 (.seq (.block 1 (.seq (.seq (.region [Lw 49 2,
 Lw 50 9,
 Ll 51 (.idxA none (.arr 64 .leaf) (.t 49) (.t 50)),
 Ll 52 (.load (.arr 64 .leaf) (.t 51)),
 Ll 53 (.call .flat [] (.f F3g) [(.t 52)]),
 Ll 54 (.fldA [.leaf,(.arr 64 .leaf),(.arr 64 .leaf),(.arr 64 .leaf)] (.t 3) 1),
 Ll 55 (.load (.arr 64 .leaf) (.t 54)),
 Ll 56 (.call .flat [] (.f F3g) [(.t 55)]),
 Ll 57 (.bin .geq (.t 53) (.t 56))] [2,3,4,8,9,57])
 (.cond (.t 57)
 (.seq (.region [Ll 6 (.mv (.c (.bool false))),
 Ll 7 (.mv (.c (.int .i64 2)))] [6,7])
 (.ret))
 (.skip)))
 (.region [Lw 58 8,
 Lw 59 58,
 Lx 60 2 59 false,
 Lx 61 9 59 false,
 Lg 62 (.idxA none (.arr 64 .leaf) (.t 60) (.t 61)) 59 false,
 Lg 63 (.load (.arr 64 .leaf) (.t 62)) 59 false,
 Lg 64 (.build false (.arr 64 .leaf z64) []) 59 false,
 Lg 65 (.eqv true (.arr 64 .leaf .int) (.t 63) (.t 64)) 59 false,
 Ll 66 (.pick (.t 59) (.c (.bool true)) (.t 65)),
 Lw 8 66] [2,3,4,8,9])))
 (.region [Lw 47 9,
 Ll 48 (.bin .add (.t 47) (.c (.int .i64 1))),
 Lw 9 48] [2,3,4,8,9]))
def Z3a_L1:Cd:=
 .seq (.seq (.region [Lw 82 13,
 Lw 83 10,
 Ll 84 (.len false (.t 83)),
 Ll 85 (.bin .lss (.t 82) (.t 84)),
 Lw 86 85,
 Lx 87 12 86 true,
 Ll 88 (.pick (.t 86) (.t 87) (.c (.bool false)))] [8,10,11,12,13,88])
 (.cond (.t 88)
 (.skip)
 (.exit 2)))
 (.seq (.block 3 (.region [Lw 91 10,
 Lw 92 13,
 Ll 93 (.idxA none (.arr 64 .leaf) (.t 91) (.t 92)),
 Ll 94 (.load (.arr 64 .leaf) (.t 93)),
 Lw 95 11,
 Lw 96 13,
 Ll 97 (.idxA none (.arr 64 .leaf) (.t 95) (.t 96)),
 Ll 98 (.load (.arr 64 .leaf) (.t 97)),
 Ll 99 (.eqv false (.arr 64 .leaf .int) (.t 94) (.t 98)),
 Lw 12 99] [8,10,11,12,13]))
 (.region [Lw 89 13,
 Ll 90 (.bin .add (.t 89) (.c (.int .i64 1))),
 Lw 13 90] [8,10,11,12,13]))
def Z3a_B:Cd:=
 .seq (.region [Ll 3 (.box false 0 (.t 0)),
 Ll 4 (.box false 1 (.t 1)),
 Ll 6 (.mv (.c (.bool false))),
 Ll 7 (.mv (.c (.int .i64 0)))] [2,3,4])
 (.seq (.seq (.region [Ll 14 (.load (.st [.leaf,(.arr 64 .leaf),(.arr 64 .leaf),(.arr 64 .leaf)]) (.t 3)),
 Ll 15 (.call .flat [] (.f F4c) [(.t 14)]),
 Ll 16 (.un .not (.t 15)),
 Lw 17 16,
 Lg 18 (.load (.st [.leaf,(.arr 64 .leaf),(.arr 64 .leaf),(.arr 64 .leaf)]) (.t 4)) 17 false,
 Lg 19 (.call .flat [] (.f F4c) [(.t 18)]) 17 false,
 Lg 20 (.un .not (.t 19)) 17 false,
 Ll 21 (.pick (.t 17) (.c (.bool true)) (.t 20)),
 Lw 22 21,
 Lg 23 (.fldA [.leaf,(.arr 64 .leaf),(.arr 64 .leaf),(.arr 64 .leaf)] (.t 3) 0) 22 false,
 Lg 24 (.load .leaf (.t 23)) 22 false,
 Lx 25 2 22 false,
 Lg 26 (.call .flat [] (.f F3e) [(.t 24),(.t 25)]) 22 false,
 Lg 27 (.bin .neq (.t 26) (.c (.int .i64 0))) 22 false,
 Ll 28 (.pick (.t 22) (.c (.bool true)) (.t 27))] [2,3,4,28])
 (.cond (.t 28)
 (.seq (.region [Ll 6 (.mv (.c (.bool false))),
 Ll 7 (.mv (.c (.int .i64 1)))] [6,7])
 (.ret))
 (.skip)))
 (.seq (.seq (.region [Ll 29 (.load (.st [.leaf,(.arr 64 .leaf),(.arr 64 .leaf),(.arr 64 .leaf)]) (.t 3)),
 Ll 30 (.load (.st [.leaf,(.arr 64 .leaf),(.arr 64 .leaf),(.arr 64 .leaf)]) (.t 4)),
 Ll 31 (.call .flat [] (.f F47) [(.t 29),(.t 30)]),
 Ll 32 (.bin .neq (.t 31) (.c (.int .i64 0))),
 Lw 33 32,
 Lx 34 2 33 false,
 Lg 35 (.len false (.t 34)) 33 false,
 Lg 36 (.bin .lss (.t 35) (.c (.int .i64 1))) 33 false,
 Ll 37 (.pick (.t 33) (.c (.bool true)) (.t 36)),
 Lw 38 37,
 Lx 39 2 38 false,
 Lg 40 (.len false (.t 39)) 38 false,
 Lg 41 (.bin .gtr (.t 40) (.c (.int .i64 6))) 38 false,
 Ll 42 (.pick (.t 38) (.c (.bool true)) (.t 41))] [2,3,4,42])
 (.cond (.t 42)
 (.seq (.region [Ll 6 (.mv (.c (.bool false))),
 Ll 7 (.mv (.c (.int .i64 2)))] [6,7])
 (.ret))
 (.skip)))
 (.seq (.region [Ll 8 (.mv (.c (.bool false)))] [2,3,4,8])
 (.seq (.seq (.region [Ll 9 (.mv (.c (.int .i64 0)))] [2,3,4,8,9])
 (.block 0 (.loop (Z3a_L0))))
 (.seq (.region [Ll 67 (.load (.st [.leaf,(.arr 64 .leaf),(.arr 64 .leaf),(.arr 64 .leaf)]) (.t 3)),
 Lw 68 2,
 Ll 69 (.load (.st [.leaf,(.arr 64 .leaf),(.arr 64 .leaf),(.arr 64 .leaf)]) (.t 3)),
 Ll 70 (.call .plain [] (.f F4g) [(.t 69)]),
 Ll 71 (.call .plain [] (.f F49) [(.t 67),(.t 68),(.t 70)]),
 Ll 72 (.load (.st [.leaf,(.arr 64 .leaf),(.arr 64 .leaf),(.arr 64 .leaf)]) (.t 3)),
 Ll 73 (.load (.st [.leaf,(.arr 64 .leaf),(.arr 64 .leaf),(.arr 64 .leaf)]) (.t 4)),
 Ll 74 (.call .plain [] (.f F4g) [(.t 73)]),
 Lw 75 2,
 Ll 76 (.call .plain [] (.f F49) [(.t 72),(.t 74),(.t 75)]),
 Lw 10 71,
 Lw 11 76] [8,10,11])
 (.seq (.region [Lw 77 10,
 Ll 78 (.len false (.t 77)),
 Lw 79 11,
 Ll 80 (.len false (.t 79)),
 Ll 81 (.bin .eql (.t 78) (.t 80)),
 Lw 12 81] [8,10,11,12])
 (.seq (.seq (.region [Ll 13 (.mv (.c (.int .i64 0)))] [8,10,11,12,13])
 (.block 2 (.loop (Z3a_L1))))
 (.seq (.region [Lw 100 8,
 Lw 101 100,
 Lx 102 12 101 true,
 Ll 103 (.pick (.t 101) (.t 102) (.c (.bool false))),
 Lw 6 103,
 Ll 7 (.mv (.c (.int .i64 0)))] [6,7])
 (.ret)))))))))
def Z3a:Fn:=
 { nparams:=3,nblk:=2,results:=[.tmp 6,.tmp 7],body:=Z3a_B }
def Z36_B:Cd:=
 .seq (.region [Ll 2 (.box false 0 (.t 0)),
 Ll 3 (.box false 1 (.t 1)),
 Ll 4 (.mv (.c (.sl (.arr 64 .leaf) []))),
 Ll 5 (.mv (.c (.int .i64 0)))] [2,3])
 (.seq (.block 0 (.seq (.region [Ll 7 (.load (.st [.leaf,(.arr 64 .leaf),(.arr 64 .leaf),(.arr 64 .leaf)]) (.t 2)),
 Ll 8 (.load (.arr 64 .leaf) (.t 3)),
 Ll 9 (.buildSl false 2 (.arr 64 .leaf) (.arr 64 .leaf z64) 1 [(0,(.t 8))]),
 Ll 10 (.call .flat [] (.f F48) [(.t 7),(.t 9)]),
 Ll 11 (.bin .neq (.t 10) (.c (.int .i64 0))),
 Lw 6 11] [2,3,6])
 (.cond (.t 6)
 (.seq (.region [Ll 4 (.mv (.c (.sl (.arr 64 .leaf) []))),
 Ll 5 (.mv (.c (.int .i64 1)))] [4,5])
 (.ret))
 (.seq (.region [Ll 13 (.load (.arr 64 .leaf) (.t 3)),
 Ll 14 (.call .flat [] (.f F3g) [(.t 13)]),
 Ll 15 (.bin .gtr (.t 14) (.c (.int .i64 5))),
 Lw 12 15] [2,3,12])
 (.cond (.t 12)
 (.seq (.region [Ll 4 (.mv (.c (.sl (.arr 64 .leaf) []))),
 Ll 5 (.mv (.c (.int .i64 2)))] [4,5])
 (.ret))
 (.skip))))))
 (.seq (.region [Ll 16 (.load (.st [.leaf,(.arr 64 .leaf),(.arr 64 .leaf),(.arr 64 .leaf)]) (.t 2)),
 Ll 17 (.load (.arr 64 .leaf) (.t 3)),
 Ll 18 (.call .plain [] (.f F45) [(.t 16),(.t 17)]),
 Lw 4 18,
 Ll 5 (.mv (.c (.int .i64 0)))] [4,5])
 (.ret)))
def Z36:Fn:=
 { nparams:=2,nblk:=3,results:=[.tmp 4,.tmp 5],body:=Z36_B }
def Z46_B:Cd:=
 .seq (.region [Ll 3 (.box false 0 (.t 1)),
 Ll 4 (.box false 1 (.c (.st [.leaf,(.arr 64 .leaf),(.arr 64 .leaf),(.arr 64 .leaf)] [(.int .i64 0),(.arr 64 .leaf z64),(.arr 64 .leaf z64),(.arr 64 .leaf z64)])))] [0,3,4])
 (.seq (.seq (.region [Lw 5 0,
 Ll 6 (.call .heap [] (.f F3s) [(.t 5),(.c (.int .i64 40))])] [0,3,4,6])
 (.block 0 (.seq (.region [Ll 8 (.bin .eql (.t 6) (.c (.int .i64 0))),
 Lw 7 8] [0,3,4,6,7])
 (.cond (.t 7)
 (.region [Lw 9 0,
 Ll 10 (.buildSl false 2 .leaf (.int .i64 0) 3 [(0,(.c (.int .i64 0))),(1,(.c (.int .i64 4))),(2,(.c (.int .i64 11)))]),
 Ll 11 (.call .heap [] (.f F3v) [(.t 9),(.t 10)]),
 Ll 12 (.fldA [.leaf,(.arr 64 .leaf),(.arr 64 .leaf),(.arr 64 .leaf)] (.t 3) 0),
 Ls (.store false .leaf (.t 12) (.t 11))] [3,4])
 (.seq (.region [Ll 14 (.bin .eql (.t 6) (.c (.int .i64 1))),
 Lw 13 14] [0,3,4,6,13])
 (.cond (.t 13)
 (.region [Ll 15 (.build false (.arr 64 .leaf z64) []),
 Ll 16 (.fldA [.leaf,(.arr 64 .leaf),(.arr 64 .leaf),(.arr 64 .leaf)] (.t 3) 3),
 Ls (.store false (.arr 64 .leaf) (.t 16) (.t 15))] [3,4])
 (.seq (.region [Ll 18 (.bin .eql (.t 6) (.c (.int .i64 2))),
 Lw 17 18] [0,3,4,6,17])
 (.cond (.t 17)
 (.region [Ll 19 (.build false (.arr 64 .leaf z64) [(0,(.c (.int .u8 0))),(1,(.c (.int .u8 0))),(2,(.c (.int .u8 1)))]),
 Ll 20 (.fldA [.leaf,(.arr 64 .leaf),(.arr 64 .leaf),(.arr 64 .leaf)] (.t 3) 1),
 Ls (.store false (.arr 64 .leaf) (.t 20) (.t 19))] [3,4])
 (.seq (.region [Ll 22 (.bin .eql (.t 6) (.c (.int .i64 3))),
 Lw 21 22] [0,3,4,21])
 (.cond (.t 21)
 (.region [Lw 23 0,
 Ll 24 (.call .heap [] (.f F3s) [(.t 23),(.c (.int .i64 8))]),
 Lw 25 0,
 Ll 26 (.call .heap [] (.f F3s) [(.t 25),(.c (.int .i64 8))]),
 Ll 27 (.conv .u8 (.t 26)),
 Ll 28 (.fldA [.leaf,(.arr 64 .leaf),(.arr 64 .leaf),(.arr 64 .leaf)] (.t 3) 2),
 Ll 29 (.idxA (some 64) .leaf (.t 28) (.t 24)),
 Ls (.store false .leaf (.t 29) (.t 27))] [3,4])
 (.skip)))))))))))
 (.seq (.region [Ll 30 (.load (.st [.leaf,(.arr 64 .leaf),(.arr 64 .leaf),(.arr 64 .leaf)]) (.t 3)),
 Ls (.store false (.st [.leaf,(.arr 64 .leaf),(.arr 64 .leaf),(.arr 64 .leaf)]) (.t 4) (.t 30))] [4])
 (.ret)))
def Z46:Fn:=
 { nparams:=2,nblk:=3,results:=[.cell 4 (.st [.leaf,(.arr 64 .leaf),(.arr 64 .leaf),(.arr 64 .leaf)])],body:=Z46_B }
def Z4b_L0:Cd:=
 .seq (.seq (.region [Lw 15 6,
 Ll 16 (.bin .lss (.t 15) (.c (.int .i64 30)))] [0,1,4,5,6,16])
 (.cond (.t 16)
 (.skip)
 (.exit 0)))
 (.seq (.block 1 (.seq (.region [Lw 19 1,
 Lw 20 1,
 Lw 21 5,
 Ll 22 (.call .flat [] (.f F43) [(.t 20),(.t 21)]),
 Lw 23 0,
 Lw 24 1,
 Lw 25 5,
 Ll 26 (.call .flat [] (.f F43) [(.t 24),(.t 25)]),
 Ll 27 (.call .heap [] (.f F3s) [(.t 23),(.t 26)]),
 Ll 28 (.bin .add (.t 22) (.t 27)),
 Ll 29 (.call .flat [] (.f F3t) [(.t 19),(.t 28)]),
 Ll 7 (.box false 2 (.c (.arr 64 .leaf z64))),
 Ls (.store false (.arr 64 .leaf) (.t 7) (.t 29))] [0,1,4,5,6,7])
 (.seq (.region [Lw 30 1,
 Ll 31 (.load (.arr 64 .leaf) (.t 7)),
 Ll 32 (.call .flat [] (.f F3n) [(.t 30),(.t 31)])] [0,1,4,5,6,7,32])
 (.cond (.t 32)
 (.seq (.region [Ll 33 (.load (.arr 64 .leaf) (.t 7)),
 Ls (.store false (.arr 64 .leaf) (.t 4) (.t 33))] [4])
 (.ret))
 (.skip)))))
 (.region [Lw 17 6,
 Ll 18 (.bin .add (.t 17) (.c (.int .i64 1))),
 Lw 6 18] [0,1,4,5,6]))
def Z4b_B:Cd:=
 .seq (.region [Ll 4 (.box false 0 (.c (.arr 64 .leaf z64)))] [0,1,4])
 (.seq (.region [Lw 8 0,
 Ll 9 (.buildSl false 1 .leaf (.int .i64 0) 6 [(0,(.c (.int .i64 1))),(1,(.c (.int .i64 2))),(2,(.c (.int .i64 2))),(3,(.c (.int .i64 3))),(4,(.c (.int .i64 3))),(5,(.c (.int .i64 4)))]),
 Ll 10 (.call .heap [] (.f F3v) [(.t 8),(.t 9)]),
 Lw 5 10] [0,1,4,5])
 (.seq (.seq (.region [Lw 11 1,
 Ll 12 (.bin .gtr (.t 11) (.c (.int .i64 3)))] [0,1,4,5,12])
 (.cond (.t 12)
 (.region [Lw 13 5,
 Ll 14 (.minI (.t 13) (.c (.int .i64 2))),
 Lw 5 14] [0,1,4,5])
 (.skip)))
 (.seq (.seq (.region [Ll 6 (.mv (.c (.int .i64 0)))] [0,1,4,5,6])
 (.block 0 (.loop (Z4b_L0))))
 (.seq (.region [Ll 34 (.call .flat [] (.f F3y) []),
 Ls (.store false (.arr 64 .leaf) (.t 4) (.t 34))] [4])
 (.ret)))))
def Z4b:Fn:=
 { nparams:=2,nblk:=3,results:=[.cell 4 (.arr 64 .leaf)],body:=Z4b_B }
def Z4d_B:Cd:=
 .seq (.region [Ll 5 (.box false 0 (.t 2)),
 Ll 6 (.box false 1 (.c (.st [.leaf,(.arr 64 .leaf),(.arr 64 .leaf),(.arr 64 .leaf)] [(.int .i64 0),(.arr 64 .leaf z64),(.arr 64 .leaf z64),(.arr 64 .leaf z64)])))] [0,1,5,6])
 (.seq (.region [Lw 8 1,
 Ll 9 (.load (.arr 64 .leaf) (.t 5)),
 Ll 10 (.call .flat [] (.f F3g) [(.t 9)]),
 Ll 11 (.call .flat [] (.f F3f) [(.t 8),(.t 10)]),
 Lw 7 11] [0,1,5,6,7])
 (.seq (.region [Lw 12 1,
 Ll 13 (.load (.arr 64 .leaf) (.t 5)),
 Lw 14 1,
 Lw 15 0,
 Lw 16 7,
 ⟨some 17,.call .heap [] (.f F3s) [(.t 15),(.t 16)],none,[5]⟩,
 Ll 18 (.call .flat [] (.f F3t) [(.t 14),(.t 17)]),
 Lw 19 1,
 Lw 20 0,
 Lw 21 7,
 Ll 22 (.bin .sub (.t 21) (.c (.int .i64 1))),
 ⟨some 23,.call .heap [] (.f F3s) [(.t 20),(.t 22)],none,[5]⟩,
 Ll 24 (.bin .add (.c (.int .i64 1)) (.t 23)),
 Ll 25 (.call .flat [] (.f F3t) [(.t 19),(.t 24)]),
 Ll 26 (.build false (.st [.leaf,(.arr 64 .leaf),(.arr 64 .leaf),(.arr 64 .leaf)] [(.int .i64 0),(.arr 64 .leaf z64),(.arr 64 .leaf z64),(.arr 64 .leaf z64)]) [(0,(.t 12)),(1,(.t 13)),(2,(.t 18)),(3,(.t 25))]),
 Ls (.store false (.st [.leaf,(.arr 64 .leaf),(.arr 64 .leaf),(.arr 64 .leaf)]) (.t 6) (.t 26))] [6])
 (.ret)))
def Z4d:Fn:=
 { nparams:=3,nblk:=2,results:=[.cell 6 (.st [.leaf,(.arr 64 .leaf),(.arr 64 .leaf),(.arr 64 .leaf)])],body:=Z4d_B }
def ir_spec_l06Draw_B:Cd:=
 .seq (.region [Ll 2 (.box false 0 (.c (.st [.leaf,(.arr 64 .leaf),(.arr 64 .leaf),(.arr 64 .leaf)] [(.int .i64 0),(.arr 64 .leaf z64),(.arr 64 .leaf z64),(.arr 64 .leaf z64)])))] [0,2])
 (.seq (.region [Lw 4 0,
 Ll 5 (.buildSl false 1 .leaf (.int .i64 0) 6 [(0,(.c (.int .i64 2))),(1,(.c (.int .i64 2))),(2,(.c (.int .i64 3))),(3,(.c (.int .i64 3))),(4,(.c (.int .i64 5))),(5,(.c (.int .i64 7)))]),
 Ll 6 (.call .heap [] (.f F3v) [(.t 4),(.t 5)]),
 Lw 3 6] [0,2,3])
 (.seq (.region [Lw 7 0,
 Lw 8 3,
 Lw 9 0,
 Lw 10 3,
 Ll 11 (.call .heap [] (.f F4b) [(.t 9),(.t 10)]),
 Ll 12 (.call .heap [] (.f F4d) [(.t 7),(.t 8),(.t 11)]),
 Ls (.store false (.st [.leaf,(.arr 64 .leaf),(.arr 64 .leaf),(.arr 64 .leaf)]) (.t 2) (.t 12))] [2])
 (.ret)))
def Z4a:Fn:=
 { nparams:=1,nblk:=2,results:=[.cell 2 (.st [.leaf,(.arr 64 .leaf),(.arr 64 .leaf),(.arr 64 .leaf)])],body:=ir_spec_l06Draw_B }
def Z4f_B:Cd:=
 .seq (.region [Ll 2 (.box false 0 (.c (.st [.leaf,(.arr 64 .leaf),(.arr 64 .leaf),(.arr 64 .leaf)] [(.int .i64 0),(.arr 64 .leaf z64),(.arr 64 .leaf z64),(.arr 64 .leaf z64)])))] [0,2])
 (.seq (.region [Lw 3 0,
 Lw 4 0,
 Ll 5 (.call .heap [] (.f F4a) [(.t 4)]),
 Ll 6 (.call .heap [] (.f F46) [(.t 3),(.t 5)]),
 Ls (.store false (.st [.leaf,(.arr 64 .leaf),(.arr 64 .leaf),(.arr 64 .leaf)]) (.t 2) (.t 6))] [2])
 (.ret))
def Z4f:Fn:=
 { nparams:=1,nblk:=1,results:=[.cell 2 (.st [.leaf,(.arr 64 .leaf),(.arr 64 .leaf),(.arr 64 .leaf)])],body:=Z4f_B }
def Z35_B:Cd:=
 .seq (.region [Ll 2 (.box false 0 (.c (.st [.leaf,(.arr 64 .leaf),(.arr 64 .leaf),(.arr 64 .leaf)] [(.int .i64 0),(.arr 64 .leaf z64),(.arr 64 .leaf z64),(.arr 64 .leaf z64)]))),
 Ll 3 (.box false 1 (.c (.arr 64 .leaf z64)))] [0,2,3])
 (.seq (.region [Lw 6 0,
 Ll 7 (.call .heap [2] (.f F3j) [(.t 6)]),
 Lw 4 7] [2,3,4])
 (.seq (.region [Lw 8 4,
 Ll 9 (.call .heap [] (.f F4f) [(.t 8)]),
 Ll 5 (.box false 3 (.c (.st [.leaf,(.arr 64 .leaf),(.arr 64 .leaf),(.arr 64 .leaf)] [(.int .i64 0),(.arr 64 .leaf z64),(.arr 64 .leaf z64),(.arr 64 .leaf z64)]))),
 Ls (.store false (.st [.leaf,(.arr 64 .leaf),(.arr 64 .leaf),(.arr 64 .leaf)]) (.t 5) (.t 9))] [2,3,4,5])
 (.seq (.region [Ll 10 (.load (.st [.leaf,(.arr 64 .leaf),(.arr 64 .leaf),(.arr 64 .leaf)]) (.t 5)),
 Lw 11 4,
 Ll 12 (.fldA [.leaf,(.arr 64 .leaf),(.arr 64 .leaf),(.arr 64 .leaf)] (.t 5) 0),
 Ll 13 (.load .leaf (.t 12)),
 Ll 14 (.call .flat [] (.f F41) [(.t 13)]),
 Lw 15 4,
 Ll 16 (.buildSl false 4 .leaf (.int .i64 0) 4 [(0,(.c (.int .i64 0))),(1,(.c (.int .i64 1))),(2,(.c (.int .i64 1))),(3,(.c (.int .i64 2)))]),
 ⟨some 17,.call .heap [] (.f F3v) [(.t 15),(.t 16)],none,[5]⟩,
 ⟨some 18,.call .heap [] (.f F3i) [(.t 11),(.t 14),(.t 17)],none,[5]⟩,
 Ls (.store false (.st [.leaf,(.arr 64 .leaf),(.arr 64 .leaf),(.arr 64 .leaf)]) (.t 2) (.t 10)),
 Ls (.store false (.arr 64 .leaf) (.t 3) (.t 18))] [2,3])
 (.ret))))
def Z35:Fn:=
 { nparams:=1,nblk:=5,results:=[.cell 2 (.st [.leaf,(.arr 64 .leaf),(.arr 64 .leaf),(.arr 64 .leaf)]),.cell 3 (.arr 64 .leaf)],body:=Z35_B }
def Z31_B:Cd:=
 .seq (.region [Ll 2 (.box false 0 (.c (.st [.leaf,(.arr 64 .leaf),(.arr 64 .leaf),(.arr 64 .leaf)] [(.int .i64 0),(.arr 64 .leaf z64),(.arr 64 .leaf z64),(.arr 64 .leaf z64)]))),
 Ll 3 (.box false 1 (.c (.arr 64 .leaf z64)))] [0,2,3])
 (.seq (.region [Lw 6 0,
 Ll 7 (.call .heap [2] (.f F3j) [(.t 6)]),
 Lw 4 7] [2,3,4])
 (.seq (.region [Lw 8 4,
 Ll 9 (.call .heap [] (.f F4f) [(.t 8)]),
 Ll 5 (.box false 3 (.c (.st [.leaf,(.arr 64 .leaf),(.arr 64 .leaf),(.arr 64 .leaf)] [(.int .i64 0),(.arr 64 .leaf z64),(.arr 64 .leaf z64),(.arr 64 .leaf z64)]))),
 Ls (.store false (.st [.leaf,(.arr 64 .leaf),(.arr 64 .leaf),(.arr 64 .leaf)]) (.t 5) (.t 9))] [2,3,4,5])
 (.seq (.region [Ll 10 (.load (.st [.leaf,(.arr 64 .leaf),(.arr 64 .leaf),(.arr 64 .leaf)]) (.t 5)),
 Lw 11 4,
 Ll 12 (.fldA [.leaf,(.arr 64 .leaf),(.arr 64 .leaf),(.arr 64 .leaf)] (.t 5) 0),
 Ll 13 (.load .leaf (.t 12)),
 Ll 14 (.call .flat [] (.f F41) [(.t 13)]),
 Lw 15 4,
 Ll 16 (.buildSl false 4 .leaf (.int .i64 0) 4 [(0,(.c (.int .i64 1))),(1,(.c (.int .i64 2))),(2,(.c (.int .i64 3))),(3,(.c (.int .i64 6)))]),
 ⟨some 17,.call .heap [] (.f F3v) [(.t 15),(.t 16)],none,[5]⟩,
 ⟨some 18,.call .heap [] (.f F3i) [(.t 11),(.t 14),(.t 17)],none,[5]⟩,
 Ls (.store false (.st [.leaf,(.arr 64 .leaf),(.arr 64 .leaf),(.arr 64 .leaf)]) (.t 2) (.t 10)),
 Ls (.store false (.arr 64 .leaf) (.t 3) (.t 18))] [2,3])
 (.ret))))
def Z31:Fn:=
 { nparams:=1,nblk:=5,results:=[.cell 2 (.st [.leaf,(.arr 64 .leaf),(.arr 64 .leaf),(.arr 64 .leaf)]),.cell 3 (.arr 64 .leaf)],body:=Z31_B }
def Z39_B:Cd:=
 .seq (.region [Ll 1 (.box false 0 (.t 0)),
 Ll 2 (.mv (.c (.bool false)))] [1])
 (.seq (.region [Ll 3 (.load (.st [.leaf,(.arr 64 .leaf),(.arr 64 .leaf),(.arr 64 .leaf)]) (.t 1)),
 Ll 4 (.call .flat [] (.f F4c) [(.t 3)]),
 Lw 2 4] [2])
 (.ret))
def Z39:Fn:=
 { nparams:=1,nblk:=1,results:=[.tmp 2],body:=Z39_B }
def Z32_B:Cd:=
 .seq (.region [Ll 2 (.box false 0 (.c (.st [.leaf,(.arr 64 .leaf),(.arr 64 .leaf),(.arr 64 .leaf)] [(.int .i64 0),(.arr 64 .leaf z64),(.arr 64 .leaf z64),(.arr 64 .leaf z64)]))),
 Ll 3 (.box false 1 (.c (.arr 64 .leaf z64))),
 Ll 4 (.box false 2 (.c (.arr 64 .leaf z64)))] [0,2,3,4])
 (.seq (.region [Lw 8 0,
 Ll 9 (.call .heap [3] (.f F3j) [(.t 8)]),
 Lw 5 9] [2,3,4,5])
 (.seq (.region [Lw 10 5,
 Ll 11 (.call .heap [] (.f F4f) [(.t 10)]),
 Ll 6 (.box false 4 (.c (.st [.leaf,(.arr 64 .leaf),(.arr 64 .leaf),(.arr 64 .leaf)] [(.int .i64 0),(.arr 64 .leaf z64),(.arr 64 .leaf z64),(.arr 64 .leaf z64)]))),
 Ls (.store false (.st [.leaf,(.arr 64 .leaf),(.arr 64 .leaf),(.arr 64 .leaf)]) (.t 6) (.t 11))] [2,3,4,5,6])
 (.seq (.region [Ll 12 (.fldA [.leaf,(.arr 64 .leaf),(.arr 64 .leaf),(.arr 64 .leaf)] (.t 6) 0),
 Ll 13 (.load .leaf (.t 12)),
 Ll 14 (.call .flat [] (.f F41) [(.t 13)]),
 Lw 7 14] [2,3,4,5,6,7])
 (.seq (.region [Ll 15 (.load (.st [.leaf,(.arr 64 .leaf),(.arr 64 .leaf),(.arr 64 .leaf)]) (.t 6)),
 Lw 16 5,
 Lw 17 7,
 Lw 18 5,
 Ll 19 (.buildSl false 5 .leaf (.int .i64 0) 4 [(0,(.c (.int .i64 1))),(1,(.c (.int .i64 2))),(2,(.c (.int .i64 3))),(3,(.c (.int .i64 6)))]),
 ⟨some 20,.call .heap [] (.f F3v) [(.t 18),(.t 19)],none,[6]⟩,
 ⟨some 21,.call .heap [] (.f F3i) [(.t 16),(.t 17),(.t 20)],none,[6]⟩,
 Lw 22 5,
 Lw 23 7,
 ⟨some 24,.call .heap [] (.f F3i) [(.t 22),(.t 23),(.c (.int .i64 4))],none,[6]⟩,
 Ls (.store false (.st [.leaf,(.arr 64 .leaf),(.arr 64 .leaf),(.arr 64 .leaf)]) (.t 2) (.t 15)),
 Ls (.store false (.arr 64 .leaf) (.t 3) (.t 21)),
 Ls (.store false (.arr 64 .leaf) (.t 4) (.t 24))] [2,3,4])
 (.ret)))))
def Z32:Fn:=
 { nparams:=1,nblk:=6,results:=[.cell 2 (.st [.leaf,(.arr 64 .leaf),(.arr 64 .leaf),(.arr 64 .leaf)]),.cell 3 (.arr 64 .leaf),.cell 4 (.arr 64 .leaf)],body:=Z32_B }
def Z33_B:Cd:=
 .seq (.region [Ll 2 (.box false 0 (.c (.st [.leaf,(.arr 64 .leaf),(.arr 64 .leaf),(.arr 64 .leaf)] [(.int .i64 0),(.arr 64 .leaf z64),(.arr 64 .leaf z64),(.arr 64 .leaf z64)])))] [0,2])
 (.seq (.region [Lw 3 0,
 Ll 4 (.call .heap [1] (.f F3j) [(.t 3)]),
 Ll 5 (.call .heap [] (.f F4f) [(.t 4)]),
 Ls (.store false (.st [.leaf,(.arr 64 .leaf),(.arr 64 .leaf),(.arr 64 .leaf)]) (.t 2) (.t 5))] [2])
 (.ret))
def Z33:Fn:=
 { nparams:=1,nblk:=2,results:=[.cell 2 (.st [.leaf,(.arr 64 .leaf),(.arr 64 .leaf),(.arr 64 .leaf)])],body:=Z33_B }
def Z38_B:Cd:=
 .seq (.region [Ll 1 (.box false 0 (.t 0)),
 Ll 2 (.box false 1 (.c (.arr 64 .leaf z64))),
 Ll 3 (.mv (.c (.int .i64 0)))] [1,2])
 (.seq (.seq (.region [Ll 5 (.load (.st [.leaf,(.arr 64 .leaf),(.arr 64 .leaf),(.arr 64 .leaf)]) (.t 1)),
 Ll 6 (.call .flat [] (.f F4c) [(.t 5)]),
 Ll 7 (.un .not (.t 6))] [1,2,7])
 (.cond (.t 7)
 (.seq (.region [Ll 8 (.build false (.arr 64 .leaf z64) []),
 Ls (.store false (.arr 64 .leaf) (.t 2) (.t 8)),
 Ll 3 (.mv (.c (.int .i64 1)))] [2,3])
 (.ret))
 (.skip)))
 (.seq (.region [Ll 9 (.fldA [.leaf,(.arr 64 .leaf),(.arr 64 .leaf),(.arr 64 .leaf)] (.t 1) 0),
 Ll 10 (.load .leaf (.t 9)),
 Ll 11 (.fldA [.leaf,(.arr 64 .leaf),(.arr 64 .leaf),(.arr 64 .leaf)] (.t 1) 2),
 Ll 12 (.load (.arr 64 .leaf) (.t 11)),
 Ll 13 (.fldA [.leaf,(.arr 64 .leaf),(.arr 64 .leaf),(.arr 64 .leaf)] (.t 1) 0),
 Ll 14 (.load .leaf (.t 13)),
 Ll 15 (.bin .add (.t 14) (.c (.int .i64 1))),
 Ll 16 (.fldA [.leaf,(.arr 64 .leaf),(.arr 64 .leaf),(.arr 64 .leaf)] (.t 1) 1),
 Ll 17 (.load (.arr 64 .leaf) (.t 16)),
 Ll 18 (.call .flat [] (.f F3w) [(.t 10),(.t 12),(.t 15),(.t 17)]),
 Ll 4 (.box false 2 (.c (.arr 64 .leaf z64))),
 Ls (.store false (.arr 64 .leaf) (.t 4) (.t 18))] [1,2,4])
 (.seq (.region [Ll 19 (.load (.st [.leaf,(.arr 64 .leaf),(.arr 64 .leaf),(.arr 64 .leaf)]) (.t 1)),
 Ll 20 (.load (.arr 64 .leaf) (.t 4)),
 Ll 21 (.fldA [.leaf,(.arr 64 .leaf),(.arr 64 .leaf),(.arr 64 .leaf)] (.t 1) 0),
 Ll 22 (.load .leaf (.t 21)),
 Ll 23 (.fldA [.leaf,(.arr 64 .leaf),(.arr 64 .leaf),(.arr 64 .leaf)] (.t 1) 3),
 Ll 24 (.load (.arr 64 .leaf) (.t 23)),
 Ll 25 (.fldA [.leaf,(.arr 64 .leaf),(.arr 64 .leaf),(.arr 64 .leaf)] (.t 1) 1),
 Ll 26 (.load (.arr 64 .leaf) (.t 25)),
 Ll 27 (.call .flat [] (.f F42) [(.t 22),(.t 24),(.t 26)]),
 Ll 28 (.call .flat [] (.f F4h) [(.t 19),(.t 20),(.t 27)]),
 Ls (.store false (.arr 64 .leaf) (.t 2) (.t 28)),
 Ll 3 (.mv (.c (.int .i64 0)))] [2,3])
 (.ret))))
def Z38:Fn:=
 { nparams:=1,nblk:=3,results:=[.cell 2 (.arr 64 .leaf),.tmp 3],body:=Z38_B }
def Z4j_B:Cd:=
 .seq (.region [Ll 2 (.box false 0 (.c (.st [.leaf,(.arr 64 .leaf),(.arr 64 .leaf),(.arr 64 .leaf)] [(.int .i64 0),(.arr 64 .leaf z64),(.arr 64 .leaf z64),(.arr 64 .leaf z64)]))),
 Ll 3 (.box false 1 (.c (.st [.leaf,(.arr 64 .leaf),(.arr 64 .leaf),(.arr 64 .leaf)] [(.int .i64 0),(.arr 64 .leaf z64),(.arr 64 .leaf z64),(.arr 64 .leaf z64)])))] [0,2,3])
 (.seq (.region [Lw 6 0,
 Ll 7 (.call .heap [] (.f F4a) [(.t 6)]),
 Ll 4 (.box false 2 (.c (.st [.leaf,(.arr 64 .leaf),(.arr 64 .leaf),(.arr 64 .leaf)] [(.int .i64 0),(.arr 64 .leaf z64),(.arr 64 .leaf z64),(.arr 64 .leaf z64)]))),
 Ls (.store false (.st [.leaf,(.arr 64 .leaf),(.arr 64 .leaf),(.arr 64 .leaf)]) (.t 4) (.t 7))] [0,2,3,4])
 (.seq (.region [Lw 8 0,
 Ll 9 (.fldA [.leaf,(.arr 64 .leaf),(.arr 64 .leaf),(.arr 64 .leaf)] (.t 4) 0),
 Ll 10 (.load .leaf (.t 9)),
 Ll 11 (.fldA [.leaf,(.arr 64 .leaf),(.arr 64 .leaf),(.arr 64 .leaf)] (.t 4) 1),
 Ll 12 (.load (.arr 64 .leaf) (.t 11)),
 Ll 13 (.call .heap [] (.f F4d) [(.t 8),(.t 10),(.t 12)]),
 Ll 5 (.box false 3 (.c (.st [.leaf,(.arr 64 .leaf),(.arr 64 .leaf),(.arr 64 .leaf)] [(.int .i64 0),(.arr 64 .leaf z64),(.arr 64 .leaf z64),(.arr 64 .leaf z64)]))),
 Ls (.store false (.st [.leaf,(.arr 64 .leaf),(.arr 64 .leaf),(.arr 64 .leaf)]) (.t 5) (.t 13))] [0,2,3,4,5])
 (.seq (.seq (.region [Lw 14 0,
 Ll 15 (.call .heap [] (.f F3s) [(.t 14),(.c (.int .i64 8))])] [0,2,3,4,5,15])
 (.block 0 (.seq (.seq (.region [Ll 17 (.bin .eql (.t 15) (.c (.int .i64 0))),
 Lw 16 17] [0,2,3,4,5,15,16])
 (.cond (.t 16)
 (.skip)
 (.seq (.region [Ll 18 (.bin .eql (.t 15) (.c (.int .i64 1))),
 Lw 16 18] [0,2,3,4,5,15,16])
 (.cond (.t 16)
 (.skip)
 (.region [Ll 19 (.bin .eql (.t 15) (.c (.int .i64 2))),
 Lw 16 19] [0,2,3,4,5,15,16])))))
 (.cond (.t 16)
 (.region [Ll 20 (.load (.st [.leaf,(.arr 64 .leaf),(.arr 64 .leaf),(.arr 64 .leaf)]) (.t 4)),
 Ll 21 (.fldA [.leaf,(.arr 64 .leaf),(.arr 64 .leaf),(.arr 64 .leaf)] (.t 4) 0),
 Ll 22 (.load .leaf (.t 21)),
 Lw 23 0,
 Ll 24 (.fldA [.leaf,(.arr 64 .leaf),(.arr 64 .leaf),(.arr 64 .leaf)] (.t 4) 0),
 Ll 25 (.load .leaf (.t 24)),
 Ll 26 (.fldA [.leaf,(.arr 64 .leaf),(.arr 64 .leaf),(.arr 64 .leaf)] (.t 4) 1),
 Ll 27 (.load (.arr 64 .leaf) (.t 26)),
 Ll 28 (.call .flat [] (.f F3g) [(.t 27)]),
 Ll 29 (.call .flat [] (.f F3f) [(.t 25),(.t 28)]),
 Ll 30 (.bin .sub (.t 29) (.c (.int .i64 1))),
 ⟨some 31,.call .heap [] (.f F3s) [(.t 23),(.t 30)],none,[4,21]⟩,
 Ll 32 (.bin .add (.c (.int .i64 1)) (.t 31)),
 Ll 33 (.call .flat [] (.f F3t) [(.t 22),(.t 32)]),
 Ll 34 (.call .flat [] (.f F4i) [(.t 20),(.t 33)]),
 Ls (.store false (.st [.leaf,(.arr 64 .leaf),(.arr 64 .leaf),(.arr 64 .leaf)]) (.t 5) (.t 34))] [0,2,3,4,5])
 (.seq (.region [Ll 36 (.bin .eql (.t 15) (.c (.int .i64 3))),
 Lw 35 36] [0,2,3,4,5,15,35])
 (.cond (.t 35)
 (.region [Ll 37 (.load (.st [.leaf,(.arr 64 .leaf),(.arr 64 .leaf),(.arr 64 .leaf)]) (.t 4)),
 Ls (.store false (.st [.leaf,(.arr 64 .leaf),(.arr 64 .leaf),(.arr 64 .leaf)]) (.t 5) (.t 37))] [0,2,3,4,5])
 (.seq (.region [Ll 39 (.bin .eql (.t 15) (.c (.int .i64 4))),
 Lw 38 39] [0,2,3,4,5,38])
 (.cond (.t 38)
 (.region [Lw 40 0,
 Ll 41 (.call .heap [] (.f F4a) [(.t 40)]),
 Ls (.store false (.st [.leaf,(.arr 64 .leaf),(.arr 64 .leaf),(.arr 64 .leaf)]) (.t 5) (.t 41))] [0,2,3,4,5])
 (.skip)))))))))
 (.seq (.region [Lw 42 0,
 Ll 43 (.load (.st [.leaf,(.arr 64 .leaf),(.arr 64 .leaf),(.arr 64 .leaf)]) (.t 4)),
 Ll 44 (.call .heap [] (.f F46) [(.t 42),(.t 43)]),
 Lw 45 0,
 ⟨some 46,.load (.st [.leaf,(.arr 64 .leaf),(.arr 64 .leaf),(.arr 64 .leaf)]) (.t 5),none,[42,43]⟩,
 Ll 47 (.call .heap [] (.f F46) [(.t 45),(.t 46)]),
 Ls (.store false (.st [.leaf,(.arr 64 .leaf),(.arr 64 .leaf),(.arr 64 .leaf)]) (.t 2) (.t 44)),
 Ls (.store false (.st [.leaf,(.arr 64 .leaf),(.arr 64 .leaf),(.arr 64 .leaf)]) (.t 3) (.t 47))] [2,3])
 (.ret)))))
def Z4j:Fn:=
 { nparams:=1,nblk:=4,results:=[.cell 2 (.st [.leaf,(.arr 64 .leaf),(.arr 64 .leaf),(.arr 64 .leaf)]),.cell 3 (.st [.leaf,(.arr 64 .leaf),(.arr 64 .leaf),(.arr 64 .leaf)])],body:=Z4j_B }
def Z30_B:Cd:=
 .seq (.region [Ll 2 (.box false 0 (.c (.st [.leaf,(.arr 64 .leaf),(.arr 64 .leaf),(.arr 64 .leaf)] [(.int .i64 0),(.arr 64 .leaf z64),(.arr 64 .leaf z64),(.arr 64 .leaf z64)]))),
 Ll 3 (.box false 1 (.c (.st [.leaf,(.arr 64 .leaf),(.arr 64 .leaf),(.arr 64 .leaf)] [(.int .i64 0),(.arr 64 .leaf z64),(.arr 64 .leaf z64),(.arr 64 .leaf z64)])))] [0,2,3])
 (.seq (.region [Lw 7 0,
 Ll 8 (.call .heap [2] (.f F3j) [(.t 7)]),
 Ll 9 (.call .heap [] (.f F4j) [(.t 8)]),
 Lw 6 9,
 Ll 10 (.ext (.t 6) 0),
 Ll 11 (.ext (.t 6) 1),
 Ll 4 (.box false 3 (.c (.st [.leaf,(.arr 64 .leaf),(.arr 64 .leaf),(.arr 64 .leaf)] [(.int .i64 0),(.arr 64 .leaf z64),(.arr 64 .leaf z64),(.arr 64 .leaf z64)]))),
 Ll 5 (.box false 4 (.c (.st [.leaf,(.arr 64 .leaf),(.arr 64 .leaf),(.arr 64 .leaf)] [(.int .i64 0),(.arr 64 .leaf z64),(.arr 64 .leaf z64),(.arr 64 .leaf z64)]))),
 Ls (.store false (.st [.leaf,(.arr 64 .leaf),(.arr 64 .leaf),(.arr 64 .leaf)]) (.t 4) (.t 10)),
 Ls (.store false (.st [.leaf,(.arr 64 .leaf),(.arr 64 .leaf),(.arr 64 .leaf)]) (.t 5) (.t 11))] [2,3,4,5])
 (.seq (.region [Ll 12 (.load (.st [.leaf,(.arr 64 .leaf),(.arr 64 .leaf),(.arr 64 .leaf)]) (.t 4)),
 Ll 13 (.load (.st [.leaf,(.arr 64 .leaf),(.arr 64 .leaf),(.arr 64 .leaf)]) (.t 5)),
 ⟨none,.store false (.st [.leaf,(.arr 64 .leaf),(.arr 64 .leaf),(.arr 64 .leaf)]) (.t 2) (.t 12),none,[5]⟩,
 Ls (.store false (.st [.leaf,(.arr 64 .leaf),(.arr 64 .leaf),(.arr 64 .leaf)]) (.t 3) (.t 13))] [2,3])
 (.ret)))
def Z30:Fn:=
 { nparams:=1,nblk:=5,results:=[.cell 2 (.st [.leaf,(.arr 64 .leaf),(.arr 64 .leaf),(.arr 64 .leaf)]),.cell 3 (.st [.leaf,(.arr 64 .leaf),(.arr 64 .leaf),(.arr 64 .leaf)])],body:=Z30_B }
def Z2z_L0:Cd:=
 .seq (.seq (.region [Lw 14 7,
 Ll 15 (.fldA [.leaf,(.arr 64 .leaf),(.arr 64 .leaf),(.arr 64 .leaf)] (.t 2) 0),
 Ll 16 (.load .leaf (.t 15)),
 Ll 17 (.fldA [.leaf,(.arr 64 .leaf),(.arr 64 .leaf),(.arr 64 .leaf)] (.t 2) 1),
 Ll 18 (.load (.arr 64 .leaf) (.t 17)),
 Ll 19 (.call .flat [] (.f F3g) [(.t 18)]),
 Ll 20 (.call .flat [] (.f F3f) [(.t 16),(.t 19)]),
 Ll 21 (.bin .lss (.t 14) (.t 20))] [2,3,7,21])
 (.cond (.t 21)
 (.skip)
 (.exit 0)))
 (.seq (.block 1 (.seq (.region [Ll 24 (.load (.st [.leaf,(.arr 64 .leaf),(.arr 64 .leaf),(.arr 64 .leaf)]) (.t 2)),
 Ll 25 (.fldA [.leaf,(.arr 64 .leaf),(.arr 64 .leaf),(.arr 64 .leaf)] (.t 2) 0),
 Ll 26 (.load .leaf (.t 25)),
 Lw 27 7,
 Ll 28 (.call .flat [] (.f F3t) [(.t 26),(.t 27)]),
 Ll 29 (.call .flat [] (.f F4i) [(.t 24),(.t 28)]),
 Ll 30 (.load (.st [.leaf,(.arr 64 .leaf),(.arr 64 .leaf),(.arr 64 .leaf)]) (.t 3)),
 Ll 31 (.eqv false (.st [.leaf,(.arr 64 .leaf),(.arr 64 .leaf),(.arr 64 .leaf)] [.int,(.arr 64 .leaf .int),(.arr 64 .leaf .int),(.arr 64 .leaf .int)]) (.t 29) (.t 30))] [2,3,7,31])
 (.cond (.t 31)
 (.seq (.region [Ll 4 (.mv (.c (.bool true))),
 Ll 5 (.mv (.c (.int .i64 0)))] [4,5])
 (.ret))
 (.skip))))
 (.region [Lw 22 7,
 Ll 23 (.bin .add (.t 22) (.c (.int .i64 1))),
 Lw 7 23] [2,3,7]))
def Z2z_B:Cd:=
 .seq (.region [Ll 2 (.box false 0 (.t 0)),
 Ll 3 (.box false 1 (.t 1)),
 Ll 4 (.mv (.c (.bool false))),
 Ll 5 (.mv (.c (.int .i64 0)))] [2,3])
 (.seq (.seq (.region [Ll 8 (.load (.st [.leaf,(.arr 64 .leaf),(.arr 64 .leaf),(.arr 64 .leaf)]) (.t 2)),
 Ll 9 (.load (.st [.leaf,(.arr 64 .leaf),(.arr 64 .leaf),(.arr 64 .leaf)]) (.t 3)),
 Ll 10 (.call .flat [] (.f F47) [(.t 8),(.t 9)]),
 Lw 6 10] [2,3,6])
 (.seq (.region [Lw 11 6,
 Ll 12 (.bin .neq (.t 11) (.c (.int .i64 0)))] [2,3,6,12])
 (.cond (.t 12)
 (.seq (.region [Lw 13 6,
 Ll 4 (.mv (.c (.bool false))),
 Lw 5 13] [4,5])
 (.ret))
 (.skip))))
 (.seq (.seq (.region [Ll 7 (.mv (.c (.int .i64 1)))] [2,3,7])
 (.block 0 (.loop (Z2z_L0))))
 (.seq (.region [Ll 4 (.mv (.c (.bool false))),
 Ll 5 (.mv (.c (.int .i64 0)))] [4,5])
 (.ret))))
def Z2z:Fn:=
 { nparams:=2,nblk:=2,results:=[.tmp 4,.tmp 5],body:=Z2z_B }
def Z34_L0:Cd:=
 .seq (.seq (.region [Lw 30 10,
 Ll 31 (.bin .gtr (.t 30) (.c (.int .i64 0)))] [2,3,6,9,10,31])
 (.cond (.t 31)
 (.skip)
 (.exit 1)))
 (.seq (.block 2 (.region [Lw 34 9,
 Ll 35 (.build false (.arr 64 .leaf z64) []),
 Ll 36 (.buildSl false 6 (.arr 64 .leaf) (.arr 64 .leaf z64) 1 [(0,(.t 35))]),
 Ll 37 (.append (.arr 64 .leaf) 7 64 (.t 34) (.t 36)),
 Lw 9 37] [2,3,6,9,10]))
 (.region [Lw 32 10,
 Ll 33 (.bin .sub (.t 32) (.c (.int .i64 1))),
 Lw 10 33] [2,3,6,9,10]))
def Z34_L1:Cd:=
 .seq (.seq (.region [Lw 72 11,
 Ll 73 (.bin .geq (.t 72) (.c (.int .i64 0)))] [2,3,5,6,7,8,9,11,73])
 (.cond (.t 73)
 (.skip)
 (.exit 3)))
 (.seq (.block 4 (.region [Lw 76 9,
 Lw 77 5,
 Lw 78 8,
 Lw 79 5,
 Ll 80 (.buildSl false 11 .leaf (.int .i64 0) 4 [(0,(.c (.int .i64 0))),(1,(.c (.int .i64 0))),(2,(.c (.int .i64 1))),(3,(.c (.int .i64 2)))]),
 Ll 81 (.call .heap [] (.f F3v) [(.t 79),(.t 80)]),
 Ll 82 (.call .heap [] (.f F3i) [(.t 77),(.t 78),(.t 81)]),
 Ll 83 (.buildSl false 12 (.arr 64 .leaf) (.arr 64 .leaf z64) 1 [(0,(.t 82))]),
 Ll 84 (.append (.arr 64 .leaf) 13 64 (.t 76) (.t 83)),
 Lw 9 84] [2,3,5,6,7,8,9,11]))
 (.region [Lw 74 11,
 Ll 75 (.bin .sub (.t 74) (.c (.int .i64 1))),
 Lw 11 75] [2,3,5,6,7,8,9,11]))
def Z34_B:Cd:=
 .seq (.region [Ll 2 (.box false 0 (.c (.st [.leaf,(.arr 64 .leaf),(.arr 64 .leaf),(.arr 64 .leaf)] [(.int .i64 0),(.arr 64 .leaf z64),(.arr 64 .leaf z64),(.arr 64 .leaf z64)]))),
 Ll 3 (.box false 1 (.c (.st [.leaf,(.arr 64 .leaf),(.arr 64 .leaf),(.arr 64 .leaf)] [(.int .i64 0),(.arr 64 .leaf z64),(.arr 64 .leaf z64),(.arr 64 .leaf z64)]))),
 Ll 4 (.mv (.c (.sl (.arr 64 .leaf) [])))] [0,2,3])
 (.seq (.region [Lw 12 0,
 Ll 13 (.call .heap [2] (.f F3j) [(.t 12)]),
 Lw 5 13] [2,3,5])
 (.seq (.region [Lw 15 5,
 Ll 16 (.call .heap [] (.f F4j) [(.t 15)]),
 Lw 14 16,
 Ll 17 (.ext (.t 14) 0),
 Ll 18 (.ext (.t 14) 1),
 Ll 6 (.box false 3 (.c (.st [.leaf,(.arr 64 .leaf),(.arr 64 .leaf),(.arr 64 .leaf)] [(.int .i64 0),(.arr 64 .leaf z64),(.arr 64 .leaf z64),(.arr 64 .leaf z64)]))),
 Ll 7 (.box false 4 (.c (.st [.leaf,(.arr 64 .leaf),(.arr 64 .leaf),(.arr 64 .leaf)] [(.int .i64 0),(.arr 64 .leaf z64),(.arr 64 .leaf z64),(.arr 64 .leaf z64)]))),
 Ls (.store false (.st [.leaf,(.arr 64 .leaf),(.arr 64 .leaf),(.arr 64 .leaf)]) (.t 6) (.t 17)),
 Ls (.store false (.st [.leaf,(.arr 64 .leaf),(.arr 64 .leaf),(.arr 64 .leaf)]) (.t 7) (.t 18))] [2,3,5,6,7])
 (.seq (.region [Ll 19 (.fldA [.leaf,(.arr 64 .leaf),(.arr 64 .leaf),(.arr 64 .leaf)] (.t 6) 0),
 Ll 20 (.load .leaf (.t 19)),
 Ll 21 (.call .flat [] (.f F41) [(.t 20)]),
 Lw 8 21] [2,3,5,6,7,8])
 (.seq (.region [Ll 22 (.buildSl false 5 (.arr 64 .leaf) (.arr 64 .leaf z64) 0 []),
 Lw 9 22] [2,3,5,6,7,8,9])
 (.seq (.seq (.region [Lw 23 5,
 Ll 24 (.call .heap [] (.f F3s) [(.t 23),(.c (.int .i64 4))])] [2,3,5,6,7,8,9,24])
 (.block 0 (.seq (.region [Ll 26 (.bin .eql (.t 24) (.c (.int .i64 0))),
 Lw 25 26] [2,3,5,6,7,8,9,24,25])
 (.cond (.t 25)
 (.seq (.seq (.region [Ll 27 (.fldA [.leaf,(.arr 64 .leaf),(.arr 64 .leaf),(.arr 64 .leaf)] (.t 6) 1),
 Ll 28 (.load (.arr 64 .leaf) (.t 27)),
 Ll 29 (.call .flat [] (.f F3g) [(.t 28)]),
 Lw 10 29] [2,3,6,9,10])
 (.block 1 (.loop (Z34_L0))))
 (.seq (.region [Ll 38 (.load (.st [.leaf,(.arr 64 .leaf),(.arr 64 .leaf),(.arr 64 .leaf)]) (.t 6)),
 Ll 39 (.load (.st [.leaf,(.arr 64 .leaf),(.arr 64 .leaf),(.arr 64 .leaf)]) (.t 6)),
 Lw 40 9,
 Ll 41 (.call .flat [] (.f F3u) []),
 Ll 42 (.buildSl false 8 (.arr 64 .leaf) (.arr 64 .leaf z64) 1 [(0,(.t 41))]),
 ⟨some 43,.append (.arr 64 .leaf) 9 64 (.t 40) (.t 42),none,[6]⟩,
 ⟨none,.store false (.st [.leaf,(.arr 64 .leaf),(.arr 64 .leaf),(.arr 64 .leaf)]) (.t 2) (.t 38),none,[6]⟩,
 Ls (.store false (.st [.leaf,(.arr 64 .leaf),(.arr 64 .leaf),(.arr 64 .leaf)]) (.t 3) (.t 39)),
 Lw 4 43] [2,3,4])
 (.ret)))
 (.seq (.region [Ll 45 (.bin .eql (.t 24) (.c (.int .i64 1))),
 Lw 44 45] [2,3,5,6,7,8,9,24,44])
 (.cond (.t 44)
 (.seq (.region [Ll 46 (.load (.st [.leaf,(.arr 64 .leaf),(.arr 64 .leaf),(.arr 64 .leaf)]) (.t 6)),
 Ll 47 (.call .flat [] (.f F4c) [(.t 46)])] [2,3,5,6,7,8,9,47])
 (.cond (.t 47)
 (.seq (.region [Ll 48 (.load (.st [.leaf,(.arr 64 .leaf),(.arr 64 .leaf),(.arr 64 .leaf)]) (.t 6)),
 Ll 49 (.load (.st [.leaf,(.arr 64 .leaf),(.arr 64 .leaf),(.arr 64 .leaf)]) (.t 6)),
 Ll 50 (.load (.st [.leaf,(.arr 64 .leaf),(.arr 64 .leaf),(.arr 64 .leaf)]) (.t 6)),
 Lw 51 5,
 Lw 52 8,
 ⟨some 53,.call .heap [] (.f F3s) [(.t 51),(.t 52)],none,[6]⟩,
 Ll 54 (.conv .u8 (.t 53)),
 Ll 55 (.build false (.arr 64 .leaf z64) [(0,(.t 54)),(1,(.c (.int .u8 1)))]),
 Ll 56 (.call .plain [] (.f F45) [(.t 50),(.t 55)]),
 ⟨none,.store false (.st [.leaf,(.arr 64 .leaf),(.arr 64 .leaf),(.arr 64 .leaf)]) (.t 2) (.t 48),none,[6]⟩,
 Ls (.store false (.st [.leaf,(.arr 64 .leaf),(.arr 64 .leaf),(.arr 64 .leaf)]) (.t 3) (.t 49)),
 Lw 4 56] [2,3,4])
 (.ret))
 (.skip)))
 (.seq (.region [Ll 58 (.bin .eql (.t 24) (.c (.int .i64 2))),
 Lw 57 58] [2,3,5,6,7,8,9,57])
 (.cond (.t 57)
 (.seq (.region [Ll 59 (.load (.st [.leaf,(.arr 64 .leaf),(.arr 64 .leaf),(.arr 64 .leaf)]) (.t 6)),
 Ll 60 (.load (.st [.leaf,(.arr 64 .leaf),(.arr 64 .leaf),(.arr 64 .leaf)]) (.t 7)),
 Lw 61 5,
 Lw 62 8,
 ⟨some 63,.call .heap [] (.f F3i) [(.t 61),(.t 62),(.c (.int .i64 0))],none,[6,7]⟩,
 Ll 64 (.buildSl false 10 (.arr 64 .leaf) (.arr 64 .leaf z64) 1 [(0,(.t 63))]),
 ⟨none,.store false (.st [.leaf,(.arr 64 .leaf),(.arr 64 .leaf),(.arr 64 .leaf)]) (.t 2) (.t 59),none,[7]⟩,
 Ls (.store false (.st [.leaf,(.arr 64 .leaf),(.arr 64 .leaf),(.arr 64 .leaf)]) (.t 3) (.t 60)),
 Lw 4 64] [2,3,4])
 (.ret))
 (.skip)))))))))
 (.seq (.seq (.region [Lw 65 5,
 Ll 66 (.call .heap [] (.f F3s) [(.t 65),(.c (.int .i64 4))]),
 Lw 67 5,
 Ll 68 (.call .heap [] (.f F3s) [(.t 67),(.c (.int .i64 24))]),
 Ll 69 (.bin .quo (.t 68) (.c (.int .i64 23))),
 Ll 70 (.bin .mul (.t 69) (.c (.int .i64 5))),
 Ll 71 (.bin .add (.t 66) (.t 70)),
 Lw 11 71] [2,3,5,6,7,8,9,11])
 (.block 3 (.loop (Z34_L1))))
 (.seq (.region [Ll 85 (.load (.st [.leaf,(.arr 64 .leaf),(.arr 64 .leaf),(.arr 64 .leaf)]) (.t 6)),
 Ll 86 (.load (.st [.leaf,(.arr 64 .leaf),(.arr 64 .leaf),(.arr 64 .leaf)]) (.t 7)),
 Lw 87 9,
 ⟨none,.store false (.st [.leaf,(.arr 64 .leaf),(.arr 64 .leaf),(.arr 64 .leaf)]) (.t 2) (.t 85),none,[7]⟩,
 Ls (.store false (.st [.leaf,(.arr 64 .leaf),(.arr 64 .leaf),(.arr 64 .leaf)]) (.t 3) (.t 86)),
 Lw 4 87] [2,3,4])
 (.ret))))))))
def Z34:Fn:=
 { nparams:=1,nblk:=14,results:=[.cell 2 (.st [.leaf,(.arr 64 .leaf),(.arr 64 .leaf),(.arr 64 .leaf)]),.cell 3 (.st [.leaf,(.arr 64 .leaf),(.arr 64 .leaf),(.arr 64 .leaf)]),.tmp 4],body:=Z34_B }
end Pe

namespace Gq
section
variable {K:Type} [Fd K]
theorem Pol.mod_eq_iff {a b m:Pol K} (hm:m≠0):a%m=b%m↔Quo.mk m a=Quo.mk m b:=by
 rw [Quo.eq]
 constructor
 ·intro h
  refine ⟨a/m-b/m,?_⟩
  have h1:=div_mod a m
  have h2:=div_mod b m
  rw [h] at h1
  generalize a/m=q at *
  generalize b/m=q' at *
  rw [h1]
  have e:q*m+b%m=(q'*m+b%m)+m*(q-q'):=ring_of [q,q',m,b%m] rfl
  rw [e,←h2]
 ·rintro ⟨c,rfl⟩
  have h2:=div_mod b m
  refine (div_mod_eq (q:=b/m+c) ?_ (len_mod b hm)).2
  have e:b+m*c=(b/m*m+b%m)+m*c:=by rw [←h2]
  rw [e]
  exact ring_of [b/m,m,b%m,c] rfl
theorem Pol.mk_mod (a m:Pol K):Quo.mk m (a%m)=Quo.mk m a:=by
 rw [Quo.eq]
 refine ⟨-(a/m),?_⟩
 have h:=div_mod a m
 have e:a%m=(a/m*m+a%m)+m * -(a/m):=ring_of [a/m,m,a%m] rfl
 rw [e,←h]
theorem Pol.mod_small {a m:Pol K} (h:a.len<m.len):a%m=a:=(div_mod_eq (q:=0) (by rw [zero_mul,zero_add]) h).2
theorem Pol.zero_mod {m:Pol K} (hm:m≠0):(0:Pol K)%m=0:=mod_small (by rw [len_zero]; exact len_pos hm)
theorem Pol.div_small {a m:Pol K} (h:a.len<m.len):a/m=0:=(div_mod_eq (q:=0) (by rw [zero_mul,zero_add]) h).1
theorem Pol.mul_mod_left (a b:Pol K) {m:Pol K} (hm:m≠0):(a%m)*b%m=a*b%m:=by
 rw [mod_eq_iff hm,Quo.mk_mul,Quo.mk_mul,mk_mod]
theorem Pol.mod_self_mul (a:Pol K) {m:Pol K} (hm:m≠0):(a*m)%m=0:=
 (div_mod_eq (q:=a) (by rw [add_zero]) (by rw [len_zero]; exact len_pos hm)).2
theorem Pol.len_mod_le (a:Pol K) {m:Pol K} (hm:m≠0):(a%m).len≤a.len:=by
 rcases Nat.lt_or_ge a.len m.len with h | h
 ·rw [mod_small h]; exact Nat.le_refl _
 ·have:=len_mod a hm; omega
theorem Pol.len_div {a m:Pol K} (hm:m≠0) (h:m.len≤a.len):(a/m).len+m.len=a.len+1:=by
 have h1:=div_mod a m
 have h2:=len_mod a hm
 have h3:=len_pos hm
 by_cases hq:a/m=0
 ·rw [hq,zero_mul,zero_add] at h1
  rw [←h1] at h2; omega
 ·have h4:=len_mul hq hm
  have h5:=len_pos hq
  have e:a.len=(a/m*m).len:=by
   apply Nat.le_antisymm
   ·rw [h1]
    exact len_le (lt_add (by rw [←h1]; exact lt_len _) (lt_iff.2 (by rw [←h1]; omega)))
   ·have:a/m*m=a-a%m:=by
     have e:a-a%m=(a/m*m+a%m)-a%m:=by rw [←h1]
     rw [e]; exact ring_of [a/m*m,a%m] rfl
    rw [this]
    exact len_le (lt_sub a.lt_len (lt_iff.2 (by omega)))
  omega
theorem Pol.len_div_le (a:Pol K) {m:Pol K} (hm:m≠0):(a/m).len≤a.len:=by
 rcases Nat.lt_or_ge a.len m.len with h | h
 ·rw [div_small h,len_zero]; omega
 ·have:=len_div hm h
  have:=len_pos hm
  omega
theorem pw_add {R:Type} [CR R] (a:R) (m:Nat):∀n,pw a (m+n)=pw a m*pw a n
 | 0=>(mul_one _).symm
 | n+1=>by rw [←Nat.add_assoc,pw,pw_add a m n,pw,mul_assoc]
theorem pw_mul {R:Type} [CR R] (a b:R):∀n,pw (a*b) n=pw a n*pw b n
 | 0=>(mul_one _).symm
 | n+1=>by rw [pw,pw,pw,pw_mul a b n]; exact ring_of [a,b,pw a n,pw b n] rfl
theorem pw_pw {R:Type} [CR R] (a:R) (m:Nat):∀n,pw (pw a m) n=pw a (m*n)
 | 0=>rfl
 | n+1=>by rw [pw,pw_pw a m n,Nat.mul_succ,pw_add]
theorem pw_one {R:Type} [CR R]:∀n,pw (1:R) n=1
 | 0=>rfl
 | n+1=>by rw [pw,pw_one n,mul_one]
theorem pw_1 {R:Type} [CR R] (a:R):pw a 1=a:=one_mul a
theorem Pol.pow_mod (a:Pol K) {m:Pol K} (hm:m≠0) (n:Nat):pw (a%m) n%m=pw a n%m:=by
 rw [mod_eq_iff hm,Quo.mk_pow,Quo.mk_pow,mk_mod]
theorem Pol.bin_step {out base m:Pol K} (hm:m≠0) (k:Nat) (_hk:0<k) :
 (if k%2=1 then out*base%m else out)*pw (base*base%m) (k/2)%m=out*pw base k%m:=by
 rw [mod_eq_iff hm,Quo.mk_mul,Quo.mk_mul,Quo.mk_pow,mk_mod,Quo.mk_mul,pw_mul,Quo.mk_pow,←pw_add]
 split
 ·rename_i h
  rw [mk_mod,Quo.mk_mul]
  have e:k=1+(k/2+k/2):=by omega
  have e2:pw (Quo.mk m base) k=Quo.mk m base*pw (Quo.mk m base) (k/2+k/2):=by
   have:=pw_add (Quo.mk m base) 1 (k/2+k/2)
   rwa [←e,pw_1] at this
  rw [e2,mul_assoc]
 ·rename_i h
  have e:k/2+k/2=k:=by omega
  rw [e]
open Classical in
noncomputable def Pol.bz:Nat→Pol K→Pol K→Pol K→Pol K→Pol K→Pol K→Pol K×Pol K×Pol K
 | 0,a,_,u,_,v,_=>(a,u,v)
 | n+1,a,b,u,x,v,y=>if b=0 then (a,u,v) else bz n b (a%b) x (u-a/b*x) y (v-a/b*y)
structure Pol.BzI (A B a b u x v y:Pol K):Prop where
 one:u*A+v*B=a
 two:x*A+y*B=b
 lx:x.len=0∨x.len+a.len≤B.len+1
 ly:y.len=0∨y.len+a.len≤A.len+1
 lu:u.len=0∨u.len+b.len≤B.len+1
 lv:v.len=0∨v.len+b.len≤A.len+1
 any:a≠0∨b≠0
theorem Pol.BzI.init {A B:Pol K} (h:A≠0∨B≠0):BzI A B A B 1 0 0 1:=
 ⟨ring_of [A,B] rfl,ring_of [A,B] rfl,.inl len_zero,.inr (by rw [len_one]; omega),.inr (by rw [len_one]; omega),.inl len_zero,h⟩
theorem Pol.len_sub_le {a b:Pol K} {n:Nat} (ha:a.len≤n) (hb:b.len≤n):(a-b).len≤n:=len_le (lt_sub (lt_iff.2 ha) (lt_iff.2 hb))
theorem Pol.len_add_le {a b:Pol K} {n:Nat} (ha:a.len≤n) (hb:b.len≤n):(a+b).len≤n:=len_le (lt_add (lt_iff.2 ha) (lt_iff.2 hb))
theorem Pol.BzI.qlen {A B a b u x v y:Pol K} (h:BzI A B a b u x v y) (hb:b≠0) :
 ((a/b*x).len=0∨(a/b*x).len+b.len≤B.len+1)∧((a/b*y).len=0∨(a/b*y).len+b.len≤A.len+1):=by
 have key:∀(x:Pol K) (n:Nat),(x.len=0∨x.len+a.len≤n+1)→((a/b*x).len=0∨(a/b*x).len+b.len≤n+1):=by
  intro x n hx
  by_cases hx0:x=0
  ·left; rw [hx0,mul_zero,len_zero]
  ·rcases Nat.lt_or_ge a.len b.len with hl | hl
   ·left; rw [div_small hl,zero_mul,len_zero]
   ·have h1:=len_div hb hl
    have hq:a/b≠0:=fun h0=>by
     rw [h0,len_zero] at h1
     omega
    have h2:=len_mul hq hx0
    have h3:=len_pos hx0
    right; omega
 exact ⟨key x B.len h.lx,key y A.len h.ly⟩
theorem Pol.BzI.step {A B a b u x v y:Pol K} (h:BzI A B a b u x v y) (hb:b≠0):BzI A B b (a%b) x (u-a/b*x) y (v-a/b*y):=by
 have hm:=div_mod a b
 have hl:=len_mod a hb
 have hle:=len_mod_le a hb
 obtain ⟨q1,q2⟩:=h.qlen hb
 have sub:∀(u q:Pol K) (n:Nat),(u.len=0∨u.len+b.len≤n+1)→(q.len=0∨q.len+b.len≤n+1)→((u-q).len=0∨(u-q).len+b.len≤n+1):=by
  intro u q n h1 h2
  by_cases hn:n+1≤b.len
  ·left
   have e1:u.len=0:=by omega
   have e2:q.len=0:=by omega
   have:=len_sub_le (a:=u) (b:=q) (n:=0) (by omega) (by omega)
   omega
  ·right
   have:=len_sub_le (a:=u) (b:=q) (n:=n+1-b.len) (by omega) (by omega)
   omega
 refine ⟨h.two,?_,sub _ _ _ h.lu q1,sub _ _ _ h.lv q2,?_,?_,.inl hb⟩
 ·have e:(u-a/b*x)*A+(v-a/b*y)*B=(u*A+v*B)-a/b*(x*A+y*B):=ring_of [u,a/b,x,A,v,y,B] rfl
  rw [e,h.one,h.two]
  have e2:a-a/b*b=(a/b*b+a%b)-a/b*b:=by rw [←hm]
  rw [e2]
  exact ring_of [a/b,b,a%b] rfl
 ·exact h.lx.imp id fun h=>by omega
 ·exact h.ly.imp id fun h=>by omega
theorem Pol.bz_spec {A B:Pol K}:∀(n:Nat) (a b u x v y:Pol K),b.len≤n→BzI A B a b u x v y →
 ∃x' y',BzI A B (bz n a b u x v y).1 0 (bz n a b u x v y).2.1 x' (bz n a b u x v y).2.2 y'∧(∃s,a=s*(bz n a b u x v y).1)∧(∃s,b=s*(bz n a b u x v y).1)
 | 0,a,b,u,x,v,y,hn,h=>by
  obtain rfl:=len_zero_iff.1 (show b.len=0 by omega)
  exact ⟨x,y,h,⟨1,(one_mul a).symm⟩,⟨0,(zero_mul a).symm⟩⟩
 | n+1,a,b,u,x,v,y,hn,h=>by
  unfold bz
  split
  ·rename_i hb
   subst hb
   exact ⟨x,y,h,⟨1,(one_mul a).symm⟩,⟨0,(zero_mul a).symm⟩⟩
  ·rename_i hb
   have hl:=len_mod a hb
   obtain ⟨x',y',h1,⟨s,h2⟩,⟨t,h3⟩⟩:=bz_spec n b (a%b) x (u-a/b*x) y (v-a/b*y) (by omega) (h.step hb)
   refine ⟨x',y',h1,⟨a/b*s+t,?_⟩,⟨s,h2⟩⟩
   generalize (bz n b (a%b) x (u-a/b*x) y (v-a/b*y)).1=d at *
   have e:(a/b*s+t)*d=a/b*(s*d)+t*d:=ring_of [a/b,s,t,d] rfl
   rw [e,←h2,←h3]
   exact div_mod a b
noncomputable def Pol.eu (a b:Pol K):Pol K×Pol K×Pol K:=bz b.len a b 1 0 0 1
noncomputable def Pol.bezout (a b:Pol K):Pol K×Pol K×Pol K:=
 let r:=eu a b
 (C (Fd.inv r.1.ld)*r.1,C (Fd.inv r.1.ld)*r.2.1,C (Fd.inv r.1.ld)*r.2.2)
noncomputable def Pol.gcd (a b:Pol K):Pol K:=(bezout a b).1
end
end Gq

namespace Pe
open Go Gq
variable {T:Nat→Option Fn} {A:Oracle}
theorem trim_pad {p:Int} (a:Fp p) (h:a.len≤64):trim (pad (row a))=row a:=trim_row fun i=>by rw [pad_cf (by rw [row_length]; exact h),row_cf]
theorem take_succ_set {l:List Int} {i:Nat} (h:i<l.length):l.take i++[l[i]]=l.take (i+1):=by
 rw [List.take_add_one,List.getElem?_eq_getElem h]; rfl
theorem l_rowOf {O:Oracle} {l:List Int} (hb:Bytes l) (hl:l.length=64):∀(m i:Nat) (cp:Option Nat),i+m=64 →
 dn O 0 (.loop Z1s_L0) ⟨[(3,.sl 1 [] 0 i cp),(6,(.d (.arr 64 .leaf (ints .u8 l)))),(7,(.d (.int .i64 i)))],[.hole,.sl false .leaf (ints .i64 (l.take i)),.hole,.hole]⟩ =
  some (.exit 0,⟨[(3,.sl 1 [] 0 64 (if m=0 then cp else none)),(6,(.d (.arr 64 .leaf (ints .u8 l)))),(7,(.d (.int .i64 64))),(8,(.d (.bool false)))],[.hole,.sl false .leaf (ints .i64 (l.take 64)),.hole,.hole]⟩)
 | 0,i,cp,hi=>by
  have:i=64:=by omega
  subst this
  exact dn_stop (by simp -implicitDefEqProofs [Z1s_L0,dn_cond])
 | m+1,i,cp,hi=>by
  have h1:(i:Int)<64:=by omega
  have hlt:i<l.length:=by omega
  have hx:l[i]? = some l[i]:=List.getElem?_eq_getElem hlt
  have hb':=hb _ (List.getElem_mem hlt)
  have w1:IntKind.i64.wrap l[i]=l[i]:=w64 (by omega)
  have w4:IntKind.i64.wrap ((i:Int)+1)=((i+1:Nat):Int):=(w64 (x:=(i:Int)+1) (by omega)).trans (by omega)
  have h8:(i+1)*8≤1099511627776:=by omega
  have hlen:i≤l.length:=by omega
  have ht:(l.take i).take i=l.take i:=by rw [List.take_take,Nat.min_self]
  have e1:ints .i64 (l.take i)++[D.int .i64 l[i]]=ints .i64 (l.take (i+1)):=by rw [←take_succ_set hlt,←ints_append]; rfl
  have ih:=l_rowOf (O:=O) hb hl m (i+1) none (by omega)
  have e2:(if m=0 then (none:Option Nat) else none)=none:=by split <;> rfl
  rw [e2] at ih
  rw [if_neg (Nat.succ_ne_zero m)]
  refine dn_round ?_ ih
  simp -implicitDefEqProofs [Z1s_L0,dn_cond,h1,hlt,w1,w4,h8,hlen,ht,e1,List.replicate]
def C_rowOf (O:Oracle):Prop:=∀l:List Int,Bytes l→l.length=64→ask O F1s [(D.arr 64 .leaf (ints .u8 l))]=some (D.sl .leaf (ints .i64 (trim l)))
theorem c_rowOf (hT:T F1s=some Z1s) (ht:C_trimmed (den T A)):C_rowOf (den T A):=by
 intro l hb hl
 have e:=l_rowOf (O:=den T A) hb hl 64 0 (some 0) (Nat.zero_add _)
 have e0:((0:Nat):Int)=0:=rfl
 rw [e0,List.take_zero,ints_nil,List.take_of_length_le (by omega)] at e
 have e1:=ht l (by omega)
 have ht:l.take 64=l:=List.take_of_length_le (by omega)
 refine ask_of hT rfl ?_
 simp -implicitDefEqProofs [Z1s,Z1s_B,e,e1,hl,ht]
def K_rowOf (O:Oracle):Prop:=∀(p:Int) [IsP p] (a:Fp p),a.len≤64→ask O F1s [(D.arr 64 .leaf (ints .u8 (pad (row a))))]=some (D.sl .leaf (ints .i64 (row a)))
theorem pad_bytes {p:Int} [IsP p] (a:Fp p):Bytes (pad (row a)):=fun x hx=>by
 obtain ⟨i,_,rfl⟩:=List.mem_map.1 hx
 have:=(row_can a).le IsP.pos i
 have:=IsP.le (p:=p)
 omega
theorem k_rowOf {O:Oracle} (h:C_rowOf O):K_rowOf O:=fun p i a hl=>by
 rw [h _ (pad_bytes a) (pad_length _),trim_pad a hl]
theorem l_poly {O:Oracle} {l z:List Int} (hb:Bytes l) (hl:l.length≤64):∀(m i:Nat) (cur:List Int),i+m=l.length→cur.length=64 →
 dn O 0 (.loop Z1x_L0) ⟨[(2,.ptr 0 []),(3,.ptr 1 []),(6,(.d (.sl .leaf (ints .i64 l)))),(7,(.d (.int .i64 l.length))),(8,(.d (.int .i64 i)))],[.box false (D.arr 64 .leaf (ints .u8 z)),.box false (D.arr 64 .leaf (ints .u8 cur))]⟩ =
  some (.exit 0,⟨[(2,.ptr 0 []),(3,.ptr 1 []),(6,(.d (.sl .leaf (ints .i64 l)))),(7,(.d (.int .i64 l.length))),(8,(.d (.int .i64 l.length))),(9,(.d (.bool false)))],[.box false (D.arr 64 .leaf (ints .u8 z)),.box false (D.arr 64 .leaf (ints .u8 (upd (cf l) m i cur)))]⟩)
 | 0,i,cur,hi,hc=>by
  have:i=l.length:=by omega
  subst this
  exact dn_stop (by simp -implicitDefEqProofs [Z1x_L0,dn_cond,upd])
 | m+1,i,cur,hi,hc=>by
  have hlt:i<l.length:=by omega
  have hx:l[i]? = some (cf l i):=by rw [List.getElem?_eq_getElem hlt,cf_lt hlt]
  have hb':=hb _ (List.getElem_mem hlt)
  rw [←cf_lt hlt] at hb'
  have w1:IntKind.u8.wrap l[i]=cf l i:=by rw [←cf_lt hlt]; exact w8 hb'
  have w4:IntKind.i64.wrap ((i:Int)+1)=((i+1:Nat):Int):=(w64 (x:=(i:Int)+1) (by omega)).trans (by omega)
  have hi64:i<64:=by omega
  have hcur:cur[i]? = some (cf cur i):=by rw [List.getElem?_eq_getElem (by omega),cf_lt]
  have ih:=l_poly (O:=O) (z:=z) hb hl m (i+1) (cur.set i (cf l i)) (by omega) (by simpa using hc)
  refine dn_round ?_ ih
  simp -implicitDefEqProofs [Z1x_L0,dn_cond,hlt,w1,w4,hi64,hcur]
def C_poly (O:Oracle):Prop:=∀l:List Int,Bytes l→l.length≤64→ask O F1x [(D.sl .leaf (ints .i64 l))]=some (D.arr 64 .leaf (ints .u8 (pad l)))
theorem upd_pad {l:List Int} (_hl:l.length≤64):upd (cf l) l.length 0 (pad [])=pad l:=by
 symm
 apply pad_eq
 ·rw [upd_length,pad_length]
 ·intro i hi
  unfold cf
  rw [List.getD_eq_getElem?_getD,List.getD_eq_getElem?_getD,upd_get]
  by_cases h:i<l.length
  ·rw [if_pos (by rw [pad_length]; omega)]
   simp [h]
  ·rw [if_neg (by omega),List.getElem?_eq_none (by omega),pad_get _ _ hi]; rfl
theorem c_poly (hT:T F1x=some Z1x):C_poly (den T A):=by
 intro l hb hl
 have e:=l_poly (O:=den T A) (z:=pad []) hb hl l.length 0 (pad []) (Nat.zero_add _) (pad_length [])
 have e0:((0:Nat):Int)=0:=rfl
 rw [e0,upd_pad hl] at e
 refine ask_of hT rfl ?_
 simp -implicitDefEqProofs [Z1x,Z1x_B,e]
theorem row_bytes {p:Int} [IsP p] (a:Fp p):Bytes (row a):=fun x hx=>by
 have:=row_can a x hx
 have:=IsP.le (p:=p)
 omega
def K_poly (O:Oracle):Prop:=∀(p:Int) [IsP p] (a:Fp p),a.len≤64→ask O F1x [(D.sl .leaf (ints .i64 (row a)))]=some (D.arr 64 .leaf (ints .u8 (pad (row a))))
theorem k_poly {O:Oracle} (h:C_poly O):K_poly O:=fun p i a hl=>h _ (row_bytes a) (by simpa using hl)
def C_fits (O:Oracle):Prop:=∀l:List Int,l.length<1000000→ask O F1v [(D.sl .leaf (ints .i64 l))]=some (D.bool (decide (l.length≤64)))
theorem c_fits (hT:T F1v=some Z1v) (hd:C_degree (den T A)):C_fits (den T A):=by
 intro l hl
 have e:=hd l hl
 have e2:decide ((l.length:Int)-1≤63)=decide (l.length≤64):=decide_eq_decide.2 (by omega)
 refine ask_of hT rfl ?_
 simp -implicitDefEqProofs [Z1v,Z1v_B,e,e2]
def toldD (l:List Int):D:=if l.length≤64 then .tup [(D.arr 64 .leaf (ints .u8 (pad l))),(D.int .i64 0)] else .tup [(D.arr 64 .leaf (ints .u8 (pad []))),(D.int .i64 3)]
def C_told (O:Oracle):Prop:=∀l:List Int,Bytes l→l.length<1000000→ask O F23 [(D.sl .leaf (ints .i64 l))]=some (toldD l)
theorem c_told (hT:T F23=some Z23) (hf:C_fits (den T A)) (hp:C_poly (den T A)):C_told (den T A):=by
 intro l hb hl
 have e:=hf l hl
 unfold toldD
 refine ask_of hT rfl ?_
 by_cases h:l.length≤64
 ·have e2:=hp l hb h
  simp -implicitDefEqProofs [Z23,Z23_B,e,e2,h,dn_cond]
 ·simp -implicitDefEqProofs [Z23,Z23_B,e,h,dn_cond]
def K_rest (O:Oracle):Prop:=∀(p:Int) [IsP p] (a b:Fp p),b≠0→a.len<5000→b.len<5000 →
 ask O F1n [(D.int .i64 p),(D.sl .leaf (ints .i64 (row a))),(D.sl .leaf (ints .i64 (row b)))]=some (D.sl .leaf (ints .i64 (row (a%b))))
theorem k_rest (hT:T F1n=some Z1n) (hd:K_divide (den T A)):K_rest (den T A):=by
 intro p i a b hb h1 h2
 have e:=hd p a b hb h1 h2
 refine ask_of hT rfl ?_
 simp -implicitDefEqProofs [Z1n,Z1n_B,e]
end Pe

namespace Pe
open Go Gq
variable {T:Nat→Option Fn} {A:Oracle}
section
variable {p:Int} [IsP p]
theorem row_one:row (1:Fp p)=[1]:=by
 unfold row
 rw [Pol.len_one]
 show [rep ((1:Fp p).c 0)]=[1]
 have:(1:Fp p).c 0=1:=rfl
 rw [this,rep_one]
end
section
variable {p:Int}
theorem sub_comb (u z:Fp p):u+Pol.C (zp p (-1))*z=u-z:=by
 rw [zp_neg,zp_one,Pol.C_neg,Pol.C_one]
 exact ring_of [u,z] rfl
end
section
variable {p:Int} [IsP p]
end
def K_combine1 (O:Oracle):Prop:=∀(p:Int) [IsP p] (a b:Fp p),a.len<1000000→b.len<1000000 →
 ask O F1c [(D.int .i64 p),(D.sl .leaf (ints .i64 (row a))),(D.sl .leaf (ints .i64 (row b))),(D.int .i64 (-1))]=some (D.sl .leaf (ints .i64 (row (a-b))))
theorem k_combine1 {O:Oracle} (h:K_combine O):K_combine1 O:=fun p i a b h1 h2=>by
 rw [h p (-1) a b (by omega) (by omega) h1 h2,sub_comb]
def K_combine2 (O:Oracle):Prop:=∀(p:Int) [IsP p] (a b:Fp p),a.len<1000000→b.len<1000000 →
 ask O F1c [(D.int .i64 p),(D.sl .leaf (ints .i64 (row a))),(D.sl .leaf (ints .i64 (row b))),(D.int .i64 1)]=some (D.sl .leaf (ints .i64 (row (a+b))))
theorem k_combine2 {O:Oracle} (h:K_combine O):K_combine2 O:=fun p i a b h1 h2=>by
 rw [h p 1 a b (by omega) (by omega) h1 h2,zp_one,Pol.C_one,Gq.one_mul]
section
variable {p:Int} [IsP p]
theorem bz_small {A B a b u x v y:Fp p} (h:Pol.BzI A B a b u x v y) (hA:A.len≤2000) (hB:B.len≤2000) (ha:a.len≤2000) (hb:b.len≤2000) (hb0:b≠0) :
 u.len<3000∧v.len<3000∧x.len<3000∧y.len<3000∧(a/b).len<3000∧(a%b).len≤2000∧(a/b*x).len<3000∧(a/b*y).len<3000:=by
 have h1:=h.lu
 have h2:=h.lv
 have h3:=h.lx
 have h4:=h.ly
 have h5:=Pol.len_div_le a hb0
 have h6:=Pol.len_mod_le a hb0
 obtain ⟨h7,h8⟩:=h.qlen hb0
 omega
theorem l_bezout {O:Oracle} (hd:K_divide O) (ht:K_times O) (hc:K_combine1 O) {A B:Fp p} (hA:A.len≤2000) (hB:B.len≤2000):∀(n:Nat) (a b u x v y:Fp p),b.len≤n→a.len≤2000→b.len≤2000→Pol.BzI A B a b u x v y→∃x' y',
 dn O 0 (.loop Z1b_L0) ⟨[(0,(.d (.int .i64 p))),(1,(.d (.sl .leaf (ints .i64 (row a))))),(2,(.d (.sl .leaf (ints .i64 (row b))))),(9,(.d (.sl .leaf (ints .i64 (row u))))),(10,(.d (.sl .leaf (ints .i64 (row v))))),(11,(.d (.sl .leaf (ints .i64 (row x))))),(12,(.d (.sl .leaf (ints .i64 (row y)))))],[.hole,.hole]⟩ =
  some (.exit 0,⟨[(0,(.d (.int .i64 p))),(1,(.d (.sl .leaf (ints .i64 (row (Pol.bz n a b u x v y).1))))),(2,(.d (.sl .leaf (ints .i64 ([]))))),(9,(.d (.sl .leaf (ints .i64 (row (Pol.bz n a b u x v y).2.1))))),(10,(.d (.sl .leaf (ints .i64 (row (Pol.bz n a b u x v y).2.2))))),(11,(.d (.sl .leaf (ints .i64 x')))),(12,(.d (.sl .leaf (ints .i64 y')))),(20,(.d (.bool false)))],[.hole,.hole]⟩):=by
 intro n
 induction n with
 | zero=>
  intro a b u x v y hn ha hb hi
  obtain rfl:=Pol.len_zero_iff.1 (show b.len=0 by omega)
  exact ⟨row x,row y,dn_stop (by simp -implicitDefEqProofs [Z1b_L0,dn_cond,row_zero,Pol.bz,ints_nil])⟩
 | succ n ih=>
  intro a b u x v y hn ha hb hi
  unfold Pol.bz
  by_cases h0:b=0
  ·subst h0
   rw [if_pos rfl]
   exact ⟨row x,row y,dn_stop (by simp -implicitDefEqProofs [Z1b_L0,dn_cond,row_zero,ints_nil])⟩
  ·rw [if_neg h0]
   obtain ⟨s1,s2,s3,s4,s5,s6,s7,s8⟩:=bz_small hi hA hB ha hb h0
   have hl:=Pol.len_mod a h0
   have hp:=Pol.len_pos h0
   obtain ⟨x',y',e⟩:=ih b (a%b) x (u-a/b*x) y (v-a/b*y) (by omega) hb s6 (hi.step h0)
   refine ⟨x',y',dn_round ?_ e⟩
   have e1:=hd p a b h0 (by omega) (by omega)
   have e2:=ht p (a/b) x (by omega) (by omega)
   have e3:=hc p u (a/b*x) (by omega) (by omega)
   have e4:=ht p (a/b) y (by omega) (by omega)
   have e5:=hc p v (a/b*y) (by omega) (by omega)
   simp -implicitDefEqProofs [Z1b_L0,dn_cond,hp,e1,e2,e3,e4,e5]
end
def K_bezout (O:Oracle):Prop:=∀(p:Int) [IsP p] (a b:Fp p),(a≠0∨b≠0)→a.len≤2000→b.len≤2000 →
 ask O F1b [(D.int .i64 p),(D.sl .leaf (ints .i64 (row a))),(D.sl .leaf (ints .i64 (row b)))]=some (.tup [(D.sl .leaf (ints .i64 (row (Pol.bezout a b).1))),(D.sl .leaf (ints .i64 (row (Pol.bezout a b).2.1))),(D.sl .leaf (ints .i64 (row (Pol.bezout a b).2.2)))])
theorem finv_rep {p:Int} [IsP p] (x:Zp p) (hx:x≠0):zp p (inv p (rep x))=Fd.inv x:=by
 have h0:=rep_in x
 have h1:rep x≠0:=fun h=>hx (rep_eq_zero.1 h)
 have h2:x*zp p (inv p (rep x))=1:=by
  have:zp p (rep x*inv p (rep x))=1:=by rw [←zp_mod,inv_ok p _ (by omega) h0.2]; rfl
  rwa [zp_mul,zp_rep] at this
 have h3:=Fd.mul_inv x hx
 have:Fd.inv x*(x*zp p (inv p (rep x)))=Fd.inv x*1:=by rw [h2]
 rw [←Gq.mul_assoc,Gq.mul_comm (Fd.inv x),h3,Gq.one_mul,Gq.mul_one] at this
 exact this
theorem k_bezout (hT:T F1b=some Z1b) (hd:K_divide (den T A)) (ht:K_times (den T A)) (hc:K_combine1 (den T A)) (hld:C_lead (den T A)) (hinv:C_inverse (den T A)) (hs:K_scale (den T A)):K_bezout (den T A):=by
 intro p i a b hab ha hb
 have hp:=IsP.ge (p:=p)
 have hp7:=IsP.le (p:=p)
 -- the end
 have last:∀{x y:Fp p} {a' u v:Fp p},Pol.BzI a b a' 0 u x v y→ask (den T A) F1w [(D.sl .leaf (ints .i64 (row a')))]=some (D.int .i64 (rep a'.ld))∧ask (den T A) F1h [(D.int .i64 p),(D.int .i64 (rep a'.ld))]=some (D.int .i64 (inv p (rep a'.ld))) ∧
  ask (den T A) F1o [(D.int .i64 p),(D.sl .leaf (ints .i64 (row a'))),(D.int .i64 (inv p (rep a'.ld)))]=some (D.sl .leaf (ints .i64 (row (Pol.C (Fd.inv a'.ld)*a'))))∧ask (den T A) F1o [(D.int .i64 p),(D.sl .leaf (ints .i64 (row u))),(D.int .i64 (inv p (rep a'.ld)))]=some (D.sl .leaf (ints .i64 (row (Pol.C (Fd.inv a'.ld)*u))))∧ask (den T A) F1o [(D.int .i64 p),(D.sl .leaf (ints .i64 (row v))),(D.int .i64 (inv p (rep a'.ld)))]=some (D.sl .leaf (ints .i64 (row (Pol.C (Fd.inv a'.ld)*v)))):=by
  intro x y a' u v hi
  have ha0:a'≠0:=hi.any.resolve_right (fun h=>h rfl)
  have hr:=rep_in a'.ld
  have hin:=inv_in p (rep a'.ld)
  have h1:=hi.lu
  have h2:=hi.lv
  rw [Pol.len_zero] at h1 h2
  have hal:a'.len<5000:=by
   have:=Pol.len_add_le (a:=u*a) (b:=v*b) (n:=4500) (by
    by_cases hu:u=0
    ·rw [hu,Gq.zero_mul,Pol.len_zero]; omega
    ·by_cases ha0:a=0
     ·rw [ha0,Gq.mul_zero,Pol.len_zero]; omega
     ·have:=Pol.len_mul hu ha0; omega) (by
    by_cases hu:v=0
    ·rw [hu,Gq.zero_mul,Pol.len_zero]; omega
    ·by_cases ha0:b=0
     ·rw [ha0,Gq.mul_zero,Pol.len_zero]; omega
     ·have:=Pol.len_mul hu ha0; omega)
   rw [hi.one] at this
   omega
  have e1:=hld (row a') (by rw [row_length]; omega)
  rw [ld_row] at e1
  have e2:=hinv p (rep a'.ld) (by omega) (by omega) hr.1 hr.2
  have e3:=hs p (inv p (rep a'.ld)) a' (by omega) (by omega) (by omega)
  have e4:=hs p (inv p (rep a'.ld)) u (by omega) (by omega) (by omega)
  have e5:=hs p (inv p (rep a'.ld)) v (by omega) (by omega) (by omega)
  rw [finv_rep _ (Pol.ld_ne ha0)] at e3 e4 e5
  exact ⟨e1,e2,e3,e4,e5⟩
 have I0:=Pol.BzI.init (A:=a) (B:=b) hab
 refine ask_of hT rfl ?_
 unfold Pol.bezout Pol.eu
 by_cases h0:b=0
 ·subst h0
  have l0:=dn_stop (O:=den T A) (np:=0) (c:=Z1b_L0) (s:=⟨[(0,(.d (.int .i64 p))),(1,(.d (.sl .leaf (ints .i64 (row a))))),(2,(.d (.sl .leaf (ints .i64 ([]))))),(9,.sl 0 [] 0 1 (some 1)),(10,(.d (.sl .leaf (ints .i64 ([]))))),(11,(.d (.sl .leaf (ints .i64 ([]))))),(12,.sl 1 [] 0 1 (some 1))],[.sl false .leaf (ints .i64 [1]),.sl false .leaf (ints .i64 [1])]⟩) (s1:=⟨[(0,(.d (.int .i64 p))),(1,(.d (.sl .leaf (ints .i64 (row a))))),(2,(.d (.sl .leaf (ints .i64 ([]))))),(9,.sl 0 [] 0 1 (some 1)),(10,(.d (.sl .leaf (ints .i64 ([]))))),(11,(.d (.sl .leaf (ints .i64 ([]))))),(12,.sl 1 [] 0 1 (some 1)),(20,(.d (.bool false)))],[.sl false .leaf (ints .i64 [1]),.sl false .leaf (ints .i64 [1])]⟩) (id:=0) (by simp -implicitDefEqProofs [Z1b_L0,dn_cond,ints_nil])
  obtain ⟨e1,e2,e3,e4,e5⟩:=last I0
  rw [row_one] at e4
  rw [row_zero] at e5
  rw [ints_nil] at l0 e5
  rw [Pol.len_zero]
  have o1:D.int IntKind.i64 1::[]=ints .i64 [1]:=rfl
  simp -implicitDefEqProofs [Z1b,Z1b_B,row_zero,ints_nil,Pol.bz,e1,e2,e3,e4,e5,l0,o1,List.replicate]
 ·have hp0:=Pol.len_pos h0
  have I1:=I0.step h0
  obtain ⟨_,_,_,_,q5,q6,q7,q8⟩:=bz_small I0 ha hb ha hb h0
  have l0:=hd p a b h0 (by omega) (by omega)
  have l1:=ht p (a/b) 0 (by omega) (by rw [Pol.len_zero]; omega)
  have l2:=ht p (a/b) 1 (by omega) (by rw [Pol.len_one]; omega)
  have l3:=hc p 1 (a/b*0) (by rw [Pol.len_one]; omega) (by omega)
  have l4:=hc p 0 (a/b*1) (by rw [Pol.len_zero]; omega) (by omega)
  rw [row_one] at l2 l3
  rw [row_zero,ints_nil] at l1 l4
  have st1:dn (den T A) 0 Z1b_L0 ⟨[(0,(.d (.int .i64 p))),(1,(.d (.sl .leaf (ints .i64 (row a))))),(2,(.d (.sl .leaf (ints .i64 (row b))))),(9,.sl 0 [] 0 1 (some 1)),(10,.d (.sl .leaf [])),(11,.d (.sl .leaf [])),(12,.sl 1 [] 0 1 (some 1))],[.sl false .leaf (ints .i64 [1]),.sl false .leaf (ints .i64 [1])]⟩ =
   some (.normal,⟨[(0,(.d (.int .i64 p))),(1,(.d (.sl .leaf (ints .i64 (row b))))),(2,(.d (.sl .leaf (ints .i64 (row (a%b)))))),(9,.d (.sl .leaf [])),(10,.sl 1 [] 0 1 (some 1)),(11,(.d (.sl .leaf (ints .i64 (row (1-a/b*0)))))),(12,(.d (.sl .leaf (ints .i64 (row (0-a/b*1))))))],[.hole,.sl true .leaf (ints .i64 [1])]⟩):=by
   simp -implicitDefEqProofs [Z1b_L0,dn_cond,hp0,l0,l1,l2,l3,l4]
  by_cases h1:a%b=0
  ·have st2:dn (den T A) 0 Z1b_L0 ⟨[(0,(.d (.int .i64 p))),(1,(.d (.sl .leaf (ints .i64 (row b))))),(2,(.d (.sl .leaf (ints .i64 (row (a%b)))))),(9,.d (.sl .leaf [])),(10,.sl 1 [] 0 1 (some 1)),(11,(.d (.sl .leaf (ints .i64 (row (1-a/b*0)))))),(12,(.d (.sl .leaf (ints .i64 (row (0-a/b*1))))))],[.hole,.sl true .leaf (ints .i64 [1])]⟩ =
    some (.exit 0,⟨[(0,(.d (.int .i64 p))),(1,(.d (.sl .leaf (ints .i64 (row b))))),(2,(.d (.sl .leaf (ints .i64 (row (a%b)))))),(9,.d (.sl .leaf [])),(10,.sl 1 [] 0 1 (some 1)),(11,(.d (.sl .leaf (ints .i64 (row (1-a/b*0)))))),(12,(.d (.sl .leaf (ints .i64 (row (0-a/b*1)))))),(20,(.d (.bool false)))],[.hole,.sl true .leaf (ints .i64 [1])]⟩):=by
    simp -implicitDefEqProofs [Z1b_L0,dn_cond,h1,row_zero]
   have lp:=dn_round st1 (dn_stop st2)
   have hb1:Pol.bz b.len a b 1 0 0 1=(b,0,1):=by
    rw [show b.len=(b.len-1)+1 by omega,Pol.bz,if_neg h0]
    cases hn:b.len-1 with
    | zero=>rfl
    | succ n=>rw [Pol.bz,if_pos h1]
   rw [hb1]
   have I1':Pol.BzI a b b 0 0 (1-a/b*0) 1 (0-a/b*1):=h1▸I1
   obtain ⟨e1,e2,e3,e4,e5⟩:=last I1'
   rw [row_one] at e5
   rw [row_zero,ints_nil] at e4
   have o1:D.int IntKind.i64 1::[]=ints .i64 [1]:=rfl
   simp -implicitDefEqProofs [Z1b,Z1b_B,e1,e2,e3,e4,e5,lp,o1,List.replicate]
  ·have hp1:=Pol.len_pos h1
   have hl1:=Pol.len_mod a h0
   obtain ⟨s1,s2,s3,s4,s5,s6,s7,s8⟩:=bz_small I1 ha hb hb (by omega) h1
   have m0:=hd p b (a%b) h1 (by omega) (by omega)
   have m1:=ht p (b/(a%b)) (1-a/b*0) (by omega) (by omega)
   have m2:=ht p (b/(a%b)) (0-a/b*1) (by omega) (by omega)
   have m3:=hc p 0 (b/(a%b)*(1-a/b*0)) (by omega) (by omega)
   have m4:=hc p 1 (b/(a%b)*(0-a/b*1)) (by omega) (by omega)
   rw [row_one] at m4
   rw [row_zero,ints_nil] at m3
   have st2:dn (den T A) 0 Z1b_L0 ⟨[(0,(.d (.int .i64 p))),(1,(.d (.sl .leaf (ints .i64 (row b))))),(2,(.d (.sl .leaf (ints .i64 (row (a%b)))))),(9,.d (.sl .leaf [])),(10,.sl 1 [] 0 1 (some 1)),(11,(.d (.sl .leaf (ints .i64 (row (1-a/b*0)))))),(12,(.d (.sl .leaf (ints .i64 (row (0-a/b*1))))))],[.hole,.sl true .leaf (ints .i64 [1])]⟩ =
    some (.normal,⟨[(0,(.d (.int .i64 p))),(1,(.d (.sl .leaf (ints .i64 (row (a%b)))))),(2,(.d (.sl .leaf (ints .i64 (row (b%(a%b))))))),(9,(.d (.sl .leaf (ints .i64 (row (1-a/b*0)))))),(10,(.d (.sl .leaf (ints .i64 (row (0-a/b*1)))))),(11,(.d (.sl .leaf (ints .i64 (row (0-b/(a%b)*(1-a/b*0))))))),(12,(.d (.sl .leaf (ints .i64 (row (1-b/(a%b)*(0-a/b*1)))))))],[.hole,.hole]⟩):=by
    simp -implicitDefEqProofs [Z1b_L0,dn_cond,hp1,m0,m1,m2,m3,m4]
   have I2:=I1.step h1
   have hl2:=Pol.len_mod b h1
   obtain ⟨x',y',e⟩:=l_bezout hd ht hc ha hb (b.len-2) _ _ _ _ _ _ (by omega) (by omega) (by omega) I2
   have lp:=dn_round st1 (dn_round st2 e)
   have hb1:Pol.bz b.len a b 1 0 0 1=Pol.bz (b.len-2) (a%b) (b%(a%b)) (1-a/b*0) (0-b/(a%b)*(1-a/b*0)) (0-a/b*1) (1-b/(a%b)*(0-a/b*1)):=by
    rw [show b.len=(b.len-2+1)+1 by omega,Pol.bz,if_neg h0,Pol.bz,if_neg h1]
    rfl
   rw [hb1]
   obtain ⟨x2,y2,I3,_,_⟩:=Pol.bz_spec (b.len-2) _ _ _ _ _ _ (by omega) I2
   obtain ⟨e1,e2,e3,e4,e5⟩:=last I3
   have o1:D.int IntKind.i64 1::[]=ints .i64 [1]:=rfl
   simp -implicitDefEqProofs [Z1b,Z1b_B,ints_nil,e1,e2,e3,e4,e5,lp,o1,List.replicate]
end Pe

namespace Pe
open Go Gq
variable {T:Nat→Option Fn} {A:Oracle}
def K_gcd (O:Oracle):Prop:=∀(p:Int) [IsP p] (a b:Fp p),(a≠0∨b≠0)→a.len≤2000→b.len≤2000 →
 ask O F1g [(D.int .i64 p),(D.sl .leaf (ints .i64 (row a))),(D.sl .leaf (ints .i64 (row b)))]=some (D.sl .leaf (ints .i64 (row (Pol.gcd a b))))
theorem k_gcd (hT:T F1g=some Z1g) (hb:K_bezout (den T A)):K_gcd (den T A):=by
 intro p i a b hab h1 h2
 have e:=hb p a b hab h1 h2
 refine ask_of hT rfl ?_
 simp -implicitDefEqProofs [Z1g,Z1g_B,e,Pol.gcd]
theorem and1 (x:Int) (_h:0≤x):((BitVec.ofInt 64 x &&& 1#64).toNat:Int)=x%2:=by
 rw [BitVec.toNat_and]
 have e:(1#64).toNat=2^1-1:=rfl
 rw [e,Nat.and_two_pow_sub_one_eq_mod,BitVec.toNat_ofInt]
 omega
theorem and_one (x:Int) (h:0≤x):andI .i64 x 1=x%2:=by
 show IntKind.i64.wrap ((BitVec.ofInt 64 x &&& 1#64).toNat:Int)=_
 rw [and1 x h,w64 (by omega)]
theorem shr_one (x:Int):shiftI .shr .i64 x 1=some (.int .i64 (x/2)):=by
 show (if (1:Int)<0 then none else some (D.int .i64 (x.fdiv (2^min (1:Int).toNat 64))))=_
 rw [if_neg (by omega)]
 congr 2
 show x.fdiv 2=x/2
 rw [Int.fdiv_eq_ediv_of_nonneg _ (by omega)]
theorem l_power {O:Oracle} (hr:K_rest O) (ht:K_times O) {p:Int} [IsP p] {m:Fp p} (hm:m≠0) (hml:m.len<2000):∀(n:Nat) (k:Int) (out base:Fp p),0≤k→k.toNat<2^n→k<4611686018427387904→out.len<m.len→base.len<m.len→∃base':List Int,
 dn O 0 (.loop Z1l_L0) ⟨[(0,(.d (.int .i64 p))),(2,(.d (.int .i64 k))),(3,(.d (.sl .leaf (ints .i64 (row m))))),(9,(.d (.sl .leaf (ints .i64 (row out))))),(10,(.d (.sl .leaf (ints .i64 (row base)))))],[.hole]⟩ =
  some (.exit 0,⟨[(0,(.d (.int .i64 p))),(2,(.d (.int .i64 0))),(3,(.d (.sl .leaf (ints .i64 (row m))))),(9,(.d (.sl .leaf (ints .i64 (row (out*pw base k.toNat%m)))))),(10,(.d (.sl .leaf (ints .i64 base')))),(20,(.d (.bool false)))],[.hole]⟩):=by
 intro n
 induction n with
 | zero=>
  intro k out base hk hn _ ho hb
  obtain rfl:k=0:=by simp at hn; omega
  refine ⟨row base,?_⟩
  have e:out*pw base (0:Int).toNat%m=out:=by
   show out*1%m=out
   rw [Gq.mul_one,Pol.mod_small ho]
  rw [e]
  exact dn_stop (by simp -implicitDefEqProofs [Z1l_L0,dn_cond])
 | succ n ih=>
  intro k out base hk hn hkm ho hb
  by_cases h0:k=0
  ·subst h0
   refine ⟨row base,?_⟩
   have e:out*pw base (0:Int).toNat%m=out:=by
    show out*1%m=out
    rw [Gq.mul_one,Pol.mod_small ho]
   rw [e]
   exact dn_stop (by simp -implicitDefEqProofs [Z1l_L0,dn_cond])
  ·have hkp:0<k:=by omega
   have hlen:∀x y:Fp p,x.len<m.len→y.len<m.len→(x*y).len<5000:=fun x y hx hy=>by
    have:=Pol.len_le (Pol.lt_mul x.lt_len y.lt_len)
    omega
   have t1:=ht p out base (by omega) (by omega)
   have t2:=ht p base base (by omega) (by omega)
   have r1:=hr p (out*base) m hm (hlen _ _ ho hb) (by omega)
   have r2:=hr p (base*base) m hm (hlen _ _ hb hb) (by omega)
   have s:=Pol.bin_step (out:=out) (base:=base) hm k.toNat (by omega)
   have hdiv:(k/2).toNat=k.toNat/2:=by omega
   obtain ⟨b',e⟩:=ih (k/2) (if k.toNat%2=1 then out*base%m else out) (base*base%m) (by omega) (by rw [Nat.pow_succ] at hn; omega) (by omega) (by split; exact Pol.len_mod _ hm; exact ho) (Pol.len_mod _ hm)
   rw [hdiv,s] at e
   refine ⟨b',dn_round ?_ e⟩
   have ea:=and_one k (by omega)
   have es:=shr_one k
   by_cases hodd:k%2=1
   ·rw [if_pos (show k.toNat%2=1 by omega)]
    simp -implicitDefEqProofs [Z1l_L0,dn_cond,hkp,t1,t2,r1,r2,ea,es,hodd]
   ·rw [if_neg (show ¬ k.toNat%2=1 by omega)]
    simp -implicitDefEqProofs [Z1l_L0,dn_cond,hkp,t2,r2,ea,es,hodd]
def K_power (O:Oracle):Prop:=∀(p:Int) [IsP p] (a:Fp p) (k:Int) (m:Fp p),m≠0→a.len<5000→m.len<2000→0≤k→k<4611686018427387904 →
 ask O F1l [(D.int .i64 p),(D.sl .leaf (ints .i64 (row a))),(D.int .i64 k),(D.sl .leaf (ints .i64 (row m)))]=some (D.sl .leaf (ints .i64 (row (pw a k.toNat%m))))
theorem k_power (hT:T F1l=some Z1l) (hr:K_rest (den T A)) (ht:K_times (den T A)):K_power (den T A):=by
 intro p i a k m hm ha hml hk hkm
 have r1:=hr p 1 m hm (by rw [Pol.len_one]; omega) (by omega)
 rw [row_one] at r1
 have r2:=hr p a m hm (by omega) (by omega)
 obtain ⟨b',e⟩:=l_power hr ht hm hml 62 k (1%m) (a%m) hk (by omega) hkm (Pol.len_mod _ hm) (Pol.len_mod _ hm)
 have e2:1%m*pw (a%m) k.toNat%m=pw a k.toNat%m:=by
  rw [Pol.mul_mod_left _ _ hm,Gq.one_mul,Pol.pow_mod _ hm]
 rw [e2] at e
 have o1:D.int IntKind.i64 1::[]=ints .i64 [1]:=rfl
 refine ask_of hT rfl ?_
 simp -implicitDefEqProofs [Z1l,Z1l_B,r1,r2,e,o1,List.replicate]
def normL (p most:Int):Nat→Int→Int
 | 0,out=>out
 | n+1,out=>if out > most then out else normL p most n (out*p)
theorem l_norm {O:Oracle} {p:Int} [IsP p] {most nn:Int} (hmost:most≤1152921504606846976):∀(n:Nat) (i:Int) (out:Int),i+n=nn→-1000000<i→nn<1000000→0≤out→out≤8070450532247928832→∃(i':Int) (b:List (Nat×V)),
 dn O 0 (.loop Z1j_L0) ⟨[(0,(.d (.int .i64 p))),(2,(.d (.int .i64 most))),(7,(.d (.int .i64 out))),(8,(.d (.int .i64 nn))),(9,(.d (.int .i64 i)))],[]⟩ =
  some (.exit 0,⟨[(0,(.d (.int .i64 p))),(2,(.d (.int .i64 most))),(7,(.d (.int .i64 (normL p most n out)))),(8,(.d (.int .i64 nn))),(9,(.d (.int .i64 i')))]++b,[]⟩)
 | 0,i,out,hi,h1,h2,ho,ho2=>by
  have:i=nn:=by omega
  subst this
  exact ⟨i,[(10,(.d (.bool false)))],dn_stop (by simp -implicitDefEqProofs [Z1j_L0,dn_cond,normL])⟩
 | n+1,i,out,hi,h1,h2,ho,ho2=>by
  have hlt:i<nn:=by omega
  have hp:=IsP.le (p:=p)
  have hp2:=IsP.pos (p:=p)
  by_cases hm:most<out
  ·exact ⟨i,[(13,(.d (.bool true)))],dn_stop (by simp -implicitDefEqProofs [Z1j_L0,dn_cond,normL,hlt,hm])⟩
  ·have hmul:0≤out*p∧out*p≤8070450532247928832:=by
    refine ⟨Int.mul_nonneg ho (by omega),?_⟩
    have:out*p≤out*7:=Int.mul_le_mul_of_nonneg_left hp ho
    omega
   obtain ⟨i',b,e⟩:=l_norm (O:=O) (p:=p) (nn:=nn) hmost n (i+1) (out*p) (by omega) (by omega) h2 hmul.1 hmul.2
   have w1:IntKind.i64.wrap (out*p)=out*p:=w64 (by omega)
   have w2:IntKind.i64.wrap (i+1)=i+1:=w64 (by omega)
   refine ⟨i',b,dn_round (s1:=⟨[(0,(.d (.int .i64 p))),(2,(.d (.int .i64 most))),(7,(.d (.int .i64 (out*p)))),(8,(.d (.int .i64 nn))),(9,(.d (.int .i64 (i+1))))],[]⟩) (by simp -implicitDefEqProofs [Z1j_L0,dn_cond,hlt,hm,w1,w2]) ?_⟩
   rw [e,normL,if_neg (by omega)]
def C_norm (O:Oracle):Prop:=∀(p:Int) [IsP p] (n:Nat) (most:Int),n<1000000→most≤1152921504606846976→ask O F1j [(D.int .i64 p),(D.int .i64 n),(D.int .i64 most)]=some (D.int .i64 (normL p most n 1))
theorem c_norm (hT:T F1j=some Z1j):C_norm (den T A):=by
 intro p i n most hn hm
 obtain ⟨i',b,e⟩:=l_norm (O:=den T A) (p:=p) (nn:=(n:Int)) hm n 0 1 (by omega) (by omega) (by omega) (by omega) (by omega)
 refine ask_of hT rfl ?_
 simp -implicitDefEqProofs [Z1j,Z1j_B,e]
end Pe

namespace Pe
open Go Gq
variable {T:Nat→Option Fn} {A:Oracle}
def dgs (p:Int):Nat→Int→List Int
 | 0,_=>[]
 | f+1,n=>if n≤0 then [] else n%p::dgs p f (n/p)
def numP (p n:Int):Fp p:=polOf p (dgs p 64 n)
theorem dgs_can {p:Int} [IsP p]:∀f n,Can p (dgs p f n)
 | 0,n=>fun x hx=>by simp [dgs] at hx
 | f+1,n=>fun x hx=>by
  unfold dgs at hx
  split at hx
  ·simp at hx
  ·have hp:=IsP.pos (p:=p)
   rcases List.mem_cons.1 hx with rfl | hx
   ·exact ⟨Int.emod_nonneg _ (by omega),Int.emod_lt_of_pos _ hp⟩
   ·exact dgs_can f _ x hx
theorem div_pos_small {p n:Int} [IsP p] (h:0<n) (h2:n/p=0):n%p≠0:=by
 have h3:=Int.mul_ediv_add_emod n p
 rw [h2] at h3
 simp at h3
 omega
theorem dgs_last {p:Int} [IsP p]:∀(f:Nat) (n:Int),n<2^f→dgs p f n=[]∨cf (dgs p f n) ((dgs p f n).length-1)≠0
 | 0,n,h=>.inl rfl
 | f+1,n,h=>by
  by_cases h0:n≤0
  ·left; simp [dgs,h0]
  ·right
   have hp:=IsP.ge (p:=p)
   have hd:n/p<2^f:=by
    apply Int.ediv_lt_of_lt_mul (by omega)
    have:(2:Int)^(f+1)=2^f*2:=Int.pow_succ _ _
    have h2:(2:Int)^f*2≤2^f*p:=Int.mul_le_mul_of_nonneg_left hp (Int.pow_nonneg (by omega))
    omega
   have e:dgs p (f+1) n=n%p::dgs p f (n/p):=by simp [dgs,h0]
   rw [e]
   have hdn:0≤n/p:=Int.ediv_nonneg (by omega) (by omega)
   rcases dgs_last (p:=p) f (n/p) hd with h1 | h1
   ·rw [h1]
    show n%p≠0
    by_cases hz:n/p=0
    ·exact div_pos_small (p:=p) (show 0<n by omega) hz
    ·exfalso
     cases f with
     | zero=>simp at hd; omega
     | succ f=>
      rw [dgs,if_neg (by omega)] at h1
      cases h1
   ·cases hq:dgs p f (n/p) with
    | nil=>rw [hq] at h1; simp [cf] at h1
    | cons a l=>
     rw [hq] at h1
     simpa [cf] using h1
theorem row_of_list {p:Int} [IsP p] {l:List Int} (h:Can p l) (hl:l=[]∨cf l (l.length-1)≠0):row (polOf p l)=l:=by
 rw [←trim_polOf h]
 unfold trim
 have:tlen l l.length=l.length:=by
  cases hn:l.length with
  | zero=>rfl
  | succ n=>
   rcases hl with h0 | h0
   ·rw [h0] at hn; simp at hn
   ·rw [hn,Nat.add_sub_cancel] at h0
    rw [tlen,if_neg h0]
 rw [this,List.take_length]
theorem row_numP {p:Int} [IsP p] {n:Int} (h:n<18446744073709551616):row (numP p n)=dgs p 64 n:=row_of_list (dgs_can 64 n) (dgs_last 64 n (by simpa using h))
theorem dgs_le (p:Int):∀f n,(dgs p f n).length≤f
 | 0,n=>by simp [dgs]
 | f+1,n=>by
  unfold dgs
  split
  ·simp
  ·have:=dgs_le p f (n/p); simp; omega
theorem l_numbered {O:Oracle} {p:Int} [IsP p]:∀(f:Nat) (n:Int) (cur:List Int) (cp:Option Nat),0≤n→n<2^f→n<9223372036854775807→cur.length+f<1000→∃cp',
 dn O 0 (.loop Z1k_L0) ⟨[(0,(.d (.int .i64 p))),(1,(.d (.int .i64 n))),(5,.sl 0 [] 0 cur.length cp)],[.sl false .leaf (ints .i64 cur),.hole,.hole]⟩ =
  some (.exit 0,⟨[(0,(.d (.int .i64 p))),(1,(.d (.int .i64 0))),(5,.sl 0 [] 0 (cur++dgs p f n).length cp'),(7,(.d (.bool false)))],[.sl false .leaf (ints .i64 (cur++dgs p f n)),.hole,.hole]⟩)
 | 0,n,cur,cp,h0,hn,hm,hl=>by
  obtain rfl:n=0:=by simp at hn; omega
  refine ⟨cp,?_⟩
  rw [dgs,List.append_nil]
  exact dn_stop (by simp -implicitDefEqProofs [Z1k_L0,dn_cond])
 | f+1,n,cur,cp,h0,hn,hm,hl=>by
  have hp:=IsP.ge (p:=p)
  have hp7:=IsP.le (p:=p)
  by_cases hz:n=0
  ·subst hz
   refine ⟨cp,?_⟩
   rw [dgs,if_pos (Int.le_refl 0),List.append_nil]
   exact dn_stop (by simp -implicitDefEqProofs [Z1k_L0,dn_cond])
  ·have hd:n/p<2^f:=by
    apply Int.ediv_lt_of_lt_mul (by omega)
    have:(2:Int)^(f+1)=2^f*2:=Int.pow_succ _ _
    have h2:(2:Int)^f*2≤2^f*p:=Int.mul_le_mul_of_nonneg_left hp (Int.pow_nonneg (by omega))
    omega
   have hdn:0≤n/p:=Int.ediv_nonneg (by omega) (by omega)
   have hdl:n/p≤n:=Int.ediv_le_self _ h0
   obtain ⟨cp',e⟩:=l_numbered (O:=O) (p:=p) f (n/p) (cur++[n%p]) none hdn hd (by omega) (by simp; omega)
   have hpos:0<n:=by omega
   have w1:IntKind.i64.wrap (n.tdiv p)=n/p:=by rw [Int.tdiv_eq_ediv_of_nonneg h0,w64 (by omega)]
   have w2:n.tmod p=n%p:=Int.tmod_eq_emod_of_nonneg h0
   have hp0:p≠0:=by omega
   have h8:(cur.length+1)*8≤1099511627776:=by omega
   have o1:ints .i64 cur++[D.int .i64 (n%p)]=ints .i64 (cur++[n%p]):=by rw [←ints_append]; rfl
   refine ⟨cp',?_⟩
   rw [dgs,if_neg (by omega),show cur++n%p::dgs p f (n/p)=(cur++[n%p])++dgs p f (n/p) by simp]
   refine dn_round ?_ e
   simp -implicitDefEqProofs [Z1k_L0,dn_cond,hpos,w1,w2,hp0,h8,o1,List.replicate]
def K_numbered (O:Oracle):Prop:=∀(p:Int) [IsP p] (n:Int),0≤n→n<4611686018427387904→ask O F1k [(D.int .i64 p),(D.int .i64 n)]=some (D.sl .leaf (ints .i64 (row (numP p n))))
theorem k_numbered (hT:T F1k=some Z1k):K_numbered (den T A):=by
 intro p i n h0 hn
 obtain ⟨cp,e⟩:=l_numbered (O:=den T A) (p:=p) 64 n [] (some 0) h0 (by omega) (by omega) (by simp)
 rw [row_numP (by omega)]
 rw [ints_nil,List.nil_append] at e
 have e0:(([]:List Int).length:Nat)=0:=rfl
 rw [e0] at e
 refine ask_of hT rfl ?_
 simp -implicitDefEqProofs [Z1k,Z1k_B,e]
end Pe

namespace Gq
section
variable {K:Type} [Fd K]
def Dv (a b:Pol K):Prop:=∃c,b=a*c
theorem Dv.refl (a:Pol K):Dv a a:=⟨1,(mul_one a).symm⟩
theorem Dv.trans {a b c:Pol K} (h:Dv a b) (h':Dv b c):Dv a c:=by
 obtain ⟨x,rfl⟩:=h
 obtain ⟨y,rfl⟩:=h'
 exact ⟨x*y,mul_assoc _ _ _⟩
theorem Dv.zero (a:Pol K):Dv a 0:=⟨0,(mul_zero a).symm⟩
theorem Dv.mul_right {a b:Pol K} (h:Dv a b) (c:Pol K):Dv a (b*c):=h.trans ⟨c,rfl⟩
theorem Dv.mul_left {a b:Pol K} (h:Dv a b) (c:Pol K):Dv a (c*b):=h.trans ⟨c,mul_comm _ _⟩
theorem Dv.add {a b c:Pol K} (h:Dv a b) (h':Dv a c):Dv a (b+c):=by
 obtain ⟨x,rfl⟩:=h
 obtain ⟨y,rfl⟩:=h'
 exact ⟨x+y,(mul_add _ _ _).symm⟩
theorem Dv.neg {a b:Pol K} (h:Dv a b):Dv a (-b):=by
 obtain ⟨x,rfl⟩:=h
 exact ⟨-x,(mul_neg _ _).symm⟩
theorem Dv.sub {a b c:Pol K} (h:Dv a b) (h':Dv a c):Dv a (b-c):=by
 rw [sub_eq]; exact h.add h'.neg
theorem Dv.len {a b:Pol K} (h:Dv a b) (hb:b≠0):a.len≤b.len:=by
 obtain ⟨x,rfl⟩:=h
 have ha:a≠0:=fun h=>hb (by rw [h,zero_mul])
 have hx:x≠0:=fun h=>hb (by rw [h,mul_zero])
 have:=Pol.len_mul ha hx
 have:=Pol.len_pos hx
 omega
theorem dv_iff_mod {a m:Pol K} (hm:m≠0):Dv m a↔a%m=0:=by
 constructor
 ·rintro ⟨c,rfl⟩
  rw [mul_comm]
  exact Pol.mod_self_mul c hm
 ·intro h
  have:=Pol.div_mod a m
  rw [h,add_zero,mul_comm] at this
  exact ⟨_,this⟩
theorem dv_iff_mk {a m:Pol K}:Dv m a↔Quo.mk m a=0:=by
 rw [←Quo.mk_zero,Quo.eq]
 constructor
 ·rintro ⟨c,h⟩; exact ⟨c,by rw [zero_add,h]⟩
 ·rintro ⟨c,h⟩; exact ⟨c,by rw [h,zero_add]⟩
theorem unit_of_len {a:Pol K} (h:a.len=1):∃k:K,k≠0∧a=Pol.C k:=by
 have e:=Pol.eq_C (Pol.lt_iff.2 (show a.len≤1 by omega))
 refine ⟨a.c 0,fun h0=>?_,e⟩
 rw [h0,Pol.C_zero] at e
 rw [e,Pol.len_zero] at h
 omega
theorem C_inv {k:K} (h:k≠0):Pol.C k*Pol.C (Fd.inv k)=1:=by rw [←Pol.C_mul,Fd.mul_inv k h,Pol.C_one]
theorem Dv.Cmul {a b:Pol K} {k:K} (hk:k≠0):Dv (Pol.C k*a) b↔Dv a b:=by
 constructor
 ·rintro ⟨c,h⟩
  exact ⟨Pol.C k*c,by rw [h]; exact ring_of [Pol.C k,a,c] rfl⟩
 ·rintro ⟨c,h⟩
  refine ⟨Pol.C (Fd.inv k)*c,?_⟩
  have:Pol.C k*a*(Pol.C (Fd.inv k)*c)=(Pol.C k*Pol.C (Fd.inv k))*(a*c):=ring_of [Pol.C k,a,Pol.C (Fd.inv k),c] rfl
  rw [this,C_inv hk,one_mul,h]
def Monic (a:Pol K):Prop:=a.ld=1∧a≠0
theorem Monic.mul {a b:Pol K} (ha:Monic a) (hb:Monic b):Monic (a*b):=⟨by rw [Pol.ld_mul ha.2 hb.2,ha.1,hb.1,mul_one],Pol.mul_ne ha.2 hb.2⟩
theorem Monic.one:Monic (1:Pol K):=⟨Pol.ld_one,Pol.one_ne⟩
theorem Pol.ld_C {k:K} (h:k≠0):(C k).ld=k:=by unfold ld; rw [len_C h]; rfl
theorem Monic.eq_one {a:Pol K} (h:Monic a) (hl:a.len=1):a=1:=by
 obtain ⟨k,hk,rfl⟩:=unit_of_len hl
 have:=h.1
 rw [Pol.ld_C hk] at this
 rw [this,Pol.C_one]
theorem Monic.antisymm {a b:Pol K} (ha:Monic a) (hb:Monic b) (h:Dv a b) (h':Dv b a):a=b:=by
 obtain ⟨x,rfl⟩:=h
 have h1:=h'.len ha.2
 have hx:x≠0:=fun h=>hb.2 (by rw [h,mul_zero])
 have h2:=Pol.len_mul ha.2 hx
 have h3:=Pol.len_pos hx
 obtain ⟨k,hk,rfl⟩:=unit_of_len (show x.len=1 by omega)
 have h4:=hb.1
 rw [Pol.ld_mul ha.2 hx,ha.1,one_mul,Pol.ld_C hk] at h4
 rw [h4,Pol.C_one,mul_one]
noncomputable def mon (a:Pol K):Pol K:=Pol.C (Fd.inv a.ld)*a
theorem mon_monic {a:Pol K} (h:a≠0):Monic (mon a):=by
 have h1:=Fd.inv_ne (Pol.ld_ne h)
 refine ⟨?_,Pol.mul_ne (Pol.C_ne h1) h⟩
 unfold mon
 rw [Pol.ld_mul (Pol.C_ne h1) h,Pol.ld_C h1,mul_comm,Fd.mul_inv _ (Pol.ld_ne h)]
theorem mon_dv {a b:Pol K} (h:a≠0):Dv (mon a) b↔Dv a b:=Dv.Cmul (Fd.inv_ne (Pol.ld_ne h))
theorem mon_len {a:Pol K} (h:a≠0):(mon a).len=a.len:=Pol.len_Cmul (Fd.inv_ne (Pol.ld_ne h)) a
theorem eq_mon {a:Pol K} (h:a≠0):a=Pol.C a.ld*mon a:=by
 unfold mon
 rw [←mul_assoc,C_inv (Pol.ld_ne h),one_mul]
theorem Pol.eu_spec {a b:Pol K} (h:a≠0∨b≠0):(eu a b).1≠0∧Dv (eu a b).1 a∧Dv (eu a b).1 b∧(eu a b).2.1*a+(eu a b).2.2*b=(eu a b).1:=by
 obtain ⟨x,y,h1,⟨s,h2⟩,⟨t,h3⟩⟩:=bz_spec b.len a b 1 0 0 1 (Nat.le_refl _) (BzI.init h)
 exact ⟨h1.any.resolve_right fun h=>h rfl,⟨s,by rw [mul_comm]; exact h2⟩,⟨t,by rw [mul_comm]; exact h3⟩,h1.one⟩
theorem Pol.gcd_monic {a b:Pol K} (h:a≠0∨b≠0):Monic (gcd a b):=mon_monic (eu_spec h).1
theorem Pol.gcd_dv_left {a b:Pol K} (h:a≠0∨b≠0):Dv (gcd a b) a:=(mon_dv (eu_spec h).1).2 (eu_spec h).2.1
theorem Pol.gcd_dv_right {a b:Pol K} (h:a≠0∨b≠0):Dv (gcd a b) b:=(mon_dv (eu_spec h).1).2 (eu_spec h).2.2.1
theorem Pol.bezout_eq {a b:Pol K} (h:a≠0∨b≠0):(bezout a b).2.1*a+(bezout a b).2.2*b=gcd a b:=by
 have e:=(eu_spec h).2.2.2
 show C (Fd.inv (eu a b).1.ld)*(eu a b).2.1*a+C (Fd.inv (eu a b).1.ld)*(eu a b).2.2*b=C (Fd.inv (eu a b).1.ld)*(eu a b).1
 generalize C (Fd.inv (eu a b).1.ld)=k
 generalize (eu a b).2.1=u at *
 generalize (eu a b).2.2=v at *
 rw [←e]
 exact ring_of [k,u,a,v,b] rfl
theorem Pol.dv_gcd {a b c:Pol K} (h:a≠0∨b≠0) (ha:Dv c a) (hb:Dv c b):Dv c (gcd a b):=by
 rw [←bezout_eq h]
 exact (ha.mul_left _).add (hb.mul_left _)
structure Irr (q:Pol K):Prop where
 len:2≤q.len
 no:∀u v,q=u*v→u.len=1∨v.len=1
theorem Irr.ne {q:Pol K} (h:Irr q):q≠0:=fun h0=>by have:=h.len; rw [h0,Pol.len_zero] at this; omega
theorem Irr.dv {q u:Pol K} (h:Irr q) (hd:Dv u q):u.len=1∨u.len=q.len:=by
 obtain ⟨v,hv⟩:=hd
 have hu:u≠0:=fun h0=>h.ne (by rw [hv,h0,zero_mul])
 have hv0:v≠0:=fun h0=>h.ne (by rw [hv,h0,mul_zero])
 have l:=Pol.len_mul hu hv0
 rw [←hv] at l
 rcases h.no u v hv with h1 | h1
 ·exact .inl h1
 ·right; omega
theorem Irr.coprime {q a:Pol K} (h:Irr q) (hn:¬ Dv q a):∃u v,u*q+v*a=1:=by
 have h0:q≠0∨a≠0:=.inl h.ne
 have e:=Pol.bezout_eq h0
 have d1:=Pol.gcd_dv_left h0
 have d2:=Pol.gcd_dv_right h0
 have m:=Pol.gcd_monic h0
 rcases h.dv d1 with h1 | h1
 ·rw [m.eq_one h1] at e
  exact ⟨_,_,e⟩
 ·exfalso
  obtain ⟨c,hc⟩:=d1
  have hc0:c≠0:=fun h0=>h.ne (by rw [hc,h0,mul_zero])
  have l:=Pol.len_mul m.2 hc0
  rw [←hc] at l
  obtain ⟨k,hk,rfl⟩:=unit_of_len (show c.len=1 by omega)
  apply hn
  rw [hc,mul_comm]
  exact (Dv.Cmul hk).2 d2
theorem Irr.prime {q a b:Pol K} (h:Irr q) (hd:Dv q (a*b)):Dv q a∨Dv q b:=by
 by_cases ha:Dv q a
 ·exact .inl ha
 ·obtain ⟨u,v,e⟩:=h.coprime ha
  right
  have:b=u*b*q+v*(a*b):=by
   have e2:u*b*q+v*(a*b)=(u*q+v*a)*b:=ring_of [u,b,q,v,a] rfl
   rw [e2,e,one_mul]
  rw [this]
  exact ((Dv.refl q).mul_left _).add (hd.mul_left _)
theorem Irr.of_dv {q:Pol K} (hl:2≤q.len) (h:∀u,Dv u q→u.len=1∨u.len=q.len):Irr q:=⟨hl,fun u v e=>by
 have hq:q≠0:=fun h0=>by rw [h0,Pol.len_zero] at hl; omega
 have hu:u≠0:=fun h0=>hq (by rw [e,h0,zero_mul])
 have hv0:v≠0:=fun h0=>hq (by rw [e,h0,mul_zero])
 have l:=Pol.len_mul hu hv0
 rw [←e] at l
 rcases h u ⟨v,e⟩ with h1 | h1
 ·exact .inl h1
 ·right; omega⟩
theorem Irr.mon {q:Pol K} (h:Irr q):Irr (mon q):=Irr.of_dv (by rw [mon_len h.ne]; exact h.len) fun u hu=>by
 rw [mon_len h.ne]
 apply h.dv
 refine hu.trans ?_
 rw [mon_dv h.ne]
 exact .refl q
theorem irr_ex:∀(n:Nat) (a:Pol K),a.len≤n→2≤a.len→∃q,Irr q∧Monic q∧Dv q a
 | 0,a,h,h2=>by omega
 | n+1,a,h,h2=>by
  have ha:a≠0:=fun h0=>by rw [h0,Pol.len_zero] at h2; omega
  by_cases hi:Irr a
  ·exact ⟨Gq.mon a,hi.mon,mon_monic ha,(mon_dv ha).2 (.refl a)⟩
  ·have:∃u,Dv u a∧u.len≠1∧u.len≠a.len:=Classical.byContradiction fun hx=>hi (Irr.of_dv h2 fun u hu=>Classical.byContradiction fun hy=>hx ⟨u,hu,by omega,by omega⟩)
   obtain ⟨u,hu,h3,h4⟩:=this
   have h5:=hu.len ha
   have hu0:u≠0:=fun h0=>by
    obtain ⟨c,hc⟩:=hu
    exact ha (by rw [hc,h0,zero_mul])
   have h6:=Pol.len_pos hu0
   obtain ⟨q,h7,h8,h9⟩:=irr_ex n u (by omega) (by omega)
   exact ⟨q,h7,h8,h9.trans hu⟩
theorem Irr.eq_of_dv {q r:Pol K} (hq:Irr q) (hr:Irr r) (mq:Monic q) (mr:Monic r) (h:Dv q r):q=r:=by
 refine mq.antisymm mr h ?_
 rcases hr.dv h with h1 | h1
 ·have:=hq.len; omega
 ·obtain ⟨c,rfl⟩:=h
  have hc:c≠0:=fun h0=>mr.2 (by rw [h0,mul_zero])
  have l:=Pol.len_mul mq.2 hc
  obtain ⟨k,hk,rfl⟩:=unit_of_len (show c.len=1 by omega)
  rw [mul_comm]
  exact (Dv.Cmul hk).2 (.refl q)
theorem Quo.ex {R:Type} [CR R] {m:R} (x:Quo m):∃a,x=Quo.mk m a:=Quo.ind (P:=fun x=>∃a,x=Quo.mk m a) (fun a=>⟨a,rfl⟩) x
theorem Irr.quo_zero {q:Pol K} (h:Irr q) {x y:Quo q} (e:x*y=0):x=0∨y=0:=by
 obtain ⟨a,rfl⟩:=Quo.ex x
 obtain ⟨b,rfl⟩:=Quo.ex y
 rw [←Quo.mk_mul,←dv_iff_mk] at e
 rw [←dv_iff_mk,←dv_iff_mk]
 exact h.prime e
theorem Irr.quo_inv {q:Pol K} (h:Irr q) {x:Quo q} (hx:x≠0):∃y,x*y=1:=by
 obtain ⟨a,rfl⟩:=Quo.ex x
 obtain ⟨u,v,e⟩:=h.coprime fun hd=>hx (dv_iff_mk.1 hd)
 refine ⟨Quo.mk q v,?_⟩
 rw [←Quo.mk_mul,←Quo.mk_one,Quo.eq]
 refine ⟨-u,?_⟩
 rw [←e]
 exact ring_of [a,v,u,q] rfl
open Classical in
noncomputable abbrev fdQuo {q:Pol K} (h:Irr q):Fd (Quo q) where
 one_ne:=fun e=>by
  have:=dv_iff_mk.2 e
  have h1:=this.len Pol.one_ne
  have:=h.len
  rw [Pol.len_one] at h1
  omega
 inv:=fun x=>if hx:x=0 then 0 else Classical.choose (h.quo_inv hx)
 mul_inv:=fun x hx=>by rw [dif_neg hx]; exact Classical.choose_spec (h.quo_inv hx)
end
def prodL {R:Type} [CR R]:List R→R
 | []=>1
 | x::l=>x*prodL l
theorem prodL_perm {R:Type} [CR R] {l m:List R} (h:l.Perm m):prodL l=prodL m:=by
 induction h with
 | nil=>rfl
 | cons x _ ih=>rw [prodL,prodL,ih]
 | swap x y l=>rw [prodL,prodL,prodL,prodL,mul_left_comm]
 | trans _ _ h1 h2=>exact h1.trans h2
theorem prodL_mul {R:Type} [CR R] (x:R):∀l:List R,prodL (l.map (x * ·))=pw x l.length*prodL l
 | []=>(one_mul _).symm
 | y::l=>by
  rw [List.map_cons,prodL,prodL_mul x l,prodL,List.length_cons,pw]
  exact ring_of [x,y,pw x l.length,prodL l] rfl
theorem perm_of_sub {α:Type} [DecidableEq α]:∀{l m:List α},l.Nodup→(∀x∈l,x∈m)→m.length=l.length→l.Perm m
 | [],m,_,_,hl=>by
  obtain rfl:=List.eq_nil_of_length_eq_zero (by simpa using hl)
  exact .nil
 | x::l,m,hn,hs,hl=>by
  have hx:x∈m:=hs x (by simp)
  obtain ⟨h1,h2⟩:=List.nodup_cons.1 hn
  have p:=List.perm_cons_erase hx
  refine (List.Perm.cons x (perm_of_sub h2 (fun y hy=>?_) ?_)).trans p.symm
  ·have hne:y≠x:=fun e=>h1 (e▸hy)
   exact (List.mem_erase_of_ne hne).2 (hs y (by simp [hy]))
  ·rw [List.length_erase_of_mem hx]; simp at hl; omega
theorem unit_pow {R:Type} [CR R] [DecidableEq R] {l:List R} (hn:l.Nodup) (hc:∀x y:R,x*y=0→x=0∨y=0) (h1:(1:R)≠0) (hl:∀x,x∈l↔x≠0) {x:R} (hx:x≠0):pw x l.length=1:=by
 have hcan:∀y z:R,x*y=x*z→y=z:=fun y z e=>by
  have:x*(y-z)=0:=by
   have e2:x*(y-z)=x*y-x*z:=ring_of [x,y,z] rfl
   rw [e2,e,sub_self]
  exact eq_of_sub ((hc _ _ this).resolve_left hx)
 have hp:(l.map (x * ·)).Perm l:=by
  refine perm_of_sub ?_ (fun y hy=>?_) (by simp)
  ·unfold List.Nodup at hn ⊢
   rw [List.pairwise_map]
   exact hn.imp fun hab e=>hab (hcan _ _ e)
  ·obtain ⟨z,hz,rfl⟩:=List.mem_map.1 hy
   exact (hl _).2 fun e=>((hc _ _ e).elim hx) ((hl z).1 hz)
 have hprod:prodL l≠0:=by
  have:∀m:List R,(∀z∈m,z≠0)→prodL m≠0:=by
   intro m
   induction m with
   | nil=>exact fun _=>h1
   | cons z m ih=>exact fun hm e=>((hc _ _ e).elim (hm z (by simp))) (ih fun y hy=>hm y (by simp [hy]))
  exact this l fun z hz=>(hl z).1 hz
 have e:=prodL_perm hp
 rw [prodL_mul] at e
 have e2:prodL l*(pw x l.length-1)=0:=by
  have e3:prodL l*(pw x l.length-1)=pw x l.length*prodL l-prodL l:=ring_of [prodL l,pw x l.length] rfl
  rw [e3,e,sub_self]
 exact eq_of_sub ((hc _ _ e2).resolve_left hprod)
section
variable {K:Type} [CR K]
def sumR (f:Nat→K):Nat→K
 | 0=>0
 | n+1=>sumR f n+f n
noncomputable def Pol.val (a:Pol K) (x:K):K:=sumR (fun i=>a.c i*pw x i) a.len
theorem sumR_more (f:Nat→K) (n:Nat) (h:∀i,n≤i→f i=0):∀k,sumR f (n+k)=sumR f n
 | 0=>rfl
 | k+1=>by rw [←Nat.add_assoc,sumR,sumR_more f n h k,h _ (by omega),add_zero]
theorem sumR_add (f g:Nat→K):∀n,sumR (fun i=>f i+g i) n=sumR f n+sumR g n
 | 0=>(add_zero _).symm
 | n+1=>by rw [sumR,sumR_add f g n,sumR,sumR]; exact ring_of [sumR f n,sumR g n,f n,g n] rfl
theorem sumR_mul (k:K) (f:Nat→K):∀n,sumR (fun i=>k*f i) n=k*sumR f n
 | 0=>(mul_zero _).symm
 | n+1=>by rw [sumR,sumR_mul k f n,sumR,mul_add]
theorem pw_factor (x:K):∀n,∃g:Nat→K,(∀i,n≤i→g i=0)∧(∀k,n=k+1→g k=1)∧∀y,pw y n-pw x n=(y-x)*sumR (fun i=>g i*pw y i) n:=by
 intro n
 induction n with
 | zero=>exact ⟨fun _=>0,fun _ _=>rfl,fun k h=>by omega,fun y=>by show (1:K)-1=(y-x)*0; rw [mul_zero,sub_self]⟩
 | succ n ih=>
  obtain ⟨g,h1,h2,h3⟩:=ih
  refine ⟨fun i=>if i=n then 1 else x*g i,fun i hi=>?_,fun k hk=>?_,fun y=>?_⟩
  ·dsimp only; rw [if_neg (by omega),h1 i (by omega),mul_zero]
  ·dsimp only; rw [if_pos (by omega)]
  ·rw [sumR]; dsimp only; rw [if_pos rfl,one_mul]
   have e:sumR (fun i=>(if i=n then 1 else x*g i)*pw y i) n=x*sumR (fun i=>g i*pw y i) n:=by
    rw [←sumR_mul]
    have:∀m,m≤n→sumR (fun i=>(if i=n then 1 else x*g i)*pw y i) m=sumR (fun i=>x*(g i*pw y i)) m:=by
     intro m
     induction m with
     | zero=>intro _; rfl
     | succ m ihm=>intro hm; rw [sumR,sumR,ihm (by omega),if_neg (by omega),mul_assoc]
    exact this n (Nat.le_refl n)
   rw [e,pw,pw]
   have e2:(y-x)*(x*sumR (fun i=>g i*pw y i) n+pw y n)=x*((y-x)*sumR (fun i=>g i*pw y i) n)+(y-x)*pw y n:=ring_of [y,x,sumR (fun i=>g i*pw y i) n,pw y n] rfl
   rw [e2,←h3 y]
   exact ring_of [pw y n,y,pw x n,x] rfl
theorem val_factor (f:Nat→K) (x:K):∀n,∃g:Nat→K,(∀i,n≤i+1→g i=0)∧(∀k,n=k+2→g k=f (k+1))∧∀y,sumR (fun i=>f i*pw y i) n-sumR (fun i=>f i*pw x i) n=(y-x)*sumR (fun i=>g i*pw y i) n:=by
 intro n
 induction n with
 | zero=>exact ⟨fun _=>0,fun _ _=>rfl,fun k h=>by omega,fun y=>by show (0:K)-0=(y-x)*0; rw [mul_zero,sub_self]⟩
 | succ n ih=>
  obtain ⟨g,h1,h2,h3⟩:=ih
  obtain ⟨g',h1',h2',h3'⟩:=pw_factor x n
  refine ⟨fun i=>g i+f n*g' i,fun i hi=>?_,fun k hk=>?_,fun y=>?_⟩
  ·dsimp only; rw [h1 i (by omega),h1' i (by omega),mul_zero,add_zero]
  ·obtain rfl:k+1=n:=by omega
   dsimp only; rw [h1 k (by omega),h2' k rfl,mul_one,zero_add]
  ·rw [sumR,sumR,sumR]
   have e0:g n+f n*g' n=0:=by rw [h1 n (by omega),h1' n (by omega),mul_zero,add_zero]
   dsimp only
   rw [e0,zero_mul,add_zero]
   have e:sumR (fun i=>(g i+f n*g' i)*pw y i) n=sumR (fun i=>g i*pw y i) n+f n*sumR (fun i=>g' i*pw y i) n:=by
    rw [←sumR_mul,←sumR_add]
    congr 1
    funext i
    exact ring_of [g i,f n,g' i,pw y i] rfl
   rw [e]
   have e2:(y-x)*(sumR (fun i=>g i*pw y i) n+f n*sumR (fun i=>g' i*pw y i) n)=(y-x)*sumR (fun i=>g i*pw y i) n+f n*((y-x)*sumR (fun i=>g' i*pw y i) n):=ring_of [y,x,sumR (fun i=>g i*pw y i) n,f n,sumR (fun i=>g' i*pw y i) n] rfl
   rw [e2,←h3 y,←h3' y]
   exact ring_of [sumR (fun i=>f i*pw y i) n,f n,pw y n,sumR (fun i=>f i*pw x i) n,pw x n] rfl
theorem roots_le (hc:∀x y:K,x*y=0→x=0∨y=0):∀(n:Nat) (f:Nat→K) (l:List K),f n≠0→l.Nodup→(∀y∈l,sumR (fun i=>f i*pw y i) (n+1)=0)→l.length≤n
 | n,f,[],_,_,_=>Nat.zero_le n
 | 0,f,x::l,hf,_,hr=>by
  have:=hr x (by simp)
  have e:sumR (fun i=>f i*pw x i) (0+1)=f 0:=by show 0+f 0*1=f 0; rw [zero_add,mul_one]
  rw [e] at this
  exact absurd this hf
 | n+1,f,x::l,hf,hn,hr=>by
  obtain ⟨g,h1,h2,h5⟩:=val_factor f x (n+2)
  have hx:=hr x (by simp)
  obtain ⟨h3,h4⟩:=List.nodup_cons.1 hn
  have hg0:g n≠0:=by rw [h2 n rfl]; exact hf
  have hg:∀y,sumR (fun i=>f i*pw y i) (n+2)=(y-x)*sumR (fun i=>g i*pw y i) (n+1):=fun y=>by
   have:=h5 y
   rw [hx] at this
   have e:sumR (fun i=>g i*pw y i) (n+2)=sumR (fun i=>g i*pw y i) (n+1):=by
    show sumR (fun i=>g i*pw y i) (n+1)+g (n+1)*pw y (n+1)=_
    rw [h1 (n+1) (by omega),zero_mul,add_zero]
   rw [e] at this
   rw [←this]
   exact ring_of [sumR (fun i=>f i*pw y i) (n+2)] rfl
  have:=roots_le hc n g l hg0 h4 fun y hy=>by
   have e:=hr y (by simp [hy])
   rw [hg y] at e
   refine (hc _ _ e).resolve_left fun h0=>h3 ?_
   rw [←eq_of_sub h0]; exact hy
  simp; omega
end
end Gq

namespace Pe
open Go Gq
section
variable {p:Int} [IsP p]
end
section
variable {p:Int}
theorem ipow_mono (h:1≤p) {a b:Nat} (hab:a≤b):p^a≤p^b:=by
 obtain ⟨k,rfl⟩:=Nat.exists_eq_add_of_le hab
 rw [Int.pow_add]
 have h1:1≤p^k:=Int.pow_pos (n:=p) (m:=k) (by omega)
 have h2:0≤p^a:=Int.pow_nonneg (by omega)
 have:=Int.mul_le_mul_of_nonneg_left h1 h2
 omega
end
section
variable {p:Int} [IsP p]
def vl (p:Int):List Int→Int
 | []=>0
 | d::l=>d+p*vl p l
theorem vl_in:∀{l:List Int},Can p l→0≤vl p l∧vl p l<p^l.length
 | [],_=>by simp [vl]
 | d::l,h=>by
  have hp:=IsP.pos (p:=p)
  obtain ⟨h1,h2⟩:=vl_in (l:=l) fun x hx=>h x (by simp [hx])
  have h3:=h d (by simp)
  have h4:0≤p*vl p l:=Int.mul_nonneg (by omega) h1
  have h5:p*vl p l≤p*(p^l.length-1):=Int.mul_le_mul_of_nonneg_left (by omega) (by omega)
  rw [Int.mul_sub,Int.mul_one] at h5
  rw [List.length_cons,Int.pow_succ,Int.mul_comm (p^l.length),vl]
  omega
theorem vl_cf:∀{l:List Int},Can p l→∀i,cf l i=vl p l/p^i%p
 | [],_,i=>by simp [vl,cf]
 | d::l,h,0=>by
  have h3:=h d (by simp)
  show d=(d+p*vl p l)/p^0%p
  rw [Int.pow_zero,Int.ediv_one,Int.add_mul_emod_self_left,Int.emod_eq_of_lt h3.1 h3.2]
 | d::l,h,i+1=>by
  have hp:=IsP.pos (p:=p)
  have h3:=h d (by simp)
  have e:cf (d::l) (i+1)=cf l i:=by simp [cf]
  rw [e,vl_cf (l:=l) fun x hx=>h x (by simp [hx]),vl,Int.pow_succ,Int.mul_comm (p^i),←Int.ediv_ediv_of_nonneg (by omega),Int.add_mul_ediv_left _ _ (by omega),Int.ediv_eq_zero_of_lt h3.1 h3.2,Int.zero_add]
theorem dgs_cf:∀(f:Nat) (n:Int),0≤n→n<2^f→∀i,cf (dgs p f n) i=n/p^i%p
 | 0,n,h0,hn,i=>by
  obtain rfl:n=0:=by simp at hn; omega
  simp [dgs,cf]
 | f+1,n,h0,hn,i=>by
  have hp:=IsP.ge (p:=p)
  unfold dgs
  split
  ·obtain rfl:n=0:=by omega
   simp [cf]
  ·have hd:n/p<2^f:=by
    apply Int.ediv_lt_of_lt_mul (by omega)
    have:(2:Int)^(f+1)=2^f*2:=Int.pow_succ _ _
    have h2:(2:Int)^f*2≤2^f*p:=Int.mul_le_mul_of_nonneg_left hp (Int.pow_nonneg (by omega))
    omega
   cases i with
   | zero=>show n%p=n/p^0%p; rw [Int.pow_zero,Int.ediv_one]
   | succ i=>
    have e:cf (n%p::dgs p f (n/p)) (i+1)=cf (dgs p f (n/p)) i:=by simp [cf]
    rw [e,dgs_cf f _ (Int.ediv_nonneg h0 (by omega)) hd,Int.pow_succ,Int.mul_comm (p^i),←Int.ediv_ediv_of_nonneg (by omega)]
abbrev NumOk (n:Int):Prop:=0≤n∧n<18446744073709551616
theorem numP_c {n:Int} (h:NumOk n) (i:Nat):(numP p n).c i=zp p (n/p^i):=by
 unfold numP
 rw [polOf_c,dgs_cf 64 n h.1 (by simpa using h.2),zp_mod]
noncomputable def numOf (a:Fp p):Int:=vl p (row a)
theorem numOf_in (a:Fp p):0≤numOf a∧numOf a<p^a.len:=by
 have:=vl_in (row_can a)
 rwa [row_length] at this
theorem numP_numOf {a:Fp p} (h:numOf a<18446744073709551616):numP p (numOf a)=a:=Pol.ext fun i=>by
 rw [numP_c ⟨(numOf_in a).1,h⟩]
 have:=vl_cf (row_can a) i
 rw [row_cf] at this
 rw [←zp_mod,show numOf a/p^i%p=rep (a.c i) from this.symm,zp_rep]
theorem vl_dgs:∀(f:Nat) (n:Int),0≤n→n<2^f→vl p (dgs p f n)=n
 | 0,n,h0,hn=>by
  obtain rfl:n=0:=by simp at hn; omega
  rfl
 | f+1,n,h0,hn=>by
  have hp:=IsP.ge (p:=p)
  unfold dgs
  split
  ·show (0:Int)=n; omega
  ·have hd:n/p<2^f:=by
    apply Int.ediv_lt_of_lt_mul (by omega)
    have:(2:Int)^(f+1)=2^f*2:=Int.pow_succ _ _
    have h2:(2:Int)^f*2≤2^f*p:=Int.mul_le_mul_of_nonneg_left hp (Int.pow_nonneg (by omega))
    omega
   rw [vl,vl_dgs f _ (Int.ediv_nonneg h0 (by omega)) hd]
   exact Int.emod_add_mul_ediv n p
theorem numOf_numP {n:Int} (h:NumOk n):numOf (numP p n)=n:=by
 unfold numOf
 rw [row_numP h.2,vl_dgs 64 n h.1 (by simpa using h.2)]
theorem numP_inj {n m:Int} (hn:NumOk n) (hm:NumOk m) (h:numP p n=numP p m):n=m:=by rw [←numOf_numP (p:=p) hn,h,numOf_numP hm]
theorem numP_lt {n:Int} (h:NumOk n) {d:Nat} (hd:n<p^d):(numP p n).lt d:=fun i hi=>by
 have hp:=IsP.pos (p:=p)
 rw [numP_c h,Int.ediv_eq_zero_of_lt h.1 (Int.lt_of_lt_of_le hd (ipow_mono (by omega) hi)),zp_zero]
theorem pow_nat (d:Nat):((p.toNat^d:Nat):Int)=p^d:=by
 have hp:=IsP.pos (p:=p)
 rw [Int.natCast_pow,Int.toNat_of_nonneg (by omega)]
theorem numP_zero:numP p 0=0:=Pol.ext fun i=>by rw [numP_c ⟨by omega,by omega⟩,Int.zero_ediv,zp_zero]; rfl
def unitsL (q:Fp p) (d:Nat):List (Quo q):=(List.range (p.toNat^d-1)).map fun (n:Nat)=>Quo.mk q (numP p (n+1))
theorem p_pow_pos (d:Nat):0<p.toNat^d:=Nat.pow_pos (by have:=IsP.pos (p:=p); omega)
theorem unitsL_nodup {q:Fp p} {d:Nat} (hq:q.len=d+1) (hd:p^d<1000000000000):(unitsL q d).Nodup:=by
 unfold unitsL List.Nodup
 rw [List.pairwise_map]
 refine List.Pairwise.imp_of_mem ?_ (List.pairwise_lt_range (n:=p.toNat^d-1))
 intro a b ha hb hab e
 rw [List.mem_range] at ha hb
 have hc:=pow_nat (p:=p) d
 have hpos:=p_pow_pos (p:=p) d
 have h1:NumOk ((a:Int)+1):=⟨by omega,by omega⟩
 have h2:NumOk ((b:Int)+1):=⟨by omega,by omega⟩
 have hq0:q≠0:=fun h0=>by rw [h0,Pol.len_zero] at hq; omega
 have l1:=Pol.len_le (numP_lt (p:=p) h1 (d:=d) (by omega))
 have l2:=Pol.len_le (numP_lt (p:=p) h2 (d:=d) (by omega))
 rw [←Pol.mod_eq_iff hq0,Pol.mod_small (by omega),Pol.mod_small (by omega)] at e
 have:=numP_inj h1 h2 e
 omega
theorem unitsL_mem {q:Fp p} {d:Nat} (hq:q.len=d+1) (hd:p^d<1000000000000) (x:Quo q):x∈unitsL q d↔x≠0:=by
 have hc:=pow_nat (p:=p) d
 have hpos:=p_pow_pos (p:=p) d
 have hq0:q≠0:=fun h0=>by rw [h0,Pol.len_zero] at hq; omega
 constructor
 ·intro h e
  obtain ⟨n,hn,rfl⟩:=List.mem_map.1 h
  rw [List.mem_range] at hn
  have h1:NumOk ((n:Int)+1):=⟨by omega,by omega⟩
  have l1:=Pol.len_le (numP_lt (p:=p) h1 (d:=d) (by omega))
  rw [←Quo.mk_zero,←Pol.mod_eq_iff hq0,Pol.mod_small (by omega),Pol.zero_mod hq0,←numP_zero] at e
  have:=numP_inj h1 ⟨by omega,by omega⟩ e
  omega
 ·intro h
  obtain ⟨a,rfl⟩:=Quo.ex x
  have hl:=Pol.len_mod a hq0
  rw [←Pol.mk_mod] at h ⊢
  have hin:=numOf_in (a%q)
  have hle:p^(a%q).len≤p^d:=ipow_mono (by have:=IsP.pos (p:=p); omega) (by omega)
  have e:=numP_numOf (a:=a%q) (by omega)
  have hne:numOf (a%q)≠0:=fun h0=>by
   rw [h0,numP_zero] at e
   exact h (by rw [←e,Quo.mk_zero])
  refine List.mem_map.2 ⟨(numOf (a%q)).toNat-1,?_,?_⟩
  ·rw [List.mem_range]; omega
  ·rw [show (((numOf (a%q)).toNat-1:Nat):Int)+1=numOf (a%q) by omega,e]
theorem fermat {q:Fp p} (hi:Irr q) {d:Nat} (hq:q.len=d+1) (hd:p^d<1000000000000) {x:Quo q} (hx:x≠0):pw x (p.toNat^d-1)=1:=by
 classical
 have h1:(1:Quo q)≠0:=(fdQuo hi).one_ne
 have:=unit_pow (unitsL_nodup hq hd) (fun x y e=>hi.quo_zero e) h1 (unitsL_mem hq hd) hx
 rwa [unitsL,List.length_map,List.length_range] at this
theorem fermat_all {q:Fp p} (hi:Irr q) {d:Nat} (hq:q.len=d+1) (hd:p^d<1000000000000) (x:Quo q):pw x (p.toNat^d)=x:=by
 have hpos:=p_pow_pos (p:=p) d
 by_cases hx:x=0
 ·rw [hx]
  cases hn:p.toNat^d with
  | zero=>omega
  | succ n=>rw [pw,Gq.mul_zero]
 ·have:=fermat hi hq hd hx
  have e:p.toNat^d=(p.toNat^d-1)+1:=by omega
  rw [e,pw,this,Gq.one_mul]
end
section
variable {p:Int}
theorem ic_p {q:Fp p}:(ic p:Quo q)=0:=by
 have h:∀n:Int,(ic n:Quo q)=Quo.mk q (Pol.C (zp p n)):=by
  have hn:∀n:Nat,(nc n:Quo q)=Quo.mk q (Pol.C (zp p n)):=by
   intro n
   induction n with
   | zero=>show (0:Quo q)=_; rw [show zp p ((0:Nat):Int)=0 from rfl,Pol.C_zero,Quo.mk_zero]
   | succ n ih=>
    rw [nc,ih]
    have:zp p ((n+1:Nat):Int)=zp p n+1:=rfl
    rw [this,Pol.C_add,Quo.mk_add,Pol.C_one,Quo.mk_one]
  intro n
  cases n with
  | ofNat n=>exact hn n
  | negSucc n=>
   show -(nc (n+1):Quo q)=_
   rw [hn,←Quo.mk_neg,←Pol.C_neg]; rfl
 rw [h]
 have:zp p p=0:=zp_eq.2 (by simp)
 rw [this,Pol.C_zero,Quo.mk_zero]
end
section
variable {p:Int} [IsP p]
theorem frob_add {q:Fp p} (x y:Quo q):pw (x+y) p.toNat=pw x p.toNat+pw y p.toNat:=by
 have h:=ic_p (q:=q)
 rcases (inferInstance:IsP p).h with rfl | rfl | rfl | rfl
 ·have e:pw (x+y) 2=pw x 2+pw y 2+ic 2*(x*y):=by
   show (x+y)^2=x^2+y^2+ic 2*(x*y)
   exact ring_of [x,y] rfl
  rw [h,Gq.zero_mul,Gq.add_zero] at e
  exact e
 ·have e:pw (x+y) 3=pw x 3+pw y 3+ic 3*(x*x*y+x*y*y):=by
   show (x+y)^3=x^3+y^3+ic 3*(x*x*y+x*y*y)
   exact ring_of [x,y] rfl
  rw [h,Gq.zero_mul,Gq.add_zero] at e
  exact e
 ·have e:pw (x+y) 5=pw x 5+pw y 5+ic 5*(x^4*y+ic 2*x^3*y^2+ic 2*x^2*y^3+x*y^4):=by
   show (x+y)^5=x^5+y^5+ic 5*(x^4*y+ic 2*x^3*y^2+ic 2*x^2*y^3+x*y^4)
   exact ring_of [x,y] rfl
  rw [h,Gq.zero_mul,Gq.add_zero] at e
  exact e
 ·have e:pw (x+y) 7=pw x 7+pw y 7+ic 7*(x^6*y+ic 3*x^5*y^2+ic 5*x^4*y^3+ic 5*x^3*y^4+ic 3*x^2*y^5+x*y^6):=by
   show (x+y)^7=x^7+y^7+ic 7*(x^6*y+ic 3*x^5*y^2+ic 5*x^4*y^3+ic 5*x^3*y^4+ic 3*x^2*y^5+x*y^6)
   exact ring_of [x,y] rfl
  rw [h,Gq.zero_mul,Gq.add_zero] at e
  exact e
theorem frob_const (c:Zp p):pw c p.toNat=c:=by
 have h0:=rep_in c
 have e:c=zp p (rep c):=(zp_rep c).symm
 generalize rep c=n at *
 subst e
 rcases (inferInstance:IsP p).h with rfl | rfl | rfl | rfl
 ·have:n=0∨n=1:=by omega
  rcases this with rfl | rfl <;> exact zp_eq.2 (by decide)
 ·have:n=0∨n=1∨n=2:=by omega
  rcases this with rfl | rfl | rfl <;> exact zp_eq.2 (by decide)
 ·have:n=0∨n=1∨n=2∨n=3∨n=4:=by omega
  rcases this with rfl | rfl | rfl | rfl | rfl <;> exact zp_eq.2 (by decide)
 ·have:n=0∨n=1∨n=2∨n=3∨n=4∨n=5∨n=6:=by omega
  rcases this with rfl | rfl | rfl | rfl | rfl | rfl | rfl <;> exact zp_eq.2 (by decide)
end
end Pe

namespace Pe
open Go Gq
section
variable {p:Int} [IsP p]
theorem frobk_add {q:Fp p} (x y:Quo q):∀k,pw (x+y) (p.toNat^k)=pw x (p.toNat^k)+pw y (p.toNat^k)
 | 0=>by rw [Nat.pow_zero,pw_1,pw_1,pw_1]
 | k+1=>by rw [Nat.pow_succ,←pw_pw,frobk_add x y k,frob_add,pw_pw,pw_pw]
theorem frobk_const (c:Zp p):∀k,pw c (p.toNat^k)=c
 | 0=>by rw [Nat.pow_zero,pw_1]
 | k+1=>by rw [Nat.pow_succ,←pw_pw,frobk_const c k,frob_const]
end
section
variable {p:Int}
theorem C_pw (c:Zp p):∀n,Pol.C (pw c n)=pw (Pol.C c) n
 | 0=>rfl
 | n+1=>by rw [pw,Pol.C_mul,C_pw c n,pw]
end
section
variable {p:Int} [IsP p]
end
section
variable {p:Int}
theorem pol_ind {P:Fp p→Prop} (h0:P 0) (h:∀c a,P a→P (Pol.C c+Pol.X*a)):∀(n:Nat) (a:Fp p),a.lt n→P a
 | 0,a,ha=>by rw [Pol.lt_zero.1 ha]; exact h0
 | n+1,a,ha=>by
  obtain ⟨m,hm⟩:=a.fin
  let b:Fp p:=⟨fun i=>a.c (i+1),m,fun i hi=>hm _ (by omega)⟩
  have e:a=Pol.C (a.c 0)+Pol.X*b:=Pol.ext fun i=>by
   rw [Pol.c_add,Pol.c_C,Pol.c_Xmul]
   cases i with
   | zero=>rw [if_pos rfl,if_pos rfl,Gq.add_zero]
   | succ i=>rw [if_neg (by omega),if_neg (by omega),Gq.zero_add]; rfl
  rw [e]
  exact h _ _ (pol_ind h0 h n b fun i hi=>ha _ (by omega))
end
section
variable {p:Int} [IsP p]
theorem frob_fix {q:Fp p} (k:Nat) (h:pw (Quo.mk q Pol.X) (p.toNat^k)=Quo.mk q Pol.X) (x:Quo q):pw x (p.toNat^k)=x:=by
 obtain ⟨a,rfl⟩:=Quo.ex x
 refine pol_ind (P:=fun a=>pw (Quo.mk q a) (p.toNat^k)=Quo.mk q a) ?_ (fun c a ha=>?_) _ a a.lt_len
 ·rw [Quo.mk_zero]
  have:=p_pow_pos (p:=p) k
  cases hn:p.toNat^k with
  | zero=>omega
  | succ n=>rw [pw,Gq.mul_zero]
 ·rw [Quo.mk_add,Quo.mk_mul,frobk_add,pw_mul,h,ha]
  congr 1
  rw [←Quo.mk_pow,←C_pw,frobk_const]
theorem sumR_ind {K:Type} [CR K] (m:Nat) (g:Nat→K):∀n,sumR (fun i=>(if i=m then 1 else 0)*g i) n=if m<n then g m else 0
 | 0=>by rw [if_neg (by omega)]; rfl
 | n+1=>by
  rw [sumR,sumR_ind m g n]
  rcases Nat.lt_trichotomy m n with h | h | h
  ·rw [if_pos h,if_neg (by omega),if_pos (by omega),Gq.zero_mul,Gq.add_zero]
  ·rw [if_neg (by omega),if_pos h.symm,if_pos (by omega),Gq.one_mul,Gq.zero_add,h]
  ·rw [if_neg (by omega),if_neg (by omega),if_neg (by omega),Gq.zero_mul,Gq.add_zero]
noncomputable def frT (p:Int) (k:Nat):Fp p:=pw Pol.X (p.toNat^k)-Pol.X
theorem frT_dv {q:Fp p} {k:Nat}:Dv q (frT p k)↔pw (Quo.mk q Pol.X) (p.toNat^k)=Quo.mk q Pol.X:=by
 rw [dv_iff_mk,frT,Quo.mk_sub,Quo.mk_pow]
 exact ⟨fun h=>eq_of_sub h,fun h=>by rw [h,sub_self]⟩
theorem irr_frT {q:Fp p} (hi:Irr q) {d:Nat} (hq:q.len=d+1) (hd:p^d<1000000000000):Dv q (frT p d):=frT_dv.2 (fermat_all hi hq hd _)
theorem irr_frT_le {q:Fp p} (hi:Irr q) {d k:Nat} (hq:q.len=d+1) (hd:p^d<1000000000000) (hk:0<k) (h:Dv q (frT p k)):d≤k:=by
 classical
 have hfix:=frob_fix k (frT_dv.1 h)
 have hone:(1:Quo q)≠0:=(fdQuo hi).one_ne
 have hP:2≤p.toNat:=by have:=IsP.ge (p:=p); omega
 have hne1:1<p.toNat^k:=Nat.one_lt_pow (by omega) hP
 have r:=roots_le (fun x y e=>hi.quo_zero e) (p.toNat^k) (fun i=>(if i=p.toNat^k then (1:Quo q) else 0)-(if i=1 then 1 else 0)) ((0:Quo q)::unitsL q d)
  (by rw [if_pos rfl,if_neg (by omega),sub_eq,neg_zero,Gq.add_zero]; exact hone)
  (List.nodup_cons.2 ⟨fun h0=>(unitsL_mem hq hd 0).1 h0 rfl,unitsL_nodup hq hd⟩)
  (fun y _=>by
   have e:(fun i=>((if i=p.toNat^k then (1:Quo q) else 0)-(if i=1 then 1 else 0))*pw y i)=fun i=>(if i=p.toNat^k then (1:Quo q) else 0)*pw y i+(if i=1 then 1 else 0) * -pw y i:=by
    funext i
    exact ring_of [(if i=p.toNat^k then (1:Quo q) else 0),(if i=1 then (1:Quo q) else 0),pw y i] rfl
   rw [e,sumR_add,sumR_ind,sumR_ind _ (fun i=>-pw y i),if_pos (by omega),if_pos (by omega),hfix,pw_1,add_neg])
 have hl:(unitsL q d).length=p.toNat^d-1:=by unfold unitsL; rw [List.length_map,List.length_range]
 have hpos:=p_pow_pos (p:=p) d
 rw [List.length_cons,hl] at r
 have:p.toNat^d≤p.toNat^k:=by omega
 exact (Nat.pow_le_pow_iff_right (by omega)).1 this
end
end Pe

namespace Pe
open Go Gq
section
variable {p:Int} [IsP p]
theorem vl_mono:∀{l m:List Int},Can p l→Can p m→l.length<m.length→cf m (m.length-1)≠0→vl p l<vl p m
 | l,[],_,_,h,_=>by simp at h
 | l,d::m,hl,hm,h,hc=>by
  have hp:=IsP.pos (p:=p)
  have hd:=hm d (by simp)
  have hmc:Can p m:=fun x hx=>hm x (by simp [hx])
  cases l with
  | nil=>
   show 0<d+p*vl p m
   have h2:=(vl_in hmc).1
   cases m with
   | nil=>
    have:d≠0:=hc
    simp [vl]; omega
   | cons e m=>
    have h3:cf (e::m) ((e::m).length-1)≠0:=by simpa [cf] using hc
    have:=vl_mono (l:=[]) (m:=e::m) (fun x hx=>by simp at hx) hmc (by simp) h3
    have h5:0<p*vl p (e::m):=Int.mul_pos hp (by simpa [vl] using this)
    omega
  | cons c l=>
   have hlc:Can p l:=fun x hx=>hl x (by simp [hx])
   have hcc:=hl c (by simp)
   have h3:cf m (m.length-1)≠0:=by
    cases m with
    | nil=>simp at h
    | cons e m=>simpa [cf] using hc
   have:=vl_mono hlc hmc (by simpa using h) h3
   have h5:p*(vl p l+1)≤p*vl p m:=Int.mul_le_mul_of_nonneg_left (by omega) (by omega)
   rw [Int.mul_add,Int.mul_one] at h5
   show c+p*vl p l<d+p*vl p m
   omega
end
section
variable {p:Int}
theorem row_last {a:Fp p} (h:a≠0):cf (row a) ((row a).length-1)≠0:=by
 rw [row_length,row_cf]
 exact fun h0=>Pol.ld_ne h (rep_eq_zero.1 h0)
end
section
variable {p:Int} [IsP p]
theorem numOf_len {a b:Fp p} (h:a.len<b.len):numOf a<numOf b:=vl_mono (row_can a) (row_can b) (by simpa using h) (row_last fun h0=>by rw [h0,Pol.len_zero] at h; omega)
theorem vl_inj:∀{l m:List Int},Can p l→Can p m→l.length=m.length→vl p l=vl p m→l=m
 | [],[],_,_,_,_=>rfl
 | [],_::_,_,_,h,_=>by simp at h
 | _::_,[],_,_,h,_=>by simp at h
 | c::l,d::m,hl,hm,h,e=>by
  have hp:=IsP.pos (p:=p)
  have hcc:=hl c (by simp)
  have hd:=hm d (by simp)
  have e2:c+p*vl p l=d+p*vl p m:=e
  have e3:c=d:=by
   have:=congrArg (· % p) e2
   simp only [Int.add_mul_emod_self_left] at this
   rwa [Int.emod_eq_of_lt hcc.1 hcc.2,Int.emod_eq_of_lt hd.1 hd.2] at this
  subst e3
  have e4:p*vl p l=p*vl p m:=by omega
  rw [vl_inj (l:=l) (m:=m) (fun x hx=>hl x (by simp [hx])) (fun x hx=>hm x (by simp [hx])) (by simpa using h) (Int.eq_of_mul_eq_mul_left (by omega) e4)]
theorem numOf_inj {a b:Fp p} (h:numOf a=numOf b):a=b:=by
 rcases Nat.lt_trichotomy a.len b.len with h1 | h1 | h1
 ·have:=numOf_len h1; omega
 ·exact row_inj (vl_inj (row_can a) (row_can b) (by simpa using h1) h)
 ·have:=numOf_len h1; omega
abbrev Facs (p:Int):=List (Fp p×Nat)
noncomputable def prodF (L:Facs p):Fp p:=prodL (L.map fun x=>pw x.1 x.2)
structure FacOk (L:Facs p):Prop where
 irr:∀x∈L,Irr x.1∧Monic x.1∧1≤x.2
 dis:L.Pairwise fun x y=>x.1≠y.1
structure IsFac (a:Fp p) (L:Facs p):Prop where
 ok:FacOk L
 sorted:L.Pairwise fun x y=>numOf x.1<numOf y.1
 eq:a=Pol.C a.ld*prodF L
end
section
variable {p:Int}
theorem prodF_cons (x:Fp p×Nat) (L:Facs p):prodF (x::L)=pw x.1 x.2*prodF L:=rfl
end
section
variable {p:Int} [IsP p]
theorem Monic.pw {a:Fp p} (h:Monic a):∀n,Monic (pw a n)
 | 0=>Monic.one
 | n+1=>(Monic.pw h n).mul h
theorem prodF_monic {L:Facs p} (h:FacOk L):Monic (prodF L):=by
 induction L with
 | nil=>exact Monic.one
 | cons x L ih=>
  rw [prodF_cons]
  exact (Monic.pw (h.irr x (by simp)).2.1 _).mul (ih ⟨fun y hy=>h.irr y (by simp [hy]),(List.pairwise_cons.1 h.dis).2⟩)
theorem Irr.pw_dv {q a:Fp p} (h:Irr q):∀n,Dv q (pw a n)→Dv q a
 | 0,hd=>by
  have h1:q.len≤(1:Fp p).len:=hd.len Pol.one_ne
  have h2:=h.len
  rw [Pol.len_one] at h1; omega
 | n+1,hd=>(h.prime hd).elim (Irr.pw_dv h n) id
theorem irr_mem {q:Fp p} (hq:Irr q) (mq:Monic q):∀{L:Facs p},FacOk L→Dv q (prodF L)→∃k,(q,k)∈L
 | [],_,h=>by
  have h1:q.len≤(1:Fp p).len:=h.len Pol.one_ne
  have h2:=hq.len
  rw [Pol.len_one] at h1; omega
 | x::L,ok,h=>by
  rw [prodF_cons] at h
  rcases hq.prime h with h1 | h1
  ·have h2:=Irr.pw_dv hq _ h1
   obtain ⟨i1,i2,_⟩:=ok.irr x (by simp)
   have:=hq.eq_of_dv i1 mq i2 h2
   exact ⟨x.2,by rw [this]; simp⟩
  ·obtain ⟨k,hk⟩:=irr_mem hq mq ⟨fun y hy=>ok.irr y (by simp [hy]),(List.pairwise_cons.1 ok.dis).2⟩ h1
   exact ⟨k,by simp [hk]⟩
theorem prodF_out {q:Fp p} {k:Nat}:∀{L:Facs p},FacOk L→(q,k)∈L→∃r,prodF L=pw q k*r∧¬ Dv q r
 | x::L,ok,h=>by
  have ok':FacOk L:=⟨fun y hy=>ok.irr y (by simp [hy]),(List.pairwise_cons.1 ok.dis).2⟩
  rw [prodF_cons]
  rcases List.mem_cons.1 h with rfl | h
  ·refine ⟨prodF L,rfl,fun hd=>?_⟩
   obtain ⟨i1,i2,_⟩:=ok.irr (q,k) (by simp)
   obtain ⟨k',hk⟩:=irr_mem i1 i2 ok' hd
   exact (List.pairwise_cons.1 ok.dis).1 _ hk rfl
  ·obtain ⟨r,e,hn⟩:=prodF_out ok' h
   refine ⟨pw x.1 x.2*r,by rw [e,Gq.mul_left_comm],fun hd=>?_⟩
   obtain ⟨i1,i2,_⟩:=ok.irr (q,k) (by simp [h])
   obtain ⟨j1,j2,_⟩:=ok.irr x (by simp)
   rcases i1.prime hd with h1 | h1
   ·have h2:=Irr.pw_dv i1 _ h1
    have e:=i1.eq_of_dv j1 i2 j2 h2
    exact (List.pairwise_cons.1 ok.dis).1 _ h e.symm
   ·exact hn h1
theorem pw_ne {a:Fp p} (h:a≠0):∀n,pw a n≠0
 | 0=>Pol.one_ne
 | n+1=>Pol.mul_ne (pw_ne h n) h
theorem fac_mem {a:Fp p} (ha:a≠0) {L:Facs p} (ok:FacOk L) (e:a=Pol.C a.ld*prodF L) (q:Fp p) (k:Nat):(q,k)∈L↔Irr q∧Monic q∧1≤k∧Dv (pw q k) a∧¬ Dv (pw q (k+1)) a:=by
 have hld:=Pol.ld_ne ha
 have dvP:∀c,Dv c a↔Dv c (prodF L):=fun c=>by
  constructor
  ·rintro ⟨x,hx⟩
   refine ⟨Pol.C (Fd.inv a.ld)*x,?_⟩
   have:prodF L=Pol.C (Fd.inv a.ld)*a:=by
    rw [e]
    have e2:(Pol.C a.ld*prodF L).ld=a.ld:=by rw [←e]
    rw [e2,←Gq.mul_assoc,Gq.mul_comm (Pol.C (Fd.inv _)),C_inv hld,Gq.one_mul]
   rw [this]
   generalize Pol.C (Fd.inv a.ld)=k
   rw [hx]
   exact ring_of [k,c,x] rfl
  ·intro h
   rw [e]; exact h.mul_left _
 constructor
 ·intro h
  obtain ⟨i1,i2,i3⟩:=ok.irr (q,k) h
  obtain ⟨r,e2,hn⟩:=prodF_out ok h
  refine ⟨i1,i2,i3,(dvP _).2 ⟨r,e2⟩,fun hd=>hn ?_⟩
  obtain ⟨y,hy⟩:=(dvP _).1 hd
  rw [e2,pw,Gq.mul_assoc] at hy
  exact ⟨y,Pol.mul_cancel (pw_ne i1.ne k) hy⟩
 ·rintro ⟨i1,i2,i3,h1,h2⟩
  have hq:Dv q a:=by
   obtain ⟨k,rfl⟩:∃j,k=j+1:=⟨k-1,by omega⟩
   exact Dv.trans ⟨pw q k,Gq.mul_comm _ _⟩ h1
  obtain ⟨k',hk'⟩:=irr_mem i1 i2 ok ((dvP _).1 hq)
  obtain ⟨r,e2,hn⟩:=prodF_out ok hk'
  have:k=k':=by
   rcases Nat.lt_trichotomy k k' with h | h | h
   ·exfalso
    apply h2
    rw [dvP,e2]
    obtain ⟨j,rfl⟩:=Nat.exists_eq_add_of_le (show k+1≤k' from h)
    rw [pw_add q (k+1) j]
    exact ((Dv.refl _).mul_right _).mul_right _
   ·exact h
   ·exfalso
    apply hn
    obtain ⟨y,hy⟩:=(dvP _).1 h1
    obtain ⟨j,rfl⟩:=Nat.exists_eq_add_of_le (show k'+1≤k from h)
    rw [e2,pw_add,pw,Gq.mul_assoc,Gq.mul_assoc] at hy
    exact ⟨_,Pol.mul_cancel (pw_ne i1.ne k') hy⟩
  rw [this]; exact hk'
theorem sorted_eq {α:Type} (f:α→Int):∀{l m:List α},l.Pairwise (fun x y=>f x<f y)→m.Pairwise (fun x y=>f x<f y)→(∀x,x∈l↔x∈m)→l=m
 | [],[],_,_,_=>rfl
 | [],y::m,_,_,h=>by have:=(h y).2 (by simp); simp at this
 | x::l,[],_,_,h=>by have:=(h x).1 (by simp); simp at this
 | x::l,y::m,hl,hm,h=>by
  obtain ⟨l1,l2⟩:=List.pairwise_cons.1 hl
  obtain ⟨m1,m2⟩:=List.pairwise_cons.1 hm
  have e:x=y:=by
   rcases List.mem_cons.1 ((h x).1 (by simp)) with h1 | h1
   ·exact h1
   ·rcases List.mem_cons.1 ((h y).2 (by simp)) with h2 | h2
    ·exact h2.symm
    ·have:=m1 _ h1
     have:=l1 _ h2
     omega
  subst e
  rw [sorted_eq f l2 m2 fun z=>?_]
  constructor
  ·intro hz
   rcases List.mem_cons.1 ((h z).1 (by simp [hz])) with h1 | h1
   ·subst h1; have:=l1 _ hz; omega
   ·exact h1
  ·intro hz
   rcases List.mem_cons.1 ((h z).2 (by simp [hz])) with h1 | h1
   ·subst h1; have:=m1 _ hz; omega
   ·exact h1
theorem IsFac.unique {a:Fp p} (ha:a≠0) {L L':Facs p} (h:IsFac a L) (h':IsFac a L'):L=L':=
 sorted_eq (fun x=>numOf x.1) h.sorted h'.sorted fun x=>by
  obtain ⟨q,k⟩:=x
  rw [fac_mem ha h.ok h.eq,fac_mem ha h'.ok h'.eq]
def NoSmall (n:Nat) (a:Fp p):Prop:=∀q,Irr q→Dv q a→n+1≤q.len
theorem irr_of_noSmall {a:Fp p} {n:Nat} (h:NoSmall n a) (hl:2≤a.len) (hs:a.len<2*n+1):Irr a:=by
 refine Irr.of_dv hl fun u hu=>?_
 have ha:a≠0:=fun h0=>by rw [h0,Pol.len_zero] at hl; omega
 obtain ⟨v,rfl⟩:=hu
 have hu0:u≠0:=fun h0=>ha (by rw [h0,Gq.zero_mul])
 have hv0:v≠0:=fun h0=>ha (by rw [h0,Gq.mul_zero])
 have l:=Pol.len_mul hu0 hv0
 have l1:=Pol.len_pos hu0
 have l2:=Pol.len_pos hv0
 apply Classical.byContradiction
 intro hx
 have hu2:2≤u.len:=by omega
 have hv2:2≤v.len:=by omega
 obtain ⟨q,q1,_,q2⟩:=irr_ex u.len u (Nat.le_refl _) hu2
 obtain ⟨r,r1,_,r2⟩:=irr_ex v.len v (Nat.le_refl _) hv2
 have s1:=h q q1 (q2.mul_right v)
 have s2:=h r r1 (r2.mul_left u)
 have s3:=q2.len hu0
 have s4:=r2.len hv0
 omega
theorem noSmall_one (a:Fp p):NoSmall 1 a:=fun _q h _=>h.len
theorem noSmall_dv {a b:Fp p} {n:Nat} (h:NoSmall n a) (hd:Dv b a):NoSmall n b:=fun q hq hb=>h q hq (hb.trans hd)
end
end Pe
