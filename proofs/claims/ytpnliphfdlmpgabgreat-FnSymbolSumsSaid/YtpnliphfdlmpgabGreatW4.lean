/-
  A part of the proof: an evaluator for a small form of the code, its soundness, and contracts of functions over it.
-/
import Derived.KernelRfl
import Derived.Test.YtpnliphfdlmpgabGreatW1
import Derived.Test.YtpnliphfdlmpgabGreatW2
import Derived.Test.YtpnliphfdlmpgabGreatW3

/-
 Functions of the program in the small form,printed by a program.
-/
namespace Pe
open Go
def Zr_B:Cd:=
 .seq (.region [⟨some 6,.box false 0 (.t 1),none,[]⟩,
 ⟨some 10,.mv (.c (.int .i64 0)),none,[]⟩] [0,2,3,4,6])
 (.seq (.seq (.region [⟨some 13,.mv (.t 0),none,[]⟩,
 ⟨some 14,.mv (.t 4),none,[]⟩,
 ⟨some 15,.load (.arr 64 .leaf) (.t 6),none,[]⟩,
 ⟨some 16,.buildSl false 1 (.arr 64 .leaf) (.arr 64 .leaf z64) 1 [(0,(.t 15))],none,[]⟩,
 ⟨some 17,.append (.arr 64 .leaf) 2 64 (.t 14) (.t 16),none,[]⟩,
 ⟨some 18,.call .flat [] (.f Fs) [(.t 13),(.t 17)],none,[]⟩,
 ⟨some 11,.mv (.t 18),none,[]⟩] [2,3,6,11])
 (.seq (.region [⟨some 19,.mv (.t 11),none,[]⟩,
 ⟨some 20,.bin .neq (.t 19) (.c (.int .i64 0)),none,[]⟩] [2,3,6,11,20])
 (.cond (.t 20)
 (.seq (.region [⟨some 21,.mv (.t 11),none,[]⟩,
 ⟨some 10,.mv (.t 21),none,[]⟩] [10])
 (.ret))
 (.skip))))
 (.seq (.region [⟨some 22,.load (.arr 64 .leaf) (.t 6),none,[]⟩,
 ⟨some 23,.call .plain [] (.f F1h) [(.t 22)],none,[]⟩,
 ⟨some 12,.mv (.t 23),none,[]⟩] [2,3,12])
 (.seq (.seq (.region [⟨some 24,.mv (.t 12),none,[]⟩,
 ⟨some 25,.call .flat [] (.f F1l) [(.t 24)],none,[]⟩,
 ⟨some 26,.bin .neq (.t 25) (.c (.int .i64 1)),none,[]⟩,
 ⟨some 27,.mv (.t 26),none,[]⟩,
 ⟨some 28,.mv (.t 12),some (27,false),[]⟩,
 ⟨some 29,.call .flat [] (.f F1j) [(.t 28)],some (27,false),[]⟩,
 ⟨some 30,.mv (.t 2),some (27,false),[]⟩,
 ⟨some 31,.call .flat [] (.f F1p) [(.t 29),(.c (.int .i64 1)),(.t 30)],some (27,false),[]⟩,
 ⟨some 32,.un .not (.t 31),some (27,false),[]⟩,
 ⟨some 33,.pick (.t 27) (.c (.bool true)) (.t 32),none,[]⟩,
 ⟨some 34,.mv (.t 33),none,[]⟩,
 ⟨some 35,.mv (.t 3),some (34,false),[]⟩,
 ⟨some 36,.un .not (.t 35),some (34,false),[]⟩,
 ⟨some 37,.pick (.t 34) (.c (.bool true)) (.t 36),none,[]⟩] [37])
 (.cond (.t 37)
 (.seq (.region [⟨some 10,.mv (.c (.int .i64 2)),none,[]⟩] [10])
 (.ret))
 (.skip)))
 (.seq (.region [⟨some 10,.mv (.c (.int .i64 0)),none,[]⟩] [10])
 (.ret)))))
def Zr:Fn:=
 { nparams:=5,nblk:=3,results:=[.tmp 10],body:=Zr_B }
def Z13_B:Cd:=
 .seq (.region [⟨some 4,.mv (.c (.bool false)),none,[]⟩] [0,1])
 (.seq (.region [⟨some 5,.mv (.t 0),none,[]⟩,
 ⟨some 6,.mv (.t 1),none,[]⟩,
 ⟨some 7,.call .flat [] (.f F15) [(.t 5),(.t 6),(.c (.int .i64 343))],none,[]⟩,
 ⟨some 8,.bin .leq (.t 7) (.c (.int .i64 343)),none,[]⟩,
 ⟨some 4,.mv (.t 8),none,[]⟩] [4])
 (.ret))
def Z13:Fn:=
 { nparams:=2,nblk:=0,results:=[.tmp 4],body:=Z13_B }
def Z18_L0:Cd:=
 .seq (.region [⟨some 17,.bin .lss (.t 16) (.t 15),none,[]⟩] [0,7,8,15,16,17])
 (.seq (.cond (.t 17)
 (.skip)
 (.exit 0))
 (.seq (.block 1 (.region [⟨some 18,.mv (.t 8),none,[]⟩,
 ⟨some 19,.mv (.t 7),none,[]⟩,
 ⟨some 20,.bin .mul (.t 18) (.t 19),none,[]⟩,
 ⟨some 21,.mv (.t 0),none,[]⟩,
 ⟨some 22,.bin .rem (.t 20) (.t 21),none,[]⟩,
 ⟨some 8,.mv (.t 22),none,[]⟩] [0,7,8,15,16]))
 (.region [⟨some 23,.bin .add (.t 16) (.c (.int .i64 1)),none,[]⟩,
 ⟨some 16,.mv (.t 23),none,[]⟩] [0,7,8,15,16])))
def Z18_B:Cd:=
 .seq (.region [⟨some 6,.mv (.c (.int .i64 0)),none,[]⟩] [0,1,2])
 (.seq (.region [⟨some 9,.mv (.t 0),none,[]⟩,
 ⟨some 10,.mv (.t 1),none,[]⟩,
 ⟨some 11,.mv (.t 2),none,[]⟩,
 ⟨some 12,.call .flat [] (.f F1e) [(.t 9),(.t 10),(.t 11)],none,[]⟩,
 ⟨some 7,.mv (.t 12),none,[]⟩] [0,7])
 (.seq (.region [⟨some 8,.mv (.c (.int .i64 1)),none,[]⟩] [0,7,8])
 (.seq (.seq (.region [⟨some 13,.mv (.t 0),none,[]⟩,
 ⟨some 14,.bin .sub (.t 13) (.c (.int .i64 1)),none,[]⟩,
 ⟨some 15,.bin .quo (.t 14) (.c (.int .i64 2)),none,[]⟩,
 ⟨some 16,.mv (.c (.int .i64 0)),none,[]⟩] [0,7,8,15,16])
 (.block 0 (.loop (Z18_L0))))
 (.seq (.seq (.region [⟨some 24,.mv (.t 8),none,[]⟩,
 ⟨some 25,.mv (.t 0),none,[]⟩,
 ⟨some 26,.bin .sub (.t 25) (.c (.int .i64 1)),none,[]⟩,
 ⟨some 27,.bin .eql (.t 24) (.t 26),none,[]⟩] [8,27])
 (.cond (.t 27)
 (.seq (.region [⟨some 6,.mv (.c (.int .i64 (-1))),none,[]⟩] [6])
 (.ret))
 (.skip)))
 (.seq (.region [⟨some 28,.mv (.t 8),none,[]⟩,
 ⟨some 6,.mv (.t 28),none,[]⟩] [6])
 (.ret))))))
def Z18:Fn:=
 { nparams:=3,nblk:=0,results:=[.tmp 6],body:=Z18_B }
def Zb_L0:Cd:=
 .seq (.region [⟨some 41,.bin .lss (.t 40) (.t 39),none,[]⟩] [7,8,9,11,32,33,38,39,40,41])
 (.seq (.cond (.t 41)
 (.skip)
 (.exit 2))
 (.seq (.block 3 (.seq (.region [⟨some 42,.idxA none .leaf (.t 38) (.t 40),none,[]⟩,
 ⟨some 43,.load .leaf (.t 42),none,[]⟩,
 ⟨some 13,.mv (.t 43),none,[]⟩] [7,8,9,11,13,32,33,38,39,40])
 (.region [⟨some 44,.mv (.t 11),none,[]⟩,
 ⟨some 45,.mv (.t 7),none,[]⟩,
 ⟨some 46,.mv (.t 13),none,[]⟩,
 ⟨some 47,.mv (.t 8),none,[]⟩,
 ⟨some 48,.call .flat [] (.f F18) [(.t 45),(.t 46),(.t 47)],none,[]⟩,
 ⟨some 49,.bin .add (.t 44) (.t 48),none,[]⟩,
 ⟨some 11,.mv (.t 49),none,[]⟩] [7,8,9,11,32,33,38,39,40])))
 (.region [⟨some 50,.bin .add (.t 40) (.c (.int .i64 1)),none,[]⟩,
 ⟨some 40,.mv (.t 50),none,[]⟩] [7,8,9,11,32,33,38,39,40])))
def Zb_L1:Cd:=
 .seq (.region [⟨some 34,.bin .lss (.t 33) (.t 32),none,[]⟩] [7,8,9,32,33,34])
 (.seq (.cond (.t 34)
 (.skip)
 (.exit 0))
 (.seq (.block 1 (.seq (.region [⟨some 35,.mv (.t 33),none,[]⟩,
 ⟨some 10,.mv (.t 35),none,[]⟩] [7,8,9,10,32,33])
 (.seq (.region [⟨some 11,.mv (.c (.int .i64 0)),none,[]⟩] [7,8,9,10,11,32,33])
 (.seq (.seq (.region [⟨some 36,.mv (.t 7),none,[]⟩,
 ⟨some 37,.mv (.t 10),none,[]⟩,
 ⟨some 38,.call .plain [] (.f F14) [(.t 36),(.t 37)],none,[]⟩,
 ⟨some 39,.len false (.t 38),none,[]⟩,
 ⟨some 40,.mv (.c (.int .i64 0)),none,[]⟩] [7,8,9,11,32,33,38,39,40])
 (.block 2 (.loop (Zb_L0))))
 (.region [⟨some 51,.mv (.t 9),none,[]⟩,
 ⟨some 52,.mv (.t 11),none,[]⟩,
 ⟨some 53,.buildSl false 2 .leaf (.int .i64 0) 1 [(0,(.t 52))],none,[]⟩,
 ⟨some 54,.append .leaf 3 8 (.t 51) (.t 53),none,[]⟩,
 ⟨some 9,.mv (.t 54),none,[]⟩] [7,8,9,32,33])))))
 (.region [⟨some 55,.bin .add (.t 33) (.c (.int .i64 1)),none,[]⟩,
 ⟨some 33,.mv (.t 55),none,[]⟩] [7,8,9,32,33])))
def Zb_B:Cd:=
 .seq (.region [⟨some 3,.box false 0 (.t 1),none,[]⟩,
 ⟨some 4,.mv (.c (.sl .leaf [])),none,[]⟩,
 ⟨some 5,.mv (.c (.int .i64 0)),none,[]⟩] [0,3])
 (.seq (.seq (.region [⟨some 14,.mv (.t 0),none,[]⟩,
 ⟨some 15,.load (.arr 64 .leaf) (.t 3),none,[]⟩,
 ⟨some 16,.mv (.t 0),none,[]⟩,
 ⟨some 17,.bin .neq (.t 16) (.c (.int .i64 2)),none,[]⟩,
 ⟨some 18,.call .heap [] (.f Fr) [(.t 14),(.t 15),(.c (.int .i64 5)),(.t 17),(.c (.nils (.arr 64 .leaf)))],none,[]⟩,
 ⟨some 6,.mv (.t 18),none,[]⟩] [0,3,6])
 (.seq (.region [⟨some 19,.mv (.t 6),none,[]⟩,
 ⟨some 20,.bin .neq (.t 19) (.c (.int .i64 0)),none,[]⟩] [0,3,6,20])
 (.cond (.t 20)
 (.seq (.region [⟨some 21,.mv (.t 6),none,[]⟩,
 ⟨some 4,.mv (.c (.sl .leaf [])),none,[]⟩,
 ⟨some 5,.mv (.t 21),none,[]⟩] [4,5])
 (.ret))
 (.skip))))
 (.seq (.region [⟨some 22,.mv (.t 0),none,[]⟩,
 ⟨some 23,.load (.arr 64 .leaf) (.t 3),none,[]⟩,
 ⟨some 24,.call .plain [] (.f F1h) [(.t 23)],none,[]⟩,
 ⟨some 7,.mv (.t 22),none,[]⟩,
 ⟨some 8,.mv (.t 24),none,[]⟩] [7,8])
 (.seq (.seq (.region [⟨some 25,.mv (.t 7),none,[]⟩,
 ⟨some 26,.mv (.t 8),none,[]⟩,
 ⟨some 27,.call .flat [] (.f F1j) [(.t 26)],none,[]⟩,
 ⟨some 28,.bin .sub (.t 27) (.c (.int .i64 1)),none,[]⟩,
 ⟨some 29,.call .flat [] (.f F13) [(.t 25),(.t 28)],none,[]⟩,
 ⟨some 30,.un .not (.t 29),none,[]⟩] [7,8,30])
 (.cond (.t 30)
 (.seq (.region [⟨some 4,.mv (.c (.sl .leaf [])),none,[]⟩,
 ⟨some 5,.mv (.c (.int .i64 2)),none,[]⟩] [4,5])
 (.ret))
 (.skip)))
 (.seq (.region [⟨some 9,.nilOwn 1 .leaf,none,[]⟩] [7,8,9])
 (.seq (.seq (.region [⟨some 31,.mv (.t 8),none,[]⟩,
 ⟨some 32,.call .flat [] (.f F1j) [(.t 31)],none,[]⟩,
 ⟨some 33,.mv (.c (.int .i64 0)),none,[]⟩] [7,8,9,32,33])
 (.block 0 (.loop (Zb_L1))))
 (.seq (.region [⟨some 56,.mv (.t 9),none,[]⟩,
 ⟨some 4,.mv (.t 56),none,[]⟩,
 ⟨some 5,.mv (.c (.int .i64 0)),none,[]⟩] [4,5])
 (.ret)))))))
def Zb:Fn:=
 { nparams:=2,nblk:=4,results:=[.tmp 4,.tmp 5],body:=Zb_B }
def Z5_L0:Cd:=
 .seq (.region [⟨some 20,.bin .lss (.t 19) (.t 18),none,[]⟩] [7,8,17,18,19,20])
 (.seq (.cond (.t 20)
 (.skip)
 (.exit 0))
 (.seq (.block 1 (.seq (.region [⟨some 21,.idxA none .leaf (.t 17) (.t 19),none,[]⟩,
 ⟨some 22,.load .leaf (.t 21),none,[]⟩,
 ⟨some 10,.mv (.t 22),none,[]⟩] [7,8,10,17,18,19])
 (.region [⟨some 23,.mv (.t 8),none,[]⟩,
 ⟨some 24,.mv (.t 10),none,[]⟩,
 ⟨some 25,.bin .add (.t 23) (.t 24),none,[]⟩,
 ⟨some 8,.mv (.t 25),none,[]⟩] [7,8,17,18,19])))
 (.region [⟨some 26,.bin .add (.t 19) (.c (.int .i64 1)),none,[]⟩,
 ⟨some 19,.mv (.t 26),none,[]⟩] [7,8,17,18,19])))
def Z5_B:Cd:=
 .seq (.region [⟨some 3,.box false 0 (.t 1),none,[]⟩,
 ⟨some 4,.mv (.c (.int .i64 0)),none,[]⟩,
 ⟨some 5,.mv (.c (.int .i64 0)),none,[]⟩] [0,3])
 (.seq (.region [⟨some 12,.mv (.t 0),none,[]⟩,
 ⟨some 13,.load (.arr 64 .leaf) (.t 3),none,[]⟩,
 ⟨some 14,.call .plain [] (.f Fb) [(.t 12),(.t 13)],none,[]⟩,
 ⟨some 11,.mv (.t 14),none,[]⟩,
 ⟨some 15,.ext (.t 11) 0,none,[]⟩,
 ⟨some 16,.ext (.t 11) 1,none,[]⟩,
 ⟨some 6,.mv (.t 15),none,[]⟩,
 ⟨some 7,.mv (.t 16),none,[]⟩] [6,7])
 (.seq (.region [⟨some 8,.mv (.c (.int .i64 0)),none,[]⟩] [6,7,8])
 (.seq (.seq (.region [⟨some 17,.mv (.t 6),none,[]⟩,
 ⟨some 18,.len false (.t 17),none,[]⟩,
 ⟨some 19,.mv (.c (.int .i64 0)),none,[]⟩] [7,8,17,18,19])
 (.block 0 (.loop (Z5_L0))))
 (.seq (.region [⟨some 27,.mv (.t 8),none,[]⟩,
 ⟨some 28,.mv (.t 7),none,[]⟩,
 ⟨some 4,.mv (.t 27),none,[]⟩,
 ⟨some 5,.mv (.t 28),none,[]⟩] [4,5])
 (.ret)))))
def Z5:Fn:=
 { nparams:=2,nblk:=1,results:=[.tmp 4,.tmp 5],body:=Z5_B }
def Z9_B:Cd:=
 .seq (.region [⟨some 4,.box false 0 (.t 1),none,[]⟩,
 ⟨some 5,.box false 1 (.t 2),none,[]⟩,
 ⟨some 6,.mv (.c (.int .i64 0)),none,[]⟩,
 ⟨some 7,.mv (.c (.int .i64 0)),none,[]⟩] [0,4,5])
 (.seq (.seq (.region [⟨some 9,.mv (.t 0),none,[]⟩,
 ⟨some 10,.load (.arr 64 .leaf) (.t 5),none,[]⟩,
 ⟨some 11,.mv (.t 0),none,[]⟩,
 ⟨some 12,.bin .neq (.t 11) (.c (.int .i64 2)),none,[]⟩,
 ⟨some 13,.load (.arr 64 .leaf) (.t 4),none,[]⟩,
 ⟨some 14,.buildSl false 2 (.arr 64 .leaf) (.arr 64 .leaf z64) 1 [(0,(.t 13))],none,[]⟩,
 ⟨some 15,.call .heap [] (.f Fr) [(.t 9),(.t 10),(.c (.int .i64 12)),(.t 12),(.t 14)],none,[]⟩,
 ⟨some 8,.mv (.t 15),none,[]⟩] [0,4,5,8])
 (.seq (.region [⟨some 16,.mv (.t 8),none,[]⟩,
 ⟨some 17,.bin .neq (.t 16) (.c (.int .i64 0)),none,[]⟩] [0,4,5,8,17])
 (.cond (.t 17)
 (.seq (.region [⟨some 18,.mv (.t 8),none,[]⟩,
 ⟨some 6,.mv (.c (.int .i64 0)),none,[]⟩,
 ⟨some 7,.mv (.t 18),none,[]⟩] [6,7])
 (.ret))
 (.skip))))
 (.seq (.region [⟨some 19,.mv (.t 0),none,[]⟩,
 ⟨some 20,.load (.arr 64 .leaf) (.t 4),none,[]⟩,
 ⟨some 21,.call .plain [] (.f F1h) [(.t 20)],none,[]⟩,
 ⟨some 22,.load (.arr 64 .leaf) (.t 5),none,[]⟩,
 ⟨some 23,.call .plain [] (.f F1h) [(.t 22)],none,[]⟩,
 ⟨some 24,.call .flat [] (.f F18) [(.t 19),(.t 21),(.t 23)],none,[]⟩,
 ⟨some 6,.mv (.t 24),none,[]⟩,
 ⟨some 7,.mv (.c (.int .i64 0)),none,[]⟩] [6,7])
 (.ret)))
def Z9:Fn:=
 { nparams:=3,nblk:=3,results:=[.tmp 6,.tmp 7],body:=Z9_B }
def Z12_B:Cd:=
 .seq (.region [⟨some 4,.mv (.c (.bool false)),none,[]⟩] [0,1])
 (.seq (.region [⟨some 5,.mv (.t 1),none,[]⟩,
 ⟨some 6,.call .flat [] (.f F1p) [(.t 5),(.c (.int .i64 0)),(.c (.int .i64 8))],none,[]⟩,
 ⟨some 7,.mv (.t 6),none,[]⟩,
 ⟨some 8,.mv (.t 0),some (7,true),[]⟩,
 ⟨some 9,.mv (.t 1),some (7,true),[]⟩,
 ⟨some 10,.call .flat [] (.f F13) [(.t 8),(.t 9)],some (7,true),[]⟩,
 ⟨some 11,.pick (.t 7) (.t 10) (.c (.bool false)),none,[]⟩,
 ⟨some 4,.mv (.t 11),none,[]⟩] [4])
 (.ret))
def Z12:Fn:=
 { nparams:=2,nblk:=0,results:=[.tmp 4],body:=Z12_B }
def Zc_L0:Cd:=
 .seq (.region [⟨some 30,.bin .lss (.t 29) (.t 28),none,[]⟩] [0,4,9,27,28,29,30])
 (.seq (.cond (.t 30)
 (.skip)
 (.exit 0))
 (.seq (.block 1 (.seq (.region [⟨some 31,.idxA none .leaf (.t 27) (.t 29),none,[]⟩,
 ⟨some 32,.load .leaf (.t 31),none,[]⟩,
 ⟨some 11,.mv (.t 32),none,[]⟩] [0,4,9,11,27,28,29])
 (.region [⟨some 33,.mv (.t 9),none,[]⟩,
 ⟨some 34,.mv (.t 0),none,[]⟩,
 ⟨some 35,.mv (.t 11),none,[]⟩,
 ⟨some 36,.load (.arr 64 .leaf) (.t 4),none,[]⟩,
 ⟨some 37,.call .plain [] (.f F1h) [(.t 36)],none,[]⟩,
 ⟨some 38,.call .flat [] (.f F1e) [(.t 34),(.t 35),(.t 37)],none,[]⟩,
 ⟨some 39,.bin .add (.t 33) (.t 38),none,[]⟩,
 ⟨some 9,.mv (.t 39),none,[]⟩] [0,4,9,27,28,29])))
 (.region [⟨some 40,.bin .add (.t 29) (.c (.int .i64 1)),none,[]⟩,
 ⟨some 29,.mv (.t 40),none,[]⟩] [0,4,9,27,28,29])))
def Zc_B:Cd:=
 .seq (.region [⟨some 4,.box false 0 (.t 1),none,[]⟩,
 ⟨some 6,.mv (.c (.int .i64 0)),none,[]⟩,
 ⟨some 7,.mv (.c (.int .i64 0)),none,[]⟩] [0,2,4])
 (.seq (.seq (.region [⟨some 12,.mv (.t 0),none,[]⟩,
 ⟨some 13,.load (.arr 64 .leaf) (.t 4),none,[]⟩,
 ⟨some 14,.mv (.t 0),none,[]⟩,
 ⟨some 15,.call .flat [] (.f Fo) [(.t 14)],none,[]⟩,
 ⟨some 16,.mv (.t 15),none,[]⟩,
 ⟨some 17,.mv (.t 0),some (16,true),[]⟩,
 ⟨some 18,.mv (.t 2),some (16,true),[]⟩,
 ⟨some 19,.call .flat [] (.f F12) [(.t 17),(.t 18)],some (16,true),[]⟩,
 ⟨some 20,.pick (.t 16) (.t 19) (.c (.bool false)),none,[]⟩,
 ⟨some 21,.call .heap [] (.f Fr) [(.t 12),(.t 13),(.c (.int .i64 5)),(.t 20),(.c (.nils (.arr 64 .leaf)))],none,[]⟩,
 ⟨some 8,.mv (.t 21),none,[]⟩] [0,2,4,8])
 (.seq (.region [⟨some 22,.mv (.t 8),none,[]⟩,
 ⟨some 23,.bin .neq (.t 22) (.c (.int .i64 0)),none,[]⟩] [0,2,4,8,23])
 (.cond (.t 23)
 (.seq (.region [⟨some 24,.mv (.t 8),none,[]⟩,
 ⟨some 6,.mv (.c (.int .i64 0)),none,[]⟩,
 ⟨some 7,.mv (.t 24),none,[]⟩] [6,7])
 (.ret))
 (.skip))))
 (.seq (.region [⟨some 9,.mv (.c (.int .i64 0)),none,[]⟩] [0,2,4,9])
 (.seq (.seq (.region [⟨some 25,.mv (.t 0),none,[]⟩,
 ⟨some 26,.mv (.t 2),none,[]⟩,
 ⟨some 27,.call .plain [] (.f F14) [(.t 25),(.t 26)],none,[]⟩,
 ⟨some 28,.len false (.t 27),none,[]⟩,
 ⟨some 29,.mv (.c (.int .i64 0)),none,[]⟩] [0,4,9,27,28,29])
 (.block 0 (.loop (Zc_L0))))
 (.seq (.region [⟨some 41,.mv (.t 9),none,[]⟩,
 ⟨some 42,.mv (.t 0),none,[]⟩,
 ⟨some 43,.bin .rem (.t 41) (.t 42),none,[]⟩,
 ⟨some 6,.mv (.t 43),none,[]⟩,
 ⟨some 7,.mv (.c (.int .i64 0)),none,[]⟩] [6,7])
 (.ret)))))
def Zc:Fn:=
 { nparams:=3,nblk:=1,results:=[.tmp 6,.tmp 7],body:=Zc_B }
def Zk_B:Cd:=
 .seq (.region [⟨some 2,.mv (.c (.bool false)),none,[]⟩] [0])
 (.seq (.region [⟨some 3,.mv (.t 0),none,[]⟩,
 ⟨some 4,.call .flat [] (.f F1p) [(.t 3),(.c (.int .i64 0)),(.c (.int .i64 40))],none,[]⟩,
 ⟨some 2,.mv (.t 4),none,[]⟩] [2])
 (.ret))
def Zk:Fn:=
 { nparams:=1,nblk:=0,results:=[.tmp 2],body:=Zk_B }
def Z19_L0:Cd:=
 .seq (.region [⟨some 11,.bin .lss (.t 10) (.t 9),none,[]⟩] [0,1,7,9,10,11])
 (.seq (.cond (.t 11)
 (.skip)
 (.exit 0))
 (.seq (.block 1 (.region [⟨some 12,.mv (.t 0),none,[]⟩,
 ⟨some 13,.mv (.t 7),none,[]⟩,
 ⟨some 14,.mv (.t 1),none,[]⟩,
 ⟨some 15,.call .data [] (.f F1f) [(.t 12),(.t 13),(.t 14)],none,[]⟩,
 ⟨some 7,.mv (.t 15),none,[]⟩] [0,1,7,9,10]))
 (.region [⟨some 16,.bin .add (.t 10) (.c (.int .i64 1)),none,[]⟩,
 ⟨some 10,.mv (.t 16),none,[]⟩] [0,1,7,9,10])))
def Z19_B:Cd:=
 .seq (.region [⟨some 6,.mv (.c (.sl .leaf [])),none,[]⟩] [0,1,2])
 (.seq (.region [⟨some 8,.buildSl false 0 .leaf (.int .i64 0) 1 [(0,(.c (.int .i64 1)))],none,[]⟩,
 ⟨some 7,.mv (.t 8),none,[]⟩] [0,1,2,7])
 (.seq (.seq (.region [⟨some 9,.mv (.t 2),none,[]⟩,
 ⟨some 10,.mv (.c (.int .i64 0)),none,[]⟩] [0,1,7,9,10])
 (.block 0 (.loop (Z19_L0))))
 (.seq (.region [⟨some 17,.mv (.t 7),none,[]⟩,
 ⟨some 6,.mv (.t 17),none,[]⟩] [6])
 (.ret))))
def Z19:Fn:=
 { nparams:=3,nblk:=1,results:=[.tmp 6],body:=Z19_B }
def Za_L0:Cd:=
 .seq (.region [⟨some 50,.bin .lss (.t 49) (.t 48),none,[]⟩] [3,8,11,12,13,47,48,49,50])
 (.seq (.cond (.t 50)
 (.skip)
 (.exit 0))
 (.seq (.block 1 (.seq (.region [⟨some 51,.idxA none .leaf (.t 47) (.t 49),none,[]⟩,
 ⟨some 52,.load .leaf (.t 51),none,[]⟩,
 ⟨some 15,.mv (.t 52),none,[]⟩] [3,8,11,12,13,15,47,48,49])
 (.region [⟨some 53,.mv (.t 11),none,[]⟩,
 ⟨some 54,.mv (.t 13),none,[]⟩,
 ⟨some 55,.mv (.t 11),none,[]⟩,
 ⟨some 56,.mv (.t 11),none,[]⟩,
 ⟨some 57,.mv (.t 11),none,[]⟩,
 ⟨some 58,.mv (.t 15),none,[]⟩,
 ⟨some 59,.mv (.t 12),none,[]⟩,
 ⟨some 60,.call .plain [] (.f F1f) [(.t 57),(.t 58),(.t 59)],none,[]⟩,
 ⟨some 61,.buildSl false 2 .leaf (.int .i64 0) 1 [(0,(.c (.int .i64 1)))],none,[]⟩,
 ⟨some 62,.call .data [] (.f Fv) [(.t 56),(.t 60),(.t 61),(.c (.int .i64 1))],none,[]⟩,
 ⟨some 63,.mv (.t 3),none,[]⟩,
 ⟨some 64,.call .plain [] (.f F19) [(.t 55),(.t 62),(.t 63)],none,[]⟩,
 ⟨some 65,.call .plain [] (.f Fv) [(.t 53),(.t 54),(.t 64),(.c (.int .i64 1))],none,[]⟩,
 ⟨some 13,.mv (.t 65),none,[]⟩] [3,8,11,12,13,47,48,49])))
 (.region [⟨some 66,.bin .add (.t 49) (.c (.int .i64 1)),none,[]⟩,
 ⟨some 49,.mv (.t 66),none,[]⟩] [3,8,11,12,13,47,48,49])))
def Za_B:Cd:=
 .seq (.region [⟨some 5,.box false 0 (.t 1),none,[]⟩,
 ⟨some 8,.box false 1 (.c (.arr 64 .leaf z64)),none,[]⟩,
 ⟨some 9,.mv (.c (.int .i64 0)),none,[]⟩] [0,2,3,5,8])
 (.seq (.seq (.region [⟨some 16,.mv (.t 0),none,[]⟩,
 ⟨some 17,.load (.arr 64 .leaf) (.t 5),none,[]⟩,
 ⟨some 18,.mv (.t 3),none,[]⟩,
 ⟨some 19,.call .flat [] (.f Fk) [(.t 18)],none,[]⟩,
 ⟨some 20,.mv (.t 19),none,[]⟩,
 ⟨some 21,.mv (.t 0),some (20,true),[]⟩,
 ⟨some 22,.call .flat [] (.f Fo) [(.t 21)],some (20,true),[]⟩,
 ⟨some 23,.pick (.t 20) (.t 22) (.c (.bool false)),none,[]⟩,
 ⟨some 24,.mv (.t 23),none,[]⟩,
 ⟨some 25,.mv (.t 0),some (24,true),[]⟩,
 ⟨some 26,.mv (.t 2),some (24,true),[]⟩,
 ⟨some 27,.call .flat [] (.f F12) [(.t 25),(.t 26)],some (24,true),[]⟩,
 ⟨some 28,.pick (.t 24) (.t 27) (.c (.bool false)),none,[]⟩,
 ⟨some 29,.call .heap [] (.f Fr) [(.t 16),(.t 17),(.c (.int .i64 5)),(.t 28),(.c (.nils (.arr 64 .leaf)))],none,[]⟩,
 ⟨some 10,.mv (.t 29),none,[]⟩] [0,2,3,5,8,10])
 (.seq (.region [⟨some 30,.mv (.t 10),none,[]⟩,
 ⟨some 31,.bin .neq (.t 30) (.c (.int .i64 0)),none,[]⟩] [0,2,3,5,8,10,31])
 (.cond (.t 31)
 (.seq (.region [⟨some 32,.build false (.arr 64 .leaf z64) [],none,[]⟩,
 ⟨some 33,.mv (.t 10),none,[]⟩,
 ⟨none,.store false (.arr 64 .leaf) (.t 8) (.t 32),none,[]⟩,
 ⟨some 9,.mv (.t 33),none,[]⟩] [8,9])
 (.ret))
 (.skip))))
 (.seq (.region [⟨some 34,.mv (.t 0),none,[]⟩,
 ⟨some 35,.load (.arr 64 .leaf) (.t 5),none,[]⟩,
 ⟨some 36,.call .plain [] (.f F1h) [(.t 35)],none,[]⟩,
 ⟨some 11,.mv (.t 34),none,[]⟩,
 ⟨some 12,.mv (.t 36),none,[]⟩] [2,3,8,11,12])
 (.seq (.seq (.region [⟨some 37,.mv (.t 2),none,[]⟩,
 ⟨some 38,.mv (.t 12),none,[]⟩,
 ⟨some 39,.call .flat [] (.f F1j) [(.t 38)],none,[]⟩,
 ⟨some 40,.bin .add (.t 37) (.t 39),none,[]⟩,
 ⟨some 41,.mv (.t 3),none,[]⟩,
 ⟨some 42,.bin .mul (.t 40) (.t 41),none,[]⟩,
 ⟨some 43,.bin .gtr (.t 42) (.c (.int .i64 63)),none,[]⟩] [2,3,8,11,12,43])
 (.cond (.t 43)
 (.seq (.region [⟨some 44,.build false (.arr 64 .leaf z64) [],none,[]⟩,
 ⟨none,.store false (.arr 64 .leaf) (.t 8) (.t 44),none,[]⟩,
 ⟨some 9,.mv (.c (.int .i64 3)),none,[]⟩] [8,9])
 (.ret))
 (.skip)))
 (.seq (.region [⟨some 13,.mv (.c (.sl .leaf [])),none,[]⟩] [2,3,8,11,12,13])
 (.seq (.seq (.region [⟨some 45,.mv (.t 11),none,[]⟩,
 ⟨some 46,.mv (.t 2),none,[]⟩,
 ⟨some 47,.call .plain [] (.f F14) [(.t 45),(.t 46)],none,[]⟩,
 ⟨some 48,.len false (.t 47),none,[]⟩,
 ⟨some 49,.mv (.c (.int .i64 0)),none,[]⟩] [3,8,11,12,13,47,48,49])
 (.block 0 (.loop (Za_L0))))
 (.seq (.region [⟨some 67,.mv (.t 13),none,[]⟩,
 ⟨some 68,.call .flat [] (.f F1o) [(.t 67)],none,[]⟩,
 ⟨some 69,.ext (.t 68) 0,none,[]⟩,
 ⟨some 70,.ext (.t 68) 1,none,[]⟩,
 ⟨none,.store false (.arr 64 .leaf) (.t 8) (.t 69),none,[]⟩,
 ⟨some 9,.mv (.t 70),none,[]⟩] [8,9])
 (.ret)))))))
def Za:Fn:=
 { nparams:=4,nblk:=3,results:=[.cell 8 (.arr 64 .leaf),.tmp 9],body:=Za_B }
end Pe

/-
 Functions of the program in the small form,printed by a program.
-/
namespace Pe
open Go
def Z2w_L0:Cd:=
 .seq (.seq (.region [⟨some 4,.mv (.t 3),none,[]⟩,
 ⟨some 5,.bin .geq (.t 4) (.c (.int .i64 0)),none,[]⟩,
 ⟨some 6,.mv (.t 5),none,[]⟩,
 ⟨some 7,.mv (.t 3),some (6,true),[]⟩,
 ⟨some 8,.idxA (some 64) .leaf (.t 1) (.t 7),some (6,true),[]⟩,
 ⟨some 9,.load .leaf (.t 8),some (6,true),[]⟩,
 ⟨some 10,.bin .eql (.t 9) (.c (.int .u8 0)),some (6,true),[]⟩,
 ⟨some 11,.pick (.t 6) (.t 10) (.c (.bool false)),none,[]⟩] [1,3,11])
 (.cond (.t 11)
 (.skip)
 (.exit 0)))
 (.block 1 (.region [⟨some 12,.mv (.t 3),none,[]⟩,
 ⟨some 13,.bin .sub (.t 12) (.c (.int .i64 1)),none,[]⟩,
 ⟨some 3,.mv (.t 13),none,[]⟩] [1,3]))
def Z2w_B:Cd:=
 .seq (.region [⟨some 1,.box false 0 (.t 0),none,[]⟩,
 ⟨some 2,.mv (.c (.int .i64 0)),none,[]⟩] [1])
 (.seq (.region [⟨some 3,.mv (.c (.int .i64 63)),none,[]⟩] [1,3])
 (.seq (.block 0 (.loop (Z2w_L0)))
 (.seq (.region [⟨some 14,.mv (.t 3),none,[]⟩,
 ⟨some 2,.mv (.t 14),none,[]⟩] [2])
 (.ret))))
def Z2w:Fn:=
 { nparams:=1,nblk:=1,results:=[.tmp 2],body:=Z2w_B }
def Z32_B:Cd:=
 .seq (.region [⟨some 6,.mv (.c (.bool false)),none,[]⟩] [0,1,2])
 (.seq (.region [⟨some 7,.mv (.t 0),none,[]⟩,
 ⟨some 8,.mv (.t 1),none,[]⟩,
 ⟨some 9,.bin .geq (.t 7) (.t 8),none,[]⟩,
 ⟨some 10,.mv (.t 9),none,[]⟩,
 ⟨some 11,.mv (.t 0),some (10,true),[]⟩,
 ⟨some 12,.mv (.t 2),some (10,true),[]⟩,
 ⟨some 13,.bin .leq (.t 11) (.t 12),some (10,true),[]⟩,
 ⟨some 14,.pick (.t 10) (.t 13) (.c (.bool false)),none,[]⟩,
 ⟨some 6,.mv (.t 14),none,[]⟩] [6])
 (.ret))
def Z32:Fn:=
 { nparams:=3,nblk:=0,results:=[.tmp 6],body:=Z32_B }
def Z3f_B:Cd:=
 .seq (.region [⟨some 2,.mv (.c (.bool false)),none,[]⟩] [0])
 (.seq (.region [⟨some 3,.mv (.t 0),none,[]⟩,
 ⟨some 4,.bin .eql (.t 3) (.c (.int .i64 2)),none,[]⟩,
 ⟨some 5,.mv (.t 4),none,[]⟩,
 ⟨some 6,.mv (.t 0),some (5,false),[]⟩,
 ⟨some 7,.bin .eql (.t 6) (.c (.int .i64 3)),some (5,false),[]⟩,
 ⟨some 8,.pick (.t 5) (.c (.bool true)) (.t 7),none,[]⟩,
 ⟨some 9,.mv (.t 8),none,[]⟩,
 ⟨some 10,.mv (.t 0),some (9,false),[]⟩,
 ⟨some 11,.bin .eql (.t 10) (.c (.int .i64 5)),some (9,false),[]⟩,
 ⟨some 12,.pick (.t 9) (.c (.bool true)) (.t 11),none,[]⟩,
 ⟨some 13,.mv (.t 12),none,[]⟩,
 ⟨some 14,.mv (.t 0),some (13,false),[]⟩,
 ⟨some 15,.bin .eql (.t 14) (.c (.int .i64 7)),some (13,false),[]⟩,
 ⟨some 16,.pick (.t 13) (.c (.bool true)) (.t 15),none,[]⟩,
 ⟨some 2,.mv (.t 16),none,[]⟩] [2])
 (.ret))
def Z3f:Fn:=
 { nparams:=1,nblk:=0,results:=[.tmp 2],body:=Z3f_B }
def Z35_L0:Cd:=
 .seq (.seq (.region [⟨some 6,.mv (.t 5),none,[]⟩,
 ⟨some 7,.bin .lss (.t 6) (.c (.int .i64 64)),none,[]⟩] [0,3,5,7])
 (.cond (.t 7)
 (.skip)
 (.exit 0)))
 (.seq (.block 1 (.seq (.region [⟨some 10,.mv (.t 5),none,[]⟩,
 ⟨some 11,.idxA (some 64) .leaf (.t 3) (.t 10),none,[]⟩,
 ⟨some 12,.load .leaf (.t 11),none,[]⟩,
 ⟨some 13,.conv .i64 (.t 12),none,[]⟩,
 ⟨some 14,.mv (.t 0),none,[]⟩,
 ⟨some 15,.bin .geq (.t 13) (.t 14),none,[]⟩] [0,3,5,15])
 (.cond (.t 15)
 (.seq (.region [⟨some 4,.mv (.c (.bool false)),none,[]⟩] [4])
 (.ret))
 (.skip))))
 (.region [⟨some 8,.mv (.t 5),none,[]⟩,
 ⟨some 9,.bin .add (.t 8) (.c (.int .i64 1)),none,[]⟩,
 ⟨some 5,.mv (.t 9),none,[]⟩] [0,3,5]))
def Z35_B:Cd:=
 .seq (.region [⟨some 3,.box false 0 (.t 1),none,[]⟩,
 ⟨some 4,.mv (.c (.bool false)),none,[]⟩] [0,3])
 (.seq (.seq (.region [⟨some 5,.mv (.c (.int .i64 0)),none,[]⟩] [0,3,5])
 (.block 0 (.loop (Z35_L0))))
 (.seq (.region [⟨some 16,.mv (.t 0),none,[]⟩,
 ⟨some 17,.call .flat [] (.f F3f) [(.t 16)],none,[]⟩,
 ⟨some 4,.mv (.t 17),none,[]⟩] [4])
 (.ret)))
def Z35:Fn:=
 { nparams:=2,nblk:=1,results:=[.tmp 4],body:=Z35_B }
def Z2u_L0:Cd:=
 .seq (.seq (.region [⟨some 9,.mv (.t 5),none,[]⟩,
 ⟨some 10,.mv (.t 1),none,[]⟩,
 ⟨some 11,.len false (.t 10),none,[]⟩,
 ⟨some 12,.bin .lss (.t 9) (.t 11),none,[]⟩] [0,1,5,12])
 (.cond (.t 12)
 (.skip)
 (.exit 0)))
 (.seq (.block 1 (.seq (.region [⟨some 15,.mv (.t 0),none,[]⟩,
 ⟨some 16,.mv (.t 1),none,[]⟩,
 ⟨some 17,.mv (.t 5),none,[]⟩,
 ⟨some 18,.idxA none (.arr 64 .leaf) (.t 16) (.t 17),none,[]⟩,
 ⟨some 19,.load (.arr 64 .leaf) (.t 18),none,[]⟩,
 ⟨some 20,.call .flat [] (.f F35) [(.t 15),(.t 19)],none,[]⟩,
 ⟨some 21,.un .not (.t 20),none,[]⟩] [0,1,5,21])
 (.cond (.t 21)
 (.seq (.region [⟨some 4,.mv (.c (.int .i64 1)),none,[]⟩] [4])
 (.ret))
 (.skip))))
 (.region [⟨some 13,.mv (.t 5),none,[]⟩,
 ⟨some 14,.bin .add (.t 13) (.c (.int .i64 1)),none,[]⟩,
 ⟨some 5,.mv (.t 14),none,[]⟩] [0,1,5]))
def Z2u_B:Cd:=
 .seq (.region [⟨some 4,.mv (.c (.int .i64 0)),none,[]⟩] [0,1])
 (.seq (.seq (.region [⟨some 6,.mv (.t 0),none,[]⟩,
 ⟨some 7,.call .flat [] (.f F3f) [(.t 6)],none,[]⟩,
 ⟨some 8,.un .not (.t 7),none,[]⟩] [0,1,8])
 (.cond (.t 8)
 (.seq (.region [⟨some 4,.mv (.c (.int .i64 1)),none,[]⟩] [4])
 (.ret))
 (.skip)))
 (.seq (.seq (.region [⟨some 5,.mv (.c (.int .i64 0)),none,[]⟩] [0,1,5])
 (.block 0 (.loop (Z2u_L0))))
 (.seq (.region [⟨some 4,.mv (.c (.int .i64 0)),none,[]⟩] [4])
 (.ret))))
def Z2u:Fn:=
 { nparams:=2,nblk:=0,results:=[.tmp 4],body:=Z2u_B }
def Z37_B:Cd:=
 .seq (.region [⟨some 1,.box false 0 (.t 0),none,[]⟩,
 ⟨some 2,.mv (.c (.bool false)),none,[]⟩] [1])
 (.seq (.region [⟨some 4,.load (.arr 64 .leaf) (.t 1),none,[]⟩,
 ⟨some 5,.call .flat [] (.f F2w) [(.t 4)],none,[]⟩,
 ⟨some 3,.mv (.t 5),none,[]⟩] [1,3])
 (.seq (.region [⟨some 6,.mv (.t 3),none,[]⟩,
 ⟨some 7,.bin .geq (.t 6) (.c (.int .i64 0)),none,[]⟩,
 ⟨some 8,.mv (.t 7),none,[]⟩,
 ⟨some 9,.mv (.t 3),some (8,true),[]⟩,
 ⟨some 10,.idxA (some 64) .leaf (.t 1) (.t 9),some (8,true),[]⟩,
 ⟨some 11,.load .leaf (.t 10),some (8,true),[]⟩,
 ⟨some 12,.bin .eql (.t 11) (.c (.int .u8 1)),some (8,true),[]⟩,
 ⟨some 13,.pick (.t 8) (.t 12) (.c (.bool false)),none,[]⟩,
 ⟨some 2,.mv (.t 13),none,[]⟩] [2])
 (.ret)))
def Z37:Fn:=
 { nparams:=1,nblk:=1,results:=[.tmp 2],body:=Z37_B }
def Z2v_L0:Cd:=
 .seq (.seq (.region [⟨some 6,.mv (.t 1),none,[]⟩,
 ⟨some 7,.bin .gtr (.t 6) (.c (.int .i64 0)),none,[]⟩,
 ⟨some 8,.mv (.t 7),none,[]⟩,
 ⟨some 9,.mv (.t 5),some (8,true),[]⟩,
 ⟨some 10,.bin .leq (.t 9) (.c (.int .i64 1000000000000)),some (8,true),[]⟩,
 ⟨some 11,.pick (.t 8) (.t 10) (.c (.bool false)),none,[]⟩] [0,1,5,11])
 (.cond (.t 11)
 (.skip)
 (.exit 0)))
 (.seq (.block 1 (.region [⟨some 14,.mv (.t 5),none,[]⟩,
 ⟨some 15,.mv (.t 0),none,[]⟩,
 ⟨some 16,.bin .mul (.t 14) (.t 15),none,[]⟩,
 ⟨some 5,.mv (.t 16),none,[]⟩] [0,1,5]))
 (.region [⟨some 12,.mv (.t 1),none,[]⟩,
 ⟨some 13,.bin .sub (.t 12) (.c (.int .i64 1)),none,[]⟩,
 ⟨some 1,.mv (.t 13),none,[]⟩] [0,1,5]))
def Z2v_B:Cd:=
 .seq (.region [⟨some 4,.mv (.c (.int .i64 0)),none,[]⟩] [0,1])
 (.seq (.region [⟨some 5,.mv (.c (.int .i64 1)),none,[]⟩] [0,1,5])
 (.seq (.block 0 (.loop (Z2v_L0)))
 (.seq (.region [⟨some 17,.mv (.t 5),none,[]⟩,
 ⟨some 18,.minI (.t 17) (.c (.int .i64 1000000000001)),none,[]⟩,
 ⟨some 4,.mv (.t 18),none,[]⟩] [4])
 (.ret))))
def Z2v:Fn:=
 { nparams:=2,nblk:=0,results:=[.tmp 4],body:=Z2v_B }
def Z33_L0:Cd:=
 .seq (.seq (.region [⟨some 6,.mv (.t 5),none,[]⟩,
 ⟨some 7,.mv (.t 0),none,[]⟩,
 ⟨some 8,.bin .lss (.t 6) (.t 7),none,[]⟩] [0,1,5,8])
 (.cond (.t 8)
 (.skip)
 (.exit 0)))
 (.seq (.block 1 (.seq (.region [⟨some 11,.mv (.t 5),none,[]⟩,
 ⟨some 12,.mv (.t 1),none,[]⟩,
 ⟨some 13,.conv .i64 (.t 12),none,[]⟩,
 ⟨some 14,.bin .mul (.t 11) (.t 13),none,[]⟩,
 ⟨some 15,.mv (.t 0),none,[]⟩,
 ⟨some 16,.bin .rem (.t 14) (.t 15),none,[]⟩,
 ⟨some 17,.bin .eql (.t 16) (.c (.int .i64 1)),none,[]⟩] [0,1,5,17])
 (.cond (.t 17)
 (.seq (.region [⟨some 18,.mv (.t 5),none,[]⟩,
 ⟨some 19,.conv .u8 (.t 18),none,[]⟩,
 ⟨some 4,.mv (.t 19),none,[]⟩] [4])
 (.ret))
 (.skip))))
 (.region [⟨some 9,.mv (.t 5),none,[]⟩,
 ⟨some 10,.bin .add (.t 9) (.c (.int .i64 1)),none,[]⟩,
 ⟨some 5,.mv (.t 10),none,[]⟩] [0,1,5]))
def Z33_B:Cd:=
 .seq (.region [⟨some 4,.mv (.c (.int .u8 0)),none,[]⟩] [0,1])
 (.seq (.seq (.region [⟨some 5,.mv (.c (.int .i64 1)),none,[]⟩] [0,1,5])
 (.block 0 (.loop (Z33_L0))))
 (.seq (.region [⟨some 4,.mv (.c (.int .u8 0)),none,[]⟩] [4])
 (.ret)))
def Z33:Fn:=
 { nparams:=2,nblk:=0,results:=[.tmp 4],body:=Z33_B }
def Z2x_L0:Cd:=
 .seq (.seq (.region [⟨some 44,.mv (.t 13),none,[]⟩,
 ⟨some 45,.mv (.t 9),none,[]⟩,
 ⟨some 46,.bin .leq (.t 44) (.t 45),none,[]⟩,
 ⟨some 47,.mv (.t 46),none,[]⟩,
 ⟨some 48,.mv (.t 12),some (47,true),[]⟩,
 ⟨some 49,.bin .neq (.t 48) (.c (.int .i64 0)),some (47,true),[]⟩,
 ⟨some 50,.pick (.t 47) (.t 49) (.c (.bool false)),none,[]⟩] [0,4,5,6,7,8,9,10,11,12,13,50])
 (.cond (.t 50)
 (.skip)
 (.exit 2)))
 (.seq (.block 3 (.region [⟨some 53,.mv (.t 11),none,[]⟩,
 ⟨some 54,.mv (.t 9),none,[]⟩,
 ⟨some 55,.bin .sub (.t 53) (.t 54),none,[]⟩,
 ⟨some 56,.mv (.t 13),none,[]⟩,
 ⟨some 57,.bin .add (.t 55) (.t 56),none,[]⟩,
 ⟨some 58,.mv (.t 11),none,[]⟩,
 ⟨some 59,.mv (.t 9),none,[]⟩,
 ⟨some 60,.bin .sub (.t 58) (.t 59),none,[]⟩,
 ⟨some 61,.mv (.t 13),none,[]⟩,
 ⟨some 62,.bin .add (.t 60) (.t 61),none,[]⟩,
 ⟨some 63,.idxA (some 64) .leaf (.t 4) (.t 62),none,[]⟩,
 ⟨some 64,.load .leaf (.t 63),none,[]⟩,
 ⟨some 65,.conv .i64 (.t 64),none,[]⟩,
 ⟨some 66,.mv (.t 12),none,[]⟩,
 ⟨some 67,.mv (.t 13),none,[]⟩,
 ⟨some 68,.idxA (some 64) .leaf (.t 5) (.t 67),none,[]⟩,
 ⟨some 69,.load .leaf (.t 68),none,[]⟩,
 ⟨some 70,.conv .i64 (.t 69),none,[]⟩,
 ⟨some 71,.bin .mul (.t 66) (.t 70),none,[]⟩,
 ⟨some 72,.bin .sub (.t 65) (.t 71),none,[]⟩,
 ⟨some 73,.mv (.t 0),none,[]⟩,
 ⟨some 74,.bin .rem (.t 72) (.t 73),none,[]⟩,
 ⟨some 75,.mv (.t 0),none,[]⟩,
 ⟨some 76,.bin .add (.t 74) (.t 75),none,[]⟩,
 ⟨some 77,.mv (.t 0),none,[]⟩,
 ⟨some 78,.bin .rem (.t 76) (.t 77),none,[]⟩,
 ⟨some 79,.conv .u8 (.t 78),none,[]⟩,
 ⟨some 80,.idxA (some 64) .leaf (.t 4) (.t 57),none,[]⟩,
 ⟨none,.store false .leaf (.t 80) (.t 79),none,[]⟩] [0,4,5,6,7,8,9,10,11,12,13]))
 (.region [⟨some 51,.mv (.t 13),none,[]⟩,
 ⟨some 52,.bin .add (.t 51) (.c (.int .i64 1)),none,[]⟩,
 ⟨some 13,.mv (.t 52),none,[]⟩] [0,4,5,6,7,8,9,10,11,12,13]))
def Z2x_L1:Cd:=
 .seq (.seq (.region [⟨some 25,.mv (.t 11),none,[]⟩,
 ⟨some 26,.mv (.t 9),none,[]⟩,
 ⟨some 27,.bin .geq (.t 25) (.t 26),none,[]⟩] [0,4,5,6,7,8,9,10,11,27])
 (.cond (.t 27)
 (.skip)
 (.exit 0)))
 (.seq (.block 1 (.seq (.region [⟨some 30,.mv (.t 11),none,[]⟩,
 ⟨some 31,.idxA (some 64) .leaf (.t 4) (.t 30),none,[]⟩,
 ⟨some 32,.load .leaf (.t 31),none,[]⟩,
 ⟨some 33,.conv .i64 (.t 32),none,[]⟩,
 ⟨some 34,.mv (.t 10),none,[]⟩,
 ⟨some 35,.bin .mul (.t 33) (.t 34),none,[]⟩,
 ⟨some 36,.mv (.t 0),none,[]⟩,
 ⟨some 37,.bin .rem (.t 35) (.t 36),none,[]⟩,
 ⟨some 12,.mv (.t 37),none,[]⟩] [0,4,5,6,7,8,9,10,11,12])
 (.seq (.region [⟨some 38,.mv (.t 11),none,[]⟩,
 ⟨some 39,.mv (.t 9),none,[]⟩,
 ⟨some 40,.bin .sub (.t 38) (.t 39),none,[]⟩,
 ⟨some 41,.mv (.t 12),none,[]⟩,
 ⟨some 42,.conv .u8 (.t 41),none,[]⟩,
 ⟨some 43,.idxA (some 64) .leaf (.t 8) (.t 40),none,[]⟩,
 ⟨none,.store false .leaf (.t 43) (.t 42),none,[]⟩] [0,4,5,6,7,8,9,10,11,12])
 (.seq (.region [⟨some 13,.mv (.c (.int .i64 0)),none,[]⟩] [0,4,5,6,7,8,9,10,11,12,13])
 (.block 2 (.loop (Z2x_L0)))))))
 (.region [⟨some 28,.mv (.t 11),none,[]⟩,
 ⟨some 29,.bin .sub (.t 28) (.c (.int .i64 1)),none,[]⟩,
 ⟨some 11,.mv (.t 29),none,[]⟩] [0,4,5,6,7,8,9,10,11]))
def Z2x_B:Cd:=
 .seq (.region [⟨some 4,.box false 0 (.t 1),none,[]⟩,
 ⟨some 5,.box false 1 (.t 2),none,[]⟩,
 ⟨some 6,.box false 2 (.c (.arr 64 .leaf z64)),none,[]⟩,
 ⟨some 7,.box false 3 (.c (.arr 64 .leaf z64)),none,[]⟩] [0,4,5,6,7])
 (.seq (.region [⟨some 14,.build false (.arr 64 .leaf z64) [],none,[]⟩,
 ⟨some 15,.load (.arr 64 .leaf) (.t 5),none,[]⟩,
 ⟨some 16,.call .flat [] (.f F2w) [(.t 15)],none,[]⟩,
 ⟨some 8,.box false 4 (.c (.arr 64 .leaf z64)),none,[]⟩,
 ⟨none,.store false (.arr 64 .leaf) (.t 8) (.t 14),none,[]⟩,
 ⟨some 9,.mv (.t 16),none,[]⟩] [0,4,5,6,7,8,9])
 (.seq (.region [⟨some 17,.mv (.t 0),none,[]⟩,
 ⟨some 18,.mv (.t 9),none,[]⟩,
 ⟨some 19,.idxA (some 64) .leaf (.t 5) (.t 18),none,[]⟩,
 ⟨some 20,.load .leaf (.t 19),none,[]⟩,
 ⟨some 21,.call .flat [] (.f F33) [(.t 17),(.t 20)],none,[]⟩,
 ⟨some 22,.conv .i64 (.t 21),none,[]⟩,
 ⟨some 10,.mv (.t 22),none,[]⟩] [0,4,5,6,7,8,9,10])
 (.seq (.seq (.region [⟨some 23,.load (.arr 64 .leaf) (.t 4),none,[]⟩,
 ⟨some 24,.call .flat [] (.f F2w) [(.t 23)],none,[]⟩,
 ⟨some 11,.mv (.t 24),none,[]⟩] [0,4,5,6,7,8,9,10,11])
 (.block 0 (.loop (Z2x_L1))))
 (.seq (.region [⟨some 81,.load (.arr 64 .leaf) (.t 8),none,[]⟩,
 ⟨some 82,.load (.arr 64 .leaf) (.t 4),none,[]⟩,
 ⟨none,.store false (.arr 64 .leaf) (.t 6) (.t 81),none,[4]⟩,
 ⟨none,.store false (.arr 64 .leaf) (.t 7) (.t 82),none,[]⟩] [6,7])
 (.ret)))))
def Z2x:Fn:=
 { nparams:=3,nblk:=5,results:=[.cell 6 (.arr 64 .leaf),.cell 7 (.arr 64 .leaf)],body:=Z2x_B }
def Z36_B:Cd:=
 .seq (.region [⟨some 4,.box false 0 (.t 1),none,[]⟩,
 ⟨some 5,.box false 1 (.t 2),none,[]⟩,
 ⟨some 6,.box false 2 (.c (.arr 64 .leaf z64)),none,[]⟩] [0,4,5,6])
 (.seq (.region [⟨some 10,.mv (.t 0),none,[]⟩,
 ⟨some 11,.load (.arr 64 .leaf) (.t 4),none,[]⟩,
 ⟨some 12,.load (.arr 64 .leaf) (.t 5),none,[]⟩,
 ⟨some 13,.call .flat [] (.f F2x) [(.t 10),(.t 11),(.t 12)],none,[]⟩,
 ⟨some 9,.mv (.t 13),none,[]⟩,
 ⟨some 14,.ext (.t 9) 0,none,[]⟩,
 ⟨some 15,.ext (.t 9) 1,none,[]⟩,
 ⟨some 7,.box false 3 (.c (.arr 64 .leaf z64)),none,[]⟩,
 ⟨some 8,.box false 4 (.c (.arr 64 .leaf z64)),none,[]⟩,
 ⟨none,.store false (.arr 64 .leaf) (.t 7) (.t 14),none,[]⟩,
 ⟨none,.store false (.arr 64 .leaf) (.t 8) (.t 15),none,[]⟩] [6,8])
 (.seq (.region [⟨some 16,.load (.arr 64 .leaf) (.t 8),none,[]⟩,
 ⟨none,.store false (.arr 64 .leaf) (.t 6) (.t 16),none,[]⟩] [6])
 (.ret)))
def Z36:Fn:=
 { nparams:=3,nblk:=5,results:=[.cell 6 (.arr 64 .leaf)],body:=Z36_B }
def Z3c_B:Cd:=
 .seq (.region [⟨some 0,.box false 0 (.c (.arr 64 .leaf z64)),none,[]⟩] [0])
 (.seq (.region [⟨some 1,.build false (.arr 64 .leaf z64) [(0,(.c (.int .u8 1)))],none,[]⟩,
 ⟨none,.store false (.arr 64 .leaf) (.t 0) (.t 1),none,[]⟩] [0])
 (.ret))
def Z3c:Fn:=
 { nparams:=0,nblk:=1,results:=[.cell 0 (.arr 64 .leaf)],body:=Z3c_B }
def Z2r_L0:Cd:=
 .seq (.seq (.region [⟨some 10,.mv (.t 9),none,[]⟩,
 ⟨some 11,.bin .lss (.t 10) (.c (.int .i64 64)),none,[]⟩] [0,3,5,6,8,9,11])
 (.cond (.t 11)
 (.skip)
 (.exit 0)))
 (.seq (.block 1 (.region [⟨some 14,.mv (.t 9),none,[]⟩,
 ⟨some 15,.mv (.t 9),none,[]⟩,
 ⟨some 16,.idxA (some 64) .leaf (.t 5) (.t 15),none,[]⟩,
 ⟨some 17,.load .leaf (.t 16),none,[]⟩,
 ⟨some 18,.conv .i64 (.t 17),none,[]⟩,
 ⟨some 19,.mv (.t 3),none,[]⟩,
 ⟨some 20,.mv (.t 9),none,[]⟩,
 ⟨some 21,.idxA (some 64) .leaf (.t 6) (.t 20),none,[]⟩,
 ⟨some 22,.load .leaf (.t 21),none,[]⟩,
 ⟨some 23,.conv .i64 (.t 22),none,[]⟩,
 ⟨some 24,.bin .mul (.t 19) (.t 23),none,[]⟩,
 ⟨some 25,.bin .add (.t 18) (.t 24),none,[]⟩,
 ⟨some 26,.mv (.t 0),none,[]⟩,
 ⟨some 27,.bin .rem (.t 25) (.t 26),none,[]⟩,
 ⟨some 28,.mv (.t 0),none,[]⟩,
 ⟨some 29,.bin .add (.t 27) (.t 28),none,[]⟩,
 ⟨some 30,.mv (.t 0),none,[]⟩,
 ⟨some 31,.bin .rem (.t 29) (.t 30),none,[]⟩,
 ⟨some 32,.conv .u8 (.t 31),none,[]⟩,
 ⟨some 33,.idxA (some 64) .leaf (.t 5) (.t 14),none,[]⟩,
 ⟨none,.store false .leaf (.t 33) (.t 32),none,[]⟩] [0,3,5,6,8,9]))
 (.region [⟨some 12,.mv (.t 9),none,[]⟩,
 ⟨some 13,.bin .add (.t 12) (.c (.int .i64 1)),none,[]⟩,
 ⟨some 9,.mv (.t 13),none,[]⟩] [0,3,5,6,8,9]))
def Z2r_B:Cd:=
 .seq (.region [⟨some 5,.box false 0 (.t 1),none,[]⟩,
 ⟨some 6,.box false 1 (.t 2),none,[]⟩,
 ⟨some 8,.box false 2 (.c (.arr 64 .leaf z64)),none,[]⟩] [0,3,5,6,8])
 (.seq (.seq (.region [⟨some 9,.mv (.c (.int .i64 0)),none,[]⟩] [0,3,5,6,8,9])
 (.block 0 (.loop (Z2r_L0))))
 (.seq (.region [⟨some 34,.load (.arr 64 .leaf) (.t 5),none,[]⟩,
 ⟨none,.store false (.arr 64 .leaf) (.t 8) (.t 34),none,[]⟩] [8])
 (.ret)))
def Z2r:Fn:=
 { nparams:=4,nblk:=3,results:=[.cell 8 (.arr 64 .leaf)],body:=Z2r_B }
def Z3i_L0:Cd:=
 .seq (.seq (.region [⟨some 24,.mv (.t 10),none,[]⟩,
 ⟨some 25,.mv (.t 7),none,[]⟩,
 ⟨some 26,.bin .lss (.t 24) (.t 25),none,[]⟩] [0,4,5,6,7,8,9,10,26])
 (.cond (.t 26)
 (.skip)
 (.exit 0)))
 (.seq (.block 1 (.region [⟨some 29,.mv (.t 10),none,[]⟩,
 ⟨some 30,.mv (.t 10),none,[]⟩,
 ⟨some 31,.bin .sub (.t 30) (.c (.int .i64 1)),none,[]⟩,
 ⟨some 32,.idxA (some 64) .leaf (.t 4) (.t 31),none,[]⟩,
 ⟨some 33,.load .leaf (.t 32),none,[]⟩,
 ⟨some 34,.idxA (some 64) .leaf (.t 9) (.t 29),none,[]⟩,
 ⟨none,.store false .leaf (.t 34) (.t 33),none,[]⟩] [0,4,5,6,7,8,9,10]))
 (.region [⟨some 27,.mv (.t 10),none,[]⟩,
 ⟨some 28,.bin .add (.t 27) (.c (.int .i64 1)),none,[]⟩,
 ⟨some 10,.mv (.t 28),none,[]⟩] [0,4,5,6,7,8,9,10]))
def Z3i_L1:Cd:=
 .seq (.seq (.region [⟨some 45,.mv (.t 12),none,[]⟩,
 ⟨some 46,.mv (.t 7),none,[]⟩,
 ⟨some 47,.bin .lss (.t 45) (.t 46),none,[]⟩] [0,5,6,7,9,11,12,47])
 (.cond (.t 47)
 (.skip)
 (.exit 2)))
 (.seq (.block 3 (.region [⟨some 50,.mv (.t 12),none,[]⟩,
 ⟨some 51,.mv (.t 12),none,[]⟩,
 ⟨some 52,.idxA (some 64) .leaf (.t 9) (.t 51),none,[]⟩,
 ⟨some 53,.load .leaf (.t 52),none,[]⟩,
 ⟨some 54,.conv .i64 (.t 53),none,[]⟩,
 ⟨some 55,.mv (.t 11),none,[]⟩,
 ⟨some 56,.mv (.t 12),none,[]⟩,
 ⟨some 57,.idxA (some 64) .leaf (.t 5) (.t 56),none,[]⟩,
 ⟨some 58,.load .leaf (.t 57),none,[]⟩,
 ⟨some 59,.conv .i64 (.t 58),none,[]⟩,
 ⟨some 60,.bin .mul (.t 55) (.t 59),none,[]⟩,
 ⟨some 61,.bin .sub (.t 54) (.t 60),none,[]⟩,
 ⟨some 62,.mv (.t 0),none,[]⟩,
 ⟨some 63,.bin .rem (.t 61) (.t 62),none,[]⟩,
 ⟨some 64,.mv (.t 0),none,[]⟩,
 ⟨some 65,.bin .add (.t 63) (.t 64),none,[]⟩,
 ⟨some 66,.mv (.t 0),none,[]⟩,
 ⟨some 67,.bin .rem (.t 65) (.t 66),none,[]⟩,
 ⟨some 68,.conv .u8 (.t 67),none,[]⟩,
 ⟨some 69,.idxA (some 64) .leaf (.t 9) (.t 50),none,[]⟩,
 ⟨none,.store false .leaf (.t 69) (.t 68),none,[]⟩] [0,5,6,7,9,11,12]))
 (.region [⟨some 48,.mv (.t 12),none,[]⟩,
 ⟨some 49,.bin .add (.t 48) (.c (.int .i64 1)),none,[]⟩,
 ⟨some 12,.mv (.t 49),none,[]⟩] [0,5,6,7,9,11,12]))
def Z3i_B:Cd:=
 .seq (.region [⟨some 4,.box false 0 (.t 1),none,[]⟩,
 ⟨some 5,.box false 1 (.t 2),none,[]⟩,
 ⟨some 6,.box false 2 (.c (.arr 64 .leaf z64)),none,[]⟩] [0,4,5,6])
 (.seq (.region [⟨some 13,.load (.arr 64 .leaf) (.t 5),none,[]⟩,
 ⟨some 14,.call .flat [] (.f F2w) [(.t 13)],none,[]⟩,
 ⟨some 7,.mv (.t 14),none,[]⟩] [0,4,5,6,7])
 (.seq (.seq (.region [⟨some 15,.mv (.t 7),none,[]⟩,
 ⟨some 16,.bin .eql (.t 15) (.c (.int .i64 0)),none,[]⟩] [0,4,5,6,7,16])
 (.cond (.t 16)
 (.seq (.region [⟨some 17,.build false (.arr 64 .leaf z64) [],none,[]⟩,
 ⟨none,.store false (.arr 64 .leaf) (.t 6) (.t 17),none,[]⟩] [6])
 (.ret))
 (.skip)))
 (.seq (.region [⟨some 18,.mv (.t 7),none,[]⟩,
 ⟨some 19,.bin .sub (.t 18) (.c (.int .i64 1)),none,[]⟩,
 ⟨some 20,.idxA (some 64) .leaf (.t 4) (.t 19),none,[]⟩,
 ⟨some 21,.load .leaf (.t 20),none,[]⟩,
 ⟨some 22,.conv .i64 (.t 21),none,[]⟩,
 ⟨some 23,.build false (.arr 64 .leaf z64) [],none,[]⟩,
 ⟨some 9,.box false 3 (.c (.arr 64 .leaf z64)),none,[]⟩,
 ⟨some 8,.mv (.t 22),none,[]⟩,
 ⟨none,.store false (.arr 64 .leaf) (.t 9) (.t 23),none,[]⟩] [0,4,5,6,7,8,9])
 (.seq (.seq (.region [⟨some 10,.mv (.c (.int .i64 1)),none,[]⟩] [0,4,5,6,7,8,9,10])
 (.block 0 (.loop (Z3i_L0))))
 (.seq (.region [⟨some 35,.mv (.t 8),none,[]⟩,
 ⟨some 36,.mv (.t 0),none,[]⟩,
 ⟨some 37,.mv (.t 7),none,[]⟩,
 ⟨some 38,.idxA (some 64) .leaf (.t 5) (.t 37),none,[]⟩,
 ⟨some 39,.load .leaf (.t 38),none,[]⟩,
 ⟨some 40,.call .flat [] (.f F33) [(.t 36),(.t 39)],none,[]⟩,
 ⟨some 41,.conv .i64 (.t 40),none,[]⟩,
 ⟨some 42,.bin .mul (.t 35) (.t 41),none,[]⟩,
 ⟨some 43,.mv (.t 0),none,[]⟩,
 ⟨some 44,.bin .rem (.t 42) (.t 43),none,[]⟩,
 ⟨some 11,.mv (.t 44),none,[]⟩] [0,5,6,7,9,11])
 (.seq (.seq (.region [⟨some 12,.mv (.c (.int .i64 0)),none,[]⟩] [0,5,6,7,9,11,12])
 (.block 2 (.loop (Z3i_L1))))
 (.seq (.region [⟨some 70,.load (.arr 64 .leaf) (.t 9),none,[]⟩,
 ⟨none,.store false (.arr 64 .leaf) (.t 6) (.t 70),none,[]⟩] [6])
 (.ret))))))))
def Z3i:Fn:=
 { nparams:=3,nblk:=4,results:=[.cell 6 (.arr 64 .leaf)],body:=Z3i_B }
def Z38_L0:Cd:=
 .seq (.seq (.region [⟨some 14,.mv (.t 10),none,[]⟩,
 ⟨some 15,.bin .geq (.t 14) (.c (.int .i64 0)),none,[]⟩] [0,5,6,7,8,9,10,15])
 (.cond (.t 15)
 (.skip)
 (.exit 0)))
 (.seq (.block 1 (.seq (.region [⟨some 18,.mv (.t 0),none,[]⟩,
 ⟨some 19,.load (.arr 64 .leaf) (.t 9),none,[]⟩,
 ⟨some 20,.load (.arr 64 .leaf) (.t 7),none,[]⟩,
 ⟨some 21,.call .flat [] (.f F3i) [(.t 18),(.t 19),(.t 20)],none,[]⟩,
 ⟨none,.store false (.arr 64 .leaf) (.t 9) (.t 21),none,[]⟩] [0,5,6,7,8,9,10])
 (.region [⟨some 22,.mv (.t 0),none,[]⟩,
 ⟨some 23,.mv (.t 0),none,[]⟩,
 ⟨some 24,.load (.arr 64 .leaf) (.t 9),none,[]⟩,
 ⟨some 25,.load (.arr 64 .leaf) (.t 5),none,[]⟩,
 ⟨some 26,.mv (.t 10),none,[]⟩,
 ⟨some 27,.idxA (some 64) .leaf (.t 6) (.t 26),none,[]⟩,
 ⟨some 28,.load .leaf (.t 27),none,[]⟩,
 ⟨some 29,.conv .i64 (.t 28),none,[]⟩,
 ⟨some 30,.call .flat [] (.f F2r) [(.t 23),(.t 24),(.t 25),(.t 29)],none,[]⟩,
 ⟨some 31,.load (.arr 64 .leaf) (.t 7),none,[]⟩,
 ⟨some 32,.call .flat [] (.f F36) [(.t 22),(.t 30),(.t 31)],none,[]⟩,
 ⟨none,.store false (.arr 64 .leaf) (.t 9) (.t 32),none,[]⟩] [0,5,6,7,8,9,10])))
 (.region [⟨some 16,.mv (.t 10),none,[]⟩,
 ⟨some 17,.bin .sub (.t 16) (.c (.int .i64 1)),none,[]⟩,
 ⟨some 10,.mv (.t 17),none,[]⟩] [0,5,6,7,8,9,10]))
def Z38_B:Cd:=
 .seq (.region [⟨some 5,.box false 0 (.t 1),none,[]⟩,
 ⟨some 6,.box false 1 (.t 2),none,[]⟩,
 ⟨some 7,.box false 2 (.t 3),none,[]⟩,
 ⟨some 8,.box false 3 (.c (.arr 64 .leaf z64)),none,[]⟩] [0,5,6,7,8])
 (.seq (.region [⟨some 11,.build false (.arr 64 .leaf z64) [],none,[]⟩,
 ⟨some 9,.box false 4 (.c (.arr 64 .leaf z64)),none,[]⟩,
 ⟨none,.store false (.arr 64 .leaf) (.t 9) (.t 11),none,[]⟩] [0,5,6,7,8,9])
 (.seq (.seq (.region [⟨some 12,.load (.arr 64 .leaf) (.t 6),none,[]⟩,
 ⟨some 13,.call .flat [] (.f F2w) [(.t 12)],none,[]⟩,
 ⟨some 10,.mv (.t 13),none,[]⟩] [0,5,6,7,8,9,10])
 (.block 0 (.loop (Z38_L0))))
 (.seq (.region [⟨some 33,.load (.arr 64 .leaf) (.t 9),none,[]⟩,
 ⟨none,.store false (.arr 64 .leaf) (.t 8) (.t 33),none,[]⟩] [8])
 (.ret))))
def Z38:Fn:=
 { nparams:=4,nblk:=5,results:=[.cell 8 (.arr 64 .leaf)],body:=Z38_B }
def Z3e_L0:Cd:=
 .seq (.seq (.region [⟨some 19,.mv (.t 2),none,[]⟩,
 ⟨some 20,.bin .gtr (.t 19) (.c (.int .i64 0)),none,[]⟩] [0,2,7,8,9,10,20])
 (.cond (.t 20)
 (.skip)
 (.exit 0)))
 (.seq (.block 1 (.seq (.seq (.region [⟨some 23,.mv (.t 2),none,[]⟩,
 ⟨some 24,.bin .rem (.t 23) (.c (.int .i64 2)),none,[]⟩,
 ⟨some 25,.bin .eql (.t 24) (.c (.int .i64 1)),none,[]⟩] [0,2,7,8,9,10,25])
 (.cond (.t 25)
 (.region [⟨some 26,.mv (.t 0),none,[]⟩,
 ⟨some 27,.load (.arr 64 .leaf) (.t 9),none,[]⟩,
 ⟨some 28,.load (.arr 64 .leaf) (.t 10),none,[]⟩,
 ⟨some 29,.load (.arr 64 .leaf) (.t 7),none,[]⟩,
 ⟨some 30,.call .flat [] (.f F38) [(.t 26),(.t 27),(.t 28),(.t 29)],none,[]⟩,
 ⟨none,.store false (.arr 64 .leaf) (.t 9) (.t 30),none,[]⟩] [0,2,7,8,9,10])
 (.skip)))
 (.region [⟨some 31,.mv (.t 0),none,[]⟩,
 ⟨some 32,.load (.arr 64 .leaf) (.t 10),none,[]⟩,
 ⟨some 33,.load (.arr 64 .leaf) (.t 10),none,[]⟩,
 ⟨some 34,.load (.arr 64 .leaf) (.t 7),none,[]⟩,
 ⟨some 35,.call .flat [] (.f F38) [(.t 31),(.t 32),(.t 33),(.t 34)],none,[]⟩,
 ⟨none,.store false (.arr 64 .leaf) (.t 10) (.t 35),none,[]⟩] [0,2,7,8,9,10])))
 (.region [⟨some 21,.mv (.t 2),none,[]⟩,
 ⟨some 22,.bin .quo (.t 21) (.c (.int .i64 2)),none,[]⟩,
 ⟨some 2,.mv (.t 22),none,[]⟩] [0,2,7,8,9,10]))
def Z3e_B:Cd:=
 .seq (.region [⟨some 5,.box false 0 (.t 1),none,[]⟩,
 ⟨some 7,.box false 1 (.t 3),none,[]⟩,
 ⟨some 8,.box false 2 (.c (.arr 64 .leaf z64)),none,[]⟩] [0,2,5,7,8])
 (.seq (.region [⟨some 11,.mv (.t 0),none,[]⟩,
 ⟨some 12,.call .flat [] (.f F3c) [],none,[]⟩,
 ⟨some 13,.load (.arr 64 .leaf) (.t 7),none,[]⟩,
 ⟨some 14,.call .flat [] (.f F36) [(.t 11),(.t 12),(.t 13)],none,[]⟩,
 ⟨some 15,.mv (.t 0),none,[]⟩,
 ⟨some 16,.load (.arr 64 .leaf) (.t 5),none,[]⟩,
 ⟨some 17,.load (.arr 64 .leaf) (.t 7),none,[]⟩,
 ⟨some 18,.call .flat [] (.f F36) [(.t 15),(.t 16),(.t 17)],none,[]⟩,
 ⟨some 9,.box false 3 (.c (.arr 64 .leaf z64)),none,[]⟩,
 ⟨some 10,.box false 4 (.c (.arr 64 .leaf z64)),none,[]⟩,
 ⟨none,.store false (.arr 64 .leaf) (.t 9) (.t 14),none,[]⟩,
 ⟨none,.store false (.arr 64 .leaf) (.t 10) (.t 18),none,[]⟩] [0,2,7,8,9,10])
 (.seq (.block 0 (.loop (Z3e_L0)))
 (.seq (.region [⟨some 36,.load (.arr 64 .leaf) (.t 9),none,[]⟩,
 ⟨none,.store false (.arr 64 .leaf) (.t 8) (.t 36),none,[]⟩] [8])
 (.ret))))
def Z3e:Fn:=
 { nparams:=4,nblk:=5,results:=[.cell 8 (.arr 64 .leaf)],body:=Z3e_B }
def Z3b_L0:Cd:=
 .seq (.seq (.region [⟨some 8,.mv (.t 1),none,[]⟩,
 ⟨some 9,.bin .gtr (.t 8) (.c (.int .i64 0)),none,[]⟩] [0,1,4,5,6,9])
 (.cond (.t 9)
 (.skip)
 (.exit 0)))
 (.seq (.block 1 (.seq (.region [⟨some 12,.mv (.t 6),none,[]⟩,
 ⟨some 13,.mv (.t 1),none,[]⟩,
 ⟨some 14,.mv (.t 0),none,[]⟩,
 ⟨some 15,.bin .rem (.t 13) (.t 14),none,[]⟩,
 ⟨some 16,.conv .u8 (.t 15),none,[]⟩,
 ⟨some 17,.idxA (some 64) .leaf (.t 5) (.t 12),none,[]⟩,
 ⟨none,.store false .leaf (.t 17) (.t 16),none,[]⟩] [0,1,4,5,6])
 (.region [⟨some 18,.mv (.t 1),none,[]⟩,
 ⟨some 19,.mv (.t 0),none,[]⟩,
 ⟨some 20,.bin .quo (.t 18) (.t 19),none,[]⟩,
 ⟨some 1,.mv (.t 20),none,[]⟩] [0,1,4,5,6])))
 (.region [⟨some 10,.mv (.t 6),none,[]⟩,
 ⟨some 11,.bin .add (.t 10) (.c (.int .i64 1)),none,[]⟩,
 ⟨some 6,.mv (.t 11),none,[]⟩] [0,1,4,5,6]))
def Z3b_B:Cd:=
 .seq (.region [⟨some 4,.box false 0 (.c (.arr 64 .leaf z64)),none,[]⟩] [0,1,4])
 (.seq (.region [⟨some 7,.build false (.arr 64 .leaf z64) [],none,[]⟩,
 ⟨some 5,.box false 1 (.c (.arr 64 .leaf z64)),none,[]⟩,
 ⟨none,.store false (.arr 64 .leaf) (.t 5) (.t 7),none,[]⟩] [0,1,4,5])
 (.seq (.seq (.region [⟨some 6,.mv (.c (.int .i64 0)),none,[]⟩] [0,1,4,5,6])
 (.block 0 (.loop (Z3b_L0))))
 (.seq (.region [⟨some 21,.load (.arr 64 .leaf) (.t 5),none,[]⟩,
 ⟨none,.store false (.arr 64 .leaf) (.t 4) (.t 21),none,[]⟩] [4])
 (.ret))))
def Z3b:Fn:=
 { nparams:=2,nblk:=2,results:=[.cell 4 (.arr 64 .leaf)],body:=Z3b_B }
def Z3h_L0:Cd:=
 .seq (.seq (.region [⟨some 35,.mv (.t 12),none,[]⟩,
 ⟨some 36,.mv (.t 9),none,[]⟩,
 ⟨some 37,.bin .leq (.t 35) (.t 36),none,[]⟩,
 ⟨some 38,.mv (.t 37),none,[]⟩,
 ⟨some 39,.mv (.t 11),some (38,true),[]⟩,
 ⟨some 40,.idxA (some 64) .leaf (.t 4) (.t 39),some (38,true),[]⟩,
 ⟨some 41,.load .leaf (.t 40),some (38,true),[]⟩,
 ⟨some 42,.bin .neq (.t 41) (.c (.int .u8 0)),some (38,true),[]⟩,
 ⟨some 43,.pick (.t 38) (.t 42) (.c (.bool false)),none,[]⟩] [0,4,5,6,8,9,10,11,12,43])
 (.cond (.t 43)
 (.skip)
 (.exit 2)))
 (.seq (.block 3 (.region [⟨some 46,.mv (.t 11),none,[]⟩,
 ⟨some 47,.mv (.t 12),none,[]⟩,
 ⟨some 48,.bin .add (.t 46) (.t 47),none,[]⟩,
 ⟨some 49,.mv (.t 11),none,[]⟩,
 ⟨some 50,.mv (.t 12),none,[]⟩,
 ⟨some 51,.bin .add (.t 49) (.t 50),none,[]⟩,
 ⟨some 52,.idxA (some 64) .leaf (.t 10) (.t 51),none,[]⟩,
 ⟨some 53,.load .leaf (.t 52),none,[]⟩,
 ⟨some 54,.conv .i64 (.t 53),none,[]⟩,
 ⟨some 55,.mv (.t 11),none,[]⟩,
 ⟨some 56,.idxA (some 64) .leaf (.t 4) (.t 55),none,[]⟩,
 ⟨some 57,.load .leaf (.t 56),none,[]⟩,
 ⟨some 58,.conv .i64 (.t 57),none,[]⟩,
 ⟨some 59,.mv (.t 12),none,[]⟩,
 ⟨some 60,.idxA (some 64) .leaf (.t 5) (.t 59),none,[]⟩,
 ⟨some 61,.load .leaf (.t 60),none,[]⟩,
 ⟨some 62,.conv .i64 (.t 61),none,[]⟩,
 ⟨some 63,.bin .mul (.t 58) (.t 62),none,[]⟩,
 ⟨some 64,.bin .add (.t 54) (.t 63),none,[]⟩,
 ⟨some 65,.mv (.t 0),none,[]⟩,
 ⟨some 66,.bin .rem (.t 64) (.t 65),none,[]⟩,
 ⟨some 67,.conv .u8 (.t 66),none,[]⟩,
 ⟨some 68,.idxA (some 64) .leaf (.t 10) (.t 48),none,[]⟩,
 ⟨none,.store false .leaf (.t 68) (.t 67),none,[]⟩] [0,4,5,6,8,9,10,11,12]))
 (.region [⟨some 44,.mv (.t 12),none,[]⟩,
 ⟨some 45,.bin .add (.t 44) (.c (.int .i64 1)),none,[]⟩,
 ⟨some 12,.mv (.t 45),none,[]⟩] [0,4,5,6,8,9,10,11,12]))
def Z3h_L1:Cd:=
 .seq (.seq (.region [⟨some 30,.mv (.t 11),none,[]⟩,
 ⟨some 31,.mv (.t 8),none,[]⟩,
 ⟨some 32,.bin .leq (.t 30) (.t 31),none,[]⟩] [0,4,5,6,8,9,10,11,32])
 (.cond (.t 32)
 (.skip)
 (.exit 0)))
 (.seq (.block 1 (.seq (.region [⟨some 12,.mv (.c (.int .i64 0)),none,[]⟩] [0,4,5,6,8,9,10,11,12])
 (.block 2 (.loop (Z3h_L0)))))
 (.region [⟨some 33,.mv (.t 11),none,[]⟩,
 ⟨some 34,.bin .add (.t 33) (.c (.int .i64 1)),none,[]⟩,
 ⟨some 11,.mv (.t 34),none,[]⟩] [0,4,5,6,8,9,10,11]))
def Z3h_B:Cd:=
 .seq (.region [⟨some 4,.box false 0 (.t 1),none,[]⟩,
 ⟨some 5,.box false 1 (.t 2),none,[]⟩,
 ⟨some 6,.box false 2 (.c (.arr 64 .leaf z64)),none,[]⟩,
 ⟨some 7,.mv (.c (.bool false)),none,[]⟩] [0,4,5,6])
 (.seq (.region [⟨some 13,.load (.arr 64 .leaf) (.t 4),none,[]⟩,
 ⟨some 14,.call .flat [] (.f F2w) [(.t 13)],none,[]⟩,
 ⟨some 15,.load (.arr 64 .leaf) (.t 5),none,[]⟩,
 ⟨some 16,.call .flat [] (.f F2w) [(.t 15)],none,[]⟩,
 ⟨some 17,.build false (.arr 64 .leaf z64) [],none,[]⟩,
 ⟨some 10,.box false 3 (.c (.arr 64 .leaf z64)),none,[]⟩,
 ⟨some 8,.mv (.t 14),none,[]⟩,
 ⟨some 9,.mv (.t 16),none,[]⟩,
 ⟨none,.store false (.arr 64 .leaf) (.t 10) (.t 17),none,[]⟩] [0,4,5,6,8,9,10])
 (.seq (.seq (.region [⟨some 18,.mv (.t 8),none,[]⟩,
 ⟨some 19,.bin .lss (.t 18) (.c (.int .i64 0)),none,[]⟩,
 ⟨some 20,.mv (.t 19),none,[]⟩,
 ⟨some 21,.mv (.t 9),some (20,false),[]⟩,
 ⟨some 22,.bin .lss (.t 21) (.c (.int .i64 0)),some (20,false),[]⟩,
 ⟨some 23,.pick (.t 20) (.c (.bool true)) (.t 22),none,[]⟩] [0,4,5,6,8,9,10,23])
 (.cond (.t 23)
 (.seq (.region [⟨some 24,.load (.arr 64 .leaf) (.t 10),none,[]⟩,
 ⟨none,.store false (.arr 64 .leaf) (.t 6) (.t 24),none,[]⟩,
 ⟨some 7,.mv (.c (.bool true)),none,[]⟩] [6,7])
 (.ret))
 (.skip)))
 (.seq (.seq (.region [⟨some 25,.mv (.t 8),none,[]⟩,
 ⟨some 26,.mv (.t 9),none,[]⟩,
 ⟨some 27,.bin .add (.t 25) (.t 26),none,[]⟩,
 ⟨some 28,.bin .gtr (.t 27) (.c (.int .i64 63)),none,[]⟩] [0,4,5,6,8,9,10,28])
 (.cond (.t 28)
 (.seq (.region [⟨some 29,.load (.arr 64 .leaf) (.t 10),none,[]⟩,
 ⟨none,.store false (.arr 64 .leaf) (.t 6) (.t 29),none,[]⟩,
 ⟨some 7,.mv (.c (.bool false)),none,[]⟩] [6,7])
 (.ret))
 (.skip)))
 (.seq (.seq (.region [⟨some 11,.mv (.c (.int .i64 0)),none,[]⟩] [0,4,5,6,8,9,10,11])
 (.block 0 (.loop (Z3h_L1))))
 (.seq (.region [⟨some 69,.load (.arr 64 .leaf) (.t 10),none,[]⟩,
 ⟨none,.store false (.arr 64 .leaf) (.t 6) (.t 69),none,[]⟩,
 ⟨some 7,.mv (.c (.bool true)),none,[]⟩] [6,7])
 (.ret))))))
def Z3h:Fn:=
 { nparams:=3,nblk:=4,results:=[.cell 6 (.arr 64 .leaf),.tmp 7],body:=Z3h_B }
def Z2t_L0:Cd:=
 .seq (.seq (.region [⟨some 26,.load (.arr 64 .leaf) (.t 5),none,[]⟩,
 ⟨some 27,.call .flat [] (.f F2w) [(.t 26)],none,[]⟩,
 ⟨some 28,.bin .geq (.t 27) (.c (.int .i64 0)),none,[]⟩] [0,4,5,6,7,8,9,10,11,12,28])
 (.cond (.t 28)
 (.skip)
 (.exit 0)))
 (.block 1 (.seq (.region [⟨some 30,.mv (.t 0),none,[]⟩,
 ⟨some 31,.load (.arr 64 .leaf) (.t 4),none,[]⟩,
 ⟨some 32,.load (.arr 64 .leaf) (.t 5),none,[]⟩,
 ⟨some 33,.call .flat [] (.f F2x) [(.t 30),(.t 31),(.t 32)],none,[]⟩,
 ⟨some 29,.mv (.t 33),none,[]⟩,
 ⟨some 34,.ext (.t 29) 0,none,[]⟩,
 ⟨some 35,.ext (.t 29) 1,none,[]⟩,
 ⟨some 13,.box false 9 (.c (.arr 64 .leaf z64)),none,[]⟩,
 ⟨some 14,.box false 10 (.c (.arr 64 .leaf z64)),none,[]⟩,
 ⟨none,.store false (.arr 64 .leaf) (.t 13) (.t 34),none,[]⟩,
 ⟨none,.store false (.arr 64 .leaf) (.t 14) (.t 35),none,[]⟩] [0,4,5,6,7,8,9,10,11,12,13,14])
 (.seq (.region [⟨some 37,.mv (.t 0),none,[]⟩,
 ⟨some 38,.load (.arr 64 .leaf) (.t 13),none,[]⟩,
 ⟨some 39,.load (.arr 64 .leaf) (.t 10),none,[]⟩,
 ⟨some 40,.call .flat [] (.f F3h) [(.t 37),(.t 38),(.t 39)],none,[]⟩,
 ⟨some 36,.mv (.t 40),none,[]⟩,
 ⟨some 41,.ext (.t 36) 0,none,[]⟩,
 ⟨some 42,.ext (.t 36) 1,none,[]⟩,
 ⟨some 15,.box false 11 (.c (.arr 64 .leaf z64)),none,[]⟩,
 ⟨none,.store false (.arr 64 .leaf) (.t 15) (.t 41),none,[]⟩,
 ⟨some 16,.mv (.t 42),none,[]⟩] [0,4,5,6,7,8,9,10,11,12,13,14,15])
 (.seq (.region [⟨some 44,.mv (.t 0),none,[]⟩,
 ⟨some 45,.load (.arr 64 .leaf) (.t 13),none,[]⟩,
 ⟨some 46,.load (.arr 64 .leaf) (.t 12),none,[]⟩,
 ⟨some 47,.call .flat [] (.f F3h) [(.t 44),(.t 45),(.t 46)],none,[]⟩,
 ⟨some 43,.mv (.t 47),none,[]⟩,
 ⟨some 48,.ext (.t 43) 0,none,[]⟩,
 ⟨some 49,.ext (.t 43) 1,none,[]⟩,
 ⟨some 17,.box false 12 (.c (.arr 64 .leaf z64)),none,[]⟩,
 ⟨none,.store false (.arr 64 .leaf) (.t 17) (.t 48),none,[]⟩,
 ⟨some 18,.mv (.t 49),none,[]⟩] [0,4,5,6,7,8,9,10,11,12,14,15,17])
 (.seq (.region [⟨some 50,.mv (.t 0),none,[]⟩,
 ⟨some 51,.load (.arr 64 .leaf) (.t 9),none,[]⟩,
 ⟨some 52,.load (.arr 64 .leaf) (.t 15),none,[]⟩,
 ⟨some 53,.call .flat [] (.f F2r) [(.t 50),(.t 51),(.t 52),(.c (.int .i64 (-1)))],none,[]⟩,
 ⟨some 54,.mv (.t 0),none,[]⟩,
 ⟨some 55,.load (.arr 64 .leaf) (.t 11),none,[]⟩,
 ⟨some 56,.load (.arr 64 .leaf) (.t 17),none,[]⟩,
 ⟨some 57,.call .flat [] (.f F2r) [(.t 54),(.t 55),(.t 56),(.c (.int .i64 (-1)))],none,[]⟩,
 ⟨some 19,.box false 13 (.c (.arr 64 .leaf z64)),none,[]⟩,
 ⟨some 20,.box false 14 (.c (.arr 64 .leaf z64)),none,[]⟩,
 ⟨none,.store false (.arr 64 .leaf) (.t 19) (.t 53),none,[]⟩,
 ⟨none,.store false (.arr 64 .leaf) (.t 20) (.t 57),none,[]⟩] [0,4,5,6,7,8,9,10,11,12,14,19,20])
 (.seq (.region [⟨some 58,.load (.arr 64 .leaf) (.t 5),none,[]⟩,
 ⟨none,.store false (.arr 64 .leaf) (.t 4) (.t 58),none,[]⟩] [0,4,5,6,7,8,9,10,11,12,14,19,20])
 (.seq (.region [⟨some 59,.load (.arr 64 .leaf) (.t 14),none,[]⟩,
 ⟨none,.store false (.arr 64 .leaf) (.t 5) (.t 59),none,[]⟩] [0,4,5,6,7,8,9,10,11,12,19,20])
 (.seq (.region [⟨some 60,.load (.arr 64 .leaf) (.t 10),none,[]⟩,
 ⟨none,.store false (.arr 64 .leaf) (.t 9) (.t 60),none,[]⟩] [0,4,5,6,7,8,9,10,11,12,19,20])
 (.seq (.region [⟨some 61,.load (.arr 64 .leaf) (.t 12),none,[]⟩,
 ⟨none,.store false (.arr 64 .leaf) (.t 11) (.t 61),none,[]⟩] [0,4,5,6,7,8,9,10,11,12,19,20])
 (.seq (.region [⟨some 62,.load (.arr 64 .leaf) (.t 19),none,[]⟩,
 ⟨none,.store false (.arr 64 .leaf) (.t 10) (.t 62),none,[]⟩] [0,4,5,6,7,8,9,10,11,12,20])
 (.region [⟨some 63,.load (.arr 64 .leaf) (.t 20),none,[]⟩,
 ⟨none,.store false (.arr 64 .leaf) (.t 12) (.t 63),none,[]⟩] [0,4,5,6,7,8,9,10,11,12])))))))))))
def Z2t_B:Cd:=
 .seq (.region [⟨some 4,.box false 0 (.t 1),none,[]⟩,
 ⟨some 5,.box false 1 (.t 2),none,[]⟩,
 ⟨some 6,.box false 2 (.c (.arr 64 .leaf z64)),none,[]⟩,
 ⟨some 7,.box false 3 (.c (.arr 64 .leaf z64)),none,[]⟩,
 ⟨some 8,.box false 4 (.c (.arr 64 .leaf z64)),none,[]⟩] [0,4,5,6,7,8])
 (.seq (.region [⟨some 22,.call .flat [] (.f F3c) [],none,[]⟩,
 ⟨some 23,.build false (.arr 64 .leaf z64) [],none,[]⟩,
 ⟨some 24,.build false (.arr 64 .leaf z64) [],none,[]⟩,
 ⟨some 25,.call .flat [] (.f F3c) [],none,[]⟩,
 ⟨some 9,.box false 5 (.c (.arr 64 .leaf z64)),none,[]⟩,
 ⟨some 10,.box false 6 (.c (.arr 64 .leaf z64)),none,[]⟩,
 ⟨some 11,.box false 7 (.c (.arr 64 .leaf z64)),none,[]⟩,
 ⟨some 12,.box false 8 (.c (.arr 64 .leaf z64)),none,[]⟩,
 ⟨none,.store false (.arr 64 .leaf) (.t 9) (.t 22),none,[]⟩,
 ⟨none,.store false (.arr 64 .leaf) (.t 10) (.t 23),none,[]⟩,
 ⟨none,.store false (.arr 64 .leaf) (.t 11) (.t 24),none,[]⟩,
 ⟨none,.store false (.arr 64 .leaf) (.t 12) (.t 25),none,[]⟩] [0,4,5,6,7,8,9,10,11,12])
 (.seq (.block 0 (.loop (Z2t_L0)))
 (.seq (.region [⟨some 64,.mv (.t 0),none,[]⟩,
 ⟨some 65,.load (.arr 64 .leaf) (.t 4),none,[]⟩,
 ⟨some 66,.call .flat [] (.f F2w) [(.t 65)],none,[]⟩,
 ⟨some 67,.idxA (some 64) .leaf (.t 4) (.t 66),none,[]⟩,
 ⟨some 68,.load .leaf (.t 67),none,[]⟩,
 ⟨some 69,.call .flat [] (.f F33) [(.t 64),(.t 68)],none,[]⟩,
 ⟨some 70,.conv .i64 (.t 69),none,[]⟩,
 ⟨some 21,.mv (.t 70),none,[]⟩] [0,4,6,7,8,9,11,21])
 (.seq (.region [⟨some 71,.mv (.t 0),none,[]⟩,
 ⟨some 72,.build false (.arr 64 .leaf z64) [],none,[]⟩,
 ⟨some 73,.load (.arr 64 .leaf) (.t 4),none,[]⟩,
 ⟨some 74,.mv (.t 21),none,[]⟩,
 ⟨some 75,.call .flat [] (.f F2r) [(.t 71),(.t 72),(.t 73),(.t 74)],none,[]⟩,
 ⟨some 76,.mv (.t 0),none,[]⟩,
 ⟨some 77,.build false (.arr 64 .leaf z64) [],none,[]⟩,
 ⟨some 78,.load (.arr 64 .leaf) (.t 9),none,[]⟩,
 ⟨some 79,.mv (.t 21),none,[]⟩,
 ⟨some 80,.call .flat [] (.f F2r) [(.t 76),(.t 77),(.t 78),(.t 79)],none,[]⟩,
 ⟨some 81,.mv (.t 0),none,[]⟩,
 ⟨some 82,.build false (.arr 64 .leaf z64) [],none,[]⟩,
 ⟨some 83,.load (.arr 64 .leaf) (.t 11),none,[]⟩,
 ⟨some 84,.mv (.t 21),none,[]⟩,
 ⟨some 85,.call .flat [] (.f F2r) [(.t 81),(.t 82),(.t 83),(.t 84)],none,[]⟩,
 ⟨none,.store false (.arr 64 .leaf) (.t 6) (.t 75),none,[]⟩,
 ⟨none,.store false (.arr 64 .leaf) (.t 7) (.t 80),none,[]⟩,
 ⟨none,.store false (.arr 64 .leaf) (.t 8) (.t 85),none,[]⟩] [6,7,8])
 (.ret)))))
def Z2t:Fn:=
 { nparams:=3,nblk:=15,results:=[.cell 6 (.arr 64 .leaf),.cell 7 (.arr 64 .leaf),.cell 8 (.arr 64 .leaf)],body:=Z2t_B }
def Z31_B:Cd:=
 .seq (.region [⟨some 4,.box false 0 (.t 1),none,[]⟩,
 ⟨some 5,.box false 1 (.t 2),none,[]⟩,
 ⟨some 6,.box false 2 (.c (.arr 64 .leaf z64)),none,[]⟩] [0,4,5,6])
 (.seq (.seq (.region [⟨some 10,.load (.arr 64 .leaf) (.t 4),none,[]⟩,
 ⟨some 11,.call .flat [] (.f F2w) [(.t 10)],none,[]⟩,
 ⟨some 12,.bin .lss (.t 11) (.c (.int .i64 0)),none,[]⟩,
 ⟨some 13,.mv (.t 12),none,[]⟩,
 ⟨some 14,.load (.arr 64 .leaf) (.t 5),some (13,true),[]⟩,
 ⟨some 15,.call .flat [] (.f F2w) [(.t 14)],some (13,true),[]⟩,
 ⟨some 16,.bin .lss (.t 15) (.c (.int .i64 0)),some (13,true),[]⟩,
 ⟨some 17,.pick (.t 13) (.t 16) (.c (.bool false)),none,[]⟩] [0,4,5,6,17])
 (.cond (.t 17)
 (.seq (.region [⟨some 18,.build false (.arr 64 .leaf z64) [],none,[]⟩,
 ⟨none,.store false (.arr 64 .leaf) (.t 6) (.t 18),none,[]⟩] [6])
 (.ret))
 (.skip)))
 (.seq (.region [⟨some 20,.mv (.t 0),none,[]⟩,
 ⟨some 21,.load (.arr 64 .leaf) (.t 4),none,[]⟩,
 ⟨some 22,.load (.arr 64 .leaf) (.t 5),none,[]⟩,
 ⟨some 23,.call .flat [] (.f F2t) [(.t 20),(.t 21),(.t 22)],none,[]⟩,
 ⟨some 19,.mv (.t 23),none,[]⟩,
 ⟨some 24,.ext (.t 19) 0,none,[]⟩,
 ⟨some 25,.ext (.t 19) 1,none,[]⟩,
 ⟨some 26,.ext (.t 19) 2,none,[]⟩,
 ⟨some 7,.box false 3 (.c (.arr 64 .leaf z64)),none,[]⟩,
 ⟨some 8,.box false 4 (.c (.arr 64 .leaf z64)),none,[]⟩,
 ⟨some 9,.box false 5 (.c (.arr 64 .leaf z64)),none,[]⟩,
 ⟨none,.store false (.arr 64 .leaf) (.t 7) (.t 24),none,[]⟩,
 ⟨none,.store false (.arr 64 .leaf) (.t 8) (.t 25),none,[]⟩,
 ⟨none,.store false (.arr 64 .leaf) (.t 9) (.t 26),none,[]⟩] [6,7])
 (.seq (.region [⟨some 27,.load (.arr 64 .leaf) (.t 7),none,[]⟩,
 ⟨none,.store false (.arr 64 .leaf) (.t 6) (.t 27),none,[]⟩] [6])
 (.ret))))
def Z31:Fn:=
 { nparams:=3,nblk:=6,results:=[.cell 6 (.arr 64 .leaf)],body:=Z31_B }
def Z3g_B:Cd:=
 .seq (.region [⟨some 0,.box false 0 (.c (.arr 64 .leaf z64)),none,[]⟩] [0])
 (.seq (.region [⟨some 1,.build false (.arr 64 .leaf z64) [(0,(.c (.int .u8 0))),(1,(.c (.int .u8 1)))],none,[]⟩,
 ⟨none,.store false (.arr 64 .leaf) (.t 0) (.t 1),none,[]⟩] [0])
 (.ret))
def Z3g:Fn:=
 { nparams:=0,nblk:=1,results:=[.cell 0 (.arr 64 .leaf)],body:=Z3g_B }
def Z34_L0:Cd:=
 .seq (.seq (.region [⟨some 16,.mv (.t 7),none,[]⟩,
 ⟨some 17,.bin .mul (.c (.int .i64 2)) (.t 16),none,[]⟩,
 ⟨some 18,.mv (.t 5),none,[]⟩,
 ⟨some 19,.bin .leq (.t 17) (.t 18),none,[]⟩] [0,3,5,6,7,19])
 (.cond (.t 19)
 (.skip)
 (.exit 0)))
 (.seq (.block 1 (.seq (.region [⟨some 22,.mv (.t 0),none,[]⟩,
 ⟨some 23,.load (.arr 64 .leaf) (.t 6),none,[]⟩,
 ⟨some 24,.mv (.t 0),none,[]⟩,
 ⟨some 25,.load (.arr 64 .leaf) (.t 3),none,[]⟩,
 ⟨some 26,.call .flat [] (.f F3e) [(.t 22),(.t 23),(.t 24),(.t 25)],none,[]⟩,
 ⟨none,.store false (.arr 64 .leaf) (.t 6) (.t 26),none,[]⟩] [0,3,5,6,7])
 (.seq (.region [⟨some 27,.mv (.t 0),none,[]⟩,
 ⟨some 28,.load (.arr 64 .leaf) (.t 3),none,[]⟩,
 ⟨some 29,.mv (.t 0),none,[]⟩,
 ⟨some 30,.load (.arr 64 .leaf) (.t 6),none,[]⟩,
 ⟨some 31,.call .flat [] (.f F3g) [],none,[]⟩,
 ⟨some 32,.call .flat [] (.f F2r) [(.t 29),(.t 30),(.t 31),(.c (.int .i64 (-1)))],none,[]⟩,
 ⟨some 33,.call .flat [] (.f F31) [(.t 27),(.t 28),(.t 32)],none,[]⟩,
 ⟨some 34,.call .flat [] (.f F2w) [(.t 33)],none,[]⟩,
 ⟨some 35,.bin .neq (.t 34) (.c (.int .i64 0)),none,[]⟩] [0,3,5,6,7,35])
 (.cond (.t 35)
 (.seq (.region [⟨some 4,.mv (.c (.bool false)),none,[]⟩] [4])
 (.ret))
 (.skip)))))
 (.region [⟨some 20,.mv (.t 7),none,[]⟩,
 ⟨some 21,.bin .add (.t 20) (.c (.int .i64 1)),none,[]⟩,
 ⟨some 7,.mv (.t 21),none,[]⟩] [0,3,5,6,7]))
def Z34_B:Cd:=
 .seq (.region [⟨some 3,.box false 0 (.t 1),none,[]⟩,
 ⟨some 4,.mv (.c (.bool false)),none,[]⟩] [0,3])
 (.seq (.region [⟨some 8,.load (.arr 64 .leaf) (.t 3),none,[]⟩,
 ⟨some 9,.call .flat [] (.f F2w) [(.t 8)],none,[]⟩,
 ⟨some 10,.mv (.t 0),none,[]⟩,
 ⟨some 11,.call .flat [] (.f F3g) [],none,[]⟩,
 ⟨some 12,.load (.arr 64 .leaf) (.t 3),none,[]⟩,
 ⟨some 13,.call .flat [] (.f F36) [(.t 10),(.t 11),(.t 12)],none,[]⟩,
 ⟨some 6,.box false 1 (.c (.arr 64 .leaf z64)),none,[]⟩,
 ⟨some 5,.mv (.t 9),none,[]⟩,
 ⟨none,.store false (.arr 64 .leaf) (.t 6) (.t 13),none,[]⟩] [0,3,5,6])
 (.seq (.seq (.region [⟨some 14,.mv (.t 5),none,[]⟩,
 ⟨some 15,.bin .lss (.t 14) (.c (.int .i64 1)),none,[]⟩] [0,3,5,6,15])
 (.cond (.t 15)
 (.seq (.region [⟨some 4,.mv (.c (.bool false)),none,[]⟩] [4])
 (.ret))
 (.skip)))
 (.seq (.seq (.region [⟨some 7,.mv (.c (.int .i64 1)),none,[]⟩] [0,3,5,6,7])
 (.block 0 (.loop (Z34_L0))))
 (.seq (.region [⟨some 4,.mv (.c (.bool true)),none,[]⟩] [4])
 (.ret)))))
def Z34:Fn:=
 { nparams:=2,nblk:=2,results:=[.tmp 4],body:=Z34_B }
def Z30_L0:Cd:=
 .seq (.seq (.region [⟨some 12,.mv (.t 4),none,[]⟩,
 ⟨some 13,.mv (.t 0),none,[]⟩,
 ⟨some 14,.len false (.t 13),none,[]⟩,
 ⟨some 15,.bin .lss (.t 12) (.t 14),none,[]⟩,
 ⟨some 16,.mv (.t 15),none,[]⟩,
 ⟨some 17,.mv (.t 4),some (16,true),[]⟩,
 ⟨some 18,.bin .lss (.t 17) (.c (.int .i64 4096)),some (16,true),[]⟩,
 ⟨some 19,.pick (.t 16) (.t 18) (.c (.bool false)),none,[]⟩] [0,3,4,19])
 (.cond (.t 19)
 (.skip)
 (.exit 0)))
 (.seq (.block 1 (.region [⟨some 22,.mv (.t 3),none,[]⟩,
 ⟨some 23,.mv (.t 3),none,[]⟩,
 ⟨some 24,.chk (.t 23),none,[]⟩,
 ⟨some 25,.fldA [.leaf,.leaf,.leaf] (.t 24) 2,none,[]⟩,
 ⟨some 26,.load .leaf (.t 25),none,[]⟩,
 ⟨some 27,.bin .mul (.t 26) (.c (.int .u64 1099511628211)),none,[]⟩,
 ⟨some 28,.mv (.t 0),none,[]⟩,
 ⟨some 29,.mv (.t 4),none,[]⟩,
 ⟨some 30,.idxA none .leaf (.t 28) (.t 29),none,[]⟩,
 ⟨some 31,.load .leaf (.t 30),none,[]⟩,
 ⟨some 32,.conv .u64 (.t 31),none,[]⟩,
 ⟨some 33,.bin .add (.t 27) (.t 32),none,[]⟩,
 ⟨some 34,.bin .add (.t 33) (.c (.int .u64 61)),none,[]⟩,
 ⟨some 35,.chk (.t 22),none,[]⟩,
 ⟨some 36,.fldA [.leaf,.leaf,.leaf] (.t 35) 2,none,[]⟩,
 ⟨none,.store false .leaf (.t 36) (.t 34),none,[]⟩] [0,3,4]))
 (.region [⟨some 20,.mv (.t 4),none,[]⟩,
 ⟨some 21,.bin .add (.t 20) (.c (.int .i64 1)),none,[]⟩,
 ⟨some 4,.mv (.t 21),none,[]⟩] [0,3,4]))
def Z30_B:Cd:=
 .seq (.region [⟨some 2,.mv (.c .nilp),none,[]⟩] [0])
 (.seq (.region [⟨some 5,.mv (.t 0),none,[]⟩,
 ⟨some 6,.mv (.t 0),none,[]⟩,
 ⟨some 7,.len false (.t 6),none,[]⟩,
 ⟨some 8,.conv .u64 (.t 7),none,[]⟩,
 ⟨some 9,.bin .add (.c (.int .u64 12251)) (.t 8),none,[]⟩,
 ⟨some 10,.build true (.st [.leaf,.leaf,.leaf] [(.sl .leaf []),(.int .i64 0),(.int .u64 0)]) [(0,(.t 5)),(2,(.t 9))],none,[]⟩,
 ⟨some 11,.box false 0 (.t 10),none,[]⟩,
 ⟨some 3,.mv (.t 11),none,[]⟩] [0,3])
 (.seq (.seq (.region [⟨some 4,.mv (.c (.int .i64 0)),none,[]⟩] [0,3,4])
 (.block 0 (.loop (Z30_L0))))
 (.seq (.region [⟨some 37,.mv (.t 3),none,[]⟩,
 ⟨some 2,.mv (.t 37),none,[]⟩] [2])
 (.ret))))
def Z30:Fn:=
 { nparams:=1,nblk:=1,results:=[.tmp 2],body:=Z30_B }
def Z3a_B:Cd:=
 .seq (.region [⟨some 4,.mv (.c (.int .i64 0)),none,[]⟩] [0,1])
 (.seq (.seq (.region [⟨some 6,.mv (.t 1),none,[]⟩,
 ⟨some 7,.bin .lss (.t 6) (.c (.int .i64 1)),none,[]⟩] [0,1,7])
 (.cond (.t 7)
 (.seq (.region [⟨some 4,.mv (.c (.int .i64 0)),none,[]⟩] [4])
 (.ret))
 (.skip)))
 (.seq (.region [⟨some 8,.mv (.t 0),none,[]⟩,
 ⟨some 9,.mv (.t 0),none,[]⟩,
 ⟨some 10,.chk (.t 9),none,[]⟩,
 ⟨some 11,.fldA [.leaf,.leaf,.leaf] (.t 10) 2,none,[]⟩,
 ⟨some 12,.load .leaf (.t 11),none,[]⟩,
 ⟨some 13,.bin .mul (.t 12) (.c (.int .u64 6364136223846793005)),none,[]⟩,
 ⟨some 14,.bin .add (.t 13) (.c (.int .u64 1442695040888963407)),none,[]⟩,
 ⟨some 15,.chk (.t 8),none,[]⟩,
 ⟨some 16,.fldA [.leaf,.leaf,.leaf] (.t 15) 2,none,[]⟩,
 ⟨none,.store false .leaf (.t 16) (.t 14),none,[]⟩] [0,1])
 (.seq (.region [⟨some 17,.mv (.t 0),none,[]⟩,
 ⟨some 18,.chk (.t 17),none,[]⟩,
 ⟨some 19,.fldA [.leaf,.leaf,.leaf] (.t 18) 2,none,[]⟩,
 ⟨some 20,.load .leaf (.t 19),none,[]⟩,
 ⟨some 21,.bin .shr (.t 20) (.c (.int .u64 33)),none,[]⟩,
 ⟨some 22,.bin .and (.t 21) (.c (.int .u64 16777215)),none,[]⟩,
 ⟨some 23,.conv .i64 (.t 22),none,[]⟩,
 ⟨some 5,.mv (.t 23),none,[]⟩] [0,1,5])
 (.seq (.seq (.region [⟨some 24,.mv (.t 0),none,[]⟩,
 ⟨some 25,.chk (.t 24),none,[]⟩,
 ⟨some 26,.fldA [.leaf,.leaf,.leaf] (.t 25) 1,none,[]⟩,
 ⟨some 27,.load .leaf (.t 26),none,[]⟩,
 ⟨some 28,.mv (.t 0),none,[]⟩,
 ⟨some 29,.chk (.t 28),none,[]⟩,
 ⟨some 30,.fldA [.leaf,.leaf,.leaf] (.t 29) 0,none,[]⟩,
 ⟨some 31,.load .leaf (.t 30),none,[]⟩,
 ⟨some 32,.len false (.t 31),none,[]⟩,
 ⟨some 33,.bin .lss (.t 27) (.t 32),none,[]⟩] [0,1,5,33])
 (.cond (.t 33)
 (.seq (.region [⟨some 34,.mv (.t 5),none,[]⟩,
 ⟨some 35,.mv (.t 0),none,[]⟩,
 ⟨some 36,.chk (.t 35),none,[]⟩,
 ⟨some 37,.fldA [.leaf,.leaf,.leaf] (.t 36) 0,none,[]⟩,
 ⟨some 38,.load .leaf (.t 37),none,[]⟩,
 ⟨some 39,.mv (.t 0),none,[]⟩,
 ⟨some 40,.chk (.t 39),none,[]⟩,
 ⟨some 41,.fldA [.leaf,.leaf,.leaf] (.t 40) 1,none,[]⟩,
 ⟨some 42,.load .leaf (.t 41),none,[]⟩,
 ⟨some 43,.idxA none .leaf (.t 38) (.t 42),none,[]⟩,
 ⟨some 44,.load .leaf (.t 43),none,[]⟩,
 ⟨some 45,.conv .i64 (.t 44),none,[]⟩,
 ⟨some 46,.bin .add (.t 34) (.t 45),none,[]⟩,
 ⟨some 5,.mv (.t 46),none,[]⟩] [0,1,5])
 (.region [⟨some 47,.mv (.t 0),none,[]⟩,
 ⟨some 48,.mv (.t 0),none,[]⟩,
 ⟨some 49,.chk (.t 48),none,[]⟩,
 ⟨some 50,.fldA [.leaf,.leaf,.leaf] (.t 49) 1,none,[]⟩,
 ⟨some 51,.load .leaf (.t 50),none,[]⟩,
 ⟨some 52,.bin .add (.t 51) (.c (.int .i64 1)),none,[]⟩,
 ⟨some 53,.chk (.t 47),none,[]⟩,
 ⟨some 54,.fldA [.leaf,.leaf,.leaf] (.t 53) 1,none,[]⟩,
 ⟨none,.store false .leaf (.t 54) (.t 52),none,[]⟩] [1,5]))
 (.skip)))
 (.seq (.region [⟨some 55,.mv (.t 5),none,[]⟩,
 ⟨some 56,.mv (.t 1),none,[]⟩,
 ⟨some 57,.bin .rem (.t 55) (.t 56),none,[]⟩,
 ⟨some 4,.mv (.t 57),none,[]⟩] [4])
 (.ret))))))
def Z3a:Fn:=
 { nparams:=2,nblk:=0,results:=[.tmp 4],body:=Z3a_B }
def Z2z_L0:Cd:=
 .seq (.seq (.region [⟨some 21,.mv (.t 10),none,[]⟩,
 ⟨some 22,.mv (.t 9),none,[]⟩,
 ⟨some 23,.bin .lss (.t 21) (.t 22),none,[]⟩] [0,1,2,6,7,8,9,10,23])
 (.cond (.t 23)
 (.skip)
 (.exit 2)))
 (.seq (.block 3 (.region [⟨some 26,.mv (.t 10),none,[]⟩,
 ⟨some 27,.mv (.t 0),none,[]⟩,
 ⟨some 28,.mv (.t 1),none,[]⟩,
 ⟨some 29,.call .heap [] (.f F3a) [(.t 27),(.t 28)],none,[]⟩,
 ⟨some 30,.conv .u8 (.t 29),none,[]⟩,
 ⟨some 31,.idxA (some 64) .leaf (.t 7) (.t 26),none,[]⟩,
 ⟨none,.store false .leaf (.t 31) (.t 30),none,[]⟩] [0,1,2,6,7,8,9,10]))
 (.region [⟨some 24,.mv (.t 10),none,[]⟩,
 ⟨some 25,.bin .add (.t 24) (.c (.int .i64 1)),none,[]⟩,
 ⟨some 10,.mv (.t 25),none,[]⟩] [0,1,2,6,7,8,9,10]))
def Z2z_L1:Cd:=
 .seq (.seq (.region [⟨some 12,.mv (.t 8),none,[]⟩,
 ⟨some 13,.bin .lss (.t 12) (.c (.int .i64 4)),none,[]⟩] [0,1,2,6,7,8,13])
 (.cond (.t 13)
 (.skip)
 (.exit 0)))
 (.seq (.block 1 (.seq (.region [⟨some 16,.mv (.t 0),none,[]⟩,
 ⟨some 17,.mv (.t 2),none,[]⟩,
 ⟨some 18,.call .heap [] (.f F3a) [(.t 16),(.t 17)],none,[]⟩,
 ⟨some 19,.bin .add (.c (.int .i64 1)) (.t 18),none,[]⟩,
 ⟨some 9,.mv (.t 19),none,[]⟩] [0,1,2,6,7,8,9])
 (.seq (.region [⟨some 20,.build false (.arr 64 .leaf z64) [],none,[]⟩,
 ⟨none,.store false (.arr 64 .leaf) (.t 7) (.t 20),none,[]⟩] [0,1,2,6,7,8,9])
 (.seq (.seq (.region [⟨some 10,.mv (.c (.int .i64 0)),none,[]⟩] [0,1,2,6,7,8,9,10])
 (.block 2 (.loop (Z2z_L0))))
 (.seq (.region [⟨some 32,.mv (.t 9),none,[]⟩,
 ⟨some 33,.idxA (some 64) .leaf (.t 7) (.t 32),none,[]⟩,
 ⟨none,.store false .leaf (.t 33) (.c (.int .u8 1)),none,[]⟩] [0,1,2,6,7,8])
 (.seq (.region [⟨some 34,.mv (.t 0),none,[]⟩,
 ⟨some 35,.call .heap [] (.f F3a) [(.t 34),(.c (.int .i64 3))],none,[]⟩,
 ⟨some 36,.bin .eql (.t 35) (.c (.int .i64 0)),none,[]⟩,
 ⟨some 37,.mv (.t 36),none,[]⟩,
 ⟨some 38,.mv (.t 1),some (37,false),[]⟩,
 ⟨some 39,.load (.arr 64 .leaf) (.t 7),some (37,false),[]⟩,
 ⟨some 40,.call .flat [] (.f F34) [(.t 38),(.t 39)],some (37,false),[]⟩,
 ⟨some 41,.pick (.t 37) (.c (.bool true)) (.t 40),none,[]⟩] [0,1,2,6,7,8,41])
 (.cond (.t 41)
 (.seq (.region [⟨some 42,.load (.arr 64 .leaf) (.t 7),none,[]⟩,
 ⟨none,.store false (.arr 64 .leaf) (.t 6) (.t 42),none,[]⟩] [6])
 (.ret))
 (.skip))))))))
 (.region [⟨some 14,.mv (.t 8),none,[]⟩,
 ⟨some 15,.bin .add (.t 14) (.c (.int .i64 1)),none,[]⟩,
 ⟨some 8,.mv (.t 15),none,[]⟩] [0,1,2,6,7,8]))
def Z2z_B:Cd:=
 .seq (.region [⟨some 6,.box false 0 (.c (.arr 64 .leaf z64)),none,[]⟩] [0,1,2,6])
 (.seq (.region [⟨some 11,.call .flat [] (.f F3g) [],none,[]⟩,
 ⟨some 7,.box false 1 (.c (.arr 64 .leaf z64)),none,[]⟩,
 ⟨none,.store false (.arr 64 .leaf) (.t 7) (.t 11),none,[]⟩] [0,1,2,6,7])
 (.seq (.seq (.region [⟨some 8,.mv (.c (.int .i64 0)),none,[]⟩] [0,1,2,6,7,8])
 (.block 0 (.loop (Z2z_L1))))
 (.seq (.region [⟨some 43,.load (.arr 64 .leaf) (.t 7),none,[]⟩,
 ⟨none,.store false (.arr 64 .leaf) (.t 6) (.t 43),none,[]⟩] [6])
 (.ret))))
def Z2z:Fn:=
 { nparams:=3,nblk:=2,results:=[.cell 6 (.arr 64 .leaf)],body:=Z2z_B }
def ir_spec_l01Draw_L0:Cd:=
 .seq (.seq (.region [⟨some 15,.mv (.t 8),none,[]⟩,
 ⟨some 16,.bin .geq (.t 15) (.c (.int .i64 0)),none,[]⟩] [0,1,6,7,8,16])
 (.cond (.t 16)
 (.skip)
 (.exit 0)))
 (.seq (.block 1 (.seq (.region [⟨some 19,.mv (.t 0),none,[]⟩,
 ⟨some 20,.call .heap [] (.f F3a) [(.t 19),(.c (.int .i64 3))],none,[]⟩,
 ⟨some 21,.bin .gtr (.t 20) (.c (.int .i64 0)),none,[]⟩] [0,1,6,7,8,21])
 (.cond (.t 21)
 (.region [⟨some 22,.mv (.t 8),none,[]⟩,
 ⟨some 23,.mv (.t 0),none,[]⟩,
 ⟨some 24,.mv (.t 1),none,[]⟩,
 ⟨some 25,.call .heap [] (.f F3a) [(.t 23),(.t 24)],none,[]⟩,
 ⟨some 26,.conv .u8 (.t 25),none,[]⟩,
 ⟨some 27,.idxA (some 64) .leaf (.t 7) (.t 22),none,[]⟩,
 ⟨none,.store false .leaf (.t 27) (.t 26),none,[]⟩] [0,1,6,7,8])
 (.skip))))
 (.region [⟨some 17,.mv (.t 8),none,[]⟩,
 ⟨some 18,.bin .sub (.t 17) (.c (.int .i64 1)),none,[]⟩,
 ⟨some 8,.mv (.t 18),none,[]⟩] [0,1,6,7,8]))
def ir_spec_l01Draw_B:Cd:=
 .seq (.region [⟨some 6,.box false 0 (.c (.arr 64 .leaf z64)),none,[]⟩] [0,1,2,6])
 (.seq (.region [⟨some 9,.build false (.arr 64 .leaf z64) [],none,[]⟩,
 ⟨some 7,.box false 1 (.c (.arr 64 .leaf z64)),none,[]⟩,
 ⟨none,.store false (.arr 64 .leaf) (.t 7) (.t 9),none,[]⟩] [0,1,2,6,7])
 (.seq (.seq (.region [⟨some 10,.mv (.t 0),none,[]⟩,
 ⟨some 11,.mv (.t 2),none,[]⟩,
 ⟨some 12,.bin .add (.t 11) (.c (.int .i64 2)),none,[]⟩,
 ⟨some 13,.call .heap [] (.f F3a) [(.t 10),(.t 12)],none,[]⟩,
 ⟨some 14,.bin .sub (.t 13) (.c (.int .i64 1)),none,[]⟩,
 ⟨some 8,.mv (.t 14),none,[]⟩] [0,1,6,7,8])
 (.block 0 (.loop (ir_spec_l01Draw_L0))))
 (.seq (.region [⟨some 28,.load (.arr 64 .leaf) (.t 7),none,[]⟩,
 ⟨none,.store false (.arr 64 .leaf) (.t 6) (.t 28),none,[]⟩] [6])
 (.ret))))
def Z2y:Fn:=
 { nparams:=3,nblk:=2,results:=[.cell 6 (.arr 64 .leaf)],body:=ir_spec_l01Draw_B }
def Z3d_B:Cd:=
 .seq (.region [⟨some 4,.mv (.c (.int .i64 0)),none,[]⟩] [0,1])
 (.seq (.region [⟨some 5,.mv (.t 1),none,[]⟩,
 ⟨some 6,.mv (.t 0),none,[]⟩,
 ⟨some 7,.mv (.t 1),none,[]⟩,
 ⟨some 8,.len false (.t 7),none,[]⟩,
 ⟨some 9,.call .heap [] (.f F3a) [(.t 6),(.t 8)],none,[]⟩,
 ⟨some 10,.idxA none .leaf (.t 5) (.t 9),none,[]⟩,
 ⟨some 11,.load .leaf (.t 10),none,[]⟩,
 ⟨some 4,.mv (.t 11),none,[]⟩] [4])
 (.ret))
def Z3d:Fn:=
 { nparams:=2,nblk:=0,results:=[.tmp 4],body:=Z3d_B }
def Z2s_B:Cd:=
 .seq (.region [⟨some 5,.box false 0 (.t 2),none,[]⟩,
 ⟨some 6,.box false 1 (.c (.arr 64 .leaf z64)),none,[]⟩] [0,1,5,6])
 (.seq (.seq (.region [⟨some 7,.mv (.t 0),none,[]⟩,
 ⟨some 8,.call .heap [] (.f F3a) [(.t 7),(.c (.int .i64 40))],none,[]⟩,
 ⟨some 9,.bin .eql (.t 8) (.c (.int .i64 0)),none,[]⟩] [0,1,5,6,9])
 (.cond (.t 9)
 (.region [⟨some 10,.mv (.t 0),none,[]⟩,
 ⟨some 11,.call .heap [] (.f F3a) [(.t 10),(.c (.int .i64 64))],none,[]⟩,
 ⟨some 12,.mv (.t 0),none,[]⟩,
 ⟨some 13,.mv (.t 1),none,[]⟩,
 ⟨some 14,.buildSl false 2 .leaf (.int .i64 0) 4 [(0,(.t 13)),(1,(.c (.int .i64 7))),(2,(.c (.int .i64 255))),(3,(.c (.int .i64 1)))],none,[]⟩,
 ⟨some 15,.call .heap [] (.f F3d) [(.t 12),(.t 14)],none,[]⟩,
 ⟨some 16,.conv .u8 (.t 15),none,[]⟩,
 ⟨some 17,.idxA (some 64) .leaf (.t 5) (.t 11),none,[]⟩,
 ⟨none,.store false .leaf (.t 17) (.t 16),none,[]⟩] [5,6])
 (.skip)))
 (.seq (.region [⟨some 18,.load (.arr 64 .leaf) (.t 5),none,[]⟩,
 ⟨none,.store false (.arr 64 .leaf) (.t 6) (.t 18),none,[]⟩] [6])
 (.ret)))
def Z2s:Fn:=
 { nparams:=3,nblk:=3,results:=[.cell 6 (.arr 64 .leaf)],body:=Z2s_B }
def Z39_B:Cd:=
 .seq (.region [⟨some 4,.mv (.c (.int .i64 0)),none,[]⟩] [0,1])
 (.seq (.seq (.region [⟨some 5,.mv (.t 0),none,[]⟩,
 ⟨some 6,.call .heap [] (.f F3a) [(.t 5),(.c (.int .i64 14))],none,[]⟩,
 ⟨some 7,.bin .eql (.t 6) (.c (.int .i64 0)),none,[]⟩] [0,1,7])
 (.cond (.t 7)
 (.seq (.region [⟨some 8,.mv (.t 0),none,[]⟩,
 ⟨some 9,.mv (.t 1),none,[]⟩,
 ⟨some 10,.bin .add (.t 9) (.c (.int .i64 1)),none,[]⟩,
 ⟨some 11,.buildSl false 0 .leaf (.int .i64 0) 4 [(0,(.c (.int .i64 (-1)))),(1,(.t 10)),(2,(.c (.int .i64 1099511627776))),(3,(.c (.int .i64 (-4611686018427387904))))],none,[]⟩,
 ⟨some 12,.call .heap [] (.f F3d) [(.t 8),(.t 11)],none,[]⟩,
 ⟨some 4,.mv (.t 12),none,[]⟩] [4])
 (.ret))
 (.skip)))
 (.seq (.region [⟨some 13,.mv (.t 0),none,[]⟩,
 ⟨some 14,.mv (.t 1),none,[]⟩,
 ⟨some 15,.bin .add (.t 14) (.c (.int .i64 1)),none,[]⟩,
 ⟨some 16,.call .heap [] (.f F3a) [(.t 13),(.t 15)],none,[]⟩,
 ⟨some 4,.mv (.t 16),none,[]⟩] [4])
 (.ret)))
def Z39:Fn:=
 { nparams:=2,nblk:=1,results:=[.tmp 4],body:=Z39_B }
end Pe

/-
 Functions of the program in the small form,printed by a program.
-/
namespace Pe
open Go
def Z3k_L0:Cd:=
 .seq (.seq (.region [⟨some 44,.load (.arr 64 .leaf) (.t 3),none,[]⟩,
 ⟨some 45,.call .flat [] (.f F2w) [(.t 44)],none,[]⟩,
 ⟨some 46,.mv (.t 6),none,[]⟩,
 ⟨some 47,.bin .geq (.t 45) (.t 46),none,[]⟩] [0,3,5,6,7,8,9,47])
 (.cond (.t 47)
 (.skip)
 (.exit 4)))
 (.block 5 (.seq (.region [⟨some 49,.mv (.t 0),none,[]⟩,
 ⟨some 50,.load (.arr 64 .leaf) (.t 3),none,[]⟩,
 ⟨some 51,.load (.arr 64 .leaf) (.t 8),none,[]⟩,
 ⟨some 52,.call .flat [] (.f F2x) [(.t 49),(.t 50),(.t 51)],none,[]⟩,
 ⟨some 48,.mv (.t 52),none,[]⟩,
 ⟨some 53,.ext (.t 48) 0,none,[]⟩,
 ⟨some 54,.ext (.t 48) 1,none,[]⟩,
 ⟨some 10,.box false 3 (.c (.arr 64 .leaf z64)),none,[]⟩,
 ⟨some 11,.box false 4 (.c (.arr 64 .leaf z64)),none,[]⟩,
 ⟨none,.store false (.arr 64 .leaf) (.t 10) (.t 53),none,[]⟩,
 ⟨none,.store false (.arr 64 .leaf) (.t 11) (.t 54),none,[]⟩] [0,3,5,6,7,8,9,10,11])
 (.seq (.seq (.region [⟨some 55,.load (.arr 64 .leaf) (.t 11),none,[]⟩,
 ⟨some 56,.build false (.arr 64 .leaf z64) [],none,[]⟩,
 ⟨some 57,.eqv true (.arr 64 .leaf .int) (.t 55) (.t 56),none,[]⟩] [0,3,5,6,7,8,9,10,57])
 (.cond (.t 57)
 (.exit 4)
 (.skip)))
 (.seq (.region [⟨some 58,.load (.arr 64 .leaf) (.t 10),none,[]⟩,
 ⟨none,.store false (.arr 64 .leaf) (.t 3) (.t 58),none,[]⟩] [0,3,5,6,7,8,9])
 (.region [⟨some 59,.mv (.t 9),none,[]⟩,
 ⟨some 60,.bin .add (.t 59) (.c (.int .i64 1)),none,[]⟩,
 ⟨some 9,.mv (.t 60),none,[]⟩] [0,3,5,6,7,8,9])))))
def Z3k_L1:Cd:=
 .seq (.seq (.region [⟨some 26,.mv (.t 7),none,[]⟩,
 ⟨some 27,.mv (.t 0),none,[]⟩,
 ⟨some 28,.mv (.t 6),none,[]⟩,
 ⟨some 29,.call .flat [] (.f F2v) [(.t 27),(.t 28)],none,[]⟩,
 ⟨some 30,.bin .mul (.c (.int .i64 2)) (.t 29),none,[]⟩,
 ⟨some 31,.bin .lss (.t 26) (.t 30),none,[]⟩,
 ⟨some 32,.mv (.t 31),none,[]⟩,
 ⟨some 33,.mv (.t 6),some (32,true),[]⟩,
 ⟨some 34,.bin .mul (.c (.int .i64 2)) (.t 33),some (32,true),[]⟩,
 ⟨some 35,.load (.arr 64 .leaf) (.t 3),some (32,true),[]⟩,
 ⟨some 36,.call .flat [] (.f F2w) [(.t 35)],some (32,true),[]⟩,
 ⟨some 37,.bin .leq (.t 34) (.t 36),some (32,true),[]⟩,
 ⟨some 38,.pick (.t 32) (.t 37) (.c (.bool false)),none,[]⟩] [0,3,5,6,7,38])
 (.cond (.t 38)
 (.skip)
 (.exit 2)))
 (.seq (.block 3 (.seq (.region [⟨some 41,.mv (.t 0),none,[]⟩,
 ⟨some 42,.mv (.t 7),none,[]⟩,
 ⟨some 43,.call .flat [] (.f F3b) [(.t 41),(.t 42)],none,[]⟩,
 ⟨some 8,.box false 2 (.c (.arr 64 .leaf z64)),none,[]⟩,
 ⟨none,.store false (.arr 64 .leaf) (.t 8) (.t 43),none,[]⟩,
 ⟨some 9,.mv (.c (.int .i64 0)),none,[]⟩] [0,3,5,6,7,8,9])
 (.seq (.block 4 (.loop (Z3k_L0)))
 (.seq (.region [⟨some 61,.mv (.t 9),none,[]⟩,
 ⟨some 62,.bin .gtr (.t 61) (.c (.int .i64 0)),none,[]⟩] [0,3,5,6,7,8,9,62])
 (.cond (.t 62)
 (.region [⟨some 63,.mv (.t 5),none,[]⟩,
 ⟨some 64,.load (.arr 64 .leaf) (.t 8),none,[]⟩,
 ⟨some 65,.mv (.t 9),none,[]⟩,
 ⟨some 66,.build false (.st [(.arr 64 .leaf),.leaf] [(.arr 64 .leaf z64),(.int .i64 0)]) [(0,(.t 64)),(1,(.t 65))],none,[]⟩,
 ⟨some 67,.buildSl false 5 (.st [(.arr 64 .leaf),.leaf]) (.st [(.arr 64 .leaf),.leaf] [(.arr 64 .leaf z64),(.int .i64 0)]) 1 [(0,(.t 66))],none,[]⟩,
 ⟨some 68,.append (.st [(.arr 64 .leaf),.leaf]) 6 72 (.t 63) (.t 67),none,[]⟩,
 ⟨some 5,.mv (.t 68),none,[]⟩] [0,3,5,6,7])
 (.skip))))))
 (.region [⟨some 39,.mv (.t 7),none,[]⟩,
 ⟨some 40,.bin .add (.t 39) (.c (.int .i64 1)),none,[]⟩,
 ⟨some 7,.mv (.t 40),none,[]⟩] [0,3,5,6,7]))
def Z3k_L2:Cd:=
 .seq (.seq (.region [⟨some 16,.mv (.t 6),none,[]⟩,
 ⟨some 17,.bin .mul (.c (.int .i64 2)) (.t 16),none,[]⟩,
 ⟨some 18,.load (.arr 64 .leaf) (.t 3),none,[]⟩,
 ⟨some 19,.call .flat [] (.f F2w) [(.t 18)],none,[]⟩,
 ⟨some 20,.bin .leq (.t 17) (.t 19),none,[]⟩] [0,3,5,6,20])
 (.cond (.t 20)
 (.skip)
 (.exit 0)))
 (.seq (.block 1 (.seq (.region [⟨some 23,.mv (.t 0),none,[]⟩,
 ⟨some 24,.mv (.t 6),none,[]⟩,
 ⟨some 25,.call .flat [] (.f F2v) [(.t 23),(.t 24)],none,[]⟩,
 ⟨some 7,.mv (.t 25),none,[]⟩] [0,3,5,6,7])
 (.block 2 (.loop (Z3k_L1)))))
 (.region [⟨some 21,.mv (.t 6),none,[]⟩,
 ⟨some 22,.bin .add (.t 21) (.c (.int .i64 1)),none,[]⟩,
 ⟨some 6,.mv (.t 22),none,[]⟩] [0,3,5,6]))
def Z3k_B:Cd:=
 .seq (.region [⟨some 3,.box false 0 (.t 1),none,[]⟩,
 ⟨some 4,.mv (.c (.sl (.st [(.arr 64 .leaf),.leaf]) [])),none,[]⟩] [0,3])
 (.seq (.region [⟨some 15,.buildSl false 1 (.st [(.arr 64 .leaf),.leaf]) (.st [(.arr 64 .leaf),.leaf] [(.arr 64 .leaf z64),(.int .i64 0)]) 0 [],none,[]⟩,
 ⟨some 5,.mv (.t 15),none,[]⟩] [0,3,5])
 (.seq (.seq (.region [⟨some 6,.mv (.c (.int .i64 1)),none,[]⟩] [0,3,5,6])
 (.block 0 (.loop (Z3k_L2))))
 (.seq (.seq (.region [⟨some 69,.load (.arr 64 .leaf) (.t 3),none,[]⟩,
 ⟨some 70,.call .flat [] (.f F2w) [(.t 69)],none,[]⟩,
 ⟨some 12,.mv (.t 70),none,[]⟩] [0,3,5,12])
 (.seq (.region [⟨some 71,.mv (.t 12),none,[]⟩,
 ⟨some 72,.bin .gtr (.t 71) (.c (.int .i64 0)),none,[]⟩] [0,3,5,12,72])
 (.cond (.t 72)
 (.seq (.region [⟨some 73,.mv (.t 0),none,[]⟩,
 ⟨some 74,.build false (.arr 64 .leaf z64) [],none,[]⟩,
 ⟨some 75,.load (.arr 64 .leaf) (.t 3),none,[]⟩,
 ⟨some 76,.mv (.t 0),none,[]⟩,
 ⟨some 77,.mv (.t 12),none,[]⟩,
 ⟨some 78,.idxA (some 64) .leaf (.t 3) (.t 77),none,[]⟩,
 ⟨some 79,.load .leaf (.t 78),none,[]⟩,
 ⟨some 80,.call .flat [] (.f F33) [(.t 76),(.t 79)],none,[]⟩,
 ⟨some 81,.conv .i64 (.t 80),none,[]⟩,
 ⟨some 82,.call .flat [] (.f F2r) [(.t 73),(.t 74),(.t 75),(.t 81)],none,[]⟩,
 ⟨some 13,.box false 7 (.c (.arr 64 .leaf z64)),none,[]⟩,
 ⟨none,.store false (.arr 64 .leaf) (.t 13) (.t 82),none,[]⟩] [5,13])
 (.seq (.region [⟨some 83,.mv (.t 5),none,[]⟩,
 ⟨some 84,.len false (.t 83),none,[]⟩,
 ⟨some 85,.bin .sub (.t 84) (.c (.int .i64 1)),none,[]⟩,
 ⟨some 14,.mv (.t 85),none,[]⟩] [5,13,14])
 (.seq (.region [⟨some 86,.mv (.t 14),none,[]⟩,
 ⟨some 87,.bin .geq (.t 86) (.c (.int .i64 0)),none,[]⟩,
 ⟨some 88,.mv (.t 87),none,[]⟩,
 ⟨some 89,.mv (.t 5),some (88,true),[]⟩,
 ⟨some 90,.mv (.t 14),some (88,true),[]⟩,
 ⟨some 91,.idxA none (.st [(.arr 64 .leaf),.leaf]) (.t 89) (.t 90),some (88,true),[]⟩,
 ⟨some 92,.fldA [(.arr 64 .leaf),.leaf] (.t 91) 0,some (88,true),[]⟩,
 ⟨some 93,.load (.arr 64 .leaf) (.t 92),some (88,true),[]⟩,
 ⟨some 94,.load (.arr 64 .leaf) (.t 13),some (88,true),[]⟩,
 ⟨some 95,.eqv false (.arr 64 .leaf .int) (.t 93) (.t 94),some (88,true),[]⟩,
 ⟨some 96,.pick (.t 88) (.t 95) (.c (.bool false)),none,[]⟩] [5,13,14,96])
 (.cond (.t 96)
 (.region [⟨some 97,.mv (.t 5),none,[]⟩,
 ⟨some 98,.mv (.t 14),none,[]⟩,
 ⟨some 99,.mv (.t 5),none,[]⟩,
 ⟨some 100,.mv (.t 14),none,[]⟩,
 ⟨some 101,.idxA none (.st [(.arr 64 .leaf),.leaf]) (.t 99) (.t 100),none,[]⟩,
 ⟨some 102,.fldA [(.arr 64 .leaf),.leaf] (.t 101) 1,none,[]⟩,
 ⟨some 103,.load .leaf (.t 102),none,[]⟩,
 ⟨some 104,.bin .add (.t 103) (.c (.int .i64 1)),none,[]⟩,
 ⟨some 105,.idxA none (.st [(.arr 64 .leaf),.leaf]) (.t 97) (.t 98),none,[]⟩,
 ⟨some 106,.fldA [(.arr 64 .leaf),.leaf] (.t 105) 1,none,[]⟩,
 ⟨none,.store false .leaf (.t 106) (.t 104),none,[]⟩] [5])
 (.region [⟨some 107,.mv (.t 5),none,[]⟩,
 ⟨some 108,.load (.arr 64 .leaf) (.t 13),none,[]⟩,
 ⟨some 109,.build false (.st [(.arr 64 .leaf),.leaf] [(.arr 64 .leaf z64),(.int .i64 0)]) [(0,(.t 108)),(1,(.c (.int .i64 1)))],none,[]⟩,
 ⟨some 110,.buildSl false 8 (.st [(.arr 64 .leaf),.leaf]) (.st [(.arr 64 .leaf),.leaf] [(.arr 64 .leaf z64),(.int .i64 0)]) 1 [(0,(.t 109))],none,[]⟩,
 ⟨some 111,.append (.st [(.arr 64 .leaf),.leaf]) 9 72 (.t 107) (.t 110),none,[]⟩,
 ⟨some 5,.mv (.t 111),none,[]⟩] [5])))))
 (.skip))))
 (.seq (.region [⟨some 112,.mv (.t 5),none,[]⟩,
 ⟨some 4,.mv (.t 112),none,[]⟩] [4])
 (.ret)))))
def Z3k:Fn:=
 { nparams:=2,nblk:=10,results:=[.tmp 4],body:=Z3k_B }
def Z3j_L0:Cd:=
 .seq (.seq (.region [⟨some 6,.mv (.t 1),none,[]⟩,
 ⟨some 7,.bin .gtr (.t 6) (.c (.int .i64 0)),none,[]⟩] [0,1,5,7])
 (.cond (.t 7)
 (.skip)
 (.exit 0)))
 (.seq (.block 1 (.region [⟨some 10,.mv (.t 5),none,[]⟩,
 ⟨some 11,.mv (.t 0),none,[]⟩,
 ⟨some 12,.bin .mul (.t 10) (.t 11),none,[]⟩,
 ⟨some 5,.mv (.t 12),none,[]⟩] [0,1,5]))
 (.region [⟨some 8,.mv (.t 1),none,[]⟩,
 ⟨some 9,.bin .sub (.t 8) (.c (.int .i64 1)),none,[]⟩,
 ⟨some 1,.mv (.t 9),none,[]⟩] [0,1,5]))
def Z3j_B:Cd:=
 .seq (.region [⟨some 4,.mv (.c (.int .i64 0)),none,[]⟩] [0,1])
 (.seq (.region [⟨some 5,.mv (.c (.int .i64 1)),none,[]⟩] [0,1,5])
 (.seq (.block 0 (.loop (Z3j_L0)))
 (.seq (.region [⟨some 13,.mv (.t 5),none,[]⟩,
 ⟨some 4,.mv (.t 13),none,[]⟩] [4])
 (.ret))))
def Z3j:Fn:=
 { nparams:=2,nblk:=0,results:=[.tmp 4],body:=Z3j_B }
def Z3l_L0:Cd:=
 .seq (.seq (.region [⟨some 44,.mv (.t 12),none,[]⟩,
 ⟨some 45,.bin .gtr (.t 44) (.c (.int .i64 0)),none,[]⟩] [0,4,7,8,9,11,12,45])
 (.cond (.t 45)
 (.skip)
 (.exit 2)))
 (.seq (.block 3 (.region [⟨some 48,.mv (.t 8),none,[]⟩,
 ⟨some 49,.idxA (some 64) .leaf (.t 11) (.c (.int .i64 0)),none,[]⟩,
 ⟨some 50,.load .leaf (.t 49),none,[]⟩,
 ⟨some 51,.conv .i64 (.t 50),none,[]⟩,
 ⟨some 52,.bin .mul (.t 48) (.t 51),none,[]⟩,
 ⟨some 53,.mv (.t 0),none,[]⟩,
 ⟨some 54,.bin .rem (.t 52) (.t 53),none,[]⟩,
 ⟨some 8,.mv (.t 54),none,[]⟩] [0,4,7,8,9,11,12]))
 (.region [⟨some 46,.mv (.t 12),none,[]⟩,
 ⟨some 47,.bin .sub (.t 46) (.c (.int .i64 1)),none,[]⟩,
 ⟨some 12,.mv (.t 47),none,[]⟩] [0,4,7,8,9,11,12]))
def Z3l_L1:Cd:=
 .seq (.seq (.region [⟨some 16,.mv (.t 9),none,[]⟩,
 ⟨some 17,.mv (.t 7),none,[]⟩,
 ⟨some 18,.len false (.t 17),none,[]⟩,
 ⟨some 19,.bin .lss (.t 16) (.t 18),none,[]⟩] [0,4,7,8,9,19])
 (.cond (.t 19)
 (.skip)
 (.exit 0)))
 (.seq (.block 1 (.seq (.region [⟨some 22,.mv (.t 7),none,[]⟩,
 ⟨some 23,.mv (.t 9),none,[]⟩,
 ⟨some 24,.idxA none (.st [(.arr 64 .leaf),.leaf]) (.t 22) (.t 23),none,[]⟩,
 ⟨some 25,.fldA [(.arr 64 .leaf),.leaf] (.t 24) 0,none,[]⟩,
 ⟨some 26,.load (.arr 64 .leaf) (.t 25),none,[]⟩,
 ⟨some 10,.box false 2 (.c (.arr 64 .leaf z64)),none,[]⟩,
 ⟨none,.store false (.arr 64 .leaf) (.t 10) (.t 26),none,[]⟩] [0,4,7,8,9,10])
 (.seq (.region [⟨some 27,.mv (.t 0),none,[]⟩,
 ⟨some 28,.load (.arr 64 .leaf) (.t 4),none,[]⟩,
 ⟨some 29,.mv (.t 0),none,[]⟩,
 ⟨some 30,.load (.arr 64 .leaf) (.t 10),none,[]⟩,
 ⟨some 31,.call .flat [] (.f F2w) [(.t 30)],none,[]⟩,
 ⟨some 32,.call .flat [] (.f F3j) [(.t 29),(.t 31)],none,[]⟩,
 ⟨some 33,.bin .sub (.t 32) (.c (.int .i64 1)),none,[]⟩,
 ⟨some 34,.mv (.t 0),none,[]⟩,
 ⟨some 35,.bin .sub (.t 34) (.c (.int .i64 1)),none,[]⟩,
 ⟨some 36,.bin .quo (.t 33) (.t 35),none,[]⟩,
 ⟨some 37,.load (.arr 64 .leaf) (.t 10),none,[]⟩,
 ⟨some 38,.call .flat [] (.f F3e) [(.t 27),(.t 28),(.t 36),(.t 37)],none,[]⟩,
 ⟨some 11,.box false 3 (.c (.arr 64 .leaf z64)),none,[]⟩,
 ⟨none,.store false (.arr 64 .leaf) (.t 11) (.t 38),none,[]⟩] [0,4,7,8,9,11])
 (.seq (.region [⟨some 39,.mv (.t 7),none,[]⟩,
 ⟨some 40,.mv (.t 9),none,[]⟩,
 ⟨some 41,.idxA none (.st [(.arr 64 .leaf),.leaf]) (.t 39) (.t 40),none,[]⟩,
 ⟨some 42,.fldA [(.arr 64 .leaf),.leaf] (.t 41) 1,none,[]⟩,
 ⟨some 43,.load .leaf (.t 42),none,[]⟩,
 ⟨some 12,.mv (.t 43),none,[]⟩] [0,4,7,8,9,11,12])
 (.block 2 (.loop (Z3l_L0)))))))
 (.region [⟨some 20,.mv (.t 9),none,[]⟩,
 ⟨some 21,.bin .add (.t 20) (.c (.int .i64 1)),none,[]⟩,
 ⟨some 9,.mv (.t 21),none,[]⟩] [0,4,7,8,9]))
def Z3l_B:Cd:=
 .seq (.region [⟨some 4,.box false 0 (.t 1),none,[]⟩,
 ⟨some 5,.box false 1 (.t 2),none,[]⟩,
 ⟨some 6,.mv (.c (.int .i64 0)),none,[]⟩] [0,4,5])
 (.seq (.region [⟨some 13,.mv (.t 0),none,[]⟩,
 ⟨some 14,.load (.arr 64 .leaf) (.t 5),none,[]⟩,
 ⟨some 15,.call .plain [] (.f F3k) [(.t 13),(.t 14)],none,[]⟩,
 ⟨some 7,.mv (.t 15),none,[]⟩,
 ⟨some 8,.mv (.c (.int .i64 1)),none,[]⟩] [0,4,7,8])
 (.seq (.seq (.region [⟨some 9,.mv (.c (.int .i64 0)),none,[]⟩] [0,4,7,8,9])
 (.block 0 (.loop (Z3l_L1))))
 (.seq (.region [⟨some 55,.mv (.t 8),none,[]⟩,
 ⟨some 6,.mv (.t 55),none,[]⟩] [6])
 (.ret))))
def Z3l:Fn:=
 { nparams:=3,nblk:=4,results:=[.tmp 6],body:=Z3l_B }
end Pe

/-
 Functions of the program in the small form,printed by a program.
-/
namespace Pe
open Go
def Z3p_B:Cd:=
 .seq (.region [⟨some 4,.box false 0 (.t 1),none,[]⟩,
 ⟨some 6,.mv (.c (.int .i64 0)),none,[]⟩] [0,2,4])
 (.seq (.block 0 (.seq (.region [⟨some 8,.mv (.t 0),none,[]⟩,
 ⟨some 9,.load (.arr 64 .leaf) (.t 4),none,[]⟩,
 ⟨some 10,.buildSl false 1 (.arr 64 .leaf) (.arr 64 .leaf z64) 1 [(0,(.t 9))],none,[]⟩,
 ⟨some 11,.call .flat [] (.f F2u) [(.t 8),(.t 10)],none,[]⟩,
 ⟨some 12,.bin .neq (.t 11) (.c (.int .i64 0)),none,[]⟩,
 ⟨some 7,.mv (.t 12),none,[]⟩] [0,2,4,7])
 (.cond (.t 7)
 (.seq (.region [⟨some 6,.mv (.c (.int .i64 1)),none,[]⟩] [6])
 (.ret))
 (.seq (.region [⟨some 14,.mv (.t 0),none,[]⟩,
 ⟨some 15,.bin .eql (.t 14) (.c (.int .i64 2)),none,[]⟩,
 ⟨some 16,.mv (.t 15),none,[]⟩,
 ⟨some 17,.load (.arr 64 .leaf) (.t 4),some (16,false),[]⟩,
 ⟨some 18,.call .flat [] (.f F37) [(.t 17)],some (16,false),[]⟩,
 ⟨some 19,.un .not (.t 18),some (16,false),[]⟩,
 ⟨some 20,.pick (.t 16) (.c (.bool true)) (.t 19),none,[]⟩,
 ⟨some 21,.mv (.t 20),none,[]⟩,
 ⟨some 22,.load (.arr 64 .leaf) (.t 4),some (21,false),[]⟩,
 ⟨some 23,.call .flat [] (.f F2w) [(.t 22)],some (21,false),[]⟩,
 ⟨some 24,.mv (.t 2),some (21,false),[]⟩,
 ⟨some 25,.call .flat [] (.f F32) [(.t 23),(.c (.int .i64 1)),(.t 24)],some (21,false),[]⟩,
 ⟨some 26,.un .not (.t 25),some (21,false),[]⟩,
 ⟨some 27,.pick (.t 21) (.c (.bool true)) (.t 26),none,[]⟩,
 ⟨some 13,.mv (.t 27),none,[]⟩] [13])
 (.cond (.t 13)
 (.seq (.region [⟨some 6,.mv (.c (.int .i64 2)),none,[]⟩] [6])
 (.ret))
 (.skip))))))
 (.seq (.region [⟨some 6,.mv (.c (.int .i64 0)),none,[]⟩] [6])
 (.ret)))
def Z3p:Fn:=
 { nparams:=3,nblk:=2,results:=[.tmp 6],body:=Z3p_B }
def Z3r_L0:Cd:=
 .seq (.seq (.region [⟨some 14,.mv (.t 9),none,[]⟩,
 ⟨some 15,.mv (.t 0),none,[]⟩,
 ⟨some 16,.bin .sub (.t 15) (.c (.int .i64 1)),none,[]⟩,
 ⟨some 17,.bin .quo (.t 16) (.c (.int .i64 2)),none,[]⟩,
 ⟨some 18,.bin .lss (.t 14) (.t 17),none,[]⟩] [0,7,8,9,18])
 (.cond (.t 18)
 (.skip)
 (.exit 0)))
 (.seq (.block 1 (.region [⟨some 21,.mv (.t 8),none,[]⟩,
 ⟨some 22,.mv (.t 7),none,[]⟩,
 ⟨some 23,.bin .mul (.t 21) (.t 22),none,[]⟩,
 ⟨some 24,.mv (.t 0),none,[]⟩,
 ⟨some 25,.bin .rem (.t 23) (.t 24),none,[]⟩,
 ⟨some 8,.mv (.t 25),none,[]⟩] [0,7,8,9]))
 (.region [⟨some 19,.mv (.t 9),none,[]⟩,
 ⟨some 20,.bin .add (.t 19) (.c (.int .i64 1)),none,[]⟩,
 ⟨some 9,.mv (.t 20),none,[]⟩] [0,7,8,9]))
def Z3r_B:Cd:=
 .seq (.region [⟨some 4,.box false 0 (.t 1),none,[]⟩,
 ⟨some 5,.box false 1 (.t 2),none,[]⟩,
 ⟨some 6,.mv (.c (.int .i64 0)),none,[]⟩] [0,4,5])
 (.seq (.region [⟨some 10,.mv (.t 0),none,[]⟩,
 ⟨some 11,.load (.arr 64 .leaf) (.t 4),none,[]⟩,
 ⟨some 12,.load (.arr 64 .leaf) (.t 5),none,[]⟩,
 ⟨some 13,.call .flat [] (.f F3l) [(.t 10),(.t 11),(.t 12)],none,[]⟩,
 ⟨some 7,.mv (.t 13),none,[]⟩,
 ⟨some 8,.mv (.c (.int .i64 1)),none,[]⟩] [0,7,8])
 (.seq (.seq (.region [⟨some 9,.mv (.c (.int .i64 0)),none,[]⟩] [0,7,8,9])
 (.block 0 (.loop (Z3r_L0))))
 (.seq (.seq (.region [⟨some 26,.mv (.t 8),none,[]⟩,
 ⟨some 27,.mv (.t 0),none,[]⟩,
 ⟨some 28,.bin .sub (.t 27) (.c (.int .i64 1)),none,[]⟩,
 ⟨some 29,.bin .eql (.t 26) (.t 28),none,[]⟩] [8,29])
 (.cond (.t 29)
 (.seq (.region [⟨some 6,.mv (.c (.int .i64 (-1))),none,[]⟩] [6])
 (.ret))
 (.skip)))
 (.seq (.region [⟨some 30,.mv (.t 8),none,[]⟩,
 ⟨some 6,.mv (.t 30),none,[]⟩] [6])
 (.ret)))))
def Z3r:Fn:=
 { nparams:=3,nblk:=2,results:=[.tmp 6],body:=Z3r_B }
def Z2p_L0:Cd:=
 .seq (.seq (.region [⟨some 37,.mv (.t 10),none,[]⟩,
 ⟨some 38,.mv (.t 0),none,[]⟩,
 ⟨some 39,.mv (.t 8),none,[]⟩,
 ⟨some 40,.call .flat [] (.f F2v) [(.t 38),(.t 39)],none,[]⟩,
 ⟨some 41,.bin .mul (.c (.int .i64 2)) (.t 40),none,[]⟩,
 ⟨some 42,.bin .lss (.t 37) (.t 41),none,[]⟩] [0,3,7,8,9,10,42])
 (.cond (.t 42)
 (.skip)
 (.exit 2)))
 (.seq (.block 3 (.region [⟨some 45,.mv (.t 9),none,[]⟩,
 ⟨some 46,.mv (.t 0),none,[]⟩,
 ⟨some 47,.mv (.t 0),none,[]⟩,
 ⟨some 48,.mv (.t 10),none,[]⟩,
 ⟨some 49,.call .flat [] (.f F3b) [(.t 47),(.t 48)],none,[]⟩,
 ⟨some 50,.load (.arr 64 .leaf) (.t 3),none,[]⟩,
 ⟨some 51,.call .flat [] (.f F3r) [(.t 46),(.t 49),(.t 50)],none,[]⟩,
 ⟨some 52,.bin .add (.t 45) (.t 51),none,[]⟩,
 ⟨some 9,.mv (.t 52),none,[]⟩] [0,3,7,8,9,10]))
 (.region [⟨some 43,.mv (.t 10),none,[]⟩,
 ⟨some 44,.bin .add (.t 43) (.c (.int .i64 1)),none,[]⟩,
 ⟨some 10,.mv (.t 44),none,[]⟩] [0,3,7,8,9,10]))
def Z2p_L1:Cd:=
 .seq (.seq (.region [⟨some 28,.mv (.t 8),none,[]⟩,
 ⟨some 29,.load (.arr 64 .leaf) (.t 3),none,[]⟩,
 ⟨some 30,.call .flat [] (.f F2w) [(.t 29)],none,[]⟩,
 ⟨some 31,.bin .lss (.t 28) (.t 30),none,[]⟩] [0,3,7,8,31])
 (.cond (.t 31)
 (.skip)
 (.exit 0)))
 (.seq (.block 1 (.seq (.region [⟨some 9,.mv (.c (.int .i64 0)),none,[]⟩] [0,3,7,8,9])
 (.seq (.seq (.region [⟨some 34,.mv (.t 0),none,[]⟩,
 ⟨some 35,.mv (.t 8),none,[]⟩,
 ⟨some 36,.call .flat [] (.f F2v) [(.t 34),(.t 35)],none,[]⟩,
 ⟨some 10,.mv (.t 36),none,[]⟩] [0,3,7,8,9,10])
 (.block 2 (.loop (Z2p_L0))))
 (.region [⟨some 53,.mv (.t 7),none,[]⟩,
 ⟨some 54,.mv (.t 9),none,[]⟩,
 ⟨some 55,.buildSl false 2 .leaf (.int .i64 0) 1 [(0,(.t 54))],none,[]⟩,
 ⟨some 56,.append .leaf 3 8 (.t 53) (.t 55),none,[]⟩,
 ⟨some 7,.mv (.t 56),none,[]⟩] [0,3,7,8]))))
 (.region [⟨some 32,.mv (.t 8),none,[]⟩,
 ⟨some 33,.bin .add (.t 32) (.c (.int .i64 1)),none,[]⟩,
 ⟨some 8,.mv (.t 33),none,[]⟩] [0,3,7,8]))
def Z2p_B:Cd:=
 .seq (.region [⟨some 3,.box false 0 (.t 1),none,[]⟩,
 ⟨some 4,.mv (.c (.sl .leaf [])),none,[]⟩,
 ⟨some 5,.mv (.c (.int .i64 0)),none,[]⟩] [0,3])
 (.seq (.region [⟨some 11,.mv (.t 0),none,[]⟩,
 ⟨some 12,.load (.arr 64 .leaf) (.t 3),none,[]⟩,
 ⟨some 13,.call .flat [] (.f F3p) [(.t 11),(.t 12),(.c (.int .i64 5))],none,[]⟩,
 ⟨some 6,.mv (.t 13),none,[]⟩] [0,3,6])
 (.seq (.seq (.region [⟨some 14,.mv (.t 6),none,[]⟩,
 ⟨some 15,.bin .eql (.t 14) (.c (.int .i64 0)),none,[]⟩,
 ⟨some 16,.mv (.t 15),none,[]⟩,
 ⟨some 17,.mv (.t 0),some (16,true),[]⟩,
 ⟨some 18,.load (.arr 64 .leaf) (.t 3),some (16,true),[]⟩,
 ⟨some 19,.call .flat [] (.f F2w) [(.t 18)],some (16,true),[]⟩,
 ⟨some 20,.bin .sub (.t 19) (.c (.int .i64 1)),some (16,true),[]⟩,
 ⟨some 21,.call .flat [] (.f F2v) [(.t 17),(.t 20)],some (16,true),[]⟩,
 ⟨some 22,.bin .gtr (.t 21) (.c (.int .i64 343)),some (16,true),[]⟩,
 ⟨some 23,.pick (.t 16) (.t 22) (.c (.bool false)),none,[]⟩] [0,3,6,23])
 (.cond (.t 23)
 (.region [⟨some 6,.mv (.c (.int .i64 2)),none,[]⟩] [0,3,6])
 (.skip)))
 (.seq (.seq (.region [⟨some 24,.mv (.t 6),none,[]⟩,
 ⟨some 25,.bin .neq (.t 24) (.c (.int .i64 0)),none,[]⟩] [0,3,6,25])
 (.cond (.t 25)
 (.seq (.region [⟨some 26,.mv (.t 6),none,[]⟩,
 ⟨some 4,.mv (.c (.sl .leaf [])),none,[]⟩,
 ⟨some 5,.mv (.t 26),none,[]⟩] [4,5])
 (.ret))
 (.skip)))
 (.seq (.region [⟨some 27,.buildSl false 1 .leaf (.int .i64 0) 0 [],none,[]⟩,
 ⟨some 7,.mv (.t 27),none,[]⟩] [0,3,7])
 (.seq (.seq (.region [⟨some 8,.mv (.c (.int .i64 0)),none,[]⟩] [0,3,7,8])
 (.block 0 (.loop (Z2p_L1))))
 (.seq (.region [⟨some 57,.mv (.t 7),none,[]⟩,
 ⟨some 4,.mv (.t 57),none,[]⟩,
 ⟨some 5,.mv (.c (.int .i64 0)),none,[]⟩] [4,5])
 (.ret)))))))
def Z2p:Fn:=
 { nparams:=2,nblk:=4,results:=[.tmp 4,.tmp 5],body:=Z2p_B }
def Z2i_L0:Cd:=
 .seq (.seq (.region [⟨some 16,.mv (.t 9),none,[]⟩,
 ⟨some 17,.mv (.t 6),none,[]⟩,
 ⟨some 18,.len false (.t 17),none,[]⟩,
 ⟨some 19,.bin .lss (.t 16) (.t 18),none,[]⟩] [6,7,8,9,19])
 (.cond (.t 19)
 (.skip)
 (.exit 0)))
 (.seq (.block 1 (.region [⟨some 22,.mv (.t 8),none,[]⟩,
 ⟨some 23,.mv (.t 6),none,[]⟩,
 ⟨some 24,.mv (.t 9),none,[]⟩,
 ⟨some 25,.idxA none .leaf (.t 23) (.t 24),none,[]⟩,
 ⟨some 26,.load .leaf (.t 25),none,[]⟩,
 ⟨some 27,.bin .add (.t 22) (.t 26),none,[]⟩,
 ⟨some 8,.mv (.t 27),none,[]⟩] [6,7,8,9]))
 (.region [⟨some 20,.mv (.t 9),none,[]⟩,
 ⟨some 21,.bin .add (.t 20) (.c (.int .i64 1)),none,[]⟩,
 ⟨some 9,.mv (.t 21),none,[]⟩] [6,7,8,9]))
def Z2i_B:Cd:=
 .seq (.region [⟨some 3,.box false 0 (.t 1),none,[]⟩,
 ⟨some 4,.mv (.c (.int .i64 0)),none,[]⟩,
 ⟨some 5,.mv (.c (.int .i64 0)),none,[]⟩] [0,3])
 (.seq (.region [⟨some 11,.mv (.t 0),none,[]⟩,
 ⟨some 12,.load (.arr 64 .leaf) (.t 3),none,[]⟩,
 ⟨some 13,.call .plain [] (.f F2p) [(.t 11),(.t 12)],none,[]⟩,
 ⟨some 10,.mv (.t 13),none,[]⟩,
 ⟨some 14,.ext (.t 10) 0,none,[]⟩,
 ⟨some 15,.ext (.t 10) 1,none,[]⟩,
 ⟨some 6,.mv (.t 14),none,[]⟩,
 ⟨some 7,.mv (.t 15),none,[]⟩] [6,7])
 (.seq (.region [⟨some 8,.mv (.c (.int .i64 0)),none,[]⟩] [6,7,8])
 (.seq (.seq (.region [⟨some 9,.mv (.c (.int .i64 0)),none,[]⟩] [6,7,8,9])
 (.block 0 (.loop (Z2i_L0))))
 (.seq (.region [⟨some 28,.mv (.t 8),none,[]⟩,
 ⟨some 29,.mv (.t 7),none,[]⟩,
 ⟨some 4,.mv (.t 28),none,[]⟩,
 ⟨some 5,.mv (.t 29),none,[]⟩] [4,5])
 (.ret)))))
def Z2i:Fn:=
 { nparams:=2,nblk:=1,results:=[.tmp 4,.tmp 5],body:=Z2i_B }
def Z3n_B:Cd:=
 .seq (.region [⟨some 4,.mv (.c (.int .i64 0)),none,[]⟩,
 ⟨some 5,.box false 0 (.c (.arr 64 .leaf z64)),none,[]⟩] [0,1,5])
 (.seq (.region [⟨some 8,.mv (.t 0),none,[]⟩,
 ⟨some 9,.buildSl false 1 .leaf (.int .i64 0) 5 [(0,(.c (.int .i64 3))),(1,(.c (.int .i64 3))),(2,(.c (.int .i64 5))),(3,(.c (.int .i64 7))),(4,(.c (.int .i64 2)))],none,[]⟩,
 ⟨some 10,.call .heap [] (.f F3d) [(.t 8),(.t 9)],none,[]⟩,
 ⟨some 6,.mv (.t 10),none,[]⟩] [0,1,5,6])
 (.seq (.region [⟨some 11,.mv (.t 0),none,[]⟩,
 ⟨some 12,.mv (.t 6),none,[]⟩,
 ⟨some 13,.mv (.t 1),none,[]⟩,
 ⟨some 14,.call .heap [] (.f F2z) [(.t 11),(.t 12),(.t 13)],none,[]⟩,
 ⟨some 7,.box false 2 (.c (.arr 64 .leaf z64)),none,[]⟩,
 ⟨none,.store false (.arr 64 .leaf) (.t 7) (.t 14),none,[]⟩] [0,5,6,7])
 (.seq (.seq (.region [⟨some 15,.mv (.t 0),none,[]⟩,
 ⟨some 16,.call .heap [] (.f F3a) [(.t 15),(.c (.int .i64 24))],none,[]⟩,
 ⟨some 17,.bin .eql (.t 16) (.c (.int .i64 0)),none,[]⟩] [0,5,6,7,17])
 (.cond (.t 17)
 (.region [⟨some 18,.mv (.t 0),none,[]⟩,
 ⟨some 19,.mv (.t 6),none,[]⟩,
 ⟨some 20,.call .heap [] (.f F2y) [(.t 18),(.t 19),(.c (.int .i64 6))],none,[]⟩,
 ⟨none,.store false (.arr 64 .leaf) (.t 7) (.t 20),none,[]⟩] [5,6,7])
 (.skip)))
 (.seq (.region [⟨some 21,.mv (.t 6),none,[]⟩,
 ⟨some 22,.load (.arr 64 .leaf) (.t 7),none,[]⟩,
 ⟨some 4,.mv (.t 21),none,[]⟩,
 ⟨none,.store false (.arr 64 .leaf) (.t 5) (.t 22),none,[]⟩] [4,5])
 (.ret)))))
def Z3n:Fn:=
 { nparams:=2,nblk:=3,results:=[.tmp 4,.cell 5 (.arr 64 .leaf)],body:=Z3n_B }
def Z2j_B:Cd:=
 .seq (.region [⟨some 2,.mv (.c (.int .i64 0)),none,[]⟩,
 ⟨some 3,.box false 0 (.c (.arr 64 .leaf z64)),none,[]⟩,
 ⟨some 4,.box false 1 (.c (.arr 64 .leaf z64)),none,[]⟩] [0,3,4])
 (.seq (.region [⟨some 8,.mv (.t 0),none,[]⟩,
 ⟨some 9,.call .heap [2] (.f F30) [(.t 8)],none,[]⟩,
 ⟨some 5,.mv (.t 9),none,[]⟩] [3,4,5])
 (.seq (.region [⟨some 11,.mv (.t 5),none,[]⟩,
 ⟨some 12,.call .heap [] (.f F3n) [(.t 11),(.c (.int .i64 6))],none,[]⟩,
 ⟨some 10,.mv (.t 12),none,[]⟩,
 ⟨some 13,.ext (.t 10) 0,none,[]⟩,
 ⟨some 14,.ext (.t 10) 1,none,[]⟩,
 ⟨some 7,.box false 3 (.c (.arr 64 .leaf z64)),none,[]⟩,
 ⟨some 6,.mv (.t 13),none,[]⟩,
 ⟨none,.store false (.arr 64 .leaf) (.t 7) (.t 14),none,[]⟩] [3,4,5,6,7])
 (.seq (.region [⟨some 15,.mv (.t 6),none,[]⟩,
 ⟨some 16,.mv (.t 5),none,[]⟩,
 ⟨some 17,.mv (.t 6),none,[]⟩,
 ⟨some 18,.mv (.t 5),none,[]⟩,
 ⟨some 19,.mv (.t 6),none,[]⟩,
 ⟨some 20,.call .heap [] (.f F2y) [(.t 18),(.t 19),(.c (.int .i64 5))],none,[]⟩,
 ⟨some 21,.call .heap [] (.f F2s) [(.t 16),(.t 17),(.t 20)],none,[]⟩,
 ⟨some 22,.load (.arr 64 .leaf) (.t 7),none,[16,17,18,19,20]⟩,
 ⟨some 2,.mv (.t 15),none,[]⟩,
 ⟨none,.store false (.arr 64 .leaf) (.t 3) (.t 21),none,[7]⟩,
 ⟨none,.store false (.arr 64 .leaf) (.t 4) (.t 22),none,[]⟩] [2,3,4])
 (.ret))))
def Z2j:Fn:=
 { nparams:=1,nblk:=4,results:=[.tmp 2,.cell 3 (.arr 64 .leaf),.cell 4 (.arr 64 .leaf)],body:=Z2j_B }
def Z2n_B:Cd:=
 .seq (.region [⟨some 4,.box false 0 (.t 1),none,[]⟩,
 ⟨some 5,.box false 1 (.t 2),none,[]⟩,
 ⟨some 6,.mv (.c (.int .i64 0)),none,[]⟩,
 ⟨some 7,.mv (.c (.int .i64 0)),none,[]⟩] [0,4,5])
 (.seq (.seq (.region [⟨some 9,.mv (.t 0),none,[]⟩,
 ⟨some 10,.load (.arr 64 .leaf) (.t 4),none,[]⟩,
 ⟨some 11,.buildSl false 2 (.arr 64 .leaf) (.arr 64 .leaf z64) 1 [(0,(.t 10))],none,[]⟩,
 ⟨some 12,.call .flat [] (.f F2u) [(.t 9),(.t 11)],none,[]⟩,
 ⟨some 13,.bin .neq (.t 12) (.c (.int .i64 0)),none,[]⟩] [0,4,5,13])
 (.cond (.t 13)
 (.seq (.region [⟨some 6,.mv (.c (.int .i64 0)),none,[]⟩,
 ⟨some 7,.mv (.c (.int .i64 1)),none,[]⟩] [6,7])
 (.ret))
 (.skip)))
 (.seq (.seq (.region [⟨some 14,.mv (.t 0),none,[]⟩,
 ⟨some 15,.load (.arr 64 .leaf) (.t 5),none,[]⟩,
 ⟨some 16,.call .flat [] (.f F3p) [(.t 14),(.t 15),(.c (.int .i64 12))],none,[]⟩,
 ⟨some 8,.mv (.t 16),none,[]⟩] [0,4,5,8])
 (.seq (.region [⟨some 17,.mv (.t 8),none,[]⟩,
 ⟨some 18,.bin .neq (.t 17) (.c (.int .i64 0)),none,[]⟩] [0,4,5,8,18])
 (.cond (.t 18)
 (.seq (.region [⟨some 19,.mv (.t 8),none,[]⟩,
 ⟨some 6,.mv (.c (.int .i64 0)),none,[]⟩,
 ⟨some 7,.mv (.t 19),none,[]⟩] [6,7])
 (.ret))
 (.skip))))
 (.seq (.region [⟨some 20,.mv (.t 0),none,[]⟩,
 ⟨some 21,.load (.arr 64 .leaf) (.t 4),none,[]⟩,
 ⟨some 22,.load (.arr 64 .leaf) (.t 5),none,[]⟩,
 ⟨some 23,.call .flat [] (.f F3r) [(.t 20),(.t 21),(.t 22)],none,[]⟩,
 ⟨some 6,.mv (.t 23),none,[]⟩,
 ⟨some 7,.mv (.c (.int .i64 0)),none,[]⟩] [6,7])
 (.ret))))
def Z2n:Fn:=
 { nparams:=3,nblk:=3,results:=[.tmp 6,.tmp 7],body:=Z2n_B }
def Z2l_B:Cd:=
 .seq (.region [⟨some 2,.mv (.c (.int .i64 0)),none,[]⟩,
 ⟨some 3,.box false 0 (.c (.arr 64 .leaf z64)),none,[]⟩] [0,3])
 (.seq (.region [⟨some 7,.mv (.t 0),none,[]⟩,
 ⟨some 8,.call .heap [1] (.f F30) [(.t 7)],none,[]⟩,
 ⟨some 4,.mv (.t 8),none,[]⟩] [3,4])
 (.seq (.region [⟨some 10,.mv (.t 4),none,[]⟩,
 ⟨some 11,.mv (.t 4),none,[]⟩,
 ⟨some 12,.buildSl false 2 .leaf (.int .i64 0) 5 [(0,(.c (.int .i64 1))),(1,(.c (.int .i64 2))),(2,(.c (.int .i64 3))),(3,(.c (.int .i64 3))),(4,(.c (.int .i64 4)))],none,[]⟩,
 ⟨some 13,.call .heap [] (.f F3d) [(.t 11),(.t 12)],none,[]⟩,
 ⟨some 14,.call .heap [] (.f F3n) [(.t 10),(.t 13)],none,[]⟩,
 ⟨some 9,.mv (.t 14),none,[]⟩,
 ⟨some 15,.ext (.t 9) 0,none,[]⟩,
 ⟨some 16,.ext (.t 9) 1,none,[]⟩,
 ⟨some 6,.box false 3 (.c (.arr 64 .leaf z64)),none,[]⟩,
 ⟨some 5,.mv (.t 15),none,[]⟩,
 ⟨none,.store false (.arr 64 .leaf) (.t 6) (.t 16),none,[]⟩] [3,5,6])
 (.seq (.region [⟨some 17,.mv (.t 5),none,[]⟩,
 ⟨some 18,.load (.arr 64 .leaf) (.t 6),none,[]⟩,
 ⟨some 2,.mv (.t 17),none,[]⟩,
 ⟨none,.store false (.arr 64 .leaf) (.t 3) (.t 18),none,[]⟩] [2,3])
 (.ret))))
def Z2l:Fn:=
 { nparams:=1,nblk:=4,results:=[.tmp 2,.cell 3 (.arr 64 .leaf)],body:=Z2l_B }
def Z2m_B:Cd:=
 .seq (.region [⟨some 2,.mv (.c (.int .i64 0)),none,[]⟩,
 ⟨some 3,.box false 0 (.c (.arr 64 .leaf z64)),none,[]⟩,
 ⟨some 4,.mv (.c (.int .i64 0)),none,[]⟩] [0,3])
 (.seq (.region [⟨some 8,.mv (.t 0),none,[]⟩,
 ⟨some 9,.call .heap [1] (.f F30) [(.t 8)],none,[]⟩,
 ⟨some 5,.mv (.t 9),none,[]⟩] [3,5])
 (.seq (.region [⟨some 11,.mv (.t 5),none,[]⟩,
 ⟨some 12,.mv (.t 5),none,[]⟩,
 ⟨some 13,.buildSl false 2 .leaf (.int .i64 0) 3 [(0,(.c (.int .i64 1))),(1,(.c (.int .i64 2))),(2,(.c (.int .i64 3)))],none,[]⟩,
 ⟨some 14,.call .heap [] (.f F3d) [(.t 12),(.t 13)],none,[]⟩,
 ⟨some 15,.call .heap [] (.f F3n) [(.t 11),(.t 14)],none,[]⟩,
 ⟨some 10,.mv (.t 15),none,[]⟩,
 ⟨some 16,.ext (.t 10) 0,none,[]⟩,
 ⟨some 17,.ext (.t 10) 1,none,[]⟩,
 ⟨some 7,.box false 3 (.c (.arr 64 .leaf z64)),none,[]⟩,
 ⟨some 6,.mv (.t 16),none,[]⟩,
 ⟨none,.store false (.arr 64 .leaf) (.t 7) (.t 17),none,[]⟩] [3,5,6,7])
 (.seq (.region [⟨some 18,.mv (.t 6),none,[]⟩,
 ⟨some 19,.load (.arr 64 .leaf) (.t 7),none,[]⟩,
 ⟨some 20,.mv (.t 5),none,[]⟩,
 ⟨some 21,.mv (.t 5),none,[]⟩,
 ⟨some 22,.call .heap [] (.f F39) [(.t 21),(.c (.int .i64 8))],none,[7]⟩,
 ⟨some 23,.buildSl false 4 .leaf (.int .i64 0) 5 [(0,(.c (.int .i64 0))),(1,(.c (.int .i64 1))),(2,(.c (.int .i64 2))),(3,(.c (.int .i64 3))),(4,(.t 22))],none,[]⟩,
 ⟨some 24,.call .heap [] (.f F3d) [(.t 20),(.t 23)],none,[7]⟩,
 ⟨some 2,.mv (.t 18),none,[]⟩,
 ⟨none,.store false (.arr 64 .leaf) (.t 3) (.t 19),none,[]⟩,
 ⟨some 4,.mv (.t 24),none,[]⟩] [2,3,4])
 (.ret))))
def Z2m:Fn:=
 { nparams:=1,nblk:=5,results:=[.tmp 2,.cell 3 (.arr 64 .leaf),.tmp 4],body:=Z2m_B }
def Z3m_L0:Cd:=
 .seq (.seq (.region [⟨some 22,.mv (.t 7),none,[]⟩,
 ⟨some 23,.mv (.t 2),none,[]⟩,
 ⟨some 24,.len false (.t 23),none,[]⟩,
 ⟨some 25,.bin .lss (.t 22) (.t 24),none,[]⟩] [2,7,25])
 (.cond (.t 25)
 (.skip)
 (.exit 1)))
 (.seq (.block 2 (.seq (.region [⟨some 28,.mv (.t 2),none,[]⟩,
 ⟨some 29,.mv (.t 7),none,[]⟩,
 ⟨some 30,.idxA none .leaf (.t 28) (.t 29),none,[]⟩,
 ⟨some 31,.load .leaf (.t 30),none,[]⟩,
 ⟨some 32,.call .flat [] (.f F32) [(.t 31),(.c (.int .i64 0)),(.c (.int .i64 40))],none,[]⟩,
 ⟨some 33,.un .not (.t 32),none,[]⟩] [2,7,33])
 (.cond (.t 33)
 (.seq (.region [⟨some 6,.mv (.c (.int .i64 2)),none,[]⟩] [6])
 (.ret))
 (.skip))))
 (.region [⟨some 26,.mv (.t 7),none,[]⟩,
 ⟨some 27,.bin .add (.t 26) (.c (.int .i64 1)),none,[]⟩,
 ⟨some 7,.mv (.t 27),none,[]⟩] [2,7]))
def Z3m_B:Cd:=
 .seq (.region [⟨some 6,.mv (.c (.int .i64 0)),none,[]⟩] [0,1,2])
 (.seq (.block 0 (.seq (.region [⟨some 9,.mv (.t 0),none,[]⟩,
 ⟨some 10,.call .flat [] (.f F3f) [(.t 9)],none,[]⟩,
 ⟨some 11,.un .not (.t 10),none,[]⟩,
 ⟨some 8,.mv (.t 11),none,[]⟩] [0,1,2,8])
 (.cond (.t 8)
 (.seq (.region [⟨some 6,.mv (.c (.int .i64 1)),none,[]⟩] [6])
 (.ret))
 (.seq (.region [⟨some 13,.mv (.t 1),none,[]⟩,
 ⟨some 14,.call .flat [] (.f F32) [(.t 13),(.c (.int .i64 0)),(.c (.int .i64 8))],none,[]⟩,
 ⟨some 15,.un .not (.t 14),none,[]⟩,
 ⟨some 16,.mv (.t 15),none,[]⟩,
 ⟨some 17,.mv (.t 0),some (16,false),[]⟩,
 ⟨some 18,.mv (.t 1),some (16,false),[]⟩,
 ⟨some 19,.call .flat [] (.f F2v) [(.t 17),(.t 18)],some (16,false),[]⟩,
 ⟨some 20,.bin .gtr (.t 19) (.c (.int .i64 343)),some (16,false),[]⟩,
 ⟨some 21,.pick (.t 16) (.c (.bool true)) (.t 20),none,[]⟩,
 ⟨some 12,.mv (.t 21),none,[]⟩] [2,12])
 (.cond (.t 12)
 (.seq (.region [⟨some 6,.mv (.c (.int .i64 2)),none,[]⟩] [6])
 (.ret))
 (.skip))))))
 (.seq (.seq (.region [⟨some 7,.mv (.c (.int .i64 0)),none,[]⟩] [2,7])
 (.block 1 (.loop (Z3m_L0))))
 (.seq (.region [⟨some 6,.mv (.c (.int .i64 0)),none,[]⟩] [6])
 (.ret))))
def Z3m:Fn:=
 { nparams:=3,nblk:=0,results:=[.tmp 6],body:=Z3m_B }
def Z3o_B:Cd:=
 .seq (.region [⟨some 5,.box false 0 (.t 1),none,[]⟩,
 ⟨some 8,.mv (.c (.int .i64 0)),none,[]⟩] [0,2,3,5])
 (.seq (.block 0 (.seq (.region [⟨some 10,.mv (.t 0),none,[]⟩,
 ⟨some 11,.load (.arr 64 .leaf) (.t 5),none,[]⟩,
 ⟨some 12,.buildSl false 1 (.arr 64 .leaf) (.arr 64 .leaf z64) 1 [(0,(.t 11))],none,[]⟩,
 ⟨some 13,.call .flat [] (.f F2u) [(.t 10),(.t 12)],none,[]⟩,
 ⟨some 14,.bin .neq (.t 13) (.c (.int .i64 0)),none,[]⟩,
 ⟨some 9,.mv (.t 14),none,[]⟩] [0,2,3,5,9])
 (.cond (.t 9)
 (.seq (.region [⟨some 8,.mv (.c (.int .i64 1)),none,[]⟩] [8])
 (.ret))
 (.seq (.region [⟨some 16,.load (.arr 64 .leaf) (.t 5),none,[]⟩,
 ⟨some 17,.call .flat [] (.f F37) [(.t 16)],none,[]⟩,
 ⟨some 18,.un .not (.t 17),none,[]⟩,
 ⟨some 19,.mv (.t 18),none,[]⟩,
 ⟨some 20,.load (.arr 64 .leaf) (.t 5),some (19,false),[]⟩,
 ⟨some 21,.call .flat [] (.f F2w) [(.t 20)],some (19,false),[]⟩,
 ⟨some 22,.call .flat [] (.f F32) [(.t 21),(.c (.int .i64 1)),(.c (.int .i64 5))],some (19,false),[]⟩,
 ⟨some 23,.un .not (.t 22),some (19,false),[]⟩,
 ⟨some 24,.pick (.t 19) (.c (.bool true)) (.t 23),none,[]⟩,
 ⟨some 15,.mv (.t 24),none,[]⟩] [0,2,3,15])
 (.cond (.t 15)
 (.seq (.region [⟨some 8,.mv (.c (.int .i64 2)),none,[]⟩] [8])
 (.ret))
 (.skip))))))
 (.seq (.region [⟨some 25,.mv (.t 0),none,[]⟩,
 ⟨some 26,.mv (.t 2),none,[]⟩,
 ⟨some 27,.mv (.t 3),none,[]⟩,
 ⟨some 28,.call .flat [] (.f F3m) [(.t 25),(.t 26),(.t 27)],none,[]⟩,
 ⟨some 8,.mv (.t 28),none,[]⟩] [8])
 (.ret)))
def Z3o:Fn:=
 { nparams:=4,nblk:=2,results:=[.tmp 8],body:=Z3o_B }
def Z2q_L0:Cd:=
 .seq (.seq (.region [⟨some 21,.mv (.t 10),none,[]⟩,
 ⟨some 22,.mv (.t 0),none,[]⟩,
 ⟨some 23,.mv (.t 2),none,[]⟩,
 ⟨some 24,.call .flat [] (.f F2v) [(.t 22),(.t 23)],none,[]⟩,
 ⟨some 25,.bin .mul (.c (.int .i64 2)) (.t 24),none,[]⟩,
 ⟨some 26,.bin .lss (.t 21) (.t 25),none,[]⟩] [0,2,4,9,10,26])
 (.cond (.t 26)
 (.skip)
 (.exit 0)))
 (.seq (.block 1 (.region [⟨some 29,.mv (.t 9),none,[]⟩,
 ⟨some 30,.mv (.t 0),none,[]⟩,
 ⟨some 31,.mv (.t 0),none,[]⟩,
 ⟨some 32,.mv (.t 10),none,[]⟩,
 ⟨some 33,.call .flat [] (.f F3b) [(.t 31),(.t 32)],none,[]⟩,
 ⟨some 34,.load (.arr 64 .leaf) (.t 4),none,[]⟩,
 ⟨some 35,.call .flat [] (.f F3l) [(.t 30),(.t 33),(.t 34)],none,[]⟩,
 ⟨some 36,.bin .add (.t 29) (.t 35),none,[]⟩,
 ⟨some 37,.mv (.t 0),none,[]⟩,
 ⟨some 38,.bin .rem (.t 36) (.t 37),none,[]⟩,
 ⟨some 9,.mv (.t 38),none,[]⟩] [0,2,4,9,10]))
 (.region [⟨some 27,.mv (.t 10),none,[]⟩,
 ⟨some 28,.bin .add (.t 27) (.c (.int .i64 1)),none,[]⟩,
 ⟨some 10,.mv (.t 28),none,[]⟩] [0,2,4,9,10]))
def Z2q_B:Cd:=
 .seq (.region [⟨some 4,.box false 0 (.t 1),none,[]⟩,
 ⟨some 6,.mv (.c (.int .i64 0)),none,[]⟩,
 ⟨some 7,.mv (.c (.int .i64 0)),none,[]⟩] [0,2,4])
 (.seq (.seq (.region [⟨some 11,.mv (.t 0),none,[]⟩,
 ⟨some 12,.load (.arr 64 .leaf) (.t 4),none,[]⟩,
 ⟨some 13,.mv (.t 2),none,[]⟩,
 ⟨some 14,.call .flat [] (.f F3o) [(.t 11),(.t 12),(.t 13),(.c (.sl .leaf []))],none,[]⟩,
 ⟨some 8,.mv (.t 14),none,[]⟩] [0,2,4,8])
 (.seq (.region [⟨some 15,.mv (.t 8),none,[]⟩,
 ⟨some 16,.bin .neq (.t 15) (.c (.int .i64 0)),none,[]⟩] [0,2,4,8,16])
 (.cond (.t 16)
 (.seq (.region [⟨some 17,.mv (.t 8),none,[]⟩,
 ⟨some 6,.mv (.c (.int .i64 0)),none,[]⟩,
 ⟨some 7,.mv (.t 17),none,[]⟩] [6,7])
 (.ret))
 (.skip))))
 (.seq (.region [⟨some 9,.mv (.c (.int .i64 0)),none,[]⟩] [0,2,4,9])
 (.seq (.seq (.region [⟨some 18,.mv (.t 0),none,[]⟩,
 ⟨some 19,.mv (.t 2),none,[]⟩,
 ⟨some 20,.call .flat [] (.f F2v) [(.t 18),(.t 19)],none,[]⟩,
 ⟨some 10,.mv (.t 20),none,[]⟩] [0,2,4,9,10])
 (.block 0 (.loop (Z2q_L0))))
 (.seq (.region [⟨some 39,.mv (.t 9),none,[]⟩,
 ⟨some 6,.mv (.t 39),none,[]⟩,
 ⟨some 7,.mv (.c (.int .i64 0)),none,[]⟩] [6,7])
 (.ret)))))
def Z2q:Fn:=
 { nparams:=3,nblk:=1,results:=[.tmp 6,.tmp 7],body:=Z2q_B }
def Z2k_B:Cd:=
 .seq (.region [⟨some 2,.mv (.c (.int .i64 0)),none,[]⟩,
 ⟨some 3,.box false 0 (.c (.arr 64 .leaf z64)),none,[]⟩,
 ⟨some 4,.mv (.c (.int .i64 0)),none,[]⟩,
 ⟨some 5,.mv (.c (.int .i64 0)),none,[]⟩] [0,3])
 (.seq (.region [⟨some 9,.mv (.t 0),none,[]⟩,
 ⟨some 10,.call .heap [1] (.f F30) [(.t 9)],none,[]⟩,
 ⟨some 6,.mv (.t 10),none,[]⟩] [3,6])
 (.seq (.region [⟨some 12,.mv (.t 6),none,[]⟩,
 ⟨some 13,.call .heap [] (.f F3n) [(.t 12),(.c (.int .i64 3))],none,[]⟩,
 ⟨some 11,.mv (.t 13),none,[]⟩,
 ⟨some 14,.ext (.t 11) 0,none,[]⟩,
 ⟨some 15,.ext (.t 11) 1,none,[]⟩,
 ⟨some 8,.box false 2 (.c (.arr 64 .leaf z64)),none,[]⟩,
 ⟨some 7,.mv (.t 14),none,[]⟩,
 ⟨none,.store false (.arr 64 .leaf) (.t 8) (.t 15),none,[]⟩] [3,6,7,8])
 (.seq (.region [⟨some 16,.mv (.t 7),none,[]⟩,
 ⟨some 17,.load (.arr 64 .leaf) (.t 8),none,[]⟩,
 ⟨some 18,.mv (.t 6),none,[]⟩,
 ⟨some 19,.buildSl false 3 .leaf (.int .i64 0) 3 [(0,(.c (.int .i64 0))),(1,(.c (.int .i64 1))),(2,(.c (.int .i64 2)))],none,[]⟩,
 ⟨some 20,.call .heap [] (.f F3d) [(.t 18),(.t 19)],none,[8]⟩,
 ⟨some 21,.mv (.t 6),none,[]⟩,
 ⟨some 22,.mv (.t 6),none,[]⟩,
 ⟨some 23,.call .heap [] (.f F3a) [(.t 22),(.c (.int .i64 5))],none,[8]⟩,
 ⟨some 24,.mv (.t 6),none,[]⟩,
 ⟨some 25,.call .heap [] (.f F39) [(.t 24),(.c (.int .i64 40))],none,[8]⟩,
 ⟨some 26,.buildSl false 4 .leaf (.int .i64 0) 2 [(0,(.t 23)),(1,(.t 25))],none,[]⟩,
 ⟨some 27,.call .heap [] (.f F3d) [(.t 21),(.t 26)],none,[8]⟩,
 ⟨some 2,.mv (.t 16),none,[]⟩,
 ⟨none,.store false (.arr 64 .leaf) (.t 3) (.t 17),none,[]⟩,
 ⟨some 4,.mv (.t 20),none,[]⟩,
 ⟨some 5,.mv (.t 27),none,[]⟩] [2,3,4,5])
 (.ret))))
def Z2k:Fn:=
 { nparams:=1,nblk:=5,results:=[.tmp 2,.cell 3 (.arr 64 .leaf),.tmp 4,.tmp 5],body:=Z2k_B }
def Z3q_L0:Cd:=
 .seq (.seq (.region [⟨some 12,.mv (.t 2),none,[]⟩,
 ⟨some 13,.bin .gtr (.t 12) (.c (.int .i64 0)),none,[]⟩] [0,2,4,6,8,13])
 (.cond (.t 13)
 (.skip)
 (.exit 0)))
 (.seq (.block 1 (.seq (.region [⟨some 17,.mv (.t 0),none,[]⟩,
 ⟨some 18,.load (.arr 64 .leaf) (.t 8),none,[]⟩,
 ⟨some 19,.load (.arr 64 .leaf) (.t 4),none,[]⟩,
 ⟨some 20,.call .flat [] (.f F3h) [(.t 17),(.t 18),(.t 19)],none,[]⟩,
 ⟨some 16,.mv (.t 20),none,[]⟩,
 ⟨some 21,.ext (.t 16) 0,none,[]⟩,
 ⟨some 22,.ext (.t 16) 1,none,[]⟩,
 ⟨some 9,.box false 3 (.c (.arr 64 .leaf z64)),none,[]⟩,
 ⟨none,.store false (.arr 64 .leaf) (.t 9) (.t 21),none,[]⟩,
 ⟨some 10,.mv (.t 22),none,[]⟩] [0,2,4,6,8,9,10])
 (.seq (.seq (.region [⟨some 23,.mv (.t 10),none,[]⟩,
 ⟨some 24,.un .not (.t 23),none,[]⟩] [0,2,4,6,8,9,24])
 (.cond (.t 24)
 (.seq (.region [⟨some 25,.build false (.arr 64 .leaf z64) [],none,[]⟩,
 ⟨none,.store false (.arr 64 .leaf) (.t 6) (.t 25),none,[]⟩,
 ⟨some 7,.mv (.c (.bool false)),none,[]⟩] [6,7])
 (.ret))
 (.skip)))
 (.region [⟨some 26,.load (.arr 64 .leaf) (.t 9),none,[]⟩,
 ⟨none,.store false (.arr 64 .leaf) (.t 8) (.t 26),none,[]⟩] [0,2,4,6,8]))))
 (.region [⟨some 14,.mv (.t 2),none,[]⟩,
 ⟨some 15,.bin .sub (.t 14) (.c (.int .i64 1)),none,[]⟩,
 ⟨some 2,.mv (.t 15),none,[]⟩] [0,2,4,6,8]))
def Z3q_B:Cd:=
 .seq (.region [⟨some 4,.box false 0 (.t 1),none,[]⟩,
 ⟨some 6,.box false 1 (.c (.arr 64 .leaf z64)),none,[]⟩,
 ⟨some 7,.mv (.c (.bool false)),none,[]⟩] [0,2,4,6])
 (.seq (.region [⟨some 11,.call .flat [] (.f F3c) [],none,[]⟩,
 ⟨some 8,.box false 2 (.c (.arr 64 .leaf z64)),none,[]⟩,
 ⟨none,.store false (.arr 64 .leaf) (.t 8) (.t 11),none,[]⟩] [0,2,4,6,8])
 (.seq (.block 0 (.loop (Z3q_L0)))
 (.seq (.region [⟨some 27,.load (.arr 64 .leaf) (.t 8),none,[]⟩,
 ⟨none,.store false (.arr 64 .leaf) (.t 6) (.t 27),none,[]⟩,
 ⟨some 7,.mv (.c (.bool true)),none,[]⟩] [6,7])
 (.ret))))
def Z3q:Fn:=
 { nparams:=3,nblk:=4,results:=[.cell 6 (.arr 64 .leaf),.tmp 7],body:=Z3q_B }
def Z2o_L0:Cd:=
 .seq (.seq (.region [⟨some 39,.mv (.t 12),none,[]⟩,
 ⟨some 40,.mv (.t 0),none,[]⟩,
 ⟨some 41,.mv (.t 2),none,[]⟩,
 ⟨some 42,.call .flat [] (.f F2v) [(.t 40),(.t 41)],none,[]⟩,
 ⟨some 43,.bin .mul (.c (.int .i64 2)) (.t 42),none,[]⟩,
 ⟨some 44,.bin .lss (.t 39) (.t 43),none,[]⟩] [0,2,3,5,8,11,12,44])
 (.cond (.t 44)
 (.skip)
 (.exit 0)))
 (.seq (.block 1 (.seq (.region [⟨some 48,.mv (.t 0),none,[]⟩,
 ⟨some 49,.mv (.t 0),none,[]⟩,
 ⟨some 50,.mv (.t 12),none,[]⟩,
 ⟨some 51,.call .flat [] (.f F3b) [(.t 49),(.t 50)],none,[]⟩,
 ⟨some 52,.load (.arr 64 .leaf) (.t 5),none,[]⟩,
 ⟨some 53,.call .flat [] (.f F3h) [(.t 48),(.t 51),(.t 52)],none,[]⟩,
 ⟨some 47,.mv (.t 53),none,[]⟩,
 ⟨some 54,.ext (.t 47) 0,none,[]⟩,
 ⟨some 55,.ext (.t 47) 1,none,[]⟩,
 ⟨some 13,.box false 4 (.c (.arr 64 .leaf z64)),none,[]⟩,
 ⟨none,.store false (.arr 64 .leaf) (.t 13) (.t 54),none,[]⟩,
 ⟨some 14,.mv (.t 55),none,[]⟩] [0,2,3,5,8,11,12,13])
 (.seq (.region [⟨some 57,.mv (.t 0),none,[]⟩,
 ⟨some 58,.mv (.t 0),none,[]⟩,
 ⟨some 59,.load (.arr 64 .leaf) (.t 13),none,[]⟩,
 ⟨some 60,.call .flat [] (.f F3c) [],none,[]⟩,
 ⟨some 61,.call .flat [] (.f F2r) [(.t 58),(.t 59),(.t 60),(.c (.int .i64 1))],none,[]⟩,
 ⟨some 62,.mv (.t 3),none,[]⟩,
 ⟨some 63,.call .flat [] (.f F3q) [(.t 57),(.t 61),(.t 62)],none,[]⟩,
 ⟨some 56,.mv (.t 63),none,[]⟩,
 ⟨some 64,.ext (.t 56) 0,none,[]⟩,
 ⟨some 65,.ext (.t 56) 1,none,[]⟩,
 ⟨some 15,.box false 5 (.c (.arr 64 .leaf z64)),none,[]⟩,
 ⟨none,.store false (.arr 64 .leaf) (.t 15) (.t 64),none,[]⟩,
 ⟨some 16,.mv (.t 65),none,[]⟩] [0,2,3,5,8,11,12,15])
 (.region [⟨some 66,.mv (.t 0),none,[]⟩,
 ⟨some 67,.load (.arr 64 .leaf) (.t 11),none,[]⟩,
 ⟨some 68,.load (.arr 64 .leaf) (.t 15),none,[]⟩,
 ⟨some 69,.call .flat [] (.f F2r) [(.t 66),(.t 67),(.t 68),(.c (.int .i64 1))],none,[]⟩,
 ⟨none,.store false (.arr 64 .leaf) (.t 11) (.t 69),none,[]⟩] [0,2,3,5,8,11,12]))))
 (.region [⟨some 45,.mv (.t 12),none,[]⟩,
 ⟨some 46,.bin .add (.t 45) (.c (.int .i64 1)),none,[]⟩,
 ⟨some 12,.mv (.t 46),none,[]⟩] [0,2,3,5,8,11,12]))
def Z2o_B:Cd:=
 .seq (.region [⟨some 5,.box false 0 (.t 1),none,[]⟩,
 ⟨some 8,.box false 1 (.c (.arr 64 .leaf z64)),none,[]⟩,
 ⟨some 9,.mv (.c (.int .i64 0)),none,[]⟩] [0,2,3,5,8])
 (.seq (.seq (.region [⟨some 17,.mv (.t 0),none,[]⟩,
 ⟨some 18,.load (.arr 64 .leaf) (.t 5),none,[]⟩,
 ⟨some 19,.mv (.t 2),none,[]⟩,
 ⟨some 20,.mv (.t 3),none,[]⟩,
 ⟨some 21,.buildSl false 2 .leaf (.int .i64 0) 1 [(0,(.t 20))],none,[]⟩,
 ⟨some 22,.call .flat [] (.f F3o) [(.t 17),(.t 18),(.t 19),(.t 21)],none,[]⟩,
 ⟨some 10,.mv (.t 22),none,[]⟩] [0,2,3,5,8,10])
 (.seq (.region [⟨some 23,.mv (.t 10),none,[]⟩,
 ⟨some 24,.bin .neq (.t 23) (.c (.int .i64 0)),none,[]⟩] [0,2,3,5,8,10,24])
 (.cond (.t 24)
 (.seq (.region [⟨some 25,.build false (.arr 64 .leaf z64) [],none,[]⟩,
 ⟨some 26,.mv (.t 10),none,[]⟩,
 ⟨none,.store false (.arr 64 .leaf) (.t 8) (.t 25),none,[]⟩,
 ⟨some 9,.mv (.t 26),none,[]⟩] [8,9])
 (.ret))
 (.skip))))
 (.seq (.seq (.region [⟨some 27,.mv (.t 2),none,[]⟩,
 ⟨some 28,.load (.arr 64 .leaf) (.t 5),none,[]⟩,
 ⟨some 29,.call .flat [] (.f F2w) [(.t 28)],none,[]⟩,
 ⟨some 30,.bin .add (.t 27) (.t 29),none,[]⟩,
 ⟨some 31,.mv (.t 3),none,[]⟩,
 ⟨some 32,.bin .mul (.t 30) (.t 31),none,[]⟩,
 ⟨some 33,.bin .gtr (.t 32) (.c (.int .i64 63)),none,[]⟩] [0,2,3,5,8,33])
 (.cond (.t 33)
 (.seq (.region [⟨some 34,.build false (.arr 64 .leaf z64) [],none,[]⟩,
 ⟨none,.store false (.arr 64 .leaf) (.t 8) (.t 34),none,[]⟩,
 ⟨some 9,.mv (.c (.int .i64 3)),none,[]⟩] [8,9])
 (.ret))
 (.skip)))
 (.seq (.region [⟨some 35,.build false (.arr 64 .leaf z64) [],none,[]⟩,
 ⟨some 11,.box false 3 (.c (.arr 64 .leaf z64)),none,[]⟩,
 ⟨none,.store false (.arr 64 .leaf) (.t 11) (.t 35),none,[]⟩] [0,2,3,5,8,11])
 (.seq (.seq (.region [⟨some 36,.mv (.t 0),none,[]⟩,
 ⟨some 37,.mv (.t 2),none,[]⟩,
 ⟨some 38,.call .flat [] (.f F2v) [(.t 36),(.t 37)],none,[]⟩,
 ⟨some 12,.mv (.t 38),none,[]⟩] [0,2,3,5,8,11,12])
 (.block 0 (.loop (Z2o_L0))))
 (.seq (.region [⟨some 70,.load (.arr 64 .leaf) (.t 11),none,[]⟩,
 ⟨none,.store false (.arr 64 .leaf) (.t 8) (.t 70),none,[]⟩,
 ⟨some 9,.mv (.c (.int .i64 0)),none,[]⟩] [8,9])
 (.ret))))))
def Z2o:Fn:=
 { nparams:=4,nblk:=6,results:=[.cell 8 (.arr 64 .leaf),.tmp 9],body:=Z2o_B }
end Pe

namespace Gq
section
variable {K:Type} [Fd K]
theorem Pol.mod_eq_iff {a b m:Pol K} (hm:m≠0):a%m=b%m↔Quo.mk m a=Quo.mk m b:=by
 rw [Quo.eq]
 constructor
 ·intro h
  refine ⟨a/m-b/m,?_⟩
  have h1:=div_mod a m
  have h2:=div_mod b m
  rw [h] at h1
  generalize a/m=q at *
  generalize b/m=q' at *
  rw [h1]
  have e:q*m+b%m=(q'*m+b%m)+m*(q-q'):=ring_of [q,q',m,b%m] rfl
  rw [e,←h2]
 ·rintro ⟨c,rfl⟩
  have h2:=div_mod b m
  refine (div_mod_eq (q:=b/m+c) ?_ (len_mod b hm)).2
  have e:b+m*c=(b/m*m+b%m)+m*c:=by rw [←h2]
  rw [e]
  exact ring_of [b/m,m,b%m,c] rfl
theorem Pol.mk_mod (a m:Pol K):Quo.mk m (a%m)=Quo.mk m a:=by
 rw [Quo.eq]
 refine ⟨-(a/m),?_⟩
 have h:=div_mod a m
 have e:a%m=(a/m*m+a%m)+m * -(a/m):=ring_of [a/m,m,a%m] rfl
 rw [e,←h]
theorem Pol.mod_small {a m:Pol K} (h:a.len<m.len):a%m=a:=(div_mod_eq (q:=0) (by rw [zero_mul,zero_add]) h).2
theorem Pol.zero_mod {m:Pol K} (hm:m≠0):(0:Pol K)%m=0:=mod_small (by rw [len_zero]; exact len_pos hm)
theorem Pol.div_small {a m:Pol K} (h:a.len<m.len):a/m=0:=(div_mod_eq (q:=0) (by rw [zero_mul,zero_add]) h).1
theorem Pol.mul_mod_left (a b:Pol K) {m:Pol K} (hm:m≠0):(a%m)*b%m=a*b%m:=by
 rw [mod_eq_iff hm,Quo.mk_mul,Quo.mk_mul,mk_mod]
theorem Pol.mod_self_mul (a:Pol K) {m:Pol K} (hm:m≠0):(a*m)%m=0:=
 (div_mod_eq (q:=a) (by rw [add_zero]) (by rw [len_zero]; exact len_pos hm)).2
theorem Pol.len_mod_le (a:Pol K) {m:Pol K} (hm:m≠0):(a%m).len≤a.len:=by
 rcases Nat.lt_or_ge a.len m.len with h | h
 ·rw [mod_small h]; exact Nat.le_refl _
 ·have:=len_mod a hm; omega
theorem Pol.len_div {a m:Pol K} (hm:m≠0) (h:m.len≤a.len):(a/m).len+m.len=a.len+1:=by
 have h1:=div_mod a m
 have h2:=len_mod a hm
 have h3:=len_pos hm
 by_cases hq:a/m=0
 ·rw [hq,zero_mul,zero_add] at h1
  rw [←h1] at h2; omega
 ·have h4:=len_mul hq hm
  have h5:=len_pos hq
  have e:a.len=(a/m*m).len:=by
   apply Nat.le_antisymm
   ·rw [h1]
    exact len_le (lt_add (by rw [←h1]; exact lt_len _) (lt_iff.2 (by rw [←h1]; omega)))
   ·have:a/m*m=a-a%m:=by
     have e:a-a%m=(a/m*m+a%m)-a%m:=by rw [←h1]
     rw [e]; exact ring_of [a/m*m,a%m] rfl
    rw [this]
    exact len_le (lt_sub a.lt_len (lt_iff.2 (by omega)))
  omega
theorem Pol.len_div_le (a:Pol K) {m:Pol K} (hm:m≠0):(a/m).len≤a.len:=by
 rcases Nat.lt_or_ge a.len m.len with h | h
 ·rw [div_small h,len_zero]; omega
 ·have:=len_div hm h
  have:=len_pos hm
  omega
theorem pw_add {R:Type} [CR R] (a:R) (m:Nat):∀n,pw a (m+n)=pw a m*pw a n
 | 0=>(mul_one _).symm
 | n+1=>by rw [←Nat.add_assoc,pw,pw_add a m n,pw,mul_assoc]
theorem pw_mul {R:Type} [CR R] (a b:R):∀n,pw (a*b) n=pw a n*pw b n
 | 0=>(mul_one _).symm
 | n+1=>by rw [pw,pw,pw,pw_mul a b n]; exact ring_of [a,b,pw a n,pw b n] rfl
theorem pw_pw {R:Type} [CR R] (a:R) (m:Nat):∀n,pw (pw a m) n=pw a (m*n)
 | 0=>rfl
 | n+1=>by rw [pw,pw_pw a m n,Nat.mul_succ,pw_add]
theorem pw_one {R:Type} [CR R]:∀n,pw (1:R) n=1
 | 0=>rfl
 | n+1=>by rw [pw,pw_one n,mul_one]
theorem pw_1 {R:Type} [CR R] (a:R):pw a 1=a:=one_mul a
theorem Pol.pow_mod (a:Pol K) {m:Pol K} (hm:m≠0) (n:Nat):pw (a%m) n%m=pw a n%m:=by
 rw [mod_eq_iff hm,Quo.mk_pow,Quo.mk_pow,mk_mod]
theorem Pol.bin_step {out base m:Pol K} (hm:m≠0) (k:Nat) (_hk:0<k) :
 (if k%2=1 then out*base%m else out)*pw (base*base%m) (k/2)%m=out*pw base k%m:=by
 rw [mod_eq_iff hm,Quo.mk_mul,Quo.mk_mul,Quo.mk_pow,mk_mod,Quo.mk_mul,pw_mul,Quo.mk_pow,←pw_add]
 split
 ·rename_i h
  rw [mk_mod,Quo.mk_mul]
  have e:k=1+(k/2+k/2):=by omega
  have e2:pw (Quo.mk m base) k=Quo.mk m base*pw (Quo.mk m base) (k/2+k/2):=by
   have:=pw_add (Quo.mk m base) 1 (k/2+k/2)
   rwa [←e,pw_1] at this
  rw [e2,mul_assoc]
 ·rename_i h
  have e:k/2+k/2=k:=by omega
  rw [e]
open Classical in
noncomputable def Pol.bz:Nat→Pol K→Pol K→Pol K→Pol K→Pol K→Pol K→Pol K×Pol K×Pol K
 | 0,a,_,u,_,v,_=>(a,u,v)
 | n+1,a,b,u,x,v,y=>if b=0 then (a,u,v) else bz n b (a%b) x (u-a/b*x) y (v-a/b*y)
structure Pol.BzI (A B a b u x v y:Pol K):Prop where
 one:u*A+v*B=a
 two:x*A+y*B=b
 lx:x.len=0∨x.len+a.len≤B.len+1
 ly:y.len=0∨y.len+a.len≤A.len+1
 lu:u.len=0∨u.len+b.len≤B.len+1
 lv:v.len=0∨v.len+b.len≤A.len+1
 any:a≠0∨b≠0
theorem Pol.BzI.init {A B:Pol K} (h:A≠0∨B≠0):BzI A B A B 1 0 0 1:=
 ⟨ring_of [A,B] rfl,ring_of [A,B] rfl,.inl len_zero,.inr (by rw [len_one]; omega),.inr (by rw [len_one]; omega),.inl len_zero,h⟩
theorem Pol.len_sub_le {a b:Pol K} {n:Nat} (ha:a.len≤n) (hb:b.len≤n):(a-b).len≤n:=len_le (lt_sub (lt_iff.2 ha) (lt_iff.2 hb))
theorem Pol.len_add_le {a b:Pol K} {n:Nat} (ha:a.len≤n) (hb:b.len≤n):(a+b).len≤n:=len_le (lt_add (lt_iff.2 ha) (lt_iff.2 hb))
theorem Pol.BzI.qlen {A B a b u x v y:Pol K} (h:BzI A B a b u x v y) (hb:b≠0) :
 ((a/b*x).len=0∨(a/b*x).len+b.len≤B.len+1)∧((a/b*y).len=0∨(a/b*y).len+b.len≤A.len+1):=by
 have key:∀(x:Pol K) (n:Nat),(x.len=0∨x.len+a.len≤n+1)→((a/b*x).len=0∨(a/b*x).len+b.len≤n+1):=by
  intro x n hx
  by_cases hx0:x=0
  ·left; rw [hx0,mul_zero,len_zero]
  ·rcases Nat.lt_or_ge a.len b.len with hl | hl
   ·left; rw [div_small hl,zero_mul,len_zero]
   ·have h1:=len_div hb hl
    have hq:a/b≠0:=fun h0=>by
     rw [h0,len_zero] at h1
     omega
    have h2:=len_mul hq hx0
    have h3:=len_pos hx0
    right; omega
 exact ⟨key x B.len h.lx,key y A.len h.ly⟩
theorem Pol.BzI.step {A B a b u x v y:Pol K} (h:BzI A B a b u x v y) (hb:b≠0):BzI A B b (a%b) x (u-a/b*x) y (v-a/b*y):=by
 have hm:=div_mod a b
 have hl:=len_mod a hb
 have hle:=len_mod_le a hb
 obtain ⟨q1,q2⟩:=h.qlen hb
 have sub:∀(u q:Pol K) (n:Nat),(u.len=0∨u.len+b.len≤n+1)→(q.len=0∨q.len+b.len≤n+1)→((u-q).len=0∨(u-q).len+b.len≤n+1):=by
  intro u q n h1 h2
  by_cases hn:n+1≤b.len
  ·left
   have e1:u.len=0:=by omega
   have e2:q.len=0:=by omega
   have:=len_sub_le (a:=u) (b:=q) (n:=0) (by omega) (by omega)
   omega
  ·right
   have:=len_sub_le (a:=u) (b:=q) (n:=n+1-b.len) (by omega) (by omega)
   omega
 refine ⟨h.two,?_,sub _ _ _ h.lu q1,sub _ _ _ h.lv q2,?_,?_,.inl hb⟩
 ·have e:(u-a/b*x)*A+(v-a/b*y)*B=(u*A+v*B)-a/b*(x*A+y*B):=ring_of [u,a/b,x,A,v,y,B] rfl
  rw [e,h.one,h.two]
  have e2:a-a/b*b=(a/b*b+a%b)-a/b*b:=by rw [←hm]
  rw [e2]
  exact ring_of [a/b,b,a%b] rfl
 ·exact h.lx.imp id fun h=>by omega
 ·exact h.ly.imp id fun h=>by omega
theorem Pol.bz_spec {A B:Pol K}:∀(n:Nat) (a b u x v y:Pol K),b.len≤n→BzI A B a b u x v y →
 ∃x' y',BzI A B (bz n a b u x v y).1 0 (bz n a b u x v y).2.1 x' (bz n a b u x v y).2.2 y'∧(∃s,a=s*(bz n a b u x v y).1)∧(∃s,b=s*(bz n a b u x v y).1)
 | 0,a,b,u,x,v,y,hn,h=>by
  obtain rfl:=len_zero_iff.1 (show b.len=0 by omega)
  exact ⟨x,y,h,⟨1,(one_mul a).symm⟩,⟨0,(zero_mul a).symm⟩⟩
 | n+1,a,b,u,x,v,y,hn,h=>by
  unfold bz
  split
  ·rename_i hb
   subst hb
   exact ⟨x,y,h,⟨1,(one_mul a).symm⟩,⟨0,(zero_mul a).symm⟩⟩
  ·rename_i hb
   have hl:=len_mod a hb
   obtain ⟨x',y',h1,⟨s,h2⟩,⟨t,h3⟩⟩:=bz_spec n b (a%b) x (u-a/b*x) y (v-a/b*y) (by omega) (h.step hb)
   refine ⟨x',y',h1,⟨a/b*s+t,?_⟩,⟨s,h2⟩⟩
   generalize (bz n b (a%b) x (u-a/b*x) y (v-a/b*y)).1=d at *
   have e:(a/b*s+t)*d=a/b*(s*d)+t*d:=ring_of [a/b,s,t,d] rfl
   rw [e,←h2,←h3]
   exact div_mod a b
noncomputable def Pol.eu (a b:Pol K):Pol K×Pol K×Pol K:=bz b.len a b 1 0 0 1
noncomputable def Pol.bezout (a b:Pol K):Pol K×Pol K×Pol K:=
 let r:=eu a b
 (C (Fd.inv r.1.ld)*r.1,C (Fd.inv r.1.ld)*r.2.1,C (Fd.inv r.1.ld)*r.2.2)
noncomputable def Pol.gcd (a b:Pol K):Pol K:=(bezout a b).1
end
end Gq

namespace Pe
open Go Gq
variable {T:Nat→Option Fn} {A:Oracle}
theorem trim_pad {p:Int} (a:Fp p) (h:a.len≤64):trim (pad (row a))=row a:=trim_row fun i=>by rw [pad_cf (by rw [row_length]; exact h),row_cf]
theorem take_succ_set {l:List Int} {i:Nat} (h:i<l.length):l.take i++[l[i]]=l.take (i+1):=by
 rw [List.take_add_one,List.getElem?_eq_getElem h]; rfl
theorem l_rowOf {O:Oracle} {l:List Int} (hb:Bytes l) (hl:l.length=64):∀(m i:Nat) (cp:Option Nat),i+m=64 →
 dn O 0 (.loop Z1h_L0) ⟨[(3,.sl 1 [] 0 i cp),(6,(.d (.arr 64 .leaf (ints .u8 l)))),(7,(.d (.int .i64 i)))],[.hole,.sl false .leaf (ints .i64 (l.take i)),.hole,.hole]⟩ =
  some (.exit 0,⟨[(3,.sl 1 [] 0 64 (if m=0 then cp else none)),(6,(.d (.arr 64 .leaf (ints .u8 l)))),(7,(.d (.int .i64 64))),(8,(.d (.bool false)))],[.hole,.sl false .leaf (ints .i64 (l.take 64)),.hole,.hole]⟩)
 | 0,i,cp,hi=>by
  have:i=64:=by omega
  subst this
  exact dn_stop (by simp -implicitDefEqProofs [Z1h_L0,dn_cond])
 | m+1,i,cp,hi=>by
  have h1:(i:Int)<64:=by omega
  have hlt:i<l.length:=by omega
  have hx:l[i]? = some l[i]:=List.getElem?_eq_getElem hlt
  have hb':=hb _ (List.getElem_mem hlt)
  have w1:IntKind.i64.wrap l[i]=l[i]:=w64 (by omega)
  have w4:IntKind.i64.wrap ((i:Int)+1)=((i+1:Nat):Int):=(w64 (x:=(i:Int)+1) (by omega)).trans (by omega)
  have h8:(i+1)*8≤1099511627776:=by omega
  have hlen:i≤l.length:=by omega
  have ht:(l.take i).take i=l.take i:=by rw [List.take_take,Nat.min_self]
  have e1:ints .i64 (l.take i)++[D.int .i64 l[i]]=ints .i64 (l.take (i+1)):=by rw [←take_succ_set hlt,←ints_append]; rfl
  have ih:=l_rowOf (O:=O) hb hl m (i+1) none (by omega)
  have e2:(if m=0 then (none:Option Nat) else none)=none:=by split <;> rfl
  rw [e2] at ih
  rw [if_neg (Nat.succ_ne_zero m)]
  refine dn_round ?_ ih
  simp -implicitDefEqProofs [Z1h_L0,dn_cond,h1,hlt,w1,w4,h8,hlen,ht,e1,List.replicate]
def C_rowOf (O:Oracle):Prop:=∀l:List Int,Bytes l→l.length=64→ask O F1h [(D.arr 64 .leaf (ints .u8 l))]=some (D.sl .leaf (ints .i64 (trim l)))
theorem c_rowOf (hT:T F1h=some Z1h) (ht:C_trimmed (den T A)):C_rowOf (den T A):=by
 intro l hb hl
 have e:=l_rowOf (O:=den T A) hb hl 64 0 (some 0) (Nat.zero_add _)
 have e0:((0:Nat):Int)=0:=rfl
 rw [e0,List.take_zero,ints_nil,List.take_of_length_le (by omega)] at e
 have e1:=ht l (by omega)
 have ht:l.take 64=l:=List.take_of_length_le (by omega)
 refine ask_of hT rfl ?_
 simp -implicitDefEqProofs [Z1h,Z1h_B,e,e1,hl,ht]
def K_rowOf (O:Oracle):Prop:=∀(p:Int) [IsP p] (a:Fp p),a.len≤64→ask O F1h [(D.arr 64 .leaf (ints .u8 (pad (row a))))]=some (D.sl .leaf (ints .i64 (row a)))
theorem pad_bytes {p:Int} [IsP p] (a:Fp p):Bytes (pad (row a)):=fun x hx=>by
 obtain ⟨i,_,rfl⟩:=List.mem_map.1 hx
 have:=(row_can a).le IsP.pos i
 have:=IsP.le (p:=p)
 omega
theorem k_rowOf {O:Oracle} (h:C_rowOf O):K_rowOf O:=fun p i a hl=>by
 rw [h _ (pad_bytes a) (pad_length _),trim_pad a hl]
theorem l_poly {O:Oracle} {l z:List Int} (hb:Bytes l) (hl:l.length≤64):∀(m i:Nat) (cur:List Int),i+m=l.length→cur.length=64 →
 dn O 0 (.loop Z1m_L0) ⟨[(2,.ptr 0 []),(3,.ptr 1 []),(6,(.d (.sl .leaf (ints .i64 l)))),(7,(.d (.int .i64 l.length))),(8,(.d (.int .i64 i)))],[.box false (D.arr 64 .leaf (ints .u8 z)),.box false (D.arr 64 .leaf (ints .u8 cur))]⟩ =
  some (.exit 0,⟨[(2,.ptr 0 []),(3,.ptr 1 []),(6,(.d (.sl .leaf (ints .i64 l)))),(7,(.d (.int .i64 l.length))),(8,(.d (.int .i64 l.length))),(9,(.d (.bool false)))],[.box false (D.arr 64 .leaf (ints .u8 z)),.box false (D.arr 64 .leaf (ints .u8 (upd (cf l) m i cur)))]⟩)
 | 0,i,cur,hi,hc=>by
  have:i=l.length:=by omega
  subst this
  exact dn_stop (by simp -implicitDefEqProofs [Z1m_L0,dn_cond,upd])
 | m+1,i,cur,hi,hc=>by
  have hlt:i<l.length:=by omega
  have hx:l[i]? = some (cf l i):=by rw [List.getElem?_eq_getElem hlt,cf_lt hlt]
  have hb':=hb _ (List.getElem_mem hlt)
  rw [←cf_lt hlt] at hb'
  have w1:IntKind.u8.wrap l[i]=cf l i:=by rw [←cf_lt hlt]; exact w8 hb'
  have w4:IntKind.i64.wrap ((i:Int)+1)=((i+1:Nat):Int):=(w64 (x:=(i:Int)+1) (by omega)).trans (by omega)
  have hi64:i<64:=by omega
  have hcur:cur[i]? = some (cf cur i):=by rw [List.getElem?_eq_getElem (by omega),cf_lt]
  have ih:=l_poly (O:=O) (z:=z) hb hl m (i+1) (cur.set i (cf l i)) (by omega) (by simpa using hc)
  refine dn_round ?_ ih
  simp -implicitDefEqProofs [Z1m_L0,dn_cond,hlt,w1,w4,hi64,hcur]
def C_poly (O:Oracle):Prop:=∀l:List Int,Bytes l→l.length≤64→ask O F1m [(D.sl .leaf (ints .i64 l))]=some (D.arr 64 .leaf (ints .u8 (pad l)))
theorem upd_pad {l:List Int} (_hl:l.length≤64):upd (cf l) l.length 0 (pad [])=pad l:=by
 symm
 apply pad_eq
 ·rw [upd_length,pad_length]
 ·intro i hi
  unfold cf
  rw [List.getD_eq_getElem?_getD,List.getD_eq_getElem?_getD,upd_get]
  by_cases h:i<l.length
  ·rw [if_pos (by rw [pad_length]; omega)]
   simp [h]
  ·rw [if_neg (by omega),List.getElem?_eq_none (by omega),pad_get _ _ hi]; rfl
theorem c_poly (hT:T F1m=some Z1m):C_poly (den T A):=by
 intro l hb hl
 have e:=l_poly (O:=den T A) (z:=pad []) hb hl l.length 0 (pad []) (Nat.zero_add _) (pad_length [])
 have e0:((0:Nat):Int)=0:=rfl
 rw [e0,upd_pad hl] at e
 refine ask_of hT rfl ?_
 simp -implicitDefEqProofs [Z1m,Z1m_B,e]
theorem row_bytes {p:Int} [IsP p] (a:Fp p):Bytes (row a):=fun x hx=>by
 have:=row_can a x hx
 have:=IsP.le (p:=p)
 omega
def K_poly (O:Oracle):Prop:=∀(p:Int) [IsP p] (a:Fp p),a.len≤64→ask O F1m [(D.sl .leaf (ints .i64 (row a)))]=some (D.arr 64 .leaf (ints .u8 (pad (row a))))
theorem k_poly {O:Oracle} (h:C_poly O):K_poly O:=fun p i a hl=>h _ (row_bytes a) (by simpa using hl)
def C_fits (O:Oracle):Prop:=∀l:List Int,l.length<1000000→ask O F1k [(D.sl .leaf (ints .i64 l))]=some (D.bool (decide (l.length≤64)))
theorem c_fits (hT:T F1k=some Z1k) (hd:C_degree (den T A)):C_fits (den T A):=by
 intro l hl
 have e:=hd l hl
 have e2:decide ((l.length:Int)-1≤63)=decide (l.length≤64):=decide_eq_decide.2 (by omega)
 refine ask_of hT rfl ?_
 simp -implicitDefEqProofs [Z1k,Z1k_B,e,e2]
def toldD (l:List Int):D:=if l.length≤64 then .tup [(D.arr 64 .leaf (ints .u8 (pad l))),(D.int .i64 0)] else .tup [(D.arr 64 .leaf (ints .u8 (pad []))),(D.int .i64 3)]
def C_told (O:Oracle):Prop:=∀l:List Int,Bytes l→l.length<1000000→ask O F1o [(D.sl .leaf (ints .i64 l))]=some (toldD l)
theorem c_told (hT:T F1o=some Z1o) (hf:C_fits (den T A)) (hp:C_poly (den T A)):C_told (den T A):=by
 intro l hb hl
 have e:=hf l hl
 unfold toldD
 refine ask_of hT rfl ?_
 by_cases h:l.length≤64
 ·have e2:=hp l hb h
  simp -implicitDefEqProofs [Z1o,Z1o_B,e,e2,h,dn_cond]
 ·simp -implicitDefEqProofs [Z1o,Z1o_B,e,h,dn_cond]
def K_rest (O:Oracle):Prop:=∀(p:Int) [IsP p] (a b:Fp p),b≠0→a.len<5000→b.len<5000 →
 ask O F1b [(D.int .i64 p),(D.sl .leaf (ints .i64 (row a))),(D.sl .leaf (ints .i64 (row b)))]=some (D.sl .leaf (ints .i64 (row (a%b))))
theorem k_rest (hT:T F1b=some Z1b) (hd:K_divide (den T A)):K_rest (den T A):=by
 intro p i a b hb h1 h2
 have e:=hd p a b hb h1 h2
 refine ask_of hT rfl ?_
 simp -implicitDefEqProofs [Z1b,Z1b_B,e]
end Pe

namespace Pe
open Go Gq
variable {T:Nat→Option Fn} {A:Oracle}
section
variable {p:Int} [IsP p]
theorem row_one:row (1:Fp p)=[1]:=by
 unfold row
 rw [Pol.len_one]
 show [rep ((1:Fp p).c 0)]=[1]
 have:(1:Fp p).c 0=1:=rfl
 rw [this,rep_one]
end
section
variable {p:Int}
theorem sub_comb (u z:Fp p):u+Pol.C (zp p (-1))*z=u-z:=by
 rw [zp_neg,zp_one,Pol.C_neg,Pol.C_one]
 exact ring_of [u,z] rfl
end
section
variable {p:Int} [IsP p]
end
def K_combine1 (O:Oracle):Prop:=∀(p:Int) [IsP p] (a b:Fp p),a.len<1000000→b.len<1000000 →
 ask O Fv [(D.int .i64 p),(D.sl .leaf (ints .i64 (row a))),(D.sl .leaf (ints .i64 (row b))),(D.int .i64 (-1))]=some (D.sl .leaf (ints .i64 (row (a-b))))
theorem k_combine1 {O:Oracle} (h:K_combine O):K_combine1 O:=fun p i a b h1 h2=>by
 rw [h p (-1) a b (by omega) (by omega) h1 h2,sub_comb]
section
variable {p:Int} [IsP p]
theorem bz_small {A B a b u x v y:Fp p} (h:Pol.BzI A B a b u x v y) (hA:A.len≤2000) (hB:B.len≤2000) (ha:a.len≤2000) (hb:b.len≤2000) (hb0:b≠0) :
 u.len<3000∧v.len<3000∧x.len<3000∧y.len<3000∧(a/b).len<3000∧(a%b).len≤2000∧(a/b*x).len<3000∧(a/b*y).len<3000:=by
 have h1:=h.lu
 have h2:=h.lv
 have h3:=h.lx
 have h4:=h.ly
 have h5:=Pol.len_div_le a hb0
 have h6:=Pol.len_mod_le a hb0
 obtain ⟨h7,h8⟩:=h.qlen hb0
 omega
theorem l_bezout {O:Oracle} (hd:K_divide O) (ht:K_times O) (hc:K_combine1 O) {A B:Fp p} (hA:A.len≤2000) (hB:B.len≤2000):∀(n:Nat) (a b u x v y:Fp p),b.len≤n→a.len≤2000→b.len≤2000→Pol.BzI A B a b u x v y→∃x' y',
 dn O 0 (.loop Zu_L0) ⟨[(0,(.d (.int .i64 p))),(1,(.d (.sl .leaf (ints .i64 (row a))))),(2,(.d (.sl .leaf (ints .i64 (row b))))),(9,(.d (.sl .leaf (ints .i64 (row u))))),(10,(.d (.sl .leaf (ints .i64 (row v))))),(11,(.d (.sl .leaf (ints .i64 (row x))))),(12,(.d (.sl .leaf (ints .i64 (row y)))))],[.hole,.hole]⟩ =
  some (.exit 0,⟨[(0,(.d (.int .i64 p))),(1,(.d (.sl .leaf (ints .i64 (row (Pol.bz n a b u x v y).1))))),(2,(.d (.sl .leaf (ints .i64 ([]))))),(9,(.d (.sl .leaf (ints .i64 (row (Pol.bz n a b u x v y).2.1))))),(10,(.d (.sl .leaf (ints .i64 (row (Pol.bz n a b u x v y).2.2))))),(11,(.d (.sl .leaf (ints .i64 x')))),(12,(.d (.sl .leaf (ints .i64 y')))),(20,(.d (.bool false)))],[.hole,.hole]⟩):=by
 intro n
 induction n with
 | zero=>
  intro a b u x v y hn ha hb hi
  obtain rfl:=Pol.len_zero_iff.1 (show b.len=0 by omega)
  exact ⟨row x,row y,dn_stop (by simp -implicitDefEqProofs [Zu_L0,dn_cond,row_zero,Pol.bz,ints_nil])⟩
 | succ n ih=>
  intro a b u x v y hn ha hb hi
  unfold Pol.bz
  by_cases h0:b=0
  ·subst h0
   rw [if_pos rfl]
   exact ⟨row x,row y,dn_stop (by simp -implicitDefEqProofs [Zu_L0,dn_cond,row_zero,ints_nil])⟩
  ·rw [if_neg h0]
   obtain ⟨s1,s2,s3,s4,s5,s6,s7,s8⟩:=bz_small hi hA hB ha hb h0
   have hl:=Pol.len_mod a h0
   have hp:=Pol.len_pos h0
   obtain ⟨x',y',e⟩:=ih b (a%b) x (u-a/b*x) y (v-a/b*y) (by omega) hb s6 (hi.step h0)
   refine ⟨x',y',dn_round ?_ e⟩
   have e1:=hd p a b h0 (by omega) (by omega)
   have e2:=ht p (a/b) x (by omega) (by omega)
   have e3:=hc p u (a/b*x) (by omega) (by omega)
   have e4:=ht p (a/b) y (by omega) (by omega)
   have e5:=hc p v (a/b*y) (by omega) (by omega)
   simp -implicitDefEqProofs [Zu_L0,dn_cond,hp,e1,e2,e3,e4,e5]
end
def K_bezout (O:Oracle):Prop:=∀(p:Int) [IsP p] (a b:Fp p),(a≠0∨b≠0)→a.len≤2000→b.len≤2000 →
 ask O Fu [(D.int .i64 p),(D.sl .leaf (ints .i64 (row a))),(D.sl .leaf (ints .i64 (row b)))]=some (.tup [(D.sl .leaf (ints .i64 (row (Pol.bezout a b).1))),(D.sl .leaf (ints .i64 (row (Pol.bezout a b).2.1))),(D.sl .leaf (ints .i64 (row (Pol.bezout a b).2.2)))])
theorem finv_rep {p:Int} [IsP p] (x:Zp p) (hx:x≠0):zp p (inv p (rep x))=Fd.inv x:=by
 have h0:=rep_in x
 have h1:rep x≠0:=fun h=>hx (rep_eq_zero.1 h)
 have h2:x*zp p (inv p (rep x))=1:=by
  have:zp p (rep x*inv p (rep x))=1:=by rw [←zp_mod,inv_ok p _ (by omega) h0.2]; rfl
  rwa [zp_mul,zp_rep] at this
 have h3:=Fd.mul_inv x hx
 have:Fd.inv x*(x*zp p (inv p (rep x)))=Fd.inv x*1:=by rw [h2]
 rw [←Gq.mul_assoc,Gq.mul_comm (Fd.inv x),h3,Gq.one_mul,Gq.mul_one] at this
 exact this
theorem k_bezout (hT:T Fu=some Zu) (hd:K_divide (den T A)) (ht:K_times (den T A)) (hc:K_combine1 (den T A)) (hld:C_lead (den T A)) (hinv:C_inverse (den T A)) (hs:K_scale (den T A)):K_bezout (den T A):=by
 intro p i a b hab ha hb
 have hp:=IsP.ge (p:=p)
 have hp7:=IsP.le (p:=p)
 -- the end
 have last:∀{x y:Fp p} {a' u v:Fp p},Pol.BzI a b a' 0 u x v y→ask (den T A) F1l [(D.sl .leaf (ints .i64 (row a')))]=some (D.int .i64 (rep a'.ld))∧ask (den T A) F10 [(D.int .i64 p),(D.int .i64 (rep a'.ld))]=some (D.int .i64 (inv p (rep a'.ld))) ∧
  ask (den T A) F1c [(D.int .i64 p),(D.sl .leaf (ints .i64 (row a'))),(D.int .i64 (inv p (rep a'.ld)))]=some (D.sl .leaf (ints .i64 (row (Pol.C (Fd.inv a'.ld)*a'))))∧ask (den T A) F1c [(D.int .i64 p),(D.sl .leaf (ints .i64 (row u))),(D.int .i64 (inv p (rep a'.ld)))]=some (D.sl .leaf (ints .i64 (row (Pol.C (Fd.inv a'.ld)*u))))∧ask (den T A) F1c [(D.int .i64 p),(D.sl .leaf (ints .i64 (row v))),(D.int .i64 (inv p (rep a'.ld)))]=some (D.sl .leaf (ints .i64 (row (Pol.C (Fd.inv a'.ld)*v)))):=by
  intro x y a' u v hi
  have ha0:a'≠0:=hi.any.resolve_right (fun h=>h rfl)
  have hr:=rep_in a'.ld
  have hin:=inv_in p (rep a'.ld)
  have h1:=hi.lu
  have h2:=hi.lv
  rw [Pol.len_zero] at h1 h2
  have hal:a'.len<5000:=by
   have:=Pol.len_add_le (a:=u*a) (b:=v*b) (n:=4500) (by
    by_cases hu:u=0
    ·rw [hu,Gq.zero_mul,Pol.len_zero]; omega
    ·by_cases ha0:a=0
     ·rw [ha0,Gq.mul_zero,Pol.len_zero]; omega
     ·have:=Pol.len_mul hu ha0; omega) (by
    by_cases hu:v=0
    ·rw [hu,Gq.zero_mul,Pol.len_zero]; omega
    ·by_cases ha0:b=0
     ·rw [ha0,Gq.mul_zero,Pol.len_zero]; omega
     ·have:=Pol.len_mul hu ha0; omega)
   rw [hi.one] at this
   omega
  have e1:=hld (row a') (by rw [row_length]; omega)
  rw [ld_row] at e1
  have e2:=hinv p (rep a'.ld) (by omega) (by omega) hr.1 hr.2
  have e3:=hs p (inv p (rep a'.ld)) a' (by omega) (by omega) (by omega)
  have e4:=hs p (inv p (rep a'.ld)) u (by omega) (by omega) (by omega)
  have e5:=hs p (inv p (rep a'.ld)) v (by omega) (by omega) (by omega)
  rw [finv_rep _ (Pol.ld_ne ha0)] at e3 e4 e5
  exact ⟨e1,e2,e3,e4,e5⟩
 have I0:=Pol.BzI.init (A:=a) (B:=b) hab
 refine ask_of hT rfl ?_
 unfold Pol.bezout Pol.eu
 by_cases h0:b=0
 ·subst h0
  have l0:=dn_stop (O:=den T A) (np:=0) (c:=Zu_L0) (s:=⟨[(0,(.d (.int .i64 p))),(1,(.d (.sl .leaf (ints .i64 (row a))))),(2,(.d (.sl .leaf (ints .i64 ([]))))),(9,.sl 0 [] 0 1 (some 1)),(10,(.d (.sl .leaf (ints .i64 ([]))))),(11,(.d (.sl .leaf (ints .i64 ([]))))),(12,.sl 1 [] 0 1 (some 1))],[.sl false .leaf (ints .i64 [1]),.sl false .leaf (ints .i64 [1])]⟩) (s1:=⟨[(0,(.d (.int .i64 p))),(1,(.d (.sl .leaf (ints .i64 (row a))))),(2,(.d (.sl .leaf (ints .i64 ([]))))),(9,.sl 0 [] 0 1 (some 1)),(10,(.d (.sl .leaf (ints .i64 ([]))))),(11,(.d (.sl .leaf (ints .i64 ([]))))),(12,.sl 1 [] 0 1 (some 1)),(20,(.d (.bool false)))],[.sl false .leaf (ints .i64 [1]),.sl false .leaf (ints .i64 [1])]⟩) (id:=0) (by simp -implicitDefEqProofs [Zu_L0,dn_cond,ints_nil])
  obtain ⟨e1,e2,e3,e4,e5⟩:=last I0
  rw [row_one] at e4
  rw [row_zero] at e5
  rw [ints_nil] at l0 e5
  rw [Pol.len_zero]
  have o1:D.int IntKind.i64 1::[]=ints .i64 [1]:=rfl
  simp -implicitDefEqProofs [Zu,Zu_B,row_zero,ints_nil,Pol.bz,e1,e2,e3,e4,e5,l0,o1,List.replicate]
 ·have hp0:=Pol.len_pos h0
  have I1:=I0.step h0
  obtain ⟨_,_,_,_,q5,q6,q7,q8⟩:=bz_small I0 ha hb ha hb h0
  have l0:=hd p a b h0 (by omega) (by omega)
  have l1:=ht p (a/b) 0 (by omega) (by rw [Pol.len_zero]; omega)
  have l2:=ht p (a/b) 1 (by omega) (by rw [Pol.len_one]; omega)
  have l3:=hc p 1 (a/b*0) (by rw [Pol.len_one]; omega) (by omega)
  have l4:=hc p 0 (a/b*1) (by rw [Pol.len_zero]; omega) (by omega)
  rw [row_one] at l2 l3
  rw [row_zero,ints_nil] at l1 l4
  have st1:dn (den T A) 0 Zu_L0 ⟨[(0,(.d (.int .i64 p))),(1,(.d (.sl .leaf (ints .i64 (row a))))),(2,(.d (.sl .leaf (ints .i64 (row b))))),(9,.sl 0 [] 0 1 (some 1)),(10,.d (.sl .leaf [])),(11,.d (.sl .leaf [])),(12,.sl 1 [] 0 1 (some 1))],[.sl false .leaf (ints .i64 [1]),.sl false .leaf (ints .i64 [1])]⟩ =
   some (.normal,⟨[(0,(.d (.int .i64 p))),(1,(.d (.sl .leaf (ints .i64 (row b))))),(2,(.d (.sl .leaf (ints .i64 (row (a%b)))))),(9,.d (.sl .leaf [])),(10,.sl 1 [] 0 1 (some 1)),(11,(.d (.sl .leaf (ints .i64 (row (1-a/b*0)))))),(12,(.d (.sl .leaf (ints .i64 (row (0-a/b*1))))))],[.hole,.sl true .leaf (ints .i64 [1])]⟩):=by
   simp -implicitDefEqProofs [Zu_L0,dn_cond,hp0,l0,l1,l2,l3,l4]
  by_cases h1:a%b=0
  ·have st2:dn (den T A) 0 Zu_L0 ⟨[(0,(.d (.int .i64 p))),(1,(.d (.sl .leaf (ints .i64 (row b))))),(2,(.d (.sl .leaf (ints .i64 (row (a%b)))))),(9,.d (.sl .leaf [])),(10,.sl 1 [] 0 1 (some 1)),(11,(.d (.sl .leaf (ints .i64 (row (1-a/b*0)))))),(12,(.d (.sl .leaf (ints .i64 (row (0-a/b*1))))))],[.hole,.sl true .leaf (ints .i64 [1])]⟩ =
    some (.exit 0,⟨[(0,(.d (.int .i64 p))),(1,(.d (.sl .leaf (ints .i64 (row b))))),(2,(.d (.sl .leaf (ints .i64 (row (a%b)))))),(9,.d (.sl .leaf [])),(10,.sl 1 [] 0 1 (some 1)),(11,(.d (.sl .leaf (ints .i64 (row (1-a/b*0)))))),(12,(.d (.sl .leaf (ints .i64 (row (0-a/b*1)))))),(20,(.d (.bool false)))],[.hole,.sl true .leaf (ints .i64 [1])]⟩):=by
    simp -implicitDefEqProofs [Zu_L0,dn_cond,h1,row_zero]
   have lp:=dn_round st1 (dn_stop st2)
   have hb1:Pol.bz b.len a b 1 0 0 1=(b,0,1):=by
    rw [show b.len=(b.len-1)+1 by omega,Pol.bz,if_neg h0]
    cases hn:b.len-1 with
    | zero=>rfl
    | succ n=>rw [Pol.bz,if_pos h1]
   rw [hb1]
   have I1':Pol.BzI a b b 0 0 (1-a/b*0) 1 (0-a/b*1):=h1▸I1
   obtain ⟨e1,e2,e3,e4,e5⟩:=last I1'
   rw [row_one] at e5
   rw [row_zero,ints_nil] at e4
   have o1:D.int IntKind.i64 1::[]=ints .i64 [1]:=rfl
   simp -implicitDefEqProofs [Zu,Zu_B,e1,e2,e3,e4,e5,lp,o1,List.replicate]
  ·have hp1:=Pol.len_pos h1
   have hl1:=Pol.len_mod a h0
   obtain ⟨s1,s2,s3,s4,s5,s6,s7,s8⟩:=bz_small I1 ha hb hb (by omega) h1
   have m0:=hd p b (a%b) h1 (by omega) (by omega)
   have m1:=ht p (b/(a%b)) (1-a/b*0) (by omega) (by omega)
   have m2:=ht p (b/(a%b)) (0-a/b*1) (by omega) (by omega)
   have m3:=hc p 0 (b/(a%b)*(1-a/b*0)) (by omega) (by omega)
   have m4:=hc p 1 (b/(a%b)*(0-a/b*1)) (by omega) (by omega)
   rw [row_one] at m4
   rw [row_zero,ints_nil] at m3
   have st2:dn (den T A) 0 Zu_L0 ⟨[(0,(.d (.int .i64 p))),(1,(.d (.sl .leaf (ints .i64 (row b))))),(2,(.d (.sl .leaf (ints .i64 (row (a%b)))))),(9,.d (.sl .leaf [])),(10,.sl 1 [] 0 1 (some 1)),(11,(.d (.sl .leaf (ints .i64 (row (1-a/b*0)))))),(12,(.d (.sl .leaf (ints .i64 (row (0-a/b*1))))))],[.hole,.sl true .leaf (ints .i64 [1])]⟩ =
    some (.normal,⟨[(0,(.d (.int .i64 p))),(1,(.d (.sl .leaf (ints .i64 (row (a%b)))))),(2,(.d (.sl .leaf (ints .i64 (row (b%(a%b))))))),(9,(.d (.sl .leaf (ints .i64 (row (1-a/b*0)))))),(10,(.d (.sl .leaf (ints .i64 (row (0-a/b*1)))))),(11,(.d (.sl .leaf (ints .i64 (row (0-b/(a%b)*(1-a/b*0))))))),(12,(.d (.sl .leaf (ints .i64 (row (1-b/(a%b)*(0-a/b*1)))))))],[.hole,.hole]⟩):=by
    simp -implicitDefEqProofs [Zu_L0,dn_cond,hp1,m0,m1,m2,m3,m4]
   have I2:=I1.step h1
   have hl2:=Pol.len_mod b h1
   obtain ⟨x',y',e⟩:=l_bezout hd ht hc ha hb (b.len-2) _ _ _ _ _ _ (by omega) (by omega) (by omega) I2
   have lp:=dn_round st1 (dn_round st2 e)
   have hb1:Pol.bz b.len a b 1 0 0 1=Pol.bz (b.len-2) (a%b) (b%(a%b)) (1-a/b*0) (0-b/(a%b)*(1-a/b*0)) (0-a/b*1) (1-b/(a%b)*(0-a/b*1)):=by
    rw [show b.len=(b.len-2+1)+1 by omega,Pol.bz,if_neg h0,Pol.bz,if_neg h1]
    rfl
   rw [hb1]
   obtain ⟨x2,y2,I3,_,_⟩:=Pol.bz_spec (b.len-2) _ _ _ _ _ _ (by omega) I2
   obtain ⟨e1,e2,e3,e4,e5⟩:=last I3
   have o1:D.int IntKind.i64 1::[]=ints .i64 [1]:=rfl
   simp -implicitDefEqProofs [Zu,Zu_B,ints_nil,e1,e2,e3,e4,e5,lp,o1,List.replicate]
end Pe

namespace Pe
open Go Gq
variable {T:Nat→Option Fn} {A:Oracle}
def K_gcd (O:Oracle):Prop:=∀(p:Int) [IsP p] (a b:Fp p),(a≠0∨b≠0)→a.len≤2000→b.len≤2000 →
 ask O Fz [(D.int .i64 p),(D.sl .leaf (ints .i64 (row a))),(D.sl .leaf (ints .i64 (row b)))]=some (D.sl .leaf (ints .i64 (row (Pol.gcd a b))))
theorem k_gcd (hT:T Fz=some Zz) (hb:K_bezout (den T A)):K_gcd (den T A):=by
 intro p i a b hab h1 h2
 have e:=hb p a b hab h1 h2
 refine ask_of hT rfl ?_
 simp -implicitDefEqProofs [Zz,Zz_B,e,Pol.gcd]
theorem and1 (x:Int) (_h:0≤x):((BitVec.ofInt 64 x &&& 1#64).toNat:Int)=x%2:=by
 rw [BitVec.toNat_and]
 have e:(1#64).toNat=2^1-1:=rfl
 rw [e,Nat.and_two_pow_sub_one_eq_mod,BitVec.toNat_ofInt]
 omega
theorem and_one (x:Int) (h:0≤x):andI .i64 x 1=x%2:=by
 show IntKind.i64.wrap ((BitVec.ofInt 64 x &&& 1#64).toNat:Int)=_
 rw [and1 x h,w64 (by omega)]
theorem shr_one (x:Int):shiftI .shr .i64 x 1=some (.int .i64 (x/2)):=by
 show (if (1:Int)<0 then none else some (D.int .i64 (x.fdiv (2^min (1:Int).toNat 64))))=_
 rw [if_neg (by omega)]
 congr 2
 show x.fdiv 2=x/2
 rw [Int.fdiv_eq_ediv_of_nonneg _ (by omega)]
theorem l_power {O:Oracle} (hr:K_rest O) (ht:K_times O) {p:Int} [IsP p] {m:Fp p} (hm:m≠0) (hml:m.len<2000):∀(n:Nat) (k:Int) (out base:Fp p),0≤k→k.toNat<2^n→k<4611686018427387904→out.len<m.len→base.len<m.len→∃base':List Int,
 dn O 0 (.loop Z17_L0) ⟨[(0,(.d (.int .i64 p))),(2,(.d (.int .i64 k))),(3,(.d (.sl .leaf (ints .i64 (row m))))),(9,(.d (.sl .leaf (ints .i64 (row out))))),(10,(.d (.sl .leaf (ints .i64 (row base)))))],[.hole]⟩ =
  some (.exit 0,⟨[(0,(.d (.int .i64 p))),(2,(.d (.int .i64 0))),(3,(.d (.sl .leaf (ints .i64 (row m))))),(9,(.d (.sl .leaf (ints .i64 (row (out*pw base k.toNat%m)))))),(10,(.d (.sl .leaf (ints .i64 base')))),(20,(.d (.bool false)))],[.hole]⟩):=by
 intro n
 induction n with
 | zero=>
  intro k out base hk hn _ ho hb
  obtain rfl:k=0:=by simp at hn; omega
  refine ⟨row base,?_⟩
  have e:out*pw base (0:Int).toNat%m=out:=by
   show out*1%m=out
   rw [Gq.mul_one,Pol.mod_small ho]
  rw [e]
  exact dn_stop (by simp -implicitDefEqProofs [Z17_L0,dn_cond])
 | succ n ih=>
  intro k out base hk hn hkm ho hb
  by_cases h0:k=0
  ·subst h0
   refine ⟨row base,?_⟩
   have e:out*pw base (0:Int).toNat%m=out:=by
    show out*1%m=out
    rw [Gq.mul_one,Pol.mod_small ho]
   rw [e]
   exact dn_stop (by simp -implicitDefEqProofs [Z17_L0,dn_cond])
  ·have hkp:0<k:=by omega
   have hlen:∀x y:Fp p,x.len<m.len→y.len<m.len→(x*y).len<5000:=fun x y hx hy=>by
    have:=Pol.len_le (Pol.lt_mul x.lt_len y.lt_len)
    omega
   have t1:=ht p out base (by omega) (by omega)
   have t2:=ht p base base (by omega) (by omega)
   have r1:=hr p (out*base) m hm (hlen _ _ ho hb) (by omega)
   have r2:=hr p (base*base) m hm (hlen _ _ hb hb) (by omega)
   have s:=Pol.bin_step (out:=out) (base:=base) hm k.toNat (by omega)
   have hdiv:(k/2).toNat=k.toNat/2:=by omega
   obtain ⟨b',e⟩:=ih (k/2) (if k.toNat%2=1 then out*base%m else out) (base*base%m) (by omega) (by rw [Nat.pow_succ] at hn; omega) (by omega) (by split; exact Pol.len_mod _ hm; exact ho) (Pol.len_mod _ hm)
   rw [hdiv,s] at e
   refine ⟨b',dn_round ?_ e⟩
   have ea:=and_one k (by omega)
   have es:=shr_one k
   by_cases hodd:k%2=1
   ·rw [if_pos (show k.toNat%2=1 by omega)]
    simp -implicitDefEqProofs [Z17_L0,dn_cond,hkp,t1,t2,r1,r2,ea,es,hodd]
   ·rw [if_neg (show ¬ k.toNat%2=1 by omega)]
    simp -implicitDefEqProofs [Z17_L0,dn_cond,hkp,t2,r2,ea,es,hodd]
def K_power (O:Oracle):Prop:=∀(p:Int) [IsP p] (a:Fp p) (k:Int) (m:Fp p),m≠0→a.len<5000→m.len<2000→0≤k→k<4611686018427387904 →
 ask O F17 [(D.int .i64 p),(D.sl .leaf (ints .i64 (row a))),(D.int .i64 k),(D.sl .leaf (ints .i64 (row m)))]=some (D.sl .leaf (ints .i64 (row (pw a k.toNat%m))))
theorem k_power (hT:T F17=some Z17) (hr:K_rest (den T A)) (ht:K_times (den T A)):K_power (den T A):=by
 intro p i a k m hm ha hml hk hkm
 have r1:=hr p 1 m hm (by rw [Pol.len_one]; omega) (by omega)
 rw [row_one] at r1
 have r2:=hr p a m hm (by omega) (by omega)
 obtain ⟨b',e⟩:=l_power hr ht hm hml 62 k (1%m) (a%m) hk (by omega) hkm (Pol.len_mod _ hm) (Pol.len_mod _ hm)
 have e2:1%m*pw (a%m) k.toNat%m=pw a k.toNat%m:=by
  rw [Pol.mul_mod_left _ _ hm,Gq.one_mul,Pol.pow_mod _ hm]
 rw [e2] at e
 have o1:D.int IntKind.i64 1::[]=ints .i64 [1]:=rfl
 refine ask_of hT rfl ?_
 simp -implicitDefEqProofs [Z17,Z17_B,r1,r2,e,o1,List.replicate]
def normL (p most:Int):Nat→Int→Int
 | 0,out=>out
 | n+1,out=>if out > most then out else normL p most n (out*p)
theorem l_norm {O:Oracle} {p:Int} [IsP p] {most nn:Int} (hmost:most≤1152921504606846976):∀(n:Nat) (i:Int) (out:Int),i+n=nn→-1000000<i→nn<1000000→0≤out→out≤8070450532247928832→∃(i':Int) (b:List (Nat×V)),
 dn O 0 (.loop Z15_L0) ⟨[(0,(.d (.int .i64 p))),(2,(.d (.int .i64 most))),(7,(.d (.int .i64 out))),(8,(.d (.int .i64 nn))),(9,(.d (.int .i64 i)))],[]⟩ =
  some (.exit 0,⟨[(0,(.d (.int .i64 p))),(2,(.d (.int .i64 most))),(7,(.d (.int .i64 (normL p most n out)))),(8,(.d (.int .i64 nn))),(9,(.d (.int .i64 i')))]++b,[]⟩)
 | 0,i,out,hi,h1,h2,ho,ho2=>by
  have:i=nn:=by omega
  subst this
  exact ⟨i,[(10,(.d (.bool false)))],dn_stop (by simp -implicitDefEqProofs [Z15_L0,dn_cond,normL])⟩
 | n+1,i,out,hi,h1,h2,ho,ho2=>by
  have hlt:i<nn:=by omega
  have hp:=IsP.le (p:=p)
  have hp2:=IsP.pos (p:=p)
  by_cases hm:most<out
  ·exact ⟨i,[(13,(.d (.bool true)))],dn_stop (by simp -implicitDefEqProofs [Z15_L0,dn_cond,normL,hlt,hm])⟩
  ·have hmul:0≤out*p∧out*p≤8070450532247928832:=by
    refine ⟨Int.mul_nonneg ho (by omega),?_⟩
    have:out*p≤out*7:=Int.mul_le_mul_of_nonneg_left hp ho
    omega
   obtain ⟨i',b,e⟩:=l_norm (O:=O) (p:=p) (nn:=nn) hmost n (i+1) (out*p) (by omega) (by omega) h2 hmul.1 hmul.2
   have w1:IntKind.i64.wrap (out*p)=out*p:=w64 (by omega)
   have w2:IntKind.i64.wrap (i+1)=i+1:=w64 (by omega)
   refine ⟨i',b,dn_round (s1:=⟨[(0,(.d (.int .i64 p))),(2,(.d (.int .i64 most))),(7,(.d (.int .i64 (out*p)))),(8,(.d (.int .i64 nn))),(9,(.d (.int .i64 (i+1))))],[]⟩) (by simp -implicitDefEqProofs [Z15_L0,dn_cond,hlt,hm,w1,w2]) ?_⟩
   rw [e,normL,if_neg (by omega)]
def C_norm (O:Oracle):Prop:=∀(p:Int) [IsP p] (n:Nat) (most:Int),n<1000000→most≤1152921504606846976→ask O F15 [(D.int .i64 p),(D.int .i64 n),(D.int .i64 most)]=some (D.int .i64 (normL p most n 1))
theorem c_norm (hT:T F15=some Z15):C_norm (den T A):=by
 intro p i n most hn hm
 obtain ⟨i',b,e⟩:=l_norm (O:=den T A) (p:=p) (nn:=(n:Int)) hm n 0 1 (by omega) (by omega) (by omega) (by omega) (by omega)
 refine ask_of hT rfl ?_
 simp -implicitDefEqProofs [Z15,Z15_B,e]
end Pe

namespace Pe
open Go Gq
variable {T:Nat→Option Fn} {A:Oracle}
def dgs (p:Int):Nat→Int→List Int
 | 0,_=>[]
 | f+1,n=>if n≤0 then [] else n%p::dgs p f (n/p)
def numP (p n:Int):Fp p:=polOf p (dgs p 64 n)
theorem dgs_can {p:Int} [IsP p]:∀f n,Can p (dgs p f n)
 | 0,n=>fun x hx=>by simp [dgs] at hx
 | f+1,n=>fun x hx=>by
  unfold dgs at hx
  split at hx
  ·simp at hx
  ·have hp:=IsP.pos (p:=p)
   rcases List.mem_cons.1 hx with rfl | hx
   ·exact ⟨Int.emod_nonneg _ (by omega),Int.emod_lt_of_pos _ hp⟩
   ·exact dgs_can f _ x hx
theorem div_pos_small {p n:Int} [IsP p] (h:0<n) (h2:n/p=0):n%p≠0:=by
 have h3:=Int.mul_ediv_add_emod n p
 rw [h2] at h3
 simp at h3
 omega
theorem dgs_last {p:Int} [IsP p]:∀(f:Nat) (n:Int),n<2^f→dgs p f n=[]∨cf (dgs p f n) ((dgs p f n).length-1)≠0
 | 0,n,h=>.inl rfl
 | f+1,n,h=>by
  by_cases h0:n≤0
  ·left; simp [dgs,h0]
  ·right
   have hp:=IsP.ge (p:=p)
   have hd:n/p<2^f:=by
    apply Int.ediv_lt_of_lt_mul (by omega)
    have:(2:Int)^(f+1)=2^f*2:=Int.pow_succ _ _
    have h2:(2:Int)^f*2≤2^f*p:=Int.mul_le_mul_of_nonneg_left hp (Int.pow_nonneg (by omega))
    omega
   have e:dgs p (f+1) n=n%p::dgs p f (n/p):=by simp [dgs,h0]
   rw [e]
   have hdn:0≤n/p:=Int.ediv_nonneg (by omega) (by omega)
   rcases dgs_last (p:=p) f (n/p) hd with h1 | h1
   ·rw [h1]
    show n%p≠0
    by_cases hz:n/p=0
    ·exact div_pos_small (p:=p) (show 0<n by omega) hz
    ·exfalso
     cases f with
     | zero=>simp at hd; omega
     | succ f=>
      rw [dgs,if_neg (by omega)] at h1
      cases h1
   ·cases hq:dgs p f (n/p) with
    | nil=>rw [hq] at h1; simp [cf] at h1
    | cons a l=>
     rw [hq] at h1
     simpa [cf] using h1
theorem row_of_list {p:Int} [IsP p] {l:List Int} (h:Can p l) (hl:l=[]∨cf l (l.length-1)≠0):row (polOf p l)=l:=by
 rw [←trim_polOf h]
 unfold trim
 have:tlen l l.length=l.length:=by
  cases hn:l.length with
  | zero=>rfl
  | succ n=>
   rcases hl with h0 | h0
   ·rw [h0] at hn; simp at hn
   ·rw [hn,Nat.add_sub_cancel] at h0
    rw [tlen,if_neg h0]
 rw [this,List.take_length]
theorem row_numP {p:Int} [IsP p] {n:Int} (h:n<18446744073709551616):row (numP p n)=dgs p 64 n:=row_of_list (dgs_can 64 n) (dgs_last 64 n (by simpa using h))
theorem dgs_le (p:Int):∀f n,(dgs p f n).length≤f
 | 0,n=>by simp [dgs]
 | f+1,n=>by
  unfold dgs
  split
  ·simp
  ·have:=dgs_le p f (n/p); simp; omega
theorem numP_len {p:Int} (n:Int):(numP p n).len≤64:=Nat.le_trans (Pol.len_le (polOf_lt _)) (dgs_le p 64 n)
theorem l_numbered {O:Oracle} {p:Int} [IsP p]:∀(f:Nat) (n:Int) (cur:List Int) (cp:Option Nat),0≤n→n<2^f→n<9223372036854775807→cur.length+f<1000→∃cp',
 dn O 0 (.loop Z16_L0) ⟨[(0,(.d (.int .i64 p))),(1,(.d (.int .i64 n))),(5,.sl 0 [] 0 cur.length cp)],[.sl false .leaf (ints .i64 cur),.hole,.hole]⟩ =
  some (.exit 0,⟨[(0,(.d (.int .i64 p))),(1,(.d (.int .i64 0))),(5,.sl 0 [] 0 (cur++dgs p f n).length cp'),(7,(.d (.bool false)))],[.sl false .leaf (ints .i64 (cur++dgs p f n)),.hole,.hole]⟩)
 | 0,n,cur,cp,h0,hn,hm,hl=>by
  obtain rfl:n=0:=by simp at hn; omega
  refine ⟨cp,?_⟩
  rw [dgs,List.append_nil]
  exact dn_stop (by simp -implicitDefEqProofs [Z16_L0,dn_cond])
 | f+1,n,cur,cp,h0,hn,hm,hl=>by
  have hp:=IsP.ge (p:=p)
  have hp7:=IsP.le (p:=p)
  by_cases hz:n=0
  ·subst hz
   refine ⟨cp,?_⟩
   rw [dgs,if_pos (Int.le_refl 0),List.append_nil]
   exact dn_stop (by simp -implicitDefEqProofs [Z16_L0,dn_cond])
  ·have hd:n/p<2^f:=by
    apply Int.ediv_lt_of_lt_mul (by omega)
    have:(2:Int)^(f+1)=2^f*2:=Int.pow_succ _ _
    have h2:(2:Int)^f*2≤2^f*p:=Int.mul_le_mul_of_nonneg_left hp (Int.pow_nonneg (by omega))
    omega
   have hdn:0≤n/p:=Int.ediv_nonneg (by omega) (by omega)
   have hdl:n/p≤n:=Int.ediv_le_self _ h0
   obtain ⟨cp',e⟩:=l_numbered (O:=O) (p:=p) f (n/p) (cur++[n%p]) none hdn hd (by omega) (by simp; omega)
   have hpos:0<n:=by omega
   have w1:IntKind.i64.wrap (n.tdiv p)=n/p:=by rw [Int.tdiv_eq_ediv_of_nonneg h0,w64 (by omega)]
   have w2:n.tmod p=n%p:=Int.tmod_eq_emod_of_nonneg h0
   have hp0:p≠0:=by omega
   have h8:(cur.length+1)*8≤1099511627776:=by omega
   have o1:ints .i64 cur++[D.int .i64 (n%p)]=ints .i64 (cur++[n%p]):=by rw [←ints_append]; rfl
   refine ⟨cp',?_⟩
   rw [dgs,if_neg (by omega),show cur++n%p::dgs p f (n/p)=(cur++[n%p])++dgs p f (n/p) by simp]
   refine dn_round ?_ e
   simp -implicitDefEqProofs [Z16_L0,dn_cond,hpos,w1,w2,hp0,h8,o1,List.replicate]
def K_numbered (O:Oracle):Prop:=∀(p:Int) [IsP p] (n:Int),0≤n→n<4611686018427387904→ask O F16 [(D.int .i64 p),(D.int .i64 n)]=some (D.sl .leaf (ints .i64 (row (numP p n))))
theorem k_numbered (hT:T F16=some Z16):K_numbered (den T A):=by
 intro p i n h0 hn
 obtain ⟨cp,e⟩:=l_numbered (O:=den T A) (p:=p) 64 n [] (some 0) h0 (by omega) (by omega) (by simp)
 rw [row_numP (by omega)]
 rw [ints_nil,List.nil_append] at e
 have e0:(([]:List Int).length:Nat)=0:=rfl
 rw [e0] at e
 refine ask_of hT rfl ?_
 simp -implicitDefEqProofs [Z16,Z16_B,e]
theorem normL_in {p most:Int} [IsP p] (hm:1≤most):∀(n:Nat) (out:Int),0<out→out≤most*7→0<normL p most n out∧normL p most n out≤most*7
 | 0,out,h1,h2=>⟨h1,h2⟩
 | n+1,out,h1,h2=>by
  unfold normL
  split
  ·exact ⟨h1,h2⟩
  ·have hp:=IsP.pos (p:=p)
   have hp7:=IsP.le (p:=p)
   refine normL_in hm n (out*p) (Int.mul_pos h1 hp) ?_
   have:out*p≤out*7:=Int.mul_le_mul_of_nonneg_left hp7 (by omega)
   omega
theorem range_snoc (n:Nat) {α:Type} (f:Nat→α):(List.range n).map f++[f n]=(List.range (n+1)).map f:=by rw [List.range_succ,List.map_append]; rfl
theorem l_monics {O:Oracle} (hn:K_numbered O) {p:Int} [IsP p] {many:Nat} (hmany:many<100000):∀(m i:Nat) (cp:Option Nat),i+m=many→∃cp',
 dn O 0 (.loop Z14_L0) ⟨[(0,(.d (.int .i64 p))),(5,(.d (.int .i64 many))),(6,.sl 0 [] 0 i cp),(11,(.d (.int .i64 many))),(12,(.d (.int .i64 i)))],[.sl false .leaf ((List.range i).map fun (k:Nat)=>(D.sl .leaf (ints .i64 (row (numP p ((many:Int)+k)))))),.hole,.hole]⟩ =
  some (.exit 0,⟨[(0,(.d (.int .i64 p))),(5,(.d (.int .i64 many))),(6,.sl 0 [] 0 many cp'),(11,(.d (.int .i64 many))),(12,(.d (.int .i64 many))),(13,(.d (.bool false)))],[.sl false .leaf ((List.range many).map fun (k:Nat)=>(D.sl .leaf (ints .i64 (row (numP p ((many:Int)+k)))))),.hole,.hole]⟩)
 | 0,i,cp,hi=>by
  obtain rfl:i=many:=by omega
  exact ⟨cp,dn_stop (by simp -implicitDefEqProofs [Z14_L0,dn_cond])⟩
 | m+1,i,cp,hi=>by
  obtain ⟨cp',e⟩:=l_monics hn (p:=p) hmany m (i+1) none (by omega)
  have hlt:i<many:=by omega
  have w1:IntKind.i64.wrap ((many:Int)+i)=(many:Int)+i:=w64 (by omega)
  have w4:IntKind.i64.wrap ((i:Int)+1)=((i+1:Nat):Int):=(w64 (x:=(i:Int)+1) (by omega)).trans (by omega)
  have e1:=hn p ((many:Int)+i) (by omega) (by omega)
  have h8:(i+1)*24≤1099511627776:=by omega
  have ht:((List.range i).map fun (k:Nat)=>(D.sl .leaf (ints .i64 (row (numP p ((many:Int)+k)))))).take i=(List.range i).map fun (k:Nat)=>(D.sl .leaf (ints .i64 (row (numP p ((many:Int)+k))))):=List.take_of_length_le (by simp)
  have o1:=range_snoc i fun (k:Nat)=>(D.sl .leaf (ints .i64 (row (numP p ((many:Int)+k)))))
  refine ⟨cp',dn_round ?_ e⟩
  have hL:((List.range i).map fun (k:Nat)=>(D.sl .leaf (ints .i64 (row (numP p ((many:Int)+k)))))).length=i:=by simp
  rw [←o1]
  generalize (List.range i).map (fun (k:Nat)=>(D.sl .leaf (ints .i64 (row (numP p ((many:Int)+k))))))=L at *
  simp -implicitDefEqProofs [Z14_L0,dn_cond,hlt,w1,w4,e1,h8,ht,hL,List.replicate]
def K_monics (O:Oracle):Prop:=∀(p:Int) [IsP p] (n:Nat),n<1000000→∃many:Nat,(many:Int)=normL p 343 n 1∧many≤2401 ∧
 ask O F14 [(D.int .i64 p),(D.int .i64 n)]=some (.sl .leaf ((List.range many).map fun (k:Nat)=>(D.sl .leaf (ints .i64 (row (numP p ((many:Int)+k)))))))
theorem k_monics (hT:T F14=some Z14) (hno:C_norm (den T A)) (hnu:K_numbered (den T A)):K_monics (den T A):=by
 intro p i n hn
 have h1:=normL_in (p:=p) (most:=343) (by omega) n 1 (by omega) (by omega)
 obtain ⟨many,hm⟩:=Int.eq_ofNat_of_zero_le (show 0≤normL p 343 n 1 by omega)
 refine ⟨many,hm.symm,by omega,?_⟩
 have e1:=hno p n 343 hn (by omega)
 rw [hm] at e1
 obtain ⟨cp',e⟩:=l_monics hnu (p:=p) (many:=many) (by omega) many 0 (some 0) (Nat.zero_add _)
 have e0:((0:Nat):Int)=0:=rfl
 rw [e0,List.range_zero,List.map_nil] at e
 have hL:((List.range many).map fun (k:Nat)=>(D.sl .leaf (ints .i64 (row (numP p ((many:Int)+k)))))).length=many:=by simp
 have ht:((List.range many).map fun (k:Nat)=>(D.sl .leaf (ints .i64 (row (numP p ((many:Int)+k)))))).take many=(List.range many).map fun (k:Nat)=>(D.sl .leaf (ints .i64 (row (numP p ((many:Int)+k))))):=List.take_of_length_le (by simp)
 refine ask_of hT rfl ?_
 generalize (List.range many).map (fun (k:Nat)=>(D.sl .leaf (ints .i64 (row (numP p ((many:Int)+k))))))=L at *
 simp -implicitDefEqProofs [Z14,Z14_B,e1,e,hL,ht]
end Pe

namespace Gq
section
variable {K:Type} [Fd K]
def Dv (a b:Pol K):Prop:=∃c,b=a*c
theorem Dv.refl (a:Pol K):Dv a a:=⟨1,(mul_one a).symm⟩
theorem Dv.trans {a b c:Pol K} (h:Dv a b) (h':Dv b c):Dv a c:=by
 obtain ⟨x,rfl⟩:=h
 obtain ⟨y,rfl⟩:=h'
 exact ⟨x*y,mul_assoc _ _ _⟩
theorem Dv.zero (a:Pol K):Dv a 0:=⟨0,(mul_zero a).symm⟩
theorem Dv.mul_right {a b:Pol K} (h:Dv a b) (c:Pol K):Dv a (b*c):=h.trans ⟨c,rfl⟩
theorem Dv.mul_left {a b:Pol K} (h:Dv a b) (c:Pol K):Dv a (c*b):=h.trans ⟨c,mul_comm _ _⟩
theorem Dv.add {a b c:Pol K} (h:Dv a b) (h':Dv a c):Dv a (b+c):=by
 obtain ⟨x,rfl⟩:=h
 obtain ⟨y,rfl⟩:=h'
 exact ⟨x+y,(mul_add _ _ _).symm⟩
theorem Dv.neg {a b:Pol K} (h:Dv a b):Dv a (-b):=by
 obtain ⟨x,rfl⟩:=h
 exact ⟨-x,(mul_neg _ _).symm⟩
theorem Dv.sub {a b c:Pol K} (h:Dv a b) (h':Dv a c):Dv a (b-c):=by
 rw [sub_eq]; exact h.add h'.neg
theorem Dv.len {a b:Pol K} (h:Dv a b) (hb:b≠0):a.len≤b.len:=by
 obtain ⟨x,rfl⟩:=h
 have ha:a≠0:=fun h=>hb (by rw [h,zero_mul])
 have hx:x≠0:=fun h=>hb (by rw [h,mul_zero])
 have:=Pol.len_mul ha hx
 have:=Pol.len_pos hx
 omega
theorem dv_iff_mod {a m:Pol K} (hm:m≠0):Dv m a↔a%m=0:=by
 constructor
 ·rintro ⟨c,rfl⟩
  rw [mul_comm]
  exact Pol.mod_self_mul c hm
 ·intro h
  have:=Pol.div_mod a m
  rw [h,add_zero,mul_comm] at this
  exact ⟨_,this⟩
theorem dv_iff_mk {a m:Pol K}:Dv m a↔Quo.mk m a=0:=by
 rw [←Quo.mk_zero,Quo.eq]
 constructor
 ·rintro ⟨c,h⟩; exact ⟨c,by rw [zero_add,h]⟩
 ·rintro ⟨c,h⟩; exact ⟨c,by rw [h,zero_add]⟩
theorem unit_of_len {a:Pol K} (h:a.len=1):∃k:K,k≠0∧a=Pol.C k:=by
 have e:=Pol.eq_C (Pol.lt_iff.2 (show a.len≤1 by omega))
 refine ⟨a.c 0,fun h0=>?_,e⟩
 rw [h0,Pol.C_zero] at e
 rw [e,Pol.len_zero] at h
 omega
theorem C_inv {k:K} (h:k≠0):Pol.C k*Pol.C (Fd.inv k)=1:=by rw [←Pol.C_mul,Fd.mul_inv k h,Pol.C_one]
theorem Dv.Cmul {a b:Pol K} {k:K} (hk:k≠0):Dv (Pol.C k*a) b↔Dv a b:=by
 constructor
 ·rintro ⟨c,h⟩
  exact ⟨Pol.C k*c,by rw [h]; exact ring_of [Pol.C k,a,c] rfl⟩
 ·rintro ⟨c,h⟩
  refine ⟨Pol.C (Fd.inv k)*c,?_⟩
  have:Pol.C k*a*(Pol.C (Fd.inv k)*c)=(Pol.C k*Pol.C (Fd.inv k))*(a*c):=ring_of [Pol.C k,a,Pol.C (Fd.inv k),c] rfl
  rw [this,C_inv hk,one_mul,h]
def Monic (a:Pol K):Prop:=a.ld=1∧a≠0
theorem Monic.mul {a b:Pol K} (ha:Monic a) (hb:Monic b):Monic (a*b):=⟨by rw [Pol.ld_mul ha.2 hb.2,ha.1,hb.1,mul_one],Pol.mul_ne ha.2 hb.2⟩
theorem Monic.one:Monic (1:Pol K):=⟨Pol.ld_one,Pol.one_ne⟩
theorem Pol.ld_C {k:K} (h:k≠0):(C k).ld=k:=by unfold ld; rw [len_C h]; rfl
theorem Monic.eq_one {a:Pol K} (h:Monic a) (hl:a.len=1):a=1:=by
 obtain ⟨k,hk,rfl⟩:=unit_of_len hl
 have:=h.1
 rw [Pol.ld_C hk] at this
 rw [this,Pol.C_one]
theorem Monic.antisymm {a b:Pol K} (ha:Monic a) (hb:Monic b) (h:Dv a b) (h':Dv b a):a=b:=by
 obtain ⟨x,rfl⟩:=h
 have h1:=h'.len ha.2
 have hx:x≠0:=fun h=>hb.2 (by rw [h,mul_zero])
 have h2:=Pol.len_mul ha.2 hx
 have h3:=Pol.len_pos hx
 obtain ⟨k,hk,rfl⟩:=unit_of_len (show x.len=1 by omega)
 have h4:=hb.1
 rw [Pol.ld_mul ha.2 hx,ha.1,one_mul,Pol.ld_C hk] at h4
 rw [h4,Pol.C_one,mul_one]
noncomputable def mon (a:Pol K):Pol K:=Pol.C (Fd.inv a.ld)*a
theorem mon_monic {a:Pol K} (h:a≠0):Monic (mon a):=by
 have h1:=Fd.inv_ne (Pol.ld_ne h)
 refine ⟨?_,Pol.mul_ne (Pol.C_ne h1) h⟩
 unfold mon
 rw [Pol.ld_mul (Pol.C_ne h1) h,Pol.ld_C h1,mul_comm,Fd.mul_inv _ (Pol.ld_ne h)]
theorem mon_dv {a b:Pol K} (h:a≠0):Dv (mon a) b↔Dv a b:=Dv.Cmul (Fd.inv_ne (Pol.ld_ne h))
theorem mon_len {a:Pol K} (h:a≠0):(mon a).len=a.len:=Pol.len_Cmul (Fd.inv_ne (Pol.ld_ne h)) a
theorem eq_mon {a:Pol K} (h:a≠0):a=Pol.C a.ld*mon a:=by
 unfold mon
 rw [←mul_assoc,C_inv (Pol.ld_ne h),one_mul]
theorem Pol.eu_spec {a b:Pol K} (h:a≠0∨b≠0):(eu a b).1≠0∧Dv (eu a b).1 a∧Dv (eu a b).1 b∧(eu a b).2.1*a+(eu a b).2.2*b=(eu a b).1:=by
 obtain ⟨x,y,h1,⟨s,h2⟩,⟨t,h3⟩⟩:=bz_spec b.len a b 1 0 0 1 (Nat.le_refl _) (BzI.init h)
 exact ⟨h1.any.resolve_right fun h=>h rfl,⟨s,by rw [mul_comm]; exact h2⟩,⟨t,by rw [mul_comm]; exact h3⟩,h1.one⟩
theorem Pol.gcd_monic {a b:Pol K} (h:a≠0∨b≠0):Monic (gcd a b):=mon_monic (eu_spec h).1
theorem Pol.gcd_dv_left {a b:Pol K} (h:a≠0∨b≠0):Dv (gcd a b) a:=(mon_dv (eu_spec h).1).2 (eu_spec h).2.1
theorem Pol.gcd_dv_right {a b:Pol K} (h:a≠0∨b≠0):Dv (gcd a b) b:=(mon_dv (eu_spec h).1).2 (eu_spec h).2.2.1
theorem Pol.bezout_eq {a b:Pol K} (h:a≠0∨b≠0):(bezout a b).2.1*a+(bezout a b).2.2*b=gcd a b:=by
 have e:=(eu_spec h).2.2.2
 show C (Fd.inv (eu a b).1.ld)*(eu a b).2.1*a+C (Fd.inv (eu a b).1.ld)*(eu a b).2.2*b=C (Fd.inv (eu a b).1.ld)*(eu a b).1
 generalize C (Fd.inv (eu a b).1.ld)=k
 generalize (eu a b).2.1=u at *
 generalize (eu a b).2.2=v at *
 rw [←e]
 exact ring_of [k,u,a,v,b] rfl
theorem Pol.dv_gcd {a b c:Pol K} (h:a≠0∨b≠0) (ha:Dv c a) (hb:Dv c b):Dv c (gcd a b):=by
 rw [←bezout_eq h]
 exact (ha.mul_left _).add (hb.mul_left _)
structure Irr (q:Pol K):Prop where
 len:2≤q.len
 no:∀u v,q=u*v→u.len=1∨v.len=1
theorem Irr.ne {q:Pol K} (h:Irr q):q≠0:=fun h0=>by have:=h.len; rw [h0,Pol.len_zero] at this; omega
theorem Irr.dv {q u:Pol K} (h:Irr q) (hd:Dv u q):u.len=1∨u.len=q.len:=by
 obtain ⟨v,hv⟩:=hd
 have hu:u≠0:=fun h0=>h.ne (by rw [hv,h0,zero_mul])
 have hv0:v≠0:=fun h0=>h.ne (by rw [hv,h0,mul_zero])
 have l:=Pol.len_mul hu hv0
 rw [←hv] at l
 rcases h.no u v hv with h1 | h1
 ·exact .inl h1
 ·right; omega
theorem Irr.coprime {q a:Pol K} (h:Irr q) (hn:¬ Dv q a):∃u v,u*q+v*a=1:=by
 have h0:q≠0∨a≠0:=.inl h.ne
 have e:=Pol.bezout_eq h0
 have d1:=Pol.gcd_dv_left h0
 have d2:=Pol.gcd_dv_right h0
 have m:=Pol.gcd_monic h0
 rcases h.dv d1 with h1 | h1
 ·rw [m.eq_one h1] at e
  exact ⟨_,_,e⟩
 ·exfalso
  obtain ⟨c,hc⟩:=d1
  have hc0:c≠0:=fun h0=>h.ne (by rw [hc,h0,mul_zero])
  have l:=Pol.len_mul m.2 hc0
  rw [←hc] at l
  obtain ⟨k,hk,rfl⟩:=unit_of_len (show c.len=1 by omega)
  apply hn
  rw [hc,mul_comm]
  exact (Dv.Cmul hk).2 d2
theorem Irr.prime {q a b:Pol K} (h:Irr q) (hd:Dv q (a*b)):Dv q a∨Dv q b:=by
 by_cases ha:Dv q a
 ·exact .inl ha
 ·obtain ⟨u,v,e⟩:=h.coprime ha
  right
  have:b=u*b*q+v*(a*b):=by
   have e2:u*b*q+v*(a*b)=(u*q+v*a)*b:=ring_of [u,b,q,v,a] rfl
   rw [e2,e,one_mul]
  rw [this]
  exact ((Dv.refl q).mul_left _).add (hd.mul_left _)
theorem Irr.of_dv {q:Pol K} (hl:2≤q.len) (h:∀u,Dv u q→u.len=1∨u.len=q.len):Irr q:=⟨hl,fun u v e=>by
 have hq:q≠0:=fun h0=>by rw [h0,Pol.len_zero] at hl; omega
 have hu:u≠0:=fun h0=>hq (by rw [e,h0,zero_mul])
 have hv0:v≠0:=fun h0=>hq (by rw [e,h0,mul_zero])
 have l:=Pol.len_mul hu hv0
 rw [←e] at l
 rcases h u ⟨v,e⟩ with h1 | h1
 ·exact .inl h1
 ·right; omega⟩
theorem Irr.mon {q:Pol K} (h:Irr q):Irr (mon q):=Irr.of_dv (by rw [mon_len h.ne]; exact h.len) fun u hu=>by
 rw [mon_len h.ne]
 apply h.dv
 refine hu.trans ?_
 rw [mon_dv h.ne]
 exact .refl q
theorem irr_ex:∀(n:Nat) (a:Pol K),a.len≤n→2≤a.len→∃q,Irr q∧Monic q∧Dv q a
 | 0,a,h,h2=>by omega
 | n+1,a,h,h2=>by
  have ha:a≠0:=fun h0=>by rw [h0,Pol.len_zero] at h2; omega
  by_cases hi:Irr a
  ·exact ⟨Gq.mon a,hi.mon,mon_monic ha,(mon_dv ha).2 (.refl a)⟩
  ·have:∃u,Dv u a∧u.len≠1∧u.len≠a.len:=Classical.byContradiction fun hx=>hi (Irr.of_dv h2 fun u hu=>Classical.byContradiction fun hy=>hx ⟨u,hu,by omega,by omega⟩)
   obtain ⟨u,hu,h3,h4⟩:=this
   have h5:=hu.len ha
   have hu0:u≠0:=fun h0=>by
    obtain ⟨c,hc⟩:=hu
    exact ha (by rw [hc,h0,zero_mul])
   have h6:=Pol.len_pos hu0
   obtain ⟨q,h7,h8,h9⟩:=irr_ex n u (by omega) (by omega)
   exact ⟨q,h7,h8,h9.trans hu⟩
theorem Irr.eq_of_dv {q r:Pol K} (hq:Irr q) (hr:Irr r) (mq:Monic q) (mr:Monic r) (h:Dv q r):q=r:=by
 refine mq.antisymm mr h ?_
 rcases hr.dv h with h1 | h1
 ·have:=hq.len; omega
 ·obtain ⟨c,rfl⟩:=h
  have hc:c≠0:=fun h0=>mr.2 (by rw [h0,mul_zero])
  have l:=Pol.len_mul mq.2 hc
  obtain ⟨k,hk,rfl⟩:=unit_of_len (show c.len=1 by omega)
  rw [mul_comm]
  exact (Dv.Cmul hk).2 (.refl q)
theorem Quo.ex {R:Type} [CR R] {m:R} (x:Quo m):∃a,x=Quo.mk m a:=Quo.ind (P:=fun x=>∃a,x=Quo.mk m a) (fun a=>⟨a,rfl⟩) x
theorem Irr.quo_zero {q:Pol K} (h:Irr q) {x y:Quo q} (e:x*y=0):x=0∨y=0:=by
 obtain ⟨a,rfl⟩:=Quo.ex x
 obtain ⟨b,rfl⟩:=Quo.ex y
 rw [←Quo.mk_mul,←dv_iff_mk] at e
 rw [←dv_iff_mk,←dv_iff_mk]
 exact h.prime e
theorem Irr.quo_inv {q:Pol K} (h:Irr q) {x:Quo q} (hx:x≠0):∃y,x*y=1:=by
 obtain ⟨a,rfl⟩:=Quo.ex x
 obtain ⟨u,v,e⟩:=h.coprime fun hd=>hx (dv_iff_mk.1 hd)
 refine ⟨Quo.mk q v,?_⟩
 rw [←Quo.mk_mul,←Quo.mk_one,Quo.eq]
 refine ⟨-u,?_⟩
 rw [←e]
 exact ring_of [a,v,u,q] rfl
open Classical in
noncomputable abbrev fdQuo {q:Pol K} (h:Irr q):Fd (Quo q) where
 one_ne:=fun e=>by
  have:=dv_iff_mk.2 e
  have h1:=this.len Pol.one_ne
  have:=h.len
  rw [Pol.len_one] at h1
  omega
 inv:=fun x=>if hx:x=0 then 0 else Classical.choose (h.quo_inv hx)
 mul_inv:=fun x hx=>by rw [dif_neg hx]; exact Classical.choose_spec (h.quo_inv hx)
end
def prodL {R:Type} [CR R]:List R→R
 | []=>1
 | x::l=>x*prodL l
theorem prodL_perm {R:Type} [CR R] {l m:List R} (h:l.Perm m):prodL l=prodL m:=by
 induction h with
 | nil=>rfl
 | cons x _ ih=>rw [prodL,prodL,ih]
 | swap x y l=>rw [prodL,prodL,prodL,prodL,mul_left_comm]
 | trans _ _ h1 h2=>exact h1.trans h2
theorem prodL_mul {R:Type} [CR R] (x:R):∀l:List R,prodL (l.map (x * ·))=pw x l.length*prodL l
 | []=>(one_mul _).symm
 | y::l=>by
  rw [List.map_cons,prodL,prodL_mul x l,prodL,List.length_cons,pw]
  exact ring_of [x,y,pw x l.length,prodL l] rfl
theorem perm_of_sub {α:Type} [DecidableEq α]:∀{l m:List α},l.Nodup→(∀x∈l,x∈m)→m.length=l.length→l.Perm m
 | [],m,_,_,hl=>by
  obtain rfl:=List.eq_nil_of_length_eq_zero (by simpa using hl)
  exact .nil
 | x::l,m,hn,hs,hl=>by
  have hx:x∈m:=hs x (by simp)
  obtain ⟨h1,h2⟩:=List.nodup_cons.1 hn
  have p:=List.perm_cons_erase hx
  refine (List.Perm.cons x (perm_of_sub h2 (fun y hy=>?_) ?_)).trans p.symm
  ·have hne:y≠x:=fun e=>h1 (e▸hy)
   exact (List.mem_erase_of_ne hne).2 (hs y (by simp [hy]))
  ·rw [List.length_erase_of_mem hx]; simp at hl; omega
theorem unit_pow {R:Type} [CR R] [DecidableEq R] {l:List R} (hn:l.Nodup) (hc:∀x y:R,x*y=0→x=0∨y=0) (h1:(1:R)≠0) (hl:∀x,x∈l↔x≠0) {x:R} (hx:x≠0):pw x l.length=1:=by
 have hcan:∀y z:R,x*y=x*z→y=z:=fun y z e=>by
  have:x*(y-z)=0:=by
   have e2:x*(y-z)=x*y-x*z:=ring_of [x,y,z] rfl
   rw [e2,e,sub_self]
  exact eq_of_sub ((hc _ _ this).resolve_left hx)
 have hp:(l.map (x * ·)).Perm l:=by
  refine perm_of_sub ?_ (fun y hy=>?_) (by simp)
  ·unfold List.Nodup at hn ⊢
   rw [List.pairwise_map]
   exact hn.imp fun hab e=>hab (hcan _ _ e)
  ·obtain ⟨z,hz,rfl⟩:=List.mem_map.1 hy
   exact (hl _).2 fun e=>((hc _ _ e).elim hx) ((hl z).1 hz)
 have hprod:prodL l≠0:=by
  have:∀m:List R,(∀z∈m,z≠0)→prodL m≠0:=by
   intro m
   induction m with
   | nil=>exact fun _=>h1
   | cons z m ih=>exact fun hm e=>((hc _ _ e).elim (hm z (by simp))) (ih fun y hy=>hm y (by simp [hy]))
  exact this l fun z hz=>(hl z).1 hz
 have e:=prodL_perm hp
 rw [prodL_mul] at e
 have e2:prodL l*(pw x l.length-1)=0:=by
  have e3:prodL l*(pw x l.length-1)=pw x l.length*prodL l-prodL l:=ring_of [prodL l,pw x l.length] rfl
  rw [e3,e,sub_self]
 exact eq_of_sub ((hc _ _ e2).resolve_left hprod)
section
variable {K:Type} [CR K]
def sumR (f:Nat→K):Nat→K
 | 0=>0
 | n+1=>sumR f n+f n
theorem sumR_add (f g:Nat→K):∀n,sumR (fun i=>f i+g i) n=sumR f n+sumR g n
 | 0=>(add_zero _).symm
 | n+1=>by rw [sumR,sumR_add f g n,sumR,sumR]; exact ring_of [sumR f n,sumR g n,f n,g n] rfl
theorem sumR_mul (k:K) (f:Nat→K):∀n,sumR (fun i=>k*f i) n=k*sumR f n
 | 0=>(mul_zero _).symm
 | n+1=>by rw [sumR,sumR_mul k f n,sumR,mul_add]
theorem pw_factor (x:K):∀n,∃g:Nat→K,(∀i,n≤i→g i=0)∧(∀k,n=k+1→g k=1)∧∀y,pw y n-pw x n=(y-x)*sumR (fun i=>g i*pw y i) n:=by
 intro n
 induction n with
 | zero=>exact ⟨fun _=>0,fun _ _=>rfl,fun k h=>by omega,fun y=>by show (1:K)-1=(y-x)*0; rw [mul_zero,sub_self]⟩
 | succ n ih=>
  obtain ⟨g,h1,h2,h3⟩:=ih
  refine ⟨fun i=>if i=n then 1 else x*g i,fun i hi=>?_,fun k hk=>?_,fun y=>?_⟩
  ·dsimp only; rw [if_neg (by omega),h1 i (by omega),mul_zero]
  ·dsimp only; rw [if_pos (by omega)]
  ·rw [sumR]; dsimp only; rw [if_pos rfl,one_mul]
   have e:sumR (fun i=>(if i=n then 1 else x*g i)*pw y i) n=x*sumR (fun i=>g i*pw y i) n:=by
    rw [←sumR_mul]
    have:∀m,m≤n→sumR (fun i=>(if i=n then 1 else x*g i)*pw y i) m=sumR (fun i=>x*(g i*pw y i)) m:=by
     intro m
     induction m with
     | zero=>intro _; rfl
     | succ m ihm=>intro hm; rw [sumR,sumR,ihm (by omega),if_neg (by omega),mul_assoc]
    exact this n (Nat.le_refl n)
   rw [e,pw,pw]
   have e2:(y-x)*(x*sumR (fun i=>g i*pw y i) n+pw y n)=x*((y-x)*sumR (fun i=>g i*pw y i) n)+(y-x)*pw y n:=ring_of [y,x,sumR (fun i=>g i*pw y i) n,pw y n] rfl
   rw [e2,←h3 y]
   exact ring_of [pw y n,y,pw x n,x] rfl
theorem val_factor (f:Nat→K) (x:K):∀n,∃g:Nat→K,(∀i,n≤i+1→g i=0)∧(∀k,n=k+2→g k=f (k+1))∧∀y,sumR (fun i=>f i*pw y i) n-sumR (fun i=>f i*pw x i) n=(y-x)*sumR (fun i=>g i*pw y i) n:=by
 intro n
 induction n with
 | zero=>exact ⟨fun _=>0,fun _ _=>rfl,fun k h=>by omega,fun y=>by show (0:K)-0=(y-x)*0; rw [mul_zero,sub_self]⟩
 | succ n ih=>
  obtain ⟨g,h1,h2,h3⟩:=ih
  obtain ⟨g',h1',h2',h3'⟩:=pw_factor x n
  refine ⟨fun i=>g i+f n*g' i,fun i hi=>?_,fun k hk=>?_,fun y=>?_⟩
  ·dsimp only; rw [h1 i (by omega),h1' i (by omega),mul_zero,add_zero]
  ·obtain rfl:k+1=n:=by omega
   dsimp only; rw [h1 k (by omega),h2' k rfl,mul_one,zero_add]
  ·rw [sumR,sumR,sumR]
   have e0:g n+f n*g' n=0:=by rw [h1 n (by omega),h1' n (by omega),mul_zero,add_zero]
   dsimp only
   rw [e0,zero_mul,add_zero]
   have e:sumR (fun i=>(g i+f n*g' i)*pw y i) n=sumR (fun i=>g i*pw y i) n+f n*sumR (fun i=>g' i*pw y i) n:=by
    rw [←sumR_mul,←sumR_add]
    congr 1
    funext i
    exact ring_of [g i,f n,g' i,pw y i] rfl
   rw [e]
   have e2:(y-x)*(sumR (fun i=>g i*pw y i) n+f n*sumR (fun i=>g' i*pw y i) n)=(y-x)*sumR (fun i=>g i*pw y i) n+f n*((y-x)*sumR (fun i=>g' i*pw y i) n):=ring_of [y,x,sumR (fun i=>g i*pw y i) n,f n,sumR (fun i=>g' i*pw y i) n] rfl
   rw [e2,←h3 y,←h3' y]
   exact ring_of [sumR (fun i=>f i*pw y i) n,f n,pw y n,sumR (fun i=>f i*pw x i) n,pw x n] rfl
theorem roots_le (hc:∀x y:K,x*y=0→x=0∨y=0):∀(n:Nat) (f:Nat→K) (l:List K),f n≠0→l.Nodup→(∀y∈l,sumR (fun i=>f i*pw y i) (n+1)=0)→l.length≤n
 | n,f,[],_,_,_=>Nat.zero_le n
 | 0,f,x::l,hf,_,hr=>by
  have:=hr x (by simp)
  have e:sumR (fun i=>f i*pw x i) (0+1)=f 0:=by show 0+f 0*1=f 0; rw [zero_add,mul_one]
  rw [e] at this
  exact absurd this hf
 | n+1,f,x::l,hf,hn,hr=>by
  obtain ⟨g,h1,h2,h5⟩:=val_factor f x (n+2)
  have hx:=hr x (by simp)
  obtain ⟨h3,h4⟩:=List.nodup_cons.1 hn
  have hg0:g n≠0:=by rw [h2 n rfl]; exact hf
  have hg:∀y,sumR (fun i=>f i*pw y i) (n+2)=(y-x)*sumR (fun i=>g i*pw y i) (n+1):=fun y=>by
   have:=h5 y
   rw [hx] at this
   have e:sumR (fun i=>g i*pw y i) (n+2)=sumR (fun i=>g i*pw y i) (n+1):=by
    show sumR (fun i=>g i*pw y i) (n+1)+g (n+1)*pw y (n+1)=_
    rw [h1 (n+1) (by omega),zero_mul,add_zero]
   rw [e] at this
   rw [←this]
   exact ring_of [sumR (fun i=>f i*pw y i) (n+2)] rfl
  have:=roots_le hc n g l hg0 h4 fun y hy=>by
   have e:=hr y (by simp [hy])
   rw [hg y] at e
   refine (hc _ _ e).resolve_left fun h0=>h3 ?_
   rw [←eq_of_sub h0]; exact hy
  simp; omega
end
end Gq

namespace Pe
open Go Gq
section
variable {p:Int} [IsP p]
end
section
variable {p:Int}
theorem ipow_mono (h:1≤p) {a b:Nat} (hab:a≤b):p^a≤p^b:=by
 obtain ⟨k,rfl⟩:=Nat.exists_eq_add_of_le hab
 rw [Int.pow_add]
 have h1:1≤p^k:=Int.pow_pos (n:=p) (m:=k) (by omega)
 have h2:0≤p^a:=Int.pow_nonneg (by omega)
 have:=Int.mul_le_mul_of_nonneg_left h1 h2
 omega
end
section
variable {p:Int} [IsP p]
def vl (p:Int):List Int→Int
 | []=>0
 | d::l=>d+p*vl p l
theorem vl_in:∀{l:List Int},Can p l→0≤vl p l∧vl p l<p^l.length
 | [],_=>by simp [vl]
 | d::l,h=>by
  have hp:=IsP.pos (p:=p)
  obtain ⟨h1,h2⟩:=vl_in (l:=l) fun x hx=>h x (by simp [hx])
  have h3:=h d (by simp)
  have h4:0≤p*vl p l:=Int.mul_nonneg (by omega) h1
  have h5:p*vl p l≤p*(p^l.length-1):=Int.mul_le_mul_of_nonneg_left (by omega) (by omega)
  rw [Int.mul_sub,Int.mul_one] at h5
  rw [List.length_cons,Int.pow_succ,Int.mul_comm (p^l.length),vl]
  omega
theorem vl_cf:∀{l:List Int},Can p l→∀i,cf l i=vl p l/p^i%p
 | [],_,i=>by simp [vl,cf]
 | d::l,h,0=>by
  have h3:=h d (by simp)
  show d=(d+p*vl p l)/p^0%p
  rw [Int.pow_zero,Int.ediv_one,Int.add_mul_emod_self_left,Int.emod_eq_of_lt h3.1 h3.2]
 | d::l,h,i+1=>by
  have hp:=IsP.pos (p:=p)
  have h3:=h d (by simp)
  have e:cf (d::l) (i+1)=cf l i:=by simp [cf]
  rw [e,vl_cf (l:=l) fun x hx=>h x (by simp [hx]),vl,Int.pow_succ,Int.mul_comm (p^i),←Int.ediv_ediv_of_nonneg (by omega),Int.add_mul_ediv_left _ _ (by omega),Int.ediv_eq_zero_of_lt h3.1 h3.2,Int.zero_add]
theorem dgs_cf:∀(f:Nat) (n:Int),0≤n→n<2^f→∀i,cf (dgs p f n) i=n/p^i%p
 | 0,n,h0,hn,i=>by
  obtain rfl:n=0:=by simp at hn; omega
  simp [dgs,cf]
 | f+1,n,h0,hn,i=>by
  have hp:=IsP.ge (p:=p)
  unfold dgs
  split
  ·obtain rfl:n=0:=by omega
   simp [cf]
  ·have hd:n/p<2^f:=by
    apply Int.ediv_lt_of_lt_mul (by omega)
    have:(2:Int)^(f+1)=2^f*2:=Int.pow_succ _ _
    have h2:(2:Int)^f*2≤2^f*p:=Int.mul_le_mul_of_nonneg_left hp (Int.pow_nonneg (by omega))
    omega
   cases i with
   | zero=>show n%p=n/p^0%p; rw [Int.pow_zero,Int.ediv_one]
   | succ i=>
    have e:cf (n%p::dgs p f (n/p)) (i+1)=cf (dgs p f (n/p)) i:=by simp [cf]
    rw [e,dgs_cf f _ (Int.ediv_nonneg h0 (by omega)) hd,Int.pow_succ,Int.mul_comm (p^i),←Int.ediv_ediv_of_nonneg (by omega)]
abbrev NumOk (n:Int):Prop:=0≤n∧n<18446744073709551616
theorem numP_c {n:Int} (h:NumOk n) (i:Nat):(numP p n).c i=zp p (n/p^i):=by
 unfold numP
 rw [polOf_c,dgs_cf 64 n h.1 (by simpa using h.2),zp_mod]
noncomputable def numOf (a:Fp p):Int:=vl p (row a)
theorem numOf_in (a:Fp p):0≤numOf a∧numOf a<p^a.len:=by
 have:=vl_in (row_can a)
 rwa [row_length] at this
theorem numP_numOf {a:Fp p} (h:numOf a<18446744073709551616):numP p (numOf a)=a:=Pol.ext fun i=>by
 rw [numP_c ⟨(numOf_in a).1,h⟩]
 have:=vl_cf (row_can a) i
 rw [row_cf] at this
 rw [←zp_mod,show numOf a/p^i%p=rep (a.c i) from this.symm,zp_rep]
theorem vl_dgs:∀(f:Nat) (n:Int),0≤n→n<2^f→vl p (dgs p f n)=n
 | 0,n,h0,hn=>by
  obtain rfl:n=0:=by simp at hn; omega
  rfl
 | f+1,n,h0,hn=>by
  have hp:=IsP.ge (p:=p)
  unfold dgs
  split
  ·show (0:Int)=n; omega
  ·have hd:n/p<2^f:=by
    apply Int.ediv_lt_of_lt_mul (by omega)
    have:(2:Int)^(f+1)=2^f*2:=Int.pow_succ _ _
    have h2:(2:Int)^f*2≤2^f*p:=Int.mul_le_mul_of_nonneg_left hp (Int.pow_nonneg (by omega))
    omega
   rw [vl,vl_dgs f _ (Int.ediv_nonneg h0 (by omega)) hd]
   exact Int.emod_add_mul_ediv n p
theorem numOf_numP {n:Int} (h:NumOk n):numOf (numP p n)=n:=by
 unfold numOf
 rw [row_numP h.2,vl_dgs 64 n h.1 (by simpa using h.2)]
theorem numP_inj {n m:Int} (hn:NumOk n) (hm:NumOk m) (h:numP p n=numP p m):n=m:=by rw [←numOf_numP (p:=p) hn,h,numOf_numP hm]
theorem numP_lt {n:Int} (h:NumOk n) {d:Nat} (hd:n<p^d):(numP p n).lt d:=fun i hi=>by
 have hp:=IsP.pos (p:=p)
 rw [numP_c h,Int.ediv_eq_zero_of_lt h.1 (Int.lt_of_lt_of_le hd (ipow_mono (by omega) hi)),zp_zero]
theorem pow_nat (d:Nat):((p.toNat^d:Nat):Int)=p^d:=by
 have hp:=IsP.pos (p:=p)
 rw [Int.natCast_pow,Int.toNat_of_nonneg (by omega)]
theorem numP_zero:numP p 0=0:=Pol.ext fun i=>by rw [numP_c ⟨by omega,by omega⟩,Int.zero_ediv,zp_zero]; rfl
def unitsL (q:Fp p) (d:Nat):List (Quo q):=(List.range (p.toNat^d-1)).map fun (n:Nat)=>Quo.mk q (numP p (n+1))
theorem p_pow_pos (d:Nat):0<p.toNat^d:=Nat.pow_pos (by have:=IsP.pos (p:=p); omega)
theorem unitsL_nodup {q:Fp p} {d:Nat} (hq:q.len=d+1) (hd:p^d<1000000000000):(unitsL q d).Nodup:=by
 unfold unitsL List.Nodup
 rw [List.pairwise_map]
 refine List.Pairwise.imp_of_mem ?_ (List.pairwise_lt_range (n:=p.toNat^d-1))
 intro a b ha hb hab e
 rw [List.mem_range] at ha hb
 have hc:=pow_nat (p:=p) d
 have hpos:=p_pow_pos (p:=p) d
 have h1:NumOk ((a:Int)+1):=⟨by omega,by omega⟩
 have h2:NumOk ((b:Int)+1):=⟨by omega,by omega⟩
 have hq0:q≠0:=fun h0=>by rw [h0,Pol.len_zero] at hq; omega
 have l1:=Pol.len_le (numP_lt (p:=p) h1 (d:=d) (by omega))
 have l2:=Pol.len_le (numP_lt (p:=p) h2 (d:=d) (by omega))
 rw [←Pol.mod_eq_iff hq0,Pol.mod_small (by omega),Pol.mod_small (by omega)] at e
 have:=numP_inj h1 h2 e
 omega
theorem unitsL_mem {q:Fp p} {d:Nat} (hq:q.len=d+1) (hd:p^d<1000000000000) (x:Quo q):x∈unitsL q d↔x≠0:=by
 have hc:=pow_nat (p:=p) d
 have hpos:=p_pow_pos (p:=p) d
 have hq0:q≠0:=fun h0=>by rw [h0,Pol.len_zero] at hq; omega
 constructor
 ·intro h e
  obtain ⟨n,hn,rfl⟩:=List.mem_map.1 h
  rw [List.mem_range] at hn
  have h1:NumOk ((n:Int)+1):=⟨by omega,by omega⟩
  have l1:=Pol.len_le (numP_lt (p:=p) h1 (d:=d) (by omega))
  rw [←Quo.mk_zero,←Pol.mod_eq_iff hq0,Pol.mod_small (by omega),Pol.zero_mod hq0,←numP_zero] at e
  have:=numP_inj h1 ⟨by omega,by omega⟩ e
  omega
 ·intro h
  obtain ⟨a,rfl⟩:=Quo.ex x
  have hl:=Pol.len_mod a hq0
  rw [←Pol.mk_mod] at h ⊢
  have hin:=numOf_in (a%q)
  have hle:p^(a%q).len≤p^d:=ipow_mono (by have:=IsP.pos (p:=p); omega) (by omega)
  have e:=numP_numOf (a:=a%q) (by omega)
  have hne:numOf (a%q)≠0:=fun h0=>by
   rw [h0,numP_zero] at e
   exact h (by rw [←e,Quo.mk_zero])
  refine List.mem_map.2 ⟨(numOf (a%q)).toNat-1,?_,?_⟩
  ·rw [List.mem_range]; omega
  ·rw [show (((numOf (a%q)).toNat-1:Nat):Int)+1=numOf (a%q) by omega,e]
theorem fermat {q:Fp p} (hi:Irr q) {d:Nat} (hq:q.len=d+1) (hd:p^d<1000000000000) {x:Quo q} (hx:x≠0):pw x (p.toNat^d-1)=1:=by
 classical
 have h1:(1:Quo q)≠0:=(fdQuo hi).one_ne
 have:=unit_pow (unitsL_nodup hq hd) (fun x y e=>hi.quo_zero e) h1 (unitsL_mem hq hd) hx
 rwa [unitsL,List.length_map,List.length_range] at this
theorem fermat_all {q:Fp p} (hi:Irr q) {d:Nat} (hq:q.len=d+1) (hd:p^d<1000000000000) (x:Quo q):pw x (p.toNat^d)=x:=by
 have hpos:=p_pow_pos (p:=p) d
 by_cases hx:x=0
 ·rw [hx]
  cases hn:p.toNat^d with
  | zero=>omega
  | succ n=>rw [pw,Gq.mul_zero]
 ·have:=fermat hi hq hd hx
  have e:p.toNat^d=(p.toNat^d-1)+1:=by omega
  rw [e,pw,this,Gq.one_mul]
end
section
variable {p:Int}
theorem ic_p {q:Fp p}:(ic p:Quo q)=0:=by
 have h:∀n:Int,(ic n:Quo q)=Quo.mk q (Pol.C (zp p n)):=by
  have hn:∀n:Nat,(nc n:Quo q)=Quo.mk q (Pol.C (zp p n)):=by
   intro n
   induction n with
   | zero=>show (0:Quo q)=_; rw [show zp p ((0:Nat):Int)=0 from rfl,Pol.C_zero,Quo.mk_zero]
   | succ n ih=>
    rw [nc,ih]
    have:zp p ((n+1:Nat):Int)=zp p n+1:=rfl
    rw [this,Pol.C_add,Quo.mk_add,Pol.C_one,Quo.mk_one]
  intro n
  cases n with
  | ofNat n=>exact hn n
  | negSucc n=>
   show -(nc (n+1):Quo q)=_
   rw [hn,←Quo.mk_neg,←Pol.C_neg]; rfl
 rw [h]
 have:zp p p=0:=zp_eq.2 (by simp)
 rw [this,Pol.C_zero,Quo.mk_zero]
end
section
variable {p:Int} [IsP p]
theorem frob_add {q:Fp p} (x y:Quo q):pw (x+y) p.toNat=pw x p.toNat+pw y p.toNat:=by
 have h:=ic_p (q:=q)
 rcases (inferInstance:IsP p).h with rfl | rfl | rfl | rfl
 ·have e:pw (x+y) 2=pw x 2+pw y 2+ic 2*(x*y):=by
   show (x+y)^2=x^2+y^2+ic 2*(x*y)
   exact ring_of [x,y] rfl
  rw [h,Gq.zero_mul,Gq.add_zero] at e
  exact e
 ·have e:pw (x+y) 3=pw x 3+pw y 3+ic 3*(x*x*y+x*y*y):=by
   show (x+y)^3=x^3+y^3+ic 3*(x*x*y+x*y*y)
   exact ring_of [x,y] rfl
  rw [h,Gq.zero_mul,Gq.add_zero] at e
  exact e
 ·have e:pw (x+y) 5=pw x 5+pw y 5+ic 5*(x^4*y+ic 2*x^3*y^2+ic 2*x^2*y^3+x*y^4):=by
   show (x+y)^5=x^5+y^5+ic 5*(x^4*y+ic 2*x^3*y^2+ic 2*x^2*y^3+x*y^4)
   exact ring_of [x,y] rfl
  rw [h,Gq.zero_mul,Gq.add_zero] at e
  exact e
 ·have e:pw (x+y) 7=pw x 7+pw y 7+ic 7*(x^6*y+ic 3*x^5*y^2+ic 5*x^4*y^3+ic 5*x^3*y^4+ic 3*x^2*y^5+x*y^6):=by
   show (x+y)^7=x^7+y^7+ic 7*(x^6*y+ic 3*x^5*y^2+ic 5*x^4*y^3+ic 5*x^3*y^4+ic 3*x^2*y^5+x*y^6)
   exact ring_of [x,y] rfl
  rw [h,Gq.zero_mul,Gq.add_zero] at e
  exact e
theorem frob_const (c:Zp p):pw c p.toNat=c:=by
 have h0:=rep_in c
 have e:c=zp p (rep c):=(zp_rep c).symm
 generalize rep c=n at *
 subst e
 rcases (inferInstance:IsP p).h with rfl | rfl | rfl | rfl
 ·have:n=0∨n=1:=by omega
  rcases this with rfl | rfl <;> exact zp_eq.2 (by decide)
 ·have:n=0∨n=1∨n=2:=by omega
  rcases this with rfl | rfl | rfl <;> exact zp_eq.2 (by decide)
 ·have:n=0∨n=1∨n=2∨n=3∨n=4:=by omega
  rcases this with rfl | rfl | rfl | rfl | rfl <;> exact zp_eq.2 (by decide)
 ·have:n=0∨n=1∨n=2∨n=3∨n=4∨n=5∨n=6:=by omega
  rcases this with rfl | rfl | rfl | rfl | rfl | rfl | rfl <;> exact zp_eq.2 (by decide)
end
end Pe

namespace Pe
open Go Gq
section
variable {p:Int} [IsP p]
theorem frobk_add {q:Fp p} (x y:Quo q):∀k,pw (x+y) (p.toNat^k)=pw x (p.toNat^k)+pw y (p.toNat^k)
 | 0=>by rw [Nat.pow_zero,pw_1,pw_1,pw_1]
 | k+1=>by rw [Nat.pow_succ,←pw_pw,frobk_add x y k,frob_add,pw_pw,pw_pw]
theorem frobk_const (c:Zp p):∀k,pw c (p.toNat^k)=c
 | 0=>by rw [Nat.pow_zero,pw_1]
 | k+1=>by rw [Nat.pow_succ,←pw_pw,frobk_const c k,frob_const]
end
section
variable {p:Int}
theorem C_pw (c:Zp p):∀n,Pol.C (pw c n)=pw (Pol.C c) n
 | 0=>rfl
 | n+1=>by rw [pw,Pol.C_mul,C_pw c n,pw]
end
section
variable {p:Int} [IsP p]
end
section
variable {p:Int}
theorem pol_ind {P:Fp p→Prop} (h0:P 0) (h:∀c a,P a→P (Pol.C c+Pol.X*a)):∀(n:Nat) (a:Fp p),a.lt n→P a
 | 0,a,ha=>by rw [Pol.lt_zero.1 ha]; exact h0
 | n+1,a,ha=>by
  obtain ⟨m,hm⟩:=a.fin
  let b:Fp p:=⟨fun i=>a.c (i+1),m,fun i hi=>hm _ (by omega)⟩
  have e:a=Pol.C (a.c 0)+Pol.X*b:=Pol.ext fun i=>by
   rw [Pol.c_add,Pol.c_C,Pol.c_Xmul]
   cases i with
   | zero=>rw [if_pos rfl,if_pos rfl,Gq.add_zero]
   | succ i=>rw [if_neg (by omega),if_neg (by omega),Gq.zero_add]; rfl
  rw [e]
  exact h _ _ (pol_ind h0 h n b fun i hi=>ha _ (by omega))
end
section
variable {p:Int} [IsP p]
theorem frob_fix {q:Fp p} (k:Nat) (h:pw (Quo.mk q Pol.X) (p.toNat^k)=Quo.mk q Pol.X) (x:Quo q):pw x (p.toNat^k)=x:=by
 obtain ⟨a,rfl⟩:=Quo.ex x
 refine pol_ind (P:=fun a=>pw (Quo.mk q a) (p.toNat^k)=Quo.mk q a) ?_ (fun c a ha=>?_) _ a a.lt_len
 ·rw [Quo.mk_zero]
  have:=p_pow_pos (p:=p) k
  cases hn:p.toNat^k with
  | zero=>omega
  | succ n=>rw [pw,Gq.mul_zero]
 ·rw [Quo.mk_add,Quo.mk_mul,frobk_add,pw_mul,h,ha]
  congr 1
  rw [←Quo.mk_pow,←C_pw,frobk_const]
theorem sumR_ind {K:Type} [CR K] (m:Nat) (g:Nat→K):∀n,sumR (fun i=>(if i=m then 1 else 0)*g i) n=if m<n then g m else 0
 | 0=>by rw [if_neg (by omega)]; rfl
 | n+1=>by
  rw [sumR,sumR_ind m g n]
  rcases Nat.lt_trichotomy m n with h | h | h
  ·rw [if_pos h,if_neg (by omega),if_pos (by omega),Gq.zero_mul,Gq.add_zero]
  ·rw [if_neg (by omega),if_pos h.symm,if_pos (by omega),Gq.one_mul,Gq.zero_add,h]
  ·rw [if_neg (by omega),if_neg (by omega),if_neg (by omega),Gq.zero_mul,Gq.add_zero]
noncomputable def frT (p:Int) (k:Nat):Fp p:=pw Pol.X (p.toNat^k)-Pol.X
theorem frT_dv {q:Fp p} {k:Nat}:Dv q (frT p k)↔pw (Quo.mk q Pol.X) (p.toNat^k)=Quo.mk q Pol.X:=by
 rw [dv_iff_mk,frT,Quo.mk_sub,Quo.mk_pow]
 exact ⟨fun h=>eq_of_sub h,fun h=>by rw [h,sub_self]⟩
theorem irr_frT {q:Fp p} (hi:Irr q) {d:Nat} (hq:q.len=d+1) (hd:p^d<1000000000000):Dv q (frT p d):=frT_dv.2 (fermat_all hi hq hd _)
theorem irr_frT_le {q:Fp p} (hi:Irr q) {d k:Nat} (hq:q.len=d+1) (hd:p^d<1000000000000) (hk:0<k) (h:Dv q (frT p k)):d≤k:=by
 classical
 have hfix:=frob_fix k (frT_dv.1 h)
 have hone:(1:Quo q)≠0:=(fdQuo hi).one_ne
 have hP:2≤p.toNat:=by have:=IsP.ge (p:=p); omega
 have hne1:1<p.toNat^k:=Nat.one_lt_pow (by omega) hP
 have r:=roots_le (fun x y e=>hi.quo_zero e) (p.toNat^k) (fun i=>(if i=p.toNat^k then (1:Quo q) else 0)-(if i=1 then 1 else 0)) ((0:Quo q)::unitsL q d)
  (by rw [if_pos rfl,if_neg (by omega),sub_eq,neg_zero,Gq.add_zero]; exact hone)
  (List.nodup_cons.2 ⟨fun h0=>(unitsL_mem hq hd 0).1 h0 rfl,unitsL_nodup hq hd⟩)
  (fun y _=>by
   have e:(fun i=>((if i=p.toNat^k then (1:Quo q) else 0)-(if i=1 then 1 else 0))*pw y i)=fun i=>(if i=p.toNat^k then (1:Quo q) else 0)*pw y i+(if i=1 then 1 else 0) * -pw y i:=by
    funext i
    exact ring_of [(if i=p.toNat^k then (1:Quo q) else 0),(if i=1 then (1:Quo q) else 0),pw y i] rfl
   rw [e,sumR_add,sumR_ind,sumR_ind _ (fun i=>-pw y i),if_pos (by omega),if_pos (by omega),hfix,pw_1,add_neg])
 have hl:(unitsL q d).length=p.toNat^d-1:=by unfold unitsL; rw [List.length_map,List.length_range]
 have hpos:=p_pow_pos (p:=p) d
 rw [List.length_cons,hl] at r
 have:p.toNat^d≤p.toNat^k:=by omega
 exact (Nat.pow_le_pow_iff_right (by omega)).1 this
end
end Pe

namespace Pe
open Go Gq
section
variable {p:Int} [IsP p]
theorem vl_mono:∀{l m:List Int},Can p l→Can p m→l.length<m.length→cf m (m.length-1)≠0→vl p l<vl p m
 | l,[],_,_,h,_=>by simp at h
 | l,d::m,hl,hm,h,hc=>by
  have hp:=IsP.pos (p:=p)
  have hd:=hm d (by simp)
  have hmc:Can p m:=fun x hx=>hm x (by simp [hx])
  cases l with
  | nil=>
   show 0<d+p*vl p m
   have h2:=(vl_in hmc).1
   cases m with
   | nil=>
    have:d≠0:=hc
    simp [vl]; omega
   | cons e m=>
    have h3:cf (e::m) ((e::m).length-1)≠0:=by simpa [cf] using hc
    have:=vl_mono (l:=[]) (m:=e::m) (fun x hx=>by simp at hx) hmc (by simp) h3
    have h5:0<p*vl p (e::m):=Int.mul_pos hp (by simpa [vl] using this)
    omega
  | cons c l=>
   have hlc:Can p l:=fun x hx=>hl x (by simp [hx])
   have hcc:=hl c (by simp)
   have h3:cf m (m.length-1)≠0:=by
    cases m with
    | nil=>simp at h
    | cons e m=>simpa [cf] using hc
   have:=vl_mono hlc hmc (by simpa using h) h3
   have h5:p*(vl p l+1)≤p*vl p m:=Int.mul_le_mul_of_nonneg_left (by omega) (by omega)
   rw [Int.mul_add,Int.mul_one] at h5
   show c+p*vl p l<d+p*vl p m
   omega
end
section
variable {p:Int}
theorem row_last {a:Fp p} (h:a≠0):cf (row a) ((row a).length-1)≠0:=by
 rw [row_length,row_cf]
 exact fun h0=>Pol.ld_ne h (rep_eq_zero.1 h0)
end
section
variable {p:Int} [IsP p]
theorem numOf_len {a b:Fp p} (h:a.len<b.len):numOf a<numOf b:=vl_mono (row_can a) (row_can b) (by simpa using h) (row_last fun h0=>by rw [h0,Pol.len_zero] at h; omega)
theorem vl_inj:∀{l m:List Int},Can p l→Can p m→l.length=m.length→vl p l=vl p m→l=m
 | [],[],_,_,_,_=>rfl
 | [],_::_,_,_,h,_=>by simp at h
 | _::_,[],_,_,h,_=>by simp at h
 | c::l,d::m,hl,hm,h,e=>by
  have hp:=IsP.pos (p:=p)
  have hcc:=hl c (by simp)
  have hd:=hm d (by simp)
  have e2:c+p*vl p l=d+p*vl p m:=e
  have e3:c=d:=by
   have:=congrArg (· % p) e2
   simp only [Int.add_mul_emod_self_left] at this
   rwa [Int.emod_eq_of_lt hcc.1 hcc.2,Int.emod_eq_of_lt hd.1 hd.2] at this
  subst e3
  have e4:p*vl p l=p*vl p m:=by omega
  rw [vl_inj (l:=l) (m:=m) (fun x hx=>hl x (by simp [hx])) (fun x hx=>hm x (by simp [hx])) (by simpa using h) (Int.eq_of_mul_eq_mul_left (by omega) e4)]
theorem numOf_inj {a b:Fp p} (h:numOf a=numOf b):a=b:=by
 rcases Nat.lt_trichotomy a.len b.len with h1 | h1 | h1
 ·have:=numOf_len h1; omega
 ·exact row_inj (vl_inj (row_can a) (row_can b) (by simpa using h1) h)
 ·have:=numOf_len h1; omega
abbrev Facs (p:Int):=List (Fp p×Nat)
noncomputable def prodF (L:Facs p):Fp p:=prodL (L.map fun x=>pw x.1 x.2)
structure FacOk (L:Facs p):Prop where
 irr:∀x∈L,Irr x.1∧Monic x.1∧1≤x.2
 dis:L.Pairwise fun x y=>x.1≠y.1
structure IsFac (a:Fp p) (L:Facs p):Prop where
 ok:FacOk L
 sorted:L.Pairwise fun x y=>numOf x.1<numOf y.1
 eq:a=Pol.C a.ld*prodF L
end
section
variable {p:Int}
theorem prodF_cons (x:Fp p×Nat) (L:Facs p):prodF (x::L)=pw x.1 x.2*prodF L:=rfl
end
section
variable {p:Int} [IsP p]
theorem Monic.pw {a:Fp p} (h:Monic a):∀n,Monic (pw a n)
 | 0=>Monic.one
 | n+1=>(Monic.pw h n).mul h
theorem prodF_monic {L:Facs p} (h:FacOk L):Monic (prodF L):=by
 induction L with
 | nil=>exact Monic.one
 | cons x L ih=>
  rw [prodF_cons]
  exact (Monic.pw (h.irr x (by simp)).2.1 _).mul (ih ⟨fun y hy=>h.irr y (by simp [hy]),(List.pairwise_cons.1 h.dis).2⟩)
theorem Irr.pw_dv {q a:Fp p} (h:Irr q):∀n,Dv q (pw a n)→Dv q a
 | 0,hd=>by
  have h1:q.len≤(1:Fp p).len:=hd.len Pol.one_ne
  have h2:=h.len
  rw [Pol.len_one] at h1; omega
 | n+1,hd=>(h.prime hd).elim (Irr.pw_dv h n) id
theorem irr_mem {q:Fp p} (hq:Irr q) (mq:Monic q):∀{L:Facs p},FacOk L→Dv q (prodF L)→∃k,(q,k)∈L
 | [],_,h=>by
  have h1:q.len≤(1:Fp p).len:=h.len Pol.one_ne
  have h2:=hq.len
  rw [Pol.len_one] at h1; omega
 | x::L,ok,h=>by
  rw [prodF_cons] at h
  rcases hq.prime h with h1 | h1
  ·have h2:=Irr.pw_dv hq _ h1
   obtain ⟨i1,i2,_⟩:=ok.irr x (by simp)
   have:=hq.eq_of_dv i1 mq i2 h2
   exact ⟨x.2,by rw [this]; simp⟩
  ·obtain ⟨k,hk⟩:=irr_mem hq mq ⟨fun y hy=>ok.irr y (by simp [hy]),(List.pairwise_cons.1 ok.dis).2⟩ h1
   exact ⟨k,by simp [hk]⟩
theorem prodF_out {q:Fp p} {k:Nat}:∀{L:Facs p},FacOk L→(q,k)∈L→∃r,prodF L=pw q k*r∧¬ Dv q r
 | x::L,ok,h=>by
  have ok':FacOk L:=⟨fun y hy=>ok.irr y (by simp [hy]),(List.pairwise_cons.1 ok.dis).2⟩
  rw [prodF_cons]
  rcases List.mem_cons.1 h with rfl | h
  ·refine ⟨prodF L,rfl,fun hd=>?_⟩
   obtain ⟨i1,i2,_⟩:=ok.irr (q,k) (by simp)
   obtain ⟨k',hk⟩:=irr_mem i1 i2 ok' hd
   exact (List.pairwise_cons.1 ok.dis).1 _ hk rfl
  ·obtain ⟨r,e,hn⟩:=prodF_out ok' h
   refine ⟨pw x.1 x.2*r,by rw [e,Gq.mul_left_comm],fun hd=>?_⟩
   obtain ⟨i1,i2,_⟩:=ok.irr (q,k) (by simp [h])
   obtain ⟨j1,j2,_⟩:=ok.irr x (by simp)
   rcases i1.prime hd with h1 | h1
   ·have h2:=Irr.pw_dv i1 _ h1
    have e:=i1.eq_of_dv j1 i2 j2 h2
    exact (List.pairwise_cons.1 ok.dis).1 _ h e.symm
   ·exact hn h1
theorem pw_ne {a:Fp p} (h:a≠0):∀n,pw a n≠0
 | 0=>Pol.one_ne
 | n+1=>Pol.mul_ne (pw_ne h n) h
theorem fac_mem {a:Fp p} (ha:a≠0) {L:Facs p} (ok:FacOk L) (e:a=Pol.C a.ld*prodF L) (q:Fp p) (k:Nat):(q,k)∈L↔Irr q∧Monic q∧1≤k∧Dv (pw q k) a∧¬ Dv (pw q (k+1)) a:=by
 have hld:=Pol.ld_ne ha
 have dvP:∀c,Dv c a↔Dv c (prodF L):=fun c=>by
  constructor
  ·rintro ⟨x,hx⟩
   refine ⟨Pol.C (Fd.inv a.ld)*x,?_⟩
   have:prodF L=Pol.C (Fd.inv a.ld)*a:=by
    rw [e]
    have e2:(Pol.C a.ld*prodF L).ld=a.ld:=by rw [←e]
    rw [e2,←Gq.mul_assoc,Gq.mul_comm (Pol.C (Fd.inv _)),C_inv hld,Gq.one_mul]
   rw [this]
   generalize Pol.C (Fd.inv a.ld)=k
   rw [hx]
   exact ring_of [k,c,x] rfl
  ·intro h
   rw [e]; exact h.mul_left _
 constructor
 ·intro h
  obtain ⟨i1,i2,i3⟩:=ok.irr (q,k) h
  obtain ⟨r,e2,hn⟩:=prodF_out ok h
  refine ⟨i1,i2,i3,(dvP _).2 ⟨r,e2⟩,fun hd=>hn ?_⟩
  obtain ⟨y,hy⟩:=(dvP _).1 hd
  rw [e2,pw,Gq.mul_assoc] at hy
  exact ⟨y,Pol.mul_cancel (pw_ne i1.ne k) hy⟩
 ·rintro ⟨i1,i2,i3,h1,h2⟩
  have hq:Dv q a:=by
   obtain ⟨k,rfl⟩:∃j,k=j+1:=⟨k-1,by omega⟩
   exact Dv.trans ⟨pw q k,Gq.mul_comm _ _⟩ h1
  obtain ⟨k',hk'⟩:=irr_mem i1 i2 ok ((dvP _).1 hq)
  obtain ⟨r,e2,hn⟩:=prodF_out ok hk'
  have:k=k':=by
   rcases Nat.lt_trichotomy k k' with h | h | h
   ·exfalso
    apply h2
    rw [dvP,e2]
    obtain ⟨j,rfl⟩:=Nat.exists_eq_add_of_le (show k+1≤k' from h)
    rw [pw_add q (k+1) j]
    exact ((Dv.refl _).mul_right _).mul_right _
   ·exact h
   ·exfalso
    apply hn
    obtain ⟨y,hy⟩:=(dvP _).1 h1
    obtain ⟨j,rfl⟩:=Nat.exists_eq_add_of_le (show k'+1≤k from h)
    rw [e2,pw_add,pw,Gq.mul_assoc,Gq.mul_assoc] at hy
    exact ⟨_,Pol.mul_cancel (pw_ne i1.ne k') hy⟩
  rw [this]; exact hk'
theorem sorted_eq {α:Type} (f:α→Int):∀{l m:List α},l.Pairwise (fun x y=>f x<f y)→m.Pairwise (fun x y=>f x<f y)→(∀x,x∈l↔x∈m)→l=m
 | [],[],_,_,_=>rfl
 | [],y::m,_,_,h=>by have:=(h y).2 (by simp); simp at this
 | x::l,[],_,_,h=>by have:=(h x).1 (by simp); simp at this
 | x::l,y::m,hl,hm,h=>by
  obtain ⟨l1,l2⟩:=List.pairwise_cons.1 hl
  obtain ⟨m1,m2⟩:=List.pairwise_cons.1 hm
  have e:x=y:=by
   rcases List.mem_cons.1 ((h x).1 (by simp)) with h1 | h1
   ·exact h1
   ·rcases List.mem_cons.1 ((h y).2 (by simp)) with h2 | h2
    ·exact h2.symm
    ·have:=m1 _ h1
     have:=l1 _ h2
     omega
  subst e
  rw [sorted_eq f l2 m2 fun z=>?_]
  constructor
  ·intro hz
   rcases List.mem_cons.1 ((h z).1 (by simp [hz])) with h1 | h1
   ·subst h1; have:=l1 _ hz; omega
   ·exact h1
  ·intro hz
   rcases List.mem_cons.1 ((h z).2 (by simp [hz])) with h1 | h1
   ·subst h1; have:=m1 _ hz; omega
   ·exact h1
theorem IsFac.unique {a:Fp p} (ha:a≠0) {L L':Facs p} (h:IsFac a L) (h':IsFac a L'):L=L':=
 sorted_eq (fun x=>numOf x.1) h.sorted h'.sorted fun x=>by
  obtain ⟨q,k⟩:=x
  rw [fac_mem ha h.ok h.eq,fac_mem ha h'.ok h'.eq]
def NoSmall (n:Nat) (a:Fp p):Prop:=∀q,Irr q→Dv q a→n+1≤q.len
theorem irr_of_noSmall {a:Fp p} {n:Nat} (h:NoSmall n a) (hl:2≤a.len) (hs:a.len<2*n+1):Irr a:=by
 refine Irr.of_dv hl fun u hu=>?_
 have ha:a≠0:=fun h0=>by rw [h0,Pol.len_zero] at hl; omega
 obtain ⟨v,rfl⟩:=hu
 have hu0:u≠0:=fun h0=>ha (by rw [h0,Gq.zero_mul])
 have hv0:v≠0:=fun h0=>ha (by rw [h0,Gq.mul_zero])
 have l:=Pol.len_mul hu0 hv0
 have l1:=Pol.len_pos hu0
 have l2:=Pol.len_pos hv0
 apply Classical.byContradiction
 intro hx
 have hu2:2≤u.len:=by omega
 have hv2:2≤v.len:=by omega
 obtain ⟨q,q1,_,q2⟩:=irr_ex u.len u (Nat.le_refl _) hu2
 obtain ⟨r,r1,_,r2⟩:=irr_ex v.len v (Nat.le_refl _) hv2
 have s1:=h q q1 (q2.mul_right v)
 have s2:=h r r1 (r2.mul_left u)
 have s3:=q2.len hu0
 have s4:=r2.len hv0
 omega
theorem noSmall_one (a:Fp p):NoSmall 1 a:=fun _q h _=>h.len
theorem noSmall_dv {a b:Fp p} {n:Nat} (h:NoSmall n a) (hd:Dv b a):NoSmall n b:=fun q hq hb=>h q hq (hb.trans hd)
end
end Pe

namespace Pe
open Go Gq
variable {T:Nat→Option Fn} {A:Oracle}
def C_isNaN (O:Oracle) (F:Nat):Prop:=∀x:Int,ask O F [(D.int .i64 x)]=some (D.bool false)
theorem c_isNaN (hT:T F2=some Z2):C_isNaN (den T A) F2:=fun x=>by
 refine ask_of hT rfl ?_
 simp -implicitDefEqProofs [Z2,Z2_B]
theorem c_isNaN64 (hT:T F3=some Z3):C_isNaN (den T A) F3:=fun x=>by
 refine ask_of hT rfl ?_
 simp -implicitDefEqProofs [Z3,Z3_B]
def cmpI (x y:Int):Int:=if x<y then -1 else if y<x then 1 else 0
def C_compareI (O:Oracle) (F:Nat):Prop:=∀x y:Int,ask O F [(D.int .i64 x),(D.int .i64 y)]=some (D.int .i64 (cmpI x y))
theorem c_compareI (hT:T F0=some Z0) (h:C_isNaN (den T A) F2):C_compareI (den T A) F0:=fun x y=>by
 have e1:=h x
 have e2:=h y
 refine ask_of hT rfl ?_
 unfold cmpI
 by_cases h1:x<y
 ·simp -implicitDefEqProofs [Z0,Z0_B,e1,e2,h1,dn_cond]
 ·by_cases h2:y<x
  ·simp -implicitDefEqProofs [Z0,Z0_B,e1,e2,h1,h2,dn_cond]
  ·simp -implicitDefEqProofs [Z0,Z0_B,e1,e2,h1,h2,dn_cond]
theorem c_compareI64 (hT:T F1=some Z1) (h:C_isNaN (den T A) F3):C_compareI (den T A) F1:=fun x y=>by
 have e1:=h x
 have e2:=h y
 refine ask_of hT rfl ?_
 unfold cmpI
 by_cases h1:x<y
 ·simp -implicitDefEqProofs [Z1,Z1_B,e1,e2,h1,dn_cond]
 ·by_cases h2:y<x
  ·simp -implicitDefEqProofs [Z1,Z1_B,e1,e2,h1,h2,dn_cond]
  ·simp -implicitDefEqProofs [Z1,Z1_B,e1,e2,h1,h2,dn_cond]
def cmpL (l m:List Int):Nat→Int
 | 0=>0
 | n+1=>if cmpI (cf l n) (cf m n)≠0 then cmpI (cf l n) (cf m n) else cmpL l m n
theorem l_compare {O:Oracle} (hc:C_compareI O F1) {l m:List Int} (hlm:l.length=m.length) (hl:l.length<1000000):∀n:Nat,n≤l.length →
 dn O 0 (.loop Zi_L0) ⟨[(0,(.d (.sl .leaf (ints .i64 l)))),(1,(.d (.sl .leaf (ints .i64 m)))),(6,(.d (.int .i64 ((n:Int)-1))))],[]⟩ =
  if cmpL l m n=0 then some (.exit 0,⟨[(0,(.d (.sl .leaf (ints .i64 l)))),(1,(.d (.sl .leaf (ints .i64 m)))),(6,(.d (.int .i64 (-1)))),(20,(.d (.bool false)))],[]⟩) else some (.ret,⟨[(4,(.d (.int .i64 (cmpL l m n))))],[]⟩)
 | 0,hn=>by
  simp only [cmpL,if_true]
  exact dn_stop (by simp -implicitDefEqProofs [Zi_L0,dn_cond])
 | n+1,hn=>by
  have t0:(((n+1:Nat):Int)-1)=(n:Int):=by omega
  rw [t0]
  have h1:n<l.length:=by omega
  have h2:n<m.length:=by omega
  have e1:l[n]? = some (cf l n):=by rw [List.getElem?_eq_getElem h1,cf_lt h1]
  have e2:m[n]? = some (cf m n):=by rw [List.getElem?_eq_getElem h2,cf_lt h2]
  have e1':l[n]=cf l n:=(cf_lt h1).symm
  have e2':m[n]=cf m n:=(cf_lt h2).symm
  have e3:=hc (cf l n) (cf m n)
  have w1:IntKind.i64.wrap ((n:Int)-1)=(n:Int)-1:=w64 (by omega)
  by_cases h0:cmpI (cf l n) (cf m n)=0
  ·rw [h0] at e3
   have e:cmpL l m (n+1)=cmpL l m n:=if_neg (fun h=>h h0)
   rw [e]
   refine dn_round ?_ (l_compare hc hlm hl n (by omega))
   simp -implicitDefEqProofs [Zi_L0,dn_cond,h1,h2,e1',e2',e3,w1]
  ·have e:cmpL l m (n+1)=cmpI (cf l n) (cf m n):=if_pos h0
   rw [e,if_neg h0]
   refine dn_back ?_
   simp -implicitDefEqProofs [Zi_L0,dn_cond,h1,h2,e1',e2',e3,h0]
def cmpR (l m:List Int):Int:=if cmpI l.length m.length≠0 then cmpI l.length m.length else cmpL l m l.length
def C_compare (O:Oracle):Prop:=∀l m:List Int,l.length<1000000→m.length<1000000→ask O Fi [(D.sl .leaf (ints .i64 l)),(D.sl .leaf (ints .i64 m))]=some (D.int .i64 (cmpR l m))
theorem c_compare (hT:T Fi=some Zi) (h1:C_compareI (den T A) F0) (h2:C_compareI (den T A) F1):C_compare (den T A):=by
 intro l m hl hm
 have e1:=h1 l.length m.length
 unfold cmpR
 refine ask_of hT rfl ?_
 by_cases h0:cmpI l.length m.length=0
 ·have hlm:l.length=m.length:=by
   unfold cmpI at h0
   split at h0
   ·omega
   ·split at h0 <;> omega
  rw [if_neg (fun h=>h h0)]
  rw [h0] at e1
  have e2:=l_compare h2 hlm hl l.length (Nat.le_refl _)
  have w1:IntKind.i64.wrap ((l.length:Int)-1)=(l.length:Int)-1:=w64 (by omega)
  by_cases hz:cmpL l m l.length=0
  ·rw [if_pos hz] at e2
   simp -implicitDefEqProofs [Zi,Zi_B,dn_cond,e1,e2,w1,hz]
  ·rw [if_neg hz] at e2
   simp -implicitDefEqProofs [Zi,Zi_B,dn_cond,e1,e2,w1]
 ·rw [if_pos h0]
  simp -implicitDefEqProofs [Zi,Zi_B,dn_cond,e1,h0]
section
variable (f:D→Int)
def insG:List D→D→List D→List D
 | [],x,R=>x::R
 | y::L,x,R=>if f x<f y then insG L x (y::R) else (y::L).reverse++x::R
def srtG:List D→List D→List D
 | P,[]=>P
 | P,x::r=>srtG (insG f P.reverse x []) r
theorem insG_app:∀(L:List D) (x:D) (R S:List D),insG f L x (R++S)=insG f L x R++S
 | [],x,R,S=>rfl
 | y::L,x,R,S=>by
  unfold insG
  split
  ·rw [←List.cons_append,insG_app L x (y::R) S]
  ·simp
theorem insG_perm:∀(L:List D) (x:D) (R:List D),(insG f L x R).Perm (x::(L.reverse++R))
 | [],x,R=>.refl _
 | y::L,x,R=>by
  unfold insG
  split
  ·refine (insG_perm L x (y::R)).trans ?_
   simp
  ·exact List.perm_middle
theorem insG_len (L:List D) (x:D) (R:List D):(insG f L x R).length=L.length+R.length+1:=by
 have:=(insG_perm f L x R).length_eq
 simpa using this
def Asc (l:List D):Prop:=l.Pairwise fun x y=>f x≤f y
theorem insG_asc:∀(L:List D) (x:D) (R:List D),Asc f (L.reverse++R)→(∀y∈R,f x≤f y)→Asc f (insG f L x R)
 | [],x,R,h,hx=>by
  unfold insG Asc
  refine List.pairwise_cons.2 ⟨hx,?_⟩
  have h':Asc f R:=by simpa using h
  exact h'
 | y::L,x,R,h,hx=>by
  unfold insG
  split
  ·rename_i hlt
   refine insG_asc L x (y::R) (by simpa using h) fun z hz=>?_
   rcases List.mem_cons.1 hz with rfl | hz
   ·omega
   ·exact hx z hz
  ·rename_i hlt
   unfold Asc at h ⊢
   rw [List.pairwise_append] at h ⊢
   refine ⟨h.1,List.pairwise_cons.2 ⟨hx,h.2.1⟩,fun a ha b hb=>?_⟩
   rcases List.mem_cons.1 hb with rfl | hb
   ·have hay:f a≤f y:=by
     have h1:=h.1
     rw [List.reverse_cons,List.pairwise_append] at h1
     rw [List.reverse_cons] at ha
     rcases List.mem_append.1 ha with ha | ha
     ·exact h1.2.2 a ha y (by simp)
     ·simp at ha; rw [ha]; exact Int.le_refl _
    omega
   ·exact h.2.2 a ha b hb
theorem srtG_perm:∀(r P:List D),(srtG f P r).Perm (P++r)
 | [],P=>by simp [srtG]
 | x::r,P=>by
  unfold srtG
  refine (srtG_perm r _).trans ?_
  have:=insG_perm f P.reverse x []
  refine (List.Perm.append_right r this).trans ?_
  simp
  exact List.perm_middle.symm
theorem srtG_asc:∀(r P:List D),Asc f P→Asc f (srtG f P r)
 | [],P,h=>h
 | x::r,P,h=>by
  unfold srtG
  exact srtG_asc r _ (insG_asc f P.reverse x [] (by simpa using h) (by simp))
end
section
variable {O:Oracle} {g:Nat} {first caps:List D}
abbrev facSh:Sh:=.st [.leaf,.leaf]
structure CmpOk (O:Oracle) (g:Nat) (first caps:List D) (f:D→Int) (s:Sh) (cs:List D):Prop where
 nf:noTup first
 nc:noTup caps
 nx:noTup cs
 sh:AllSh s cs
 ask:∀x∈cs,∀y∈cs,ask O g (first++[x,y]++caps)=some (D.int .i64 (cmpI (f x) (f y)))
theorem CmpOk.perm {f:D→Int} {s:Sh} {cs ds:List D} (h:CmpOk O g first caps f s cs) (p:ds.Perm cs):CmpOk O g first caps f s ds:=
 ⟨h.nf,h.nc,fun x hx=>h.nx x (p.subset hx),fun x hx=>h.sh x (p.subset hx),fun x hx y hy=>h.ask x (p.subset hx) y (p.subset hy)⟩
theorem CmpOk.call {f:D→Int} {s:Sh} {cs:List D} (h:CmpOk O g first caps f s cs) {hp:Heap} {np:Nat} {news:List Nat} {x y:D} (hx:x∈cs) (hy:y∈cs) :
 kCall O np hp .flat news (g,first.map .d,caps.map .d) [.d x,.d y]=some (.d (D.int .i64 (cmpI (f x) (f y))),hp):=by
 have e:toDs hp (first.map .d++[.d x,.d y]++caps.map .d)=some (first++[x,y]++caps):=
  toDs_app hp (toDs_app hp (toDs_map hp h.nf) (toDs_map hp (ds:=[x,y]) (by intro z hz; simp at hz; rcases hz with rfl | rfl; exact h.nx _ hx; exact h.nx _ hy))) (toDs_map hp h.nc)
 rw [kCall_flat,e,Option.bind_some,kAsk_ask,h.ask x hx y hy,Option.bind_some,kAns_flat,show (D.int IntKind.i64 (cmpI (f x) (f y))).flat=true from rfl,if_pos rfl]
theorem cmpI_neg (x y:Int):cmpI x y<0↔x<y:=by
 unfold cmpI
 split
 ·omega
 ·split <;> omega
theorem l_insF {f:D→Int} {n:Nat} {cp:Option Nat} (hn:n≤1000) {i:Nat}:∀(L:List D) (x:D) (R:List D),(L.reverse++x::R).length=n→CmpOk O g first caps f facSh (L.reverse++x::R)→∃j:Int,
 dn O 1 (.loop Z26_L0) ⟨[(0,.sl 0 [] 0 n cp),(1,(.d (.int .i64 0))),(2,(.d (.int .i64 n))),(3,.d (.fn g first caps)),(8,(.d (.int .i64 i))),(9,(.d (.int .i64 L.length)))],[.sl false facSh (L.reverse++x::R)]⟩ =
  some (.exit 2,⟨[(0,.sl 0 [] 0 n cp),(1,(.d (.int .i64 0))),(2,(.d (.int .i64 n))),(3,.d (.fn g first caps)),(8,(.d (.int .i64 i))),(9,(.d (.int .i64 j))),(34,(.d (.bool false)))],[.sl false facSh (insG f L x R)]⟩)
 | [],x,R,hl,ok=>by
  refine ⟨0,dn_stop ?_⟩
  simp -implicitDefEqProofs [Z26_L0,dn_cond,insG]
 | y::L,x,R,hl,ok=>by
  have hj:(y::L).length=L.length+1:=rfl
  have hlen:((y::L).reverse++x::R).length=L.length+1+(R.length+1):=by simp; omega
  have e1:((y::L).reverse++x::R)[L.length+1]? = some x:=by
   rw [List.getElem?_append_right (by simp)]; simp
  have e2:((y::L).reverse++x::R)[L.length]? = some y:=by
   rw [List.getElem?_append_left (by simp)]; simp
  have m1:x∈(y::L).reverse++x::R:=by simp
  have m2:y∈(y::L).reverse++x::R:=by simp
  have c:=ok.call (hp:=[.sl false facSh ((y::L).reverse++x::R)]) (np:=1) (news:=[]) m1 m2
  have s1:=ok.sh x m1
  have s2:=ok.sh y m2
  have n1:=ok.nx x m1
  have n2:=ok.nx y m2
  have e3:(((y::L).reverse++x::R).set (L.length+1) y).set L.length x=L.reverse++x::y::R:=by
   rw [List.set_append_right _ _ (by simp),List.set_append_left _ _ (by simp)]
   simp
  have hp:((y::L).reverse++x::R).Perm (L.reverse++x::y::R):=by
   simp
   exact (List.Perm.swap x y R).append_left _
  have w1:IntKind.i64.wrap (L.length:Int)=L.length:=w64 (by omega)
  have h0:(0:Int)<(L.length:Int)+1:=by omega
  have h00:(0:Int)≤(L.length:Int)+1:=by omega
  have h1:L.length+1<n:=by omega
  have h2:L.length<n:=by omega
  have h3:L.length<((y::L).reverse++x::R).length:=by omega
  have h4:L.length+1<((y::L).reverse++x::R).length:=by omega
  have e4:(((y::L).reverse++x::R).set (L.length+1) y)[L.length]? = some y:=by
   rw [List.getElem?_set_ne (by omega),e2]
  unfold insG
  rw [hj,show ((L.length+1:Nat):Int)=(L.length:Int)+1 by omega]
  generalize (y::L).reverse++x::R=cs at *
  have e1':cs[L.length+1]=x:=by rw [List.getElem?_eq_getElem h4] at e1; exact Option.some.inj e1
  have e2':cs[L.length]=y:=by rw [List.getElem?_eq_getElem h3] at e2; exact Option.some.inj e2
  by_cases hlt:f x<f y
  ·rw [if_pos hlt]
   obtain ⟨j,e⟩:=l_insF hn L x (y::R) (by rw [←hp.length_eq]; omega) (ok.perm hp.symm)
   have hc:=(cmpI_neg (f x) (f y)).2 hlt
   refine ⟨j,dn_round ?_ e⟩
   simp -implicitDefEqProofs [Z26_L0,dn_cond,h0,h00,h1,h2,h3,h4,e1',e2',c,s1,s2,n1,n2,w1,hc,e3]
  ·rw [if_neg hlt]
   have hc:=mt (cmpI_neg (f x) (f y)).1 hlt
   refine ⟨(L.length:Int)+1,dn_stop ?_⟩
   simp -implicitDefEqProofs [Z26_L0,dn_cond,h0,h00,h1,h2,h3,h4,e1',e2',c,s1,s2,w1,hc]
end
theorem l_srtF {O:Oracle} {g:Nat} {first caps:List D} {f:D→Int} {n:Nat} {cp:Option Nat} (hn:n≤1000):∀(r P:List D),P.length+r.length=n→0<P.length→CmpOk O g first caps f facSh (P++r) →
 dn O 1 (.loop Z26_L1) ⟨[(0,.sl 0 [] 0 n cp),(1,(.d (.int .i64 0))),(2,(.d (.int .i64 n))),(3,.d (.fn g first caps)),(8,(.d (.int .i64 P.length)))],[.sl false facSh (P++r)]⟩ =
  some (.exit 0,⟨[(0,.sl 0 [] 0 n cp),(1,(.d (.int .i64 0))),(2,(.d (.int .i64 n))),(3,.d (.fn g first caps)),(8,(.d (.int .i64 n))),(14,(.d (.bool false)))],[.sl false facSh (srtG f P r)]⟩)
 | [],P,hl,hP,ok=>by
  have hl':P.length=n:=by simpa using hl
  refine dn_stop ?_
  simp -implicitDefEqProofs [Z26_L1,dn_cond,srtG,hl']
 | x::r,P,hl,hP,ok=>by
  simp at hl
  have e0:P.reverse.reverse++x::r=P++x::r:=by simp
  obtain ⟨j,e⟩:=l_insF (O:=O) (g:=g) (first:=first) (caps:=caps) (f:=f) (n:=n) (cp:=cp) hn (i:=P.length) P.reverse x r (by simp; omega) (by rw [e0]; exact ok)
  rw [e0,List.length_reverse,←List.nil_append r,insG_app,List.nil_append] at e
  have hlen:=insG_len f P.reverse x []
  rw [List.length_reverse,List.length_nil,Nat.add_zero] at hlen
  have hperm:(insG f P.reverse x []++r).Perm (P++x::r):=by
   refine (List.Perm.append_right r (insG_perm f P.reverse x [])).trans ?_
   simp
   exact List.perm_middle.symm
  have ih:=l_srtF (O:=O) (g:=g) (first:=first) (caps:=caps) (f:=f) (cp:=cp) hn r (insG f P.reverse x []) (by rw [hlen]; omega) (by omega) (ok.perm hperm)
  have hlt:P.length<n:=by omega
  have w1:IntKind.i64.wrap ((P.length:Int)+1)=((P.length+1:Nat):Int):=(w64 (x:=(P.length:Int)+1) (by omega)).trans (by omega)
  rw [hlen] at ih
  unfold srtG
  refine dn_round ?_ ih
  simp -implicitDefEqProofs [Z26_L1,dn_cond,hlt,e,w1]
def H_sort (O:Oracle) (F:Nat) (args:V→List V→List V):Prop:=∀(g:Nat) (first caps:List D) (f:D→Int) (cs:List D) (cp:Option Nat),cs.length≤12→CmpOk O g first caps f facSh cs →
 ∃ds:List D,ds.Perm cs∧Asc f ds∧O F (args (.sl 0 [] 0 cs.length cp) [(.d (.int .i64 cs.length)),.d (.fn g first caps)]) [.sl false facSh cs]=some (.tup [],[.sl false facSh ds],[])
def H_insertion (O:Oracle):Prop:=H_sort O F26 fun s l=>[s,(.d (.int .i64 0))]++l
theorem h_insertion (hT:T F26=some Z26):H_insertion (den T A):=by
 intro g first caps f cs cp hl ok
 cases cs with
 | nil=>
  refine ⟨[],.refl _,List.Pairwise.nil,den_of hT rfl ?_⟩
  have st:=dn_stop (O:=den T A) (np:=1) (c:=Z26_L1) (s:=⟨[(0,.sl 0 [] 0 0 cp),(1,(.d (.int .i64 0))),(2,(.d (.int .i64 0))),(3,.d (.fn g first caps)),(8,(.d (.int .i64 1)))],[.sl false facSh []]⟩) (s1:=⟨[(0,.sl 0 [] 0 0 cp),(1,(.d (.int .i64 0))),(2,(.d (.int .i64 0))),(3,.d (.fn g first caps)),(8,(.d (.int .i64 1))),(14,(.d (.bool false)))],[.sl false facSh []]⟩) (id:=0) (by simp -implicitDefEqProofs [Z26_L1,dn_cond])
  have w1:IntKind.i64.wrap 1=1:=w64 (by omega)
  simp -implicitDefEqProofs [Z26,Z26_B,st,w1]
 | cons x r=>
  have e:=l_srtF (O:=den T A) (g:=g) (first:=first) (caps:=caps) (f:=f) (n:=(x::r).length) (cp:=cp) (by omega) r [x] (by simp; omega) (by simp) ok
  have e1:(([x]:List D).length:Int)=1:=rfl
  rw [e1] at e
  refine ⟨srtG f [x] r,srtG_perm f r [x],srtG_asc f r [x] (List.pairwise_singleton _ _),den_of hT rfl ?_⟩
  have w1:IntKind.i64.wrap 1=1:=w64 (by omega)
  rw [List.singleton_append] at e
  generalize x::r=cs at *
  simp -implicitDefEqProofs [Z26,Z26_B,e,w1]
def C_len64 (O:Oracle) (F:Nat):Prop:=∀n:Nat,n≤12→∃v:Int,ask O F [.int .u64 n]=some (D.int .i64 v)
theorem c_len64 (hT:T F1w=some Z1w):C_len64 (den T A) F1w:=by
 intro n hn
 have key:∀v:Int,run (fun _ _ _=>none) 1 Z1w [.d (.int .u64 n)] []=some ((.d (.int .i64 v)),[],[])→ask (den T A) F1w [.int .u64 n]=some (D.int .i64 v):=by
  intro v h
  have h2:=den_run (A:=A) hT (n:=1) (vs:=[.d (.int .u64 n)]) (bs:=[]) (ans:=((.d (.int .i64 v)),[],[])) (by
   obtain ⟨qs,h3,h4⟩:=run_rests h
   cases qs with
   | nil=>exact h4 _ (by intro q hq; simp at hq)
   | cons q qs=>exact absurd (h3 q (by simp)) (by simp))
  unfold ask
  rw [show ([D.int .u64 n]:List D).map V.d=[.d (.int .u64 n)] from rfl,h2]
  rfl
 have h:n=0∨n=1∨n=2∨n=3∨n=4∨n=5∨n=6∨n=7∨n=8∨n=9∨n=10∨n=11∨n=12:=by omega
 rcases h with rfl | rfl | rfl | rfl | rfl | rfl | rfl | rfl | rfl | rfl | rfl | rfl | rfl
 ·exact ⟨0,key 0 (by kernel_rfl)⟩
 ·exact ⟨1,key 1 (by kernel_rfl)⟩
 ·exact ⟨2,key 2 (by kernel_rfl)⟩
 ·exact ⟨2,key 2 (by kernel_rfl)⟩
 ·exact ⟨3,key 3 (by kernel_rfl)⟩
 ·exact ⟨3,key 3 (by kernel_rfl)⟩
 ·exact ⟨3,key 3 (by kernel_rfl)⟩
 ·exact ⟨3,key 3 (by kernel_rfl)⟩
 ·exact ⟨4,key 4 (by kernel_rfl)⟩
 ·exact ⟨4,key 4 (by kernel_rfl)⟩
 ·exact ⟨4,key 4 (by kernel_rfl)⟩
 ·exact ⟨4,key 4 (by kernel_rfl)⟩
 ·exact ⟨4,key 4 (by kernel_rfl)⟩
theorem c_len (hT:T F1u=some Z1u) (h:C_len64 (den T A) F1w):C_len64 (den T A) F1u:=by
 intro n hn
 obtain ⟨v,e⟩:=h n hn
 refine ⟨v,ask_of hT rfl ?_⟩
 simp -implicitDefEqProofs [Z1u,Z1u_B,dn_cond,e]
theorem h_pdq (hT:T F2e=some Z2e) (hi:H_insertion (den T A)):∀(g:Nat) (first caps:List D) (f:D→Int) (cs:List D) (cp:Option Nat) (v:Int),cs.length≤12→CmpOk (den T A) g first caps f facSh cs →
 ∃ds:List D,ds.Perm cs∧Asc f ds∧den T A F2e [.sl 0 [] 0 cs.length cp,(.d (.int .i64 0)),(.d (.int .i64 cs.length)),(.d (.int .i64 v)),.d (.fn g first caps)] [.sl false facSh cs]=some (.tup [],[.sl false facSh ds],[]):=by
 intro g first caps f cs cp v hl ok
 obtain ⟨ds,h1,h2,e⟩:=hi g first caps f cs cp hl ok
 refine ⟨ds,h1,h2,den_of hT rfl ?_⟩
 have w1:IntKind.i64.wrap (cs.length:Int)=cs.length:=w64 (by omega)
 have h12:(cs.length:Int)≤12:=by omega
 have lp:=dn_back (O:=den T A) (np:=1) (c:=Z2e_L0) (s:=⟨[(0,.sl 0 [] 0 cs.length cp),(1,(.d (.int .i64 0))),(2,(.d (.int .i64 cs.length))),(3,(.d (.int .i64 v))),(4,.d (.fn g first caps)),(10,(.d (.bool true))),(11,(.d (.bool true)))],[.sl false facSh cs]⟩) (s1:=⟨[],[.sl false facSh ds]⟩) (by
  simp at e
  simp -implicitDefEqProofs [Z2e_L0,dn_cond,w1,h12,e,List.idxOf,List.findIdx,List.findIdx.go])
 simp -implicitDefEqProofs [Z2e,Z2e_B,lp]
def H_sortFunc (O:Oracle):Prop:=∀(g:Nat) (first caps:List D) (f:D→Int) (cs:List D) (cp:Option Nat),cs.length≤12→CmpOk O g first caps f facSh cs →
 ∃ds:List D,ds.Perm cs∧Asc f ds∧O F22 [.sl 0 [] 0 cs.length cp,.d (.fn g first caps)] [.sl false facSh cs]=some (.tup [],[.sl false facSh ds],[])
theorem h_sortFunc (hT:T F22=some Z22) (hTp:T F2e=some Z2e) (hi:H_insertion (den T A)) (hl:C_len64 (den T A) F1u):H_sortFunc (den T A):=by
 intro g first caps f cs cp hl12 ok
 obtain ⟨v,ev⟩:=hl cs.length hl12
 obtain ⟨ds,h1,h2,e⟩:=h_pdq hTp hi g first caps f cs cp v hl12 ok
 refine ⟨ds,h1,h2,den_of hT rfl ?_⟩
 have w1:IntKind.u64.wrap (cs.length:Int)=cs.length:=by
  simp [IntKind.wrap,IntKind.bits,IntKind.signed]; omega
 simp -implicitDefEqProofs [Z22,Z22_B,w1,ev,e,List.idxOf,List.findIdx,List.findIdx.go]
end Pe

namespace Pe
open Go Gq
variable {T:Nat→Option Fn} {A:Oracle}
theorem l_strip {O:Oracle} (hd:K_divide O) {p:Int} [IsP p] {b:Fp p} (hb:2≤b.len) (hbl:b.len<2000):∀(n:Nat) (a:Fp p) (i:Nat),a.len≤n→a≠0→n<2000→i+n<100000→∃(k:Nat) (r:Fp p),a=r*pw b k∧¬ Dv b r ∧
 dn O 0 (.loop Z1d_L0) ⟨[(0,(.d (.int .i64 p))),(1,(.d (.sl .leaf (ints .i64 (row a))))),(2,(.d (.sl .leaf (ints .i64 (row b))))),(8,(.d (.int .i64 i)))],[]⟩=some (.ret,⟨[(6,(.d (.sl .leaf (ints .i64 (row r))))),(7,(.d (.int .i64 ((i+k:Nat)))))],[]⟩)
 | 0,a,i,hn,ha,_,_=>absurd (Pol.len_zero_iff.1 (by omega)) ha
 | n+1,a,i,hn,ha,hn2,hi=>by
  have hb0:b≠0:=fun h=>by rw [h,Pol.len_zero] at hb; omega
  have e:=hd p a b hb0 (by omega) (by omega)
  by_cases h0:a%b=0
  ·have hm:=Pol.div_mod a b
   rw [h0,Gq.add_zero] at hm
   have hq:a/b≠0:=fun h=>ha (by rw [hm,h,Gq.zero_mul])
   have hl:=Pol.len_mul hq hb0
   rw [←hm] at hl
   obtain ⟨k,r,e1,e2,e3⟩:=l_strip hd hb hbl n (a/b) (i+1) (by omega) hq (by omega) (by omega)
   refine ⟨k+1,r,?_,e2,?_⟩
   ·rw [pw,←Gq.mul_assoc,←e1]; exact hm
   ·have w1:IntKind.i64.wrap ((i:Int)+1)=((i+1:Nat):Int):=(w64 (x:=(i:Int)+1) (by omega)).trans (by omega)
    rw [show i+(k+1)=i+1+k by omega]
    refine dn_round ?_ e3
    simp -implicitDefEqProofs [Z1d_L0,dn_cond,e,h0,row_zero,w1]
  ·refine ⟨0,a,(Gq.mul_one a).symm,fun hdv=>h0 ((dv_iff_mod hb0).1 hdv),dn_back ?_⟩
   have hp:=Pol.len_pos h0
   simp -implicitDefEqProofs [Z1d_L0,dn_cond,e,hp]
def K_strip (O:Oracle):Prop:=∀(p:Int) [IsP p] (a b:Fp p),a≠0→2≤b.len→a.len<1000→b.len<1000→∃(k:Nat) (r:Fp p),a=r*pw b k∧¬ Dv b r ∧
 ask O F1d [(D.int .i64 p),(D.sl .leaf (ints .i64 (row a))),(D.sl .leaf (ints .i64 (row b)))]=some (.tup [(D.sl .leaf (ints .i64 (row r))),(D.int .i64 k)])
theorem k_strip (hT:T F1d=some Z1d) (hd:K_divide (den T A)):K_strip (den T A):=by
 intro p i a b ha hb hal hbl
 obtain ⟨k,r,h1,h2,e⟩:=l_strip hd hb (by omega) a.len a 0 (Nat.le_refl _) ha (by omega) (by omega)
 have e0:((0:Nat):Int)=0:=rfl
 rw [e0,Nat.zero_add] at e
 refine ⟨k,r,h1,h2,ask_of hT rfl ?_⟩
 simp -implicitDefEqProofs [Z1d,Z1d_B,e]
section
variable {p:Int} [IsP p]
theorem ppow_le {n:Nat} (h:n≤12):p^n≤13841287201:=by
 have hp:=IsP.pos (p:=p)
 have h1:=ipow_mono (p:=p) (by omega) h
 have h2:p^12≤13841287201:=by
  rcases (inferInstance:IsP p).h with rfl | rfl | rfl | rfl <;> decide
 omega
theorem ppow_pos (n:Nat):0<p^n:=Int.pow_pos (IsP.pos)
theorem ppow_succ (n:Nat):2*p^n≤p^(n+1):=by
 have hp:=IsP.ge (p:=p)
 rw [Int.pow_succ,Int.mul_comm]
 exact Int.mul_le_mul_of_nonneg_left hp (Int.le_of_lt (ppow_pos n))
theorem normL_eq {most:Int}:∀(n:Nat) (out:Int),0<out→out*p^n≤most→normL p most n out=out*p^n
 | 0,out,h0,h=>by rw [Int.pow_zero,Int.mul_one]; rfl
 | n+1,out,h0,h=>by
  have hp:=IsP.pos (p:=p)
  have e:out*p^(n+1)=out*p*p^n:=by rw [Int.pow_succ,Int.mul_assoc,Int.mul_comm p]
  rw [e] at h ⊢
  have h1:1≤p^(n+1):=ppow_pos (n+1)
  have h2:out*1≤out*p^(n+1):=Int.mul_le_mul_of_nonneg_left h1 (by omega)
  rw [e] at h2
  rw [normL,if_neg (by omega)]
  exact normL_eq n (out*p) (Int.mul_pos h0 hp) h
theorem numP_monic {n:Nat} (hn:n≤12) {k:Int} (h1:p^n≤k) (h2:k<2*p^n):Monic (numP p k)∧(numP p k).len=n+1:=by
 have hp:=IsP.ge (p:=p)
 have hb:=ppow_le (p:=p) hn
 have hpos:=ppow_pos (p:=p) n
 have ok:NumOk k:=⟨by omega,by omega⟩
 have hs:=ppow_succ (p:=p) n
 have hlt:=numP_lt (p:=p) ok (d:=n+1) (by omega)
 have hc:(numP p k).c n=1:=by
  rw [numP_c ok]
  have:k/p^n=1:=by
   have e:k=(k-p^n)+p^n:=by omega
   rw [e,Int.add_ediv_of_dvd_right (Int.dvd_refl _),Int.ediv_self (by omega),Int.ediv_eq_zero_of_lt (by omega) (by omega)]; rfl
  rw [this]; rfl
 have hl:=Pol.len_eq hlt (by rw [hc]; exact Fd.one_ne)
 refine ⟨⟨?_,fun h0=>by rw [h0,Pol.len_zero] at hl; omega⟩,hl⟩
 unfold Pol.ld
 rw [hl]; exact hc
theorem numOf_monic {n:Nat} (_hn:n≤12) {q:Fp p} (hq:Monic q) (hl:q.len=n+1):p^n≤numOf q∧numOf q<2*p^n:=by
 have hp:=IsP.ge (p:=p)
 have hpos:=ppow_pos (p:=p) n
 have h1:=numOf_in q
 have h2:=vl_cf (row_can q) n
 have h3:q.c n=1:=by have:=hq.1; unfold Pol.ld at this; rwa [hl] at this
 rw [row_cf,h3,rep_one] at h2
 have h4:numOf q/p^n<p:=by
  apply Int.ediv_lt_of_lt_mul hpos
  rw [hl,Int.pow_succ,Int.mul_comm] at h1
  exact h1.2
 have h5:0≤numOf q/p^n:=Int.ediv_nonneg h1.1 (by omega)
 have h6:numOf q/p^n=1:=by
  have:numOf q/p^n%p=numOf q/p^n:=Int.emod_eq_of_lt h5 h4
  have h7:(1:Int)=numOf q/p^n%p:=h2
  omega
 have h8:=Int.mul_ediv_add_emod (numOf q) (p^n)
 rw [h6,Int.mul_one] at h8
 have h9:=Int.emod_nonneg (numOf q) (show p^n≠0 by omega)
 have h10:=Int.emod_lt_of_pos (numOf q) hpos
 omega
theorem numP_monic_num {n:Nat} (hn:n≤12) {q:Fp p} (hq:Monic q) (hl:q.len=n+1):numP p (numOf q)=q:=numP_numOf (by
 have:=numOf_monic hn hq hl
 have:=ppow_le (p:=p) hn
 omega)
theorem l_with {O:Oracle} (hnu:K_numbered O) (hr:K_rest O) {a:Fp p} (hal:a.len<1000) {n:Nat} (hn:n≤12):∀(m:Nat) (k:Int),p^n≤k→k<2*p^n→(2*p^n-k).toNat≤m→(∃k0,k≤k0∧k0<2*p^n∧Dv (numP p k0) a)→∃b:Fp p,Monic b∧b.len=n+1∧Dv b a ∧
 dn O 0 (.loop Z1g_L0) ⟨[(0,(.d (.int .i64 p))),(1,(.d (.sl .leaf (ints .i64 (row a))))),(7,(.d (.int .i64 (p^n)))),(8,(.d (.int .i64 k)))],[]⟩=some (.ret,⟨[(6,(.d (.sl .leaf (ints .i64 (row b)))))],[]⟩)
 | 0,k,h1,h2,hm,hx=>by omega
 | m+1,k,h1,h2,hm,hx=>by
  have hb:=ppow_le (p:=p) hn
  have hpos:=ppow_pos (p:=p) n
  obtain ⟨m1,m2⟩:=numP_monic hn h1 h2
  have e1:=hnu p k (by omega) (by omega)
  have e2:=hr p a (numP p k) m1.2 (by omega) (by omega)
  have w1:IntKind.i64.wrap (2*p^n)=2*p^n:=w64 (by omega)
  have w2:IntKind.i64.wrap (k+1)=k+1:=w64 (by omega)
  by_cases hd:Dv (numP p k) a
  ·refine ⟨numP p k,m1,m2,hd,dn_back ?_⟩
   have h0:=(dv_iff_mod m1.2).1 hd
   rw [h0,row_zero] at e2
   simp -implicitDefEqProofs [Z1g_L0,dn_cond,e1,e2,w1,h2]
  ·obtain ⟨k0,g1,g2,g3⟩:=hx
   have hne:k≠k0:=fun h=>hd (h▸g3)
   obtain ⟨b,b1,b2,b3,e⟩:=l_with hnu hr hal hn m (k+1) (by omega) (by omega) (by omega) ⟨k0,by omega,g2,g3⟩
   refine ⟨b,b1,b2,b3,dn_round ?_ e⟩
   have h0:a%numP p k≠0:=fun h=>hd ((dv_iff_mod m1.2).2 h)
   have h0':row (a%numP p k)≠[]:=fun h=>h0 (row_nil.1 h)
   have h0'':(a%numP p k).len≠0:=fun h=>h0 (Pol.len_zero_iff.1 h)
   simp -implicitDefEqProofs [Z1g_L0,dn_cond,e1,e2,w1,w2,h2,h0'']
end
def K_withDegree (O:Oracle):Prop:=∀(p:Int) [IsP p] (a:Fp p) (n:Nat),1≤n→n≤12→a.len<1000→a≠0→(∃q,Monic q∧q.len=n+1∧Dv q a)→∃b:Fp p,Monic b∧b.len=n+1∧Dv b a ∧
 ask O F1g [(D.int .i64 p),(D.sl .leaf (ints .i64 (row a))),(D.int .i64 n)]=some (D.sl .leaf (ints .i64 (row b)))
theorem k_withDegree (hT:T F1g=some Z1g) (hnu:K_numbered (den T A)) (hr:K_rest (den T A)) (hno:C_norm (den T A)) (hdg:C_degree (den T A)) (hld:C_lead (den T A)) (hinv:C_inverse (den T A)) (hs:K_scale (den T A)):K_withDegree (den T A):=by
 intro p i a n hn1 hn hal ha ⟨q,q1,q2,q3⟩
 have hp:=IsP.ge (p:=p)
 have hp7:=IsP.le (p:=p)
 have e1:=hdg (row a) (by rw [row_length]; omega)
 rw [row_length] at e1
 by_cases hd:a.len=n+1
 ·have hr:=rep_in a.ld
  have hin:=inv_in p (rep a.ld)
  have e2:=hld (row a) (by rw [row_length]; omega)
  rw [ld_row] at e2
  have e3:=hinv p (rep a.ld) (by omega) (by omega) hr.1 hr.2
  have e4:=hs p (inv p (rep a.ld)) a (by omega) (by omega) (by omega)
  rw [finv_rep _ (Pol.ld_ne ha)] at e4
  have hd2:(a.len:Int)-1=n:=by omega
  refine ⟨mon a,mon_monic ha,by rw [mon_len ha,hd],(mon_dv ha).2 (.refl a),ask_of hT rfl ?_⟩
  simp -implicitDefEqProofs [Z1g,Z1g_B,dn_cond,e1,e2,e3,e4,hd2,mon]
 ·have hd2:¬ (a.len:Int)-1=n:=by omega
  have hb:=ppow_le (p:=p) hn
  have hpos:=ppow_pos (p:=p) n
  have e2:=hno p n 1099511627776 (by omega) (by omega)
  rw [normL_eq n 1 (by omega) (by omega),Int.one_mul] at e2
  have hq:=numOf_monic hn q1 q2
  obtain ⟨b,b1,b2,b3,e⟩:=l_with hnu hr hal hn (2*p^n-p^n).toNat (p^n) (Int.le_refl _) (by omega) (Nat.le_refl _) ⟨numOf q,hq.1,hq.2,by rw [numP_monic_num hn q1 q2]; exact q3⟩
  refine ⟨b,b1,b2,b3,ask_of hT rfl ?_⟩
  simp -implicitDefEqProofs [Z1g,Z1g_B,dn_cond,e1,e2,hd2,e]
end Pe
