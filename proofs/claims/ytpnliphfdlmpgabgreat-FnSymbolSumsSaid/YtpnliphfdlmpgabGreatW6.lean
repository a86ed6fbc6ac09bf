/-
  A part of the proof: an evaluator for a small form of the code, its soundness, and contracts of functions over it.
-/
import Derived.Test.YtpnliphfdlmpgabGreatW1
import Derived.Test.YtpnliphfdlmpgabGreatW2
import Derived.Test.YtpnliphfdlmpgabGreatW3
import Derived.Test.YtpnliphfdlmpgabGreatW4
import Derived.Test.YtpnliphfdlmpgabGreatW5

namespace Pe
open Go Gq
variable {T:Nat→Option Fn} {A:Oracle}
def H_monicCode1 (O:Oracle):Prop:=∀(p:Int) (a l:List Int) (most:Nat) (r:Bool),Bytes a→a.length=64→Bytes l→l.length=64→most≤100 →
 (codeP p [a,l]=1→O Fr [(.d (.int .i64 p)),(.d (.arr 64 .leaf (ints .u8 l))),(.d (.int .i64 most)),(.d (.bool r)),.sl 0 [] 0 1 (some 1)] [.sl false (.arr 64 .leaf) [(D.arr 64 .leaf (ints .u8 a))]]=some ((.d (.int .i64 1)),[.sl false (.arr 64 .leaf) [(D.arr 64 .leaf (ints .u8 a))]],[])) ∧
 (∀(_ip:IsP p) (m:Fp p),m.len≤64→l=pad (row m)→codeP p [a,l]=0→O Fr [(.d (.int .i64 p)),(.d (.arr 64 .leaf (ints .u8 l))),(.d (.int .i64 most)),(.d (.bool r)),.sl 0 [] 0 1 (some 1)] [.sl false (.arr 64 .leaf) [(D.arr 64 .leaf (ints .u8 a))]]=some ((.d (.int .i64 (monOk m most r))),[.sl false (.arr 64 .leaf) [(D.arr 64 .leaf (ints .u8 a))]],[]))
theorem h_monicCode1 (hT:T Fr=some Zr) (hpc:C_polysCode (den T A)) (hro:K_rowOf (den T A)) (hld:C_lead (den T A)) (hdg:C_degree (den T A)) (hwi:C_within (den T A)):H_monicCode1 (den T A):=by
 intro p b l most r hb1 hl1 hb hl hmost
 have e1:=hpc p [b,l] (arr2 hb1 hl1 hb hl) (by simp)
 rw [show List.map arr8 [b,l]=[(D.arr 64 .leaf (ints .u8 b)),(D.arr 64 .leaf (ints .u8 l))] from rfl] at e1
 refine ⟨fun hc=>?_,fun ip a hal hle hc=>?_⟩
 ·rw [hc] at e1
  refine den_of hT rfl ?_
  simp -implicitDefEqProofs [Zr,Zr_B,dn_cond,e1,List.replicate]
 ·subst hle
  rw [hc] at e1
  have e2:=hro p a hal
  have e3:=hld (row a) (by rw [row_length]; omega)
  rw [ld_row] at e3
  have e4:=hdg (row a) (by rw [row_length]; omega)
  rw [row_length] at e4
  have e5:=hwi ((a.len:Int)-1) 1 most
  refine den_of hT rfl ?_
  unfold monOk
  by_cases h1:a.ld=1
  ·have h1':=(rep_one_iff a.ld).2 h1
   have hM:=(monic_iff a).2 h1
   by_cases h2:2≤a.len∧a.len≤most+1
   ·have h3:decide ((1:Int)≤(a.len:Int)-1∧(a.len:Int)-1≤most)=true:=decide_eq_true (by omega)
    rw [h3] at e5
    cases r
    ·rw [if_neg (by simp)]
     simp -implicitDefEqProofs [Zr,Zr_B,dn_cond,e1,e2,e3,e4,e5,h1',List.replicate]
    ·rw [if_pos ⟨hM,h2.1,h2.2,rfl⟩]
     simp -implicitDefEqProofs [Zr,Zr_B,dn_cond,e1,e2,e3,e4,e5,h1',List.replicate]
   ·have h3:decide ((1:Int)≤(a.len:Int)-1∧(a.len:Int)-1≤most)=false:=decide_eq_false (by omega)
    rw [h3] at e5
    rw [if_neg (fun h=>h2 ⟨h.2.1,h.2.2.1⟩)]
    simp -implicitDefEqProofs [Zr,Zr_B,dn_cond,e1,e2,e3,e4,e5,h1',List.replicate]
  ·have h1':=mt (rep_one_iff a.ld).1 h1
   rw [if_neg (fun h=>h1 h.1.1)]
   simp -implicitDefEqProofs [Zr,Zr_B,dn_cond,e1,e2,e3,h1',List.replicate]
def QsOk (p:Int) (a m:List Int):Prop:=∃(_:IsP p) (X M:Fp p),a=pad (row X)∧m=pad (row M)∧X.len≤64∧Monic M∧2≤M.len∧M.len≤13∧p≠2
open Classical in
noncomputable def qsD (p:Int) (a m:List Int):D:=
 if h:QsOk p a m then haveI:IsP p:=h.choose; .tup [(D.int .i64 (quadI p (symb p (polOf p a) (polOf p m)))),(D.int .i64 0)] else .tup [(D.int .i64 0),(D.int .i64 (if codeP p [a,m]=0 then 2 else 1))]
theorem qsD_ok {p:Int} [ip:IsP p] {X M:Fp p} (hX:X.len≤64) (hM:Monic M) (h2:2≤M.len) (h13:M.len≤13) (hp:p≠2):qsD p (pad (row X)) (pad (row M))=.tup [(D.int .i64 (quadI p (symb p X M))),(D.int .i64 0)]:=by
 unfold qsD
 rw [dif_pos ⟨ip,X,M,rfl,rfl,hX,hM,h2,h13,hp⟩,polOf_pad hX,polOf_pad (by omega)]
theorem qsD_bad {p:Int} {a m:List Int} (h:¬ codeP p [a,m]=0):qsD p a m=.tup [(D.int .i64 0),(D.int .i64 1)]:=by
 unfold qsD
 rw [dif_neg,if_neg h]
 rintro ⟨ip,X,M,rfl,rfl,_⟩
 exact h (two_code X M)
theorem qsD_not {p:Int} [IsP p] {X M:Fp p} (hM:M.len≤64) (h:¬ (Monic M∧2≤M.len∧M.len≤13∧p≠2)):qsD p (pad (row X)) (pad (row M))=.tup [(D.int .i64 0),(D.int .i64 2)]:=by
 unfold qsD
 rw [dif_neg,if_pos (two_code X M)]
 rintro ⟨_,X',M',_,e,_,h1,h2,h3⟩
 obtain rfl:=(pad_row_inj hM (by omega)).1 e
 exact h ⟨h1,h2,h3⟩
def K_QuadraticSymbol (O:Oracle) (F:Nat):Prop:=∀(p:Int) (a m:List Int),Bytes a→a.length=64→Bytes m→m.length=64→ask O F [(D.int .i64 p),(D.arr 64 .leaf (ints .u8 a)),(D.arr 64 .leaf (ints .u8 m))]=some (qsD p a m)
theorem monOk_zero {p:Int} [IsP p] {a:Fp p} {most:Nat} {r:Bool} (h:Monic a∧2≤a.len∧a.len≤most+1∧r=true):monOk a most r=0:=by
 unfold monOk
 rw [if_pos h]
theorem monOk_two {p:Int} [IsP p] {a:Fp p} {most:Nat} {r:Bool} (h:¬ (Monic a∧2≤a.len∧a.len≤most+1∧r=true)):monOk a most r=2:=by
 unfold monOk
 rw [if_neg h]
theorem k_QuadraticSymbol (hT:T F9=some Z9) (hmc:H_monicCode1 (den T A)) (hro:K_rowOf (den T A)) (hq:K_quad (den T A)):K_QuadraticSymbol (den T A) F9:=by
 intro p a m ha gl hm glm
 obtain ⟨c1,c2⟩:=hmc p a m 12 (decide (p≠2)) ha gl hm glm (by omega)
 rw [show ((12:Nat):Int)=12 from rfl] at c1 c2
 have hr:(!decide (p=2))=decide (p≠2):=by simp
 rcases codeP_01 p [a,m] with hc | hc
 ·obtain ⟨ip,X,M,rfl,rfl,hX,hM⟩:=two_good ha gl hm glm hc
  have e1:=c2 ip M hM rfl hc
  by_cases h:Monic M∧2≤M.len∧M.len≤12+1∧decide (p≠2)=true
  ·rw [qsD_ok hX h.1 h.2.1 h.2.2.1 (of_decide_eq_true h.2.2.2)]
   rw [monOk_zero h] at e1
   have e2:=hro p X hX
   have e3:=hro p M hM
   have e4:=hq p X M h.1.2 h.2.2.1 (by omega)
   refine ask_of hT rfl ?_
   generalize decide (p≠2)=r at *
   generalize quadI p (symb p X M)=S at *
   generalize pad (row X)=Px at *
   generalize row X=Rx at *
   generalize pad (row M)=Pm at *
   generalize row M=Rm at *
   simp -implicitDefEqProofs [Z9,Z9_B,dn_cond,hr,e1,e2,e3,e4,List.replicate]
  ·rw [qsD_not hM (fun g=>h ⟨g.1,g.2.1,g.2.2.1,decide_eq_true g.2.2.2⟩)]
   rw [monOk_two h] at e1
   refine ask_of hT rfl ?_
   generalize decide (p≠2)=r at *
   generalize pad (row X)=Px at *
   generalize pad (row M)=Pm at *
   simp -implicitDefEqProofs [Z9,Z9_B,dn_cond,hr,e1,List.replicate]
 ·rw [qsD_bad (by rw [hc]; omega)]
  have e1:=c1 hc
  refine ask_of hT rfl ?_
  generalize decide (p≠2)=r at *
  simp -implicitDefEqProofs [Z9,Z9_B,dn_cond,hr,e1,List.replicate]
theorem k_sQuadraticSymbol (hT:T F2n=some Z2n) (hpc:C_sCode (den T A)) (hod:K_sOdd (den T A)) (hq:K_sQuad (den T A)):K_QuadraticSymbol (den T A) F2n:=by
 intro p a m ha gl hm glm
 have e1:=hpc p [a] (fun x hx=>by simp at hx; subst hx; exact ⟨gl,ha⟩) (by simp)
 rw [show [a].map arr8=[(D.arr 64 .leaf (ints .u8 a))] from rfl] at e1
 obtain ⟨c1,c2⟩:=hod p m 12 hm glm (by omega)
 rw [show ((12:Nat):Int)=12 from rfl] at c1 c2
 rcases codeP_01 p [a] with ha0 | ha0
 ·rw [ha0] at e1
  rcases codeP_01 p [m] with hm0 | hm0
  ·have hc:codeP p [a,m]=0:=codeP_app ha0 hm0
   obtain ⟨ip,X,M,rfl,rfl,hX,hM⟩:=two_good ha gl hm glm hc
   have e2:=c2 ip M hM rfl
   by_cases h:Monic M∧2≤M.len∧M.len≤12+1∧decide (p≠2)=true
   ·rw [qsD_ok hX h.1 h.2.1 h.2.2.1 (of_decide_eq_true h.2.2.2)]
    rw [monOk_zero h] at e2
    have e4:=hq p X M h.1.2 h.2.2.1 hX
    refine ask_of hT rfl ?_
    generalize quadI p (symb p X M)=S at *
    generalize pad (row X)=Px at *
    generalize pad (row M)=Pm at *
    simp -implicitDefEqProofs [Z2n,Z2n_B,dn_cond,e1,e2,e4,List.replicate]
   ·rw [qsD_not hM (fun g=>h ⟨g.1,g.2.1,g.2.2.1,decide_eq_true g.2.2.2⟩)]
    rw [monOk_two h] at e2
    refine ask_of hT rfl ?_
    generalize pad (row X)=Px at *
    generalize pad (row M)=Pm at *
    simp -implicitDefEqProofs [Z2n,Z2n_B,dn_cond,e1,e2,List.replicate]
  ·rw [qsD_bad (fun h=>by have:=codeP_each h (l:=m) (by simp); rw [this] at hm0; omega)]
   have e2:=c1 hm0
   refine ask_of hT rfl ?_
   simp -implicitDefEqProofs [Z2n,Z2n_B,dn_cond,e1,e2,List.replicate]
 ·rw [ha0] at e1
  rw [qsD_bad (fun h=>by have:=codeP_each h (l:=a) (by simp); rw [this] at ha0; omega)]
  refine ask_of hT rfl ?_
  simp -implicitDefEqProofs [Z2n,Z2n_B,dn_cond,e1,List.replicate]
open Classical in
def K_IsIrreducible (O:Oracle):Prop:=∀(p:Int) [IsP p] (a:Fp p),1≤a.len→a.len≤13→ask O F8 [(D.int .i64 p),(D.arr 64 .leaf (ints .u8 (pad (row a))))]=some (.tup [(D.bool (decide (Monic a∧Irr a))),(D.int .i64 0)])
open Classical in
theorem k_IsIrreducible (hT:T F8=some Z8) (hdc:C_degreeCode (den T A) Fj) (hro:K_rowOf (den T A)) (hir:K_isIrr (den T A)):K_IsIrreducible (den T A):=by
 intro p ip a h1 h13
 have e1:=hdc p (pad (row a)) (-1) 12 (pad_bytes a) (pad_length _)
 rw [show dgC p (pad (row a)) (-1) 12=0 by
  unfold dgC
  rw [if_neg (by rw [codeP_one]; simp),polOf_pad (by omega),if_pos (by omega)]] at e1
 have e2:=hro p a (by omega)
 have e3:=hir p a h13
 refine ask_of hT rfl ?_
 generalize decide (Monic a∧Irr a)=b at *
 generalize pad (row a)=Pa at *
 generalize row a=Ra at *
 simp -implicitDefEqProofs [Z8,Z8_B,dn_cond,e1,e2,e3]
def C_isExponent (O:Oracle):Prop:=∀k:Int,ask O Fk [(D.int .i64 k)]=some (D.bool (decide (0≤k∧k≤40)))
theorem c_isExponent (hT:T Fk=some Zk) (hw:C_within (den T A)):C_isExponent (den T A):=by
 intro k
 have e:=hw k 0 40
 refine ask_of hT rfl ?_
 generalize decide (0≤k∧k≤40)=b at *
 simp -implicitDefEqProofs [Zk,Zk_B,e]
def SumDeg (p d:Int):Prop:=0≤d∧d≤8∧p^d.toNat≤343
instance (p d:Int):Decidable (SumDeg p d):=by unfold SumDeg; infer_instance
def C_isSumDegree (O:Oracle):Prop:=∀(p:Int) [IsP p] (d:Int),ask O F12 [(D.int .i64 p),(D.int .i64 d)]=some (D.bool (decide (SumDeg p d)))
theorem c_isSumDegree (hT:T F12=some Z12) (hw:C_within (den T A)) (hs:C_isSummed (den T A)):C_isSumDegree (den T A):=by
 intro p ip d
 have e1:=hw d 0 8
 refine ask_of hT rfl ?_
 by_cases h:0≤d∧d≤8
 ·rw [decide_eq_true h] at e1
  obtain ⟨n,rfl⟩:∃n:Nat,d=n:=⟨d.toNat,by omega⟩
  have e2:=hs p n (by omega)
  rw [show decide (SumDeg p (n:Int))=decide (p^n≤343) from decide_eq_decide.2 ⟨fun g=>g.2.2,fun g=>⟨h.1,h.2,g⟩⟩]
  generalize decide (p^n≤343)=b at *
  simp -implicitDefEqProofs [Z12,Z12_B,e1,e2]
 ·rw [decide_eq_false h] at e1
  rw [decide_eq_false (fun g:SumDeg p d=>h ⟨g.1,g.2.1⟩)]
  simp -implicitDefEqProofs [Z12,Z12_B,e1]
theorem pw_le {p:Int} [IsP p] (a:Fp p) {l:Nat} (h:a.len≤l+1):∀n,(pw a n).len≤n*l+1
 | 0=>by
  show (1:Fp p).len≤_
  rw [Pol.len_one]; omega
 | n+1=>by
  rw [pw]
  have ih:=pw_le a h n
  by_cases h0:pw a n=0
  ·rw [h0,Gq.zero_mul,Pol.len_zero]; omega
  ·by_cases h1:a=0
   ·rw [h1,Gq.mul_zero,Pol.len_zero]; omega
   ·have:=Pol.len_mul h0 h1
    rw [Nat.succ_mul]
    omega
def K_raised (O:Oracle):Prop:=∀(p:Int) [IsP p] (a:Fp p) (k:Nat),a.len≤65→k≤40→ask O F19 [(D.int .i64 p),(D.sl .leaf (ints .i64 (row a))),(D.int .i64 k)]=some (D.sl .leaf (ints .i64 (row (pw a k))))
theorem l_raised {O:Oracle} (ht:K_times O) {p:Int} [IsP p] {a:Fp p} (ha:a.len≤65) {k:Nat} (hk:k≤40):∀(r i:Nat),i+r=k →
 dn O 0 (.loop Z19_L0) ⟨[(0,(.d (.int .i64 p))),(1,(.d (.sl .leaf (ints .i64 (row a))))),(7,(.d (.sl .leaf (ints .i64 (row (pw a i)))))),(9,(.d (.int .i64 k))),(10,(.d (.int .i64 i)))],[.hole]⟩ =
  some (.exit 0,⟨[(0,(.d (.int .i64 p))),(1,(.d (.sl .leaf (ints .i64 (row a))))),(7,(.d (.sl .leaf (ints .i64 (row (pw a k)))))),(9,(.d (.int .i64 k))),(10,(.d (.int .i64 k))),(11,(.d (.bool false)))],[.hole]⟩)
 | 0,i,hi=>by
  obtain rfl:i=k:=by omega
  exact dn_stop (by simp -implicitDefEqProofs [Z19_L0,dn_cond])
 | r+1,i,hi=>by
  have hlt:i<k:=by omega
  have h1:=pw_le a (l:=64) ha i
  have e1:=ht p (pw a i) a (by omega) (by omega)
  have w4:IntKind.i64.wrap ((i:Int)+1)=((i+1:Nat):Int):=(w64 (x:=(i:Int)+1) (by omega)).trans (by omega)
  refine dn_round ?_ (l_raised ht ha hk r (i+1) (by omega))
  rw [show pw a (i+1)=pw a i*a from rfl]
  simp -implicitDefEqProofs [Z19_L0,dn_cond,hlt,e1,w4]
theorem k_raised (hT:T F19=some Z19) (ht:K_times (den T A)):K_raised (den T A):=by
 intro p ip a k ha hk
 have h1:row (1:Fp p)=[1]:=row_one
 cases k with
 | zero=>
  have st:∀c:Option Nat,dn (den T A) 0 (.loop Z19_L0) ⟨[(0,(.d (.int .i64 p))),(1,(.d (.sl .leaf (ints .i64 (row a))))),(7,.sl 0 [] 0 1 c),(9,(.d (.int .i64 0))),(10,(.d (.int .i64 0)))],[.sl false .leaf [(D.int .i64 1)]]⟩=some (.exit 0,⟨[(0,(.d (.int .i64 p))),(1,(.d (.sl .leaf (ints .i64 (row a))))),(7,.sl 0 [] 0 1 c),(9,(.d (.int .i64 0))),(10,(.d (.int .i64 0))),(11,(.d (.bool false)))],[.sl false .leaf [(D.int .i64 1)]]⟩):=fun c=>dn_stop (by simp -implicitDefEqProofs [Z19_L0,dn_cond])
  rw [show pw a 0=1 from rfl,h1,show ints .i64 [1]=[(D.int .i64 1)] from rfl]
  refine ask_of hT rfl ?_
  generalize row a=Ra at *
  simp -implicitDefEqProofs [Z19,Z19_B,st]
 | succ n=>
  have e1:=ht p 1 a (by rw [Pol.len_one]; omega) (by omega)
  rw [h1,Gq.one_mul] at e1
  have ih:=l_raised (O:=den T A) ht ha hk n 1 (by omega)
  rw [show pw a 1=a from pw_1 a,show ((1:Nat):Int)=1 from rfl] at ih
  have hlt:(0:Int)<((n+1:Nat):Int):=by omega
  have st:∀c:Option Nat,dn (den T A) 0 (.loop Z19_L0) ⟨[(0,(.d (.int .i64 p))),(1,(.d (.sl .leaf (ints .i64 (row a))))),(7,.sl 0 [] 0 1 c),(9,(.d (.int .i64 (((n+1:Nat):Int))))),(10,(.d (.int .i64 0)))],[.sl false .leaf [(D.int .i64 1)]]⟩=some (.exit 0,⟨[(0,(.d (.int .i64 p))),(1,(.d (.sl .leaf (ints .i64 (row a))))),(7,(.d (.sl .leaf (ints .i64 (row (pw a (n+1))))))),(9,(.d (.int .i64 (((n+1:Nat):Int))))),(10,(.d (.int .i64 (((n+1:Nat):Int))))),(11,(.d (.bool false)))],[.hole]⟩):=fun c=>by
   refine dn_round ?_ ih
   rw [show ints .i64 [1]=[(D.int .i64 1)] from rfl] at e1
   have w1:IntKind.i64.wrap 1=1:=w64 (by omega)
   generalize ((n+1:Nat):Int)=K at *
   simp -implicitDefEqProofs [Z19_L0,dn_cond,hlt,e1,w1]
  refine ask_of hT rfl ?_
  generalize ((n+1:Nat):Int)=K at *
  generalize row (pw a (n+1))=Rp at *
  simp -implicitDefEqProofs [Z19,Z19_B,st]
end Pe

namespace Pe
open Go Gq
variable {T:Nat→Option Fn} {A:Oracle}
noncomputable def syF (p:Int) [IsP p] (m:Fp p) (d:Nat) (k:Nat):Int:=symb p (numP p (p^d+k)) m
noncomputable def syS (p:Int) [IsP p] (m:Fp p) (d:Nat):Int:=sumZ (syF p m d) (p^d).toNat
def SsOk (p:Int) (l:List Int) (d:Int):Prop:=∃(_:IsP p) (M:Fp p),l=pad (row M)∧Monic M∧2≤M.len∧M.len≤6∧SumDeg p d
open Classical in
noncomputable def ssD (p:Int) (l:List Int) (d:Int):D:=
 if h:SsOk p l d then haveI:IsP p:=h.choose; .tup [(D.int .i64 (syS p (polOf p l) d.toNat%p)),(D.int .i64 0)] else .tup [(D.int .i64 0),(D.int .i64 (if codeP p [l]=0 then 2 else 1))]
theorem ssD_ok {p:Int} [ip:IsP p] {M:Fp p} {d:Nat} (hM:Monic M) (h2:2≤M.len) (h6:M.len≤6) (hd:SumDeg p d):ssD p (pad (row M)) d=.tup [(D.int .i64 (syS p M d%p)),(D.int .i64 0)]:=by
 unfold ssD
 rw [dif_pos ⟨ip,M,rfl,hM,h2,h6,hd⟩,polOf_pad (by omega),Int.toNat_natCast]
theorem ssD_bad {p:Int} {l:List Int} {d:Int} (h:¬ codeP p [l]=0):ssD p l d=.tup [(D.int .i64 0),(D.int .i64 1)]:=by
 unfold ssD
 rw [dif_neg,if_neg h]
 rintro ⟨ip,M,rfl,_⟩
 exact h (codeP_one M)
theorem ssD_not {p:Int} [IsP p] {M:Fp p} {d:Int} (hM:M.len≤64) (h:¬ (Monic M∧2≤M.len∧M.len≤6∧SumDeg p d)):ssD p (pad (row M)) d=.tup [(D.int .i64 0),(D.int .i64 2)]:=by
 unfold ssD
 rw [dif_neg,if_pos (codeP_one M)]
 rintro ⟨_,M',e,h1,h2,h3,h4⟩
 obtain rfl:=(pad_row_inj hM (by omega)).1 e
 exact h ⟨h1,h2,h3,h4⟩
def K_SymbolSum (O:Oracle) (F:Nat):Prop:=∀(p:Int) (l:List Int) (d:Int),Bytes l→l.length=64→ask O F [(D.int .i64 p),(D.arr 64 .leaf (ints .u8 l)),(D.int .i64 d)]=some (ssD p l d)
theorem syF_in {p:Int} [IsP p] (m:Fp p) (d k:Nat):-7≤syF p m d k∧syF p m d k≤7:=by
 have:=symb_in (p:=p) (numP p (p^d+k)) m
 have:=IsP.le (p:=p)
 unfold syF
 omega
theorem syF_pos {p:Int} [IsP p] (m:Fp p) (d:Nat):∀n,0≤sumZ (syF p m d) n
 | 0=>Int.le_refl _
 | n+1=>by
  have h1:=syF_pos m d n
  have h2:=(symb_in (p:=p) (numP p (p^d+n)) m).1
  show 0≤sumZ (syF p m d) n+symb p (numP p (p^d+n)) m
  omega
theorem l_symSum {O:Oracle} (hro:K_rowOf O) (hq:K_symbol O) {p:Int} [IsP p] {m:Fp p} {d:Nat} (hm:m≠0) (hml:m.len≤13) {many:Nat} (hmd:(many:Int)=p^d) (hmany:many≤2401):∀(k i:Nat),i+k=many →
 dn O 0 (.loop Zc_L0) ⟨[(0,(.d (.int .i64 p))),(4,.ptr 0 []),(9,(.d (.int .i64 (sumZ (syF p m d) i)))),(27,.d (.sl .leaf ((List.range many).map fun (k:Nat)=>(D.sl .leaf (ints .i64 (row (numP p ((many:Int)+k)))))))),(28,(.d (.int .i64 many))),(29,(.d (.int .i64 i)))],[.box false (D.arr 64 .leaf (ints .u8 (pad (row m))))]⟩ =
  some (.exit 0,⟨[(0,(.d (.int .i64 p))),(4,.ptr 0 []),(9,(.d (.int .i64 (sumZ (syF p m d) many)))),(27,.d (.sl .leaf ((List.range many).map fun (k:Nat)=>(D.sl .leaf (ints .i64 (row (numP p ((many:Int)+k)))))))),(28,(.d (.int .i64 many))),(29,(.d (.int .i64 many))),(30,(.d (.bool false)))],[.box false (D.arr 64 .leaf (ints .u8 (pad (row m))))]⟩)
 | 0,i,hi=>by
  obtain rfl:i=many:=by omega
  exact dn_stop (by simp -implicitDefEqProofs [Zc_L0,dn_cond])
 | k+1,i,hi=>by
  have hlt:i<many:=by omega
  have hlen:=numP_len (p:=p) ((many:Int)+i)
  have e1:=hq p (numP p ((many:Int)+i)) m hm hml (by omega)
  have e2:=hro p m (by omega)
  have hs:=sumZ_small (f:=syF p m d) (b:=7) (fun i=>syF_in m d i) i
  have hs1:=syF_in (p:=p) m d i
  have w1:IntKind.i64.wrap (sumZ (syF p m d) i+symb p (numP p ((many:Int)+i)) m)=sumZ (syF p m d) (i+1):=by
   rw [hmd]
   exact w64 (x:=sumZ (syF p m d) i+syF p m d i) (by omega)
  have w4:IntKind.i64.wrap ((i:Int)+1)=((i+1:Nat):Int):=(w64 (x:=(i:Int)+1) (by omega)).trans (by omega)
  have ih:=l_symSum (O:=O) hro hq hm hml hmd hmany k (i+1) (by omega)
  refine dn_round ?_ ih
  generalize pad (row m)=Pm at *
  generalize row m=Rm at *
  simp -implicitDefEqProofs [Zc_L0,dn_cond,hlt,e1,e2,w1,w4]
theorem k_SymbolSum (hT:T Fc=some Zc) (hip:C_isPrime (den T A)) (hsd:C_isSumDegree (den T A)) (hmc:H_monicCode (den T A)) (hmo:K_monics (den T A)) (hro:K_rowOf (den T A)) (hq:K_symbol (den T A)):K_SymbolSum (den T A) Fc:=by
 intro p l d hb hl
 have e0:=hip p
 rcases arg1 p hb hl with ⟨h1,h2⟩ | ⟨ip,M,hM,rfl⟩
 ·rw [ssD_bad (by rw [h1]; omega)]
  by_cases hp:isP p=true
  ·haveI:IsP p:=isP_of hp
   rw [hp] at e0
   have e1:=hsd p d
   have e2:=(hmc p l 5 (decide (SumDeg p d)) hb hl (by omega)).1 h1
   rw [show ((5:Nat):Int)=5 from rfl] at e2
   refine ask_of hT rfl ?_
   generalize decide (SumDeg p d)=b at *
   simp -implicitDefEqProofs [Zc,Zc_B,dn_cond,e0,e1,e2]
  ·rw [Bool.not_eq_true] at hp
   rw [hp] at e0
   have e2:=(hmc p l 5 false hb hl (by omega)).1 h1
   rw [show ((5:Nat):Int)=5 from rfl] at e2
   refine ask_of hT rfl ?_
   simp -implicitDefEqProofs [Zc,Zc_B,dn_cond,e0,e2]
 ·rw [isP_true] at e0
  have e1:=hsd p d
  have e2:=(hmc p (pad (row M)) 5 (decide (SumDeg p d)) hb hl (by omega)).2 ip M hM rfl
  rw [show ((5:Nat):Int)=5 from rfl] at e2
  by_cases h:Monic M∧2≤M.len∧M.len≤5+1∧decide (SumDeg p d)=true
  ·rw [monOk_zero h] at e2
   have hd:=of_decide_eq_true h.2.2.2
   obtain ⟨n,rfl⟩:∃n:Nat,d=n:=⟨d.toNat,by have:=hd.1; omega⟩
   rw [ssD_ok h.1 h.2.1 h.2.2.1 hd]
   obtain ⟨many,g1,g2,e3⟩:=hmo p n (by have:=hd.2.1; omega)
   have hp343:p^n≤343:=hd.2.2
   rw [normL_eq n 1 (by omega) (by omega),Int.one_mul] at g1
   have st:=l_symSum (O:=den T A) hro hq (d:=n) h.1.2 (by omega:M.len≤13) g1 g2 many 0 (Nat.zero_add _)
   have hss:sumZ (syF p M n) many=syS p M n:=by
    unfold syS
    rw [←g1]; rfl
   rw [hss,show sumZ (syF p M n) 0=0 from rfl,show ((0:Nat):Int)=0 from rfl] at st
   have hML:((List.range many).map fun (k:Nat)=>(D.sl .leaf (ints .i64 (row (numP p ((many:Int)+k)))))).length=many:=by simp
   have hpos:0≤syS p M n:=syF_pos M n _
   have hp0:p≠0:=by have:=IsP.ge (p:=p); omega
   rw [←Int.tmod_eq_emod_of_nonneg hpos]
   refine ask_of hT rfl ?_
   generalize decide (SumDeg p (n:Int))=b at *
   generalize (List.range many).map (fun (k:Nat)=>(D.sl .leaf (ints .i64 (row (numP p ((many:Int)+k))))))=ML at *
   generalize pad (row M)=Pm at *
   simp -implicitDefEqProofs [Zc,Zc_B,dn_cond,e0,e1,e2,e3,st,hML,hp0]
  ·rw [monOk_two h] at e2
   rw [ssD_not hM (fun g=>h ⟨g.1,g.2.1,g.2.2.1,decide_eq_true g.2.2.2⟩)]
   refine ask_of hT rfl ?_
   generalize decide (SumDeg p d)=b at *
   generalize pad (row M)=Pm at *
   simp -implicitDefEqProofs [Zc,Zc_B,dn_cond,e0,e1,e2]
noncomputable def pwC (p d:Int) (ks:List Int):Int:=if SumDeg p d∧∀k∈ks,0≤k∧k≤40 then 0 else 2
def C_l08Code (O:Oracle):Prop:=∀(p:Int) [IsP p] (d:Int) (ks:List Int),ks.length≤1→ask O F3m [(D.int .i64 p),(D.int .i64 d),(D.sl .leaf (ints .i64 ks))]=some (D.int .i64 (pwC p d ks))
theorem c_l08Code (hT:T F3m=some Z3m) (hp:C_sPrime (den T A)) (hin:C_sIn (den T A)) (hcn:K_sCount (den T A)):C_l08Code (den T A):=by
 intro p ip d ks hk
 have e1:=hp p
 rw [isP_true] at e1
 have e2:=hin d 0 8
 by_cases h:0≤d∧d≤8
 ·rw [decide_eq_true h] at e2
  obtain ⟨n,rfl⟩:∃n:Nat,d=n:=⟨d.toNat,by omega⟩
  have e3:=k_sCount' hcn p n (by omega)
  by_cases h2:p^n≤343
  ·have h2':¬ 343<p^n:=by omega
   have hs:SumDeg p n:=⟨h.1,h.2,h2⟩
   match ks,hk with
   | [],_=>
    have st:dn (den T A) 0 (.loop Z3m_L0) ⟨[(2,(.d (.sl .leaf (ints .i64 ([]))))),(7,(.d (.int .i64 0)))],[]⟩=some (.exit 1,⟨[(2,(.d (.sl .leaf (ints .i64 ([]))))),(7,(.d (.int .i64 0))),(25,(.d (.bool false)))],[]⟩):=dn_stop (by simp -implicitDefEqProofs [Z3m_L0,dn_cond])
    rw [show pwC p n []=0 from if_pos ⟨hs,fun k hk=>by cases hk⟩]
    refine ask_of hT rfl ?_
    generalize p^n=N at *
    simp -implicitDefEqProofs [Z3m,Z3m_B,dn_cond,e1,e2,e3,h2',st]
   | [k],_=>
    have e4:=hin k 0 40
    by_cases h4:0≤k∧k≤40
    ·rw [decide_eq_true h4] at e4
     have w1:IntKind.i64.wrap 1=1:=w64 (by omega)
     have st:dn (den T A) 0 (.loop Z3m_L0) ⟨[(2,(.d (.sl .leaf (ints .i64 ([k]))))),(7,(.d (.int .i64 0)))],[]⟩=some (.exit 1,⟨[(2,(.d (.sl .leaf (ints .i64 ([k]))))),(7,(.d (.int .i64 1))),(25,(.d (.bool false)))],[]⟩):=by
      refine dn_round (s1:=⟨[(2,(.d (.sl .leaf (ints .i64 ([k]))))),(7,(.d (.int .i64 1)))],[]⟩) ?_ (dn_stop ?_)
      ·simp -implicitDefEqProofs [Z3m_L0,dn_cond,e4,w1]
      ·simp -implicitDefEqProofs [Z3m_L0,dn_cond]
     rw [show pwC p n [k]=0 from if_pos ⟨hs,fun j hj=>by simp at hj; subst hj; exact h4⟩]
     refine ask_of hT rfl ?_
     generalize p^n=N at *
     simp -implicitDefEqProofs [Z3m,Z3m_B,dn_cond,e1,e2,e3,h2',st]
    ·rw [decide_eq_false h4] at e4
     have st:dn (den T A) 0 (.loop Z3m_L0) ⟨[(2,(.d (.sl .leaf (ints .i64 ([k]))))),(7,(.d (.int .i64 0)))],[]⟩=some (.ret,⟨[(6,(.d (.int .i64 2)))],[]⟩):=by
      refine dn_back ?_
      simp -implicitDefEqProofs [Z3m_L0,dn_cond,e4]
     rw [show pwC p n [k]=2 from if_neg fun g=>h4 (g.2 k (by simp))]
     refine ask_of hT rfl ?_
     generalize p^n=N at *
     simp -implicitDefEqProofs [Z3m,Z3m_B,dn_cond,e1,e2,e3,h2',st]
  ·have h2':343<p^n:=by omega
   rw [show pwC p n ks=2 from if_neg fun g=>h2 g.1.2.2]
   refine ask_of hT rfl ?_
   generalize p^n=N at *
   simp -implicitDefEqProofs [Z3m,Z3m_B,dn_cond,e1,e2,e3,h2']
 ·rw [decide_eq_false h] at e2
  rw [show pwC p d ks=2 from if_neg fun g=>h ⟨g.1.1,g.1.2.1⟩]
  refine ask_of hT rfl ?_
  simp -implicitDefEqProofs [Z3m,Z3m_B,dn_cond,e1,e2]
def mnOk (p:Int) (l:List Int) (d:Int) (ks:List Int):Prop:=∃(_:IsP p) (M:Fp p),l=pad (row M)∧Monic M∧2≤M.len∧M.len≤6∧SumDeg p d∧∀k∈ks,0≤k∧k≤40
open Classical in
noncomputable def mnC (p:Int) (l:List Int) (d:Int) (ks:List Int):Int:=if codeP p [l]≠0 then 1 else if mnOk p l d ks then 0 else 2
def C_l08Monic (O:Oracle):Prop:=∀(p:Int) (l:List Int) (d:Int) (ks:List Int),Bytes l→l.length=64→ks.length≤1→ask O F3o [(D.int .i64 p),(D.arr 64 .leaf (ints .u8 l)),(D.int .i64 d),(D.sl .leaf (ints .i64 ks))]=some (D.int .i64 (mnC p l d ks))
open Classical in
theorem c_l08Monic (hT:T F3o=some Z3o) (hpc:C_sCode (den T A)) (hmo:K_sMonic (den T A)) (hdg:K_sDeg (den T A)) (hin:C_sIn (den T A)) (hc8:C_l08Code (den T A)):C_l08Monic (den T A):=by
 intro p l d ks hb hl hk
 have e1:=hpc p [l] (fun x hx=>by simp at hx; subst hx; exact ⟨hl,hb⟩) (by simp)
 rw [show [l].map arr8=[(D.arr 64 .leaf (ints .u8 l))] from rfl] at e1
 rcases arg1 p hb hl with ⟨h1,h2⟩ | ⟨ip,M,hM,rfl⟩
 ·rw [h1] at e1
  rw [show mnC p l d ks=1 from if_pos (by rw [h1]; omega)]
  refine ask_of hT rfl ?_
  generalize ints .i64 ks=KS at *
  simp -implicitDefEqProofs [Z3o,Z3o_B,dn_cond,e1,List.replicate]
 ·rw [codeP_one] at e1
  have hmn:mnC p (pad (row M)) d ks=if mnOk p (pad (row M)) d ks then 0 else 2:=if_neg (by rw [codeP_one]; simp)
  have hiff:mnOk p (pad (row M)) d ks↔(Monic M∧2≤M.len∧M.len≤6)∧SumDeg p d∧∀k∈ks,0≤k∧k≤40:=by
   constructor
   ·rintro ⟨_,M',e,g1,g2,g3,g4,g5⟩
    obtain rfl:=(pad_row_inj hM (by omega)).1 e
    exact ⟨⟨g1,g2,g3⟩,g4,g5⟩
   ·rintro ⟨⟨g1,g2,g3⟩,g4,g5⟩
    exact ⟨ip,M,rfl,g1,g2,g3,g4,g5⟩
  rw [hmn]
  have e2:=hmo p M hM
  have e3:=hdg p M hM
  have e4:=hin ((M.len:Int)-1) 1 5
  have e5:=hc8 p d ks hk
  by_cases h1:Monic M
  ·rw [decide_eq_true h1] at e2
   by_cases h2:2≤M.len∧M.len≤6
   ·rw [decide_eq_true (by omega)] at e4
    have hp:pwC p d ks=if mnOk p (pad (row M)) d ks then 0 else 2:=by
     unfold pwC
     by_cases g:SumDeg p d∧∀k∈ks,0≤k∧k≤40
     ·rw [if_pos g,if_pos (hiff.2 ⟨⟨h1,h2⟩,g⟩)]
     ·rw [if_neg g,if_neg fun k=>g (hiff.1 k).2]
    rw [hp] at e5
    refine ask_of hT rfl ?_
    generalize (if mnOk p (pad (row M)) d ks then (0:Int) else 2)=c at *
    generalize (M.len:Int)-1=n at *
    generalize pad (row M)=Pm at *
    generalize ints .i64 ks=KS at *
    simp -implicitDefEqProofs [Z3o,Z3o_B,dn_cond,e1,e2,e3,e4,e5,List.replicate]
   ·rw [decide_eq_false (by omega)] at e4
    rw [if_neg fun k=>h2 (hiff.1 k).1.2]
    refine ask_of hT rfl ?_
    generalize (M.len:Int)-1=n at *
    generalize pad (row M)=Pm at *
    generalize ints .i64 ks=KS at *
    simp -implicitDefEqProofs [Z3o,Z3o_B,dn_cond,e1,e2,e3,e4,List.replicate]
  ·rw [decide_eq_false h1] at e2
   rw [if_neg fun k=>h1 (hiff.1 k).1.1]
   refine ask_of hT rfl ?_
   generalize pad (row M)=Pm at *
   generalize ints .i64 ks=KS at *
   simp -implicitDefEqProofs [Z3o,Z3o_B,dn_cond,e1,e2,List.replicate]
theorem l_sSymSum {O:Oracle} (hcn:K_sCount O) (hof:K_sOf O) (hq:K_sSymbol O) {p:Int} [IsP p] {m:Fp p} (hm:m≠0) (hml:m.len≤13) {d:Nat} (hd:p^d≤343) (hd12:d≤12):∀(k i:Nat),(i+k:Nat)=p^d →
 dn O 0 (.loop Z2q_L0) ⟨[(0,(.d (.int .i64 p))),(2,(.d (.int .i64 d))),(4,.ptr 0 []),(9,(.d (.int .i64 (sumZ (syF p m d) i%p)))),(10,(.d (.int .i64 (p^d+i))))],[.box false (D.arr 64 .leaf (ints .u8 (pad (row m))))]⟩ =
  some (.exit 0,⟨[(0,(.d (.int .i64 p))),(2,(.d (.int .i64 d))),(4,.ptr 0 []),(9,(.d (.int .i64 (sumZ (syF p m d) (i+k)%p)))),(10,(.d (.int .i64 (2*p^d)))),(26,(.d (.bool false)))],[.box false (D.arr 64 .leaf (ints .u8 (pad (row m))))]⟩)
 | k,i,hi=>by
  have hpos:=ppow_pos (p:=p) d
  have hp:=IsP.ge (p:=p)
  have hp7:=IsP.le (p:=p)
  have e1:=k_sCount' hcn p d hd12
  have w1:IntKind.i64.wrap (2*p^d)=2*p^d:=w64 (by omega)
  cases k with
  | zero=>
   have e2:p^d+(i:Int)=2*p^d:=by omega
   rw [e2,Nat.add_zero]
   refine dn_stop ?_
   generalize pad (row m)=PM at *
   simp -implicitDefEqProofs [Z2q_L0,dn_cond,e1,w1]
  | succ k=>
   have hlt:p^d+(i:Int)<2*p^d:=by omega
   have e2:=hof p (p^d+i) (by omega) (by omega)
   have e3:=hq p (numP p (p^d+i)) m hm hml (numP_len _)
   obtain ⟨s0,s1⟩:=symb_in (p:=p) (numP p (p^d+i)) m
   have m0:=Int.emod_nonneg (sumZ (syF p m d) i) (show p≠0 by omega)
   have m1:=Int.emod_lt_of_pos (sumZ (syF p m d) i) (show 0<p by omega)
   have hp0:p≠0:=by omega
   have w2:IntKind.i64.wrap (sumZ (syF p m d) i%p+symb p (numP p (p^d+i)) m)=sumZ (syF p m d) i%p+symb p (numP p (p^d+i)) m:=w64 (by omega)
   have w3:(sumZ (syF p m d) i%p+symb p (numP p (p^d+i)) m).tmod p=sumZ (syF p m d) (i+1)%p:=by
    rw [Int.tmod_eq_emod_of_nonneg (by omega)]
    show _=(sumZ (syF p m d) i+symb p (numP p (p^d+i)) m)%p
    exact Int.emod_add_emod _ _ _
   have w4:IntKind.i64.wrap (p^d+(i:Int)+1)=p^d+((i+1:Nat):Int):=(w64 (x:=p^d+(i:Int)+1) (by omega)).trans (by omega)
   have ih:=l_sSymSum (O:=O) hcn hof hq hm hml hd hd12 k (i+1) (by omega)
   rw [show i+(k+1)=i+1+k by omega]
   refine dn_round ?_ ih
   generalize sumZ (syF p m d) i%p=S at *
   generalize sumZ (syF p m d) (i+1)%p=S1 at *
   generalize symb p (numP p (p^d+i)) m=Q at *
   generalize pad (row (numP p (p^d+i)))=PN at *
   generalize pad (row m)=PM at *
   generalize p^d=N at *
   simp -implicitDefEqProofs [Z2q_L0,dn_cond,hlt,e1,e2,e3,w1,w2,w3,w4,hp0]
theorem k_sSymbolSum (hT:T F2q=some Z2q) (hmn:C_l08Monic (den T A)) (hcn:K_sCount (den T A)) (hof:K_sOf (den T A)) (hq:K_sSymbol (den T A)):K_SymbolSum (den T A) F2q:=by
 classical
 intro p l d hb hl
 have e1:=hmn p l d [] hb hl (by simp)
 rw [ints_nil] at e1
 rcases arg1 p hb hl with ⟨h1,h2⟩ | ⟨ip,M,hM,rfl⟩
 ·rw [ssD_bad (by rw [h1]; omega)]
  rw [show mnC p l d []=1 from if_pos (by rw [h1]; omega)] at e1
  refine ask_of hT rfl ?_
  simp -implicitDefEqProofs [Z2q,Z2q_B,dn_cond,e1]
 ·by_cases h:Monic M∧2≤M.len∧M.len≤6∧SumDeg p d
  ·rw [show mnC p (pad (row M)) d []=0 from (if_neg (by rw [codeP_one]; simp)).trans (if_pos ⟨ip,M,rfl,h.1,h.2.1,h.2.2.1,h.2.2.2,fun k hk=>by cases hk⟩)] at e1
   have hd:=h.2.2.2
   obtain ⟨n,rfl⟩:∃n:Nat,d=n:=⟨d.toNat,by have:=hd.1; omega⟩
   have hp343:p^n≤343:=hd.2.2
   have hn8:=hd.2.1
   have hpos:=ppow_pos (p:=p) n
   rw [ssD_ok h.1 h.2.1 h.2.2.1 hd]
   have e2:=k_sCount' hcn p n (by omega)
   have st:=l_sSymSum (O:=den T A) hcn hof hq h.1.2 (by omega:M.len≤13) (d:=n) hp343 (by omega) (p^n).toNat 0 (by omega)
   rw [show sumZ (syF p M n) (0+(p^n).toNat)=syS p M n by rw [Nat.zero_add]; rfl,show sumZ (syF p M n) 0%p=0 from Int.zero_emod p,show p^n+((0:Nat):Int)=p^n by omega] at st
   refine ask_of hT rfl ?_
   generalize syS p M n%p=S at *
   generalize pad (row M)=Pm at *
   generalize p^n=N at *
   simp -implicitDefEqProofs [Z2q,Z2q_B,dn_cond,e1,e2,st]
  ·rw [show mnC p (pad (row M)) d []=2 from (if_neg (by rw [codeP_one]; simp)).trans (if_neg fun g=>by
    obtain ⟨_,M',e,g1,g2,g3,g4,-⟩:=g
    obtain rfl:=(pad_row_inj hM (by omega)).1 e
    exact h ⟨g1,g2,g3,g4⟩)] at e1
   rw [ssD_not hM h]
   refine ask_of hT rfl ?_
   generalize pad (row M)=Pm at *
   simp -implicitDefEqProofs [Z2q,Z2q_B,dn_cond,e1]
end Pe

namespace Pe
open Go Gq
variable {T:Nat→Option Fn} {A:Oracle}
section
variable {p:Int}
end
end Pe

namespace Pe
open Go Gq
variable {T:Nat→Option Fn} {A:Oracle}
section
variable {p:Int} [ip:IsP p] {M N X Y:Fp p}
end
end Pe

namespace Pe
open Go Gq
variable {T:Nat→Option Fn} {A:Oracle}
theorem sub_one {p:Int} [IsP p] (a b:Fp p):a+Pol.C (zp p 1)*b=a+b:=by rw [zp_one,Pol.C_one,Gq.one_mul]
end Pe

namespace Pe
open Go Gq
variable {T:Nat→Option Fn} {A:Oracle}
noncomputable def shF {p:Int} [IsP p] (m:Fp p) (d k i:Nat):Fp p:=pw (numP p (p^d+i)*m+1) k
noncomputable def shS {p:Int} [IsP p] (m:Fp p) (d k:Nat):Fp p:=sumR (shF m d k) (p^d).toNat
def ShOk (p:Int) (l:List Int) (d k:Int):Prop:=∃(_:IsP p) (M:Fp p),l=pad (row M)∧Monic M∧2≤M.len∧M.len≤6∧SumDeg p d∧0≤k∧k≤40
open Classical in
noncomputable def shD (p:Int) (l:List Int) (d k:Int):D:=
 if h:ShOk p l d k then haveI:IsP p:=h.choose; if (d+((polOf p l).len-1))*k > 63 then .tup [(D.arr 64 .leaf (ints .u8 (pad []))),(D.int .i64 3)] else .tup [(D.arr 64 .leaf (ints .u8 (pad (row (shS (polOf p l) d.toNat k.toNat))))),(D.int .i64 0)] else .tup [(D.arr 64 .leaf (ints .u8 (pad []))),(D.int .i64 (if codeP p [l]=0 then 2 else 1))]
theorem shD_ok {p:Int} [ip:IsP p] {M:Fp p} {d k:Nat} (hM:Monic M) (h2:2≤M.len) (h6:M.len≤6) (hd:SumDeg p d) (hk:k≤40):shD p (pad (row M)) d k=if ((d:Int)+(M.len-1))*k > 63 then .tup [(D.arr 64 .leaf (ints .u8 (pad []))),(D.int .i64 3)] else .tup [(D.arr 64 .leaf (ints .u8 (pad (row (shS M d k))))),(D.int .i64 0)]:=by
 unfold shD
 rw [dif_pos ⟨ip,M,rfl,hM,h2,h6,hd,by omega,by omega⟩,polOf_pad (by omega),Int.toNat_natCast,Int.toNat_natCast]
theorem shD_bad {p:Int} {l:List Int} {d k:Int} (h:¬ codeP p [l]=0):shD p l d k=.tup [(D.arr 64 .leaf (ints .u8 (pad []))),(D.int .i64 1)]:=by
 unfold shD
 rw [dif_neg,if_neg h]
 rintro ⟨ip,M,rfl,_⟩
 exact h (codeP_one M)
theorem shD_not {p:Int} [IsP p] {M:Fp p} {d k:Int} (hM:M.len≤64) (h:¬ (Monic M∧2≤M.len∧M.len≤6∧SumDeg p d∧0≤k∧k≤40)):shD p (pad (row M)) d k=.tup [(D.arr 64 .leaf (ints .u8 (pad []))),(D.int .i64 2)]:=by
 unfold shD
 rw [dif_neg,if_pos (codeP_one M)]
 rintro ⟨_,M',e,h1,h2,h3,h4⟩
 obtain rfl:=(pad_row_inj hM (by omega)).1 e
 exact h ⟨h1,h2,h3,h4⟩
def K_ShiftedSum (O:Oracle) (F:Nat):Prop:=∀(p:Int) (l:List Int) (d k:Int),Bytes l→l.length=64→ask O F [(D.int .i64 p),(D.arr 64 .leaf (ints .u8 l)),(D.int .i64 d),(D.int .i64 k)]=some (shD p l d k)
section
variable {p:Int} [ip:IsP p]
theorem num_len {d i:Nat} (hd:d≤8) (hi:(i:Int)<p^d):(numP p (p^d+i)).len≤d+1:=by
 have h1:=ppow_le (p:=p) (n:=d) (by omega)
 have hpos:=ppow_pos (p:=p) d
 have hp:=IsP.ge (p:=p)
 refine Pol.len_le (numP_lt (p:=p) ⟨by omega,by omega⟩ ?_)
 rw [Int.pow_succ]
 have:p^d*2≤p^d*p:=Int.mul_le_mul_of_nonneg_left hp (by omega)
 omega
theorem sh_base {m:Fp p} {d i:Nat} (hd:d≤8) (h2:2≤m.len) (hi:(i:Int)<p^d):(numP p (p^d+i)*m).len≤d+(m.len-1)+1∧(numP p (p^d+i)*m+1).len≤d+(m.len-1)+1:=by
 have h1:=num_len (p:=p) hd hi
 have hm0:m≠0:=fun h=>by rw [h,Pol.len_zero] at h2; omega
 have e:(numP p (p^d+i)*m).len≤d+(m.len-1)+1:=by
  by_cases h0:numP p (p^d+i)=0
  ·rw [h0,Gq.zero_mul,Pol.len_zero]; omega
  ·have:=Pol.len_mul h0 hm0
   omega
 refine ⟨e,?_⟩
 exact Pol.len_add_le e (by rw [Pol.len_one]; omega)
theorem sh_len {m:Fp p} {d k i:Nat} (hd:d≤8) (h2:2≤m.len) (hi:(i:Int)<p^d) (hk:(d+(m.len-1))*k≤63):∀j,j≤k→(pw (numP p (p^d+i)*m+1) j).len≤64:=fun j hj=>by
 have h1:=pw_le _ (sh_base hd h2 hi).2 j
 have h3:j*(d+(m.len-1))≤k*(d+(m.len-1)):=Nat.mul_le_mul_right _ hj
 rw [Nat.mul_comm k] at h3
 omega
theorem sum_len {m:Fp p} {d k:Nat} (hd:d≤8) (h2:2≤m.len) (hk:(d+(m.len-1))*k≤63):∀n:Nat,(n:Int)≤p^d→(sumR (shF m d k) n).len≤64
 | 0,_=>by show (0:Fp p).len≤64; rw [Pol.len_zero]; omega
 | n+1,h=>Pol.len_add_le (sum_len hd h2 hk n (by omega)) (sh_len hd h2 (by omega) hk k (Nat.le_refl k))
end
theorem l_shift {O:Oracle} (ht:K_times O) (hc:K_combine O) (hr:K_raised O) {p:Int} [IsP p] {m:Fp p} {d k:Nat} (h2:2≤m.len) (h6:m.len≤6) (hd:d≤8) (hk40:k≤40) (hk:(d+(m.len-1))*k≤63) {many:Nat} (hmd:(many:Int)=p^d) (hmany:many≤2401) {z:List Int}:∀(r i:Nat),i+r=many →
 dn O 0 (.loop Za_L0) ⟨[(3,(.d (.int .i64 k))),(8,.ptr 1 []),(11,(.d (.int .i64 p))),(12,(.d (.sl .leaf (ints .i64 (row m))))),(13,(.d (.sl .leaf (ints .i64 (row (sumR (shF m d k) i)))))),(47,.d (.sl .leaf ((List.range many).map fun (k:Nat)=>(D.sl .leaf (ints .i64 (row (numP p ((many:Int)+k)))))))),(48,(.d (.int .i64 many))),(49,(.d (.int .i64 i)))],[.hole,.box false (D.arr 64 .leaf (ints .u8 z)),.hole]⟩ =
  some (.exit 0,⟨[(3,(.d (.int .i64 k))),(8,.ptr 1 []),(11,(.d (.int .i64 p))),(12,(.d (.sl .leaf (ints .i64 (row m))))),(13,(.d (.sl .leaf (ints .i64 (row (sumR (shF m d k) many)))))),(47,.d (.sl .leaf ((List.range many).map fun (k:Nat)=>(D.sl .leaf (ints .i64 (row (numP p ((many:Int)+k)))))))),(48,(.d (.int .i64 many))),(49,(.d (.int .i64 many))),(50,(.d (.bool false)))],[.hole,.box false (D.arr 64 .leaf (ints .u8 z)),.hole]⟩)
 | 0,i,hi=>by
  obtain rfl:i=many:=by omega
  exact dn_stop (by simp -implicitDefEqProofs [Za_L0,dn_cond])
 | r+1,i,hi=>by
  have hlt:i<many:=by omega
  have hltp:(i:Int)<p^d:=by omega
  obtain ⟨g1,g2⟩:=sh_base (p:=p) hd h2 hltp
  have g3:=sh_len (p:=p) hd h2 hltp hk k (Nat.le_refl k)
  have g4:=sum_len (p:=p) hd h2 hk i (by omega)
  have g5:=num_len (p:=p) hd hltp
  rw [←hmd] at g1 g2 g3 g5
  have e1:=ht p (numP p ((many:Int)+i)) m (by omega) (by omega)
  have e2:=hc p 1 (numP p ((many:Int)+i)*m) 1 (by omega) (by omega) (by omega) (by rw [Pol.len_one]; omega)
  rw [sub_one,row_one,show ints .i64 [1]=[(D.int .i64 1)] from rfl] at e2
  have e3:=hr p (numP p ((many:Int)+i)*m+1) k (by omega) hk40
  have e4:=hc p 1 (sumR (shF m d k) i) (pw (numP p ((many:Int)+i)*m+1) k) (by omega) (by omega) (by omega) (by omega)
  rw [sub_one,show sumR (shF m d k) i+pw (numP p ((many:Int)+i)*m+1) k=sumR (shF m d k) (i+1) by rw [hmd]; rfl] at e4
  have w4:IntKind.i64.wrap ((i:Int)+1)=((i+1:Nat):Int):=(w64 (x:=(i:Int)+1) (by omega)).trans (by omega)
  have ih:=l_shift (O:=O) ht hc hr h2 h6 hd hk40 hk hmd hmany (z:=z) r (i+1) (by omega)
  refine dn_round ?_ ih
  generalize row (pw (numP p ((many:Int)+i)*m+1) k)=R3 at *
  generalize row (numP p ((many:Int)+i)*m+1)=R2 at *
  generalize row (numP p ((many:Int)+i)*m)=R1 at *
  generalize row (sumR (shF m d k) i)=S0 at *
  generalize row (sumR (shF m d k) (i+1))=S1 at *
  generalize row m=Rm at *
  simp -implicitDefEqProofs [Za_L0,dn_cond,hlt,e1,e2,e3,e4,w4]
theorem k_ShiftedSum (hT:T Fa=some Za) (hex:C_isExponent (den T A)) (hip:C_isPrime (den T A)) (hsd:C_isSumDegree (den T A)) (hmc:H_monicCode (den T A)) (hmo:K_monics (den T A)) (hro:K_rowOf (den T A)) (hdg:C_degree (den T A)) (ht:K_times (den T A)) (hco:K_combine (den T A)) (hr:K_raised (den T A)) (hto:C_told (den T A)):K_ShiftedSum (den T A) Fa:=by
 intro p l d k hb hl
 have e0:=hex k
 have e00:=hip p
 have e5:((5:Nat):Int)=5:=rfl
 rcases arg1 p hb hl with ⟨h1,h2⟩ | ⟨ip,M,hM,rfl⟩
 ·rw [shD_bad (by rw [h1]; omega)]
  by_cases hp:isP p=true
  ·haveI:IsP p:=isP_of hp
   rw [hp] at e00
   have e1:=hsd p d
   by_cases hk:0≤k∧k≤40
   ·rw [decide_eq_true hk] at e0
    have e2:=(hmc p l 5 (decide (SumDeg p d)) hb hl (by omega)).1 h1
    rw [e5] at e2
    refine ask_of hT rfl ?_
    generalize decide (SumDeg p d)=b at *
    simp -implicitDefEqProofs [Za,Za_B,dn_cond,e0,e00,e1,e2,List.replicate]
   ·rw [decide_eq_false hk] at e0
    have e2:=(hmc p l 5 false hb hl (by omega)).1 h1
    rw [e5] at e2
    refine ask_of hT rfl ?_
    simp -implicitDefEqProofs [Za,Za_B,dn_cond,e0,e2,List.replicate]
  ·rw [Bool.not_eq_true] at hp
   rw [hp] at e00
   have e2:=(hmc p l 5 false hb hl (by omega)).1 h1
   rw [e5] at e2
   refine ask_of hT rfl ?_
   generalize decide (0≤k∧k≤40)=b at *
   cases b <;> simp -implicitDefEqProofs [Za,Za_B,dn_cond,e0,e00,e2,List.replicate]
 ·rw [isP_true] at e00
  have e1:=hsd p d
  by_cases hk:0≤k∧k≤40
  ·rw [decide_eq_true hk] at e0
   have e2:=(hmc p (pad (row M)) 5 (decide (SumDeg p d)) hb hl (by omega)).2 ip M hM rfl
   rw [e5] at e2
   by_cases h:Monic M∧2≤M.len∧M.len≤5+1∧decide (SumDeg p d)=true
   ·rw [monOk_zero h] at e2
    obtain ⟨hm1,hm2,hm6,hdd⟩:=h
    have hd:=of_decide_eq_true hdd
    obtain ⟨n,rfl⟩:∃n:Nat,d=n:=⟨d.toNat,by have:=hd.1; omega⟩
    obtain ⟨K,rfl⟩:∃n:Nat,k=n:=⟨k.toNat,by omega⟩
    have hn8:=hd.2.1
    have hK:K≤40:=by omega
    rw [shD_ok hm1 hm2 hm6 hd hK]
    have e3:=hro p M hM
    have e4:=hdg (row M) (by rw [row_length]; omega)
    rw [row_length] at e4
    have wa:IntKind.i64.wrap ((n:Int)+((M.len:Int)-1))=(n:Int)+((M.len:Int)-1):=w64 (by omega)
    have hmb:0≤((n:Int)+((M.len:Int)-1))*K∧((n:Int)+((M.len:Int)-1))*K≤13*40:=⟨Int.mul_nonneg (by omega) (by omega),Int.mul_le_mul (by omega) (by omega) (by omega) (by omega)⟩
    have wb:IntKind.i64.wrap (((n:Int)+((M.len:Int)-1))*K)=((n:Int)+((M.len:Int)-1))*K:=w64 (by omega)
    by_cases h63:((n:Int)+((M.len:Int)-1))*K > 63
    ·rw [if_pos h63]
     have h63':63<((n:Int)+((M.len:Int)-1))*K:=h63
     refine ask_of hT rfl ?_
     generalize decide (SumDeg p (n:Int))=b at *
     generalize pad (row M)=Pm at *
     generalize row M=Rm at *
     generalize (M.len:Int)-1=Lm at *
     simp -implicitDefEqProofs [Za,Za_B,dn_cond,e0,e00,e1,e2,e3,e4,wa,wb,h63',List.replicate]
    ·rw [if_neg h63]
     have h63':¬ 63<((n:Int)+((M.len:Int)-1))*K:=h63
     have hkN:(n+(M.len-1))*K≤63:=by
      have hcast:(((n+(M.len-1))*K:Nat):Int)=((n:Int)+((M.len:Int)-1))*K:=by
       rw [Int.natCast_mul,Int.natCast_add,Int.natCast_sub (by omega)]; rfl
      omega
     obtain ⟨many,g1,g2,e6⟩:=hmo p n (by omega)
     have hp343:p^n≤343:=hd.2.2
     rw [normL_eq n 1 (by omega) (by omega),Int.one_mul] at g1
     have st:=l_shift (O:=den T A) ht hco hr (m:=M) (d:=n) (k:=K) hm2 hm6 (by omega) hK hkN g1 g2 (z:=pad []) many 0 (Nat.zero_add _)
     have hss:sumR (shF M n K) many=shS M n K:=by
      unfold shS
      rw [←g1]; rfl
     have hsl:=sum_len (p:=p) (m:=M) (d:=n) (k:=K) (by omega) hm2 hkN many (by omega)
     rw [hss] at hsl st
     rw [show sumR (shF M n K) 0=0 from rfl,row_zero,ints_nil,show ((0:Nat):Int)=0 from rfl] at st
     have e7:=hto (row (shS M n K)) (row_bytes _) (by rw [row_length]; omega)
     unfold toldD at e7
     rw [if_pos (by rw [row_length]; omega)] at e7
     have hML:((List.range many).map fun (k:Nat)=>(D.sl .leaf (ints .i64 (row (numP p ((many:Int)+k)))))).length=many:=by simp
     refine ask_of hT rfl ?_
     generalize decide (SumDeg p (n:Int))=b at *
     generalize (List.range many).map (fun (k:Nat)=>(D.sl .leaf (ints .i64 (row (numP p ((many:Int)+k))))))=ML at *
     generalize pad (row (shS M n K))=Ps at *
     generalize row (shS M n K)=Rs at *
     generalize pad (row M)=Pm at *
     generalize row M=Rm at *
     generalize (M.len:Int)-1=Lm at *
     simp -implicitDefEqProofs [Za,Za_B,dn_cond,e0,e00,e1,e2,e3,e4,e6,e7,wa,wb,h63',st,hML,List.replicate]
   ·rw [monOk_two h] at e2
    rw [shD_not hM (fun g=>h ⟨g.1,g.2.1,g.2.2.1,decide_eq_true g.2.2.2.1⟩)]
    refine ask_of hT rfl ?_
    generalize decide (SumDeg p d)=b at *
    generalize pad (row M)=Pm at *
    simp -implicitDefEqProofs [Za,Za_B,dn_cond,e0,e00,e1,e2,List.replicate]
  ·rw [decide_eq_false hk] at e0
   have e2:=(hmc p (pad (row M)) 5 false hb hl (by omega)).2 ip M hM rfl
   rw [e5,monOk_two (fun g=>by cases g.2.2.2)] at e2
   rw [shD_not hM (fun g=>hk g.2.2.2.2)]
   refine ask_of hT rfl ?_
   generalize pad (row M)=Pm at *
   simp -implicitDefEqProofs [Za,Za_B,dn_cond,e0,e2,List.replicate]
end Pe

namespace Pe
open Go Gq
variable {T:Nat→Option Fn} {A:Oracle}
theorem l_s8Power {O:Oracle} (ht:K_sTimes O) {p:Int} [IsP p] {a:Fp p} (ha:a.len≤64) {z:List Int}:∀(r i:Nat),i+r≤1000→(∀j,j≤i+r→(pw a j).len≤64) →
 dn O 0 (.loop Z3q_L0) ⟨[(0,(.d (.int .i64 p))),(2,(.d (.int .i64 ((r:Int))))),(4,.ptr 0 []),(6,.ptr 1 []),(8,.ptr 2 [])],[.box false (D.arr 64 .leaf (ints .u8 (pad (row a)))),.box false (D.arr 64 .leaf (ints .u8 z)),.box false (D.arr 64 .leaf (ints .u8 (pad (row (pw a i))))),.hole]⟩ =
  some (.exit 0,⟨[(0,(.d (.int .i64 p))),(2,(.d (.int .i64 0))),(4,.ptr 0 []),(6,.ptr 1 []),(8,.ptr 2 []),(13,(.d (.bool false)))],[.box false (D.arr 64 .leaf (ints .u8 (pad (row a)))),.box false (D.arr 64 .leaf (ints .u8 z)),.box false (D.arr 64 .leaf (ints .u8 (pad (row (pw a (i+r)))))),.hole]⟩)
 | 0,i,hb,h=>by
  refine dn_stop ?_
  rw [show ((0:Nat):Int)=0 from rfl,Nat.add_zero]
  simp -implicitDefEqProofs [Z3q_L0,dn_cond]
 | r+1,i,hb,h=>by
  have h1:=h i (by omega)
  have h2:=h (i+1) (by omega)
  have e1:=ht p (pw a i) a h1 ha h2
  rw [show pw a i*a=pw a (i+1) from rfl] at e1
  have hpos:(0:Int)<((r+1:Nat):Int):=by omega
  have w1:IntKind.i64.wrap (((r+1:Nat):Int)-1)=(r:Int):=(w64 (by omega)).trans (by omega)
  have ih:=l_s8Power (O:=O) ht ha (z:=z) r (i+1) (by omega) (fun j hj=>h j (by omega))
  rw [show i+(r+1)=i+1+r by omega]
  refine dn_round ?_ ih
  generalize ((r+1:Nat):Int)=K at *
  generalize pad (row (pw a i))=P0 at *
  generalize pad (row (pw a (i+1)))=P1 at *
  generalize pad (row a)=Pa at *
  simp -implicitDefEqProofs [Z3q_L0,dn_cond,hpos,e1,w1]
def K_s8Power (O:Oracle):Prop:=∀(p:Int) [IsP p] (a:Fp p) (k:Nat),a.len≤64→k≤1000→(∀j,j≤k→(pw a j).len≤64)→ask O F3q [(D.int .i64 p),(D.arr 64 .leaf (ints .u8 (pad (row a)))),(D.int .i64 k)]=some (.tup [(D.arr 64 .leaf (ints .u8 (pad (row (pw a k))))),(D.bool true)])
theorem k_s8Power (hT:T F3q=some Z3q) (h1:K_sOne (den T A)) (ht:K_sTimes (den T A)):K_s8Power (den T A):=by
 intro p ip a k ha hk h
 have e1:=h1 p
 have st:=l_s8Power (O:=den T A) ht ha (z:=pad []) k 0 (by omega) (fun j hj=>h j (by omega))
 rw [show pw a 0=1 from rfl,Nat.zero_add] at st
 refine ask_of hT rfl ?_
 generalize pad (row (1:Fp p))=P1 at *
 generalize pad (row (pw a k))=Pk at *
 generalize pad (row a)=Pa at *
 simp -implicitDefEqProofs [Z3q,Z3q_B,e1,st,List.replicate]
theorem l_sShift {O:Oracle} (hcn:K_sCount O) (hof:K_sOf O) (hti:K_sTimes O) (h1:K_sOne O) (had:K_sAdd O) (hpw:K_s8Power O) {p:Int} [IsP p] {m:Fp p} {d k:Nat} (h2:2≤m.len) (h6:m.len≤6) (hd:p^d≤343) (hd8:d≤8) (hk40:k≤40) (hk:(d+(m.len-1))*k≤63) {z:List Int}:∀(r i:Nat),(i+r:Nat)=p^d →
 dn O 0 (.loop Z2o_L0) ⟨[(0,(.d (.int .i64 p))),(2,(.d (.int .i64 d))),(3,(.d (.int .i64 k))),(5,.ptr 0 []),(8,.ptr 1 []),(11,.ptr 3 []),(12,(.d (.int .i64 (p^d+i))))],[.box false (D.arr 64 .leaf (ints .u8 (pad (row m)))),.box false (D.arr 64 .leaf (ints .u8 z)),.hole,.box false (D.arr 64 .leaf (ints .u8 (pad (row (sumR (shF m d k) i))))),.hole,.hole]⟩ =
  some (.exit 0,⟨[(0,(.d (.int .i64 p))),(2,(.d (.int .i64 d))),(3,(.d (.int .i64 k))),(5,.ptr 0 []),(8,.ptr 1 []),(11,.ptr 3 []),(12,(.d (.int .i64 (2*p^d)))),(44,(.d (.bool false)))],[.box false (D.arr 64 .leaf (ints .u8 (pad (row m)))),.box false (D.arr 64 .leaf (ints .u8 z)),.hole,.box false (D.arr 64 .leaf (ints .u8 (pad (row (sumR (shF m d k) (i+r)))))),.hole,.hole]⟩)
 | r,i,hi=>by
  have hpos:=ppow_pos (p:=p) d
  have e1:=k_sCount' hcn p d (by omega)
  have w1:IntKind.i64.wrap (2*p^d)=2*p^d:=w64 (by omega)
  cases r with
  | zero=>
   have e2:p^d+(i:Int)=2*p^d:=by omega
   rw [e2,Nat.add_zero]
   refine dn_stop ?_
   generalize pad (row m)=PM at *
   generalize pad (row (sumR (shF m d k) i))=PS at *
   simp -implicitDefEqProofs [Z2o_L0,dn_cond,e1,w1]
  | succ r=>
   have hlt:p^d+(i:Int)<2*p^d:=by omega
   have hltp:(i:Int)<p^d:=by omega
   obtain ⟨g1,g2⟩:=sh_base (p:=p) hd8 h2 hltp
   have g3:=sh_len (p:=p) hd8 h2 hltp hk
   have g3k:=g3 k (Nat.le_refl k)
   have g4:=sum_len (p:=p) hd8 h2 hk i (by omega)
   have e2:=hof p (p^d+i) (by omega) (by omega)
   have e3:=hti p (numP p (p^d+i)) m (numP_len _) (by omega) (by omega)
   have e4:=h1 p
   have e5:=had p 1 (numP p (p^d+i)*m) 1 (by omega) (by omega) (by omega) (by rw [Pol.len_one]; omega)
   rw [sub_one] at e5
   have e6:=hpw p (numP p (p^d+i)*m+1) k (by omega) (by omega) g3
   have e7:=had p 1 (sumR (shF m d k) i) (pw (numP p (p^d+i)*m+1) k) (by omega) (by omega) g4 g3k
   rw [sub_one,show sumR (shF m d k) i+pw (numP p (p^d+i)*m+1) k=sumR (shF m d k) (i+1) from rfl] at e7
   have w4:IntKind.i64.wrap (p^d+(i:Int)+1)=p^d+((i+1:Nat):Int):=(w64 (x:=p^d+(i:Int)+1) (by omega)).trans (by omega)
   have ih:=l_sShift (O:=O) hcn hof hti h1 had hpw h2 h6 hd hd8 hk40 hk (z:=z) r (i+1) (by omega)
   rw [show i+(r+1)=i+1+r by omega]
   refine dn_round ?_ ih
   generalize pad (row (pw (numP p (p^d+i)*m+1) k))=P4 at *
   generalize pad (row (numP p (p^d+i)*m+1))=P3 at *
   generalize pad (row (numP p (p^d+i)*m))=P2 at *
   generalize pad (row (numP p (p^d+i)))=PN at *
   generalize pad (row (sumR (shF m d k) i))=S0 at *
   generalize pad (row (sumR (shF m d k) (i+1)))=S1 at *
   generalize pad (row (1:Fp p))=P1 at *
   generalize pad (row m)=PM at *
   generalize p^d=N at *
   simp -implicitDefEqProofs [Z2o_L0,dn_cond,hlt,e1,e2,e3,e4,e5,e6,e7,w1,w4,List.replicate]
theorem k_sShiftedSum (hT:T F2o=some Z2o) (hmn:C_l08Monic (den T A)) (hdg:K_sDeg (den T A)) (hcn:K_sCount (den T A)) (hof:K_sOf (den T A)) (hti:K_sTimes (den T A)) (h1:K_sOne (den T A)) (had:K_sAdd (den T A)) (hpw:K_s8Power (den T A)):K_ShiftedSum (den T A) F2o:=by
 classical
 intro p l d k hb hl
 have e1:=hmn p l d [k] hb hl (by simp)
 rw [show ints .i64 [k]=[(D.int .i64 k)] from rfl] at e1
 rcases arg1 p hb hl with ⟨g1,g2⟩ | ⟨ip,M,hM,rfl⟩
 ·rw [shD_bad (by rw [g1]; omega)]
  rw [show mnC p l d [k]=1 from if_pos (by rw [g1]; omega)] at e1
  refine ask_of hT rfl ?_
  simp -implicitDefEqProofs [Z2o,Z2o_B,dn_cond,e1,List.replicate]
 ·by_cases h:Monic M∧2≤M.len∧M.len≤6∧SumDeg p d∧0≤k∧k≤40
  ·rw [show mnC p (pad (row M)) d [k]=0 from (if_neg (by rw [codeP_one]; simp)).trans (if_pos ⟨ip,M,rfl,h.1,h.2.1,h.2.2.1,h.2.2.2.1,fun j hj=>by simp at hj; subst hj; exact h.2.2.2.2⟩)] at e1
   obtain ⟨hm1,hm2,hm6,hd,k0,k1⟩:=h
   obtain ⟨n,rfl⟩:∃n:Nat,d=n:=⟨d.toNat,by have:=hd.1; omega⟩
   obtain ⟨K,rfl⟩:∃n:Nat,k=n:=⟨k.toNat,by omega⟩
   have hn8:=hd.2.1
   have hp343:p^n≤343:=hd.2.2
   have hpos:=ppow_pos (p:=p) n
   have hK:K≤40:=by omega
   rw [shD_ok hm1 hm2 hm6 hd hK]
   have e4:=hdg p M hM
   have wa:IntKind.i64.wrap ((n:Int)+((M.len:Int)-1))=(n:Int)+((M.len:Int)-1):=w64 (by omega)
   have hmb:0≤((n:Int)+((M.len:Int)-1))*K∧((n:Int)+((M.len:Int)-1))*K≤13*40:=⟨Int.mul_nonneg (by omega) (by omega),Int.mul_le_mul (by omega) (by omega) (by omega) (by omega)⟩
   have wb:IntKind.i64.wrap (((n:Int)+((M.len:Int)-1))*K)=((n:Int)+((M.len:Int)-1))*K:=w64 (by omega)
   by_cases h63:((n:Int)+((M.len:Int)-1))*K > 63
   ·rw [if_pos h63]
    have h63':63<((n:Int)+((M.len:Int)-1))*K:=h63
    refine ask_of hT rfl ?_
    generalize pad (row M)=Pm at *
    generalize (M.len:Int)-1=Lm at *
    simp -implicitDefEqProofs [Z2o,Z2o_B,dn_cond,e1,e4,wa,wb,h63',List.replicate]
   ·rw [if_neg h63]
    have h63':¬ 63<((n:Int)+((M.len:Int)-1))*K:=h63
    have hkN:(n+(M.len-1))*K≤63:=by
     have hcast:(((n+(M.len-1))*K:Nat):Int)=((n:Int)+((M.len:Int)-1))*K:=by
      rw [Int.natCast_mul,Int.natCast_add,Int.natCast_sub (by omega)]; rfl
     omega
    have e2:=k_sCount' hcn p n (by omega)
    have st:=l_sShift (O:=den T A) hcn hof hti h1 had hpw (m:=M) (d:=n) (k:=K) hm2 hm6 hp343 (by omega) hK hkN (z:=pad []) (p^n).toNat 0 (by omega)
    rw [show sumR (shF M n K) (0+(p^n).toNat)=shS M n K by rw [Nat.zero_add]; rfl,show sumR (shF M n K) 0=0 from rfl,row_zero,show p^n+((0:Nat):Int)=p^n by omega] at st
    refine ask_of hT rfl ?_
    generalize pad (row (shS M n K))=Ps at *
    generalize pad (row M)=Pm at *
    generalize (M.len:Int)-1=Lm at *
    generalize p^n=N at *
    simp -implicitDefEqProofs [Z2o,Z2o_B,dn_cond,e1,e2,e4,wa,wb,h63',st,List.replicate]
  ·rw [show mnC p (pad (row M)) d [k]=2 from (if_neg (by rw [codeP_one]; simp)).trans (if_neg fun g=>by
    obtain ⟨_,M',e,g1,g2,g3,g4,g5⟩:=g
    obtain rfl:=(pad_row_inj hM (by omega)).1 e
    exact h ⟨g1,g2,g3,g4,g5 k (by simp)⟩)] at e1
   rw [shD_not hM h]
   refine ask_of hT rfl ?_
   generalize pad (row M)=Pm at *
   simp -implicitDefEqProofs [Z2o,Z2o_B,dn_cond,e1,List.replicate]
end Pe

namespace Pe
open Go Gq
variable {T:Nat→Option Fn} {A:Oracle}
def H_near (O:Oracle):Prop:=∀(b:Blk) (most:Int),Src b→0≤most→most≤1000000→∃(x:Int) (b':Blk),O F39 [.ptr 0 [],(.d (.int .i64 most))] [b]=some ((.d (.int .i64 x)),[b'],[])∧Src b'
theorem h_near (hT:T F39=some Z39) (hn:H_next (den T A) F3a) (hp:H_pick (den T A)):H_near (den T A):=by
 intro b most hs m0 m1
 obtain ⟨k,b1,e1,hs1,k0,k1⟩:=hn b 14 hs (by omega)
 have w1:IntKind.i64.wrap (most+1)=most+1:=w64 (by omega)
 by_cases c0:k=0
 ·obtain ⟨x,b2,e2,hs2,hx⟩:=hp b1 [-1,most+1,1099511627776,-4611686018427387904] 4 (some 4) hs1 rfl (by omega) (by omega)
  rw [show ints .i64 [-1,most+1,1099511627776,-4611686018427387904]=[.int .i64 (-1),.int .i64 (most+1),.int .i64 1099511627776,.int .i64 (-4611686018427387904)] from rfl] at e2
  refine ⟨x,b2,den_of hT rfl ?_,hs2⟩
  obtain ⟨_,_,_,rfl,_⟩:=hs
  obtain ⟨_,_,_,rfl,_⟩:=hs1
  obtain ⟨_,_,_,rfl,_⟩:=hs2
  simp -implicitDefEqProofs [Z39,Z39_B,dn_cond,e1,e2,c0,w1,List.replicate,List.idxOf,List.findIdx,List.findIdx.go]
 ·obtain ⟨x,b2,e2,hs2,-,-⟩:=hn b1 (most+1) hs1 (by omega)
  refine ⟨x,b2,den_of hT rfl ?_,hs2⟩
  obtain ⟨_,_,_,rfl,_⟩:=hs
  obtain ⟨_,_,_,rfl,_⟩:=hs1
  obtain ⟨_,_,_,rfl,_⟩:=hs2
  simp -implicitDefEqProofs [Z39,Z39_B,dn_cond,e1,e2,c0,w1,List.replicate,List.idxOf,List.findIdx,List.findIdx.go]
def H_l08Mod (O:Oracle):Prop:=∀(b:Blk) (most:Int),Src b→1≤most→most≤12→∃(p:Int) (m:List Int) (b':Blk),O F3n [.ptr 0 [],(.d (.int .i64 most))] [b]=some (.tup [(.d (.int .i64 p)),(.d (.arr 64 .leaf (ints .u8 m)))],[b'],[])∧Src b'∧0≤p∧p<256∧Arr m∧IsP p
theorem h_l08Mod (hT:T F3n=some Z3n) (hn:H_next (den T A) F3a) (hp:H_pick (den T A)) (hd:H_draw (den T A)) (hm:H_drawMod (den T A)):H_l08Mod (den T A):=by
 intro b most hs m0 m1
 obtain ⟨p,b1,e1,hs1,hx⟩:=hp b [3,3,5,7,2] 5 (some 5) hs rfl (by omega) (by omega)
 rw [show ints .i64 [3,3,5,7,2]=[.int .i64 3,.int .i64 3,.int .i64 5,.int .i64 7,.int .i64 2] from rfl] at e1
 haveI ip:IsP p:=⟨by simp at hx; omega⟩
 have hp2:=IsP.ge (p:=p)
 have hp7:=IsP.le (p:=p)
 obtain ⟨m,b2,e2,hs2,-,-,-⟩:=hm p b1 most hs1 m0 m1
 obtain ⟨k,b3,e3,hs3,-,-⟩:=hn b2 24 hs2 (by omega)
 by_cases c0:k=0
 ·obtain ⟨a,b4,e4,hs4,-⟩:=hd p b3 6 hs3 (by omega)
  rw [show ((6:Nat):Int)=6 from rfl] at e4
  refine ⟨p,pad (row a),b4,den_of hT rfl ?_,hs4,by omega,by omega,arr_row a,ip⟩
  obtain ⟨_,_,_,rfl,_⟩:=hs
  obtain ⟨_,_,_,rfl,_⟩:=hs1
  obtain ⟨_,_,_,rfl,_⟩:=hs2
  obtain ⟨_,_,_,rfl,_⟩:=hs3
  obtain ⟨_,_,_,rfl,_⟩:=hs4
  generalize pad (row a)=Pa at *
  generalize pad (row m)=Pm at *
  simp -implicitDefEqProofs [Z3n,Z3n_B,dn_cond,e1,e2,e3,e4,c0,List.replicate,List.idxOf,List.findIdx,List.findIdx.go]
 ·refine ⟨p,pad (row m),b3,den_of hT rfl ?_,hs3,by omega,by omega,arr_row m,ip⟩
  obtain ⟨_,_,_,rfl,_⟩:=hs
  obtain ⟨_,_,_,rfl,_⟩:=hs1
  obtain ⟨_,_,_,rfl,_⟩:=hs2
  obtain ⟨_,_,_,rfl,_⟩:=hs3
  generalize pad (row m)=Pm at *
  simp -implicitDefEqProofs [Z3n,Z3n_B,dn_cond,e1,e2,e3,c0,List.replicate,List.idxOf,List.findIdx,List.findIdx.go]
def H_DrawQuadraticSymbol (O:Oracle):Prop:=∀code:List Int,Bytes code→code.length≤4096→∃(p:Int) (a m:List Int),ask O F2j [.sl .leaf (ints .u8 code)]=some (.tup [(D.int .i64 p),(D.arr 64 .leaf (ints .u8 a)),(D.arr 64 .leaf (ints .u8 m))])∧Arr a∧Arr m
theorem h_DrawQuadraticSymbol (hT:T F2j=some Z2j) (hf:H_from (den T A)) (hm:H_l08Mod (den T A)) (hd:H_draw (den T A)) (hb:H_bad (den T A)):H_DrawQuadraticSymbol (den T A):=by
 intro code hbc hc
 obtain ⟨b,e1,hs⟩:=hf code hbc hc
 obtain ⟨p,m,b1,e2,hs1,p0,p1,am,ip⟩:=hm b 6 hs (by omega) (by omega)
 obtain ⟨a,b2,e3,hs2,-⟩:=hd p b1 5 hs1 (by omega)
 rw [show ((5:Nat):Int)=5 from rfl] at e3
 obtain ⟨hal,hab⟩:=arr_row a
 obtain ⟨l2,b3,e4,hs3,g1,g2⟩:=hb b2 p (pad (row a)) hs2 p0 p1 hal hab
 refine ⟨p,l2,m,ask_of hT rfl ?_,⟨g1,g2⟩,am⟩
 obtain ⟨_,_,_,rfl,_⟩:=hs
 obtain ⟨_,_,_,rfl,_⟩:=hs1
 obtain ⟨_,_,_,rfl,_⟩:=hs2
 obtain ⟨_,_,_,rfl,_⟩:=hs3
 generalize pad (row a)=Pa at *
 simp -implicitDefEqProofs [Z2j,Z2j_B,dn_cond,e1,e2,e3,e4,List.replicate,List.idxOf,List.findIdx,List.findIdx.go]
def H_DrawSymbolPolynomial (O:Oracle):Prop:=∀code:List Int,Bytes code→code.length≤4096→∃(p:Int) (m:List Int),ask O F2l [.sl .leaf (ints .u8 code)]=some (.tup [(D.int .i64 p),(D.arr 64 .leaf (ints .u8 m))])∧Arr m
theorem h_DrawSymbolPolynomial (hT:T F2l=some Z2l) (hf:H_from (den T A)) (hp:H_pick (den T A)) (hm:H_l08Mod (den T A)):H_DrawSymbolPolynomial (den T A):=by
 intro code hbc hc
 obtain ⟨b,e1,hs⟩:=hf code hbc hc
 obtain ⟨n,b1,e2,hs1,hx⟩:=hp b [1,2,3,3,4] 5 (some 5) hs rfl (by omega) (by omega)
 rw [show ints .i64 [1,2,3,3,4]=[.int .i64 1,.int .i64 2,.int .i64 3,.int .i64 3,.int .i64 4] from rfl] at e2
 obtain ⟨p,m,b2,e3,hs2,p0,p1,am,ip⟩:=hm b1 n hs1 (by simp at hx; omega) (by simp at hx; omega)
 refine ⟨p,m,ask_of hT rfl ?_,am⟩
 obtain ⟨_,_,_,rfl,_⟩:=hs
 obtain ⟨_,_,_,rfl,_⟩:=hs1
 obtain ⟨_,_,_,rfl,_⟩:=hs2
 simp -implicitDefEqProofs [Z2l,Z2l_B,dn_cond,e1,e2,e3,List.replicate,List.idxOf,List.findIdx,List.findIdx.go]
def H_DrawSymbolSum (O:Oracle):Prop:=∀code:List Int,Bytes code→code.length≤4096→∃(p:Int) (m:List Int) (d:Int),ask O F2m [.sl .leaf (ints .u8 code)]=some (.tup [(D.int .i64 p),(D.arr 64 .leaf (ints .u8 m)),(D.int .i64 d)])∧Arr m
theorem h_DrawSymbolSum (hT:T F2m=some Z2m) (hf:H_from (den T A)) (hp:H_pick (den T A)) (hm:H_l08Mod (den T A)) (hnr:H_near (den T A)):H_DrawSymbolSum (den T A):=by
 intro code hbc hc
 obtain ⟨b,e1,hs⟩:=hf code hbc hc
 obtain ⟨n,b1,e2,hs1,hx⟩:=hp b [1,2,3] 3 (some 3) hs rfl (by omega) (by omega)
 rw [show ints .i64 [1,2,3]=[.int .i64 1,.int .i64 2,.int .i64 3] from rfl] at e2
 obtain ⟨p,m,b2,e3,hs2,p0,p1,am,ip⟩:=hm b1 n hs1 (by simp at hx; omega) (by simp at hx; omega)
 obtain ⟨y,b3,e4,hs3⟩:=hnr b2 8 hs2 (by omega) (by omega)
 obtain ⟨d,b4,e5,hs4,-⟩:=hp b3 [0,1,2,3,y] 5 (some 5) hs3 rfl (by omega) (by omega)
 rw [show ints .i64 [0,1,2,3,y]=[.int .i64 0,.int .i64 1,.int .i64 2,.int .i64 3,.int .i64 y] from rfl] at e5
 refine ⟨p,m,d,ask_of hT rfl ?_,am⟩
 obtain ⟨_,_,_,rfl,_⟩:=hs
 obtain ⟨_,_,_,rfl,_⟩:=hs1
 obtain ⟨_,_,_,rfl,_⟩:=hs2
 obtain ⟨_,_,_,rfl,_⟩:=hs3
 obtain ⟨_,_,_,rfl,_⟩:=hs4
 simp -implicitDefEqProofs [Z2m,Z2m_B,dn_cond,e1,e2,e3,e4,e5,List.replicate,List.idxOf,List.findIdx,List.findIdx.go]
def H_DrawShiftedSum (O:Oracle):Prop:=∀code:List Int,Bytes code→code.length≤4096→∃(p:Int) (m:List Int) (d k:Int),ask O F2k [.sl .leaf (ints .u8 code)]=some (.tup [(D.int .i64 p),(D.arr 64 .leaf (ints .u8 m)),(D.int .i64 d),(D.int .i64 k)])∧Arr m
theorem h_DrawShiftedSum (hT:T F2k=some Z2k) (hf:H_from (den T A)) (hn:H_next (den T A) F3a) (hp:H_pick (den T A)) (hm:H_l08Mod (den T A)) (hnr:H_near (den T A)):H_DrawShiftedSum (den T A):=by
 intro code hbc hc
 obtain ⟨b,e1,hs⟩:=hf code hbc hc
 obtain ⟨p,m,b2,e3,hs2,p0,p1,am,ip⟩:=hm b 3 hs (by omega) (by omega)
 obtain ⟨d,b3,e4,hs3,-⟩:=hp b2 [0,1,2] 3 (some 3) hs2 rfl (by omega) (by omega)
 rw [show ints .i64 [0,1,2]=[.int .i64 0,.int .i64 1,.int .i64 2] from rfl] at e4
 obtain ⟨x,b4,e5,hs4,-,-⟩:=hn b3 5 hs3 (by omega)
 obtain ⟨y,b5,e6,hs5⟩:=hnr b4 40 hs4 (by omega) (by omega)
 obtain ⟨k,b6,e7,hs6,-⟩:=hp b5 [x,y] 2 (some 2) hs5 rfl (by omega) (by omega)
 rw [show ints .i64 [x,y]=[.int .i64 x,.int .i64 y] from rfl] at e7
 refine ⟨p,m,d,k,ask_of hT rfl ?_,am⟩
 obtain ⟨_,_,_,rfl,_⟩:=hs
 obtain ⟨_,_,_,rfl,_⟩:=hs2
 obtain ⟨_,_,_,rfl,_⟩:=hs3
 obtain ⟨_,_,_,rfl,_⟩:=hs4
 obtain ⟨_,_,_,rfl,_⟩:=hs5
 obtain ⟨_,_,_,rfl,_⟩:=hs6
 simp -implicitDefEqProofs [Z2k,Z2k_B,dn_cond,e1,e3,e4,e5,e6,e7,List.replicate,List.idxOf,List.findIdx,List.findIdx.go]
theorem l_like {O:Oracle} {l:List Int} (hl:l.length<1000000):∀(k i:Nat),i+k=l.length →
 dn O 0 (.loop Z1s_L0) ⟨[(0,(.d (.sl .leaf (ints .i64 l)))),(1,(.d (.sl .leaf (ints .i64 l)))),(5,(.d (.int .i64 i)))],[]⟩ =
  some (.exit 0,⟨[(0,(.d (.sl .leaf (ints .i64 l)))),(1,(.d (.sl .leaf (ints .i64 l)))),(5,(.d (.int .i64 l.length))),(14,(.d (.bool false)))],[]⟩)
 | 0,i,hi=>by
  obtain rfl:i=l.length:=by omega
  exact dn_stop (by simp -implicitDefEqProofs [Z1s_L0,dn_cond])
 | k+1,i,hi=>by
  have hlt:i<l.length:=by omega
  have w4:IntKind.i64.wrap ((i:Int)+1)=((i+1:Nat):Int):=(w64 (x:=(i:Int)+1) (by omega)).trans (by omega)
  refine dn_round ?_ (l_like hl k (i+1) (by omega))
  simp -implicitDefEqProofs [Z1s_L0,dn_cond,hlt,w4]
def C_likeInts (O:Oracle):Prop:=∀l:List Int,l.length<1000000→ask O F1s [(D.sl .leaf (ints .i64 l)),(D.sl .leaf (ints .i64 l))]=some (D.bool true)
theorem c_likeInts (hT:T F1s=some Z1s):C_likeInts (den T A):=by
 intro l hl
 have e:=l_like (O:=den T A) hl l.length 0 (Nat.zero_add _)
 rw [show ((0:Nat):Int)=0 from rfl] at e
 refine ask_of hT rfl ?_
 simp -implicitDefEqProofs [Z1s,Z1s_B,dn_cond,e]
theorem l_sum {O:Oracle} {l:List Int} (hl:l.length<1000000):∀(k i:Nat),i+k=l.length →
 dn O 0 (.loop Z1t_L0) ⟨[(0,(.d (.sl .leaf (ints .i64 l)))),(3,(.d (.int .i64 (sumW l i)))),(4,(.d (.int .i64 i)))],[]⟩ =
  some (.exit 0,⟨[(0,(.d (.sl .leaf (ints .i64 l)))),(3,(.d (.int .i64 (sumW l l.length)))),(4,(.d (.int .i64 l.length))),(8,(.d (.bool false)))],[]⟩)
 | 0,i,hi=>by
  obtain rfl:i=l.length:=by omega
  exact dn_stop (by simp -implicitDefEqProofs [Z1t_L0,dn_cond])
 | k+1,i,hi=>by
  have hlt:i<l.length:=by omega
  have hx:l[i]=cf l i:=(cf_lt hlt).symm
  have w4:IntKind.i64.wrap ((i:Int)+1)=((i+1:Nat):Int):=(w64 (x:=(i:Int)+1) (by omega)).trans (by omega)
  refine dn_round ?_ (l_sum hl k (i+1) (by omega))
  simp -implicitDefEqProofs [Z1t_L0,dn_cond,hlt,hx,w4,sumW]
def C_sumInts (O:Oracle):Prop:=∀l:List Int,l.length<1000000→ask O F1t [(D.sl .leaf (ints .i64 l))]=some (D.int .i64 (sumW l l.length))
theorem c_sumInts (hT:T F1t=some Z1t):C_sumInts (den T A):=by
 intro l hl
 have e:=l_sum (O:=den T A) hl l.length 0 (Nat.zero_add _)
 rw [show ((0:Nat):Int)=0 from rfl,show sumW l 0=0 from rfl] at e
 refine ask_of hT rfl ?_
 simp -implicitDefEqProofs [Z1t,Z1t_B,e]
end Pe

namespace Pe
open Go Gq
variable {T:Nat→Option Fn} {A:Oracle}
def cutC:Nat→Cd→Cd→Cd
 | 0,_,t=>t
 | n+1,.seq a b,t=>.seq a (cutC n b t)
 | _+1,c,_=>c
def dropC:Nat→Cd→Cd
 | 0,c=>c
 | n+1,.seq _ b=>dropC n b
 | _+1,c=>c
theorem cutC_0 (c t:Cd):cutC 0 c t=t:=rfl
theorem cutC_s (n:Nat) (a b t:Cd):cutC (n+1) (.seq a b) t=.seq a (cutC n b t):=rfl
theorem ss_top {O:Oracle} (t:Cd) {p q r d small four s e f five cls two sy one:Int} {a m n l kk sh ls code:List Int}
 (e0:ask O F1r [.sl .leaf (ints .u8 code)]=some (D.bool false))
 (d1:ask O F2j [.sl .leaf (ints .u8 code)]=some (.tup [(D.int .i64 p),(D.arr 64 .leaf (ints .u8 a)),(D.arr 64 .leaf (ints .u8 m))]))
 (s1:ask O F9 [(D.int .i64 p),(D.arr 64 .leaf (ints .u8 a)),(D.arr 64 .leaf (ints .u8 m))]=some (.tup [(D.int .i64 sy),(D.int .i64 one)]))
 (s2:ask O F2n [(D.int .i64 p),(D.arr 64 .leaf (ints .u8 a)),(D.arr 64 .leaf (ints .u8 m))]=some (.tup [(D.int .i64 sy),(D.int .i64 one)]))
 (d2:ask O F2l [.sl .leaf (ints .u8 code)]=some (.tup [(D.int .i64 q),(D.arr 64 .leaf (ints .u8 n))]))
 (p1:ask O Fb [(D.int .i64 q),(D.arr 64 .leaf (ints .u8 n))]=some (.tup [(D.sl .leaf (ints .i64 ls)),(D.int .i64 two)]))
 (p2:ask O F2p [(D.int .i64 q),(D.arr 64 .leaf (ints .u8 n))]=some (.tup [(D.sl .leaf (ints .i64 ls)),(D.int .i64 two)]))
 (lk:ask O F1s [(D.sl .leaf (ints .i64 ls)),(D.sl .leaf (ints .i64 ls))]=some (D.bool true))
 (c1:ask O F5 [(D.int .i64 q),(D.arr 64 .leaf (ints .u8 n))]=some (.tup [(D.int .i64 cls),(D.int .i64 two)]))
 (c2:ask O F2i [(D.int .i64 q),(D.arr 64 .leaf (ints .u8 n))]=some (.tup [(D.int .i64 cls),(D.int .i64 two)]))
 (d3:ask O F2m [.sl .leaf (ints .u8 code)]=some (.tup [(D.int .i64 r),(D.arr 64 .leaf (ints .u8 l)),(D.int .i64 d)]))
 (f1:ask O Fc [(D.int .i64 r),(D.arr 64 .leaf (ints .u8 l)),(D.int .i64 d)]=some (.tup [(D.int .i64 small),(D.int .i64 four)]))
 (f2:ask O F2q [(D.int .i64 r),(D.arr 64 .leaf (ints .u8 l)),(D.int .i64 d)]=some (.tup [(D.int .i64 small),(D.int .i64 four)]))
 (d4:ask O F2k [.sl .leaf (ints .u8 code)]=some (.tup [(D.int .i64 s),(D.arr 64 .leaf (ints .u8 kk)),(D.int .i64 e),(D.int .i64 f)]))
 (g1:ask O Fa [(D.int .i64 s),(D.arr 64 .leaf (ints .u8 kk)),(D.int .i64 e),(D.int .i64 f)]=some (.tup [(D.arr 64 .leaf (ints .u8 sh)),(D.int .i64 five)]))
 (g2:ask O F2o [(D.int .i64 s),(D.arr 64 .leaf (ints .u8 kk)),(D.int .i64 e),(D.int .i64 f)]=some (.tup [(D.arr 64 .leaf (ints .u8 sh)),(D.int .i64 five)]))
 (q1:D.beq (.arr 64 .leaf .int) (D.arr 64 .leaf (ints .u8 sh)) (D.arr 64 .leaf (ints .u8 sh))=some true) :
 dn O 0 (cutC 16 Z1q_B t) ⟨[(0,.d (.sl .leaf (ints .u8 code)))],[.hole,.hole,.hole,.hole,.hole,.hole,.hole,.hole]⟩ =
  dn O 0 t ⟨[(3,(.d (.int .i64 p))),(4,.ptr 0 []),(5,.ptr 1 []),(6,(.d (.int .i64 sy))),(7,(.d (.int .i64 one))),(12,(.d (.sl .leaf (ints .i64 ls)))),(13,(.d (.int .i64 two))),(16,(.d (.int .i64 cls))),(17,(.d (.int .i64 two))),(20,(.d (.int .i64 r))),(21,.ptr 3 []),(22,(.d (.int .i64 d))),(23,(.d (.int .i64 small))),(24,(.d (.int .i64 four))),(175,(.d (.bool false)))],[.box false (D.arr 64 .leaf (ints .u8 a)),.box false (D.arr 64 .leaf (ints .u8 m)),.hole,.box false (D.arr 64 .leaf (ints .u8 l)),.hole,.hole,.hole,.hole]⟩:=by
 simp -implicitDefEqProofs [Z1q_B,cutC_0,cutC_s,dn_cond,e0,d1,s1,s2,d2,p1,p2,lk,c1,c2,d3,f1,f2,d4,g1,g2,q1]
theorem ss_two {O:Oracle} (t:Cd) {p r d small four cls two sy one:Int} {a m l ls:List Int}
 (h:two≠0∨two=0∧0<ls.length∧ls[0]? = some 1∧ask O F1t [(D.sl .leaf (ints .i64 ls))]=some (D.int .i64 cls)) :
 dn O 0 (cutC 1 (dropC 16 Z1q_B) t) ⟨[(3,(.d (.int .i64 p))),(4,.ptr 0 []),(5,.ptr 1 []),(6,(.d (.int .i64 sy))),(7,(.d (.int .i64 one))),(12,(.d (.sl .leaf (ints .i64 ls)))),(13,(.d (.int .i64 two))),(16,(.d (.int .i64 cls))),(17,(.d (.int .i64 two))),(20,(.d (.int .i64 r))),(21,.ptr 3 []),(22,(.d (.int .i64 d))),(23,(.d (.int .i64 small))),(24,(.d (.int .i64 four))),(175,(.d (.bool false)))],[.box false (D.arr 64 .leaf (ints .u8 a)),.box false (D.arr 64 .leaf (ints .u8 m)),.hole,.box false (D.arr 64 .leaf (ints .u8 l)),.hole,.hole,.hole,.hole]⟩ =
  dn O 0 t ⟨[(3,(.d (.int .i64 p))),(4,.ptr 0 []),(5,.ptr 1 []),(6,(.d (.int .i64 sy))),(7,(.d (.int .i64 one))),(20,(.d (.int .i64 r))),(21,.ptr 3 []),(22,(.d (.int .i64 d))),(23,(.d (.int .i64 small))),(24,(.d (.int .i64 four))),(198,(.d (.bool false)))],[.box false (D.arr 64 .leaf (ints .u8 a)),.box false (D.arr 64 .leaf (ints .u8 m)),.hole,.box false (D.arr 64 .leaf (ints .u8 l)),.hole,.hole,.hole,.hole]⟩:=by
 rw [Z1q_B]
 rcases h with h | ⟨rfl,h1,h2,h3⟩
 ·simp -implicitDefEqProofs [dropC,cutC_0,cutC_s,dn_cond,h]
 ·have h1':ls.length≠0:=by omega
  obtain ⟨x,L,rfl⟩:∃x L,ls=x::L:=by
   cases ls with
   | nil=>simp at h1
   | cons x L=>exact ⟨x,L,rfl⟩
  obtain rfl:x=1:=by simpa using h2
  have e:ints .i64 (1::L)=(D.int .i64 1)::ints .i64 L:=rfl
  rw [e] at h3
  rw [e]
  have hl:(0:Int)<(L.length:Int)+1:=by omega
  have hl2:¬ (L.length:Int)+1=0:=by omega
  simp -implicitDefEqProofs [dropC,cutC_0,cutC_s,dn_cond,h3,hl2]
def ssE (p sy one:Int) (x:Env):Env:=(3,(.d (.int .i64 p)))::(4,.ptr 0 [])::(5,.ptr 1 [])::(6,(.d (.int .i64 sy)))::(7,(.d (.int .i64 one)))::x
theorem ss_four {O:Oracle} {p r d small four sy one dg:Int} {yes:Bool} {a m l:List Int}
 (h:four≠0∨four=0∧ask O F6 [(D.int .i64 r),(D.arr 64 .leaf (ints .u8 l))]=some (.tup [(D.int .i64 dg),(D.int .i64 0)])∧ask O F8 [(D.int .i64 r),(D.arr 64 .leaf (ints .u8 l))]=some (.tup [(D.bool yes),(D.int .i64 0)])∧(yes=true→2<r→dg≤d→small=0)) :
 ∃(x:Env) (b:Blk),∀t:Cd,dn O 0 (cutC 1 (dropC 17 Z1q_B) t) ⟨[(3,(.d (.int .i64 p))),(4,.ptr 0 []),(5,.ptr 1 []),(6,(.d (.int .i64 sy))),(7,(.d (.int .i64 one))),(20,(.d (.int .i64 r))),(21,.ptr 3 []),(22,(.d (.int .i64 d))),(23,(.d (.int .i64 small))),(24,(.d (.int .i64 four))),(198,(.d (.bool false)))],[.box false (D.arr 64 .leaf (ints .u8 a)),.box false (D.arr 64 .leaf (ints .u8 m)),.hole,.box false (D.arr 64 .leaf (ints .u8 l)),.hole,.hole,.hole,.hole]⟩ =
  dn O 0 t ⟨ssE p sy one x,[.box false (D.arr 64 .leaf (ints .u8 a)),.box false (D.arr 64 .leaf (ints .u8 m)),.hole,b,.hole,.hole,.hole,.hole]⟩:=by
 rw [Z1q_B]
 rcases h with h | ⟨rfl,h1,h2,h3⟩
 ·refine ⟨[(20,(.d (.int .i64 r))),(21,.ptr 3 []),(22,(.d (.int .i64 d))),(23,(.d (.int .i64 small))),(200,(.d (.bool false)))],.box false (D.arr 64 .leaf (ints .u8 l)),fun t=>?_⟩
  simp -implicitDefEqProofs [dropC,cutC_0,cutC_s,dn_cond,h,ssE]
 ·refine ⟨[(234,(.d (.bool false)))],.hole,fun t=>?_⟩
  cases yes with
  | false=>simp -implicitDefEqProofs [dropC,cutC_0,cutC_s,dn_cond,h1,h2,ssE]
  | true=>
   by_cases c1:2<r
   ·by_cases c2:dg≤d
    ·have h0:=h3 rfl c1 c2
     subst h0
     simp -implicitDefEqProofs [dropC,cutC_0,cutC_s,dn_cond,h1,h2,c1,c2,ssE]
    ·simp -implicitDefEqProofs [dropC,cutC_0,cutC_s,dn_cond,h1,h2,c1,c2,ssE]
   ·simp -implicitDefEqProofs [dropC,cutC_0,cutC_s,dn_cond,h1,h2,c1,ssE]
theorem ss_one {O:Oracle} {p sy one:Int} {a m gc:List Int} {x:Env} {b:Blk} {z:Bool}
 (h:(one≠0∧sy=0)∨(one=0∧(D.beq (.arr 64 .leaf .int) (D.arr 64 .leaf (ints .u8 a)) (D.arr 64 .leaf (ints .u8 (pad [])))=some true∧sy=0∨D.beq (.arr 64 .leaf .int) (D.arr 64 .leaf (ints .u8 a)) (D.arr 64 .leaf (ints .u8 (pad [])))=some false∧ask O F7 [(D.int .i64 p),(D.arr 64 .leaf (ints .u8 a)),(D.arr 64 .leaf (ints .u8 m))]=some (.tup [(D.arr 64 .leaf (ints .u8 gc)),(D.int .i64 0)])∧D.beq (.arr 64 .leaf .int) (D.arr 64 .leaf (ints .u8 gc)) (D.arr 64 .leaf (ints .u8 ((pad []).set 0 1)))=some z∧(sy=0↔z=false)∧-1≤sy∧sy≤1))) :
 ∃bs:List Blk,bs.length=8∧dn O 0 (dropC 18 Z1q_B) ⟨ssE p sy one x,[.box false (D.arr 64 .leaf (ints .u8 a)),.box false (D.arr 64 .leaf (ints .u8 m)),.hole,b,.hole,.hole,.hole,.hole]⟩=some (.ret,⟨[(2,(.d (.bool true)))],bs⟩):=by
 have q7:(pad [])[0]? = some 0:=rfl
 have hb:∀b:Bool,D.beq .bool (D.bool b) (D.bool b)=some true:=fun b=>by cases b <;> rfl
 have w1:IntKind.i64.wrap 1=1:=w64 (by omega)
 have w0:IntKind.i64.wrap 0=0:=w64 (by omega)
 rw [Z1q_B]
 refine ⟨[.hole,.hole,.hole,.hole,.hole,.hole,.hole,.hole],rfl,?_⟩
 rcases h with ⟨h,rfl⟩ | ⟨rfl,⟨h1,rfl⟩ | ⟨h1,h2,h3,h4,h5,h6⟩⟩
 ·simp -implicitDefEqProofs [dropC,dn_cond,h,ssE]
 ·simp -implicitDefEqProofs [dropC,dn_cond,h1,ssE]
 ·have hsy:sy=-1∨sy=0∨sy=1:=by omega
  cases z with
  | true=>
   have h0:sy≠0:=fun h=>by cases h4.1 h
   rcases hsy with rfl | rfl | rfl
   ·simp -implicitDefEqProofs [dropC,dn_cond,h1,h2,h3,hb,w1,q7,ssE]
   ·exact absurd rfl h0
   ·simp -implicitDefEqProofs [dropC,dn_cond,h1,h2,h3,hb,w1,q7,ssE]
  | false=>
   obtain rfl:=h4.2 rfl
   simp -implicitDefEqProofs [dropC,dn_cond,h1,h2,h3,hb,w0,q7,ssE]
end Pe

namespace Pe
open Go Gq
variable {T:Nat→Option Fn} {A:Oracle}
section
variable {p:Int} [IsP p]
end
section
variable {p:Int}
end
end Pe


namespace Pe
open Go Gq
variable {T:Nat→Option Fn} {A:Oracle}
end Pe

namespace Pe
open Go Gq
variable {T:Nat→Option Fn} {A:Oracle}
end Pe

namespace Pe
open Go Gq
variable {T:Nat→Option Fn} {A:Oracle}
section
variable {p:Int}
open Classical in
noncomputable def stl (S:List (Fp p)):Nat→Nat
 | 0=>0
 | n+1=>if S[n]? = some 0 then stl S n else n+1
noncomputable def trimS (S:List (Fp p)):List (Fp p):=S.take (stl S S.length)
theorem stl_le (S:List (Fp p)):∀n,stl S n≤n
 | 0=>Nat.le_refl 0
 | n+1=>by
  unfold stl
  split
  ·have:=stl_le S n; omega
  ·omega
theorem stl_zero (S:List (Fp p)):∀n j,stl S n≤j→j<n→S[j]? = some 0
 | 0,j,_,h=>by omega
 | n+1,j,h1,h2=>by
  unfold stl at h1
  split at h1
  ·rename_i h0
   by_cases hj:j=n
   ·rw [hj]; exact h0
   ·exact stl_zero S n j h1 (by omega)
  ·omega
end
section
variable {p:Int} [IsP p]
end
end Pe

namespace Pe
open Go Gq
variable {T:Nat→Option Fn} {A:Oracle}
end Pe

namespace Pe
open Go Gq
variable {T:Nat→Option Fn} {A:Oracle}
section
variable {p:Int}
noncomputable def addAt (Q:List (Fp p)) (n:Nat) (v:Fp p):List (Fp p):=Q.set n ((Q[n]?).getD 0+v)
theorem addAt_length (Q:List (Fp p)) (n:Nat) (v:Fp p):(addAt Q n v).length=Q.length:=by unfold addAt; rw [List.length_set]
end
section
variable {p:Int} [IsP p]
noncomputable def byIn (m x:Fp p) (i:Nat):Nat→List (Fp p)→List (Fp p)→List (Fp p)
 | _,[],Q=>Q
 | k,y::ys,Q=>byIn m x i (k+1) ys (addAt Q (i+k) (x*frIt m (i%(m.len-1)) y%m))
noncomputable def byOut (m:Fp p) (b:List (Fp p)):Nat→List (Fp p)→List (Fp p)→List (Fp p)
 | _,[],Q=>Q
 | i,x::xs,Q=>byOut m b (i+1) xs (byIn m x i 0 b Q)
theorem byIn_length (m x:Fp p) (i:Nat):∀(k:Nat) (b Q:List (Fp p)),(byIn m x i k b Q).length=Q.length
 | _,[],_=>rfl
 | k,y::ys,Q=>by
  show (byIn m x i (k+1) ys (addAt Q (i+k) _)).length=_
  rw [byIn_length,addAt_length]
theorem byOut_length (m:Fp p) (b:List (Fp p)):∀(i:Nat) (a Q:List (Fp p)),(byOut m b i a Q).length=Q.length
 | _,[],_=>rfl
 | i,x::xs,Q=>by
  show (byOut m b (i+1) xs (byIn m x i 0 b Q)).length=_
  rw [byOut_length,byIn_length]
end
end Pe

namespace Pe
open Go Gq
variable {T:Nat→Option Fn} {A:Oracle}
noncomputable def mulS {p:Int} [IsP p] (m:Fp p) (a b:List (Fp p)):List (Fp p):=byOut m b 0 a (List.replicate (a.length+b.length-1) 0)
end Pe

namespace Pe
open Go Gq
variable {T:Nat→Option Fn} {A:Oracle}
end Pe

namespace Pe
open Go Gq
variable {T:Nat→Option Fn} {A:Oracle}
section
variable {p:Int}
theorem addAt_get_ne {Q:List (Fp p)} {n j:Nat} {v:Fp p} (h:n≠j):(addAt Q n v)[j]? = Q[j]?:=by
 unfold addAt; rw [List.getElem?_set_ne h]
end
section
variable {p:Int} [IsP p]
theorem byIn_get_ge {m x:Fp p} {i n:Nat}:∀(k:Nat) (b Q:List (Fp p)),i+k+b.length≤n→(byIn m x i k b Q)[n]? = Q[n]?
 | _,[],_,_=>rfl
 | k,y::ys,Q,h=>by
  rw [List.length_cons] at h
  show (byIn m x i (k+1) ys (addAt Q (i+k) _))[n]? = _
  rw [byIn_get_ge (k+1) ys _ (by omega),addAt_get_ne (by omega)]
theorem byOut_get_ge {m:Fp p} {b:List (Fp p)} {n:Nat}:∀(i:Nat) (a Q:List (Fp p)),i+a.length+b.length≤n+1→(byOut m b i a Q)[n]? = Q[n]?
 | _,[],_,_=>rfl
 | i,x::xs,Q,h=>by
  rw [List.length_cons] at h
  show (byOut m b (i+1) xs (byIn m x i 0 b Q))[n]? = _
  rw [byOut_get_ge (i+1) xs _ (by omega),byIn_get_ge 0 b Q (by omega)]
theorem byIn_snoc {m x y:Fp p} {i:Nat}:∀(k:Nat) (b Q:List (Fp p)),byIn m x i k (b++[y]) Q=addAt (byIn m x i k b Q) (i+(k+b.length)) (x*frIt m (i%(m.len-1)) y%m)
 | _,[],_=>rfl
 | k,z::zs,Q=>by
  show byIn m x i (k+1) (zs++[y]) (addAt Q (i+k) _)=addAt (byIn m x i (k+1) zs (addAt Q (i+k) _)) _ _
  rw [byIn_snoc (k+1) zs,List.length_cons,show i+(k+1+zs.length)=i+(k+(zs.length+1)) by omega]
theorem byOut_snoc {m x:Fp p} {b:List (Fp p)}:∀(i:Nat) (a Q:List (Fp p)),byOut m b i (a++[x]) Q=byIn m x (i+a.length) 0 b (byOut m b i a Q)
 | _,[],_=>rfl
 | i,z::zs,Q=>by
  show byOut m b (i+1) (zs++[x]) (byIn m z i 0 b Q)=byIn m x _ 0 b (byOut m b (i+1) zs (byIn m z i 0 b Q))
  rw [byOut_snoc (i+1) zs,List.length_cons,show i+1+zs.length=i+(zs.length+1) by omega]
theorem mul_mod_ne {m x y:Fp p} (hi:Irr m) (hx:x≠0) (hxl:x.len<m.len) (hy:y≠0) (hyl:y.len<m.len):x*y%m≠0:=fun h=>by
 rcases hi.prime ((dv_iff_mod hi.ne).2 h) with h | h
 ·have:=Dv.len h hx; omega
 ·have:=Dv.len h hy; omega
theorem frIt_ne {m:Fp p} (hm:Fld m):∀(k:Nat) (y:Fp p),y≠0→y.len<m.len→frIt m k y≠0
 | 0,_,h,_=>h
 | k+1,y,h,hl=>by
  obtain ⟨h1,h2⟩:=pw_res hm h hl p.toNat
  exact frIt_ne hm k _ h1 h2
end
section
variable {p:Int}
theorem stl_last {S:List (Fp p)}:∀(n k:Nat),stl S n=k+1→S[k]? ≠ some 0
 | 0,k,h=>by cases h
 | n+1,k,h=>by
  unfold stl at h
  split at h
  ·exact stl_last n k h
  ·rename_i h0
   obtain rfl:n=k:=by omega
   exact h0
theorem stl_top {S:List (Fp p)} {n:Nat} (h:S[n]? ≠ some 0):stl S (n+1)=n+1:=by
 unfold stl; rw [if_neg h]
theorem trimS_form {S:List (Fp p)} (h:(trimS S).length≠0):∃a x,trimS S=a++[x]∧x≠0:=by
 have hle:=stl_le S S.length
 have hl:(trimS S).length=stl S S.length:=by unfold trimS; rw [List.length_take]; omega
 obtain ⟨k,hk⟩:∃k,stl S S.length=k+1:=⟨stl S S.length-1,by omega⟩
 have h1:=stl_last _ _ hk
 have hlt:k<S.length:=by omega
 rw [List.getElem?_eq_getElem hlt] at h1
 refine ⟨S.take k,S[k],?_,fun h=>h1 (by rw [h])⟩
 unfold trimS
 rw [hk,List.take_succ_eq_append_getElem hlt]
theorem trimS_top {S:List (Fp p)} {n:Nat} (hl:S.length=n+1) (h:S[n]? ≠ some 0):trimS S=S:=by
 unfold trimS
 rw [hl,stl_top h,←hl,List.take_length]
end
section
variable {p:Int} [IsP p]
theorem mulS_top {m x y:Fp p} (hm:Fld m) {a b:List (Fp p)} (hx:x≠0) (hxl:x.len<m.len) (hy:y≠0) (hyl:y.len<m.len):trimS (mulS m (a++[x]) (b++[y]))=mulS m (a++[x]) (b++[y]):=by
 have hl:(mulS m (a++[x]) (b++[y])).length=a.length+b.length+1:=by
  unfold mulS
  rw [byOut_length,List.length_replicate,List.length_append,List.length_append]
  simp only [List.length_cons,List.length_nil]; omega
 refine trimS_top hl ?_
 have hfy:frIt m (a.length%(m.len-1)) y≠0:=frIt_ne hm _ y hy hyl
 have hfl:=frIt_len hm.mon.2 (a.length%(m.len-1)) y hyl
 have hne:=mul_mod_ne hm.irr hx hxl hfy hfl
 unfold mulS
 rw [byOut_snoc,byIn_snoc]
 unfold addAt
 rw [byIn_get_ge _ _ _ (by omega),byOut_get_ge _ _ _ (by rw [List.length_append,List.length_cons,List.length_nil]; omega)]
 have hN:0+a.length+(0+b.length)=a.length+b.length:=by omega
 rw [hN,List.getElem?_set_self (by rw [byIn_length,byOut_length,List.length_replicate,List.length_append,List.length_append]; simp only [List.length_cons,List.length_nil]; omega)]
 rw [List.getElem?_replicate,if_pos (by rw [List.length_append,List.length_append]; simp only [List.length_cons,List.length_nil]; omega)]
 show some ((0:Fp p)+_)≠some 0
 rw [Gq.zero_add,show 0+a.length=a.length by omega]
 exact fun h=>hne (Option.some.inj h)
noncomputable def prodS (m:Fp p) (a b:List (Fp p)):List (Fp p):=if a.length=0∨b.length=0 then [] else trimS (mulS m a b)
end
end Pe

namespace Pe
open Go Gq
variable {T:Nat→Option Fn} {A:Oracle}
section
variable {p:Int} [IsP p]
theorem addAt_lens {N n:Nat} {Q:List (Fp p)} {v:Fp p} (hQ:∀c∈Q,c.len≤N) (hv:v.len≤N):∀c∈addAt Q n v,c.len≤N:=fun c hc=>by
 unfold addAt at hc
 rcases List.mem_or_eq_of_mem_set hc with h | rfl
 ·exact hQ c h
 ·refine Pol.len_add_le ?_ hv
  cases he:Q[n]? with
  | none=>show (0:Fp p).len≤N; rw [Pol.len_zero]; omega
  | some w=>exact hQ w (List.mem_of_getElem? he)
end
end Pe

namespace Pe
open Go Gq
section
variable {p:Int}
noncomputable def cS (A:List (Fp p)) (i:Nat):Fp p:=(A[i]?).getD 0
theorem cS_ge {A:List (Fp p)} {i:Nat} (h:A.length≤i):cS A i=0:=by unfold cS; rw [List.getElem?_eq_none h]; rfl
theorem cS_lt {A:List (Fp p)} {i:Nat} (h:i<A.length):A[i]=cS A i:=by unfold cS; rw [List.getElem?_eq_getElem h]; rfl
def IsTrim (A:List (Fp p)):Prop:=∀n,A.length=n+1→cS A n≠0
theorem cS_trim (S:List (Fp p)) (i:Nat):cS (trimS S) i=cS S i:=by
 unfold cS trimS
 have hle:=stl_le S S.length
 by_cases h:i<stl S S.length
 ·rw [List.getElem?_take,if_pos h]
 ·rw [List.getElem?_take,if_neg h]
  by_cases h2:i<S.length
  ·rw [stl_zero S S.length i (by omega) h2]; rfl
  ·rw [List.getElem?_eq_none (by omega)]
theorem isTrim_trim (S:List (Fp p)):IsTrim (trimS S):=fun n hn=>by
 obtain ⟨a,x,e,hx⟩:=trimS_form (S:=S) (by omega)
 rw [e] at hn ⊢
 rw [List.length_append,List.length_singleton] at hn
 unfold cS
 rw [List.getElem?_append_right (by omega),show n-a.length=0 by omega]
 exact hx
theorem trim_len_le {X:List (Fp p)} {n:Nat} (h:∀i,n≤i→cS X i=0):(trimS X).length≤n:=by
 rcases Nat.lt_or_ge n (trimS X).length with g | g
 ·have:=isTrim_trim X ((trimS X).length-1) (by omega)
  rw [cS_trim] at this
  exact absurd (h _ (by omega)) this
 ·exact g
theorem isTrim_nil:IsTrim ([]:List (Fp p)):=fun n h=>by cases h
theorem cS_mem {A:List (Fp p)} {N:Nat} (h:∀i,(cS A i).len≤N):∀c∈A,c.len≤N:=fun c hc=>by
 obtain ⟨i,hi,rfl⟩:=List.getElem_of_mem hc
 rw [cS_lt hi]; exact h i
theorem mem_cS {A:List (Fp p)} {N:Nat} (h:∀c∈A,c.len≤N) (i:Nat):(cS A i).len≤N:=by
 by_cases hi:i<A.length
 ·rw [←cS_lt hi]; exact h _ (List.getElem_mem hi)
 ·rw [cS_ge (by omega),Pol.len_zero]; omega
theorem cS_map {n:Nat} {f:Nat→Fp p} (i:Nat):cS ((List.range n).map f) i=if i<n then f i else 0:=by
 unfold cS
 rw [List.getElem?_map]
 by_cases h:i<n
 ·rw [List.getElem?_range h,if_pos h]; rfl
 ·rw [List.getElem?_eq_none (by simpa using h),if_neg h]; rfl
noncomputable def plusS (k:Int) (A B:List (Fp p)):List (Fp p):=trimS ((List.range (max A.length B.length)).map fun i=>cS A i+Pol.C (zp p k)*cS B i)
theorem cS_plus (k:Int) (A B:List (Fp p)) (i:Nat):cS (plusS k A B) i=cS A i+Pol.C (zp p k)*cS B i:=by
 unfold plusS
 rw [cS_trim,cS_map]
 split
 ·rfl
 ·rw [cS_ge (A:=A) (by omega),cS_ge (A:=B) (by omega),Gq.mul_zero,Gq.add_zero]
theorem isTrim_plus (k:Int) (A B:List (Fp p)):IsTrim (plusS k A B):=isTrim_trim _
theorem plus_len (k:Int) (A B:List (Fp p)):(plusS k A B).length≤max A.length B.length:=trim_len_le fun i hi=>by
 rw [cS_map,if_neg (by omega)]
noncomputable def termS (c:Fp p) (k:Nat):List (Fp p):=List.replicate k 0++[c]
theorem termS_length (c:Fp p) (k:Nat):(termS c k).length=k+1:=by unfold termS; rw [List.length_append,List.length_replicate]; rfl
theorem cS_term (c:Fp p) (k i:Nat):cS (termS c k) i=if i=k then c else 0:=by
 unfold cS termS
 rcases Nat.lt_trichotomy i k with h | h | h
 ·rw [List.getElem?_append_left (by rw [List.length_replicate]; exact h),List.getElem?_replicate,if_pos h,if_neg (by omega)]; rfl
 ·rw [List.getElem?_append_right (by rw [List.length_replicate]; omega),List.length_replicate,h,Nat.sub_self,if_pos rfl]; rfl
 ·rw [List.getElem?_eq_none (by rw [List.length_append,List.length_replicate,List.length_singleton]; omega),if_neg (by omega)]; rfl
theorem isTrim_term {c:Fp p} (h:c≠0) (k:Nat):IsTrim (termS c k):=fun n hn=>by
 rw [termS_length] at hn
 rw [cS_term,if_pos (by omega)]; exact h
theorem trimS_len_le (S:List (Fp p)):(trimS S).length≤S.length:=by
 unfold trimS; rw [List.length_take]; omega
theorem snoc_of {B:List (Fp p)} (h:1≤B.length):∃b,B=b++[cS B (B.length-1)]∧b.length=B.length-1:=by
 have hlt:B.length-1<B.length:=by omega
 refine ⟨B.take (B.length-1),?_,by rw [List.length_take]; omega⟩
 rw [←cS_lt hlt,←List.take_succ_eq_append_getElem hlt,show B.length-1+1=B.length by omega,List.take_length]
end
section
variable {p:Int} [IsP p]
theorem byIn_lens' {m x:Fp p} {i N:Nat} (hm:m≠0) (hN:m.len≤N+1):∀(k:Nat) (b Q:List (Fp p)),(∀c∈Q,c.len≤N)→∀c∈byIn m x i k b Q,c.len≤N
 | _,[],_,h=>h
 | k,y::ys,Q,h=>byIn_lens' hm hN (k+1) ys _ (addAt_lens h (by have:=Pol.len_mod (x*frIt m (i%(m.len-1)) y) hm; omega))
theorem byOut_lens' {m:Fp p} {b:List (Fp p)} {N:Nat} (hm:m≠0) (hN:m.len≤N+1):∀(i:Nat) (a Q:List (Fp p)),(∀c∈Q,c.len≤N)→∀c∈byOut m b i a Q,c.len≤N
 | _,[],_,h=>h
 | i,_x::xs,Q,h=>byOut_lens' hm hN (i+1) xs _ (byIn_lens' hm hN 0 b Q h)
theorem prodS_lens' {m:Fp p} {a b:List (Fp p)} {N:Nat} (hm:m≠0) (hN:m.len≤N+1):∀c∈prodS m a b,c.len≤N:=fun c hc=>by
 unfold prodS at hc
 split at hc
 ·cases hc
 ·have h1:c∈mulS m a b:=List.mem_of_mem_take hc
  exact byOut_lens' hm hN 0 a _ (fun c hc=>by rw [List.eq_of_mem_replicate hc,Pol.len_zero]; omega) c h1
theorem isTrim_prod (m:Fp p) (a b:List (Fp p)):IsTrim (prodS m a b):=by
 unfold prodS
 split
 ·exact isTrim_nil
 ·exact isTrim_trim _
theorem prod_len_le {m:Fp p} {a b:List (Fp p)}:(prodS m a b).length≤a.length+b.length-1:=by
 unfold prodS
 split
 ·exact Nat.zero_le _
 ·have:=trimS_len_le (mulS m a b)
  have hl:(mulS m a b).length=a.length+b.length-1:=by unfold mulS; rw [byOut_length,List.length_replicate]
  omega
theorem mulS_val {m x y:Fp p} {a b:List (Fp p)}:cS (mulS m (a++[x]) (b++[y])) (a.length+b.length)=x*frIt m (a.length%(m.len-1)) y%m:=by
 unfold mulS
 rw [byOut_snoc,byIn_snoc]
 unfold addAt
 rw [byIn_get_ge _ _ _ (by omega),byOut_get_ge _ _ _ (by rw [List.length_append,List.length_cons,List.length_nil]; omega)]
 have hN:0+a.length+(0+b.length)=a.length+b.length:=by omega
 rw [hN]
 unfold cS
 rw [List.getElem?_set_self (by rw [byIn_length,byOut_length,List.length_replicate,List.length_append,List.length_append]; simp only [List.length_cons,List.length_nil]; omega)]
 rw [List.getElem?_replicate,if_pos (by rw [List.length_append,List.length_append]; simp only [List.length_cons,List.length_nil]; omega)]
 show (0:Fp p)+_=_
 rw [Gq.zero_add,show 0+a.length=a.length by omega]
theorem prod_top {m:Fp p} {A B:List (Fp p)} (ha:1≤A.length) (hb:1≤B.length):cS (prodS m A B) (A.length-1+(B.length-1))=cS A (A.length-1)*frIt m ((A.length-1)%(m.len-1)) (cS B (B.length-1))%m:=by
 obtain ⟨a,ea,la⟩:=snoc_of ha
 obtain ⟨b,eb,lb⟩:=snoc_of hb
 have h:=mulS_val (m:=m) (x:=cS A (A.length-1)) (y:=cS B (B.length-1)) (a:=a) (b:=b)
 rw [←ea,←eb,la,lb] at h
 unfold prodS
 rw [if_neg (by omega),cS_trim]
 exact h
theorem inv_back {m x y:Fp p} (hm:Fld m) (hx:x.len<m.len) (hy:y≠0) (hyl:y.len<m.len):(x*invm m y%m)*y%m=x∧y*(x*invm m y%m)%m=x:=by
 have h0:m≠0:=hm.mon.2
 have e:=invm_ok hm hy hyl
 have key:Quo.mk m ((x*invm m y%m)*y)=Quo.mk m x:=by
  rw [Quo.mk_mul,Pol.mk_mod,Quo.mk_mul,Gq.mul_assoc,e,Gq.mul_one]
 have h1:=(Pol.mod_eq_iff h0).2 key
 rw [Pol.mod_small hx] at h1
 exact ⟨h1,by rw [Gq.mul_comm]; exact h1⟩
theorem frIt_add {m:Fp p}:∀(b a:Nat) (x:Fp p),frIt m (a+b) x=frIt m a (frIt m b x)
 | 0,_,_=>rfl
 | b+1,a,x=>by
  show frIt m (a+b) (pw x p.toNat%m)=frIt m a (frIt m b (pw x p.toNat%m))
  exact frIt_add b a _
theorem frIt_round {m:Fp p} (hm:Fld m) (j:Nat) {z:Fp p} (hz:z.len<m.len):frIt m (j%(m.len-1)) (frIt m ((m.len-1-j%(m.len-1))%(m.len-1)) z)=z:=by
 have h2:=hm.two
 have hlt:=Nat.mod_lt j (show 0<m.len-1 by omega)
 rw [frIt_mod hm _ hz,←frIt_add,show j%(m.len-1)+(m.len-1-j%(m.len-1))=m.len-1 by omega,←frIt_mod hm _ hz,Nat.mod_self]
 rfl
noncomputable def qc (left:Bool) (m:Fp p) (A B:List (Fp p)):Fp p:=
 if left then frIt m ((m.len-1-(B.length-1)%(m.len-1))%(m.len-1)) (cS A (A.length-1)*invm m (cS B (B.length-1))%m)
 else cS A (A.length-1)*invm m (frIt m ((A.length-B.length)%(m.len-1)) (cS B (B.length-1)))%m
noncomputable def qT (left:Bool) (m:Fp p) (A B:List (Fp p)):List (Fp p):=termS (qc left m A B) (A.length-B.length)
noncomputable def qP (left:Bool) (m:Fp p) (A B:List (Fp p)):List (Fp p):=if left then prodS m B (qT left m A B) else prodS m (qT left m A B) B
end
section
variable {p:Int}
structure Sk (m:Fp p) (A:List (Fp p)):Prop where
 trim:IsTrim A
 eight:A.length≤8
 res:∀c∈A,c.len<m.len
theorem Sk.cs {m:Fp p} {A:List (Fp p)} (h:Sk m A) (hm:m≠0) (i:Nat):(cS A i).len<m.len:=by
 have:=mem_cS (N:=m.len-1) (fun c hc=>by have:=h.res c hc; omega) i
 have:=Pol.len_pos hm
 omega
theorem Sk.top {m:Fp p} {A:List (Fp p)} (h:Sk m A) (h1:1≤A.length):cS A (A.length-1)≠0:=h.trim _ (by omega)
theorem Sk.nil (m:Fp p):Sk m []:=⟨isTrim_nil,by simp,fun c h=>by cases h⟩
end
section
variable {p:Int} [IsP p]
theorem c_ge' {p:Int} {a:Fp p} {n:Nat} (h:a.len≤n):a.c n=0:=a.lt_len n h
theorem Sk.plus {m:Fp p} {A B:List (Fp p)} (hm:m≠0) (hA:Sk m A) (hB:Sk m B) (k:Int):Sk m (plusS k A B):=by
 have h1:=Pol.len_pos hm
 refine ⟨isTrim_plus k A B,by have:=plus_len k A B; have:=hA.eight; have:=hB.eight; omega,fun c hc=>?_⟩
 have:=cS_mem (A:=plusS k A B) (N:=m.len-1) (fun i=>by
  rw [cS_plus]
  have a1:=hA.cs hm i
  have a2:=hB.cs hm i
  exact Pol.len_add_le (by omega) (Pol.len_le fun j hj=>by rw [Pol.c_Cmul,c_ge' (by omega),Gq.mul_zero])) c hc
 omega
theorem step_ok (left:Bool) {m:Fp p} (hm:Fld m) {A B:List (Fp p)} (hA:Sk m A) (hB:Sk m B) (h1:1≤B.length) (hle:B.length≤A.length) :
 qc left m A B≠0∧(qc left m A B).len<m.len∧Sk m (qT left m A B)∧Sk m (qP left m A B)∧(plusS (-1) A (qP left m A B)).length<A.length∧Sk m (plusS (-1) A (qP left m A B)):=by
 have h0:m≠0:=hm.mon.2
 have hx:=hA.top (by omega)
 have hxl:=hA.cs h0 (A.length-1)
 have hy:=hB.top h1
 have hyl:=hB.cs h0 (B.length-1)
 have hfy:frIt m ((A.length-B.length)%(m.len-1)) (cS B (B.length-1))≠0:=frIt_ne hm _ _ hy hyl
 have hfl:=frIt_len h0 ((A.length-B.length)%(m.len-1)) (cS B (B.length-1)) hyl
 have hb1:=inv_back hm hxl hfy hfl
 have hb2:=inv_back hm hxl hy hyl
 have hzl:(cS A (A.length-1)*invm m (cS B (B.length-1))%m).len<m.len:=Pol.len_mod _ h0
 have hz0:cS A (A.length-1)*invm m (cS B (B.length-1))%m≠0:=fun h=>by
  have:=hb2.1
  rw [h,Gq.zero_mul,Pol.zero_mod h0] at this
  exact hx this.symm
 have hc0:qc left m A B≠0:=by
  unfold qc
  cases left with
  | true=>simp only [if_true]; exact frIt_ne hm _ _ hz0 hzl
  | false=>
   simp only [Bool.false_eq_true,if_false]
   intro h
   have:=hb1.1
   rw [h,Gq.zero_mul,Pol.zero_mod h0] at this
   exact hx this.symm
 have hcl:(qc left m A B).len<m.len:=by
  unfold qc
  cases left with
  | true=>simp only [if_true]; exact frIt_len h0 _ _ hzl
  | false=>simp only [Bool.false_eq_true,if_false]; exact Pol.len_mod _ h0
 have hTl:(qT left m A B).length=A.length-B.length+1:=termS_length _ _
 have h8:=hA.eight
 have hT:Sk m (qT left m A B):=⟨isTrim_term hc0 _,by omega,fun c hc=>by
  unfold qT termS at hc
  rcases List.mem_append.1 hc with h | h
  ·rw [List.eq_of_mem_replicate h,Pol.len_zero]; exact Pol.len_pos h0
  ·rw [List.mem_singleton.1 h]; exact hcl⟩
 have hPl:(qP left m A B).length≤A.length:=by
  unfold qP
  cases left with
  | true=>have:=prod_len_le (m:=m) (a:=B) (b:=qT true m A B); simp only [if_true]; omega
  | false=>have:=prod_len_le (m:=m) (a:=qT false m A B) (b:=B); simp only [Bool.false_eq_true,if_false]; omega
 have hP:Sk m (qP left m A B):=by
  have hm1:=Pol.len_pos h0
  refine ⟨?_,by omega,?_⟩
  ·unfold qP
   cases left with
   | true=>exact isTrim_prod _ _ _
   | false=>exact isTrim_prod _ _ _
  ·intro c hc
   have:c.len≤m.len-1:=by
    unfold qP at hc
    cases left with
    | true=>exact prodS_lens' h0 (by omega) c hc
    | false=>exact prodS_lens' h0 (by omega) c hc
   omega
 have htop:cS (qP left m A B) (A.length-1)=cS A (A.length-1):=by
  unfold qP
  cases left with
  | true=>
   simp only [if_true]
   have h:=prod_top (m:=m) (A:=B) (B:=qT true m A B) h1 (by omega)
   rw [hTl,show B.length-1+(A.length-B.length+1-1)=A.length-1 by omega,show A.length-B.length+1-1=A.length-B.length by omega] at h
   rw [h]
   unfold qT
   rw [cS_term,if_pos rfl]
   unfold qc
   simp only [if_true]
   rw [frIt_round hm (B.length-1) hzl]
   exact hb2.2
  | false=>
   simp only [Bool.false_eq_true,if_false]
   have h:=prod_top (m:=m) (A:=qT false m A B) (B:=B) (by omega) h1
   rw [hTl,show A.length-B.length+1-1+(B.length-1)=A.length-1 by omega,show A.length-B.length+1-1=A.length-B.length by omega] at h
   rw [h]
   unfold qT
   rw [cS_term,if_pos rfl]
   unfold qc
   simp only [Bool.false_eq_true,if_false]
   exact hb1.1
 have hneg:∀x:Fp p,x+Pol.C (zp p (-1))*x=0:=fun x=>by
  rw [zp_neg,zp_one,Pol.C_neg,Pol.C_one]
  exact ring_of [x] rfl
 refine ⟨hc0,hcl,hT,hP,?_,hA.plus h0 hP (-1)⟩
 have hlt:(plusS (-1) A (qP left m A B)).length≤A.length-1:=trim_len_le fun i hi=>by
  rw [cS_map]
  split
  ·rcases Nat.lt_or_ge i A.length with g | g
   ·rw [show i=A.length-1 by omega,htop,hneg]
   ·rw [cS_ge g,cS_ge (A:=qP left m A B) (by omega),Gq.mul_zero,Gq.add_zero]
  ·rfl
 omega
def Zto (Q A B:List (Fp p)):Prop:=∀j,j+B.length≤A.length→cS Q j=0
theorem Zto.step {left:Bool} {m:Fp p} (hm:Fld m) {Q A B:List (Fp p)} (hA:Sk m A) (hB:Sk m B) (h1:1≤B.length) (hle:B.length≤A.length) (hz:Zto Q A B):Zto (plusS 1 Q (qT left m A B)) (plusS (-1) A (qP left m A B)) B:=fun j hj=>by
 obtain ⟨_,_,_,_,h,_⟩:=step_ok left hm hA hB h1 hle
 unfold qT
 rw [cS_plus,hz j (by omega),cS_term,if_neg (by omega),Gq.mul_zero,Gq.add_zero]
end
end Pe



namespace Pe
open Go Gq
variable {T:Nat→Option Fn} {A:Oracle}
abbrev z6:List Int:=List.replicate 6 0
section
variable {p:Int} [IsP p]
noncomputable def mono (p:Int) (i:Nat):Fp p:=numP p (p^i)
end
end Pe

namespace Pe
open Go Gq
variable {T:Nat→Option Fn} {A:Oracle}
section
variable {O:Oracle} {g:Nat} {first caps:List D}
structure CmpRow (O:Oracle) (g:Nat) (first caps:List D) (f:D→Int) (s:Sh) (cs:List D):Prop where
 nf:noTup first
 nc:noTup caps
 nx:noTup cs
 sh:AllSh s cs
 ask:∀x∈cs,∀y∈cs,∃v:Int,ask O g (first++[x,y]++caps)=some (D.int .i64 v)∧(v<0↔f x<f y)
theorem CmpRow.perm {f:D→Int} {s:Sh} {cs ds:List D} (h:CmpRow O g first caps f s cs) (p:ds.Perm cs):CmpRow O g first caps f s ds:=
 ⟨h.nf,h.nc,fun x hx=>h.nx x (p.subset hx),fun x hx=>h.sh x (p.subset hx),fun x hx y hy=>h.ask x (p.subset hx) y (p.subset hy)⟩
theorem CmpRow.call {f:D→Int} {s:Sh} {cs:List D} (h:CmpRow O g first caps f s cs) {hp:Heap} {np:Nat} {news:List Nat} {x y:D} (hx:x∈cs) (hy:y∈cs) :
 ∃v:Int,kCall O np hp .flat news (g,first.map .d,caps.map .d) [.d x,.d y]=some (.d (D.int .i64 v),hp)∧(v<0↔f x<f y):=by
 have e:toDs hp (first.map .d++[.d x,.d y]++caps.map .d)=some (first++[x,y]++caps):=
  toDs_app hp (toDs_app hp (toDs_map hp h.nf) (toDs_map hp (ds:=[x,y]) (by intro z hz; simp at hz; rcases hz with rfl | rfl; exact h.nx _ hx; exact h.nx _ hy))) (toDs_map hp h.nc)
 obtain ⟨v,e1,e2⟩:=h.ask x hx y hy
 refine ⟨v,?_,e2⟩
 rw [kCall_flat,e,Option.bind_some,kAsk_ask,e1,Option.bind_some,kAns_flat,show (D.int IntKind.i64 v).flat=true from rfl,if_pos rfl]
end
end Pe

namespace Pe
open Go Gq
variable {T:Nat→Option Fn} {A:Oracle}
section
variable {p:Int}
noncomputable def elim (a b:Fp p):Fp p:=b+Pol.C (-(b.c (a.len-1)))*a
end
section
variable {p:Int} [IsP p]
structure Desc (N:Nat) (L:List (Fp p)):Prop where
 pw:L.Pairwise fun x y=>y.len<x.len
 mon:∀b∈L,Monic b
 le:∀b∈L,b.len≤N
theorem Desc.nil (N:Nat):Desc N ([]:List (Fp p)):=⟨List.Pairwise.nil,(fun _ h=>by cases h),(fun _ h=>by cases h)⟩
theorem Desc.tail {N:Nat} {b:Fp p} {L:List (Fp p)} (h:Desc N (b::L)):Desc N L∧∀c∈L,c.len<b.len:=
 ⟨⟨h.pw.tail,fun c hc=>h.mon c (by simp [hc]),fun c hc=>h.le c (by simp [hc])⟩,(List.pairwise_cons.1 h.pw).1⟩
theorem Desc.length:∀{N:Nat} {L:List (Fp p)},Desc N L→L.length≤N
 | N,[],_=>Nat.zero_le _
 | N,b::L,h=>by
  obtain ⟨h1,h2⟩:=h.tail
  have hb:=Pol.len_pos (h.mon b (by simp)).2
  have hle:=h.le b (by simp)
  have:=Desc.length (N:=b.len-1) ⟨h1.pw,h1.mon,fun c hc=>by have:=h2 c hc; omega⟩
  rw [List.length_cons]; omega
end
section
variable {p:Int}
end
end Pe

namespace Pe
open Go Gq
variable {T:Nat→Option Fn} {A:Oracle}
end Pe

namespace Pe
open Go Gq
variable {T:Nat→Option Fn} {A:Oracle}
section
variable {p:Int} [IsP p]
end
end Pe



namespace Pe
open Go Gq
variable {T:Nat→Option Fn} {A:Oracle}
section
variable {p:Int} [IsP p]
end
end Pe


namespace Pe
open Go Gq
variable {T:Nat→Option Fn} {A:Oracle}
section
variable {p:Int}
end
section
variable {p:Int} [IsP p]
end
end Pe


namespace Pe
open Go Gq
variable {T:Nat→Option Fn} {A:Oracle}
end Pe

namespace Pe
open Go Gq
variable {T:Nat→Option Fn} {A:Oracle}
end Pe


namespace Pe
open Go Gq
variable {T:Nat→Option Fn} {A:Oracle}
section
variable {p:Int} [IsP p]
end
end Pe


namespace Pe
open Go Gq
variable {T:Nat→Option Fn} {A:Oracle}
section
variable {p:Int} [IsP p]
end
end Pe

namespace Pe
open Go Gq
variable {T:Nat→Option Fn} {A:Oracle}
section
variable {α:Type}
end
end Pe

namespace Pe
open Go Gq
variable {T:Nat→Option Fn} {A:Oracle}
end Pe


namespace Pe
open Go Gq
variable {T:Nat→Option Fn} {A:Oracle}
end Pe

namespace Pe
open Go Gq
variable {T:Nat→Option Fn} {A:Oracle}
end Pe

namespace Pe
open Go Gq
variable {T:Nat→Option Fn} {A:Oracle}
section
variable {p:Int} [IsP p]
noncomputable def monS (m:Fp p) (X:List (Fp p)):List (Fp p):=prodS m (termS (invm m (cS X (X.length-1))) 0) X
theorem Sk.mon {m:Fp p} {X:List (Fp p)} (hm:m≠0) (hX:Sk m X):Sk m (monS m X):=by
 have h1:=Pol.len_pos hm
 have hl:=prod_len_le (m:=m) (a:=termS (invm m (cS X (X.length-1))) 0) (b:=X)
 rw [termS_length] at hl
 have h8:=hX.eight
 exact ⟨isTrim_prod _ _ _,by unfold monS; omega,fun c hc=>by have:=prodS_lens' (N:=m.len-1) hm (by omega) c hc; omega⟩
end
end Pe

namespace Pe
open Go Gq
variable {T:Nat→Option Fn} {A:Oracle}
section
variable {p:Int}
end
section
variable {p:Int} [IsP p]
theorem prodS_len {m:Fp p} (hm:Fld m) {X Y:List (Fp p)} (hX:IsTrim X) (hY:IsTrim Y) (hXl:∀c∈X,c.len<m.len) (hYl:∀c∈Y,c.len<m.len) (h1:1≤X.length) (h2:1≤Y.length):(prodS m X Y).length=X.length+Y.length-1:=by
 obtain ⟨a,ea,la⟩:=snoc_of h1
 obtain ⟨b,eb,lb⟩:=snoc_of h2
 have hx:=hX (X.length-1) (by omega)
 have hy:=hY (Y.length-1) (by omega)
 have ht:=mulS_top hm (a:=a) (b:=b) hx (hXl _ (by rw [←cS_lt (show X.length-1<X.length by omega)]; exact List.getElem_mem _)) hy (hYl _ (by rw [←cS_lt (show Y.length-1<Y.length by omega)]; exact List.getElem_mem _))
 rw [←ea,←eb] at ht
 unfold prodS
 rw [if_neg (by omega),ht]
 unfold mulS
 rw [byOut_length,List.length_replicate]
theorem one_ne8:(1:Fp p)≠0:=fun h=>by
 have e:(1:Fp p).len=1:=Pol.len_one
 rw [h,Pol.len_zero] at e
 cases e
theorem mon_len {m:Fp p} (hm:Fld m) {X:List (Fp p)} (hX:IsTrim X) (hr:∀c∈X,c.len<m.len) (h1:1≤X.length):(monS m X).length=X.length:=by
 have h0:=hm.mon.2
 have hx:cS X (X.length-1)≠0:=hX _ (by omega)
 have hxl:(cS X (X.length-1)).len<m.len:=by
  rw [←cS_lt (show X.length-1<X.length by omega)]; exact hr _ (List.getElem_mem _)
 have hi:invm m (cS X (X.length-1))≠0:=fun h=>by
  have e:=inv_back hm (x:=1) (by have:=hm.two; have:(1:Fp p).len=1:=Pol.len_one; omega) hx hxl
  rw [h,Gq.mul_zero,Pol.zero_mod h0,Gq.zero_mul,Pol.zero_mod h0] at e
  exact one_ne8 e.1.symm
 have hil:=invm_len h0 (cS X (X.length-1))
 have:=prodS_len hm (isTrim_term hi 0) hX (fun c hc=>by
  unfold termS at hc
  rw [List.replicate_zero,List.nil_append] at hc
  rw [List.mem_singleton.1 hc]; exact hil) hr (by rw [termS_length]; omega) h1
 rw [termS_length] at this
 unfold monS
 omega
end
end Pe


namespace Pe
open Go Gq
variable {T:Nat→Option Fn} {A:Oracle}
section
variable {p:Int} [IsP p]
end
end Pe

namespace Pe
open Go Gq
section
variable {p:Int}
noncomputable def sg {m:Fp p}:Nat→Quo m→Quo m
 | 0,x=>x
 | k+1,x=>sg k (pw x p.toNat)
theorem pw_zero_pos [IsP p] {m:Fp p}:pw (0:Quo m) p.toNat=0:=by
 have h:=IsP.pos (p:=p)
 have:p.toNat=(p.toNat-1)+1:=by omega
 rw [this]
 show pw (0:Quo m) (p.toNat-1)*0=0
 exact Gq.mul_zero _
theorem sg_zero [IsP p] {m:Fp p}:∀k,sg k (0:Quo m)=0
 | 0=>rfl
 | k+1=>by
  show sg k (pw (0:Quo m) p.toNat)=0
  rw [pw_zero_pos,sg_zero k]
section
variable {m:Fp p}
noncomputable def Rop (t0 t1 t2:Quo m) (X:Nat→Quo m):Nat→Quo m
 | 0=>X 0*t0
 | 1=>X 1*sg 1 t0+X 0*t1
 | n+2=>X (n+2)*sg (n+2) t0+X (n+1)*sg (n+1) t1+X n*sg n t2
noncomputable def e0:Nat→Quo m
 | 0=>1
 | _+1=>0
theorem nine (t0 t1 t2 a b c d e f g h i s u v:Quo m):t0*(a*s+b*u+c*v)+t1*(d*s+e*u+f*v)+t2*(g*s+h*u+i*v)=(t0*a+t1*d+t2*g)*s+(t0*b+t1*e+t2*h)*u+(t0*c+t1*f+t2*i)*v:=by
 have l:∀t a b c:Quo m,t*(a*s+b*u+c*v)=t*a*s+t*b*u+t*c*v:=fun t a b c=>ring_of [t,a,b,c,s,u,v] rfl
 have q:∀x y z w:Quo m,(x+y+z)*w=x*w+y*w+z*w:=fun x y z w=>ring_of [x,y,z,w] rfl
 have z:∀p1 p2 p3 q1 q2 q3 r1 r2 r3:Quo m,(p1+p2+p3)+(q1+q2+q3)+(r1+r2+r3)=(p1+q1+r1)+(p2+q2+r2)+(p3+q3+r3):=fun p1 p2 p3 q1 q2 q3 r1 r2 r3=>ring_of [p1,p2,p3,q1,q2,q3,r1,r2,r3] rfl
 rw [l,l,l,q,q,q,z]
theorem eight [IsP p] (t0 t1 t2 a b c d e f g h s u v:Quo m):t0*(a*s+b*u+c*v)+t1*(d*s+e*u+f*v)+t2*(g*s+h*u)=(t0*a+t1*d+t2*g)*s+(t0*b+t1*e+t2*h)*u+(t0*c+t1*f)*v:=by
 have:=nine t0 t1 t2 a b c d e f g h 0 s u v
 simp only [Gq.zero_mul,Gq.mul_zero,Gq.add_zero] at this
 exact this
noncomputable def Rk (t0 t1 t2:Quo m):Nat→Nat→Quo m
 | 0=>e0
 | k+1=>Rop t0 t1 t2 (Rk t0 t1 t2 k)
noncomputable def hsum (t0 t1 t2:Quo m):(Nat→Quo m)→Nat→Nat→Nat→Quo m
 | _,_,0,_=>0
 | c,k,n+1,i=>c 0*Rk t0 t1 t2 k i+hsum t0 t1 t2 (fun j=>c (j+1)) (k+1) n i
end
theorem dv_list [IsP p] {m a:Fp p} (hm:Irr m):∀l:List (Fp p),Dv m (l.foldr (fun c r=>(a-c)*r) 1)→∃c∈l,Dv m (a-c)
 | [],h=>by
  have h0:Dv m 1:=h
  have h1:=h0.len Pol.one_ne
  have:=hm.len
  rw [Pol.len_one] at h1
  omega
 | c::l,h=>by
  rcases hm.prime (show Dv m ((a-c)*_) from h) with h1 | h1
  ·exact ⟨c,by simp,h1⟩
  ·obtain ⟨d,hd,h2⟩:=dv_list hm l h1
   exact ⟨d,by simp [hd],h2⟩
theorem ip_zero {m:Fp p} {n:Int} (h:p=n):(ic n:Quo m)=0:=by
 subst h
 exact ic_p
theorem fix_irr [IsP p] {m a:Fp p} (h2:2≤m.len) (hi:Irr m) (hal:a.len<m.len) (h:pw (Quo.mk m a) p.toNat=Quo.mk m a):a.len≤1:=by
 have main:∀l:List (Fp p),(∀c∈l,c.len≤1)→l.foldr (fun c r=>(Quo.mk m a-Quo.mk m c)*r) (1:Quo m)=0→a.len≤1:=by
  intro l hl hz
  have e:∀l:List (Fp p),Quo.mk m (l.foldr (fun c r=>(a-c)*r) 1)=l.foldr (fun c r=>(Quo.mk m a-Quo.mk m c)*r) (1:Quo m):=by
   intro l
   induction l with
   | nil=>rfl
   | cons c l ih=>
    show Quo.mk m ((a-c)*_)=(Quo.mk m a-Quo.mk m c)*_
    rw [Quo.mk_mul,Quo.mk_sub,ih]
  obtain ⟨c,hc,hd⟩:=dv_list (a:=a) hi l (dv_iff_mk.2 ((e l).trans hz))
  have hcl:=hl c hc
  have hz:a-c=0:=by
   rcases Classical.em (a-c=0) with h0 | h0
   ·exact h0
   ·have:=hd.len h0
    have:(a-c).len≤m.len-1:=by
     rw [Gq.sub_eq]
     exact Pol.len_add_le (by omega) (by rw [Pol.len_neg]; omega)
    omega
  have:a=c:=by
   have h3:a=(a-c)+c:=ring_of [a,c] rfl
   rw [h3,hz,Gq.zero_add]
  rw [this]; exact hcl
 have c0:(0:Fp p).len≤1:=by rw [Pol.len_zero]; omega
 have c1:(1:Fp p).len≤1:=by rw [Pol.len_one]; omega
 have cs:∀c:Fp p,c.len≤1→(c+1).len≤1:=fun c hc=>Pol.len_add_le hc c1
 have k0:∀c:Fp p,c=0→c.len≤1:=fun c hc=>by rw [hc]; exact c0
 rcases IsP.h (p:=p) with hp | hp | hp | hp
 ·have hn:p.toNat=2:=by omega
  rw [hn] at h
  refine main [0,1] (by intro c hc; simp at hc; rcases hc with rfl | rfl <;> assumption) ?_
  have h':Quo.mk m a^2=Quo.mk m a:=h
  show (Quo.mk m a-0)*((Quo.mk m a-1)*1)=0
  generalize Quo.mk m a=y at h'
  have e:(y-0)*((y-1)*1)=y^2-y:=ring_of [y] rfl
  rw [e,h']
  exact ring_of [y] rfl
 ·have hn:p.toNat=3:=by omega
  have hz:=ip_zero (m:=m) hp
  rw [hn] at h
  refine main [0,1,1+1] (by intro c hc; simp at hc; rcases hc with rfl | rfl | rfl <;> first | exact c0 | exact c1 | exact cs _ c1 | exact cs _ (cs _ c1) | exact cs _ (cs _ (cs _ c1)) | exact cs _ (cs _ (cs _ (cs _ c1))) | exact cs _ (cs _ (cs _ (cs _ (cs _ c1))))) ?_
  have h':Quo.mk m a^3=Quo.mk m a:=h
  show (Quo.mk m a-0)*((Quo.mk m a-1)*((Quo.mk m a-(1+1))*1))=0
  generalize Quo.mk m a=y at h'
  have e:(y-0)*((y-1)*((y-(1+1))*1))=y^3-y+ic 3*(y-y^2):=ring_of [y] rfl
  rw [e,h',hz]
  exact ring_of [y] rfl
 ·have hn:p.toNat=5:=by omega
  have hz:=ip_zero (m:=m) hp
  rw [hn] at h
  refine main [0,1,1+1,1+1+1,1+1+1+1] (by intro c hc; simp at hc; rcases hc with rfl | rfl | rfl | rfl | rfl <;> first | exact c0 | exact c1 | exact cs _ c1 | exact cs _ (cs _ c1) | exact cs _ (cs _ (cs _ c1)) | exact cs _ (cs _ (cs _ (cs _ c1))) | exact cs _ (cs _ (cs _ (cs _ (cs _ c1))))) ?_
  have h':Quo.mk m a^5=Quo.mk m a:=h
  show (Quo.mk m a-0)*((Quo.mk m a-1)*((Quo.mk m a-(1+1))*((Quo.mk m a-(1+1+1))*((Quo.mk m a-(1+1+1+1))*1))))=0
  generalize Quo.mk m a=y at h'
  have e:(y-0)*((y-1)*((y-(1+1))*((y-(1+1+1))*((y-(1+1+1+1))*1))))=y^5-y+ic 5*(ic 7*y^3+ic 5*y-ic 2*y^4-ic 10*y^2):=ring_of [y] rfl
  rw [e,h',hz]
  exact ring_of [y] rfl
 ·have hn:p.toNat=7:=by omega
  have hz:=ip_zero (m:=m) hp
  rw [hn] at h
  refine main [0,1,1+1,1+1+1,1+1+1+1,1+1+1+1+1,1+1+1+1+1+1] (by intro c hc; simp at hc; rcases hc with rfl | rfl | rfl | rfl | rfl | rfl | rfl <;> first | exact c0 | exact c1 | exact cs _ c1 | exact cs _ (cs _ c1) | exact cs _ (cs _ (cs _ c1)) | exact cs _ (cs _ (cs _ (cs _ c1))) | exact cs _ (cs _ (cs _ (cs _ (cs _ c1))))) ?_
  have h':Quo.mk m a^7=Quo.mk m a:=h
  show (Quo.mk m a-0)*((Quo.mk m a-1)*((Quo.mk m a-(1+1))*((Quo.mk m a-(1+1+1))*((Quo.mk m a-(1+1+1+1))*((Quo.mk m a-(1+1+1+1+1))*((Quo.mk m a-(1+1+1+1+1+1))*1))))))=0
  generalize Quo.mk m a=y at h'
  have e:(y-0)*((y-1)*((y-(1+1))*((y-(1+1+1))*((y-(1+1+1+1))*((y-(1+1+1+1+1))*((y-(1+1+1+1+1+1))*1))))))=y^7-y+ic 7*(ic 25*y^5+ic 232*y^3+ic 103*y-ic 3*y^6-ic 105*y^4-ic 252*y^2):=ring_of [y] rfl
  rw [e,h',hz]
  exact ring_of [y] rfl
end
end Pe

namespace Pe
open Go Gq
variable {T:Nat→Option Fn} {A:Oracle}
section
variable {p:Int}
end
end Pe

namespace Pe
open Go Gq
section
variable {K:Type} [CR K]
theorem sumR_congr {f g:Nat→K}:∀{n:Nat},(∀i,i<n→f i=g i)→sumR f n=sumR g n
 | 0,_=>rfl
 | n+1,h=>by rw [sumR,sumR,sumR_congr fun i hi=>h i (by omega),h n (by omega)]
end
section
variable {p:Int} {m:Fp p}
theorem sg1_0 [IsP p]:sg 1 (0:Quo m)=0:=sg_zero 1
variable {t0 t1 t2:Quo m}
noncomputable def polS [IsP p] (f:Pol (Quo m)):Pol (Quo m):=⟨fun i=>sg 1 (f.c i),by
 obtain ⟨n,h⟩:=f.fin
 exact ⟨n,fun i hi=>by rw [h i hi,sg1_0]⟩⟩
noncomputable def PQ [IsP p] (u v:Pol (Quo m)):Nat→Pol (Quo m)×Pol (Quo m)
 | 0=>(1,0)
 | j+1=>(u*polS (PQ u v j).2,polS (PQ u v j).1+v*polS (PQ u v j).2)
end
end Pe

namespace Pe
open Go Gq
section
variable {p:Int} [ip:IsP p]
theorem geo_dvd:∀d:Nat,∃k:Int,0≤k∧p^d-1=(p-1)*k
 | 0=>⟨0,Int.le_refl _,by rw [Int.pow_zero]; omega⟩
 | d+1=>by
  obtain ⟨k,k0,h⟩:=geo_dvd d
  have hp:=IsP.pos (p:=p)
  refine ⟨k*p+1,by have:=Int.mul_nonneg k0 (show 0≤p by omega); omega,?_⟩
  rw [Int.pow_succ,Int.mul_add,←Int.mul_assoc,←h,Int.sub_mul]
  omega
def geoE (p:Int) (d:Nat):Nat:=((p^d-1)/(p-1)).toNat
theorem geoE_eq (d:Nat):geoE p d*p.toNat=geoE p d+(p.toNat^d-1):=by
 obtain ⟨k,k0,h⟩:=geo_dvd (p:=p) d
 have hp:=IsP.ge (p:=p)
 have e:(p^d-1)/(p-1)=k:=by rw [h]; exact Int.mul_ediv_cancel_left _ (by omega)
 have hpos:=p_pow_pos (p:=p) d
 have hn:=pow_nat (p:=p) d
 have hE:((geoE p d:Nat):Int)=k:=by unfold geoE; rw [e]; omega
 have hpn:((p.toNat:Nat):Int)=p:=by omega
 have h3:((geoE p d*p.toNat:Nat):Int)=((geoE p d+(p.toNat^d-1):Nat):Int):=by
  rw [Int.natCast_mul,hE,hpn,Int.natCast_add,hE,Int.natCast_sub (by omega),hn]
  rw [Int.sub_mul,Int.mul_comm p k] at h
  omega
 omega
theorem geoE_pos {d:Nat} (hd:1≤d):1≤geoE p d:=by
 have h:=geoE_eq (p:=p) d
 have hp:=IsP.ge (p:=p)
 have:p.toNat^1≤p.toNat^d:=Nat.pow_le_pow_right (by omega) hd
 rw [Nat.pow_one] at this
 rcases Nat.eq_zero_or_pos (geoE p d) with h0 | h0
 ·rw [h0,Nat.zero_mul] at h; omega
 ·exact h0
variable {q:Fp p}
theorem own_fix (hi:Irr q) (h13:q.len≤13) (x:Quo q):pw (pw x (geoE p (q.len-1))) p.toNat=pw x (geoE p (q.len-1)):=by
 have h2:=hi.len
 by_cases hx:x=0
 ·obtain ⟨n,hn⟩:∃n,geoE p (q.len-1)=n+1:=⟨geoE p (q.len-1)-1,by have:=geoE_pos (p:=p) (d:=q.len-1) (by omega); omega⟩
  obtain ⟨k,hk⟩:∃k,p.toNat=k+1:=⟨p.toNat-1,by have:=IsP.ge (p:=p); omega⟩
  rw [hx,hn,pw,Gq.mul_zero,hk,pw,Gq.mul_zero]
 ·rw [pw_pw,geoE_eq,pw_add,fermat hi (d:=q.len-1) (by omega) (pow_small (by omega)) hx,Gq.mul_one]
end
section
variable {p:Int}
variable {q:Fp p}
theorem len_one_C {r:Fp p} (h:r.len≤1):r=Pol.C (r.c 0):=Pol.ext fun i=>by
 rw [Pol.c_C]
 split
 ·rename_i h0; rw [h0]
 ·exact Pol.lt_len r i (by omega)
end
section
variable {p:Int} [ip:IsP p]
variable {q:Fp p}
theorem own_mk (hi:Irr q) (h13:q.len≤13) (a:Fp p):pw (Quo.mk q a) (geoE p (q.len-1))=Quo.mk q (Pol.C (zp p (ownS p a q))):=by
 have h2:=hi.len
 have e1:Quo.mk q (pw a (geoE p (q.len-1))%q)=pw (Quo.mk q a) (geoE p (q.len-1)):=by rw [Pol.mk_mod,Quo.mk_pow]
 have hl:=fix_irr (a:=pw a (geoE p (q.len-1))%q) h2 hi (Pol.len_mod _ hi.ne) (by rw [e1]; exact own_fix hi h13 _)
 have e2:=len_one_C hl
 rw [←e1,e2]
 show Quo.mk q (Pol.C ((pw a (geoE p (q.len-1))%q).c 0))=Quo.mk q (Pol.C (zp p (rep ((pw a (geoE p (q.len-1))%q).c 0))))
 rw [zp_rep]
theorem C_inj (h2:2≤q.len) {c d:Zp p} (h:Quo.mk q (Pol.C c)=Quo.mk q (Pol.C d)):c=d:=by
 have h1:Dv q (Pol.C c-Pol.C d):=dv_iff_mk.2 (by rw [Quo.mk_sub,h,Gq.sub_self])
 have hl:(Pol.C c-Pol.C d).len≤1:=Pol.len_sub_le (Pol.len_le fun i hi=>by rw [Pol.c_C,if_neg (by omega)]) (Pol.len_le fun i hi=>by rw [Pol.c_C,if_neg (by omega)])
 have hz:Pol.C c-Pol.C d=0:=Classical.byContradiction fun h0=>by
  have:=h1.len h0
  omega
 have h3:(Pol.C c).c 0=(Pol.C d).c 0:=by rw [eq_of_sub hz]
 rwa [Pol.c_C,Pol.c_C,if_pos rfl,if_pos rfl] at h3
end
section
variable {p:Int}
variable {q:Fp p}
theorem rp_zp {own:Int}:∀(n:Nat) (out:Int),zp p (rp p own n out)=zp p out*pw (zp p own) n
 | 0,out=>(Gq.mul_one _).symm
 | n+1,out=>by
  rw [rp,rp_zp n,zp_mod,zp_mul,pw]
  exact ring_of [zp p out,zp p own,pw (zp p own) n] rfl
end
section
variable {p:Int} [ip:IsP p]
variable {q:Fp p}
noncomputable def ownL (a:Fp p):Facs p→Zp p
 | []=>1
 | x::L=>pw (zp p (ownS p a x.1)) x.2*ownL a L
theorem symL_zp (a:Fp p):∀(L:Facs p) (out:Int),zp p (symL p a L out)=zp p out*ownL a L
 | [],out=>(Gq.mul_one _).symm
 | x::L,out=>by
  rw [symL,symL_zp a L,rp_zp,ownL,Gq.mul_assoc]
theorem symb_zp (a m:Fp p):zp p (symb p a m)=ownL a (fac m):=by
 unfold symb
 rw [symL_zp,zp_one,Gq.one_mul]
end
end Pe

namespace Pe
open Go Gq
section
variable {K S:Type} [CR K] [CR S]
structure Hom (f:K→S):Prop where
 add:∀x y,f (x+y)=f x+f y
 mul:∀x y,f (x*y)=f x*f y
 one:f 1=1
theorem Hom.zero {f:K→S} (h:Hom f):f 0=0:=by
 have e:=h.add 0 0
 rw [Gq.add_zero] at e
 have e2:f 0+f 0-f 0=f 0:=ring_of [f 0] rfl
 rw [←e,Gq.sub_self] at e2
 exact e2.symm
noncomputable def evP (f:K→S) (z:S) (a:Pol K):S:=sumR (fun i=>f (a.c i)*pw z i) a.len
variable {f:K→S} {z:S}
theorem Hom.pw {g:K→S} (h:Hom g) (a:K):∀n,g (Gq.pw a n)=Gq.pw (g a) n
 | 0=>h.one
 | n+1=>by rw [Gq.pw,Gq.pw,h.mul,Hom.pw h a n]
end
end Pe

namespace Pe
open Go Gq
section
variable {S:Type} [CR S]
end
section
variable {p:Int} [IsP p]
end
end Pe

namespace Pe
open Go Gq
section
variable {K L S:Type} [CR K] [CR L] [CR S]
theorem Hom.comp {f:K→L} {g:L→S} (hf:Hom f) (hg:Hom g):Hom fun x=>g (f x):=
 ⟨fun x y=>by rw [hf.add,hg.add],fun x y=>by rw [hf.mul,hg.mul],by rw [hf.one,hg.one]⟩
end
section
variable {p:Int} [IsP p] {q:Fp p}
theorem Hom.sub {K S:Type} [CR K] [CR S] {f:K→S} (h:Hom f) (x y:K):f (x-y)=f x-f y:=by
 have e:f (x-y)+f y=f x:=by rw [←h.add]; congr 1; exact ring_of [x,y] rfl
 rw [←e]
 exact ring_of [f (x-y),f y] rfl
noncomputable def kC (q:Fp p) (c:Zp p):Quo q:=Quo.mk q (Pol.C c)
end
section
variable {p:Int} {q:Fp p}
theorem kC_hom:Hom (kC q):=⟨fun x y=>by unfold kC; rw [Pol.C_add,Quo.mk_add],fun x y=>by unfold kC; rw [Pol.C_mul,Quo.mk_mul],by unfold kC; rw [Pol.C_one,Quo.mk_one]⟩
end
section
variable {p:Int} [IsP p] {q:Fp p}
end
end Pe

namespace Pe
open Go Gq
section
variable {p:Int} {q:Fp p}
end
section
variable {p:Int} [IsP p] {q:Fp p}
end
section
variable {p:Int} {q:Fp p}
end
section
variable {p:Int} [IsP p] {q:Fp p}
end
section
variable {p:Int} {q:Fp p}
end
section
variable {p:Int} [IsP p] {q:Fp p}
end
end Pe

namespace Pe
open Go Gq
section
variable {K L S:Type} [CR K] [CR L] [CR S]
theorem Hom.nc {f:K→S} (h:Hom f):∀n:Nat,f (Gq.nc n)=Gq.nc n
 | 0=>h.zero
 | n+1=>by rw [Gq.nc,Gq.nc,h.add,Hom.nc h n,h.one]
theorem Hom.ic {f:K→S} (h:Hom f) (n:Int) (hn:0≤n):f (Gq.ic n)=Gq.ic n:=by
 obtain ⟨k,rfl⟩:∃k:Nat,n=Int.ofNat k:=⟨n.toNat,by show n=(n.toNat:Int); omega⟩
 exact h.nc k
end
section
variable {K:Type} [Fd K] {q:Pol K}
end
section
variable {p:Int} [ip:IsP p] {S:Type} [CR S]
end
section
variable {p:Int} {S:Type} [CR S]
end
section
variable {p:Int} [ip:IsP p] {S:Type} [CR S]
end
section
variable {p:Int} [ip:IsP p]
end
end Pe

namespace Pe
open Go Gq
section
variable {p:Int} [ip:IsP p]
theorem own_one {q:Fp p} (hi:Irr q) (h13:q.len≤13):zp p (ownS p 1 q)=1:=by
 refine C_inj hi.len ?_
 rw [←own_mk hi h13,Quo.mk_one,pw_one,Pol.C_one,Quo.mk_one]
theorem ownL_one {L:Facs p}:(∀x∈L,Irr x.1∧x.1.len≤13)→ownL (1:Fp p) L=1:=by
 induction L with
 | nil=>intro _; rfl
 | cons x L ih=>
  intro h
  obtain ⟨h1,h2⟩:=h x (by simp)
  rw [ownL,own_one h1 h2,pw_one,ih fun y hy=>h y (by simp [hy])]
  exact ring_of [] rfl
end
end Pe

namespace Pe
open Go Gq
section
variable {p:Int} [ip:IsP p]
theorem own_zero {q:Fp p} (hi:Irr q) (h13:q.len≤13) (a:Fp p):zp p (ownS p a q)=0↔Dv q a:=by
 have h2:=hi.len
 have e:=own_mk hi h13 a
 obtain ⟨n,hn⟩:∃n,geoE p (q.len-1)=n+1:=⟨geoE p (q.len-1)-1,by have:=geoE_pos (p:=p) (d:=q.len-1) (by omega); omega⟩
 constructor
 ·intro h0
  rw [h0,Pol.C_zero,Quo.mk_zero] at e
  have:∀k:Nat,pw (Quo.mk q a) k=0→Quo.mk q a=0:=fun k=>by
   induction k with
   | zero=>intro h; exact absurd h (fdQuo hi).one_ne
   | succ k ih=>
    intro h
    rcases hi.quo_zero (show pw (Quo.mk q a) k*Quo.mk q a=0 from h) with g | g
    ·exact ih g
    ·exact g
  exact dv_iff_mk.2 (this _ e)
 ·intro hd
  rw [dv_iff_mk.1 hd,hn,pw,Gq.mul_zero] at e
  refine C_inj h2 ?_
  rw [←e,Pol.C_zero,Quo.mk_zero]
end
section
variable {p:Int}
theorem cop_mul {a x y:Fp p} (hx:∃u v,u*x+v*a=1) (hy:∃u v,u*y+v*a=1):∃u v,u*(x*y)+v*a=1:=by
 obtain ⟨u,v,e1⟩:=hx
 obtain ⟨s,t,e2⟩:=hy
 refine ⟨u*s,u*x*t+v,?_⟩
 have e:u*s*(x*y)+(u*x*t+v)*a=u*x*(s*y+t*a)+v*a:=ring_of [u,s,x,y,t,v,a] rfl
 rw [e,e2,Gq.mul_one,e1]
end
section
variable {p:Int} [ip:IsP p]
end
section
variable {p:Int}
theorem cop_pw {a x:Fp p} (hx:∃u v,u*x+v*a=1):∀n,∃u v,u*pw x n+v*a=1
 | 0=>⟨1,0,by show 1*1+0*a=1; exact ring_of [a] rfl⟩
 | n+1=>cop_mul (cop_pw hx n) hx
end
section
variable {p:Int} [ip:IsP p]
theorem zp_field {x y:Zp p} (h:x*y=0):x=0∨y=0:=by
 by_cases hx:x=0
 ·exact .inl hx
 ·right
  have e:=Fd.mul_inv x hx
  have e2:Fd.inv x*(x*y)=x*Fd.inv x*y:=ring_of [Fd.inv x,x,y] rfl
  rw [h,Gq.mul_zero,e,Gq.one_mul] at e2
  exact e2.symm
theorem zp_pw {x:Zp p}:∀{n:Nat},pw x n=0→x=0
 | 0,h=>absurd h Fd.one_ne
 | n+1,h=>(zp_field (show pw x n*x=0 from h)).elim zp_pw id
theorem ownL_zero {a:Fp p}:∀{L:Facs p},(∀x∈L,Irr x.1∧x.1.len≤13)→ownL a L≠0→∃u v,u*prodF L+v*a=1
 | [],_,_=>⟨1,0,by show 1*1+0*a=1; exact ring_of [a] rfl⟩
 | x::L,h,h0=>by
  obtain ⟨h1,h2⟩:=h x (by simp)
  have ih:=ownL_zero (a:=a) (L:=L) (fun y hy=>h y (by simp [hy])) (fun e=>h0 (by rw [ownL,e,Gq.mul_zero]))
  rw [prodF_cons]
  refine cop_mul ?_ ih
  by_cases hk:x.2=0
  ·rw [hk]
   exact ⟨1,0,by show 1*1+0*a=1; exact ring_of [a] rfl⟩
  ·have hn:¬ Dv x.1 a:=fun hd=>h0 (by
    rw [ownL,(own_zero h1 h2 a).2 hd]
    obtain ⟨n,hn⟩:∃n,x.2=n+1:=⟨x.2-1,by omega⟩
    rw [hn,pw,Gq.mul_zero,Gq.zero_mul])
   obtain ⟨u,v,e⟩:=h1.coprime hn
   exact cop_pw ⟨u,v,e⟩ x.2
theorem ownL_ne {a:Fp p}:∀{L:Facs p},(∀x∈L,Irr x.1∧x.1.len≤13)→(∀x∈L,¬ Dv x.1 a)→ownL a L≠0
 | [],_,_=>Fd.one_ne
 | x::L,h,hn=>fun e=>by
  obtain ⟨h1,h2⟩:=h x (by simp)
  rcases zp_field e with g | g
  ·exact hn x (by simp) ((own_zero h1 h2 a).1 (zp_pw g))
  ·exact ownL_ne (fun y hy=>h y (by simp [hy])) (fun y hy=>hn y (by simp [hy])) g
theorem dv_prodF {x:Fp p×Nat}:∀{L:Facs p},x∈L→1≤x.2→Dv x.1 (prodF L)
 | y::L,h,h1=>by
  rw [prodF_cons]
  rcases List.mem_cons.1 h with rfl | h
  ·obtain ⟨n,hn⟩:∃n,x.2=n+1:=⟨x.2-1,by omega⟩
   rw [hn,pw]
   exact ⟨pw x.1 n*prodF L,by exact ring_of [pw x.1 n,x.1,prodF L] rfl⟩
  ·obtain ⟨c,hc⟩:=dv_prodF h h1
   exact ⟨pw y.1 y.2*c,by rw [hc]; exact ring_of [pw y.1 y.2,x.1,c] rfl⟩
end
section
variable {p:Int}
theorem zp_small {s:Int} (h0:0≤s) (h1:s<p):zp p s=0↔s=0:=by
 constructor
 ·intro h
  have:=zp_eq.1 (h.trans (zp_zero (p:=p)).symm)
  rwa [Int.emod_eq_of_lt h0 h1,Int.zero_emod] at this
 ·rintro rfl
  exact zp_zero _
end
section
variable {p:Int} [ip:IsP p]
theorem symb_zero {a m:Fp p} (hm:Monic m) (h13:m.len≤13) (hf:IsFac m (fac m)):symb p a m=0↔Pol.gcd a m≠1:=by
 obtain ⟨s0,s1⟩:=symb_in (p:=p) a m
 obtain ⟨t1,t2⟩:=hf.small hm.2 h13
 have hall:∀x∈fac m,Irr x.1∧x.1.len≤13:=fun x hx=>⟨(hf.ok.irr x hx).1,(t1 x hx).2.1⟩
 have em:prodF (fac m)=m:=by
  have:=hf.eq
  rw [hm.1,Pol.C_one,Gq.one_mul] at this
  exact this.symm
 rw [←zp_small s0 s1,symb_zp]
 constructor
 ·intro h0 hg
  refine ownL_ne hall (fun x hx hd=>?_) h0
  have hdm:Dv x.1 m:=by
   have:=dv_prodF hx (hf.ok.irr x hx).2.2
   rwa [em] at this
  exact un_not hm.2 (show Un m a from hg) x.1 (hall x hx).1 hdm hd
 ·intro hg
  refine Classical.byContradiction fun h0=>hg ?_
  obtain ⟨u,v,e⟩:=ownL_zero hall h0
  rw [em] at e
  have hor:a≠0∨m≠0:=.inr hm.2
  have hd:Dv (Pol.gcd a m) 1:=by
   rw [←e]
   exact ((Pol.gcd_dv_right hor).mul_left u).add ((Pol.gcd_dv_left hor).mul_left v)
  have h5:=hd.len Pol.one_ne
  rw [Pol.len_one] at h5
  have hmo:=Pol.gcd_monic hor
  have:=Pol.len_pos hmo.2
  exact hmo.eq_one (by omega)
end
theorem quad_all {p s:Int} (hp:p=3∨p=5∨p=7) (h0:0≤s) (h1:s<p):(quadI p s=0↔s=0)∧quadI p s*quadI p s≤1∧-1≤quadI p s∧quadI p s≤1:=by
 rcases hp with rfl | rfl | rfl
 ·rcases (show s=0∨s=1∨s=2 by omega) with rfl | rfl | rfl <;> decide
 ·rcases (show s=0∨s=1∨s=2∨s=3∨s=4 by omega) with rfl | rfl | rfl | rfl | rfl <;> decide
 ·rcases (show s=0∨s=1∨s=2∨s=3∨s=4∨s=5∨s=6 by omega) with rfl | rfl | rfl | rfl | rfl | rfl | rfl <;> decide
theorem quad_one {p:Int} (hp:p=3∨p=5∨p=7):quadI p 1=1:=by
 rcases hp with rfl | rfl | rfl <;> decide
section
variable {p:Int} [ip:IsP p]
theorem symb_one {m:Fp p} (hm:Monic m) (h13:m.len≤13) (hf:IsFac m (fac m)):symb p 1 m=1:=by
 obtain ⟨s0,s1⟩:=symb_in (p:=p) 1 m
 obtain ⟨t1,t2⟩:=hf.small hm.2 h13
 have hp:=IsP.ge (p:=p)
 have h:zp p (symb p 1 m)=zp p 1:=by
  rw [symb_zp,ownL_one fun x hx=>⟨(hf.ok.irr x hx).1,(t1 x hx).2.1⟩,zp_one]
 have:=zp_eq.1 h
 rwa [Int.emod_eq_of_lt s0 s1,Int.emod_eq_of_lt (by omega) (by omega)] at this
theorem numP_one:numP p 1=1:=Pol.ext fun i=>by
 have hp:=IsP.ge (p:=p)
 rw [numP_c ⟨by omega,by omega⟩,←Pol.C_one,Pol.c_C]
 split
 ·rename_i h
  rw [h,Int.pow_zero,Int.ediv_one,zp_one]
 ·rename_i h
  have h1:p^1≤p^i:=ipow_mono (by omega) (by omega)
  rw [Int.pow_succ,Int.pow_zero,Int.one_mul] at h1
  rw [Int.ediv_eq_zero_of_lt (by omega) (by omega),zp_zero]
theorem symSum_zero {m:Fp p} (hm:Monic m) (h13:m.len≤13) (hf:IsFac m (fac m)) (hp:p≠2):symSum p m 0=1:=by
 have h3:=ip.h
 show sumZ _ (p^0).toNat=1
 rw [Int.pow_zero]
 show 0+quadI p (symb p (numP p (1+((0:Nat):Int))) m)=1
 rw [show (1:Int)+((0:Nat):Int)=1 from rfl,numP_one,symb_one hm h13 hf,quad_one (by omega)]
 rfl
end
end Pe

namespace Pe
open Go Gq
section
variable {R α:Type} [CR R]
def lsum (f:α→R):List α→R
 | []=>0
 | x::l=>f x+lsum f l
theorem lsum_perm {f:α→R} {l m:List α} (h:l.Perm m):lsum f l=lsum f m:=by
 induction h with
 | nil=>rfl
 | cons x _ ih=>rw [lsum,lsum,ih]
 | swap x y l=>rw [lsum,lsum,lsum,lsum]; exact ring_of [f x,f y,lsum f l] rfl
 | trans _ _ h1 h2=>exact h1.trans h2
theorem lsum_map {β:Type} (f:α→R) (g:β→α):∀l:List β,lsum f (l.map g)=lsum (fun x=>f (g x)) l
 | []=>rfl
 | x::l=>by rw [List.map_cons,lsum,lsum,lsum_map f g l]
theorem lsum_mul (c:R) (f:α→R):∀l:List α,lsum (fun x=>c*f x) l=c*lsum f l
 | []=>by rw [lsum,lsum,Gq.mul_zero]
 | x::l=>by rw [lsum,lsum,lsum_mul c f l,Gq.mul_add]
theorem lsum_snoc (f:α→R) (x:α):∀l:List α,lsum f (l++[x])=lsum f l+f x
 | []=>by show f x+0=0+f x; rw [Gq.add_zero,Gq.zero_add]
 | y::l=>by rw [List.cons_append,lsum,lsum_snoc f x l,lsum,Gq.add_assoc]
theorem lsum_range (f:Nat→R):∀n:Nat,lsum f (List.range n)=sumR f n
 | 0=>rfl
 | n+1=>by rw [List.range_succ,lsum_snoc,lsum_range f n,sumR]
theorem sumR_block (f:Nat→R) (A:Nat):∀B:Nat,sumR f (A*B)=sumR (fun k=>sumR (fun j=>f (j+A*k)) A) B
 | 0=>rfl
 | B+1=>by
  have g:∀C:Nat,sumR f (A*B+C)=sumR f (A*B)+sumR (fun j=>f (j+A*B)) C:=fun C=>by
   induction C with
   | zero=>show _=_+0; rw [Gq.add_zero]; rfl
   | succ C ih=>rw [←Nat.add_assoc,sumR,ih,sumR,Gq.add_assoc,Nat.add_comm (A*B) C]
  rw [Nat.mul_succ,g,sumR_block f A B,sumR]
theorem sumR_zero (f:Nat→R) (h:∀i,f i=0):∀n,sumR f n=0
 | 0=>rfl
 | n+1=>by rw [sumR,sumR_zero f h n,h,Gq.add_zero]
end
section
variable {p:Int} [ip:IsP p]
noncomputable def allL (q:Fp p) (d:Nat):List (Quo q):=(List.range (p.toNat^d)).map fun (n:Nat)=>Quo.mk q (numP p n)
theorem allL_eq (q:Fp p) (d:Nat):allL q d=0::unitsL q d:=by
 obtain ⟨n,hn⟩:∃n,p.toNat^d=n+1:=⟨p.toNat^d-1,by have:=p_pow_pos (p:=p) d; omega⟩
 unfold allL unitsL
 rw [hn,List.range_succ_eq_map,List.map_cons,List.map_map,show n+1-1=n from rfl,show ((0:Nat):Int)=0 from rfl,numP_zero,Quo.mk_zero]
 rfl
theorem allL_nodup {q:Fp p} {d:Nat} (hq:q.len=d+1) (hd:p^d<1000000000000):(allL q d).Nodup:=by
 rw [allL_eq]
 exact List.nodup_cons.2 ⟨fun h=>(unitsL_mem hq hd 0).1 h rfl,unitsL_nodup hq hd⟩
theorem allL_mem {q:Fp p} {d:Nat} (hq:q.len=d+1) (hd:p^d<1000000000000) (x:Quo q):x∈allL q d:=by
 rw [allL_eq]
 by_cases h:x=0
 ·rw [h]; exact List.mem_cons_self
 ·exact List.mem_cons_of_mem _ ((unitsL_mem hq hd x).2 h)
theorem allL_perm {q:Fp p} {d:Nat} (hq:q.len=d+1) (hd:p^d<1000000000000) {g:Quo q→Quo q} (hg:∀x y,g x=g y→x=y):((allL q d).map g).Perm (allL q d):=by
 classical
 refine perm_of_sub ?_ (fun y _=>allL_mem hq hd y) (by rw [List.length_map])
 have hn:=allL_nodup hq hd
 unfold List.Nodup at hn ⊢
 rw [List.pairwise_map]
 exact hn.imp fun hab e=>hab (hg _ _ e)
theorem norm_sum {q:Fp p} (hi:Irr q) {d:Nat} (hq:q.len=d+1) (hd:p^d<1000000000000) (hd1:1≤d) (hp3:p≠2):lsum (fun x:Quo q=>pw x (geoE p d)) (allL q d)=0:=by
 have hp:=IsP.ge (p:=p)
 have h1:=geoE_pos (p:=p) hd1
 have h2:=geoE_eq (p:=p) d
 have hlt:geoE p d<p.toNat^d-1:=by
  have h3:geoE p d*3≤geoE p d*p.toNat:=Nat.mul_le_mul_left _ (by omega)
  omega
 obtain ⟨g,g0,gE⟩:=root_out hi hq hd h1 hlt
 have hinj:∀x y:Quo q,g*x=g*y→x=y:=fun x y e=>by
  have e2:g*(x-y)=0:=by
   rw [show g*(x-y)=g*x-g*y from ring_of [g,x,y] rfl,e,Gq.sub_self]
  exact eq_of_sub ((hi.quo_zero e2).resolve_left g0)
 have e:=lsum_perm (f:=fun x:Quo q=>pw x (geoE p d)) (allL_perm hq hd hinj)
 rw [lsum_map,show (fun x=>pw (g*x) (geoE p d))=fun x=>pw g (geoE p d)*pw x (geoE p d) from funext fun x=>pw_mul g x _,lsum_mul] at e
 have e2:(pw g (geoE p d)-1)*lsum (fun x:Quo q=>pw x (geoE p d)) (allL q d)=0:=by
  rw [show (pw g (geoE p d)-1)*lsum (fun x:Quo q=>pw x (geoE p d)) (allL q d)=pw g (geoE p d)*lsum (fun x:Quo q=>pw x (geoE p d)) (allL q d)-lsum (fun x:Quo q=>pw x (geoE p d)) (allL q d) from ring_of [pw g (geoE p d),lsum (fun x:Quo q=>pw x (geoE p d)) (allL q d)] rfl,e,Gq.sub_self]
 exact (hi.quo_zero e2).resolve_left fun h=>gE (eq_of_sub h)
theorem numP_step {n c:Int} (hn:0≤n) (c0:0≤c) (c1:c<p) (hb:p*n+c<18446744073709551616):numP p (p*n+c)=Pol.C (zp p c)+Pol.X*numP p n:=Pol.ext fun i=>by
 have hp:=IsP.ge (p:=p)
 have hpn:0≤p*n:=Int.mul_nonneg (by omega) hn
 have hn2:n≤p*n:=by
  have:=Int.mul_le_mul_of_nonneg_right (show 1≤p by omega) hn
  omega
 rw [numP_c ⟨by omega,hb⟩,Pol.c_add,Pol.c_C,Pol.c_Xmul]
 cases i with
 | zero=>
  rw [if_pos rfl,if_pos rfl,Gq.add_zero,Int.pow_zero,Int.ediv_one]
  exact zp_eq.2 (by rw [Int.add_comm,Int.add_mul_emod_self_left])
 | succ i=>
  rw [if_neg (by omega),if_neg (by omega),Gq.zero_add,show i+1-1=i from rfl,numP_c ⟨hn,by omega⟩,Int.pow_succ,Int.mul_comm (p^i),←Int.ediv_ediv_of_nonneg (by omega),Int.add_comm,Int.add_mul_ediv_left _ _ (by omega),Int.ediv_eq_zero_of_lt c0 c1,Int.zero_add]
theorem numP_split:∀(n:Nat) {c j:Int},0≤c→0≤j→j<p^n→p^n*c+j<18446744073709551616→numP p (p^n*c+j)=numP p (p^n*c)+numP p j
 | 0,c,j,hc,h0,h1,hb=>by
  rw [Int.pow_zero] at *
  obtain rfl:j=0:=by omega
  rw [Int.add_zero,numP_zero,Gq.add_zero]
 | n+1,c,j,hc,h0,h1,hb=>by
  have hp:=IsP.ge (p:=p)
  have hjd:0≤j/p:=Int.ediv_nonneg h0 (by omega)
  have hjm:=Int.emod_nonneg j (show p≠0 by omega)
  have hjl:=Int.emod_lt_of_pos j (show 0<p by omega)
  have hje:=Int.mul_ediv_add_emod j p
  have hj2:j/p<p^n:=Int.ediv_lt_of_lt_mul (by omega) (by rwa [Int.pow_succ] at h1)
  have hpc:0≤p^n*c:=Int.mul_nonneg (Int.pow_nonneg (by omega)) hc
  have e1:p^(n+1)*c=p*(p^n*c):=by rw [Int.pow_succ,Int.mul_comm (p^n),Int.mul_assoc]
  have hexp:p*(p^n*c+j/p)=p*(p^n*c)+p*(j/p):=Int.mul_add _ _ _
  have e2:p^(n+1)*c+j=p*(p^n*c+j/p)+j%p:=by omega
  have hjp:j/p≤p*(j/p):=by
   have:=Int.mul_le_mul_of_nonneg_right (show 1≤p by omega) hjd
   omega
  have hcp:p^n*c≤p*(p^n*c):=by
   have:=Int.mul_le_mul_of_nonneg_right (show 1≤p by omega) hpc
   omega
  have s1:=numP_step (p:=p) (n:=p^n*c+j/p) (c:=j%p) (by omega) hjm hjl (by omega)
  have s2:=numP_step (p:=p) (n:=p^n*c) (c:=0) hpc (by omega) (by omega) (by omega)
  have s3:=numP_step (p:=p) (n:=j/p) (c:=j%p) hjd hjm hjl (by omega)
  rw [hje] at s3
  rw [Int.add_zero,zp_zero,show Pol.C (0:Zp p)=0 from Pol.C_zero,Gq.zero_add] at s2
  rw [e2,s1,e1,s2,s3,numP_split n hc hjd hj2 (by omega)]
  exact ring_of [Pol.C (zp p (j%p)),Pol.X,numP p (p^n*c),numP p (j/p)] rfl
theorem sym_vanish {q:Fp p} (hi:Irr q) (mq:Monic q) (h13:q.len≤13) (hp3:p≠2) {d:Nat} (hd:q.len-1≤d) (hd12:d≤12):syS p q d%p=0:=by
 have h2:=hi.len
 have hp:=IsP.ge (p:=p)
 have hsmall:=pow_small (p:=p) (d:=q.len-1) (by omega)
 have hdl:=ppow_le (p:=p) (n:=d) (by omega)
 have hf:fac q=[(q,1)]:=fac_eq mq.2 (fac_irr hi mq)
 have hk:=kC_hom (q:=q)
 -- the symbol as a norm
 have hsy:∀a:Fp p,kC q (zp p (symb p a q))=pw (Quo.mk q a) (geoE p (q.len-1)):=fun a=>by
  rw [symb_zp,hf,own_mk hi h13]
  show kC q (pw (zp p (ownS p a q)) 1*1)=_
  rw [pw_1,Gq.mul_one]
  rfl
 have hsum:∀n:Nat,kC q (zp p (sumZ (syF p q d) n))=sumR (fun i=>pw (Quo.mk q (numP p (p^d+(i:Int)))) (geoE p (q.len-1))) n:=fun n=>by
  induction n with
  | zero=>
   show kC q (zp p 0)=0
   rw [zp_zero,hk.zero]
  | succ n ih=>
   show kC q (zp p (sumZ (syF p q d) n+symb p (numP p (p^d+(n:Int))) q))=_
   rw [zp_add,hk.add,ih,hsy,sumR]
 obtain ⟨e,rfl⟩:∃e,d=(q.len-1)+e:=⟨d-(q.len-1),by omega⟩
 have hA:=pow_nat (p:=p) (q.len-1)
 have hB:=pow_nat (p:=p) e
 have hAB:=pow_nat (p:=p) (q.len-1+e)
 have hN:(p^(q.len-1+e)).toNat=p.toNat^(q.len-1)*p.toNat^e:=by
  rw [←hAB,Int.toNat_natCast,Nat.pow_add]
 have hz:kC q (zp p (syS p q (q.len-1+e)))=0:=by
  unfold syS
  rw [hsum,hN,sumR_block]
  rw [sumR_congr (g:=fun _=>(0:Quo q)) fun k hk=>?_]
  ·exact sumR_zero _ (fun _=>rfl) _
  have hkp:(k:Int)<p^e:=by omega
  have hpe:0≤p^e:=Int.pow_nonneg (by omega)
  have hpn:0≤p^(q.len-1):=Int.pow_nonneg (by omega)
  have hmul:p^(q.len-1+e)=p^(q.len-1)*p^e:=Int.pow_add p _ _
  have hmk:p^(q.len-1)*(k:Int)≤p^(q.len-1)*p^e:=Int.mul_le_mul_of_nonneg_left (by omega) hpn
  have hmk0:0≤p^(q.len-1)*(k:Int):=Int.mul_nonneg hpn (by omega)
  have hle:p^(q.len-1)≤p^(q.len-1+e):=ipow_mono (by omega) (by omega)
  have hdis:p^(q.len-1)*(p^e+(k:Int))=p^(q.len-1)*p^e+p^(q.len-1)*(k:Int):=Int.mul_add _ _ _
  rw [sumR_congr (g:=fun (j:Nat)=>pw (Quo.mk q (numP p (p^(q.len-1)*(p^e+(k:Int))))+Quo.mk q (numP p (j:Int))) (geoE p (q.len-1))) fun j hj=>?_]
  ·rw [←lsum_range,←lsum_map (fun x:Quo q=>pw (Quo.mk q (numP p (p^(q.len-1)*(p^e+(k:Int))))+x) (geoE p (q.len-1))) (fun (n:Nat)=>Quo.mk q (numP p (n:Int)))]
   show lsum _ (allL q (q.len-1))=0
   have hq:q.len=q.len-1+1:=by omega
   have hpm:=allL_perm (q:=q) (d:=q.len-1) hq hsmall (g:=fun x=>Quo.mk q (numP p (p^(q.len-1)*(p^e+(k:Int))))+x) (fun x y h=>by
    have h1:(Quo.mk q (numP p (p^(q.len-1)*(p^e+(k:Int))))+x)-Quo.mk q (numP p (p^(q.len-1)*(p^e+(k:Int))))=x:=ring_of [Quo.mk q (numP p (p^(q.len-1)*(p^e+(k:Int)))),x] rfl
    have h2:(Quo.mk q (numP p (p^(q.len-1)*(p^e+(k:Int))))+y)-Quo.mk q (numP p (p^(q.len-1)*(p^e+(k:Int))))=y:=ring_of [Quo.mk q (numP p (p^(q.len-1)*(p^e+(k:Int)))),y] rfl
    rw [←h1,←h2]
    exact congrArg (· - Quo.mk q (numP p (p^(q.len-1)*(p^e+(k:Int))))) h)
   rw [←lsum_map (fun x:Quo q=>pw x (geoE p (q.len-1))) (fun x=>Quo.mk q (numP p (p^(q.len-1)*(p^e+(k:Int))))+x),lsum_perm hpm]
   exact norm_sum hi hq hsmall (by omega) hp3
  ·have hjp:(j:Int)<p^(q.len-1):=by omega
   have ecast:((j+p.toNat^(q.len-1)*k:Nat):Int)=(j:Int)+p^(q.len-1)*(k:Int):=by
    rw [Int.natCast_add,Int.natCast_mul,hA]
   rw [ecast,show p^(q.len-1+e)+((j:Int)+p^(q.len-1)*(k:Int))=p^(q.len-1)*(p^e+(k:Int))+(j:Int) by omega,numP_split (q.len-1) (by omega) (by omega) hjp (by omega),Quo.mk_add]
 have h0:zp p (syS p q (q.len-1+e))=0:=C_inj h2 (hz.trans hk.zero.symm)
 have:=zp_eq.1 (h0.trans (zp_zero p).symm)
 rwa [Int.zero_emod] at this
end
end Pe

namespace Pe
open Go Gq
variable {T:Nat→Option Fn} {A:Oracle}
def L_SymbolSums (O:Oracle):Prop:=∀code:List Int,Bytes code→code.length≤9223372036854775807→ask O F1q [.sl .leaf (ints .u8 code)]=some (D.bool true)
theorem ss_list {O:Oracle} (hsum:C_sumInts O) (hfa:∀(p:Int) (_:IsP p) (M:Fp p),M≠0→M.len≤13→IsFac M (fac M)) {q:Int} {n:List Int} (hn:Arr n) :
 ∃(ls:List Int) (two:Int),symPolyD q n=.tup [(D.sl .leaf (ints .i64 ls)),(D.int .i64 two)]∧ls.length<100∧(two≠0∨two=0∧0<ls.length∧ls[0]? = some 1∧ask O F1t [(D.sl .leaf (ints .i64 ls))]=some (D.int .i64 (sumW ls ls.length))):=by
 classical
 rcases arg1 q hn.2 hn.1 with ⟨h1,h2⟩ | ⟨ip,M,hM,rfl⟩
 ·exact ⟨[],1,symPolyD_bad h1,by simp,.inl (by omega)⟩
 ·rw [symPolyD_good hM]
  by_cases h:monOk M 5 (decide (q≠2))=0∧q^(M.len-2)≤343
  ·rw [if_pos h]
   have hm:Monic M∧2≤M.len∧M.len≤5+1∧decide (q≠2)=true:=Classical.byContradiction fun g=>by
    have:=monOk_two g
    rw [h.1] at this
    omega
   have hl:(symPoly q M).length=M.len-1:=by simp [symPoly]
   refine ⟨symPoly q M,0,rfl,by omega,.inr ⟨rfl,by omega,?_,hsum _ (by omega)⟩⟩
   obtain ⟨k,hk⟩:∃k,M.len-1=k+1:=⟨M.len-2,by omega⟩
   unfold symPoly
   rw [hk,List.range_succ_eq_map,List.map_cons]
   exact congrArg some (symSum_zero hm.1 (by omega) (hfa q ip M hm.1.2 (by omega)) (of_decide_eq_true hm.2.2.2))
  ·rw [if_neg h]
   exact ⟨[],2,rfl,by simp,.inl (by omega)⟩
theorem ss_deg {O:Oracle} (hdg:K_DegreeOf O) (hir:K_IsIrreducible O) {r d:Int} {l:List Int} (hl:Arr l) :
 ∃(small four dg:Int) (yes:Bool),ssD r l d=.tup [(D.int .i64 small),(D.int .i64 four)]∧(four≠0∨four=0∧ask O F6 [(D.int .i64 r),(D.arr 64 .leaf (ints .u8 l))]=some (.tup [(D.int .i64 dg),(D.int .i64 0)])∧ask O F8 [(D.int .i64 r),(D.arr 64 .leaf (ints .u8 l))]=some (.tup [(D.bool yes),(D.int .i64 0)])∧(yes=true→2<r→dg≤d→small=0)):=by
 classical
 rcases arg1 r hl.2 hl.1 with ⟨h1,h2⟩ | ⟨ip,M,hM,rfl⟩
 ·exact ⟨0,1,0,true,ssD_bad (by rw [h1]; omega),.inl (by omega)⟩
 ·by_cases h:Monic M∧2≤M.len∧M.len≤6∧SumDeg r d
  ·obtain ⟨g1,g2,g3,g4⟩:=h
   obtain ⟨n,rfl⟩:∃n:Nat,d=n:=⟨d.toNat,by have:=g4.1; omega⟩
   refine ⟨_,0,(M.len:Int)-1,decide (Monic M∧Irr M),ssD_ok g1 g2 g3 g4,.inr ⟨rfl,hdg r M hM,hir r M (by omega) (by omega),fun hy h2 hd=>?_⟩⟩
   have hy:=of_decide_eq_true hy
   have:=g4.2.1
   exact sym_vanish hy.2 g1 (by omega) (by omega) (by omega) (by omega)
  ·exact ⟨0,2,0,true,ssD_not hM h,.inl (by omega)⟩
theorem ss_quad {O:Oracle} (hgc:K_GcdOf O) (hfa:∀(p:Int) (_:IsP p) (M:Fp p),M≠0→M.len≤13→IsFac M (fac M)) {p:Int} {a m:List Int} (ha:Arr a) (hm:Arr m) :
 ∃(sy one:Int) (gc:List Int) (z:Bool),qsD p a m=.tup [(D.int .i64 sy),(D.int .i64 one)]∧((one≠0∧sy=0)∨(one=0∧(D.beq (.arr 64 .leaf .int) (D.arr 64 .leaf (ints .u8 a)) (D.arr 64 .leaf (ints .u8 (pad [])))=some true∧sy=0∨D.beq (.arr 64 .leaf .int) (D.arr 64 .leaf (ints .u8 a)) (D.arr 64 .leaf (ints .u8 (pad [])))=some false∧ask O F7 [(D.int .i64 p),(D.arr 64 .leaf (ints .u8 a)),(D.arr 64 .leaf (ints .u8 m))]=some (.tup [(D.arr 64 .leaf (ints .u8 gc)),(D.int .i64 0)])∧D.beq (.arr 64 .leaf .int) (D.arr 64 .leaf (ints .u8 gc)) (D.arr 64 .leaf (ints .u8 ((pad []).set 0 1)))=some z∧(sy=0↔z=false)∧-1≤sy∧sy≤1))):=by
 classical
 by_cases h0:codeP p [a,m]=0
 ·obtain ⟨ip,X,M,rfl,rfl,hX,hM⟩:=two_good ha.2 ha.1 hm.2 hm.1 h0
  by_cases h:Monic M∧2≤M.len∧M.len≤13∧p≠2
  ·obtain ⟨g1,g2,g3,g4⟩:=h
   have h3:=ip.h
   have hf:=hfa p ip M g1.2 g3
   obtain ⟨s0,s1⟩:=symb_in (p:=p) X M
   obtain ⟨q1,q2,q3,q4⟩:=quad_all (p:=p) (by omega) s0 s1
   have hz:=symb_zero (a:=X) g1 g3 hf
   refine ⟨_,0,pad (row (Pol.gcd X M)),decide (Pol.gcd X M=1),qsD_ok hX g1 g2 g3 g4,.inr ⟨rfl,?_⟩⟩
   by_cases hX0:X=0
   ·left
    subst hX0
    refine ⟨by rw [row_zero,beq_P (pad_length _) (pad_length _),decide_eq_true rfl],q1.2 (hz.2 fun hg=>?_)⟩
    have hd:Dv M (Pol.gcd (0:Fp p) M):=Pol.dv_gcd (.inr g1.2) ⟨0,(Gq.mul_zero M).symm⟩ (Dv.refl M)
    rw [hg] at hd
    have:=hd.len Pol.one_ne
    rw [Pol.len_one] at this
    omega
   ·right
    have hgl:(Pol.gcd X M).len≤64:=by
     have:=(Pol.gcd_dv_right (a:=X) (b:=M) (.inr g1.2)).len g1.2
     omega
    refine ⟨ne_pad hX0 hX,hgc p X M hX0 g1.2 hX hM,?_,?_,q3,q4⟩
    ·rw [beq_P (pad_length _) (by rw [List.length_set]; exact pad_length _),show (pad []).set 0 1=pad (row (1:Fp p)) by rw [row_one]; rfl]
     exact congrArg some (decide_eq_decide.2 (pad_row_inj hgl (by rw [Pol.len_one]; omega)))
    ·rw [q1,hz,decide_eq_false_iff_not]
  ·exact ⟨0,2,[],true,qsD_not hM h,.inl ⟨by omega,rfl⟩⟩
 ·exact ⟨0,1,[],true,qsD_bad h0,.inl ⟨by omega,rfl⟩⟩
theorem shD_form (p:Int) {l:List Int} (hl:Arr l) (d k:Int):∃(sh:List Int) (c:Int),shD p l d k=.tup [(D.arr 64 .leaf (ints .u8 sh)),(D.int .i64 c)]∧sh.length=64:=by
 unfold shD
 split
 ·split
  ·exact ⟨_,_,rfl,pad_length _⟩
  ·exact ⟨_,_,rfl,pad_length _⟩
 ·exact ⟨_,_,rfl,pad_length _⟩
theorem ss_B:Z1q_B=cutC 16 Z1q_B (dropC 16 Z1q_B):=by
 rw [Z1q_B]; rfl
theorem ss_B1:dropC 16 Z1q_B=cutC 1 (dropC 16 Z1q_B) (dropC 17 Z1q_B):=by
 rw [Z1q_B]; rfl
theorem ss_B2:dropC 17 Z1q_B=cutC 1 (dropC 17 Z1q_B) (dropC 18 Z1q_B):=by
 rw [Z1q_B]; rfl
theorem law_SymbolSums (hT:T F1q=some Z1q) (hbig:C_big (den T A)) (hd1:H_DrawQuadraticSymbol (den T A)) (hd2:H_DrawSymbolPolynomial (den T A)) (hd3:H_DrawSymbolSum (den T A)) (hd4:H_DrawShiftedSum (den T A))
 (hq:K_QuadraticSymbol (den T A) F9) (hqs:K_QuadraticSymbol (den T A) F2n) (hsp:K_SymbolPolynomial (den T A) Fb) (hsps:K_SymbolPolynomial (den T A) F2p)
 (hcs:K_ClassSum (den T A) F5) (hcss:K_ClassSum (den T A) F2i) (hss:K_SymbolSum (den T A) Fc) (hsss:K_SymbolSum (den T A) F2q) (hsh:K_ShiftedSum (den T A) Fa) (hshs:K_ShiftedSum (den T A) F2o)
 (hlk:C_likeInts (den T A)) (hsum:C_sumInts (den T A)) (hdg:K_DegreeOf (den T A)) (hir:K_IsIrreducible (den T A)) (hgc:K_GcdOf (den T A)) (hfa:K_fac (den T A)):L_SymbolSums (den T A):=by
 intro code hb hl
 have e0:=hbig (ints .u8 code)
 by_cases hc:(4096:Int)<(ints .u8 code).length
 ·rw [decide_eq_true hc] at e0
  refine ask_of hT rfl ?_
  simp -implicitDefEqProofs [Z1q,Z1q_B,dn_cond,e0]
 rw [decide_eq_false hc] at e0
 have hc4:code.length≤4096:=by
  rw [ints_length] at hc
  omega
 have hfac:∀(p:Int) (_:IsP p) (M:Fp p),M≠0→M.len≤13→IsFac M (fac M):=fun p ip M h0 h1=>(hfa p M h0 h1).1
 obtain ⟨p,a,m,d1,aa,am⟩:=hd1 code hb hc4
 obtain ⟨q,n,d2,an⟩:=hd2 code hb hc4
 obtain ⟨r,l,d,d3,al⟩:=hd3 code hb hc4
 obtain ⟨s,kk,e,f,d4,ak⟩:=hd4 code hb hc4
 have s1:=hq p a m aa.2 aa.1 am.2 am.1
 have s2:=hqs p a m aa.2 aa.1 am.2 am.1
 have p1:=hsp q n an.2 an.1
 have p2:=hsps q n an.2 an.1
 have c1:=hcs q n an.2 an.1
 have c2:=hcss q n an.2 an.1
 have f1:=hss r l d al.2 al.1
 have f2:=hsss r l d al.2 al.1
 have g1:=hsh s kk e f ak.2 ak.1
 have g2:=hshs s kk e f ak.2 ak.1
 obtain ⟨ls,two,hls,hll,htwo⟩:=ss_list hsum hfac (q:=q) an
 rw [hls] at p1 p2
 rw [hls,sumD_eq] at c1 c2
 have lk:=hlk ls (by omega)
 obtain ⟨small,four,dg,yes,hsm,hfour⟩:=ss_deg hdg hir (r:=r) (d:=d) al
 rw [hsm] at f1 f2
 obtain ⟨sh,five,hshd,hsl⟩:=shD_form s ak e f
 rw [hshd] at g1 g2
 have q1:D.beq (.arr 64 .leaf .int) (D.arr 64 .leaf (ints .u8 sh)) (D.arr 64 .leaf (ints .u8 sh))=some true:=by rw [beq_P hsl hsl,decide_eq_true rfl]
 obtain ⟨sy,one,gc,z,hqd,hone⟩:=ss_quad hgc hfac (p:=p) aa am
 rw [hqd] at s1 s2
 have k1:=ss_top (dropC 16 Z1q_B) e0 d1 s1 s2 d2 p1 p2 lk c1 c2 d3 f1 f2 d4 g1 g2 q1
 have k2:=ss_two (O:=den T A) (dropC 17 Z1q_B) (p:=p) (r:=r) (d:=d) (small:=small) (four:=four) (sy:=sy) (one:=one) (a:=a) (m:=m) (l:=l) htwo
 obtain ⟨x,b,k3⟩:=ss_four (p:=p) (sy:=sy) (one:=one) (a:=a) (m:=m) hfour
 have k3:=k3 (dropC 18 Z1q_B)
 obtain ⟨bs,hbs,k4⟩:=ss_one (O:=den T A) (x:=x) (b:=b) hone
 rw [←ss_B] at k1
 rw [←ss_B1] at k2
 rw [←ss_B2] at k3
 rw [k2,k3,k4] at k1
 refine ask_of hT rfl ?_
 simp -implicitDefEqProofs [Z1q,k1,hbs]
end Pe

namespace Pe
open Go Gq
abbrev tyB:Ty:=.sl (.int .u8)
theorem has_B {d:D} (h:tyB.has d):∃l:List Int,d=.sl .leaf (ints .u8 l)∧Bytes l∧l.length≤9223372036854775807:=by
 cases d <;> simp only [Ty.has] at h
 obtain ⟨rfl,h1,h2⟩:=h
 obtain ⟨l,rfl,hb⟩:=has_bytes _ h2
 exact ⟨l,rfl,hb,by simpa [ints] using h1⟩
end Pe
