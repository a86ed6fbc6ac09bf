/-
  A part of the proof: an evaluator for a small form of the code, its soundness, and contracts of functions over it.
-/
import Derived.Test.YtkkcmeenhegdiaaGreatW1
import Derived.Test.YtkkcmeenhegdiaaGreatW2
import Derived.Test.YtkkcmeenhegdiaaGreatW3
import Derived.Test.YtkkcmeenhegdiaaGreatW4
import Derived.Test.YtkkcmeenhegdiaaGreatW5

namespace Pe
open Go Gq
variable {T:Nat→Option Fn} {A:ap}
section
variable {p:Int} [IsP p]
end
section
variable {p:Int}
theorem yf:∀(k i:Nat),(pw (Pol.X:Fp p) k).c i=if i=k then 1 else 0
 | 0,i=>by show (Pol.C (1:Zp p)).c i=_; rw [Pol.c_C]
 | k+1,i=>by
  rw [pw,Gq.mul_comm,Pol.c_Xmul,yf k (i-1)]
  by_cases h:i=0
  ·rw [if_pos h,if_neg (by omega)]
  ·rw [if_neg h]
   by_cases h2:i=k+1
   ·rw [if_pos (by omega),if_pos h2]
   ·rw [if_neg (by omega),if_neg h2]
end
section
variable {p:Int} [IsP p]
theorem nk (k:Nat):(pw (Pol.X:Fp p) k).len=k+1:=by
 have h1:(pw (Pol.X:Fp p) k).len≤k+1:=Pol.len_le fun i hi=>by rw [yf,if_neg (by omega)]
 have h2:¬ (pw (Pol.X:Fp p) k).len≤k:=fun h=>by
  have:=lr (n:=k) h;rw [yf,if_pos rfl] at this;exact Fd.one_ne this
 omega
end
def Jj (O:ap):Prop:=∀(p:Int) [IsP p] (m x:Fp p),m≠0→m.len≤64→x.len≤64→ask O F1m [(D.int .i64 p),(D.sl .leaf (ah .i64 (row x))),(D.sl .leaf (ah .i64 (row m)))]=some (D.sl .leaf (ah .i64 (row (stp m x))))
theorem a9e (hT:T F1m=some Z1m) (hle:zk (den T A)) (ht:rh (den T A)) (hpw:Ai (den T A)) (hc:C5 (den T A)) (hr:uo (den T A)):Jj (den T A):=by
 intro p ip m x hm hml hx;have hp:=IsP.le (p:=p);have hp1:=IsP.pos (p:=p)
 have hX:(Pol.X:Fp p).len≤2:=Pol.len_le fun i hi=>by
  rw [show (Pol.X:Fp p)=pw Pol.X 1 from (rc _).symm,yf,if_neg (by omega)]
 have l1:=Tl (a:=(Pol.X:Fp p)) (b:=x) (x:=2) (y:=64) hX hx;have l2:=Pol.len_mod (pw x p.toNat) hm;have e1:ask (den T A) Fu []=some (D.sl .leaf (ah .i64 (row (Pol.X:Fp p)))):=by rw [a37]; exact hle
 have e2:=ht p Pol.X x (by omega) (by omega)
 have e3:=hpw p x p m hm (by omega) (by omega) (by omega) (by omega)
 have e4:=hc p (Pol.X*x) (pw x p.toNat%m) (by omega) (by omega)
 have l4:=Pol.len_add_le (a:=Pol.X*x) (b:=pw x p.toNat%m) (n:=4000) (by omega) (by omega)
 have e5:=hr p (Pol.X*x+pw x p.toNat%m) m hm (by omega) (by omega)
 rw [show (Pol.X*x+pw x p.toNat%m)%m=stp m x from rfl] at e5;refine cd hT rfl ?_;generalize row (stp m x)=R5 at *;generalize row (Pol.X*x+pw x p.toNat%m)=R4 at *;generalize row (pw x p.toNat%m)=R3 at *;generalize row (Pol.X*x)=R2 at *;generalize row (Pol.X:Fp p)=R1 at *;generalize row x=Rx at *;generalize row m=Rm at *;simp -implicitDefEqProofs [Z1m,Z1m_B,e1,e2,e3,e4,e5]
def wd (O:ap):Prop:=∀(p:Int) [IsP p] (m x:Fp p),m≠0→m.len≤64→x.len≤64→O F11 [.ptr 0 [],.ptr 1 [],.ptr 2 []] [.box false (D.sl .leaf (ah .i64 (row x))),.box false (D.int .i64 p),.box false (D.sl .leaf (ah .i64 (row m)))]=some ((.d (.sl .leaf (ah .i64 (row x)))),[.box false (D.sl .leaf (ah .i64 (row (stp m x)))),.box false (D.int .i64 p),.box false (D.sl .leaf (ah .i64 (row m)))],[])
theorem aa2 (hT:T F11=some Z11) (hs:Jj (den T A)):wd (den T A):=by
 intro p ip m x hm hml hx;have e1:=hs p m x hm hml hx;refine na hT rfl ?_;generalize row (stp m x)=R1 at *;generalize row x=Rx at *;generalize row m=Rm at *;simp -implicitDefEqProofs [Z11,Z11_B,e1]
def uy (O:ap):Prop:=∀l r:List Int,l.length<1000000→r.length<1000000→ask O F1j [(D.sl .leaf (ah .i64 l)),.ip (D.sl .leaf (ah .i64 r))]=some (D.bool (decide (l.length<r.length)))
theorem abk (hT:T F1j=some Z1j):uy (den T A):=by
 intro l r hl hr;refine cd hT rfl ?_;simp -implicitDefEqProofs [Z1j,Z1j_B]
def rg (O:ap):Prop:=∀(xs:List D) (v:D) (n i:Nat) (cap:Option Nat),xs.length=n→i≤n→n<1000000 →
 O F2f [.sl 0 [] 0 n cap,.d (.int .i64 i),.sl 1 [] 0 1 (some 1)] [.sl false .leaf xs,.sl false .leaf [v]]=some (.sl 2 [] 0 (n+1) none,[Blk.toGone (.sl false .leaf xs),.sl false .leaf [v]],[.sl false .leaf (xs.take i++v::xs.drop i)])
@[simp] theorem a90 (b:Blk):b.toGone.isHole=false:=rfl
def n5 (n:Nat):D→Bool
 | .sl _ cs=>decide (cs.length<n)
 | _=>false
theorem Qc {p:Int} (n:Nat):∀(ks:List (Fp p)) (i:Nat),(ks.Pairwise fun a b=>b.len<a.len)→(lj (n5 n) (ks.map cl) i=-1∧∀b∈ks,¬ b.len<n)∨∃k,lj (n5 n) (ks.map cl) i=((i+k:Nat):Int)∧k<ks.length∧(∀b∈ks.take k,¬ b.len<n)∧∀b∈ks.drop k,b.len<n
 | [],i,_=>.inl ⟨rfl,fun b hb=>(List.not_mem_nil hb).elim⟩
 | a::ks,i,hd=>by
  obtain ⟨h1,h2⟩:=d5.1 hd
  have hp:n5 n (cl a)=decide (a.len<n):=by
   show decide ((ah .i64 (row a)).length<n)=_;simp [ah]
  rw [cw,lj,hp]
  by_cases h:a.len<n
  ·rw [decide_eq_true h]
   exact .inr ⟨0,rfl,by simp,fun b hb=>by simp at hb,fun b hb=>by
    rcases d8.1 hb with rfl | hb
    ·exact h
    ·have:=h1 b hb; omega⟩
  ·rw [decide_eq_false h]
   rcases Qc n ks (i+1) h2 with ⟨g1,g2⟩ | ⟨k,g1,g2,g3,g4⟩
   ·exact .inl ⟨g1,fun b hb=>by
     rcases d8.1 hb with rfl | hb
     ·exact h
     ·exact g2 b hb⟩
   ·refine .inr ⟨k+1,?_,by simpa using g2,fun b hb=>?_,fun b hb=>g4 b (by simpa using hb)⟩
    ·show (if false=true then _ else lj (n5 n) (ks.map cl) (i+1))=_
     rw [if_neg (by simp),g1]; congr 1; omega
    ·rw [g8] at hb
     rcases d8.1 hb with rfl | hb
     ·exact h
     ·exact g3 b hb
theorem a4p {O:ap} (hi:gy O F2e .leaf) (h1:uy O) {p:Int} {ks:List (Fp p)} (hk:ks.length≤64) (hks:∀b∈ks,b.len≤64) {r:List Int} (hr:r.length≤64) :
 ask O F2e [.sl .leaf (ks.map cl),.fn F1j [] [.ip (D.sl .leaf (ah .i64 r))]]=some (D.int .i64 (lj (n5 r.length) (ks.map cl) 0)):=by
 refine hi F1j [] [.ip (D.sl .leaf (ah .i64 r))] (ks.map cl) (n5 r.length) ⟨fun x hx=>(by cases hx),fun x hx=>(by simp at hx; subst hx; rfl),fun x hx=>?_,fun x hx=>?_⟩ (fun x hx=>?_) (by rw [ba]; omega)
 ·obtain ⟨a,_,rfl⟩:=ch.1 hx
  rfl
 ·obtain ⟨a,ha,rfl⟩:=ch.1 hx
  have:=hks a ha;have e:=h1 (row a) r (by rw [bf]; omega) (by omega)
  rw [show n5 r.length (cl a)=decide ((row a).length<r.length) by
   show decide ((ah .i64 (row a)).length<r.length)=_;simp [ah]]
  exact e
 ·obtain ⟨a,_,rfl⟩:=ch.1 hx
  rfl
section
variable {p:Int} [IsP p]
theorem Gw {O:ap} (hc:fu O) (v b o t:Fp p) (hv:v.len≤64) (hb:b.len≤64) (ho:o.len≤65) (ht:t.len≤65):ask O F13 [(D.int .i64 p),(D.sl .leaf (ah .i64 (row v))),(D.sl .leaf (ah .i64 (row b))),(D.int .i64 (rlC v b))]=some (D.sl .leaf (ah .i64 (row (rlS v o b t).1))) ∧
 ask O F13 [(D.int .i64 p),(D.sl .leaf (ah .i64 (row o))),(D.sl .leaf (ah .i64 (row t))),(D.int .i64 (rlC v b))]=some (D.sl .leaf (ah .i64 (row (rlS v o b t).2))):=by
 have h:=Iz v b;exact ⟨hc p (rlC v b) v b (by omega) (by omega) (by omega) (by omega),hc p (rlC v b) o t (by omega) (by omega) (by omega) (by omega)⟩
theorem On (k n:Nat) (h:n=k+1):(List.replicate n (0:Int)).set k 1=row (pw (Pol.X:Fp p) k):=by
 subst h;apply f6;intro i;have hl:=nk (p:=p) k;unfold row;rw [fd,hl]
 by_cases hi:i<k+1
 ·rw [gv hi]
  by_cases hik:i=k
  ·subst hik
   rw [bc (by simp)]
   show some (1:Int)=some (rep ((pw (Pol.X:Fp p) i).c i));rw [yf,if_pos rfl,qb]
  ·rw [bh (iw hik),ju,if_pos hi]
   show some (0:Int)=some (rep ((pw (Pol.X:Fp p) k).c i));rw [yf,if_neg hik,rep_zero]
 ·rw [ce (by simp; omega),ce (by simp; omega)]; rfl
end
theorem a1x {O:ap} (hat:Bf O) (hld:my O) (hin:gq O) (hc:fu O) {p:Int} [IsP p] {m x:Fp p} {ks ts:List (Fp p)} {n k:Nat} {ck ct:Option Nat} (hks:ks.length=n) (hts:ts.length=n) (hn:n≤64) (hb:∀b∈ks,b≠0∧b.len≤64) (ht:∀t∈ts,t.len≤65):∀(r j:Nat) (v o:Fp p),j+r=n→v.len≤64→o.len≤65 →
 dn O 3 (.loop Z1i_L0) ⟨[(0,(.d (.int .i64 p))),(1,.fn F11 [] [.ptr 0 [],.ptr 1 [],.ptr 2 []]),(5,.sl 8 [] 0 n ck),(6,.sl 11 [] 0 n ct),(7,(.d (.int .i64 ((k:Nat))))),(8,.ptr 5 []),(9,(.d (.sl .leaf (ah .i64 (row o))))),(24,.sl 8 [] 0 n ck),(25,(.d (.int .i64 n))),(26,(.d (.int .i64 j)))],[.box false (D.sl .leaf (ah .i64 (row x))),.box false (D.int .i64 p),.box false (D.sl .leaf (ah .i64 (row m))),.hole,.hole,.box false (D.sl .leaf (ah .i64 (row v))),.hole,.hole,.sl false .leaf (ks.map cl),.hole,.hole,.sl false .leaf (ts.map cl),.hole]⟩ =
  some (.exit 2,⟨[(0,(.d (.int .i64 p))),(1,.fn F11 [] [.ptr 0 [],.ptr 1 [],.ptr 2 []]),(5,.sl 8 [] 0 n ck),(6,.sl 11 [] 0 n ct),(7,(.d (.int .i64 ((k:Nat))))),(8,.ptr 5 []),(9,(.d (.sl .leaf (ah .i64 (row (rlL (ks.drop j) (ts.drop j) v o).2))))),(24,.sl 8 [] 0 n ck),(25,(.d (.int .i64 n))),(26,(.d (.int .i64 n))),(27,(.d (.bool false)))],[.box false (D.sl .leaf (ah .i64 (row x))),.box false (D.int .i64 p),.box false (D.sl .leaf (ah .i64 (row m))),.hole,.hole,.box false (D.sl .leaf (ah .i64 (row (rlL (ks.drop j) (ts.drop j) v o).1))),.hole,.hole,.sl false .leaf (ks.map cl),.hole,.hole,.sl false .leaf (ts.map cl),.hole]⟩)
 | 0,j,v,o,hj,hv,ho=>by
  obtain rfl:j=n:=by omega
  rw [du (by omega),du (by omega)]
  refine cg ?_;rw [show rlL ([]:List (Fp p)) [] v o=(v,o) from rfl];generalize row v=Rv at *;generalize row o=Ro at *;generalize row x=Rx at *;generalize row m=Rm at *;generalize ks.map cl=K at *;generalize ts.map cl=Q at *;simp -implicitDefEqProofs [Z1i_L0,az]
 | r+1,j,v,o,hj,hv,ho=>by
  have h1:j<ks.length:=by omega
  have h2:j<ts.length:=by omega
  have hjn:j<n:=by omega
  have hjl:(j:Int)<n:=by omega
  obtain ⟨b0,bl⟩:=hb _ (c6 h1);have tl:=ht _ (c6 h2);have bp:=Pol.len_pos b0;have e1:=hat (row v) (ks[j].len-1) (by omega)
  rw [gd] at e1;have e2:=hld (row ks[j]) (by rw [bf]; omega)
  rw [vw] at e2;have hri:=im ks[j].ld;have hpl:=IsP.le (p:=p);have hpp:=IsP.ge (p:=p);have e3:=hin p (rep ks[j].ld) (by omega) (by omega) hri.1 hri.2
  obtain ⟨e4,e5⟩:=Gw hc v ks[j] o ts[j] hv bl ho tl;have hbd:=Iz v ks[j];have hri2:=im (v.c (ks[j].len-1));have w1:IntKind.i64.wrap (((row ks[j]).length:Int)-1)=((ks[j].len-1:Nat):Int):=by rw [bf]; exact (w64 (by omega)).trans (by omega)
  have w2:IntKind.i64.wrap (-rep (v.c (ks[j].len-1)))=-rep (v.c (ks[j].len-1)):=w64 (by omega)
  have w3:IntKind.i64.wrap (-rep (v.c (ks[j].len-1))*inv p (rep ks[j].ld))=rlC v ks[j]:=w64 (x:=rlC v ks[j]) (by omega)
  have w4:IntKind.i64.wrap ((j:Int)+1)=((j+1:Nat):Int):=(w64 (x:=(j:Int)+1) (by omega)).trans (by omega)
  have hx:∀h:j<(ks.map cl).length,(ks.map cl)[j]'h=(D.sl .leaf (ah .i64 (row ks[j]))):=fun h=>by rw [e9]
  have hy:∀h:j<(ts.map cl).length,(ts.map cl)[j]'h=(D.sl .leaf (ah .i64 (row ts[j]))):=fun h=>by rw [e9]
  have hKl:(ks.map cl).length=n:=by rw [ba]; exact hks
  have hQl:(ts.map cl).length=n:=by rw [ba]; exact hts
  have hd:rlL (ks.drop j) (ts.drop j) v o=rlL (ks.drop (j+1)) (ts.drop (j+1)) (rlS v o ks[j] ts[j]).1 (rlS v o ks[j] ts[j]).2:=by
   rw [bt h1,bt h2]; rfl
  rw [hd];refine c8 ?_ (a1x hat hld hin hc hks hts hn hb ht r (j+1) (rlS v o ks[j] ts[j]).1 (rlS v o ks[j] ts[j]).2 (by omega) (Pol.len_add_le hv (dk (ma _ _) bl)) (Pol.len_add_le ho (dk (ma _ _) tl)))
  generalize rlC v ks[j]=by1 at *;generalize row (rlS v o ks[j] ts[j]).1=R1 at *;generalize row (rlS v o ks[j] ts[j]).2=R2 at *;generalize inv p (rep ks[j].ld)=iv at *;generalize rep ks[j].ld=ldb at *;generalize rep (v.c (ks[j].len-1))=cv0 at *;generalize ks[j].len-1=dd at *;generalize row ks[j]=Rb at *;generalize row ts[j]=Rt at *;generalize row v=Rv at *;generalize row o=Ro at *;generalize row x=Rx at *;generalize row m=Rm at *;generalize ks.map cl=K at *;generalize ts.map cl=Q at *;simp -implicitDefEqProofs [Z1i_L0,az,hjl,hjn,hKl,hQl,hx,hy,e1,e2,e3,e4,e5,w1,w2,w3,w4]
theorem Wf {O:ap} (hat:Bf O) (hld:my O) (hin:gq O) (hc:fu O) {p:Int} [IsP p] {m x:Fp p} {ks ts:List (Fp p)} {n k:Nat} {ck ct:Option Nat} (hks:ks.length=n) (hts:ts.length=n) (hn:n≤64) (hb:∀b∈ks,b≠0∧b.len≤64) (ht:∀t∈ts,t.len≤65) (hn1:1≤n) {OW:List D} {n1:Nat} {co:Option Nat} (v o:Fp p) (hOW:OW=ah .i64 (row o)) (hOl:OW.length=n1) (hv:v.len≤64) (ho:o.len≤65) :
 dn O 3 (.loop Z1i_L0) ⟨[(0,(.d (.int .i64 p))),(1,.fn F11 [] [.ptr 0 [],.ptr 1 [],.ptr 2 []]),(5,.sl 8 [] 0 n ck),(6,.sl 11 [] 0 n ct),(7,(.d (.int .i64 ((k:Nat))))),(8,.ptr 5 []),(9,.sl 6 [] 0 n1 co),(24,.sl 8 [] 0 n ck),(25,(.d (.int .i64 n))),(26,(.d (.int .i64 ((0:Int)))))],[.box false (D.sl .leaf (ah .i64 (row x))),.box false (D.int .i64 p),.box false (D.sl .leaf (ah .i64 (row m))),.hole,.hole,.box false (D.sl .leaf (ah .i64 (row v))),.sl false .leaf OW,.hole,.sl false .leaf (ks.map cl),.hole,.hole,.sl false .leaf (ts.map cl),.hole]⟩ =
  some (.exit 2,⟨[(0,(.d (.int .i64 p))),(1,.fn F11 [] [.ptr 0 [],.ptr 1 [],.ptr 2 []]),(5,.sl 8 [] 0 n ck),(6,.sl 11 [] 0 n ct),(7,(.d (.int .i64 ((k:Nat))))),(8,.ptr 5 []),(9,(.d (.sl .leaf (ah .i64 (row (rlL ks ts v o).2))))),(24,.sl 8 [] 0 n ck),(25,(.d (.int .i64 n))),(26,(.d (.int .i64 n))),(27,(.d (.bool false)))],[.box false (D.sl .leaf (ah .i64 (row x))),.box false (D.int .i64 p),.box false (D.sl .leaf (ah .i64 (row m))),.hole,.hole,.box false (D.sl .leaf (ah .i64 (row (rlL ks ts v o).1))),.hole,.hole,.sl false .leaf (ks.map cl),.hole,.hole,.sl false .leaf (ts.map cl),.hole]⟩):=by
 have h1:0<ks.length:=by omega
 have h2:0<ts.length:=by omega
 have hjn:0<n:=by omega
 have hjl:(0:Int)<n:=by omega
 obtain ⟨b0,bl⟩:=hb _ (c6 h1);have tl:=ht _ (c6 h2);have bp:=Pol.len_pos b0;have e1:=hat (row v) (ks[0].len-1) (by omega)
 rw [gd] at e1;have e2:=hld (row ks[0]) (by rw [bf]; omega)
 rw [vw] at e2;have hri:=im ks[0].ld;have hpl:=IsP.le (p:=p);have hpp:=IsP.ge (p:=p);have e3:=hin p (rep ks[0].ld) (by omega) (by omega) hri.1 hri.2
 obtain ⟨e4,e5⟩:=Gw hc v ks[0] o ts[0] hv bl ho tl;rw [←hOW] at e5;have hbd:=Iz v ks[0];have hri2:=im (v.c (ks[0].len-1));have w1:IntKind.i64.wrap (((row ks[0]).length:Int)-1)=((ks[0].len-1:Nat):Int):=by rw [bf]; exact (w64 (by omega)).trans (by omega)
 have w2:IntKind.i64.wrap (-rep (v.c (ks[0].len-1)))=-rep (v.c (ks[0].len-1)):=w64 (by omega)
 have w3:IntKind.i64.wrap (-rep (v.c (ks[0].len-1))*inv p (rep ks[0].ld))=rlC v ks[0]:=w64 (x:=rlC v ks[0]) (by omega)
 have w4:IntKind.i64.wrap 1=1:=rfl;have hx:∀h:0<(ks.map cl).length,(ks.map cl)[0]'h=(D.sl .leaf (ah .i64 (row ks[0]))):=fun h=>by rw [e9]
 have hy:∀h:0<(ts.map cl).length,(ts.map cl)[0]'h=(D.sl .leaf (ah .i64 (row ts[0]))):=fun h=>by rw [e9]
 have hKl:(ks.map cl).length=n:=by rw [ba]; exact hks
 have hQl:(ts.map cl).length=n:=by rw [ba]; exact hts
 have hd:rlL ks ts v o=rlL (ks.drop (0+1)) (ts.drop (0+1)) (rlS v o ks[0] ts[0]).1 (rlS v o ks[0] ts[0]).2:=by
  have g1:=bt h1;have g2:=bt h2;rw [dx] at g1 g2
  conv=>lhs; rw [g1,g2]
  rfl
 rw [hd];refine c8 ?_ (a1x hat hld hin hc hks hts hn hb ht (n-1) (0+1) (rlS v o ks[0] ts[0]).1 (rlS v o ks[0] ts[0]).2 (by omega) (Pol.len_add_le hv (dk (ma _ _) bl)) (Pol.len_add_le ho (dk (ma _ _) tl)))
 have ht1:List.take n1 OW=OW:=bb (by omega)
 clear hOW hd;generalize rlC v ks[0]=by1 at *;generalize row (rlS v o ks[0] ts[0]).1=R1 at *;generalize row (rlS v o ks[0] ts[0]).2=R2 at *;generalize inv p (rep ks[0].ld)=iv at *;generalize rep ks[0].ld=ldb at *;generalize rep (v.c (ks[0].len-1))=cv0 at *;generalize ks[0].len-1=dd at *;generalize row ks[0]=Rb at *;generalize row ts[0]=Rt at *;generalize row v=Rv at *;generalize row x=Rx at *;generalize row m=Rm at *;generalize ks.map cl=K at *;generalize ts.map cl=Q at *;simp -implicitDefEqProofs [Z1i_L0,az,hjn,hKl,hQl,hx,hy,e1,e2,e3,e4,e5,w1,w2,w3,w4,hOl,ht1]
theorem a19 {O:ap} (hat:Bf O) (hld:my O) (hin:gq O) (hc:fu O) {p:Int} [IsP p] {m x:Fp p} {ks ts:List (Fp p)} {n k:Nat} {ck ct:Option Nat} (hks:ks.length=n) (hts:ts.length=n) (hn:n≤64) (hb:∀b∈ks,b≠0∧b.len≤64) (ht:∀t∈ts,t.len≤65):∀(r j:Nat) (v o:Fp p),j+r=n→v.len≤64→o.len≤65 →
 dn O 3 (.loop Z1i_L0) ⟨[(0,(.d (.int .i64 p))),(1,.fn F11 [] [.ptr 0 [],.ptr 1 [],.ptr 2 []]),(5,.sl 9 [] 0 n ck),(6,.sl 12 [] 0 n ct),(7,(.d (.int .i64 ((k:Nat))))),(8,.ptr 5 []),(9,(.d (.sl .leaf (ah .i64 (row o))))),(24,.sl 9 [] 0 n ck),(25,(.d (.int .i64 n))),(26,(.d (.int .i64 j)))],[.box false (D.sl .leaf (ah .i64 (row x))),.box false (D.int .i64 p),.box false (D.sl .leaf (ah .i64 (row m))),.hole,.hole,.box false (D.sl .leaf (ah .i64 (row v))),.hole,.hole,.hole,.sl false .leaf (ks.map cl),.hole,.hole,.sl false .leaf (ts.map cl)]⟩ =
  some (.exit 2,⟨[(0,(.d (.int .i64 p))),(1,.fn F11 [] [.ptr 0 [],.ptr 1 [],.ptr 2 []]),(5,.sl 9 [] 0 n ck),(6,.sl 12 [] 0 n ct),(7,(.d (.int .i64 ((k:Nat))))),(8,.ptr 5 []),(9,(.d (.sl .leaf (ah .i64 (row (rlL (ks.drop j) (ts.drop j) v o).2))))),(24,.sl 9 [] 0 n ck),(25,(.d (.int .i64 n))),(26,(.d (.int .i64 n))),(27,(.d (.bool false)))],[.box false (D.sl .leaf (ah .i64 (row x))),.box false (D.int .i64 p),.box false (D.sl .leaf (ah .i64 (row m))),.hole,.hole,.box false (D.sl .leaf (ah .i64 (row (rlL (ks.drop j) (ts.drop j) v o).1))),.hole,.hole,.hole,.sl false .leaf (ks.map cl),.hole,.hole,.sl false .leaf (ts.map cl)]⟩)
 | 0,j,v,o,hj,hv,ho=>by
  obtain rfl:j=n:=by omega
  rw [du (by omega),du (by omega)]
  refine cg ?_;rw [show rlL ([]:List (Fp p)) [] v o=(v,o) from rfl];generalize row v=Rv at *;generalize row o=Ro at *;generalize row x=Rx at *;generalize row m=Rm at *;generalize ks.map cl=K at *;generalize ts.map cl=Q at *;simp -implicitDefEqProofs [Z1i_L0,az]
 | r+1,j,v,o,hj,hv,ho=>by
  have h1:j<ks.length:=by omega
  have h2:j<ts.length:=by omega
  have hjn:j<n:=by omega
  have hjl:(j:Int)<n:=by omega
  obtain ⟨b0,bl⟩:=hb _ (c6 h1);have tl:=ht _ (c6 h2);have bp:=Pol.len_pos b0;have e1:=hat (row v) (ks[j].len-1) (by omega)
  rw [gd] at e1;have e2:=hld (row ks[j]) (by rw [bf]; omega)
  rw [vw] at e2;have hri:=im ks[j].ld;have hpl:=IsP.le (p:=p);have hpp:=IsP.ge (p:=p);have e3:=hin p (rep ks[j].ld) (by omega) (by omega) hri.1 hri.2
  obtain ⟨e4,e5⟩:=Gw hc v ks[j] o ts[j] hv bl ho tl;have hbd:=Iz v ks[j];have hri2:=im (v.c (ks[j].len-1));have w1:IntKind.i64.wrap (((row ks[j]).length:Int)-1)=((ks[j].len-1:Nat):Int):=by rw [bf]; exact (w64 (by omega)).trans (by omega)
  have w2:IntKind.i64.wrap (-rep (v.c (ks[j].len-1)))=-rep (v.c (ks[j].len-1)):=w64 (by omega)
  have w3:IntKind.i64.wrap (-rep (v.c (ks[j].len-1))*inv p (rep ks[j].ld))=rlC v ks[j]:=w64 (x:=rlC v ks[j]) (by omega)
  have w4:IntKind.i64.wrap ((j:Int)+1)=((j+1:Nat):Int):=(w64 (x:=(j:Int)+1) (by omega)).trans (by omega)
  have hx:∀h:j<(ks.map cl).length,(ks.map cl)[j]'h=(D.sl .leaf (ah .i64 (row ks[j]))):=fun h=>by rw [e9]
  have hy:∀h:j<(ts.map cl).length,(ts.map cl)[j]'h=(D.sl .leaf (ah .i64 (row ts[j]))):=fun h=>by rw [e9]
  have hKl:(ks.map cl).length=n:=by rw [ba]; exact hks
  have hQl:(ts.map cl).length=n:=by rw [ba]; exact hts
  have hd:rlL (ks.drop j) (ts.drop j) v o=rlL (ks.drop (j+1)) (ts.drop (j+1)) (rlS v o ks[j] ts[j]).1 (rlS v o ks[j] ts[j]).2:=by
   rw [bt h1,bt h2]; rfl
  rw [hd];refine c8 ?_ (a19 hat hld hin hc hks hts hn hb ht r (j+1) (rlS v o ks[j] ts[j]).1 (rlS v o ks[j] ts[j]).2 (by omega) (Pol.len_add_le hv (dk (ma _ _) bl)) (Pol.len_add_le ho (dk (ma _ _) tl)))
  generalize rlC v ks[j]=by1 at *;generalize row (rlS v o ks[j] ts[j]).1=R1 at *;generalize row (rlS v o ks[j] ts[j]).2=R2 at *;generalize inv p (rep ks[j].ld)=iv at *;generalize rep ks[j].ld=ldb at *;generalize rep (v.c (ks[j].len-1))=cv0 at *;generalize ks[j].len-1=dd at *;generalize row ks[j]=Rb at *;generalize row ts[j]=Rt at *;generalize row v=Rv at *;generalize row o=Ro at *;generalize row x=Rx at *;generalize row m=Rm at *;generalize ks.map cl=K at *;generalize ts.map cl=Q at *;simp -implicitDefEqProofs [Z1i_L0,az,hjl,hjn,hKl,hQl,hx,hy,e1,e2,e3,e4,e5,w1,w2,w3,w4]
theorem Xo {O:ap} (hat:Bf O) (hld:my O) (hin:gq O) (hc:fu O) {p:Int} [IsP p] {m x:Fp p} {ks ts:List (Fp p)} {n k:Nat} {ck ct:Option Nat} (hks:ks.length=n) (hts:ts.length=n) (hn:n≤64) (hb:∀b∈ks,b≠0∧b.len≤64) (ht:∀t∈ts,t.len≤65) (hn1:1≤n) {OW:List D} {n1:Nat} {co:Option Nat} (v o:Fp p) (hOW:OW=ah .i64 (row o)) (hOl:OW.length=n1) (hv:v.len≤64) (ho:o.len≤65) :
 dn O 3 (.loop Z1i_L0) ⟨[(0,(.d (.int .i64 p))),(1,.fn F11 [] [.ptr 0 [],.ptr 1 [],.ptr 2 []]),(5,.sl 9 [] 0 n ck),(6,.sl 12 [] 0 n ct),(7,(.d (.int .i64 ((k:Nat))))),(8,.ptr 5 []),(9,.sl 6 [] 0 n1 co),(24,.sl 9 [] 0 n ck),(25,(.d (.int .i64 n))),(26,(.d (.int .i64 ((0:Int)))))],[.box false (D.sl .leaf (ah .i64 (row x))),.box false (D.int .i64 p),.box false (D.sl .leaf (ah .i64 (row m))),.hole,.hole,.box false (D.sl .leaf (ah .i64 (row v))),.sl false .leaf OW,.hole,.hole,.sl false .leaf (ks.map cl),.hole,.hole,.sl false .leaf (ts.map cl)]⟩ =
  some (.exit 2,⟨[(0,(.d (.int .i64 p))),(1,.fn F11 [] [.ptr 0 [],.ptr 1 [],.ptr 2 []]),(5,.sl 9 [] 0 n ck),(6,.sl 12 [] 0 n ct),(7,(.d (.int .i64 ((k:Nat))))),(8,.ptr 5 []),(9,(.d (.sl .leaf (ah .i64 (row (rlL ks ts v o).2))))),(24,.sl 9 [] 0 n ck),(25,(.d (.int .i64 n))),(26,(.d (.int .i64 n))),(27,(.d (.bool false)))],[.box false (D.sl .leaf (ah .i64 (row x))),.box false (D.int .i64 p),.box false (D.sl .leaf (ah .i64 (row m))),.hole,.hole,.box false (D.sl .leaf (ah .i64 (row (rlL ks ts v o).1))),.hole,.hole,.hole,.sl false .leaf (ks.map cl),.hole,.hole,.sl false .leaf (ts.map cl)]⟩):=by
 have h1:0<ks.length:=by omega
 have h2:0<ts.length:=by omega
 have hjn:0<n:=by omega
 have hjl:(0:Int)<n:=by omega
 obtain ⟨b0,bl⟩:=hb _ (c6 h1);have tl:=ht _ (c6 h2);have bp:=Pol.len_pos b0;have e1:=hat (row v) (ks[0].len-1) (by omega)
 rw [gd] at e1;have e2:=hld (row ks[0]) (by rw [bf]; omega)
 rw [vw] at e2;have hri:=im ks[0].ld;have hpl:=IsP.le (p:=p);have hpp:=IsP.ge (p:=p);have e3:=hin p (rep ks[0].ld) (by omega) (by omega) hri.1 hri.2
 obtain ⟨e4,e5⟩:=Gw hc v ks[0] o ts[0] hv bl ho tl;rw [←hOW] at e5;have hbd:=Iz v ks[0];have hri2:=im (v.c (ks[0].len-1));have w1:IntKind.i64.wrap (((row ks[0]).length:Int)-1)=((ks[0].len-1:Nat):Int):=by rw [bf]; exact (w64 (by omega)).trans (by omega)
 have w2:IntKind.i64.wrap (-rep (v.c (ks[0].len-1)))=-rep (v.c (ks[0].len-1)):=w64 (by omega)
 have w3:IntKind.i64.wrap (-rep (v.c (ks[0].len-1))*inv p (rep ks[0].ld))=rlC v ks[0]:=w64 (x:=rlC v ks[0]) (by omega)
 have w4:IntKind.i64.wrap 1=1:=rfl;have hx:∀h:0<(ks.map cl).length,(ks.map cl)[0]'h=(D.sl .leaf (ah .i64 (row ks[0]))):=fun h=>by rw [e9]
 have hy:∀h:0<(ts.map cl).length,(ts.map cl)[0]'h=(D.sl .leaf (ah .i64 (row ts[0]))):=fun h=>by rw [e9]
 have hKl:(ks.map cl).length=n:=by rw [ba]; exact hks
 have hQl:(ts.map cl).length=n:=by rw [ba]; exact hts
 have hd:rlL ks ts v o=rlL (ks.drop (0+1)) (ts.drop (0+1)) (rlS v o ks[0] ts[0]).1 (rlS v o ks[0] ts[0]).2:=by
  have g1:=bt h1;have g2:=bt h2;rw [dx] at g1 g2
  conv=>lhs; rw [g1,g2]
  rfl
 rw [hd];refine c8 ?_ (a19 hat hld hin hc hks hts hn hb ht (n-1) (0+1) (rlS v o ks[0] ts[0]).1 (rlS v o ks[0] ts[0]).2 (by omega) (Pol.len_add_le hv (dk (ma _ _) bl)) (Pol.len_add_le ho (dk (ma _ _) tl)))
 have ht1:List.take n1 OW=OW:=bb (by omega)
 clear hOW hd;generalize rlC v ks[0]=by1 at *;generalize row (rlS v o ks[0] ts[0]).1=R1 at *;generalize row (rlS v o ks[0] ts[0]).2=R2 at *;generalize inv p (rep ks[0].ld)=iv at *;generalize rep ks[0].ld=ldb at *;generalize rep (v.c (ks[0].len-1))=cv0 at *;generalize ks[0].len-1=dd at *;generalize row ks[0]=Rb at *;generalize row ts[0]=Rt at *;generalize row v=Rv at *;generalize row x=Rx at *;generalize row m=Rm at *;generalize ks.map cl=K at *;generalize ts.map cl=Q at *;simp -implicitDefEqProofs [Z1i_L0,az,hjn,hKl,hQl,hx,hy,e1,e2,e3,e4,e5,w1,w2,w3,w4,hOl,ht1]
theorem a68 {O:ap} (ha1:wd O) (hat:Bf O) (hld:my O) (hin:gq O) (hc:fu O) (_hix:gy O F2e .leaf) (_hr1:uy O) (_hins:rg O) {p:Int} [IsP p] {m x:Fp p} (hm:m≠0) (hml:m.len≤64) (hx:x.len≤64) {ks ts:List (Fp p)} {n:Nat} {ck ct:Option Nat} (hks:ks.length=n) (hts:ts.length=n) (hn:n≤64) (hb:∀b∈ks,b≠0∧b.len≤64) (ht:∀t∈ts,t.len≤65) (h1:1≤n) {o:Fp p} (hr:rlL ks ts x (pw Pol.X n)=(0,o)) :
 dn O 3 Z1i_L1 ⟨[(0,(.d (.int .i64 p))),(1,.fn F11 [] [.ptr 0 [],.ptr 1 [],.ptr 2 []]),(5,.sl 8 [] 0 n ck),(6,.sl 11 [] 0 n ct),(7,(.d (.int .i64 ((n:Nat)))))],[.box false (D.sl .leaf (ah .i64 (row x))),.box false (D.int .i64 p),.box false (D.sl .leaf (ah .i64 (row m))),.hole,.hole,.hole,.hole,.hole,.sl false .leaf (ks.map cl),.hole,.hole,.sl false .leaf (ts.map cl),.hole]⟩=some (.ret,⟨[(4,(.d (.sl .leaf (ah .i64 (row o)))))],[.box false (D.sl .leaf (ah .i64 (row (stp m x)))),.box false (D.int .i64 p),.box false (D.sl .leaf (ah .i64 (row m))),.hole,.hole,.hole,.hole,.hole,.hole,.hole,.hole,.hole,.hole]⟩):=by
 have hKl:(ks.map cl).length=n:=by rw [ba]; exact hks
 have hQl:(ts.map cl).length=n:=by rw [ba]; exact hts
 have htK:(ks.map cl).take n=ks.map cl:=bb (by omega)
 have htQ:(ts.map cl).take n=ts.map cl:=bb (by omega)
 have e0:=ha1 p m x hm hml hx;obtain ⟨n1,hn1⟩:∃n1,n1=n+1:=⟨_,rfl⟩;have hn1':n<n1:=by omega
 have hn2:n1*8≤1099511627776:=by omega
 have w1:IntKind.i64.wrap ((n:Int)+1)=(n1:Int):=(w64 (x:=(n:Int)+1) (by omega)).trans (by omega)
 have hXl:=nk (p:=p) n;have ein:=Wf (O:=O) hat hld hin hc (m:=m) (x:=stp m x) (k:=n) (ck:=ck) (ct:=ct) hks hts hn hb ht h1 (OW:=ah .i64 ((List.replicate n1 (0:Int)).set n 1)) (n1:=n1) (co:=some n1) x (pw Pol.X n) (by rw [On (p:=p) n n1 hn1]) (by unfold ah; rw [ba,cx,cu]) hx (by omega)
 rw [hr] at ein;rw [show row ((0:Fp p),o).1=[] from ee,show ((0:Fp p),o).2=o from rfl] at ein;generalize row o=Ro at *;generalize row (stp m x)=R1 at *;generalize row x=Rx at *;generalize row m=Rm at *;generalize row (pw (Pol.X:Fp p) n)=Rk at *;generalize ks.map cl=K at *;generalize ts.map cl=Q at *;simp -implicitDefEqProofs [Z1i_L1,az,e0,w1,hn1',hn2,ein,jf,List.idxOf,List.findIdx,List.findIdx.go]
theorem a7s {O:ap} (ha1:wd O) (hat:Bf O) (hld:my O) (hin:gq O) (hc:fu O) (hix:gy O F2e .leaf) (hr1:uy O) (hins:rg O) {p:Int} [IsP p] {m x:Fp p} (hm:m≠0) (hml:m.len≤64) (hx:x.len≤64) {ks ts:List (Fp p)} {n:Nat} {ck ct:Option Nat} (hks:ks.length=n) (hts:ts.length=n) (hn:n≤64) (hb:∀b∈ks,b≠0∧b.len≤64) (ht:∀t∈ts,t.len≤65) (h1:1≤n) {v o:Fp p} (hr:rlL ks ts x (pw Pol.X n)=(v,o)) (hv:v≠0) (hvl:v.len≤64) {i:Nat} (hi:i≤n) (hid:(lj (n5 v.len) (ks.map cl) 0=-1∧i=n)∨lj (n5 v.len) (ks.map cl) 0=(i:Int)) :
 dn O 3 Z1i_L1 ⟨[(0,(.d (.int .i64 p))),(1,.fn F11 [] [.ptr 0 [],.ptr 1 [],.ptr 2 []]),(5,.sl 8 [] 0 n ck),(6,.sl 11 [] 0 n ct),(7,(.d (.int .i64 ((n:Nat)))))],[.box false (D.sl .leaf (ah .i64 (row x))),.box false (D.int .i64 p),.box false (D.sl .leaf (ah .i64 (row m))),.hole,.hole,.hole,.hole,.hole,.sl false .leaf (ks.map cl),.hole,.hole,.sl false .leaf (ts.map cl),.hole]⟩=some (.normal,⟨[(0,(.d (.int .i64 p))),(1,.fn F11 [] [.ptr 0 [],.ptr 1 [],.ptr 2 []]),(5,.sl 9 [] 0 (n+1) none),(6,.sl 12 [] 0 (n+1) none),(7,(.d (.int .i64 (((n+1):Nat)))))],[.box false (D.sl .leaf (ah .i64 (row (stp m x)))),.box false (D.int .i64 p),.box false (D.sl .leaf (ah .i64 (row m))),.hole,.hole,.hole,.hole,.hole,.hole,.sl false .leaf ((ks.take i++v::ks.drop i).map cl),.hole,.hole,.sl false .leaf ((ts.take i++o::ts.drop i).map cl)]⟩):=by
 have hKl:(ks.map cl).length=n:=by rw [ba]; exact hks
 have hQl:(ts.map cl).length=n:=by rw [ba]; exact hts
 have htK:(ks.map cl).take n=ks.map cl:=bb (by omega)
 have htQ:(ts.map cl).take n=ts.map cl:=bb (by omega)
 have e0:=ha1 p m x hm hml hx;obtain ⟨n1,hn1⟩:∃n1,n1=n+1:=⟨_,rfl⟩;have hn1':n<n1:=by omega
 have hn2:n1*8≤1099511627776:=by omega
 have w1:IntKind.i64.wrap ((n:Int)+1)=(n1:Int):=(w64 (x:=(n:Int)+1) (by omega)).trans (by omega)
 have hXl:=nk (p:=p) n;have ein:=Wf (O:=O) hat hld hin hc (m:=m) (x:=stp m x) (k:=n) (ck:=ck) (ct:=ct) hks hts hn hb ht h1 (OW:=ah .i64 ((List.replicate n1 (0:Int)).set n 1)) (n1:=n1) (co:=some n1) x (pw Pol.X n) (by rw [On (p:=p) n n1 hn1]) (by unfold ah; rw [ba,cx,cu]) hx (by omega)
 rw [hr] at ein;have e4:=a4p hix hr1 (ks:=ks) (by omega) (fun b hbm=>(hb b hbm).2) (r:=row v) (by rw [bf]; exact hvl)
 rw [bf] at e4
 have hvn:¬ row v=[]:=fun h=>by
  have:=congrArg List.length h;rw [bf] at this;have:=Pol.len_pos hv;simp at *;omega
 have e5:=hins (ks.map cl) (D.sl .leaf (ah .i64 (row v))) n i ck hKl hi (by omega)
 have e6:=hins (ts.map cl) (D.sl .leaf (ah .i64 (row o))) n i ct hQl hi (by omega)
 have hK2:(ks.take i++v::ks.drop i).map cl=(ks.map cl).take i++(D.sl .leaf (ah .i64 (row v)))::(ks.map cl).drop i:=by
  rw [da,cw,List.map_take,List.map_drop]
 have hQ2:(ts.take i++o::ts.drop i).map cl=(ts.map cl).take i++(D.sl .leaf (ah .i64 (row o)))::(ts.map cl).drop i:=by
  rw [da,cw,List.map_take,List.map_drop]
 rw [hK2,hQ2];rw [show row (v,o).1=row v from rfl,show row (v,o).2=row o from rfl] at ein;rw [←hn1] at *;clear hK2 hQ2;have hi0:¬ (i:Int)<0:=by omega
 obtain ⟨gf,gg,gk,hG⟩:∃f g k,(Blk.sl false .leaf (ks.map cl)).toGone=.gone f g k:=⟨_,_,_,rfl⟩;obtain ⟨gf2,gg2,gk2,hG2⟩:∃f g k,(Blk.sl false .leaf (ts.map cl)).toGone=.gone f g k:=⟨_,_,_,rfl⟩;rw [hG] at e5;rw [hG2] at e6;clear hG hG2;generalize lj (n5 v.len) (ks.map cl) 0=ix at *;generalize row v=Rv at *;generalize row o=Ro at *;generalize row (stp m x)=R1 at *;generalize row x=Rx at *;generalize row m=Rm at *;generalize row (pw (Pol.X:Fp p) n)=Rk at *;generalize ks.map cl=K at *;generalize ts.map cl=Q at *;rcases hid with ⟨rfl,rfl⟩ | rfl
 ·simp -implicitDefEqProofs [Z1i_L1,az,hKl,htK,htQ,e0,w1,hn1',hn2,ein,e4,e5,e6,hvn,List.idxOf,List.findIdx,List.findIdx.go]
 ·simp -implicitDefEqProofs [Z1i_L1,az,hKl,htK,e0,w1,hn1',hn2,ein,e4,e5,e6,hvn,hi0,List.idxOf,List.findIdx,List.findIdx.go]
theorem a6h {O:ap} (ha1:wd O) (hat:Bf O) (hld:my O) (hin:gq O) (hc:fu O) (_hix:gy O F2e .leaf) (_hr1:uy O) (_hins:rg O) {p:Int} [IsP p] {m x:Fp p} (hm:m≠0) (hml:m.len≤64) (hx:x.len≤64) {ks ts:List (Fp p)} {n:Nat} {ck ct:Option Nat} (hks:ks.length=n) (hts:ts.length=n) (hn:n≤64) (hb:∀b∈ks,b≠0∧b.len≤64) (ht:∀t∈ts,t.len≤65) (h1:1≤n) {o:Fp p} (hr:rlL ks ts x (pw Pol.X n)=(0,o)) :
 dn O 3 Z1i_L1 ⟨[(0,(.d (.int .i64 p))),(1,.fn F11 [] [.ptr 0 [],.ptr 1 [],.ptr 2 []]),(5,.sl 9 [] 0 n ck),(6,.sl 12 [] 0 n ct),(7,(.d (.int .i64 ((n:Nat)))))],[.box false (D.sl .leaf (ah .i64 (row x))),.box false (D.int .i64 p),.box false (D.sl .leaf (ah .i64 (row m))),.hole,.hole,.hole,.hole,.hole,.hole,.sl false .leaf (ks.map cl),.hole,.hole,.sl false .leaf (ts.map cl)]⟩=some (.ret,⟨[(4,(.d (.sl .leaf (ah .i64 (row o)))))],[.box false (D.sl .leaf (ah .i64 (row (stp m x)))),.box false (D.int .i64 p),.box false (D.sl .leaf (ah .i64 (row m))),.hole,.hole,.hole,.hole,.hole,.hole,.hole,.hole,.hole,.hole]⟩):=by
 have hKl:(ks.map cl).length=n:=by rw [ba]; exact hks
 have hQl:(ts.map cl).length=n:=by rw [ba]; exact hts
 have htK:(ks.map cl).take n=ks.map cl:=bb (by omega)
 have htQ:(ts.map cl).take n=ts.map cl:=bb (by omega)
 have e0:=ha1 p m x hm hml hx;obtain ⟨n1,hn1⟩:∃n1,n1=n+1:=⟨_,rfl⟩;have hn1':n<n1:=by omega
 have hn2:n1*8≤1099511627776:=by omega
 have w1:IntKind.i64.wrap ((n:Int)+1)=(n1:Int):=(w64 (x:=(n:Int)+1) (by omega)).trans (by omega)
 have hXl:=nk (p:=p) n;have ein:=Xo (O:=O) hat hld hin hc (m:=m) (x:=stp m x) (k:=n) (ck:=ck) (ct:=ct) hks hts hn hb ht h1 (OW:=ah .i64 ((List.replicate n1 (0:Int)).set n 1)) (n1:=n1) (co:=some n1) x (pw Pol.X n) (by rw [On (p:=p) n n1 hn1]) (by unfold ah; rw [ba,cx,cu]) hx (by omega)
 rw [hr] at ein;rw [show row ((0:Fp p),o).1=[] from ee,show ((0:Fp p),o).2=o from rfl] at ein;generalize row o=Ro at *;generalize row (stp m x)=R1 at *;generalize row x=Rx at *;generalize row m=Rm at *;generalize row (pw (Pol.X:Fp p) n)=Rk at *;generalize ks.map cl=K at *;generalize ts.map cl=Q at *;simp -implicitDefEqProofs [Z1i_L1,az,e0,w1,hn1',hn2,ein,jf,List.idxOf,List.findIdx,List.findIdx.go]
theorem a6t {O:ap} (ha1:wd O) (hat:Bf O) (hld:my O) (hin:gq O) (hc:fu O) (hix:gy O F2e .leaf) (hr1:uy O) (hins:rg O) {p:Int} [IsP p] {m x:Fp p} (hm:m≠0) (hml:m.len≤64) (hx:x.len≤64) {ks ts:List (Fp p)} {n:Nat} {ck ct:Option Nat} (hks:ks.length=n) (hts:ts.length=n) (hn:n≤64) (hb:∀b∈ks,b≠0∧b.len≤64) (ht:∀t∈ts,t.len≤65) (h1:1≤n) {v o:Fp p} (hr:rlL ks ts x (pw Pol.X n)=(v,o)) (hv:v≠0) (hvl:v.len≤64) {i:Nat} (hi:i≤n) (hid:(lj (n5 v.len) (ks.map cl) 0=-1∧i=n)∨lj (n5 v.len) (ks.map cl) 0=(i:Int)) :
 dn O 3 Z1i_L1 ⟨[(0,(.d (.int .i64 p))),(1,.fn F11 [] [.ptr 0 [],.ptr 1 [],.ptr 2 []]),(5,.sl 9 [] 0 n ck),(6,.sl 12 [] 0 n ct),(7,(.d (.int .i64 ((n:Nat)))))],[.box false (D.sl .leaf (ah .i64 (row x))),.box false (D.int .i64 p),.box false (D.sl .leaf (ah .i64 (row m))),.hole,.hole,.hole,.hole,.hole,.hole,.sl false .leaf (ks.map cl),.hole,.hole,.sl false .leaf (ts.map cl)]⟩=some (.normal,⟨[(0,(.d (.int .i64 p))),(1,.fn F11 [] [.ptr 0 [],.ptr 1 [],.ptr 2 []]),(5,.sl 8 [] 0 (n+1) none),(6,.sl 11 [] 0 (n+1) none),(7,(.d (.int .i64 (((n+1):Nat)))))],[.box false (D.sl .leaf (ah .i64 (row (stp m x)))),.box false (D.int .i64 p),.box false (D.sl .leaf (ah .i64 (row m))),.hole,.hole,.hole,.hole,.hole,.sl false .leaf ((ks.take i++v::ks.drop i).map cl),.hole,.hole,.sl false .leaf ((ts.take i++o::ts.drop i).map cl),.hole]⟩):=by
 have hKl:(ks.map cl).length=n:=by rw [ba]; exact hks
 have hQl:(ts.map cl).length=n:=by rw [ba]; exact hts
 have htK:(ks.map cl).take n=ks.map cl:=bb (by omega)
 have htQ:(ts.map cl).take n=ts.map cl:=bb (by omega)
 have e0:=ha1 p m x hm hml hx;obtain ⟨n1,hn1⟩:∃n1,n1=n+1:=⟨_,rfl⟩;have hn1':n<n1:=by omega
 have hn2:n1*8≤1099511627776:=by omega
 have w1:IntKind.i64.wrap ((n:Int)+1)=(n1:Int):=(w64 (x:=(n:Int)+1) (by omega)).trans (by omega)
 have hXl:=nk (p:=p) n;have ein:=Xo (O:=O) hat hld hin hc (m:=m) (x:=stp m x) (k:=n) (ck:=ck) (ct:=ct) hks hts hn hb ht h1 (OW:=ah .i64 ((List.replicate n1 (0:Int)).set n 1)) (n1:=n1) (co:=some n1) x (pw Pol.X n) (by rw [On (p:=p) n n1 hn1]) (by unfold ah; rw [ba,cx,cu]) hx (by omega)
 rw [hr] at ein;have e4:=a4p hix hr1 (ks:=ks) (by omega) (fun b hbm=>(hb b hbm).2) (r:=row v) (by rw [bf]; exact hvl)
 rw [bf] at e4
 have hvn:¬ row v=[]:=fun h=>by
  have:=congrArg List.length h;rw [bf] at this;have:=Pol.len_pos hv;simp at *;omega
 have e5:=hins (ks.map cl) (D.sl .leaf (ah .i64 (row v))) n i ck hKl hi (by omega)
 have e6:=hins (ts.map cl) (D.sl .leaf (ah .i64 (row o))) n i ct hQl hi (by omega)
 have hK2:(ks.take i++v::ks.drop i).map cl=(ks.map cl).take i++(D.sl .leaf (ah .i64 (row v)))::(ks.map cl).drop i:=by
  rw [da,cw,List.map_take,List.map_drop]
 have hQ2:(ts.take i++o::ts.drop i).map cl=(ts.map cl).take i++(D.sl .leaf (ah .i64 (row o)))::(ts.map cl).drop i:=by
  rw [da,cw,List.map_take,List.map_drop]
 rw [hK2,hQ2];rw [show row (v,o).1=row v from rfl,show row (v,o).2=row o from rfl] at ein;rw [←hn1] at *;clear hK2 hQ2;have hi0:¬ (i:Int)<0:=by omega
 obtain ⟨gf,gg,gk,hG⟩:∃f g k,(Blk.sl false .leaf (ks.map cl)).toGone=.gone f g k:=⟨_,_,_,rfl⟩;obtain ⟨gf2,gg2,gk2,hG2⟩:∃f g k,(Blk.sl false .leaf (ts.map cl)).toGone=.gone f g k:=⟨_,_,_,rfl⟩;rw [hG] at e5;rw [hG2] at e6;clear hG hG2;generalize lj (n5 v.len) (ks.map cl) 0=ix at *;generalize row v=Rv at *;generalize row o=Ro at *;generalize row (stp m x)=R1 at *;generalize row x=Rx at *;generalize row m=Rm at *;generalize row (pw (Pol.X:Fp p) n)=Rk at *;generalize ks.map cl=K at *;generalize ts.map cl=Q at *;rcases hid with ⟨rfl,rfl⟩ | rfl
 ·simp -implicitDefEqProofs [Z1i_L1,az,hKl,htK,htQ,e0,w1,hn1',hn2,ein,e4,e5,e6,hvn,List.idxOf,List.findIdx,List.findIdx.go]
 ·simp -implicitDefEqProofs [Z1i_L1,az,hKl,htK,e0,w1,hn1',hn2,ein,e4,e5,e6,hvn,hi0,List.idxOf,List.findIdx,List.findIdx.go]
theorem a6a {O:ap} (ha1:wd O) (_hat:Bf O) (_hld:my O) (_hin:gq O) (_hc:fu O) (_hix:gy O F2e .leaf) (_hr1:uy O) (_hins:rg O) {p:Int} [IsP p] {m x:Fp p} (hm:m≠0) (hml:m.len≤64) (hx:x.len≤64) (h0:x=0) :
 dn O 3 Z1i_L1 ⟨[(0,(.d (.int .i64 p))),(1,.fn F11 [] [.ptr 0 [],.ptr 1 [],.ptr 2 []]),(5,.sl 3 [] 0 0 (some 0)),(6,.sl 4 [] 0 0 (some 0)),(7,(.d (.int .i64 ((0:Int)))))],[.box false (D.sl .leaf (ah .i64 (row x))),.box false (D.int .i64 p),.box false (D.sl .leaf (ah .i64 (row m))),.sl false .leaf [],.sl false .leaf [],.hole,.hole,.hole,.hole,.hole,.hole,.hole,.hole]⟩=some (.ret,⟨[(4,.sl 6 [] 0 1 (some 1))],[.box false (D.sl .leaf (ah .i64 (row (stp m x)))),.box false (D.int .i64 p),.box false (D.sl .leaf (ah .i64 (row m))),.hole,.hole,.hole,.sl false .leaf [.int .i64 1],.hole,.hole,.hole,.hole,.hole,.hole]⟩):=by
 have e0:=ha1 p m x hm hml hx
 have ein:dn O 3 (.loop Z1i_L0) ⟨[(0,(.d (.int .i64 p))),(1,.fn F11 [] [.ptr 0 [],.ptr 1 [],.ptr 2 []]),(5,.sl 3 [] 0 0 (some 0)),(6,.sl 4 [] 0 0 (some 0)),(7,(.d (.int .i64 ((0:Int))))),(8,.ptr 5 []),(9,.sl 6 [] 0 1 (some 1)),(24,.sl 3 [] 0 0 (some 0)),(25,(.d (.int .i64 ((0:Int))))),(26,(.d (.int .i64 ((0:Int)))))],[.box false (D.sl .leaf (ah .i64 (row (stp m x)))),.box false (D.int .i64 p),.box false (D.sl .leaf (ah .i64 (row m))),.sl false .leaf [],.sl false .leaf [],.box false (D.sl .leaf (ah .i64 (row x))),.sl false .leaf [.int .i64 1],.hole,.hole,.hole,.hole,.hole,.hole]⟩=some (.exit 2,⟨[(0,(.d (.int .i64 p))),(1,.fn F11 [] [.ptr 0 [],.ptr 1 [],.ptr 2 []]),(5,.sl 3 [] 0 0 (some 0)),(6,.sl 4 [] 0 0 (some 0)),(7,(.d (.int .i64 ((0:Int))))),(8,.ptr 5 []),(9,.sl 6 [] 0 1 (some 1)),(24,.sl 3 [] 0 0 (some 0)),(25,(.d (.int .i64 ((0:Int))))),(26,(.d (.int .i64 ((0:Int))))),(27,(.d (.bool false)))],[.box false (D.sl .leaf (ah .i64 (row (stp m x)))),.box false (D.int .i64 p),.box false (D.sl .leaf (ah .i64 (row m))),.sl false .leaf [],.sl false .leaf [],.box false (D.sl .leaf (ah .i64 (row x))),.sl false .leaf [.int .i64 1],.hole,.hole,.hole,.hole,.hole,.hole]⟩):=by
  refine cg ?_;generalize row (stp m x)=R1 at *;generalize row x=Rx at *;generalize row m=Rm at *;simp -implicitDefEqProofs [Z1i_L0,az]
 have w1:IntKind.i64.wrap 1=1:=rfl;have hx0:row x=[]:=by rw [h0,ee]
 rw [hx0] at e0 ein ⊢;rw [show ah .i64 []=[] from rfl] at e0 ein ⊢;generalize row (stp m x)=R1 at *;generalize row m=Rm at *;simp -implicitDefEqProofs [Z1i_L1,az,e0,w1,ein,List.idxOf,List.findIdx,List.findIdx.go]
theorem a86 {O:ap} (ha1:wd O) (_hat:Bf O) (_hld:my O) (_hin:gq O) (_hc:fu O) (hix:gy O F2e .leaf) (hr1:uy O) (hins:rg O) {p:Int} [IsP p] {m x:Fp p} (hm:m≠0) (hml:m.len≤64) (hx:x.len≤64) (h0:x≠0) :
 dn O 3 Z1i_L1 ⟨[(0,(.d (.int .i64 p))),(1,.fn F11 [] [.ptr 0 [],.ptr 1 [],.ptr 2 []]),(5,.sl 3 [] 0 0 (some 0)),(6,.sl 4 [] 0 0 (some 0)),(7,(.d (.int .i64 ((0:Int)))))],[.box false (D.sl .leaf (ah .i64 (row x))),.box false (D.int .i64 p),.box false (D.sl .leaf (ah .i64 (row m))),.sl false .leaf [],.sl false .leaf [],.hole,.hole,.hole,.hole,.hole,.hole,.hole,.hole]⟩=some (.normal,⟨[(0,(.d (.int .i64 p))),(1,.fn F11 [] [.ptr 0 [],.ptr 1 [],.ptr 2 []]),(5,.sl 8 [] 0 1 none),(6,.sl 11 [] 0 1 none),(7,(.d (.int .i64 ((1:Nat)))))],[.box false (D.sl .leaf (ah .i64 (row (stp m x)))),.box false (D.int .i64 p),.box false (D.sl .leaf (ah .i64 (row m))),.hole,.hole,.hole,.hole,.hole,.sl false .leaf ([x].map cl),.hole,.hole,.sl false .leaf ([(1:Fp p)].map cl),.hole]⟩):=by
 have e0:=ha1 p m x hm hml hx
 have ein:dn O 3 (.loop Z1i_L0) ⟨[(0,(.d (.int .i64 p))),(1,.fn F11 [] [.ptr 0 [],.ptr 1 [],.ptr 2 []]),(5,.sl 3 [] 0 0 (some 0)),(6,.sl 4 [] 0 0 (some 0)),(7,(.d (.int .i64 ((0:Int))))),(8,.ptr 5 []),(9,.sl 6 [] 0 1 (some 1)),(24,.sl 3 [] 0 0 (some 0)),(25,(.d (.int .i64 ((0:Int))))),(26,(.d (.int .i64 ((0:Int)))))],[.box false (D.sl .leaf (ah .i64 (row (stp m x)))),.box false (D.int .i64 p),.box false (D.sl .leaf (ah .i64 (row m))),.sl false .leaf [],.sl false .leaf [],.box false (D.sl .leaf (ah .i64 (row x))),.sl false .leaf [.int .i64 1],.hole,.hole,.hole,.hole,.hole,.hole]⟩=some (.exit 2,⟨[(0,(.d (.int .i64 p))),(1,.fn F11 [] [.ptr 0 [],.ptr 1 [],.ptr 2 []]),(5,.sl 3 [] 0 0 (some 0)),(6,.sl 4 [] 0 0 (some 0)),(7,(.d (.int .i64 ((0:Int))))),(8,.ptr 5 []),(9,.sl 6 [] 0 1 (some 1)),(24,.sl 3 [] 0 0 (some 0)),(25,(.d (.int .i64 ((0:Int))))),(26,(.d (.int .i64 ((0:Int))))),(27,(.d (.bool false)))],[.box false (D.sl .leaf (ah .i64 (row (stp m x)))),.box false (D.int .i64 p),.box false (D.sl .leaf (ah .i64 (row m))),.sl false .leaf [],.sl false .leaf [],.box false (D.sl .leaf (ah .i64 (row x))),.sl false .leaf [.int .i64 1],.hole,.hole,.hole,.hole,.hole,.hole]⟩):=by
  refine cg ?_;generalize row (stp m x)=R1 at *;generalize row x=Rx at *;generalize row m=Rm at *;simp -implicitDefEqProofs [Z1i_L0,az]
 have w1:IntKind.i64.wrap 1=1:=rfl
 have hvn:¬ row x=[]:=fun h=>by
  have:=congrArg List.length h;rw [bf] at this;have:=Pol.len_pos h0;simp at *;omega
 have e4:=a4p (p:=p) hix hr1 (ks:=[]) (by simp) (fun b hbm=>(List.not_mem_nil hbm).elim) (r:=row x) (by rw [bf]; exact hx)
 rw [show ([]:List (Fp p)).map cl=[] from rfl,show lj (n5 (row x).length) [] 0=-1 from rfl] at e4;have e5:=hins [] (D.sl .leaf (ah .i64 (row x))) 0 0 (some 0) rfl (by omega) (by omega)
 have e6:=hins [] (.sl .leaf [.int .i64 1]) 0 0 (some 0) rfl (by omega) (by omega)
 obtain ⟨gf,gg,gk,hG⟩:∃f g k,(Blk.sl false .leaf []).toGone=.gone f g k:=⟨_,_,_,rfl⟩;rw [hG] at e5 e6;clear hG;rw [show ([x].map cl)=[(D.sl .leaf (ah .i64 (row x)))] from rfl,show ([(1:Fp p)].map cl)=[(D.sl .leaf (ah .i64 (row (1:Fp p))))] from rfl,su,show ah .i64 [1]=[.int .i64 1] from rfl];generalize row (stp m x)=R1 at *;generalize row x=Rx at *;generalize row m=Rm at *;simp -implicitDefEqProofs at e5 e6;simp -implicitDefEqProofs [Z1i_L1,az,e0,w1,ein,e4,e5,e6,hvn,List.idxOf,List.findIdx,List.findIdx.go]
section
variable {p:Int} [IsP p]
theorem Wb (m:Fp p):∀(k:Nat) (x:Fp p),av m x (pw Pol.X k)=stI m k x
 | 0,x=>by
  have:=Tg m x 1;rw [Pol.C_one,Gq.one_mul] at this;exact this
 | k+1,x=>by rw [pw,Gq.mul_comm,a3p,Wb m k,←D7]
end
structure H_relO (O:ap):Prop where
 a1:wd O
 ca:Bf O
 ld:my O
 iv:gq O
 co:fu O
 ix:gy O F2e .leaf
 r1:uy O
 it:rg O
theorem a9u {O:ap} (h1:wd O) (h2:Bf O) (h3:my O) (h4:gq O) (h5:fu O) (h6:gy O F2e .leaf) (h7:uy O) (h8:rg O):H_relO O:=⟨h1,h2,h3,h4,h5,h6,h7,h8⟩
theorem Jd {O:ap} (H:H_relO O) {p:Int} [IsP p] {m x0:Fp p} (hm:m≠0) (hml:m.len≤64) (hx0:x0.len<m.len) (r:Nat) (ih:∀n:Nat,n+r=m.len→n≤m.len-1→1≤n→∀(ks ts:List (Fp p)) (ck ct:Option Nat),RelI (av m x0) (m.len-1) n ks ts →
 (∃f y:Fp p,MinR (av m x0) f∧f.len≤m.len∧dn O 3 (.loop Z1i_L1) ⟨[(0,(.d (.int .i64 p))),(1,.fn F11 [] [.ptr 0 [],.ptr 1 [],.ptr 2 []]),(5,.sl 8 [] 0 n ck),(6,.sl 11 [] 0 n ct),(7,(.d (.int .i64 ((n:Nat)))))],[.box false (D.sl .leaf (ah .i64 (row (stI m n x0)))),.box false (D.int .i64 p),.box false (D.sl .leaf (ah .i64 (row m))),.hole,.hole,.hole,.hole,.hole,.sl false .leaf (ks.map cl),.hole,.hole,.sl false .leaf (ts.map cl),.hole]⟩=some (.ret,⟨[(4,(.d (.sl .leaf (ah .i64 (row f)))))],[.box false (D.sl .leaf (ah .i64 (row y))),.box false (D.int .i64 p),.box false (D.sl .leaf (ah .i64 (row m))),.hole,.hole,.hole,.hole,.hole,.hole,.hole,.hole,.hole,.hole]⟩)) ∧
 (∃f y:Fp p,MinR (av m x0) f∧f.len≤m.len∧dn O 3 (.loop Z1i_L1) ⟨[(0,(.d (.int .i64 p))),(1,.fn F11 [] [.ptr 0 [],.ptr 1 [],.ptr 2 []]),(5,.sl 9 [] 0 n ck),(6,.sl 12 [] 0 n ct),(7,(.d (.int .i64 ((n:Nat)))))],[.box false (D.sl .leaf (ah .i64 (row (stI m n x0)))),.box false (D.int .i64 p),.box false (D.sl .leaf (ah .i64 (row m))),.hole,.hole,.hole,.hole,.hole,.hole,.sl false .leaf (ks.map cl),.hole,.hole,.sl false .leaf (ts.map cl)]⟩=some (.ret,⟨[(4,(.d (.sl .leaf (ah .i64 (row f)))))],[.box false (D.sl .leaf (ah .i64 (row y))),.box false (D.int .i64 p),.box false (D.sl .leaf (ah .i64 (row m))),.hole,.hole,.hole,.hole,.hole,.hole,.hole,.hole,.hole,.hole]⟩))) (n:Nat) (hnr:n+r=m.len-1) (h1:1≤n) (ks ts:List (Fp p)) (ck ct:Option Nat) (h:RelI (av m x0) (m.len-1) n ks ts) :
 (∃f y:Fp p,MinR (av m x0) f∧f.len≤m.len∧dn O 3 (.loop Z1i_L1) ⟨[(0,(.d (.int .i64 p))),(1,.fn F11 [] [.ptr 0 [],.ptr 1 [],.ptr 2 []]),(5,.sl 8 [] 0 n ck),(6,.sl 11 [] 0 n ct),(7,(.d (.int .i64 ((n:Nat)))))],[.box false (D.sl .leaf (ah .i64 (row (stI m n x0)))),.box false (D.int .i64 p),.box false (D.sl .leaf (ah .i64 (row m))),.hole,.hole,.hole,.hole,.hole,.sl false .leaf (ks.map cl),.hole,.hole,.sl false .leaf (ts.map cl),.hole]⟩=some (.ret,⟨[(4,(.d (.sl .leaf (ah .i64 (row f)))))],[.box false (D.sl .leaf (ah .i64 (row y))),.box false (D.int .i64 p),.box false (D.sl .leaf (ah .i64 (row m))),.hole,.hole,.hole,.hole,.hole,.hole,.hole,.hole,.hole,.hole]⟩)) ∧
 (∃f y:Fp p,MinR (av m x0) f∧f.len≤m.len∧dn O 3 (.loop Z1i_L1) ⟨[(0,(.d (.int .i64 p))),(1,.fn F11 [] [.ptr 0 [],.ptr 1 [],.ptr 2 []]),(5,.sl 9 [] 0 n ck),(6,.sl 12 [] 0 n ct),(7,(.d (.int .i64 ((n:Nat)))))],[.box false (D.sl .leaf (ah .i64 (row (stI m n x0)))),.box false (D.int .i64 p),.box false (D.sl .leaf (ah .i64 (row m))),.hole,.hole,.hole,.hole,.hole,.hole,.sl false .leaf (ks.map cl),.hole,.hole,.sl false .leaf (ts.map cl)]⟩=some (.ret,⟨[(4,(.d (.sl .leaf (ah .i64 (row f)))))],[.box false (D.sl .leaf (ah .i64 (row y))),.box false (D.int .i64 p),.box false (D.sl .leaf (ah .i64 (row m))),.hole,.hole,.hole,.hole,.hole,.hole,.hole,.hole,.hole,.hole]⟩)):=by
 have hmp:=Pol.len_pos hm;have hsl:=Dh hm hx0 n;have hlin:=oh m x0;have hdec:=h.dec;have hnz:=h.nz;have hcnt:=h.cnt;have htl:=h.tl;have hsrc:=h.src;have htsl:ts.length=n:=by rw [hsrc,ba] at hcnt; exact hcnt
 have hok:=a5n hlin (d:=m.len-1) (k:=n) ts (stI m n x0) (pw Pol.X n) (by rw [←hsrc]; exact hdec) (by rw [←hsrc]; exact hnz) htl (by omega) (by rw [nk]; omega) (by rw [yf,if_pos rfl]) (Wb m n x0)
 rw [←hsrc] at hok;have hkb:∀b∈ks,b≠0∧b.len≤64:=fun b hb=>⟨(hnz b hb).1,by have:=(hnz b hb).2; omega⟩
 have htb:∀t∈ts,t.len≤65:=fun t ht=>by have:=htl t ht; omega
 rcases hvo:rlL ks ts (stI m n x0) (pw Pol.X n) with ⟨v,o⟩
 rw [hvo] at hok;obtain ⟨k1,k2,k3,k4,k5,_⟩:=hok;simp only at k1 k2 k3 k4 k5
 by_cases hv:v=0
 ·subst hv
  obtain ⟨f1,f2⟩:=h.found k2 k3 k4
  exact ⟨⟨o,_,f1,by omega,nj (a68 H.a1 H.ca H.ld H.iv H.co H.ix H.r1 H.it hm hml (by omega) hcnt htsl (by omega) hkb htb h1 hvo)⟩,
   ⟨o,_,f1,by omega,nj (a6h H.a1 H.ca H.ld H.iv H.co H.ix H.r1 H.it hm hml (by omega) hcnt htsl (by omega) hkb htb h1 hvo)⟩⟩
 ·obtain ⟨i,hi,hid,ha,hb⟩:∃i,i≤n∧((lj (n5 v.len) (ks.map cl) 0=-1∧i=n)∨lj (n5 v.len) (ks.map cl) 0=(i:Int))∧(∀b∈ks.take i,¬ b.len<v.len)∧∀b∈ks.drop i,b.len<v.len:=by
   rcases Qc v.len ks 0 hdec with ⟨g1,g2⟩ | ⟨k,g1,g2,g3,g4⟩
   ·exact ⟨n,bj n,.inl ⟨g1,rfl⟩,fun b hb=>g2 b (jp hb),fun b hb=>by
     rw [du (by omega)] at hb
     exact (List.not_mem_nil hb).elim⟩
   ·exact ⟨k,by omega,.inr (by rw [g1,bv]),g3,g4⟩
  have hnx:=h.next hlin k2 k3 k4 hv k1 k5 hi ha hb;have hc:=L8 hnx.dec hnx.nz;have hc2:=hnx.cnt;obtain ⟨⟨fA,yA,a1,a2,a3⟩,⟨fB,yB,b1,b2,b3⟩⟩:=ih (n+1) (by omega) (by omega) (by omega) _ _ none none hnx
  exact ⟨⟨fB,yB,b1,b2,c8 (a7s H.a1 H.ca H.ld H.iv H.co H.ix H.r1 H.it hm hml (by omega) hcnt htsl (by omega) hkb htb h1 hvo hv (by omega) hi hid) b3⟩,
   ⟨fA,yA,a1,a2,c8 (a6t H.a1 H.ca H.ld H.iv H.co H.ix H.r1 H.it hm hml (by omega) hcnt htsl (by omega) hkb htb h1 hvo hv (by omega) hi hid) a3⟩⟩
theorem a9p {O:ap} (H:H_relO O) {p:Int} [IsP p] {m x0:Fp p} (hm:m≠0) (hml:m.len≤64) (hx0:x0.len<m.len):∀(r n:Nat),n+r=m.len-1→1≤n→∀(ks ts:List (Fp p)) (ck ct:Option Nat),RelI (av m x0) (m.len-1) n ks ts →
 (∃f y:Fp p,MinR (av m x0) f∧f.len≤m.len∧dn O 3 (.loop Z1i_L1) ⟨[(0,(.d (.int .i64 p))),(1,.fn F11 [] [.ptr 0 [],.ptr 1 [],.ptr 2 []]),(5,.sl 8 [] 0 n ck),(6,.sl 11 [] 0 n ct),(7,(.d (.int .i64 ((n:Nat)))))],[.box false (D.sl .leaf (ah .i64 (row (stI m n x0)))),.box false (D.int .i64 p),.box false (D.sl .leaf (ah .i64 (row m))),.hole,.hole,.hole,.hole,.hole,.sl false .leaf (ks.map cl),.hole,.hole,.sl false .leaf (ts.map cl),.hole]⟩=some (.ret,⟨[(4,(.d (.sl .leaf (ah .i64 (row f)))))],[.box false (D.sl .leaf (ah .i64 (row y))),.box false (D.int .i64 p),.box false (D.sl .leaf (ah .i64 (row m))),.hole,.hole,.hole,.hole,.hole,.hole,.hole,.hole,.hole,.hole]⟩)) ∧
 (∃f y:Fp p,MinR (av m x0) f∧f.len≤m.len∧dn O 3 (.loop Z1i_L1) ⟨[(0,(.d (.int .i64 p))),(1,.fn F11 [] [.ptr 0 [],.ptr 1 [],.ptr 2 []]),(5,.sl 9 [] 0 n ck),(6,.sl 12 [] 0 n ct),(7,(.d (.int .i64 ((n:Nat)))))],[.box false (D.sl .leaf (ah .i64 (row (stI m n x0)))),.box false (D.int .i64 p),.box false (D.sl .leaf (ah .i64 (row m))),.hole,.hole,.hole,.hole,.hole,.hole,.sl false .leaf (ks.map cl),.hole,.hole,.sl false .leaf (ts.map cl)]⟩=some (.ret,⟨[(4,(.d (.sl .leaf (ah .i64 (row f)))))],[.box false (D.sl .leaf (ah .i64 (row y))),.box false (D.int .i64 p),.box false (D.sl .leaf (ah .i64 (row m))),.hole,.hole,.hole,.hole,.hole,.hole,.hole,.hole,.hole,.hole]⟩)):=by
 intro r
 induction r with
 | zero=>exact Jd H hm hml hx0 0 fun n hn hn2=>absurd hn2 (by have:=Pol.len_pos hm; omega)
 | succ r ih=>exact Jd H hm hml hx0 (r+1) fun n hn _=>ih n (by omega)
def Bx (O:ap):Prop:=∀(p:Int) [IsP p] (m x0:Fp p),m≠0→m.len≤64→x0.len<m.len→∃f y:Fp p,MinR (av m x0) f∧f.len≤m.len ∧
 (O F1i [(.d (.int .i64 p)),.fn F11 [] [.ptr 0 [],.ptr 1 [],.ptr 2 []]] [.box false (D.sl .leaf (ah .i64 (row x0))),.box false (D.int .i64 p),.box false (D.sl .leaf (ah .i64 (row m)))]=some ((.d (.sl .leaf (ah .i64 (row f)))),[.box false (D.sl .leaf (ah .i64 (row y))),.box false (D.int .i64 p),.box false (D.sl .leaf (ah .i64 (row m)))],[]) ∨
  f=1∧O F1i [(.d (.int .i64 p)),.fn F11 [] [.ptr 0 [],.ptr 1 [],.ptr 2 []]] [.box false (D.sl .leaf (ah .i64 (row x0))),.box false (D.int .i64 p),.box false (D.sl .leaf (ah .i64 (row m)))]=some (.sl 3 [] 0 1 (some 1),[.box false (D.sl .leaf (ah .i64 (row y))),.box false (D.int .i64 p),.box false (D.sl .leaf (ah .i64 (row m)))],[.sl false .leaf [.int .i64 1]]))
theorem Tx (hT:T F1i=some Z1i) (H:H_relO (den T A)):Bx (den T A):=by
 intro p ip m x hm hml hx
 by_cases h0:x=0
 ·have e:=nj (a6a H.a1 H.ca H.ld H.iv H.co H.ix H.r1 H.it hm hml (show x.len≤64 by omega) h0)
  refine ⟨1,stp m x,⟨Monic.one,by rw [h0,Wy hm],fun g hg _=>Pol.len_zero_iff.1 (by rw [Pol.len_one] at hg; omega)⟩,by rw [Pol.len_one]; exact Pol.len_pos hm,.inr ⟨rfl,na hT rfl ?_⟩⟩
  generalize row (stp m x)=R1 at *;generalize row x=Rx at *;generalize row m=Rm at *;simp -implicitDefEqProofs [Z1i,Z1i_B,e]
 ·have xp:=Pol.len_pos h0
  have hn:=(RelI.nil (oh m x) (m.len-1)).next (oh m x) (v:=x) (o:=1) (by rw [Pol.len_one]; omega) rfl (by
   have:=Tg m x 1
   rwa [Pol.C_one,Gq.one_mul] at this) h0 (by omega) (fun b hb=>(List.not_mem_nil hb).elim) (bj 0) (fun b hb=>(List.not_mem_nil hb).elim) (fun b hb=>(List.not_mem_nil hb).elim)
  obtain ⟨⟨f,y,f1,f2,f3⟩,_⟩:=a9p H hm hml hx (m.len-2) 1 (by omega) (by omega) [x] [1] none none hn
  have e:=c8 (a86 H.a1 H.ca H.ld H.iv H.co H.ix H.r1 H.it hm hml (show x.len≤64 by omega) h0) f3
  refine ⟨f,y,f1,f2,.inl (na hT rfl ?_)⟩;clear f3;generalize row f=Rf at *;generalize row y=Ry at *;generalize row x=Rx at *;generalize row m=Rm at *;simp -implicitDefEqProofs [Z1i,Z1i_B,e]
def Dj (O:ap):Prop:=∀(p:Int) [IsP p] (m x:Fp p),m≠0→m.len≤64→x.len≤64→∃f:Fp p,MinR (av m (x%m)) f∧f.len≤m.len∧ask O F10 [(D.int .i64 p),(D.sl .leaf (ah .i64 (row x))),(D.sl .leaf (ah .i64 (row m)))]=some (D.sl .leaf (ah .i64 (row f)))
theorem a74 (hT:T F10=some Z10) (hr:uo (den T A)) (H:Bx (den T A)):Dj (den T A):=by
 intro p ip m x hm hml hx;have e1:=hr p x m hm (by omega) (by omega)
 obtain ⟨f,y,f1,f2,e⟩:=H p m (x%m) hm hml (Pol.len_mod x hm);refine ⟨f,f1,f2,cd hT rfl ?_⟩;rcases e with e | ⟨rfl,e⟩
 ·generalize row f=Rf at *
  generalize row y=Ry at *;generalize row (x%m)=Rm2 at *;generalize row x=Rx at *;generalize row m=Rm at *;simp -implicitDefEqProofs [Z10,Z10_B,e1,e,List.idxOf,List.findIdx,List.findIdx.go]
 ·rw [su,show ah .i64 [1]=[.int .i64 1] from rfl]
  generalize row y=Ry at *;generalize row (x%m)=Rm2 at *;generalize row x=Rx at *;generalize row m=Rm at *;simp -implicitDefEqProofs [Z10,Z10_B,e1,e,List.idxOf,List.findIdx,List.findIdx.go]
def Ru (O:ap):Prop:=∀(p:Int) [IsP p] (a b:Fp p),a≠0→b≠0→a.len≤1000→b.len≤1000→ask O F1a [(D.int .i64 p),(D.sl .leaf (ah .i64 (row a))),(D.sl .leaf (ah .i64 (row b)))]=some (D.sl .leaf (ah .i64 (row (a*b/Pol.gcd a b))))
theorem ag3 (hT:T F1a=some Z1a) (ht:rh (den T A)) (hg:L4 (den T A)) (hd:t7 (den T A)):Ru (den T A):=by
 intro p ip a b ha hb hal hbl;have e1:=ht p a b (by omega) (by omega)
 have e2:=hg p a b (.inl ha) (by omega) (by omega)
 have hg0:Pol.gcd a b≠0:=(Pol.gcd_monic (.inl ha)).2;have hgl:=(Pol.gcd_dv_left (a:=a) (b:=b) (.inl ha)).len ha;have l1:=Tl (a:=a) (b:=b) (x:=1000) (y:=1000) hal hbl;have e3:=hd p (a*b) (Pol.gcd a b) hg0 (by omega) (by omega)
 refine cd hT rfl ?_;generalize row (a*b/Pol.gcd a b)=R1 at *;generalize row (a*b%Pol.gcd a b)=R2 at *;generalize row (a*b)=R3 at *;generalize row (Pol.gcd a b)=R4 at *;generalize row a=Ra at *;generalize row b=Rb at *;simp -implicitDefEqProofs [Z1a,Z1a_B,e1,e2,e3]
end Pe
namespace Pe
open Go Gq
section
variable {K L S:Type} [CR K] [CR L] [CR S]
theorem Hom.comp {f:K→L} {g:L→S} (hf:Hom f) (hg:Hom g):Hom fun x=>g (f x):=
 ⟨fun x y=>by rw [hf.add,hg.add],fun x y=>by rw [hf.mul,hg.mul],by rw [hf.one,hg.one]⟩
end
section
variable {p:Int} [IsP p] {q:Fp p}
theorem Hom.sub {K S:Type} [CR K] [CR S] {f:K→S} (h:Hom f) (x y:K):f (x-y)=f x-f y:=by
 have e:f (x-y)+f y=f x:=by rw [←h.add]; congr 1; exact bq [x,y] rfl
 rw [←e];exact bq [f (x-y),f y] rfl
end
section
variable {p:Int} {q:Fp p}
end
section
variable {p:Int} [IsP p] {q:Fp p}
end
section
variable {p:Int} {q:Fp p}
end
section
variable {p:Int} [IsP p] {q:Fp p}
end
section
variable {p:Int} {q:Fp p}
end
section
variable {p:Int} [IsP p] {q:Fp p}
end
section
variable {p:Int} {q:Fp p}
end
section
variable {p:Int} [IsP p] {q:Fp p}
end
end Pe
namespace Pe
open Go Gq
variable {T:Nat→Option Fn} {A:ap}
section
variable {p:Int} [IsP p]
theorem a5h {O:ap} (hco:fu O) (hst:Jj O) {m a x:Fp p} (hm:m≠0) (hml:m.len≤64) (ha:a.len≤64) (hx:x.len<m.len):∀(r j:Nat),j+r=a.len →
 dn O 0 (.loop Zz_L0) ⟨[(0,(.d (.int .i64 p))),(2,(.d (.sl .leaf (ah .i64 (row (stI m j x)))))),(3,(.d (.sl .leaf (ah .i64 (row m))))),(9,(.d (.sl .leaf (ah .i64 (row (ff (fun i=>Pol.C (a.c i)*stI m i x) j)))))),(16,(.d (.sl .leaf (ah .i64 (row a))))),(17,(.d (.int .i64 a.len))),(18,(.d (.int .i64 j)))],[]⟩ =
  some (.exit 0,⟨[(0,(.d (.int .i64 p))),(2,(.d (.sl .leaf (ah .i64 (row (stI m a.len x)))))),(3,(.d (.sl .leaf (ah .i64 (row m))))),(9,(.d (.sl .leaf (ah .i64 (row (ff (fun i=>Pol.C (a.c i)*stI m i x) a.len)))))),(16,(.d (.sl .leaf (ah .i64 (row a))))),(17,(.d (.int .i64 a.len))),(18,(.d (.int .i64 a.len))),(19,(.d (.bool false)))],[]⟩)
 | 0,j,hj=>by
  obtain rfl:j=a.len:=by omega
  refine cg ?_;generalize row (ff (fun i=>Pol.C (a.c i)*stI m i x) a.len)=R1 at *
  generalize row (stI m a.len x)=R2 at *;generalize row a=Ra at *;generalize row m=Rm at *;generalize a.len=n at *;simp -implicitDefEqProofs [Zz_L0,az]
 | r+1,j,hj=>by
  have hlt:j<a.len:=by omega
  have hjl:(j:Int)<a.len:=by omega
  have hs:=Dh hm hx j
  have a8n:∀n,(ff (fun i=>Pol.C (a.c i)*stI m i x) n).len≤64:=fun n=>by
   induction n with
   | zero=>show (0:Fp p).len≤_; rw [Pol.len_zero]; omega
   | succ n ih=>exact Pol.len_add_le ih (dk (ma _ _) (by have:=Dh hm hx n; omega))
  have hs1:=a8n j;have hri:=im (a.c j);have hpl:=IsP.le (p:=p);have e1:=hco p (rep (a.c j)) (ff (fun i=>Pol.C (a.c i)*stI m i x) j) (stI m j x) (by omega) (by omega) (by omega) (by omega)
  rw [lm,show ff (fun i=>Pol.C (a.c i)*stI m i x) j+Pol.C (a.c j)*stI m j x=ff (fun i=>Pol.C (a.c i)*stI m i x) (j+1) from rfl] at e1
  have e2:=hst p m (stI m j x) hm hml (by omega)
  rw [show stp m (stI m j x)=stI m (j+1) x from rfl] at e2
  have hget:∀h:j<(row a).length,(row a)[j]'h=rep (a.c j):=fun h=>by
   simp [row]
  have hRl:=bf a;have w4:IntKind.i64.wrap ((j:Int)+1)=((j+1:Nat):Int):=(w64 (x:=(j:Int)+1) (by omega)).trans (by omega)
  refine c8 ?_ (a5h hco hst hm hml ha hx r (j+1) (by omega))
  generalize row (ff (fun i=>Pol.C (a.c i)*stI m i x) (j+1))=R1 at *
  generalize row (ff (fun i=>Pol.C (a.c i)*stI m i x) j)=R0 at *
  generalize row (stI m (j+1) x)=R3 at *;generalize row (stI m j x)=R2 at *;generalize rep (a.c j)=cc at *;generalize row a=Ra at *;generalize row m=Rm at *;generalize a.len=n at *;generalize ((j+1:Nat):Int)=J1 at *;simp -implicitDefEqProofs [Zz_L0,az,hjl,hlt,hRl,hget,e1,e2,w4]
end
def Tk (O:ap):Prop:=∀(p:Int) [IsP p] (a x m:Fp p),m≠0→m.len≤64→a.len≤64→x.len≤64→ask O Fz [(D.int .i64 p),(D.sl .leaf (ah .i64 (row a))),(D.sl .leaf (ah .i64 (row x))),(D.sl .leaf (ah .i64 (row m)))]=some (D.sl .leaf (ah .i64 (row (av m (x%m) a))))
theorem a9y (hT:T Fz=some Zz) (hco:fu (den T A)) (hst:Jj (den T A)) (hr:uo (den T A)):Tk (den T A):=by
 intro p ip a x m hm hml ha hx;have e1:=hr p x m hm (by omega) (by omega)
 have e2:=a5h hco hst hm hml ha (Pol.len_mod x hm) a.len 0 (by omega)
 rw [show ff (fun i=>Pol.C (a.c i)*stI m i (x%m)) a.len=av m (x%m) a from rfl,show ff (fun i=>Pol.C (a.c i)*stI m i (x%m)) 0=0 from rfl,ee,show ah .i64 []=[] from rfl,show stI m 0 (x%m)=x%m from rfl] at e2
 have hRl:=bf a;refine cd hT rfl ?_;generalize row (stI m a.len (x%m))=R2 at *;generalize row (av m (x%m) a)=R1 at *;generalize row (x%m)=R3 at *;generalize row x=Rx at *;generalize row a=Ra at *;generalize row m=Rm at *;generalize a.len=n at *;simp -implicitDefEqProofs at e2;simp -implicitDefEqProofs [Zz,Zz_B,hRl,e1,e2]
theorem O8 {p:Int} [IsP p] {m:Fp p} (hm:Monic m) (h2:2≤m.len) (h6:m.len≤6) (ls:List (Fp p)):pu p (pad (row m)) (ls.map fun a=>pad (row a))=0:=by
 rw [tz (by omega) (by
  have:=Ca (ls++[m])
  rwa [da] at this),if_pos ⟨hm,h2,h6⟩]
def O6 (O:ap):Prop:=∀(p:Int) [IsP p] (a x m:Fp p),Monic m→2≤m.len→m.len≤6→a.len≤64→x.len≤64→ask O F5 [(D.int .i64 p),(D.arr 64 .leaf (ah .u8 (pad (row a)))),(D.arr 64 .leaf (ah .u8 (pad (row x)))),(D.arr 64 .leaf (ah .u8 (pad (row m))))]=some (.tup [(D.arr 64 .leaf (ah .u8 (pad (row (av m (x%m) a))))),(D.int .i64 0)])
theorem a8a (hT:T F5=some Z5) (hmc:B9 (den T A)) (hro:qa (den T A)) (hac:Tk (den T A)) (hto:zu (den T A)):O6 (den T A):=by
 intro p ip a x m hm h2 h6 ha hx
 have e1:=hmc p (pad (row m)) [pad (row a),pad (row x)] (lh m) (c5 _) (fun l hl=>by
  simp at hl;rcases hl with rfl | rfl
  ·exact ⟨c5 _,lh a⟩
  ·exact ⟨c5 _,lh x⟩) (by simp) (by simp)
 rw [show pu p (pad (row m)) [pad (row a),pad (row x)]=0 from O8 hm h2 h6 [a,x],show [pad (row a),pad (row x)].map kl=[(D.arr 64 .leaf (ah .u8 (pad (row a)))),(D.arr 64 .leaf (ah .u8 (pad (row x))))] from rfl] at e1;have e2:=hro p a ha;have e3:=hro p x hx;have e4:=hro p m (by omega)
 have e5:=hac p a x m hm.2 (by omega) ha hx
 have hl:=Eq hm.2 (Pol.len_mod x hm.2) a;have e6:=hto (row (av m (x%m) a)) (sa _) (by rw [bf]; omega)
 unfold G1 at e6;rw [if_pos (by rw [bf]; omega)] at e6
 refine cd hT rfl ?_;generalize pad (row (av m (x%m) a))=Pr at *;generalize row (av m (x%m) a)=Rr at *;generalize pad (row a)=Pa at *;generalize row a=Ra at *;generalize pad (row x)=Px at *;generalize row x=Rx at *;generalize pad (row m)=Pm at *;generalize row m=Rm at *;simp -implicitDefEqProofs at e1;simp -implicitDefEqProofs [Z5,Z5_B,az,e1,e2,e3,e4,e5,e6,List.replicate]
section
variable {p:Int} [IsP p] {m:Fp p}
theorem Cz (hm:Monic m) (h2:2≤m.len):Monic (m-1)∧(m-1).len=m.len:=by
 have hc:∀i,1≤i→(m-1).c i=m.c i:=fun i hi=>by
  rw [Pol.c_sub,show (1:Fp p).c i=0 from lr (by rw [Pol.len_one]; omega)]
  exact bq [m.c i] rfl
 have h1:(m-1).len≤m.len:=Pol.len_le fun i hi=>by rw [hc i (by omega)]; exact lr hi
 have hone:m.c (m.len-1)=1:=hm.1
 have h3:¬ (m-1).len≤m.len-1:=fun h=>by
  have:=lr (n:=m.len-1) h;rw [hc _ (by omega),hone] at this
  exact Fd.one_ne this
 have h4:(m-1).len=m.len:=by omega
 refine ⟨⟨?_,fun h=>by rw [h,Pol.len_zero] at h4; omega⟩,h4⟩
 show (m-1).c ((m-1).len-1)=1;rw [h4,hc _ (by omega),hone]
theorem Ny (hm:m≠0) (x:Fp p):Quo.mk m (av m x Pol.X)=Quo.mk m Pol.X*Quo.mk m x+pw (Quo.mk m x) p.toNat:=by
 have:=Wb m 1 x;rw [rc] at this;rw [this];exact zd hm x
theorem a0f (hm:Monic m) (h2:m.len=2) {x:Fp p} (hx:x.len<m.len):av m x (m-1)=0:=by
 have e:m=Pol.X+Pol.C (m.c 0):=Pol.ext fun i=>by
  rw [Pol.c_add,Pol.c_C,show (Pol.X:Fp p)=pw Pol.X 1 from (rc _).symm,yf];rcases i with _ | _ | i
  ·rw [if_neg (by omega),if_pos rfl]; exact (Gq.zero_add _).symm
  ·rw [if_pos rfl,if_neg (by omega),Gq.add_zero]
   have:=hm.1;unfold Pol.ld at this;rw [h2] at this;exact this
  ·rw [if_neg (by omega),if_neg (by omega),lr (by omega),Gq.add_zero]
 have hxc:x=Pol.C (x.c 0):=Pol.eq_C (Pol.lt_iff.2 (by omega))
 refine E6 hm.2 (Eq hm.2 hx _) (by rw [Pol.len_zero]; omega) ?_
 have e1:m-1=Pol.X+(Pol.C (m.c 0)-1):=by
  have:(Pol.X+Pol.C (m.c 0))-1=Pol.X+(Pol.C (m.c 0)-1):=bq [Pol.X,Pol.C (m.c 0)] rfl;rw [←this,←e]
 have e2:Pol.C (m.c 0)-1=Pol.C (m.c 0-1):=by rw [Gq.sub_eq,Gq.sub_eq,Pol.C_add,Pol.C_neg,Pol.C_one]
 have h0:Quo.mk m Pol.X+Quo.mk m (Pol.C (m.c 0))=0:=by
  rw [←Quo.mk_add,←e];exact gh.1 ⟨1,(Gq.mul_one m).symm⟩
 have hp:pw (Quo.mk m x) p.toNat=Quo.mk m x:=by rw [hxc,←Quo.mk_pow,←a11,ue]
 rw [e1,(oh m x).add,Quo.mk_add,Ny hm.2,e2,Tg,Quo.mk_mul,hp,←e2,Quo.mk_sub,Quo.mk_one,Quo.mk_zero];have:Quo.mk m Pol.X*Quo.mk m x+Quo.mk m x+(Quo.mk m (Pol.C (m.c 0))-1)*Quo.mk m x=(Quo.mk m Pol.X+Quo.mk m (Pol.C (m.c 0)))*Quo.mk m x:=bq [Quo.mk m Pol.X,Quo.mk m x,Quo.mk m (Pol.C (m.c 0))] rfl;rw [this,h0,Gq.zero_mul]
end
section
variable {p:Int} {m:Fp p}
theorem a3r {g:Fp p} (hg:g.len≤2):g=Pol.C (g.c 0)+Pol.X*Pol.C (g.c 1):=Pol.ext fun i=>by
 rw [Pol.c_add,Pol.c_C,Pol.c_Xmul,Pol.c_C];rcases i with _ | _ | i
 ·rw [if_pos rfl,if_pos rfl,Gq.add_zero]
 ·rw [if_neg (by omega),if_neg (by omega),if_pos rfl]; exact (Gq.zero_add _).symm
 ·rw [if_neg (by omega),if_neg (by omega),if_neg (by omega),lr (by omega),Gq.add_zero]
end
section
variable {p:Int} [IsP p] {m:Fp p}
theorem Y1 (hm:Monic m) (h2:2≤m.len) (h3:m.len≤3) (hk:av m 1 (m-1)=0):MinR (av m 1) (m-1):=by
 obtain ⟨g1,g2⟩:=Cz hm h2;refine ⟨g1,hk,fun g hg h0=>?_⟩
 rw [g2] at hg;rw [a3r (g:=g) (by omega)] at h0 ⊢
 rw [(oh m 1).add,Tg,a3p,Tg,Gq.mul_one] at h0
 by_cases h22:m.len=2
 ·have hc1:g.c 1=0:=lr (by omega)
  rw [hc1,Pol.C_zero,Gq.zero_mul,Gq.add_zero] at h0;rw [hc1,Pol.C_zero,Gq.mul_zero,h0,Gq.add_zero]
 ·have hlX:(Pol.X:Fp p).len=2:=by
   have:=nk (p:=p) 1
   rwa [rc] at this
  have hst:stp m 1=Pol.X+1:=by
   unfold stp;rw [xq,Pol.mod_small (a:=(1:Fp p)) (by rw [Pol.len_one]; omega),Gq.mul_one]
   exact Pol.mod_small (Nat.lt_of_le_of_lt (Pol.len_add_le (n:=2) (by omega) (by rw [Pol.len_one]; omega)) (by omega))
  rw [hst] at h0;have hcoef:∀i,(Pol.C (g.c 0)+Pol.C (g.c 1)*(Pol.X+1)).c i=0:=fun i=>by rw [h0]; rfl
  have hX:∀i,(Pol.X:Fp p).c i=if i=1 then 1 else 0:=fun i=>by
   rw [←yf,rc]
  have hone:∀i,(1:Fp p).c i=if i=0 then 1 else 0:=fun i=>Pol.c_C 1 i
  have q1:=hcoef 1;have q0:=hcoef 0;rw [Pol.c_add,Pol.c_C,Pol.c_Cmul,Pol.c_add,hX,hone] at q1 q0;rw [if_neg (by omega),if_pos rfl,if_neg (by omega),Gq.add_zero,Gq.mul_one,Gq.zero_add] at q1
  rw [if_pos rfl,if_neg (by omega),if_pos rfl,q1,Gq.zero_mul,Gq.add_zero] at q0
  rw [q1,q0,Pol.C_zero,Gq.mul_zero,Gq.add_zero]
theorem Yj (hi:Irr m) (hm:Monic m) (h3:m.len=3) (fx:∀x:Quo m,pw x p.toNat=x→∃c:Zp p,x=Quo.mk m (Pol.C c)) (fr:∀x:Quo m,pw (pw x p.toNat) p.toNat=x) {x:Fp p} (hx:x.len<m.len):av m x (m-1)=0:=by
 have e:m=Pol.X*Pol.X+Pol.C (m.c 1)*Pol.X+Pol.C (m.c 0):=Pol.ext fun i=>by
  rw [Pol.c_add,Pol.c_add,Pol.c_C,Pol.c_Cmul,Pol.c_Xmul]
  have hX:∀i,(Pol.X:Fp p).c i=if i=1 then 1 else 0:=fun i=>by
   rw [←yf,rc]
  rw [hX,hX];rcases i with _ | _ | _ | i
  ·rw [if_pos rfl,if_neg (by omega),if_pos rfl]
   exact bq [m.c 0,m.c 1] rfl
  ·rw [if_neg (by omega),if_neg (by omega),if_pos rfl,if_neg (by omega)]
   exact bq [m.c 0,m.c 1] rfl
  ·rw [if_neg (by omega),if_pos rfl,if_neg (by omega),if_neg (by omega)]
   have:=hm.1;unfold Pol.ld at this;rw [h3] at this;rw [show m.c (0+1+1)=1 from this];exact bq [m.c 1] rfl
  ·rw [if_neg (by omega),if_neg (by omega),if_neg (by omega),if_neg (by omega),lr (by omega)]
   exact bq [m.c 1] rfl
 let th:=Quo.mk m Pol.X
 let B:=Quo.mk m (Pol.C (m.c 1))
 let c:=Quo.mk m (Pol.C (m.c 0))
 have cst:∀k:Zp p,pw (Quo.mk m (Pol.C k)) p.toNat=Quo.mk m (Pol.C k):=fun k=>by rw [←Quo.mk_pow,←a11,ue]
 have h0:th*th+B*th+c=0:=by
  show Quo.mk m Pol.X*Quo.mk m Pol.X+Quo.mk m (Pol.C (m.c 1))*Quo.mk m Pol.X+Quo.mk m (Pol.C (m.c 0))=0;rw [←Quo.mk_mul,←Quo.mk_mul,←Quo.mk_add,←Quo.mk_add,←e];exact gh.1 ⟨1,(Gq.mul_one m).symm⟩
 have h1:pw th p.toNat*pw th p.toNat+B*pw th p.toNat+c=0:=by
  have:pw (th*th+B*th+c) p.toNat=pw 0 p.toNat:=by rw [h0]
  rw [wo,wo,sb,sb,cst,cst] at this;rw [this];have z:=cst 0
  rwa [Pol.C_zero,Quo.mk_zero] at z
 have h2:(pw th p.toNat-th)*(th+pw th p.toNat+B)=0:=by
  have:(pw th p.toNat-th)*(th+pw th p.toNat+B)=(pw th p.toNat*pw th p.toNat+B*pw th p.toNat+c)-(th*th+B*th+c):=bq [pw th p.toNat,th,B,c] rfl;rw [this,h0,h1]; exact Gq.sub_self _
 have tr:th+pw th p.toNat+B=0:=by
  rcases hi.quo_zero h2 with h | h
  ·exfalso
   have hf:pw th p.toNat=th:=by
    have:pw th p.toNat=pw th p.toNat-th+th:=bq [pw th p.toNat,th] rfl;rw [this,h,Gq.zero_add]
   obtain ⟨k,hk⟩:=fx th hf
   have hlX:(Pol.X:Fp p).len=2:=by
    have:=nk (p:=p) 1
    rwa [rc] at this
   have:=E6 hm.2 (by omega) (Nat.lt_of_le_of_lt (Lp k) (by omega)) hk
   rw [this] at hlX;have:=Lp (p:=p) k;omega
  ·exact h
 refine E6 hm.2 (Eq hm.2 hx _) (by rw [Pol.len_zero]; omega) ?_
 have e1:m-1=Pol.X*Pol.X+Pol.C (m.c 1)*Pol.X+(Pol.C (m.c 0)-1):=by
  have:(Pol.X*Pol.X+Pol.C (m.c 1)*Pol.X+Pol.C (m.c 0))-1=Pol.X*Pol.X+Pol.C (m.c 1)*Pol.X+(Pol.C (m.c 0)-1):=bq [Pol.X,Pol.C (m.c 0),Pol.C (m.c 1)] rfl;rw [←this,←e]
 have e2:Pol.C (m.c 0)-1=Pol.C (m.c 0-1):=by rw [Gq.sub_eq,Gq.sub_eq,Pol.C_add,Pol.C_neg,Pol.C_one]
 have e3:Quo.mk m (Pol.C (m.c 0-1))=c-1:=by rw [←e2,Quo.mk_sub,Quo.mk_one]
 rw [e1,(oh m x).add,(oh m x).add,(oh m x).mul,a3p,e2,Tg,Quo.mk_add,Quo.mk_add,Quo.mk_mul,Quo.mk_mul,Ny hm.2,Ny hm.2,zd hm.2,e3,Quo.mk_zero];show th*(th*Quo.mk m x+pw (Quo.mk m x) p.toNat)+pw (th*Quo.mk m x+pw (Quo.mk m x) p.toNat) p.toNat+B*(th*Quo.mk m x+pw (Quo.mk m x) p.toNat)+(c-1)*Quo.mk m x=0;rw [wo,sb,fr]
 have:th*(th*Quo.mk m x+pw (Quo.mk m x) p.toNat)+(pw th p.toNat*pw (Quo.mk m x) p.toNat+Quo.mk m x)+B*(th*Quo.mk m x+pw (Quo.mk m x) p.toNat)+(c-1)*Quo.mk m x =
  (th*th+B*th+c)*Quo.mk m x+(th+pw th p.toNat+B)*pw (Quo.mk m x) p.toNat:=bq [th,Quo.mk m x,pw (Quo.mk m x) p.toNat,pw th p.toNat,B,c] rfl
 rw [this,h0,tr,Gq.zero_mul,Gq.zero_mul,Gq.add_zero]
theorem D8 (hi:Irr m) (hm:Monic m) (h2:2≤m.len) (h3:m.len≤3) {x:Fp p} (hx:x.len<m.len):av m x (m-1)=0:=by
 rcases (show m.len=2∨m.len=3 by omega) with h | h
 ·exact a0f hm h hx
 ·refine Yj hi hm h (fun y hy=>?_) (fun y=>?_) hx
  ·obtain ⟨a,rfl⟩:=Quo.ex y
   rw [←En hm.2 a] at hy ⊢;have hl:=a6w h2 hi (Pol.len_mod a hm.2) hy;exact ⟨(a%m).c 0,by rw [←Pol.eq_C (Pol.lt_iff.2 hl)]⟩
  ·have hp:=IsP.le (p:=p)
   have hp2:=IsP.ge (p:=p)
   have:=xg hi (d:=2) h (by
    have:p^2=p*p:=by rw [dq,dq,eo,fc]
    rw [this];have:p*p≤7*7:=Int.mul_le_mul hp hp (by omega) (by omega)
    omega) y
   rw [show p.toNat^2=p.toNat*p.toNat by rw [fo,Nat.pow_one]] at this
   rw [qw]; exact this
end
theorem a9q {p:Int} [IsP p] {m f:Fp p} (_hm:m≠0) (hf:Monic f) (hd:Dv f m):m*f/Pol.gcd m f=m:=by
 have hg:Pol.gcd m f=f:=by
  have g1:=Pol.gcd_dv_right (a:=m) (b:=f) (.inr hf.2);have g2:=Pol.dv_gcd (a:=m) (b:=f) (.inr hf.2) hd (Dv.refl f);exact Monic.antisymm (Pol.gcd_monic (.inr hf.2)) hf g1 g2
 rw [hg];exact (Pol.div_mod_eq (q:=m) (r:=0) (by rw [Gq.add_zero]) (by rw [Pol.len_zero]; exact Pol.len_pos hf.2)).1
section
variable {p:Int} [IsP p]
theorem aju:f7 p 1=pw Pol.X 0:=Pol.ext fun i=>by
 have hp:=IsP.ge (p:=p);rw [Du ⟨by omega,by omega⟩,yf]
 rcases i with _ | i
 ·rw [if_pos rfl,eo,Int.ediv_one,zh]
 ·have h2:=Ar (p:=p) i
  have h3:=je (p:=p) i;rw [if_neg (by omega),kq (by omega) (by omega)]; rfl
theorem aj6:f7 p p=pw Pol.X 1:=Pol.ext fun i=>by
 have hp:=IsP.ge (p:=p);have hp7:=IsP.le (p:=p);rw [Du ⟨by omega,by omega⟩,yf]
 rcases i with _ | _ | i
 ·rw [if_neg (by omega),eo,Int.ediv_one]
  exact Ex.2 (by rw [Int.emod_self]; rfl)
 ·rw [if_pos rfl,show p^(0+1)=p by rw [dq,eo,fc],Int.ediv_self (by omega),zh]
 ·have h2:=Ar (p:=p) i
  have h3:=je (p:=p) i;have h4:p^(i+1+1)=p^i*p*p:=by rw [dq,dq]
  have h5:p*p≤p^i*p*p:=by
   have:=sq (show 1≤p^i by omega) (show 0≤p*p by exact ep (by omega) (by omega))
   rw [fc,←jl] at this;exact this
  have h6:p*2≤p*p:=c7 hp (by omega)
  rw [if_neg (by omega),h4,kq (by omega) (by omega)]; rfl
theorem T0 {O:ap} (hno:ti O) (hnu:kf O) {k:Nat} (hk:k≤1):ask O F1c [(D.int .i64 p),(D.int .i64 k),(D.int .i64 1099511627776)]=some (D.int .i64 (p^k))∧ask O F1d [(D.int .i64 p),(D.int .i64 (p^k))]=some (D.sl .leaf (ah .i64 (row (pw (Pol.X:Fp p) k)))):=by
 have hp:=IsP.ge (p:=p);have hp7:=IsP.le (p:=p);have e1:=hno p k 1099511627776 (by omega) (by omega)
 rcases (show k=0∨k=1 by omega) with rfl | rfl
 ·rw [ud 0 1 (by omega) (by rw [eo]; omega),fc] at e1
  have e2:=hnu p 1 (by omega) (by omega)
  rw [aju] at e2;exact ⟨e1,by rw [eo]; exact e2⟩
 ·have e:p^1=p:=by rw [dq,eo,fc]
  rw [ud 1 1 (by omega) (by rw [e]; omega),fc] at e1
  have e2:=hnu p p (by omega) (by omega)
  rw [aj6] at e2;exact ⟨e1,by rw [e]; exact e2⟩
theorem a8u {O:ap} (hno:ti O) (hnu:kf O) (han:Dj O) (hlc:Ru O) {m:Fp p} (hi:Irr m) (hm:Monic m) (h2:2≤m.len) (h3:m.len≤3) {d:Int} (hd:0<d) :
 dn O 0 Z8_L0 ⟨[(4,.ptr 1 []),(7,(.d (.int .i64 p))),(8,(.d (.sl .leaf (ah .i64 (row m))))),(9,.sl 2 [] 0 1 (some 1)),(23,(.d (.int .i64 d))),(24,(.d (.int .i64 ((0:Int)))))],[.hole,.box false (D.arr 64 .leaf (ah .u8 (pad []))),.sl false .leaf [.int .i64 1]]⟩ =
  some (.normal,⟨[(4,.ptr 1 []),(7,(.d (.int .i64 p))),(8,(.d (.sl .leaf (ah .i64 (row m))))),(9,(.d (.sl .leaf (ah .i64 (row (m-1)))))),(23,(.d (.int .i64 d))),(24,(.d (.int .i64 ((1:Int)))))],[.hole,.box false (D.arr 64 .leaf (ah .u8 (pad []))),.hole]⟩):=by
 obtain ⟨e1,e2⟩:=T0 (p:=p) hno hnu (k:=0) (by omega)
 obtain ⟨f,f1,f2,e3⟩:=han p m (pw Pol.X 0) hm.2 (by omega) (by rw [nk]; omega)
 obtain ⟨g1,g2⟩:=Cz hm h2;have hone:(pw (Pol.X:Fp p) 0)%m=1:=Pol.mod_small (a:=(1:Fp p)) (by rw [Pol.len_one]; omega)
 rw [hone] at f1;have hf:f=m-1:=f1.one (oh m 1) (Y1 hm h2 h3 (D8 hi hm h2 h3 (by rw [Pol.len_one]; omega)))
 subst hf;have e4:=hlc p 1 (m-1) Pol.one_ne g1.2 (by rw [Pol.len_one]; omega) (by omega)
 have hl:(1:Fp p)*(m-1)/Pol.gcd 1 (m-1)=m-1:=by
  have hg:Pol.gcd (1:Fp p) (m-1)=1:=by
   have q1:=Pol.gcd_dv_left (a:=(1:Fp p)) (b:=m-1) (.inl Pol.one_ne);exact Monic.antisymm (Pol.gcd_monic (.inl Pol.one_ne)) Monic.one q1 ⟨_,(Gq.one_mul _).symm⟩
  rw [hg,Gq.one_mul];exact (Pol.div_mod_eq (q:=m-1) (r:=0) (by rw [Gq.add_zero,Gq.mul_one]) (by rw [Pol.len_zero,Pol.len_one]; omega)).1
 rw [hl,su,show ah .i64 [1]=[.int .i64 1] from rfl] at e4;rw [eo] at e1 e2;have w1:IntKind.i64.wrap 1=1:=rfl;generalize row (pw (Pol.X:Fp p) 0)=Rx at *;generalize row (m-1)=Rf at *;generalize row m=Rm at *;simp -implicitDefEqProofs at e1;simp -implicitDefEqProofs [Z8_L0,az,hd,e1,e2,e3,e4,w1]
theorem ad2 {O:ap} (hno:ti O) (hnu:kf O) (han:Dj O) (hlc:Ru O) {m:Fp p} (hi:Irr m) (hm:Monic m) (h2:2≤m.len) (h3:m.len≤3) {d:Int} (hd:1<d) :
 dn O 0 Z8_L0 ⟨[(4,.ptr 1 []),(7,(.d (.int .i64 p))),(8,(.d (.sl .leaf (ah .i64 (row m))))),(9,(.d (.sl .leaf (ah .i64 (row (m-1)))))),(23,(.d (.int .i64 d))),(24,(.d (.int .i64 ((1:Int)))))],[.hole,.box false (D.arr 64 .leaf (ah .u8 (pad []))),.hole]⟩ =
  some (.normal,⟨[(4,.ptr 1 []),(7,(.d (.int .i64 p))),(8,(.d (.sl .leaf (ah .i64 (row m))))),(9,(.d (.sl .leaf (ah .i64 (row (m-1)))))),(23,(.d (.int .i64 d))),(24,(.d (.int .i64 ((2:Int)))))],[.hole,.box false (D.arr 64 .leaf (ah .u8 (pad []))),.hole]⟩):=by
 obtain ⟨e1,e2⟩:=T0 (p:=p) hno hnu (k:=1) (by omega)
 obtain ⟨f,f1,f2,e3⟩:=han p m (pw Pol.X 1) hm.2 (by omega) (by rw [nk]; omega)
 obtain ⟨g1,g2⟩:=Cz hm h2;have hk:=D8 hi hm h2 h3 (Pol.len_mod (pw Pol.X 1) hm.2);have hdv:=f1.dv hm.2 hk;have e4:=hlc p (m-1) f g1.2 f1.mon.2 (by omega) (by omega)
 rw [a9q g1.2 f1.mon hdv] at e4;have w1:IntKind.i64.wrap 2=2:=rfl;generalize p^1=p1 at *;generalize row (pw (Pol.X:Fp p) 1)=Rx at *;generalize row f=Rf at *;generalize row (m-1)=Rg at *;generalize row m=Rm at *;simp -implicitDefEqProofs at e1;simp -implicitDefEqProofs [Z8_L0,az,hd,e1,e2,e3,e4,w1]
end
def wv (O:ap) (F:Nat):Prop:=∀(p:Int) [IsP p] (m:Fp p),Irr m→Monic m→2≤m.len→m.len≤3→ask O F [(D.int .i64 p),(D.arr 64 .leaf (ah .u8 (pad (row m))))]=some (.tup [(D.arr 64 .leaf (ah .u8 (pad (row (m-1))))),(D.int .i64 0)])
theorem O4 (hT:T F8=some Z8) (hmc:xo (den T A)) (hro:qa (den T A)) (hdg:me (den T A)) (hno:ti (den T A)) (hnu:kf (den T A)) (han:Dj (den T A)) (hlc:Ru (den T A)) (hto:zu (den T A)):wv (den T A) F8:=by
 intro p ip m hi hm h2 h3;obtain ⟨g1,g2⟩:=Cz hm h2;have e1:=hmc p (pad (row m)) (lh m) (c5 _);rw [show pu p (pad (row m)) []=0 from O8 hm h2 (by omega) []] at e1
 have e2:=hro p m (by omega)
 have e3:=hdg (row m) (by rw [bf]; omega)
 have e6:=hto (row (m-1)) (sa _) (by rw [bf]; omega)
 unfold G1 at e6;rw [if_pos (by rw [bf]; omega)] at e6
 have ex:∃d:Int,((row m).length:Int)-1=d∧dn (den T A) 0 (.loop Z8_L0) ⟨[(4,.ptr 1 []),(7,(.d (.int .i64 p))),(8,(.d (.sl .leaf (ah .i64 (row m))))),(9,.sl 2 [] 0 1 (some 1)),(23,(.d (.int .i64 d))),(24,(.d (.int .i64 ((0:Int)))))],[.hole,.box false (D.arr 64 .leaf (ah .u8 (pad []))),.sl false .leaf [.int .i64 1]]⟩ =
  some (.exit 0,⟨[(4,.ptr 1 []),(7,(.d (.int .i64 p))),(8,(.d (.sl .leaf (ah .i64 (row m))))),(9,(.d (.sl .leaf (ah .i64 (row (m-1)))))),(23,(.d (.int .i64 d))),(24,(.d (.int .i64 d))),(25,(.d (.bool false)))],[.hole,.box false (D.arr 64 .leaf (ah .u8 (pad []))),.hole]⟩):=by
  refine ⟨((row m).length:Int)-1,rfl,?_⟩;rw [bf];rcases (show m.len=2∨m.len=3 by omega) with h | h
  ·rw [h]
   refine c8 (a8u hno hnu han hlc hi hm h2 h3 (by omega)) (cg ?_)
   generalize row (m-1)=Rg at *;generalize row m=Rm at *;simp -implicitDefEqProofs [Z8_L0,az]
  ·rw [h]
   refine c8 (a8u hno hnu han hlc hi hm h2 h3 (by omega)) (c8 (ad2 hno hnu han hlc hi hm h2 h3 (by omega)) (cg ?_))
   generalize row (m-1)=Rg at *;generalize row m=Rm at *;simp -implicitDefEqProofs [Z8_L0,az]
 obtain ⟨d,hd,ex⟩:=ex;rw [hd] at e3;clear hd;refine cd hT rfl ?_;generalize pad (row (m-1))=Pg at *;generalize row (m-1)=Rg at *;generalize pad (row m)=Pm at *;generalize row m=Rm at *;simp -implicitDefEqProofs [Z8,Z8_B,az,e1,e2,e3,e6,ex,List.replicate]
end Pe
namespace Pe
open Go Gq
section
variable {p:Int} [IsP p]
end
section
variable {p:Int}
theorem a0u (a:Fp p):∀(s t:Nat),(pw (Pol.X:Fp p) s*a).c t=if t<s then 0 else a.c (t-s)
 | 0,t=>by rw [show pw (Pol.X:Fp p) 0=1 from rfl,Gq.one_mul,if_neg (by omega)]; rfl
 | s+1,t=>by
  have e:pw (Pol.X:Fp p) (s+1)*a=Pol.X*(pw Pol.X s*a):=by
   show pw (Pol.X:Fp p) s*Pol.X*a=_;exact bq [pw (Pol.X:Fp p) s,Pol.X,a] rfl
  rw [e,Pol.c_Xmul]
  by_cases h:t=0
  ·rw [if_pos h,if_pos (by omega)]
  ·rw [if_neg h,a0u a s (t-1)]
   by_cases h2:t<s+1
   ·rw [if_pos (by omega),if_pos h2]
   ·rw [if_neg (by omega),if_neg h2,show t-1-s=t-(s+1) by omega]
end
section
variable {p:Int} [IsP p]
noncomputable def jS (n:Nat):Nat→List (Fp p)→Fp p
 | _,[]=>0
 | s,y::ys=>pw Pol.X s*y+jS n (s+n) ys
end
section
variable {p:Int}
theorem a30 (n:Nat):∀(ys:List (Fp p)) (s t:Nat),t<s→(jS n s ys).c t=0
 | [],_,_,_=>rfl
 | y::ys,s,t,h=>by rw [jS,Pol.c_add,a0u,if_pos h,a30 n ys (s+n) t (by omega),Gq.add_zero]
end
section
variable {p:Int} [IsP p]
end
section
variable {p:Int}
theorem a6e {n:Nat} (y:Fp p) (ys:List (Fp p)) (s t:Nat) (h:t<n):(jS n s (y::ys)).c (s+t)=y.c t:=by
 rw [jS,Pol.c_add,a0u,if_neg (by omega),a30 n ys (s+n) _ (by omega),Gq.add_zero,Nat.add_sub_cancel_left]
end
section
variable {p:Int} [IsP p]
theorem Oj {n:Nat}:∀(ys:List (Fp p)) (s:Nat),(∀y∈ys,y.len≤n)→(jS n s ys).len≤s+n*ys.length
 | [],_,_=>by rw [jS,Pol.len_zero]; omega
 | y::ys,s,h=>by
  have h1:=Oj ys (s+n) fun z hz=>h z (by simp [hz])
  have h2:=h y (by simp)
  rw [bu,Nat.mul_succ];exact Pol.len_add_le (Pol.len_le fun t ht=>by rw [a0u,if_neg (by omega)]; exact lr (by omega)) (by omega)
end
section
variable {p:Int}
theorem Wm {n:Nat}:∀(ys:List (Fp p)) (s:Nat),(∀y∈ys,y=0)→jS n s ys=0
 | [],_,_=>rfl
 | y::ys,s,h=>by rw [jS,h y (by simp),Wm ys _ fun z hz=>h z (by simp [hz]),Gq.mul_zero,Gq.add_zero]
end
section
variable {p:Int} [IsP p]
noncomputable def jv (m:Fp p) (xs:List (Fp p)) (f:Fp p):Fp p:=jS (m.len-1) 0 (xs.map fun x=>av m x f)
theorem a4y (m:Fp p) (xs:List (Fp p)):Lin (jv m xs) where
 add f g:=by
  have:∀(xs:List (Fp p)) (s:Nat),jS (m.len-1) s (xs.map fun x=>av m x (f+g))=jS (m.len-1) s (xs.map fun x=>av m x f)+jS (m.len-1) s (xs.map fun x=>av m x g):=fun xs=>by
   induction xs with
   | nil=>exact fun s=>(Gq.add_zero _).symm
   | cons x xs ih=>
    intro s;rw [cw,cw,cw,jS,jS,jS,ih,(oh m x).add];exact bq [pw (Pol.X:Fp p) s,av m x f,av m x g,jS (m.len-1) (s+(m.len-1)) (xs.map fun x=>av m x f),jS (m.len-1) (s+(m.len-1)) (xs.map fun x=>av m x g)] rfl
  exact this xs 0
 mul k f:=by
  have:∀(xs:List (Fp p)) (s:Nat),jS (m.len-1) s (xs.map fun x=>av m x (Pol.C k*f))=Pol.C k*jS (m.len-1) s (xs.map fun x=>av m x f):=fun xs=>by
   induction xs with
   | nil=>exact fun s=>(Gq.mul_zero _).symm
   | cons x xs ih=>
    intro s;rw [cw,cw,jS,jS,ih,(oh m x).mul];exact bq [pw (Pol.X:Fp p) s,av m x f,Pol.C k,jS (m.len-1) (s+(m.len-1)) (xs.map fun x=>av m x f)] rfl
  exact this xs 0
theorem adq (m:Fp p) (xs:List (Fp p)) (k:Nat):jv m xs (pw Pol.X k)=jS (m.len-1) 0 (xs.map (stI m k)):=by
 unfold jv
 congr 1
 exact List.map_congr_left fun x _=>Wb m k x
noncomputable def rlM:List (Fp p)→List (Fp p)→Fp p→Fp p→Fp p×Fp p
 | b::ks,t::ts,v,o=>rlM ks ts (v+Pol.C (-v.c (b.len-1))*b) (o+Pol.C (-v.c (b.len-1))*t)
 | _,_,v,o=>(v,o)
structure RelJ (ev:Fp p→Fp p) (d k:Nat) (ks ts:List (Fp p)):Prop where
 src:ks=ts.map ev
 tri:ks.Pairwise fun a b=>b.c (a.len-1)=0
 mon:∀b∈ks,Monic b∧b.len≤d
 tl:∀t∈ts,t.len≤k
 sp:∀h:Fp p,h.len≤k→Spn ks (ev h)
 ind:∀h:Fp p,h.len≤k→ev h=0→h=0
 cnt:ks.length=k
theorem RelJ.nil {ev:Fp p→Fp p} (hl:Lin ev) (d:Nat):RelJ ev d 0 [] [] where
 src:=rfl
 tri:=.nil
 mon:=fun b hb=>(List.not_mem_nil hb).elim
 tl:=fun b hb=>(List.not_mem_nil hb).elim
 sp:=fun h hh=>by rw [Pol.len_zero_iff.1 (Nat.le_zero.1 hh),hl.zero]; exact .zero
 ind:=fun h hh _=>Pol.len_zero_iff.1 (by omega)
 cnt:=rfl
theorem a1s {ev:Fp p→Fp p} (hl:Lin ev) {d k:Nat}:∀(ts:List (Fp p)) (v o:Fp p),((ts.map ev).Pairwise fun a b=>b.c (a.len-1)=0)→(∀b∈ts.map ev,Monic b∧b.len≤d)→(∀t∈ts,t.len≤k)→v.len≤d→o.len≤k+1→o.c k=1→ev o=v →
 (rlM (ts.map ev) ts v o).1.len≤d∧(rlM (ts.map ev) ts v o).2.len≤k+1∧(rlM (ts.map ev) ts v o).2.c k=1∧ev (rlM (ts.map ev) ts v o).2=(rlM (ts.map ev) ts v o).1∧(∀b∈ts.map ev,(rlM (ts.map ev) ts v o).1.c (b.len-1)=0)∧(∀i,(∀b∈ts.map ev,b.c i=0)→(rlM (ts.map ev) ts v o).1.c i=v.c i)
 | [],v,o,_,_,_,h1,h2,h3,h4=>⟨h1,h2,h3,h4,fun b hb=>(List.not_mem_nil hb).elim,fun _ _=>rfl⟩
 | t::ts,v,o,hd,hn,ht,h1,h2,h3,h4=>by
  rw [cw] at hd hn ⊢;obtain ⟨d1,d2⟩:=d5.1 hd;obtain ⟨n1,n2⟩:=hn (ev t) (by simp)
  have tk:=ht t (by simp)
  have hz:(v+Pol.C (-v.c ((ev t).len-1))*ev t).c ((ev t).len-1)=0:=by
   rw [Pol.c_add,Pol.c_Cmul,show (ev t).c ((ev t).len-1)=1 from n1.1];exact bq [v.c ((ev t).len-1)] rfl
  obtain ⟨i1,i2,i3,i4,i5,i6⟩:=a1s hl ts (v+Pol.C (-v.c ((ev t).len-1))*ev t) (o+Pol.C (-v.c ((ev t).len-1))*t) d2 (fun b hb=>hn b (by simp [hb])) (fun s hs=>ht s (by simp [hs]))
   (Pol.len_add_le h1 (dk (ma _ _) n2)) (Pol.len_add_le h2 (dk (ma _ _) (by omega)))
   (by rw [Pol.c_add,Pol.c_Cmul,lr tk,Gq.mul_zero,Gq.add_zero]; exact h3) (by rw [hl.add,hl.mul,h4])
  rw [rlM];refine ⟨i1,i2,i3,i4,fun b hb=>?_,fun i hi=>?_⟩
  ·rcases d8.1 hb with rfl | hb
   ·exact (i6 _ d1).trans hz
   ·exact i5 b hb
  ·refine (i6 i fun c hc=>hi c (by simp [hc])).trans ?_
   rw [Pol.c_add,Pol.c_Cmul,hi (ev t) (by simp),Gq.mul_zero,Gq.add_zero]
theorem M5:∀{ks:List (Fp p)} {y:Fp p},ks.Pairwise (fun a b=>b.c (a.len-1)=0)→(∀b∈ks,Monic b)→Spn ks y→(∀b∈ks,y.c (b.len-1)=0)→y=0
 | [],y,_,_,hs,_=>by
  refine Spn.inside (S:=fun y=>y=0) rfl (fun k a b ha hb=>by rw [ha,hb,Gq.mul_zero,Gq.add_zero]) (fun a ha=>by cases ha) hs
 | b::ks,y,hd,hn,hs,hz=>by
  obtain ⟨d1,d2⟩:=d5.1 hd;have hb0:=hn b (by simp)
  obtain ⟨k,z,hz1,rfl⟩:∃(k:Zp p) (z:Fp p),Spn ks z∧y=Pol.C k*b+z:=by
   refine Spn.inside (S:=fun y=>∃(k:Zp p) (z:Fp p),Spn ks z∧y=Pol.C k*b+z) ⟨0,0,.zero,by rw [Pol.C_zero,Gq.zero_mul,Gq.zero_add]⟩ ?_ ?_ hs
   ·rintro k _ _ ⟨k1,z1,s1,rfl⟩ ⟨k2,z2,s2,rfl⟩
    refine ⟨k*k1+k2,Pol.C k*z1+z2,(s1.smul k).add s2,?_⟩;rw [Pol.C_add,Pol.C_mul];exact bq [Pol.C k,Pol.C k1,Pol.C k2,b,z1,z2] rfl
   ·intro a ha
    rcases d8.1 ha with rfl | ha
    ·exact ⟨1,0,.zero,by rw [show Pol.C (1:Zp p)=1 from rfl,Gq.one_mul,Gq.add_zero]⟩
    ·exact ⟨0,a,.mem ha,by rw [Pol.C_zero,Gq.zero_mul,Gq.zero_add]⟩
  have hzl:z.c (b.len-1)=0:=by
   refine Spn.inside (S:=fun y=>y.c (b.len-1)=0) rfl (fun k x w hx hw=>by rw [Pol.c_add,Pol.c_Cmul,hx,hw,Gq.mul_zero,Gq.add_zero]) (fun a ha=>d1 a ha) hz1
  have hk:k=0:=by
   have e:=hz b (by simp)
   rw [Pol.c_add,Pol.c_Cmul,hzl,Gq.add_zero,show b.c (b.len-1)=1 from hb0.1,Gq.mul_one] at e;exact e
  subst hk;rw [Pol.C_zero,Gq.zero_mul,Gq.zero_add] at hz ⊢;exact M5 d2 (fun c hc=>hn c (by simp [hc])) hz1 fun c hc=>hz c (by simp [hc])
theorem RelJ.found {ev:Fp p→Fp p} {d k:Nat} {ks ts:List (Fp p)} (h:RelJ ev d k ks ts) {o:Fp p} (h1:o.len≤k+1) (h2:o.c k=1) (h3:ev o=0):MinR ev o∧o.len=k+1:=by
 have hne:o.c k≠0:=by rw [h2]; exact Fd.one_ne
 have hlen:o.len=k+1:=by
  have:¬ o.len≤k:=fun g=>hne (lr g)
  omega
 have hon:o≠0:=fun g=>hne (by rw [g]; rfl)
 exact ⟨⟨⟨by unfold Pol.ld; rw [hlen,Nat.add_sub_cancel]; exact h2,hon⟩,h3,fun g hg hz=>h.ind g (by omega) hz⟩,hlen⟩
theorem RelJ.next {ev:Fp p→Fp p} (hl:Lin ev) {d k:Nat} {ks ts:List (Fp p)} (h:RelJ ev d k ks ts) {v o:Fp p} (h1:o.len≤k+1) (h2:o.c k=1) (h3:ev o=v) (hv:v≠0) (hvl:v.len≤d) (hz:∀b∈ks,v.c (b.len-1)=0) :
 RelJ ev d (k+1) (ks++[Pol.C (Fd.inv v.ld)*v]) (ts++[Pol.C (Fd.inv v.ld)*o]):=by
 have hld:=Pol.ld_ne hv
 have hi0:Fd.inv v.ld≠0:=fun e=>by
  have:=Fd.mul_inv v.ld hld;rw [e,Gq.mul_zero] at this;exact Fd.one_ne this.symm
 have back:∀y:Fp p,y=Pol.C v.ld*(Pol.C (Fd.inv v.ld)*y):=fun y=>by
  rw [←Gq.mul_assoc,←Pol.C_mul,Fd.mul_inv _ hld,show Pol.C (1:Zp p)=1 from rfl,Gq.one_mul]
 have hwl:(Pol.C (Fd.inv v.ld)*v).len=v.len:=by
  have a1:=ma (Fd.inv v.ld) v;have a2:=ma v.ld (Pol.C (Fd.inv v.ld)*v);rw [←back] at a2;omega
 have hwm:Monic (Pol.C (Fd.inv v.ld)*v):=by
  refine ⟨?_,fun e=>hv ?_⟩
  ·show (Pol.C (Fd.inv v.ld)*v).c ((Pol.C (Fd.inv v.ld)*v).len-1)=1
   rw [hwl,Pol.c_Cmul,Gq.mul_comm];exact Fd.mul_inv _ hld
  ·rw [back v,e,Gq.mul_zero]
 have hsp:∀g:Fp p,g.len≤k+1→∃(c:Zp p) (g':Fp p),g'.len≤k∧g=Pol.C c*o+g':=fun g hg=>by
  refine ⟨g.c k,g-Pol.C (g.c k)*o,Pol.len_le fun i hi=>?_,?_⟩
  ·rw [Pol.c_sub,Pol.c_Cmul]
   by_cases hik:i=k
   ·rw [hik,h2,Gq.mul_one]; exact Gq.sub_self _
   ·rw [lr (show g.len≤i by omega),lr (show o.len≤i by omega),Gq.mul_zero]; exact Gq.sub_self _
  ·exact bq [g,Pol.C (g.c k),o] rfl
 have sup:∀{y},Spn ks y→Spn (ks++[Pol.C (Fd.inv v.ld)*v]) y:=fun hy=>Spn.sup (fun a ha=>.mem (c9 _ ha)) hy
 refine ⟨?_,?_,fun b hb=>?_,fun t ht=>?_,fun g hg=>?_,fun g hg h0=>?_,?_⟩
 ·rw [da,←h.src,cw,gt,hl.mul,h3]
 ·rw [fe]
  refine ⟨h.tri,fj _ _,fun a ha b hb=>?_⟩
  rw [br.1 hb,Pol.c_Cmul,hz a ha,Gq.mul_zero]
 ·rcases bi.1 hb with hb | hb
  ·exact h.mon b hb
  ·rw [br.1 hb]
   exact ⟨hwm,by omega⟩
 ·rcases bi.1 ht with ht | ht
  ·have:=h.tl t ht; omega
  ·rw [br.1 ht]
   exact dk (ma _ _) h1
 ·obtain ⟨c,g',hg',rfl⟩:=hsp g hg
  have hw:Spn (ks++[Pol.C (Fd.inv v.ld)*v]) v:=by
   have:=(Spn.mem (L:=ks++[Pol.C (Fd.inv v.ld)*v]) (rt _ (br.2 rfl))).smul v.ld
   rwa [←back] at this
  rw [hl.add,hl.mul,h3];exact (hw.smul c).add (sup (h.sp g' hg'))
 ·obtain ⟨c,g',hg',rfl⟩:=hsp g hg
  rw [hl.add,hl.mul,h3] at h0
  have hc:c=0:=by
   refine cm fun hc=>hv ?_
   have e:v=Pol.C (Fd.inv c) * -ev g':=by
    have e1:-ev g'=Pol.C c*v:=by
     have:-ev g'=Pol.C c*v-(Pol.C c*v+ev g'):=bq [ev g',Pol.C c*v] rfl;rw [this,h0];exact bq [Pol.C c*v] rfl
    rw [e1,←Gq.mul_assoc,←Pol.C_mul,Gq.mul_comm (Fd.inv c),Fd.mul_inv _ hc,show Pol.C (1:Zp p)=1 from rfl,Gq.one_mul]
   refine M5 h.tri (fun b hb=>(h.mon b hb).1) ?_ hz
   rw [e];exact (h.sp g' hg').neg.smul _
  subst hc;rw [Pol.C_zero,Gq.zero_mul,Gq.zero_add] at h0 ⊢;exact h.ind g' hg' h0
 ·rw [bo,h.cnt]; rfl
end
end Pe
namespace Pe
open Go Gq
variable {T:Nat→Option Fn} {A:ap}
def yh (O:ap):Prop:=∀(p:Int) [IsP p] (m x:Fp p),m≠0→m.len≤64→x.len<m.len→ask O F3p [(D.int .i64 p),(D.arr 64 .leaf (ah .u8 (pad (row x)))),(D.arr 64 .leaf (ah .u8 (pad (row m))))]=some (D.arr 64 .leaf (ah .u8 (pad (row (stp m x)))))
theorem a7y (hT:T F3p=some Z3p) (ht:a2n (den T A)) (hmo:By (den T A)) (hmm:x9 (den T A)) (hpw:wm (den T A)) (had:pq (den T A)):yh (den T A):=by
 intro p ip m x hm hml hx;have hp:=IsP.le (p:=p);have hp1:=IsP.pos (p:=p)
 have hX:(Pol.X:Fp p).len≤2:=by
  have:=nk (p:=p) 1;rw [rc] at this;omega
 have l1:=Pol.len_mod (Pol.X:Fp p) hm;have l2:=Pol.len_mod (Pol.X%m*x) hm;have l3:=Pol.len_mod (pw x p.toNat) hm;have e1:=ht p;have e2:=hmo p Pol.X m hm (by omega) hml
 have e3:=hmm p (Pol.X%m) x m hm hml (by omega) (by omega)
 have e4:=hpw p x p m hm (by omega) hml (by omega) (by omega)
 have e5:=had p 1 (Pol.X%m*x%m) (pw x p.toNat%m) (by omega) (by omega) (by omega) (by omega)
 have e:Pol.X%m*x%m+Pol.C (zp p 1)*(pw x p.toNat%m)=stp m x:=by
  rw [zh,Pol.C_one,Gq.one_mul];refine E6 hm (Nat.lt_of_le_of_lt (Pol.len_add_le (n:=m.len-1) (by omega) (by omega)) (by omega)) (yc hm x) ?_
  rw [zd hm,Quo.mk_add,En hm,En hm,Quo.mk_mul,En hm,Quo.mk_pow]
 rw [e] at e5;refine cd hT rfl ?_;generalize pad (row (stp m x))=R5 at *;generalize pad (row (pw x p.toNat%m))=R4 at *;generalize pad (row (Pol.X%m*x%m))=R3 at *;generalize pad (row (Pol.X%m))=R2 at *;generalize pad (row (Pol.X:Fp p))=R1 at *;generalize pad (row x)=Rx at *;generalize pad (row m)=Rm at *;simp -implicitDefEqProofs [Z3p,Z3p_B,e1,e2,e3,e4,e5,List.replicate]
section
variable {p:Int} [IsP p]
end
section
variable {p:Int}
theorem Gx {Q R:Fp p} (hQ:Q.len≤64) (_hR:R.len≤64) {i:Nat} (hi:i<64) (h:∀t,t≠i→R.c t=Q.c t):(pad (row Q)).set i (rep (R.c i))=pad (row R):=by
 refine (I6 (by rw [cx,c5]) fun t ht=>?_).symm
 rw [tf,c5,gd]
 by_cases hti:t=i
 ·rw [if_pos ⟨hti,hi⟩,hti]
 ·rw [if_neg (fun g=>hti g.1),ou hQ,h t hti]
end
section
variable {p:Int} [IsP p]
def lw (Q:Fp p) (s:Nat) (a:Fp p) (j:Nat):Fp p:=⟨fun t=>if t<s then Q.c t else if t<s+j then a.c (t-s) else 0,s+j,fun t ht=>by rw [if_neg (by omega),if_neg (by omega)]⟩
end
section
variable {p:Int}
theorem Yb (Q:Fp p) (s:Nat) (a:Fp p) (j t:Nat):(lw Q s a j).c t=if t<s then Q.c t else if t<s+j then a.c (t-s) else 0:=rfl
end
section
variable {p:Int} [IsP p]
end
section
variable {p:Int}
theorem a55 (Q:Fp p) (s:Nat) (a:Fp p) (j:Nat):(lw Q s a j).len≤s+j:=Pol.len_le fun t ht=>by rw [Yb,if_neg (by omega),if_neg (by omega)]
end
section
variable {p:Int} [IsP p]
end
section
variable {p:Int}
theorem a6c {Q:Fp p} {s:Nat} (h:Q.len≤s) (a:Fp p):lw Q s a 0=Q:=Pol.ext fun t=>by
 rw [Yb]
 by_cases h1:t<s
 ·rw [if_pos h1]
 ·rw [if_neg h1,if_neg (by omega),lr (by omega)]
end
section
variable {p:Int} [IsP p]
end
section
variable {p:Int}
theorem a7h {Q:Fp p} {s:Nat} (h:Q.len≤s) {a:Fp p} {n:Nat} (ha:a.len≤n):lw Q s a n=Q+pw Pol.X s*a:=Pol.ext fun t=>by
 rw [Yb,Pol.c_add,a0u]
 by_cases h1:t<s
 ·rw [if_pos h1,if_pos h1,Gq.add_zero]
 ·rw [if_neg h1,if_neg h1,lr (show Q.len≤t by omega),Gq.zero_add]
  by_cases h2:t<s+n
  ·rw [if_pos h2]
  ·rw [if_neg h2,lr (by omega)]
end
section
variable {p:Int} [IsP p]
end
section
variable {p:Int}
theorem a91 {O:ap} {m o a Q:Fp p} {n k nr nn i:Nat} {cr cs:Option Nat} {RR SS NN:List D} (hn:NN.length=nn) (hin:i<nn) (hna:∀h:i<NN.length,NN[i]'h=e8 a) (hal:a.len≤64) (hs:i*n+n≤64):∀(r j:Nat),j+r=n →
 dn O 0 (.loop Z3n_L0) ⟨[(0,(.d (.int .i64 p))),(5,.ptr 0 []),(6,.ptr 1 []),(7,(.d (.int .i64 ((n:Nat))))),(8,.sl 2 [] 0 nr cr),(9,.sl 3 [] 0 nr cs),(10,.sl 4 [] 0 nn none),(11,(.d (.int .i64 ((k:Nat))))),(12,.ptr 6 []),(13,.ptr 7 []),(14,(.d (.int .i64 ((i:Nat))))),(15,(.d (.int .i64 ((j:Nat)))))],[.box false (D.arr 64 .leaf (ah .u8 (pad (row m)))),.box false (D.arr 64 .leaf (ah .u8 (pad []))),.sl false (.arr 64 .leaf) RR,.sl false (.arr 64 .leaf) SS,.sl false (.arr 64 .leaf) NN,.hole,(.box false (D.arr 64 .leaf (ah .u8 (pad (row (lw Q (i*n) a j)))))),(.box false (D.arr 64 .leaf (ah .u8 (pad (row o))))),.hole,.hole,.hole,.hole]⟩ =
  some (.exit 4,⟨[(0,(.d (.int .i64 p))),(5,.ptr 0 []),(6,.ptr 1 []),(7,(.d (.int .i64 ((n:Nat))))),(8,.sl 2 [] 0 nr cr),(9,.sl 3 [] 0 nr cs),(10,.sl 4 [] 0 nn none),(11,(.d (.int .i64 ((k:Nat))))),(12,.ptr 6 []),(13,.ptr 7 []),(14,(.d (.int .i64 ((i:Nat))))),(15,(.d (.int .i64 ((n:Nat))))),(40,(.d (.bool false)))],[.box false (D.arr 64 .leaf (ah .u8 (pad (row m)))),.box false (D.arr 64 .leaf (ah .u8 (pad []))),.sl false (.arr 64 .leaf) RR,.sl false (.arr 64 .leaf) SS,.sl false (.arr 64 .leaf) NN,.hole,(.box false (D.arr 64 .leaf (ah .u8 (pad (row (lw Q (i*n) a n)))))),(.box false (D.arr 64 .leaf (ah .u8 (pad (row o))))),.hole,.hole,.hole,.hole]⟩)
 | 0,j,hj=>by
  obtain rfl:j=n:=by omega
  refine cg ?_;generalize pad (row (lw Q (i*j) a j))=P1 at *;generalize pad (row m)=P2 at *;generalize pad (row o)=P3 at *;simp -implicitDefEqProofs [Z3n_L0,az]
 | r+1,j,hj=>by
  have hjn:j<n:=by omega
  have hjl:(j:Int)<n:=by omega
  have hj64:j<64:=by omega
  have hx64:i*n+j<64:=by omega
  have h1:=a55 Q (i*n) a j;have h2:=a55 Q (i*n) a (j+1)
  have e:=Gx (Q:=lw Q (i*n) a j) (R:=lw Q (i*n) a (j+1)) (by omega) (by omega) hx64 (fun t ht=>by
   rw [Yb,Yb]
   by_cases g1:t<i*n
   ·rw [if_pos g1,if_pos g1]
   ·rw [if_neg g1,if_neg g1]
    by_cases g2:t<i*n+j
    ·rw [if_pos g2,if_pos (by omega)]
    ·rw [if_neg g2,if_neg (by omega)])
  rw [Yb,if_neg (by omega),if_pos (by omega),Nat.add_sub_cancel_left] at e
  have hget:(pad (row a))[j]? = some (rep (a.c j)):=by rw [pf _ _ hj64,gd]
  have hl1:(pad (row (lw Q (i*n) a j))).length=64:=c5 _;have hl2:(pad (row a)).length=64:=c5 _;have w0:IntKind.i64.wrap ((i:Int)*(n:Int))=((i*n:Nat):Int):=by rw [←qd]; exact w64 (by omega)
  have w1:IntKind.i64.wrap (((i*n:Nat):Int)+(j:Int))=((i*n+j:Nat):Int):=by rw [←Int.natCast_add]; exact w64 (by omega)
  have w4:IntKind.i64.wrap ((j:Int)+1)=((j+1:Nat):Int):=(w64 (x:=(j:Int)+1) (by omega)).trans (by omega)
  refine c8 ?_ (a91 hn hin hna hal hs r (j+1) (by omega))
  rw [←e];generalize pad (row (lw Q (i*n) a j))=P1 at *;generalize pad (row m)=P2 at *;generalize pad (row o)=P3 at *;unfold e8 at hna;generalize pad (row a)=Pa at *;generalize rep (a.c j)=c at *;generalize ((j+1:Nat):Int)=J1 at *;generalize i*n+j=x at *;generalize ((i*n:Nat):Int)=y at *
  have hga:∀h:j<Pa.length,Pa[j]'h=c:=fun h=>by
   rw [b7 h] at hget;exact aw hget
  simp -implicitDefEqProofs [Z3n_L0,az,hjl,hj64,hx64,hn,hin,hna,hga,hl1,hl2,w0,w1,w4]
end
section
variable {p:Int} [IsP p]
theorem a46 {O:ap} (hst:yh O) {m o:Fp p} {ys:List (Fp p)} {n k nr nn:Nat} {cr cs:Option Nat} {RR SS:List D} (hm:m≠0) (hml:m.len≤64) (hnm:n=m.len-1) (hys:∀y∈ys,y.len<m.len) (hn:ys.length=nn) (hsz:nn*n≤64) (hn64:nn≤64):∀(r i:Nat) (Q:Fp p),i+r=nn→Q.len≤i*n →
 dn O 0 (.loop Z3n_L1) ⟨[(0,(.d (.int .i64 p))),(5,.ptr 0 []),(6,.ptr 1 []),(7,(.d (.int .i64 ((n:Nat))))),(8,.sl 2 [] 0 nr cr),(9,.sl 3 [] 0 nr cs),(10,.sl 4 [] 0 nn none),(11,(.d (.int .i64 ((k:Nat))))),(12,.ptr 6 []),(13,.ptr 7 []),(14,(.d (.int .i64 ((i:Nat)))))],[.box false (D.arr 64 .leaf (ah .u8 (pad (row m)))),.box false (D.arr 64 .leaf (ah .u8 (pad []))),.sl false (.arr 64 .leaf) RR,.sl false (.arr 64 .leaf) SS,.sl false (.arr 64 .leaf) (((ys.take i).map (stp m)++ys.drop i).map e8),.hole,(.box false (D.arr 64 .leaf (ah .u8 (pad (row Q))))),(.box false (D.arr 64 .leaf (ah .u8 (pad (row o))))),.hole,.hole,.hole,.hole]⟩ =
  some (.exit 2,⟨[(0,(.d (.int .i64 p))),(5,.ptr 0 []),(6,.ptr 1 []),(7,(.d (.int .i64 ((n:Nat))))),(8,.sl 2 [] 0 nr cr),(9,.sl 3 [] 0 nr cs),(10,.sl 4 [] 0 nn none),(11,(.d (.int .i64 ((k:Nat))))),(12,.ptr 6 []),(13,.ptr 7 []),(14,(.d (.int .i64 ((nn:Nat))))),(35,(.d (.bool false)))],[.box false (D.arr 64 .leaf (ah .u8 (pad (row m)))),.box false (D.arr 64 .leaf (ah .u8 (pad []))),.sl false (.arr 64 .leaf) RR,.sl false (.arr 64 .leaf) SS,.sl false (.arr 64 .leaf) (((ys.take nn).map (stp m)++ys.drop nn).map e8),.hole,(.box false (D.arr 64 .leaf (ah .u8 (pad (row (Q+jS n (i*n) (ys.drop i))))))),(.box false (D.arr 64 .leaf (ah .u8 (pad (row o))))),.hole,.hole,.hole,.hole]⟩)
 | 0,i,Q,hi,hQ=>by
  obtain rfl:i=nn:=by omega
  rw [du (show ys.length≤i by omega)]
  rw [show jS n (i*n) ([]:List (Fp p))=0 from rfl,Gq.add_zero];refine cg ?_;generalize ((ys.take i).map (stp m)++[]).map e8=N1 at *;generalize pad (row Q)=P1 at *;generalize pad (row m)=P2 at *;generalize pad (row o)=P3 at *;simp -implicitDefEqProofs [Z3n_L1,az]
 | r+1,i,Q,hi,hQ=>by
  have hin:i<nn:=by omega
  have hlt:i<ys.length:=by omega
  have hil:(i:Int)<nn:=by omega
  have hyl:=hys _ (c6 hlt)
  have hcl:(((ys.take i).map (stp m)++ys.drop i).map e8).length=nn:=by
   rw [ba,bo,ba,bm,dp]; omega
  have hd:ys.drop i=ys[i]::ys.drop (i+1):=bt hlt
  have hgd:(((ys.take i).map (stp m)++ys.drop i).map e8)[i]? = some (e8 ys[i]):=by
   rw [fd,bg (by rw [ba,bm]; omega),ba,bm,Nat.min_eq_left (by omega),gu,hd]; rfl
  have hga:∀h:i<(((ys.take i).map (stp m)++ys.drop i).map e8).length,(((ys.take i).map (stp m)++ys.drop i).map e8)[i]'h=e8 ys[i]:=fun h=>by
   rw [b7 h] at hgd;exact aw hgd
  have hset:(((ys.take i).map (stp m)++ys.drop i).map e8).set i (e8 (stp m ys[i]))=(((ys.take (i+1)).map (stp m)++ys.drop (i+1)).map e8):=by
   rw [hd,da,List.set_append_right _ _ (by rw [ba,ba,bm]; omega),ba,ba,bm,Nat.min_eq_left (by omega),gu,cw,List.set_cons_zero,ja hlt,da,da,da]
   simp
  have hmul:i*n+n≤nn*n:=by
   have:=fb n (show i+1≤nn by omega)
   rwa [ez] at this
  have e1:=a91 (O:=O) (m:=m) (o:=o) (a:=ys[i]) (Q:=Q) (n:=n) (k:=k) (nr:=nr) (nn:=nn) (i:=i) (cr:=cr) (cs:=cs) (RR:=RR) (SS:=SS) (NN:=(((ys.take i).map (stp m)++ys.drop i).map e8)) hcl hin hga (by omega) (by omega) n 0 (by omega)
  rw [a6c hQ,a7h hQ (show ys[i].len≤n by omega)] at e1
  have e2:=hst p m ys[i] hm hml hyl;have w4:IntKind.i64.wrap ((i:Int)+1)=((i+1:Nat):Int):=(w64 (x:=(i:Int)+1) (by omega)).trans (by omega)
  have hj:Q+jS n (i*n) (ys.drop i)=Q+pw Pol.X (i*n)*ys[i]+jS n ((i+1)*n) (ys.drop (i+1)):=by
   rw [hd,jS,ez];exact bq [Q,pw (Pol.X:Fp p) (i*n)*ys[i],jS n (i*n+n) (ys.drop (i+1))] rfl
  rw [hj]
  refine c8 ?_ (a46 hst hm hml hnm hys hn hsz hn64 r (i+1) (Q+pw Pol.X (i*n)*ys[i]) (by omega) (by
   rw [ez];exact Pol.len_add_le (by omega) (Pol.len_le fun t ht=>by rw [a0u,if_neg (by omega)]; exact lr (by omega))))
  rw [←hset];clear hset hgd hd hj;generalize (((ys.take i).map (stp m)++ys.drop i).map e8)=N1 at *;generalize pad (row (Q+pw Pol.X (i*n)*ys[i]))=P4 at *;unfold e8 at hga;unfold e8;generalize pad (row (stp m ys[i]))=P5 at *;generalize pad (row ys[i])=P6 at *;generalize pad (row Q)=P1 at *;generalize pad (row m)=P2 at *;generalize pad (row o)=P3 at *;generalize ((i+1:Nat):Int)=I1 at *;simp -implicitDefEqProofs at e1;simp -implicitDefEqProofs [Z3n_L1,az,hil,hin,hcl,hga,e1,e2,w4]
theorem a4e {O:ap} (hdg:m8 O) (had:pq O) {m:Fp p} {ks ts:List (Fp p)} {n k nr nn:Nat} {cr cs:Option Nat} {NN:List D} (hks:ks.length=nr) (hts:ts.length=nr) (hn64:nr≤64) (hb:∀b∈ks,Monic b∧b.len≤64) (ht:∀t∈ts,t.len≤64):∀(r i:Nat) (v o:Fp p),i+r=nr→v.len≤64→o.len≤64 →
 dn O 0 (.loop Z3n_L2) ⟨[(0,(.d (.int .i64 p))),(5,.ptr 0 []),(6,.ptr 1 []),(7,(.d (.int .i64 ((n:Nat))))),(8,.sl 2 [] 0 nr cr),(9,.sl 3 [] 0 nr cs),(10,.sl 4 [] 0 nn none),(11,(.d (.int .i64 ((k:Nat))))),(12,.ptr 6 []),(13,.ptr 7 []),(16,(.d (.int .i64 ((i:Nat)))))],[.box false (D.arr 64 .leaf (ah .u8 (pad (row m)))),.box false (D.arr 64 .leaf (ah .u8 (pad []))),.sl false (.arr 64 .leaf) (ks.map e8),.sl false (.arr 64 .leaf) (ts.map e8),.sl false (.arr 64 .leaf) NN,.hole,(.box false (D.arr 64 .leaf (ah .u8 (pad (row v))))),(.box false (D.arr 64 .leaf (ah .u8 (pad (row o))))),.hole,.hole,.hole,.hole]⟩ =
  some (.exit 6,⟨[(0,(.d (.int .i64 p))),(5,.ptr 0 []),(6,.ptr 1 []),(7,(.d (.int .i64 ((n:Nat))))),(8,.sl 2 [] 0 nr cr),(9,.sl 3 [] 0 nr cs),(10,.sl 4 [] 0 nn none),(11,(.d (.int .i64 ((k:Nat))))),(12,.ptr 6 []),(13,.ptr 7 []),(16,(.d (.int .i64 ((nr:Nat))))),(70,(.d (.bool false)))],[.box false (D.arr 64 .leaf (ah .u8 (pad (row m)))),.box false (D.arr 64 .leaf (ah .u8 (pad []))),.sl false (.arr 64 .leaf) (ks.map e8),.sl false (.arr 64 .leaf) (ts.map e8),.sl false (.arr 64 .leaf) NN,.hole,(.box false (D.arr 64 .leaf (ah .u8 (pad (row (rlM (ks.drop i) (ts.drop i) v o).1))))),(.box false (D.arr 64 .leaf (ah .u8 (pad (row (rlM (ks.drop i) (ts.drop i) v o).2))))),.hole,.hole,.hole,.hole]⟩)
 | 0,i,v,o,hi,hv,ho=>by
  obtain rfl:i=nr:=by omega
  rw [du (show ks.length≤i by omega),du (show ts.length≤i by omega)]
  rw [show rlM ([]:List (Fp p)) [] v o=(v,o) from rfl];refine cg ?_;generalize ks.map e8=K at *;generalize ts.map e8=Q at *;generalize pad (row v)=P1 at *;generalize pad (row m)=P2 at *;generalize pad (row o)=P3 at *;simp -implicitDefEqProofs [Z3n_L2,az]
 | r+1,i,v,o,hi,hv,ho=>by
  have h1:i<ks.length:=by omega
  have h2:i<ts.length:=by omega
  have hin:i<nr:=by omega
  have hil:(i:Int)<nr:=by omega
  obtain ⟨b0,bl⟩:=hb _ (c6 h1);have tl:=ht _ (c6 h2);have bp:=Pol.len_pos b0.2;have e1:=hdg p ks[i] bl;rw [show (ks[i].len:Int)-1=((ks[i].len-1:Nat):Int) by omega] at e1
  have hat:ks[i].len-1<64:=by omega
  have hri:=im (v.c (ks[i].len-1));have hpl:=IsP.le (p:=p);have hget:(pad (row v))[ks[i].len-1]? = some (rep (v.c (ks[i].len-1))):=by rw [pf _ _ hat,gd]
  have hga:∀h:ks[i].len-1<(pad (row v)).length,(pad (row v))[ks[i].len-1]'h=rep (v.c (ks[i].len-1)):=fun h=>by
   rw [b7 h] at hget;exact aw hget
  have hvl:(pad (row v)).length=64:=c5 _;have e2:=had p (-rep (v.c (ks[i].len-1))) v ks[i] (by omega) (by omega) hv bl
  have e3:=had p (-rep (v.c (ks[i].len-1))) o ts[i] (by omega) (by omega) ho tl
  rw [J2,lm] at e2 e3;have w1:IntKind.i64.wrap (rep (v.c (ks[i].len-1)))=rep (v.c (ks[i].len-1)):=w64 (by omega)
  have w2:IntKind.i64.wrap (-rep (v.c (ks[i].len-1)))=-rep (v.c (ks[i].len-1)):=w64 (by omega)
  have w4:IntKind.i64.wrap ((i:Int)+1)=((i+1:Nat):Int):=(w64 (x:=(i:Int)+1) (by omega)).trans (by omega)
  have hx:∀h:i<(ks.map e8).length,(ks.map e8)[i]'h=(D.arr 64 .leaf (ah .u8 (pad (row ks[i])))):=fun h=>by rw [e9]
  have hy:∀h:i<(ts.map e8).length,(ts.map e8)[i]'h=(D.arr 64 .leaf (ah .u8 (pad (row ts[i])))):=fun h=>by rw [e9]
  have hKl:(ks.map e8).length=nr:=by rw [ba]; exact hks
  have hQl:(ts.map e8).length=nr:=by rw [ba]; exact hts
  have hd:rlM (ks.drop i) (ts.drop i) v o=rlM (ks.drop (i+1)) (ts.drop (i+1)) (v+Pol.C (-v.c (ks[i].len-1))*ks[i]) (o+Pol.C (-v.c (ks[i].len-1))*ts[i]):=by
   rw [bt h1,bt h2]; rfl
  have hzz:rep (v.c (ks[i].len-1))=0→v+Pol.C (-v.c (ks[i].len-1))*ks[i]=v∧o+Pol.C (-v.c (ks[i].len-1))*ts[i]=o:=fun h=>by
   have h0:v.c (ks[i].len-1)=0:=H8 (by rw [h,rep_zero])
   rw [h0,show (-0:Zp p)=0 from bq [(0:Zp p)] rfl,Pol.C_zero,Gq.zero_mul,Gq.zero_mul,Gq.add_zero,Gq.add_zero];exact ⟨rfl,rfl⟩
  rw [hd];refine c8 ?_ (a4e hdg had hks hts hn64 hb ht r (i+1) (v+Pol.C (-v.c (ks[i].len-1))*ks[i]) (o+Pol.C (-v.c (ks[i].len-1))*ts[i]) (by omega) (Pol.len_add_le hv (dk (ma _ _) bl)) (Pol.len_add_le ho (dk (ma _ _) tl)))
  by_cases hc:rep (v.c (ks[i].len-1))=0
  ·obtain ⟨z1,z2⟩:=hzz hc
   rw [z1,z2];rw [hc] at hga;clear e2 e3 hget hd z1 z2;generalize ks[i].len-1=dd at *;generalize pad (row ks[i])=Pb at *;generalize pad (row ts[i])=Pt at *;generalize pad (row v)=P1 at *;generalize pad (row m)=P2 at *;generalize pad (row o)=P3 at *;generalize ks.map e8=K at *;generalize ts.map e8=Q at *;simp -implicitDefEqProofs [Z3n_L2,az,hil,hin,hat,hvl,hKl,hx,hga,e1,w4]
  ·clear hget hd hzz
   generalize pad (row (v+Pol.C (-v.c (ks[i].len-1))*ks[i]))=P4 at *;generalize pad (row (o+Pol.C (-v.c (ks[i].len-1))*ts[i]))=P5 at *;generalize rep (v.c (ks[i].len-1))=cc at *;generalize ks[i].len-1=dd at *;generalize pad (row ks[i])=Pb at *;generalize pad (row ts[i])=Pt at *;generalize pad (row v)=P1 at *;generalize pad (row m)=P2 at *;generalize pad (row o)=P3 at *;generalize ks.map e8=K at *;generalize ts.map e8=Q at *;simp -implicitDefEqProofs [Z3n_L2,az,hil,hin,hat,hvl,hKl,hQl,hx,hy,hga,hc,e1,e2,e3,w1,w2,w4]
theorem adh {O:ap} (hst:yh O) (hdg:m8 O) (had:pq O) (_hiv:nm O) {m:Fp p} {ys ks ts:List (Fp p)} {n k nn:Nat} {cr cs:Option Nat} (hm:m≠0) (hml:m.len≤64) (hnm:n=m.len-1) (hys:∀y∈ys,y.len<m.len) (hn:ys.length=nn) (hsz:nn*n≤64) (hn64:nn≤64) (hks:ks.length=k) (hts:ts.length=k) (hk64:k<64) (hb:∀b∈ks,Monic b∧b.len≤64) (ht:∀t∈ts,t.len≤64) {v o:Fp p} (hr:rlM ks ts (jS n 0 ys) (pw Pol.X k)=(v,o)) (hvl:v.len≤64) (_hol:o.len≤64) (hv:v=0) :
 dn O 0 Z3n_L3 ⟨[(0,(.d (.int .i64 p))),(5,.ptr 0 []),(6,.ptr 1 []),(7,(.d (.int .i64 ((n:Nat))))),(8,.sl 2 [] 0 k cr),(9,.sl 3 [] 0 k cs),(10,.sl 4 [] 0 nn none),(11,(.d (.int .i64 ((k:Nat)))))],[.box false (D.arr 64 .leaf (ah .u8 (pad (row m)))),.box false (D.arr 64 .leaf (ah .u8 (pad []))),.sl false (.arr 64 .leaf) ((ks).map e8),.sl false (.arr 64 .leaf) ((ts).map e8),.sl false (.arr 64 .leaf) ((ys).map e8),.hole,.hole,.hole,.hole,.hole,.hole,.hole]⟩=some (.ret,⟨[(6,.ptr 1 [])],[.hole,.box false (D.arr 64 .leaf (ah .u8 (pad (row o)))),.hole,.hole,.hole,.hole,.hole,.hole,.hole,.hole,.hole,.hole]⟩):=by
 have hjl:(jS n 0 ys).len≤64:=by
  have:=Oj (n:=n) ys 0 (fun y hy=>by have:=hys y hy; omega)
  rw [hn,fm,bv] at this;omega
 have e1:=a46 (O:=O) hst (o:=0) (k:=k) (nr:=k) (cr:=cr) (cs:=cs) (RR:=ks.map e8) (SS:=ts.map e8) hm hml hnm hys hn hsz hn64 nn 0 0 (by omega) (by rw [Pol.len_zero]; omega)
 rw [iq,dx,gt,fg,iz,Gq.zero_add,bb (by omega),du (by omega),fa,ee] at e1
 have es:(pad []).set k 1=pad (row (pw (Pol.X:Fp p) k)):=by
  have h:=Gx (Q:=(0:Fp p)) (R:=pw Pol.X k) (by rw [Pol.len_zero]; omega) (by rw [nk]; omega) hk64 (fun t ht=>by rw [yf,if_neg ht]; rfl)
  rwa [yf,if_pos rfl,qb,ee] at h
 have e2:=a4e (O:=O) hdg had (m:=m) (n:=n) (k:=k) (nn:=nn) (cr:=cr) (cs:=cs) (NN:=(ys.map (stp m)).map e8) hks hts (by omega) hb ht k 0 (jS n 0 ys) (pw Pol.X k) (by omega) hjl (by rw [nk]; omega)
 rw [dx,dx,hr,←es] at e2;have e3:=hdg p v hvl;have hpl:(pad ([]:List Int)).length=64:=c5 _;subst hv;rw [Pol.len_zero] at e3;rw [show row ((0:Fp p),o).1=[] from ee,show ((0:Fp p),o).2=o from rfl] at e2;rw [ee] at e3;clear es hr;generalize pad (row o)=Po at *;generalize pad (row m)=Pm at *;generalize pad (row (jS n 0 ys))=Pj at *;generalize ks.map e8=K at *;generalize ts.map e8=Q at *;generalize (ys.map (stp m)).map e8=N2 at *;generalize ys.map e8=N1 at *;simp -implicitDefEqProofs at e1 e2 e3;simp -implicitDefEqProofs [Z3n_L3,az,e1,e2,e3,hk64,hpl]
theorem adw {O:ap} (hst:yh O) (hdg:m8 O) (had:pq O) (hiv:nm O) {m:Fp p} {ys ks ts:List (Fp p)} {n k nn:Nat} {cr cs:Option Nat} (hm:m≠0) (hml:m.len≤64) (hnm:n=m.len-1) (hys:∀y∈ys,y.len<m.len) (hn:ys.length=nn) (hsz:nn*n≤64) (hn64:nn≤64) (hks:ks.length=k) (hts:ts.length=k) (hk64:k<64) (hb:∀b∈ks,Monic b∧b.len≤64) (ht:∀t∈ts,t.len≤64) {v o:Fp p} (hr:rlM ks ts (jS n 0 ys) (pw Pol.X k)=(v,o)) (hvl:v.len≤64) (hol:o.len≤64) (hv:v≠0) :
 dn O 0 Z3n_L3 ⟨[(0,(.d (.int .i64 p))),(5,.ptr 0 []),(6,.ptr 1 []),(7,(.d (.int .i64 ((n:Nat))))),(8,.sl 2 [] 0 k cr),(9,.sl 3 [] 0 k cs),(10,.sl 4 [] 0 nn none),(11,(.d (.int .i64 ((k:Nat)))))],[.box false (D.arr 64 .leaf (ah .u8 (pad (row m)))),.box false (D.arr 64 .leaf (ah .u8 (pad []))),.sl false (.arr 64 .leaf) ((ks).map e8),.sl false (.arr 64 .leaf) ((ts).map e8),.sl false (.arr 64 .leaf) ((ys).map e8),.hole,.hole,.hole,.hole,.hole,.hole,.hole]⟩=some (.normal,⟨[(0,(.d (.int .i64 p))),(5,.ptr 0 []),(6,.ptr 1 []),(7,(.d (.int .i64 ((n:Nat))))),(8,.sl 2 [] 0 (k+1) none),(9,.sl 3 [] 0 (k+1) none),(10,.sl 4 [] 0 nn none),(11,(.d (.int .i64 (((k+1):Nat)))))],[.box false (D.arr 64 .leaf (ah .u8 (pad (row m)))),.box false (D.arr 64 .leaf (ah .u8 (pad []))),.sl false (.arr 64 .leaf) ((ks++[Pol.C (Fd.inv v.ld)*v]).map e8),.sl false (.arr 64 .leaf) ((ts++[Pol.C (Fd.inv v.ld)*o]).map e8),.sl false (.arr 64 .leaf) ((ys.map (stp m)).map e8),.hole,.hole,.hole,.hole,.hole,.hole,.hole]⟩):=by
 have hjl:(jS n 0 ys).len≤64:=by
  have:=Oj (n:=n) ys 0 (fun y hy=>by have:=hys y hy; omega)
  rw [hn,fm,bv] at this;omega
 have e1:=a46 (O:=O) hst (o:=0) (k:=k) (nr:=k) (cr:=cr) (cs:=cs) (RR:=ks.map e8) (SS:=ts.map e8) hm hml hnm hys hn hsz hn64 nn 0 0 (by omega) (by rw [Pol.len_zero]; omega)
 rw [iq,dx,gt,fg,iz,Gq.zero_add,bb (by omega),du (by omega),fa,ee] at e1
 have es:(pad []).set k 1=pad (row (pw (Pol.X:Fp p) k)):=by
  have h:=Gx (Q:=(0:Fp p)) (R:=pw Pol.X k) (by rw [Pol.len_zero]; omega) (by rw [nk]; omega) hk64 (fun t ht=>by rw [yf,if_neg ht]; rfl)
  rwa [yf,if_pos rfl,qb,ee] at h
 have e2:=a4e (O:=O) hdg had (m:=m) (n:=n) (k:=k) (nn:=nn) (cr:=cr) (cs:=cs) (NN:=(ys.map (stp m)).map e8) hks hts (by omega) hb ht k 0 (jS n 0 ys) (pw Pol.X k) (by omega) hjl (by rw [nk]; omega)
 rw [dx,dx,hr,←es] at e2;have e3:=hdg p v hvl;have hpl:(pad ([]:List Int)).length=64:=c5 _;have vp:=Pol.len_pos hv;rw [show (v.len:Int)-1=((v.len-1:Nat):Int) by omega] at e3
 have hat:v.len-1<64:=by omega
 have hld:=Pol.ld_ne hv;have hri:=im v.ld
 have hlp:0<rep v.ld:=by
  have:rep v.ld≠0:=fun h=>hld (H8 (by rw [h,rep_zero]))
  omega
 have hp7:=IsP.le (p:=p);have e4:=hiv p (rep v.ld) hlp hri.2;have hin:=xl p (rep v.ld);have hget:(pad (row v))[v.len-1]? = some (rep v.ld):=by rw [pf _ _ hat,gd]; rfl
 have hga:∀h:v.len-1<(pad (row v)).length,(pad (row v))[v.len-1]'h=rep v.ld:=fun h=>by
  rw [b7 h] at hget;exact aw hget
 have hvl2:(pad (row v)).length=64:=c5 _;have w5:IntKind.i64.wrap (inv p (rep v.ld))=inv p (rep v.ld):=w64 (by omega)
 have e5:=had p (inv p (rep v.ld)) 0 v (by omega) (by omega) (by rw [Pol.len_zero]; omega) hvl
 have e6:=had p (inv p (rep v.ld)) 0 o (by omega) (by omega) (by rw [Pol.len_zero]; omega) hol
 rw [Gq.zero_add,uc _ hld,ee] at e5 e6;have w4:IntKind.i64.wrap ((k:Int)+1)=((k+1:Nat):Int):=(w64 (x:=(k:Int)+1) (by omega)).trans (by omega)
 have hKl:(ks.map e8).length=k:=by rw [ba]; exact hks
 have hQl:(ts.map e8).length=k:=by rw [ba]; exact hts
 have htK:(ks.map e8).take k=ks.map e8:=bb (by omega)
 have htQ:(ts.map e8).take k=ts.map e8:=bb (by omega)
 have hbt:(k+1)*64≤1099511627776:=by omega
 rw [da,da,cw,cw,gt];rw [show row (v,o).1=row v from rfl,show row (v,o).2=row o from rfl] at e2;clear es hr hget;unfold e8 at *;generalize pad (row (Pol.C (Fd.inv v.ld)*v))=P5 at *;generalize pad (row (Pol.C (Fd.inv v.ld)*o))=P6 at *;generalize inv p (rep v.ld)=iv at *;generalize rep v.ld=lv at *;have hdd:¬ ((v.len-1:Nat):Int)<0:=by omega
 generalize v.len-1=dd at *;generalize pad (row o)=Po at *;generalize pad (row v)=Pv at *;generalize pad (row m)=Pm at *;generalize pad (row (jS n 0 ys))=Pj at *;generalize (ks.map fun a=>(D.arr 64 .leaf (ah .u8 (pad (row a)))))=K at *
 generalize (ts.map fun a=>(D.arr 64 .leaf (ah .u8 (pad (row a)))))=Q at *
 generalize ((ys.map (stp m)).map fun a=>(D.arr 64 .leaf (ah .u8 (pad (row a)))))=N2 at *
 generalize (ys.map fun a=>(D.arr 64 .leaf (ah .u8 (pad (row a)))))=N1 at *
 generalize ((k+1:Nat):Int)=K1 at *;simp -implicitDefEqProofs at e1 e2 e3;simp -implicitDefEqProofs [Z3n_L3,az,e1,e2,e3,e4,e5,e6,hdd,hat,hga,hvl2,hKl,hQl,htK,htQ,hbt,w4,w5,hk64,hpl]
theorem a62 {O:ap} (hst:yh O) (hdg:m8 O) (had:pq O) (hiv:nm O) {m:Fp p} {xs:List (Fp p)} {n nn:Nat} (hm:m≠0) (hml:m.len≤64) (hnm:n=m.len-1) (hxs:∀x∈xs,x.len<m.len) (hn:xs.length=nn) (hsz:nn*n≤64) (hn64:nn≤64) {f0:Fp p} (hf:MinR (jv m xs) f0) (hf64:f0.len≤64) :
 ∀(r k:Nat) (ks ts:List (Fp p)) (cr cs:Option Nat),k+r=f0.len→RelJ (jv m xs) 64 k ks ts→dn O 0 (.loop Z3n_L3) ⟨[(0,(.d (.int .i64 p))),(5,.ptr 0 []),(6,.ptr 1 []),(7,(.d (.int .i64 ((n:Nat))))),(8,.sl 2 [] 0 k cr),(9,.sl 3 [] 0 k cs),(10,.sl 4 [] 0 nn none),(11,(.d (.int .i64 ((k:Nat)))))],[.box false (D.arr 64 .leaf (ah .u8 (pad (row m)))),.box false (D.arr 64 .leaf (ah .u8 (pad []))),.sl false (.arr 64 .leaf) ((ks).map e8),.sl false (.arr 64 .leaf) ((ts).map e8),.sl false (.arr 64 .leaf) ((xs.map (stI m k)).map e8),.hole,.hole,.hole,.hole,.hole,.hole,.hole]⟩=some (.ret,⟨[(6,.ptr 1 [])],[.hole,.box false (D.arr 64 .leaf (ah .u8 (pad (row f0)))),.hole,.hole,.hole,.hole,.hole,.hole,.hole,.hole,.hole,.hole]⟩):=by
 intro r
 induction r with
 | zero=>
  intro k ks ts cr cs hkr h;exact absurd (h.ind f0 (by omega) hf.zero) hf.mon.2
 | succ r ih=>
  intro k ks ts cr cs hkr h;have hlin:=a4y m xs
  have hys:∀y∈xs.map (stI m k),y.len<m.len:=fun y hy=>by
   obtain ⟨x,hx,rfl⟩:=ch.1 hy;exact Dh hm (hxs x hx) k
  have hyl:(xs.map (stI m k)).length=nn:=by rw [ba]; exact hn
  have hev:jv m xs (pw Pol.X k)=jS n 0 (xs.map (stI m k)):=by rw [adq,hnm]
  have hjl:(jS n 0 (xs.map (stI m k))).len≤64:=by
   have:=Oj (n:=n) (xs.map (stI m k)) 0 (fun y hy=>by have:=hys y hy; omega)
   rw [hyl,fm,bv] at this;omega
  have hsrc:=h.src;have htri:=h.tri;have hmon:=h.mon;have htl:=h.tl;have hcnt:=h.cnt;have htsl:ts.length=k:=by rw [hsrc,ba] at hcnt; exact hcnt
  have hok:=a1s hlin (d:=64) (k:=k) ts (jS n 0 (xs.map (stI m k))) (pw Pol.X k) (by rw [←hsrc]; exact htri) (by rw [←hsrc]; exact hmon) htl hjl (by rw [nk]; omega) (by rw [yf,if_pos rfl]) hev
  rw [←hsrc] at hok;have htb:∀t∈ts,t.len≤64:=fun t ht=>by have:=htl t ht; omega
  rcases hvo:rlM ks ts (jS n 0 (xs.map (stI m k))) (pw Pol.X k) with ⟨v,o⟩
  rw [hvo] at hok;obtain ⟨k1,k2,k3,k4,k5,_⟩:=hok;simp only at k1 k2 k3 k4 k5
  by_cases hv:v=0
  ·obtain ⟨f1,f2⟩:=h.found k2 k3 (by rw [k4,hv])
   obtain rfl:o=f0:=f1.one hlin hf;exact nj (adh hst hdg had hiv hm hml hnm hys hyl hsz hn64 hcnt htsl (by omega) hmon htb hvo k1 (by omega) hv)
  ·have hnx:=h.next hlin k2 k3 k4 hv k1 k5
   have e:=adw (O:=O) (cr:=cr) (cs:=cs) hst hdg had hiv hm hml hnm hys hyl hsz hn64 hcnt htsl (by omega) hmon htb hvo k1 (by omega) hv
   have hmm:(xs.map (stI m k)).map (stp m)=xs.map (stI m (k+1)):=by
    rw [tw]; rfl
   rw [hmm] at e;exact c8 e (ih (k+1) _ _ none none (by omega) hnx)
end
def In (O:ap):Prop:=∀(p:Int) [IsP p] (m:Fp p) (xs:List (Fp p)) (f0:Fp p),m≠0→m.len≤64→(∀x∈xs,x.len<m.len)→xs.length*(m.len-1)≤64→xs.length≤64→MinR (jv m xs) f0→f0.len≤64→ask O F3n [(D.int .i64 p),.sl (.arr 64 .leaf) (xs.map e8),(D.arr 64 .leaf (ah .u8 (pad (row m))))]=some (D.arr 64 .leaf (ah .u8 (pad (row f0))))
theorem a2u (hT:T F3n=some Z3n) (hst:yh (den T A)) (hdg:m8 (den T A)) (had:pq (den T A)) (hiv:nm (den T A)):In (den T A):=by
 intro p ip m xs f0 hm hml hxs hsz hn64 hf hf64;have hmp:=Pol.len_pos hm;have e:=a62 hst hdg had hiv hm hml (n:=m.len-1) rfl hxs (nn:=xs.length) rfl hsz hn64 hf hf64 f0.len 0 [] [] (some 0) (some 0) (by omega) (RelJ.nil (a4y m xs) 64)
 rw [show xs.map (stI m 0)=xs from by
  have:stI m 0=id:=rfl;rw [this,List.map_id],show ([]:List (Fp p)).map e8=[] from rfl] at e
 have e2:=hdg p m hml;rw [show (m.len:Int)-1=((m.len-1:Nat):Int) by omega] at e2
 have hXl:(xs.map e8).length=xs.length:=ba ..;have hbt:xs.length*64≤1099511627776:=by omega
 have htX:(xs.map e8).take xs.length=xs.map e8:=bb (by omega)
 clear hf hsz hxs;refine cd hT rfl ?_;generalize pad (row f0)=Pf at *;generalize pad (row m)=Pm at *;generalize xs.map e8=XD at *;generalize xs.length=nx at *;generalize m.len-1=n at *;simp -implicitDefEqProofs at e;simp -implicitDefEqProofs [Z3n,Z3n_B,e,e2,hXl,hbt]
noncomputable def xsL (p:Int) (n:Nat):List (Fp p):=(List.range n).map fun k=>pw Pol.X k
theorem a3o (p:Int) (n:Nat):xsL p (n+1)=xsL p n++[pw Pol.X n]:=by
 unfold xsL;rw [List.range_succ,da]; rfl
theorem xi (p:Int) (n:Nat):(xsL p n).length=n:=by unfold xsL; rw [ba,jw]
section
variable {p:Int} [IsP p]
theorem a21 {O:ap} (hdg:m8 O) {m:Fp p} {n:Nat} (hmp:0<m.len) (hml:m.len≤64) (hn:n=m.len-1):∀(r k:Nat) (ck:Option Nat),k+r=n→∃ck':Option Nat,
 dn O 0 (.loop Z3o_L0) ⟨[(0,(.d (.int .i64 p))),(3,.ptr 0 []),(4,.ptr 1 []),(5,.sl 2 [] 0 k ck),(6,(.d (.int .i64 k)))],[.box false (D.arr 64 .leaf (ah .u8 (pad (row m)))),.box false (D.arr 64 .leaf (ah .u8 (pad []))),.sl false (.arr 64 .leaf) ((xsL p k).map e8),.hole,.hole,.hole]⟩ =
  some (.exit 0,⟨[(0,(.d (.int .i64 p))),(3,.ptr 0 []),(4,.ptr 1 []),(5,.sl 2 [] 0 n ck'),(6,(.d (.int .i64 n))),(12,(.d (.bool false)))],[.box false (D.arr 64 .leaf (ah .u8 (pad (row m)))),.box false (D.arr 64 .leaf (ah .u8 (pad []))),.sl false (.arr 64 .leaf) ((xsL p n).map e8),.hole,.hole,.hole]⟩)
 | 0,k,ck,hk=>by
  obtain rfl:k=n:=by omega
  have e1:=hdg p m hml;rw [show (m.len:Int)-1=(k:Int) by omega] at e1
  refine ⟨ck,cg ?_⟩;generalize (xsL p k).map e8=N1 at *;generalize pad (row m)=P2 at *;simp -implicitDefEqProofs [Z3o_L0,az,e1]
 | r+1,k,ck,hk=>by
  have hkn:k<n:=by omega
  have hkl:(k:Int)<n:=by omega
  have hk64:k<64:=by omega
  have e1:=hdg p m hml;rw [show (m.len:Int)-1=(n:Int) by omega] at e1
  have es:(pad []).set k 1=pad (row (pw (Pol.X:Fp p) k)):=by
   have h:=Gx (Q:=(0:Fp p)) (R:=pw Pol.X k) (by rw [Pol.len_zero]; omega) (by rw [nk]; omega) hk64 (fun t ht=>by rw [yf,if_neg ht]; rfl)
   rwa [yf,if_pos rfl,qb,ee] at h
  have hpl:(pad ([]:List Int)).length=64:=c5 _;have hXl:((xsL p k).map e8).length=k:=by rw [ba,xi]
  have htX:((xsL p k).map e8).take k=(xsL p k).map e8:=bb (by omega)
  have hbt:(k+1)*64≤1099511627776:=by omega
  have w4:IntKind.i64.wrap ((k:Int)+1)=((k+1:Nat):Int):=(w64 (x:=(k:Int)+1) (by omega)).trans (by omega)
  obtain ⟨ck',ih⟩:=a21 hdg hmp hml hn r (k+1) none (by omega)
  refine ⟨ck',c8 ?_ ih⟩;rw [a3o,da,cw,gt];unfold e8 at *;rw [←es];generalize (xsL p k).map (fun a=>(D.arr 64 .leaf (ah .u8 (pad (row a)))))=N1 at *
  generalize pad (row m)=P2 at *;generalize ((k+1:Nat):Int)=K1 at *;simp -implicitDefEqProofs [Z3o_L0,az,e1,hkl,hk64,hpl,hXl,htX,hbt,w4]
variable {m:Fp p}
theorem a51 (hi:Irr m) (hm:Monic m) (h2:2≤m.len) (h3:m.len≤3):MinR (jv m (xsL p (m.len-1))) (m-1):=by
 have hone:(1:Fp p).len<m.len:=by rw [Pol.len_one]; omega
 have ht:=Y1 hm h2 h3 (D8 hi hm h2 h3 hone);refine ⟨ht.mon,?_,fun g hg h0=>ht.least g hg ?_⟩
 ·unfold jv
  refine Wm _ _ fun y hy=>?_
  obtain ⟨x,hx,rfl⟩:=ch.1 hy;unfold xsL at hx;obtain ⟨k,hk,rfl⟩:=ch.1 hx;have:=ft.1 hk;exact D8 hi hm h2 h3 (by rw [nk]; omega)
 ·unfold jv at h0
  have hx:xsL p (m.len-1)=1::(xsL p (m.len-1)).drop 1:=by
   unfold xsL;obtain ⟨n,hn⟩:∃n,m.len-1=n+1:=⟨m.len-2,by omega⟩
   rw [hn,List.range_succ_eq_map];rfl
  rw [hx,cw] at h0;have hl:=Eq hm.2 hone g;refine Pol.ext fun t=>?_
  by_cases h:t<m.len-1
  ·have e:=a6e (n:=m.len-1) (av m 1 g) (((xsL p (m.len-1)).drop 1).map fun x=>av m x g) 0 t h
   rw [h0] at e;rw [←e]; rfl
  ·rw [lr (by omega)]; rfl
end
def zq (O:ap):Prop:=∀(p:Int) [IsP p] (m f0:Fp p),m≠0→m.len≤9→MinR (jv m (xsL p (m.len-1))) f0→f0.len≤64→ask O F3o [(D.int .i64 p),(D.arr 64 .leaf (ah .u8 (pad (row m))))]=some (D.arr 64 .leaf (ah .u8 (pad (row f0))))
theorem Rl (hT:T F3o=some Z3o) (hdg:m8 (den T A)) (han:In (den T A)):zq (den T A):=by
 intro p ip m f0 hm hml hf hf64;have hmp:=Pol.len_pos hm;obtain ⟨ck,e⟩:=a21 (O:=den T A) hdg (m:=m) (n:=m.len-1) hmp (by omega) rfl (m.len-1) 0 (some 0) (by omega)
 rw [show xsL p 0=[] from rfl,gt] at e
 have e2:=han p m (xsL p (m.len-1)) f0 hm (by omega) (fun x hx=>by
  unfold xsL at hx;obtain ⟨k,hk,rfl⟩:=ch.1 hx;have:=ft.1 hk
  rw [nk]; omega) (by
  rw [xi];have:(m.len-1)*(m.len-1)≤8*8:=Nat.mul_le_mul (by omega) (by omega)
  omega) (by rw [xi]; omega) hf hf64
 have hXl:((xsL p (m.len-1)).map e8).length=m.len-1:=by rw [ba,xi]
 have htX:((xsL p (m.len-1)).map e8).take (m.len-1)=(xsL p (m.len-1)).map e8:=bb (by omega)
 clear hf;refine cd hT rfl ?_;generalize pad (row f0)=Pf at *;generalize pad (row m)=Pm at *;generalize (xsL p (m.len-1)).map e8=XD at *;generalize m.len-1=n at *;simp -implicitDefEqProofs at e;simp -implicitDefEqProofs [Z3o,Z3o_B,e,e2,hXl,htX]
theorem Jz (hT:T F2z=some Z2z) (hmc:Cf (den T A)) (hex:zq (den T A)):wv (den T A) F2z:=by
 intro p ip m hi hm h2 h3;obtain ⟨g1,g2⟩:=Cz hm h2;have e1:=hmc p (pad (row m)) [] (lh m) (c5 _) (fun x hx=>(List.not_mem_nil hx).elim) (by simp)
 rw [show pu p (pad (row m)) []=0 from O8 hm h2 (by omega) [],gt] at e1
 have e2:=hex p m (m-1) hm.2 (by omega) (a51 hi hm h2 h3) (by omega)
 refine cd hT rfl ?_;generalize pad (row (m-1))=Pf at *;generalize pad (row m)=Pm at *;simp -implicitDefEqProofs [Z2z,Z2z_B,az,e1,e2,List.replicate]
theorem Lj {O:ap} (hn:kf O) {p:Int} [IsP p] {many:Nat} (hmany:many<100000):∀(m i:Nat) (cp:Option Nat),i+m=many→∃cp',
 dn O 0 (.loop Z1b_L0) ⟨[(0,(.d (.int .i64 p))),(5,(.d (.int .i64 many))),(6,.sl 1 [] 0 i cp),(11,(.d (.int .i64 many))),(12,(.d (.int .i64 i)))],[.hole,.sl false .leaf ((List.range i).map fun (k:Nat)=>(D.sl .leaf (ah .i64 (row (f7 p ((many:Int)+k)))))),.hole,.hole]⟩ =
  some (.exit 0,⟨[(0,(.d (.int .i64 p))),(5,(.d (.int .i64 many))),(6,.sl 1 [] 0 many cp'),(11,(.d (.int .i64 many))),(12,(.d (.int .i64 many))),(13,(.d (.bool false)))],[.hole,.sl false .leaf ((List.range many).map fun (k:Nat)=>(D.sl .leaf (ah .i64 (row (f7 p ((many:Int)+k)))))),.hole,.hole]⟩)
 | 0,i,cp,hi=>by
  obtain rfl:i=many:=by omega
  exact ⟨cp,cg (by simp -implicitDefEqProofs [Z1b_L0,az])⟩
 | m+1,i,cp,hi=>by
  obtain ⟨cp',e⟩:=Lj hn (p:=p) hmany m (i+1) none (by omega)
  have hlt:i<many:=by omega
  have w1:IntKind.i64.wrap ((many:Int)+i)=(many:Int)+i:=w64 (by omega)
  have w4:IntKind.i64.wrap ((i:Int)+1)=((i+1:Nat):Int):=(w64 (x:=(i:Int)+1) (by omega)).trans (by omega)
  have e1:=hn p ((many:Int)+i) (by omega) (by omega)
  have h8:(i+1)*24≤1099511627776:=by omega
  have ht:((List.range i).map fun (k:Nat)=>(D.sl .leaf (ah .i64 (row (f7 p ((many:Int)+k)))))).take i=(List.range i).map fun (k:Nat)=>(D.sl .leaf (ah .i64 (row (f7 p ((many:Int)+k))))):=bb (by simp)
  have o1:=Ud i fun (k:Nat)=>(D.sl .leaf (ah .i64 (row (f7 p ((many:Int)+k)))))
  refine ⟨cp',c8 ?_ e⟩;have hL:((List.range i).map fun (k:Nat)=>(D.sl .leaf (ah .i64 (row (f7 p ((many:Int)+k)))))).length=i:=by simp
  rw [←o1];generalize (List.range i).map (fun (k:Nat)=>(D.sl .leaf (ah .i64 (row (f7 p ((many:Int)+k))))))=L at *
  simp -implicitDefEqProofs [Z1b_L0,az,hlt,w1,w4,e1,h8,ht,hL,List.replicate]
noncomputable def vr (p:Int) (n:Nat):List (Fp p):=(List.range (p.toNat^n)).map fun (k:Nat)=>f7 p (p^n+k)
noncomputable def irL (p:Int) [IsP p] (n:Nat):List (Fp p):=(vr p n).filter irB
theorem Il {p:Int} [IsP p] {n:Nat} (hn:n≤12) {a:Fp p} (h:a∈vr p n):Monic a∧a.len=n+1:=by
 obtain ⟨k,hk,rfl⟩:=ch.1 h;have:=ft.1 hk;have hN:=m6 (p:=p) n;exact uz hn (by omega) (by omega)
def I8 (O:ap):Prop:=∀(p:Int) [IsP p] (n:Nat),p^n≤343→n≤12→∃cp:Option Nat,O F1b [.d (D.int .i64 p),.d (D.int .i64 n)] []=some (.sl 0 [] 0 (vr p n).length cp,[],[.sl false .leaf ((vr p n).map cl)])
theorem a2r (hT:T F1b=some Z1b) (hno:ti (den T A)) (hnu:kf (den T A)):I8 (den T A):=by
 intro p i n hp343 hn;have hN:=m6 (p:=p) n;have e1:=hno p n 343 (by omega) (by omega)
 rw [ud n 1 (by omega) (by omega),fc,←hN] at e1
 have hml:(vr p n).length=p.toNat^n:=by simp [vr]
 have hmm:(vr p n).map cl=(List.range (p.toNat^n)).map fun (k:Nat)=>(D.sl .leaf (ah .i64 (row (f7 p (((p.toNat^n:Nat):Int)+k))))):=by
  unfold vr;rw [tw,hN];rfl
 rw [hml,hmm];have hNb:p.toNat^n≤343:=by omega
 generalize p.toNat^n=many at *;obtain ⟨cp',e⟩:=Lj hnu (p:=p) (many:=many) (by omega) many 0 (some 0) (bv _)
 have e0:((0:Nat):Int)=0:=rfl;rw [e0,List.range_zero,gt] at e;refine ⟨cp',na hT rfl ?_⟩;generalize (List.range many).map (fun (k:Nat)=>(D.sl .leaf (ah .i64 (row (f7 p ((many:Int)+k))))))=L at *
 simp -implicitDefEqProofs [Z1b,Z1b_B,e1,e,List.idxOf,List.findIdx,List.findIdx.go]
noncomputable def irO (p:Int) (n:Nat):D:=
 if h:isP p=true then
  haveI:IsP p:=It h
  if 1≤n∧p^n≤343 then .tup [.sl (.arr 64 .leaf) ((irL p n).map e8),(D.int .i64 0)] else .tup [.sl (.arr 64 .leaf) [],(D.int .i64 2)]
 else .tup [.sl (.arr 64 .leaf) [],(D.int .i64 1)]
theorem Nc {p:Int} {n:Nat} (h:isP p=false):irO p n=.tup [.sl (.arr 64 .leaf) [],(D.int .i64 1)]:=by
 unfold irO;rw [dif_neg (by rw [h]; simp)]
theorem Db {p:Int} [IsP p] {n:Nat} (h:¬ (1≤n∧p^n≤343)):irO p n=.tup [.sl (.arr 64 .leaf) [],(D.int .i64 2)]:=by
 unfold irO;rw [dif_pos Hm,if_neg h]
theorem zb {p:Int} [IsP p] {n:Nat} (h:1≤n∧p^n≤343):irO p n=.tup [.sl (.arr 64 .leaf) ((irL p n).map e8),(D.int .i64 0)]:=by
 unfold irO;rw [dif_pos Hm,if_pos h]
def lg (O:ap) (F:Nat):Prop:=∀(p:Int) (n:Nat),n≤8→ask O F [(D.int .i64 p),(D.int .i64 n)]=some (irO p n)
theorem Ef (hT:T F9=some Z9) (hip:Aj (den T A)) (hno:ti (den T A)) (hm:I8 (den T A)) (hd:J0 (den T A)) (hpo:Mq (den T A)):lg (den T A) F9:=by
 intro p n hn;have e1:=hip p
 by_cases hp:isP p=true
 ·haveI:IsP p:=It hp
  rw [hp] at e1
  by_cases h1:1≤n
  ·have e2:=hno p n 343 (by omega) (by omega)
   have hle:=R7 (p:=p) n 1 (by omega)
   rw [fc] at hle;have h1':¬ (n:Int)<1:=by omega
   by_cases h2:p^n≤343
   ·rw [zb ⟨h1,h2⟩]
    have h3:¬ 343<va p 343 n 1:=by have:=hle.2 h2; omega
    obtain ⟨cp,e3⟩:=hm p n h2 (by omega)
    have hN:=m6 (p:=p) n;have hml:(vr p n).length=p.toNat^n:=by simp [vr]
    obtain ⟨cp2,rest,e4⟩:=hd p (vr p n) cp (fun a ha=>by have:=(Il (by omega) ha).2; omega) (by omega)
    have hfl:(irL p n).length≤(vr p n).length:=List.length_filter_le ..
    have e5:=hpo p (irL p n) (by omega) (fun a ha=>by
     have:=(Il (by omega) (List.mem_filter.1 (show a∈(vr p n).filter irB from ha)).1).2
     omega)
    have hir:(vr p n).filter irB=irL p n:=rfl;rw [hir] at e4;have hrl:((irL p n).map cl).length=(irL p n).length:=ba ..;have ht:((irL p n).map cl++rest).take (irL p n).length=(irL p n).map cl:=List.take_left' hrl;have hle2:(irL p n).length≤((irL p n).map cl++rest).length:=by rw [bo]; omega
    refine cd hT rfl ?_;clear hir hfl hml;generalize (irL p n).map e8=PD at *;generalize (irL p n).map cl=RD at *;generalize (irL p n).length=m at *;generalize (vr p n).map cl=MD at *;generalize (vr p n).length=m0 at *;generalize va p 343 n 1=NL at *;generalize hRR:RD++rest=RR at *;simp -implicitDefEqProofs [Z9,Z9_B,az,e1,e2,e3,e4,e5,h1',h3,ht,hle2,List.replicate,List.idxOf,List.findIdx,List.findIdx.go]
   ·rw [Db fun h=>h2 h.2]
    have h3:343<va p 343 n 1:=by
     apply cm;intro hx;exact h2 (hle.1 (by omega))
    refine cd hT rfl ?_;generalize va p 343 n 1=NL at *;simp -implicitDefEqProofs [Z9,Z9_B,az,e1,e2,h1',h3,List.replicate]
  ·rw [Db fun h=>h1 h.1]
   have h1':(n:Int)<1:=by omega
   refine cd hT rfl ?_;generalize (n:Int)=N at *;simp -implicitDefEqProofs [Z9,Z9_B,az,e1,h1',List.replicate]
 ·rw [sn] at hp
  rw [Nc hp];rw [hp] at e1;refine cd hT rfl ?_;simp -implicitDefEqProofs [Z9,Z9_B,az,e1,List.replicate]
noncomputable def irK (p:Int) [IsP p] (n j:Nat):List (Fp p):=((List.range j).map fun (k:Nat)=>f7 p (p^n+k)).filter irB
theorem Sn {p:Int} [IsP p] (n j:Nat):irK p n (j+1)=irK p n j++if irB (f7 p (p^n+(j:Int)))=true then [f7 p (p^n+(j:Int))] else []:=by
 unfold irK;rw [List.range_succ,da,List.filter_append,cw,gt]
 congr 1
 by_cases h:irB (f7 p (p^n+(j:Int)))=true
 ·rw [if_pos h,List.filter_cons_of_pos h]; rfl
 ·rw [if_neg h,List.filter_cons_of_neg h]; rfl
theorem Uv {O:ap} (hct:zz O) (hof:Ww O) (hir:Nj O) {p:Int} [IsP p] {n:Nat} (hn:n≤8) (hp343:p^n≤343):∀(r j:Nat) (cp:Option Nat),j+r=p.toNat^n→∃cp':Option Nat,
 dn O 0 (.loop Z30_L0) ⟨[(0,(.d (.int .i64 p))),(1,(.d (.int .i64 n))),(6,.sl 0 [] 0 (irK p n j).length cp),(7,(.d (.int .i64 (p^n+(j:Int)))))],[.sl false (.arr 64 .leaf) ((irK p n j).map e8),.hole,.hole,.hole]⟩ =
  some (.exit 1,⟨[(0,(.d (.int .i64 p))),(1,(.d (.int .i64 n))),(6,.sl 0 [] 0 (irL p n).length cp'),(7,(.d (.int .i64 (2*p^n)))),(32,(.d (.bool false)))],[.sl false (.arr 64 .leaf) ((irL p n).map e8),.hole,.hole,.hole]⟩)
 | r,j,cp,hj=>by
  classical
  have hN:=m6 (p:=p) n;have hpos:=je (p:=p) n;have e1:=Ln hct p n (by omega)
  have w1:IntKind.i64.wrap (2*p^n)=2*p^n:=w64 (by omega)
  cases r with
  | zero=>
   obtain rfl:j=p.toNat^n:=by omega
   have hir:irK p n (p.toNat^n)=irL p n:=rfl;have hk:p^n+((p.toNat^n:Nat):Int)=2*p^n:=by omega
   rw [hir,hk];refine ⟨cp,cg ?_⟩;generalize (irL p n).map e8=PD at *;generalize p^n=Q at *;simp -implicitDefEqProofs [Z30_L0,az,e1,w1]
  | succ r=>
   have hlt:p^n+(j:Int)<2*p^n:=by omega
   have e2:=hof p (p^n+(j:Int)) (by omega) (by omega)
   obtain ⟨hmo,hl⟩:=uz (p:=p) (n:=n) (by omega) (k:=p^n+(j:Int)) (by omega) (by omega)
   have e3:=hir p (f7 p (p^n+(j:Int))) hmo.2 (by omega)
   have hB:decide (Irr (f7 p (p^n+(j:Int))))=irB (f7 p (p^n+(j:Int))):=decide_eq_decide.2 ⟨fun h=>⟨hmo,h⟩,fun h=>h.2⟩
   rw [hB] at e3;have w4:IntKind.i64.wrap (p^n+(j:Int)+1)=p^n+((j+1:Nat):Int):=(w64 (x:=p^n+(j:Int)+1) (by omega)).trans (by omega)
   have hkl:(irK p n j).length≤343:=by
    have:(irK p n j).length≤((List.range j).map fun (k:Nat)=>f7 p (p^n+(k:Int))).length:=List.length_filter_le ..
    rw [ba,jw] at this;omega
   by_cases hb:irB (f7 p (p^n+(j:Int)))=true
   ·rw [hb] at e3
    have ek:irK p n (j+1)=irK p n j++[f7 p (p^n+(j:Int))]:=by rw [Sn,if_pos hb]
    have hml:((irK p n j).map e8).length=(irK p n j).length:=ba ..;have ht:((irK p n j).map e8).take (irK p n j).length=(irK p n j).map e8:=bb (by omega)
    obtain ⟨cp',ih⟩:=Uv (O:=O) hct hof hir hn hp343 r (j+1) none (by omega)
    rw [ek,bo,da,jh,cw,gt] at ih;have h8:((irK p n j).length+1)*64≤1099511627776:=by omega
    refine ⟨cp',c8 ?_ ih⟩;have hpd:e8 (f7 p (p^n+(j:Int)))=(D.arr 64 .leaf (ah .u8 (pad (row (f7 p (p^n+(j:Int))))))):=rfl;rw [hpd];generalize pad (row (f7 p (p^n+(j:Int))))=Pj at *;generalize p^n+((j+1:Nat):Int)=KN at *;generalize p^n+(j:Int)=KJ at *;generalize (irK p n j).map e8=PD at *;generalize (irK p n j).length=m at *;generalize p^n=Q at *;simp -implicitDefEqProofs [Z30_L0,az,hlt,e1,e2,e3,w1,w4,hml,ht,h8,List.replicate]
   ·have hb':irB (f7 p (p^n+(j:Int)))=false:=by simpa using hb
    rw [hb'] at e3;have ek:irK p n (j+1)=irK p n j:=by rw [Sn,if_neg hb,fa]
    obtain ⟨cp',ih⟩:=Uv (O:=O) hct hof hir hn hp343 r (j+1) cp (by omega)
    rw [ek] at ih;refine ⟨cp',c8 ?_ ih⟩;generalize pad (row (f7 p (p^n+(j:Int))))=Pj at *;generalize p^n+((j+1:Nat):Int)=KN at *;generalize p^n+(j:Int)=KJ at *;generalize (irK p n j).map e8=PD at *;generalize (irK p n j).length=m at *;generalize p^n=Q at *;simp -implicitDefEqProofs [Z30_L0,az,hlt,e1,e2,e3,w1,w4]
theorem D3 (hT:T F30=some Z30) (hip:zy (den T A)) (hin:X3 (den T A)) (hct:zz (den T A)) (hof:Ww (den T A)) (hir:Nj (den T A)):lg (den T A) F30:=by
 intro p n hn;have e1:=hip p
 by_cases hp:isP p=true
 ·haveI:IsP p:=It hp
  rw [hp] at e1;have e2:=hin (n:Int) 1 8;have e3:=Ln hct p n (by omega)
  by_cases h1:1≤n
  ·rw [decide_eq_true (by omega)] at e2
   by_cases h2:p^n≤343
   ·rw [zb ⟨h1,h2⟩]
    have h3:¬ 343<p^n:=by omega
    obtain ⟨cp,e4⟩:=Uv (O:=den T A) hct hof hir hn h2 (p.toNat^n) 0 (some 0) (bv _);have z1:irK p n 0=[]:=rfl;rw [z1,show p^n+((0:Nat):Int)=p^n by omega,gt,dl] at e4
    have hml:((irL p n).map e8).length=(irL p n).length:=ba ..;have ht:((irL p n).map e8).take (irL p n).length=(irL p n).map e8:=bb (by omega)
    refine cd hT rfl ?_;generalize (irL p n).map e8=PD at *;generalize (irL p n).length=m at *;generalize p^n=Q at *;simp -implicitDefEqProofs [Z30,Z30_B,az,e1,e2,e3,e4,h3,hml,ht,List.replicate]
   ·rw [Db fun h=>h2 h.2]
    have h3:343<p^n:=by omega
    refine cd hT rfl ?_;generalize p^n=Q at *;simp -implicitDefEqProofs [Z30,Z30_B,az,e1,e2,e3,h3,List.replicate]
  ·rw [Db fun h=>h1 h.1]
   rw [decide_eq_false (by omega)] at e2
   refine cd hT rfl ?_;simp -implicitDefEqProofs [Z30,Z30_B,az,e1,e2,List.replicate]
 ·rw [sn] at hp
  rw [Nc hp];rw [hp] at e1;refine cd hT rfl ?_;simp -implicitDefEqProofs [Z30,Z30_B,az,e1,List.replicate]
def aji (n:Nat):Int:=([0,1,-1,-1,0,-1,1,-1,0,0,1,-1,0,-1,1,1,0,-1,0,-1,0]:List Int).getD n 0
section
variable {p:Int} [IsP p]
end
def ak1 (p:Int) (n:Nat) (d:Nat):Int:=if n%d=0 then aji d*p^(n/d) else 0
def E4 (p:Int) (n:Nat):Nat→Int
 | 0=>0
 | d+1=>E4 p n d+ak1 p n (d+1)
noncomputable def ciO (p n:Int):D:=
 if isP p=true then (if 1≤n∧n≤20 then .tup [(D.int .i64 ((E4 p n.toNat n.toNat).tdiv n)),(D.int .i64 0)] else .tup [(D.int .i64 0),(D.int .i64 2)]) else .tup [(D.int .i64 0),(D.int .i64 1)]
end Pe
namespace Pe
open Go Gq
theorem xx {p:Int}:∀(L K:k9 p),dgF (L++K)=dgF L+dgF K
 | [],K=>by simp [dgF]
 | x::L,K=>by
  show x.2*(x.1.len-1)+dgF (L++K)=x.2*(x.1.len-1)+dgF L+dgF K;rw [xx L K]; omega
theorem W8 {p:Int} {d:Nat}:∀(L:List (Fp p)),(∀q∈L,q.len=d+1)→dgF (L.map fun q=>(q,1))=d*L.length
 | [],_=>rfl
 | q::L,h=>by
  show 1*(q.len-1)+dgF (L.map fun q=>(q,1))=d*(L.length+1)
  rw [W8 L fun r hr=>h r (by simp [hr]),h q (by simp),Nat.mul_succ]; omega
section
variable {p:Int} [IsP p]
theorem Hq {R:Type} [CR R] {x:R} {P d:Nat} (h:pw x (P^d)=x):∀k,pw x (P^(d*k))=x
 | 0=>by rw [rp,mh,rc]
 | k+1=>by rw [Nat.mul_succ,Nat.pow_add,←qw,Hq h k,h]
theorem a69 {q:Fp p} (hi:Irr q) {d n:Nat} (hq:q.len=d+1) (hd:p^d<1000000000000) (h:Dv q (frT p n)):n%d=0:=by
 have hd0:0<d:=by have:=hi.len; omega
 apply cm;intro hr;have h1:=y7.1 (H9 hi hq hd);have h2:=y7.1 h;have h3:=Hq h1 (n/d);have e:p.toNat^n=p.toNat^(d*(n/d))*p.toNat^(n%d):=by rw [←Nat.pow_add,Nat.div_add_mod]
 rw [e,←qw,h3] at h2;have:=C8 hi hq hd (k:=n%d) (by omega) (y7.2 h2)
 have:=Nat.mod_lt n hd0;omega
theorem a80 {q:Fp p} (hi:Irr q) {d n:Nat} (hq:q.len=d+1) (hd:p^d<1000000000000) (h:n%d=0):Dv q (frT p n):=by
 have h1:=y7.1 (H9 hi hq hd);have h3:=Hq h1 (n/d);have e:d*(n/d)=n:=by have:=Nat.div_add_mod n d; omega
 rw [e] at h3;exact y7.2 h3
theorem a2s {q:Fp p} (hi:Irr q) {d k:Nat} (hq:d+1≤q.len) (hd:p^d<1000000000000) (hk:0<k) (h:Dv q (frT p k)):d≤k:=by
 classical
 have hfix:=Jg k (y7.1 h);have hone:(1:Quo q)≠0:=(Qm hi).one_ne;have hP:2≤p.toNat:=by have:=IsP.ge (p:=p); omega
 have hne1:1<p.toNat^k:=Nat.one_lt_pow (by omega) hP
 have hnd:((List.range (p.toNat^d)).map fun (n:Nat)=>Quo.mk q (f7 p n)).Nodup:=by
  unfold List.Nodup;rw [jy];refine List.Pairwise.imp_of_mem ?_ (List.pairwise_lt_range (n:=p.toNat^d));intro a b ha hb hab e;rw [ft] at ha hb;have hc:=m6 (p:=p) d;have h1:A8 (a:Int):=⟨by omega,by omega⟩
  have h2:A8 (b:Int):=⟨by omega,by omega⟩
  have hq0:q≠0:=fun h0=>by rw [h0,Pol.len_zero] at hq; omega
  have l1:=Pol.len_le (tt (p:=p) h1 (d:=d) (by omega))
  have l2:=Pol.len_le (tt (p:=p) h2 (d:=d) (by omega))
  rw [←Pol.mod_eq_iff hq0,Pol.mod_small (by omega),Pol.mod_small (by omega)] at e
  have:=Dk h1 h2 e;omega
 have r:=De (fun x y e=>hi.quo_zero e) (p.toNat^k) (fun i=>(if i=p.toNat^k then (1:Quo q) else 0)-(if i=1 then 1 else 0)) ((List.range (p.toNat^d)).map fun (n:Nat)=>Quo.mk q (f7 p n))
  (by rw [if_pos rfl,if_neg (by omega),Gq.sub_eq,py,Gq.add_zero]; exact hone)
  hnd
  (fun y _=>by
   have e:(fun i=>((if i=p.toNat^k then (1:Quo q) else 0)-(if i=1 then 1 else 0))*pw y i)=fun i=>(if i=p.toNat^k then (1:Quo q) else 0)*pw y i+(if i=1 then 1 else 0) * -pw y i:=by
    funext i
    exact bq [(if i=p.toNat^k then (1:Quo q) else 0),(if i=1 then (1:Quo q) else 0),pw y i] rfl
   rw [e,xc,uk,uk _ (fun i=>-pw y i),if_pos (by omega),if_pos (by omega),hfix,rc,Gq.add_neg])
 rw [ba,jw] at r;exact (Nat.pow_le_pow_iff_right (by omega)).1 r
theorem a2i {q:Fp p} (hi:Irr q) {n:Nat} (hn:1≤n):¬ Dv (q*q) (frT p n):=fun h=>by
 have hfix:=Jg n (y7.1 h) (Quo.mk (q*q) q);have hP:2≤p.toNat:=by have:=IsP.ge (p:=p); omega
 have hN:2≤p.toNat^n:=by
  have:=mu (show 0<p.toNat by omega) hn
  rw [Nat.pow_one] at this;omega
 obtain ⟨m,hm⟩:∃m,p.toNat^n=1+1+m:=⟨p.toNat^n-2,by omega⟩
 rw [hm,v5,v5,rc,←Quo.mk_mul,gh.1 (Dv.refl (q*q)),Gq.zero_mul] at hfix;have hd:=gh.2 hfix.symm;have h1:=hd.len hi.ne;have h2:=Pol.len_mul hi.ne hi.ne;have h3:=hi.len;omega
theorem a6m {n:Nat} (hn:1≤n):(frT p n).len=p.toNat^n+1:=by
 have hP:2≤p.toNat:=by have:=IsP.ge (p:=p); omega
 have hN:2≤p.toNat^n:=by
  have:=mu (show 0<p.toNat by omega) hn
  rw [Nat.pow_one] at this;omega
 have hX:Monic (Pol.X:Fp p):=⟨by rw [Pol.ld,Pol.len_X]; rfl,Pol.X_ne⟩
 have hl:=W3 hX (p.toNat^n);rw [Pol.len_X,show 2-1=1 from rfl,Nat.mul_one] at hl;have hm:=(Monic.pw hX (p.toNat^n)).1;unfold Pol.ld at hm;rw [hl,Nat.add_sub_cancel] at hm;refine Pol.len_eq (fun i hi=>?_) ?_
 ·unfold frT
  rw [Pol.c_sub,Pol.lt_len _ i (by omega),Pol.c_X,if_neg (by omega),Gq.sub_eq,py,Gq.add_zero]
 ·unfold frT
  rw [Pol.c_sub,hm,Pol.c_X,if_neg (by omega),Gq.sub_eq,py,Gq.add_zero]
  exact Fd.one_ne
theorem Dn {d:Nat} (hd:d≤12) {q:Fp p}:q∈irL p d↔Irr q∧Monic q∧q.len=d+1:=by
 classical
 have hN:=m6 (p:=p) d;refine ⟨fun h=>?_,fun ⟨h1,h2,h3⟩=>?_⟩
 ·obtain ⟨g1,g2⟩:=List.mem_filter.1 (show q∈(vr p d).filter irB from h)
  have g3:Monic q∧Irr q:=of_decide_eq_true g2;exact ⟨g3.2,g3.1,(Il hd g1).2⟩
 ·refine List.mem_filter.2 ⟨ch.2 ⟨(fh q-p^d).toNat,?_,?_⟩,decide_eq_true ⟨h2,h1⟩⟩
  ·have:=om hd h2 h3
   exact ft.2 (by omega)
  ·have:=om hd h2 h3
   have e:p^d+((fh q-p^d).toNat:Int)=fh q:=by omega
   rw [e];exact zn hd h2 h3
theorem a0l {d:Nat} (hd:d≤12):(irL p d).Pairwise fun a b=>a≠b:=by
 have hN:=m6 (p:=p) d;have hb:=md (p:=p) hd;refine List.Pairwise.filter _ ?_;unfold vr;rw [jy];refine List.Pairwise.imp_of_mem ?_ (List.pairwise_lt_range (n:=p.toNat^d));intro a b ha hb2 hab h;have h1:=ft.1 ha;have h2:=ft.1 hb2;have:=Dk (p:=p) ⟨by omega,by omega⟩ ⟨by omega,by omega⟩ h
 omega
noncomputable def gL (p:Int) [IsP p] (n:Nat):Nat→k9 p
 | 0=>[]
 | d+1=>gL p n d++if n%(d+1)=0 then (irL p (d+1)).map fun q=>(q,1) else []
theorem Jp {n:Nat}:∀(m:Nat),m≤12→∀x:Fp p×Nat,x∈gL p n m↔x.2=1∧Irr x.1∧Monic x.1∧x.1.len-1≤m∧n%(x.1.len-1)=0
 | 0,_,x=>by
  refine ⟨fun h=>(by cases h),fun ⟨_,h1,_,h2,_⟩=>?_⟩
  have:=h1.len;omega
 | m+1,hm,x=>by
  unfold gL;rw [bi,Jp m (by omega) x]
  refine ⟨fun h=>?_,fun ⟨h1,h2,h3,h4,h5⟩=>?_⟩
  ·rcases h with ⟨h1,h2,h3,h4,h5⟩ | h
   ·exact ⟨h1,h2,h3,by omega,h5⟩
   ·split at h
    ·rename_i hn
     obtain ⟨q,hq,rfl⟩:=ch.1 h;obtain ⟨g1,g2,g3⟩:=(Dn (by omega)).1 hq
     refine ⟨rfl,g1,g2,by simp only; omega,?_⟩
     simp only [g3,Nat.add_sub_cancel];exact hn
    ·cases h
  ·by_cases hl:x.1.len-1≤m
   ·exact .inl ⟨h1,h2,h3,hl,h5⟩
   ·right
    have h6:x.1.len-1=m+1:=by omega
    rw [h6] at h5;rw [if_pos h5];refine ch.2 ⟨x.1,(Dn (by omega)).2 ⟨h2,h3,by omega⟩,?_⟩
    rw [←h1]
theorem adm {n m:Nat} (hm:m≤12):FacOk (gL p n m):=by
 refine ⟨fun x hx=>?_,?_⟩
 ·obtain ⟨h1,h2,h3,_⟩:=(Jp m hm x).1 hx
  exact ⟨h2,h3,by omega⟩
 ·induction m with
  | zero=>exact List.Pairwise.nil
  | succ m ih=>
   unfold gL;rw [fe];refine ⟨ih (by omega),?_,fun x hx y hy=>?_⟩
   ·split
    ·rw [jy]
     exact (a0l (by omega)).imp fun h=>h
    ·exact List.Pairwise.nil
   ·split at hy
    ·obtain ⟨q,hq,rfl⟩:=ch.1 hy
     obtain ⟨g1,g2,g3⟩:=(Dn (by omega)).1 hq
     obtain ⟨_,_,_,h4,_⟩:=(Jp m (by omega) x).1 hx
     intro e;simp only at e;rw [e] at h4;omega
    ·cases hy
theorem L6 {n:Nat} (h1:1≤n) (hn':n≤11):p.toNat^n=dgF (gL p n n):=by
 have hn:n≤12:=by omega
 have hok:=adm (p:=p) (n:=n) hn;have hpow:∀d,d≤12→p^d<1000000000000:=fun d hd=>Ld hd
 obtain ⟨h,hf⟩:Dv (ki (gL p n n)) (frT p n):=Ni hok fun x hx=>by
  obtain ⟨g1,g2,g3,g4,g5⟩:=(Jp n hn x).1 hx;rw [g1,rc];have:=g2.len;exact a80 g2 (d:=x.1.len-1) (by omega) (hpow _ (by omega)) g5
 have hfl:=a6m (p:=p) h1;have hf0:frT p n≠0:=fun e=>by rw [e,Pol.len_zero] at hfl; omega
 have hg0:ki (gL p n n)≠0:=(vd hok).2;have hh0:h≠0:=fun e=>hf0 (by rw [hf,e,Gq.mul_zero])
 have hl:=Pol.len_mul hg0 hh0;rw [←hf,hfl,H3 hok] at hl;have hhp:=Pol.len_pos hh0
 by_cases h2:2≤h.len
 ·exfalso
  obtain ⟨q,q1,q2,q3⟩:=Bw h.len h (bj _) h2;have q4:Dv q (frT p n):=q3.trans ⟨ki (gL p n n),by rw [hf,Gq.mul_comm]⟩
  have q5:=q1.len
  -- a bound of the degree
  by_cases hb:q.len-1≤12
  ·have q6:=a69 q1 (d:=q.len-1) (by omega) (hpow _ hb) q4
   have q7:q.len-1≤n:=kz (by omega) (Nat.dvd_of_mod_eq_zero q6)
   have q8:((q,1):Fp p×Nat)∈gL p n n:=(Jp n hn _).2 ⟨rfl,q1,q2,q7,q6⟩;obtain ⟨r,hr,-⟩:=x8 hok q8;obtain ⟨s,hs⟩:=q3;refine a2i q1 h1 ⟨r*s,?_⟩;rw [hf,hr,hs,rc];exact bq [q,r,s] rfl
  ·have:=a2s q1 (d:=12) (k:=n) (by omega) (hpow 12 (bj _)) h1 q4
   omega
 ·omega
theorem a17 {n:Nat} (h1:1≤n) (h5:n≤5):(E4 p n n).tdiv n=((irL p n).length:Int):=by
 have key:∀d,d≤12→dgF ((irL p d).map fun q=>(q,1))=d*(irL p d).length:=fun d hd=>W8 _ fun q hq=>((Dn hd).1 hq).2.2
 have a1:=L6 (p:=p) (n:=1) (by omega) (by omega)
 have e1:gL p 1 1=(irL p 1).map fun q=>(q,1):=rfl
 rw [e1,key 1 (by omega),Nat.pow_one] at a1
 have hp:((p.toNat:Nat):Int)=p:=by have:=IsP.pos (p:=p); omega
 have:n=1∨n=2∨n=3∨n=4∨n=5:=by omega
 rcases this with rfl | rfl | rfl | rfl | rfl
 ·have hc:E4 p 1 1=0+1*p^1:=rfl
  rw [hc,dq,eo,fc,Int.zero_add,fc];rw [show ((1:Nat):Int)=1 from rfl,Int.tdiv_one];omega
 ·have a2:=L6 (p:=p) (n:=2) (by omega) (by omega)
  have e2:gL p 2 2=((irL p 1).map fun q=>(q,1))++(irL p 2).map fun q=>(q,1):=rfl
  rw [e2,xx,key 1 (by omega),key 2 (by omega)] at a2
  have hc:E4 p 2 2=0+1*p^2 + -1*p^1:=rfl;have hN:=m6 (p:=p) 2;have:E4 p 2 2=2*((irL p 2).length:Int):=by rw [hc,dq p 0,eo,fc]; omega
  rw [this];exact Int.mul_tdiv_cancel_left _ (by omega)
 ·have a2:=L6 (p:=p) (n:=3) (by omega) (by omega)
  have e2:gL p 3 3=((irL p 1).map fun q=>(q,1))++[]++(irL p 3).map fun q=>(q,1):=rfl
  rw [e2,fa,xx,key 1 (by omega),key 3 (by omega)] at a2
  have hc:E4 p 3 3=0+1*p^3+0 + -1*p^1:=rfl;have hN:=m6 (p:=p) 3;have:E4 p 3 3=3*((irL p 3).length:Int):=by rw [hc,dq p 0,eo,fc]; omega
  rw [this];exact Int.mul_tdiv_cancel_left _ (by omega)
 ·have a2:=L6 (p:=p) (n:=2) (by omega) (by omega)
  have e2:gL p 2 2=((irL p 1).map fun q=>(q,1))++(irL p 2).map fun q=>(q,1):=rfl
  rw [e2,xx,key 1 (by omega),key 2 (by omega)] at a2
  have a4:=L6 (p:=p) (n:=4) (by omega) (by omega)
  have e4:gL p 4 4=((irL p 1).map fun q=>(q,1))++((irL p 2).map fun q=>(q,1))++[]++(irL p 4).map fun q=>(q,1):=rfl
  rw [e4,fa,xx,xx,key 1 (by omega),key 2 (by omega),key 4 (by omega)] at a4
  have hc:E4 p 4 4=0+1*p^4 + -1*p^2+0+0*p^1:=rfl;have hN:=m6 (p:=p) 2;have hN4:=m6 (p:=p) 4;have:E4 p 4 4=4*((irL p 4).length:Int):=by rw [hc,Int.zero_mul]; omega
  rw [this];exact Int.mul_tdiv_cancel_left _ (by omega)
 ·have a2:=L6 (p:=p) (n:=5) (by omega) (by omega)
  have e2:gL p 5 5=((irL p 1).map fun q=>(q,1))++[]++[]++[]++(irL p 5).map fun q=>(q,1):=rfl
  rw [e2,fa,fa,fa,xx,key 1 (by omega),key 5 (by omega)] at a2
  have hc:E4 p 5 5=0+1*p^5+0+0+0 + -1*p^1:=rfl;have hN:=m6 (p:=p) 5;have:E4 p 5 5=5*((irL p 5).length:Int):=by rw [hc,dq p 0,eo,fc]; omega
  rw [this];exact Int.mul_tdiv_cancel_left _ (by omega)
end
end Pe
namespace Pe
open Go Gq
variable {T:Nat→Option Fn} {A:ap}
def Gm:Nat→Cd→Cd→Cd
 | 0,_,t=>t
 | n+1,.seq a b,t=>.seq a (Gm n b t)
 | _+1,c,_=>c
def oq:Nat→Cd→Cd
 | 0,c=>c
 | n+1,.seq _ b=>oq n b
 | _+1,c=>c
theorem Eh (c t:Cd):Gm 0 c t=t:=rfl
theorem E7 (n:Nat) (a b t:Cd):Gm (n+1) (.seq a b) t=.seq a (Gm n b t):=rfl
theorem a4d {O:ap} {ls:List (List Int)} (h:∀l∈ls,l.length=64) (hl:ls.length<2000000):∀(k i:Nat),i+k=ls.length →
 dn O 0 (.loop Z23_L0) ⟨[(0,.d (.sl (.arr 64 .leaf) (ls.map kl))),(1,.d (.sl (.arr 64 .leaf) (ls.map kl))),(5,(.d (.int .i64 i)))],[]⟩ =
  some (.exit 0,⟨[(0,.d (.sl (.arr 64 .leaf) (ls.map kl))),(1,.d (.sl (.arr 64 .leaf) (ls.map kl))),(5,(.d (.int .i64 ls.length))),(14,(.d (.bool false)))],[]⟩)
 | 0,i,hi=>by
  obtain rfl:i=ls.length:=by omega
  have hL:(ls.map kl).length=ls.length:=ba ..;refine cg ?_;generalize ls.map kl=LD at *;simp -implicitDefEqProofs [Z23_L0,az,hL]
 | k+1,i,hi=>by
  have hlt:i<ls.length:=by omega
  have hx:=h _ (c6 hlt);have e1:D.beq (.arr 64 .leaf .int) (D.arr 64 .leaf (ah .u8 (ls[i]))) (D.arr 64 .leaf (ah .u8 (ls[i])))=some true:=by rw [a99 hx hx,decide_eq_true rfl]
  have hL:(ls.map kl).length=ls.length:=ba ..;have hx2:∀h:i<(ls.map kl).length,(ls.map kl)[i]'h=(D.arr 64 .leaf (ah .u8 (ls[i]))):=fun h=>by rw [e9]
  have w4:IntKind.i64.wrap ((i:Int)+1)=((i+1:Nat):Int):=(w64 (x:=(i:Int)+1) (by omega)).trans (by omega)
  refine c8 ?_ (a4d h hl k (i+1) (by omega))
  generalize ls[i]=li at *;generalize ls.map kl=LD at *;simp -implicitDefEqProofs [Z23_L0,az,hlt,hL,hx2,e1,w4]
def Tv (O:ap):Prop:=∀ls:List (List Int),(∀l∈ls,l.length=64)→ls.length<2000000→ask O F23 [.sl (.arr 64 .leaf) (ls.map kl),.sl (.arr 64 .leaf) (ls.map kl)]=some (D.bool true)
theorem aa7 (hT:T F23=some Z23):Tv (den T A):=by
 intro ls h hl;have e:=a4d (O:=den T A) h hl ls.length 0 (bv _);rw [show ((0:Nat):Int)=0 from rfl] at e;refine cd hT rfl ?_;generalize ls.map kl=LD at *;simp -implicitDefEqProofs [Z23,Z23_B,az,e]
theorem a1f {p:Int} [IsP p] (c:Zp p):(pad []).set 0 (rep c)=pad (row (Pol.C c:Fp p)):=by
 have hl:(Pol.C c:Fp p).len≤64:=dk (Pol.len_le (Pol.lt_C c)) (by omega)
 have h0:pad []=List.replicate 64 0:=by decide +kernel
 apply pk
 ·rw [cx,c5,c5]
 ·intro i h1 h2
  rw [cx,c5] at h1;rw [←fp h2,ou hl,Pol.c_C,List.getElem_set]
  by_cases hi:i=0
  ·subst hi; rw [if_pos rfl,if_pos rfl]
  ·rw [if_neg (fun h=>hi h.symm),if_neg hi]
   simp only [h0,List.getElem_replicate];exact rep_zero.symm
theorem E9 {p:Int} (L:List (Fp p)):L.map e8=(L.map fun a=>pad (row a)).map kl:=by
 rw [tw];rfl
theorem a4f (p:Int) {n:Nat} (hn:n≤5):∃(PL:List (List Int)) (c:Int),irO p n=.tup [.sl (.arr 64 .leaf) (PL.map kl),(D.int .i64 c)]∧(∀l∈PL,l.length=64)∧PL.length<2000000∧(c=0→ciO p n=.tup [(D.int .i64 ((PL.map kl).length)),(D.int .i64 0)]):=by
 by_cases hp:isP p=true
 ·haveI:IsP p:=It hp
  by_cases h:1≤n∧p^n≤343
  ·have hN:=m6 (p:=p) n
   refine ⟨(irL p n).map fun a=>pad (row a),0,by rw [zb h,E9],fun l hl=>?_,?_,fun _=>?_⟩
   ·obtain ⟨a,_,rfl⟩:=ch.1 hl
    exact c5 _
   ·have h1:(irL p n).length≤(vr p n).length:=List.length_filter_le ..
    have h2:(vr p n).length=p.toNat^n:=by simp [vr]
    rw [ba];omega
   ·unfold ciO
    rw [if_pos hp,if_pos (by omega),ba,ba]
    have hk:((n:Int)).toNat=n:=by omega
    rw [hk,a17 h.1 hn]
  ·exact ⟨[],2,Db h,by simp,by simp,by omega⟩
 ·rw [sn] at hp
  exact ⟨[],1,Nc hp,by simp,by simp,by omega⟩
section
variable {p:Int}
end
def qx (O:ap) (F:Nat) (k:Int):Prop:=∀(p:Int) [IsP p] (a b:Fp p),a.len≤64→b.len≤64→ask O F [(D.int .i64 p),(D.arr 64 .leaf (ah .u8 (pad (row a)))),(D.arr 64 .leaf (ah .u8 (pad (row b))))]=some (.tup [(D.arr 64 .leaf (ah .u8 (pad (row (a+Pol.C (zp p k)*b))))),(D.int .i64 0)])
theorem Wj {p:Int} [IsP p] {a b:Fp p} {n:Nat} (k:Zp p) (ha:a.len≤n) (hb:b.len≤n):(a+Pol.C k*b).len≤n:=
 Pol.len_le fun j hj=>by
  rw [Pol.c_add,Pol.c_Cmul,a.lt_len j (by omega),b.lt_len j (by omega),Gq.mul_zero,Gq.add_zero]
theorem W2 (hT:T F6=some Z6) (hpc:ni (den T A)) (hro:qa (den T A)) (hco:fu (den T A)) (hto:zu (den T A)):qx (den T A) F6 1:=by
 intro p ip X M hX hM;have e1:=hpc p [pad (row X),pad (row M)] (yq (lh X) (c5 _) (lh M) (c5 _)) (by simp)
 rw [Dm,show [pad (row X),pad (row M)].map kl=[(D.arr 64 .leaf (ah .u8 (pad (row X)))),(D.arr 64 .leaf (ah .u8 (pad (row M))))] from rfl] at e1;have e2:=hro p X hX;have e3:=hro p M hM;have e4:=hco p 1 X M (by omega) (by omega) (by omega) (by omega)
 have hl:=Wj (zp p 1) hX hM;have e5:=hto (row (X+Pol.C (zp p 1)*M)) (sa _) (by rw [bf]; omega)
 unfold G1 at e5;rw [bf,if_pos hl] at e5;refine cd hT rfl ?_;generalize pad (row (X+Pol.C (zp p 1)*M))=Pr at *;generalize row (X+Pol.C (zp p 1)*M)=Rr at *;generalize pad (row X)=Px at *;generalize row X=Rx at *;generalize pad (row M)=Pm at *;generalize row M=Rm at *;simp -implicitDefEqProofs [Z6,Z6_B,az,e1,e2,e3,e4,e5,List.replicate]
theorem Gp (hT:T Fg=some Zg) (hpc:ni (den T A)) (hro:qa (den T A)) (hco:fu (den T A)) (hto:zu (den T A)):qx (den T A) Fg (-1):=by
 intro p ip X M hX hM;have e1:=hpc p [pad (row X),pad (row M)] (yq (lh X) (c5 _) (lh M) (c5 _)) (by simp)
 rw [Dm,show [pad (row X),pad (row M)].map kl=[(D.arr 64 .leaf (ah .u8 (pad (row X)))),(D.arr 64 .leaf (ah .u8 (pad (row M))))] from rfl] at e1;have e2:=hro p X hX;have e3:=hro p M hM;have e4:=hco p (-1) X M (by omega) (by omega) (by omega) (by omega)
 have hl:=Wj (zp p (-1)) hX hM;have e5:=hto (row (X+Pol.C (zp p (-1))*M)) (sa _) (by rw [bf]; omega)
 unfold G1 at e5;rw [bf,if_pos hl] at e5;refine cd hT rfl ?_;generalize pad (row (X+Pol.C (zp p (-1))*M))=Pr at *;generalize row (X+Pol.C (zp p (-1))*M)=Rr at *;generalize pad (row X)=Px at *;generalize row X=Rx at *;generalize pad (row M)=Pm at *;generalize row M=Rm at *;simp -implicitDefEqProofs [Zg,Zg_B,az,e1,e2,e3,e4,e5,List.replicate]
section
variable {p:Int} [IsP p]
def acx (M X G:Fp p) (k:Nat):Prop:=pw G k%M=X%M
def IsLog (M X G:Fp p) (k:Nat):Prop:=k<p.toNat^(M.len-1)∧acx M X G k∧∀j,j<k→¬ acx M X G j
theorem IsLog.unique {M X G:Fp p} {j k:Nat} (hj:IsLog M X G j) (hk:IsLog M X G k):j=k:=by
 rcases jz j k with h | h | h
 ·exact absurd hj.2.1 (hk.2.2 j h)
 ·exact h
 ·exact absurd hk.2.1 (hj.2.2 k h)
end
section
variable {p:Int} [IsP p]
end
section
variable {p:Int} [ip:IsP p] {M X G:Fp p}
end
section
variable {p:Int} [IsP p]
end
theorem a5m {p:Int} [IsP p] {M X:Fp p} (hM:Monic M) (h2:2≤M.len) (h6:M.len≤6):pu p (pad (row M)) [pad (row X)]=0:=by
 classical
 rw [tz (by omega) (show kv p ([pad (row X)]++[pad (row M)])=0 from Dm X M),if_pos ⟨hM,h2,h6⟩]
theorem a2b {p:Int} [IsP p] {M:Fp p} (h2:2≤M.len) (h6:M.len≤6):dgC p (pad (row M)) 1 12=0:=by
 unfold dgC;rw [if_neg (by rw [M4]; simp),mb (by omega),if_pos (by omega)]
theorem Y7 {p:Int} {l:List Int} (hl:Arr l) (hfa:∀(_:IsP p) (M:Fp p),M≠0→M.len≤13→IsFac M (fac M)):(∃(r:List Int) (E:Int),prD p l=.tup [(D.arr 64 .leaf (ah .u8 r)),(D.int .i64 0)]∧Arr r∧orD p r l=.tup [(D.int .i64 E),(D.int .i64 0)]∧euD p l=.tup [(D.int .i64 E),(D.int .i64 0)])∨(∃(r:List Int) (c:Int),c≠0∧prD p l=.tup [(D.arr 64 .leaf (ah .u8 r)),(D.int .i64 c)]∧Arr r):=by
 by_cases h0:pu p l []=0
 ·obtain ⟨ip,M,rfl,hM,h2,h6⟩:=Ed h0
  by_cases hi:Irr M
  ·obtain ⟨k,hk⟩:=Es hi (by omega)
   have hnl:=Sc hi h6 hk
   have hnl2:(f7 p (k:Int)).len≤M.len-1:=by
    have h3:=md (p:=p) (n:=M.len-1) (by omega)
    have hkb:=hk.2.1;exact Pol.len_le (tt (p:=p) (n:=(k:Int)) ⟨by omega,by omega⟩ hkb)
   have hf:=hfa ip M hM.2 (by omega)
   have he:=a79 hi hM;have heN:=ae8 M;have hpn:=m6 (p:=p) (M.len-1);have hpos:=pa (p:=p) (M.len-1)
   have h1:1≤p.toNat^(M.len-1)-1:=by
    have:=(Cc hM hf).1;omega
   have hu:Un M (f7 p k):=by
    have hne:f7 p (k:Int)≠0:=by
     intro h0;have hs:=hk.2.2.1.self;rw [h0] at hs;obtain ⟨n,hn⟩:∃n,p.toNat^(M.len-1)-1=n+1:=⟨p.toNat^(M.len-1)-2,by omega⟩
     rw [hn] at hs
     have hz:pw (Quo.mk M (0:Fp p)) (n+1)=0:=by
      show pw (Quo.mk M (0:Fp p)) n*Quo.mk M 0=0;rw [show Quo.mk M (0:Fp p)=0 from rfl,Gq.mul_zero]
     rw [hz] at hs;have hd:Dv M 1:=gh.2 (by rw [Quo.mk_one]; exact hs.symm)
     have:=hd.len Pol.one_ne;rw [Pol.len_one] at this;omega
    have hg:=Pol.gcd_dv_left (a:=f7 p (k:Int)) (b:=M) (.inl hne);have hg2:=Pol.gcd_dv_right (a:=f7 p (k:Int)) (b:=M) (.inl hne);have hgm:=Pol.gcd_monic (a:=f7 p (k:Int)) (b:=M) (.inl hne);rcases hi.dv hg2 with h | h
    ·exact hgm.eq_one h
    ·have h3:=hg.len hne
     omega
   obtain ⟨o1,o2,o3⟩:=Xg hM (by omega) hf hu
   have ho:=o2.unique hk.2.2.1;refine .inl ⟨pad (row (f7 p k)),eul M,Ho hM h2 h6 hi hk,Xy _,?_,Qe (a2b h2 h6) (by omega)⟩
   rw [Qn (a5m hM h2 h6) (by omega) (by omega) hu,ho]
   congr 3
   congr 1
   omega
  ·exact .inr ⟨_,5,by omega,Ws (by omega) h0 hi,⟨c5 _,fun x hx=>by
    unfold pad at hx;obtain ⟨a,_,rfl⟩:∃a,a<64∧cf [] a=x:=by simpa using hx
    rw [o7 (jc _)];omega⟩⟩
 ·exact .inr ⟨_,_,h0,X4 h0,⟨c5 _,fun x hx=>by
   unfold pad at hx;obtain ⟨a,_,rfl⟩:∃a,a<64∧cf [] a=x:=by simpa using hx
   rw [o7 (jc _)];omega⟩⟩
theorem ai7:Z1z_B=Gm 8 Z1z_B (oq 8 Z1z_B):=by
 rw [Z1z_B]; rfl
theorem afq:oq 8 Z1z_B=Gm 5 (oq 8 Z1z_B) (oq 13 Z1z_B):=by
 rw [Z1z_B]; rfl
theorem aed:oq 13 Z1z_B=Gm 4 (oq 13 Z1z_B) (oq 17 Z1z_B):=by
 rw [Z1z_B]; rfl
theorem ae3:oq 17 Z1z_B=Gm 8 (oq 17 Z1z_B) (oq 25 Z1z_B):=by
 rw [Z1z_B]; rfl
theorem ajw {O:ap} (t:Cd) {code:List Int} {s0 s1 s2:D} {x y p n:Int} {PL:List D}
 (e0:ask O F20 [.sl .leaf (ah .u8 code)]=some (D.bool false))
 (r0:O F24 [.d (.sl .leaf (ah .u8 code)),.d (.int .u64 9901)] []=some (.ptr 0 [],[],[.box false s0]))
 (r1:O F21 [.ptr 0 [],(.d (.int .i64 ((3:Int))))] [.box false s0]=some ((.d (.int .i64 x)),[.box false s1],[]))
 (hx:(x=0∧p=2)∨(x=1∧p=3)∨(x=2∧p=5))
 (r2:O F21 [.ptr 0 [],(.d (.int .i64 ((2:Int))))] [.box false s1]=some ((.d (.int .i64 y)),[.box false s2],[]))
 (w:IntKind.i64.wrap (1+y)=n)
 (i1:ask O F9 [(D.int .i64 p),(D.int .i64 n)]=some (.tup [.sl (.arr 64 .leaf) PL,(D.int .i64 0)]))
 (i2:ask O F30 [(D.int .i64 p),(D.int .i64 n)]=some (.tup [.sl (.arr 64 .leaf) PL,(D.int .i64 0)]))
 (q:ask O F23 [.sl (.arr 64 .leaf) PL,.sl (.arr 64 .leaf) PL]=some (D.bool true))
 (hl:¬ PL=[]) :
 dn O 0 (Gm 8 Z1z_B t) ⟨[(0,.d (.sl .leaf (ah .u8 code)))],[.hole,.hole,.hole,.hole,.hole,.hole,.hole,.hole,.hole,.hole,.hole,.hole,.hole,.hole,.hole,.hole,.hole,.hole]⟩ =
  dn O 0 t ⟨[(3,.ptr 0 []),(4,(.d (.int .i64 p))),(5,(.d (.int .i64 n))),(6,.d (.sl (.arr 64 .leaf) PL)),(83,(.d (.bool false)))],[.box false s2,.hole,.hole,.hole,.hole,.hole,.hole,.hole,.hole,.hole,.hole,.hole,.hole,.hole,.hole,.hole,.hole,.hole]⟩:=by
 rcases hx with ⟨rfl,rfl⟩ | ⟨rfl,rfl⟩ | ⟨rfl,rfl⟩
 ·simp -implicitDefEqProofs [Z1z_B,Eh,E7,az,e0,r0,r1,r2,w,i1,i2,q,hl,List.replicate,List.idxOf,List.findIdx,List.findIdx.go]
 ·simp -implicitDefEqProofs [Z1z_B,Eh,E7,az,e0,r0,r1,r2,w,i1,i2,q,hl,List.replicate,List.idxOf,List.findIdx,List.findIdx.go]
 ·simp -implicitDefEqProofs [Z1z_B,Eh,E7,az,e0,r0,r1,r2,w,i1,i2,q,hl,List.replicate,List.idxOf,List.findIdx,List.findIdx.go]
theorem ajq {O:ap} (t:Cd) {s2 s3:D} {p n:Int} {j:Nat} {PL:List D} {mm ex:List Int}
 (r3:O F21 [.ptr 0 [],(.d (.int .i64 ((PL.length:Int))))] [.box false s2]=some ((.d (.int .i64 ((j:Int)))),[.box false s3],[]))
 (hj:j<PL.length) (hm:∀h:j<PL.length,PL[j]'h=(D.arr 64 .leaf (ah .u8 mm)))
 (e1:ask O F8 [(D.int .i64 p),(D.arr 64 .leaf (ah .u8 mm))]=some (.tup [(D.arr 64 .leaf (ah .u8 ex)),(D.int .i64 0)]))
 (e2:ask O F2z [(D.int .i64 p),(D.arr 64 .leaf (ah .u8 mm))]=some (.tup [(D.arr 64 .leaf (ah .u8 ex)),(D.int .i64 0)]))
 (e3:ask O Fg [(D.int .i64 p),(D.arr 64 .leaf (ah .u8 mm)),(D.arr 64 .leaf (ah .u8 ((pad []).set 0 1)))]=some (.tup [(D.arr 64 .leaf (ah .u8 ex)),(D.int .i64 0)]))
 (q:D.beq (.arr 64 .leaf .int) (D.arr 64 .leaf (ah .u8 ex)) (D.arr 64 .leaf (ah .u8 ex))=some true) :
 dn O 0 (Gm 5 (oq 8 Z1z_B) t) ⟨[(3,.ptr 0 []),(4,(.d (.int .i64 p))),(5,(.d (.int .i64 n))),(6,.d (.sl (.arr 64 .leaf) PL)),(83,(.d (.bool false)))],[.box false s2,.hole,.hole,.hole,.hole,.hole,.hole,.hole,.hole,.hole,.hole,.hole,.hole,.hole,.hole,.hole,.hole,.hole]⟩ =
  dn O 0 t ⟨[(3,.ptr 0 []),(4,(.d (.int .i64 p))),(5,(.d (.int .i64 n))),(10,.ptr 2 []),(130,(.d (.bool false)))],[.box false s3,.hole,.box false (D.arr 64 .leaf (ah .u8 mm)),.hole,.hole,.hole,.hole,.hole,.hole,.hole,.hole,.hole,.hole,.hole,.hole,.hole,.hole,.hole]⟩:=by
 have hpl:(pad ([]:List Int)).length=64:=c5 _;rw [Z1z_B];simp -implicitDefEqProofs [oq,Eh,E7,az,r3,hj,hm,hpl,e1,e2,e3,q,List.idxOf,List.findIdx,List.findIdx.go]
theorem aj3 {O:ap} (t:Cd) {s3:D} {p n E:Int} {mm pr:List Int}
 (e1:ask O Ff [(D.int .i64 p),(D.arr 64 .leaf (ah .u8 mm))]=some (.tup [(D.arr 64 .leaf (ah .u8 pr)),(D.int .i64 0)]))
 (e2:ask O Fe [(D.int .i64 p),(D.arr 64 .leaf (ah .u8 pr)),(D.arr 64 .leaf (ah .u8 mm))]=some (.tup [(D.int .i64 E),(D.int .i64 0)]))
 (e3:ask O F7 [(D.int .i64 p),(D.arr 64 .leaf (ah .u8 mm))]=some (.tup [(D.int .i64 E),(D.int .i64 0)])) :
 dn O 0 (Gm 4 (oq 13 Z1z_B) t) ⟨[(3,.ptr 0 []),(4,(.d (.int .i64 p))),(5,(.d (.int .i64 n))),(10,.ptr 2 []),(130,(.d (.bool false)))],[.box false s3,.hole,.box false (D.arr 64 .leaf (ah .u8 mm)),.hole,.hole,.hole,.hole,.hole,.hole,.hole,.hole,.hole,.hole,.hole,.hole,.hole,.hole,.hole]⟩ =
  dn O 0 t ⟨[(3,.ptr 0 []),(4,(.d (.int .i64 p))),(5,(.d (.int .i64 n))),(10,.ptr 2 []),(164,(.d (.bool false)))],[.box false s3,.hole,.box false (D.arr 64 .leaf (ah .u8 mm)),.hole,.hole,.hole,.hole,.hole,.hole,.hole,.hole,.hole,.hole,.hole,.hole,.hole,.hole,.hole]⟩:=by
 rw [Z1z_B];simp -implicitDefEqProofs [oq,Eh,E7,az,e1,e2,e3]
theorem aj5 {O:ap} (t:Cd) {s3 s4 s5 s6:D} {p n n1:Int} {mm a b x sm pd fi se wh:List Int}
 (r1:O F22 [.ptr 0 [],(.d (.int .i64 p)),(.d (.int .i64 ((2:Int))))] [.box false s3]=some (.d (D.arr 64 .leaf (ah .u8 a)),[.box false s4],[]))
 (r2:O F22 [.ptr 0 [],(.d (.int .i64 p)),(.d (.int .i64 ((2:Int))))] [.box false s4]=some (.d (D.arr 64 .leaf (ah .u8 b)),[.box false s5],[]))
 (w:IntKind.i64.wrap (n-1)=n1)
 (r3:O F22 [.ptr 0 [],(.d (.int .i64 p)),(.d (.int .i64 n1))] [.box false s5]=some (.d (D.arr 64 .leaf (ah .u8 x)),[.box false s6],[]))
 (e1:ask O F6 [(D.int .i64 p),(D.arr 64 .leaf (ah .u8 a)),(D.arr 64 .leaf (ah .u8 b))]=some (.tup [(D.arr 64 .leaf (ah .u8 sm)),(D.int .i64 0)]))
 (e2:ask O Fc [(D.int .i64 p),(D.arr 64 .leaf (ah .u8 a)),(D.arr 64 .leaf (ah .u8 b))]=some (.tup [(D.arr 64 .leaf (ah .u8 pd)),(D.int .i64 0)]))
 (e3:ask O F5 [(D.int .i64 p),(D.arr 64 .leaf (ah .u8 a)),(D.arr 64 .leaf (ah .u8 x)),(D.arr 64 .leaf (ah .u8 mm))]=some (.tup [(D.arr 64 .leaf (ah .u8 fi)),(D.int .i64 0)]))
 (e4:ask O F5 [(D.int .i64 p),(D.arr 64 .leaf (ah .u8 b)),(D.arr 64 .leaf (ah .u8 x)),(D.arr 64 .leaf (ah .u8 mm))]=some (.tup [(D.arr 64 .leaf (ah .u8 se)),(D.int .i64 0)]))
 (e5:ask O F5 [(D.int .i64 p),(D.arr 64 .leaf (ah .u8 sm)),(D.arr 64 .leaf (ah .u8 x)),(D.arr 64 .leaf (ah .u8 mm))]=some (.tup [(D.arr 64 .leaf (ah .u8 wh)),(D.int .i64 0)]))
 (e6:ask O F6 [(D.int .i64 p),(D.arr 64 .leaf (ah .u8 fi)),(D.arr 64 .leaf (ah .u8 se))]=some (.tup [(D.arr 64 .leaf (ah .u8 wh)),(D.int .i64 0)]))
 (q:D.beq (.arr 64 .leaf .int) (D.arr 64 .leaf (ah .u8 wh)) (D.arr 64 .leaf (ah .u8 wh))=some true) :
 dn O 0 (Gm 8 (oq 17 Z1z_B) t) ⟨[(3,.ptr 0 []),(4,(.d (.int .i64 p))),(5,(.d (.int .i64 n))),(10,.ptr 2 []),(164,(.d (.bool false)))],[.box false s3,.hole,.box false (D.arr 64 .leaf (ah .u8 mm)),.hole,.hole,.hole,.hole,.hole,.hole,.hole,.hole,.hole,.hole,.hole,.hole,.hole,.hole,.hole]⟩ =
  dn O 0 t ⟨[(4,(.d (.int .i64 p))),(10,.ptr 2 []),(23,.ptr 7 []),(25,.ptr 9 []),(28,.ptr 11 []),(32,.ptr 13 []),(247,(.d (.bool false)))],[.hole,.hole,.box false (D.arr 64 .leaf (ah .u8 mm)),.hole,.hole,.hole,.hole,.box false (D.arr 64 .leaf (ah .u8 a)),.hole,.box false (D.arr 64 .leaf (ah .u8 x)),.hole,.box false (D.arr 64 .leaf (ah .u8 pd)),.hole,.box false (D.arr 64 .leaf (ah .u8 se)),.hole,.hole,.hole,.hole]⟩:=by
 rw [Z1z_B];simp -implicitDefEqProofs [oq,Eh,E7,az,r1,r2,r3,w,e1,e2,e3,e4,e5,e6,q,List.idxOf,List.findIdx,List.findIdx.go]
theorem aih {O:ap} {p:Int} {mm a x pd se le:List Int}
 (e1:ask O F5 [(D.int .i64 p),(D.arr 64 .leaf (ah .u8 a)),(D.arr 64 .leaf (ah .u8 se)),(D.arr 64 .leaf (ah .u8 mm))]=some (.tup [(D.arr 64 .leaf (ah .u8 le)),(D.int .i64 0)]))
 (e2:ask O F5 [(D.int .i64 p),(D.arr 64 .leaf (ah .u8 pd)),(D.arr 64 .leaf (ah .u8 x)),(D.arr 64 .leaf (ah .u8 mm))]=some (.tup [(D.arr 64 .leaf (ah .u8 le)),(D.int .i64 0)]))
 (q:D.beq (.arr 64 .leaf .int) (D.arr 64 .leaf (ah .u8 le)) (D.arr 64 .leaf (ah .u8 le))=some true) :
 dn O 0 (oq 25 Z1z_B) ⟨[(4,(.d (.int .i64 p))),(10,.ptr 2 []),(23,.ptr 7 []),(25,.ptr 9 []),(28,.ptr 11 []),(32,.ptr 13 []),(247,(.d (.bool false)))],[.hole,.hole,.box false (D.arr 64 .leaf (ah .u8 mm)),.hole,.hole,.hole,.hole,.box false (D.arr 64 .leaf (ah .u8 a)),.hole,.box false (D.arr 64 .leaf (ah .u8 x)),.hole,.box false (D.arr 64 .leaf (ah .u8 pd)),.hole,.box false (D.arr 64 .leaf (ah .u8 se)),.hole,.hole,.hole,.hole]⟩ =
  some (.ret,⟨[(2,(.d (.bool true)))],[.hole,.hole,.hole,.hole,.hole,.hole,.hole,.hole,.hole,.hole,.hole,.hole,.hole,.hole,.hole,.hole,.hole,.hole]⟩):=by
 rw [Z1z_B];simp -implicitDefEqProofs [oq,e1,e2,q]
theorem aaf {p:Int} [IsP p] (hp:p=2∨p=3∨p=5) {n:Nat} (hn:n=1∨n=2):0<(irL p n).length:=by
 have h:=a17 (p:=p) (n:=n) (by omega) (by omega)
 have h2:0<(E4 p n n).tdiv n:=by
  rcases hp with rfl | rfl | rfl <;> rcases hn with rfl | rfl <;> decide
 omega
def a3g (O:ap):Prop:=∀code:List Int,kh code→code.length≤9223372036854775807→ask O F1z [.sl .leaf (ah .u8 code)]=some (D.bool true)
theorem a81 (hT:T F1z=some Z1z) (hbig:a5b (den T A)) (hro:Tb (den T A)) (hbe:Iq (den T A) F21) (hp9:O0 (den T A))
 (hir:lg (den T A) F9) (hirs:lg (den T A) F30) (hpl:Tv (den T A)) (hex:wv (den T A) F8) (hexs:wv (den T A) F2z)
 (hadd:qx (den T A) F6 1) (hsub:qx (den T A) Fg (-1)) (hmu:tg (den T A)) (hpr:we (den T A) Ff) (hor:wb (den T A) Fe) (heu:E8 (den T A) F7)
 (hac:O6 (den T A)) (hfa:Lz (den T A)):a3g (den T A):=by
 intro code hb hl;have e0:=hbig (ah .u8 code)
 by_cases hc:(4096:Int)<(ah .u8 code).length
 ·rw [decide_eq_true hc] at e0
  refine cd hT rfl ?_;simp -implicitDefEqProofs [Z1z,Z1z_B,az,e0]
 rw [decide_eq_false hc] at e0
 have hc4:code.length≤4096:=by
  rw [Qk] at hc;omega
 obtain ⟨b0,r0,S0⟩:=hro code 9901 hb hc4;obtain ⟨x,b1,r1,S1,x0,x3⟩:=hbe b0 3 S0 (by omega)
 obtain ⟨y,b2,r2,S2,y0,y2⟩:=hbe b1 2 S1 (by omega)
 obtain ⟨p,hp,hxp⟩:∃p:Int,(p=2∨p=3∨p=5)∧((x=0∧p=2)∨(x=1∧p=3)∨(x=2∧p=5)):=by
  rcases (show x=0∨x=1∨x=2 by omega) with h | h | h
  ·exact ⟨2,.inl rfl,.inl ⟨h,rfl⟩⟩
  ·exact ⟨3,.inr (.inl rfl),.inr (.inl ⟨h,rfl⟩)⟩
  ·exact ⟨5,.inr (.inr rfl),.inr (.inr ⟨h,rfl⟩)⟩
 haveI ip:IsP p:=⟨by omega⟩
 obtain ⟨n,hn,hyn⟩:∃n:Nat,(n=1∨n=2)∧1+y=(n:Int):=by
  rcases (show y=0∨y=1 by omega) with h | h
  ·exact ⟨1,.inl rfl,by omega⟩
  ·exact ⟨2,.inr rfl,by omega⟩
 have w1:IntKind.i64.wrap (1+y)=(n:Int):=by rw [hyn]; exact w64 (by omega)
 have hpn:1≤n∧p^n≤343:=by
  refine ⟨by omega,?_⟩
  rcases hp with rfl | rfl | rfl <;> rcases hn with rfl | rfl <;> decide
 have i1:=hir p n (by omega)
 have i2:=hirs p n (by omega)
 rw [zb hpn,E9] at i1 i2;have hne:=aaf hp hn;have hil:(((irL p n).map fun a=>pad (row a)).map kl).length=(irL p n).length:=by rw [ba,ba]
 have hi2:(irL p n).length<2000000:=by
  obtain ⟨PL,c,f1,f2,f3,f4⟩:=a4f p (n:=n) (by omega)
  rw [zb hpn,E9] at f1;have:=D.tup.inj f1;have h2:=(D.sl.inj (List.cons.inj this).1).2;have h3:=congrArg List.length h2;rw [hil,ba] at h3;omega
 have q1:=hpl ((irL p n).map fun a=>pad (row a)) (fun l hl=>by
  obtain ⟨a,_,rfl⟩:=ch.1 hl;exact c5 _) (by rw [ba]; exact hi2)
 obtain ⟨j,b3,r3,S3,j0,j3⟩:=hbe b2 ((irL p n).length:Int) S2 (by omega)
 obtain ⟨jn,rfl⟩:=Int.eq_ofNat_of_zero_le j0;have hjl:jn<(irL p n).length:=by omega
 obtain ⟨m,hm⟩:∃m,m=(irL p n)[jn]:=⟨_,rfl⟩;obtain ⟨mi,mm,ml⟩:=(Dn (p:=p) (d:=n) (by omega)).1 (c6 hjl)
 rw [←hm] at mi mm ml;have hx1:=hex p m mi mm (by omega) (by omega)
 have hx2:=hexs p m mi mm (by omega) (by omega)
 have hs:=hsub p m 1 (by omega) (by rw [Pol.len_one]; omega)
 rw [Cr] at hs
 have h1:pad (row (1:Fp p))=(pad []).set 0 1:=by
  have:=a1f (p:=p) 1;rw [qb,Pol.C_one] at this;exact this.symm
 rw [h1] at hs;have am:Arr (pad (row m)):=Xy m;have g1:=hpr p (pad (row m)) am.2 am.1;have g3:=heu p (pad (row m)) am.2 am.1
 obtain ⟨pr,E,c1,c2,c3,c4⟩:∃(r:List Int) (E:Int),prD p (pad (row m))=.tup [(D.arr 64 .leaf (ah .u8 r)),(D.int .i64 0)]∧Arr r∧orD p r (pad (row m))=.tup [(D.int .i64 E),(D.int .i64 0)]∧euD p (pad (row m))=.tup [(D.int .i64 E),(D.int .i64 0)]:=by
  rcases Y7 (p:=p) (l:=pad (row m)) am (fun ip M h0 h13=>(hfa p M h0 h13).1) with h | ⟨pr,c,c0,c1,-⟩
  ·exact h
  ·exfalso
   obtain ⟨k,hk⟩:=Es mi (by omega)
   rw [Ho mm (by omega) (by omega) mi hk] at c1
   have h2:=(List.cons.inj (List.cons.inj (D.tup.inj c1)).2).1;injection h2 with _ h3
   exact c0 h3.symm
 rw [c1] at g1;rw [c4] at g3;have g2:=hor p pr (pad (row m)) c2.2 c2.1 am.2 am.1;rw [c3] at g2;obtain ⟨a,b4,r4,S4,al⟩:=hp9 p b3 2 S3 (by omega)
 obtain ⟨b,b5,r5,S5,bl⟩:=hp9 p b4 2 S4 (by omega)
 obtain ⟨z,b6,r6,S6,zl⟩:=hp9 p b5 (n-1) S5 (by omega)
 have w2:IntKind.i64.wrap ((n:Int)-1)=((n-1:Nat):Int):=(w64 (x:=(n:Int)-1) (by omega)).trans (by omega)
 have hzm:z%m=z:=Pol.mod_small (by omega)
 have k1:=hadd p a b (by omega) (by omega)
 rw [Xb] at k1;have k2:=hmu p a b (by omega) (by omega)
 have hpl2:=Tl (a:=a) (b:=b) (x:=3) (y:=3) al bl;rw [if_pos (by omega)] at k2
 have k3:=hac p a z m mm (by omega) (by omega) (by omega) (by omega)
 have k4:=hac p b z m mm (by omega) (by omega) (by omega) (by omega)
 have hsl:=Pol.len_add_le (a:=a) (b:=b) (n:=64) (by omega) (by omega)
 have k5:=hac p (a+b) z m mm (by omega) (by omega) hsl (by omega)
 rw [hzm] at k3 k4 k5;have l1:=Eq mm.2 (show z.len<m.len by omega) a
 have l2:=Eq mm.2 (show z.len<m.len by omega) b
 have k6:=hadd p (av m z a) (av m z b) (by omega) (by omega)
 rw [Xb,←(oh m z).add] at k6;have k7:=hac p a (av m z b) m mm (by omega) (by omega) (by omega) (by omega)
 have k8:=hac p (a*b) z m mm (by omega) (by omega) (by omega) (by omega)
 rw [hzm,a5y mm.2] at k8;rw [Pol.mod_small l2] at k7;obtain ⟨c0,a0,h0,rfl,-⟩:=S0;obtain ⟨c1',a1,h1',rfl,-⟩:=S1;obtain ⟨c2',a2,h2',rfl,-⟩:=S2;obtain ⟨c3',a3,h3',rfl,-⟩:=S3;obtain ⟨c4',a4,h4',rfl,-⟩:=S4;obtain ⟨c5',a5,h5',rfl,-⟩:=S5;obtain ⟨c6',a6,h6',rfl,-⟩:=S6;have hq:∀l:List Int,l.length=64→D.beq (.arr 64 .leaf .int) (D.arr 64 .leaf (ah .u8 l)) (D.arr 64 .leaf (ah .u8 l))=some true:=fun l hl=>by rw [a99 hl hl,decide_eq_true rfl]
 have s1:=ajw (O:=den T A) (oq 8 Z1z_B) e0 r0 r1 hxp r2 w1 i1 i2 q1 (fun h=>by
  have:=congrArg List.length h;rw [hil,dl] at this;omega)
 have s2:=ajq (O:=den T A) (oq 13 Z1z_B) (n:=(n:Int)) (j:=jn) (PL:=((irL p n).map fun a=>pad (row a)).map kl) (mm:=pad (row m)) (by rw [hil]; exact r3) (by rw [hil]; exact hjl) (fun h=>by
  rw [e9,e9,←hm]) hx1 hx2 hs (hq _ (c5 _))
 have s3:=aj3 (O:=den T A) (oq 17 Z1z_B) (s3:=.st [.leaf,.leaf,.leaf] [.sl .leaf (ah .u8 c3'),.int .i64 a3,.int .u64 h3']) (n:=(n:Int)) g1 g2 g3;have s4:=aj5 (O:=den T A) (oq 25 Z1z_B) r4 r5 w2 r6 k1 k2 k3 k4 k5 k6 (hq _ (c5 _));have s5:=aih (O:=den T A) k7 k8 (hq _ (c5 _));have e:=s1.trans ((congrArg (fun c=>dn (den T A) 0 c _) afq).trans (s2.trans ((congrArg (fun c=>dn (den T A) 0 c _) aed).trans (s3.trans ((congrArg (fun c=>dn (den T A) 0 c _) ae3).trans (s4.trans s5))))))
 rw [←ai7] at e;refine cd hT rfl ?_;clear s1 s2 s3 s4 s5;simp -implicitDefEqProofs [Z1z,e,List.replicate]
end Pe
namespace Pe
open Go Gq
abbrev tyB:Ty:=.sl (.int .u8)
theorem afv {d:D} (h:tyB.has d):∃l:List Int,d=.sl .leaf (ah .u8 l)∧kh l∧l.length≤9223372036854775807:=by
 cases d <;> simp only [Ty.has] at h
 obtain ⟨rfl,h1,h2⟩:=h;obtain ⟨l,rfl,hb⟩:=L0 _ h2;exact ⟨l,rfl,hb,by simpa [ah] using h1⟩
end Pe
