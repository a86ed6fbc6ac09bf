/-
  A part of the proof: an evaluator for a small form of the code, its soundness, and contracts of functions over it.
-/
import Derived.Test.YtjanjcnncilddabGreatW1
import Derived.Test.YtjanjcnncilddabGreatW2
import Derived.Test.YtjanjcnncilddabGreatW3
import Derived.Test.YtjanjcnncilddabGreatW4
import Derived.Test.YtjanjcnncilddabGreatW5

namespace Pe
open Go Gq
variable {T:Nat→Option Fn} {A:ah}
theorem a7t:∀{ls ks:List (List Int)},ls.length=ks.length→(∀l∈ls,l.length=64)→(∀l∈ks,l.length=64)→D.beqs (.arr 64 .leaf .int) (ls.map aw) (ks.map aw)=some (decide (ls=ks))
 | [],[],_,_,_=>rfl
 | l::ls,k::ks,h,h1,h2=>by
  have e1:=Nk (h1 l (by simp)) (h2 k (by simp))
  have ih:=a7t (ls:=ls) (ks:=ks) (by simpa using h) (fun x hx=>h1 x (by simp [hx])) (fun x hx=>h2 x (by simp [hx]))
  show (D.beq (.arr 64 .leaf .int) (D.arr 64 .leaf (ab .u8 l)) (D.arr 64 .leaf (ab .u8 k))).bind (fun b=>if b then D.beqs (.arr 64 .leaf .int) (ls.map aw) (ks.map aw) else some false)=_
  rw [e1,ih,ae]
  by_cases hlk:l=k
  ·subst hlk
   rw [if_pos (decide_eq_true rfl)]
   congr 1
   exact decide_eq_decide.2 (by simp)
  ·rw [decide_eq_false hlk,if_neg (by simp)]
   congr 1
   exact (decide_eq_false (by simp [hlk])).symm
theorem Qm {ls ks:List (List Int)} (h:Sh8 ls) (h':Sh8 ks):D.beq (.arr 8 (.arr 64 .leaf) (.arr 64 .leaf .int)) (.arr 8 (.arr 64 .leaf) (ls.map aw)) (.arr 8 (.arr 64 .leaf) (ks.map aw))=some (decide (ls=ks)):=by
 have e:=a7t (h.1.trans h'.1.symm) h.2 h'.2;have e2:D.beq (.arr 8 (.arr 64 .leaf) (.arr 64 .leaf .int)) (.arr 8 (.arr 64 .leaf) (ls.map aw)) (.arr 8 (.arr 64 .leaf) (ks.map aw))=if 8=8∧8=8∧Sh.beq (.arr 64 .leaf) (.arr 64 .leaf)∧Sh.beq (.arr 64 .leaf) (.arr 64 .leaf) then D.beqs (.arr 64 .leaf .int) (ls.map aw) (ks.map aw) else none:=rfl
 rw [e2,if_pos ⟨rfl,rfl,rfl,rfl⟩,e]
theorem qh {p:Int} [IsP p] {R:List (Fp p)} (h8:R.length=8) (hR:∀a∈R,a.len≤64):skP R=List.replicate 8 (pad [])↔(az R).length=0:=by
 have hz:skP (zs8 (p:=p))=List.replicate 8 (pad []):=by unfold skP zs8; rw [fu,dq]
 constructor
 ·intro h
  have h1:R=zs8:=by
   have:=kh hR;have h2:=kh (S:=zs8 (p:=p)) (fun a ha=>by rw [f7 ha,Pol.len_zero]; omega)
   rw [←this,h,←hz,h2]
  rw [h1,←Rd,mj zy]; rfl
 ·intro h
  have h1:az R=[]:=d8.1 h;have h2:=sd h8;rw [h1,Rd] at h2;rw [←h2,hz]
open Classical in
noncomputable def dvC (p:Int) (l:List Int) (ls ks:List (List Int)):Int:=if eg p l [ls,ks]≠0 then eg p l [ls,ks] else if ks=List.replicate 8 (pad []) then 5 else 0
theorem Xf {p:Int} {l:List Int} {ls ks:List (List Int)} (h:dvC p l ls ks=0):a6k p l ls ks:=by
 unfold dvC at h
 split at h
 ·rename_i h0; exact absurd h h0
 ·rename_i h0; exact o9.1 (by simpa using h0)
theorem Uw {p:Int} {l:List Int} {ls ks:List (List Int)} (h8:Sk8 ls) (k8:Sk8 ks) (h:dvC p l ls ks=0):∃(_:IsP p) (m:Fp p) (S R:List (Fp p)),l=pad (row m)∧ls=skP S∧ks=skP R∧Fld m∧S.length=8∧R.length=8∧(∀c∈S,c.len<m.len)∧(∀c∈R,c.len<m.len)∧1≤(az R).length:=by
 obtain ⟨ip,m,rfl,hm,hs,hr⟩:=Xf h;obtain ⟨S,rfl,hS⟩:=uh hs;obtain ⟨R,rfl,hR⟩:=uh hr;have hS8:S.length=8:=by have:=h8.2; rwa [ap] at this
 have hR8:R.length=8:=by have:=k8.2; rwa [ap] at this
 have h5:=hm.five;refine ⟨ip,m,S,R,rfl,rfl,rfl,hm,hS8,hR8,hS,hR,?_⟩;rcases kt (az R).length with h0 | h0
 ·have hz:=(qh hR8 (fun a ha=>by have:=hR a ha; omega)).2 h0
  unfold dvC at h
  split at h
  ·rename_i g; exact absurd h g
  ·first | cases h | (rw [if_pos hz] at h; cases h)
 ·exact h0
open Classical in
noncomputable def dvD (left:Bool) (p:Int) (l:List Int) (ls ks:List (List Int)):D:=
 if h:dvC p l ls ks=0 then
  haveI:IsP p:=(Xf h).choose
  .tup [eS (dx left (ew p l) (az (ks.map (ew p))) (az (ls.map (ew p))).length [] (az (ls.map (ew p)))).1,eS (dx left (ew p l) (az (ks.map (ew p))) (az (ls.map (ew p))).length [] (az (ls.map (ew p)))).2,(D.int .i64 0)]
 else .tup [da (List.replicate 8 (pad [])),da (List.replicate 8 (pad [])),(D.int .i64 (dvC p l ls ks))]
theorem Yo {left:Bool} {p:Int} {l:List Int} {ls ks:List (List Int)} (h:¬ dvC p l ls ks=0):dvD left p l ls ks=.tup [da (List.replicate 8 (pad [])),da (List.replicate 8 (pad [])),(D.int .i64 (dvC p l ls ks))]:=by unfold dvD; rw [dif_neg h]
theorem a79 {p:Int} [IsP p] {m:Fp p} {S R:List (Fp p)} (hm:Fld m) (hR8:R.length=8) (hS:∀c∈S,c.len<m.len) (hR:∀c∈R,c.len<m.len) (h1:1≤(az R).length):dvC p (pad (row m)) (skP S) (skP R)=0:=by
 have h5:=hm.five;have h0:eg p (pad (row m)) [skP S,skP R]=0:=o9.2 ⟨_,m,rfl,hm,fun l hl=>by obtain ⟨a,ha,rfl⟩:=cj.1 hl; exact ⟨a,hS a ha,rfl⟩,fun l hl=>by obtain ⟨a,ha,rfl⟩:=cj.1 hl; exact ⟨a,hR a ha,rfl⟩⟩
 unfold dvC;rw [if_neg (by simpa using h0),if_neg]
 intro h;have:=(qh hR8 (fun a ha=>by have:=hR a ha; omega)).1 h
 omega
theorem Az {left:Bool} {p:Int} [IsP p] {m:Fp p} {S R:List (Fp p)} (hm:Fld m) (_hS8:S.length=8) (hR8:R.length=8) (hS:∀c∈S,c.len<m.len) (hR:∀c∈R,c.len<m.len) (h1:1≤(az R).length):dvD left p (pad (row m)) (skP S) (skP R)=.tup [eS (dx left m (az R) (az S).length [] (az S)).1,eS (dx left m (az R) (az S).length [] (az S)).2,(D.int .i64 0)]:=by
 have h5:=hm.five;unfold dvD;rw [dif_pos (a79 hm hR8 hS hR h1),lh (by omega),kh (S:=S) (fun a ha=>by have:=hS a ha; omega),kh (S:=R) (fun a ha=>by have:=hR a ha; omega)]
theorem Qj {p:Int} {m:Fp p} {X:List (Fp p)} (h:Sk m X):Sh8 (skP (pd8 X)):=abi (f9 h.eight)
theorem a4o (left:Bool) (p:Int) (l:List Int) {ls ks:List (List Int)} (h8:Sk8 ls) (k8:Sk8 ks):∃(r1 r2:List (List Int)) (k:Int),dvD left p l ls ks=.tup [da r1,da r2,(D.int .i64 k)]∧Sh8 r1∧Sh8 r2:=by
 by_cases h:dvC p l ls ks=0
 ·obtain ⟨ip,m,S,R,rfl,rfl,rfl,hm,hS8,hR8,hS,hR,h1⟩:=Uw h8 k8 h
  rw [Az hm hS8 hR8 hS hR h1];obtain ⟨g1,g2,_⟩:=ov left hm (Sk.of8 hR8 hR) h1 (az S).length [] (az S) (ba _) (Sk.nil m) (Sk.of8 hS8 hS);exact ⟨_,_,_,rfl,Qj g1,Qj g2⟩
 ·rw [Yo h]
  exact ⟨_,_,_,rfl,oz,oz⟩
def H0 (O:ah) (F:Nat) (left:Bool):Prop:=∀(p:Int) (l:List Int) (ls ks:List (List Int)),g9 l→l.length=64→Sk8 ls→Sk8 ks→ask O F [(D.int .i64 p),(D.arr 64 .leaf (ab .u8 l)),da ls,da ks]=some (dvD left p l ls ks)
theorem a2j {F:Nat} {left:Bool} (hT:T Fm=some Zm) (hsc:fp (den T A) F27) (hfo:mi (den T A)) (hsk:sr (den T A)) (hto:wt (den T A)) (hd:It (den T A) F left):∀(p:Int) (l:List Int) (ls ks:List (List Int)),g9 l→l.length=64→Sk8 ls→Sk8 ks→ask (den T A) Fm [(D.int .i64 p),(D.arr 64 .leaf (ab .u8 l)),da ls,da ks,.fn F [] []]=some (dvD left p l ls ks):=by
 intro p l ls ks bl gl h8 k8;have e1:=hsc p l [ls,ks] bl gl (by intro x hx; simp at hx; rcases hx with rfl | rfl <;> assumption) (by simp)
 rw [show List.map da [ls,ks]=[da ls,da ks] from rfl] at e1;have hskd:da ls=.arr 8 (.arr 64 .leaf) (ls.map aw):=rfl;have hskk:da ks=.arr 8 (.arr 64 .leaf) (ks.map aw):=rfl;have eq:=Qm (ls:=ks) (ks:=List.replicate 8 (pad [])) ⟨k8.2,fun l hl=>(k8.1 l hl).1⟩ oz
 rw [show (List.replicate 8 (pad [])).map aw=z8 from rfl] at eq
 by_cases h:dvC p l ls ks=0
 ·have hc:=o9.2 (Xf h)
  rw [hc] at e1
  have hnz:ks≠List.replicate 8 (pad []):=by
   intro g;unfold dvC at h;rw [if_neg (by simpa using hc),if_pos g] at h
   cases h
  rw [decide_eq_false hnz] at eq;obtain ⟨ip,m,S,R,rfl,rfl,rfl,hm,hS8,hR8,hS,hR,h1⟩:=Uw h8 k8 h;rw [Az hm hS8 hR8 hS hR h1];have h5:=hm.five;have hX:=Sk.of8 hS8 hS;have hB:=Sk.of8 hR8 hR;obtain ⟨g1,g2,_⟩:=ov left hm hB h1 (az S).length [] (az S) (ba _) (Sk.nil m) hX;have e3:=hfo p m (by omega)
  have e4:=hsk p S hS8 (fun a ha=>by have:=hS a ha; omega)
  have e5:=hsk p R hR8 (fun a ha=>by have:=hR a ha; omega)
  have e6:=hd p m (az S) (az R) hm hX hB h1;have e7:=hto p (dx left m (az R) (az S).length [] (az S)).1 (by have:=g1.eight; omega) (fun a ha=>by have:=g1.res a ha; omega)
  have e8:=hto p (dx left m (az R) (az S).length [] (az S)).2 (by have:=g2.eight; omega) (fun a ha=>by have:=g2.res a ha; omega)
  unfold Ct at e7 e8;rw [if_pos g1.eight] at e7;rw [if_pos g2.eight] at e8;have hf1:=cm (skP (pd8 (dx left m (az R) (az S).length [] (az S)).1));have hf2:=cm (skP (pd8 (dx left m (az R) (az S).length [] (az S)).2));rw [d9,d9];rw [show da (skP (pd8 (dx left m (az R) (az S).length [] (az S)).1))=.arr 8 (.arr 64 .leaf) ((skP (pd8 (dx left m (az R) (az S).length [] (az S)).1)).map aw) from rfl] at e7;rw [show da (skP (pd8 (dx left m (az R) (az S).length [] (az S)).2))=.arr 8 (.arr 64 .leaf) ((skP (pd8 (dx left m (az R) (az S).length [] (az S)).2)).map aw) from rfl] at e8;rw [show skD (az S)=.sl .leaf ((az S).map bw) from rfl] at e4 e6;rw [show skD (az R)=.sl .leaf ((az R).map bw) from rfl] at e5 e6;rw [show skD (dx left m (az R) (az S).length [] (az S)).1=.sl .leaf ((dx left m (az R) (az S).length [] (az S)).1.map bw) from rfl] at e6 e7;rw [show skD (dx left m (az R) (az S).length [] (az S)).2=.sl .leaf ((dx left m (az R) (az S).length [] (az S)).2.map bw) from rfl] at e6 e8;rw [hskd,hskk] at e1 ⊢;rw [hskd] at e4;rw [hskk] at e5;have hfS:=cm (skP S);refine bi hT rfl ?_;generalize (skP (pd8 (dx left m (az R) (az S).length [] (az S)).1)).map aw=D1 at *;generalize (skP (pd8 (dx left m (az R) (az S).length [] (az S)).2)).map aw=D2 at *;generalize (dx left m (az R) (az S).length [] (az S)).1.map bw=D3 at *;generalize (dx left m (az R) (az S).length [] (az S)).2.map bw=D4 at *;generalize (az S).map bw=TS at *;generalize (az R).map bw=TR at *;generalize (skP S).map aw=LS at *;generalize (skP R).map aw=LR at *
  generalize pad (row m)=Pm at *;simp -implicitDefEqProofs [Zm,Zm_B,ac,e1,eq,e3,e4,e5,e6,e7,e8,hf1,hf2,List.replicate]
 ·rw [Yo h,wq]
  rw [hskd,hskk] at e1 ⊢;refine bi hT rfl ?_
  by_cases hc:eg p l [ls,ks]=0
  ·have hz:ks=List.replicate 8 (pad []):=by
    refine dd fun g=>h ?_
    unfold dvC;rw [if_neg (by simpa using hc),if_neg g]
   have hk5:dvC p l ls ks=5:=by unfold dvC; rw [if_neg (by simpa using hc),if_pos hz]
   rw [hk5];rw [decide_eq_true hz] at eq;rw [hc] at e1;generalize ls.map aw=LD at *;generalize ks.map aw=KD at *;simp -implicitDefEqProofs [Zm,Zm_B,ac,e1,eq,List.replicate]
  ·have hk1:dvC p l ls ks=eg p l [ls,ks]:=by unfold dvC; rw [if_pos hc]
   rw [hk1];generalize eg p l [ls,ks]=k at *;generalize ls.map aw=LD at *;generalize ks.map aw=KD at *;simp -implicitDefEqProofs [Zm,Zm_B,ac,e1,hc,List.replicate]
theorem O9 (hT:T F4=some Z4) (hT2:T Fm=some Zm) (hsc:fp (den T A) F27) (hfo:mi (den T A)) (hsk:sr (den T A)) (hto:wt (den T A)) (hd:It (den T A) Fr false):H0 (den T A) F4 false:=by
 intro p l ls ks bl gl h8 k8;have e:=a2j hT2 hsc hfo hsk hto hd p l ls ks bl gl h8 k8;obtain ⟨r1,r2,k,e5,_,_⟩:=a4o false p l h8 k8;rw [e5] at e ⊢;have hf1:=cm r1;have hf2:=cm r2;rw [show da ls=.arr 8 (.arr 64 .leaf) (ls.map aw) from rfl,show da ks=.arr 8 (.arr 64 .leaf) (ks.map aw) from rfl] at e ⊢;rw [show da r1=.arr 8 (.arr 64 .leaf) (r1.map aw) from rfl,show da r2=.arr 8 (.arr 64 .leaf) (r2.map aw) from rfl] at e ⊢;refine bi hT rfl ?_;generalize ls.map aw=LD at *;generalize ks.map aw=KD at *;generalize r1.map aw=D1 at *;generalize r2.map aw=D2 at *;simp -implicitDefEqProofs [Z4,Z4_B,e,hf1,hf2]
end Pe

namespace Pe
open Go Gq
variable {T:Nat→Option Fn} {A:ah}
section
variable {p:Int} [IsP p]
theorem T7 {m x:Fp p} {i n:Nat}:∀(k:Nat) (b Q:List (Fp p)),i+k+b.length≤Q.length→cS (lf m x i k b Q) n=if i+k≤n∧n<i+k+b.length then cS Q n+x*du m (i%(m.len-1)) (cS b (n-(i+k)))%m else cS Q n
 | k,[],Q,_=>by rw [if_neg (by rw [cw]; omega)]; rfl
 | k,y::ys,Q,h=>by
  rw [bv] at h;show cS (lf m x i (k+1) ys (ig Q (i+k) _)) n=_;rw [T7 (k+1) ys _ (by rw [pr]; omega)]
  have hadd:∀v:Fp p,cS (ig Q (i+k) v) n=if n=i+k then cS Q n+v else cS Q n:=fun v=>by
   unfold ig;rw [S6 (by omega)]
   split
   ·rename_i h; rw [h]; rfl
   ·rfl
  rw [hadd]
  by_cases h1:n=i+k
  ·subst h1
   rw [if_neg (by omega),if_pos rfl,if_pos (by rw [bv]; omega),nz]
   rfl
  ·rw [if_neg h1]
   by_cases h2:i+k≤n∧n<i+k+(y::ys).length
   ·rw [bv] at h2
    rw [if_pos (by omega),if_pos (by rw [bv]; omega)]
    have:cS (y::ys) (n-(i+k))=cS ys (n-(i+(k+1))):=by
     unfold cS;rw [show n-(i+k)=(n-(i+(k+1)))+1 by omega,n7]
    rw [this]
   ·rw [if_neg h2,if_neg (by rw [bv] at h2; omega)]
theorem U1 {m x:Fp p} (hm:m≠0) (X:List (Fp p)) (i:Nat):cS (ee m (dj x 0) X) i=x*cS X i%m:=by
 unfold ee;have hz:x*0%m=0:=by rw [Gq.mul_zero,Pol.zero_mod hm]
 by_cases h0:X.length=0
 ·rw [if_pos (.inr h0),W9,ur (by omega),hz]
 ·rw [if_neg (by rw [ej]; omega),vf]
  show cS (lf m x 0 0 X (List.replicate ((dj x 0).length+X.length-1) 0)) i=_;rw [ej,T7 0 X _ (by rw [ch]; omega),Nat.zero_mod]
  have hr:cS (List.replicate (0+1+X.length-1) (0:Fp p)) i=0:=by
   unfold cS;rw [gk]
   split <;> rfl
  rw [hr]
  split
  ·rw [Gq.zero_add]; rfl
  ·rw [ur (A:=X) (by omega),hz]
noncomputable def gr (m:Fp p) (X:List (Fp p)):List (Fp p):=ee m (dj (ji m (cS X (X.length-1))) 0) X
theorem Sk.mon {m:Fp p} {X:List (Fp p)} (hm:m≠0) (hX:Sk m X):Sk m (gr m X):=by
 have h1:=Pol.len_pos hm;have hl:=Ax (m:=m) (a:=dj (ji m (cS X (X.length-1))) 0) (b:=X);rw [ej] at hl;have h8:=hX.eight;exact ⟨kf _ _ _,by unfold gr; omega,fun c hc=>by have:=nk (N:=m.len-1) hm (by omega) c hc; omega⟩
noncomputable def gf (m:Fp p):Nat→List (Fp p)→List (Fp p)→List (Fp p)
 | 0,A,_=>A
 | n+1,A,B=>if B.length=0 then A else gf m n B (dx false m B A.length [] A).2
theorem xp {m:Fp p} (hm:Fld m):∀(n:Nat) (A B:List (Fp p)),B.length≤n→Sk m A→Sk m B→(1≤A.length∨1≤B.length)→Sk m (gf m n A B)∧1≤(gf m n A B).length
 | 0,A,B,hn,hA,hB,h=>⟨hA,by show 1≤A.length; omega⟩
 | n+1,A,B,hn,hA,hB,h=>by
  unfold gf
  split
  ·exact ⟨hA,by omega⟩
  ·obtain ⟨_,g2,g3⟩:=ov false hm hB (by omega) A.length [] A (ba _) (Sk.nil m) hA
   exact xp hm n B _ (by omega) hB g2 (.inl (by omega))
end
def L4 (O:ah):Prop:=∀(p:Int) [IsP p] (m:Fp p) (X:List (Fp p)),Fld m→(∀c∈X,c.len<m.len)→X.length≤1000→1≤X.length→ask O Fy [ka m,skD X]=some (skD (gr m X))
theorem a9z (hT:T Fy=some Zy) (hin:rh (den T A)) (hsi:wi (den T A)) (hby:Gl (den T A)):L4 (den T A):=by
 intro p ip m X hm hX h8 h1;have h5:=hm.five;have hm0:=hm.mon.2
 have hxl:(cS X (X.length-1)).len<m.len:=by
  rw [←rp (show X.length-1<X.length by omega)]; exact hX _ (bj _)
 have e1:=hin p m (cS X (X.length-1)) hm0 (by omega) (by omega)
 have hil:=ym hm0 (cS X (X.length-1));have e2:=hsi p (ji m (cS X (X.length-1))) 0 (by omega)
 have e3:=hby p m (dj (ji m (cS X (X.length-1))) 0) X hm.two (by omega) (fun c hc=>by
  unfold dj at hc;rw [uw,eh] at hc;rw [cl.1 hc]; omega) (fun c hc=>by have:=hX c hc; omega) (by rw [ej]; omega) (by omega)
 rw [show ee m (dj (ji m (cS X (X.length-1))) 0) X=gr m X from rfl] at e3;have hX1:(X.map bw).length=X.length:=ap ..;have w1:IntKind.i64.wrap ((X.length:Int)-1)=((X.length-1:Nat):Int):=(w64 (by omega)).trans (by omega)
 have hx1:∀h:X.length-1<(X.map bw).length,(X.map bw)[X.length-1]'h=(D.sl .leaf (ab .i64 (row (cS X (X.length-1))))):=fun h=>by rw [ca,rp (by omega)]
 have hb1:X.length-1<X.length:=by omega
 have e00:((0:Nat):Int)=0:=rfl;have hfd:ka m=.st [.leaf,.leaf] [(D.int .i64 p),(D.sl .leaf (ab .i64 (row m)))]:=rfl;rw [e00] at e2;rw [show skD (gr m X)=.sl .leaf ((gr m X).map bw) from rfl] at e3 ⊢;rw [show skD (dj (ji m (cS X (X.length-1))) 0)=.sl .leaf ((dj (ji m (cS X (X.length-1))) 0).map bw) from rfl] at e2 e3;rw [show skD X=.sl .leaf (X.map bw) from rfl] at e3 ⊢;rw [hfd] at e1 e3 ⊢;refine bi hT rfl ?_;generalize (gr m X).map bw=MD at *;generalize (dj (ji m (cS X (X.length-1))) 0).map bw=TD at *;generalize row (ji m (cS X (X.length-1)))=R1 at *;generalize row (cS X (X.length-1))=R2 at *;generalize X.map bw=XD at *;generalize row m=Rm at *;generalize X.length-1=x1 at *;simp -implicitDefEqProofs [Zy,Zy_B,hX1,w1,hx1,hb1,e1,e2,e3]
theorem a8b {O:ah} (hd:It O Fr false) {p:Int} [IsP p] {m:Fp p} (hm:Fld m):∀(r:Nat) (X B:List (Fp p)),B.length≤r→Sk m X→Sk m B →
 dn O 0 (.loop Z12_L0) ⟨[(1,.d (skD X)),(2,.d (skD B)),(3,.ptr 0 [])],[.box false (ka m)]⟩ =
  some (.exit 0,⟨[(1,.d (skD (gf m r X B))),(2,.d (skD ([]:List (Fp p)))),(3,.ptr 0 []),(11,(.d (.bool false)))],[.box false (ka m)]⟩)
 | 0,X,B,hr,hX,hB=>by
  obtain rfl:B=[]:=d8.1 (by omega)
  refine bt ?_;show _=some (_,(⟨[(1,.d (skD X)),_,_,_],_⟩:St));rw [show skD ([]:List (Fp p))=.sl .leaf [] from rfl];generalize skD X=XD at *;simp -implicitDefEqProofs [Z12_L0,ac]
 | r+1,X,B,hr,hX,hB=>by
  by_cases h0:B.length=0
  ·obtain rfl:B=[]:=d8.1 h0
   have hg:gf m (r+1) X []=X:=by unfold gf; exact if_pos rfl
   rw [hg];refine bt ?_;rw [show skD ([]:List (Fp p))=.sl .leaf [] from rfl];generalize skD X=XD at *;simp -implicitDefEqProofs [Z12_L0,ac]
  ·have hg:gf m (r+1) X B=gf m r B (dx false m B X.length [] X).2:=by
    conv=>lhs; unfold gf
    rw [if_neg h0]
   obtain ⟨g1,g2,g3⟩:=ov false hm hB (by omega) X.length [] X (ba _) (Sk.nil m) hX
   have ih:=a8b hd hm r B (dx false m B X.length [] X).2 (by omega) hB g2
   rw [←hg] at ih;have e1:=hd p m X B hm hX hB (by omega)
   have hpos:0<B.length:=by omega
   have hB1:(B.map bw).length=B.length:=ap ..;have hfd:ka m=.st [.leaf,.leaf] [(D.int .i64 p),(D.sl .leaf (ab .i64 (row m)))]:=rfl;refine bm ?_ ih;rw [show skD (dx false m B X.length [] X).1=.sl .leaf ((dx false m B X.length [] X).1.map bw) from rfl] at e1;rw [show skD (dx false m B X.length [] X).2=.sl .leaf ((dx false m B X.length [] X).2.map bw) from rfl] at e1 ⊢;rw [show skD X=.sl .leaf (X.map bw) from rfl,show skD B=.sl .leaf (B.map bw) from rfl,hfd] at e1 ⊢;generalize (dx false m B X.length [] X).1.map bw=D1 at *;generalize (dx false m B X.length [] X).2.map bw=D2 at *;generalize X.map bw=XD at *;generalize B.map bw=BD at *;generalize row m=Rm at *;simp -implicitDefEqProofs [Z12_L0,ac,hB1,hpos,e1]
def Yd (O:ah):Prop:=∀(p:Int) [IsP p] (m:Fp p) (X B:List (Fp p)),Fld m→Sk m X→Sk m B→(1≤X.length∨1≤B.length)→ask O F12 [ka m,skD X,skD B]=some (skD (gr m (gf m B.length X B)))
theorem af1 (hT:T F12=some Z12) (hd:It (den T A) Fr false) (hmo:L4 (den T A)):Yd (den T A):=by
 intro p ip m X B hm hX hB h1;obtain ⟨g1,g2⟩:=xp hm B.length X B (ba _) hX hB h1;have e1:=a8b (O:=den T A) hd hm B.length X B (ba _) hX hB;have e2:=hmo p m (gf m B.length X B) hm g1.res (by have:=g1.eight; omega) g2
 have hfd:ka m=.st [.leaf,.leaf] [(D.int .i64 p),(D.sl .leaf (ab .i64 (row m)))]:=rfl;rw [show skD (gr m (gf m B.length X B))=.sl .leaf ((gr m (gf m B.length X B)).map bw) from rfl] at e2 ⊢;rw [show skD (gf m B.length X B)=.sl .leaf ((gf m B.length X B).map bw) from rfl] at e1 e2;rw [show skD X=.sl .leaf (X.map bw) from rfl,show skD B=.sl .leaf (B.map bw) from rfl,hfd] at e1 ⊢;rw [hfd] at e2;refine bi hT rfl ?_;generalize (gr m (gf m B.length X B)).map bw=D1 at *;generalize (gf m B.length X B).map bw=D2 at *;generalize X.map bw=XD at *;generalize B.map bw=BD at *;generalize row m=Rm at *;simp -implicitDefEqProofs [Z12,Z12_B,e1,e2]
theorem a7c {O:ah} (hmm:ki O) {p:Int} [IsP p] {m x:Fp p} {X:List (Fp p)} {b:Blk} (hm:Fld m) (hx:x.len<m.len) (hX:Sk m X):∀(r i:Nat) (Q:List (Fp p)),i+r=8→Q.length=8→(∀j,i≤j→cS Q j=cS X j) →
 dn O 0 (.loop Z4x_L0) ⟨[(0,(.d (.int .i64 p))),(4,.ptr 0 []),(5,.ptr 1 []),(6,.ptr 2 []),(7,.ptr 3 []),(8,(.d (.int .i64 i)))],[.box false (D.arr 64 .leaf (ab .u8 (pad (row m)))),.box false (.arr 8 (.arr 64 .leaf) ((skP Q).map aw)),b,.box false (D.arr 64 .leaf (ab .u8 (pad (row x))))]⟩ =
  some (.exit 0,⟨[(0,(.d (.int .i64 p))),(4,.ptr 0 []),(5,.ptr 1 []),(6,.ptr 2 []),(7,.ptr 3 []),(8,(.d (.int .i64 8))),(17,(.d (.bool false)))],[.box false (D.arr 64 .leaf (ab .u8 (pad (row m)))),.box false (.arr 8 (.arr 64 .leaf) ((skP (X2 (fun i=>x*cS X i%m) r i Q)).map aw)),b,.box false (D.arr 64 .leaf (ab .u8 (pad (row x))))]⟩)
 | 0,i,Q,hi,hq,hQ=>by
  obtain rfl:i=8:=by omega
  refine bt ?_;show _=some (_,(⟨_,[_,.box false (.arr 8 (.arr 64 .leaf) ((skP Q).map aw)),_,_]⟩:St));generalize (skP Q).map aw=QD at *;generalize pad (row m)=Pm at *;generalize pad (row x)=Px at *;simp -implicitDefEqProofs [Z4x_L0,ac]
 | r+1,i,Q,hi,hq,hQ=>by
  have h5:=hm.five;have hi8:i<8:=by omega
  have hi8':(i:Int)<8:=by omega
  have hltq:i<Q.length:=by omega
  have a1:=hX.cs hm.mon.2 i;have e1:=hmm p x (cS X i) m hm.mon.2 (by omega) (by omega) (by omega)
  have w4:IntKind.i64.wrap ((i:Int)+1)=((i+1:Nat):Int):=(w64 (x:=(i:Int)+1) (by omega)).trans (by omega)
  have hx1:∀h:i<((skP Q).map aw).length,((skP Q).map aw)[i]'h=(D.arr 64 .leaf (ab .u8 (pad (row (cS X i))))):=fun h=>by
   rw [ca,ca,rp hltq,hQ i (ba _)]
  have hQL:((skP Q).map aw).length=8:=by rw [ap,ap]; exact hq
  refine bm ?_ (a7c hmm (b:=b) hm hx hX r (i+1) (Q.set i (x*cS X i%m)) (by omega) (by rw [cr]; exact hq) (fun j hj=>by rw [S6 hltq,if_neg (by omega),hQ j (by omega)]))
  rw [show (skP (Q.set i (x*cS X i%m))).map aw=((skP Q).map aw).set i (D.arr 64 .leaf (ab .u8 (pad (row (x*cS X i%m))))) by unfold skP; rw [fg,fg]]
  generalize pad (row (x*cS X i%m))=P1 at *;generalize pad (row (cS X i))=P2 at *;generalize (skP Q).map aw=QD at *;generalize pad (row m)=Pm at *;generalize pad (row x)=Px at *;simp -implicitDefEqProofs [Z4x_L0,ac,hi8,hi8',hQL,hx1,e1,w4]
def Ch (O:ah):Prop:=∀(p:Int) [IsP p] (m:Fp p) (X:List (Fp p)),Fld m→Sk m X→1≤X.length→ask O F4x [(D.int .i64 p),(D.arr 64 .leaf (ab .u8 (pad (row m)))),eS X]=some (eS (gr m X))
theorem a2r (hT:T F4x=some Z4x) (hdg:sj (den T A)) (hin:Eo (den T A)) (hmm:ki (den T A)):Ch (den T A):=by
 intro p ip m X hm hX h1;have h5:=hm.five;have hm0:=hm.mon.2;have h8:=hX.eight;have e1:=hdg p m X hm0 (by omega) hX
 rw [show (X.length:Int)-1=((X.length-1:Nat):Int) by omega] at e1
 have e2:=hin p m (cS X (X.length-1)) hm0 (by omega) (hX.top h1) (hX.cs hm0 _)
 have e3:=a7c (O:=den T A) hmm (b:=.box false (.arr 8 (.arr 64 .leaf) z8)) hm (ym hm0 (cS X (X.length-1))) hX 8 0 (pd8 X) rfl (f9 h8) (fun j _=>x9 j)
 have e00:((0:Nat):Int)=0:=rfl;have hmn:=hX.mon hm0;rw [e00,U2 _ _ _ (f9 h8),show (List.range 8).map (fun i=>ji m (cS X (X.length-1))*cS X i%m)=pd8 (gr m X) from yj (by rw [ap,gu]) (f9 hmn.eight) fun i hi=>by rw [O1,if_pos hi,x9]; unfold gr; rw [U1 hm0]] at e3
 have hx1:=Tc (X:=X) h8 (i:=X.length-1) (by omega)
 have hb1:X.length-1<8:=by omega
 have hXL:=Mz h8;rw [d9] at e1;rw [d9,d9];refine bi hT rfl ?_;generalize (skP (pd8 (gr m X))).map aw=MD at *;generalize pad (row (ji m (cS X (X.length-1))))=P1 at *;generalize pad (row (cS X (X.length-1)))=P2 at *;generalize (skP (pd8 X)).map aw=XD at *;generalize pad (row m)=Pm at *;generalize X.length-1=x1 at *;simp -implicitDefEqProofs [Z4x,Z4x_B,hXL,hx1,hb1,e1,e2,e3,List.replicate]
theorem a0g {O:ah} (hdg:sj O) (hd:Hz O F53 false) {p:Int} [IsP p] {m:Fp p} (hm:Fld m) {z:List D}:∀(r:Nat) (X B:List (Fp p)),B.length≤r→Sk m X→Sk m B →
 dn O 0 (.loop Z4m_L0) ⟨[(0,(.d (.int .i64 p))),(5,.ptr 0 []),(6,.ptr 1 []),(7,.ptr 2 []),(8,.ptr 3 [])],[.box false (D.arr 64 .leaf (ab .u8 (pad (row m)))),.box false (.arr 8 (.arr 64 .leaf) ((skP (pd8 X)).map aw)),.box false (.arr 8 (.arr 64 .leaf) ((skP (pd8 B)).map aw)),.box false (.arr 8 (.arr 64 .leaf) z),.hole,.hole]⟩ =
  some (.exit 0,⟨[(0,(.d (.int .i64 p))),(5,.ptr 0 []),(6,.ptr 1 []),(7,.ptr 2 []),(8,.ptr 3 []),(13,(.d (.bool false)))],[.box false (D.arr 64 .leaf (ab .u8 (pad (row m)))),.box false (.arr 8 (.arr 64 .leaf) ((skP (pd8 (gf m r X B))).map aw)),.box false (.arr 8 (.arr 64 .leaf) ((skP (pd8 ([]:List (Fp p)))).map aw)),.box false (.arr 8 (.arr 64 .leaf) z),.hole,.hole]⟩)
 | 0,X,B,hr,hX,hB=>by
  have h5:=hm.five;obtain rfl:B=[]:=d8.1 (by omega)
  have e1:=hdg p m [] hm.mon.2 (by omega) hB
  rw [d9,cw] at e1;refine bt ?_;show _=some (_,(⟨_,[_,.box false (.arr 8 (.arr 64 .leaf) ((skP (pd8 X)).map aw)),_,_,_,_]⟩:St));generalize (skP (pd8 X)).map aw=XD at *;generalize (skP (pd8 ([]:List (Fp p)))).map aw=BD at *;generalize pad (row m)=Pm at *;simp -implicitDefEqProofs [Z4m_L0,ac,e1]
 | r+1,X,B,hr,hX,hB=>by
  have h5:=hm.five;have e1:=hdg p m B hm.mon.2 (by omega) hB
  rw [d9] at e1
  by_cases h0:B.length=0
  ·obtain rfl:B=[]:=d8.1 h0
   have hg:gf m (r+1) X []=X:=by unfold gf; exact if_pos rfl
   rw [hg];rw [cw] at e1;refine bt ?_;generalize (skP (pd8 X)).map aw=XD at *;generalize (skP (pd8 ([]:List (Fp p)))).map aw=BD at *;generalize pad (row m)=Pm at *;simp -implicitDefEqProofs [Z4m_L0,ac,e1]
  ·have hg:gf m (r+1) X B=gf m r B (dx false m B X.length [] X).2:=by
    conv=>lhs; unfold gf
    rw [if_neg h0]
   obtain ⟨g1,g2,g3⟩:=ov false hm hB (by omega) X.length [] X (ba _) (Sk.nil m) hX
   have ih:=a0g hdg hd hm (z:=z) r B (dx false m B X.length [] X).2 (by omega) hB g2
   rw [←hg] at ih;have e2:=hd p m X B hm hX hB (by omega)
   rw [show (B.length:Int)-1=((B.length-1:Nat):Int) by omega] at e1
   have hf1:=cm (skP (pd8 (dx false m B X.length [] X).1));have hf2:=cm (skP (pd8 (dx false m B X.length [] X).2));rw [d9,d9,d9,d9] at e2;refine bm ?_ ih;generalize (skP (pd8 (dx false m B X.length [] X).1)).map aw=D1 at *;generalize (skP (pd8 (dx false m B X.length [] X).2)).map aw=D2 at *;generalize (skP (pd8 X)).map aw=XD at *;generalize (skP (pd8 B)).map aw=BD at *;generalize pad (row m)=Pm at *;generalize B.length-1=b1 at *;simp -implicitDefEqProofs [Z4m_L0,ac,e1,e2,hf1,hf2]
def L9 (O:ah):Prop:=∀(p:Int) [IsP p] (m:Fp p) (X B:List (Fp p)),Fld m→Sk m X→Sk m B→(1≤X.length∨1≤B.length)→ask O F4m [(D.int .i64 p),(D.arr 64 .leaf (ab .u8 (pad (row m)))),eS X,eS B]=some (eS (gr m (gf m B.length X B)))
theorem aa9 (hT:T F4m=some Z4m) (hdg:sj (den T A)) (hd:Hz (den T A) F53 false) (hmo:Ch (den T A)):L9 (den T A):=by
 intro p ip m X B hm hX hB h1;obtain ⟨g1,g2⟩:=xp hm B.length X B (ba _) hX hB h1;have e1:=a0g (O:=den T A) hdg hd hm (z:=z8) B.length X B (ba _) hX hB;have e2:=hmo p m (gf m B.length X B) hm g1 g2;have hf1:=cm (skP (pd8 (gr m (gf m B.length X B))));rw [d9,d9] at e2;rw [d9,d9,d9];refine bi hT rfl ?_;generalize (skP (pd8 (gr m (gf m B.length X B)))).map aw=D1 at *;generalize (skP (pd8 (gf m B.length X B))).map aw=D2 at *;generalize (skP (pd8 ([]:List (Fp p)))).map aw=D3 at *;generalize (skP (pd8 X)).map aw=XD at *;generalize (skP (pd8 B)).map aw=BD at *;generalize pad (row m)=Pm at *;simp -implicitDefEqProofs [Z4m,Z4m_B,e1,e2,hf1,List.replicate]
open Classical in
noncomputable def rdC (p:Int) (l:List Int) (ls ks:List (List Int)):Int:=if eg p l [ls,ks]≠0 then eg p l [ls,ks] else if ls=List.replicate 8 (pad [])∧ks=List.replicate 8 (pad []) then 5 else 0
theorem Y5 {p:Int} {l:List Int} {ls ks:List (List Int)} (h:rdC p l ls ks=0):a6k p l ls ks:=by
 unfold rdC at h
 split at h
 ·rename_i h0; exact absurd h h0
 ·rename_i h0; exact o9.1 (by simpa using h0)
theorem Mg {p:Int} {l:List Int} {ls ks:List (List Int)} (h8:Sk8 ls) (k8:Sk8 ks) (h:a6k p l ls ks):∃(_:IsP p) (m:Fp p) (S R:List (Fp p)),l=pad (row m)∧ls=skP S∧ks=skP R∧Fld m∧S.length=8∧R.length=8∧(∀c∈S,c.len<m.len)∧(∀c∈R,c.len<m.len):=by
 obtain ⟨ip,m,rfl,hm,hs,hr⟩:=h;obtain ⟨S,rfl,hS⟩:=uh hs;obtain ⟨R,rfl,hR⟩:=uh hr;have hS8:S.length=8:=by have:=h8.2; rwa [ap] at this
 have hR8:R.length=8:=by have:=k8.2; rwa [ap] at this
 exact ⟨ip,m,S,R,rfl,rfl,rfl,hm,hS8,hR8,hS,hR⟩
open Classical in
noncomputable def rdD (p:Int) (l:List Int) (ls ks:List (List Int)):D:=
 if h:rdC p l ls ks=0 then
  haveI:IsP p:=(Y5 h).choose
  .tup [eS (gr (ew p l) (gf (ew p l) (az (ks.map (ew p))).length (az (ls.map (ew p))) (az (ks.map (ew p))))),(D.int .i64 0)]
 else .tup [da (List.replicate 8 (pad [])),(D.int .i64 (rdC p l ls ks))]
theorem Ga {p:Int} {l:List Int} {ls ks:List (List Int)} (h:¬ rdC p l ls ks=0):rdD p l ls ks=.tup [da (List.replicate 8 (pad [])),(D.int .i64 (rdC p l ls ks))]:=by unfold rdD; rw [dif_neg h]
theorem Gk {p:Int} [IsP p] {m:Fp p} {S R:List (Fp p)} (hm:Fld m) (hS:∀c∈S,c.len<m.len) (hR:∀c∈R,c.len<m.len) (h:rdC p (pad (row m)) (skP S) (skP R)=0):rdD p (pad (row m)) (skP S) (skP R)=.tup [eS (gr m (gf m (az R).length (az S) (az R))),(D.int .i64 0)]:=by
 have h5:=hm.five;unfold rdD;rw [dif_pos h,lh (by omega),kh (S:=S) (fun a ha=>by have:=hS a ha; omega),kh (S:=R) (fun a ha=>by have:=hR a ha; omega)]
theorem Jo {p:Int} [IsP p] {m:Fp p} {S R:List (Fp p)} (hm:Fld m) (hS8:S.length=8) (hR8:R.length=8) (hS:∀c∈S,c.len<m.len) (hR:∀c∈R,c.len<m.len) (hc:eg p (pad (row m)) [skP S,skP R]=0):rdC p (pad (row m)) (skP S) (skP R)=if (az S).length=0∧(az R).length=0 then 5 else 0:=by
 have h5:=hm.five;unfold rdC;rw [if_neg (by simpa using hc)]
 have h1:=qh hS8 (fun a ha=>by have:=hS a ha; omega)
 have h2:=qh hR8 (fun a ha=>by have:=hR a ha; omega)
 by_cases h:(az S).length=0∧(az R).length=0
 ·rw [if_pos h,if_pos ⟨h1.2 h.1,h2.2 h.2⟩]
 ·rw [if_neg h,if_neg fun g=>h ⟨h1.1 g.1,h2.1 g.2⟩]
theorem a8p (p:Int) (l:List Int) {ls ks:List (List Int)} (h8:Sk8 ls) (k8:Sk8 ks):∃(r:List (List Int)) (k:Int),rdD p l ls ks=.tup [da r,(D.int .i64 k)]∧Sh8 r:=by
 by_cases h:rdC p l ls ks=0
 ·obtain ⟨ip,m,S,R,rfl,rfl,rfl,hm,hS8,hR8,hS,hR⟩:=Mg h8 k8 (Y5 h)
  have hi:=Jo hm hS8 hR8 hS hR (o9.2 (Y5 h));rw [h] at hi;rw [Gk hm hS hR h]
  obtain ⟨g1,_⟩:=xp hm (az R).length (az S) (az R) (ba _) (Sk.of8 hS8 hS) (Sk.of8 hR8 hR) (by
   split at hi
   ·cases hi
   ·omega)
  exact ⟨_,_,rfl,Qj (g1.mon hm.mon.2)⟩
 ·rw [Ga h]; exact ⟨_,_,rfl,oz⟩
def kk (O:ah) (F:Nat):Prop:=∀(p:Int) (l:List Int) (ls ks:List (List Int)),g9 l→l.length=64→Sk8 ls→Sk8 ks→ask O F [(D.int .i64 p),(D.arr 64 .leaf (ab .u8 l)),da ls,da ks]=some (rdD p l ls ks)
theorem Mr (hT:T Fa=some Za) (hsc:fp (den T A) F27) (hfo:mi (den T A)) (hsk:sr (den T A)) (hto:wt (den T A)) (hd:Yd (den T A)):kk (den T A) Fa:=by
 intro p l ls ks bl gl h8 k8;have e1:=hsc p l [ls,ks] bl gl (by intro x hx; simp at hx; rcases hx with rfl | rfl <;> assumption) (by simp)
 rw [show List.map da [ls,ks]=[da ls,da ks] from rfl] at e1;have hskd:da ls=.arr 8 (.arr 64 .leaf) (ls.map aw):=rfl;have hskk:da ks=.arr 8 (.arr 64 .leaf) (ks.map aw):=rfl;have eq1:=Qm (ls:=ls) (ks:=List.replicate 8 (pad [])) ⟨h8.2,fun l hl=>(h8.1 l hl).1⟩ oz
 have eq2:=Qm (ls:=ks) (ks:=List.replicate 8 (pad [])) ⟨k8.2,fun l hl=>(k8.1 l hl).1⟩ oz
 rw [show (List.replicate 8 (pad [])).map aw=z8 from rfl] at eq1 eq2;rw [hskd,hskk] at e1 ⊢
 by_cases hc:eg p l [ls,ks]=0
 ·rw [hc] at e1
  obtain ⟨ip,m,S,R,rfl,rfl,rfl,hm,hS8,hR8,hS,hR⟩:=Mg h8 k8 (o9.1 hc);have h5:=hm.five;have z1:=qh hS8 (fun a ha=>by have:=hS a ha; omega)
  have z2:=qh hR8 (fun a ha=>by have:=hR a ha; omega)
  rw [decide_eq_decide.2 z1] at eq1;rw [decide_eq_decide.2 z2] at eq2;have hi:=Jo hm hS8 hR8 hS hR hc
  by_cases h0:(az S).length=0∧(az R).length=0
  ·rw [if_pos h0] at hi
   rw [Ga (by rw [hi]; omega),hi,wq]
   rw [decide_eq_true h0.1] at eq1;rw [decide_eq_true h0.2] at eq2;refine bi hT rfl ?_;generalize (skP S).map aw=LS at *;generalize (skP R).map aw=LR at *;generalize pad (row m)=Pm at *;simp -implicitDefEqProofs [Za,Za_B,ac,e1,eq1,eq2,List.replicate]
  ·rw [if_neg h0] at hi
   rw [Gk hm hS hR hi];have hX:=Sk.of8 hS8 hS;have hB:=Sk.of8 hR8 hR;have h1:1≤(az S).length∨1≤(az R).length:=by omega
   obtain ⟨g1,_⟩:=xp hm (az R).length (az S) (az R) (ba _) hX hB h1;have gm:=g1.mon hm.mon.2;have e3:=hfo p m (by omega)
   have e4:=hsk p S hS8 (fun a ha=>by have:=hS a ha; omega)
   have e5:=hsk p R hR8 (fun a ha=>by have:=hR a ha; omega)
   have e6:=hd p m (az S) (az R) hm hX hB h1;have e7:=hto p (gr m (gf m (az R).length (az S) (az R))) (by have:=gm.eight; omega) (fun a ha=>by have:=gm.res a ha; omega)
   unfold Ct at e7;rw [if_pos gm.eight] at e7;have hf1:=cm (skP (pd8 (gr m (gf m (az R).length (az S) (az R)))));rw [d9];rw [show da (skP (pd8 (gr m (gf m (az R).length (az S) (az R)))))=.arr 8 (.arr 64 .leaf) ((skP (pd8 (gr m (gf m (az R).length (az S) (az R))))).map aw) from rfl] at e7;rw [show skD (az S)=.sl .leaf ((az S).map bw) from rfl] at e4 e6;rw [show skD (az R)=.sl .leaf ((az R).map bw) from rfl] at e5 e6;rw [show skD (gr m (gf m (az R).length (az S) (az R)))=.sl .leaf ((gr m (gf m (az R).length (az S) (az R))).map bw) from rfl] at e6 e7;rw [show da (skP S)=.arr 8 (.arr 64 .leaf) ((skP S).map aw) from rfl] at e4;rw [show da (skP R)=.arr 8 (.arr 64 .leaf) ((skP R).map aw) from rfl] at e5
   have hb:(decide ((az S).length=0)&&decide ((az R).length=0))=false:=by
    rw [Bool.and_eq_false_iff];rcases h1 with g | g
    ·exact .inl (decide_eq_false (by omega))
    ·exact .inr (decide_eq_false (by omega))
   refine bi hT rfl ?_;generalize (skP (pd8 (gr m (gf m (az R).length (az S) (az R))))).map aw=D1 at *;generalize (gr m (gf m (az R).length (az S) (az R))).map bw=D3 at *;generalize decide ((az S).length=0)=bs at *;generalize decide ((az R).length=0)=br at *;generalize (az S).map bw=TS at *;generalize (az R).map bw=TR at *;generalize (skP S).map aw=LS at *;generalize (skP R).map aw=LR at *;generalize pad (row m)=Pm at *;cases bs with
   | false=>simp -implicitDefEqProofs [Za,Za_B,ac,e1,eq1,e3,e4,e5,e6,e7,hf1,List.replicate]
   | true=>
    obtain rfl:br=false:=by simpa using hb
    simp -implicitDefEqProofs [Za,Za_B,ac,e1,eq1,eq2,e3,e4,e5,e6,e7,hf1,List.replicate]
 ·have hk1:rdC p l ls ks=eg p l [ls,ks]:=by unfold rdC; rw [if_pos hc]
  rw [Ga (by rw [hk1]; exact hc),hk1,wq]
  refine bi hT rfl ?_;generalize eg p l [ls,ks]=k at *;generalize ls.map aw=LD at *;generalize ks.map aw=KD at *;simp -implicitDefEqProofs [Za,Za_B,ac,e1,hc,List.replicate]
theorem J9 (hT:T F3r=some Z3r) (hsc:fp (den T A) F4k) (hdg:sj (den T A)) (hd:L9 (den T A)):kk (den T A) F3r:=by
 intro p l ls ks bl gl h8 k8;have e1:=hsc p l [ls,ks] bl gl (by intro x hx; simp at hx; rcases hx with rfl | rfl <;> assumption) (by simp)
 rw [show List.map da [ls,ks]=[da ls,da ks] from rfl] at e1;have hskd:da ls=.arr 8 (.arr 64 .leaf) (ls.map aw):=rfl;have hskk:da ks=.arr 8 (.arr 64 .leaf) (ks.map aw):=rfl;rw [hskd,hskk] at e1 ⊢
 by_cases hc:eg p l [ls,ks]=0
 ·rw [hc] at e1
  obtain ⟨ip,m,S,R,rfl,rfl,rfl,hm,hS8,hR8,hS,hR⟩:=Mg h8 k8 (o9.1 hc);have h5:=hm.five;have hX:=Sk.of8 hS8 hS;have hB:=Sk.of8 hR8 hR;have e2:=hdg p m (az S) hm.mon.2 (by omega) hX
  have e3:=hdg p m (az R) hm.mon.2 (by omega) hB
  rw [d9,sd hS8] at e2;rw [d9,sd hR8] at e3;have hi:=Jo hm hS8 hR8 hS hR hc
  by_cases h0:(az S).length=0∧(az R).length=0
  ·rw [if_pos h0] at hi
   rw [Ga (by rw [hi]; omega),hi,wq]
   rw [h0.1] at e2;rw [h0.2] at e3;refine bi hT rfl ?_;generalize (skP S).map aw=LS at *;generalize (skP R).map aw=LR at *;generalize pad (row m)=Pm at *;simp -implicitDefEqProofs [Z3r,Z3r_B,ac,e1,e2,e3,List.replicate]
  ·rw [if_neg h0] at hi
   rw [Gk hm hS hR hi];have h1:1≤(az S).length∨1≤(az R).length:=by omega
   have e4:=hd p m (az S) (az R) hm hX hB h1;have hf1:=cm (skP (pd8 (gr m (gf m (az R).length (az S) (az R)))));rw [d9,d9,d9,sd hS8,sd hR8] at e4;rw [d9];refine bi hT rfl ?_
   by_cases hs0:(az S).length=0
   ·have hr1:¬ ((az R).length:Int)-1<0:=by omega
    have hs1:((az S).length:Int)-1<0:=by omega
    generalize (skP (pd8 (gr m (gf m (az R).length (az S) (az R))))).map aw=D1 at *;generalize ((az S).length:Int)-1=sl at *;generalize ((az R).length:Int)-1=rl at *;generalize (skP S).map aw=LS at *;generalize (skP R).map aw=LR at *;generalize pad (row m)=Pm at *;simp -implicitDefEqProofs [Z3r,Z3r_B,ac,e1,e2,e3,e4,hf1,hs1,hr1,List.replicate]
   ·have hs1:¬ ((az S).length:Int)-1<0:=by omega
    generalize (skP (pd8 (gr m (gf m (az R).length (az S) (az R))))).map aw=D1 at *;generalize ((az S).length:Int)-1=sl at *;generalize ((az R).length:Int)-1=rl at *;generalize (skP S).map aw=LS at *;generalize (skP R).map aw=LR at *;generalize pad (row m)=Pm at *;simp -implicitDefEqProofs [Z3r,Z3r_B,ac,e1,e2,e4,hf1,hs1,List.replicate]
 ·have hk1:rdC p l ls ks=eg p l [ls,ks]:=by unfold rdC; rw [if_pos hc]
  rw [Ga (by rw [hk1]; exact hc),hk1,wq]
  refine bi hT rfl ?_;generalize eg p l [ls,ks]=k at *;generalize ls.map aw=LD at *;generalize ks.map aw=KD at *;simp -implicitDefEqProofs [Z3r,Z3r_B,ac,e1,hc,List.replicate]
end Pe

namespace Pe
open Go Gq
variable {T:Nat→Option Fn} {A:ah}
section
variable {p:Int}
theorem Dg {k:Int} {X Y:List (Fp p)} (hX:km X) (h:Y.length<X.length):(f4 k X Y).length=X.length:=by
 have h1:=zc k X Y;rcases dm (f4 k X Y).length X.length with g | g
 ·have h2:=xi k X Y (X.length-1)
  rw [ur (A:=f4 k X Y) (by omega),ur (A:=Y) (by omega),Gq.mul_zero,Gq.add_zero] at h2
  exact absurd h2.symm (hX (X.length-1) (by omega))
 ·omega
theorem Bt {k:Int} {X Y:List (Fp p)} (hY:km Y) (hk:∀y:Fp p,Pol.C (zp p k)*y=0→y=0) (h:X.length<Y.length):(f4 k X Y).length=Y.length:=by
 have h1:=zc k X Y;rcases dm (f4 k X Y).length Y.length with g | g
 ·have h2:=xi k X Y (Y.length-1)
  rw [ur (A:=f4 k X Y) (by omega),ur (A:=X) (by omega),Gq.zero_add] at h2
  exact absurd (hk _ h2.symm) (hY (Y.length-1) (by omega))
 ·omega
theorem c_one {y:Fp p} (h:Pol.C (zp p 1)*y=0):y=0:=by
 rw [t9,Pol.C_one,Gq.one_mul] at h; exact h
theorem aah {y:Fp p} (h:Pol.C (zp p (-1))*y=0):y=0:=by
 have h1:y+Pol.C (zp p (-1))*y=0:=by
  rw [Bp,t9,Pol.C_neg,Pol.C_one];exact bo [y] rfl
 rw [h,Gq.add_zero] at h1; exact h1
end
section
variable {p:Int} [IsP p]
theorem zd {m:Fp p} (hm:Fld m) {X Y:List (Fp p)} (hX:km X) (hY:km Y) (hXl:∀c∈X,c.len<m.len) (hYl:∀c∈Y,c.len<m.len) (h1:1≤X.length) (h2:1≤Y.length):(ee m X Y).length=X.length+Y.length-1:=by
 obtain ⟨a,ea,la⟩:=Ce h1;obtain ⟨b,eb,lb⟩:=Ce h2;have hx:=hX (X.length-1) (by omega)
 have hy:=hY (Y.length-1) (by omega)
 have ht:=Vr hm (a:=a) (b:=b) hx (hXl _ (by rw [←rp (show X.length-1<X.length by omega)]; exact bj _)) hy (hYl _ (by rw [←rp (show Y.length-1<Y.length by omega)]; exact bj _))
 rw [←ea,←eb] at ht;unfold ee;rw [if_neg (by omega),ht]
 unfold rg;rw [ll,ch]
theorem Ij {m:Fp p} (hm:Fld m) {B:List (Fp p)} (hB:Sk m B) (h1:1≤B.length):∀(n:Nat) (Q A:List (Fp p)),Sk m A→km Q→A.length+2≤Q.length+B.length→(dx false m B n Q A).1.length=Q.length
 | 0,_,_,_,_,_=>rfl
 | n+1,Q,A,hA,hQ,h=>by
  unfold dx
  split
  ·rfl
  ·obtain ⟨_,_,_,_,hl,hA'⟩:=Af false hm hA hB h1 (by omega)
   have hT:(qT false m A B).length=A.length-B.length+1:=ej _ _;have e:=Dg (k:=1) hQ (Y:=qT false m A B) (by omega)
   rw [Ij hm hB h1 n _ _ hA' (B1 _ _ _) (by omega),e]
theorem a60 {m:Fp p} (hm:Fld m) {A B:List (Fp p)} (hA:Sk m A) (hB:Sk m B) (h1:1≤B.length) (hle:B.length≤A.length):(dx false m B A.length [] A).1.length=A.length-B.length+1:=by
 have key:∀n,A.length=n+1→(dx false m B (n+1) [] A).1.length=A.length-B.length+1:=fun n hn=>by
  unfold dx;rw [if_neg (by omega)]
  obtain ⟨hc,_,_,_,hl,hA'⟩:=Af false hm hA hB h1 hle;have hT:(qT false m A B).length=A.length-B.length+1:=ej _ _;have e:=Bt (k:=1) (X:=([]:List (Fp p))) (Y:=qT false m A B) (xj hc _) (fun y=>c_one) (by rw [hT,cw]; omega)
  rw [Ij hm hB h1 n _ _ hA' (B1 _ _ _) (by omega),e,hT]
 have:=key (A.length-1) (by omega)
 rw [show A.length-1+1=A.length by omega] at this
 exact this
noncomputable def qa (m:Fp p):Nat→List (Fp p)→List (Fp p)→List (Fp p)→List (Fp p)→List (Fp p)
 | 0,_,_,_,V=>V
 | n+1,A,B,U,V=>if B.length=0 then V else qa m n B (dx false m B A.length [] A).2 V (f4 (-1) U (ee m (dx false m B A.length [] A).1 V))
def MI (N:Nat) (A B U V:List (Fp p)):Prop:=(U.length=1∧V.length=0∧B.length=N)∨(U.length<V.length∧B.length<A.length∧V.length+A.length=N+1)
theorem Gi {m:Fp p} (hm:Fld m) {N:Nat} {A B U V:List (Fp p)} (hA:Sk m A) (hB:Sk m B) (hU:Sk m U) (hV:Sk m V) (hN:N≤8) (hi:MI N A B U V) (h1:1≤B.length) :
 Sk m (ee m (dx false m B A.length [] A).1 V)∧(dx false m B A.length [] A).1.length+V.length≤9∧Sk m (f4 (-1) U (ee m (dx false m B A.length [] A).1 V))∧MI N B (dx false m B A.length [] A).2 V (f4 (-1) U (ee m (dx false m B A.length [] A).1 V)):=by
 have h0:=hm.mon.2;have hm1:=Pol.len_pos h0;obtain ⟨g1,g2,g3⟩:=ov false hm hB h1 A.length [] A (ba _) (Sk.nil m) hA;have q8:=g1.eight;have b8:=hB.eight
 have hP:∀n,(ee m (dx false m B A.length [] A).1 V).length≤n→n≤8→Sk m (ee m (dx false m B A.length [] A).1 V):=fun n h hn=>⟨kf _ _ _,by omega,fun c hc=>by
  have:=nk (N:=m.len-1) h0 (by omega) c hc; omega⟩
 rcases hi with ⟨u1,v0,bN⟩ | ⟨u1,v0,bN⟩
 ·obtain rfl:V=[]:=d8.1 v0
  have e0:ee m (dx false m B A.length [] A).1 []=[]:=by unfold ee; rw [if_pos (.inr rfl)]
  rw [e0];have e1:=Dg (k:=-1) hU.trim (Y:=([]:List (Fp p))) (by rw [u1]; exact Nat.zero_lt_one)
  exact ⟨Sk.nil m,by rw [cw]; omega,hU.plus h0 (Sk.nil m) (-1),.inr ⟨by rw [e1,u1]; exact Nat.zero_lt_one,g3,by rw [e1]; omega⟩⟩
 ·have e1:=a60 hm hA hB h1 (by omega)
  have e2:=zd hm g1.trim hV.trim g1.res hV.res (by omega) (by omega)
  have hP':=hP _ (ba _) (by omega)
  have e3:=Bt (k:=-1) (X:=U) hP'.trim (fun y=>aah) (by omega)
  exact ⟨hP',by omega,hU.plus h0 hP' (-1),.inr ⟨by omega,g3,by omega⟩⟩
theorem Tk {m:Fp p} (hm:Fld m) {N:Nat} (hN:N≤8) (hN1:1≤N):∀(n:Nat) (A B U V:List (Fp p)),B.length≤n→Sk m A→Sk m B→Sk m U→Sk m V→MI N A B U V →
 Sk m (qa m n A B U V)∧(qa m n A B U V).length+(gf m n A B).length=N+1∧1≤(qa m n A B U V).length
 | 0,A,B,U,V,hn,hA,hB,hU,hV,hi=>by
  rcases hi with ⟨u1,v0,bN⟩ | ⟨u1,v0,bN⟩
  ·omega
  ·exact ⟨hV,bN,by show 1≤V.length; omega⟩
 | n+1,A,B,U,V,hn,hA,hB,hU,hV,hi=>by
  unfold qa gf
  by_cases h0:B.length=0
  ·rw [if_pos h0,if_pos h0]
   rcases hi with ⟨u1,v0,bN⟩ | ⟨u1,v0,bN⟩
   ·omega
   ·exact ⟨hV,bN,by omega⟩
  ·rw [if_neg h0,if_neg h0]
   obtain ⟨g1,g2,g3⟩:=ov false hm hB (by omega) A.length [] A (ba _) (Sk.nil m) hA
   obtain ⟨k1,k2,k3,k4⟩:=Gi hm hA hB hU hV hN hi (by omega)
   exact Tk hm hN hN1 n _ _ _ _ (by omega) hB g2 hV k3 k4
theorem Ru:(1:Fp p)≠0:=fun h=>by
 have e:(1:Fp p).len=1:=Pol.len_one;rw [h,Pol.len_zero] at e;cases e
noncomputable def Cz (m:Fp p) (F G:List (Fp p)):List (Fp p):=qa m G.length F G (dj 1 0) []
noncomputable def lmX (m:Fp p) (F G:List (Fp p)):List (Fp p):=ee m (Cz m F G) F
theorem As {m:Fp p} (hm:Fld m):Sk m (dj (1:Fp p) 0):=⟨xj Ru 0,by rw [ej]; omega,fun c hc=>by
 unfold dj at hc;rw [uw,eh] at hc;rw [cl.1 hc];have:=hm.two;have:(1:Fp p).len=1:=Pol.len_one;omega⟩
theorem Tn {m:Fp p} (hm:Fld m) {F G:List (Fp p)} (hF:Sk m F) (hG:Sk m G) (f1:1≤F.length) (g1:1≤G.length) :
 Sk m (Cz m F G)∧1≤(lmX m F G).length∧(lmX m F G).length+(gf m G.length F G).length=F.length+G.length∧1≤(gf m G.length F G).length∧(∀c∈lmX m F G,c.len<m.len)∧(lmX m F G).length≤16∧(Cz m F G).length+F.length=(lmX m F G).length+1:=by
 have h0:=hm.mon.2;have hm1:=Pol.len_pos h0;obtain ⟨k1,k2,k3⟩:=Tk hm hG.eight g1 G.length F G (dj 1 0) [] (ba _) hF hG (As hm) (Sk.nil m) (.inl ⟨ej _ _,rfl,rfl⟩);obtain ⟨_,k5⟩:=xp hm G.length F G (ba _) hF hG (.inl f1);have e:=zd hm k1.trim hF.trim k1.res hF.res k3 f1;have f8:=hF.eight;have c8:=k1.eight;unfold lmX Cz;exact ⟨k1,by omega,by omega,k5,fun c hc=>by have:=nk (N:=m.len-1) h0 (by omega) c hc; omega,by omega,by omega⟩
theorem Es {m:Fp p} (hm:Fld m) {X:List (Fp p)} (hX:km X) (hr:∀c∈X,c.len<m.len) (h1:1≤X.length):(gr m X).length=X.length:=by
 have h0:=hm.mon.2;have hx:cS X (X.length-1)≠0:=hX _ (by omega)
 have hxl:(cS X (X.length-1)).len<m.len:=by
  rw [←rp (show X.length-1<X.length by omega)]; exact hr _ (bj _)
 have hi:ji m (cS X (X.length-1))≠0:=fun h=>by
  have e:=Nf hm (x:=1) (by have:=hm.two; have:(1:Fp p).len=1:=Pol.len_one; omega) hx hxl
  rw [h,Gq.mul_zero,Pol.zero_mod h0,Gq.zero_mul,Pol.zero_mod h0] at e;exact Ru e.1.symm
 have hil:=ym h0 (cS X (X.length-1))
 have:=zd hm (xj hi 0) hX (fun c hc=>by
  unfold dj at hc;rw [uw,eh] at hc;rw [cl.1 hc]; exact hil) hr (by rw [ej]; omega) h1
 rw [ej] at this;unfold gr;omega
end
theorem a4k {O:ah} (hd:It O Fr false) (hpl:Ic O) (hby:Gl O) {p:Int} [IsP p] {m:Fp p} (hm:Fld m) {FD:D} {N:Nat} (hN:N≤8):∀(r:Nat) (X B U V:List (Fp p)),B.length≤r→Sk m X→Sk m B→Sk m U→Sk m V→MI N X B U V→∃W:List (Fp p),
 dn O 0 (.loop Zx_L0) ⟨[(1,.d (skD X)),(2,.d (skD B)),(3,.ptr 0 []),(7,.d FD),(8,.d (skD U)),(9,.d (skD V))],[.box false (ka m),.hole]⟩ =
  some (.exit 0,⟨[(1,.d (skD (gf m r X B))),(2,.d (skD ([]:List (Fp p)))),(3,.ptr 0 []),(7,.d FD),(8,.d (skD W)),(9,.d (skD (qa m r X B U V))),(17,(.d (.bool false)))],[.box false (ka m),.hole]⟩)
 | 0,X,B,U,V,hr,hX,hB,hU,hV,hi=>by
  obtain rfl:B=[]:=d8.1 (by omega)
  refine ⟨U,bt ?_⟩;show _=some (_,(⟨[(1,.d (skD X)),_,_,_,_,(9,.d (skD V)),_],_⟩:St));rw [show skD ([]:List (Fp p))=.sl .leaf [] from rfl];generalize skD X=XD at *;generalize skD U=UD at *;generalize skD V=VD at *;simp -implicitDefEqProofs [Zx_L0,ac]
 | r+1,X,B,U,V,hr,hX,hB,hU,hV,hi=>by
  by_cases h0:B.length=0
  ·obtain rfl:B=[]:=d8.1 h0
   have hg:gf m (r+1) X []=X:=by unfold gf; exact if_pos rfl
   have hg2:qa m (r+1) X [] U V=V:=by unfold qa; exact if_pos rfl
   rw [hg,hg2];refine ⟨U,bt ?_⟩;rw [show skD ([]:List (Fp p))=.sl .leaf [] from rfl];generalize skD X=XD at *;generalize skD U=UD at *;generalize skD V=VD at *;simp -implicitDefEqProofs [Zx_L0,ac]
  ·have hg:gf m (r+1) X B=gf m r B (dx false m B X.length [] X).2:=by
    conv=>lhs; unfold gf
    rw [if_neg h0]
   have hg2:qa m (r+1) X B U V=qa m r B (dx false m B X.length [] X).2 V (f4 (-1) U (ee m (dx false m B X.length [] X).1 V)):=by
    conv=>lhs; unfold qa
    rw [if_neg h0]
   have h5:=hm.five;obtain ⟨g1,g2,g3⟩:=ov false hm hB (by omega) X.length [] X (ba _) (Sk.nil m) hX
   obtain ⟨k1,k2,k3,k4⟩:=Gi hm hX hB hU hV hN hi (by omega)
   obtain ⟨W,ih⟩:=a4k hd hpl hby hm (FD:=FD) hN r B (dx false m B X.length [] X).2 V (f4 (-1) U (ee m (dx false m B X.length [] X).1 V)) (by omega) hB g2 hV k3 k4
   rw [←hg,←hg2] at ih;have e1:=hd p m X B hm hX hB (by omega)
   have e2:=hby p m (dx false m B X.length [] X).1 V hm.two (by omega) (fun c hc=>by have:=g1.res c hc; omega) (fun c hc=>by have:=hV.res c hc; omega) (by have:=g1.eight; omega) (by have:=hV.eight; omega)
   have e3:=hpl p m U (ee m (dx false m B X.length [] X).1 V) (-1) (by omega) (by omega) (by have:=hU.eight; omega) (by have:=k1.eight; omega) (fun c hc=>by have:=hU.res c hc; omega) (fun c hc=>by have:=k1.res c hc; omega)
   have hpos:0<B.length:=by omega
   have hB1:(B.map bw).length=B.length:=ap ..;have hfd:ka m=.st [.leaf,.leaf] [(D.int .i64 p),(D.sl .leaf (ab .i64 (row m)))]:=rfl;refine ⟨W,bm ?_ ih⟩;rw [show skD (f4 (-1) U (ee m (dx false m B X.length [] X).1 V))=.sl .leaf ((f4 (-1) U (ee m (dx false m B X.length [] X).1 V)).map bw) from rfl] at e3 ⊢;rw [show skD (ee m (dx false m B X.length [] X).1 V)=.sl .leaf ((ee m (dx false m B X.length [] X).1 V).map bw) from rfl] at e2 e3;rw [show skD (dx false m B X.length [] X).1=.sl .leaf ((dx false m B X.length [] X).1.map bw) from rfl] at e1 e2;rw [show skD (dx false m B X.length [] X).2=.sl .leaf ((dx false m B X.length [] X).2.map bw) from rfl] at e1 ⊢;rw [show skD U=.sl .leaf (U.map bw) from rfl] at e3 ⊢;rw [show skD V=.sl .leaf (V.map bw) from rfl] at e2 ⊢;rw [show skD X=.sl .leaf (X.map bw) from rfl,show skD B=.sl .leaf (B.map bw) from rfl,hfd] at e1 ⊢;rw [hfd] at e2 e3;generalize (f4 (-1) U (ee m (dx false m B X.length [] X).1 V)).map bw=D4 at *;generalize (ee m (dx false m B X.length [] X).1 V).map bw=D3 at *;generalize (dx false m B X.length [] X).1.map bw=D1 at *;generalize (dx false m B X.length [] X).2.map bw=D2 at *;generalize X.map bw=XD at *;generalize U.map bw=UD at *;generalize V.map bw=VD at *;generalize B.map bw=BD at *;generalize row m=Rm at *;simp -implicitDefEqProofs [Zx_L0,ac,hB1,hpos,e1,e2,e3]
def Xr (O:ah):Prop:=∀(p:Int) [IsP p] (m:Fp p) (X B:List (Fp p)),Fld m→Sk m X→Sk m B→1≤X.length→1≤B.length→ask O Fx [ka m,skD X,skD B]=some (skD (gr m (lmX m X B)))
theorem ad7 (hT:T Fx=some Zx) (hsi:wi (den T A)) (hd:It (den T A) Fr false) (hpl:Ic (den T A)) (hby:Gl (den T A)) (hmo:L4 (den T A)):Xr (den T A):=by
 intro p ip m X B hm hX hB x1 b1;have h5:=hm.five;obtain ⟨c1,c2,c3,c4,c5,c6,c7⟩:=Tn hm hX hB x1 b1;have e0:=hsi p (1:Fp p) 0 (by omega)
 rw [uz,show ab .i64 [1]=[.int .i64 1] from rfl] at e0;obtain ⟨W,e1⟩:=a4k (O:=den T A) hd hpl hby hm (FD:=skD X) hB.eight B.length X B (dj 1 0) [] (ba _) hX hB (As hm) (Sk.nil m) (.inl ⟨ej _ _,rfl,rfl⟩);rw [show qa m B.length X B (dj 1 0) []=Cz m X B from rfl] at e1;have e2:=hby p m (Cz m X B) X hm.two (by omega) (fun c hc=>by have:=c1.res c hc; omega) (fun c hc=>by have:=hX.res c hc; omega) (by have:=c1.eight; omega) (by have:=hX.eight; omega)
 rw [show ee m (Cz m X B) X=lmX m X B from rfl] at e2;have e3:=hmo p m (lmX m X B) hm c5 (by omega) c2
 have e00:((0:Nat):Int)=0:=rfl;have hfd:ka m=.st [.leaf,.leaf] [(D.int .i64 p),(D.sl .leaf (ab .i64 (row m)))]:=rfl;rw [e00] at e0;rw [show skD (gr m (lmX m X B))=.sl .leaf ((gr m (lmX m X B)).map bw) from rfl] at e3 ⊢;rw [show skD (lmX m X B)=.sl .leaf ((lmX m X B).map bw) from rfl] at e2 e3;rw [show skD (Cz m X B)=.sl .leaf ((Cz m X B).map bw) from rfl] at e1 e2;rw [show skD (gf m B.length X B)=.sl .leaf ((gf m B.length X B).map bw) from rfl] at e1;rw [show skD (dj (1:Fp p) 0)=.sl .leaf ((dj (1:Fp p) 0).map bw) from rfl] at e0 e1;rw [show skD W=.sl .leaf (W.map bw) from rfl,show skD ([]:List (Fp p))=.sl .leaf [] from rfl] at e1;rw [show skD X=.sl .leaf (X.map bw) from rfl] at e1 e2 ⊢;rw [show skD B=.sl .leaf (B.map bw) from rfl,hfd] at e1 ⊢;rw [hfd] at e2 e3;refine bi hT rfl ?_;generalize (gr m (lmX m X B)).map bw=D1 at *;generalize (lmX m X B).map bw=D2 at *;generalize (Cz m X B).map bw=D3 at *;generalize (gf m B.length X B).map bw=D4 at *;generalize (dj (1:Fp p) 0).map bw=D5 at *;generalize W.map bw=D6 at *;generalize X.map bw=XD at *;generalize B.map bw=BD at *;generalize row m=Rm at *;simp -implicitDefEqProofs [Zx,Zx_B,e0,e1,e2,e3]
def L3 (O:ah):Prop:=∀(p:Int) [IsP p],ask O F4z []=some (eS (dj (1:Fp p) 0))
theorem abf (hT:T F4z=some Z4z) (h1:Au (den T A)):L3 (den T A):=by
 intro p ip;have e1:=h1 p
 have e2:skP (pd8 (dj (1:Fp p) 0))=pad (row (1:Fp p))::List.replicate 7 (pad []):=by
  show pad (row (1:Fp p))::(List.replicate 7 (0:Fp p)).map (fun a=>pad (row a))=_
  rw [fu,dq]
 have e3:(pad (row (1:Fp p))::List.replicate 7 (pad [])).map aw=z8.set 0 (D.arr 64 .leaf (ab .u8 (pad (row (1:Fp p))))):=rfl;rw [d9,e2,e3];refine bi hT rfl ?_;generalize pad (row (1:Fp p))=P1 at *;simp -implicitDefEqProofs [Z4z,Z4z_B,e1,z8,List.replicate]
theorem a0d {O:ah} (hdg:sj O) (hd:Hz O F53 false) (hti:rq O) (had:Cv O) {p:Int} [IsP p] {m:Fp p} (hm:Fld m) {bf br:Blk} {N:Nat} (hN:N≤8):∀(r:Nat) (X B U V:List (Fp p)),B.length≤r→Sk m X→Sk m B→Sk m U→Sk m V→MI N X B U V→∃W:List (Fp p),
 dn O 0 (.loop Z4y_L0) ⟨[(0,(.d (.int .i64 p))),(5,.ptr 0 []),(6,.ptr 1 []),(8,.ptr 3 []),(10,.ptr 4 []),(11,.ptr 5 []),(12,.ptr 6 []),(13,.ptr 7 [])],[.box false (D.arr 64 .leaf (ab .u8 (pad (row m)))),bf,.hole,br,.box false (.arr 8 (.arr 64 .leaf) ((skP (pd8 X)).map aw)),.box false (.arr 8 (.arr 64 .leaf) ((skP (pd8 B)).map aw)),.box false (.arr 8 (.arr 64 .leaf) ((skP (pd8 U)).map aw)),.box false (.arr 8 (.arr 64 .leaf) ((skP (pd8 V)).map aw)),.hole,.hole,.hole,.hole,.hole]⟩ =
  some (.exit 0,⟨[(0,(.d (.int .i64 p))),(5,.ptr 0 []),(6,.ptr 1 []),(8,.ptr 3 []),(10,.ptr 4 []),(11,.ptr 5 []),(12,.ptr 6 []),(13,.ptr 7 []),(41,(.d (.bool false)))],[.box false (D.arr 64 .leaf (ab .u8 (pad (row m)))),bf,.hole,br,.box false (.arr 8 (.arr 64 .leaf) ((skP (pd8 (gf m r X B))).map aw)),.box false (.arr 8 (.arr 64 .leaf) ((skP (pd8 ([]:List (Fp p)))).map aw)),.box false (.arr 8 (.arr 64 .leaf) ((skP (pd8 W)).map aw)),.box false (.arr 8 (.arr 64 .leaf) ((skP (pd8 (qa m r X B U V))).map aw)),.hole,.hole,.hole,.hole,.hole]⟩)
 | 0,X,B,U,V,hr,hX,hB,hU,hV,hi=>by
  have h5:=hm.five;obtain rfl:B=[]:=d8.1 (by omega)
  have e1:=hdg p m [] hm.mon.2 (by omega) hB
  rw [d9,cw] at e1;refine ⟨U,bt ?_⟩;show _=some (_,(⟨_,[_,_,_,_,.box false (.arr 8 (.arr 64 .leaf) ((skP (pd8 X)).map aw)),_,_,.box false (.arr 8 (.arr 64 .leaf) ((skP (pd8 V)).map aw)),_,_,_,_,_]⟩:St));generalize (skP (pd8 X)).map aw=XD at *;generalize (skP (pd8 U)).map aw=UD at *;generalize (skP (pd8 V)).map aw=VD at *;generalize (skP (pd8 ([]:List (Fp p)))).map aw=BD at *;generalize pad (row m)=Pm at *;simp -implicitDefEqProofs [Z4y_L0,ac,e1]
 | r+1,X,B,U,V,hr,hX,hB,hU,hV,hi=>by
  have h5:=hm.five;have e1:=hdg p m B hm.mon.2 (by omega) hB
  rw [d9] at e1
  by_cases h0:B.length=0
  ·obtain rfl:B=[]:=d8.1 h0
   have hg:gf m (r+1) X []=X:=by unfold gf; exact if_pos rfl
   have hg2:qa m (r+1) X [] U V=V:=by unfold qa; exact if_pos rfl
   rw [hg,hg2];rw [cw] at e1;refine ⟨U,bt ?_⟩;generalize (skP (pd8 X)).map aw=XD at *;generalize (skP (pd8 U)).map aw=UD at *;generalize (skP (pd8 V)).map aw=VD at *;generalize (skP (pd8 ([]:List (Fp p)))).map aw=BD at *;generalize pad (row m)=Pm at *;simp -implicitDefEqProofs [Z4y_L0,ac,e1]
  ·have hg:gf m (r+1) X B=gf m r B (dx false m B X.length [] X).2:=by
    conv=>lhs; unfold gf
    rw [if_neg h0]
   have hg2:qa m (r+1) X B U V=qa m r B (dx false m B X.length [] X).2 V (f4 (-1) U (ee m (dx false m B X.length [] X).1 V)):=by
    conv=>lhs; unfold qa
    rw [if_neg h0]
   obtain ⟨g1,g2,g3⟩:=ov false hm hB (by omega) X.length [] X (ba _) (Sk.nil m) hX
   obtain ⟨k1,k2,k3,k4⟩:=Gi hm hX hB hU hV hN hi (by omega)
   obtain ⟨W,ih⟩:=a0d hdg hd hti had hm (bf:=bf) (br:=br) hN r B (dx false m B X.length [] X).2 V (f4 (-1) U (ee m (dx false m B X.length [] X).1 V)) (by omega) hB g2 hV k3 k4
   rw [←hg,←hg2] at ih;have e2:=hd p m X B hm hX hB (by omega)
   have e3:=hti p m (dx false m B X.length [] X).1 V hm g1 hV k2;have e4:=had p U (ee m (dx false m B X.length [] X).1 V) (-1) (by omega) (by omega) hU.eight k1.eight (fun c hc=>by have:=hU.res c hc; omega) (fun c hc=>by have:=k1.res c hc; omega)
   rw [show (B.length:Int)-1=((B.length-1:Nat):Int) by omega] at e1
   have hf1:=cm (skP (pd8 (dx false m B X.length [] X).1));have hf2:=cm (skP (pd8 (dx false m B X.length [] X).2));have hf3:=cm (skP (pd8 (ee m (dx false m B X.length [] X).1 V)));have hf4:=cm (skP (pd8 (f4 (-1) U (ee m (dx false m B X.length [] X).1 V))));rw [d9,d9,d9,d9] at e2;rw [d9,d9,d9] at e3;rw [d9,d9,d9] at e4;refine ⟨W,bm ?_ ih⟩;generalize (skP (pd8 (f4 (-1) U (ee m (dx false m B X.length [] X).1 V)))).map aw=D4 at *;generalize (skP (pd8 (ee m (dx false m B X.length [] X).1 V))).map aw=D3 at *;generalize (skP (pd8 (dx false m B X.length [] X).1)).map aw=D1 at *;generalize (skP (pd8 (dx false m B X.length [] X).2)).map aw=D2 at *;generalize (skP (pd8 X)).map aw=XD at *;generalize (skP (pd8 U)).map aw=UD at *;generalize (skP (pd8 V)).map aw=VD at *;generalize (skP (pd8 B)).map aw=BD at *;generalize pad (row m)=Pm at *;generalize B.length-1=b1 at *;simp -implicitDefEqProofs [Z4y_L0,ac,e1,e2,e3,e4,hf1,hf2,hf3,hf4]
noncomputable def smD {p:Int} [IsP p] (m:Fp p) (X B:List (Fp p)):D:=if (lmX m X B).length≤8 then .tup [eS (gr m (lmX m X B)),(D.bool true)] else .tup [eS ([]:List (Fp p)),(D.bool false)]
def Sn (O:ah):Prop:=∀(p:Int) [IsP p] (m:Fp p) (X B:List (Fp p)),Fld m→Sk m X→Sk m B→1≤X.length→1≤B.length→ask O F4y [(D.int .i64 p),(D.arr 64 .leaf (ab .u8 (pad (row m)))),eS X,eS B]=some (smD m X B)
theorem aaw (hT:T F4y=some Z4y) (hon:L3 (den T A)) (hrd:L9 (den T A)) (hdg:sj (den T A)) (hd:Hz (den T A) F53 false) (hti:rq (den T A)) (had:Cv (den T A)) (hmo:Ch (den T A)):Sn (den T A):=by
 intro p ip m X B hm hX hB x1 b1;have h5:=hm.five;have h0:=hm.mon.2;obtain ⟨c1,c2,c3,c4,c5,c6,c7⟩:=Tn hm hX hB x1 b1;obtain ⟨g1,g2⟩:=xp hm B.length X B (ba _) hX hB (.inl x1);have x8:=hX.eight;have b8:=hB.eight;have r1:=hdg p m X h0 (by omega) hX
 have r2:=hdg p m B h0 (by omega) hB
 have r3:=hrd p m X B hm hX hB (.inl x1);have r4:=hdg p m (gr m (gf m B.length X B)) h0 (by omega) (g1.mon h0)
 rw [Es hm g1.trim g1.res g2] at r4;have w1:IntKind.i64.wrap ((X.length:Int)-1+((B.length:Int)-1))=(X.length:Int)-1+((B.length:Int)-1):=w64 (by omega)
 have w2:IntKind.i64.wrap ((X.length:Int)-1+((B.length:Int)-1)-(((gf m B.length X B).length:Int)-1))=((lmX m X B).length:Int)-1:=(w64 (by omega)).trans (by omega)
 have z0:(skP (pd8 ([]:List (Fp p)))).map aw=z8:=z8_eq.symm;have hf4:=cm (skP (pd8 (gr m (gf m B.length X B))));unfold smD
 by_cases h:(lmX m X B).length≤8
 ·rw [if_pos h]
  have hlt:¬ 7<((lmX m X B).length:Int)-1:=by omega
  have e1:=hon p;obtain ⟨W,e2⟩:=a0d (O:=den T A) hdg hd hti had hm (bf:=.box false (.arr 8 (.arr 64 .leaf) ((skP (pd8 X)).map aw))) (br:=.box false (.arr 8 (.arr 64 .leaf) z8)) hB.eight B.length X B (dj 1 0) [] (ba _) hX hB (As hm) (Sk.nil m) (.inl ⟨ej _ _,rfl,rfl⟩);rw [show qa m B.length X B (dj 1 0) []=Cz m X B from rfl,z0] at e2;have e3:=hti p m (Cz m X B) X hm c1 hX (by omega)
  rw [show ee m (Cz m X B) X=lmX m X B from rfl] at e3;have hsk:Sk m (lmX m X B):=⟨kf _ _ _,h,c5⟩;have e4:=hmo p m (lmX m X B) hm hsk c2;have hf1:=cm (skP (pd8 (dj (1:Fp p) 0)));have hf2:=cm (skP (pd8 (lmX m X B)));have hf3:=cm (skP (pd8 (gr m (lmX m X B))));rw [d9] at r1 r2 r4 e1;rw [d9,d9,d9] at r3 e3;rw [d9,d9] at e4;rw [d9,d9,d9];refine bi hT rfl ?_;generalize (skP (pd8 (gr m (lmX m X B)))).map aw=D1 at *;generalize (skP (pd8 (lmX m X B))).map aw=D2 at *;generalize (skP (pd8 (Cz m X B))).map aw=D3 at *;generalize (skP (pd8 (gr m (gf m B.length X B)))).map aw=D4 at *;generalize (skP (pd8 (gf m B.length X B))).map aw=D5 at *;generalize (skP (pd8 (dj (1:Fp p) 0))).map aw=D6 at *;generalize (skP (pd8 W)).map aw=D7 at *;generalize ((lmX m X B).length:Int)-1=n1 at *;generalize ((gf m B.length X B).length:Int)-1=n2 at *;generalize (X.length:Int)-1=n3 at *;generalize (B.length:Int)-1=n4 at *;generalize (skP (pd8 X)).map aw=XD at *;generalize (skP (pd8 B)).map aw=BD at *;generalize pad (row m)=Pm at *;simp -implicitDefEqProofs [Z4y,Z4y_B,ac,r1,r2,r3,r4,w1,w2,hlt,e1,e2,e3,e4,hf1,hf2,hf3,hf4,List.replicate]
 ·rw [if_neg h]
  have hlt:7<((lmX m X B).length:Int)-1:=by omega
  rw [d9] at r1 r2 r4;rw [d9,d9,d9] at r3;rw [d9,d9,d9,z0];refine bi hT rfl ?_;generalize (skP (pd8 (gr m (gf m B.length X B)))).map aw=D4 at *;generalize ((lmX m X B).length:Int)-1=n1 at *;generalize ((gf m B.length X B).length:Int)-1=n2 at *;generalize (X.length:Int)-1=n3 at *;generalize (B.length:Int)-1=n4 at *;generalize (skP (pd8 X)).map aw=XD at *;generalize (skP (pd8 B)).map aw=BD at *;generalize pad (row m)=Pm at *;simp -implicitDefEqProofs [Z4y,Z4y_B,ac,r1,r2,r3,r4,w1,w2,hlt,hf4,List.replicate]
open Classical in
noncomputable def lmC (p:Int) (l:List Int) (ls ks:List (List Int)):Int:=if eg p l [ls,ks]≠0 then eg p l [ls,ks] else if ls=List.replicate 8 (pad [])∨ks=List.replicate 8 (pad []) then 5 else 0
theorem Sd {p:Int} {l:List Int} {ls ks:List (List Int)} (h:lmC p l ls ks=0):a6k p l ls ks:=by
 unfold lmC at h
 split at h
 ·rename_i h0; exact absurd h h0
 ·rename_i h0; exact o9.1 (by simpa using h0)
noncomputable def lmT {p:Int} [IsP p] (m:Fp p) (F G:List (Fp p)):D:=if (lmX m F G).length≤8 then .tup [eS (gr m (lmX m F G)),(D.int .i64 0)] else .tup [eS ([]:List (Fp p)),(D.int .i64 3)]
open Classical in
noncomputable def lmD (p:Int) (l:List Int) (ls ks:List (List Int)):D:=
 if h:lmC p l ls ks=0 then
  haveI:IsP p:=(Sd h).choose
  lmT (ew p l) (az (ls.map (ew p))) (az (ks.map (ew p)))
 else .tup [da (List.replicate 8 (pad [])),(D.int .i64 (lmC p l ls ks))]
theorem Cp {p:Int} {l:List Int} {ls ks:List (List Int)} (h:¬ lmC p l ls ks=0):lmD p l ls ks=.tup [da (List.replicate 8 (pad [])),(D.int .i64 (lmC p l ls ks))]:=by unfold lmD; rw [dif_neg h]
theorem Eu {p:Int} [IsP p] {m:Fp p} {S R:List (Fp p)} (hm:Fld m) (hS:∀c∈S,c.len<m.len) (hR:∀c∈R,c.len<m.len) (h:lmC p (pad (row m)) (skP S) (skP R)=0):lmD p (pad (row m)) (skP S) (skP R)=lmT m (az S) (az R):=by
 have h5:=hm.five;unfold lmD;rw [dif_pos h,lh (by omega),kh (S:=S) (fun a ha=>by have:=hS a ha; omega),kh (S:=R) (fun a ha=>by have:=hR a ha; omega)]
theorem L2 {p:Int} [IsP p] {m:Fp p} {S R:List (Fp p)} (hm:Fld m) (hS8:S.length=8) (hR8:R.length=8) (hS:∀c∈S,c.len<m.len) (hR:∀c∈R,c.len<m.len) (hc:eg p (pad (row m)) [skP S,skP R]=0):lmC p (pad (row m)) (skP S) (skP R)=if (az S).length=0∨(az R).length=0 then 5 else 0:=by
 have h5:=hm.five;unfold lmC;rw [if_neg (by simpa using hc)]
 have h1:=qh hS8 (fun a ha=>by have:=hS a ha; omega)
 have h2:=qh hR8 (fun a ha=>by have:=hR a ha; omega)
 by_cases h:(az S).length=0∨(az R).length=0
 ·rw [if_pos h,if_pos (h.imp h1.2 h2.2)]
 ·rw [if_neg h,if_neg fun g=>h (g.imp h1.1 h2.1)]
theorem a7b (p:Int) (l:List Int) {ls ks:List (List Int)} (h8:Sk8 ls) (k8:Sk8 ks):∃(r:List (List Int)) (k:Int),lmD p l ls ks=.tup [da r,(D.int .i64 k)]∧Sh8 r:=by
 by_cases h:lmC p l ls ks=0
 ·obtain ⟨ip,m,S,R,rfl,rfl,rfl,hm,hS8,hR8,hS,hR⟩:=Mg h8 k8 (Sd h)
  have hi:=L2 hm hS8 hR8 hS hR (o9.2 (Sd h));rw [h] at hi;have hn:¬ ((az S).length=0∨(az R).length=0):=fun g=>by rw [if_pos g] at hi; cases hi
  rw [Eu hm hS hR h];obtain ⟨c1,c2,c3,c4,c5,c6,c7⟩:=Tn hm (Sk.of8 hS8 hS) (Sk.of8 hR8 hR) (by omega) (by omega)
  unfold lmT
  split
  ·rename_i h8'
   exact ⟨_,_,rfl,Qj (Sk.mon hm.mon.2 ⟨kf _ _ _,h8',c5⟩)⟩
  ·exact ⟨_,_,rfl,Qj (Sk.nil m)⟩
 ·rw [Cp h]; exact ⟨_,_,rfl,oz⟩
def kn (O:ah) (F:Nat):Prop:=∀(p:Int) (l:List Int) (ls ks:List (List Int)),g9 l→l.length=64→Sk8 ls→Sk8 ks→ask O F [(D.int .i64 p),(D.arr 64 .leaf (ab .u8 l)),da ls,da ks]=some (lmD p l ls ks)
theorem Mv (hT:T F9=some Z9) (hsc:fp (den T A) F27) (hfo:mi (den T A)) (hsk:sr (den T A)) (hto:wt (den T A)) (hd:Xr (den T A)):kn (den T A) F9:=by
 intro p l ls ks bl gl h8 k8;have e1:=hsc p l [ls,ks] bl gl (by intro x hx; simp at hx; rcases hx with rfl | rfl <;> assumption) (by simp)
 rw [show List.map da [ls,ks]=[da ls,da ks] from rfl] at e1;have hskd:da ls=.arr 8 (.arr 64 .leaf) (ls.map aw):=rfl;have hskk:da ks=.arr 8 (.arr 64 .leaf) (ks.map aw):=rfl;have eq1:=Qm (ls:=ls) (ks:=List.replicate 8 (pad [])) ⟨h8.2,fun l hl=>(h8.1 l hl).1⟩ oz
 have eq2:=Qm (ls:=ks) (ks:=List.replicate 8 (pad [])) ⟨k8.2,fun l hl=>(k8.1 l hl).1⟩ oz
 rw [show (List.replicate 8 (pad [])).map aw=z8 from rfl] at eq1 eq2;rw [hskd,hskk] at e1 ⊢
 by_cases hc:eg p l [ls,ks]=0
 ·rw [hc] at e1
  obtain ⟨ip,m,S,R,rfl,rfl,rfl,hm,hS8,hR8,hS,hR⟩:=Mg h8 k8 (o9.1 hc);have h5:=hm.five;have z1:=qh hS8 (fun a ha=>by have:=hS a ha; omega)
  have z2:=qh hR8 (fun a ha=>by have:=hR a ha; omega)
  rw [decide_eq_decide.2 z1] at eq1;rw [decide_eq_decide.2 z2] at eq2;have hi:=L2 hm hS8 hR8 hS hR hc
  by_cases h0:(az S).length=0∨(az R).length=0
  ·rw [if_pos h0] at hi
   rw [Cp (by rw [hi]; omega),hi,wq]
   by_cases hs0:(az S).length=0
   ·rw [decide_eq_true hs0] at eq1
    have key:∀(LS LR:List D) (Pm:List Int),ask (den T A) F27 [(D.int .i64 p),(D.arr 64 .leaf (ab .u8 Pm)),.sl (.arr 8 (.arr 64 .leaf)) [.arr 8 (.arr 64 .leaf) LS,.arr 8 (.arr 64 .leaf) LR]]=some (D.int .i64 0)→D.beq (.arr 8 (.arr 64 .leaf) (.arr 64 .leaf .int)) (.arr 8 (.arr 64 .leaf) LS) (.arr 8 (.arr 64 .leaf) z8)=some true →
     ask (den T A) F9 [(D.int .i64 p),(D.arr 64 .leaf (ab .u8 Pm)),.arr 8 (.arr 64 .leaf) LS,.arr 8 (.arr 64 .leaf) LR]=some (.tup [.arr 8 (.arr 64 .leaf) z8,(D.int .i64 5)]):=by
     intro LS LR Pm f1 f2;refine bi hT rfl ?_;simp -implicitDefEqProofs [Z9,Z9_B,ac,f1,f2,List.replicate]
    exact key _ _ _ e1 eq1
   ·rw [decide_eq_false hs0] at eq1
    rw [decide_eq_true (show (az R).length=0 by omega)] at eq2
    refine bi hT rfl ?_;generalize (skP S).map aw=LS at *;generalize (skP R).map aw=LR at *;generalize pad (row m)=Pm at *;simp -implicitDefEqProofs [Z9,Z9_B,ac,e1,eq1,eq2,List.replicate]
  ·rw [if_neg h0] at hi
   rw [Eu hm hS hR hi];have hX:=Sk.of8 hS8 hS;have hB:=Sk.of8 hR8 hR;have x1:1≤(az S).length:=by omega
   have b1:1≤(az R).length:=by omega
   obtain ⟨c1,c2,c3,c4,c5,c6,c7⟩:=Tn hm hX hB x1 b1;have ml:=Es (X:=lmX m (az S) (az R)) hm (kf _ _ _) c5 c2;have e3:=hfo p m (by omega)
   have e4:=hsk p S hS8 (fun a ha=>by have:=hS a ha; omega)
   have e5:=hsk p R hR8 (fun a ha=>by have:=hR a ha; omega)
   have e6:=hd p m (az S) (az R) hm hX hB x1 b1
   have hmr:∀c∈gr m (lmX m (az S) (az R)),c.len≤64:=fun c hc=>by
    have h1:=Pol.len_pos hm.mon.2;have:=nk (N:=m.len-1) hm.mon.2 (by omega) c hc
    omega
   have e7:=hto p (gr m (lmX m (az S) (az R))) (by omega) hmr
   rw [decide_eq_false (show ¬ (az S).length=0 by omega)] at eq1
   rw [decide_eq_false (show ¬ (az R).length=0 by omega)] at eq2
   unfold Ct at e7;unfold lmT;rw [ml] at e7
   by_cases hl8:(lmX m (az S) (az R)).length≤8
   ·rw [if_pos hl8] at e7 ⊢
    have hf1:=cm (skP (pd8 (gr m (lmX m (az S) (az R)))));rw [d9];rw [show da (skP (pd8 (gr m (lmX m (az S) (az R)))))=.arr 8 (.arr 64 .leaf) ((skP (pd8 (gr m (lmX m (az S) (az R))))).map aw) from rfl] at e7;rw [show skD (az S)=.sl .leaf ((az S).map bw) from rfl] at e4 e6;rw [show skD (az R)=.sl .leaf ((az R).map bw) from rfl] at e5 e6;rw [show skD (gr m (lmX m (az S) (az R)))=.sl .leaf ((gr m (lmX m (az S) (az R))).map bw) from rfl] at e6 e7;rw [show da (skP S)=.arr 8 (.arr 64 .leaf) ((skP S).map aw) from rfl] at e4;rw [show da (skP R)=.arr 8 (.arr 64 .leaf) ((skP R).map aw) from rfl] at e5;refine bi hT rfl ?_;generalize (skP (pd8 (gr m (lmX m (az S) (az R))))).map aw=D1 at *;generalize (gr m (lmX m (az S) (az R))).map bw=D3 at *;generalize (az S).map bw=TS at *;generalize (az R).map bw=TR at *;generalize (skP S).map aw=LS at *;generalize (skP R).map aw=LR at *;generalize pad (row m)=Pm at *;simp -implicitDefEqProofs [Z9,Z9_B,ac,e1,eq1,eq2,e3,e4,e5,e6,e7,hf1,List.replicate]
   ·rw [if_neg hl8] at e7 ⊢
    rw [d9];rw [show da (skP (pd8 ([]:List (Fp p))))=.arr 8 (.arr 64 .leaf) ((skP (pd8 ([]:List (Fp p)))).map aw) from rfl] at e7;rw [←z8_eq] at e7 ⊢;have hfz:D.flats z8=true:=rfl;rw [show skD (az S)=.sl .leaf ((az S).map bw) from rfl] at e4 e6;rw [show skD (az R)=.sl .leaf ((az R).map bw) from rfl] at e5 e6;rw [show skD (gr m (lmX m (az S) (az R)))=.sl .leaf ((gr m (lmX m (az S) (az R))).map bw) from rfl] at e6 e7;rw [show da (skP S)=.arr 8 (.arr 64 .leaf) ((skP S).map aw) from rfl] at e4;rw [show da (skP R)=.arr 8 (.arr 64 .leaf) ((skP R).map aw) from rfl] at e5;refine bi hT rfl ?_;generalize (gr m (lmX m (az S) (az R))).map bw=D3 at *;generalize (az S).map bw=TS at *;generalize (az R).map bw=TR at *;generalize (skP S).map aw=LS at *;generalize (skP R).map aw=LR at *;generalize pad (row m)=Pm at *;simp -implicitDefEqProofs [Z9,Z9_B,ac,e1,eq1,eq2,e3,e4,e5,e6,e7,hfz,List.replicate]
 ·have hk1:lmC p l ls ks=eg p l [ls,ks]:=by unfold lmC; rw [if_pos hc]
  rw [Cp (by rw [hk1]; exact hc),hk1,wq]
  refine bi hT rfl ?_;generalize eg p l [ls,ks]=k at *;generalize ls.map aw=LD at *;generalize ks.map aw=KD at *;simp -implicitDefEqProofs [Z9,Z9_B,ac,e1,hc,List.replicate]
theorem Jh (hT:T F3q=some Z3q) (hsc:fp (den T A) F4k) (hdg:sj (den T A)) (hd:Sn (den T A)):kn (den T A) F3q:=by
 intro p l ls ks bl gl h8 k8;have e1:=hsc p l [ls,ks] bl gl (by intro x hx; simp at hx; rcases hx with rfl | rfl <;> assumption) (by simp)
 rw [show List.map da [ls,ks]=[da ls,da ks] from rfl] at e1;have hskd:da ls=.arr 8 (.arr 64 .leaf) (ls.map aw):=rfl;have hskk:da ks=.arr 8 (.arr 64 .leaf) (ks.map aw):=rfl;rw [hskd,hskk] at e1 ⊢
 by_cases hc:eg p l [ls,ks]=0
 ·rw [hc] at e1
  obtain ⟨ip,m,S,R,rfl,rfl,rfl,hm,hS8,hR8,hS,hR⟩:=Mg h8 k8 (o9.1 hc);have h5:=hm.five;have hX:=Sk.of8 hS8 hS;have hB:=Sk.of8 hR8 hR;have e2:=hdg p m (az S) hm.mon.2 (by omega) hX
  have e3:=hdg p m (az R) hm.mon.2 (by omega) hB
  rw [d9,sd hS8] at e2;rw [d9,sd hR8] at e3;have hi:=L2 hm hS8 hR8 hS hR hc
  by_cases h0:(az S).length=0∨(az R).length=0
  ·rw [if_pos h0] at hi
   rw [Cp (by rw [hi]; omega),hi,wq]
   by_cases hs0:(az S).length=0
   ·rw [hs0] at e2
    refine bi hT rfl ?_;generalize (skP S).map aw=LS at *;generalize (skP R).map aw=LR at *;generalize pad (row m)=Pm at *;simp -implicitDefEqProofs [Z3q,Z3q_B,ac,e1,e2,List.replicate]
   ·have hs1:¬ ((az S).length:Int)-1<0:=by omega
    rw [show (az R).length=0 by omega] at e3
    refine bi hT rfl ?_;generalize ((az S).length:Int)-1=sl at *;generalize (skP S).map aw=LS at *;generalize (skP R).map aw=LR at *;generalize pad (row m)=Pm at *;simp -implicitDefEqProofs [Z3q,Z3q_B,ac,e1,e2,e3,hs1,List.replicate]
  ·rw [if_neg h0] at hi
   rw [Eu hm hS hR hi];have hs1:¬ ((az S).length:Int)-1<0:=by omega
   have hr1:¬ ((az R).length:Int)-1<0:=by omega
   have e4:=hd p m (az S) (az R) hm hX hB (by omega) (by omega)
   rw [d9,d9,sd hS8,sd hR8] at e4;unfold smD at e4;unfold lmT
   by_cases hl8:(lmX m (az S) (az R)).length≤8
   ·rw [if_pos hl8] at e4 ⊢
    have hf1:=cm (skP (pd8 (gr m (lmX m (az S) (az R)))));rw [d9] at e4 ⊢;refine bi hT rfl ?_;generalize (skP (pd8 (gr m (lmX m (az S) (az R))))).map aw=D1 at *;generalize ((az S).length:Int)-1=sl at *;generalize ((az R).length:Int)-1=rl at *;generalize (skP S).map aw=LS at *;generalize (skP R).map aw=LR at *;generalize pad (row m)=Pm at *;simp -implicitDefEqProofs [Z3q,Z3q_B,ac,e1,e2,e3,e4,hs1,hr1,hf1,List.replicate]
   ·rw [if_neg hl8] at e4 ⊢
    rw [d9,←z8_eq] at e4 ⊢;have hfz:D.flats z8=true:=rfl;refine bi hT rfl ?_;generalize ((az S).length:Int)-1=sl at *;generalize ((az R).length:Int)-1=rl at *;generalize (skP S).map aw=LS at *;generalize (skP R).map aw=LR at *;generalize pad (row m)=Pm at *;simp -implicitDefEqProofs [Z3q,Z3q_B,ac,e1,e2,e3,e4,hs1,hr1,hfz,List.replicate]
 ·have hk1:lmC p l ls ks=eg p l [ls,ks]:=by unfold lmC; rw [if_pos hc]
  rw [Cp (by rw [hk1]; exact hc),hk1,wq]
  refine bi hT rfl ?_;generalize eg p l [ls,ks]=k at *;generalize ls.map aw=LD at *;generalize ks.map aw=KD at *;simp -implicitDefEqProofs [Z3q,Z3q_B,ac,e1,hc,List.replicate]
end Pe


namespace Pe
open Go Gq
variable {T:Nat→Option Fn} {A:ah}
section
variable {p:Int} [IsP p]
end
theorem aap {p:Int} {l:List Int} {ls:List (List Int)} (h8:Sk8 ls) (h:eg p l [ls]=0):∃(_:IsP p) (m:Fp p) (S:List (Fp p)),l=pad (row m)∧ls=skP S∧Fld m∧S.length=8∧(∀c∈S,c.len<m.len):=by
 unfold eg at h
 split at h
 ·rename_i g
  obtain ⟨ip,m,rfl,hm,hs⟩:=g;obtain ⟨S,rfl,hS⟩:=uh (hs ls (by simp))
  exact ⟨ip,m,S,rfl,rfl,hm,by have:=h8.2; rwa [ap] at this,hS⟩
 ·cases h
theorem aa3 {p:Int} {l:List Int} {lss:List (List (List Int))} (h:eg p l lss=0):∃_:IsP p,True:=by
 unfold eg at h
 split at h
 ·rename_i g
  obtain ⟨ip,-⟩:=g;exact ⟨ip,trivial⟩
 ·cases h
end Pe

namespace Pe
open Go Gq
section
variable {p:Int}
noncomputable def sg {m:Fp p}:Nat→Quo m→Quo m
 | 0,x=>x
 | k+1,x=>sg k (pw x p.toNat)
theorem Q9 [IsP p] {m:Fp p}:∀(k:Nat) (a:Fp p),Quo.mk m (du m k a)=sg k (Quo.mk m a)
 | 0,_=>rfl
 | k+1,a=>by
  show Quo.mk m (du m k (pw a p.toNat%m))=sg k (pw (Quo.mk m a) p.toNat);rw [Q9 k,Pol.mk_mod,Quo.mk_pow]
theorem U5 [IsP p] {m:Fp p}:pw (0:Quo m) p.toNat=0:=by
 have h:=IsP.pos (p:=p);have:p.toNat=(p.toNat-1)+1:=by omega
 rw [this];show pw (0:Quo m) (p.toNat-1)*0=0;exact Gq.mul_zero _
theorem tz [IsP p] {m:Fp p}:∀k,sg k (0:Quo m)=0
 | 0=>rfl
 | k+1=>by
  show sg k (pw (0:Quo m) p.toNat)=0;rw [U5,tz k]
theorem W8 {m:Fp p}:∀k,sg k (1:Quo m)=1
 | 0=>rfl
 | k+1=>by
  show sg k (pw (1:Quo m) p.toNat)=1;rw [Hm,W8 k]
section
variable {m:Fp p}
noncomputable def Rop (t0 t1 t2:Quo m) (X:Nat→Quo m):Nat→Quo m
 | 0=>X 0*t0
 | 1=>X 1*sg 1 t0+X 0*t1
 | n+2=>X (n+2)*sg (n+2) t0+X (n+1)*sg (n+1) t1+X n*sg n t2
noncomputable def e0:Nat→Quo m
 | 0=>1
 | _+1=>0
theorem alf (t0 t1 t2 a b c d e f g h i s u v:Quo m):t0*(a*s+b*u+c*v)+t1*(d*s+e*u+f*v)+t2*(g*s+h*u+i*v)=(t0*a+t1*d+t2*g)*s+(t0*b+t1*e+t2*h)*u+(t0*c+t1*f+t2*i)*v:=by
 have l:∀t a b c:Quo m,t*(a*s+b*u+c*v)=t*a*s+t*b*u+t*c*v:=fun t a b c=>bo [t,a,b,c,s,u,v] rfl
 have q:∀x y z w:Quo m,(x+y+z)*w=x*w+y*w+z*w:=fun x y z w=>bo [x,y,z,w] rfl
 have z:∀p1 p2 p3 q1 q2 q3 r1 r2 r3:Quo m,(p1+p2+p3)+(q1+q2+q3)+(r1+r2+r3)=(p1+q1+r1)+(p2+q2+r2)+(p3+q3+r3):=fun p1 p2 p3 q1 q2 q3 r1 r2 r3=>bo [p1,p2,p3,q1,q2,q3,r1,r2,r3] rfl
 rw [l,l,l,q,q,q,z]
theorem eight [IsP p] (t0 t1 t2 a b c d e f g h s u v:Quo m):t0*(a*s+b*u+c*v)+t1*(d*s+e*u+f*v)+t2*(g*s+h*u)=(t0*a+t1*d+t2*g)*s+(t0*b+t1*e+t2*h)*u+(t0*c+t1*f)*v:=by
 have:=alf t0 t1 t2 a b c d e f g h 0 s u v;simp only [Gq.zero_mul,Gq.mul_zero,Gq.add_zero] at this;exact this
noncomputable def Rk (t0 t1 t2:Quo m):Nat→Nat→Quo m
 | 0=>e0
 | k+1=>Rop t0 t1 t2 (Rk t0 t1 t2 k)
noncomputable def adq (t0 t1 t2:Quo m):(Nat→Quo m)→Nat→Nat→Nat→Quo m
 | _,_,0,_=>0
 | c,k,n+1,i=>c 0*Rk t0 t1 t2 k i+adq t0 t1 t2 (fun j=>c (j+1)) (k+1) n i
end
noncomputable def qcf (m:Fp p) (A:List (Fp p)) (n:Nat):Quo m:=Quo.mk m (cS A n)
theorem abm (m:Fp p) (n:Nat):qcf m [] n=0:=rfl
theorem y7 {m:Fp p} {A:List (Fp p)} {n:Nat} (h:A.length≤n):qcf m A n=0:=by unfold qcf; rw [ur h]; rfl
theorem a6b [IsP p] {m:Fp p} (hm:m≠0) {A B:List (Fp p)} {n:Nat} (hA:(cS A n).len<m.len) (hB:(cS B n).len<m.len) (h:qcf m A n=qcf m B n):cS A n=cS B n:=by
 have e:=(Pol.mod_eq_iff hm).2 h
 rwa [Pol.mod_small hA,Pol.mod_small hB] at e
theorem a1s (m:Fp p) (k n:Nat):qcf m (List.replicate k 0) n=0:=by
 unfold qcf cS;rw [gk]
 split <;> rfl
theorem adi [IsP p] {m x:Fp p} (hm:Fld m) {b:List (Fp p)} (hb:∀c∈b,c.len<m.len) {i n:Nat} {Q:List (Fp p)} (h:i+b.length≤Q.length):qcf m (lf m x i 0 b Q) n=qcf m Q n+(if i≤n then Quo.mk m x*sg i (qcf m b (n-i)) else 0):=by
 have h1:=Pol.len_pos hm.mon.2;unfold qcf;rw [T7 0 b Q (by omega),kb]
 have hl:(cS b (n-i)).len<m.len:=by
  have:=Do (A:=b) (N:=m.len-1) (fun c hc=>by have:=hb c hc; omega) (n-i)
  omega
 by_cases h0:i≤n∧n<i+b.length
 ·rw [if_pos h0,if_pos h0.1,Quo.mk_add,Pol.mk_mod,Quo.mk_mul,z9 hm i hl,Q9]
 ·rw [if_neg h0]
  split
  ·rename_i h2
   rw [ur (A:=b) (by omega)]
   show _=Quo.mk m (cS Q n)+Quo.mk m x*sg i 0;rw [tz,Gq.mul_zero,Gq.add_zero]
  ·exact (Gq.add_zero _).symm
theorem a0e [IsP p] {m a:Fp p} (hm:Irr m):∀l:List (Fp p),Dv m (l.foldr (fun c r=>(a-c)*r) 1)→∃c∈l,Dv m (a-c)
 | [],h=>by
  have h0:Dv m 1:=h;have h1:=h0.len Pol.one_ne;have:=hm.len;rw [Pol.len_one] at h1;omega
 | c::l,h=>by
  rcases hm.prime (show Dv m ((a-c)*_) from h) with h1 | h1
  ·exact ⟨c,by simp,h1⟩
  ·obtain ⟨d,hd,h2⟩:=a0e hm l h1
   exact ⟨d,by simp [hd],h2⟩
theorem Td {m:Fp p} {n:Int} (h:p=n):(ic n:Quo m)=0:=by
 subst h;exact agf
theorem ab0 [IsP p] {m a:Fp p} (h2:2≤m.len) (hi:Irr m) (hal:a.len<m.len) (h:pw (Quo.mk m a) p.toNat=Quo.mk m a):a.len≤1:=by
 have main:∀l:List (Fp p),(∀c∈l,c.len≤1)→l.foldr (fun c r=>(Quo.mk m a-Quo.mk m c)*r) (1:Quo m)=0→a.len≤1:=by
  intro l hl hz
  have e:∀l:List (Fp p),Quo.mk m (l.foldr (fun c r=>(a-c)*r) 1)=l.foldr (fun c r=>(Quo.mk m a-Quo.mk m c)*r) (1:Quo m):=by
   intro l
   induction l with
   | nil=>rfl
   | cons c l ih=>
    show Quo.mk m ((a-c)*_)=(Quo.mk m a-Quo.mk m c)*_;rw [Quo.mk_mul,Quo.mk_sub,ih]
  obtain ⟨c,hc,hd⟩:=a0e (a:=a) hi l (og.2 ((e l).trans hz));have hcl:=hl c hc
  have hz:a-c=0:=by
   rcases Classical.em (a-c=0) with h0 | h0
   ·exact h0
   ·have:=hd.len h0
    have:(a-c).len≤m.len-1:=by
     rw [Gq.sub_eq];exact Pol.len_add_le (by omega) (by rw [Pol.len_neg]; omega)
    omega
  have:a=c:=by
   have h3:a=(a-c)+c:=bo [a,c] rfl;rw [h3,hz,Gq.zero_add]
  rw [this]; exact hcl
 have c0:(0:Fp p).len≤1:=by rw [Pol.len_zero]; omega
 have c1:(1:Fp p).len≤1:=by rw [Pol.len_one]; omega
 have cs:∀c:Fp p,c.len≤1→(c+1).len≤1:=fun c hc=>Pol.len_add_le hc c1
 have k0:∀c:Fp p,c=0→c.len≤1:=fun c hc=>by rw [hc]; exact c0
 rcases IsP.h (p:=p) with hp | hp | hp | hp
 ·have hn:p.toNat=2:=by omega
  rw [hn] at h;refine main [0,1] (by intro c hc; simp at hc; rcases hc with rfl | rfl <;> assumption) ?_
  have h':Quo.mk m a^2=Quo.mk m a:=h;show (Quo.mk m a-0)*((Quo.mk m a-1)*1)=0;generalize Quo.mk m a=y at h';have e:(y-0)*((y-1)*1)=y^2-y:=bo [y] rfl;rw [e,h'];exact bo [y] rfl
 ·have hn:p.toNat=3:=by omega
  have hz:=Td (m:=m) hp;rw [hn] at h;refine main [0,1,1+1] (by intro c hc; simp at hc; rcases hc with rfl | rfl | rfl <;> first | exact c0 | exact c1 | exact cs _ c1 | exact cs _ (cs _ c1) | exact cs _ (cs _ (cs _ c1)) | exact cs _ (cs _ (cs _ (cs _ c1))) | exact cs _ (cs _ (cs _ (cs _ (cs _ c1))))) ?_
  have h':Quo.mk m a^3=Quo.mk m a:=h;show (Quo.mk m a-0)*((Quo.mk m a-1)*((Quo.mk m a-(1+1))*1))=0;generalize Quo.mk m a=y at h';have e:(y-0)*((y-1)*((y-(1+1))*1))=y^3-y+ic 3*(y-y^2):=bo [y] rfl;rw [e,h',hz];exact bo [y] rfl
 ·have hn:p.toNat=5:=by omega
  have hz:=Td (m:=m) hp;rw [hn] at h;refine main [0,1,1+1,1+1+1,1+1+1+1] (by intro c hc; simp at hc; rcases hc with rfl | rfl | rfl | rfl | rfl <;> first | exact c0 | exact c1 | exact cs _ c1 | exact cs _ (cs _ c1) | exact cs _ (cs _ (cs _ c1)) | exact cs _ (cs _ (cs _ (cs _ c1))) | exact cs _ (cs _ (cs _ (cs _ (cs _ c1))))) ?_
  have h':Quo.mk m a^5=Quo.mk m a:=h;show (Quo.mk m a-0)*((Quo.mk m a-1)*((Quo.mk m a-(1+1))*((Quo.mk m a-(1+1+1))*((Quo.mk m a-(1+1+1+1))*1))))=0;generalize Quo.mk m a=y at h';have e:(y-0)*((y-1)*((y-(1+1))*((y-(1+1+1))*((y-(1+1+1+1))*1))))=y^5-y+ic 5*(ic 7*y^3+ic 5*y-ic 2*y^4-ic 10*y^2):=bo [y] rfl;rw [e,h',hz];exact bo [y] rfl
 ·have hn:p.toNat=7:=by omega
  have hz:=Td (m:=m) hp;rw [hn] at h;refine main [0,1,1+1,1+1+1,1+1+1+1,1+1+1+1+1,1+1+1+1+1+1] (by intro c hc; simp at hc; rcases hc with rfl | rfl | rfl | rfl | rfl | rfl | rfl <;> first | exact c0 | exact c1 | exact cs _ c1 | exact cs _ (cs _ c1) | exact cs _ (cs _ (cs _ c1)) | exact cs _ (cs _ (cs _ (cs _ c1))) | exact cs _ (cs _ (cs _ (cs _ (cs _ c1))))) ?_
  have h':Quo.mk m a^7=Quo.mk m a:=h;show (Quo.mk m a-0)*((Quo.mk m a-1)*((Quo.mk m a-(1+1))*((Quo.mk m a-(1+1+1))*((Quo.mk m a-(1+1+1+1))*((Quo.mk m a-(1+1+1+1+1))*((Quo.mk m a-(1+1+1+1+1+1))*1))))))=0;generalize Quo.mk m a=y at h';have e:(y-0)*((y-1)*((y-(1+1))*((y-(1+1+1))*((y-(1+1+1+1))*((y-(1+1+1+1+1))*((y-(1+1+1+1+1+1))*1))))))=y^7-y+ic 7*(ic 25*y^5+ic 232*y^3+ic 103*y-ic 3*y^6-ic 105*y^4-ic 252*y^2):=bo [y] rfl;rw [e,h',hz];exact bo [y] rfl
end
end Pe

namespace Pe
open Go Gq
section
variable {p:Int}
theorem Ez [IsP p] {m:Fp p}:∀(k:Nat) (x y:Quo m),sg k (x+y)=sg k x+sg k y
 | 0,_,_=>rfl
 | k+1,x,y=>by
  show sg k (pw (x+y) p.toNat)=sg k (pw x p.toNat)+sg k (pw y p.toNat);rw [Mj,Ez k]
theorem uy {m:Fp p}:∀(k:Nat) (x y:Quo m),sg k (x*y)=sg k x*sg k y
 | 0,_,_=>rfl
 | k+1,x,y=>by
  show sg k (pw (x*y) p.toNat)=sg k (pw x p.toNat)*sg k (pw y p.toNat);rw [Ae,uy k]
theorem Ia [IsP p] {m:Fp p} (c:Zp p):∀k,sg k (Quo.mk m (Pol.C c))=Quo.mk m (Pol.C c)
 | 0=>rfl
 | k+1=>by
  show sg k (pw (Quo.mk m (Pol.C c)) p.toNat)=_;rw [←Quo.mk_pow,←abc,Dj,Ia c k]
theorem T4 {m:Fp p} (i:Nat):∀(j:Nat) (x:Quo m),sg i (sg j x)=sg (i+j) x
 | 0,_=>rfl
 | j+1,x=>by
  show sg i (sg j (pw x p.toNat))=sg (i+j) (pw x p.toNat);exact T4 i j _
noncomputable def vq {m:Fp p} (X:Quo m):Nat→List (Fp p)→Quo m
 | _,[]=>0
 | i,c::cs=>Quo.mk m c*sg i X+vq X (i+1) cs
theorem ac9 [IsP p] {m x:Fp p} (hm:Fld m) (hx:x.len<m.len):∀(i:Nat) (A:List (Fp p)) (out:Fp p),Quo.mk m (svI m x i A out)=Quo.mk m out+vq (Quo.mk m x) i A
 | i,[],out=>(Gq.add_zero _).symm
 | i,c::cs,out=>by
  show Quo.mk m (svI m x (i+1) cs (out+c*du m (i%(m.len-1)) x%m))=_;rw [ac9 hm hx (i+1) cs,Quo.mk_add,Pol.mk_mod,Quo.mk_mul,z9 hm i hx,Q9];exact Gq.add_assoc _ _ _
noncomputable def uf [IsP p] (m:Fp p) (A:List (Fp p)) (x:Fp p):Quo m:=Quo.mk m (svI m x 0 A 0)
theorem Bb [IsP p] {m x:Fp p} (hm:Fld m) (hx:x.len<m.len) (A:List (Fp p)):uf m A x=vq (Quo.mk m x) 0 A:=by
 unfold uf;rw [ac9 hm hx,Quo.mk_zero,Gq.zero_add]
theorem a8o [IsP p] {m:Fp p} (X Y:Quo m):∀(A:List (Fp p)) (i:Nat),vq (X+Y) i A=vq X i A+vq Y i A
 | [],_=>(Gq.add_zero _).symm
 | c::cs,i=>by
  show Quo.mk m c*sg i (X+Y)+vq (X+Y) (i+1) cs=(Quo.mk m c*sg i X+vq X (i+1) cs)+(Quo.mk m c*sg i Y+vq Y (i+1) cs);rw [Ez,a8o X Y cs];exact bo [Quo.mk m c,sg i X,sg i Y,vq X (i+1) cs,vq Y (i+1) cs] rfl
theorem Jk [IsP p] {m:Fp p} (k:Zp p) (X:Quo m):∀(A:List (Fp p)) (i:Nat),vq (Quo.mk m (Pol.C k)*X) i A=Quo.mk m (Pol.C k)*vq X i A
 | [],_=>(Gq.mul_zero _).symm
 | c::cs,i=>by
  show Quo.mk m c*sg i (Quo.mk m (Pol.C k)*X)+vq (Quo.mk m (Pol.C k)*X) (i+1) cs=Quo.mk m (Pol.C k)*(Quo.mk m c*sg i X+vq X (i+1) cs);rw [uy,Ia,Jk k X cs];exact bo [Quo.mk m c,Quo.mk m (Pol.C k),sg i X,vq X (i+1) cs] rfl
theorem a6t {m:Fp p} (X:Quo m) (v:Fp p):∀(Q:List (Fp p)) (i j:Nat),j<Q.length→vq X i (ig Q j v)=vq X i Q+Quo.mk m v*sg (i+j) X
 | [],_,_,h=>by simp at h
 | c::cs,i,0,_=>by
  show Quo.mk m (c+v)*sg i X+vq X (i+1) cs=Quo.mk m c*sg i X+vq X (i+1) cs+Quo.mk m v*sg (i+0) X;rw [Quo.mk_add,kb];exact bo [Quo.mk m c,Quo.mk m v,sg i X,vq X (i+1) cs] rfl
 | c::cs,i,j+1,h=>by
  have e:ig (c::cs) (j+1) v=c::ig cs j v:=rfl;rw [e];show Quo.mk m c*sg i X+vq X (i+1) (ig cs j v)=Quo.mk m c*sg i X+vq X (i+1) cs+Quo.mk m v*sg (i+(j+1)) X;rw [a6t X v cs (i+1) j (by simpa using h),show i+1+j=i+(j+1) by omega]
  exact (Gq.add_assoc _ _ _).symm
theorem Ve {m:Fp p} (X:Quo m):∀(n i:Nat),vq X i (List.replicate n (0:Fp p))=0
 | 0,_=>rfl
 | n+1,i=>by
  show Quo.mk m 0*sg i X+vq X (i+1) (List.replicate n 0)=0;rw [Ve X n,Quo.mk_zero,Gq.zero_mul,Gq.add_zero]
theorem Wh [IsP p] {m c:Fp p} (hm:Fld m) (X:Quo m) {i:Nat}:∀(b:List (Fp p)) (k:Nat) (Q:List (Fp p)),(∀y∈b,y.len<m.len)→i+k+b.length≤Q.length→vq X 0 (lf m c i k b Q)=vq X 0 Q+Quo.mk m c*sg i (vq X k b)
 | [],_,Q,_,_=>by
  show vq X 0 Q=vq X 0 Q+Quo.mk m c*sg i 0;rw [tz,Gq.mul_zero,Gq.add_zero]
 | y::ys,k,Q,hb,h=>by
  rw [bv] at h;show vq X 0 (lf m c i (k+1) ys (ig Q (i+k) _))=vq X 0 Q+Quo.mk m c*sg i (Quo.mk m y*sg k X+vq X (k+1) ys);rw [Wh hm X ys (k+1) _ (fun z hz=>hb z (by simp [hz])) (by rw [pr]; omega),a6t X _ Q 0 (i+k) (by omega),Pol.mk_mod,Quo.mk_mul,z9 hm i (hb y (by simp)),Q9,bn,Ez,uy,T4]
  exact bo [vq X 0 Q,Quo.mk m c,sg i (Quo.mk m y),sg (i+k) X,sg i (vq X (k+1) ys)] rfl
theorem Vb [IsP p] {m c0 x:Fp p} (hm:Fld m) {A:List (Fp p)} (hA:∀y∈A,y.len<m.len) (hx:x.len<m.len) (h1:1≤A.length):uf m (ee m [c0,1] A) x=Quo.mk m c0*uf m A x+sg 1 (uf m A x):=by
 have h0:=hm.mon.2
 have e1:uf m (ee m [c0,1] A) x=uf m (rg m [c0,1] A) x:=by
  unfold ee uf;rw [if_neg (by simp only [bv]; omega),Aq h0]
 rw [e1,Bb hm hx,Bb hm hx];show vq _ 0 (lf m 1 1 0 A (lf m c0 0 0 A (List.replicate ([c0,1].length+A.length-1) 0)))=_;have hl:(List.replicate ([c0,(1:Fp p)].length+A.length-1) (0:Fp p)).length=A.length+1:=by rw [ch]; simp only [bv,cw]; omega
 rw [Wh hm _ A 0 _ hA (by rw [lm]; omega),Wh hm _ A 0 _ hA (by omega),Ve,Gq.zero_add,Quo.mk_one,Gq.one_mul]
 rfl
theorem Ul [IsP p] {m:Fp p} (hm:Fld m) {A:List (Fp p)} {a b:Fp p} (ha:a.len<m.len) (hb:b.len<m.len) (hk:uf m A b=0):uf m A (elim b a)=uf m A a:=by
 have hl:(elim b a).len≤m.len-1:=v9 (by omega) (by omega)
 rw [Bb hm (by omega),Bb hm ha]
 rw [Bb hm hb] at hk;unfold elim;rw [Quo.mk_add,Quo.mk_mul,a8o,Jk,hk,Gq.mul_zero,Gq.add_zero]
theorem T3 [IsP p] {m:Fp p} (hm:Fld m) {A:List (Fp p)}:∀(L:List (Fp p)) (x:Fp p),(∀b∈L,b.len<m.len∧uf m A b=0)→x.len<m.len→uf m A (df L x)=uf m A x
 | [],_,_,_=>rfl
 | b::bs,x,h,hx=>by
  have hb:=h b (by simp)
  have hl:(elim b x).len≤m.len-1:=v9 (by omega) (by omega)
  show uf m A (df bs (elim b x))=_;rw [T3 hm bs (elim b x) (fun c hc=>h c (by simp [hc])) (by omega),Ul hm hx hb.1 hb.2]
theorem Vk [IsP p] {m:Fp p} (hm:Fld m) {A:List (Fp p)} {x:Fp p} (hx:x.len<m.len) (k:Zp p) (hk:uf m A x=0):uf m A (Pol.C k*x)=0:=by
 have hl:(Pol.C k*x).len<m.len:=by
  have h2:=hm.two;have:(Pol.C k*x).len≤m.len-1:=Pol.len_le fun j hj=>by rw [Pol.c_Cmul,a69 (by omega),Gq.mul_zero]
  omega
 rw [Bb hm hl,Quo.mk_mul,Jk,←Bb hm hx,hk,Gq.mul_zero]
theorem In (a:Fp p) (L:List (Fp p)):(xf a L).length=L.length+1:=by
 rw [(vg a L).length_eq,bk,ap]; rfl
noncomputable def lsC [IsP p] (m v:Fp p):Fp p:=Pol.C (zp p (-1))*(du m 1 v*ji m v%m)
noncomputable def lsN [IsP p] (m:Fp p) (A:List (Fp p)) (x:Fp p):List (Fp p):=if (svI m x 0 A 0).len=0 then A else ee m [lsC m (svI m x 0 A 0),1] A
noncomputable def lsS [IsP p] (m:Fp p):List (Fp p)→List (Fp p)→List (Fp p)
 | [],A=>A
 | x::xs,A=>lsS m xs (lsN m A x)
theorem Jn [IsP p] {m v:Fp p} (hm:Fld m):(lsC m v).len<m.len:=by
 have h1:=Pol.len_mod (du m 1 v*ji m v) hm.mon.2;have:(lsC m v).len≤m.len-1:=Pol.len_le fun j hj=>by unfold lsC; rw [Pol.c_Cmul,a69 (by omega),Gq.mul_zero]
 omega
theorem ac6 [IsP p] {m v:Fp p} (hm:Fld m) (hv:v≠0) (hvl:v.len<m.len):Quo.mk m (lsC m v)*Quo.mk m v+sg 1 (Quo.mk m v)=0:=by
 have hi:=Ey hm hv hvl;unfold lsC;rw [Quo.mk_mul,Pol.mk_mod,Quo.mk_mul,Q9,Bp,t9,Pol.C_neg,Pol.C_one,Quo.mk_neg,Quo.mk_one];have e:-1*(sg 1 (Quo.mk m v)*Quo.mk m (ji m v))*Quo.mk m v+sg 1 (Quo.mk m v)=sg 1 (Quo.mk m v)*(1-Quo.mk m (ji m v)*Quo.mk m v):=bo [sg 1 (Quo.mk m v),Quo.mk m (ji m v),Quo.mk m v] rfl;rw [e,hi];exact bo [sg 1 (Quo.mk m v)] rfl
theorem ad6 [IsP p] {m v:Fp p} (hm:Fld m) (hv:v≠0) (hvl:v.len<m.len):du m 1 v*ji m v%m=pw v (p-1).toNat%m:=by
 have hp:=IsP.pos (p:=p);have h0:=hm.mon.2;have hi:=Ey hm hv hvl;refine (Pol.mod_eq_iff h0).2 ?_;rw [Quo.mk_mul,Q9,Quo.mk_pow];show pw (Quo.mk m v) p.toNat*_=_;rw [show p.toNat=(p-1).toNat+1 by omega]
 show pw (Quo.mk m v) (p-1).toNat*Quo.mk m v*Quo.mk m (ji m v)=_;rw [Gq.mul_assoc,Gq.mul_comm (Quo.mk m v),hi,Gq.mul_one]
structure LsI [IsP p] (m:Fp p) (A:List (Fp p)):Prop where
 trim:km A
 res:∀c∈A,c.len<m.len
 ex:∃L:List (Fp p),Desc (m.len-1) L∧(∀b∈L,uf m A b=0)∧A.length=L.length+1
theorem LsI.len [IsP p] {m:Fp p} {A:List (Fp p)} (hm:Fld m) (h:LsI m A):1≤A.length∧A.length≤5:=by
 obtain ⟨L,h1,_,h3⟩:=h.ex;have:=h1.length;have h5:=hm.five;have h2:=hm.two;omega
theorem LsI.sk [IsP p] {m:Fp p} {A:List (Fp p)} (hm:Fld m) (h:LsI m A):Sk m A:=⟨h.trim,by have:=h.len hm; omega,h.res⟩
theorem LsI.one [IsP p] {m:Fp p} (hm:Fld m):LsI m (dj (1:Fp p) 0):=⟨(As hm).trim,(As hm).res,[],Desc.nil _,(fun b hb=>by cases hb),by rw [ej]; rfl⟩
theorem M6 [IsP p] (c:Fp p):km [c,(1:Fp p)]:=fun n hn=>by
 have:n=1:=by simp at hn; omega
 subst this;exact Ru
theorem La [IsP p] {m c:Fp p} (hm:Fld m) (hc:c.len<m.len):∀y∈[c,(1:Fp p)],y.len<m.len:=fun y hy=>by
 have h2:=hm.two;have:(1:Fp p).len=1:=Pol.len_one;simp at hy;rcases hy with rfl | rfl <;> omega
theorem LsI.next [IsP p] {m x:Fp p} {A:List (Fp p)} (hm:Fld m) (h:LsI m A) (hx:x.len<m.len):LsI m (lsN m A x):=by
 have h0:=hm.mon.2;have h2:=hm.two;unfold lsN
 by_cases hv:(svI m x 0 A 0).len=0
 ·rw [if_pos hv]; exact h
 ·rw [if_neg hv]
  obtain ⟨L,hL,hK,hlen⟩:=h.ex;have hvl:(svI m x 0 A 0).len<m.len:=Cj h0 0 A 0 (by rw [Pol.len_zero]; omega)
  have hv0:svI m x 0 A 0≠0:=fun h=>hv (by rw [h,Pol.len_zero])
  have hcl:=Jn (v:=svI m x 0 A 0) hm;have hLl:∀b∈L,b.len<m.len:=fun b hb=>by have:=hL.le b hb; omega
  have step:∀y:Fp p,y.len<m.len→uf m (ee m [lsC m (svI m x 0 A 0),1] A) y=Quo.mk m (lsC m (svI m x 0 A 0))*uf m A y+sg 1 (uf m A y):=fun y hy=>Vb hm h.res hy (by omega)
  have kill:∀y:Fp p,y.len<m.len→uf m A y=0→uf m (ee m [lsC m (svI m x 0 A 0),1] A) y=0:=fun y hy hk=>by
   rw [step y hy,hk,Gq.mul_zero,tz,Gq.add_zero]
  have killx:uf m (ee m [lsC m (svI m x 0 A 0),1] A) x=0:=by
   rw [step x hx];exact ac6 hm hv0 hvl
  have hr:df L x≠0:=fun hz=>by
   have e:=T3 (A:=A) hm L x (fun b hb=>⟨hLl b hb,hK b hb⟩) hx
   rw [hz] at e
   have e2:uf m A (0:Fp p)=0:=by
    have:=Vk (A:=A) hm (x:=0) (by rw [Pol.len_zero]; omega)
    rw [Bb hm (by rw [Pol.len_zero]; omega)]
    have h3:=Jk (m:=m) (0:Zp p) (0:Quo m) A 0;rw [Gq.mul_zero] at h3;rw [Quo.mk_zero,h3];have:Quo.mk m (Pol.C (0:Zp p))=0:=by rw [Pol.C_zero]; rfl
    rw [this,Gq.zero_mul]
   rw [e2] at e;have e3:=(Pol.mod_eq_iff h0).2 (show Quo.mk m (svI m x 0 A 0)=Quo.mk m 0 from e.symm);rw [Pol.mod_small hvl,Pol.zero_mod h0] at e3;exact hv0 e3
  have hrl:(df L x).len≤m.len-1:=G2 hL.le (by omega)
  have hml:=u9 hr
  have killr:uf m (ee m [lsC m (svI m x 0 A 0),1] A) (Gq.mon (df L x))=0:=by
   refine Vk hm (by omega) _ ?_
   rw [T3 hm L x (fun b hb=>⟨hLl b hb,kill b (hLl b hb) (hK b hb)⟩) hx]
   exact killx
  refine ⟨kf _ _ _,fun c hc=>by have:=nk (N:=m.len-1) h0 (by omega) c hc; omega,v7 L x,zg hL (by omega),fun b hb=>?_,?_⟩
  ·rw [tv hr] at hb
   rcases wh hb with rfl | ⟨c,hc,rfl⟩
   ·exact killr
   ·have hcl':=hLl c hc
    rw [Ul hm hcl' (by omega) killr]
    exact kill c hcl' (hK c hc)
  ·rw [tv hr,In,zd hm (M6 _) h.trim (La hm hcl) h.res (by simp) (by omega)]
   simp only [bv,cw];omega
theorem LsI.all [IsP p] {m:Fp p} (hm:Fld m):∀(xs A:List (Fp p)),LsI m A→(∀x∈xs,x.len<m.len)→LsI m (lsS m xs A)
 | [],_,h,_=>h
 | x::xs,A,h,hx=>LsI.all hm xs _ (h.next hm (hx x (by simp))) fun y hy=>hx y (by simp [hy])
end
end Pe

namespace Pe
open Go Gq
variable {T:Nat→Option Fn} {A:ah}
section
variable {p:Int}
end
end Pe


namespace Pe
open Go Gq
variable {T:Nat→Option Fn} {A:ah}
end Pe


namespace Pe
open Go Gq
variable {T:Nat→Option Fn} {A:ah}
theorem Yx {O:ah} (hva:zv O) (hfr:we O) (hin:rh O) (hpr:n6 O) (hsc:u4 O) (hby:Gl O) {p:Int} [IsP p] {m:Fp p} (hm:Fld m) {xs:List (Fp p)} (hxs:∀x∈xs,x.len<m.len) (hl:xs.length<2000000):∀(r i:Nat) (B:List (Fp p)),i+r=xs.length→LsI m B →
 dn O 0 (.loop Zw_L0) ⟨[(2,.ptr 0 []),(5,.d (skD B)),(12,.d (.sl .leaf (xs.map bw))),(13,(.d (.int .i64 xs.length))),(14,(.d (.int .i64 i)))],[.box false (ka m),.hole,.hole,.hole]⟩ =
  some (.exit 0,⟨[(2,.ptr 0 []),(5,.d (skD (lsS m (xs.drop i) B))),(12,.d (.sl .leaf (xs.map bw))),(13,(.d (.int .i64 xs.length))),(14,(.d (.int .i64 xs.length))),(15,(.d (.bool false)))],[.box false (ka m),.hole,.hole,.hole]⟩)
 | 0,i,B,hi,hB=>by
  obtain rfl:i=xs.length:=by omega
  rw [ez];refine bt ?_;show _=some (_,(⟨[_,(5,.d (skD B)),_,_,_,_],_⟩:St));generalize skD B=BD at *;generalize xs.map bw=XD at *;simp -implicitDefEqProofs [Zw_L0,ac]
 | r+1,i,B,hi,hB=>by
  have h5:=hm.five;have h2:=hm.two;have h0:=hm.mon.2;have hlt:i<xs.length:=by omega
  have hx1:=hxs _ (bj hlt);have hBl:=hB.len hm;have hXL:(xs.map bw).length=xs.length:=ap ..;have hxi:∀h:i<(xs.map bw).length,(xs.map bw)[i]'h=(D.sl .leaf (ab .i64 (row xs[i]))):=fun h=>by rw [ca]
  have e1:=hva p m xs[i] B h2 (by omega) (by omega) (by omega) (fun c hc=>by have:=hB.res c hc; omega)
  have hvl:(svI m xs[i] 0 B 0).len<m.len:=Cj h0 0 B 0 (by rw [Pol.len_zero]; omega)
  have hvL:(row (svI m xs[i] 0 B 0)).length=(svI m xs[i] 0 B 0).len:=cg _;have w4:IntKind.i64.wrap ((i:Int)+1)=((i+1:Nat):Int):=(w64 (x:=(i:Int)+1) (by omega)).trans (by omega)
  have hlt':(i:Int)<xs.length:=by omega
  have ih:=Yx hva hfr hin hpr hsc hby hm hxs hl r (i+1) (lsN m B xs[i]) (by omega) (hB.next hm hx1)
  have hdr:lsS m (xs.drop i) B=lsS m (xs.drop (i+1)) (lsN m B xs[i]):=by rw [bu hlt]; rfl
  rw [hdr];have hfd:ka m=.st [.leaf,.leaf] [(D.int .i64 p),(D.sl .leaf (ab .i64 (row m)))]:=rfl
  by_cases hv:(svI m xs[i] 0 B 0).len=0
  ·have hn:lsN m B xs[i]=B:=by unfold lsN; rw [if_pos hv]
   rw [hn] at ih ⊢;refine bm ?_ ih;rw [show skD B=.sl .leaf (B.map bw) from rfl,hfd] at e1 ⊢;rw [hv] at hvL;generalize B.map bw=BD at *;generalize row (svI m xs[i] 0 B 0)=R1 at *;generalize row xs[i]=R2 at *;generalize xs.map bw=XD at *;generalize row m=Rm at *;simp -implicitDefEqProofs [Zw_L0,ac,hlt,hlt',hXL,hxi,e1,hvL,w4]
  ·have hn:lsN m B xs[i]=ee m [lsC m (svI m xs[i] 0 B 0),1] B:=by unfold lsN; rw [if_neg hv]
   rw [hn] at ih ⊢;have e2:=hfr p m (svI m xs[i] 0 B 0) 1 h2 (by omega) (by omega) (by omega)
   rw [z9 hm 1 hvl,show ((1:Nat):Int)=1 from rfl] at e2;have f1:=my h0 1 _ hvl;have e3:=hin p m (svI m xs[i] 0 B 0) h0 (by omega) (by omega)
   have f2:=ym h0 (svI m xs[i] 0 B 0);have e4:=hpr p m (du m 1 (svI m xs[i] 0 B 0)) (ji m (svI m xs[i] 0 B 0)) h0 (by omega) (by omega) (by omega)
   have f3:=Pol.len_mod (du m 1 (svI m xs[i] 0 B 0)*ji m (svI m xs[i] 0 B 0)) h0;have e5:=hsc p (-1) (du m 1 (svI m xs[i] 0 B 0)*ji m (svI m xs[i] 0 B 0)%m) (by omega) (by omega) (by omega)
   rw [show Pol.C (zp p (-1))*(du m 1 (svI m xs[i] 0 B 0)*ji m (svI m xs[i] 0 B 0)%m)=lsC m (svI m xs[i] 0 B 0) from rfl] at e5;have hcl:=Jn (v:=svI m xs[i] 0 B 0) hm;have e6:=hby p m [lsC m (svI m xs[i] 0 B 0),1] B h2 (by omega) (fun c hc=>by have:=La hm hcl c hc; omega) (fun c hc=>by have:=hB.res c hc; omega) (by simp) (by omega)
   rw [show skD [lsC m (svI m xs[i] 0 B 0),(1:Fp p)]=.sl .leaf [(D.sl .leaf (ab .i64 (row (lsC m (svI m xs[i] 0 B 0))))),(D.sl .leaf (ab .i64 (row (1:Fp p))))] from rfl,uz,show ab .i64 [1]=[.int .i64 1] from rfl] at e6;have hpos:0<(svI m xs[i] 0 B 0).len:=by omega
   refine bm ?_ ih;rw [show skD (ee m [lsC m (svI m xs[i] 0 B 0),1] B)=.sl .leaf ((ee m [lsC m (svI m xs[i] 0 B 0),1] B).map bw) from rfl] at e6 ⊢;rw [show skD B=.sl .leaf (B.map bw) from rfl,hfd] at e1 e6 ⊢;rw [hfd] at e2 e3 e4;generalize (ee m [lsC m (svI m xs[i] 0 B 0),1] B).map bw=ND at *;generalize row (lsC m (svI m xs[i] 0 B 0))=R3 at *;generalize row (du m 1 (svI m xs[i] 0 B 0)*ji m (svI m xs[i] 0 B 0)%m)=R4 at *;generalize row (du m 1 (svI m xs[i] 0 B 0))=R5 at *;generalize row (ji m (svI m xs[i] 0 B 0))=R6 at *;generalize row (svI m xs[i] 0 B 0)=R1 at *;generalize (svI m xs[i] 0 B 0).len=vl at *;generalize B.map bw=BD at *;generalize row xs[i]=R2 at *;generalize xs.map bw=XD at *;generalize row m=Rm at *;simp -implicitDefEqProofs [Zw_L0,ac,hlt,hlt',hXL,hxi,e1,hvL,hpos,e2,e3,e4,e5,e6,w4]
def Qs (O:ah):Prop:=∀(p:Int) [IsP p] (m:Fp p) (xs:List (Fp p)),Fld m→(∀x∈xs,x.len<m.len)→xs.length<2000000→ask O Fw [ka m,.sl .leaf (xs.map bw)]=some (skD (lsS m xs (dj 1 0)))
theorem a9f (hT:T Fw=some Zw) (hsi:wi (den T A)) (hva:zv (den T A)) (hfr:we (den T A)) (hin:rh (den T A)) (hpr:n6 (den T A)) (hsc:u4 (den T A)) (hby:Gl (den T A)):Qs (den T A):=by
 intro p ip m xs hm hxs hl;have e0:=hsi p (1:Fp p) 0 (by omega)
 rw [uz,show ab .i64 [1]=[.int .i64 1] from rfl,show ((0:Nat):Int)=0 from rfl] at e0;have e1:=Yx (O:=den T A) hva hfr hin hpr hsc hby hm hxs hl xs.length 0 (dj 1 0) (bn _) (.one hm);rw [dc,show ((0:Nat):Int)=0 from rfl] at e1;have hXL:(xs.map bw).length=xs.length:=ap ..;have hfd:ka m=.st [.leaf,.leaf] [(D.int .i64 p),(D.sl .leaf (ab .i64 (row m)))]:=rfl;rw [show skD (lsS m xs (dj 1 0))=.sl .leaf ((lsS m xs (dj 1 0)).map bw) from rfl,hfd] at e1 ⊢;rw [show skD (dj (1:Fp p) 0)=.sl .leaf ((dj (1:Fp p) 0).map bw) from rfl] at e0 e1;refine bi hT rfl ?_;generalize (lsS m xs (dj 1 0)).map bw=ND at *;generalize (dj (1:Fp p) 0).map bw=OD at *;generalize xs.map bw=XD at *;generalize row m=Rm at *;simp -implicitDefEqProofs [Zw,Zw_B,e0,e1,hXL]
theorem ae1 {p:Int} [IsP p] (c d:Fp p):(skP (pd8 [c,d])).map aw=(z8.set 0 (D.arr 64 .leaf (ab .u8 (pad (row c))))).set 1 (D.arr 64 .leaf (ab .u8 (pad (row d)))):=by
 have e2:skP (pd8 [c,d])=pad (row c)::pad (row d)::List.replicate 6 (pad []):=by
  show pad (row c)::pad (row d)::(List.replicate 6 (0:Fp p)).map (fun a=>pad (row a))=_
  rw [fu,dq]
 rw [e2];rfl
theorem V3 {O:ah} (hva:wl O) (hdg:iq O) (hpm:s9 O) (had:ja O) (h1:Au O) (hti:rq O) {p:Int} [IsP p] {m:Fp p} (hm:Fld m) {xs:List (Fp p)} (hxs:∀x∈xs,x.len<m.len) (hl:xs.length<2000000) {z:List D}:∀(r i:Nat) (B:List (Fp p)),i+r=xs.length→LsI m B →
 dn O 0 (.loop Z4v_L0) ⟨[(0,(.d (.int .i64 p))),(2,.d (.sl (.arr 64 .leaf) (xs.map di))),(4,.ptr 0 []),(6,.ptr 1 []),(7,.ptr 2 []),(8,(.d (.int .i64 i)))],[.box false (D.arr 64 .leaf (ab .u8 (pad (row m)))),.box false (.arr 8 (.arr 64 .leaf) z),.box false (.arr 8 (.arr 64 .leaf) ((skP (pd8 B)).map aw)),.hole,.hole,.hole]⟩ =
  some (.exit 0,⟨[(0,(.d (.int .i64 p))),(2,.d (.sl (.arr 64 .leaf) (xs.map di))),(4,.ptr 0 []),(6,.ptr 1 []),(7,.ptr 2 []),(8,(.d (.int .i64 xs.length))),(17,(.d (.bool false)))],[.box false (D.arr 64 .leaf (ab .u8 (pad (row m)))),.box false (.arr 8 (.arr 64 .leaf) z),.box false (.arr 8 (.arr 64 .leaf) ((skP (pd8 (lsS m (xs.drop i) B))).map aw)),.hole,.hole,.hole]⟩)
 | 0,i,B,hi,hB=>by
  obtain rfl:i=xs.length:=by omega
  rw [ez];refine bt ?_;show _=some (_,(⟨_,[_,_,.box false (.arr 8 (.arr 64 .leaf) ((skP (pd8 B)).map aw)),_,_,_]⟩:St));have hXL:(xs.map di).length=xs.length:=ap ..;generalize (skP (pd8 B)).map aw=BD at *;generalize xs.map di=XD at *;generalize pad (row m)=Pm at *;simp -implicitDefEqProofs [Z4v_L0,ac,hXL]
 | r+1,i,B,hi,hB=>by
  have h5:=hm.five;have h2:=hm.two;have h0:=hm.mon.2;have hp:2≤p:=by rcases IsP.h (p:=p) with h | h | h | h <;> omega
  have h7:=IsP.le (p:=p);have hlt:i<xs.length:=by omega
  have hx1:=hxs _ (bj hlt);have hBl:=hB.len hm;have hXL:(xs.map di).length=xs.length:=ap ..;have hxi:∀h:i<(xs.map di).length,(xs.map di)[i]'h=(D.arr 64 .leaf (ab .u8 (pad (row xs[i])))):=fun h=>by rw [ca]
  have e1:=hva p m xs[i] (pd8 B) h2 (by omega) hx1 (f9 (by omega)) (A7 h0 hB.res)
  rw [←Aq h0,mj hB.trim,show da (skP (pd8 B))=.arr 8 (.arr 64 .leaf) ((skP (pd8 B)).map aw) from rfl] at e1;have hvl:(svI m xs[i] 0 B 0).len<m.len:=Cj h0 0 B 0 (by rw [Pol.len_zero]; omega)
  have e2:=hdg p (svI m xs[i] 0 B 0) (by omega)
  have w4:IntKind.i64.wrap ((i:Int)+1)=((i+1:Nat):Int):=(w64 (x:=(i:Int)+1) (by omega)).trans (by omega)
  have hlt':(i:Int)<xs.length:=by omega
  have ih:=V3 hva hdg hpm had h1 hti hm hxs hl (z:=z) r (i+1) (lsN m B xs[i]) (by omega) (hB.next hm hx1)
  have hdr:lsS m (xs.drop i) B=lsS m (xs.drop (i+1)) (lsN m B xs[i]):=by rw [bu hlt]; rfl
  rw [hdr]
  by_cases hv:(svI m xs[i] 0 B 0).len=0
  ·have hn:lsN m B xs[i]=B:=by unfold lsN; rw [if_pos hv]
   rw [hn] at ih ⊢;rw [hv] at e2;refine bm ?_ ih;generalize (skP (pd8 B)).map aw=BD at *;generalize pad (row (svI m xs[i] 0 B 0))=P1 at *;generalize pad (row xs[i])=P2 at *;generalize xs.map di=XD at *;generalize pad (row m)=Pm at *;simp -implicitDefEqProofs [Z4v_L0,ac,hlt,hlt',hXL,hxi,e1,e2,w4]
  ·have hn:lsN m B xs[i]=ee m [lsC m (svI m xs[i] 0 B 0),1] B:=by unfold lsN; rw [if_neg hv]
   rw [hn] at ih ⊢;have hv0:svI m xs[i] 0 B 0≠0:=fun h=>hv (by rw [h,Pol.len_zero])
   have hneg:¬ ((svI m xs[i] 0 B 0).len:Int)-1<0:=by omega
   have e3:=hpm p (svI m xs[i] 0 B 0) (p-1) m h0 (by omega) (by omega) (by omega) (by omega)
   rw [←ad6 hm hv0 hvl] at e3;have f3:=Pol.len_mod (du m 1 (svI m xs[i] 0 B 0)*ji m (svI m xs[i] 0 B 0)) h0;have e4:=had p (-1) 0 (du m 1 (svI m xs[i] 0 B 0)*ji m (svI m xs[i] 0 B 0)%m) (by omega) (by omega) (by rw [Pol.len_zero]; omega) (by omega)
   rw [Gq.zero_add,show Pol.C (zp p (-1))*(du m 1 (svI m xs[i] 0 B 0)*ji m (svI m xs[i] 0 B 0)%m)=lsC m (svI m xs[i] 0 B 0) from rfl,dq] at e4;have e5:=h1 p;have hcl:=Jn (v:=svI m xs[i] 0 B 0) hm;have e6:=hti p m [lsC m (svI m xs[i] 0 B 0),1] B hm ⟨M6 _,by simp,La hm hcl⟩ (hB.sk hm) (by simp only [bv,cw]; omega)
   rw [d9,d9,d9,ae1] at e6;have w1:IntKind.i64.wrap (p-1)=p-1:=w64 (by omega)
   have hf1:=cm (skP (pd8 (ee m [lsC m (svI m xs[i] 0 B 0),1] B)));refine bm ?_ ih;generalize (skP (pd8 (ee m [lsC m (svI m xs[i] 0 B 0),1] B))).map aw=ND at *;generalize (skP (pd8 B)).map aw=BD at *;generalize pad (row (lsC m (svI m xs[i] 0 B 0)))=P3 at *;generalize pad (row (du m 1 (svI m xs[i] 0 B 0)*ji m (svI m xs[i] 0 B 0)%m))=P4 at *;generalize pad (row (svI m xs[i] 0 B 0))=P1 at *;generalize ((svI m xs[i] 0 B 0).len:Int)-1=n1 at *;generalize pad (row (1:Fp p))=P5 at *;generalize pad (row xs[i])=P2 at *;generalize xs.map di=XD at *;generalize pad (row m)=Pm at *;simp [z8,adf] at e6;simp -implicitDefEqProofs [Z4v_L0,ac,hlt,hlt',hXL,hxi,e1,e2,hneg,e3,e4,e5,e6,w1,w4,hf1,z8,List.replicate]
def Cg (O:ah):Prop:=∀(p:Int) [IsP p] (m:Fp p) (xs:List (Fp p)),Fld m→(∀x∈xs,x.len<m.len)→xs.length<2000000→ask O F4v [(D.int .i64 p),(D.arr 64 .leaf (ab .u8 (pad (row m)))),.sl (.arr 64 .leaf) (xs.map di)]=some (eS (lsS m xs (dj 1 0)))
theorem a2a (hT:T F4v=some Z4v) (hon:L3 (den T A)) (hva:wl (den T A)) (hdg:iq (den T A)) (hpm:s9 (den T A)) (had:ja (den T A)) (h1:Au (den T A)) (hti:rq (den T A)):Cg (den T A):=by
 intro p ip m xs hm hxs hl;have e0:=hon p;have e1:=V3 (O:=den T A) hva hdg hpm had h1 hti hm hxs hl (z:=z8) xs.length 0 (dj 1 0) (bn _) (.one hm);rw [dc,show ((0:Nat):Int)=0 from rfl] at e1;have hf1:=cm (skP (pd8 (dj (1:Fp p) 0)));have hf2:=cm (skP (pd8 (lsS m xs (dj 1 0))));rw [d9] at e0 ⊢;refine bi hT rfl ?_;generalize (skP (pd8 (lsS m xs (dj 1 0)))).map aw=ND at *;generalize (skP (pd8 (dj (1:Fp p) 0))).map aw=OD at *;generalize xs.map di=XD at *;generalize pad (row m)=Pm at *;simp -implicitDefEqProofs [Z4v,Z4v_B,e0,e1,hf1,List.replicate]
open Classical in
noncomputable def lkD (p:Int) (l:List Int) (ls:List (List Int)):D:=
 if h:H6 p l ls then
  haveI:IsP p:=h.choose
  .tup [eS (lsS (ew p l) (ls.map (ew p)) (dj 1 0)),(D.int .i64 0)]
 else .tup [da (List.replicate 8 (pad [])),(D.int .i64 1)]
theorem L7 {p:Int} {l:List Int} {ls:List (List Int)} (h:¬ H6 p l ls):lkD p l ls=.tup [da (List.replicate 8 (pad [])),(D.int .i64 1)]:=by unfold lkD; rw [dif_neg h]
theorem Ev {p:Int} [IsP p] {m:Fp p} {S:List (Fp p)} (h:H6 p (pad (row m)) (skP S)) (hm:m.len≤64) (hS:∀a∈S,a.len≤64):lkD p (pad (row m)) (skP S)=.tup [eS (lsS m S (dj 1 0)),(D.int .i64 0)]:=by
 unfold lkD;rw [dif_pos h,lh hm,kh hS]
theorem a74 (p:Int) (l:List Int) (ls:List (List Int)):∃(r:List (List Int)) (k:Int),lkD p l ls=.tup [da r,(D.int .i64 k)]∧Sh8 r:=by
 by_cases h:H6 p l ls
 ·have h':=h
  obtain ⟨ip,m,rfl,hm,hs⟩:=h;obtain ⟨S,rfl,hS⟩:=uh hs;have h5:=hm.five;have e:=Ev h' (by omega) (fun a ha=>by have:=hS a ha; omega)
  refine ⟨_,_,e,Qj ((LsI.all hm S _ (.one hm) hS).sk hm)⟩
 ·exact ⟨_,_,L7 h,oz⟩
def sa (O:ah) (F:Nat):Prop:=∀(p:Int) (l:List Int) (ls:List (List Int)),g9 l→l.length=64→Ji ls→ls.length<2000000→ask O F [(D.int .i64 p),(D.arr 64 .leaf (ab .u8 l)),.sl (.arr 64 .leaf) (ls.map aw)]=some (lkD p l ls)
theorem U7 {O:ah} (hro:tw O) {p q:Int} [IsP p] {l:List Int} {z:List D} {xs:List (Fp p)} (hl:xs.length<2000000) (hx:∀x∈xs,x.len≤64):∀(r i:Nat) (cp:Option Nat),i+r=xs.length→∃cp':Option Nat,
 dn O 0 (.loop ir_impl_LeastSkew_L0) ⟨[(0,(.d (.int .i64 q))),(4,.ptr 0 []),(6,.ptr 1 []),(9,.sl 2 [] 0 i cp),(20,.d (.sl (.arr 64 .leaf) (xs.map di))),(21,(.d (.int .i64 xs.length))),(22,(.d (.int .i64 i)))],[.box false (D.arr 64 .leaf (ab .u8 l)),.box false (.arr 8 (.arr 64 .leaf) z),.sl false .leaf ((xs.take i).map bw),.hole,.hole,.hole]⟩ =
  some (.exit 0,⟨[(0,(.d (.int .i64 q))),(4,.ptr 0 []),(6,.ptr 1 []),(9,.sl 2 [] 0 xs.length cp'),(20,.d (.sl (.arr 64 .leaf) (xs.map di))),(21,(.d (.int .i64 xs.length))),(22,(.d (.int .i64 xs.length))),(23,(.d (.bool false)))],[.box false (D.arr 64 .leaf (ab .u8 l)),.box false (.arr 8 (.arr 64 .leaf) z),.sl false .leaf (xs.map bw),.hole,.hole,.hole]⟩)
 | 0,i,cp,hi=>by
  obtain rfl:i=xs.length:=by omega
  rw [jd];refine ⟨cp,bt ?_⟩;generalize xs.map di=XD at *;generalize xs.map bw=RD at *;simp -implicitDefEqProofs [ir_impl_LeastSkew_L0,ac]
 | r+1,i,cp,hi=>by
  have hlt:i<xs.length:=by omega
  have hm:=bj hlt;have e1:=hro p xs[i] (hx _ hm);have hXD:(xs.map di).length=xs.length:=ap ..;have hxi:∀h:i<(xs.map di).length,(xs.map di)[i]'h=(D.arr 64 .leaf (ab .u8 (pad (row xs[i])))):=fun h=>by rw [ca]
  have w4:IntKind.i64.wrap ((i:Int)+1)=((i+1:Nat):Int):=(w64 (x:=(i:Int)+1) (by omega)).trans (by omega)
  have h24:(i+1)*24≤1099511627776:=by omega
  have htk:(xs.take (i+1)).map bw=(xs.take i).map bw++[(D.sl .leaf (ab .i64 (row xs[i])))]:=by rw [dg hlt,fd]; rfl
  have hL:((xs.take i).map bw).length=i:=by rw [ap,bq]; omega
  have htt:((xs.take i).map bw).take i=(xs.take i).map bw:=bb (by omega)
  obtain ⟨cp',ih⟩:=U7 hro (q:=q) (l:=l) (z:=z) hl hx r (i+1) none (by omega)
  refine ⟨cp',bm ?_ ih⟩;rw [htk];generalize pad (row xs[i])=Pi at *;generalize row xs[i]=Ri at *;generalize (xs.take i).map bw=TD at *;generalize xs.map di=XD at *;simp -implicitDefEqProofs [ir_impl_LeastSkew_L0,ac,hlt,hXD,hxi,e1,h24,hL,htt,w4,List.replicate]
theorem Vx (hT:T F8=some Z8) (hc:rx (den T A) F1t) (hro:tw (den T A)) (hfo:mi (den T A)) (hle:Qs (den T A)) (hto:wt (den T A)):sa (den T A) F8:=by
 intro p l ls bl gl ha hl;have e1:=hc p l ls bl gl ha hl
 by_cases h:H6 p l ls
 ·have h':=h
  rw [Aw.2 h] at e1;obtain ⟨ip,m,rfl,hm,hs⟩:=h;obtain ⟨S,rfl,hS⟩:=uh hs;have h5:=hm.five;have hSl:S.length<2000000:=by rwa [ap] at hl
  have hI:=LsI.all hm S _ (.one hm) hS;have hIl:=hI.len hm;obtain ⟨cp,e2⟩:=U7 (O:=den T A) hro (q:=p) (l:=pad (row m)) (z:=z8) hSl (fun a ha=>by have:=hS a ha; omega) S.length 0 (some 0) (bn _)
  rw [show ((0:Nat):Int)=0 from rfl,ff,ij] at e2;have e3:=hfo p m (by omega)
  have e4:=hle p m S hm hS hSl;have e5:=hto p (lsS m S (dj 1 0)) (by omega) (fun a ha=>by have:=hI.res a ha; omega)
  unfold Ct at e5;rw [if_pos (by omega)] at e5
  have hmd:(S.map fun a=>pad (row a)).map aw=S.map di:=yv S
  have hf1:=cm (skP (pd8 (lsS m S (dj 1 0))));have hXL:(S.map di).length=S.length:=ap ..;have hRL:(S.map bw).take S.length=S.map bw:=bb (by rw [ap]; omega)
  have hRl2:(S.map bw).length=S.length:=ap ..;rw [show lkD p (pad (row m)) (S.map fun a=>pad (row a))=.tup [eS (lsS m S (dj 1 0)),(D.int .i64 0)] from Ev h' (by omega) (fun a ha=>by have:=hS a ha; omega),hmd,d9]
  rw [hmd] at e1;rw [show da (skP (pd8 (lsS m S (dj 1 0))))=.arr 8 (.arr 64 .leaf) ((skP (pd8 (lsS m S (dj 1 0)))).map aw) from rfl] at e5;rw [show skD (lsS m S (dj 1 0))=.sl .leaf ((lsS m S (dj 1 0)).map bw) from rfl] at e4 e5;have hfd:ka m=.st [.leaf,.leaf] [(D.int .i64 p),(D.sl .leaf (ab .i64 (row m)))]:=rfl;rw [hfd] at e3 e4;refine bi hT rfl ?_;generalize (skP (pd8 (lsS m S (dj 1 0)))).map aw=ND at *;generalize (lsS m S (dj 1 0)).map bw=N2 at *;generalize S.map di=SD at *;generalize S.map bw=RD at *;generalize pad (row m)=Pm at *;generalize row m=Rm at *;simp -implicitDefEqProofs [Z8,ir_impl_LeastSkew_B,ac,e1,e2,e3,e4,e5,hXL,hRL,hRl2,hf1,List.replicate]
 ·rw [Eb h] at e1
  rw [L7 h,wq];refine bi hT rfl ?_;have hfz:D.flats z8=true:=rfl;generalize ls.map aw=LD at *;simp -implicitDefEqProofs [Z8,ir_impl_LeastSkew_B,ac,e1,List.replicate]
theorem S2 (hT:T F3p=some Z3p) (hc:rx (den T A) F52) (hle:Cg (den T A)):sa (den T A) F3p:=by
 intro p l ls bl gl ha hl;have e1:=hc p l ls bl gl ha hl
 by_cases h:H6 p l ls
 ·have h':=h
  rw [Aw.2 h] at e1;obtain ⟨ip,m,rfl,hm,hs⟩:=h;obtain ⟨S,rfl,hS⟩:=uh hs;have h5:=hm.five;have hSl:S.length<2000000:=by rwa [ap] at hl
  have e4:=hle p m S hm hS hSl;have hmd:(S.map fun a=>pad (row a)).map aw=S.map di:=yv S
  have hf1:=cm (skP (pd8 (lsS m S (dj 1 0))));rw [show lkD p (pad (row m)) (S.map fun a=>pad (row a))=.tup [eS (lsS m S (dj 1 0)),(D.int .i64 0)] from Ev h' (by omega) (fun a ha=>by have:=hS a ha; omega),hmd,d9]
  rw [hmd] at e1;rw [d9] at e4;refine bi hT rfl ?_;generalize (skP (pd8 (lsS m S (dj 1 0)))).map aw=ND at *;generalize S.map di=SD at *;generalize pad (row m)=Pm at *;simp -implicitDefEqProofs [Z3p,ir_spec_LeastSkew_B,ac,e1,e4,hf1,List.replicate]
 ·rw [Eb h] at e1
  rw [L7 h,wq];refine bi hT rfl ?_;have hfz:D.flats z8=true:=rfl;generalize ls.map aw=LD at *;simp -implicitDefEqProofs [Z3p,ir_spec_LeastSkew_B,ac,e1,List.replicate]
end Pe

namespace Pe
open Go Gq
section
variable {p:Int}
inductive Spn (L:List (Fp p)):Fp p→Prop
 | zero:Spn L 0
 | step {a b:Fp p} (k:Zp p) (ha:a∈L) (hb:Spn L b):Spn L (Pol.C k*a+b)
theorem Spn.mem {L:List (Fp p)} {a:Fp p} (h:a∈L):Spn L a:=by
 have:=Spn.step (1:Zp p) h .zero
 rwa [Pol.C_one,Gq.one_mul,Gq.add_zero] at this
theorem Spn.add {L:List (Fp p)} {a b:Fp p} (ha:Spn L a) (hb:Spn L b):Spn L (a+b):=by
 induction ha with
 | zero=>rw [Gq.zero_add]; exact hb
 | step k h1 h2 ih=>rw [Gq.add_assoc]; exact .step k h1 ih
theorem Spn.smul {L:List (Fp p)} {a:Fp p} (k:Zp p) (ha:Spn L a):Spn L (Pol.C k*a):=by
 induction ha with
 | zero=>rw [Gq.mul_zero]; exact .zero
 | step c h1 h2 ih=>rw [Gq.mul_add,←Gq.mul_assoc,←Pol.C_mul]; exact .step _ h1 ih
theorem Spn.neg [IsP p] {L:List (Fp p)} {a:Fp p} (ha:Spn L a):Spn L (-a):=by
 have:=ha.smul (-1)
 rwa [Pol.C_neg,Pol.C_one,Gq.neg_mul,Gq.one_mul] at this
theorem Spn.sub [IsP p] {L:List (Fp p)} {a b:Fp p} (ha:Spn L a) (hb:Spn L b):Spn L (a-b):=by rw [Gq.sub_eq]; exact ha.add hb.neg
theorem Spn.inside {L:List (Fp p)} {S:Fp p→Prop} (h0:S 0) (hs:∀(k:Zp p) a b,S a→S b→S (Pol.C k*a+b)) (h:∀a∈L,S a) {a:Fp p} (ha:Spn L a):S a:=by
 induction ha with
 | zero=>exact h0
 | step k h1 _ ih=>exact hs k _ _ (h _ h1) ih
theorem Spn.sup [IsP p] {L M:List (Fp p)} (h:∀a∈L,Spn M a) {a:Fp p} (ha:Spn L a):Spn M a:=
 ha.inside .zero (fun k _ _ h1 h2=>(h1.smul k).add h2) h
theorem a4w (a x y:Fp p):elim a (x+y)=elim a x+elim a y:=by
 unfold elim;rw [Pol.c_add,xg,Pol.C_add];exact bo [x,y,a,Pol.C (-(x.c (a.len-1))),Pol.C (-(y.c (a.len-1)))] rfl
theorem a57 (a x:Fp p) (k:Zp p):elim a (Pol.C k*x)=Pol.C k*elim a x:=by
 unfold elim;rw [Pol.c_Cmul,show -(k*x.c (a.len-1))=k * -(x.c (a.len-1)) from bo [k,x.c (a.len-1)] rfl,Pol.C_mul];exact bo [Pol.C k,x,a,Pol.C (-(x.c (a.len-1)))] rfl
theorem Ml [IsP p]:∀(L:List (Fp p)) (x y:Fp p),df L (x+y)=df L x+df L y
 | [],_,_=>rfl
 | b::L,x,y=>by
  show df L (elim b (x+y))=_;rw [a4w,Ml L]; rfl
theorem My [IsP p]:∀(L:List (Fp p)) (k:Zp p) (x:Fp p),df L (Pol.C k*x)=Pol.C k*df L x
 | [],_,_=>rfl
 | b::L,k,x=>by
  show df L (elim b (Pol.C k*x))=_;rw [a57,My L]; rfl
theorem a7w [IsP p] (L:List (Fp p)):df L 0=0:=by
 have:=My L 0 0
 rwa [Pol.C_zero,Gq.zero_mul,Gq.zero_mul] at this
theorem H3 {a x:Fp p} (h:x.c (a.len-1)=0):elim a x=x:=by
 unfold elim; rw [h,qj,Pol.C_zero,Gq.zero_mul,Gq.add_zero]
theorem a0q [IsP p]:∀{L:List (Fp p)} {x:Fp p},(∀b∈L,x.c (b.len-1)=0)→df L x=x
 | [],_,_=>rfl
 | b::L,x,h=>by
  show df L (elim b x)=x;rw [H3 (h b (by simp)),a0q fun c hc=>h c (by simp [hc])]
theorem Gr [IsP p]:∀(L:List (Fp p)) (x:Fp p),Spn L (x-df L x)
 | [],x=>by
  show Spn [] (x-x);rw [Gq.sub_self]; exact .zero
 | b::L,x=>by
  show Spn (b::L) (x-df L (elim b x));have h1:Spn (b::L) (elim b x-df L (elim b x)):=(Gr L (elim b x)).sup fun a ha=>.mem (by simp [ha])
  have h2:=Spn.step (L:=b::L) (x.c (b.len-1)) (show b∈b::L by simp) h1
  have e:Pol.C (x.c (b.len-1))*b+(elim b x-df L (elim b x))=x-df L (elim b x):=by
   generalize hr:df L (elim b x)=r;unfold elim;rw [Pol.C_neg];exact bo [Pol.C (x.c (b.len-1)),b,x,r] rfl
  rwa [e] at h2
theorem Mo [IsP p] {N:Nat}:∀{L:List (Fp p)} {x:Fp p},Desc N L→x∈L→df L x=0
 | b::L,x,h,hx=>by
  obtain ⟨h1,h2⟩:=h.tail;show df L (elim b x)=0;rcases dk.1 hx with rfl | hx
  ·have hm:=h.mon x (by simp)
   have:elim x x=0:=by
    unfold elim;rw [show x.c (x.len-1)=1 from hm.1,Pol.C_neg,Pol.C_one,Gq.neg_mul,Gq.one_mul,Gq.add_neg]
   rw [this,a7w]
  ·rw [H3 (Ws (by have:=h2 x hx; omega)),Mo h1 hx]
theorem B8 [IsP p] {N:Nat} {L:List (Fp p)} (h:Desc N L) (x:Fp p):df L x=0↔Spn L x:=by
 constructor
 ·intro h0
  have:=Gr L x
  rwa [h0,show x-0=x from bo [x] rfl] at this
 ·intro hs
  exact hs.inside (S:=fun x=>df L x=0) (a7w L) (fun k a b h1 h2=>by rw [Ml,My,h1,h2,Gq.mul_zero,Gq.add_zero]) fun a ha=>Mo h ha
def Rdc (L:List (Fp p)):Prop:=∀b∈L,∀c∈L,b≠c→b.c (c.len-1)=0
theorem Rdc.nil:Rdc ([]:List (Fp p)):=fun _ h=>by cases h
theorem Gx [IsP p] {N:Nat}:∀{L:List (Fp p)},Desc N L→∀{b c:Fp p},b∈L→c∈L→b.len=c.len→b=c
 | a::L,h,b,c,hb,hc,e=>by
  obtain ⟨h1,h2⟩:=h.tail;rcases dk.1 hb with eb | hb <;> rcases dk.1 hc with ec | hc
  ·rw [eb,ec]
  ·have:=h2 c hc; rw [eb] at e; omega
  ·have:=h2 b hb; rw [ec] at e; omega
  ·exact Gx h1 hb hc e
theorem Tt [IsP p] {N:Nat} {L:List (Fp p)} {x:Fp p} (h:Desc N L) (hr:Rdc L):Rdc (v7 L x):=by
 by_cases h0:df L x=0
 ·rw [tc h0]; exact hr
 ·rw [tv h0]
  have ha:=oe h0;have hal:=u9 h0
  have hz:∀b∈L,(Gq.mon (df L x)).c (b.len-1)=0:=fun b hb=>by
   unfold Gq.mon;rw [Pol.c_Cmul,I8 h b hb,Gq.mul_zero]
  have hne:∀b∈L,b.len≠(Gq.mon (df L x)).len:=fun b hb=>by rw [hal]; exact Rp h h0 b hb
  generalize Gq.mon (df L x)=a at *;intro b hb c hc hbc;rcases wh hb with rfl | ⟨b',hb',rfl⟩ <;> rcases wh hc with rfl | ⟨c',hc',rfl⟩
  ·exact absurd rfl hbc
  ·rw [(Li (h.mon c' hc') (hne c' hc')).2]; exact hz c' hc'
  ·exact a0c ha b'
  ·rw [(Li (h.mon c' hc') (hne c' hc')).2,Nx,hz c' hc',Gq.mul_zero,Gq.add_zero]
   exact hr b' hb' c' hc' fun e=>hbc (by rw [e])
theorem Hn [IsP p] {N:Nat}:∀{xs L:List (Fp p)},Desc N L→Rdc L→(∀x∈xs,x.len≤N)→Rdc (iw xs L)
 | [],_,_,h,_=>h
 | x::xs,L,h,hr,hx=>Hn (xs:=xs) (zg h (hx x (by simp))) (Tt h hr) fun y hy=>hx y (by simp [hy])
theorem O0 {a:Fp p} {L:List (Fp p)} {b:Fp p} (h:b=a∨∃c∈L,b=elim a c):b∈xf a L:=
 (vg a L).symm.subset (by
  rcases h with rfl | ⟨c,hc,rfl⟩
  ·simp
  ·exact cn _ (jy hc))
theorem yf [IsP p] {L:List (Fp p)} {x y:Fp p}:(Spn L y→Spn (v7 L x) y)∧Spn (v7 L x) x:=by
 have key:∀b∈L,Spn (v7 L x) b:=fun b hb=>by
  by_cases h0:df L x=0
  ·rw [tc h0]; exact .mem hb
  ·rw [tv h0]
   have h1:Spn (xf (Gq.mon (df L x)) L) (elim (Gq.mon (df L x)) b):=.mem (O0 (.inr ⟨b,hb,rfl⟩));have h2:=Spn.step (b.c ((Gq.mon (df L x)).len-1)) (O0 (L:=L) (.inl rfl:Gq.mon (df L x)=Gq.mon (df L x)∨_)) h1
   have e:Pol.C (b.c ((Gq.mon (df L x)).len-1))*Gq.mon (df L x)+elim (Gq.mon (df L x)) b=b:=by
    generalize Gq.mon (df L x)=a;unfold elim;rw [Pol.C_neg];exact bo [Pol.C (b.c (a.len-1)),a,b] rfl
   rwa [e] at h2
 refine ⟨fun h=>h.sup key,?_⟩
 have h1:Spn (v7 L x) (x-df L x):=(Gr L x).sup key
 have h2:Spn (v7 L x) (df L x):=by
  by_cases h0:df L x=0
  ·rw [h0]; exact .zero
  ·have h3:Spn (v7 L x) (Gq.mon (df L x)):=by rw [tv h0]; exact .mem (O0 (.inl rfl))
   have h4:=h3.smul (df L x).ld
   rwa [←Wd h0] at h4
 have h3:=h1.add h2
 rwa [show x-df L x+df L x=x from bo [x,df L x] rfl] at h3
theorem Rl [IsP p] {L:List (Fp p)} {x:Fp p} {S:Fp p→Prop} (h0:S 0) (hs:∀(k:Zp p) a b,S a→S b→S (Pol.C k*a+b)) (hL:∀a∈L,S a) (hx:S x):∀a∈v7 L x,S a:=by
 have hsub:∀a b,S a→S b→S (a-b):=fun a b ha hb=>by
  have:=hs (-1) b a hb ha
  rwa [Pol.C_neg,Pol.C_one,show -1*b+a=a-b from bo [a,b] rfl] at this
 have hm:∀(k:Zp p) a,S a→S (Pol.C k*a):=fun k a ha=>by
  have:=hs k a 0 ha h0
  rwa [Gq.add_zero] at this
 intro a ha
 by_cases hr:df L x=0
 ·rw [tc hr] at ha; exact hL a ha
 ·rw [tv hr] at ha
  have h1:S (x-df L x):=(Gr L x).inside h0 hs hL
  have h2:S (df L x):=by
   have:=hsub x _ hx h1
   rwa [show x-(x-df L x)=df L x from bo [x,df L x] rfl] at this
  have h3:S (Gq.mon (df L x)):=hm _ _ h2;rcases wh ha with rfl | ⟨b,hb,rfl⟩
  ·exact h3
  ·unfold elim
   rw [Gq.add_comm];exact hs _ _ _ h3 (hL b hb)
theorem Tu [IsP p] {S:Fp p→Prop} (h0:S 0) (hs:∀(k:Zp p) a b,S a→S b→S (Pol.C k*a+b)):∀{xs L:List (Fp p)},(∀a∈L,S a)→(∀x∈xs,S x)→∀a∈iw xs L,S a
 | [],_,hL,_=>hL
 | x::xs,L,hL,hx=>Tu h0 hs (xs:=xs) (Rl h0 hs hL (hx x (by simp))) fun y hy=>hx y (by simp [hy])
theorem Q7 [IsP p]:∀{xs L:List (Fp p)},(∀y,Spn L y→Spn (iw xs L) y)∧∀x∈xs,Spn (iw xs L) x
 | [],L=>⟨fun _ h=>h,fun _ h=>by cases h⟩
 | x::xs,L=>by
  obtain ⟨h1,h2⟩:=Q7 (xs:=xs) (L:=v7 L x);refine ⟨fun y hy=>h1 y (yf.1 hy),fun y hy=>?_⟩
  rcases dk.1 hy with rfl | hy
  ·exact h1 y (yf (y:=y)).2
  ·exact h2 y hy
theorem Nh [IsP p] {N:Nat} {L:List (Fp p)} (_h:Desc N L) {x:Fp p} (hx:x≠0) (hs:df L x=0):∃b∈L,b.len=x.len:=by
 apply dd;intro hno;have hne:∀b∈L,b.len≠x.len:=fun b hb e=>hno ⟨b,hb,e⟩
 have key:∀(L:List (Fp p)),(∀b∈L,b.len≠x.len)→∀y:Fp p,y.len=x.len→y.c (x.len-1)=x.c (x.len-1)→(df L y).c (x.len-1)=x.c (x.len-1):=by
  intro L
  induction L with
  | nil=>intro _ y _ h; exact h
  | cons b L ih=>
   intro hb y hy hc;have hbl:=hb b (by simp)
   show (df L (elim b y)).c _=_;have hxp:=Pol.len_pos hx
   have e:(elim b y).len=x.len∧(elim b y).c (x.len-1)=x.c (x.len-1):=by
    rcases dm y.len b.len with h1 | h1
    ·rw [H3 (Ws (by omega))]; exact ⟨hy,hc⟩
    ·have hc2:(elim b y).c (x.len-1)=x.c (x.len-1):=by
      rw [Nx,Ws (a:=b) (by omega),Gq.mul_zero,Gq.add_zero,hc]
     refine ⟨?_,hc2⟩
     have h3:(elim b y).len=(x.len-1)+1:=Pol.len_eq (Pol.lt_iff.2 (by
      rw [Nat.sub_add_cancel hxp,←hy]; exact v9 h1 (ba _))) (by rw [hc2]; exact Pol.ld_ne hx)
     omega
   exact ih (fun c hc=>hb c (by simp [hc])) _ e.1 e.2
 have:=key L hne x rfl rfl;rw [hs] at this;exact Pol.ld_ne hx this.symm
theorem J1 [IsP p] {N M:Nat} {L K:List (Fp p)} (hL:Desc N L) (hK:Desc M K) (rL:Rdc L) (rK:Rdc K) (h1:∀b∈L,df K b=0) (h2:∀b∈K,df L b=0):∀b∈L,b∈K:=by
 intro b hb;have hbm:=hL.mon b hb;obtain ⟨c,hc,hcl⟩:=Nh hK hbm.2 (h1 b hb);have hcm:=hK.mon c hc
 have hd:df K (b-c)=0:=by
  have e:=Ml K (b-c) c;rw [show b-c+c=b from bo [b,c] rfl,h1 b hb,Mo hK hc,Gq.add_zero] at e;exact e.symm
 have hz:∀d∈K,(b-c).c (d.len-1)=0:=fun d hdK=>by
  rw [Pol.c_sub]
  by_cases hdc:c=d
  ·rw [←hdc,show c.c (c.len-1)=1 from hcm.1,hcl,show b.c (b.len-1)=1 from hbm.1,Gq.sub_self]
  ·obtain ⟨e,he,hel⟩:=Nh hL (hK.mon d hdK).2 (h2 d hdK)
   have hbe:b≠e:=fun h=>hdc (Gx hK hc hdK (by rw [hcl,h,hel]))
   have z1:=rL b hb e he hbe;rw [hel] at z1;rw [z1,rK c hc d hdK hdc,Gq.sub_self]
 rw [a0q hz] at hd;rw [ru hd]; exact hc
theorem J7 [IsP p] {N M:Nat} {L K:List (Fp p)} (hL:Desc N L) (hK:Desc M K) (rL:Rdc L) (rK:Rdc K) (h1:∀b∈L,df K b=0) (h2:∀b∈K,df L b=0):L=K:=
 H4 (fun x:Fp p=>-(x.len:Int)) (hL.pw.imp fun h=>by omega) (hK.pw.imp fun h=>by omega) fun x=>
  ⟨J1 hL hK rL rK h1 h2 x,J1 hK hL rK rL h2 h1 x⟩
end
end Pe

namespace Pe
open Go Gq
section
variable {p:Int} {m:Fp p}
theorem To [IsP p] (hm:m≠0) (k:Zp p):∀(j:Nat) {x y:Fp p},x.len<m.len→y.len<m.len→du m j (Pol.C k*x+y)=Pol.C k*du m j x+du m j y
 | 0,_,_,_,_=>rfl
 | j+1,x,y,hx,hy=>by
  have e:pw (Pol.C k*x+y) p.toNat%m=Pol.C k*(pw x p.toNat%m)+pw y p.toNat%m:=by
   rw [←Pol.mod_Cmul k _ hm,←Pol.mod_add_small hm];refine (Pol.mod_eq_iff hm).2 ?_;rw [Quo.mk_add,Quo.mk_mul,Quo.mk_pow,Quo.mk_add,Quo.mk_mul,Quo.mk_pow,Quo.mk_pow,Mj,Ae]
   congr 2
   rw [←Quo.mk_pow,←abc,Dj]
  show du m j (pw (Pol.C k*x+y) p.toNat%m)=Pol.C k*du m j (pw x p.toNat%m)+du m j (pw y p.toNat%m);rw [e,To hm k j (Pol.len_mod _ hm) (Pol.len_mod _ hm)]
theorem a0x [IsP p] (hm:m≠0) (k:Zp p) {x y:Fp p} (hx:x.len<m.len) (hy:y.len<m.len):∀(a:List (Fp p)) (i:Nat) (u v:Fp p),svI m (Pol.C k*x+y) i a (Pol.C k*u+v)=Pol.C k*svI m x i a u+svI m y i a v
 | [],_,_,_=>rfl
 | c::a,i,u,v=>by
  show svI m (Pol.C k*x+y) (i+1) a (Pol.C k*u+v+c*du m (i%(m.len-1)) (Pol.C k*x+y)%m)=Pol.C k*svI m x (i+1) a (u+c*du m (i%(m.len-1)) x%m)+svI m y (i+1) a (v+c*du m (i%(m.len-1)) y%m);rw [←a0x hm k hx hy a]
  congr 1
  rw [To hm k _ hx hy]
  have e:(c*(Pol.C k*du m (i%(m.len-1)) x+du m (i%(m.len-1)) y))%m=Pol.C k*(c*du m (i%(m.len-1)) x%m)+c*du m (i%(m.len-1)) y%m:=by
   rw [←Pol.mod_Cmul k _ hm,←Pol.mod_add_small hm]
   congr 1
   exact bo [c,Pol.C k,du m (i%(m.len-1)) x,du m (i%(m.len-1)) y] rfl
  rw [e];exact bo [Pol.C k,u,v,c*du m (i%(m.len-1)) x%m,c*du m (i%(m.len-1)) y%m] rfl
noncomputable def sev [IsP p] (m:Fp p) (S:List (Fp p)) (x:Fp p):Fp p:=svI m x 0 S 0
theorem sq [IsP p] (hm:m≠0) (S:List (Fp p)) (k:Zp p) {x y:Fp p} (hx:x.len<m.len) (hy:y.len<m.len):sev m S (Pol.C k*x+y)=Pol.C k*sev m S x+sev m S y:=by
 have:=a0x hm k hx hy S 0 0 0
 rwa [show Pol.C k*(0:Fp p)+0=0 from bo [Pol.C k] rfl] at this
theorem Gf [IsP p] (hm:m≠0) (S:List (Fp p)) (x:Fp p):(sev m S x).len<m.len:=Cj hm 0 S 0 (by rw [Pol.len_zero]; exact Pol.len_pos hm)
theorem tu {n:Nat} (k:Zp p) {x y:Fp p} (hx:x.len<n) (hy:y.len<n):(Pol.C k*x+y).len<n:=by
 have h1:(Pol.C k*x).lt (n-1):=Pol.lt_Cmul k (Pol.lt_iff.2 (by omega))
 have h2:y.lt (n-1):=Pol.lt_iff.2 (by omega)
 have:=Pol.len_le (Pol.lt_add h1 h2);omega
theorem Am [IsP p] (hm:m≠0) (S:List (Fp p)):sev m S 0=0:=by
 have h0:(0:Fp p).len<m.len:=by rw [Pol.len_zero]; exact Pol.len_pos hm
 have:=sq hm S 0 (x:=0) (y:=0) h0 h0;rw [Pol.C_zero,Gq.zero_mul,Gq.zero_add,Gq.zero_mul,Gq.zero_add] at this;have h2:=congrArg (fun z=>z-sev m S 0) this
 apply dd;intro hne;have e:sev m S (0*0+0)=sev m S 0:=by rw [Gq.zero_mul,Gq.zero_add]
 have h3:=sq hm S (-1) (x:=0) (y:=0) h0 h0;rw [Gq.mul_zero,Gq.zero_add,Pol.C_neg,Pol.C_one] at h3;exact hne (h3.trans (bo [sev m S 0] rfl))
abbrev lk (p:Int):=Fp p×Fp p
noncomputable def kst [IsP p] (v s:Fp p) (yx:lk p):lk p:=(yx.1+Pol.C (-(yx.1.c (v.len-1))*Fd.inv v.ld)*v,yx.2+Pol.C (-(yx.1.c (v.len-1))*Fd.inv v.ld)*s)
noncomputable def wv [IsP p]:List (lk p)→lk p→lk p
 | [],yx=>yx
 | (v,s)::r,yx=>wv r (kst v s yx)
structure KVals [IsP p] (m:Fp p) (S:List (Fp p)) (ps:List (lk p)):Prop where
 ok:∀q∈ps,q.1≠0∧q.1.len<m.len∧q.2.len<m.len∧sev m S q.2=q.1
 tri:ps.Pairwise fun a b=>b.1.c (a.1.len-1)=0
theorem KVals.tail [IsP p] {S:List (Fp p)} {q:lk p} {ps:List (lk p)} (h:KVals m S (q::ps)):KVals m S ps∧∀b∈ps,b.1.c (q.1.len-1)=0:=
 ⟨⟨fun b hb=>h.ok b (by simp [hb]),h.tri.tail⟩,(ep.1 h.tri).1⟩
theorem adb [IsP p] {v s:Fp p} (hv:v≠0) (yx:lk p):(kst v s yx).1.c (v.len-1)=0:=by
 show (yx.1+Pol.C (-(yx.1.c (v.len-1))*Fd.inv v.ld)*v).c (v.len-1)=0;rw [Pol.c_add,Pol.c_Cmul];have h:=Fd.mul_inv v.ld (Pol.ld_ne hv);rw [show v.c (v.len-1)=v.ld from rfl,show -(yx.1.c (v.len-1))*Fd.inv v.ld*v.ld=-(yx.1.c (v.len-1))*(v.ld*Fd.inv v.ld) from bo [yx.1.c (v.len-1),Fd.inv v.ld,v.ld] rfl,h,Gq.mul_one,Gq.add_neg]
theorem Or [IsP p] {n:Nat}:∀{ps:List (lk p)} {yx:lk p},(∀b∈ps,b.1.c n=0)→(wv ps yx).1.c n=yx.1.c n
 | [],_,_=>rfl
 | (v,s)::r,yx,h=>by
  show (wv r (kst v s yx)).1.c n=_;rw [Or fun b hb=>h b (by simp [hb])]
  show (yx.1+Pol.C (-(yx.1.c (v.len-1))*Fd.inv v.ld)*v).c n=_;rw [Pol.c_add,Pol.c_Cmul,h (v,s) (by simp),Gq.mul_zero,Gq.add_zero]
theorem Qo [IsP p] {S:List (Fp p)}:∀{ps:List (lk p)} {yx:lk p},KVals m S ps→∀b∈ps,(wv ps yx).1.c (b.1.len-1)=0
 | (v,s)::r,yx,h,b,hb=>by
  obtain ⟨h1,h2⟩:=h.tail;show (wv r (kst v s yx)).1.c _=0;rcases dk.1 hb with e | hb
  ·subst e
   rw [Or h2];exact adb (h.ok (v,s) (by simp)).1 yx
  ·exact Qo h1 b hb
theorem a1a [IsP p] {S:List (Fp p)} (hm:m≠0):∀{ps:List (lk p)} {yx:lk p},KVals m S ps→yx.1.len<m.len→yx.2.len<m.len→sev m S yx.2=yx.1 →
 (wv ps yx).1.len<m.len∧(wv ps yx).2.len<m.len∧sev m S (wv ps yx).2=(wv ps yx).1∧Spn (ps.map Prod.snd) ((wv ps yx).2-yx.2)
 | [],yx,_,h1,h2,h3=>⟨h1,h2,h3,by
  show Spn [] (yx.2-yx.2);rw [Gq.sub_self]; exact .zero⟩
 | (v,s)::r,yx,h,h1,h2,h3=>by
  obtain ⟨t1,t2⟩:=h.tail;obtain ⟨o1,o2,o3,o4⟩:=h.ok (v,s) (by simp)
  generalize hk:-(yx.1.c (v.len-1))*Fd.inv v.ld=k
  have e1:kst v s yx=(Pol.C k*v+yx.1,Pol.C k*s+yx.2):=by
   unfold kst;rw [hk,Gq.add_comm yx.1,Gq.add_comm yx.2]
  obtain ⟨g1,g2,g3,g4⟩:=a1a hm (yx:=kst v s yx) t1 (by rw [e1]; exact tu k o2 h1) (by rw [e1]; exact tu k o3 h2) (by
   rw [e1];show sev m S (Pol.C k*s+yx.2)=Pol.C k*v+yx.1;rw [sq hm S k o3 h2,o4,h3])
  refine ⟨g1,g2,g3,?_⟩;show Spn (s::r.map Prod.snd) ((wv r (kst v s yx)).2-yx.2);have g5:Spn (s::r.map Prod.snd) ((wv r (kst v s yx)).2-(kst v s yx).2):=g4.sup fun a ha=>.mem (by simp [ha])
  have g6:=Spn.step (L:=s::r.map Prod.snd) k (show s∈s::r.map Prod.snd by simp) g5
  have e2:Pol.C k*s+((wv r (kst v s yx)).2-(kst v s yx).2)=(wv r (kst v s yx)).2-yx.2:=by
   rw [e1];show Pol.C k*s+((wv r (Pol.C k*v+yx.1,Pol.C k*s+yx.2)).2-(Pol.C k*s+yx.2))=_;generalize (wv r (Pol.C k*v+yx.1,Pol.C k*s+yx.2)).2=z;exact bo [Pol.C k,s,z,yx.2] rfl
  rwa [e2] at g6
theorem KVals.snoc [IsP p] {S:List (Fp p)} {ps:List (lk p)} {q:lk p} (h:KVals m S ps) (h1:q.1≠0) (h2:q.1.len<m.len) (h3:q.2.len<m.len) (h4:sev m S q.2=q.1) (hz:∀b∈ps,q.1.c (b.1.len-1)=0):KVals m S (ps++[q]) where
 ok:=fun b hb=>by
  rcases bp.1 hb with hb | hb
  ·exact h.ok b hb
  ·obtain rfl:=cl.1 hb
   exact ⟨h1,h2,h3,h4⟩
 tri:=i9.2 ⟨h.tri,fc _ _,fun a ha b hb=>by
  obtain rfl:=cl.1 hb;exact hz a ha⟩
theorem a51 {s:Fp p} {L:List (Fp p)} {z:Fp p} (h:Spn (s::L) z):∃(k:Zp p) (y:Fp p),Spn L y∧z=Pol.C k*s+y:=by
 induction h with
 | zero=>exact ⟨0,0,.zero,by rw [Pol.C_zero,Gq.zero_mul,Gq.zero_add]⟩
 | @step a b c ha _ ih=>
  obtain ⟨k,y,hy,rfl⟩:=ih;rcases dk.1 ha with rfl | ha
  ·exact ⟨c+k,y,hy,by rw [Pol.C_add]; exact bo [Pol.C c,Pol.C k,a,y] rfl⟩
  ·exact ⟨k,Pol.C c*a+y,.step c ha hy,bo [Pol.C c,Pol.C k,a,s,y] rfl⟩
theorem a9x {L K:List (Fp p)} {z:Fp p} (h:Spn (L++K) z):∃a b,Spn L a∧Spn K b∧z=a+b:=by
 induction h with
 | zero=>exact ⟨0,0,.zero,.zero,(Gq.add_zero _).symm⟩
 | @step a b c ha _ ih=>
  obtain ⟨u,v,hu,hv,rfl⟩:=ih;rcases bp.1 ha with ha | ha
  ·exact ⟨Pol.C c*a+u,v,.step c ha hu,hv,(Gq.add_assoc _ _ _).symm⟩
  ·exact ⟨u,Pol.C c*a+v,hu,.step c ha hv,bo [Pol.C c,a,u,v] rfl⟩
theorem a0h [IsP p] (hm:m≠0) {S:List (Fp p)} {ps:List (lk p)} (h:KVals m S ps) {z:Fp p} (hz:Spn (ps.map Prod.snd) z):z.len<m.len∧Spn (ps.map Prod.fst) (sev m S z):=by
 have h0:=Pol.len_pos hm;refine hz.inside (S:=fun z=>z.len<m.len∧Spn (ps.map Prod.fst) (sev m S z)) ⟨by rw [Pol.len_zero]; exact h0,by rw [Am hm]; exact .zero⟩ (fun k a b h1 h2=>⟨tu k h1.1 h2.1,?_⟩) fun a ha=>?_
 ·rw [sq hm S k h1.1 h2.1]
  exact (h1.2.smul k).add h2.2
 ·obtain ⟨q,hq,rfl⟩:=cj.1 ha
  obtain ⟨_,_,o3,o4⟩:=h.ok q hq;exact ⟨o3,by rw [o4]; exact .mem (jy hq)⟩
theorem Iu [IsP p] (hm:m≠0) {S:List (Fp p)}:∀{ps:List (lk p)},KVals m S ps→∀{z:Fp p},Spn (ps.map Prod.snd) z→sev m S z=0→z=0
 | [],_,z,hz,_=>by
  have:Spn [] z:=hz;exact this.inside (S:=fun z=>z=0) rfl (fun k a b h1 h2=>by rw [h1,h2,Gq.mul_zero,Gq.add_zero]) fun _ h=>by cases h
 | (v,s)::r,h,z,hz,h0=>by
  obtain ⟨t1,t2⟩:=h.tail;obtain ⟨o1,o2,o3,o4⟩:=h.ok (v,s) (by simp)
  obtain ⟨k,y,hy,rfl⟩:=a51 (L:=r.map Prod.snd) hz;obtain ⟨hyl,hyv⟩:=a0h hm t1 hy;rw [sq hm S k o3 hyl,o4] at h0
  have hc:(sev m S y).c (v.len-1)=0:=hyv.inside (S:=fun z=>z.c (v.len-1)=0) rfl (fun k a b h1 h2=>by rw [Pol.c_add,Pol.c_Cmul,h1,h2,Gq.mul_zero,Gq.add_zero]) fun a ha=>by
   obtain ⟨q,hq,rfl⟩:=cj.1 ha;exact t2 q hq
  have hk:k=0:=by
   have:=congrArg (fun f=>Pol.c f (v.len-1)) h0
   simp only [Pol.c_add,Pol.c_Cmul,hc,Gq.add_zero,Pol.c_zero] at this;exact (Fd.zero_or this).resolve_right (Pol.ld_ne o1)
  rw [hk,Pol.C_zero,Gq.zero_mul,Gq.zero_add] at h0 ⊢;exact Iu hm t1 hy h0
structure KInv [IsP p] (m:Fp p) (S:List (Fp p)) (i:Nat) (ps:List (lk p)) (L:List (Fp p)):Prop where
 vals:KVals m S ps
 desc:Desc 11 L
 rdc:Rdc L
 ker:∀b∈L,b.len<m.len∧sev m S b=0
 gen:∀x:Fp p,x.len≤i→Spn (L++ps.map Prod.snd) x
theorem KInv.init [IsP p] (S:List (Fp p)):KInv m S 0 [] [] where
 vals:=⟨(fun _ h=>by cases h),List.Pairwise.nil⟩
 desc:=Desc.nil 11
 rdc:=Rdc.nil
 ker:=fun _ h=>by cases h
 gen:=fun x hx=>by
  obtain rfl:x=0:=Pol.len_zero_iff.1 (by omega)
  exact .zero
noncomputable def sc [IsP p] (i:Nat):Fp p:=Pol.mo 1 i
theorem Lf [IsP p] (i:Nat):(sc i:Fp p).len=i+1:=Pol.len_eq (fun j hj=>if_neg (by omega)) (by
 show (if i=i then (1:Zp p) else 0)≠0
 rw [if_pos rfl]; exact Fd.one_ne)
noncomputable def kpr [IsP p] (m:Fp p) (S:List (Fp p)) (ps:List (lk p)) (i:Nat):lk p:=wv ps (sev m S (sc i),sc i)
open Classical in
noncomputable def Da [IsP p] (m:Fp p) (S:List (Fp p)) (i:Nat) (st:List (lk p)×List (Fp p)):List (lk p)×List (Fp p):=
 if (kpr m S st.1 i).1=0 then (st.1,v7 st.2 (kpr m S st.1 i).2) else (st.1++[kpr m S st.1 i],st.2)
theorem KInv.pair [IsP p] (hm:m≠0) {S:List (Fp p)} {i:Nat} {ps:List (lk p)} {L:List (Fp p)} (h:KInv m S i ps L) (hi:i+1<m.len) :
 (kpr m S ps i).1.len<m.len∧(kpr m S ps i).2.len<m.len∧sev m S (kpr m S ps i).2=(kpr m S ps i).1∧Spn (ps.map Prod.snd) ((kpr m S ps i).2-sc i):=
 a1a hm (yx:=(sev m S (sc i),sc i)) h.vals (Gf hm S _) (by rw [Lf]; exact hi) rfl
theorem KInv.step [IsP p] (hm:m≠0) (h12:m.len≤12) {S:List (Fp p)} {i:Nat} {ps:List (lk p)} {L:List (Fp p)} (h:KInv m S i ps L) (hi:i+1<m.len) :
 KInv m S (i+1) (Da m S i (ps,L)).1 (Da m S i (ps,L)).2:=by
 obtain ⟨h1,h2,h3,h4⟩:=h.pair hm hi;have h0:=Pol.len_pos hm
 have gen':∀K:List (Fp p),(∀y,Spn (L++ps.map Prod.snd) y→Spn K y)→Spn K (kpr m S ps i).2→∀x:Fp p,x.len≤i+1→Spn K x:=fun K hK hk x hx=>by
  have ht:Spn K (sc i):=by
   have:=hk.sub (hK _ (h4.sup fun a ha=>.mem (lc _ ha)))
   rwa [show (kpr m S ps i).2-((kpr m S ps i).2-sc i)=sc i from bo [(kpr m S ps i).2,sc i] rfl] at this
  have hx2:Spn K (x-Pol.C (x.c i)*sc i):=hK _ (h.gen _ (Pol.len_le fun j hj=>by
   rw [Pol.c_sub,Pol.c_Cmul];show x.c j-x.c i*(if j=i then 1 else 0)=0
   by_cases hji:j=i
   ·rw [if_pos hji,Gq.mul_one,hji,Gq.sub_self]
   ·rw [if_neg hji,Gq.mul_zero,x.lt_len j (by omega),Gq.sub_self]))
  have:=(ht.smul (x.c i)).add hx2
  rwa [show Pol.C (x.c i)*sc i+(x-Pol.C (x.c i)*sc i)=x from bo [Pol.C (x.c i),sc i,x] rfl] at this
 unfold Da
 by_cases hy:(kpr m S ps i).1=0
 ·rw [if_pos hy]
  refine ⟨h.vals,zg h.desc (show (kpr m S ps i).2.len≤11 by omega),Tt h.desc h.rdc,?_,?_⟩
  ·exact Rl (S:=fun b=>b.len<m.len∧sev m S b=0) ⟨by rw [Pol.len_zero]; exact h0,Am hm S⟩ (fun k a b ha hb=>⟨tu k ha.1 hb.1,by rw [sq hm S k ha.1 hb.1,ha.2,hb.2,Gq.mul_zero,Gq.add_zero]⟩) h.ker ⟨h2,by rw [h3,hy]⟩
  ·refine gen' _ (fun y hy=>?_) ?_
   ·refine hy.sup fun a ha=>?_
    rcases bp.1 ha with ha | ha
    ·exact ((yf (x:=(kpr m S ps i).2)).1 (.mem ha)).sup fun b hb=>.mem (cn _ hb)
    ·exact .mem (lc _ ha)
   ·exact (yf (y:=0)).2.sup fun b hb=>.mem (cn _ hb)
 ·rw [if_neg hy]
  refine ⟨h.vals.snoc hy h1 h2 h3 fun b hb=>Qo h.vals b hb,h.desc,h.rdc,h.ker,?_⟩
  show ∀x:Fp p,x.len≤i+1→Spn (L++(ps++[kpr m S ps i]).map Prod.snd) x;rw [fd];refine gen' _ (fun y hy=>hy.sup fun a ha=>?_) (.mem (by simp))
  rcases bp.1 ha with ha | ha
  ·exact .mem (cn _ ha)
  ·exact .mem (lc _ (cn _ ha))
noncomputable def dp [IsP p] (m:Fp p) (S:List (Fp p)):Nat→List (lk p)×List (Fp p)
 | 0=>([],[])
 | i+1=>Da m S i (dp m S i)
theorem vr [IsP p] (hm:m≠0) (h12:m.len≤12) (S:List (Fp p)):∀i,i<m.len→KInv m S i (dp m S i).1 (dp m S i).2
 | 0,_=>KInv.init S
 | i+1,hi=>(vr hm h12 S i (by omega)).step hm h12 hi
noncomputable def zn [IsP p] (m:Fp p) (S:List (Fp p)):List (Fp p):=(dp m S (m.len-1)).2
theorem a08 [IsP p] (hm:m≠0) (h12:m.len≤12) {S:List (Fp p)} {x:Fp p} (hx:x.len<m.len) (h0:sev m S x=0):Spn (zn m S) x:=by
 have inv:=vr hm h12 S (m.len-1) (by omega)
 obtain ⟨a,b,ha,hb,rfl⟩:=a9x (inv.gen x (by omega))
 obtain ⟨hbl,-⟩:=a0h hm inv.vals hb;have hk:a.len<m.len∧sev m S a=0:=ha.inside (S:=fun b=>b.len<m.len∧sev m S b=0) ⟨by rw [Pol.len_zero]; omega,Am hm S⟩ (fun k a b ha hb=>⟨tu k ha.1 hb.1,by rw [sq hm S k ha.1 hb.1,ha.2,hb.2,Gq.mul_zero,Gq.add_zero]⟩) inv.ker
 have e:sev m S b=0:=by
  have:=sq hm S 1 hk.1 hbl;rw [Pol.C_one,Gq.one_mul,h0,hk.2,Gq.mul_zero,Gq.zero_add] at this;exact this.symm
 rw [Iu hm inv.vals hb e,Gq.add_zero];exact ha
theorem a7m [IsP p] (hm:m≠0) (h12:m.len≤12) {S xs:List (Fp p)} (h1:∀x∈xs,x.len<m.len∧sev m S x=0) (h2:∀x:Fp p,x.len<m.len→sev m S x=0→x∈xs):iw xs []=zn m S:=by
 have inv:=vr hm h12 S (m.len-1) (by have:=Pol.len_pos hm; omega)
 have d1:Desc 11 (iw xs []):=Dz (Desc.nil 11) fun x hx=>by have:=(h1 x hx).1; omega
 have r1:Rdc (iw xs []):=Hn (Desc.nil 11) Rdc.nil fun x hx=>by have:=(h1 x hx).1; omega
 have h0:=Pol.len_pos hm;refine J7 d1 inv.desc r1 inv.rdc (fun b hb=>?_) fun b hb=>?_
 ·obtain ⟨k1,k2⟩:=Tu (S:=fun b=>b.len<m.len∧sev m S b=0) ⟨by rw [Pol.len_zero]; exact h0,Am hm S⟩ (fun k a b ha hb=>⟨tu k ha.1 hb.1,by rw [sq hm S k ha.1 hb.1,ha.2,hb.2,Gq.mul_zero,Gq.add_zero]⟩) (fun _ h=>by cases h) h1 b hb
  exact (B8 inv.desc b).2 (a08 hm h12 k1 k2)
 ·obtain ⟨k1,k2⟩:=inv.ker b hb
  exact (B8 d1 b).2 (Q7.2 b (h2 b k1 k2))
end
end Pe

namespace Pe
open Go Gq
variable {T:Nat→Option Fn} {A:ah}
section
variable {p:Int} [IsP p]
def a99 (vo:V) (b:Blk) (L:List (Fp p)):Prop:=(vo=.sl 4 [] 0 0 (some 0)∧b=.sl false (.arr 64 .leaf) []∧L=[])∨(vo=.d (.sl (.arr 64 .leaf) (L.map di))∧b=.hole)
theorem a9a {v:Fp p} (hv:v≠0) (y:Fp p):zp p (-rep (y.c (v.len-1))*inv p (rep (v.c (v.len-1))))=-(y.c (v.len-1))*Fd.inv v.ld:=by
 rw [B4,Bp,kq,show v.c (v.len-1)=v.ld from rfl,uc _ (Pol.ld_ne hv)]
theorem aby {O:ah} (hdg:iq O) (hinv:md O) (had:ja O) {m:Fp p} {S:List (Fp p)} (hml:m.len≤12) {ps:List (lk p)} (hv:KVals m S ps) (hn:ps.length≤12) {vo:V} {b4:Blk} {L:List (Fp p)} (hO:a99 vo b4 L) {Fz:List D} {i:Int} {cv cs:Option Nat}:∀(r k:Nat) (yx:lk p),k+r=ps.length→yx.1.len<m.len→yx.2.len<m.len →
 dn O 0 (.loop Z4u_L0) ⟨[(0,(.d (.int .i64 p))),(4,.ptr 0 []),(5,.ptr 1 []),(7,.sl 2 [] 0 ps.length cv),(8,.sl 3 [] 0 ps.length cs),(9,vo),(10,(.d (.int .i64 i))),(11,.ptr 5 []),(12,.ptr 6 []),(13,(.d (.int .i64 k)))],[.box false (D.arr 64 .leaf (ab .u8 (pad (row m)))),.box false (.arr 8 (.arr 64 .leaf) Fz),.sl false (.arr 64 .leaf) ((ps.map Prod.fst).map di),.sl false (.arr 64 .leaf) ((ps.map Prod.snd).map di),b4,.box false (D.arr 64 .leaf (ab .u8 (pad (row yx.2)))),.box false (D.arr 64 .leaf (ab .u8 (pad (row yx.1)))),.hole,.hole,.hole,.hole]⟩ =
  some (.exit 2,⟨[(0,(.d (.int .i64 p))),(4,.ptr 0 []),(5,.ptr 1 []),(7,.sl 2 [] 0 ps.length cv),(8,.sl 3 [] 0 ps.length cs),(9,vo),(10,(.d (.int .i64 i))),(11,.ptr 5 []),(12,.ptr 6 []),(13,(.d (.int .i64 ps.length))),(36,(.d (.bool false)))],[.box false (D.arr 64 .leaf (ab .u8 (pad (row m)))),.box false (.arr 8 (.arr 64 .leaf) Fz),.sl false (.arr 64 .leaf) ((ps.map Prod.fst).map di),.sl false (.arr 64 .leaf) ((ps.map Prod.snd).map di),b4,.box false (D.arr 64 .leaf (ab .u8 (pad (row (wv (ps.drop k) yx).2)))),.box false (D.arr 64 .leaf (ab .u8 (pad (row (wv (ps.drop k) yx).1)))),.hole,.hole,.hole,.hole]⟩)
 | 0,k,yx,hk,h1,h2=>by
  obtain rfl:k=ps.length:=by omega
  rw [ez,wv];refine bt ?_;generalize (ps.map Prod.fst).map di=VD at *;generalize (ps.map Prod.snd).map di=SD at *;generalize L.map di=LD at *;rcases hO with ⟨rfl,rfl,-⟩ | ⟨rfl,rfl⟩ <;> simp -implicitDefEqProofs [Z4u_L0,ac]
 | r+1,k,yx,hk,h1,h2=>by
  have hlt:k<ps.length:=by omega
  obtain ⟨o1,o2,o3,o4⟩:=hv.ok _ (bj hlt);have e1:=hdg p ps[k].1 (by omega)
  have hvp:=Pol.len_pos o1;rw [show (ps[k].1.len:Int)-1=((ps[k].1.len-1:Nat):Int) by omega] at e1
  have hr:=kl (ps[k].1.c (ps[k].1.len-1))
  have hrp:0<rep (ps[k].1.c (ps[k].1.len-1)):=by
   have:rep (ps[k].1.c (ps[k].1.len-1))≠0:=fun h=>Pol.ld_ne o1 (g7.1 h)
   omega
  have e2:=hinv p (rep (ps[k].1.c (ps[k].1.len-1))) hrp hr.2;have hy:=kl (yx.1.c (ps[k].1.len-1));have hii:0≤inv p (rep (ps[k].1.c (ps[k].1.len-1)))∧inv p (rep (ps[k].1.c (ps[k].1.len-1)))<p:=Ss (p:=p) (by omega) _
  have h7:=IsP.le (p:=p)
  have hb:-100≤-rep (yx.1.c (ps[k].1.len-1))*inv p (rep (ps[k].1.c (ps[k].1.len-1)))∧-rep (yx.1.c (ps[k].1.len-1))*inv p (rep (ps[k].1.c (ps[k].1.len-1)))≤100:=by
   have u1:0≤rep (yx.1.c (ps[k].1.len-1))*inv p (rep (ps[k].1.c (ps[k].1.len-1))):=fm hy.1 hii.1;have u2:rep (yx.1.c (ps[k].1.len-1))*inv p (rep (ps[k].1.c (ps[k].1.len-1)))≤7*7:=Int.mul_le_mul (by omega) (by omega) hii.1 (by omega)
   rw [Int.neg_mul]; omega
  have e3:=had p _ yx.1 ps[k].1 (by omega:-1000000≤-rep (yx.1.c (ps[k].1.len-1))*inv p (rep (ps[k].1.c (ps[k].1.len-1)))) (by omega) (by omega) (by omega)
  have e4:=had p _ yx.2 ps[k].2 (by omega:-1000000≤-rep (yx.1.c (ps[k].1.len-1))*inv p (rep (ps[k].1.c (ps[k].1.len-1)))) (by omega) (by omega) (by omega)
  rw [a9a o1] at e3 e4
  have hlen:(kst ps[k].1 ps[k].2 yx).1.len<m.len∧(kst ps[k].1 ps[k].2 yx).2.len<m.len:=by
   unfold kst;constructor
   ·show (yx.1+_).len<_
    rw [Gq.add_comm]; exact tu _ o2 h1
   ·show (yx.2+_).len<_
    rw [Gq.add_comm]; exact tu _ o3 h2
  have ih:=aby hdg hinv had hml hv hn hO (Fz:=Fz) (i:=i) (cv:=cv) (cs:=cs) r (k+1) (kst ps[k].1 ps[k].2 yx) (by omega) hlen.1 hlen.2
  have w4:IntKind.i64.wrap ((k:Int)+1)=((k+1:Nat):Int):=(w64 (x:=(k:Int)+1) (by omega)).trans (by omega)
  have hvl:((ps.map Prod.fst).map di).length=ps.length:=by simp
  have hsl:((ps.map Prod.snd).map di).length=ps.length:=by simp
  have hvg:∀h:k<((ps.map Prod.fst).map di).length,((ps.map Prod.fst).map di)[k]'h=(D.arr 64 .leaf (ab .u8 (pad (row ps[k].1)))):=fun h=>by simp
  have hsg:∀h:k<((ps.map Prod.snd).map di).length,((ps.map Prod.snd).map di)[k]'h=(D.arr 64 .leaf (ab .u8 (pad (row ps[k].2)))):=fun h=>by simp
  have hya:=tp (a:=yx.1) (by omega) (n:=ps[k].1.len-1)
  have hva:=tp (a:=ps[k].1) (by omega) (n:=ps[k].1.len-1)
  have ht64:ps[k].1.len-1<64:=by omega
  have hpy:(pad (row yx.1)).length=64:=ck _;have hpv:(pad (row ps[k].1)).length=64:=ck _;rw [show ps.drop k=ps[k]::ps.drop (k+1) from bu hlt];show _=some ((_:Out),(⟨_,[_,_,_,_,_,.box false (D.arr 64 .leaf (ab .u8 (pad (row (wv (ps.drop (k+1)) (kst ps[k].1 ps[k].2 yx)).2)))),.box false (D.arr 64 .leaf (ab .u8 (pad (row (wv (ps.drop (k+1)) (kst ps[k].1 ps[k].2 yx)).1)))),_,_,_,_]⟩:St));refine bm ?_ ih
  by_cases hz:rep (yx.1.c (ps[k].1.len-1))=0
  ·have hk0:kst ps[k].1 ps[k].2 yx=yx:=by
    unfold kst;rw [g7.1 hz,qj,Gq.zero_mul,Pol.C_zero,Gq.zero_mul,Gq.zero_mul,Gq.add_zero,Gq.add_zero]
   rw [hk0];clear e3 e4 hb ih;rw [hz] at hya;generalize ps[k].1.len-1=t at *;generalize pad (row ps[k].1)=Pv at *;generalize pad (row ps[k].2)=Ps at *;generalize pad (row yx.1)=Py at *;generalize pad (row yx.2)=Px at *;generalize pad (row m)=Pm at *;generalize (ps.map Prod.fst).map di=VD at *;generalize (ps.map Prod.snd).map di=SD at *;generalize L.map di=LD at *;rcases hO with ⟨rfl,rfl,-⟩ | ⟨rfl,rfl⟩ <;> simp -implicitDefEqProofs [Z4u_L0,ac,hlt,hvl,hvg,e1,hya,ht64,hpy,w4]
  ·have hks:kst ps[k].1 ps[k].2 yx=(yx.1+Pol.C (-(yx.1.c (ps[k].1.len-1))*Fd.inv ps[k].1.ld)*ps[k].1,yx.2+Pol.C (-(yx.1.c (ps[k].1.len-1))*Fd.inv ps[k].1.ld)*ps[k].2):=rfl
   rw [hks];have c1:IntKind.i64.wrap (rep (yx.1.c (ps[k].1.len-1)))=rep (yx.1.c (ps[k].1.len-1)):=w64 (by omega)
   have c2:IntKind.i64.wrap (-rep (yx.1.c (ps[k].1.len-1)))=-rep (yx.1.c (ps[k].1.len-1)):=w64 (by omega)
   have c3:IntKind.i64.wrap (inv p (rep (ps[k].1.c (ps[k].1.len-1))))=inv p (rep (ps[k].1.c (ps[k].1.len-1))):=w64 (by omega)
   have c4:IntKind.i64.wrap (-rep (yx.1.c (ps[k].1.len-1))*inv p (rep (ps[k].1.c (ps[k].1.len-1))))=-rep (yx.1.c (ps[k].1.len-1))*inv p (rep (ps[k].1.c (ps[k].1.len-1))):=w64 (by omega)
   clear ih;generalize pad (row (yx.1+Pol.C (-(yx.1.c (ps[k].1.len-1))*Fd.inv ps[k].1.ld)*ps[k].1))=Py2 at *;generalize pad (row (yx.2+Pol.C (-(yx.1.c (ps[k].1.len-1))*Fd.inv ps[k].1.ld)*ps[k].2))=Px2 at *;generalize inv p (rep (ps[k].1.c (ps[k].1.len-1)))=iv at *;generalize rep (ps[k].1.c (ps[k].1.len-1))=rv at *;generalize rep (yx.1.c (ps[k].1.len-1))=ry at *;generalize ps[k].1.len-1=t at *;generalize pad (row ps[k].1)=Pv at *;generalize pad (row ps[k].2)=Ps at *;generalize pad (row yx.1)=Py at *;generalize pad (row yx.2)=Px at *;generalize pad (row m)=Pm at *;generalize (ps.map Prod.fst).map di=VD at *;generalize (ps.map Prod.snd).map di=SD at *;generalize L.map di=LD at *;rcases hO with ⟨rfl,rfl,-⟩ | ⟨rfl,rfl⟩ <;> simp -implicitDefEqProofs [Z4u_L0,ac,hlt,hvl,hvg,hsl,hsg,e1,e2,e3,e4,hya,hva,ht64,hpy,hpv,hz,w4,c1,c2,c3,c4]
theorem a4a (i:Nat) (hi:i<64):(pad []).set i 1=pad (row (sc i:Fp p)):=by
 refine fh fun j=>?_
 by_cases hj:j<64
 ·have h1:(pad (row (sc i:Fp p)))[j]? = some (rep ((sc i:Fp p).c j)):=by
   have hl:j<(pad (row (sc i:Fp p))).length:=by rw [ck]; exact hj
   rw [au hl,tp (by rw [Lf]; omega)]
  rw [h1,List.getElem?_set];have hl:(pad []).length=64:=ck _
  by_cases hij:i=j
  ·rw [if_pos hij,hl,if_pos hi]
   show some 1=some (rep (if j=i then (1:Zp p) else 0))
   rw [if_pos hij.symm,zt]
  ·rw [if_neg hij,qt [] j hj,nj (by simp)]
   show some 0=some (rep (if j=i then (1:Zp p) else 0))
   rw [if_neg (jo hij),qk]
 ·rw [cb (by rw [cr,ck]; omega),cb (by rw [ck]; omega)]
theorem Qa {m:Fp p} {S:List (Fp p)}:∀i,(dp m S i).1.length≤i
 | 0=>ba _
 | i+1=>by
  have:=Qa (m:=m) (S:=S) i;show (Da m S i (dp m S i)).1.length≤_;unfold Da
  split
  ·show (dp m S i).1.length≤_; omega
  ·show ((dp m S i).1++[_]).length≤_; rw [bk,f0]; omega
theorem a6m {O:ah} (hdg:iq O) (hinv:md O) (had:ja O) (hva:wl O) (hpu:Rn O) {m:Fp p} (hm:Fld m) {S:List (Fp p)} (h8:S.length=8) (hS:∀a∈S,a.len<m.len):∀(r i:Nat) (vo:V) (b4:Blk) (cv cs:Option Nat),i+r=m.len-1→a99 vo b4 (dp m S i).2→∃(vo':V) (b4':Blk) (cv' cs':Option Nat),a99 vo' b4' (zn m S) ∧
 dn O 0 (.loop Z4u_L1) ⟨[(0,(.d (.int .i64 p))),(4,.ptr 0 []),(5,.ptr 1 []),(7,.sl 2 [] 0 (dp m S i).1.length cv),(8,.sl 3 [] 0 (dp m S i).1.length cs),(9,vo),(10,(.d (.int .i64 i)))],[.box false (D.arr 64 .leaf (ab .u8 (pad (row m)))),.box false (.arr 8 (.arr 64 .leaf) ((skP S).map aw)),.sl false (.arr 64 .leaf) (((dp m S i).1.map Prod.fst).map di),.sl false (.arr 64 .leaf) (((dp m S i).1.map Prod.snd).map di),b4,.hole,.hole,.hole,.hole,.hole,.hole]⟩ =
  some (.exit 0,⟨[(0,(.d (.int .i64 p))),(4,.ptr 0 []),(5,.ptr 1 []),(7,.sl 2 [] 0 (dp m S (m.len-1)).1.length cv'),(8,.sl 3 [] 0 (dp m S (m.len-1)).1.length cs'),(9,vo'),(10,(.d (.int .i64 (((m.len-1:Nat):Int))))),(22,(.d (.bool false)))],[.box false (D.arr 64 .leaf (ab .u8 (pad (row m)))),.box false (.arr 8 (.arr 64 .leaf) ((skP S).map aw)),.sl false (.arr 64 .leaf) (((dp m S (m.len-1)).1.map Prod.fst).map di),.sl false (.arr 64 .leaf) (((dp m S (m.len-1)).1.map Prod.snd).map di),b4',.hole,.hole,.hole,.hole,.hole,.hole]⟩)
 | 0,i,vo,b4,cv,cs,hi,hO=>by
  obtain rfl:i=m.len-1:=by omega
  have h5:=hm.five;have h2:=hm.two;have e1:=hdg p m (by omega)
  rw [show (m.len:Int)-1=((m.len-1:Nat):Int) by omega] at e1
  refine ⟨vo,b4,cv,cs,hO,bt ?_⟩;generalize ((dp m S (m.len-1)).1.map Prod.fst).map di=VD at *;generalize ((dp m S (m.len-1)).1.map Prod.snd).map di=SD at *;generalize ((dp m S (m.len-1)).2).map di=LD at *;generalize (dp m S (m.len-1)).1.length=n at *;generalize (skP S).map aw=Fz at *;generalize pad (row m)=Pm at *;generalize m.len-1=d at *;rcases hO with ⟨rfl,rfl,-⟩ | ⟨rfl,rfl⟩ <;> simp -implicitDefEqProofs [Z4u_L1,ac,e1]
 | r+1,i,vo,b4,cv,cs,hi,hO=>by
  have h5:=hm.five;have h2:=hm.two;have h0:=hm.mon.2;have hlt:i<m.len-1:=by omega
  have e1:=hdg p m (by omega)
  rw [show (m.len:Int)-1=((m.len-1:Nat):Int) by omega] at e1
  have inv:=vr h0 (by omega) S i (by omega)
  have hxl:(sc i:Fp p).len<m.len:=by rw [Lf]; omega
  have e2:=hva p m (sc i) S h2 (by omega) hxl h8 hS
  rw [show svI m (sc i) 0 S 0=sev m S (sc i) from rfl,show da (skP S)=.arr 8 (.arr 64 .leaf) ((skP S).map aw) from rfl] at e2;have hn:=Qa (m:=m) (S:=S) i;obtain ⟨q1,q2,q3,q4⟩:=inv.pair h0 (by omega)
  have e3:=aby (O:=O) hdg hinv had (S:=S) (by omega) inv.vals (by omega) hO (Fz:=(skP S).map aw) (i:=(i:Int)) (cv:=cv) (cs:=cs) (dp m S i).1.length 0 (sev m S (sc i),sc i) (bn _) (Gf h0 S _) hxl
  have e00:((0:Nat):Int)=0:=rfl;rw [e00,dc,show wv (dp m S i).1 (sev m S (sc i),sc i)=kpr m S (dp m S i).1 i from rfl] at e3;have e4:=hdg p (kpr m S (dp m S i).1 i).1 (by omega)
  have hset:=a4a (p:=p) i (by omega)
  have w4:IntKind.i64.wrap ((i:Int)+1)=((i+1:Nat):Int):=(w64 (x:=(i:Int)+1) (by omega)).trans (by omega)
  have hi64:i<64:=by omega
  have hp0:(pad []).length=64:=ck _;have hvl:(((dp m S i).1.map Prod.fst).map di).length=(dp m S i).1.length:=by simp
  have hsl:(((dp m S i).1.map Prod.snd).map di).length=(dp m S i).1.length:=by simp
  have hvt:(((dp m S i).1.map Prod.fst).map di).take (dp m S i).1.length=((dp m S i).1.map Prod.fst).map di:=bb (by omega)
  have hst:(((dp m S i).1.map Prod.snd).map di).take (dp m S i).1.length=((dp m S i).1.map Prod.snd).map di:=bb (by omega)
  by_cases hy:(kpr m S (dp m S i).1 i).1=0
  ·have e5:=hpu p (dp m S i).2 (kpr m S (dp m S i).1 i).2 inv.desc (by omega)
   have hks:dp m S (i+1)=((dp m S i).1,v7 (dp m S i).2 (kpr m S (dp m S i).1 i).2):=by
    show Da m S i (dp m S i)=_;unfold Da; rw [if_pos hy]
   have hO':a99 (p:=p) (.d (.sl (.arr 64 .leaf) ((v7 (dp m S i).2 (kpr m S (dp m S i).1 i).2).map di))) .hole (dp m S (i+1)).2:=.inr ⟨by rw [hks],rfl⟩
   obtain ⟨vo',b4',cv',cs',hO2,ih⟩:=a6m hdg hinv had hva hpu hm h8 hS r (i+1) _ .hole cv cs (by omega) hO'
   refine ⟨vo',b4',cv',cs',hO2,bm ?_ ih⟩;rw [hks];rw [hy,dq,Pol.len_zero] at e4;rw [hy,dq] at e3;have e0z:((0:Nat):Int)-1=-1:=rfl;rw [e0z] at e4;clear ih hO' hks;have hLn:(dp m S i).2=[]→(dp m S i).2.map di=[]:=fun h=>by rw [h]; rfl
   show _=some ((_:Out),(⟨[_,_,_,(7,.sl 2 [] 0 (dp m S i).1.length cv),(8,.sl 3 [] 0 (dp m S i).1.length cs),_,_],[_,_,.sl false (.arr 64 .leaf) (((dp m S i).1.map Prod.fst).map di),.sl false (.arr 64 .leaf) (((dp m S i).1.map Prod.snd).map di),_,_,_,_,_,_,_]⟩:St));generalize (v7 (dp m S i).2 (kpr m S (dp m S i).1 i).2).map di=PD at *;generalize pad (row (kpr m S (dp m S i).1 i).2)=Px2 at *;generalize pad (row (sev m S (sc i)))=Py at *;generalize pad (row (sc i:Fp p))=Pt at *;generalize ((dp m S i).1.map Prod.fst).map di=VD at *;generalize ((dp m S i).1.map Prod.snd).map di=SD at *;generalize (dp m S i).1.length=n at *;generalize (skP S).map aw=Fz at *;generalize pad (row m)=Pm at *;generalize m.len-1=d at *;rcases hO with ⟨rfl,rfl,hL⟩ | ⟨rfl,rfl⟩
   ·have hLD:=hLn hL
    generalize (dp m S i).2.map di=LD at *;subst hLD;simp -implicitDefEqProofs [Z4u_L1,ac,hlt,e1,e2,e3,e4,e5,hset,hi64,hp0,w4]
   ·generalize (dp m S i).2.map di=LD at *
    simp -implicitDefEqProofs [Z4u_L1,ac,hlt,e1,e2,e3,e4,e5,hset,hi64,hp0,w4]
  ·have hks:dp m S (i+1)=((dp m S i).1++[kpr m S (dp m S i).1 i],(dp m S i).2):=by
    show Da m S i (dp m S i)=_;unfold Da; rw [if_neg hy]
   obtain ⟨vo',b4',cv',cs',hO2,ih⟩:=a6m hdg hinv had hva hpu hm h8 hS r (i+1) vo b4 none none (by omega) (by rw [hks]; exact hO)
   refine ⟨vo',b4',cv',cs',hO2,bm ?_ ih⟩;rw [hks];have hyl:=Pol.len_pos hy;have hneg:¬ ((kpr m S (dp m S i).1 i).1.len:Int)-1<0:=by omega
   have hmf:(((dp m S i).1++[kpr m S (dp m S i).1 i]).map Prod.fst).map di=((dp m S i).1.map Prod.fst).map di++[(D.arr 64 .leaf (ab .u8 (pad (row (kpr m S (dp m S i).1 i).1))))]:=by simp
   have hms:(((dp m S i).1++[kpr m S (dp m S i).1 i]).map Prod.snd).map di=((dp m S i).1.map Prod.snd).map di++[(D.arr 64 .leaf (ab .u8 (pad (row (kpr m S (dp m S i).1 i).2))))]:=by simp
   show _=some ((_:Out),(⟨[_,_,_,(7,.sl 2 [] 0 ((dp m S i).1++[kpr m S (dp m S i).1 i]).length none),(8,.sl 3 [] 0 ((dp m S i).1++[kpr m S (dp m S i).1 i]).length none),_,_],[_,_,.sl false (.arr 64 .leaf) ((((dp m S i).1++[kpr m S (dp m S i).1 i]).map Prod.fst).map di),.sl false (.arr 64 .leaf) ((((dp m S i).1++[kpr m S (dp m S i).1 i]).map Prod.snd).map di),_,_,_,_,_,_,_]⟩:St));rw [hmf,hms,bk,f0];clear ih hks hmf hms;have h64:((dp m S i).1.length+1)*64≤1099511627776:=by omega
   generalize ((kpr m S (dp m S i).1 i).1.len:Int)-1=dy at *;generalize pad (row (kpr m S (dp m S i).1 i).1)=Py2 at *;generalize pad (row (kpr m S (dp m S i).1 i).2)=Px2 at *;generalize pad (row (sev m S (sc i)))=Py at *;generalize pad (row (sc i:Fp p))=Pt at *;generalize ((dp m S i).1.map Prod.fst).map di=VD at *;generalize ((dp m S i).1.map Prod.snd).map di=SD at *;generalize (dp m S i).1.length=n at *;generalize (skP S).map aw=Fz at *;generalize pad (row m)=Pm at *;generalize m.len-1=d at *;generalize (dp m S i).2.map di=LD at *;rcases hO with ⟨rfl,rfl,hL⟩ | ⟨rfl,rfl⟩ <;> simp -implicitDefEqProofs [Z4u_L1,ac,hlt,e1,e2,e3,e4,hneg,hset,hi64,hp0,w4,hvl,hsl,hvt,hst,h64,List.replicate]
end
def Hf (O:ah):Prop:=∀(p:Int) [IsP p] (m:Fp p) (S:List (Fp p)),Fld m→S.length=8→(∀a∈S,a.len<m.len)→ask O F4u [(D.int .i64 p),(D.arr 64 .leaf (ab .u8 (pad (row m)))),da (skP S)]=some (.sl (.arr 64 .leaf) ((zn m S).map di))
theorem a1t (hT:T F4u=some Z4u) (hdg:iq (den T A)) (hinv:md (den T A)) (had:ja (den T A)) (hva:wl (den T A)) (hpu:Rn (den T A)):Hf (den T A):=by
 intro p ip m S hm h8 hS;have h2:=hm.two;obtain ⟨vo,b4,cv,cs,hO,e⟩:=a6m (O:=den T A) hdg hinv had hva hpu hm h8 hS (m.len-1) 0 (.sl 4 [] 0 0 (some 0)) (.sl false (.arr 64 .leaf) []) (some 0) (some 0) (bn _) (.inl ⟨rfl,rfl,rfl⟩);have e00:((0:Nat):Int)=0:=rfl;rw [e00,show dp m S 0=([],[]) from rfl] at e;have e':dn (den T A) 0 (.loop Z4u_L1) ⟨[(0,(.d (.int .i64 p))),(4,.ptr 0 []),(5,.ptr 1 []),(7,.sl 2 [] 0 0 (some 0)),(8,.sl 3 [] 0 0 (some 0)),(9,.sl 4 [] 0 0 (some 0)),(10,(.d (.int .i64 0)))],[.box false (D.arr 64 .leaf (ab .u8 (pad (row m)))),.box false (.arr 8 (.arr 64 .leaf) ((skP S).map aw)),.sl false (.arr 64 .leaf) [],.sl false (.arr 64 .leaf) [],.sl false (.arr 64 .leaf) [],.hole,.hole,.hole,.hole,.hole,.hole]⟩=_:=e;clear e;have hsk:da (skP S)=.arr 8 (.arr 64 .leaf) ((skP S).map aw):=rfl;rw [hsk];refine bi hT rfl ?_;generalize ((dp m S (m.len-1)).1.map Prod.fst).map di=VD at *;generalize ((dp m S (m.len-1)).1.map Prod.snd).map di=SD at *;generalize (dp m S (m.len-1)).1.length=n at *;generalize (skP S).map aw=Fz at *;generalize pad (row m)=Pm at *;rcases hO with ⟨rfl,rfl,hL⟩ | ⟨rfl,rfl⟩
 ·rw [hL]
  simp -implicitDefEqProofs [Z4u,Z4u_B,e',List.replicate]
 ·generalize (zn m S).map di=KD at *
  simp -implicitDefEqProofs [Z4u,Z4u_B,e',List.replicate]
end Pe


namespace Pe
open Go Gq
variable {T:Nat→Option Fn} {A:ah}
section
variable {p:Int} [IsP p]
open Classical in
noncomputable def zsS (m:Fp p) (S:List (Fp p)):Nat→List (Fp p)
 | 0=>[]
 | n+1=>zsS m S n++(if sev m S (jb p n)=0 then [jb p n] else [])
theorem Jx {m:Fp p} {S:List (Fp p)}:∀(n:Nat) (x:Fp p),x∈zsS m S n↔∃k:Nat,k<n∧x=jb p k∧sev m S x=0
 | 0,x=>by
  constructor
  ·intro h; cases h
  ·rintro ⟨k,h,-⟩; omega
 | n+1,x=>by
  rw [zsS,bp,Jx n x];constructor
  ·rintro (⟨k,h1,h2,h3⟩ | h)
   ·exact ⟨k,by omega,h2,h3⟩
   ·split at h
    ·rename_i h0
     obtain rfl:=cl.1 h;exact ⟨n,by omega,rfl,h0⟩
    ·cases h
  ·rintro ⟨k,h1,rfl,h3⟩
   by_cases hk:k<n
   ·exact .inl ⟨k,hk,rfl,h3⟩
   ·obtain rfl:k=n:=by omega
    right;rw [if_pos h3]; simp
theorem T1 {m:Fp p} {S:List (Fp p)}:∀n,(zsS m S n).length≤n
 | 0=>ba _
 | n+1=>by
  have:=T1 (m:=m) (S:=S) n;rw [zsS,bk]
  split
  ·simp only [f0]; omega
  ·simp only [cw]; omega
theorem a2g {m:Fp p} (hm:Fld m):∃N:Nat,(N:Int)=p^(m.len-1)∧1≤N∧N≤2401:=by
 have h5:=hm.five;have h1:(1:Int)≤p^(m.len-1):=p7 _;have h2:p^(m.len-1)≤p^4:=n5 (p:=p) (by have:=IsP.pos (p:=p); omega) (by omega)
 have h3:p^4≤2401:=by rcases IsP.h (p:=p) with h | h | h | h <;> subst h <;> decide
 exact ⟨(p^(m.len-1)).toNat,by omega,by omega,by omega⟩
theorem a0j {m:Fp p} (h2:2≤m.len) {N:Nat} (hN:(N:Int)=p^(m.len-1)) (hb:N≤2401) {k:Nat} (hk:k<N):(jb p (k:Int)).len<m.len:=by
 have:=Pol.len_le (G0 (p:=p) (n:=(k:Int)) ⟨by omega,by omega⟩ (d:=m.len-1) (by omega))
 omega
theorem aaz {m:Fp p} (hm:Fld m) {S:List (Fp p)} {N:Nat} (hN:(N:Int)=p^(m.len-1)) (hb:N≤2401):iw (zsS m S N) []=zn m S:=by
 have h5:=hm.five;have h2:=hm.two;refine a7m hm.mon.2 (by omega) (fun x hx=>?_) fun x hx h0=>?_
 ·obtain ⟨k,h1,rfl,h3⟩:=(Jx N x).1 hx
  exact ⟨a0j h2 hN hb h1,h3⟩
 ·have h1:=Ap x
  have h3:p^x.len≤p^(m.len-1):=n5 (p:=p) (by have:=IsP.pos (p:=p); omega) (by omega)
  have e:=Ee (a:=x) (by omega)
  refine (Jx N x).2 ⟨(fw x).toNat,by omega,?_,h0⟩
  rw [show (((fw x).toNat:Nat):Int)=fw x by omega,e]
theorem a5o {O:ah} (hnu:tj O) (hva:zv O) {m:Fp p} (hm:Fld m) {S:List (Fp p)} (h8:S.length=8) (hS:∀a∈S,a.len<m.len) {N:Nat} (hb:N≤2401):∀(r i:Nat) (cp:Option Nat),i+r=N→∃cp':Option Nat,
 dn O 0 (.loop ir_impl_KernelOfSkew_L0) ⟨[(9,.ptr 3 []),(10,.d (skD (az S))),(11,.sl 4 [] 0 (zsS m S i).length cp),(32,(.d (.int .i64 N))),(33,(.d (.int .i64 i)))],[.hole,.hole,.hole,.box false (ka m),.sl false .leaf ((zsS m S i).map bw),.hole,.hole]⟩ =
  some (.exit 0,⟨[(9,.ptr 3 []),(10,.d (skD (az S))),(11,.sl 4 [] 0 (zsS m S N).length cp'),(32,(.d (.int .i64 N))),(33,(.d (.int .i64 N))),(34,(.d (.bool false)))],[.hole,.hole,.hole,.box false (ka m),.sl false .leaf ((zsS m S N).map bw),.hole,.hole]⟩)
 | 0,i,cp,hi=>by
  obtain rfl:i=N:=by omega
  refine ⟨cp,bt ?_⟩;generalize (zsS m S i).map bw=ZD at *;generalize az S=TS at *;simp -implicitDefEqProofs [ir_impl_KernelOfSkew_L0,ac]
 | r+1,i,cp,hi=>by
  have h5:=hm.five;have h2:=hm.two;have hlt:i<N:=by omega
  have e1:=hnu p i (by omega) (by omega)
  have hnl:=a5k (p:=p) i;have hTl:(az S).length≤S.length:=by unfold az; rw [bq]; omega
  have e2:=hva p m (jb p i) (az S) h2 (by omega) (by omega) (by omega) (fun c hc=>by
   have:c∈S:=lr hc;have:=hS c this;omega)
  rw [Aq hm.mon.2,show svI m (jb p i) 0 S 0=sev m S (jb p i) from rfl] at e2;have hzl:=T1 (m:=m) (S:=S) i;have hrl:(row (sev m S (jb p i))).length=(sev m S (jb p i)).len:=cg _;have w4:IntKind.i64.wrap ((i:Int)+1)=((i+1:Nat):Int):=(w64 (x:=(i:Int)+1) (by omega)).trans (by omega)
  have hfd:ka m=.st [.leaf,.leaf] [(D.int .i64 p),(D.sl .leaf (ab .i64 (row m)))]:=rfl;have hZ:((zsS m S i).map bw).length=(zsS m S i).length:=ap ..;have hZt:((zsS m S i).map bw).take (zsS m S i).length=(zsS m S i).map bw:=bb (by omega)
  have h24:((zsS m S i).length+1)*24≤1099511627776:=by omega
  by_cases h0:sev m S (jb p i)=0
  ·have hz:zsS m S (i+1)=zsS m S i++[jb p i]:=by rw [zsS,if_pos h0]
   obtain ⟨cp',ih⟩:=a5o hnu hva hm h8 hS hb r (i+1) none (by omega)
   refine ⟨cp',bm ?_ ih⟩;rw [hz,fd,bk,f0,show [jb p (i:Int)].map bw=[(D.sl .leaf (ab .i64 (row (jb p i))))] from rfl];rw [h0,dq] at e2;rw [hfd] at e2 ⊢;clear ih hrl;generalize row (jb p i)=Rx at *;generalize (zsS m S i).map bw=ZD at *;generalize (zsS m S i).length=zl at *;generalize az S=TS at *;generalize row m=Rm at *;simp -implicitDefEqProofs [ir_impl_KernelOfSkew_L0,ac,hlt,e1,e2,w4,hZ,hZt,h24,List.replicate]
  ·have hz:zsS m S (i+1)=zsS m S i:=by rw [zsS,if_neg h0,qw]
   obtain ⟨cp',ih⟩:=a5o hnu hva hm h8 hS hb r (i+1) cp (by omega)
   refine ⟨cp',bm ?_ ih⟩;rw [hz];have hpos:=Pol.len_pos h0;have hne:(row (sev m S (jb p i))).length≠0:=by omega
   have hne2:¬ row (sev m S (jb p i))=[]:=fun h=>hne (by rw [h]; rfl)
   rw [hfd] at e2 ⊢;clear ih;generalize row (sev m S (jb p i))=Rv at *;generalize row (jb p i)=Rx at *;generalize (zsS m S i).map bw=ZD at *;generalize (zsS m S i).length=zl at *;generalize az S=TS at *;generalize row m=Rm at *;simp -implicitDefEqProofs [ir_impl_KernelOfSkew_L0,ac,hlt,e1,e2,hne,w4]
end
open Classical in
noncomputable def kL (p:Int) (l:List Int) (ls:List (List Int)):List (List Int):=
 if h:Oa p l ls then
  haveI:IsP p:=h.choose
  skP (zn (ew p l) (ls.map (ew p)))
 else []
theorem Gs {p:Int} [IsP p] {m:Fp p} {S:List (Fp p)} (h:Oa p (pad (row m)) (skP S)) (hm:m.len≤64) (hS:∀a∈S,a.len≤64):kL p (pad (row m)) (skP S)=skP (zn m S):=by
 unfold kL;rw [dif_pos h,kh hS,lh hm]
theorem Sz {p:Int} {l:List Int} {ls:List (List Int)} (h:¬ Oa p l ls):kL p l ls=[]:=by unfold kL; rw [dif_neg h]
theorem E9 {p:Int} [IsP p] {m:Fp p} (hm:Fld m) (S:List (Fp p)):(zn m S).length≤11∧∀b∈zn m S,b.len<m.len∧sev m S b=0:=by
 have h5:=hm.five;have inv:=vr hm.mon.2 (by omega) S (m.len-1) (by have:=hm.two; omega)
 exact ⟨inv.desc.length,inv.ker⟩
theorem aij (p:Int) (l:List Int) (ls:List (List Int)):(∀x∈kL p l ls,x.length=64)∧(kL p l ls).length≤11:=by
 by_cases h:Oa p l ls
 ·have h':=h
  obtain ⟨ip,m,rfl,hm,hs⟩:=h;obtain ⟨S,rfl,hS⟩:=uh hs;have h5:=hm.five;rw [Gs h' (by omega) (fun a ha=>by have:=hS a ha; omega)]
  refine ⟨fun x hx=>by obtain ⟨a,_,rfl⟩:=cj.1 hx; exact ck _,?_⟩
  rw [ap]; exact (E9 hm S).1
 ·rw [Sz h]; exact ⟨fun x hx=>by simp at hx,by simp⟩
noncomputable def a5g (p:Int) (l:List Int) (ls:List (List Int)):D:=.tup [.sl (.arr 64 .leaf) ((kL p l ls).map aw),(D.int .i64 (eg p l [ls]))]
theorem Ni {p:Int} {l:List Int} {ls:List (List Int)} (h:¬ Oa p l ls):eg p l [ls]=1:=by
 rcases I6 p l [ls] with c | c
 ·exact absurd (Ew.1 c) h
 ·exact c
def kj (O:ah) (F:Nat):Prop:=∀(p:Int) (l:List Int) (ls:List (List Int)),g9 l→l.length=64→Sk8 ls→ask O F [(D.int .i64 p),(D.arr 64 .leaf (ab .u8 l)),da ls]=some (a5g p l ls)
theorem N0 (hT:T F7=some Z7) (hsc:fp (den T A) F27) (hfo:mi (den T A)) (hsk:sr (den T A)) (hdg:o7 (den T A)) (hno:Sg (den T A)) (hnu:tj (den T A)) (hva:zv (den T A)) (hre:Cq (den T A)) (hpo:Jl (den T A)):kj (den T A) F7:=by
 intro p l ls bl gl h8;have e1:=hsc p l [ls] bl gl (by simpa using h8) (by simp)
 rw [show List.map da [ls]=[da ls] from rfl] at e1;have hskd:da ls=.arr 8 (.arr 64 .leaf) (ls.map aw):=rfl;unfold a5g;rw [hskd] at e1 ⊢
 by_cases h:Oa p l ls
 ·rw [Ew.2 h] at e1 ⊢
  have h':=h;obtain ⟨ip,m,rfl,hm,hs⟩:=h;obtain ⟨S,rfl,hS⟩:=uh hs;have h5:=hm.five;have h2:=hm.two;have hS8:S.length=8:=by have:=h8.2; rwa [ap] at this
  have hS64:∀a∈S,a.len≤64:=fun a ha=>by have:=hS a ha; omega
  obtain ⟨N,hN,hN1,hb⟩:=a2g hm;have e3:=hfo p m (by omega)
  have e4:=hsk p S hS8 hS64;have e5:=hdg (row m) (by rw [cg]; omega)
  rw [cg,show (m.len:Int)-1=((m.len-1:Nat):Int) by omega] at e5
  have e6:=hno p (m.len-1) 1099511627776 (by omega) (by omega)
  rw [M8 (m.len-1) 1 (by omega) (by omega),Int.one_mul,←hN] at e6
  obtain ⟨cp,e7⟩:=a5o (O:=den T A) hnu hva hm hS8 hS hb N 0 (some 0) (bn _);have e00:((0:Nat):Int)=0:=rfl;rw [e00,show zsS m S 0=[] from rfl,ij,cw] at e7;have hzl:=T1 (m:=m) (S:=S) N
  have e8:=hre p (zsS m S N) (fun x hx=>by
   obtain ⟨k,hk,rfl,-⟩:=(Jx N x).1 hx;have:=a0j h2 hN hb hk;omega) (by omega)
  rw [aaz hm hN hb] at e8;obtain ⟨hk1,hk2⟩:=E9 hm S;have e9:=hpo p (zn m S) (by omega) (fun x hx=>by have:=(hk2 x hx).1; omega)
  rw [show kL p (pad (row m)) (S.map fun a=>pad (row a))=skP (zn m S) from Gs h' (by omega) hS64,yv (zn m S)]
  rw [show da (skP S)=.arr 8 (.arr 64 .leaf) ((S.map fun a=>pad (row a)).map aw) from rfl] at e4
  have hZ:((zsS m S N).map bw).length=(zsS m S N).length:=ap ..;have hZt:((zsS m S N).map bw).take (zsS m S N).length=(zsS m S N).map bw:=bb (by omega)
  have hts:skD (az S)=.sl .leaf ((az S).map fun c=>(D.sl .leaf (ab .i64 (row c)))):=rfl
  have hfd:ka m=.st [.leaf,.leaf] [(D.int .i64 p),(D.sl .leaf (ab .i64 (row m)))]:=rfl;rw [hfd] at e3 e7;rw [hts] at e4 e7;refine bi hT rfl ?_;generalize (zn m S).map di=KP at *;generalize (zn m S).map bw=KR at *;generalize (zsS m S N).map bw=ZD at *;generalize (zsS m S N).length=zl at *;generalize ((az S).map fun c=>(D.sl .leaf (ab .i64 (row c))))=TS at *
  generalize (S.map fun a=>pad (row a)).map aw=LS at *
  generalize pad (row m)=Pm at *;generalize row m=Rm at *;generalize m.len-1=d at *;simp -implicitDefEqProofs [Z7,ir_impl_KernelOfSkew_B,ac,e1,e3,e4,e5,e6,e7,e8,e9,hZ,hZt,List.replicate]
 ·rw [Ni h] at e1 ⊢
  rw [Sz h,ij];refine bi hT rfl ?_;generalize ls.map aw=LD at *;simp -implicitDefEqProofs [Z7,ir_impl_KernelOfSkew_B,ac,e1,List.replicate]
theorem J8 (hT:T F3o=some Z3o) (hsc:fp (den T A) F4k) (hke:Hf (den T A)):kj (den T A) F3o:=by
 intro p l ls bl gl h8;have e1:=hsc p l [ls] bl gl (by simpa using h8) (by simp)
 rw [show List.map da [ls]=[da ls] from rfl] at e1;have hskd:da ls=.arr 8 (.arr 64 .leaf) (ls.map aw):=rfl;unfold a5g;rw [hskd] at e1 ⊢
 by_cases h:Oa p l ls
 ·rw [Ew.2 h] at e1 ⊢
  have h':=h;obtain ⟨ip,m,rfl,hm,hs⟩:=h;obtain ⟨S,rfl,hS⟩:=uh hs;have h5:=hm.five;have hS8:S.length=8:=by have:=h8.2; rwa [ap] at this
  have hS64:∀a∈S,a.len≤64:=fun a ha=>by have:=hS a ha; omega
  have e2:=hke p m S hm hS8 hS;rw [show kL p (pad (row m)) (S.map fun a=>pad (row a))=skP (zn m S) from Gs h' (by omega) hS64,yv (zn m S)]
  rw [show da (skP S)=.arr 8 (.arr 64 .leaf) ((S.map fun a=>pad (row a)).map aw) from rfl] at e2
  refine bi hT rfl ?_;generalize (zn m S).map di=KP at *;generalize (S.map fun a=>pad (row a)).map aw=LS at *
  generalize pad (row m)=Pm at *;simp -implicitDefEqProofs [Z3o,ir_spec_KernelOfSkew_B,ac,e1,e2,List.replicate]
 ·rw [Ni h] at e1 ⊢
  rw [Sz h,ij];refine bi hT rfl ?_;generalize ls.map aw=LD at *;simp -implicitDefEqProofs [Z3o,ir_spec_KernelOfSkew_B,ac,e1,List.replicate]
end Pe

namespace Pe
open Go Gq
variable {T:Nat→Option Fn} {A:ah}
abbrev Ww (code:List Int) (at_:Nat) (h:Int):Blk:=.box false (.st [.leaf,.leaf,.leaf] [.sl .leaf (ab .u8 code),.int .i64 at_,.int .u64 h])
def Src (b:Blk):Prop:=∃(code:List Int) (at_:Nat) (h:Int),b=Ww code at_ h∧at_≤code.length∧code.length≤1099511627776∧g9 code
theorem a66 {n:Nat} (h:n≤16777215):IntKind.u64.wrap (n:Int)=n:=by
 simp [IntKind.wrap,IntKind.bits,IntKind.signed]; omega
theorem a9l (x:Int):0≤a1v .u64 x 16777215∧a1v .u64 x 16777215≤16777215:=by
 have h1:(BitVec.ofInt 64 x &&& BitVec.ofInt 64 16777215).toNat≤16777215:=by
  rw [BitVec.toNat_and];exact Nat.and_le_right
 have h2:a1v .u64 x 16777215=((BitVec.ofInt 64 x &&& BitVec.ofInt 64 16777215).toNat:Int):=a66 h1;rw [h2];omega
theorem ac1:(2:Int)^min 33 IntKind.u64.bits=8589934592:=rfl
def pb (O:ah) (F:Nat):Prop:=∀(b:Blk) (n:Int),Src b→n≤4611686018427387904→∃(x:Int) (b':Blk),O F [.ptr 0 [],(.d (.int .i64 n))] [b]=some ((.d (.int .i64 x)),[b'],[])∧Src b'∧0≤x∧(x<n∨x=0)
theorem ads (hT:T F4a=some Z4a):pb (den T A) F4a:=by
 rintro b n ⟨code,k,h,rfl,hk,hc,hb⟩ hn
 by_cases h1:n<1
 ·refine ⟨0,_,jh hT rfl ?_,⟨code,k,h,rfl,hk,hc,hb⟩,xr _,.inr rfl⟩
  simp -implicitDefEqProofs [Z4a,Z4a_B,ac,h1]
 ·obtain ⟨hh,hhh⟩:∃hh:Int,IntKind.u64.wrap (IntKind.u64.wrap (h*6364136223846793005)+1442695040888963407)=hh:=⟨_,rfl⟩
  have hx:=a9l (hh.fdiv 8589934592);obtain ⟨x,hX⟩:∃x:Int,a1v .u64 (hh.fdiv 8589934592) 16777215=x:=⟨_,rfl⟩;rw [hX] at hx;have w0:IntKind.i64.wrap x=x:=w64 (by omega)
  have hn0:¬ n=0:=by omega
  have tm:∀y:Int,0≤y→0≤y.tmod n∧y.tmod n<n:=fun y hy=>by
   rw [ct hy];exact ⟨dt _ hn0,cz _ (by omega)⟩
  by_cases h2:k<code.length
  ·have hbk:=hb _ (bj h2)
   have h2':(k:Int)<code.length:=by omega
   have w1:IntKind.i64.wrap code[k]=code[k]:=w64 (by omega)
   have w2:IntKind.i64.wrap (x+code[k])=x+code[k]:=w64 (by omega)
   have w3:IntKind.i64.wrap ((k:Int)+1)=((k+1:Nat):Int):=(w64 (x:=(k:Int)+1) (by omega)).trans (by omega)
   obtain ⟨t1,t2⟩:=tm (x+code[k]) (by omega)
   refine ⟨(x+code[k]).tmod n,Ww code (k+1) hh,jh hT rfl ?_,⟨code,k+1,hh,rfl,by omega,hc,hb⟩,t1,.inl t2⟩
   simp -implicitDefEqProofs [Z4a,Z4a_B,ac,zm,ac1,h1,hn0,h2,h2',hhh,hX,w0,w1,w2,w3]
  ·have h2':¬ (k:Int)<code.length:=by omega
   obtain ⟨t1,t2⟩:=tm x (by omega)
   refine ⟨x.tmod n,Ww code k hh,jh hT rfl ?_,⟨code,k,hh,rfl,hk,hc,hb⟩,t1,.inl t2⟩;simp -implicitDefEqProofs [Z4a,Z4a_B,ac,zm,ac1,h1,hn0,h2',hhh,hX,w0]
theorem a6q {O:ah} {code:List Int} (hc:code.length≤4096) (hb:g9 code):∀(r i:Nat) (h:Int),i+r=code.length→∃h':Int,
 dn O 0 (.loop Z41_L0) ⟨[(0,.d (.sl .leaf (ab .u8 code))),(3,.ptr 0 []),(4,(.d (.int .i64 i)))],[Ww code 0 h]⟩ =
  some (.exit 0,⟨[(0,.d (.sl .leaf (ab .u8 code))),(3,.ptr 0 []),(4,(.d (.int .i64 code.length))),(19,(.d (.bool false)))],[Ww code 0 h']⟩)
 | 0,i,h,hi=>by
  obtain rfl:i=code.length:=by omega
  refine ⟨h,bt ?_⟩;simp -implicitDefEqProofs [Z41_L0,ac]
 | r+1,i,h,hi=>by
  have hlt:i<code.length:=by omega
  have hlt':(i:Int)<code.length:=by omega
  have hq:(i:Int)<4096:=by omega
  have hbk:=hb _ (bj hlt);have w4:IntKind.i64.wrap ((i:Int)+1)=((i+1:Nat):Int):=(w64 (x:=(i:Int)+1) (by omega)).trans (by omega)
  obtain ⟨h2,hh2⟩:∃h2:Int,IntKind.u64.wrap (IntKind.u64.wrap (IntKind.u64.wrap (h*1099511628211)+IntKind.u64.wrap code[i])+61)=h2:=⟨_,rfl⟩;obtain ⟨h',ih⟩:=a6q hc hb r (i+1) h2 (by omega)
  refine ⟨h',bm ?_ ih⟩;simp -implicitDefEqProofs [Z41_L0,ac,hlt,hlt',hq,w4,hh2]
def E8 (O:ah):Prop:=∀code:List Int,g9 code→code.length≤4096→∃b:Blk,O F41 [.d (.sl .leaf (ab .u8 code))] []=some (.ptr 0 [],[],[b])∧Src b
theorem aef (hT:T F41=some Z41):E8 (den T A):=by
 intro code hb hc;obtain ⟨h0,hh0⟩:∃h0:Int,IntKind.u64.wrap (12251+IntKind.u64.wrap (code.length:Int))=h0:=⟨_,rfl⟩;obtain ⟨h',e⟩:=a6q (O:=den T A) hc hb code.length 0 h0 (bn _);rw [show ((0:Nat):Int)=0 from rfl,show Ww code 0 h0=.box false (.st [.leaf,.leaf,.leaf] [.sl .leaf (ab .u8 code),.int .i64 0,.int .u64 h0]) from rfl] at e;refine ⟨Ww code 0 h',jh hT rfl ?_,⟨code,0,h',rfl,kg _,by omega,hb⟩⟩
 simp -implicitDefEqProofs [Z41,Z41_B,hh0,e,List.idxOf,List.findIdx,List.findIdx.go]
def Lz (O:ah):Prop:=∀(b:Blk) (l:List Int) (n:Nat) (cp:Option Nat),Src b→l.length=n→0<n→n≤100→∃(x:Int) (b':Blk),O F4c [.ptr 0 [],.sl 1 [] 0 n cp] [b,.sl false .leaf (ab .i64 l)]=some ((.d (.int .i64 x)),[b',.sl false .leaf (ab .i64 l)],[])∧Src b'∧x∈l
theorem acj (hT:T F4c=some Z4c) (hn:pb (den T A) F4a):Lz (den T A):=by
 rintro b l n cp hs hl hpos hm
 obtain ⟨x,b',e,hs',h0,h1⟩:=hn b n hs (by omega)
 obtain ⟨k,rfl⟩:∃k:Nat,x=k:=⟨x.toNat,by omega⟩
 have hk:k<n:=by omega
 have hkl:k<l.length:=by omega
 obtain ⟨c,a,h,rfl,_⟩:=id hs;obtain ⟨c',a',h',rfl,_⟩:=id hs';refine ⟨l[k],_,jh hT rfl ?_,hs',bj hkl⟩;simp -implicitDefEqProofs [Z4c,Z4c_B,e,hk,hl,List.idxOf,List.findIdx,List.findIdx.go]
end Pe

namespace Pe
open Go Gq
variable {T:Nat→Option Fn} {A:ah}
def xk (O:ah):Prop:=∀b:Blk,Src b→∃(p:Int) (b':Blk),O F40 [.ptr 0 []] [b]=some ((.d (.int .i64 p)),[b'],[])∧Src b'∧IsP p
theorem Vl (hT:T F40=some Z40) (hp:Lz (den T A)):xk (den T A):=by
 intro b hs;obtain ⟨x,b',e,hs',hx⟩:=hp b [2,2,3,3,5,7] 6 (some 6) hs rfl (by omega) (by omega)
 rw [show ab .i64 [2,2,3,3,5,7]=[.int .i64 2,.int .i64 2,.int .i64 3,.int .i64 3,.int .i64 5,.int .i64 7] from rfl] at e;obtain ⟨c,a,h,rfl,_⟩:=id hs;obtain ⟨c',a',h',rfl,_⟩:=id hs';refine ⟨x,_,jh hT rfl ?_,hs',⟨by simp at hx; omega⟩⟩
 simp -implicitDefEqProofs [Z40,Z40_B,e,List.replicate,List.idxOf,List.findIdx,List.findIdx.go]
structure DrI (p:Int) (Q:List Int) (n:Nat):Prop where
 l:Q.length=64
 c:Can p Q
 z:∀j,n≤j→cf Q j=0
theorem DrI.set {p:Int} {Q:List Int} {n k:Nat} {x:Int} (h:DrI p Q n) (h0:0≤x) (h1:x<p) (hk:k<n):DrI p (Q.set k x) n:=
 ⟨by rw [cr]; exact h.l,fun y hy=>by
  rcases dh hy with g | rfl
  ·exact h.c y g
  ·exact ⟨h0,h1⟩,fun j hj=>by rw [tk,if_neg (by omega)]; exact h.z j hj⟩
section
variable {p:Int} [IsP p]
theorem DrI.pol {Q:List Int} {n:Nat} (h:DrI p Q n):Q=pad (row (ew p Q))∧(ew p Q).len≤n:=
 ⟨Hw h.c h.l,Pol.len_le fun j hj=>by rw [iu,h.z j hj]; rfl⟩
theorem Y7 {O:ah} (hn:pb O F4a) {b1:Blk} {n:Nat} (hn64:n≤64):∀(k:Nat) (b:Blk) (Q:List Int),k≤n→Src b→DrI p Q n→∃(b':Blk) (Q':List Int),Src b'∧DrI p Q' n ∧
 dn O 1 (.loop ir_spec_l01Draw_L0) ⟨[(0,.ptr 0 []),(1,(.d (.int .i64 p))),(6,.ptr 1 []),(7,.ptr 2 []),(8,(.d (.int .i64 ((k:Int)-1))))],[b,b1,.box false (D.arr 64 .leaf (ab .u8 Q))]⟩ =
  some (.exit 0,⟨[(0,.ptr 0 []),(1,(.d (.int .i64 p))),(6,.ptr 1 []),(7,.ptr 2 []),(8,(.d (.int .i64 (-1)))),(16,(.d (.bool false)))],[b',b1,.box false (D.arr 64 .leaf (ab .u8 Q'))]⟩)
 | 0,b,Q,hk,hs,hQ=>by
  refine ⟨b,Q,hs,hQ,bt ?_⟩;obtain ⟨c,a,h,rfl,_⟩:=hs;simp -implicitDefEqProofs [ir_spec_l01Draw_L0,ac]
 | k+1,b,Q,hk,hs,hQ=>by
  have hp:=IsP.ge (p:=p);have hp7:=IsP.le (p:=p);obtain ⟨x,b2,e1,hs2,x0,x1⟩:=hn b 3 hs (by omega)
  have w1:IntKind.i64.wrap ((((k+1:Nat):Int)-1)-1)=(k:Int)-1:=(w64 (by omega)).trans (by omega)
  have hk1:((k+1:Nat):Int)-1=(k:Int):=by omega
  rw [hk1] at w1 ⊢;have hge:(0:Int)≤k:=by omega
  have hkQ:k<Q.length:=by rw [hQ.l]; omega
  have hk64:k<64:=by omega
  by_cases hx:0<x
  ·obtain ⟨y,b3,e2,hs3,y0,y1⟩:=hn b2 p hs2 (by omega)
   have w2:IntKind.u8.wrap y=y:=w8 (by omega)
   obtain ⟨b',Q',hs',hQ',ih⟩:=Y7 hn (b1:=b1) hn64 k b3 (Q.set k y) (by omega) hs3 (hQ.set y0 (by omega) (by omega))
   refine ⟨b',Q',hs',hQ',bm ?_ ih⟩;obtain ⟨c,a,h,rfl,_⟩:=hs;obtain ⟨c2,a2,h2,rfl,_⟩:=hs2;obtain ⟨c3,a3,h3,rfl,_⟩:=hs3;simp -implicitDefEqProofs [ir_spec_l01Draw_L0,ac,hge,e1,e2,hx,w1,w2,hkQ,hk64,List.idxOf,List.findIdx,List.findIdx.go]
  ·obtain ⟨b',Q',hs',hQ',ih⟩:=Y7 hn (b1:=b1) hn64 k b2 Q (by omega) hs2 hQ
   refine ⟨b',Q',hs',hQ',bm ?_ ih⟩;obtain ⟨c,a,h,rfl,_⟩:=hs;obtain ⟨c2,a2,h2,rfl,_⟩:=hs2;simp -implicitDefEqProofs [ir_spec_l01Draw_L0,ac,hge,e1,hx,w1,List.idxOf,List.findIdx,List.findIdx.go]
end
theorem DrI.zero (p:Int) [IsP p] (n:Nat):DrI p (pad []) n:=
 ⟨ck _,fun x hx=>by
  have hp:=IsP.ge (p:=p)
  have:x=0:=by
   unfold pad at hx;obtain ⟨a,_,rfl⟩:∃a,a<64∧cf [] a=x:=by simpa using hx
   exact nj (kg _)
  omega,fun j _=>(Bn (l:=[]) (by simp) j).trans (nj (kg _))⟩
def Rz (O:ah):Prop:=∀(p:Int) [IsP p] (b:Blk) (n:Nat),Src b→n≤63→∃(a:Fp p) (b':Blk),O F3y [.ptr 0 [],(.d (.int .i64 p)),(.d (.int .i64 ((n:Int))))] [b]=some (.d (D.arr 64 .leaf (ab .u8 (pad (row a)))),[b'],[])∧Src b'∧a.len≤n+1
theorem adj (hT:T F3y=some Z3y) (hn:pb (den T A) F4a):Rz (den T A):=by
 intro p ip b n hs h63;obtain ⟨x,b2,e1,hs2,x0,x1⟩:=hn b ((n:Int)+2) hs (by omega)
 obtain ⟨k,rfl⟩:∃k:Nat,x=k:=⟨x.toNat,by omega⟩
 have w0:IntKind.i64.wrap ((n:Int)+2)=(n:Int)+2:=w64 (by omega)
 have w1:IntKind.i64.wrap ((k:Int)-1)=(k:Int)-1:=w64 (by omega)
 obtain ⟨b',Q,hs',hQ,e2⟩:=Y7 (p:=p) hn (b1:=.box false (D.arr 64 .leaf (ab .u8 (pad [])))) (n:=n+1) (by omega) k b2 (pad []) (by omega) hs2 (.zero p _)
 obtain ⟨q1,q2⟩:=hQ.pol;refine ⟨ew p Q,b',jh hT rfl ?_,hs',q2⟩;rw [←q1];obtain ⟨c,a,h,rfl,_⟩:=hs;obtain ⟨c2,a2,h2,rfl,_⟩:=hs2;obtain ⟨c',a',h',rfl,_⟩:=hs';simp -implicitDefEqProofs [Z3y,ir_spec_l01Draw_B,w0,e1,w1,e2,List.replicate,List.idxOf,List.findIdx,List.findIdx.go]
theorem a5v {O:ah} (hn:pb O F4a) {p:Int} [IsP p] {b1:Blk} {n:Nat} {most k:Int} (hn62:n≤62):∀(r i:Nat) (b:Blk) (Q:List Int),i+r=n→Src b→DrI p Q n→∃(b':Blk) (Q':List Int),Src b'∧DrI p Q' n ∧
 dn O 1 (.loop Z3z_L0) ⟨[(0,.ptr 0 []),(1,(.d (.int .i64 p))),(2,(.d (.int .i64 most))),(6,.ptr 1 []),(7,.ptr 2 []),(8,(.d (.int .i64 k))),(9,(.d (.int .i64 n))),(10,(.d (.int .i64 i)))],[b,b1,.box false (D.arr 64 .leaf (ab .u8 Q))]⟩ =
  some (.exit 2,⟨[(0,.ptr 0 []),(1,(.d (.int .i64 p))),(2,(.d (.int .i64 most))),(6,.ptr 1 []),(7,.ptr 2 []),(8,(.d (.int .i64 k))),(9,(.d (.int .i64 n))),(10,(.d (.int .i64 n))),(23,(.d (.bool false)))],[b',b1,.box false (D.arr 64 .leaf (ab .u8 Q'))]⟩)
 | 0,i,b,Q,hi,hs,hQ=>by
  obtain rfl:i=n:=by omega
  refine ⟨b,Q,hs,hQ,bt ?_⟩;obtain ⟨c,a,h,rfl,_⟩:=hs;simp -implicitDefEqProofs [Z3z_L0,ac]
 | r+1,i,b,Q,hi,hs,hQ=>by
  have hp:=IsP.ge (p:=p);have hp7:=IsP.le (p:=p);obtain ⟨y,b3,e2,hs3,y0,y1⟩:=hn b p hs (by omega)
  have w2:IntKind.u8.wrap y=y:=w8 (by omega)
  have w4:IntKind.i64.wrap ((i:Int)+1)=((i+1:Nat):Int):=(w64 (x:=(i:Int)+1) (by omega)).trans (by omega)
  have hlt:i<n:=by omega
  have hiQ:i<Q.length:=by rw [hQ.l]; omega
  have hi64:i<64:=by omega
  obtain ⟨b',Q',hs',hQ',ih⟩:=a5v hn (b1:=b1) (most:=most) (k:=k) hn62 r (i+1) b3 (Q.set i y) (by omega) hs3 (hQ.set y0 (by omega) hlt)
  refine ⟨b',Q',hs',hQ',bm ?_ ih⟩;obtain ⟨c,a,h,rfl,_⟩:=hs;obtain ⟨c3,a3,h3,rfl,_⟩:=hs3;simp -implicitDefEqProofs [Z3z_L0,ac,hlt,e2,w2,w4,hiQ,hi64,List.idxOf,List.findIdx,List.findIdx.go]
theorem DrI.up {p:Int} {Q:List Int} {n m:Nat} (h:DrI p Q n) (hm:n≤m):DrI p Q m:=⟨h.l,h.c,fun j hj=>h.z j (by omega)⟩
theorem DrI.mod {p:Int} [IsP p] {Q:List Int} {n:Nat} (h:DrI p Q n) (hn:n≤62):∃a:Fp p,Q.set n 1=pad (row a)∧a.len=n+1∧Monic a:=by
 have hp:=IsP.ge (p:=p);have h1:DrI p (Q.set n 1) (n+1):=(h.up (Nat.le_succ n)).set (by omega) (by omega) (Nat.lt_succ_self n)
 obtain ⟨q1,q2⟩:=h1.pol
 have hc:(ew p (Q.set n 1)).c n=1:=by
  rw [iu,tk,if_pos ⟨rfl,by rw [h.l]; omega⟩,t9]
 have hne:(ew p (Q.set n 1)).c n≠0:=by
  rw [hc]; exact Fd.one_ne
 have hl:(ew p (Q.set n 1)).len=n+1:=Pol.len_eq (Pol.lt_iff.2 q2) hne;have h0:ew p (Q.set n 1)≠0:=fun h=>by rw [h,Pol.len_zero] at hl; omega
 exact ⟨ew p (Q.set n 1),q1,hl,⟨by unfold Pol.ld; rw [hl]; exact hc,h0⟩⟩
open Classical in
theorem a4f {O:ah} (hn:pb O F4a) (hir:E0 O) {p:Int} [IsP p] {z:List Int} {most:Int} (hm1:1≤most) (hm2:most≤12):∀(r k:Nat) (b:Blk) (a:Fp p),k+r=4→Src b→2≤a.len→a.len≤most+1→Monic a→∃(b':Blk) (a':Fp p),Src b'∧2≤a'.len∧a'.len≤most+1∧Monic a' ∧
 (dn O 1 (.loop Z3z_L1) ⟨[(0,.ptr 0 []),(1,(.d (.int .i64 p))),(2,(.d (.int .i64 most))),(6,.ptr 1 []),(7,.ptr 2 []),(8,(.d (.int .i64 k)))],[b,.box false (D.arr 64 .leaf (ab .u8 z)),.box false (D.arr 64 .leaf (ab .u8 (pad (row a))))]⟩ =
  some (.exit 0,⟨[(0,.ptr 0 []),(1,(.d (.int .i64 p))),(2,(.d (.int .i64 most))),(6,.ptr 1 []),(7,.ptr 2 []),(8,(.d (.int .i64 4))),(13,(.d (.bool false)))],[b',.box false (D.arr 64 .leaf (ab .u8 z)),.box false (D.arr 64 .leaf (ab .u8 (pad (row a'))))]⟩) ∨
 dn O 1 (.loop Z3z_L1) ⟨[(0,.ptr 0 []),(1,(.d (.int .i64 p))),(2,(.d (.int .i64 most))),(6,.ptr 1 []),(7,.ptr 2 []),(8,(.d (.int .i64 k)))],[b,.box false (D.arr 64 .leaf (ab .u8 z)),.box false (D.arr 64 .leaf (ab .u8 (pad (row a))))]⟩ =
  some (.ret,⟨[(6,.ptr 1 [])],[b',.box false (D.arr 64 .leaf (ab .u8 (pad (row a')))),.hole]⟩))
 | 0,k,b,a,hk,hs,h2,hl,hm=>by
  obtain rfl:k=4:=by omega
  refine ⟨b,a,hs,h2,hl,hm,.inl (bt ?_)⟩;obtain ⟨c,a,h,rfl,_⟩:=hs;simp -implicitDefEqProofs [Z3z_L1,ac]
 | r+1,k,b,a,hk,hs,h2,hl,hm=>by
  have hk4:(k:Int)<4:=by omega
  obtain ⟨x,b2,e1,hs2,x0,x1⟩:=hn b most hs (by omega)
  obtain ⟨n,hn1⟩:∃n:Nat,1+x=n:=⟨(1+x).toNat,by omega⟩
  have w1:IntKind.i64.wrap (1+x)=n:=(w64 (by omega)).trans hn1
  obtain ⟨b3,Q,hs3,hQ,st⟩:=a5v hn (p:=p) (b1:=.box false (D.arr 64 .leaf (ab .u8 z))) (n:=n) (most:=most) (k:=k) (by omega) n 0 b2 (pad []) (bn _) hs2 (.zero p _)
  rw [show ((0:Nat):Int)=0 from rfl] at st;obtain ⟨a',q1,q2,q3⟩:=hQ.mod (by omega)
  have hnQ:n<Q.length:=by rw [hQ.l]; omega
  have hn64:n<64:=by omega
  obtain ⟨y,b4,e2,hs4,y0,y1⟩:=hn b3 3 hs3 (by omega)
  have w4:IntKind.i64.wrap ((k:Int)+1)=((k+1:Nat):Int):=(w64 (x:=(k:Int)+1) (by omega)).trans (by omega)
  have e3:=hir p a' q3.2 (by omega)
  obtain ⟨b',a2,g1,g2,g3,g4,ih⟩:=a4f hn hir (z:=z) hm1 hm2 r (k+1) b4 a' (by omega) hs4 (by omega) (by omega) q3
  by_cases hy:y=0
  ·refine ⟨b4,a',hs4,by omega,by omega,q3,.inr (lq ?_)⟩
   obtain ⟨c,a0,h,rfl,_⟩:=hs;obtain ⟨c2,a2,h2,rfl,_⟩:=hs2;obtain ⟨c3,a3,h3,rfl,_⟩:=hs3;obtain ⟨c4,a4,h4,rfl,_⟩:=hs4;generalize pad (row a)=Pa at *;generalize hPQ:Q.set n 1=PQ at *;generalize pad (row a')=Pb at *;subst q1;simp -implicitDefEqProofs [Z3z_L1,ac,hk4,e1,w1,st,hnQ,hn64,hPQ,e2,hy,List.idxOf,List.findIdx,List.findIdx.go]
  ·by_cases hI:Irr a'
   ·refine ⟨b4,a',hs4,by omega,by omega,q3,.inr (lq ?_)⟩
    rw [decide_eq_true hI] at e3;obtain ⟨c,a0,h,rfl,_⟩:=hs;obtain ⟨c2,a2,h2,rfl,_⟩:=hs2;obtain ⟨c3,a3,h3,rfl,_⟩:=hs3;obtain ⟨c4,a4,h4,rfl,_⟩:=hs4;generalize pad (row a)=Pa at *;generalize hPQ:Q.set n 1=PQ at *;generalize pad (row a')=Pb at *;subst q1;simp -implicitDefEqProofs [Z3z_L1,ac,hk4,e1,w1,st,hnQ,hn64,hPQ,e2,e3,hy,List.idxOf,List.findIdx,List.findIdx.go]
   ·rw [decide_eq_false hI] at e3
    have key:dn O 1 Z3z_L1 ⟨[(0,.ptr 0 []),(1,(.d (.int .i64 p))),(2,(.d (.int .i64 most))),(6,.ptr 1 []),(7,.ptr 2 []),(8,(.d (.int .i64 k)))],[b,.box false (D.arr 64 .leaf (ab .u8 z)),.box false (D.arr 64 .leaf (ab .u8 (pad (row a))))]⟩=some (.normal,⟨[(0,.ptr 0 []),(1,(.d (.int .i64 p))),(2,(.d (.int .i64 most))),(6,.ptr 1 []),(7,.ptr 2 []),(8,(.d (.int .i64 (((k+1:Nat):Int)))))],[b4,.box false (D.arr 64 .leaf (ab .u8 z)),.box false (D.arr 64 .leaf (ab .u8 (pad (row a'))))]⟩):=by
     obtain ⟨c,a0,h,rfl,_⟩:=hs;obtain ⟨c2,a2,h2,rfl,_⟩:=hs2;obtain ⟨c3,a3,h3,rfl,_⟩:=hs3;obtain ⟨c4,a4,h4,rfl,_⟩:=hs4;generalize pad (row a)=Pa at *;generalize hPQ:Q.set n 1=PQ at *;generalize pad (row a')=Pb at *;subst q1;simp -implicitDefEqProofs [Z3z_L1,ac,hk4,e1,w1,st,hnQ,hn64,hPQ,e2,e3,hy,w4,List.idxOf,List.findIdx,List.findIdx.go]
    exact ⟨b',a2,g1,g2,g3,g4,ih.imp (bm key) (bm key)⟩
def yn (O:ah):Prop:=∀(p:Int) [IsP p] (b:Blk) (most:Int),Src b→1≤most→most≤12→∃(a:Fp p) (b':Blk),O F3z [.ptr 0 [],(.d (.int .i64 p)),(.d (.int .i64 most))] [b]=some (.d (D.arr 64 .leaf (ab .u8 (pad (row a)))),[b'],[])∧Src b'∧2≤a.len∧a.len≤most+1∧Monic a
theorem a1u (hT:T F3z=some Z3z) (hn:pb (den T A) F4a) (ht:a2k (den T A)) (hir:E0 (den T A)):yn (den T A):=by
 intro p ip b most hs hm1 hm2;have e0:=ht p;have hX:(Pol.X:Fp p).len=2:=Pol.len_X;obtain ⟨b',a',g1,g2,g3,g4,e | e⟩:=a4f (O:=den T A) hn hir (z:=pad []) hm1 hm2 4 0 b (Pol.X:Fp p) rfl hs (by omega) (by omega) ⟨by unfold Pol.ld; rw [Pol.len_X]; rfl,Pol.X_ne⟩
 ·refine ⟨a',b',jh hT rfl ?_,g1,g2,g3,g4⟩
  rw [show ((0:Nat):Int)=0 from rfl] at e;obtain ⟨c,a0,h,rfl,_⟩:=hs;obtain ⟨c2,a2,h2,rfl,_⟩:=g1;generalize pad (row a')=Pb at *;generalize pad (row (Pol.X:Fp p))=Pt at *;simp -implicitDefEqProofs [Z3z,Z3z_B,e0,e,List.replicate,List.idxOf,List.findIdx]
 ·refine ⟨a',b',jh hT rfl ?_,g1,g2,g3,g4⟩
  rw [show ((0:Nat):Int)=0 from rfl] at e;obtain ⟨c,a0,h,rfl,_⟩:=hs;obtain ⟨c2,a2,h2,rfl,_⟩:=g1;generalize pad (row a')=Pb at *;generalize pad (row (Pol.X:Fp p))=Pt at *;simp -implicitDefEqProofs [Z3z,Z3z_B,e0,e,List.replicate,List.idxOf,List.findIdx]
def a6p (O:ah):Prop:=∀(b:Blk) (p:Int) (l:List Int),Src b→0≤p→p<256→l.length=64→g9 l→∃(l':List Int) (b':Blk),O F3u [.ptr 0 [],(.d (.int .i64 p)),.d (D.arr 64 .leaf (ab .u8 l))] [b]=some (.d (D.arr 64 .leaf (ab .u8 l')),[b'],[])∧Src b'∧l'.length=64∧g9 l'
theorem ahs (hT:T F3u=some Z3u) (hn:pb (den T A) F4a) (hp:Lz (den T A)):a6p (den T A):=by
 intro b p l hs p0 p1 hl hb;obtain ⟨x,b2,e1,hs2,x0,x1⟩:=hn b 40 hs (by omega)
 by_cases hx:x=0
 ·obtain ⟨y,b3,e2,hs3,y0,y1⟩:=hn b2 64 hs2 (by omega)
  obtain ⟨k,rfl⟩:∃k:Nat,y=k:=⟨y.toNat,by omega⟩
  obtain ⟨v,b4,e3,hs4,hv⟩:=hp b3 [p,7,255,1] 4 (some 4) hs3 rfl (by omega) (by omega)
  rw [show ab .i64 [p,7,255,1]=[.int .i64 p,.int .i64 7,.int .i64 255,.int .i64 1] from rfl] at e3;have hv2:0≤v∧v<256:=by simp at hv; omega
  have w1:IntKind.u8.wrap v=v:=w8 hv2;have hk:k<64:=by omega
  refine ⟨l.set k v,b4,jh hT rfl ?_,hs4,by rw [cr]; exact hl,fun z hz=>by
   rcases dh hz with g | rfl
   ·exact hb z g
   ·exact hv2⟩
  subst hx;obtain ⟨c,a0,h,rfl,_⟩:=hs;obtain ⟨c2,a2,h2,rfl,_⟩:=hs2;obtain ⟨c3,a3,h3,rfl,_⟩:=hs3;obtain ⟨c4,a4,h4,rfl,_⟩:=hs4;simp -implicitDefEqProofs [Z3u,Z3u_B,ac,e1,e2,e3,w1,hk,hl,List.replicate,List.idxOf,List.findIdx,List.findIdx.go]
 ·refine ⟨l,b2,jh hT rfl ?_,hs2,hl,hb⟩
  obtain ⟨c,a0,h,rfl,_⟩:=hs;obtain ⟨c2,a2,h2,rfl,_⟩:=hs2;simp -implicitDefEqProofs [Z3u,Z3u_B,ac,e1,hx,List.replicate,List.idxOf,List.findIdx,List.findIdx.go]
end Pe

namespace Gq
def Pr (l:Nat):Prop:=2≤l∧∀d,d∣l→d=1∨d=l
theorem Pr.coprime {l n:Nat} (h:Pr l) (hn:¬ l∣n):Nat.Coprime l n:=by
 rcases h.2 _ (Nat.gcd_dvd_left l n) with h1 | h1
 ·exact h1
 ·exact absurd (h1▸Nat.gcd_dvd_right l n) hn
theorem ac2:∀(n:Nat),2≤n→∃l,Pr l∧l∣n:=by
 intro n
 induction n using Nat.strongRecOn with
 | ind n ih=>
  intro hn
  by_cases h:Pr n
  ·exact ⟨n,h,Nat.dvd_refl n⟩
  ·have:∃d,d∣n∧d≠1∧d≠n:=by
    apply dd;intro hno;refine h ⟨hn,fun d hd=>?_⟩
    apply dd;intro h2;exact hno ⟨d,hd,fun e=>h2 (.inl e),fun e=>h2 (.inr e)⟩
   obtain ⟨d,hd,h1,h2⟩:=this;have hle:=ua (by omega) hd
   have h0:d≠0:=fun e=>by
    rw [e] at hd;have:=Nat.eq_zero_of_zero_dvd hd;omega
   obtain ⟨l,hl,hld⟩:=ih d (by omega) (by omega)
   exact ⟨l,hl,oo hld hd⟩
theorem Pr.dvd_mul {l a b:Nat} (h:Pr l) (hd:l∣a*b):l∣a∨l∣b:=by
 by_cases ha:l∣a
 ·exact .inl ha
 ·exact .inr ((h.coprime ha).dvd_of_dvd_mul_left hd)
theorem Pr.dvd_pr {l q:Nat} (h:Pr l) (hq:Pr q) (hd:l∣q):l=q:=by
 rcases hq.2 l hd with h1 | h1
 ·have:=h.1; omega
 ·exact h1
theorem a5p {n:Nat} (h0:1≤n) (h:∀l,Pr l→¬ l∣n):n=1:=by
 apply dd;intro h1;obtain ⟨l,hl,hd⟩:=ac2 n (by omega)
 exact h l hl hd
section
variable {R:Type} [CR R]
theorem S5 {x:R} {n k:Nat} (h:pw x n=1) (hd:n∣k):pw x k=1:=by
 obtain ⟨c,rfl⟩:=hd;rw [←yg,h,Hm]
def Ord (x:R) (n:Nat):Prop:=∀k,pw x k=1↔n∣k
theorem Ord.self {x:R} {n:Nat} (h:Ord x n):pw x n=1:=(h n).2 (Nat.dvd_refl n)
theorem Ord.unique {x:R} {n m:Nat} (h:Ord x n) (h':Ord x m):n=m:=Nat.dvd_antisymm ((h m).1 h'.self) ((h' n).1 h.self)
theorem Ord.mul {a b:R} {m n:Nat} (ha:Ord a m) (hb:Ord b n) (h:Nat.Coprime m n):Ord (a*b) (m*n):=fun k=>by
 constructor
 ·intro hk
  have h1:m∣k:=by
   have e:pw a (k*n)=1:=by
    have e1:pw (a*b) (k*n)=1:=by rw [←yg,hk,Hm]
    rw [Ae,S5 hb.self (tq n k),mul_one] at e1;exact e1
   exact h.dvd_of_dvd_mul_right ((ha _).1 e)
  have h2:n∣k:=by
   have e:pw b (k*m)=1:=by
    have e1:pw (a*b) (k*m)=1:=by rw [←yg,hk,Hm]
    rw [Ae,S5 ha.self (tq m k),one_mul] at e1;exact e1
   exact h.symm.dvd_of_dvd_mul_right ((hb _).1 e)
  exact h.mul_dvd_of_dvd_of_dvd h1 h2
 ·intro hd
  rw [Ae,S5 ha.self (oo (t4 m n) hd),S5 hb.self (oo (tq n m) hd),mul_one]
end
structure OrdI (n q rest order:Nat) (fin:Bool):Prop where
 dv:n∣order
 pos:1≤order
 low:∀l,Pr l→l<q→¬ l*n∣order∧¬ l∣rest
 rel:∃c,order=rest*c∧(∀l,Pr l→q<l→¬ l∣c)∧(fin=false→Pr q→¬ q∣c)
 fin:fin=true→¬ q*n∣order
theorem OrdI.rest_pos {n q rest order:Nat} {f:Bool} (h:OrdI n q rest order f):1≤rest:=by
 obtain ⟨c,e,-⟩:=h.rel;have:=h.pos;rcases kt rest with h0 | h0
 ·rw [h0,pz] at e; omega
 ·exact h0
theorem OrdI.init {n N:Nat} (hN:1≤N) (h:n∣N):OrdI n 2 N N false where
 dv:=h
 pos:=hN
 low:=fun l hl h2=>by have:=hl.1; omega
 rel:=⟨1,(Nat.mul_one N).symm,fun l hl _ hd=>by have:=hl.1; have:=ua (by omega) hd; omega,fun _ hq hd=>by have:=hq.1; have:=ua (by omega) hd; omega⟩
 fin:=fun h=>by cases h
theorem OrdI.prime {n q rest order:Nat} {f:Bool} (h:OrdI n q rest order f) (h2:2≤q) (hd:q∣rest):Pr q:=by
 obtain ⟨l,hl,hlq⟩:=ac2 q h2;rcases dm l q with h1 | h1
 ·exact absurd (oo hlq hd) (h.low l hl h1).2
 ·have:=ua (by omega) hlq
  obtain rfl:l=q:=by omega
  exact hl
theorem OrdI.no {n q r c':Nat} {f:Bool} (h:OrdI n q (q*r) (q*c') f) (h2:2≤q) (hd:¬ n∣c'):OrdI n q r (q*c') true where
 dv:=h.dv
 pos:=h.pos
 low:=fun l hl h1=>by
  obtain ⟨a,b⟩:=h.low l hl h1;exact ⟨a,fun e=>b (oo e (tq r q))⟩
 rel:=by
  have hq:=h.prime h2 (t4 q r);obtain ⟨c,e,h3,_⟩:=h.rel;refine ⟨q*c,by rw [e,Nat.mul_assoc,Nat.mul_left_comm],fun l hl h4 hl2=>?_,fun hf=>by cases hf⟩
  rcases hl.dvd_mul hl2 with h5 | h5
  ·have:=hl.dvd_pr hq h5; omega
  ·exact h3 l hl h4 h5
 fin:=fun _ e=>hd (Nat.dvd_of_mul_dvd_mul_left (by omega) e)
theorem OrdI.next {n q rest order:Nat} {f:Bool} (h:OrdI n q rest order f) (h2:2≤q) (hd:¬ q∣rest):OrdI n (q+1) rest order false where
 dv:=h.dv
 pos:=h.pos
 low:=fun l hl h1=>by
  rcases dm l q with h3 | h3
  ·exact h.low l hl h3
  ·obtain rfl:l=q:=by omega
   refine ⟨fun e=>?_,hd⟩
   cases f with
   | true=>exact h.fin rfl e
   | false=>
    obtain ⟨c,e1,_,h5⟩:=h.rel;have:l∣rest*c:=e1▸oo (t4 l n) e;rcases hl.dvd_mul this with h6 | h6
    ·exact hd h6
    ·exact h5 rfl hl h6
 rel:=by
  obtain ⟨c,e1,h4,_⟩:=h.rel;exact ⟨c,e1,fun l hl h5=>h4 l hl (by omega),fun _ hq=>h4 _ hq (by omega)⟩
 fin:=fun hf=>by cases hf
theorem OrdI.done {n q rest order:Nat} (h:OrdI n q rest order false) (hq:rest<q):order=n:=by
 have hr:rest=1:=a5p h.rest_pos fun l hl hd=>by
  have:=ua h.rest_pos hd;exact (h.low l hl (by omega)).2 hd
 obtain ⟨c,e1,h4,h5⟩:=h.rel;rw [hr,Nat.one_mul] at e1;obtain ⟨k,hk⟩:=h.dv
 have hk1:k=1:=a5p (by
  have:=h.pos;rcases kt k with h0 | h0
  ·rw [h0,Nat.mul_zero] at hk; omega
  ·exact h0) fun l hl hd=>by
  have hln:l*n∣order:=by
   rw [hk,Ah l n]; exact Nat.mul_dvd_mul_left n hd
  rcases dm l q with h6 | h6
  ·exact (h.low l hl h6).1 hln
  ·have hlc:l∣c:=e1▸oo (t4 l n) hln
   rcases dm q l with h7 | h7
   ·exact h4 l hl h7 hlc
   ·obtain rfl:l=q:=by omega
    exact h5 rfl hl hlc
 rw [hk,hk1,Nat.mul_one]
end Gq

namespace Pe
open Gq
section
variable {p:Int}
def IsPrim (m:Fp p) (k:Nat):Prop:=1≤k∧(k:Int)<p^(m.len-1)∧Ord (Quo.mk m (jb p k)) (p.toNat^(m.len-1)-1)∧∀j:Nat,1≤j→j<k→¬ Ord (Quo.mk m (jb p j)) (p.toNat^(m.len-1)-1)
theorem IsPrim.unique {m:Fp p} {j k:Nat} (hj:IsPrim m j) (hk:IsPrim m k):j=k:=by
 rcases dm j k with h | h
 ·exact absurd hj.2.2.1 (hk.2.2.2 j hj.1 h)
 ·rcases dm k j with h2 | h2
  ·exact absurd hk.2.2.1 (hj.2.2.2 k hk.1 h2)
  ·omega
noncomputable def dgF:ni p→Nat
 | []=>0
 | x::L=>x.2*(x.1.len-1)+dgF L
theorem a7x [IsP p] {q:Fp p} (h:Monic q):∀k,(pw q k).len=k*(q.len-1)+1
 | 0=>by rw [pz]; exact Pol.len_one
 | k+1=>by
  have h1:=Pol.len_mul (Monic.pw h k).2 h.2;have h2:=a7x h k;have h3:=Pol.len_pos h.2;show (pw q k*q).len=_;rw [fq]; omega
theorem Yl [IsP p]:∀{L:ni p},FacOk L→(mp L).len=dgF L+1
 | [],_=>Pol.len_one
 | x::L,h=>by
  have hm:=(h.irr x (by simp)).2.1
  have ht:FacOk L:=⟨fun y hy=>h.irr y (by simp [hy]),h.dis.tail⟩
  have h1:=Yl ht;have h2:=Pol.len_mul (Monic.pw hm x.2).2 (Be ht).2;rw [a7x hm] at h2;rw [tf,dgF]; omega
end
end Pe

namespace Pe
open Go Gq
section
variable {p:Int}
end
section
variable {p:Int} [IsP p]
end
end Pe


namespace Pe
open Go Gq
variable {T:Nat→Option Fn} {A:ah}
section
variable {p:Int} [IsP p]
end
section
variable {p:Int} [IsP p]
end
section
variable {p:Int} [IsP p]
end
end Pe

namespace Pe
open Go Gq
variable {T:Nat→Option Fn} {A:ah}
end Pe

namespace Pe
open Go Gq
variable {T:Nat→Option Fn} {A:ah}
section
variable {p:Int} [IsP p]
theorem IsFac.small {m:Fp p} (hm:m≠0) (hl:m.len≤13) {L:ni p} (h:IsFac m L):(∀x∈L,2≤x.1.len∧x.1.len≤13∧1≤x.2∧x.2≤12)∧dgF L+1=m.len:=by
 refine ⟨fun x hx=>?_,?_⟩
 ·obtain ⟨q1,q2,q3,_⟩:=h.len hm hx
  exact ⟨q1,by omega,(h.ok.irr x hx).2.2,by omega⟩
 ·rw [←Yl h.ok]
  conv=>rhs; rw [h.eq]
  exact (Pol.len_Cmul (Pol.ld_ne hm) _).symm
end
section
variable {p:Int} [IsP p]
end
end Pe

namespace Pe
open Go Gq
variable {T:Nat→Option Fn} {A:ah}
section
variable {p:Int} [IsP p]
end
end Pe

namespace Pe
open Go Gq
variable {T:Nat→Option Fn} {A:ah}
section
variable {p:Int} [IsP p]
end
end Pe

namespace Pe
open Go Gq
variable {T:Nat→Option Fn} {A:ah}
section
variable {p:Int} [ip:IsP p] {M X:Fp p}
end
end Pe

namespace Pe
open Go Gq
variable {T:Nat→Option Fn} {A:ah}
end Pe

namespace Pe
open Go Gq
variable {T:Nat→Option Fn} {A:ah}
end Pe

namespace Pe
open Go Gq
variable {T:Nat→Option Fn} {A:ah}
def a41 (O:ah):Prop:=∀L:List D,ask O F2c [.sl .leaf L]=some (D.bool (decide ((4096:Int)<L.length)))
theorem aiv (hT:T F2c=some Z2c):a41 (den T A):=by
 intro L;refine bi hT rfl ?_;simp -implicitDefEqProofs [Z2c,Z2c_B]
end Pe

namespace Pe
open Go Gq
variable {T:Nat→Option Fn} {A:ah}
def Arr (l:List Int):Prop:=l.length=64∧g9 l
theorem qq {p:Int} [IsP p] (a:Fp p):Arr (pad (row a)):=⟨ck _,yy a⟩
end Pe

namespace Pe
open Go Gq
variable {T:Nat→Option Fn} {A:ah}
def BB (l:List Int):Prop:=∀i,0≤cf l i∧cf l i≤255
theorem H9 {l:List Int} (h:Arr l):BB l:=fun i=>by
 rcases dm i l.length with g | g
 ·rw [fj g]
  have:=h.2 _ (bj g);omega
 ·rw [nj g]; omega
theorem a8d {l:List Int} (hl:l.length=64) (h:BB l):Arr l:=⟨hl,fun x hx=>by
 obtain ⟨i,hi,rfl⟩:=im hx;have:=h i;rw [fj hi] at this;omega⟩
theorem BB.set {l:List Int} (h:BB l) {x:Int} (h0:0≤x) (h1:x≤255) (i:Nat):BB (l.set i x):=fun j=>by
 rw [tk]
 split
 ·exact ⟨h0,h1⟩
 ·exact h j
theorem a8v {O:ah} {p k:Int} [IsP p] {a b z:List Int} (ha:BB a) (hb:BB b) (hbl:b.length=64) (hk:-1000000≤k∧k≤1000000):∀(m i:Nat) (cur:List Int),i+m=64→cur.length=64→(∀j,i≤j→cf cur j=cf a j) →
 dn O 0 (.loop Z3t_L0) ⟨[(0,(.d (.int .i64 p))),(3,(.d (.int .i64 k))),(5,.ptr 0 []),(6,.ptr 1 []),(8,.ptr 2 []),(9,(.d (.int .i64 i)))],[.box false (D.arr 64 .leaf (ab .u8 cur)),.box false (D.arr 64 .leaf (ab .u8 b)),.box false (D.arr 64 .leaf (ab .u8 z))]⟩ =
  some (.exit 0,⟨[(0,(.d (.int .i64 p))),(3,(.d (.int .i64 k))),(5,.ptr 0 []),(6,.ptr 1 []),(8,.ptr 2 []),(9,(.d (.int .i64 64))),(11,(.d (.bool false)))],[.box false (D.arr 64 .leaf (ab .u8 (upd (lin p a b k) m i cur))),.box false (D.arr 64 .leaf (ab .u8 b)),.box false (D.arr 64 .leaf (ab .u8 z))]⟩)
 | 0,i,cur,hi,hc,hs=>by
  obtain rfl:i=64:=by omega
  exact bt (by simp -implicitDefEqProofs [Z3t_L0,ac,upd])
 | m+1,i,cur,hi,hc,hs=>by
  have hp:=IsP.pos (p:=p);have hp7:=IsP.le (p:=p);have hp0:p≠0:=by omega
  have hlt:i<cur.length:=by omega
  have hlb:i<b.length:=by omega
  have hi64:i<64:=by omega
  have hi64':(i:Int)<64:=by omega
  have hx:cur[i]=cf a i:=by rw [←fj hlt]; exact hs i (ba i)
  have hy:b[i]=cf b i:=(fj hlb).symm;have ga:=ha i;have gb:=hb i;have gm:=il (x:=k) (y:=cf b i) (b:=1000000) (c:=256) hk (by omega) (by omega)
  have w1:IntKind.i64.wrap (cf a i)=cf a i:=w64 (by omega)
  have w2:IntKind.i64.wrap (cf b i)=cf b i:=w64 (by omega)
  have w3:IntKind.i64.wrap (k*cf b i)=k*cf b i:=w64 (by omega)
  have w5:IntKind.i64.wrap (cf a i+k*cf b i)=cf a i+k*cf b i:=w64 (by omega)
  have hin:=A5 (n:=cf a i+k*cf b i) hp;have w6:IntKind.i64.wrap ((cf a i+k*cf b i).tmod p+p)=(cf a i+k*cf b i).tmod p+p:=w64 (by omega)
  have w7:((cf a i+k*cf b i).tmod p+p).tmod p=lin p a b k i:=vj hp;have hlin:0≤lin p a b k i∧lin p a b k i<p:=⟨dt _ (by omega),cz _ hp⟩
  have w8':IntKind.u8.wrap (lin p a b k i)=lin p a b k i:=w8 (by omega)
  have w4:IntKind.i64.wrap ((i:Int)+1)=((i+1:Nat):Int):=(w64 (x:=(i:Int)+1) (by omega)).trans (by omega)
  refine bm ?_ (a8v ha hb hbl hk m (i+1) (cur.set i (lin p a b k i)) (by omega) (by simpa using hc) (fun j hj=>by rw [tk,if_neg (by omega)]; exact hs j (by omega)))
  simp -implicitDefEqProofs [Z3t_L0,ac,hlt,hlb,hi64,hi64',hx,hy,w1,w2,w3,w5,w6,w7,w8',w4,hp0]
def E3 (O:ah):Prop:=∀(p:Int) [IsP p] (a b:List Int) (k:Int),Arr a→Arr b→-1000000≤k→k≤1000000→∃c:Fp p,c.len≤64∧ask O F3t [(D.int .i64 p),(D.arr 64 .leaf (ab .u8 a)),(D.arr 64 .leaf (ab .u8 b)),(D.int .i64 k)]=some (D.arr 64 .leaf (ab .u8 (pad (row c))))
theorem acv (hT:T F3t=some Z3t):E3 (den T A):=by
 intro p ip a b k ha hb hk hk';have hp:=IsP.pos (p:=p);have e:=a8v (O:=den T A) (p:=p) (z:=pad []) (H9 ha) (H9 hb) hb.1 ⟨hk,hk'⟩ 64 0 a (by omega) ha.1 (fun _ _=>rfl)
 have e0:((0:Nat):Int)=0:=rfl;rw [e0,L6 _ _ _ ha.1] at e
 have hcan:Can p ((List.range 64).map (lin p a b k)):=fun x hx=>by
  obtain ⟨j,_,rfl⟩:=cj.1 hx;exact ⟨dt _ (by omega),cz _ hp⟩
 have hl:((List.range 64).map (lin p a b k)).length=64:=by simp
 have hpad:=Hw hcan hl;refine ⟨ew p ((List.range 64).map (lin p a b k)),?_,bi hT rfl ?_⟩
 ·exact Pol.len_le fun j hj=>by rw [iu,nj (by omega)]; rfl
 ·rw [←hpad]
  generalize (List.range 64).map (lin p a b k)=R at *;simp -implicitDefEqProofs [Z3t,Z3t_B,e]
theorem a63 {O:ah} {p q by_:Int} [IsP p] {b quo z z':List Int} {i bl:Nat} (hq:0<q∧q<p) (hb:BB b) (hbl:b.length=64) (hn:i+bl≤64) (h0:0<bl):∀(m k:Nat) (cur:List Int),k+m=bl→cur.length=64→BB cur→∃cur':List Int,cur'.length=64∧BB cur' ∧
 dn O 0 (.loop Z3x_L0) ⟨[(0,(.d (.int .i64 p))),(4,.ptr 0 []),(5,.ptr 1 []),(6,.ptr 2 []),(7,.ptr 3 []),(8,.ptr 4 []),(9,(.d (.int .i64 ((bl:Int)-1)))),(10,(.d (.int .i64 by_))),(11,(.d (.int .i64 ((i:Int)+bl-1)))),(12,(.d (.int .i64 q))),(13,(.d (.int .i64 k)))],[.box false (D.arr 64 .leaf (ab .u8 cur)),.box false (D.arr 64 .leaf (ab .u8 b)),.box false (D.arr 64 .leaf (ab .u8 z)),.box false (D.arr 64 .leaf (ab .u8 z')),.box false (D.arr 64 .leaf (ab .u8 quo))]⟩ =
  some (.exit 2,⟨[(0,(.d (.int .i64 p))),(4,.ptr 0 []),(5,.ptr 1 []),(6,.ptr 2 []),(7,.ptr 3 []),(8,.ptr 4 []),(9,(.d (.int .i64 ((bl:Int)-1)))),(10,(.d (.int .i64 by_))),(11,(.d (.int .i64 ((i:Int)+bl-1)))),(12,(.d (.int .i64 q))),(13,(.d (.int .i64 bl))),(50,(.d (.bool false)))],[.box false (D.arr 64 .leaf (ab .u8 cur')),.box false (D.arr 64 .leaf (ab .u8 b)),.box false (D.arr 64 .leaf (ab .u8 z)),.box false (D.arr 64 .leaf (ab .u8 z')),.box false (D.arr 64 .leaf (ab .u8 quo))]⟩)
 | 0,k,cur,hk,hc,hcan=>by
  obtain rfl:k=bl:=by omega
  have h1:¬ (k:Int)≤(k:Int)-1:=by omega
  exact ⟨cur,hc,hcan,bt (by simp -implicitDefEqProofs [Z3x_L0,ac,h1])⟩
 | m+1,k,cur,hk,hc,hcan=>by
  have hp:=IsP.pos (p:=p);have hp7:=IsP.le (p:=p);have hp0:p≠0:=by omega
  have hq0:q≠0:=by omega
  have h1:(k:Int)≤(bl:Int)-1:=by omega
  have w1:IntKind.i64.wrap ((i:Int)+bl-1-(bl-1))=i:=(w64 (x:=(i:Int)+bl-1-(bl-1)) (by omega)).trans (by omega)
  have w2:IntKind.i64.wrap ((i:Int)+k)=((i+k:Nat):Int):=(w64 (x:=(i:Int)+k) (by omega)).trans (by omega)
  have hik:i+k<64:=by omega
  have hikc:i+k<cur.length:=by omega
  have hkb:k<b.length:=by omega
  have hk64:k<64:=by omega
  have hx:cur[i+k]=cf cur (i+k):=(fj hikc).symm;have hy:b[k]=cf b k:=(fj hkb).symm;have gc:=hcan (i+k);have gb:=hb k;have gm:=il (x:=q) (y:=cf b k) (b:=10) (c:=256) (by omega) (by omega) (by omega)
  have w3:IntKind.i64.wrap (cf cur (i+k))=cf cur (i+k):=w64 (by omega)
  have w5:IntKind.i64.wrap (cf b k)=cf b k:=w64 (by omega)
  have w6:IntKind.i64.wrap (q*cf b k)=q*cf b k:=w64 (by omega)
  have w7:IntKind.i64.wrap (cf cur (i+k)-q*cf b k)=cf cur (i+k)-q*cf b k:=w64 (by omega)
  have hin:=A5 (n:=cf cur (i+k)-q*cf b k) hp;have w9:IntKind.i64.wrap ((cf cur (i+k)-q*cf b k).tmod p+p)=(cf cur (i+k)-q*cf b k).tmod p+p:=w64 (by omega)
  have w10:((cf cur (i+k)-q*cf b k).tmod p+p).tmod p=(cf cur (i+k)-q*cf b k)%p:=vj hp;have hlin:0≤(cf cur (i+k)-q*cf b k)%p∧(cf cur (i+k)-q*cf b k)%p<p:=⟨dt _ (by omega),cz _ hp⟩
  have w11:IntKind.u8.wrap ((cf cur (i+k)-q*cf b k)%p)=(cf cur (i+k)-q*cf b k)%p:=w8 (by omega)
  have w4:IntKind.i64.wrap ((k:Int)+1)=((k+1:Nat):Int):=(w64 (x:=(k:Int)+1) (by omega)).trans (by omega)
  have t1:(0:Int)≤(i:Int)+k:=by omega
  have t2:((i:Int)+k).toNat=i+k:=by omega
  obtain ⟨cur',h2,h3,ih⟩:=a63 (O:=O) (by_:=by_) (quo:=quo) (z:=z) (z':=z') hq hb hbl hn h0 m (k+1) (cur.set (i+k) ((cf cur (i+k)-q*cf b k)%p)) (by omega) (by simpa using hc) (hcan.set hlin.1 (by omega) _)
  refine ⟨cur',h2,h3,bm ?_ ih⟩;simp -implicitDefEqProofs [Z3x_L0,ac,h1,hq0,w1,w2,hik,hikc,hkb,hk64,hx,hy,w3,w5,w6,w7,w9,w10,w11,w4,hp0,t1,t2]
theorem a8q {O:ah} {p by_:Int} [IsP p] {b:List Int} {bl:Nat} {z z':List Int} (hby:0≤by_∧by_<p) (hb:BB b) (hbl:b.length=64) (h0:0<bl):∀(c:Nat) (cur quo:List Int),c+bl≤65→cur.length=64→quo.length=64→BB cur→BB quo→∃(cur' quo':List Int) (n:Int),cur'.length=64∧BB cur'∧quo'.length=64∧BB quo' ∧
 dn O 0 (.loop Z3x_L1) ⟨[(0,(.d (.int .i64 p))),(4,.ptr 0 []),(5,.ptr 1 []),(6,.ptr 2 []),(7,.ptr 3 []),(8,.ptr 4 []),(9,(.d (.int .i64 ((bl:Int)-1)))),(10,(.d (.int .i64 by_))),(11,(.d (.int .i64 ((c:Int)+bl-2))))],[.box false (D.arr 64 .leaf (ab .u8 cur)),.box false (D.arr 64 .leaf (ab .u8 b)),.box false (D.arr 64 .leaf (ab .u8 z)),.box false (D.arr 64 .leaf (ab .u8 z')),.box false (D.arr 64 .leaf (ab .u8 quo))]⟩ =
  some (.exit 0,⟨[(0,(.d (.int .i64 p))),(4,.ptr 0 []),(5,.ptr 1 []),(6,.ptr 2 []),(7,.ptr 3 []),(8,.ptr 4 []),(9,(.d (.int .i64 ((bl:Int)-1)))),(10,(.d (.int .i64 by_))),(11,(.d (.int .i64 n))),(27,(.d (.bool false)))],[.box false (D.arr 64 .leaf (ab .u8 cur')),.box false (D.arr 64 .leaf (ab .u8 b)),.box false (D.arr 64 .leaf (ab .u8 z)),.box false (D.arr 64 .leaf (ab .u8 z')),.box false (D.arr 64 .leaf (ab .u8 quo'))]⟩)
 | 0,cur,quo,_,hc,hqo,hcan,hq2=>by
  have h1:¬ (bl:Int)-1≤(bl:Int)-2:=by omega
  have t0:((0:Nat):Int)+bl-2=(bl:Int)-2:=by omega
  rw [t0];exact ⟨cur,quo,(bl:Int)-2,hc,hcan,hqo,hq2,bt (by simp -implicitDefEqProofs [Z3x_L1,ac,h1])⟩
 | c+1,cur,quo,hcb,hc,hqo,hcan,hq2=>by
  have hp:=IsP.pos (p:=p);have hp7:=IsP.le (p:=p);have hp0:p≠0:=by omega
  have t0:((c+1:Nat):Int)+bl-2=(c:Int)+bl-1:=by omega
  rw [t0];have h1:(bl:Int)-1≤(c:Int)+bl-1:=by omega
  have hi64:c+bl-1<64:=by omega
  have hic:c+bl-1<cur.length:=by omega
  have t2:((c:Int)+bl-1).toNat=c+bl-1:=by omega
  have t3:(1:Int)≤(c:Int)+bl:=by omega
  have hx:cur[c+bl-1]=cf cur (c+bl-1):=(fj hic).symm;have gc:=hcan (c+bl-1);have gm:=il (x:=cf cur (c+bl-1)) (y:=by_) (b:=256) (c:=10) (by omega) (by omega) (by omega)
  have w1:IntKind.i64.wrap (cf cur (c+bl-1))=cf cur (c+bl-1):=w64 (by omega)
  have w2:IntKind.i64.wrap (cf cur (c+bl-1)*by_)=cf cur (c+bl-1)*by_:=w64 (by omega)
  have w3:(cf cur (c+bl-1)*by_).tmod p=cf cur (c+bl-1)*by_%p:=ct (fm gc.1 hby.1);have hq:0≤cf cur (c+bl-1)*by_%p∧cf cur (c+bl-1)*by_%p<p:=⟨dt _ hp0,cz _ hp⟩;have w4:IntKind.i64.wrap ((c:Int)+bl-1-(bl-1))=c:=(w64 (x:=(c:Int)+bl-1-(bl-1)) (by omega)).trans (by omega)
  have w5:IntKind.u8.wrap (cf cur (c+bl-1)*by_%p)=cf cur (c+bl-1)*by_%p:=w8 (by omega)
  have hc64:c<64:=by omega
  have hcq:c<quo.length:=by omega
  have w6:IntKind.i64.wrap ((c:Int)+bl-1-1)=(c:Int)+bl-2:=(w64 (x:=(c:Int)+bl-1-1) (by omega)).trans (by omega)
  generalize cf cur (c+bl-1)*by_%p=q at *
  have l0:∃(k:Int) (cur2:List Int),cur2.length=64∧BB cur2∧dn O 0 (.loop Z3x_L0) ⟨[(0,(.d (.int .i64 p))),(4,.ptr 0 []),(5,.ptr 1 []),(6,.ptr 2 []),(7,.ptr 3 []),(8,.ptr 4 []),(9,(.d (.int .i64 ((bl:Int)-1)))),(10,(.d (.int .i64 by_))),(11,(.d (.int .i64 ((c:Int)+bl-1)))),(12,(.d (.int .i64 q))),(13,(.d (.int .i64 0)))],[.box false (D.arr 64 .leaf (ab .u8 cur)),.box false (D.arr 64 .leaf (ab .u8 b)),.box false (D.arr 64 .leaf (ab .u8 z)),.box false (D.arr 64 .leaf (ab .u8 z')),.box false (D.arr 64 .leaf (ab .u8 (quo.set c q)))]⟩ =
   some (.exit 2,⟨[(0,(.d (.int .i64 p))),(4,.ptr 0 []),(5,.ptr 1 []),(6,.ptr 2 []),(7,.ptr 3 []),(8,.ptr 4 []),(9,(.d (.int .i64 ((bl:Int)-1)))),(10,(.d (.int .i64 by_))),(11,(.d (.int .i64 ((c:Int)+bl-1)))),(12,(.d (.int .i64 q))),(13,(.d (.int .i64 k))),(50,(.d (.bool false)))],[.box false (D.arr 64 .leaf (ab .u8 cur2)),.box false (D.arr 64 .leaf (ab .u8 b)),.box false (D.arr 64 .leaf (ab .u8 z)),.box false (D.arr 64 .leaf (ab .u8 z')),.box false (D.arr 64 .leaf (ab .u8 (quo.set c q)))]⟩):=by
   by_cases hq0:q=0
   ·subst hq0
    have h2:(1:Int)≤(bl:Int):=by omega
    exact ⟨0,cur,hc,hcan,bt (by simp -implicitDefEqProofs [Z3x_L0,ac,h2])⟩
   ·obtain ⟨cur2,g1,g2,g3⟩:=a63 (O:=O) (by_:=by_) (quo:=quo.set c q) (z:=z) (z':=z') (i:=c) (bl:=bl) ⟨by omega,hq.2⟩ hb hbl (by omega) h0 bl 0 cur (bn _) hc hcan
    exact ⟨_,cur2,g1,g2,g3⟩
  obtain ⟨k,cur2,c1,c2,l0⟩:=l0;obtain ⟨cur',quo',n,e1,e2,e3,e4,ih⟩:=a8q (O:=O) (z:=z) (z':=z') hby hb hbl h0 c cur2 (quo.set c q) (by omega) c1 (by simpa using hqo) c2 (hq2.set hq.1 (by omega) _)
  refine ⟨cur',quo',n,e1,e2,e3,e4,bm ?_ ih⟩;simp -implicitDefEqProofs [Z3x_L1,ac,h1,hi64,hic,t2,t3,hx,w1,w2,w3,w4,w5,w6,hc64,hcq,hp0,l0]
def If (O:ah):Prop:=∀(p:Int) [IsP p] (a:List Int) (b:Fp p),Arr a→b≠0→b.len≤64→∃q r:List Int,Arr q∧Arr r∧ask O F3x [(D.int .i64 p),(D.arr 64 .leaf (ab .u8 a)),(D.arr 64 .leaf (ab .u8 (pad (row b))))]=some (.tup [(D.arr 64 .leaf (ab .u8 q)),(D.arr 64 .leaf (ab .u8 r))])
theorem a25 (hT:T F3x=some Z3x) (hdr:Ig (den T A)) (hd:iq (den T A)) (hinv:md (den T A)):If (den T A):=by
 intro p ip a b ha hb hbl;have hp:=IsP.ge (p:=p);have hp7:=IsP.le (p:=p);have hb0:=Pol.len_pos hb;have e1:=hd p b hbl;have e2:=hdr a ha.1;have hr:=kl b.ld;have hld:rep b.ld≠0:=fun h0=>Pol.ld_ne hb (g7.1 h0)
 have e3:=hinv p (rep b.ld) (by omega) hr.2
 have hin:=y9 p (rep b.ld);have w1:IntKind.i64.wrap (inv p (rep b.ld))=inv p (rep b.ld):=w64 (by omega)
 have hbx:(pad (row b))[b.len-1]? = some (rep b.ld):=by rw [qt _ _ (by omega),gz]; rfl
 have hbx':((b.len:Int)-1).toNat=b.len-1:=by omega
 have hbx2:(1:Int)≤(b.len:Int):=by omega
 have hbx3:b.len-1<64:=by omega
 have htl:jz a 64≤64:=Ab a 64;have bz:BB (pad []):=fun j=>by rw [Bn (by simp),nj (by simp)]; omega
 have lz:∃(cur' quo':List Int) (n:Int),cur'.length=64∧BB cur'∧quo'.length=64∧BB quo'∧dn (den T A) 0 (.loop Z3x_L1) ⟨[(0,(.d (.int .i64 p))),(4,.ptr 0 []),(5,.ptr 1 []),(6,.ptr 2 []),(7,.ptr 3 []),(8,.ptr 4 []),(9,(.d (.int .i64 ((b.len:Int)-1)))),(10,(.d (.int .i64 (inv p (rep b.ld))))),(11,(.d (.int .i64 ((jz a 64:Int)-1))))],[.box false (D.arr 64 .leaf (ab .u8 a)),.box false (D.arr 64 .leaf (ab .u8 (pad (row b)))),.box false (D.arr 64 .leaf (ab .u8 (pad []))),.box false (D.arr 64 .leaf (ab .u8 (pad []))),.box false (D.arr 64 .leaf (ab .u8 (pad [])))]⟩ =
  some (.exit 0,⟨[(0,(.d (.int .i64 p))),(4,.ptr 0 []),(5,.ptr 1 []),(6,.ptr 2 []),(7,.ptr 3 []),(8,.ptr 4 []),(9,(.d (.int .i64 ((b.len:Int)-1)))),(10,(.d (.int .i64 (inv p (rep b.ld))))),(11,(.d (.int .i64 n))),(27,(.d (.bool false)))],[.box false (D.arr 64 .leaf (ab .u8 cur')),.box false (D.arr 64 .leaf (ab .u8 (pad (row b)))),.box false (D.arr 64 .leaf (ab .u8 (pad []))),.box false (D.arr 64 .leaf (ab .u8 (pad []))),.box false (D.arr 64 .leaf (ab .u8 quo'))]⟩):=by
  by_cases hlt:b.len≤jz a 64
  ·obtain ⟨cur',quo',n,g1,g2,g3,g4,l1⟩:=a8q (O:=den T A) (b:=pad (row b)) (bl:=b.len) (z:=pad []) (z':=pad []) hin (H9 (qq b)) (ck _) hb0 (jz a 64+1-b.len) a (pad []) (by omega) ha.1 (ck _) (H9 ha) bz
   rw [show ((jz a 64+1-b.len:Nat):Int)+b.len-2=(jz a 64:Int)-1 by omega] at l1
   exact ⟨cur',quo',n,g1,g2,g3,g4,l1⟩
  ·have h4:¬ (b.len:Int)-1≤(jz a 64:Int)-1:=by omega
   exact ⟨a,pad [],(jz a 64:Int)-1,ha.1,H9 ha,ck _,bz,bt (by simp -implicitDefEqProofs [Z3x_L1,ac,h4])⟩
 obtain ⟨cur',quo',n,g1,g2,g3,g4,lz⟩:=lz;refine ⟨quo',cur',a8d g3 g4,a8d g1 g2,bi hT rfl ?_⟩;generalize pad (row b)=Pb at *;generalize (jz a 64:Int)-1=ta at *;simp -implicitDefEqProofs [Z3x,Z3x_B,e1,e2,e3,w1,hbx,hbx',hbx2,hbx3,lz,List.replicate]
def W7 (O:ah):Prop:=∀(p:Int) [IsP p] (a:List Int) (b:Fp p),Arr a→b≠0→b.len≤64→∃r:List Int,Arr r∧ask O F47 [(D.int .i64 p),(D.arr 64 .leaf (ab .u8 a)),(D.arr 64 .leaf (ab .u8 (pad (row b))))]=some (D.arr 64 .leaf (ab .u8 r))
theorem adr (hT:T F47=some Z47) (hd:If (den T A)):W7 (den T A):=by
 intro p ip a b ha hb hbl;obtain ⟨q,r,h1,h2,e⟩:=hd p a b ha hb hbl;refine ⟨r,h2,bi hT rfl ?_⟩;generalize pad (row b)=Pb at *;simp -implicitDefEqProofs [Z47,Z47_B,e,List.replicate]
theorem ain {O:ah} (hu:Om O) (ha:E3 O) (hmo:xy O) {p:Int} [IsP p] {a b z:List Int} {m:Fp p} (hm:m≠0) (hml:m.len≤64) (haa:Arr a) (hbb:Arr b):∀(n:Nat) (c:Fp p),n≤64→c.len<m.len→∃c':Fp p,c'.len<m.len ∧
 dn O 0 (.loop Z49_L0) ⟨[(0,(.d (.int .i64 p))),(5,.ptr 0 []),(6,.ptr 1 []),(7,.ptr 2 []),(8,.ptr 3 []),(9,.ptr 4 []),(10,(.d (.int .i64 ((n:Int)-1))))],[.box false (D.arr 64 .leaf (ab .u8 a)),.box false (D.arr 64 .leaf (ab .u8 b)),.box false (D.arr 64 .leaf (ab .u8 (pad (row m)))),.box false (D.arr 64 .leaf (ab .u8 z)),.box false (D.arr 64 .leaf (ab .u8 (pad (row c))))]⟩ =
  some (.exit 0,⟨[(0,(.d (.int .i64 p))),(5,.ptr 0 []),(6,.ptr 1 []),(7,.ptr 2 []),(8,.ptr 3 []),(9,.ptr 4 []),(10,(.d (.int .i64 (-1)))),(15,(.d (.bool false)))],[.box false (D.arr 64 .leaf (ab .u8 a)),.box false (D.arr 64 .leaf (ab .u8 b)),.box false (D.arr 64 .leaf (ab .u8 (pad (row m)))),.box false (D.arr 64 .leaf (ab .u8 z)),.box false (D.arr 64 .leaf (ab .u8 (pad (row c'))))]⟩)
 | 0,c,_,hc=>⟨c,hc,bt (by simp -implicitDefEqProofs [Z49_L0,ac])⟩
 | n+1,c,hn,hc=>by
  have gb:=H9 hbb n;have e1:=hu p c m hm hc hml;obtain ⟨d,hd,e2⟩:=ha p (pad (row (Pol.X*c%m))) a (cf b n) (qq _) haa (by omega) (by omega)
  have e3:=hmo p d m hm hd hml;have t0:(((n+1:Nat):Int)-1)=(n:Int):=by omega
  rw [t0];have hn64:n<64:=by omega
  have hnb:n<b.length:=by rw [hbb.1]; omega
  have hx:b[n]? = some (cf b n):=by rw [au hnb,fj hnb]
  have w1:IntKind.i64.wrap (cf b n)=cf b n:=w64 (by omega)
  have w2:IntKind.i64.wrap ((n:Int)-1)=(n:Int)-1:=w64 (by omega)
  obtain ⟨c',h1,ih⟩:=ain hu ha hmo (z:=z) hm hml haa hbb n (d%m) (by omega) (Pol.len_mod _ hm)
  refine ⟨c',h1,bm ?_ ih⟩;generalize pad (row (d%m))=R at *;generalize pad (row d)=R1 at *;generalize pad (row c)=R2 at *;generalize pad (row (Pol.X*c%m))=R3 at *;generalize pad (row m)=PM at *;simp -implicitDefEqProofs [Z49_L0,ac,e1,e2,e3,hn64,hx,w1,w2]
def tl (O:ah):Prop:=∀(p:Int) [IsP p] (a b:List Int) (m:Fp p),m≠0→m.len≤64→Arr a→Arr b→∃c:Fp p,c.len<m.len∧ask O F49 [(D.int .i64 p),(D.arr 64 .leaf (ab .u8 a)),(D.arr 64 .leaf (ab .u8 b)),(D.arr 64 .leaf (ab .u8 (pad (row m))))]=some (D.arr 64 .leaf (ab .u8 (pad (row c))))
theorem a3d (hT:T F49=some Z49) (hd:Ig (den T A)) (hu:Om (den T A)) (ha:E3 (den T A)) (hmo:xy (den T A)):tl (den T A):=by
 intro p ip a b m hm hml haa hbb;have e1:=hd b hbb.1;have hmp:=Pol.len_pos hm;obtain ⟨c,h1,e2⟩:=ain (O:=den T A) (z:=pad []) hu ha hmo hm hml haa hbb (jz b 64) 0 (Ab b 64) (by rw [Pol.len_zero]; omega)
 rw [dq] at e2;refine ⟨c,h1,bi hT rfl ?_⟩;generalize pad (row c)=R at *;generalize (jz b 64:Int)-1=tb at *;generalize pad (row m)=PM at *;simp -implicitDefEqProofs [Z49,Z49_B,e1,e2]
theorem aep {O:ah} (hmm:tl O) {p:Int} [IsP p] {m:Fp p} {z:List Int} (hm:m≠0) (hml:m.len≤64):∀(n:Nat) (k:Int) (out base:List Int),0≤k→k.toNat<2^n→k<4611686018427387904→Arr out→Arr base→∃out' base':List Int,Arr out' ∧
 dn O 0 (.loop Z4d_L0) ⟨[(0,(.d (.int .i64 p))),(2,(.d (.int .i64 k))),(7,.ptr 1 []),(8,.ptr 2 []),(9,.ptr 3 []),(10,.ptr 4 [])],[.hole,.box false (D.arr 64 .leaf (ab .u8 (pad (row m)))),.box false (D.arr 64 .leaf (ab .u8 z)),.box false (D.arr 64 .leaf (ab .u8 out)),.box false (D.arr 64 .leaf (ab .u8 base))]⟩ =
  some (.exit 0,⟨[(0,(.d (.int .i64 p))),(2,(.d (.int .i64 0))),(7,.ptr 1 []),(8,.ptr 2 []),(9,.ptr 3 []),(10,.ptr 4 []),(20,(.d (.bool false)))],[.hole,.box false (D.arr 64 .leaf (ab .u8 (pad (row m)))),.box false (D.arr 64 .leaf (ab .u8 z)),.box false (D.arr 64 .leaf (ab .u8 out')),.box false (D.arr 64 .leaf (ab .u8 base'))]⟩)
 | n,k,out,base,hk,hn,hkm,ho,hb=>by
  by_cases h0:k=0
  ·subst h0
   exact ⟨out,base,ho,bt (by simp -implicitDefEqProofs [Z4d_L0,ac])⟩
  ·cases n with
   | zero=>simp at hn; omega
   | succ n=>
    have hkp:0<k:=by omega
    obtain ⟨c1,-,t1⟩:=hmm p out base m hm hml ho hb;obtain ⟨c2,-,t2⟩:=hmm p base base m hm hml hb hb;have w1:IntKind.i64.wrap (k.tdiv 2)=k/2:=by rw [pf hk,w64 (by omega)]
    have w2:k.tmod 2=k%2:=ct hk
    by_cases hodd:k%2=1
    ·obtain ⟨o',b',h1,e⟩:=aep hmm (z:=z) hm hml n (k/2) (pad (row c1)) (pad (row c2)) (by omega) (by rw [lw] at hn; omega) (by omega) (qq c1) (qq c2)
     refine ⟨o',b',h1,bm ?_ e⟩;generalize pad (row c1)=R1 at *;generalize pad (row c2)=R2 at *;generalize pad (row m)=R5 at *;simp -implicitDefEqProofs [Z4d_L0,ac,hkp,t1,t2,w1,w2,hodd]
    ·obtain ⟨o',b',h1,e⟩:=aep hmm (z:=z) hm hml n (k/2) out (pad (row c2)) (by omega) (by rw [lw] at hn; omega) (by omega) ho (qq c2)
     refine ⟨o',b',h1,bm ?_ e⟩;generalize pad (row c2)=R2 at *;generalize pad (row m)=R5 at *;simp -implicitDefEqProofs [Z4d_L0,ac,hkp,t2,w1,w2,hodd]
def C0 (O:ah):Prop:=∀(p:Int) [IsP p] (a:List Int) (k:Int) (m:Fp p),m≠0→Arr a→m.len≤64→0≤k→k<4611686018427387904→∃r:List Int,Arr r∧ask O F4d [(D.int .i64 p),(D.arr 64 .leaf (ab .u8 a)),(D.int .i64 k),(D.arr 64 .leaf (ab .u8 (pad (row m))))]=some (D.arr 64 .leaf (ab .u8 r))
theorem a3h (hT:T F4d=some Z4d) (h1:Au (den T A)) (hmo:W7 (den T A)) (hmm:tl (den T A)):C0 (den T A):=by
 intro p ip a k m hm ha hml hk hkm;have e1:=h1 p;obtain ⟨r1,a1,e2⟩:=hmo p (pad (row (1:Fp p))) m (qq _) hm hml;obtain ⟨r2,a2,e3⟩:=hmo p a m ha hm hml;obtain ⟨o,b,ao,st⟩:=aep (O:=den T A) hmm (z:=pad []) hm hml 62 k r1 r2 hk (by omega) hkm a1 a2
 refine ⟨o,ao,bi hT rfl ?_⟩;generalize pad (row (1:Fp p))=P1 at *;generalize pad (row m)=R5 at *;simp -implicitDefEqProofs [Z4d,Z4d_B,e1,e2,e3,st,List.replicate]
theorem ai3 {O:ah} (hpw:C0 O) {p:Int} [IsP p] {m:Fp p} {z:List Int} (hm:m≠0) (hml:m.len≤64):∀(k:Nat) (a:List Int),k<1000000→Arr a→∃a':List Int,Arr a' ∧
 dn O 0 (.loop Z4r_L0) ⟨[(0,(.d (.int .i64 p))),(5,.ptr 0 []),(7,.ptr 1 []),(8,.ptr 2 []),(9,(.d (.int .i64 k)))],[.box false (D.arr 64 .leaf (ab .u8 a)),.box false (D.arr 64 .leaf (ab .u8 (pad (row m)))),.box false (D.arr 64 .leaf (ab .u8 z))]⟩ =
  some (.exit 0,⟨[(0,(.d (.int .i64 p))),(5,.ptr 0 []),(7,.ptr 1 []),(8,.ptr 2 []),(9,(.d (.int .i64 0))),(15,(.d (.bool false)))],[.box false (D.arr 64 .leaf (ab .u8 a')),.box false (D.arr 64 .leaf (ab .u8 (pad (row m)))),.box false (D.arr 64 .leaf (ab .u8 z))]⟩)
 | 0,a,hk,ha=>by
  refine ⟨a,ha,bt ?_⟩;generalize pad (row m)=Pm at *;simp -implicitDefEqProofs [Z4r_L0,ac]
 | k+1,a,hk,ha=>by
  have hp:=IsP.pos (p:=p);have hp7:=IsP.le (p:=p);have w4:IntKind.i64.wrap (((k+1:Nat):Int)-1)=(k:Int):=(w64 (x:=((k+1:Nat):Int)-1) (by omega)).trans (by omega)
  have hlt:(0:Int)<((k+1:Nat):Int):=by omega
  obtain ⟨r,ar,e1⟩:=hpw p a p m hm ha hml (by omega) (by omega)
  obtain ⟨a',h1,ih⟩:=ai3 hpw (z:=z) hm hml k r (by omega) ar
  refine ⟨a',h1,bm ?_ ih⟩;generalize ((k+1:Nat):Int)=k1 at *;generalize pad (row m)=Pm at *;simp -implicitDefEqProofs [Z4r_L0,ac,hlt,e1,w4]
def Ej (O:ah):Prop:=∀(p:Int) [IsP p] (m:Fp p) (a:List Int) (k:Nat),2≤m.len→m.len≤64→Arr a→k<1000000→∃r:List Int,Arr r∧ask O F4r [(D.int .i64 p),(D.arr 64 .leaf (ab .u8 a)),(D.int .i64 k),(D.arr 64 .leaf (ab .u8 (pad (row m))))]=some (D.arr 64 .leaf (ab .u8 r))
theorem aat (hT:T F4r=some Z4r) (hpw:C0 (den T A)) (hdg:iq (den T A)):Ej (den T A):=by
 intro p ip m a k h2 hml ha hk;have hm:m≠0:=fun h=>by rw [h,Pol.len_zero] at h2; omega
 have e1:=hdg p m hml;rw [show ((m.len:Int)-1)=((m.len-1:Nat):Int) by omega] at e1
 have hlt:=Nat.mod_lt k (show 0<m.len-1 by omega)
 obtain ⟨r,ar,e2⟩:=ai3 (O:=den T A) (z:=pad []) hpw hm hml (k%(m.len-1)) a (by omega) ha
 have w1:(k:Int).tmod ((m.len-1:Nat):Int)=((k%(m.len-1):Nat):Int):=by rw [ct (by omega)]; rfl
 have h0:((m.len-1:Nat):Int)≠0:=by omega
 refine ⟨r,ar,bi hT rfl ?_⟩;generalize ((k%(m.len-1):Nat):Int)=n1 at *;generalize ((m.len-1:Nat):Int)=m1 at *;generalize pad (row m)=Pm at *;simp -implicitDefEqProofs [Z4r,Z4r_B,e1,e2,w1,h0,List.replicate]
end Pe

namespace Pe
open Go Gq
variable {T:Nat→Option Fn} {A:ah}
theorem a0m {ls:List (List Int)} (h:Sk8 ls) {i:Nat} (hi:i<8):∃l:List Int,Arr l∧l∈ls∧∀h:i<(ls.map aw).length,(ls.map aw)[i]'h=(D.arr 64 .leaf (ab .u8 l)):=by
 have hlt:i<ls.length:=by rw [h.2]; exact hi
 have hm:=bj hlt;exact ⟨ls[i],h.1 _ hm,hm,fun h=>by rw [ca]⟩
theorem a8i {ls:List (List Int)} (h:Sk8 ls) {l:List Int} (hl:Arr l) (i:Nat):Sk8 (ls.set i l):=
 ⟨fun x hx=>by
  rcases dh hx with g | rfl
  ·exact h.1 x g
  ·exact hl,by rw [cr]; exact h.2⟩
theorem ac4 {O:ah} {ls:List (List Int)} (h:Sk8 ls):∀n:Nat,n≤8→∃k:Nat,k≤n ∧
 dn O 0 (.loop Z4l_L0) ⟨[(1,.ptr 0 []),(3,(.d (.int .i64 ((n:Int)-1))))],[.box false (.arr 8 (.arr 64 .leaf) (ls.map aw))]⟩ =
  some (.exit 0,⟨[(1,.ptr 0 []),(3,(.d (.int .i64 ((k:Int)-1)))),(12,(.d (.bool false)))],[.box false (.arr 8 (.arr 64 .leaf) (ls.map aw))]⟩)
 | 0,_=>by
  refine ⟨0,ba _,bt ?_⟩;generalize ls.map aw=LD at *;simp -implicitDefEqProofs [Z4l_L0,ac]
 | n+1,hn=>by
  have hi8:n<8:=by omega
  obtain ⟨l,al,-,hx2⟩:=a0m h hi8;have hL:(ls.map aw).length=8:=by rw [ap]; exact h.2
  have e4:=Nk al.1 (ck []);have t0:((n+1:Nat):Int)-1=(n:Int):=by omega
  have w1:IntKind.i64.wrap ((n:Int)-1)=(n:Int)-1:=w64 (by omega)
  rw [t0]
  by_cases hz:l=pad []
  ·rw [decide_eq_true hz] at e4
   obtain ⟨k,hk,ih⟩:=ac4 (O:=O) h n (by omega)
   refine ⟨k,by omega,bm ?_ ih⟩
   generalize ls.map aw=LD at *;simp -implicitDefEqProofs [Z4l_L0,ac,hi8,hL,hx2,e4,w1]
  ·rw [decide_eq_false hz] at e4
   refine ⟨n+1,ba _,?_⟩;rw [t0];refine bt ?_;generalize ls.map aw=LD at *;simp -implicitDefEqProofs [Z4l_L0,ac,hi8,hL,hx2,e4]
def Nr (O:ah):Prop:=∀ls:List (List Int),Sk8 ls→∃k:Nat,k≤8∧ask O F4l [.arr 8 (.arr 64 .leaf) (ls.map aw)]=some (D.int .i64 ((k:Int)-1))
theorem a5d (hT:T F4l=some Z4l):Nr (den T A):=by
 intro ls h;obtain ⟨k,hk,e⟩:=ac4 (O:=den T A) h 8 (ba _);rw [show ((8:Nat):Int)-1=7 from rfl] at e;refine ⟨k,hk,bi hT rfl ?_⟩;generalize ls.map aw=LD at *;simp -implicitDefEqProofs [Z4l,Z4l_B,e]
theorem ach {O:ah} (hfr:Ej O) (hmm:tl O) (had:E3 O) {p:Int} [IsP p] {m:Fp p} {F G:List (List Int)} {z:List D} {vn:V} (hvn:vn.refs=[]) (h2:2≤m.len) (hml:m.len≤64) (hF:Sk8 F) (hG:Sk8 G) {i nb:Nat} (hi:i<8) (hnb:i+nb≤8) (hnb1:1≤nb):∀(r j:Nat) (Q:List (List Int)),j+r=nb→Sk8 Q→∃Q':List (List Int),Sk8 Q' ∧
 dn O 0 (.loop Z55_L0) ⟨[(0,(.d (.int .i64 p))),(5,.ptr 0 []),(6,.ptr 1 []),(7,.ptr 2 []),(8,.ptr 3 []),(10,vn),(11,(.d (.int .i64 (((nb-1:Nat):Int))))),(12,.ptr 4 []),(13,(.d (.int .i64 i))),(14,(.d (.int .i64 j)))],[.box false (D.arr 64 .leaf (ab .u8 (pad (row m)))),.box false (.arr 8 (.arr 64 .leaf) (F.map aw)),.box false (.arr 8 (.arr 64 .leaf) (G.map aw)),.box false (.arr 8 (.arr 64 .leaf) z),.box false (.arr 8 (.arr 64 .leaf) (Q.map aw)),.hole]⟩ =
  some (.exit 2,⟨[(0,(.d (.int .i64 p))),(5,.ptr 0 []),(6,.ptr 1 []),(7,.ptr 2 []),(8,.ptr 3 []),(10,vn),(11,(.d (.int .i64 (((nb-1:Nat):Int))))),(12,.ptr 4 []),(13,(.d (.int .i64 i))),(14,(.d (.int .i64 nb))),(40,(.d (.bool false)))],[.box false (D.arr 64 .leaf (ab .u8 (pad (row m)))),.box false (.arr 8 (.arr 64 .leaf) (F.map aw)),.box false (.arr 8 (.arr 64 .leaf) (G.map aw)),.box false (.arr 8 (.arr 64 .leaf) z),.box false (.arr 8 (.arr 64 .leaf) (Q'.map aw)),.hole]⟩)
 | 0,j,Q,hj,hQ=>by
  obtain rfl:j=nb:=by omega
  have hlt:¬ (j:Int)≤((j-1:Nat):Int):=by omega
  refine ⟨Q,hQ,bt ?_⟩;generalize ((j-1:Nat):Int)=k1 at *;generalize F.map aw=LS at *;generalize G.map aw=LR at *;generalize Q.map aw=LQ at *;generalize pad (row m)=Pm at *;simp -implicitDefEqProofs [Z55_L0,ac,hlt,hvn]
 | r+1,j,Q,hj,hQ=>by
  have hm:m≠0:=fun h=>by rw [h,Pol.len_zero] at h2; omega
  have hj8:j<8:=by omega
  have hij:i+j<8:=by omega
  obtain ⟨f,af,-,hxS⟩:=a0m hF hi;obtain ⟨g,ag,-,hxR⟩:=a0m hG hj8;obtain ⟨q,aq,-,hxQ⟩:=a0m hQ hij;have hle:(j:Int)≤((nb-1:Nat):Int):=by omega
  have w0:IntKind.i64.wrap ((i:Int)+j)=((i+j:Nat):Int):=(w64 (x:=(i:Int)+j) (by omega)).trans (by omega)
  have hs0:(0:Int)≤(i:Int)+j:=by omega
  have hs1:((i:Int)+j).toNat=i+j:=by omega
  have w4:IntKind.i64.wrap ((j:Int)+1)=((j+1:Nat):Int):=(w64 (x:=(j:Int)+1) (by omega)).trans (by omega)
  obtain ⟨x1,a1,e1⟩:=hfr p m g i h2 hml ag (by omega)
  obtain ⟨c2,-,e2⟩:=hmm p f x1 m hm hml af a1;obtain ⟨c3,-,e3⟩:=had p q (pad (row c2)) 1 aq (qq c2) (by omega) (by omega)
  obtain ⟨Q',g1,ih⟩:=ach hfr hmm had (z:=z) hvn h2 hml hF hG hi hnb hnb1 r (j+1) (Q.set (i+j) (pad (row c3))) (by omega) (a8i hQ (qq c3) _)
  refine ⟨Q',g1,bm ?_ ih⟩;rw [fg];have hLS:(F.map aw).length=8:=by rw [ap]; exact hF.2
  have hLR:(G.map aw).length=8:=by rw [ap]; exact hG.2
  have hLQ:(Q.map aw).length=8:=by rw [ap]; exact hQ.2
  show _=some (_,(⟨_,[_,_,_,_,.box false (.arr 8 (.arr 64 .leaf) ((Q.map aw).set (i+j) (D.arr 64 .leaf (ab .u8 (pad (row c3)))))),_]⟩:St));generalize pad (row c3)=P1 at *;generalize pad (row c2)=P2 at *;generalize F.map aw=LS at *;generalize G.map aw=LR at *;generalize Q.map aw=LQ at *;generalize pad (row m)=Pm at *;generalize ((nb-1:Nat):Int)=k1 at *;simp -implicitDefEqProofs [Z55_L0,ac,hle,hi,hj8,hij,hs0,hs1,hLS,hLR,hLQ,hxS,hxR,hxQ,e1,e2,e3,w0,w4,hvn]
theorem abx {O:ah} (hfr:Ej O) (hmm:tl O) (had:E3 O) {p:Int} [IsP p] {m:Fp p} {F G:List (List Int)} {z:List D} (h2:2≤m.len) (hml:m.len≤64) (hF:Sk8 F) (hG:Sk8 G) {na nb:Nat} (hnb:1≤nb) (hab:na+nb≤9):∀(r i:Nat) (Q:List (List Int)),i+r=na→Sk8 Q→∃Q':List (List Int),Sk8 Q' ∧
 dn O 0 (.loop Z55_L1) ⟨[(0,(.d (.int .i64 p))),(5,.ptr 0 []),(6,.ptr 1 []),(7,.ptr 2 []),(8,.ptr 3 []),(10,(.d (.int .i64 ((na:Int)-1)))),(11,(.d (.int .i64 (((nb-1:Nat):Int))))),(12,.ptr 4 []),(13,(.d (.int .i64 i)))],[.box false (D.arr 64 .leaf (ab .u8 (pad (row m)))),.box false (.arr 8 (.arr 64 .leaf) (F.map aw)),.box false (.arr 8 (.arr 64 .leaf) (G.map aw)),.box false (.arr 8 (.arr 64 .leaf) z),.box false (.arr 8 (.arr 64 .leaf) (Q.map aw)),.hole]⟩ =
  some (.exit 0,⟨[(0,(.d (.int .i64 p))),(5,.ptr 0 []),(6,.ptr 1 []),(7,.ptr 2 []),(8,.ptr 3 []),(10,(.d (.int .i64 ((na:Int)-1)))),(11,(.d (.int .i64 (((nb-1:Nat):Int))))),(12,.ptr 4 []),(13,(.d (.int .i64 na))),(35,(.d (.bool false)))],[.box false (D.arr 64 .leaf (ab .u8 (pad (row m)))),.box false (.arr 8 (.arr 64 .leaf) (F.map aw)),.box false (.arr 8 (.arr 64 .leaf) (G.map aw)),.box false (.arr 8 (.arr 64 .leaf) z),.box false (.arr 8 (.arr 64 .leaf) (Q'.map aw)),.hole]⟩)
 | 0,i,Q,hi,hQ=>by
  obtain rfl:i=na:=by omega
  have hlt:¬ (i:Int)≤(i:Int)-1:=by omega
  refine ⟨Q,hQ,bt ?_⟩;generalize ((nb-1:Nat):Int)=k2 at *;generalize F.map aw=LS at *;generalize G.map aw=LR at *;generalize Q.map aw=LQ at *;generalize pad (row m)=Pm at *;simp -implicitDefEqProofs [Z55_L1,ac,hlt]
 | r+1,i,Q,hi,hQ=>by
  have hle:(i:Int)≤(na:Int)-1:=by omega
  have w4:IntKind.i64.wrap ((i:Int)+1)=((i+1:Nat):Int):=(w64 (x:=(i:Int)+1) (by omega)).trans (by omega)
  obtain ⟨Q2,g1,e1⟩:=ach (O:=O) hfr hmm had (z:=z) (vn:=(.d (.int .i64 ((na:Int)-1)))) rfl h2 hml hF hG (i:=i) (nb:=nb) (by omega) (by omega) hnb nb 0 Q (bn _) hQ
  rw [show ((0:Nat):Int)=0 from rfl] at e1;obtain ⟨Q',g2,ih⟩:=abx hfr hmm had (z:=z) h2 hml hF hG hnb hab r (i+1) Q2 (by omega) g1
  refine ⟨Q',g2,bm ?_ ih⟩;generalize Q2.map aw=LQ2 at *;generalize F.map aw=LS at *;generalize G.map aw=LR at *;generalize Q.map aw=LQ at *;generalize pad (row m)=Pm at *;generalize ((nb-1:Nat):Int)=k1 at *;generalize (na:Int)-1=k2 at *;simp -implicitDefEqProofs [Z55_L1,ac,hle,e1,w4]
theorem Jv:Sk8 (List.replicate 8 (pad [])):=⟨fun x hx=>by
 rw [f7 hx];refine ⟨ck _,fun y hy=>?_⟩
 unfold pad at hy;obtain ⟨a,_,rfl⟩:∃a,a<64∧cf [] a=y:=by simpa using hy
 rw [nj (kg _)];omega,rfl⟩
def Cw (O:ah):Prop:=∀(p:Int) [IsP p] (m:Fp p) (F G:List (List Int)),2≤m.len→m.len≤64→Sk8 F→Sk8 G→∃(Q:List (List Int)) (b:Bool),Sk8 Q∧ask O F55 [(D.int .i64 p),(D.arr 64 .leaf (ab .u8 (pad (row m)))),da F,da G]=some (.tup [da Q,(D.bool b)])
theorem a3l (hT:T F55=some Z55) (hdg:Nr (den T A)) (hfr:Ej (den T A)) (hmm:tl (den T A)) (had:E3 (den T A)):Cw (den T A):=by
 intro p ip m F G h2 hml hF hG;obtain ⟨na,l1,e1⟩:=hdg F hF;obtain ⟨nb,l2,e2⟩:=hdg G hG;have w1:IntKind.i64.wrap ((na:Int)-1+(nb-1))=(na:Int)-1+(nb-1):=w64 (by omega)
 have hzz:(List.replicate 8 (pad [])).map aw=z8:=rfl;rw [show da F=.arr 8 (.arr 64 .leaf) (F.map aw) from rfl,show da G=.arr 8 (.arr 64 .leaf) (G.map aw) from rfl]
 by_cases h0:na=0∨nb=0
 ·refine ⟨List.replicate 8 (pad []),true,Jv,bi hT rfl ?_⟩
  show _=some (D.tup [.arr 8 (.arr 64 .leaf) ((List.replicate 8 (pad [])).map aw),(D.bool true)]);rw [hzz];rcases h0 with rfl | rfl
  ·generalize F.map aw=LS at *
   generalize G.map aw=LR at *;generalize pad (row m)=Pm at *;simp -implicitDefEqProofs [Z55,Z55_B,ac,e1,e2,List.replicate]
  ·generalize F.map aw=LS at *
   generalize G.map aw=LR at *;generalize pad (row m)=Pm at *
   by_cases hn:na=0
   ·subst hn
    simp -implicitDefEqProofs [Z55,Z55_B,ac,e1,e2,List.replicate]
   ·have hlt:¬ ((na:Int)-1<0):=by omega
    simp -implicitDefEqProofs [Z55,Z55_B,ac,e1,e2,hlt,List.replicate]
 ·have a2:((nb:Int)-1)=((nb-1:Nat):Int):=by omega
  rw [a2] at w1 e2;have hn1:¬ (na:Int)-1<0:=by omega
  have hn2:¬ ((nb-1:Nat):Int)<0:=by omega
  by_cases h9:9<na+nb
  ·refine ⟨List.replicate 8 (pad []),false,Jv,bi hT rfl ?_⟩
   show _=some (D.tup [.arr 8 (.arr 64 .leaf) ((List.replicate 8 (pad [])).map aw),(D.bool false)]);rw [hzz];have hgt:(7:Int)<(na:Int)-1+((nb-1:Nat):Int):=by omega
   generalize F.map aw=LS at *;generalize G.map aw=LR at *;generalize pad (row m)=Pm at *;generalize (na:Int)-1=k1 at *;generalize ((nb-1:Nat):Int)=k2 at *;simp -implicitDefEqProofs [Z55,Z55_B,ac,e1,e2,w1,hgt,hn1,hn2,List.replicate]
  ·have hgt:¬ (7:Int)<(na:Int)-1+((nb-1:Nat):Int):=by omega
   obtain ⟨Q,hQ,e3⟩:=abx (O:=den T A) hfr hmm had (z:=z8) h2 hml hF hG (na:=na) (nb:=nb) (by omega) (by omega) na 0 (List.replicate 8 (pad [])) (bn _) Jv
   rw [show ((0:Nat):Int)=0 from rfl,hzz] at e3;refine ⟨Q,true,hQ,bi hT rfl ?_⟩;show _=some (D.tup [.arr 8 (.arr 64 .leaf) (Q.map aw),(D.bool true)]);generalize Q.map aw=LQ at *;generalize F.map aw=LS at *;generalize G.map aw=LR at *;generalize pad (row m)=Pm at *;generalize (na:Int)-1=k1 at *;generalize ((nb-1:Nat):Int)=k2 at *;simp -implicitDefEqProofs [Z55,Z55_B,ac,e1,e2,e3,w1,hgt,hn1,hn2,List.replicate]
end Pe

namespace Pe
open Go Gq
variable {T:Nat→Option Fn} {A:ah}
end Pe

namespace Pe
open Go Gq
variable {T:Nat→Option Fn} {A:ah}
end Pe

namespace Pe
open Go Gq
variable {T:Nat→Option Fn} {A:ah}
theorem Yk {l:List Int} (h:Arr l) {x:Int} (h0:0≤x) (h1:x<256) (i:Nat):Arr (l.set i x):=
 ⟨by rw [cr]; exact h.1,fun z hz=>by
  rcases dh hz with g | rfl
  ·exact h.2 z g
  ·exact ⟨h0,h1⟩⟩
end Pe

namespace Pe
open Go Gq
variable {T:Nat→Option Fn} {A:ah}
open Classical in
theorem ac3 {O:ah} (hn:pb O F4a) (hm:yn O) (hir:E0 O) {p:Int} [IsP p] {z:List Int}:∀(r k:Nat) (b:Blk),k+r=6→Src b→∃b':Blk,Src b' ∧
 (dn O 1 (.loop Z4o_L0) ⟨[(0,.ptr 0 []),(3,.ptr 1 []),(4,(.d (.int .i64 p))),(5,(.d (.int .i64 k)))],[b,.box false (D.arr 64 .leaf (ab .u8 z)),.hole]⟩ =
  some (.exit 0,⟨[(0,.ptr 0 []),(3,.ptr 1 []),(4,(.d (.int .i64 p))),(5,(.d (.int .i64 6))),(10,(.d (.bool false)))],[b',.box false (D.arr 64 .leaf (ab .u8 z)),.hole]⟩) ∨
 ∃m:List Int,Arr m∧dn O 1 (.loop Z4o_L0) ⟨[(0,.ptr 0 []),(3,.ptr 1 []),(4,(.d (.int .i64 p))),(5,(.d (.int .i64 k)))],[b,.box false (D.arr 64 .leaf (ab .u8 z)),.hole]⟩ =
  some (.ret,⟨[(2,(.d (.int .i64 p))),(3,.ptr 1 [])],[b',.box false (D.arr 64 .leaf (ab .u8 m)),.hole]⟩))
 | 0,k,b,hk,hs=>by
  obtain rfl:k=6:=by omega
  refine ⟨b,hs,.inl (bt ?_)⟩;obtain ⟨c,a,h,rfl,_⟩:=hs;simp -implicitDefEqProofs [Z4o_L0,ac]
 | r+1,k,b,hk,hs=>by
  have hk6:(k:Int)<6:=by omega
  obtain ⟨m,b1,e1,hs1,m2,m5,mm⟩:=hm p b 4 hs (by omega) (by omega)
  have e2:=hir p m mm.2 (by omega)
  have w4:IntKind.i64.wrap ((k:Int)+1)=((k+1:Nat):Int):=(w64 (x:=(k:Int)+1) (by omega)).trans (by omega)
  by_cases hI:Irr m
  ·rw [decide_eq_true hI] at e2
   obtain ⟨x,b2,e3,hs2,-,-⟩:=hn b1 40 hs1 (by omega)
   have am:=qq m
   by_cases hx:x=0
   ·obtain ⟨y,b3,e4,hs3,y0,y1⟩:=hn b2 5 hs2 (by omega)
    obtain ⟨j,rfl⟩:∃j:Nat,y=j:=⟨y.toNat,by omega⟩
    obtain ⟨v,b4,e5,hs4,v0,v1⟩:=hn b3 8 hs3 (by omega)
    have w1:IntKind.u8.wrap v=v:=w8 (by omega)
    have hj64:j<64:=by omega
    have hml:=am.1;refine ⟨b4,hs4,.inr ⟨(pad (row m)).set j v,Yk am (by omega) (by omega) j,lq ?_⟩⟩
    obtain ⟨_,_,_,rfl,_⟩:=hs;obtain ⟨_,_,_,rfl,_⟩:=hs1;obtain ⟨_,_,_,rfl,_⟩:=hs2;obtain ⟨_,_,_,rfl,_⟩:=hs3;obtain ⟨_,_,_,rfl,_⟩:=hs4;generalize pad (row m)=Pm at *;simp -implicitDefEqProofs [Z4o_L0,ac,hk6,e1,e2,e3,e4,e5,hx,w1,hj64,hml,List.idxOf,List.findIdx,List.findIdx.go]
   ·refine ⟨b2,hs2,.inr ⟨pad (row m),am,lq ?_⟩⟩
    obtain ⟨_,_,_,rfl,_⟩:=hs;obtain ⟨_,_,_,rfl,_⟩:=hs1;obtain ⟨_,_,_,rfl,_⟩:=hs2;generalize pad (row m)=Pm at *;simp -implicitDefEqProofs [Z4o_L0,ac,hk6,e1,e2,e3,hx,List.idxOf,List.findIdx,List.findIdx.go]
  ·rw [decide_eq_false hI] at e2
   obtain ⟨b',hs',ih⟩:=ac3 hn hm hir (p:=p) (z:=z) r (k+1) b1 (by omega) hs1
   have key:dn O 1 Z4o_L0 ⟨[(0,.ptr 0 []),(3,.ptr 1 []),(4,(.d (.int .i64 p))),(5,(.d (.int .i64 k)))],[b,.box false (D.arr 64 .leaf (ab .u8 z)),.hole]⟩=some (.normal,⟨[(0,.ptr 0 []),(3,.ptr 1 []),(4,(.d (.int .i64 p))),(5,(.d (.int .i64 (((k+1:Nat):Int)))))],[b1,.box false (D.arr 64 .leaf (ab .u8 z)),.hole]⟩):=by
    obtain ⟨_,_,_,rfl,_⟩:=hs;obtain ⟨_,_,_,rfl,_⟩:=hs1;generalize pad (row m)=Pm at *;simp -implicitDefEqProofs [Z4o_L0,ac,hk6,e1,e2,w4,List.idxOf,List.findIdx,List.findIdx.go]
   exact ⟨b',hs',ih.imp (bm key) (fun ⟨m,h1,h2⟩=>⟨m,h1,bm key h2⟩)⟩
def mw (O:ah):Prop:=∀b:Blk,Src b→∃(p:Int) (m:List Int) (b':Blk),O F4o [.ptr 0 []] [b]=some (.tup [(.d (.int .i64 p)),.d (D.arr 64 .leaf (ab .u8 m))],[b'],[])∧Src b'∧IsP p∧Arr m
theorem Np (hT:T F4o=some Z4o) (hpr:xk (den T A)) (hn:pb (den T A) F4a) (hm:yn (den T A)) (hir:E0 (den T A)) (ht:a2k (den T A)):mw (den T A):=by
 intro b hs;obtain ⟨p,b1,e1,hs1,ip⟩:=hpr b hs;have e0:=ht p;obtain ⟨b',hs',st⟩:=ac3 (O:=den T A) hn hm hir (p:=p) (z:=pad []) 6 0 b1 rfl hs1;rw [show ((0:Nat):Int)=0 from rfl] at st;rcases st with st | ⟨m,am,st⟩
 ·refine ⟨p,pad (row (Pol.X:Fp p)),b',jh hT rfl ?_,hs',ip,qq _⟩
  obtain ⟨_,_,_,rfl,_⟩:=hs;obtain ⟨_,_,_,rfl,_⟩:=hs1;obtain ⟨_,_,_,rfl,_⟩:=hs';generalize pad (row (Pol.X:Fp p))=PX at *;simp -implicitDefEqProofs [Z4o,Z4o_B,e0,e1,st,List.replicate,List.idxOf,List.findIdx,List.findIdx.go]
 ·refine ⟨p,m,b',jh hT rfl ?_,hs',ip,am⟩
  obtain ⟨_,_,_,rfl,_⟩:=hs;obtain ⟨_,_,_,rfl,_⟩:=hs1;obtain ⟨_,_,_,rfl,_⟩:=hs';simp -implicitDefEqProofs [Z4o,Z4o_B,e1,st,List.replicate,List.idxOf,List.findIdx,List.findIdx.go]
def jc (O:ah):Prop:=∀(p:Int) [IsP p] (m:List Int) (b:Blk),Src b→Arr m→∃(a:List Int) (b':Blk),O F4p [.ptr 0 [],(.d (.int .i64 p)),.d (D.arr 64 .leaf (ab .u8 m))] [b]=some (.d (D.arr 64 .leaf (ab .u8 a)),[b'],[])∧Src b'∧Arr a
theorem Id (hT:T F4p=some Z4p) (hdr:Ig (den T A)) (hd:Rz (den T A)) (hn:pb (den T A) F4a):jc (den T A):=by
 intro p ip m b hs am;have e1:=hdr m am.1;have htl:jz m 64≤64:=Ab m 64;have w1:IntKind.i64.wrap ((jz m 64:Int)-1-1)=(jz m 64:Int)-1-1:=w64 (by omega)
 obtain ⟨n,hn2,hn62⟩:∃n:Nat,(n:Int)=(if (jz m 64:Int)-1-1<0 then 0 else (jz m 64:Int)-1-1)∧n≤62:=by
  split
  ·exact ⟨0,rfl,by omega⟩
  ·exact ⟨jz m 64-2,by omega,by omega⟩
 obtain ⟨a,b1,e2,hs1,-⟩:=hd p b n hs (by omega)
 rw [hn2] at e2;obtain ⟨x,b2,e3,hs2,-,-⟩:=hn b1 60 hs1 (by omega)
 have aa:=qq a
 by_cases hx:x=0
 ·obtain ⟨y,b3,e4,hs3,y0,y1⟩:=hn b2 8 hs2 (by omega)
  obtain ⟨j,rfl⟩:∃j:Nat,y=j:=⟨y.toNat,by omega⟩
  obtain ⟨v,b4,e5,hs4,v0,v1⟩:=hn b3 7 hs3 (by omega)
  have w2:IntKind.u8.wrap v=v:=w8 (by omega)
  have hj64:j<64:=by omega
  have hal:=aa.1;refine ⟨(pad (row a)).set j v,b4,jh hT rfl ?_,hs4,Yk aa (by omega) (by omega) j⟩
  obtain ⟨_,_,_,rfl,_⟩:=hs;obtain ⟨_,_,_,rfl,_⟩:=hs1;obtain ⟨_,_,_,rfl,_⟩:=hs2;obtain ⟨_,_,_,rfl,_⟩:=hs3;obtain ⟨_,_,_,rfl,_⟩:=hs4;generalize pad (row a)=Pa at *;generalize (jz m 64:Int)-1=tm at *
  by_cases hneg:tm-1<0
  ·rw [if_pos hneg] at e2
   simp -implicitDefEqProofs [Z4p,Z4p_B,ac,e1,e2,e3,e4,e5,w1,w2,hx,hneg,hj64,hal,List.replicate,List.idxOf,List.findIdx,List.findIdx.go]
  ·rw [if_neg hneg] at e2
   simp -implicitDefEqProofs [Z4p,Z4p_B,ac,e1,e2,e3,e4,e5,w1,w2,hx,hneg,hj64,hal,List.replicate,List.idxOf,List.findIdx,List.findIdx.go]
 ·refine ⟨pad (row a),b2,jh hT rfl ?_,hs2,aa⟩
  obtain ⟨_,_,_,rfl,_⟩:=hs;obtain ⟨_,_,_,rfl,_⟩:=hs1;obtain ⟨_,_,_,rfl,_⟩:=hs2;generalize pad (row a)=Pa at *;generalize (jz m 64:Int)-1=tm at *
  by_cases hneg:tm-1<0
  ·rw [if_pos hneg] at e2
   simp -implicitDefEqProofs [Z4p,Z4p_B,ac,e1,e2,e3,w1,hx,hneg,List.replicate,List.idxOf,List.findIdx,List.findIdx.go]
  ·rw [if_neg hneg] at e2
   simp -implicitDefEqProofs [Z4p,Z4p_B,ac,e1,e2,e3,w1,hx,hneg,List.replicate,List.idxOf,List.findIdx,List.findIdx.go]
end Pe


namespace Pe
open Go Gq
variable {T:Nat→Option Fn} {A:ah}
end Pe

namespace Pe
open Go Gq
variable {T:Nat→Option Fn} {A:ah}
theorem Te {O:ah} (hn:pb O F4a) (hr:jc O) {p:Int} [IsP p] {m:List Int} {z:List D} (am:Arr m):∀(k:Nat) (b:Blk) (Q:List (List Int)),k≤8→Src b→Sk8 Q→∃(b':Blk) (Q':List (List Int)),Src b'∧Sk8 Q' ∧
 dn O 1 (.loop ir_spec_l03Draw_L0) ⟨[(0,.ptr 0 []),(1,(.d (.int .i64 p))),(6,.ptr 1 []),(8,.ptr 2 []),(9,.ptr 3 []),(10,(.d (.int .i64 ((k:Int)-1))))],[b,.box false (D.arr 64 .leaf (ab .u8 m)),.box false (.arr 8 (.arr 64 .leaf) z),.box false (.arr 8 (.arr 64 .leaf) (Q.map aw))]⟩ =
  some (.exit 0,⟨[(0,.ptr 0 []),(1,(.d (.int .i64 p))),(6,.ptr 1 []),(8,.ptr 2 []),(9,.ptr 3 []),(10,(.d (.int .i64 (-1)))),(18,(.d (.bool false)))],[b',.box false (D.arr 64 .leaf (ab .u8 m)),.box false (.arr 8 (.arr 64 .leaf) z),.box false (.arr 8 (.arr 64 .leaf) (Q'.map aw))]⟩)
 | 0,b,Q,hk,hs,hQ=>by
  refine ⟨b,Q,hs,hQ,bt ?_⟩;obtain ⟨c,a,h,rfl,_⟩:=hs;generalize Q.map aw=LQ at *;simp -implicitDefEqProofs [ir_spec_l03Draw_L0,ac]
 | k+1,b,Q,hk,hs,hQ=>by
  obtain ⟨x,b2,e1,hs2,x0,x1⟩:=hn b 4 hs (by omega)
  have w1:IntKind.i64.wrap ((((k+1:Nat):Int)-1)-1)=(k:Int)-1:=(w64 (by omega)).trans (by omega)
  have hk1:((k+1:Nat):Int)-1=(k:Int):=by omega
  rw [hk1] at w1 ⊢;have hge:(0:Int)≤k:=by omega
  have hk8:k<8:=by omega
  have hLQ:(Q.map aw).length=8:=by rw [ap]; exact hQ.2
  by_cases hx:0<x
  ·obtain ⟨a,b3,e2,hs3,aa⟩:=hr p m b2 hs2 am
   obtain ⟨b',Q',g1,g2,ih⟩:=Te hn hr (p:=p) (z:=z) am k b3 (Q.set k a) (by omega) hs3 (a8i hQ aa k)
   refine ⟨b',Q',g1,g2,bm ?_ ih⟩;rw [fg];show _=some (_,(⟨_,[_,_,_,.box false (.arr 8 (.arr 64 .leaf) ((Q.map aw).set k (D.arr 64 .leaf (ab .u8 a))))]⟩:St));obtain ⟨_,_,_,rfl,_⟩:=hs;obtain ⟨_,_,_,rfl,_⟩:=hs2;obtain ⟨_,_,_,rfl,_⟩:=hs3
   have hx2:∀h:k<(Q.map aw).length,((Q.map aw)[k]'h).sh.beq (.arr 64 .leaf)=true:=fun h=>by
    rw [ca]; rfl
   generalize Q.map aw=LQ at *;simp -implicitDefEqProofs [ir_spec_l03Draw_L0,ac,e1,e2,hx,w1,hk8,hLQ,hx2,List.idxOf,List.findIdx,List.findIdx.go]
  ·obtain ⟨b',Q',g1,g2,ih⟩:=Te hn hr (p:=p) (z:=z) am k b2 Q (by omega) hs2 hQ
   refine ⟨b',Q',g1,g2,bm ?_ ih⟩;obtain ⟨_,_,_,rfl,_⟩:=hs;obtain ⟨_,_,_,rfl,_⟩:=hs2;generalize Q.map aw=LQ at *;simp -implicitDefEqProofs [ir_spec_l03Draw_L0,ac,e1,hx,w1,List.idxOf,List.findIdx,List.findIdx.go]
def yi (O:ah):Prop:=∀(p:Int) [IsP p] (m:List Int) (b:Blk) (most:Int),Src b→Arr m→0≤most→most≤7→∃(F:List (List Int)) (b':Blk),O F4n [.ptr 0 [],(.d (.int .i64 p)),.d (D.arr 64 .leaf (ab .u8 m)),(.d (.int .i64 most))] [b]=some (.d (.arr 8 (.arr 64 .leaf) (F.map aw)),[b'],[])∧Src b'∧Sk8 F
theorem a1k (hT:T F4n=some Z4n) (hn:pb (den T A) F4a) (hr:jc (den T A)):yi (den T A):=by
 intro p ip m b most hs am m0 m7;have w1:IntKind.i64.wrap (most+2)=most+2:=w64 (by omega)
 obtain ⟨x,b1,e1,hs1,x0,x1⟩:=hn b (most+2) hs (by omega)
 have w2:IntKind.i64.wrap (x-1)=x-1:=w64 (by omega)
 have hzz:(List.replicate 8 (pad [])).map aw=z8:=rfl;obtain ⟨k,rfl⟩:∃k:Nat,x=k:=⟨x.toNat,by omega⟩
 obtain ⟨b',Q,hs',hQ,st⟩:=Te (O:=den T A) hn hr (p:=p) (z:=z8) am k b1 (List.replicate 8 (pad [])) (by omega) hs1 Jv
 rw [hzz] at st;refine ⟨Q,b',jh hT rfl ?_,hs',hQ⟩;obtain ⟨_,_,_,rfl,_⟩:=hs;obtain ⟨_,_,_,rfl,_⟩:=hs1;obtain ⟨_,_,_,rfl,_⟩:=hs';generalize Q.map aw=LQ at *;simp -implicitDefEqProofs [Z4n,ir_spec_l03Draw_B,e1,w1,w2,st,List.replicate,List.idxOf,List.findIdx,List.findIdx.go]
def vw (O:ah) (F:Nat):Prop:=∀code:List Int,g9 code→code.length≤4096→∃(p:Int) (m:List Int) (f g:List (List Int)),ask O F [.sl .leaf (ab .u8 code)]=some (.tup [(D.int .i64 p),(D.arr 64 .leaf (ab .u8 m)),.arr 8 (.arr 64 .leaf) (f.map aw),.arr 8 (.arr 64 .leaf) (g.map aw)])∧Arr m∧Sk8 f∧Sk8 g
theorem a4v {f g:List (List Int)} (hf:Sk8 f) (hg:Sk8 g):∀ls∈[f,g],Sk8 ls:=fun ls h=>by
 simp at h;rcases h with rfl | rfl
 ·exact hf
 ·exact hg
theorem acy (hT:T F4j=some Z4j) {code:List Int} {b0 b1 b2 b3 b4 b5 b6:Blk} {p n1 n2 x:Int} {m:List Int} {f g:List (List Int)}
 (e0:den T A F41 [.d (.sl .leaf (ab .u8 code))] []=some (.ptr 0 [],[],[b0])) (hs0:Src b0)
 (e1:den T A F4o [.ptr 0 []] [b0]=some (.tup [(.d (.int .i64 p)),.d (D.arr 64 .leaf (ab .u8 m))],[b1],[])) (hs1:Src b1)
 (e2:den T A F4c [.ptr 0 [],.sl 1 [] 0 3 (some 3)] [b1,.sl false .leaf [.int .i64 1,.int .i64 3,.int .i64 7]]=some ((.d (.int .i64 n1)),[b2,.sl false .leaf [.int .i64 1,.int .i64 3,.int .i64 7]],[])) (hs2:Src b2)
 (e3:den T A F4n [.ptr 0 [],(.d (.int .i64 p)),.d (D.arr 64 .leaf (ab .u8 m)),(.d (.int .i64 n1))] [b2]=some (.d (.arr 8 (.arr 64 .leaf) (f.map aw)),[b3],[])) (hs3:Src b3)
 (e4:den T A F4c [.ptr 0 [],.sl 1 [] 0 3 (some 3)] [b3,.sl false .leaf [.int .i64 1,.int .i64 2,.int .i64 4]]=some ((.d (.int .i64 n2)),[b4,.sl false .leaf [.int .i64 1,.int .i64 2,.int .i64 4]],[])) (hs4:Src b4)
 (e5:den T A F4n [.ptr 0 [],(.d (.int .i64 p)),.d (D.arr 64 .leaf (ab .u8 m)),(.d (.int .i64 n2))] [b4]=some (.d (.arr 8 (.arr 64 .leaf) (g.map aw)),[b5],[])) (hs5:Src b5)
 (e6:den T A F4a [.ptr 0 [],(.d (.int .i64 3))] [b5]=some ((.d (.int .i64 x)),[b6],[])) (hs6:Src b6) (hx:¬ x=0) :
 ask (den T A) F4j [.sl .leaf (ab .u8 code)]=some (.tup [(D.int .i64 p),(D.arr 64 .leaf (ab .u8 m)),.arr 8 (.arr 64 .leaf) (f.map aw),.arr 8 (.arr 64 .leaf) (g.map aw)]):=by
 refine bi hT rfl ?_;obtain ⟨_,_,_,rfl,_⟩:=hs0;obtain ⟨_,_,_,rfl,_⟩:=hs1;obtain ⟨_,_,_,rfl,_⟩:=hs2;obtain ⟨_,_,_,rfl,_⟩:=hs3;obtain ⟨_,_,_,rfl,_⟩:=hs4;obtain ⟨_,_,_,rfl,_⟩:=hs5;obtain ⟨_,_,_,rfl,_⟩:=hs6;generalize f.map aw=DF at *;generalize g.map aw=DG at *;simp -implicitDefEqProofs [Z4j,Z4j_B,ac,e0,e1,e2,e3,e4,e5,e6,hx,List.replicate,List.idxOf,List.findIdx,List.findIdx.go]
theorem a2n (hT:T F4j=some Z4j) (hf:E8 (den T A)) (hn:pb (den T A) F4a) (hp:Lz (den T A)) (hdf:mw (den T A)) (hd:yi (den T A)) (hc:fp (den T A) F4k) (ht:Cw (den T A)):vw (den T A) F4j:=by
 intro code hb hcl;obtain ⟨b0,e0,hs0⟩:=hf code hb hcl;obtain ⟨p,m,b1,e1,hs1,ip,am⟩:=hdf b0 hs0;obtain ⟨n1,b2,e2,hs2,hn1⟩:=hp b1 [1,3,7] 3 (some 3) hs1 rfl (by omega) (by omega)
 rw [show ab .i64 [1,3,7]=[.int .i64 1,.int .i64 3,.int .i64 7] from rfl] at e2;obtain ⟨f,b3,e3,hs3,sf⟩:=hd p m b2 n1 hs2 am (by simp at hn1; omega) (by simp at hn1; omega)
 obtain ⟨n2,b4,e4,hs4,hn2⟩:=hp b3 [1,2,4] 3 (some 3) hs3 rfl (by omega) (by omega)
 rw [show ab .i64 [1,2,4]=[.int .i64 1,.int .i64 2,.int .i64 4] from rfl] at e4;obtain ⟨g,b5,e5,hs5,sg⟩:=hd p m b4 n2 hs4 am (by simp at hn2; omega) (by simp at hn2; omega)
 obtain ⟨x,b6,e6,hs6,-,-⟩:=hn b5 3 hs5 (by omega)
 have c1:=hc p m [f,g] am.2 am.1 (a4v sf sg) (by simp)
 rw [show [f,g].map da=[.arr 8 (.arr 64 .leaf) (f.map aw),.arr 8 (.arr 64 .leaf) (g.map aw)] from rfl] at c1
 by_cases hx:x=0
 ·by_cases hk:eg p m [f,g]=0
  ·rw [hk] at c1
   obtain ⟨_,M,rfl,hM,-⟩:∃(_:IsP p) (M:Fp p),m=pad (row M)∧Fld M∧∀ls∈[f,g],oq M ls:=by
    unfold eg at hk
    split at hk
    ·assumption
    ·omega
   have h5:=hM.five;have h2:=hM.two;obtain ⟨h,b7,e7,hs7,sh⟩:=hd p (pad (row M)) b6 1 hs6 am (by omega) (by omega)
   obtain ⟨one,first,so,t1⟩:=ht p M f h h2 (by omega) sf sh
   obtain ⟨two,second,st,t2⟩:=ht p M g h h2 (by omega) sg sh
   rw [show da f=.arr 8 (.arr 64 .leaf) (f.map aw) from rfl,show da h=.arr 8 (.arr 64 .leaf) (h.map aw) from rfl,show da one=.arr 8 (.arr 64 .leaf) (one.map aw) from rfl] at t1;rw [show da g=.arr 8 (.arr 64 .leaf) (g.map aw) from rfl,show da h=.arr 8 (.arr 64 .leaf) (h.map aw) from rfl,show da two=.arr 8 (.arr 64 .leaf) (two.map aw) from rfl] at t2;have c2:=hc p (pad (row M)) [one,two] am.2 am.1 (a4v so st) (by simp)
   rw [show [one,two].map da=[.arr 8 (.arr 64 .leaf) (one.map aw),.arr 8 (.arr 64 .leaf) (two.map aw)] from rfl] at c2
   by_cases hl:first=true∧second=true∧eg p (pad (row M)) [one,two]=0
   ·obtain ⟨rfl,rfl,hk2⟩:=hl
    rw [hk2] at c2;refine ⟨p,pad (row M),one,two,bi hT rfl ?_,am,so,st⟩;obtain ⟨_,_,_,rfl,_⟩:=hs0;obtain ⟨_,_,_,rfl,_⟩:=hs1;obtain ⟨_,_,_,rfl,_⟩:=hs2;obtain ⟨_,_,_,rfl,_⟩:=hs3;obtain ⟨_,_,_,rfl,_⟩:=hs4;obtain ⟨_,_,_,rfl,_⟩:=hs5;obtain ⟨_,_,_,rfl,_⟩:=hs6;obtain ⟨_,_,_,rfl,_⟩:=hs7;generalize f.map aw=DF at *;generalize g.map aw=DG at *;generalize h.map aw=DH at *;have flD1:D.flats (one.map aw)=true:=cm one;generalize one.map aw=D1 at *;have flD2:D.flats (two.map aw)=true:=cm two;generalize two.map aw=D2 at *;generalize pad (row M)=PM at *;simp -implicitDefEqProofs [Z4j,Z4j_B,ac,flD1,flD2,e0,e1,e2,e3,e4,e5,e6,e7,hx,c1,c2,t1,t2,List.replicate,List.idxOf,List.findIdx,List.findIdx.go]
   ·refine ⟨p,pad (row M),f,g,bi hT rfl ?_,am,sf,sg⟩
    obtain ⟨_,_,_,rfl,_⟩:=hs0;obtain ⟨_,_,_,rfl,_⟩:=hs1;obtain ⟨_,_,_,rfl,_⟩:=hs2;obtain ⟨_,_,_,rfl,_⟩:=hs3;obtain ⟨_,_,_,rfl,_⟩:=hs4;obtain ⟨_,_,_,rfl,_⟩:=hs5;obtain ⟨_,_,_,rfl,_⟩:=hs6;obtain ⟨_,_,_,rfl,_⟩:=hs7;generalize f.map aw=DF at *;generalize g.map aw=DG at *;generalize h.map aw=DH at *;generalize eg p (pad (row M)) [one,two]=k2 at *;have flD1:D.flats (one.map aw)=true:=cm one;generalize one.map aw=D1 at *;have flD2:D.flats (two.map aw)=true:=cm two;generalize two.map aw=D2 at *;generalize pad (row M)=PM at *;cases first with
    | false=>simp -implicitDefEqProofs [Z4j,Z4j_B,ac,flD1,flD2,e0,e1,e2,e3,e4,e5,e6,e7,hx,c1,t1,t2,List.replicate,List.idxOf,List.findIdx,List.findIdx.go]
    | true=>
     cases second with
     | false=>simp -implicitDefEqProofs [Z4j,Z4j_B,ac,flD1,flD2,e0,e1,e2,e3,e4,e5,e6,e7,hx,c1,t1,t2,List.replicate,List.idxOf,List.findIdx,List.findIdx.go]
     | true=>
      have hk2:¬ k2=0:=fun h=>hl ⟨rfl,rfl,h⟩
      simp -implicitDefEqProofs [Z4j,Z4j_B,ac,flD1,flD2,e0,e1,e2,e3,e4,e5,e6,e7,hx,c1,c2,hk2,t1,t2,List.replicate,List.idxOf,List.findIdx,List.findIdx.go]
  ·refine ⟨p,m,f,g,bi hT rfl ?_,am,sf,sg⟩
   obtain ⟨_,_,_,rfl,_⟩:=hs0;obtain ⟨_,_,_,rfl,_⟩:=hs1;obtain ⟨_,_,_,rfl,_⟩:=hs2;obtain ⟨_,_,_,rfl,_⟩:=hs3;obtain ⟨_,_,_,rfl,_⟩:=hs4;obtain ⟨_,_,_,rfl,_⟩:=hs5;obtain ⟨_,_,_,rfl,_⟩:=hs6;generalize eg p m [f,g]=k1 at *;generalize f.map aw=DF at *;generalize g.map aw=DG at *;simp -implicitDefEqProofs [Z4j,Z4j_B,ac,e0,e1,e2,e3,e4,e5,e6,hx,c1,hk,List.replicate,List.idxOf,List.findIdx,List.findIdx.go]
 ·exact ⟨p,m,f,g,acy hT e0 hs0 e1 hs1 e2 hs2 e3 hs3 e4 hs4 e5 hs5 e6 hs6 hx,am,sf,sg⟩
end Pe

namespace Pe
open Go Gq
section
variable {p:Int}
noncomputable def gj {m:Fp p} (f:Nat→Quo m):Nat→Quo m
 | 0=>0
 | n+1=>gj f n+f n
theorem i4 {m:Fp p} {f g:Nat→Quo m}:∀n,(∀i,i<n→f i=g i)→gj f n=gj g n
 | 0,_=>rfl
 | n+1,h=>by
  show gj f n+f n=gj g n+g n;rw [i4 n fun i hi=>h i (by omega),h n (by omega)]
theorem Dh {m:Fp p} (f:Nat→Quo m):∀n,gj f (n+1)=f 0+gj (fun i=>f (i+1)) n
 | 0=>by
  show 0+f 0=f 0+0;rw [Gq.zero_add,Gq.add_zero]
 | n+1=>by
  show gj f (n+1)+f (n+1)=f 0+(gj (fun i=>f (i+1)) n+f (n+1))
  rw [Dh f n,Gq.add_assoc]
theorem vu {m:Fp p} {f:Nat→Quo m}:∀n,(∀i,i<n→f i=0)→gj f n=0
 | 0,_=>rfl
 | n+1,h=>by
  show gj f n+f n=0;rw [vu n fun i hi=>h i (by omega),h n (by omega),Gq.add_zero]
theorem M9 {m:Fp p} {f:Nat→Quo m} {N:Nat}:∀k,(∀i,N≤i→f i=0)→gj f (N+k)=gj f N
 | 0,_=>rfl
 | k+1,h=>by
  show gj f (N+k)+f (N+k)=_;rw [M9 k h,h _ (by omega),Gq.add_zero]
noncomputable def cv {m:Fp p} (X Y:Nat→Quo m) (n:Nat):Quo m:=gj (fun i=>X i*sg i (Y (n-i))) (n+1)
theorem a2o {m:Fp p} {f:Nat→Quo m} {L n:Nat} (h:∀i,L≤i→f i=0):gj (fun i=>if i≤n then f i else 0) L=gj f (n+1):=by
 have e1:gj (fun i=>if i≤n then f i else 0) (n+1)=gj f (n+1):=i4 _ fun i hi=>by rw [if_pos (by omega)]
 rw [←e1];rcases Nat.le_total L (n+1) with hl | hl
 ·obtain ⟨k,hk⟩:∃k,n+1=L+k:=⟨n+1-L,by omega⟩
  rw [hk];refine (M9 k fun i hi=>?_).symm
  rw [h i hi,ite_self]
 ·obtain ⟨k,rfl⟩:∃k,L=n+1+k:=⟨L-(n+1),by omega⟩
  exact M9 k fun i hi=>if_neg (by omega)
theorem V5 [IsP p] {m:Fp p} (hm:Fld m) {b:List (Fp p)} (hb:∀c∈b,c.len<m.len) {n:Nat}:∀(A:List (Fp p)) (i:Nat) (Q:List (Fp p)),i+A.length+b.length≤Q.length+1→qcf m (ko m b i A Q) n=qcf m Q n+gj (fun j=>if i+j≤n then qcf m A j*sg (i+j) (qcf m b (n-(i+j))) else 0) A.length
 | [],i,Q,_=>by
  show qcf m Q n=qcf m Q n+0;rw [Gq.add_zero]
 | x::xs,i,Q,h=>by
  rw [bv] at h;show qcf m (ko m b (i+1) xs (lf m x i 0 b Q)) n=_;rw [V5 hm hb xs (i+1) _ (by rw [lm]; omega),adi hm hb (by omega),bv,Dh,Gq.add_assoc]
  have e:gj (fun j=>if i+1+j≤n then qcf m xs j*sg (i+1+j) (qcf m b (n-(i+1+j))) else 0) xs.length=gj (fun j=>if i+(j+1)≤n then qcf m (x::xs) (j+1)*sg (i+(j+1)) (qcf m b (n-(i+(j+1)))) else 0) xs.length:=i4 _ fun j _=>by
   show (if i+1+j≤n then qcf m xs j*sg (i+1+j) (qcf m b (n-(i+1+j))) else 0)=if i+(j+1)≤n then qcf m xs j*sg (i+(j+1)) (qcf m b (n-(i+(j+1)))) else 0
   rw [show i+1+j=i+(j+1) by omega]
  rw [e];rfl
theorem En [IsP p] {m:Fp p} (hm:Fld m) {b:List (Fp p)} (hb:∀c∈b,c.len<m.len) (A:List (Fp p)) (n:Nat):qcf m (ee m A b) n=cv (qcf m A) (qcf m b) n:=by
 unfold ee
 split
 ·rename_i h0
  show (0:Quo m)=_;refine (vu _ fun i _=>?_).symm
  rcases h0 with h0 | h0
  ·rw [y7 (by omega),Gq.zero_mul]
  ·rw [y7 (A:=b) (by omega),tz,Gq.mul_zero]
 ·rename_i h0
  have e:qcf m (az (rg m A b)) n=qcf m (rg m A b) n:=by unfold qcf; rw [vf]
  rw [e];unfold rg;rw [V5 hm hb A 0 _ (by rw [ch]; omega),a1s,Gq.zero_add]
  have e2:gj (fun j=>if 0+j≤n then qcf m A j*sg (0+j) (qcf m b (n-(0+j))) else 0) A.length=gj (fun j=>if j≤n then qcf m A j*sg j (qcf m b (n-j)) else 0) A.length:=i4 _ fun j _=>by rw [bn]
  rw [e2];exact a2o fun i hi=>by rw [y7 hi,Gq.zero_mul]
end
end Pe
