/-
  A part of the proof: an evaluator for a small form of the code, its soundness, and contracts of functions over it.
-/
import Derived.Test.YtcefdljcmgjpeaaGreatW1
import Derived.Test.YtcefdljcmgjpeaaGreatW2
import Derived.Test.YtcefdljcmgjpeaaGreatW3
import Derived.Test.YtcefdljcmgjpeaaGreatW4
import Derived.Test.YtcefdljcmgjpeaaGreatW5

namespace Pe
open Go Gq
variable {T:Nat→Option Fn} {A:ap}
section
variable {p:Int} [IsP p]
end
section
variable {p:Int}
theorem wd:∀(k i:Nat),(pw (Pol.X:Fp p) k).c i=if i=k then 1 else 0
 | 0,i=>by show (Pol.C (1:Zp p)).c i=_; rw [Pol.c_C]
 | k+1,i=>by
  rw [pw,Gq.mul_comm,Pol.c_Xmul,wd k (i-1)]
  by_cases h:i=0
  ·rw [if_pos h,if_neg (by omega)]
  ·rw [if_neg h]
   by_cases h2:i=k+1
   ·rw [if_pos (by omega),if_pos h2]
   ·rw [if_neg (by omega),if_neg h2]
end
section
variable {p:Int} [IsP p]
theorem jp (k:Nat):(pw (Pol.X:Fp p) k).len=k+1:=by
 have h1:(pw (Pol.X:Fp p) k).len≤k+1:=Pol.len_le fun i hi=>by rw [wd,if_neg (by omega)]
 have h2:¬ (pw (Pol.X:Fp p) k).len≤k:=fun h=>by
  have:=jt (n:=k) h;rw [wd,if_pos rfl] at this;exact Fd.one_ne this
 omega
end
def L0 (O:ap):Prop:=∀(p:Int) [IsP p] (m x:Fp p),m≠0→m.len≤64→x.len≤64→ask O F1k [(D.int .i64 p),(D.sl .leaf (af .i64 (row x))),(D.sl .leaf (af .i64 (row m)))]=some (D.sl .leaf (af .i64 (row (stp m x))))
theorem abc (hT:T F1k=some Z1k) (hle:Ad (den T A)) (ht:um (den T A)) (hpw:Bz (den T A)) (hc:Ck (den T A)) (hr:xd (den T A)):L0 (den T A):=by
 intro p ip m x hm hml hx;have hp:=IsP.le (p:=p);have hp1:=IsP.pos (p:=p)
 have hX:(Pol.X:Fp p).len≤2:=Pol.len_le fun i hi=>by
  rw [show (Pol.X:Fp p)=pw Pol.X 1 from (zt _).symm,wd,if_neg (by omega)]
 have l1:=Or (a:=(Pol.X:Fp p)) (b:=x) (x:=2) (y:=64) hX hx;have l2:=Pol.len_mod (pw x p.toNat) hm;have e1:ask (den T A) Fu []=some (D.sl .leaf (af .i64 (row (Pol.X:Fp p)))):=by rw [a3b]; exact hle
 have e2:=ht p Pol.X x (by omega) (by omega)
 have e3:=hpw p x p m hm (by omega) (by omega) (by omega) (by omega)
 have e4:=hc p (Pol.X*x) (pw x p.toNat%m) (by omega) (by omega)
 have l4:=Pol.len_add_le (a:=Pol.X*x) (b:=pw x p.toNat%m) (n:=4000) (by omega) (by omega)
 have e5:=hr p (Pol.X*x+pw x p.toNat%m) m hm (by omega) (by omega)
 rw [show (Pol.X*x+pw x p.toNat%m)%m=stp m x from rfl] at e5;refine c9 hT rfl ?_;generalize row (stp m x)=R5 at *;generalize row (Pol.X*x+pw x p.toNat%m)=R4 at *;generalize row (pw x p.toNat%m)=R3 at *;generalize row (Pol.X*x)=R2 at *;generalize row (Pol.X:Fp p)=R1 at *;generalize row x=Rx at *;generalize row m=Rm at *;simp -implicitDefEqProofs [Z1k,Z1k_B,e1,e2,e3,e4,e5]
def wv (O:ap):Prop:=∀(p:Int) [IsP p] (m x:Fp p),m≠0→m.len≤64→x.len≤64→O F10 [.ptr 0 [],.ptr 1 [],.ptr 2 []] [.box false (D.sl .leaf (af .i64 (row x))),.box false (D.int .i64 p),.box false (D.sl .leaf (af .i64 (row m)))]=some ((.d (.sl .leaf (af .i64 (row x)))),[.box false (D.sl .leaf (af .i64 (row (stp m x)))),.box false (D.int .i64 p),.box false (D.sl .leaf (af .i64 (row m)))],[])
theorem ac9 (hT:T F10=some Z10) (hs:L0 (den T A)):wv (den T A):=by
 intro p ip m x hm hml hx;have e1:=hs p m x hm hml hx;refine iw hT rfl ?_;generalize row (stp m x)=R1 at *;generalize row x=Rx at *;generalize row m=Rm at *;simp -implicitDefEqProofs [Z10,Z10_B,e1]
def wc (O:ap):Prop:=∀l r:List Int,l.length<1000000→r.length<1000000→ask O F1h [(D.sl .leaf (af .i64 l)),.ip (D.sl .leaf (af .i64 r))]=some (D.bool (decide (l.length<r.length)))
theorem ab9 (hT:T F1h=some Z1h):wc (den T A):=by
 intro l r hl hr;refine c9 hT rfl ?_;simp -implicitDefEqProofs [Z1h,Z1h_B]
def rt (O:ap):Prop:=∀(xs:List D) (v:D) (n i:Nat) (cap:Option Nat),xs.length=n→i≤n→n<1000000 →
 O F28 [.sl 0 [] 0 n cap,.d (.int .i64 i),.sl 1 [] 0 1 (some 1)] [.sl false .leaf xs,.sl false .leaf [v]]=some (.sl 2 [] 0 (n+1) none,[Blk.toGone (.sl false .leaf xs),.sl false .leaf [v]],[.sl false .leaf (xs.take i++v::xs.drop i)])
@[simp] theorem a9k (b:Blk):b.toGone.isHole=false:=rfl
def nu (n:Nat):D→Bool
 | .sl _ cs=>decide (cs.length<n)
 | _=>false
theorem Dw {p:Int} (n:Nat):∀(ks:List (Fp p)) (i:Nat),(ks.Pairwise fun a b=>b.len<a.len)→(nk (nu n) (ks.map cj) i=-1∧∀b∈ks,¬ b.len<n)∨∃k,nk (nu n) (ks.map cj) i=((i+k:Nat):Int)∧k<ks.length∧(∀b∈ks.take k,¬ b.len<n)∧∀b∈ks.drop k,b.len<n
 | [],i,_=>.inl ⟨rfl,fun b hb=>(List.not_mem_nil hb).elim⟩
 | a::ks,i,hd=>by
  obtain ⟨h1,h2⟩:=dh.1 hd
  have hp:nu n (cj a)=decide (a.len<n):=by
   show decide ((af .i64 (row a)).length<n)=_;simp [af]
  rw [db,nk,hp]
  by_cases h:a.len<n
  ·rw [decide_eq_true h]
   exact .inr ⟨0,rfl,by simp,fun b hb=>by simp at hb,fun b hb=>by
    rcases cn.1 hb with rfl | hb
    ·exact h
    ·have:=h1 b hb; omega⟩
  ·rw [decide_eq_false h]
   rcases Dw n ks (i+1) h2 with ⟨g1,g2⟩ | ⟨k,g1,g2,g3,g4⟩
   ·exact .inl ⟨g1,fun b hb=>by
     rcases cn.1 hb with rfl | hb
     ·exact h
     ·exact g2 b hb⟩
   ·refine .inr ⟨k+1,?_,by simpa using g2,fun b hb=>?_,fun b hb=>g4 b (by simpa using hb)⟩
    ·show (if false=true then _ else nk (nu n) (ks.map cj) (i+1))=_
     rw [if_neg (by simp),g1]; congr 1; omega
    ·rw [i7] at hb
     rcases cn.1 hb with rfl | hb
     ·exact h
     ·exact g3 b hb
theorem a2c {O:ap} (hi:jc O F27 .leaf) (h1:wc O) {p:Int} {ks:List (Fp p)} (hk:ks.length≤64) (hks:∀b∈ks,b.len≤64) {r:List Int} (hr:r.length≤64) :
 ask O F27 [.sl .leaf (ks.map cj),.fn F1h [] [.ip (D.sl .leaf (af .i64 r))]]=some (D.int .i64 (nk (nu r.length) (ks.map cj) 0)):=by
 refine hi F1h [] [.ip (D.sl .leaf (af .i64 r))] (ks.map cj) (nu r.length) ⟨fun x hx=>(by cases hx),fun x hx=>(by simp at hx; subst hx; rfl),fun x hx=>?_,fun x hx=>?_⟩ (fun x hx=>?_) (by rw [ba]; omega)
 ·obtain ⟨a,_,rfl⟩:=ch.1 hx
  rfl
 ·obtain ⟨a,ha,rfl⟩:=ch.1 hx
  have:=hks a ha;have e:=h1 (row a) r (by rw [bi]; omega) (by omega)
  rw [show nu r.length (cj a)=decide ((row a).length<r.length) by
   show decide ((af .i64 (row a)).length<r.length)=_;simp [af]]
  exact e
 ·obtain ⟨a,_,rfl⟩:=ch.1 hx
  rfl
section
variable {p:Int} [IsP p]
theorem Hx {O:ap} (hc:fl O) (v b o t:Fp p) (hv:v.len≤64) (hb:b.len≤64) (ho:o.len≤65) (ht:t.len≤65):ask O F12 [(D.int .i64 p),(D.sl .leaf (af .i64 (row v))),(D.sl .leaf (af .i64 (row b))),(D.int .i64 (rlC v b))]=some (D.sl .leaf (af .i64 (row (rlS v o b t).1))) ∧
 ask O F12 [(D.int .i64 p),(D.sl .leaf (af .i64 (row o))),(D.sl .leaf (af .i64 (row t))),(D.int .i64 (rlC v b))]=some (D.sl .leaf (af .i64 (row (rlS v o b t).2))):=by
 have h:=Jz v b;exact ⟨hc p (rlC v b) v b (by omega) (by omega) (by omega) (by omega),hc p (rlC v b) o t (by omega) (by omega) (by omega) (by omega)⟩
theorem O6 (k n:Nat) (h:n=k+1):(List.replicate n (0:Int)).set k 1=row (pw (Pol.X:Fp p) k):=by
 subst h;apply ff;intro i;have hl:=jp (p:=p) k;unfold row;rw [fm,hl]
 by_cases hi:i<k+1
 ·rw [i8 hi]
  by_cases hik:i=k
  ·subst hik
   rw [bo (by simp)]
   show some (1:Int)=some (rep ((pw (Pol.X:Fp p) i).c i));rw [wd,if_pos rfl,pt]
  ·rw [br (jj hik),kj,if_pos hi]
   show some (0:Int)=some (rep ((pw (Pol.X:Fp p) k).c i));rw [wd,if_neg hik,rep_zero]
 ·rw [cl (by simp; omega),cl (by simp; omega)]; rfl
end
theorem a4m {O:ap} (hat:y9 O) (hld:lk O) (hin:g8 O) (hc:fl O) {p:Int} [IsP p] {m x:Fp p} {ks ts:List (Fp p)} {n k:Nat} {ck ct:Option Nat} (hks:ks.length=n) (hts:ts.length=n) (hn:n≤64) (hb:∀b∈ks,b≠0∧b.len≤64) (ht:∀t∈ts,t.len≤65):∀(r j:Nat) (v o:Fp p),j+r=n→v.len≤64→o.len≤65 →
 dn O 3 (.loop Z1g_L0) ⟨[(0,(.d (.int .i64 p))),(1,.fn F10 [] [.ptr 0 [],.ptr 1 [],.ptr 2 []]),(5,.sl 8 [] 0 n ck),(6,.sl 11 [] 0 n ct),(7,(.d (.int .i64 ((k:Nat))))),(8,.ptr 5 []),(9,(.d (.sl .leaf (af .i64 (row o))))),(24,.sl 8 [] 0 n ck),(25,(.d (.int .i64 n))),(26,(.d (.int .i64 j)))],[.box false (D.sl .leaf (af .i64 (row x))),.box false (D.int .i64 p),.box false (D.sl .leaf (af .i64 (row m))),.hole,.hole,.box false (D.sl .leaf (af .i64 (row v))),.hole,.hole,.sl false .leaf (ks.map cj),.hole,.hole,.sl false .leaf (ts.map cj),.hole]⟩ =
  some (.exit 2,⟨[(0,(.d (.int .i64 p))),(1,.fn F10 [] [.ptr 0 [],.ptr 1 [],.ptr 2 []]),(5,.sl 8 [] 0 n ck),(6,.sl 11 [] 0 n ct),(7,(.d (.int .i64 ((k:Nat))))),(8,.ptr 5 []),(9,(.d (.sl .leaf (af .i64 (row (rlL (ks.drop j) (ts.drop j) v o).2))))),(24,.sl 8 [] 0 n ck),(25,(.d (.int .i64 n))),(26,(.d (.int .i64 n))),(27,(.d (.bool false)))],[.box false (D.sl .leaf (af .i64 (row x))),.box false (D.int .i64 p),.box false (D.sl .leaf (af .i64 (row m))),.hole,.hole,.box false (D.sl .leaf (af .i64 (row (rlL (ks.drop j) (ts.drop j) v o).1))),.hole,.hole,.sl false .leaf (ks.map cj),.hole,.hole,.sl false .leaf (ts.map cj),.hole]⟩)
 | 0,j,v,o,hj,hv,ho=>by
  obtain rfl:j=n:=by omega
  rw [cz (by omega),cz (by omega)]
  refine cm ?_;rw [show rlL ([]:List (Fp p)) [] v o=(v,o) from rfl];generalize row v=Rv at *;generalize row o=Ro at *;generalize row x=Rx at *;generalize row m=Rm at *;generalize ks.map cj=K at *;generalize ts.map cj=Q at *;simp -implicitDefEqProofs [Z1g_L0,aw]
 | r+1,j,v,o,hj,hv,ho=>by
  have h1:j<ks.length:=by omega
  have h2:j<ts.length:=by omega
  have hjn:j<n:=by omega
  have hjl:(j:Int)<n:=by omega
  obtain ⟨b0,bl⟩:=hb _ (ci h1);have tl:=ht _ (ci h2);have bp:=Pol.len_pos b0;have e1:=hat (row v) (ks[j].len-1) (by omega)
  rw [ft] at e1;have e2:=hld (row ks[j]) (by rw [bi]; omega)
  rw [ua] at e2;have hri:=gr ks[j].ld;have hpl:=IsP.le (p:=p);have hpp:=IsP.ge (p:=p);have e3:=hin p (rep ks[j].ld) (by omega) (by omega) hri.1 hri.2
  obtain ⟨e4,e5⟩:=Hx hc v ks[j] o ts[j] hv bl ho tl;have hbd:=Jz v ks[j];have hri2:=gr (v.c (ks[j].len-1));have w1:IntKind.i64.wrap (((row ks[j]).length:Int)-1)=((ks[j].len-1:Nat):Int):=by rw [bi]; exact (w64 (by omega)).trans (by omega)
  have w2:IntKind.i64.wrap (-rep (v.c (ks[j].len-1)))=-rep (v.c (ks[j].len-1)):=w64 (by omega)
  have w3:IntKind.i64.wrap (-rep (v.c (ks[j].len-1))*inv p (rep ks[j].ld))=rlC v ks[j]:=w64 (x:=rlC v ks[j]) (by omega)
  have w4:IntKind.i64.wrap ((j:Int)+1)=((j+1:Nat):Int):=(w64 (x:=(j:Int)+1) (by omega)).trans (by omega)
  have hx:∀h:j<(ks.map cj).length,(ks.map cj)[j]'h=(D.sl .leaf (af .i64 (row ks[j]))):=fun h=>by rw [f8]
  have hy:∀h:j<(ts.map cj).length,(ts.map cj)[j]'h=(D.sl .leaf (af .i64 (row ts[j]))):=fun h=>by rw [f8]
  have hKl:(ks.map cj).length=n:=by rw [ba]; exact hks
  have hQl:(ts.map cj).length=n:=by rw [ba]; exact hts
  have hd:rlL (ks.drop j) (ts.drop j) v o=rlL (ks.drop (j+1)) (ts.drop (j+1)) (rlS v o ks[j] ts[j]).1 (rlS v o ks[j] ts[j]).2:=by
   rw [bx h1,bx h2]; rfl
  rw [hd];refine cg ?_ (a4m hat hld hin hc hks hts hn hb ht r (j+1) (rlS v o ks[j] ts[j]).1 (rlS v o ks[j] ts[j]).2 (by omega) (Pol.len_add_le hv (du (jg _ _) bl)) (Pol.len_add_le ho (du (jg _ _) tl)))
  generalize rlC v ks[j]=by1 at *;generalize row (rlS v o ks[j] ts[j]).1=R1 at *;generalize row (rlS v o ks[j] ts[j]).2=R2 at *;generalize inv p (rep ks[j].ld)=iv at *;generalize rep ks[j].ld=ldb at *;generalize rep (v.c (ks[j].len-1))=cv0 at *;generalize ks[j].len-1=dd at *;generalize row ks[j]=Rb at *;generalize row ts[j]=Rt at *;generalize row v=Rv at *;generalize row o=Ro at *;generalize row x=Rx at *;generalize row m=Rm at *;generalize ks.map cj=K at *;generalize ts.map cj=Q at *;simp -implicitDefEqProofs [Z1g_L0,aw,hjl,hjn,hKl,hQl,hx,hy,e1,e2,e3,e4,e5,w1,w2,w3,w4]
theorem Y8 {O:ap} (hat:y9 O) (hld:lk O) (hin:g8 O) (hc:fl O) {p:Int} [IsP p] {m x:Fp p} {ks ts:List (Fp p)} {n k:Nat} {ck ct:Option Nat} (hks:ks.length=n) (hts:ts.length=n) (hn:n≤64) (hb:∀b∈ks,b≠0∧b.len≤64) (ht:∀t∈ts,t.len≤65) (hn1:1≤n) {OW:List D} {n1:Nat} {co:Option Nat} (v o:Fp p) (hOW:OW=af .i64 (row o)) (hOl:OW.length=n1) (hv:v.len≤64) (ho:o.len≤65) :
 dn O 3 (.loop Z1g_L0) ⟨[(0,(.d (.int .i64 p))),(1,.fn F10 [] [.ptr 0 [],.ptr 1 [],.ptr 2 []]),(5,.sl 8 [] 0 n ck),(6,.sl 11 [] 0 n ct),(7,(.d (.int .i64 ((k:Nat))))),(8,.ptr 5 []),(9,.sl 6 [] 0 n1 co),(24,.sl 8 [] 0 n ck),(25,(.d (.int .i64 n))),(26,(.d (.int .i64 ((0:Int)))))],[.box false (D.sl .leaf (af .i64 (row x))),.box false (D.int .i64 p),.box false (D.sl .leaf (af .i64 (row m))),.hole,.hole,.box false (D.sl .leaf (af .i64 (row v))),.sl false .leaf OW,.hole,.sl false .leaf (ks.map cj),.hole,.hole,.sl false .leaf (ts.map cj),.hole]⟩ =
  some (.exit 2,⟨[(0,(.d (.int .i64 p))),(1,.fn F10 [] [.ptr 0 [],.ptr 1 [],.ptr 2 []]),(5,.sl 8 [] 0 n ck),(6,.sl 11 [] 0 n ct),(7,(.d (.int .i64 ((k:Nat))))),(8,.ptr 5 []),(9,(.d (.sl .leaf (af .i64 (row (rlL ks ts v o).2))))),(24,.sl 8 [] 0 n ck),(25,(.d (.int .i64 n))),(26,(.d (.int .i64 n))),(27,(.d (.bool false)))],[.box false (D.sl .leaf (af .i64 (row x))),.box false (D.int .i64 p),.box false (D.sl .leaf (af .i64 (row m))),.hole,.hole,.box false (D.sl .leaf (af .i64 (row (rlL ks ts v o).1))),.hole,.hole,.sl false .leaf (ks.map cj),.hole,.hole,.sl false .leaf (ts.map cj),.hole]⟩):=by
 have h1:0<ks.length:=by omega
 have h2:0<ts.length:=by omega
 have hjn:0<n:=by omega
 have hjl:(0:Int)<n:=by omega
 obtain ⟨b0,bl⟩:=hb _ (ci h1);have tl:=ht _ (ci h2);have bp:=Pol.len_pos b0;have e1:=hat (row v) (ks[0].len-1) (by omega)
 rw [ft] at e1;have e2:=hld (row ks[0]) (by rw [bi]; omega)
 rw [ua] at e2;have hri:=gr ks[0].ld;have hpl:=IsP.le (p:=p);have hpp:=IsP.ge (p:=p);have e3:=hin p (rep ks[0].ld) (by omega) (by omega) hri.1 hri.2
 obtain ⟨e4,e5⟩:=Hx hc v ks[0] o ts[0] hv bl ho tl;rw [←hOW] at e5;have hbd:=Jz v ks[0];have hri2:=gr (v.c (ks[0].len-1));have w1:IntKind.i64.wrap (((row ks[0]).length:Int)-1)=((ks[0].len-1:Nat):Int):=by rw [bi]; exact (w64 (by omega)).trans (by omega)
 have w2:IntKind.i64.wrap (-rep (v.c (ks[0].len-1)))=-rep (v.c (ks[0].len-1)):=w64 (by omega)
 have w3:IntKind.i64.wrap (-rep (v.c (ks[0].len-1))*inv p (rep ks[0].ld))=rlC v ks[0]:=w64 (x:=rlC v ks[0]) (by omega)
 have w4:IntKind.i64.wrap 1=1:=rfl;have hx:∀h:0<(ks.map cj).length,(ks.map cj)[0]'h=(D.sl .leaf (af .i64 (row ks[0]))):=fun h=>by rw [f8]
 have hy:∀h:0<(ts.map cj).length,(ts.map cj)[0]'h=(D.sl .leaf (af .i64 (row ts[0]))):=fun h=>by rw [f8]
 have hKl:(ks.map cj).length=n:=by rw [ba]; exact hks
 have hQl:(ts.map cj).length=n:=by rw [ba]; exact hts
 have hd:rlL ks ts v o=rlL (ks.drop (0+1)) (ts.drop (0+1)) (rlS v o ks[0] ts[0]).1 (rlS v o ks[0] ts[0]).2:=by
  have g1:=bx h1;have g2:=bx h2;rw [ef] at g1 g2
  conv=>lhs; rw [g1,g2]
  rfl
 rw [hd];refine cg ?_ (a4m hat hld hin hc hks hts hn hb ht (n-1) (0+1) (rlS v o ks[0] ts[0]).1 (rlS v o ks[0] ts[0]).2 (by omega) (Pol.len_add_le hv (du (jg _ _) bl)) (Pol.len_add_le ho (du (jg _ _) tl)))
 have ht1:List.take n1 OW=OW:=bg (by omega)
 clear hOW hd;generalize rlC v ks[0]=by1 at *;generalize row (rlS v o ks[0] ts[0]).1=R1 at *;generalize row (rlS v o ks[0] ts[0]).2=R2 at *;generalize inv p (rep ks[0].ld)=iv at *;generalize rep ks[0].ld=ldb at *;generalize rep (v.c (ks[0].len-1))=cv0 at *;generalize ks[0].len-1=dd at *;generalize row ks[0]=Rb at *;generalize row ts[0]=Rt at *;generalize row v=Rv at *;generalize row x=Rx at *;generalize row m=Rm at *;generalize ks.map cj=K at *;generalize ts.map cj=Q at *;simp -implicitDefEqProofs [Z1g_L0,aw,hjn,hKl,hQl,hx,hy,e1,e2,e3,e4,e5,w1,w2,w3,w4,hOl,ht1]
theorem a49 {O:ap} (hat:y9 O) (hld:lk O) (hin:g8 O) (hc:fl O) {p:Int} [IsP p] {m x:Fp p} {ks ts:List (Fp p)} {n k:Nat} {ck ct:Option Nat} (hks:ks.length=n) (hts:ts.length=n) (hn:n≤64) (hb:∀b∈ks,b≠0∧b.len≤64) (ht:∀t∈ts,t.len≤65):∀(r j:Nat) (v o:Fp p),j+r=n→v.len≤64→o.len≤65 →
 dn O 3 (.loop Z1g_L0) ⟨[(0,(.d (.int .i64 p))),(1,.fn F10 [] [.ptr 0 [],.ptr 1 [],.ptr 2 []]),(5,.sl 9 [] 0 n ck),(6,.sl 12 [] 0 n ct),(7,(.d (.int .i64 ((k:Nat))))),(8,.ptr 5 []),(9,(.d (.sl .leaf (af .i64 (row o))))),(24,.sl 9 [] 0 n ck),(25,(.d (.int .i64 n))),(26,(.d (.int .i64 j)))],[.box false (D.sl .leaf (af .i64 (row x))),.box false (D.int .i64 p),.box false (D.sl .leaf (af .i64 (row m))),.hole,.hole,.box false (D.sl .leaf (af .i64 (row v))),.hole,.hole,.hole,.sl false .leaf (ks.map cj),.hole,.hole,.sl false .leaf (ts.map cj)]⟩ =
  some (.exit 2,⟨[(0,(.d (.int .i64 p))),(1,.fn F10 [] [.ptr 0 [],.ptr 1 [],.ptr 2 []]),(5,.sl 9 [] 0 n ck),(6,.sl 12 [] 0 n ct),(7,(.d (.int .i64 ((k:Nat))))),(8,.ptr 5 []),(9,(.d (.sl .leaf (af .i64 (row (rlL (ks.drop j) (ts.drop j) v o).2))))),(24,.sl 9 [] 0 n ck),(25,(.d (.int .i64 n))),(26,(.d (.int .i64 n))),(27,(.d (.bool false)))],[.box false (D.sl .leaf (af .i64 (row x))),.box false (D.int .i64 p),.box false (D.sl .leaf (af .i64 (row m))),.hole,.hole,.box false (D.sl .leaf (af .i64 (row (rlL (ks.drop j) (ts.drop j) v o).1))),.hole,.hole,.hole,.sl false .leaf (ks.map cj),.hole,.hole,.sl false .leaf (ts.map cj)]⟩)
 | 0,j,v,o,hj,hv,ho=>by
  obtain rfl:j=n:=by omega
  rw [cz (by omega),cz (by omega)]
  refine cm ?_;rw [show rlL ([]:List (Fp p)) [] v o=(v,o) from rfl];generalize row v=Rv at *;generalize row o=Ro at *;generalize row x=Rx at *;generalize row m=Rm at *;generalize ks.map cj=K at *;generalize ts.map cj=Q at *;simp -implicitDefEqProofs [Z1g_L0,aw]
 | r+1,j,v,o,hj,hv,ho=>by
  have h1:j<ks.length:=by omega
  have h2:j<ts.length:=by omega
  have hjn:j<n:=by omega
  have hjl:(j:Int)<n:=by omega
  obtain ⟨b0,bl⟩:=hb _ (ci h1);have tl:=ht _ (ci h2);have bp:=Pol.len_pos b0;have e1:=hat (row v) (ks[j].len-1) (by omega)
  rw [ft] at e1;have e2:=hld (row ks[j]) (by rw [bi]; omega)
  rw [ua] at e2;have hri:=gr ks[j].ld;have hpl:=IsP.le (p:=p);have hpp:=IsP.ge (p:=p);have e3:=hin p (rep ks[j].ld) (by omega) (by omega) hri.1 hri.2
  obtain ⟨e4,e5⟩:=Hx hc v ks[j] o ts[j] hv bl ho tl;have hbd:=Jz v ks[j];have hri2:=gr (v.c (ks[j].len-1));have w1:IntKind.i64.wrap (((row ks[j]).length:Int)-1)=((ks[j].len-1:Nat):Int):=by rw [bi]; exact (w64 (by omega)).trans (by omega)
  have w2:IntKind.i64.wrap (-rep (v.c (ks[j].len-1)))=-rep (v.c (ks[j].len-1)):=w64 (by omega)
  have w3:IntKind.i64.wrap (-rep (v.c (ks[j].len-1))*inv p (rep ks[j].ld))=rlC v ks[j]:=w64 (x:=rlC v ks[j]) (by omega)
  have w4:IntKind.i64.wrap ((j:Int)+1)=((j+1:Nat):Int):=(w64 (x:=(j:Int)+1) (by omega)).trans (by omega)
  have hx:∀h:j<(ks.map cj).length,(ks.map cj)[j]'h=(D.sl .leaf (af .i64 (row ks[j]))):=fun h=>by rw [f8]
  have hy:∀h:j<(ts.map cj).length,(ts.map cj)[j]'h=(D.sl .leaf (af .i64 (row ts[j]))):=fun h=>by rw [f8]
  have hKl:(ks.map cj).length=n:=by rw [ba]; exact hks
  have hQl:(ts.map cj).length=n:=by rw [ba]; exact hts
  have hd:rlL (ks.drop j) (ts.drop j) v o=rlL (ks.drop (j+1)) (ts.drop (j+1)) (rlS v o ks[j] ts[j]).1 (rlS v o ks[j] ts[j]).2:=by
   rw [bx h1,bx h2]; rfl
  rw [hd];refine cg ?_ (a49 hat hld hin hc hks hts hn hb ht r (j+1) (rlS v o ks[j] ts[j]).1 (rlS v o ks[j] ts[j]).2 (by omega) (Pol.len_add_le hv (du (jg _ _) bl)) (Pol.len_add_le ho (du (jg _ _) tl)))
  generalize rlC v ks[j]=by1 at *;generalize row (rlS v o ks[j] ts[j]).1=R1 at *;generalize row (rlS v o ks[j] ts[j]).2=R2 at *;generalize inv p (rep ks[j].ld)=iv at *;generalize rep ks[j].ld=ldb at *;generalize rep (v.c (ks[j].len-1))=cv0 at *;generalize ks[j].len-1=dd at *;generalize row ks[j]=Rb at *;generalize row ts[j]=Rt at *;generalize row v=Rv at *;generalize row o=Ro at *;generalize row x=Rx at *;generalize row m=Rm at *;generalize ks.map cj=K at *;generalize ts.map cj=Q at *;simp -implicitDefEqProofs [Z1g_L0,aw,hjl,hjn,hKl,hQl,hx,hy,e1,e2,e3,e4,e5,w1,w2,w3,w4]
theorem X6 {O:ap} (hat:y9 O) (hld:lk O) (hin:g8 O) (hc:fl O) {p:Int} [IsP p] {m x:Fp p} {ks ts:List (Fp p)} {n k:Nat} {ck ct:Option Nat} (hks:ks.length=n) (hts:ts.length=n) (hn:n≤64) (hb:∀b∈ks,b≠0∧b.len≤64) (ht:∀t∈ts,t.len≤65) (hn1:1≤n) {OW:List D} {n1:Nat} {co:Option Nat} (v o:Fp p) (hOW:OW=af .i64 (row o)) (hOl:OW.length=n1) (hv:v.len≤64) (ho:o.len≤65) :
 dn O 3 (.loop Z1g_L0) ⟨[(0,(.d (.int .i64 p))),(1,.fn F10 [] [.ptr 0 [],.ptr 1 [],.ptr 2 []]),(5,.sl 9 [] 0 n ck),(6,.sl 12 [] 0 n ct),(7,(.d (.int .i64 ((k:Nat))))),(8,.ptr 5 []),(9,.sl 6 [] 0 n1 co),(24,.sl 9 [] 0 n ck),(25,(.d (.int .i64 n))),(26,(.d (.int .i64 ((0:Int)))))],[.box false (D.sl .leaf (af .i64 (row x))),.box false (D.int .i64 p),.box false (D.sl .leaf (af .i64 (row m))),.hole,.hole,.box false (D.sl .leaf (af .i64 (row v))),.sl false .leaf OW,.hole,.hole,.sl false .leaf (ks.map cj),.hole,.hole,.sl false .leaf (ts.map cj)]⟩ =
  some (.exit 2,⟨[(0,(.d (.int .i64 p))),(1,.fn F10 [] [.ptr 0 [],.ptr 1 [],.ptr 2 []]),(5,.sl 9 [] 0 n ck),(6,.sl 12 [] 0 n ct),(7,(.d (.int .i64 ((k:Nat))))),(8,.ptr 5 []),(9,(.d (.sl .leaf (af .i64 (row (rlL ks ts v o).2))))),(24,.sl 9 [] 0 n ck),(25,(.d (.int .i64 n))),(26,(.d (.int .i64 n))),(27,(.d (.bool false)))],[.box false (D.sl .leaf (af .i64 (row x))),.box false (D.int .i64 p),.box false (D.sl .leaf (af .i64 (row m))),.hole,.hole,.box false (D.sl .leaf (af .i64 (row (rlL ks ts v o).1))),.hole,.hole,.hole,.sl false .leaf (ks.map cj),.hole,.hole,.sl false .leaf (ts.map cj)]⟩):=by
 have h1:0<ks.length:=by omega
 have h2:0<ts.length:=by omega
 have hjn:0<n:=by omega
 have hjl:(0:Int)<n:=by omega
 obtain ⟨b0,bl⟩:=hb _ (ci h1);have tl:=ht _ (ci h2);have bp:=Pol.len_pos b0;have e1:=hat (row v) (ks[0].len-1) (by omega)
 rw [ft] at e1;have e2:=hld (row ks[0]) (by rw [bi]; omega)
 rw [ua] at e2;have hri:=gr ks[0].ld;have hpl:=IsP.le (p:=p);have hpp:=IsP.ge (p:=p);have e3:=hin p (rep ks[0].ld) (by omega) (by omega) hri.1 hri.2
 obtain ⟨e4,e5⟩:=Hx hc v ks[0] o ts[0] hv bl ho tl;rw [←hOW] at e5;have hbd:=Jz v ks[0];have hri2:=gr (v.c (ks[0].len-1));have w1:IntKind.i64.wrap (((row ks[0]).length:Int)-1)=((ks[0].len-1:Nat):Int):=by rw [bi]; exact (w64 (by omega)).trans (by omega)
 have w2:IntKind.i64.wrap (-rep (v.c (ks[0].len-1)))=-rep (v.c (ks[0].len-1)):=w64 (by omega)
 have w3:IntKind.i64.wrap (-rep (v.c (ks[0].len-1))*inv p (rep ks[0].ld))=rlC v ks[0]:=w64 (x:=rlC v ks[0]) (by omega)
 have w4:IntKind.i64.wrap 1=1:=rfl;have hx:∀h:0<(ks.map cj).length,(ks.map cj)[0]'h=(D.sl .leaf (af .i64 (row ks[0]))):=fun h=>by rw [f8]
 have hy:∀h:0<(ts.map cj).length,(ts.map cj)[0]'h=(D.sl .leaf (af .i64 (row ts[0]))):=fun h=>by rw [f8]
 have hKl:(ks.map cj).length=n:=by rw [ba]; exact hks
 have hQl:(ts.map cj).length=n:=by rw [ba]; exact hts
 have hd:rlL ks ts v o=rlL (ks.drop (0+1)) (ts.drop (0+1)) (rlS v o ks[0] ts[0]).1 (rlS v o ks[0] ts[0]).2:=by
  have g1:=bx h1;have g2:=bx h2;rw [ef] at g1 g2
  conv=>lhs; rw [g1,g2]
  rfl
 rw [hd];refine cg ?_ (a49 hat hld hin hc hks hts hn hb ht (n-1) (0+1) (rlS v o ks[0] ts[0]).1 (rlS v o ks[0] ts[0]).2 (by omega) (Pol.len_add_le hv (du (jg _ _) bl)) (Pol.len_add_le ho (du (jg _ _) tl)))
 have ht1:List.take n1 OW=OW:=bg (by omega)
 clear hOW hd;generalize rlC v ks[0]=by1 at *;generalize row (rlS v o ks[0] ts[0]).1=R1 at *;generalize row (rlS v o ks[0] ts[0]).2=R2 at *;generalize inv p (rep ks[0].ld)=iv at *;generalize rep ks[0].ld=ldb at *;generalize rep (v.c (ks[0].len-1))=cv0 at *;generalize ks[0].len-1=dd at *;generalize row ks[0]=Rb at *;generalize row ts[0]=Rt at *;generalize row v=Rv at *;generalize row x=Rx at *;generalize row m=Rm at *;generalize ks.map cj=K at *;generalize ts.map cj=Q at *;simp -implicitDefEqProofs [Z1g_L0,aw,hjn,hKl,hQl,hx,hy,e1,e2,e3,e4,e5,w1,w2,w3,w4,hOl,ht1]
theorem a8w {O:ap} (ha1:wv O) (hat:y9 O) (hld:lk O) (hin:g8 O) (hc:fl O) (_hix:jc O F27 .leaf) (_hr1:wc O) (_hins:rt O) {p:Int} [IsP p] {m x:Fp p} (hm:m≠0) (hml:m.len≤64) (hx:x.len≤64) {ks ts:List (Fp p)} {n:Nat} {ck ct:Option Nat} (hks:ks.length=n) (hts:ts.length=n) (hn:n≤64) (hb:∀b∈ks,b≠0∧b.len≤64) (ht:∀t∈ts,t.len≤65) (h1:1≤n) {o:Fp p} (hr:rlL ks ts x (pw Pol.X n)=(0,o)) :
 dn O 3 Z1g_L1 ⟨[(0,(.d (.int .i64 p))),(1,.fn F10 [] [.ptr 0 [],.ptr 1 [],.ptr 2 []]),(5,.sl 8 [] 0 n ck),(6,.sl 11 [] 0 n ct),(7,(.d (.int .i64 ((n:Nat)))))],[.box false (D.sl .leaf (af .i64 (row x))),.box false (D.int .i64 p),.box false (D.sl .leaf (af .i64 (row m))),.hole,.hole,.hole,.hole,.hole,.sl false .leaf (ks.map cj),.hole,.hole,.sl false .leaf (ts.map cj),.hole]⟩=some (.ret,⟨[(4,(.d (.sl .leaf (af .i64 (row o)))))],[.box false (D.sl .leaf (af .i64 (row (stp m x)))),.box false (D.int .i64 p),.box false (D.sl .leaf (af .i64 (row m))),.hole,.hole,.hole,.hole,.hole,.hole,.hole,.hole,.hole,.hole]⟩):=by
 have hKl:(ks.map cj).length=n:=by rw [ba]; exact hks
 have hQl:(ts.map cj).length=n:=by rw [ba]; exact hts
 have htK:(ks.map cj).take n=ks.map cj:=bg (by omega)
 have htQ:(ts.map cj).take n=ts.map cj:=bg (by omega)
 have e0:=ha1 p m x hm hml hx;obtain ⟨n1,hn1⟩:∃n1,n1=n+1:=⟨_,rfl⟩;have hn1':n<n1:=by omega
 have hn2:n1*8≤1099511627776:=by omega
 have w1:IntKind.i64.wrap ((n:Int)+1)=(n1:Int):=(w64 (x:=(n:Int)+1) (by omega)).trans (by omega)
 have hXl:=jp (p:=p) n;have ein:=Y8 (O:=O) hat hld hin hc (m:=m) (x:=stp m x) (k:=n) (ck:=ck) (ct:=ct) hks hts hn hb ht h1 (OW:=af .i64 ((List.replicate n1 (0:Int)).set n 1)) (n1:=n1) (co:=some n1) x (pw Pol.X n) (by rw [O6 (p:=p) n n1 hn1]) (by unfold af; rw [ba,cx,d9]) hx (by omega)
 rw [hr] at ein;rw [show row ((0:Fp p),o).1=[] from dt,show ((0:Fp p),o).2=o from rfl] at ein;generalize row o=Ro at *;generalize row (stp m x)=R1 at *;generalize row x=Rx at *;generalize row m=Rm at *;generalize row (pw (Pol.X:Fp p) n)=Rk at *;generalize ks.map cj=K at *;generalize ts.map cj=Q at *;simp -implicitDefEqProofs [Z1g_L1,aw,e0,w1,hn1',hn2,ein,jf,List.idxOf,List.findIdx,List.findIdx.go]
theorem a8u {O:ap} (ha1:wv O) (hat:y9 O) (hld:lk O) (hin:g8 O) (hc:fl O) (hix:jc O F27 .leaf) (hr1:wc O) (hins:rt O) {p:Int} [IsP p] {m x:Fp p} (hm:m≠0) (hml:m.len≤64) (hx:x.len≤64) {ks ts:List (Fp p)} {n:Nat} {ck ct:Option Nat} (hks:ks.length=n) (hts:ts.length=n) (hn:n≤64) (hb:∀b∈ks,b≠0∧b.len≤64) (ht:∀t∈ts,t.len≤65) (h1:1≤n) {v o:Fp p} (hr:rlL ks ts x (pw Pol.X n)=(v,o)) (hv:v≠0) (hvl:v.len≤64) {i:Nat} (hi:i≤n) (hid:(nk (nu v.len) (ks.map cj) 0=-1∧i=n)∨nk (nu v.len) (ks.map cj) 0=(i:Int)) :
 dn O 3 Z1g_L1 ⟨[(0,(.d (.int .i64 p))),(1,.fn F10 [] [.ptr 0 [],.ptr 1 [],.ptr 2 []]),(5,.sl 8 [] 0 n ck),(6,.sl 11 [] 0 n ct),(7,(.d (.int .i64 ((n:Nat)))))],[.box false (D.sl .leaf (af .i64 (row x))),.box false (D.int .i64 p),.box false (D.sl .leaf (af .i64 (row m))),.hole,.hole,.hole,.hole,.hole,.sl false .leaf (ks.map cj),.hole,.hole,.sl false .leaf (ts.map cj),.hole]⟩=some (.normal,⟨[(0,(.d (.int .i64 p))),(1,.fn F10 [] [.ptr 0 [],.ptr 1 [],.ptr 2 []]),(5,.sl 9 [] 0 (n+1) none),(6,.sl 12 [] 0 (n+1) none),(7,(.d (.int .i64 (((n+1):Nat)))))],[.box false (D.sl .leaf (af .i64 (row (stp m x)))),.box false (D.int .i64 p),.box false (D.sl .leaf (af .i64 (row m))),.hole,.hole,.hole,.hole,.hole,.hole,.sl false .leaf ((ks.take i++v::ks.drop i).map cj),.hole,.hole,.sl false .leaf ((ts.take i++o::ts.drop i).map cj)]⟩):=by
 have hKl:(ks.map cj).length=n:=by rw [ba]; exact hks
 have hQl:(ts.map cj).length=n:=by rw [ba]; exact hts
 have htK:(ks.map cj).take n=ks.map cj:=bg (by omega)
 have htQ:(ts.map cj).take n=ts.map cj:=bg (by omega)
 have e0:=ha1 p m x hm hml hx;obtain ⟨n1,hn1⟩:∃n1,n1=n+1:=⟨_,rfl⟩;have hn1':n<n1:=by omega
 have hn2:n1*8≤1099511627776:=by omega
 have w1:IntKind.i64.wrap ((n:Int)+1)=(n1:Int):=(w64 (x:=(n:Int)+1) (by omega)).trans (by omega)
 have hXl:=jp (p:=p) n;have ein:=Y8 (O:=O) hat hld hin hc (m:=m) (x:=stp m x) (k:=n) (ck:=ck) (ct:=ct) hks hts hn hb ht h1 (OW:=af .i64 ((List.replicate n1 (0:Int)).set n 1)) (n1:=n1) (co:=some n1) x (pw Pol.X n) (by rw [O6 (p:=p) n n1 hn1]) (by unfold af; rw [ba,cx,d9]) hx (by omega)
 rw [hr] at ein;have e4:=a2c hix hr1 (ks:=ks) (by omega) (fun b hbm=>(hb b hbm).2) (r:=row v) (by rw [bi]; exact hvl)
 rw [bi] at e4
 have hvn:¬ row v=[]:=fun h=>by
  have:=congrArg List.length h;rw [bi] at this;have:=Pol.len_pos hv;simp at *;omega
 have e5:=hins (ks.map cj) (D.sl .leaf (af .i64 (row v))) n i ck hKl hi (by omega)
 have e6:=hins (ts.map cj) (D.sl .leaf (af .i64 (row o))) n i ct hQl hi (by omega)
 have hK2:(ks.take i++v::ks.drop i).map cj=(ks.map cj).take i++(D.sl .leaf (af .i64 (row v)))::(ks.map cj).drop i:=by
  rw [di,db,List.map_take,List.map_drop]
 have hQ2:(ts.take i++o::ts.drop i).map cj=(ts.map cj).take i++(D.sl .leaf (af .i64 (row o)))::(ts.map cj).drop i:=by
  rw [di,db,List.map_take,List.map_drop]
 rw [hK2,hQ2];rw [show row (v,o).1=row v from rfl,show row (v,o).2=row o from rfl] at ein;rw [←hn1] at *;clear hK2 hQ2;have hi0:¬ (i:Int)<0:=by omega
 obtain ⟨gf,gg,gk,hG⟩:∃f g k,(Blk.sl false .leaf (ks.map cj)).toGone=.gone f g k:=⟨_,_,_,rfl⟩;obtain ⟨gf2,gg2,gk2,hG2⟩:∃f g k,(Blk.sl false .leaf (ts.map cj)).toGone=.gone f g k:=⟨_,_,_,rfl⟩;rw [hG] at e5;rw [hG2] at e6;clear hG hG2;generalize nk (nu v.len) (ks.map cj) 0=ix at *;generalize row v=Rv at *;generalize row o=Ro at *;generalize row (stp m x)=R1 at *;generalize row x=Rx at *;generalize row m=Rm at *;generalize row (pw (Pol.X:Fp p) n)=Rk at *;generalize ks.map cj=K at *;generalize ts.map cj=Q at *;rcases hid with ⟨rfl,rfl⟩ | rfl
 ·simp -implicitDefEqProofs [Z1g_L1,aw,hKl,htK,htQ,e0,w1,hn1',hn2,ein,e4,e5,e6,hvn,List.idxOf,List.findIdx,List.findIdx.go]
 ·simp -implicitDefEqProofs [Z1g_L1,aw,hKl,htK,e0,w1,hn1',hn2,ein,e4,e5,e6,hvn,hi0,List.idxOf,List.findIdx,List.findIdx.go]
theorem a8g {O:ap} (ha1:wv O) (hat:y9 O) (hld:lk O) (hin:g8 O) (hc:fl O) (_hix:jc O F27 .leaf) (_hr1:wc O) (_hins:rt O) {p:Int} [IsP p] {m x:Fp p} (hm:m≠0) (hml:m.len≤64) (hx:x.len≤64) {ks ts:List (Fp p)} {n:Nat} {ck ct:Option Nat} (hks:ks.length=n) (hts:ts.length=n) (hn:n≤64) (hb:∀b∈ks,b≠0∧b.len≤64) (ht:∀t∈ts,t.len≤65) (h1:1≤n) {o:Fp p} (hr:rlL ks ts x (pw Pol.X n)=(0,o)) :
 dn O 3 Z1g_L1 ⟨[(0,(.d (.int .i64 p))),(1,.fn F10 [] [.ptr 0 [],.ptr 1 [],.ptr 2 []]),(5,.sl 9 [] 0 n ck),(6,.sl 12 [] 0 n ct),(7,(.d (.int .i64 ((n:Nat)))))],[.box false (D.sl .leaf (af .i64 (row x))),.box false (D.int .i64 p),.box false (D.sl .leaf (af .i64 (row m))),.hole,.hole,.hole,.hole,.hole,.hole,.sl false .leaf (ks.map cj),.hole,.hole,.sl false .leaf (ts.map cj)]⟩=some (.ret,⟨[(4,(.d (.sl .leaf (af .i64 (row o)))))],[.box false (D.sl .leaf (af .i64 (row (stp m x)))),.box false (D.int .i64 p),.box false (D.sl .leaf (af .i64 (row m))),.hole,.hole,.hole,.hole,.hole,.hole,.hole,.hole,.hole,.hole]⟩):=by
 have hKl:(ks.map cj).length=n:=by rw [ba]; exact hks
 have hQl:(ts.map cj).length=n:=by rw [ba]; exact hts
 have htK:(ks.map cj).take n=ks.map cj:=bg (by omega)
 have htQ:(ts.map cj).take n=ts.map cj:=bg (by omega)
 have e0:=ha1 p m x hm hml hx;obtain ⟨n1,hn1⟩:∃n1,n1=n+1:=⟨_,rfl⟩;have hn1':n<n1:=by omega
 have hn2:n1*8≤1099511627776:=by omega
 have w1:IntKind.i64.wrap ((n:Int)+1)=(n1:Int):=(w64 (x:=(n:Int)+1) (by omega)).trans (by omega)
 have hXl:=jp (p:=p) n;have ein:=X6 (O:=O) hat hld hin hc (m:=m) (x:=stp m x) (k:=n) (ck:=ck) (ct:=ct) hks hts hn hb ht h1 (OW:=af .i64 ((List.replicate n1 (0:Int)).set n 1)) (n1:=n1) (co:=some n1) x (pw Pol.X n) (by rw [O6 (p:=p) n n1 hn1]) (by unfold af; rw [ba,cx,d9]) hx (by omega)
 rw [hr] at ein;rw [show row ((0:Fp p),o).1=[] from dt,show ((0:Fp p),o).2=o from rfl] at ein;generalize row o=Ro at *;generalize row (stp m x)=R1 at *;generalize row x=Rx at *;generalize row m=Rm at *;generalize row (pw (Pol.X:Fp p) n)=Rk at *;generalize ks.map cj=K at *;generalize ts.map cj=Q at *;simp -implicitDefEqProofs [Z1g_L1,aw,e0,w1,hn1',hn2,ein,jf,List.idxOf,List.findIdx,List.findIdx.go]
theorem a8b {O:ap} (ha1:wv O) (hat:y9 O) (hld:lk O) (hin:g8 O) (hc:fl O) (hix:jc O F27 .leaf) (hr1:wc O) (hins:rt O) {p:Int} [IsP p] {m x:Fp p} (hm:m≠0) (hml:m.len≤64) (hx:x.len≤64) {ks ts:List (Fp p)} {n:Nat} {ck ct:Option Nat} (hks:ks.length=n) (hts:ts.length=n) (hn:n≤64) (hb:∀b∈ks,b≠0∧b.len≤64) (ht:∀t∈ts,t.len≤65) (h1:1≤n) {v o:Fp p} (hr:rlL ks ts x (pw Pol.X n)=(v,o)) (hv:v≠0) (hvl:v.len≤64) {i:Nat} (hi:i≤n) (hid:(nk (nu v.len) (ks.map cj) 0=-1∧i=n)∨nk (nu v.len) (ks.map cj) 0=(i:Int)) :
 dn O 3 Z1g_L1 ⟨[(0,(.d (.int .i64 p))),(1,.fn F10 [] [.ptr 0 [],.ptr 1 [],.ptr 2 []]),(5,.sl 9 [] 0 n ck),(6,.sl 12 [] 0 n ct),(7,(.d (.int .i64 ((n:Nat)))))],[.box false (D.sl .leaf (af .i64 (row x))),.box false (D.int .i64 p),.box false (D.sl .leaf (af .i64 (row m))),.hole,.hole,.hole,.hole,.hole,.hole,.sl false .leaf (ks.map cj),.hole,.hole,.sl false .leaf (ts.map cj)]⟩=some (.normal,⟨[(0,(.d (.int .i64 p))),(1,.fn F10 [] [.ptr 0 [],.ptr 1 [],.ptr 2 []]),(5,.sl 8 [] 0 (n+1) none),(6,.sl 11 [] 0 (n+1) none),(7,(.d (.int .i64 (((n+1):Nat)))))],[.box false (D.sl .leaf (af .i64 (row (stp m x)))),.box false (D.int .i64 p),.box false (D.sl .leaf (af .i64 (row m))),.hole,.hole,.hole,.hole,.hole,.sl false .leaf ((ks.take i++v::ks.drop i).map cj),.hole,.hole,.sl false .leaf ((ts.take i++o::ts.drop i).map cj),.hole]⟩):=by
 have hKl:(ks.map cj).length=n:=by rw [ba]; exact hks
 have hQl:(ts.map cj).length=n:=by rw [ba]; exact hts
 have htK:(ks.map cj).take n=ks.map cj:=bg (by omega)
 have htQ:(ts.map cj).take n=ts.map cj:=bg (by omega)
 have e0:=ha1 p m x hm hml hx;obtain ⟨n1,hn1⟩:∃n1,n1=n+1:=⟨_,rfl⟩;have hn1':n<n1:=by omega
 have hn2:n1*8≤1099511627776:=by omega
 have w1:IntKind.i64.wrap ((n:Int)+1)=(n1:Int):=(w64 (x:=(n:Int)+1) (by omega)).trans (by omega)
 have hXl:=jp (p:=p) n;have ein:=X6 (O:=O) hat hld hin hc (m:=m) (x:=stp m x) (k:=n) (ck:=ck) (ct:=ct) hks hts hn hb ht h1 (OW:=af .i64 ((List.replicate n1 (0:Int)).set n 1)) (n1:=n1) (co:=some n1) x (pw Pol.X n) (by rw [O6 (p:=p) n n1 hn1]) (by unfold af; rw [ba,cx,d9]) hx (by omega)
 rw [hr] at ein;have e4:=a2c hix hr1 (ks:=ks) (by omega) (fun b hbm=>(hb b hbm).2) (r:=row v) (by rw [bi]; exact hvl)
 rw [bi] at e4
 have hvn:¬ row v=[]:=fun h=>by
  have:=congrArg List.length h;rw [bi] at this;have:=Pol.len_pos hv;simp at *;omega
 have e5:=hins (ks.map cj) (D.sl .leaf (af .i64 (row v))) n i ck hKl hi (by omega)
 have e6:=hins (ts.map cj) (D.sl .leaf (af .i64 (row o))) n i ct hQl hi (by omega)
 have hK2:(ks.take i++v::ks.drop i).map cj=(ks.map cj).take i++(D.sl .leaf (af .i64 (row v)))::(ks.map cj).drop i:=by
  rw [di,db,List.map_take,List.map_drop]
 have hQ2:(ts.take i++o::ts.drop i).map cj=(ts.map cj).take i++(D.sl .leaf (af .i64 (row o)))::(ts.map cj).drop i:=by
  rw [di,db,List.map_take,List.map_drop]
 rw [hK2,hQ2];rw [show row (v,o).1=row v from rfl,show row (v,o).2=row o from rfl] at ein;rw [←hn1] at *;clear hK2 hQ2;have hi0:¬ (i:Int)<0:=by omega
 obtain ⟨gf,gg,gk,hG⟩:∃f g k,(Blk.sl false .leaf (ks.map cj)).toGone=.gone f g k:=⟨_,_,_,rfl⟩;obtain ⟨gf2,gg2,gk2,hG2⟩:∃f g k,(Blk.sl false .leaf (ts.map cj)).toGone=.gone f g k:=⟨_,_,_,rfl⟩;rw [hG] at e5;rw [hG2] at e6;clear hG hG2;generalize nk (nu v.len) (ks.map cj) 0=ix at *;generalize row v=Rv at *;generalize row o=Ro at *;generalize row (stp m x)=R1 at *;generalize row x=Rx at *;generalize row m=Rm at *;generalize row (pw (Pol.X:Fp p) n)=Rk at *;generalize ks.map cj=K at *;generalize ts.map cj=Q at *;rcases hid with ⟨rfl,rfl⟩ | rfl
 ·simp -implicitDefEqProofs [Z1g_L1,aw,hKl,htK,htQ,e0,w1,hn1',hn2,ein,e4,e5,e6,hvn,List.idxOf,List.findIdx,List.findIdx.go]
 ·simp -implicitDefEqProofs [Z1g_L1,aw,hKl,htK,e0,w1,hn1',hn2,ein,e4,e5,e6,hvn,hi0,List.idxOf,List.findIdx,List.findIdx.go]
theorem a7s {O:ap} (ha1:wv O) (_hat:y9 O) (_hld:lk O) (_hin:g8 O) (_hc:fl O) (_hix:jc O F27 .leaf) (_hr1:wc O) (_hins:rt O) {p:Int} [IsP p] {m x:Fp p} (hm:m≠0) (hml:m.len≤64) (hx:x.len≤64) (h0:x=0) :
 dn O 3 Z1g_L1 ⟨[(0,(.d (.int .i64 p))),(1,.fn F10 [] [.ptr 0 [],.ptr 1 [],.ptr 2 []]),(5,.sl 3 [] 0 0 (some 0)),(6,.sl 4 [] 0 0 (some 0)),(7,(.d (.int .i64 ((0:Int)))))],[.box false (D.sl .leaf (af .i64 (row x))),.box false (D.int .i64 p),.box false (D.sl .leaf (af .i64 (row m))),.sl false .leaf [],.sl false .leaf [],.hole,.hole,.hole,.hole,.hole,.hole,.hole,.hole]⟩=some (.ret,⟨[(4,.sl 6 [] 0 1 (some 1))],[.box false (D.sl .leaf (af .i64 (row (stp m x)))),.box false (D.int .i64 p),.box false (D.sl .leaf (af .i64 (row m))),.hole,.hole,.hole,.sl false .leaf [.int .i64 1],.hole,.hole,.hole,.hole,.hole,.hole]⟩):=by
 have e0:=ha1 p m x hm hml hx
 have ein:dn O 3 (.loop Z1g_L0) ⟨[(0,(.d (.int .i64 p))),(1,.fn F10 [] [.ptr 0 [],.ptr 1 [],.ptr 2 []]),(5,.sl 3 [] 0 0 (some 0)),(6,.sl 4 [] 0 0 (some 0)),(7,(.d (.int .i64 ((0:Int))))),(8,.ptr 5 []),(9,.sl 6 [] 0 1 (some 1)),(24,.sl 3 [] 0 0 (some 0)),(25,(.d (.int .i64 ((0:Int))))),(26,(.d (.int .i64 ((0:Int)))))],[.box false (D.sl .leaf (af .i64 (row (stp m x)))),.box false (D.int .i64 p),.box false (D.sl .leaf (af .i64 (row m))),.sl false .leaf [],.sl false .leaf [],.box false (D.sl .leaf (af .i64 (row x))),.sl false .leaf [.int .i64 1],.hole,.hole,.hole,.hole,.hole,.hole]⟩=some (.exit 2,⟨[(0,(.d (.int .i64 p))),(1,.fn F10 [] [.ptr 0 [],.ptr 1 [],.ptr 2 []]),(5,.sl 3 [] 0 0 (some 0)),(6,.sl 4 [] 0 0 (some 0)),(7,(.d (.int .i64 ((0:Int))))),(8,.ptr 5 []),(9,.sl 6 [] 0 1 (some 1)),(24,.sl 3 [] 0 0 (some 0)),(25,(.d (.int .i64 ((0:Int))))),(26,(.d (.int .i64 ((0:Int))))),(27,(.d (.bool false)))],[.box false (D.sl .leaf (af .i64 (row (stp m x)))),.box false (D.int .i64 p),.box false (D.sl .leaf (af .i64 (row m))),.sl false .leaf [],.sl false .leaf [],.box false (D.sl .leaf (af .i64 (row x))),.sl false .leaf [.int .i64 1],.hole,.hole,.hole,.hole,.hole,.hole]⟩):=by
  refine cm ?_;generalize row (stp m x)=R1 at *;generalize row x=Rx at *;generalize row m=Rm at *;simp -implicitDefEqProofs [Z1g_L0,aw]
 have w1:IntKind.i64.wrap 1=1:=rfl;have hx0:row x=[]:=by rw [h0,dt]
 rw [hx0] at e0 ein ⊢;rw [show af .i64 []=[] from rfl] at e0 ein ⊢;generalize row (stp m x)=R1 at *;generalize row m=Rm at *;simp -implicitDefEqProofs [Z1g_L1,aw,e0,w1,ein,List.idxOf,List.findIdx,List.findIdx.go]
theorem a71 {O:ap} (ha1:wv O) (_hat:y9 O) (_hld:lk O) (_hin:g8 O) (_hc:fl O) (hix:jc O F27 .leaf) (hr1:wc O) (hins:rt O) {p:Int} [IsP p] {m x:Fp p} (hm:m≠0) (hml:m.len≤64) (hx:x.len≤64) (h0:x≠0) :
 dn O 3 Z1g_L1 ⟨[(0,(.d (.int .i64 p))),(1,.fn F10 [] [.ptr 0 [],.ptr 1 [],.ptr 2 []]),(5,.sl 3 [] 0 0 (some 0)),(6,.sl 4 [] 0 0 (some 0)),(7,(.d (.int .i64 ((0:Int)))))],[.box false (D.sl .leaf (af .i64 (row x))),.box false (D.int .i64 p),.box false (D.sl .leaf (af .i64 (row m))),.sl false .leaf [],.sl false .leaf [],.hole,.hole,.hole,.hole,.hole,.hole,.hole,.hole]⟩=some (.normal,⟨[(0,(.d (.int .i64 p))),(1,.fn F10 [] [.ptr 0 [],.ptr 1 [],.ptr 2 []]),(5,.sl 8 [] 0 1 none),(6,.sl 11 [] 0 1 none),(7,(.d (.int .i64 ((1:Nat)))))],[.box false (D.sl .leaf (af .i64 (row (stp m x)))),.box false (D.int .i64 p),.box false (D.sl .leaf (af .i64 (row m))),.hole,.hole,.hole,.hole,.hole,.sl false .leaf ([x].map cj),.hole,.hole,.sl false .leaf ([(1:Fp p)].map cj),.hole]⟩):=by
 have e0:=ha1 p m x hm hml hx
 have ein:dn O 3 (.loop Z1g_L0) ⟨[(0,(.d (.int .i64 p))),(1,.fn F10 [] [.ptr 0 [],.ptr 1 [],.ptr 2 []]),(5,.sl 3 [] 0 0 (some 0)),(6,.sl 4 [] 0 0 (some 0)),(7,(.d (.int .i64 ((0:Int))))),(8,.ptr 5 []),(9,.sl 6 [] 0 1 (some 1)),(24,.sl 3 [] 0 0 (some 0)),(25,(.d (.int .i64 ((0:Int))))),(26,(.d (.int .i64 ((0:Int)))))],[.box false (D.sl .leaf (af .i64 (row (stp m x)))),.box false (D.int .i64 p),.box false (D.sl .leaf (af .i64 (row m))),.sl false .leaf [],.sl false .leaf [],.box false (D.sl .leaf (af .i64 (row x))),.sl false .leaf [.int .i64 1],.hole,.hole,.hole,.hole,.hole,.hole]⟩=some (.exit 2,⟨[(0,(.d (.int .i64 p))),(1,.fn F10 [] [.ptr 0 [],.ptr 1 [],.ptr 2 []]),(5,.sl 3 [] 0 0 (some 0)),(6,.sl 4 [] 0 0 (some 0)),(7,(.d (.int .i64 ((0:Int))))),(8,.ptr 5 []),(9,.sl 6 [] 0 1 (some 1)),(24,.sl 3 [] 0 0 (some 0)),(25,(.d (.int .i64 ((0:Int))))),(26,(.d (.int .i64 ((0:Int))))),(27,(.d (.bool false)))],[.box false (D.sl .leaf (af .i64 (row (stp m x)))),.box false (D.int .i64 p),.box false (D.sl .leaf (af .i64 (row m))),.sl false .leaf [],.sl false .leaf [],.box false (D.sl .leaf (af .i64 (row x))),.sl false .leaf [.int .i64 1],.hole,.hole,.hole,.hole,.hole,.hole]⟩):=by
  refine cm ?_;generalize row (stp m x)=R1 at *;generalize row x=Rx at *;generalize row m=Rm at *;simp -implicitDefEqProofs [Z1g_L0,aw]
 have w1:IntKind.i64.wrap 1=1:=rfl
 have hvn:¬ row x=[]:=fun h=>by
  have:=congrArg List.length h;rw [bi] at this;have:=Pol.len_pos h0;simp at *;omega
 have e4:=a2c (p:=p) hix hr1 (ks:=[]) (by simp) (fun b hbm=>(List.not_mem_nil hbm).elim) (r:=row x) (by rw [bi]; exact hx)
 rw [show ([]:List (Fp p)).map cj=[] from rfl,show nk (nu (row x).length) [] 0=-1 from rfl] at e4;have e5:=hins [] (D.sl .leaf (af .i64 (row x))) 0 0 (some 0) rfl (by omega) (by omega)
 have e6:=hins [] (.sl .leaf [.int .i64 1]) 0 0 (some 0) rfl (by omega) (by omega)
 obtain ⟨gf,gg,gk,hG⟩:∃f g k,(Blk.sl false .leaf []).toGone=.gone f g k:=⟨_,_,_,rfl⟩;rw [hG] at e5 e6;clear hG;rw [show ([x].map cj)=[(D.sl .leaf (af .i64 (row x)))] from rfl,show ([(1:Fp p)].map cj)=[(D.sl .leaf (af .i64 (row (1:Fp p))))] from rfl,tf,show af .i64 [1]=[.int .i64 1] from rfl];generalize row (stp m x)=R1 at *;generalize row x=Rx at *;generalize row m=Rm at *;simp -implicitDefEqProofs at e5 e6;simp -implicitDefEqProofs [Z1g_L1,aw,e0,w1,ein,e4,e5,e6,hvn,List.idxOf,List.findIdx,List.findIdx.go]
section
variable {p:Int} [IsP p]
theorem a4d (m:Fp p):∀(k:Nat) (x:Fp p),av m x (pw Pol.X k)=stI m k x
 | 0,x=>by
  have:=a7c m x 1;rw [Pol.C_one,Gq.one_mul] at this;exact this
 | k+1,x=>by rw [pw,Gq.mul_comm,aap,a4d m k,←Dm]
end
structure H_relO (O:ap):Prop where
 a1:wv O
 ca:y9 O
 ld:lk O
 iv:g8 O
 co:fl O
 ix:jc O F27 .leaf
 r1:wc O
 it:rt O
theorem aab {O:ap} (h1:wv O) (h2:y9 O) (h3:lk O) (h4:g8 O) (h5:fl O) (h6:jc O F27 .leaf) (h7:wc O) (h8:rt O):H_relO O:=⟨h1,h2,h3,h4,h5,h6,h7,h8⟩
theorem J4 {O:ap} (H:H_relO O) {p:Int} [IsP p] {m x0:Fp p} (hm:m≠0) (hml:m.len≤64) (hx0:x0.len<m.len) (r:Nat) (ih:∀n:Nat,n+r=m.len→n≤m.len-1→1≤n→∀(ks ts:List (Fp p)) (ck ct:Option Nat),RelI (av m x0) (m.len-1) n ks ts →
 (∃f y:Fp p,MinR (av m x0) f∧f.len≤m.len∧dn O 3 (.loop Z1g_L1) ⟨[(0,(.d (.int .i64 p))),(1,.fn F10 [] [.ptr 0 [],.ptr 1 [],.ptr 2 []]),(5,.sl 8 [] 0 n ck),(6,.sl 11 [] 0 n ct),(7,(.d (.int .i64 ((n:Nat)))))],[.box false (D.sl .leaf (af .i64 (row (stI m n x0)))),.box false (D.int .i64 p),.box false (D.sl .leaf (af .i64 (row m))),.hole,.hole,.hole,.hole,.hole,.sl false .leaf (ks.map cj),.hole,.hole,.sl false .leaf (ts.map cj),.hole]⟩=some (.ret,⟨[(4,(.d (.sl .leaf (af .i64 (row f)))))],[.box false (D.sl .leaf (af .i64 (row y))),.box false (D.int .i64 p),.box false (D.sl .leaf (af .i64 (row m))),.hole,.hole,.hole,.hole,.hole,.hole,.hole,.hole,.hole,.hole]⟩)) ∧
 (∃f y:Fp p,MinR (av m x0) f∧f.len≤m.len∧dn O 3 (.loop Z1g_L1) ⟨[(0,(.d (.int .i64 p))),(1,.fn F10 [] [.ptr 0 [],.ptr 1 [],.ptr 2 []]),(5,.sl 9 [] 0 n ck),(6,.sl 12 [] 0 n ct),(7,(.d (.int .i64 ((n:Nat)))))],[.box false (D.sl .leaf (af .i64 (row (stI m n x0)))),.box false (D.int .i64 p),.box false (D.sl .leaf (af .i64 (row m))),.hole,.hole,.hole,.hole,.hole,.hole,.sl false .leaf (ks.map cj),.hole,.hole,.sl false .leaf (ts.map cj)]⟩=some (.ret,⟨[(4,(.d (.sl .leaf (af .i64 (row f)))))],[.box false (D.sl .leaf (af .i64 (row y))),.box false (D.int .i64 p),.box false (D.sl .leaf (af .i64 (row m))),.hole,.hole,.hole,.hole,.hole,.hole,.hole,.hole,.hole,.hole]⟩))) (n:Nat) (hnr:n+r=m.len-1) (h1:1≤n) (ks ts:List (Fp p)) (ck ct:Option Nat) (h:RelI (av m x0) (m.len-1) n ks ts) :
 (∃f y:Fp p,MinR (av m x0) f∧f.len≤m.len∧dn O 3 (.loop Z1g_L1) ⟨[(0,(.d (.int .i64 p))),(1,.fn F10 [] [.ptr 0 [],.ptr 1 [],.ptr 2 []]),(5,.sl 8 [] 0 n ck),(6,.sl 11 [] 0 n ct),(7,(.d (.int .i64 ((n:Nat)))))],[.box false (D.sl .leaf (af .i64 (row (stI m n x0)))),.box false (D.int .i64 p),.box false (D.sl .leaf (af .i64 (row m))),.hole,.hole,.hole,.hole,.hole,.sl false .leaf (ks.map cj),.hole,.hole,.sl false .leaf (ts.map cj),.hole]⟩=some (.ret,⟨[(4,(.d (.sl .leaf (af .i64 (row f)))))],[.box false (D.sl .leaf (af .i64 (row y))),.box false (D.int .i64 p),.box false (D.sl .leaf (af .i64 (row m))),.hole,.hole,.hole,.hole,.hole,.hole,.hole,.hole,.hole,.hole]⟩)) ∧
 (∃f y:Fp p,MinR (av m x0) f∧f.len≤m.len∧dn O 3 (.loop Z1g_L1) ⟨[(0,(.d (.int .i64 p))),(1,.fn F10 [] [.ptr 0 [],.ptr 1 [],.ptr 2 []]),(5,.sl 9 [] 0 n ck),(6,.sl 12 [] 0 n ct),(7,(.d (.int .i64 ((n:Nat)))))],[.box false (D.sl .leaf (af .i64 (row (stI m n x0)))),.box false (D.int .i64 p),.box false (D.sl .leaf (af .i64 (row m))),.hole,.hole,.hole,.hole,.hole,.hole,.sl false .leaf (ks.map cj),.hole,.hole,.sl false .leaf (ts.map cj)]⟩=some (.ret,⟨[(4,(.d (.sl .leaf (af .i64 (row f)))))],[.box false (D.sl .leaf (af .i64 (row y))),.box false (D.int .i64 p),.box false (D.sl .leaf (af .i64 (row m))),.hole,.hole,.hole,.hole,.hole,.hole,.hole,.hole,.hole,.hole]⟩)):=by
 have hmp:=Pol.len_pos hm;have hsl:=yw hm hx0 n;have hlin:=o4 m x0;have hdec:=h.dec;have hnz:=h.nz;have hcnt:=h.cnt;have htl:=h.tl;have hsrc:=h.src;have htsl:ts.length=n:=by rw [hsrc,ba] at hcnt; exact hcnt
 have hok:=Q6 hlin (d:=m.len-1) (k:=n) ts (stI m n x0) (pw Pol.X n) (by rw [←hsrc]; exact hdec) (by rw [←hsrc]; exact hnz) htl (by omega) (by rw [jp]; omega) (by rw [wd,if_pos rfl]) (a4d m n x0)
 rw [←hsrc] at hok;have hkb:∀b∈ks,b≠0∧b.len≤64:=fun b hb=>⟨(hnz b hb).1,by have:=(hnz b hb).2; omega⟩
 have htb:∀t∈ts,t.len≤65:=fun t ht=>by have:=htl t ht; omega
 rcases hvo:rlL ks ts (stI m n x0) (pw Pol.X n) with ⟨v,o⟩
 rw [hvo] at hok;obtain ⟨k1,k2,k3,k4,k5,_⟩:=hok;simp only at k1 k2 k3 k4 k5
 by_cases hv:v=0
 ·subst hv
  obtain ⟨f1,f2⟩:=h.found k2 k3 k4
  exact ⟨⟨o,_,f1,by omega,lq (a8w H.a1 H.ca H.ld H.iv H.co H.ix H.r1 H.it hm hml (by omega) hcnt htsl (by omega) hkb htb h1 hvo)⟩,
   ⟨o,_,f1,by omega,lq (a8g H.a1 H.ca H.ld H.iv H.co H.ix H.r1 H.it hm hml (by omega) hcnt htsl (by omega) hkb htb h1 hvo)⟩⟩
 ·obtain ⟨i,hi,hid,ha,hb⟩:∃i,i≤n∧((nk (nu v.len) (ks.map cj) 0=-1∧i=n)∨nk (nu v.len) (ks.map cj) 0=(i:Int))∧(∀b∈ks.take i,¬ b.len<v.len)∧∀b∈ks.drop i,b.len<v.len:=by
   rcases Dw v.len ks 0 hdec with ⟨g1,g2⟩ | ⟨k,g1,g2,g3,g4⟩
   ·exact ⟨n,bh n,.inl ⟨g1,rfl⟩,fun b hb=>g2 b (gy hb),fun b hb=>by
     rw [cz (by omega)] at hb
     exact (List.not_mem_nil hb).elim⟩
   ·exact ⟨k,by omega,.inr (by rw [g1,cd]),g3,g4⟩
  have hnx:=h.next hlin k2 k3 k4 hv k1 k5 hi ha hb;have hc:=Eu hnx.dec hnx.nz;have hc2:=hnx.cnt;obtain ⟨⟨fA,yA,a1,a2,a3⟩,⟨fB,yB,b1,b2,b3⟩⟩:=ih (n+1) (by omega) (by omega) (by omega) _ _ none none hnx
  exact ⟨⟨fB,yB,b1,b2,cg (a8u H.a1 H.ca H.ld H.iv H.co H.ix H.r1 H.it hm hml (by omega) hcnt htsl (by omega) hkb htb h1 hvo hv (by omega) hi hid) b3⟩,
   ⟨fA,yA,a1,a2,cg (a8b H.a1 H.ca H.ld H.iv H.co H.ix H.r1 H.it hm hml (by omega) hcnt htsl (by omega) hkb htb h1 hvo hv (by omega) hi hid) a3⟩⟩
theorem abs {O:ap} (H:H_relO O) {p:Int} [IsP p] {m x0:Fp p} (hm:m≠0) (hml:m.len≤64) (hx0:x0.len<m.len):∀(r n:Nat),n+r=m.len-1→1≤n→∀(ks ts:List (Fp p)) (ck ct:Option Nat),RelI (av m x0) (m.len-1) n ks ts →
 (∃f y:Fp p,MinR (av m x0) f∧f.len≤m.len∧dn O 3 (.loop Z1g_L1) ⟨[(0,(.d (.int .i64 p))),(1,.fn F10 [] [.ptr 0 [],.ptr 1 [],.ptr 2 []]),(5,.sl 8 [] 0 n ck),(6,.sl 11 [] 0 n ct),(7,(.d (.int .i64 ((n:Nat)))))],[.box false (D.sl .leaf (af .i64 (row (stI m n x0)))),.box false (D.int .i64 p),.box false (D.sl .leaf (af .i64 (row m))),.hole,.hole,.hole,.hole,.hole,.sl false .leaf (ks.map cj),.hole,.hole,.sl false .leaf (ts.map cj),.hole]⟩=some (.ret,⟨[(4,(.d (.sl .leaf (af .i64 (row f)))))],[.box false (D.sl .leaf (af .i64 (row y))),.box false (D.int .i64 p),.box false (D.sl .leaf (af .i64 (row m))),.hole,.hole,.hole,.hole,.hole,.hole,.hole,.hole,.hole,.hole]⟩)) ∧
 (∃f y:Fp p,MinR (av m x0) f∧f.len≤m.len∧dn O 3 (.loop Z1g_L1) ⟨[(0,(.d (.int .i64 p))),(1,.fn F10 [] [.ptr 0 [],.ptr 1 [],.ptr 2 []]),(5,.sl 9 [] 0 n ck),(6,.sl 12 [] 0 n ct),(7,(.d (.int .i64 ((n:Nat)))))],[.box false (D.sl .leaf (af .i64 (row (stI m n x0)))),.box false (D.int .i64 p),.box false (D.sl .leaf (af .i64 (row m))),.hole,.hole,.hole,.hole,.hole,.hole,.sl false .leaf (ks.map cj),.hole,.hole,.sl false .leaf (ts.map cj)]⟩=some (.ret,⟨[(4,(.d (.sl .leaf (af .i64 (row f)))))],[.box false (D.sl .leaf (af .i64 (row y))),.box false (D.int .i64 p),.box false (D.sl .leaf (af .i64 (row m))),.hole,.hole,.hole,.hole,.hole,.hole,.hole,.hole,.hole,.hole]⟩)):=by
 intro r
 induction r with
 | zero=>exact J4 H hm hml hx0 0 fun n hn hn2=>absurd hn2 (by have:=Pol.len_pos hm; omega)
 | succ r ih=>exact J4 H hm hml hx0 (r+1) fun n hn _=>ih n (by omega)
def De (O:ap):Prop:=∀(p:Int) [IsP p] (m x0:Fp p),m≠0→m.len≤64→x0.len<m.len→∃f y:Fp p,MinR (av m x0) f∧f.len≤m.len ∧
 (O F1g [(.d (.int .i64 p)),.fn F10 [] [.ptr 0 [],.ptr 1 [],.ptr 2 []]] [.box false (D.sl .leaf (af .i64 (row x0))),.box false (D.int .i64 p),.box false (D.sl .leaf (af .i64 (row m)))]=some ((.d (.sl .leaf (af .i64 (row f)))),[.box false (D.sl .leaf (af .i64 (row y))),.box false (D.int .i64 p),.box false (D.sl .leaf (af .i64 (row m)))],[]) ∨
  f=1∧O F1g [(.d (.int .i64 p)),.fn F10 [] [.ptr 0 [],.ptr 1 [],.ptr 2 []]] [.box false (D.sl .leaf (af .i64 (row x0))),.box false (D.int .i64 p),.box false (D.sl .leaf (af .i64 (row m)))]=some (.sl 3 [] 0 1 (some 1),[.box false (D.sl .leaf (af .i64 (row y))),.box false (D.int .i64 p),.box false (D.sl .leaf (af .i64 (row m)))],[.sl false .leaf [.int .i64 1]]))
theorem Uu (hT:T F1g=some Z1g) (H:H_relO (den T A)):De (den T A):=by
 intro p ip m x hm hml hx
 by_cases h0:x=0
 ·have e:=lq (a7s H.a1 H.ca H.ld H.iv H.co H.ix H.r1 H.it hm hml (show x.len≤64 by omega) h0)
  refine ⟨1,stp m x,⟨Monic.one,by rw [h0,zi hm],fun g hg _=>Pol.len_zero_iff.1 (by rw [Pol.len_one] at hg; omega)⟩,by rw [Pol.len_one]; exact Pol.len_pos hm,.inr ⟨rfl,iw hT rfl ?_⟩⟩
  generalize row (stp m x)=R1 at *;generalize row x=Rx at *;generalize row m=Rm at *;simp -implicitDefEqProofs [Z1g,Z1g_B,e]
 ·have xp:=Pol.len_pos h0
  have hn:=(RelI.nil (o4 m x) (m.len-1)).next (o4 m x) (v:=x) (o:=1) (by rw [Pol.len_one]; omega) rfl (by
   have:=a7c m x 1
   rwa [Pol.C_one,Gq.one_mul] at this) h0 (by omega) (fun b hb=>(List.not_mem_nil hb).elim) (bh 0) (fun b hb=>(List.not_mem_nil hb).elim) (fun b hb=>(List.not_mem_nil hb).elim)
  obtain ⟨⟨f,y,f1,f2,f3⟩,_⟩:=abs H hm hml hx (m.len-2) 1 (by omega) (by omega) [x] [1] none none hn
  have e:=cg (a71 H.a1 H.ca H.ld H.iv H.co H.ix H.r1 H.it hm hml (show x.len≤64 by omega) h0) f3
  refine ⟨f,y,f1,f2,.inl (iw hT rfl ?_)⟩;clear f3;generalize row f=Rf at *;generalize row y=Ry at *;generalize row x=Rx at *;generalize row m=Rm at *;simp -implicitDefEqProofs [Z1g,Z1g_B,e]
def wk (O:ap):Prop:=∀(p:Int) [IsP p] (m x:Fp p),m≠0→m.len≤64→x.len≤64→∃f:Fp p,MinR (av m (x%m)) f∧f.len≤m.len∧ask O Fz [(D.int .i64 p),(D.sl .leaf (af .i64 (row x))),(D.sl .leaf (af .i64 (row m)))]=some (D.sl .leaf (af .i64 (row f)))
theorem a9b (hT:T Fz=some Zz) (hr:xd (den T A)) (H:De (den T A)):wk (den T A):=by
 intro p ip m x hm hml hx;have e1:=hr p x m hm (by omega) (by omega)
 obtain ⟨f,y,f1,f2,e⟩:=H p m (x%m) hm hml (Pol.len_mod x hm);refine ⟨f,f1,f2,c9 hT rfl ?_⟩;rcases e with e | ⟨rfl,e⟩
 ·generalize row f=Rf at *
  generalize row y=Ry at *;generalize row (x%m)=Rm2 at *;generalize row x=Rx at *;generalize row m=Rm at *;simp -implicitDefEqProofs [Zz,Zz_B,e1,e,List.idxOf,List.findIdx,List.findIdx.go]
 ·rw [tf,show af .i64 [1]=[.int .i64 1] from rfl]
  generalize row y=Ry at *;generalize row (x%m)=Rm2 at *;generalize row x=Rx at *;generalize row m=Rm at *;simp -implicitDefEqProofs [Zz,Zz_B,e1,e,List.idxOf,List.findIdx,List.findIdx.go]
def Qx (O:ap):Prop:=∀(p:Int) [IsP p] (a b:Fp p),a≠0→b≠0→a.len≤1000→b.len≤1000→ask O F19 [(D.int .i64 p),(D.sl .leaf (af .i64 (row a))),(D.sl .leaf (af .i64 (row b)))]=some (D.sl .leaf (af .i64 (row (a*b/Pol.gcd a b))))
theorem agy (hT:T F19=some Z19) (ht:um (den T A)) (hg:Qu (den T A)) (hd:qq (den T A)):Qx (den T A):=by
 intro p ip a b ha hb hal hbl;have e1:=ht p a b (by omega) (by omega)
 have e2:=hg p a b (.inl ha) (by omega) (by omega)
 have hg0:Pol.gcd a b≠0:=(Pol.gcd_monic (.inl ha)).2;have hgl:=(Pol.gcd_dv_left (a:=a) (b:=b) (.inl ha)).len ha;have l1:=Or (a:=a) (b:=b) (x:=1000) (y:=1000) hal hbl;have e3:=hd p (a*b) (Pol.gcd a b) hg0 (by omega) (by omega)
 refine c9 hT rfl ?_;generalize row (a*b/Pol.gcd a b)=R1 at *;generalize row (a*b%Pol.gcd a b)=R2 at *;generalize row (a*b)=R3 at *;generalize row (Pol.gcd a b)=R4 at *;generalize row a=Ra at *;generalize row b=Rb at *;simp -implicitDefEqProofs [Z19,Z19_B,e1,e2,e3]
end Pe
namespace Pe
open Go Gq
section
variable {K L S:Type} [CR K] [CR L] [CR S]
theorem Hom.comp {f:K→L} {g:L→S} (hf:Hom f) (hg:Hom g):Hom fun x=>g (f x):=
 ⟨fun x y=>by rw [hf.add,hg.add],fun x y=>by rw [hf.mul,hg.mul],by rw [hf.one,hg.one]⟩
end
section
variable {p:Int} [IsP p] {q:Fp p}
theorem frob_hom:Hom fun x:Quo q=>pw x p.toNat:=⟨vk,fun x y=>qx x y _,Ap _⟩
theorem Hom.sub {K S:Type} [CR K] [CR S] {f:K→S} (h:Hom f) (x y:K):f (x-y)=f x-f y:=by
 have e:f (x-y)+f y=f x:=by rw [←h.add]; congr 1; exact bj [x,y] rfl
 rw [←e];exact bj [f (x-y),f y] rfl
end
section
variable {p:Int} {q:Fp p}
end
section
variable {p:Int} [IsP p] {q:Fp p}
end
section
variable {p:Int} {q:Fp p}
end
section
variable {p:Int} [IsP p] {q:Fp p}
end
section
variable {p:Int} {q:Fp p}
end
section
variable {p:Int} [IsP p] {q:Fp p}
end
section
variable {p:Int} {q:Fp p}
end
section
variable {p:Int} [IsP p] {q:Fp p}
end
end Pe
namespace Pe
open Go Gq
variable {T:Nat→Option Fn} {A:ap}
section
variable {p:Int} [IsP p]
theorem a4b {O:ap} (hco:fl O) (hst:L0 O) {m a x:Fp p} (hm:m≠0) (hml:m.len≤64) (ha:a.len≤64) (hx:x.len<m.len):∀(r j:Nat),j+r=a.len →
 dn O 0 (.loop Zy_L0) ⟨[(0,(.d (.int .i64 p))),(2,(.d (.sl .leaf (af .i64 (row (stI m j x)))))),(3,(.d (.sl .leaf (af .i64 (row m))))),(9,(.d (.sl .leaf (af .i64 (row (dz (fun i=>Pol.C (a.c i)*stI m i x) j)))))),(16,(.d (.sl .leaf (af .i64 (row a))))),(17,(.d (.int .i64 a.len))),(18,(.d (.int .i64 j)))],[]⟩ =
  some (.exit 0,⟨[(0,(.d (.int .i64 p))),(2,(.d (.sl .leaf (af .i64 (row (stI m a.len x)))))),(3,(.d (.sl .leaf (af .i64 (row m))))),(9,(.d (.sl .leaf (af .i64 (row (dz (fun i=>Pol.C (a.c i)*stI m i x) a.len)))))),(16,(.d (.sl .leaf (af .i64 (row a))))),(17,(.d (.int .i64 a.len))),(18,(.d (.int .i64 a.len))),(19,(.d (.bool false)))],[]⟩)
 | 0,j,hj=>by
  obtain rfl:j=a.len:=by omega
  refine cm ?_;generalize row (dz (fun i=>Pol.C (a.c i)*stI m i x) a.len)=R1 at *
  generalize row (stI m a.len x)=R2 at *;generalize row a=Ra at *;generalize row m=Rm at *;generalize a.len=n at *;simp -implicitDefEqProofs [Zy_L0,aw]
 | r+1,j,hj=>by
  have hlt:j<a.len:=by omega
  have hjl:(j:Int)<a.len:=by omega
  have hs:=yw hm hx j
  have aax:∀n,(dz (fun i=>Pol.C (a.c i)*stI m i x) n).len≤64:=fun n=>by
   induction n with
   | zero=>show (0:Fp p).len≤_; rw [Pol.len_zero]; omega
   | succ n ih=>exact Pol.len_add_le ih (du (jg _ _) (by have:=yw hm hx n; omega))
  have hs1:=aax j;have hri:=gr (a.c j);have hpl:=IsP.le (p:=p);have e1:=hco p (rep (a.c j)) (dz (fun i=>Pol.C (a.c i)*stI m i x) j) (stI m j x) (by omega) (by omega) (by omega) (by omega)
  rw [jq,show dz (fun i=>Pol.C (a.c i)*stI m i x) j+Pol.C (a.c j)*stI m j x=dz (fun i=>Pol.C (a.c i)*stI m i x) (j+1) from rfl] at e1
  have e2:=hst p m (stI m j x) hm hml (by omega)
  rw [show stp m (stI m j x)=stI m (j+1) x from rfl] at e2
  have hget:∀h:j<(row a).length,(row a)[j]'h=rep (a.c j):=fun h=>by
   simp [row]
  have hRl:=bi a;have w4:IntKind.i64.wrap ((j:Int)+1)=((j+1:Nat):Int):=(w64 (x:=(j:Int)+1) (by omega)).trans (by omega)
  refine cg ?_ (a4b hco hst hm hml ha hx r (j+1) (by omega))
  generalize row (dz (fun i=>Pol.C (a.c i)*stI m i x) (j+1))=R1 at *
  generalize row (dz (fun i=>Pol.C (a.c i)*stI m i x) j)=R0 at *
  generalize row (stI m (j+1) x)=R3 at *;generalize row (stI m j x)=R2 at *;generalize rep (a.c j)=cc at *;generalize row a=Ra at *;generalize row m=Rm at *;generalize a.len=n at *;generalize ((j+1:Nat):Int)=J1 at *;simp -implicitDefEqProofs [Zy_L0,aw,hjl,hlt,hRl,hget,e1,e2,w4]
end
def G3 (O:ap):Prop:=∀(p:Int) [IsP p] (a x m:Fp p),m≠0→m.len≤64→a.len≤64→x.len≤64→ask O Fy [(D.int .i64 p),(D.sl .leaf (af .i64 (row a))),(D.sl .leaf (af .i64 (row x))),(D.sl .leaf (af .i64 (row m)))]=some (D.sl .leaf (af .i64 (row (av m (x%m) a))))
theorem abj (hT:T Fy=some Zy) (hco:fl (den T A)) (hst:L0 (den T A)) (hr:xd (den T A)):G3 (den T A):=by
 intro p ip a x m hm hml ha hx;have e1:=hr p x m hm (by omega) (by omega)
 have e2:=a4b hco hst hm hml ha (Pol.len_mod x hm) a.len 0 (by omega)
 rw [show dz (fun i=>Pol.C (a.c i)*stI m i (x%m)) a.len=av m (x%m) a from rfl,show dz (fun i=>Pol.C (a.c i)*stI m i (x%m)) 0=0 from rfl,dt,show af .i64 []=[] from rfl,show stI m 0 (x%m)=x%m from rfl] at e2
 have hRl:=bi a;refine c9 hT rfl ?_;generalize row (stI m a.len (x%m))=R2 at *;generalize row (av m (x%m) a)=R1 at *;generalize row (x%m)=R3 at *;generalize row x=Rx at *;generalize row a=Ra at *;generalize row m=Rm at *;generalize a.len=n at *;simp -implicitDefEqProofs at e2;simp -implicitDefEqProofs [Zy,Zy_B,hRl,e1,e2]
theorem Dn {p:Int} [IsP p] {m:Fp p} (hm:Monic m) (h2:2≤m.len) (h6:m.len≤6) (ls:List (Fp p)):lh p (pad (row m)) (ls.map fun a=>pad (row a))=0:=by
 rw [Bx (by omega) (by
  have:=yz (ls++[m])
  rwa [di] at this),if_pos ⟨hm,h2,h6⟩]
def P7 (O:ap):Prop:=∀(p:Int) [IsP p] (a x m:Fp p),Monic m→2≤m.len→m.len≤6→a.len≤64→x.len≤64→ask O F6 [(D.int .i64 p),(D.arr 64 .leaf (af .u8 (pad (row a)))),(D.arr 64 .leaf (af .u8 (pad (row x)))),(D.arr 64 .leaf (af .u8 (pad (row m))))]=some (.tup [(D.arr 64 .leaf (af .u8 (pad (row (av m (x%m) a))))),(D.int .i64 0)])
theorem a7r (hT:T F6=some Z6) (hmc:xu (den T A)) (hro:od (den T A)) (hac:G3 (den T A)) (hto:zj (den T A)):P7 (den T A):=by
 intro p ip a x m hm h2 h6 ha hx
 have e1:=hmc p (pad (row m)) [pad (row a),pad (row x)] (mi m) (c8 _) (fun l hl=>by
  simp at hl;rcases hl with rfl | rfl
  ·exact ⟨c8 _,mi a⟩
  ·exact ⟨c8 _,mi x⟩) (by simp) (by simp)
 rw [show lh p (pad (row m)) [pad (row a),pad (row x)]=0 from Dn hm h2 h6 [a,x],show [pad (row a),pad (row x)].map p7=[(D.arr 64 .leaf (af .u8 (pad (row a)))),(D.arr 64 .leaf (af .u8 (pad (row x))))] from rfl] at e1;have e2:=hro p a ha;have e3:=hro p x hx;have e4:=hro p m (by omega)
 have e5:=hac p a x m hm.2 (by omega) ha hx
 have hl:=ub hm.2 (Pol.len_mod x hm.2) a;have e6:=hto (row (av m (x%m) a)) (sq _) (by rw [bi]; omega)
 unfold H5 at e6;rw [if_pos (by rw [bi]; omega)] at e6
 refine c9 hT rfl ?_;generalize pad (row (av m (x%m) a))=Pr at *;generalize row (av m (x%m) a)=Rr at *;generalize pad (row a)=Pa at *;generalize row a=Ra at *;generalize pad (row x)=Px at *;generalize row x=Rx at *;generalize pad (row m)=Pm at *;generalize row m=Rm at *;simp -implicitDefEqProofs at e1;simp -implicitDefEqProofs [Z6,Z6_B,aw,e1,e2,e3,e4,e5,e6,List.replicate]
section
variable {p:Int} [IsP p] {m:Fp p}
theorem Ho (hm:Monic m) (h2:2≤m.len):Monic (m-1)∧(m-1).len=m.len:=by
 have hc:∀i,1≤i→(m-1).c i=m.c i:=fun i hi=>by
  rw [Pol.c_sub,show (1:Fp p).c i=0 from jt (by rw [Pol.len_one]; omega)]
  exact bj [m.c i] rfl
 have h1:(m-1).len≤m.len:=Pol.len_le fun i hi=>by rw [hc i (by omega)]; exact jt hi
 have hone:m.c (m.len-1)=1:=hm.1
 have h3:¬ (m-1).len≤m.len-1:=fun h=>by
  have:=jt (n:=m.len-1) h;rw [hc _ (by omega),hone] at this
  exact Fd.one_ne this
 have h4:(m-1).len=m.len:=by omega
 refine ⟨⟨?_,fun h=>by rw [h,Pol.len_zero] at h4; omega⟩,h4⟩
 show (m-1).c ((m-1).len-1)=1;rw [h4,hc _ (by omega),hone]
end
section
variable {p:Int} {m:Fp p}
end
section
variable {p:Int} [IsP p] {m:Fp p}
end
end Pe
namespace Pe
open Go Gq
section
variable {p:Int} [IsP p]
end
section
variable {p:Int}
theorem a16 (a:Fp p):∀(s t:Nat),(pw (Pol.X:Fp p) s*a).c t=if t<s then 0 else a.c (t-s)
 | 0,t=>by rw [show pw (Pol.X:Fp p) 0=1 from rfl,Gq.one_mul,if_neg (by omega)]; rfl
 | s+1,t=>by
  have e:pw (Pol.X:Fp p) (s+1)*a=Pol.X*(pw Pol.X s*a):=by
   show pw (Pol.X:Fp p) s*Pol.X*a=_;exact bj [pw (Pol.X:Fp p) s,Pol.X,a] rfl
  rw [e,Pol.c_Xmul]
  by_cases h:t=0
  ·rw [if_pos h,if_pos (by omega)]
  ·rw [if_neg h,a16 a s (t-1)]
   by_cases h2:t<s+1
   ·rw [if_pos (by omega),if_pos h2]
   ·rw [if_neg (by omega),if_neg h2,show t-1-s=t-(s+1) by omega]
end
section
variable {p:Int} [IsP p]
noncomputable def jS (n:Nat):Nat→List (Fp p)→Fp p
 | _,[]=>0
 | s,y::ys=>pw Pol.X s*y+jS n (s+n) ys
end
section
variable {p:Int}
theorem a2j (n:Nat):∀(ys:List (Fp p)) (s t:Nat),t<s→(jS n s ys).c t=0
 | [],_,_,_=>rfl
 | y::ys,s,t,h=>by rw [jS,Pol.c_add,a16,if_pos h,a2j n ys (s+n) t (by omega),Gq.add_zero]
end
section
variable {p:Int} [IsP p]
end
section
variable {p:Int}
theorem a8c {n:Nat} (y:Fp p) (ys:List (Fp p)) (s t:Nat) (h:t<n):(jS n s (y::ys)).c (s+t)=y.c t:=by
 rw [jS,Pol.c_add,a16,if_neg (by omega),a2j n ys (s+n) _ (by omega),Gq.add_zero,Nat.add_sub_cancel_left]
end
section
variable {p:Int} [IsP p]
theorem Iy {n:Nat}:∀(ys:List (Fp p)) (s:Nat),(∀y∈ys,y.len≤n)→(jS n s ys).len≤s+n*ys.length
 | [],_,_=>by rw [jS,Pol.len_zero]; omega
 | y::ys,s,h=>by
  have h1:=Iy ys (s+n) fun z hz=>h z (by simp [hz])
  have h2:=h y (by simp)
  rw [c7,Nat.mul_succ];exact Pol.len_add_le (Pol.len_le fun t ht=>by rw [a16,if_neg (by omega)]; exact jt (by omega)) (by omega)
end
section
variable {p:Int}
theorem Xi {n:Nat}:∀(ys:List (Fp p)) (s:Nat),(∀y∈ys,y=0)→jS n s ys=0
 | [],_,_=>rfl
 | y::ys,s,h=>by rw [jS,h y (by simp),Xi ys _ fun z hz=>h z (by simp [hz]),Gq.mul_zero,Gq.add_zero]
end
section
variable {p:Int} [IsP p]
noncomputable def jv (m:Fp p) (xs:List (Fp p)) (f:Fp p):Fp p:=jS (m.len-1) 0 (xs.map fun x=>av m x f)
theorem A9 (m:Fp p) (xs:List (Fp p)):Lin (jv m xs) where
 add f g:=by
  have:∀(xs:List (Fp p)) (s:Nat),jS (m.len-1) s (xs.map fun x=>av m x (f+g))=jS (m.len-1) s (xs.map fun x=>av m x f)+jS (m.len-1) s (xs.map fun x=>av m x g):=fun xs=>by
   induction xs with
   | nil=>exact fun s=>(Gq.add_zero _).symm
   | cons x xs ih=>
    intro s;rw [db,db,db,jS,jS,jS,ih,(o4 m x).add];exact bj [pw (Pol.X:Fp p) s,av m x f,av m x g,jS (m.len-1) (s+(m.len-1)) (xs.map fun x=>av m x f),jS (m.len-1) (s+(m.len-1)) (xs.map fun x=>av m x g)] rfl
  exact this xs 0
 mul k f:=by
  have:∀(xs:List (Fp p)) (s:Nat),jS (m.len-1) s (xs.map fun x=>av m x (Pol.C k*f))=Pol.C k*jS (m.len-1) s (xs.map fun x=>av m x f):=fun xs=>by
   induction xs with
   | nil=>exact fun s=>(Gq.mul_zero _).symm
   | cons x xs ih=>
    intro s;rw [db,db,jS,jS,ih,(o4 m x).mul];exact bj [pw (Pol.X:Fp p) s,av m x f,Pol.C k,jS (m.len-1) (s+(m.len-1)) (xs.map fun x=>av m x f)] rfl
  exact this xs 0
theorem ag4 (m:Fp p) (xs:List (Fp p)) (k:Nat):jv m xs (pw Pol.X k)=jS (m.len-1) 0 (xs.map (stI m k)):=by
 unfold jv
 congr 1
 exact List.map_congr_left fun x _=>a4d m k x
noncomputable def rlM:List (Fp p)→List (Fp p)→Fp p→Fp p→Fp p×Fp p
 | b::ks,t::ts,v,o=>rlM ks ts (v+Pol.C (-v.c (b.len-1))*b) (o+Pol.C (-v.c (b.len-1))*t)
 | _,_,v,o=>(v,o)
structure RelJ (ev:Fp p→Fp p) (d k:Nat) (ks ts:List (Fp p)):Prop where
 src:ks=ts.map ev
 tri:ks.Pairwise fun a b=>b.c (a.len-1)=0
 mon:∀b∈ks,Monic b∧b.len≤d
 tl:∀t∈ts,t.len≤k
 sp:∀h:Fp p,h.len≤k→Spn ks (ev h)
 ind:∀h:Fp p,h.len≤k→ev h=0→h=0
 cnt:ks.length=k
theorem RelJ.nil {ev:Fp p→Fp p} (hl:Lin ev) (d:Nat):RelJ ev d 0 [] [] where
 src:=rfl
 tri:=.nil
 mon:=fun b hb=>(List.not_mem_nil hb).elim
 tl:=fun b hb=>(List.not_mem_nil hb).elim
 sp:=fun h hh=>by rw [Pol.len_zero_iff.1 (Nat.le_zero.1 hh),hl.zero]; exact .zero
 ind:=fun h hh _=>Pol.len_zero_iff.1 (by omega)
 cnt:=rfl
theorem a4f {ev:Fp p→Fp p} (hl:Lin ev) {d k:Nat}:∀(ts:List (Fp p)) (v o:Fp p),((ts.map ev).Pairwise fun a b=>b.c (a.len-1)=0)→(∀b∈ts.map ev,Monic b∧b.len≤d)→(∀t∈ts,t.len≤k)→v.len≤d→o.len≤k+1→o.c k=1→ev o=v →
 (rlM (ts.map ev) ts v o).1.len≤d∧(rlM (ts.map ev) ts v o).2.len≤k+1∧(rlM (ts.map ev) ts v o).2.c k=1∧ev (rlM (ts.map ev) ts v o).2=(rlM (ts.map ev) ts v o).1∧(∀b∈ts.map ev,(rlM (ts.map ev) ts v o).1.c (b.len-1)=0)∧(∀i,(∀b∈ts.map ev,b.c i=0)→(rlM (ts.map ev) ts v o).1.c i=v.c i)
 | [],v,o,_,_,_,h1,h2,h3,h4=>⟨h1,h2,h3,h4,fun b hb=>(List.not_mem_nil hb).elim,fun _ _=>rfl⟩
 | t::ts,v,o,hd,hn,ht,h1,h2,h3,h4=>by
  rw [db] at hd hn ⊢;obtain ⟨d1,d2⟩:=dh.1 hd;obtain ⟨n1,n2⟩:=hn (ev t) (by simp)
  have tk:=ht t (by simp)
  have hz:(v+Pol.C (-v.c ((ev t).len-1))*ev t).c ((ev t).len-1)=0:=by
   rw [Pol.c_add,Pol.c_Cmul,show (ev t).c ((ev t).len-1)=1 from n1.1];exact bj [v.c ((ev t).len-1)] rfl
  obtain ⟨i1,i2,i3,i4,i5,i6⟩:=a4f hl ts (v+Pol.C (-v.c ((ev t).len-1))*ev t) (o+Pol.C (-v.c ((ev t).len-1))*t) d2 (fun b hb=>hn b (by simp [hb])) (fun s hs=>ht s (by simp [hs]))
   (Pol.len_add_le h1 (du (jg _ _) n2)) (Pol.len_add_le h2 (du (jg _ _) (by omega)))
   (by rw [Pol.c_add,Pol.c_Cmul,jt tk,Gq.mul_zero,Gq.add_zero]; exact h3) (by rw [hl.add,hl.mul,h4])
  rw [rlM];refine ⟨i1,i2,i3,i4,fun b hb=>?_,fun i hi=>?_⟩
  ·rcases cn.1 hb with rfl | hb
   ·exact (i6 _ d1).trans hz
   ·exact i5 b hb
  ·refine (i6 i fun c hc=>hi c (by simp [hc])).trans ?_
   rw [Pol.c_add,Pol.c_Cmul,hi (ev t) (by simp),Gq.mul_zero,Gq.add_zero]
theorem Mh:∀{ks:List (Fp p)} {y:Fp p},ks.Pairwise (fun a b=>b.c (a.len-1)=0)→(∀b∈ks,Monic b)→Spn ks y→(∀b∈ks,y.c (b.len-1)=0)→y=0
 | [],y,_,_,hs,_=>by
  refine Spn.inside (S:=fun y=>y=0) rfl (fun k a b ha hb=>by rw [ha,hb,Gq.mul_zero,Gq.add_zero]) (fun a ha=>by cases ha) hs
 | b::ks,y,hd,hn,hs,hz=>by
  obtain ⟨d1,d2⟩:=dh.1 hd;have hb0:=hn b (by simp)
  obtain ⟨k,z,hz1,rfl⟩:∃(k:Zp p) (z:Fp p),Spn ks z∧y=Pol.C k*b+z:=by
   refine Spn.inside (S:=fun y=>∃(k:Zp p) (z:Fp p),Spn ks z∧y=Pol.C k*b+z) ⟨0,0,.zero,by rw [Pol.C_zero,Gq.zero_mul,Gq.zero_add]⟩ ?_ ?_ hs
   ·rintro k _ _ ⟨k1,z1,s1,rfl⟩ ⟨k2,z2,s2,rfl⟩
    refine ⟨k*k1+k2,Pol.C k*z1+z2,(s1.smul k).add s2,?_⟩;rw [Pol.C_add,Pol.C_mul];exact bj [Pol.C k,Pol.C k1,Pol.C k2,b,z1,z2] rfl
   ·intro a ha
    rcases cn.1 ha with rfl | ha
    ·exact ⟨1,0,.zero,by rw [show Pol.C (1:Zp p)=1 from rfl,Gq.one_mul,Gq.add_zero]⟩
    ·exact ⟨0,a,.mem ha,by rw [Pol.C_zero,Gq.zero_mul,Gq.zero_add]⟩
  have hzl:z.c (b.len-1)=0:=by
   refine Spn.inside (S:=fun y=>y.c (b.len-1)=0) rfl (fun k x w hx hw=>by rw [Pol.c_add,Pol.c_Cmul,hx,hw,Gq.mul_zero,Gq.add_zero]) (fun a ha=>d1 a ha) hz1
  have hk:k=0:=by
   have e:=hz b (by simp)
   rw [Pol.c_add,Pol.c_Cmul,hzl,Gq.add_zero,show b.c (b.len-1)=1 from hb0.1,Gq.mul_one] at e;exact e
  subst hk;rw [Pol.C_zero,Gq.zero_mul,Gq.zero_add] at hz ⊢;exact Mh d2 (fun c hc=>hn c (by simp [hc])) hz1 fun c hc=>hz c (by simp [hc])
theorem RelJ.found {ev:Fp p→Fp p} {d k:Nat} {ks ts:List (Fp p)} (h:RelJ ev d k ks ts) {o:Fp p} (h1:o.len≤k+1) (h2:o.c k=1) (h3:ev o=0):MinR ev o∧o.len=k+1:=by
 have hne:o.c k≠0:=by rw [h2]; exact Fd.one_ne
 have hlen:o.len=k+1:=by
  have:¬ o.len≤k:=fun g=>hne (jt g)
  omega
 have hon:o≠0:=fun g=>hne (by rw [g]; rfl)
 exact ⟨⟨⟨by unfold Pol.ld; rw [hlen,Nat.add_sub_cancel]; exact h2,hon⟩,h3,fun g hg hz=>h.ind g (by omega) hz⟩,hlen⟩
theorem RelJ.next {ev:Fp p→Fp p} (hl:Lin ev) {d k:Nat} {ks ts:List (Fp p)} (h:RelJ ev d k ks ts) {v o:Fp p} (h1:o.len≤k+1) (h2:o.c k=1) (h3:ev o=v) (hv:v≠0) (hvl:v.len≤d) (hz:∀b∈ks,v.c (b.len-1)=0) :
 RelJ ev d (k+1) (ks++[Pol.C (Fd.inv v.ld)*v]) (ts++[Pol.C (Fd.inv v.ld)*o]):=by
 have hld:=Pol.ld_ne hv
 have hi0:Fd.inv v.ld≠0:=fun e=>by
  have:=Fd.mul_inv v.ld hld;rw [e,Gq.mul_zero] at this;exact Fd.one_ne this.symm
 have back:∀y:Fp p,y=Pol.C v.ld*(Pol.C (Fd.inv v.ld)*y):=fun y=>by
  rw [←Gq.mul_assoc,←Pol.C_mul,Fd.mul_inv _ hld,show Pol.C (1:Zp p)=1 from rfl,Gq.one_mul]
 have hwl:(Pol.C (Fd.inv v.ld)*v).len=v.len:=by
  have a1:=jg (Fd.inv v.ld) v;have a2:=jg v.ld (Pol.C (Fd.inv v.ld)*v);rw [←back] at a2;omega
 have hwm:Monic (Pol.C (Fd.inv v.ld)*v):=by
  refine ⟨?_,fun e=>hv ?_⟩
  ·show (Pol.C (Fd.inv v.ld)*v).c ((Pol.C (Fd.inv v.ld)*v).len-1)=1
   rw [hwl,Pol.c_Cmul,Gq.mul_comm];exact Fd.mul_inv _ hld
  ·rw [back v,e,Gq.mul_zero]
 have hsp:∀g:Fp p,g.len≤k+1→∃(c:Zp p) (g':Fp p),g'.len≤k∧g=Pol.C c*o+g':=fun g hg=>by
  refine ⟨g.c k,g-Pol.C (g.c k)*o,Pol.len_le fun i hi=>?_,?_⟩
  ·rw [Pol.c_sub,Pol.c_Cmul]
   by_cases hik:i=k
   ·rw [hik,h2,Gq.mul_one]; exact Gq.sub_self _
   ·rw [jt (show g.len≤i by omega),jt (show o.len≤i by omega),Gq.mul_zero]; exact Gq.sub_self _
  ·exact bj [g,Pol.C (g.c k),o] rfl
 have sup:∀{y},Spn ks y→Spn (ks++[Pol.C (Fd.inv v.ld)*v]) y:=fun hy=>Spn.sup (fun a ha=>.mem (c6 _ ha)) hy
 refine ⟨?_,?_,fun b hb=>?_,fun t ht=>?_,fun g hg=>?_,fun g hg h0=>?_,?_⟩
 ·rw [di,←h.src,db,fc,hl.mul,h3]
 ·rw [fo]
  refine ⟨h.tri,f9 _ _,fun a ha b hb=>?_⟩
  rw [bf.1 hb,Pol.c_Cmul,hz a ha,Gq.mul_zero]
 ·rcases bn.1 hb with hb | hb
  ·exact h.mon b hb
  ·rw [bf.1 hb]
   exact ⟨hwm,by omega⟩
 ·rcases bn.1 ht with ht | ht
  ·have:=h.tl t ht; omega
  ·rw [bf.1 ht]
   exact du (jg _ _) h1
 ·obtain ⟨c,g',hg',rfl⟩:=hsp g hg
  have hw:Spn (ks++[Pol.C (Fd.inv v.ld)*v]) v:=by
   have:=(Spn.mem (L:=ks++[Pol.C (Fd.inv v.ld)*v]) (fh _ (bf.2 rfl))).smul v.ld
   rwa [←back] at this
  rw [hl.add,hl.mul,h3];exact (hw.smul c).add (sup (h.sp g' hg'))
 ·obtain ⟨c,g',hg',rfl⟩:=hsp g hg
  rw [hl.add,hl.mul,h3] at h0
  have hc:c=0:=by
   refine dj fun hc=>hv ?_
   have e:v=Pol.C (Fd.inv c) * -ev g':=by
    have e1:-ev g'=Pol.C c*v:=by
     have:-ev g'=Pol.C c*v-(Pol.C c*v+ev g'):=bj [ev g',Pol.C c*v] rfl;rw [this,h0];exact bj [Pol.C c*v] rfl
    rw [e1,←Gq.mul_assoc,←Pol.C_mul,Gq.mul_comm (Fd.inv c),Fd.mul_inv _ hc,show Pol.C (1:Zp p)=1 from rfl,Gq.one_mul]
   refine Mh h.tri (fun b hb=>(h.mon b hb).1) ?_ hz
   rw [e];exact (h.sp g' hg').neg.smul _
  subst hc;rw [Pol.C_zero,Gq.zero_mul,Gq.zero_add] at h0 ⊢;exact h.ind g' hg' h0
 ·rw [bu,h.cnt]; rfl
end
end Pe
namespace Pe
open Go Gq
variable {T:Nat→Option Fn} {A:ap}
section
variable {p:Int} [IsP p]
end
def uj (O:ap):Prop:=∀(p:Int) [IsP p] (m x:Fp p),m≠0→m.len≤64→x.len<m.len→ask O F4b [(D.int .i64 p),(D.arr 64 .leaf (af .u8 (pad (row x)))),(D.arr 64 .leaf (af .u8 (pad (row m))))]=some (D.arr 64 .leaf (af .u8 (pad (row (stp m x)))))
theorem a9c (hT:T F4b=some Z4b) (ht:a17 (den T A)) (hmo:xb (den T A)) (hmm:xj (den T A)) (hpw:xz (den T A)) (had:mf (den T A)):uj (den T A):=by
 intro p ip m x hm hml hx;have hp:=IsP.le (p:=p);have hp1:=IsP.pos (p:=p)
 have hX:(Pol.X:Fp p).len≤2:=by
  have:=jp (p:=p) 1;rw [zt] at this;omega
 have l1:=Pol.len_mod (Pol.X:Fp p) hm;have l2:=Pol.len_mod (Pol.X%m*x) hm;have l3:=Pol.len_mod (pw x p.toNat) hm;have e1:=ht p;have e2:=hmo p Pol.X m hm (by omega) hml
 have e3:=hmm p (Pol.X%m) x m hm hml (by omega) (by omega)
 have e4:=hpw p x p m hm (by omega) hml (by omega) (by omega)
 have e5:=had p 1 (Pol.X%m*x%m) (pw x p.toNat%m) (by omega) (by omega) (by omega) (by omega)
 have e:Pol.X%m*x%m+Pol.C (zp p 1)*(pw x p.toNat%m)=stp m x:=by
  rw [Ci,Pol.C_one,Gq.one_mul];refine Q3 hm (Nat.lt_of_le_of_lt (Pol.len_add_le (n:=m.len-1) (by omega) (by omega)) (by omega)) (yx hm x) ?_
  rw [D3 hm,Quo.mk_add,Ek hm,Ek hm,Quo.mk_mul,Ek hm,Quo.mk_pow]
 rw [e] at e5;refine c9 hT rfl ?_;generalize pad (row (stp m x))=R5 at *;generalize pad (row (pw x p.toNat%m))=R4 at *;generalize pad (row (Pol.X%m*x%m))=R3 at *;generalize pad (row (Pol.X%m))=R2 at *;generalize pad (row (Pol.X:Fp p))=R1 at *;generalize pad (row x)=Rx at *;generalize pad (row m)=Rm at *;simp -implicitDefEqProofs [Z4b,Z4b_B,e1,e2,e3,e4,e5,List.replicate]
section
variable {p:Int} [IsP p]
end
section
variable {p:Int}
theorem Bv {Q R:Fp p} (hQ:Q.len≤64) (_hR:R.len≤64) {i:Nat} (hi:i<64) (h:∀t,t≠i→R.c t=Q.c t):(pad (row Q)).set i (rep (R.c i))=pad (row R):=by
 refine (Jh (by rw [cx,c8]) fun t ht=>?_).symm
 rw [t8,c8,ft]
 by_cases hti:t=i
 ·rw [if_pos ⟨hti,hi⟩,hti]
 ·rw [if_neg (fun g=>hti g.1),p9 hQ,h t hti]
end
section
variable {p:Int} [IsP p]
def lw (Q:Fp p) (s:Nat) (a:Fp p) (j:Nat):Fp p:=⟨fun t=>if t<s then Q.c t else if t<s+j then a.c (t-s) else 0,s+j,fun t ht=>by rw [if_neg (by omega),if_neg (by omega)]⟩
end
section
variable {p:Int}
theorem a0o (Q:Fp p) (s:Nat) (a:Fp p) (j t:Nat):(lw Q s a j).c t=if t<s then Q.c t else if t<s+j then a.c (t-s) else 0:=rfl
end
section
variable {p:Int} [IsP p]
end
section
variable {p:Int}
theorem a6d (Q:Fp p) (s:Nat) (a:Fp p) (j:Nat):(lw Q s a j).len≤s+j:=Pol.len_le fun t ht=>by rw [a0o,if_neg (by omega),if_neg (by omega)]
end
section
variable {p:Int} [IsP p]
end
section
variable {p:Int}
theorem a8a {Q:Fp p} {s:Nat} (h:Q.len≤s) (a:Fp p):lw Q s a 0=Q:=Pol.ext fun t=>by
 rw [a0o]
 by_cases h1:t<s
 ·rw [if_pos h1]
 ·rw [if_neg h1,if_neg (by omega),jt (by omega)]
end
section
variable {p:Int} [IsP p]
end
section
variable {p:Int}
theorem a7x {Q:Fp p} {s:Nat} (h:Q.len≤s) {a:Fp p} {n:Nat} (ha:a.len≤n):lw Q s a n=Q+pw Pol.X s*a:=Pol.ext fun t=>by
 rw [a0o,Pol.c_add,a16]
 by_cases h1:t<s
 ·rw [if_pos h1,if_pos h1,Gq.add_zero]
 ·rw [if_neg h1,if_neg h1,jt (show Q.len≤t by omega),Gq.zero_add]
  by_cases h2:t<s+n
  ·rw [if_pos h2]
  ·rw [if_neg h2,jt (by omega)]
end
section
variable {p:Int} [IsP p]
end
section
variable {p:Int}
theorem a9j {O:ap} {m o a Q:Fp p} {n k nr nn i:Nat} {cr cs:Option Nat} {RR SS NN:List D} (hn:NN.length=nn) (hin:i<nn) (hna:∀h:i<NN.length,NN[i]'h=eo a) (hal:a.len≤64) (hs:i*n+n≤64):∀(r j:Nat),j+r=n →
 dn O 0 (.loop Z48_L0) ⟨[(0,(.d (.int .i64 p))),(5,.ptr 0 []),(6,.ptr 1 []),(7,(.d (.int .i64 ((n:Nat))))),(8,.sl 2 [] 0 nr cr),(9,.sl 3 [] 0 nr cs),(10,.sl 4 [] 0 nn none),(11,(.d (.int .i64 ((k:Nat))))),(12,.ptr 6 []),(13,.ptr 7 []),(14,(.d (.int .i64 ((i:Nat))))),(15,(.d (.int .i64 ((j:Nat)))))],[.box false (D.arr 64 .leaf (af .u8 (pad (row m)))),.box false (D.arr 64 .leaf (af .u8 (pad []))),.sl false (.arr 64 .leaf) RR,.sl false (.arr 64 .leaf) SS,.sl false (.arr 64 .leaf) NN,.hole,(.box false (D.arr 64 .leaf (af .u8 (pad (row (lw Q (i*n) a j)))))),(.box false (D.arr 64 .leaf (af .u8 (pad (row o))))),.hole,.hole,.hole,.hole]⟩ =
  some (.exit 4,⟨[(0,(.d (.int .i64 p))),(5,.ptr 0 []),(6,.ptr 1 []),(7,(.d (.int .i64 ((n:Nat))))),(8,.sl 2 [] 0 nr cr),(9,.sl 3 [] 0 nr cs),(10,.sl 4 [] 0 nn none),(11,(.d (.int .i64 ((k:Nat))))),(12,.ptr 6 []),(13,.ptr 7 []),(14,(.d (.int .i64 ((i:Nat))))),(15,(.d (.int .i64 ((n:Nat))))),(40,(.d (.bool false)))],[.box false (D.arr 64 .leaf (af .u8 (pad (row m)))),.box false (D.arr 64 .leaf (af .u8 (pad []))),.sl false (.arr 64 .leaf) RR,.sl false (.arr 64 .leaf) SS,.sl false (.arr 64 .leaf) NN,.hole,(.box false (D.arr 64 .leaf (af .u8 (pad (row (lw Q (i*n) a n)))))),(.box false (D.arr 64 .leaf (af .u8 (pad (row o))))),.hole,.hole,.hole,.hole]⟩)
 | 0,j,hj=>by
  obtain rfl:j=n:=by omega
  refine cm ?_;generalize pad (row (lw Q (i*j) a j))=P1 at *;generalize pad (row m)=P2 at *;generalize pad (row o)=P3 at *;simp -implicitDefEqProofs [Z48_L0,aw]
 | r+1,j,hj=>by
  have hjn:j<n:=by omega
  have hjl:(j:Int)<n:=by omega
  have hj64:j<64:=by omega
  have hx64:i*n+j<64:=by omega
  have h1:=a6d Q (i*n) a j;have h2:=a6d Q (i*n) a (j+1)
  have e:=Bv (Q:=lw Q (i*n) a j) (R:=lw Q (i*n) a (j+1)) (by omega) (by omega) hx64 (fun t ht=>by
   rw [a0o,a0o]
   by_cases g1:t<i*n
   ·rw [if_pos g1,if_pos g1]
   ·rw [if_neg g1,if_neg g1]
    by_cases g2:t<i*n+j
    ·rw [if_pos g2,if_pos (by omega)]
    ·rw [if_neg g2,if_neg (by omega)])
  rw [a0o,if_neg (by omega),if_pos (by omega),Nat.add_sub_cancel_left] at e
  have hget:(pad (row a))[j]? = some (rep (a.c j)):=by rw [ml _ _ hj64,ft]
  have hl1:(pad (row (lw Q (i*n) a j))).length=64:=c8 _;have hl2:(pad (row a)).length=64:=c8 _;have w0:IntKind.i64.wrap ((i:Int)*(n:Int))=((i*n:Nat):Int):=by rw [←zr]; exact w64 (by omega)
  have w1:IntKind.i64.wrap (((i*n:Nat):Int)+(j:Int))=((i*n+j:Nat):Int):=by rw [←Int.natCast_add]; exact w64 (by omega)
  have w4:IntKind.i64.wrap ((j:Int)+1)=((j+1:Nat):Int):=(w64 (x:=(j:Int)+1) (by omega)).trans (by omega)
  refine cg ?_ (a9j hn hin hna hal hs r (j+1) (by omega))
  rw [←e];generalize pad (row (lw Q (i*n) a j))=P1 at *;generalize pad (row m)=P2 at *;generalize pad (row o)=P3 at *;unfold eo at hna;generalize pad (row a)=Pa at *;generalize rep (a.c j)=c at *;generalize ((j+1:Nat):Int)=J1 at *;generalize i*n+j=x at *;generalize ((i*n:Nat):Int)=y at *
  have hga:∀h:j<Pa.length,Pa[j]'h=c:=fun h=>by
   rw [b8 h] at hget;exact au hget
  simp -implicitDefEqProofs [Z48_L0,aw,hjl,hj64,hx64,hn,hin,hna,hga,hl1,hl2,w0,w1,w4]
end
section
variable {p:Int} [IsP p]
theorem a4a {O:ap} (hst:uj O) {m o:Fp p} {ys:List (Fp p)} {n k nr nn:Nat} {cr cs:Option Nat} {RR SS:List D} (hm:m≠0) (hml:m.len≤64) (hnm:n=m.len-1) (hys:∀y∈ys,y.len<m.len) (hn:ys.length=nn) (hsz:nn*n≤64) (hn64:nn≤64):∀(r i:Nat) (Q:Fp p),i+r=nn→Q.len≤i*n →
 dn O 0 (.loop Z48_L1) ⟨[(0,(.d (.int .i64 p))),(5,.ptr 0 []),(6,.ptr 1 []),(7,(.d (.int .i64 ((n:Nat))))),(8,.sl 2 [] 0 nr cr),(9,.sl 3 [] 0 nr cs),(10,.sl 4 [] 0 nn none),(11,(.d (.int .i64 ((k:Nat))))),(12,.ptr 6 []),(13,.ptr 7 []),(14,(.d (.int .i64 ((i:Nat)))))],[.box false (D.arr 64 .leaf (af .u8 (pad (row m)))),.box false (D.arr 64 .leaf (af .u8 (pad []))),.sl false (.arr 64 .leaf) RR,.sl false (.arr 64 .leaf) SS,.sl false (.arr 64 .leaf) (((ys.take i).map (stp m)++ys.drop i).map eo),.hole,(.box false (D.arr 64 .leaf (af .u8 (pad (row Q))))),(.box false (D.arr 64 .leaf (af .u8 (pad (row o))))),.hole,.hole,.hole,.hole]⟩ =
  some (.exit 2,⟨[(0,(.d (.int .i64 p))),(5,.ptr 0 []),(6,.ptr 1 []),(7,(.d (.int .i64 ((n:Nat))))),(8,.sl 2 [] 0 nr cr),(9,.sl 3 [] 0 nr cs),(10,.sl 4 [] 0 nn none),(11,(.d (.int .i64 ((k:Nat))))),(12,.ptr 6 []),(13,.ptr 7 []),(14,(.d (.int .i64 ((nn:Nat))))),(35,(.d (.bool false)))],[.box false (D.arr 64 .leaf (af .u8 (pad (row m)))),.box false (D.arr 64 .leaf (af .u8 (pad []))),.sl false (.arr 64 .leaf) RR,.sl false (.arr 64 .leaf) SS,.sl false (.arr 64 .leaf) (((ys.take nn).map (stp m)++ys.drop nn).map eo),.hole,(.box false (D.arr 64 .leaf (af .u8 (pad (row (Q+jS n (i*n) (ys.drop i))))))),(.box false (D.arr 64 .leaf (af .u8 (pad (row o))))),.hole,.hole,.hole,.hole]⟩)
 | 0,i,Q,hi,hQ=>by
  obtain rfl:i=nn:=by omega
  rw [cz (show ys.length≤i by omega)]
  rw [show jS n (i*n) ([]:List (Fp p))=0 from rfl,Gq.add_zero];refine cm ?_;generalize ((ys.take i).map (stp m)++[]).map eo=N1 at *;generalize pad (row Q)=P1 at *;generalize pad (row m)=P2 at *;generalize pad (row o)=P3 at *;simp -implicitDefEqProofs [Z48_L1,aw]
 | r+1,i,Q,hi,hQ=>by
  have hin:i<nn:=by omega
  have hlt:i<ys.length:=by omega
  have hil:(i:Int)<nn:=by omega
  have hyl:=hys _ (ci hlt)
  have hcl:(((ys.take i).map (stp m)++ys.drop i).map eo).length=nn:=by
   rw [ba,bu,ba,bv,ej]; omega
  have hd:ys.drop i=ys[i]::ys.drop (i+1):=bx hlt
  have hgd:(((ys.take i).map (stp m)++ys.drop i).map eo)[i]? = some (eo ys[i]):=by
   rw [fm,bq (by rw [ba,bv]; omega),ba,bv,Nat.min_eq_left (by omega),io,hd]; rfl
  have hga:∀h:i<(((ys.take i).map (stp m)++ys.drop i).map eo).length,(((ys.take i).map (stp m)++ys.drop i).map eo)[i]'h=eo ys[i]:=fun h=>by
   rw [b8 h] at hgd;exact au hgd
  have hset:(((ys.take i).map (stp m)++ys.drop i).map eo).set i (eo (stp m ys[i]))=(((ys.take (i+1)).map (stp m)++ys.drop (i+1)).map eo):=by
   rw [hd,di,sm _ _ (by rw [ba,ba,bv]; omega),ba,ba,bv,Nat.min_eq_left (by omega),io,db,List.set_cons_zero,gq hlt,di,di,di]
   simp
  have hmul:i*n+n≤nn*n:=by
   have:=je n (show i+1≤nn by omega)
   rwa [fg] at this
  have e1:=a9j (O:=O) (m:=m) (o:=o) (a:=ys[i]) (Q:=Q) (n:=n) (k:=k) (nr:=nr) (nn:=nn) (i:=i) (cr:=cr) (cs:=cs) (RR:=RR) (SS:=SS) (NN:=(((ys.take i).map (stp m)++ys.drop i).map eo)) hcl hin hga (by omega) (by omega) n 0 (by omega)
  rw [a8a hQ,a7x hQ (show ys[i].len≤n by omega)] at e1
  have e2:=hst p m ys[i] hm hml hyl;have w4:IntKind.i64.wrap ((i:Int)+1)=((i+1:Nat):Int):=(w64 (x:=(i:Int)+1) (by omega)).trans (by omega)
  have hj:Q+jS n (i*n) (ys.drop i)=Q+pw Pol.X (i*n)*ys[i]+jS n ((i+1)*n) (ys.drop (i+1)):=by
   rw [hd,jS,fg];exact bj [Q,pw (Pol.X:Fp p) (i*n)*ys[i],jS n (i*n+n) (ys.drop (i+1))] rfl
  rw [hj]
  refine cg ?_ (a4a hst hm hml hnm hys hn hsz hn64 r (i+1) (Q+pw Pol.X (i*n)*ys[i]) (by omega) (by
   rw [fg];exact Pol.len_add_le (by omega) (Pol.len_le fun t ht=>by rw [a16,if_neg (by omega)]; exact jt (by omega))))
  rw [←hset];clear hset hgd hd hj;generalize (((ys.take i).map (stp m)++ys.drop i).map eo)=N1 at *;generalize pad (row (Q+pw Pol.X (i*n)*ys[i]))=P4 at *;unfold eo at hga;unfold eo;generalize pad (row (stp m ys[i]))=P5 at *;generalize pad (row ys[i])=P6 at *;generalize pad (row Q)=P1 at *;generalize pad (row m)=P2 at *;generalize pad (row o)=P3 at *;generalize ((i+1:Nat):Int)=I1 at *;simp -implicitDefEqProofs at e1;simp -implicitDefEqProofs [Z48_L1,aw,hil,hin,hcl,hga,e1,e2,w4]
theorem a3u {O:ap} (hdg:iu O) (had:mf O) {m:Fp p} {ks ts:List (Fp p)} {n k nr nn:Nat} {cr cs:Option Nat} {NN:List D} (hks:ks.length=nr) (hts:ts.length=nr) (hn64:nr≤64) (hb:∀b∈ks,Monic b∧b.len≤64) (ht:∀t∈ts,t.len≤64):∀(r i:Nat) (v o:Fp p),i+r=nr→v.len≤64→o.len≤64 →
 dn O 0 (.loop Z48_L2) ⟨[(0,(.d (.int .i64 p))),(5,.ptr 0 []),(6,.ptr 1 []),(7,(.d (.int .i64 ((n:Nat))))),(8,.sl 2 [] 0 nr cr),(9,.sl 3 [] 0 nr cs),(10,.sl 4 [] 0 nn none),(11,(.d (.int .i64 ((k:Nat))))),(12,.ptr 6 []),(13,.ptr 7 []),(16,(.d (.int .i64 ((i:Nat)))))],[.box false (D.arr 64 .leaf (af .u8 (pad (row m)))),.box false (D.arr 64 .leaf (af .u8 (pad []))),.sl false (.arr 64 .leaf) (ks.map eo),.sl false (.arr 64 .leaf) (ts.map eo),.sl false (.arr 64 .leaf) NN,.hole,(.box false (D.arr 64 .leaf (af .u8 (pad (row v))))),(.box false (D.arr 64 .leaf (af .u8 (pad (row o))))),.hole,.hole,.hole,.hole]⟩ =
  some (.exit 6,⟨[(0,(.d (.int .i64 p))),(5,.ptr 0 []),(6,.ptr 1 []),(7,(.d (.int .i64 ((n:Nat))))),(8,.sl 2 [] 0 nr cr),(9,.sl 3 [] 0 nr cs),(10,.sl 4 [] 0 nn none),(11,(.d (.int .i64 ((k:Nat))))),(12,.ptr 6 []),(13,.ptr 7 []),(16,(.d (.int .i64 ((nr:Nat))))),(70,(.d (.bool false)))],[.box false (D.arr 64 .leaf (af .u8 (pad (row m)))),.box false (D.arr 64 .leaf (af .u8 (pad []))),.sl false (.arr 64 .leaf) (ks.map eo),.sl false (.arr 64 .leaf) (ts.map eo),.sl false (.arr 64 .leaf) NN,.hole,(.box false (D.arr 64 .leaf (af .u8 (pad (row (rlM (ks.drop i) (ts.drop i) v o).1))))),(.box false (D.arr 64 .leaf (af .u8 (pad (row (rlM (ks.drop i) (ts.drop i) v o).2))))),.hole,.hole,.hole,.hole]⟩)
 | 0,i,v,o,hi,hv,ho=>by
  obtain rfl:i=nr:=by omega
  rw [cz (show ks.length≤i by omega),cz (show ts.length≤i by omega)]
  rw [show rlM ([]:List (Fp p)) [] v o=(v,o) from rfl];refine cm ?_;generalize ks.map eo=K at *;generalize ts.map eo=Q at *;generalize pad (row v)=P1 at *;generalize pad (row m)=P2 at *;generalize pad (row o)=P3 at *;simp -implicitDefEqProofs [Z48_L2,aw]
 | r+1,i,v,o,hi,hv,ho=>by
  have h1:i<ks.length:=by omega
  have h2:i<ts.length:=by omega
  have hin:i<nr:=by omega
  have hil:(i:Int)<nr:=by omega
  obtain ⟨b0,bl⟩:=hb _ (ci h1);have tl:=ht _ (ci h2);have bp:=Pol.len_pos b0.2;have e1:=hdg p ks[i] bl;rw [show (ks[i].len:Int)-1=((ks[i].len-1:Nat):Int) by omega] at e1
  have hat:ks[i].len-1<64:=by omega
  have hri:=gr (v.c (ks[i].len-1));have hpl:=IsP.le (p:=p);have hget:(pad (row v))[ks[i].len-1]? = some (rep (v.c (ks[i].len-1))):=by rw [ml _ _ hat,ft]
  have hga:∀h:ks[i].len-1<(pad (row v)).length,(pad (row v))[ks[i].len-1]'h=rep (v.c (ks[i].len-1)):=fun h=>by
   rw [b8 h] at hget;exact au hget
  have hvl:(pad (row v)).length=64:=c8 _;have e2:=had p (-rep (v.c (ks[i].len-1))) v ks[i] (by omega) (by omega) hv bl
  have e3:=had p (-rep (v.c (ks[i].len-1))) o ts[i] (by omega) (by omega) ho tl
  rw [A8,jq] at e2 e3;have w1:IntKind.i64.wrap (rep (v.c (ks[i].len-1)))=rep (v.c (ks[i].len-1)):=w64 (by omega)
  have w2:IntKind.i64.wrap (-rep (v.c (ks[i].len-1)))=-rep (v.c (ks[i].len-1)):=w64 (by omega)
  have w4:IntKind.i64.wrap ((i:Int)+1)=((i+1:Nat):Int):=(w64 (x:=(i:Int)+1) (by omega)).trans (by omega)
  have hx:∀h:i<(ks.map eo).length,(ks.map eo)[i]'h=(D.arr 64 .leaf (af .u8 (pad (row ks[i])))):=fun h=>by rw [f8]
  have hy:∀h:i<(ts.map eo).length,(ts.map eo)[i]'h=(D.arr 64 .leaf (af .u8 (pad (row ts[i])))):=fun h=>by rw [f8]
  have hKl:(ks.map eo).length=nr:=by rw [ba]; exact hks
  have hQl:(ts.map eo).length=nr:=by rw [ba]; exact hts
  have hd:rlM (ks.drop i) (ts.drop i) v o=rlM (ks.drop (i+1)) (ts.drop (i+1)) (v+Pol.C (-v.c (ks[i].len-1))*ks[i]) (o+Pol.C (-v.c (ks[i].len-1))*ts[i]):=by
   rw [bx h1,bx h2]; rfl
  have hzz:rep (v.c (ks[i].len-1))=0→v+Pol.C (-v.c (ks[i].len-1))*ks[i]=v∧o+Pol.C (-v.c (ks[i].len-1))*ts[i]=o:=fun h=>by
   have h0:v.c (ks[i].len-1)=0:=Be (by rw [h,rep_zero])
   rw [h0,show (-0:Zp p)=0 from bj [(0:Zp p)] rfl,Pol.C_zero,Gq.zero_mul,Gq.zero_mul,Gq.add_zero,Gq.add_zero];exact ⟨rfl,rfl⟩
  rw [hd];refine cg ?_ (a3u hdg had hks hts hn64 hb ht r (i+1) (v+Pol.C (-v.c (ks[i].len-1))*ks[i]) (o+Pol.C (-v.c (ks[i].len-1))*ts[i]) (by omega) (Pol.len_add_le hv (du (jg _ _) bl)) (Pol.len_add_le ho (du (jg _ _) tl)))
  by_cases hc:rep (v.c (ks[i].len-1))=0
  ·obtain ⟨z1,z2⟩:=hzz hc
   rw [z1,z2];rw [hc] at hga;clear e2 e3 hget hd z1 z2;generalize ks[i].len-1=dd at *;generalize pad (row ks[i])=Pb at *;generalize pad (row ts[i])=Pt at *;generalize pad (row v)=P1 at *;generalize pad (row m)=P2 at *;generalize pad (row o)=P3 at *;generalize ks.map eo=K at *;generalize ts.map eo=Q at *;simp -implicitDefEqProofs [Z48_L2,aw,hil,hin,hat,hvl,hKl,hx,hga,e1,w4]
  ·clear hget hd hzz
   generalize pad (row (v+Pol.C (-v.c (ks[i].len-1))*ks[i]))=P4 at *;generalize pad (row (o+Pol.C (-v.c (ks[i].len-1))*ts[i]))=P5 at *;generalize rep (v.c (ks[i].len-1))=cc at *;generalize ks[i].len-1=dd at *;generalize pad (row ks[i])=Pb at *;generalize pad (row ts[i])=Pt at *;generalize pad (row v)=P1 at *;generalize pad (row m)=P2 at *;generalize pad (row o)=P3 at *;generalize ks.map eo=K at *;generalize ts.map eo=Q at *;simp -implicitDefEqProofs [Z48_L2,aw,hil,hin,hat,hvl,hKl,hQl,hx,hy,hga,hc,e1,e2,e3,w1,w2,w4]
theorem ae3 {O:ap} (hst:uj O) (hdg:iu O) (had:mf O) (_hiv:na O) {m:Fp p} {ys ks ts:List (Fp p)} {n k nn:Nat} {cr cs:Option Nat} (hm:m≠0) (hml:m.len≤64) (hnm:n=m.len-1) (hys:∀y∈ys,y.len<m.len) (hn:ys.length=nn) (hsz:nn*n≤64) (hn64:nn≤64) (hks:ks.length=k) (hts:ts.length=k) (hk64:k<64) (hb:∀b∈ks,Monic b∧b.len≤64) (ht:∀t∈ts,t.len≤64) {v o:Fp p} (hr:rlM ks ts (jS n 0 ys) (pw Pol.X k)=(v,o)) (hvl:v.len≤64) (_hol:o.len≤64) (hv:v=0) :
 dn O 0 Z48_L3 ⟨[(0,(.d (.int .i64 p))),(5,.ptr 0 []),(6,.ptr 1 []),(7,(.d (.int .i64 ((n:Nat))))),(8,.sl 2 [] 0 k cr),(9,.sl 3 [] 0 k cs),(10,.sl 4 [] 0 nn none),(11,(.d (.int .i64 ((k:Nat)))))],[.box false (D.arr 64 .leaf (af .u8 (pad (row m)))),.box false (D.arr 64 .leaf (af .u8 (pad []))),.sl false (.arr 64 .leaf) ((ks).map eo),.sl false (.arr 64 .leaf) ((ts).map eo),.sl false (.arr 64 .leaf) ((ys).map eo),.hole,.hole,.hole,.hole,.hole,.hole,.hole]⟩=some (.ret,⟨[(6,.ptr 1 [])],[.hole,.box false (D.arr 64 .leaf (af .u8 (pad (row o)))),.hole,.hole,.hole,.hole,.hole,.hole,.hole,.hole,.hole,.hole]⟩):=by
 have hjl:(jS n 0 ys).len≤64:=by
  have:=Iy (n:=n) ys 0 (fun y hy=>by have:=hys y hy; omega)
  rw [hn,qa,cd] at this;omega
 have e1:=a4a (O:=O) hst (o:=0) (k:=k) (nr:=k) (cr:=cr) (cs:=cs) (RR:=ks.map eo) (SS:=ts.map eo) hm hml hnm hys hn hsz hn64 nn 0 0 (by omega) (by rw [Pol.len_zero]; omega)
 rw [il,ef,fc,fb,jk,Gq.zero_add,bg (by omega),cz (by omega),kw,dt] at e1
 have es:(pad []).set k 1=pad (row (pw (Pol.X:Fp p) k)):=by
  have h:=Bv (Q:=(0:Fp p)) (R:=pw Pol.X k) (by rw [Pol.len_zero]; omega) (by rw [jp]; omega) hk64 (fun t ht=>by rw [wd,if_neg ht]; rfl)
  rwa [wd,if_pos rfl,pt,dt] at h
 have e2:=a3u (O:=O) hdg had (m:=m) (n:=n) (k:=k) (nn:=nn) (cr:=cr) (cs:=cs) (NN:=(ys.map (stp m)).map eo) hks hts (by omega) hb ht k 0 (jS n 0 ys) (pw Pol.X k) (by omega) hjl (by rw [jp]; omega)
 rw [ef,ef,hr,←es] at e2;have e3:=hdg p v hvl;have hpl:(pad ([]:List Int)).length=64:=c8 _;subst hv;rw [Pol.len_zero] at e3;rw [show row ((0:Fp p),o).1=[] from dt,show ((0:Fp p),o).2=o from rfl] at e2;rw [dt] at e3;clear es hr;generalize pad (row o)=Po at *;generalize pad (row m)=Pm at *;generalize pad (row (jS n 0 ys))=Pj at *;generalize ks.map eo=K at *;generalize ts.map eo=Q at *;generalize (ys.map (stp m)).map eo=N2 at *;generalize ys.map eo=N1 at *;simp -implicitDefEqProofs at e1 e2 e3;simp -implicitDefEqProofs [Z48_L3,aw,e1,e2,e3,hk64,hpl]
theorem afv {O:ap} (hst:uj O) (hdg:iu O) (had:mf O) (hiv:na O) {m:Fp p} {ys ks ts:List (Fp p)} {n k nn:Nat} {cr cs:Option Nat} (hm:m≠0) (hml:m.len≤64) (hnm:n=m.len-1) (hys:∀y∈ys,y.len<m.len) (hn:ys.length=nn) (hsz:nn*n≤64) (hn64:nn≤64) (hks:ks.length=k) (hts:ts.length=k) (hk64:k<64) (hb:∀b∈ks,Monic b∧b.len≤64) (ht:∀t∈ts,t.len≤64) {v o:Fp p} (hr:rlM ks ts (jS n 0 ys) (pw Pol.X k)=(v,o)) (hvl:v.len≤64) (hol:o.len≤64) (hv:v≠0) :
 dn O 0 Z48_L3 ⟨[(0,(.d (.int .i64 p))),(5,.ptr 0 []),(6,.ptr 1 []),(7,(.d (.int .i64 ((n:Nat))))),(8,.sl 2 [] 0 k cr),(9,.sl 3 [] 0 k cs),(10,.sl 4 [] 0 nn none),(11,(.d (.int .i64 ((k:Nat)))))],[.box false (D.arr 64 .leaf (af .u8 (pad (row m)))),.box false (D.arr 64 .leaf (af .u8 (pad []))),.sl false (.arr 64 .leaf) ((ks).map eo),.sl false (.arr 64 .leaf) ((ts).map eo),.sl false (.arr 64 .leaf) ((ys).map eo),.hole,.hole,.hole,.hole,.hole,.hole,.hole]⟩=some (.normal,⟨[(0,(.d (.int .i64 p))),(5,.ptr 0 []),(6,.ptr 1 []),(7,(.d (.int .i64 ((n:Nat))))),(8,.sl 2 [] 0 (k+1) none),(9,.sl 3 [] 0 (k+1) none),(10,.sl 4 [] 0 nn none),(11,(.d (.int .i64 (((k+1):Nat)))))],[.box false (D.arr 64 .leaf (af .u8 (pad (row m)))),.box false (D.arr 64 .leaf (af .u8 (pad []))),.sl false (.arr 64 .leaf) ((ks++[Pol.C (Fd.inv v.ld)*v]).map eo),.sl false (.arr 64 .leaf) ((ts++[Pol.C (Fd.inv v.ld)*o]).map eo),.sl false (.arr 64 .leaf) ((ys.map (stp m)).map eo),.hole,.hole,.hole,.hole,.hole,.hole,.hole]⟩):=by
 have hjl:(jS n 0 ys).len≤64:=by
  have:=Iy (n:=n) ys 0 (fun y hy=>by have:=hys y hy; omega)
  rw [hn,qa,cd] at this;omega
 have e1:=a4a (O:=O) hst (o:=0) (k:=k) (nr:=k) (cr:=cr) (cs:=cs) (RR:=ks.map eo) (SS:=ts.map eo) hm hml hnm hys hn hsz hn64 nn 0 0 (by omega) (by rw [Pol.len_zero]; omega)
 rw [il,ef,fc,fb,jk,Gq.zero_add,bg (by omega),cz (by omega),kw,dt] at e1
 have es:(pad []).set k 1=pad (row (pw (Pol.X:Fp p) k)):=by
  have h:=Bv (Q:=(0:Fp p)) (R:=pw Pol.X k) (by rw [Pol.len_zero]; omega) (by rw [jp]; omega) hk64 (fun t ht=>by rw [wd,if_neg ht]; rfl)
  rwa [wd,if_pos rfl,pt,dt] at h
 have e2:=a3u (O:=O) hdg had (m:=m) (n:=n) (k:=k) (nn:=nn) (cr:=cr) (cs:=cs) (NN:=(ys.map (stp m)).map eo) hks hts (by omega) hb ht k 0 (jS n 0 ys) (pw Pol.X k) (by omega) hjl (by rw [jp]; omega)
 rw [ef,ef,hr,←es] at e2;have e3:=hdg p v hvl;have hpl:(pad ([]:List Int)).length=64:=c8 _;have vp:=Pol.len_pos hv;rw [show (v.len:Int)-1=((v.len-1:Nat):Int) by omega] at e3
 have hat:v.len-1<64:=by omega
 have hld:=Pol.ld_ne hv;have hri:=gr v.ld
 have hlp:0<rep v.ld:=by
  have:rep v.ld≠0:=fun h=>hld (Be (by rw [h,rep_zero]))
  omega
 have hp7:=IsP.le (p:=p);have e4:=hiv p (rep v.ld) hlp hri.2;have hin:=vd p (rep v.ld);have hget:(pad (row v))[v.len-1]? = some (rep v.ld):=by rw [ml _ _ hat,ft]; rfl
 have hga:∀h:v.len-1<(pad (row v)).length,(pad (row v))[v.len-1]'h=rep v.ld:=fun h=>by
  rw [b8 h] at hget;exact au hget
 have hvl2:(pad (row v)).length=64:=c8 _;have w5:IntKind.i64.wrap (inv p (rep v.ld))=inv p (rep v.ld):=w64 (by omega)
 have e5:=had p (inv p (rep v.ld)) 0 v (by omega) (by omega) (by rw [Pol.len_zero]; omega) hvl
 have e6:=had p (inv p (rep v.ld)) 0 o (by omega) (by omega) (by rw [Pol.len_zero]; omega) hol
 rw [Gq.zero_add,ry _ hld,dt] at e5 e6;have w4:IntKind.i64.wrap ((k:Int)+1)=((k+1:Nat):Int):=(w64 (x:=(k:Int)+1) (by omega)).trans (by omega)
 have hKl:(ks.map eo).length=k:=by rw [ba]; exact hks
 have hQl:(ts.map eo).length=k:=by rw [ba]; exact hts
 have htK:(ks.map eo).take k=ks.map eo:=bg (by omega)
 have htQ:(ts.map eo).take k=ts.map eo:=bg (by omega)
 have hbt:(k+1)*64≤1099511627776:=by omega
 rw [di,di,db,db,fc];rw [show row (v,o).1=row v from rfl,show row (v,o).2=row o from rfl] at e2;clear es hr hget;unfold eo at *;generalize pad (row (Pol.C (Fd.inv v.ld)*v))=P5 at *;generalize pad (row (Pol.C (Fd.inv v.ld)*o))=P6 at *;generalize inv p (rep v.ld)=iv at *;generalize rep v.ld=lv at *;have hdd:¬ ((v.len-1:Nat):Int)<0:=by omega
 generalize v.len-1=dd at *;generalize pad (row o)=Po at *;generalize pad (row v)=Pv at *;generalize pad (row m)=Pm at *;generalize pad (row (jS n 0 ys))=Pj at *;generalize (ks.map fun a=>(D.arr 64 .leaf (af .u8 (pad (row a)))))=K at *
 generalize (ts.map fun a=>(D.arr 64 .leaf (af .u8 (pad (row a)))))=Q at *
 generalize ((ys.map (stp m)).map fun a=>(D.arr 64 .leaf (af .u8 (pad (row a)))))=N2 at *
 generalize (ys.map fun a=>(D.arr 64 .leaf (af .u8 (pad (row a)))))=N1 at *
 generalize ((k+1:Nat):Int)=K1 at *;simp -implicitDefEqProofs at e1 e2 e3;simp -implicitDefEqProofs [Z48_L3,aw,e1,e2,e3,e4,e5,e6,hdd,hat,hga,hvl2,hKl,hQl,htK,htQ,hbt,w4,w5,hk64,hpl]
theorem a82 {O:ap} (hst:uj O) (hdg:iu O) (had:mf O) (hiv:na O) {m:Fp p} {xs:List (Fp p)} {n nn:Nat} (hm:m≠0) (hml:m.len≤64) (hnm:n=m.len-1) (hxs:∀x∈xs,x.len<m.len) (hn:xs.length=nn) (hsz:nn*n≤64) (hn64:nn≤64) {f0:Fp p} (hf:MinR (jv m xs) f0) (hf64:f0.len≤64) :
 ∀(r k:Nat) (ks ts:List (Fp p)) (cr cs:Option Nat),k+r=f0.len→RelJ (jv m xs) 64 k ks ts→dn O 0 (.loop Z48_L3) ⟨[(0,(.d (.int .i64 p))),(5,.ptr 0 []),(6,.ptr 1 []),(7,(.d (.int .i64 ((n:Nat))))),(8,.sl 2 [] 0 k cr),(9,.sl 3 [] 0 k cs),(10,.sl 4 [] 0 nn none),(11,(.d (.int .i64 ((k:Nat)))))],[.box false (D.arr 64 .leaf (af .u8 (pad (row m)))),.box false (D.arr 64 .leaf (af .u8 (pad []))),.sl false (.arr 64 .leaf) ((ks).map eo),.sl false (.arr 64 .leaf) ((ts).map eo),.sl false (.arr 64 .leaf) ((xs.map (stI m k)).map eo),.hole,.hole,.hole,.hole,.hole,.hole,.hole]⟩=some (.ret,⟨[(6,.ptr 1 [])],[.hole,.box false (D.arr 64 .leaf (af .u8 (pad (row f0)))),.hole,.hole,.hole,.hole,.hole,.hole,.hole,.hole,.hole,.hole]⟩):=by
 intro r
 induction r with
 | zero=>
  intro k ks ts cr cs hkr h;exact absurd (h.ind f0 (by omega) hf.zero) hf.mon.2
 | succ r ih=>
  intro k ks ts cr cs hkr h;have hlin:=A9 m xs
  have hys:∀y∈xs.map (stI m k),y.len<m.len:=fun y hy=>by
   obtain ⟨x,hx,rfl⟩:=ch.1 hy;exact yw hm (hxs x hx) k
  have hyl:(xs.map (stI m k)).length=nn:=by rw [ba]; exact hn
  have hev:jv m xs (pw Pol.X k)=jS n 0 (xs.map (stI m k)):=by rw [ag4,hnm]
  have hjl:(jS n 0 (xs.map (stI m k))).len≤64:=by
   have:=Iy (n:=n) (xs.map (stI m k)) 0 (fun y hy=>by have:=hys y hy; omega)
   rw [hyl,qa,cd] at this;omega
  have hsrc:=h.src;have htri:=h.tri;have hmon:=h.mon;have htl:=h.tl;have hcnt:=h.cnt;have htsl:ts.length=k:=by rw [hsrc,ba] at hcnt; exact hcnt
  have hok:=a4f hlin (d:=64) (k:=k) ts (jS n 0 (xs.map (stI m k))) (pw Pol.X k) (by rw [←hsrc]; exact htri) (by rw [←hsrc]; exact hmon) htl hjl (by rw [jp]; omega) (by rw [wd,if_pos rfl]) hev
  rw [←hsrc] at hok;have htb:∀t∈ts,t.len≤64:=fun t ht=>by have:=htl t ht; omega
  rcases hvo:rlM ks ts (jS n 0 (xs.map (stI m k))) (pw Pol.X k) with ⟨v,o⟩
  rw [hvo] at hok;obtain ⟨k1,k2,k3,k4,k5,_⟩:=hok;simp only at k1 k2 k3 k4 k5
  by_cases hv:v=0
  ·obtain ⟨f1,f2⟩:=h.found k2 k3 (by rw [k4,hv])
   obtain rfl:o=f0:=f1.one hlin hf;exact lq (ae3 hst hdg had hiv hm hml hnm hys hyl hsz hn64 hcnt htsl (by omega) hmon htb hvo k1 (by omega) hv)
  ·have hnx:=h.next hlin k2 k3 k4 hv k1 k5
   have e:=afv (O:=O) (cr:=cr) (cs:=cs) hst hdg had hiv hm hml hnm hys hyl hsz hn64 hcnt htsl (by omega) hmon htb hvo k1 (by omega) hv
   have hmm:(xs.map (stI m k)).map (stp m)=xs.map (stI m (k+1)):=by
    rw [List.map_map]; rfl
   rw [hmm] at e;exact cg e (ih (k+1) _ _ none none (by omega) hnx)
end
def xl (O:ap):Prop:=∀(p:Int) [IsP p] (m:Fp p) (xs:List (Fp p)) (f0:Fp p),m≠0→m.len≤64→(∀x∈xs,x.len<m.len)→xs.length*(m.len-1)≤64→xs.length≤64→MinR (jv m xs) f0→f0.len≤64→ask O F48 [(D.int .i64 p),.sl (.arr 64 .leaf) (xs.map eo),(D.arr 64 .leaf (af .u8 (pad (row m))))]=some (D.arr 64 .leaf (af .u8 (pad (row f0))))
theorem a4j (hT:T F48=some Z48) (hst:uj (den T A)) (hdg:iu (den T A)) (had:mf (den T A)) (hiv:na (den T A)):xl (den T A):=by
 intro p ip m xs f0 hm hml hxs hsz hn64 hf hf64;have hmp:=Pol.len_pos hm;have e:=a82 hst hdg had hiv hm hml (n:=m.len-1) rfl hxs (nn:=xs.length) rfl hsz hn64 hf hf64 f0.len 0 [] [] (some 0) (some 0) (by omega) (RelJ.nil (A9 m xs) 64)
 rw [show xs.map (stI m 0)=xs from by
  have:stI m 0=id:=rfl;rw [this,List.map_id],show ([]:List (Fp p)).map eo=[] from rfl] at e
 have e2:=hdg p m hml;rw [show (m.len:Int)-1=((m.len-1:Nat):Int) by omega] at e2
 have hXl:(xs.map eo).length=xs.length:=ba ..;have hbt:xs.length*64≤1099511627776:=by omega
 have htX:(xs.map eo).take xs.length=xs.map eo:=bg (by omega)
 clear hf hsz hxs;refine c9 hT rfl ?_;generalize pad (row f0)=Pf at *;generalize pad (row m)=Pm at *;generalize xs.map eo=XD at *;generalize xs.length=nx at *;generalize m.len-1=n at *;simp -implicitDefEqProofs at e;simp -implicitDefEqProofs [Z48,Z48_B,e,e2,hXl,hbt]
noncomputable def xsL (p:Int) (n:Nat):List (Fp p):=(List.range n).map fun k=>pw Pol.X k
theorem B6 (p:Int) (n:Nat):xsL p (n+1)=xsL p n++[pw Pol.X n]:=by
 unfold xsL;rw [List.range_succ,di]; rfl
theorem su (p:Int) (n:Nat):(xsL p n).length=n:=by unfold xsL; rw [ba,p8]
section
variable {p:Int} [IsP p]
theorem a65 {O:ap} (hdg:iu O) {m:Fp p} {n:Nat} (hmp:0<m.len) (hml:m.len≤64) (hn:n=m.len-1):∀(r k:Nat) (ck:Option Nat),k+r=n→∃ck':Option Nat,
 dn O 0 (.loop Z49_L0) ⟨[(0,(.d (.int .i64 p))),(3,.ptr 0 []),(4,.ptr 1 []),(5,.sl 2 [] 0 k ck),(6,(.d (.int .i64 k)))],[.box false (D.arr 64 .leaf (af .u8 (pad (row m)))),.box false (D.arr 64 .leaf (af .u8 (pad []))),.sl false (.arr 64 .leaf) ((xsL p k).map eo),.hole,.hole,.hole]⟩ =
  some (.exit 0,⟨[(0,(.d (.int .i64 p))),(3,.ptr 0 []),(4,.ptr 1 []),(5,.sl 2 [] 0 n ck'),(6,(.d (.int .i64 n))),(12,(.d (.bool false)))],[.box false (D.arr 64 .leaf (af .u8 (pad (row m)))),.box false (D.arr 64 .leaf (af .u8 (pad []))),.sl false (.arr 64 .leaf) ((xsL p n).map eo),.hole,.hole,.hole]⟩)
 | 0,k,ck,hk=>by
  obtain rfl:k=n:=by omega
  have e1:=hdg p m hml;rw [show (m.len:Int)-1=(k:Int) by omega] at e1
  refine ⟨ck,cm ?_⟩;generalize (xsL p k).map eo=N1 at *;generalize pad (row m)=P2 at *;simp -implicitDefEqProofs [Z49_L0,aw,e1]
 | r+1,k,ck,hk=>by
  have hkn:k<n:=by omega
  have hkl:(k:Int)<n:=by omega
  have hk64:k<64:=by omega
  have e1:=hdg p m hml;rw [show (m.len:Int)-1=(n:Int) by omega] at e1
  have es:(pad []).set k 1=pad (row (pw (Pol.X:Fp p) k)):=by
   have h:=Bv (Q:=(0:Fp p)) (R:=pw Pol.X k) (by rw [Pol.len_zero]; omega) (by rw [jp]; omega) hk64 (fun t ht=>by rw [wd,if_neg ht]; rfl)
   rwa [wd,if_pos rfl,pt,dt] at h
  have hpl:(pad ([]:List Int)).length=64:=c8 _;have hXl:((xsL p k).map eo).length=k:=by rw [ba,su]
  have htX:((xsL p k).map eo).take k=(xsL p k).map eo:=bg (by omega)
  have hbt:(k+1)*64≤1099511627776:=by omega
  have w4:IntKind.i64.wrap ((k:Int)+1)=((k+1:Nat):Int):=(w64 (x:=(k:Int)+1) (by omega)).trans (by omega)
  obtain ⟨ck',ih⟩:=a65 hdg hmp hml hn r (k+1) none (by omega)
  refine ⟨ck',cg ?_ ih⟩;rw [B6,di,db,fc];unfold eo at *;rw [←es];generalize (xsL p k).map (fun a=>(D.arr 64 .leaf (af .u8 (pad (row a)))))=N1 at *
  generalize pad (row m)=P2 at *;generalize ((k+1:Nat):Int)=K1 at *;simp -implicitDefEqProofs [Z49_L0,aw,e1,hkl,hk64,hpl,hXl,htX,hbt,w4]
variable {m:Fp p}
end
def wm (O:ap):Prop:=∀(p:Int) [IsP p] (m f0:Fp p),m≠0→m.len≤9→MinR (jv m (xsL p (m.len-1))) f0→f0.len≤64→ask O F49 [(D.int .i64 p),(D.arr 64 .leaf (af .u8 (pad (row m))))]=some (D.arr 64 .leaf (af .u8 (pad (row f0))))
theorem Rz (hT:T F49=some Z49) (hdg:iu (den T A)) (han:xl (den T A)):wm (den T A):=by
 intro p ip m f0 hm hml hf hf64;have hmp:=Pol.len_pos hm;obtain ⟨ck,e⟩:=a65 (O:=den T A) hdg (m:=m) (n:=m.len-1) hmp (by omega) rfl (m.len-1) 0 (some 0) (by omega)
 rw [show xsL p 0=[] from rfl,fc] at e
 have e2:=han p m (xsL p (m.len-1)) f0 hm (by omega) (fun x hx=>by
  unfold xsL at hx;obtain ⟨k,hk,rfl⟩:=ch.1 hx;have:=im.1 hk
  rw [jp]; omega) (by
  rw [su];have:(m.len-1)*(m.len-1)≤8*8:=Nat.mul_le_mul (by omega) (by omega)
  omega) (by rw [su]; omega) hf hf64
 have hXl:((xsL p (m.len-1)).map eo).length=m.len-1:=by rw [ba,su]
 have htX:((xsL p (m.len-1)).map eo).take (m.len-1)=(xsL p (m.len-1)).map eo:=bg (by omega)
 clear hf;refine c9 hT rfl ?_;generalize pad (row f0)=Pf at *;generalize pad (row m)=Pm at *;generalize (xsL p (m.len-1)).map eo=XD at *;generalize m.len-1=n at *;simp -implicitDefEqProofs at e;simp -implicitDefEqProofs [Z49,Z49_B,e,e2,hXl,htX]
section
variable {p:Int} [IsP p]
theorem a42 {ev:Fp p→Fp p} (hl:Lin ev) {d:Nat} (hb:∀f,(ev f).len≤d):∀(r k:Nat) (ks ts:List (Fp p)),k+r=d→RelI ev d k ks ts→∃f,MinR ev f∧f.len≤d+1:=by
 intro r
 induction r with
 | zero=>
  intro k ks ts hk h
  obtain ⟨v,o,h1,h2,h3,h4,h5⟩:∃v o:Fp p,v.len≤d∧o.len≤k+1∧o.c k=1∧ev o=v∧∀b∈ks,v.c (b.len-1)=0:=by
   have hok:=Q6 hl (d:=d) (k:=k) ts (ev (pw Pol.X k)) (pw Pol.X k) (by rw [←h.src]; exact h.dec) (by rw [←h.src]; exact h.nz) h.tl (hb _) (by rw [jp]; omega) (by rw [wd,if_pos rfl]) rfl
   rw [←h.src] at hok;exact ⟨_,_,hok.1,hok.2.1,hok.2.2.1,hok.2.2.2.1,hok.2.2.2.2.1⟩
  by_cases hv:v=0
  ·obtain ⟨g1,g2⟩:=h.found h2 h3 (h4.trans hv)
   exact ⟨o,g1,by omega⟩
  ·exfalso
   obtain ⟨i,hi,ha,hc⟩:∃i,i≤k∧(∀b∈ks.take i,¬ b.len<v.len)∧∀b∈ks.drop i,b.len<v.len:=by
    rcases Dw v.len ks 0 h.dec with ⟨_,g2⟩ | ⟨j,_,g2,g3,g4⟩
    ·exact ⟨k,bh k,fun b hb=>g2 b (gy hb),fun b hb=>by
      rw [cz (by have:=h.cnt; omega)] at hb
      exact (List.not_mem_nil hb).elim⟩
    ·exact ⟨j,by have:=h.cnt; omega,g3,g4⟩
   have hn:=h.next hl h2 h3 h4 hv h1 h5 hi ha hc;have:=Eu hn.dec hn.nz;have:=hn.cnt;omega
 | succ r ih=>
  intro k ks ts hk h
  obtain ⟨v,o,h1,h2,h3,h4,h5⟩:∃v o:Fp p,v.len≤d∧o.len≤k+1∧o.c k=1∧ev o=v∧∀b∈ks,v.c (b.len-1)=0:=by
   have hok:=Q6 hl (d:=d) (k:=k) ts (ev (pw Pol.X k)) (pw Pol.X k) (by rw [←h.src]; exact h.dec) (by rw [←h.src]; exact h.nz) h.tl (hb _) (by rw [jp]; omega) (by rw [wd,if_pos rfl]) rfl
   rw [←h.src] at hok;exact ⟨_,_,hok.1,hok.2.1,hok.2.2.1,hok.2.2.2.1,hok.2.2.2.2.1⟩
  by_cases hv:v=0
  ·obtain ⟨g1,g2⟩:=h.found h2 h3 (h4.trans hv)
   exact ⟨o,g1,by omega⟩
  ·obtain ⟨i,hi,ha,hc⟩:∃i,i≤k∧(∀b∈ks.take i,¬ b.len<v.len)∧∀b∈ks.drop i,b.len<v.len:=by
    rcases Dw v.len ks 0 h.dec with ⟨_,g2⟩ | ⟨j,_,g2,g3,g4⟩
    ·exact ⟨k,bh k,fun b hb=>g2 b (gy hb),fun b hb=>by
      rw [cz (by have:=h.cnt; omega)] at hb
      exact (List.not_mem_nil hb).elim⟩
    ·exact ⟨j,by have:=h.cnt; omega,g3,g4⟩
   exact ih (k+1) _ _ (by omega) (h.next hl h2 h3 h4 hv h1 h5 hi ha hc)
theorem MinR.dvL {ev:Fp p→Fp p} (hl:Lin ev) (hz:∀f g,ev f=0→ev (g*f)=0) {a f:Fp p} (h:MinR ev a):ev f=0↔Dv a f:=by
 constructor
 ·intro hf
  have e:=Pol.div_mod f a
  have h0:ev (f%a)=0:=by
   have e1:f%a=f-f/a*a:=by
    have:f%a=f/a*a+f%a-f/a*a:=bj [f%a,f/a*a] rfl
    rwa [←e] at this
   rw [e1,hl.sub,hf,hz _ _ h.zero];exact Gq.sub_self _
  exact (qw h.mon.2).2 (h.least _ (Pol.len_mod f h.mon.2) h0)
 ·rintro ⟨c,rfl⟩
  rw [Gq.mul_comm];exact hz _ _ h.zero
variable {m:Fp p}
theorem If (hm:m≠0) (x f g:Fp p) (h:av m x f=0):av m x (g*f)=0:=by rw [Cz hm,h,zi hm]
theorem Oq (hm:m≠0) {x:Fp p} (hx:x.len<m.len):∃f,MinR (av m x) f∧f.len≤m.len:=by
 obtain ⟨f,h1,h2⟩:=a42 (o4 m x) (d:=m.len-1) (fun f=>by have:=ub hm hx f; omega) (m.len-1) 0 [] [] (by omega) (RelI.nil (o4 m x) _)
 exact ⟨f,h1,by have:=Pol.len_pos hm; omega⟩
open Classical in
noncomputable def p6 (m x:Fp p):Fp p:=if h:∃f,MinR (av m x) f∧f.len≤m.len then h.choose else 0
theorem uk (hm:m≠0) {x:Fp p} (hx:x.len<m.len):MinR (av m x) (p6 m x)∧(p6 m x).len≤m.len:=by
 unfold p6;rw [dif_pos (Oq hm hx)];exact (Oq hm hx).choose_spec
end
section
variable {p:Int}
variable {m:Fp p}
theorem a5z {n:Nat}:∀(ys:List (Fp p)) (s:Nat),(∀y∈ys,y.len≤n)→(jS n s ys=0↔∀y∈ys,y=0)
 | [],_,_=>⟨fun _ y hy=>(List.not_mem_nil hy).elim,fun _=>rfl⟩
 | y::ys,s,h=>by
  have hy0:jS n s (y::ys)=0→y=0:=fun e=>Pol.ext fun t=>by
   by_cases ht:t<n
   ·have e1:=a8c (n:=n) y ys s t ht
    rw [e] at e1;rw [←e1]; rfl
   ·rw [jt (by have:=h y (by simp); omega)]; rfl
  constructor
  ·intro e z hz
   have h0:=hy0 e;rcases cn.1 hz with rfl | hz
   ·exact h0
   ·rw [jS,h0,Gq.mul_zero,Gq.zero_add] at e
    exact (a5z ys (s+n) fun w hw=>h w (by simp [hw])).1 e z hz
  ·exact Xi _ _
end
section
variable {p:Int} [IsP p]
variable {m:Fp p}
theorem yn (hm:m≠0) {xs:List (Fp p)} (hxs:∀x∈xs,x.len<m.len) (f:Fp p):jv m xs f=0↔∀x∈xs,av m x f=0:=by
 unfold jv
 rw [a5z _ _ (fun y hy=>by
  obtain ⟨x,hx,rfl⟩:=ch.1 hy;have:=ub hm (hxs x hx) f;omega)]
 constructor
 ·intro h x hx
  exact h _ (ch.2 ⟨x,hx,rfl⟩)
 ·intro h y hy
  obtain ⟨x,hx,rfl⟩:=ch.1 hy;exact h x hx
theorem Yn (hm:m≠0) {xs:List (Fp p)} (hxs:∀x∈xs,x.len<m.len) (f g:Fp p) (h:jv m xs f=0):jv m xs (g*f)=0:=
 (yn hm hxs _).2 fun x hx=>If hm x f g ((yn hm hxs f).1 h x hx)
theorem MinR.of_iff {ev ev':Fp p→Fp p} {f:Fp p} (h:MinR ev f) (he:∀g,ev g=0↔ev' g=0):MinR ev' f:=⟨h.mon,(he f).1 h.zero,fun g hg h0=>h.least g hg ((he g).2 h0)⟩
theorem N3 (hm:m≠0) {x f:Fp p} (hx:x.len<m.len) (h:MinR (av m x) f):MinR (jv m [x]) f:=
 h.of_iff fun g=>by
  rw [yn hm (fun y hy=>by rw [bf.1 hy]; exact hx)]
  exact ⟨fun h y hy=>by rw [bf.1 hy]; exact h,fun h=>h x (bf.2 rfl)⟩
theorem Y0 (n:Nat):∀x∈xsL p n,x.len<n+1:=fun x hx=>by
 unfold xsL at hx;obtain ⟨k,hk,rfl⟩:=ch.1 hx;have:=im.1 hk;rw [jp]; omega
theorem ud (hm:2≤m.len):∀x∈xsL p (m.len-1),x.len<m.len:=fun x hx=>by
 have:=Y0 (p:=p) (m.len-1) x hx;omega
theorem a36 (hm:2≤m.len) (h9:m.len≤6):∃f,MinR (jv m (xsL p (m.len-1))) f∧f.len≤26:=by
 have hm0:m≠0:=fun h=>by rw [h,Pol.len_zero] at hm; omega
 have hb:∀f,(jv m (xsL p (m.len-1)) f).len≤25:=fun f=>by
  unfold jv
  have:=Iy (n:=m.len-1) ((xsL p (m.len-1)).map fun x=>av m x f) 0 (fun y hy=>by
   obtain ⟨x,hx,rfl⟩:=ch.1 hy;have:=ub hm0 (ud hm x hx) f;omega)
  rw [ba,su,cd] at this;have h2:(m.len-1)*(m.len-1)≤5*5:=Nat.mul_le_mul (by omega) (by omega)
  omega
 exact a42 (A9 m _) (d:=25) hb 25 0 [] [] (by omega) (RelI.nil (A9 m _) _)
open Classical in
noncomputable def li (m:Fp p):Fp p:=if h:∃f,MinR (jv m (xsL p (m.len-1))) f∧f.len≤26 then h.choose else 0
theorem tg (hm:2≤m.len) (h9:m.len≤6):MinR (jv m (xsL p (m.len-1))) (li m)∧(li m).len≤26:=by
 unfold li;rw [dif_pos (a36 hm h9)];exact (a36 hm h9).choose_spec
theorem Qc (hm:m≠0) {f:Fp p} {n:Nat} (h:∀x∈xsL p n,av m x f=0):∀x:Fp p,x.len≤n→av m x f=0:=by
 induction n with
 | zero=>exact fun x hx=>by rw [Pol.len_zero_iff.1 (Nat.le_zero.1 hx),zi hm]
 | succ n ih=>
  intro x hx;rw [B6] at h;have e:x=Pol.C (x.c n)*pw Pol.X n+(x-Pol.C (x.c n)*pw Pol.X n):=bj [x,Pol.C (x.c n),pw (Pol.X:Fp p) n] rfl
  have hl:(x-Pol.C (x.c n)*pw Pol.X n).len≤n:=Pol.len_le fun i hi=>by
   rw [Pol.c_sub,Pol.c_Cmul,wd]
   by_cases hin:i=n
   ·rw [if_pos hin,hin,Gq.mul_one]; exact Gq.sub_self _
   ·rw [if_neg hin,Gq.mul_zero,jt (by omega)]; exact Gq.sub_self _
  rw [e,a4c hm,Nj hm,h _ (fh _ (bf.2 rfl)),Gq.mul_zero,Gq.zero_add];exact ih (fun y hy=>h y (c6 _ hy)) _ hl
theorem aa5 (hm:2≤m.len) (h9:m.len≤6) (f:Fp p):Dv (li m) f↔∀x:Fp p,x.len<m.len→av m x f=0:=by
 have hm0:m≠0:=fun h=>by rw [h,Pol.len_zero] at hm; omega
 obtain ⟨h1,-⟩:=tg hm h9;rw [←h1.dvL (A9 m _) (Yn hm0 (ud hm)),yn hm0 (ud hm)];exact ⟨fun h x hx=>Qc hm0 h x (by omega),fun h x hx=>h x (ud hm x hx)⟩
end
section
variable {p:Int} [IsP p]
theorem aam {a b:Fp p} (ha:Monic a) (hb:Monic b):a*b=(a*b/Pol.gcd a b)*Pol.gcd a b∧Monic (a*b/Pol.gcd a b)∧∀f,Dv (a*b/Pol.gcd a b) f↔Dv a f∧Dv b f:=by
 have hg:=Pol.gcd_monic (a:=a) (b:=b) (.inl ha.2);obtain ⟨x,hx⟩:=Pol.gcd_dv_left (a:=a) (b:=b) (.inl ha.2);obtain ⟨y,hy⟩:=Pol.gcd_dv_right (a:=a) (b:=b) (.inl ha.2);obtain ⟨U,V,hbz⟩:∃U V:Fp p,U*a+V*b=Pol.gcd a b:=⟨_,_,Pol.bezout_eq (a:=a) (b:=b) (.inl ha.2)⟩;generalize hG:Pol.gcd a b=g at *;have e0:a*b/g=a*y:=(Pol.div_mod_eq (q:=a*y) (r:=0) (by rw [Gq.add_zero,hy]; exact bj [a,g,y] rfl) (by rw [Pol.len_zero]; exact Pol.len_pos hg.2)).1
 have e1:a*b=a*b/g*g:=by
  rw [e0];have:a*y*g=a*(g*y):=bj [a,y,g] rfl;rw [this,←hy]
 have hm:Monic (a*b/g):=by
  have hab:Monic (a*b):=ha.mul hb;have hq:a*b/g≠0:=fun h=>hab.2 (by rw [e1,h,Gq.zero_mul])
  refine ⟨?_,hq⟩;have h:=hab.1;rw [e1,Pol.ld_mul hq hg.2,hg.1,Gq.mul_one] at h;exact h
 refine ⟨e1,hm,fun f=>⟨fun h=>⟨?_,?_⟩,fun ⟨⟨c,hc⟩,⟨d,hd⟩⟩=>?_⟩⟩
 ·exact Dv.trans ⟨y,e0⟩ h
 ·refine Dv.trans ⟨x,?_⟩ h
  rw [e0,hy];have:a*y=g*x*y:=by rw [←hx]
  rw [this];exact bj [g,x,y] rfl
 ·have h1:g*f=a*b/g*g*(U*d+V*c):=by
   rw [←e1,←hbz];have:(U*a+V*b)*f=U*a*f+V*b*f:=bj [U,a,V,b,f] rfl;rw [this]
   conv=>lhs; lhs; rw [hd]
   conv=>lhs; rhs; rw [hc]
   exact bj [U,a,b,d,V,c] rfl
  refine ⟨U*d+V*c,?_⟩
  have h2:g*f=g*(a*b/g*(U*d+V*c)):=by
   rw [h1];exact bj [a*b/g,g,U*d+V*c] rfl
  exact Pol.mul_cancel hg.2 h2
theorem E4 {k:Nat} (hk:k≤5):p^k≤16807:=by
 have:k=0∨k=1∨k=2∨k=3∨k=4∨k=5:=by omega
 rcases (inferInstance:IsP p).h with rfl | rfl | rfl | rfl <;> rcases this with rfl | rfl | rfl | rfl | rfl | rfl <;> decide
theorem ajp {k:Nat} (hk:k≤5):fu p (p^k)=pw Pol.X k:=Pol.ext fun i=>by
 have hp:=IsP.ge (p:=p);have hp7:=IsP.le (p:=p);have hb:=E4 (p:=p) hk;have h0:=mw (p:=p) k;rw [wu ⟨by omega,by omega⟩,wd]
 by_cases hik:i=k
 ·rw [if_pos hik,hik,Int.ediv_self (by omega),Ci]
 ·rw [if_neg hik]
  have hi0:=mw (p:=p) i
  by_cases hlt:i<k
  ·obtain ⟨j,rfl⟩:∃j,k=j+1+i:=⟨k-i-1,by omega⟩
   rw [Int.pow_add,Int.mul_ediv_cancel _ (by omega),gn]
   exact Do.2 (by rw [Int.mul_emod_left]; rfl)
  ·have h1:p^k<p^i:=by
    obtain ⟨j,rfl⟩:∃j,i=k+(j+1):=⟨i-k-1,by omega⟩
    have h2:=Ge (p:=p) j;have h3:=mw (p:=p) j;rw [Int.pow_add];have h4:p^k*2≤p^k*p^(j+1):=cw (by omega) (by omega)
    omega
   rw [m5 (by omega) h1]; rfl
theorem Bf {O:ap} (hno:xe O) (hnu:kq O) {k:Nat} (hk:k≤5):ask O F1a [(D.int .i64 p),(D.int .i64 k),(D.int .i64 1099511627776)]=some (D.int .i64 (p^k))∧ask O F1b [(D.int .i64 p),(D.int .i64 (p^k))]=some (D.sl .leaf (af .i64 (row (pw (Pol.X:Fp p) k)))):=by
 have hp:=IsP.ge (p:=p);have hp7:=IsP.le (p:=p);have hb:=E4 (p:=p) hk;have h0:=mw (p:=p) k;have e1:=hno p k 1099511627776 (by omega) (by omega)
 rw [L4 k 1 (by omega) (by omega),Int.one_mul] at e1
 have e2:=hnu p (p^k) (by omega) (by omega)
 rw [ajp hk] at e2;exact ⟨e1,e2⟩
structure ExI (m:Fp p) (k:Nat) (L:Fp p):Prop where
 mon:Monic L
 dv:∀f,Dv L f↔∀x∈xsL p k,av m x f=0
theorem ExI.zero (m:Fp p):ExI m 0 1:=⟨Monic.one,fun f=>⟨fun _ x hx=>(List.not_mem_nil hx).elim,fun _=>⟨f,(Gq.one_mul f).symm⟩⟩⟩
variable {m:Fp p}
theorem ExI.next (hm:m≠0) {k:Nat} (hk:k<m.len-1) {L a:Fp p} (h:ExI m k L) (ha:MinR (av m (pw Pol.X k%m)) a):ExI m (k+1) (L*a/Pol.gcd L a):=by
 rw [Pol.mod_small (by rw [jp]; omega)] at ha
 obtain ⟨-,g2,g3⟩:=aam h.mon ha.mon;refine ⟨g2,fun f=>?_⟩
 rw [g3,h.dv,←ha.dvL (o4 m _) (If hm _),B6];constructor
 ·rintro ⟨h1,h2⟩ x hx
  rcases bn.1 hx with hx | hx
  ·exact h1 x hx
  ·rw [bf.1 hx]; exact h2
 ·exact fun h=>⟨fun x hx=>h x (c6 _ hx),h _ (fh _ (bf.2 rfl))⟩
end
section
variable {p:Int}
variable {m:Fp p}
theorem a6z {k n:Nat} (h:k≤n):∀x∈xsL p k,x∈xsL p n:=fun x hx=>by
 unfold xsL at hx ⊢;obtain ⟨j,hj,rfl⟩:=ch.1 hx;have:=im.1 hj;exact ch.2 ⟨j,im.2 (by omega),rfl⟩
end
section
variable {p:Int} [IsP p]
variable {m:Fp p}
theorem ExI.len (hm:2≤m.len) (h6:m.len≤6) {k:Nat} (hk:k≤m.len-1) {L:Fp p} (h:ExI m k L):L.len≤26:=by
 have hm0:m≠0:=fun h=>by rw [h,Pol.len_zero] at hm; omega
 obtain ⟨e1,e2⟩:=tg hm h6;have hz:=(yn hm0 (ud hm) _).1 e1.zero;have:=((h.dv (li m)).2 fun x hx=>hz x (a6z hk x hx)).len e1.mon.2
 omega
theorem ExI.last (hm:2≤m.len) (h6:m.len≤6) {L:Fp p} (h:ExI m (m.len-1) L):L=li m:=by
 have hm0:m≠0:=fun h=>by rw [h,Pol.len_zero] at hm; omega
 obtain ⟨e1,e2⟩:=tg hm h6
 have hi:∀f,Dv L f↔Dv (li m) f:=fun f=>by
  rw [h.dv,←e1.dvL (A9 m _) (Yn hm0 (ud hm)),yn hm0 (ud hm)]
 exact h.mon.antisymm e1.mon ((hi _).2 (Dv.refl _)) ((hi _).1 (Dv.refl _))
theorem a6s {O:ap} (hno:xe O) (hnu:kq O) (han:wk O) (hlc:Qx O) (hm:Monic m) (h2:2≤m.len) (h6:m.len≤6):∀(r k:Nat) (L:Fp p),k+r=m.len-1→ExI m k L →
 dn O 0 (.loop Zc_L0) ⟨[(4,.ptr 1 []),(7,(.d (.int .i64 p))),(8,(.d (.sl .leaf (af .i64 (row m))))),(9,(.d (.sl .leaf (af .i64 (row L))))),(23,(.d (.int .i64 (((m.len-1:Nat):Int))))),(24,(.d (.int .i64 k)))],[.hole,.box false (D.arr 64 .leaf (af .u8 (pad []))),.hole]⟩ =
  some (.exit 0,⟨[(4,.ptr 1 []),(7,(.d (.int .i64 p))),(8,(.d (.sl .leaf (af .i64 (row m))))),(9,(.d (.sl .leaf (af .i64 (row (li m)))))),(23,(.d (.int .i64 (((m.len-1:Nat):Int))))),(24,(.d (.int .i64 (((m.len-1:Nat):Int))))),(25,(.d (.bool false)))],[.hole,.box false (D.arr 64 .leaf (af .u8 (pad []))),.hole]⟩)
 | 0,k,L,hk,h=>by
  obtain rfl:k=m.len-1:=by omega
  rw [h.last h2 h6];refine cm ?_;generalize row (li m)=Rg at *;generalize row m=Rm at *;generalize m.len-1=n at *;simp -implicitDefEqProofs [Zc_L0,aw]
 | r+1,k,L,hk,h=>by
  have hkl:(k:Int)<((m.len-1:Nat):Int):=by omega
  obtain ⟨e1,e2⟩:=Bf (p:=p) hno hnu (k:=k) (by omega)
  obtain ⟨f,f1,f2,e3⟩:=han p m (pw Pol.X k) hm.2 (by omega) (by rw [jp]; omega)
  have hL:=h.len h2 h6 (by omega)
  have e4:=hlc p L f h.mon.2 f1.mon.2 (by omega) (by omega)
  have w4:IntKind.i64.wrap ((k:Int)+1)=((k+1:Nat):Int):=(w64 (x:=(k:Int)+1) (by omega)).trans (by omega)
  refine cg ?_ (a6s hno hnu han hlc hm h2 h6 r (k+1) _ (by omega) (h.next hm.2 (by omega) f1))
  generalize p^k=p1 at *;generalize row (pw (Pol.X:Fp p) k)=Rx at *;generalize row (L*f/Pol.gcd L f)=Rl at *;generalize row f=Rf at *;generalize row L=RL at *;generalize row m=Rm at *;generalize ((m.len-1:Nat):Int)=n at *;generalize ((k+1:Nat):Int)=K1 at *;simp -implicitDefEqProofs [Zc_L0,aw,hkl,e1,e2,e3,e4,w4]
theorem a8h {O:ap} (hno:xe O) (hnu:kq O) (han:wk O) (hlc:Qx O) (hm:Monic m) (h2:2≤m.len) (h6:m.len≤6) :
 dn O 0 (.loop Zc_L0) ⟨[(4,.ptr 1 []),(7,(.d (.int .i64 p))),(8,(.d (.sl .leaf (af .i64 (row m))))),(9,.sl 2 [] 0 1 (some 1)),(23,(.d (.int .i64 (((m.len-1:Nat):Int))))),(24,(.d (.int .i64 ((0:Int)))))],[.hole,.box false (D.arr 64 .leaf (af .u8 (pad []))),.sl false .leaf [.int .i64 1]]⟩ =
  some (.exit 0,⟨[(4,.ptr 1 []),(7,(.d (.int .i64 p))),(8,(.d (.sl .leaf (af .i64 (row m))))),(9,(.d (.sl .leaf (af .i64 (row (li m)))))),(23,(.d (.int .i64 (((m.len-1:Nat):Int))))),(24,(.d (.int .i64 (((m.len-1:Nat):Int))))),(25,(.d (.bool false)))],[.hole,.box false (D.arr 64 .leaf (af .u8 (pad []))),.hole]⟩):=by
 have hkl:(0:Int)<((m.len-1:Nat):Int):=by omega
 obtain ⟨e1,e2⟩:=Bf (p:=p) hno hnu (k:=0) (by omega)
 obtain ⟨f,f1,f2,e3⟩:=han p m (pw Pol.X 0) hm.2 (by omega) (by rw [jp]; omega)
 have e4:=hlc p 1 f Pol.one_ne f1.mon.2 (by rw [Pol.len_one]; omega) (by omega)
 rw [tf,show af .i64 [1]=[.int .i64 1] from rfl] at e4;rw [si] at e1 e2;have w1:IntKind.i64.wrap 1=1:=rfl;refine cg ?_ (a6s hno hnu han hlc hm h2 h6 (m.len-2) (0+1) _ (by omega) ((ExI.zero m).next hm.2 (by omega) f1))
 generalize row (pw (Pol.X:Fp p) 0)=Rx at *;generalize row (1*f/Pol.gcd 1 f)=Rl at *;generalize row f=Rf at *;generalize row m=Rm at *;generalize ((m.len-1:Nat):Int)=n at *;simp -implicitDefEqProofs at e1;simp -implicitDefEqProofs [Zc_L0,aw,hkl,e1,e2,e3,e4,w1]
end
open Classical in
noncomputable def exO (p:Int) (l:List Int):D:=
 if lh p l []=0 then (if h:IsP p then haveI:=h; .tup [(D.arr 64 .leaf (af .u8 (pad (row (li (fe p l)))))),(D.int .i64 0)] else .tup [(D.arr 64 .leaf (af .u8 (pad []))),(D.int .i64 0)]) else .tup [(D.arr 64 .leaf (af .u8 (pad []))),(D.int .i64 (lh p l []))]
theorem E6 {p:Int} [ip:IsP p] {m:Fp p} (hm:Monic m) (h2:2≤m.len) (h6:m.len≤6):exO p (pad (row m))=.tup [(D.arr 64 .leaf (af .u8 (pad (row (li m))))),(D.int .i64 0)]:=by
 unfold exO;rw [if_pos (show lh p (pad (row m)) []=0 from Dn hm h2 h6 []),dif_pos ip,jn (by omega)]
theorem X0 {p:Int} {l:List Int} (h:¬ lh p l []=0):exO p l=.tup [(D.arr 64 .leaf (af .u8 (pad []))),(D.int .i64 (lh p l []))]:=by unfold exO; rw [if_neg h]
def mn (O:ap) (F:Nat):Prop:=∀(p:Int) (l:List Int),gw l→l.length=64→ask O F [(D.int .i64 p),(D.arr 64 .leaf (af .u8 l))]=some (exO p l)
theorem Lz (hT:T Fc=some Zc) (hmc:yu (den T A)) (hro:od (den T A)) (hdg:lg (den T A)) (hno:xe (den T A)) (hnu:kq (den T A)) (han:wk (den T A)) (hlc:Qx (den T A)) (hto:zj (den T A)):mn (den T A) Fc:=by
 intro p l hb hl;have e1:=hmc p l hb hl
 by_cases h0:lh p l []=0
 ·obtain ⟨ip,m,rfl,hm,h2,h6⟩:=xq h0
  rw [h0] at e1;rw [E6 hm h2 h6];obtain ⟨x1,x2⟩:=tg h2 h6;have e2:=hro p m (by omega)
  have e3:=hdg (row m) (by rw [bi]; omega)
  rw [bi,show (m.len:Int)-1=((m.len-1:Nat):Int) by omega] at e3
  have e6:=hto (row (li m)) (sq _) (by rw [bi]; omega)
  unfold H5 at e6;rw [if_pos (by rw [bi]; omega)] at e6
  have ex:=a8h (O:=den T A) hno hnu han hlc hm h2 h6;refine c9 hT rfl ?_;generalize pad (row (li m))=Pg at *;generalize row (li m)=Rg at *;generalize pad (row m)=Pm at *;generalize row m=Rm at *;generalize ((m.len-1:Nat):Int)=n at *;simp -implicitDefEqProofs [Zc,Zc_B,aw,e1,e2,e3,e6,ex,List.replicate]
 ·rw [X0 h0]
  refine c9 hT rfl ?_;generalize lh p l []=c at *;simp -implicitDefEqProofs [Zc,Zc_B,aw,e1,h0,List.replicate]
theorem J9 (hT:T F3c=some Z3c) (hmc:t5 (den T A)) (hex:wm (den T A)):mn (den T A) F3c:=by
 intro p l hb hl;have e1:=hmc p l [] hb hl (fun x hx=>(List.not_mem_nil hx).elim) (by simp)
 rw [fc] at e1
 by_cases h0:lh p l []=0
 ·obtain ⟨ip,m,rfl,hm,h2,h6⟩:=xq h0
  rw [h0] at e1;rw [E6 hm h2 h6];obtain ⟨x1,x2⟩:=tg h2 h6;have e2:=hex p m (li m) hm.2 (by omega) x1 (by omega)
  refine c9 hT rfl ?_;generalize pad (row (li m))=Pf at *;generalize pad (row m)=Pm at *;simp -implicitDefEqProofs [Z3c,Z3c_B,aw,e1,e2,List.replicate]
 ·rw [X0 h0]
  refine c9 hT rfl ?_;generalize lh p l []=c at *;simp -implicitDefEqProofs [Z3c,Z3c_B,aw,e1,h0,List.replicate]
open Classical in
noncomputable def anO (p:Int) (x l:List Int):D:=
 if lh p l [x]=0 then (if h:IsP p then haveI:=h; .tup [(D.arr 64 .leaf (af .u8 (pad (row (p6 (fe p l) (fe p x%fe p l)))))),(D.int .i64 0)] else .tup [(D.arr 64 .leaf (af .u8 (pad []))),(D.int .i64 0)]) else .tup [(D.arr 64 .leaf (af .u8 (pad []))),(D.int .i64 (lh p l [x]))]
theorem Ee {p:Int} [ip:IsP p] {m x:Fp p} (hx:x.len≤64) (hm:Monic m) (h2:2≤m.len) (h6:m.len≤6):anO p (pad (row x)) (pad (row m))=.tup [(D.arr 64 .leaf (af .u8 (pad (row (p6 m (x%m)))))),(D.int .i64 0)]:=by
 unfold anO;rw [if_pos (show lh p (pad (row m)) [pad (row x)]=0 from Dn hm h2 h6 [x]),dif_pos ip,jn (by omega),jn hx]
theorem Q1 {p:Int} {x l:List Int} (h:¬ lh p l [x]=0):anO p x l=.tup [(D.arr 64 .leaf (af .u8 (pad []))),(D.int .i64 (lh p l [x]))]:=by unfold anO; rw [if_neg h]
theorem Ao {p:Int} {x l:List Int} (hb:gw x) (hl:x.length=64) (h:lh p l [x]=0):∃(_:IsP p) (m a:Fp p),l=pad (row m)∧x=pad (row a)∧a.len≤64∧Monic m∧2≤m.len∧m.len≤6:=by
 obtain ⟨ip,m,rfl,h1,h2,h3⟩:=xq h
 have hc:k8 p ([x]++[pad (row m)])=0:=dj fun g=>by
  rw [Ai g] at h;omega
 obtain ⟨ip2,a,ha,rfl⟩:=oa hb hl (va hc).1;exact ⟨ip,m,a,rfl,rfl,ha,h1,h2,h3⟩
def mh (O:ap) (F:Nat):Prop:=∀(p:Int) (x l:List Int),gw x→x.length=64→gw l→l.length=64→ask O F [(D.int .i64 p),(D.arr 64 .leaf (af .u8 x)),(D.arr 64 .leaf (af .u8 l))]=some (anO p x l)
theorem Hf (hT:T F7=some Z7) (hmc:xu (den T A)) (hro:od (den T A)) (han:wk (den T A)) (hto:zj (den T A)):mh (den T A) F7:=by
 intro p x l hxb hxl hb hl;have e1:=hmc p l [x] hb hl (fun y hy=>by rw [bf.1 hy]; exact ⟨hxl,hxb⟩) (by simp) (by simp)
 rw [show [x].map p7=[(D.arr 64 .leaf (af .u8 x))] from rfl] at e1
 by_cases h0:lh p l [x]=0
 ·obtain ⟨ip,m,a,rfl,rfl,ha,hm,h2,h6⟩:=Ao hxb hxl h0
  rw [h0] at e1;rw [Ee ha hm h2 h6];obtain ⟨x1,x2⟩:=uk hm.2 (Pol.len_mod a hm.2);have e2:=hro p a ha;have e3:=hro p m (by omega)
  obtain ⟨f,f1,f2,e4⟩:=han p m a hm.2 (by omega) ha
  obtain rfl:f=p6 m (a%m):=f1.one (o4 m _) x1;have e6:=hto (row (p6 m (a%m))) (sq _) (by rw [bi]; omega)
  unfold H5 at e6;rw [if_pos (by rw [bi]; omega)] at e6
  refine c9 hT rfl ?_;generalize pad (row (p6 m (a%m)))=Pg at *;generalize row (p6 m (a%m))=Rg at *;generalize pad (row m)=Pm at *;generalize row m=Rm at *;generalize pad (row a)=Pa at *;generalize row a=Ra at *;simp -implicitDefEqProofs at e1;simp -implicitDefEqProofs [Z7,Z7_B,aw,e1,e2,e3,e4,e6,List.replicate]
 ·rw [Q1 h0]
  refine c9 hT rfl ?_;generalize lh p l [x]=c at *;simp -implicitDefEqProofs at e1;simp -implicitDefEqProofs [Z7,Z7_B,aw,e1,h0,List.replicate]
theorem Ex (hT:T F36=some Z36) (hmc:t5 (den T A)) (hmo:xb (den T A)) (han:xl (den T A)):mh (den T A) F36:=by
 intro p x l hxb hxl hb hl;have e1:=hmc p l [x] hb hl (fun y hy=>by rw [bf.1 hy]; exact ⟨hxl,hxb⟩) (by simp)
 rw [show [x].map p7=[(D.arr 64 .leaf (af .u8 x))] from rfl] at e1
 by_cases h0:lh p l [x]=0
 ·obtain ⟨ip,m,a,rfl,rfl,ha,hm,h2,h6⟩:=Ao hxb hxl h0
  rw [h0] at e1;rw [Ee ha hm h2 h6];have hlm:=Pol.len_mod a hm.2;obtain ⟨x1,x2⟩:=uk hm.2 hlm;have e2:=hmo p a m hm.2 ha (by omega)
  have e3:=han p m [a%m] (p6 m (a%m)) hm.2 (by omega) (fun y hy=>by rw [bf.1 hy]; exact hlm) (by simp; omega) (by simp) (N3 hm.2 hlm x1) (by omega)
  rw [show [a%m].map eo=[(D.arr 64 .leaf (af .u8 (pad (row (a%m)))))] from rfl] at e3;refine c9 hT rfl ?_;generalize pad (row (p6 m (a%m)))=Pg at *;generalize pad (row (a%m))=Pr at *;generalize pad (row m)=Pm at *;generalize pad (row a)=Pa at *;simp -implicitDefEqProofs [Z36,Z36_B,aw,e1,e2,e3,List.replicate]
 ·rw [Q1 h0]
  refine c9 hT rfl ?_;generalize lh p l [x]=c at *;simp -implicitDefEqProofs [Z36,Z36_B,aw,e1,h0,List.replicate]
end Pe
namespace Pe
open Go Gq
variable {T:Nat→Option Fn} {A:ap}
theorem G4:∀(l1 l2:List Nat),l1.Nodup→(∀x∈l1,x∈l2)→l1.length≤l2.length
 | [],_,_,_=>kf _
 | x::l1,l2,hn,hs=>by
  obtain ⟨h1,h2⟩:=iq.1 hn;have hx:=hs x (by simp)
  have ih:=G4 l1 (l2.erase x) h2 fun y hy=>(List.mem_erase_of_ne (by rintro rfl; exact h1 hy)).2 (hs y (by simp [hy]))
  have:=List.length_erase_of_mem hx;have:=List.length_pos_of_mem hx;rw [c7]; omega
section
variable {p:Int} [IsP p]
theorem Ef:∀{L:List (Fp p)} {v:Fp p},(∀b∈L,b≠0)→(L.map Pol.len).Nodup→Spn L v→v≠0→v.len∈L.map Pol.len
 | [],v,_,_,hs,hv=>absurd (Spn.inside (S:=fun y=>y=0) rfl (fun k a b ha hb=>by rw [ha,hb,Gq.mul_zero,Gq.add_zero]) (fun a ha=>by cases ha) hs) hv
 | b::L,v,h0,hn,hs,hv=>by
  rw [db] at hn ⊢;obtain ⟨n1,n2⟩:=iq.1 hn
  obtain ⟨k,z,hz1,rfl⟩:∃(k:Zp p) (z:Fp p),Spn L z∧v=Pol.C k*b+z:=by
   refine Spn.inside (S:=fun y=>∃(k:Zp p) (z:Fp p),Spn L z∧y=Pol.C k*b+z) ⟨0,0,.zero,by rw [Pol.C_zero,Gq.zero_mul,Gq.zero_add]⟩ ?_ ?_ hs
   ·rintro k _ _ ⟨k1,z1,s1,rfl⟩ ⟨k2,z2,s2,rfl⟩
    refine ⟨k*k1+k2,Pol.C k*z1+z2,(s1.smul k).add s2,?_⟩;rw [Pol.C_add,Pol.C_mul];exact bj [Pol.C k,Pol.C k1,Pol.C k2,b,z1,z2] rfl
   ·intro a ha
    rcases cn.1 ha with rfl | ha
    ·exact ⟨1,0,.zero,by rw [show Pol.C (1:Zp p)=1 from rfl,Gq.one_mul,Gq.add_zero]⟩
    ·exact ⟨0,a,.mem ha,by rw [Pol.C_zero,Gq.zero_mul,Gq.zero_add]⟩
  have hb0:=h0 b (by simp)
  have hbp:=Pol.len_pos hb0
  by_cases hk:k=0
  ·subst hk
   rw [Pol.C_zero,Gq.zero_mul,Gq.zero_add] at hv ⊢;exact kg _ (Ef (fun c hc=>h0 c (by simp [hc])) n2 hz1 hv)
  ·have hkl:∀i,(Pol.C k*b).c i=k*b.c i:=fun i=>Pol.c_Cmul k b i
   have hkb:(Pol.C k*b).len=b.len:=by
    have h1:=jg k b
    have h2:¬ (Pol.C k*b).len≤b.len-1:=fun h=>by
     have:=jt (n:=b.len-1) h;rw [hkl] at this;rcases Fd.zero_or this with h | h
     ·exact hk h
     ·exact Pol.ld_ne hb0 h
    omega
   by_cases hz:z=0
   ·rw [hz,Gq.add_zero,hkb]; exact List.mem_cons_self ..
   ·have ih:=Ef (fun c hc=>h0 c (by simp [hc])) n2 hz1 hz
    have hne:z.len≠b.len:=fun e=>n1 (e▸ih)
    have hzp:=Pol.len_pos hz
    by_cases hlt:z.len<b.len
    ·have:(Pol.C k*b+z).len=b.len:=by
      have h1:=Pol.len_add_le (a:=Pol.C k*b) (b:=z) (n:=b.len) (by omega) (by omega)
      have h2:¬ (Pol.C k*b+z).len≤b.len-1:=fun h=>by
       have:=jt (n:=b.len-1) h;rw [Pol.c_add,hkl,jt (n:=b.len-1) (by omega:z.len≤b.len-1),Gq.add_zero] at this
       rcases Fd.zero_or this with h | h
       ·exact hk h
       ·exact Pol.ld_ne hb0 h
      omega
     rw [this]; exact List.mem_cons_self ..
    ·have:(Pol.C k*b+z).len=z.len:=by
      have h1:=Pol.len_add_le (a:=Pol.C k*b) (b:=z) (n:=z.len) (by omega) (by omega)
      have h2:¬ (Pol.C k*b+z).len≤z.len-1:=fun h=>by
       have:=jt (n:=z.len-1) h;rw [Pol.c_add,hkl,jt (n:=z.len-1) (by omega:b.len≤z.len-1),Gq.mul_zero,Gq.zero_add] at this
       exact Pol.ld_ne hz this
      omega
     rw [this]; exact kg _ ih
theorem a8n {L M:List (Fp p)} (hL:∀b∈L,b≠0) (hM:∀b∈M,b≠0) (nL:(L.map Pol.len).Nodup) (nM:(M.map Pol.len).Nodup) (h1:∀b∈L,Spn M b) (h2:∀b∈M,Spn L b):L.length=M.length:=by
 have a1:=G4 (L.map Pol.len) (M.map Pol.len) nL fun x hx=>by
  obtain ⟨b,hb,rfl⟩:=ch.1 hx;exact Ef hM nM (h1 b hb) (hL b hb)
 have a2:=G4 (M.map Pol.len) (L.map Pol.len) nM fun x hx=>by
  obtain ⟨b,hb,rfl⟩:=ch.1 hx;exact Ef hL nL (h2 b hb) (hM b hb)
 rw [ba,ba] at a1 a2;omega
noncomputable def ptV:List (Fp p)→Fp p→Fp p
 | [],a=>a
 | b::L,a=>ptV L (a+Pol.C (-a.c (b.len-1))*b)
noncomputable def ptO (v:Fp p):Fp p:=Pol.C (Fd.inv v.ld)*v
open Classical in
noncomputable def ptL (L:List (Fp p)) (a:Fp p):List (Fp p):=
 if ptV L a=0 then L else L.map (fun b=>b+Pol.C (-b.c ((ptV L a).len-1))*ptO (ptV L a))++[ptO (ptV L a)]
structure PutI (N:Nat) (L:List (Fp p)):Prop where
 mon:∀b∈L,Monic b∧b.len≤N
 off:L.Pairwise fun a b=>a.c (b.len-1)=0∧b.c (a.len-1)=0
theorem PutI.nil (N:Nat):PutI N ([]:List (Fp p)):=⟨fun b hb=>(List.not_mem_nil hb).elim,.nil⟩
theorem PutI.nodup {N:Nat} {L:List (Fp p)} (h:PutI N L):(L.map Pol.len).Nodup:=by
 unfold List.Nodup;rw [jm];refine List.Pairwise.imp_of_mem ?_ h.off;intro a b ha hb hab e;have h1:=(h.mon b hb).1.1;have h2:b.c (a.len-1)=1:=by rw [e]; exact h1
 rw [hab.2] at h2;exact Fd.one_ne h2.symm
theorem Vo {N:Nat}:∀{L:List (Fp p)} {a:Fp p},(∀b∈L,Monic b∧b.len≤N)→(L.Pairwise fun a b=>a.c (b.len-1)=0∧b.c (a.len-1)=0)→a.len≤N→(ptV L a).len≤N∧(∀b∈L,(ptV L a).c (b.len-1)=0)∧(∀i,(∀b∈L,b.c i=0)→(ptV L a).c i=a.c i)∧∃s,Spn L s∧a=ptV L a+s
 | [],a,_,_,ha=>⟨ha,fun b hb=>(List.not_mem_nil hb).elim,fun _ _=>rfl,0,.zero,(Gq.add_zero _).symm⟩
 | b::L,a,hm,ho,ha=>by
  obtain ⟨o1,o2⟩:=dh.1 ho;obtain ⟨bm,bl⟩:=hm b (by simp)
  obtain ⟨i1,i2,i3,s,i4,i5⟩:=Vo (L:=L) (a:=a+Pol.C (-a.c (b.len-1))*b) (fun c hc=>hm c (by simp [hc])) o2 (Pol.len_add_le ha (du (jg _ _) bl))
  have hz:(a+Pol.C (-a.c (b.len-1))*b).c (b.len-1)=0:=by
   rw [Pol.c_add,Pol.c_Cmul,show b.c (b.len-1)=1 from bm.1];exact bj [a.c (b.len-1)] rfl
  rw [ptV];refine ⟨i1,fun c hc=>?_,fun i hi=>?_,Pol.C (a.c (b.len-1))*b+s,?_,?_⟩
  ·rcases cn.1 hc with rfl | hc
   ·exact (i3 _ fun d hd=>(o1 d hd).2).trans hz
   ·exact i2 c hc
  ·refine (i3 i fun d hd=>hi d (by simp [hd])).trans ?_
   rw [Pol.c_add,Pol.c_Cmul,hi b (by simp),Gq.mul_zero,Gq.add_zero]
  ·exact ((Spn.mem (List.mem_cons_self ..)).smul _).add (Spn.sup (fun c hc=>.mem (kg _ hc)) i4)
  ·have e:a=a+Pol.C (-a.c (b.len-1))*b+Pol.C (a.c (b.len-1))*b:=by
    rw [Pol.C_neg];exact bj [a,Pol.C (a.c (b.len-1)),b] rfl
   conv=>lhs; rw [e,i5]
   exact bj [ptV L (a+Pol.C (-a.c (b.len-1))*b),s,Pol.C (a.c (b.len-1))*b] rfl
theorem a4o {v:Fp p} (hv:v≠0):Monic (ptO v)∧(ptO v).len=v.len∧v=Pol.C v.ld*ptO v:=by
 have hld:=Pol.ld_ne hv
 have back:v=Pol.C v.ld*(Pol.C (Fd.inv v.ld)*v):=by
  rw [←Gq.mul_assoc,←Pol.C_mul,Fd.mul_inv _ hld,show Pol.C (1:Zp p)=1 from rfl,Gq.one_mul]
 have hl:(ptO v).len=v.len:=by
  have a1:=jg (Fd.inv v.ld) v;have a2:=jg v.ld (Pol.C (Fd.inv v.ld)*v);rw [←back] at a2;unfold ptO;omega
 refine ⟨⟨?_,fun e=>hv ?_⟩,hl,back⟩
 ·show (ptO v).c ((ptO v).len-1)=1
  rw [hl];unfold ptO;rw [Pol.c_Cmul,Gq.mul_comm];exact Fd.mul_inv _ hld
 ·have e2:Pol.C (Fd.inv v.ld)*v=0:=e
  rw [back,e2,Gq.mul_zero]
theorem PutI.next {N:Nat} {L:List (Fp p)} (h:PutI N L) {a:Fp p} (ha:a.len≤N):PutI N (ptL L a)∧(∀b∈L,Spn (ptL L a) b)∧Spn (ptL L a) a∧(∀b∈ptL L a,Spn (L++[a]) b):=by
 obtain ⟨h1,h2,-,s,h4,h5⟩:=Vo (N:=N) h.mon h.off ha;unfold ptL
 by_cases hv:ptV L a=0
 ·rw [if_pos hv]
  rw [hv,Gq.zero_add] at h5;exact ⟨h,fun b hb=>.mem hb,by rw [h5]; exact h4,fun b hb=>.mem (c6 _ hb)⟩
 ·rw [if_neg hv]
  obtain ⟨m1,m2,m3⟩:=a4o hv;generalize ptV L a=v at *;have vp:=Pol.len_pos hv
  have oc:∀b∈L,(ptO v).c (b.len-1)=0:=fun b hb=>by
   unfold ptO;rw [Pol.c_Cmul,h2 b hb,Gq.mul_zero]
  have ol:(ptO v).c (v.len-1)=1:=by rw [←m2]; exact m1.1
  -- an old row,reduced
  have row_ok:∀b∈L,(b+Pol.C (-b.c (v.len-1))*ptO v).len=b.len∧Monic (b+Pol.C (-b.c (v.len-1))*ptO v)∧(b+Pol.C (-b.c (v.len-1))*ptO v).c (v.len-1)=0:=fun b hb=>by
   obtain ⟨bm,bl⟩:=h.mon b hb;have bp:=Pol.len_pos bm.2
   have z:(b+Pol.C (-b.c (v.len-1))*ptO v).c (v.len-1)=0:=by
    rw [Pol.c_add,Pol.c_Cmul,ol];exact bj [b.c (v.len-1)] rfl
   have o:(b+Pol.C (-b.c (v.len-1))*ptO v).c (b.len-1)=1:=by
    rw [Pol.c_add,Pol.c_Cmul,oc b hb,Gq.mul_zero,Gq.add_zero];exact bm.1
   have hl:(b+Pol.C (-b.c (v.len-1))*ptO v).len≤b.len:=by
    by_cases hlt:b.len≤v.len-1
    ·rw [jt hlt,show (-0:Zp p)=0 from bj [(0:Zp p)] rfl,Pol.C_zero,Gq.zero_mul,Gq.add_zero]
     omega
    ·exact Pol.len_add_le (bh _) (du (jg _ _) (by omega))
   have hl2:¬ (b+Pol.C (-b.c (v.len-1))*ptO v).len≤b.len-1:=fun g=>by
    have:=jt (n:=b.len-1) g;rw [o] at this;exact Fd.one_ne this
   have hl3:(b+Pol.C (-b.c (v.len-1))*ptO v).len=b.len:=by omega
   refine ⟨hl3,⟨?_,fun e=>?_⟩,z⟩
   ·show (b+Pol.C (-b.c (v.len-1))*ptO v).c ((b+Pol.C (-b.c (v.len-1))*ptO v).len-1)=1
    rw [hl3]; exact o
   ·rw [e] at o
    exact Fd.one_ne o.symm
  have so:Spn (L.map (fun b=>b+Pol.C (-b.c (v.len-1))*ptO v)++[ptO v]) (ptO v):=.mem (fh _ (bf.2 rfl))
  have sb:∀b∈L,Spn (L.map (fun b=>b+Pol.C (-b.c (v.len-1))*ptO v)++[ptO v]) b:=fun b hb=>by
   have e:b=(b+Pol.C (-b.c (v.len-1))*ptO v)+Pol.C (b.c (v.len-1))*ptO v:=by
    rw [Pol.C_neg];exact bj [b,Pol.C (b.c (v.len-1)),ptO v] rfl
   rw [e];exact (Spn.mem (c6 _ (ch.2 ⟨b,hb,rfl⟩))).add (so.smul _)
  have sv:Spn (L++[a]) v:=by
   have e:v=a-s:=by
    rw [h5];exact bj [v,s] rfl
   rw [e,Gq.sub_eq];exact (Spn.mem (fh _ (bf.2 rfl))).add (Spn.sup (fun c hc=>.mem (c6 _ hc)) h4).neg
  have spo:Spn (L++[a]) (ptO v):=by
   unfold ptO;exact sv.smul _
  refine ⟨⟨fun b hb=>?_,?_⟩,sb,?_,fun b hb=>?_⟩
  ·rcases bn.1 hb with hb | hb
   ·obtain ⟨c,hc,rfl⟩:=ch.1 hb
    obtain ⟨r1,r2,-⟩:=row_ok c hc;have:=(h.mon c hc).2;exact ⟨r2,by omega⟩
   ·rw [bf.1 hb]
    exact ⟨m1,by omega⟩
  ·rw [fo,jm]
   refine ⟨List.Pairwise.imp_of_mem ?_ h.off,f9 _ _,fun x hx y hy=>?_⟩
   ·intro x y hx hy hxy
    obtain ⟨x1,-,-⟩:=row_ok x hx;obtain ⟨y1,-,-⟩:=row_ok y hy;rw [x1,y1,Pol.c_add,Pol.c_Cmul,Pol.c_add,Pol.c_Cmul,oc x hx,oc y hy,hxy.1,hxy.2,Gq.mul_zero,Gq.mul_zero,Gq.add_zero];exact ⟨rfl,rfl⟩
   ·obtain ⟨c,hc,rfl⟩:=ch.1 hx
    obtain ⟨c1,-,c3⟩:=row_ok c hc;rw [bf.1 hy,m2,c1];exact ⟨c3,oc c hc⟩
  ·have sv2:=so.smul v.ld
   rw [←m3] at sv2;rw [h5];exact sv2.add (Spn.sup sb h4)
  ·rcases bn.1 hb with hb | hb
   ·obtain ⟨c,hc,rfl⟩:=ch.1 hb
    exact (Spn.mem (c6 _ hc)).add (spo.smul _)
   ·rw [bf.1 hb]; exact spo
noncomputable def ptA:List (Fp p)→List (Fp p)→List (Fp p)
 | [],L=>L
 | x::xs,L=>ptA xs (ptL L x)
theorem a45 {N:Nat}:∀{xs L:List (Fp p)},PutI N L→(∀x∈xs,x.len≤N)→PutI N (ptA xs L)∧(∀y,Spn L y→Spn (ptA xs L) y)∧(∀x∈xs,Spn (ptA xs L) x)∧∀b∈ptA xs L,Spn (L++xs) b
 | [],L,h,_=>⟨h,fun _ h=>h,fun x hx=>(List.not_mem_nil hx).elim,fun b hb=>by rw [kw]; exact .mem hb⟩
 | x::xs,L,h,hx=>by
  obtain ⟨n1,n2,n3,n4⟩:=h.next (hx x (by simp))
  obtain ⟨i1,i2,i3,i4⟩:=a45 (xs:=xs) n1 fun y hy=>hx y (by simp [hy])
  refine ⟨i1,fun y hy=>i2 y (Spn.sup n2 hy),fun y hy=>?_,fun b hb=>?_⟩
  ·rcases cn.1 hy with rfl | hy
   ·exact i2 _ n3
   ·exact i3 y hy
  ·refine Spn.sup (fun c hc=>?_) (i4 b hb)
   rcases bn.1 hc with hc | hc
   ·refine Spn.sup (fun d hd=>.mem ?_) (n4 c hc)
    rcases bn.1 hd with hd | hd
    ·exact c6 _ hd
    ·exact fh _ (by rw [bf.1 hd]; exact List.mem_cons_self ..)
   ·exact .mem (fh _ (kg _ hc))
theorem a8j {N:Nat} {xs:List (Fp p)} (hx:∀x∈xs,x.len≤N):(ptA xs []).length=(lc xs []).length:=by
 obtain ⟨i1,-,i3,i4⟩:=a45 (PutI.nil N) hx;have d:=Cs (Desc.nil N) hx;obtain ⟨s1,s2⟩:=Mj (xs:=xs) (L:=[]);have s3:∀b∈lc xs [],Spn xs b:=Sr (S:=Spn xs) .zero (fun k a b ha hb=>(ha.smul k).add hb) (fun a ha=>(List.not_mem_nil ha).elim) (fun x hx=>.mem hx)
 refine a8n (fun b hb=>(i1.mon b hb).1.2) (fun b hb=>(d.mon b hb).2) i1.nodup ?_ (fun b hb=>?_) fun b hb=>?_
 ·unfold List.Nodup
  rw [jm];exact d.pw.imp fun h e=>by omega
 ·have:=i4 b hb
  rw [fb] at this;exact Spn.sup s2 this
 ·exact Spn.sup i3 (s3 b hb)
end
section
variable {p:Int} [IsP p]
theorem J5 {m a x:Fp p} (hm:m≠0) (hml:m.len≤64) (hx:x.len<m.len):∀n,(dz (fun i=>Pol.C (a.c i)*stI m i x) n).len≤64
 | 0=>by show (0:Fp p).len≤_; rw [Pol.len_zero]; omega
 | n+1=>Pol.len_add_le (J5 hm hml hx n) (du (jg _ _) (by have:=yw hm hx n; omega))
theorem a5k {O:ap} (hdg:iu O) (had:mf O) (hst:uj O) {m a x:Fp p} (hm:m≠0) (hml:m.len≤64) (ha:a.len≤64) (hx:x.len<m.len):∀(r k:Nat),k+r=a.len →
 dn O 0 (.loop Z47_L0) ⟨[(0,(.d (.int .i64 p))),(5,.ptr 0 []),(7,.ptr 2 []),(8,.ptr 3 []),(9,.ptr 4 []),(10,.ptr 5 []),(11,(.d (.int .i64 k)))],[.box false (D.arr 64 .leaf (af .u8 (pad (row a)))),.hole,.box false (D.arr 64 .leaf (af .u8 (pad (row m)))),.box false (D.arr 64 .leaf (af .u8 (pad []))),.box false (D.arr 64 .leaf (af .u8 (pad (row (dz (fun i=>Pol.C (a.c i)*stI m i x) k))))),.box false (D.arr 64 .leaf (af .u8 (pad (row (stI m k x)))))]⟩ =
  some (.exit 0,⟨[(0,(.d (.int .i64 p))),(5,.ptr 0 []),(7,.ptr 2 []),(8,.ptr 3 []),(9,.ptr 4 []),(10,.ptr 5 []),(11,(.d (.int .i64 a.len))),(20,(.d (.bool false)))],[.box false (D.arr 64 .leaf (af .u8 (pad (row a)))),.hole,.box false (D.arr 64 .leaf (af .u8 (pad (row m)))),.box false (D.arr 64 .leaf (af .u8 (pad []))),.box false (D.arr 64 .leaf (af .u8 (pad (row (dz (fun i=>Pol.C (a.c i)*stI m i x) a.len))))),.box false (D.arr 64 .leaf (af .u8 (pad (row (stI m a.len x)))))]⟩)
 | 0,k,hk=>by
  obtain rfl:k=a.len:=by omega
  have e1:=hdg p a ha;have hno:¬ (a.len:Int)≤(a.len:Int)-1:=by omega
  refine cm ?_;generalize pad (row (dz (fun i=>Pol.C (a.c i)*stI m i x) a.len))=R1 at *
  generalize pad (row (stI m a.len x))=R2 at *;generalize pad (row a)=Ra at *;generalize pad (row m)=Rm at *;generalize (a.len:Int)-1=d at *;generalize (a.len:Int)=n at *;simp -implicitDefEqProofs [Z47_L0,aw,e1,hno]
 | r+1,k,hk=>by
  have e1:=hdg p a ha;have hyes:(k:Int)≤(a.len:Int)-1:=by omega
  have hk64:k<64:=by omega
  have hs:=yw hm hx k;have hri:=gr (a.c k);have hpl:=IsP.le (p:=p);have e2:=had p (rep (a.c k)) (dz (fun i=>Pol.C (a.c i)*stI m i x) k) (stI m k x) (by omega) (by omega) (J5 hm hml hx k) (by omega)
  rw [jq,show dz (fun i=>Pol.C (a.c i)*stI m i x) k+Pol.C (a.c k)*stI m k x=dz (fun i=>Pol.C (a.c i)*stI m i x) (k+1) from rfl] at e2
  have e3:=hst p m (stI m k x) hm hml hs;rw [show stp m (stI m k x)=stI m (k+1) x from rfl] at e3;have hget:(pad (row a))[k]? = some (rep (a.c k)):=by rw [ml _ _ hk64,ft]
  have hga:∀h:k<(pad (row a)).length,(pad (row a))[k]'h=rep (a.c k):=fun h=>by
   rw [b8 h] at hget;exact au hget
  have hal:(pad (row a)).length=64:=c8 _;have w1:IntKind.i64.wrap (rep (a.c k))=rep (a.c k):=w64 (by omega)
  have w4:IntKind.i64.wrap ((k:Int)+1)=((k+1:Nat):Int):=(w64 (x:=(k:Int)+1) (by omega)).trans (by omega)
  refine cg ?_ (a5k hdg had hst hm hml ha hx r (k+1) (by omega))
  clear hget;generalize pad (row (dz (fun i=>Pol.C (a.c i)*stI m i x) (k+1)))=R1 at *
  generalize pad (row (dz (fun i=>Pol.C (a.c i)*stI m i x) k))=R0 at *
  generalize pad (row (stI m (k+1) x))=R3 at *;generalize pad (row (stI m k x))=R2 at *;generalize rep (a.c k)=cc at *;generalize pad (row a)=Ra at *;generalize pad (row m)=Rm at *;generalize (a.len:Int)-1=d at *;generalize ((k+1:Nat):Int)=K1 at *;simp -implicitDefEqProofs [Z47_L0,aw,e1,hyes,hk64,hal,hga,e2,e3,w1,w4]
end
def J2 (O:ap):Prop:=∀(p:Int) [IsP p] (a x m:Fp p),m≠0→m.len≤64→a.len≤64→x.len≤64→ask O F47 [(D.int .i64 p),(D.arr 64 .leaf (af .u8 (pad (row a)))),(D.arr 64 .leaf (af .u8 (pad (row x)))),(D.arr 64 .leaf (af .u8 (pad (row m))))]=some (D.arr 64 .leaf (af .u8 (pad (row (av m (x%m) a)))))
theorem aad (hT:T F47=some Z47) (hdg:iu (den T A)) (had:mf (den T A)) (hst:uj (den T A)) (hmo:xb (den T A)):J2 (den T A):=by
 intro p ip a x m hm hml ha hx;have e1:=hmo p x m hm hx hml;have e2:=a5k hdg had hst hm hml ha (Pol.len_mod x hm) a.len 0 (by omega)
 rw [show dz (fun i=>Pol.C (a.c i)*stI m i (x%m)) a.len=av m (x%m) a from rfl,show dz (fun i=>Pol.C (a.c i)*stI m i (x%m)) 0=0 from rfl,dt,show stI m 0 (x%m)=x%m from rfl] at e2
 refine c9 hT rfl ?_;generalize pad (row (stI m a.len (x%m)))=R2 at *;generalize pad (row (av m (x%m) a))=R1 at *;generalize pad (row (x%m))=R3 at *;generalize pad (row x)=Rx at *;generalize pad (row a)=Ra at *;generalize pad (row m)=Rm at *;generalize a.len=n at *;simp -implicitDefEqProofs at e2;simp -implicitDefEqProofs [Z47,Z47_B,e1,e2]
section
variable {p:Int} [IsP p]
theorem Xu {O:ap} (hdg:iu O) (had:mf O) {L:List (Fp p)} {n:Nat} (hL:L.length=n) (hn64:n≤1000) (hb:∀b∈L,Monic b∧b.len≤64):∀(r i:Nat) (v:Fp p),i+r=n→v.len≤64 →
 dn O 0 (.loop Z4a_L0) ⟨[(0,(.d (.int .i64 p))),(1,.d (.sl (.arr 64 .leaf) (L.map eo))),(5,.ptr 0 []),(8,(.d (.int .i64 i)))],[.box false (D.arr 64 .leaf (af .u8 (pad (row v)))),.hole,.hole,.hole,.hole,.hole,.hole]⟩ =
  some (.exit 0,⟨[(0,(.d (.int .i64 p))),(1,.d (.sl (.arr 64 .leaf) (L.map eo))),(5,.ptr 0 []),(8,(.d (.int .i64 n))),(17,(.d (.bool false)))],[.box false (D.arr 64 .leaf (af .u8 (pad (row (ptV (L.drop i) v))))),.hole,.hole,.hole,.hole,.hole,.hole]⟩)
 | 0,i,v,hi,hv=>by
  obtain rfl:i=n:=by omega
  rw [cz (show L.length≤i by omega),show ptV ([]:List (Fp p)) v=v from rfl]
  have hKl:(L.map eo).length=i:=by rw [ba]; exact hL
  refine cm ?_;generalize L.map eo=K at *;generalize pad (row v)=P1 at *;simp -implicitDefEqProofs [Z4a_L0,aw,hKl]
 | r+1,i,v,hi,hv=>by
  have h1:i<L.length:=by omega
  have hin:i<n:=by omega
  have hil:(i:Int)<n:=by omega
  obtain ⟨b0,bl⟩:=hb _ (ci h1);have bp:=Pol.len_pos b0.2;have e1:=hdg p L[i] bl;rw [show (L[i].len:Int)-1=((L[i].len-1:Nat):Int) by omega] at e1
  have hat:L[i].len-1<64:=by omega
  have hri:=gr (v.c (L[i].len-1));have hpl:=IsP.le (p:=p);have hget:(pad (row v))[L[i].len-1]? = some (rep (v.c (L[i].len-1))):=by rw [ml _ _ hat,ft]
  have hga:∀h:L[i].len-1<(pad (row v)).length,(pad (row v))[L[i].len-1]'h=rep (v.c (L[i].len-1)):=fun h=>by
   rw [b8 h] at hget;exact au hget
  have hvl:(pad (row v)).length=64:=c8 _;have e2:=had p (-rep (v.c (L[i].len-1))) v L[i] (by omega) (by omega) hv bl
  rw [A8,jq] at e2;have w1:IntKind.i64.wrap (rep (v.c (L[i].len-1)))=rep (v.c (L[i].len-1)):=w64 (by omega)
  have w2:IntKind.i64.wrap (-rep (v.c (L[i].len-1)))=-rep (v.c (L[i].len-1)):=w64 (by omega)
  have w4:IntKind.i64.wrap ((i:Int)+1)=((i+1:Nat):Int):=(w64 (x:=(i:Int)+1) (by omega)).trans (by omega)
  have hx:∀h:i<(L.map eo).length,(L.map eo)[i]'h=(D.arr 64 .leaf (af .u8 (pad (row L[i])))):=fun h=>by rw [f8]
  have hKl:(L.map eo).length=n:=by rw [ba]; exact hL
  have hd:ptV (L.drop i) v=ptV (L.drop (i+1)) (v+Pol.C (-v.c (L[i].len-1))*L[i]):=by
   rw [bx h1]; rfl
  have hzz:rep (v.c (L[i].len-1))=0→v+Pol.C (-v.c (L[i].len-1))*L[i]=v:=fun h=>by
   have h0:v.c (L[i].len-1)=0:=Be (by rw [h,rep_zero])
   rw [h0,show (-0:Zp p)=0 from bj [(0:Zp p)] rfl,Pol.C_zero,Gq.zero_mul,Gq.add_zero]
  rw [hd];refine cg ?_ (Xu hdg had hL hn64 hb r (i+1) (v+Pol.C (-v.c (L[i].len-1))*L[i]) (by omega) (Pol.len_add_le hv (du (jg _ _) bl)))
  by_cases hc:rep (v.c (L[i].len-1))=0
  ·rw [hzz hc]
   rw [hc] at hga;clear e2 hget hd hzz;generalize L[i].len-1=dd at *;generalize pad (row L[i])=Pb at *;generalize pad (row v)=P1 at *;generalize L.map eo=K at *;simp -implicitDefEqProofs [Z4a_L0,aw,hil,hin,hat,hvl,hKl,hx,hga,e1,w4]
  ·clear hget hd hzz
   generalize pad (row (v+Pol.C (-v.c (L[i].len-1))*L[i]))=P4 at *;generalize rep (v.c (L[i].len-1))=cc at *;generalize L[i].len-1=dd at *;generalize pad (row L[i])=Pb at *;generalize pad (row v)=P1 at *;generalize L.map eo=K at *;simp -implicitDefEqProofs [Z4a_L0,aw,hil,hin,hat,hvl,hKl,hx,hga,hc,e1,e2,w1,w2,w4]
theorem Yg {O:ap} (had:mf O) {L:List (Fp p)} {n d:Nat} {w:Fp p} (hw:w.len≤64) (hd64:d<64) (hL:L.length=n) (hn64:n≤1000) (hb:∀b∈L,Monic b∧b.len≤64):∀(r i:Nat) (cp:Option Nat),i+r=n→∃cp':Option Nat,
 dn O 0 (.loop Z4a_L1) ⟨[(0,(.d (.int .i64 p))),(1,.d (.sl (.arr 64 .leaf) (L.map eo))),(10,(.d (.int .i64 d))),(11,.ptr 1 []),(12,.sl 2 [] 0 i cp),(13,(.d (.int .i64 i)))],[.hole,.box false (D.arr 64 .leaf (af .u8 (pad (row w)))),.sl false (.arr 64 .leaf) (((L.take i).map (fun b=>b+Pol.C (-b.c d)*w)).map eo),.hole,.hole,.hole,.hole]⟩ =
  some (.exit 2,⟨[(0,(.d (.int .i64 p))),(1,.d (.sl (.arr 64 .leaf) (L.map eo))),(10,(.d (.int .i64 d))),(11,.ptr 1 []),(12,.sl 2 [] 0 n cp'),(13,(.d (.int .i64 n))),(60,(.d (.bool false)))],[.hole,.box false (D.arr 64 .leaf (af .u8 (pad (row w)))),.sl false (.arr 64 .leaf) ((L.map (fun b=>b+Pol.C (-b.c d)*w)).map eo),.hole,.hole,.hole,.hole]⟩)
 | 0,i,cp,hi=>by
  obtain rfl:i=n:=by omega
  rw [bg (show L.length≤i by omega)]
  have hKl:(L.map eo).length=i:=by rw [ba]; exact hL
  refine ⟨cp,cm ?_⟩;generalize (L.map (fun b=>b+Pol.C (-b.c d)*w)).map eo=Q at *
  generalize L.map eo=K at *;generalize pad (row w)=P1 at *;simp -implicitDefEqProofs [Z4a_L1,aw,hKl]
 | r+1,i,cp,hi=>by
  have h1:i<L.length:=by omega
  have hin:i<n:=by omega
  have hil:(i:Int)<n:=by omega
  obtain ⟨b0,bl⟩:=hb _ (ci h1);have hri:=gr (L[i].c d);have hpl:=IsP.le (p:=p);have hget:(pad (row L[i]))[d]? = some (rep (L[i].c d)):=by rw [ml _ _ hd64,ft]
  have hga:∀h:d<(pad (row L[i])).length,(pad (row L[i]))[d]'h=rep (L[i].c d):=fun h=>by
   rw [b8 h] at hget;exact au hget
  have hvl:(pad (row L[i])).length=64:=c8 _;have e2:=had p (-rep (L[i].c d)) L[i] w (by omega) (by omega) bl hw
  rw [A8,jq] at e2;have w1:IntKind.i64.wrap (rep (L[i].c d))=rep (L[i].c d):=w64 (by omega)
  have w2:IntKind.i64.wrap (-rep (L[i].c d))=-rep (L[i].c d):=w64 (by omega)
  have w4:IntKind.i64.wrap ((i:Int)+1)=((i+1:Nat):Int):=(w64 (x:=(i:Int)+1) (by omega)).trans (by omega)
  have hx:∀h:i<(L.map eo).length,(L.map eo)[i]'h=(D.arr 64 .leaf (af .u8 (pad (row L[i])))):=fun h=>by rw [f8]
  have hKl:(L.map eo).length=n:=by rw [ba]; exact hL
  have hQl:(((L.take i).map (fun b=>b+Pol.C (-b.c d)*w)).map eo).length=i:=by
   rw [ba,ba,bv]; omega
  have htQ:(((L.take i).map (fun b=>b+Pol.C (-b.c d)*w)).map eo).take i=((L.take i).map (fun b=>b+Pol.C (-b.c d)*w)).map eo:=bg (by omega)
  have hbt:(i+1)*64≤1099511627776:=by omega
  obtain ⟨cp',ih⟩:=Yg had hw hd64 hL hn64 hb r (i+1) none (by omega)
  refine ⟨cp',cg ?_ ih⟩;rw [gq h1,di,di,db,fc,db,fc];clear hget ih;unfold eo at *;generalize pad (row (L[i]+Pol.C (-L[i].c d)*w))=P4 at *;generalize rep (L[i].c d)=cc at *;generalize pad (row L[i])=Pb at *;generalize pad (row w)=P1 at *;generalize ((L.take i).map (fun b=>b+Pol.C (-b.c d)*w)).map (fun a=>(D.arr 64 .leaf (af .u8 (pad (row a)))))=Q at *
  generalize L.map (fun a=>(D.arr 64 .leaf (af .u8 (pad (row a)))))=K at *
  generalize ((i+1:Nat):Int)=I1 at *;simp -implicitDefEqProofs [Z4a_L1,aw,hil,hin,hd64,hvl,hKl,hQl,htQ,hbt,hx,hga,e2,w1,w2,w4]
end
open Classical in
def Dx (O:ap):Prop:=∀(p:Int) [IsP p] (L:List (Fp p)) (a:Fp p),PutI 64 L→L.length≤1000→a.len≤64→ask O F4a [(D.int .i64 p),.sl (.arr 64 .leaf) (L.map eo),(D.arr 64 .leaf (af .u8 (pad (row a))))]=some (.tup [.sl (.arr 64 .leaf) ((ptL L a).map eo),(D.bool (decide (ptV L a=0)))])
open Classical in
theorem a1x (hT:T F4a=some Z4a) (hdg:iu (den T A)) (had:mf (den T A)) (hiv:na (den T A)):Dx (den T A):=by
 intro p ip L a hL hl ha;have e1:=Xu hdg had (L:=L) (n:=L.length) rfl hl hL.mon L.length 0 a (by omega) ha
 rw [ef,show ((0:Nat):Int)=0 from rfl] at e1;obtain ⟨v1,-⟩:=Vo hL.mon hL.off ha;have e2:=hdg p (ptV L a) v1;unfold ptL
 by_cases hv:ptV L a=0
 ·rw [if_pos hv,decide_eq_true hv]
  rw [hv,Pol.len_zero,dt] at e2;rw [hv,dt] at e1;refine c9 hT rfl ?_;generalize pad (row a)=Pa at *;generalize L.map eo=K at *;generalize L.length=n at *;simp -implicitDefEqProofs at e2;simp -implicitDefEqProofs [Z4a,Z4a_B,aw,e1,e2]
 ·rw [if_neg hv,decide_eq_false hv]
  obtain ⟨m1,m2,-⟩:=a4o hv;generalize hV:ptV L a=v at *;have vp:=Pol.len_pos hv;rw [show (v.len:Int)-1=((v.len-1:Nat):Int) by omega] at e2
  have hat:v.len-1<64:=by omega
  have hld:=Pol.ld_ne hv;have hri:=gr v.ld
  have hlp:0<rep v.ld:=by
   have:rep v.ld≠0:=fun h=>hld (Be (by rw [h,rep_zero]))
   omega
  have hp7:=IsP.le (p:=p);have e4:=hiv p (rep v.ld) hlp hri.2;have hin:=vd p (rep v.ld);have hget:(pad (row v))[v.len-1]? = some (rep v.ld):=by rw [ml _ _ hat,ft]; rfl
  have hga:∀h:v.len-1<(pad (row v)).length,(pad (row v))[v.len-1]'h=rep v.ld:=fun h=>by
   rw [b8 h] at hget;exact au hget
  have hvl2:(pad (row v)).length=64:=c8 _;have w5:IntKind.i64.wrap (inv p (rep v.ld))=inv p (rep v.ld):=w64 (by omega)
  have e5:=had p (inv p (rep v.ld)) 0 v (by omega) (by omega) (by rw [Pol.len_zero]; omega) v1
  rw [Gq.zero_add,ry _ hld,dt,show Pol.C (Fd.inv v.ld)*v=ptO v from rfl] at e5;obtain ⟨cp,e6⟩:=Yg (O:=den T A) had (w:=ptO v) (by omega) hat (L:=L) (n:=L.length) rfl hl hL.mon L.length 0 (some 0) (by omega)
  rw [il,fc,fc,show ((0:Nat):Int)=0 from rfl] at e6;have hQl:((L.map (fun b=>b+Pol.C (-b.c (v.len-1))*ptO v)).map eo).length=L.length:=by rw [ba,ba]
  have htQ:((L.map (fun b=>b+Pol.C (-b.c (v.len-1))*ptO v)).map eo).take L.length=(L.map (fun b=>b+Pol.C (-b.c (v.len-1))*ptO v)).map eo:=bg (by omega)
  have hbt:(L.length+1)*64≤1099511627776:=by omega
  have hdd:¬ ((v.len-1:Nat):Int)<0:=by omega
  rw [di,db,fc];clear hget hV;refine c9 hT rfl ?_;unfold eo at *;generalize pad (row (ptO v))=Po at *;generalize (L.map (fun b=>b+Pol.C (-b.c (v.len-1))*ptO v)).map (fun a=>(D.arr 64 .leaf (af .u8 (pad (row a)))))=Q at *
  generalize inv p (rep v.ld)=iv at *;generalize rep v.ld=lv at *;generalize v.len-1=dd at *;generalize pad (row v)=Pv at *;generalize pad (row a)=Pa at *;generalize L.map (fun a=>(D.arr 64 .leaf (af .u8 (pad (row a)))))=K at *
  generalize L.length=n at *;have ht2:∀x:D,(Q++[x]).take (n+1)=Q++[x]:=fun x=>bg (by rw [bu,hQl]; exact bh _)
  simp -implicitDefEqProofs [Z4a,Z4a_B,aw,e1,e2,e4,e5,e6,hdd,hat,hga,hvl2,w5,hQl,htQ,hbt,ht2]
end Pe
namespace Pe
open Go Gq
section
variable {p:Int} [IsP p]
def Cop (a b:Fp p):Prop:=∃u v:Fp p,u*a+v*b=1
end
section
variable {p:Int}
theorem Cop.symm {a b:Fp p}:Cop a b→Cop b a:=fun ⟨u,v,h⟩=>⟨v,u,by rw [Gq.add_comm]; exact h⟩
end
section
variable {p:Int} [IsP p]
end
section
variable {p:Int}
theorem Cop.mul {a b c:Fp p}:Cop a c→Cop b c→Cop (a*b) c:=fun ⟨u,v,h⟩ ⟨u',v',h'⟩=>by
 refine ⟨u*u',u*a*v'+v*u'*b+v*c*v',?_⟩;have e:u*u'*(a*b)+(u*a*v'+v*u'*b+v*c*v')*c=(u*a+v*c)*(u'*b+v'*c):=bj [u,u',a,b,v,v',c] rfl;rw [e,h,h',Gq.one_mul]
end
section
variable {p:Int} [IsP p]
theorem Cop.dv {a b f g:Fp p} (h:Cop a b) (hd:Dv a (b*f)) (_hg:g=f):Dv a f:=by
 obtain ⟨u,v,e⟩:=h;obtain ⟨c,hc⟩:=hd;refine ⟨u*f+v*c,?_⟩;have e4:a*(u*f+v*c)=u*a*f+v*(a*c):=bj [a,u,f,v,c] rfl;rw [e4,←hc];have e5:u*a*f+v*(b*f)=(u*a+v*b)*f:=bj [u,a,f,v,b] rfl;rw [e5,e,Gq.one_mul]
theorem Cop.both {a b f:Fp p} (h:Cop a b) (h1:Dv a f) (h2:Dv b f):Dv (a*b) f:=by
 obtain ⟨u,v,e⟩:=h;obtain ⟨c,hc⟩:=h1;obtain ⟨d,hd⟩:=h2;refine ⟨u*d+v*c,?_⟩;have e1:a*b*(u*d+v*c)=u*a*(b*d)+v*b*(a*c):=bj [a,b,u,d,v,c] rfl;rw [e1,←hd,←hc];have e2:u*a*f+v*b*f=(u*a+v*b)*f:=bj [u,a,v,b,f] rfl;rw [e2,e,Gq.one_mul]
theorem S4:∀(n:Nat) (a b:Fp p),a.len≤n→a≠0→b≠0→∃a1 b1:Fp p,Dv a1 a∧Dv b1 b∧Cop a1 b1∧∀f,Dv a1 f→Dv b1 f→Dv a f∧Dv b f
 | 0,a,b,hn,ha,_=>absurd (Pol.len_zero_iff.1 (Nat.le_zero.1 hn)) ha
 | n+1,a,b,hn,ha,hb=>by
  have hg:=Pol.gcd_monic (a:=a) (b:=b) (.inl ha);have d1:=Pol.gcd_dv_left (a:=a) (b:=b) (.inl ha);have d2:=Pol.gcd_dv_right (a:=a) (b:=b) (.inl ha)
  by_cases h1:(Pol.gcd a b).len=1
  ·have e:=Pol.bezout_eq (a:=a) (b:=b) (.inl ha)
   rw [hg.eq_one h1] at e;exact ⟨a,b,Dv.refl a,Dv.refl b,⟨_,_,e⟩,fun f h1 h2=>⟨h1,h2⟩⟩
  ·have gp:=Pol.len_pos hg.2
   obtain ⟨q,hq,mq,dq⟩:=Da _ (Pol.gcd a b) (bh _) (by omega)
   obtain ⟨a0,ea⟩:=dq.trans d1;obtain ⟨b0,eb⟩:=dq.trans d2;have ha0:a0≠0:=fun h=>ha (by rw [ea,h,Gq.mul_zero])
   have hb0:b0≠0:=fun h=>hb (by rw [eb,h,Gq.mul_zero])
   have hl:=Pol.len_mul hq.ne ha0;have hql:=hq.len;have hal:a0.len≤n:=by rw [ea] at hn; omega
   obtain ⟨a1,b1,s1,s2,s3,s4⟩:=S4 n a0 b0 hal ha0 hb0
   have fin:∀x y:Fp p,Cop x y→(x=q*a1∧y=b1∨x=a1∧y=q*b1)→∀f,Dv x f→Dv y f→Dv a f∧Dv b f:=fun x y hc hxy f h1 h2=>by
    obtain ⟨h,hh⟩:=hc.both h1 h2
    have e:f=q*(a1*b1*h):=by
     rcases hxy with ⟨rfl,rfl⟩ | ⟨rfl,rfl⟩
     ·rw [hh]; exact bj [q,a1,y,h] rfl
     ·rw [hh]; exact bj [q,x,b1,h] rfl
    obtain ⟨⟨u,hu⟩,⟨v,hv⟩⟩:=s4 (a1*b1*h) ⟨b1*h,bj [a1,b1,h] rfl⟩ ⟨a1*h,bj [a1,b1,h] rfl⟩;refine ⟨⟨u,?_⟩,⟨v,?_⟩⟩
    ·rw [e,hu,ea]; exact bj [q,a0,u] rfl
    ·rw [e,hv,eb]; exact bj [q,b0,v] rfl
   by_cases hd:Dv q b1
   ·have hna:¬ Dv q a1:=fun hx=>by
     obtain ⟨u,v,e⟩:=s3;obtain ⟨c,hc⟩:=hx;obtain ⟨d,hd⟩:=hd
     have:Dv q 1:=⟨u*c+v*d,by
      rw [←e,hc,hd];exact bj [u,q,c,v,d] rfl⟩
     have:=this.len Pol.one_ne;rw [Pol.len_one] at this;omega
    have hc:Cop a1 (q*b1):=by
     have h1:Cop q a1:=hq.coprime hna;exact (h1.mul s3.symm).symm
    refine ⟨a1,q*b1,s1.trans ⟨q,by rw [ea,Gq.mul_comm]⟩,?_,hc,fin _ _ hc (.inr ⟨rfl,rfl⟩)⟩
    obtain ⟨c,hc⟩:=s2;exact ⟨c,by rw [eb,hc]; exact bj [q,b1,c] rfl⟩
   ·have hc:Cop (q*a1) b1:=by
     have h1:Cop q b1:=hq.coprime hd;exact h1.mul s3
    refine ⟨q*a1,b1,?_,s2.trans ⟨q,by rw [eb,Gq.mul_comm]⟩,hc,fin _ _ hc (.inl ⟨rfl,rfl⟩)⟩
    obtain ⟨c,hc⟩:=s1;exact ⟨c,by rw [ea,hc]; exact bj [q,a1,c] rfl⟩
variable {m:Fp p}
theorem a00 (hm:m≠0) {z w:Fp p} (hz:z.len<m.len) (hw:w.len<m.len):∃x:Fp p,x.len<m.len∧∀f,av m x f=0↔av m z f=0∧av m w f=0:=by
 obtain ⟨a,ha,-⟩:=Oq hm hz;obtain ⟨b,hb,-⟩:=Oq hm hw;obtain ⟨a1,b1,⟨a2,ea⟩,⟨b2,eb⟩,s3,s4⟩:=S4 a.len a b (bh _) ha.mon.2 hb.mon.2;have ia:=fun f=>ha.dvL (o4 m z) (If hm z) (f:=f)
 have ib:=fun f=>hb.dvL (o4 m w) (If hm w) (f:=f)
 have ha20:a2≠0:=fun h=>ha.mon.2 (by rw [ea,h,Gq.mul_zero])
 have hb20:b2≠0:=fun h=>hb.mon.2 (by rw [eb,h,Gq.mul_zero])
 have ka:∀f,av m (av m z a2) f=0↔Dv a1 f:=fun f=>by
  rw [←Cz hm,ia,ea];constructor
  ·rintro ⟨c,hc⟩
   exact ⟨c,Pol.mul_cancel ha20 (by rw [Gq.mul_comm,hc]; exact bj [a1,a2,c] rfl)⟩
  ·rintro ⟨c,rfl⟩
   exact ⟨c,bj [a1,a2,c] rfl⟩
 have kb:∀f,av m (av m w b2) f=0↔Dv b1 f:=fun f=>by
  rw [←Cz hm,ib,eb];constructor
  ·rintro ⟨c,hc⟩
   exact ⟨c,Pol.mul_cancel hb20 (by rw [Gq.mul_comm,hc]; exact bj [b1,b2,c] rfl)⟩
  ·rintro ⟨c,rfl⟩
   exact ⟨c,bj [b1,b2,c] rfl⟩
 have l1:=ub hm hz a2;have l2:=ub hm hw b2;refine ⟨av m z a2+av m w b2,Nat.lt_of_le_of_lt (Pol.len_add_le (n:=m.len-1) (by omega) (by omega)) (by omega),fun f=>?_⟩
 rw [a4c hm];constructor
 ·intro h
  have hA:Dv a1 (b1*f):=by
   rw [←ka,Cz hm]
   have e:av m (av m z a2) f=-av m (av m w b2) f:=by
    have:av m (av m z a2) f=av m (av m z a2) f+av m (av m w b2) f-av m (av m w b2) f:=bj [av m (av m z a2) f,av m (av m w b2) f] rfl;rw [this,h];exact bj [av m (av m w b2) f] rfl
   have e2:av m (-av m (av m w b2) f) b1=-av m (av m (av m w b2) f) b1:=by
    have:=Nj hm (-1:Zp p) (av m (av m w b2) f) b1;rw [Pol.C_neg,Pol.C_one] at this;rw [show (-1:Fp p)*av m (av m w b2) f=-av m (av m w b2) f from bj [av m (av m w b2) f] rfl,show (-1:Fp p)*av m (av m (av m w b2) f) b1=-av m (av m (av m w b2) f) b1 from bj [av m (av m (av m w b2) f) b1] rfl] at this;exact this
   rw [e,e2,←Cz hm,Gq.mul_comm,Cz hm,(kb b1).2 (Dv.refl b1),zi hm];exact bj [(0:Fp p)] rfl
  have h1:=s3.dv hA rfl
  have h2:Dv b1 f:=by
   rw [←kb];have:av m (av m w b2) f=av m (av m z a2) f+av m (av m w b2) f-av m (av m z a2) f:=bj [av m (av m z a2) f,av m (av m w b2) f] rfl;rw [this,h,(ka f).2 h1];exact Gq.sub_self _
  obtain ⟨q1,q2⟩:=s4 f h1 h2;exact ⟨(ia f).2 q1,(ib f).2 q2⟩
 ·rintro ⟨h1,h2⟩
  have q1:Dv a1 f:=Dv.trans ⟨a2,ea⟩ ((ia f).1 h1);have q2:Dv b1 f:=Dv.trans ⟨b2,eb⟩ ((ib f).1 h2);rw [(ka f).2 q1,(kb f).2 q2,Gq.add_zero]
theorem M7 (hm:m≠0):∀n:Nat,n≤m.len-1→∃x:Fp p,x.len<m.len∧∀f,av m x f=0↔∀y∈xsL p n,av m y f=0
 | 0,_=>⟨0,by rw [Pol.len_zero]; exact Pol.len_pos hm,fun f=>⟨fun _ y hy=>(List.not_mem_nil hy).elim,fun _=>zi hm f⟩⟩
 | n+1,hn=>by
  obtain ⟨z,z1,z2⟩:=M7 hm n (by omega)
  obtain ⟨x,x1,x2⟩:=a00 hm z1 (show (pw (Pol.X:Fp p) n).len<m.len by rw [jp]; omega)
  refine ⟨x,x1,fun f=>?_⟩
  rw [x2,z2,B6];constructor
  ·rintro ⟨h1,h2⟩ y hy
   rcases bn.1 hy with hy | hy
   ·exact h1 y hy
   ·rw [bf.1 hy]; exact h2
  ·exact fun h=>⟨fun y hy=>h y (c6 _ hy),h _ (fh _ (bf.2 rfl))⟩
theorem Y1 (hm:2≤m.len) (h6:m.len≤6):∃x:Fp p,x.len<m.len∧p6 m x=li m:=by
 have hm0:m≠0:=fun h=>by rw [h,Pol.len_zero] at hm; omega
 obtain ⟨x,x1,x2⟩:=M7 hm0 (m.len-1) (bh _);obtain ⟨e1,e2⟩:=tg hm h6;obtain ⟨a1,a2⟩:=uk hm0 x1;refine ⟨x,x1,?_⟩;have hx:MinR (jv m (xsL p (m.len-1))) (p6 m x):=a1.of_iff fun f=>by rw [x2,yn hm0 (ud hm)]
 exact hx.one (A9 m _) e1
theorem Y4 (hm:2≤m.len) (h6:m.len≤6):(li m).len≤m.len:=by
 have hm0:m≠0:=fun h=>by rw [h,Pol.len_zero] at hm; omega
 obtain ⟨x,x1,x2⟩:=Y1 hm h6;rw [←x2];exact (uk hm0 x1).2
theorem Sp (hm:m≠0):p6 m 0=1:=by
 have hp:=Pol.len_pos hm;obtain ⟨a1,-⟩:=uk hm (x:=0) (by rw [Pol.len_zero]; exact hp)
 refine a1.one (o4 m 0) ⟨Monic.one,zi hm 1,fun g hg _=>Pol.len_zero_iff.1 (by rw [Pol.len_one] at hg; omega)⟩
structure IsGen (m:Fp p) (k:Nat):Prop where
 one:1≤k
 lt:(k:Int)<p^(m.len-1)
 full:(p6 m (fu p k)).len=m.len
 least:∀j:Nat,1≤j→j<k→(p6 m (fu p j)).len≠m.len
theorem Td {P:Nat→Prop}:∀n:Nat,P n→∃k,k≤n∧P k∧∀j,j<k→¬ P j
 | n,hn=>by
  by_cases h:∃j,j<n∧P j
  ·obtain ⟨j,h1,h2⟩:=h
   obtain ⟨k,k1,k2,k3⟩:=Td j h2;exact ⟨k,by omega,k2,k3⟩
  ·exact ⟨n,bh n,hn,fun j hj hp=>h ⟨j,hj,hp⟩⟩
theorem a7j {x:Fp p} {n:Nat} (hn:n≤5) (hx:x.len≤n):∃k:Nat,(k:Int)<p^n∧fu p k=x:=by
 induction n generalizing x with
 | zero=>
  refine ⟨0,by rw [si]; omega,?_⟩
  rw [Pol.len_zero_iff.1 (Nat.le_zero.1 hx)]
  exact Pol.ext fun i=>by
   rw [show ((0:Nat):Int)=0 from rfl,wu ⟨by omega,by omega⟩,Int.zero_ediv]; rfl
 | succ n ih=>
  have hp:=IsP.ge (p:=p)
  let y:Fp p:=⟨fun i=>x.c (i+1),n,fun i hi=>jt (by omega)⟩
  have hy:y.len≤n:=Pol.len_le fun i hi=>(show x.c (i+1)=0 from jt (by omega))
  obtain ⟨k,k1,k2⟩:=ih (by omega) hy
  have hr:=gr (x.c 0);have hb:=E4 (p:=p) hn;have hb2:=E4 (p:=p) (k:=n) (by omega)
  have hpk:p*(k+1)≤p*p^n:=cw (by omega) (by omega)
  have hpe:p^(n+1)=p*p^n:=by rw [gn,jl]
  have hpm:p*((k:Int)+1)=p*k+p:=by rw [ro,pm]
  have hpk0:0≤p*(k:Int):=fw (by omega) (by omega)
  obtain ⟨j,hj⟩:=Int.eq_ofNat_of_zero_le (show 0≤p*(k:Int)+rep (x.c 0) by omega)
  refine ⟨j,by omega,Pol.ext fun i=>?_⟩
  have k3:∀i,(fu p (k:Int)).c i=x.c (i+1):=fun i=>by rw [k2]
  rw [←hj,wu ⟨by omega,by omega⟩]
  rcases i with _ | i
  ·rw [si,Int.ediv_one]
   have:zp p (p*(k:Int)+rep (x.c 0))=zp p (rep (x.c 0)):=Do.2 (by rw [Int.add_comm,mc])
   rw [this,jq]
  ·rw [←k3 i,wu ⟨by omega,by omega⟩,gn,jl (p^i),←Int.ediv_ediv_of_nonneg (by omega),Int.add_comm,Int.add_mul_ediv_left _ _ (by omega),m5 hr.1 hr.2,Int.zero_add]
theorem a4v (hm:2≤m.len) (h6:m.len≤6) (he:m.len≤(li m).len):∃k,IsGen m k:=by
 have hm0:m≠0:=fun h=>by rw [h,Pol.len_zero] at hm; omega
 obtain ⟨x,x1,x2⟩:=Y1 hm h6;have hel:=Y4 hm h6;obtain ⟨k,k1,k2⟩:=a7j (x:=x) (n:=m.len-1) (by omega) (by omega)
 obtain ⟨j,j1,j2,j3⟩:=Td (P:=fun k=>(p6 m (fu p (k:Int))).len=m.len) k (by rw [k2,x2]; omega)
 refine ⟨j,?_,by omega,j2,fun i _ hi=>j3 i hi⟩
 refine Nat.pos_of_ne_zero fun h0=>?_
 rw [h0] at j2
 have:fu p ((0:Nat):Int)=0:=Pol.ext fun i=>by
  rw [show ((0:Nat):Int)=0 from rfl,wu ⟨by omega,by omega⟩,Int.zero_ediv]; rfl
 rw [this,Sp hm0,Pol.len_one] at j2;omega
theorem IsGen.unique {j k:Nat} (hj:IsGen m j) (hk:IsGen m k):j=k:=by
 have h1:¬ j<k:=fun h=>hk.least j hj.one h hj.full
 have h2:¬ k<j:=fun h=>hj.least k hk.one h hk.full
 omega
end
end Pe
namespace Pe
open Go Gq
variable {T:Nat→Option Fn} {A:ap}
section
variable {p:Int} [IsP p]
noncomputable def n8 (m a:Fp p) (n:Nat):List (Fp p):=(xsL p n).map fun x=>av m x a
theorem a13 (m a:Fp p) (n:Nat):n8 m a (n+1)=n8 m a n++[av m (pw Pol.X n) a]:=by
 unfold n8;rw [B6,di]; rfl
theorem tv (m a:Fp p) (n:Nat):(n8 m a n).length=n:=by unfold n8; rw [ba,su]
theorem Tk {m:Fp p} (hm:m≠0) (a:Fp p) {n:Nat} (hn:n≤m.len-1):∀y∈n8 m a n,y.len<m.len:=fun y hy=>by
 unfold n8 at hy;obtain ⟨x,hx,rfl⟩:=ch.1 hy;have:=Y0 (p:=p) n x hx;have hp:=Pol.len_pos hm;refine ub hm ?_ a;unfold xsL at hx;obtain ⟨k,hk,rfl⟩:=ch.1 hx;have:=im.1 hk;rw [jp]; omega
theorem a6l {O:ap} (hno:xe O) (hnu:kq O) (hro:od O) (hac:G3 O) {m a:Fp p} (hm:Monic m) (h6:m.len≤6) (ha:a.len≤64) {n:Nat} (hn:n=m.len-1):∀(r k:Nat) (ck:Option Nat),k+r=n→∃ck':Option Nat,
 dn O 0 (.loop Zh_L0) ⟨[(4,.ptr 0 []),(9,(.d (.int .i64 p))),(10,(.d (.sl .leaf (af .i64 (row m))))),(11,.sl 3 [] 0 k ck),(25,(.d (.int .i64 n))),(26,(.d (.int .i64 k)))],[.box false (D.arr 64 .leaf (af .u8 (pad (row a)))),.hole,.hole,.sl false .leaf ((n8 m a k).map cj),.hole,.hole]⟩ =
  some (.exit 0,⟨[(4,.ptr 0 []),(9,(.d (.int .i64 p))),(10,(.d (.sl .leaf (af .i64 (row m))))),(11,.sl 3 [] 0 n ck'),(25,(.d (.int .i64 n))),(26,(.d (.int .i64 n))),(27,(.d (.bool false)))],[.box false (D.arr 64 .leaf (af .u8 (pad (row a)))),.hole,.hole,.sl false .leaf ((n8 m a n).map cj),.hole,.hole]⟩)
 | 0,k,ck,hk=>by
  obtain rfl:k=n:=by omega
  refine ⟨ck,cm ?_⟩;generalize (n8 m a k).map cj=K at *;generalize pad (row a)=Pa at *;generalize row m=Rm at *;simp -implicitDefEqProofs [Zh_L0,aw]
 | r+1,k,ck,hk=>by
  have hkn:k<n:=by omega
  have hkl:(k:Int)<n:=by omega
  obtain ⟨e1,e2⟩:=Bf (p:=p) hno hnu (k:=k) (by omega)
  have e3:=hro p a ha;have e4:=hac p a (pw Pol.X k) m hm.2 (by omega) ha (by rw [jp]; omega)
  rw [Pol.mod_small (by rw [jp]; omega)] at e4
  have hKl:((n8 m a k).map cj).length=k:=by rw [ba,tv]
  have htK:((n8 m a k).map cj).take k=(n8 m a k).map cj:=bg (by omega)
  have hbt:(k+1)*24≤1099511627776:=by omega
  have w4:IntKind.i64.wrap ((k:Int)+1)=((k+1:Nat):Int):=(w64 (x:=(k:Int)+1) (by omega)).trans (by omega)
  obtain ⟨ck',ih⟩:=a6l hno hnu hro hac hm h6 ha hn r (k+1) none (by omega)
  refine ⟨ck',cg ?_ ih⟩;rw [a13,di,db,fc];clear ih;unfold cj at *;generalize p^k=p1 at *;generalize row (av m (pw Pol.X k) a)=Rv at *;generalize row (pw (Pol.X:Fp p) k)=Rx at *;generalize (n8 m a k).map (fun a=>(D.sl .leaf (af .i64 (row a))))=K at *
  generalize pad (row a)=Pa at *;generalize row a=Ra at *;generalize row m=Rm at *;generalize ((k+1:Nat):Int)=K1 at *;simp -implicitDefEqProofs [Zh_L0,aw,hkl,e1,e2,e3,e4,hKl,htK,hbt,w4]
open Classical in
theorem a2t {O:ap} (hdg:iu O) (hac:J2 O) (hpu:Dx O) {m a:Fp p} (hm:Monic m) (h6:m.len≤6) (ha:a.len≤64) {n:Nat} (hn:n=m.len-1):∀(r k:Nat) (L:List (Fp p)),k+r=n→PutI 64 L→L.length≤k →
 dn O 0 (.loop Z3d_L0) ⟨[(0,(.d (.int .i64 p))),(4,.ptr 0 []),(5,.ptr 1 []),(9,.d (.sl (.arr 64 .leaf) (L.map eo))),(10,(.d (.int .i64 k)))],[.box false (D.arr 64 .leaf (af .u8 (pad (row a)))),.box false (D.arr 64 .leaf (af .u8 (pad (row m)))),.hole,.hole,.hole]⟩ =
  some (.exit 0,⟨[(0,(.d (.int .i64 p))),(4,.ptr 0 []),(5,.ptr 1 []),(9,.d (.sl (.arr 64 .leaf) ((ptA ((n8 m a n).drop k) L).map eo))),(10,(.d (.int .i64 n))),(26,(.d (.bool false)))],[.box false (D.arr 64 .leaf (af .u8 (pad (row a)))),.box false (D.arr 64 .leaf (af .u8 (pad (row m)))),.hole,.hole,.hole]⟩)
 | 0,k,L,hk,hL,hLl=>by
  obtain rfl:k=n:=by omega
  have hmp:=Pol.len_pos hm.2;have e1:=hdg p m (by omega)
  rw [show (m.len:Int)-1=(k:Int) by omega] at e1
  rw [cz (by rw [tv]; omega),show ptA ([]:List (Fp p)) L=L from rfl]
  refine cm ?_;generalize L.map eo=K at *;generalize pad (row a)=Pa at *;generalize pad (row m)=Pm at *;simp -implicitDefEqProofs [Z3d_L0,aw,e1]
 | r+1,k,L,hk,hL,hLl=>by
  have hmp:=Pol.len_pos hm.2;have hkn:k<n:=by omega
  have hkl:(k:Int)<n:=by omega
  have hk64:k<64:=by omega
  have e1:=hdg p m (by omega)
  rw [show (m.len:Int)-1=(n:Int) by omega] at e1
  have es:(pad []).set k 1=pad (row (pw (Pol.X:Fp p) k)):=by
   have h:=Bv (Q:=(0:Fp p)) (R:=pw Pol.X k) (by rw [Pol.len_zero]; omega) (by rw [jp]; omega) hk64 (fun t ht=>by rw [wd,if_neg ht]; rfl)
   rwa [wd,if_pos rfl,pt,dt] at h
  have hpl:(pad ([]:List Int)).length=64:=c8 _;have hkx:(pw (Pol.X:Fp p) k).len<m.len:=by rw [jp]; omega
  have e2:=hac p a (pw Pol.X k) m hm.2 (by omega) ha (by omega)
  rw [Pol.mod_small hkx,←es] at e2;have hal:=ub hm.2 hkx a;have e3:=hpu p L (av m (pw Pol.X k) a) hL (by omega) (by omega)
  obtain ⟨n1,-⟩:=hL.next (a:=av m (pw Pol.X k) a) (by omega)
  have hpl2:(ptL L (av m (pw Pol.X k) a)).length≤L.length+1:=by
   unfold ptL
   split
   ·omega
   ·rw [bu,ba]; exact bh _
  have w4:IntKind.i64.wrap ((k:Int)+1)=((k+1:Nat):Int):=(w64 (x:=(k:Int)+1) (by omega)).trans (by omega)
  have hd:ptA ((n8 m a n).drop k) L=ptA ((n8 m a n).drop (k+1)) (ptL L (av m (pw Pol.X k) a)):=by
   have hlt:k<(n8 m a n).length:=by rw [tv]; exact hkn
   rw [bx hlt];have:(n8 m a n)[k]=av m (pw Pol.X k) a:=by simp [n8,xsL]
   rw [this]; rfl
  rw [hd];refine cg ?_ (a2t hdg hac hpu hm h6 ha hn r (k+1) (ptL L (av m (pw Pol.X k) a)) (by omega) n1 (by omega))
  clear es hd;generalize decide (ptV L (av m (pw Pol.X k) a)=0)=bb at *;generalize (ptL L (av m (pw Pol.X k) a)).map eo=K2 at *;generalize L.map eo=K at *;generalize pad (row (av m (pw Pol.X k) a))=Pv at *;generalize pad (row a)=Pa at *;generalize pad (row m)=Pm at *;generalize ((k+1:Nat):Int)=K1 at *;simp -implicitDefEqProofs [Z3d_L0,aw,hkl,hk64,hpl,e1,e2,e3,w4]
end
open Classical in
noncomputable def tnO (p:Int) (a l:List Int):D:=
 if lh p l [a]=0 then (if h:IsP p then haveI:=h; .tup [(D.int .i64 (((fe p l).len:Int)-1-(lc (n8 (fe p l) (fe p a) ((fe p l).len-1)) []).length)),(D.int .i64 0)] else .tup [(D.int .i64 0),(D.int .i64 0)]) else .tup [(D.int .i64 0),(D.int .i64 (lh p l [a]))]
theorem Jr {p:Int} [ip:IsP p] {m a:Fp p} (ha:a.len≤64) (hm:Monic m) (h2:2≤m.len) (h6:m.len≤6):tnO p (pad (row a)) (pad (row m))=.tup [(D.int .i64 ((m.len:Int)-1-(lc (n8 m a (m.len-1)) []).length)),(D.int .i64 0)]:=by
 unfold tnO;rw [if_pos (show lh p (pad (row m)) [pad (row a)]=0 from Dn hm h2 h6 [a]),dif_pos ip,jn (by omega),jn ha]
theorem X7 {p:Int} {a l:List Int} (h:¬ lh p l [a]=0):tnO p a l=.tup [(D.int .i64 0),(D.int .i64 (lh p l [a]))]:=by unfold tnO; rw [if_neg h]
def mj (O:ap) (F:Nat):Prop:=∀(p:Int) (a l:List Int),gw a→a.length=64→gw l→l.length=64→ask O F [(D.int .i64 p),(D.arr 64 .leaf (af .u8 a)),(D.arr 64 .leaf (af .u8 l))]=some (tnO p a l)
theorem Y2 {p:Int} [IsP p] {xs:List (Fp p)} {N:Nat} (hx:∀x∈xs,x.len≤N):(lc xs []).length≤N:=(Cs (Desc.nil N) hx).length
theorem Hi (hT:T Fh=some Zh) (hmc:xu (den T A)) (hro:od (den T A)) (hdg:lg (den T A)) (hno:xe (den T A)) (hnu:kq (den T A)) (hac:G3 (den T A)) (hre:G7 (den T A)):mj (den T A) Fh:=by
 intro p x l hxb hxl hb hl;have e1:=hmc p l [x] hb hl (fun y hy=>by rw [bf.1 hy]; exact ⟨hxl,hxb⟩) (by simp) (by simp)
 rw [show [x].map p7=[(D.arr 64 .leaf (af .u8 x))] from rfl] at e1
 by_cases h0:lh p l [x]=0
 ·obtain ⟨ip,m,a,rfl,rfl,ha,hm,h2,h6⟩:=Ao hxb hxl h0
  rw [h0] at e1;rw [Jr ha hm h2 h6];have e3:=hro p m (by omega)
  have e4:=hdg (row m) (by rw [bi]; omega)
  rw [bi,show (m.len:Int)-1=((m.len-1:Nat):Int) by omega] at e4
  obtain ⟨ck,e5⟩:=a6l (O:=den T A) hno hnu hro hac hm h6 ha (n:=m.len-1) rfl (m.len-1) 0 (some 0) (by omega)
  rw [show n8 m a 0=[] from rfl,fc,show ((0:Nat):Int)=0 from rfl] at e5;have hil:∀y∈n8 m a (m.len-1),y.len≤11:=fun y hy=>by have:=Tk hm.2 a (bh _) y hy; omega
  have e6:=hre p (n8 m a (m.len-1)) hil (by rw [tv]; omega)
  have hsl:=Y2 hil;have hKl:((n8 m a (m.len-1)).map cj).length=m.len-1:=by rw [ba,tv]
  have htK:((n8 m a (m.len-1)).map cj).take (m.len-1)=(n8 m a (m.len-1)).map cj:=bg (by omega)
  have hSl:((lc (n8 m a (m.len-1)) []).map cj).length=(lc (n8 m a (m.len-1)) []).length:=ba ..;have w1:IntKind.i64.wrap (((m.len-1:Nat):Int)-((lc (n8 m a (m.len-1)) []).length:Int))=((m.len-1:Nat):Int)-((lc (n8 m a (m.len-1)) []).length:Int):=w64 (by omega)
  rw [show (m.len:Int)-1=((m.len-1:Nat):Int) by omega]
  refine c9 hT rfl ?_;clear hil;generalize (lc (n8 m a (m.len-1)) []).map cj=S1 at *;generalize (lc (n8 m a (m.len-1)) []).length=sn at *;generalize (n8 m a (m.len-1)).map cj=K at *;generalize pad (row m)=Pm at *;generalize row m=Rm at *;generalize pad (row a)=Pa at *;generalize row a=Ra at *;generalize m.len-1=n at *;simp -implicitDefEqProofs at e1;simp -implicitDefEqProofs [Zh,Zh_B,aw,e1,e3,e4,e5,e6,hKl,htK,hSl,w1,List.replicate]
 ·rw [X7 h0]
  refine c9 hT rfl ?_;generalize lh p l [x]=c at *;simp -implicitDefEqProofs at e1;simp -implicitDefEqProofs [Zh,Zh_B,aw,e1,h0,List.replicate]
theorem Gd (hT:T F3d=some Z3d) (hmc:t5 (den T A)) (hdg:iu (den T A)) (hac:J2 (den T A)) (hpu:Dx (den T A)):mj (den T A) F3d:=by
 intro p x l hxb hxl hb hl;have e1:=hmc p l [x] hb hl (fun y hy=>by rw [bf.1 hy]; exact ⟨hxl,hxb⟩) (by simp)
 rw [show [x].map p7=[(D.arr 64 .leaf (af .u8 x))] from rfl] at e1
 by_cases h0:lh p l [x]=0
 ·obtain ⟨ip,m,a,rfl,rfl,ha,hm,h2,h6⟩:=Ao hxb hxl h0
  rw [h0] at e1;rw [Jr ha hm h2 h6];have e4:=hdg p m (by omega)
  rw [show (m.len:Int)-1=((m.len-1:Nat):Int) by omega] at e4
  have e5:=a2t (O:=den T A) hdg hac hpu hm h6 ha (n:=m.len-1) rfl (m.len-1) 0 [] (by omega) (PutI.nil 64) (bh 0)
  rw [ef,fc,show ((0:Nat):Int)=0 from rfl] at e5;have hil:∀y∈n8 m a (m.len-1),y.len≤11:=fun y hy=>by have:=Tk hm.2 a (bh _) y hy; omega
  have hsl:=Y2 hil;have hps:=a8j hil;have hSl:((ptA (n8 m a (m.len-1)) []).map eo).length=(lc (n8 m a (m.len-1)) []).length:=by rw [ba,hps]
  have w1:IntKind.i64.wrap (((m.len-1:Nat):Int)-((lc (n8 m a (m.len-1)) []).length:Int))=((m.len-1:Nat):Int)-((lc (n8 m a (m.len-1)) []).length:Int):=w64 (by omega)
  rw [show (m.len:Int)-1=((m.len-1:Nat):Int) by omega]
  -- the first round begins with a slice of its own
  have e6:dn (den T A) 0 (.loop Z3d_L0) ⟨[(0,(.d (.int .i64 p))),(4,.ptr 0 []),(5,.ptr 1 []),(9,.sl 3 [] 0 0 (some 0)),(10,(.d (.int .i64 0)))],[.box false (D.arr 64 .leaf (af .u8 (pad (row a)))),.box false (D.arr 64 .leaf (af .u8 (pad (row m)))),.hole,.sl false (.arr 64 .leaf) [],.hole]⟩=dn (den T A) 0 (.loop Z3d_L0) ⟨[(0,(.d (.int .i64 p))),(4,.ptr 0 []),(5,.ptr 1 []),(9,.d (.sl (.arr 64 .leaf) [])),(10,(.d (.int .i64 0)))],[.box false (D.arr 64 .leaf (af .u8 (pad (row a)))),.box false (D.arr 64 .leaf (af .u8 (pad (row m)))),.hole,.hole,.hole]⟩:=by
   have hn0:(0:Int)<((m.len-1:Nat):Int):=by omega
   have es:(pad []).set 0 1=pad (row (pw (Pol.X:Fp p) 0)):=by
    have h:=Bv (Q:=(0:Fp p)) (R:=pw Pol.X 0) (by rw [Pol.len_zero]; omega) (by rw [jp]; omega) (show 0<64 by omega) (fun t ht=>by rw [wd,if_neg ht]; rfl)
    rwa [wd,if_pos rfl,pt,dt] at h
   have hpl:(pad ([]:List Int)).length=64:=c8 _;have hkx:(pw (Pol.X:Fp p) 0).len<m.len:=by rw [jp]; omega
   have e2:=hac p a (pw Pol.X 0) m hm.2 (by omega) ha (by omega)
   rw [Pol.mod_small hkx,←es] at e2;have hal:=ub hm.2 hkx a;have e3:=hpu p [] (av m (pw Pol.X 0) a) (PutI.nil 64) (by simp) (by omega)
   rw [fc] at e3;have w4:IntKind.i64.wrap 1=1:=rfl
   have step:∀(V9:V) (B3:Blk),(V9=.sl 3 [] 0 0 (some 0)∧B3=.sl false (.arr 64 .leaf) [])∨(V9=.d (.sl (.arr 64 .leaf) [])∧B3=.hole) →
    dn (den T A) 0 Z3d_L0 ⟨[(0,(.d (.int .i64 p))),(4,.ptr 0 []),(5,.ptr 1 []),(9,V9),(10,(.d (.int .i64 0)))],[.box false (D.arr 64 .leaf (af .u8 (pad (row a)))),.box false (D.arr 64 .leaf (af .u8 (pad (row m)))),.hole,B3,.hole]⟩=some (.normal,⟨[(0,(.d (.int .i64 p))),(4,.ptr 0 []),(5,.ptr 1 []),(9,.d (.sl (.arr 64 .leaf) ((ptL [] (av m (pw Pol.X 0) a)).map eo))),(10,(.d (.int .i64 1)))],[.box false (D.arr 64 .leaf (af .u8 (pad (row a)))),.box false (D.arr 64 .leaf (af .u8 (pad (row m)))),.hole,.hole,.hole]⟩):=by
    clear e5 hps hSl w1 es hal;generalize (ptL [] (av m (pw Pol.X 0) a)).map eo=K2 at *;generalize pad (row (av m (pw Pol.X 0) a))=Pv at *;generalize pad (row a)=Pa at *;generalize pad (row m)=Pm at *;generalize ((m.len-1:Nat):Int)=n at *
    rintro _ _ (⟨rfl,rfl⟩ | ⟨rfl,rfl⟩)
    ·simp -implicitDefEqProofs [Z3d_L0,aw,hn0,hpl,e4,e2,e3,w4]
    ·simp -implicitDefEqProofs [Z3d_L0,aw,hn0,hpl,e4,e2,e3,w4]
   have s1:=step _ _ (.inl ⟨rfl,rfl⟩);have s2:=step _ _ (.inr ⟨rfl,rfl⟩);exact (cg s1 rfl).trans (cg s2 rfl).symm
  rw [←e6] at e5;refine c9 hT rfl ?_;clear hil e6 hps;generalize (ptA (n8 m a (m.len-1)) []).map eo=S1 at *;generalize (lc (n8 m a (m.len-1)) []).length=sn at *;generalize pad (row m)=Pm at *;generalize pad (row a)=Pa at *;generalize m.len-1=n at *;simp -implicitDefEqProofs [Z3d,Z3d_B,aw,e1,e4,e5,hSl,w1,List.replicate]
 ·rw [X7 h0]
  refine c9 hT rfl ?_;generalize lh p l [x]=c at *;simp -implicitDefEqProofs [Z3d,Z3d_B,aw,e1,h0,List.replicate]
end Pe
namespace Pe
open Go Gq
variable {T:Nat→Option Fn} {A:ap}
section
variable {p:Int} [IsP p]
theorem Gi {m:Fp p} (h6:m.len≤6) {k:Nat} (hk:(k:Int)<p^(m.len-1)) (hm:1≤m.len):(fu p (k:Int)).len<m.len:=by
 have hb:=E4 (p:=p) (k:=m.len-1) (by omega)
 have:=Pol.len_le (Di (p:=p) (n:=(k:Int)) ⟨by omega,by omega⟩ hk)
 omega
theorem abz {O:ap} (hnu:kq O) (han:wk O) (hdg:lg O) (hto:zj O) {m:Fp p} (hm:Monic m) (h2:2≤m.len) (h6:m.len≤6) {k:Nat} (hk:IsGen m k):∀(r n:Nat),n+r=k →
 dn O 0 (.loop Z8_L0) ⟨[(4,.ptr 1 []),(7,(.d (.int .i64 p))),(8,(.d (.sl .leaf (af .i64 (row m))))),(39,(.d (.int .i64 (p^(m.len-1))))),(40,(.d (.int .i64 n)))],[.hole,.box false (D.arr 64 .leaf (af .u8 (pad []))),.hole]⟩ =
  some (.ret,⟨[(4,.ptr 1 []),(5,(.d (.int .i64 0)))],[.hole,.box false (D.arr 64 .leaf (af .u8 (pad (row (fu p k))))),.hole]⟩):=by
 have hlt:=hk.lt;have hb:=E4 (p:=p) (k:=m.len-1) (by omega)
 have ed:=hdg (row m) (by rw [bi]; omega)
 rw [bi] at ed
 have hasks:∀n:Nat,n≤k→ask O F1b [(D.int .i64 p),(D.int .i64 n)]=some (D.sl .leaf (af .i64 (row (fu p n))))∧ask O Fz [(D.int .i64 p),(D.sl .leaf (af .i64 (row (fu p n)))),(D.sl .leaf (af .i64 (row m)))]=some (D.sl .leaf (af .i64 (row (p6 m (fu p n)))))∧ask O F1q [(D.sl .leaf (af .i64 (row (p6 m (fu p n)))))]=some (D.int .i64 (((p6 m (fu p n)).len:Int)-1))∧(fu p (n:Int)).len<m.len:=fun n hn=>by
  have hl:=Gi (m:=m) h6 (k:=n) (by omega) (by omega)
  obtain ⟨f,f1,f2,f3⟩:=han p m (fu p n) hm.2 (by omega) (by omega)
  obtain ⟨a1,a2⟩:=uk hm.2 hl;rw [Pol.mod_small hl] at f1;obtain rfl:f=p6 m (fu p n):=f1.one (o4 m _) a1;have e:=hdg (row (p6 m (fu p n))) (by rw [bi]; omega)
  rw [bi] at e;exact ⟨hnu p n (by omega) (by omega),f3,e,hl⟩
 intro r
 induction r with
 | zero=>
  intro n hn;obtain rfl:n=k:=by omega
  obtain ⟨e1,e2,e3,e4⟩:=hasks n (bh n);rw [hk.full] at e3;have e5:=hto (row (fu p n)) (sq _) (by rw [bi]; omega)
  unfold H5 at e5;rw [if_pos (by rw [bi]; omega)] at e5
  refine lq ?_;clear hasks;generalize pad (row (fu p (n:Int)))=Px at *;generalize row (p6 m (fu p (n:Int)))=Ra at *;generalize row (fu p (n:Int))=Rx at *;generalize row m=Rm at *;generalize p^(m.len-1)=top at *;generalize (m.len:Int)-1=d at *;simp -implicitDefEqProofs [Z8_L0,aw,hlt,ed,e1,e2,e3,e5]
 | succ r ih=>
  intro n hn;have hnk:n<k:=by omega
  have hnl:(n:Int)<p^(m.len-1):=by omega
  obtain ⟨e1,e2,e3,e4⟩:=hasks n (by omega)
  have hne:¬ ((p6 m (fu p (n:Int))).len:Int)-1=(m.len:Int)-1:=fun h=>by
   by_cases h0:n=0
   ·have:fu p (n:Int)=0:=by
     rw [h0]
     exact Pol.ext fun i=>by
      rw [show ((0:Nat):Int)=0 from rfl,wu ⟨by omega,by omega⟩,Int.zero_ediv]; rfl
    rw [this,Sp hm.2,Pol.len_one] at h;omega
   ·exact hk.least n (by omega) hnk (by omega)
  have w4:IntKind.i64.wrap ((n:Int)+1)=((n+1:Nat):Int):=(w64 (x:=(n:Int)+1) (by omega)).trans (by omega)
  refine cg ?_ (ih (n+1) (by omega))
  clear hasks ih;generalize ((p6 m (fu p (n:Int))).len:Int)-1=da at *;generalize row (p6 m (fu p (n:Int)))=Ra at *;generalize row (fu p (n:Int))=Rx at *;generalize row m=Rm at *;generalize p^(m.len-1)=top at *;generalize (m.len:Int)-1=d at *;generalize ((n+1:Nat):Int)=N1 at *;simp -implicitDefEqProofs [Z8_L0,aw,hnl,ed,e1,e2,e3,hne,w4]
theorem aac {O:ap} (hof:Xd O) (han:xl O) (hdg:iu O) {m:Fp p} (hm:Monic m) (h2:2≤m.len) (h6:m.len≤6) {k:Nat} (hk:IsGen m k):∀(r n:Nat),n+r=k→1≤n →
 dn O 0 (.loop Z37_L0) ⟨[(0,(.d (.int .i64 p))),(3,.ptr 0 []),(4,.ptr 1 []),(7,(.d (.int .i64 ((m.len:Int)-1)))),(8,(.d (.int .i64 n)))],[.box false (D.arr 64 .leaf (af .u8 (pad (row m)))),.box false (D.arr 64 .leaf (af .u8 (pad []))),.hole,.hole]⟩ =
  some (.ret,⟨[(4,.ptr 1 []),(5,(.d (.int .i64 0)))],[.hole,.box false (D.arr 64 .leaf (af .u8 (pad (row (fu p k))))),.hole,.hole]⟩):=by
 have hlt:=hk.lt;have hb:=E4 (p:=p) (k:=m.len-1) (by omega)
 have hasks:∀n:Nat,n≤k→ask O F3x [(D.int .i64 p),(D.int .i64 n)]=some (D.arr 64 .leaf (af .u8 (pad (row (fu p n)))))∧ask O F48 [(D.int .i64 p),.sl (.arr 64 .leaf) [(D.arr 64 .leaf (af .u8 (pad (row (fu p n)))))],(D.arr 64 .leaf (af .u8 (pad (row m))))]=some (D.arr 64 .leaf (af .u8 (pad (row (p6 m (fu p n))))))∧ask O F3i [(D.arr 64 .leaf (af .u8 (pad (row (p6 m (fu p n))))))]=some (D.int .i64 (((p6 m (fu p n)).len:Int)-1)):=fun n hn=>by
  have hl:=Gi (m:=m) h6 (k:=n) (by omega) (by omega)
  obtain ⟨a1,a2⟩:=uk hm.2 hl;exact ⟨hof p n (by omega) (by omega),han p m [fu p n] _ hm.2 (by omega) (fun y hy=>by rw [bf.1 hy]; exact hl) (by simp; omega) (by simp) (N3 hm.2 hl a1) (by omega),hdg p _ (by omega)⟩
 intro r
 induction r with
 | zero=>
  intro n hn h1;obtain rfl:n=k:=by omega
  obtain ⟨e1,e2,e3⟩:=hasks n (bh n);rw [hk.full] at e3;refine lq ?_;clear hasks;generalize pad (row (p6 m (fu p (n:Int))))=Ra at *;generalize pad (row (fu p (n:Int)))=Rx at *;generalize pad (row m)=Rm at *;generalize (m.len:Int)-1=d at *;simp -implicitDefEqProofs [Z37_L0,aw,e1,e2,e3]
 | succ r ih=>
  intro n hn h1;have hnk:n<k:=by omega
  obtain ⟨e1,e2,e3⟩:=hasks n (by omega)
  have hne:¬ ((p6 m (fu p (n:Int))).len:Int)-1=(m.len:Int)-1:=fun h=>hk.least n h1 hnk (by omega)
  have w4:IntKind.i64.wrap ((n:Int)+1)=((n+1:Nat):Int):=(w64 (x:=(n:Int)+1) (by omega)).trans (by omega)
  refine cg ?_ (ih (n+1) (by omega) (by omega))
  clear hasks ih;generalize ((p6 m (fu p (n:Int))).len:Int)-1=da at *;generalize pad (row (p6 m (fu p (n:Int))))=Ra at *;generalize pad (row (fu p (n:Int)))=Rx at *;generalize pad (row m)=Rm at *;generalize (m.len:Int)-1=d at *;generalize ((n+1:Nat):Int)=N1 at *;simp -implicitDefEqProofs [Z37_L0,aw,e1,e2,e3,hne,w4]
end
open Classical in
noncomputable def M0 {p:Int} [IsP p] (m:Fp p):Nat:=if h:∃k,IsGen m k then h.choose else 0
theorem Oy {p:Int} [IsP p] {m:Fp p} (hm:2≤m.len) (h6:m.len≤6) (he:m.len≤(li m).len):IsGen m (M0 m):=by
 unfold M0;rw [dif_pos (a4v hm h6 he)];exact (a4v hm h6 he).choose_spec
open Classical in
noncomputable def gnO (p:Int) (l:List Int):D:=
 if lh p l []=0 then (if h:IsP p then haveI:=h; if (fe p l).len≤(li (fe p l)).len then .tup [(D.arr 64 .leaf (af .u8 (pad (row (fu p (M0 (fe p l))))))),(D.int .i64 0)] else .tup [(D.arr 64 .leaf (af .u8 (pad []))),(D.int .i64 5)] else .tup [(D.arr 64 .leaf (af .u8 (pad []))),(D.int .i64 0)]) else .tup [(D.arr 64 .leaf (af .u8 (pad []))),(D.int .i64 (lh p l []))]
theorem Im {p:Int} [ip:IsP p] {m:Fp p} (hm:Monic m) (h2:2≤m.len) (h6:m.len≤6):gnO p (pad (row m))=if m.len≤(li m).len then .tup [(D.arr 64 .leaf (af .u8 (pad (row (fu p (M0 m)))))),(D.int .i64 0)] else .tup [(D.arr 64 .leaf (af .u8 (pad []))),(D.int .i64 5)]:=by
 unfold gnO;rw [if_pos (show lh p (pad (row m)) []=0 from Dn hm h2 h6 []),dif_pos ip,jn (by omega)]
theorem Y6 {p:Int} {l:List Int} (h:¬ lh p l []=0):gnO p l=.tup [(D.arr 64 .leaf (af .u8 (pad []))),(D.int .i64 (lh p l []))]:=by unfold gnO; rw [if_neg h]
def pu (O:ap) (F:Nat):Prop:=∀(p:Int) (l:List Int),gw l→l.length=64→ask O F [(D.int .i64 p),(D.arr 64 .leaf (af .u8 l))]=some (gnO p l)
theorem Q9 (hT:T F8=some Z8) (hmc:yu (den T A)) (hro:od (den T A)) (hex:mn (den T A) Fc) (hdg:lg (den T A)) (hno:xe (den T A)) (hnu:kq (den T A)) (han:wk (den T A)) (hto:zj (den T A)):pu (den T A) F8:=by
 intro p l hb hl;have e1:=hmc p l hb hl
 by_cases h0:lh p l []=0
 ·obtain ⟨ip,m,rfl,hm,h2,h6⟩:=xq h0
  rw [h0] at e1;rw [Im hm h2 h6];obtain ⟨x1,x2⟩:=tg h2 h6;have e2:=hro p m (by omega)
  have e3:=hex p (pad (row m)) hb hl;rw [E6 hm h2 h6] at e3;have e4:=hro p (li m) (by omega)
  have e5:=hdg (row (li m)) (by rw [bi]; omega)
  have e6:=hdg (row m) (by rw [bi]; omega)
  rw [bi] at e5 e6
  by_cases hc:m.len≤(li m).len
  ·rw [if_pos hc]
   have hg:=Oy h2 h6 hc;have hcl:¬ ((li m).len:Int)-1<(m.len:Int)-1:=by omega
   have e7:=(Bf (p:=p) hno hnu (k:=m.len-1) (by omega)).1
   rw [show ((m.len-1:Nat):Int)=(m.len:Int)-1 by omega] at e7
   have e8:=abz (O:=den T A) hnu han hdg hto hm h2 h6 hg (M0 m) 0 (by omega)
   rw [show ((0:Nat):Int)=0 from rfl] at e8;refine c9 hT rfl ?_;clear hg;generalize pad (row (fu p (M0 m:Int)))=Pg at *;generalize p^(m.len-1)=top at *;generalize pad (row (li m))=Pe1 at *;generalize row (li m)=Re at *;generalize pad (row m)=Pm at *;generalize row m=Rm at *;generalize ((li m).len:Int)-1=de at *;generalize (m.len:Int)-1=d at *;simp -implicitDefEqProofs [Z8,Z8_B,aw,e1,e2,e3,e4,e5,e6,hcl,e7,e8,List.replicate]
  ·rw [if_neg hc]
   have hcl:((li m).len:Int)-1<(m.len:Int)-1:=by omega
   refine c9 hT rfl ?_;generalize pad (row (li m))=Pe1 at *;generalize row (li m)=Re at *;generalize pad (row m)=Pm at *;generalize row m=Rm at *;generalize ((li m).len:Int)-1=de at *;generalize (m.len:Int)-1=d at *;simp -implicitDefEqProofs [Z8,Z8_B,aw,e1,e2,e3,e4,e5,e6,hcl,List.replicate]
 ·rw [Y6 h0]
  refine c9 hT rfl ?_;generalize lh p l []=c at *;simp -implicitDefEqProofs [Z8,Z8_B,aw,e1,h0,List.replicate]
theorem M1 (hT:T F37=some Z37) (hmc:t5 (den T A)) (hex:wm (den T A)) (hof:Xd (den T A)) (han:xl (den T A)) (hdg:iu (den T A)):pu (den T A) F37:=by
 intro p l hb hl;have e1:=hmc p l [] hb hl (fun x hx=>(List.not_mem_nil hx).elim) (by simp)
 rw [fc] at e1
 by_cases h0:lh p l []=0
 ·obtain ⟨ip,m,rfl,hm,h2,h6⟩:=xq h0
  rw [h0] at e1;rw [Im hm h2 h6];obtain ⟨x1,x2⟩:=tg h2 h6;have e2:=hdg p m (by omega)
  have e3:=hex p m (li m) hm.2 (by omega) x1 (by omega)
  have e4:=hdg p (li m) (by omega)
  by_cases hc:m.len≤(li m).len
  ·rw [if_pos hc]
   have hg:=Oy h2 h6 hc;have hcl:¬ ((li m).len:Int)-1<(m.len:Int)-1:=by omega
   have h1:=hg.one;have e8:=aac (O:=den T A) hof han hdg hm h2 h6 hg (M0 m-1) 1 (by omega) (by omega)
   rw [show ((1:Nat):Int)=1 from rfl] at e8;refine c9 hT rfl ?_;clear hg h1;generalize pad (row (fu p (M0 m:Int)))=Pg at *;generalize pad (row (li m))=Pe1 at *;generalize pad (row m)=Pm at *;generalize ((li m).len:Int)-1=de at *;generalize (m.len:Int)-1=d at *;simp -implicitDefEqProofs [Z37,Z37_B,aw,e1,e2,e3,e4,hcl,e8,List.replicate]
  ·rw [if_neg hc]
   have hcl:((li m).len:Int)-1<(m.len:Int)-1:=by omega
   refine c9 hT rfl ?_;generalize pad (row (li m))=Pe1 at *;generalize pad (row m)=Pm at *;generalize ((li m).len:Int)-1=de at *;generalize (m.len:Int)-1=d at *;simp -implicitDefEqProofs [Z37,Z37_B,aw,e1,e2,e3,e4,hcl,List.replicate]
 ·rw [Y6 h0]
  refine c9 hT rfl ?_;generalize lh p l []=c at *;simp -implicitDefEqProofs [Z37,Z37_B,aw,e1,h0,List.replicate]
end Pe
namespace Pe
open Go Gq
variable {T:Nat→Option Fn} {A:ap}
noncomputable def E1 {p:Int} [IsP p] (m x:Fp p):Fp p:=(av (m*m) (x%m%(m*m)) (m-1)/m)%m
open Classical in
noncomputable def dpO (p:Int) (x l:List Int):D:=
 if k8 p [x,l]=0 then
  (if h:IsP p then haveI:=h
   if Monic (fe p l)∧2≤(fe p l).len∧(fe p l).len≤4 then (if Irr (fe p l) then .tup [(D.arr 64 .leaf (af .u8 (pad (row (E1 (fe p l) (fe p x)))))),(D.int .i64 0)] else .tup [(D.arr 64 .leaf (af .u8 (pad []))),(D.int .i64 5)])
   else .tup [(D.arr 64 .leaf (af .u8 (pad []))),(D.int .i64 2)]
  else .tup [(D.arr 64 .leaf (af .u8 (pad []))),(D.int .i64 1)])
 else .tup [(D.arr 64 .leaf (af .u8 (pad []))),(D.int .i64 1)]
open Classical in
theorem Tb {p:Int} [ip:IsP p] {m x:Fp p} (hm:m.len≤64) (hx:x.len≤64):dpO p (pad (row x)) (pad (row m))=if Monic m∧2≤m.len∧m.len≤4 then (if Irr m then .tup [(D.arr 64 .leaf (af .u8 (pad (row (E1 m x))))),(D.int .i64 0)] else .tup [(D.arr 64 .leaf (af .u8 (pad []))),(D.int .i64 5)]) else .tup [(D.arr 64 .leaf (af .u8 (pad []))),(D.int .i64 2)]:=by
 unfold dpO;rw [if_pos (show k8 p [pad (row x),pad (row m)]=0 from yz [x,m]),dif_pos ip,jn hm,jn hx]
theorem Xm {p:Int} {x l:List Int} (h:k8 p [x,l]=1):dpO p x l=.tup [(D.arr 64 .leaf (af .u8 (pad []))),(D.int .i64 1)]:=by
 unfold dpO;rw [if_neg (by rw [h]; omega)]
theorem X2 {x l:List Int} (hxb:gw x) (hxl:x.length=64) (hb:gw l) (hl:l.length=64):Tg [x,l]:=fun y hy=>by
 simp at hy;rcases hy with rfl | rfl
 ·exact ⟨hxl,hxb⟩
 ·exact ⟨hl,hb⟩
theorem Qo {p:Int} {x l:List Int} (hxb:gw x) (hxl:x.length=64) (hb:gw l) (hl:l.length=64) (h:k8 p [x,l]=0):∃(_:IsP p) (a m:Fp p),x=pad (row a)∧l=pad (row m)∧a.len≤64∧m.len≤64:=by
 have h1:=va (ls:=[x]) (l:=l) h;obtain ⟨ip,a,ha,rfl⟩:=oa hxb hxl h1.1;obtain ⟨_,m,hm,rfl⟩:=oa hb hl h1.2;exact ⟨ip,a,m,rfl,rfl,ha,hm⟩
def sw (O:ap) (F:Nat):Prop:=∀(p:Int) (x l:List Int),gw x→x.length=64→gw l→l.length=64→ask O F [(D.int .i64 p),(D.arr 64 .leaf (af .u8 x)),(D.arr 64 .leaf (af .u8 l))]=some (dpO p x l)
open Classical in
theorem Tn (hT:T F9=some Z9) (hpc:mu (den T A)) (hro:od (den T A)) (hld:lk (den T A)) (hdg:lg (den T A)) (hwi:B4 (den T A)) (hir:Hw (den T A)) (hc1:qz (den T A)) (hr:xd (den T A)) (ht:um (den T A)) (hac:G3 (den T A)) (hd:qq (den T A)) (hto:zj (den T A)):sw (den T A) F9:=by
 intro p x l hxb hxl hb hl;have e1:=hpc p [x,l] (X2 hxb hxl hb hl) (by simp)
 rw [show [x,l].map p7=[(D.arr 64 .leaf (af .u8 x)),(D.arr 64 .leaf (af .u8 l))] from rfl] at e1;rcases wb p [x,l] with hc | hc
 ·obtain ⟨ip,a,m,rfl,rfl,ha,hm⟩:=Qo hxb hxl hb hl hc
  rw [hc] at e1;rw [Tb hm ha];have e2:=hro p m hm;have e3:=hld (row m) (by rw [bi]; omega)
  rw [ua] at e3;have e4:=hdg (row m) (by rw [bi]; omega)
  have e5:=hwi ((m.len:Int)-1) 1 3;rw [bi] at e4
  by_cases h1:rep m.ld=1
  ·have hM:Monic m:=(uy m).2 ((rl _).1 h1)
   by_cases h2:2≤m.len∧m.len≤4
   ·rw [decide_eq_true (show (1:Int)≤(m.len:Int)-1∧(m.len:Int)-1≤3 by omega)] at e5
    have e6:=hir p m (by omega)
    by_cases h3:Irr m
    ·rw [if_pos ⟨hM,h2⟩,if_pos h3]
     rw [decide_eq_true ⟨hM,h3⟩] at e6;have e7:=hc1 p m 1 (by omega) (by rw [Pol.len_one]; omega)
     rw [tf,show af .i64 [1]=[.int .i64 1] from rfl] at e7;have e8:=hro p a ha;have e9:=hr p a m hM.2 (by omega) (by omega)
     have e10:=ht p m m (by omega) (by omega)
     have hmm:=Or (a:=m) (b:=m) (x:=4) (y:=4) h2.2 h2.2;have hmm0:m*m≠0:=Pol.mul_ne hM.2 hM.2;obtain ⟨g1,g2⟩:=Ho hM h2.1;have hxm:=Pol.len_mod a hM.2;have e11:=hac p (m-1) (a%m) (m*m) hmm0 (by omega) (by omega) (by omega)
     have hal:=ub hmm0 (Pol.len_mod (a%m) hmm0) (m-1);have e12:=hd p (av (m*m) (a%m%(m*m)) (m-1)) m hM.2 (by omega) (by omega)
     have hdl:=Pol.len_div_le (av (m*m) (a%m%(m*m)) (m-1)) hM.2;have e13:=hr p (av (m*m) (a%m%(m*m)) (m-1)/m) m hM.2 (by omega) (by omega)
     rw [show av (m*m) (a%m%(m*m)) (m-1)/m%m=E1 m a from rfl] at e13;have hdp:(E1 m a).len<m.len:=Pol.len_mod _ hM.2;have e14:=hto (row (E1 m a)) (sq _) (by rw [bi]; omega)
     unfold H5 at e14;rw [if_pos (by rw [bi]; omega)] at e14
     refine c9 hT rfl ?_;generalize pad (row (E1 m a))=Pd at *;generalize row (E1 m a)=Rd at *;generalize row (av (m*m) (a%m%(m*m)) (m-1)/m)=R1 at *;generalize row (av (m*m) (a%m%(m*m)) (m-1)%m)=R2 at *;generalize row (av (m*m) (a%m%(m*m)) (m-1))=R3 at *;generalize row (m*m)=R4 at *;generalize row (a%m)=R5 at *;generalize row (m-1)=R6 at *;generalize pad (row a)=Pa at *;generalize row a=Ra at *;generalize pad (row m)=Pm at *;generalize row m=Rm at *;generalize rep m.ld=lm at *;generalize (m.len:Int)-1=d at *;simp -implicitDefEqProofs [Z9,Z9_B,aw,e1,e2,e3,e4,e5,e6,e7,e8,e9,e10,e11,e12,e13,e14,h1,List.replicate]
    ·rw [if_pos ⟨hM,h2⟩,if_neg h3]
     rw [decide_eq_false (fun g=>h3 g.2)] at e6
     refine c9 hT rfl ?_;generalize pad (row a)=Pa at *;generalize pad (row m)=Pm at *;generalize row m=Rm at *;generalize rep m.ld=lm at *;generalize (m.len:Int)-1=d at *;simp -implicitDefEqProofs [Z9,Z9_B,aw,e1,e2,e3,e4,e5,e6,h1,List.replicate]
   ·rw [decide_eq_false (show ¬ ((1:Int)≤(m.len:Int)-1∧(m.len:Int)-1≤3) by omega)] at e5
    rw [if_neg (fun g=>h2 g.2)]
    refine c9 hT rfl ?_;generalize pad (row a)=Pa at *;generalize pad (row m)=Pm at *;generalize row m=Rm at *;generalize rep m.ld=lm at *;generalize (m.len:Int)-1=d at *;simp -implicitDefEqProofs [Z9,Z9_B,aw,e1,e2,e3,e4,e5,h1,List.replicate]
  ·rw [if_neg (fun g=>h1 ((rl _).2 ((uy m).1 g.1)))]
   refine c9 hT rfl ?_;generalize pad (row a)=Pa at *;generalize pad (row m)=Pm at *;generalize row m=Rm at *;generalize rep m.ld=lm at *;simp -implicitDefEqProofs [Z9,Z9_B,aw,e1,e2,e3,h1,List.replicate]
 ·rw [Xm hc]
  rw [hc] at e1;refine c9 hT rfl ?_;simp -implicitDefEqProofs [Z9,Z9_B,aw,e1,List.replicate]
open Classical in
theorem S0 (hT:T F38=some Z38) (hpc:Ia (den T A)) (hmn:E7 (den T A)) (hdg:iu (den T A)) (hin:Xk (den T A)) (hir:Ju (den T A)) (ht:vw (den T A)) (h1':Jd (den T A)) (had:mf (den T A)) (hmo:xb (den T A)) (hac:J2 (den T A)) (hd:rj (den T A)):sw (den T A) F38:=by
 intro p x l hxb hxl hb hl;have e1:=hpc p [x,l] (X2 hxb hxl hb hl) (by simp)
 rw [show [x,l].map p7=[(D.arr 64 .leaf (af .u8 x)),(D.arr 64 .leaf (af .u8 l))] from rfl] at e1;rcases wb p [x,l] with hc | hc
 ·obtain ⟨ip,a,m,rfl,rfl,ha,hm⟩:=Qo hxb hxl hb hl hc
  rw [hc] at e1;rw [Tb hm ha];have e3:=hmn p m hm;have e4:=hdg p m hm;have e5:=hin ((m.len:Int)-1) 1 3
  by_cases hM:Monic m
  ·rw [decide_eq_true hM] at e3
   by_cases h2:2≤m.len∧m.len≤4
   ·rw [decide_eq_true (show (1:Int)≤(m.len:Int)-1∧(m.len:Int)-1≤3 by omega)] at e5
    have e6:=hir p m hM.2 (by omega)
    by_cases h3:Irr m
    ·rw [if_pos ⟨hM,h2⟩,if_pos h3]
     rw [decide_eq_true h3] at e6;have e2:=h1' p;have e7:=had p (-1) m 1 (by omega) (by omega) hm (by rw [Pol.len_one]; omega)
     rw [Au] at e7;have e9:=hmo p a m hM.2 ha hm;have hmm:=Or (a:=m) (b:=m) (x:=4) (y:=4) h2.2 h2.2;have e10:=ht p m m hm hm (by omega)
     have hmm0:m*m≠0:=Pol.mul_ne hM.2 hM.2;obtain ⟨g1,g2⟩:=Ho hM h2.1;have hxm:=Pol.len_mod a hM.2;have e11:=hac p (m-1) (a%m) (m*m) hmm0 (by omega) (by omega) (by omega)
     have hal:=ub hmm0 (Pol.len_mod (a%m) hmm0) (m-1);have e12:=hd p (av (m*m) (a%m%(m*m)) (m-1)) m hM.2 (by omega) hm
     have hdl:=Pol.len_div_le (av (m*m) (a%m%(m*m)) (m-1)) hM.2;have e13:=hmo p (av (m*m) (a%m%(m*m)) (m-1)/m) m hM.2 (by omega) hm
     rw [show av (m*m) (a%m%(m*m)) (m-1)/m%m=E1 m a from rfl] at e13;refine c9 hT rfl ?_;generalize pad (row (E1 m a))=Pd at *;generalize pad (row (av (m*m) (a%m%(m*m)) (m-1)/m))=R1 at *;generalize pad (row (av (m*m) (a%m%(m*m)) (m-1)%m))=R2 at *;generalize pad (row (av (m*m) (a%m%(m*m)) (m-1)))=R3 at *;generalize pad (row (m*m))=R4 at *;generalize pad (row (a%m))=R5 at *;generalize pad (row (m-1))=R6 at *;generalize pad (row (1:Fp p))=R7 at *;generalize pad (row a)=Pa at *;generalize pad (row m)=Pm at *;generalize (m.len:Int)-1=d at *;simp -implicitDefEqProofs [Z38,Z38_B,aw,e1,e2,e3,e4,e5,e6,e7,e9,e10,e11,e12,e13,List.replicate]
    ·rw [if_pos ⟨hM,h2⟩,if_neg h3]
     rw [decide_eq_false h3] at e6;refine c9 hT rfl ?_;generalize pad (row a)=Pa at *;generalize pad (row m)=Pm at *;generalize (m.len:Int)-1=d at *;simp -implicitDefEqProofs [Z38,Z38_B,aw,e1,e3,e4,e5,e6,List.replicate]
   ·rw [decide_eq_false (show ¬ ((1:Int)≤(m.len:Int)-1∧(m.len:Int)-1≤3) by omega)] at e5
    rw [if_neg (fun g=>h2 g.2)]
    refine c9 hT rfl ?_;generalize pad (row a)=Pa at *;generalize pad (row m)=Pm at *;generalize (m.len:Int)-1=d at *;simp -implicitDefEqProofs [Z38,Z38_B,aw,e1,e3,e4,e5,List.replicate]
  ·rw [decide_eq_false hM] at e3
   rw [if_neg (fun g=>hM g.1)]
   refine c9 hT rfl ?_;generalize pad (row a)=Pa at *;generalize pad (row m)=Pm at *;simp -implicitDefEqProofs [Z38,Z38_B,aw,e1,e3,List.replicate]
 ·rw [Xm hc]
  rw [hc] at e1;refine c9 hT rfl ?_;simp -implicitDefEqProofs [Z38,Z38_B,aw,e1,List.replicate]
def Ew (O:ap):Prop:=∀code:List Int,gw code→code.length≤4096→∃(p:Int) (l m:List Int),ask O F39 [.sl .leaf (af .u8 code)]=some (.tup [(D.int .i64 p),(D.arr 64 .leaf (af .u8 l)),(D.arr 64 .leaf (af .u8 m))])∧Arr l∧Arr m
theorem a0n (hT:T F39=some Z39) (hf:Jm (den T A)) (hd:y8 (den T A)):Ew (den T A):=by
 intro code hb hc;obtain ⟨b,e1,hs⟩:=hf code hb hc;obtain ⟨p,l,m,b',e2,hs',p0,p1,hl,hm⟩:=hd b hs;refine ⟨p,l,m,c9 hT rfl ?_,hl,hm⟩;obtain ⟨_,_,_,rfl,_⟩:=hs;obtain ⟨_,_,_,rfl,_⟩:=hs';simp -implicitDefEqProofs [Z39,Z39_B,e1,e2,List.replicate,List.idxOf,List.findIdx,List.findIdx.go]
theorem T1 (p:Int) (l:List Int):∃(r:List Int) (c:Int),exO p l=.tup [(D.arr 64 .leaf (af .u8 r)),(D.int .i64 c)]∧Arr r:=by
 have hz:Arr (pad []):=⟨c8 _,fun x hx=>by
  rw [Pz] at hx;rw [(List.mem_replicate.1 hx).2]; omega⟩
 unfold exO
 split
 ·split
  ·exact ⟨_,_,rfl,z5 _⟩
  ·exact ⟨_,_,rfl,hz⟩
 ·exact ⟨_,_,rfl,hz⟩
def Gj (O:ap):Prop:=∀code:List Int,gw code→code.length≤4096→∃(p:Int) (l m:List Int),ask O F3b [.sl .leaf (af .u8 code)]=some (.tup [(D.int .i64 p),(D.arr 64 .leaf (af .u8 l)),(D.arr 64 .leaf (af .u8 m))])∧Arr l∧Arr m
theorem a1g (hT:T F3b=some Z3b) (hf:Jm (den T A)) (hd:y8 (den T A)) (hn:uc (den T A) F3w) (hex:mn (den T A) F3c):Gj (den T A):=by
 intro code hb hc;obtain ⟨b,e1,hs⟩:=hf code hb hc;obtain ⟨p,l,m,b',e2,hs',p0,p1,hl,hm⟩:=hd b hs;obtain ⟨r,c,x1,x2⟩:=T1 p m;have e3:=hex p m hm.2 hm.1;rw [x1] at e3;obtain ⟨y,b2,e4,hs2,-,-⟩:=hn b' 3 hs' (by omega)
 obtain ⟨_,_,_,rfl,_⟩:=hs;obtain ⟨_,_,_,rfl,_⟩:=hs';obtain ⟨_,_,_,rfl,_⟩:=hs2
 by_cases hc0:c=0
 ·by_cases hy:y=0
  ·refine ⟨p,r,m,c9 hT rfl ?_,x2,hm⟩
   simp -implicitDefEqProofs [Z3b,Z3b_B,aw,e1,e2,e3,e4,hc0,hy,List.replicate,List.idxOf,List.findIdx,List.findIdx.go]
  ·refine ⟨p,l,m,c9 hT rfl ?_,hl,hm⟩
   simp -implicitDefEqProofs [Z3b,Z3b_B,aw,e1,e2,e3,e4,hc0,hy,List.replicate,List.idxOf,List.findIdx,List.findIdx.go]
 ·refine ⟨p,l,m,c9 hT rfl ?_,hl,hm⟩
  simp -implicitDefEqProofs [Z3b,Z3b_B,aw,e1,e2,e3,hc0,List.replicate,List.idxOf,List.findIdx,List.findIdx.go]
def Cn (O:ap):Prop:=∀code:List Int,gw code→code.length≤4096→∃(p:Int) (l m:List Int),ask O F3a [.sl .leaf (af .u8 code)]=some (.tup [(D.int .i64 p),(D.arr 64 .leaf (af .u8 l)),(D.arr 64 .leaf (af .u8 m))])∧Arr l∧Arr m
theorem Us (hT:T F3a=some Z3a) (hf:Jm (den T A)) (hd:y8 (den T A)) (hn:uc (den T A) F3w) (hpr:B8 (den T A)) (hdm:Bl (den T A)):Cn (den T A):=by
 intro code hb hc;obtain ⟨b,e1,hs⟩:=hf code hb hc;obtain ⟨p,l,m,b',e2,hs',p0,p1,hl,hm⟩:=hd b hs;have e3:=hpr p;obtain ⟨y,b2,e4,hs2,y0,-⟩:=hn b' 6 hs' (by omega)
 by_cases hp:isP p=true
 ·haveI:IsP p:=a6e hp
  rw [hp] at e3
  by_cases hy:0<y
  ·obtain ⟨a,b3,e5,hs3,-,-,-⟩:=hdm p b2 3 hs2 (by omega) (by omega)
   refine ⟨p,l,pad (row a),c9 hT rfl ?_,hl,z5 a⟩;obtain ⟨_,_,_,rfl,_⟩:=hs;obtain ⟨_,_,_,rfl,_⟩:=hs';obtain ⟨_,_,_,rfl,_⟩:=hs2;obtain ⟨_,_,_,rfl,_⟩:=hs3;generalize pad (row a)=Pa at *;simp -implicitDefEqProofs [Z3a,Z3a_B,aw,e1,e2,e3,e4,e5,hy,List.replicate,List.idxOf,List.findIdx,List.findIdx.go]
  ·refine ⟨p,l,m,c9 hT rfl ?_,hl,hm⟩
   obtain ⟨_,_,_,rfl,_⟩:=hs;obtain ⟨_,_,_,rfl,_⟩:=hs';obtain ⟨_,_,_,rfl,_⟩:=hs2;simp -implicitDefEqProofs [Z3a,Z3a_B,aw,e1,e2,e3,e4,hy,List.replicate,List.idxOf,List.findIdx,List.findIdx.go]
 ·rw [Bool.not_eq_true] at hp
  rw [hp] at e3;refine ⟨p,l,m,c9 hT rfl ?_,hl,hm⟩;obtain ⟨_,_,_,rfl,_⟩:=hs;obtain ⟨_,_,_,rfl,_⟩:=hs';simp -implicitDefEqProofs [Z3a,Z3a_B,aw,e1,e2,e3,List.replicate,List.idxOf,List.findIdx,List.findIdx.go]
end Pe
namespace Pe
open Go Gq
section
variable {p:Int} {m:Fp p}
theorem a68:∀(N:Nat) (a:Fp p),a.lt N→Quo.mk m a=dz (fun i=>Quo.mk m (Pol.C (a.c i))*pw (Quo.mk m Pol.X) i) N
 | 0,a,h=>by rw [Pol.lt_zero.1 h]; rfl
 | N+1,a,h=>by
  obtain ⟨k,hk⟩:=a.fin
  let b:Fp p:=⟨fun i=>a.c (i+1),k,fun i hi=>hk _ (by omega)⟩
  have e:a=Pol.C (a.c 0)+Pol.X*b:=Pol.ext fun i=>by
   rw [Pol.c_add,Pol.c_C,Pol.c_Xmul];cases i with
   | zero=>rw [if_pos rfl,if_pos rfl,Gq.add_zero]
   | succ i=>rw [if_neg (by omega),if_neg (by omega),Gq.zero_add]; rfl
  have ih:=a68 N b fun i hi=>h _ (by omega)
  rw [vi];have e2:Quo.mk m a=Quo.mk m (Pol.C (a.c 0))+Quo.mk m Pol.X*Quo.mk m b:=by rw [←Quo.mk_mul,←Quo.mk_add,←e]
  rw [e2,ih,←tu];show _=Quo.mk m (Pol.C (a.c 0))*1+_;rw [Gq.mul_one]
  congr 1
  exact ku fun i _=>by
   show Quo.mk m Pol.X*(Quo.mk m (Pol.C (a.c (i+1)))*pw (Quo.mk m Pol.X) i)=Quo.mk m (Pol.C (a.c (i+1)))*(pw (Quo.mk m Pol.X) i*Quo.mk m Pol.X);exact bj [Quo.mk m Pol.X,Quo.mk m (Pol.C (a.c (i+1))),pw (Quo.mk m Pol.X) i] rfl
end
structure FrobSaid {p:Int} [IsP p] (m g d:Fp p):Prop where
 lt:(frA m g d).lt ((m.len-1)/2+1)
 eq:∀n,(if n=2*(m.len-1) then 1 else 0)-(if n<m.len-1 then 0 else dz (fun i=>Quo.mk m (Pol.C ((frA m g d).c i))*Rk (Quo.mk m Pol.X) (Quo.mk m g) (Quo.mk m d) i (n-(m.len-1))) ((m.len-1)/2+1))+dz (fun i=>Quo.mk m (Pol.C ((frB m d).c i))*Rk (Quo.mk m Pol.X) (Quo.mk m g) (Quo.mk m d) i n) m.len=0
section
variable {p:Int} {m g d:Fp p}
end
section
variable {p:Int} [IsP p] (m:Fp p)
noncomputable def eC:Nat→Nat→Quo m
 | 0,n=>if n=0 then 1 else 0
 | i+1,0=>Quo.mk m Pol.X*eC i 0
 | i+1,n+1=>Quo.mk m Pol.X*eC i (n+1)+pw (eC i n) p.toNat
variable {m}
theorem Se:pw (0:Quo m) p.toNat=0:=by
 have hp:=IsP.pos (p:=p);obtain ⟨k,hk⟩:∃k,p.toNat=k+1:=⟨p.toNat-1,by omega⟩
 rw [hk,pw,Gq.mul_zero]
theorem Hz:∀(i n:Nat),i<n→eC m i n=0
 | 0,n,h=>by rw [eC,if_neg (by omega)]
 | i+1,0,h=>by omega
 | i+1,n+1,h=>by rw [eC,Hz i (n+1) (by omega),Hz i n (by omega),Se,Gq.mul_zero,Gq.add_zero]
theorem a2o:∀i:Nat,eC m i i=1
 | 0=>by rw [eC,if_pos rfl]
 | i+1=>by rw [eC,Hz i (i+1) (by omega),a2o i,Ap,Gq.mul_zero,Gq.zero_add]
end
section
variable {p:Int} (m:Fp p)
variable {m}
theorem Xn:∀i:Nat,eC m i 0=pw (Quo.mk m Pol.X) i
 | 0=>rfl
 | i+1=>by rw [eC,Xn i,pw,Gq.mul_comm]
end
section
variable {p:Int} [IsP p] (m:Fp p)
variable {m}
end
section
variable {p:Int} (m:Fp p)
variable {m}
theorem ppw (x:Quo m) (n:Nat):pw x (p.toNat^(n+1))=pw (pw x (p.toNat^n)) p.toNat:=by rw [wj,mz]
end
section
variable {p:Int} [IsP p] (m:Fp p)
variable {m}
theorem Oo:∀i n:Nat,(pw (Quo.mk m Pol.X) (p.toNat^(n+1))-Quo.mk m Pol.X)*eC m i (n+1)=pw (eC m i n) p.toNat-eC m i n
 | 0,n=>by
  rw [eC,if_neg (by omega),Gq.mul_zero,eC]
  split
  ·rw [Ap]; exact (Gq.sub_self _).symm
  ·rw [Se]; exact (Gq.sub_self _).symm
 | i+1,n=>by
  have h1:=Oo i n;rw [eC]
  have e0:(pw (Quo.mk m Pol.X) (p.toNat^(n+1))-Quo.mk m Pol.X)*(Quo.mk m Pol.X*eC m i (n+1)+pw (eC m i n) p.toNat) =
   Quo.mk m Pol.X*((pw (Quo.mk m Pol.X) (p.toNat^(n+1))-Quo.mk m Pol.X)*eC m i (n+1))+(pw (Quo.mk m Pol.X) (p.toNat^(n+1))-Quo.mk m Pol.X)*pw (eC m i n) p.toNat:=
   bj [pw (Quo.mk m Pol.X) (p.toNat^(n+1)),Quo.mk m Pol.X,eC m i (n+1),pw (eC m i n) p.toNat] rfl
  rw [e0,h1];cases n with
  | zero=>
   rw [eC,qx,show p.toNat^(0+1)=p.toNat by rw [mz,n5,Nat.one_mul]]
   exact bj [Quo.mk m Pol.X,pw (eC m i 0) p.toNat,eC m i 0,pw (Quo.mk m Pol.X) p.toNat] rfl
  | succ n=>
   have h2:=congrArg (fun y=>pw y p.toNat) (Oo i n)
   have h3:pw ((pw (Quo.mk m Pol.X) (p.toNat^(n+1))-Quo.mk m Pol.X)*eC m i (n+1)) p.toNat=(pw (Quo.mk m Pol.X) (p.toNat^(n+1+1))-pw (Quo.mk m Pol.X) p.toNat)*pw (eC m i (n+1)) p.toNat:=by
    rw [qx,frob_hom.sub,←ppw]
   have h4:pw (pw (eC m i n) p.toNat-eC m i n) p.toNat=pw (pw (eC m i n) p.toNat) p.toNat-pw (eC m i n) p.toNat:=frob_hom.sub _ _;rw [h3,h4] at h2;rw [eC,vk,qx]
   have e5:Quo.mk m Pol.X*(pw (eC m i (n+1)) p.toNat-eC m i (n+1))+(pw (Quo.mk m Pol.X) (p.toNat^(n+1+1))-Quo.mk m Pol.X)*pw (eC m i (n+1)) p.toNat =
    pw (Quo.mk m Pol.X) p.toNat*pw (eC m i (n+1)) p.toNat+(pw (Quo.mk m Pol.X) (p.toNat^(n+1+1))-pw (Quo.mk m Pol.X) p.toNat)*pw (eC m i (n+1)) p.toNat-Quo.mk m Pol.X*eC m i (n+1):=
    bj [Quo.mk m Pol.X,pw (eC m i (n+1)) p.toNat,eC m i (n+1),pw (Quo.mk m Pol.X) (p.toNat^(n+1+1)),pw (Quo.mk m Pol.X) p.toNat] rfl
   rw [e5,h2];exact bj [pw (Quo.mk m Pol.X) p.toNat,pw (eC m i (n+1)) p.toNat,pw (pw (eC m i n) p.toNat) p.toNat,pw (eC m i n) p.toNat,Quo.mk m Pol.X*eC m i (n+1)] rfl
theorem Qr (f:Nat→Quo m):∀n,pw (dz f n) p.toNat=dz (fun i=>pw (f i) p.toNat) n
 | 0=>Se
 | n+1=>by rw [dz,vk,Qr f n]; rfl
theorem Ov (hm:m≠0) (x:Fp p):∀(i N:Nat),i<N→Quo.mk m (stI m i x)=dz (fun n=>eC m i n*pw (Quo.mk m x) (p.toNat^n)) N
 | 0,N,h=>by
  have e:(fun n=>eC m 0 n*pw (Quo.mk m x) (p.toNat^n))=fun n=>(if n=0 then (1:Quo m) else 0)*pw (Quo.mk m x) (p.toNat^n):=by
   funext n; rw [eC]
  rw [e,Al,if_pos h,n5,zt]; rfl
 | i+1,N,h=>by
  obtain ⟨M,rfl⟩:∃M,N=M+1:=⟨N-1,by omega⟩
  show Quo.mk m (stp m (stI m i x))=_;rw [D3 hm,vi];have h1:=Ov hm x i (M+1) (by omega)
  rw [vi] at h1;have h2:=Ov hm x i M (by omega)
  conv=>lhs; lhs; rw [h1]
  rw [h2,Qr,Gq.mul_add,←tu];have e1:∀n,pw (eC m i n*pw (Quo.mk m x) (p.toNat^n)) p.toNat=pw (eC m i n) p.toNat*pw (Quo.mk m x) (p.toNat^(n+1)):=fun n=>by rw [qx,←ppw]
  rw [ku fun n _=>e1 n]
  have e2:dz (fun n=>eC m (i+1) (n+1)*pw (Quo.mk m x) (p.toNat^(n+1))) M=dz (fun n=>Quo.mk m Pol.X*(eC m i (n+1)*pw (Quo.mk m x) (p.toNat^(n+1)))) M+dz (fun n=>pw (eC m i n) p.toNat*pw (Quo.mk m x) (p.toNat^(n+1))) M:=by
   rw [←u5]
   exact ku fun n _=>by
    rw [eC];exact bj [Quo.mk m Pol.X,eC m i (n+1),pw (Quo.mk m x) (p.toNat^(n+1)),pw (eC m i n) p.toNat] rfl
  rw [e2,eC,n5,zt];exact bj [Quo.mk m Pol.X,eC m i 0,Quo.mk m x,dz (fun n=>Quo.mk m Pol.X*(eC m i (n+1)*pw (Quo.mk m x) (p.toNat^(n+1)))) M,dz (fun n=>pw (eC m i n) p.toNat*pw (Quo.mk m x) (p.toNat^(n+1))) M] rfl
noncomputable def cF (m f:Fp p) (N n:Nat):Quo m:=dz (fun i=>Quo.mk m (Pol.C (f.c i))*eC m i n) N
theorem Ub (hm:m≠0) (x f:Fp p) (M:Nat):∀N,N≤M→Quo.mk m (dz (fun i=>Pol.C (f.c i)*stI m i x) N)=dz (fun n=>cF m f N n*pw (Quo.mk m x) (p.toNat^n)) M
 | 0,_=>by
  have:∀M,dz (fun n=>cF m f 0 n*pw (Quo.mk m x) (p.toNat^n)) M=0:=fun M=>by
   induction M with
   | zero=>rfl
   | succ M ih=>rw [dz,ih]; show 0+(0:Quo m)*_=0; rw [Gq.zero_mul,Gq.add_zero]
  rw [this]; rfl
 | N+1,h=>by
  rw [dz,Quo.mk_add,Quo.mk_mul,Ub hm x f M N (by omega),Ov hm x N M (by omega),←tu,←u5]
  exact ku fun n _=>by
   show _=(cF m f N n+Quo.mk m (Pol.C (f.c N))*eC m N n)*_;exact bj [cF m f N n,pw (Quo.mk m x) (p.toNat^n),Quo.mk m (Pol.C (f.c N)),eC m N n] rfl
theorem Y3 (f:Fp p) (n:Nat):∀N,(pw (Quo.mk m Pol.X) (p.toNat^(n+1))-Quo.mk m Pol.X)*cF m f N (n+1)=pw (cF m f N n) p.toNat-cF m f N n
 | 0=>by
  show _*(0:Quo m)=pw 0 p.toNat-0;rw [Se,Gq.mul_zero]; exact (Gq.sub_self _).symm
 | N+1=>by
  have ih:=Y3 f n N;have e:=Oo (m:=m) N n;show _*(cF m f N (n+1)+Quo.mk m (Pol.C (f.c N))*eC m N (n+1))=pw (cF m f N n+Quo.mk m (Pol.C (f.c N))*eC m N n) p.toNat-(cF m f N n+Quo.mk m (Pol.C (f.c N))*eC m N n);have cst:pw (Quo.mk m (Pol.C (f.c N))) p.toNat=Quo.mk m (Pol.C (f.c N)):=by rw [←Quo.mk_pow,←a27,ye]
  rw [vk,qx,cst]
  have e0:(pw (Quo.mk m Pol.X) (p.toNat^(n+1))-Quo.mk m Pol.X)*(cF m f N (n+1)+Quo.mk m (Pol.C (f.c N))*eC m N (n+1)) =
   (pw (Quo.mk m Pol.X) (p.toNat^(n+1))-Quo.mk m Pol.X)*cF m f N (n+1)+Quo.mk m (Pol.C (f.c N))*((pw (Quo.mk m Pol.X) (p.toNat^(n+1))-Quo.mk m Pol.X)*eC m N (n+1)):=
   bj [pw (Quo.mk m Pol.X) (p.toNat^(n+1)),Quo.mk m Pol.X,cF m f N (n+1),Quo.mk m (Pol.C (f.c N)),eC m N (n+1)] rfl
  rw [e0,ih,e];exact bj [pw (cF m f N n) p.toNat,cF m f N n,Quo.mk m (Pol.C (f.c N)),pw (eC m N n) p.toNat,eC m N n] rfl
theorem a3l {f:Fp p} {N:Nat} (hN:f.len=N+1):cF m f (N+1) N=Quo.mk m (Pol.C f.ld):=by
 have h:∀K,K≤N→cF m f K N=0:=fun K hK=>by
  induction K with
  | zero=>rfl
  | succ K ih=>
   show cF m f K N+Quo.mk m (Pol.C (f.c K))*eC m K N=0;rw [ih (by omega),Hz K N (by omega),Gq.mul_zero,Gq.add_zero]
 show cF m f N N+Quo.mk m (Pol.C (f.c N))*eC m N N=_;rw [h N (bh N),a2o,Gq.mul_one,Gq.zero_add];unfold Pol.ld;rw [hN]; rfl
theorem a7v (hi:Irr m) (hm:Monic m) (h6:m.len≤6) {x:Fp p}:Quo.mk m (av m x m)=Quo.mk m x:=by
 have h2:=hi.len;obtain ⟨d,hd⟩:∃d,m.len=d+1:=⟨m.len-1,by omega⟩
 have hpb:p^d<1000000000000:=by have:=E4 (p:=p) (k:=d) (by omega); omega
 have z:∀n,n<d→cF m m (d+1) n=0:=fun n=>by
  induction n with
  | zero=>
   intro _
   have e:cF m m (d+1) 0=Quo.mk m m:=by
    rw [a68 (m:=m) (d+1) m (by rw [←hd]; exact m.lt_len)]
    exact ku fun i _=>by rw [Xn]
   rw [e];exact nv.1 (Dv.refl m)
  | succ n ih=>
   intro hn;have e:=Y3 (m:=m) m n (d+1);rw [ih (by omega),Se,show (0:Quo m)-0=0 from Gq.sub_self _] at e
   rcases hi.quo_zero e with h | h
   ·exfalso
    have hf:pw (Quo.mk m Pol.X) (p.toNat^(n+1))=Quo.mk m Pol.X:=by
     have:pw (Quo.mk m Pol.X) (p.toNat^(n+1))=pw (Quo.mk m Pol.X) (p.toNat^(n+1))-Quo.mk m Pol.X+Quo.mk m Pol.X:=bj [pw (Quo.mk m Pol.X) (p.toNat^(n+1)),Quo.mk m Pol.X] rfl;rw [this,h,Gq.zero_add]
    have:=D4 hi hd hpb (by omega) (Uk.2 hf)
    omega
   ·exact h
 have e1:=Ub hm.2 x m (d+1) (d+1) (bh _);rw [←hd,show dz (fun i=>Pol.C (m.c i)*stI m i x) m.len=av m x m from rfl,hd] at e1
 rw [e1,dz]
 have e2:dz (fun n=>cF m m (d+1) n*pw (Quo.mk m x) (p.toNat^n)) d=0:=by
  have:∀K,K≤d→dz (fun n=>cF m m (d+1) n*pw (Quo.mk m x) (p.toNat^n)) K=0:=fun K hK=>by
   induction K with
   | zero=>rfl
   | succ K ih=>rw [dz,ih (by omega),z K (by omega),Gq.zero_mul,Gq.add_zero]
  exact this d (bh d)
 have hld:m.ld=1:=hm.1;rw [e2,a3l hd,hld,Pol.C_one,Quo.mk_one,Gq.one_mul,Gq.zero_add];exact Cm hi hd hpb _
end
section
variable {p:Int} (m:Fp p)
variable {m}
theorem Ld (c:Nat→Quo m) (y:Quo m) (M:Nat):∀N,(∀n,n<N→p.toNat^n<M)→dz (fun i=>dz (fun n=>(if i=p.toNat^n then 1 else 0)*c n) N*pw y i) M=dz (fun n=>c n*pw y (p.toNat^n)) N
 | 0,_=>by
  have:∀M,dz (fun i=>dz (fun n=>(if i=p.toNat^n then 1 else 0)*c n) 0*pw y i) M=0:=fun M=>by
   induction M with
   | zero=>rfl
   | succ M ih=>rw [dz,ih]; show 0+(0:Quo m)*_=0; rw [Gq.zero_mul,Gq.add_zero]
  rw [this]; rfl
 | N+1,h=>by
  have ih:=Ld c y M N fun n hn=>h n (by omega)
  have hN:=h N (by omega)
  have e1:=Al (p.toNat^N) (fun i=>c N*pw y i) M
  rw [if_pos hN] at e1;rw [dz,←ih,←e1,←u5]
  exact ku fun i _=>by
   show (dz (fun n=>(if i=p.toNat^n then 1 else 0)*c n) N+(if i=p.toNat^N then 1 else 0)*c N)*pw y i=_
   exact bj [dz (fun n=>(if i=p.toNat^n then 1 else 0)*c n) N,(if i=p.toNat^N then (1:Quo m) else 0),c N,pw y i] rfl
end
section
variable {p:Int} [IsP p] (m:Fp p)
variable {m}
theorem Wl (c:Nat→Quo m) (e:Nat):dz (fun n=>(if p.toNat^e=p.toNat^n then 1 else 0)*c n) (e+1)=c e:=by
 have hp:2≤p.toNat:=by have:=IsP.ge (p:=p); omega
 have:∀K,K≤e→dz (fun n=>(if p.toNat^e=p.toNat^n then 1 else 0)*c n) K=0:=fun K hK=>by
  induction K with
  | zero=>rfl
  | succ K ih=>
   have hne:¬ p.toNat^e=p.toNat^K:=fun h=>by
    have:=Nat.pow_lt_pow_right (a:=p.toNat) (by omega) (show K<e by omega)
    omega
   rw [dz,ih (by omega),if_neg hne,Gq.zero_mul,Gq.add_zero]
 rw [dz,this e (bh e),if_pos rfl,Gq.one_mul,Gq.zero_add]
theorem a18 (hi:Irr m) (hm:Monic m) (h6:m.len≤6) {f:Fp p} (hf:f.len<m.len) (hk:∀x:Fp p,x.len<m.len→av m x f=0):f=0:=by
 classical
 refine dj fun hf0=>?_
 have fp:=Pol.len_pos hf0;obtain ⟨e,he⟩:∃e,f.len=e+1:=⟨f.len-1,by omega⟩
 obtain ⟨d,hd⟩:∃d,m.len=d+1:=⟨m.len-1,by omega⟩
 have hp:2≤p.toNat:=by have:=IsP.ge (p:=p); omega
 have hpb:p^d<1000000000000:=by have:=E4 (p:=p) (k:=d) (by omega); omega
 have hc:cF m f (e+1) e≠0:=by
  rw [a3l he];intro h;have h1:=nv.2 h;have hl:=a01 (p:=p) f.ld
  have hne:Pol.C f.ld≠0:=fun h=>by
   have:=congrArg (fun a:Fp p=>a.c 0) h
   simp only [Pol.c_C] at this;exact Pol.ld_ne hf0 this
  have:=h1.len hne;have:=hi.len;omega
 have r:=In (fun x y e=>hi.quo_zero e) (p.toNat^e) (fun i=>dz (fun n=>(if i=p.toNat^n then 1 else 0)*cF m f (e+1) n) (e+1)) ((0:Quo m)::x8 m d)
  (by rw [Wl]; exact hc)
  (iq.2 ⟨fun h0=>(Dd hd hpb 0).1 h0 rfl,yi hd hpb⟩)
  (fun y _=>by
   obtain ⟨a,rfl⟩:=Quo.ex y
   rw [←Ek hm.2 a,Ld _ _ _ _ (fun n hn=>by
    have:p.toNat^n≤p.toNat^e:=Nat.pow_le_pow_right (by omega) (by omega)
    omega)]
   have h1:=Ub hm.2 (a%m) f (e+1) (e+1) (bh _);rw [←he,show dz (fun i=>Pol.C (f.c i)*stI m i (a%m)) f.len=av m (a%m) f from rfl,hk _ (Pol.len_mod a hm.2),he] at h1
   rw [←h1]; rfl)
 have hl:(x8 m d).length=p.toNat^d-1:=by unfold x8; rw [ba,p8]
 have hpos:=uw (p:=p) d;rw [c7,hl] at r;have h2:p.toNat^e<p.toNat^d:=Nat.pow_lt_pow_right (by omega) (by omega)
 omega
theorem Ym (hi:Irr m) (hm:Monic m) (h6:m.len≤6):li m=m-1:=by
 have h2:=hi.len;obtain ⟨g1,g2⟩:=Ho hm h2
 have kill:∀x:Fp p,x.len<m.len→av m x (m-1)=0:=fun x hx=>by
  rw [(o4 m x).sub]
  have e1:av m x 1=x:=by
   have:=a7c m x 1
   rwa [Pol.C_one,Gq.one_mul] at this
  rw [e1,Q3 hm.2 (ub hm.2 hx m) hx (a7v hi hm h6)];exact Gq.sub_self _
 have h:MinR (jv m (xsL p (m.len-1))) (m-1):=⟨g1,(yn hm.2 (ud h2) _).2 fun x hx=>kill x (ud h2 x hx),fun g hg h0=>by
  rw [g2] at hg;exact a18 hi hm h6 hg fun x hx=>Qc hm.2 ((yn hm.2 (ud h2) g).1 h0) x (by omega)⟩
 exact (tg h2 h6).1.one (A9 m _) h
end
end Pe
namespace Pe
open Go Gq
variable {T:Nat→Option Fn} {A:ap}
section
variable {p:Int} [IsP p]
end
open Classical in
noncomputable def iiO (p:Int) (a:List Int):D:=
 if dgC p a (-1) 12=0 then (if h:IsP p then haveI:=h; .tup [(D.bool (irB (fe p a))),(D.int .i64 0)] else .tup [(D.bool false),(D.int .i64 0)]) else .tup [(D.bool false),(D.int .i64 (dgC p a (-1) 12))]
theorem Qj {p:Int} [ip:IsP p] {X:Fp p} (h:dgC p (pad (row X)) (-1) 12=0) (hX:X.len≤64):iiO p (pad (row X))=.tup [(D.bool (irB X)),(D.int .i64 0)]:=by
 unfold iiO;rw [if_pos h,dif_pos ip,jn hX]
theorem a6x {p:Int} {a:List Int} (h:¬ dgC p a (-1) 12=0):iiO p a=.tup [(D.bool false),(D.int .i64 (dgC p a (-1) 12))]:=by unfold iiO; rw [if_neg h]
def Jo (O:ap) (F:Nat):Prop:=∀(p:Int) (a:List Int),gw a→a.length=64→ask O F [(D.int .i64 p),(D.arr 64 .leaf (af .u8 a))]=some (iiO p a)
theorem a1t (hT:T Fe=some Ze) (hdc:yv (den T A) Fo) (hro:od (den T A)) (hir:Hw (den T A)):Jo (den T A) Fe:=by
 intro p a ha gl;have e1:=hdc p a (-1) 12 ha gl
 by_cases h:dgC p a (-1) 12=0
 ·have h':=h
  rw [h] at e1;obtain ⟨ip,X,rfl,h1,h2,hX⟩:=a2u ha gl h;rw [Qj h' hX];have e2:=hro p X hX;have e3:ask (den T A) F18 [(D.int .i64 p),(D.sl .leaf (af .i64 (row X)))]=some (D.bool (irB X)):=hir p X (by omega)
  refine c9 hT rfl ?_;generalize irB X=b at *;generalize pad (row X)=Px at *;generalize row X=Rx at *;simp -implicitDefEqProofs [Ze,Ze_B,aw,e1,e2,e3]
 ·rw [a6x h]
  refine c9 hT rfl ?_;generalize dgC p a (-1) 12=c at *;simp -implicitDefEqProofs [Ze,Ze_B,aw,e1,h]
end Pe
namespace Pe
open Go Gq
variable {T:Nat→Option Fn} {A:ap}
end Pe
namespace Pe
open Go Gq
section
variable {p:Int} [IsP p]
end
end Pe
namespace Pe
open Go Gq
variable {T:Nat→Option Fn} {A:ap}
def Lv:Nat→Cd→Cd→Cd
 | 0,_,t=>t
 | n+1,.seq a b,t=>.seq a (Lv n b t)
 | _+1,c,_=>c
def pa:Nat→Cd→Cd
 | 0,c=>c
 | n+1,.seq _ b=>pa n b
 | _+1,c=>c
theorem Tw (c t:Cd):Lv 0 c t=t:=rfl
theorem Un (n:Nat) (a b t:Cd):Lv (n+1) (.seq a b) t=.seq a (Lv n b t):=rfl
theorem a6k {p:Int} [IsP p] (c:Zp p):(pad []).set 0 (rep c)=pad (row (Pol.C c:Fp p)):=by
 have hl:(Pol.C c:Fp p).len≤64:=du (Pol.len_le (Pol.lt_C c)) (by omega)
 have h0:pad []=List.replicate 64 0:=by decide +kernel
 apply qb
 ·rw [cx,c8,c8]
 ·intro i h1 h2
  rw [cx,c8] at h1;rw [←gu h2,p9 hl,Pol.c_C,List.getElem_set]
  by_cases hi:i=0
  ·subst hi; rw [if_pos rfl,if_pos rfl]
  ·rw [if_neg (fun h=>hi h.symm),if_neg hi]
   simp only [h0,List.getElem_replicate];exact rep_zero.symm
section
variable {p:Int}
end
def zw (O:ap) (F:Nat) (k:Int):Prop:=∀(p:Int) [IsP p] (a b:Fp p),a.len≤64→b.len≤64→ask O F [(D.int .i64 p),(D.arr 64 .leaf (af .u8 (pad (row a)))),(D.arr 64 .leaf (af .u8 (pad (row b))))]=some (.tup [(D.arr 64 .leaf (af .u8 (pad (row (a+Pol.C (zp p k)*b))))),(D.int .i64 0)])
theorem a7q {p:Int} [IsP p] {a b:Fp p} {n:Nat} (k:Zp p) (ha:a.len≤n) (hb:b.len≤n):(a+Pol.C k*b).len≤n:=
 Pol.len_le fun j hj=>by
  rw [Pol.c_add,Pol.c_Cmul,a.lt_len j (by omega),b.lt_len j (by omega),Gq.mul_zero,Gq.add_zero]
theorem Hl (hT:T Fg=some Zg) (hpc:mu (den T A)) (hro:od (den T A)) (hco:fl (den T A)) (hto:zj (den T A)):zw (den T A) Fg (-1):=by
 intro p ip X M hX hM;have e1:=hpc p [pad (row X),pad (row M)] (C9 (mi X) (c8 _) (mi M) (c8 _)) (by simp)
 rw [Qq,show [pad (row X),pad (row M)].map p7=[(D.arr 64 .leaf (af .u8 (pad (row X)))),(D.arr 64 .leaf (af .u8 (pad (row M))))] from rfl] at e1;have e2:=hro p X hX;have e3:=hro p M hM;have e4:=hco p (-1) X M (by omega) (by omega) (by omega) (by omega)
 have hl:=a7q (zp p (-1)) hX hM;have e5:=hto (row (X+Pol.C (zp p (-1))*M)) (sq _) (by rw [bi]; omega)
 unfold H5 at e5;rw [bi,if_pos hl] at e5;refine c9 hT rfl ?_;generalize pad (row (X+Pol.C (zp p (-1))*M))=Pr at *;generalize row (X+Pol.C (zp p (-1))*M)=Rr at *;generalize pad (row X)=Px at *;generalize row X=Rx at *;generalize pad (row M)=Pm at *;generalize row M=Rm at *;simp -implicitDefEqProofs [Zg,Zg_B,aw,e1,e2,e3,e4,e5,List.replicate]
section
variable {p:Int} [IsP p]
def ags (M X G:Fp p) (k:Nat):Prop:=pw G k%M=X%M
def IsLog (M X G:Fp p) (k:Nat):Prop:=k<p.toNat^(M.len-1)∧ags M X G k∧∀j,j<k→¬ ags M X G j
theorem IsLog.unique {M X G:Fp p} {j k:Nat} (hj:IsLog M X G j) (hk:IsLog M X G k):j=k:=by
 rcases km j k with h | h | h
 ·exact absurd hj.2.1 (hk.2.2 j h)
 ·exact h
 ·exact absurd hk.2.1 (hj.2.2 k h)
end
section
variable {p:Int} [IsP p]
end
section
variable {p:Int} [ip:IsP p] {M X G:Fp p}
end
section
variable {p:Int} [IsP p]
end
theorem aer:Z1x_B=Lv 8 Z1x_B (pa 8 Z1x_B):=by
 rw [Z1x_B]; rfl
theorem a9v:pa 8 Z1x_B=Lv 7 (pa 8 Z1x_B) (pa 15 Z1x_B):=by
 rw [Z1x_B]; rfl
theorem ae2:pa 15 Z1x_B=Lv 6 (pa 15 Z1x_B) (pa 21 Z1x_B):=by
 rw [Z1x_B]; rfl
theorem agr {O:ap} (t:Cd) {code a m x n an:List Int} {p q tn c1 two:Int}
 (e0:ask O F1y [.sl .leaf (af .u8 code)]=some (D.bool false))
 (d1:ask O F3b [.sl .leaf (af .u8 code)]=some (.tup [(D.int .i64 p),(D.arr 64 .leaf (af .u8 a)),(D.arr 64 .leaf (af .u8 m))]))
 (a1:ask O Fh [(D.int .i64 p),(D.arr 64 .leaf (af .u8 a)),(D.arr 64 .leaf (af .u8 m))]=some (.tup [(D.int .i64 tn),(D.int .i64 c1)]))
 (a2:ask O F3d [(D.int .i64 p),(D.arr 64 .leaf (af .u8 a)),(D.arr 64 .leaf (af .u8 m))]=some (.tup [(D.int .i64 tn),(D.int .i64 c1)]))
 (d2:ask O F39 [.sl .leaf (af .u8 code)]=some (.tup [(D.int .i64 q),(D.arr 64 .leaf (af .u8 x)),(D.arr 64 .leaf (af .u8 n))]))
 (b1:ask O F7 [(D.int .i64 q),(D.arr 64 .leaf (af .u8 x)),(D.arr 64 .leaf (af .u8 n))]=some (.tup [(D.arr 64 .leaf (af .u8 an)),(D.int .i64 two)]))
 (b2:ask O F36 [(D.int .i64 q),(D.arr 64 .leaf (af .u8 x)),(D.arr 64 .leaf (af .u8 n))]=some (.tup [(D.arr 64 .leaf (af .u8 an)),(D.int .i64 two)]))
 (q1:D.beq (.arr 64 .leaf .int) (D.arr 64 .leaf (af .u8 an)) (D.arr 64 .leaf (af .u8 an))=some true) :
 dn O 0 (Lv 8 Z1x_B t) ⟨[(0,.d (.sl .leaf (af .u8 code)))],[.hole,.hole,.hole,.hole,.hole,.hole,.hole,.hole,.hole,.hole,.hole,.hole,.hole,.hole,.hole,.hole,.hole,.hole,.hole]⟩ =
  dn O 0 t ⟨[(0,.d (.sl .leaf (af .u8 code))),(10,(.d (.int .i64 q))),(11,.ptr 2 []),(12,.ptr 3 []),(13,.ptr 4 []),(14,(.d (.int .i64 two))),(104,(.d (.bool false)))],[.hole,.hole,.box false (D.arr 64 .leaf (af .u8 x)),.box false (D.arr 64 .leaf (af .u8 n)),.box false (D.arr 64 .leaf (af .u8 an)),.hole,.hole,.hole,.hole,.hole,.hole,.hole,.hole,.hole,.hole,.hole,.hole,.hole,.hole]⟩:=by
 simp -implicitDefEqProofs [Z1x_B,Tw,Un,aw,e0,d1,a1,a2,d2,b1,b2,q1,List.replicate]
theorem agm {O:ap} (t:Cd) {code x n an ex ge y l dp:List Int} {q two three four r c5:Int}
 (a1:ask O Fc [(D.int .i64 q),(D.arr 64 .leaf (af .u8 n))]=some (.tup [(D.arr 64 .leaf (af .u8 ex)),(D.int .i64 three)]))
 (a2:ask O F3c [(D.int .i64 q),(D.arr 64 .leaf (af .u8 n))]=some (.tup [(D.arr 64 .leaf (af .u8 ex)),(D.int .i64 three)]))
 (b1:ask O F8 [(D.int .i64 q),(D.arr 64 .leaf (af .u8 n))]=some (.tup [(D.arr 64 .leaf (af .u8 ge)),(D.int .i64 four)]))
 (b2:ask O F37 [(D.int .i64 q),(D.arr 64 .leaf (af .u8 n))]=some (.tup [(D.arr 64 .leaf (af .u8 ge)),(D.int .i64 four)]))
 (d1:ask O F3a [.sl .leaf (af .u8 code)]=some (.tup [(D.int .i64 r),(D.arr 64 .leaf (af .u8 y)),(D.arr 64 .leaf (af .u8 l))]))
 (c1:ask O F9 [(D.int .i64 r),(D.arr 64 .leaf (af .u8 y)),(D.arr 64 .leaf (af .u8 l))]=some (.tup [(D.arr 64 .leaf (af .u8 dp)),(D.int .i64 c5)]))
 (c2:ask O F38 [(D.int .i64 r),(D.arr 64 .leaf (af .u8 y)),(D.arr 64 .leaf (af .u8 l))]=some (.tup [(D.arr 64 .leaf (af .u8 dp)),(D.int .i64 c5)]))
 (q1:D.beq (.arr 64 .leaf .int) (D.arr 64 .leaf (af .u8 ex)) (D.arr 64 .leaf (af .u8 ex))=some true) (q2:D.beq (.arr 64 .leaf .int) (D.arr 64 .leaf (af .u8 ge)) (D.arr 64 .leaf (af .u8 ge))=some true) (q3:D.beq (.arr 64 .leaf .int) (D.arr 64 .leaf (af .u8 dp)) (D.arr 64 .leaf (af .u8 dp))=some true) :
 dn O 0 (Lv 7 (pa 8 Z1x_B) t) ⟨[(0,.d (.sl .leaf (af .u8 code))),(10,(.d (.int .i64 q))),(11,.ptr 2 []),(12,.ptr 3 []),(13,.ptr 4 []),(14,(.d (.int .i64 two))),(104,(.d (.bool false)))],[.hole,.hole,.box false (D.arr 64 .leaf (af .u8 x)),.box false (D.arr 64 .leaf (af .u8 n)),.box false (D.arr 64 .leaf (af .u8 an)),.hole,.hole,.hole,.hole,.hole,.hole,.hole,.hole,.hole,.hole,.hole,.hole,.hole,.hole]⟩ =
  dn O 0 t ⟨[(10,(.d (.int .i64 q))),(11,.ptr 2 []),(12,.ptr 3 []),(13,.ptr 4 []),(14,(.d (.int .i64 two))),(17,.ptr 6 []),(18,(.d (.int .i64 three))),(21,.ptr 8 []),(22,(.d (.int .i64 four))),(172,(.d (.bool false)))],[.hole,.hole,.box false (D.arr 64 .leaf (af .u8 x)),.box false (D.arr 64 .leaf (af .u8 n)),.box false (D.arr 64 .leaf (af .u8 an)),.hole,.box false (D.arr 64 .leaf (af .u8 ex)),.hole,.box false (D.arr 64 .leaf (af .u8 ge)),.hole,.hole,.hole,.hole,.hole,.hole,.hole,.hole,.hole,.hole]⟩:=by
 rw [Z1x_B];simp -implicitDefEqProofs [pa,Tw,Un,aw,a1,a2,b1,b2,d1,c1,c2,q1,q2,q3,List.replicate]
theorem aa8 {O:ap} {x n ex ge:List Int} {q two three four:Int} (h:two≠0) :
 dn O 0 (pa 15 Z1x_B) ⟨[(10,(.d (.int .i64 q))),(11,.ptr 2 []),(12,.ptr 3 []),(13,.ptr 4 []),(14,(.d (.int .i64 two))),(17,.ptr 6 []),(18,(.d (.int .i64 three))),(21,.ptr 8 []),(22,(.d (.int .i64 four))),(172,(.d (.bool false)))],[.hole,.hole,.box false (D.arr 64 .leaf (af .u8 x)),.box false (D.arr 64 .leaf (af .u8 n)),.box false (D.arr 64 .leaf (af .u8 (pad []))),.hole,.box false (D.arr 64 .leaf (af .u8 ex)),.hole,.box false (D.arr 64 .leaf (af .u8 ge)),.hole,.hole,.hole,.hole,.hole,.hole,.hole,.hole,.hole,.hole]⟩=some (.ret,⟨[(2,(.d (.bool true)))],[.hole,.hole,.hole,.hole,.hole,.hole,.hole,.hole,.hole,.hole,.hole,.hole,.hole,.hole,.hole,.hole,.hole,.hole,.hole]⟩):=by
 have hz:(pad []).length=64:=c8 _;have q1:D.beq (.arr 64 .leaf .int) (D.arr 64 .leaf (af .u8 (pad []))) (D.arr 64 .leaf (af .u8 (pad [])))=some true:=by rw [Xl hz hz,decide_eq_true rfl]
 rw [Z1x_B];simp -implicitDefEqProofs [pa,aw,h,q1,List.replicate]
theorem ajl {O:ap} (t:Cd) {x n an ex ge qu:List Int} {q four dg:Int}
 (a1:ask O F6 [(D.int .i64 q),(D.arr 64 .leaf (af .u8 an)),(D.arr 64 .leaf (af .u8 x)),(D.arr 64 .leaf (af .u8 n))]=some (.tup [(D.arr 64 .leaf (af .u8 (pad []))),(D.int .i64 0)]))
 (b1:ask O Fb [(D.int .i64 q),(D.arr 64 .leaf (af .u8 ex)),(D.arr 64 .leaf (af .u8 an))]=some (.tup [(D.arr 64 .leaf (af .u8 qu)),(D.arr 64 .leaf (af .u8 (pad []))),(D.int .i64 0)]))
 (c1:ask O Fh [(D.int .i64 q),(D.arr 64 .leaf (af .u8 ex)),(D.arr 64 .leaf (af .u8 n))]=some (.tup [(D.int .i64 dg),(D.int .i64 0)]))
 (d1:ask O Fa [(D.int .i64 q),(D.arr 64 .leaf (af .u8 n))]=some (.tup [(D.int .i64 dg),(D.int .i64 0)])) :
 dn O 0 (Lv 6 (pa 15 Z1x_B) t) ⟨[(10,(.d (.int .i64 q))),(11,.ptr 2 []),(12,.ptr 3 []),(13,.ptr 4 []),(14,(.d (.int .i64 0))),(17,.ptr 6 []),(18,(.d (.int .i64 0))),(21,.ptr 8 []),(22,(.d (.int .i64 four))),(172,(.d (.bool false)))],[.hole,.hole,.box false (D.arr 64 .leaf (af .u8 x)),.box false (D.arr 64 .leaf (af .u8 n)),.box false (D.arr 64 .leaf (af .u8 an)),.hole,.box false (D.arr 64 .leaf (af .u8 ex)),.hole,.box false (D.arr 64 .leaf (af .u8 ge)),.hole,.hole,.hole,.hole,.hole,.hole,.hole,.hole,.hole,.hole]⟩ =
  dn O 0 t ⟨[(10,(.d (.int .i64 q))),(12,.ptr 3 []),(17,.ptr 6 []),(21,.ptr 8 []),(22,(.d (.int .i64 four))),(239,(.d (.bool false)))],[.hole,.hole,.hole,.box false (D.arr 64 .leaf (af .u8 n)),.hole,.hole,.box false (D.arr 64 .leaf (af .u8 ex)),.hole,.box false (D.arr 64 .leaf (af .u8 ge)),.hole,.hole,.hole,.hole,.hole,.hole,.hole,.hole,.hole,.hole]⟩:=by
 have hz:(pad []).length=64:=c8 _;have q1:D.beq (.arr 64 .leaf .int) (D.arr 64 .leaf (af .u8 (pad []))) (D.arr 64 .leaf (af .u8 (pad [])))=some true:=by rw [Xl hz hz,decide_eq_true rfl]
 rw [Z1x_B];simp -implicitDefEqProofs [pa,Tw,Un,aw,a1,b1,c1,d1,q1,List.replicate]
theorem ajf {O:ap} {n ex ge le:List Int} {q four:Int} {yes:Bool}
 (h4:four≠0∨four=0∧ask O F7 [(D.int .i64 q),(D.arr 64 .leaf (af .u8 ge)),(D.arr 64 .leaf (af .u8 n))]=some (.tup [(D.arr 64 .leaf (af .u8 ex)),(D.int .i64 0)]))
 (a1:ask O Fe [(D.int .i64 q),(D.arr 64 .leaf (af .u8 n))]=some (.tup [(D.bool yes),(D.int .i64 0)]))
 (b1:ask O Fg [(D.int .i64 q),(D.arr 64 .leaf (af .u8 n)),(D.arr 64 .leaf (af .u8 ((pad []).set 0 1)))]=some (.tup [(D.arr 64 .leaf (af .u8 le)),(D.int .i64 0)]))
 (q1:D.beq (.arr 64 .leaf .int) (D.arr 64 .leaf (af .u8 ex)) (D.arr 64 .leaf (af .u8 ex))=some true)
 (hy:yes=false∨yes=true∧four=0∧le=ex) :
 dn O 0 (pa 21 Z1x_B) ⟨[(10,(.d (.int .i64 q))),(12,.ptr 3 []),(17,.ptr 6 []),(21,.ptr 8 []),(22,(.d (.int .i64 four))),(239,(.d (.bool false)))],[.hole,.hole,.hole,.box false (D.arr 64 .leaf (af .u8 n)),.hole,.hole,.box false (D.arr 64 .leaf (af .u8 ex)),.hole,.box false (D.arr 64 .leaf (af .u8 ge)),.hole,.hole,.hole,.hole,.hole,.hole,.hole,.hole,.hole,.hole]⟩=some (.ret,⟨[(2,(.d (.bool true)))],[.hole,.hole,.hole,.hole,.hole,.hole,.hole,.hole,.hole,.hole,.hole,.hole,.hole,.hole,.hole,.hole,.hole,.hole,.hole]⟩):=by
 have hpl:(pad ([]:List Int)).length=64:=c8 _;rw [Z1x_B];rcases h4 with h | ⟨rfl,h⟩
 ·rcases hy with rfl | ⟨rfl,h2,rfl⟩
  ·simp -implicitDefEqProofs [pa,aw,h,a1,b1,hpl,List.replicate]
  ·exact absurd h2 h
 ·rcases hy with rfl | ⟨rfl,-,rfl⟩
  ·simp -implicitDefEqProofs [pa,aw,h,a1,b1,hpl,q1,List.replicate]
  ·simp -implicitDefEqProofs [pa,aw,h,a1,b1,hpl,q1,List.replicate]
theorem Xx {p:Int} [IsP p] {a:Fp p} (h:irB a=true):Monic a∧Irr a:=by
 unfold irB at h
 simpa using h
theorem Ih {p:Int} [IsP p]:∀xs:List (Fp p),(∀x∈xs,x=0)→lc xs []=[]
 | [],_=>rfl
 | x::xs,h=>by
  rw [lc,h x (by simp),show Ab ([]:List (Fp p)) 0=[] from xh rfl]
  exact Ih xs fun y hy=>h y (by simp [hy])
def G0 (O:ap):Prop:=∀code:List Int,gw code→code.length≤9223372036854775807→ask O F1x [.sl .leaf (af .u8 code)]=some (D.bool true)
theorem a2a (p:Int) (a l:List Int):∃x y:Int,tnO p a l=.tup [(D.int .i64 x),(D.int .i64 y)]:=by
 unfold tnO
 split
 ·split
  ·exact ⟨_,_,rfl⟩
  ·exact ⟨_,_,rfl⟩
 ·exact ⟨_,_,rfl⟩
theorem yh:Arr (pad []):=⟨c8 _,fun x hx=>by
 rw [Pz] at hx;rw [(List.mem_replicate.1 hx).2]; omega⟩
theorem a2b (p:Int) (l:List Int):∃(r:List Int) (c:Int),gnO p l=.tup [(D.arr 64 .leaf (af .u8 r)),(D.int .i64 c)]∧Arr r:=by
 unfold gnO
 split
 ·split
  ·split
   ·exact ⟨_,_,rfl,z5 _⟩
   ·exact ⟨_,_,rfl,yh⟩
  ·exact ⟨_,_,rfl,yh⟩
 ·exact ⟨_,_,rfl,yh⟩
theorem a2k (p:Int) (x l:List Int):∃(r:List Int) (c:Int),dpO p x l=.tup [(D.arr 64 .leaf (af .u8 r)),(D.int .i64 c)]∧Arr r:=by
 unfold dpO
 split
 ·split
  ·split
   ·split
    ·exact ⟨_,_,rfl,z5 _⟩
    ·exact ⟨_,_,rfl,yh⟩
   ·exact ⟨_,_,rfl,yh⟩
  ·exact ⟨_,_,rfl,yh⟩
 ·exact ⟨_,_,rfl,yh⟩
theorem Sb (hT:T F1x=some Z1x) (hbig:a63 (den T A)) (hd1:Gj (den T A)) (hd2:Ew (den T A)) (hd3:Cn (den T A))
 (htn:mj (den T A) Fh) (htns:mj (den T A) F3d) (han:mh (den T A) F7) (hans:mh (den T A) F36)
 (hex:mn (den T A) Fc) (hexs:mn (den T A) F3c) (hgn:pu (den T A) F8) (hgns:pu (den T A) F37) (hdp:sw (den T A) F9) (hdps:sw (den T A) F38)
 (hac:P7 (den T A)) (hdv:wz (den T A)) (hdg:Cu (den T A)) (hii:Jo (den T A) Fe) (hsub:zw (den T A) Fg (-1)):G0 (den T A):=by
 intro code hb hl;have e0:=hbig (af .u8 code)
 by_cases hc:(4096:Int)<(af .u8 code).length
 ·rw [decide_eq_true hc] at e0
  refine c9 hT rfl ?_;simp -implicitDefEqProofs [Z1x,Z1x_B,aw,e0]
 rw [decide_eq_false hc] at e0
 have hc4:code.length≤4096:=by
  rw [Hc] at hc;omega
 have hq:∀l:List Int,l.length=64→D.beq (.arr 64 .leaf .int) (D.arr 64 .leaf (af .u8 l)) (D.arr 64 .leaf (af .u8 l))=some true:=fun l hl=>by rw [Xl hl hl,decide_eq_true rfl]
 obtain ⟨p,a,m,d1,aa,am⟩:=hd1 code hb hc4;obtain ⟨q,x,n,d2,ax,an⟩:=hd2 code hb hc4;obtain ⟨r,y,l,d3,ay,al⟩:=hd3 code hb hc4;have t1:=htn p a m aa.2 aa.1 am.2 am.1;have t2:=htns p a m aa.2 aa.1 am.2 am.1;obtain ⟨tn,c1,t3⟩:=a2a p a m;rw [t3] at t1 t2;have b1:=han q x n ax.2 ax.1 an.2 an.1;have b2:=hans q x n ax.2 ax.1 an.2 an.1;have x1:=hex q n an.2 an.1;have x2:=hexs q n an.2 an.1;have g1:=hgn q n an.2 an.1;have g2:=hgns q n an.2 an.1;have p1:=hdp r y l ay.2 ay.1 al.2 al.1;have p2:=hdps r y l ay.2 ay.1 al.2 al.1;obtain ⟨dp,c5,p3,p4⟩:=a2k r y l;rw [p3] at p1 p2;obtain ⟨ge,four,g3,g4⟩:=a2b q n;obtain ⟨ex,three,x3,x4⟩:=T1 q n
 by_cases h0:lh q n [x]=0
 ·obtain ⟨ip,M,X,rfl,rfl,hX,hM,h2,h6⟩:=Ao ax.2 ax.1 h0
  have hxm:=Pol.len_mod X hM.2;obtain ⟨n1,n2⟩:=uk hM.2 hxm;obtain ⟨m1,m2⟩:=tg h2 h6;have hel:=Y4 h2 h6;rw [Ee hX hM h2 h6] at b1 b2;rw [E6 hM h2 h6] at x1 x2;have kall:∀z:Fp q,z.len<M.len→av M z (li M)=0:=(aa5 h2 h6 _).1 (Dv.refl _)
  -- the annihilator leads to 0,and divides the exponent
  have k1:=hac q (p6 M (X%M)) X M hM h2 h6 (by omega) hX
  rw [n1.zero,dt] at k1;have hdvd:=n1.dv hM.2 (kall _ hxm);have k2:=hdv q (li M) (p6 M (X%M)) (by omega) n1.mon.2 (by omega)
  rw [(qw n1.mon.2).1 hdvd,dt] at k2;have k3:=htn q (pad (row (li M))) (pad (row M)) (mi _) (c8 _) an.2 an.1
  rw [Jr (by omega) hM h2 h6,Ih _ (fun z hz=>by
   unfold n8 at hz;obtain ⟨w,hw,rfl⟩:=ch.1 hz;exact kall w (ud h2 w hw)),dw,show ((0:Nat):Int)=0 from rfl,Int.sub_zero] at k3
  have k4:=hdg q M (by omega)
  have k5:=hii q (pad (row M)) an.2 an.1
  have hdc:dgC q (pad (row M)) (-1) 12=0:=by
   unfold dgC;rw [if_neg (by rw [M4]; omega),jn (by omega),if_pos (by omega)]
  rw [Qj hdc (by omega)] at k5
  have k6:=hsub q M 1 (by omega) (by rw [Pol.len_one]; omega)
  rw [Au] at k6
  have h1:pad (row (1:Fp q))=(pad []).set 0 1:=by
   have:=a6k (p:=q) 1;rw [pt,Pol.C_one] at this;exact this.symm
  rw [h1] at k6;rw [Im hM h2 h6] at g1 g2
  have fin:∀(ge:List Int) (four:Int),ge.length=64→(four≠0∨four=0∧ask (den T A) F7 [(D.int .i64 q),(D.arr 64 .leaf (af .u8 ge)),(D.arr 64 .leaf (af .u8 (pad (row M))))]=some (.tup [(D.arr 64 .leaf (af .u8 (pad (row (li M))))),(D.int .i64 0)]))→(irB M=true→four=0) →
   ask (den T A) F8 [(D.int .i64 q),(D.arr 64 .leaf (af .u8 (pad (row M))))]=some (.tup [(D.arr 64 .leaf (af .u8 ge)),(D.int .i64 four)])→ask (den T A) F37 [(D.int .i64 q),(D.arr 64 .leaf (af .u8 (pad (row M))))]=some (.tup [(D.arr 64 .leaf (af .u8 ge)),(D.int .i64 four)])→ask (den T A) F1x [.sl .leaf (af .u8 code)]=some (D.bool true):=fun ge four hgl h4 hy g1 g2=>by
   have s1:=agr (O:=den T A) (pa 8 Z1x_B) e0 d1 t1 t2 d2 b1 b2 (hq _ (c8 _));have s2:=agm (O:=den T A) (pa 15 Z1x_B) (x:=pad (row X)) (an:=pad (row (p6 M (X%M)))) (two:=0) x1 x2 g1 g2 d3 p1 p2 (hq _ (c8 _)) (hq _ hgl) (hq _ p4.1);have s3:=ajl (O:=den T A) (pa 21 Z1x_B) (ge:=ge) (four:=four) k1 k2 k3 k4
   have s4:=ajf (O:=den T A) (ge:=ge) (four:=four) h4 k5 k6 (hq _ (c8 _)) (by
    cases hi:irB M with
    | false=>exact .inl rfl
    | true=>
     have hI:=Xx hi;exact .inr ⟨rfl,hy hi,by rw [Ym hI.2 hM h6]⟩)
   have e:=s1.trans ((congrArg (fun c=>dn (den T A) 0 c _) a9v).trans (s2.trans ((congrArg (fun c=>dn (den T A) 0 c _) ae2).trans (s3.trans s4))))
   rw [←aer] at e;refine c9 hT rfl ?_;clear s1 s2 s3 s4;simp -implicitDefEqProofs [Z1x,e,List.replicate]
  by_cases hce:M.len≤(li M).len
  ·rw [if_pos hce] at g1 g2
   have hg:=Oy h2 h6 hce;have hnl:=Gi (m:=M) h6 hg.lt (by omega)
   have k7:=han q (pad (row (fu q (M0 M)))) (pad (row M)) (mi _) (c8 _) an.2 an.1;obtain ⟨z1,z2⟩:=uk hM.2 hnl
   have hfe:p6 M (fu q (M0 M))=li M:=by
    have hd:=z1.dv hM.2 (kall _ hnl);have hf:=hg.full;obtain ⟨c,hc⟩:=hd;have hc0:c≠0:=fun h=>m1.mon.2 (by rw [hc,h,Gq.mul_zero])
    have hlm:=Pol.len_mul z1.mon.2 hc0;rw [←hc] at hlm;have hcl:c.len=1:=by omega
    have hcm:c.ld=1:=by
     have:=m1.mon.1;rw [hc,Pol.ld_mul z1.mon.2 hc0,z1.mon.1,Gq.one_mul] at this;exact this
    have:c=1:=Monic.eq_one ⟨hcm,hc0⟩ hcl;rw [hc,this,Gq.mul_one]
   rw [Ee (by omega) hM h2 h6,Pol.mod_small hnl,hfe] at k7
   exact fin _ 0 (c8 _) (.inr ⟨rfl,k7⟩) (fun _=>rfl) g1 g2
  ·rw [if_neg hce] at g1 g2
   refine fin _ 5 (c8 _) (.inl (by omega)) (fun hi=>?_) g1 g2
   have hI:=Xx hi;obtain ⟨-,w2⟩:=Ho hM h2;rw [Ym hI.2 hM h6,w2] at hce;omega
 ·rw [Q1 h0] at b1 b2
  rw [x3] at x1 x2;rw [g3] at g1 g2;have s1:=agr (O:=den T A) (pa 8 Z1x_B) e0 d1 t1 t2 d2 b1 b2 (hq _ (c8 _));have s2:=agm (O:=den T A) (pa 15 Z1x_B) (x:=x) (an:=pad []) (two:=lh q n [x]) x1 x2 g1 g2 d3 p1 p2 (hq _ x4.1) (hq _ g4.1) (hq _ p4.1);have s3:=aa8 (O:=den T A) (x:=x) (n:=n) (ex:=ex) (ge:=ge) (q:=q) (three:=three) (four:=four) h0;have e:=s1.trans ((congrArg (fun c=>dn (den T A) 0 c _) a9v).trans (s2.trans s3))
  rw [←aer] at e;refine c9 hT rfl ?_;clear s1 s2 s3;simp -implicitDefEqProofs [Z1x,e,List.replicate]
end Pe
namespace Pe
open Go Gq
abbrev tyB:Ty:=.sl (.int .u8)
theorem ae9 {d:D} (h:tyB.has d):∃l:List Int,d=.sl .leaf (af .u8 l)∧gw l∧l.length≤9223372036854775807:=by
 cases d <;> simp only [Ty.has] at h
 obtain ⟨rfl,h1,h2⟩:=h;obtain ⟨l,rfl,hb⟩:=Mn _ h2;exact ⟨l,rfl,hb,by simpa [af] using h1⟩
end Pe
