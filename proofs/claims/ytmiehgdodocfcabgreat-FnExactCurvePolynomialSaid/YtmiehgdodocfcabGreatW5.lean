/-
  A part of the proof: an evaluator for a small form of the code, its soundness, and contracts of functions over it.
-/
import Derived.Test.YtmiehgdodocfcabGreatW1
import Derived.Test.YtmiehgdodocfcabGreatW2
import Derived.Test.YtmiehgdodocfcabGreatW3
import Derived.Test.YtmiehgdodocfcabGreatW4

namespace Pe
open Gq
def qv (P:Nat→Bool):Nat→Nat
 | 0=>0
 | n+1=>qv P n+if P n=true then 1 else 0
theorem vu {P Q:Nat→Bool}:∀{n:Nat},(∀j,j<n→P j=Q j)→qv P n=qv Q n
 | 0,_=>rfl
 | n+1,h=>by
  unfold qv;rw [vu fun j hj=>h j (by omega),h n (by omega)]
theorem H3 (P:Nat→Bool):∀n,qv P n≤n
 | 0=>ap _
 | n+1=>by
  have:=H3 P n;unfold qv
  split <;> omega
theorem Im {P:Nat→Bool}:∀{n:Nat},(∀j,j<n→P j=false)→qv P n=0
 | 0,_=>rfl
 | n+1,h=>by
  unfold qv;rw [Im fun j hj=>h j (by omega),h n (by omega)]
  rfl
theorem G2 (i:Nat):∀n,qv (fun j=>decide (j=i)) n=if i<n then 1 else 0
 | 0=>rfl
 | n+1=>by
  unfold qv;rw [G2 i n]
  by_cases h:n=i
  ·subst h; simp
  ·simp only [decide_eq_true_eq,if_neg h]
   by_cases h2:i<n
   ·rw [if_pos h2,if_pos (by omega)]
   ·rw [if_neg h2,if_neg (by omega)]
theorem Tw {P Q:Nat→Bool}:∀{n:Nat},(∀j,j<n→¬ (P j=true∧Q j=true))→qv (fun j=>P j||Q j) n=qv P n+qv Q n
 | 0,_=>rfl
 | n+1,h=>by
  unfold qv;rw [Tw fun j hj=>h j (by omega)]
  have h1:=h n (by omega)
  cases hp:P n <;> cases hq:Q n <;> simp_all <;> omega
theorem Xg {P:Nat→Bool} {n i:Nat} (hi:i<n) (h:∀j,j<n→(P j=true↔j=i)):qv P n=1:=by
 rw [vu (Q:=fun j=>decide (j=i)) fun j hj=>by rw [lq,h j hj,decide_eq_true_eq],G2,if_pos hi]
theorem Wr {P:Nat→Bool} {n i k:Nat} (hi:i<n) (hk:k<n) (hik:i≠k) (h:∀j,j<n→(P j=true↔j=i∨j=k)):qv P n=2:=by
 rw [vu (Q:=fun j=>decide (j=i)||decide (j=k)) fun j hj=>by rw [lq,h j hj]; simp,Tw (fun j _ h=>by simp at h; omega),G2,G2,if_pos hi,if_pos hk]
section
variable {p:Int} [IsP p]
theorem Ym (hp2:p≠2) {m:Fp p} (hm:2≤m.len):(1:Quo m)+1≠0:=fun h=>by
 have h0:m≠0:=fun h=>by rw [h,Pol.len_zero] at hm; omega
 have h1:Quo.mk m (1+1:Fp p)=Quo.mk m 0:=h;have hl:(1+1:Fp p).len≤1:=Pol.len_le (Pol.lt_add Pol.lt_one Pol.lt_one);have h2:=(Pol.mod_eq_iff h0).2 h1;rw [Pol.mod_small (by omega),Pol.mod_small (by rw [Pol.len_zero]; omega)] at h2
 have h3:(1+1:Zp p)=0:=by
  have:=congrArg (fun a:Fp p=>a.c 0) h2
  exact this
 have h4:zp p 2=zp p 0:=h3;have h5:=(wo (p:=p)).1 h4;rcases IsP.h (p:=p) with h | h | h | h <;> subst h <;> revert h5 <;> first | omega | decide
theorem a3r (hp2:p≠2) {m:Fp p} (hi:Irr m) {d:Nat} (hq:m.len=d+1) (hd:p^d<1000000000000) {H:Nat} (hH:p.toNat^d-1=2*H) (h1:1≤H) {x:Quo m} (_hx:x≠0) (hxH:pw x H=1):∃y:Quo m,y*y=x:=by
 apply bv;intro hno;obtain ⟨g,hg0,hg⟩:=Uf hi hq hd (n:=p.toNat^d-1) (by omega) (Nat.dvd_refl _)
 rw [hH] at hg;have hone:(1:Quo m)≠0:=(Jc hi).one_ne
 let f:Nat→Quo m:=fun i=>(if i=H then 1 else 0)+(-1)*(if i=0 then 1 else 0)
 have hf:f H≠0:=by
  show (if H=H then (1:Quo m) else 0)+(-1)*(if H=0 then 1 else 0)≠0
  rw [if_pos rfl,if_neg (by omega),Gq.mul_zero,Gq.add_zero]
  exact hone
 have hsq:∀i,pw g (2*i)=pw g i*pw g i:=fun i=>by rw [←pq]; congr 1; omega
 have hz:∀i,pw g i≠0:=fun i hi0=>by
  have e:pw g (2*H*(i+1))=1:=(hg _).2 ⟨i+1,rfl⟩
  have e2:2*H*(i+1)=i+(2*H*(i+1)-i):=by
   have:i+1≤2*H*(i+1):=Nat.le_mul_of_pos_left _ (by omega)
   omega
  rw [e2,pq,hi0,Gq.zero_mul] at e;exact hone e.symm
 have hinj:∀i j,i<j→j<H→pw g (2*i)≠pw g (2*j):=fun i j hij hj he=>by
  rw [show 2*j=2*i+2*(j-i) by omega,pq] at he
  have h0:pw g (2*i)*(pw g (2*(j-i))-1)=0:=by
   have e:pw g (2*i)*(pw g (2*(j-i))-1)=pw g (2*i)*pw g (2*(j-i))-pw g (2*i):=ba [pw g (2*i),pw g (2*(j-i))] rfl;rw [e,←he];exact ba [pw g (2*i)] rfl
  rcases hi.quo_zero h0 with h0 | h0
  ·exact hz _ h0
  ·have:=(hg _).1 (jl h0)
   have:=lj (by omega) this
   omega
 have:=xr (K:=Quo m) (fun x y=>hi.quo_zero) H f (x::(List.range H).map fun i=>pw g (2*i)) hf (by
  rw [fq];refine ⟨fun hm=>?_,?_⟩
  ·obtain ⟨i,_,hi2⟩:=cd.1 hm
   exact hno ⟨pw g i,by rw [←hsq]; exact hi2⟩
  ·unfold List.Nodup
   rw [mz]
   exact List.Pairwise.imp_of_mem (fun {a b} _ hb hab=>hinj a b hab (gh.1 hb)) (List.pairwise_lt_range (n:=H))) fun y hy=>by
  have hyH:pw y H=1:=by
   rcases cr.1 hy with rfl | hy
   ·exact hxH
   ·obtain ⟨i,_,rfl⟩:=cd.1 hy
    rw [n5];exact (hg _).2 ⟨i,by rw [ll,ll,dm i H]⟩
  have e:em (fun i=>f i*pw y i) (H+1)=em (fun i=>(if i=H then 1 else 0)*pw y i) (H+1)+(-1)*em (fun i=>(if i=0 then 1 else 0)*pw y i) (H+1):=by
   rw [←tt,←tk]
   congr 1
   funext i
   show ((if i=H then (1:Quo m) else 0)+(-1)*(if i=0 then 1 else 0))*pw y i=_
   exact ba [(if i=H then (1:Quo m) else 0),(if i=0 then (1:Quo m) else 0),pw y i] rfl
  rw [e,qe,qe,if_pos (by omega),if_pos (by omega),hyH,show pw y 0=1 from rfl]
  exact ba ([]:List (Quo m)) rfl
 rw [bf,eo,jr] at this;omega
theorem X5 (hp2:p≠2) {d:Nat} (h1:1≤d):∃H:Nat,p.toNat^d-1=2*H∧1≤H:=by
 have hodd:∀d,p.toNat^d%2=1:=fun d=>by
  induction d with
  | zero=>rfl
  | succ d ih=>
   rw [df,Nat.mul_mod,ih];rcases IsP.h (p:=p) with h | h | h | h <;> subst h <;> first | exact absurd rfl hp2 | rfl
 have h3:3≤p.toNat:=by rcases IsP.h (p:=p) with h | h | h | h <;> subst h <;> first | exact absurd rfl hp2 | decide
 have h4:p.toNat^1≤p.toNat^d:=Nat.pow_le_pow_right (by omega) h1
 rw [Nat.pow_one] at h4;have:=hodd d;exact ⟨(p.toNat^d-1)/2,by omega,by omega⟩
open Classical in
theorem Se (hp2:p≠2) {m v:Fp p} (hi:Irr m) {d:Nat} (hq:m.len=d+1) (hd:p^d<1000000000000) (hv:v.len<m.len) :
 qv (fun j=>decide (bx p j*bx p j%m=v)) (p.toNat^d)=if v=0 then 1 else if pw v ((p.toNat^d-1)/2)%m=1 then 2 else 0:=by
 have h2:=hi.len;have hm0:m≠0:=fun h=>by rw [h,Pol.len_zero] at hq; omega
 have hN:=kn (p:=p) d;have hNp:=nu (p:=p) d;obtain ⟨H,hH,hH1⟩:=X5 (p:=p) hp2 (d:=d) (by omega)
 have hokN:∀j:Nat,j<p.toNat^d→wh (j:Int):=fun j hj=>⟨by omega,by omega⟩
 have hvm:v=v%m:=(Pol.mod_small hv).symm
 have key:∀j:Nat,bx p j*bx p j%m=v↔Quo.mk m (bx p j)*Quo.mk m (bx p j)=Quo.mk m v:=fun j=>by
  rw [hvm,Pol.mod_eq_iff hm0,Pol.mk_mod];exact wb
 have ex:∀x:Quo m,∃j:Nat,j<p.toNat^d∧Quo.mk m (bx p j)=x:=fun x=>by
  by_cases hx:x=0
  ·exact ⟨0,hNp,by rw [hx]; show Quo.mk m (bx p 0)=0; rw [n7]; rfl⟩
  ·obtain ⟨n,hn,rfl⟩:=cd.1 ((t4 hq hd x).2 hx)
   have:=gh.1 hn;exact ⟨n+1,by omega,by rw [Int.natCast_add]; rfl⟩
 have inj:∀i j:Nat,i<p.toNat^d→j<p.toNat^d→Quo.mk m (bx p i)=Quo.mk m (bx p j)→i=j:=fun i j h3 h4 h5=>by
  have l1:(bx p (i:Int)).len≤d:=Pol.len_le (sx (hokN i h3) (by omega))
  have l2:(bx p (j:Int)).len≤d:=Pol.len_le (sx (hokN j h4) (by omega))
  have h6:=(Pol.mod_eq_iff hm0).2 h5;rw [Pol.mod_small (by omega),Pol.mod_small (by omega)] at h6
  have:=Dg (hokN i h3) (hokN j h4) h6;omega
 have hv0:Quo.mk m v=0↔v=0:=by
  have:(0:Quo m)=Quo.mk m 0:=rfl;rw [this,←Pol.mod_eq_iff hm0,Pol.mod_small hv,Pol.mod_small (by rw [Pol.len_zero]; omega)]
 by_cases h0:v=0
 ·rw [if_pos h0]
  refine Xg hNp fun j hj=>?_
  rw [decide_eq_true_eq,key,hv0.2 h0];refine ⟨fun h=>?_,fun h=>?_⟩
  ·have hz:Quo.mk m (bx p j)=0:=(hi.quo_zero h).elim id id
   refine inj j 0 hj hNp (hz.trans ?_);show 0=Quo.mk m (bx p 0); rw [n7]; rfl
  ·subst h
   show Quo.mk m (bx p 0)*Quo.mk m (bx p 0)=0;rw [n7];exact Gq.mul_zero _
 ·rw [if_neg h0,Jq (by omega)]
  have hx:Quo.mk m v≠0:=fun h=>h0 (hv0.1 h)
  have hHd:(p.toNat^d-1)/2=H:=by omega
  rw [hHd]
  by_cases hE:pw (Quo.mk m v) H=1
  ·rw [if_pos hE]
   obtain ⟨y,hy⟩:=a3r hp2 hi hq hd hH hH1 hx hE;obtain ⟨i,hi1,hi2⟩:=ex y;obtain ⟨k,hk1,hk2⟩:=ex (-y);have hy0:y≠0:=fun h=>hx (by rw [←hy,h]; exact Gq.mul_zero _)
   have hik:i≠k:=fun h=>by
    rw [h,hk2] at hi2
    have e:(1+1)*y=0:=by
     have e2:(1+1)*y=y - -y:=ba [y] rfl;rw [e2,hi2];exact ba [y] rfl
    rcases hi.quo_zero e with e | e
    ·exact Ym hp2 (by omega) e
    ·exact hy0 e
   refine Wr hi1 hk1 hik fun j hj=>?_
   rw [decide_eq_true_eq,key,←hy];refine ⟨fun h=>?_,fun h=>?_⟩
   ·have e:(Quo.mk m (bx p j)-y)*(Quo.mk m (bx p j) - -y)=0:=by
     have e2:(Quo.mk m (bx p j)-y)*(Quo.mk m (bx p j) - -y)=Quo.mk m (bx p j)*Quo.mk m (bx p j)-y*y:=ba [Quo.mk m (bx p j),y] rfl;rw [e2,h];exact ba [y] rfl
    rcases hi.quo_zero e with e | e
    ·exact .inl (inj j i hj hi1 ((jl e).trans hi2.symm))
    ·exact .inr (inj j k hj hk1 ((jl e).trans hk2.symm))
   ·rcases h with rfl | rfl
    ·rw [hi2]
    ·rw [hk2]; exact ba [y] rfl
  ·rw [if_neg hE]
   refine Im fun j hj=>?_
   rw [decide_eq_false_iff_not,key];intro h;apply hE;have hy0:Quo.mk m (bx p j)≠0:=fun h3=>hx (by rw [←h,h3]; exact Gq.mul_zero _)
   have hf:=Na hi hq hd hy0;rw [hH,←n5] at hf;rw [←h]
   have e:pw (Quo.mk m (bx p j)) 2=Quo.mk m (bx p j)*Quo.mk m (bx p j):=by
    rw [show 2=1+1 from rfl,pq,x8]
   rw [←e]; exact hf
end
end Pe

namespace Pe
open Go Gq
variable {T:Nat→Option Fn} {A:ac}
def u8s (l:List Int):List UInt8:=l.map fun n=>UInt8.ofNat n.toNat
def txT (l:List Int) (n:Nat):List Int:=((l.take n).reverse).map (48 + ·)
def txL (l:List Int):List Int:=if l=[] then [48] else txT l l.length
def txt (l:List Int):ByteArray:=⟨(u8s (txL l)).toArray⟩
theorem Vr {l:List Int} {n:Nat} (h:n<l.length):txT l (n+1)=(48+l[n])::txT l n:=by
 unfold txT;rw [List.take_add_one,ah h,Option.toList_some,List.reverse_append];rfl
@[simp] theorem If:∀l:List Int,q9 (ae .u8 l)=some (u8s l)
 | []=>rfl
 | x::l=>by
  show (q9 (ae .u8 l)).map _=_;rw [If l]; rfl
theorem V2 {O:ac} {l:List Int} (hb:∀x∈l,0≤x∧x≤200) (hl:l.length<1000):∀(n:Nat) (cur:List Int) (cp:Option Nat),n≤l.length→cur.length+n≤1000→∃cp',
 dn O 0 (.loop Z1q_L0) ⟨[(0,(.d (.sl .leaf (ae .i64 l)))),(3,.sl 0 [] 0 cur.length cp),(4,(.d (.int .i64 ((n:Int)-1))))],[.sl false .leaf (ae .u8 cur),.hole,.hole]⟩ =
  some (.exit 0,⟨[(0,(.d (.sl .leaf (ae .i64 l)))),(3,.sl 0 [] 0 (cur++txT l n).length cp'),(4,(.d (.int .i64 ((-1))))),(12,(.d (.bool false)))],[.sl false .leaf (ae .u8 (cur++txT l n)),.hole,.hole]⟩)
 | 0,cur,cp,hn,hc=>by
  refine ⟨cp,?_⟩;have e0:txT l 0=[]:=rfl;rw [e0,jk];exact bi (by simp -implicitDefEqProofs [Z1q_L0,af])
 | n+1,cur,cp,hn,hc=>by
  have hlt:n<l.length:=by omega
  obtain ⟨cp',e⟩:=V2 (O:=O) hb hl n (cur++[48+l[n]]) none (by omega) (by simp; omega)
  refine ⟨cp',?_⟩;have hx:=hb l[n] (cx hlt);rw [Vr hlt,show cur++(48+l[n])::txT l n=(cur++[48+l[n]])++txT l n by simp]
  have t0:(((n+1:Nat):Int)-1)=(n:Int):=by omega
  rw [t0];have w1:IntKind.i64.wrap (48+l[n])=48+l[n]:=w64 (by omega)
  have w2:IntKind.u8.wrap (48+l[n])=48+l[n]:=w8 (by omega)
  have w3:IntKind.i64.wrap ((n:Int)-1)=(n:Int)-1:=w64 (by omega)
  have h8':cur.length+1≤1099511627776:=by omega
  have o1:ae .u8 cur++[D.int .u8 (48+l[n])]=ae .u8 (cur++[48+l[n]]):=by rw [←u9]; rfl
  refine bh ?_ e;simp -implicitDefEqProofs [Z1q_L0,af,hlt,w1,w2,w3,h8',o1,List.replicate]
def Bz (O:ac):Prop:=∀l:List Int,(∀x∈l,0≤x∧x≤200)→l.length<1000→ask O F1q [(D.sl .leaf (ae .i64 l))]=some (.str (txt l))
theorem a0h (hT:T F1q=some Z1q):Bz (den T A):=by
 intro l hb hl;refine bj hT rfl ?_
 by_cases h0:l=[]
 ·subst h0
  have e:txt []=ByteArray.mk #[48]:=rfl;rw [e];simp -implicitDefEqProofs [Z1q,Z1q_B,af]
 ·obtain ⟨cp,e⟩:=V2 (O:=den T A) hb hl l.length [] (some 0) (ap _) (by simp; omega)
  rw [ec,ew,f0] at e
  have hp':¬ l.length=0:=by
   have:=i6.2 h0;omega
  have w1:IntKind.i64.wrap ((l.length:Int)-1)=(l.length:Int)-1:=w64 (by omega)
  have ht:txt l=⟨(u8s (txT l l.length)).toArray⟩:=by unfold txt txL; rw [if_neg h0]
  rw [ht];generalize txT l l.length=R at *;simp -implicitDefEqProofs [Z1q,Z1q_B,af,e,hp',w1,List.replicate]
theorem a0d {a b:Int} (h:UInt8.ofNat (48+a).toNat=UInt8.ofNat (48+b).toNat) (ha:0≤a∧a≤200) (hb:0≤b∧b≤200):a=b:=by
 have:=congrArg UInt8.toNat h;simp only [UInt8.toNat_ofNat'] at this;omega
theorem xm:∀{l m:List Int},(∀x∈l,0≤x∧x≤200)→(∀x∈m,0≤x∧x≤200)→u8s (l.map (48 + ·))=u8s (m.map (48 + ·))→l=m
 | [],[],_,_,_=>rfl
 | [],_::_,_,_,h=>by simp [u8s] at h
 | _::_,[],_,_,h=>by simp [u8s] at h
 | a::l,b::m,hl,hm,h=>by
  simp only [u8s,li,List.cons.injEq] at h;rw [a0d h.1 (hl a (by simp)) (hm b (by simp)),xm (l:=l) (m:=m) (fun x hx=>hl x (by simp [hx])) (fun x hx=>hm x (by simp [hx])) h.2]
theorem By {p:Int} [IsP p] (a:Fp p):∀x∈row a,0≤x∧x≤200:=fun x hx=>by
 have:=fu a x hx;have:=IsP.le (p:=p);omega
theorem Xa {p:Int} [IsP p] {a b:Fp p} (h:txt (row a)=txt (row b)):a=b:=by
 have key:∀{c:Fp p},row c≠[]→u8s (txT (row c) (row c).length)≠u8s [48]:=fun {c} hc e=>by
  have hl:=congrArg List.length e;simp only [u8s,txT,eo,ox,b6,Nat.min_self,bf,f0] at hl
  have e2:row c=[0]:=by
   have e3:u8s (((row c).reverse).map (48 + ·))=u8s ([0].map (48 + ·)):=by
    unfold txT at e;rw [im] at e;exact e
   have:=xm (fun x hx=>By c x (List.mem_reverse.1 hx)) (by simp) e3
   rw [←List.reverse_reverse (row c),this]; rfl
  have hne:c≠0:=fun h=>hc (B4.2 h)
  have:=Iy hne;rw [e2] at this;exact this rfl
 have e:u8s (txL (row a))=u8s (txL (row b)):=by
  have:=congrArg (fun x:ByteArray=>x.data.toList) h
  simpa [txt] using this
 unfold txL at e
 by_cases ha:row a=[] <;> by_cases hb:row b=[]
 ·rw [B4.1 ha,B4.1 hb]
 ·rw [if_pos ha,if_neg hb] at e
  exact absurd e.symm (key hb)
 ·rw [if_neg ha,if_pos hb] at e
  exact absurd e (key ha)
 ·rw [if_neg ha,if_neg hb] at e
  unfold txT at e;rw [im,im] at e;have:=xm (fun x hx=>By a x (List.mem_reverse.1 hx)) (fun x hx=>By b x (List.mem_reverse.1 hx)) e
  have h2:row a=row b:=by rw [←List.reverse_reverse (row a),this,List.reverse_reverse]
  rw [←nj a,←nj b,h2]
theorem jx (a b:ByteArray):(a == b)=decide (a=b):=by
 rw [lq,decide_eq_true_eq];exact Go.MapKept.bytes_beq a b
theorem Dy (k j:ByteArray) (v:Int):∀es,jp k (iw j v es)=if k=j then some v else jp k es
 | []=>by
  show (if (k == j)=true then some v else none)=_
  rw [jx];simp [jp]
 | (i,u)::es=>by
  have ih:=Dy k j v es;unfold iw
  by_cases h:j=i
  ·rw [jx,decide_eq_true h,if_pos rfl]
   show (if (k == j)=true then some v else jp k es)=_
   rw [jx]
   by_cases hk:k=j
   ·simp [hk]
   ·have:¬ k=i:=fun e=>hk (e.trans h.symm)
    simp [hk,jp,jx,this]
  ·rw [jx,decide_eq_false h]
   show (if (k == i)=true then some u else jp k (iw j v es))=_
   rw [jx,ih]
   by_cases hk:k=i
   ·have:¬ i=j:=fun e=>h e.symm
    simp [hk,this,jp,jx]
   ·simp [hk,jp,jx]
def esN (f:Nat→ByteArray):Nat→List (ByteArray×Int)
 | 0=>[]
 | n+1=>iw (f n) ((jp (f n) (esN f n)).getD 0+1) (esN f n)
theorem G5 (f:Nat→ByteArray) (k:ByteArray):∀n,(jp k (esN f n)).getD 0=(qv (fun j=>decide (k=f j)) n:Int)
 | 0=>rfl
 | n+1=>by
  have ih:=G5 f k n;have ih2:=G5 f (f n) n;unfold esN qv;rw [Dy]
  by_cases h:k=f n
  ·rw [if_pos h,decide_eq_true h,if_pos rfl,←h] at *
   simp [ih]
  ·rw [if_neg h,decide_eq_false h,ih]
   simp
end Pe

namespace Pe
open Go Gq
variable {T:Nat→Option Fn} {A:ac}
def kh (f:Nat→Nat):Nat→Nat
 | 0=>0
 | n+1=>kh f n+f n
theorem yh {f:Nat→Nat} {b:Nat} (h:∀k,f k≤b):∀n,kh f n≤n*b
 | 0=>by simp [kh]
 | n+1=>by
  have:=yh h n;have:=h n;rw [ct];show kh f n+f n≤_;omega
theorem wz {f g:Nat→Nat}:∀{n:Nat},(∀k,k<n→f k=g k)→kh f n=kh g n
 | 0,_=>rfl
 | n+1,h=>by
  unfold kh;rw [wz fun k hk=>h k (by omega),h n (by omega)]
theorem Sm {p:Int} (d:Fp p) (n:Nat):Pol.C (zp p 1)*dj p [rep (d.c n)]=Pol.C (d.c n):=Pol.ext fun i=>by
 rw [Pol.c_Cmul,fh,Gx,Gq.one_mul];cases i with
 | zero=>
  show zp p (rep (d.c n))=_;rw [g9]; rfl
 | succ i=>
  show zp p 0=_;rfl
section
variable {p:Int} [IsP p]
noncomputable def hor (m d x:Fp p):Nat→Fp p→Fp p
 | 0,v=>v
 | n+1,v=>hor m d x n (v*x%m+Pol.C (d.c n))
noncomputable def ft (m d:Fp p) (k:Nat):Fp p:=hor m d (bx p k) d.len 0
noncomputable def sqT (m:Fp p) (k:Nat):ByteArray:=txt (row (bx p k*bx p k%m))
noncomputable def cc (m d:Fp p) (N k:Nat):Nat:=qv (fun j=>decide (txt (row (ft m d k))=sqT m j)) N
noncomputable def u7 (m d:Fp p) (N:Nat):Nat:=1+kh (cc m d N) N
theorem Cp {m v x:Fp p} (c:Zp p) (hm:m≠0) (hm2:2≤m.len):(v*x%m+Pol.C c).len<m.len:=by
 have h1:=Pol.len_mod (v*x) hm;have:(v*x%m+Pol.C c).len≤m.len-1:=Pol.len_le (Pol.lt_add (fun i hi=>Pol.lt_len _ i (by omega)) (Pol.lt_C c |>.mono (by omega)))
 omega
theorem xt {m d x:Fp p} (hm:m≠0) (hm2:2≤m.len):∀(n:Nat) (v:Fp p),v.len<m.len→(hor m d x n v).len<m.len
 | 0,v,h=>h
 | n+1,v,_=>xt hm hm2 n _ (Cp _ hm hm2)
theorem Yb (m d:Fp p) (N k:Nat) [∀j,Decidable (bx p (j:Nat)*bx p j%m=ft m d k)]:cc m d N k=qv (fun j=>decide (bx p j*bx p j%m=ft m d k)) N:=by
 unfold cc;refine vu fun j _=>decide_eq_decide.2 ⟨fun h=>(Xa h).symm,fun h=>by unfold sqT; rw [h]⟩
end
theorem Y6 {O:ac} (hpr:pc O) (hco:pk O) (htr:ke O) {p:Int} [IsP p] {m d x:Fp p} (hm:m≠0) (hm2:2≤m.len) (hml:m.len≤64) (hx:x.len≤64) (hd:d.len≤64) {all many kk:Int} {es:List (ByteArray×Int)}:∀(n:Nat) (v:Fp p),n≤d.len→v.len<m.len →
 dn O 0 (.loop Zr_L1) ⟨[(2,.ptr 0 []),(5,.ptr 1 []),(7,.mp 2),(10,(.d (.int .i64 all))),(12,(.d (.sl .leaf (ae .i64 (row x))))),(13,(.d (.sl .leaf (ae .i64 (row v))))),(14,(.d (.int .i64 ((n:Int)-1)))),(42,(.d (.int .i64 many))),(43,(.d (.int .i64 kk)))],[.box false (ki d),.box false (ki m),.mp false es,.hole]⟩ =
  some (.exit 4,⟨[(2,.ptr 0 []),(5,.ptr 1 []),(7,.mp 2),(10,(.d (.int .i64 all))),(12,(.d (.sl .leaf (ae .i64 (row x))))),(13,(.d (.sl .leaf (ae .i64 (row (hor m d x n v)))))),(14,(.d (.int .i64 ((-1))))),(42,(.d (.int .i64 many))),(43,(.d (.int .i64 kk))),(55,(.d (.bool false)))],[.box false (ki d),.box false (ki m),.mp false es,.hole]⟩)
 | 0,v,hn,hv=>bi (by simp -implicitDefEqProofs [Zr_L1,af,hor])
 | n+1,v,hn,hv=>by
  have hlt:n<(row d).length:=by rw [b8]; omega
  have t0:(((n+1:Nat):Int)-1)=(n:Int):=by omega
  rw [t0];have w3:IntKind.i64.wrap ((n:Int)-1)=(n:Int)-1:=w64 (by omega)
  have e1:=hpr p m v x hm hml (by omega) (by omega)
  have hc:(row d)[n]=rep (d.c n):=by rw [←e9,da hlt]
  have e2:=htr [rep (d.c n)] (by simp)
  rw [k8 (p:=p) (fun y hy=>by
   simp only [bb] at hy;subst hy;exact gw _)] at e2
  have hl1:=Pol.len_mod (v*x) hm;have hl2:(dj p [rep (d.c n)]).len≤1:=Pol.len_le (yn _);have e3:=hco p 1 (v*x%m) (dj p [rep (d.c n)]) (by omega) (by omega) (by omega) (by omega)
  rw [Sm] at e3;have ih:=Y6 (O:=O) hpr hco htr (x:=x) (all:=all) (many:=many) (kk:=kk) (es:=es) hm hm2 hml hx hd n (v*x%m+Pol.C (d.c n)) (by omega) (Cp _ hm hm2)
  refine bh ?_ ih;have o1:[D.int .i64 (rep (d.c n))]=ae .i64 [rep (d.c n)]:=rfl;have hf:∀a:Fp p,ki a=.st [.leaf,.leaf] [.int .i64 p,(D.sl .leaf (ae .i64 (row a)))]:=fun _=>rfl
  rw [hf] at e1;rw [hf,hf];generalize row (v*x%m+Pol.C (d.c n))=R1 at *;generalize row (dj p [rep (d.c n)])=R2 at *;generalize row (v*x%m)=R3 at *;generalize row v=R4 at *;generalize row x=R5 at *;generalize row m=R6 at *;generalize row d=R7 at *;simp -implicitDefEqProofs [Zr_L1,af,hlt,w3,hc,o1,e1,e2,e3,List.replicate]
theorem a32 {O:ac} (hnu:ix O) (hpr:pc O) (htx:Bz O) {p:Int} [IsP p] {m d:Fp p} (hm:m≠0) (hml:m.len≤64) {many:Nat} (hmany:many≤1000):∀(r k:Nat),k+r=many →
 dn O 0 (.loop Zr_L0) ⟨[(2,.ptr 0 []),(5,.ptr 1 []),(6,(.d (.int .i64 many))),(7,.mp 2),(25,(.d (.int .i64 many))),(26,(.d (.int .i64 k)))],[.box false (ki d),.box false (ki m),.mp false (esN (sqT m) k),.hole]⟩ =
  some (.exit 0,⟨[(2,.ptr 0 []),(5,.ptr 1 []),(6,(.d (.int .i64 many))),(7,.mp 2),(25,(.d (.int .i64 many))),(26,(.d (.int .i64 many))),(27,(.d (.bool false)))],[.box false (ki d),.box false (ki m),.mp false (esN (sqT m) many),.hole]⟩)
 | 0,k,hk=>by
  obtain rfl:k=many:=by omega
  exact bi (by simp -implicitDefEqProofs [Zr_L0,af])
 | r+1,k,hk=>by
  have hlt:k<many:=by omega
  have e1:=hnu p k (by omega) (by omega)
  have hl:=um (p:=p) (k:Int);have e2:=hpr p m (bx p k) (bx p k) hm hml (by omega) (by omega)
  have hl2:=Pol.len_mod (bx p k*bx p k) hm;have e3:=htx (row (bx p k*bx p k%m)) (By _) (by rw [b8]; omega)
  have hat:=G5 (sqT m) (sqT m k) k;have hcl:=H3 (fun j=>decide (sqT m k=sqT m j)) k
  have hsq:txt (row (bx p k*bx p k%m))=sqT m k:=rfl;rw [hsq] at e3;have w1:IntKind.i64.wrap ((jp (sqT m k) (esN (sqT m) k)).getD 0+1)=(jp (sqT m k) (esN (sqT m) k)).getD 0+1:=w64 (by omega)
  have w2:IntKind.i64.wrap ((k:Int)+1)=((k+1:Nat):Int):=(w64 (x:=(k:Int)+1) (by omega)).trans (by omega)
  have o1:iw (sqT m k) ((jp (sqT m k) (esN (sqT m) k)).getD 0+1) (esN (sqT m) k)=esN (sqT m) (k+1):=rfl;have ih:=a32 (O:=O) hnu hpr htx (d:=d) hm hml hmany r (k+1) (by omega)
  refine bh ?_ ih;have hf:∀a:Fp p,ki a=.st [.leaf,.leaf] [.int .i64 p,(D.sl .leaf (ae .i64 (row a)))]:=fun _=>rfl
  rw [hf] at e2;rw [hf,hf];generalize esN (sqT m) (k+1)=E1 at *;generalize esN (sqT m) k=E0 at *;generalize sqT m k=S at *;generalize row (bx p k*bx p k%m)=R1 at *;generalize row (bx p k)=R2 at *;generalize row m=R6 at *;generalize row d=R7 at *;simp -implicitDefEqProofs [Zr_L0,af,hlt,e1,e2,e3,w1,w2,o1]
theorem Y1 {O:ac} (hnu:ix O) (hpr:pc O) (hco:pk O) (htr:ke O) (htx:Bz O) {p:Int} [IsP p] {m d:Fp p} (hm:m≠0) (hm2:2≤m.len) (hml:m.len≤64) (hd:d.len≤64) {many:Nat} (hmany:many≤1000):∀(r k:Nat),k+r=many →
 dn O 0 (.loop Zr_L2) ⟨[(2,.ptr 0 []),(5,.ptr 1 []),(7,.mp 2),(10,(.d (.int .i64 (((1+kh (cc m d many) k:Nat):Int))))),(42,(.d (.int .i64 many))),(43,(.d (.int .i64 k)))],[.box false (ki d),.box false (ki m),.mp false (esN (sqT m) many),.hole]⟩ =
  some (.exit 2,⟨[(2,.ptr 0 []),(5,.ptr 1 []),(7,.mp 2),(10,(.d (.int .i64 (((1+kh (cc m d many) many:Nat):Int))))),(42,(.d (.int .i64 many))),(43,(.d (.int .i64 many))),(44,(.d (.bool false)))],[.box false (ki d),.box false (ki m),.mp false (esN (sqT m) many),.hole]⟩)
 | 0,k,hk=>by
  obtain rfl:k=many:=by omega
  exact bi (by simp -implicitDefEqProofs [Zr_L2,af])
 | r+1,k,hk=>by
  have hlt:k<many:=by omega
  have e1:=hnu p k (by omega) (by omega)
  have hl:=um (p:=p) (k:Int);have e2:=Y6 (O:=O) hpr hco htr (x:=bx p k) (all:=((1+kh (cc m d many) k:Nat):Int)) (many:=many) (kk:=k) (es:=esN (sqT m) many) hm hm2 hml hl hd d.len 0 (ap _) (by rw [Pol.len_zero]; omega)
  rw [cw,ec] at e2;have hv:hor m d (bx p k) d.len 0=ft m d k:=rfl;rw [hv] at e2;have hl2:(ft m d k).len<m.len:=xt hm hm2 _ _ (by rw [Pol.len_zero]; omega)
  have e3:=htx (row (ft m d k)) (By _) (by rw [b8]; omega)
  have hat:=G5 (sqT m) (txt (row (ft m d k))) many;have hcc:qv (fun j=>decide (txt (row (ft m d k))=sqT m j)) many=cc m d many k:=rfl
  rw [hcc] at hat;have hb1:∀k,cc m d many k≤many:=fun k=>H3 _ _
  have hb2:=yh hb1 k;have hb3:k*many≤1000*1000:=Nat.mul_le_mul (by omega) hmany
  have hb4:=hb1 k
  have w1:IntKind.i64.wrap ((((1+kh (cc m d many) k:Nat):Int))+(cc m d many k:Int))=((1+kh (cc m d many) (k+1):Nat):Int):=(w64 (by omega)).trans (by
   have:kh (cc m d many) (k+1)=kh (cc m d many) k+cc m d many k:=rfl;omega)
  have w2:IntKind.i64.wrap ((k:Int)+1)=((k+1:Nat):Int):=(w64 (x:=(k:Int)+1) (by omega)).trans (by omega)
  have w3:IntKind.i64.wrap (((row d).length:Int)-1)=(d.len:Int)-1:=by rw [b8]; exact w64 (by omega)
  have ih:=Y1 (O:=O) hnu hpr hco htr htx (d:=d) hm hm2 hml hd hmany r (k+1) (by omega)
  refine bh ?_ ih;have hf:∀a:Fp p,ki a=.st [.leaf,.leaf] [.int .i64 p,(D.sl .leaf (ae .i64 (row a)))]:=fun _=>rfl
  rw [hf,hf] at e2;rw [hf,hf];generalize ((1+kh (cc m d many) (k+1):Nat):Int)=A1 at *;generalize ((1+kh (cc m d many) k:Nat):Int)=A0 at *;generalize (cc m d many k:Int)=CK at *;generalize esN (sqT m) many=ES at *;generalize txt (row (ft m d k))=S at *;generalize row (ft m d k)=R1 at *;generalize row (bx p k)=R2 at *;generalize row m=R6 at *;generalize row d=R7 at *;simp -implicitDefEqProofs [Zr_L2,af,hlt,e1,e2,e3,hat,w1,w2,w3]
def Bx (O:ac):Prop:=∀(p:Int) [IsP p] (d m:Fp p),2≤m.len→m.len≤3→d.len≤64→ask O Fr [ki d,(D.sl .leaf (ae .i64 (row m)))]=some (D.int .i64 (((u7 m d (p.toNat^(m.len-1)):Nat):Int)))
theorem rx {p:Int} [IsP p] {n:Nat} (hn:n≤2):p.toNat^n≤49:=by
 rcases IsP.h (p:=p) with h | h | h | h <;> subst h <;> (have:n=0∨n=1∨n=2:=by omega) <;> rcases this with rfl | rfl | rfl <;> decide
theorem Te (hT:T Fr=some Zr) (hdg:lh (den T A)) (hno:Db (den T A)) (hnu:ix (den T A)) (hpr:pc (den T A)) (hco:pk (den T A)) (htr:ke (den T A)) (htx:Bz (den T A)):Bx (den T A):=by
 intro p ip d m hm2 hm3 hd;have hm:m≠0:=fun h=>by rw [h,Pol.len_zero] at hm2; omega
 have hN:=kn (p:=p) (m.len-1);have hNb:=rx (p:=p) (n:=m.len-1) (by omega)
 have e1:=hdg (row m) (by rw [b8]; omega)
 rw [b8,show ((m.len:Int)-1)=((m.len-1:Nat):Int) by omega] at e1
 have e2:=hno p (m.len-1) 1099511627776 (by omega) (by omega)
 rw [y0 (m.len-1) 1 (by omega) (by omega),gt,←hN] at e2
 unfold u7;generalize p.toNat^(m.len-1)=many at *;have e3:=a32 (O:=den T A) hnu hpr htx (d:=d) hm (by omega) (many:=many) (by omega) many 0 (b9 _)
 have e4:=Y1 (O:=den T A) hnu hpr hco htr htx (d:=d) hm hm2 (by omega) hd (many:=many) (by omega) many 0 (b9 _)
 have z1:esN (sqT m) 0=[]:=rfl;have z2:kh (cc m d many) 0=0:=rfl;have z3:((0:Nat):Int)=0:=rfl;have z4:((1+0:Nat):Int)=1:=rfl;rw [z1,z3] at e3;rw [z2,z4,z3] at e4;have hf:∀a:Fp p,ki a=.st [.leaf,.leaf] [.int .i64 p,(D.sl .leaf (ae .i64 (row a)))]:=fun _=>rfl
 refine bj hT rfl ?_;rw [hf] at e3 e4 ⊢;rw [hf] at e3 e4;generalize ((1+kh (cc m d many) many:Nat):Int)=AL at *;generalize esN (sqT m) many=ES at *;generalize ((m.len-1:Nat):Int)=DG at *;generalize row m=R6 at *;generalize row d=R7 at *;simp -implicitDefEqProofs [Zr,Zr_B,af,e1,e2,e3,e4,List.replicate]
end Pe

namespace Pe
open Go Gq
variable {T:Nat→Option Fn} {A:ac}
abbrev shF:Sh:=.st [.arr 64 .leaf,.arr 64 .leaf]
def Mc (O:ac):Prop:=∀(f:Nat) (a b:List D),ask O F25 [.sl shF [],.fn f a b]=some (D.int .i64 ((-1)))
theorem a0a (hT:T F25=some Z25):Mc (den T A):=by
 intro f a b
 have e:dn (den T A) 0 (.loop Z25_L0) ⟨[(0,.d (.sl shF [])),(1,.d (.fn f a b)),(7,(.d (.int .i64 0))),(8,(.d (.int .i64 0)))],[]⟩=some (.exit 0,⟨[(0,.d (.sl shF [])),(1,.d (.fn f a b)),(7,(.d (.int .i64 0))),(8,(.d (.int .i64 0))),(9,(.d (.bool false)))],[]⟩):=
  bi (by simp -implicitDefEqProofs [Z25_L0,af])
 refine bj hT rfl ?_;simp -implicitDefEqProofs [Z25,Z25_B,af,e]
def M0 (O:ac):Prop:=∀(f:Nat) (a b:List D),ask O F22 [.sl shF [],.fn f a b]=some (D.bool false)
theorem a0e (hT:T F22=some Z22) (h:Mc (den T A)):M0 (den T A):=by
 intro f a b;have e:=h f a b;refine bj hT rfl ?_;simp -implicitDefEqProofs [Z22,Z22_B,af,e]
def Ml (O:ac):Prop:=∀(f:Nat) (a b:List D),ask O Ff [.sl shF [],.fn f a b]=some (D.bool true)
theorem a0r (hT:T Ff=some Zf) (h:M0 (den T A)):Ml (den T A):=by
 intro f a b;have e:=h Fg [] [.ip (.fn f a b)];refine bj hT rfl ?_;simp -implicitDefEqProofs [Zf,Zf_B,af,e]
open Classical in
def rf (O:ac):Prop:=∀(p:Int) (l:List Int),jz l→l.length=64→ask O Ft [(D.int .i64 p),(D.arr 64 .leaf (ae .u8 l)),(D.bool true),(D.bool false),.sl shF []]=some (D.int .i64 (if jc p l then 0 else 1))
theorem Ii (hT:T Ft=some Zt) (hd:ro (den T A) F9) (ha:Ml (den T A)):rf (den T A):=by
 classical
 intro p l hb hl;have e1:=hd p l hb hl;have e2:=ha Fu [] [.ip (D.int .i64 p),.ip (D.arr 64 .leaf (ae .u8 l))];refine bj hT rfl ?_
 by_cases h:jc p l
 ·rw [decide_eq_true h] at e1
  rw [if_pos h];simp -implicitDefEqProofs [Zt,Zt_B,af,e1,e2,List.replicate]
 ·rw [decide_eq_false h] at e1
  rw [if_neg h];simp -implicitDefEqProofs [Zt,Zt_B,af,e1,e2,List.replicate]
def v6 (O:ac):Prop:=∀(p:Int) [IsP p] (a:Fp p),a.len≤64→ask O Fk [(D.int .i64 p),(D.arr 64 .leaf (ae .u8 (pad (row a))))]=some (ki a)
theorem Rs (hT:T Fk=some Zk) (hro:B7 (den T A)):v6 (den T A):=by
 intro p ip a ha;have e:=hro p a ha;refine bj hT rfl ?_;simp -implicitDefEqProofs [Zk,Zk_B,af,e,ki,List.replicate]
def B1 (O:ac):Prop:=∀(p:Int) [IsP p] (a:Fp p) (g:Nat),a.len=2*g+2→a.len≤64→ask O Fm [ki a]=some (D.int .i64 g)
theorem W4 (hT:T Fm=some Zm) (hdg:lh (den T A)):B1 (den T A):=by
 intro p ip a g hg ha;have e1:=hdg (row a) (by rw [b8]; omega)
 rw [b8,show (a.len:Int)-1=2*(g:Int)+1 by omega] at e1
 have w1:IntKind.i64.wrap (2*(g:Int)+1-1)=2*(g:Int):=(w64 (by omega)).trans (by omega)
 have h2:(2*(g:Int)).tdiv 2=g:=by rw [bn (by omega)]; omega
 have w2:IntKind.i64.wrap (g:Int)=g:=w64 (by omega)
 refine bj hT rfl ?_;have hf:ki a=.st [.leaf,.leaf] [.int .i64 p,(D.sl .leaf (ae .i64 (row a)))]:=rfl;rw [hf];generalize row a=R at *;generalize 2*(g:Int)+1=n at *;generalize 2*(g:Int)=n2 at *;simp -implicitDefEqProofs [Zm,Zm_B,af,e1,w1,w2,h2]
section
variable {p:Int} [IsP p]
def Fld2 (M:Fp p) (k:Nat):Prop:=k<p.toNat^2∧M=bx p (p^2+(k:Int))∧Irr M∧∀j:Nat,j<k→¬ Irr (bx p (p^2+(j:Int)))
theorem Fld2.unique {M N:Fp p} {k j:Nat} (h:Fld2 M k) (g:Fld2 N j):M=N:=by
 obtain ⟨_,rfl,h1,h2⟩:=h;obtain ⟨_,rfl,g1,g2⟩:=g
 have:k=j:=by
  rcases fj k j with h | h | h
  ·exact absurd h1 (g2 k h)
  ·exact h
  ·exact absurd g1 (h2 j h)
 rw [this]
theorem Fld2.len {M:Fp p} {k:Nat} (h:Fld2 M k):Monic M∧M.len=3:=by
 obtain ⟨h1,rfl,_,_⟩:=h;have hN:=kn (p:=p) 2;exact ju (n:=2) (by omega) (by omega) (by omega)
end
theorem Vm {O:ac} (hir:Au O) {p:Int} [IsP p] {M d:Fp p} {k0:Nat} (hM:Fld2 M k0):∀(r i:Nat),i+r=k0 →
 dn O 0 (.loop Zl_L0) ⟨[(1,.ptr 0 []),(4,.d (.sl .leaf [])),(9,.d (.sl .leaf ((List.range (p.toNat^2)).map fun (k:Nat)=>(D.sl .leaf (ae .i64 (row (bx p (((p.toNat^2:Nat):Int)+k)))))))),(10,(.d (.int .i64 (((p.toNat^2:Nat):Int))))),(11,(.d (.int .i64 i)))],[.box false (ki d)]⟩ =
  some (.exit 0,⟨[(1,.ptr 0 []),(4,(.d (.sl .leaf (ae .i64 (row M)))))],[.box false (ki d)]⟩)
 | r,i,hi=>by
  classical
  have hN:=kn (p:=p) 2;have h49:=rx (p:=p) (n:=2) (ap _);have hk0:=hM.1;have hlt:i<p.toNat^2:=by omega
  have hlt':(i:Int)<((p.toNat^2:Nat):Int):=by omega
  have hmon:=ju (p:=p) (n:=2) (by omega) (k:=p^2+(i:Int)) (by omega) (by omega)
  have e1:=hir p (bx p (p^2+(i:Int))) (by omega)
  rw [←hN] at e1;have hf:∀a:Fp p,ki a=.st [.leaf,.leaf] [.int .i64 p,(D.sl .leaf (ae .i64 (row a)))]:=fun _=>rfl
  cases r with
  | zero=>
   obtain rfl:i=k0:=by omega
   have hb:decide (Monic (bx p (((p.toNat^2:Nat):Int)+(i:Int)))∧Irr (bx p (((p.toNat^2:Nat):Int)+(i:Int))))=true:=decide_eq_true (by rw [hN]; exact ⟨hmon.1,by rw [←hM.2.1]; exact hM.2.2.1⟩)
   rw [hb] at e1;have hMe:M=bx p (((p.toNat^2:Nat):Int)+(i:Int)):=by rw [hN]; exact hM.2.1
   rw [hMe,hf];refine bi ?_;generalize p.toNat^2=N at *;simp -implicitDefEqProofs [Zl_L0,af,hlt,e1]
  | succ r=>
   have hb:decide (Monic (bx p (((p.toNat^2:Nat):Int)+(i:Int)))∧Irr (bx p (((p.toNat^2:Nat):Int)+(i:Int))))=false:=decide_eq_false fun h=>hM.2.2.2 i (by omega) (by rw [←hN]; exact h.2)
   rw [hb] at e1;have w4:IntKind.i64.wrap ((i:Int)+1)=((i+1:Nat):Int):=(w64 (x:=(i:Int)+1) (by omega)).trans (by omega)
   have ih:=Vm (O:=O) hir (d:=d) hM r (i+1) (by omega)
   refine bh ?_ ih;rw [hf];generalize p.toNat^2=N at *;simp -implicitDefEqProofs [Zl_L0,af,hlt,e1,w4]
def ml (O:ac):Prop:=∀(p:Int) [IsP p] (d M:Fp p) (k:Nat),Fld2 M k→d.len≤64→ask O Fl [ki d]=some (.tup [(D.int .i64 (((u7 (Pol.X:Fp p) d (p.toNat^1):Nat):Int))),(D.int .i64 (((u7 M d (p.toNat^2):Nat):Int)))])
theorem Gc (hT:T Fl=some Zl) (hmo:C0 (den T A)) (hir:Au (den T A)) (hle:rp (den T A)) (hpt:Bx (den T A)):ml (den T A):=by
 intro p ip d M k hM hd;obtain ⟨many,g1,g2,e1⟩:=hmo p 2 (by omega)
 have hN:=kn (p:=p) 2;have h49:=rx (p:=p) (n:=2) (ap _);rw [y0 2 1 (by omega) (by omega),gt] at g1
 obtain rfl:many=p.toNat^2:=by omega
 have e2:=Vm (O:=den T A) hir (d:=d) hM k 0 (b9 _);have hlX:(Pol.X:Fp p).len=2:=by rw [←b8,Pf]; rfl
 have e3:=hpt p d Pol.X (by omega) (by omega) hd
 have e4:=hpt p d M (by have:=hM.len.2; omega) (by have:=hM.len.2; omega) hd
 rw [hlX,Pf] at e3;rw [hM.len.2] at e4;have z1:2-1=1:=rfl;have z2:3-1=2:=rfl;rw [z1] at e3;rw [z2] at e4;unfold rp at hle;have z3:((0:Nat):Int)=0:=rfl;have z4:((2:Nat):Int)=2:=rfl;rw [z3] at e2;rw [z4] at e1;have hf:∀a:Fp p,ki a=.st [.leaf,.leaf] [.int .i64 p,(D.sl .leaf (ae .i64 (row a)))]:=fun _=>rfl
 rw [hf] at e2 e3 e4 ⊢;have hML:((List.range (p.toNat^2)).map fun (k:Nat)=>(D.sl .leaf (ae .i64 (row (bx p (((p.toNat^2:Nat):Int)+k)))))).length=p.toNat^2:=by simp
 refine bj hT rfl ?_;generalize ((u7 (Pol.X:Fp p) d (p.toNat^1):Nat):Int)=P1 at *;generalize ((u7 M d (p.toNat^2):Nat):Int)=P2 at *;generalize (List.range (p.toNat^2)).map (fun (k:Nat)=>(D.sl .leaf (ae .i64 (row (bx p (((p.toNat^2:Nat):Int)+k))))))=ML at *
 generalize row M=RM at *;generalize row d=RD at *;generalize ([0,1]:List Int)=L01 at *;generalize p.toNat^2=N at *;simp -implicitDefEqProofs [Zl,Zl_B,af,e1,e2,e3,e4,hle,hML]
end Pe

namespace Pe
open Go Gq
variable {T:Nat→Option Fn} {A:ac}
theorem a3a {p:Int} [IsP p]:Irr (Pol.X:Fp p):=Irr.of_dv (by rw [Pol.len_X]; omega) fun u hu=>by
 have hX:(Pol.X:Fp p)≠0:=Pol.X_ne;have h1:=hu.len hX;have h2:u≠0:=fun h=>hX (by obtain ⟨c,hc⟩:=hu; rw [hc,h,Gq.zero_mul])
 have h3:=Pol.len_pos h2;rw [Pol.len_X] at h1 ⊢;omega
end Pe

namespace Pe
open Go Gq
variable {T:Nat→Option Fn} {A:ac}
section
variable {p:Int} [IsP p]
theorem Jn:bx p 1=1:=Pol.ext fun i=>by
 have hp:=IsP.ge (p:=p);rw [ww ⟨by omega,by omega⟩,←Pol.C_one,Pol.c_C]
 split
 ·rename_i h
  rw [h,eg,Int.ediv_one,Gx]
 ·rename_i h
  have h1:p^1≤p^i:=ia (by omega) (by omega)
  rw [c9,eg,gt] at h1;rw [fw (by omega) (by omega),sm]
theorem po {n c:Int} (hn:0≤n) (c0:0≤c) (c1:c<p) (hb:p*n+c<18446744073709551616):bx p (p*n+c)=Pol.C (zp p c)+Pol.X*bx p n:=Pol.ext fun i=>by
 have hp:=IsP.ge (p:=p);have hpn:0≤p*n:=ce (by omega) hn
 have hn2:n≤p*n:=by
  have:=Int.mul_le_mul_of_nonneg_right (show 1≤p by omega) hn
  omega
 rw [ww ⟨by omega,hb⟩,Pol.c_add,Pol.c_C,Pol.c_Xmul]
 cases i with
 | zero=>
  rw [if_pos rfl,if_pos rfl,Gq.add_zero,eg,Int.ediv_one];exact wo.2 (by rw [Int.add_comm,gi])
 | succ i=>
  rw [if_neg (by omega),if_neg (by omega),Gq.zero_add,show i+1-1=i from rfl,ww ⟨hn,by omega⟩,c9,f8 (p^i),←Int.ediv_ediv_of_nonneg (by omega),Int.add_comm,Int.add_mul_ediv_left _ _ (by omega),fw c0 c1,Int.zero_add]
theorem Vt (hp2:p≠2):∃k:Int,0≤k∧k<p∧∀s:Zp p,zp p k+s*s≠0:=by
 have key:∀(k:Int),(∀n:Int,0≤n→n<p→(k+n*n)%p≠0)→∀s:Zp p,zp p k+s*s≠0:=fun k h s hs=>by
  rw [←g9 s,←tv,←Hn] at hs;have h1:=(wo (p:=p) (a:=k+rep s*rep s) (b:=0)).1 hs;rw [Int.zero_emod] at h1;exact h (rep s) (gw s).1 (gw s).2 h1
 rcases IsP.h (p:=p) with h | h | h | h
 ·exact absurd h hp2
 ·refine ⟨1,by omega,by omega,key 1 fun n h0 h1=>?_⟩
  subst h;have:n=0∨n=1∨n=2:=by omega
  rcases this with rfl | rfl | rfl <;> decide
 ·refine ⟨2,by omega,by omega,key 2 fun n h0 h1=>?_⟩
  subst h;have:n=0∨n=1∨n=2∨n=3∨n=4:=by omega
  rcases this with rfl | rfl | rfl | rfl | rfl <;> decide
 ·refine ⟨1,by omega,by omega,key 1 fun n h0 h1=>?_⟩
  subst h;have:n=0∨n=1∨n=2∨n=3∨n=4∨n=5∨n=6:=by omega
  rcases this with rfl | rfl | rfl | rfl | rfl | rfl | rfl <;> decide
theorem p49:p*p≤49:=by rcases IsP.h (p:=p) with h | h | h | h <;> subst h <;> decide
theorem Qk {k:Int} (h0:0≤k) (h1:k<p):bx p (p^2+k)=Pol.C (zp p k)+Pol.X*(Pol.C (zp p 0)+Pol.X*1):=by
 have hp:=IsP.pos (p:=p);have hp7:=IsP.le (p:=p);have h49:=p49 (p:=p);have e1:p^2+k=p*p+k:=by rw [c9,c9,eg,gt]
 have e2:bx p p=Pol.C (zp p 0)+Pol.X*1:=by
  have:=po (p:=p) (n:=1) (c:=0) (by omega) (by omega) hp (by omega)
  rw [gv,Int.add_zero,Jn] at this;exact this
 rw [e1,po (by omega) h0 h1 (by omega),e2]
theorem Sq {k:Int} (h0:0≤k) (h1:k<p) (h:∀s:Zp p,zp p k+s*s≠0):Irr (bx p (p^2+k)):=by
 have hp:=IsP.pos (p:=p);have h49:=p49 (p:=p);have e1:p^2=p*p:=by rw [c9,c9,eg,gt]
 have hpp:p*1≤p*p:=b4 (by omega) (by omega)
 obtain ⟨hm,hl⟩:=ju (p:=p) (n:=2) (by omega) (k:=p^2+k) (by omega) (by rw [e1]; omega)
 refine Irr.of_dv (by omega) fun u hu=>?_
 apply bv;intro hno;have hM0:bx p (p^2+k)≠0:=hm.2
 have hu0:u≠0:=fun e=>by
  obtain ⟨v,hv⟩:=hu;rw [e,Gq.zero_mul] at hv;exact hM0 hv
 have hul:=hu.len hM0;have hup:=Pol.len_pos hu0;have hw:=nv hu0;have hwl:(mon u).len=2:=by rw [y9 hu0]; omega
 have hwd:Dv (mon u) (bx p (p^2+k)):=((tr hu0).2 (.refl u)).trans hu;generalize mon u=w at *
 have hwf:w=Pol.X+Pol.C (w.c 0):=Pol.ext fun i=>by
  rw [Pol.c_add]
  match i with
  | 0=>
   show w.c 0=0+w.c 0;rw [Gq.zero_add]
  | 1=>
   have:=hw.1;unfold Pol.ld at this;rw [hwl] at this;show w.c 1=1+0;rw [Gq.add_zero];exact this
  | i+2=>
   rw [w.lt_len _ (by omega)]
   show 0=(0:Zp p)+0;rw [Gq.add_zero]
 have hw0:w≠0:=hw.2
 have q1:Quo.mk w Pol.X+Quo.mk w (Pol.C (w.c 0))=0:=by
  rw [←Quo.mk_add,←hwf];exact i7.1 (Dv.refl w)
 have q2:=i7.1 hwd;rw [Qk h0 h1,Quo.mk_add,Quo.mk_mul,Quo.mk_add,Quo.mk_mul] at q2
 have q3:Quo.mk w (Pol.C (zp p k))+Quo.mk w (Pol.C (w.c 0))*Quo.mk w (Pol.C (w.c 0))=0:=by
  have ex:Quo.mk w Pol.X=-Quo.mk w (Pol.C (w.c 0)):=by
   have:Quo.mk w Pol.X=Quo.mk w Pol.X+Quo.mk w (Pol.C (w.c 0))-Quo.mk w (Pol.C (w.c 0)):=ba [Quo.mk w Pol.X,Quo.mk w (Pol.C (w.c 0))] rfl;rw [this,q1];exact ba [Quo.mk w (Pol.C (w.c 0))] rfl
  have ez:Quo.mk w (Pol.C (zp p 0))=0:=by
   have:(Pol.C (zp p 0):Fp p)=0:=Pol.ext fun i=>by
    show (if i=0 then zp p 0 else 0)=0
    split <;> rfl
   rw [this]; rfl
  rw [ex,ez,Quo.mk_one] at q2;rw [←q2];exact ba [Quo.mk w (Pol.C (zp p k)),Quo.mk w (Pol.C (w.c 0))] rfl
 have q4:Quo.mk w (Pol.C (zp p k+w.c 0*w.c 0))=Quo.mk w 0:=by
  have:(Pol.C (zp p k+w.c 0*w.c 0):Fp p)=Pol.C (zp p k)+Pol.C (w.c 0)*Pol.C (w.c 0):=Pol.ext fun i=>by
   rw [Pol.c_add,Pol.c_Cmul];show (if i=0 then zp p k+w.c 0*w.c 0 else 0)=(if i=0 then zp p k else 0)+w.c 0*(if i=0 then w.c 0 else 0)
   split
   ·rfl
   ·rw [Gq.mul_zero,Gq.add_zero]
  rw [this,Quo.mk_add,Quo.mk_mul];exact q3
 have q5:=(Pol.mod_eq_iff hw0).2 q4;have lC:(Pol.C (zp p k+w.c 0*w.c 0):Fp p).len≤1:=Pol.len_le (Pol.lt_C _);rw [Pol.mod_small (by omega),Pol.mod_small (by rw [Pol.len_zero]; omega)] at q5
 exact h (w.c 0) (congrArg (fun a:Fp p=>a.c 0) q5)
theorem O5 (hp2:p≠2):∃(M:Fp p) (k:Nat),Fld2 M k:=by
 have hp:=IsP.pos (p:=p);have hN:=kn (p:=p) 2;have e1:p^2=p*p:=by rw [c9,c9,eg,gt]
 have hpp:p*1≤p*p:=b4 (by omega) (by omega)
 obtain ⟨k,h0,h1,h⟩:=Vt (p:=p) hp2
 obtain ⟨j,hj,hj1,hj2⟩:=Ta (P:=fun j:Nat=>Irr (bx p (p^2+(j:Int)))) k.toNat (by
  have:((k.toNat:Nat):Int)=k:=by omega
  show Irr (bx p (p^2+(k.toNat:Int)));rw [this];exact Sq h0 h1 h)
 exact ⟨_,j,by omega,rfl,hj1,hj2⟩
open Classical in
noncomputable def eN (M d:Fp p) (H k:Nat):Nat:=if ft M d k=0 then 1 else if pw (ft M d k) H%M=1 then 2 else 0
theorem X8 (hp2:p≠2) {M d:Fp p} {k:Nat} (hM:Fld2 M k):u7 M d (p.toNat^2)=1+kh (eN M d ((p.toNat^2-1)/2)) (p.toNat^2):=by
 classical
 have h3:=hM.len.2;have hM0:M≠0:=hM.len.1.2;unfold u7
 congr 1
 refine wz fun j _=>?_
 rw [Yb];exact Se hp2 hM.2.2.1 (d:=2) h3 (Eb (by omega)) (xt hM0 (by omega) _ _ (by rw [Pol.len_zero]; omega))
theorem Eh {m n d x:Fp p} (hm:2≤m.len) (hn:2≤n.len) (hx:x.len≤1):∀(j:Nat) (v:Fp p),v.len≤1→hor m d x j v=hor n d x j v∧(hor m d x j v).len≤1
 | 0,v,hv=>⟨rfl,hv⟩
 | j+1,v,hv=>by
  have hl:(v*x).len≤1:=by
   refine Pol.len_le fun i hi=>?_
   exact Pol.lt_mul (n:=1) (m:=1) (fun i hi=>Pol.lt_len _ i (by omega)) (fun i hi=>Pol.lt_len _ i (by omega)) i (by omega)
  unfold hor;rw [Pol.mod_small (a:=v*x) (m:=m) (by omega),Pol.mod_small (a:=v*x) (m:=n) (by omega)]
  exact Eh hm hn hx j _ (Pol.len_le (Pol.lt_add (fun i hi=>Pol.lt_len _ i (by omega)) (Pol.lt_C _)))
theorem X2 (hp2:p≠2) {M d:Fp p} (hM:2≤M.len):u7 (Pol.X:Fp p) d (p.toNat^1)=1+kh (eN M d ((p.toNat-1)/2)) p.toNat:=by
 classical
 have hp:=IsP.pos (p:=p);have hX:(Pol.X:Fp p).len=2:=Pol.len_X;have hX0:(Pol.X:Fp p)≠0:=Pol.X_ne;unfold u7;rw [Nat.pow_one]
 congr 1
 refine wz fun j hj=>?_
 rw [Yb];have e:=Se hp2 (m:=Pol.X) (v:=ft Pol.X d j) a3a (d:=1) hX (Eb (by omega)) (xt hX0 (by omega) _ _ (by rw [Pol.len_zero]; omega))
 rw [Nat.pow_one] at e;rw [e];have hj':(bx p (j:Int)).len≤1:=Pol.len_le (sx ⟨by omega,by have:=IsP.le (p:=p); omega⟩ (by rw [c9,eg,gt]; omega))
 obtain ⟨h1,h2⟩:=Eh (m:=Pol.X) (n:=M) (d:=d) (by omega) hM hj' d.len 0 (by rw [Pol.len_zero]; omega)
 have h3:ft Pol.X d j=ft M d j:=h1;have h4:(ft M d j).len≤1:=by rw [←h3]; exact h2
 have hpl:(pw (ft M d j) ((p.toNat-1)/2)).len≤1:=by
  have:=Xy (ft M d j) (l:=0) (by omega) ((p.toNat-1)/2)
  omega
 unfold eN;rw [h3,Pol.mod_small (m:=Pol.X) (by omega),Pol.mod_small (m:=M) (by omega)]
end
end Pe

namespace Pe
open Go Gq
variable {T:Nat→Option Fn} {A:ac}
theorem Ga {p:Int} [IsP p] {k:Nat} (hk:k<p.toNat^2):(pad (row (bx p (k:Int)))).set 2 1=pad (row (bx p (p^2+(k:Int)))):=by
 have hp:=IsP.ge (p:=p);have hp7:=IsP.le (p:=p);have hN:=kn (p:=p) 2;have e1:p^2=p*p:=by rw [c9,c9,eg,gt]
 have h49:=p49 (p:=p)
 obtain ⟨a,b,ha0,ha1,hb0,hb1,hab⟩:∃a b:Int,0≤a∧a<p∧0≤b∧b<p∧(k:Int)=p*a+b:=by
  refine ⟨(k:Int)/p,(k:Int)%p,gr (by omega) (by omega),?_,c8 _ (by omega),bq _ (by omega),(Int.mul_ediv_add_emod _ _).symm⟩
  exact dl (by omega) (by rw [←e1]; omega)
 have hpa:p*a≤p*p:=b4 (by omega) (by omega)
 have hpa0:0≤p*a:=ce (by omega) ha0
 have f1:bx p (k:Int)=Pol.C (zp p b)+Pol.X*(Pol.C (zp p a)+Pol.X*0):=by
  rw [hab,po ha0 hb0 hb1 (by omega)]
  have:=po (p:=p) (n:=0) (c:=a) (by omega) ha0 ha1 (by omega)
  rw [Int.mul_zero,Int.zero_add,n7] at this;rw [this]
 have f2:bx p (p^2+(k:Int))=Pol.C (zp p b)+Pol.X*(Pol.C (zp p a)+Pol.X*1):=by
  have e2:p^2+(k:Int)=p*(p*1+a)+b:=by rw [hab,e1,gv,ka,Int.add_assoc]
  have e3:p*(p*1+a)=p*p+p*a:=by rw [gv,ka]
  rw [e2,po (by omega) hb0 hb1 (by omega),po (by omega) ha0 ha1 (by omega),Jn]
 rw [f1,f2];have l1:=um (p:=p) (k:Int);rw [f1] at l1;have l2:=um (p:=p) (p^2+(k:Int));rw [f2] at l2;apply kr
 ·rw [bt,bm,bm]
 ·intro i h1 h2
  rw [bt,bm] at h1;rw [List.getElem_set,←da,←da,j0 l1,j0 l2,Pol.c_add,Pol.c_add,Pol.c_Xmul,Pol.c_Xmul]
  match i with
  | 0=>rfl
  | 1=>
   rw [if_neg (by omega),if_neg (by omega),Pol.c_add,Pol.c_add,Pol.c_Xmul,Pol.c_Xmul]
   rfl
  | 2=>
   rw [if_pos rfl,if_neg (by omega),Pol.c_add,Pol.c_Xmul,if_neg (by omega),Pol.c_C,Pol.c_C,if_neg (by omega),if_neg (by omega),Gq.zero_add,Gq.zero_add]
   show 1=rep (1:Zp p);exact rep_one.symm
  | i+3=>
   rw [if_neg (by omega),if_neg (by omega),if_neg (by omega),Pol.c_add,Pol.c_add,Pol.c_Xmul,Pol.c_Xmul,if_neg (by omega),if_neg (by omega),←Pol.C_one,Pol.c_C,Pol.c_C,Pol.c_C,if_neg (by omega),if_neg (by omega),if_neg (by omega)]
   rfl
theorem Il {O:ac} (hir:C5 O) (hof:Bd O) {p:Int} [IsP p] {M:Fp p} {k0:Nat} (hM:Fld2 M k0) {z:List Int}:∀(r i:Nat),i+r=k0→∃kk:Int,
 dn O 0 (.loop Z38_L0) ⟨[(0,(.d (.int .i64 p))),(2,.ptr 0 []),(3,.ptr 1 []),(4,(.d (.int .i64 (((i+1:Nat):Int)))))],[.box false (D.arr 64 .leaf (ae .u8 z)),.box false (D.arr 64 .leaf (ae .u8 (pad (row (bx p (p^2+(i:Int)))))))]⟩ =
  some (.exit 0,⟨[(0,(.d (.int .i64 p))),(2,.ptr 0 []),(3,.ptr 1 []),(4,(.d (.int .i64 kk))),(9,(.d (.bool false)))],[.box false (D.arr 64 .leaf (ae .u8 z)),.box false (D.arr 64 .leaf (ae .u8 (pad (row M))))]⟩)
 | r,i,hi=>by
  classical
  have hN:=kn (p:=p) 2;have h49:=rx (p:=p) (n:=2) (ap _);have hk0:=hM.1;have hmon:=ju (p:=p) (n:=2) (by omega) (k:=p^2+(i:Int)) (by omega) (by omega)
  have e1:=hir p (bx p (p^2+(i:Int))) hmon.1.2 (by omega)
  cases r with
  | zero=>
   obtain rfl:i=k0:=by omega
   have hb:decide (Irr (bx p (p^2+(i:Int))))=true:=decide_eq_true (by rw [←hM.2.1]; exact hM.2.2.1)
   rw [hb,←hM.2.1] at e1;rw [←hM.2.1];refine ⟨((i+1:Nat):Int),bi ?_⟩;generalize pad (row M)=PM at *;generalize ((i+1:Nat):Int)=I1 at *;simp -implicitDefEqProofs [Z38_L0,af,e1]
  | succ r=>
   have hb:decide (Irr (bx p (p^2+(i:Int))))=false:=decide_eq_false (hM.2.2.2 i (by omega))
   rw [hb] at e1;obtain ⟨kk,ih⟩:=Il (O:=O) hir hof hM (z:=z) r (i+1) (by omega)
   have e2:=hof p ((i+1:Nat):Int) (by omega) (by omega)
   have e3:=Ga (p:=p) (k:=i+1) (by omega)
   have w4:IntKind.i64.wrap (((i+1:Nat):Int)+1)=((i+1+1:Nat):Int):=(w64 (x:=((i+1:Nat):Int)+1) (by omega)).trans (by omega)
   refine ⟨kk,bh ?_ ih⟩;have hl:(pad (row (bx p ((i+1:Nat):Int)))).length=64:=bm _;generalize pad (row (bx p (p^2+(i:Int))))=PA at *;generalize pad (row (bx p (p^2+((i+1:Nat):Int))))=PB at *;generalize pad (row (bx p ((i+1:Nat):Int)))=PC at *;subst e3;generalize ((i+1+1:Nat):Int)=I2 at *;generalize ((i+1:Nat):Int)=I1 at *;simp -implicitDefEqProofs [Z38_L0,af,e1,e2,w4,hl]
theorem S8 {O:ac} (hir:C5 O) (hof:Bd O) {p:Int} [IsP p] {M:Fp p} {k0:Nat} (hM:Fld2 M k0) {z:List Int}:∃kk:Int,
 dn O 0 (.loop Z38_L0) ⟨[(0,(.d (.int .i64 p))),(2,.ptr 0 []),(3,.ptr 1 []),(4,(.d (.int .i64 0)))],[.box false (D.arr 64 .leaf (ae .u8 z)),.box false (D.arr 64 .leaf (ae .u8 (pad (row (bx p (p^2+((0:Nat):Int)))))))]⟩ =
  some (.exit 0,⟨[(0,(.d (.int .i64 p))),(2,.ptr 0 []),(3,.ptr 1 []),(4,(.d (.int .i64 kk))),(9,(.d (.bool false)))],[.box false (D.arr 64 .leaf (ae .u8 z)),.box false (D.arr 64 .leaf (ae .u8 (pad (row M))))]⟩):=by
 classical
 have hN:=kn (p:=p) 2;have h49:=rx (p:=p) (n:=2) (ap _);have hk0:=hM.1;have hmon:=ju (p:=p) (n:=2) (by omega) (k:=p^2+((0:Nat):Int)) (by omega) (by omega)
 have e1:=hir p (bx p (p^2+((0:Nat):Int))) hmon.1.2 (by omega)
 by_cases h0:k0=0
 ·subst h0
  have hb:decide (Irr (bx p (p^2+((0:Nat):Int))))=true:=decide_eq_true (by rw [←hM.2.1]; exact hM.2.2.1)
  rw [hb,←hM.2.1] at e1;rw [←hM.2.1];refine ⟨0,bi ?_⟩;generalize pad (row M)=PM at *;simp -implicitDefEqProofs [Z38_L0,af,e1]
 ·have hb:decide (Irr (bx p (p^2+((0:Nat):Int))))=false:=decide_eq_false (hM.2.2.2 0 (by omega))
  rw [hb] at e1;obtain ⟨kk,ih⟩:=Il (O:=O) hir hof hM (z:=z) k0 0 (by omega)
  have e2:=hof p ((0:Nat):Int) (by omega) (by omega)
  have e3:=Ga (p:=p) (k:=0) (by omega)
  refine ⟨kk,bh ?_ ih⟩;have hl:(pad (row (bx p ((0:Nat):Int)))).length=64:=bm _;generalize pad (row (bx p (p^2+((0:Nat):Int))))=PA at *;generalize pad (row (bx p ((0:Nat):Int)))=PC at *;subst e3;have z0:((0:Nat):Int)=0:=rfl;have z1:((0+1:Nat):Int)=1:=rfl;rw [z0] at e2;rw [z1];have w1:IntKind.i64.wrap 1=1:=w64 (by omega)
  simp -implicitDefEqProofs [Z38_L0,af,e1,e2,hl,w1]
def xl (O:ac):Prop:=∀(p:Int) [IsP p] (M:Fp p) (k:Nat),Fld2 M k→ask O F38 [(D.int .i64 p)]=some (D.arr 64 .leaf (ae .u8 (pad (row M))))
theorem M8 (hT:T F38=some Z38) (hir:C5 (den T A)) (hof:Bd (den T A)):xl (den T A):=by
 intro p ip M k hM;have hN:=kn (p:=p) 2;have hpos:=nu (p:=p) 2;obtain ⟨kk,e⟩:=S8 (O:=den T A) hir hof hM (z:=pad []);have e3:=Ga (p:=p) (k:=0) hpos;have z0:((0:Nat):Int)=0:=rfl;rw [←e3,z0,n7,cw] at e;have e4:(((pad []).set 0 0).set 1 0).set 2 1=(pad []).set 2 1:=by decide +kernel
 rw [←e4] at e;have g0:(pad [])[0]? = some 0:=by decide +kernel
 have g1:(pad [])[1]? = some 0:=by decide +kernel
 have g2:(pad [])[2]? = some 0:=by decide +kernel
 refine bj hT rfl ?_;generalize pad (row M)=PM at *;simp -implicitDefEqProofs [Z38,Z38_B,e,g0,g1,g2,List.replicate]
theorem Sb {p:Int} [IsP p] (y:Fp p) (c:Zp p):y+Pol.C (zp p (rep c))*1=y+Pol.C c:=by rw [g9,Gq.mul_one]
theorem a2h {O:ac} (hmm:pj O) (hadd:ot O) (h1:uk O) {p:Int} [IsP p] {m d x:Fp p} (hm:m≠0) (hm2:2≤m.len) (hml:m.len≤64) (hx:x.len≤64) (hd:d.len≤64) {z:List Int}:∀(n:Nat) (v:Fp p),n≤d.len→v.len<m.len →
 dn O 0 (.loop Z37_L0) ⟨[(0,(.d (.int .i64 p))),(5,.ptr 0 []),(6,.ptr 1 []),(7,.ptr 2 []),(8,.ptr 3 []),(9,.ptr 4 []),(10,(.d (.int .i64 ((n:Int)-1))))],[.box false (D.arr 64 .leaf (ae .u8 (pad (row d)))),.box false (D.arr 64 .leaf (ae .u8 (pad (row x)))),.box false (D.arr 64 .leaf (ae .u8 (pad (row m)))),.box false (D.arr 64 .leaf (ae .u8 z)),.box false (D.arr 64 .leaf (ae .u8 (pad (row v))))]⟩ =
  some (.exit 0,⟨[(0,(.d (.int .i64 p))),(5,.ptr 0 []),(6,.ptr 1 []),(7,.ptr 2 []),(8,.ptr 3 []),(9,.ptr 4 []),(10,(.d (.int .i64 ((-1))))),(15,(.d (.bool false)))],[.box false (D.arr 64 .leaf (ae .u8 (pad (row d)))),.box false (D.arr 64 .leaf (ae .u8 (pad (row x)))),.box false (D.arr 64 .leaf (ae .u8 (pad (row m)))),.box false (D.arr 64 .leaf (ae .u8 z)),.box false (D.arr 64 .leaf (ae .u8 (pad (row (hor m d x n v)))))]⟩)
 | 0,v,hn,hv=>bi (by simp -implicitDefEqProofs [Z37_L0,af,hor])
 | n+1,v,hn,hv=>by
  have hlt:n<(pad (row d)).length:=by rw [bm]; omega
  have hn64:n<64:=by omega
  have t0:(((n+1:Nat):Int)-1)=(n:Int):=by omega
  rw [t0];have w3:IntKind.i64.wrap ((n:Int)-1)=(n:Int)-1:=w64 (by omega)
  have hc:(pad (row d))[n]'hlt=rep (d.c n):=by rw [←da,j0 hd]
  have hr:=gw (d.c n);have hp7:=IsP.le (p:=p);have w1:IntKind.i64.wrap (rep (d.c n))=rep (d.c n):=w64 (by omega)
  have e1:=hmm p v x m hm hml (by omega) hx
  have e2:=h1 p;have hl1:=Pol.len_mod (v*x) hm;have e3:=hadd p (rep (d.c n)) (v*x%m) 1 (by omega) (by omega) (by omega) (by rw [Pol.len_one]; omega)
  rw [Sb] at e3;have ih:=a2h (O:=O) hmm hadd h1 (x:=x) (z:=z) hm hm2 hml hx hd n (v*x%m+Pol.C (d.c n)) (by omega) (Cp _ hm hm2)
  refine bh ?_ ih;generalize pad (row (v*x%m+Pol.C (d.c n)))=R1 at *;generalize pad (row (v*x%m))=R3 at *;generalize pad (row v)=R4 at *;generalize pad (row x)=R5 at *;generalize pad (row m)=R6 at *;generalize pad (row d)=R7 at *;generalize pad (row (1:Fp p))=R8 at *;simp -implicitDefEqProofs [Z37_L0,af,hlt,hn64,w3,w1,hc,e1,e2,e3]
def Ay (O:ac):Prop:=∀(p:Int) [IsP p] (d x m:Fp p),2≤m.len→m.len≤64→x.len≤64→d.len≤64→ask O F37 [(D.int .i64 p),(D.arr 64 .leaf (ae .u8 (pad (row d)))),(D.arr 64 .leaf (ae .u8 (pad (row x)))),(D.arr 64 .leaf (ae .u8 (pad (row m))))]=some (D.arr 64 .leaf (ae .u8 (pad (row (hor m d x d.len 0)))))
theorem Wl (hT:T F37=some Z37) (hdg:jo (den T A)) (hmm:pj (den T A)) (hadd:ot (den T A)) (h1:uk (den T A)):Ay (den T A):=by
 intro p ip d x m hm2 hml hx hd;have hm:m≠0:=fun h=>by rw [h,Pol.len_zero] at hm2; omega
 have e1:=hdg p d hd;have e2:=a2h (O:=den T A) hmm hadd h1 (z:=pad []) hm hm2 hml hx hd d.len 0 (ap _) (by rw [Pol.len_zero]; omega)
 rw [cw] at e2;refine bj hT rfl ?_;generalize pad (row (hor m d x d.len 0))=R1 at *;generalize (d.len:Int)-1=n at *;generalize pad (row x)=R5 at *;generalize pad (row m)=R6 at *;generalize pad (row d)=R7 at *;simp -implicitDefEqProofs [Z37,Z37_B,e1,e2,List.replicate]
theorem Hw {O:ac} (hof:Bd O) (hat:Ay O) (hdg:jo O) (hpw:pf O) (h1:uk O) {p:Int} [IsP p] {M d:Fp p} (hM:M.len=3) (hd:d.len≤64):∀(r k:Nat),k+r=p.toNat^2 →
 dn O 0 (.loop Z3b_L0) ⟨[(0,(.d (.int .i64 p))),(3,.ptr 0 []),(6,(.d (.int .i64 (((1+kh (eN M d ((p.toNat-1)/2)) (min k p.toNat):Nat):Int))))),(7,(.d (.int .i64 (((1+kh (eN M d ((p.toNat^2-1)/2)) k:Nat):Int))))),(8,.ptr 1 []),(9,(.d (.int .i64 k)))],[.box false (D.arr 64 .leaf (ae .u8 (pad (row d)))),.box false (D.arr 64 .leaf (ae .u8 (pad (row M)))),.hole]⟩ =
  some (.exit 0,⟨[(0,(.d (.int .i64 p))),(3,.ptr 0 []),(6,(.d (.int .i64 (((1+kh (eN M d ((p.toNat-1)/2)) p.toNat:Nat):Int))))),(7,(.d (.int .i64 (((1+kh (eN M d ((p.toNat^2-1)/2)) (p.toNat^2):Nat):Int))))),(8,.ptr 1 []),(9,(.d (.int .i64 (((p.toNat^2:Nat):Int))))),(17,(.d (.bool false)))],[.box false (D.arr 64 .leaf (ae .u8 (pad (row d)))),.box false (D.arr 64 .leaf (ae .u8 (pad (row M)))),.hole]⟩)
 | r,k,hk=>by
  classical
  have hp:=IsP.ge (p:=p);have hp7:=IsP.le (p:=p);have hN:=kn (p:=p) 2;have hN1:((p.toNat:Nat):Int)=p:=by omega
  have ep:p^2=p*p:=by rw [c9,c9,eg,gt]
  have h49:=p49 (p:=p);have hpp:p*1≤p*p:=b4 (by omega) (by omega)
  have hple:p.toNat≤p.toNat^2:=by omega
  have wpp:IntKind.i64.wrap (p*p)=p*p:=w64 (by omega)
  cases r with
  | zero=>
   obtain rfl:k=p.toNat^2:=by omega
   rw [Nat.min_eq_right hple];have hlt:¬ ((p.toNat^2:Nat):Int)<p*p:=by omega
   refine bi ?_;generalize ((p.toNat^2:Nat):Int)=N2 at *;generalize pad (row d)=Pd at *;generalize pad (row M)=PM at *;simp -implicitDefEqProofs [Z3b_L0,af,wpp,hlt]
  | succ r=>
   have hlt:(k:Int)<p*p:=by omega
   have hM0:M≠0:=fun h=>by rw [h,Pol.len_zero] at hM; omega
   have e1:=hof p k (by omega) (by omega)
   have hl:=um (p:=p) (k:Int);have e2:=hat p d (bx p k) M (by omega) (by omega) hl hd
   have hv:hor M d (bx p k) d.len 0=ft M d k:=rfl;rw [hv] at e2;have hvl:(ft M d k).len<M.len:=xt hM0 (by omega) _ _ (by rw [Pol.len_zero]; omega)
   have e3:=hdg p (ft M d k) (by omega)
   obtain ⟨A2,hA2⟩:∃A2:Int,A2=(p*p-1).tdiv 2:=⟨_,rfl⟩;obtain ⟨A1,hA1⟩:∃A1:Int,A1=(p-1).tdiv 2:=⟨_,rfl⟩;rw [bn (by omega)] at hA1 hA2
   have nA2:A2.toNat=(p.toNat^2-1)/2:=by omega
   have nA1:A1.toNat=(p.toNat-1)/2:=by omega
   have t2:(p*p-1).tdiv 2=A2:=by rw [bn (by omega)]; exact hA2.symm
   have t1:(p-1).tdiv 2=A1:=by rw [bn (by omega)]; exact hA1.symm
   have v2:IntKind.i64.wrap (p*p-1)=p*p-1:=w64 (by omega)
   have v1:IntKind.i64.wrap (p-1)=p-1:=w64 (by omega)
   have u2:IntKind.i64.wrap A2=A2:=w64 (by omega)
   have u1:IntKind.i64.wrap A1=A1:=w64 (by omega)
   have e4:=hpw p (ft M d k) A2 M hM0 (by omega) (by omega) (by omega) (by omega)
   have e5:=hpw p (ft M d k) A1 M hM0 (by omega) (by omega) (by omega) (by omega)
   have e6:=h1 p;rw [nA2] at e4;rw [nA1] at e5;have l1:=Pol.len_mod (pw (ft M d k) ((p.toNat^2-1)/2)) hM0;have l2:=Pol.len_mod (pw (ft M d k) ((p.toNat-1)/2)) hM0;have l3:(1:Fp p).len≤64:=by rw [Pol.len_one]; omega
   have e7:=Jz (p:=p) (a:=pw (ft M d k) ((p.toNat^2-1)/2)%M) (b:=1) (by omega) l3
   have e8:=Jz (p:=p) (a:=pw (ft M d k) ((p.toNat-1)/2)%M) (b:=1) (by omega) l3
   have q7:decide (pad (row (pw (ft M d k) ((p.toNat^2-1)/2)%M))=pad (row (1:Fp p)))=decide (pw (ft M d k) ((p.toNat^2-1)/2)%M=1):=decide_eq_decide.2 (tg (by omega) l3)
   have q8:decide (pad (row (pw (ft M d k) ((p.toNat-1)/2)%M))=pad (row (1:Fp p)))=decide (pw (ft M d k) ((p.toNat-1)/2)%M=1):=decide_eq_decide.2 (tg (by omega) l3)
   rw [q7] at e7;rw [q8] at e8
   have hz:((ft M d k).len:Int)-1<0↔ft M d k=0:=by
    rw [←Pol.len_zero_iff]; omega
   have eb:∀H j,eN M d H j≤2:=fun H j=>by
    unfold eN
    split
    ·omega
    ·split <;> omega
   have s2:=yh (eb ((p.toNat^2-1)/2)) k;have s1:=yh (eb ((p.toNat-1)/2)) (min k p.toNat);have k49:k≤49:=by omega
   have w4:IntKind.i64.wrap ((k:Int)+1)=((k+1:Nat):Int):=(w64 (x:=(k:Int)+1) (by omega)).trans (by omega)
   have ih:=Hw (O:=O) hof hat hdg hpw h1 hM hd r (k+1) (by omega)
   have f2:kh (eN M d ((p.toNat^2-1)/2)) (k+1)=kh (eN M d ((p.toNat^2-1)/2)) k+eN M d ((p.toNat^2-1)/2) k:=rfl
   have hS1:kh (eN M d ((p.toNat-1)/2)) (min (k+1) p.toNat)=kh (eN M d ((p.toNat-1)/2)) (min k p.toNat)+(if k<p.toNat then eN M d ((p.toNat-1)/2) k else 0):=by
    by_cases h:k<p.toNat
    ·rw [if_pos h,Nat.min_eq_left (by omega),Nat.min_eq_left (by omega)]
     rfl
    ·rw [if_neg h,Nat.min_eq_right (by omega),Nat.min_eq_right (by omega)]
     rfl
   rw [f2,hS1] at ih;have hm49:min k p.toNat≤49:=by omega
   refine bh ?_ ih;generalize kh (eN M d ((p.toNat-1)/2)) (min k p.toNat)=S1 at *;generalize kh (eN M d ((p.toNat^2-1)/2)) k=S2 at *;generalize kh (eN M d ((p.toNat-1)/2)) p.toNat=F1 at *;generalize kh (eN M d ((p.toNat^2-1)/2)) (p.toNat^2)=F2 at *;generalize pad (row d)=Pd at *;generalize pad (row (bx p (k:Int)))=Pk at *;generalize pad (row (1:Fp p))=P1 at *;generalize pad (row (pw (ft M d k) ((p.toNat^2-1)/2)%M))=Pa at *;generalize pad (row (pw (ft M d k) ((p.toNat-1)/2)%M))=Pb at *;generalize hPv:pad (row (ft M d k))=Pv at *;generalize pad (row M)=PM at *;clear ih hS1 f2 eb
   by_cases hv0:ft M d k=0
   ·have c1:=hz.2 hv0
    by_cases hkp:k<p.toNat
    ·have n2:eN M d ((p.toNat^2-1)/2) k=1:=by unfold eN; rw [if_pos hv0]
     rw [n2];have n1:eN M d ((p.toNat-1)/2) k=1:=by unfold eN; rw [if_pos hv0]
     rw [if_pos hkp,n1];have x2:IntKind.i64.wrap (((1+S2:Nat):Int)+1)=((1+(S2+1):Nat):Int):=(w64 (by omega)).trans (by omega)
     generalize ((1+(S2+1):Nat):Int)=T2n at *;generalize ((1+S2:Nat):Int)=T2 at *;have x1:IntKind.i64.wrap (((1+S1:Nat):Int)+1)=((1+(S1+1):Nat):Int):=(w64 (by omega)).trans (by omega)
     generalize ((1+(S1+1):Nat):Int)=T1n at *;generalize ((1+S1:Nat):Int)=T1 at *;have g1:¬ (p≤(k:Int)):=by omega
     generalize ((k+1:Nat):Int)=K1 at *;generalize ((ft M d k).len:Int)-1=LV at *;simp -implicitDefEqProofs [Z3b_L0,af,wpp,hlt,e1,e2,e3,w4,c1,x2,x1,g1]
    ·have n2:eN M d ((p.toNat^2-1)/2) k=1:=by unfold eN; rw [if_pos hv0]
     rw [n2];rw [if_neg hkp];have x2:IntKind.i64.wrap (((1+S2:Nat):Int)+1)=((1+(S2+1):Nat):Int):=(w64 (by omega)).trans (by omega)
     generalize ((1+(S2+1):Nat):Int)=T2n at *;generalize ((1+S2:Nat):Int)=T2 at *;rw [cn S1];generalize ((1+S1:Nat):Int)=T1 at *;have g1:(p≤(k:Int)):=by omega
     generalize ((k+1:Nat):Int)=K1 at *;generalize ((ft M d k).len:Int)-1=LV at *;simp -implicitDefEqProofs [Z3b_L0,af,wpp,hlt,e1,e2,e3,w4,c1,x2,g1]
   ·have c1:¬ ((ft M d k).len:Int)-1<0:=fun h=>hv0 (hz.1 h)
    by_cases h2:pw (ft M d k) ((p.toNat^2-1)/2)%M=1
    ·by_cases hkp:k<p.toNat
     ·by_cases h1:pw (ft M d k) ((p.toNat-1)/2)%M=1
      ·have n2:eN M d ((p.toNat^2-1)/2) k=2:=by unfold eN; rw [if_neg hv0,if_pos h2]
       rw [n2];rw [decide_eq_true h2] at e7;have n1:eN M d ((p.toNat-1)/2) k=2:=by unfold eN; rw [if_neg hv0,if_pos h1]
       rw [if_pos hkp,n1];rw [decide_eq_true h1] at e8;have x2:IntKind.i64.wrap (((1+S2:Nat):Int)+2)=((1+(S2+2):Nat):Int):=(w64 (by omega)).trans (by omega)
       generalize ((1+(S2+2):Nat):Int)=T2n at *;generalize ((1+S2:Nat):Int)=T2 at *;have x1:IntKind.i64.wrap (((1+S1:Nat):Int)+2)=((1+(S1+2):Nat):Int):=(w64 (by omega)).trans (by omega)
       generalize ((1+(S1+2):Nat):Int)=T1n at *;generalize ((1+S1:Nat):Int)=T1 at *;have g1:¬ (p≤(k:Int)):=by omega
       generalize ((k+1:Nat):Int)=K1 at *;generalize ((ft M d k).len:Int)-1=LV at *;simp -implicitDefEqProofs [Z3b_L0,af,wpp,hlt,e1,e2,e3,e6,w4,c1,v2,t2,u2,e4,e7,v1,t1,u1,e5,e8,x2,x1,g1]
      ·have n2:eN M d ((p.toNat^2-1)/2) k=2:=by unfold eN; rw [if_neg hv0,if_pos h2]
       rw [n2];rw [decide_eq_true h2] at e7;have n1:eN M d ((p.toNat-1)/2) k=0:=by unfold eN; rw [if_neg hv0,if_neg h1]
       rw [if_pos hkp,n1];rw [decide_eq_false h1] at e8;have x2:IntKind.i64.wrap (((1+S2:Nat):Int)+2)=((1+(S2+2):Nat):Int):=(w64 (by omega)).trans (by omega)
       generalize ((1+(S2+2):Nat):Int)=T2n at *;generalize ((1+S2:Nat):Int)=T2 at *;rw [cn S1];generalize ((1+S1:Nat):Int)=T1 at *;have g1:¬ (p≤(k:Int)):=by omega
       generalize ((k+1:Nat):Int)=K1 at *;generalize ((ft M d k).len:Int)-1=LV at *;simp -implicitDefEqProofs [Z3b_L0,af,wpp,hlt,e1,e2,e3,e6,w4,c1,v2,t2,u2,e4,e7,v1,t1,u1,e5,e8,x2,g1]
     ·have n2:eN M d ((p.toNat^2-1)/2) k=2:=by unfold eN; rw [if_neg hv0,if_pos h2]
      rw [n2];rw [decide_eq_true h2] at e7;rw [if_neg hkp];have x2:IntKind.i64.wrap (((1+S2:Nat):Int)+2)=((1+(S2+2):Nat):Int):=(w64 (by omega)).trans (by omega)
      generalize ((1+(S2+2):Nat):Int)=T2n at *;generalize ((1+S2:Nat):Int)=T2 at *;rw [cn S1];generalize ((1+S1:Nat):Int)=T1 at *;have g1:(p≤(k:Int)):=by omega
      generalize ((k+1:Nat):Int)=K1 at *;generalize ((ft M d k).len:Int)-1=LV at *;simp -implicitDefEqProofs [Z3b_L0,af,wpp,hlt,e1,e2,e3,e6,w4,c1,v2,t2,u2,e4,e7,x2,g1]
    ·by_cases hkp:k<p.toNat
     ·by_cases h1:pw (ft M d k) ((p.toNat-1)/2)%M=1
      ·have n2:eN M d ((p.toNat^2-1)/2) k=0:=by unfold eN; rw [if_neg hv0,if_neg h2]
       rw [n2];rw [decide_eq_false h2] at e7;have n1:eN M d ((p.toNat-1)/2) k=2:=by unfold eN; rw [if_neg hv0,if_pos h1]
       rw [if_pos hkp,n1];rw [decide_eq_true h1] at e8;rw [cn S2];generalize ((1+S2:Nat):Int)=T2 at *;have x1:IntKind.i64.wrap (((1+S1:Nat):Int)+2)=((1+(S1+2):Nat):Int):=(w64 (by omega)).trans (by omega)
       generalize ((1+(S1+2):Nat):Int)=T1n at *;generalize ((1+S1:Nat):Int)=T1 at *;have g1:¬ (p≤(k:Int)):=by omega
       generalize ((k+1:Nat):Int)=K1 at *;generalize ((ft M d k).len:Int)-1=LV at *;simp -implicitDefEqProofs [Z3b_L0,af,wpp,hlt,e1,e2,e3,e6,w4,c1,v2,t2,u2,e4,e7,v1,t1,u1,e5,e8,x1,g1]
      ·have n2:eN M d ((p.toNat^2-1)/2) k=0:=by unfold eN; rw [if_neg hv0,if_neg h2]
       rw [n2];rw [decide_eq_false h2] at e7;have n1:eN M d ((p.toNat-1)/2) k=0:=by unfold eN; rw [if_neg hv0,if_neg h1]
       rw [if_pos hkp,n1];rw [decide_eq_false h1] at e8;rw [cn S2];generalize ((1+S2:Nat):Int)=T2 at *;rw [cn S1];generalize ((1+S1:Nat):Int)=T1 at *;have g1:¬ (p≤(k:Int)):=by omega
       generalize ((k+1:Nat):Int)=K1 at *;generalize ((ft M d k).len:Int)-1=LV at *;simp -implicitDefEqProofs [Z3b_L0,af,wpp,hlt,e1,e2,e3,e6,w4,c1,v2,t2,u2,e4,e7,v1,t1,u1,e5,e8,g1]
     ·have n2:eN M d ((p.toNat^2-1)/2) k=0:=by unfold eN; rw [if_neg hv0,if_neg h2]
      rw [n2];rw [decide_eq_false h2] at e7;rw [if_neg hkp];rw [cn S2];generalize ((1+S2:Nat):Int)=T2 at *;rw [cn S1];generalize ((1+S1:Nat):Int)=T1 at *;have g1:(p≤(k:Int)):=by omega
      generalize ((k+1:Nat):Int)=K1 at *;generalize ((ft M d k).len:Int)-1=LV at *;simp -implicitDefEqProofs [Z3b_L0,af,wpp,hlt,e1,e2,e3,e6,w4,c1,v2,t2,u2,e4,e7,g1]
end Pe

namespace Pe
open Go Gq
variable {T:Nat→Option Fn} {A:ac}
open Classical in
noncomputable def Hl (p:Int) [IsP p]:Fp p:=if h:∃(M:Fp p) (k:Nat),Fld2 M k then h.choose else 0
theorem Er {p:Int} [IsP p] {M:Fp p} {k:Nat} (h:Fld2 M k):Hl p=M:=by
 have hx:∃(M:Fp p) (k:Nat),Fld2 M k:=⟨M,k,h⟩;unfold Hl;rw [dif_pos hx];obtain ⟨j,hj⟩:=hx.choose_spec;exact hj.unique h
noncomputable def ptO (p:Int) [IsP p] (a:Fp p):Int:=((u7 (Pol.X:Fp p) a (p.toNat^1):Nat):Int)
noncomputable def ptT (p:Int) [IsP p] (a:Fp p):Int:=((u7 (Hl p) a (p.toNat^2):Nat):Int)
theorem T7 {p:Int} [IsP p] (m a:Fp p) {n:Nat} (hn:n≤2):u7 m a (p.toNat^n)≤3000:=by
 have h:=rx (p:=p) hn;unfold u7;have h1:=yh (f:=cc m a (p.toNat^n)) (b:=p.toNat^n) (fun k=>H3 _ _) (p.toNat^n)
 have h2:p.toNat^n*p.toNat^n≤49*49:=Nat.mul_le_mul h h;omega
theorem Mq (p:Int) [IsP p] (a:Fp p):0≤ptO p a∧ptO p a≤3000:=by
 have:=T7 (Pol.X:Fp p) a (n:=1) (by omega)
 unfold ptO;omega
theorem La (p:Int) [IsP p] (a:Fp p):0≤ptT p a∧ptT p a≤3000:=by
 have:=T7 (Hl p) a (n:=2) (by omega)
 unfold ptT;omega
def cvL (p one two:Int) (g:Nat):List Int:=
 if g=0 then [1] else if g=1 then [1,one-p-1,p] else [1,one-p-1,(two-p*p-1+(one-p-1)*(one-p-1)).tdiv 2,p*(one-p-1),p*p]
open Classical in
noncomputable def cvD (p:Int) (l:List Int):D:=
 if h:jc p l then
  haveI:IsP p:=h.choose
  .tup [(D.sl .leaf (ae .i64 (cvL p (ptO p (dj p l)) (ptT p (dj p l)) ((dj p l).len/2-1)))),(D.int .i64 0)]
 else .tup [.sl .leaf [],(D.int .i64 1)]
theorem M4 {p:Int} [IsP p] {a:Fp p} (ha:a.len≤64) (h:jc p (pad (row a))):cvD p (pad (row a))=.tup [(D.sl .leaf (ae .i64 (cvL p (ptO p a) (ptT p a) (a.len/2-1)))),(D.int .i64 0)]:=by
 unfold cvD;rw [dif_pos h,sb ha]
theorem H4 {p:Int} {l:List Int} (h:¬ jc p l):cvD p l=.tup [.sl .leaf [],(D.int .i64 1)]:=by
 unfold cvD;rw [dif_neg h]
def tz (O:ac):Prop:=∀(p:Int) [IsP p] (a:Fp p),p≠2→a.len≤64→ask O F3b [(D.int .i64 p),(D.arr 64 .leaf (ae .u8 (pad (row a))))]=some (.tup [(D.int .i64 (ptO p a)),(D.int .i64 (ptT p a))])
theorem Iu (hT:T F3b=some Z3b) (hfi:xl (den T A)) (hof:Bd (den T A)) (hat:Ay (den T A)) (hdg:jo (den T A)) (hpw:pf (den T A)) (h1:uk (den T A)):tz (den T A):=by
 intro p ip a hp2 ha;obtain ⟨M,k,hM⟩:=O5 (p:=p) hp2;have hM3:=hM.len.2;have e1:=hfi p M k hM;have e2:=Hw (O:=den T A) hof hat hdg hpw h1 hM3 ha (p.toNat^2) 0 (b9 _);have z1:min 0 p.toNat=0:=Nat.zero_min _;have z2:∀H,((1+kh (eN M a H) 0:Nat):Int)=1:=fun _=>rfl
 have z3:((0:Nat):Int)=0:=rfl;rw [z1,z2,z2,z3,←X2 hp2 (by omega),←X8 hp2 hM] at e2
 have o1:ptO p a=((u7 (Pol.X:Fp p) a (p.toNat^1):Nat):Int):=rfl;have o2:ptT p a=((u7 M a (p.toNat^2):Nat):Int):=by unfold ptT; rw [Er hM]
 rw [←o1,←o2] at e2;refine bj hT rfl ?_;generalize ptO p a=P1 at *;generalize ptT p a=P2 at *;generalize pad (row a)=Pa at *;generalize pad (row M)=PM at *;generalize ((p.toNat^2:Nat):Int)=N2 at *;simp -implicitDefEqProofs [Z3b,Z3b_B,e1,e2,List.replicate]
def E5 (O:ac) (F:Nat) (f:Int→List Int→D):Prop:=∀(p:Int) (l:List Int),jz l→l.length=64→ask O F [(D.int .i64 p),(D.arr 64 .leaf (ae .u8 l))]=some (f p l)
def xp (O:ac):Prop:=∀(p:Int) [IsP p] (a:Fp p) (g:Nat),a.len=2*g+2→a.len≤64→ask O F39 [(D.arr 64 .leaf (ae .u8 (pad (row a))))]=some (D.int .i64 g)
theorem Mx (hT:T F39=some Z39) (hdg:jo (den T A)):xp (den T A):=by
 intro p ip a g hg ha;have e1:=hdg p a ha;rw [show (a.len:Int)-1=2*(g:Int)+1 by omega] at e1
 have w1:IntKind.i64.wrap (2*(g:Int)+1-1)=2*(g:Int):=(w64 (by omega)).trans (by omega)
 have h2:(2*(g:Int)).tdiv 2=g:=by rw [bn (by omega)]; omega
 have w2:IntKind.i64.wrap (g:Int)=g:=w64 (by omega)
 refine bj hT rfl ?_;generalize pad (row a)=R at *;generalize 2*(g:Int)+1=n at *;generalize 2*(g:Int)=n2 at *;simp -implicitDefEqProofs [Z39,Z39_B,e1,w1,w2,h2]
theorem P8 {O:ac} (hbp:ml O) {p:Int} [IsP p] {a:Fp p} (hp2:p≠2) (ha:a.len≤64):ask O Fl [ki a]=some (.tup [(D.int .i64 (ptO p a)),(D.int .i64 (ptT p a))]):=by
 obtain ⟨M,k,hM⟩:=O5 (p:=p) hp2;have e:=hbp p a M k hM ha;have o2:ptT p a=((u7 M a (p.toNat^2):Nat):Int):=by unfold ptT; rw [Er hM]
 rw [o2];exact e
def V4 (O:ac) (F:Nat) (f:Int→List Int→D):Prop:=∀(p:Int) (l:List Int),jz l→l.length=64→∃(s:List Int) (c:Int) (cp:Option Nat),f p l=.tup [(D.sl .leaf (ae .i64 s)),(D.int .i64 c)]∧s.length<100 ∧
 O F [.d (D.int .i64 p),.d (D.arr 64 .leaf (ae .u8 l))] []=some (.tup [.sl 0 [] 0 s.length cp,.d (D.int .i64 c)],[],[.sl false .leaf (ae .i64 s)])
theorem xo (hT:T F2n=some Z2n) (his:ro (den T A) F3a) (hpt:tz (den T A)) (hge:xp (den T A)):E5 (den T A) F2n cvD:=by
 classical
 intro p l hb hl;have e1:=his p l hb hl;refine bj hT rfl ?_
 by_cases h:jc p l
 ·have h':=h
  obtain ⟨ip,a,rfl,ha,hp2,hn,hg⟩:=h';rw [M4 ha h];rw [decide_eq_true h] at e1;have e2:=hpt p a hp2 ha;have hP1:=Mq p a;have hP2:=La p a;have hp:=IsP.ge (p:=p);have hp7:=IsP.le (p:=p);have h49:=p49 (p:=p);have hpp0:0≤p*p:=ce (by omega) (by omega)
  generalize ptO p a=P1 at *;generalize ptT p a=P2 at *;have q1:=db (x:=P1-p-1) (y:=P1-p-1) (b:=3100) (c:=3100) (by omega) (by omega) (by omega)
  have q2:=db (x:=p) (y:=P1-p-1) (b:=10) (c:=3100) (by omega) (by omega) (by omega)
  have w1:IntKind.i64.wrap (P1-p)=P1-p:=w64 (by omega)
  have w2:IntKind.i64.wrap (P1-p-1)=P1-p-1:=w64 (by omega)
  have w3:IntKind.i64.wrap (p*p)=p*p:=w64 (by omega)
  have w4:IntKind.i64.wrap (P2-p*p)=P2-p*p:=w64 (by omega)
  have w5:IntKind.i64.wrap (P2-p*p-1)=P2-p*p-1:=w64 (by omega)
  have w6:IntKind.i64.wrap ((P1-p-1)*(P1-p-1))=(P1-p-1)*(P1-p-1):=w64 (by omega)
  have w7:IntKind.i64.wrap (P2-p*p-1+(P1-p-1)*(P1-p-1))=P2-p*p-1+(P1-p-1)*(P1-p-1):=w64 (by omega)
  have q3:-100000000≤(P2-p*p-1+(P1-p-1)*(P1-p-1)).tdiv 2∧(P2-p*p-1+(P1-p-1)*(P1-p-1)).tdiv 2≤100000000:=by
   have hXb:-20000000≤P2-p*p-1+(P1-p-1)*(P1-p-1)∧P2-p*p-1+(P1-p-1)*(P1-p-1)≤20000000:=by omega
   generalize P2-p*p-1+(P1-p-1)*(P1-p-1)=X at *
   by_cases hX:0≤X
   ·rw [bn hX]
    omega
   ·have e:X.tdiv 2=-((-X).tdiv 2):=by rw [Int.neg_tdiv,Int.neg_neg]
    rw [e,bn (by omega)]
    omega
  have w8:IntKind.i64.wrap ((P2-p*p-1+(P1-p-1)*(P1-p-1)).tdiv 2)=(P2-p*p-1+(P1-p-1)*(P1-p-1)).tdiv 2:=w64 (by omega)
  have w9:IntKind.i64.wrap (p*(P1-p-1))=p*(P1-p-1):=w64 (by omega)
  clear q1 q2 q3 hP1 hP2 hpp0 h49;rcases hn with hn | hn | hn
  ·have hL:cvL p P1 P2 (a.len/2-1)=[1]:=by rw [hn]; rfl
   have e4:=hge p a 0 hn ha;rw [show ((0:Nat):Int)=0 from rfl] at e4;rw [hL];rw [show ae .i64 [1]=[D.int .i64 1] from rfl];generalize pad (row a)=Pa at *;simp -implicitDefEqProofs [Z2n,Z2n_B,af,e1,e2,e4,w1,w2,w3,w4,w5,List.replicate]
  ·have hL:cvL p P1 P2 (a.len/2-1)=[1,P1-p-1,p]:=by rw [hn]; rfl
   have e4:=hge p a 1 hn ha;rw [show ((1:Nat):Int)=1 from rfl] at e4;rw [hL];rw [show ae .i64 [1,P1-p-1,p]=[D.int .i64 1,D.int .i64 (P1-p-1),D.int .i64 p] from rfl];generalize pad (row a)=Pa at *;simp -implicitDefEqProofs [Z2n,Z2n_B,af,e1,e2,e4,w1,w2,w3,w4,w5,List.replicate]
  ·have hL:cvL p P1 P2 (a.len/2-1)=[1,P1-p-1,(P2-p*p-1+(P1-p-1)*(P1-p-1)).tdiv 2,p*(P1-p-1),p*p]:=by rw [hn]; rfl
   have e4:=hge p a 2 hn ha;rw [show ((2:Nat):Int)=2 from rfl] at e4;rw [hL];rw [show ae .i64 [1,P1-p-1,(P2-p*p-1+(P1-p-1)*(P1-p-1)).tdiv 2,p*(P1-p-1),p*p]=[D.int .i64 1,D.int .i64 (P1-p-1),D.int .i64 ((P2-p*p-1+(P1-p-1)*(P1-p-1)).tdiv 2),D.int .i64 (p*(P1-p-1)),D.int .i64 (p*p)] from rfl];generalize pad (row a)=Pa at *;simp -implicitDefEqProofs [Z2n,Z2n_B,af,e1,e2,e4,w1,w2,w3,w4,w5,w6,w7,w8,w9,List.replicate]
 ·rw [H4 h]
  rw [decide_eq_false h] at e1;simp -implicitDefEqProofs [Z2n,Z2n_B,af,e1,List.replicate]
theorem yc (hT:T F6=some Z6) (hfc:rf (den T A)) (hcu:v6 (den T A)) (hbp:ml (den T A)) (hge:B1 (den T A)):E5 (den T A) F6 cvD:=by
 classical
 intro p l hb hl;have e1:=hfc p l hb hl;refine bj hT rfl ?_
 by_cases h:jc p l
 ·have h':=h
  obtain ⟨ip,a,rfl,ha,hp2,hn,hg⟩:=h';rw [M4 ha h];rw [if_pos h] at e1;have e2:=hcu p a ha;have e3:=P8 hbp hp2 ha;have hP1:=Mq p a;have hP2:=La p a;have hp:=IsP.ge (p:=p);have hp7:=IsP.le (p:=p);have h49:=p49 (p:=p);have hpp0:0≤p*p:=ce (by omega) (by omega)
  generalize ptO p a=P1 at *;generalize ptT p a=P2 at *;have q1:=db (x:=P1-p-1) (y:=P1-p-1) (b:=3100) (c:=3100) (by omega) (by omega) (by omega)
  have q2:=db (x:=p) (y:=P1-p-1) (b:=10) (c:=3100) (by omega) (by omega) (by omega)
  have w1:IntKind.i64.wrap (P1-p)=P1-p:=w64 (by omega)
  have w2:IntKind.i64.wrap (P1-p-1)=P1-p-1:=w64 (by omega)
  have w3:IntKind.i64.wrap (p*p)=p*p:=w64 (by omega)
  have w4:IntKind.i64.wrap (P2-p*p)=P2-p*p:=w64 (by omega)
  have w5:IntKind.i64.wrap (P2-p*p-1)=P2-p*p-1:=w64 (by omega)
  have w6:IntKind.i64.wrap ((P1-p-1)*(P1-p-1))=(P1-p-1)*(P1-p-1):=w64 (by omega)
  have w7:IntKind.i64.wrap (P2-p*p-1+(P1-p-1)*(P1-p-1))=P2-p*p-1+(P1-p-1)*(P1-p-1):=w64 (by omega)
  have q3:-100000000≤(P2-p*p-1+(P1-p-1)*(P1-p-1)).tdiv 2∧(P2-p*p-1+(P1-p-1)*(P1-p-1)).tdiv 2≤100000000:=by
   have hXb:-20000000≤P2-p*p-1+(P1-p-1)*(P1-p-1)∧P2-p*p-1+(P1-p-1)*(P1-p-1)≤20000000:=by omega
   generalize P2-p*p-1+(P1-p-1)*(P1-p-1)=X at *
   by_cases hX:0≤X
   ·rw [bn hX]
    omega
   ·have e:X.tdiv 2=-((-X).tdiv 2):=by rw [Int.neg_tdiv,Int.neg_neg]
    rw [e,bn (by omega)]
    omega
  have w8:IntKind.i64.wrap ((P2-p*p-1+(P1-p-1)*(P1-p-1)).tdiv 2)=(P2-p*p-1+(P1-p-1)*(P1-p-1)).tdiv 2:=w64 (by omega)
  have w9:IntKind.i64.wrap (p*(P1-p-1))=p*(P1-p-1):=w64 (by omega)
  clear q1 q2 q3 hP1 hP2 hpp0 h49;rcases hn with hn | hn | hn
  ·have hL:cvL p P1 P2 (a.len/2-1)=[1]:=by rw [hn]; rfl
   have e4:=hge p a 0 hn ha;rw [show ((0:Nat):Int)=0 from rfl] at e4;rw [hL];rw [show ae .i64 [1]=[D.int .i64 1] from rfl];have hf:ki a=.st [.leaf,.leaf] [.int .i64 p,(D.sl .leaf (ae .i64 (row a)))]:=rfl;rw [hf] at e2 e3 e4;generalize pad (row a)=Pa at *;generalize row a=Ra at *;simp -implicitDefEqProofs [Z6,Z6_B,af,e1,e2,e3,e4,w1,w2,w3,w4,w5,List.replicate]
  ·have hL:cvL p P1 P2 (a.len/2-1)=[1,P1-p-1,p]:=by rw [hn]; rfl
   have e4:=hge p a 1 hn ha;rw [show ((1:Nat):Int)=1 from rfl] at e4;rw [hL];rw [show ae .i64 [1,P1-p-1,p]=[D.int .i64 1,D.int .i64 (P1-p-1),D.int .i64 p] from rfl];have hf:ki a=.st [.leaf,.leaf] [.int .i64 p,(D.sl .leaf (ae .i64 (row a)))]:=rfl;rw [hf] at e2 e3 e4;generalize pad (row a)=Pa at *;generalize row a=Ra at *;simp -implicitDefEqProofs [Z6,Z6_B,af,e1,e2,e3,e4,w1,w2,w3,w4,w5,List.replicate]
  ·have hL:cvL p P1 P2 (a.len/2-1)=[1,P1-p-1,(P2-p*p-1+(P1-p-1)*(P1-p-1)).tdiv 2,p*(P1-p-1),p*p]:=by rw [hn]; rfl
   have e4:=hge p a 2 hn ha;rw [show ((2:Nat):Int)=2 from rfl] at e4;rw [hL];rw [show ae .i64 [1,P1-p-1,(P2-p*p-1+(P1-p-1)*(P1-p-1)).tdiv 2,p*(P1-p-1),p*p]=[D.int .i64 1,D.int .i64 (P1-p-1),D.int .i64 ((P2-p*p-1+(P1-p-1)*(P1-p-1)).tdiv 2),D.int .i64 (p*(P1-p-1)),D.int .i64 (p*p)] from rfl];have hf:ki a=.st [.leaf,.leaf] [.int .i64 p,(D.sl .leaf (ae .i64 (row a)))]:=rfl;rw [hf] at e2 e3 e4;generalize pad (row a)=Pa at *;generalize row a=Ra at *;simp -implicitDefEqProofs [Z6,Z6_B,af,e1,e2,e3,e4,w1,w2,w3,w4,w5,w6,w7,w8,w9,List.replicate]
 ·rw [H4 h]
  rw [if_neg h] at e1;simp -implicitDefEqProofs [Z6,Z6_B,af,e1,List.replicate]
theorem yj (hT:T F7=some Z7) (hfc:rf (den T A)) (hcu:v6 (den T A)) (hbp:ml (den T A)) (hge:B1 (den T A)):V4 (den T A) F7 cvD:=by
 classical
 intro p l hb hl;have e1:=hfc p l hb hl
 by_cases h:jc p l
 ·have h':=h
  obtain ⟨ip,a,rfl,ha,hp2,hn,hg⟩:=h';rw [M4 ha h];rw [if_pos h] at e1;have e2:=hcu p a ha;have e3:=P8 hbp hp2 ha;have hP1:=Mq p a;have hP2:=La p a;have hp:=IsP.ge (p:=p);have hp7:=IsP.le (p:=p);have h49:=p49 (p:=p);have hpp0:0≤p*p:=ce (by omega) (by omega)
  generalize ptO p a=P1 at *;generalize ptT p a=P2 at *;have q1:=db (x:=P1-p-1) (y:=P1-p-1) (b:=3100) (c:=3100) (by omega) (by omega) (by omega)
  have q2:=db (x:=p) (y:=P1-p-1) (b:=10) (c:=3100) (by omega) (by omega) (by omega)
  have w1:IntKind.i64.wrap (P1-p)=P1-p:=w64 (by omega)
  have w2:IntKind.i64.wrap (P1-p-1)=P1-p-1:=w64 (by omega)
  have w3:IntKind.i64.wrap (p*p)=p*p:=w64 (by omega)
  have w4:IntKind.i64.wrap (P2-p*p)=P2-p*p:=w64 (by omega)
  have w5:IntKind.i64.wrap (P2-p*p-1)=P2-p*p-1:=w64 (by omega)
  have w6:IntKind.i64.wrap ((P1-p-1)*(P1-p-1))=(P1-p-1)*(P1-p-1):=w64 (by omega)
  have w7:IntKind.i64.wrap (P2-p*p-1+(P1-p-1)*(P1-p-1))=P2-p*p-1+(P1-p-1)*(P1-p-1):=w64 (by omega)
  have q3:-100000000≤(P2-p*p-1+(P1-p-1)*(P1-p-1)).tdiv 2∧(P2-p*p-1+(P1-p-1)*(P1-p-1)).tdiv 2≤100000000:=by
   have hXb:-20000000≤P2-p*p-1+(P1-p-1)*(P1-p-1)∧P2-p*p-1+(P1-p-1)*(P1-p-1)≤20000000:=by omega
   generalize P2-p*p-1+(P1-p-1)*(P1-p-1)=X at *
   by_cases hX:0≤X
   ·rw [bn hX]
    omega
   ·have e:X.tdiv 2=-((-X).tdiv 2):=by rw [Int.neg_tdiv,Int.neg_neg]
    rw [e,bn (by omega)]
    omega
  have w8:IntKind.i64.wrap ((P2-p*p-1+(P1-p-1)*(P1-p-1)).tdiv 2)=(P2-p*p-1+(P1-p-1)*(P1-p-1)).tdiv 2:=w64 (by omega)
  have w9:IntKind.i64.wrap (p*(P1-p-1))=p*(P1-p-1):=w64 (by omega)
  clear q1 q2 q3 hP1 hP2 hpp0 h49;rcases hn with hn | hn | hn
  ·have hL:cvL p P1 P2 (a.len/2-1)=[1]:=by rw [hn]; rfl
   have e4:=hge p a 0 hn ha;rw [show ((0:Nat):Int)=0 from rfl] at e4;rw [hL];refine ⟨[1],0,some 1,rfl,by simp,ri hT rfl ?_⟩
   rw [show ae .i64 [1]=[D.int .i64 1] from rfl];have hf:ki a=.st [.leaf,.leaf] [.int .i64 p,(D.sl .leaf (ae .i64 (row a)))]:=rfl;rw [hf] at e2 e3 e4;generalize pad (row a)=Pa at *;generalize row a=Ra at *;simp -implicitDefEqProofs [Z7,Z7_B,af,e1,e2,e3,e4,w1,w2,w3,w4,w5,List.idxOf,List.findIdx,List.findIdx.go,List.replicate]
  ·have hL:cvL p P1 P2 (a.len/2-1)=[1,P1-p-1,p]:=by rw [hn]; rfl
   have e4:=hge p a 1 hn ha;rw [show ((1:Nat):Int)=1 from rfl] at e4;rw [hL];refine ⟨[1,P1-p-1,p],0,some 3,rfl,by simp,ri hT rfl ?_⟩
   rw [show ae .i64 [1,P1-p-1,p]=[D.int .i64 1,D.int .i64 (P1-p-1),D.int .i64 p] from rfl];have hf:ki a=.st [.leaf,.leaf] [.int .i64 p,(D.sl .leaf (ae .i64 (row a)))]:=rfl;rw [hf] at e2 e3 e4;generalize pad (row a)=Pa at *;generalize row a=Ra at *;simp -implicitDefEqProofs [Z7,Z7_B,af,e1,e2,e3,e4,w1,w2,w3,w4,w5,List.idxOf,List.findIdx,List.findIdx.go,List.replicate]
  ·have hL:cvL p P1 P2 (a.len/2-1)=[1,P1-p-1,(P2-p*p-1+(P1-p-1)*(P1-p-1)).tdiv 2,p*(P1-p-1),p*p]:=by rw [hn]; rfl
   have e4:=hge p a 2 hn ha;rw [show ((2:Nat):Int)=2 from rfl] at e4;rw [hL];refine ⟨[1,P1-p-1,(P2-p*p-1+(P1-p-1)*(P1-p-1)).tdiv 2,p*(P1-p-1),p*p],0,some 5,rfl,by simp,ri hT rfl ?_⟩
   rw [show ae .i64 [1,P1-p-1,(P2-p*p-1+(P1-p-1)*(P1-p-1)).tdiv 2,p*(P1-p-1),p*p]=[D.int .i64 1,D.int .i64 (P1-p-1),D.int .i64 ((P2-p*p-1+(P1-p-1)*(P1-p-1)).tdiv 2),D.int .i64 (p*(P1-p-1)),D.int .i64 (p*p)] from rfl];have hf:ki a=.st [.leaf,.leaf] [.int .i64 p,(D.sl .leaf (ae .i64 (row a)))]:=rfl;rw [hf] at e2 e3 e4;generalize pad (row a)=Pa at *;generalize row a=Ra at *;simp -implicitDefEqProofs [Z7,Z7_B,af,e1,e2,e3,e4,w1,w2,w3,w4,w5,w6,w7,w8,w9,List.idxOf,List.findIdx,List.findIdx.go,List.replicate]
 ·rw [H4 h]
  rw [if_neg h] at e1;refine ⟨[],1,some 0,rfl,by simp,ri hT rfl ?_⟩
  simp -implicitDefEqProofs [Z7,Z7_B,af,e1,ec,List.idxOf,List.findIdx,List.findIdx.go,List.replicate]
def mn (O:ac):Prop:=∀(p:Int) (l:List Int),jz l→l.length=64→ask O F1s [(D.int .i64 p),(D.arr 64 .leaf (ae .u8 l))]=some (D.bool true)
theorem wd (hT:T F1s=some Z1s) (hp:Da (den T A)) (hi:E5 (den T A) F6 cvD) (hh:V4 (den T A) F7 cvD) (hs:E5 (den T A) F2n cvD)
 (he:Rv (den T A)) (hm:Gz (den T A)) (hd:H1 (den T A)):mn (den T A):=by
 intro p l hb hl;have e1:=hp l hb hl;have e2:=hi p l hb hl;have e3:=hs p l hb hl;obtain ⟨s,c,cp,e4,h4,e5⟩:=hh p l hb hl;rw [e4] at e2 e3;have e6:=he s (by omega)
 have e7:=hm s cp (by omega)
 have e8:=hd s.length (by omega)
 have ht:s.take s.length=s:=az (ap _);have ht2:(m9 s.length).take s.length=m9 s.length:=az (by simp [m9])
 have hL:(m9 s.length).length=s.length:=by simp [m9]
 refine bj hT rfl ?_;generalize m9 s.length=M at *;have h0:¬ ((s.length:Int)+1<0):=by omega
 simp -implicitDefEqProofs [Z1s,Z1s_B,af,e1,e2,e3,e5,e6,e7,e8,ht,ht2,hL,h0,List.replicate]
end Pe
