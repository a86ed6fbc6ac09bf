/-
  A part of the proof: an evaluator for a small form of the code, its soundness, and contracts of functions over it.
-/
import Derived.Lib.AppendZeros
import Derived.Test.YtngaenaglaiblaaGreatW1
import Derived.Test.YtngaenaglaiblaaGreatW2
import Derived.Test.YtngaenaglaiblaaGreatW3

namespace Pe
open Go Gq
abbrev Fp (p:Int):Type:=Pol (Zp p)
noncomputable def row {p:Int} (a:Fp p):List Int:=(List.range a.len).map fun i=>rep (a.c i)
def pad (l:List Int):List Int:=(List.range 64).map (cf l)
section
variable {p:Int}
@[simp] theorem ca (a:Fp p):(row a).length=a.len:=by simp [row]
theorem ja (a:Fp p) (i:Nat):cf (row a) i=rep (a.c i):=by
 rcases dx i a.len with h | h
 ·exact qa _ _ _ h
 ·rw [rf (by rw [ca]; exact h),a.lt_len i h,sj]
theorem lc [IsP p] (a:Fp p):Can p (row a):=Can.of_cf fun j _=>by rw [ja]; exact o7 _
theorem Gt [IsP p] (a:Fp p) {b:Int} (hb:7≤b):Small b (row a):=(lc a).small (by have:=IsP.le (p:=p); omega)
theorem dj:row (0:Fp p)=[]:=by
 apply ug;rw [ca,Pol.len_zero]
theorem ab6 {a:Fp p}:row a=[]↔a=0:=by rw [←ej,ca,Pol.len_zero_iff]
theorem Nb (l:List Int):∀n,(∀i,sf l n≤i→i<n→cf l i=0)∧(sf l n=0∨cf l (sf l n-1)≠0)
 | 0=>⟨fun i _ h=>absurd h (Nat.not_lt_zero i),.inl rfl⟩
 | n+1=>by
  have ih:=Nb l n;unfold sf
  by_cases h:cf l n=0
  ·rw [if_pos h]
   refine ⟨fun i h1 h2=>?_,ih.2⟩
   by_cases hi:i=n
   ·rw [hi,h]
   ·exact ih.1 i h1 (by omega)
  ·rw [if_neg h]
   exact ⟨fun i h1 h2=>by omega,.inr h⟩
theorem Ag {l:List Int} {f:Fp p} (h:∀i,cf l i=rep (f.c i)):trim l=row f:=by
 have ht:=Nb l l.length;have hl:=Im l l.length
 have e:sf l l.length=f.len:=by
  apply Nat.le_antisymm
  ·rcases ht.2 with h0 | h0
   ·omega
   ·rw [h] at h0
    rcases dx (sf l l.length-1) f.len with h1 | h1
    ·omega
    ·exact absurd (by rw [f.lt_len _ h1,sj]) h0
  ·apply Pol.len_le
   intro i hi;apply io.1;rw [←h];rcases dx i l.length with h1 | h1
   ·exact ht.1 i hi h1
   ·exact rf h1
 apply oc
 ·rw [ca,←e]; unfold trim; rw [b8]; omega
 ·intro i h1 h2
  have e1:(trim l)[i]=cf l i:=by
   unfold trim at h1 ⊢;rw [ki,ft]
  have e2:(row f)[i]=cf (row f) i:=(ft h2).symm;rw [e1,e2,ja,h]
def gw (p:Int) (l:List Int):Fp p:=⟨fun i=>zp p (cf l i),l.length,fun i hi=>by rw [rf hi]; rfl⟩
theorem lg (l:List Int) (i:Nat):(gw p l).c i=zp p (cf l i):=rfl
theorem a9b (l:List Int):(gw p l).lt l.length:=fun i hi=>by rw [lg,rf hi]; rfl
theorem y7 (a:Fp p):gw p (row a)=a:=Pol.ext fun i=>by rw [lg,ja,mw]
theorem ru [IsP p] {l:List Int} (h:Can p l):trim l=row (gw p l):=Ag fun i=>by
 have h1:=h.le IsP.pos i;rw [lg,Q1 h1]
theorem aaq {a b:Fp p} (h:row a=row b):a=b:=by rw [←y7 a,←y7 b,h]
theorem ac5:pad []=List.replicate 64 0:=by decide +kernel
@[simp] theorem anq:z64=aq .u8 (pad []):=by rw [ac5]; unfold aq z64; rw [ew]
theorem di (l:List Int):(pad l).length=64:=by simp [pad]
theorem D6 {l:List Int} (h:l.length≤64) (i:Nat):cf (pad l) i=cf l i:=by
 rcases dx i 64 with h1 | h1
 ·exact qa _ _ _ h1
 ·rw [rf (by rw [di]; exact h1),rf (by omega)]
theorem u4 (l:List Int) (i:Nat) (h:i<64):(pad l)[i]? = some (cf l i):=by
 rw [pad,cb,db h]; rfl
theorem Vh {l m:List Int} (hl:m.length=64) (h:∀i,i<64→cf l i=cf m i):pad l=m:=by
 apply oc
 ·rw [di,hl]
 ·intro i h1 h2
  rw [←ft h2,←h i (by omega)]
  simp [pad]
theorem Sb [IsP p] (a b:Fp p) (k:Int):aap p (row a) (row b) k=row (a+Pol.C (zp p k)*b):=by
 apply Ag;intro i
 have e:rep ((a+Pol.C (zp p k)*b).c i)=(rep (a.c i)+k*rep (b.c i))%p:=by
  rw [Pol.c_add,Pol.c_Cmul,←M8]
  congr 1
  rw [Wz,Dl,mw,mw]
 rw [e];rcases dx i (max a.len b.len) with h | h
 ·rw [qa _ _ _ (by simpa using h)]
  unfold lin;rw [ja,ja]
 ·rw [rf (by simpa using h),a.lt_len i (by omega),b.lt_len i (by omega)]
  simp [sj]
def cvs {K:Type} [CR K] (f g:Nat→K):Nat→Nat→K
 | 0,_=>0
 | m+1,j=>cvs f g m j+if m≤j then f m*g (j-m) else 0
theorem L2 {K:Type} [CR K] (f g:Nat→K):∀m j,cvs f g (m+1) j=f 0*g j+if j=0 then 0 else cvs (fun i=>f (i+1)) g m (j-1)
 | 0,j=>by
  show 0+(if 0≤j then f 0*g (j-0) else 0)=_
  rw [if_pos (fh j),Nat.sub_zero,Gq.zero_add]
  split <;> exact (Gq.add_zero _).symm
 | m+1,j=>by
  rw [cvs,L2 f g m j]
  by_cases h:j=0
  ·subst h
   rw [if_pos rfl,if_neg (by omega),if_pos rfl,Gq.add_zero]
  ·rw [if_neg h,if_neg h,cvs]
   rw [Gq.add_assoc]
   congr 2
   by_cases h2:m+1≤j
   ·rw [if_pos h2,if_pos (by omega),show j-(m+1)=j-1-m by omega]
   ·rw [if_neg h2,if_neg (by omega)]
theorem a4v {K:Type} [CR K] (g:Nat→K):∀(j m:Nat) (f:Nat→K),j<m→cvs f g m j=cv j f g
 | 0,0,f,h=>by omega
 | 0,m+1,f,_=>by rw [L2,if_pos rfl,Gq.add_zero]; rfl
 | j+1,0,f,h=>by omega
 | j+1,m+1,f,h=>by rw [L2,if_neg (by omega),cv,Nat.add_sub_cancel,a4v g j m _ (by omega)]
theorem Tm {K:Type} [CR K] (f g:Nat→K) {m:Nat} (h:∀i,m≤i→f i=0) (j:Nat):∀k,cvs f g (m+k) j=cvs f g m j
 | 0=>rfl
 | k+1=>by
  rw [←fm,cvs,Tm f g h j k,h (m+k) (by omega),Gq.zero_mul]
  split <;> exact Gq.add_zero _
theorem Yk (l m:List Int):∀n j,zp p (conv l m n j)=cvs (gw p l).c (gw p m).c n j
 | 0,j=>rfl
 | n+1,j=>by
  rw [conv,cvs,←Yk l m n j]
  split
  ·rfl
  ·rfl
theorem abo [IsP p] (a b:Fp p):mul p (row a) (row b)=row (a*b):=by
 apply Ag;intro i
 have e:∀i,conv (row a) (row b) (row a).length i%p=rep ((a*b).c i):=fun i=>by
  rw [←M8,Yk,y7,y7,ca,Pol.c_mul]
  congr 1
  rw [←Tm a.c b.c a.lt_len i (i+1),a4v];omega
 rcases dx i (a.len+b.len-1) with h | h
 ·rw [qa _ _ _ (by simpa using h),e]
 ·rw [rf (by simpa using h),Pol.lt_mul a.lt_len b.lt_len i h,sj]
end
end Pe
namespace Pe
open Go Gq
variable {T:Nat→Option Fn} {A:am}
theorem a80 (p:Int) [h:IsP p] (a:Int) (h0:0<a) (h1:a<p):a*inv p a%p=1:=by
 rcases h.h with rfl | rfl | rfl | rfl
 ·obtain rfl:a=1:=by omega
  decide
 ·have:a=1∨a=2:=by omega
  rcases this with rfl | rfl <;> decide
 ·have:a=1∨a=2∨a=3∨a=4:=by omega
  rcases this with rfl | rfl | rfl | rfl <;> decide
 ·have:a=1∨a=2∨a=3∨a=4∨a=5∨a=6:=by omega
  rcases this with rfl | rfl | rfl | rfl | rfl | rfl <;> decide
theorem zq (p:Int) [IsP p] (a:Int):0≤inv p a∧inv p a<p:=by
 have:=IsP.ge (p:=p);exact Yy (by omega) _
@[simp] theorem a83 {p:Int} (a:Fp p):(row a).take a.len=row a:=aw (by simp)
def o5 (O:am):Prop:=∀(p:Int) [IsP p] (k:Int) (a b:Fp p),-1000000≤k→k≤1000000→a.len<1000000→b.len<1000000 →
 ask O F11 [(D.int .i64 p),(D.sl .leaf (aq .i64 (row a))),(D.sl .leaf (aq .i64 (row b))),(D.int .i64 k)]=some (D.sl .leaf (aq .i64 (row (a+Pol.C (zp p k)*b))))
theorem a2v {O:am} (h:Bf O):o5 O:=fun p i k a b h1 h2 h3 h4=>by
 have h5:=IsP.pos (p:=p);have h6:=IsP.le (p:=p);rw [h p k (row a) (row b) h5 (by omega) (Gt a (by omega)) (Gt b (by omega)) h1 h2 (by simpa using h3) (by simpa using h4),Sb]
def yr (O:am):Prop:=∀(p:Int) [IsP p] (a b:Fp p),a.len<10000→b.len<10000 →
 ask O F1j [(D.int .i64 p),(D.sl .leaf (aq .i64 (row a))),(D.sl .leaf (aq .i64 (row b)))]=some (D.sl .leaf (aq .i64 (row (a*b))))
theorem abl {O:am} (h:S6 O):yr O:=fun p i a b h1 h2=>by
 have h5:=IsP.pos (p:=p);have h6:=IsP.le (p:=p);rw [h p (row a) (row b) h5 (by omega) (lc a) (lc b) (by simpa using h1) (by simpa using h2),abo]
def sy (O:am):Prop:=∀(p:Int) [IsP p] (k:Int) (a:Fp p),-1000000≤k→k≤1000000→a.len<1000000 →
 ask O F1h [(D.int .i64 p),(D.sl .leaf (aq .i64 (row a))),(D.int .i64 k)]=some (D.sl .leaf (aq .i64 (row (Pol.C (zp p k)*a))))
theorem abn {O:am} (h:Ps O):sy O:=fun p i k a h1 h2 h3=>by
 have h5:=IsP.pos (p:=p);have h6:=IsP.le (p:=p);have e:=Sb (0:Fp p) a k;rw [dj,Gq.zero_add] at e;rw [h p k (row a) h5 (by omega) (Gt a (by omega)) h1 h2 (by simpa using h3),e]
theorem a7o {K:Type} [CR K] {g:Nat→K}:∀{i:Nat} {f:Nat→K},(∀j,j≤i→f j=0)→cv i f g=0
 | 0,f,h=>by rw [cv,h 0 (ba 0),Gq.zero_mul]
 | i+1,f,h=>by rw [cv,h 0 (fh _),Gq.zero_mul,a7o (fun j hj=>h (j+1) (by omega)),Gq.add_zero]
theorem Vb {K:Type} [Fd K] (k:K) (n:Nat) (a:Pol K) (i:Nat):(Pol.mo k n*a).c i=if n≤i then k*a.c (i-n) else 0:=by
 split
 ·rename_i h; exact Pol.c_momul k n a i h
 ·rename_i h
  rw [Pol.c_mul];exact a7o fun j hj=>if_neg (by omega)
section
variable {p:Int} [IsP p]
theorem Ta (q:Int) (b:Fp p) (c:Nat) (cur:List Int) (h:c+b.len≤cur.length):gw p (ou p q (row b) c b.len 0 cur)=gw p cur-Pol.mo (zp p q) c*b:=Pol.ext fun j=>by
 rw [Pol.c_sub,Vb,lg,lg,Ar _ _ _ _ _ _ _ _ (by omega)]
 by_cases h1:c+0≤j∧j<c+0+b.len
 ·rw [if_pos h1,if_pos (by omega),zr,a81,Dl,ja,mw]
 ·rw [if_neg h1]
  split
  ·rw [b.lt_len _ (by omega),Gq.mul_zero,sub_eq,ud,Gq.add_zero]
  ·rw [sub_eq,ud,Gq.add_zero]
theorem a3m (q:Int) (c:Nat) (quo:List Int) (h:c<quo.length) (h0:cf quo c=0):gw p (quo.set c q)=gw p quo+Pol.mo (zp p q) c:=Pol.ext fun j=>by
 rw [Pol.c_add,lg,lg,xr];show _=_+(if j=c then zp p q else 0)
 by_cases h1:j=c
 ·subst h1
  rw [if_pos ⟨rfl,h⟩,if_pos rfl,h0,C9,Gq.zero_add]
 ·rw [if_neg (by omega),if_neg h1,Gq.add_zero]
theorem Pp (b:Fp p) (hb:b≠0):∀(c:Nat) (cur quo:List Int),c+b.len≤cur.length+1→c≤quo.length→Can p cur→(∀j,j<c→cf quo j=0)→(∀j,c+b.len-1≤j→cf cur j=0)→Can p quo →
 let r:=dv p (inv p (rep b.ld)) (row b) c (cur,quo)
 gw p r.1+gw p r.2*b=gw p cur+gw p quo*b∧(∀j,b.len-1≤j→cf r.1 j=0)∧Can p r.1∧Can p r.2
 | 0,cur,quo,_,_,hcan,_,h,hq=>⟨rfl,fun j hj=>h j (by omega),hcan,hq⟩
 | c+1,cur,quo,hl,hlq,hcan,hq0,h,hq=>by
  have hp:=IsP.pos (p:=p);have hbl:=Pol.len_pos hb;have hr:=o7 b.ld;have hld:rep b.ld≠0:=fun h0=>Pol.ld_ne hb (io.1 h0)
  generalize hqd:cf cur (c+b.len-1)*inv p (rep b.ld)%p=q;have hqin:0≤q∧q<p:=by subst hqd; exact ⟨eo _ (by omega),du _ hp⟩
  have hlen:c+b.len≤cur.length:=by omega
  have e:dv p (inv p (rep b.ld)) (row b) (c+1) (cur,quo)=dv p (inv p (rep b.ld)) (row b) c (ou p q (row b) c b.len 0 cur,quo.set c q):=by
   rw [dv]; simp only [ca,hqd]
  rw [e]
  have key:(cf cur (c+b.len-1)-q*rep b.ld)%p=0:=by
   have h1:=a80 p (rep b.ld) (by omega) hr.2
   have h2:q*rep b.ld%p=cf cur (c+b.len-1)%p:=by
    subst hqd;rw [Int.mul_emod,ni _ (Int.dvd_refl p),←Int.mul_emod,xu,lm (inv p _),Int.mul_emod,h1,se,ni _ (Int.dvd_refl p)]
   rw [Int.sub_emod,h2,←Int.sub_emod,Int.sub_self,Int.zero_emod]
  have ih:=Pp b hb c (ou p q (row b) c b.len 0 cur) (quo.set c q) (by rw [ol]; omega) (by simp; omega) (Gx hp (by omega) hcan)
   (fun j hj=>by rw [xr,if_neg (by omega)]; exact hq0 j (by omega))
   (fun j hj=>by
    rw [Ar _ _ _ _ _ _ _ _ (by omega)]
    by_cases hj2:j=c+b.len-1
    ·subst hj2
     rw [if_pos (by omega),ja,show c+b.len-1-c=b.len-1 by omega]; exact key
    ·rw [if_neg (by omega)]; exact h j (by omega))
   (fun x hx=>by
    rcases ce hx with h1 | h1
    ·exact hq x h1
    ·subst h1; exact hqin)
  refine ⟨?_,ih.2⟩;rw [ih.1,Ta q b c cur hlen,a3m q c quo (by omega) (hq0 c (by omega))]
  exact cu [gw p cur,Pol.mo (zp p q) c,b,gw p quo] rfl
def a0w (O:am):Prop:=∀l:List Int,l.length<1000000→O F2a [(.d (.sl .leaf (aq .i64 l)))] []=some (.sl 0 [] 0 l.length none,[],[.sl false .leaf (aq .i64 l)])
def vk (O:am):Prop:=∀(p:Int) [IsP p] (a b:Fp p),b≠0→a.len<5000→b.len<5000 →
 ask O F13 [(D.int .i64 p),(D.sl .leaf (aq .i64 (row a))),(D.sl .leaf (aq .i64 (row b)))]=some (.tup [(D.sl .leaf (aq .i64 (row (a/b)))),(D.sl .leaf (aq .i64 (row (a%b))))])
end
section
variable {p:Int}
theorem H0 (b:Fp p):D5 (row b)=rep b.ld:=by unfold D5 Pol.ld; rw [ja,ca]
end
section
variable {p:Int} [IsP p]
theorem a89 (hT:T F13=some Z13) (hcl:a0w (den T A)) (htr:vb (den T A)) (hld:xq (den T A)) (hinv:qb (den T A)) (hred:wb (den T A)):vk (den T A):=by
 intro p ip a b hb ha hbl;have hp:=IsP.ge (p:=p);have hp7:=IsP.le (p:=p);have e1:=hcl (row a) (by simpa using (show a.len<1000000 by omega))
 rw [ca] at e1;have hb0:=Pol.len_pos hb;refine c9 hT rfl ?_
 by_cases hlt:a.len<b.len
 ·obtain ⟨h1,h2⟩:=Pol.div_mod_eq (a:=a) (b:=b) (q:=0) (r:=a) (by rw [Gq.zero_mul,Gq.zero_add]) hlt
  rw [h1,h2,dj];have h3:(a.len:Int)<(b.len:Int):=by omega
  simp -implicitDefEqProofs [Z13,Z13_B,ap,e1,h3,i6,a83]
 ·have h3:¬ (a.len:Int)<(b.len:Int):=by omega
  have hr:=o7 b.ld;have e2:=hld (row b) (by simpa using (show b.len<1000000 by omega))
  rw [H0] at e2;have e3:=hinv p (rep b.ld) (by omega) (by omega) hr.1 hr.2
  have w1:IntKind.i64.wrap ((a.len:Int)-b.len)=(a.len:Int)-b.len:=wt;have w2:IntKind.i64.wrap ((a.len:Int)-b.len+1)=((a.len-b.len+1:Nat):Int):=wt;have w3:IntKind.i64.wrap (((a.len-b.len+1:Nat):Int)-1)=((a.len-b.len+1:Nat):Int)-1:=wt;have h8:(a.len-b.len+1)*8≤1099511627776:=by omega
  have l1:=a42 (O:=den T A) (by_:=inv p (rep b.ld)) (b:=row b) (la:=a.len) (nq:=a.len-b.len+1) (cp:=none) hred (by omega) (by omega) (zq p _) (lc b) (by rw [ca]; omega) (by rw [ca]; omega) (by omega)
   (a.len-b.len+1) (row a) (List.replicate (a.len-b.len+1) 0) (ba _) (ca a) (by simp) (lc a)
  have hz:∀n j,cf (List.replicate n (0:Int)) j=0:=fun n j=>by
   by_cases hj:j<n
   ·rw [ft (by simpa using hj)]; simp
   ·exact rf (by simp; omega)
  have sp:=Pp b hb (a.len-b.len+1) (row a) (List.replicate (a.len-b.len+1) 0) (by rw [ca]; omega) (by simp) (lc a) (fun j _=>hz _ j) (fun j hj=>by rw [rf]; rw [ca]; omega) (fun x hx=>by
   obtain rfl:=(List.mem_replicate.1 hx).2; omega)
  have hl1:∀(c:Nat) (x y:List Int),(dv p (inv p (rep b.ld)) (row b) c (x,y)).1.length=x.length∧(dv p (inv p (rep b.ld)) (row b) c (x,y)).2.length=y.length:=by
   intro c
   induction c with
   | zero=>exact fun x y=>⟨rfl,rfl⟩
   | succ c ih=>
    intro x y;rw [dv];obtain ⟨i1,i2⟩:=ih (ou p (cf x (c+(row b).length-1)*inv p (rep b.ld)%p) (row b) c (row b).length 0 x) (y.set c (cf x (c+(row b).length-1)*inv p (rep b.ld)%p));exact ⟨by rw [i1,ol],by rw [i2,bx]⟩
  obtain ⟨l2,l3⟩:=hl1 (a.len-b.len+1) (row a) (List.replicate (a.len-b.len+1) 0);generalize dv p (inv p (rep b.ld)) (row b) (a.len-b.len+1) (row a,List.replicate (a.len-b.len+1) 0)=r at *;obtain ⟨s1,s2,s3,s4⟩:=sp;have z0:gw p (List.replicate (a.len-b.len+1) 0)=0:=Pol.ext fun j=>by rw [lg,hz]; rfl
  rw [z0,Gq.zero_mul,Gq.add_zero,y7,Gq.add_comm] at s1
  have hrl:(gw p r.1).len<b.len:=by
   have:(gw p r.1).lt (b.len-1):=fun i hi=>by rw [lg,s2 i hi]; rfl
   have:=Pol.len_le this;omega
  obtain ⟨h1,h2⟩:=Pol.div_mod_eq s1.symm hrl;rw [h1,h2,←ru s3,←ru s4];have t1:=htr r.1 (by rw [l2,ca]; omega)
  have t2:=htr r.2 (by rw [l3,bt]; omega)
  have k1:r.1.take a.len=r.1:=aw (by rw [l2,ca]; omega)
  have k2:r.2.take (a.len-b.len+1)=r.2:=aw (by rw [l3,bt]; omega)
  rw [bt] at l3;rw [ca] at l2;generalize a.len-b.len+1=n at *;simp -implicitDefEqProofs [Z13,Z13_B,ap,e1,h3,w1,w2,w3,h8,e2,e3,l1,t1,t2,l2,l3,k1,k2]
end
end Pe

/-
 Functions of the program in the small form,printed by a program.
-/
namespace Pe
open Go
def Z2g_L0:Cd:=
 Irg [Ibn 9 .lss 8 7] [0,1,7,8,9]
 (.seq (Icd 9
 (.skip)
 (.exit 0))
 (.seq (.block 1 (Irg [Lw 10 8,
 Lw 5 10] [0,1,5,7,8]
 (Irg [Lw 11 1,
 Lw 12 0,
 Lw 13 5,
 Iia 14 Sx6 12 13,
 Ipx 15 14,
 Ll 16 (.call .flat [] (.t 11) [(.t 15)])] [0,1,5,7,8,16]
 (Icd 16
 (Irg [Lw 17 5,
 Lw 4 17] [4]
 (.ret))
 (.skip)))))
 (.region [Ibc 18 .add 8 1,
 Lw 8 18] [0,1,7,8])))
def Z2g_B:Cd:=
 Irg [Imc 4 0] [0,1]
 (.seq (Irg [Lw 6 0,
 Ien 7 6,
 Imc 8 0] [0,1,7,8]
 (.block 0 (.loop (Z2g_L0))))
 (Irg [Imc 4 (-1)] [4]
 (.ret)))
def Z2g:Fn:=
 { nparams:=2,nblk:=0,results:=[.tmp 4],body:=Z2g_B }
def Z2d_B:Cd:=
 Irg [Ll 4 (.mv (.c (.bool false)))] [0,1]
 (Irg [Lw 5 0,
 Lw 6 1,
 Ll 7 (Ofx F2g [(.t 5),(.t 6)]),
 Ibc 8 .geq 7 0,
 Lw 4 8] [4]
 (.ret))
def Z2d:Fn:=
 { nparams:=2,nblk:=0,results:=[.tmp 4],body:=Z2d_B }
def Z2f_L0:Cd:=
 Irg [Ibn 9 .lss 8 7] [0,1,7,8,9]
 (.seq (Icd 9
 (.skip)
 (.exit 0))
 (.seq (.block 1 (Irg [Lw 10 8,
 Lw 5 10] [0,1,5,7,8]
 (Irg [Lw 11 1,
 Lw 12 0,
 Lw 13 5,
 Iia 14 .leaf 12 13,
 Ilx 15 14,
 Ll 16 (.call .flat [] (.t 11) [(.t 15)])] [0,1,5,7,8,16]
 (Icd 16
 (Irg [Lw 17 5,
 Lw 4 17] [4]
 (.ret))
 (.skip)))))
 (.region [Ibc 18 .add 8 1,
 Lw 8 18] [0,1,7,8])))
def Z2f_B:Cd:=
 Irg [Imc 4 0] [0,1]
 (.seq (Irg [Lw 6 0,
 Ien 7 6,
 Imc 8 0] [0,1,7,8]
 (.block 0 (.loop (Z2f_L0))))
 (Irg [Imc 4 (-1)] [4]
 (.ret)))
def Z2f:Fn:=
 { nparams:=2,nblk:=0,results:=[.tmp 4],body:=Z2f_B }
def Z2c_B:Cd:=
 Irg [Ll 4 (.mv (.c (.bool false)))] [0,1]
 (Irg [Lw 5 0,
 Lw 6 1,
 Ll 7 (Ofx F2f [(.t 5),(.t 6)]),
 Ibc 8 .geq 7 0,
 Lw 4 8] [4]
 (.ret))
def Z2c:Fn:=
 { nparams:=2,nblk:=0,results:=[.tmp 4],body:=Z2c_B }
def Z2p_L0:Cd:=
 .seq (Irg [Lw 18 9,
 Lw 19 1,
 Ibn 20 .gtr 18 19,
 Lw 21 20,
 Lx 22 3 21 true,
 Lx 23 0 21 true,
 Lx 24 9 21 true,
 Lg 25 (.idxA none (.st [.leaf,.leaf]) (.t 23) (.t 24)) 21 true,
 Lg 26 (.load (.st [.leaf,.leaf]) (.t 25)) 21 true,
 Lx 27 0 21 true,
 Lx 28 9 21 true,
 Lg 29 (.bin .sub (.t 28) (Acx 1)) 21 true,
 Lg 30 (.idxA none (.st [.leaf,.leaf]) (.t 27) (.t 29)) 21 true,
 Lg 31 (.load (.st [.leaf,.leaf]) (.t 30)) 21 true,
 Lg 32 (.call .flat [] (.t 22) [(.t 26),(.t 31)]) 21 true,
 Lg 33 (.bin .lss (.t 32) (Acx 0)) 21 true,
 Ian 34 21 33] [0,1,2,3,8,9,34]
 (Icd 34
 (.skip)
 (.exit 2)))
 (.seq (.block 3 (.region [Lw 37 0,
 Lw 38 9,
 Lw 39 0,
 Lw 40 9,
 Ibc 41 .sub 40 1,
 Lw 42 0,
 Lw 43 9,
 Ibc 44 .sub 43 1,
 Ll 45 (.idxA none (.st [.leaf,.leaf]) (.t 42) (.t 44)),
 Ll 46 (.load (.st [.leaf,.leaf]) (.t 45)),
 Lw 47 0,
 Lw 48 9,
 Ll 49 (.idxA none (.st [.leaf,.leaf]) (.t 47) (.t 48)),
 Ll 50 (.load (.st [.leaf,.leaf]) (.t 49)),
 Ll 51 (.idxA none (.st [.leaf,.leaf]) (.t 37) (.t 38)),
 Ls (.store false (.st [.leaf,.leaf]) (.t 51) (.t 46)),
 Ll 52 (.idxA none (.st [.leaf,.leaf]) (.t 39) (.t 41)),
 Ls (.store false (.st [.leaf,.leaf]) (.t 52) (.t 50))] [0,1,2,3,8,9]))
 (.region [Lw 35 9,
 Ibc 36 .sub 35 1,
 Lw 9 36] [0,1,2,3,8,9]))
def Z2p_L1:Cd:=
 .seq (Irg [Lw 12 8,
 Lw 13 2,
 Ibn 14 .lss 12 13] [0,1,2,3,8,14]
 (Icd 14
 (.skip)
 (.exit 0)))
 (.seq (.block 1 (Irg [Lw 17 8,
 Lw 9 17] [0,1,2,3,8,9]
 (.block 2 (.loop (Z2p_L0)))))
 (.region [Lw 15 8,
 Ibc 16 .add 15 1,
 Lw 8 16] [0,1,2,3,8]))
def Z2p_B:Cd:=
 Irg [Lw 10 1,
 Ibc 11 .add 10 1,
 Lw 8 11] [0,1,2,3,8]
 (.block 0 (.loop (Z2p_L1)))
def Z2p:Fn:=
 { nparams:=4,nblk:=0,results:=[],body:=Z2p_B }
def Z29_B:Cd:=
 Irg [Imc 2 0] [0,2]
 (.seq (Irg [Lw 3 0,
 Ll 4 (.bin .geq (.t 3) (.c (.int .u64 4294967296)))] [0,2,4]
 (Icd 4
 (Irg [Lw 5 0,
 Ll 6 (.bin .shr (.t 5) (.c (.int .u64 32))),
 Lw 0 6] [0]
 (.region [Imc 2 32] [0,2]))
 (.skip)))
 (.seq (Irg [Lw 7 0,
 Ll 8 (.bin .geq (.t 7) (.c (.int .u64 65536)))] [0,2,8]
 (Icd 8
 (Irg [Lw 9 0,
 Ll 10 (.bin .shr (.t 9) (.c (.int .u64 16))),
 Lw 0 10] [0,2]
 (.region [Lw 11 2,
 Ibc 12 .add 11 16,
 Lw 2 12] [0,2]))
 (.skip)))
 (.seq (Irg [Lw 13 0,
 Ll 14 (.bin .geq (.t 13) (.c (.int .u64 256)))] [0,2,14]
 (Icd 14
 (Irg [Lw 15 0,
 Ll 16 (.bin .shr (.t 15) (.c (.int .u64 8))),
 Lw 0 16] [0,2]
 (.region [Lw 17 2,
 Ibc 18 .add 17 8,
 Lw 2 18] [0,2]))
 (.skip)))
 (Irg [Lw 19 2,
 Lw 20 0,
 Icv 21 .u8 20,
 Ll 22 (.idx none .leaf (.c (.str (ByteArray.mk #[0,1,2,2,3,3,3,3,4,4,4,4,4,4,4,4,5,5,5,5,5,5,5,5,5,5,5,5,5,5,5,5,6,6,6,6,6,6,6,6,6,6,6,6,6,6,6,6,6,6,6,6,6,6,6,6,6,6,6,6,6,6,6,6,7,7,7,7,7,7,7,7,7,7,7,7,7,7,7,7,7,7,7,7,7,7,7,7,7,7,7,7,7,7,7,7,7,7,7,7,7,7,7,7,7,7,7,7,7,7,7,7,7,7,7,7,7,7,7,7,7,7,7,7,7,7,7,7,8,8,8,8,8,8,8,8,8,8,8,8,8,8,8,8,8,8,8,8,8,8,8,8,8,8,8,8,8,8,8,8,8,8,8,8,8,8,8,8,8,8,8,8,8,8,8,8,8,8,8,8,8,8,8,8,8,8,8,8,8,8,8,8,8,8,8,8,8,8,8,8,8,8,8,8,8,8,8,8,8,8,8,8,8,8,8,8,8,8,8,8,8,8,8,8,8,8,8,8,8,8,8,8,8,8,8,8,8,8,8,8,8,8,8,8,8,8,8,8,8,8,8,8,8,8,8,8]))) (.t 21)),
 Icv 23 .i64 22,
 Ibn 24 .add 19 23,
 Lw 2 24] [2]
 (.ret)))))
def Z29:Fn:=
 { nparams:=1,nblk:=0,results:=[.tmp 2],body:=Z29_B }
def Z27_B:Cd:=
 Irg [Imc 2 0] [0]
 (.seq (.cond (.c (.bool false))
 (Irg [Lw 3 0,
 Icv 4 .u32 3,
 Ll 5 (Ofx F28 [(.t 4)]),
 Lw 2 5] [2]
 (.ret))
 (.skip))
 (Irg [Lw 6 0,
 Ll 7 (Ofx F29 [(.t 6)]),
 Lw 2 7] [2]
 (.ret)))
def Z27:Fn:=
 { nparams:=1,nblk:=0,results:=[.tmp 2],body:=Z27_B }
def Z34_L0:Cd:=
 .block 1 (Irg [Lw 21 2,
 Lw 22 1,
 Ibn 23 .sub 21 22,
 Lw 12 23] [0,1,2,3,4,10,11,12]
 (.seq (Irg [Lw 24 12,
 Ibc 25 .leq 24 12] [0,1,2,3,4,10,11,12,25]
 (Icd 25
 (Irg [Lw 26 0,
 Lw 27 1,
 Lw 28 2,
 Lw 29 4,
 Ll 30 (.call .heap [] (.f F2p) [(.t 26),(.t 27),(.t 28),(.t 29)])] []
 (.ret))
 (.skip)))
 (.seq (Irg [Lw 31 3,
 Ibc 32 .eql 31 0] [0,1,2,3,4,10,11,12,32]
 (Icd 32
 (Irg [Lw 33 0,
 Lw 34 1,
 Lw 35 2,
 Lw 36 4,
 Ll 37 (.call .heap [] (.f F2n) [(.t 33),(.t 34),(.t 35),(.t 36)])] []
 (.ret))
 (.skip)))
 (.seq (Irg [Lw 38 10,
 Ll 39 (.un .not (.t 38))] [0,1,2,3,4,10,11,12,39]
 (Icd 39
 (Irg [Lw 40 0,
 Lw 41 1,
 Lw 42 2,
 Lw 43 4,
 Ll 44 (.call .heap [] (.f F2j) [(.t 40),(.t 41),(.t 42),(.t 43)])] [0,1,2,3,4,10,11,12]
 (.region [Lw 45 3,
 Ibc 46 .sub 45 1,
 Lw 3 46] [0,1,2,3,4,10,11,12]))
 (.skip)))
 (Irg [Lw 48 0,
 Lw 49 1,
 Lw 50 2,
 Lw 51 4,
 Ll 52 (Ofx F2l [(.t 48),(.t 49),(.t 50),(.t 51)]),
 Lw 47 52,
 Iex 53 47 0,
 Iex 54 47 1,
 Lw 13 53,
 Lw 14 54] [0,1,2,3,4,10,11,12,13,14]
 (.seq (Irg [Lw 55 14,
 Ibc 56 .eql 55 2] [0,1,2,3,4,10,11,12,13,14,56]
 (Icd 56
 (Irg [Lw 57 0,
 Lw 58 1,
 Lw 59 2,
 Lw 60 4,
 Ll 61 (.call .heap [] (.f F36) [(.t 57),(.t 58),(.t 59),(.t 60)])] [0,1,2,3,4,10,11,12,13]
 (Irg [Lw 62 2,
 Ibc 63 .sub 62 1,
 Lw 64 13,
 Lw 65 1,
 Ibn 66 .sub 64 65,
 Ibn 67 .sub 63 66,
 Lw 13 67] [0,1,2,3,4,10,11,12,13]
 (.region [Imc 14 1] [0,1,2,3,4,10,11,12,13,14])))
 (.skip)))
 (.seq (Irg [Lw 68 10,
 Lw 69 68,
 Lx 70 11 69 true,
 Ian 71 69 70,
 Lw 72 71,
 Lx 73 14 72 true,
 Lg 74 (.bin .eql (.t 73) (Acx 1)) 72 true,
 Ian 75 72 74] [0,1,2,3,4,10,11,12,13,75]
 (Icd 75
 (Irg [Lw 76 0,
 Lw 77 1,
 Lw 78 2,
 Lw 79 4,
 Ll 80 (.call .heap [] (.f F2y) [(.t 76),(.t 77),(.t 78),(.t 79)])] [0,1,2,3,4,10,11,12,13,80]
 (Icd 80
 (.ret)
 (.skip)))
 (.skip)))
 (.seq (Irg [Lw 81 1,
 Ibc 82 .gtr 81 0,
 Lw 83 82,
 Lx 84 4 83 true,
 Lx 85 0 83 true,
 Lx 86 1 83 true,
 Lg 87 (.bin .sub (.t 86) (Acx 1)) 83 true,
 Lg 88 (.idxA none (.st [.leaf,.leaf]) (.t 85) (.t 87)) 83 true,
 Lg 89 (.load (.st [.leaf,.leaf]) (.t 88)) 83 true,
 Lx 90 0 83 true,
 Lx 91 13 83 true,
 Lg 92 (.idxA none (.st [.leaf,.leaf]) (.t 90) (.t 91)) 83 true,
 Lg 93 (.load (.st [.leaf,.leaf]) (.t 92)) 83 true,
 Lg 94 (.call .flat [] (.t 84) [(.t 89),(.t 93)]) 83 true,
 Lg 95 (.bin .lss (.t 94) (Acx 0)) 83 true,
 Lg 96 (.un .not (.t 95)) 83 true,
 Ian 97 83 96] [0,1,2,3,4,10,11,12,13,97]
 (Icd 97
 (Irg [Lw 98 0,
 Lw 99 1,
 Lw 100 2,
 Lw 101 13,
 Lw 102 4,
 Ll 103 (.call .heap [] (.f F32) [(.t 98),(.t 99),(.t 100),(.t 101),(.t 102)]),
 Lw 15 103] [0,2,3,4,10,11,15]
 (Irg [Lw 104 15,
 Lw 1 104] [0,1,2,3,4,10,11]
 (.exit 1)))
 (.skip)))
 (Irg [Lw 106 0,
 Lw 107 1,
 Lw 108 2,
 Lw 109 13,
 Lw 110 4,
 Ll 111 (.call .heap [] (.f F30) [(.t 106),(.t 107),(.t 108),(.t 109),(.t 110)]),
 Lw 105 111,
 Iex 112 105 0,
 Iex 113 105 1,
 Lw 16 112,
 Lw 17 113] [0,1,2,3,4,12,16,17]
 (Irg [Lw 114 17,
 Lw 11 114] [0,1,2,3,4,11,12,16]
 (Irg [Lw 115 16,
 Lw 116 1,
 Ibn 117 .sub 115 116,
 Lw 118 2,
 Lw 119 16,
 Ibn 120 .sub 118 119,
 Lw 18 117,
 Lw 19 120] [0,1,2,3,4,11,12,16,18,19]
 (Irg [Lw 121 12,
 Ibc 122 .quo 121 8,
 Lw 20 122] [0,1,2,3,4,11,16,18,19,20]
 (Irg [Lw 123 18,
 Lw 124 19,
 Ibn 125 .lss 123 124] [0,1,2,3,4,11,16,18,19,20,125]
 (Icd 125
 (Irg [Lw 126 18,
 Lw 127 20,
 Ibn 128 .geq 126 127,
 Lw 10 128] [0,1,2,3,4,10,11,16]
 (Irg [Lw 129 0,
 Lw 130 1,
 Lw 131 16,
 Lw 132 3,
 Lw 133 4,
 Ll 134 (.call .heap [] (.f F34) [(.t 129),(.t 130),(.t 131),(.t 132),(.t 133)])] [0,2,3,4,10,11,16]
 (.region [Lw 135 16,
 Ibc 136 .add 135 1,
 Lw 1 136] [0,1,2,3,4,10,11])))
 (Irg [Lw 137 19,
 Lw 138 20,
 Ibn 139 .geq 137 138,
 Lw 10 139] [0,1,2,3,4,10,11,16]
 (Irg [Lw 140 0,
 Lw 141 16,
 Ibc 142 .add 141 1,
 Lw 143 2,
 Lw 144 3,
 Lw 145 4,
 Ll 146 (.call .heap [] (.f F34) [(.t 140),(.t 142),(.t 143),(.t 144),(.t 145)])] [0,1,3,4,10,11,16]
 (.region [Lw 147 16,
 Lw 2 147] [0,1,2,3,4,10,11])))))))))))))))))
def Z34_B:Cd:=
 Irg [Ll 10 (.mv (.c (.bool true)))] [0,1,2,3,4,10]
 (Irg [Ll 11 (.mv (.c (.bool true)))] [0,1,2,3,4,10,11]
 (.block 0 (.loop (Z34_L0))))
def Z34:Fn:=
 { nparams:=5,nblk:=0,results:=[],body:=Z34_B }
def Z2h_B:Cd:=
 Irg [Lw 5 0,
 Ien 6 5,
 Lw 4 6] [0,1,4]
 (.region [Lw 7 0,
 Lw 8 4,
 Lw 9 4,
 Icv 10 .u64 9,
 Ll 11 (Ofx F27 [(.t 10)]),
 Lw 12 1,
 Ll 13 (.call .heap [] (.f F34) [(.t 7),(Acx 0),(.t 8),(.t 11),(.t 12)])] [])
def Z2h:Fn:=
 { nparams:=2,nblk:=0,results:=[],body:=Z2h_B }
def Z2_B:Cd:=
 Irg [Ll 2 (.mv (.c (.bool false)))] [0]
 (Irg [Lw 3 0,
 Lw 4 0,
 Ibn 5 .neq 3 4,
 Lw 2 5] [2]
 (.ret))
def Z2:Fn:=
 { nparams:=1,nblk:=0,results:=[.tmp 2],body:=Z2_B }
def Z0_B:Cd:=
 Irg [Imc 4 0] [0,1]
 (Irg [Lw 7 0,
 Ll 8 (Ofx F2 [(.t 7)]),
 Lw 5 8] [0,1,5]
 (Irg [Lw 9 1,
 Ll 10 (Ofx F2 [(.t 9)]),
 Lw 6 10] [0,1,5,6]
 (.seq (Irg [Lw 11 5] [0,1,6,11]
 (Icd 11
 (.seq (Irg [Lw 12 6] [12]
 (Icd 12
 (Irg [Imc 4 0] [4]
 (.ret))
 (.skip)))
 (Irg [Imc 4 (-1)] [4]
 (.ret)))
 (.skip)))
 (.seq (Irg [Lw 13 6] [0,1,13]
 (Icd 13
 (Irg [Imc 4 1] [4]
 (.ret))
 (.skip)))
 (.seq (Irg [Lw 14 0,
 Lw 15 1,
 Ibn 16 .lss 14 15] [0,1,16]
 (Icd 16
 (Irg [Imc 4 (-1)] [4]
 (.ret))
 (.skip)))
 (.seq (Irg [Lw 17 0,
 Lw 18 1,
 Ibn 19 .gtr 17 18] [19]
 (Icd 19
 (Irg [Imc 4 1] [4]
 (.ret))
 (.skip)))
 (Irg [Imc 4 0] [4]
 (.ret))))))))
def Z0:Fn:=
 { nparams:=2,nblk:=0,results:=[.tmp 4],body:=Z0_B }
def Z3_B:Cd:=
 Irg [Ll 2 (.mv (.c (.bool false)))] [0]
 (Irg [Lw 3 0,
 Lw 4 0,
 Ibn 5 .neq 3 4,
 Lw 2 5] [2]
 (.ret))
def Z3:Fn:=
 { nparams:=1,nblk:=0,results:=[.tmp 2],body:=Z3_B }
def Z1_B:Cd:=
 Irg [Imc 4 0] [0,1]
 (Irg [Lw 7 0,
 Ll 8 (Ofx F3 [(.t 7)]),
 Lw 5 8] [0,1,5]
 (Irg [Lw 9 1,
 Ll 10 (Ofx F3 [(.t 9)]),
 Lw 6 10] [0,1,5,6]
 (.seq (Irg [Lw 11 5] [0,1,6,11]
 (Icd 11
 (.seq (Irg [Lw 12 6] [12]
 (Icd 12
 (Irg [Imc 4 0] [4]
 (.ret))
 (.skip)))
 (Irg [Imc 4 (-1)] [4]
 (.ret)))
 (.skip)))
 (.seq (Irg [Lw 13 6] [0,1,13]
 (Icd 13
 (Irg [Imc 4 1] [4]
 (.ret))
 (.skip)))
 (.seq (Irg [Lw 14 0,
 Lw 15 1,
 Ibn 16 .lss 14 15] [0,1,16]
 (Icd 16
 (Irg [Imc 4 (-1)] [4]
 (.ret))
 (.skip)))
 (.seq (Irg [Lw 17 0,
 Lw 18 1,
 Ibn 19 .gtr 17 18] [19]
 (Icd 19
 (Irg [Imc 4 1] [4]
 (.ret))
 (.skip)))
 (Irg [Imc 4 0] [4]
 (.ret))))))))
def Z1:Fn:=
 { nparams:=2,nblk:=0,results:=[.tmp 4],body:=Z1_B }
def ir_slices_insertionSortCmpFunc_impl_row_L0:Cd:=
 .seq (Irg [Lw 18 9,
 Lw 19 1,
 Ibn 20 .gtr 18 19,
 Lw 21 20,
 Lx 22 3 21 true,
 Lx 23 0 21 true,
 Lx 24 9 21 true,
 Lg 25 (.idxA none .leaf (.t 23) (.t 24)) 21 true,
 Lg 26 (.load .leaf (.t 25)) 21 true,
 Lx 27 0 21 true,
 Lx 28 9 21 true,
 Lg 29 (.bin .sub (.t 28) (Acx 1)) 21 true,
 Lg 30 (.idxA none .leaf (.t 27) (.t 29)) 21 true,
 Lg 31 (.load .leaf (.t 30)) 21 true,
 Lg 32 (.call .flat [] (.t 22) [(.t 26),(.t 31)]) 21 true,
 Lg 33 (.bin .lss (.t 32) (Acx 0)) 21 true,
 Ian 34 21 33] [0,1,2,3,8,9,34]
 (Icd 34
 (.skip)
 (.exit 2)))
 (.seq (.block 3 (.region [Lw 37 0,
 Lw 38 9,
 Lw 39 0,
 Lw 40 9,
 Ibc 41 .sub 40 1,
 Lw 42 0,
 Lw 43 9,
 Ibc 44 .sub 43 1,
 Iia 45 .leaf 42 44,
 Ilx 46 45,
 Lw 47 0,
 Lw 48 9,
 Iia 49 .leaf 47 48,
 Ilx 50 49,
 Iia 51 .leaf 37 38,
 Ls (.store false .leaf (.t 51) (.t 46)),
 Iia 52 .leaf 39 41,
 Ls (.store false .leaf (.t 52) (.t 50))] [0,1,2,3,8,9]))
 (.region [Lw 35 9,
 Ibc 36 .sub 35 1,
 Lw 9 36] [0,1,2,3,8,9]))
def ir_slices_insertionSortCmpFunc_impl_row_L1:Cd:=
 .seq (Irg [Lw 12 8,
 Lw 13 2,
 Ibn 14 .lss 12 13] [0,1,2,3,8,14]
 (Icd 14
 (.skip)
 (.exit 0)))
 (.seq (.block 1 (Irg [Lw 17 8,
 Lw 9 17] [0,1,2,3,8,9]
 (.block 2 (.loop (ir_slices_insertionSortCmpFunc_impl_row_L0)))))
 (.region [Lw 15 8,
 Ibc 16 .add 15 1,
 Lw 8 16] [0,1,2,3,8]))
def ir_slices_insertionSortCmpFunc_impl_row_B:Cd:=
 Irg [Lw 10 1,
 Ibc 11 .add 10 1,
 Lw 8 11] [0,1,2,3,8]
 (.block 0 (.loop (ir_slices_insertionSortCmpFunc_impl_row_L1)))
def Z2q:Fn:=
 { nparams:=4,nblk:=0,results:=[],body:=ir_slices_insertionSortCmpFunc_impl_row_B }
def ir_slices_pdqsortCmpFunc_impl_row_L0:Cd:=
 .block 1 (Irg [Lw 21 2,
 Lw 22 1,
 Ibn 23 .sub 21 22,
 Lw 12 23] [0,1,2,3,4,10,11,12]
 (.seq (Irg [Lw 24 12,
 Ibc 25 .leq 24 12] [0,1,2,3,4,10,11,12,25]
 (Icd 25
 (Irg [Lw 26 0,
 Lw 27 1,
 Lw 28 2,
 Lw 29 4,
 Ll 30 (.call .heap [] (.f F2q) [(.t 26),(.t 27),(.t 28),(.t 29)])] []
 (.ret))
 (.skip)))
 (.seq (Irg [Lw 31 3,
 Ibc 32 .eql 31 0] [0,1,2,3,4,10,11,12,32]
 (Icd 32
 (Irg [Lw 33 0,
 Lw 34 1,
 Lw 35 2,
 Lw 36 4,
 Ll 37 (.call .heap [] (.f F2o) [(.t 33),(.t 34),(.t 35),(.t 36)])] []
 (.ret))
 (.skip)))
 (.seq (Irg [Lw 38 10,
 Ll 39 (.un .not (.t 38))] [0,1,2,3,4,10,11,12,39]
 (Icd 39
 (Irg [Lw 40 0,
 Lw 41 1,
 Lw 42 2,
 Lw 43 4,
 Ll 44 (.call .heap [] (.f F2k) [(.t 40),(.t 41),(.t 42),(.t 43)])] [0,1,2,3,4,10,11,12]
 (.region [Lw 45 3,
 Ibc 46 .sub 45 1,
 Lw 3 46] [0,1,2,3,4,10,11,12]))
 (.skip)))
 (Irg [Lw 48 0,
 Lw 49 1,
 Lw 50 2,
 Lw 51 4,
 Ll 52 (Ofx F2m [(.t 48),(.t 49),(.t 50),(.t 51)]),
 Lw 47 52,
 Iex 53 47 0,
 Iex 54 47 1,
 Lw 13 53,
 Lw 14 54] [0,1,2,3,4,10,11,12,13,14]
 (.seq (Irg [Lw 55 14,
 Ibc 56 .eql 55 2] [0,1,2,3,4,10,11,12,13,14,56]
 (Icd 56
 (Irg [Lw 57 0,
 Lw 58 1,
 Lw 59 2,
 Lw 60 4,
 Ll 61 (.call .heap [] (.f F37) [(.t 57),(.t 58),(.t 59),(.t 60)])] [0,1,2,3,4,10,11,12,13]
 (Irg [Lw 62 2,
 Ibc 63 .sub 62 1,
 Lw 64 13,
 Lw 65 1,
 Ibn 66 .sub 64 65,
 Ibn 67 .sub 63 66,
 Lw 13 67] [0,1,2,3,4,10,11,12,13]
 (.region [Imc 14 1] [0,1,2,3,4,10,11,12,13,14])))
 (.skip)))
 (.seq (Irg [Lw 68 10,
 Lw 69 68,
 Lx 70 11 69 true,
 Ian 71 69 70,
 Lw 72 71,
 Lx 73 14 72 true,
 Lg 74 (.bin .eql (.t 73) (Acx 1)) 72 true,
 Ian 75 72 74] [0,1,2,3,4,10,11,12,13,75]
 (Icd 75
 (Irg [Lw 76 0,
 Lw 77 1,
 Lw 78 2,
 Lw 79 4,
 Ll 80 (.call .heap [] (.f F2z) [(.t 76),(.t 77),(.t 78),(.t 79)])] [0,1,2,3,4,10,11,12,13,80]
 (Icd 80
 (.ret)
 (.skip)))
 (.skip)))
 (.seq (Irg [Lw 81 1,
 Ibc 82 .gtr 81 0,
 Lw 83 82,
 Lx 84 4 83 true,
 Lx 85 0 83 true,
 Lx 86 1 83 true,
 Lg 87 (.bin .sub (.t 86) (Acx 1)) 83 true,
 Lg 88 (.idxA none .leaf (.t 85) (.t 87)) 83 true,
 Lg 89 (.load .leaf (.t 88)) 83 true,
 Lx 90 0 83 true,
 Lx 91 13 83 true,
 Lg 92 (.idxA none .leaf (.t 90) (.t 91)) 83 true,
 Lg 93 (.load .leaf (.t 92)) 83 true,
 Lg 94 (.call .flat [] (.t 84) [(.t 89),(.t 93)]) 83 true,
 Lg 95 (.bin .lss (.t 94) (Acx 0)) 83 true,
 Lg 96 (.un .not (.t 95)) 83 true,
 Ian 97 83 96] [0,1,2,3,4,10,11,12,13,97]
 (Icd 97
 (Irg [Lw 98 0,
 Lw 99 1,
 Lw 100 2,
 Lw 101 13,
 Lw 102 4,
 Ll 103 (.call .heap [] (.f F33) [(.t 98),(.t 99),(.t 100),(.t 101),(.t 102)]),
 Lw 15 103] [0,2,3,4,10,11,15]
 (Irg [Lw 104 15,
 Lw 1 104] [0,1,2,3,4,10,11]
 (.exit 1)))
 (.skip)))
 (Irg [Lw 106 0,
 Lw 107 1,
 Lw 108 2,
 Lw 109 13,
 Lw 110 4,
 Ll 111 (.call .heap [] (.f F31) [(.t 106),(.t 107),(.t 108),(.t 109),(.t 110)]),
 Lw 105 111,
 Iex 112 105 0,
 Iex 113 105 1,
 Lw 16 112,
 Lw 17 113] [0,1,2,3,4,12,16,17]
 (Irg [Lw 114 17,
 Lw 11 114] [0,1,2,3,4,11,12,16]
 (Irg [Lw 115 16,
 Lw 116 1,
 Ibn 117 .sub 115 116,
 Lw 118 2,
 Lw 119 16,
 Ibn 120 .sub 118 119,
 Lw 18 117,
 Lw 19 120] [0,1,2,3,4,11,12,16,18,19]
 (Irg [Lw 121 12,
 Ibc 122 .quo 121 8,
 Lw 20 122] [0,1,2,3,4,11,16,18,19,20]
 (Irg [Lw 123 18,
 Lw 124 19,
 Ibn 125 .lss 123 124] [0,1,2,3,4,11,16,18,19,20,125]
 (Icd 125
 (Irg [Lw 126 18,
 Lw 127 20,
 Ibn 128 .geq 126 127,
 Lw 10 128] [0,1,2,3,4,10,11,16]
 (Irg [Lw 129 0,
 Lw 130 1,
 Lw 131 16,
 Lw 132 3,
 Lw 133 4,
 Ll 134 (.call .heap [] (.f F35) [(.t 129),(.t 130),(.t 131),(.t 132),(.t 133)])] [0,2,3,4,10,11,16]
 (.region [Lw 135 16,
 Ibc 136 .add 135 1,
 Lw 1 136] [0,1,2,3,4,10,11])))
 (Irg [Lw 137 19,
 Lw 138 20,
 Ibn 139 .geq 137 138,
 Lw 10 139] [0,1,2,3,4,10,11,16]
 (Irg [Lw 140 0,
 Lw 141 16,
 Ibc 142 .add 141 1,
 Lw 143 2,
 Lw 144 3,
 Lw 145 4,
 Ll 146 (.call .heap [] (.f F35) [(.t 140),(.t 142),(.t 143),(.t 144),(.t 145)])] [0,1,3,4,10,11,16]
 (.region [Lw 147 16,
 Lw 2 147] [0,1,2,3,4,10,11])))))))))))))))))
def ir_slices_pdqsortCmpFunc_impl_row_B:Cd:=
 Irg [Ll 10 (.mv (.c (.bool true)))] [0,1,2,3,4,10]
 (Irg [Ll 11 (.mv (.c (.bool true)))] [0,1,2,3,4,10,11]
 (.block 0 (.loop (ir_slices_pdqsortCmpFunc_impl_row_L0))))
def Z35:Fn:=
 { nparams:=5,nblk:=0,results:=[],body:=ir_slices_pdqsortCmpFunc_impl_row_B }
def ir_slices_SortFunc_impl_row_impl_row_B:Cd:=
 Irg [Lw 5 0,
 Ien 6 5,
 Lw 4 6] [0,1,4]
 (.region [Lw 7 0,
 Lw 8 4,
 Lw 9 4,
 Icv 10 .u64 9,
 Ll 11 (Ofx F27 [(.t 10)]),
 Lw 12 1,
 Ll 13 (.call .heap [] (.f F35) [(.t 7),(Acx 0),(.t 8),(.t 11),(.t 12)])] [])
def Z2i:Fn:=
 { nparams:=2,nblk:=0,results:=[],body:=ir_slices_SortFunc_impl_row_impl_row_B }
def Z2b_L0:Cd:=
 Irg [Ibn 12 .lss 11 10] [0,3,9,10,11,12]
 (.seq (Icd 12
 (.skip)
 (.exit 0))
 (.seq (.block 1 (Irg [Iia 13 .leaf 9 11,
 Ilx 14 13,
 Lw 5 14] [0,3,5,9,10,11]
 (Irg [Lw 15 3,
 Lw 16 5,
 Ien 17 16,
 Ibn 18 .add 15 17,
 Lw 3 18] [0,3,9,10,11]
 (Irg [Lw 19 3,
 Ibc 20 .lss 19 0] [0,3,9,10,11,20]
 (Icd 20
 (.region [Ll 21 (.fail),
 Ls (.fail)] [0,3,9,10,11])
 (.skip))))))
 (.region [Ibc 22 .add 11 1,
 Lw 11 22] [0,3,9,10,11])))
def Z2b_L1:Cd:=
 Irg [Ibn 28 .lss 27 26] [6,25,26,27,28]
 (.seq (Icd 28
 (.skip)
 (.exit 2))
 (.seq (.block 3 (Irg [Iia 29 .leaf 25 27,
 Ilx 30 29,
 Lw 8 30] [6,8,25,26,27]
 (.region [Lw 31 6,
 Lw 32 8,
 Ll 33 (.append Sx6 1 64 (.t 31) (.t 32)),
 Lw 6 33] [6,25,26,27])))
 (.region [Ibc 34 .add 27 1,
 Lw 27 34] [6,25,26,27])))
def Z2b_B:Cd:=
 Irg [Ll 2 (.mv (.c (.sl Sx6 [])))] [0]
 (Irg [Imc 3 0] [0,3]
 (.seq (Irg [Lw 9 0,
 Ien 10 9,
 Imc 11 0] [0,3,9,10,11]
 (.block 0 (.loop (Z2b_L0))))
 (Irg [Lw 23 3,
 Ll 24 (.call .heap [0] (.f F2e) [(.c (.nils Sx6)),(.t 23)]),
 Lw 6 24] [0,6]
 (.seq (Irg [Lw 25 0,
 Ien 26 25,
 Imc 27 0] [6,25,26,27]
 (.block 2 (.loop (Z2b_L1))))
 (Irg [Lw 35 6,
 Lw 2 35] [2]
 (.ret))))))
def Z2b:Fn:=
 { nparams:=1,nblk:=2,results:=[.tmp 2],body:=Z2b_B }
end Pe
namespace Pe
open Go Gq
variable {T:Nat→Option Fn} {A:am}
def A2 (ds:List D):Prop:=∀x∈ds,x.isTup=false
theorem oo (h:Heap):∀{ds:List D},A2 ds→py h (ds.map .d)=some ds
 | [],_=>rfl
 | d::ds,hn=>by
  have h1:d.isTup=false:=hn d (by simp)
  have h2:=oo h (ds:=ds) fun x hx=>hn x (by simp [hx])
  simp [h1,h2]
theorem we (h:Heap):∀{a b:List V} {x y:List D},py h a=some x→py h b=some y→py h (a++b)=some (x++y)
 | [],b,x,y,h1,h2=>by simp at h1; subst h1; simpa using h2
 | v::a,b,x,y,h1,h2=>by
  simp only [a3q] at h1;obtain ⟨d,hd,h1⟩:=aa.1 h1;simp only [ad6] at h1
  split at h1
  ·cases h1
  ·rename_i hn
   obtain ⟨z,hz,rfl⟩:=ae.1 h1;have:=we h hz h2;simp [hd,hn,this]
theorem Jf {O:am} {np:Nat} {h:Heap} {news:List Nat} {g:Nat} {first caps:List D} {x r:D} (h1:A2 first) (h2:A2 caps) (hx:x.isTup=false) (ha:ask O g (first++[x]++caps)=some r) (hr:r.flat=true) :
 El O np h .flat news (g,first.map .d,caps.map .d) [.d x]=some (.d r,h):=by
 have e:py h (first.map .d++[.d x]++caps.map .d)=some (first++[x]++caps):=
  we h (we h (oo h h1) (oo h (ds:=[x]) (by intro y hy; simp at hy; subst hy; exact hx))) (oo h h2)
 rw [Cz,e,ah,L3,ha,ah,Gz,hr,if_pos rfl]
def xk (P:D→Bool):List D→Nat→Int
 | [],_=>-1
 | d::ds,i=>if P d then i else xk P ds (i+1)
theorem S2 (P:D→Bool):∀(ds:List D) (i:Nat),(0≤xk P ds i)↔ds.any P=true
 | [],i=>by simp [xk]
 | d::ds,i=>by
  rw [xk];cases h:P d
  ·simp [h,S2 P ds (i+1)]
  ·simp [h]
def vp (O:am) (g:Nat) (first caps cs:List D) (P:D→Bool):Prop:=A2 first∧A2 caps∧A2 cs∧∀x∈cs,ask O g (first++[x]++caps)=some (D.bool (P x))
def Hv (s:Sh) (cs:List D):Prop:=∀x∈cs,x.sh=s
theorem Ux {O:am} {g:Nat} {first caps cs:List D} {P:D→Bool} (hF:vp O g first caps cs P) (hs:Hv .leaf cs) (hl:cs.length<2000000):∀(m i:Nat),i+m=cs.length →
 dn O 0 (.loop Z2f_L0) ⟨[(0,.d (.sl .leaf cs)),(1,.d (.fn g first caps)),(7,(.d (.int .i64 cs.length))),(8,(.d (.int .i64 i)))],[]⟩ =
  if (cs.drop i).any P then some (.ret,⟨[(4,(.d (.int .i64 (xk P (cs.drop i) i))))],[]⟩) else some (.exit 0,⟨[(0,.d (.sl .leaf cs)),(1,.d (.fn g first caps)),(7,(.d (.int .i64 cs.length))),(8,(.d (.int .i64 cs.length))),(9,(.d (.bool false)))],[]⟩)
 | 0,i,hi=>by
  have:i=cs.length:=by omega
  subst this;rw [fj];exact bu (by simp -implicitDefEqProofs [Z2f_L0,ap])
 | m+1,i,hi=>by
  have hlt:i<cs.length:=by omega
  have h1:(i:Int)<cs.length:=by omega
  have hx:cs[i]? = some cs[i]:=ac hlt;have hm:cs[i]∈cs:=az hlt;have hc:=Jf (O:=O) (np:=0) (h:=[]) (news:=[]) hF.1 hF.2.1 (hF.2.2.1 _ hm) (hF.2.2.2 _ hm) rfl;have hsh:=hs _ hm;have w4:=wi i;rw [c8 hlt];cases hp:P cs[i]
  ·rw [hp] at hc
   refine bn (s1:=⟨[(0,.d (.sl .leaf cs)),(1,.d (.fn g first caps)),(7,(.d (.int .i64 cs.length))),(8,(.d (.int .i64 ((i+1:Nat)))))],[]⟩) ?_ ?_
   ·simp -implicitDefEqProofs [Z2f_L0,ap,h1,hx,hsh,hc,w4]
   ·rw [Ux hF hs hl m (i+1) (by omega)]
    simp only [oz,hp,Bool.false_or,xk,b5,if_false]
  ·rw [hp] at hc
   have e:xk P (cs[i]::cs.drop (i+1)) i=i:=by simp [xk,hp]
   rw [e];simp only [oz,hp,Bool.true_or,if_true];exact u5 (by simp -implicitDefEqProofs [Z2f_L0,ap,h1,hx,hsh,hc])
theorem Ud {O:am} {g:Nat} {first caps cs:List D} {P:D→Bool} (hF:vp O g first caps cs P) (hs:Hv (.arr 64 .leaf) cs) (hl:cs.length<2000000):∀(m i:Nat),i+m=cs.length →
 dn O 0 (.loop Z2g_L0) ⟨[(0,.d (.sl (.arr 64 .leaf) cs)),(1,.d (.fn g first caps)),(7,(.d (.int .i64 cs.length))),(8,(.d (.int .i64 i)))],[]⟩ =
  if (cs.drop i).any P then some (.ret,⟨[(4,(.d (.int .i64 (xk P (cs.drop i) i))))],[]⟩) else some (.exit 0,⟨[(0,.d (.sl (.arr 64 .leaf) cs)),(1,.d (.fn g first caps)),(7,(.d (.int .i64 cs.length))),(8,(.d (.int .i64 cs.length))),(9,(.d (.bool false)))],[]⟩)
 | 0,i,hi=>by
  have:i=cs.length:=by omega
  subst this;rw [fj];exact bu (by simp -implicitDefEqProofs [Z2g_L0,ap])
 | m+1,i,hi=>by
  have hlt:i<cs.length:=by omega
  have h1:(i:Int)<cs.length:=by omega
  have hx:cs[i]? = some cs[i]:=ac hlt;have hm:cs[i]∈cs:=az hlt;have hc:=Jf (O:=O) (np:=0) (h:=[]) (news:=[]) hF.1 hF.2.1 (hF.2.2.1 _ hm) (hF.2.2.2 _ hm) rfl;have hsh:=hs _ hm;have w4:=wi i;rw [c8 hlt];cases hp:P cs[i]
  ·rw [hp] at hc
   refine bn (s1:=⟨[(0,.d (.sl (.arr 64 .leaf) cs)),(1,.d (.fn g first caps)),(7,(.d (.int .i64 cs.length))),(8,(.d (.int .i64 ((i+1:Nat)))))],[]⟩) ?_ ?_
   ·simp -implicitDefEqProofs [Z2g_L0,ap,h1,hx,hsh,hc,w4]
   ·rw [Ud hF hs hl m (i+1) (by omega)]
    simp only [oz,hp,Bool.false_or,xk,b5,if_false]
  ·rw [hp] at hc
   have e:xk P (cs[i]::cs.drop (i+1)) i=i:=by simp [xk,hp]
   rw [e];simp only [oz,hp,Bool.true_or,if_true];exact u5 (by simp -implicitDefEqProofs [Z2g_L0,ap,h1,hx,hsh,hc])
def v6 (O:am) (F:Nat) (s:Sh):Prop:=∀(g:Nat) (first caps cs:List D) (P:D→Bool),vp O g first caps cs P→Hv s cs→cs.length<2000000 →
 ask O F [.sl s cs,.fn g first caps]=some (D.int .i64 (xk P cs 0))
theorem a73 (hT:T F2f=some Z2f):v6 (den T A) F2f .leaf:=by
 intro g first caps cs P hF hs hl;have h:=Ux hF hs hl cs.length 0 (b9 _);rw [dh] at h;have e0:((0:Nat):Int)=0:=rfl;rw [e0] at h;refine c9 hT rfl ?_
 by_cases ha:cs.any P=true
 ·rw [if_pos ha] at h
  simp -implicitDefEqProofs [Z2f,Z2f_B,h]
 ·rw [if_neg ha] at h
  have hn:xk P cs 0=-1:=by
   have hi:∀(ds:List D) (i:Nat),ds.any P=false→xk P ds i=-1:=by
    intro ds
    induction ds with
    | nil=>intro i _; rfl
    | cons d ds ih=>intro i hd; simp at hd; rw [xk,hd.1]; simpa using ih (i+1) (by simpa using hd.2)
   exact hi cs 0 (by simpa using ha)
  simp -implicitDefEqProofs [Z2f,Z2f_B,h,hn]
theorem a5v (hT:T F2g=some Z2g):v6 (den T A) F2g (.arr 64 .leaf):=by
 intro g first caps cs P hF hs hl;have h:=Ud hF hs hl cs.length 0 (b9 _);rw [dh] at h;have e0:((0:Nat):Int)=0:=rfl;rw [e0] at h;refine c9 hT rfl ?_
 by_cases ha:cs.any P=true
 ·rw [if_pos ha] at h
  simp -implicitDefEqProofs [Z2g,Z2g_B,h]
 ·rw [if_neg ha] at h
  have hn:xk P cs 0=-1:=by
   have hi:∀(ds:List D) (i:Nat),ds.any P=false→xk P ds i=-1:=by
    intro ds
    induction ds with
    | nil=>intro i _; rfl
    | cons d ds ih=>intro i hd; simp at hd; rw [xk,hd.1]; simpa using ih (i+1) (by simpa using hd.2)
   exact hi cs 0 (by simpa using ha)
  simp -implicitDefEqProofs [Z2g,Z2g_B,h,hn]
def Cc (O:am) (F:Nat) (s:Sh):Prop:=∀(g:Nat) (first caps cs:List D) (P:D→Bool),vp O g first caps cs P→Hv s cs→cs.length<2000000 →
 ask O F [.sl s cs,.fn g first caps]=some (D.bool (cs.any P))
theorem Sw (hT:T F2c=some Z2c) (hi:v6 (den T A) F2f .leaf):Cc (den T A) F2c .leaf:=by
 intro g first caps cs P hF hs hl;have h:=hi g first caps cs P hF hs hl;have e:decide (0≤xk P cs 0)=cs.any P:=by rw [A3]; simpa using S2 P cs 0
 refine c9 hT rfl ?_;simp -implicitDefEqProofs [Z2c,Z2c_B,h,e]
theorem V9 (hT:T F2d=some Z2d) (hi:v6 (den T A) F2g (.arr 64 .leaf)):Cc (den T A) F2d (.arr 64 .leaf):=by
 intro g first caps cs P hF hs hl;have h:=hi g first caps cs P hF hs hl;have e:decide (0≤xk P cs 0)=cs.any P:=by rw [A3]; simpa using S2 P cs 0
 refine c9 hT rfl ?_;simp -implicitDefEqProofs [Z2d,Z2d_B,h,e]
def D.num:D→Int
 | .int _ n=>n
 | _=>0
def m9 (l:List Int):Prop:=∀x∈l,0≤x∧x<256
abbrev bh (l:List Int):D:=(D.arr 64 .leaf (aq .u8 l))
def Ch (O:am) (F:Nat) (s:Sh):Prop:=∀(g:Nat) (first caps cs:List D) (P:D→Bool),vp O g first caps cs P→Hv s cs→cs.length<2000000 →
 ask O F [.sl s cs,.fn g first caps]=some (D.bool (cs.all P))
theorem Yq (P:D→Bool) (cs:List D):(!cs.any fun x=>!P x)=cs.all P:=by
 induction cs with
 | nil=>rfl
 | cons c cs ih=>simp [←ih]
theorem afb {g:Nat} {first caps cs:List D} {P:D→Bool} (hT:T F9=some Z9) (hF:vp (den T A) g first caps cs P):vp (den T A) F9 [] [.ip (.fn g first caps)] cs fun x=>!P x:=by
 refine ⟨fun x hx=>by simp at hx,fun x hx=>by simp at hx; subst hx; rfl,hF.2.2.1,fun x hx=>?_⟩
 have hc:=Jf (O:=den T A) (np:=0) (h:=[]) (news:=[]) hF.1 hF.2.1 (hF.2.2.1 _ hx) (hF.2.2.2 _ hx) rfl;refine c9 hT rfl ?_;simp -implicitDefEqProofs [Z9,Z9_B,hc]
theorem a1y (hT:T F8=some Z8) (hT1:T F9=some Z9) (hc:Cc (den T A) F2c .leaf):Ch (den T A) F8 .leaf:=by
 intro g first caps cs P hF hs hl;have e:=hc _ _ _ _ _ (afb hT1 hF) hs hl;have e2:=Yq P cs;have t1:=oo [.box false (.fn g first caps)] hF.1;have t2:=oo [.box false (.fn g first caps)] hF.2.1;rw [←e2];generalize (cs.any fun x=>!P x)=r at *
 refine c9 hT rfl ?_;simp -implicitDefEqProofs [Z8,Z8_B,e]
theorem af2 {g:Nat} {first caps cs:List D} {P:D→Bool} (hT:T Fb=some Zb) (hs:Hv (.arr 64 .leaf) cs) (hF:vp (den T A) g first caps cs P):vp (den T A) Fb [] [.ip (.fn g first caps)] cs fun x=>!P x:=by
 refine ⟨fun x hx=>by simp at hx,fun x hx=>by simp at hx; subst hx; rfl,hF.2.2.1,fun x hx=>?_⟩
 have hc:=Jf (O:=den T A) (np:=0) (h:=[.box false x]) (news:=[]) hF.1 hF.2.1 (hF.2.2.1 _ hx) (hF.2.2.2 _ hx) rfl;have h1:=hF.2.2.1 _ hx;have h2:=hs _ hx;refine c9 hT rfl ?_;simp -implicitDefEqProofs [Zb,Zb_B,hc,h1,h2]
theorem a35 (hT:T Fa=some Za) (hT1:T Fb=some Zb) (hc:Cc (den T A) F2d (.arr 64 .leaf)):Ch (den T A) Fa (.arr 64 .leaf):=by
 intro g first caps cs P hF hs hl;have e:=hc _ _ _ _ _ (af2 hT1 hs hF) hs hl;have e2:=Yq P cs;rw [←e2];generalize (cs.any fun x=>!P x)=r at *
 refine c9 hT rfl ?_;simp -implicitDefEqProofs [Za,Za_B,e]
def wo (p:Int) (l:List Int):Bool:=l.all fun x=>decide (x<p)
def Ej (O:am):Prop:=∀(p:Int) (l:List Int),m9 l→l.length=64→ask O Fu [(D.int .i64 p),(D.arr 64 .leaf (aq .u8 l))]=some (D.bool (wo p l))
theorem a90 (p:Int) (l:List Int):((aq .u8 l).all fun x=>decide (x.num<p))=wo p l:=by
 unfold aq wo;rw [List.all_map];rfl
theorem a5l (hT:T Fu=some Zu) (hT1:T Fv=some Zv) (ha:Ch (den T A) F8 .leaf):Ej (den T A):=by
 intro p l hb hl
 have hF:vp (den T A) Fv [] [.ip (D.int .i64 p)] (aq .u8 l) fun x=>decide (x.num<p):=by
  refine ⟨fun x hx=>by simp at hx,fun x hx=>by simp at hx; subst hx; rfl,fun x hx=>?_,fun x hx=>?_⟩
  ·obtain ⟨n,_,rfl⟩:=cn.1 hx; rfl
  ·obtain ⟨n,hn,rfl⟩:=cn.1 hx
   have h1:=hb n hn;have w1:IntKind.i64.wrap n=n:=wt;refine c9 hT1 rfl ?_;simp -implicitDefEqProofs [Zv,Zv_B,w1,D.num];exact decide_eq_decide.2 mh
 have e:=ha _ _ _ _ _ hF (fun x hx=>by obtain ⟨n,_,rfl⟩:=cn.1 hx; rfl) (by simp [hl])
 rw [a90] at e;have ht:l.take 64=l:=aw (by omega)
 refine c9 hT rfl ?_;simp -implicitDefEqProofs [Zu,Zu_B,e,hl,ht]
def a6t (p:Int) (ls:List (List Int)):Int:=if isP p∧ls.all (wo p) then 0 else 1
def wq (ls:List (List Int)):Prop:=∀l∈ls,l.length=64∧m9 l
def D.nums:D→List Int
 | .arr _ _ cs=>cs.map D.num
 | _=>[]
theorem On (l:List Int):(bh l).nums=l:=by
 simp only [D.nums,aq,uy];have:(D.num ∘ D.int .u8)=id:=rfl;rw [this,List.map_id]
end Pe
namespace Pe
open Go
abbrev tyN:Ty:=.int .i64
abbrev tyP:Ty:=.arr 64 (.int .u8)
theorem acv {d:D} (h:tyN.has d):∃n:Int,d=(D.int .i64 n)∧-9223372036854775808≤n∧n≤9223372036854775807:=by
 cases d <;> simp only [Ty.has] at h
 obtain ⟨rfl,h⟩:=h;exact ⟨_,rfl,bounds_i64 h⟩
theorem Oq:∀(xs:List D),(∀x∈xs,(Ty.int .u8).has x)→∃l:List Int,xs=aq .u8 l∧m9 l
 | [],_=>⟨[],rfl,fun _ h=>by cases h⟩
 | x::xs,h=>by
  obtain ⟨l,rfl,hb⟩:=Oq xs fun y hy=>h y (ka _ hy)
  have h1:=h x (by simp)
  cases x <;> simp only [Ty.has] at h1
  obtain ⟨rfl,h1⟩:=h1;refine ⟨_::l,rfl,fun y hy=>?_⟩
  rcases dp.1 hy with rfl | hy
  ·have:=bounds_u8 h1; omega
  ·exact hb y hy
theorem ad1 {d:D} (h:tyP.has d):∃l:List Int,d=(D.arr 64 .leaf (aq .u8 l))∧m9 l∧l.length=64:=by
 cases d <;> simp only [Ty.has] at h
 obtain ⟨rfl,rfl,h1,h2⟩:=h;obtain ⟨l,rfl,hb⟩:=Oq _ h2;exact ⟨l,rfl,hb,by simpa [aq] using h1⟩
theorem Wi {xs:List D} (h:Ty.hasAll [] xs):xs=[]:=by
 cases xs <;> simp only [Ty.hasAll] at h; rfl
theorem uc {T:Ty} {Ts:List Ty} {xs:List D} (h:Ty.hasAll (T::Ts) xs):∃x r,xs=x::r∧T.has x∧Ty.hasAll Ts r:=by
 cases xs <;> simp only [Ty.hasAll] at h; exact ⟨_,_,rfl,h⟩
def dt (P:Program) (num:Nat→Nat) (g:Nat) (fn:Fn):Bool:=match P.funcs[g]? with
 | some x=>B6 P num fn x
 | none=>false
def acb (P:Program) (num:Nat→Nat):List (Nat×Fn)→Prop
 | []=>True
 | e::r=>dt P num (num e.1) e.2=true∧acb P num r
theorem Oe {P:Program} {num:Nat→Nat}:∀{l:List (Nat×Fn)},acb P num l→∀f fn,l.lookup f=some fn→∃g,P.funcs[num f]? = some g∧B6 P num fn g=true
 | [],_,f,fn,h=>by cases h
 | (a,b)::r,⟨h1,h2⟩,f,fn,h=>by
  rw [List.lookup_cons] at h
  split at h
  ·rename_i e
   obtain rfl:=au h;have:f=a:=by simpa using e
   subst this;unfold dt at h1
   split at h1
   ·rename_i g hg; exact ⟨g,hg,h1⟩
   ·cases h1
  ·exact Oe h2 f fn h
end Pe
namespace Pe
open Go
variable {P:Program} {num:Nat→Nat}
theorem Vx {C:Cx} {φ:Loc} {s:St} {a:Act} {ops:Array Oper} {N np:Nat} {o:Oper} {j d:Nat} {v:V} {K:Act→World→Prop} {Q:Exit→Act→World→Prop}
 (hs:SR C φ s a.tmps) (hN:N≤a.tmps.size) (hd:o.dst=some d) (hdN:d<N) (hg:o.guard=none) (hj:ops[j]? = some o) (hop:OpWp P o a C φ s.h v s.h (fun _=>False))
 (hK:∀C' φ' u,Runs np C C' φ φ' s.h s.h→SR C' φ' ⟨(d,v)::s.e,s.h⟩ (a.put o.dst u).tmps→K (a.put o.dst u) C'.w):wpOp P ops Q j K a C.w:=by
 have hw:Region.wanted o (yielded ops a.tmps)=true:=by unfold Region.wanted; rw [hg]
 unfold wpOp;simp only [hj];rw [hw,if_pos rfl];left;refine hop K Q fun C' φ' u st hx k=>hK C' φ' u ⟨st,k.mono fun _ h=>h.elim⟩ ⟨st.hr,st.bd,fun n w hn=>?_⟩
 simp only [Env.get] at hn;rw [hd,uw (ep hdN hN)]
 by_cases hdn:d=n
 ·subst hdn
  simp only [if_true,ab] at hn;subst hn;refine ⟨u,if_pos rfl,?_⟩;rcases hx with hx | hx
  ·rw [hd] at hx; cases hx
  ·exact hx
 ·rw [if_neg hdn] at hn
  rw [if_neg (f9 hdn)];obtain ⟨u0,h1,h2⟩:=hs.env n w hn;exact ⟨u0,h1,k w u0 (fun _ _ h=>h.elim) h2⟩
theorem a7b {C:Cx} {φ:Loc} {s:St} {a:Act} {o:Oper} (hs:SR C φ s a.tmps) {x:Arg} {x' y':Operand} {t yt e:TypeId} (ho:o.op=.binOp .eql t x' y' yt) (hx:ck C.num x x'=true) (ht:P.underlying t=some (.slice e)) (hy:a.eval y'=.slice none 0 0)
 {sh:Sh} {cs:List D} (hv:s.e.arg x=some (.d (.sl sh cs))):∃b,OpGood P o a C φ s.h (.d (.bool b)) s.h (fun _=>False):=by
 obtain ⟨ad,c,e1,_,_⟩:=Np (c6 hs hx hv);refine ⟨decide (ad=none),cg hs (u:=.bool (decide (ad=none))) ?_ (kl ..)⟩
 have hq:(Go.Op.equal t (.slice ad cs.length c) (.slice none 0 0)).run P C.w=.ok (decide (ad=none)) C.w:=by
  show (Go.Op.equalIn (9999+1) t (.slice ad cs.length c) (.slice none 0 0)).run P C.w=.ok (decide (ad=none)) C.w;generalize 9999=d;cases ad <;> simp [Go.Op.equalIn,Sem.run_bind,run_underlying ht,Result.andThen_ok,Sem.run_pure]
 have hb:binOp .eql t (.slice ad cs.length c) (.slice none 0 0)=(do pure (.bool (←Go.Op.equal t (.slice ad cs.length c) (.slice none 0 0)))):=rfl;simp [execOp,ho,e1,hy,eqGuard,hb,hq]
theorem a2l {x:Arg} {o:Oper} (h:a39 P num (.nilq false x) o=true):∃t x' y' yt e,o.op=.binOp .eql t x' y' yt∧ck num x x'=true∧pn y'=true∧P.underlying t=some (.slice e):=by
 cases hq:o.op with
 | binOp op t x' y' yt=>
  simp only [a39,hq,av,decide_eq_true_eq] at h;obtain ⟨⟨⟨h3,h4⟩,h5⟩,h6⟩:=h
  split at h6
  ·rename_i e he
   exact ⟨t,x',y',yt,e,by rw [h3]; rfl,h4,h5,he⟩
  ·cases h6
 | _=>simp only [a39,hq,b5] at h
def Qr (s:Sh) (z:D) (bytes:Nat):Cd:=
 .seq (.region [⟨some 2,.nilOwn 0 s,none,[]⟩] [0])
 (.seq (.seq (.region [⟨some 3,.mv (.t 0),none,[]⟩,
  ⟨some 4,.nilq false (.t 3),none,[]⟩] [0,4])
  (.cond (.t 4)
   (.seq (.region [⟨some 2,.nilOwn 2 s,none,[]⟩] [2])
    (.ret))
   (.skip)))
  (.seq (.region [⟨some 5,.buildSl false 2 s z 0 [],none,[]⟩,
   ⟨some 6,.mv (.t 0),none,[]⟩,
   ⟨some 7,.append s 3 bytes (.t 5) (.t 6),none,[]⟩,
   ⟨some 2,.mv (.t 7),none,[]⟩] [2])
   (.ret)))
def xh (s:Sh) (z:D) (bytes:Nat):Fn:={ nparams:=1,nblk:=4,results:=[.tmp 2],body:=Qr s z bytes }
def tq:Code→Bool
 | .seq _ (.seq (.seq (.region _ _ false) _) _)=>true
 | _=>false
theorem ph {N:Nat} {a b:Cd} {x:Code} (h:gn P num N (.seq a b) x=true):∃y z,x=.seq y z∧gn P num N a y=true∧gn P num N b z=true:=by
 cases x <;> simp only [gn,b5,av] at h
 exact ⟨_,_,rfl,h⟩
def y8 (s:Sh):St:=⟨[(2,.sl 2 [] 0 0 none)],[.hole,.hole,.sl false s [],.hole]⟩
theorem Iq:km P num (fun _ _ _=>none):=fun f vs bs ans h=>by cases h
theorem Tw {s:Sh} {z:D} {bytes N:Nat} (hm:P.follows .mixedOrders=true) {x:Code} (hok:gn P num N (Qr s z bytes) x=true) (hshape:tq x=true) (hbeq:Sh.beq s s=true)
 (C:Cx) (φ:Loc) (a:Act) (hC:C.num=num) (hs:SR C φ ⟨params 0 [.d (.sl s [])],[]++List.replicate 4 .hole⟩ a.tmps) (hN:N≤a.tmps.size)
 (Q:Exit→Act→World→Prop) (hQ:Fits num 0 Q .ret C φ ([]++List.replicate 4 .hole) (y8 s) a):x.wp P Q a C.w:=by
 obtain ⟨x1,x2,rfl,ok1,ok2⟩:=ph hok;obtain ⟨x3,x4,rfl,ok3,ok4⟩:=ph ok2;obtain ⟨x5,x6,rfl,ok5,ok6⟩:=ph ok3;have nc:km P num (fun _ _ _=>none):=Iq
 -- ahead
 refine wp_seq (mc (O:=fun _ _ _=>none) (np:=0) (N:=N) nc hm 1 _ _ ok1 C φ _ ⟨[(0,.d (.sl s []))],[.hole,.hole,.hole,.hole]⟩ a .normal hC hs hN rfl _ ?_)
 intro C1 φ1 a1 k1 r1 hs1 z1 d1;refine wp_seq (wp_seq ?_)
 -- the question
 cases x5 <;> simp only [gn,b5,av] at ok5
 rename_i id ops draw
 cases draw with
 | true=>simp [tq] at hshape
 | false=>
 have hops:=ok5.1;obtain ⟨hl,hget⟩:=jm hops;have hl2:ops.size=2:=by simpa using hl.symm
 have g0:ops.toList[0]? = some ops[0]:=by simp [hl2]
 have g1:ops.toList[1]? = some ops[1]:=by simp [hl2]
 have i0:=hget 0 _ _ rfl g0;have i1:=hget 1 _ _ rfl g1;have N1:N≤a1.tmps.size:=by rw [z1]; exact hN
 refine wp_region ?_;rw [hl2];show wpOps P ops _ [0,1] a1 C1.w;rw [wpOps_cons];refine t9 (O:=fun _ _ _=>none) (np:=0) (k1▸nc) hs1 N1 (k1▸i0) (by simp) (s':=⟨[(3,.d (.sl s [])),(0,.d (.sl s []))],[.hole,.hole,.hole,.hole]⟩) rfl fun C2 φ2 u2 rn2 hs2=>?_
 have k2:C2.num=num:=rn2.st.le.num.trans k1;rw [wpOps_cons];unfold Cr at i1;simp only [av,decide_eq_true_eq] at i1;obtain ⟨⟨⟨hdst,hdN⟩,hop⟩,hguard⟩:=i1;have hdst':ops[1].dst=some 4:=hdst.symm;have hdN':4<N:=by simpa [hdst'] using hdN
 have hg:ops[1].guard=none:=by
  cases hq:ops[1].guard with
  | none=>rfl
  | some q=>rw [hq] at hguard; simp at hguard
 have N2:N≤(a1.put ops[0].dst u2).tmps.size:=by rw [jx]; exact N1
 have key:∃b,OpGood P ops[1] (a1.put ops[0].dst u2) C2 φ2 [.hole,.hole,.hole,.hole] (.d (.bool b)) [.hole,.hole,.hole,.hole] (fun _=>False):=by
  obtain ⟨t,x',y',yt,e,h1,h2,h3,h4⟩:=a2l hop;refine a7b hs2 h1 (k2▸h2) h4 ?_ (x:=.t 3) (sh:=s) (cs:=[]) rfl;unfold pn at h3
  split at h3
  ·rfl
  ·cases h3
 obtain ⟨b,key⟩:=key;refine Vx (np:=0) hs2 N2 hdst' hdN' hg (by simp) key.wp fun C3 φ3 u3 rn3 hs3=>?_
 have k3:C3.num=num:=rn3.st.le.num.trans k2;show (Exit.then _ _) .normal _ _;obtain ⟨rn4,hs4⟩:=Dw 0 hs3 [0,4];have N4:N≤((a1.put ops[0].dst u2).put ops[1].dst u3).tmps.size:=by rw [jx]; exact N2
 have d4:((a1.put ops[0].dst u2).put ops[1].dst u3).defers=a.defers:=by
  rw [←d1];cases ops[0].dst <;> cases ops[1].dst <;> rfl
 have z4:((a1.put ops[0].dst u2).put ops[1].dst u3).tmps.size=a.tmps.size:=by rw [jx,jx,z1]
 have back:Runs 0 C C3 φ φ3 ([]++List.replicate 4 .hole) [.hole,.hole,.hole,.hole]:=(r1.trans (rn2.trans rn3)).trans rn4;generalize ((a1.put ops[0].dst u2).put ops[1].dst u3)=a3 at *;have hs5:SR C3 φ3 ⟨[(0,.d (.sl s [])),(4,.d (.bool b))],[.hole,.hole,.hole,.hole]⟩ a3.tmps:=hs4;cases b with
 | true=>
  have ev:dm (fun _ _ _=>none) 0 1 (.cond (.t 4) (.seq (.region [⟨some 2,.nilOwn 2 s,none,[]⟩] [2]) (.ret)) (.skip)) ⟨[(0,.d (.sl s [])),(4,.d (.bool true))],[.hole,.hole,.hole,.hole]⟩=some (.ret,⟨[(2,.sl 2 [] 0 0 (some 0))],[.hole,.hole,.sl false s [],.hole]⟩):=rfl
  refine mc (O:=fun _ _ _=>none) (np:=0) (N:=N) nc hm 1 _ _ ok6 C3 φ3 _ _ a3 .ret k3 hs5 N4 ev _ ?_
  intro C6 φ6 a6 k6 r6 hs6 z6 d6;refine hQ C6 φ6 a6 k6 (back.trans r6) ⟨hs6.hr,hs6.bd,fun n v hn=>?_⟩ (z6.trans z4) (d6.trans d4)
  simp only [y8,Env.get] at hn
  split at hn
  ·rename_i h2
   subst h2;obtain rfl:=au hn;obtain ⟨u,h5,h6⟩:=hs6.env 2 (.sl 2 [] 0 0 (some 0)) rfl;refine ⟨u,h5,?_⟩;simp only [RX] at h6 ⊢;obtain ⟨B,base,sh,m,ad,c,e1,e2,e3,e4,e5,e6,e7⟩:=h6;exact ⟨B,base,sh,m,ad,c,e1,e2,e3,e4,e5,(fun k hk=>by cases hk),e7⟩
  ·cases hn
 | false=>
  have ev:dm (fun _ _ _=>none) 0 1 (.cond (.t 4) (.seq (.region [⟨some 2,.nilOwn 2 s,none,[]⟩] [2]) (.ret)) (.skip)) ⟨[(0,.d (.sl s [])),(4,.d (.bool false))],[.hole,.hole,.hole,.hole]⟩=some (.normal,⟨[(0,.d (.sl s [])),(4,.d (.bool false))],[.hole,.hole,.hole,.hole]⟩):=rfl
  refine mc (O:=fun _ _ _=>none) (np:=0) (N:=N) nc hm 1 _ _ ok6 C3 φ3 _ _ a3 .normal k3 hs5 N4 ev _ ?_
  intro C6 φ6 a6 k6 r6 hs6 z6 d6
  have ev2:dm (fun _ _ _=>none) 0 1 (.seq (.region [⟨some 5,.buildSl false 2 s z 0 [],none,[]⟩,⟨some 6,.mv (.t 0),none,[]⟩,⟨some 7,.append s 3 bytes (.t 5) (.t 6),none,[]⟩,⟨some 2,.mv (.t 7),none,[]⟩] [2]) (.ret)) ⟨[(0,.d (.sl s [])),(4,.d (.bool false))],[.hole,.hole,.hole,.hole]⟩=some (.ret,y8 s):=by
   simp [dm,fy,n8,gv,Ins.side,Ins.on,b6,kj,ry,freezeIf,fe,i8,Env.arg,Env.get,Env.putO,Env.kill,Op.kill,toE,hbeq,Env.keep,ma,Env.refd,V.refs,y8,Env.clear]
  refine mc (O:=fun _ _ _=>none) (np:=0) (N:=N) nc hm 1 _ _ ok4 C6 φ6 _ _ a6 .ret k6 hs6 (by rw [z6]; exact N4) ev2 _ ?_
  intro C7 φ7 a7 k7 r7 hs7 z7 d7;exact hQ C7 φ7 a7 k7 ((back.trans r6).trans r7) hs7 (z7.trans (z6.trans z4)) (d7.trans (d6.trans d4))
theorem Ut {s:Sh} {z:D} {bytes:Nat} (hm:P.follows .mixedOrders=true) {f:Nat} {g:Func} (hg:P.funcs[num f]? = some g) (hok:B6 P num (xh s z bytes) g=true) (hshape:(match g.body with | some x=>tq x | none=>false)=true) (hbeq:Sh.beq s s=true)
 {cs:List D} (hl:cs.length*bytes≤1099511627776) {C:Cx} {φ:Loc} {us:List Value} (hC:C.num=num) (hr:HR C φ []) (hb:∀b,C.I b→b<C.w.heap.size) (hv:RXs C φ [] [.d (.sl s cs)] us) :
 To P (num f) us C φ [] [.sl false s cs] (.sl 0 [] 0 cs.length none):=by
 cases cs with
 | cons c cs=>
  have hl':(cs.length+1)*bytes≤1099511627776:=hl
  have hrun:run (fun _ _ _=>none) 1 (xh s z bytes) [.d (.sl s (c::cs))] []=some (.sl 0 [] 0 (c::cs).length none,[],[.sl false s (c::cs)]):=by
   simp [hl',run,xh,Qr,dm,fy,n8,gv,Ins.side,Ins.on,b6,kj,ry,freezeIf,fe,i8,Env.arg,Env.get,Env.putO,Env.kill,Op.kill,toE,hbeq,Env.keep,ma,Env.refd,V.refs,Env.clear,params,xx,Sr,nm,t7,Heap.pick,V.ren,List.idxOf,List.findIdx,List.findIdx.go]
  exact (Or Iq hm hg hok hrun hC hr hb hv).2
 | nil=>
  unfold B6 at hok;simp only [av,bne_iff_ne,ne_eq,decide_eq_true_eq] at hok;obtain ⟨⟨⟨hname,hnp⟩,hres⟩,hbody⟩:=hok;cases hcode:g.body with
  | none=>rw [hcode] at hbody; cases hbody
  | some code=>
   rw [hcode] at hbody hshape;simp only at hbody hshape;refine (W6 (xh s z bytes) hg hname hnp hres hcode (vs:=[.d (.sl s [])]) (bs:=[]) (ans:=(.sl 0 [] 0 0 none,[],[.sl false s []])) .ret (y8 s) rfl ?_ (fun C φ a hC hs hN Q hQ=>Tw hm hbody hshape hbeq C φ a hC hs hN Q hQ) hC hr hb hv).2
   simp [xh,y8,xx,Sr,Env.get,nm,t7,V.refs,Heap.pick,V.ren,List.idxOf,List.findIdx,List.findIdx.go]
def Gl (ids:Nat→Option (Sh×D×Nat)):am:=fun f vs bs=>
 match ids f with
 | some (s,_,bytes)=>match vs with
  | [.d (.sl t cs)]=>match bs with
   | []=>if Sh.beq t s=true∧cs.length*bytes≤1099511627776 then some (.sl 0 [] 0 cs.length none,[],[.sl false t cs]) else none
   | _=>none
  | _=>none
 | none=>none
theorem a2k {ids:Nat→Option (Sh×D×Nat)} {f:Nat} {s:Sh} {z:D} {bytes:Nat} {cs:List D} (h1:ids f=some (s,z,bytes)) (h0:Sh.beq s s=true) (h2:cs.length*bytes≤1099511627776) :
 Gl ids f [.d (.sl s cs)] []=some (.sl 0 [] 0 cs.length none,[],[.sl false s cs]):=by
 simp [Gl,h1,h0,h2]
theorem Qg {ids:Nat→Option (Sh×D×Nat)} (hm:P.follows .mixedOrders=true)
 (hids:∀f s z bytes,ids f=some (s,z,bytes)→Sh.beq s s=true∧∃g,P.funcs[num f]? = some g∧B6 P num (xh s z bytes) g=true∧(match g.body with | some x=>tq x | none=>false)=true):km P num (Gl ids):=by
 intro f vs bs ans h C φ us hC hr hb hv;unfold Gl at h
 split at h
 ·rename_i s z bytes hi
  split at h
  ·rename_i t cs
   split at h
   ·split at h
    ·rename_i hc
     obtain rfl:=au h;obtain ⟨hbeq,g,hg,hok,hshape⟩:=hids f s z bytes hi;obtain rfl:=Sh.beq_eq _ _ hc.1;exact ⟨rfl,Ut hm hg hok hshape hbeq hc.2 hC hr hb hv⟩
    ·cases h
   ·cases h
  ·cases h
 ·cases h
def Goes (P:Program) (num:Nat→Nat) (ops:Array Oper) (N np:Nat) (js:List Nat) (s s':St):Prop:=
 ∀(Q:Exit→Act→World→Prop) (rest:List Nat) (C:Cx) (φ:Loc) (a:Act),C.num=num→SR C φ s a.tmps→N≤a.tmps.size →
  (∀C' φ' a',C'.num=num→Runs np C C' φ φ' s.h s'.h→SR C' φ' s' a'.tmps→a'.tmps.size=a.tmps.size→a'.defers=a.defers→wpOps P ops Q rest a' C'.w)→wpOps P ops Q (js++rest) a C.w
theorem Goes.trans {ops:Array Oper} {N np:Nat} {js ks:List Nat} {s s1 s2:St} (h1:Goes P num ops N np js s s1) (h2:Goes P num ops N np ks s1 s2):Goes P num ops N np (js++ks) s s2:=by
 intro Q rest C φ a hC hs hN hK;rw [ek];refine h1 Q (ks++rest) C φ a hC hs hN fun C1 φ1 a1 k1 r1 hs1 z1 d1=>?_
 refine h2 Q rest C1 φ1 a1 k1 hs1 (by rw [z1]; exact hN) fun C2 φ2 a2 k2 r2 hs2 z2 d2=>?_
 exact hK C2 φ2 a2 k2 (r1.trans r2) hs2 (z2.trans z1) (d2.trans d1)
theorem n4 {ops:Array Oper} {N np:Nat} {is:List Ins} (hok:qp P num ops N is ops.toList=true) (j:Nat) {i:Ins} (hi:is[j]? = some i) {s s':St} (he:n8 (fun _ _ _=>none) np s i=some s'):Goes P num ops N np [j] s s':=by
 obtain ⟨hl,hget⟩:=jm hok;have hjl:j<ops.toList.length:=by rw [←hl]; exact (ao.1 hi).1
 have ho:ops.toList[j]? = some ops.toList[j]:=ac hjl;intro Q rest C φ a hC hs hN hK;show wpOps P ops Q (j::rest) a C.w;rw [wpOps_cons];have ho':ops[j]? = some ops.toList[j]:=by simp
 refine t9 (O:=fun _ _ _=>none) (np:=np) (hC▸Iq) hs hN (hC▸hget j _ _ hi ho) ho' (H8 he) fun C' φ' u rn hs'=>?_
 exact hK C' φ' _ (rn.st.le.num.trans hC) rn hs' (jx ..) (by cases ops.toList[j].dst <;> rfl)
theorem v7 {ops:Array Oper} {N np:Nat} {is:List Ins} (hok:qp P num ops N is ops.toList=true) (j d:Nat) (hi:is[j]? = some ⟨some d,.fail,none,[]⟩) {s:St} (v:V) (h':Heap)
 (hop:∀o,ops[j]? = some o→∀C φ a,C.num=num→SR C φ s a.tmps→OpGood P o a C φ s.h v h' (fun _=>False)):Goes P num ops N np [j] s ⟨(d,v)::s.e,h'⟩:=by
 obtain ⟨hl,hget⟩:=jm hok;have hjl:j<ops.toList.length:=by rw [←hl]; exact (ao.1 hi).1
 have ho:ops.toList[j]? = some ops.toList[j]:=ac hjl;have ho':ops[j]? = some ops.toList[j]:=by simp
 have hins:=hget j _ _ hi ho;generalize ops.toList[j]=o at ho ho' hins;unfold Cr at hins;simp only [av,decide_eq_true_eq] at hins;obtain ⟨⟨⟨hdst,hdN⟩,-⟩,hguard⟩:=hins;have hd:o.dst=some d:=hdst.symm;have hdN':d<N:=by simpa [hd] using hdN
 have hg:o.guard=none:=by
  cases hq:o.guard with
  | none=>rfl
  | some q=>rw [hq] at hguard; simp at hguard
 intro Q rest C φ a hC hs hN hK;show wpOps P ops Q (j::rest) a C.w;rw [wpOps_cons];have hw:Region.wanted o (yielded ops a.tmps)=true:=by unfold Region.wanted; rw [hg]
 unfold wpOp;simp only [ho'];rw [hw,if_pos rfl];left;refine (hop o ho' C φ a hC hs).wp _ Q fun C' φ' u st hx k=>?_
 refine hK C' φ' _ (st.le.num.trans hC) ⟨st,k.mono fun _ h=>h.elim⟩ ⟨st.hr,st.bd,fun n w hn=>?_⟩ (jx ..) (by rw [hd]; rfl)
 simp only [Env.get] at hn;rw [hd,uw (ep hdN' hN)]
 by_cases hdn:d=n
 ·subst hdn
  simp only [if_true,ab] at hn;subst hn;refine ⟨u,if_pos rfl,?_⟩;rcases hx with hx | hx
  ·rw [hd] at hx; cases hx
  ·exact hx
 ·rw [if_neg hdn] at hn
  rw [if_neg (f9 hdn)];obtain ⟨u0,h1,h2⟩:=hs.env n w hn;exact ⟨u0,h1,k w u0 (fun _ _ h=>h.elim) h2⟩
theorem Hz {ops:Array Oper} {N np m:Nat} {s s1:St} (hg:Goes P num ops N np (List.range m) s s1) (hm:ops.size=m) {id:Nat} {ks:List Nat} {Q:Exit→Act→World→Prop} {C:Cx} {φ:Loc} {a:Act} (hC:C.num=num) (hs:SR C φ s a.tmps) (hN:N≤a.tmps.size)
 (hQ:Fits num np Q .normal C φ s.h ⟨s1.e.keep ks,ma (s1.e.keep ks) np 0 s1.h⟩ a):(Code.region id ops false).wp P Q a C.w:=by
 subst hm;refine wp_region ?_
 have:=hg Q [] C φ a hC hs hN fun C' φ' a' h1 h2 h3 h4 h5=>by
  simp only [wpOps];obtain ⟨r1,r2⟩:=Dw np h3 ks;exact hQ C' φ' a' h1 (h2.trans r1) r2 h4 h5
 simpa using this
theorem J3 {C:Cx} {φ:Loc} {s:St} {a:Act} (hs:SR C φ s a.tmps) {x:Arg} {x':Operand} (hx:ck C.num x x'=true) {sh:Sh} (hv:s.e.arg x=some (.d (.nils sh))):a.eval x'=.slice none 0 0:=by
 have:=c6 hs hx hv;simp only [RX,RV,RD] at this;cases hq:a.eval x' <;> simp_all [Value.cells,isAgg,D.isAgg]
def Nf (P:Program) (num:Nat→Nat) (n:Nat) (o:Oper):Bool:=
 match o.op with
 | .call ⟨.builtin .cap,⟨[x']⟩,⟨[t]⟩⟩=>ck num (.t n) x'&&(match P.underlying t with | some (.slice _)=>true | _=>false)
 | _=>false
def Nq (P:Program) (num:Nat→Nat) (n:Nat) (o:Oper):Bool:=
 match o.op with
 | .call ⟨.builtin .len,⟨[x']⟩,⟨[t]⟩⟩=>ck num (.t n) x'&&(match P.underlying t with | some (.slice _)=>true | _=>false)
 | _=>false
def Yi (P:Program) (num:Nat→Nat) (n m:Nat) (o:Oper):Bool:=
 match o.op with
 | .slice t x' none (some y') none=>ck num (.t n) x'&&ck num (.t m) y'&&(match P.underlying t with | some (.slice e)=>(P.info? e).isSome | _=>false)
 | _=>false
def Iw (P:Program) (num:Nat→Nat) (n m:Nat) (sh:Sh) (z:D) (bytes:Nat) (o:Oper):Bool:=
 match o.op with
 | .call ⟨.builtin .append,⟨[x',y']⟩,⟨[t,tn]⟩⟩=>ck num (.t n) x'&&ck num (.t m) y'&&(match P.underlying tn with | some (.int _)=>true | _=>false)&&decide (0<bytes) &&
  (match P.underlying t with | some (.slice e)=>nj P e sh&&o6 P e z&&Sh.beq z.sh sh&&decide (0<sh.size)&&(match P.info? e with | some inf=>inf.bytes == bytes | none=>false) | _=>false)
 | _=>false
theorem Tu {C:Cx} {φ:Loc} {s:St} {a:Act} {o:Oper} {n:Nat} {K:Nat→Prop} (hs:SR C φ s a.tmps) (ho:Nf P C.num n o=true) {sh:Sh} (hv:s.e.arg (.t n)=some (.d (.nils sh))):OpGood P o a C φ s.h (.d (.int .i64 0)) s.h K:=by
 unfold Nf at ho
 split at ho
 ·rename_i x' t hq
  simp only [av] at ho;obtain ⟨h1,h2⟩:=ho
  split at h2
  ·rename_i e he
   have hx:=J3 hs h1 hv;exact cg hs (u:=.int .i64 0) (by simp [execOp,hq,resolve,invoke,builtin,hx,Builtin.cap_,run_underlying he,goInt]) (gh ..)
  ·cases h2
 ·cases ho
theorem Ox {C:Cx} {φ:Loc} {s:St} {a:Act} {o:Oper} {n:Nat} {K:Nat→Prop} (hs:SR C φ s a.tmps) (ho:Nq P C.num n o=true) {sh:Sh} (hv:s.e.arg (.t n)=some (.d (.nils sh))):OpGood P o a C φ s.h (.d (.int .i64 0)) s.h K:=by
 unfold Nq at ho
 split at ho
 ·rename_i x' t hq
  simp only [av] at ho;obtain ⟨h1,h2⟩:=ho
  split at h2
  ·rename_i e he
   have hx:=J3 hs h1 hv;exact cg hs (u:=.int .i64 0) (by simp [execOp,hq,resolve,invoke,builtin,hx,Builtin.len_,run_underlying he,goInt]) (gh ..)
  ·cases h2
 ·cases ho
theorem a25 {C:Cx} {φ:Loc} {s:St} {a:Act} {o:Oper} {n m:Nat} {K:Nat→Prop} (hs:SR C φ s a.tmps) (ho:Yi P C.num n m o=true) {sh:Sh} (hv:s.e.arg (.t n)=some (.d (.nils sh))) (hm:s.e.arg (.t m)=some (.d (.int .i64 0))):OpGood P o a C φ s.h (.d (.nils sh)) s.h K:=by
 unfold Yi at ho
 split at ho
 ·rename_i t x' y' hq
  simp only [av] at ho;obtain ⟨⟨h1,h2⟩,h3⟩:=ho
  split at h3
  ·rename_i e he
   obtain ⟨inf,hinf⟩:=Option.isSome_iff_exists.1 h3;have hx:=J3 hs h1 hv
   have hn:ee s.e (some (.t m)) 0=some 0:=by
    show (s.e.arg (.t m)).bind V.nat? = some 0;rw [hm]; rfl
   have hb:=Ct (isS:=true) (len:=0) (cap:=0) (l:=0) (hh:=0) (m:=0) (lo:=none) (hi:=some (.t m)) (mx:=none) (lo':=none) (hi':=some y') (mx':=none) (P:=P) hs rfl (by simpa [p9] using h2) rfl rfl hn rfl (ba _) (ba _)
   refine cg hs (u:=.slice none 0 0) ?_ ?_
   ·simp only [Option.map_none,bc] at hb
    simp [execOp,hq,hx,Instr.sliceAt,Instr.slice,run_underlying he,hb,i7 hinf]
   ·rw [←hx]
    exact c6 hs h1 hv
  ·cases h3
 ·cases ho
theorem Vs {C:Cx} {φ:Loc} {s:St} {a:Act} {o:Oper} {n m i:Nat} {sh:Sh} {z:D} {bytes:Nat} (hs:SR C φ s a.tmps) (ho:Iw P C.num n m sh z bytes o=true) {sh':Sh} (hv:s.e.arg (.t n)=some (.d (.nils sh'))) {k:Nat} (hk:s.e.arg (.t m)=some (.d (.int .i64 k))) (h0:0<k)
 (hroom:k*bytes≤1099511627776) (hi:s.h[i]? = some .hole):OpGood P o a C φ s.h (.sl i [] 0 k none) (s.h.set i (.sl false sh (List.replicate k z))) (fun _=>False):=by
 unfold Iw at ho
 split at ho
 ·rename_i x' y' t tn hq
  simp only [av,decide_eq_true_eq] at ho;obtain ⟨⟨⟨⟨h1,h2⟩,h3⟩,hby⟩,h4⟩:=ho
  split at h4
  ·rename_i e he
   simp only [av,decide_eq_true_eq] at h4;obtain ⟨⟨⟨⟨g1,g2⟩,g3⟩,g4⟩,g5⟩:=h4
   split at h3
   ·rename_i kn hkn
    split at g5
    ·rename_i inf hinf
     have g5':inf.bytes=bytes:=by simpa using g5
     obtain ⟨inf2,u,hinf2,hiz,-,hzv,hnt⟩:=pr g2;obtain rfl:inf=inf2:=au (hinf.symm.trans hinf2);obtain ⟨ie,hie,hse⟩:=gz g1;obtain rfl:inf=ie:=au (hinf.symm.trans hie);have hzs:=Sh.beq_eq _ _ g3;have hx:=J3 hs h1 hv;have hy:=mu (c6 hs h2 hk)
     have hkb:k*1≤k*bytes:=o4 _ hby
     have hrun:=Lib.run_append_nil_zeros (P:=P) C.w t tn o.type e inf u .i64 kn he hkn hinf hiz k h0 (by rw [hse]; exact g4) (by omega) (by rw [g5']; omega)
     obtain ⟨st1,k1⟩:=Oh (C:=C) (w':=C.w.drew) hs.hr hs.bd ⟨rfl,rfl,rfl,rfl⟩;obtain ⟨ha,hcells⟩:=(hzv { C with w:=C.w.drew }).notTup hnt
     have hul:u.cells.size=sh.size:=by rw [←hzs,←ji z _ hcells]; simp
     have hsz0:∀c:Nat,(Builtin.zeroCells u.cells c).size=c*sh.size:=by
      intro c;simp [Builtin.zeroCells,hul]
     have hge:=grownCap_ge C.w k 0 e
     obtain ⟨st2,k2,hv2⟩:=xt (C:={ C with w:=C.w.drew }) (φ:=φ) (s:=s) st1.hr st1.bd (sh:=sh) (xs:=List.replicate k z) (cs:=Builtin.zeroCells u.cells k++Builtin.zeroCells u.cells (grownCap C.w k 0 e-k)) (us:=(List.replicate k u.cells.toList).flatten) e (re hzs hcells k)
      (fun j v hj=>by
       have hfl:=ij u.cells (by omega) k
       have hjl:=(ao.1 hj).1;have e1:(Builtin.zeroCells u.cells k).toList=(List.replicate k u.cells.toList).flatten:=hfl;rw [me (by rw [←qv,e1]; exact hjl),←i5,e1]
       exact hj) hi (len:=k) (c:=grownCap C.w k 0 e) (cap:=none) (by simp) hge (by simp) (by
       rw [Array.size_append,hsz0,hsz0,←lr];exact ff _ (by omega))
     refine ⟨_,_,_,_,?_,.inl rfl,st1.trans st2,hv2,k1.trans k2⟩;rw [←hx,←hy] at hrun;simp [execOp,hq,resolve,invoke,builtin,hrun]
    ·cases g5
   ·cases h3
  ·cases h4
 ·cases ho
def Yb:List Ins:=[⟨some 8,.mv (.t 1),none,[]⟩,⟨some 9,.mv (.t 0),none,[]⟩,⟨some 10,.fail,none,[]⟩,⟨some 11,.mv (.t 0),none,[]⟩,⟨some 12,.fail,none,[]⟩,⟨some 13,.bin .sub (.t 10) (.t 12),none,[]⟩,⟨some 14,.bin .sub (.t 8) (.t 13),none,[]⟩,⟨some 1,.mv (.t 14),none,[]⟩]
def Vg (s:Sh):List Ins:=[⟨some 17,.mv (.t 0),none,[]⟩,⟨some 18,.mv (.t 0),none,[]⟩,⟨some 19,.fail,none,[]⟩,⟨some 20,.fail,none,[]⟩,⟨some 21,.mv (.t 1),none,[]⟩,⟨some 22,.fail,none,[]⟩,⟨some 23,.mv (.t 0),none,[]⟩,⟨some 24,.fail,none,[]⟩,⟨some 25,.cut none s (.t 22) none (some (.t 24)) none,none,[]⟩,⟨some 0,.mv (.t 25),none,[]⟩]
def a75 (s:Sh):Cd:=
 .seq (.region [⟨some 4,.nilOwn 0 s,none,[]⟩] [0,1])
 (.seq (.seq (.region [⟨some 5,.mv (.t 1),none,[]⟩,⟨some 6,.bin .lss (.t 5) (.c (.int .i64 0)),none,[]⟩] [0,1,6])
  (.cond (.t 6) (.region [⟨some 7,.fail,none,[]⟩,⟨none,.fail,none,[]⟩] [0,1]) .skip))
 (.seq (.seq (.region Yb [0,1])
  (.seq (.region [⟨some 15,.mv (.t 1),none,[]⟩,⟨some 16,.bin .gtr (.t 15) (.c (.int .i64 0)),none,[]⟩] [0,1,16])
   (.cond (.t 16) (.region (Vg s) [0]) .skip)))
  (.seq (.region [⟨some 26,.mv (.t 0),none,[]⟩,⟨some 4,.mv (.t 26),none,[]⟩] [4]) .ret)))
def H9 (s:Sh):Fn:={ nparams:=2,nblk:=2,results:=[.tmp 4],body:=a75 s }
def ta (f:Oper→Bool) (o:Option Oper):Bool:=
 match o with
 | some o=>f o
 | none=>false
def sc (P:Program) (num:Nat→Nat) (s:Sh) (z:D) (bytes:Nat):Code→Bool
 | .seq _ (.seq _ (.seq (.seq (.region _ a false) (.seq _ (.cond _ (.region _ b false) _))) _))=>
  ta (Nf P num 9) a[2]? && ta (Nq P num 11) a[4]? && ta (Nf P num 18) b[2]? && ta (Yi P num 17 19) b[3]? && ta (Iw P num 20 21 s z bytes) b[5]? && ta (Nq P num 23) b[7]?
 | _=>false
theorem tf {f:Oper→Bool} {x:Option Oper} (h:ta f x=true) {o:Oper} (ho:x=some o):f o=true:=by
 subst ho; exact h
theorem Xq {a:Array Oper} {N:Nat} {s:Sh} {n:Nat} {r:Env} (hn:n≤1099511627776) (hok:qp P num a N Yb a.toList=true) (h1:ta (Nf P num 9) a[2]? = true) (h2:ta (Nq P num 11) a[4]? = true) :
 Goes P num a N 0 (List.range 8) ⟨[(0,.d (.nils s)),(1,.d (.int .i64 n))]++r,[.hole,.hole]⟩ ⟨[(1,.d (.int .i64 n)),(14,.d (.int .i64 n)),(13,.d (.int .i64 0)),(12,.d (.int .i64 0)),(11,.d (.nils s)),(10,.d (.int .i64 0)),(9,.d (.nils s)),(8,.d (.int .i64 n)),(0,.d (.nils s)),(1,.d (.int .i64 n))]++r,[.hole,.hole]⟩:=by
 have hw:IntKind.i64.wrap (n:Int)=n:=by simp [IntKind.wrap,IntKind.bits,IntKind.signed]; omega
 have g0:Goes P num a N 0 [0] ⟨[(0,.d (.nils s)),(1,.d (.int .i64 n))]++r,[.hole,.hole]⟩ ⟨[(8,.d (.int .i64 n)),(0,.d (.nils s)),(1,.d (.int .i64 n))]++r,[.hole,.hole]⟩:=n4 hok 0 rfl rfl;have g1:Goes P num a N 0 [1] ⟨[(8,.d (.int .i64 n)),(0,.d (.nils s)),(1,.d (.int .i64 n))]++r,[.hole,.hole]⟩ ⟨[(9,.d (.nils s)),(8,.d (.int .i64 n)),(0,.d (.nils s)),(1,.d (.int .i64 n))]++r,[.hole,.hole]⟩:=n4 hok 1 rfl rfl;have g2:Goes P num a N 0 [2] ⟨[(9,.d (.nils s)),(8,.d (.int .i64 n)),(0,.d (.nils s)),(1,.d (.int .i64 n))]++r,[.hole,.hole]⟩ ⟨[(10,.d (.int .i64 0)),(9,.d (.nils s)),(8,.d (.int .i64 n)),(0,.d (.nils s)),(1,.d (.int .i64 n))]++r,[.hole,.hole]⟩:=v7 hok 2 10 rfl (.d (.int .i64 0)) _ fun o ho C φ a hC hs=>Tu hs (hC▸tf h1 ho) rfl
 have g3:Goes P num a N 0 [3] ⟨[(10,.d (.int .i64 0)),(9,.d (.nils s)),(8,.d (.int .i64 n)),(0,.d (.nils s)),(1,.d (.int .i64 n))]++r,[.hole,.hole]⟩ ⟨[(11,.d (.nils s)),(10,.d (.int .i64 0)),(9,.d (.nils s)),(8,.d (.int .i64 n)),(0,.d (.nils s)),(1,.d (.int .i64 n))]++r,[.hole,.hole]⟩:=n4 hok 3 rfl rfl;have g4:Goes P num a N 0 [4] ⟨[(11,.d (.nils s)),(10,.d (.int .i64 0)),(9,.d (.nils s)),(8,.d (.int .i64 n)),(0,.d (.nils s)),(1,.d (.int .i64 n))]++r,[.hole,.hole]⟩ ⟨[(12,.d (.int .i64 0)),(11,.d (.nils s)),(10,.d (.int .i64 0)),(9,.d (.nils s)),(8,.d (.int .i64 n)),(0,.d (.nils s)),(1,.d (.int .i64 n))]++r,[.hole,.hole]⟩:=v7 hok 4 12 rfl (.d (.int .i64 0)) _ fun o ho C φ a hC hs=>Ox hs (hC▸tf h2 ho) rfl
 have g5:Goes P num a N 0 [5] ⟨[(12,.d (.int .i64 0)),(11,.d (.nils s)),(10,.d (.int .i64 0)),(9,.d (.nils s)),(8,.d (.int .i64 n)),(0,.d (.nils s)),(1,.d (.int .i64 n))]++r,[.hole,.hole]⟩ ⟨[(13,.d (.int .i64 0)),(12,.d (.int .i64 0)),(11,.d (.nils s)),(10,.d (.int .i64 0)),(9,.d (.nils s)),(8,.d (.int .i64 n)),(0,.d (.nils s)),(1,.d (.int .i64 n))]++r,[.hole,.hole]⟩:=n4 hok 5 rfl rfl;have g6:Goes P num a N 0 [6] ⟨[(13,.d (.int .i64 0)),(12,.d (.int .i64 0)),(11,.d (.nils s)),(10,.d (.int .i64 0)),(9,.d (.nils s)),(8,.d (.int .i64 n)),(0,.d (.nils s)),(1,.d (.int .i64 n))]++r,[.hole,.hole]⟩ ⟨[(14,.d (.int .i64 n)),(13,.d (.int .i64 0)),(12,.d (.int .i64 0)),(11,.d (.nils s)),(10,.d (.int .i64 0)),(9,.d (.nils s)),(8,.d (.int .i64 n)),(0,.d (.nils s)),(1,.d (.int .i64 n))]++r,[.hole,.hole]⟩:=n4 hok 6 rfl (by simp [n8,gv,Ins.side,Ins.on,b6,Env.arg,Env.get,Env.putO,Env.kill,Op.kill,ut,wv,hw])
 have g7:Goes P num a N 0 [7] ⟨[(14,.d (.int .i64 n)),(13,.d (.int .i64 0)),(12,.d (.int .i64 0)),(11,.d (.nils s)),(10,.d (.int .i64 0)),(9,.d (.nils s)),(8,.d (.int .i64 n)),(0,.d (.nils s)),(1,.d (.int .i64 n))]++r,[.hole,.hole]⟩ ⟨[(1,.d (.int .i64 n)),(14,.d (.int .i64 n)),(13,.d (.int .i64 0)),(12,.d (.int .i64 0)),(11,.d (.nils s)),(10,.d (.int .i64 0)),(9,.d (.nils s)),(8,.d (.int .i64 n)),(0,.d (.nils s)),(1,.d (.int .i64 n))]++r,[.hole,.hole]⟩:=n4 hok 7 rfl rfl;exact (((((((g0).trans g1).trans g2).trans g3).trans g4).trans g5).trans g6).trans g7
theorem a3i {b:Array Oper} {N:Nat} {s:Sh} {z:D} {bytes n:Nat} {r:Env} (h0:0<n) (hroom:n*bytes≤1099511627776) (hbeq:Sh.beq s s=true) (hok:qp P num b N (Vg s) b.toList=true) (h1:ta (Nf P num 18) b[2]? = true) (h2:ta (Yi P num 17 19) b[3]? = true)
 (h3:ta (Iw P num 20 21 s z bytes) b[5]? = true) (h4:ta (Nq P num 23) b[7]? = true) :
 Goes P num b N 0 (List.range 10) ⟨[(0,.d (.nils s)),(1,.d (.int .i64 n))]++r,[.hole,.hole]⟩ ⟨[(0,.sl 1 [] 0 0 none),(25,.sl 1 [] 0 0 none),(24,.d (.int .i64 0)),(23,.d (.nils s)),(22,.sl 1 [] 0 n none),(21,.d (.int .i64 n)),(20,.d (.nils s)),(19,.d (.int .i64 0)),(18,.d (.nils s)),(17,.d (.nils s)),(0,.d (.nils s)),(1,.d (.int .i64 n))]++r,[.hole,.sl false s (List.replicate n z)]⟩:=by
 have g0:Goes P num b N 0 [0] ⟨[(0,.d (.nils s)),(1,.d (.int .i64 n))]++r,[.hole,.hole]⟩ ⟨[(17,.d (.nils s)),(0,.d (.nils s)),(1,.d (.int .i64 n))]++r,[.hole,.hole]⟩:=n4 hok 0 rfl rfl;have g1:Goes P num b N 0 [1] ⟨[(17,.d (.nils s)),(0,.d (.nils s)),(1,.d (.int .i64 n))]++r,[.hole,.hole]⟩ ⟨[(18,.d (.nils s)),(17,.d (.nils s)),(0,.d (.nils s)),(1,.d (.int .i64 n))]++r,[.hole,.hole]⟩:=n4 hok 1 rfl rfl;have g2:Goes P num b N 0 [2] ⟨[(18,.d (.nils s)),(17,.d (.nils s)),(0,.d (.nils s)),(1,.d (.int .i64 n))]++r,[.hole,.hole]⟩ ⟨[(19,.d (.int .i64 0)),(18,.d (.nils s)),(17,.d (.nils s)),(0,.d (.nils s)),(1,.d (.int .i64 n))]++r,[.hole,.hole]⟩:=v7 hok 2 19 rfl (.d (.int .i64 0)) _ fun o ho C φ a hC hs=>Tu hs (hC▸tf h1 ho) rfl
 have g3:Goes P num b N 0 [3] ⟨[(19,.d (.int .i64 0)),(18,.d (.nils s)),(17,.d (.nils s)),(0,.d (.nils s)),(1,.d (.int .i64 n))]++r,[.hole,.hole]⟩ ⟨[(20,.d (.nils s)),(19,.d (.int .i64 0)),(18,.d (.nils s)),(17,.d (.nils s)),(0,.d (.nils s)),(1,.d (.int .i64 n))]++r,[.hole,.hole]⟩:=v7 hok 3 20 rfl (.d (.nils s)) _ fun o ho C φ a hC hs=>a25 hs (hC▸tf h2 ho) rfl rfl
 have g4:Goes P num b N 0 [4] ⟨[(20,.d (.nils s)),(19,.d (.int .i64 0)),(18,.d (.nils s)),(17,.d (.nils s)),(0,.d (.nils s)),(1,.d (.int .i64 n))]++r,[.hole,.hole]⟩ ⟨[(21,.d (.int .i64 n)),(20,.d (.nils s)),(19,.d (.int .i64 0)),(18,.d (.nils s)),(17,.d (.nils s)),(0,.d (.nils s)),(1,.d (.int .i64 n))]++r,[.hole,.hole]⟩:=n4 hok 4 rfl rfl;have g5:Goes P num b N 0 [5] ⟨[(21,.d (.int .i64 n)),(20,.d (.nils s)),(19,.d (.int .i64 0)),(18,.d (.nils s)),(17,.d (.nils s)),(0,.d (.nils s)),(1,.d (.int .i64 n))]++r,[.hole,.hole]⟩ ⟨[(22,.sl 1 [] 0 n none),(21,.d (.int .i64 n)),(20,.d (.nils s)),(19,.d (.int .i64 0)),(18,.d (.nils s)),(17,.d (.nils s)),(0,.d (.nils s)),(1,.d (.int .i64 n))]++r,[.hole,.sl false s (List.replicate n z)]⟩:=v7 hok 5 22 rfl (.sl 1 [] 0 n none) _ fun o ho C φ a hC hs=>Vs hs (hC▸tf h3 ho) rfl rfl h0 hroom rfl
 have g6:Goes P num b N 0 [6] ⟨[(22,.sl 1 [] 0 n none),(21,.d (.int .i64 n)),(20,.d (.nils s)),(19,.d (.int .i64 0)),(18,.d (.nils s)),(17,.d (.nils s)),(0,.d (.nils s)),(1,.d (.int .i64 n))]++r,[.hole,.sl false s (List.replicate n z)]⟩ ⟨[(23,.d (.nils s)),(22,.sl 1 [] 0 n none),(21,.d (.int .i64 n)),(20,.d (.nils s)),(19,.d (.int .i64 0)),(18,.d (.nils s)),(17,.d (.nils s)),(0,.d (.nils s)),(1,.d (.int .i64 n))]++r,[.hole,.sl false s (List.replicate n z)]⟩:=n4 hok 6 rfl rfl;have g7:Goes P num b N 0 [7] ⟨[(23,.d (.nils s)),(22,.sl 1 [] 0 n none),(21,.d (.int .i64 n)),(20,.d (.nils s)),(19,.d (.int .i64 0)),(18,.d (.nils s)),(17,.d (.nils s)),(0,.d (.nils s)),(1,.d (.int .i64 n))]++r,[.hole,.sl false s (List.replicate n z)]⟩ ⟨[(24,.d (.int .i64 0)),(23,.d (.nils s)),(22,.sl 1 [] 0 n none),(21,.d (.int .i64 n)),(20,.d (.nils s)),(19,.d (.int .i64 0)),(18,.d (.nils s)),(17,.d (.nils s)),(0,.d (.nils s)),(1,.d (.int .i64 n))]++r,[.hole,.sl false s (List.replicate n z)]⟩:=v7 hok 7 24 rfl (.d (.int .i64 0)) _ fun o ho C φ a hC hs=>Ox hs (hC▸tf h4 ho) rfl
 have g8:Goes P num b N 0 [8] ⟨[(24,.d (.int .i64 0)),(23,.d (.nils s)),(22,.sl 1 [] 0 n none),(21,.d (.int .i64 n)),(20,.d (.nils s)),(19,.d (.int .i64 0)),(18,.d (.nils s)),(17,.d (.nils s)),(0,.d (.nils s)),(1,.d (.int .i64 n))]++r,[.hole,.sl false s (List.replicate n z)]⟩ ⟨[(25,.sl 1 [] 0 0 none),(24,.d (.int .i64 0)),(23,.d (.nils s)),(22,.sl 1 [] 0 n none),(21,.d (.int .i64 n)),(20,.d (.nils s)),(19,.d (.int .i64 0)),(18,.d (.nils s)),(17,.d (.nils s)),(0,.d (.nils s)),(1,.d (.int .i64 n))]++r,[.hole,.sl false s (List.replicate n z)]⟩:=n4 hok 8 rfl (by simp [n8,gv,Ins.side,Ins.on,b6,Env.arg,Env.get,Env.putO,Env.kill,Op.kill,Blk.elems,ee,V.nat?,hbeq])
 have g9:Goes P num b N 0 [9] ⟨[(25,.sl 1 [] 0 0 none),(24,.d (.int .i64 0)),(23,.d (.nils s)),(22,.sl 1 [] 0 n none),(21,.d (.int .i64 n)),(20,.d (.nils s)),(19,.d (.int .i64 0)),(18,.d (.nils s)),(17,.d (.nils s)),(0,.d (.nils s)),(1,.d (.int .i64 n))]++r,[.hole,.sl false s (List.replicate n z)]⟩ ⟨[(0,.sl 1 [] 0 0 none),(25,.sl 1 [] 0 0 none),(24,.d (.int .i64 0)),(23,.d (.nils s)),(22,.sl 1 [] 0 n none),(21,.d (.int .i64 n)),(20,.d (.nils s)),(19,.d (.int .i64 0)),(18,.d (.nils s)),(17,.d (.nils s)),(0,.d (.nils s)),(1,.d (.int .i64 n))]++r,[.hole,.sl false s (List.replicate n z)]⟩:=n4 hok 9 rfl rfl;exact (((((((((g0).trans g1).trans g2).trans g3).trans g4).trans g5).trans g6).trans g7).trans g8).trans g9
theorem a33 {C:Cx} {φ:Loc} {e:Env} {h:Heap} {tmps:Array Value} (hs:SR C φ ⟨e,h⟩ tmps) {n i:Nat} {s:Sh} (hn:e.get n=some (.d (.nils s))) (hi:h[i]? = some .hole) :
 ∃φ',Runs 0 C C φ φ' h (h.set i (.sl false s []))∧SR C φ' ⟨[(n,.sl i [] 0 0 none)],h.set i (.sl false s [])⟩ tmps:=by
 obtain ⟨st,k⟩:=vv hs.hr hs.bd hi (w':=C.w) (B:=.sl false s []) (l:=none) (fun _ _=>rfl) (ba _) rfl rfl rfl (by simp) (by simp [RB])
 have hil:i<h.length:=(ao.1 hi).1;refine ⟨φ.put i none,⟨st,k.mono fun _ h=>h.elim⟩,st.hr,st.bd,fun m v hm=>?_⟩
 simp only [Env.get] at hm
 split at hm
 ·rename_i e1
  subst e1;obtain rfl:=au hm;obtain ⟨u,h1,h2⟩:=hs.env n _ hn;refine ⟨u,h1,?_⟩
  have hu:u=.slice none 0 0:=by
   simp only [RX,RV,RD] at h2;cases u <;> simp_all [Value.cells,isAgg,D.isAgg]
  subst hu;simp only [RX];exact ⟨_,0,s,0,none,0,b4 hil,by simp [Blk.run],by omega,rfl,by omega,by simp,by simp⟩
 ·cases hm
def Jb (s:Sh) (z:D) (n:Nat):St:=⟨[(4,.sl 1 [] 0 0 none)],[.hole,.sl false s (List.replicate n z)]⟩
theorem ab2 {s:Sh} {z:D} {bytes N n:Nat} (hm:P.follows .mixedOrders=true) {x:Code} (hok:gn P num N (a75 s) x=true) (hshape:sc P num s z bytes x=true) (hbeq:Sh.beq s s=true) (hroom:n*bytes≤1099511627776) (hn:n≤1099511627776)
 (C:Cx) (φ:Loc) (a:Act) (hC:C.num=num) (hs:SR C φ ⟨params 0 [.d (.nils s),.d (.int .i64 n)],[]++List.replicate 2 .hole⟩ a.tmps) (hN:N≤a.tmps.size)
 (Q:Exit→Act→World→Prop) (hQ:Fits num 0 Q .ret C φ ([]++List.replicate 2 .hole) (Jb s z n) a):x.wp P Q a C.w:=by
 obtain ⟨x1,x2,rfl,ok1,ok2⟩:=ph hok;obtain ⟨x3,x4,rfl,ok3,ok4⟩:=ph ok2;obtain ⟨x5,x6,rfl,ok5,ok6⟩:=ph ok4;obtain ⟨x7,x8,rfl,ok7,ok8⟩:=ph ok5;obtain ⟨x9,xc,rfl,ok9,okc⟩:=ph ok8;have nc:km P num (fun _ _ _=>none):=Iq
 have hn0:¬ ((n:Int)<0):=by omega
 cases x7 <;> simp only [gn,b5,av] at ok7
 rename_i id3 ra draw3
 cases xc <;> simp only [gn,b5,av] at okc
 rename_i cc xb xe
 obtain ⟨⟨okc1,okb⟩,oke⟩:=okc;cases xb <;> simp only [gn,b5,av] at okb
 rename_i id5 rb draw5
 cases draw3 with
 | true=>simp [sc] at hshape
 | false=>
 cases draw5 with
 | true=>simp [sc] at hshape
 | false=>
 simp only [sc,av] at hshape;obtain ⟨⟨⟨⟨⟨h1,h2⟩,h3⟩,h4⟩,h5⟩,h6⟩:=hshape
 have ra8:ra.size=8:=by
  have:=(jm ok7.1).1
  simpa [Yb] using this.symm
 have rb10:rb.size=10:=by
  have:=(jm okb.1).1
  simpa [Vg] using this.symm
 refine wp_seq (mc (O:=fun _ _ _=>none) (np:=0) (N:=N) nc hm 1 _ _ ok1 C φ _ ⟨[(0,.d (.nils s)),(1,.d (.int .i64 n))],[.hole,.hole]⟩ a .normal hC hs hN rfl _ ?_)
 intro C1 φ1 a1 k1 r1 hs1 z1 d1
 refine wp_seq (mc (O:=fun _ _ _=>none) (np:=0) (N:=N) nc hm 1 _ _ ok3 C1 φ1 _ ⟨[(0,.d (.nils s)),(1,.d (.int .i64 n)),(6,.d (.bool false))],[.hole,.hole]⟩ a1 .normal k1 hs1 (by rw [z1]; exact hN) (by
  simp [dm,fy,n8,gv,Ins.side,Ins.on,b6,Env.arg,Env.get,Env.putO,Env.kill,Op.kill,Env.keep,ma,Env.refd,V.refs,ut,wv,hn0]) _ ?_)
 intro C2 φ2 a2 k2 r2 hs2 z2 d2;refine wp_seq (wp_seq (Hz (ks:=[0,1]) (Xq (r:=[(6,.d (.bool false))]) hn ok7.1 h1 h2) ra8 k2 hs2 (by rw [z2,z1]; exact hN) ?_))
 intro C3 φ3 a3 k3 r3 hs3 z3 d3;have hs3':SR C3 φ3 ⟨[(0,.d (.nils s)),(1,.d (.int .i64 n))],[.hole,.hole]⟩ a3.tmps:=hs3;have N3:N≤a3.tmps.size:=by rw [z3,z2,z1]; exact hN
 have r03:Runs 0 C C3 φ φ3 ([]++List.replicate 2 .hole) [.hole,.hole]:=(r1.trans r2).trans r3;have z03:a3.tmps.size=a.tmps.size:=z3.trans (z2.trans z1);have d03:a3.defers=a.defers:=d3.trans (d2.trans d1)
 by_cases h0:n=0
 ·subst h0
  refine wp_seq (mc (O:=fun _ _ _=>none) (np:=0) (N:=N) nc hm 1 _ _ ok9 C3 φ3 _ ⟨[(0,.d (.nils s)),(1,.d (.int .i64 (0:Nat))),(16,.d (.bool false))],[.hole,.hole]⟩ a3 .normal k3 hs3' N3 rfl _ ?_)
  intro C4 φ4 a4 k4 r4 hs4 z4 d4;refine wp_cond_false (ze (c6 hs4 (k4▸okc1) rfl)) ?_;cases xe <;> simp only [gn,b5] at oke
  refine wp_skip ?_;refine mc (O:=fun _ _ _=>none) (np:=0) (N:=N) nc hm 1 _ _ ok6 C4 φ4 _ ⟨[(4,.d (.nils s))],[.hole,.hole]⟩ a4 .ret k4 hs4 (by rw [z4]; exact N3) rfl _ ?_
  intro C5 φ5 a5 k5 r5 hs5 z5 d5;obtain ⟨φ6,r6,hs6⟩:=a33 (n:=4) (i:=1) (s:=s) hs5 rfl rfl;exact hQ C5 φ6 a5 k5 (((r03.trans r4).trans r5).trans r6) hs6 (z5.trans (z4.trans z03)) (d5.trans (d4.trans d03))
 ·have hpos:0<n:=by omega
  refine wp_seq (mc (O:=fun _ _ _=>none) (np:=0) (N:=N) nc hm 1 _ _ ok9 C3 φ3 _ ⟨[(0,.d (.nils s)),(1,.d (.int .i64 n)),(16,.d (.bool true))],[.hole,.hole]⟩ a3 .normal k3 hs3' N3 (by
   simp [dm,fy,n8,gv,Ins.side,Ins.on,b6,Env.arg,Env.get,Env.putO,Env.kill,Op.kill,Env.keep,ma,Env.refd,V.refs,ut,wv,hpos]) _ ?_)
  intro C4 φ4 a4 k4 r4 hs4 z4 d4;refine wp_cond_true (ze (c6 hs4 (k4▸okc1) rfl)) ?_;refine Hz (ks:=[0]) (a3i (r:=[(16,.d (.bool true))]) hpos hroom hbeq okb.1 h3 h4 h5 h6) rb10 k4 hs4 (by rw [z4]; exact N3) ?_
  intro C5 φ5 a5 k5 r5 hs5 z5 d5;have N5:N≤a5.tmps.size:=by rw [z5,z4]; exact N3
  refine mc (O:=fun _ _ _=>none) (np:=0) (N:=N) nc hm 1 _ _ ok6 C5 φ5 ⟨[(0,.sl 1 [] 0 0 none)],[.hole,.sl false s (List.replicate n z)]⟩ (Jb s z n) a5 .ret k5 hs5 N5 rfl _ ?_
  intro C6 φ6 a6 k6 r6 hs6 z6 d6;exact hQ C6 φ6 a6 k6 (((r03.trans r4).trans r5).trans r6) hs6 (z6.trans (z5.trans (z4.trans z03))) (d6.trans (d5.trans (d4.trans d03)))
theorem Xd {s:Sh} {z:D} {bytes:Nat} (hm:P.follows .mixedOrders=true) {f:Nat} {g:Func} (hg:P.funcs[num f]? = some g) (hok:B6 P num (H9 s) g=true) (hshape:(match g.body with | some x=>sc P num s z bytes x | none=>false)=true) (hbeq:Sh.beq s s=true)
 {n:Nat} (hroom:n*bytes≤1099511627776) (hn:n≤1099511627776) {C:Cx} {φ:Loc} {us:List Value} (hC:C.num=num) (hr:HR C φ []) (hb:∀b,C.I b→b<C.w.heap.size) (hv:RXs C φ [] [.d (.nils s),.d (.int .i64 n)] us) :
 To P (num f) us C φ [] [.sl false s (List.replicate n z)] (.sl 0 [] 0 0 none):=by
 unfold B6 at hok;simp only [av,bne_iff_ne,ne_eq,decide_eq_true_eq] at hok;obtain ⟨⟨⟨hname,hnp⟩,hres⟩,hbody⟩:=hok;cases hcode:g.body with
 | none=>rw [hcode] at hbody; cases hbody
 | some code=>
  rw [hcode] at hbody hshape;simp only at hbody hshape;refine (W6 (H9 s) hg hname hnp hres hcode (vs:=[.d (.nils s),.d (.int .i64 n)]) (bs:=[]) (ans:=(.sl 0 [] 0 0 none,[],[.sl false s (List.replicate n z)])) .ret (Jb s z n) rfl ?_ (fun C φ a hC hs hN Q hQ=>ab2 hm hbody hshape hbeq hroom hn C φ a hC hs hN Q hQ) hC hr hb hv).2
  simp [H9,Jb,xx,Sr,Env.get,nm,t7,V.refs,Heap.pick,V.ren,List.idxOf,List.findIdx,List.findIdx.go]
def Nz (ids:Nat→Option (Sh×D×Nat)):am:=fun f vs bs=>
 match ids f with
 | some (s,z,bytes)=>match vs with
  | [.d (.nils t),.d (.int .i64 (.ofNat n))]=>match bs with
   | []=>if Sh.beq t s=true∧n*bytes≤1099511627776∧n≤1099511627776 then some (.sl 0 [] 0 0 none,[],[.sl false s (List.replicate n z)]) else none
   | _=>none
  | _=>none
 | none=>none
theorem a4e {ids:Nat→Option (Sh×D×Nat)} {f:Nat} {s:Sh} {z:D} {bytes:Nat} {n:Nat} (h1:ids f=some (s,z,bytes)) (h0:Sh.beq s s=true) (h2:n*bytes≤1099511627776) (h3:n≤1099511627776) :
 Nz ids f [.d (.nils s),.d (.int .i64 n)] []=some (.sl 0 [] 0 0 none,[],[.sl false s (List.replicate n z)]):=by
 have e:((n:Nat):Int)=.ofNat n:=rfl;rw [e];simp [Nz,h1,h0,h2,h3]
theorem V2 {ids:Nat→Option (Sh×D×Nat)} (hm:P.follows .mixedOrders=true)
 (hids:∀f s z bytes,ids f=some (s,z,bytes)→Sh.beq s s=true∧∃g,P.funcs[num f]? = some g∧B6 P num (H9 s) g=true∧(match g.body with | some x=>sc P num s z bytes x | none=>false)=true):km P num (Nz ids):=by
 intro f vs bs ans h C φ us hC hr hb hv;unfold Nz at h
 split at h
 ·rename_i s z bytes hi
  split at h
  ·rename_i t n
   split at h
   ·split at h
    ·rename_i hc
     obtain rfl:=au h;obtain ⟨hbeq,g,hg,hok,hshape⟩:=hids f s z bytes hi;obtain rfl:=Sh.beq_eq _ _ hc.1;exact ⟨rfl,Xd hm hg hok hshape hbeq hc.2.1 hc.2.2 hC hr hb hv⟩
    ·cases h
   ·cases h
  ·cases h
 ·cases h
def orA (A B:am):am:=fun f vs bs=>match A f vs bs with
 | some r=>some r
 | none=>B f vs bs
theorem a36 {A B:am} (ha:km P num A) (hb:km P num B):km P num (orA A B):=by
 intro f vs bs ans h;unfold orA at h
 split at h
 ·rename_i r hr
  obtain rfl:=au h;exact ha f vs bs _ hr
 ·exact hb f vs bs ans h
theorem a5k {A B:am} {f:Nat} {vs:List V} {bs:Heap} {r:Ans} (h:A f vs bs=some r):orA A B f vs bs=some r:=by
 simp [orA,h]
theorem a2j {A B:am} {f:Nat} {vs:List V} {bs:Heap} {r:Ans} (h:B f vs bs=some r) (h0:A f vs bs=none):orA A B f vs bs=some r:=by
 simp [orA,h,h0]
end Pe

/-
 Functions of the laws in the small form,printed by a program.
-/
namespace Pe
open Go
def Z24_L0:Cd:=
 .seq (Irg [Lw 5 4,
 Ibc 6 .lss 5 64] [1,2,3,4,6]
 (Icd 6
 (.skip)
 (.exit 0)))
 (.seq (.block 1 (.region [Lw 9 4,
 Lw 10 4,
 Iis 11 64 .leaf 1 10,
 Ilx 12 11,
 Iis 13 64 .leaf 3 9,
 Ls (.store false .leaf (.t 13) (.t 12))] [1,2,3,4]))
 (.region [Lw 7 4,
 Ibc 8 .add 7 1,
 Lw 4 8] [1,2,3,4]))
def Z24_B:Cd:=
 Irg [Ibx 1 0 0,
 Ibz 2 1] [1,2]
 (Irg [Ibz 3 2] [1,2,3]
 (.seq (Irg [Imc 4 0] [1,2,3,4]
 (.block 0 (.loop (Z24_L0))))
 (Irg [Ipx 14 3,
 Ls (.store false Sx6 (.t 2) (.t 14))] [2]
 (.ret))))
def Z24:Fn:=
 { nparams:=1,nblk:=3,results:=[.cell 2 Sx6],body:=Z24_B }
end Pe

/-
 Functions of the laws in the small form,printed by a program.
-/
namespace Pe
open Go
def Z1z_L0:Cd:=
 .seq (Irg [Lw 6 5,
 Ibc 7 .lss 6 64] [2,3,5,7]
 (Icd 7
 (.skip)
 (.exit 0)))
 (.seq (.block 1 (Irg [Lw 10 5,
 Iis 11 64 .leaf 2 10,
 Ilx 12 11,
 Lw 13 5,
 Iis 14 64 .leaf 3 13,
 Ilx 15 14,
 Ibn 16 .neq 12 15] [2,3,5,16]
 (Icd 16
 (Irg [Ll 4 (.mv (.c (.bool false)))] [4]
 (.ret))
 (.skip))))
 (.region [Lw 8 5,
 Ibc 9 .add 8 1,
 Lw 5 9] [2,3,5]))
def Z1z_B:Cd:=
 Irg [Ibx 2 0 0,
 Ibx 3 1 1,
 Ll 4 (.mv (.c (.bool false)))] [2,3]
 (.seq (Irg [Imc 5 0] [2,3,5]
 (.block 0 (.loop (Z1z_L0))))
 (Irg [Ll 4 (.mv (.c (.bool true)))] [4]
 (.ret)))
def Z1z:Fn:=
 { nparams:=2,nblk:=2,results:=[.tmp 4],body:=Z1z_B }
end Pe

/-
 Functions of the laws in the small form,printed by a program.
-/
namespace Pe
open Go
def Z23_B:Cd:=
 Irg [Imc 4 0] [0,1]
 (Irg [Lw 5 1,
 Lw 6 0,
 Ien 7 6,
 Ibn 8 .sub 5 7,
 Lw 1 8] [1]
 (.seq (Irg [Lw 9 1,
 Ibc 10 .lss 9 0] [1,10]
 (Icd 10
 (Irg [Imc 4 (-1)] [4]
 (.ret))
 (.skip)))
 (Irg [Lw 11 1,
 Lw 4 11] [4]
 (.ret))))
def Z23:Fn:=
 { nparams:=2,nblk:=0,results:=[.tmp 4],body:=Z23_B }
def Z25_L0:Cd:=
 .seq (Irg [Lw 8 4,
 Lw 9 0,
 Ien 10 9,
 Ibn 11 .lss 8 10] [0,3,4,11]
 (Icd 11
 (.skip)
 (.exit 0)))
 (.seq (.block 1 (.region [Lw 14 3,
 Lw 15 4,
 Lw 16 0,
 Lw 17 4,
 Iia 18 Sx6 16 17,
 Ipx 19 18,
 Ll 20 (Ofx F24 [(.t 19)]),
 Iia 21 Sx6 14 15,
 Ls (.store false Sx6 (.t 21) (.t 20))] [0,3,4]))
 (.region [Lw 12 4,
 Ibc 13 .add 12 1,
 Lw 4 13] [0,3,4]))
def Z25_B:Cd:=
 Irg [Ll 2 (.mv (.c (.sl Sx6 [])))] [0]
 (Irg [Lw 5 0,
 Ien 6 5,
 Ll 7 (.mkSl 0 Sx6 (.arr 64 .leaf z64) 64 (.t 6) (.t 6)),
 Lw 3 7] [0,3]
 (.seq (Irg [Imc 4 0] [0,3,4]
 (.block 0 (.loop (Z25_L0))))
 (Irg [Lw 22 3,
 Lw 2 22] [2]
 (.ret))))
def Z25:Fn:=
 { nparams:=1,nblk:=1,results:=[.tmp 2],body:=Z25_B }
def Z26_L0:Cd:=
 .seq (Irg [Lw 8 4,
 Lw 9 0,
 Ien 10 9,
 Ibn 11 .lss 8 10] [0,3,4,11]
 (Icd 11
 (.skip)
 (.exit 0)))
 (.seq (.block 1 (.region [Lw 14 3,
 Lw 15 4,
 Lw 16 0,
 Lw 17 4,
 Iia 18 Sx6 16 17,
 Ipx 19 18,
 Ll 20 (Ofx F24 [(.t 19)]),
 Iia 21 Sx6 14 15,
 Ls (.store false Sx6 (.t 21) (.t 20))] [0,3,4]))
 (.region [Lw 12 4,
 Ibc 13 .add 12 1,
 Lw 4 13] [0,3,4]))
def Z26_B:Cd:=
 Irg [Ll 2 (.nilOwn 0 Sx6)] [0]
 (Irg [Lw 5 0,
 Ien 6 5,
 Ll 7 (.mkSl 1 Sx6 (.arr 64 .leaf z64) 64 (.t 6) (.t 6)),
 Lw 3 7] [0,3]
 (.seq (Irg [Imc 4 0] [0,3,4]
 (.block 0 (.loop (Z26_L0))))
 (Irg [Lw 22 3,
 Lw 2 22] [2]
 (.ret))))
def Z26:Fn:=
 { nparams:=1,nblk:=2,results:=[.tmp 2],body:=Z26_B }
def Z20_L0:Cd:=
 .seq (Irg [Lw 11 5,
 Lw 12 0,
 Ien 13 12,
 Ibn 14 .lss 11 13] [0,1,5,14]
 (Icd 14
 (.skip)
 (.exit 0)))
 (.seq (.block 1 (Irg [Lw 17 0,
 Lw 18 5,
 Iia 19 Sx6 17 18,
 Ipx 20 19,
 Lw 21 1,
 Lw 22 5,
 Iia 23 Sx6 21 22,
 Ipx 24 23,
 Ll 25 (Ofx F1z [(.t 20),(.t 24)]),
 Ll 26 (.un .not (.t 25))] [0,1,5,26]
 (Icd 26
 (Irg [Ll 4 (.mv (.c (.bool false)))] [4]
 (.ret))
 (.skip))))
 (.region [Lw 15 5,
 Ibc 16 .add 15 1,
 Lw 5 16] [0,1,5]))
def Z20_B:Cd:=
 Irg [Ll 4 (.mv (.c (.bool false)))] [0,1]
 (.seq (Irg [Lw 6 0,
 Ien 7 6,
 Lw 8 1,
 Ien 9 8,
 Ibn 10 .neq 7 9] [0,1,10]
 (Icd 10
 (Irg [Ll 4 (.mv (.c (.bool false)))] [4]
 (.ret))
 (.skip)))
 (.seq (Irg [Imc 5 0] [0,1,5]
 (.block 0 (.loop (Z20_L0))))
 (Irg [Ll 4 (.mv (.c (.bool true)))] [4]
 (.ret))))
def Z20:Fn:=
 { nparams:=2,nblk:=0,results:=[.tmp 4],body:=Z20_B }
def Z22_L0:Cd:=
 .seq (Irg [Lw 13 6,
 Ibc 14 .lss 13 64] [0,1,5,6,14]
 (Icd 14
 (.skip)
 (.exit 2)))
 (.seq (.block 3 (Irg [Lw 17 0,
 Lw 18 5,
 Lw 19 6,
 Lw 20 1,
 Icv 21 .u8 20,
 Iia 22 Sx6 17 18,
 Iis 23 64 .leaf 22 19,
 Ls (.store false .leaf (.t 23) (.t 21))] [0,1,5,6]
 (.region [Lw 24 1,
 Ibc 25 .add 24 1,
 Lw 1 25] [0,1,5,6])))
 (.region [Lw 15 6,
 Ibc 16 .add 15 1,
 Lw 6 16] [0,1,5,6]))
def Z22_L1:Cd:=
 .seq (Irg [Lw 7 5,
 Lw 8 0,
 Ien 9 8,
 Ibn 10 .lss 7 9] [0,1,5,10]
 (Icd 10
 (.skip)
 (.exit 0)))
 (.seq (.block 1 (Irg [Imc 6 0] [0,1,5,6]
 (.block 2 (.loop (Z22_L0)))))
 (.region [Lw 11 5,
 Ibc 12 .add 11 1,
 Lw 5 12] [0,1,5]))
def Z22_B:Cd:=
 Irg [Imc 4 0] [0,1]
 (.seq (Irg [Imc 5 0] [0,1,5]
 (.block 0 (.loop (Z22_L1))))
 (Irg [Lw 26 1,
 Lw 4 26] [4]
 (.ret)))
def Z22:Fn:=
 { nparams:=2,nblk:=0,results:=[.tmp 4],body:=Z22_B }
def Z21_L0:Cd:=
 .seq (Irg [Lw 13 6,
 Ibc 14 .lss 13 64] [0,1,5,6,14]
 (Icd 14
 (.skip)
 (.exit 2)))
 (.seq (.block 3 (.seq (Irg [Lw 17 0,
 Lw 18 5,
 Lw 19 6,
 Iia 20 Sx6 17 18,
 Iis 21 64 .leaf 20 19,
 Ilx 22 21,
 Lw 23 1,
 Icv 24 .u8 23,
 Ibn 25 .neq 22 24] [0,1,5,6,25]
 (Icd 25
 (Irg [Imc 4 (-1)] [4]
 (.ret))
 (.skip)))
 (.region [Lw 26 1,
 Ibc 27 .add 26 1,
 Lw 1 27] [0,1,5,6])))
 (.region [Lw 15 6,
 Ibc 16 .add 15 1,
 Lw 6 16] [0,1,5,6]))
def Z21_L1:Cd:=
 .seq (Irg [Lw 7 5,
 Lw 8 0,
 Ien 9 8,
 Ibn 10 .lss 7 9] [0,1,5,10]
 (Icd 10
 (.skip)
 (.exit 0)))
 (.seq (.block 1 (Irg [Imc 6 0] [0,1,5,6]
 (.block 2 (.loop (Z21_L0)))))
 (.region [Lw 11 5,
 Ibc 12 .add 11 1,
 Lw 5 12] [0,1,5]))
def Z21_B:Cd:=
 Irg [Imc 4 0] [0,1]
 (.seq (Irg [Imc 5 0] [0,1,5]
 (.block 0 (.loop (Z21_L1))))
 (Irg [Lw 28 1,
 Lw 4 28] [4]
 (.ret)))
def Z21:Fn:=
 { nparams:=2,nblk:=0,results:=[.tmp 4],body:=Z21_B }
end Pe

/-
 Functions of the program in the small form,printed by a program.
-/
namespace Pe
open Go
def Zk_B:Cd:=
 Irg [Ibx 2 0 0,
 Ibx 3 1 1,
 Ll 4 (.mv (.c (.bool false)))] [2,3]
 (Irg [Ll 5 (.fldA [.leaf,.leaf] (.t 2) 0),
 Ilx 6 5,
 Ipx 7 3,
 Ll 8 (Ofx Fu [(.t 6),(.t 7)]),
 Lw 9 8,
 Lg 10 (.load Sx6 (.t 3)) 9 true,
 Lg 11 (Opx F1m [(.t 10)]) 9 true,
 Lg 12 (Ofx F1o [(.t 11)]) 9 true,
 Lg 13 (.fldA [.leaf,.leaf] (.t 2) 1) 9 true,
 Lg 14 (.load .leaf (.t 13)) 9 true,
 Lg 15 (Ofx F1o [(.t 14)]) 9 true,
 Lg 16 (.bin .lss (.t 12) (.t 15)) 9 true,
 Ian 17 9 16,
 Lw 4 17] [4]
 (.ret))
def Zk:Fn:=
 { nparams:=2,nblk:=2,results:=[.tmp 4],body:=Zk_B }
def Ze_B:Cd:=
 Irg [Ibx 3 0 1,
 Ll 4 (.box false 1 (.c (.st [.leaf,.leaf] [(.int .i64 0),(.sl .leaf [])])))] [0,3,4]
 (Irg [Lw 5 0,
 Ipx 6 3,
 Ll 7 (Opx F1m [(.t 6)]),
 Ll 8 (.build false (.st [.leaf,.leaf] [(.int .i64 0),(.sl .leaf [])]) [(0,(.t 5)),(1,(.t 7))]),
 Ls (.store false (.st [.leaf,.leaf]) (.t 4) (.t 8))] [4]
 (.ret))
def Ze:Fn:=
 { nparams:=2,nblk:=2,results:=[.cell 4 (.st [.leaf,.leaf])],body:=Ze_B }
def Zt_B:Cd:=
 Irg [Ibx 3 0 1,
 Ll 4 (.mv (.c (.bool false)))] [0,3]
 (Irg [Ipx 6 3,
 Ll 7 (Opx F1m [(.t 6)]),
 Lw 5 7] [0,3,5]
 (Irg [Lw 8 0,
 Ipx 9 3,
 Ll 10 (Ofx F6 [(.t 8),(.t 9)]),
 Lw 11 10,
 Lx 12 5 11 true,
 Lg 13 (Ofx F1o [(.t 12)]) 11 true,
 Lg 14 (Ofx F1x [(.t 13),(Acx 1),(Acx 4)]) 11 true,
 Ian 15 11 14,
 Lw 16 15,
 Lx 17 0 16 true,
 Lx 18 5 16 true,
 Lg 19 (Ofx F18 [(.t 17),(.t 18)]) 16 true,
 Ian 20 16 19,
 Lw 4 20] [4]
 (.ret)))
def Zt:Fn:=
 { nparams:=2,nblk:=1,results:=[.tmp 4],body:=Zt_B }
def Zm_B:Cd:=
 Irg [Ibx 3 0 0,
 Ll 6 (.mv (.c (.sl .leaf [])))] [1,2,3]
 (Irg [Ll 7 (.fldA [.leaf,.leaf] (.t 3) 0),
 Ilx 8 7,
 Ll 9 (.fldA [.leaf,.leaf] (.t 3) 0),
 Ilx 10 9,
 Lw 11 1,
 Lw 12 2,
 Ll 13 (Opx F1j [(.t 10),(.t 11),(.t 12)]),
 Ll 14 (.fldA [.leaf,.leaf] (.t 3) 1),
 Ilx 15 14,
 Ll 16 (Opx F1g [(.t 8),(.t 13),(.t 15)]),
 Lw 6 16] [6]
 (.ret))
def Zm:Fn:=
 { nparams:=3,nblk:=1,results:=[.tmp 6],body:=Zm_B }
def Zj_B:Cd:=
 Irg [Ibx 2 0 0,
 Ll 4 (.mv (.c (.sl .leaf [])))] [1,2]
 (Irg [Ll 9 (.fldA [.leaf,.leaf] (.t 2) 0),
 Ilx 10 9,
 Lw 11 1,
 Ll 12 (.fldA [.leaf,.leaf] (.t 2) 1),
 Ilx 13 12,
 Ll 14 (Opx F10 [(.t 10),(.t 11),(.t 13)]),
 Lw 8 14,
 Iex 15 8 0,
 Iex 16 8 1,
 Iex 17 8 2,
 Lw 5 15,
 Lw 6 16,
 Lw 7 17] [2,6]
 (Irg [Ll 18 (.fldA [.leaf,.leaf] (.t 2) 0),
 Ilx 19 18,
 Lw 20 6,
 Ll 21 (.fldA [.leaf,.leaf] (.t 2) 1),
 Ilx 22 21,
 Ll 23 (Opx F1g [(.t 19),(.t 20),(.t 22)]),
 Lw 4 23] [4]
 (.ret)))
def Zj:Fn:=
 { nparams:=2,nblk:=1,results:=[.tmp 4],body:=Zj_B }
def Zi_L0:Cd:=
 Irg [Ibn 13 .lss 12 11] [1,3,11,12,13]
 (.seq (Icd 13
 (.skip)
 (.exit 0))
 (.seq (.block 1 (.region [Ll 14 (.fldA [.leaf,.leaf] (.t 3) 0),
 Ilx 15 14,
 Lw 16 1,
 Ll 17 (.fldA [.leaf,.leaf] (.t 3) 0),
 Ilx 18 17,
 Ll 19 (.fldA [.leaf,.leaf] (.t 3) 1),
 Ilx 20 19,
 Ll 21 (Opx F1b [(.t 15),(.t 16),(.t 18),(.t 20)]),
 Lw 1 21] [1,3,11,12]))
 (.region [Ibc 22 .add 12 1,
 Lw 12 22] [1,3,11,12])))
def Zi_B:Cd:=
 Irg [Ibx 3 0 0,
 Ll 6 (.mv (.c (.sl .leaf [])))] [1,2,3]
 (.seq (Irg [Lw 7 2,
 Ll 8 (.fldA [.leaf,.leaf] (.t 3) 1),
 Ilx 9 8,
 Ll 10 (Ofx F1o [(.t 9)]),
 Ibn 11 .rem 7 10,
 Imc 12 0] [1,3,11,12]
 (.block 0 (.loop (Zi_L0))))
 (Irg [Lw 23 1,
 Lw 6 23] [6]
 (.ret)))
def Zi:Fn:=
 { nparams:=3,nblk:=1,results:=[.tmp 6],body:=Zi_B }
def Zq_L0:Cd:=
 Irg [Ibn 13 .lss 12 11] [2,3,7,10,11,12,13]
 (.seq (Icd 13
 (.skip)
 (.exit 0))
 (.seq (.block 1 (Irg [Lw 14 12,
 Iia 15 .leaf 10 12,
 Ilx 16 15,
 Lw 8 14,
 Lw 9 16] [2,3,7,8,9,10,11,12]
 (.region [Ll 17 (.fldA [.leaf,.leaf] (.t 3) 0),
 Ilx 18 17,
 Lw 19 7,
 Ll 20 (.load (.st [.leaf,.leaf]) (.t 3)),
 Lw 21 9,
 Ll 22 (.load (.st [.leaf,.leaf]) (.t 3)),
 Lw 23 2,
 Lw 24 8,
 Ll 25 (Opx Fi [(.t 22),(.t 23),(.t 24)]),
 Ll 26 (Opx Fm [(.t 20),(.t 21),(.t 25)]),
 Ll 27 (Opx F11 [(.t 18),(.t 19),(.t 26),(Acx 1)]),
 Lw 7 27] [2,3,7,10,11,12])))
 (.region [Ibc 28 .add 12 1,
 Lw 12 28] [2,3,7,10,11,12])))
def Zq_B:Cd:=
 Irg [Ibx 3 0 0,
 Ll 6 (.mv (.c (.sl .leaf [])))] [1,2,3]
 (Irg [Ll 7 (.mv (.c (.sl .leaf [])))] [1,2,3,7]
 (.seq (Irg [Lw 10 1,
 Ien 11 10,
 Imc 12 0] [2,3,7,10,11,12]
 (.block 0 (.loop (Zq_L0))))
 (Irg [Lw 29 7,
 Lw 6 29] [6]
 (.ret))))
def Zq:Fn:=
 { nparams:=3,nblk:=1,results:=[.tmp 6],body:=Zq_B }
def Z1l_B:Cd:=
 Irg [Ibx 4 0 1,
 Imc 6 0] [0,2,4]
 (.seq (Irg [Lw 7 0,
 Ipx 8 4,
 Ll 9 (Ofx Ft [(.t 7),(.t 8)]),
 Ll 10 (.un .not (.t 9)),
 Lw 11 10,
 Lx 12 2 11 false,
 Lx 13 0 11 false,
 Lg 14 (.load Sx6 (.t 4)) 11 false,
 Lg 15 (Opx Fe [(.t 13),(.t 14)]) 11 false,
 Lg 16 (.mkFn Fk [(.t 15)] []) 11 false,
 Lg 17 (Ofx Fa [(.t 12),(.t 16)]) 11 false,
 Lg 18 (.un .not (.t 17)) 11 false,
 Ior 19 11 18] [19]
 (Icd 19
 (Irg [Imc 6 1] [6]
 (.ret))
 (.skip)))
 (Irg [Imc 6 0] [6]
 (.ret)))
def Z1l:Fn:=
 { nparams:=3,nblk:=1,results:=[.tmp 6],body:=Z1l_B }
def Z1w_L0:Cd:=
 .seq (Irg [Lw 6 3,
 Ibc 7 .gtr 6 0,
 Lw 8 7,
 Lx 9 0 8 true,
 Lx 10 3 8 true,
 Lg 11 (.bin .sub (.t 10) (Acx 1)) 8 true,
 Lg 12 (.idxA none .leaf (.t 9) (.t 11)) 8 true,
 Lg 13 (.load .leaf (.t 12)) 8 true,
 Lg 14 (.len false (.t 13)) 8 true,
 Lg 15 (.bin .eql (.t 14) (Acx 0)) 8 true,
 Ian 16 8 15] [0,3,16]
 (Icd 16
 (.skip)
 (.exit 0)))
 (.block 1 (.region [Lw 17 3,
 Ibc 18 .sub 17 1,
 Lw 3 18] [0,3]))
def Z1w_B:Cd:=
 Irg [Ll 2 (.mv (.c (.sl .leaf [])))] [0]
 (Irg [Lw 4 0,
 Ien 5 4,
 Lw 3 5] [0,3]
 (.seq (.block 0 (.loop (Z1w_L0)))
 (Irg [Lw 19 0,
 Lw 20 3,
 Lw 21 3,
 Ll 22 (.cut none .leaf (.t 19) none (some (.t 20)) (some (.t 21))),
 Lw 2 22] [2]
 (.ret))))
def Z1w:Fn:=
 { nparams:=1,nblk:=0,results:=[.tmp 2],body:=Z1w_B }
def Z1f_B:Cd:=
 Irg [Imc 4 0] [0,1]
 (Irg [Lw 5 1,
 Ien 6 5,
 Lw 7 0,
 Ien 8 7,
 Ibn 9 .sub 6 8,
 Lw 4 9] [4]
 (.ret))
def Z1f:Fn:=
 { nparams:=2,nblk:=0,results:=[.tmp 4],body:=Z1f_B }
def Z1e_L0:Cd:=
 Irg [Ibn 21 .lss 20 19] [0,5,7,12,13,14,18,19,20,21]
 (.seq (Icd 21
 (.skip)
 (.exit 2))
 (.seq (.block 3 (Irg [Iia 22 .leaf 18 20,
 Ilx 23 22,
 Lw 9 23] [0,5,7,9,12,13,14,18,19,20]
 (.region [Lw 24 0,
 Lw 25 7,
 Lw 26 9,
 Lw 27 7,
 Lw 28 9,
 Ien 29 28,
 Ibc 30 .sub 29 1,
 Ll 31 (Ofx F1n [(.t 27),(.t 30)]),
 Ll 32 (.un .neg (.t 31)),
 Ll 33 (Opx F11 [(.t 24),(.t 25),(.t 26),(.t 32)]),
 Lw 7 33] [0,5,7,12,13,14,18,19,20])))
 (.region [Ibc 34 .add 20 1,
 Lw 20 34] [0,5,7,12,13,14,18,19,20])))
def Z1e_L1:Cd:=
 Irg [Ibn 48 .lss 47 46] [0,5,7,12,13,14,45,46,47,48]
 (.seq (Icd 48
 (.skip)
 (.exit 4))
 (.seq (.block 5 (Irg [Lw 49 47,
 Iia 50 .leaf 45 47,
 Ilx 51 50,
 Lw 10 49,
 Lw 11 51] [0,5,7,10,11,12,13,14,45,46,47]
 (.region [Lw 52 5,
 Lw 53 10,
 Lw 54 0,
 Lw 55 11,
 Lw 56 7,
 Lw 57 11,
 Lw 58 7,
 Ien 59 58,
 Ibc 60 .sub 59 1,
 Ll 61 (Ofx F1n [(.t 57),(.t 60)]),
 Ll 62 (.un .neg (.t 61)),
 Ll 63 (Opx F11 [(.t 54),(.t 55),(.t 56),(.t 62)]),
 Iia 64 .leaf 52 53,
 Ls (.store false .leaf (.t 64) (.t 63))] [0,5,7,12,13,14,45,46,47])))
 (.region [Ibc 65 .add 47 1,
 Lw 47 65] [0,5,7,12,13,14,45,46,47])))
def Z1e_L2:Cd:=
 Irg [Ibn 15 .lss 14 13] [0,5,12,13,14,15]
 (.seq (Icd 15
 (.skip)
 (.exit 0))
 (.seq (.block 1 (Irg [Iia 16 .leaf 12 14,
 Ilx 17 16,
 Lw 7 17] [0,5,7,12,13,14]
 (.seq (Irg [Lw 18 5,
 Ien 19 18,
 Imc 20 0] [0,5,7,12,13,14,18,19,20]
 (.block 2 (.loop (Z1e_L0))))
 (.seq (Irg [Lw 35 7,
 Ien 36 35,
 Ibc 37 .eql 36 0] [0,5,7,12,13,14,37]
 (Icd 37
 (.exit 1)
 (.skip)))
 (Irg [Lw 38 0,
 Lw 39 7,
 Lw 40 0,
 Lw 41 7,
 Ll 42 (Ofx F1p [(.t 41)]),
 Ll 43 (Ofx F17 [(.t 40),(.t 42)]),
 Ll 44 (Opx F1h [(.t 38),(.t 39),(.t 43)]),
 Lw 7 44] [0,5,7,12,13,14]
 (.seq (Irg [Lw 45 5,
 Ien 46 45,
 Imc 47 0] [0,5,7,12,13,14,45,46,47]
 (.block 4 (.loop (Z1e_L1))))
 (Irg [Lw 66 5,
 Lw 67 7,
 Ll 68 (.buildSl false 1 .leaf (.sl .leaf []) 1 [(0,(.t 67))]),
 Ll 69 (.append .leaf 2 24 (.t 66) (.t 68)),
 Lw 5 69] [0,5,12,13,14]
 (.region [Lw 70 5,
 Ll 71 (.call .heap [] (.f F2i) [(.t 70),(.f F1f)])] [0,5,12,13,14]))))))))
 (.region [Ibc 72 .add 14 1,
 Lw 14 72] [0,5,12,13,14])))
def Z1e_B:Cd:=
 Irg [Ll 4 (.mv (.c (.sl .leaf [])))] [0,1]
 (Irg [Ll 5 (.nilOwn 0 .leaf)] [0,1,5]
 (.seq (Irg [Lw 12 1,
 Ien 13 12,
 Imc 14 0] [0,5,12,13,14]
 (.block 0 (.loop (Z1e_L2))))
 (Irg [Lw 73 5,
 Lw 4 73] [4]
 (.ret))))
def Z1e:Fn:=
 { nparams:=2,nblk:=3,results:=[.tmp 4],body:=Z1e_B }
def Z1v_B:Cd:=
 Irg [Imc 2 0] [0]
 (Irg [Lw 3 0,
 Ien 4 3,
 Ibc 5 .sub 4 1,
 Lw 2 5] [2]
 (.ret))
def Z1v:Fn:=
 { nparams:=1,nblk:=0,results:=[.tmp 2],body:=Z1v_B }
def Zf_L0:Cd:=
 Irg [Ibn 37 .lss 36 35] [2,3,7,8,9,27,28,29,34,35,36,37]
 (.seq (Icd 37
 (.skip)
 (.exit 2))
 (.seq (.block 3 (Irg [Lw 38 36,
 Iia 39 .leaf 34 36,
 Ilx 40 39,
 Lw 10 38,
 Lw 11 40] [2,3,7,8,9,10,11,27,28,29,34,35,36]
 (.region [Lw 41 7,
 Lw 42 8,
 Lw 43 10,
 Ibn 44 .add 42 43,
 Ll 45 (.fldA [.leaf,.leaf] (.t 3) 0),
 Ilx 46 45,
 Lw 47 7,
 Lw 48 8,
 Lw 49 10,
 Ibn 50 .add 48 49,
 Iia 51 .leaf 47 50,
 Ilx 52 51,
 Ll 53 (.load (.st [.leaf,.leaf]) (.t 3)),
 Lw 54 9,
 Ll 55 (.load (.st [.leaf,.leaf]) (.t 3)),
 Lw 56 11,
 Lw 57 8,
 Ll 58 (Opx Fi [(.t 55),(.t 56),(.t 57)]),
 Ll 59 (Opx Fm [(.t 53),(.t 54),(.t 58)]),
 Ll 60 (Opx F11 [(.t 46),(.t 52),(.t 59),(Acx 1)]),
 Iia 61 .leaf 41 44,
 Ls (.store false .leaf (.t 61) (.t 60))] [2,3,7,8,9,27,28,29,34,35,36])))
 (.region [Ibc 62 .add 36 1,
 Lw 36 62] [2,3,7,8,9,27,28,29,34,35,36])))
def Zf_L1:Cd:=
 Irg [Ibn 30 .lss 29 28] [2,3,7,27,28,29,30]
 (.seq (Icd 30
 (.skip)
 (.exit 0))
 (.seq (.block 1 (Irg [Lw 31 29,
 Iia 32 .leaf 27 29,
 Ilx 33 32,
 Lw 8 31,
 Lw 9 33] [2,3,7,8,9,27,28,29]
 (Irg [Lw 34 2,
 Ien 35 34,
 Imc 36 0] [2,3,7,8,9,27,28,29,34,35,36]
 (.block 2 (.loop (Zf_L0))))))
 (.region [Ibc 63 .add 29 1,
 Lw 29 63] [2,3,7,27,28,29])))
def Zf_B:Cd:=
 Irg [Ibx 3 0 0,
 Ll 6 (.mv (.c (.sl .leaf [])))] [1,2,3]
 (.seq (Irg [Lw 12 1,
 Ien 13 12,
 Ibc 14 .eql 13 0,
 Lw 15 14,
 Lx 16 2 15 false,
 Lg 17 (.len false (.t 16)) 15 false,
 Lg 18 (.bin .eql (.t 17) (Acx 0)) 15 false,
 Ior 19 15 18] [1,2,3,19]
 (Icd 19
 (Irg [Ll 6 (.mv (.c (.sl .leaf [])))] [6]
 (.ret))
 (.skip)))
 (Irg [Lw 20 1,
 Ien 21 20,
 Lw 22 2,
 Ien 23 22,
 Ibn 24 .add 21 23,
 Ibc 25 .sub 24 1,
 Ll 26 (.mkSl 1 .leaf (.sl .leaf []) 24 (.t 25) (.t 25)),
 Lw 7 26] [1,2,3,7]
 (.seq (Irg [Lw 27 1,
 Ien 28 27,
 Imc 29 0] [2,3,7,27,28,29]
 (.block 0 (.loop (Zf_L1))))
 (Irg [Lw 64 7,
 Ll 65 (.call .data [] (.f F1w) [(.t 64)]),
 Lw 6 65] [6]
 (.ret)))))
def Zf:Fn:=
 { nparams:=3,nblk:=2,results:=[.tmp 6],body:=Zf_B }
def Z1t_B:Cd:=
 Irg [Ll 4 (.mv (.c (.sl .leaf [])))] [0,1]
 (Irg [Lw 6 1,
 Ibc 7 .add 6 1,
 Ll 8 (.mkSl 0 .leaf (.sl .leaf []) 24 (.t 7) (.t 7)),
 Lw 5 8] [0,1,5]
 (Irg [Lw 9 5,
 Lw 10 1,
 Lw 11 0,
 Iia 12 .leaf 9 10,
 Ls (.store false .leaf (.t 12) (.t 11))] [5]
 (Irg [Lw 13 5,
 Lw 4 13] [4]
 (.ret))))
def Z1t:Fn:=
 { nparams:=2,nblk:=1,results:=[.tmp 4],body:=Z1t_B }
def Z1u_B:Cd:=
 Irg [Ll 4 (.mv (.c (.sl .leaf [])))] [0,1]
 (.seq (Irg [Lw 5 1,
 Lw 6 0,
 Ien 7 6,
 Ibn 8 .lss 5 7] [0,1,8]
 (Icd 8
 (Irg [Lw 9 0,
 Lw 10 1,
 Iia 11 .leaf 9 10,
 Ilx 12 11,
 Lw 4 12] [4]
 (.ret))
 (.skip)))
 (Irg [Ll 4 (.mv (.c (.sl .leaf [])))] [4]
 (.ret)))
def Z1u:Fn:=
 { nparams:=2,nblk:=0,results:=[.tmp 4],body:=Z1u_B }
def Zl_L0:Cd:=
 Irg [Ibn 20 .lss 19 18] [1,2,3,4,9,18,19,20]
 (.seq (Icd 20
 (.skip)
 (.exit 0))
 (.seq (.block 1 (Irg [Lw 21 19,
 Lw 10 21] [1,2,3,4,9,10,18,19]
 (.region [Lw 22 9,
 Lw 23 10,
 Ll 24 (.fldA [.leaf,.leaf] (.t 4) 0),
 Ilx 25 24,
 Lw 26 1,
 Lw 27 10,
 Ll 28 (Opx F1u [(.t 26),(.t 27)]),
 Lw 29 2,
 Lw 30 10,
 Ll 31 (Opx F1u [(.t 29),(.t 30)]),
 Lw 32 3,
 Ll 33 (Opx F11 [(.t 25),(.t 28),(.t 31),(.t 32)]),
 Iia 34 .leaf 22 23,
 Ls (.store false .leaf (.t 34) (.t 33))] [1,2,3,4,9,18,19])))
 (.region [Ibc 35 .add 19 1,
 Lw 19 35] [1,2,3,4,9,18,19])))
def Zl_B:Cd:=
 Irg [Ibx 4 0 0,
 Ll 8 (.mv (.c (.sl .leaf [])))] [1,2,3,4]
 (Irg [Lw 11 1,
 Ien 12 11,
 Lw 13 2,
 Ien 14 13,
 Ll 15 (.maxI (.t 12) (.t 14)),
 Ll 16 (.mkSl 1 .leaf (.sl .leaf []) 24 (.t 15) (.t 15)),
 Lw 9 16] [1,2,3,4,9]
 (.seq (Irg [Lw 17 9,
 Ien 18 17,
 Imc 19 0] [1,2,3,4,9,18,19]
 (.block 0 (.loop (Zl_L0))))
 (Irg [Lw 36 9,
 Ll 37 (.call .data [] (.f F1w) [(.t 36)]),
 Lw 8 37] [8]
 (.ret))))
def Zl:Fn:=
 { nparams:=4,nblk:=2,results:=[.tmp 8],body:=Zl_B }
def Zh_L0:Cd:=
 .seq (Irg [Lw 16 1,
 Ien 17 16,
 Lw 18 2,
 Ien 19 18,
 Ibn 20 .geq 17 19] [1,2,3,8,9,20]
 (Icd 20
 (.skip)
 (.exit 0)))
 (.block 1 (Irg [Lw 21 1,
 Ien 22 21,
 Lw 23 2,
 Ien 24 23,
 Ibn 25 .sub 22 24,
 Lw 10 25] [1,2,3,8,9,10]
 (Irg [Ll 26 (.load (.st [.leaf,.leaf]) (.t 3)),
 Lw 27 1,
 Lw 28 1,
 Ien 29 28,
 Ibc 30 .sub 29 1,
 Iia 31 .leaf 27 30,
 Ilx 32 31,
 Ll 33 (.load (.st [.leaf,.leaf]) (.t 3)),
 Lw 34 2,
 Lw 35 2,
 Ien 36 35,
 Ibc 37 .sub 36 1,
 Iia 38 .leaf 34 37,
 Ilx 39 38,
 Ll 40 (Opx Fj [(.t 33),(.t 39)]),
 Ll 41 (Opx Fm [(.t 26),(.t 32),(.t 40)]),
 Lw 11 41] [1,2,3,8,9,10,11]
 (Irg [Ll 42 (.load (.st [.leaf,.leaf]) (.t 3)),
 Lw 43 11,
 Lw 44 9,
 Lw 45 2,
 Ll 46 (Ofx F1v [(.t 45)]),
 Lw 47 9,
 Ibn 48 .rem 46 47,
 Ibn 49 .sub 44 48,
 Ll 50 (Opx Fi [(.t 42),(.t 43),(.t 49)]),
 Lw 51 10,
 Ll 52 (Opx F1t [(.t 50),(.t 51)]),
 Lw 12 52] [1,2,3,8,9,12]
 (Irg [Ll 53 (.load (.st [.leaf,.leaf]) (.t 3)),
 Lw 54 8,
 Lw 55 12,
 Ll 56 (Opx Fl [(.t 53),(.t 54),(.t 55),(Acx 1)]),
 Lw 8 56] [1,2,3,8,9,12]
 (.region [Ll 57 (.load (.st [.leaf,.leaf]) (.t 3)),
 Lw 58 1,
 Ll 59 (.load (.st [.leaf,.leaf]) (.t 3)),
 Lw 60 2,
 Lw 61 12,
 Ll 62 (Opx Ff [(.t 59),(.t 60),(.t 61)]),
 Ll 63 (Opx Fl [(.t 57),(.t 58),(.t 62),(Acx (-1))]),
 Lw 1 63] [1,2,3,8,9]))))))
def Zh_B:Cd:=
 Irg [Ibx 3 0 0,
 Ll 6 (.mv (.c (.sl .leaf []))),
 Ll 7 (.mv (.c (.sl .leaf [])))] [1,2,3]
 (Irg [Ll 8 (.mv (.c (.sl .leaf [])))] [1,2,3,8]
 (Irg [Ll 13 (.fldA [.leaf,.leaf] (.t 3) 1),
 Ilx 14 13,
 Ll 15 (Ofx F1o [(.t 14)]),
 Lw 9 15] [1,2,3,8,9]
 (.seq (.block 0 (.loop (Zh_L0)))
 (Irg [Lw 64 8,
 Lw 65 1,
 Lw 6 64,
 Lw 7 65] [6,7]
 (.ret)))))
def Zh:Fn:=
 { nparams:=3,nblk:=1,results:=[.tmp 6,.tmp 7],body:=Zh_B }
end Pe

/-
 Functions of the program in the small form,printed by a program.
-/
namespace Pe
open Go
def Z1s_L0:Cd:=
 Irg [Ibn 9 .lss 8 7] [3,6,7,8,9]
 (.seq (Icd 9
 (.skip)
 (.exit 0))
 (.seq (.block 1 (Irg [Iia 10 Sx6 6 8,
 Ipx 11 10,
 Ibz 5 1,
 Ls (.store false Sx6 (.t 5) (.t 11))] [3,5,6,7,8]
 (.region [Lw 12 3,
 Ipx 13 5,
 Ll 14 (Opx F1m [(.t 13)]),
 Ll 15 (.buildSl false 2 .leaf (.sl .leaf []) 1 [(0,(.t 14))]),
 Ll 16 (.append .leaf 3 24 (.t 12) (.t 15)),
 Lw 3 16] [3,6,7,8])))
 (.region [Ibc 17 .add 8 1,
 Lw 8 17] [3,6,7,8])))
def Z1s_B:Cd:=
 Irg [Ll 2 (.mv (.c (.sl .leaf [])))] [0]
 (Irg [Ll 3 (.nilOwn 0 .leaf)] [0,3]
 (.seq (Irg [Lw 6 0,
 Ien 7 6,
 Imc 8 0] [3,6,7,8]
 (.block 0 (.loop (Z1s_L0))))
 (Irg [Lw 18 3,
 Lw 2 18] [2]
 (.ret))))
def Z1s:Fn:=
 { nparams:=1,nblk:=4,results:=[.tmp 2],body:=Z1s_B }
end Pe

/-
 Functions of the program in the small form,printed by a program.
-/
namespace Pe
open Go
def Z1c_B:Cd:=
 Irg [Imc 4 0] [0,1]
 (Irg [Lw 5 0,
 Lw 6 1,
 Ll 7 (Opx F1e [(.t 5),(.t 6)]),
 Ien 8 7,
 Lw 4 8] [4]
 (.ret))
def Z1c:Fn:=
 { nparams:=2,nblk:=0,results:=[.tmp 4],body:=Z1c_B }
def Z12_L0:Cd:=
 Irg [Ibn 13 .lss 12 11] [0,2,7,10,11,12,13]
 (.seq (Icd 13
 (.skip)
 (.exit 0))
 (.seq (.block 1 (Irg [Lw 14 12,
 Iia 15 .leaf 10 12,
 Ilx 16 15,
 Lw 8 14,
 Lw 9 16] [0,2,7,8,9,10,11,12]
 (.region [Lw 17 7,
 Lw 18 0,
 Lw 19 9,
 Lw 20 2,
 Lw 21 8,
 Iia 22 .leaf 20 21,
 Ilx 23 22,
 Ll 24 (Opx F11 [(.t 18),(.t 19),(.t 23),(Acx (-1))]),
 Ll 25 (.buildSl false 1 .leaf (.sl .leaf []) 1 [(0,(.t 24))]),
 Ll 26 (.append .leaf 2 24 (.t 17) (.t 25)),
 Lw 7 26] [0,2,7,10,11,12])))
 (.region [Ibc 27 .add 12 1,
 Lw 12 27] [0,2,7,10,11,12])))
def Z12_B:Cd:=
 Irg [Imc 6 0] [0,1,2]
 (Irg [Ll 7 (.nilOwn 0 .leaf)] [0,1,2,7]
 (.seq (Irg [Lw 10 1,
 Ien 11 10,
 Imc 12 0] [0,2,7,10,11,12]
 (.block 0 (.loop (Z12_L0))))
 (Irg [Lw 28 0,
 Lw 29 7,
 Ll 30 (Ofx F1c [(.t 28),(.t 29)]),
 Lw 6 30] [6]
 (.ret))))
def Z12:Fn:=
 { nparams:=3,nblk:=3,results:=[.tmp 6],body:=Z12_B }
def Zy_B:Cd:=
 Irg [Ibx 6 0 1,
 Imc 10 0] [0,2,3,4,6]
 (.seq (Irg [Lw 12 0,
 Ipx 13 6,
 Lw 14 2,
 Lw 15 3,
 Ll 16 (.buildSl false 1 .leaf (.sl Sx6 []) 2 [(0,(.t 14)),(1,(.t 15))]),
 ⟨some 17,.call .data [] (.f F2b) [(.t 16)],none,[6]⟩,
 Ll 18 (Ofx F1l [(.t 12),(.t 13),(.t 17)]),
 Lw 11 18] [0,2,4,11]
 (Irg [Lw 19 11,
 Ibc 20 .neq 19 0] [0,2,4,11,20]
 (Icd 20
 (Irg [Lw 21 11,
 Lw 10 21] [10]
 (.ret))
 (.skip))))
 (.seq (.block 0 (Irg [Lw 23 2,
 Ien 24 23,
 Ibc 25 .lss 24 1,
 Lw 26 25,
 Lx 27 2 26 false,
 Lg 28 (.len false (.t 27)) 26 false,
 Lg 29 (.bin .gtr (.t 28) (Acx 4)) 26 false,
 Ior 30 26 29,
 Lw 31 30,
 Lx 32 4 31 false,
 Lg 33 (.un .not (.t 32)) 31 false,
 Ior 34 31 33,
 Lw 22 34] [0,2,22]
 (Icd 22
 (Irg [Imc 10 2] [10]
 (.ret))
 (Irg [Lw 36 0,
 Lw 37 2,
 Ll 38 (Opx F1s [(.t 37)]),
 Ll 39 (Ofx F1c [(.t 36),(.t 38)]),
 Lw 40 2,
 Ien 41 40,
 Ibn 42 .lss 39 41,
 Lw 35 42] [35]
 (Icd 35
 (Irg [Imc 10 5] [10]
 (.ret))
 (.skip))))))
 (Irg [Imc 10 0] [10]
 (.ret))))
def Zy:Fn:=
 { nparams:=5,nblk:=2,results:=[.tmp 10],body:=Zy_B }
def Zr_L0:Cd:=
 Irg [Ibn 13 .lss 12 11] [1,3,7,10,11,12,13]
 (.seq (Icd 13
 (.skip)
 (.exit 0))
 (.seq (.block 1 (Irg [Iia 14 .leaf 10 12,
 Ilx 15 14,
 Lw 9 15] [1,3,7,9,10,11,12]
 (.region [Lw 16 7,
 Ll 17 (.load (.st [.leaf,.leaf]) (.t 3)),
 Lw 18 1,
 Lw 19 9,
 Ll 20 (Opx Fq [(.t 17),(.t 18),(.t 19)]),
 Ll 21 (.buildSl false 2 .leaf (.sl .leaf []) 1 [(0,(.t 20))]),
 Ll 22 (.append .leaf 3 24 (.t 16) (.t 21)),
 Lw 7 22] [1,3,7,10,11,12])))
 (.region [Ibc 23 .add 12 1,
 Lw 12 23] [1,3,7,10,11,12])))
def Zr_B:Cd:=
 Irg [Ibx 3 0 0,
 Ll 6 (.mv (.c (.sl .leaf [])))] [1,2,3]
 (Irg [Ll 7 (.nilOwn 1 .leaf)] [1,2,3,7]
 (.seq (Irg [Lw 10 2,
 Ien 11 10,
 Imc 12 0] [1,3,7,10,11,12]
 (.block 0 (.loop (Zr_L0))))
 (Irg [Lw 24 7,
 Lw 6 24] [6]
 (.ret))))
def Zr:Fn:=
 { nparams:=3,nblk:=4,results:=[.tmp 6],body:=Zr_B }
def Zs_B:Cd:=
 Irg [Ll 6 (.mv (.c (.bool false)))] [0,1,2]
 (Irg [Lw 7 1,
 Lw 8 0,
 Ien 9 8,
 Ll 10 (Ofx F1x [(.t 7),(Acx 1),(.t 9)]),
 Lw 11 10,
 Lx 12 2 11 true,
 Lg 13 (.len false (.t 12)) 11 true,
 Lx 14 0 11 true,
 Lg 15 (.len false (.t 14)) 11 true,
 Lg 16 (.bin .eql (.t 13) (.t 15)) 11 true,
 Ian 17 11 16,
 Lw 6 17] [6]
 (.ret))
def Zs:Fn:=
 { nparams:=3,nblk:=0,results:=[.tmp 6],body:=Zs_B }
end Pe

/-
 Functions of the laws in the small form,printed by a program.
-/
namespace Pe
open Go
def ir_spec_l09Nullt_L0:Cd:=
 .seq (Irg [Lw 36 12,
 Lw 37 2,
 Ien 38 37,
 Ibn 39 .lss 36 38,
 Lw 40 39,
 Lx 41 2 40 true,
 Lx 42 12 40 true,
 Lg 43 (.tbA (.t 41) (.t 42)) 40 true,
 Lg 44 (.tbLoad (.t 43)) 40 true,
 Lx 45 11 40 true,
 Lg 46 (.idxA none Sx6 (.t 44) (.t 45)) 40 true,
 Lg 47 (.load Sx6 (.t 46)) 40 true,
 Lg 48 (Ofx F3e [(.t 47)]) 40 true,
 Lg 49 (.bin .lss (.t 48) (Acx 0)) 40 true,
 Ian 50 40 49] [0,2,3,5,9,10,11,12,50]
 (Icd 50
 (.skip)
 (.exit 2)))
 (.block 3 (.region [Lw 51 12,
 Ibc 52 .add 51 1,
 Lw 12 52] [0,2,3,5,9,10,11,12]))
def ir_spec_l09Nullt_L1:Cd:=
 .seq (Irg [Lw 79 15,
 Lw 80 3,
 Ibn 81 .lss 79 80] [0,2,3,5,9,10,11,13,14,15,81]
 (Icd 81
 (.skip)
 (.exit 4)))
 (.seq (.block 5 (.region [Lw 84 13,
 Lw 85 15,
 Lw 86 0,
 Lw 87 13,
 Lw 88 15,
 Iia 89 Sx6 87 88,
 Ipx 90 89,
 Ipx 91 14,
 Ipx 92 5,
 Ll 93 (Ofx F3n [(.t 86),(.t 90),(.t 91),(.t 92)]),
 Iia 94 Sx6 84 85,
 Ls (.store false Sx6 (.t 94) (.t 93))] [0,2,3,5,9,10,11,13,14,15]))
 (.region [Lw 82 15,
 Ibc 83 .add 82 1,
 Lw 15 83] [0,2,3,5,9,10,11,13,14,15]))
def ir_spec_l09Nullt_L2:Cd:=
 .seq (Irg [Lw 112 19,
 Lw 113 3,
 Ibn 114 .lss 112 113,
 Lw 115 114,
 Lx 116 16 115 true,
 Lx 117 10 115 true,
 Lg 118 (.bin .neq (.t 116) (.t 117)) 115 true,
 Ian 119 115 118] [0,2,3,5,9,10,11,13,16,17,18,19,119]
 (Icd 119
 (.skip)
 (.exit 8)))
 (.seq (.block 9 (.region [Lw 122 18,
 Lw 123 19,
 Lw 124 0,
 Lw 125 18,
 Lw 126 19,
 Iia 127 Sx6 125 126,
 Ipx 128 127,
 Lw 129 0,
 Ipx 130 17,
 Lw 131 13,
 Lw 132 19,
 Iia 133 Sx6 131 132,
 Ipx 134 133,
 Ipx 135 5,
 Ll 136 (Ofx F3n [(.t 129),(.t 130),(.t 134),(.t 135)]),
 Ll 137 (Ofx F3c [(.t 124),(.t 128),(.t 136),(Acx (-1))]),
 Iia 138 Sx6 122 123,
 Ls (.store false Sx6 (.t 138) (.t 137))] [0,2,3,5,9,10,11,13,16,17,18,19]))
 (.region [Lw 120 19,
 Ibc 121 .add 120 1,
 Lw 19 121] [0,2,3,5,9,10,11,13,16,17,18,19]))
def ir_spec_l09Nullt_L3:Cd:=
 .seq (Irg [Lw 95 16,
 Lw 96 2,
 Ien 97 96,
 Ibn 98 .lss 95 97] [0,2,3,5,9,10,11,13,16,98]
 (Icd 98
 (.skip)
 (.exit 6)))
 (.seq (.block 7 (Irg [Lw 101 2,
 Lw 102 16,
 Ll 103 (.tbA (.t 101) (.t 102)),
 Ll 104 (.tbLoad (.t 103)),
 Lw 105 11,
 Iia 106 Sx6 104 105,
 Ipx 107 106,
 Lw 108 2,
 Lw 109 16,
 Ll 110 (.tbA (.t 108) (.t 109)),
 Ll 111 (.tbLoad (.t 110)),
 Ibz 17 3,
 ⟨none,.store false Sx6 (.t 17) (.t 107),none,[108,109,110]⟩,
 Lw 18 111] [0,2,3,5,9,10,11,13,16,17,18]
 (Irg [Imc 19 0] [0,2,3,5,9,10,11,13,16,17,18,19]
 (.block 8 (.loop (ir_spec_l09Nullt_L2))))))
 (.region [Lw 99 16,
 Ibc 100 .add 99 1,
 Lw 16 100] [0,2,3,5,9,10,11,13,16]))
def ir_spec_l09Nullt_L4:Cd:=
 .seq (Irg [Lw 24 11,
 Lw 25 3,
 Ibn 26 .lss 24 25,
 Lw 27 26,
 Lx 28 10 27 true,
 Lx 29 2 27 true,
 Lg 30 (.len false (.t 29)) 27 true,
 Lg 31 (.bin .lss (.t 28) (.t 30)) 27 true,
 Ian 32 27 31] [0,2,3,5,9,10,11,32]
 (Icd 32
 (.skip)
 (.exit 0)))
 (.seq (.block 1 (Irg [Lw 35 10,
 Lw 12 35] [0,2,3,5,9,10,11,12]
 (.seq (.block 2 (.loop (ir_spec_l09Nullt_L0)))
 (.seq (Irg [Lw 53 12,
 Lw 54 2,
 Ien 55 54,
 Ibn 56 .eql 53 55] [0,2,3,5,9,10,11,12,56]
 (Icd 56
 (.exit 1)
 (.skip)))
 (Irg [Lw 57 2,
 Lw 58 12,
 Ll 59 (.tbA (.t 57) (.t 58)),
 Ll 60 (.tbLoad (.t 59)),
 Lw 13 60] [0,2,3,5,9,10,11,12,13]
 (Irg [Lw 61 2,
 Lw 62 12,
 Lw 63 2,
 Lw 64 10,
 Ll 65 (.tbA (.t 63) (.t 64)),
 Ll 66 (.tbLoad (.t 65)),
 Ll 67 (.tbA (.t 61) (.t 62)),
 Ls (.tbStore (.t 67) (.t 66))] [0,2,3,5,9,10,11,13]
 (Irg [Lw 68 2,
 Lw 69 10,
 Lw 70 13,
 Ll 71 (.tbA (.t 68) (.t 69)),
 Ls (.tbStore (.t 71) (.t 70))] [0,2,3,5,9,10,11,13]
 (Irg [Lw 72 0,
 Lw 73 13,
 Lw 74 11,
 Iia 75 Sx6 73 74,
 Ipx 76 75,
 Ipx 77 5,
 Ll 78 (Ofx F3y [(.t 72),(.t 76),(.t 77)]),
 Ibz 14 2,
 Ls (.store false Sx6 (.t 14) (.t 78))] [0,2,3,5,9,10,11,13,14]
 (.seq (Irg [Imc 15 0] [0,2,3,5,9,10,11,13,14,15]
 (.block 4 (.loop (ir_spec_l09Nullt_L1))))
 (.seq (Irg [Imc 16 0] [0,2,3,5,9,10,11,13,16]
 (.block 6 (.loop (ir_spec_l09Nullt_L3))))
 (Irg [Lw 139 9,
 Lw 140 11,
 Ll 141 (.buildSl false 4 .leaf (.int .i64 0) 1 [(0,(.t 140))]),
 Ll 142 (.append .leaf 5 8 (.t 139) (.t 141)),
 Lw 9 142] [0,2,3,5,9,10,11]
 (.region [Lw 143 10,
 Ibc 144 .add 143 1,
 Lw 10 144] [0,2,3,5,9,10,11]))))))))))))
 (.region [Lw 33 11,
 Ibc 34 .add 33 1,
 Lw 11 34] [0,2,3,5,9,10,11]))
def ir_spec_l09Nullt_L5:Cd:=
 .seq (Irg [Lw 147 21,
 Lw 148 9,
 Ien 149 148,
 Ibn 150 .lss 147 149,
 Lw 151 150,
 Lx 152 9 151 true,
 Lx 153 21 151 true,
 Lg 154 (.idxA none .leaf (.t 152) (.t 153)) 151 true,
 Lg 155 (.load .leaf (.t 154)) 151 true,
 Lx 156 21 151 true,
 Lg 157 (.bin .eql (.t 155) (.t 156)) 151 true,
 Ian 158 151 157] [0,2,3,9,20,21,158]
 (Icd 158
 (.skip)
 (.exit 10)))
 (.block 11 (.region [Lw 159 21,
 Ibc 160 .add 159 1,
 Lw 21 160] [0,2,3,9,20,21]))
def ir_spec_l09Nullt_L6:Cd:=
 .seq (Irg [Lw 169 22,
 Lw 170 9,
 Ien 171 170,
 Ibn 172 .lss 169 171] [0,2,9,20,21,22,172]
 (Icd 172
 (.skip)
 (.exit 12)))
 (.seq (.block 13 (.region [Lw 175 20,
 Lw 176 9,
 Lw 177 22,
 Iia 178 .leaf 176 177,
 Ilx 179 178,
 Lw 180 0,
 Iz6 181,
 Lw 182 2,
 Lw 183 22,
 Ll 184 (.tbA (.t 182) (.t 183)),
 Ll 185 (.tbLoad (.t 184)),
 Lw 186 21,
 Iia 187 Sx6 185 186,
 Ipx 188 187,
 Ll 189 (Ofx F3c [(.t 180),(.t 181),(.t 188),(Acx (-1))]),
 Iia 190 Sx6 175 179,
 Ls (.store false Sx6 (.t 190) (.t 189))] [0,2,9,20,21,22]))
 (.region [Lw 173 22,
 Ibc 174 .add 173 1,
 Lw 22 174] [0,2,9,20,21,22]))
def ir_spec_l09Nullt_B:Cd:=
 Irg [Ibx 5 0 1,
 Ll 8 (.mv (.c (.sl Sx6 [])))] [0,2,3,5]
 (Irg [Ll 23 (.buildSl false 1 .leaf (.int .i64 0) 0 []),
 Lw 9 23,
 Imc 10 0] [0,2,3,5,9,10]
 (.seq (Irg [Imc 11 0] [0,2,3,5,9,10,11]
 (.block 0 (.loop (ir_spec_l09Nullt_L4))))
 (Irg [Lw 145 3,
 Ll 146 (.mkSl 6 Sx6 (.arr 64 .leaf z64) 64 (.t 145) (.t 145)),
 Lw 20 146,
 Imc 21 0] [0,2,3,9,20,21]
 (.seq (.block 10 (.loop (ir_spec_l09Nullt_L5)))
 (.seq (Irg [Lw 161 21,
 Lw 162 3,
 Ibn 163 .eql 161 162] [0,2,9,20,21,163]
 (Icd 163
 (Irg [Lw 164 20,
 Lw 8 164] [8]
 (.ret))
 (.skip)))
 (Irg [Lw 165 20,
 Lw 166 21,
 Ll 167 (Ofx F3o []),
 Iia 168 Sx6 165 166,
 Ls (.store false Sx6 (.t 168) (.t 167))] [0,2,9,20,21]
 (.seq (Irg [Imc 22 0] [0,2,9,20,21,22]
 (.block 12 (.loop (ir_spec_l09Nullt_L6))))
 (Irg [Lw 191 20,
 Lw 8 191] [8]
 (.ret)))))))))
def ir_spec_l09Nullt:Fn:=
 { nparams:=4,nblk:=7,results:=[.tmp 8],body:=ir_spec_l09Nullt_B }
def ir_spec_l09Decodet_L0:Cd:=
 .seq (Irg [Lw 44 18,
 Lw 45 13,
 Ibn 46 .leq 44 45] [0,2,3,4,6,10,12,13,14,15,16,17,18,46]
 (Icd 46
 (.skip)
 (.exit 2)))
 (.seq (.block 3 (.region [Lw 49 17,
 Lw 50 0,
 Lw 51 4,
 Lw 52 16,
 Iia 53 Sx6 51 52,
 Ipx 54 53,
 Lw 55 18,
 Ipx 56 6,
 Ll 57 (Ofx F3x [(.t 50),(.t 54),(.t 55),(.t 56)]),
 Ll 58 (.buildSl false 4 Sx6 (.arr 64 .leaf z64) 1 [(0,(.t 57))]),
 Ll 59 (.append Sx6 5 64 (.t 49) (.t 58)),
 Lw 17 59] [0,2,3,4,6,10,12,13,14,15,16,17,18]))
 (.region [Lw 47 18,
 Ibc 48 .add 47 1,
 Lw 18 48] [0,2,3,4,6,10,12,13,14,15,16,17,18]))
def ir_spec_l09Decodet_L1:Cd:=
 .seq (Irg [Lw 60 19,
 Lw 61 3,
 Lw 62 13,
 Ibn 63 .add 61 62,
 Ibn 64 .lss 60 63] [0,2,3,4,6,10,12,13,14,15,16,17,19,64]
 (Icd 64
 (.skip)
 (.exit 4)))
 (.seq (.block 5 (.region [Lw 67 17,
 Lw 68 0,
 Iz6 69,
 Lw 70 0,
 Lw 71 2,
 Lw 72 16,
 Iia 73 Sx6 71 72,
 Ipx 74 73,
 Lw 75 19,
 Ipx 76 6,
 Ll 77 (Ofx F3x [(.t 70),(.t 74),(.t 75),(.t 76)]),
 Ll 78 (Ofx F3c [(.t 68),(.t 69),(.t 77),(Acx (-1))]),
 Ll 79 (.buildSl false 6 Sx6 (.arr 64 .leaf z64) 1 [(0,(.t 78))]),
 Ll 80 (.append Sx6 7 64 (.t 67) (.t 79)),
 Lw 17 80] [0,2,3,4,6,10,12,13,14,15,16,17,19]))
 (.region [Lw 65 19,
 Ibc 66 .add 65 1,
 Lw 19 66] [0,2,3,4,6,10,12,13,14,15,16,17,19]))
def ir_spec_l09Decodet_L2:Cd:=
 .seq (Irg [Lw 38 16,
 Lw 39 12,
 Ibn 40 .lss 38 39] [0,2,3,4,6,10,12,13,14,15,16,40]
 (Icd 40
 (.skip)
 (.exit 0)))
 (.seq (.block 1 (Irg [Ll 43 (.buildSl false 3 Sx6 (.arr 64 .leaf z64) 0 []),
 Lw 17 43] [0,2,3,4,6,10,12,13,14,15,16,17]
 (.seq (Irg [Imc 18 0] [0,2,3,4,6,10,12,13,14,15,16,17,18]
 (.block 2 (.loop (ir_spec_l09Decodet_L0))))
 (.seq (Irg [Imc 19 0] [0,2,3,4,6,10,12,13,14,15,16,17,19]
 (.block 4 (.loop (ir_spec_l09Decodet_L1))))
 (.region [Lw 81 14,
 Lw 82 17,
 Ll 83 (.tbOne 8 (.t 82)),
 Ll 84 (.tbApp 24 (.t 81) (.t 83)),
 Lw 14 84] [0,2,3,4,6,10,12,13,14,15,16])))))
 (.region [Lw 41 16,
 Ibc 42 .add 41 1,
 Lw 16 42] [0,2,3,4,6,10,12,13,14,15,16]))
def ir_spec_l09Decodet_B:Cd:=
 Irg [Ibx 6 0 1,
 Ll 10 (.box false 1 (.c (.arr 8 Sx6 z8))),
 Ll 11 (.mv (.c (.bool false)))] [0,2,3,4,6,10]
 (Irg [Lw 25 2,
 Ien 26 25,
 Lw 12 26] [0,2,3,4,6,10,12]
 (Irg [Lw 27 12,
 Lw 28 3,
 Ibn 29 .sub 27 28,
 Ibc 30 .quo 29 2,
 Lw 13 30] [0,2,3,4,6,10,12,13]
 (Irg [Ll 31 (.buildSl false 2 .leaf (.sl Sx6 []) 0 []),
 Lw 32 13,
 Ibc 33 .add 32 1,
 Lw 34 3,
 Ibn 35 .add 33 34,
 Lw 36 13,
 Ibn 37 .add 35 36,
 Lw 14 31,
 Lw 15 37] [0,2,3,4,6,10,12,13,14,15]
 (.seq (Irg [Imc 16 0] [0,2,3,4,6,10,12,13,14,15,16]
 (.block 0 (.loop (ir_spec_l09Decodet_L2))))
 (Irg [Lw 85 0,
 Ipx 86 6,
 Lw 87 14,
 Lw 88 15,
 Ll 89 (.call .heap [9] (.f F49) [(.t 85),(.t 86),(.t 87),(.t 88)]),
 Lw 20 89] [0,2,3,4,6,10,13,20]
 (Irg [Lw 90 20,
 Lw 91 13,
 Ibc 92 .add 91 1,
 Ll 93 (.cut none Sx6 (.t 90) none (some (.t 92)) none),
 Ll 94 (Ofx F4b [(.t 93)]),
 Lw 95 20,
 Lw 96 13,
 Ibc 97 .add 96 1,
 Ll 98 (.cut none Sx6 (.t 95) (some (.t 97)) none none),
 Ll 99 (Ofx F4b [(.t 98)]),
 Ll 21 (.box false 10 (.c (.arr 8 Sx6 z8))),
 Ll 22 (.box false 11 (.c (.arr 8 Sx6 z8))),
 Ls (.store false Sx8 (.t 21) (.t 94)),
 Ls (.store false Sx8 (.t 22) (.t 99))] [0,2,3,4,6,10,13,21,22]
 (.seq (Irg [Isx 100 21,
 Ll 101 (Ofx F3v [(.t 100)]),
 Ibc 102 .lss 101 0] [0,2,3,4,6,10,13,21,22,102]
 (Icd 102
 (Irg [Ll 103 (.build false (.arr 8 Sx6 z8) []),
 Ls (.store false Sx8 (.t 10) (.t 103)),
 Ll 11 (.mv (.c (.bool false)))] [10,11]
 (.ret))
 (.skip)))
 (Irg [Lw 105 0,
 Ipx 106 6,
 Isx 107 22,
 Isx 108 21,
 Ll 109 (Ofx F3z [(.t 105),(.t 106),(.t 107),(.t 108)]),
 Lw 104 109,
 Iex 110 104 0,
 Iex 111 104 1,
 Ll 23 (.box false 12 (.c (.arr 8 Sx6 z8))),
 Ll 24 (.box false 13 (.c (.arr 8 Sx6 z8))),
 Ls (.store false Sx8 (.t 23) (.t 110)),
 Ls (.store false Sx8 (.t 24) (.t 111))] [0,2,3,4,6,10,13,23,24]
 (.seq (Irg [Isx 112 24,
 Ll 113 (Ofx F3v [(.t 112)]),
 Ibc 114 .geq 113 0,
 Lw 115 114,
 Lg 116 (.load Sx8 (.t 23)) 115 false,
 Lg 117 (Ofx F3v [(.t 116)]) 115 false,
 Lx 118 3 115 false,
 Lg 119 (.bin .geq (.t 117) (.t 118)) 115 false,
 Ior 120 115 119] [0,2,4,6,10,13,23,120]
 (Icd 120
 (Irg [Ll 121 (.build false (.arr 8 Sx6 z8) []),
 Ls (.store false Sx8 (.t 10) (.t 121)),
 Ll 11 (.mv (.c (.bool false)))] [10,11]
 (.ret))
 (.skip)))
 (Irg [Isx 122 23,
 Lw 123 0,
 Lw 124 0,
 Ipx 125 6,
 Isx 126 23,
 Lw 127 2,
 Ll 128 (Opx F4d [(.t 124),(.t 125),(.t 126),(.t 127)]),
 Lw 129 4,
 Ll 130 (Ofx F48 [(.t 123),(.t 128),(.t 129)]),
 Lw 131 13,
 Ibn 132 .leq 130 131,
 Ls (.store false Sx8 (.t 10) (.t 122)),
 Lw 11 132] [10,11]
 (.ret)))))))))))
def ir_spec_l09Decodet:Fn:=
 { nparams:=5,nblk:=14,results:=[.cell 10 Sx8,.tmp 11],body:=ir_spec_l09Decodet_B }
def ir_spec_DecodeRankt_L0:Cd:=
 .seq (Irg [Lw 38 16,
 Lw 39 3,
 Ibn 40 .lss 38 39] [3,13,15,16,40]
 (Icd 40
 (.skip)
 (.exit 0)))
 (.seq (.block 1 (.region [Lw 43 15,
 Lw 44 16,
 Iis 45 8 Sx6 13 44,
 Ipx 46 45,
 Ll 47 (.buildSl false 3 Sx6 (.arr 64 .leaf z64) 1 [(0,(.t 46))]),
 Ll 48 (.append Sx6 4 64 (.t 43) (.t 47)),
 Lw 15 48] [3,13,15,16]))
 (.region [Lw 41 16,
 Ibc 42 .add 41 1,
 Lw 16 42] [3,13,15,16]))
def ir_spec_DecodeRankt_B:Cd:=
 Irg [Ibx 6 0 1,
 Ll 10 (.mv (.c (.sl Sx6 []))),
 Imc 11 0] [0,2,3,4,6]
 (Irg [Lw 17 0,
 Ipx 18 6,
 Lw 19 2,
 Lw 20 3,
 Lw 21 4,
 Ll 22 (Ofx F4a [(.t 17),(.t 18),(.t 19),(.t 20),(.t 21)]),
 Lw 12 22] [0,2,3,4,6,12]
 (.seq (Irg [Lw 23 12,
 Ibc 24 .neq 23 0] [0,2,3,4,6,12,24]
 (Icd 24
 (Irg [Lw 25 12,
 Ll 10 (.mv (.c (.sl Sx6 []))),
 Lw 11 25] [10,11]
 (.ret))
 (.skip)))
 (Irg [Lw 27 0,
 Ipx 28 6,
 Lw 29 2,
 Lw 30 3,
 Lw 31 4,
 Ll 32 (Ofx F47 [(.t 27),(.t 28),(.t 29),(.t 30),(.t 31)]),
 Lw 26 32,
 Iex 33 26 0,
 Iex 34 26 1,
 Ll 13 (.box false 1 (.c (.arr 8 Sx6 z8))),
 Ls (.store false Sx8 (.t 13) (.t 33)),
 Lw 14 34] [3,13,14]
 (.seq (Irg [Lw 35 14,
 Ll 36 (.un .not (.t 35))] [3,13,36]
 (Icd 36
 (Irg [Ll 10 (.mv (.c (.sl Sx6 []))),
 Imc 11 4] [10,11]
 (.ret))
 (.skip)))
 (Irg [Ll 37 (.buildSl false 2 Sx6 (.arr 64 .leaf z64) 0 []),
 Lw 15 37] [3,13,15]
 (.seq (Irg [Imc 16 0] [3,13,15,16]
 (.block 0 (.loop (ir_spec_DecodeRankt_L0))))
 (Irg [Lw 49 15,
 Lw 10 49,
 Imc 11 0] [10,11]
 (.ret))))))))
def ir_spec_DecodeRankt:Fn:=
 { nparams:=5,nblk:=5,results:=[.tmp 10,.tmp 11],body:=ir_spec_DecodeRankt_B }
def ir_impl_field_solutiont_L0:Cd:=
 .seq (Irg [Lw 38 9,
 Lw 39 1,
 Ien 40 39,
 Ibn 41 .lss 38 40,
 Lw 42 41,
 Lx 43 1 42 true,
 Lx 44 9 42 true,
 Lg 45 (.tbA (.t 43) (.t 44)) 42 true,
 Lg 46 (.tbLoad (.t 45)) 42 true,
 Lx 47 8 42 true,
 Lg 48 (.idxA none .leaf (.t 46) (.t 47)) 42 true,
 Lg 49 (.load .leaf (.t 48)) 42 true,
 Lg 50 (.len false (.t 49)) 42 true,
 Lg 51 (.bin .eql (.t 50) (Acx 0)) 42 true,
 Ian 52 42 51] [1,2,5,6,7,8,9,52]
 (Icd 52
 (.skip)
 (.exit 2)))
 (.block 3 (.region [Lw 53 9,
 Ibc 54 .add 53 1,
 Lw 9 54] [1,2,5,6,7,8,9]))
def ir_impl_field_solutiont_L1:Cd:=
 Irg [Ibn 84 .lss 83 82] [1,2,5,6,7,8,10,82,83,84]
 (.seq (Icd 84
 (.skip)
 (.exit 4))
 (.seq (.block 5 (Irg [Lw 85 83,
 Lw 11 85] [1,2,5,6,7,8,10,11,82,83]
 (.region [Lw 86 1,
 Lw 87 7,
 Ll 88 (.tbA (.t 86) (.t 87)),
 Ll 89 (.tbLoad (.t 88)),
 Lw 90 11,
 Ll 91 (.load (.st [.leaf,.leaf]) (.t 2)),
 Lw 92 1,
 Lw 93 7,
 Ll 94 (.tbA (.t 92) (.t 93)),
 Ll 95 (.tbLoad (.t 94)),
 Lw 96 11,
 Iia 97 .leaf 95 96,
 Ilx 98 97,
 Lw 99 10,
 Ll 100 (Opx Fm [(.t 91),(.t 98),(.t 99)]),
 Iia 101 .leaf 89 90,
 Ls (.store false .leaf (.t 101) (.t 100))] [1,2,5,6,7,8,10,82,83])))
 (.region [Ibc 102 .add 83 1,
 Lw 83 102] [1,2,5,6,7,8,10,82,83])))
def ir_impl_field_solutiont_L2:Cd:=
 Irg [Ibn 117 .lss 116 115] [1,2,5,6,7,8,12,13,104,105,115,116,117]
 (.seq (Icd 117
 (.skip)
 (.exit 8))
 (.seq (.block 9 (Irg [Lw 118 116,
 Lw 14 118] [1,2,5,6,7,8,12,13,14,104,105,115,116]
 (Irg [Lw 119 12,
 Lw 120 7,
 Ibn 121 .neq 119 120] [1,2,5,6,7,8,12,13,14,104,105,115,116,121]
 (Icd 121
 (.region [Lw 122 1,
 Lw 123 12,
 Ll 124 (.tbA (.t 122) (.t 123)),
 Ll 125 (.tbLoad (.t 124)),
 Lw 126 14,
 Ll 127 (.fldA [.leaf,.leaf] (.t 2) 0),
 Ilx 128 127,
 Lw 129 1,
 Lw 130 12,
 Ll 131 (.tbA (.t 129) (.t 130)),
 Ll 132 (.tbLoad (.t 131)),
 Lw 133 14,
 Iia 134 .leaf 132 133,
 Ilx 135 134,
 Ll 136 (.load (.st [.leaf,.leaf]) (.t 2)),
 Lw 137 13,
 Lw 138 1,
 Lw 139 7,
 Ll 140 (.tbA (.t 138) (.t 139)),
 Ll 141 (.tbLoad (.t 140)),
 Lw 142 14,
 Iia 143 .leaf 141 142,
 Ilx 144 143,
 Ll 145 (Opx Fm [(.t 136),(.t 137),(.t 144)]),
 Ll 146 (Opx F11 [(.t 128),(.t 135),(.t 145),(Acx (-1))]),
 Iia 147 .leaf 125 126,
 Ls (.store false .leaf (.t 147) (.t 146))] [1,2,5,6,7,8,12,13,104,105,115,116])
 (.skip)))))
 (.region [Ibc 148 .add 116 1,
 Lw 116 148] [1,2,5,6,7,8,12,13,104,105,115,116])))
def ir_impl_field_solutiont_L3:Cd:=
 Irg [Ibn 106 .lss 105 104] [1,2,5,6,7,8,104,105,106]
 (.seq (Icd 106
 (.skip)
 (.exit 6))
 (.seq (.block 7 (Irg [Lw 107 105,
 Lw 12 107] [1,2,5,6,7,8,12,104,105]
 (Irg [Lw 108 1,
 Lw 109 12,
 Ll 110 (.tbA (.t 108) (.t 109)),
 Ll 111 (.tbLoad (.t 110)),
 Lw 112 8,
 Iia 113 .leaf 111 112,
 Ilx 114 113,
 Lw 13 114] [1,2,5,6,7,8,12,13,104,105]
 (Irg [Lw 115 5,
 Imc 116 0] [1,2,5,6,7,8,12,13,104,105,115,116]
 (.block 8 (.loop (ir_impl_field_solutiont_L2)))))))
 (.region [Ibc 149 .add 105 1,
 Lw 105 149] [1,2,5,6,7,8,104,105])))
def ir_impl_field_solutiont_L4:Cd:=
 .seq (Irg [Lw 26 8,
 Lw 27 5,
 Ibn 28 .lss 26 27,
 Lw 29 28,
 Lx 30 7 29 true,
 Lx 31 1 29 true,
 Lg 32 (.len false (.t 31)) 29 true,
 Lg 33 (.bin .lss (.t 30) (.t 32)) 29 true,
 Ian 34 29 33] [1,2,5,6,7,8,34]
 (Icd 34
 (.skip)
 (.exit 0)))
 (.seq (.block 1 (Irg [Lw 37 7,
 Lw 9 37] [1,2,5,6,7,8,9]
 (.seq (.block 2 (.loop (ir_impl_field_solutiont_L0)))
 (.seq (Irg [Lw 55 9,
 Lw 56 1,
 Ien 57 56,
 Ibn 58 .eql 55 57] [1,2,5,6,7,8,9,58]
 (Icd 58
 (.exit 1)
 (.skip)))
 (Irg [Lw 59 1,
 Lw 60 7,
 Lw 61 1,
 Lw 62 9,
 Lw 63 1,
 Lw 64 9,
 Ll 65 (.tbA (.t 63) (.t 64)),
 Ll 66 (.tbLoad (.t 65)),
 Lw 67 1,
 Lw 68 7,
 Ll 69 (.tbA (.t 67) (.t 68)),
 Ll 70 (.tbLoad (.t 69)),
 Ll 71 (.tbA (.t 59) (.t 60)),
 Ls (.tbStore (.t 71) (.t 66)),
 Ll 72 (.tbA (.t 61) (.t 62)),
 Ls (.tbStore (.t 72) (.t 70))] [1,2,5,6,7,8]
 (Irg [Ll 73 (.load (.st [.leaf,.leaf]) (.t 2)),
 Lw 74 1,
 Lw 75 7,
 Ll 76 (.tbA (.t 74) (.t 75)),
 Ll 77 (.tbLoad (.t 76)),
 Lw 78 8,
 Iia 79 .leaf 77 78,
 Ilx 80 79,
 Ll 81 (Opx Fj [(.t 73),(.t 80)]),
 Lw 10 81] [1,2,5,6,7,8,10]
 (.seq (Irg [Lw 82 5,
 Imc 83 0] [1,2,5,6,7,8,10,82,83]
 (.block 4 (.loop (ir_impl_field_solutiont_L1))))
 (.seq (Irg [Lw 103 1,
 Ien 104 103,
 Imc 105 0] [1,2,5,6,7,8,104,105]
 (.block 6 (.loop (ir_impl_field_solutiont_L3))))
 (Irg [Lw 150 6,
 Lw 151 8,
 Lw 152 7,
 Ls (.mapSet false (.t 150) (.t 151) (.t 152))] [1,2,5,6,7,8]
 (.region [Lw 153 7,
 Ibc 154 .add 153 1,
 Lw 7 154] [1,2,5,6,7,8]))))))))))
 (.region [Lw 35 8,
 Ibc 36 .add 35 1,
 Lw 8 36] [1,2,5,6,7,8]))
def ir_impl_field_solutiont_L5:Cd:=
 .region [Lw 179 15,
 Lw 180 19,
 Ll 181 (.fldA [.leaf,.leaf] (.t 2) 0),
 Ilx 182 181,
 Lw 183 1,
 Lw 184 20,
 Ll 185 (.tbA (.t 183) (.t 184)),
 Ll 186 (.tbLoad (.t 185)),
 Lw 187 16,
 Iia 188 .leaf 186 187,
 Ilx 189 188,
 Ll 190 (Opx F1h [(.t 182),(.t 189),(Acx (-1))]),
 Iia 191 .leaf 179 180,
 Ls (.store false .leaf (.t 191) (.t 190))] [1,2,15,16]
def ir_impl_field_solutiont_L6:Cd:=
 Irg [Ibn 159 .lss 158 157] [1,2,6,15,157,158,159]
 (.seq (Icd 159
 (.skip)
 (.exit 10))
 (.seq (.block 11 (Irg [Lw 160 158,
 Lw 16 160] [1,2,6,15,16,157,158]
 (.seq (Irg [Lw 162 6,
 Lw 163 16,
 Ll 164 (.mapOk false (.t 162) (.t 163)),
 Lw 161 164,
 Iex 165 161 0,
 Iex 166 161 1,
 Lw 17 165,
 Lw 18 166] [1,2,6,15,16,18,157,158]
 (Irg [Lw 167 18] [1,2,6,15,16,157,158,167]
 (Icd 167
 (.exit 11)
 (.skip))))
 (Irg [Lw 168 15,
 Lw 169 16,
 Ll 170 (.buildSl false 3 .leaf (.int .i64 0) 1 [(0,(Acx 1))]),
 Iia 171 .leaf 168 169,
 Ls (.store true .leaf (.t 171) (.t 170))] [1,2,6,15,16]
 (.seq (.range ⟨(.t 6),172,173,174,175,176,177,178,19,20,[1,2,15,16],[1,2,15,16,19,20]⟩ (ir_impl_field_solutiont_L5))
 (.exit 10))))))
 (.region [Ibc 192 .add 158 1,
 Lw 158 192] [1,2,6,15,157,158])))
def ir_impl_field_solutiont_B:Cd:=
 Irg [Ll 2 (.box true 0 (.t 0)),
 Ll 4 (.mv (.c (.sl .leaf [])))] [1,2]
 (Irg [Lw 21 1,
 Ll 22 (.tbA (.t 21) (Acx 0)),
 Ll 23 (.tbLoad (.t 22)),
 Ien 24 23,
 Lw 5 24] [1,2,5]
 (Irg [Ll 25 (.mkMap 1),
 Lw 6 25] [1,2,5,6]
 (Irg [Imc 7 0] [1,2,5,6,7]
 (.seq (Irg [Imc 8 0] [1,2,5,6,7,8]
 (.block 0 (.loop (ir_impl_field_solutiont_L4))))
 (Irg [Lw 155 5,
 Ll 156 (.mkSl 2 .leaf (.sl .leaf []) 24 (.t 155) (.t 155)),
 Lw 15 156] [1,2,5,6,15]
 (.seq (Irg [Lw 157 5,
 Imc 158 0] [1,2,6,15,157,158]
 (.block 10 (.loop (ir_impl_field_solutiont_L6))))
 (Irg [Lw 193 15,
 Lw 4 193] [4]
 (.ret))))))))
def ir_impl_field_solutiont:Fn:=
 { nparams:=2,nblk:=4,results:=[.tmp 4],body:=ir_impl_field_solutiont_B }
def ir_impl_field_decodet_L0:Cd:=
 Irg [Ibn 36 .lss 35 34] [1,2,3,4,10,11,12,13,14,26,27,28,34,35,36]
 (.seq (Icd 36
 (.skip)
 (.exit 2))
 (.seq (.block 3 (Irg [Lw 37 35,
 Lw 15 37] [1,2,3,4,10,11,12,13,14,15,26,27,28,34,35]
 (.region [Lw 38 14,
 Ll 39 (.load (.st [.leaf,.leaf]) (.t 4)),
 Lw 40 3,
 Lw 41 12,
 Iia 42 .leaf 40 41,
 Ilx 43 42,
 Lw 44 15,
 Ll 45 (Opx Fi [(.t 39),(.t 43),(.t 44)]),
 Ll 46 (.buildSl false 3 .leaf (.sl .leaf []) 1 [(0,(.t 45))]),
 Ll 47 (.append .leaf 4 24 (.t 38) (.t 46)),
 Lw 14 47] [1,2,3,4,10,11,12,13,14,26,27,28,34,35])))
 (.region [Ibc 48 .add 35 1,
 Lw 35 48] [1,2,3,4,10,11,12,13,14,26,27,28,34,35])))
def ir_impl_field_decodet_L1:Cd:=
 Irg [Ibn 53 .lss 52 51] [1,2,3,4,10,11,13,14,26,27,28,51,52,53]
 (.seq (Icd 53
 (.skip)
 (.exit 4))
 (.seq (.block 5 (Irg [Lw 54 52,
 Lw 16 54] [1,2,3,4,10,11,13,14,16,26,27,28,51,52]
 (.region [Lw 55 14,
 Ll 56 (.fldA [.leaf,.leaf] (.t 4) 0),
 Ilx 57 56,
 Ll 58 (.load (.st [.leaf,.leaf]) (.t 4)),
 Lw 59 13,
 Lw 60 16,
 Ll 61 (Opx Fi [(.t 58),(.t 59),(.t 60)]),
 Ll 62 (Opx F1h [(.t 57),(.t 61),(Acx (-1))]),
 Ll 63 (.buildSl false 5 .leaf (.sl .leaf []) 1 [(0,(.t 62))]),
 Ll 64 (.append .leaf 6 24 (.t 55) (.t 63)),
 Lw 14 64] [1,2,3,4,10,11,13,14,26,27,28,51,52])))
 (.region [Ibc 65 .add 52 1,
 Lw 52 65] [1,2,3,4,10,11,13,14,26,27,28,51,52])))
def ir_impl_field_decodet_L2:Cd:=
 Irg [Ibn 29 .lss 28 27] [1,2,3,4,10,11,26,27,28,29]
 (.seq (Icd 29
 (.skip)
 (.exit 0))
 (.seq (.block 1 (Irg [Lw 30 28,
 Iia 31 .leaf 26 28,
 Ilx 32 31,
 Lw 12 30,
 Lw 13 32] [1,2,3,4,10,11,12,13,26,27,28]
 (Irg [Ll 14 (.nilOwn 2 .leaf)] [1,2,3,4,10,11,12,13,14,26,27,28]
 (.seq (Irg [Lw 33 10,
 Ibc 34 .add 33 1,
 Imc 35 0] [1,2,3,4,10,11,12,13,14,26,27,28,34,35]
 (.block 2 (.loop (ir_impl_field_decodet_L0))))
 (.seq (Irg [Lw 49 2,
 Lw 50 10,
 Ibn 51 .add 49 50,
 Imc 52 0] [1,2,3,4,10,11,13,14,26,27,28,51,52]
 (.block 4 (.loop (ir_impl_field_decodet_L1))))
 (.region [Lw 66 11,
 Lw 67 14,
 Ll 68 (.tbOne 7 (.t 67)),
 Ll 69 (.tbApp 24 (.t 66) (.t 68)),
 Lw 11 69] [1,2,3,4,10,11,26,27,28]))))))
 (.region [Ibc 70 .add 28 1,
 Lw 28 70] [1,2,3,4,10,11,26,27,28])))
def ir_impl_field_decodet_B:Cd:=
 Irg [Ibx 4 0 0,
 Ll 8 (.mv (.c (.sl .leaf []))),
 Ll 9 (.mv (.c (.bool false)))] [1,2,3,4]
 (Irg [Lw 21 1,
 Ien 22 21,
 Lw 23 2,
 Ibn 24 .sub 22 23,
 Ibc 25 .quo 24 2,
 Lw 10 25] [1,2,3,4,10]
 (Irg [Ll 11 (.nilOwn 1 .leaf)] [1,2,3,4,10,11]
 (.seq (Irg [Lw 26 1,
 Ien 27 26,
 Imc 28 0] [1,2,3,4,10,11,26,27,28]
 (.block 0 (.loop (ir_impl_field_decodet_L2))))
 (Irg [Ll 71 (.load (.st [.leaf,.leaf]) (.t 4)),
 Lw 72 11,
 Ll 73 (.call .heap [8] (.f Fo) [(.t 71),(.t 72)]),
 Lw 17 73] [1,2,3,4,10,17]
 (Irg [Lw 74 17,
 Lw 75 10,
 Ibc 76 .add 75 1,
 Ll 77 (.cut none .leaf (.t 74) none (some (.t 76)) none),
 Ll 78 (.call .data [] (.f F1w) [(.t 77)]),
 Lw 18 78] [1,2,3,4,10,17,18]
 (.seq (Irg [Lw 79 18,
 Ien 80 79,
 Ibc 81 .eql 80 0] [1,2,3,4,10,17,18,81]
 (Icd 81
 (Irg [Ll 8 (.mv (.c (.sl .leaf []))),
 Ll 9 (.mv (.c (.bool false)))] [8,9]
 (.ret))
 (.skip)))
 (Irg [Ll 83 (.load (.st [.leaf,.leaf]) (.t 4)),
 Lw 84 17,
 Lw 85 10,
 Ibc 86 .add 85 1,
 Ll 87 (.cut none .leaf (.t 84) (some (.t 86)) none none),
 ⟨some 88,.call .data [] (.f F1w) [(.t 87)],none,[4]⟩,
 Lw 89 18,
 Ll 90 (Opx Fh [(.t 83),(.t 88),(.t 89)]),
 Lw 82 90,
 Iex 91 82 0,
 Iex 92 82 1,
 Lw 19 91,
 Lw 20 92] [1,2,3,4,10,19,20]
 (.seq (Irg [Lw 93 20,
 Ien 94 93,
 Ibc 95 .gtr 94 0,
 Lw 96 95,
 Lx 97 19 96 false,
 Lg 98 (.len false (.t 97)) 96 false,
 Lx 99 2 96 false,
 Lg 100 (.bin .gtr (.t 98) (.t 99)) 96 false,
 Ior 101 96 100,
 Lw 102 101,
 Lg 103 (.fldA [.leaf,.leaf] (.t 4) 0) 102 false,
 Lg 104 (.load .leaf (.t 103)) 102 false,
 Lg 105 (.load (.st [.leaf,.leaf]) (.t 4)) 102 false,
 Lx 106 19 102 false,
 Lx 107 1 102 false,
 Lg 108 (Opx Fr [(.t 105),(.t 106),(.t 107)]) 102 false,
 Lx 109 3 102 false,
 Lg 110 (Ofx F12 [(.t 104),(.t 108),(.t 109)]) 102 false,
 Lx 111 10 102 false,
 Lg 112 (.bin .gtr (.t 110) (.t 111)) 102 false,
 Ior 113 102 112] [19,113]
 (Icd 113
 (Irg [Ll 8 (.mv (.c (.sl .leaf []))),
 Ll 9 (.mv (.c (.bool false)))] [8,9]
 (.ret))
 (.skip)))
 (Irg [Lw 114 19,
 Lw 8 114,
 Ll 9 (.mv (.c (.bool true)))] [8,9]
 (.ret))))))))))
def ir_impl_field_decodet:Fn:=
 { nparams:=4,nblk:=9,results:=[.tmp 8,.tmp 9],body:=ir_impl_field_decodet_B }
def ir_impl_DecodeRankt_B:Cd:=
 Irg [Ibx 6 0 1,
 Ll 10 (.mv (.c (.sl Sx6 []))),
 Imc 11 0] [0,2,3,4,6]
 (.seq (Irg [Lw 16 0,
 Ipx 17 6,
 Lw 18 2,
 Lw 19 4,
 Lw 20 2,
 Lw 21 3,
 Lw 22 4,
 Ll 23 (Ofx Fs [(.t 20),(.t 21),(.t 22)]),
 Ll 24 (Ofx Fy [(.t 16),(.t 17),(.t 18),(.t 19),(.t 23)]),
 Lw 12 24] [0,2,3,4,6,12]
 (Irg [Lw 25 12,
 Ibc 26 .neq 25 0] [0,2,3,4,6,12,26]
 (Icd 26
 (Irg [Lw 27 12,
 Ll 10 (.mv (.c (.sl Sx6 []))),
 Lw 11 27] [10,11]
 (.ret))
 (.skip))))
 (Irg [Lw 29 0,
 Ipx 30 6,
 Ll 31 (Opx Fe [(.t 29),(.t 30)]),
 Lw 32 2,
 Ll 33 (Opx F1s [(.t 32)]),
 Lw 34 3,
 Lw 35 4,
 Ll 36 (Opx F1s [(.t 35)]),
 Ll 37 (Opx Fg [(.t 31),(.t 33),(.t 34),(.t 36)]),
 Lw 28 37,
 Iex 38 28 0,
 Iex 39 28 1,
 Lw 13 38,
 Lw 14 39] [3,13,14]
 (.seq (Irg [Lw 40 14,
 Ll 41 (.un .not (.t 40))] [3,13,41]
 (Icd 41
 (Irg [Ll 10 (.mv (.c (.sl Sx6 []))),
 Imc 11 4] [10,11]
 (.ret))
 (.skip)))
 (Irg [Lw 42 3,
 Ll 43 (.mkSl 1 Sx6 (.arr 64 .leaf z64) 64 (.t 42) (.t 42)),
 Lw 15 43] [13,15]
 (Irg [Lw 44 15,
 Lw 45 13,
 Ll 46 (Opx Fz [(.t 45)]),
 Ll 47 (.copy Sx6 (.t 44) (.t 46))] [15]
 (Irg [Lw 48 15,
 Lw 10 48,
 Imc 11 0] [10,11]
 (.ret)))))))
def ir_impl_DecodeRankt:Fn:=
 { nparams:=5,nblk:=2,results:=[.tmp 10,.tmp 11],body:=ir_impl_DecodeRankt_B }
def Z1y_B:Cd:=
 Irg [Ibx 6 0 1,
 Ll 10 (.mv (.c (.bool false)))] [0,2,3,4,6]
 (Irg [Imc 11 1048576] [0,2,3,4,6,11]
 (Irg [Lw 23 2,
 Lw 24 11,
 Ll 25 (Ofx F23 [(.t 23),(.t 24)]),
 Lw 11 25] [0,2,3,4,6,11]
 (.seq (Irg [Lw 26 11,
 Ibc 27 .lss 26 0] [0,2,3,4,6,11,27]
 (Icd 27
 (Irg [Ll 10 (.mv (.c (.bool true)))] [10]
 (.ret))
 (.skip)))
 (Irg [Lw 28 4,
 Lw 29 11,
 Ll 30 (Ofx F23 [(.t 28),(.t 29)]),
 Lw 11 30] [0,2,3,4,6,11]
 (.seq (Irg [Lw 31 11,
 Ibc 32 .lss 31 0] [0,2,3,4,6,32]
 (Icd 32
 (Irg [Ll 10 (.mv (.c (.bool true)))] [10]
 (.ret))
 (.skip)))
 (Irg [Lw 34 0,
 Ipx 35 6,
 Ll 36 (Ofx F24 [(.t 35)]),
 Lw 37 2,
 Ll 38 (Opx F25 [(.t 37)]),
 Lw 39 3,
 Lw 40 4,
 Ll 41 (Opx F25 [(.t 40)]),
 Ll 42 (Opx F3b [(.t 34),(.t 36),(.t 38),(.t 39),(.t 41)]),
 Lw 33 42,
 Iex 43 33 0,
 Iex 44 33 1,
 Lw 12 43,
 Lw 13 44] [0,2,3,4,6,12,13]
 (Irg [Lw 45 2,
 Ll 46 (.call .heap [1] (.f F26) [(.t 45)]),
 Lw 14 46] [0,2,3,4,6,12,13,14]
 (Irg [Lw 47 4,
 Ll 48 (.call .heap [2] (.f F26) [(.t 47)]),
 Lw 15 48] [0,2,3,4,6,12,13,14,15]
 (Irg [Lw 50 0,
 Ipx 51 6,
 Ll 52 (Ofx F24 [(.t 51)]),
 Lw 53 14,
 Lw 54 3,
 Lw 55 15,
 Ll 56 (.call .heap [3] (.f F5) [(.t 50),(.t 52),(.t 53),(.t 54),(.t 55)]),
 Lw 49 56,
 Iex 57 49 0,
 Iex 58 49 1,
 Lw 16 57,
 Lw 17 58] [0,2,3,4,6,12,13,14,15,16,17]
 (.seq (Irg [Lw 59 16,
 Lw 60 12,
 Ll 61 (Ofx F20 [(.t 59),(.t 60)]),
 Ll 62 (.un .not (.t 61)),
 Lw 63 62,
 Lx 64 17 63 false,
 Lx 65 13 63 false,
 Lg 66 (.bin .neq (.t 64) (.t 65)) 63 false,
 Ior 67 63 66] [0,2,3,4,6,12,13,14,15,16,17,67]
 (Icd 67
 (Irg [Ll 10 (.mv (.c (.bool false)))] [10]
 (.ret))
 (.skip)))
 (.seq (Irg [Lw 68 14,
 Lw 69 2,
 Ll 70 (Opx F25 [(.t 69)]),
 Ll 71 (Ofx F20 [(.t 68),(.t 70)]),
 Ll 72 (.un .not (.t 71))] [0,2,3,4,6,12,13,14,15,16,17,72]
 (Icd 72
 (Irg [Ll 10 (.mv (.c (.bool false)))] [10]
 (.ret))
 (.skip)))
 (.seq (Irg [Lw 73 15,
 Lw 74 4,
 Ll 75 (Opx F25 [(.t 74)]),
 Ll 76 (Ofx F20 [(.t 73),(.t 75)]),
 Ll 77 (.un .not (.t 76))] [0,2,3,4,6,12,13,14,15,16,17,77]
 (Icd 77
 (Irg [Ll 10 (.mv (.c (.bool false)))] [10]
 (.ret))
 (.skip)))
 (Irg [Imc 18 1] [0,2,3,4,6,12,13,14,15,16,17,18]
 (Irg [Lw 78 14,
 Lw 79 18,
 Ll 80 (.call .heap [] (.f F22) [(.t 78),(.t 79)]),
 Lw 18 80] [0,2,3,4,6,12,13,15,16,17,18]
 (Irg [Lw 81 15,
 Lw 82 18,
 Ll 83 (.call .heap [] (.f F22) [(.t 81),(.t 82)]),
 Lw 18 83] [0,2,3,4,6,12,13,16,17,18]
 (.seq (Irg [Lw 84 18,
 Ibc 85 .lss 84 0,
 Lw 86 85,
 Lx 87 16 86 false,
 Lx 88 12 86 false,
 Lg 89 (Ofx F20 [(.t 87),(.t 88)]) 86 false,
 Lg 90 (.un .not (.t 89)) 86 false,
 Ior 91 86 90,
 Lw 92 91,
 Lx 93 17 92 false,
 Lx 94 13 92 false,
 Lg 95 (.bin .neq (.t 93) (.t 94)) 92 false,
 Ior 96 92 95] [0,2,3,4,6,12,13,16,96]
 (Icd 96
 (Irg [Ll 10 (.mv (.c (.bool false)))] [10]
 (.ret))
 (.skip)))
 (Irg [Imc 19 1] [0,2,3,4,6,12,13,16,19]
 (Irg [Lw 97 16,
 Lw 98 19,
 Ll 99 (.call .heap [] (.f F22) [(.t 97),(.t 98)]),
 Lw 19 99] [0,2,3,4,6,12,13,16,19]
 (Irg [Imc 20 1] [0,2,3,4,6,12,13,16,19,20]
 (Irg [Lw 100 16,
 Lw 101 20,
 Ll 102 (Ofx F21 [(.t 100),(.t 101)]),
 Lw 20 102] [0,2,3,4,6,12,13,16,19,20]
 (.seq (Irg [Lw 103 20,
 Ibc 104 .lss 103 0] [0,2,3,4,6,12,13,16,19,20,104]
 (Icd 104
 (Irg [Ll 10 (.mv (.c (.bool false)))] [10]
 (.ret))
 (.skip)))
 (.seq (Irg [Lw 105 20,
 Lw 106 19,
 Ibn 107 .neq 105 106] [0,2,3,4,6,12,13,16,19,107]
 (Icd 107
 (Irg [Ll 10 (.mv (.c (.bool false)))] [10]
 (.ret))
 (.skip)))
 (Irg [Lw 109 0,
 Ipx 110 6,
 Ll 111 (Ofx F24 [(.t 110)]),
 Lw 112 2,
 Ll 113 (Opx F25 [(.t 112)]),
 Lw 114 3,
 Lw 115 4,
 Ll 116 (Opx F25 [(.t 115)]),
 Ll 117 (Opx F4 [(.t 109),(.t 111),(.t 113),(.t 114),(.t 116)]),
 Lw 108 117,
 Iex 118 108 0,
 Iex 119 108 1,
 Lw 21 118,
 Lw 22 119] [12,13,16,19,21,22]
 (.seq (Irg [Lw 120 21,
 Lw 121 12,
 Ll 122 (Ofx F20 [(.t 120),(.t 121)]),
 Ll 123 (.un .not (.t 122)),
 Lw 124 123,
 Lx 125 22 124 false,
 Lx 126 13 124 false,
 Lg 127 (.bin .neq (.t 125) (.t 126)) 124 false,
 Ior 128 124 127] [16,19,128]
 (Icd 128
 (Irg [Ll 10 (.mv (.c (.bool false)))] [10]
 (.ret))
 (.skip)))
 (Irg [Imc 20 1] [16,19,20]
 (Irg [Lw 129 16,
 Lw 130 20,
 Ll 131 (Ofx F21 [(.t 129),(.t 130)]),
 Lw 20 131] [19,20]
 (.seq (Irg [Lw 132 20,
 Ibc 133 .lss 132 0] [19,20,133]
 (Icd 133
 (Irg [Ll 10 (.mv (.c (.bool false)))] [10]
 (.ret))
 (.skip)))
 (.seq (Irg [Lw 134 20,
 Lw 135 19,
 Ibn 136 .neq 134 135] [136]
 (Icd 136
 (Irg [Ll 10 (.mv (.c (.bool false)))] [10]
 (.ret))
 (.skip)))
 (Irg [Ll 10 (.mv (.c (.bool true)))] [10]
 (.ret))))))))))))))))))))))))))))))
def Z1y:Fn:=
 { nparams:=5,nblk:=4,results:=[.tmp 10],body:=Z1y_B }
end Pe

/-
 Functions of the laws in the small form,printed by a program.
-/
namespace Pe
open Go
def ir_impl_DecodeRank_hwt_B:Cd:=
 Irg [Ibx 6 0 1,
 Ll 10 (.nilOwn 1 Sx6),
 Imc 11 0] [0,2,3,4,6]
 (.seq (Irg [Lw 16 0,
 Ipx 17 6,
 Lw 18 2,
 Lw 19 4,
 Lw 20 2,
 Lw 21 3,
 Lw 22 4,
 Ll 23 (Ofx Fs [(.t 20),(.t 21),(.t 22)]),
 Ll 24 (Ofx Fy [(.t 16),(.t 17),(.t 18),(.t 19),(.t 23)]),
 Lw 12 24] [0,2,3,4,6,12]
 (Irg [Lw 25 12,
 Ibc 26 .neq 25 0] [0,2,3,4,6,12,26]
 (Icd 26
 (Irg [Lw 27 12,
 Ll 10 (.nilOwn 2 Sx6),
 Lw 11 27] [10,11]
 (.ret))
 (.skip))))
 (Irg [Lw 29 0,
 Ipx 30 6,
 Ll 31 (Opx Fe [(.t 29),(.t 30)]),
 Lw 32 2,
 Ll 33 (.call .heap [3] (.f F1s) [(.t 32)]),
 Lw 34 3,
 Lw 35 4,
 Ll 36 (.call .heap [4] (.f F1s) [(.t 35)]),
 Ll 37 (.call .data [] (.f Fg) [(.t 31),(.t 33),(.t 34),(.t 36)]),
 Lw 28 37,
 Iex 38 28 0,
 Iex 39 28 1,
 Lw 13 38,
 Lw 14 39] [3,13,14]
 (.seq (Irg [Lw 40 14,
 Ll 41 (.un .not (.t 40))] [3,13,41]
 (Icd 41
 (Irg [Ll 10 (.nilOwn 5 Sx6),
 Imc 11 4] [10,11]
 (.ret))
 (.skip)))
 (Irg [Lw 42 3,
 Ll 43 (.mkSl 6 Sx6 (.arr 64 .leaf z64) 64 (.t 42) (.t 42)),
 Lw 15 43] [13,15]
 (Irg [Lw 44 15,
 Lw 45 13,
 Ll 46 (Opx Fz [(.t 45)]),
 Ll 47 (.copy Sx6 (.t 44) (.t 46))] [15]
 (Irg [Lw 48 15,
 Lw 10 48,
 Imc 11 0] [10,11]
 (.ret)))))))
def ir_impl_DecodeRank_hwt:Fn:=
 { nparams:=5,nblk:=7,results:=[.tmp 10,.tmp 11],body:=ir_impl_DecodeRank_hwt_B }
end Pe

/-
 Functions of the program in the small form,printed by a program.
-/
namespace Pe
open Go
def Z3e_L0:Cd:=
 .seq (Irg [Lw 4 3,
 Ibc 5 .geq 4 0,
 Lw 6 5,
 Lx 7 3 6 true,
 Lg 8 (.idxA (some 64) .leaf (.t 1) (.t 7)) 6 true,
 Lg 9 (.load .leaf (.t 8)) 6 true,
 Lg 10 (.bin .eql (.t 9) (.c (.int .u8 0))) 6 true,
 Ian 11 6 10] [1,3,11]
 (Icd 11
 (.skip)
 (.exit 0)))
 (.block 1 (.region [Lw 12 3,
 Ibc 13 .sub 12 1,
 Lw 3 13] [1,3]))
def Z3e_B:Cd:=
 Irg [Ibx 1 0 0,
 Imc 2 0] [1]
 (Irg [Imc 3 63] [1,3]
 (.seq (.block 0 (.loop (Z3e_L0)))
 (Irg [Lw 14 3,
 Lw 2 14] [2]
 (.ret))))
def Z3e:Fn:=
 { nparams:=1,nblk:=1,results:=[.tmp 2],body:=Z3e_B }
def Z3h_B:Cd:=
 Irg [Ll 6 (.mv (.c (.bool false)))] [0,1,2]
 (Irg [Lw 7 0,
 Lw 8 1,
 Ibn 9 .geq 7 8,
 Lw 10 9,
 Lx 11 0 10 true,
 Lx 12 2 10 true,
 Lg 13 (.bin .leq (.t 11) (.t 12)) 10 true,
 Ian 14 10 13,
 Lw 6 14] [6]
 (.ret))
def Z3h:Fn:=
 { nparams:=3,nblk:=0,results:=[.tmp 6],body:=Z3h_B }
def Z3q_B:Cd:=
 Irg [Ll 2 (.mv (.c (.bool false)))] [0]
 (Irg [Lw 3 0,
 Ibc 4 .eql 3 2,
 Lw 5 4,
 Lx 6 0 5 false,
 Lg 7 (.bin .eql (.t 6) (Acx 3)) 5 false,
 Ior 8 5 7,
 Lw 9 8,
 Lx 10 0 9 false,
 Lg 11 (.bin .eql (.t 10) (Acx 5)) 9 false,
 Ior 12 9 11,
 Lw 13 12,
 Lx 14 0 13 false,
 Lg 15 (.bin .eql (.t 14) (Acx 7)) 13 false,
 Ior 16 13 15,
 Lw 2 16] [2]
 (.ret))
def Z3q:Fn:=
 { nparams:=1,nblk:=0,results:=[.tmp 2],body:=Z3q_B }
def Z3k_L0:Cd:=
 .seq (Irg [Lw 6 5,
 Ibc 7 .lss 6 64] [0,3,5,7]
 (Icd 7
 (.skip)
 (.exit 0)))
 (.seq (.block 1 (Irg [Lw 10 5,
 Iis 11 64 .leaf 3 10,
 Ilx 12 11,
 Icv 13 .i64 12,
 Lw 14 0,
 Ibn 15 .geq 13 14] [0,3,5,15]
 (Icd 15
 (Irg [Ll 4 (.mv (.c (.bool false)))] [4]
 (.ret))
 (.skip))))
 (.region [Lw 8 5,
 Ibc 9 .add 8 1,
 Lw 5 9] [0,3,5]))
def Z3k_B:Cd:=
 Irg [Ibx 3 0 1,
 Ll 4 (.mv (.c (.bool false)))] [0,3]
 (.seq (Irg [Imc 5 0] [0,3,5]
 (.block 0 (.loop (Z3k_L0))))
 (Irg [Lw 16 0,
 Ll 17 (Ofx F3q [(.t 16)]),
 Lw 4 17] [4]
 (.ret)))
def Z3k:Fn:=
 { nparams:=2,nblk:=1,results:=[.tmp 4],body:=Z3k_B }
def Z3m_B:Cd:=
 Irg [Ibx 1 0 0,
 Ll 2 (.mv (.c (.bool false)))] [1]
 (Irg [Ipx 4 1,
 Ll 5 (Ofx F3e [(.t 4)]),
 Lw 3 5] [1,3]
 (Irg [Lw 6 3,
 Ibc 7 .geq 6 0,
 Lw 8 7,
 Lx 9 3 8 true,
 Lg 10 (.idxA (some 64) .leaf (.t 1) (.t 9)) 8 true,
 Lg 11 (.load .leaf (.t 10)) 8 true,
 Lg 12 (.bin .eql (.t 11) (.c (.int .u8 1))) 8 true,
 Ian 13 8 12,
 Lw 2 13] [2]
 (.ret)))
def Z3m:Fn:=
 { nparams:=1,nblk:=1,results:=[.tmp 2],body:=Z3m_B }
def Z3i_L0:Cd:=
 .seq (Irg [Lw 6 5,
 Lw 7 0,
 Ibn 8 .lss 6 7] [0,1,5,8]
 (Icd 8
 (.skip)
 (.exit 0)))
 (.seq (.block 1 (Irg [Lw 11 5,
 Lw 12 1,
 Icv 13 .i64 12,
 Ibn 14 .mul 11 13,
 Lw 15 0,
 Ibn 16 .rem 14 15,
 Ibc 17 .eql 16 1] [0,1,5,17]
 (Icd 17
 (Irg [Lw 18 5,
 Icv 19 .u8 18,
 Lw 4 19] [4]
 (.ret))
 (.skip))))
 (.region [Lw 9 5,
 Ibc 10 .add 9 1,
 Lw 5 10] [0,1,5]))
def Z3i_B:Cd:=
 Irg [Ll 4 (.mv (.c (.int .u8 0)))] [0,1]
 (.seq (Irg [Imc 5 1] [0,1,5]
 (.block 0 (.loop (Z3i_L0))))
 (Irg [Ll 4 (.mv (.c (.int .u8 0)))] [4]
 (.ret)))
def Z3i:Fn:=
 { nparams:=2,nblk:=0,results:=[.tmp 4],body:=Z3i_B }
def Z3f_L0:Cd:=
 .seq (Irg [Lw 44 13,
 Lw 45 9,
 Ibn 46 .leq 44 45,
 Lw 47 46,
 Lx 48 12 47 true,
 Lg 49 (.bin .neq (.t 48) (Acx 0)) 47 true,
 Ian 50 47 49] [0,4,5,6,7,8,9,10,11,12,13,50]
 (Icd 50
 (.skip)
 (.exit 2)))
 (.seq (.block 3 (.region [Lw 53 11,
 Lw 54 9,
 Ibn 55 .sub 53 54,
 Lw 56 13,
 Ibn 57 .add 55 56,
 Lw 58 11,
 Lw 59 9,
 Ibn 60 .sub 58 59,
 Lw 61 13,
 Ibn 62 .add 60 61,
 Iis 63 64 .leaf 4 62,
 Ilx 64 63,
 Icv 65 .i64 64,
 Lw 66 12,
 Lw 67 13,
 Iis 68 64 .leaf 5 67,
 Ilx 69 68,
 Icv 70 .i64 69,
 Ibn 71 .mul 66 70,
 Ibn 72 .sub 65 71,
 Lw 73 0,
 Ibn 74 .rem 72 73,
 Lw 75 0,
 Ibn 76 .add 74 75,
 Lw 77 0,
 Ibn 78 .rem 76 77,
 Icv 79 .u8 78,
 Iis 80 64 .leaf 4 57,
 Ls (.store false .leaf (.t 80) (.t 79))] [0,4,5,6,7,8,9,10,11,12,13]))
 (.region [Lw 51 13,
 Ibc 52 .add 51 1,
 Lw 13 52] [0,4,5,6,7,8,9,10,11,12,13]))
def Z3f_L1:Cd:=
 .seq (Irg [Lw 25 11,
 Lw 26 9,
 Ibn 27 .geq 25 26] [0,4,5,6,7,8,9,10,11,27]
 (Icd 27
 (.skip)
 (.exit 0)))
 (.seq (.block 1 (Irg [Lw 30 11,
 Iis 31 64 .leaf 4 30,
 Ilx 32 31,
 Icv 33 .i64 32,
 Lw 34 10,
 Ibn 35 .mul 33 34,
 Lw 36 0,
 Ibn 37 .rem 35 36,
 Lw 12 37] [0,4,5,6,7,8,9,10,11,12]
 (Irg [Lw 38 11,
 Lw 39 9,
 Ibn 40 .sub 38 39,
 Lw 41 12,
 Icv 42 .u8 41,
 Iis 43 64 .leaf 8 40,
 Ls (.store false .leaf (.t 43) (.t 42))] [0,4,5,6,7,8,9,10,11,12]
 (Irg [Imc 13 0] [0,4,5,6,7,8,9,10,11,12,13]
 (.block 2 (.loop (Z3f_L0)))))))
 (.region [Lw 28 11,
 Ibc 29 .sub 28 1,
 Lw 11 29] [0,4,5,6,7,8,9,10,11]))
def Z3f_B:Cd:=
 Irg [Ibx 4 0 1,
 Ibx 5 1 2,
 Ibz 6 2,
 Ibz 7 3] [0,4,5,6,7]
 (Irg [Iz6 14,
 Ipx 15 5,
 Ll 16 (Ofx F3e [(.t 15)]),
 Ibz 8 4,
 Ls (.store false Sx6 (.t 8) (.t 14)),
 Lw 9 16] [0,4,5,6,7,8,9]
 (Irg [Lw 17 0,
 Lw 18 9,
 Iis 19 64 .leaf 5 18,
 Ilx 20 19,
 Ll 21 (Ofx F3i [(.t 17),(.t 20)]),
 Icv 22 .i64 21,
 Lw 10 22] [0,4,5,6,7,8,9,10]
 (.seq (Irg [Ipx 23 4,
 Ll 24 (Ofx F3e [(.t 23)]),
 Lw 11 24] [0,4,5,6,7,8,9,10,11]
 (.block 0 (.loop (Z3f_L1))))
 (Irg [Ipx 81 8,
 Ipx 82 4,
 ⟨none,.store false Sx6 (.t 6) (.t 81),none,[4]⟩,
 Ls (.store false Sx6 (.t 7) (.t 82))] [6,7]
 (.ret)))))
def Z3f:Fn:=
 { nparams:=3,nblk:=5,results:=[.cell 6 Sx6,.cell 7 Sx6],body:=Z3f_B }
def Z3l_B:Cd:=
 Irg [Ibx 4 0 1,
 Ibx 5 1 2,
 Ibz 6 2] [0,4,5,6]
 (Irg [Lw 10 0,
 Ipx 11 4,
 Ipx 12 5,
 Ll 13 (Ofx F3f [(.t 10),(.t 11),(.t 12)]),
 Lw 9 13,
 Iex 14 9 0,
 Iex 15 9 1,
 Ibz 7 3,
 Ibz 8 4,
 Ls (.store false Sx6 (.t 7) (.t 14)),
 Ls (.store false Sx6 (.t 8) (.t 15))] [6,8]
 (Irg [Ipx 16 8,
 Ls (.store false Sx6 (.t 6) (.t 16))] [6]
 (.ret)))
def Z3l:Fn:=
 { nparams:=3,nblk:=5,results:=[.cell 6 Sx6],body:=Z3l_B }
def Z3o_B:Cd:=
 Irg [Ibz 0 0] [0]
 (Irg [Ll 1 (.build false (.arr 64 .leaf z64) [(0,(.c (.int .u8 1)))]),
 Ls (.store false Sx6 (.t 0) (.t 1))] [0]
 (.ret))
def Z3o:Fn:=
 { nparams:=0,nblk:=1,results:=[.cell 0 Sx6],body:=Z3o_B }
def Z3c_L0:Cd:=
 .seq (Irg [Lw 10 9,
 Ibc 11 .lss 10 64] [0,3,5,6,8,9,11]
 (Icd 11
 (.skip)
 (.exit 0)))
 (.seq (.block 1 (.region [Lw 14 9,
 Lw 15 9,
 Iis 16 64 .leaf 5 15,
 Ilx 17 16,
 Icv 18 .i64 17,
 Lw 19 3,
 Lw 20 9,
 Iis 21 64 .leaf 6 20,
 Ilx 22 21,
 Icv 23 .i64 22,
 Ibn 24 .mul 19 23,
 Ibn 25 .add 18 24,
 Lw 26 0,
 Ibn 27 .rem 25 26,
 Lw 28 0,
 Ibn 29 .add 27 28,
 Lw 30 0,
 Ibn 31 .rem 29 30,
 Icv 32 .u8 31,
 Iis 33 64 .leaf 5 14,
 Ls (.store false .leaf (.t 33) (.t 32))] [0,3,5,6,8,9]))
 (.region [Lw 12 9,
 Ibc 13 .add 12 1,
 Lw 9 13] [0,3,5,6,8,9]))
def Z3c_B:Cd:=
 Irg [Ibx 5 0 1,
 Ibx 6 1 2,
 Ibz 8 2] [0,3,5,6,8]
 (.seq (Irg [Imc 9 0] [0,3,5,6,8,9]
 (.block 0 (.loop (Z3c_L0))))
 (Irg [Ipx 34 5,
 Ls (.store false Sx6 (.t 8) (.t 34))] [8]
 (.ret)))
def Z3c:Fn:=
 { nparams:=4,nblk:=3,results:=[.cell 8 Sx6],body:=Z3c_B }
def Z3t_L0:Cd:=
 .seq (Irg [Lw 24 10,
 Lw 25 7,
 Ibn 26 .lss 24 25] [0,4,5,6,7,8,9,10,26]
 (Icd 26
 (.skip)
 (.exit 0)))
 (.seq (.block 1 (.region [Lw 29 10,
 Lw 30 10,
 Ibc 31 .sub 30 1,
 Iis 32 64 .leaf 4 31,
 Ilx 33 32,
 Iis 34 64 .leaf 9 29,
 Ls (.store false .leaf (.t 34) (.t 33))] [0,4,5,6,7,8,9,10]))
 (.region [Lw 27 10,
 Ibc 28 .add 27 1,
 Lw 10 28] [0,4,5,6,7,8,9,10]))
def Z3t_L1:Cd:=
 .seq (Irg [Lw 45 12,
 Lw 46 7,
 Ibn 47 .lss 45 46] [0,5,6,7,9,11,12,47]
 (Icd 47
 (.skip)
 (.exit 2)))
 (.seq (.block 3 (.region [Lw 50 12,
 Lw 51 12,
 Iis 52 64 .leaf 9 51,
 Ilx 53 52,
 Icv 54 .i64 53,
 Lw 55 11,
 Lw 56 12,
 Iis 57 64 .leaf 5 56,
 Ilx 58 57,
 Icv 59 .i64 58,
 Ibn 60 .mul 55 59,
 Ibn 61 .sub 54 60,
 Lw 62 0,
 Ibn 63 .rem 61 62,
 Lw 64 0,
 Ibn 65 .add 63 64,
 Lw 66 0,
 Ibn 67 .rem 65 66,
 Icv 68 .u8 67,
 Iis 69 64 .leaf 9 50,
 Ls (.store false .leaf (.t 69) (.t 68))] [0,5,6,7,9,11,12]))
 (.region [Lw 48 12,
 Ibc 49 .add 48 1,
 Lw 12 49] [0,5,6,7,9,11,12]))
def Z3t_B:Cd:=
 Irg [Ibx 4 0 1,
 Ibx 5 1 2,
 Ibz 6 2] [0,4,5,6]
 (Irg [Ipx 13 5,
 Ll 14 (Ofx F3e [(.t 13)]),
 Lw 7 14] [0,4,5,6,7]
 (.seq (Irg [Lw 15 7,
 Ibc 16 .eql 15 0] [0,4,5,6,7,16]
 (Icd 16
 (Irg [Iz6 17,
 Ls (.store false Sx6 (.t 6) (.t 17))] [6]
 (.ret))
 (.skip)))
 (Irg [Lw 18 7,
 Ibc 19 .sub 18 1,
 Iis 20 64 .leaf 4 19,
 Ilx 21 20,
 Icv 22 .i64 21,
 Iz6 23,
 Ibz 9 3,
 Lw 8 22,
 Ls (.store false Sx6 (.t 9) (.t 23))] [0,4,5,6,7,8,9]
 (.seq (Irg [Imc 10 1] [0,4,5,6,7,8,9,10]
 (.block 0 (.loop (Z3t_L0))))
 (Irg [Lw 35 8,
 Lw 36 0,
 Lw 37 7,
 Iis 38 64 .leaf 5 37,
 Ilx 39 38,
 Ll 40 (Ofx F3i [(.t 36),(.t 39)]),
 Icv 41 .i64 40,
 Ibn 42 .mul 35 41,
 Lw 43 0,
 Ibn 44 .rem 42 43,
 Lw 11 44] [0,5,6,7,9,11]
 (.seq (Irg [Imc 12 0] [0,5,6,7,9,11,12]
 (.block 2 (.loop (Z3t_L1))))
 (Irg [Ipx 70 9,
 Ls (.store false Sx6 (.t 6) (.t 70))] [6]
 (.ret))))))))
def Z3t:Fn:=
 { nparams:=3,nblk:=4,results:=[.cell 6 Sx6],body:=Z3t_B }
def Z3n_L0:Cd:=
 .seq (Irg [Lw 14 10,
 Ibc 15 .geq 14 0] [0,5,6,7,8,9,10,15]
 (Icd 15
 (.skip)
 (.exit 0)))
 (.seq (.block 1 (Irg [Lw 18 0,
 Ipx 19 9,
 Ipx 20 7,
 Ll 21 (Ofx F3t [(.t 18),(.t 19),(.t 20)]),
 Ls (.store false Sx6 (.t 9) (.t 21))] [0,5,6,7,8,9,10]
 (.region [Lw 22 0,
 Lw 23 0,
 Ipx 24 9,
 Ipx 25 5,
 Lw 26 10,
 Iis 27 64 .leaf 6 26,
 Ilx 28 27,
 Icv 29 .i64 28,
 Ll 30 (Ofx F3c [(.t 23),(.t 24),(.t 25),(.t 29)]),
 Ipx 31 7,
 Ll 32 (Ofx F3l [(.t 22),(.t 30),(.t 31)]),
 Ls (.store false Sx6 (.t 9) (.t 32))] [0,5,6,7,8,9,10])))
 (.region [Lw 16 10,
 Ibc 17 .sub 16 1,
 Lw 10 17] [0,5,6,7,8,9,10]))
def Z3n_B:Cd:=
 Irg [Ibx 5 0 1,
 Ibx 6 1 2,
 Ibx 7 2 3,
 Ibz 8 3] [0,5,6,7,8]
 (Irg [Iz6 11,
 Ibz 9 4,
 Ls (.store false Sx6 (.t 9) (.t 11))] [0,5,6,7,8,9]
 (.seq (Irg [Ipx 12 6,
 Ll 13 (Ofx F3e [(.t 12)]),
 Lw 10 13] [0,5,6,7,8,9,10]
 (.block 0 (.loop (Z3n_L0))))
 (Irg [Ipx 33 9,
 Ls (.store false Sx6 (.t 8) (.t 33))] [8]
 (.ret))))
def Z3n:Fn:=
 { nparams:=4,nblk:=5,results:=[.cell 8 Sx6],body:=Z3n_B }
def Z3p_L0:Cd:=
 .seq (Irg [Lw 19 2,
 Ibc 20 .gtr 19 0] [0,2,7,8,9,10,20]
 (Icd 20
 (.skip)
 (.exit 0)))
 (.seq (.block 1 (.seq (Irg [Lw 23 2,
 Ibc 24 .rem 23 2,
 Ibc 25 .eql 24 1] [0,2,7,8,9,10,25]
 (Icd 25
 (.region [Lw 26 0,
 Ipx 27 9,
 Ipx 28 10,
 Ipx 29 7,
 Ll 30 (Ofx F3n [(.t 26),(.t 27),(.t 28),(.t 29)]),
 Ls (.store false Sx6 (.t 9) (.t 30))] [0,2,7,8,9,10])
 (.skip)))
 (.region [Lw 31 0,
 Ipx 32 10,
 Ipx 33 10,
 Ipx 34 7,
 Ll 35 (Ofx F3n [(.t 31),(.t 32),(.t 33),(.t 34)]),
 Ls (.store false Sx6 (.t 10) (.t 35))] [0,2,7,8,9,10])))
 (.region [Lw 21 2,
 Ibc 22 .quo 21 2,
 Lw 2 22] [0,2,7,8,9,10]))
def Z3p_B:Cd:=
 Irg [Ibx 5 0 1,
 Ibx 7 1 3,
 Ibz 8 2] [0,2,5,7,8]
 (Irg [Lw 11 0,
 Ll 12 (Ofx F3o []),
 Ipx 13 7,
 Ll 14 (Ofx F3l [(.t 11),(.t 12),(.t 13)]),
 Lw 15 0,
 Ipx 16 5,
 Ipx 17 7,
 Ll 18 (Ofx F3l [(.t 15),(.t 16),(.t 17)]),
 Ibz 9 3,
 Ibz 10 4,
 Ls (.store false Sx6 (.t 9) (.t 14)),
 Ls (.store false Sx6 (.t 10) (.t 18))] [0,2,7,8,9,10]
 (.seq (.block 0 (.loop (Z3p_L0)))
 (Irg [Ipx 36 9,
 Ls (.store false Sx6 (.t 8) (.t 36))] [8]
 (.ret))))
def Z3p:Fn:=
 { nparams:=4,nblk:=5,results:=[.cell 8 Sx6],body:=Z3p_B }
def Z3s_L0:Cd:=
 .seq (Irg [Lw 35 12,
 Lw 36 9,
 Ibn 37 .leq 35 36,
 Lw 38 37,
 Lx 39 11 38 true,
 Lg 40 (.idxA (some 64) .leaf (.t 4) (.t 39)) 38 true,
 Lg 41 (.load .leaf (.t 40)) 38 true,
 Lg 42 (.bin .neq (.t 41) (.c (.int .u8 0))) 38 true,
 Ian 43 38 42] [0,4,5,6,8,9,10,11,12,43]
 (Icd 43
 (.skip)
 (.exit 2)))
 (.seq (.block 3 (.region [Lw 46 11,
 Lw 47 12,
 Ibn 48 .add 46 47,
 Lw 49 11,
 Lw 50 12,
 Ibn 51 .add 49 50,
 Iis 52 64 .leaf 10 51,
 Ilx 53 52,
 Icv 54 .i64 53,
 Lw 55 11,
 Iis 56 64 .leaf 4 55,
 Ilx 57 56,
 Icv 58 .i64 57,
 Lw 59 12,
 Iis 60 64 .leaf 5 59,
 Ilx 61 60,
 Icv 62 .i64 61,
 Ibn 63 .mul 58 62,
 Ibn 64 .add 54 63,
 Lw 65 0,
 Ibn 66 .rem 64 65,
 Icv 67 .u8 66,
 Iis 68 64 .leaf 10 48,
 Ls (.store false .leaf (.t 68) (.t 67))] [0,4,5,6,8,9,10,11,12]))
 (.region [Lw 44 12,
 Ibc 45 .add 44 1,
 Lw 12 45] [0,4,5,6,8,9,10,11,12]))
def Z3s_L1:Cd:=
 .seq (Irg [Lw 30 11,
 Lw 31 8,
 Ibn 32 .leq 30 31] [0,4,5,6,8,9,10,11,32]
 (Icd 32
 (.skip)
 (.exit 0)))
 (.seq (.block 1 (Irg [Imc 12 0] [0,4,5,6,8,9,10,11,12]
 (.block 2 (.loop (Z3s_L0)))))
 (.region [Lw 33 11,
 Ibc 34 .add 33 1,
 Lw 11 34] [0,4,5,6,8,9,10,11]))
def Z3s_B:Cd:=
 Irg [Ibx 4 0 1,
 Ibx 5 1 2,
 Ibz 6 2,
 Ll 7 (.mv (.c (.bool false)))] [0,4,5,6]
 (Irg [Ipx 13 4,
 Ll 14 (Ofx F3e [(.t 13)]),
 Ipx 15 5,
 Ll 16 (Ofx F3e [(.t 15)]),
 Iz6 17,
 Ibz 10 3,
 Lw 8 14,
 Lw 9 16,
 Ls (.store false Sx6 (.t 10) (.t 17))] [0,4,5,6,8,9,10]
 (.seq (Irg [Lw 18 8,
 Ibc 19 .lss 18 0,
 Lw 20 19,
 Lx 21 9 20 false,
 Lg 22 (.bin .lss (.t 21) (Acx 0)) 20 false,
 Ior 23 20 22] [0,4,5,6,8,9,10,23]
 (Icd 23
 (Irg [Ipx 24 10,
 Ls (.store false Sx6 (.t 6) (.t 24)),
 Ll 7 (.mv (.c (.bool true)))] [6,7]
 (.ret))
 (.skip)))
 (.seq (Irg [Lw 25 8,
 Lw 26 9,
 Ibn 27 .add 25 26,
 Ibc 28 .gtr 27 63] [0,4,5,6,8,9,10,28]
 (Icd 28
 (Irg [Ipx 29 10,
 Ls (.store false Sx6 (.t 6) (.t 29)),
 Ll 7 (.mv (.c (.bool false)))] [6,7]
 (.ret))
 (.skip)))
 (.seq (Irg [Imc 11 0] [0,4,5,6,8,9,10,11]
 (.block 0 (.loop (Z3s_L1))))
 (Irg [Ipx 69 10,
 Ls (.store false Sx6 (.t 6) (.t 69)),
 Ll 7 (.mv (.c (.bool true)))] [6,7]
 (.ret))))))
def Z3s:Fn:=
 { nparams:=3,nblk:=4,results:=[.cell 6 Sx6,.tmp 7],body:=Z3s_B }
def Z3d_L0:Cd:=
 .seq (Irg [Ipx 26 5,
 Ll 27 (Ofx F3e [(.t 26)]),
 Ibc 28 .geq 27 0] [0,4,5,6,7,8,9,10,11,12,28]
 (Icd 28
 (.skip)
 (.exit 0)))
 (.block 1 (Irg [Lw 30 0,
 Ipx 31 4,
 Ipx 32 5,
 Ll 33 (Ofx F3f [(.t 30),(.t 31),(.t 32)]),
 Lw 29 33,
 Iex 34 29 0,
 Iex 35 29 1,
 Ibz 13 9,
 Ibz 14 10,
 Ls (.store false Sx6 (.t 13) (.t 34)),
 Ls (.store false Sx6 (.t 14) (.t 35))] [0,4,5,6,7,8,9,10,11,12,13,14]
 (Irg [Lw 37 0,
 Ipx 38 13,
 Ipx 39 10,
 Ll 40 (Ofx F3s [(.t 37),(.t 38),(.t 39)]),
 Lw 36 40,
 Iex 41 36 0,
 Iex 42 36 1,
 Ibz 15 11,
 Ls (.store false Sx6 (.t 15) (.t 41)),
 Lw 16 42] [0,4,5,6,7,8,9,10,11,12,13,14,15]
 (Irg [Lw 44 0,
 Ipx 45 13,
 Ipx 46 12,
 Ll 47 (Ofx F3s [(.t 44),(.t 45),(.t 46)]),
 Lw 43 47,
 Iex 48 43 0,
 Iex 49 43 1,
 Ibz 17 12,
 Ls (.store false Sx6 (.t 17) (.t 48)),
 Lw 18 49] [0,4,5,6,7,8,9,10,11,12,14,15,17]
 (Irg [Lw 50 0,
 Ipx 51 9,
 Ipx 52 15,
 Ll 53 (Ofx F3c [(.t 50),(.t 51),(.t 52),(Acx (-1))]),
 Lw 54 0,
 Ipx 55 11,
 Ipx 56 17,
 Ll 57 (Ofx F3c [(.t 54),(.t 55),(.t 56),(Acx (-1))]),
 Ibz 19 13,
 Ibz 20 14,
 Ls (.store false Sx6 (.t 19) (.t 53)),
 Ls (.store false Sx6 (.t 20) (.t 57))] [0,4,5,6,7,8,9,10,11,12,14,19,20]
 (Irg [Ipx 58 5,
 Ls (.store false Sx6 (.t 4) (.t 58))] [0,4,5,6,7,8,9,10,11,12,14,19,20]
 (Irg [Ipx 59 14,
 Ls (.store false Sx6 (.t 5) (.t 59))] [0,4,5,6,7,8,9,10,11,12,19,20]
 (Irg [Ipx 60 10,
 Ls (.store false Sx6 (.t 9) (.t 60))] [0,4,5,6,7,8,9,10,11,12,19,20]
 (Irg [Ipx 61 12,
 Ls (.store false Sx6 (.t 11) (.t 61))] [0,4,5,6,7,8,9,10,11,12,19,20]
 (Irg [Ipx 62 19,
 Ls (.store false Sx6 (.t 10) (.t 62))] [0,4,5,6,7,8,9,10,11,12,20]
 (.region [Ipx 63 20,
 Ls (.store false Sx6 (.t 12) (.t 63))] [0,4,5,6,7,8,9,10,11,12])))))))))))
def Z3d_B:Cd:=
 Irg [Ibx 4 0 1,
 Ibx 5 1 2,
 Ibz 6 2,
 Ibz 7 3,
 Ibz 8 4] [0,4,5,6,7,8]
 (Irg [Ll 22 (Ofx F3o []),
 Iz6 23,
 Iz6 24,
 Ll 25 (Ofx F3o []),
 Ibz 9 5,
 Ibz 10 6,
 Ibz 11 7,
 Ibz 12 8,
 Ls (.store false Sx6 (.t 9) (.t 22)),
 Ls (.store false Sx6 (.t 10) (.t 23)),
 Ls (.store false Sx6 (.t 11) (.t 24)),
 Ls (.store false Sx6 (.t 12) (.t 25))] [0,4,5,6,7,8,9,10,11,12]
 (.seq (.block 0 (.loop (Z3d_L0)))
 (Irg [Lw 64 0,
 Ipx 65 4,
 Ll 66 (Ofx F3e [(.t 65)]),
 Iis 67 64 .leaf 4 66,
 Ilx 68 67,
 Ll 69 (Ofx F3i [(.t 64),(.t 68)]),
 Icv 70 .i64 69,
 Lw 21 70] [0,4,6,7,8,9,11,21]
 (Irg [Lw 71 0,
 Iz6 72,
 Ipx 73 4,
 Lw 74 21,
 Ll 75 (Ofx F3c [(.t 71),(.t 72),(.t 73),(.t 74)]),
 Lw 76 0,
 Iz6 77,
 Ipx 78 9,
 Lw 79 21,
 Ll 80 (Ofx F3c [(.t 76),(.t 77),(.t 78),(.t 79)]),
 Lw 81 0,
 Iz6 82,
 Ipx 83 11,
 Lw 84 21,
 Ll 85 (Ofx F3c [(.t 81),(.t 82),(.t 83),(.t 84)]),
 Ls (.store false Sx6 (.t 6) (.t 75)),
 Ls (.store false Sx6 (.t 7) (.t 80)),
 Ls (.store false Sx6 (.t 8) (.t 85))] [6,7,8]
 (.ret)))))
def Z3d:Fn:=
 { nparams:=3,nblk:=15,results:=[.cell 6 Sx6,.cell 7 Sx6,.cell 8 Sx6],body:=Z3d_B }
def Z3g_B:Cd:=
 Irg [Ibx 4 0 1,
 Ibx 5 1 2,
 Ibz 6 2] [0,4,5,6]
 (.seq (Irg [Ipx 10 4,
 Ll 11 (Ofx F3e [(.t 10)]),
 Ibc 12 .lss 11 0,
 Lw 13 12,
 Lg 14 (.load Sx6 (.t 5)) 13 true,
 Lg 15 (Ofx F3e [(.t 14)]) 13 true,
 Lg 16 (.bin .lss (.t 15) (Acx 0)) 13 true,
 Ian 17 13 16] [0,4,5,6,17]
 (Icd 17
 (Irg [Iz6 18,
 Ls (.store false Sx6 (.t 6) (.t 18))] [6]
 (.ret))
 (.skip)))
 (Irg [Lw 20 0,
 Ipx 21 4,
 Ipx 22 5,
 Ll 23 (Ofx F3d [(.t 20),(.t 21),(.t 22)]),
 Lw 19 23,
 Iex 24 19 0,
 Iex 25 19 1,
 Iex 26 19 2,
 Ibz 7 3,
 Ibz 8 4,
 Ibz 9 5,
 Ls (.store false Sx6 (.t 7) (.t 24)),
 Ls (.store false Sx6 (.t 8) (.t 25)),
 Ls (.store false Sx6 (.t 9) (.t 26))] [6,7]
 (Irg [Ipx 27 7,
 Ls (.store false Sx6 (.t 6) (.t 27))] [6]
 (.ret))))
def Z3g:Fn:=
 { nparams:=3,nblk:=6,results:=[.cell 6 Sx6],body:=Z3g_B }
def Z3r_B:Cd:=
 Irg [Ibz 0 0] [0]
 (Irg [Ll 1 (.build false (.arr 64 .leaf z64) [(0,(.c (.int .u8 0))),(1,(.c (.int .u8 1)))]),
 Ls (.store false Sx6 (.t 0) (.t 1))] [0]
 (.ret))
def Z3r:Fn:=
 { nparams:=0,nblk:=1,results:=[.cell 0 Sx6],body:=Z3r_B }
def Z3j_L0:Cd:=
 .seq (Irg [Lw 16 7,
 Ll 17 (.bin .mul (Acx 2) (.t 16)),
 Lw 18 5,
 Ibn 19 .leq 17 18] [0,3,5,6,7,19]
 (Icd 19
 (.skip)
 (.exit 0)))
 (.seq (.block 1 (Irg [Lw 22 0,
 Ipx 23 6,
 Lw 24 0,
 Ipx 25 3,
 Ll 26 (Ofx F3p [(.t 22),(.t 23),(.t 24),(.t 25)]),
 Ls (.store false Sx6 (.t 6) (.t 26))] [0,3,5,6,7]
 (Irg [Lw 27 0,
 Ipx 28 3,
 Lw 29 0,
 Ipx 30 6,
 Ll 31 (Ofx F3r []),
 Ll 32 (Ofx F3c [(.t 29),(.t 30),(.t 31),(Acx (-1))]),
 Ll 33 (Ofx F3g [(.t 27),(.t 28),(.t 32)]),
 Ll 34 (Ofx F3e [(.t 33)]),
 Ibc 35 .neq 34 0] [0,3,5,6,7,35]
 (Icd 35
 (Irg [Ll 4 (.mv (.c (.bool false)))] [4]
 (.ret))
 (.skip)))))
 (.region [Lw 20 7,
 Ibc 21 .add 20 1,
 Lw 7 21] [0,3,5,6,7]))
def Z3j_B:Cd:=
 Irg [Ibx 3 0 1,
 Ll 4 (.mv (.c (.bool false)))] [0,3]
 (Irg [Ipx 8 3,
 Ll 9 (Ofx F3e [(.t 8)]),
 Lw 10 0,
 Ll 11 (Ofx F3r []),
 Ipx 12 3,
 Ll 13 (Ofx F3l [(.t 10),(.t 11),(.t 12)]),
 Ibz 6 1,
 Lw 5 9,
 Ls (.store false Sx6 (.t 6) (.t 13))] [0,3,5,6]
 (.seq (Irg [Lw 14 5,
 Ibc 15 .lss 14 1] [0,3,5,6,15]
 (Icd 15
 (Irg [Ll 4 (.mv (.c (.bool false)))] [4]
 (.ret))
 (.skip)))
 (.seq (Irg [Imc 7 1] [0,3,5,6,7]
 (.block 0 (.loop (Z3j_L0))))
 (Irg [Ll 4 (.mv (.c (.bool true)))] [4]
 (.ret)))))
def Z3j:Fn:=
 { nparams:=2,nblk:=2,results:=[.tmp 4],body:=Z3j_B }
end Pe

/-
 Functions of the program in the small form,printed by a program.
-/
namespace Pe
open Go
def Z3w_B:Cd:=
 Irg [Ibx 3 0 1,
 Ll 4 (.mv (.c (.bool false)))] [0,3]
 (Irg [Lw 5 0,
 Ipx 6 3,
 Ll 7 (Ofx F3k [(.t 5),(.t 6)]),
 Lw 8 7,
 Lg 9 (.load Sx6 (.t 3)) 8 true,
 Lg 10 (Ofx F3m [(.t 9)]) 8 true,
 Ian 11 8 10,
 Lw 12 11,
 Lg 13 (.load Sx6 (.t 3)) 12 true,
 Lg 14 (Ofx F3e [(.t 13)]) 12 true,
 Lg 15 (Ofx F3h [(.t 14),(Acx 1),(Acx 4)]) 12 true,
 Ian 16 12 15,
 Lw 17 16,
 Lx 18 0 17 true,
 Lg 19 (.load Sx6 (.t 3)) 17 true,
 Lg 20 (Ofx F3j [(.t 18),(.t 19)]) 17 true,
 Ian 21 17 20,
 Lw 4 21] [4]
 (.ret))
def Z3w:Fn:=
 { nparams:=2,nblk:=1,results:=[.tmp 4],body:=Z3w_B }
def Z41_B:Cd:=
 Irg [Ibx 4 0 1,
 Ibx 5 1 2,
 Ll 6 (.mv (.c (.bool false)))] [0,4,5]
 (Irg [Lw 7 0,
 Ipx 8 5,
 Ll 9 (Ofx F3k [(.t 7),(.t 8)]),
 Lw 10 9,
 Lg 11 (.load Sx6 (.t 5)) 10 true,
 Lg 12 (Ofx F3e [(.t 11)]) 10 true,
 Lg 13 (.load Sx6 (.t 4)) 10 true,
 Lg 14 (Ofx F3e [(.t 13)]) 10 true,
 Lg 15 (.bin .lss (.t 12) (.t 14)) 10 true,
 Ian 16 10 15,
 Lw 6 16] [6]
 (.ret))
def Z41:Fn:=
 { nparams:=3,nblk:=2,results:=[.tmp 6],body:=Z41_B }
def Z3x_L0:Cd:=
 .seq (Irg [Lw 14 9,
 Ibc 15 .gtr 14 0] [0,5,7,8,9,15]
 (Icd 15
 (.skip)
 (.exit 0)))
 (.seq (.block 1 (.region [Lw 18 0,
 Ipx 19 5,
 Lw 20 0,
 Ipx 21 7,
 Ll 22 (Ofx F3p [(.t 18),(.t 19),(.t 20),(.t 21)]),
 Ls (.store false Sx6 (.t 5) (.t 22))] [0,5,7,8,9]))
 (.region [Lw 16 9,
 Ibc 17 .sub 16 1,
 Lw 9 17] [0,5,7,8,9]))
def Z3x_B:Cd:=
 Irg [Ibx 5 0 1,
 Ibx 7 1 3,
 Ibz 8 2] [0,2,5,7,8]
 (.seq (Irg [Lw 10 2,
 Ipx 11 7,
 Ll 12 (Ofx F3e [(.t 11)]),
 Ibn 13 .rem 10 12,
 Lw 9 13] [0,5,7,8,9]
 (.block 0 (.loop (Z3x_L0))))
 (Irg [Ipx 23 5,
 Ls (.store false Sx6 (.t 8) (.t 23))] [8]
 (.ret)))
def Z3x:Fn:=
 { nparams:=4,nblk:=3,results:=[.cell 8 Sx6],body:=Z3x_B }
def Z45_L0:Cd:=
 .seq (Irg [Lw 12 10,
 Ibc 13 .lss 12 8] [0,5,6,7,8,9,10,13]
 (Icd 13
 (.skip)
 (.exit 0)))
 (.seq (.block 1 (Irg [Lw 16 10,
 Iis 17 8 Sx6 6 16,
 Ipx 18 17,
 Iz6 19,
 Ll 20 (.eqv true (.arr 64 .leaf .int) (.t 18) (.t 19))] [0,5,6,7,8,9,10,20]
 (Icd 20
 (.region [Lw 21 0,
 Ipx 22 9,
 Lw 23 0,
 Lw 24 10,
 Iis 25 8 Sx6 6 24,
 Ipx 26 25,
 Lw 27 0,
 Ipx 28 7,
 Lw 29 10,
 Ipx 30 5,
 Ll 31 (Ofx F3x [(.t 27),(.t 28),(.t 29),(.t 30)]),
 Ipx 32 5,
 Ll 33 (Ofx F3n [(.t 23),(.t 26),(.t 31),(.t 32)]),
 Ll 34 (Ofx F3c [(.t 21),(.t 22),(.t 33),(Acx 1)]),
 Ls (.store false Sx6 (.t 9) (.t 34))] [0,5,6,7,8,9,10])
 (.skip))))
 (.region [Lw 14 10,
 Ibc 15 .add 14 1,
 Lw 10 15] [0,5,6,7,8,9,10]))
def Z45_B:Cd:=
 Irg [Ibx 5 0 1,
 Ibx 6 1 2,
 Ibx 7 2 3,
 Ibz 8 3] [0,5,6,7,8]
 (Irg [Iz6 11,
 Ibz 9 4,
 Ls (.store false Sx6 (.t 9) (.t 11))] [0,5,6,7,8,9]
 (.seq (Irg [Imc 10 0] [0,5,6,7,8,9,10]
 (.block 0 (.loop (Z45_L0))))
 (Irg [Ipx 35 9,
 Ls (.store false Sx6 (.t 8) (.t 35))] [8]
 (.ret))))
def Z45:Fn:=
 { nparams:=4,nblk:=5,results:=[.cell 8 Sx6],body:=Z45_B }
def Z42_L0:Cd:=
 .seq (Irg [Lw 12 7,
 Lw 13 2,
 Ien 14 13,
 Ibn 15 .lss 12 14] [0,2,4,7,15]
 (Icd 15
 (.skip)
 (.exit 0)))
 (.seq (.block 1 (Irg [Lw 18 0,
 Ipx 19 4,
 Lw 20 2,
 Lw 21 7,
 Iia 22 Sx6 20 21,
 Ipx 23 22,
 Ll 24 (Ofx F41 [(.t 18),(.t 19),(.t 23)]),
 Ll 25 (.un .not (.t 24))] [0,2,4,7,25]
 (Icd 25
 (Irg [Imc 6 1] [6]
 (.ret))
 (.skip))))
 (.region [Lw 16 7,
 Ibc 17 .add 16 1,
 Lw 7 17] [0,2,4,7]))
def Z42_B:Cd:=
 Irg [Ibx 4 0 1,
 Imc 6 0] [0,2,4]
 (.seq (Irg [Lw 8 0,
 Ipx 9 4,
 Ll 10 (Ofx F3w [(.t 8),(.t 9)]),
 Ll 11 (.un .not (.t 10))] [0,2,4,11]
 (Icd 11
 (Irg [Imc 6 1] [6]
 (.ret))
 (.skip)))
 (.seq (Irg [Imc 7 0] [0,2,4,7]
 (.block 0 (.loop (Z42_L0))))
 (Irg [Imc 6 0] [6]
 (.ret))))
def Z42:Fn:=
 { nparams:=3,nblk:=1,results:=[.tmp 6],body:=Z42_B }
def Z40_L0:Cd:=
 .seq (Irg [Lw 13 7,
 Lw 14 1,
 Ien 15 14,
 Ibn 16 .lss 13 15] [0,1,5,7,16]
 (Icd 16
 (.skip)
 (.exit 0)))
 (.seq (.block 1 (Irg [Lw 19 1,
 Lw 20 7,
 Iia 21 Sx6 19 20,
 Ipx 22 21,
 Ll 23 (Ofx F3e [(.t 22)]),
 Lw 8 23] [0,1,5,7,8]
 (Irg [Lw 24 8,
 Iis 25 64 .leaf 5 24,
 Ilx 26 25,
 Ll 27 (.bin .neq (.t 26) (.c (.int .u8 0)))] [0,1,5,7,8,27]
 (Icd 27
 (.region [Lw 28 0,
 Ipx 29 5,
 Lw 30 1,
 Lw 31 7,
 Iia 32 Sx6 30 31,
 Ipx 33 32,
 Lw 34 8,
 Iis 35 64 .leaf 5 34,
 Ilx 36 35,
 Icv 37 .i64 36,
 Ll 38 (.un .neg (.t 37)),
 Ll 39 (Ofx F3c [(.t 28),(.t 29),(.t 33),(.t 38)]),
 Ls (.store false Sx6 (.t 5) (.t 39))] [0,1,5,7])
 (.skip)))))
 (.region [Lw 17 7,
 Ibc 18 .add 17 1,
 Lw 7 18] [0,1,5,7]))
def Z40_L1:Cd:=
 .seq (Irg [Lw 56 12,
 Lw 57 1,
 Ien 58 57,
 Ibn 59 .lss 56 58] [0,1,5,9,10,11,12,59]
 (Icd 59
 (.skip)
 (.exit 2)))
 (.seq (.block 3 (.seq (Irg [Lw 62 11,
 Ll 63 (.un .not (.t 62)),
 Lw 64 63,
 Lx 65 1 64 true,
 Lx 66 12 64 true,
 Lg 67 (.idxA none Sx6 (.t 65) (.t 66)) 64 true,
 Lg 68 (.load Sx6 (.t 67)) 64 true,
 Lg 69 (Ofx F3e [(.t 68)]) 64 true,
 Lx 70 9 64 true,
 Lg 71 (.bin .lss (.t 69) (.t 70)) 64 true,
 Ian 72 64 71] [0,1,5,9,10,11,12,72]
 (Icd 72
 (Irg [Lw 73 10,
 Ipx 74 5,
 Ll 75 (.buildSl false 2 Sx6 (.arr 64 .leaf z64) 1 [(0,(.t 74))]),
 Ll 76 (.append Sx6 3 64 (.t 73) (.t 75)),
 Lw 10 76] [0,1,5,9,10,12]
 (.region [Ll 11 (.mv (.c (.bool true)))] [0,1,5,9,10,11,12]))
 (.skip)))
 (.region [Lw 77 10,
 Lw 78 0,
 Lw 79 1,
 Lw 80 12,
 Iia 81 Sx6 79 80,
 Ipx 82 81,
 Ipx 83 5,
 Lw 84 1,
 Lw 85 12,
 Lw 86 9,
 Iia 87 Sx6 84 85,
 Iis 88 64 .leaf 87 86,
 Ilx 89 88,
 Icv 90 .i64 89,
 Ll 91 (.un .neg (.t 90)),
 Ll 92 (Ofx F3c [(.t 78),(.t 82),(.t 83),(.t 91)]),
 Ll 93 (.buildSl false 4 Sx6 (.arr 64 .leaf z64) 1 [(0,(.t 92))]),
 Ll 94 (.append Sx6 5 64 (.t 77) (.t 93)),
 Lw 10 94] [0,1,5,9,10,11,12])))
 (.region [Lw 60 12,
 Ibc 61 .add 60 1,
 Lw 12 61] [0,1,5,9,10,11,12]))
def Z40_B:Cd:=
 Irg [Ibx 5 0 2,
 Ll 6 (.mv (.c (.sl Sx6 [])))] [0,1,5]
 (.seq (Irg [Imc 7 0] [0,1,5,7]
 (.block 0 (.loop (Z40_L0))))
 (Irg [Ipx 40 5,
 Ll 41 (Ofx F3e [(.t 40)]),
 Lw 9 41] [0,1,5,9]
 (.seq (Irg [Lw 42 9,
 Ibc 43 .lss 42 0] [0,1,5,9,43]
 (Icd 43
 (Irg [Lw 44 1,
 Lw 6 44] [6]
 (.ret))
 (.skip)))
 (Irg [Lw 45 0,
 Iz6 46,
 Ipx 47 5,
 Lw 48 0,
 Lw 49 9,
 Iis 50 64 .leaf 5 49,
 Ilx 51 50,
 Ll 52 (Ofx F3i [(.t 48),(.t 51)]),
 Icv 53 .i64 52,
 Ll 54 (Ofx F3c [(.t 45),(.t 46),(.t 47),(.t 53)]),
 Ls (.store false Sx6 (.t 5) (.t 54))] [0,1,5,9]
 (Irg [Ll 55 (.buildSl false 1 Sx6 (.arr 64 .leaf z64) 0 []),
 Lw 10 55,
 Ll 11 (.mv (.c (.bool false)))] [0,1,5,9,10,11]
 (.seq (Irg [Imc 12 0] [0,1,5,9,10,11,12]
 (.block 2 (.loop (Z40_L1))))
 (.seq (Irg [Lw 95 11,
 Ll 96 (.un .not (.t 95))] [5,10,96]
 (Icd 96
 (.region [Lw 97 10,
 Ipx 98 5,
 Ll 99 (.buildSl false 6 Sx6 (.arr 64 .leaf z64) 1 [(0,(.t 98))]),
 Ll 100 (.append Sx6 7 64 (.t 97) (.t 99)),
 Lw 10 100] [10])
 (.skip)))
 (Irg [Lw 101 10,
 Lw 6 101] [6]
 (.ret)))))))))
def Z40:Fn:=
 { nparams:=3,nblk:=8,results:=[.tmp 6],body:=Z40_B }
def Z3v_L0:Cd:=
 .seq (Irg [Lw 4 3,
 Ibc 5 .geq 4 0,
 Lw 6 5,
 Lx 7 3 6 true,
 Lg 8 (.idxA (some 8) Sx6 (.t 1) (.t 7)) 6 true,
 Lg 9 (.load Sx6 (.t 8)) 6 true,
 Lg 10 (.build false (.arr 64 .leaf z64) []) 6 true,
 Lg 11 (.eqv false (.arr 64 .leaf .int) (.t 9) (.t 10)) 6 true,
 Ian 12 6 11] [1,3,12]
 (Icd 12
 (.skip)
 (.exit 0)))
 (.block 1 (.region [Lw 13 3,
 Ibc 14 .sub 13 1,
 Lw 3 14] [1,3]))
def Z3v_B:Cd:=
 Irg [Ibx 1 0 0,
 Imc 2 0] [1]
 (Irg [Imc 3 7] [1,3]
 (.seq (.block 0 (.loop (Z3v_L0)))
 (Irg [Lw 15 3,
 Lw 2 15] [2]
 (.ret))))
def Z3v:Fn:=
 { nparams:=1,nblk:=1,results:=[.tmp 2],body:=Z3v_B }
def Z44_L0:Cd:=
 .seq (Irg [Lw 38 14,
 Lw 39 11,
 Ibn 40 .leq 38 39] [0,5,6,7,8,10,11,12,13,14,40]
 (Icd 40
 (.skip)
 (.exit 2)))
 (.seq (.block 3 (Irg [Lw 43 0,
 Lw 44 13,
 Iis 45 8 Sx6 6 44,
 Ipx 46 45,
 Lw 47 0,
 Lw 48 14,
 Iis 49 8 Sx6 7 48,
 Ipx 50 49,
 Lw 51 13,
 Ipx 52 5,
 Ll 53 (Ofx F3x [(.t 47),(.t 50),(.t 51),(.t 52)]),
 Ipx 54 5,
 Ll 55 (Ofx F3n [(.t 43),(.t 46),(.t 53),(.t 54)]),
 Ibz 15 5,
 Ls (.store false Sx6 (.t 15) (.t 55))] [0,5,6,7,8,10,11,12,13,14,15]
 (.region [Lw 56 13,
 Lw 57 14,
 Ibn 58 .add 56 57,
 Lw 59 0,
 Lw 60 13,
 Lw 61 14,
 Ibn 62 .add 60 61,
 Iis 63 8 Sx6 12 62,
 Ipx 64 63,
 Ipx 65 15,
 Ll 66 (Ofx F3c [(.t 59),(.t 64),(.t 65),(Acx 1)]),
 Iis 67 8 Sx6 12 58,
 Ls (.store false Sx6 (.t 67) (.t 66))] [0,5,6,7,8,10,11,12,13,14])))
 (.region [Lw 41 14,
 Ibc 42 .add 41 1,
 Lw 14 42] [0,5,6,7,8,10,11,12,13,14]))
def Z44_L1:Cd:=
 .seq (Irg [Lw 33 13,
 Lw 34 10,
 Ibn 35 .leq 33 34] [0,5,6,7,8,10,11,12,13,35]
 (Icd 35
 (.skip)
 (.exit 0)))
 (.seq (.block 1 (Irg [Imc 14 0] [0,5,6,7,8,10,11,12,13,14]
 (.block 2 (.loop (Z44_L0)))))
 (.region [Lw 36 13,
 Ibc 37 .add 36 1,
 Lw 13 37] [0,5,6,7,8,10,11,12,13]))
def Z44_B:Cd:=
 Irg [Ibx 5 0 1,
 Ibx 6 1 2,
 Ibx 7 2 3,
 Ll 8 (.box false 3 (.c (.arr 8 Sx6 z8))),
 Ll 9 (.mv (.c (.bool false)))] [0,5,6,7,8]
 (Irg [Isx 16 6,
 Ll 17 (Ofx F3v [(.t 16)]),
 Isx 18 7,
 Ll 19 (Ofx F3v [(.t 18)]),
 Ll 20 (.build false (.arr 8 Sx6 z8) []),
 Ll 12 (.box false 4 (.c (.arr 8 Sx6 z8))),
 Lw 10 17,
 Lw 11 19,
 Ls (.store false Sx8 (.t 12) (.t 20))] [0,5,6,7,8,10,11,12]
 (.seq (Irg [Lw 21 10,
 Ibc 22 .lss 21 0,
 Lw 23 22,
 Lx 24 11 23 false,
 Lg 25 (.bin .lss (.t 24) (Acx 0)) 23 false,
 Ior 26 23 25] [0,5,6,7,8,10,11,12,26]
 (Icd 26
 (Irg [Isx 27 12,
 Ls (.store false Sx8 (.t 8) (.t 27)),
 Ll 9 (.mv (.c (.bool true)))] [8,9]
 (.ret))
 (.skip)))
 (.seq (Irg [Lw 28 10,
 Lw 29 11,
 Ibn 30 .add 28 29,
 Ibc 31 .gtr 30 7] [0,5,6,7,8,10,11,12,31]
 (Icd 31
 (Irg [Isx 32 12,
 Ls (.store false Sx8 (.t 8) (.t 32)),
 Ll 9 (.mv (.c (.bool false)))] [8,9]
 (.ret))
 (.skip)))
 (.seq (Irg [Imc 13 0] [0,5,6,7,8,10,11,12,13]
 (.block 0 (.loop (Z44_L1))))
 (Irg [Isx 68 12,
 Ls (.store false Sx8 (.t 8) (.t 68)),
 Ll 9 (.mv (.c (.bool true)))] [8,9]
 (.ret))))))
def Z44:Fn:=
 { nparams:=4,nblk:=6,results:=[.cell 8 Sx8,.tmp 9],body:=Z44_B }
def Z3y_B:Cd:=
 Irg [Ibx 4 0 1,
 Ibx 5 1 2,
 Ibz 6 2] [0,4,5,6]
 (Irg [Lw 11 0,
 Ipx 12 4,
 Ipx 13 5,
 Ll 14 (Ofx F3d [(.t 11),(.t 12),(.t 13)]),
 Lw 10 14,
 Iex 15 10 0,
 Iex 16 10 1,
 Iex 17 10 2,
 Ibz 7 3,
 Ibz 8 4,
 Ibz 9 5,
 Ls (.store false Sx6 (.t 7) (.t 15)),
 Ls (.store false Sx6 (.t 8) (.t 16)),
 Ls (.store false Sx6 (.t 9) (.t 17))] [0,5,6,8]
 (Irg [Lw 18 0,
 Ipx 19 8,
 Ipx 20 5,
 Ll 21 (Ofx F3l [(.t 18),(.t 19),(.t 20)]),
 Ls (.store false Sx6 (.t 6) (.t 21))] [6]
 (.ret)))
def Z3y:Fn:=
 { nparams:=3,nblk:=6,results:=[.cell 6 Sx6],body:=Z3y_B }
def Z3u_L0:Cd:=
 .seq (Irg [Lw 10 9,
 Ibc 11 .lss 10 8] [0,3,5,6,8,9,11]
 (Icd 11
 (.skip)
 (.exit 0)))
 (.seq (.block 1 (.region [Lw 14 9,
 Lw 15 0,
 Lw 16 9,
 Iis 17 8 Sx6 5 16,
 Ipx 18 17,
 Lw 19 9,
 Iis 20 8 Sx6 6 19,
 Ipx 21 20,
 Lw 22 3,
 Ll 23 (Ofx F3c [(.t 15),(.t 18),(.t 21),(.t 22)]),
 Iis 24 8 Sx6 5 14,
 Ls (.store false Sx6 (.t 24) (.t 23))] [0,3,5,6,8,9]))
 (.region [Lw 12 9,
 Ibc 13 .add 12 1,
 Lw 9 13] [0,3,5,6,8,9]))
def Z3u_B:Cd:=
 Irg [Ibx 5 0 1,
 Ibx 6 1 2,
 Ll 8 (.box false 2 (.c (.arr 8 Sx6 z8)))] [0,3,5,6,8]
 (.seq (Irg [Imc 9 0] [0,3,5,6,8,9]
 (.block 0 (.loop (Z3u_L0))))
 (Irg [Isx 25 5,
 Ls (.store false Sx8 (.t 8) (.t 25))] [8]
 (.ret)))
def Z3u:Fn:=
 { nparams:=4,nblk:=3,results:=[.cell 8 Sx8],body:=Z3u_B }
def Z43_B:Cd:=
 Irg [Ibx 2 0 0,
 Ll 4 (.box false 1 (.c (.arr 8 Sx6 z8)))] [1,2,4]
 (Irg [Ll 6 (.build false (.arr 8 Sx6 z8) []),
 Ll 5 (.box false 2 (.c (.arr 8 Sx6 z8))),
 Ls (.store false Sx8 (.t 5) (.t 6))] [1,2,4,5]
 (Irg [Lw 7 1,
 Ipx 8 2,
 Iis 9 8 Sx6 5 7,
 Ls (.store false Sx6 (.t 9) (.t 8))] [4,5]
 (Irg [Isx 10 5,
 Ls (.store false Sx8 (.t 4) (.t 10))] [4]
 (.ret))))
def Z43:Fn:=
 { nparams:=2,nblk:=3,results:=[.cell 4 Sx8],body:=Z43_B }
def Z3z_L0:Cd:=
 .seq (Irg [Lw 24 13,
 Lw 25 11,
 Ibn 26 .geq 24 25] [0,5,6,7,8,9,10,11,12,13,26]
 (Icd 26
 (.skip)
 (.exit 0)))
 (.seq (.block 1 (Irg [Lw 29 0,
 Lw 30 0,
 Lw 31 13,
 Iis 32 8 Sx6 6 31,
 Ipx 33 32,
 Lw 34 0,
 Lw 35 11,
 Iis 36 8 Sx6 7 35,
 Ipx 37 36,
 Ipx 38 5,
 Ll 39 (Ofx F3y [(.t 34),(.t 37),(.t 38)]),
 Ipx 40 5,
 Ll 41 (Ofx F3n [(.t 30),(.t 33),(.t 39),(.t 40)]),
 Lw 42 12,
 Lw 43 11,
 Lw 44 12,
 Ibn 45 .rem 43 44,
 Ibn 46 .sub 42 45,
 Ipx 47 5,
 Ll 48 (Ofx F3x [(.t 29),(.t 41),(.t 46),(.t 47)]),
 Ibz 14 6,
 Ls (.store false Sx6 (.t 14) (.t 48))] [0,5,6,7,8,9,10,11,12,13,14]
 (Irg [Lw 49 13,
 Lw 50 11,
 Ibn 51 .sub 49 50,
 Ipx 52 14,
 Iis 53 8 Sx6 10 51,
 Ls (.store false Sx6 (.t 53) (.t 52))] [0,5,6,7,8,9,10,11,12,13,14]
 (Irg [Lw 55 0,
 Ipx 56 5,
 Isx 57 7,
 Ipx 58 14,
 Lw 59 13,
 Lw 60 11,
 Ibn 61 .sub 59 60,
 Ll 62 (Ofx F43 [(.t 58),(.t 61)]),
 Ll 63 (Ofx F44 [(.t 55),(.t 56),(.t 57),(.t 62)]),
 Lw 54 63,
 Iex 64 54 0,
 Iex 65 54 1,
 Ll 15 (.box false 7 (.c (.arr 8 Sx6 z8))),
 Ls (.store false Sx8 (.t 15) (.t 64)),
 Lw 16 65] [0,5,6,7,8,9,10,11,12,15]
 (.region [Lw 66 0,
 Isx 67 6,
 Isx 68 15,
 Ll 69 (Ofx F3u [(.t 66),(.t 67),(.t 68),(Acx (-1))]),
 Ls (.store false Sx8 (.t 6) (.t 69))] [0,5,6,7,8,9,10,11,12])))))
 (.region [Isx 27 6,
 Ll 28 (Ofx F3v [(.t 27)]),
 Lw 13 28] [0,5,6,7,8,9,10,11,12,13]))
def Z3z_B:Cd:=
 Irg [Ibx 5 0 1,
 Ibx 6 1 2,
 Ibx 7 2 3,
 Ll 8 (.box false 3 (.c (.arr 8 Sx6 z8))),
 Ll 9 (.box false 4 (.c (.arr 8 Sx6 z8)))] [0,5,6,7,8,9]
 (Irg [Ll 17 (.build false (.arr 8 Sx6 z8) []),
 Isx 18 7,
 Ll 19 (Ofx F3v [(.t 18)]),
 Ipx 20 5,
 Ll 21 (Ofx F3e [(.t 20)]),
 Ll 10 (.box false 5 (.c (.arr 8 Sx6 z8))),
 Ls (.store false Sx8 (.t 10) (.t 17)),
 Lw 11 19,
 Lw 12 21] [0,5,6,7,8,9,10,11,12]
 (.seq (Irg [Isx 22 6,
 Ll 23 (Ofx F3v [(.t 22)]),
 Lw 13 23] [0,5,6,7,8,9,10,11,12,13]
 (.block 0 (.loop (Z3z_L0))))
 (Irg [Isx 70 10,
 Isx 71 6,
 ⟨none,.store false Sx8 (.t 8) (.t 70),none,[6]⟩,
 Ls (.store false Sx8 (.t 9) (.t 71))] [8,9]
 (.ret))))
def Z3z:Fn:=
 { nparams:=4,nblk:=8,results:=[.cell 8 Sx8,.cell 9 Sx8],body:=Z3z_B }
end Pe

/-
 Functions of the program in the small form,printed by a program.
-/
namespace Pe
open Go
def Z4c_L0:Cd:=
 .seq (Irg [Lw 8 6,
 Lw 9 1,
 Ien 10 9,
 Ibn 11 .lss 8 10] [0,1,5,6,11]
 (Icd 11
 (.skip)
 (.exit 0)))
 (.seq (.block 1 (.region [Lw 14 0,
 Lw 15 5,
 Lw 16 1,
 Lw 17 6,
 Iia 18 Sx6 16 17,
 Ipx 19 18,
 Ll 20 (.call .data [] (.f F40) [(.t 14),(.t 15),(.t 19)]),
 Lw 5 20] [0,1,5,6]))
 (.region [Lw 12 6,
 Ibc 13 .add 12 1,
 Lw 6 13] [0,1,5,6]))
def Z4c_B:Cd:=
 Irg [Ll 4 (.mv (.c (.sl Sx6 [])))] [0,1]
 (Irg [Ll 7 (.buildSl false 0 Sx6 (.arr 64 .leaf z64) 0 []),
 Lw 5 7] [0,1,5]
 (.seq (Irg [Imc 6 0] [0,1,5,6]
 (.block 0 (.loop (Z4c_L0))))
 (Irg [Lw 21 5,
 Lw 4 21] [4]
 (.ret))))
def Z4c:Fn:=
 { nparams:=2,nblk:=1,results:=[.tmp 4],body:=Z4c_B }
def Z48_L0:Cd:=
 .seq (Irg [Lw 10 8,
 Lw 11 1,
 Ien 12 11,
 Ibn 13 .lss 10 12] [0,1,2,7,8,13]
 (Icd 13
 (.skip)
 (.exit 0)))
 (.seq (.block 1 (.region [Lw 16 7,
 Lw 17 0,
 Lw 18 1,
 Lw 19 8,
 Iia 20 Sx6 18 19,
 Ipx 21 20,
 Lw 22 2,
 Lw 23 8,
 Iia 24 Sx6 22 23,
 Ipx 25 24,
 Ll 26 (Ofx F3c [(.t 17),(.t 21),(.t 25),(Acx (-1))]),
 Ll 27 (.buildSl false 1 Sx6 (.arr 64 .leaf z64) 1 [(0,(.t 26))]),
 Ll 28 (.append Sx6 2 64 (.t 16) (.t 27)),
 Lw 7 28] [0,1,2,7,8]))
 (.region [Lw 14 8,
 Ibc 15 .add 14 1,
 Lw 8 15] [0,1,2,7,8]))
def Z48_B:Cd:=
 Irg [Imc 6 0] [0,1,2]
 (Irg [Ll 9 (.buildSl false 0 Sx6 (.arr 64 .leaf z64) 0 []),
 Lw 7 9] [0,1,2,7]
 (.seq (Irg [Imc 8 0] [0,1,2,7,8]
 (.block 0 (.loop (Z48_L0))))
 (Irg [Lw 29 0,
 Lw 30 7,
 Ll 31 (.call .data [] (.f F4c) [(.t 29),(.t 30)]),
 Ien 32 31,
 Lw 6 32] [6]
 (.ret))))
def Z48:Fn:=
 { nparams:=3,nblk:=3,results:=[.tmp 6],body:=Z48_B }
def Z46_B:Cd:=
 Irg [Ibx 7 0 1,
 Imc 12 0] [0,2,3,4,5,7]
 (.seq (Irg [Lw 13 0,
 Ipx 14 7,
 Lw 15 2,
 Ll 16 (Ofx F42 [(.t 13),(.t 14),(.t 15)]),
 Ibc 17 .neq 16 0,
 Lw 18 17,
 Lx 19 0 18 false,
 Lg 20 (.load Sx6 (.t 7)) 18 false,
 Lx 21 3 18 false,
 Lg 22 (Ofx F42 [(.t 19),(.t 20),(.t 21)]) 18 false,
 Lg 23 (.bin .neq (.t 22) (Acx 0)) 18 false,
 Ior 24 18 23] [0,2,3,4,5,24]
 (Icd 24
 (Irg [Imc 12 1] [12]
 (.ret))
 (.skip)))
 (.seq (.block 0 (Irg [Lw 26 2,
 Ien 27 26,
 Ibc 28 .lss 27 1,
 Lw 29 28,
 Lx 30 2 29 false,
 Lg 31 (.len false (.t 30)) 29 false,
 Lg 32 (.bin .gtr (.t 31) (Acx 4)) 29 false,
 Ior 33 29 32,
 Lw 34 33,
 Lx 35 3 34 false,
 Lg 36 (.len false (.t 35)) 34 false,
 Lx 37 4 34 false,
 Lg 38 (.bin .lss (.t 36) (.t 37)) 34 false,
 Ior 39 34 38,
 Lw 40 39,
 Lx 41 3 40 false,
 Lg 42 (.len false (.t 41)) 40 false,
 Lx 43 5 40 false,
 Lg 44 (.bin .gtr (.t 42) (.t 43)) 40 false,
 Ior 45 40 44,
 Lw 25 45] [0,2,25]
 (Icd 25
 (Irg [Imc 12 2] [12]
 (.ret))
 (Irg [Lw 47 0,
 Lw 48 2,
 Ll 49 (Opx F4c [(.t 47),(.t 48)]),
 Ien 50 49,
 Lw 51 2,
 Ien 52 51,
 Ibn 53 .neq 50 52,
 Lw 46 53] [46]
 (Icd 46
 (Irg [Imc 12 5] [12]
 (.ret))
 (.skip))))))
 (Irg [Imc 12 0] [12]
 (.ret))))
def Z46:Fn:=
 { nparams:=6,nblk:=1,results:=[.tmp 12],body:=Z46_B }
def Z4a_B:Cd:=
 Irg [Ibx 6 0 1,
 Imc 10 0] [0,2,3,4,6]
 (Irg [Lw 12 0,
 Ipx 13 6,
 Lw 14 2,
 Lw 15 4,
 Lw 16 2,
 Ien 17 16,
 Lw 18 2,
 Ien 19 18,
 Ll 20 (Ofx F46 [(.t 12),(.t 13),(.t 14),(.t 15),(.t 17),(.t 19)]),
 Lw 11 20] [2,3,11]
 (.seq (Irg [Lw 21 11,
 Ibc 22 .eql 21 0,
 Lw 23 22,
 Lx 24 11 23 false,
 Lg 25 (.bin .eql (.t 24) (Acx 5)) 23 false,
 Ior 26 23 25,
 Lw 27 26,
 Lx 28 3 27 true,
 Lx 29 2 27 true,
 Lg 30 (.len false (.t 29)) 27 true,
 Lg 31 (Ofx F3h [(.t 28),(Acx 1),(.t 30)]) 27 true,
 Lg 32 (.un .not (.t 31)) 27 true,
 Ian 33 27 32] [11,33]
 (Icd 33
 (Irg [Imc 10 2] [10]
 (.ret))
 (.skip)))
 (Irg [Lw 34 11,
 Lw 10 34] [10]
 (.ret))))
def Z4a:Fn:=
 { nparams:=5,nblk:=1,results:=[.tmp 10],body:=Z4a_B }
def Z4d_L0:Cd:=
 .seq (Irg [Lw 12 10,
 Lw 13 3,
 Ien 14 13,
 Ibn 15 .lss 12 14] [0,3,5,6,9,10,15]
 (Icd 15
 (.skip)
 (.exit 0)))
 (.seq (.block 1 (.region [Lw 18 9,
 Lw 19 0,
 Ipx 20 5,
 Isx 21 6,
 Lw 22 3,
 Lw 23 10,
 Iia 24 Sx6 22 23,
 Ipx 25 24,
 Ll 26 (Ofx F45 [(.t 19),(.t 20),(.t 21),(.t 25)]),
 Ll 27 (.buildSl false 3 Sx6 (.arr 64 .leaf z64) 1 [(0,(.t 26))]),
 Ll 28 (.append Sx6 4 64 (.t 18) (.t 27)),
 Lw 9 28] [0,3,5,6,9,10]))
 (.region [Lw 16 10,
 Ibc 17 .add 16 1,
 Lw 10 17] [0,3,5,6,9,10]))
def Z4d_B:Cd:=
 Irg [Ibx 5 0 1,
 Ibx 6 1 2,
 Ll 8 (.mv (.c (.sl Sx6 [])))] [0,3,5,6]
 (Irg [Ll 11 (.buildSl false 2 Sx6 (.arr 64 .leaf z64) 0 []),
 Lw 9 11] [0,3,5,6,9]
 (.seq (Irg [Imc 10 0] [0,3,5,6,9,10]
 (.block 0 (.loop (Z4d_L0))))
 (Irg [Lw 29 9,
 Lw 8 29] [8]
 (.ret))))
def Z4d:Fn:=
 { nparams:=4,nblk:=5,results:=[.tmp 8],body:=Z4d_B }
def ir_spec_l09Skew_L0:Cd:=
 .seq (Irg [Lw 6 4,
 Lw 7 0,
 Ien 8 7,
 Ibn 9 .lss 6 8,
 Lw 10 9,
 Lx 11 4 10 true,
 Lg 12 (.bin .lss (.t 11) (Acx 8)) 10 true,
 Ian 13 10 12] [0,2,3,4,13]
 (Icd 13
 (.skip)
 (.exit 0)))
 (.seq (.block 1 (.region [Lw 16 4,
 Lw 17 0,
 Lw 18 4,
 Iia 19 Sx6 17 18,
 Ipx 20 19,
 Iis 21 8 Sx6 3 16,
 Ls (.store false Sx6 (.t 21) (.t 20))] [0,2,3,4]))
 (.region [Lw 14 4,
 Ibc 15 .add 14 1,
 Lw 4 15] [0,2,3,4]))
def ir_spec_l09Skew_B:Cd:=
 Irg [Ll 2 (.box false 0 (.c (.arr 8 Sx6 z8)))] [0,2]
 (Irg [Ll 5 (.build false (.arr 8 Sx6 z8) []),
 Ll 3 (.box false 1 (.c (.arr 8 Sx6 z8))),
 Ls (.store false Sx8 (.t 3) (.t 5))] [0,2,3]
 (.seq (Irg [Imc 4 0] [0,2,3,4]
 (.block 0 (.loop (ir_spec_l09Skew_L0))))
 (Irg [Isx 22 3,
 Ls (.store false Sx8 (.t 2) (.t 22))] [2]
 (.ret))))
def Z4b:Fn:=
 { nparams:=1,nblk:=2,results:=[.cell 2 Sx8],body:=ir_spec_l09Skew_B }
end Pe

namespace Gq
section
variable {K:Type} [Fd K]
theorem Pol.mod_eq_iff {a b m:Pol K} (hm:m≠0):a%m=b%m↔Quo.mk m a=Quo.mk m b:=by
 rw [Quo.eq];constructor
 ·intro h
  refine ⟨a/m-b/m,?_⟩;have h1:=div_mod a m;have h2:=div_mod b m;rw [h] at h1;generalize b/m=q',a/m=q at *;rw [h1];have e:q*m+b%m=(q'*m+b%m)+m*(q-q'):=cu [q,q',m,b%m] rfl;rw [e,←h2]
 ·rintro ⟨c,rfl⟩
  have h2:=div_mod b m;refine (div_mod_eq (q:=b/m+c) ?_ (len_mod b hm)).2;have e:b+m*c=(b/m*m+b%m)+m*c:=by rw [←h2]
  rw [e];exact cu [b/m,m,b%m,c] rfl
theorem Pol.mk_mod (a m:Pol K):Quo.mk m (a%m)=Quo.mk m a:=by
 rw [Quo.eq];refine ⟨-(a/m),?_⟩;have h:=div_mod a m;have e:a%m=(a/m*m+a%m)+m * -(a/m):=cu [a/m,m,a%m] rfl;rw [e,←h]
theorem Pol.mod_small {a m:Pol K} (h:a.len<m.len):a%m=a:=(div_mod_eq (q:=0) (by rw [zero_mul,zero_add]) h).2
theorem Pol.zero_mod {m:Pol K} (hm:m≠0):(0:Pol K)%m=0:=mod_small (by rw [len_zero]; exact len_pos hm)
theorem Pol.div_small {a m:Pol K} (h:a.len<m.len):a/m=0:=(div_mod_eq (q:=0) (by rw [zero_mul,zero_add]) h).1
theorem Pol.mul_mod_left (a b:Pol K) {m:Pol K} (hm:m≠0):(a%m)*b%m=a*b%m:=by
 rw [mod_eq_iff hm,Quo.mk_mul,Quo.mk_mul,mk_mod]
theorem Pol.mod_self_mul (a:Pol K) {m:Pol K} (hm:m≠0):(a*m)%m=0:=
 (div_mod_eq (q:=a) (by rw [add_zero]) (by rw [len_zero]; exact len_pos hm)).2
theorem Pol.len_mod_le (a:Pol K) {m:Pol K} (hm:m≠0):(a%m).len≤a.len:=by
 rcases dx a.len m.len with h | h
 ·rw [mod_small h]; exact ba _
 ·have:=len_mod a hm; omega
theorem Pol.len_div {a m:Pol K} (hm:m≠0) (h:m.len≤a.len):(a/m).len+m.len=a.len+1:=by
 have h1:=div_mod a m;have h2:=len_mod a hm;have h3:=len_pos hm
 by_cases hq:a/m=0
 ·rw [hq,zero_mul,zero_add] at h1
  rw [←h1] at h2; omega
 ·have h4:=len_mul hq hm
  have h5:=len_pos hq
  have e:a.len=(a/m*m).len:=by
   apply Nat.le_antisymm
   ·rw [h1]
    exact len_le (lt_add (by rw [←h1]; exact lt_len _) (lt_iff.2 (by rw [←h1]; omega)))
   ·have:a/m*m=a-a%m:=by
     have e:a-a%m=(a/m*m+a%m)-a%m:=by rw [←h1]
     rw [e]; exact cu [a/m*m,a%m] rfl
    rw [this];exact len_le (lt_sub a.lt_len (lt_iff.2 (by omega)))
  omega
theorem Pol.len_div_le (a:Pol K) {m:Pol K} (hm:m≠0):(a/m).len≤a.len:=by
 rcases dx a.len m.len with h | h
 ·rw [div_small h,len_zero]; omega
 ·have:=len_div hm h
  have:=len_pos hm;omega
theorem Hc {R:Type} [CR R] (a:R) (m:Nat):∀n,pw a (m+n)=pw a m*pw a n
 | 0=>(mul_one _).symm
 | n+1=>by rw [←fm,pw,Hc a m n,pw,mul_assoc]
theorem Ax {R:Type} [CR R] (a b:R):∀n,pw (a*b) n=pw a n*pw b n
 | 0=>(mul_one _).symm
 | n+1=>by rw [pw,pw,pw,Ax a b n]; exact cu [a,b,pw a n,pw b n] rfl
theorem xw {R:Type} [CR R] (a:R) (m:Nat):∀n,pw (pw a m) n=pw a (m*n)
 | 0=>rfl
 | n+1=>by rw [pw,xw a m n,Nat.mul_succ,Hc]
theorem Mr {R:Type} [CR R]:∀n,pw (1:R) n=1
 | 0=>rfl
 | n+1=>by rw [pw,Mr n,mul_one]
theorem Dz {R:Type} [CR R] (a:R):pw a 1=a:=one_mul a
theorem Pol.pow_mod (a:Pol K) {m:Pol K} (hm:m≠0) (n:Nat):pw (a%m) n%m=pw a n%m:=by
 rw [mod_eq_iff hm,Quo.mk_pow,Quo.mk_pow,mk_mod]
theorem Pol.bin_step {out base m:Pol K} (hm:m≠0) (k:Nat) (_hk:0<k) :
 (if k%2=1 then out*base%m else out)*pw (base*base%m) (k/2)%m=out*pw base k%m:=by
 rw [mod_eq_iff hm,Quo.mk_mul,Quo.mk_mul,Quo.mk_pow,mk_mod,Quo.mk_mul,Ax,Quo.mk_pow,←Hc]
 split
 ·rename_i h
  rw [mk_mod,Quo.mk_mul];have e:k=1+(k/2+k/2):=by omega
  have e2:pw (Quo.mk m base) k=Quo.mk m base*pw (Quo.mk m base) (k/2+k/2):=by
   have:=Hc (Quo.mk m base) 1 (k/2+k/2)
   rwa [←e,Dz] at this
  rw [e2,mul_assoc]
 ·rename_i h
  have e:k/2+k/2=k:=by omega
  rw [e]
open Classical in
noncomputable def Pol.bz:Nat→Pol K→Pol K→Pol K→Pol K→Pol K→Pol K→Pol K×Pol K×Pol K
 | 0,a,_,u,_,v,_=>(a,u,v)
 | n+1,a,b,u,x,v,y=>if b=0 then (a,u,v) else bz n b (a%b) x (u-a/b*x) y (v-a/b*y)
structure Pol.BzI (A B a b u x v y:Pol K):Prop where
 one:u*A+v*B=a
 two:x*A+y*B=b
 lx:x.len=0∨x.len+a.len≤B.len+1
 ly:y.len=0∨y.len+a.len≤A.len+1
 lu:u.len=0∨u.len+b.len≤B.len+1
 lv:v.len=0∨v.len+b.len≤A.len+1
 any:a≠0∨b≠0
theorem Pol.BzI.init {A B:Pol K} (h:A≠0∨B≠0):BzI A B A B 1 0 0 1:=
 ⟨cu [A,B] rfl,cu [A,B] rfl,.inl len_zero,.inr (by rw [len_one]; omega),.inr (by rw [len_one]; omega),.inl len_zero,h⟩
theorem Pol.len_sub_le {a b:Pol K} {n:Nat} (ha:a.len≤n) (hb:b.len≤n):(a-b).len≤n:=len_le (lt_sub (lt_iff.2 ha) (lt_iff.2 hb))
theorem Pol.len_add_le {a b:Pol K} {n:Nat} (ha:a.len≤n) (hb:b.len≤n):(a+b).len≤n:=len_le (lt_add (lt_iff.2 ha) (lt_iff.2 hb))
theorem Pol.BzI.qlen {A B a b u x v y:Pol K} (h:BzI A B a b u x v y) (hb:b≠0) :
 ((a/b*x).len=0∨(a/b*x).len+b.len≤B.len+1)∧((a/b*y).len=0∨(a/b*y).len+b.len≤A.len+1):=by
 have key:∀(x:Pol K) (n:Nat),(x.len=0∨x.len+a.len≤n+1)→((a/b*x).len=0∨(a/b*x).len+b.len≤n+1):=by
  intro x n hx
  by_cases hx0:x=0
  ·left; rw [hx0,mul_zero,len_zero]
  ·rcases dx a.len b.len with hl | hl
   ·left; rw [div_small hl,zero_mul,len_zero]
   ·have h1:=len_div hb hl
    have hq:a/b≠0:=fun h0=>by
     rw [h0,len_zero] at h1;omega
    have h2:=len_mul hq hx0;have h3:=len_pos hx0;right; omega
 exact ⟨key x B.len h.lx,key y A.len h.ly⟩
theorem Pol.BzI.step {A B a b u x v y:Pol K} (h:BzI A B a b u x v y) (hb:b≠0):BzI A B b (a%b) x (u-a/b*x) y (v-a/b*y):=by
 have hm:=div_mod a b;have hl:=len_mod a hb;have hle:=len_mod_le a hb;obtain ⟨q1,q2⟩:=h.qlen hb
 have sub:∀(u q:Pol K) (n:Nat),(u.len=0∨u.len+b.len≤n+1)→(q.len=0∨q.len+b.len≤n+1)→((u-q).len=0∨(u-q).len+b.len≤n+1):=by
  intro u q n h1 h2
  by_cases hn:n+1≤b.len
  ·left
   have e1:u.len=0:=by omega
   have e2:q.len=0:=by omega
   have:=len_sub_le (a:=u) (b:=q) (n:=0) (by omega) (by omega)
   omega
  ·right
   have:=len_sub_le (a:=u) (b:=q) (n:=n+1-b.len) (by omega) (by omega)
   omega
 refine ⟨h.two,?_,sub _ _ _ h.lu q1,sub _ _ _ h.lv q2,?_,?_,.inl hb⟩
 ·have e:(u-a/b*x)*A+(v-a/b*y)*B=(u*A+v*B)-a/b*(x*A+y*B):=cu [u,a/b,x,A,v,y,B] rfl
  rw [e,h.one,h.two];have e2:a-a/b*b=(a/b*b+a%b)-a/b*b:=by rw [←hm]
  rw [e2];exact cu [a/b,b,a%b] rfl
 ·exact h.lx.imp id fun h=>by omega
 ·exact h.ly.imp id fun h=>by omega
theorem Pol.bz_spec {A B:Pol K}:∀(n:Nat) (a b u x v y:Pol K),b.len≤n→BzI A B a b u x v y →
 ∃x' y',BzI A B (bz n a b u x v y).1 0 (bz n a b u x v y).2.1 x' (bz n a b u x v y).2.2 y'∧(∃s,a=s*(bz n a b u x v y).1)∧(∃s,b=s*(bz n a b u x v y).1)
 | 0,a,b,u,x,v,y,hn,h=>by
  obtain rfl:=len_zero_iff.1 (show b.len=0 by omega)
  exact ⟨x,y,h,⟨1,(one_mul a).symm⟩,⟨0,(zero_mul a).symm⟩⟩
 | n+1,a,b,u,x,v,y,hn,h=>by
  unfold bz
  split
  ·rename_i hb
   subst hb;exact ⟨x,y,h,⟨1,(one_mul a).symm⟩,⟨0,(zero_mul a).symm⟩⟩
  ·rename_i hb
   have hl:=len_mod a hb;obtain ⟨x',y',h1,⟨s,h2⟩,⟨t,h3⟩⟩:=bz_spec n b (a%b) x (u-a/b*x) y (v-a/b*y) (by omega) (h.step hb)
   refine ⟨x',y',h1,⟨a/b*s+t,?_⟩,⟨s,h2⟩⟩;generalize (bz n b (a%b) x (u-a/b*x) y (v-a/b*y)).1=d at *;have e:(a/b*s+t)*d=a/b*(s*d)+t*d:=cu [a/b,s,t,d] rfl;rw [e,←h2,←h3];exact div_mod a b
noncomputable def Pol.eu (a b:Pol K):Pol K×Pol K×Pol K:=bz b.len a b 1 0 0 1
noncomputable def Pol.bezout (a b:Pol K):Pol K×Pol K×Pol K:=
 let r:=eu a b
 (C (Fd.inv r.1.ld)*r.1,C (Fd.inv r.1.ld)*r.2.1,C (Fd.inv r.1.ld)*r.2.2)
noncomputable def Pol.gcd (a b:Pol K):Pol K:=(bezout a b).1
end
end Gq

namespace Pe
open Go Gq
variable {T:Nat→Option Fn} {A:am}
theorem Ju {p:Int} (a:Fp p) (h:a.len≤64):trim (pad (row a))=row a:=Ag fun i=>by rw [D6 (by rw [ca]; exact h),ja]
theorem Cl {l:List Int} {i:Nat} (h:i<l.length):l.take i++[l[i]]=l.take (i+1):=by
 rw [List.take_add_one,ac h]; rfl
theorem Yp {O:am} {l:List Int} (hb:m9 l) (hl:l.length=64):∀(m i:Nat) (cp:Option Nat),i+m=64 →
 dn O 0 (.loop Z1m_L0) ⟨[(3,.sl 1 [] 0 i cp),(6,(.d (.arr 64 .leaf (aq .u8 l)))),(7,(.d (.int .i64 i)))],[.hole,.sl false .leaf (aq .i64 (l.take i)),.hole,.hole]⟩ =
  some (.exit 0,⟨[(3,.sl 1 [] 0 64 (if m=0 then cp else none)),(6,(.d (.arr 64 .leaf (aq .u8 l)))),(7,(.d (.int .i64 64))),(8,(.d (.bool false)))],[.hole,.sl false .leaf (aq .i64 (l.take 64)),.hole,.hole]⟩)
 | 0,i,cp,hi=>by
  have:i=64:=by omega
  subst this;exact bu (by simp -implicitDefEqProofs [Z1m_L0,ap])
 | m+1,i,cp,hi=>by
  have h1:(i:Int)<64:=by omega
  have hlt:i<l.length:=by omega
  have hx:l[i]? = some l[i]:=ac hlt;have hb':=hb _ (az hlt);have w1:IntKind.i64.wrap l[i]=l[i]:=wt;have w4:=wi i;have h8:(i+1)*8≤1099511627776:=by omega
  have hlen:i≤l.length:=by omega
  have ht:(l.take i).take i=l.take i:=by rw [List.take_take,Nat.min_self]
  have e1:aq .i64 (l.take i)++[D.int .i64 l[i]]=aq .i64 (l.take (i+1)):=by rw [←Cl hlt,←I8]; rfl
  have ih:=Yp (O:=O) hb hl m (i+1) none (by omega)
  have e2:(if m=0 then (none:Option Nat) else none)=none:=by split <;> rfl
  rw [e2] at ih;rw [if_neg (Nat.succ_ne_zero m)];refine bn ?_ ih;simp -implicitDefEqProofs [Z1m_L0,ap,h1,hlt,w1,w4,h8,hlen,ht,e1,List.replicate]
def G8 (O:am):Prop:=∀l:List Int,m9 l→l.length=64→ask O F1m [(D.arr 64 .leaf (aq .u8 l))]=some (D.sl .leaf (aq .i64 (trim l)))
theorem a9s (hT:T F1m=some Z1m) (ht:vb (den T A)):G8 (den T A):=by
 intro l hb hl;have e:=Yp (O:=den T A) hb hl 64 0 (some 0) (b9 _);have e0:((0:Nat):Int)=0:=rfl;rw [e0,cx,i6,aw (by omega)] at e
 have e1:=ht l (by omega)
 have ht:l.take 64=l:=aw (by omega)
 refine c9 hT rfl ?_;simp -implicitDefEqProofs [Z1m,Z1m_B,e,e1,hl,ht]
def zd (O:am):Prop:=∀(p:Int) [IsP p] (a:Fp p),a.len≤64→ask O F1m [(D.arr 64 .leaf (aq .u8 (pad (row a))))]=some (D.sl .leaf (aq .i64 (row a)))
theorem a2u {p:Int} [IsP p] (a:Fp p):m9 (pad (row a)):=fun x hx=>by
 obtain ⟨i,_,rfl⟩:=cn.1 hx;have:=(lc a).le IsP.pos i;have:=IsP.le (p:=p);omega
theorem aai {O:am} (h:G8 O):zd O:=fun p i a hl=>by
 rw [h _ (a2u a) (di _),Ju a hl]
theorem a62 {O:am} {l z:List Int} (hb:m9 l) (hl:l.length≤64):∀(m i:Nat) (cur:List Int),i+m=l.length→cur.length=64 →
 dn O 0 (.loop Z1q_L0) ⟨[(2,.ptr 0 []),(3,.ptr 1 []),(6,(.d (.sl .leaf (aq .i64 l)))),(7,(.d (.int .i64 l.length))),(8,(.d (.int .i64 i)))],[.box false (D.arr 64 .leaf (aq .u8 z)),.box false (D.arr 64 .leaf (aq .u8 cur))]⟩ =
  some (.exit 0,⟨[(2,.ptr 0 []),(3,.ptr 1 []),(6,(.d (.sl .leaf (aq .i64 l)))),(7,(.d (.int .i64 l.length))),(8,(.d (.int .i64 l.length))),(9,(.d (.bool false)))],[.box false (D.arr 64 .leaf (aq .u8 z)),.box false (D.arr 64 .leaf (aq .u8 (upd (cf l) m i cur)))]⟩)
 | 0,i,cur,hi,hc=>by
  have:i=l.length:=by omega
  subst this;exact bu (by simp -implicitDefEqProofs [Z1q_L0,ap,upd])
 | m+1,i,cur,hi,hc=>by
  have hlt:i<l.length:=by omega
  have hx:l[i]? = some (cf l i):=by rw [ac hlt,ft hlt]
  have hb':=hb _ (az hlt);rw [←ft hlt] at hb';have w1:IntKind.u8.wrap l[i]=cf l i:=by rw [←ft hlt]; exact w8 hb'
  have w4:=wi i;have hi64:i<64:=by omega
  have hcur:cur[i]? = some (cf cur i):=by rw [ac (by omega),ft]
  have ih:=a62 (O:=O) (z:=z) hb hl m (i+1) (cur.set i (cf l i)) (by omega) (by simpa using hc)
  refine bn ?_ ih;simp -implicitDefEqProofs [Z1q_L0,ap,hlt,w1,w4,hi64,hcur]
def Xn (O:am):Prop:=∀l:List Int,m9 l→l.length≤64→ask O F1q [(D.sl .leaf (aq .i64 l))]=some (D.arr 64 .leaf (aq .u8 (pad l)))
theorem a9v {l:List Int} (_hl:l.length≤64):upd (cf l) l.length 0 (pad [])=pad l:=by
 symm
 apply Vh
 ·rw [yy,di]
 ·intro i hi
  unfold cf;rw [List.getD_eq_getElem?_getD,List.getD_eq_getElem?_getD,Jc]
  by_cases h:i<l.length
  ·rw [if_pos (by rw [di]; omega)]
   simp [h]
  ·rw [if_neg (by omega),bq (by omega),u4 _ _ hi]; rfl
theorem aez (hT:T F1q=some Z1q):Xn (den T A):=by
 intro l hb hl;have e:=a62 (O:=den T A) (z:=pad []) hb hl l.length 0 (pad []) (b9 _) (di []);have e0:((0:Nat):Int)=0:=rfl;rw [e0,a9v hl] at e;refine c9 hT rfl ?_;simp -implicitDefEqProofs [Z1q,Z1q_B,e]
theorem a3p {p:Int} [IsP p] (a:Fp p):m9 (row a):=fun x hx=>by
 have:=lc a x hx;have:=IsP.le (p:=p);omega
def Rj (O:am):Prop:=∀(p:Int) [IsP p] (a:Fp p),a.len≤64→ask O F1q [(D.sl .leaf (aq .i64 (row a)))]=some (D.arr 64 .leaf (aq .u8 (pad (row a))))
theorem ae0 {O:am} (h:Xn O):Rj O:=fun p i a hl=>h _ (a3p a) (by simpa using hl)
def B5 (O:am):Prop:=∀(p:Int) [IsP p] (a b:Fp p),b≠0→a.len<5000→b.len<5000 →
 ask O F1g [(D.int .i64 p),(D.sl .leaf (aq .i64 (row a))),(D.sl .leaf (aq .i64 (row b)))]=some (D.sl .leaf (aq .i64 (row (a%b))))
theorem afe (hT:T F1g=some Z1g) (hd:vk (den T A)):B5 (den T A):=by
 intro p i a b hb h1 h2;have e:=hd p a b hb h1 h2;refine c9 hT rfl ?_;simp -implicitDefEqProofs [Z1g,Z1g_B,e]
end Pe
namespace Pe
open Go Gq
variable {T:Nat→Option Fn} {A:am}
section
variable {p:Int} [IsP p]
theorem yq:row (1:Fp p)=[1]:=by
 unfold row;rw [Pol.len_one];show [rep ((1:Fp p).c 0)]=[1];have:(1:Fp p).c 0=1:=rfl;rw [this,Ci]
end
section
variable {p:Int}
theorem Ao (u z:Fp p):u+Pol.C (zp p (-1))*z=u-z:=by
 rw [Jp,Af,Pol.C_neg,Pol.C_one];exact cu [u,z] rfl
end
section
variable {p:Int} [IsP p]
end
def jn (O:am):Prop:=∀(p:Int) [IsP p] (a b:Fp p),a.len<1000000→b.len<1000000 →
 ask O F11 [(D.int .i64 p),(D.sl .leaf (aq .i64 (row a))),(D.sl .leaf (aq .i64 (row b))),(D.int .i64 (-1))]=some (D.sl .leaf (aq .i64 (row (a-b))))
theorem W9 {O:am} (h:o5 O):jn O:=fun p i a b h1 h2=>by
 rw [h p (-1) a b (by omega) (by omega) h1 h2,Ao]
def rp (O:am):Prop:=∀(p:Int) [IsP p] (a b:Fp p),a.len<1000000→b.len<1000000 →
 ask O F11 [(D.int .i64 p),(D.sl .leaf (aq .i64 (row a))),(D.sl .leaf (aq .i64 (row b))),(D.int .i64 1)]=some (D.sl .leaf (aq .i64 (row (a+b))))
theorem Y7 {O:am} (h:o5 O):rp O:=fun p i a b h1 h2=>by
 rw [h p 1 a b (by omega) (by omega) h1 h2,Af,Pol.C_one,Gq.one_mul]
section
variable {p:Int} [IsP p]
theorem Jz {A B a b u x v y:Fp p} (h:Pol.BzI A B a b u x v y) (hA:A.len≤2000) (hB:B.len≤2000) (ha:a.len≤2000) (hb:b.len≤2000) (hb0:b≠0) :
 u.len<3000∧v.len<3000∧x.len<3000∧y.len<3000∧(a/b).len<3000∧(a%b).len≤2000∧(a/b*x).len<3000∧(a/b*y).len<3000:=by
 have h1:=h.lu;have h2:=h.lv;have h3:=h.lx;have h4:=h.ly;have h5:=Pol.len_div_le a hb0;have h6:=Pol.len_mod_le a hb0;obtain ⟨h7,h8⟩:=h.qlen hb0;omega
theorem a5e {O:am} (hd:vk O) (ht:yr O) (hc:jn O) {A B:Fp p} (hA:A.len≤2000) (hB:B.len≤2000):∀(n:Nat) (a b u x v y:Fp p),b.len≤n→a.len≤2000→b.len≤2000→Pol.BzI A B a b u x v y→∃x' y',
 dn O 0 (.loop Z10_L0) ⟨[(0,(.d (.int .i64 p))),(1,(.d (.sl .leaf (aq .i64 (row a))))),(2,(.d (.sl .leaf (aq .i64 (row b))))),(9,(.d (.sl .leaf (aq .i64 (row u))))),(10,(.d (.sl .leaf (aq .i64 (row v))))),(11,(.d (.sl .leaf (aq .i64 (row x))))),(12,(.d (.sl .leaf (aq .i64 (row y)))))],[.hole,.hole]⟩ =
  some (.exit 0,⟨[(0,(.d (.int .i64 p))),(1,(.d (.sl .leaf (aq .i64 (row (Pol.bz n a b u x v y).1))))),(2,(.d (.sl .leaf (aq .i64 ([]))))),(9,(.d (.sl .leaf (aq .i64 (row (Pol.bz n a b u x v y).2.1))))),(10,(.d (.sl .leaf (aq .i64 (row (Pol.bz n a b u x v y).2.2))))),(11,(.d (.sl .leaf (aq .i64 x')))),(12,(.d (.sl .leaf (aq .i64 y')))),(20,(.d (.bool false)))],[.hole,.hole]⟩):=by
 intro n
 induction n with
 | zero=>
  intro a b u x v y hn ha hb hi;obtain rfl:=Pol.len_zero_iff.1 (show b.len=0 by omega)
  exact ⟨row x,row y,bu (by simp -implicitDefEqProofs [Z10_L0,ap,dj,Pol.bz,i6])⟩
 | succ n ih=>
  intro a b u x v y hn ha hb hi;unfold Pol.bz
  by_cases h0:b=0
  ·subst h0
   rw [if_pos rfl];exact ⟨row x,row y,bu (by simp -implicitDefEqProofs [Z10_L0,ap,dj,i6])⟩
  ·rw [if_neg h0]
   obtain ⟨s1,s2,s3,s4,s5,s6,s7,s8⟩:=Jz hi hA hB ha hb h0;have hl:=Pol.len_mod a h0;have hp:=Pol.len_pos h0;obtain ⟨x',y',e⟩:=ih b (a%b) x (u-a/b*x) y (v-a/b*y) (by omega) hb s6 (hi.step h0)
   refine ⟨x',y',bn ?_ e⟩;have e1:=hd p a b h0 (by omega) (by omega)
   have e2:=ht p (a/b) x (by omega) (by omega)
   have e3:=hc p u (a/b*x) (by omega) (by omega)
   have e4:=ht p (a/b) y (by omega) (by omega)
   have e5:=hc p v (a/b*y) (by omega) (by omega)
   simp -implicitDefEqProofs [Z10_L0,ap,hp,e1,e2,e3,e4,e5]
end
def G2 (O:am):Prop:=∀(p:Int) [IsP p] (a b:Fp p),(a≠0∨b≠0)→a.len≤2000→b.len≤2000 →
 ask O F10 [(D.int .i64 p),(D.sl .leaf (aq .i64 (row a))),(D.sl .leaf (aq .i64 (row b)))]=some (.tup [(D.sl .leaf (aq .i64 (row (Pol.bezout a b).1))),(D.sl .leaf (aq .i64 (row (Pol.bezout a b).2.1))),(D.sl .leaf (aq .i64 (row (Pol.bezout a b).2.2)))])
theorem vw {p:Int} [IsP p] (x:Zp p) (hx:x≠0):zp p (inv p (rep x))=Fd.inv x:=by
 have h0:=o7 x;have h1:rep x≠0:=fun h=>hx (io.1 h)
 have h2:x*zp p (inv p (rep x))=1:=by
  have:zp p (rep x*inv p (rep x))=1:=by rw [←zr,a80 p _ (by omega) h0.2]; rfl
  rwa [Dl,mw] at this
 have h3:=Fd.mul_inv x hx;have:Fd.inv x*(x*zp p (inv p (rep x)))=Fd.inv x*1:=by rw [h2]
 rw [←Gq.mul_assoc,Gq.mul_comm (Fd.inv x),h3,Gq.one_mul,Gq.mul_one] at this;exact this
theorem a58 (hT:T F10=some Z10) (hd:vk (den T A)) (ht:yr (den T A)) (hc:jn (den T A)) (hld:xq (den T A)) (hinv:qb (den T A)) (hs:sy (den T A)):G2 (den T A):=by
 intro p i a b hab ha hb;have hp:=IsP.ge (p:=p);have hp7:=IsP.le (p:=p)
 -- the end
 have last:∀{x y:Fp p} {a' u v:Fp p},Pol.BzI a b a' 0 u x v y→ask (den T A) F1p [(D.sl .leaf (aq .i64 (row a')))]=some (D.int .i64 (rep a'.ld))∧ask (den T A) F17 [(D.int .i64 p),(D.int .i64 (rep a'.ld))]=some (D.int .i64 (inv p (rep a'.ld))) ∧
  ask (den T A) F1h [(D.int .i64 p),(D.sl .leaf (aq .i64 (row a'))),(D.int .i64 (inv p (rep a'.ld)))]=some (D.sl .leaf (aq .i64 (row (Pol.C (Fd.inv a'.ld)*a'))))∧ask (den T A) F1h [(D.int .i64 p),(D.sl .leaf (aq .i64 (row u))),(D.int .i64 (inv p (rep a'.ld)))]=some (D.sl .leaf (aq .i64 (row (Pol.C (Fd.inv a'.ld)*u))))∧ask (den T A) F1h [(D.int .i64 p),(D.sl .leaf (aq .i64 (row v))),(D.int .i64 (inv p (rep a'.ld)))]=some (D.sl .leaf (aq .i64 (row (Pol.C (Fd.inv a'.ld)*v)))):=by
  intro x y a' u v hi;have ha0:a'≠0:=hi.any.resolve_right (fun h=>h rfl)
  have hr:=o7 a'.ld;have hin:=zq p (rep a'.ld);have h1:=hi.lu;have h2:=hi.lv;rw [Pol.len_zero] at h1 h2
  have hal:a'.len<5000:=by
   have:=Pol.len_add_le (a:=u*a) (b:=v*b) (n:=4500) (by
    by_cases hu:u=0
    ·rw [hu,Gq.zero_mul,Pol.len_zero]; omega
    ·by_cases ha0:a=0
     ·rw [ha0,Gq.mul_zero,Pol.len_zero]; omega
     ·have:=Pol.len_mul hu ha0; omega) (by
    by_cases hu:v=0
    ·rw [hu,Gq.zero_mul,Pol.len_zero]; omega
    ·by_cases ha0:b=0
     ·rw [ha0,Gq.mul_zero,Pol.len_zero]; omega
     ·have:=Pol.len_mul hu ha0; omega)
   rw [hi.one] at this;omega
  have e1:=hld (row a') (by rw [ca]; omega)
  rw [H0] at e1;have e2:=hinv p (rep a'.ld) (by omega) (by omega) hr.1 hr.2
  have e3:=hs p (inv p (rep a'.ld)) a' (by omega) (by omega) (by omega)
  have e4:=hs p (inv p (rep a'.ld)) u (by omega) (by omega) (by omega)
  have e5:=hs p (inv p (rep a'.ld)) v (by omega) (by omega) (by omega)
  rw [vw _ (Pol.ld_ne ha0)] at e3 e4 e5;exact ⟨e1,e2,e3,e4,e5⟩
 have I0:=Pol.BzI.init (A:=a) (B:=b) hab;refine c9 hT rfl ?_;unfold Pol.bezout Pol.eu
 by_cases h0:b=0
 ·subst h0
  have l0:=bu (O:=den T A) (np:=0) (c:=Z10_L0) (s:=⟨[(0,(.d (.int .i64 p))),(1,(.d (.sl .leaf (aq .i64 (row a))))),(2,(.d (.sl .leaf (aq .i64 ([]))))),(9,.sl 0 [] 0 1 (some 1)),(10,(.d (.sl .leaf (aq .i64 ([]))))),(11,(.d (.sl .leaf (aq .i64 ([]))))),(12,.sl 1 [] 0 1 (some 1))],[.sl false .leaf (aq .i64 [1]),.sl false .leaf (aq .i64 [1])]⟩) (s1:=⟨[(0,(.d (.int .i64 p))),(1,(.d (.sl .leaf (aq .i64 (row a))))),(2,(.d (.sl .leaf (aq .i64 ([]))))),(9,.sl 0 [] 0 1 (some 1)),(10,(.d (.sl .leaf (aq .i64 ([]))))),(11,(.d (.sl .leaf (aq .i64 ([]))))),(12,.sl 1 [] 0 1 (some 1)),(20,(.d (.bool false)))],[.sl false .leaf (aq .i64 [1]),.sl false .leaf (aq .i64 [1])]⟩) (id:=0) (by simp -implicitDefEqProofs [Z10_L0,ap,i6])
  obtain ⟨e1,e2,e3,e4,e5⟩:=last I0;rw [yq] at e4;rw [dj] at e5;rw [i6] at l0 e5;rw [Pol.len_zero];have o1:D.int IntKind.i64 1::[]=aq .i64 [1]:=rfl;simp -implicitDefEqProofs [Z10,Z10_B,dj,i6,Pol.bz,e1,e2,e3,e4,e5,l0,o1,List.replicate]
 ·have hp0:=Pol.len_pos h0
  have I1:=I0.step h0;obtain ⟨_,_,_,_,q5,q6,q7,q8⟩:=Jz I0 ha hb ha hb h0;have l0:=hd p a b h0 (by omega) (by omega)
  have l1:=ht p (a/b) 0 (by omega) (by rw [Pol.len_zero]; omega)
  have l2:=ht p (a/b) 1 (by omega) (by rw [Pol.len_one]; omega)
  have l3:=hc p 1 (a/b*0) (by rw [Pol.len_one]; omega) (by omega)
  have l4:=hc p 0 (a/b*1) (by rw [Pol.len_zero]; omega) (by omega)
  rw [yq] at l2 l3;rw [dj,i6] at l1 l4
  have st1:dn (den T A) 0 Z10_L0 ⟨[(0,(.d (.int .i64 p))),(1,(.d (.sl .leaf (aq .i64 (row a))))),(2,(.d (.sl .leaf (aq .i64 (row b))))),(9,.sl 0 [] 0 1 (some 1)),(10,.d (.sl .leaf [])),(11,.d (.sl .leaf [])),(12,.sl 1 [] 0 1 (some 1))],[.sl false .leaf (aq .i64 [1]),.sl false .leaf (aq .i64 [1])]⟩ =
   some (.normal,⟨[(0,(.d (.int .i64 p))),(1,(.d (.sl .leaf (aq .i64 (row b))))),(2,(.d (.sl .leaf (aq .i64 (row (a%b)))))),(9,.d (.sl .leaf [])),(10,.sl 1 [] 0 1 (some 1)),(11,(.d (.sl .leaf (aq .i64 (row (1-a/b*0)))))),(12,(.d (.sl .leaf (aq .i64 (row (0-a/b*1))))))],[.hole,.sl true .leaf (aq .i64 [1])]⟩):=by
   simp -implicitDefEqProofs [Z10_L0,ap,hp0,l0,l1,l2,l3,l4]
  by_cases h1:a%b=0
  ·have st2:dn (den T A) 0 Z10_L0 ⟨[(0,(.d (.int .i64 p))),(1,(.d (.sl .leaf (aq .i64 (row b))))),(2,(.d (.sl .leaf (aq .i64 (row (a%b)))))),(9,.d (.sl .leaf [])),(10,.sl 1 [] 0 1 (some 1)),(11,(.d (.sl .leaf (aq .i64 (row (1-a/b*0)))))),(12,(.d (.sl .leaf (aq .i64 (row (0-a/b*1))))))],[.hole,.sl true .leaf (aq .i64 [1])]⟩ =
    some (.exit 0,⟨[(0,(.d (.int .i64 p))),(1,(.d (.sl .leaf (aq .i64 (row b))))),(2,(.d (.sl .leaf (aq .i64 (row (a%b)))))),(9,.d (.sl .leaf [])),(10,.sl 1 [] 0 1 (some 1)),(11,(.d (.sl .leaf (aq .i64 (row (1-a/b*0)))))),(12,(.d (.sl .leaf (aq .i64 (row (0-a/b*1)))))),(20,(.d (.bool false)))],[.hole,.sl true .leaf (aq .i64 [1])]⟩):=by
    simp -implicitDefEqProofs [Z10_L0,ap,h1,dj]
   have lp:=bn st1 (bu st2)
   have hb1:Pol.bz b.len a b 1 0 0 1=(b,0,1):=by
    rw [show b.len=(b.len-1)+1 by omega,Pol.bz,if_neg h0]
    cases hn:b.len-1 with
    | zero=>rfl
    | succ n=>rw [Pol.bz,if_pos h1]
   rw [hb1];have I1':Pol.BzI a b b 0 0 (1-a/b*0) 1 (0-a/b*1):=h1▸I1;obtain ⟨e1,e2,e3,e4,e5⟩:=last I1';rw [yq] at e5;rw [dj,i6] at e4;have o1:D.int IntKind.i64 1::[]=aq .i64 [1]:=rfl;simp -implicitDefEqProofs [Z10,Z10_B,e1,e2,e3,e4,e5,lp,o1,List.replicate]
  ·have hp1:=Pol.len_pos h1
   have hl1:=Pol.len_mod a h0;obtain ⟨s1,s2,s3,s4,s5,s6,s7,s8⟩:=Jz I1 ha hb hb (by omega) h1
   have m0:=hd p b (a%b) h1 (by omega) (by omega)
   have m1:=ht p (b/(a%b)) (1-a/b*0) (by omega) (by omega)
   have m2:=ht p (b/(a%b)) (0-a/b*1) (by omega) (by omega)
   have m3:=hc p 0 (b/(a%b)*(1-a/b*0)) (by omega) (by omega)
   have m4:=hc p 1 (b/(a%b)*(0-a/b*1)) (by omega) (by omega)
   rw [yq] at m4;rw [dj,i6] at m3
   have st2:dn (den T A) 0 Z10_L0 ⟨[(0,(.d (.int .i64 p))),(1,(.d (.sl .leaf (aq .i64 (row b))))),(2,(.d (.sl .leaf (aq .i64 (row (a%b)))))),(9,.d (.sl .leaf [])),(10,.sl 1 [] 0 1 (some 1)),(11,(.d (.sl .leaf (aq .i64 (row (1-a/b*0)))))),(12,(.d (.sl .leaf (aq .i64 (row (0-a/b*1))))))],[.hole,.sl true .leaf (aq .i64 [1])]⟩ =
    some (.normal,⟨[(0,(.d (.int .i64 p))),(1,(.d (.sl .leaf (aq .i64 (row (a%b)))))),(2,(.d (.sl .leaf (aq .i64 (row (b%(a%b))))))),(9,(.d (.sl .leaf (aq .i64 (row (1-a/b*0)))))),(10,(.d (.sl .leaf (aq .i64 (row (0-a/b*1)))))),(11,(.d (.sl .leaf (aq .i64 (row (0-b/(a%b)*(1-a/b*0))))))),(12,(.d (.sl .leaf (aq .i64 (row (1-b/(a%b)*(0-a/b*1)))))))],[.hole,.hole]⟩):=by
    simp -implicitDefEqProofs [Z10_L0,ap,hp1,m0,m1,m2,m3,m4]
   have I2:=I1.step h1;have hl2:=Pol.len_mod b h1;obtain ⟨x',y',e⟩:=a5e hd ht hc ha hb (b.len-2) _ _ _ _ _ _ (by omega) (by omega) (by omega) I2
   have lp:=bn st1 (bn st2 e)
   have hb1:Pol.bz b.len a b 1 0 0 1=Pol.bz (b.len-2) (a%b) (b%(a%b)) (1-a/b*0) (0-b/(a%b)*(1-a/b*0)) (0-a/b*1) (1-b/(a%b)*(0-a/b*1)):=by
    rw [show b.len=(b.len-2+1)+1 by omega,Pol.bz,if_neg h0,Pol.bz,if_neg h1]
    rfl
   rw [hb1];obtain ⟨x2,y2,I3,_,_⟩:=Pol.bz_spec (b.len-2) _ _ _ _ _ _ (by omega) I2
   obtain ⟨e1,e2,e3,e4,e5⟩:=last I3;have o1:D.int IntKind.i64 1::[]=aq .i64 [1]:=rfl;simp -implicitDefEqProofs [Z10,Z10_B,i6,e1,e2,e3,e4,e5,lp,o1,List.replicate]
def Yt (O:am):Prop:=∀(p:Int) [IsP p] (a b:Fp p),(a≠0∨b≠0)→a.len≤2000→b.len≤2000 →
 ask O F16 [(D.int .i64 p),(D.sl .leaf (aq .i64 (row a))),(D.sl .leaf (aq .i64 (row b)))]=some (D.sl .leaf (aq .i64 (row (Pol.gcd a b))))
theorem aiq (hT:T F16=some Z16) (hb:G2 (den T A)):Yt (den T A):=by
 intro p i a b hab h1 h2;have e:=hb p a b hab h1 h2;refine c9 hT rfl ?_;simp -implicitDefEqProofs [Z16,Z16_B,e,Pol.gcd]
theorem ao8 (x:Int) (_h:0≤x):((BitVec.ofInt 64 x &&& 1#64).toNat:Int)=x%2:=by
 rw [BitVec.toNat_and];have e:(1#64).toNat=2^1-1:=rfl;rw [e,Nat.and_two_pow_sub_one_eq_mod,BitVec.toNat_ofInt];omega
theorem abm (x:Int) (h:0≤x):ai1 .i64 x 1=x%2:=by
 show IntKind.i64.wrap ((BitVec.ofInt 64 x &&& 1#64).toNat:Int)=_;rw [ao8 x h,w64 (by omega)]
theorem abq (x:Int):Dt .shr .i64 x 1=some (.int .i64 (x/2)):=by
 show (if (1:Int)<0 then none else some (D.int .i64 (x.fdiv (2^min (1:Int).toNat 64))))=_
 rw [if_neg (by omega)]
 congr 2
 show x.fdiv 2=x/2;rw [Int.fdiv_eq_ediv_of_nonneg _ (by omega)]
theorem abt {O:am} (hr:B5 O) (ht:yr O) {p:Int} [IsP p] {m:Fp p} (hm:m≠0) (hml:m.len<2000):∀(n:Nat) (k:Int) (out base:Fp p),0≤k→k.toNat<2^n→k<4611686018427387904→out.len<m.len→base.len<m.len→∃base':List Int,
 dn O 0 (.loop Z1b_L0) ⟨[(0,(.d (.int .i64 p))),(2,(.d (.int .i64 k))),(3,(.d (.sl .leaf (aq .i64 (row m))))),(9,(.d (.sl .leaf (aq .i64 (row out))))),(10,(.d (.sl .leaf (aq .i64 (row base)))))],[.hole]⟩ =
  some (.exit 0,⟨[(0,(.d (.int .i64 p))),(2,(.d (.int .i64 0))),(3,(.d (.sl .leaf (aq .i64 (row m))))),(9,(.d (.sl .leaf (aq .i64 (row (out*pw base k.toNat%m)))))),(10,(.d (.sl .leaf (aq .i64 base')))),(20,(.d (.bool false)))],[.hole]⟩):=by
 intro n
 induction n with
 | zero=>
  intro k out base hk hn _ ho hb;obtain rfl:k=0:=by simp at hn; omega
  refine ⟨row base,?_⟩
  have e:out*pw base (0:Int).toNat%m=out:=by
   show out*1%m=out;rw [Gq.mul_one,Pol.mod_small ho]
  rw [e];exact bu (by simp -implicitDefEqProofs [Z1b_L0,ap])
 | succ n ih=>
  intro k out base hk hn hkm ho hb
  by_cases h0:k=0
  ·subst h0
   refine ⟨row base,?_⟩
   have e:out*pw base (0:Int).toNat%m=out:=by
    show out*1%m=out;rw [Gq.mul_one,Pol.mod_small ho]
   rw [e];exact bu (by simp -implicitDefEqProofs [Z1b_L0,ap])
  ·have hkp:0<k:=by omega
   have hlen:∀x y:Fp p,x.len<m.len→y.len<m.len→(x*y).len<5000:=fun x y hx hy=>by
    have:=Pol.len_le (Pol.lt_mul x.lt_len y.lt_len);omega
   have t1:=ht p out base (by omega) (by omega)
   have t2:=ht p base base (by omega) (by omega)
   have r1:=hr p (out*base) m hm (hlen _ _ ho hb) (by omega)
   have r2:=hr p (base*base) m hm (hlen _ _ hb hb) (by omega)
   have s:=Pol.bin_step (out:=out) (base:=base) hm k.toNat (by omega)
   have hdiv:(k/2).toNat=k.toNat/2:=by omega
   obtain ⟨b',e⟩:=ih (k/2) (if k.toNat%2=1 then out*base%m else out) (base*base%m) (by omega) (by rw [qi] at hn; omega) (by omega) (by split; exact Pol.len_mod _ hm; exact ho) (Pol.len_mod _ hm)
   rw [hdiv,s] at e;refine ⟨b',bn ?_ e⟩;have ea:=abm k (by omega)
   have es:=abq k
   by_cases hodd:k%2=1
   ·rw [if_pos (show k.toNat%2=1 by omega)]
    simp -implicitDefEqProofs [Z1b_L0,ap,hkp,t1,t2,r1,r2,ea,es,hodd]
   ·rw [if_neg (show ¬ k.toNat%2=1 by omega)]
    simp -implicitDefEqProofs [Z1b_L0,ap,hkp,t2,r2,ea,es,hodd]
def zg (O:am):Prop:=∀(p:Int) [IsP p] (a:Fp p) (k:Int) (m:Fp p),m≠0→a.len<5000→m.len<2000→0≤k→k<4611686018427387904 →
 ask O F1b [(D.int .i64 p),(D.sl .leaf (aq .i64 (row a))),(D.int .i64 k),(D.sl .leaf (aq .i64 (row m)))]=some (D.sl .leaf (aq .i64 (row (pw a k.toNat%m))))
theorem a9w (hT:T F1b=some Z1b) (hr:B5 (den T A)) (ht:yr (den T A)):zg (den T A):=by
 intro p i a k m hm ha hml hk hkm;have r1:=hr p 1 m hm (by rw [Pol.len_one]; omega) (by omega)
 rw [yq] at r1;have r2:=hr p a m hm (by omega) (by omega)
 obtain ⟨b',e⟩:=abt hr ht hm hml 62 k (1%m) (a%m) hk (by omega) hkm (Pol.len_mod _ hm) (Pol.len_mod _ hm)
 have e2:1%m*pw (a%m) k.toNat%m=pw a k.toNat%m:=by
  rw [Pol.mul_mod_left _ _ hm,Gq.one_mul,Pol.pow_mod _ hm]
 rw [e2] at e;have o1:D.int IntKind.i64 1::[]=aq .i64 [1]:=rfl;refine c9 hT rfl ?_;simp -implicitDefEqProofs [Z1b,Z1b_B,r1,r2,e,o1,List.replicate]
def Hy (p most:Int):Nat→Int→Int
 | 0,out=>out
 | n+1,out=>if out > most then out else Hy p most n (out*p)
theorem a4d {O:am} {p:Int} [IsP p] {most nn:Int} (hmost:most≤1152921504606846976):∀(n:Nat) (i:Int) (out:Int),i+n=nn→-1000000<i→nn<1000000→0≤out→out≤8070450532247928832→∃(i':Int) (b:List (Nat×V)),
 dn O 0 (.loop Z19_L0) ⟨[(0,(.d (.int .i64 p))),(2,(.d (.int .i64 most))),(7,(.d (.int .i64 out))),(8,(.d (.int .i64 nn))),(9,(.d (.int .i64 i)))],[]⟩ =
  some (.exit 0,⟨[(0,(.d (.int .i64 p))),(2,(.d (.int .i64 most))),(7,(.d (.int .i64 (Hy p most n out)))),(8,(.d (.int .i64 nn))),(9,(.d (.int .i64 i')))]++b,[]⟩)
 | 0,i,out,hi,h1,h2,ho,ho2=>by
  have:i=nn:=by omega
  subst this;exact ⟨i,[(10,(.d (.bool false)))],bu (by simp -implicitDefEqProofs [Z19_L0,ap,Hy])⟩
 | n+1,i,out,hi,h1,h2,ho,ho2=>by
  have hlt:i<nn:=by omega
  have hp:=IsP.le (p:=p);have hp2:=IsP.pos (p:=p)
  by_cases hm:most<out
  ·exact ⟨i,[(13,(.d (.bool true)))],bu (by simp -implicitDefEqProofs [Z19_L0,ap,Hy,hlt,hm])⟩
  ·have hmul:0≤out*p∧out*p≤8070450532247928832:=by
    refine ⟨gp ho (by omega),?_⟩
    have:out*p≤out*7:=de hp ho;omega
   obtain ⟨i',b,e⟩:=a4d (O:=O) (p:=p) (nn:=nn) hmost n (i+1) (out*p) (by omega) (by omega) h2 hmul.1 hmul.2
   have w1:IntKind.i64.wrap (out*p)=out*p:=wt;have w2:IntKind.i64.wrap (i+1)=i+1:=wt;refine ⟨i',b,bn (s1:=⟨[(0,(.d (.int .i64 p))),(2,(.d (.int .i64 most))),(7,(.d (.int .i64 (out*p)))),(8,(.d (.int .i64 nn))),(9,(.d (.int .i64 (i+1))))],[]⟩) (by simp -implicitDefEqProofs [Z19_L0,ap,hlt,hm,w1,w2]) ?_⟩
   rw [e,Hy,if_neg (by omega)]
def Xo (O:am):Prop:=∀(p:Int) [IsP p] (n:Nat) (most:Int),n<1000000→most≤1152921504606846976→ask O F19 [(D.int .i64 p),(D.int .i64 n),(D.int .i64 most)]=some (D.int .i64 (Hy p most n 1))
theorem aeb (hT:T F19=some Z19):Xo (den T A):=by
 intro p i n most hn hm;obtain ⟨i',b,e⟩:=a4d (O:=den T A) (p:=p) (nn:=(n:Int)) hm n 0 1 (by omega) (by omega) (by omega) (by omega) (by omega)
 refine c9 hT rfl ?_;simp -implicitDefEqProofs [Z19,Z19_B,e]
def dgs (p:Int):Nat→Int→List Int
 | 0,_=>[]
 | f+1,n=>if n≤0 then [] else n%p::dgs p f (n/p)
def pb (p n:Int):Fp p:=gw p (dgs p 64 n)
theorem a0f {p:Int} [IsP p]:∀f n,Can p (dgs p f n)
 | 0,n=>fun x hx=>by simp [dgs] at hx
 | f+1,n=>fun x hx=>by
  unfold dgs at hx
  split at hx
  ·simp at hx
  ·have hp:=IsP.pos (p:=p)
   rcases dp.1 hx with rfl | hx
   ·exact ⟨eo _ (by omega),du _ hp⟩
   ·exact a0f f _ x hx
theorem N9 {p n:Int} [IsP p] (h:0<n) (h2:n/p=0):n%p≠0:=by
 have h3:=Int.mul_ediv_add_emod n p;rw [h2] at h3;simp at h3;omega
theorem Tt {p:Int} [IsP p]:∀(f:Nat) (n:Int),n<2^f→dgs p f n=[]∨cf (dgs p f n) ((dgs p f n).length-1)≠0
 | 0,n,h=>.inl rfl
 | f+1,n,h=>by
  by_cases h0:n≤0
  ·left; simp [dgs,h0]
  ·right
   have hp:=IsP.ge (p:=p)
   have hd:n/p<2^f:=by
    apply mg (by omega)
    have:(2:Int)^(f+1)=2^f*2:=jt _ _;have h2:(2:Int)^f*2≤2^f*p:=de hp (sz (by omega))
    omega
   have e:dgs p (f+1) n=n%p::dgs p f (n/p):=by simp [dgs,h0]
   rw [e];have hdn:0≤n/p:=ri (by omega) (by omega)
   rcases Tt (p:=p) f (n/p) hd with h1 | h1
   ·rw [h1]
    show n%p≠0
    by_cases hz:n/p=0
    ·exact N9 (p:=p) (show 0<n by omega) hz
    ·exfalso
     cases f with
     | zero=>simp at hd; omega
     | succ f=>
      rw [dgs,if_neg (by omega)] at h1
      cases h1
   ·cases hq:dgs p f (n/p) with
    | nil=>rw [hq] at h1; simp [cf] at h1
    | cons a l=>
     rw [hq] at h1
     simpa [cf] using h1
theorem Sp {p:Int} [IsP p] {l:List Int} (h:Can p l) (hl:l=[]∨cf l (l.length-1)≠0):row (gw p l)=l:=by
 rw [←ru h];unfold trim
 have:sf l l.length=l.length:=by
  cases hn:l.length with
  | zero=>rfl
  | succ n=>
   rcases hl with h0 | h0
   ·rw [h0] at hn; simp at hn
   ·rw [hn,Nat.add_sub_cancel] at h0
    rw [sf,if_neg h0]
 rw [this,iq]
theorem Uf {p:Int} [IsP p] {n:Int} (h:n<18446744073709551616):row (pb p n)=dgs p 64 n:=Sp (a0f 64 n) (Tt 64 n (by simpa using h))
theorem Mm {O:am} {p:Int} [IsP p]:∀(f:Nat) (n:Int) (cur:List Int) (cp:Option Nat),0≤n→n<2^f→n<9223372036854775807→cur.length+f<1000→∃cp',
 dn O 0 (.loop Z1a_L0) ⟨[(0,(.d (.int .i64 p))),(1,(.d (.int .i64 n))),(5,.sl 0 [] 0 cur.length cp)],[.sl false .leaf (aq .i64 cur),.hole,.hole]⟩ =
  some (.exit 0,⟨[(0,(.d (.int .i64 p))),(1,(.d (.int .i64 0))),(5,.sl 0 [] 0 (cur++dgs p f n).length cp'),(7,(.d (.bool false)))],[.sl false .leaf (aq .i64 (cur++dgs p f n)),.hole,.hole]⟩)
 | 0,n,cur,cp,h0,hn,hm,hl=>by
  obtain rfl:n=0:=by simp at hn; omega
  refine ⟨cp,?_⟩;rw [dgs,ov];exact bu (by simp -implicitDefEqProofs [Z1a_L0,ap])
 | f+1,n,cur,cp,h0,hn,hm,hl=>by
  have hp:=IsP.ge (p:=p);have hp7:=IsP.le (p:=p)
  by_cases hz:n=0
  ·subst hz
   refine ⟨cp,?_⟩;rw [dgs,if_pos (B8 0),ov];exact bu (by simp -implicitDefEqProofs [Z1a_L0,ap])
  ·have hd:n/p<2^f:=by
    apply mg (by omega)
    have:(2:Int)^(f+1)=2^f*2:=jt _ _;have h2:(2:Int)^f*2≤2^f*p:=de hp (sz (by omega))
    omega
   have hdn:0≤n/p:=ri (by omega) (by omega)
   have hdl:n/p≤n:=Int.ediv_le_self _ h0;obtain ⟨cp',e⟩:=Mm (O:=O) (p:=p) f (n/p) (cur++[n%p]) none hdn hd (by omega) (by simp; omega)
   have hpos:0<n:=by omega
   have w1:IntKind.i64.wrap (n.tdiv p)=n/p:=by rw [Int.tdiv_eq_ediv_of_nonneg h0,w64 (by omega)]
   have w2:n.tmod p=n%p:=d9 h0;have hp0:p≠0:=by omega
   have h8:(cur.length+1)*8≤1099511627776:=by omega
   have o1:aq .i64 cur++[D.int .i64 (n%p)]=aq .i64 (cur++[n%p]):=by rw [←I8]; rfl
   refine ⟨cp',?_⟩;rw [dgs,if_neg (by omega),show cur++n%p::dgs p f (n/p)=(cur++[n%p])++dgs p f (n/p) by simp]
   refine bn ?_ e;simp -implicitDefEqProofs [Z1a_L0,ap,hpos,w1,w2,hp0,h8,o1,List.replicate]
def zt (O:am):Prop:=∀(p:Int) [IsP p] (n:Int),0≤n→n<4611686018427387904→ask O F1a [(D.int .i64 p),(D.int .i64 n)]=some (D.sl .leaf (aq .i64 (row (pb p n))))
theorem Wv (hT:T F1a=some Z1a):zt (den T A):=by
 intro p i n h0 hn;obtain ⟨cp,e⟩:=Mm (O:=den T A) (p:=p) 64 n [] (some 0) h0 (by omega) (by omega) (by simp)
 rw [Uf (by omega)]
 rw [i6,cw] at e;have e0:(([]:List Int).length:Nat)=0:=rfl;rw [e0] at e;refine c9 hT rfl ?_;simp -implicitDefEqProofs [Z1a,Z1a_B,e]
end Pe

namespace Gq
section
variable {K:Type} [Fd K]
def Dv (a b:Pol K):Prop:=∃c,b=a*c
theorem Dv.refl (a:Pol K):Dv a a:=⟨1,(mul_one a).symm⟩
theorem Dv.trans {a b c:Pol K} (h:Dv a b) (h':Dv b c):Dv a c:=by
 obtain ⟨x,rfl⟩:=h;obtain ⟨y,rfl⟩:=h';exact ⟨x*y,mul_assoc _ _ _⟩
theorem Dv.zero (a:Pol K):Dv a 0:=⟨0,(mul_zero a).symm⟩
theorem Dv.mul_right {a b:Pol K} (h:Dv a b) (c:Pol K):Dv a (b*c):=h.trans ⟨c,rfl⟩
theorem Dv.mul_left {a b:Pol K} (h:Dv a b) (c:Pol K):Dv a (c*b):=h.trans ⟨c,mul_comm _ _⟩
theorem Dv.add {a b c:Pol K} (h:Dv a b) (h':Dv a c):Dv a (b+c):=by
 obtain ⟨x,rfl⟩:=h;obtain ⟨y,rfl⟩:=h';exact ⟨x+y,(mul_add _ _ _).symm⟩
theorem Dv.neg {a b:Pol K} (h:Dv a b):Dv a (-b):=by
 obtain ⟨x,rfl⟩:=h;exact ⟨-x,(aa2 _ _).symm⟩
theorem Dv.sub {a b c:Pol K} (h:Dv a b) (h':Dv a c):Dv a (b-c):=by
 rw [sub_eq]; exact h.add h'.neg
theorem Dv.len {a b:Pol K} (h:Dv a b) (hb:b≠0):a.len≤b.len:=by
 obtain ⟨x,rfl⟩:=h;have ha:a≠0:=fun h=>hb (by rw [h,zero_mul])
 have hx:x≠0:=fun h=>hb (by rw [h,mul_zero])
 have:=Pol.len_mul ha hx;have:=Pol.len_pos hx;omega
theorem zi {a m:Pol K} (hm:m≠0):Dv m a↔a%m=0:=by
 constructor
 ·rintro ⟨c,rfl⟩
  rw [mul_comm];exact Pol.mod_self_mul c hm
 ·intro h
  have:=Pol.div_mod a m;rw [h,add_zero,mul_comm] at this;exact ⟨_,this⟩
theorem qd {a m:Pol K}:Dv m a↔Quo.mk m a=0:=by
 rw [←Quo.mk_zero,Quo.eq];constructor
 ·rintro ⟨c,h⟩; exact ⟨c,by rw [zero_add,h]⟩
 ·rintro ⟨c,h⟩; exact ⟨c,by rw [h,zero_add]⟩
theorem pq {a:Pol K} (h:a.len=1):∃k:K,k≠0∧a=Pol.C k:=by
 have e:=Pol.eq_C (Pol.lt_iff.2 (show a.len≤1 by omega))
 refine ⟨a.c 0,fun h0=>?_,e⟩
 rw [h0,Pol.C_zero] at e;rw [e,Pol.len_zero] at h;omega
theorem a49 {k:K} (h:k≠0):Pol.C k*Pol.C (Fd.inv k)=1:=by rw [←Pol.C_mul,Fd.mul_inv k h,Pol.C_one]
theorem Dv.Cmul {a b:Pol K} {k:K} (hk:k≠0):Dv (Pol.C k*a) b↔Dv a b:=by
 constructor
 ·rintro ⟨c,h⟩
  exact ⟨Pol.C k*c,by rw [h]; exact cu [Pol.C k,a,c] rfl⟩
 ·rintro ⟨c,h⟩
  refine ⟨Pol.C (Fd.inv k)*c,?_⟩;have:Pol.C k*a*(Pol.C (Fd.inv k)*c)=(Pol.C k*Pol.C (Fd.inv k))*(a*c):=cu [Pol.C k,a,Pol.C (Fd.inv k),c] rfl;rw [this,a49 hk,one_mul,h]
def Monic (a:Pol K):Prop:=a.ld=1∧a≠0
theorem Monic.mul {a b:Pol K} (ha:Monic a) (hb:Monic b):Monic (a*b):=⟨by rw [Pol.ld_mul ha.2 hb.2,ha.1,hb.1,mul_one],Pol.mul_ne ha.2 hb.2⟩
theorem Monic.one:Monic (1:Pol K):=⟨Pol.ld_one,Pol.one_ne⟩
theorem Pol.ld_C {k:K} (h:k≠0):(C k).ld=k:=by unfold ld; rw [len_C h]; rfl
theorem Monic.eq_one {a:Pol K} (h:Monic a) (hl:a.len=1):a=1:=by
 obtain ⟨k,hk,rfl⟩:=pq hl;have:=h.1;rw [Pol.ld_C hk] at this;rw [this,Pol.C_one]
theorem Monic.antisymm {a b:Pol K} (ha:Monic a) (hb:Monic b) (h:Dv a b) (h':Dv b a):a=b:=by
 obtain ⟨x,rfl⟩:=h;have h1:=h'.len ha.2;have hx:x≠0:=fun h=>hb.2 (by rw [h,mul_zero])
 have h2:=Pol.len_mul ha.2 hx;have h3:=Pol.len_pos hx;obtain ⟨k,hk,rfl⟩:=pq (show x.len=1 by omega)
 have h4:=hb.1;rw [Pol.ld_mul ha.2 hx,ha.1,one_mul,Pol.ld_C hk] at h4;rw [h4,Pol.C_one,mul_one]
noncomputable def mon (a:Pol K):Pol K:=Pol.C (Fd.inv a.ld)*a
theorem px {a:Pol K} (h:a≠0):Monic (mon a):=by
 have h1:=Fd.inv_ne (Pol.ld_ne h);refine ⟨?_,Pol.mul_ne (Pol.C_ne h1) h⟩;unfold mon;rw [Pol.ld_mul (Pol.C_ne h1) h,Pol.ld_C h1,mul_comm,Fd.mul_inv _ (Pol.ld_ne h)]
theorem Cy {a b:Pol K} (h:a≠0):Dv (mon a) b↔Dv a b:=Dv.Cmul (Fd.inv_ne (Pol.ld_ne h))
theorem uu {a:Pol K} (h:a≠0):(mon a).len=a.len:=Pol.len_Cmul (Fd.inv_ne (Pol.ld_ne h)) a
theorem a6f {a:Pol K} (h:a≠0):a=Pol.C a.ld*mon a:=by
 unfold mon;rw [←mul_assoc,a49 (Pol.ld_ne h),one_mul]
theorem Pol.eu_spec {a b:Pol K} (h:a≠0∨b≠0):(eu a b).1≠0∧Dv (eu a b).1 a∧Dv (eu a b).1 b∧(eu a b).2.1*a+(eu a b).2.2*b=(eu a b).1:=by
 obtain ⟨x,y,h1,⟨s,h2⟩,⟨t,h3⟩⟩:=bz_spec b.len a b 1 0 0 1 (ba _) (BzI.init h);exact ⟨h1.any.resolve_right fun h=>h rfl,⟨s,by rw [mul_comm]; exact h2⟩,⟨t,by rw [mul_comm]; exact h3⟩,h1.one⟩
theorem Pol.gcd_monic {a b:Pol K} (h:a≠0∨b≠0):Monic (gcd a b):=px (eu_spec h).1
theorem Pol.gcd_dv_left {a b:Pol K} (h:a≠0∨b≠0):Dv (gcd a b) a:=(Cy (eu_spec h).1).2 (eu_spec h).2.1
theorem Pol.gcd_dv_right {a b:Pol K} (h:a≠0∨b≠0):Dv (gcd a b) b:=(Cy (eu_spec h).1).2 (eu_spec h).2.2.1
theorem Pol.bezout_eq {a b:Pol K} (h:a≠0∨b≠0):(bezout a b).2.1*a+(bezout a b).2.2*b=gcd a b:=by
 have e:=(eu_spec h).2.2.2;show C (Fd.inv (eu a b).1.ld)*(eu a b).2.1*a+C (Fd.inv (eu a b).1.ld)*(eu a b).2.2*b=C (Fd.inv (eu a b).1.ld)*(eu a b).1;generalize C (Fd.inv (eu a b).1.ld)=k;generalize (eu a b).2.2=v,(eu a b).2.1=u at *;rw [←e];exact cu [k,u,a,v,b] rfl
theorem Pol.dv_gcd {a b c:Pol K} (h:a≠0∨b≠0) (ha:Dv c a) (hb:Dv c b):Dv c (gcd a b):=by
 rw [←bezout_eq h];exact (ha.mul_left _).add (hb.mul_left _)
structure Irr (q:Pol K):Prop where
 len:2≤q.len
 no:∀u v,q=u*v→u.len=1∨v.len=1
theorem Irr.ne {q:Pol K} (h:Irr q):q≠0:=fun h0=>by have:=h.len; rw [h0,Pol.len_zero] at this; omega
theorem Irr.dv {q u:Pol K} (h:Irr q) (hd:Dv u q):u.len=1∨u.len=q.len:=by
 obtain ⟨v,hv⟩:=hd;have hu:u≠0:=fun h0=>h.ne (by rw [hv,h0,zero_mul])
 have hv0:v≠0:=fun h0=>h.ne (by rw [hv,h0,mul_zero])
 have l:=Pol.len_mul hu hv0;rw [←hv] at l;rcases h.no u v hv with h1 | h1
 ·exact .inl h1
 ·right; omega
theorem Irr.coprime {q a:Pol K} (h:Irr q) (hn:¬ Dv q a):∃u v,u*q+v*a=1:=by
 have h0:q≠0∨a≠0:=.inl h.ne;have e:=Pol.bezout_eq h0;have d1:=Pol.gcd_dv_left h0;have d2:=Pol.gcd_dv_right h0;have m:=Pol.gcd_monic h0;rcases h.dv d1 with h1 | h1
 ·rw [m.eq_one h1] at e
  exact ⟨_,_,e⟩
 ·exfalso
  obtain ⟨c,hc⟩:=d1;have hc0:c≠0:=fun h0=>h.ne (by rw [hc,h0,mul_zero])
  have l:=Pol.len_mul m.2 hc0;rw [←hc] at l;obtain ⟨k,hk,rfl⟩:=pq (show c.len=1 by omega)
  apply hn;rw [hc,mul_comm];exact (Dv.Cmul hk).2 d2
theorem Irr.prime {q a b:Pol K} (h:Irr q) (hd:Dv q (a*b)):Dv q a∨Dv q b:=by
 by_cases ha:Dv q a
 ·exact .inl ha
 ·obtain ⟨u,v,e⟩:=h.coprime ha
  right
  have:b=u*b*q+v*(a*b):=by
   have e2:u*b*q+v*(a*b)=(u*q+v*a)*b:=cu [u,b,q,v,a] rfl;rw [e2,e,one_mul]
  rw [this];exact ((Dv.refl q).mul_left _).add (hd.mul_left _)
theorem Irr.of_dv {q:Pol K} (hl:2≤q.len) (h:∀u,Dv u q→u.len=1∨u.len=q.len):Irr q:=⟨hl,fun u v e=>by
 have hq:q≠0:=fun h0=>by rw [h0,Pol.len_zero] at hl; omega
 have hu:u≠0:=fun h0=>hq (by rw [e,h0,zero_mul])
 have hv0:v≠0:=fun h0=>hq (by rw [e,h0,mul_zero])
 have l:=Pol.len_mul hu hv0;rw [←e] at l;rcases h u ⟨v,e⟩ with h1 | h1
 ·exact .inl h1
 ·right; omega⟩
theorem Irr.mon {q:Pol K} (h:Irr q):Irr (mon q):=Irr.of_dv (by rw [uu h.ne]; exact h.len) fun u hu=>by
 rw [uu h.ne];apply h.dv;refine hu.trans ?_;rw [Cy h.ne];exact .refl q
theorem Gu:∀(n:Nat) (a:Pol K),a.len≤n→2≤a.len→∃q,Irr q∧Monic q∧Dv q a
 | 0,a,h,h2=>by omega
 | n+1,a,h,h2=>by
  have ha:a≠0:=fun h0=>by rw [h0,Pol.len_zero] at h2; omega
  by_cases hi:Irr a
  ·exact ⟨Gq.mon a,hi.mon,px ha,(Cy ha).2 (.refl a)⟩
  ·have:∃u,Dv u a∧u.len≠1∧u.len≠a.len:=f7 fun hx=>hi (Irr.of_dv h2 fun u hu=>f7 fun hy=>hx ⟨u,hu,by omega,by omega⟩)
   obtain ⟨u,hu,h3,h4⟩:=this;have h5:=hu.len ha
   have hu0:u≠0:=fun h0=>by
    obtain ⟨c,hc⟩:=hu;exact ha (by rw [hc,h0,zero_mul])
   have h6:=Pol.len_pos hu0;obtain ⟨q,h7,h8,h9⟩:=Gu n u (by omega) (by omega)
   exact ⟨q,h7,h8,h9.trans hu⟩
theorem Irr.eq_of_dv {q r:Pol K} (hq:Irr q) (hr:Irr r) (mq:Monic q) (mr:Monic r) (h:Dv q r):q=r:=by
 refine mq.antisymm mr h ?_;rcases hr.dv h with h1 | h1
 ·have:=hq.len; omega
 ·obtain ⟨c,rfl⟩:=h
  have hc:c≠0:=fun h0=>mr.2 (by rw [h0,mul_zero])
  have l:=Pol.len_mul mq.2 hc;obtain ⟨k,hk,rfl⟩:=pq (show c.len=1 by omega)
  rw [mul_comm];exact (Dv.Cmul hk).2 (.refl q)
theorem Quo.ex {R:Type} [CR R] {m:R} (x:Quo m):∃a,x=Quo.mk m a:=Quo.ind (P:=fun x=>∃a,x=Quo.mk m a) (fun a=>⟨a,rfl⟩) x
theorem Irr.quo_zero {q:Pol K} (h:Irr q) {x y:Quo q} (e:x*y=0):x=0∨y=0:=by
 obtain ⟨a,rfl⟩:=Quo.ex x;obtain ⟨b,rfl⟩:=Quo.ex y;rw [←Quo.mk_mul,←qd] at e;rw [←qd,←qd];exact h.prime e
theorem Irr.quo_inv {q:Pol K} (h:Irr q) {x:Quo q} (hx:x≠0):∃y,x*y=1:=by
 obtain ⟨a,rfl⟩:=Quo.ex x;obtain ⟨u,v,e⟩:=h.coprime fun hd=>hx (qd.1 hd)
 refine ⟨Quo.mk q v,?_⟩;rw [←Quo.mk_mul,←Quo.mk_one,Quo.eq];refine ⟨-u,?_⟩;rw [←e];exact cu [a,v,u,q] rfl
open Classical in
noncomputable abbrev ac6 {q:Pol K} (h:Irr q):Fd (Quo q) where
 one_ne:=fun e=>by
  have:=qd.2 e;have h1:=this.len Pol.one_ne;have:=h.len;rw [Pol.len_one] at h1;omega
 inv:=fun x=>if hx:x=0 then 0 else Classical.choose (h.quo_inv hx)
 mul_inv:=fun x hx=>by rw [dif_neg hx]; exact dc (h.quo_inv hx)
end
def qk {R:Type} [CR R]:List R→R
 | []=>1
 | x::l=>x*qk l
theorem Ms {R:Type} [CR R] {l m:List R} (h:l.Perm m):qk l=qk m:=by
 induction h with
 | nil=>rfl
 | cons x _ ih=>rw [qk,qk,ih]
 | swap x y l=>rw [qk,qk,qk,qk,mul_left_comm]
 | trans _ _ h1 h2=>exact h1.trans h2
theorem Nd {R:Type} [CR R] (x:R):∀l:List R,qk (l.map (x * ·))=pw x l.length*qk l
 | []=>(one_mul _).symm
 | y::l=>by
  rw [gq,qk,Nd x l,qk,bv,pw];exact cu [x,y,pw x l.length,qk l] rfl
theorem Hp {α:Type} [DecidableEq α]:∀{l m:List α},l.Nodup→(∀x∈l,x∈m)→m.length=l.length→l.Perm m
 | [],m,_,_,hl=>by
  obtain rfl:=ug (by simpa using hl)
  exact .nil
 | x::l,m,hn,hs,hl=>by
  have hx:x∈m:=hs x (by simp)
  obtain ⟨h1,h2⟩:=jh.1 hn;have p:=List.perm_cons_erase hx;refine (List.Perm.cons x (Hp h2 (fun y hy=>?_) ?_)).trans p.symm
  ·have hne:y≠x:=fun e=>h1 (e▸hy)
   exact (List.mem_erase_of_ne hne).2 (hs y (by simp [hy]))
  ·rw [List.length_erase_of_mem hx]; simp at hl; omega
theorem a6e {R:Type} [CR R] [DecidableEq R] {l:List R} (hn:l.Nodup) (hc:∀x y:R,x*y=0→x=0∨y=0) (h1:(1:R)≠0) (hl:∀x,x∈l↔x≠0) {x:R} (hx:x≠0):pw x l.length=1:=by
 have hcan:∀y z:R,x*y=x*z→y=z:=fun y z e=>by
  have:x*(y-z)=0:=by
   have e2:x*(y-z)=x*y-x*z:=cu [x,y,z] rfl;rw [e2,e,sub_self]
  exact tl ((hc _ _ this).resolve_left hx)
 have hp:(l.map (x * ·)).Perm l:=by
  refine Hp ?_ (fun y hy=>?_) (by simp)
  ·unfold List.Nodup at hn ⊢
   rw [pa];exact hn.imp fun hab e=>hab (hcan _ _ e)
  ·obtain ⟨z,hz,rfl⟩:=cn.1 hy
   exact (hl _).2 fun e=>((hc _ _ e).elim hx) ((hl z).1 hz)
 have hprod:qk l≠0:=by
  have:∀m:List R,(∀z∈m,z≠0)→qk m≠0:=by
   intro m
   induction m with
   | nil=>exact fun _=>h1
   | cons z m ih=>exact fun hm e=>((hc _ _ e).elim (hm z (by simp))) (ih fun y hy=>hm y (by simp [hy]))
  exact this l fun z hz=>(hl z).1 hz
 have e:=Ms hp;rw [Nd] at e
 have e2:qk l*(pw x l.length-1)=0:=by
  have e3:qk l*(pw x l.length-1)=pw x l.length*qk l-qk l:=cu [qk l,pw x l.length] rfl;rw [e3,e,sub_self]
 exact tl ((hc _ _ e2).resolve_left hprod)
section
variable {K:Type} [CR K]
def kc (f:Nat→K):Nat→K
 | 0=>0
 | n+1=>kc f n+f n
noncomputable def Pol.val (a:Pol K) (x:K):K:=kc (fun i=>a.c i*pw x i) a.len
theorem L4 (f g:Nat→K):∀n,kc (fun i=>f i+g i) n=kc f n+kc g n
 | 0=>(add_zero _).symm
 | n+1=>by rw [kc,L4 f g n,kc,kc]; exact cu [kc f n,kc g n,f n,g n] rfl
theorem L0 (k:K) (f:Nat→K):∀n,kc (fun i=>k*f i) n=k*kc f n
 | 0=>(mul_zero _).symm
 | n+1=>by rw [kc,L0 k f n,kc,mul_add]
theorem a2a (x:K):∀n,∃g:Nat→K,(∀i,n≤i→g i=0)∧(∀k,n=k+1→g k=1)∧∀y,pw y n-pw x n=(y-x)*kc (fun i=>g i*pw y i) n:=by
 intro n
 induction n with
 | zero=>exact ⟨fun _=>0,fun _ _=>rfl,fun k h=>by omega,fun y=>by show (1:K)-1=(y-x)*0; rw [mul_zero,sub_self]⟩
 | succ n ih=>
  obtain ⟨g,h1,h2,h3⟩:=ih;refine ⟨fun i=>if i=n then 1 else x*g i,fun i hi=>?_,fun k hk=>?_,fun y=>?_⟩
  ·dsimp only; rw [if_neg (by omega),h1 i (by omega),mul_zero]
  ·dsimp only; rw [if_pos (by omega)]
  ·rw [kc]; dsimp only; rw [if_pos rfl,one_mul]
   have e:kc (fun i=>(if i=n then 1 else x*g i)*pw y i) n=x*kc (fun i=>g i*pw y i) n:=by
    rw [←L0]
    have:∀m,m≤n→kc (fun i=>(if i=n then 1 else x*g i)*pw y i) m=kc (fun i=>x*(g i*pw y i)) m:=by
     intro m
     induction m with
     | zero=>intro _; rfl
     | succ m ihm=>intro hm; rw [kc,kc,ihm (by omega),if_neg (by omega),mul_assoc]
    exact this n (ba n)
   rw [e,pw,pw];have e2:(y-x)*(x*kc (fun i=>g i*pw y i) n+pw y n)=x*((y-x)*kc (fun i=>g i*pw y i) n)+(y-x)*pw y n:=cu [y,x,kc (fun i=>g i*pw y i) n,pw y n] rfl
   rw [e2,←h3 y];exact cu [pw y n,y,pw x n,x] rfl
theorem W8 (f:Nat→K) (x:K):∀n,∃g:Nat→K,(∀i,n≤i+1→g i=0)∧(∀k,n=k+2→g k=f (k+1))∧∀y,kc (fun i=>f i*pw y i) n-kc (fun i=>f i*pw x i) n=(y-x)*kc (fun i=>g i*pw y i) n:=by
 intro n
 induction n with
 | zero=>exact ⟨fun _=>0,fun _ _=>rfl,fun k h=>by omega,fun y=>by show (0:K)-0=(y-x)*0; rw [mul_zero,sub_self]⟩
 | succ n ih=>
  obtain ⟨g,h1,h2,h3⟩:=ih;obtain ⟨g',h1',h2',h3'⟩:=a2a x n;refine ⟨fun i=>g i+f n*g' i,fun i hi=>?_,fun k hk=>?_,fun y=>?_⟩
  ·dsimp only; rw [h1 i (by omega),h1' i (by omega),mul_zero,add_zero]
  ·obtain rfl:k+1=n:=by omega
   dsimp only; rw [h1 k (by omega),h2' k rfl,mul_one,zero_add]
  ·rw [kc,kc,kc]
   have e0:g n+f n*g' n=0:=by rw [h1 n (by omega),h1' n (by omega),mul_zero,add_zero]
   dsimp only
   rw [e0,zero_mul,add_zero]
   have e:kc (fun i=>(g i+f n*g' i)*pw y i) n=kc (fun i=>g i*pw y i) n+f n*kc (fun i=>g' i*pw y i) n:=by
    rw [←L0,←L4]
    congr 1
    funext i
    exact cu [g i,f n,g' i,pw y i] rfl
   rw [e];have e2:(y-x)*(kc (fun i=>g i*pw y i) n+f n*kc (fun i=>g' i*pw y i) n)=(y-x)*kc (fun i=>g i*pw y i) n+f n*((y-x)*kc (fun i=>g' i*pw y i) n):=cu [y,x,kc (fun i=>g i*pw y i) n,f n,kc (fun i=>g' i*pw y i) n] rfl
   rw [e2,←h3 y,←h3' y];exact cu [kc (fun i=>f i*pw y i) n,f n,pw y n,kc (fun i=>f i*pw x i) n,pw x n] rfl
theorem Uz (hc:∀x y:K,x*y=0→x=0∨y=0):∀(n:Nat) (f:Nat→K) (l:List K),f n≠0→l.Nodup→(∀y∈l,kc (fun i=>f i*pw y i) (n+1)=0)→l.length≤n
 | n,f,[],_,_,_=>fh n
 | 0,f,x::l,hf,_,hr=>by
  have:=hr x (by simp)
  have e:kc (fun i=>f i*pw x i) (0+1)=f 0:=by show 0+f 0*1=f 0; rw [zero_add,mul_one]
  rw [e] at this;exact absurd this hf
 | n+1,f,x::l,hf,hn,hr=>by
  obtain ⟨g,h1,h2,h5⟩:=W8 f x (n+2);have hx:=hr x (by simp)
  obtain ⟨h3,h4⟩:=jh.1 hn;have hg0:g n≠0:=by rw [h2 n rfl]; exact hf
  have hg:∀y,kc (fun i=>f i*pw y i) (n+2)=(y-x)*kc (fun i=>g i*pw y i) (n+1):=fun y=>by
   have:=h5 y;rw [hx] at this
   have e:kc (fun i=>g i*pw y i) (n+2)=kc (fun i=>g i*pw y i) (n+1):=by
    show kc (fun i=>g i*pw y i) (n+1)+g (n+1)*pw y (n+1)=_
    rw [h1 (n+1) (by omega),zero_mul,add_zero]
   rw [e] at this;rw [←this];exact cu [kc (fun i=>f i*pw y i) (n+2)] rfl
  have:=Uz hc n g l hg0 h4 fun y hy=>by
   have e:=hr y (by simp [hy])
   rw [hg y] at e;refine (hc _ _ e).resolve_left fun h0=>h3 ?_
   rw [←tl h0]; exact hy
  simp; omega
end
end Gq

namespace Pe
open Go Gq
section
variable {p:Int} [IsP p]
end
section
variable {p:Int}
theorem qe (h:1≤p) {a b:Nat} (hab:a≤b):p^a≤p^b:=by
 obtain ⟨k,rfl⟩:=ix hab;rw [Int.pow_add];have h1:1≤p^k:=Int.pow_pos (n:=p) (m:=k) (by omega)
 have h2:0≤p^a:=sz (by omega)
 have:=de h1 h2;omega
end
section
variable {p:Int} [IsP p]
def vl (p:Int):List Int→Int
 | []=>0
 | d::l=>d+p*vl p l
theorem a1e:∀{l:List Int},Can p l→0≤vl p l∧vl p l<p^l.length
 | [],_=>by simp [vl]
 | d::l,h=>by
  have hp:=IsP.pos (p:=p);obtain ⟨h1,h2⟩:=a1e (l:=l) fun x hx=>h x (by simp [hx])
  have h3:=h d (by simp)
  have h4:0≤p*vl p l:=gp (by omega) h1
  have h5:p*vl p l≤p*(p^l.length-1):=de (by omega) (by omega)
  rw [Int.mul_sub,se] at h5;rw [bv,jt,lm (p^l.length),vl];omega
theorem a5y:∀{l:List Int},Can p l→∀i,cf l i=vl p l/p^i%p
 | [],_,i=>by simp [vl,cf]
 | d::l,h,0=>by
  have h3:=h d (by simp)
  show d=(d+p*vl p l)/p^0%p;rw [Int.pow_zero,Int.ediv_one,pu,n9 h3.1 h3.2]
 | d::l,h,i+1=>by
  have hp:=IsP.pos (p:=p);have h3:=h d (by simp)
  have e:cf (d::l) (i+1)=cf l i:=by simp [cf]
  rw [e,a5y (l:=l) fun x hx=>h x (by simp [hx]),vl,jt,lm (p^i),←Int.ediv_ediv_of_nonneg (by omega),Int.add_mul_ediv_left _ _ (by omega),t6 h3.1 h3.2,Int.zero_add]
theorem a8x:∀(f:Nat) (n:Int),0≤n→n<2^f→∀i,cf (dgs p f n) i=n/p^i%p
 | 0,n,h0,hn,i=>by
  obtain rfl:n=0:=by simp at hn; omega
  simp [dgs,cf]
 | f+1,n,h0,hn,i=>by
  have hp:=IsP.ge (p:=p);unfold dgs
  split
  ·obtain rfl:n=0:=by omega
   simp [cf]
  ·have hd:n/p<2^f:=by
    apply mg (by omega)
    have:(2:Int)^(f+1)=2^f*2:=jt _ _;have h2:(2:Int)^f*2≤2^f*p:=de hp (sz (by omega))
    omega
   cases i with
   | zero=>show n%p=n/p^0%p; rw [Int.pow_zero,Int.ediv_one]
   | succ i=>
    have e:cf (n%p::dgs p f (n/p)) (i+1)=cf (dgs p f (n/p)) i:=by simp [cf]
    rw [e,a8x f _ (ri h0 (by omega)) hd,jt,lm (p^i),←Int.ediv_ediv_of_nonneg (by omega)]
abbrev Ek (n:Int):Prop:=0≤n∧n<18446744073709551616
theorem P7 {n:Int} (h:Ek n) (i:Nat):(pb p n).c i=zp p (n/p^i):=by
 unfold pb;rw [lg,a8x 64 n h.1 (by simpa using h.2),zr]
noncomputable def gf (a:Fp p):Int:=vl p (row a)
theorem Ea (a:Fp p):0≤gf a∧gf a<p^a.len:=by
 have:=a1e (lc a)
 rwa [ca] at this
theorem Li {a:Fp p} (h:gf a<18446744073709551616):pb p (gf a)=a:=Pol.ext fun i=>by
 rw [P7 ⟨(Ea a).1,h⟩];have:=a5y (lc a) i;rw [ja] at this;rw [←zr,show gf a/p^i%p=rep (a.c i) from this.symm,mw]
theorem a7l:∀(f:Nat) (n:Int),0≤n→n<2^f→vl p (dgs p f n)=n
 | 0,n,h0,hn=>by
  obtain rfl:n=0:=by simp at hn; omega
  rfl
 | f+1,n,h0,hn=>by
  have hp:=IsP.ge (p:=p);unfold dgs
  split
  ·show (0:Int)=n; omega
  ·have hd:n/p<2^f:=by
    apply mg (by omega)
    have:(2:Int)^(f+1)=2^f*2:=jt _ _;have h2:(2:Int)^f*2≤2^f*p:=de hp (sz (by omega))
    omega
   rw [vl,a7l f _ (ri h0 (by omega)) hd]
   exact Int.emod_add_mul_ediv n p
theorem yx {n:Int} (h:Ek n):gf (pb p n)=n:=by
 unfold gf;rw [Uf h.2,a7l 64 n h.1 (by simpa using h.2)]
theorem V3 {n m:Int} (hn:Ek n) (hm:Ek m) (h:pb p n=pb p m):n=m:=by rw [←yx (p:=p) hn,h,yx hm]
theorem In {n:Int} (h:Ek n) {d:Nat} (hd:n<p^d):(pb p n).lt d:=fun i hi=>by
 have hp:=IsP.pos (p:=p);rw [P7 h,t6 h.1 (Int.lt_of_lt_of_le hd (qe (by omega) hi)),C9]
theorem Yd (d:Nat):((p.toNat^d:Nat):Int)=p^d:=by
 have hp:=IsP.pos (p:=p);rw [Int.natCast_pow,Int.toNat_of_nonneg (by omega)]
theorem O4:pb p 0=0:=Pol.ext fun i=>by rw [P7 ⟨by omega,by omega⟩,Int.zero_ediv,C9]; rfl
def Dd (q:Fp p) (d:Nat):List (Quo q):=(List.range (p.toNat^d-1)).map fun (n:Nat)=>Quo.mk q (pb p (n+1))
theorem ye (d:Nat):0<p.toNat^d:=Nat.pow_pos (by have:=IsP.pos (p:=p); omega)
theorem Ew {q:Fp p} {d:Nat} (hq:q.len=d+1) (hd:p^d<1000000000000):(Dd q d).Nodup:=by
 unfold Dd List.Nodup;rw [pa];refine List.Pairwise.imp_of_mem ?_ (List.pairwise_lt_range (n:=p.toNat^d-1));intro a b ha hb hab e;rw [pt] at ha hb;have hc:=Yd (p:=p) d;have hpos:=ye (p:=p) d;have h1:Ek ((a:Int)+1):=⟨by omega,by omega⟩
 have h2:Ek ((b:Int)+1):=⟨by omega,by omega⟩
 have hq0:q≠0:=fun h0=>by rw [h0,Pol.len_zero] at hq; omega
 have l1:=Pol.len_le (In (p:=p) h1 (d:=d) (by omega))
 have l2:=Pol.len_le (In (p:=p) h2 (d:=d) (by omega))
 rw [←Pol.mod_eq_iff hq0,Pol.mod_small (by omega),Pol.mod_small (by omega)] at e
 have:=V3 h1 h2 e;omega
theorem Mt {q:Fp p} {d:Nat} (hq:q.len=d+1) (hd:p^d<1000000000000) (x:Quo q):x∈Dd q d↔x≠0:=by
 have hc:=Yd (p:=p) d;have hpos:=ye (p:=p) d;have hq0:q≠0:=fun h0=>by rw [h0,Pol.len_zero] at hq; omega
 constructor
 ·intro h e
  obtain ⟨n,hn,rfl⟩:=cn.1 h;rw [pt] at hn;have h1:Ek ((n:Int)+1):=⟨by omega,by omega⟩
  have l1:=Pol.len_le (In (p:=p) h1 (d:=d) (by omega))
  rw [←Quo.mk_zero,←Pol.mod_eq_iff hq0,Pol.mod_small (by omega),Pol.zero_mod hq0,←O4] at e
  have:=V3 h1 ⟨by omega,by omega⟩ e
  omega
 ·intro h
  obtain ⟨a,rfl⟩:=Quo.ex x;have hl:=Pol.len_mod a hq0;rw [←Pol.mk_mod] at h ⊢;have hin:=Ea (a%q);have hle:p^(a%q).len≤p^d:=qe (by have:=IsP.pos (p:=p); omega) (by omega)
  have e:=Li (a:=a%q) (by omega)
  have hne:gf (a%q)≠0:=fun h0=>by
   rw [h0,O4] at e;exact h (by rw [←e,Quo.mk_zero])
  refine cn.2 ⟨(gf (a%q)).toNat-1,?_,?_⟩
  ·rw [pt]; omega
  ·rw [show (((gf (a%q)).toNat-1:Nat):Int)+1=gf (a%q) by omega,e]
theorem adf {q:Fp p} (hi:Irr q) {d:Nat} (hq:q.len=d+1) (hd:p^d<1000000000000) {x:Quo q} (hx:x≠0):pw x (p.toNat^d-1)=1:=by
 classical
 have h1:(1:Quo q)≠0:=(ac6 hi).one_ne;have:=a6e (Ew hq hd) (fun x y e=>hi.quo_zero e) h1 (Mt hq hd) hx
 rwa [Dd,af,d8] at this
theorem L5 {q:Fp p} (hi:Irr q) {d:Nat} (hq:q.len=d+1) (hd:p^d<1000000000000) (x:Quo q):pw x (p.toNat^d)=x:=by
 have hpos:=ye (p:=p) d
 by_cases hx:x=0
 ·rw [hx]
  cases hn:p.toNat^d with
  | zero=>omega
  | succ n=>rw [pw,Gq.mul_zero]
 ·have:=adf hi hq hd hx
  have e:p.toNat^d=(p.toNat^d-1)+1:=by omega
  rw [e,pw,this,Gq.one_mul]
end
section
variable {p:Int}
theorem ama {q:Fp p}:(ic p:Quo q)=0:=by
 have h:∀n:Int,(ic n:Quo q)=Quo.mk q (Pol.C (zp p n)):=by
  have hn:∀n:Nat,(nc n:Quo q)=Quo.mk q (Pol.C (zp p n)):=by
   intro n
   induction n with
   | zero=>show (0:Quo q)=_; rw [show zp p ((0:Nat):Int)=0 from rfl,Pol.C_zero,Quo.mk_zero]
   | succ n ih=>
    rw [nc,ih];have:zp p ((n+1:Nat):Int)=zp p n+1:=rfl;rw [this,Pol.C_add,Quo.mk_add,Pol.C_one,Quo.mk_one]
  intro n;cases n with
  | ofNat n=>exact hn n
  | negSucc n=>
   show -(nc (n+1):Quo q)=_;rw [hn,←Quo.mk_neg,←Pol.C_neg]; rfl
 rw [h];have:zp p p=0:=M6.2 (by simp)
 rw [this,Pol.C_zero,Quo.mk_zero]
end
section
variable {p:Int} [IsP p]
theorem Tj {q:Fp p} (x y:Quo q):pw (x+y) p.toNat=pw x p.toNat+pw y p.toNat:=by
 have h:=ama (q:=q);rcases (inferInstance:IsP p).h with rfl | rfl | rfl | rfl
 ·have e:pw (x+y) 2=pw x 2+pw y 2+ic 2*(x*y):=by
   show (x+y)^2=x^2+y^2+ic 2*(x*y);exact cu [x,y] rfl
  rw [h,Gq.zero_mul,Gq.add_zero] at e;exact e
 ·have e:pw (x+y) 3=pw x 3+pw y 3+ic 3*(x*x*y+x*y*y):=by
   show (x+y)^3=x^3+y^3+ic 3*(x*x*y+x*y*y);exact cu [x,y] rfl
  rw [h,Gq.zero_mul,Gq.add_zero] at e;exact e
 ·have e:pw (x+y) 5=pw x 5+pw y 5+ic 5*(x^4*y+ic 2*x^3*y^2+ic 2*x^2*y^3+x*y^4):=by
   show (x+y)^5=x^5+y^5+ic 5*(x^4*y+ic 2*x^3*y^2+ic 2*x^2*y^3+x*y^4);exact cu [x,y] rfl
  rw [h,Gq.zero_mul,Gq.add_zero] at e;exact e
 ·have e:pw (x+y) 7=pw x 7+pw y 7+ic 7*(x^6*y+ic 3*x^5*y^2+ic 5*x^4*y^3+ic 5*x^3*y^4+ic 3*x^2*y^5+x*y^6):=by
   show (x+y)^7=x^7+y^7+ic 7*(x^6*y+ic 3*x^5*y^2+ic 5*x^4*y^3+ic 5*x^3*y^4+ic 3*x^2*y^5+x*y^6);exact cu [x,y] rfl
  rw [h,Gq.zero_mul,Gq.add_zero] at e;exact e
theorem M7 (c:Zp p):pw c p.toNat=c:=by
 have h0:=o7 c;have e:c=zp p (rep c):=(mw c).symm;generalize rep c=n at *;subst e;rcases (inferInstance:IsP p).h with rfl | rfl | rfl | rfl
 ·have:n=0∨n=1:=by omega
  rcases this with rfl | rfl <;> exact M6.2 (by decide)
 ·have:n=0∨n=1∨n=2:=by omega
  rcases this with rfl | rfl | rfl <;> exact M6.2 (by decide)
 ·have:n=0∨n=1∨n=2∨n=3∨n=4:=by omega
  rcases this with rfl | rfl | rfl | rfl | rfl <;> exact M6.2 (by decide)
 ·have:n=0∨n=1∨n=2∨n=3∨n=4∨n=5∨n=6:=by omega
  rcases this with rfl | rfl | rfl | rfl | rfl | rfl | rfl <;> exact M6.2 (by decide)
end
end Pe
namespace Pe
open Go Gq
section
variable {p:Int} [IsP p]
theorem Ot {q:Fp p} (x y:Quo q):∀k,pw (x+y) (p.toNat^k)=pw x (p.toNat^k)+pw y (p.toNat^k)
 | 0=>by rw [t4,Dz,Dz,Dz]
 | k+1=>by rw [qi,←xw,Ot x y k,Tj,xw,xw]
theorem Hg (c:Zp p):∀k,pw c (p.toNat^k)=c
 | 0=>by rw [t4,Dz]
 | k+1=>by rw [qi,←xw,Hg c k,M7]
end
section
variable {p:Int}
theorem ads (c:Zp p):∀n,Pol.C (pw c n)=pw (Pol.C c) n
 | 0=>rfl
 | n+1=>by rw [pw,Pol.C_mul,ads c n,pw]
end
section
variable {p:Int} [IsP p]
end
section
variable {p:Int}
theorem a0o {P:Fp p→Prop} (h0:P 0) (h:∀c a,P a→P (Pol.C c+Pol.X*a)):∀(n:Nat) (a:Fp p),a.lt n→P a
 | 0,a,ha=>by rw [Pol.lt_zero.1 ha]; exact h0
 | n+1,a,ha=>by
  obtain ⟨m,hm⟩:=a.fin
  let b:Fp p:=⟨fun i=>a.c (i+1),m,fun i hi=>hm _ (by omega)⟩
  have e:a=Pol.C (a.c 0)+Pol.X*b:=Pol.ext fun i=>by
   rw [Pol.c_add,Pol.c_C,Pol.c_Xmul];cases i with
   | zero=>rw [if_pos rfl,if_pos rfl,Gq.add_zero]
   | succ i=>rw [if_neg (by omega),if_neg (by omega),Gq.zero_add]; rfl
  rw [e];exact h _ _ (a0o h0 h n b fun i hi=>ha _ (by omega))
end
section
variable {p:Int} [IsP p]
theorem a6a {q:Fp p} (k:Nat) (h:pw (Quo.mk q Pol.X) (p.toNat^k)=Quo.mk q Pol.X) (x:Quo q):pw x (p.toNat^k)=x:=by
 obtain ⟨a,rfl⟩:=Quo.ex x;refine a0o (P:=fun a=>pw (Quo.mk q a) (p.toNat^k)=Quo.mk q a) ?_ (fun c a ha=>?_) _ a a.lt_len
 ·rw [Quo.mk_zero]
  have:=ye (p:=p) k;cases hn:p.toNat^k with
  | zero=>omega
  | succ n=>rw [pw,Gq.mul_zero]
 ·rw [Quo.mk_add,Quo.mk_mul,Ot,Ax,h,ha]
  congr 1
  rw [←Quo.mk_pow,←ads,Hg]
theorem Lt {K:Type} [CR K] (m:Nat) (g:Nat→K):∀n,kc (fun i=>(if i=m then 1 else 0)*g i) n=if m<n then g m else 0
 | 0=>by rw [if_neg (by omega)]; rfl
 | n+1=>by
  rw [kc,Lt m g n];rcases jd m n with h | h | h
  ·rw [if_pos h,if_neg (by omega),if_pos (by omega),Gq.zero_mul,Gq.add_zero]
  ·rw [if_neg (by omega),if_pos h.symm,if_pos (by omega),Gq.one_mul,Gq.zero_add,h]
  ·rw [if_neg (by omega),if_neg (by omega),if_neg (by omega),Gq.zero_mul,Gq.add_zero]
noncomputable def frT (p:Int) (k:Nat):Fp p:=pw Pol.X (p.toNat^k)-Pol.X
theorem a7y {q:Fp p} {k:Nat}:Dv q (frT p k)↔pw (Quo.mk q Pol.X) (p.toNat^k)=Quo.mk q Pol.X:=by
 rw [qd,frT,Quo.mk_sub,Quo.mk_pow];exact ⟨fun h=>tl h,fun h=>by rw [h,sub_self]⟩
theorem a01 {q:Fp p} (hi:Irr q) {d:Nat} (hq:q.len=d+1) (hd:p^d<1000000000000):Dv q (frT p d):=a7y.2 (L5 hi hq hd _)
theorem M9 {q:Fp p} (hi:Irr q) {d k:Nat} (hq:q.len=d+1) (hd:p^d<1000000000000) (hk:0<k) (h:Dv q (frT p k)):d≤k:=by
 classical
 have hfix:=a6a k (a7y.1 h);have hone:(1:Quo q)≠0:=(ac6 hi).one_ne;have hP:2≤p.toNat:=by have:=IsP.ge (p:=p); omega
 have hne1:1<p.toNat^k:=Nat.one_lt_pow (by omega) hP
 have r:=Uz (fun x y e=>hi.quo_zero e) (p.toNat^k) (fun i=>(if i=p.toNat^k then (1:Quo q) else 0)-(if i=1 then 1 else 0)) ((0:Quo q)::Dd q d)
  (by rw [if_pos rfl,if_neg (by omega),sub_eq,ud,Gq.add_zero]; exact hone)
  (jh.2 ⟨fun h0=>(Mt hq hd 0).1 h0 rfl,Ew hq hd⟩)
  (fun y _=>by
   have e:(fun i=>((if i=p.toNat^k then (1:Quo q) else 0)-(if i=1 then 1 else 0))*pw y i)=fun i=>(if i=p.toNat^k then (1:Quo q) else 0)*pw y i+(if i=1 then 1 else 0) * -pw y i:=by
    funext i
    exact cu [(if i=p.toNat^k then (1:Quo q) else 0),(if i=1 then (1:Quo q) else 0),pw y i] rfl
   rw [e,L4,Lt,Lt _ (fun i=>-pw y i),if_pos (by omega),if_pos (by omega),hfix,Dz,add_neg])
 have hl:(Dd q d).length=p.toNat^d-1:=by unfold Dd; rw [af,d8]
 have hpos:=ye (p:=p) d;rw [bv,hl] at r;have:p.toNat^d≤p.toNat^k:=by omega
 exact (Nat.pow_le_pow_iff_right (by omega)).1 this
end
end Pe
