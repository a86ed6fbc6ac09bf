/-
  A part of the proof: an evaluator for a small form of the code, its soundness, and contracts of functions over it.
-/
import Derived.KernelRfl
import Derived.Test.YtmiehgdodocfcabGreatW1
import Derived.Test.YtmiehgdodocfcabGreatW2
import Derived.Test.YtmiehgdodocfcabGreatW3

namespace Gq
section
variable {K:Type} [Fd K]
def Dv (a b:Pol K):Prop:=∃c,b=a*c
theorem Dv.refl (a:Pol K):Dv a a:=⟨1,(mul_one a).symm⟩
theorem Dv.trans {a b c:Pol K} (h:Dv a b) (h':Dv b c):Dv a c:=by
 obtain ⟨x,rfl⟩:=h;obtain ⟨y,rfl⟩:=h';exact ⟨x*y,mul_assoc _ _ _⟩
theorem Dv.zero (a:Pol K):Dv a 0:=⟨0,(mul_zero a).symm⟩
theorem Dv.mul_right {a b:Pol K} (h:Dv a b) (c:Pol K):Dv a (b*c):=h.trans ⟨c,rfl⟩
theorem Dv.mul_left {a b:Pol K} (h:Dv a b) (c:Pol K):Dv a (c*b):=h.trans ⟨c,mul_comm _ _⟩
theorem Dv.add {a b c:Pol K} (h:Dv a b) (h':Dv a c):Dv a (b+c):=by
 obtain ⟨x,rfl⟩:=h;obtain ⟨y,rfl⟩:=h';exact ⟨x+y,(mul_add _ _ _).symm⟩
theorem Dv.neg {a b:Pol K} (h:Dv a b):Dv a (-b):=by
 obtain ⟨x,rfl⟩:=h;exact ⟨-x,(X3 _ _).symm⟩
theorem Dv.sub {a b c:Pol K} (h:Dv a b) (h':Dv a c):Dv a (b-c):=by
 rw [sub_eq]; exact h.add h'.neg
theorem Dv.len {a b:Pol K} (h:Dv a b) (hb:b≠0):a.len≤b.len:=by
 obtain ⟨x,rfl⟩:=h;have ha:a≠0:=fun h=>hb (by rw [h,zero_mul])
 have hx:x≠0:=fun h=>hb (by rw [h,mul_zero])
 have:=Pol.len_mul ha hx;have:=Pol.len_pos hx;omega
theorem wu {a m:Pol K} (hm:m≠0):Dv m a↔a%m=0:=by
 constructor
 ·rintro ⟨c,rfl⟩
  rw [mul_comm];exact Pol.mod_self_mul c hm
 ·intro h
  have:=Pol.div_mod a m;rw [h,add_zero,mul_comm] at this;exact ⟨_,this⟩
theorem i7 {a m:Pol K}:Dv m a↔Quo.mk m a=0:=by
 rw [←Quo.mk_zero,Quo.eq];constructor
 ·rintro ⟨c,h⟩; exact ⟨c,by rw [zero_add,h]⟩
 ·rintro ⟨c,h⟩; exact ⟨c,by rw [h,zero_add]⟩
theorem jv {a:Pol K} (h:a.len=1):∃k:K,k≠0∧a=Pol.C k:=by
 have e:=Pol.eq_C (Pol.lt_iff.2 (show a.len≤1 by omega))
 refine ⟨a.c 0,fun h0=>?_,e⟩
 rw [h0,Pol.C_zero] at e;rw [e,Pol.len_zero] at h;omega
theorem S0 {k:K} (h:k≠0):Pol.C k*Pol.C (Fd.inv k)=1:=by rw [←Pol.C_mul,Fd.mul_inv k h,Pol.C_one]
theorem Dv.Cmul {a b:Pol K} {k:K} (hk:k≠0):Dv (Pol.C k*a) b↔Dv a b:=by
 constructor
 ·rintro ⟨c,h⟩
  exact ⟨Pol.C k*c,by rw [h]; exact ba [Pol.C k,a,c] rfl⟩
 ·rintro ⟨c,h⟩
  refine ⟨Pol.C (Fd.inv k)*c,?_⟩;have:Pol.C k*a*(Pol.C (Fd.inv k)*c)=(Pol.C k*Pol.C (Fd.inv k))*(a*c):=ba [Pol.C k,a,Pol.C (Fd.inv k),c] rfl;rw [this,S0 hk,one_mul,h]
def Monic (a:Pol K):Prop:=a.ld=1∧a≠0
theorem Monic.mul {a b:Pol K} (ha:Monic a) (hb:Monic b):Monic (a*b):=⟨by rw [Pol.ld_mul ha.2 hb.2,ha.1,hb.1,mul_one],Pol.mul_ne ha.2 hb.2⟩
theorem Monic.one:Monic (1:Pol K):=⟨Pol.ld_one,Pol.one_ne⟩
theorem Pol.ld_C {k:K} (h:k≠0):(C k).ld=k:=by unfold ld; rw [len_C h]; rfl
theorem Monic.eq_one {a:Pol K} (h:Monic a) (hl:a.len=1):a=1:=by
 obtain ⟨k,hk,rfl⟩:=jv hl;have:=h.1;rw [Pol.ld_C hk] at this;rw [this,Pol.C_one]
theorem Monic.antisymm {a b:Pol K} (ha:Monic a) (hb:Monic b) (h:Dv a b) (h':Dv b a):a=b:=by
 obtain ⟨x,rfl⟩:=h;have h1:=h'.len ha.2;have hx:x≠0:=fun h=>hb.2 (by rw [h,mul_zero])
 have h2:=Pol.len_mul ha.2 hx;have h3:=Pol.len_pos hx;obtain ⟨k,hk,rfl⟩:=jv (show x.len=1 by omega)
 have h4:=hb.1;rw [Pol.ld_mul ha.2 hx,ha.1,one_mul,Pol.ld_C hk] at h4;rw [h4,Pol.C_one,mul_one]
noncomputable def mon (a:Pol K):Pol K:=Pol.C (Fd.inv a.ld)*a
theorem nv {a:Pol K} (h:a≠0):Monic (mon a):=by
 have h1:=Fd.inv_ne (Pol.ld_ne h);refine ⟨?_,Pol.mul_ne (Pol.C_ne h1) h⟩;unfold mon;rw [Pol.ld_mul (Pol.C_ne h1) h,Pol.ld_C h1,mul_comm,Fd.mul_inv _ (Pol.ld_ne h)]
theorem tr {a b:Pol K} (h:a≠0):Dv (mon a) b↔Dv a b:=Dv.Cmul (Fd.inv_ne (Pol.ld_ne h))
theorem y9 {a:Pol K} (h:a≠0):(mon a).len=a.len:=Pol.len_Cmul (Fd.inv_ne (Pol.ld_ne h)) a
theorem Sa {a:Pol K} (h:a≠0):a=Pol.C a.ld*mon a:=by
 unfold mon;rw [←mul_assoc,S0 (Pol.ld_ne h),one_mul]
theorem Pol.eu_spec {a b:Pol K} (h:a≠0∨b≠0):(eu a b).1≠0∧Dv (eu a b).1 a∧Dv (eu a b).1 b∧(eu a b).2.1*a+(eu a b).2.2*b=(eu a b).1:=by
 obtain ⟨x,y,h1,⟨s,h2⟩,⟨t,h3⟩⟩:=bz_spec b.len a b 1 0 0 1 (ap _) (BzI.init h);exact ⟨h1.any.resolve_right fun h=>h rfl,⟨s,by rw [mul_comm]; exact h2⟩,⟨t,by rw [mul_comm]; exact h3⟩,h1.one⟩
theorem Pol.gcd_monic {a b:Pol K} (h:a≠0∨b≠0):Monic (gcd a b):=nv (eu_spec h).1
theorem Pol.gcd_dv_left {a b:Pol K} (h:a≠0∨b≠0):Dv (gcd a b) a:=(tr (eu_spec h).1).2 (eu_spec h).2.1
theorem Pol.gcd_dv_right {a b:Pol K} (h:a≠0∨b≠0):Dv (gcd a b) b:=(tr (eu_spec h).1).2 (eu_spec h).2.2.1
theorem Pol.bezout_eq {a b:Pol K} (h:a≠0∨b≠0):(bezout a b).2.1*a+(bezout a b).2.2*b=gcd a b:=by
 have e:=(eu_spec h).2.2.2;show C (Fd.inv (eu a b).1.ld)*(eu a b).2.1*a+C (Fd.inv (eu a b).1.ld)*(eu a b).2.2*b=C (Fd.inv (eu a b).1.ld)*(eu a b).1;generalize C (Fd.inv (eu a b).1.ld)=k;generalize (eu a b).2.1=u at *;generalize (eu a b).2.2=v at *;rw [←e];exact ba [k,u,a,v,b] rfl
theorem Pol.dv_gcd {a b c:Pol K} (h:a≠0∨b≠0) (ha:Dv c a) (hb:Dv c b):Dv c (gcd a b):=by
 rw [←bezout_eq h];exact (ha.mul_left _).add (hb.mul_left _)
structure Irr (q:Pol K):Prop where
 len:2≤q.len
 no:∀u v,q=u*v→u.len=1∨v.len=1
theorem Irr.ne {q:Pol K} (h:Irr q):q≠0:=fun h0=>by have:=h.len; rw [h0,Pol.len_zero] at this; omega
theorem Irr.dv {q u:Pol K} (h:Irr q) (hd:Dv u q):u.len=1∨u.len=q.len:=by
 obtain ⟨v,hv⟩:=hd;have hu:u≠0:=fun h0=>h.ne (by rw [hv,h0,zero_mul])
 have hv0:v≠0:=fun h0=>h.ne (by rw [hv,h0,mul_zero])
 have l:=Pol.len_mul hu hv0;rw [←hv] at l;rcases h.no u v hv with h1 | h1
 ·exact .inl h1
 ·right; omega
theorem Irr.coprime {q a:Pol K} (h:Irr q) (hn:¬ Dv q a):∃u v,u*q+v*a=1:=by
 have h0:q≠0∨a≠0:=.inl h.ne;have e:=Pol.bezout_eq h0;have d1:=Pol.gcd_dv_left h0;have d2:=Pol.gcd_dv_right h0;have m:=Pol.gcd_monic h0;rcases h.dv d1 with h1 | h1
 ·rw [m.eq_one h1] at e
  exact ⟨_,_,e⟩
 ·exfalso
  obtain ⟨c,hc⟩:=d1;have hc0:c≠0:=fun h0=>h.ne (by rw [hc,h0,mul_zero])
  have l:=Pol.len_mul m.2 hc0;rw [←hc] at l;obtain ⟨k,hk,rfl⟩:=jv (show c.len=1 by omega)
  apply hn;rw [hc,mul_comm];exact (Dv.Cmul hk).2 d2
theorem Irr.prime {q a b:Pol K} (h:Irr q) (hd:Dv q (a*b)):Dv q a∨Dv q b:=by
 by_cases ha:Dv q a
 ·exact .inl ha
 ·obtain ⟨u,v,e⟩:=h.coprime ha
  right
  have:b=u*b*q+v*(a*b):=by
   have e2:u*b*q+v*(a*b)=(u*q+v*a)*b:=ba [u,b,q,v,a] rfl;rw [e2,e,one_mul]
  rw [this];exact ((Dv.refl q).mul_left _).add (hd.mul_left _)
theorem Irr.of_dv {q:Pol K} (hl:2≤q.len) (h:∀u,Dv u q→u.len=1∨u.len=q.len):Irr q:=⟨hl,fun u v e=>by
 have hq:q≠0:=fun h0=>by rw [h0,Pol.len_zero] at hl; omega
 have hu:u≠0:=fun h0=>hq (by rw [e,h0,zero_mul])
 have hv0:v≠0:=fun h0=>hq (by rw [e,h0,mul_zero])
 have l:=Pol.len_mul hu hv0;rw [←e] at l;rcases h u ⟨v,e⟩ with h1 | h1
 ·exact .inl h1
 ·right; omega⟩
theorem Irr.mon {q:Pol K} (h:Irr q):Irr (mon q):=Irr.of_dv (by rw [y9 h.ne]; exact h.len) fun u hu=>by
 rw [y9 h.ne];apply h.dv;refine hu.trans ?_;rw [tr h.ne];exact .refl q
theorem yz:∀(n:Nat) (a:Pol K),a.len≤n→2≤a.len→∃q,Irr q∧Monic q∧Dv q a
 | 0,a,h,h2=>by omega
 | n+1,a,h,h2=>by
  have ha:a≠0:=fun h0=>by rw [h0,Pol.len_zero] at h2; omega
  by_cases hi:Irr a
  ·exact ⟨Gq.mon a,hi.mon,nv ha,(tr ha).2 (.refl a)⟩
  ·have:∃u,Dv u a∧u.len≠1∧u.len≠a.len:=bv fun hx=>hi (Irr.of_dv h2 fun u hu=>bv fun hy=>hx ⟨u,hu,by omega,by omega⟩)
   obtain ⟨u,hu,h3,h4⟩:=this;have h5:=hu.len ha
   have hu0:u≠0:=fun h0=>by
    obtain ⟨c,hc⟩:=hu;exact ha (by rw [hc,h0,zero_mul])
   have h6:=Pol.len_pos hu0;obtain ⟨q,h7,h8,h9⟩:=yz n u (by omega) (by omega)
   exact ⟨q,h7,h8,h9.trans hu⟩
theorem Irr.eq_of_dv {q r:Pol K} (hq:Irr q) (hr:Irr r) (mq:Monic q) (mr:Monic r) (h:Dv q r):q=r:=by
 refine mq.antisymm mr h ?_;rcases hr.dv h with h1 | h1
 ·have:=hq.len; omega
 ·obtain ⟨c,rfl⟩:=h
  have hc:c≠0:=fun h0=>mr.2 (by rw [h0,mul_zero])
  have l:=Pol.len_mul mq.2 hc;obtain ⟨k,hk,rfl⟩:=jv (show c.len=1 by omega)
  rw [mul_comm];exact (Dv.Cmul hk).2 (.refl q)
theorem Quo.ex {R:Type} [CR R] {m:R} (x:Quo m):∃a,x=Quo.mk m a:=Quo.ind (P:=fun x=>∃a,x=Quo.mk m a) (fun a=>⟨a,rfl⟩) x
theorem Irr.quo_zero {q:Pol K} (h:Irr q) {x y:Quo q} (e:x*y=0):x=0∨y=0:=by
 obtain ⟨a,rfl⟩:=Quo.ex x;obtain ⟨b,rfl⟩:=Quo.ex y;rw [←Quo.mk_mul,←i7] at e;rw [←i7,←i7];exact h.prime e
theorem Irr.quo_inv {q:Pol K} (h:Irr q) {x:Quo q} (hx:x≠0):∃y,x*y=1:=by
 obtain ⟨a,rfl⟩:=Quo.ex x;obtain ⟨u,v,e⟩:=h.coprime fun hd=>hx (i7.1 hd)
 refine ⟨Quo.mk q v,?_⟩;rw [←Quo.mk_mul,←Quo.mk_one,Quo.eq];refine ⟨-u,?_⟩;rw [←e];exact ba [a,v,u,q] rfl
open Classical in
noncomputable abbrev Jc {q:Pol K} (h:Irr q):Fd (Quo q) where
 one_ne:=fun e=>by
  have:=i7.2 e;have h1:=this.len Pol.one_ne;have:=h.len;rw [Pol.len_one] at h1;omega
 inv:=fun x=>if hx:x=0 then 0 else Classical.choose (h.quo_inv hx)
 mul_inv:=fun x hx=>by rw [dif_neg hx]; exact c6 (h.quo_inv hx)
end
def kv {R:Type} [CR R]:List R→R
 | []=>1
 | x::l=>x*kv l
theorem Ca {R:Type} [CR R] {l m:List R} (h:l.Perm m):kv l=kv m:=by
 induction h with
 | nil=>rfl
 | cons x _ ih=>rw [kv,kv,ih]
 | swap x y l=>rw [kv,kv,kv,kv,mul_left_comm]
 | trans _ _ h1 h2=>exact h1.trans h2
theorem Du {R:Type} [CR R] (x:R):∀l:List R,kv (l.map (x * ·))=pw x l.length*kv l
 | []=>(one_mul _).symm
 | y::l=>by
  rw [li,kv,Du x l,kv,bf,pw];exact ba [x,y,pw x l.length,kv l] rfl
theorem zz {α:Type} [DecidableEq α]:∀{l m:List α},l.Nodup→(∀x∈l,x∈m)→m.length=l.length→l.Perm m
 | [],m,_,_,hl=>by
  obtain rfl:=om (by simpa using hl)
  exact .nil
 | x::l,m,hn,hs,hl=>by
  have hx:x∈m:=hs x (by simp)
  obtain ⟨h1,h2⟩:=fq.1 hn;have p:=List.perm_cons_erase hx;refine (List.Perm.cons x (zz h2 (fun y hy=>?_) ?_)).trans p.symm
  ·have hne:y≠x:=fun e=>h1 (e▸hy)
   exact (List.mem_erase_of_ne hne).2 (hs y (by simp [hy]))
  ·rw [List.length_erase_of_mem hx]; simp at hl; omega
theorem Vi {R:Type} [CR R] [DecidableEq R] {l:List R} (hn:l.Nodup) (hc:∀x y:R,x*y=0→x=0∨y=0) (h1:(1:R)≠0) (hl:∀x,x∈l↔x≠0) {x:R} (hx:x≠0):pw x l.length=1:=by
 have hcan:∀y z:R,x*y=x*z→y=z:=fun y z e=>by
  have:x*(y-z)=0:=by
   have e2:x*(y-z)=x*y-x*z:=ba [x,y,z] rfl;rw [e2,e,sub_self]
  exact jl ((hc _ _ this).resolve_left hx)
 have hp:(l.map (x * ·)).Perm l:=by
  refine zz ?_ (fun y hy=>?_) (by simp)
  ·unfold List.Nodup at hn ⊢
   rw [mz];exact hn.imp fun hab e=>hab (hcan _ _ e)
  ·obtain ⟨z,hz,rfl⟩:=cd.1 hy
   exact (hl _).2 fun e=>((hc _ _ e).elim hx) ((hl z).1 hz)
 have hprod:kv l≠0:=by
  have:∀m:List R,(∀z∈m,z≠0)→kv m≠0:=by
   intro m
   induction m with
   | nil=>exact fun _=>h1
   | cons z m ih=>exact fun hm e=>((hc _ _ e).elim (hm z (by simp))) (ih fun y hy=>hm y (by simp [hy]))
  exact this l fun z hz=>(hl z).1 hz
 have e:=Ca hp;rw [Du] at e
 have e2:kv l*(pw x l.length-1)=0:=by
  have e3:kv l*(pw x l.length-1)=pw x l.length*kv l-kv l:=ba [kv l,pw x l.length] rfl;rw [e3,e,sub_self]
 exact jl ((hc _ _ e2).resolve_left hprod)
section
variable {K:Type} [CR K]
def em (f:Nat→K):Nat→K
 | 0=>0
 | n+1=>em f n+f n
noncomputable def Pol.val (a:Pol K) (x:K):K:=em (fun i=>a.c i*pw x i) a.len
theorem tk (f g:Nat→K):∀n,em (fun i=>f i+g i) n=em f n+em g n
 | 0=>(add_zero _).symm
 | n+1=>by rw [em,tk f g n,em,em]; exact ba [em f n,em g n,f n,g n] rfl
theorem tt (k:K) (f:Nat→K):∀n,em (fun i=>k*f i) n=k*em f n
 | 0=>(mul_zero _).symm
 | n+1=>by rw [em,tt k f n,em,mul_add]
theorem Pt (x:K):∀n,∃g:Nat→K,(∀i,n≤i→g i=0)∧(∀k,n=k+1→g k=1)∧∀y,pw y n-pw x n=(y-x)*em (fun i=>g i*pw y i) n:=by
 intro n
 induction n with
 | zero=>exact ⟨fun _=>0,fun _ _=>rfl,fun k h=>by omega,fun y=>by show (1:K)-1=(y-x)*0; rw [mul_zero,sub_self]⟩
 | succ n ih=>
  obtain ⟨g,h1,h2,h3⟩:=ih;refine ⟨fun i=>if i=n then 1 else x*g i,fun i hi=>?_,fun k hk=>?_,fun y=>?_⟩
  ·dsimp only; rw [if_neg (by omega),h1 i (by omega),mul_zero]
  ·dsimp only; rw [if_pos (by omega)]
  ·rw [em]; dsimp only; rw [if_pos rfl,one_mul]
   have e:em (fun i=>(if i=n then 1 else x*g i)*pw y i) n=x*em (fun i=>g i*pw y i) n:=by
    rw [←tt]
    have:∀m,m≤n→em (fun i=>(if i=n then 1 else x*g i)*pw y i) m=em (fun i=>x*(g i*pw y i)) m:=by
     intro m
     induction m with
     | zero=>intro _; rfl
     | succ m ihm=>intro hm; rw [em,em,ihm (by omega),if_neg (by omega),mul_assoc]
    exact this n (ap n)
   rw [e,pw,pw];have e2:(y-x)*(x*em (fun i=>g i*pw y i) n+pw y n)=x*((y-x)*em (fun i=>g i*pw y i) n)+(y-x)*pw y n:=ba [y,x,em (fun i=>g i*pw y i) n,pw y n] rfl
   rw [e2,←h3 y];exact ba [pw y n,y,pw x n,x] rfl
theorem Mm (f:Nat→K) (x:K):∀n,∃g:Nat→K,(∀i,n≤i+1→g i=0)∧(∀k,n=k+2→g k=f (k+1))∧∀y,em (fun i=>f i*pw y i) n-em (fun i=>f i*pw x i) n=(y-x)*em (fun i=>g i*pw y i) n:=by
 intro n
 induction n with
 | zero=>exact ⟨fun _=>0,fun _ _=>rfl,fun k h=>by omega,fun y=>by show (0:K)-0=(y-x)*0; rw [mul_zero,sub_self]⟩
 | succ n ih=>
  obtain ⟨g,h1,h2,h3⟩:=ih;obtain ⟨g',h1',h2',h3'⟩:=Pt x n;refine ⟨fun i=>g i+f n*g' i,fun i hi=>?_,fun k hk=>?_,fun y=>?_⟩
  ·dsimp only; rw [h1 i (by omega),h1' i (by omega),mul_zero,add_zero]
  ·obtain rfl:k+1=n:=by omega
   dsimp only; rw [h1 k (by omega),h2' k rfl,mul_one,zero_add]
  ·rw [em,em,em]
   have e0:g n+f n*g' n=0:=by rw [h1 n (by omega),h1' n (by omega),mul_zero,add_zero]
   dsimp only
   rw [e0,zero_mul,add_zero]
   have e:em (fun i=>(g i+f n*g' i)*pw y i) n=em (fun i=>g i*pw y i) n+f n*em (fun i=>g' i*pw y i) n:=by
    rw [←tt,←tk]
    congr 1
    funext i
    exact ba [g i,f n,g' i,pw y i] rfl
   rw [e];have e2:(y-x)*(em (fun i=>g i*pw y i) n+f n*em (fun i=>g' i*pw y i) n)=(y-x)*em (fun i=>g i*pw y i) n+f n*((y-x)*em (fun i=>g' i*pw y i) n):=ba [y,x,em (fun i=>g i*pw y i) n,f n,em (fun i=>g' i*pw y i) n] rfl
   rw [e2,←h3 y,←h3' y];exact ba [em (fun i=>f i*pw y i) n,f n,pw y n,em (fun i=>f i*pw x i) n,pw x n] rfl
theorem xr (hc:∀x y:K,x*y=0→x=0∨y=0):∀(n:Nat) (f:Nat→K) (l:List K),f n≠0→l.Nodup→(∀y∈l,em (fun i=>f i*pw y i) (n+1)=0)→l.length≤n
 | n,f,[],_,_,_=>iu n
 | 0,f,x::l,hf,_,hr=>by
  have:=hr x (by simp)
  have e:em (fun i=>f i*pw x i) (0+1)=f 0:=by show 0+f 0*1=f 0; rw [zero_add,mul_one]
  rw [e] at this;exact absurd this hf
 | n+1,f,x::l,hf,hn,hr=>by
  obtain ⟨g,h1,h2,h5⟩:=Mm f x (n+2);have hx:=hr x (by simp)
  obtain ⟨h3,h4⟩:=fq.1 hn;have hg0:g n≠0:=by rw [h2 n rfl]; exact hf
  have hg:∀y,em (fun i=>f i*pw y i) (n+2)=(y-x)*em (fun i=>g i*pw y i) (n+1):=fun y=>by
   have:=h5 y;rw [hx] at this
   have e:em (fun i=>g i*pw y i) (n+2)=em (fun i=>g i*pw y i) (n+1):=by
    show em (fun i=>g i*pw y i) (n+1)+g (n+1)*pw y (n+1)=_
    rw [h1 (n+1) (by omega),zero_mul,add_zero]
   rw [e] at this;rw [←this];exact ba [em (fun i=>f i*pw y i) (n+2)] rfl
  have:=xr hc n g l hg0 h4 fun y hy=>by
   have e:=hr y (by simp [hy])
   rw [hg y] at e;refine (hc _ _ e).resolve_left fun h0=>h3 ?_
   rw [←jl h0]; exact hy
  simp; omega
end
end Gq

namespace Pe
open Go Gq
section
variable {p:Int} [IsP p]
end
section
variable {p:Int}
theorem ia (h:1≤p) {a b:Nat} (hab:a≤b):p^a≤p^b:=by
 obtain ⟨k,rfl⟩:=dz hab;rw [Int.pow_add];have h1:1≤p^k:=Int.pow_pos (n:=p) (m:=k) (by omega)
 have h2:0≤p^a:=k9 (by omega)
 have:=b4 h1 h2;omega
end
section
variable {p:Int} [IsP p]
def vl (p:Int):List Int→Int
 | []=>0
 | d::l=>d+p*vl p l
theorem Pn:∀{l:List Int},Can p l→0≤vl p l∧vl p l<p^l.length
 | [],_=>by simp [vl]
 | d::l,h=>by
  have hp:=IsP.pos (p:=p);obtain ⟨h1,h2⟩:=Pn (l:=l) fun x hx=>h x (by simp [hx])
  have h3:=h d (by simp)
  have h4:0≤p*vl p l:=ce (by omega) h1
  have h5:p*vl p l≤p*(p^l.length-1):=b4 (by omega) (by omega)
  rw [Int.mul_sub,gv] at h5;rw [bf,c9,f8 (p^l.length),vl];omega
theorem Td:∀{l:List Int},Can p l→∀i,cf l i=vl p l/p^i%p
 | [],_,i=>by simp [vl,cf]
 | d::l,h,0=>by
  have h3:=h d (by simp)
  show d=(d+p*vl p l)/p^0%p;rw [eg,Int.ediv_one,gi,gu h3.1 h3.2]
 | d::l,h,i+1=>by
  have hp:=IsP.pos (p:=p);have h3:=h d (by simp)
  have e:cf (d::l) (i+1)=cf l i:=by simp [cf]
  rw [e,Td (l:=l) fun x hx=>h x (by simp [hx]),vl,c9,f8 (p^i),←Int.ediv_ediv_of_nonneg (by omega),Int.add_mul_ediv_left _ _ (by omega),fw h3.1 h3.2,Int.zero_add]
theorem Tz:∀(f:Nat) (n:Int),0≤n→n<2^f→∀i,cf (dgs p f n) i=n/p^i%p
 | 0,n,h0,hn,i=>by
  obtain rfl:n=0:=by simp at hn; omega
  simp [dgs,cf]
 | f+1,n,h0,hn,i=>by
  have hp:=IsP.ge (p:=p);unfold dgs
  split
  ·obtain rfl:n=0:=by omega
   simp [cf]
  ·have hd:n/p<2^f:=by
    apply dl (by omega)
    have:(2:Int)^(f+1)=2^f*2:=c9 _ _;have h2:(2:Int)^f*2≤2^f*p:=b4 hp (k9 (by omega))
    omega
   cases i with
   | zero=>show n%p=n/p^0%p; rw [eg,Int.ediv_one]
   | succ i=>
    have e:cf (n%p::dgs p f (n/p)) (i+1)=cf (dgs p f (n/p)) i:=by simp [cf]
    rw [e,Tz f _ (gr h0 (by omega)) hd,c9,f8 (p^i),←Int.ediv_ediv_of_nonneg (by omega)]
abbrev wh (n:Int):Prop:=0≤n∧n<18446744073709551616
theorem ww {n:Int} (h:wh n) (i:Nat):(bx p n).c i=zp p (n/p^i):=by
 unfold bx;rw [fh,Tz 64 n h.1 (by simpa using h.2),sn]
noncomputable def dg (a:Fp p):Int:=vl p (row a)
theorem xy (a:Fp p):0≤dg a∧dg a<p^a.len:=by
 have:=Pn (fu a)
 rwa [b8] at this
theorem De {a:Fp p} (h:dg a<18446744073709551616):bx p (dg a)=a:=Pol.ext fun i=>by
 rw [ww ⟨(xy a).1,h⟩];have:=Td (fu a) i;rw [e9] at this;rw [←sn,show dg a/p^i%p=rep (a.c i) from this.symm,g9]
theorem U6:∀(f:Nat) (n:Int),0≤n→n<2^f→vl p (dgs p f n)=n
 | 0,n,h0,hn=>by
  obtain rfl:n=0:=by simp at hn; omega
  rfl
 | f+1,n,h0,hn=>by
  have hp:=IsP.ge (p:=p);unfold dgs
  split
  ·show (0:Int)=n; omega
  ·have hd:n/p<2^f:=by
    apply dl (by omega)
    have:(2:Int)^(f+1)=2^f*2:=c9 _ _;have h2:(2:Int)^f*2≤2^f*p:=b4 hp (k9 (by omega))
    omega
   rw [vl,U6 f _ (gr h0 (by omega)) hd]
   exact Int.emod_add_mul_ediv n p
theorem sw {n:Int} (h:wh n):dg (bx p n)=n:=by
 unfold dg;rw [C9 h.2,U6 64 n h.1 (by simpa using h.2)]
theorem Dg {n m:Int} (hn:wh n) (hm:wh m) (h:bx p n=bx p m):n=m:=by rw [←sw (p:=p) hn,h,sw hm]
theorem sx {n:Int} (h:wh n) {d:Nat} (hd:n<p^d):(bx p n).lt d:=fun i hi=>by
 have hp:=IsP.pos (p:=p);rw [ww h,fw h.1 (Int.lt_of_lt_of_le hd (ia (by omega) hi)),sm]
theorem kn (d:Nat):((p.toNat^d:Nat):Int)=p^d:=by
 have hp:=IsP.pos (p:=p);rw [Int.natCast_pow,Int.toNat_of_nonneg (by omega)]
theorem n7:bx p 0=0:=Pol.ext fun i=>by rw [ww ⟨by omega,by omega⟩,Int.zero_ediv,sm]; rfl
def sk (q:Fp p) (d:Nat):List (Quo q):=(List.range (p.toNat^d-1)).map fun (n:Nat)=>Quo.mk q (bx p (n+1))
theorem nu (d:Nat):0<p.toNat^d:=Nat.pow_pos (by have:=IsP.pos (p:=p); omega)
theorem t5 {q:Fp p} {d:Nat} (hq:q.len=d+1) (hd:p^d<1000000000000):(sk q d).Nodup:=by
 unfold sk List.Nodup;rw [mz];refine List.Pairwise.imp_of_mem ?_ (List.pairwise_lt_range (n:=p.toNat^d-1));intro a b ha hb hab e;rw [gh] at ha hb;have hc:=kn (p:=p) d;have hpos:=nu (p:=p) d;have h1:wh ((a:Int)+1):=⟨by omega,by omega⟩
 have h2:wh ((b:Int)+1):=⟨by omega,by omega⟩
 have hq0:q≠0:=fun h0=>by rw [h0,Pol.len_zero] at hq; omega
 have l1:=Pol.len_le (sx (p:=p) h1 (d:=d) (by omega))
 have l2:=Pol.len_le (sx (p:=p) h2 (d:=d) (by omega))
 rw [←Pol.mod_eq_iff hq0,Pol.mod_small (by omega),Pol.mod_small (by omega)] at e
 have:=Dg h1 h2 e;omega
theorem t4 {q:Fp p} {d:Nat} (hq:q.len=d+1) (hd:p^d<1000000000000) (x:Quo q):x∈sk q d↔x≠0:=by
 have hc:=kn (p:=p) d;have hpos:=nu (p:=p) d;have hq0:q≠0:=fun h0=>by rw [h0,Pol.len_zero] at hq; omega
 constructor
 ·intro h e
  obtain ⟨n,hn,rfl⟩:=cd.1 h;rw [gh] at hn;have h1:wh ((n:Int)+1):=⟨by omega,by omega⟩
  have l1:=Pol.len_le (sx (p:=p) h1 (d:=d) (by omega))
  rw [←Quo.mk_zero,←Pol.mod_eq_iff hq0,Pol.mod_small (by omega),Pol.zero_mod hq0,←n7] at e
  have:=Dg h1 ⟨by omega,by omega⟩ e
  omega
 ·intro h
  obtain ⟨a,rfl⟩:=Quo.ex x;have hl:=Pol.len_mod a hq0;rw [←Pol.mk_mod] at h ⊢;have hin:=xy (a%q);have hle:p^(a%q).len≤p^d:=ia (by have:=IsP.pos (p:=p); omega) (by omega)
  have e:=De (a:=a%q) (by omega)
  have hne:dg (a%q)≠0:=fun h0=>by
   rw [h0,n7] at e;exact h (by rw [←e,Quo.mk_zero])
  refine cd.2 ⟨(dg (a%q)).toNat-1,?_,?_⟩
  ·rw [gh]; omega
  ·rw [show (((dg (a%q)).toNat-1:Nat):Int)+1=dg (a%q) by omega,e]
theorem Na {q:Fp p} (hi:Irr q) {d:Nat} (hq:q.len=d+1) (hd:p^d<1000000000000) {x:Quo q} (hx:x≠0):pw x (p.toNat^d-1)=1:=by
 classical
 have h1:(1:Quo q)≠0:=(Jc hi).one_ne;have:=Vi (t5 hq hd) (fun x y e=>hi.quo_zero e) h1 (t4 hq hd) hx
 rwa [sk,eo,jr] at this
theorem D3 {q:Fp p} (hi:Irr q) {d:Nat} (hq:q.len=d+1) (hd:p^d<1000000000000) (x:Quo q):pw x (p.toNat^d)=x:=by
 have hpos:=nu (p:=p) d
 by_cases hx:x=0
 ·rw [hx]
  cases hn:p.toNat^d with
  | zero=>omega
  | succ n=>rw [pw,Gq.mul_zero]
 ·have:=Na hi hq hd hx
  have e:p.toNat^d=(p.toNat^d-1)+1:=by omega
  rw [e,pw,this,Gq.one_mul]
end
section
variable {p:Int}
theorem a73 {q:Fp p}:(ic p:Quo q)=0:=by
 have h:∀n:Int,(ic n:Quo q)=Quo.mk q (Pol.C (zp p n)):=by
  have hn:∀n:Nat,(nc n:Quo q)=Quo.mk q (Pol.C (zp p n)):=by
   intro n
   induction n with
   | zero=>show (0:Quo q)=_; rw [show zp p ((0:Nat):Int)=0 from rfl,Pol.C_zero,Quo.mk_zero]
   | succ n ih=>
    rw [nc,ih];have:zp p ((n+1:Nat):Int)=zp p n+1:=rfl;rw [this,Pol.C_add,Quo.mk_add,Pol.C_one,Quo.mk_one]
  intro n;cases n with
  | ofNat n=>exact hn n
  | negSucc n=>
   show -(nc (n+1):Quo q)=_;rw [hn,←Quo.mk_neg,←Pol.C_neg]; rfl
 rw [h];have:zp p p=0:=wo.2 (by simp)
 rw [this,Pol.C_zero,Quo.mk_zero]
end
section
variable {p:Int} [IsP p]
theorem Um {q:Fp p} (x y:Quo q):pw (x+y) p.toNat=pw x p.toNat+pw y p.toNat:=by
 have h:=a73 (q:=q);rcases (inferInstance:IsP p).h with rfl | rfl | rfl | rfl
 ·have e:pw (x+y) 2=pw x 2+pw y 2+ic 2*(x*y):=by
   show (x+y)^2=x^2+y^2+ic 2*(x*y);exact ba [x,y] rfl
  rw [h,Gq.zero_mul,Gq.add_zero] at e;exact e
 ·have e:pw (x+y) 3=pw x 3+pw y 3+ic 3*(x*x*y+x*y*y):=by
   show (x+y)^3=x^3+y^3+ic 3*(x*x*y+x*y*y);exact ba [x,y] rfl
  rw [h,Gq.zero_mul,Gq.add_zero] at e;exact e
 ·have e:pw (x+y) 5=pw x 5+pw y 5+ic 5*(x^4*y+ic 2*x^3*y^2+ic 2*x^2*y^3+x*y^4):=by
   show (x+y)^5=x^5+y^5+ic 5*(x^4*y+ic 2*x^3*y^2+ic 2*x^2*y^3+x*y^4);exact ba [x,y] rfl
  rw [h,Gq.zero_mul,Gq.add_zero] at e;exact e
 ·have e:pw (x+y) 7=pw x 7+pw y 7+ic 7*(x^6*y+ic 3*x^5*y^2+ic 5*x^4*y^3+ic 5*x^3*y^4+ic 3*x^2*y^5+x*y^6):=by
   show (x+y)^7=x^7+y^7+ic 7*(x^6*y+ic 3*x^5*y^2+ic 5*x^4*y^3+ic 5*x^3*y^4+ic 3*x^2*y^5+x*y^6);exact ba [x,y] rfl
  rw [h,Gq.zero_mul,Gq.add_zero] at e;exact e
theorem N5 (c:Zp p):pw c p.toNat=c:=by
 have h0:=gw c;have e:c=zp p (rep c):=(g9 c).symm;generalize rep c=n at *;subst e;rcases (inferInstance:IsP p).h with rfl | rfl | rfl | rfl
 ·have:n=0∨n=1:=by omega
  rcases this with rfl | rfl <;> exact wo.2 (by decide)
 ·have:n=0∨n=1∨n=2:=by omega
  rcases this with rfl | rfl | rfl <;> exact wo.2 (by decide)
 ·have:n=0∨n=1∨n=2∨n=3∨n=4:=by omega
  rcases this with rfl | rfl | rfl | rfl | rfl <;> exact wo.2 (by decide)
 ·have:n=0∨n=1∨n=2∨n=3∨n=4∨n=5∨n=6:=by omega
  rcases this with rfl | rfl | rfl | rfl | rfl | rfl | rfl <;> exact wo.2 (by decide)
end
end Pe

namespace Pe
open Go Gq
section
variable {p:Int} [IsP p]
theorem Dr {q:Fp p} (x y:Quo q):∀k,pw (x+y) (p.toNat^k)=pw x (p.toNat^k)+pw y (p.toNat^k)
 | 0=>by rw [je,x8,x8,x8]
 | k+1=>by rw [df,←n5,Dr x y k,Um,n5,n5]
theorem A7 (c:Zp p):∀k,pw c (p.toNat^k)=c
 | 0=>by rw [je,x8]
 | k+1=>by rw [df,←n5,A7 c k,N5]
end
section
variable {p:Int}
theorem a2m (c:Zp p):∀n,Pol.C (pw c n)=pw (Pol.C c) n
 | 0=>rfl
 | n+1=>by rw [pw,Pol.C_mul,a2m c n,pw]
end
section
variable {p:Int} [IsP p]
end
section
variable {p:Int}
theorem Oj {P:Fp p→Prop} (h0:P 0) (h:∀c a,P a→P (Pol.C c+Pol.X*a)):∀(n:Nat) (a:Fp p),a.lt n→P a
 | 0,a,ha=>by rw [Pol.lt_zero.1 ha]; exact h0
 | n+1,a,ha=>by
  obtain ⟨m,hm⟩:=a.fin
  let b:Fp p:=⟨fun i=>a.c (i+1),m,fun i hi=>hm _ (by omega)⟩
  have e:a=Pol.C (a.c 0)+Pol.X*b:=Pol.ext fun i=>by
   rw [Pol.c_add,Pol.c_C,Pol.c_Xmul];cases i with
   | zero=>rw [if_pos rfl,if_pos rfl,Gq.add_zero]
   | succ i=>rw [if_neg (by omega),if_neg (by omega),Gq.zero_add]; rfl
  rw [e];exact h _ _ (Oj h0 h n b fun i hi=>ha _ (by omega))
end
section
variable {p:Int} [IsP p]
theorem T9 {q:Fp p} (k:Nat) (h:pw (Quo.mk q Pol.X) (p.toNat^k)=Quo.mk q Pol.X) (x:Quo q):pw x (p.toNat^k)=x:=by
 obtain ⟨a,rfl⟩:=Quo.ex x;refine Oj (P:=fun a=>pw (Quo.mk q a) (p.toNat^k)=Quo.mk q a) ?_ (fun c a ha=>?_) _ a a.lt_len
 ·rw [Quo.mk_zero]
  have:=nu (p:=p) k;cases hn:p.toNat^k with
  | zero=>omega
  | succ n=>rw [pw,Gq.mul_zero]
 ·rw [Quo.mk_add,Quo.mk_mul,Dr,xn,h,ha]
  congr 1
  rw [←Quo.mk_pow,←a2m,A7]
theorem qe {K:Type} [CR K] (m:Nat) (g:Nat→K):∀n,em (fun i=>(if i=m then 1 else 0)*g i) n=if m<n then g m else 0
 | 0=>by rw [if_neg (by omega)]; rfl
 | n+1=>by
  rw [em,qe m g n];rcases fj m n with h | h | h
  ·rw [if_pos h,if_neg (by omega),if_pos (by omega),Gq.zero_mul,Gq.add_zero]
  ·rw [if_neg (by omega),if_pos h.symm,if_pos (by omega),Gq.one_mul,Gq.zero_add,h]
  ·rw [if_neg (by omega),if_neg (by omega),if_neg (by omega),Gq.zero_mul,Gq.add_zero]
noncomputable def frT (p:Int) (k:Nat):Fp p:=pw Pol.X (p.toNat^k)-Pol.X
theorem Va {q:Fp p} {k:Nat}:Dv q (frT p k)↔pw (Quo.mk q Pol.X) (p.toNat^k)=Quo.mk q Pol.X:=by
 rw [i7,frT,Quo.mk_sub,Quo.mk_pow];exact ⟨fun h=>jl h,fun h=>by rw [h,sub_self]⟩
theorem O3 {q:Fp p} (hi:Irr q) {d:Nat} (hq:q.len=d+1) (hd:p^d<1000000000000):Dv q (frT p d):=Va.2 (D3 hi hq hd _)
theorem Bp {q:Fp p} (hi:Irr q) {d k:Nat} (hq:q.len=d+1) (hd:p^d<1000000000000) (hk:0<k) (h:Dv q (frT p k)):d≤k:=by
 classical
 have hfix:=T9 k (Va.1 h);have hone:(1:Quo q)≠0:=(Jc hi).one_ne;have hP:2≤p.toNat:=by have:=IsP.ge (p:=p); omega
 have hne1:1<p.toNat^k:=Nat.one_lt_pow (by omega) hP
 have r:=xr (fun x y e=>hi.quo_zero e) (p.toNat^k) (fun i=>(if i=p.toNat^k then (1:Quo q) else 0)-(if i=1 then 1 else 0)) ((0:Quo q)::sk q d)
  (by rw [if_pos rfl,if_neg (by omega),sub_eq,rt,Gq.add_zero]; exact hone)
  (fq.2 ⟨fun h0=>(t4 hq hd 0).1 h0 rfl,t5 hq hd⟩)
  (fun y _=>by
   have e:(fun i=>((if i=p.toNat^k then (1:Quo q) else 0)-(if i=1 then 1 else 0))*pw y i)=fun i=>(if i=p.toNat^k then (1:Quo q) else 0)*pw y i+(if i=1 then 1 else 0) * -pw y i:=by
    funext i
    exact ba [(if i=p.toNat^k then (1:Quo q) else 0),(if i=1 then (1:Quo q) else 0),pw y i] rfl
   rw [e,tk,qe,qe _ (fun i=>-pw y i),if_pos (by omega),if_pos (by omega),hfix,x8,add_neg])
 have hl:(sk q d).length=p.toNat^d-1:=by unfold sk; rw [eo,jr]
 have hpos:=nu (p:=p) d;rw [bf,hl] at r;have:p.toNat^d≤p.toNat^k:=by omega
 exact (Nat.pow_le_pow_iff_right (by omega)).1 this
end
end Pe

namespace Pe
open Go Gq
section
variable {p:Int} [IsP p]
theorem Hb:∀{l m:List Int},Can p l→Can p m→l.length<m.length→cf m (m.length-1)≠0→vl p l<vl p m
 | l,[],_,_,h,_=>by simp at h
 | l,d::m,hl,hm,h,hc=>by
  have hp:=IsP.pos (p:=p);have hd:=hm d (by simp)
  have hmc:Can p m:=fun x hx=>hm x (by simp [hx])
  cases l with
  | nil=>
   show 0<d+p*vl p m;have h2:=(Pn hmc).1;cases m with
   | nil=>
    have:d≠0:=hc;simp [vl]; omega
   | cons e m=>
    have h3:cf (e::m) ((e::m).length-1)≠0:=by simpa [cf] using hc
    have:=Hb (l:=[]) (m:=e::m) (fun x hx=>by simp at hx) hmc (by simp) h3
    have h5:0<p*vl p (e::m):=Int.mul_pos hp (by simpa [vl] using this)
    omega
  | cons c l=>
   have hlc:Can p l:=fun x hx=>hl x (by simp [hx])
   have hcc:=hl c (by simp)
   have h3:cf m (m.length-1)≠0:=by
    cases m with
    | nil=>simp at h
    | cons e m=>simpa [cf] using hc
   have:=Hb hlc hmc (by simpa using h) h3
   have h5:p*(vl p l+1)≤p*vl p m:=b4 (by omega) (by omega)
   rw [ka,gv] at h5;show c+p*vl p l<d+p*vl p m;omega
end
section
variable {p:Int}
theorem Iy {a:Fp p} (h:a≠0):cf (row a) ((row a).length-1)≠0:=by
 rw [b8,e9];exact fun h0=>Pol.ld_ne h (fy.1 h0)
end
section
variable {p:Int} [IsP p]
theorem pn {a b:Fp p} (h:a.len<b.len):dg a<dg b:=Hb (fu a) (fu b) (by simpa using h) (Iy fun h0=>by rw [h0,Pol.len_zero] at h; omega)
theorem S5:∀{l m:List Int},Can p l→Can p m→l.length=m.length→vl p l=vl p m→l=m
 | [],[],_,_,_,_=>rfl
 | [],_::_,_,_,h,_=>by simp at h
 | _::_,[],_,_,h,_=>by simp at h
 | c::l,d::m,hl,hm,h,e=>by
  have hp:=IsP.pos (p:=p);have hcc:=hl c (by simp)
  have hd:=hm d (by simp)
  have e2:c+p*vl p l=d+p*vl p m:=e
  have e3:c=d:=by
   have:=congrArg (· % p) e2
   simp only [gi] at this
   rwa [gu hcc.1 hcc.2,gu hd.1 hd.2] at this
  subst e3;have e4:p*vl p l=p*vl p m:=by omega
  rw [S5 (l:=l) (m:=m) (fun x hx=>hl x (by simp [hx])) (fun x hx=>hm x (by simp [hx])) (by simpa using h) (Int.eq_of_mul_eq_mul_left (by omega) e4)]
theorem Ei {a b:Fp p} (h:dg a=dg b):a=b:=by
 rcases fj a.len b.len with h1 | h1 | h1
 ·have:=pn h1; omega
 ·exact Wm (S5 (fu a) (fu b) (by simpa using h1) h)
 ·have:=pn h1; omega
abbrev iq (p:Int):=List (Fp p×Nat)
noncomputable def i8 (L:iq p):Fp p:=kv (L.map fun x=>pw x.1 x.2)
structure FacOk (L:iq p):Prop where
 irr:∀x∈L,Irr x.1∧Monic x.1∧1≤x.2
 dis:L.Pairwise fun x y=>x.1≠y.1
structure IsFac (a:Fp p) (L:iq p):Prop where
 ok:FacOk L
 sorted:L.Pairwise fun x y=>dg x.1<dg y.1
 eq:a=Pol.C a.ld*i8 L
end
section
variable {p:Int}
theorem nm (x:Fp p×Nat) (L:iq p):i8 (x::L)=pw x.1 x.2*i8 L:=rfl
end
section
variable {p:Int} [IsP p]
theorem Monic.pw {a:Fp p} (h:Monic a):∀n,Monic (pw a n)
 | 0=>Monic.one
 | n+1=>(Monic.pw h n).mul h
theorem ud {L:iq p} (h:FacOk L):Monic (i8 L):=by
 induction L with
 | nil=>exact Monic.one
 | cons x L ih=>
  rw [nm];exact (Monic.pw (h.irr x (by simp)).2.1 _).mul (ih ⟨fun y hy=>h.irr y (by simp [hy]),(d9.1 h.dis).2⟩)
theorem Irr.pw_dv {q a:Fp p} (h:Irr q):∀n,Dv q (pw a n)→Dv q a
 | 0,hd=>by
  have h1:q.len≤(1:Fp p).len:=hd.len Pol.one_ne;have h2:=h.len;rw [Pol.len_one] at h1; omega
 | n+1,hd=>(h.prime hd).elim (Irr.pw_dv h n) id
theorem He {q:Fp p} (hq:Irr q) (mq:Monic q):∀{L:iq p},FacOk L→Dv q (i8 L)→∃k,(q,k)∈L
 | [],_,h=>by
  have h1:q.len≤(1:Fp p).len:=h.len Pol.one_ne;have h2:=hq.len;rw [Pol.len_one] at h1; omega
 | x::L,ok,h=>by
  rw [nm] at h;rcases hq.prime h with h1 | h1
  ·have h2:=Irr.pw_dv hq _ h1
   obtain ⟨i1,i2,_⟩:=ok.irr x (by simp)
   have:=hq.eq_of_dv i1 mq i2 h2;exact ⟨x.2,by rw [this]; simp⟩
  ·obtain ⟨k,hk⟩:=He hq mq ⟨fun y hy=>ok.irr y (by simp [hy]),(d9.1 ok.dis).2⟩ h1
   exact ⟨k,by simp [hk]⟩
theorem v5 {q:Fp p} {k:Nat}:∀{L:iq p},FacOk L→(q,k)∈L→∃r,i8 L=pw q k*r∧¬ Dv q r
 | x::L,ok,h=>by
  have ok':FacOk L:=⟨fun y hy=>ok.irr y (by simp [hy]),(d9.1 ok.dis).2⟩
  rw [nm];rcases cr.1 h with rfl | h
  ·refine ⟨i8 L,rfl,fun hd=>?_⟩
   obtain ⟨i1,i2,_⟩:=ok.irr (q,k) (by simp)
   obtain ⟨k',hk⟩:=He i1 i2 ok' hd;exact (d9.1 ok.dis).1 _ hk rfl
  ·obtain ⟨r,e,hn⟩:=v5 ok' h
   refine ⟨pw x.1 x.2*r,by rw [e,Gq.mul_left_comm],fun hd=>?_⟩
   obtain ⟨i1,i2,_⟩:=ok.irr (q,k) (by simp [h])
   obtain ⟨j1,j2,_⟩:=ok.irr x (by simp)
   rcases i1.prime hd with h1 | h1
   ·have h2:=Irr.pw_dv i1 _ h1
    have e:=i1.eq_of_dv j1 i2 j2 h2;exact (d9.1 ok.dis).1 _ h e.symm
   ·exact hn h1
theorem Bu {a:Fp p} (h:a≠0):∀n,pw a n≠0
 | 0=>Pol.one_ne
 | n+1=>Pol.mul_ne (Bu h n) h
theorem Gw {a:Fp p} (ha:a≠0) {L:iq p} (ok:FacOk L) (e:a=Pol.C a.ld*i8 L) (q:Fp p) (k:Nat):(q,k)∈L↔Irr q∧Monic q∧1≤k∧Dv (pw q k) a∧¬ Dv (pw q (k+1)) a:=by
 have hld:=Pol.ld_ne ha
 have dvP:∀c,Dv c a↔Dv c (i8 L):=fun c=>by
  constructor
  ·rintro ⟨x,hx⟩
   refine ⟨Pol.C (Fd.inv a.ld)*x,?_⟩
   have:i8 L=Pol.C (Fd.inv a.ld)*a:=by
    rw [e];have e2:(Pol.C a.ld*i8 L).ld=a.ld:=by rw [←e]
    rw [e2,←Gq.mul_assoc,Gq.mul_comm (Pol.C (Fd.inv _)),S0 hld,Gq.one_mul]
   rw [this];generalize Pol.C (Fd.inv a.ld)=k;rw [hx];exact ba [k,c,x] rfl
  ·intro h
   rw [e]; exact h.mul_left _
 constructor
 ·intro h
  obtain ⟨i1,i2,i3⟩:=ok.irr (q,k) h;obtain ⟨r,e2,hn⟩:=v5 ok h;refine ⟨i1,i2,i3,(dvP _).2 ⟨r,e2⟩,fun hd=>hn ?_⟩
  obtain ⟨y,hy⟩:=(dvP _).1 hd;rw [e2,pw,Gq.mul_assoc] at hy;exact ⟨y,Pol.mul_cancel (Bu i1.ne k) hy⟩
 ·rintro ⟨i1,i2,i3,h1,h2⟩
  have hq:Dv q a:=by
   obtain ⟨k,rfl⟩:∃j,k=j+1:=⟨k-1,by omega⟩
   exact Dv.trans ⟨pw q k,Gq.mul_comm _ _⟩ h1
  obtain ⟨k',hk'⟩:=He i1 i2 ok ((dvP _).1 hq);obtain ⟨r,e2,hn⟩:=v5 ok hk'
  have:k=k':=by
   rcases fj k k' with h | h | h
   ·exfalso
    apply h2;rw [dvP,e2];obtain ⟨j,rfl⟩:=dz (show k+1≤k' from h);rw [pq q (k+1) j];exact ((Dv.refl _).mul_right _).mul_right _
   ·exact h
   ·exfalso
    apply hn;obtain ⟨y,hy⟩:=(dvP _).1 h1;obtain ⟨j,rfl⟩:=dz (show k'+1≤k from h);rw [e2,pq,pw,Gq.mul_assoc,Gq.mul_assoc] at hy;exact ⟨_,Pol.mul_cancel (Bu i1.ne k') hy⟩
  rw [this]; exact hk'
theorem Ek {α:Type} (f:α→Int):∀{l m:List α},l.Pairwise (fun x y=>f x<f y)→m.Pairwise (fun x y=>f x<f y)→(∀x,x∈l↔x∈m)→l=m
 | [],[],_,_,_=>rfl
 | [],y::m,_,_,h=>by have:=(h y).2 (by simp); simp at this
 | x::l,[],_,_,h=>by have:=(h x).1 (by simp); simp at this
 | x::l,y::m,hl,hm,h=>by
  obtain ⟨l1,l2⟩:=d9.1 hl;obtain ⟨m1,m2⟩:=d9.1 hm
  have e:x=y:=by
   rcases cr.1 ((h x).1 (by simp)) with h1 | h1
   ·exact h1
   ·rcases cr.1 ((h y).2 (by simp)) with h2 | h2
    ·exact h2.symm
    ·have:=m1 _ h1
     have:=l1 _ h2;omega
  subst e;rw [Ek f l2 m2 fun z=>?_]
  constructor
  ·intro hz
   rcases cr.1 ((h z).1 (by simp [hz])) with h1 | h1
   ·subst h1; have:=l1 _ hz; omega
   ·exact h1
  ·intro hz
   rcases cr.1 ((h z).2 (by simp [hz])) with h1 | h1
   ·subst h1; have:=m1 _ hz; omega
   ·exact h1
theorem IsFac.unique {a:Fp p} (ha:a≠0) {L L':iq p} (h:IsFac a L) (h':IsFac a L'):L=L':=
 Ek (fun x=>dg x.1) h.sorted h'.sorted fun x=>by
  obtain ⟨q,k⟩:=x;rw [Gw ha h.ok h.eq,Gw ha h'.ok h'.eq]
def ve (n:Nat) (a:Fp p):Prop:=∀q,Irr q→Dv q a→n+1≤q.len
theorem tn {a:Fp p} {n:Nat} (h:ve n a) (hl:2≤a.len) (hs:a.len<2*n+1):Irr a:=by
 refine Irr.of_dv hl fun u hu=>?_
 have ha:a≠0:=fun h0=>by rw [h0,Pol.len_zero] at hl; omega
 obtain ⟨v,rfl⟩:=hu;have hu0:u≠0:=fun h0=>ha (by rw [h0,Gq.zero_mul])
 have hv0:v≠0:=fun h0=>ha (by rw [h0,Gq.mul_zero])
 have l:=Pol.len_mul hu0 hv0;have l1:=Pol.len_pos hu0;have l2:=Pol.len_pos hv0;apply bv;intro hx;have hu2:2≤u.len:=by omega
 have hv2:2≤v.len:=by omega
 obtain ⟨q,q1,_,q2⟩:=yz u.len u (ap _) hu2;obtain ⟨r,r1,_,r2⟩:=yz v.len v (ap _) hv2;have s1:=h q q1 (q2.mul_right v);have s2:=h r r1 (r2.mul_left u);have s3:=q2.len hu0;have s4:=r2.len hv0;omega
theorem L2 (a:Fp p):ve 1 a:=fun _q h _=>h.len
theorem Lv {a b:Fp p} {n:Nat} (h:ve n a) (hd:Dv b a):ve n b:=fun q hq hb=>h q hq (hb.trans hd)
end
end Pe

namespace Pe
open Go Gq
variable {T:Nat→Option Fn} {A:ac}
def vf (O:ac) (F:Nat):Prop:=∀x:Int,ask O F [(D.int .i64 x)]=some (D.bool false)
theorem Vu (hT:T F4=some Z4):vf (den T A) F4:=fun x=>by
 refine bj hT rfl ?_;simp -implicitDefEqProofs [Z4,Z4_B]
theorem Qx (hT:T F5=some Z5):vf (den T A) F5:=fun x=>by
 refine bj hT rfl ?_;simp -implicitDefEqProofs [Z5,Z5_B]
def kw (x y:Int):Int:=if x<y then -1 else if y<x then 1 else 0
def lw (O:ac) (F:Nat):Prop:=∀x y:Int,ask O F [(D.int .i64 x),(D.int .i64 y)]=some (D.int .i64 (kw x y))
theorem N7 (hT:T F0=some Z0) (h:vf (den T A) F4):lw (den T A) F0:=fun x y=>by
 have e1:=h x;have e2:=h y;refine bj hT rfl ?_;unfold kw
 by_cases h1:x<y
 ·simp -implicitDefEqProofs [Z0,Z0_B,e1,e2,h1,af]
 ·by_cases h2:y<x
  ·simp -implicitDefEqProofs [Z0,Z0_B,e1,e2,h1,h2,af]
  ·simp -implicitDefEqProofs [Z0,Z0_B,e1,e2,h1,h2,af]
theorem Ge (hT:T F3=some Z3) (h:vf (den T A) F5):lw (den T A) F3:=fun x y=>by
 have e1:=h x;have e2:=h y;refine bj hT rfl ?_;unfold kw
 by_cases h1:x<y
 ·simp -implicitDefEqProofs [Z3,Z3_B,e1,e2,h1,af]
 ·by_cases h2:y<x
  ·simp -implicitDefEqProofs [Z3,Z3_B,e1,e2,h1,h2,af]
  ·simp -implicitDefEqProofs [Z3,Z3_B,e1,e2,h1,h2,af]
def zk (l m:List Int):Nat→Int
 | 0=>0
 | n+1=>if kw (cf l n) (cf m n)≠0 then kw (cf l n) (cf m n) else zk l m n
theorem E4 {O:ac} (hc:lw O F3) {l m:List Int} (hlm:l.length=m.length) (hl:l.length<1000000):∀n:Nat,n≤l.length →
 dn O 0 (.loop Zj_L0) ⟨[(0,(.d (.sl .leaf (ae .i64 l)))),(1,(.d (.sl .leaf (ae .i64 m)))),(6,(.d (.int .i64 ((n:Int)-1))))],[]⟩ =
  if zk l m n=0 then some (.exit 0,⟨[(0,(.d (.sl .leaf (ae .i64 l)))),(1,(.d (.sl .leaf (ae .i64 m)))),(6,(.d (.int .i64 (-1)))),(20,(.d (.bool false)))],[]⟩) else some (.ret,⟨[(4,(.d (.int .i64 (zk l m n))))],[]⟩)
 | 0,hn=>by
  simp only [zk,if_true];exact bi (by simp -implicitDefEqProofs [Zj_L0,af])
 | n+1,hn=>by
  have t0:(((n+1:Nat):Int)-1)=(n:Int):=by omega
  rw [t0];have h1:n<l.length:=by omega
  have h2:n<m.length:=by omega
  have e1:l[n]? = some (cf l n):=by rw [ah h1,da h1]
  have e2:m[n]? = some (cf m n):=by rw [ah h2,da h2]
  have e1':l[n]=cf l n:=(da h1).symm;have e2':m[n]=cf m n:=(da h2).symm;have e3:=hc (cf l n) (cf m n);have w1:IntKind.i64.wrap ((n:Int)-1)=(n:Int)-1:=w64 (by omega)
  by_cases h0:kw (cf l n) (cf m n)=0
  ·rw [h0] at e3
   have e:zk l m (n+1)=zk l m n:=if_neg (fun h=>h h0)
   rw [e];refine bh ?_ (E4 hc hlm hl n (by omega))
   simp -implicitDefEqProofs [Zj_L0,af,h1,h2,e1',e2',e3,w1]
  ·have e:zk l m (n+1)=kw (cf l n) (cf m n):=if_pos h0
   rw [e,if_neg h0];refine p7 ?_;simp -implicitDefEqProofs [Zj_L0,af,h1,h2,e1',e2',e3,h0]
def Wx (l m:List Int):Int:=if kw l.length m.length≠0 then kw l.length m.length else zk l m l.length
def vo (O:ac):Prop:=∀l m:List Int,l.length<1000000→m.length<1000000→ask O Fj [(D.sl .leaf (ae .i64 l)),(D.sl .leaf (ae .i64 m))]=some (D.int .i64 (Wx l m))
theorem Rk (hT:T Fj=some Zj) (h1:lw (den T A) F0) (h2:lw (den T A) F3):vo (den T A):=by
 intro l m hl hm;have e1:=h1 l.length m.length;unfold Wx;refine bj hT rfl ?_
 by_cases h0:kw l.length m.length=0
 ·have hlm:l.length=m.length:=by
   unfold kw at h0
   split at h0
   ·omega
   ·split at h0 <;> omega
  rw [if_neg (fun h=>h h0)]
  rw [h0] at e1;have e2:=E4 h2 hlm hl l.length (ap _);have w1:IntKind.i64.wrap ((l.length:Int)-1)=(l.length:Int)-1:=w64 (by omega)
  by_cases hz:zk l m l.length=0
  ·rw [if_pos hz] at e2
   simp -implicitDefEqProofs [Zj,Zj_B,af,e1,e2,w1,hz]
  ·rw [if_neg hz] at e2
   simp -implicitDefEqProofs [Zj,Zj_B,af,e1,e2,w1]
 ·rw [if_pos h0]
  simp -implicitDefEqProofs [Zj,Zj_B,af,e1,h0]
section
variable (f:D→Int)
def we:List D→D→List D→List D
 | [],x,R=>x::R
 | y::L,x,R=>if f x<f y then we L x (y::R) else (y::L).reverse++x::R
def Dj:List D→List D→List D
 | P,[]=>P
 | P,x::r=>Dj (we f P.reverse x []) r
theorem Jj:∀(L:List D) (x:D) (R S:List D),we f L x (R++S)=we f L x R++S
 | [],x,R,S=>rfl
 | y::L,x,R,S=>by
  unfold we
  split
  ·rw [←f6,Jj L x (y::R) S]
  ·simp
theorem v4:∀(L:List D) (x:D) (R:List D),(we f L x R).Perm (x::(L.reverse++R))
 | [],x,R=>.refl _
 | y::L,x,R=>by
  unfold we
  split
  ·refine (v4 L x (y::R)).trans ?_
   simp
  ·exact List.perm_middle
theorem Tf (L:List D) (x:D) (R:List D):(we f L x R).length=L.length+R.length+1:=by
 have:=(v4 f L x R).length_eq
 simpa using this
def Asc (l:List D):Prop:=l.Pairwise fun x y=>f x≤f y
theorem In:∀(L:List D) (x:D) (R:List D),Asc f (L.reverse++R)→(∀y∈R,f x≤f y)→Asc f (we f L x R)
 | [],x,R,h,hx=>by
  unfold we Asc;refine d9.2 ⟨hx,?_⟩;have h':Asc f R:=by simpa using h
  exact h'
 | y::L,x,R,h,hx=>by
  unfold we
  split
  ·rename_i hlt
   refine In L x (y::R) (by simpa using h) fun z hz=>?_
   rcases cr.1 hz with rfl | hz
   ·omega
   ·exact hx z hz
  ·rename_i hlt
   unfold Asc at h ⊢;rw [fc] at h ⊢;refine ⟨h.1,d9.2 ⟨hx,h.2.1⟩,fun a ha b hb=>?_⟩
   rcases cr.1 hb with rfl | hb
   ·have hay:f a≤f y:=by
     have h1:=h.1;rw [List.reverse_cons,fc] at h1;rw [List.reverse_cons] at ha;rcases au.1 ha with ha | ha
     ·exact h1.2.2 a ha y (by simp)
     ·simp at ha; rw [ha]; exact rg _
    omega
   ·exact h.2.2 a ha b hb
theorem E8:∀(r P:List D),(Dj f P r).Perm (P++r)
 | [],P=>by simp [Dj]
 | x::r,P=>by
  unfold Dj;refine (E8 r _).trans ?_;have:=v4 f P.reverse x [];refine (List.Perm.append_right r this).trans ?_;simp;exact List.perm_middle.symm
theorem Jp:∀(r P:List D),Asc f P→Asc f (Dj f P r)
 | [],P,h=>h
 | x::r,P,h=>by
  unfold Dj;exact Jp r _ (In f P.reverse x [] (by simpa using h) (by simp))
end
section
variable {O:ac} {g:Nat} {first caps:List D}
abbrev i4:Sh:=.st [.leaf,.leaf]
structure CmpOk (O:ac) (g:Nat) (first caps:List D) (f:D→Int) (s:Sh) (cs:List D):Prop where
 nf:ta first
 nc:ta caps
 nx:ta cs
 sh:Ag s cs
 ask:∀x∈cs,∀y∈cs,ask O g (first++[x,y]++caps)=some (D.int .i64 (kw (f x) (f y)))
theorem CmpOk.perm {f:D→Int} {s:Sh} {cs ds:List D} (h:CmpOk O g first caps f s cs) (p:ds.Perm cs):CmpOk O g first caps f s ds:=
 ⟨h.nf,h.nc,fun x hx=>h.nx x (p.subset hx),fun x hx=>h.sh x (p.subset hx),fun x hx y hy=>h.ask x (p.subset hx) y (p.subset hy)⟩
theorem CmpOk.call {f:D→Int} {s:Sh} {cs:List D} (h:CmpOk O g first caps f s cs) {hp:Heap} {np:Nat} {news:List Nat} {x y:D} (hx:x∈cs) (hy:y∈cs) :
 xz O np hp .flat news (g,first.map .d,caps.map .d) [.d x,.d y]=some (.d (D.int .i64 (kw (f x) (f y))),hp):=by
 have e:kl hp (first.map .d++[.d x,.d y]++caps.map .d)=some (first++[x,y]++caps):=
  pv hp (pv hp (jj hp h.nf) (jj hp (ds:=[x,y]) (by intro z hz; simp at hz; rcases hz with rfl | rfl; exact h.nx _ hx; exact h.nx _ hy))) (jj hp h.nc)
 rw [wx,e,a9,D6,h.ask x hx y hy,a9,yw,show (D.int IntKind.i64 (kw (f x) (f y))).flat=true from rfl,if_pos rfl]
theorem L4 (x y:Int):kw x y<0↔x<y:=by
 unfold kw
 split
 ·omega
 ·split <;> omega
theorem V0 {f:D→Int} {n:Nat} {cp:Option Nat} (hn:n≤1000) {i:Nat}:∀(L:List D) (x:D) (R:List D),(L.reverse++x::R).length=n→CmpOk O g first caps f i4 (L.reverse++x::R)→∃j:Int,
 dn O 1 (.loop Z2b_L0) ⟨[(0,.sl 0 [] 0 n cp),(1,(.d (.int .i64 0))),(2,(.d (.int .i64 n))),(3,.d (.fn g first caps)),(8,(.d (.int .i64 i))),(9,(.d (.int .i64 L.length)))],[.sl false i4 (L.reverse++x::R)]⟩ =
  some (.exit 2,⟨[(0,.sl 0 [] 0 n cp),(1,(.d (.int .i64 0))),(2,(.d (.int .i64 n))),(3,.d (.fn g first caps)),(8,(.d (.int .i64 i))),(9,(.d (.int .i64 j))),(34,(.d (.bool false)))],[.sl false i4 (we f L x R)]⟩)
 | [],x,R,hl,ok=>by
  refine ⟨0,bi ?_⟩;simp -implicitDefEqProofs [Z2b_L0,af,we]
 | y::L,x,R,hl,ok=>by
  have hj:(y::L).length=L.length+1:=rfl;have hlen:((y::L).reverse++x::R).length=L.length+1+(R.length+1):=by simp; omega
  have e1:((y::L).reverse++x::R)[L.length+1]? = some x:=by
   rw [aw (by simp)]; simp
  have e2:((y::L).reverse++x::R)[L.length]? = some y:=by
   rw [av (by simp)]; simp
  have m1:x∈(y::L).reverse++x::R:=by simp
  have m2:y∈(y::L).reverse++x::R:=by simp
  have c:=ok.call (hp:=[.sl false i4 ((y::L).reverse++x::R)]) (np:=1) (news:=[]) m1 m2;have s1:=ok.sh x m1;have s2:=ok.sh y m2;have n1:=ok.nx x m1;have n2:=ok.nx y m2
  have e3:(((y::L).reverse++x::R).set (L.length+1) y).set L.length x=L.reverse++x::y::R:=by
   rw [List.set_append_right _ _ (by simp),List.set_append_left _ _ (by simp)]
   simp
  have hp:((y::L).reverse++x::R).Perm (L.reverse++x::y::R):=by
   simp;exact (List.Perm.swap x y R).append_left _
  have w1:IntKind.i64.wrap (L.length:Int)=L.length:=w64 (by omega)
  have h0:(0:Int)<(L.length:Int)+1:=by omega
  have h00:(0:Int)≤(L.length:Int)+1:=by omega
  have h1:L.length+1<n:=by omega
  have h2:L.length<n:=by omega
  have h3:L.length<((y::L).reverse++x::R).length:=by omega
  have h4:L.length+1<((y::L).reverse++x::R).length:=by omega
  have e4:(((y::L).reverse++x::R).set (L.length+1) y)[L.length]? = some y:=by
   rw [b5 (by omega),e2]
  unfold we;rw [hj,show ((L.length+1:Nat):Int)=(L.length:Int)+1 by omega]
  generalize (y::L).reverse++x::R=cs at *;have e1':cs[L.length+1]=x:=by rw [ah h4] at e1; exact ao e1
  have e2':cs[L.length]=y:=by rw [ah h3] at e2; exact ao e2
  by_cases hlt:f x<f y
  ·rw [if_pos hlt]
   obtain ⟨j,e⟩:=V0 hn L x (y::R) (by rw [←hp.length_eq]; omega) (ok.perm hp.symm)
   have hc:=(L4 (f x) (f y)).2 hlt;refine ⟨j,bh ?_ e⟩;simp -implicitDefEqProofs [Z2b_L0,af,h0,h00,h1,h2,h3,h4,e1',e2',c,s1,s2,n1,n2,w1,hc,e3]
  ·rw [if_neg hlt]
   have hc:=mt (L4 (f x) (f y)).1 hlt;refine ⟨(L.length:Int)+1,bi ?_⟩;simp -implicitDefEqProofs [Z2b_L0,af,h0,h00,h1,h2,h3,h4,e1',e2',c,s1,s2,w1,hc]
end
theorem Ss {O:ac} {g:Nat} {first caps:List D} {f:D→Int} {n:Nat} {cp:Option Nat} (hn:n≤1000):∀(r P:List D),P.length+r.length=n→0<P.length→CmpOk O g first caps f i4 (P++r) →
 dn O 1 (.loop Z2b_L1) ⟨[(0,.sl 0 [] 0 n cp),(1,(.d (.int .i64 0))),(2,(.d (.int .i64 n))),(3,.d (.fn g first caps)),(8,(.d (.int .i64 P.length)))],[.sl false i4 (P++r)]⟩ =
  some (.exit 0,⟨[(0,.sl 0 [] 0 n cp),(1,(.d (.int .i64 0))),(2,(.d (.int .i64 n))),(3,.d (.fn g first caps)),(8,(.d (.int .i64 n))),(14,(.d (.bool false)))],[.sl false i4 (Dj f P r)]⟩)
 | [],P,hl,hP,ok=>by
  have hl':P.length=n:=by simpa using hl
  refine bi ?_;simp -implicitDefEqProofs [Z2b_L1,af,Dj,hl']
 | x::r,P,hl,hP,ok=>by
  simp at hl;have e0:P.reverse.reverse++x::r=P++x::r:=by simp
  obtain ⟨j,e⟩:=V0 (O:=O) (g:=g) (first:=first) (caps:=caps) (f:=f) (n:=n) (cp:=cp) hn (i:=P.length) P.reverse x r (by simp; omega) (by rw [e0]; exact ok)
  rw [e0,ox,←ew r,Jj,ew] at e;have hlen:=Tf f P.reverse x [];rw [ox,f0,cn] at hlen
  have hperm:(we f P.reverse x []++r).Perm (P++x::r):=by
   refine (List.Perm.append_right r (v4 f P.reverse x [])).trans ?_;simp;exact List.perm_middle.symm
  have ih:=Ss (O:=O) (g:=g) (first:=first) (caps:=caps) (f:=f) (cp:=cp) hn r (we f P.reverse x []) (by rw [hlen]; omega) (by omega) (ok.perm hperm)
  have hlt:P.length<n:=by omega
  have w1:IntKind.i64.wrap ((P.length:Int)+1)=((P.length+1:Nat):Int):=(w64 (x:=(P.length:Int)+1) (by omega)).trans (by omega)
  rw [hlen] at ih;unfold Dj;refine bh ?_ ih;simp -implicitDefEqProofs [Z2b_L1,af,hlt,e,w1]
def Yo (O:ac) (F:Nat) (args:V→List V→List V):Prop:=∀(g:Nat) (first caps:List D) (f:D→Int) (cs:List D) (cp:Option Nat),cs.length≤12→CmpOk O g first caps f i4 cs →
 ∃ds:List D,ds.Perm cs∧Asc f ds∧O F (args (.sl 0 [] 0 cs.length cp) [(.d (.int .i64 cs.length)),.d (.fn g first caps)]) [.sl false i4 cs]=some (.tup [],[.sl false i4 ds],[])
def qz (O:ac):Prop:=Yo O F2b fun s l=>[s,(.d (.int .i64 0))]++l
theorem Jr (hT:T F2b=some Z2b):qz (den T A):=by
 intro g first caps f cs cp hl ok;cases cs with
 | nil=>
  refine ⟨[],.refl _,List.Pairwise.nil,ri hT rfl ?_⟩;have st:=bi (O:=den T A) (np:=1) (c:=Z2b_L1) (s:=⟨[(0,.sl 0 [] 0 0 cp),(1,(.d (.int .i64 0))),(2,(.d (.int .i64 0))),(3,.d (.fn g first caps)),(8,(.d (.int .i64 1)))],[.sl false i4 []]⟩) (s1:=⟨[(0,.sl 0 [] 0 0 cp),(1,(.d (.int .i64 0))),(2,(.d (.int .i64 0))),(3,.d (.fn g first caps)),(8,(.d (.int .i64 1))),(14,(.d (.bool false)))],[.sl false i4 []]⟩) (id:=0) (by simp -implicitDefEqProofs [Z2b_L1,af])
  have w1:IntKind.i64.wrap 1=1:=w64 (by omega)
  simp -implicitDefEqProofs [Z2b,Z2b_B,st,w1]
 | cons x r=>
  have e:=Ss (O:=den T A) (g:=g) (first:=first) (caps:=caps) (f:=f) (n:=(x::r).length) (cp:=cp) (by omega) r [x] (by simp; omega) (by simp) ok
  have e1:(([x]:List D).length:Int)=1:=rfl;rw [e1] at e;refine ⟨Dj f [x] r,E8 f r [x],Jp f r [x] (dy _ _),ri hT rfl ?_⟩;have w1:IntKind.i64.wrap 1=1:=w64 (by omega)
  rw [List.singleton_append] at e;generalize x::r=cs at *;simp -implicitDefEqProofs [Z2b,Z2b_B,e,w1]
def vd (O:ac) (F:Nat):Prop:=∀n:Nat,n≤12→∃v:Int,ask O F [.int .u64 n]=some (D.int .i64 v)
theorem Xi (hT:T F1z=some Z1z):vd (den T A) F1z:=by
 intro n hn
 have key:∀v:Int,run (fun _ _ _=>none) 1 Z1z [.d (.int .u64 n)] []=some ((.d (.int .i64 v)),[],[])→ask (den T A) F1z [.int .u64 n]=some (D.int .i64 v):=by
  intro v h
  have h2:=Gj (A:=A) hT (n:=1) (vs:=[.d (.int .u64 n)]) (bs:=[]) (ans:=((.d (.int .i64 v)),[],[])) (by
   obtain ⟨qs,h3,h4⟩:=vb h;cases qs with
   | nil=>exact h4 _ (by intro q hq; simp at hq)
   | cons q qs=>exact absurd (h3 q (by simp)) (by simp))
  unfold ask;rw [show ([D.int .u64 n]:List D).map V.d=[.d (.int .u64 n)] from rfl,h2];rfl
 have h:n=0∨n=1∨n=2∨n=3∨n=4∨n=5∨n=6∨n=7∨n=8∨n=9∨n=10∨n=11∨n=12:=by omega
 rcases h with rfl | rfl | rfl | rfl | rfl | rfl | rfl | rfl | rfl | rfl | rfl | rfl | rfl
 ·exact ⟨0,key 0 (by kernel_rfl)⟩
 ·exact ⟨1,key 1 (by kernel_rfl)⟩
 ·exact ⟨2,key 2 (by kernel_rfl)⟩
 ·exact ⟨2,key 2 (by kernel_rfl)⟩
 ·exact ⟨3,key 3 (by kernel_rfl)⟩
 ·exact ⟨3,key 3 (by kernel_rfl)⟩
 ·exact ⟨3,key 3 (by kernel_rfl)⟩
 ·exact ⟨3,key 3 (by kernel_rfl)⟩
 ·exact ⟨4,key 4 (by kernel_rfl)⟩
 ·exact ⟨4,key 4 (by kernel_rfl)⟩
 ·exact ⟨4,key 4 (by kernel_rfl)⟩
 ·exact ⟨4,key 4 (by kernel_rfl)⟩
 ·exact ⟨4,key 4 (by kernel_rfl)⟩
theorem a3w (hT:T F1x=some Z1x) (h:vd (den T A) F1z):vd (den T A) F1x:=by
 intro n hn;obtain ⟨v,e⟩:=h n hn;refine ⟨v,bj hT rfl ?_⟩;simp -implicitDefEqProofs [Z1x,Z1x_B,af,e]
theorem a3y (hT:T F2j=some Z2j) (hi:qz (den T A)):∀(g:Nat) (first caps:List D) (f:D→Int) (cs:List D) (cp:Option Nat) (v:Int),cs.length≤12→CmpOk (den T A) g first caps f i4 cs →
 ∃ds:List D,ds.Perm cs∧Asc f ds∧den T A F2j [.sl 0 [] 0 cs.length cp,(.d (.int .i64 0)),(.d (.int .i64 cs.length)),(.d (.int .i64 v)),.d (.fn g first caps)] [.sl false i4 cs]=some (.tup [],[.sl false i4 ds],[]):=by
 intro g first caps f cs cp v hl ok;obtain ⟨ds,h1,h2,e⟩:=hi g first caps f cs cp hl ok;refine ⟨ds,h1,h2,ri hT rfl ?_⟩;have w1:IntKind.i64.wrap (cs.length:Int)=cs.length:=w64 (by omega)
 have h12:(cs.length:Int)≤12:=by omega
 have lp:=p7 (O:=den T A) (np:=1) (c:=Z2j_L0) (s:=⟨[(0,.sl 0 [] 0 cs.length cp),(1,(.d (.int .i64 0))),(2,(.d (.int .i64 cs.length))),(3,(.d (.int .i64 v))),(4,.d (.fn g first caps)),(10,(.d (.bool true))),(11,(.d (.bool true)))],[.sl false i4 cs]⟩) (s1:=⟨[],[.sl false i4 ds]⟩) (by
  simp at e;simp -implicitDefEqProofs [Z2j_L0,af,w1,h12,e,List.idxOf,List.findIdx,List.findIdx.go])
 simp -implicitDefEqProofs [Z2j,Z2j_B,lp]
def xq (O:ac):Prop:=∀(g:Nat) (first caps:List D) (f:D→Int) (cs:List D) (cp:Option Nat),cs.length≤12→CmpOk O g first caps f i4 cs →
 ∃ds:List D,ds.Perm cs∧Asc f ds∧O F27 [.sl 0 [] 0 cs.length cp,.d (.fn g first caps)] [.sl false i4 cs]=some (.tup [],[.sl false i4 ds],[])
theorem Nj (hT:T F27=some Z27) (hTp:T F2j=some Z2j) (hi:qz (den T A)) (hl:vd (den T A) F1x):xq (den T A):=by
 intro g first caps f cs cp hl12 ok;obtain ⟨v,ev⟩:=hl cs.length hl12;obtain ⟨ds,h1,h2,e⟩:=a3y hTp hi g first caps f cs cp v hl12 ok;refine ⟨ds,h1,h2,ri hT rfl ?_⟩
 have w1:IntKind.u64.wrap (cs.length:Int)=cs.length:=by
  simp [IntKind.wrap,IntKind.bits,IntKind.signed]; omega
 simp -implicitDefEqProofs [Z27,Z27_B,w1,ev,e,List.idxOf,List.findIdx,List.findIdx.go]
end Pe

namespace Pe
open Go Gq
variable {T:Nat→Option Fn} {A:ac}
theorem Ov {O:ac} (hd:qq O) {p:Int} [IsP p] {b:Fp p} (hb:2≤b.len) (hbl:b.len<2000):∀(n:Nat) (a:Fp p) (i:Nat),a.len≤n→a≠0→n<2000→i+n<100000→∃(k:Nat) (r:Fp p),a=r*pw b k∧¬ Dv b r ∧
 dn O 0 (.loop Z1j_L0) ⟨[(0,(.d (.int .i64 p))),(1,(.d (.sl .leaf (ae .i64 (row a))))),(2,(.d (.sl .leaf (ae .i64 (row b))))),(8,(.d (.int .i64 i)))],[]⟩=some (.ret,⟨[(6,(.d (.sl .leaf (ae .i64 (row r))))),(7,(.d (.int .i64 ((i+k:Nat)))))],[]⟩)
 | 0,a,i,hn,ha,_,_=>absurd (Pol.len_zero_iff.1 (by omega)) ha
 | n+1,a,i,hn,ha,hn2,hi=>by
  have hb0:b≠0:=fun h=>by rw [h,Pol.len_zero] at hb; omega
  have e:=hd p a b hb0 (by omega) (by omega)
  by_cases h0:a%b=0
  ·have hm:=Pol.div_mod a b
   rw [h0,Gq.add_zero] at hm;have hq:a/b≠0:=fun h=>ha (by rw [hm,h,Gq.zero_mul])
   have hl:=Pol.len_mul hq hb0;rw [←hm] at hl;obtain ⟨k,r,e1,e2,e3⟩:=Ov hd hb hbl n (a/b) (i+1) (by omega) hq (by omega) (by omega)
   refine ⟨k+1,r,?_,e2,?_⟩
   ·rw [pw,←Gq.mul_assoc,←e1]; exact hm
   ·have w1:IntKind.i64.wrap ((i:Int)+1)=((i+1:Nat):Int):=(w64 (x:=(i:Int)+1) (by omega)).trans (by omega)
    rw [show i+(k+1)=i+1+k by omega]
    refine bh ?_ e3;simp -implicitDefEqProofs [Z1j_L0,af,e,h0,cw,w1]
  ·refine ⟨0,a,(Gq.mul_one a).symm,fun hdv=>h0 ((wu hb0).1 hdv),p7 ?_⟩
   have hp:=Pol.len_pos h0;simp -implicitDefEqProofs [Z1j_L0,af,e,hp]
def yi (O:ac):Prop:=∀(p:Int) [IsP p] (a b:Fp p),a≠0→2≤b.len→a.len<1000→b.len<1000→∃(k:Nat) (r:Fp p),a=r*pw b k∧¬ Dv b r ∧
 ask O F1j [(D.int .i64 p),(D.sl .leaf (ae .i64 (row a))),(D.sl .leaf (ae .i64 (row b)))]=some (.tup [(D.sl .leaf (ae .i64 (row r))),(D.int .i64 k)])
theorem W2 (hT:T F1j=some Z1j) (hd:qq (den T A)):yi (den T A):=by
 intro p i a b ha hb hal hbl;obtain ⟨k,r,h1,h2,e⟩:=Ov hd hb (by omega) a.len a 0 (ap _) ha (by omega) (by omega)
 have e0:((0:Nat):Int)=0:=rfl;rw [e0,b9] at e;refine ⟨k,r,h1,h2,bj hT rfl ?_⟩;simp -implicitDefEqProofs [Z1j,Z1j_B,e]
section
variable {p:Int} [IsP p]
theorem o4 {n:Nat} (h:n≤12):p^n≤13841287201:=by
 have hp:=IsP.pos (p:=p);have h1:=ia (p:=p) (by omega) h
 have h2:p^12≤13841287201:=by
  rcases (inferInstance:IsP p).h with rfl | rfl | rfl | rfl <;> decide
 omega
theorem lc (n:Nat):0<p^n:=Int.pow_pos (IsP.pos)
theorem El (n:Nat):2*p^n≤p^(n+1):=by
 have hp:=IsP.ge (p:=p);rw [c9,f8];exact b4 hp (Int.le_of_lt (lc n))
theorem y0 {most:Int}:∀(n:Nat) (out:Int),0<out→out*p^n≤most→s9 p most n out=out*p^n
 | 0,out,h0,h=>by rw [eg,gv]; rfl
 | n+1,out,h0,h=>by
  have hp:=IsP.pos (p:=p);have e:out*p^(n+1)=out*p*p^n:=by rw [c9,rm,f8 p]
  rw [e] at h ⊢;have h1:1≤p^(n+1):=lc (n+1);have h2:out*1≤out*p^(n+1):=b4 h1 (by omega)
  rw [e] at h2;rw [s9,if_neg (by omega)]
  exact y0 n (out*p) (Int.mul_pos h0 hp) h
theorem ju {n:Nat} (hn:n≤12) {k:Int} (h1:p^n≤k) (h2:k<2*p^n):Monic (bx p k)∧(bx p k).len=n+1:=by
 have hp:=IsP.ge (p:=p);have hb:=o4 (p:=p) hn;have hpos:=lc (p:=p) n;have ok:wh k:=⟨by omega,by omega⟩
 have hs:=El (p:=p) n;have hlt:=sx (p:=p) ok (d:=n+1) (by omega)
 have hc:(bx p k).c n=1:=by
  rw [ww ok]
  have:k/p^n=1:=by
   have e:k=(k-p^n)+p^n:=by omega
   rw [e,Int.add_ediv_of_dvd_right (Int.dvd_refl _),Int.ediv_self (by omega),fw (by omega) (by omega)]; rfl
  rw [this]; rfl
 have hl:=Pol.len_eq hlt (by rw [hc]; exact Fd.one_ne)
 refine ⟨⟨?_,fun h0=>by rw [h0,Pol.len_zero] at hl; omega⟩,hl⟩
 unfold Pol.ld;rw [hl]; exact hc
theorem oh {n:Nat} (_hn:n≤12) {q:Fp p} (hq:Monic q) (hl:q.len=n+1):p^n≤dg q∧dg q<2*p^n:=by
 have hp:=IsP.ge (p:=p);have hpos:=lc (p:=p) n;have h1:=xy q;have h2:=Td (fu q) n;have h3:q.c n=1:=by have:=hq.1; unfold Pol.ld at this; rwa [hl] at this
 rw [e9,h3,rep_one] at h2
 have h4:dg q/p^n<p:=by
  apply dl hpos;rw [hl,c9,f8] at h1;exact h1.2
 have h5:0≤dg q/p^n:=gr h1.1 (by omega)
 have h6:dg q/p^n=1:=by
  have:dg q/p^n%p=dg q/p^n:=gu h5 h4;have h7:(1:Int)=dg q/p^n%p:=h2;omega
 have h8:=Int.mul_ediv_add_emod (dg q) (p^n);rw [h6,gv] at h8;have h9:=c8 (dg q) (show p^n≠0 by omega)
 have h10:=bq (dg q) hpos;omega
theorem Cv {n:Nat} (hn:n≤12) {q:Fp p} (hq:Monic q) (hl:q.len=n+1):bx p (dg q)=q:=De (by
 have:=oh hn hq hl;have:=o4 (p:=p) hn;omega)
theorem S7 {O:ac} (hnu:ix O) (hr:xi O) {a:Fp p} (hal:a.len<1000) {n:Nat} (hn:n≤12):∀(m:Nat) (k:Int),p^n≤k→k<2*p^n→(2*p^n-k).toNat≤m→(∃k0,k≤k0∧k0<2*p^n∧Dv (bx p k0) a)→∃b:Fp p,Monic b∧b.len=n+1∧Dv b a ∧
 dn O 0 (.loop Z1l_L0) ⟨[(0,(.d (.int .i64 p))),(1,(.d (.sl .leaf (ae .i64 (row a))))),(7,(.d (.int .i64 (p^n)))),(8,(.d (.int .i64 k)))],[]⟩=some (.ret,⟨[(6,(.d (.sl .leaf (ae .i64 (row b)))))],[]⟩)
 | 0,k,h1,h2,hm,hx=>by omega
 | m+1,k,h1,h2,hm,hx=>by
  have hb:=o4 (p:=p) hn;have hpos:=lc (p:=p) n;obtain ⟨m1,m2⟩:=ju hn h1 h2;have e1:=hnu p k (by omega) (by omega)
  have e2:=hr p a (bx p k) m1.2 (by omega) (by omega)
  have w1:IntKind.i64.wrap (2*p^n)=2*p^n:=w64 (by omega)
  have w2:IntKind.i64.wrap (k+1)=k+1:=w64 (by omega)
  by_cases hd:Dv (bx p k) a
  ·refine ⟨bx p k,m1,m2,hd,p7 ?_⟩
   have h0:=(wu m1.2).1 hd;rw [h0,cw] at e2;simp -implicitDefEqProofs [Z1l_L0,af,e1,e2,w1,h2]
  ·obtain ⟨k0,g1,g2,g3⟩:=hx
   have hne:k≠k0:=fun h=>hd (h▸g3)
   obtain ⟨b,b1,b2,b3,e⟩:=S7 hnu hr hal hn m (k+1) (by omega) (by omega) (by omega) ⟨k0,by omega,g2,g3⟩
   refine ⟨b,b1,b2,b3,bh ?_ e⟩;have h0:a%bx p k≠0:=fun h=>hd ((wu m1.2).2 h)
   have h0':row (a%bx p k)≠[]:=fun h=>h0 (B4.1 h)
   have h0'':(a%bx p k).len≠0:=fun h=>h0 (Pol.len_zero_iff.1 h)
   simp -implicitDefEqProofs [Z1l_L0,af,e1,e2,w1,w2,h2,h0'']
end
def mi (O:ac):Prop:=∀(p:Int) [IsP p] (a:Fp p) (n:Nat),1≤n→n≤12→a.len<1000→a≠0→(∃q,Monic q∧q.len=n+1∧Dv q a)→∃b:Fp p,Monic b∧b.len=n+1∧Dv b a ∧
 ask O F1l [(D.int .i64 p),(D.sl .leaf (ae .i64 (row a))),(D.int .i64 n)]=some (D.sl .leaf (ae .i64 (row b)))
theorem G3 (hT:T F1l=some Z1l) (hnu:ix (den T A)) (hr:xi (den T A)) (hno:Db (den T A)) (hdg:lh (den T A)) (hld:ug (den T A)) (hinv:n8 (den T A)) (hs:vw (den T A)):mi (den T A):=by
 intro p i a n hn1 hn hal ha ⟨q,q1,q2,q3⟩;have hp:=IsP.ge (p:=p);have hp7:=IsP.le (p:=p);have e1:=hdg (row a) (by rw [b8]; omega)
 rw [b8] at e1
 by_cases hd:a.len=n+1
 ·have hr:=gw a.ld
  have hin:=xj p (rep a.ld);have e2:=hld (row a) (by rw [b8]; omega)
  rw [Bf] at e2;have e3:=hinv p (rep a.ld) (by omega) (by omega) hr.1 hr.2
  have e4:=hs p (inv p (rep a.ld)) a (by omega) (by omega) (by omega)
  rw [ur _ (Pol.ld_ne ha)] at e4;have hd2:(a.len:Int)-1=n:=by omega
  refine ⟨mon a,nv ha,by rw [y9 ha,hd],(tr ha).2 (.refl a),bj hT rfl ?_⟩
  simp -implicitDefEqProofs [Z1l,Z1l_B,af,e1,e2,e3,e4,hd2,mon]
 ·have hd2:¬ (a.len:Int)-1=n:=by omega
  have hb:=o4 (p:=p) hn;have hpos:=lc (p:=p) n;have e2:=hno p n 1099511627776 (by omega) (by omega)
  rw [y0 n 1 (by omega) (by omega),gt] at e2
  have hq:=oh hn q1 q2;obtain ⟨b,b1,b2,b3,e⟩:=S7 hnu hr hal hn (2*p^n-p^n).toNat (p^n) (rg _) (by omega) (ap _) ⟨dg q,hq.1,hq.2,by rw [Cv hn q1 q2]; exact q3⟩
  refine ⟨b,b1,b2,b3,bj hT rfl ?_⟩;simp -implicitDefEqProofs [Z1l,Z1l_B,af,e1,e2,hd2,e]
end Pe

namespace Pe
open Go Gq
variable {T:Nat→Option Fn} {A:ac}
section
variable {p:Int} [IsP p]
theorem Pf:row (Pol.X:Fp p)=[0,1]:=by
 unfold row;rw [Pol.len_X];show [rep ((Pol.X:Fp p).c 0),rep ((Pol.X:Fp p).c 1)]=[0,1];have e0:(Pol.X:Fp p).c 0=0:=rfl;have e1:(Pol.X:Fp p).c 1=1:=rfl;rw [e0,e1,mh,rep_one]
theorem Irr.assoc {q b:Fp p} (hq:Irr q) (hb:Irr b) (h:Dv q b):Dv b q:=by
 obtain ⟨c,hc⟩:=h;have hc0:c≠0:=fun h0=>hb.ne (by rw [hc,h0,Gq.mul_zero])
 have l:=Pol.len_mul hq.ne hc0;rw [←hc] at l;have h1:=hq.len;rcases hb.dv ⟨c,hc⟩ with h2 | h2
 ·omega
 ·obtain ⟨k,hk,rfl⟩:=jv (show c.len=1 by omega)
  rw [hc,Gq.mul_comm];exact (Dv.Cmul hk).2 (.refl q)
structure FInv (a0:Fp p) (n:Nat) (a:Fp p) (out:iq p):Prop where
 ne:a≠0
 eq:a0=a*i8 out
 ok:FacOk out
 nd:∀x∈out,¬ Dv x.1 a
 ns:ve n a
 ln:out.length+a.len≤13
structure JInv (a0:Fp p) (n:Nat) (a:Fp p) (out:iq p) (all:Fp p):Prop where
 f:FInv a0 n a out
 ne:all≠0
 ln:all.len≤13
 one:∀q,Irr q→Dv q all→q.len=n+1∧Dv q a
 two:∀q,Irr q→q.len=n+1→Dv q a→Dv q all
end
section
variable {p:Int}
theorem sy (L:iq p) (x:Fp p×Nat):i8 (L++[x])=i8 L*pw x.1 x.2:=by
 induction L with
 | nil=>show pw x.1 x.2*1=1*pw x.1 x.2; rw [Gq.mul_one,Gq.one_mul]
 | cons y L ih=>rw [f6,nm,nm,ih,Gq.mul_assoc]
end
section
variable {p:Int} [IsP p]
theorem FacOk.snoc {L:iq p} (h:FacOk L) {q:Fp p} {k:Nat} (hi:Irr q) (hm:Monic q) (hk:1≤k) (hd:∀x∈L,x.1≠q):FacOk (L++[(q,k)]):=by
 refine ⟨fun x hx=>?_,?_⟩
 ·rcases au.1 hx with hx | hx
  ·exact h.irr x hx
  ·simp at hx; subst hx; exact ⟨hi,hm,hk⟩
 ·rw [fc]
  refine ⟨h.dis,dy _ _,fun x hx y hy=>?_⟩
  simp at hy; subst hy; exact hd x hx
theorem JInv.irr {a0 a:Fp p} {n:Nat} {out:iq p} {all b:Fp p} (h:JInv a0 n a out all) (hn:1≤n) (hb:b.len=n+1) (hd:Dv b all):Irr b:=by
 have hb0:b≠0:=fun h0=>by rw [h0,Pol.len_zero] at hb; omega
 refine Irr.of_dv (by omega) fun u hu=>?_
 have hul:=hu.len hb0
 have hu0:u≠0:=fun h0=>by
  obtain ⟨c,hc⟩:=hu;exact hb0 (by rw [hc,h0,Gq.zero_mul])
 have hup:=Pol.len_pos hu0
 by_cases h1:u.len=1
 ·exact .inl h1
 ·right
  obtain ⟨r,r1,_,r2⟩:=yz u.len u (ap _) (by omega)
  have h2:=(h.one r r1 ((r2.trans hu).trans hd)).1;have h3:=r2.len hu0;omega
theorem JInv.step {a0 a:Fp p} {n:Nat} {out:iq p} {all b:Fp p} (h:JInv a0 n a out all) (hn:1≤n) (hm:Monic b) (hb:b.len=n+1) (hd:Dv b all)
 {k k':Nat} {r r':Fp p} (h1:a=r*pw b k) (h2:¬ Dv b r) (h3:all=r'*pw b k') (h4:¬ Dv b r'):JInv a0 n r (out++[(b,k)]) r'∧r'.len<all.len∧1≤k:=by
 have hi:=h.irr hn hb hd;have hda:=(h.one b hi hd).2
 have hk:1≤k:=by
  cases k with
  | zero=>exact absurd (by rw [h1,pw,Gq.mul_one] at hda; exact hda) h2
  | succ k=>omega
 have hk':1≤k':=by
  cases k' with
  | zero=>exact absurd (by rw [h3,pw,Gq.mul_one] at hd; exact hd) h4
  | succ k=>omega
 have hr0:r≠0:=fun h0=>h.f.ne (by rw [h1,h0,Gq.zero_mul])
 have hr0':r'≠0:=fun h0=>h.ne (by rw [h3,h0,Gq.zero_mul])
 have shrink:∀(a r:Fp p) (k:Nat),r≠0→1≤k→a=r*pw b k→r.len<a.len:=by
  intro a r k hr hk e;obtain ⟨j,rfl⟩:∃j,k=j+1:=⟨k-1,by omega⟩
  have hj:=Bu hi.ne j;have l1:=Pol.len_mul hj hi.ne;have l2:=Pol.len_mul hr (Pol.mul_ne hj hi.ne);have l3:=Pol.len_pos hj;rw [e,pw]; omega
 have s1:=shrink a r k hr0 hk h1;have s2:=shrink all r' k' hr0' hk' h3;have dr:∀q,Dv q r→Dv q a:=fun q hq=>by rw [h1]; exact hq.mul_right _
 have pd:∀q,Irr q→∀m,Dv q (pw b m)→Dv b q:=fun q hq m hq2=>Irr.assoc hq hi (Irr.pw_dv hq m hq2)
 refine ⟨⟨⟨hr0,?_,h.f.ok.snoc hi hm hk fun x hx e=>h.f.nd x hx (e▸hda),?_,Lv h.f.ns ⟨pw b k,h1⟩,?_⟩,hr0',by have:=h.ln; omega,?_,?_⟩,s2,hk⟩
 ·rw [h.f.eq,sy]
  conv=>lhs; rw [h1]
  exact ba [r,pw b k,i8 out] rfl
 ·intro x hx
  rcases au.1 hx with hx | hx
  ·exact fun hq=>h.f.nd x hx (dr _ hq)
  ·simp at hx; subst hx; exact h2
 ·have:=h.f.ln
  simp; omega
 ·intro q hq hqr
  have hqa:Dv q all:=by rw [h3]; exact hqr.mul_right _
  obtain ⟨g1,g2⟩:=h.one q hq hqa;refine ⟨g1,?_⟩;rw [h1] at g2;rcases hq.prime g2 with g | g
  ·exact g
  ·exact absurd ((pd q hq k g).trans hqr) h4
 ·intro q hq hql hqr
  have:=h.two q hq hql (dr q hqr);rw [h3] at this;rcases hq.prime this with g | g
  ·exact g
  ·exact absurd ((pd q hq k' g).trans hqr) h2
theorem JInv.done {a0 a:Fp p} {n:Nat} {out:iq p} {all:Fp p} (h:JInv a0 n a out all) (hl:all.len<2):FInv a0 (n+1) a out:=by
 refine ⟨h.f.ne,h.f.eq,h.f.ok,h.f.nd,fun q hq hd=>?_,h.f.ln⟩
 have h1:=h.f.ns q hq hd;apply bv;intro hx;have h2:=(h.two q hq (by omega) hd).len h.ne
 have:=hq.len;omega
theorem JInv.init {a0 a:Fp p} {n:Nat} {out:iq p} (h:FInv a0 n a out) (hn:1≤n) (hn2:n≤12) {fr:Fp p} (hf:fr%a=pw Pol.X (p.toNat^n)%a):JInv a0 n a out (Pol.gcd (fr-Pol.X) a):=by
 have h0:fr-Pol.X≠0∨a≠0:=.inr h.ne;have hm:=Pol.gcd_monic h0;have hd2:=Pol.gcd_dv_right h0
 have key:∀q,Dv q a→(Dv q (fr-Pol.X)↔Dv q (frT p n)):=by
  intro q hq
  have e:Dv q (fr-pw Pol.X (p.toNat^n)):=by
   refine hq.trans ?_;rw [i7,Quo.mk_sub];rw [(Pol.mod_eq_iff h.ne).1 hf,sub_self]
  unfold frT;constructor
  ·intro g
   have:pw Pol.X (p.toNat^n)-Pol.X=(fr-Pol.X)-(fr-pw Pol.X (p.toNat^n)):=ba [pw Pol.X (p.toNat^n),Pol.X,fr] rfl;rw [this]; exact g.sub e
  ·intro g
   have:fr-Pol.X=(pw Pol.X (p.toNat^n)-Pol.X)+(fr-pw Pol.X (p.toNat^n)):=ba [pw Pol.X (p.toNat^n),Pol.X,fr] rfl;rw [this]; exact g.add e
 have hl:=hd2.len h.ne;have hl2:=h.ln;refine ⟨h,hm.2,by omega,fun q hq hd=>?_,fun q hq hql hqa=>?_⟩
 ·have g1:=hd.trans hd2
  have g2:=(key q g1).1 (hd.trans (Pol.gcd_dv_left h0));have g3:=h.ns q hq g1;have g4:=g1.len h.ne;have g5:=Bp hq (d:=q.len-1) (k:=n) (by have:=hq.len; omega) (by have:=o4 (p:=p) (n:=q.len-1) (by omega); omega) hn g2
  exact ⟨by omega,g1⟩
 ·have g2:=O3 hq hql (by have:=o4 (p:=p) hn2; omega)
  exact Pol.dv_gcd h0 ((key q hqa).2 g2) hqa
noncomputable abbrev kj (x:Fp p×Nat):D:=.st [.leaf,.leaf] [(D.sl .leaf (ae .i64 (row x.1))),(D.int .i64 x.2)]
theorem Sz {O:ac} (hw:mi O) (hst:yi O) (hdg:lh O) {a0:Fp p} {n:Nat} (hn:1≤n) (hn2:n≤12):∀(m:Nat) (a:Fp p) (out:iq p) (all:Fp p) (cp:Option Nat),all.len≤m→JInv a0 n a out all→∃(a':Fp p) (out':iq p) (all':List Int) (cp':Option Nat),FInv a0 (n+1) a' out'∧a'.len≤a.len ∧
 dn O 0 (.loop Z17_L1) ⟨[(0,(.d (.int .i64 p))),(1,(.d (.sl .leaf (ae .i64 (row a))))),(5,.sl 0 [] 0 out.length cp),(6,(.d (.int .i64 n))),(8,(.d (.sl .leaf (ae .i64 (row all)))))],[.sl false i4 (out.map kj),.hole,.hole,.hole,.hole]⟩ =
  some (.exit 4,⟨[(0,(.d (.int .i64 p))),(1,(.d (.sl .leaf (ae .i64 (row a'))))),(5,.sl 0 [] 0 out'.length cp'),(6,(.d (.int .i64 n))),(8,(.d (.sl .leaf (ae .i64 all')))),(52,(.d (.bool false)))],[.sl false i4 (out'.map kj),.hole,.hole,.hole,.hole]⟩)
 | m,a,out,all,cp,hm,h=>by
  have hln:=h.ln;have hp:=Pol.len_pos h.ne;have e1:=hdg (row all) (by rw [b8]; omega)
  rw [b8] at e1
  by_cases hl:all.len<2
  ·refine ⟨a,out,row all,cp,h.done hl,ap _,bi ?_⟩
   have h1:¬ (1:Int)<(all.len:Int):=by omega
   simp -implicitDefEqProofs [Z17_L1,af,e1,h1]
  ·have hlo:=h.f.ln
   obtain ⟨q,q1,q2,q3⟩:=yz all.len all (ap _) (by omega)
   obtain ⟨b,b1,b2,b3,e2⟩:=hw p all n hn hn2 (by omega) h.ne ⟨q,q2,(h.one q q1 q3).1,q3⟩
   obtain ⟨k,r,g1,g2,e3⟩:=hst p a b h.f.ne (by omega) (by omega) (by omega)
   obtain ⟨k',r',g3,g4,e4⟩:=hst p all b h.ne (by omega) (by omega) (by omega)
   obtain ⟨hJ,hlt,hk⟩:=h.step hn b1 b2 b3 g1 g2 g3 g4;cases m with
   | zero=>omega
   | succ m=>
    obtain ⟨a',out',all',cp',i1,i2,e⟩:=Sz hw hst hdg hn hn2 m r (out++[(b,k)]) r' none (by omega) hJ
    have hra:r.len≤a.len:=(show Dv r a from ⟨_,g1⟩).len h.f.ne;refine ⟨a',out',all',cp',i1,by omega,bh ?_ e⟩
    have h1:(1:Int)<(all.len:Int):=by omega
    have h8:(out.length+1)*32≤1099511627776:=by omega
    have ht:(out.map kj).take out.length=out.map kj:=az (by simp)
    have hL:(out.map kj).length=out.length:=by simp
    have o1:(out++[(b,k)]).map kj=out.map kj++[kj (b,k)]:=by simp
    have o2:(out++[(b,k)]).length=out.length+1:=by simp
    rw [o1,o2];generalize out.map kj=LD at *;simp -implicitDefEqProofs [Z17_L1,af,e1,e2,e3,e4,h1,h8,ht,hL,List.replicate]
theorem Uu {O:ac} (hpw:y8 O) {a:Fp p} (ha:a≠0) (hal:a.len≤13) {n:Nat} (hn2:n≤1000) {st:V} {hp:Heap} (hst:st.refs=[0]) (hhp:∃b,hp=[b,.hole,.hole,.hole,.hole]):∀(m i:Nat) (fr:Fp p),i+m=n→fr.len≤13→∃fr':Fp p,fr'.len≤13∧fr'%a=pw fr (p.toNat^m)%a ∧
 dn O 0 (.loop Z17_L0) ⟨[(0,(.d (.int .i64 p))),(1,(.d (.sl .leaf (ae .i64 (row a))))),(5,st),(6,(.d (.int .i64 n))),(7,(.d (.sl .leaf (ae .i64 (row fr))))),(34,(.d (.int .i64 n))),(35,(.d (.int .i64 i)))],hp⟩ =
  some (.exit 2,⟨[(0,(.d (.int .i64 p))),(1,(.d (.sl .leaf (ae .i64 (row a))))),(5,st),(6,(.d (.int .i64 n))),(7,(.d (.sl .leaf (ae .i64 (row fr'))))),(34,(.d (.int .i64 n))),(35,(.d (.int .i64 n))),(36,(.d (.bool false)))],hp⟩)
 | 0,i,fr,hi,hf=>by
  obtain ⟨b,rfl⟩:=hhp;obtain rfl:i=n:=by omega
  refine ⟨fr,hf,by rw [je,x8],bi ?_⟩
  simp -implicitDefEqProofs [Z17_L0,af,hst]
 | m+1,i,fr,hi,hf=>by
  have hP:=IsP.pos (p:=p);have hP7:=IsP.le (p:=p);have e:=hpw p fr p a ha (by omega) (by omega) (by omega) (by omega)
  have hl:=Pol.len_mod (pw fr p.toNat) ha;obtain ⟨fr',g1,g2,g3⟩:=Uu (O:=O) hpw ha hal hn2 hst hhp m (i+1) (pw fr p.toNat%a) (by omega) (by omega)
  obtain ⟨b,rfl⟩:=hhp;have h1:i<n:=by omega
  have w1:IntKind.i64.wrap ((i:Int)+1)=((i+1:Nat):Int):=(w64 (x:=(i:Int)+1) (by omega)).trans (by omega)
  refine ⟨fr',g1,?_,bh ?_ g3⟩
  ·rw [g2,Pol.pow_mod _ ha,n5,df,dm]
  ·simp -implicitDefEqProofs [Z17_L0,af,e,h1,w1,hst]
structure FEnd (a0:Fp p) (out:iq p):Prop where
 ok:FacOk out
 eq:∃c:Zp p,c≠0∧a0=Pol.C c*i8 out
 ln:out.length≤12
theorem Uz {O:ac} (hw:mi O) (hst:yi O) (hdg:lh O) (hpw:y8 O) (hlet:rp O) (hc:ni O) (hg:Ij O) (hld:ug O) (hinv:n8 O) (hs:vw O) {a0:Fp p}:∀(m n:Nat) (a:Fp p) (out:iq p) (cp:Option Nat),1≤n→n+m=15→FInv a0 n a out→∃(out':iq p) (cp':Option Nat) (e:Env),FEnd a0 out'∧((∃x y,e=[(0,(.d (.int .i64 p))),(1,(.d (.sl .leaf (ae .i64 x)))),(5,.sl 0 [] 0 out'.length cp'),(6,(.d (.int .i64 y))),(14,(.d (.bool false)))])∨e=[(5,.sl 0 [] 0 out'.length cp')]) ∧
 dn O 0 (.loop Z17_L2) ⟨[(0,(.d (.int .i64 p))),(1,(.d (.sl .leaf (ae .i64 (row a))))),(5,.sl 0 [] 0 out.length cp),(6,(.d (.int .i64 n)))],[.sl false i4 (out.map kj),.hole,.hole,.hole,.hole]⟩ =
  some (.exit 0,⟨e,[.sl false i4 (out'.map kj),.hole,.hole,.hole,.hole]⟩)
 | m,n,a,out,cp,hn,hm,h=>by
  have hp:=IsP.ge (p:=p);have hp7:=IsP.le (p:=p);have hln:=h.ln;have ha:=Pol.len_pos h.ne;have e1:=hdg (row a) (by rw [b8]; omega)
  rw [b8] at e1
  by_cases hl:a.len=1
  ·have h1:¬ (1:Int)<(a.len:Int):=by omega
   obtain ⟨c,hc0,rfl⟩:=jv hl;refine ⟨out,cp,_,⟨h.ok,⟨c,hc0,h.eq⟩,by omega⟩,.inl ⟨row (Pol.C c),n,rfl⟩,bi ?_⟩
   simp -implicitDefEqProofs [Z17_L2,af,e1,h1]
  ·have h1:(1:Int)<(a.len:Int):=by omega
   have w1:IntKind.i64.wrap (2*(n:Int))=2*(n:Int):=w64 (by omega)
   have h8:(out.length+1)*32≤1099511627776:=by omega
   have ht:(out.map kj).take out.length=out.map kj:=az (by simp)
   have hL:(out.map kj).length=out.length:=by simp
   by_cases h2:(a.len:Int)-1<2*(n:Int)
   ·have hi:=tn h.ns (by omega) (by omega)
    have hr:=gw a.ld;have hin:=xj p (rep a.ld);have e2:=hld (row a) (by rw [b8]; omega)
    rw [Bf] at e2;have e3:=hinv p (rep a.ld) (by omega) (by omega) hr.1 hr.2
    have e4:=hs p (inv p (rep a.ld)) a (by omega) (by omega) (by omega)
    rw [ur _ (Pol.ld_ne h.ne)] at e4;have e4':ask O F1i [(D.int .i64 p),(D.sl .leaf (ae .i64 (row a))),(D.int .i64 (inv p (rep a.ld)))]=some (D.sl .leaf (ae .i64 (row (mon a)))):=e4;have o1:(out++[(mon a,1)]).map kj=out.map kj++[kj (mon a,1)]:=by simp
    have o2:(out++[(mon a,1)]).length=out.length+1:=by simp
    refine ⟨out++[(mon a,1)],none,_,⟨h.ok.snoc hi.mon (nv h.ne) (ap 1) fun x hx e=>h.nd x hx (by rw [e,tr h.ne]; exact .refl a),⟨a.ld,Pol.ld_ne h.ne,?_⟩,by rw [o2]; omega⟩,.inr rfl,bi ?_⟩
    ·rw [sy]
     show a0=Pol.C a.ld*(i8 out*pw (mon a) 1);rw [x8,h.eq]
     conv=>lhs; rw [Sa h.ne]
     exact ba [Pol.C a.ld,mon a,i8 out] rfl
    ·rw [o1,o2]
     generalize out.map kj=LD at *;simp -implicitDefEqProofs [Z17_L2,af,e1,h1,h2,w1,e2,e3,e4',h8,ht,hL,List.replicate]
   ·cases m with
    | zero=>omega
    | succ m=>
     have hl2:(Pol.X:Fp p).len≤13:=by rw [Pol.len_X]; omega
     obtain ⟨fr,g1,g2,g3⟩:=Uu (O:=O) hpw h.ne (by omega) (n:=n) (by omega) (st:=.sl 0 [] 0 out.length cp) (hp:=[.sl false i4 (out.map kj),.hole,.hole,.hole,.hole]) (by simp [V.refs]) ⟨_,rfl⟩ n 0 Pol.X (b9 _) hl2
     have hJ:=JInv.init h hn (by omega) g2
     have hlj:=hJ.ln;obtain ⟨a',out',all',cp',i1,i2,i3⟩:=Sz (O:=O) hw hst hdg hn (by omega) (Pol.gcd (fr-Pol.X) a).len a out _ cp (ap _) hJ
     obtain ⟨out2,cp2,e,j1,j2,j3⟩:=Uz hw hst hdg hpw hlet hc hg hld hinv hs m (n+1) a' out' cp' (by omega) (by omega) i1
     have e2:ask O F11 []=some (D.sl .leaf (ae .i64 (row (Pol.X:Fp p)))):=by rw [Pf]; exact hlet
     have e3:=hc p fr Pol.X (by omega) (by omega)
     have hsl:=Pol.len_sub_le (a:=fr) (b:=Pol.X) (n:=13) g1 hl2;have e4:=hg p (fr-Pol.X) a (.inr h.ne) (by omega) (by omega)
     have w2:IntKind.i64.wrap ((n:Int)+1)=((n+1:Nat):Int):=(w64 (x:=(n:Int)+1) (by omega)).trans (by omega)
     have e0:((0:Nat):Int)=0:=rfl;rw [e0] at g3;refine ⟨out2,cp2,e,j1,j2,bh ?_ j3⟩;generalize out.map kj=LD at *;simp -implicitDefEqProofs [Z17_L2,af,e1,h1,h2,w1,w2,e2,e3,e4,g3,i3]
end
theorem Jm {α β:Type} (f:α→β) {m ds:List β} (h:m.Perm ds):∀l:List α,l.map f=m→∃l':List α,l'.Perm l∧l'.map f=ds:=by
 induction h with
 | nil=>intro l hl; exact ⟨[],by simp at hl; subst hl; exact .refl _,rfl⟩
 | cons x h ih=>
  intro l hl;cases l with
  | nil=>simp at hl
  | cons y l=>
   simp at hl;obtain ⟨l',p,e⟩:=ih l hl.2;exact ⟨y::l',p.cons y,by simp [e,hl.1]⟩
 | swap x y s=>
  intro l hl;cases l with
  | nil=>simp at hl
  | cons a l=>
   cases l with
   | nil=>simp at hl
   | cons b l=>
    simp at hl;exact ⟨b::a::l,List.Perm.swap a b l,by simp [hl]⟩
 | trans _ _ ih1 ih2=>
  intro l hl;obtain ⟨l',p,e⟩:=ih1 l hl;obtain ⟨l'',p2,e2⟩:=ih2 l' e;exact ⟨l'',p2.trans p,e2⟩
section
variable {p:Int} [IsP p]
theorem Yr:∀(n:Nat) {l m:List Int},Can p l→Can p m→l.length=n→m.length=n→zk l m n=kw (vl p l) (vl p m):=by
 have hp:=IsP.pos (p:=p)
 -- the value of the first coefficients
 have key:∀(k:Nat) (l:List Int),Can p l→k≤l.length→vl p (l.take k)+(if k<l.length then p^k*cf l k else 0)=vl p (l.take (k+1))∧0≤vl p (l.take k)∧vl p (l.take k)<p^k:=by
  intro k l hl hk;have hin:=Pn (p:=p) (l:=l.take k) fun x hx=>hl x (List.mem_of_mem_take hx)
  rw [b6,Nat.min_eq_left hk] at hin;refine ⟨?_,hin⟩
  have app:∀(a b:List Int),vl p (a++b)=vl p a+p^a.length*vl p b:=by
   intro a
   induction a with
   | nil=>intro b; simp [vl]
   | cons x a ih=>
    intro b;rw [f6,vl,ih,vl,bf,c9,ka,f8 (p^a.length) p,rm,Int.add_assoc]
  by_cases hlt:k<l.length
  ·rw [if_pos hlt,←wk hlt,app,b6,Nat.min_eq_left hk,da hlt]
   simp [vl]
  ·rw [if_neg hlt,az (by omega),az (by omega),Int.add_zero]
 intro n l m hl hm hln hmn
 have main:∀k,k≤n→zk l m k=kw (vl p (l.take k)) (vl p (m.take k)):=by
  intro k
  induction k with
  | zero=>intro _; simp [zk,kw,vl]
  | succ k ih=>
   intro hk;obtain ⟨a1,a2,a3⟩:=key k l hl (by omega)
   obtain ⟨b1,b2,b3⟩:=key k m hm (by omega)
   rw [if_pos (by omega)] at a1 b1
   rw [←a1,←b1,zk,ih (by omega)]
   have hpk:=lc (p:=p) k;generalize vl p (l.take k)=u at *;generalize vl p (m.take k)=v at *;generalize cf l k=c at *;generalize cf m k=d at *
   have mono:∀x y:Int,x<y→p^k*x+p^k≤p^k*y:=fun x y h=>by
    have:=b4 (show x+1≤y by omega) (Int.le_of_lt hpk)
    rwa [ka,gv] at this
   rcases Int.lt_trichotomy c d with h | h | h
   ·have:=mono c d h
    have e:kw c d=-1:=if_pos h;rw [e,if_pos (by omega)]
    exact (if_pos (by omega)).symm
   ·subst h
    have e:kw c c=0:=by unfold kw; rw [if_neg (by omega),if_neg (by omega)]
    rw [e,if_neg (fun h=>h rfl)]
    unfold kw
    by_cases h1:u<v
    ·rw [if_pos h1,if_pos (by omega)]
    ·rw [if_neg h1]
     by_cases h2:v<u
     ·rw [if_pos h2,if_neg (by omega),if_pos (by omega)]
     ·rw [if_neg h2,if_neg (by omega),if_neg (by omega)]
   ·have:=mono d c h
    have e:kw c d=1:=by unfold kw; rw [if_neg (by omega),if_pos h]
    rw [e,if_pos (by omega)]
    unfold kw;rw [if_neg (by omega),if_pos (by omega)]
 have:=main n (ap n)
 rwa [az (by omega),az (by omega)] at this
theorem Rt (a b:Fp p):Wx (row a) (row b)=kw (dg a) (dg b):=by
 unfold Wx;rw [b8,b8];rcases fj a.len b.len with h | h | h
 ·have:=pn h
  have e:kw (a.len:Int) b.len=-1:=if_pos (by omega)
  rw [e,if_pos (by omega)]
  exact (if_pos this).symm
 ·have e:kw (a.len:Int) b.len=0:=by unfold kw; rw [if_neg (by omega),if_neg (by omega)]
  rw [e,if_neg (fun h=>h rfl)]
  exact Yr a.len (fu a) (fu b) (b8 a) (by rw [b8,h])
 ·have:=pn h
  have e:kw (a.len:Int) b.len=1:=by unfold kw; rw [if_neg (by omega),if_pos (by omega)]
  rw [e,if_pos (by omega)]
  unfold kw;rw [if_neg (by omega),if_pos this]
end
def a36 (p:Int):D→Int
 | .st _ (.sl _ cs::_)=>vl p (cs.map D.num)
 | _=>0
theorem yl {p:Int} (x:Fp p×Nat):a36 p (kj x)=vl p (row x.1):=by
 show vl p ((ae .i64 (row x.1)).map D.num)=_;unfold ae;rw [List.map_map];have:(D.num ∘ D.int .i64)=id:=rfl;rw [this,List.map_id]
theorem Wh {p:Int} [IsP p] (hT:T F18=some Z18) (hc:vo (den T A)) {L:iq p} (hl:∀x∈L,x.1.len≤1000):CmpOk (den T A) F18 [] [] (a36 p) i4 (L.map kj):=by
 refine ⟨fun x hx=>by simp at hx,fun x hx=>by simp at hx,fun x hx=>?_,fun x hx=>?_,fun x hx y hy=>?_⟩
 ·obtain ⟨a,_,rfl⟩:=cd.1 hx; rfl
 ·obtain ⟨a,_,rfl⟩:=cd.1 hx; rfl
 ·obtain ⟨a,ha,rfl⟩:=cd.1 hx
  obtain ⟨b,hb,rfl⟩:=cd.1 hy;have h1:=hl a ha;have h2:=hl b hb;have e:=hc (row a.1) (row b.1) (by rw [b8]; omega) (by rw [b8]; omega)
  rw [Rt] at e;have n1:=yl a;have n2:=yl b;rw [n1,n2];refine bj hT rfl ?_;simp -implicitDefEqProofs [Z18,Z18_B,e,dg]
def yv (O:ac):Prop:=∀(p:Int) [IsP p] (a:Fp p),a≠0→a.len≤13→∃L:iq p,IsFac a L∧L.length≤12 ∧
 ask O F17 [(D.int .i64 p),(D.sl .leaf (ae .i64 (row a)))]=some (.sl i4 (L.map kj))
theorem FacOk.perm {p:Int} [IsP p] {L L':iq p} (h:FacOk L) (hp:L'.Perm L):FacOk L':=
 ⟨fun x hx=>h.irr x (hp.subset hx),(hp.pairwise_iff (fun h e=>h e.symm)).2 h.dis⟩
theorem Nk {p:Int} {L L':iq p} (hp:L'.Perm L):i8 L'=i8 L:=Ca (hp.map _)
theorem Rl (hT:T F17=some Z17) (hT1:T F18=some Z18) (hw:mi (den T A)) (hst:yi (den T A)) (hdg:lh (den T A)) (hpw:y8 (den T A)) (hlet:rp (den T A)) (hc:ni (den T A)) (hg:Ij (den T A)) (hld:ug (den T A)) (hinv:n8 (den T A)) (hs:vw (den T A)) (hcmp:vo (den T A)) (hsort:xq (den T A)):yv (den T A):=by
 intro p i a ha hal;have h0:FInv a 1 a []:=⟨ha,(Gq.mul_one a).symm,⟨by simp,List.Pairwise.nil⟩,by simp,L2 a,by simpa using hal⟩
 obtain ⟨out,cp,e,j1,j2,j3⟩:=Uz hw hst hdg hpw hlet hc hg hld hinv hs 14 1 a [] (some 0) (ap 1) rfl h0;obtain ⟨c,hc0,hac⟩:=j1.eq;have hP:=ud j1.ok
 have hlen:∀x∈out,x.1.len≤1000:=fun x hx=>by
  have h1:Dv x.1 a:=by
   obtain ⟨r,h2,_⟩:=v5 j1.ok (show (x.1,x.2)∈out from hx);obtain ⟨k,hk⟩:∃k,x.2=k+1:=⟨x.2-1,by have:=(j1.ok.irr x hx).2.2; omega⟩
   rw [hac,h2,hk,pw];exact (((Dv.refl x.1).mul_left _).mul_right _).mul_left _
  have:=h1.len ha;omega
 obtain ⟨ds,s1,s2,s3⟩:=hsort _ _ _ _ (out.map kj) cp (by simpa using j1.ln) (Wh hT1 hcmp hlen)
 obtain ⟨L,p1,p2⟩:=Jm kj s1.symm out rfl;have ok:=j1.ok.perm p1;subst p2;have hLl:L.length=out.length:=p1.length_eq;refine ⟨L,⟨ok,?_,?_⟩,by rw [hLl]; exact j1.ln,bj hT rfl ?_⟩
 ·have s4:L.Pairwise fun x y=>dg x.1≤dg y.1:=by
   have:=s2;unfold Asc at this;rw [mz] at this;exact this.imp fun h=>by rw [yl,yl] at h; exact h
  exact (s4.and ok.dis).imp fun {x y} h=>by
   have h1:=h.1;rcases Int.lt_or_eq_of_le h1 with h2 | h2
   ·exact h2
   ·exact absurd (Ei h2) h.2
 ·have:a.ld=c:=by
   rw [hac,Pol.ld_mul (Pol.C_ne hc0) hP.2,Pol.ld_C hc0,hP.1,Gq.mul_one]
  rw [this,Nk p1]; exact hac
 ·have e0:(([]:iq p).length:Nat)=0:=rfl
  have e00:((1:Nat):Int)=1:=rfl;rw [e0,e00,List.map_nil] at j3;have hds:(L.map kj).length=out.length:=by rw [eo,hLl]
  have hol:(out.map kj).length=out.length:=by simp
  have htk:(L.map kj).take out.length=L.map kj:=az (by omega)
  rw [hol] at s3;generalize L.map kj=LD at *;generalize out.map kj=OD at *;rcases j2 with ⟨x,y,rfl⟩ | rfl
  ·simp -implicitDefEqProofs [Z17,Z17_B,j3,s3,hds,htk,List.idxOf,List.findIdx,List.findIdx.go]
  ·simp -implicitDefEqProofs [Z17,Z17_B,j3,s3,hds,htk,List.idxOf,List.findIdx,List.findIdx.go]
end Pe


namespace Pe
open Go Gq
variable {T:Nat→Option Fn} {A:ac}
open Classical in
noncomputable def fac {p:Int} [IsP p] (a:Fp p):iq p:=if h:∃L,IsFac a L then Classical.choose h else []
theorem Uw {p:Int} [IsP p] {a:Fp p} (ha:a≠0) {L:iq p} (h:IsFac a L):fac a=L:=by
 have hx:∃L,IsFac a L:=⟨L,h⟩;unfold fac;rw [dif_pos hx];exact IsFac.unique ha (c6 hx) h
def Vn (O:ac):Prop:=∀(p:Int) [IsP p] (a:Fp p),a≠0→a.len≤13→IsFac a (fac a)∧(fac a).length≤12 ∧
 ask O F17 [(D.int .i64 p),(D.sl .leaf (ae .i64 (row a)))]=some (.sl i4 ((fac a).map kj))
theorem a38 {O:ac} (h:yv O):Vn O:=fun p i a ha hl=>by
 obtain ⟨L,h1,h2,h3⟩:=h p a ha hl;rw [Uw ha h1];exact ⟨h1,h2,h3⟩
section
variable {p:Int} [IsP p]
theorem IsFac.len {m:Fp p} (hm:m≠0) {L:iq p} (h:IsFac m L) {x:Fp p×Nat} (hx:x∈L):2≤x.1.len∧x.1.len≤m.len∧x.2<m.len∧x.1≠0:=by
 obtain ⟨i1,i2,i3⟩:=h.ok.irr x hx;obtain ⟨_,_,_,h4,_⟩:=(Gw hm h.ok h.eq x.1 x.2).1 hx;have h5:=h4.len hm
 have h6:∀n,n<(pw x.1 n).len:=by
  intro n
  induction n with
  | zero=>show 0<(1:Fp p).len; rw [Pol.len_one]; omega
  | succ n ih=>
   have l:=Pol.len_mul (Bu i1.ne n) i1.ne;have:=i1.len;rw [pw]; omega
 have h7:=h6 x.2
 have h8:x.1.len≤(pw x.1 x.2).len:=by
  obtain ⟨k,hk⟩:∃k,x.2=k+1:=⟨x.2-1,by omega⟩
  rw [hk,pw];exact (show Dv x.1 (pw x.1 k*x.1) from ⟨pw x.1 k,Gq.mul_comm _ _⟩).len (Pol.mul_ne (Bu i1.ne k) i1.ne)
 exact ⟨i1.len,by omega,by omega,i1.ne⟩
end
end Pe

namespace Pe
open Go Gq
variable {T:Nat→Option Fn} {A:ac}
theorem Yz {p:Int} (h:isP p=true):IsP p:=⟨by unfold isP at h; simpa using h⟩
theorem J0 {p:Int} [h:IsP p]:isP p=true:=by unfold isP; exact decide_eq_true h.h
theorem It {p:Int} [IsP p] {a:Fp p}:md p (pad (row a))=true:=by
 unfold md;rw [dc];intro x hx;obtain ⟨i,_,rfl⟩:=cd.1 hx;have:=(fu a).le IsP.pos i
 simpa using this.2
theorem Hz {p:Int} [IsP p] {l:List Int} (hb:jz l) (hl:l.length=64) (h:md p l=true):∃a:Fp p,a.len≤64∧l=pad (row a):=by
 have hc:Can p l:=fun x hx=>⟨(hb x hx).1,by
  unfold md at h;rw [dc] at h
  simpa using h x hx⟩
 refine ⟨dj p l,ko (Pol.len_le (yn l)) (by omega),?_⟩
 rw [←k8 hc]
 symm
 apply N3 hl;intro i hi;rw [k8 hc,e9,fh,G9 (hc.le IsP.pos i)]
inductive Arg1 (p:Int) (l:List Int):Prop
 | bad (h:rr p [l]=1) (h2:isP p=true→md p l=false)
 | good (ip:IsP p) (a:Fp p) (hl:a.len≤64) (e:l=pad (row a))
theorem a77 (p:Int) {l:List Int} (hb:jz l) (hl:l.length=64):Arg1 p l:=by
 by_cases h1:isP p=true
 ·by_cases h2:md p l=true
  ·have ip:=Yz h1
   obtain ⟨a,g1,g2⟩:=Hz hb hl h2;exact .good ip a g1 g2
  ·refine .bad (by simp [rr,h2]) fun _=>by simpa using h2
 ·exact .bad (by simp [rr,h1]) fun h=>absurd h h1
theorem No {p:Int} [IsP p] (ls:List (Fp p)):rr p (ls.map fun a=>pad (row a))=0:=by
 unfold rr;rw [if_pos];refine ⟨J0,?_⟩;rw [List.all_map,dc];intro a _;exact It
theorem Dt {p:Int} [IsP p] (a:Fp p):rr p [pad (row a)]=0:=No [a]
theorem A9 {p:Int} [IsP p] (x:Zp p):rep x=1↔x=1:=⟨fun h=>P7 (by rw [h,rep_one]),fun h=>by rw [h,rep_one]⟩
theorem Qw {p:Int} [IsP p] (a:Fp p):Monic a↔a.ld=1:=⟨fun h=>h.1,fun h=>⟨h,fun h0=>by
 rw [h0] at h;have:(0:Fp p).ld=0:=rfl;rw [this] at h;exact Fd.one_ne h.symm⟩⟩
end Pe

namespace Pe
open Go Gq
variable {T:Nat→Option Fn} {A:ac}
theorem Su {p:Int} {l:List Int} {f:Fp p} (h:∀i,cf l i=rep (f.c i)):mc l l.length=f.len:=by
 have e:=congrArg List.length (ua h);rw [b8] at e;unfold trim at e;rw [b6] at e;have:=Ax l l.length;omega
theorem U8 {O:ac} {l:List Int} (hl:l.length=64):∀n:Nat,n≤64 →
 dn O 0 (.loop Z2s_L0) ⟨[(1,.ptr 0 []),(3,(.d (.int .i64 ((n:Int)-1))))],[.box false (D.arr 64 .leaf (ae .u8 l))]⟩ =
  some (.exit 0,⟨[(1,.ptr 0 []),(3,(.d (.int .i64 ((mc l n:Int)-1)))),(11,(.d (.bool false)))],[.box false (D.arr 64 .leaf (ae .u8 l))]⟩)
 | 0,_=>bi (by simp -implicitDefEqProofs [Z2s_L0,af,mc])
 | n+1,hn=>by
  have hlt:n<l.length:=by omega
  have hn64:n<64:=by omega
  have hx:l[n]=cf l n:=(da hlt).symm;have t0:(((n+1:Nat):Int)-1)=(n:Int):=by omega
  rw [t0];have w1:IntKind.i64.wrap ((n:Int)-1)=(n:Int)-1:=w64 (by omega)
  by_cases h0:cf l n=0
  ·have e:mc l (n+1)=mc l n:=by simp [mc,h0]
   rw [e];refine bh ?_ (U8 hl n (by omega))
   simp -implicitDefEqProofs [Z2s_L0,af,hlt,hn64,hx,h0,w1]
  ·have e:mc l (n+1)=n+1:=by simp [mc,h0]
   rw [e,t0];refine bi ?_;simp -implicitDefEqProofs [Z2s_L0,af,hlt,hn64,hx,h0]
def Ng (O:ac):Prop:=∀l:List Int,l.length=64→ask O F2s [(D.arr 64 .leaf (ae .u8 l))]=some (D.int .i64 ((mc l 64:Int)-1))
theorem Yk (hT:T F2s=some Z2s):Ng (den T A):=by
 intro l hl;have e:=U8 (O:=den T A) hl 64 (ap _);have e0:((64:Nat):Int)-1=63:=rfl;rw [e0] at e;refine bj hT rfl ?_;simp -implicitDefEqProofs [Z2s,Z2s_B,e]
def jo (O:ac):Prop:=∀(p:Int) [IsP p] (a:Fp p),a.len≤64→ask O F2s [(D.arr 64 .leaf (ae .u8 (pad (row a))))]=some (D.int .i64 ((a.len:Int)-1))
theorem Yy {O:ac} (h:Ng O):jo O:=fun p i a hl=>by
 have e:=Su (f:=a) (l:=pad (row a)) fun i=>by rw [uu (by rw [b8]; exact hl),e9]
 rw [bm] at e;rw [h _ (bm _),e]
def yd (O:ac):Prop:=∀p:Int,ask O F33 [(D.int .i64 p)]=some (D.bool (isP p))
theorem Sx (hT:T F33=some Z33):yd (den T A):=by
 intro p;refine bj hT rfl ?_
 by_cases h2:p=2
 ·simp -implicitDefEqProofs [Z33,Z33_B,h2,isP]
 ·by_cases h3:p=3
  ·simp -implicitDefEqProofs [Z33,Z33_B,h3,isP]
  ·by_cases h5:p=5
   ·simp -implicitDefEqProofs [Z33,Z33_B,h5,isP]
   ·simp -implicitDefEqProofs [Z33,Z33_B,h2,h3,h5,isP]
theorem Xv {O:ac} {p:Int} {l:List Int} (hb:jz l) (hl:l.length=64):∀(m i:Nat),i+m=64 →
 dn O 0 (.loop Z2x_L0) ⟨[(0,(.d (.int .i64 p))),(3,.ptr 0 []),(5,(.d (.int .i64 i)))],[.box false (D.arr 64 .leaf (ae .u8 l))]⟩ =
  if (l.drop i).all (fun x=>decide (x<p)) then some (.exit 0,⟨[(0,(.d (.int .i64 p))),(3,.ptr 0 []),(5,(.d (.int .i64 64))),(7,(.d (.bool false)))],[.box false (D.arr 64 .leaf (ae .u8 l))]⟩) else some (.ret,⟨[(4,(.d (.bool false)))],[.hole]⟩)
 | 0,i,hi=>by
  obtain rfl:i=64:=by omega
  rw [show l.drop 64=[] from List.drop_eq_nil_of_le (by omega)]
  exact bi (by simp -implicitDefEqProofs [Z2x_L0,af])
 | m+1,i,hi=>by
  have hlt:i<l.length:=by omega
  have hi64:i<64:=by omega
  have hi64':(i:Int)<64:=by omega
  have hx:l[i]=cf l i:=(da hlt).symm;have hb':=hb _ (cx hlt);rw [hx] at hb';have w1:IntKind.i64.wrap (cf l i)=cf l i:=w64 (by omega)
  have w4:IntKind.i64.wrap ((i:Int)+1)=((i+1:Nat):Int):=(w64 (x:=(i:Int)+1) (by omega)).trans (by omega)
  rw [ci hlt,List.all_cons,hx]
  by_cases h0:cf l i<p
  ·rw [decide_eq_true h0,Bool.true_and]
   refine bh ?_ (Xv hb hl m (i+1) (by omega))
   have h1:¬ p≤cf l i:=by omega
   simp -implicitDefEqProofs [Z2x_L0,af,hlt,hi64,hi64',hx,h1,w1,w4]
  ·rw [decide_eq_false h0,Bool.false_and]
   have h1:p≤cf l i:=by omega
   refine p7 ?_;simp -implicitDefEqProofs [Z2x_L0,af,hlt,hi64,hi64',hx,h1,w1]
def L3 (O:ac):Prop:=∀(p:Int) (l:List Int),jz l→l.length=64→ask O F2x [(D.int .i64 p),(D.arr 64 .leaf (ae .u8 l))]=some (D.bool (md p l&&isP p))
theorem a28 (hT:T F2x=some Z2x) (hp:yd (den T A)):L3 (den T A):=by
 intro p l hb hl;have e:=Xv (O:=den T A) (p:=p) hb hl 64 0 (by omega)
 have e0:((0:Nat):Int)=0:=rfl;rw [e0,gf,show (l.all fun x=>decide (x<p))=md p l from rfl] at e
 have e1:=hp p;refine bj hT rfl ?_
 by_cases h:md p l=true
 ·rw [if_pos h] at e
  simp -implicitDefEqProofs [Z2x,Z2x_B,e,e1,h]
 ·rw [if_neg h] at e
  simp -implicitDefEqProofs [Z2x,Z2x_B,e,h]
theorem Ph {O:ac} (hi:L3 O) {p:Int} (hp:isP p=true) {ls:List (List Int)} (h:Tj ls) (hl:ls.length<2000000):∀(m i:Nat),i+m=ls.length →
 dn O 0 (.loop Z2r_L0) ⟨[(0,(.d (.int .i64 p))),(1,.d (.sl (.arr 64 .leaf) (ls.map Gd))),(5,(.d (.int .i64 i)))],[]⟩ =
  if (ls.drop i).all (md p) then some (.exit 0,⟨[(0,(.d (.int .i64 p))),(1,.d (.sl (.arr 64 .leaf) (ls.map Gd))),(5,(.d (.int .i64 ls.length))),(12,(.d (.bool false)))],[]⟩) else some (.ret,⟨[(4,(.d (.int .i64 1)))],[]⟩)
 | 0,i,hi'=>by
  obtain rfl:i=ls.length:=by omega
  rw [nz];exact bi (by simp -implicitDefEqProofs [Z2r_L0,af])
 | m+1,i,hi'=>by
  have hlt:i<ls.length:=by omega
  have h1:=h _ (cx hlt);have e1:=hi p ls[i] h1.2 h1.1;rw [hp,Bool.and_true] at e1;have w4:IntKind.i64.wrap ((i:Int)+1)=((i+1:Nat):Int):=(w64 (x:=(i:Int)+1) (by omega)).trans (by omega)
  rw [ci hlt,List.all_cons]
  by_cases h0:md p ls[i]=true
  ·rw [h0,Bool.true_and]
   rw [h0] at e1;refine bh ?_ (Ph hi hp h hl m (i+1) (by omega))
   simp -implicitDefEqProofs [Z2r_L0,af,hlt,e1,w4]
  ·rw [Bool.not_eq_true] at h0
   rw [h0,Bool.false_and];rw [h0] at e1;refine p7 ?_;simp -implicitDefEqProofs [Z2r_L0,af,hlt,e1]
def Ho (O:ac):Prop:=∀(p:Int) (ls:List (List Int)),Tj ls→ls.length<2000000→ask O F2r [(D.int .i64 p),.sl (.arr 64 .leaf) (ls.map Gd)]=some (D.int .i64 (rr p ls))
theorem Xm (hT:T F2r=some Z2r) (hp:yd (den T A)) (hi:L3 (den T A)):Ho (den T A):=by
 intro p ls h hl;have e1:=hp p;unfold rr;refine bj hT rfl ?_
 by_cases h1:isP p=true
 ·have e:=Ph hi h1 h hl ls.length 0 (b9 _)
  have e0:((0:Nat):Int)=0:=rfl;rw [e0,gf] at e
  by_cases h2:ls.all (md p)=true
  ·rw [if_pos h2] at e
   rw [if_pos ⟨h1,h2⟩];simp -implicitDefEqProofs [Z2r,Z2r_B,af,e1,e,h1]
  ·rw [if_neg h2] at e
   rw [if_neg (fun h=>h2 h.2)]
   simp -implicitDefEqProofs [Z2r,Z2r_B,af,e1,e,h1]
 ·rw [if_neg (fun h=>h1 h.1)]
  simp -implicitDefEqProofs [Z2r,Z2r_B,af,e1,h1]
end Pe

namespace Pe
open Go Gq
variable {T:Nat→Option Fn} {A:ac}
def qb (O:ac):Prop:=∀(p:Int) [IsP p] (x:Int),0<x→x<p→ask O F2v [(D.int .i64 p),.int .u8 x]=some (.int .u8 (inv p x))
theorem f4 {F:Nat} {fn:Fn} (hT:T F=some fn) {ds:List D} {d:D} {n:Nat} (h:run (fun _ _ _=>none) n fn (ds.map .d) []=some (.d d,[],[])):ask (den T A) F ds=some d:=by
 have h2:=Gj (A:=A) hT (n:=n) (vs:=ds.map .d) (bs:=[]) (ans:=(.d d,[],[])) (by
  obtain ⟨qs,h3,h4⟩:=vb h;cases qs with
  | nil=>exact h4 _ (by intro q hq; simp at hq)
  | cons q qs=>exact absurd (h3 q (by simp)) (by simp))
 unfold ask;rw [h2];simp
theorem Lc (hT:T F2v=some Z2v):qb (den T A):=by
 intro p ip x h0 h1;rcases ip.h with rfl | rfl | rfl | rfl
 ·obtain rfl:x=1:=by omega
  exact f4 hT (n:=10) (by kernel_rfl)
 ·have:x=1∨x=2:=by omega
  rcases this with rfl | rfl
  ·exact f4 hT (n:=10) (by kernel_rfl)
  ·exact f4 hT (n:=10) (by kernel_rfl)
 ·have:x=1∨x=2∨x=3∨x=4:=by omega
  rcases this with rfl | rfl | rfl | rfl
  ·exact f4 hT (n:=10) (by kernel_rfl)
  ·exact f4 hT (n:=10) (by kernel_rfl)
  ·exact f4 hT (n:=10) (by kernel_rfl)
  ·exact f4 hT (n:=10) (by kernel_rfl)
 ·have:x=1∨x=2∨x=3∨x=4∨x=5∨x=6:=by omega
  rcases this with rfl | rfl | rfl | rfl | rfl | rfl
  ·exact f4 hT (n:=10) (by kernel_rfl)
  ·exact f4 hT (n:=10) (by kernel_rfl)
  ·exact f4 hT (n:=10) (by kernel_rfl)
  ·exact f4 hT (n:=10) (by kernel_rfl)
  ·exact f4 hT (n:=10) (by kernel_rfl)
  ·exact f4 hT (n:=10) (by kernel_rfl)
theorem Bc {p:Int} [IsP p] {l:List Int} (h:Can p l) (hl:l.length=64):l=pad (row (dj p l)):=by
 rw [←k8 h]
 symm
 apply N3 hl;intro i hi;rw [k8 h,e9,fh,G9 (h.le IsP.pos i)]
theorem oz {p:Int} [IsP p] (a:Fp p):Can p (pad (row a)):=fun x hx=>by
 obtain ⟨i,_,rfl⟩:=cd.1 hx;exact (fu a).le IsP.pos i
theorem sb {p:Int} {a:Fp p} (hl:a.len≤64):dj p (pad (row a))=a:=Pol.ext fun i=>by rw [fh,uu (by rw [b8]; exact hl),e9,g9]
theorem j0 {p:Int} {a:Fp p} (hl:a.len≤64) (i:Nat):cf (pad (row a)) i=rep (a.c i):=by rw [uu (by rw [b8]; exact hl),e9]
theorem Tt {O:ac} {p k:Int} [IsP p] {a b z:List Int} (ha:Can p a) (hb:Can p b) (hbl:b.length=64) (hk:-1000000≤k∧k≤1000000):∀(m i:Nat) (cur:List Int),i+m=64→cur.length=64→(∀j,i≤j→cf cur j=cf a j) →
 dn O 0 (.loop Z2p_L0) ⟨[(0,(.d (.int .i64 p))),(3,(.d (.int .i64 k))),(5,.ptr 0 []),(6,.ptr 1 []),(8,.ptr 2 []),(9,(.d (.int .i64 i)))],[.box false (D.arr 64 .leaf (ae .u8 cur)),.box false (D.arr 64 .leaf (ae .u8 b)),.box false (D.arr 64 .leaf (ae .u8 z))]⟩ =
  some (.exit 0,⟨[(0,(.d (.int .i64 p))),(3,(.d (.int .i64 k))),(5,.ptr 0 []),(6,.ptr 1 []),(8,.ptr 2 []),(9,(.d (.int .i64 64))),(11,(.d (.bool false)))],[.box false (D.arr 64 .leaf (ae .u8 (upd (lin p a b k) m i cur))),.box false (D.arr 64 .leaf (ae .u8 b)),.box false (D.arr 64 .leaf (ae .u8 z))]⟩)
 | 0,i,cur,hi,hc,hs=>by
  obtain rfl:i=64:=by omega
  exact bi (by simp -implicitDefEqProofs [Z2p_L0,af,upd])
 | m+1,i,cur,hi,hc,hs=>by
  have hp:=IsP.pos (p:=p);have hp7:=IsP.le (p:=p);have hp0:p≠0:=by omega
  have hlt:i<cur.length:=by omega
  have hlb:i<b.length:=by omega
  have hi64:i<64:=by omega
  have hi64':(i:Int)<64:=by omega
  have hx:cur[i]=cf a i:=by rw [←da hlt]; exact hs i (ap i)
  have hy:b[i]=cf b i:=(da hlb).symm;have ga:=ha.le hp i;have gb:=hb.le hp i;have gm:=db (x:=k) (y:=cf b i) (b:=1000000) (c:=10) hk (by omega) (by omega)
  have w1:IntKind.i64.wrap (cf a i)=cf a i:=w64 (by omega)
  have w2:IntKind.i64.wrap (cf b i)=cf b i:=w64 (by omega)
  have w3:IntKind.i64.wrap (k*cf b i)=k*cf b i:=w64 (by omega)
  have w5:IntKind.i64.wrap (cf a i+k*cf b i)=cf a i+k*cf b i:=w64 (by omega)
  have hin:=y7 (n:=cf a i+k*cf b i) hp;have w6:IntKind.i64.wrap ((cf a i+k*cf b i).tmod p+p)=(cf a i+k*cf b i).tmod p+p:=w64 (by omega)
  have w7:((cf a i+k*cf b i).tmod p+p).tmod p=lin p a b k i:=v7 hp;have hlin:0≤lin p a b k i∧lin p a b k i<p:=⟨c8 _ (by omega),bq _ hp⟩
  have w8':IntKind.u8.wrap (lin p a b k i)=lin p a b k i:=w8 (by omega)
  have w4:IntKind.i64.wrap ((i:Int)+1)=((i+1:Nat):Int):=(w64 (x:=(i:Int)+1) (by omega)).trans (by omega)
  refine bh ?_ (Tt ha hb hbl hk m (i+1) (cur.set i (lin p a b k i)) (by omega) (by simpa using hc) (fun j hj=>by rw [qj,if_neg (by omega)]; exact hs j (by omega)))
  simp -implicitDefEqProofs [Z2p_L0,af,hlt,hlb,hi64,hi64',hx,hy,w1,w2,w3,w5,w6,w7,w8',w4,hp0]
def ot (O:ac):Prop:=∀(p:Int) [IsP p] (k:Int) (a b:Fp p),-1000000≤k→k≤1000000→a.len≤64→b.len≤64 →
 ask O F2p [(D.int .i64 p),(D.arr 64 .leaf (ae .u8 (pad (row a)))),(D.arr 64 .leaf (ae .u8 (pad (row b)))),(D.int .i64 k)]=some (D.arr 64 .leaf (ae .u8 (pad (row (a+Pol.C (zp p k)*b)))))
theorem Yl (hT:T F2p=some Z2p):ot (den T A):=by
 intro p i k a b hk hk' hal hbl;have e:=Tt (O:=den T A) (z:=pad []) (oz a) (oz b) (bm _) ⟨hk,hk'⟩ 64 0 (pad (row a)) (by omega) (bm _) (fun _ _=>rfl)
 have e0:((0:Nat):Int)=0:=rfl;rw [e0,Hq _ _ _ (bm _)] at e
 have e2:(List.range 64).map (lin p (pad (row a)) (pad (row b)) k)=pad (row (a+Pol.C (zp p k)*b)):=by
  unfold pad
  congr 1
  funext j
  rw [e9,Pol.c_add,Pol.c_Cmul];show (cf (pad (row a)) j+k*cf (pad (row b)) j)%p=_;rw [j0 hal,j0 hbl,←D0,Hn,tv,g9,g9]
 rw [e2] at e;refine bj hT rfl ?_;generalize pad (row (a+Pol.C (zp p k)*b))=R at *;simp -implicitDefEqProofs [Z2p,Z2p_B,e]
def uk (O:ac):Prop:=∀(p:Int) [IsP p],ask O F31 []=some (D.arr 64 .leaf (ae .u8 (pad (row (1:Fp p)))))
theorem a0w (hT:T F31=some Z31):uk (den T A):=by
 intro p i;have e:(pad []).set 0 1=pad [1]:=by decide +kernel
 have h0:(0:Nat)<(pad []).length:=by rw [bm]; omega
 rw [vg];refine bj hT rfl ?_;simp -implicitDefEqProofs [Z31,Z31_B,e,h0]
end Pe

namespace Pe
open Go Gq
variable {T:Nat→Option Fn} {A:ac}
def Gh (p q:Int) (b:List Int) (i:Nat) (m:Nat) (cur:List Int):List Int:=if q=0 then cur else jg p q b i m 0 cur
theorem Gt {p q:Int} [IsP p] {b cur:List Int} {i m:Nat} (hc:Can p cur) (hl:i+m≤cur.length):Gh p q b i m cur=jg p q b i m 0 cur:=by
 unfold Gh
 split
 ·rename_i h
  subst h;apply kr
  ·rw [iv]
  ·intro j h1 h2
   rw [←da h1,←da h2,uy _ _ _ _ _ _ _ _ (by omega)]
   have:=hc.le IsP.pos j
   split
   ·rw [Int.zero_mul,Int.sub_zero,gu this.1 this.2]
   ·rfl
 ·rfl
theorem Ob {O:ac} {p q by_:Int} [IsP p] {b quo z z':List Int} {i bl:Nat} (hq:0<q∧q<p) (hb:Can p b) (hbl:b.length=64) (hn:i+bl≤64) (h0:0<bl):∀(m k:Nat) (cur:List Int),k+m=bl→cur.length=64→Can p cur →
 dn O 0 (.loop Z2t_L0) ⟨[(0,(.d (.int .i64 p))),(4,.ptr 0 []),(5,.ptr 1 []),(6,.ptr 2 []),(7,.ptr 3 []),(8,.ptr 4 []),(9,(.d (.int .i64 ((bl:Int)-1)))),(10,(.d (.int .i64 by_))),(11,(.d (.int .i64 ((i:Int)+bl-1)))),(12,(.d (.int .i64 q))),(13,(.d (.int .i64 k)))],[.box false (D.arr 64 .leaf (ae .u8 cur)),.box false (D.arr 64 .leaf (ae .u8 b)),.box false (D.arr 64 .leaf (ae .u8 z)),.box false (D.arr 64 .leaf (ae .u8 z')),.box false (D.arr 64 .leaf (ae .u8 quo))]⟩ =
  some (.exit 2,⟨[(0,(.d (.int .i64 p))),(4,.ptr 0 []),(5,.ptr 1 []),(6,.ptr 2 []),(7,.ptr 3 []),(8,.ptr 4 []),(9,(.d (.int .i64 ((bl:Int)-1)))),(10,(.d (.int .i64 by_))),(11,(.d (.int .i64 ((i:Int)+bl-1)))),(12,(.d (.int .i64 q))),(13,(.d (.int .i64 bl))),(50,(.d (.bool false)))],[.box false (D.arr 64 .leaf (ae .u8 (jg p q b i m k cur))),.box false (D.arr 64 .leaf (ae .u8 b)),.box false (D.arr 64 .leaf (ae .u8 z)),.box false (D.arr 64 .leaf (ae .u8 z')),.box false (D.arr 64 .leaf (ae .u8 quo))]⟩)
 | 0,k,cur,hk,hc,hcan=>by
  obtain rfl:k=bl:=by omega
  have h1:¬ (k:Int)≤(k:Int)-1:=by omega
  exact bi (by simp -implicitDefEqProofs [Z2t_L0,af,jg,h1])
 | m+1,k,cur,hk,hc,hcan=>by
  have hp:=IsP.pos (p:=p);have hp7:=IsP.le (p:=p);have hp0:p≠0:=by omega
  have hq0:q≠0:=by omega
  have h1:(k:Int)≤(bl:Int)-1:=by omega
  have w1:IntKind.i64.wrap ((i:Int)+bl-1-(bl-1))=i:=(w64 (x:=(i:Int)+bl-1-(bl-1)) (by omega)).trans (by omega)
  have w2:IntKind.i64.wrap ((i:Int)+k)=((i+k:Nat):Int):=(w64 (x:=(i:Int)+k) (by omega)).trans (by omega)
  have hik:i+k<64:=by omega
  have hikc:i+k<cur.length:=by omega
  have hkb:k<b.length:=by omega
  have hk64:k<64:=by omega
  have hx:cur[i+k]=cf cur (i+k):=(da hikc).symm;have hy:b[k]=cf b k:=(da hkb).symm;have gc:=hcan.le hp (i+k);have gb:=hb.le hp k;have gm:=db (x:=q) (y:=cf b k) (b:=10) (c:=10) (by omega) (by omega) (by omega)
  have w3:IntKind.i64.wrap (cf cur (i+k))=cf cur (i+k):=w64 (by omega)
  have w5:IntKind.i64.wrap (cf b k)=cf b k:=w64 (by omega)
  have w6:IntKind.i64.wrap (q*cf b k)=q*cf b k:=w64 (by omega)
  have w7:IntKind.i64.wrap (cf cur (i+k)-q*cf b k)=cf cur (i+k)-q*cf b k:=w64 (by omega)
  have hin:=y7 (n:=cf cur (i+k)-q*cf b k) hp;have w9:IntKind.i64.wrap ((cf cur (i+k)-q*cf b k).tmod p+p)=(cf cur (i+k)-q*cf b k).tmod p+p:=w64 (by omega)
  have w10:((cf cur (i+k)-q*cf b k).tmod p+p).tmod p=(cf cur (i+k)-q*cf b k)%p:=v7 hp;have hlin:0≤(cf cur (i+k)-q*cf b k)%p∧(cf cur (i+k)-q*cf b k)%p<p:=⟨c8 _ (by omega),bq _ hp⟩
  have w11:IntKind.u8.wrap ((cf cur (i+k)-q*cf b k)%p)=(cf cur (i+k)-q*cf b k)%p:=w8 (by omega)
  have w4:IntKind.i64.wrap ((k:Int)+1)=((k+1:Nat):Int):=(w64 (x:=(k:Int)+1) (by omega)).trans (by omega)
  have t1:(0:Int)≤(i:Int)+k:=by omega
  have t2:((i:Int)+k).toNat=i+k:=by omega
  have hcan':Can p (cur.set (i+k) ((cf cur (i+k)-q*cf b k)%p)):=by
   intro x hx;rcases dk hx with h | h
   ·exact hcan x h
   ·subst h; exact hlin
  refine bh ?_ (Ob hq hb hbl hn h0 m (k+1) (cur.set (i+k) ((cf cur (i+k)-q*cf b k)%p)) (by omega) (by simpa using hc) hcan')
  simp -implicitDefEqProofs [Z2t_L0,af,h1,hq0,w1,w2,hik,hikc,hkb,hk64,hx,hy,w3,w5,w6,w7,w9,w10,w11,w4,hp0,t1,t2]
theorem Nw {O:ac} {p by_:Int} [IsP p] {b:List Int} {bl:Nat} {z z':List Int} (hby:0≤by_∧by_<p) (hb:Can p b) (hbl:b.length=64) (h0:0<bl):∀(c:Nat) (cur quo:List Int),c+bl≤65→cur.length=64→quo.length=64→Can p cur →
 dn O 0 (.loop Z2t_L1) ⟨[(0,(.d (.int .i64 p))),(4,.ptr 0 []),(5,.ptr 1 []),(6,.ptr 2 []),(7,.ptr 3 []),(8,.ptr 4 []),(9,(.d (.int .i64 ((bl:Int)-1)))),(10,(.d (.int .i64 by_))),(11,(.d (.int .i64 ((c:Int)+bl-2))))],[.box false (D.arr 64 .leaf (ae .u8 cur)),.box false (D.arr 64 .leaf (ae .u8 b)),.box false (D.arr 64 .leaf (ae .u8 z)),.box false (D.arr 64 .leaf (ae .u8 z')),.box false (D.arr 64 .leaf (ae .u8 quo))]⟩ =
  some (.exit 0,⟨[(0,(.d (.int .i64 p))),(4,.ptr 0 []),(5,.ptr 1 []),(6,.ptr 2 []),(7,.ptr 3 []),(8,.ptr 4 []),(9,(.d (.int .i64 ((bl:Int)-1)))),(10,(.d (.int .i64 by_))),(11,(.d (.int .i64 ((bl:Int)-2)))),(27,(.d (.bool false)))],[.box false (D.arr 64 .leaf (ae .u8 ((dv p by_ (b.take bl) c (cur,quo)).1))),.box false (D.arr 64 .leaf (ae .u8 b)),.box false (D.arr 64 .leaf (ae .u8 z)),.box false (D.arr 64 .leaf (ae .u8 z')),.box false (D.arr 64 .leaf (ae .u8 ((dv p by_ (b.take bl) c (cur,quo)).2)))]⟩)
 | 0,cur,quo,_,hc,hqo,hcan=>by
  have h1:¬ (bl:Int)-1≤(bl:Int)-2:=by omega
  have t0:((0:Nat):Int)+bl-2=(bl:Int)-2:=by omega
  rw [t0];exact bi (by simp -implicitDefEqProofs [Z2t_L1,af,h1,dv])
 | c+1,cur,quo,hcb,hc,hqo,hcan=>by
  have hp:=IsP.pos (p:=p);have hp7:=IsP.le (p:=p);have hp0:p≠0:=by omega
  have hbt:(b.take bl).length=bl:=by rw [b6]; omega
  have t0:((c+1:Nat):Int)+bl-2=(c:Int)+bl-1:=by omega
  rw [t0];have h1:(bl:Int)-1≤(c:Int)+bl-1:=by omega
  have hi64:c+bl-1<64:=by omega
  have hic:c+bl-1<cur.length:=by omega
  have t1:(0:Int)≤(c:Int)+bl-1:=by omega
  have t2:((c:Int)+bl-1).toNat=c+bl-1:=by omega
  have t3:(1:Int)≤(c:Int)+bl:=by omega
  have hx:cur[c+bl-1]=cf cur (c+bl-1):=(da hic).symm;have gc:=hcan.le hp (c+bl-1);have gm:=db (x:=cf cur (c+bl-1)) (y:=by_) (b:=10) (c:=10) (by omega) (by omega) (by omega)
  have w1:IntKind.i64.wrap (cf cur (c+bl-1))=cf cur (c+bl-1):=w64 (by omega)
  have w2:IntKind.i64.wrap (cf cur (c+bl-1)*by_)=cf cur (c+bl-1)*by_:=w64 (by omega)
  have w3:(cf cur (c+bl-1)*by_).tmod p=cf cur (c+bl-1)*by_%p:=br (ce gc.1 hby.1);have hq:0≤cf cur (c+bl-1)*by_%p∧cf cur (c+bl-1)*by_%p<p:=⟨c8 _ hp0,bq _ hp⟩;have w4:IntKind.i64.wrap ((c:Int)+bl-1-(bl-1))=c:=(w64 (x:=(c:Int)+bl-1-(bl-1)) (by omega)).trans (by omega)
  have w5:IntKind.u8.wrap (cf cur (c+bl-1)*by_%p)=cf cur (c+bl-1)*by_%p:=w8 (by omega)
  have hc64:c<64:=by omega
  have hcq:c<quo.length:=by omega
  have w6:IntKind.i64.wrap ((c:Int)+bl-1-1)=(c:Int)+bl-2:=(w64 (x:=(c:Int)+bl-1-1) (by omega)).trans (by omega)
  have ed:dv p by_ (b.take bl) (c+1) (cur,quo)=dv p by_ (b.take bl) c (Gh p (cf cur (c+bl-1)*by_%p) b c bl cur,quo.set c (cf cur (c+bl-1)*by_%p)):=by
   rw [dv,hbt,Gt hcan (by omega)]
   have es:∀(m k:Nat) (x:List Int),k+m≤bl→jg p (cf cur (c+bl-1)*by_%p) (b.take bl) c m k x=jg p (cf cur (c+bl-1)*by_%p) b c m k x:=by
    intro m
    induction m with
    | zero=>intro k x _; rfl
    | succ m ih=>
     intro k x hk;have e:cf (b.take bl) k=cf b k:=by rw [da (by omega),da (by omega),my]
     rw [jg,jg,e,ih _ _ (by omega)]
   rw [es bl 0 cur (by omega)]
  rw [ed];have hcan':Can p (Gh p (cf cur (c+bl-1)*by_%p) b c bl cur):=by rw [Gt hcan (by omega)]; exact z5 hp (by omega) hcan
  have hlen':(Gh p (cf cur (c+bl-1)*by_%p) b c bl cur).length=64:=by rw [Gt hcan (by omega),iv,hc]
  have ih:=Nw (O:=O) (z:=z) (z':=z') hby hb hbl h0 c (Gh p (cf cur (c+bl-1)*by_%p) b c bl cur) (quo.set c (cf cur (c+bl-1)*by_%p)) (by omega) hlen' (by simpa using hqo) hcan'
  refine bh ?_ ih;generalize cf cur (c+bl-1)*by_%p=q at *
  have l0:∃k:Int,dn O 0 (.loop Z2t_L0) ⟨[(0,(.d (.int .i64 p))),(4,.ptr 0 []),(5,.ptr 1 []),(6,.ptr 2 []),(7,.ptr 3 []),(8,.ptr 4 []),(9,(.d (.int .i64 ((bl:Int)-1)))),(10,(.d (.int .i64 by_))),(11,(.d (.int .i64 ((c:Int)+bl-1)))),(12,(.d (.int .i64 q))),(13,(.d (.int .i64 0)))],[.box false (D.arr 64 .leaf (ae .u8 cur)),.box false (D.arr 64 .leaf (ae .u8 b)),.box false (D.arr 64 .leaf (ae .u8 z)),.box false (D.arr 64 .leaf (ae .u8 z')),.box false (D.arr 64 .leaf (ae .u8 (quo.set c q)))]⟩ =
   some (.exit 2,⟨[(0,(.d (.int .i64 p))),(4,.ptr 0 []),(5,.ptr 1 []),(6,.ptr 2 []),(7,.ptr 3 []),(8,.ptr 4 []),(9,(.d (.int .i64 ((bl:Int)-1)))),(10,(.d (.int .i64 by_))),(11,(.d (.int .i64 ((c:Int)+bl-1)))),(12,(.d (.int .i64 q))),(13,(.d (.int .i64 k))),(50,(.d (.bool false)))],[.box false (D.arr 64 .leaf (ae .u8 (Gh p q b c bl cur))),.box false (D.arr 64 .leaf (ae .u8 b)),.box false (D.arr 64 .leaf (ae .u8 z)),.box false (D.arr 64 .leaf (ae .u8 z')),.box false (D.arr 64 .leaf (ae .u8 (quo.set c q)))]⟩):=by
   by_cases hq0:q=0
   ·subst hq0
    refine ⟨0,?_⟩;have e:Gh p 0 b c bl cur=cur:=if_pos rfl;rw [e];have h2:(1:Int)≤(bl:Int):=by omega
    exact bi (by simp -implicitDefEqProofs [Z2t_L0,af,h2])
   ·refine ⟨bl,?_⟩
    have e:Gh p q b c bl cur=jg p q b c bl 0 cur:=if_neg hq0;rw [e];have:=Ob (O:=O) (by_:=by_) (quo:=quo.set c q) (z:=z) (z':=z') (i:=c) (bl:=bl) ⟨by omega,hq.2⟩ hb hbl (by omega) h0 bl 0 cur (b9 _) hc hcan
    exact this
  obtain ⟨k,l0⟩:=l0;simp -implicitDefEqProofs [Z2t_L1,af,h1,hi64,hic,t2,t3,hx,w1,w2,w3,w4,w5,w6,hc64,hcq,hp0,l0]
def na (O:ac):Prop:=∀(p:Int) [IsP p] (a b:Fp p),b≠0→a.len≤64→b.len≤64 →
 ask O F2t [(D.int .i64 p),(D.arr 64 .leaf (ae .u8 (pad (row a)))),(D.arr 64 .leaf (ae .u8 (pad (row b))))]=some (.tup [(D.arr 64 .leaf (ae .u8 (pad (row (a/b))))),(D.arr 64 .leaf (ae .u8 (pad (row (a%b)))))])
theorem Tg {p:Int} {b:Fp p} (h:b.len≤64):(pad (row b)).take b.len=row b:=by
 apply kr
 ·rw [b6,bm,b8]; omega
 ·intro i h1 h2
  rw [my,←da,j0 h,←e9,da h2]
theorem Qv (hT:T F2t=some Z2t) (hd:jo (den T A)) (hinv:qb (den T A)):na (den T A):=by
 intro p i a b hb hal hbl;have hp:=IsP.ge (p:=p);have hp7:=IsP.le (p:=p);have hb0:=Pol.len_pos hb;have e1:=hd p b hbl;have e2:=hd p a hal;have hr:=gw b.ld;have hld:rep b.ld≠0:=fun h0=>Pol.ld_ne hb (fy.1 h0)
 have e3:=hinv p (rep b.ld) (by omega) hr.2
 have hin:=xj p (rep b.ld);have w1:IntKind.i64.wrap (inv p (rep b.ld))=inv p (rep b.ld):=w64 (by omega)
 have hbx:(pad (row b))[b.len-1]? = some (rep b.ld):=by rw [qy _ _ (by omega),e9]; rfl
 have hbx':((b.len:Int)-1).toNat=b.len-1:=by omega
 have hbx2:(1:Int)≤(b.len:Int):=by omega
 have hbx3:b.len-1<64:=by omega
 have hz:∀j,cf (pad []) j=0:=fun j=>by rw [uu (by simp),jw (by simp)]
 have hcanz:Can p (pad []):=fun x hx=>by
  obtain ⟨j,_,rfl⟩:=cd.1 hx;rw [jw (by simp)]; omega
 have sp:=Hc b hb (a.len+1-b.len) (pad (row a)) (pad []) (by rw [bm]; omega) (by rw [bm]; omega) (oz a) (fun j _=>hz j) (fun j hj=>by
  rw [j0 hal,a.lt_len j (by omega),mh]) hcanz
 have hl1:∀(B:List Int) (c:Nat) (x y:List Int),(dv p (inv p (rep b.ld)) B c (x,y)).1.length=x.length∧(dv p (inv p (rep b.ld)) B c (x,y)).2.length=y.length:=by
  intro B c
  induction c with
  | zero=>exact fun x y=>⟨rfl,rfl⟩
  | succ c ih=>
   intro x y;rw [dv];obtain ⟨i1,i2⟩:=ih (jg p (cf x (c+B.length-1)*inv p (rep b.ld)%p) B c B.length 0 x) (y.set c (cf x (c+B.length-1)*inv p (rep b.ld)%p));exact ⟨by rw [i1,iv],by rw [i2,bt]⟩
 obtain ⟨g1,g2⟩:=hl1 (row b) (a.len+1-b.len) (pad (row a)) (pad []);rw [bm] at g1 g2;have l1:=Nw (O:=den T A) (b:=pad (row b)) (bl:=b.len) (z:=pad []) (z':=pad []) hin (oz b) (bm _) hb0 (a.len+1-b.len) (pad (row a)) (pad []) (by omega) (bm _) (bm _) (oz a)
 rw [Tg hbl] at l1;generalize dv p (inv p (rep b.ld)) (row b) (a.len+1-b.len) (pad (row a),pad [])=r at *;obtain ⟨s1,s2,s3,s4⟩:=sp;have z0:dj p (pad [])=0:=Pol.ext fun j=>by rw [fh,hz]; rfl
 rw [z0,Gq.zero_mul,Gq.add_zero,sb hal,Gq.add_comm] at s1
 have hrl:(dj p r.1).len<b.len:=by
  have:(dj p r.1).lt (b.len-1):=fun i hi=>by rw [fh,s2 i hi]; rfl
  have:=Pol.len_le this;omega
 obtain ⟨h1,h2⟩:=Pol.div_mod_eq s1.symm hrl;rw [h1,h2,←Bc s3 g1,←Bc s4 g2]
 have lz:∃n:Int,dn (den T A) 0 (.loop Z2t_L1) ⟨[(0,(.d (.int .i64 p))),(4,.ptr 0 []),(5,.ptr 1 []),(6,.ptr 2 []),(7,.ptr 3 []),(8,.ptr 4 []),(9,(.d (.int .i64 ((b.len:Int)-1)))),(10,(.d (.int .i64 (inv p (rep b.ld))))),(11,(.d (.int .i64 ((a.len:Int)-1))))],[.box false (D.arr 64 .leaf (ae .u8 (pad (row a)))),.box false (D.arr 64 .leaf (ae .u8 (pad (row b)))),.box false (D.arr 64 .leaf (ae .u8 (pad []))),.box false (D.arr 64 .leaf (ae .u8 (pad []))),.box false (D.arr 64 .leaf (ae .u8 (pad [])))]⟩ =
  some (.exit 0,⟨[(0,(.d (.int .i64 p))),(4,.ptr 0 []),(5,.ptr 1 []),(6,.ptr 2 []),(7,.ptr 3 []),(8,.ptr 4 []),(9,(.d (.int .i64 ((b.len:Int)-1)))),(10,(.d (.int .i64 (inv p (rep b.ld))))),(11,(.d (.int .i64 n))),(27,(.d (.bool false)))],[.box false (D.arr 64 .leaf (ae .u8 r.1)),.box false (D.arr 64 .leaf (ae .u8 (pad (row b)))),.box false (D.arr 64 .leaf (ae .u8 (pad []))),.box false (D.arr 64 .leaf (ae .u8 (pad []))),.box false (D.arr 64 .leaf (ae .u8 r.2))]⟩):=by
  by_cases hlt:b.len≤a.len
  ·rw [show ((a.len+1-b.len:Nat):Int)+b.len-2=(a.len:Int)-1 by omega] at l1
   exact ⟨_,l1⟩
  ·rw [show a.len+1-b.len=0 by omega] at l1
   have h3:¬ (b.len:Int)-1≤(b.len:Int)-2:=by omega
   have h4:¬ (b.len:Int)-1≤(a.len:Int)-1:=by omega
   have st:=bi (O:=den T A) (np:=0) (c:=Z2t_L1) (s:=⟨[(0,(.d (.int .i64 p))),(4,.ptr 0 []),(5,.ptr 1 []),(6,.ptr 2 []),(7,.ptr 3 []),(8,.ptr 4 []),(9,(.d (.int .i64 ((b.len:Int)-1)))),(10,(.d (.int .i64 (inv p (rep b.ld))))),(11,(.d (.int .i64 (((0:Nat):Int)+b.len-2))))],[.box false (D.arr 64 .leaf (ae .u8 (pad (row a)))),.box false (D.arr 64 .leaf (ae .u8 (pad (row b)))),.box false (D.arr 64 .leaf (ae .u8 (pad []))),.box false (D.arr 64 .leaf (ae .u8 (pad []))),.box false (D.arr 64 .leaf (ae .u8 (pad [])))]⟩) (s1:=⟨[(0,(.d (.int .i64 p))),(4,.ptr 0 []),(5,.ptr 1 []),(6,.ptr 2 []),(7,.ptr 3 []),(8,.ptr 4 []),(9,(.d (.int .i64 ((b.len:Int)-1)))),(10,(.d (.int .i64 (inv p (rep b.ld))))),(11,(.d (.int .i64 (((0:Nat):Int)+b.len-2)))),(27,(.d (.bool false)))],[.box false (D.arr 64 .leaf (ae .u8 (pad (row a)))),.box false (D.arr 64 .leaf (ae .u8 (pad (row b)))),.box false (D.arr 64 .leaf (ae .u8 (pad []))),.box false (D.arr 64 .leaf (ae .u8 (pad []))),.box false (D.arr 64 .leaf (ae .u8 (pad [])))]⟩) (id:=0) (by
    have h3':¬ (b.len:Int)-1≤((0:Nat):Int)+b.len-2:=by omega
    simp -implicitDefEqProofs only [Int.natCast_zero,Int.zero_add] at h3' ⊢;simp -implicitDefEqProofs [Z2t_L1,af,h3'])
   rw [st] at l1;have l2:=ao l1;injection l2 with _ l3
   injection l3 with _ l4
   injection l4 with l5 l6
   injection l6 with _ l7
   injection l7 with _ l8
   injection l8 with _ l9
   injection l9 with l10 _
   have e5:(D.arr 64 .leaf (ae .u8 (pad (row a))))=(D.arr 64 .leaf (ae .u8 r.1)):=by injection l5
   have e6:(D.arr 64 .leaf (ae .u8 (pad [])))=(D.arr 64 .leaf (ae .u8 r.2)):=by injection l10
   rw [←e5,←e6];exact ⟨(a.len:Int)-1,bi (by simp -implicitDefEqProofs [Z2t_L1,af,h4])⟩
 obtain ⟨n,lz⟩:=lz;refine bj hT rfl ?_;obtain ⟨r1,r2⟩:=r;simp only at lz ⊢;generalize pad (row a)=PA at *;generalize pad (row b)=PB at *;simp -implicitDefEqProofs [Z2t,Z2t_B,e1,e2,e3,w1,hbx,hbx',hbx2,hbx3,lz]
end Pe

namespace Pe
open Go Gq
variable {T:Nat→Option Fn} {A:ac}
def yy (O:ac):Prop:=∀(p:Int) [IsP p] (a b:Fp p),b≠0→a.len≤64→b.len≤64 →
 ask O F2y [(D.int .i64 p),(D.arr 64 .leaf (ae .u8 (pad (row a)))),(D.arr 64 .leaf (ae .u8 (pad (row b))))]=some (D.arr 64 .leaf (ae .u8 (pad (row (a%b)))))
theorem a10 (hT:T F2y=some Z2y) (hd:na (den T A)):yy (den T A):=by
 intro p i a b hb h1 h2;have e:=hd p a b hb h1 h2;refine bj hT rfl ?_;simp -implicitDefEqProofs [Z2y,Z2y_B,e]
theorem U0 (f:Nat→Int) (m i:Nat) (l:List Int) (j:Nat):cf (upd f m i l) j=if i≤j∧j<i+m∧j<l.length then f j else cf l j:=by
 unfold cf;rw [c5,c5,Ba]
 split <;> rfl
theorem Ux {O:ac} {p:Int} {a:List Int} {mm z:List Int} {n:Nat} {top:Int} (hal:a.length=64) (hn:n<64):∀(k i:Nat) (cur:List Int),i+k=n→1≤i→cur.length=64 →
 dn O 0 (.loop Z36_L0) ⟨[(0,(.d (.int .i64 p))),(4,.ptr 0 []),(5,.ptr 1 []),(6,.ptr 2 []),(7,(.d (.int .i64 n))),(8,(.d (.int .i64 top))),(9,.ptr 3 []),(10,(.d (.int .i64 i)))],[.box false (D.arr 64 .leaf (ae .u8 a)),.box false (D.arr 64 .leaf (ae .u8 mm)),.box false (D.arr 64 .leaf (ae .u8 z)),.box false (D.arr 64 .leaf (ae .u8 cur))]⟩ =
  some (.exit 0,⟨[(0,(.d (.int .i64 p))),(4,.ptr 0 []),(5,.ptr 1 []),(6,.ptr 2 []),(7,(.d (.int .i64 n))),(8,(.d (.int .i64 top))),(9,.ptr 3 []),(10,(.d (.int .i64 n))),(26,(.d (.bool false)))],[.box false (D.arr 64 .leaf (ae .u8 a)),.box false (D.arr 64 .leaf (ae .u8 mm)),.box false (D.arr 64 .leaf (ae .u8 z)),.box false (D.arr 64 .leaf (ae .u8 (upd (fun j=>cf a (j-1)) k i cur)))]⟩)
 | 0,i,cur,hi,h1,hc=>by
  obtain rfl:i=n:=by omega
  exact bi (by simp -implicitDefEqProofs [Z36_L0,af,upd])
 | k+1,i,cur,hi,h1,hc=>by
  have hlt:i<n:=by omega
  have hi1:i-1<a.length:=by omega
  have hi2:i-1<64:=by omega
  have hi64:i<64:=by omega
  have hic:i<cur.length:=by omega
  have hx:a[i-1]=cf a (i-1):=(da hi1).symm;have w1:IntKind.i64.wrap ((i:Int)-1)=((i-1:Nat):Int):=(w64 (x:=(i:Int)-1) (by omega)).trans (by omega)
  have w4:IntKind.i64.wrap ((i:Int)+1)=((i+1:Nat):Int):=(w64 (x:=(i:Int)+1) (by omega)).trans (by omega)
  refine bh ?_ (Ux hal hn k (i+1) (cur.set i (cf a (i-1))) (by omega) (by omega) (by simpa using hc))
  simp -implicitDefEqProofs [Z36_L0,af,hlt,hi1,hi2,hi64,hic,hx,w1,w4]
theorem Ub {O:ac} {p q:Int} [IsP p] {b z out:List Int} {n:Nat} {hol:Blk} (hh:hol=.hole) (hb:Can p b) (hbl:b.length=64) (hq:0≤q∧q<p) (hn:n<64) (ho:Can p out):∀(k i:Nat) (cur:List Int),i+k=n→cur.length=64→(∀j,i≤j→cf cur j=cf out j) →
 dn O 0 (.loop Z36_L1) ⟨[(0,(.d (.int .i64 p))),(5,.ptr 1 []),(6,.ptr 2 []),(7,(.d (.int .i64 n))),(9,.ptr 3 []),(11,(.d (.int .i64 q))),(12,(.d (.int .i64 i)))],[hol,.box false (D.arr 64 .leaf (ae .u8 b)),.box false (D.arr 64 .leaf (ae .u8 z)),.box false (D.arr 64 .leaf (ae .u8 cur))]⟩ =
  some (.exit 2,⟨[(0,(.d (.int .i64 p))),(5,.ptr 1 []),(6,.ptr 2 []),(7,(.d (.int .i64 n))),(9,.ptr 3 []),(11,(.d (.int .i64 q))),(12,(.d (.int .i64 n))),(47,(.d (.bool false)))],[hol,.box false (D.arr 64 .leaf (ae .u8 b)),.box false (D.arr 64 .leaf (ae .u8 z)),.box false (D.arr 64 .leaf (ae .u8 (upd (fun j=>(cf out j-q*cf b j)%p) k i cur)))]⟩)
 | 0,i,cur,hi,hc,hs=>by
  subst hh;obtain rfl:i=n:=by omega
  exact bi (by simp -implicitDefEqProofs [Z36_L1,af,upd])
 | k+1,i,cur,hi,hc,hs=>by
  have hp:=IsP.pos (p:=p);have hp7:=IsP.le (p:=p);have hp0:p≠0:=by omega
  have hlt:i<n:=by omega
  have hi64:i<64:=by omega
  have hic:i<cur.length:=by omega
  have hib:i<b.length:=by omega
  have hx:cur[i]=cf out i:=by rw [←da hic]; exact hs i (ap i)
  have hy:b[i]=cf b i:=(da hib).symm;have gc:=ho.le hp i;have gb:=hb.le hp i;have gm:=db (x:=q) (y:=cf b i) (b:=10) (c:=10) (by omega) (by omega) (by omega)
  have w3:IntKind.i64.wrap (cf out i)=cf out i:=w64 (by omega)
  have w5:IntKind.i64.wrap (cf b i)=cf b i:=w64 (by omega)
  have w6:IntKind.i64.wrap (q*cf b i)=q*cf b i:=w64 (by omega)
  have w7:IntKind.i64.wrap (cf out i-q*cf b i)=cf out i-q*cf b i:=w64 (by omega)
  have hin:=y7 (n:=cf out i-q*cf b i) hp;have w9:IntKind.i64.wrap ((cf out i-q*cf b i).tmod p+p)=(cf out i-q*cf b i).tmod p+p:=w64 (by omega)
  have w10:((cf out i-q*cf b i).tmod p+p).tmod p=(cf out i-q*cf b i)%p:=v7 hp;have hlin:0≤(cf out i-q*cf b i)%p∧(cf out i-q*cf b i)%p<p:=⟨c8 _ (by omega),bq _ hp⟩
  have w11:IntKind.u8.wrap ((cf out i-q*cf b i)%p)=(cf out i-q*cf b i)%p:=w8 (by omega)
  have w4:IntKind.i64.wrap ((i:Int)+1)=((i+1:Nat):Int):=(w64 (x:=(i:Int)+1) (by omega)).trans (by omega)
  refine bh ?_ (Ub hh hb hbl hq hn ho k (i+1) (cur.set i ((cf out i-q*cf b i)%p)) (by omega) (by simpa using hc) (fun j hj=>by rw [qj,if_neg (by omega)]; exact hs j (by omega)))
  subst hh;simp -implicitDefEqProofs [Z36_L1,af,hlt,hi64,hic,hib,hx,hy,w3,w5,w6,w7,w9,w10,w11,w4,hp0]
def P9 (O:ac):Prop:=∀(p:Int) [IsP p] (a m:Fp p),m≠0→a.len<m.len→m.len≤64 →
 ask O F36 [(D.int .i64 p),(D.arr 64 .leaf (ae .u8 (pad (row a)))),(D.arr 64 .leaf (ae .u8 (pad (row m))))]=some (D.arr 64 .leaf (ae .u8 (pad (row (Pol.X*a%m)))))
theorem a34 (hT:T F36=some Z36) (hd:jo (den T A)) (hinv:qb (den T A)):P9 (den T A):=by
 intro p i a m hm hal hml;have hp:=IsP.ge (p:=p);have hp7:=IsP.le (p:=p);have e1:=hd p m hml;refine bj hT rfl ?_
 by_cases h1:m.len=1
 ·have ha:a=0:=Pol.len_zero_iff.1 (by omega)
  subst ha;rw [Gq.mul_zero,Pol.zero_mod hm,cw];rw [h1] at e1;simp -implicitDefEqProofs [Z36,Z36_B,af,e1]
 ·have hm0:=Pol.len_pos hm
  obtain ⟨n,hn⟩:∃n,m.len=n+2:=⟨m.len-2,by omega⟩
  have e1':ask (den T A) F2s [(D.arr 64 .leaf (ae .u8 (pad (row m))))]=some (D.int .i64 ((n+1:Nat))):=by rw [e1,hn]; congr 2; omega
  have hr:=gw m.ld;have hld:rep m.ld≠0:=fun h0=>Pol.ld_ne hm (fy.1 h0)
  have e3:=hinv p (rep m.ld) (by omega) hr.2
  have hin:=xj p (rep m.ld);have hpa:a.len≤64:=by omega
  have hax:(pad (row a))[n]? = some (rep (a.c n)):=by rw [qy _ _ (by omega),e9]
  have hmx:(pad (row m))[n+1]? = some (rep m.ld):=by
   rw [qy _ _ (by omega),e9]
   unfold Pol.ld;rw [hn]; rfl
  have ha0:=gw (a.c n);have w0:IntKind.i64.wrap ((n:Int)+1-1)=(n:Int):=(w64 (x:=(n:Int)+1-1) (by omega)).trans (by omega)
  have w0':IntKind.i64.wrap (n:Int)=(n:Int):=w64 (by omega)
  have w1:IntKind.i64.wrap (rep (a.c n))=rep (a.c n):=w64 (by omega)
  have w2:IntKind.i64.wrap (inv p (rep m.ld))=inv p (rep m.ld):=w64 (by omega)
  have gm:=db (x:=rep (a.c n)) (y:=inv p (rep m.ld)) (b:=10) (c:=10) (by omega) (by omega) (by omega)
  have w3:IntKind.i64.wrap (rep (a.c n)*inv p (rep m.ld))=rep (a.c n)*inv p (rep m.ld):=w64 (by omega)
  have w4:(rep (a.c n)*inv p (rep m.ld)).tmod p=rep (a.c n)*inv p (rep m.ld)%p:=br (ce ha0.1 hin.1);have hq:0≤rep (a.c n)*inv p (rep m.ld)%p∧rep (a.c n)*inv p (rep m.ld)%p<p:=⟨c8 _ (by omega),bq _ (by omega)⟩
  have hqz:zp p (rep (a.c n)*inv p (rep m.ld)%p)=a.c n*Fd.inv m.ld:=by
   rw [sn,tv,g9,ur _ (Pol.ld_ne hm)]
  generalize rep (a.c n)*inv p (rep m.ld)%p=q at *;have l0:=Ux (O:=den T A) (p:=p) (a:=pad (row a)) (mm:=pad (row m)) (z:=pad []) (n:=n+1) (top:=rep (a.c n)) (bm _) (by omega) n 1 (pad []) (by omega) (ap 1) (bm _)
  have hz:∀j,cf (pad []) j=0:=fun j=>by rw [uu (by simp),jw (by simp)]
  have c0:∀j,cf (upd (fun j=>cf (pad (row a)) (j-1)) n 1 (pad [])) j=if 1≤j∧j<n+1 then rep (a.c (j-1)) else 0:=fun j=>by
   rw [U0,hz,bm]
   by_cases h:1≤j∧j<n+1
   ·rw [if_pos (by omega),if_pos h,j0 hpa]
   ·rw [if_neg (by omega),if_neg h]
  have hlen0:(upd (fun j=>cf (pad (row a)) (j-1)) n 1 (pad [])).length=64:=by rw [sv,bm]
  generalize upd (fun j=>cf (pad (row a)) (j-1)) n 1 (pad [])=out at *
  have hcan0:Can p out:=Can.of_cf fun j _=>by rw [c0]; split; exact gw _; omega
  have l1:=Ub (O:=den T A) (p:=p) (q:=q) (b:=pad (row m)) (z:=pad []) (out:=out) (n:=n+1) rfl (oz m) (bm _) hq (by omega) hcan0 (n+1) 0 out (by omega) hlen0 (fun _ _=>rfl)
  have hres:upd (fun j=>(cf out j-q*cf (pad (row m)) j)%p) (n+1) 0 out=pad (row (Pol.X*a%m)):=by
   have hlenR:(upd (fun j=>(cf out j-q*cf (pad (row m)) j)%p) (n+1) 0 out).length=64:=by rw [sv,hlen0]
   have hcR:∀j,cf (upd (fun j=>(cf out j-q*cf (pad (row m)) j)%p) (n+1) 0 out) j=if j<n+1 then (cf out j-q*rep (m.c j))%p else 0:=fun j=>by
    rw [U0,hlen0]
    by_cases h:j<n+1
    ·rw [if_pos (by omega),if_pos h,j0 hml]
    ·rw [if_neg (by omega),if_neg h,c0,if_neg (by omega)]
   have hcanR:Can p (upd (fun j=>(cf out j-q*cf (pad (row m)) j)%p) (n+1) 0 out):=Can.of_cf fun j _=>by
    rw [hcR]; split
    ·exact ⟨c8 _ (by omega),bq _ (by omega)⟩
    ·omega
   rw [Bc hcanR hlenR]
   congr 2
   symm
   refine (Pol.div_mod_eq (q:=Pol.C (zp p q)) ?_ ?_).2
   ·refine Pol.ext fun j=>?_
    rw [Pol.c_add,Pol.c_Cmul,Pol.c_Xmul,fh,hcR];rcases fj j (n+1) with h | h | h
    ·rw [if_pos h,sn,U9,tv,g9,c0]
     by_cases hj:j=0
     ·subst hj
      rw [if_pos rfl,if_neg (by omega),sm]
      exact ba [zp p q,m.c 0] rfl
     ·rw [if_neg hj,if_pos (by omega),g9]
      exact ba [zp p q,m.c j,a.c (j-1)] rfl
    ·subst h
     rw [if_neg (by omega),if_neg (by omega),sm,Gq.add_zero,hqz]
     have e:m.c (n+1)=m.ld:=by unfold Pol.ld; rw [hn]; rfl
     rw [e,Gq.mul_assoc,Gq.mul_comm (Fd.inv m.ld),Fd.mul_inv _ (Pol.ld_ne hm),Gq.mul_one]; rfl
    ·rw [if_neg (by omega),if_neg (by omega),sm,m.lt_len j (by omega),Gq.mul_zero,Gq.add_zero,a.lt_len (j-1) (by omega)]
   ·have:(dj p (upd (fun j=>(cf out j-q*cf (pad (row m)) j)%p) (n+1) 0 out)).lt (n+1):=fun j hj=>by
     rw [fh,hcR,if_neg (by omega)]; rfl
    have:=Pol.len_le this;omega
  rw [hres] at l1;have e0:((0:Nat):Int)=0:=rfl;have e11:((1:Nat):Int)=1:=rfl;have en:((n+1:Nat):Int)=(n:Int)+1:=by omega
  rw [e0,en] at l1;rw [e11,en] at l0;rw [en] at e1';have hp0:p≠0:=by omega
  have hn64:n<64:=by omega
  have hn65:n+1<64:=by omega
  have t1:¬ (n:Int)+1=0:=by omega
  have t2:(0:Int)≤(n:Int)+1:=by omega
  have t3:((n:Int)+1).toNat=n+1:=by omega
  generalize pad (row (Pol.X*a%m))=R at *;generalize pad (row a)=PA at *;generalize pad (row m)=PM at *;simp -implicitDefEqProofs [Z36,Z36_B,af,e1',e3,hax,hmx,w0',w1,w2,w3,w4,l0,l1,hn64,hn65,t1,t2,t3,hp0]
def n4 {p:Int} (b:Fp p) (i:Nat):Fp p:=⟨fun j=>b.c (i+j),b.len,fun j hj=>b.lt_len _ (by omega)⟩
theorem Nb {p:Int} (b:Fp p):n4 b 0=b:=Pol.ext fun j=>by show b.c (0+j)=b.c j; rw [b9]
theorem R9 {p:Int} (b:Fp p):n4 b b.len=0:=Pol.ext fun j=>b.lt_len _ (by omega)
theorem Nn {p:Int} (b:Fp p) (i:Nat):n4 b i=Pol.X*n4 b (i+1)+Pol.C (b.c i):=Pol.ext fun j=>by
 rw [Pol.c_add,Pol.c_Xmul,Pol.c_C];show b.c (i+j)=(if j=0 then 0 else b.c (i+1+(j-1)))+if j=0 then b.c i else 0
 by_cases h:j=0
 ·subst h; rw [if_pos rfl,if_pos rfl,Gq.zero_add]; rfl
 ·rw [if_neg h,if_neg h,Gq.add_zero,show i+1+(j-1)=i+j by omega]
theorem E7 {O:ac} (hu:P9 O) (ha:ot O) (hmo:yy O) {p:Int} [IsP p] {a b m:Fp p} {z:List Int} (hm:m≠0) (hml:m.len≤64) (hal:a.len≤64) (hbl:b.len≤64):∀(n:Nat),n≤b.len →
 dn O 0 (.loop Z2z_L0) ⟨[(0,(.d (.int .i64 p))),(5,.ptr 0 []),(6,.ptr 1 []),(7,.ptr 2 []),(8,.ptr 3 []),(9,.ptr 4 []),(10,(.d (.int .i64 ((n:Int)-1))))],[.box false (D.arr 64 .leaf (ae .u8 (pad (row a)))),.box false (D.arr 64 .leaf (ae .u8 (pad (row b)))),.box false (D.arr 64 .leaf (ae .u8 (pad (row m)))),.box false (D.arr 64 .leaf (ae .u8 z)),.box false (D.arr 64 .leaf (ae .u8 (pad (row (a*n4 b n%m)))))]⟩ =
  some (.exit 0,⟨[(0,(.d (.int .i64 p))),(5,.ptr 0 []),(6,.ptr 1 []),(7,.ptr 2 []),(8,.ptr 3 []),(9,.ptr 4 []),(10,(.d (.int .i64 (-1)))),(15,(.d (.bool false)))],[.box false (D.arr 64 .leaf (ae .u8 (pad (row a)))),.box false (D.arr 64 .leaf (ae .u8 (pad (row b)))),.box false (D.arr 64 .leaf (ae .u8 (pad (row m)))),.box false (D.arr 64 .leaf (ae .u8 z)),.box false (D.arr 64 .leaf (ae .u8 (pad (row (a*b%m)))))]⟩)
 | 0,_=>by
  rw [Nb];exact bi (by simp -implicitDefEqProofs [Z2z_L0,af])
 | n+1,hn=>by
  have hp:=IsP.pos (p:=p);have hp7:=IsP.le (p:=p);have hlr:=Pol.len_mod (a*n4 b (n+1)) hm;have hr:=gw (b.c n);have e1:=hu p (a*n4 b (n+1)%m) m hm hlr hml;have hl2:=Pol.len_mod (Pol.X*(a*n4 b (n+1)%m)) hm;have e2:=ha p (rep (b.c n)) (Pol.X*(a*n4 b (n+1)%m)%m) a (by omega) (by omega) (by omega) hal
  rw [g9] at e2;have hl3:=Pol.len_add_le (a:=Pol.X*(a*n4 b (n+1)%m)%m) (b:=Pol.C (b.c n)*a) (n:=64) (by omega) (ko (Pol.len_le (Pol.lt_Cmul _ a.lt_len)) hal)
  have e3:=hmo p (Pol.X*(a*n4 b (n+1)%m)%m+Pol.C (b.c n)*a) m hm hl3 hml
  have e4:(Pol.X*(a*n4 b (n+1)%m)%m+Pol.C (b.c n)*a)%m=a*n4 b n%m:=by
   rw [Nn b n,Pol.mod_eq_iff hm,Quo.mk_add,Pol.mk_mod,Quo.mk_mul,Pol.mk_mod,←Quo.mk_mul,←Quo.mk_add]
   congr 1
   exact ba [Pol.X,a,n4 b (n+1),Pol.C (b.c n)] rfl
  rw [e4] at e3;have t0:(((n+1:Nat):Int)-1)=(n:Int):=by omega
  rw [t0];have hn64:n<64:=by omega
  have hx:(pad (row b))[n]? = some (rep (b.c n)):=by rw [qy _ _ hn64,e9]
  have w1:IntKind.i64.wrap (rep (b.c n))=rep (b.c n):=w64 (by omega)
  have w2:IntKind.i64.wrap ((n:Int)-1)=(n:Int)-1:=w64 (by omega)
  refine bh ?_ (E7 hu ha hmo hm hml hal hbl n (by omega))
  generalize pad (row (a*n4 b n%m))=R at *;generalize pad (row (a*n4 b (n+1)%m))=R1 at *;generalize pad (row (Pol.X*(a*n4 b (n+1)%m)%m+Pol.C (b.c n)*a))=R2 at *;generalize pad (row (Pol.X*(a*n4 b (n+1)%m)%m))=R3 at *;generalize pad (row a)=PA at *;generalize pad (row b)=PB at *;generalize pad (row m)=PM at *;simp -implicitDefEqProofs [Z2z_L0,af,e1,e2,e3,hn64,hx,w1,w2]
def pj (O:ac):Prop:=∀(p:Int) [IsP p] (a b m:Fp p),m≠0→m.len≤64→a.len≤64→b.len≤64 →
 ask O F2z [(D.int .i64 p),(D.arr 64 .leaf (ae .u8 (pad (row a)))),(D.arr 64 .leaf (ae .u8 (pad (row b)))),(D.arr 64 .leaf (ae .u8 (pad (row m))))]=some (D.arr 64 .leaf (ae .u8 (pad (row (a*b%m)))))
theorem Rn (hT:T F2z=some Z2z) (hd:jo (den T A)) (hu:P9 (den T A)) (ha:ot (den T A)) (hmo:yy (den T A)):pj (den T A):=by
 intro p i a b m hm hml hal hbl;have e1:=hd p b hbl;have e2:=E7 (O:=den T A) (z:=pad []) hu ha hmo hm hml hal hbl b.len (ap _);rw [R9,Gq.mul_zero,Pol.zero_mod hm,cw] at e2;refine bj hT rfl ?_;generalize pad (row (a*b%m))=R at *;generalize pad (row a)=PA at *;generalize pad (row b)=PB at *;generalize pad (row m)=PM at *;simp -implicitDefEqProofs [Z2z,Z2z_B,e1,e2]
theorem a01 {O:ac} (hmm:pj O) {p:Int} [IsP p] {m:Fp p} {z:List Int} {hol:Blk} (hh:hol=.hole) (hm:m≠0) (hml:m.len≤64):∀(n:Nat) (k:Int) (out base:Fp p),0≤k→k.toNat<2^n→k<4611686018427387904→out.len<m.len→base.len<m.len→∃base':List Int,
 dn O 0 (.loop Z32_L0) ⟨[(0,(.d (.int .i64 p))),(2,(.d (.int .i64 k))),(7,.ptr 1 []),(8,.ptr 2 []),(9,.ptr 3 []),(10,.ptr 4 [])],[hol,.box false (D.arr 64 .leaf (ae .u8 (pad (row m)))),.box false (D.arr 64 .leaf (ae .u8 z)),.box false (D.arr 64 .leaf (ae .u8 (pad (row out)))),.box false (D.arr 64 .leaf (ae .u8 (pad (row base))))]⟩ =
  some (.exit 0,⟨[(0,(.d (.int .i64 p))),(2,(.d (.int .i64 0))),(7,.ptr 1 []),(8,.ptr 2 []),(9,.ptr 3 []),(10,.ptr 4 []),(20,(.d (.bool false)))],[hol,.box false (D.arr 64 .leaf (ae .u8 (pad (row m)))),.box false (D.arr 64 .leaf (ae .u8 z)),.box false (D.arr 64 .leaf (ae .u8 (pad (row (out*pw base k.toNat%m))))),.box false (D.arr 64 .leaf (ae .u8 base'))]⟩):=by
 intro n
 induction n with
 | zero=>
  intro k out base hk hn _ ho hb;obtain rfl:k=0:=by simp at hn; omega
  refine ⟨pad (row base),?_⟩
  have e:out*pw base (0:Int).toNat%m=out:=by
   show out*1%m=out;rw [Gq.mul_one,Pol.mod_small ho]
  rw [e];subst hh;exact bi (by simp -implicitDefEqProofs [Z32_L0,af])
 | succ n ih=>
  intro k out base hk hn hkm ho hb
  by_cases h0:k=0
  ·subst h0
   refine ⟨pad (row base),?_⟩
   have e:out*pw base (0:Int).toNat%m=out:=by
    show out*1%m=out;rw [Gq.mul_one,Pol.mod_small ho]
   rw [e];subst hh;exact bi (by simp -implicitDefEqProofs [Z32_L0,af])
  ·have hkp:0<k:=by omega
   have t1:=hmm p out base m hm hml (by omega) (by omega)
   have t2:=hmm p base base m hm hml (by omega) (by omega)
   have s:=Pol.bin_step (out:=out) (base:=base) hm k.toNat (by omega)
   have hdiv:(k/2).toNat=k.toNat/2:=by omega
   obtain ⟨b',e⟩:=ih (k/2) (if k.toNat%2=1 then out*base%m else out) (base*base%m) (by omega) (by rw [df] at hn; omega) (by omega) (by split; exact Pol.len_mod _ hm; exact ho) (Pol.len_mod _ hm)
   rw [hdiv,s] at e;refine ⟨b',bh ?_ e⟩;subst hh;have w1:IntKind.i64.wrap (k.tdiv 2)=k/2:=by rw [bn hk,w64 (by omega)]
   have w2:k.tmod 2=k%2:=br hk
   by_cases hodd:k%2=1
   ·rw [if_pos (show k.toNat%2=1 by omega)]
    generalize pad (row (out*base%m))=R1 at *;generalize pad (row (base*base%m))=R2 at *;generalize pad (row out)=R3 at *;generalize pad (row base)=R4 at *;generalize pad (row m)=R5 at *;simp -implicitDefEqProofs [Z32_L0,af,hkp,t1,t2,w1,w2,hodd]
   ·rw [if_neg (show ¬ k.toNat%2=1 by omega)]
    generalize pad (row (base*base%m))=R2 at *;generalize pad (row out)=R3 at *;generalize pad (row base)=R4 at *;generalize pad (row m)=R5 at *;simp -implicitDefEqProofs [Z32_L0,af,hkp,t2,w1,w2,hodd]
def pf (O:ac):Prop:=∀(p:Int) [IsP p] (a:Fp p) (k:Int) (m:Fp p),m≠0→a.len≤64→m.len≤64→0≤k→k<4611686018427387904 →
 ask O F32 [(D.int .i64 p),(D.arr 64 .leaf (ae .u8 (pad (row a)))),(D.int .i64 k),(D.arr 64 .leaf (ae .u8 (pad (row m))))]=some (D.arr 64 .leaf (ae .u8 (pad (row (pw a k.toNat%m)))))
theorem Qt (hT:T F32=some Z32) (h1:uk (den T A)) (hmo:yy (den T A)) (hmm:pj (den T A)):pf (den T A):=by
 intro p i a k m hm hal hml hk hkm;have e1:=h1 p;have e2:=hmo p 1 m hm (by rw [Pol.len_one]; omega) hml
 have e3:=hmo p a m hm hal hml;obtain ⟨b',e⟩:=a01 (O:=den T A) hmm (z:=pad []) (hol:=.hole) rfl hm hml 62 k (1%m) (a%m) hk (by omega) hkm (Pol.len_mod _ hm) (Pol.len_mod _ hm)
 have e4:1%m*pw (a%m) k.toNat%m=pw a k.toNat%m:=by
  rw [Pol.mul_mod_left _ _ hm,Gq.one_mul,Pol.pow_mod _ hm]
 rw [e4] at e;refine bj hT rfl ?_;generalize pad (row (pw a k.toNat%m))=R at *;generalize pad (row (1%m))=R1 at *;generalize pad (row (a%m))=R2 at *;generalize pad (row (1:Fp p))=R3 at *;generalize pad (row a)=PA at *;generalize pad (row m)=PM at *;simp -implicitDefEqProofs [Z32,Z32_B,e1,e2,e3,e]
end Pe

namespace Pe
open Go Gq
section
variable {p:Int} [IsP p]
noncomputable def frW (m:Fp p) (k:Nat):Fp p:=pw Pol.X (p.toNat^k)%m-Pol.X
theorem Ve {m q:Fp p} (_hm:m≠0) (hq:Dv q m) (k:Nat):Dv q (frW m k)↔Dv q (frT p k):=by
 have h1:frT p k=frW m k+pw Pol.X (p.toNat^k)/m*m:=by
  have h:=Pol.div_mod (pw Pol.X (p.toNat^k)) m;show pw Pol.X (p.toNat^k)-Pol.X=pw Pol.X (p.toNat^k)%m-Pol.X+pw Pol.X (p.toNat^k)/m*m;generalize pw Pol.X (p.toNat^k)%m=R at *;generalize pw Pol.X (p.toNat^k)/m=Q at *;rw [h];exact ba [Q,m,R,Pol.X] rfl
 have h2:Dv q (pw Pol.X (p.toNat^k)/m*m):=hq.mul_left _;constructor
 ·intro h; rw [h1]; exact h.add h2
 ·intro h
  have:=h.sub h2;rw [h1] at this;have e:frW m k+pw Pol.X (p.toNat^k)/m*m-pw Pol.X (p.toNat^k)/m*m=frW m k:=ba [frW m k,pw Pol.X (p.toNat^k)/m,m] rfl
  rwa [e] at this
theorem Sf {m:Fp p} (h2:2≤m.len) (h13:m.len≤13):(∀k,1≤k→2*k≤m.len-1→(Pol.gcd m (frW m k)).len=1)↔Irr m:=by
 have hm:m≠0:=fun h=>by rw [h,Pol.len_zero] at h2; omega
 have small:∀d,d≤12→p^d<1000000000000:=fun d hd=>by
  have h1:=ia (p:=p) (by have:=IsP.pos (p:=p); omega) hd
  have h7:=o4 (p:=p) (n:=12) (by omega)
  omega
 constructor
 ·intro h
  refine tn (n:=(m.len-1)/2+1) (fun q hq hd=>?_) h2 (by omega)
  rcases cb ((m.len-1)/2+1) q.len with g | g
  ·omega
  ·exfalso
   have hl:=hq.len;have h1:=h (q.len-1) (by omega) (by omega)
   have h3:Dv q (frT p (q.len-1)):=O3 hq (by omega) (small _ (by omega))
   have h4:=Pol.dv_gcd (.inl hm) hd ((Ve hm hd _).2 h3);have h5:=h4.len (fun h0=>by rw [h0,Pol.len_zero] at h1; omega)
   omega
 ·intro hi k hk hk2
  by_cases hd:Dv m (frW m k)
  ·have h3:=(Ve hm (Dv.refl m) k).1 hd
   have:=Bp hi (d:=m.len-1) (by omega) (small _ (by omega)) hk h3
   omega
  ·obtain ⟨u,v,e⟩:=hi.coprime hd
   have h1:=Pol.gcd_dv_left (a:=m) (b:=frW m k) (.inl hm);have h3:=Pol.gcd_dv_right (a:=m) (b:=frW m k) (.inl hm)
   have h4:Dv (Pol.gcd m (frW m k)) 1:=by
    rw [←e];exact (h1.mul_left u).add (h3.mul_left v)
   have h5:=h4.len Pol.one_ne;rw [Pol.len_one] at h5;have h6:=Pol.len_pos (Pol.gcd_monic (a:=m) (b:=frW m k) (.inl hm)).2;omega
theorem X4 {m:Fp p} (hi:Irr m) (hm:Monic m):IsFac m [(m,1)] where
 ok:=⟨fun x hx=>by simp only [bb] at hx; subst hx; exact ⟨hi,hm,ap 1⟩,dy _ _⟩
 sorted:=dy _ _
 eq:=by
  rw [hm.1,Pol.C_one,Gq.one_mul];show m=pw m 1*1;rw [x8,Gq.mul_one]
theorem Ww {m:Fp p} {L:iq p} (hm:Monic m) (h:IsFac m L):(∃q,L=[(q,1)])↔Irr m:=by
 constructor
 ·rintro ⟨q,rfl⟩
  have e:=h.eq;rw [hm.1,Pol.C_one,Gq.one_mul] at e
  have e2:i8 [(q,1)]=q:=by
   show pw q 1*1=q;rw [x8,Gq.mul_one]
  rw [e2] at e;rw [e];exact (h.ok.irr (q,1) (by simp)).1
 ·intro hi
  exact ⟨m,h.unique hm.2 (X4 hi hm)⟩
end
end Pe

namespace Pe
open Go Gq
variable {T:Nat→Option Fn} {A:ac}
section
variable {p:Int}
def Am (a:Fp p) (i:Nat):Fp p:=⟨fun n=>if n<i then a.c n else 0,i,fun n hn=>if_neg (by omega)⟩
theorem H6 (a:Fp p) (i n:Nat):(Am a i).c n=if n<i then a.c n else 0:=rfl
theorem Ed (a:Fp p):Am a 0=0:=Pol.ext fun n=>by rw [H6,if_neg (by omega)]; rfl
theorem Ih (a:Fp p):Am a a.len=a:=Pol.ext fun n=>by
 rw [H6]
 split
 ·rfl
 ·rename_i h; exact (a.lt_len n (by omega)).symm
end
section
variable {p:Int} [IsP p]
theorem Sd (k:Zp p) (n i:Nat):(Pol.mo k n).c i=if i=n then k else 0:=rfl
theorem yr (a:Fp p) (i:Nat):Am a (i+1)=Am a i+Pol.mo (a.c i) i:=Pol.ext fun n=>by
 rw [Pol.c_add,H6,H6,Sd]
 by_cases h:n=i
 ·subst h; rw [if_pos (by omega),if_neg (by omega),if_pos rfl,Gq.zero_add]
 ·rw [if_neg h,Gq.add_zero]
  by_cases h2:n<i
  ·rw [if_pos (by omega),if_pos h2]
  ·rw [if_neg (by omega),if_neg h2]
theorem Xp (n:Nat):(Pol.mo 0 n:Fp p)=0:=Pol.ext fun i=>by rw [Sd]; split <;> rfl
theorem a4e (k l:Zp p) (n m:Nat):(Pol.mo k n*Pol.mo l m:Fp p)=Pol.mo (k*l) (n+m):=Pol.ext fun i=>by
 rw [I7,Sd,Sd]
 by_cases h:n≤i
 ·rw [if_pos h]
  by_cases h2:i-n=m
  ·rw [if_pos h2,if_pos (by omega)]
  ·rw [if_neg h2,if_neg (by omega),Gq.mul_zero]
 ·rw [if_neg h,if_neg (by omega)]
theorem Dk {cur:List Int} {k:Nat} (h:k<cur.length) (t:Int):dj p (cur.set k ((cf cur k+t)%p))=dj p cur+Pol.mo (zp p t) k:=Pol.ext fun j=>by
 rw [Pol.c_add,fh,fh,qj,Sd]
 by_cases h1:j=k
 ·subst h1
  rw [if_pos ⟨rfl,h⟩,if_pos rfl,sn,Hn]
 ·rw [if_neg (by omega),if_neg h1,Gq.add_zero]
end
theorem V9 {O:ac} {p:Int} [IsP p] {a b:Fp p} {z:List Int} {n i:Nat} (hn:n<64) (hi:i<a.len) (hal:a.len≤64) (hbl:b.len≤64) (hab:a.len+b.len≤65) (hb1:0<b.len) (hai:a.c i≠0) {P:Fp p} {vn:V} (hvn:vn.refs=[]):∀(m j:Nat) (cur:List Int),j+m=b.len→cur.length=64→Can p cur→dj p cur=P+Pol.mo (a.c i) i*Am b j→∃cur':List Int,cur'.length=64∧Can p cur'∧dj p cur'=P+Pol.mo (a.c i) i*b ∧
 dn O 0 (.loop Z35_L0) ⟨[(0,(.d (.int .i64 p))),(4,.ptr 0 []),(5,.ptr 1 []),(6,.ptr 2 []),(8,vn),(9,(.d (.int .i64 (((b.len-1:Nat):Int))))),(10,.ptr 3 []),(11,(.d (.int .i64 i))),(12,(.d (.int .i64 j)))],[.box false (D.arr 64 .leaf (ae .u8 (pad (row a)))),.box false (D.arr 64 .leaf (ae .u8 (pad (row b)))),.box false (D.arr 64 .leaf (ae .u8 z)),.box false (D.arr 64 .leaf (ae .u8 cur))]⟩ =
  some (.exit 2,⟨[(0,(.d (.int .i64 p))),(4,.ptr 0 []),(5,.ptr 1 []),(6,.ptr 2 []),(8,vn),(9,(.d (.int .i64 (((b.len-1:Nat):Int))))),(10,.ptr 3 []),(11,(.d (.int .i64 i))),(12,(.d (.int .i64 b.len))),(43,(.d (.bool false)))],[.box false (D.arr 64 .leaf (ae .u8 (pad (row a)))),.box false (D.arr 64 .leaf (ae .u8 (pad (row b)))),.box false (D.arr 64 .leaf (ae .u8 z)),.box false (D.arr 64 .leaf (ae .u8 cur'))]⟩)
 | 0,j,cur,hj,hc,hcan,he=>by
  obtain rfl:j=b.len:=by omega
  rw [Ih] at he;have hlt:¬ (b.len:Int)≤((b.len-1:Nat):Int):=by omega
  refine ⟨cur,hc,hcan,he,bi ?_⟩;generalize ((b.len-1:Nat):Int)=m1 at *;generalize pad (row a)=PA at *;generalize pad (row b)=PB at *;simp -implicitDefEqProofs [Z35_L0,af,hlt,hvn]
 | m+1,j,cur,hj,hc,hcan,he=>by
  have hp:=IsP.pos (p:=p);have hp7:=IsP.le (p:=p);have hp0:p≠0:=by omega
  have hlt:(j:Int)≤((b.len-1:Nat):Int):=by omega
  have hi64:i<64:=by omega
  have hj64:j<64:=by omega
  have hij:i+j<64:=by omega
  have hs0:(0:Int)≤(i:Int)+j:=by omega
  have hs1:((i:Int)+j).toNat=i+j:=by omega
  have hx:(pad (row a))[i]? = some (rep (a.c i)):=by rw [qy _ _ hi64,e9]
  have hy:(pad (row b))[j]? = some (rep (b.c j)):=by rw [qy _ _ hj64,e9]
  have hx0:rep (a.c i)≠0:=fun h=>hai (fy.1 h)
  have hr1:=gw (a.c i);have hr2:=gw (b.c j);have hkc:i+j<cur.length:=by omega
  have hw:cur[i+j]=cf cur (i+j):=(da hkc).symm;have gc:=hcan.le hp (i+j);have gm:=db (x:=rep (a.c i)) (y:=rep (b.c j)) (b:=10) (c:=10) (by omega) (by omega) (by omega)
  have gm0:=ce hr1.1 hr2.1;have w0:IntKind.i64.wrap ((i:Int)+j)=((i+j:Nat):Int):=(w64 (x:=(i:Int)+j) (by omega)).trans (by omega)
  have w1:IntKind.i64.wrap (rep (a.c i))=rep (a.c i):=w64 (by omega)
  have w2:IntKind.i64.wrap (rep (b.c j))=rep (b.c j):=w64 (by omega)
  have w3:IntKind.i64.wrap (cf cur (i+j))=cf cur (i+j):=w64 (by omega)
  have w4:IntKind.i64.wrap (rep (a.c i)*rep (b.c j))=rep (a.c i)*rep (b.c j):=w64 (by omega)
  have w5:IntKind.i64.wrap (cf cur (i+j)+rep (a.c i)*rep (b.c j))=cf cur (i+j)+rep (a.c i)*rep (b.c j):=w64 (by omega)
  have w6:(cf cur (i+j)+rep (a.c i)*rep (b.c j)).tmod p=(cf cur (i+j)+rep (a.c i)*rep (b.c j))%p:=br (by omega)
  have hin:=c8 (cf cur (i+j)+rep (a.c i)*rep (b.c j)) hp0;have hin2:=bq (cf cur (i+j)+rep (a.c i)*rep (b.c j)) hp;have w7:IntKind.u8.wrap ((cf cur (i+j)+rep (a.c i)*rep (b.c j))%p)=(cf cur (i+j)+rep (a.c i)*rep (b.c j))%p:=w8 (by omega)
  have w8':IntKind.i64.wrap ((j:Int)+1)=((j+1:Nat):Int):=(w64 (x:=(j:Int)+1) (by omega)).trans (by omega)
  have hnew:dj p (cur.set (i+j) ((cf cur (i+j)+rep (a.c i)*rep (b.c j))%p))=P+Pol.mo (a.c i) i*Am b (j+1):=by
   rw [Dk hkc,he,tv,g9,g9,yr,Gq.mul_add,a4e,Gq.add_assoc]
  have hcan':Can p (cur.set (i+j) ((cf cur (i+j)+rep (a.c i)*rep (b.c j))%p)):=fun x hx=>by
   rcases dk hx with h | rfl
   ·exact hcan x h
   ·exact ⟨hin,hin2⟩
  obtain ⟨cur',g1,g2,g3,g4⟩:=V9 (O:=O) (z:=z) hn hi hal hbl hab hb1 hai hvn m (j+1) (cur.set (i+j) ((cf cur (i+j)+rep (a.c i)*rep (b.c j))%p)) (by omega) (by rw [bt]; exact hc) hcan' hnew
  have hs:ae .u8 (cur.set (i+j) ((cf cur (i+j)+rep (a.c i)*rep (b.c j))%p))=(ae .u8 cur).set (i+j) (D.int .u8 ((cf cur (i+j)+rep (a.c i)*rep (b.c j))%p)):=by unfold ae; rw [t9]
  rw [hs] at g4;refine ⟨cur',g1,g2,g3,bh ?_ g4⟩;generalize (cf cur (i+j)+rep (a.c i)*rep (b.c j))%p=W at *;generalize ((b.len-1:Nat):Int)=m1 at *;generalize pad (row a)=PA at *;generalize pad (row b)=PB at *;simp -implicitDefEqProofs [Z35_L0,af,hlt,hi64,hj64,hij,hs0,hs1,hx,hy,hx0,hc,hw,w0,w1,w2,w3,w4,w5,w6,w7,w8',hp0,hvn]
theorem Lq {O:ac} {p:Int} [IsP p] {a b:Fp p} {z:List Int} (hal:a.len≤64) (hbl:b.len≤64) (hab:a.len+b.len≤65) (ha1:0<a.len) (hb1:0<b.len):∀(m i:Nat) (cur:List Int),i+m=a.len→cur.length=64→Can p cur→dj p cur=Am a i*b→∃cur':List Int,cur'.length=64∧Can p cur'∧dj p cur'=a*b ∧
 dn O 0 (.loop Z35_L1) ⟨[(0,(.d (.int .i64 p))),(4,.ptr 0 []),(5,.ptr 1 []),(6,.ptr 2 []),(8,(.d (.int .i64 (((a.len-1:Nat):Int))))),(9,(.d (.int .i64 (((b.len-1:Nat):Int))))),(10,.ptr 3 []),(11,(.d (.int .i64 i)))],[.box false (D.arr 64 .leaf (ae .u8 (pad (row a)))),.box false (D.arr 64 .leaf (ae .u8 (pad (row b)))),.box false (D.arr 64 .leaf (ae .u8 z)),.box false (D.arr 64 .leaf (ae .u8 cur))]⟩ =
  some (.exit 0,⟨[(0,(.d (.int .i64 p))),(4,.ptr 0 []),(5,.ptr 1 []),(6,.ptr 2 []),(8,(.d (.int .i64 (((a.len-1:Nat):Int))))),(9,(.d (.int .i64 (((b.len-1:Nat):Int))))),(10,.ptr 3 []),(11,(.d (.int .i64 a.len))),(32,(.d (.bool false)))],[.box false (D.arr 64 .leaf (ae .u8 (pad (row a)))),.box false (D.arr 64 .leaf (ae .u8 (pad (row b)))),.box false (D.arr 64 .leaf (ae .u8 z)),.box false (D.arr 64 .leaf (ae .u8 cur'))]⟩)
 | 0,i,cur,hi,hc,hcan,he=>by
  obtain rfl:i=a.len:=by omega
  rw [Ih] at he;have hlt:¬ (a.len:Int)≤((a.len-1:Nat):Int):=by omega
  refine ⟨cur,hc,hcan,he,bi ?_⟩;generalize ((b.len-1:Nat):Int)=m1 at *;generalize ((a.len-1:Nat):Int)=n1 at *;generalize pad (row a)=PA at *;generalize pad (row b)=PB at *;simp -implicitDefEqProofs [Z35_L1,af,hlt]
 | m+1,i,cur,hi,hc,hcan,he=>by
  have hlt:(i:Int)≤((a.len-1:Nat):Int):=by omega
  have hi64:i<64:=by omega
  have w8':IntKind.i64.wrap ((i:Int)+1)=((i+1:Nat):Int):=(w64 (x:=(i:Int)+1) (by omega)).trans (by omega)
  have hx:(pad (row a))[i]? = some (rep (a.c i)):=by rw [qy _ _ hi64,e9]
  by_cases hai:a.c i=0
  ·have hr:rep (a.c i)=0:=fy.2 hai
   have he':dj p cur=Am a (i+1)*b:=by rw [yr,hai,Xp,Gq.add_zero]; exact he
   obtain ⟨cur',g1,g2,g3,g4⟩:=Lq (O:=O) (z:=z) hal hbl hab ha1 hb1 m (i+1) cur (by omega) hc hcan he'
   rw [hr] at hx
   have hin:dn O 0 (.loop Z35_L0) ⟨[(0,(.d (.int .i64 p))),(4,.ptr 0 []),(5,.ptr 1 []),(6,.ptr 2 []),(8,(.d (.int .i64 (((a.len-1:Nat):Int))))),(9,(.d (.int .i64 (((b.len-1:Nat):Int))))),(10,.ptr 3 []),(11,(.d (.int .i64 i))),(12,(.d (.int .i64 0)))],[.box false (D.arr 64 .leaf (ae .u8 (pad (row a)))),.box false (D.arr 64 .leaf (ae .u8 (pad (row b)))),.box false (D.arr 64 .leaf (ae .u8 z)),.box false (D.arr 64 .leaf (ae .u8 cur))]⟩ =
    some (.exit 2,⟨[(0,(.d (.int .i64 p))),(4,.ptr 0 []),(5,.ptr 1 []),(6,.ptr 2 []),(8,(.d (.int .i64 (((a.len-1:Nat):Int))))),(9,(.d (.int .i64 (((b.len-1:Nat):Int))))),(10,.ptr 3 []),(11,(.d (.int .i64 i))),(12,(.d (.int .i64 0))),(43,(.d (.bool false)))],[.box false (D.arr 64 .leaf (ae .u8 (pad (row a)))),.box false (D.arr 64 .leaf (ae .u8 (pad (row b)))),.box false (D.arr 64 .leaf (ae .u8 z)),.box false (D.arr 64 .leaf (ae .u8 cur))]⟩):=by
    refine bi ?_;generalize b.len-1=m1 at *;generalize ((a.len-1:Nat):Int)=n1 at *;generalize pad (row a)=PA at *;generalize pad (row b)=PB at *;simp -implicitDefEqProofs [Z35_L0,af,hi64,hx]
   refine ⟨cur',g1,g2,g3,bh ?_ g4⟩;generalize ((b.len-1:Nat):Int)=m1 at *;generalize ((a.len-1:Nat):Int)=n1 at *;generalize pad (row a)=PA at *;generalize pad (row b)=PB at *;simp -implicitDefEqProofs [Z35_L1,af,hlt,hin,w8']
  ·obtain ⟨cur1,k1,k2,k3,k4⟩:=V9 (O:=O) (z:=z) (n:=0) (i:=i) (by omega) (by omega) hal hbl hab hb1 hai (P:=Am a i*b) (vn:=(.d (.int .i64 (((a.len-1:Nat):Int))))) rfl b.len 0 cur (b9 _) hc hcan (by rw [Ed,Gq.mul_zero,Gq.add_zero]; exact he)
   have e00:((0:Nat):Int)=0:=rfl;rw [e00] at k4
   have he':dj p cur1=Am a (i+1)*b:=by
    rw [k3,yr];exact ba [Am a i,b,Pol.mo (a.c i) i] rfl
   obtain ⟨cur',g1,g2,g3,g4⟩:=Lq (O:=O) (z:=z) hal hbl hab ha1 hb1 m (i+1) cur1 (by omega) k1 k2 he'
   refine ⟨cur',g1,g2,g3,bh ?_ g4⟩;generalize ((b.len-1:Nat):Int)=m1 at *;generalize ((a.len-1:Nat):Int)=n1 at *;generalize pad (row a)=PA at *;generalize pad (row b)=PB at *;simp -implicitDefEqProofs [Z35_L1,af,hlt,k4,w8']
def rz (O:ac):Prop:=∀(p:Int) [IsP p] (a b:Fp p),a.len≤64→b.len≤64→(a*b).len≤64 →
 ask O F35 [(D.int .i64 p),(D.arr 64 .leaf (ae .u8 (pad (row a)))),(D.arr 64 .leaf (ae .u8 (pad (row b))))]=some (.tup [(D.arr 64 .leaf (ae .u8 (pad (row (a*b))))),(D.bool true)])
theorem Tp (hT:T F35=some Z35) (hd:jo (den T A)):rz (den T A):=by
 intro p i a b hal hbl hab;have e1:=hd p a hal;have e2:=hd p b hbl;refine bj hT rfl ?_
 by_cases ha:a=0
 ·subst ha
  rw [Gq.zero_mul,cw];rw [Pol.len_zero,cw] at e1;generalize pad (row b)=PB at *;simp -implicitDefEqProofs [Z35,Z35_B,af,e1,e2,List.replicate]
 ·have ha1:=Pol.len_pos ha
  by_cases hb:b=0
  ·subst hb
   rw [Gq.mul_zero,cw];rw [Pol.len_zero,cw] at e2;have ha2:¬ ((a.len:Int)-1<0):=by omega
   generalize pad (row a)=PA at *;simp -implicitDefEqProofs [Z35,Z35_B,af,e1,e2,ha2,List.replicate]
  ·have hb1:=Pol.len_pos hb
   have hm:=Pol.len_mul ha hb;rw [show ((a.len:Int)-1)=((a.len-1:Nat):Int) by omega] at e1
   rw [show ((b.len:Int)-1)=((b.len-1:Nat):Int) by omega] at e2
   have w1:IntKind.i64.wrap (((a.len-1:Nat):Int)+((b.len-1:Nat):Int))=((a.len-1+(b.len-1):Nat):Int):=(w64 (by omega)).trans (by omega)
   have w2:¬ ((63:Int)<((a.len-1+(b.len-1):Nat):Int)):=by omega
   obtain ⟨cur',g1,g2,g3,g4⟩:=Lq (O:=den T A) (z:=pad []) hal hbl (by omega) ha1 hb1 a.len 0 (pad []) (b9 _) (bm _) (by
    have:=oz (0:Fp p); rwa [cw] at this) (by
    rw [Ed,Gq.zero_mul];have:=sb (p:=p) (a:=0) (by rw [Pol.len_zero]; omega)
    rwa [cw] at this)
   have e00:((0:Nat):Int)=0:=rfl;rw [e00] at g4;have hcur:cur'=pad (row (a*b)):=by rw [Bc g2 g1,g3]
   rw [hcur] at g4;have n1:¬ (((a.len-1:Nat):Int)<0):=by omega
   have n2:¬ (((b.len-1:Nat):Int)<0):=by omega
   generalize ((a.len-1+(b.len-1):Nat):Int)=s1 at *;generalize ((b.len-1:Nat):Int)=m1 at *;generalize ((a.len-1:Nat):Int)=k1 at *;generalize pad (row (a*b))=PR at *;generalize pad (row a)=PA at *;generalize pad (row b)=PB at *;simp -implicitDefEqProofs [Z35,Z35_B,af,e1,e2,w1,w2,n1,n2,g4,List.replicate]
structure BzS {p:Int} [IsP p] (A B a b u x v y:Fp p):Prop where
 i:Pol.BzI A B a b u x v y
 la:a.len≤64
 lb:b.len≤64
 lu:u.len≤64
 lv:v.len≤64
 ne:a≠0
theorem BzS.step {p:Int} [IsP p] {A B a b u x v y:Fp p} (h:BzS A B a b u x v y) (hA:A.len≤64) (hB:B.len≤64) (hb:b≠0) :
 BzS A B b (a%b) x (u-a/b*x) y (v-a/b*y)∧x.len≤64∧y.len≤64∧(a/b).len≤64∧(a/b*x).len≤64∧(a/b*y).len≤64∧(a%b).len≤64:=by
 have h1:=h.i.lx;have h2:=h.i.ly;have h3:=Pol.len_pos h.ne;have h4:=Pol.len_pos hb;have h5:=Pol.len_div_le a hb;have h6:=Pol.len_mod_le a hb;obtain ⟨h7,h8⟩:=h.i.qlen hb;have h9:=h.la;have hx:x.len≤64:=by omega
 have hy:y.len≤64:=by omega
 exact ⟨⟨h.i.step hb,h.lb,by omega,hx,hy,hb⟩,hx,hy,by omega,by omega,by omega,by omega⟩
theorem U3 {O:ac} (hdg:jo O) (hd:na O) (ht:rz O) (ha:ot O) {p:Int} [IsP p] {z:List Int} {a b u x v y:Fp p} (h0:b≠0) (ha':a.len≤64) (hb:b.len≤64) (hu:u.len≤64) (hv:v.len≤64) (s1:x.len≤64) (s2:y.len≤64) (s3:(a/b).len≤64) (s4:(a/b*x).len≤64) (s5:(a/b*y).len≤64) :
 dn O 0 Z2q_L0 ⟨[(0,(.d (.int .i64 p))),(4,.ptr 0 []),(5,.ptr 1 []),(6,.ptr 2 []),(7,.ptr 3 []),(8,.ptr 4 []),(9,.ptr 5 []),(10,.ptr 6 []),(11,.ptr 7 []),(12,.ptr 8 [])],[.box false (D.arr 64 .leaf (ae .u8 (pad (row a)))),.box false (D.arr 64 .leaf (ae .u8 (pad (row b)))),.box false (D.arr 64 .leaf (ae .u8 z)),.box false (D.arr 64 .leaf (ae .u8 z)),.box false (D.arr 64 .leaf (ae .u8 z)),.box false (D.arr 64 .leaf (ae .u8 (pad (row u)))),.box false (D.arr 64 .leaf (ae .u8 (pad (row x)))),.box false (D.arr 64 .leaf (ae .u8 (pad (row v)))),.box false (D.arr 64 .leaf (ae .u8 (pad (row y)))),.hole,.hole,.hole,.hole,.hole,.hole]⟩ =
  some (.normal,⟨[(0,(.d (.int .i64 p))),(4,.ptr 0 []),(5,.ptr 1 []),(6,.ptr 2 []),(7,.ptr 3 []),(8,.ptr 4 []),(9,.ptr 5 []),(10,.ptr 6 []),(11,.ptr 7 []),(12,.ptr 8 [])],[.box false (D.arr 64 .leaf (ae .u8 (pad (row b)))),.box false (D.arr 64 .leaf (ae .u8 (pad (row (a%b))))),.box false (D.arr 64 .leaf (ae .u8 z)),.box false (D.arr 64 .leaf (ae .u8 z)),.box false (D.arr 64 .leaf (ae .u8 z)),.box false (D.arr 64 .leaf (ae .u8 (pad (row x)))),.box false (D.arr 64 .leaf (ae .u8 (pad (row (u-a/b*x))))),.box false (D.arr 64 .leaf (ae .u8 (pad (row y)))),.box false (D.arr 64 .leaf (ae .u8 (pad (row (v-a/b*y))))),.hole,.hole,.hole,.hole,.hole,.hole]⟩):=by
 have hp:=Pol.len_pos h0;have e0:=hdg p b hb;have e1:=hd p a b h0 ha' hb;have e2:=ht p (a/b) x s3 s1 s4;have e3:=ha p (-1) u (a/b*x) (by omega) (by omega) hu s4
 have e4:=ht p (a/b) y s3 s2 s5;have e5:=ha p (-1) v (a/b*y) (by omega) (by omega) hv s5
 rw [Cs] at e3 e5;have hge:¬ ((b.len:Int)-1<0):=by omega
 have hge2:(0:Int)≤(b.len:Int)-1:=by omega
 have hge3:(1:Int)≤(b.len:Int):=by omega
 generalize pad (row (u-a/b*x))=Pux at *;generalize pad (row (v-a/b*y))=Pvy at *;generalize pad (row (a/b*x))=Pqx at *;generalize pad (row (a/b*y))=Pqy at *;generalize pad (row (a/b))=Pq at *;generalize pad (row (a%b))=Pr at *;generalize pad (row a)=Pa at *;generalize pad (row b)=Pb at *;generalize pad (row u)=Pu at *;generalize pad (row x)=Px at *;generalize pad (row v)=Pv at *;generalize pad (row y)=Py at *;simp -implicitDefEqProofs [Z2q_L0,af,hge3,e0,e1,e2,e3,e4,e5]
theorem Vk {O:ac} (hdg:jo O) (hd:na O) (ht:rz O) (ha:ot O) {p:Int} [IsP p] {A B:Fp p} {z:List Int} (hA:A.len≤64) (hB:B.len≤64):∀(n:Nat) (a b u x v y:Fp p),b.len≤n→BzS A B a b u x v y→∃x' y':List Int,(Pol.bz n a b u x v y).1≠0∧(Pol.bz n a b u x v y).1.len≤64∧(Pol.bz n a b u x v y).2.1.len≤64∧(Pol.bz n a b u x v y).2.2.len≤64 ∧
 dn O 0 (.loop Z2q_L0) ⟨[(0,(.d (.int .i64 p))),(4,.ptr 0 []),(5,.ptr 1 []),(6,.ptr 2 []),(7,.ptr 3 []),(8,.ptr 4 []),(9,.ptr 5 []),(10,.ptr 6 []),(11,.ptr 7 []),(12,.ptr 8 [])],[.box false (D.arr 64 .leaf (ae .u8 (pad (row a)))),.box false (D.arr 64 .leaf (ae .u8 (pad (row b)))),.box false (D.arr 64 .leaf (ae .u8 z)),.box false (D.arr 64 .leaf (ae .u8 z)),.box false (D.arr 64 .leaf (ae .u8 z)),.box false (D.arr 64 .leaf (ae .u8 (pad (row u)))),.box false (D.arr 64 .leaf (ae .u8 (pad (row x)))),.box false (D.arr 64 .leaf (ae .u8 (pad (row v)))),.box false (D.arr 64 .leaf (ae .u8 (pad (row y)))),.hole,.hole,.hole,.hole,.hole,.hole]⟩ =
  some (.exit 0,⟨[(0,(.d (.int .i64 p))),(4,.ptr 0 []),(5,.ptr 1 []),(6,.ptr 2 []),(7,.ptr 3 []),(8,.ptr 4 []),(9,.ptr 5 []),(10,.ptr 6 []),(11,.ptr 7 []),(12,.ptr 8 []),(28,(.d (.bool false)))],[.box false (D.arr 64 .leaf (ae .u8 (pad (row (Pol.bz n a b u x v y).1)))),.box false (D.arr 64 .leaf (ae .u8 (pad []))),.box false (D.arr 64 .leaf (ae .u8 z)),.box false (D.arr 64 .leaf (ae .u8 z)),.box false (D.arr 64 .leaf (ae .u8 z)),.box false (D.arr 64 .leaf (ae .u8 (pad (row (Pol.bz n a b u x v y).2.1)))),.box false (D.arr 64 .leaf (ae .u8 x')),.box false (D.arr 64 .leaf (ae .u8 (pad (row (Pol.bz n a b u x v y).2.2)))),.box false (D.arr 64 .leaf (ae .u8 y')),.hole,.hole,.hole,.hole,.hole,.hole]⟩):=by
 intro n
 have stop:∀(a u x v y:Fp p),dn O 0 (.loop Z2q_L0) ⟨[(0,(.d (.int .i64 p))),(4,.ptr 0 []),(5,.ptr 1 []),(6,.ptr 2 []),(7,.ptr 3 []),(8,.ptr 4 []),(9,.ptr 5 []),(10,.ptr 6 []),(11,.ptr 7 []),(12,.ptr 8 [])],[.box false (D.arr 64 .leaf (ae .u8 (pad (row a)))),.box false (D.arr 64 .leaf (ae .u8 (pad (row (0:Fp p))))),.box false (D.arr 64 .leaf (ae .u8 z)),.box false (D.arr 64 .leaf (ae .u8 z)),.box false (D.arr 64 .leaf (ae .u8 z)),.box false (D.arr 64 .leaf (ae .u8 (pad (row u)))),.box false (D.arr 64 .leaf (ae .u8 (pad (row x)))),.box false (D.arr 64 .leaf (ae .u8 (pad (row v)))),.box false (D.arr 64 .leaf (ae .u8 (pad (row y)))),.hole,.hole,.hole,.hole,.hole,.hole]⟩ =
  some (.exit 0,⟨[(0,(.d (.int .i64 p))),(4,.ptr 0 []),(5,.ptr 1 []),(6,.ptr 2 []),(7,.ptr 3 []),(8,.ptr 4 []),(9,.ptr 5 []),(10,.ptr 6 []),(11,.ptr 7 []),(12,.ptr 8 []),(28,(.d (.bool false)))],[.box false (D.arr 64 .leaf (ae .u8 (pad (row a)))),.box false (D.arr 64 .leaf (ae .u8 (pad []))),.box false (D.arr 64 .leaf (ae .u8 z)),.box false (D.arr 64 .leaf (ae .u8 z)),.box false (D.arr 64 .leaf (ae .u8 z)),.box false (D.arr 64 .leaf (ae .u8 (pad (row u)))),.box false (D.arr 64 .leaf (ae .u8 (pad (row x)))),.box false (D.arr 64 .leaf (ae .u8 (pad (row v)))),.box false (D.arr 64 .leaf (ae .u8 (pad (row y)))),.hole,.hole,.hole,.hole,.hole,.hole]⟩):=by
  intro a u x v y;have e:=hdg p 0 (by rw [Pol.len_zero]; omega)
  rw [cw,Pol.len_zero] at e;rw [cw];refine bi ?_;generalize pad (row a)=Pa;generalize pad (row u)=Pu;generalize pad (row x)=Px;generalize pad (row v)=Pv;generalize pad (row y)=Py;simp -implicitDefEqProofs [Z2q_L0,af,e]
 induction n with
 | zero=>
  intro a b u x v y hn hs;obtain rfl:=Pol.len_zero_iff.1 (show b.len=0 by omega)
  exact ⟨_,_,hs.ne,hs.la,hs.lu,hs.lv,stop a u x v y⟩
 | succ n ih=>
  intro a b u x v y hn hs;unfold Pol.bz
  by_cases h0:b=0
  ·subst h0
   rw [if_pos rfl];exact ⟨_,_,hs.ne,hs.la,hs.lu,hs.lv,stop a u x v y⟩
  ·rw [if_neg h0]
   obtain ⟨s0,s1,s2,s3,s4,s5,s6⟩:=hs.step hA hB h0;have hl:=Pol.len_mod a h0;have hp:=Pol.len_pos h0;obtain ⟨x',y',g1,g2,g3,g4,e⟩:=ih b (a%b) x (u-a/b*x) y (v-a/b*y) (by omega) s0
   exact ⟨x',y',g1,g2,g3,g4,bh (U3 hdg hd ht ha h0 hs.la hs.lb hs.lu hs.lv s1 s2 s3 s4 s5) e⟩
theorem Wz {O:ac} (hdg:jo O) (hd:na O) (ht:rz O) (ha:ot O) {p:Int} [IsP p] {a b:Fp p} {z:List Int} (h:a≠0∨b≠0) (hal:a.len≤64) (hbl:b.len≤64):∃x' y':List Int,(Pol.bz b.len a b 1 0 0 1).1≠0∧(Pol.bz b.len a b 1 0 0 1).1.len≤64∧(Pol.bz b.len a b 1 0 0 1).2.1.len≤64∧(Pol.bz b.len a b 1 0 0 1).2.2.len≤64 ∧
 dn O 0 (.loop Z2q_L0) ⟨[(0,(.d (.int .i64 p))),(4,.ptr 0 []),(5,.ptr 1 []),(6,.ptr 2 []),(7,.ptr 3 []),(8,.ptr 4 []),(9,.ptr 5 []),(10,.ptr 6 []),(11,.ptr 7 []),(12,.ptr 8 [])],[.box false (D.arr 64 .leaf (ae .u8 (pad (row a)))),.box false (D.arr 64 .leaf (ae .u8 (pad (row b)))),.box false (D.arr 64 .leaf (ae .u8 z)),.box false (D.arr 64 .leaf (ae .u8 z)),.box false (D.arr 64 .leaf (ae .u8 z)),.box false (D.arr 64 .leaf (ae .u8 (pad (row (1:Fp p))))),.box false (D.arr 64 .leaf (ae .u8 (pad (row (0:Fp p))))),.box false (D.arr 64 .leaf (ae .u8 (pad (row (0:Fp p))))),.box false (D.arr 64 .leaf (ae .u8 (pad (row (1:Fp p))))),.hole,.hole,.hole,.hole,.hole,.hole]⟩ =
  some (.exit 0,⟨[(0,(.d (.int .i64 p))),(4,.ptr 0 []),(5,.ptr 1 []),(6,.ptr 2 []),(7,.ptr 3 []),(8,.ptr 4 []),(9,.ptr 5 []),(10,.ptr 6 []),(11,.ptr 7 []),(12,.ptr 8 []),(28,(.d (.bool false)))],[.box false (D.arr 64 .leaf (ae .u8 (pad (row (Pol.bz b.len a b 1 0 0 1).1)))),.box false (D.arr 64 .leaf (ae .u8 (pad []))),.box false (D.arr 64 .leaf (ae .u8 z)),.box false (D.arr 64 .leaf (ae .u8 z)),.box false (D.arr 64 .leaf (ae .u8 z)),.box false (D.arr 64 .leaf (ae .u8 (pad (row (Pol.bz b.len a b 1 0 0 1).2.1)))),.box false (D.arr 64 .leaf (ae .u8 x')),.box false (D.arr 64 .leaf (ae .u8 (pad (row (Pol.bz b.len a b 1 0 0 1).2.2)))),.box false (D.arr 64 .leaf (ae .u8 y')),.hole,.hole,.hole,.hole,.hole,.hole]⟩):=by
 by_cases h0:a=0
 ·subst h0
  have hb:=h.resolve_left (fun h=>h rfl)
  have hp:=Pol.len_pos hb;obtain ⟨k,hk⟩:∃k,b.len=k+1:=⟨b.len-1,by omega⟩
  have h1:(1:Fp p).len=1:=Pol.len_one;have hz:(0:Fp p).len=0:=Pol.len_zero;have hq:(0:Fp p)/b=0:=(Pol.div_mod_eq (a:=(0:Fp p)) (b:=b) (q:=0) (r:=0) (by rw [Gq.zero_mul,Gq.zero_add]) (by omega)).1
  have hs0:∀c:Fp p,c-0=c:=fun c=>by rw [Gq.sub_eq,rt,Gq.add_zero]
  have hr:(0:Fp p)%b=0:=Pol.zero_mod hb;have e:=U3 (z:=z) hdg hd ht ha (a:=0) (b:=b) (u:=1) (x:=0) (v:=0) (y:=1) hb (by omega) hbl (by omega) (by omega) (by omega) (by omega) (by rw [hq]; omega) (by rw [hq,Gq.zero_mul]; omega) (by rw [hq,Gq.zero_mul]; omega)
  rw [hk];unfold Pol.bz;rw [if_neg hb];rw [hq,hr,Gq.zero_mul,Gq.zero_mul,hs0,hs0] at e ⊢;have hi:Pol.BzI (0:Fp p) b b 0 0 1 1 0:=⟨by rw [Gq.zero_mul,Gq.zero_add,Gq.one_mul],by rw [Gq.mul_zero,Gq.zero_mul,Gq.add_zero],.inr (by omega),.inl hz,.inl hz,.inr (by omega),.inl hb⟩
  obtain ⟨x',y',g1,g2,g3,g4,e2⟩:=Vk (O:=O) (z:=z) hdg hd ht ha (A:=0) (B:=b) (by omega) hbl k b 0 0 1 1 0 (by omega) ⟨hi,hbl,by omega,by omega,by omega,hb⟩
  exact ⟨x',y',g1,g2,g3,g4,bh e e2⟩
 ·exact Vk (O:=O) (z:=z) hdg hd ht ha hal hbl b.len a b 1 0 0 1 (ap _) ⟨Pol.BzI.init (.inl h0),hal,hbl,by rw [Pol.len_one]; omega,by rw [Pol.len_zero]; omega,h0⟩
def z9 (O:ac):Prop:=∀(p:Int) [IsP p] (a b:Fp p),a≠0∨b≠0→a.len≤64→b.len≤64 →
 ask O F2q [(D.int .i64 p),(D.arr 64 .leaf (ae .u8 (pad (row a)))),(D.arr 64 .leaf (ae .u8 (pad (row b))))]=some (.tup [(D.arr 64 .leaf (ae .u8 (pad (row (Pol.bezout a b).1)))),(D.arr 64 .leaf (ae .u8 (pad (row (Pol.bezout a b).2.1)))),(D.arr 64 .leaf (ae .u8 (pad (row (Pol.bezout a b).2.2))))])
theorem Qm (hT:T F2q=some Z2q) (h1:uk (den T A)) (hdg:jo (den T A)) (hd:na (den T A)) (ht:rz (den T A)) (ha:ot (den T A)) (hinv:qb (den T A)):z9 (den T A):=by
 intro p i a b h0 hal hbl;have hp:=IsP.ge (p:=p);have hp7:=IsP.le (p:=p);have e1:=h1 p;obtain ⟨x',y',g1,g2,g3,g4,e2⟩:=Wz (O:=den T A) (z:=pad []) hdg hd ht ha h0 hal hbl;unfold Pol.bezout;have heu:Pol.eu a b=Pol.bz b.len a b 1 0 0 1:=rfl;rw [heu];generalize Pol.bz b.len a b 1 0 0 1=R at *;obtain ⟨d,u,v⟩:=R;simp only at g1 g2 g3 g4 e2 ⊢;rw [cw] at e2;have hd1:=Pol.len_pos g1;have e3:=hdg p d g2;rw [show ((d.len:Int)-1)=((d.len-1:Nat):Int) by omega] at e3
 have hi64:d.len-1<64:=by omega
 have hx:(pad (row d))[d.len-1]? = some (rep d.ld):=by rw [qy _ _ hi64,e9]; rfl
 have hr:=gw d.ld;have hr0:rep d.ld≠0:=fun h=>Pol.ld_ne g1 (fy.1 h)
 have hin:=xj p (rep d.ld);have e4:=hinv p (rep d.ld) (by omega) hr.2
 have w1:IntKind.i64.wrap (inv p (rep d.ld))=inv p (rep d.ld):=w64 (by omega)
 have z0:(0:Fp p).len≤64:=by rw [Pol.len_zero]; omega
 have e5:=ha p (inv p (rep d.ld)) 0 d (by omega) (by omega) z0 g2
 have e6:=ha p (inv p (rep d.ld)) 0 u (by omega) (by omega) z0 g3
 have e7:=ha p (inv p (rep d.ld)) 0 v (by omega) (by omega) z0 g4
 rw [ur _ (Pol.ld_ne g1),Gq.zero_add,cw] at e5 e6 e7;refine bj hT rfl ?_;generalize pad (row (Pol.C (Fd.inv d.ld)*d))=P1 at *;generalize pad (row (Pol.C (Fd.inv d.ld)*u))=P2 at *;generalize pad (row (Pol.C (Fd.inv d.ld)*v))=P3 at *;generalize pad (row d)=Pd at *;generalize pad (row u)=Pu at *;generalize pad (row v)=Pv at *;generalize pad (row a)=Pa at *;generalize pad (row b)=Pb at *;generalize pad (row (1:Fp p))=P0 at *;generalize d.len-1=n1 at *;simp -implicitDefEqProofs [Z2q,Z2q_B,e1,e2,e3,e4,e5,e6,e7,hi64,hx,w1,List.replicate]
def Dh (O:ac):Prop:=∀(p:Int) [IsP p] (a b:Fp p),a≠0→a.len≤64→b.len≤64 →
 ask O F2u [(D.int .i64 p),(D.arr 64 .leaf (ae .u8 (pad (row a)))),(D.arr 64 .leaf (ae .u8 (pad (row b))))]=some (D.arr 64 .leaf (ae .u8 (pad (row (Pol.gcd a b)))))
theorem a12 (hT:T F2u=some Z2u) (hdg:jo (den T A)) (hb:z9 (den T A)):Dh (den T A):=by
 intro p i a b h0 hal hbl;have e1:=hdg p a hal;have e2:=hb p a b (.inl h0) hal hbl;have hp:=Pol.len_pos h0;have hge:¬ ((a.len:Int)-1<0):=by omega
 refine bj hT rfl ?_;unfold Pol.gcd;generalize pad (row (Pol.bezout a b).1)=P1 at *;generalize pad (row (Pol.bezout a b).2.1)=P2 at *;generalize pad (row (Pol.bezout a b).2.2)=P3 at *;generalize pad (row a)=Pa at *;generalize pad (row b)=Pb at *;generalize (a.len:Int)-1=n1 at *;simp -implicitDefEqProofs [Z2u,Z2u_B,af,e1,e2,hge,List.replicate]
def W6 (O:ac):Prop:=∀(p:Int) [IsP p],ask O F34 []=some (D.arr 64 .leaf (ae .u8 (pad (row (Pol.X:Fp p)))))
theorem a7p (hT:T F34=some Z34):W6 (den T A):=by
 intro p i;have e:((pad []).set 0 0).set 1 1=pad [0,1]:=by decide +kernel
 have h0:(pad [])[0]? = some 0:=by decide +kernel
 have h1:(pad [])[1]? = some 0:=by decide +kernel
 rw [Pf];refine bj hT rfl ?_;simp -implicitDefEqProofs [Z34,Z34_B,e,h0,h1]
open Classical in
theorem Tk {O:ac} (hdg:jo O) (hpw:pf O) (hg:Dh O) (ha:ot O) (ht:W6 O) {p:Int} [IsP p] {m:Fp p} (hm:m≠0) (hml:m.len≤13) {n:Nat} (hn:n+1=m.len):∀(f k:Nat),1≤k→k+f=n/2+1→∃P':List Int,
 dn O 0 (.loop Z2w_L0) ⟨[(0,(.d (.int .i64 p))),(3,.ptr 0 []),(5,(.d (.int .i64 n))),(6,.ptr 1 []),(7,(.d (.int .i64 k)))],[.box false (D.arr 64 .leaf (ae .u8 (pad (row m)))),.box false (D.arr 64 .leaf (ae .u8 (pad (row (pw Pol.X (p.toNat^(k-1))%m)))))]⟩ =
  if ∀k',k≤k'→2*k'≤n→(Pol.gcd m (frW m k')).len=1 then some (.exit 0,⟨[(0,(.d (.int .i64 p))),(3,.ptr 0 []),(5,(.d (.int .i64 n))),(6,.ptr 1 []),(7,(.d (.int .i64 (((n/2+1:Nat):Int))))),(19,(.d (.bool false)))],[.box false (D.arr 64 .leaf (ae .u8 (pad (row m)))),.box false (D.arr 64 .leaf (ae .u8 P'))]⟩)
  else some (.ret,⟨[(4,(.d (.bool false)))],[.hole,.hole]⟩)
 | 0,k,hk,hf=>by
  obtain rfl:k=n/2+1:=by omega
  refine ⟨pad (row (pw Pol.X (p.toNat^(n/2+1-1))%m)),?_⟩;rw [if_pos (fun k' h1 h2=>by omega)]
  have w1:IntKind.i64.wrap (2*((n/2+1:Nat):Int))=2*((n/2+1:Nat):Int):=w64 (by omega)
  have hlt:¬ (2*((n/2+1:Nat):Int)≤n):=by omega
  refine bi ?_;generalize ((n/2+1:Nat):Int)=k1 at *;generalize pad (row (pw Pol.X (p.toNat^(n/2+1-1))%m))=P1 at *;generalize pad (row m)=Pm at *;simp -implicitDefEqProofs [Z2w_L0,af,w1,hlt]
 | f+1,k,hk,hf=>by
  have hp:=IsP.pos (p:=p);have hp7:=IsP.le (p:=p);have w1:IntKind.i64.wrap (2*(k:Int))=2*(k:Int):=w64 (by omega)
  have hlt:2*(k:Int)≤n:=by omega
  have w4:IntKind.i64.wrap ((k:Int)+1)=((k+1:Nat):Int):=(w64 (x:=(k:Int)+1) (by omega)).trans (by omega)
  have hl1:=Pol.len_mod (pw Pol.X (p.toNat^(k-1))) hm;have hl2:=Pol.len_mod (pw Pol.X (p.toNat^k)) hm;have e1:=hpw p (pw Pol.X (p.toNat^(k-1))%m) p m hm (by omega) (by omega) (by omega) (by omega)
  have e2:pw (pw Pol.X (p.toNat^(k-1))%m) p.toNat%m=pw Pol.X (p.toNat^k)%m:=by
   rw [Pol.pow_mod _ hm,n5,←df,show (k-1).succ=k by omega]
  rw [e2] at e1;have e3:=ht p;have hX:(Pol.X:Fp p).len≤64:=by rw [Pol.len_X]; omega
  have e4:=ha p (-1) (pw Pol.X (p.toNat^k)%m) Pol.X (by omega) (by omega) (by omega) hX
  rw [Cs] at e4;have e4':pw Pol.X (p.toNat^k)%m-Pol.X=frW m k:=rfl;rw [e4'] at e4;have hl3:(frW m k).len≤64:=Pol.len_sub_le (by omega) hX
  have e5:=hg p m (frW m k) hm (by omega) hl3
  have hgm:=Pol.gcd_monic (a:=m) (b:=frW m k) (.inl hm);have hgl:=(Pol.gcd_dv_left (a:=m) (b:=frW m k) (.inl hm)).len hm;have e6:=hdg p (Pol.gcd m (frW m k)) (by omega)
  have hg1:=Pol.len_pos hgm.2
  by_cases hc:(Pol.gcd m (frW m k)).len=1
  ·obtain ⟨P',ih⟩:=Tk hdg hpw hg ha ht hm hml hn f (k+1) (by omega) (by omega)
   rw [show k+1-1=k by omega] at ih
   refine ⟨P',?_⟩
   have hiff:(∀k',k≤k'→2*k'≤n→(Pol.gcd m (frW m k')).len=1)↔∀k',k+1≤k'→2*k'≤n→(Pol.gcd m (frW m k')).len=1:=by
    constructor
    ·intro h k' h1 h2; exact h k' (by omega) h2
    ·intro h k' h1 h2
     by_cases hkk:k'=k
     ·rw [hkk]; exact hc
     ·exact h k' (by omega) h2
   rw [propext hiff];refine bh ?_ ih;rw [hc] at e6;have e7:((1:Nat):Int)-1=0:=rfl;rw [e7] at e6;generalize pad (row (Pol.gcd m (frW m k)))=Pg at *;generalize pad (row (frW m k))=Pw at *;generalize pad (row (pw Pol.X (p.toNat^k)%m))=P2 at *;generalize pad (row (pw Pol.X (p.toNat^(k-1))%m))=P1 at *;generalize pad (row (Pol.X:Fp p))=PX at *;generalize pad (row m)=Pm at *;simp -implicitDefEqProofs [Z2w_L0,af,w1,hlt,e1,e3,e4,e5,e6,w4]
  ·refine ⟨pad [],?_⟩
   rw [if_neg (fun h=>hc (h k (ap k) (by omega)))]
   have hne:¬ (((Pol.gcd m (frW m k)).len:Int)-1=0):=by omega
   refine p7 ?_;generalize ((Pol.gcd m (frW m k)).len:Int)-1=g1 at *;generalize pad (row (Pol.gcd m (frW m k)))=Pg at *;generalize pad (row (frW m k))=Pw at *;generalize pad (row (pw Pol.X (p.toNat^k)%m))=P2 at *;generalize pad (row (pw Pol.X (p.toNat^(k-1))%m))=P1 at *;generalize pad (row (Pol.X:Fp p))=PX at *;generalize pad (row m)=Pm at *;simp -implicitDefEqProofs [Z2w_L0,af,w1,hlt,e1,e3,e4,e5,e6,hne]
open Classical in
def C5 (O:ac):Prop:=∀(p:Int) [IsP p] (m:Fp p),m≠0→m.len≤13→ask O F2w [(D.int .i64 p),(D.arr 64 .leaf (ae .u8 (pad (row m))))]=some (D.bool (decide (Irr m)))
open Classical in
theorem a0f (hT:T F2w=some Z2w) (hdg:jo (den T A)) (hmo:yy (den T A)) (hpw:pf (den T A)) (hg:Dh (den T A)) (ha:ot (den T A)) (ht:W6 (den T A)):C5 (den T A):=by
 intro p i m hm hml;have e1:=hdg p m (by omega)
 have e2:=ht p;have e3:=hmo p Pol.X m hm (by rw [Pol.len_X]; omega) (by omega)
 have h1:=Pol.len_pos hm;refine bj hT rfl ?_
 by_cases h2:2≤m.len
 ·obtain ⟨P',e4⟩:=Tk (O:=den T A) hdg hpw hg ha ht hm hml (n:=m.len-1) (by omega) ((m.len-1)/2) 1 (ap 1) (by omega)
  have e5:pw (Pol.X:Fp p) (p.toNat^(1-1))=Pol.X:=by rw [p9,je,x8]
  rw [e5,Sf h2 hml] at e4;rw [show ((m.len:Int)-1)=((m.len-1:Nat):Int) by omega] at e1
  have hlt:¬ (((m.len-1:Nat):Int)<1):=by omega
  have e01:((1:Nat):Int)=1:=rfl;rw [e01] at e4
  by_cases hi:Irr m
  ·rw [if_pos hi] at e4
   rw [decide_eq_true hi];generalize (((m.len-1)/2+1:Nat):Int)=k1 at *;generalize ((m.len-1:Nat):Int)=n1 at *;generalize pad (row (Pol.X%m))=P1 at *;generalize pad (row (Pol.X:Fp p))=PX at *;generalize pad (row m)=Pm at *;simp -implicitDefEqProofs [Z2w,Z2w_B,af,e1,e2,e3,e4,hlt,List.replicate]
  ·rw [if_neg hi] at e4
   rw [decide_eq_false hi];generalize ((m.len-1:Nat):Int)=n1 at *;generalize pad (row (Pol.X%m))=P1 at *;generalize pad (row (Pol.X:Fp p))=PX at *;generalize pad (row m)=Pm at *;simp -implicitDefEqProofs [Z2w,Z2w_B,af,e1,e2,e3,e4,hlt,List.replicate]
 ·have hl:m.len=1:=by omega
  rw [hl] at e1;have e7:((1:Nat):Int)-1=0:=rfl;rw [e7] at e1;rw [decide_eq_false (fun h:Irr m=>h2 h.len)]
  generalize pad (row (Pol.X%m))=P1 at *;generalize pad (row (Pol.X:Fp p))=PX at *;generalize pad (row m)=Pm at *;simp -implicitDefEqProofs [Z2w,Z2w_B,af,e1,e2,e3,List.replicate]
end Pe


namespace Pe
open Go Gq
variable {T:Nat→Option Fn} {A:ac}
def Dd:List Int→Nat→List Int→List Int
 | [],_,cur=>cur
 | d::ds,i,cur=>Dd ds (i+1) (cur.set i d)
theorem zu:∀(ds:List Int) (i:Nat) (cur:List Int),(Dd ds i cur).length=cur.length
 | [],_,_=>rfl
 | d::ds,i,cur=>by rw [Dd,zu,bt]
theorem Ps:∀(ds:List Int) (i:Nat) (cur:List Int) (j:Nat),i+ds.length≤cur.length→cf (Dd ds i cur) j=if i≤j∧j<i+ds.length then cf ds (j-i) else cf cur j
 | [],i,cur,j,_=>by rw [Dd,if_neg (by rintro ⟨h1,h2⟩; rw [f0] at h2; omega)]
 | d::ds,i,cur,j,h=>by
  simp at h;rw [Dd,Ps ds (i+1) _ j (by rw [bt]; omega),qj,bf]
  by_cases h1:j=i
  ·subst h1
   rw [if_neg (by omega),if_pos ⟨rfl,by omega⟩,if_pos (by omega),p9]; rfl
  ·by_cases h2:i+1≤j∧j<i+1+ds.length
   ·rw [if_pos h2,if_pos (by omega)]
    obtain ⟨k,hk⟩:∃k,j-i=k+1:=⟨j-i-1,by omega⟩
    rw [hk,show j-(i+1)=k by omega]
    simp [cf]
   ·rw [if_neg h2,if_neg (by omega),if_neg (by omega)]
theorem Ud {ds:List Int} (h:ds.length≤64):Dd ds 0 (pad [])=pad ds:=by
 symm
 apply N3 (by rw [zu,bm])
 intro i hi;rw [Ps _ _ _ _ (by rw [bm]; omega)]
 by_cases h1:i<ds.length
 ·rw [if_pos (by omega),Nat.sub_zero]
 ·rw [if_neg (by omega),uu (by simp),jw (by omega),jw (by simp)]
theorem Xz {O:ac} {p:Int} [IsP p] {z:List Int}:∀(f:Nat) (n:Int) (i:Nat) (cur:List Int),0≤n→n<2^f→n<9223372036854775807→i+f≤64→cur.length=64→∃i':Nat,
 dn O 0 (.loop Z30_L0) ⟨[(0,(.d (.int .i64 p))),(1,(.d (.int .i64 n))),(4,.ptr 0 []),(5,.ptr 1 []),(6,(.d (.int .i64 i)))],[.box false (D.arr 64 .leaf (ae .u8 z)),.box false (D.arr 64 .leaf (ae .u8 cur))]⟩ =
  some (.exit 0,⟨[(0,(.d (.int .i64 p))),(1,(.d (.int .i64 0))),(4,.ptr 0 []),(5,.ptr 1 []),(6,(.d (.int .i64 i'))),(9,(.d (.bool false)))],[.box false (D.arr 64 .leaf (ae .u8 z)),.box false (D.arr 64 .leaf (ae .u8 (Dd (dgs p f n) i cur)))]⟩)
 | 0,n,i,cur,h0,hn,hm,hi,hc=>by
  obtain rfl:n=0:=by simp at hn; omega
  exact ⟨i,bi (by simp -implicitDefEqProofs [Z30_L0,af,dgs,Dd])⟩
 | f+1,n,i,cur,h0,hn,hm,hi,hc=>by
  have hp:=IsP.ge (p:=p);have hp7:=IsP.le (p:=p)
  by_cases hz:n=0
  ·subst hz
   refine ⟨i,?_⟩;rw [dgs,if_pos (rg 0),Dd];exact bi (by simp -implicitDefEqProofs [Z30_L0,af])
  ·have hd:n/p<2^f:=by
    apply dl (by omega)
    have:(2:Int)^(f+1)=2^f*2:=c9 _ _;have h2:(2:Int)^f*2≤2^f*p:=b4 hp (k9 (by omega))
    omega
   have hdn:0≤n/p:=gr (by omega) (by omega)
   have hdl:n/p≤n:=Int.ediv_le_self _ h0;obtain ⟨i',e⟩:=Xz (O:=O) (p:=p) (z:=z) f (n/p) (i+1) (cur.set i (n%p)) hdn hd (by omega) (by omega) (by simpa using hc)
   have hpos:0<n:=by omega
   have hr:0≤n%p∧n%p<p:=⟨c8 _ (by omega),bq _ (by omega)⟩
   have w1:IntKind.i64.wrap (n.tdiv p)=n/p:=by rw [bn h0,w64 (by omega)]
   have w2:n.tmod p=n%p:=br h0;have w3:IntKind.u8.wrap (n%p)=n%p:=w8 (by omega)
   have w4:IntKind.i64.wrap ((i:Int)+1)=((i+1:Nat):Int):=(w64 (x:=(i:Int)+1) (by omega)).trans (by omega)
   have hp0:p≠0:=by omega
   have hi64:i<64:=by omega
   have hic:i<cur.length:=by omega
   refine ⟨i',?_⟩;rw [dgs,if_neg (by omega),Dd]
   refine bh ?_ e;simp -implicitDefEqProofs [Z30_L0,af,hpos,w1,w2,w3,w4,hp0,hi64,hic]
def Bd (O:ac):Prop:=∀(p:Int) [IsP p] (n:Int),0≤n→n<4611686018427387904→ask O F30 [(D.int .i64 p),(D.int .i64 n)]=some (D.arr 64 .leaf (ae .u8 (pad (row (bx p n)))))
theorem a2k (hT:T F30=some Z30):Bd (den T A):=by
 intro p i n h0 hn;obtain ⟨i',e⟩:=Xz (O:=den T A) (p:=p) (z:=pad []) 64 n 0 (pad []) h0 (by omega) (by omega) (by omega) (bm _)
 rw [Ud (Lh p 64 n),←C9 (by omega)] at e
 have e0:((0:Nat):Int)=0:=rfl;rw [e0] at e;refine bj hT rfl ?_;generalize pad (row (bx p n))=R at *;simp -implicitDefEqProofs [Z30,Z30_B,e]
theorem Ef (k:IntKind):∀{l m:List Int},l.length=m.length→D.beqs .int (ae k l) (ae k m)=some (decide (l=m))
 | [],[],_=>by simp [D.beqs,ae]
 | x::l,y::m,h=>by
  have e:D.beqs .int (ae k (x::l)) (ae k (y::m))=(D.beq .int (.int k x) (.int k y)).bind fun b=>if b then D.beqs .int (ae k l) (ae k m) else some false:=rfl
  rw [e];have e2:D.beq .int (.int k x) (.int k y)=some (decide (x=y)):=by simp [D.beq]
  rw [e2,a9,Ef k (by simpa using h)]
  by_cases h1:x=y
  ·subst h1; simp
  ·simp [h1]
theorem a4a {l m:List Int} (hl:l.length=64) (hm:m.length=64):D.beq (.arr 64 .leaf .int) (D.arr 64 .leaf (ae .u8 l)) (D.arr 64 .leaf (ae .u8 m))=some (decide (l=m)):=by
 have e:D.beq (.arr 64 .leaf .int) (D.arr 64 .leaf (ae .u8 l)) (D.arr 64 .leaf (ae .u8 m))=if 64=64∧64=64∧Sh.beq .leaf .leaf∧Sh.beq .leaf .leaf then D.beqs .int (ae .u8 l) (ae .u8 m) else none:=rfl
 rw [e,if_pos ⟨rfl,rfl,rfl,rfl⟩,Ef _ (by omega)]
theorem tg {p:Int} {a b:Fp p} (ha:a.len≤64) (hb:b.len≤64):pad (row a)=pad (row b)↔a=b:=by
 constructor
 ·intro h
  rw [←sb ha,h,sb hb]
 ·rintro rfl; rfl
theorem Jz {p:Int} {a b:Fp p} (_ha:a.len≤64) (_hb:b.len≤64):D.beq (.arr 64 .leaf .int) (D.arr 64 .leaf (ae .u8 (pad (row a)))) (D.arr 64 .leaf (ae .u8 (pad (row b))))=some (decide (pad (row a)=pad (row b))):=a4a (bm _) (bm _)
section
variable {p:Int} [IsP p]
structure SInv (a0:Fp p) (k:Int) (a:Fp p) (out:iq p):Prop where
 ne:a≠0
 eq:a0=a*i8 out
 ok:FacOk out
 so:out.Pairwise fun x y=>dg x.1<dg y.1
 lt:∀x∈out,dg x.1<k
 ge:∀q,Irr q→Monic q→Dv q a→k≤dg q
 ln:out.length+a.len≤13
structure SEnd (a0 a:Fp p) (out:iq p):Prop where
 ne:a≠0
 eq:a0=a*i8 out
 ok:FacOk out
 so:out.Pairwise fun x y=>dg x.1<dg y.1
 irr:2≤a.len→Irr a∧∀x∈out,dg x.1<dg (mon a)
 ln:out.length+a.len≤13
theorem Mh {q a:Fp p} (hq:Irr q) (h:Dv q a):Dv (mon q) a:=(tr hq.ne).2 h
theorem SInv.small {a0 a:Fp p} {n:Nat} {k:Int} {out:iq p} (h:SInv a0 k a out) (_hn:n≤12) (hk:p^n≤k):ve n a:=by
 intro q hq hd;have h1:=h.ge _ hq.mon (nv hq.ne) (Mh hq hd);have h2:=xy (mon q);rw [y9 hq.ne] at h2;apply bv;intro hx;have:=ia (p:=p) (by have:=IsP.pos (p:=p); omega) (show q.len≤n by omega)
 omega
theorem SInv.step {a0 a:Fp p} {n:Nat} {k:Int} {out:iq p} (h:SInv a0 k a out) (hn1:1≤n) (hn:n≤12) (hk:p^n≤k) (hk2:k<2*p^n) {j:Nat} {r:Fp p} (h1:a=r*pw (bx p k) j) (h2:¬ Dv (bx p k) r) :
 SInv a0 (k+1) r (if j=0 then out else out++[(bx p k,j)]):=by
 obtain ⟨m1,m2⟩:=ju hn hk hk2;have hb:=o4 (p:=p) hn;have hpos:=lc (p:=p) n;have hnum:dg (bx p k)=k:=sw ⟨by omega,by omega⟩
 have hr0:r≠0:=fun h0=>h.ne (by rw [h1,h0,Gq.zero_mul])
 have ge':∀q,Irr q→Monic q→Dv q r→k+1≤dg q:=by
  intro q hq hm hd;have g1:=h.ge q hq hm (by rw [h1]; exact hd.mul_right _)
  have g2:dg q≠k:=fun e=>by
   have:q=bx p k:=Ei (by rw [e,hnum])
   exact h2 (this▸hd)
  omega
 by_cases hj:j=0
 ·subst hj
  rw [if_pos rfl];rw [pw,Gq.mul_one] at h1;subst h1;exact ⟨h.ne,h.eq,h.ok,h.so,fun x hx=>by have:=h.lt x hx; omega,ge',h.ln⟩
 ·rw [if_neg hj]
  have hda:Dv (bx p k) a:=by
   obtain ⟨i,rfl⟩:∃i,j=i+1:=⟨j-1,by omega⟩
   rw [h1,pw];exact ((Dv.refl _).mul_left _).mul_left _
  have hi:Irr (bx p k):=by
   refine Irr.of_dv (by omega) fun u hu=>?_
   have hul:=hu.len m1.2
   have hu0:u≠0:=fun h0=>by
    obtain ⟨c,hc⟩:=hu;exact m1.2 (by rw [hc,h0,Gq.zero_mul])
   have hup:=Pol.len_pos hu0
   by_cases hu1:u.len=1
   ·exact .inl hu1
   ·right
    obtain ⟨q,q1,q2,q3⟩:=yz u.len u (ap _) (by omega)
    have g1:=h.ge q q1 q2 ((q3.trans hu).trans hda);have g2:=q3.len hu0;apply bv;intro hx;have g3:=pn (a:=q) (b:=bx p k) (by omega)
    omega
  have hlt:r.len<a.len:=by
   obtain ⟨i,rfl⟩:∃i,j=i+1:=⟨j-1,by omega⟩
   have hi0:=Bu hi.ne i;have l1:=Pol.len_mul hi0 hi.ne;have l2:=Pol.len_mul hr0 (Pol.mul_ne hi0 hi.ne);have l3:=Pol.len_pos hi0;rw [h1,pw]; omega
  refine ⟨hr0,?_,h.ok.snoc hi m1 (by omega) fun x hx e=>?_,?_,?_,ge',?_⟩
  ·rw [h.eq,sy]
   conv=>lhs; rw [h1]
   exact ba [r,pw (bx p k) j,i8 out] rfl
  ·have:=h.lt x hx
   rw [e,hnum] at this; omega
  ·rw [fc]
   refine ⟨h.so,dy _ _,fun x hx y hy=>?_⟩
   simp at hy; subst hy;have:=h.lt x hx;rw [hnum]; exact this
  ·intro x hx
   rcases au.1 hx with hx | hx
   ·have:=h.lt x hx; omega
   ·simp at hx; subst hx; rw [hnum]; omega
  ·have:=h.ln
   simp; omega
theorem SInv.next {a0 a:Fp p} {n:Nat} {out:iq p} (h:SInv a0 (2*p^n) a out) (hn:n≤11):SInv a0 (p^(n+1)) a out:=by
 refine ⟨h.ne,h.eq,h.ok,h.so,fun x hx=>?_,fun q hq hm hd=>?_,h.ln⟩
 ·have:=h.lt x hx
  have:=El (p:=p) n;omega
 ·have h1:=h.ge q hq hm hd
  have hq0:=Pol.len_pos hm.2;rcases cb (n+1) q.len with h2 | h2
  ·obtain ⟨d,hd'⟩:∃d,q.len=d+1:=⟨q.len-1,by omega⟩
   have hl:=hd.len h.ne;have hln:=h.ln;have h3:=oh (n:=d) (by omega) hm hd'
   have:=ia (p:=p) (by have:=IsP.pos (p:=p); omega) (show n+1≤d by omega)
   omega
  ·exfalso
   obtain ⟨d,hd'⟩:∃d,q.len=d+1:=⟨q.len-1,by omega⟩
   have h3:=oh (n:=d) (by omega) hm hd'
   have:=ia (p:=p) (by have:=IsP.pos (p:=p); omega) (show d≤n by omega)
   omega
theorem SInv.init {a:Fp p} (ha:a≠0) (hl:a.len≤13):SInv a (p^1) a []:=
 ⟨ha,(Gq.mul_one a).symm,⟨by simp,.nil⟩,.nil,by simp,fun q hq hm _=>by
  have h1:=hq.len;obtain ⟨d,hd'⟩:∃d,q.len=d+1:=⟨q.len-1,by omega⟩
  by_cases hd12:d≤12
  ·have h3:=oh (n:=d) hd12 hm hd'
   have:=ia (p:=p) (by have:=IsP.pos (p:=p); omega) (show 1≤d by omega)
   omega
  ·have h4:=pn (a:=bx p (p^1)) (b:=q) (by
    have:=(ju (p:=p) (n:=1) (by omega) (rg _) (by have:=lc (p:=p) 1; omega)).2
    omega)
   have h5:dg (bx p (p^1))=p^1:=sw ⟨Int.le_of_lt (lc 1),by have:=o4 (p:=p) (n:=1) (by omega); omega⟩
   omega,by simpa using hl⟩
theorem SEnd.fac {a0 a:Fp p} {out:iq p} (h:SEnd a0 a out) (h0:a0≠0):Pe.fac a0=if 2≤a.len then out++[(mon a,1)] else out:=by
 apply Uw h0;have hP:=ud h.ok;have hld:a0.ld=a.ld:=by rw [h.eq,Pol.ld_mul h.ne hP.2,hP.1,Gq.mul_one]
 split
 ·rename_i hl
  obtain ⟨hi,hx⟩:=h.irr hl;refine ⟨h.ok.snoc hi.mon (nv h.ne) (ap 1) fun x hx' e=>?_,?_,?_⟩
  ·have:=hx x hx'
   rw [e] at this; omega
  ·rw [fc]
   refine ⟨h.so,dy _ _,fun x hx' y hy=>?_⟩
   simp at hy; subst hy; exact hx x hx'
  ·rw [sy,hld]
   show a0=Pol.C a.ld*(i8 out*pw (mon a) 1);rw [x8,h.eq]
   conv=>lhs; rw [Sa h.ne]
   exact ba [Pol.C a.ld,mon a,i8 out] rfl
 ·rename_i hl
  have hp:=Pol.len_pos h.ne;obtain ⟨c,hc,rfl⟩:=jv (show a.len=1 by omega)
  refine ⟨h.ok,h.so,?_⟩;rw [hld,Pol.ld_C hc]; exact h.eq
end
end Pe

namespace Pe
open Go Gq
variable {T:Nat→Option Fn} {A:ac}
section
variable {p:Int} [IsP p]
end
end Pe


namespace Pe
open Go Gq
variable {T:Nat→Option Fn} {A:ac}
section
variable {p:Int} [IsP p]
end
section
variable {p:Int} [IsP p]
end
end Pe

namespace Pe
open Go Gq
variable {T:Nat→Option Fn} {A:ac}
end Pe

namespace Pe
open Go Gq
variable {T:Nat→Option Fn} {A:ac}
end Pe


namespace Pe
open Go Gq
variable {T:Nat→Option Fn} {A:ac}
open Classical in
def Au (O:ac):Prop:=∀(p:Int) [IsP p] (a:Fp p),a.len≤13→ask O F1b [(D.int .i64 p),(D.sl .leaf (ae .i64 (row a)))]=some (D.bool (decide (Monic a∧Irr a)))
open Classical in
theorem Wd (hT:T F1b=some Z1b) (hld:ug (den T A)) (hdg:lh (den T A)) (hf:Vn (den T A)):Au (den T A):=by
 intro p i a hal;have e1:=hld (row a) (by rw [b8]; omega)
 rw [Bf] at e1;have e2:=hdg (row a) (by rw [b8]; omega)
 rw [b8] at e2;refine bj hT rfl ?_
 by_cases h1:a.ld=1
 ·have h1':=(A9 a.ld).2 h1
  have hM:=(Qw a).2 h1;rw [h1'] at e1
  by_cases h2:2≤a.len
  ·obtain ⟨f1,f2,e3⟩:=hf p a hM.2 hal
   have hiff:=Ww hM f1;have hlt:¬ ((a.len:Int)-1<1):=by omega
   have hlt2:¬ ((a.len:Int)<2):=by omega
   have hlt3:(2:Int)≤a.len:=by omega
   have key:(∃q,fac a=[(q,1)])↔(Monic a∧Irr a):=⟨fun h=>⟨hM,hiff.1 h⟩,fun h=>hiff.2 h.2⟩
   generalize fac a=L at *;cases L with
   | nil=>
    rw [decide_eq_false (fun h0=>by obtain ⟨q,h⟩:=key.2 h0; cases h)]
    simp -implicitDefEqProofs [Z1b,Z1b_B,af,e1,e2,e3,hlt]
   | cons x L=>
    cases L with
    | nil=>
     obtain ⟨q,k⟩:=x
     by_cases hk:k=1
     ·subst hk
      rw [decide_eq_true (key.1 ⟨q,rfl⟩)];simp -implicitDefEqProofs [Z1b,Z1b_B,af,e1,e2,e3,hlt,kj]
     ·rw [decide_eq_false (fun h0=>by obtain ⟨q',h⟩:=key.2 h0; simp at h; exact hk h.2)]
      have hk':¬ ((k:Int)=1):=by omega
      simp -implicitDefEqProofs [Z1b,Z1b_B,af,e1,e2,e3,hlt,kj,hk']
    | cons y L=>
     rw [decide_eq_false (fun h0=>by obtain ⟨q',h⟩:=key.2 h0; simp at h)]
     have hk':¬ (((L.length:Int)+1+1)=1):=by omega
     simp -implicitDefEqProofs [Z1b,Z1b_B,af,e1,e2,e3,hlt,hk']
  ·have hlt:((a.len:Int)-1<1):=by omega
   have hlt2:((a.len:Int)<2):=by omega
   rw [decide_eq_false (fun h=>h2 h.2.len)]
   simp -implicitDefEqProofs [Z1b,Z1b_B,af,e1,e2,hlt]
 ·have h1':=mt (A9 a.ld).1 h1
  rw [decide_eq_false (fun h=>h1 h.1.1)]
  simp -implicitDefEqProofs [Z1b,Z1b_B,af,e1,h1']
def Di (O:ac):Prop:=∀(p:Int) (l:List Int),jz l→l.length=64→ask O Fb [(D.int .i64 p),(D.arr 64 .leaf (ae .u8 l))]=some (D.bool (isP p&&md p l))
theorem Vq (hT:T Fb=some Zb) (hp:v9 (den T A)) (hi:uq (den T A)):Di (den T A):=by
 intro p l hb hl;have e1:=hp p;have e2:=hi p l hb hl;refine bj hT rfl ?_
 by_cases h:isP p=true
 ·simp -implicitDefEqProofs [Zb,Zb_B,e1,e2,h]
 ·simp -implicitDefEqProofs [Zb,Zb_B,e1,h]
structure Fld {p:Int} [IsP p] (m:Fp p):Prop where
 mon:Monic m
 two:2≤m.len
 five:m.len≤5
 irr:Irr m
noncomputable abbrev ki {p:Int} (m:Fp p):D:=.st [.leaf,.leaf] [.int .i64 p,(D.sl .leaf (ae .i64 (row m)))]
end Pe



namespace Pe
open Go Gq
variable {T:Nat→Option Fn} {A:ac}
end Pe

namespace Pe
open Go Gq
variable {T:Nat→Option Fn} {A:ac}
section
variable {p:Int} [IsP p]
noncomputable def oo (m:Fp p):Nat→Fp p→Fp p
 | 0,a=>a
 | k+1,a=>oo m k (pw a p.toNat%m)
theorem tw {m:Fp p} (hm:m≠0):∀(k:Nat) (a:Fp p),a.len<m.len→(oo m k a).len<m.len
 | 0,_,h=>h
 | k+1,_a,_=>tw hm k _ (Pol.len_mod _ hm)
theorem Gb {m:Fp p}:∀(k:Nat) (a:Fp p),Quo.mk m (oo m k a)=pw (Quo.mk m a) (p.toNat^k)
 | 0,a=>by rw [je,x8]; rfl
 | k+1,a=>by
  show Quo.mk m (oo m k (pw a p.toNat%m))=_;rw [Gb k,Pol.mk_mod,Quo.mk_pow,n5,df,dm]
theorem Iv {m:Fp p} (hm:Fld m) (k:Nat) {a:Fp p} (ha:a.len<m.len):oo m (k%(m.len-1)) a=oo m k a:=by
 have h2:=hm.two;have h5:=hm.five
 have small:p^(m.len-1)<1000000000000:=by
  have h1:=ia (p:=p) (by have:=IsP.pos (p:=p); omega) (show m.len-1≤12 by omega)
  have h7:=o4 (p:=p) (n:=12) (by omega)
  omega
 have hd:∀x:Quo m,pw x (p.toNat^(m.len-1))=x:=D3 hm.irr (by omega) small
 have hq:∀(q:Nat) (x:Quo m),pw x (p.toNat^((m.len-1)*q))=x:=by
  intro q
  induction q with
  | zero=>intro x; rw [pa,je,x8]
  | succ q ih=>intro x; rw [Nat.mul_succ,Nat.pow_add,←n5,ih,hd]
 have h0:m≠0:=hm.mon.2
 have e:Quo.mk m (oo m (k%(m.len-1)) a)=Quo.mk m (oo m k a):=by
  rw [Gb,Gb];have hk:k=(m.len-1)*(k/(m.len-1))+k%(m.len-1):=(Nat.div_add_mod k (m.len-1)).symm;have:p.toNat^k=p.toNat^((m.len-1)*(k/(m.len-1)))*p.toNat^(k%(m.len-1)):=by rw [←Nat.pow_add,←hk]
  rw [this,←n5,hq]
 have e2:=(Pol.mod_eq_iff h0).2 e
 rwa [Pol.mod_small (tw h0 _ _ ha),Pol.mod_small (tw h0 _ _ ha)] at e2
noncomputable def Ao (m a:Fp p):Fp p:=(Pol.bezout a m).2.1%m
theorem Of {m a:Fp p} (hm:Fld m) (ha:a≠0) (hal:a.len<m.len):Quo.mk m (Ao m a)*Quo.mk m a=1:=by
 have h0:m≠0:=hm.mon.2;have e:=Pol.bezout_eq (a:=a) (b:=m) (.inl ha)
 have hg:Pol.gcd a m=1:=by
  have h1:=Pol.gcd_monic (a:=a) (b:=m) (.inl ha);have h2:=Pol.gcd_dv_left (a:=a) (b:=m) (.inl ha);have h3:=Pol.gcd_dv_right (a:=a) (b:=m) (.inl ha);refine h1.eq_one ?_;rcases hm.irr.dv h3 with h | h
  ·exact h
  ·have:=h2.len ha
   omega
 rw [hg] at e;unfold Ao;rw [Pol.mk_mod];have:Quo.mk m ((Pol.bezout a m).2.1*a+(Pol.bezout a m).2.2*m)=Quo.mk m 1:=by rw [e]
 rw [Quo.mk_add,Quo.mk_mul,Quo.mk_mul] at this;have hm0:Quo.mk m m=0:=i7.1 (Dv.refl m);rw [hm0,Gq.mul_zero,Gq.add_zero] at this;exact this
end
theorem Vp {p:Int} [IsP p] {a b:Fp p} {n:Nat} (ha:a.len≤n) (hb:b.len≤n):(a*b).len≤2*n:=by
 by_cases h:a=0
 ·rw [h,Gq.zero_mul,Pol.len_zero]; omega
 ·by_cases h2:b=0
  ·rw [h2,Gq.mul_zero,Pol.len_zero]; omega
  ·have:=Pol.len_mul h h2; omega
def pc (O:ac):Prop:=∀(p:Int) [IsP p] (m a b:Fp p),m≠0→m.len≤64→a.len≤1000→b.len≤1000→ask O Fs [ki m,(D.sl .leaf (ae .i64 (row a))),(D.sl .leaf (ae .i64 (row b)))]=some (D.sl .leaf (ae .i64 (row (a*b%m))))
theorem Qe (hT:T Fs=some Zs) (ht:t8 (den T A)) (hr:xi (den T A)):pc (den T A):=by
 intro p ip m a b hm hml ha hb;have e1:=ht p a b (by omega) (by omega)
 have hl:=Vp (n:=1000) ha hb;have e2:=hr p (a*b) m hm (by omega) (by omega)
 refine bj hT rfl ?_;simp -implicitDefEqProofs [Zs,Zs_B,e1,e2]
end Pe


namespace Pe
open Go Gq
variable {T:Nat→Option Fn} {A:ac}
def Da (O:ac):Prop:=∀(l:List Int),jz l→l.length=64→ask O F1w [(D.arr 64 .leaf (ae .u8 l))]=some (D.arr 64 .leaf (ae .u8 l))
theorem J5 {O:ac} {l:List Int} (hb:jz l) (hl:l.length=64) {b1:Blk}:∀(m i:Nat) (q:List Int),i+m=64→q.length=64→q.take i=l.take i →
 dn O 0 (.loop Z1w_L0) ⟨[(1,.ptr 0 []),(2,.ptr 1 []),(3,.ptr 2 []),(4,(.d (.int .i64 i)))],[.box false (D.arr 64 .leaf (ae .u8 l)),b1,.box false (D.arr 64 .leaf (ae .u8 q))]⟩ =
  some (.exit 0,⟨[(1,.ptr 0 []),(2,.ptr 1 []),(3,.ptr 2 []),(4,(.d (.int .i64 64))),(6,(.d (.bool false)))],[.box false (D.arr 64 .leaf (ae .u8 l)),b1,.box false (D.arr 64 .leaf (ae .u8 l))]⟩)
 | 0,i,q,hi,hq,ht=>by
  obtain rfl:i=64:=by omega
  rw [az (by omega),az (by omega)] at ht
  subst ht;exact bi (by simp -implicitDefEqProofs [Z1w_L0,af])
 | m+1,i,q,hi,hq,ht=>by
  have hlt:i<64:=by omega
  have hlti:(i:Int)<64:=by omega
  have hlt':i<l.length:=by omega
  have hltq:i<q.length:=by omega
  have hx:l[i]=cf l i:=(da hlt').symm;have w8':IntKind.u8.wrap (cf l i)=cf l i:=by rw [←hx]; exact w8 (hb _ (cx _))
  have w4:IntKind.i64.wrap ((i:Int)+1)=((i+1:Nat):Int):=(w64 (x:=(i:Int)+1) (by omega)).trans (by omega)
  have hs:ae .u8 (q.set i (cf l i))=(ae .u8 q).set i (D.int .u8 (cf l i)):=by unfold ae; rw [t9]
  refine bh ?_ (J5 hb hl m (i+1) (q.set i (cf l i)) (by omega) (by rw [bt]; exact hq) (by
   rw [de hlt',de (by rw [bt]; exact hltq),List.getElem_set_self,List.take_set,List.set_eq_of_length_le (by rw [b6]; omega),ht,hx]))
  rw [hs];simp -implicitDefEqProofs [Z1w_L0,af,hlt,hlti,hx,hl,hq,w4]
theorem Tv (hT:T F1w=some Z1w):Da (den T A):=by
 intro l hb hl;have e:=J5 (O:=den T A) hb hl (b1:=.box false (.arr 64 .leaf (ae .u8 (pad [])))) 64 0 (List.replicate 64 0) rfl rfl (by simp)
 have e00:((0:Nat):Int)=0:=rfl;rw [e00] at e;have hz:List.replicate 64 (0:Int)=pad []:=rfl;rw [hz] at e;refine bj hT rfl ?_;simp -implicitDefEqProofs [Z1w,Z1w_B,e]
end Pe

namespace Pe
open Go Gq
variable {T:Nat→Option Fn} {A:ac}
theorem Ya {O:ac} {l:List Int} (hl:l.length<1000000):∀(k i:Nat),i+k=l.length →
 dn O 0 (.loop Z1t_L0) ⟨[(0,(.d (.sl .leaf (ae .i64 l)))),(1,(.d (.sl .leaf (ae .i64 l)))),(5,(.d (.int .i64 i)))],[]⟩=some (.exit 0,⟨[(0,(.d (.sl .leaf (ae .i64 l)))),(1,(.d (.sl .leaf (ae .i64 l)))),(5,(.d (.int .i64 l.length))),(14,(.d (.bool false)))],[]⟩)
 | 0,i,hi=>by
  obtain rfl:i=l.length:=by omega
  exact bi (by simp -implicitDefEqProofs [Z1t_L0,af])
 | k+1,i,hi=>by
  have hlt:i<l.length:=by omega
  have hx:l[i]=cf l i:=(da hlt).symm;have w4:IntKind.i64.wrap ((i:Int)+1)=((i+1:Nat):Int):=(w64 (x:=(i:Int)+1) (by omega)).trans (by omega)
  refine bh ?_ (Ya hl k (i+1) (by omega))
  simp -implicitDefEqProofs [Z1t_L0,af,hlt,hx,w4]
def Rv (O:ac):Prop:=∀l:List Int,l.length<1000000→ask O F1t [(D.sl .leaf (ae .i64 l)),(D.sl .leaf (ae .i64 l))]=some (D.bool true)
theorem a2d (hT:T F1t=some Z1t):Rv (den T A):=by
 intro l hl;have e:=Ya (O:=den T A) hl l.length 0 (b9 _);have e00:((0:Nat):Int)=0:=rfl;rw [e00] at e;refine bj hT rfl ?_;simp -implicitDefEqProofs [Z1t,Z1t_B,af,e]
def m9 (n:Nat):List Int:=(List.range n).map fun (i:Nat)=>(i:Int)+1
theorem Od {O:ac} {n:Nat} (hn:n<1000000):∀(k i:Nat),i+k=n →
 dn O 0 (.loop Z1u_L0) ⟨[(0,(.d (.sl .leaf (ae .i64 (m9 n))))),(1,(.d (.int .i64 (((i+1:Nat):Int))))),(5,(.d (.int .i64 i)))],[]⟩=some (.exit 0,⟨[(0,(.d (.sl .leaf (ae .i64 (m9 n))))),(1,(.d (.int .i64 (((n+1:Nat):Int))))),(5,(.d (.int .i64 n))),(9,(.d (.bool false)))],[]⟩)
 | 0,i,hi=>by
  obtain rfl:i=n:=by omega
  have hL:(m9 i).length=i:=by simp [m9]
  exact bi (by simp -implicitDefEqProofs [Z1u_L0,af,hL])
 | k+1,i,hi=>by
  have hlt:i<n:=by omega
  have hL:(m9 n).length=n:=by simp [m9]
  have hx:(m9 n)[i]'(by omega)=((i+1:Nat):Int):=by simp [m9]
  have w4:IntKind.i64.wrap ((i:Int)+1)=((i+1:Nat):Int):=(w64 (x:=(i:Int)+1) (by omega)).trans (by omega)
  have w5:IntKind.i64.wrap (((i+1:Nat):Int)+1)=((i+1+1:Nat):Int):=(w64 (x:=((i+1:Nat):Int)+1) (by omega)).trans (by omega)
  have w5':IntKind.i64.wrap ((i:Int)+1+1)=((i+1+1:Nat):Int):=(w64 (x:=(i:Int)+1+1) (by omega)).trans (by omega)
  refine bh ?_ (Od hn k (i+1) (by omega))
  simp -implicitDefEqProofs [Z1u_L0,af,hlt,hL,hx,w4,w5']
def H1 (O:ac):Prop:=∀n:Nat,n<1000000→ask O F1u [(D.sl .leaf (ae .i64 (m9 n))),(D.int .i64 1)]=some (D.int .i64 (n+1))
theorem X1 (hT:T F1u=some Z1u):H1 (den T A):=by
 intro n hn;have e:=Od (O:=den T A) hn n 0 (b9 _);have e00:((0:Nat):Int)=0:=rfl;have e01:((0+1:Nat):Int)=1:=rfl;rw [e00,e01] at e;refine bj hT rfl ?_;simp -implicitDefEqProofs [Z1u,Z1u_B,e]
theorem P4 {O:ac} {n:Nat} {cp:Option Nat} (hn:n<1000000):∀(k i:Nat) (q:List Int),i+k=n→q.length=n→q.take i=m9 i →
 dn O 1 (.loop Z1v_L0) ⟨[(0,.sl 0 [] 0 n cp),(1,(.d (.int .i64 (((i+1:Nat):Int))))),(5,(.d (.int .i64 i)))],[.sl false .leaf (ae .i64 q)]⟩ =
  some (.exit 0,⟨[(0,.sl 0 [] 0 n cp),(1,(.d (.int .i64 (((n+1:Nat):Int))))),(5,(.d (.int .i64 n))),(9,(.d (.bool false)))],[.sl false .leaf (ae .i64 (m9 n))]⟩)
 | 0,i,q,hi,hq,ht=>by
  obtain rfl:i=n:=by omega
  rw [az (by omega)] at ht
  subst ht;exact bi (by simp -implicitDefEqProofs [Z1v_L0,af])
 | k+1,i,q,hi,hq,ht=>by
  have hlt:i<n:=by omega
  have hltq:i<q.length:=by omega
  have w4:IntKind.i64.wrap ((i:Int)+1)=((i+1:Nat):Int):=(w64 (x:=(i:Int)+1) (by omega)).trans (by omega)
  have w5:IntKind.i64.wrap (((i+1:Nat):Int)+1)=((i+1+1:Nat):Int):=(w64 (x:=((i+1:Nat):Int)+1) (by omega)).trans (by omega)
  have hs:ae .i64 (q.set i ((i+1:Nat):Int))=(ae .i64 q).set i (D.int .i64 ((i+1:Nat):Int)):=by unfold ae; rw [t9]
  refine bh ?_ (P4 hn k (i+1) (q.set i ((i+1:Nat):Int)) (by omega) (by rw [bt]; exact hq) (by
   rw [de (by rw [bt]; exact hltq),List.getElem_set_self,List.take_set,List.set_eq_of_length_le (by rw [b6]; omega),ht]
   unfold m9;rw [List.range_succ,ou];rfl))
  rw [hs];generalize ((i+1:Nat):Int)=I1 at *;simp -implicitDefEqProofs [Z1v_L0,af,hlt,hq,w4,w5]
def Gz (O:ac):Prop:=∀(s:List Int) (cp:Option Nat),s.length<1000000 →
 O F1v [.sl 0 [] 0 s.length cp,(.d (.int .i64 1))] [.sl false .leaf (ae .i64 s)]=some ((.d (.int .i64 (((s.length+1:Nat):Int)))),[.sl false .leaf (ae .i64 (m9 s.length))],[])
theorem Vz (hT:T F1v=some Z1v):Gz (den T A):=by
 intro s cp hn;have e:=P4 (O:=den T A) (cp:=cp) hn s.length 0 s (b9 _) rfl rfl;have e00:((0:Nat):Int)=0:=rfl;have e01:((0+1:Nat):Int)=1:=rfl;rw [e00,e01] at e;refine ri hT rfl ?_;simp -implicitDefEqProofs [Z1v,Z1v_B,e,List.idxOf,List.findIdx]
end Pe

namespace Gq
def Pr (l:Nat):Prop:=2≤l∧∀d,d∣l→d=1∨d=l
theorem Pr.coprime {l n:Nat} (h:Pr l) (hn:¬ l∣n):Nat.Coprime l n:=by
 rcases h.2 _ (Nat.gcd_dvd_left l n) with h1 | h1
 ·exact h1
 ·exact absurd (h1▸Nat.gcd_dvd_right l n) hn
theorem Uo:∀(n:Nat),2≤n→∃l,Pr l∧l∣n:=by
 intro n
 induction n using Nat.strongRecOn with
 | ind n ih=>
  intro hn
  by_cases h:Pr n
  ·exact ⟨n,h,Nat.dvd_refl n⟩
  ·have:∃d,d∣n∧d≠1∧d≠n:=by
    apply bv;intro hno;refine h ⟨hn,fun d hd=>?_⟩
    apply bv;intro h2;exact hno ⟨d,hd,fun e=>h2 (.inl e),fun e=>h2 (.inr e)⟩
   obtain ⟨d,hd,h1,h2⟩:=this;have hle:=lj (by omega) hd
   have h0:d≠0:=fun e=>by
    rw [e] at hd;have:=Nat.eq_zero_of_zero_dvd hd;omega
   obtain ⟨l,hl,hld⟩:=ih d (by omega) (by omega)
   exact ⟨l,hl,g7 hld hd⟩
theorem Pr.dvd_mul {l a b:Nat} (h:Pr l) (hd:l∣a*b):l∣a∨l∣b:=by
 by_cases ha:l∣a
 ·exact .inl ha
 ·exact .inr ((h.coprime ha).dvd_of_dvd_mul_left hd)
theorem Pr.dvd_pr {l q:Nat} (h:Pr l) (hq:Pr q) (hd:l∣q):l=q:=by
 rcases hq.2 l hd with h1 | h1
 ·have:=h.1; omega
 ·exact h1
theorem T4 {n:Nat} (h0:1≤n) (h:∀l,Pr l→¬ l∣n):n=1:=by
 apply bv;intro h1;obtain ⟨l,hl,hd⟩:=Uo n (by omega)
 exact h l hl hd
theorem Oz {l d:Nat} (h:Pr l):∀e,d∣l^(e+1)→d=l^(e+1)∨d∣l^e
 | 0,hd=>by
  rw [b9,Nat.pow_one] at hd ⊢;rcases h.2 d hd with h1 | h1
  ·right; rw [h1]; exact Nat.one_dvd _
  ·exact .inl h1
 | e+1,hd=>by
  by_cases hl:l∣d
  ·obtain ⟨c,rfl⟩:=hl
   rw [df,dm (l^(e+1))] at hd;have hc:c∣l^(e+1):=Nat.dvd_of_mul_dvd_mul_left (by have:=h.1; omega) hd
   rcases Oz h e hc with h1 | h1
   ·left; rw [h1,df l (e+1),dm]
   ·right; rw [df l e,dm l c]; exact Nat.mul_dvd_mul_right h1 l
  ·right
   rw [df] at hd;exact ((h.coprime hl).symm).dvd_of_dvd_mul_right hd
theorem Sn {l:Nat} (h:Pr l):∀n,1≤n→∃e r,n=l^e*r∧¬ l∣r:=by
 intro n
 induction n using Nat.strongRecOn with
 | ind n ih=>
  intro hn
  by_cases hd:l∣n
  ·obtain ⟨c,rfl⟩:=hd
   have h2:=h.1
   have hc:1≤c:=by
    rcases dp c with h0 | h0
    ·rw [h0,pa] at hn; omega
    ·exact h0
   have hlt:c<l*c:=by
    have:=d8 c h2;omega
   obtain ⟨e,r,e1,e2⟩:=ih c hlt hc;refine ⟨e+1,r,?_,e2⟩
   conv=>lhs; rw [e1]
   rw [df,dm (l^e) l,ll]
  ·exact ⟨0,n,by rw [je,Nat.one_mul],hd⟩
section
variable {R:Type} [CR R]
theorem Xn {x:R} {n k:Nat} (h:pw x n=1):pw x (k%n)=pw x k:=by
 have e:pw x k=pw x (n*(k/n)+k%n):=by rw [Nat.div_add_mod]
 rw [e,pq,←n5,h,wy,one_mul]
theorem a0c {x:R} (a b:Nat) (ha:pw x a=1) (hb:pw x b=1):pw x (Nat.gcd a b)=1:=by
 revert ha hb
 refine Nat.gcd.induction (P:=fun a b=>pw x a=1→pw x b=1→pw x (Nat.gcd a b)=1) a b ?_ ?_
 ·intro n _ hb; rw [Nat.gcd_zero_left]; exact hb
 ·intro a b _ ih ha hb
  rw [Nat.gcd_rec];exact ih (by rw [Xn ha]; exact hb) ha
theorem zc {x:R} {n k:Nat} (h:pw x n=1) (hd:n∣k):pw x k=1:=by
 obtain ⟨c,rfl⟩:=hd;rw [←n5,h,wy]
def Ord (x:R) (n:Nat):Prop:=∀k,pw x k=1↔n∣k
theorem Ord.self {x:R} {n:Nat} (h:Ord x n):pw x n=1:=(h n).2 (Nat.dvd_refl n)
theorem Ord.unique {x:R} {n m:Nat} (h:Ord x n) (h':Ord x m):n=m:=Nat.dvd_antisymm ((h m).1 h'.self) ((h' n).1 h.self)
theorem Ord.mul {a b:R} {m n:Nat} (ha:Ord a m) (hb:Ord b n) (h:Nat.Coprime m n):Ord (a*b) (m*n):=fun k=>by
 constructor
 ·intro hk
  have h1:m∣k:=by
   have e:pw a (k*n)=1:=by
    have e1:pw (a*b) (k*n)=1:=by rw [←n5,hk,wy]
    rw [xn,zc hb.self (o3 n k),mul_one] at e1;exact e1
   exact h.dvd_of_dvd_mul_right ((ha _).1 e)
  have h2:n∣k:=by
   have e:pw b (k*m)=1:=by
    have e1:pw (a*b) (k*m)=1:=by rw [←n5,hk,wy]
    rw [xn,zc ha.self (o3 m k),one_mul] at e1;exact e1
   exact h.symm.dvd_of_dvd_mul_right ((hb _).1 e)
  exact h.mul_dvd_of_dvd_of_dvd h1 h2
 ·intro hd
  rw [xn,zc ha.self (g7 (mw m n) hd),zc hb.self (g7 (o3 n m) hd),mul_one]
theorem Yt {y:R} {l e:Nat} (hl:Pr l) (h1:pw y (l^(e+1))=1) (h2:pw y (l^e)≠1):Ord y (l^(e+1)):=fun k=>by
 constructor
 ·intro hk
  have hg:=a0c k (l^(e+1)) hk h1;rcases Oz hl e (Nat.gcd_dvd_right k (l^(e+1))) with h3 | h3
  ·exact h3▸Nat.gcd_dvd_left k (l^(e+1))
  ·exact absurd (zc hg h3) h2
 ·intro hd
  exact zc h1 hd
theorem X7 {N:Nat} (hN:1≤N) (hall:∀x:R,x≠0→pw x N=1) (h10:(1:R)≠0) (hc:∀x y:R,x*y=0→x=0∨y=0) (hr:∀k,1≤k→k<N→∃x:R,x≠0∧pw x k≠1):∀n,1≤n→n∣N→∃g:R,g≠0∧Ord g n:=by
 have pwne:∀(x:R) (k:Nat),x≠0→pw x k≠0:=by
  intro x k hx
  induction k with
  | zero=>exact h10
  | succ k ih=>exact fun h=>(hc _ _ h).elim ih hx
 intro n
 induction n using Nat.strongRecOn with
 | ind n ih=>
  intro hn hd
  by_cases h1:n=1
  ·subst h1
   exact ⟨1,h10,fun k=>⟨fun _=>Nat.one_dvd k,fun _=>wy k⟩⟩
  ·obtain ⟨l,hl,hln⟩:=Uo n (by omega)
   obtain ⟨e,r,e1,e2⟩:=Sn hl n hn;have h2:=hl.1;cases e with
   | zero=>
    rw [je,Nat.one_mul] at e1;exact absurd (e1▸hln) e2
   | succ e=>
    have hr1:1≤r:=by
     rcases dp r with h0 | h0
     ·rw [h0,pa] at e1; omega
     ·exact h0
    have hpos:0<l^e:=Nat.pow_pos (by omega)
    have hlt:r<n:=by
     have:2*r≤l^(e+1)*r:=d8 r (by
      rw [df];have:=d8 l hpos;omega)
     omega
    obtain ⟨g,hg0,hg⟩:=ih r hlt hr1 (g7 ⟨l^(e+1),by rw [dm]; exact e1⟩ hd)
    obtain ⟨c,hcN⟩:l^(e+1)∣N:=g7 ⟨r,e1⟩ hd
    have hc1:1≤c:=by
     rcases dp c with h0 | h0
     ·rw [h0,pa] at hcN; omega
     ·exact h0
    have hlc:l^e*c<N:=by
     rw [hcN,df,ll,dm l c,←ll];have h3:0<l^e*c:=Nat.mul_pos hpos hc1;have:=kz (l^e*c) h2;omega
    obtain ⟨x,hx0,hx⟩:=hr (l^e*c) (Nat.mul_pos hpos hc1) hlc;have hy:Ord (pw x c) (l^(e+1)):=Yt hl (by rw [n5,dm,←hcN,hall x hx0]) (by rw [n5,dm]; exact hx)
    refine ⟨pw x c*g,fun h=>(hc _ _ h).elim (pwne x c hx0) hg0,?_⟩
    rw [e1];refine hy.mul hg ?_;have:=hl.coprime e2;exact Nat.Coprime.pow_left (e+1) this
end
structure OrdI (n q rest order:Nat) (fin:Bool):Prop where
 dv:n∣order
 pos:1≤order
 low:∀l,Pr l→l<q→¬ l*n∣order∧¬ l∣rest
 rel:∃c,order=rest*c∧(∀l,Pr l→q<l→¬ l∣c)∧(fin=false→Pr q→¬ q∣c)
 fin:fin=true→¬ q*n∣order
theorem OrdI.rest_pos {n q rest order:Nat} {f:Bool} (h:OrdI n q rest order f):1≤rest:=by
 obtain ⟨c,e,-⟩:=h.rel;have:=h.pos;rcases dp rest with h0 | h0
 ·rw [h0,kq] at e; omega
 ·exact h0
theorem OrdI.init {n N:Nat} (hN:1≤N) (h:n∣N):OrdI n 2 N N false where
 dv:=h
 pos:=hN
 low:=fun l hl h2=>by have:=hl.1; omega
 rel:=⟨1,(Nat.mul_one N).symm,fun l hl _ hd=>by have:=hl.1; have:=lj (by omega) hd; omega,fun _ hq hd=>by have:=hq.1; have:=lj (by omega) hd; omega⟩
 fin:=fun h=>by cases h
theorem OrdI.prime {n q rest order:Nat} {f:Bool} (h:OrdI n q rest order f) (h2:2≤q) (hd:q∣rest):Pr q:=by
 obtain ⟨l,hl,hlq⟩:=Uo q h2;rcases cb l q with h1 | h1
 ·exact absurd (g7 hlq hd) (h.low l hl h1).2
 ·have:=lj (by omega) hlq
  obtain rfl:l=q:=by omega
  exact hl
theorem OrdI.no {n q r c':Nat} {f:Bool} (h:OrdI n q (q*r) (q*c') f) (h2:2≤q) (hd:¬ n∣c'):OrdI n q r (q*c') true where
 dv:=h.dv
 pos:=h.pos
 low:=fun l hl h1=>by
  obtain ⟨a,b⟩:=h.low l hl h1;exact ⟨a,fun e=>b (g7 e (o3 r q))⟩
 rel:=by
  have hq:=h.prime h2 (mw q r);obtain ⟨c,e,h3,_⟩:=h.rel;refine ⟨q*c,by rw [e,ll,Nat.mul_left_comm],fun l hl h4 hl2=>?_,fun hf=>by cases hf⟩
  rcases hl.dvd_mul hl2 with h5 | h5
  ·have:=hl.dvd_pr hq h5; omega
  ·exact h3 l hl h4 h5
 fin:=fun _ e=>hd (Nat.dvd_of_mul_dvd_mul_left (by omega) e)
theorem OrdI.next {n q rest order:Nat} {f:Bool} (h:OrdI n q rest order f) (h2:2≤q) (hd:¬ q∣rest):OrdI n (q+1) rest order false where
 dv:=h.dv
 pos:=h.pos
 low:=fun l hl h1=>by
  rcases cb l q with h3 | h3
  ·exact h.low l hl h3
  ·obtain rfl:l=q:=by omega
   refine ⟨fun e=>?_,hd⟩
   cases f with
   | true=>exact h.fin rfl e
   | false=>
    obtain ⟨c,e1,_,h5⟩:=h.rel;have:l∣rest*c:=e1▸g7 (mw l n) e;rcases hl.dvd_mul this with h6 | h6
    ·exact hd h6
    ·exact h5 rfl hl h6
 rel:=by
  obtain ⟨c,e1,h4,_⟩:=h.rel;exact ⟨c,e1,fun l hl h5=>h4 l hl (by omega),fun _ hq=>h4 _ hq (by omega)⟩
 fin:=fun hf=>by cases hf
theorem OrdI.done {n q rest order:Nat} (h:OrdI n q rest order false) (hq:rest<q):order=n:=by
 have hr:rest=1:=T4 h.rest_pos fun l hl hd=>by
  have:=lj h.rest_pos hd;exact (h.low l hl (by omega)).2 hd
 obtain ⟨c,e1,h4,h5⟩:=h.rel;rw [hr,Nat.one_mul] at e1;obtain ⟨k,hk⟩:=h.dv
 have hk1:k=1:=T4 (by
  have:=h.pos;rcases dp k with h0 | h0
  ·rw [h0,pa] at hk; omega
  ·exact h0) fun l hl hd=>by
  have hln:l*n∣order:=by
   rw [hk,dm l n]; exact Nat.mul_dvd_mul_left n hd
  rcases cb l q with h6 | h6
  ·exact (h.low l hl h6).1 hln
  ·have hlc:l∣c:=e1▸g7 (mw l n) hln
   rcases cb q l with h7 | h7
   ·exact h4 l hl h7 hlc
   ·obtain rfl:l=q:=by omega
    exact h5 rfl hl hlc
 rw [hk,hk1,Nat.mul_one]
end Gq

namespace Pe
open Gq
section
variable {p:Int}
theorem Tx [IsP p] {m:Fp p} (hi:Irr m) {d:Nat} (hq:m.len=d+1) (hd:p^d<1000000000000) {k:Nat} (h1:1≤k) (hk:k<p.toNat^d-1):∃x:Quo m,x≠0∧pw x k≠1:=by
 apply bv;intro hno
 have hall:∀x:Quo m,x≠0→pw x k=1:=fun x hx=>by
  apply bv;intro h;exact hno ⟨x,hx,h⟩
 have hone:(1:Quo m)≠0:=(Jc hi).one_ne
 let f:Nat→Quo m:=fun i=>(if i=k then 1 else 0)+(-1)*(if i=0 then 1 else 0)
 have hf:f k≠0:=by
  show (if k=k then (1:Quo m) else 0)+(-1)*(if k=0 then 1 else 0)≠0
  rw [if_pos rfl,if_neg (by omega),Gq.mul_zero,Gq.add_zero]
  exact hone
 have:=xr (K:=Quo m) (fun x y=>hi.quo_zero) k f (sk m d) hf (t5 hq hd) fun y hy=>by
  have hy0:=(t4 hq hd y).1 hy
  have e:em (fun i=>f i*pw y i) (k+1)=em (fun i=>(if i=k then 1 else 0)*pw y i) (k+1)+(-1)*em (fun i=>(if i=0 then 1 else 0)*pw y i) (k+1):=by
   rw [←tt,←tk]
   congr 1
   funext i
   show ((if i=k then (1:Quo m) else 0)+(-1)*(if i=0 then 1 else 0))*pw y i=_
   exact ba [(if i=k then (1:Quo m) else 0),(if i=0 then (1:Quo m) else 0),pw y i] rfl
  rw [e,qe,qe,if_pos (by omega),if_pos (by omega),hall y hy0,show pw y 0=1 from rfl]
  exact ba ([]:List (Quo m)) rfl
 unfold sk at this;rw [eo,jr] at this;omega
theorem Uf [IsP p] {m:Fp p} (hi:Irr m) {d:Nat} (hq:m.len=d+1) (hd:p^d<1000000000000) {n:Nat} (h1:1≤n) (hn:n∣p.toNat^d-1):∃g:Quo m,g≠0∧Ord g n:=by
 have hN:1≤p.toNat^d-1:=by
  have hl:=hi.len;have h2:2≤p.toNat:=by have:=IsP.ge (p:=p); omega
  have h3:p.toNat^1≤p.toNat^d:=Nat.pow_le_pow_right (by omega) (by omega)
  rw [Nat.pow_one] at h3;omega
 exact X7 hN (fun x hx=>Na hi hq hd hx) (Jc hi).one_ne (fun x y=>hi.quo_zero) (fun k h2 h3=>Tx hi hq hd h2 h3) n h1 hn
def IsPrim (m:Fp p) (k:Nat):Prop:=1≤k∧(k:Int)<p^(m.len-1)∧Ord (Quo.mk m (bx p k)) (p.toNat^(m.len-1)-1)∧∀j:Nat,1≤j→j<k→¬ Ord (Quo.mk m (bx p j)) (p.toNat^(m.len-1)-1)
theorem Ta {P:Nat→Prop}:∀(n:Nat),P n→∃k,k≤n∧P k∧∀j,j<k→¬ P j:=by
 intro n
 induction n using Nat.strongRecOn with
 | ind n ih=>
  intro h
  by_cases hs:∃j,j<n∧P j
  ·obtain ⟨j,h1,h2⟩:=hs
   obtain ⟨k,h3,h4,h5⟩:=ih j h1 h2;exact ⟨k,by omega,h4,h5⟩
  ·exact ⟨n,ap n,h,fun j hj hp=>hs ⟨j,hj,hp⟩⟩
theorem IsPrim.unique {m:Fp p} {j k:Nat} (hj:IsPrim m j) (hk:IsPrim m k):j=k:=by
 rcases cb j k with h | h
 ·exact absurd hj.2.2.1 (hk.2.2.2 j hj.1 h)
 ·rcases cb k j with h2 | h2
  ·exact absurd hk.2.2.1 (hj.2.2.2 k hk.1 h2)
  ·omega
noncomputable def dgF:iq p→Nat
 | []=>0
 | x::L=>x.2*(x.1.len-1)+dgF L
theorem S4 [IsP p] {q:Fp p} (h:Monic q):∀k,(pw q k).len=k*(q.len-1)+1
 | 0=>by rw [kq]; exact Pol.len_one
 | k+1=>by
  have h1:=Pol.len_mul (Monic.pw h k).2 h.2;have h2:=S4 h k;have h3:=Pol.len_pos h.2;show (pw q k*q).len=_;rw [ct]; omega
theorem O8 [IsP p]:∀{L:iq p},FacOk L→(i8 L).len=dgF L+1
 | [],_=>Pol.len_one
 | x::L,h=>by
  have hm:=(h.irr x (by simp)).2.1
  have ht:FacOk L:=⟨fun y hy=>h.irr y (by simp [hy]),h.dis.tail⟩
  have h1:=O8 ht;have h2:=Pol.len_mul (Monic.pw hm x.2).2 (ud ht).2;rw [S4 hm] at h2;rw [nm,dgF]; omega
end
end Pe

namespace Pe
open Go Gq
variable {T:Nat→Option Fn} {A:ac}
section
variable {p:Int} [IsP p]
theorem Mu {m:Fp p} (h2:2≤m.len):(1:Quo m)≠0:=fun h=>by
 have:Dv m 1:=i7.2 h;have:=this.len Pol.one_ne;rw [Pol.len_one] at this;omega
theorem Yd {m c:Fp p} (hm:Fld m) (hc:c≠0) (hcl:c.len<m.len) (k:Nat):pw c k%m≠0∧(pw c k%m).len<m.len:=by
 have h0:m≠0:=hm.mon.2;refine ⟨fun h=>?_,Pol.len_mod _ h0⟩
 have h1:Quo.mk m (pw c k)=0:=by rw [←Pol.mk_mod,h]; rfl
 rw [Quo.mk_pow] at h1;have h2:=Of hm hc hcl;have h3:pw (Quo.mk m (Ao m c)*Quo.mk m c) k=0:=by rw [xn,h1,Gq.mul_zero]
 rw [h2,wy] at h3;exact Mu hm.two h3
end
end Pe


namespace Pe
open Go Gq
variable {T:Nat→Option Fn} {A:ac}
end Pe


namespace Pe
open Go Gq
variable {T:Nat→Option Fn} {A:ac}
section
variable {p:Int} [IsP p]
end
def Hp (O:ac):Prop:=∀(p:Int) [IsP p] (a:Fp p),a.len<1000000→ask O Fx [(D.sl .leaf (ae .i64 (row a)))]=some (D.bool (decide (a.len=1∧cf (row a) 0=1)))
theorem Wq (hT:T Fx=some Zx):Hp (den T A):=by
 intro p ip a ha;have hL:(row a).length=a.len:=b8 a;refine bj hT rfl ?_;generalize row a=Ra at *
 by_cases h1:a.len=1
 ·have h0:0<Ra.length:=by omega
  have hc:∀h:0<Ra.length,Ra[0]'h=cf Ra 0:=fun h=>(da h).symm
  have hL1:Ra.length=1:=by omega
  simp -implicitDefEqProofs [Zx,Zx_B,hL1,h1,hc]
 ·have hL1:¬ Ra.length=1:=by omega
  have hL2:¬ (Ra.length:Int)=1:=by omega
  simp -implicitDefEqProofs [Zx,Zx_B,hL2,h1]
section
variable {p:Int} [IsP p]
theorem Jq {m a:Fp p} (h2:2≤m.len) (k:Nat):pw a k%m=1↔pw (Quo.mk m a) k=1:=by
 have h0:m≠0:=fun h=>by rw [h,Pol.len_zero] at h2; omega
 have e1:(1:Fp p)%m=1:=Pol.mod_small (by rw [Pol.len_one]; omega)
 rw [←Quo.mk_pow,←Quo.mk_one,←Pol.mod_eq_iff h0,e1]
end
section
variable {p:Int} [IsP p]
end
end Pe

namespace Pe
open Go Gq
variable {T:Nat→Option Fn} {A:ac}
abbrev a6k (code:List Int) (at_:Nat) (h:Int):Blk:=.box false (.st [.leaf,.leaf,.leaf] [.sl .leaf (ae .u8 code),.int .i64 at_,.int .u64 h])
def Src (b:Blk):Prop:=∃(code:List Int) (at_:Nat) (h:Int),b=a6k code at_ h∧at_≤code.length∧code.length≤1099511627776∧jz code
end Pe

namespace Pe
open Go Gq
variable {T:Nat→Option Fn} {A:ac}
structure DrI (p:Int) (Q:List Int) (n:Nat):Prop where
 l:Q.length=64
 c:Can p Q
 z:∀j,n≤j→cf Q j=0
theorem DrI.set {p:Int} {Q:List Int} {n k:Nat} {x:Int} (h:DrI p Q n) (h0:0≤x) (h1:x<p) (hk:k<n):DrI p (Q.set k x) n:=
 ⟨by rw [bt]; exact h.l,fun y hy=>by
  rcases dk hy with g | rfl
  ·exact h.c y g
  ·exact ⟨h0,h1⟩,fun j hj=>by rw [qj,if_neg (by omega)]; exact h.z j hj⟩
section
variable {p:Int} [IsP p]
end
theorem DrI.zero (p:Int) [IsP p] (n:Nat):DrI p (pad []) n:=
 ⟨bm _,fun x hx=>by
  have hp:=IsP.ge (p:=p)
  have:x=0:=by
   unfold pad at hx;obtain ⟨a,_,rfl⟩:∃a,a<64∧cf [] a=x:=by simpa using hx
   exact jw (iu _)
  omega,fun j _=>(uu (l:=[]) (by simp) j).trans (jw (iu _))⟩
theorem DrI.up {p:Int} {Q:List Int} {n m:Nat} (h:DrI p Q n) (hm:n≤m):DrI p Q m:=⟨h.l,h.c,fun j hj=>h.z j (by omega)⟩
end Pe

namespace Pe
open Go Gq
variable {T:Nat→Option Fn} {A:ac}
end Pe

namespace Pe
open Go Gq
variable {T:Nat→Option Fn} {A:ac}
theorem Ae {p:Int} {l:List Int} (hb:jz l) (hl:l.length=64) (h:rr p [l]=0):∃(_:IsP p) (a:Fp p),a.len≤64∧l=pad (row a):=by
 rcases a77 p hb hl with ⟨h1,h2⟩ | ⟨ip,a,hal,e⟩
 ·rw [h1] at h; cases h
 ·exact ⟨ip,a,hal,e⟩
end Pe

namespace Pe
open Go Gq
variable {T:Nat→Option Fn} {A:ac}
section
variable {p:Int} [IsP p]
theorem IsFac.small {m:Fp p} (hm:m≠0) (hl:m.len≤13) {L:iq p} (h:IsFac m L):(∀x∈L,2≤x.1.len∧x.1.len≤13∧1≤x.2∧x.2≤12)∧dgF L+1=m.len:=by
 refine ⟨fun x hx=>?_,?_⟩
 ·obtain ⟨q1,q2,q3,_⟩:=h.len hm hx
  exact ⟨q1,by omega,(h.ok.irr x hx).2.2,by omega⟩
 ·rw [←O8 h.ok]
  conv=>rhs; rw [h.eq]
  exact (Pol.len_Cmul (Pol.ld_ne hm) _).symm
end
section
variable {p:Int} [IsP p]
end
end Pe

namespace Pe
open Go Gq
variable {T:Nat→Option Fn} {A:ac}
section
variable {p:Int} [IsP p]
end
end Pe

namespace Pe
open Go Gq
variable {T:Nat→Option Fn} {A:ac}
end Pe


namespace Pe
open Go Gq
variable {T:Nat→Option Fn} {A:ac}
end Pe

namespace Pe
open Go Gq
section
variable {p:Int}
end
section
variable {p:Int} [IsP p]
theorem Eb {d:Nat} (hd:d≤12):p^d<1000000000000:=by
 have h1:=ia (p:=p) (by have:=IsP.pos (p:=p); omega) hd
 have h2:p^12<1000000000000:=by rcases IsP.h (p:=p) with h | h | h | h <;> (subst h; decide)
 omega
end
end Pe

namespace Pe
open Go Gq
variable {T:Nat→Option Fn} {A:ac}
section
variable {p:Int} [IsP p]
end
end Pe

namespace Pe
open Go Gq
variable {T:Nat→Option Fn} {A:ac}
section
variable {p:Int} [ip:IsP p] {M X:Fp p}
end
end Pe

namespace Pe
open Go Gq
variable {T:Nat→Option Fn} {A:ac}
end Pe

namespace Pe
open Go Gq
variable {T:Nat→Option Fn} {A:ac}
end Pe


namespace Pe
open Go Gq
variable {T:Nat→Option Fn} {A:ac}
end Pe

namespace Pe
open Go Gq
variable {T:Nat→Option Fn} {A:ac}
theorem Vj {a m:List Int} (ha:jz a) (gl:a.length=64) (hm:jz m) (glm:m.length=64):Tj [a,m]:=fun x hx=>by
 simp at hx;rcases hx with rfl | rfl
 ·exact ⟨gl,ha⟩
 ·exact ⟨glm,hm⟩
end Pe

namespace Pe
open Go Gq
variable {T:Nat→Option Fn} {A:ac}
section
variable {p:Int} [IsP p]
end
section
variable {p:Int}
end
end Pe


namespace Pe
open Go Gq
variable {T:Nat→Option Fn} {A:ac}
end Pe

namespace Pe
open Go Gq
variable {T:Nat→Option Fn} {A:ac}
end Pe

namespace Pe
open Go Gq
variable {T:Nat→Option Fn} {A:ac}
section
variable {p:Int}
open Classical in
noncomputable def stl (S:List (Fp p)):Nat→Nat
 | 0=>0
 | n+1=>if S[n]? = some 0 then stl S n else n+1
noncomputable def qi (S:List (Fp p)):List (Fp p):=S.take (stl S S.length)
theorem L7 (S:List (Fp p)):∀n,stl S n≤n
 | 0=>ap 0
 | n+1=>by
  unfold stl
  split
  ·have:=L7 S n; omega
  ·omega
theorem Ji (S:List (Fp p)):∀n j,stl S n≤j→j<n→S[j]? = some 0
 | 0,j,_,h=>by omega
 | n+1,j,h1,h2=>by
  unfold stl at h1
  split at h1
  ·rename_i h0
   by_cases hj:j=n
   ·rw [hj]; exact h0
   ·exact Ji S n j h1 (by omega)
  ·omega
end
section
variable {p:Int} [IsP p]
end
end Pe

namespace Pe
open Go Gq
variable {T:Nat→Option Fn} {A:ac}
end Pe

namespace Pe
open Go Gq
variable {T:Nat→Option Fn} {A:ac}
section
variable {p:Int}
noncomputable def re (Q:List (Fp p)) (n:Nat) (v:Fp p):List (Fp p):=Q.set n ((Q[n]?).getD 0+v)
theorem G7 (Q:List (Fp p)) (n:Nat) (v:Fp p):(re Q n v).length=Q.length:=by unfold re; rw [bt]
end
section
variable {p:Int} [IsP p]
noncomputable def ub (m x:Fp p) (i:Nat):Nat→List (Fp p)→List (Fp p)→List (Fp p)
 | _,[],Q=>Q
 | k,y::ys,Q=>ub m x i (k+1) ys (re Q (i+k) (x*oo m (i%(m.len-1)) y%m))
noncomputable def tu (m:Fp p) (b:List (Fp p)):Nat→List (Fp p)→List (Fp p)→List (Fp p)
 | _,[],Q=>Q
 | i,x::xs,Q=>tu m b (i+1) xs (ub m x i 0 b Q)
theorem u4 (m x:Fp p) (i:Nat):∀(k:Nat) (b Q:List (Fp p)),(ub m x i k b Q).length=Q.length
 | _,[],_=>rfl
 | k,y::ys,Q=>by
  show (ub m x i (k+1) ys (re Q (i+k) _)).length=_;rw [u4,G7]
theorem sr (m:Fp p) (b:List (Fp p)):∀(i:Nat) (a Q:List (Fp p)),(tu m b i a Q).length=Q.length
 | _,[],_=>rfl
 | i,x::xs,Q=>by
  show (tu m b (i+1) xs (ub m x i 0 b Q)).length=_;rw [sr,u4]
end
end Pe

namespace Pe
open Go Gq
variable {T:Nat→Option Fn} {A:ac}
noncomputable def Nt {p:Int} [IsP p] (m:Fp p) (a b:List (Fp p)):List (Fp p):=tu m b 0 a (List.replicate (a.length+b.length-1) 0)
end Pe

namespace Pe
open Go Gq
variable {T:Nat→Option Fn} {A:ac}
end Pe

namespace Pe
open Go Gq
variable {T:Nat→Option Fn} {A:ac}
section
variable {p:Int}
theorem Gy {Q:List (Fp p)} {n j:Nat} {v:Fp p} (h:n≠j):(re Q n v)[j]? = Q[j]?:=by
 unfold re; rw [b5 h]
end
section
variable {p:Int} [IsP p]
theorem tp {m x:Fp p} {i n:Nat}:∀(k:Nat) (b Q:List (Fp p)),i+k+b.length≤n→(ub m x i k b Q)[n]? = Q[n]?
 | _,[],_,_=>rfl
 | k,y::ys,Q,h=>by
  rw [bf] at h;show (ub m x i (k+1) ys (re Q (i+k) _))[n]? = _;rw [tp (k+1) ys _ (by omega),Gy (by omega)]
theorem yp {m:Fp p} {b:List (Fp p)} {n:Nat}:∀(i:Nat) (a Q:List (Fp p)),i+a.length+b.length≤n+1→(tu m b i a Q)[n]? = Q[n]?
 | _,[],_,_=>rfl
 | i,x::xs,Q,h=>by
  rw [bf] at h;show (tu m b (i+1) xs (ub m x i 0 b Q))[n]? = _;rw [yp (i+1) xs _ (by omega),tp 0 b Q (by omega)]
theorem Dp {m x y:Fp p} {i:Nat}:∀(k:Nat) (b Q:List (Fp p)),ub m x i k (b++[y]) Q=re (ub m x i k b Q) (i+(k+b.length)) (x*oo m (i%(m.len-1)) y%m)
 | _,[],_=>rfl
 | k,z::zs,Q=>by
  show ub m x i (k+1) (zs++[y]) (re Q (i+k) _)=re (ub m x i (k+1) zs (re Q (i+k) _)) _ _;rw [Dp (k+1) zs,bf,show i+(k+1+zs.length)=i+(k+(zs.length+1)) by omega]
theorem Ci {m x:Fp p} {b:List (Fp p)}:∀(i:Nat) (a Q:List (Fp p)),tu m b i (a++[x]) Q=ub m x (i+a.length) 0 b (tu m b i a Q)
 | _,[],_=>rfl
 | i,z::zs,Q=>by
  show tu m b (i+1) (zs++[x]) (ub m z i 0 b Q)=ub m x _ 0 b (tu m b (i+1) zs (ub m z i 0 b Q));rw [Ci (i+1) zs,bf,show i+1+zs.length=i+(zs.length+1) by omega]
theorem H0 {m:Fp p} (hm:Fld m):∀(k:Nat) (y:Fp p),y≠0→y.len<m.len→oo m k y≠0
 | 0,_,h,_=>h
 | k+1,y,h,hl=>by
  obtain ⟨h1,h2⟩:=Yd hm h hl p.toNat;exact H0 hm k _ h1 h2
end
section
variable {p:Int}
theorem Hy {S:List (Fp p)}:∀(n k:Nat),stl S n=k+1→S[k]? ≠ some 0
 | 0,k,h=>by cases h
 | n+1,k,h=>by
  unfold stl at h
  split at h
  ·exact Hy n k h
  ·rename_i h0
   obtain rfl:n=k:=by omega
   exact h0
theorem My {S:List (Fp p)} (h:(qi S).length≠0):∃a x,qi S=a++[x]∧x≠0:=by
 have hle:=L7 S S.length;have hl:(qi S).length=stl S S.length:=by unfold qi; rw [b6]; omega
 obtain ⟨k,hk⟩:∃k,stl S S.length=k+1:=⟨stl S S.length-1,by omega⟩
 have h1:=Hy _ _ hk;have hlt:k<S.length:=by omega
 rw [ah hlt] at h1;refine ⟨S.take k,S[k],?_,fun h=>h1 (by rw [h])⟩
 unfold qi;rw [hk,de hlt]
end
section
variable {p:Int} [IsP p]
noncomputable def u5 (m:Fp p) (a b:List (Fp p)):List (Fp p):=if a.length=0∨b.length=0 then [] else qi (Nt m a b)
end
end Pe

namespace Pe
open Go Gq
variable {T:Nat→Option Fn} {A:ac}
section
variable {p:Int} [IsP p]
theorem N6 {N n:Nat} {Q:List (Fp p)} {v:Fp p} (hQ:∀c∈Q,c.len≤N) (hv:v.len≤N):∀c∈re Q n v,c.len≤N:=fun c hc=>by
 unfold re at hc;rcases dk hc with h | rfl
 ·exact hQ c h
 ·refine Pol.len_add_le ?_ hv
  cases he:Q[n]? with
  | none=>show (0:Fp p).len≤N; rw [Pol.len_zero]; omega
  | some w=>exact hQ w (dw he)
end
end Pe

namespace Pe
open Go Gq
section
variable {p:Int}
noncomputable def cS (A:List (Fp p)) (i:Nat):Fp p:=(A[i]?).getD 0
theorem L1 {A:List (Fp p)} {i:Nat} (h:A.length≤i):cS A i=0:=by unfold cS; rw [bg h]; rfl
theorem Vl {A:List (Fp p)} {i:Nat} (h:i<A.length):A[i]=cS A i:=by unfold cS; rw [ah h]; rfl
def zo (A:List (Fp p)):Prop:=∀n,A.length=n+1→cS A n≠0
theorem Hh (S:List (Fp p)) (i:Nat):cS (qi S) i=cS S i:=by
 unfold cS qi;have hle:=L7 S S.length
 by_cases h:i<stl S S.length
 ·rw [cm,if_pos h]
 ·rw [cm,if_neg h]
  by_cases h2:i<S.length
  ·rw [Ji S S.length i (by omega) h2]; rfl
  ·rw [bg (by omega)]
theorem u6 (S:List (Fp p)):zo (qi S):=fun n hn=>by
 obtain ⟨a,x,e,hx⟩:=My (S:=S) (by omega)
 rw [e] at hn ⊢;rw [bk,List.length_singleton] at hn;unfold cS;rw [aw (by omega),show n-a.length=0 by omega]
 exact hx
theorem zt {X:List (Fp p)} {n:Nat} (h:∀i,n≤i→cS X i=0):(qi X).length≤n:=by
 rcases cb n (qi X).length with g | g
 ·have:=u6 X ((qi X).length-1) (by omega)
  rw [Hh] at this;exact absurd (h _ (by omega)) this
 ·exact g
theorem Df:zo ([]:List (Fp p)):=fun n h=>by cases h
theorem a0m {A:List (Fp p)} {N:Nat} (h:∀i,(cS A i).len≤N):∀c∈A,c.len≤N:=fun c hc=>by
 obtain ⟨i,hi,rfl⟩:=i5 hc;rw [Vl hi]; exact h i
theorem a0j {A:List (Fp p)} {N:Nat} (h:∀c∈A,c.len≤N) (i:Nat):(cS A i).len≤N:=by
 by_cases hi:i<A.length
 ·rw [←Vl hi]; exact h _ (cx hi)
 ·rw [L1 (by omega),Pol.len_zero]; omega
theorem Lo {n:Nat} {f:Nat→Fp p} (i:Nat):cS ((List.range n).map f) i=if i<n then f i else 0:=by
 unfold cS;rw [dd]
 by_cases h:i<n
 ·rw [ek h,if_pos h]; rfl
 ·rw [bg (by simpa using h),if_neg h]; rfl
noncomputable def th (k:Int) (A B:List (Fp p)):List (Fp p):=qi ((List.range (max A.length B.length)).map fun i=>cS A i+Pol.C (zp p k)*cS B i)
theorem Or (k:Int) (A B:List (Fp p)) (i:Nat):cS (th k A B) i=cS A i+Pol.C (zp p k)*cS B i:=by
 unfold th;rw [Hh,Lo]
 split
 ·rfl
 ·rw [L1 (A:=A) (by omega),L1 (A:=B) (by omega),Gq.mul_zero,Gq.add_zero]
theorem Hu (k:Int) (A B:List (Fp p)):zo (th k A B):=u6 _
theorem Uj (k:Int) (A B:List (Fp p)):(th k A B).length≤max A.length B.length:=zt fun i hi=>by
 rw [Lo,if_neg (by omega)]
noncomputable def xx (c:Fp p) (k:Nat):List (Fp p):=List.replicate k 0++[c]
theorem sf (c:Fp p) (k:Nat):(xx c k).length=k+1:=by unfold xx; rw [bk,co]; rfl
theorem B5 (c:Fp p) (k i:Nat):cS (xx c k) i=if i=k then c else 0:=by
 unfold cS xx;rcases fj i k with h | h | h
 ·rw [av (by rw [co]; exact h),ma,if_pos h,if_neg (by omega)]; rfl
 ·rw [aw (by rw [co]; omega),co,h,p9,if_pos rfl]; rfl
 ·rw [bg (by rw [bk,co,List.length_singleton]; omega),if_neg (by omega)]; rfl
theorem Hs {c:Fp p} (h:c≠0) (k:Nat):zo (xx c k):=fun n hn=>by
 rw [sf] at hn;rw [B5,if_pos (by omega)]; exact h
theorem Ha (S:List (Fp p)):(qi S).length≤S.length:=by
 unfold qi; rw [b6]; omega
theorem On {B:List (Fp p)} (h:1≤B.length):∃b,B=b++[cS B (B.length-1)]∧b.length=B.length-1:=by
 have hlt:B.length-1<B.length:=by omega
 refine ⟨B.take (B.length-1),?_,by rw [b6]; omega⟩
 rw [←Vl hlt,←de hlt,show B.length-1+1=B.length by omega,im]
end
section
variable {p:Int} [IsP p]
theorem Bo {m x:Fp p} {i N:Nat} (hm:m≠0) (hN:m.len≤N+1):∀(k:Nat) (b Q:List (Fp p)),(∀c∈Q,c.len≤N)→∀c∈ub m x i k b Q,c.len≤N
 | _,[],_,h=>h
 | k,y::ys,Q,h=>Bo hm hN (k+1) ys _ (N6 h (by have:=Pol.len_mod (x*oo m (i%(m.len-1)) y) hm; omega))
theorem zx {m:Fp p} {b:List (Fp p)} {N:Nat} (hm:m≠0) (hN:m.len≤N+1):∀(i:Nat) (a Q:List (Fp p)),(∀c∈Q,c.len≤N)→∀c∈tu m b i a Q,c.len≤N
 | _,[],_,h=>h
 | i,_x::xs,Q,h=>zx hm hN (i+1) xs _ (Bo hm hN 0 b Q h)
theorem tl {m:Fp p} {a b:List (Fp p)} {N:Nat} (hm:m≠0) (hN:m.len≤N+1):∀c∈u5 m a b,c.len≤N:=fun c hc=>by
 unfold u5 at hc
 split at hc
 ·cases hc
 ·have h1:c∈Nt m a b:=List.mem_of_mem_take hc
  exact zx hm hN 0 a _ (fun c hc=>by rw [lk hc,Pol.len_zero]; omega) c h1
theorem uw (m:Fp p) (a b:List (Fp p)):zo (u5 m a b):=by
 unfold u5
 split
 ·exact Df
 ·exact u6 _
theorem uf {m:Fp p} {a b:List (Fp p)}:(u5 m a b).length≤a.length+b.length-1:=by
 unfold u5
 split
 ·exact iu _
 ·have:=Ha (Nt m a b)
  have hl:(Nt m a b).length=a.length+b.length-1:=by unfold Nt; rw [sr,co]
  omega
theorem Rx {m x y:Fp p} {a b:List (Fp p)}:cS (Nt m (a++[x]) (b++[y])) (a.length+b.length)=x*oo m (a.length%(m.len-1)) y%m:=by
 unfold Nt;rw [Ci,Dp];unfold re;rw [tp _ _ _ (by omega),yp _ _ _ (by rw [bk,bf,f0]; omega)]
 have hN:0+a.length+(0+b.length)=a.length+b.length:=by omega
 rw [hN];unfold cS;rw [aq (by rw [u4,sr,co,bk,bk]; simp only [bf,f0]; omega)]
 rw [ma,if_pos (by rw [bk,bk]; simp only [bf,f0]; omega)]
 show (0:Fp p)+_=_;rw [Gq.zero_add,show 0+a.length=a.length by omega]
theorem I6 {m:Fp p} {A B:List (Fp p)} (ha:1≤A.length) (hb:1≤B.length):cS (u5 m A B) (A.length-1+(B.length-1))=cS A (A.length-1)*oo m ((A.length-1)%(m.len-1)) (cS B (B.length-1))%m:=by
 obtain ⟨a,ea,la⟩:=On ha;obtain ⟨b,eb,lb⟩:=On hb;have h:=Rx (m:=m) (x:=cS A (A.length-1)) (y:=cS B (B.length-1)) (a:=a) (b:=b);rw [←ea,←eb,la,lb] at h;unfold u5;rw [if_neg (by omega),Hh]
 exact h
theorem Ic {m x y:Fp p} (hm:Fld m) (hx:x.len<m.len) (hy:y≠0) (hyl:y.len<m.len):(x*Ao m y%m)*y%m=x∧y*(x*Ao m y%m)%m=x:=by
 have h0:m≠0:=hm.mon.2;have e:=Of hm hy hyl
 have key:Quo.mk m ((x*Ao m y%m)*y)=Quo.mk m x:=by
  rw [Quo.mk_mul,Pol.mk_mod,Quo.mk_mul,Gq.mul_assoc,e,Gq.mul_one]
 have h1:=(Pol.mod_eq_iff h0).2 key;rw [Pol.mod_small hx] at h1;exact ⟨h1,by rw [Gq.mul_comm]; exact h1⟩
theorem J2 {m:Fp p}:∀(b a:Nat) (x:Fp p),oo m (a+b) x=oo m a (oo m b x)
 | 0,_,_=>rfl
 | b+1,a,x=>by
  show oo m (a+b) (pw x p.toNat%m)=oo m a (oo m b (pw x p.toNat%m));exact J2 b a _
theorem M5 {m:Fp p} (hm:Fld m) (j:Nat) {z:Fp p} (hz:z.len<m.len):oo m (j%(m.len-1)) (oo m ((m.len-1-j%(m.len-1))%(m.len-1)) z)=z:=by
 have h2:=hm.two;have hlt:=Nat.mod_lt j (show 0<m.len-1 by omega)
 rw [Iv hm _ hz,←J2,show j%(m.len-1)+(m.len-1-j%(m.len-1))=m.len-1 by omega,←Iv hm _ hz,Nat.mod_self]
 rfl
noncomputable def qc (left:Bool) (m:Fp p) (A B:List (Fp p)):Fp p:=
 if left then oo m ((m.len-1-(B.length-1)%(m.len-1))%(m.len-1)) (cS A (A.length-1)*Ao m (cS B (B.length-1))%m)
 else cS A (A.length-1)*Ao m (oo m ((A.length-B.length)%(m.len-1)) (cS B (B.length-1)))%m
noncomputable def qT (left:Bool) (m:Fp p) (A B:List (Fp p)):List (Fp p):=xx (qc left m A B) (A.length-B.length)
noncomputable def qP (left:Bool) (m:Fp p) (A B:List (Fp p)):List (Fp p):=if left then u5 m B (qT left m A B) else u5 m (qT left m A B) B
end
section
variable {p:Int}
structure Sk (m:Fp p) (A:List (Fp p)):Prop where
 trim:zo A
 eight:A.length≤8
 res:∀c∈A,c.len<m.len
theorem Sk.cs {m:Fp p} {A:List (Fp p)} (h:Sk m A) (hm:m≠0) (i:Nat):(cS A i).len<m.len:=by
 have:=a0j (N:=m.len-1) (fun c hc=>by have:=h.res c hc; omega) i
 have:=Pol.len_pos hm;omega
theorem Sk.top {m:Fp p} {A:List (Fp p)} (h:Sk m A) (h1:1≤A.length):cS A (A.length-1)≠0:=h.trim _ (by omega)
theorem Sk.nil (m:Fp p):Sk m []:=⟨Df,by simp,fun c h=>by cases h⟩
end
section
variable {p:Int} [IsP p]
theorem a2t {p:Int} {a:Fp p} {n:Nat} (h:a.len≤n):a.c n=0:=a.lt_len n h
theorem Sk.plus {m:Fp p} {A B:List (Fp p)} (hm:m≠0) (hA:Sk m A) (hB:Sk m B) (k:Int):Sk m (th k A B):=by
 have h1:=Pol.len_pos hm;refine ⟨Hu k A B,by have:=Uj k A B; have:=hA.eight; have:=hB.eight; omega,fun c hc=>?_⟩
 have:=a0m (A:=th k A B) (N:=m.len-1) (fun i=>by
  rw [Or];have a1:=hA.cs hm i;have a2:=hB.cs hm i;exact Pol.len_add_le (by omega) (Pol.len_le fun j hj=>by rw [Pol.c_Cmul,a2t (by omega),Gq.mul_zero])) c hc
 omega
theorem Wp (left:Bool) {m:Fp p} (hm:Fld m) {A B:List (Fp p)} (hA:Sk m A) (hB:Sk m B) (h1:1≤B.length) (hle:B.length≤A.length) :
 qc left m A B≠0∧(qc left m A B).len<m.len∧Sk m (qT left m A B)∧Sk m (qP left m A B)∧(th (-1) A (qP left m A B)).length<A.length∧Sk m (th (-1) A (qP left m A B)):=by
 have h0:m≠0:=hm.mon.2;have hx:=hA.top (by omega)
 have hxl:=hA.cs h0 (A.length-1);have hy:=hB.top h1;have hyl:=hB.cs h0 (B.length-1);have hfy:oo m ((A.length-B.length)%(m.len-1)) (cS B (B.length-1))≠0:=H0 hm _ _ hy hyl;have hfl:=tw h0 ((A.length-B.length)%(m.len-1)) (cS B (B.length-1)) hyl;have hb1:=Ic hm hxl hfy hfl;have hb2:=Ic hm hxl hy hyl;have hzl:(cS A (A.length-1)*Ao m (cS B (B.length-1))%m).len<m.len:=Pol.len_mod _ h0
 have hz0:cS A (A.length-1)*Ao m (cS B (B.length-1))%m≠0:=fun h=>by
  have:=hb2.1;rw [h,Gq.zero_mul,Pol.zero_mod h0] at this;exact hx this.symm
 have hc0:qc left m A B≠0:=by
  unfold qc;cases left with
  | true=>simp only [if_true]; exact H0 hm _ _ hz0 hzl
  | false=>
   simp only [ak,if_false];intro h;have:=hb1.1;rw [h,Gq.zero_mul,Pol.zero_mod h0] at this;exact hx this.symm
 have hcl:(qc left m A B).len<m.len:=by
  unfold qc;cases left with
  | true=>simp only [if_true]; exact tw h0 _ _ hzl
  | false=>simp only [ak,if_false]; exact Pol.len_mod _ h0
 have hTl:(qT left m A B).length=A.length-B.length+1:=sf _ _;have h8:=hA.eight
 have hT:Sk m (qT left m A B):=⟨Hs hc0 _,by omega,fun c hc=>by
  unfold qT xx at hc;rcases au.1 hc with h | h
  ·rw [lk h,Pol.len_zero]; exact Pol.len_pos h0
  ·rw [bb.1 h]; exact hcl⟩
 have hPl:(qP left m A B).length≤A.length:=by
  unfold qP;cases left with
  | true=>have:=uf (m:=m) (a:=B) (b:=qT true m A B); simp only [if_true]; omega
  | false=>have:=uf (m:=m) (a:=qT false m A B) (b:=B); simp only [ak,if_false]; omega
 have hP:Sk m (qP left m A B):=by
  have hm1:=Pol.len_pos h0;refine ⟨?_,by omega,?_⟩
  ·unfold qP
   cases left with
   | true=>exact uw _ _ _
   | false=>exact uw _ _ _
  ·intro c hc
   have:c.len≤m.len-1:=by
    unfold qP at hc;cases left with
    | true=>exact tl h0 (by omega) c hc
    | false=>exact tl h0 (by omega) c hc
   omega
 have htop:cS (qP left m A B) (A.length-1)=cS A (A.length-1):=by
  unfold qP;cases left with
  | true=>
   simp only [if_true];have h:=I6 (m:=m) (A:=B) (B:=qT true m A B) h1 (by omega)
   rw [hTl,show B.length-1+(A.length-B.length+1-1)=A.length-1 by omega,show A.length-B.length+1-1=A.length-B.length by omega] at h
   rw [h];unfold qT;rw [B5,if_pos rfl];unfold qc;simp only [if_true];rw [M5 hm (B.length-1) hzl];exact hb2.2
  | false=>
   simp only [ak,if_false];have h:=I6 (m:=m) (A:=qT false m A B) (B:=B) (by omega) h1
   rw [hTl,show A.length-B.length+1-1+(B.length-1)=A.length-1 by omega,show A.length-B.length+1-1=A.length-B.length by omega] at h
   rw [h];unfold qT;rw [B5,if_pos rfl];unfold qc;simp only [ak,if_false];exact hb1.1
 have hneg:∀x:Fp p,x+Pol.C (zp p (-1))*x=0:=fun x=>by
  rw [Sr,Gx,Pol.C_neg,Pol.C_one];exact ba [x] rfl
 refine ⟨hc0,hcl,hT,hP,?_,hA.plus h0 hP (-1)⟩
 have hlt:(th (-1) A (qP left m A B)).length≤A.length-1:=zt fun i hi=>by
  rw [Lo]
  split
  ·rcases cb i A.length with g | g
   ·rw [show i=A.length-1 by omega,htop,hneg]
   ·rw [L1 g,L1 (A:=qP left m A B) (by omega),Gq.mul_zero,Gq.add_zero]
  ·rfl
 omega
def Zto (Q A B:List (Fp p)):Prop:=∀j,j+B.length≤A.length→cS Q j=0
theorem Zto.step {left:Bool} {m:Fp p} (hm:Fld m) {Q A B:List (Fp p)} (hA:Sk m A) (hB:Sk m B) (h1:1≤B.length) (hle:B.length≤A.length) (hz:Zto Q A B):Zto (th 1 Q (qT left m A B)) (th (-1) A (qP left m A B)) B:=fun j hj=>by
 obtain ⟨_,_,_,_,h,_⟩:=Wp left hm hA hB h1 hle;unfold qT;rw [Or,hz j (by omega),B5,if_neg (by omega),Gq.mul_zero,Gq.add_zero]
end
end Pe



namespace Pe
open Go Gq
variable {T:Nat→Option Fn} {A:ac}
abbrev z6:List Int:=List.replicate 6 0
section
variable {p:Int} [IsP p]
noncomputable def mono (p:Int) (i:Nat):Fp p:=bx p (p^i)
end
end Pe

namespace Pe
open Go Gq
variable {T:Nat→Option Fn} {A:ac}
section
variable {O:ac} {g:Nat} {first caps:List D}
structure CmpRow (O:ac) (g:Nat) (first caps:List D) (f:D→Int) (s:Sh) (cs:List D):Prop where
 nf:ta first
 nc:ta caps
 nx:ta cs
 sh:Ag s cs
 ask:∀x∈cs,∀y∈cs,∃v:Int,ask O g (first++[x,y]++caps)=some (D.int .i64 v)∧(v<0↔f x<f y)
theorem CmpRow.perm {f:D→Int} {s:Sh} {cs ds:List D} (h:CmpRow O g first caps f s cs) (p:ds.Perm cs):CmpRow O g first caps f s ds:=
 ⟨h.nf,h.nc,fun x hx=>h.nx x (p.subset hx),fun x hx=>h.sh x (p.subset hx),fun x hx y hy=>h.ask x (p.subset hx) y (p.subset hy)⟩
theorem CmpRow.call {f:D→Int} {s:Sh} {cs:List D} (h:CmpRow O g first caps f s cs) {hp:Heap} {np:Nat} {news:List Nat} {x y:D} (hx:x∈cs) (hy:y∈cs) :
 ∃v:Int,xz O np hp .flat news (g,first.map .d,caps.map .d) [.d x,.d y]=some (.d (D.int .i64 v),hp)∧(v<0↔f x<f y):=by
 have e:kl hp (first.map .d++[.d x,.d y]++caps.map .d)=some (first++[x,y]++caps):=
  pv hp (pv hp (jj hp h.nf) (jj hp (ds:=[x,y]) (by intro z hz; simp at hz; rcases hz with rfl | rfl; exact h.nx _ hx; exact h.nx _ hy))) (jj hp h.nc)
 obtain ⟨v,e1,e2⟩:=h.ask x hx y hy;refine ⟨v,?_,e2⟩;rw [wx,e,a9,D6,e1,a9,yw,show (D.int IntKind.i64 v).flat=true from rfl,if_pos rfl]
end
end Pe

namespace Pe
open Go Gq
variable {T:Nat→Option Fn} {A:ac}
section
variable {p:Int}
noncomputable def elim (a b:Fp p):Fp p:=b+Pol.C (-(b.c (a.len-1)))*a
end
section
variable {p:Int} [IsP p]
structure Desc (N:Nat) (L:List (Fp p)):Prop where
 pw:L.Pairwise fun x y=>y.len<x.len
 mon:∀b∈L,Monic b
 le:∀b∈L,b.len≤N
theorem Desc.nil (N:Nat):Desc N ([]:List (Fp p)):=⟨List.Pairwise.nil,(fun _ h=>by cases h),(fun _ h=>by cases h)⟩
theorem Desc.tail {N:Nat} {b:Fp p} {L:List (Fp p)} (h:Desc N (b::L)):Desc N L∧∀c∈L,c.len<b.len:=
 ⟨⟨h.pw.tail,fun c hc=>h.mon c (by simp [hc]),fun c hc=>h.le c (by simp [hc])⟩,(d9.1 h.pw).1⟩
theorem Desc.length:∀{N:Nat} {L:List (Fp p)},Desc N L→L.length≤N
 | N,[],_=>iu _
 | N,b::L,h=>by
  obtain ⟨h1,h2⟩:=h.tail;have hb:=Pol.len_pos (h.mon b (by simp)).2
  have hle:=h.le b (by simp)
  have:=Desc.length (N:=b.len-1) ⟨h1.pw,h1.mon,fun c hc=>by have:=h2 c hc; omega⟩
  rw [bf]; omega
end
section
variable {p:Int}
end
end Pe

namespace Pe
open Go Gq
variable {T:Nat→Option Fn} {A:ac}
end Pe

namespace Pe
open Go Gq
variable {T:Nat→Option Fn} {A:ac}
section
variable {p:Int} [IsP p]
end
end Pe



namespace Pe
open Go Gq
variable {T:Nat→Option Fn} {A:ac}
section
variable {p:Int} [IsP p]
end
end Pe


namespace Pe
open Go Gq
variable {T:Nat→Option Fn} {A:ac}
section
variable {p:Int}
end
section
variable {p:Int} [IsP p]
end
end Pe


namespace Pe
open Go Gq
variable {T:Nat→Option Fn} {A:ac}
end Pe

namespace Pe
open Go Gq
variable {T:Nat→Option Fn} {A:ac}
end Pe


namespace Pe
open Go Gq
variable {T:Nat→Option Fn} {A:ac}
section
variable {p:Int} [IsP p]
end
end Pe


namespace Pe
open Go Gq
variable {T:Nat→Option Fn} {A:ac}
section
variable {p:Int} [IsP p]
end
end Pe

namespace Pe
open Go Gq
variable {T:Nat→Option Fn} {A:ac}
section
variable {α:Type}
end
end Pe

namespace Pe
open Go Gq
variable {T:Nat→Option Fn} {A:ac}
end Pe


namespace Pe
open Go Gq
variable {T:Nat→Option Fn} {A:ac}
end Pe

namespace Pe
open Go Gq
variable {T:Nat→Option Fn} {A:ac}
end Pe

namespace Pe
open Go Gq
variable {T:Nat→Option Fn} {A:ac}
section
variable {p:Int} [IsP p]
noncomputable def a30 (m:Fp p) (X:List (Fp p)):List (Fp p):=u5 m (xx (Ao m (cS X (X.length-1))) 0) X
theorem Sk.mon {m:Fp p} {X:List (Fp p)} (hm:m≠0) (hX:Sk m X):Sk m (a30 m X):=by
 have h1:=Pol.len_pos hm;have hl:=uf (m:=m) (a:=xx (Ao m (cS X (X.length-1))) 0) (b:=X);rw [sf] at hl;have h8:=hX.eight;exact ⟨uw _ _ _,by unfold a30; omega,fun c hc=>by have:=tl (N:=m.len-1) hm (by omega) c hc; omega⟩
end
end Pe

namespace Pe
open Go Gq
variable {T:Nat→Option Fn} {A:ac}
section
variable {p:Int}
end
section
variable {p:Int} [IsP p]
end
end Pe


namespace Pe
open Go Gq
variable {T:Nat→Option Fn} {A:ac}
section
variable {p:Int} [IsP p]
end
end Pe

namespace Pe
open Go Gq
section
variable {p:Int}
section
variable {m:Fp p}
noncomputable def e0:Nat→Quo m
 | 0=>1
 | _+1=>0
theorem a7b (t0 t1 t2 a b c d e f g h i s u v:Quo m):t0*(a*s+b*u+c*v)+t1*(d*s+e*u+f*v)+t2*(g*s+h*u+i*v)=(t0*a+t1*d+t2*g)*s+(t0*b+t1*e+t2*h)*u+(t0*c+t1*f+t2*i)*v:=by
 have l:∀t a b c:Quo m,t*(a*s+b*u+c*v)=t*a*s+t*b*u+t*c*v:=fun t a b c=>ba [t,a,b,c,s,u,v] rfl
 have q:∀x y z w:Quo m,(x+y+z)*w=x*w+y*w+z*w:=fun x y z w=>ba [x,y,z,w] rfl
 have z:∀p1 p2 p3 q1 q2 q3 r1 r2 r3:Quo m,(p1+p2+p3)+(q1+q2+q3)+(r1+r2+r3)=(p1+q1+r1)+(p2+q2+r2)+(p3+q3+r3):=fun p1 p2 p3 q1 q2 q3 r1 r2 r3=>ba [p1,p2,p3,q1,q2,q3,r1,r2,r3] rfl
 rw [l,l,l,q,q,q,z]
theorem eight [IsP p] (t0 t1 t2 a b c d e f g h s u v:Quo m):t0*(a*s+b*u+c*v)+t1*(d*s+e*u+f*v)+t2*(g*s+h*u)=(t0*a+t1*d+t2*g)*s+(t0*b+t1*e+t2*h)*u+(t0*c+t1*f)*v:=by
 have:=a7b t0 t1 t2 a b c d e f g h 0 s u v;simp only [Gq.zero_mul,Gq.mul_zero,Gq.add_zero] at this;exact this
end
end
end Pe

namespace Pe
open Go Gq
variable {T:Nat→Option Fn} {A:ac}
section
variable {p:Int}
end
end Pe


namespace Pe
open Go Gq
variable {T:Nat→Option Fn} {A:ac}
end Pe

namespace Pe
open Go Gq
variable {T:Nat→Option Fn} {A:ac}
end Pe



namespace Pe
open Go Gq
variable {T:Nat→Option Fn} {A:ac}
section
variable {p:Int}
end
end Pe

namespace Pe
open Go Gq
variable {T:Nat→Option Fn} {A:ac}
end Pe

namespace Pe
open Go Gq
variable {T:Nat→Option Fn} {A:ac}
def Vd (p d:Int):Prop:=0≤d∧d≤8∧p^d.toNat≤343
instance (p d:Int):Decidable (Vd p d):=by unfold Vd; infer_instance
theorem Xy {p:Int} [IsP p] (a:Fp p) {l:Nat} (h:a.len≤l+1):∀n,(pw a n).len≤n*l+1
 | 0=>by
  show (1:Fp p).len≤_;rw [Pol.len_one]; omega
 | n+1=>by
  rw [pw];have ih:=Xy a h n
  by_cases h0:pw a n=0
  ·rw [h0,Gq.zero_mul,Pol.len_zero]; omega
  ·by_cases h1:a=0
   ·rw [h1,Gq.mul_zero,Pol.len_zero]; omega
   ·have:=Pol.len_mul h0 h1
    rw [ct];omega
end Pe

namespace Pe
open Go Gq
variable {T:Nat→Option Fn} {A:ac}
def wc (p:Int) (l:List Int) (j:Nat):Int:=(((j+1:Nat):Int)*cf l (j+1))%p
def Qg (p:Int) (l:List Int):List Int:=upd (wc p l) 63 0 (pad [])
theorem Gv {p:Int} (hp:0<p) (l:List Int) (j:Nat):0≤wc p l j∧wc p l j<p:=⟨c8 _ (by omega),bq _ hp⟩
theorem zy (p:Int) (l:List Int):(Qg p l).length=64:=by
 unfold Qg;rw [sv];exact bm _
theorem Sw {p:Int} [IsP p] (l:List Int):Can p (Qg p l):=fun x hx=>by
 have hp:=IsP.pos (p:=p);obtain ⟨j,hj⟩:=List.getElem?_of_mem hx;unfold Qg at hj;rw [Ba] at hj
 split at hj
 ·obtain rfl:=ao hj
  exact Gv hp l j
 ·have h0:(pad [])=List.replicate 64 0:=by decide +kernel
  rw [h0] at hj;have:=lk (dw hj);omega
noncomputable def me (p:Int) (a:Fp p):Fp p:=dj p (Qg p (pad (row a)))
theorem Ia {p:Int} [IsP p] (a:Fp p):Qg p (pad (row a))=pad (row (me p a)):=Bc (Sw _) (zy _ _)
theorem C4 {p:Int} [IsP p] (a:Fp p):(me p a).len≤64:=ko (Pol.len_le (yn _)) (Nat.le_of_eq (zy _ _))
theorem Xr {O:ac} {p:Int} [IsP p] {l z:List Int} {c:V} (hc:c.refs=[]) (hl:l.length=64) (hb:Can p l):∀(m j:Nat) (cur:List Int),j+m=63→cur.length=64 →
 dn O 0 (.loop Z8_L0) ⟨[(0,(.d (.int .i64 p))),(3,.ptr 0 []),(4,.ptr 1 []),(7,.ptr 3 []),(8,(.d (.int .i64 (((j+1:Nat):Int)))))],[.box false (D.arr 64 .leaf (ae .u8 l)),.box false (D.arr 64 .leaf (ae .u8 z)),.hole,.box false (D.arr 64 .leaf (ae .u8 cur))]⟩ =
  some (.exit 0,⟨[(0,(.d (.int .i64 p))),(3,.ptr 0 []),(4,.ptr 1 []),(7,.ptr 3 []),(8,(.d (.int .i64 64))),(18,(.d (.bool false)))],[.box false (D.arr 64 .leaf (ae .u8 l)),.box false (D.arr 64 .leaf (ae .u8 z)),.hole,.box false (D.arr 64 .leaf (ae .u8 (upd (wc p l) m j cur)))]⟩)
 | 0,j,cur,hj,hcl=>by
  obtain rfl:j=63:=by omega
  exact bi (by simp -implicitDefEqProofs [Z8_L0,af,upd])
 | m+1,j,cur,hj,hcl=>by
  have hp:=IsP.pos (p:=p);have hp7:=IsP.le (p:=p);have hp0:p≠0:=by omega
  have hlt:j<cur.length:=by omega
  have hlb:j+1<l.length:=by omega
  have hj64:((j+1:Nat):Int)<64:=by omega
  have hj64':j+1<64:=by omega
  have hj63:j<64:=by omega
  have hx:l[j+1]=cf l (j+1):=(da hlb).symm;have gb:=hb.le hp (j+1);have gm:=db (x:=((j+1:Nat):Int)) (y:=cf l (j+1)) (b:=100) (c:=10) (by omega) (by omega) (by omega)
  have w1:IntKind.i64.wrap (((j+1:Nat):Int)-1)=(j:Int):=(w64 (x:=((j+1:Nat):Int)-1) (by omega)).trans (by omega)
  have w2:IntKind.i64.wrap (cf l (j+1))=cf l (j+1):=w64 (by omega)
  have w3:IntKind.i64.wrap (((j+1:Nat):Int)*cf l (j+1))=((j+1:Nat):Int)*cf l (j+1):=w64 (by omega)
  have h0:0≤((j+1:Nat):Int)*cf l (j+1):=ce (by omega) gb.1
  have w4:(((j+1:Nat):Int)*cf l (j+1)).tmod p=wc p l j:=br h0;have hin:=Gv hp l j;have w5:IntKind.u8.wrap (wc p l j)=wc p l j:=w8 (by omega)
  have w6:IntKind.i64.wrap (((j+1:Nat):Int)+1)=((j+1+1:Nat):Int):=(w64 (x:=((j+1:Nat):Int)+1) (by omega)).trans (by omega)
  have n1:(((j+1:Nat):Int)).toNat=j+1:=by omega
  refine bh ?_ (Xr (c:=c) hc hl hb m (j+1) (cur.set j (wc p l j)) (by omega) (by simpa using hcl))
  generalize hJ:((j+1:Nat):Int)=J at *;generalize ((j+1+1:Nat):Int)=J1 at *;have hJ0:0≤J:=by omega
  simp -implicitDefEqProofs [Z8_L0,af,hlt,hlb,hj64,hj64',hj63,hx,w1,w2,w3,w4,w5,w6,n1,hp0,hJ0]
def ik (O:ac) (F:Nat):Prop:=∀(p:Int) [IsP p] (a:Fp p),a.len≤64→ask O F [(D.int .i64 p),(D.arr 64 .leaf (ae .u8 (pad (row a))))]=some (.tup [(D.arr 64 .leaf (ae .u8 (pad (row (me p a))))),(D.int .i64 0)])
theorem Cc (hT:T F8=some Z8) (hpc:ut (den T A)):ik (den T A) F8:=by
 intro p ip a ha;have e1:=hpc p [pad (row a)] (fun x hx=>by simp at hx; subst hx; exact ⟨bm _,ze a⟩) (by simp)
 rw [Dt,show [pad (row a)].map Gd=[(D.arr 64 .leaf (ae .u8 (pad (row a))))] from rfl] at e1;have e2:=Xr (O:=den T A) (z:=pad []) (c:=(.d (.int .i64 0))) (by simp [V.refs]) (bm _) (oz a) 63 0 (pad []) (by omega) (bm _)
 have e0:((0+1:Nat):Int)=1:=rfl;have e3:upd (wc p (pad (row a))) 63 0 (pad [])=pad (row (me p a)):=Ia a;rw [e0,e3] at e2;refine bj hT rfl ?_;generalize pad (row (me p a))=Pr at *;generalize pad (row a)=Pa at *;simp -implicitDefEqProofs [Z8,Z8_B,af,e1,e2,List.replicate]
theorem Vf {O:ac} {p:Int} [IsP p] {l z:List Int} (hl:l.length=64) (hb:Can p l):∀(m j:Nat) (cur:List Int),j+m=63→cur.length=64 →
 dn O 0 (.loop Z2o_L0) ⟨[(0,(.d (.int .i64 p))),(3,.ptr 0 []),(4,.ptr 1 []),(7,.ptr 3 []),(8,(.d (.int .i64 (((j+1:Nat):Int)))))],[.box false (D.arr 64 .leaf (ae .u8 l)),.box false (D.arr 64 .leaf (ae .u8 z)),.hole,.box false (D.arr 64 .leaf (ae .u8 cur))]⟩ =
  some (.exit 0,⟨[(0,(.d (.int .i64 p))),(3,.ptr 0 []),(4,.ptr 1 []),(7,.ptr 3 []),(8,(.d (.int .i64 64))),(19,(.d (.bool false)))],[.box false (D.arr 64 .leaf (ae .u8 l)),.box false (D.arr 64 .leaf (ae .u8 z)),.hole,.box false (D.arr 64 .leaf (ae .u8 (upd (wc p l) m j cur)))]⟩)
 | 0,j,cur,hj,hcl=>by
  obtain rfl:j=63:=by omega
  exact bi (by simp -implicitDefEqProofs [Z2o_L0,af,upd])
 | m+1,j,cur,hj,hcl=>by
  have hp:=IsP.pos (p:=p);have hp7:=IsP.le (p:=p);have hp0:p≠0:=by omega
  have hlt:j<cur.length:=by omega
  have hlb:j+1<l.length:=by omega
  have hj64:((j+1:Nat):Int)<64:=by omega
  have hj64':j+1<64:=by omega
  have hj63:j<64:=by omega
  have hx:l[j+1]=cf l (j+1):=(da hlb).symm;have gb:=hb.le hp (j+1);have w1:IntKind.i64.wrap (((j+1:Nat):Int)-1)=(j:Int):=(w64 (x:=((j+1:Nat):Int)-1) (by omega)).trans (by omega)
  have w2:IntKind.i64.wrap (cf l (j+1))=cf l (j+1):=w64 (by omega)
  have hr:((j+1:Nat):Int).tmod p=((j+1:Nat):Int)%p:=br (by omega)
  have hr0:0≤((j+1:Nat):Int)%p:=c8 _ (by omega)
  have hr1:((j+1:Nat):Int)%p<p:=bq _ hp;have gm:=db (x:=((j+1:Nat):Int)%p) (y:=cf l (j+1)) (b:=100) (c:=10) (by omega) (by omega) (by omega)
  have w3:IntKind.i64.wrap (((j+1:Nat):Int)%p*cf l (j+1))=((j+1:Nat):Int)%p*cf l (j+1):=w64 (by omega)
  have h0:0≤((j+1:Nat):Int)%p*cf l (j+1):=ce (by omega) gb.1
  have w4:(((j+1:Nat):Int)%p*cf l (j+1)).tmod p=wc p l j:=by
   rw [br h0];unfold wc;rw [Int.mul_emod,fd _ (Int.dvd_refl p),←Int.mul_emod]
  have hin:=Gv hp l j;have w5:IntKind.u8.wrap (wc p l j)=wc p l j:=w8 (by omega)
  have w6:IntKind.i64.wrap (((j+1:Nat):Int)+1)=((j+1+1:Nat):Int):=(w64 (x:=((j+1:Nat):Int)+1) (by omega)).trans (by omega)
  have n1:(((j+1:Nat):Int)).toNat=j+1:=by omega
  refine bh ?_ (Vf hl hb m (j+1) (cur.set j (wc p l j)) (by omega) (by simpa using hcl))
  generalize hJ:((j+1:Nat):Int)=J at *;generalize ((j+1+1:Nat):Int)=J1 at *;have hJ0:0≤J:=by omega
  simp -implicitDefEqProofs [Z2o_L0,af,hlt,hlb,hj64,hj64',hj63,hx,w1,w2,w3,w4,w5,w6,n1,hp0,hJ0,hr]
theorem Ap (hT:T F2o=some Z2o) (hpc:Ho (den T A)):ik (den T A) F2o:=by
 intro p ip a ha;have e1:=hpc p [pad (row a)] (fun x hx=>by simp at hx; subst hx; exact ⟨bm _,ze a⟩) (by simp)
 rw [Dt,show [pad (row a)].map Gd=[(D.arr 64 .leaf (ae .u8 (pad (row a))))] from rfl] at e1;have e2:=Vf (O:=den T A) (z:=pad []) (bm _) (oz a) 63 0 (pad []) (by omega) (bm _)
 have e0:((0+1:Nat):Int)=1:=rfl;have e3:upd (wc p (pad (row a))) 63 0 (pad [])=pad (row (me p a)):=Ia a;rw [e0,e3] at e2;refine bj hT rfl ?_;generalize pad (row (me p a))=Pr at *;generalize pad (row a)=Pa at *;simp -implicitDefEqProofs [Z2o,Z2o_B,af,e1,e2,List.replicate]
def jc (p:Int) (l:List Int):Prop:=∃(_:IsP p) (a:Fp p),l=pad (row a)∧a.len≤64∧p≠2∧(a.len=2∨a.len=4∨a.len=6)∧(Pol.gcd a (me p a)).len=1
theorem Br {p:Int} [ip:IsP p] {a:Fp p} (ha:a.len≤64):jc p (pad (row a))↔p≠2∧(a.len=2∨a.len=4∨a.len=6)∧(Pol.gcd a (me p a)).len=1:=by
 refine ⟨?_,fun h=>⟨ip,a,rfl,ha,h⟩⟩
 rintro ⟨_,b,e,hb,h⟩
 obtain rfl:=(tg ha hb).1 e;exact h
open Classical in
def ro (O:ac) (F:Nat):Prop:=∀(p:Int) (l:List Int),jz l→l.length=64→ask O F [(D.int .i64 p),(D.arr 64 .leaf (ae .u8 l))]=some (D.bool (decide (jc p l)))
theorem J7 {p:Int} {l:List Int} (h:¬ (isP p=true∧md p l=true)):¬ jc p l:=by
 rintro ⟨ip,a,rfl,-⟩
 exact h ⟨J0,It⟩
theorem Bg {p:Int} {l:List Int} (h:isP p=true∧md p l=true):rr p [l]=0:=by
 unfold rr;rw [if_pos ⟨h.1,by simpa using h.2⟩]
open Classical in
theorem T8 (hT:T F9=some Z9) (hro:Av (den T A)) (hkr:B7 (den T A)) (hip:Di (den T A)) (hdg:lh (den T A)) (hde:ik (den T A) F8) (hg:Ij (den T A)) (h1:Hp (den T A)):ro (den T A) F9:=by
 intro p l hb hl;have e1:=hro l hb hl;have e2:=hip p l hb hl;refine bj hT rfl ?_
 by_cases hbad:isP p=true∧md p l=true
 ·obtain ⟨ip,a,ha,rfl⟩:=Ae hb hl (Bg hbad)
  have d0:=Br ha;rw [hbad.1,hbad.2] at e2;simp only [Bool.and_self] at e2;have e1:=hkr p a ha
  by_cases hp2:p=2
  ·have hD:decide (jc p (pad (row a)))=false:=decide_eq_false fun h=>(d0.1 h).1 hp2
   rw [hD];subst hp2;generalize pad (row a)=Pa at *;simp -implicitDefEqProofs [Z9,Z9_B,af,e1,e2]
  ·have e3:=hdg (row a) (by rw [b8]; omega)
   rw [b8] at e3
   by_cases hn:a.len=2∨a.len=4∨a.len=6
   ·have ha0:a≠0:=fun h=>by rw [h,Pol.len_zero] at hn; omega
    have e4:=hde p a ha;have e5:=hkr p (me p a) (C4 a);have e6:=hg p a (me p a) (.inl ha0) (by omega) (by have:=C4 (p:=p) a; omega)
    have hgl:=(Pol.gcd_dv_left (a:=a) (b:=me p a) (.inl ha0)).len ha0;have hgm:=Pol.gcd_monic (a:=a) (b:=me p a) (.inl ha0);have e7:=h1 p (Pol.gcd a (me p a)) (by omega)
    have hD:decide (jc p (pad (row a)))=decide ((Pol.gcd a (me p a)).len=1∧cf (row (Pol.gcd a (me p a))) 0=1):=by
     refine decide_eq_decide.2 (d0.trans ⟨fun h=>⟨h.2.2,?_⟩,fun h=>⟨hp2,hn,h.1⟩⟩)
     have h1':=h.2.2;rw [e9]
     have hld:(Pol.gcd a (me p a)).c 0=1:=by
      have:=hgm;unfold Monic Pol.ld at this;rw [h1'] at this;exact this.1
     rw [hld];exact rep_one
    rw [hD];generalize decide ((Pol.gcd a (me p a)).len=1∧cf (row (Pol.gcd a (me p a))) 0=1)=b at *;generalize row (Pol.gcd a (me p a))=Rg at *;generalize pad (row (me p a))=Pd at *;generalize row (me p a)=Rd at *;generalize pad (row a)=Pa at *;generalize row a=Ra at *;rcases hn with hn | hn | hn
    ·have hm:(a.len:Int)-1=1:=by omega
     rw [hm] at e3;simp -implicitDefEqProofs [Z9,Z9_B,af,e1,e2,e3,e4,e5,e6,e7,hp2]
    ·have hm:(a.len:Int)-1=3:=by omega
     rw [hm] at e3;simp -implicitDefEqProofs [Z9,Z9_B,af,e1,e2,e3,e4,e5,e6,e7,hp2]
    ·have hm:(a.len:Int)-1=5:=by omega
     rw [hm] at e3;simp -implicitDefEqProofs [Z9,Z9_B,af,e1,e2,e3,e4,e5,e6,e7,hp2]
   ·have hD:decide (jc p (pad (row a)))=false:=decide_eq_false fun h=>hn (d0.1 h).2.1
    rw [hD];have m1:¬ (a.len:Int)-1=1:=by omega
    have m3:¬ (a.len:Int)-1=3:=by omega
    have m5:¬ (a.len:Int)-1=5:=by omega
    generalize (a.len:Int)-1=n at *;generalize pad (row a)=Pa at *;generalize row a=Ra at *;simp -implicitDefEqProofs [Z9,Z9_B,af,e1,e2,e3,hp2,m1,m3,m5]
 ·have hD:decide (jc p l)=false:=decide_eq_false (J7 hbad)
  have e2':(isP p&&md p l)=false:=by
   cases h1:isP p <;> cases h2:md p l <;> simp_all
  rw [e2'] at e2;rw [hD];simp -implicitDefEqProofs [Z9,Z9_B,af,e1,e2]
open Classical in
theorem Wb (hT:T F3a=some Z3a) (his:L3 (den T A)) (hdg:jo (den T A)) (hde:ik (den T A) F2o) (hg:Dh (den T A)):ro (den T A) F3a:=by
 intro p l hb hl;have e2:=his p l hb hl;refine bj hT rfl ?_
 by_cases hbad:isP p=true∧md p l=true
 ·obtain ⟨ip,a,ha,rfl⟩:=Ae hb hl (Bg hbad)
  have d0:=Br ha;rw [hbad.1,hbad.2] at e2;simp only [Bool.and_self] at e2
  by_cases hp2:p=2
  ·have hD:decide (jc p (pad (row a)))=false:=decide_eq_false fun h=>(d0.1 h).1 hp2
   rw [hD];subst hp2;generalize pad (row a)=Pa at *;simp -implicitDefEqProofs [Z3a,Z3a_B,af,e2]
  ·have e3:=hdg p a ha
   by_cases hn:a.len=2∨a.len=4∨a.len=6
   ·have ha0:a≠0:=fun h=>by rw [h,Pol.len_zero] at hn; omega
    have e4:=hde p a ha;have e6:=hg p a (me p a) ha0 ha (C4 a);have hgl:=(Pol.gcd_dv_left (a:=a) (b:=me p a) (.inl ha0)).len ha0;have e7:=hdg p (Pol.gcd a (me p a)) (by omega)
    have hD:decide (jc p (pad (row a)))=decide (((Pol.gcd a (me p a)).len:Int)-1=0):=by
     refine decide_eq_decide.2 (d0.trans ⟨fun h=>by omega,fun h=>⟨hp2,hn,by omega⟩⟩)
    rw [hD];generalize ((Pol.gcd a (me p a)).len:Int)-1=gn at *;generalize pad (row (Pol.gcd a (me p a)))=Rg at *;generalize pad (row (me p a))=Pd at *;generalize pad (row a)=Pa at *;rcases hn with hn | hn | hn
    ·have hm:(a.len:Int)-1=1:=by omega
     rw [hm] at e3;simp -implicitDefEqProofs [Z3a,Z3a_B,af,e2,e3,e4,e6,e7,hp2]
    ·have hm:(a.len:Int)-1=3:=by omega
     rw [hm] at e3;simp -implicitDefEqProofs [Z3a,Z3a_B,af,e2,e3,e4,e6,e7,hp2]
    ·have hm:(a.len:Int)-1=5:=by omega
     rw [hm] at e3;simp -implicitDefEqProofs [Z3a,Z3a_B,af,e2,e3,e4,e6,e7,hp2]
   ·have hD:decide (jc p (pad (row a)))=false:=decide_eq_false fun h=>hn (d0.1 h).2.1
    rw [hD];have m1:¬ (a.len:Int)-1=1:=by omega
    have m3:¬ (a.len:Int)-1=3:=by omega
    have m5:¬ (a.len:Int)-1=5:=by omega
    generalize (a.len:Int)-1=n at *;generalize pad (row a)=Pa at *;simp -implicitDefEqProofs [Z3a,Z3a_B,af,e2,e3,hp2,m1,m3,m5]
 ·have hD:decide (jc p l)=false:=decide_eq_false (J7 hbad)
  have e2':(md p l&&isP p)=false:=by
   cases h1:isP p <;> cases h2:md p l <;> simp_all
  rw [e2'] at e2;rw [hD];simp -implicitDefEqProofs [Z3a,Z3a_B,af,e2]
end Pe
