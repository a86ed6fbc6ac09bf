/-
  A part of the proof: an evaluator for a small form of the code, its soundness, and contracts of functions over it.
-/
import Derived.KernelRfl
import Derived.Test.YtngaenaglaiblaaGreatW1
import Derived.Test.YtngaenaglaiblaaGreatW2
import Derived.Test.YtngaenaglaiblaaGreatW3
import Derived.Test.YtngaenaglaiblaaGreatW4

namespace Pe
open Go Gq
section
variable {p:Int} [IsP p]
theorem Qj:∀{l m:List Int},Can p l→Can p m→l.length<m.length→cf m (m.length-1)≠0→vl p l<vl p m
 | l,[],_,_,h,_=>by simp at h
 | l,d::m,hl,hm,h,hc=>by
  have hp:=IsP.pos (p:=p);have hd:=hm d (by simp)
  have hmc:Can p m:=fun x hx=>hm x (by simp [hx])
  cases l with
  | nil=>
   show 0<d+p*vl p m;have h2:=(a1e hmc).1;cases m with
   | nil=>
    have:d≠0:=hc;simp [vl]; omega
   | cons e m=>
    have h3:cf (e::m) ((e::m).length-1)≠0:=by simpa [cf] using hc
    have:=Qj (l:=[]) (m:=e::m) (fun x hx=>by simp at hx) hmc (by simp) h3
    have h5:0<p*vl p (e::m):=Int.mul_pos hp (by simpa [vl] using this)
    omega
  | cons c l=>
   have hlc:Can p l:=fun x hx=>hl x (by simp [hx])
   have hcc:=hl c (by simp)
   have h3:cf m (m.length-1)≠0:=by
    cases m with
    | nil=>simp at h
    | cons e m=>simpa [cf] using hc
   have:=Qj hlc hmc (by simpa using h) h3
   have h5:p*(vl p l+1)≤p*vl p m:=de (by omega) (by omega)
   rw [uf,se] at h5;show c+p*vl p l<d+p*vl p m;omega
end
section
variable {p:Int}
theorem a5t {a:Fp p} (h:a≠0):cf (row a) ((row a).length-1)≠0:=by
 rw [ca,ja];exact fun h0=>Pol.ld_ne h (io.1 h0)
end
section
variable {p:Int} [IsP p]
theorem vh {a b:Fp p} (h:a.len<b.len):gf a<gf b:=Qj (lc a) (lc b) (by simpa using h) (a5t fun h0=>by rw [h0,Pol.len_zero] at h; omega)
theorem a7d:∀{l m:List Int},Can p l→Can p m→l.length=m.length→vl p l=vl p m→l=m
 | [],[],_,_,_,_=>rfl
 | [],_::_,_,_,h,_=>by simp at h
 | _::_,[],_,_,h,_=>by simp at h
 | c::l,d::m,hl,hm,h,e=>by
  have hp:=IsP.pos (p:=p);have hcc:=hl c (by simp)
  have hd:=hm d (by simp)
  have e2:c+p*vl p l=d+p*vl p m:=e
  have e3:c=d:=by
   have:=congrArg (· % p) e2
   simp only [pu] at this
   rwa [n9 hcc.1 hcc.2,n9 hd.1 hd.2] at this
  subst e3;have e4:p*vl p l=p*vl p m:=by omega
  rw [a7d (l:=l) (m:=m) (fun x hx=>hl x (by simp [hx])) (fun x hx=>hm x (by simp [hx])) (by simpa using h) (Int.eq_of_mul_eq_mul_left (by omega) e4)]
theorem Na {a b:Fp p} (h:gf a=gf b):a=b:=by
 rcases jd a.len b.len with h1 | h1 | h1
 ·have:=vh h1; omega
 ·exact aaq (a7d (lc a) (lc b) (by simpa using h1) h)
 ·have:=vh h1; omega
abbrev od (p:Int):=List (Fp p×Nat)
noncomputable def oa (L:od p):Fp p:=qk (L.map fun x=>pw x.1 x.2)
structure FacOk (L:od p):Prop where
 irr:∀x∈L,Irr x.1∧Monic x.1∧1≤x.2
 dis:L.Pairwise fun x y=>x.1≠y.1
structure IsFac (a:Fp p) (L:od p):Prop where
 ok:FacOk L
 sorted:L.Pairwise fun x y=>gf x.1<gf y.1
 eq:a=Pol.C a.ld*oa L
end
section
variable {p:Int}
theorem tg (x:Fp p×Nat) (L:od p):oa (x::L)=pw x.1 x.2*oa L:=rfl
end
section
variable {p:Int} [IsP p]
theorem Monic.pw {a:Fp p} (h:Monic a):∀n,Monic (pw a n)
 | 0=>Monic.one
 | n+1=>(Monic.pw h n).mul h
theorem A5 {L:od p} (h:FacOk L):Monic (oa L):=by
 induction L with
 | nil=>exact Monic.one
 | cons x L ih=>
  rw [tg];exact (Monic.pw (h.irr x (by simp)).2.1 _).mul (ih ⟨fun y hy=>h.irr y (by simp [hy]),(ez.1 h.dis).2⟩)
theorem Irr.pw_dv {q a:Fp p} (h:Irr q):∀n,Dv q (pw a n)→Dv q a
 | 0,hd=>by
  have h1:q.len≤(1:Fp p).len:=hd.len Pol.one_ne;have h2:=h.len;rw [Pol.len_one] at h1; omega
 | n+1,hd=>(h.prime hd).elim (Irr.pw_dv h n) id
theorem S5 {q:Fp p} (hq:Irr q) (mq:Monic q):∀{L:od p},FacOk L→Dv q (oa L)→∃k,(q,k)∈L
 | [],_,h=>by
  have h1:q.len≤(1:Fp p).len:=h.len Pol.one_ne;have h2:=hq.len;rw [Pol.len_one] at h1; omega
 | x::L,ok,h=>by
  rw [tg] at h;rcases hq.prime h with h1 | h1
  ·have h2:=Irr.pw_dv hq _ h1
   obtain ⟨i1,i2,_⟩:=ok.irr x (by simp)
   have:=hq.eq_of_dv i1 mq i2 h2;exact ⟨x.2,by rw [this]; simp⟩
  ·obtain ⟨k,hk⟩:=S5 hq mq ⟨fun y hy=>ok.irr y (by simp [hy]),(ez.1 ok.dis).2⟩ h1
   exact ⟨k,by simp [hk]⟩
theorem Bl {q:Fp p} {k:Nat}:∀{L:od p},FacOk L→(q,k)∈L→∃r,oa L=pw q k*r∧¬ Dv q r
 | x::L,ok,h=>by
  have ok':FacOk L:=⟨fun y hy=>ok.irr y (by simp [hy]),(ez.1 ok.dis).2⟩
  rw [tg];rcases dp.1 h with rfl | h
  ·refine ⟨oa L,rfl,fun hd=>?_⟩
   obtain ⟨i1,i2,_⟩:=ok.irr (q,k) (by simp)
   obtain ⟨k',hk⟩:=S5 i1 i2 ok' hd;exact (ez.1 ok.dis).1 _ hk rfl
  ·obtain ⟨r,e,hn⟩:=Bl ok' h
   refine ⟨pw x.1 x.2*r,by rw [e,Gq.mul_left_comm],fun hd=>?_⟩
   obtain ⟨i1,i2,_⟩:=ok.irr (q,k) (by simp [h])
   obtain ⟨j1,j2,_⟩:=ok.irr x (by simp)
   rcases i1.prime hd with h1 | h1
   ·have h2:=Irr.pw_dv i1 _ h1
    have e:=i1.eq_of_dv j1 i2 j2 h2;exact (ez.1 ok.dis).1 _ h e.symm
   ·exact hn h1
theorem Mn {a:Fp p} (h:a≠0):∀n,pw a n≠0
 | 0=>Pol.one_ne
 | n+1=>Pol.mul_ne (Mn h n) h
theorem Q9 {a:Fp p} (ha:a≠0) {L:od p} (ok:FacOk L) (e:a=Pol.C a.ld*oa L) (q:Fp p) (k:Nat):(q,k)∈L↔Irr q∧Monic q∧1≤k∧Dv (pw q k) a∧¬ Dv (pw q (k+1)) a:=by
 have hld:=Pol.ld_ne ha
 have dvP:∀c,Dv c a↔Dv c (oa L):=fun c=>by
  constructor
  ·rintro ⟨x,hx⟩
   refine ⟨Pol.C (Fd.inv a.ld)*x,?_⟩
   have:oa L=Pol.C (Fd.inv a.ld)*a:=by
    rw [e];have e2:(Pol.C a.ld*oa L).ld=a.ld:=by rw [←e]
    rw [e2,←Gq.mul_assoc,Gq.mul_comm (Pol.C (Fd.inv _)),a49 hld,Gq.one_mul]
   rw [this];generalize Pol.C (Fd.inv a.ld)=k;rw [hx];exact cu [k,c,x] rfl
  ·intro h
   rw [e]; exact h.mul_left _
 constructor
 ·intro h
  obtain ⟨i1,i2,i3⟩:=ok.irr (q,k) h;obtain ⟨r,e2,hn⟩:=Bl ok h;refine ⟨i1,i2,i3,(dvP _).2 ⟨r,e2⟩,fun hd=>hn ?_⟩
  obtain ⟨y,hy⟩:=(dvP _).1 hd;rw [e2,pw,Gq.mul_assoc] at hy;exact ⟨y,Pol.mul_cancel (Mn i1.ne k) hy⟩
 ·rintro ⟨i1,i2,i3,h1,h2⟩
  have hq:Dv q a:=by
   obtain ⟨k,rfl⟩:∃j,k=j+1:=⟨k-1,by omega⟩
   exact Dv.trans ⟨pw q k,Gq.mul_comm _ _⟩ h1
  obtain ⟨k',hk'⟩:=S5 i1 i2 ok ((dvP _).1 hq);obtain ⟨r,e2,hn⟩:=Bl ok hk'
  have:k=k':=by
   rcases jd k k' with h | h | h
   ·exfalso
    apply h2;rw [dvP,e2];obtain ⟨j,rfl⟩:=ix (show k+1≤k' from h);rw [Hc q (k+1) j];exact ((Dv.refl _).mul_right _).mul_right _
   ·exact h
   ·exfalso
    apply hn;obtain ⟨y,hy⟩:=(dvP _).1 h1;obtain ⟨j,rfl⟩:=ix (show k'+1≤k from h);rw [e2,Hc,pw,Gq.mul_assoc,Gq.mul_assoc] at hy;exact ⟨_,Pol.mul_cancel (Mn i1.ne k') hy⟩
  rw [this]; exact hk'
theorem O0 {α:Type} (f:α→Int):∀{l m:List α},l.Pairwise (fun x y=>f x<f y)→m.Pairwise (fun x y=>f x<f y)→(∀x,x∈l↔x∈m)→l=m
 | [],[],_,_,_=>rfl
 | [],y::m,_,_,h=>by have:=(h y).2 (by simp); simp at this
 | x::l,[],_,_,h=>by have:=(h x).1 (by simp); simp at this
 | x::l,y::m,hl,hm,h=>by
  obtain ⟨l1,l2⟩:=ez.1 hl;obtain ⟨m1,m2⟩:=ez.1 hm
  have e:x=y:=by
   rcases dp.1 ((h x).1 (by simp)) with h1 | h1
   ·exact h1
   ·rcases dp.1 ((h y).2 (by simp)) with h2 | h2
    ·exact h2.symm
    ·have:=m1 _ h1
     have:=l1 _ h2;omega
  subst e;rw [O0 f l2 m2 fun z=>?_]
  constructor
  ·intro hz
   rcases dp.1 ((h z).1 (by simp [hz])) with h1 | h1
   ·subst h1; have:=l1 _ hz; omega
   ·exact h1
  ·intro hz
   rcases dp.1 ((h z).2 (by simp [hz])) with h1 | h1
   ·subst h1; have:=m1 _ hz; omega
   ·exact h1
theorem IsFac.unique {a:Fp p} (ha:a≠0) {L L':od p} (h:IsFac a L) (h':IsFac a L'):L=L':=
 O0 (fun x=>gf x.1) h.sorted h'.sorted fun x=>by
  obtain ⟨q,k⟩:=x;rw [Q9 ha h.ok h.eq,Q9 ha h'.ok h'.eq]
def Bm (n:Nat) (a:Fp p):Prop:=∀q,Irr q→Dv q a→n+1≤q.len
theorem Al {a:Fp p} {n:Nat} (h:Bm n a) (hl:2≤a.len) (hs:a.len<2*n+1):Irr a:=by
 refine Irr.of_dv hl fun u hu=>?_
 have ha:a≠0:=fun h0=>by rw [h0,Pol.len_zero] at hl; omega
 obtain ⟨v,rfl⟩:=hu;have hu0:u≠0:=fun h0=>ha (by rw [h0,Gq.zero_mul])
 have hv0:v≠0:=fun h0=>ha (by rw [h0,Gq.mul_zero])
 have l:=Pol.len_mul hu0 hv0;have l1:=Pol.len_pos hu0;have l2:=Pol.len_pos hv0;apply f7;intro hx;have hu2:2≤u.len:=by omega
 have hv2:2≤v.len:=by omega
 obtain ⟨q,q1,_,q2⟩:=Gu u.len u (ba _) hu2;obtain ⟨r,r1,_,r2⟩:=Gu v.len v (ba _) hv2;have s1:=h q q1 (q2.mul_right v);have s2:=h r r1 (r2.mul_left u);have s3:=q2.len hu0;have s4:=r2.len hv0;omega
theorem Sx (a:Fp p):Bm 1 a:=fun _q h _=>h.len
theorem Wx {a b:Fp p} {n:Nat} (h:Bm n a) (hd:Dv b a):Bm n b:=fun q hq hb=>h q hq (hb.trans hd)
end
end Pe
namespace Pe
open Go Gq
variable {T:Nat→Option Fn} {A:am}
def Be (O:am) (F:Nat):Prop:=∀x:Int,ask O F [(D.int .i64 x)]=some (D.bool false)
theorem abc (hT:T F2=some Z2):Be (den T A) F2:=fun x=>by
 refine c9 hT rfl ?_;simp -implicitDefEqProofs [Z2,Z2_B]
theorem a45 (hT:T F3=some Z3):Be (den T A) F3:=fun x=>by
 refine c9 hT rfl ?_;simp -implicitDefEqProofs [Z3,Z3_B]
def qt (x y:Int):Int:=if x<y then -1 else if y<x then 1 else 0
def rj (O:am) (F:Nat):Prop:=∀x y:Int,ask O F [(D.int .i64 x),(D.int .i64 y)]=some (D.int .i64 (qt x y))
theorem Vj (hT:T F0=some Z0) (h:Be (den T A) F2):rj (den T A) F0:=fun x y=>by
 have e1:=h x;have e2:=h y;refine c9 hT rfl ?_;unfold qt
 by_cases h1:x<y
 ·simp -implicitDefEqProofs [Z0,Z0_B,e1,e2,h1,ap]
 ·by_cases h2:y<x
  ·simp -implicitDefEqProofs [Z0,Z0_B,e1,e2,h1,h2,ap]
  ·simp -implicitDefEqProofs [Z0,Z0_B,e1,e2,h1,h2,ap]
theorem R0 (hT:T F1=some Z1) (h:Be (den T A) F3):rj (den T A) F1:=fun x y=>by
 have e1:=h x;have e2:=h y;refine c9 hT rfl ?_;unfold qt
 by_cases h1:x<y
 ·simp -implicitDefEqProofs [Z1,Z1_B,e1,e2,h1,ap]
 ·by_cases h2:y<x
  ·simp -implicitDefEqProofs [Z1,Z1_B,e1,e2,h1,h2,ap]
  ·simp -implicitDefEqProofs [Z1,Z1_B,e1,e2,h1,h2,ap]
def Gc (l m:List Int):Nat→Int
 | 0=>0
 | n+1=>if qt (cf l n) (cf m n)≠0 then qt (cf l n) (cf m n) else Gc l m n
theorem Nl {O:am} (hc:rj O F1) {l m:List Int} (hlm:l.length=m.length) (hl:l.length<1000000):∀n:Nat,n≤l.length →
 dn O 0 (.loop Zc_L0) ⟨[(0,(.d (.sl .leaf (aq .i64 l)))),(1,(.d (.sl .leaf (aq .i64 m)))),(6,(.d (.int .i64 ((n:Int)-1))))],[]⟩ =
  if Gc l m n=0 then some (.exit 0,⟨[(0,(.d (.sl .leaf (aq .i64 l)))),(1,(.d (.sl .leaf (aq .i64 m)))),(6,(.d (.int .i64 (-1)))),(20,(.d (.bool false)))],[]⟩) else some (.ret,⟨[(4,(.d (.int .i64 (Gc l m n))))],[]⟩)
 | 0,hn=>by
  simp only [Gc,if_true];exact bu (by simp -implicitDefEqProofs [Zc_L0,ap])
 | n+1,hn=>by
  have t0:(((n+1:Nat):Int)-1)=(n:Int):=by omega
  rw [t0];have h1:n<l.length:=by omega
  have h2:n<m.length:=by omega
  have e1:l[n]? = some (cf l n):=by rw [ac h1,ft h1]
  have e2:m[n]? = some (cf m n):=by rw [ac h2,ft h2]
  have e1':l[n]=cf l n:=(ft h1).symm;have e2':m[n]=cf m n:=(ft h2).symm;have e3:=hc (cf l n) (cf m n);have w1:IntKind.i64.wrap ((n:Int)-1)=(n:Int)-1:=wt
  by_cases h0:qt (cf l n) (cf m n)=0
  ·rw [h0] at e3
   have e:Gc l m (n+1)=Gc l m n:=if_neg (fun h=>h h0)
   rw [e];refine bn ?_ (Nl hc hlm hl n (by omega))
   simp -implicitDefEqProofs [Zc_L0,ap,h1,h2,e1',e2',e3,w1]
  ·have e:Gc l m (n+1)=qt (cf l n) (cf m n):=if_pos h0
   rw [e,if_neg h0];refine u5 ?_;simp -implicitDefEqProofs [Zc_L0,ap,h1,h2,e1',e2',e3,h0]
def abz (l m:List Int):Int:=if qt l.length m.length≠0 then qt l.length m.length else Gc l m l.length
def Ca (O:am):Prop:=∀l m:List Int,l.length<1000000→m.length<1000000→ask O Fc [(D.sl .leaf (aq .i64 l)),(D.sl .leaf (aq .i64 m))]=some (D.int .i64 (abz l m))
theorem a2i (hT:T Fc=some Zc) (h1:rj (den T A) F0) (h2:rj (den T A) F1):Ca (den T A):=by
 intro l m hl hm;have e1:=h1 l.length m.length;unfold abz;refine c9 hT rfl ?_
 by_cases h0:qt l.length m.length=0
 ·have hlm:l.length=m.length:=by
   unfold qt at h0
   split at h0
   ·omega
   ·split at h0 <;> omega
  rw [if_neg (fun h=>h h0)]
  rw [h0] at e1;have e2:=Nl h2 hlm hl l.length (ba _);have w1:IntKind.i64.wrap ((l.length:Int)-1)=(l.length:Int)-1:=wt
  by_cases hz:Gc l m l.length=0
  ·rw [if_pos hz] at e2
   simp -implicitDefEqProofs [Zc,Zc_B,ap,e1,e2,w1,hz]
  ·rw [if_neg hz] at e2
   simp -implicitDefEqProofs [Zc,Zc_B,ap,e1,e2,w1]
 ·rw [if_pos h0]
  simp -implicitDefEqProofs [Zc,Zc_B,ap,e1,h0]
section
variable (f:D→Int)
def xo:List D→D→List D→List D
 | [],x,R=>x::R
 | y::L,x,R=>if f x<f y then xo L x (y::R) else (y::L).reverse++x::R
def G0:List D→List D→List D
 | P,[]=>P
 | P,x::r=>G0 (xo f P.reverse x []) r
theorem M5:∀(L:List D) (x:D) (R S:List D),xo f L x (R++S)=xo f L x R++S
 | [],x,R,S=>rfl
 | y::L,x,R,S=>by
  unfold xo
  split
  ·rw [←cz,M5 L x (y::R) S]
  ·simp
theorem xz:∀(L:List D) (x:D) (R:List D),(xo f L x R).Perm (x::(L.reverse++R))
 | [],x,R=>.refl _
 | y::L,x,R=>by
  unfold xo
  split
  ·refine (xz L x (y::R)).trans ?_
   simp
  ·exact List.perm_middle
theorem V8 (L:List D) (x:D) (R:List D):(xo f L x R).length=L.length+R.length+1:=by
 have:=(xz f L x R).length_eq
 simpa using this
def Asc (l:List D):Prop:=l.Pairwise fun x y=>f x≤f y
theorem Tk:∀(L:List D) (x:D) (R:List D),Asc f (L.reverse++R)→(∀y∈R,f x≤f y)→Asc f (xo f L x R)
 | [],x,R,h,hx=>by
  unfold xo Asc;refine ez.2 ⟨hx,?_⟩;have h':Asc f R:=by simpa using h
  exact h'
 | y::L,x,R,h,hx=>by
  unfold xo
  split
  ·rename_i hlt
   refine Tk L x (y::R) (by simpa using h) fun z hz=>?_
   rcases dp.1 hz with rfl | hz
   ·omega
   ·exact hx z hz
  ·rename_i hlt
   unfold Asc at h ⊢;rw [iu] at h ⊢;refine ⟨h.1,ez.2 ⟨hx,h.2.1⟩,fun a ha b hb=>?_⟩
   rcases dp.1 hb with rfl | hb
   ·have hay:f a≤f y:=by
     have h1:=h.1;rw [List.reverse_cons,iu] at h1;rw [List.reverse_cons] at ha;rcases bp.1 ha with ha | ha
     ·exact h1.2.2 a ha y (by simp)
     ·simp at ha; rw [ha]; exact B8 _
    omega
   ·exact h.2.2 a ha b hb
theorem Ge:∀(r P:List D),(G0 f P r).Perm (P++r)
 | [],P=>by simp [G0]
 | x::r,P=>by
  unfold G0;refine (Ge r _).trans ?_;have:=xz f P.reverse x [];refine (List.Perm.append_right r this).trans ?_;simp;exact List.perm_middle.symm
theorem Lb:∀(r P:List D),Asc f P→Asc f (G0 f P r)
 | [],P,h=>h
 | x::r,P,h=>by
  unfold G0;exact Lb r _ (Tk f P.reverse x [] (by simpa using h) (by simp))
end
section
variable {O:am} {g:Nat} {first caps:List D}
abbrev nz:Sh:=.st [.leaf,.leaf]
structure CmpOk (O:am) (g:Nat) (first caps:List D) (f:D→Int) (s:Sh) (cs:List D):Prop where
 nf:A2 first
 nc:A2 caps
 nx:A2 cs
 sh:Hv s cs
 ask:∀x∈cs,∀y∈cs,ask O g (first++[x,y]++caps)=some (D.int .i64 (qt (f x) (f y)))
theorem CmpOk.perm {f:D→Int} {s:Sh} {cs ds:List D} (h:CmpOk O g first caps f s cs) (p:ds.Perm cs):CmpOk O g first caps f s ds:=
 ⟨h.nf,h.nc,fun x hx=>h.nx x (p.subset hx),fun x hx=>h.sh x (p.subset hx),fun x hx y hy=>h.ask x (p.subset hx) y (p.subset hy)⟩
theorem CmpOk.call {f:D→Int} {s:Sh} {cs:List D} (h:CmpOk O g first caps f s cs) {hp:Heap} {np:Nat} {news:List Nat} {x y:D} (hx:x∈cs) (hy:y∈cs) :
 El O np hp .flat news (g,first.map .d,caps.map .d) [.d x,.d y]=some (.d (D.int .i64 (qt (f x) (f y))),hp):=by
 have e:py hp (first.map .d++[.d x,.d y]++caps.map .d)=some (first++[x,y]++caps):=
  we hp (we hp (oo hp h.nf) (oo hp (ds:=[x,y]) (by intro z hz; simp at hz; rcases hz with rfl | rfl; exact h.nx _ hx; exact h.nx _ hy))) (oo hp h.nc)
 rw [Cz,e,ah,L3,h.ask x hx y hy,ah,Gz,show (D.int IntKind.i64 (qt (f x) (f y))).flat=true from rfl,if_pos rfl]
theorem U1 (x y:Int):qt x y<0↔x<y:=by
 unfold qt
 split
 ·omega
 ·split <;> omega
theorem a4l {f:D→Int} {n:Nat} {cp:Option Nat} (hn:n≤1000) {i:Nat}:∀(L:List D) (x:D) (R:List D),(L.reverse++x::R).length=n→CmpOk O g first caps f nz (L.reverse++x::R)→∃j:Int,
 dn O 1 (.loop Z2p_L0) ⟨[(0,.sl 0 [] 0 n cp),(1,(.d (.int .i64 0))),(2,(.d (.int .i64 n))),(3,.d (.fn g first caps)),(8,(.d (.int .i64 i))),(9,(.d (.int .i64 L.length)))],[.sl false nz (L.reverse++x::R)]⟩ =
  some (.exit 2,⟨[(0,.sl 0 [] 0 n cp),(1,(.d (.int .i64 0))),(2,(.d (.int .i64 n))),(3,.d (.fn g first caps)),(8,(.d (.int .i64 i))),(9,(.d (.int .i64 j))),(34,(.d (.bool false)))],[.sl false nz (xo f L x R)]⟩)
 | [],x,R,hl,ok=>by
  refine ⟨0,bu ?_⟩;simp -implicitDefEqProofs [Z2p_L0,ap,xo]
 | y::L,x,R,hl,ok=>by
  have hj:(y::L).length=L.length+1:=rfl;have hlen:((y::L).reverse++x::R).length=L.length+1+(R.length+1):=by simp; omega
  have e1:((y::L).reverse++x::R)[L.length+1]? = some x:=by
   rw [bj (by simp)]; simp
  have e2:((y::L).reverse++x::R)[L.length]? = some y:=by
   rw [bi (by simp)]; simp
  have m1:x∈(y::L).reverse++x::R:=by simp
  have m2:y∈(y::L).reverse++x::R:=by simp
  have c:=ok.call (hp:=[.sl false nz ((y::L).reverse++x::R)]) (np:=1) (news:=[]) m1 m2;have s1:=ok.sh x m1;have s2:=ok.sh y m2;have n1:=ok.nx x m1;have n2:=ok.nx y m2
  have e3:(((y::L).reverse++x::R).set (L.length+1) y).set L.length x=L.reverse++x::y::R:=by
   rw [p7 _ _ (by simp),List.set_append_left _ _ (by simp)]
   simp
  have hp:((y::L).reverse++x::R).Perm (L.reverse++x::y::R):=by
   simp;exact (List.Perm.swap x y R).append_left _
  have w1:IntKind.i64.wrap (L.length:Int)=L.length:=w64 (by omega)
  have h0:(0:Int)<(L.length:Int)+1:=by omega
  have h00:(0:Int)≤(L.length:Int)+1:=by omega
  have h1:L.length+1<n:=by omega
  have h2:L.length<n:=by omega
  have h3:L.length<((y::L).reverse++x::R).length:=by omega
  have h4:L.length+1<((y::L).reverse++x::R).length:=by omega
  have e4:(((y::L).reverse++x::R).set (L.length+1) y)[L.length]? = some y:=by
   rw [b7 (by omega),e2]
  unfold xo;rw [hj,show ((L.length+1:Nat):Int)=(L.length:Int)+1 by omega]
  generalize (y::L).reverse++x::R=cs at *;have e1':cs[L.length+1]=x:=by rw [ac h4] at e1; exact au e1
  have e2':cs[L.length]=y:=by rw [ac h3] at e2; exact au e2
  by_cases hlt:f x<f y
  ·rw [if_pos hlt]
   obtain ⟨j,e⟩:=a4l hn L x (y::R) (by rw [←hp.length_eq]; omega) (ok.perm hp.symm)
   have hc:=(U1 (f x) (f y)).2 hlt;refine ⟨j,bn ?_ e⟩;simp -implicitDefEqProofs [Z2p_L0,ap,h0,h00,h1,h2,h3,h4,e1',e2',c,s1,s2,n1,n2,w1,hc,e3]
  ·rw [if_neg hlt]
   have hc:=mt (U1 (f x) (f y)).1 hlt;refine ⟨(L.length:Int)+1,bu ?_⟩;simp -implicitDefEqProofs [Z2p_L0,ap,h0,h00,h1,h2,h3,h4,e1',e2',c,s1,s2,w1,hc]
end
theorem a7e {O:am} {g:Nat} {first caps:List D} {f:D→Int} {n:Nat} {cp:Option Nat} (hn:n≤1000):∀(r P:List D),P.length+r.length=n→0<P.length→CmpOk O g first caps f nz (P++r) →
 dn O 1 (.loop Z2p_L1) ⟨[(0,.sl 0 [] 0 n cp),(1,(.d (.int .i64 0))),(2,(.d (.int .i64 n))),(3,.d (.fn g first caps)),(8,(.d (.int .i64 P.length)))],[.sl false nz (P++r)]⟩ =
  some (.exit 0,⟨[(0,.sl 0 [] 0 n cp),(1,(.d (.int .i64 0))),(2,(.d (.int .i64 n))),(3,.d (.fn g first caps)),(8,(.d (.int .i64 n))),(14,(.d (.bool false)))],[.sl false nz (G0 f P r)]⟩)
 | [],P,hl,hP,ok=>by
  have hl':P.length=n:=by simpa using hl
  refine bu ?_;simp -implicitDefEqProofs [Z2p_L1,ap,G0,hl']
 | x::r,P,hl,hP,ok=>by
  simp at hl;have e0:P.reverse.reverse++x::r=P++x::r:=by simp
  obtain ⟨j,e⟩:=a4l (O:=O) (g:=g) (first:=first) (caps:=caps) (f:=f) (n:=n) (cp:=cp) hn (i:=P.length) P.reverse x r (by simp; omega) (by rw [e0]; exact ok)
  rw [e0,qw,←cw r,M5,cw] at e;have hlen:=V8 f P.reverse x [];rw [qw,da,dd] at hlen
  have hperm:(xo f P.reverse x []++r).Perm (P++x::r):=by
   refine (List.Perm.append_right r (xz f P.reverse x [])).trans ?_;simp;exact List.perm_middle.symm
  have ih:=a7e (O:=O) (g:=g) (first:=first) (caps:=caps) (f:=f) (cp:=cp) hn r (xo f P.reverse x []) (by rw [hlen]; omega) (by omega) (ok.perm hperm)
  have hlt:P.length<n:=by omega
  have w1:=wi P.length;rw [hlen] at ih;unfold G0;refine bn ?_ ih;simp -implicitDefEqProofs [Z2p_L1,ap,hlt,e,w1]
def aen (O:am) (F:Nat) (args:V→List V→List V):Prop:=∀(g:Nat) (first caps:List D) (f:D→Int) (cs:List D) (cp:Option Nat),cs.length≤12→CmpOk O g first caps f nz cs →
 ∃ds:List D,ds.Perm cs∧Asc f ds∧O F (args (.sl 0 [] 0 cs.length cp) [(.d (.int .i64 cs.length)),.d (.fn g first caps)]) [.sl false nz cs]=some (.tup [],[.sl false nz ds],[])
def xi (O:am):Prop:=aen O F2p fun s l=>[s,(.d (.int .i64 0))]++l
theorem Uk (hT:T F2p=some Z2p):xi (den T A):=by
 intro g first caps f cs cp hl ok;cases cs with
 | nil=>
  refine ⟨[],.refl _,List.Pairwise.nil,pm hT rfl ?_⟩;have st:=bu (O:=den T A) (np:=1) (c:=Z2p_L1) (s:=⟨[(0,.sl 0 [] 0 0 cp),(1,(.d (.int .i64 0))),(2,(.d (.int .i64 0))),(3,.d (.fn g first caps)),(8,(.d (.int .i64 1)))],[.sl false nz []]⟩) (s1:=⟨[(0,.sl 0 [] 0 0 cp),(1,(.d (.int .i64 0))),(2,(.d (.int .i64 0))),(3,.d (.fn g first caps)),(8,(.d (.int .i64 1))),(14,(.d (.bool false)))],[.sl false nz []]⟩) (id:=0) (by simp -implicitDefEqProofs [Z2p_L1,ap])
  have w1:IntKind.i64.wrap 1=1:=wt;simp -implicitDefEqProofs [Z2p,Z2p_B,st,w1]
 | cons x r=>
  have e:=a7e (O:=den T A) (g:=g) (first:=first) (caps:=caps) (f:=f) (n:=(x::r).length) (cp:=cp) (by omega) r [x] (by simp; omega) (by simp) ok
  have e1:(([x]:List D).length:Int)=1:=rfl;rw [e1] at e;refine ⟨G0 f [x] r,Ge f r [x],Lb f r [x] (fk _ _),pm hT rfl ?_⟩;have w1:IntKind.i64.wrap 1=1:=wt;rw [List.singleton_append] at e;generalize x::r=cs at *;simp -implicitDefEqProofs [Z2p,Z2p_B,e,w1]
def yp (O:am) (F:Nat):Prop:=∀n:Nat,n≤12→∃v:Int,ask O F [.int .u64 n]=some (D.int .i64 v)
theorem a9y (hT:T F29=some Z29):yp (den T A) F29:=by
 intro n hn
 have key:∀v:Int,run (fun _ _ _=>none) 1 Z29 [.d (.int .u64 n)] []=some ((.d (.int .i64 v)),[],[])→ask (den T A) F29 [.int .u64 n]=some (D.int .i64 v):=by
  intro v h
  have h2:=Q3 (A:=A) hT (n:=1) (vs:=[.d (.int .u64 n)]) (bs:=[]) (ans:=((.d (.int .i64 v)),[],[])) (by
   obtain ⟨qs,h3,h4⟩:=Bp h;cases qs with
   | nil=>exact h4 _ (by intro q hq; simp at hq)
   | cons q qs=>exact absurd (h3 q (by simp)) (by simp))
  unfold ask;rw [show ([D.int .u64 n]:List D).map V.d=[.d (.int .u64 n)] from rfl,h2];rfl
 have h:n=0∨n=1∨n=2∨n=3∨n=4∨n=5∨n=6∨n=7∨n=8∨n=9∨n=10∨n=11∨n=12:=by omega
 rcases h with rfl | rfl | rfl | rfl | rfl | rfl | rfl | rfl | rfl | rfl | rfl | rfl | rfl
 ·exact ⟨0,key 0 (by kernel_rfl)⟩
 ·exact ⟨1,key 1 (by kernel_rfl)⟩
 ·exact ⟨2,key 2 (by kernel_rfl)⟩
 ·exact ⟨2,key 2 (by kernel_rfl)⟩
 ·exact ⟨3,key 3 (by kernel_rfl)⟩
 ·exact ⟨3,key 3 (by kernel_rfl)⟩
 ·exact ⟨3,key 3 (by kernel_rfl)⟩
 ·exact ⟨3,key 3 (by kernel_rfl)⟩
 ·exact ⟨4,key 4 (by kernel_rfl)⟩
 ·exact ⟨4,key 4 (by kernel_rfl)⟩
 ·exact ⟨4,key 4 (by kernel_rfl)⟩
 ·exact ⟨4,key 4 (by kernel_rfl)⟩
 ·exact ⟨4,key 4 (by kernel_rfl)⟩
theorem aji (hT:T F27=some Z27) (h:yp (den T A) F29):yp (den T A) F27:=by
 intro n hn;obtain ⟨v,e⟩:=h n hn;refine ⟨v,c9 hT rfl ?_⟩;simp -implicitDefEqProofs [Z27,Z27_B,ap,e]
theorem ahm (hT:T F34=some Z34) (hi:xi (den T A)):∀(g:Nat) (first caps:List D) (f:D→Int) (cs:List D) (cp:Option Nat) (v:Int),cs.length≤12→CmpOk (den T A) g first caps f nz cs →
 ∃ds:List D,ds.Perm cs∧Asc f ds∧den T A F34 [.sl 0 [] 0 cs.length cp,(.d (.int .i64 0)),(.d (.int .i64 cs.length)),(.d (.int .i64 v)),.d (.fn g first caps)] [.sl false nz cs]=some (.tup [],[.sl false nz ds],[]):=by
 intro g first caps f cs cp v hl ok;obtain ⟨ds,h1,h2,e⟩:=hi g first caps f cs cp hl ok;refine ⟨ds,h1,h2,pm hT rfl ?_⟩;have w1:IntKind.i64.wrap (cs.length:Int)=cs.length:=w64 (by omega)
 have h12:(cs.length:Int)≤12:=by omega
 have lp:=u5 (O:=den T A) (np:=1) (c:=Z34_L0) (s:=⟨[(0,.sl 0 [] 0 cs.length cp),(1,(.d (.int .i64 0))),(2,(.d (.int .i64 cs.length))),(3,(.d (.int .i64 v))),(4,.d (.fn g first caps)),(10,(.d (.bool true))),(11,(.d (.bool true)))],[.sl false nz cs]⟩) (s1:=⟨[],[.sl false nz ds]⟩) (by
  simp at e;simp -implicitDefEqProofs [Z34_L0,ap,w1,h12,e,List.idxOf,List.findIdx,List.findIdx.go])
 simp -implicitDefEqProofs [Z34,Z34_B,lp]
def D7 (O:am):Prop:=∀(g:Nat) (first caps:List D) (f:D→Int) (cs:List D) (cp:Option Nat),cs.length≤12→CmpOk O g first caps f nz cs →
 ∃ds:List D,ds.Perm cs∧Asc f ds∧O F2h [.sl 0 [] 0 cs.length cp,.d (.fn g first caps)] [.sl false nz cs]=some (.tup [],[.sl false nz ds],[])
theorem Y9 (hT:T F2h=some Z2h) (hTp:T F34=some Z34) (hi:xi (den T A)) (hl:yp (den T A) F27):D7 (den T A):=by
 intro g first caps f cs cp hl12 ok;obtain ⟨v,ev⟩:=hl cs.length hl12;obtain ⟨ds,h1,h2,e⟩:=ahm hTp hi g first caps f cs cp v hl12 ok;refine ⟨ds,h1,h2,pm hT rfl ?_⟩
 have w1:IntKind.u64.wrap (cs.length:Int)=cs.length:=by
  simp [IntKind.wrap,IntKind.bits,IntKind.signed]; omega
 simp -implicitDefEqProofs [Z2h,Z2h_B,w1,ev,e,List.idxOf,List.findIdx,List.findIdx.go]
theorem a0h {O:am} (hd:vk O) {p:Int} [IsP p] {b:Fp p} (hb:2≤b.len) (hbl:b.len<2000):∀(n:Nat) (a:Fp p) (i:Nat),a.len≤n→a≠0→n<2000→i+n<100000→∃(k:Nat) (r:Fp p),a=r*pw b k∧¬ Dv b r ∧
 dn O 0 (.loop Z1i_L0) ⟨[(0,(.d (.int .i64 p))),(1,(.d (.sl .leaf (aq .i64 (row a))))),(2,(.d (.sl .leaf (aq .i64 (row b))))),(8,(.d (.int .i64 i)))],[]⟩=some (.ret,⟨[(6,(.d (.sl .leaf (aq .i64 (row r))))),(7,(.d (.int .i64 ((i+k:Nat)))))],[]⟩)
 | 0,a,i,hn,ha,_,_=>absurd (Pol.len_zero_iff.1 (by omega)) ha
 | n+1,a,i,hn,ha,hn2,hi=>by
  have hb0:b≠0:=fun h=>by rw [h,Pol.len_zero] at hb; omega
  have e:=hd p a b hb0 (by omega) (by omega)
  by_cases h0:a%b=0
  ·have hm:=Pol.div_mod a b
   rw [h0,Gq.add_zero] at hm;have hq:a/b≠0:=fun h=>ha (by rw [hm,h,Gq.zero_mul])
   have hl:=Pol.len_mul hq hb0;rw [←hm] at hl;obtain ⟨k,r,e1,e2,e3⟩:=a0h hd hb hbl n (a/b) (i+1) (by omega) hq (by omega) (by omega)
   refine ⟨k+1,r,?_,e2,?_⟩
   ·rw [pw,←Gq.mul_assoc,←e1]; exact hm
   ·have w1:IntKind.i64.wrap ((i:Int)+1)=((i+1:Nat):Int):=(w64 (x:=(i:Int)+1) (by omega)).trans (by omega)
    rw [show i+(k+1)=i+1+k by omega]
    refine bn ?_ e3;simp -implicitDefEqProofs [Z1i_L0,ap,e,h0,dj,w1]
  ·refine ⟨0,a,(Gq.mul_one a).symm,fun hdv=>h0 ((zi hb0).1 hdv),u5 ?_⟩
   have hp:=Pol.len_pos h0;simp -implicitDefEqProofs [Z1i_L0,ap,e,hp]
def G3 (O:am):Prop:=∀(p:Int) [IsP p] (a b:Fp p),a≠0→2≤b.len→a.len<1000→b.len<1000→∃(k:Nat) (r:Fp p),a=r*pw b k∧¬ Dv b r ∧
 ask O F1i [(D.int .i64 p),(D.sl .leaf (aq .i64 (row a))),(D.sl .leaf (aq .i64 (row b)))]=some (.tup [(D.sl .leaf (aq .i64 (row r))),(D.int .i64 k)])
theorem ab9 (hT:T F1i=some Z1i) (hd:vk (den T A)):G3 (den T A):=by
 intro p i a b ha hb hal hbl;obtain ⟨k,r,h1,h2,e⟩:=a0h hd hb (by omega) a.len a 0 (ba _) ha (by omega) (by omega)
 have e0:((0:Nat):Int)=0:=rfl;rw [e0,b9] at e;refine ⟨k,r,h1,h2,c9 hT rfl ?_⟩;simp -implicitDefEqProofs [Z1i,Z1i_B,e]
section
variable {p:Int} [IsP p]
theorem tu {n:Nat} (h:n≤12):p^n≤13841287201:=by
 have hp:=IsP.pos (p:=p);have h1:=qe (p:=p) (by omega) h
 have h2:p^12≤13841287201:=by
  rcases (inferInstance:IsP p).h with rfl | rfl | rfl | rfl <;> decide
 omega
theorem qx (n:Nat):0<p^n:=Int.pow_pos (IsP.pos)
theorem Nk (n:Nat):2*p^n≤p^(n+1):=by
 have hp:=IsP.ge (p:=p);rw [jt,lm];exact de hp (Int.le_of_lt (qx n))
theorem Uc {most:Int}:∀(n:Nat) (out:Int),0<out→out*p^n≤most→Hy p most n out=out*p^n
 | 0,out,h0,h=>by rw [Int.pow_zero,se]; rfl
 | n+1,out,h0,h=>by
  have hp:=IsP.pos (p:=p);have e:out*p^(n+1)=out*p*p^n:=by rw [jt,xu,lm p]
  rw [e] at h ⊢;have h1:1≤p^(n+1):=qx (n+1);have h2:out*1≤out*p^(n+1):=de h1 (by omega)
  rw [e] at h2;rw [Hy,if_neg (by omega)]
  exact Uc n (out*p) (Int.mul_pos h0 hp) h
theorem Dp {n:Nat} (hn:n≤12) {k:Int} (h1:p^n≤k) (h2:k<2*p^n):Monic (pb p k)∧(pb p k).len=n+1:=by
 have hp:=IsP.ge (p:=p);have hb:=tu (p:=p) hn;have hpos:=qx (p:=p) n;have ok:Ek k:=⟨by omega,by omega⟩
 have hs:=Nk (p:=p) n;have hlt:=In (p:=p) ok (d:=n+1) (by omega)
 have hc:(pb p k).c n=1:=by
  rw [P7 ok]
  have:k/p^n=1:=by
   have e:k=(k-p^n)+p^n:=by omega
   rw [e,Int.add_ediv_of_dvd_right (Int.dvd_refl _),Int.ediv_self (by omega),t6 (by omega) (by omega)]; rfl
  rw [this]; rfl
 have hl:=Pol.len_eq hlt (by rw [hc]; exact Fd.one_ne)
 refine ⟨⟨?_,fun h0=>by rw [h0,Pol.len_zero] at hl; omega⟩,hl⟩
 unfold Pol.ld;rw [hl]; exact hc
theorem ub {n:Nat} (_hn:n≤12) {q:Fp p} (hq:Monic q) (hl:q.len=n+1):p^n≤gf q∧gf q<2*p^n:=by
 have hp:=IsP.ge (p:=p);have hpos:=qx (p:=p) n;have h1:=Ea q;have h2:=a5y (lc q) n;have h3:q.c n=1:=by have:=hq.1; unfold Pol.ld at this; rwa [hl] at this
 rw [ja,h3,Ci] at h2
 have h4:gf q/p^n<p:=by
  apply mg hpos;rw [hl,jt,lm] at h1;exact h1.2
 have h5:0≤gf q/p^n:=ri h1.1 (by omega)
 have h6:gf q/p^n=1:=by
  have:gf q/p^n%p=gf q/p^n:=n9 h5 h4;have h7:(1:Int)=gf q/p^n%p:=h2;omega
 have h8:=Int.mul_ediv_add_emod (gf q) (p^n);rw [h6,se] at h8;have h9:=eo (gf q) (show p^n≠0 by omega)
 have h10:=du (gf q) hpos;omega
theorem Lu {n:Nat} (hn:n≤12) {q:Fp p} (hq:Monic q) (hl:q.len=n+1):pb p (gf q)=q:=Li (by
 have:=ub hn hq hl;have:=tu (p:=p) hn;omega)
theorem a7k {O:am} (hnu:zt O) (hr:B5 O) {a:Fp p} (hal:a.len<1000) {n:Nat} (hn:n≤12):∀(m:Nat) (k:Int),p^n≤k→k<2*p^n→(2*p^n-k).toNat≤m→(∃k0,k≤k0∧k0<2*p^n∧Dv (pb p k0) a)→∃b:Fp p,Monic b∧b.len=n+1∧Dv b a ∧
 dn O 0 (.loop Z1k_L0) ⟨[(0,(.d (.int .i64 p))),(1,(.d (.sl .leaf (aq .i64 (row a))))),(7,(.d (.int .i64 (p^n)))),(8,(.d (.int .i64 k)))],[]⟩=some (.ret,⟨[(6,(.d (.sl .leaf (aq .i64 (row b)))))],[]⟩)
 | 0,k,h1,h2,hm,hx=>by omega
 | m+1,k,h1,h2,hm,hx=>by
  have hb:=tu (p:=p) hn;have hpos:=qx (p:=p) n;obtain ⟨m1,m2⟩:=Dp hn h1 h2;have e1:=hnu p k (by omega) (by omega)
  have e2:=hr p a (pb p k) m1.2 (by omega) (by omega)
  have w1:IntKind.i64.wrap (2*p^n)=2*p^n:=wt;have w2:IntKind.i64.wrap (k+1)=k+1:=wt
  by_cases hd:Dv (pb p k) a
  ·refine ⟨pb p k,m1,m2,hd,u5 ?_⟩
   have h0:=(zi m1.2).1 hd;rw [h0,dj] at e2;simp -implicitDefEqProofs [Z1k_L0,ap,e1,e2,w1,h2]
  ·obtain ⟨k0,g1,g2,g3⟩:=hx
   have hne:k≠k0:=fun h=>hd (h▸g3)
   obtain ⟨b,b1,b2,b3,e⟩:=a7k hnu hr hal hn m (k+1) (by omega) (by omega) (by omega) ⟨k0,by omega,g2,g3⟩
   refine ⟨b,b1,b2,b3,bn ?_ e⟩;have h0:a%pb p k≠0:=fun h=>hd ((zi m1.2).2 h)
   have h0':row (a%pb p k)≠[]:=fun h=>h0 (ab6.1 h)
   have h0'':(a%pb p k).len≠0:=fun h=>h0 (Pol.len_zero_iff.1 h)
   simp -implicitDefEqProofs [Z1k_L0,ap,e1,e2,w1,w2,h2,h0'']
end
def su (O:am):Prop:=∀(p:Int) [IsP p] (a:Fp p) (n:Nat),1≤n→n≤12→a.len<1000→a≠0→(∃q,Monic q∧q.len=n+1∧Dv q a)→∃b:Fp p,Monic b∧b.len=n+1∧Dv b a ∧
 ask O F1k [(D.int .i64 p),(D.sl .leaf (aq .i64 (row a))),(D.int .i64 n)]=some (D.sl .leaf (aq .i64 (row b)))
theorem Ph (hT:T F1k=some Z1k) (hnu:zt (den T A)) (hr:B5 (den T A)) (hno:Xo (den T A)) (hdg:po (den T A)) (hld:xq (den T A)) (hinv:qb (den T A)) (hs:sy (den T A)):su (den T A):=by
 intro p i a n hn1 hn hal ha ⟨q,q1,q2,q3⟩;have hp:=IsP.ge (p:=p);have hp7:=IsP.le (p:=p);have e1:=hdg (row a) (by rw [ca]; omega)
 rw [ca] at e1
 by_cases hd:a.len=n+1
 ·have hr:=o7 a.ld
  have hin:=zq p (rep a.ld);have e2:=hld (row a) (by rw [ca]; omega)
  rw [H0] at e2;have e3:=hinv p (rep a.ld) (by omega) (by omega) hr.1 hr.2
  have e4:=hs p (inv p (rep a.ld)) a (by omega) (by omega) (by omega)
  rw [vw _ (Pol.ld_ne ha)] at e4;have hd2:(a.len:Int)-1=n:=by omega
  refine ⟨mon a,px ha,by rw [uu ha,hd],(Cy ha).2 (.refl a),c9 hT rfl ?_⟩
  simp -implicitDefEqProofs [Z1k,Z1k_B,ap,e1,e2,e3,e4,hd2,mon]
 ·have hd2:¬ (a.len:Int)-1=n:=by omega
  have hb:=tu (p:=p) hn;have hpos:=qx (p:=p) n;have e2:=hno p n 1099511627776 (by omega) (by omega)
  rw [Uc n 1 (by omega) (by omega),Int.one_mul] at e2
  have hq:=ub hn q1 q2;obtain ⟨b,b1,b2,b3,e⟩:=a7k hnu hr hal hn (2*p^n-p^n).toNat (p^n) (B8 _) (by omega) (ba _) ⟨gf q,hq.1,hq.2,by rw [Lu hn q1 q2]; exact q3⟩
  refine ⟨b,b1,b2,b3,c9 hT rfl ?_⟩;simp -implicitDefEqProofs [Z1k,Z1k_B,ap,e1,e2,hd2,e]
section
variable {p:Int} [IsP p]
theorem aci:row (Pol.X:Fp p)=[0,1]:=by
 unfold row;rw [Pol.len_X];show [rep ((Pol.X:Fp p).c 0),rep ((Pol.X:Fp p).c 1)]=[0,1];have e0:(Pol.X:Fp p).c 0=0:=rfl;have e1:(Pol.X:Fp p).c 1=1:=rfl;rw [e0,e1,sj,Ci]
theorem Irr.assoc {q b:Fp p} (hq:Irr q) (hb:Irr b) (h:Dv q b):Dv b q:=by
 obtain ⟨c,hc⟩:=h;have hc0:c≠0:=fun h0=>hb.ne (by rw [hc,h0,Gq.mul_zero])
 have l:=Pol.len_mul hq.ne hc0;rw [←hc] at l;have h1:=hq.len;rcases hb.dv ⟨c,hc⟩ with h2 | h2
 ·omega
 ·obtain ⟨k,hk,rfl⟩:=pq (show c.len=1 by omega)
  rw [hc,Gq.mul_comm];exact (Dv.Cmul hk).2 (.refl q)
structure FInv (a0:Fp p) (n:Nat) (a:Fp p) (out:od p):Prop where
 ne:a≠0
 eq:a0=a*oa out
 ok:FacOk out
 nd:∀x∈out,¬ Dv x.1 a
 ns:Bm n a
 ln:out.length+a.len≤13
structure JInv (a0:Fp p) (n:Nat) (a:Fp p) (out:od p) (all:Fp p):Prop where
 f:FInv a0 n a out
 ne:all≠0
 ln:all.len≤13
 one:∀q,Irr q→Dv q all→q.len=n+1∧Dv q a
 two:∀q,Irr q→q.len=n+1→Dv q a→Dv q all
end
section
variable {p:Int}
theorem zh (L:od p) (x:Fp p×Nat):oa (L++[x])=oa L*pw x.1 x.2:=by
 induction L with
 | nil=>show pw x.1 x.2*1=1*pw x.1 x.2; rw [Gq.mul_one,Gq.one_mul]
 | cons y L ih=>rw [cz,tg,tg,ih,Gq.mul_assoc]
end
section
variable {p:Int} [IsP p]
theorem FacOk.snoc {L:od p} (h:FacOk L) {q:Fp p} {k:Nat} (hi:Irr q) (hm:Monic q) (hk:1≤k) (hd:∀x∈L,x.1≠q):FacOk (L++[(q,k)]):=by
 refine ⟨fun x hx=>?_,?_⟩
 ·rcases bp.1 hx with hx | hx
  ·exact h.irr x hx
  ·simp at hx; subst hx; exact ⟨hi,hm,hk⟩
 ·rw [iu]
  refine ⟨h.dis,fk _ _,fun x hx y hy=>?_⟩
  simp at hy; subst hy; exact hd x hx
theorem JInv.irr {a0 a:Fp p} {n:Nat} {out:od p} {all b:Fp p} (h:JInv a0 n a out all) (hn:1≤n) (hb:b.len=n+1) (hd:Dv b all):Irr b:=by
 have hb0:b≠0:=fun h0=>by rw [h0,Pol.len_zero] at hb; omega
 refine Irr.of_dv (by omega) fun u hu=>?_
 have hul:=hu.len hb0
 have hu0:u≠0:=fun h0=>by
  obtain ⟨c,hc⟩:=hu;exact hb0 (by rw [hc,h0,Gq.zero_mul])
 have hup:=Pol.len_pos hu0
 by_cases h1:u.len=1
 ·exact .inl h1
 ·right
  obtain ⟨r,r1,_,r2⟩:=Gu u.len u (ba _) (by omega)
  have h2:=(h.one r r1 ((r2.trans hu).trans hd)).1;have h3:=r2.len hu0;omega
theorem JInv.step {a0 a:Fp p} {n:Nat} {out:od p} {all b:Fp p} (h:JInv a0 n a out all) (hn:1≤n) (hm:Monic b) (hb:b.len=n+1) (hd:Dv b all)
 {k k':Nat} {r r':Fp p} (h1:a=r*pw b k) (h2:¬ Dv b r) (h3:all=r'*pw b k') (h4:¬ Dv b r'):JInv a0 n r (out++[(b,k)]) r'∧r'.len<all.len∧1≤k:=by
 have hi:=h.irr hn hb hd;have hda:=(h.one b hi hd).2
 have hk:1≤k:=by
  cases k with
  | zero=>exact absurd (by rw [h1,pw,Gq.mul_one] at hda; exact hda) h2
  | succ k=>omega
 have hk':1≤k':=by
  cases k' with
  | zero=>exact absurd (by rw [h3,pw,Gq.mul_one] at hd; exact hd) h4
  | succ k=>omega
 have hr0:r≠0:=fun h0=>h.f.ne (by rw [h1,h0,Gq.zero_mul])
 have hr0':r'≠0:=fun h0=>h.ne (by rw [h3,h0,Gq.zero_mul])
 have shrink:∀(a r:Fp p) (k:Nat),r≠0→1≤k→a=r*pw b k→r.len<a.len:=by
  intro a r k hr hk e;obtain ⟨j,rfl⟩:∃j,k=j+1:=⟨k-1,by omega⟩
  have hj:=Mn hi.ne j;have l1:=Pol.len_mul hj hi.ne;have l2:=Pol.len_mul hr (Pol.mul_ne hj hi.ne);have l3:=Pol.len_pos hj;rw [e,pw]; omega
 have s1:=shrink a r k hr0 hk h1;have s2:=shrink all r' k' hr0' hk' h3;have dr:∀q,Dv q r→Dv q a:=fun q hq=>by rw [h1]; exact hq.mul_right _
 have pd:∀q,Irr q→∀m,Dv q (pw b m)→Dv b q:=fun q hq m hq2=>Irr.assoc hq hi (Irr.pw_dv hq m hq2)
 refine ⟨⟨⟨hr0,?_,h.f.ok.snoc hi hm hk fun x hx e=>h.f.nd x hx (e▸hda),?_,Wx h.f.ns ⟨pw b k,h1⟩,?_⟩,hr0',by have:=h.ln; omega,?_,?_⟩,s2,hk⟩
 ·rw [h.f.eq,zh]
  conv=>lhs; rw [h1]
  exact cu [r,pw b k,oa out] rfl
 ·intro x hx
  rcases bp.1 hx with hx | hx
  ·exact fun hq=>h.f.nd x hx (dr _ hq)
  ·simp at hx; subst hx; exact h2
 ·have:=h.f.ln
  simp; omega
 ·intro q hq hqr
  have hqa:Dv q all:=by rw [h3]; exact hqr.mul_right _
  obtain ⟨g1,g2⟩:=h.one q hq hqa;refine ⟨g1,?_⟩;rw [h1] at g2;rcases hq.prime g2 with g | g
  ·exact g
  ·exact absurd ((pd q hq k g).trans hqr) h4
 ·intro q hq hql hqr
  have:=h.two q hq hql (dr q hqr);rw [h3] at this;rcases hq.prime this with g | g
  ·exact g
  ·exact absurd ((pd q hq k' g).trans hqr) h2
theorem JInv.done {a0 a:Fp p} {n:Nat} {out:od p} {all:Fp p} (h:JInv a0 n a out all) (hl:all.len<2):FInv a0 (n+1) a out:=by
 refine ⟨h.f.ne,h.f.eq,h.f.ok,h.f.nd,fun q hq hd=>?_,h.f.ln⟩
 have h1:=h.f.ns q hq hd;apply f7;intro hx;have h2:=(h.two q hq (by omega) hd).len h.ne
 have:=hq.len;omega
theorem JInv.init {a0 a:Fp p} {n:Nat} {out:od p} (h:FInv a0 n a out) (hn:1≤n) (hn2:n≤12) {fr:Fp p} (hf:fr%a=pw Pol.X (p.toNat^n)%a):JInv a0 n a out (Pol.gcd (fr-Pol.X) a):=by
 have h0:fr-Pol.X≠0∨a≠0:=.inr h.ne;have hm:=Pol.gcd_monic h0;have hd2:=Pol.gcd_dv_right h0
 have key:∀q,Dv q a→(Dv q (fr-Pol.X)↔Dv q (frT p n)):=by
  intro q hq
  have e:Dv q (fr-pw Pol.X (p.toNat^n)):=by
   refine hq.trans ?_;rw [qd,Quo.mk_sub];rw [(Pol.mod_eq_iff h.ne).1 hf,sub_self]
  unfold frT;constructor
  ·intro g
   have:pw Pol.X (p.toNat^n)-Pol.X=(fr-Pol.X)-(fr-pw Pol.X (p.toNat^n)):=cu [pw Pol.X (p.toNat^n),Pol.X,fr] rfl;rw [this]; exact g.sub e
  ·intro g
   have:fr-Pol.X=(pw Pol.X (p.toNat^n)-Pol.X)+(fr-pw Pol.X (p.toNat^n)):=cu [pw Pol.X (p.toNat^n),Pol.X,fr] rfl;rw [this]; exact g.add e
 have hl:=hd2.len h.ne;have hl2:=h.ln;refine ⟨h,hm.2,by omega,fun q hq hd=>?_,fun q hq hql hqa=>?_⟩
 ·have g1:=hd.trans hd2
  have g2:=(key q g1).1 (hd.trans (Pol.gcd_dv_left h0));have g3:=h.ns q hq g1;have g4:=g1.len h.ne;have g5:=M9 hq (d:=q.len-1) (k:=n) (by have:=hq.len; omega) (by have:=tu (p:=p) (n:=q.len-1) (by omega); omega) hn g2
  exact ⟨by omega,g1⟩
 ·have g2:=a01 hq hql (by have:=tu (p:=p) hn2; omega)
  exact Pol.dv_gcd h0 ((key q hqa).2 g2) hqa
noncomputable abbrev q9 (x:Fp p×Nat):D:=.st [.leaf,.leaf] [(D.sl .leaf (aq .i64 (row x.1))),(D.int .i64 x.2)]
theorem a6u {O:am} (hw:su O) (hst:G3 O) (hdg:po O) {a0:Fp p} {n:Nat} (hn:1≤n) (hn2:n≤12):∀(m:Nat) (a:Fp p) (out:od p) (all:Fp p) (cp:Option Nat),all.len≤m→JInv a0 n a out all→∃(a':Fp p) (out':od p) (all':List Int) (cp':Option Nat),FInv a0 (n+1) a' out'∧a'.len≤a.len ∧
 dn O 0 (.loop Z14_L1) ⟨[(0,(.d (.int .i64 p))),(1,(.d (.sl .leaf (aq .i64 (row a))))),(5,.sl 0 [] 0 out.length cp),(6,(.d (.int .i64 n))),(8,(.d (.sl .leaf (aq .i64 (row all)))))],[.sl false nz (out.map q9),.hole,.hole,.hole,.hole]⟩ =
  some (.exit 4,⟨[(0,(.d (.int .i64 p))),(1,(.d (.sl .leaf (aq .i64 (row a'))))),(5,.sl 0 [] 0 out'.length cp'),(6,(.d (.int .i64 n))),(8,(.d (.sl .leaf (aq .i64 all')))),(52,(.d (.bool false)))],[.sl false nz (out'.map q9),.hole,.hole,.hole,.hole]⟩)
 | m,a,out,all,cp,hm,h=>by
  have hln:=h.ln;have hp:=Pol.len_pos h.ne;have e1:=hdg (row all) (by rw [ca]; omega)
  rw [ca] at e1
  by_cases hl:all.len<2
  ·refine ⟨a,out,row all,cp,h.done hl,ba _,bu ?_⟩
   have h1:¬ (1:Int)<(all.len:Int):=by omega
   simp -implicitDefEqProofs [Z14_L1,ap,e1,h1]
  ·have hlo:=h.f.ln
   obtain ⟨q,q1,q2,q3⟩:=Gu all.len all (ba _) (by omega)
   obtain ⟨b,b1,b2,b3,e2⟩:=hw p all n hn hn2 (by omega) h.ne ⟨q,q2,(h.one q q1 q3).1,q3⟩
   obtain ⟨k,r,g1,g2,e3⟩:=hst p a b h.f.ne (by omega) (by omega) (by omega)
   obtain ⟨k',r',g3,g4,e4⟩:=hst p all b h.ne (by omega) (by omega) (by omega)
   obtain ⟨hJ,hlt,hk⟩:=h.step hn b1 b2 b3 g1 g2 g3 g4;cases m with
   | zero=>omega
   | succ m=>
    obtain ⟨a',out',all',cp',i1,i2,e⟩:=a6u hw hst hdg hn hn2 m r (out++[(b,k)]) r' none (by omega) hJ
    have hra:r.len≤a.len:=(show Dv r a from ⟨_,g1⟩).len h.f.ne;refine ⟨a',out',all',cp',i1,by omega,bn ?_ e⟩
    have h1:(1:Int)<(all.len:Int):=by omega
    have h8:(out.length+1)*32≤1099511627776:=by omega
    have ht:(out.map q9).take out.length=out.map q9:=aw (by simp)
    have hL:(out.map q9).length=out.length:=by simp
    have o1:(out++[(b,k)]).map q9=out.map q9++[q9 (b,k)]:=by simp
    have o2:(out++[(b,k)]).length=out.length+1:=by simp
    rw [o1,o2];generalize out.map q9=LD at *;simp -implicitDefEqProofs [Z14_L1,ap,e1,e2,e3,e4,h1,h8,ht,hL,List.replicate]
theorem a7w {O:am} (hpw:zg O) {a:Fp p} (ha:a≠0) (hal:a.len≤13) {n:Nat} (hn2:n≤1000) {st:V} {hp:Heap} (hst:st.refs=[0]) (hhp:∃b,hp=[b,.hole,.hole,.hole,.hole]):∀(m i:Nat) (fr:Fp p),i+m=n→fr.len≤13→∃fr':Fp p,fr'.len≤13∧fr'%a=pw fr (p.toNat^m)%a ∧
 dn O 0 (.loop Z14_L0) ⟨[(0,(.d (.int .i64 p))),(1,(.d (.sl .leaf (aq .i64 (row a))))),(5,st),(6,(.d (.int .i64 n))),(7,(.d (.sl .leaf (aq .i64 (row fr))))),(34,(.d (.int .i64 n))),(35,(.d (.int .i64 i)))],hp⟩ =
  some (.exit 2,⟨[(0,(.d (.int .i64 p))),(1,(.d (.sl .leaf (aq .i64 (row a))))),(5,st),(6,(.d (.int .i64 n))),(7,(.d (.sl .leaf (aq .i64 (row fr'))))),(34,(.d (.int .i64 n))),(35,(.d (.int .i64 n))),(36,(.d (.bool false)))],hp⟩)
 | 0,i,fr,hi,hf=>by
  obtain ⟨b,rfl⟩:=hhp;obtain rfl:i=n:=by omega
  refine ⟨fr,hf,by rw [t4,Dz],bu ?_⟩
  simp -implicitDefEqProofs [Z14_L0,ap,hst]
 | m+1,i,fr,hi,hf=>by
  have hP:=IsP.pos (p:=p);have hP7:=IsP.le (p:=p);have e:=hpw p fr p a ha (by omega) (by omega) (by omega) (by omega)
  have hl:=Pol.len_mod (pw fr p.toNat) ha;obtain ⟨fr',g1,g2,g3⟩:=a7w (O:=O) hpw ha hal hn2 hst hhp m (i+1) (pw fr p.toNat%a) (by omega) (by omega)
  obtain ⟨b,rfl⟩:=hhp;have h1:i<n:=by omega
  have w1:=wi i;refine ⟨fr',g1,?_,bn ?_ g3⟩
  ·rw [g2,Pol.pow_mod _ ha,xw,qi,zy]
  ·simp -implicitDefEqProofs [Z14_L0,ap,e,h1,w1,hst]
structure FEnd (a0:Fp p) (out:od p):Prop where
 ok:FacOk out
 eq:∃c:Zp p,c≠0∧a0=Pol.C c*oa out
 ln:out.length≤12
theorem a8n {O:am} (hw:su O) (hst:G3 O) (hdg:po O) (hpw:zg O) (hlet:G6 O) (hc:jn O) (hg:Yt O) (hld:xq O) (hinv:qb O) (hs:sy O) {a0:Fp p}:∀(m n:Nat) (a:Fp p) (out:od p) (cp:Option Nat),1≤n→n+m=15→FInv a0 n a out→∃(out':od p) (cp':Option Nat) (e:Env),FEnd a0 out'∧((∃x y,e=[(0,(.d (.int .i64 p))),(1,(.d (.sl .leaf (aq .i64 x)))),(5,.sl 0 [] 0 out'.length cp'),(6,(.d (.int .i64 y))),(14,(.d (.bool false)))])∨e=[(5,.sl 0 [] 0 out'.length cp')]) ∧
 dn O 0 (.loop Z14_L2) ⟨[(0,(.d (.int .i64 p))),(1,(.d (.sl .leaf (aq .i64 (row a))))),(5,.sl 0 [] 0 out.length cp),(6,(.d (.int .i64 n)))],[.sl false nz (out.map q9),.hole,.hole,.hole,.hole]⟩ =
  some (.exit 0,⟨e,[.sl false nz (out'.map q9),.hole,.hole,.hole,.hole]⟩)
 | m,n,a,out,cp,hn,hm,h=>by
  have hp:=IsP.ge (p:=p);have hp7:=IsP.le (p:=p);have hln:=h.ln;have ha:=Pol.len_pos h.ne;have e1:=hdg (row a) (by rw [ca]; omega)
  rw [ca] at e1
  by_cases hl:a.len=1
  ·have h1:¬ (1:Int)<(a.len:Int):=by omega
   obtain ⟨c,hc0,rfl⟩:=pq hl;refine ⟨out,cp,_,⟨h.ok,⟨c,hc0,h.eq⟩,by omega⟩,.inl ⟨row (Pol.C c),n,rfl⟩,bu ?_⟩
   simp -implicitDefEqProofs [Z14_L2,ap,e1,h1]
  ·have h1:(1:Int)<(a.len:Int):=by omega
   have w1:IntKind.i64.wrap (2*(n:Int))=2*(n:Int):=wt;have h8:(out.length+1)*32≤1099511627776:=by omega
   have ht:(out.map q9).take out.length=out.map q9:=aw (by simp)
   have hL:(out.map q9).length=out.length:=by simp
   by_cases h2:(a.len:Int)-1<2*(n:Int)
   ·have hi:=Al h.ns (by omega) (by omega)
    have hr:=o7 a.ld;have hin:=zq p (rep a.ld);have e2:=hld (row a) (by rw [ca]; omega)
    rw [H0] at e2;have e3:=hinv p (rep a.ld) (by omega) (by omega) hr.1 hr.2
    have e4:=hs p (inv p (rep a.ld)) a (by omega) (by omega) (by omega)
    rw [vw _ (Pol.ld_ne h.ne)] at e4;have e4':ask O F1h [(D.int .i64 p),(D.sl .leaf (aq .i64 (row a))),(D.int .i64 (inv p (rep a.ld)))]=some (D.sl .leaf (aq .i64 (row (mon a)))):=e4;have o1:(out++[(mon a,1)]).map q9=out.map q9++[q9 (mon a,1)]:=by simp
    have o2:(out++[(mon a,1)]).length=out.length+1:=by simp
    refine ⟨out++[(mon a,1)],none,_,⟨h.ok.snoc hi.mon (px h.ne) (ba 1) fun x hx e=>h.nd x hx (by rw [e,Cy h.ne]; exact .refl a),⟨a.ld,Pol.ld_ne h.ne,?_⟩,by rw [o2]; omega⟩,.inr rfl,bu ?_⟩
    ·rw [zh]
     show a0=Pol.C a.ld*(oa out*pw (mon a) 1);rw [Dz,h.eq]
     conv=>lhs; rw [a6f h.ne]
     exact cu [Pol.C a.ld,mon a,oa out] rfl
    ·rw [o1,o2]
     generalize out.map q9=LD at *;simp -implicitDefEqProofs [Z14_L2,ap,e1,h1,h2,w1,e2,e3,e4',h8,ht,hL,List.replicate]
   ·cases m with
    | zero=>omega
    | succ m=>
     have hl2:(Pol.X:Fp p).len≤13:=by rw [Pol.len_X]; omega
     obtain ⟨fr,g1,g2,g3⟩:=a7w (O:=O) hpw h.ne (by omega) (n:=n) (by omega) (st:=.sl 0 [] 0 out.length cp) (hp:=[.sl false nz (out.map q9),.hole,.hole,.hole,.hole]) (by simp [V.refs]) ⟨_,rfl⟩ n 0 Pol.X (b9 _) hl2
     have hJ:=JInv.init h hn (by omega) g2
     have hlj:=hJ.ln;obtain ⟨a',out',all',cp',i1,i2,i3⟩:=a6u (O:=O) hw hst hdg hn (by omega) (Pol.gcd (fr-Pol.X) a).len a out _ cp (ba _) hJ
     obtain ⟨out2,cp2,e,j1,j2,j3⟩:=a8n hw hst hdg hpw hlet hc hg hld hinv hs m (n+1) a' out' cp' (by omega) (by omega) i1
     have e2:ask O Fx []=some (D.sl .leaf (aq .i64 (row (Pol.X:Fp p)))):=by rw [aci]; exact hlet
     have e3:=hc p fr Pol.X (by omega) (by omega)
     have hsl:=Pol.len_sub_le (a:=fr) (b:=Pol.X) (n:=13) g1 hl2;have e4:=hg p (fr-Pol.X) a (.inr h.ne) (by omega) (by omega)
     have w2:=wi n;have e0:((0:Nat):Int)=0:=rfl;rw [e0] at g3;refine ⟨out2,cp2,e,j1,j2,bn ?_ j3⟩;generalize out.map q9=LD at *;simp -implicitDefEqProofs [Z14_L2,ap,e1,h1,h2,w1,w2,e2,e3,e4,g3,i3]
end
theorem Hw {α β:Type} (f:α→β) {m ds:List β} (h:m.Perm ds):∀l:List α,l.map f=m→∃l':List α,l'.Perm l∧l'.map f=ds:=by
 induction h with
 | nil=>intro l hl; exact ⟨[],by simp at hl; subst hl; exact .refl _,rfl⟩
 | cons x h ih=>
  intro l hl;cases l with
  | nil=>simp at hl
  | cons y l=>
   simp at hl;obtain ⟨l',p,e⟩:=ih l hl.2;exact ⟨y::l',p.cons y,by simp [e,hl.1]⟩
 | swap x y s=>
  intro l hl;cases l with
  | nil=>simp at hl
  | cons a l=>
   cases l with
   | nil=>simp at hl
   | cons b l=>
    simp at hl;exact ⟨b::a::l,List.Perm.swap a b l,by simp [hl]⟩
 | trans _ _ ih1 ih2=>
  intro l hl;obtain ⟨l',p,e⟩:=ih1 l hl;obtain ⟨l'',p2,e2⟩:=ih2 l' e;exact ⟨l'',p2.trans p,e2⟩
section
variable {p:Int} [IsP p]
theorem aef:∀(n:Nat) {l m:List Int},Can p l→Can p m→l.length=n→m.length=n→Gc l m n=qt (vl p l) (vl p m):=by
 have hp:=IsP.pos (p:=p)
 -- the value of the first coefficients
 have key:∀(k:Nat) (l:List Int),Can p l→k≤l.length→vl p (l.take k)+(if k<l.length then p^k*cf l k else 0)=vl p (l.take (k+1))∧0≤vl p (l.take k)∧vl p (l.take k)<p^k:=by
  intro k l hl hk;have hin:=a1e (p:=p) (l:=l.take k) fun x hx=>hl x (fc hx)
  rw [b8,Nat.min_eq_left hk] at hin;refine ⟨?_,hin⟩
  have app:∀(a b:List Int),vl p (a++b)=vl p a+p^a.length*vl p b:=by
   intro a
   induction a with
   | nil=>intro b; simp [vl]
   | cons x a ih=>
    intro b;rw [cz,vl,ih,vl,bv,jt,uf,lm (p^a.length) p,xu,Int.add_assoc]
  by_cases hlt:k<l.length
  ·rw [if_pos hlt,←Cl hlt,app,b8,Nat.min_eq_left hk,ft hlt]
   simp [vl]
  ·rw [if_neg hlt,aw (by omega),aw (by omega),Int.add_zero]
 intro n l m hl hm hln hmn
 have main:∀k,k≤n→Gc l m k=qt (vl p (l.take k)) (vl p (m.take k)):=by
  intro k
  induction k with
  | zero=>intro _; simp [Gc,qt,vl]
  | succ k ih=>
   intro hk;obtain ⟨a1,a2,a3⟩:=key k l hl (by omega)
   obtain ⟨b1,b2,b3⟩:=key k m hm (by omega)
   rw [if_pos (by omega)] at a1 b1
   rw [←a1,←b1,Gc,ih (by omega)]
   have hpk:=qx (p:=p) k;generalize cf m k=d,cf l k=c,vl p (m.take k)=v,vl p (l.take k)=u at *
   have mono:∀x y:Int,x<y→p^k*x+p^k≤p^k*y:=fun x y h=>by
    have:=de (show x+1≤y by omega) (Int.le_of_lt hpk)
    rwa [uf,se] at this
   rcases Int.lt_trichotomy c d with h | h | h
   ·have:=mono c d h
    have e:qt c d=-1:=if_pos h;rw [e,if_pos (by omega)]
    exact (if_pos (by omega)).symm
   ·subst h
    have e:qt c c=0:=by unfold qt; rw [if_neg (by omega),if_neg (by omega)]
    rw [e,if_neg (fun h=>h rfl)]
    unfold qt
    by_cases h1:u<v
    ·rw [if_pos h1,if_pos (by omega)]
    ·rw [if_neg h1]
     by_cases h2:v<u
     ·rw [if_pos h2,if_neg (by omega),if_pos (by omega)]
     ·rw [if_neg h2,if_neg (by omega),if_neg (by omega)]
   ·have:=mono d c h
    have e:qt c d=1:=by unfold qt; rw [if_neg (by omega),if_pos h]
    rw [e,if_pos (by omega)]
    unfold qt;rw [if_neg (by omega),if_pos (by omega)]
 have:=main n (ba n)
 rwa [aw (by omega),aw (by omega)] at this
theorem a8l (a b:Fp p):abz (row a) (row b)=qt (gf a) (gf b):=by
 unfold abz;rw [ca,ca];rcases jd a.len b.len with h | h | h
 ·have:=vh h
  have e:qt (a.len:Int) b.len=-1:=if_pos (by omega)
  rw [e,if_pos (by omega)]
  exact (if_pos this).symm
 ·have e:qt (a.len:Int) b.len=0:=by unfold qt; rw [if_neg (by omega),if_neg (by omega)]
  rw [e,if_neg (fun h=>h rfl)]
  exact aef a.len (lc a) (lc b) (ca a) (by rw [ca,h])
 ·have:=vh h
  have e:qt (a.len:Int) b.len=1:=by unfold qt; rw [if_neg (by omega),if_pos (by omega)]
  rw [e,if_pos (by omega)]
  unfold qt;rw [if_neg (by omega),if_pos this]
end
def agx (p:Int):D→Int
 | .st _ (.sl _ cs::_)=>vl p (cs.map D.num)
 | _=>0
theorem E9 {p:Int} (x:Fp p×Nat):agx p (q9 x)=vl p (row x.1):=by
 show vl p ((aq .i64 (row x.1)).map D.num)=_;unfold aq;rw [uy];have:(D.num ∘ D.int .i64)=id:=rfl;rw [this,List.map_id]
theorem a9t {p:Int} [IsP p] (hT:T F15=some Z15) (hc:Ca (den T A)) {L:od p} (hl:∀x∈L,x.1.len≤1000):CmpOk (den T A) F15 [] [] (agx p) nz (L.map q9):=by
 refine ⟨fun x hx=>by simp at hx,fun x hx=>by simp at hx,fun x hx=>?_,fun x hx=>?_,fun x hx y hy=>?_⟩
 ·obtain ⟨a,_,rfl⟩:=cn.1 hx; rfl
 ·obtain ⟨a,_,rfl⟩:=cn.1 hx; rfl
 ·obtain ⟨a,ha,rfl⟩:=cn.1 hx
  obtain ⟨b,hb,rfl⟩:=cn.1 hy;have h1:=hl a ha;have h2:=hl b hb;have e:=hc (row a.1) (row b.1) (by rw [ca]; omega) (by rw [ca]; omega)
  rw [a8l] at e;have n1:=E9 a;have n2:=E9 b;rw [n1,n2];refine c9 hT rfl ?_;simp -implicitDefEqProofs [Z15,Z15_B,e,gf]
def Hf (O:am):Prop:=∀(p:Int) [IsP p] (a:Fp p),a≠0→a.len≤13→∃L:od p,IsFac a L∧L.length≤12 ∧
 ask O F14 [(D.int .i64 p),(D.sl .leaf (aq .i64 (row a)))]=some (.sl nz (L.map q9))
theorem FacOk.perm {p:Int} [IsP p] {L L':od p} (h:FacOk L) (hp:L'.Perm L):FacOk L':=
 ⟨fun x hx=>h.irr x (hp.subset hx),(hp.pairwise_iff (fun h e=>h e.symm)).2 h.dis⟩
theorem Vq {p:Int} {L L':od p} (hp:L'.Perm L):oa L'=oa L:=Ms (hp.map _)
theorem a44 (hT:T F14=some Z14) (hT1:T F15=some Z15) (hw:su (den T A)) (hst:G3 (den T A)) (hdg:po (den T A)) (hpw:zg (den T A)) (hlet:G6 (den T A)) (hc:jn (den T A)) (hg:Yt (den T A)) (hld:xq (den T A)) (hinv:qb (den T A)) (hs:sy (den T A)) (hcmp:Ca (den T A)) (hsort:D7 (den T A)):Hf (den T A):=by
 intro p i a ha hal;have h0:FInv a 1 a []:=⟨ha,(Gq.mul_one a).symm,⟨by simp,List.Pairwise.nil⟩,by simp,Sx a,by simpa using hal⟩
 obtain ⟨out,cp,e,j1,j2,j3⟩:=a8n hw hst hdg hpw hlet hc hg hld hinv hs 14 1 a [] (some 0) (ba 1) rfl h0;obtain ⟨c,hc0,hac⟩:=j1.eq;have hP:=A5 j1.ok
 have hlen:∀x∈out,x.1.len≤1000:=fun x hx=>by
  have h1:Dv x.1 a:=by
   obtain ⟨r,h2,_⟩:=Bl j1.ok (show (x.1,x.2)∈out from hx);obtain ⟨k,hk⟩:∃k,x.2=k+1:=⟨x.2-1,by have:=(j1.ok.irr x hx).2.2; omega⟩
   rw [hac,h2,hk,pw];exact (((Dv.refl x.1).mul_left _).mul_right _).mul_left _
  have:=h1.len ha;omega
 obtain ⟨ds,s1,s2,s3⟩:=hsort _ _ _ _ (out.map q9) cp (by simpa using j1.ln) (a9t hT1 hcmp hlen)
 obtain ⟨L,p1,p2⟩:=Hw q9 s1.symm out rfl;have ok:=j1.ok.perm p1;subst p2;have hLl:L.length=out.length:=p1.length_eq;refine ⟨L,⟨ok,?_,?_⟩,by rw [hLl]; exact j1.ln,c9 hT rfl ?_⟩
 ·have s4:L.Pairwise fun x y=>gf x.1≤gf y.1:=by
   have:=s2;unfold Asc at this;rw [pa] at this;exact this.imp fun h=>by rw [E9,E9] at h; exact h
  exact (s4.and ok.dis).imp fun {x y} h=>by
   have h1:=h.1;rcases Int.lt_or_eq_of_le h1 with h2 | h2
   ·exact h2
   ·exact absurd (Na h2) h.2
 ·have:a.ld=c:=by
   rw [hac,Pol.ld_mul (Pol.C_ne hc0) hP.2,Pol.ld_C hc0,hP.1,Gq.mul_one]
  rw [this,Vq p1]; exact hac
 ·have e0:(([]:od p).length:Nat)=0:=rfl
  have e00:((1:Nat):Int)=1:=rfl;rw [e0,e00,fa] at j3;have hds:(L.map q9).length=out.length:=by rw [af,hLl]
  have hol:(out.map q9).length=out.length:=by simp
  have htk:(L.map q9).take out.length=L.map q9:=aw (by omega)
  rw [hol] at s3;generalize out.map q9=OD,L.map q9=LD at *;rcases j2 with ⟨x,y,rfl⟩ | rfl
  ·simp -implicitDefEqProofs [Z14,Z14_B,j3,s3,hds,htk,List.idxOf,List.findIdx,List.findIdx.go]
  ·simp -implicitDefEqProofs [Z14,Z14_B,j3,s3,hds,htk,List.idxOf,List.findIdx,List.findIdx.go]
end Pe
namespace Pe
open Go Gq
variable {T:Nat→Option Fn} {A:am}
open Classical in
noncomputable def fac {p:Int} [IsP p] (a:Fp p):od p:=if h:∃L,IsFac a L then Classical.choose h else []
theorem a71 {p:Int} [IsP p] {a:Fp p} (ha:a≠0) {L:od p} (h:IsFac a L):fac a=L:=by
 have hx:∃L,IsFac a L:=⟨L,h⟩;unfold fac;rw [dif_pos hx];exact IsFac.unique ha (dc hx) h
def a7u (O:am):Prop:=∀(p:Int) [IsP p] (a:Fp p),a≠0→a.len≤13→IsFac a (fac a)∧(fac a).length≤12 ∧
 ask O F14 [(D.int .i64 p),(D.sl .leaf (aq .i64 (row a)))]=some (.sl nz ((fac a).map q9))
theorem ah5 {O:am} (h:Hf O):a7u O:=fun p i a ha hl=>by
 obtain ⟨L,h1,h2,h3⟩:=h p a ha hl;rw [a71 ha h1];exact ⟨h1,h2,h3⟩
section
variable {p:Int} [IsP p]
theorem IsFac.len {m:Fp p} (hm:m≠0) {L:od p} (h:IsFac m L) {x:Fp p×Nat} (hx:x∈L):2≤x.1.len∧x.1.len≤m.len∧x.2<m.len∧x.1≠0:=by
 obtain ⟨i1,i2,i3⟩:=h.ok.irr x hx;obtain ⟨_,_,_,h4,_⟩:=(Q9 hm h.ok h.eq x.1 x.2).1 hx;have h5:=h4.len hm
 have h6:∀n,n<(pw x.1 n).len:=by
  intro n
  induction n with
  | zero=>show 0<(1:Fp p).len; rw [Pol.len_one]; omega
  | succ n ih=>
   have l:=Pol.len_mul (Mn i1.ne n) i1.ne;have:=i1.len;rw [pw]; omega
 have h7:=h6 x.2
 have h8:x.1.len≤(pw x.1 x.2).len:=by
  obtain ⟨k,hk⟩:∃k,x.2=k+1:=⟨x.2-1,by omega⟩
  rw [hk,pw];exact (show Dv x.1 (pw x.1 k*x.1) from ⟨pw x.1 k,Gq.mul_comm _ _⟩).len (Pol.mul_ne (Mn i1.ne k) i1.ne)
 exact ⟨i1.len,by omega,by omega,i1.ne⟩
end
end Pe
namespace Pe
open Go Gq
variable {T:Nat→Option Fn} {A:am}
theorem ad5 {p:Int} (h:isP p=true):IsP p:=⟨by unfold isP at h; simpa using h⟩
theorem Eb {p:Int} [h:IsP p]:isP p=true:=by unfold isP; exact decide_eq_true h.h
theorem A8 {p:Int} [IsP p] {a:Fp p}:wo p (pad (row a))=true:=by
 unfold wo;rw [df];intro x hx;obtain ⟨i,_,rfl⟩:=cn.1 hx;have:=(lc a).le IsP.pos i
 simpa using this.2
theorem Ac {p:Int} [IsP p] {l:List Int} (hb:m9 l) (hl:l.length=64) (h:wo p l=true):∃a:Fp p,a.len≤64∧l=pad (row a):=by
 have hc:Can p l:=fun x hx=>⟨(hb x hx).1,by
  unfold wo at h;rw [df] at h
  simpa using h x hx⟩
 refine ⟨gw p l,ju (Pol.len_le (a9b l)) (by omega),?_⟩
 rw [←ru hc]
 symm
 apply Vh hl;intro i hi;rw [ru hc,ja,lg,Q1 (hc.le IsP.pos i)]
inductive Arg1 (p:Int) (l:List Int):Prop
 | bad (h:a6t p [l]=1) (h2:isP p=true→wo p l=false)
 | good (ip:IsP p) (a:Fp p) (hl:a.len≤64) (e:l=pad (row a))
theorem ajx (p:Int) {l:List Int} (hb:m9 l) (hl:l.length=64):Arg1 p l:=by
 by_cases h1:isP p=true
 ·by_cases h2:wo p l=true
  ·have ip:=ad5 h1
   obtain ⟨a,g1,g2⟩:=Ac hb hl h2;exact .good ip a g1 g2
  ·refine .bad (by simp [a6t,h2]) fun _=>by simpa using h2
 ·exact .bad (by simp [a6t,h1]) fun h=>absurd h h1
theorem Au {p:Int} [IsP p] (x:Zp p):rep x=1↔x=1:=⟨fun h=>a1b (by rw [h,Ci]),fun h=>by rw [h,Ci]⟩
theorem O1 {p:Int} [IsP p] (a:Fp p):Monic a↔a.ld=1:=⟨fun h=>h.1,fun h=>⟨h,fun h0=>by
 rw [h0] at h;have:(0:Fp p).ld=0:=rfl;rw [this] at h;exact Fd.one_ne h.symm⟩⟩
theorem a6m {p:Int} {l:List Int} {f:Fp p} (h:∀i,cf l i=rep (f.c i)):sf l l.length=f.len:=by
 have e:=congrArg List.length (Ag h);rw [ca] at e;unfold trim at e;rw [b8] at e;have:=Im l l.length;omega
theorem a67 {O:am} {l:List Int} (hl:l.length=64):∀n:Nat,n≤64 →
 dn O 0 (.loop Z3e_L0) ⟨[(1,.ptr 0 []),(3,(.d (.int .i64 ((n:Int)-1))))],[.box false (D.arr 64 .leaf (aq .u8 l))]⟩ =
  some (.exit 0,⟨[(1,.ptr 0 []),(3,(.d (.int .i64 ((sf l n:Int)-1)))),(11,(.d (.bool false)))],[.box false (D.arr 64 .leaf (aq .u8 l))]⟩)
 | 0,_=>bu (by simp -implicitDefEqProofs [Z3e_L0,ap,sf])
 | n+1,hn=>by
  have hlt:n<l.length:=by omega
  have hn64:n<64:=by omega
  have hx:l[n]=cf l n:=(ft hlt).symm;have t0:(((n+1:Nat):Int)-1)=(n:Int):=by omega
  rw [t0];have w1:IntKind.i64.wrap ((n:Int)-1)=(n:Int)-1:=wt
  by_cases h0:cf l n=0
  ·have e:sf l (n+1)=sf l n:=by simp [sf,h0]
   rw [e];refine bn ?_ (a67 hl n (by omega))
   simp -implicitDefEqProofs [Z3e_L0,ap,hlt,hn64,hx,h0,w1]
  ·have e:sf l (n+1)=n+1:=by simp [sf,h0]
   rw [e,t0];refine bu ?_;simp -implicitDefEqProofs [Z3e_L0,ap,hlt,hn64,hx,h0]
def Y5 (O:am):Prop:=∀l:List Int,l.length=64→ask O F3e [(D.arr 64 .leaf (aq .u8 l))]=some (D.int .i64 ((sf l 64:Int)-1))
theorem adv (hT:T F3e=some Z3e):Y5 (den T A):=by
 intro l hl;have e:=a67 (O:=den T A) hl 64 (ba _);have e0:((64:Nat):Int)-1=63:=rfl;rw [e0] at e;refine c9 hT rfl ?_;simp -implicitDefEqProofs [Z3e,Z3e_B,e]
def jw (O:am):Prop:=∀(p:Int) [IsP p] (a:Fp p),a.len≤64→ask O F3e [(D.arr 64 .leaf (aq .u8 (pad (row a))))]=some (D.int .i64 ((a.len:Int)-1))
theorem af6 {O:am} (h:Y5 O):jw O:=fun p i a hl=>by
 have e:=a6m (f:=a) (l:=pad (row a)) fun i=>by rw [D6 (by rw [ca]; exact hl),ja]
 rw [di] at e;rw [h _ (di _),e]
def a1p (O:am):Prop:=∀n a b:Int,ask O F3h [(D.int .i64 n),(D.int .i64 a),(D.int .i64 b)]=some (D.bool (decide (a≤n∧n≤b)))
theorem ah3 (hT:T F3h=some Z3h):a1p (den T A):=by
 intro n a b;refine c9 hT rfl ?_
 by_cases h:a≤n <;> simp -implicitDefEqProofs [Z3h,Z3h_B,h]
def Jj (O:am):Prop:=∀p:Int,ask O F3q [(D.int .i64 p)]=some (D.bool (isP p))
theorem a54 (hT:T F3q=some Z3q):Jj (den T A):=by
 intro p;refine c9 hT rfl ?_
 by_cases h2:p=2
 ·simp -implicitDefEqProofs [Z3q,Z3q_B,h2,isP]
 ·by_cases h3:p=3
  ·simp -implicitDefEqProofs [Z3q,Z3q_B,h3,isP]
  ·by_cases h5:p=5
   ·simp -implicitDefEqProofs [Z3q,Z3q_B,h5,isP]
   ·simp -implicitDefEqProofs [Z3q,Z3q_B,h2,h3,h5,isP]
theorem acg {O:am} {p:Int} {l:List Int} (hb:m9 l) (hl:l.length=64):∀(m i:Nat),i+m=64 →
 dn O 0 (.loop Z3k_L0) ⟨[(0,(.d (.int .i64 p))),(3,.ptr 0 []),(5,(.d (.int .i64 i)))],[.box false (D.arr 64 .leaf (aq .u8 l))]⟩ =
  if (l.drop i).all (fun x=>decide (x<p)) then some (.exit 0,⟨[(0,(.d (.int .i64 p))),(3,.ptr 0 []),(5,(.d (.int .i64 64))),(7,(.d (.bool false)))],[.box false (D.arr 64 .leaf (aq .u8 l))]⟩) else some (.ret,⟨[(4,(.d (.bool false)))],[.hole]⟩)
 | 0,i,hi=>by
  obtain rfl:i=64:=by omega
  rw [show l.drop 64=[] from gt (by omega)]
  exact bu (by simp -implicitDefEqProofs [Z3k_L0,ap])
 | m+1,i,hi=>by
  have hlt:i<l.length:=by omega
  have hi64:i<64:=by omega
  have hi64':(i:Int)<64:=by omega
  have hx:l[i]=cf l i:=(ft hlt).symm;have hb':=hb _ (az hlt);rw [hx] at hb';have w1:IntKind.i64.wrap (cf l i)=cf l i:=wt;have w4:=wi i;rw [c8 hlt,List.all_cons,hx]
  by_cases h0:cf l i<p
  ·rw [decide_eq_true h0,Bool.true_and]
   refine bn ?_ (acg hb hl m (i+1) (by omega))
   have h1:¬ p≤cf l i:=by omega
   simp -implicitDefEqProofs [Z3k_L0,ap,hlt,hi64,hi64',hx,h1,w1,w4]
  ·rw [decide_eq_false h0,Bool.false_and]
   have h1:p≤cf l i:=by omega
   refine u5 ?_;simp -implicitDefEqProofs [Z3k_L0,ap,hlt,hi64,hi64',hx,h1,w1]
def a14 (O:am):Prop:=∀(p:Int) (l:List Int),m9 l→l.length=64→ask O F3k [(D.int .i64 p),(D.arr 64 .leaf (aq .u8 l))]=some (D.bool (wo p l&&isP p))
theorem ajh (hT:T F3k=some Z3k) (hp:Jj (den T A)):a14 (den T A):=by
 intro p l hb hl;have e:=acg (O:=den T A) (p:=p) hb hl 64 0 (by omega)
 have e0:((0:Nat):Int)=0:=rfl;rw [e0,dh,show (l.all fun x=>decide (x<p))=wo p l from rfl] at e
 have e1:=hp p;refine c9 hT rfl ?_
 by_cases h:wo p l=true
 ·rw [if_pos h] at e
  simp -implicitDefEqProofs [Z3k,Z3k_B,e,e1,h]
 ·rw [if_neg h] at e
  simp -implicitDefEqProofs [Z3k,Z3k_B,e,h]
open Classical in
def My (O:am):Prop:=∀(p:Int) [IsP p] (a:Fp p),a.len≤64→ask O F3m [(D.arr 64 .leaf (aq .u8 (pad (row a))))]=some (D.bool (decide (Monic a)))
open Classical in
theorem a8v (hT:T F3m=some Z3m) (hd:jw (den T A)):My (den T A):=by
 intro p i a hl;have e1:=hd p a hl;refine c9 hT rfl ?_
 by_cases h0:a=0
 ·subst h0
  have hm:¬ Monic (0:Fp p):=fun h=>h.2 rfl
  rw [decide_eq_false hm];rw [Pol.len_zero] at e1;simp -implicitDefEqProofs [Z3m,Z3m_B,e1]
 ·have hp:=Pol.len_pos h0
  have hd2:((a.len:Int)-1)=((a.len-1:Nat):Int):=by omega
  rw [hd2] at e1;have hx:(pad (row a))[a.len-1]? = some (rep a.ld):=by rw [u4 _ _ (by omega),ja]; rfl
  have h64:a.len-1<64:=by omega
  have e2:decide (rep a.ld=1)=decide (Monic a):=decide_eq_decide.2 (by rw [Au,O1])
  rw [←e2];generalize pad (row a)=L,a.len-1=n at *;simp -implicitDefEqProofs [Z3m,Z3m_B,e1,hx,h64]
end Pe
namespace Pe
open Go Gq
variable {T:Nat→Option Fn} {A:am}
def tc (O:am):Prop:=∀(p:Int) [IsP p] (x:Int),0<x→x<p→ask O F3i [(D.int .i64 p),.int .u8 x]=some (.int .u8 (inv p x))
theorem jr {F:Nat} {fn:Fn} (hT:T F=some fn) {ds:List D} {d:D} {n:Nat} (h:run (fun _ _ _=>none) n fn (ds.map .d) []=some (.d d,[],[])):ask (den T A) F ds=some d:=by
 have h2:=Q3 (A:=A) hT (n:=n) (vs:=ds.map .d) (bs:=[]) (ans:=(.d d,[],[])) (by
  obtain ⟨qs,h3,h4⟩:=Bp h;cases qs with
  | nil=>exact h4 _ (by intro q hq; simp at hq)
  | cons q qs=>exact absurd (h3 q (by simp)) (by simp))
 unfold ask;rw [h2];simp
theorem X6 (hT:T F3i=some Z3i):tc (den T A):=by
 intro p ip x h0 h1;rcases ip.h with rfl | rfl | rfl | rfl
 ·obtain rfl:x=1:=by omega
  exact jr hT (n:=10) (by kernel_rfl)
 ·have:x=1∨x=2:=by omega
  rcases this with rfl | rfl
  ·exact jr hT (n:=10) (by kernel_rfl)
  ·exact jr hT (n:=10) (by kernel_rfl)
 ·have:x=1∨x=2∨x=3∨x=4:=by omega
  rcases this with rfl | rfl | rfl | rfl
  ·exact jr hT (n:=10) (by kernel_rfl)
  ·exact jr hT (n:=10) (by kernel_rfl)
  ·exact jr hT (n:=10) (by kernel_rfl)
  ·exact jr hT (n:=10) (by kernel_rfl)
 ·have:x=1∨x=2∨x=3∨x=4∨x=5∨x=6:=by omega
  rcases this with rfl | rfl | rfl | rfl | rfl | rfl
  ·exact jr hT (n:=10) (by kernel_rfl)
  ·exact jr hT (n:=10) (by kernel_rfl)
  ·exact jr hT (n:=10) (by kernel_rfl)
  ·exact jr hT (n:=10) (by kernel_rfl)
  ·exact jr hT (n:=10) (by kernel_rfl)
  ·exact jr hT (n:=10) (by kernel_rfl)
theorem Rt {p:Int} [IsP p] {l:List Int} (h:Can p l) (hl:l.length=64):l=pad (row (gw p l)):=by
 rw [←ru h]
 symm
 apply Vh hl;intro i hi;rw [ru h,ja,lg,Q1 (h.le IsP.pos i)]
theorem yu {p:Int} [IsP p] (a:Fp p):Can p (pad (row a)):=fun x hx=>by
 obtain ⟨i,_,rfl⟩:=cn.1 hx;exact (lc a).le IsP.pos i
theorem v8 {p:Int} {a:Fp p} (hl:a.len≤64):gw p (pad (row a))=a:=Pol.ext fun i=>by rw [lg,D6 (by rw [ca]; exact hl),ja,mw]
theorem ro {p:Int} {a:Fp p} (hl:a.len≤64) (i:Nat):cf (pad (row a)) i=rep (a.c i):=by rw [D6 (by rw [ca]; exact hl),ja]
theorem a99 {O:am} {p k:Int} [IsP p] {a b z:List Int} (ha:Can p a) (hb:Can p b) (hbl:b.length=64) (hk:-1000000≤k∧k≤1000000):∀(m i:Nat) (cur:List Int),i+m=64→cur.length=64→(∀j,i≤j→cf cur j=cf a j) →
 dn O 0 (.loop Z3c_L0) ⟨[(0,(.d (.int .i64 p))),(3,(.d (.int .i64 k))),(5,.ptr 0 []),(6,.ptr 1 []),(8,.ptr 2 []),(9,(.d (.int .i64 i)))],[.box false (D.arr 64 .leaf (aq .u8 cur)),.box false (D.arr 64 .leaf (aq .u8 b)),.box false (D.arr 64 .leaf (aq .u8 z))]⟩ =
  some (.exit 0,⟨[(0,(.d (.int .i64 p))),(3,(.d (.int .i64 k))),(5,.ptr 0 []),(6,.ptr 1 []),(8,.ptr 2 []),(9,(.d (.int .i64 64))),(11,(.d (.bool false)))],[.box false (D.arr 64 .leaf (aq .u8 (upd (lin p a b k) m i cur))),.box false (D.arr 64 .leaf (aq .u8 b)),.box false (D.arr 64 .leaf (aq .u8 z))]⟩)
 | 0,i,cur,hi,hc,hs=>by
  obtain rfl:i=64:=by omega
  exact bu (by simp -implicitDefEqProofs [Z3c_L0,ap,upd])
 | m+1,i,cur,hi,hc,hs=>by
  have hp:=IsP.pos (p:=p);have hp7:=IsP.le (p:=p);have hp0:p≠0:=by omega
  have hlt:i<cur.length:=by omega
  have hlb:i<b.length:=by omega
  have hi64:i<64:=by omega
  have hi64':(i:Int)<64:=by omega
  have hx:cur[i]=cf a i:=by rw [←ft hlt]; exact hs i (ba i)
  have hy:b[i]=cf b i:=(ft hlb).symm;have ga:=ha.le hp i;have gb:=hb.le hp i;have gm:=lw (x:=k) (y:=cf b i) (b:=1000000) (c:=10) hk (by omega) (by omega)
  have w1:IntKind.i64.wrap (cf a i)=cf a i:=wt;have w2:IntKind.i64.wrap (cf b i)=cf b i:=wt;have w3:IntKind.i64.wrap (k*cf b i)=k*cf b i:=wt;have w5:IntKind.i64.wrap (cf a i+k*cf b i)=cf a i+k*cf b i:=wt;have hin:=G4 (n:=cf a i+k*cf b i) hp;have w6:IntKind.i64.wrap ((cf a i+k*cf b i).tmod p+p)=(cf a i+k*cf b i).tmod p+p:=wt;have w7:((cf a i+k*cf b i).tmod p+p).tmod p=lin p a b k i:=Ce hp;have hlin:0≤lin p a b k i∧lin p a b k i<p:=⟨eo _ (by omega),du _ hp⟩
  have w8':IntKind.u8.wrap (lin p a b k i)=lin p a b k i:=w8 (by omega)
  have w4:=wi i;refine bn ?_ (a99 ha hb hbl hk m (i+1) (cur.set i (lin p a b k i)) (by omega) (by simpa using hc) (fun j hj=>by rw [xr,if_neg (by omega)]; exact hs j (by omega)))
  simp -implicitDefEqProofs [Z3c_L0,ap,hlt,hlb,hi64,hi64',hx,hy,w1,w2,w3,w5,w6,w7,w8',w4,hp0]
def m8 (O:am):Prop:=∀(p:Int) [IsP p] (k:Int) (a b:Fp p),-1000000≤k→k≤1000000→a.len≤64→b.len≤64 →
 ask O F3c [(D.int .i64 p),(D.arr 64 .leaf (aq .u8 (pad (row a)))),(D.arr 64 .leaf (aq .u8 (pad (row b)))),(D.int .i64 k)]=some (D.arr 64 .leaf (aq .u8 (pad (row (a+Pol.C (zp p k)*b)))))
theorem aff (hT:T F3c=some Z3c):m8 (den T A):=by
 intro p i k a b hk hk' hal hbl;have e:=a99 (O:=den T A) (z:=pad []) (yu a) (yu b) (di _) ⟨hk,hk'⟩ 64 0 (pad (row a)) (by omega) (di _) (fun _ _=>rfl)
 have e0:((0:Nat):Int)=0:=rfl;rw [e0,Jg _ _ _ (di _)] at e
 have e2:(List.range 64).map (lin p (pad (row a)) (pad (row b)) k)=pad (row (a+Pol.C (zp p k)*b)):=by
  unfold pad
  congr 1
  funext j
  rw [ja,Pol.c_add,Pol.c_Cmul];show (cf (pad (row a)) j+k*cf (pad (row b)) j)%p=_;rw [ro hal,ro hbl,←M8,Wz,Dl,mw,mw]
 rw [e2] at e;refine c9 hT rfl ?_;generalize pad (row (a+Pol.C (zp p k)*b))=R at *;simp -implicitDefEqProofs [Z3c,Z3c_B,e]
def Ma (O:am):Prop:=∀(p:Int) [IsP p],ask O F3o []=some (D.arr 64 .leaf (aq .u8 (pad (row (1:Fp p)))))
theorem afm (hT:T F3o=some Z3o):Ma (den T A):=by
 intro p i;have e:(pad []).set 0 1=pad [1]:=by decide +kernel
 have h0:(0:Nat)<(pad []).length:=by rw [di]; omega
 rw [yq];refine c9 hT rfl ?_;simp -implicitDefEqProofs [Z3o,Z3o_B,e,h0]
def Rh (p q:Int) (b:List Int) (i:Nat) (m:Nat) (cur:List Int):List Int:=if q=0 then cur else ou p q b i m 0 cur
theorem Pk {p q:Int} [IsP p] {b cur:List Int} {i m:Nat} (hc:Can p cur) (hl:i+m≤cur.length):Rh p q b i m cur=ou p q b i m 0 cur:=by
 unfold Rh
 split
 ·rename_i h
  subst h;apply oc
  ·rw [ol]
  ·intro j h1 h2
   rw [←ft h1,←ft h2,Ar _ _ _ _ _ _ _ _ (by omega)]
   have:=hc.le IsP.pos j
   split
   ·rw [Int.zero_mul,Int.sub_zero,n9 this.1 this.2]
   ·rfl
 ·rfl
theorem a1m {O:am} {p q by_:Int} [IsP p] {b quo z z':List Int} {i bl:Nat} (hq:0<q∧q<p) (hb:Can p b) (hbl:b.length=64) (hn:i+bl≤64) (h0:0<bl):∀(m k:Nat) (cur:List Int),k+m=bl→cur.length=64→Can p cur →
 dn O 0 (.loop Z3f_L0) ⟨[(0,(.d (.int .i64 p))),(4,.ptr 0 []),(5,.ptr 1 []),(6,.ptr 2 []),(7,.ptr 3 []),(8,.ptr 4 []),(9,(.d (.int .i64 ((bl:Int)-1)))),(10,(.d (.int .i64 by_))),(11,(.d (.int .i64 ((i:Int)+bl-1)))),(12,(.d (.int .i64 q))),(13,(.d (.int .i64 k)))],[.box false (D.arr 64 .leaf (aq .u8 cur)),.box false (D.arr 64 .leaf (aq .u8 b)),.box false (D.arr 64 .leaf (aq .u8 z)),.box false (D.arr 64 .leaf (aq .u8 z')),.box false (D.arr 64 .leaf (aq .u8 quo))]⟩ =
  some (.exit 2,⟨[(0,(.d (.int .i64 p))),(4,.ptr 0 []),(5,.ptr 1 []),(6,.ptr 2 []),(7,.ptr 3 []),(8,.ptr 4 []),(9,(.d (.int .i64 ((bl:Int)-1)))),(10,(.d (.int .i64 by_))),(11,(.d (.int .i64 ((i:Int)+bl-1)))),(12,(.d (.int .i64 q))),(13,(.d (.int .i64 bl))),(50,(.d (.bool false)))],[.box false (D.arr 64 .leaf (aq .u8 (ou p q b i m k cur))),.box false (D.arr 64 .leaf (aq .u8 b)),.box false (D.arr 64 .leaf (aq .u8 z)),.box false (D.arr 64 .leaf (aq .u8 z')),.box false (D.arr 64 .leaf (aq .u8 quo))]⟩)
 | 0,k,cur,hk,hc,hcan=>by
  obtain rfl:k=bl:=by omega
  have h1:¬ (k:Int)≤(k:Int)-1:=by omega
  exact bu (by simp -implicitDefEqProofs [Z3f_L0,ap,ou,h1])
 | m+1,k,cur,hk,hc,hcan=>by
  have hp:=IsP.pos (p:=p);have hp7:=IsP.le (p:=p);have hp0:p≠0:=by omega
  have hq0:q≠0:=by omega
  have h1:(k:Int)≤(bl:Int)-1:=by omega
  have w1:IntKind.i64.wrap ((i:Int)+bl-1-(bl-1))=i:=wt;have w2:IntKind.i64.wrap ((i:Int)+k)=((i+k:Nat):Int):=wt;have hik:i+k<64:=by omega
  have hikc:i+k<cur.length:=by omega
  have hkb:k<b.length:=by omega
  have hk64:k<64:=by omega
  have hx:cur[i+k]=cf cur (i+k):=(ft hikc).symm;have hy:b[k]=cf b k:=(ft hkb).symm;have gc:=hcan.le hp (i+k);have gb:=hb.le hp k;have gm:=lw (x:=q) (y:=cf b k) (b:=10) (c:=10) (by omega) (by omega) (by omega)
  have w3:IntKind.i64.wrap (cf cur (i+k))=cf cur (i+k):=wt;have w5:IntKind.i64.wrap (cf b k)=cf b k:=wt;have w6:IntKind.i64.wrap (q*cf b k)=q*cf b k:=wt;have w7:IntKind.i64.wrap (cf cur (i+k)-q*cf b k)=cf cur (i+k)-q*cf b k:=wt;have hin:=G4 (n:=cf cur (i+k)-q*cf b k) hp;have w9:IntKind.i64.wrap ((cf cur (i+k)-q*cf b k).tmod p+p)=(cf cur (i+k)-q*cf b k).tmod p+p:=wt;have w10:((cf cur (i+k)-q*cf b k).tmod p+p).tmod p=(cf cur (i+k)-q*cf b k)%p:=Ce hp;have hlin:0≤(cf cur (i+k)-q*cf b k)%p∧(cf cur (i+k)-q*cf b k)%p<p:=⟨eo _ (by omega),du _ hp⟩
  have w11:IntKind.u8.wrap ((cf cur (i+k)-q*cf b k)%p)=(cf cur (i+k)-q*cf b k)%p:=w8 (by omega)
  have w4:=wi k;have t1:(0:Int)≤(i:Int)+k:=by omega
  have t2:((i:Int)+k).toNat=i+k:=by omega
  have hcan':Can p (cur.set (i+k) ((cf cur (i+k)-q*cf b k)%p)):=by
   intro x hx;rcases ce hx with h | h
   ·exact hcan x h
   ·subst h; exact hlin
  refine bn ?_ (a1m hq hb hbl hn h0 m (k+1) (cur.set (i+k) ((cf cur (i+k)-q*cf b k)%p)) (by omega) (by simpa using hc) hcan')
  simp -implicitDefEqProofs [Z3f_L0,ap,h1,hq0,w1,w2,hik,hikc,hkb,hk64,hx,hy,w3,w5,w6,w7,w9,w10,w11,w4,hp0,t1,t2]
theorem Yu {O:am} {p by_:Int} [IsP p] {b:List Int} {bl:Nat} {z z':List Int} (hby:0≤by_∧by_<p) (hb:Can p b) (hbl:b.length=64) (h0:0<bl):∀(c:Nat) (cur quo:List Int),c+bl≤65→cur.length=64→quo.length=64→Can p cur →
 dn O 0 (.loop Z3f_L1) ⟨[(0,(.d (.int .i64 p))),(4,.ptr 0 []),(5,.ptr 1 []),(6,.ptr 2 []),(7,.ptr 3 []),(8,.ptr 4 []),(9,(.d (.int .i64 ((bl:Int)-1)))),(10,(.d (.int .i64 by_))),(11,(.d (.int .i64 ((c:Int)+bl-2))))],[.box false (D.arr 64 .leaf (aq .u8 cur)),.box false (D.arr 64 .leaf (aq .u8 b)),.box false (D.arr 64 .leaf (aq .u8 z)),.box false (D.arr 64 .leaf (aq .u8 z')),.box false (D.arr 64 .leaf (aq .u8 quo))]⟩ =
  some (.exit 0,⟨[(0,(.d (.int .i64 p))),(4,.ptr 0 []),(5,.ptr 1 []),(6,.ptr 2 []),(7,.ptr 3 []),(8,.ptr 4 []),(9,(.d (.int .i64 ((bl:Int)-1)))),(10,(.d (.int .i64 by_))),(11,(.d (.int .i64 ((bl:Int)-2)))),(27,(.d (.bool false)))],[.box false (D.arr 64 .leaf (aq .u8 ((dv p by_ (b.take bl) c (cur,quo)).1))),.box false (D.arr 64 .leaf (aq .u8 b)),.box false (D.arr 64 .leaf (aq .u8 z)),.box false (D.arr 64 .leaf (aq .u8 z')),.box false (D.arr 64 .leaf (aq .u8 ((dv p by_ (b.take bl) c (cur,quo)).2)))]⟩)
 | 0,cur,quo,_,hc,hqo,hcan=>by
  have h1:¬ (bl:Int)-1≤(bl:Int)-2:=by omega
  have t0:((0:Nat):Int)+bl-2=(bl:Int)-2:=by omega
  rw [t0];exact bu (by simp -implicitDefEqProofs [Z3f_L1,ap,h1,dv])
 | c+1,cur,quo,hcb,hc,hqo,hcan=>by
  have hp:=IsP.pos (p:=p);have hp7:=IsP.le (p:=p);have hp0:p≠0:=by omega
  have hbt:(b.take bl).length=bl:=by rw [b8]; omega
  have t0:((c+1:Nat):Int)+bl-2=(c:Int)+bl-1:=by omega
  rw [t0];have h1:(bl:Int)-1≤(c:Int)+bl-1:=by omega
  have hi64:c+bl-1<64:=by omega
  have hic:c+bl-1<cur.length:=by omega
  have t1:(0:Int)≤(c:Int)+bl-1:=by omega
  have t2:((c:Int)+bl-1).toNat=c+bl-1:=by omega
  have t3:(1:Int)≤(c:Int)+bl:=by omega
  have hx:cur[c+bl-1]=cf cur (c+bl-1):=(ft hic).symm;have gc:=hcan.le hp (c+bl-1);have gm:=lw (x:=cf cur (c+bl-1)) (y:=by_) (b:=10) (c:=10) (by omega) (by omega) (by omega)
  have w1:IntKind.i64.wrap (cf cur (c+bl-1))=cf cur (c+bl-1):=wt;have w2:IntKind.i64.wrap (cf cur (c+bl-1)*by_)=cf cur (c+bl-1)*by_:=wt;have w3:(cf cur (c+bl-1)*by_).tmod p=cf cur (c+bl-1)*by_%p:=d9 (gp gc.1 hby.1);have hq:0≤cf cur (c+bl-1)*by_%p∧cf cur (c+bl-1)*by_%p<p:=⟨eo _ hp0,du _ hp⟩;have w4:IntKind.i64.wrap ((c:Int)+bl-1-(bl-1))=c:=wt;have w5:IntKind.u8.wrap (cf cur (c+bl-1)*by_%p)=cf cur (c+bl-1)*by_%p:=w8 (by omega)
  have hc64:c<64:=by omega
  have hcq:c<quo.length:=by omega
  have w6:IntKind.i64.wrap ((c:Int)+bl-1-1)=(c:Int)+bl-2:=wt
  have ed:dv p by_ (b.take bl) (c+1) (cur,quo)=dv p by_ (b.take bl) c (Rh p (cf cur (c+bl-1)*by_%p) b c bl cur,quo.set c (cf cur (c+bl-1)*by_%p)):=by
   rw [dv,hbt,Pk hcan (by omega)]
   have es:∀(m k:Nat) (x:List Int),k+m≤bl→ou p (cf cur (c+bl-1)*by_%p) (b.take bl) c m k x=ou p (cf cur (c+bl-1)*by_%p) b c m k x:=by
    intro m
    induction m with
    | zero=>intro k x _; rfl
    | succ m ih=>
     intro k x hk;have e:cf (b.take bl) k=cf b k:=by rw [ft (by omega),ft (by omega),ki]
     rw [ou,ou,e,ih _ _ (by omega)]
   rw [es bl 0 cur (by omega)]
  rw [ed];have hcan':Can p (Rh p (cf cur (c+bl-1)*by_%p) b c bl cur):=by rw [Pk hcan (by omega)]; exact Gx hp (by omega) hcan
  have hlen':(Rh p (cf cur (c+bl-1)*by_%p) b c bl cur).length=64:=by rw [Pk hcan (by omega),ol,hc]
  have ih:=Yu (O:=O) (z:=z) (z':=z') hby hb hbl h0 c (Rh p (cf cur (c+bl-1)*by_%p) b c bl cur) (quo.set c (cf cur (c+bl-1)*by_%p)) (by omega) hlen' (by simpa using hqo) hcan'
  refine bn ?_ ih;generalize cf cur (c+bl-1)*by_%p=q at *
  have l0:∃k:Int,dn O 0 (.loop Z3f_L0) ⟨[(0,(.d (.int .i64 p))),(4,.ptr 0 []),(5,.ptr 1 []),(6,.ptr 2 []),(7,.ptr 3 []),(8,.ptr 4 []),(9,(.d (.int .i64 ((bl:Int)-1)))),(10,(.d (.int .i64 by_))),(11,(.d (.int .i64 ((c:Int)+bl-1)))),(12,(.d (.int .i64 q))),(13,(.d (.int .i64 0)))],[.box false (D.arr 64 .leaf (aq .u8 cur)),.box false (D.arr 64 .leaf (aq .u8 b)),.box false (D.arr 64 .leaf (aq .u8 z)),.box false (D.arr 64 .leaf (aq .u8 z')),.box false (D.arr 64 .leaf (aq .u8 (quo.set c q)))]⟩ =
   some (.exit 2,⟨[(0,(.d (.int .i64 p))),(4,.ptr 0 []),(5,.ptr 1 []),(6,.ptr 2 []),(7,.ptr 3 []),(8,.ptr 4 []),(9,(.d (.int .i64 ((bl:Int)-1)))),(10,(.d (.int .i64 by_))),(11,(.d (.int .i64 ((c:Int)+bl-1)))),(12,(.d (.int .i64 q))),(13,(.d (.int .i64 k))),(50,(.d (.bool false)))],[.box false (D.arr 64 .leaf (aq .u8 (Rh p q b c bl cur))),.box false (D.arr 64 .leaf (aq .u8 b)),.box false (D.arr 64 .leaf (aq .u8 z)),.box false (D.arr 64 .leaf (aq .u8 z')),.box false (D.arr 64 .leaf (aq .u8 (quo.set c q)))]⟩):=by
   by_cases hq0:q=0
   ·subst hq0
    refine ⟨0,?_⟩;have e:Rh p 0 b c bl cur=cur:=if_pos rfl;rw [e];have h2:(1:Int)≤(bl:Int):=by omega
    exact bu (by simp -implicitDefEqProofs [Z3f_L0,ap,h2])
   ·refine ⟨bl,?_⟩
    have e:Rh p q b c bl cur=ou p q b c bl 0 cur:=if_neg hq0;rw [e];have:=a1m (O:=O) (by_:=by_) (quo:=quo.set c q) (z:=z) (z':=z') (i:=c) (bl:=bl) ⟨by omega,hq.2⟩ hb hbl (by omega) h0 bl 0 cur (b9 _) hc hcan
    exact this
  obtain ⟨k,l0⟩:=l0;simp -implicitDefEqProofs [Z3f_L1,ap,h1,hi64,hic,t2,t3,hx,w1,w2,w3,w4,w5,w6,hc64,hcq,hp0,l0]
def th (O:am):Prop:=∀(p:Int) [IsP p] (a b:Fp p),b≠0→a.len≤64→b.len≤64 →
 ask O F3f [(D.int .i64 p),(D.arr 64 .leaf (aq .u8 (pad (row a)))),(D.arr 64 .leaf (aq .u8 (pad (row b))))]=some (.tup [(D.arr 64 .leaf (aq .u8 (pad (row (a/b))))),(D.arr 64 .leaf (aq .u8 (pad (row (a%b)))))])
theorem a4g {p:Int} {b:Fp p} (h:b.len≤64):(pad (row b)).take b.len=row b:=by
 apply oc
 ·rw [b8,di,ca]; omega
 ·intro i h1 h2
  rw [ki,←ft,ro h,←ja,ft h2]
theorem a2f (hT:T F3f=some Z3f) (hd:jw (den T A)) (hinv:tc (den T A)):th (den T A):=by
 intro p i a b hb hal hbl;have hp:=IsP.ge (p:=p);have hp7:=IsP.le (p:=p);have hb0:=Pol.len_pos hb;have e1:=hd p b hbl;have e2:=hd p a hal;have hr:=o7 b.ld;have hld:rep b.ld≠0:=fun h0=>Pol.ld_ne hb (io.1 h0)
 have e3:=hinv p (rep b.ld) (by omega) hr.2
 have hin:=zq p (rep b.ld);have w1:IntKind.i64.wrap (inv p (rep b.ld))=inv p (rep b.ld):=wt;have hbx:(pad (row b))[b.len-1]? = some (rep b.ld):=by rw [u4 _ _ (by omega),ja]; rfl
 have hbx':((b.len:Int)-1).toNat=b.len-1:=by omega
 have hbx2:(1:Int)≤(b.len:Int):=by omega
 have hbx3:b.len-1<64:=by omega
 have hz:∀j,cf (pad []) j=0:=fun j=>by rw [D6 (by simp),rf (by simp)]
 have hcanz:Can p (pad []):=fun x hx=>by
  obtain ⟨j,_,rfl⟩:=cn.1 hx;rw [rf (by simp)]; omega
 have sp:=Pp b hb (a.len+1-b.len) (pad (row a)) (pad []) (by rw [di]; omega) (by rw [di]; omega) (yu a) (fun j _=>hz j) (fun j hj=>by
  rw [ro hal,a.lt_len j (by omega),sj]) hcanz
 have hl1:∀(B:List Int) (c:Nat) (x y:List Int),(dv p (inv p (rep b.ld)) B c (x,y)).1.length=x.length∧(dv p (inv p (rep b.ld)) B c (x,y)).2.length=y.length:=by
  intro B c
  induction c with
  | zero=>exact fun x y=>⟨rfl,rfl⟩
  | succ c ih=>
   intro x y;rw [dv];obtain ⟨i1,i2⟩:=ih (ou p (cf x (c+B.length-1)*inv p (rep b.ld)%p) B c B.length 0 x) (y.set c (cf x (c+B.length-1)*inv p (rep b.ld)%p));exact ⟨by rw [i1,ol],by rw [i2,bx]⟩
 obtain ⟨g1,g2⟩:=hl1 (row b) (a.len+1-b.len) (pad (row a)) (pad []);rw [di] at g1 g2;have l1:=Yu (O:=den T A) (b:=pad (row b)) (bl:=b.len) (z:=pad []) (z':=pad []) hin (yu b) (di _) hb0 (a.len+1-b.len) (pad (row a)) (pad []) (by omega) (di _) (di _) (yu a)
 rw [a4g hbl] at l1;generalize dv p (inv p (rep b.ld)) (row b) (a.len+1-b.len) (pad (row a),pad [])=r at *;obtain ⟨s1,s2,s3,s4⟩:=sp;have z0:gw p (pad [])=0:=Pol.ext fun j=>by rw [lg,hz]; rfl
 rw [z0,Gq.zero_mul,Gq.add_zero,v8 hal,Gq.add_comm] at s1
 have hrl:(gw p r.1).len<b.len:=by
  have:(gw p r.1).lt (b.len-1):=fun i hi=>by rw [lg,s2 i hi]; rfl
  have:=Pol.len_le this;omega
 obtain ⟨h1,h2⟩:=Pol.div_mod_eq s1.symm hrl;rw [h1,h2,←Rt s3 g1,←Rt s4 g2]
 have lz:∃n:Int,dn (den T A) 0 (.loop Z3f_L1) ⟨[(0,(.d (.int .i64 p))),(4,.ptr 0 []),(5,.ptr 1 []),(6,.ptr 2 []),(7,.ptr 3 []),(8,.ptr 4 []),(9,(.d (.int .i64 ((b.len:Int)-1)))),(10,(.d (.int .i64 (inv p (rep b.ld))))),(11,(.d (.int .i64 ((a.len:Int)-1))))],[.box false (D.arr 64 .leaf (aq .u8 (pad (row a)))),.box false (D.arr 64 .leaf (aq .u8 (pad (row b)))),.box false (D.arr 64 .leaf (aq .u8 (pad []))),.box false (D.arr 64 .leaf (aq .u8 (pad []))),.box false (D.arr 64 .leaf (aq .u8 (pad [])))]⟩ =
  some (.exit 0,⟨[(0,(.d (.int .i64 p))),(4,.ptr 0 []),(5,.ptr 1 []),(6,.ptr 2 []),(7,.ptr 3 []),(8,.ptr 4 []),(9,(.d (.int .i64 ((b.len:Int)-1)))),(10,(.d (.int .i64 (inv p (rep b.ld))))),(11,(.d (.int .i64 n))),(27,(.d (.bool false)))],[.box false (D.arr 64 .leaf (aq .u8 r.1)),.box false (D.arr 64 .leaf (aq .u8 (pad (row b)))),.box false (D.arr 64 .leaf (aq .u8 (pad []))),.box false (D.arr 64 .leaf (aq .u8 (pad []))),.box false (D.arr 64 .leaf (aq .u8 r.2))]⟩):=by
  by_cases hlt:b.len≤a.len
  ·rw [show ((a.len+1-b.len:Nat):Int)+b.len-2=(a.len:Int)-1 by omega] at l1
   exact ⟨_,l1⟩
  ·rw [show a.len+1-b.len=0 by omega] at l1
   have h3:¬ (b.len:Int)-1≤(b.len:Int)-2:=by omega
   have h4:¬ (b.len:Int)-1≤(a.len:Int)-1:=by omega
   have st:=bu (O:=den T A) (np:=0) (c:=Z3f_L1) (s:=⟨[(0,(.d (.int .i64 p))),(4,.ptr 0 []),(5,.ptr 1 []),(6,.ptr 2 []),(7,.ptr 3 []),(8,.ptr 4 []),(9,(.d (.int .i64 ((b.len:Int)-1)))),(10,(.d (.int .i64 (inv p (rep b.ld))))),(11,(.d (.int .i64 (((0:Nat):Int)+b.len-2))))],[.box false (D.arr 64 .leaf (aq .u8 (pad (row a)))),.box false (D.arr 64 .leaf (aq .u8 (pad (row b)))),.box false (D.arr 64 .leaf (aq .u8 (pad []))),.box false (D.arr 64 .leaf (aq .u8 (pad []))),.box false (D.arr 64 .leaf (aq .u8 (pad [])))]⟩) (s1:=⟨[(0,(.d (.int .i64 p))),(4,.ptr 0 []),(5,.ptr 1 []),(6,.ptr 2 []),(7,.ptr 3 []),(8,.ptr 4 []),(9,(.d (.int .i64 ((b.len:Int)-1)))),(10,(.d (.int .i64 (inv p (rep b.ld))))),(11,(.d (.int .i64 (((0:Nat):Int)+b.len-2)))),(27,(.d (.bool false)))],[.box false (D.arr 64 .leaf (aq .u8 (pad (row a)))),.box false (D.arr 64 .leaf (aq .u8 (pad (row b)))),.box false (D.arr 64 .leaf (aq .u8 (pad []))),.box false (D.arr 64 .leaf (aq .u8 (pad []))),.box false (D.arr 64 .leaf (aq .u8 (pad [])))]⟩) (id:=0) (by
    have h3':¬ (b.len:Int)-1≤((0:Nat):Int)+b.len-2:=by omega
    simp -implicitDefEqProofs only [Int.natCast_zero,Int.zero_add] at h3' ⊢;simp -implicitDefEqProofs [Z3f_L1,ap,h3'])
   rw [st] at l1;have l2:=au l1;injection l2 with _ l3
   injection l3 with _ l4
   injection l4 with l5 l6
   injection l6 with _ l7
   injection l7 with _ l8
   injection l8 with _ l9
   injection l9 with l10 _
   have e5:(D.arr 64 .leaf (aq .u8 (pad (row a))))=(D.arr 64 .leaf (aq .u8 r.1)):=by injection l5
   have e6:(D.arr 64 .leaf (aq .u8 (pad [])))=(D.arr 64 .leaf (aq .u8 r.2)):=by injection l10
   rw [←e5,←e6];exact ⟨(a.len:Int)-1,bu (by simp -implicitDefEqProofs [Z3f_L1,ap,h4])⟩
 obtain ⟨n,lz⟩:=lz;refine c9 hT rfl ?_;obtain ⟨r1,r2⟩:=r;simp only at lz ⊢;generalize pad (row b)=PB,pad (row a)=PA at *;simp -implicitDefEqProofs [Z3f,Z3f_B,e1,e2,e3,w1,hbx,hbx',hbx2,hbx3,lz]
def Da (O:am):Prop:=∀(p:Int) [IsP p] (a b:Fp p),b≠0→a.len≤64→b.len≤64 →
 ask O F3l [(D.int .i64 p),(D.arr 64 .leaf (aq .u8 (pad (row a)))),(D.arr 64 .leaf (aq .u8 (pad (row b))))]=some (D.arr 64 .leaf (aq .u8 (pad (row (a%b)))))
theorem aei (hT:T F3l=some Z3l) (hd:th (den T A)):Da (den T A):=by
 intro p i a b hb h1 h2;have e:=hd p a b hb h1 h2;refine c9 hT rfl ?_;simp -implicitDefEqProofs [Z3l,Z3l_B,e]
theorem a72 (f:Nat→Int) (m i:Nat) (l:List Int) (j:Nat):cf (upd f m i l) j=if i≤j∧j<i+m∧j<l.length then f j else cf l j:=by
 unfold cf;rw [List.getD_eq_getElem?_getD,List.getD_eq_getElem?_getD,Jc]
 split <;> rfl
theorem a5i {O:am} {p:Int} {a:List Int} {mm z:List Int} {n:Nat} {top:Int} (hal:a.length=64) (hn:n<64):∀(k i:Nat) (cur:List Int),i+k=n→1≤i→cur.length=64 →
 dn O 0 (.loop Z3t_L0) ⟨[(0,(.d (.int .i64 p))),(4,.ptr 0 []),(5,.ptr 1 []),(6,.ptr 2 []),(7,(.d (.int .i64 n))),(8,(.d (.int .i64 top))),(9,.ptr 3 []),(10,(.d (.int .i64 i)))],[.box false (D.arr 64 .leaf (aq .u8 a)),.box false (D.arr 64 .leaf (aq .u8 mm)),.box false (D.arr 64 .leaf (aq .u8 z)),.box false (D.arr 64 .leaf (aq .u8 cur))]⟩ =
  some (.exit 0,⟨[(0,(.d (.int .i64 p))),(4,.ptr 0 []),(5,.ptr 1 []),(6,.ptr 2 []),(7,(.d (.int .i64 n))),(8,(.d (.int .i64 top))),(9,.ptr 3 []),(10,(.d (.int .i64 n))),(26,(.d (.bool false)))],[.box false (D.arr 64 .leaf (aq .u8 a)),.box false (D.arr 64 .leaf (aq .u8 mm)),.box false (D.arr 64 .leaf (aq .u8 z)),.box false (D.arr 64 .leaf (aq .u8 (upd (fun j=>cf a (j-1)) k i cur)))]⟩)
 | 0,i,cur,hi,h1,hc=>by
  obtain rfl:i=n:=by omega
  exact bu (by simp -implicitDefEqProofs [Z3t_L0,ap,upd])
 | k+1,i,cur,hi,h1,hc=>by
  have hlt:i<n:=by omega
  have hi1:i-1<a.length:=by omega
  have hi2:i-1<64:=by omega
  have hi64:i<64:=by omega
  have hic:i<cur.length:=by omega
  have hx:a[i-1]=cf a (i-1):=(ft hi1).symm;have w1:IntKind.i64.wrap ((i:Int)-1)=((i-1:Nat):Int):=wt;have w4:=wi i;refine bn ?_ (a5i hal hn k (i+1) (cur.set i (cf a (i-1))) (by omega) (by omega) (by simpa using hc))
  simp -implicitDefEqProofs [Z3t_L0,ap,hlt,hi1,hi2,hi64,hic,hx,w1,w4]
theorem a8p {O:am} {p q:Int} [IsP p] {b z out:List Int} {n:Nat} {hol:Blk} (hh:hol=.hole) (hb:Can p b) (hbl:b.length=64) (hq:0≤q∧q<p) (hn:n<64) (ho:Can p out):∀(k i:Nat) (cur:List Int),i+k=n→cur.length=64→(∀j,i≤j→cf cur j=cf out j) →
 dn O 0 (.loop Z3t_L1) ⟨[(0,(.d (.int .i64 p))),(5,.ptr 1 []),(6,.ptr 2 []),(7,(.d (.int .i64 n))),(9,.ptr 3 []),(11,(.d (.int .i64 q))),(12,(.d (.int .i64 i)))],[hol,.box false (D.arr 64 .leaf (aq .u8 b)),.box false (D.arr 64 .leaf (aq .u8 z)),.box false (D.arr 64 .leaf (aq .u8 cur))]⟩ =
  some (.exit 2,⟨[(0,(.d (.int .i64 p))),(5,.ptr 1 []),(6,.ptr 2 []),(7,(.d (.int .i64 n))),(9,.ptr 3 []),(11,(.d (.int .i64 q))),(12,(.d (.int .i64 n))),(47,(.d (.bool false)))],[hol,.box false (D.arr 64 .leaf (aq .u8 b)),.box false (D.arr 64 .leaf (aq .u8 z)),.box false (D.arr 64 .leaf (aq .u8 (upd (fun j=>(cf out j-q*cf b j)%p) k i cur)))]⟩)
 | 0,i,cur,hi,hc,hs=>by
  subst hh;obtain rfl:i=n:=by omega
  exact bu (by simp -implicitDefEqProofs [Z3t_L1,ap,upd])
 | k+1,i,cur,hi,hc,hs=>by
  have hp:=IsP.pos (p:=p);have hp7:=IsP.le (p:=p);have hp0:p≠0:=by omega
  have hlt:i<n:=by omega
  have hi64:i<64:=by omega
  have hic:i<cur.length:=by omega
  have hib:i<b.length:=by omega
  have hx:cur[i]=cf out i:=by rw [←ft hic]; exact hs i (ba i)
  have hy:b[i]=cf b i:=(ft hib).symm;have gc:=ho.le hp i;have gb:=hb.le hp i;have gm:=lw (x:=q) (y:=cf b i) (b:=10) (c:=10) (by omega) (by omega) (by omega)
  have w3:IntKind.i64.wrap (cf out i)=cf out i:=wt;have w5:IntKind.i64.wrap (cf b i)=cf b i:=wt;have w6:IntKind.i64.wrap (q*cf b i)=q*cf b i:=wt;have w7:IntKind.i64.wrap (cf out i-q*cf b i)=cf out i-q*cf b i:=wt;have hin:=G4 (n:=cf out i-q*cf b i) hp;have w9:IntKind.i64.wrap ((cf out i-q*cf b i).tmod p+p)=(cf out i-q*cf b i).tmod p+p:=wt;have w10:((cf out i-q*cf b i).tmod p+p).tmod p=(cf out i-q*cf b i)%p:=Ce hp;have hlin:0≤(cf out i-q*cf b i)%p∧(cf out i-q*cf b i)%p<p:=⟨eo _ (by omega),du _ hp⟩
  have w11:IntKind.u8.wrap ((cf out i-q*cf b i)%p)=(cf out i-q*cf b i)%p:=w8 (by omega)
  have w4:=wi i;refine bn ?_ (a8p hh hb hbl hq hn ho k (i+1) (cur.set i ((cf out i-q*cf b i)%p)) (by omega) (by simpa using hc) (fun j hj=>by rw [xr,if_neg (by omega)]; exact hs j (by omega)))
  subst hh;simp -implicitDefEqProofs [Z3t_L1,ap,hlt,hi64,hic,hib,hx,hy,w3,w5,w6,w7,w9,w10,w11,w4,hp0]
def Yl (O:am):Prop:=∀(p:Int) [IsP p] (a m:Fp p),m≠0→a.len<m.len→m.len≤64 →
 ask O F3t [(D.int .i64 p),(D.arr 64 .leaf (aq .u8 (pad (row a)))),(D.arr 64 .leaf (aq .u8 (pad (row m))))]=some (D.arr 64 .leaf (aq .u8 (pad (row (Pol.X*a%m)))))
theorem ain (hT:T F3t=some Z3t) (hd:jw (den T A)) (hinv:tc (den T A)):Yl (den T A):=by
 intro p i a m hm hal hml;have hp:=IsP.ge (p:=p);have hp7:=IsP.le (p:=p);have e1:=hd p m hml;refine c9 hT rfl ?_
 by_cases h1:m.len=1
 ·have ha:a=0:=Pol.len_zero_iff.1 (by omega)
  subst ha;rw [Gq.mul_zero,Pol.zero_mod hm,dj];rw [h1] at e1;simp -implicitDefEqProofs [Z3t,Z3t_B,ap,e1]
 ·have hm0:=Pol.len_pos hm
  obtain ⟨n,hn⟩:∃n,m.len=n+2:=⟨m.len-2,by omega⟩
  have e1':ask (den T A) F3e [(D.arr 64 .leaf (aq .u8 (pad (row m))))]=some (D.int .i64 ((n+1:Nat))):=by rw [e1,hn]; congr 2; omega
  have hr:=o7 m.ld;have hld:rep m.ld≠0:=fun h0=>Pol.ld_ne hm (io.1 h0)
  have e3:=hinv p (rep m.ld) (by omega) hr.2
  have hin:=zq p (rep m.ld);have hpa:a.len≤64:=by omega
  have hax:(pad (row a))[n]? = some (rep (a.c n)):=by rw [u4 _ _ (by omega),ja]
  have hmx:(pad (row m))[n+1]? = some (rep m.ld):=by
   rw [u4 _ _ (by omega),ja]
   unfold Pol.ld;rw [hn]; rfl
  have ha0:=o7 (a.c n);have w0:IntKind.i64.wrap ((n:Int)+1-1)=(n:Int):=wt;have w0':IntKind.i64.wrap (n:Int)=(n:Int):=wt;have w1:IntKind.i64.wrap (rep (a.c n))=rep (a.c n):=wt;have w2:IntKind.i64.wrap (inv p (rep m.ld))=inv p (rep m.ld):=wt;have gm:=lw (x:=rep (a.c n)) (y:=inv p (rep m.ld)) (b:=10) (c:=10) (by omega) (by omega) (by omega)
  have w3:IntKind.i64.wrap (rep (a.c n)*inv p (rep m.ld))=rep (a.c n)*inv p (rep m.ld):=wt;have w4:(rep (a.c n)*inv p (rep m.ld)).tmod p=rep (a.c n)*inv p (rep m.ld)%p:=d9 (gp ha0.1 hin.1);have hq:0≤rep (a.c n)*inv p (rep m.ld)%p∧rep (a.c n)*inv p (rep m.ld)%p<p:=⟨eo _ (by omega),du _ (by omega)⟩
  have hqz:zp p (rep (a.c n)*inv p (rep m.ld)%p)=a.c n*Fd.inv m.ld:=by
   rw [zr,Dl,mw,vw _ (Pol.ld_ne hm)]
  generalize rep (a.c n)*inv p (rep m.ld)%p=q at *;have l0:=a5i (O:=den T A) (p:=p) (a:=pad (row a)) (mm:=pad (row m)) (z:=pad []) (n:=n+1) (top:=rep (a.c n)) (di _) (by omega) n 1 (pad []) (by omega) (ba 1) (di _)
  have hz:∀j,cf (pad []) j=0:=fun j=>by rw [D6 (by simp),rf (by simp)]
  have c0:∀j,cf (upd (fun j=>cf (pad (row a)) (j-1)) n 1 (pad [])) j=if 1≤j∧j<n+1 then rep (a.c (j-1)) else 0:=fun j=>by
   rw [a72,hz,di]
   by_cases h:1≤j∧j<n+1
   ·rw [if_pos (by omega),if_pos h,ro hpa]
   ·rw [if_neg (by omega),if_neg h]
  have hlen0:(upd (fun j=>cf (pad (row a)) (j-1)) n 1 (pad [])).length=64:=by rw [yy,di]
  generalize upd (fun j=>cf (pad (row a)) (j-1)) n 1 (pad [])=out at *
  have hcan0:Can p out:=Can.of_cf fun j _=>by rw [c0]; split; exact o7 _; omega
  have l1:=a8p (O:=den T A) (p:=p) (q:=q) (b:=pad (row m)) (z:=pad []) (out:=out) (n:=n+1) rfl (yu m) (di _) hq (by omega) hcan0 (n+1) 0 out (by omega) hlen0 (fun _ _=>rfl)
  have hres:upd (fun j=>(cf out j-q*cf (pad (row m)) j)%p) (n+1) 0 out=pad (row (Pol.X*a%m)):=by
   have hlenR:(upd (fun j=>(cf out j-q*cf (pad (row m)) j)%p) (n+1) 0 out).length=64:=by rw [yy,hlen0]
   have hcR:∀j,cf (upd (fun j=>(cf out j-q*cf (pad (row m)) j)%p) (n+1) 0 out) j=if j<n+1 then (cf out j-q*rep (m.c j))%p else 0:=fun j=>by
    rw [a72,hlen0]
    by_cases h:j<n+1
    ·rw [if_pos (by omega),if_pos h,ro hml]
    ·rw [if_neg (by omega),if_neg h,c0,if_neg (by omega)]
   have hcanR:Can p (upd (fun j=>(cf out j-q*cf (pad (row m)) j)%p) (n+1) 0 out):=Can.of_cf fun j _=>by
    rw [hcR]; split
    ·exact ⟨eo _ (by omega),du _ (by omega)⟩
    ·omega
   rw [Rt hcanR hlenR]
   congr 2
   symm
   refine (Pol.div_mod_eq (q:=Pol.C (zp p q)) ?_ ?_).2
   ·refine Pol.ext fun j=>?_
    rw [Pol.c_add,Pol.c_Cmul,Pol.c_Xmul,lg,hcR];rcases jd j (n+1) with h | h | h
    ·rw [if_pos h,zr,a81,Dl,mw,c0]
     by_cases hj:j=0
     ·subst hj
      rw [if_pos rfl,if_neg (by omega),C9]
      exact cu [zp p q,m.c 0] rfl
     ·rw [if_neg hj,if_pos (by omega),mw]
      exact cu [zp p q,m.c j,a.c (j-1)] rfl
    ·subst h
     rw [if_neg (by omega),if_neg (by omega),C9,Gq.add_zero,hqz]
     have e:m.c (n+1)=m.ld:=by unfold Pol.ld; rw [hn]; rfl
     rw [e,Gq.mul_assoc,Gq.mul_comm (Fd.inv m.ld),Fd.mul_inv _ (Pol.ld_ne hm),Gq.mul_one]; rfl
    ·rw [if_neg (by omega),if_neg (by omega),C9,m.lt_len j (by omega),Gq.mul_zero,Gq.add_zero,a.lt_len (j-1) (by omega)]
   ·have:(gw p (upd (fun j=>(cf out j-q*cf (pad (row m)) j)%p) (n+1) 0 out)).lt (n+1):=fun j hj=>by
     rw [lg,hcR,if_neg (by omega)]; rfl
    have:=Pol.len_le this;omega
  rw [hres] at l1;have e0:((0:Nat):Int)=0:=rfl;have e11:((1:Nat):Int)=1:=rfl;have en:((n+1:Nat):Int)=(n:Int)+1:=by omega
  rw [e0,en] at l1;rw [e11,en] at l0;rw [en] at e1';have hp0:p≠0:=by omega
  have hn64:n<64:=by omega
  have hn65:n+1<64:=by omega
  have t1:¬ (n:Int)+1=0:=by omega
  have t2:(0:Int)≤(n:Int)+1:=by omega
  have t3:((n:Int)+1).toNat=n+1:=by omega
  generalize pad (row m)=PM,pad (row a)=PA,pad (row (Pol.X*a%m))=R at *;simp -implicitDefEqProofs [Z3t,Z3t_B,ap,e1',e3,hax,hmx,w0',w1,w2,w3,w4,l0,l1,hn64,hn65,t1,t2,t3,hp0]
def t8 {p:Int} (b:Fp p) (i:Nat):Fp p:=⟨fun j=>b.c (i+j),b.len,fun j hj=>b.lt_len _ (by omega)⟩
theorem Y2 {p:Int} (b:Fp p):t8 b 0=b:=Pol.ext fun j=>by show b.c (0+j)=b.c j; rw [b9]
theorem a30 {p:Int} (b:Fp p):t8 b b.len=0:=Pol.ext fun j=>b.lt_len _ (by omega)
theorem Xe {p:Int} (b:Fp p) (i:Nat):t8 b i=Pol.X*t8 b (i+1)+Pol.C (b.c i):=Pol.ext fun j=>by
 rw [Pol.c_add,Pol.c_Xmul,Pol.c_C];show b.c (i+j)=(if j=0 then 0 else b.c (i+1+(j-1)))+if j=0 then b.c i else 0
 by_cases h:j=0
 ·subst h; rw [if_pos rfl,if_pos rfl,Gq.zero_add]; rfl
 ·rw [if_neg h,if_neg h,Gq.add_zero,show i+1+(j-1)=i+j by omega]
theorem Ny {O:am} (hu:Yl O) (ha:m8 O) (hmo:Da O) {p:Int} [IsP p] {a b m:Fp p} {z:List Int} (hm:m≠0) (hml:m.len≤64) (hal:a.len≤64) (hbl:b.len≤64):∀(n:Nat),n≤b.len →
 dn O 0 (.loop Z3n_L0) ⟨[(0,(.d (.int .i64 p))),(5,.ptr 0 []),(6,.ptr 1 []),(7,.ptr 2 []),(8,.ptr 3 []),(9,.ptr 4 []),(10,(.d (.int .i64 ((n:Int)-1))))],[.box false (D.arr 64 .leaf (aq .u8 (pad (row a)))),.box false (D.arr 64 .leaf (aq .u8 (pad (row b)))),.box false (D.arr 64 .leaf (aq .u8 (pad (row m)))),.box false (D.arr 64 .leaf (aq .u8 z)),.box false (D.arr 64 .leaf (aq .u8 (pad (row (a*t8 b n%m)))))]⟩ =
  some (.exit 0,⟨[(0,(.d (.int .i64 p))),(5,.ptr 0 []),(6,.ptr 1 []),(7,.ptr 2 []),(8,.ptr 3 []),(9,.ptr 4 []),(10,(.d (.int .i64 (-1)))),(15,(.d (.bool false)))],[.box false (D.arr 64 .leaf (aq .u8 (pad (row a)))),.box false (D.arr 64 .leaf (aq .u8 (pad (row b)))),.box false (D.arr 64 .leaf (aq .u8 (pad (row m)))),.box false (D.arr 64 .leaf (aq .u8 z)),.box false (D.arr 64 .leaf (aq .u8 (pad (row (a*b%m)))))]⟩)
 | 0,_=>by
  rw [Y2];exact bu (by simp -implicitDefEqProofs [Z3n_L0,ap])
 | n+1,hn=>by
  have hp:=IsP.pos (p:=p);have hp7:=IsP.le (p:=p);have hlr:=Pol.len_mod (a*t8 b (n+1)) hm;have hr:=o7 (b.c n);have e1:=hu p (a*t8 b (n+1)%m) m hm hlr hml;have hl2:=Pol.len_mod (Pol.X*(a*t8 b (n+1)%m)) hm;have e2:=ha p (rep (b.c n)) (Pol.X*(a*t8 b (n+1)%m)%m) a (by omega) (by omega) (by omega) hal
  rw [mw] at e2;have hl3:=Pol.len_add_le (a:=Pol.X*(a*t8 b (n+1)%m)%m) (b:=Pol.C (b.c n)*a) (n:=64) (by omega) (ju (Pol.len_le (Pol.lt_Cmul _ a.lt_len)) hal)
  have e3:=hmo p (Pol.X*(a*t8 b (n+1)%m)%m+Pol.C (b.c n)*a) m hm hl3 hml
  have e4:(Pol.X*(a*t8 b (n+1)%m)%m+Pol.C (b.c n)*a)%m=a*t8 b n%m:=by
   rw [Xe b n,Pol.mod_eq_iff hm,Quo.mk_add,Pol.mk_mod,Quo.mk_mul,Pol.mk_mod,←Quo.mk_mul,←Quo.mk_add]
   congr 1
   exact cu [Pol.X,a,t8 b (n+1),Pol.C (b.c n)] rfl
  rw [e4] at e3;have t0:(((n+1:Nat):Int)-1)=(n:Int):=by omega
  rw [t0];have hn64:n<64:=by omega
  have hx:(pad (row b))[n]? = some (rep (b.c n)):=by rw [u4 _ _ hn64,ja]
  have w1:IntKind.i64.wrap (rep (b.c n))=rep (b.c n):=wt;have w2:IntKind.i64.wrap ((n:Int)-1)=(n:Int)-1:=wt;refine bn ?_ (Ny hu ha hmo hm hml hal hbl n (by omega))
  generalize pad (row m)=PM,pad (row b)=PB,pad (row a)=PA,pad (row (Pol.X*(a*t8 b (n+1)%m)%m))=R3,pad (row (Pol.X*(a*t8 b (n+1)%m)%m+Pol.C (b.c n)*a))=R2,pad (row (a*t8 b (n+1)%m))=R1,pad (row (a*t8 b n%m))=R at *;simp -implicitDefEqProofs [Z3n_L0,ap,e1,e2,e3,hn64,hx,w1,w2]
def im (O:am):Prop:=∀(p:Int) [IsP p] (a b m:Fp p),m≠0→m.len≤64→a.len≤64→b.len≤64 →
 ask O F3n [(D.int .i64 p),(D.arr 64 .leaf (aq .u8 (pad (row a)))),(D.arr 64 .leaf (aq .u8 (pad (row b)))),(D.arr 64 .leaf (aq .u8 (pad (row m))))]=some (D.arr 64 .leaf (aq .u8 (pad (row (a*b%m)))))
theorem a2e (hT:T F3n=some Z3n) (hd:jw (den T A)) (hu:Yl (den T A)) (ha:m8 (den T A)) (hmo:Da (den T A)):im (den T A):=by
 intro p i a b m hm hml hal hbl;have e1:=hd p b hbl;have e2:=Ny (O:=den T A) (z:=pad []) hu ha hmo hm hml hal hbl b.len (ba _);rw [a30,Gq.mul_zero,Pol.zero_mod hm,dj] at e2;refine c9 hT rfl ?_;generalize pad (row m)=PM,pad (row b)=PB,pad (row a)=PA,pad (row (a*b%m))=R at *;simp -implicitDefEqProofs [Z3n,Z3n_B,e1,e2]
theorem afk {O:am} (hmm:im O) {p:Int} [IsP p] {m:Fp p} {z:List Int} {hol:Blk} (hh:hol=.hole) (hm:m≠0) (hml:m.len≤64):∀(n:Nat) (k:Int) (out base:Fp p),0≤k→k.toNat<2^n→k<4611686018427387904→out.len<m.len→base.len<m.len→∃base':List Int,
 dn O 0 (.loop Z3p_L0) ⟨[(0,(.d (.int .i64 p))),(2,(.d (.int .i64 k))),(7,.ptr 1 []),(8,.ptr 2 []),(9,.ptr 3 []),(10,.ptr 4 [])],[hol,.box false (D.arr 64 .leaf (aq .u8 (pad (row m)))),.box false (D.arr 64 .leaf (aq .u8 z)),.box false (D.arr 64 .leaf (aq .u8 (pad (row out)))),.box false (D.arr 64 .leaf (aq .u8 (pad (row base))))]⟩ =
  some (.exit 0,⟨[(0,(.d (.int .i64 p))),(2,(.d (.int .i64 0))),(7,.ptr 1 []),(8,.ptr 2 []),(9,.ptr 3 []),(10,.ptr 4 []),(20,(.d (.bool false)))],[hol,.box false (D.arr 64 .leaf (aq .u8 (pad (row m)))),.box false (D.arr 64 .leaf (aq .u8 z)),.box false (D.arr 64 .leaf (aq .u8 (pad (row (out*pw base k.toNat%m))))),.box false (D.arr 64 .leaf (aq .u8 base'))]⟩):=by
 intro n
 induction n with
 | zero=>
  intro k out base hk hn _ ho hb;obtain rfl:k=0:=by simp at hn; omega
  refine ⟨pad (row base),?_⟩
  have e:out*pw base (0:Int).toNat%m=out:=by
   show out*1%m=out;rw [Gq.mul_one,Pol.mod_small ho]
  rw [e];subst hh;exact bu (by simp -implicitDefEqProofs [Z3p_L0,ap])
 | succ n ih=>
  intro k out base hk hn hkm ho hb
  by_cases h0:k=0
  ·subst h0
   refine ⟨pad (row base),?_⟩
   have e:out*pw base (0:Int).toNat%m=out:=by
    show out*1%m=out;rw [Gq.mul_one,Pol.mod_small ho]
   rw [e];subst hh;exact bu (by simp -implicitDefEqProofs [Z3p_L0,ap])
  ·have hkp:0<k:=by omega
   have t1:=hmm p out base m hm hml (by omega) (by omega)
   have t2:=hmm p base base m hm hml (by omega) (by omega)
   have s:=Pol.bin_step (out:=out) (base:=base) hm k.toNat (by omega)
   have hdiv:(k/2).toNat=k.toNat/2:=by omega
   obtain ⟨b',e⟩:=ih (k/2) (if k.toNat%2=1 then out*base%m else out) (base*base%m) (by omega) (by rw [qi] at hn; omega) (by omega) (by split; exact Pol.len_mod _ hm; exact ho) (Pol.len_mod _ hm)
   rw [hdiv,s] at e;refine ⟨b',bn ?_ e⟩;subst hh;have w1:IntKind.i64.wrap (k.tdiv 2)=k/2:=by rw [Int.tdiv_eq_ediv_of_nonneg hk,w64 (by omega)]
   have w2:k.tmod 2=k%2:=d9 hk
   by_cases hodd:k%2=1
   ·rw [if_pos (show k.toNat%2=1 by omega)]
    generalize pad (row m)=R5,pad (row base)=R4,pad (row out)=R3,pad (row (base*base%m))=R2,pad (row (out*base%m))=R1 at *;simp -implicitDefEqProofs [Z3p_L0,ap,hkp,t1,t2,w1,w2,hodd]
   ·rw [if_neg (show ¬ k.toNat%2=1 by omega)]
    generalize pad (row m)=R5,pad (row base)=R4,pad (row out)=R3,pad (row (base*base%m))=R2 at *;simp -implicitDefEqProofs [Z3p_L0,ap,hkp,t2,w1,w2,hodd]
def ve (O:am):Prop:=∀(p:Int) [IsP p] (a:Fp p) (k:Int) (m:Fp p),m≠0→a.len≤64→m.len≤64→0≤k→k<4611686018427387904 →
 ask O F3p [(D.int .i64 p),(D.arr 64 .leaf (aq .u8 (pad (row a)))),(D.int .i64 k),(D.arr 64 .leaf (aq .u8 (pad (row m))))]=some (D.arr 64 .leaf (aq .u8 (pad (row (pw a k.toNat%m)))))
theorem a2h (hT:T F3p=some Z3p) (h1:Ma (den T A)) (hmo:Da (den T A)) (hmm:im (den T A)):ve (den T A):=by
 intro p i a k m hm hal hml hk hkm;have e1:=h1 p;have e2:=hmo p 1 m hm (by rw [Pol.len_one]; omega) hml
 have e3:=hmo p a m hm hal hml;obtain ⟨b',e⟩:=afk (O:=den T A) hmm (z:=pad []) (hol:=.hole) rfl hm hml 62 k (1%m) (a%m) hk (by omega) hkm (Pol.len_mod _ hm) (Pol.len_mod _ hm)
 have e4:1%m*pw (a%m) k.toNat%m=pw a k.toNat%m:=by
  rw [Pol.mul_mod_left _ _ hm,Gq.one_mul,Pol.pow_mod _ hm]
 rw [e4] at e;refine c9 hT rfl ?_;generalize pad (row m)=PM,pad (row a)=PA,pad (row (1:Fp p))=R3,pad (row (a%m))=R2,pad (row (1%m))=R1,pad (row (pw a k.toNat%m))=R at *;simp -implicitDefEqProofs [Z3p,Z3p_B,e1,e2,e3,e]
end Pe
namespace Pe
open Go Gq
section
variable {p:Int} [IsP p]
noncomputable def frW (m:Fp p) (k:Nat):Fp p:=pw Pol.X (p.toNat^k)%m-Pol.X
theorem a9f {m q:Fp p} (_hm:m≠0) (hq:Dv q m) (k:Nat):Dv q (frW m k)↔Dv q (frT p k):=by
 have h1:frT p k=frW m k+pw Pol.X (p.toNat^k)/m*m:=by
  have h:=Pol.div_mod (pw Pol.X (p.toNat^k)) m;show pw Pol.X (p.toNat^k)-Pol.X=pw Pol.X (p.toNat^k)%m-Pol.X+pw Pol.X (p.toNat^k)/m*m;generalize pw Pol.X (p.toNat^k)/m=Q,pw Pol.X (p.toNat^k)%m=R at *;rw [h];exact cu [Q,m,R,Pol.X] rfl
 have h2:Dv q (pw Pol.X (p.toNat^k)/m*m):=hq.mul_left _;constructor
 ·intro h; rw [h1]; exact h.add h2
 ·intro h
  have:=h.sub h2;rw [h1] at this;have e:frW m k+pw Pol.X (p.toNat^k)/m*m-pw Pol.X (p.toNat^k)/m*m=frW m k:=cu [frW m k,pw Pol.X (p.toNat^k)/m,m] rfl
  rwa [e] at this
theorem a9o {m:Fp p} (h2:2≤m.len) (h13:m.len≤13):(∀k,1≤k→2*k≤m.len-1→(Pol.gcd m (frW m k)).len=1)↔Irr m:=by
 have hm:m≠0:=fun h=>by rw [h,Pol.len_zero] at h2; omega
 have small:∀d,d≤12→p^d<1000000000000:=fun d hd=>by
  have h1:=qe (p:=p) (by have:=IsP.pos (p:=p); omega) hd
  have h7:=tu (p:=p) (n:=12) (by omega)
  omega
 constructor
 ·intro h
  refine Al (n:=(m.len-1)/2+1) (fun q hq hd=>?_) h2 (by omega)
  rcases dx ((m.len-1)/2+1) q.len with g | g
  ·omega
  ·exfalso
   have hl:=hq.len;have h1:=h (q.len-1) (by omega) (by omega)
   have h3:Dv q (frT p (q.len-1)):=a01 hq (by omega) (small _ (by omega))
   have h4:=Pol.dv_gcd (.inl hm) hd ((a9f hm hd _).2 h3);have h5:=h4.len (fun h0=>by rw [h0,Pol.len_zero] at h1; omega)
   omega
 ·intro hi k hk hk2
  by_cases hd:Dv m (frW m k)
  ·have h3:=(a9f hm (Dv.refl m) k).1 hd
   have:=M9 hi (d:=m.len-1) (by omega) (small _ (by omega)) hk h3
   omega
  ·obtain ⟨u,v,e⟩:=hi.coprime hd
   have h1:=Pol.gcd_dv_left (a:=m) (b:=frW m k) (.inl hm);have h3:=Pol.gcd_dv_right (a:=m) (b:=frW m k) (.inl hm)
   have h4:Dv (Pol.gcd m (frW m k)) 1:=by
    rw [←e];exact (h1.mul_left u).add (h3.mul_left v)
   have h5:=h4.len Pol.one_ne;rw [Pol.len_one] at h5;have h6:=Pol.len_pos (Pol.gcd_monic (a:=m) (b:=frW m k) (.inl hm)).2;omega
theorem a9z {m:Fp p} (hi:Irr m) (hm:Monic m):IsFac m [(m,1)] where
 ok:=⟨fun x hx=>by simp only [c7] at hx; subst hx; exact ⟨hi,hm,ba 1⟩,fk _ _⟩
 sorted:=fk _ _
 eq:=by
  rw [hm.1,Pol.C_one,Gq.one_mul];show m=pw m 1*1;rw [Dz,Gq.mul_one]
theorem aal {m:Fp p} {L:od p} (hm:Monic m) (h:IsFac m L):(∃q,L=[(q,1)])↔Irr m:=by
 constructor
 ·rintro ⟨q,rfl⟩
  have e:=h.eq;rw [hm.1,Pol.C_one,Gq.one_mul] at e
  have e2:oa [(q,1)]=q:=by
   show pw q 1*1=q;rw [Dz,Gq.mul_one]
  rw [e2] at e;rw [e];exact (h.ok.irr (q,1) (by simp)).1
 ·intro hi
  exact ⟨m,h.unique hm.2 (a9z hi hm)⟩
end
end Pe
namespace Pe
open Go Gq
variable {T:Nat→Option Fn} {A:am}
section
variable {p:Int}
def Ie (a:Fp p) (i:Nat):Fp p:=⟨fun n=>if n<i then a.c n else 0,i,fun n hn=>if_neg (by omega)⟩
theorem P9 (a:Fp p) (i n:Nat):(Ie a i).c n=if n<i then a.c n else 0:=rfl
theorem Nx (a:Fp p):Ie a 0=0:=Pol.ext fun n=>by rw [P9,if_neg (by omega)]; rfl
theorem T1 (a:Fp p):Ie a a.len=a:=Pol.ext fun n=>by
 rw [P9]
 split
 ·rfl
 ·rename_i h; exact (a.lt_len n (by omega)).symm
end
section
variable {p:Int} [IsP p]
theorem a8k (k:Zp p) (n i:Nat):(Pol.mo k n).c i=if i=n then k else 0:=rfl
theorem Gw (a:Fp p) (i:Nat):Ie a (i+1)=Ie a i+Pol.mo (a.c i) i:=Pol.ext fun n=>by
 rw [Pol.c_add,P9,P9,a8k]
 by_cases h:n=i
 ·subst h; rw [if_pos (by omega),if_neg (by omega),if_pos rfl,Gq.zero_add]
 ·rw [if_neg h,Gq.add_zero]
  by_cases h2:n<i
  ·rw [if_pos (by omega),if_pos h2]
  ·rw [if_neg (by omega),if_neg h2]
theorem abi (n:Nat):(Pol.mo 0 n:Fp p)=0:=Pol.ext fun i=>by rw [a8k]; split <;> rfl
theorem ajw (k l:Zp p) (n m:Nat):(Pol.mo k n*Pol.mo l m:Fp p)=Pol.mo (k*l) (n+m):=Pol.ext fun i=>by
 rw [Vb,a8k,a8k]
 by_cases h:n≤i
 ·rw [if_pos h]
  by_cases h2:i-n=m
  ·rw [if_pos h2,if_pos (by omega)]
  ·rw [if_neg h2,if_neg (by omega),Gq.mul_zero]
 ·rw [if_neg h,if_neg (by omega)]
theorem N0 {cur:List Int} {k:Nat} (h:k<cur.length) (t:Int):gw p (cur.set k ((cf cur k+t)%p))=gw p cur+Pol.mo (zp p t) k:=Pol.ext fun j=>by
 rw [Pol.c_add,lg,lg,xr,a8k]
 by_cases h1:j=k
 ·subst h1
  rw [if_pos ⟨rfl,h⟩,if_pos rfl,zr,Wz]
 ·rw [if_neg (by omega),if_neg h1,Gq.add_zero]
end
theorem a7j {O:am} {p:Int} [IsP p] {a b:Fp p} {z:List Int} {n i:Nat} (hn:n<64) (hi:i<a.len) (hal:a.len≤64) (hbl:b.len≤64) (hab:a.len+b.len≤65) (hb1:0<b.len) (hai:a.c i≠0) {P:Fp p} {vn:V} (hvn:vn.refs=[]):∀(m j:Nat) (cur:List Int),j+m=b.len→cur.length=64→Can p cur→gw p cur=P+Pol.mo (a.c i) i*Ie b j→∃cur':List Int,cur'.length=64∧Can p cur'∧gw p cur'=P+Pol.mo (a.c i) i*b ∧
 dn O 0 (.loop Z3s_L0) ⟨[(0,(.d (.int .i64 p))),(4,.ptr 0 []),(5,.ptr 1 []),(6,.ptr 2 []),(8,vn),(9,(.d (.int .i64 (((b.len-1:Nat):Int))))),(10,.ptr 3 []),(11,(.d (.int .i64 i))),(12,(.d (.int .i64 j)))],[.box false (D.arr 64 .leaf (aq .u8 (pad (row a)))),.box false (D.arr 64 .leaf (aq .u8 (pad (row b)))),.box false (D.arr 64 .leaf (aq .u8 z)),.box false (D.arr 64 .leaf (aq .u8 cur))]⟩ =
  some (.exit 2,⟨[(0,(.d (.int .i64 p))),(4,.ptr 0 []),(5,.ptr 1 []),(6,.ptr 2 []),(8,vn),(9,(.d (.int .i64 (((b.len-1:Nat):Int))))),(10,.ptr 3 []),(11,(.d (.int .i64 i))),(12,(.d (.int .i64 b.len))),(43,(.d (.bool false)))],[.box false (D.arr 64 .leaf (aq .u8 (pad (row a)))),.box false (D.arr 64 .leaf (aq .u8 (pad (row b)))),.box false (D.arr 64 .leaf (aq .u8 z)),.box false (D.arr 64 .leaf (aq .u8 cur'))]⟩)
 | 0,j,cur,hj,hc,hcan,he=>by
  obtain rfl:j=b.len:=by omega
  rw [T1] at he;have hlt:¬ (b.len:Int)≤((b.len-1:Nat):Int):=by omega
  refine ⟨cur,hc,hcan,he,bu ?_⟩;generalize pad (row b)=PB,pad (row a)=PA,((b.len-1:Nat):Int)=m1 at *;simp -implicitDefEqProofs [Z3s_L0,ap,hlt,hvn]
 | m+1,j,cur,hj,hc,hcan,he=>by
  have hp:=IsP.pos (p:=p);have hp7:=IsP.le (p:=p);have hp0:p≠0:=by omega
  have hlt:(j:Int)≤((b.len-1:Nat):Int):=by omega
  have hi64:i<64:=by omega
  have hj64:j<64:=by omega
  have hij:i+j<64:=by omega
  have hs0:(0:Int)≤(i:Int)+j:=by omega
  have hs1:((i:Int)+j).toNat=i+j:=by omega
  have hx:(pad (row a))[i]? = some (rep (a.c i)):=by rw [u4 _ _ hi64,ja]
  have hy:(pad (row b))[j]? = some (rep (b.c j)):=by rw [u4 _ _ hj64,ja]
  have hx0:rep (a.c i)≠0:=fun h=>hai (io.1 h)
  have hr1:=o7 (a.c i);have hr2:=o7 (b.c j);have hkc:i+j<cur.length:=by omega
  have hw:cur[i+j]=cf cur (i+j):=(ft hkc).symm;have gc:=hcan.le hp (i+j);have gm:=lw (x:=rep (a.c i)) (y:=rep (b.c j)) (b:=10) (c:=10) (by omega) (by omega) (by omega)
  have gm0:=gp hr1.1 hr2.1;have w0:IntKind.i64.wrap ((i:Int)+j)=((i+j:Nat):Int):=wt;have w1:IntKind.i64.wrap (rep (a.c i))=rep (a.c i):=wt;have w2:IntKind.i64.wrap (rep (b.c j))=rep (b.c j):=wt;have w3:IntKind.i64.wrap (cf cur (i+j))=cf cur (i+j):=wt;have w4:IntKind.i64.wrap (rep (a.c i)*rep (b.c j))=rep (a.c i)*rep (b.c j):=wt;have w5:IntKind.i64.wrap (cf cur (i+j)+rep (a.c i)*rep (b.c j))=cf cur (i+j)+rep (a.c i)*rep (b.c j):=wt;have w6:(cf cur (i+j)+rep (a.c i)*rep (b.c j)).tmod p=(cf cur (i+j)+rep (a.c i)*rep (b.c j))%p:=d9 (by omega)
  have hin:=eo (cf cur (i+j)+rep (a.c i)*rep (b.c j)) hp0;have hin2:=du (cf cur (i+j)+rep (a.c i)*rep (b.c j)) hp;have w7:IntKind.u8.wrap ((cf cur (i+j)+rep (a.c i)*rep (b.c j))%p)=(cf cur (i+j)+rep (a.c i)*rep (b.c j))%p:=w8 (by omega)
  have w8':=wi j
  have hnew:gw p (cur.set (i+j) ((cf cur (i+j)+rep (a.c i)*rep (b.c j))%p))=P+Pol.mo (a.c i) i*Ie b (j+1):=by
   rw [N0 hkc,he,Dl,mw,mw,Gw,Gq.mul_add,ajw,Gq.add_assoc]
  have hcan':Can p (cur.set (i+j) ((cf cur (i+j)+rep (a.c i)*rep (b.c j))%p)):=fun x hx=>by
   rcases ce hx with h | rfl
   ·exact hcan x h
   ·exact ⟨hin,hin2⟩
  obtain ⟨cur',g1,g2,g3,g4⟩:=a7j (O:=O) (z:=z) hn hi hal hbl hab hb1 hai hvn m (j+1) (cur.set (i+j) ((cf cur (i+j)+rep (a.c i)*rep (b.c j))%p)) (by omega) (by rw [bx]; exact hc) hcan' hnew
  have hs:aq .u8 (cur.set (i+j) ((cf cur (i+j)+rep (a.c i)*rep (b.c j))%p))=(aq .u8 cur).set (i+j) (D.int .u8 ((cf cur (i+j)+rep (a.c i)*rep (b.c j))%p)):=by unfold aq; rw [dy]
  rw [hs] at g4;refine ⟨cur',g1,g2,g3,bn ?_ g4⟩;generalize pad (row b)=PB,pad (row a)=PA,((b.len-1:Nat):Int)=m1,(cf cur (i+j)+rep (a.c i)*rep (b.c j))%p=W at *;simp -implicitDefEqProofs [Z3s_L0,ap,hlt,hi64,hj64,hij,hs0,hs1,hx,hy,hx0,hc,hw,w0,w1,w2,w3,w4,w5,w6,w7,w8',hp0,hvn]
theorem W5 {O:am} {p:Int} [IsP p] {a b:Fp p} {z:List Int} (hal:a.len≤64) (hbl:b.len≤64) (hab:a.len+b.len≤65) (ha1:0<a.len) (hb1:0<b.len):∀(m i:Nat) (cur:List Int),i+m=a.len→cur.length=64→Can p cur→gw p cur=Ie a i*b→∃cur':List Int,cur'.length=64∧Can p cur'∧gw p cur'=a*b ∧
 dn O 0 (.loop Z3s_L1) ⟨[(0,(.d (.int .i64 p))),(4,.ptr 0 []),(5,.ptr 1 []),(6,.ptr 2 []),(8,(.d (.int .i64 (((a.len-1:Nat):Int))))),(9,(.d (.int .i64 (((b.len-1:Nat):Int))))),(10,.ptr 3 []),(11,(.d (.int .i64 i)))],[.box false (D.arr 64 .leaf (aq .u8 (pad (row a)))),.box false (D.arr 64 .leaf (aq .u8 (pad (row b)))),.box false (D.arr 64 .leaf (aq .u8 z)),.box false (D.arr 64 .leaf (aq .u8 cur))]⟩ =
  some (.exit 0,⟨[(0,(.d (.int .i64 p))),(4,.ptr 0 []),(5,.ptr 1 []),(6,.ptr 2 []),(8,(.d (.int .i64 (((a.len-1:Nat):Int))))),(9,(.d (.int .i64 (((b.len-1:Nat):Int))))),(10,.ptr 3 []),(11,(.d (.int .i64 a.len))),(32,(.d (.bool false)))],[.box false (D.arr 64 .leaf (aq .u8 (pad (row a)))),.box false (D.arr 64 .leaf (aq .u8 (pad (row b)))),.box false (D.arr 64 .leaf (aq .u8 z)),.box false (D.arr 64 .leaf (aq .u8 cur'))]⟩)
 | 0,i,cur,hi,hc,hcan,he=>by
  obtain rfl:i=a.len:=by omega
  rw [T1] at he;have hlt:¬ (a.len:Int)≤((a.len-1:Nat):Int):=by omega
  refine ⟨cur,hc,hcan,he,bu ?_⟩;generalize pad (row b)=PB,pad (row a)=PA,((a.len-1:Nat):Int)=n1,((b.len-1:Nat):Int)=m1 at *;simp -implicitDefEqProofs [Z3s_L1,ap,hlt]
 | m+1,i,cur,hi,hc,hcan,he=>by
  have hlt:(i:Int)≤((a.len-1:Nat):Int):=by omega
  have hi64:i<64:=by omega
  have w8':=wi i;have hx:(pad (row a))[i]? = some (rep (a.c i)):=by rw [u4 _ _ hi64,ja]
  by_cases hai:a.c i=0
  ·have hr:rep (a.c i)=0:=io.2 hai
   have he':gw p cur=Ie a (i+1)*b:=by rw [Gw,hai,abi,Gq.add_zero]; exact he
   obtain ⟨cur',g1,g2,g3,g4⟩:=W5 (O:=O) (z:=z) hal hbl hab ha1 hb1 m (i+1) cur (by omega) hc hcan he'
   rw [hr] at hx
   have hin:dn O 0 (.loop Z3s_L0) ⟨[(0,(.d (.int .i64 p))),(4,.ptr 0 []),(5,.ptr 1 []),(6,.ptr 2 []),(8,(.d (.int .i64 (((a.len-1:Nat):Int))))),(9,(.d (.int .i64 (((b.len-1:Nat):Int))))),(10,.ptr 3 []),(11,(.d (.int .i64 i))),(12,(.d (.int .i64 0)))],[.box false (D.arr 64 .leaf (aq .u8 (pad (row a)))),.box false (D.arr 64 .leaf (aq .u8 (pad (row b)))),.box false (D.arr 64 .leaf (aq .u8 z)),.box false (D.arr 64 .leaf (aq .u8 cur))]⟩ =
    some (.exit 2,⟨[(0,(.d (.int .i64 p))),(4,.ptr 0 []),(5,.ptr 1 []),(6,.ptr 2 []),(8,(.d (.int .i64 (((a.len-1:Nat):Int))))),(9,(.d (.int .i64 (((b.len-1:Nat):Int))))),(10,.ptr 3 []),(11,(.d (.int .i64 i))),(12,(.d (.int .i64 0))),(43,(.d (.bool false)))],[.box false (D.arr 64 .leaf (aq .u8 (pad (row a)))),.box false (D.arr 64 .leaf (aq .u8 (pad (row b)))),.box false (D.arr 64 .leaf (aq .u8 z)),.box false (D.arr 64 .leaf (aq .u8 cur))]⟩):=by
    refine bu ?_;generalize pad (row b)=PB,pad (row a)=PA,((a.len-1:Nat):Int)=n1,b.len-1=m1 at *;simp -implicitDefEqProofs [Z3s_L0,ap,hi64,hx]
   refine ⟨cur',g1,g2,g3,bn ?_ g4⟩;generalize pad (row b)=PB,pad (row a)=PA,((a.len-1:Nat):Int)=n1,((b.len-1:Nat):Int)=m1 at *;simp -implicitDefEqProofs [Z3s_L1,ap,hlt,hin,w8']
  ·obtain ⟨cur1,k1,k2,k3,k4⟩:=a7j (O:=O) (z:=z) (n:=0) (i:=i) (by omega) (by omega) hal hbl hab hb1 hai (P:=Ie a i*b) (vn:=(.d (.int .i64 (((a.len-1:Nat):Int))))) rfl b.len 0 cur (b9 _) hc hcan (by rw [Nx,Gq.mul_zero,Gq.add_zero]; exact he)
   have e00:((0:Nat):Int)=0:=rfl;rw [e00] at k4
   have he':gw p cur1=Ie a (i+1)*b:=by
    rw [k3,Gw];exact cu [Ie a i,b,Pol.mo (a.c i) i] rfl
   obtain ⟨cur',g1,g2,g3,g4⟩:=W5 (O:=O) (z:=z) hal hbl hab ha1 hb1 m (i+1) cur1 (by omega) k1 k2 he'
   refine ⟨cur',g1,g2,g3,bn ?_ g4⟩;generalize pad (row b)=PB,pad (row a)=PA,((a.len-1:Nat):Int)=n1,((b.len-1:Nat):Int)=m1 at *;simp -implicitDefEqProofs [Z3s_L1,ap,hlt,k4,w8']
def ym (O:am):Prop:=∀(p:Int) [IsP p] (a b:Fp p),a.len≤64→b.len≤64→(a*b).len≤64 →
 ask O F3s [(D.int .i64 p),(D.arr 64 .leaf (aq .u8 (pad (row a)))),(D.arr 64 .leaf (aq .u8 (pad (row b))))]=some (.tup [(D.arr 64 .leaf (aq .u8 (pad (row (a*b))))),(D.bool true)])
theorem a95 (hT:T F3s=some Z3s) (hd:jw (den T A)):ym (den T A):=by
 intro p i a b hal hbl hab;have e1:=hd p a hal;have e2:=hd p b hbl;refine c9 hT rfl ?_
 by_cases ha:a=0
 ·subst ha
  rw [Gq.zero_mul,dj];rw [Pol.len_zero,dj] at e1;generalize pad (row b)=PB at *;simp -implicitDefEqProofs [Z3s,Z3s_B,ap,e1,e2,List.replicate]
 ·have ha1:=Pol.len_pos ha
  by_cases hb:b=0
  ·subst hb
   rw [Gq.mul_zero,dj];rw [Pol.len_zero,dj] at e2;have ha2:¬ ((a.len:Int)-1<0):=by omega
   generalize pad (row a)=PA at *;simp -implicitDefEqProofs [Z3s,Z3s_B,ap,e1,e2,ha2,List.replicate]
  ·have hb1:=Pol.len_pos hb
   have hm:=Pol.len_mul ha hb;rw [show ((a.len:Int)-1)=((a.len-1:Nat):Int) by omega] at e1
   rw [show ((b.len:Int)-1)=((b.len-1:Nat):Int) by omega] at e2
   have w1:IntKind.i64.wrap (((a.len-1:Nat):Int)+((b.len-1:Nat):Int))=((a.len-1+(b.len-1):Nat):Int):=wt;have w2:¬ ((63:Int)<((a.len-1+(b.len-1):Nat):Int)):=by omega
   obtain ⟨cur',g1,g2,g3,g4⟩:=W5 (O:=den T A) (z:=pad []) hal hbl (by omega) ha1 hb1 a.len 0 (pad []) (b9 _) (di _) (by
    have:=yu (0:Fp p); rwa [dj] at this) (by
    rw [Nx,Gq.zero_mul];have:=v8 (p:=p) (a:=0) (by rw [Pol.len_zero]; omega)
    rwa [dj] at this)
   have e00:((0:Nat):Int)=0:=rfl;rw [e00] at g4;have hcur:cur'=pad (row (a*b)):=by rw [Rt g2 g1,g3]
   rw [hcur] at g4;have n1:¬ (((a.len-1:Nat):Int)<0):=by omega
   have n2:¬ (((b.len-1:Nat):Int)<0):=by omega
   generalize pad (row b)=PB,pad (row a)=PA,pad (row (a*b))=PR,((a.len-1:Nat):Int)=k1,((b.len-1:Nat):Int)=m1,((a.len-1+(b.len-1):Nat):Int)=s1 at *;simp -implicitDefEqProofs [Z3s,Z3s_B,ap,e1,e2,w1,w2,n1,n2,g4,List.replicate]
structure BzS {p:Int} [IsP p] (A B a b u x v y:Fp p):Prop where
 i:Pol.BzI A B a b u x v y
 la:a.len≤64
 lb:b.len≤64
 lu:u.len≤64
 lv:v.len≤64
 ne:a≠0
theorem BzS.step {p:Int} [IsP p] {A B a b u x v y:Fp p} (h:BzS A B a b u x v y) (hA:A.len≤64) (hB:B.len≤64) (hb:b≠0) :
 BzS A B b (a%b) x (u-a/b*x) y (v-a/b*y)∧x.len≤64∧y.len≤64∧(a/b).len≤64∧(a/b*x).len≤64∧(a/b*y).len≤64∧(a%b).len≤64:=by
 have h1:=h.i.lx;have h2:=h.i.ly;have h3:=Pol.len_pos h.ne;have h4:=Pol.len_pos hb;have h5:=Pol.len_div_le a hb;have h6:=Pol.len_mod_le a hb;obtain ⟨h7,h8⟩:=h.i.qlen hb;have h9:=h.la;have hx:x.len≤64:=by omega
 have hy:y.len≤64:=by omega
 exact ⟨⟨h.i.step hb,h.lb,by omega,hx,hy,hb⟩,hx,hy,by omega,by omega,by omega,by omega⟩
theorem a5o {O:am} (hdg:jw O) (hd:th O) (ht:ym O) (ha:m8 O) {p:Int} [IsP p] {z:List Int} {a b u x v y:Fp p} (h0:b≠0) (ha':a.len≤64) (hb:b.len≤64) (hu:u.len≤64) (hv:v.len≤64) (s1:x.len≤64) (s2:y.len≤64) (s3:(a/b).len≤64) (s4:(a/b*x).len≤64) (s5:(a/b*y).len≤64) :
 dn O 0 Z3d_L0 ⟨[(0,(.d (.int .i64 p))),(4,.ptr 0 []),(5,.ptr 1 []),(6,.ptr 2 []),(7,.ptr 3 []),(8,.ptr 4 []),(9,.ptr 5 []),(10,.ptr 6 []),(11,.ptr 7 []),(12,.ptr 8 [])],[.box false (D.arr 64 .leaf (aq .u8 (pad (row a)))),.box false (D.arr 64 .leaf (aq .u8 (pad (row b)))),.box false (D.arr 64 .leaf (aq .u8 z)),.box false (D.arr 64 .leaf (aq .u8 z)),.box false (D.arr 64 .leaf (aq .u8 z)),.box false (D.arr 64 .leaf (aq .u8 (pad (row u)))),.box false (D.arr 64 .leaf (aq .u8 (pad (row x)))),.box false (D.arr 64 .leaf (aq .u8 (pad (row v)))),.box false (D.arr 64 .leaf (aq .u8 (pad (row y)))),.hole,.hole,.hole,.hole,.hole,.hole]⟩ =
  some (.normal,⟨[(0,(.d (.int .i64 p))),(4,.ptr 0 []),(5,.ptr 1 []),(6,.ptr 2 []),(7,.ptr 3 []),(8,.ptr 4 []),(9,.ptr 5 []),(10,.ptr 6 []),(11,.ptr 7 []),(12,.ptr 8 [])],[.box false (D.arr 64 .leaf (aq .u8 (pad (row b)))),.box false (D.arr 64 .leaf (aq .u8 (pad (row (a%b))))),.box false (D.arr 64 .leaf (aq .u8 z)),.box false (D.arr 64 .leaf (aq .u8 z)),.box false (D.arr 64 .leaf (aq .u8 z)),.box false (D.arr 64 .leaf (aq .u8 (pad (row x)))),.box false (D.arr 64 .leaf (aq .u8 (pad (row (u-a/b*x))))),.box false (D.arr 64 .leaf (aq .u8 (pad (row y)))),.box false (D.arr 64 .leaf (aq .u8 (pad (row (v-a/b*y))))),.hole,.hole,.hole,.hole,.hole,.hole]⟩):=by
 have hp:=Pol.len_pos h0;have e0:=hdg p b hb;have e1:=hd p a b h0 ha' hb;have e2:=ht p (a/b) x s3 s1 s4;have e3:=ha p (-1) u (a/b*x) (by omega) (by omega) hu s4
 have e4:=ht p (a/b) y s3 s2 s5;have e5:=ha p (-1) v (a/b*y) (by omega) (by omega) hv s5
 rw [Ao] at e3 e5;have hge:¬ ((b.len:Int)-1<0):=by omega
 have hge2:(0:Int)≤(b.len:Int)-1:=by omega
 have hge3:(1:Int)≤(b.len:Int):=by omega
 generalize pad (row y)=Py,pad (row v)=Pv,pad (row x)=Px,pad (row u)=Pu,pad (row b)=Pb,pad (row a)=Pa,pad (row (a%b))=Pr,pad (row (a/b))=Pq,pad (row (a/b*y))=Pqy,pad (row (a/b*x))=Pqx,pad (row (v-a/b*y))=Pvy,pad (row (u-a/b*x))=Pux at *;simp -implicitDefEqProofs [Z3d_L0,ap,hge3,e0,e1,e2,e3,e4,e5]
theorem a6s {O:am} (hdg:jw O) (hd:th O) (ht:ym O) (ha:m8 O) {p:Int} [IsP p] {A B:Fp p} {z:List Int} (hA:A.len≤64) (hB:B.len≤64):∀(n:Nat) (a b u x v y:Fp p),b.len≤n→BzS A B a b u x v y→∃x' y':List Int,(Pol.bz n a b u x v y).1≠0∧(Pol.bz n a b u x v y).1.len≤64∧(Pol.bz n a b u x v y).2.1.len≤64∧(Pol.bz n a b u x v y).2.2.len≤64 ∧
 dn O 0 (.loop Z3d_L0) ⟨[(0,(.d (.int .i64 p))),(4,.ptr 0 []),(5,.ptr 1 []),(6,.ptr 2 []),(7,.ptr 3 []),(8,.ptr 4 []),(9,.ptr 5 []),(10,.ptr 6 []),(11,.ptr 7 []),(12,.ptr 8 [])],[.box false (D.arr 64 .leaf (aq .u8 (pad (row a)))),.box false (D.arr 64 .leaf (aq .u8 (pad (row b)))),.box false (D.arr 64 .leaf (aq .u8 z)),.box false (D.arr 64 .leaf (aq .u8 z)),.box false (D.arr 64 .leaf (aq .u8 z)),.box false (D.arr 64 .leaf (aq .u8 (pad (row u)))),.box false (D.arr 64 .leaf (aq .u8 (pad (row x)))),.box false (D.arr 64 .leaf (aq .u8 (pad (row v)))),.box false (D.arr 64 .leaf (aq .u8 (pad (row y)))),.hole,.hole,.hole,.hole,.hole,.hole]⟩ =
  some (.exit 0,⟨[(0,(.d (.int .i64 p))),(4,.ptr 0 []),(5,.ptr 1 []),(6,.ptr 2 []),(7,.ptr 3 []),(8,.ptr 4 []),(9,.ptr 5 []),(10,.ptr 6 []),(11,.ptr 7 []),(12,.ptr 8 []),(28,(.d (.bool false)))],[.box false (D.arr 64 .leaf (aq .u8 (pad (row (Pol.bz n a b u x v y).1)))),.box false (D.arr 64 .leaf (aq .u8 (pad []))),.box false (D.arr 64 .leaf (aq .u8 z)),.box false (D.arr 64 .leaf (aq .u8 z)),.box false (D.arr 64 .leaf (aq .u8 z)),.box false (D.arr 64 .leaf (aq .u8 (pad (row (Pol.bz n a b u x v y).2.1)))),.box false (D.arr 64 .leaf (aq .u8 x')),.box false (D.arr 64 .leaf (aq .u8 (pad (row (Pol.bz n a b u x v y).2.2)))),.box false (D.arr 64 .leaf (aq .u8 y')),.hole,.hole,.hole,.hole,.hole,.hole]⟩):=by
 intro n
 have stop:∀(a u x v y:Fp p),dn O 0 (.loop Z3d_L0) ⟨[(0,(.d (.int .i64 p))),(4,.ptr 0 []),(5,.ptr 1 []),(6,.ptr 2 []),(7,.ptr 3 []),(8,.ptr 4 []),(9,.ptr 5 []),(10,.ptr 6 []),(11,.ptr 7 []),(12,.ptr 8 [])],[.box false (D.arr 64 .leaf (aq .u8 (pad (row a)))),.box false (D.arr 64 .leaf (aq .u8 (pad (row (0:Fp p))))),.box false (D.arr 64 .leaf (aq .u8 z)),.box false (D.arr 64 .leaf (aq .u8 z)),.box false (D.arr 64 .leaf (aq .u8 z)),.box false (D.arr 64 .leaf (aq .u8 (pad (row u)))),.box false (D.arr 64 .leaf (aq .u8 (pad (row x)))),.box false (D.arr 64 .leaf (aq .u8 (pad (row v)))),.box false (D.arr 64 .leaf (aq .u8 (pad (row y)))),.hole,.hole,.hole,.hole,.hole,.hole]⟩ =
  some (.exit 0,⟨[(0,(.d (.int .i64 p))),(4,.ptr 0 []),(5,.ptr 1 []),(6,.ptr 2 []),(7,.ptr 3 []),(8,.ptr 4 []),(9,.ptr 5 []),(10,.ptr 6 []),(11,.ptr 7 []),(12,.ptr 8 []),(28,(.d (.bool false)))],[.box false (D.arr 64 .leaf (aq .u8 (pad (row a)))),.box false (D.arr 64 .leaf (aq .u8 (pad []))),.box false (D.arr 64 .leaf (aq .u8 z)),.box false (D.arr 64 .leaf (aq .u8 z)),.box false (D.arr 64 .leaf (aq .u8 z)),.box false (D.arr 64 .leaf (aq .u8 (pad (row u)))),.box false (D.arr 64 .leaf (aq .u8 (pad (row x)))),.box false (D.arr 64 .leaf (aq .u8 (pad (row v)))),.box false (D.arr 64 .leaf (aq .u8 (pad (row y)))),.hole,.hole,.hole,.hole,.hole,.hole]⟩):=by
  intro a u x v y;have e:=hdg p 0 (by rw [Pol.len_zero]; omega)
  rw [dj,Pol.len_zero] at e;rw [dj];refine bu ?_;generalize pad (row a)=Pa;generalize pad (row u)=Pu;generalize pad (row x)=Px;generalize pad (row v)=Pv;generalize pad (row y)=Py;simp -implicitDefEqProofs [Z3d_L0,ap,e]
 induction n with
 | zero=>
  intro a b u x v y hn hs;obtain rfl:=Pol.len_zero_iff.1 (show b.len=0 by omega)
  exact ⟨_,_,hs.ne,hs.la,hs.lu,hs.lv,stop a u x v y⟩
 | succ n ih=>
  intro a b u x v y hn hs;unfold Pol.bz
  by_cases h0:b=0
  ·subst h0
   rw [if_pos rfl];exact ⟨_,_,hs.ne,hs.la,hs.lu,hs.lv,stop a u x v y⟩
  ·rw [if_neg h0]
   obtain ⟨s0,s1,s2,s3,s4,s5,s6⟩:=hs.step hA hB h0;have hl:=Pol.len_mod a h0;have hp:=Pol.len_pos h0;obtain ⟨x',y',g1,g2,g3,g4,e⟩:=ih b (a%b) x (u-a/b*x) y (v-a/b*y) (by omega) s0
   exact ⟨x',y',g1,g2,g3,g4,bn (a5o hdg hd ht ha h0 hs.la hs.lb hs.lu hs.lv s1 s2 s3 s4 s5) e⟩
theorem aaa {O:am} (hdg:jw O) (hd:th O) (ht:ym O) (ha:m8 O) {p:Int} [IsP p] {a b:Fp p} {z:List Int} (h:a≠0∨b≠0) (hal:a.len≤64) (hbl:b.len≤64):∃x' y':List Int,(Pol.bz b.len a b 1 0 0 1).1≠0∧(Pol.bz b.len a b 1 0 0 1).1.len≤64∧(Pol.bz b.len a b 1 0 0 1).2.1.len≤64∧(Pol.bz b.len a b 1 0 0 1).2.2.len≤64 ∧
 dn O 0 (.loop Z3d_L0) ⟨[(0,(.d (.int .i64 p))),(4,.ptr 0 []),(5,.ptr 1 []),(6,.ptr 2 []),(7,.ptr 3 []),(8,.ptr 4 []),(9,.ptr 5 []),(10,.ptr 6 []),(11,.ptr 7 []),(12,.ptr 8 [])],[.box false (D.arr 64 .leaf (aq .u8 (pad (row a)))),.box false (D.arr 64 .leaf (aq .u8 (pad (row b)))),.box false (D.arr 64 .leaf (aq .u8 z)),.box false (D.arr 64 .leaf (aq .u8 z)),.box false (D.arr 64 .leaf (aq .u8 z)),.box false (D.arr 64 .leaf (aq .u8 (pad (row (1:Fp p))))),.box false (D.arr 64 .leaf (aq .u8 (pad (row (0:Fp p))))),.box false (D.arr 64 .leaf (aq .u8 (pad (row (0:Fp p))))),.box false (D.arr 64 .leaf (aq .u8 (pad (row (1:Fp p))))),.hole,.hole,.hole,.hole,.hole,.hole]⟩ =
  some (.exit 0,⟨[(0,(.d (.int .i64 p))),(4,.ptr 0 []),(5,.ptr 1 []),(6,.ptr 2 []),(7,.ptr 3 []),(8,.ptr 4 []),(9,.ptr 5 []),(10,.ptr 6 []),(11,.ptr 7 []),(12,.ptr 8 []),(28,(.d (.bool false)))],[.box false (D.arr 64 .leaf (aq .u8 (pad (row (Pol.bz b.len a b 1 0 0 1).1)))),.box false (D.arr 64 .leaf (aq .u8 (pad []))),.box false (D.arr 64 .leaf (aq .u8 z)),.box false (D.arr 64 .leaf (aq .u8 z)),.box false (D.arr 64 .leaf (aq .u8 z)),.box false (D.arr 64 .leaf (aq .u8 (pad (row (Pol.bz b.len a b 1 0 0 1).2.1)))),.box false (D.arr 64 .leaf (aq .u8 x')),.box false (D.arr 64 .leaf (aq .u8 (pad (row (Pol.bz b.len a b 1 0 0 1).2.2)))),.box false (D.arr 64 .leaf (aq .u8 y')),.hole,.hole,.hole,.hole,.hole,.hole]⟩):=by
 by_cases h0:a=0
 ·subst h0
  have hb:=h.resolve_left (fun h=>h rfl)
  have hp:=Pol.len_pos hb;obtain ⟨k,hk⟩:∃k,b.len=k+1:=⟨b.len-1,by omega⟩
  have h1:(1:Fp p).len=1:=Pol.len_one;have hz:(0:Fp p).len=0:=Pol.len_zero;have hq:(0:Fp p)/b=0:=(Pol.div_mod_eq (a:=(0:Fp p)) (b:=b) (q:=0) (r:=0) (by rw [Gq.zero_mul,Gq.zero_add]) (by omega)).1
  have hs0:∀c:Fp p,c-0=c:=fun c=>by rw [Gq.sub_eq,ud,Gq.add_zero]
  have hr:(0:Fp p)%b=0:=Pol.zero_mod hb;have e:=a5o (z:=z) hdg hd ht ha (a:=0) (b:=b) (u:=1) (x:=0) (v:=0) (y:=1) hb (by omega) hbl (by omega) (by omega) (by omega) (by omega) (by rw [hq]; omega) (by rw [hq,Gq.zero_mul]; omega) (by rw [hq,Gq.zero_mul]; omega)
  rw [hk];unfold Pol.bz;rw [if_neg hb];rw [hq,hr,Gq.zero_mul,Gq.zero_mul,hs0,hs0] at e ⊢;have hi:Pol.BzI (0:Fp p) b b 0 0 1 1 0:=⟨by rw [Gq.zero_mul,Gq.zero_add,Gq.one_mul],by rw [Gq.mul_zero,Gq.zero_mul,Gq.add_zero],.inr (by omega),.inl hz,.inl hz,.inr (by omega),.inl hb⟩
  obtain ⟨x',y',g1,g2,g3,g4,e2⟩:=a6s (O:=O) (z:=z) hdg hd ht ha (A:=0) (B:=b) (by omega) hbl k b 0 0 1 1 0 (by omega) ⟨hi,hbl,by omega,by omega,by omega,hb⟩
  exact ⟨x',y',g1,g2,g3,g4,bn e e2⟩
 ·exact a6s (O:=O) (z:=z) hdg hd ht ha hal hbl b.len a b 1 0 0 1 (ba _) ⟨Pol.BzI.init (.inl h0),hal,hbl,by rw [Pol.len_one]; omega,by rw [Pol.len_zero]; omega,h0⟩
def Cb (O:am):Prop:=∀(p:Int) [IsP p] (a b:Fp p),a≠0∨b≠0→a.len≤64→b.len≤64 →
 ask O F3d [(D.int .i64 p),(D.arr 64 .leaf (aq .u8 (pad (row a)))),(D.arr 64 .leaf (aq .u8 (pad (row b))))]=some (.tup [(D.arr 64 .leaf (aq .u8 (pad (row (Pol.bezout a b).1)))),(D.arr 64 .leaf (aq .u8 (pad (row (Pol.bezout a b).2.1)))),(D.arr 64 .leaf (aq .u8 (pad (row (Pol.bezout a b).2.2))))])
theorem a2s (hT:T F3d=some Z3d) (h1:Ma (den T A)) (hdg:jw (den T A)) (hd:th (den T A)) (ht:ym (den T A)) (ha:m8 (den T A)) (hinv:tc (den T A)):Cb (den T A):=by
 intro p i a b h0 hal hbl;have hp:=IsP.ge (p:=p);have hp7:=IsP.le (p:=p);have e1:=h1 p;obtain ⟨x',y',g1,g2,g3,g4,e2⟩:=aaa (O:=den T A) (z:=pad []) hdg hd ht ha h0 hal hbl;unfold Pol.bezout;have heu:Pol.eu a b=Pol.bz b.len a b 1 0 0 1:=rfl;rw [heu];generalize Pol.bz b.len a b 1 0 0 1=R at *;obtain ⟨d,u,v⟩:=R;simp only at g1 g2 g3 g4 e2 ⊢;rw [dj] at e2;have hd1:=Pol.len_pos g1;have e3:=hdg p d g2;rw [show ((d.len:Int)-1)=((d.len-1:Nat):Int) by omega] at e3
 have hi64:d.len-1<64:=by omega
 have hx:(pad (row d))[d.len-1]? = some (rep d.ld):=by rw [u4 _ _ hi64,ja]; rfl
 have hr:=o7 d.ld;have hr0:rep d.ld≠0:=fun h=>Pol.ld_ne g1 (io.1 h)
 have hin:=zq p (rep d.ld);have e4:=hinv p (rep d.ld) (by omega) hr.2
 have w1:IntKind.i64.wrap (inv p (rep d.ld))=inv p (rep d.ld):=wt;have z0:(0:Fp p).len≤64:=by rw [Pol.len_zero]; omega
 have e5:=ha p (inv p (rep d.ld)) 0 d (by omega) (by omega) z0 g2
 have e6:=ha p (inv p (rep d.ld)) 0 u (by omega) (by omega) z0 g3
 have e7:=ha p (inv p (rep d.ld)) 0 v (by omega) (by omega) z0 g4
 rw [vw _ (Pol.ld_ne g1),Gq.zero_add,dj] at e5 e6 e7;refine c9 hT rfl ?_;generalize d.len-1=n1,pad (row (1:Fp p))=P0,pad (row b)=Pb,pad (row a)=Pa,pad (row v)=Pv,pad (row u)=Pu,pad (row d)=Pd,pad (row (Pol.C (Fd.inv d.ld)*v))=P3,pad (row (Pol.C (Fd.inv d.ld)*u))=P2,pad (row (Pol.C (Fd.inv d.ld)*d))=P1 at *;simp -implicitDefEqProofs [Z3d,Z3d_B,e1,e2,e3,e4,e5,e6,e7,hi64,hx,w1,List.replicate]
def Qq (O:am):Prop:=∀(p:Int) [IsP p] (a b:Fp p),a≠0→a.len≤64→b.len≤64 →
 ask O F3g [(D.int .i64 p),(D.arr 64 .leaf (aq .u8 (pad (row a)))),(D.arr 64 .leaf (aq .u8 (pad (row b))))]=some (D.arr 64 .leaf (aq .u8 (pad (row (Pol.gcd a b)))))
theorem adj (hT:T F3g=some Z3g) (hdg:jw (den T A)) (hb:Cb (den T A)):Qq (den T A):=by
 intro p i a b h0 hal hbl;have e1:=hdg p a hal;have e2:=hb p a b (.inl h0) hal hbl;have hp:=Pol.len_pos h0;have hge:¬ ((a.len:Int)-1<0):=by omega
 refine c9 hT rfl ?_;unfold Pol.gcd;generalize (a.len:Int)-1=n1,pad (row b)=Pb,pad (row a)=Pa,pad (row (Pol.bezout a b).2.2)=P3,pad (row (Pol.bezout a b).2.1)=P2,pad (row (Pol.bezout a b).1)=P1 at *;simp -implicitDefEqProofs [Z3g,Z3g_B,ap,e1,e2,hge,List.replicate]
def ac3 (O:am):Prop:=∀(p:Int) [IsP p],ask O F3r []=some (D.arr 64 .leaf (aq .u8 (pad (row (Pol.X:Fp p)))))
theorem amz (hT:T F3r=some Z3r):ac3 (den T A):=by
 intro p i;have e:((pad []).set 0 0).set 1 1=pad [0,1]:=by decide +kernel
 have h0:(pad [])[0]? = some 0:=by decide +kernel
 have h1:(pad [])[1]? = some 0:=by decide +kernel
 rw [aci];refine c9 hT rfl ?_;simp -implicitDefEqProofs [Z3r,Z3r_B,e,h0,h1]
open Classical in
theorem a52 {O:am} (hdg:jw O) (hpw:ve O) (hg:Qq O) (ha:m8 O) (ht:ac3 O) {p:Int} [IsP p] {m:Fp p} (hm:m≠0) (hml:m.len≤13) {n:Nat} (hn:n+1=m.len):∀(f k:Nat),1≤k→k+f=n/2+1→∃P':List Int,
 dn O 0 (.loop Z3j_L0) ⟨[(0,(.d (.int .i64 p))),(3,.ptr 0 []),(5,(.d (.int .i64 n))),(6,.ptr 1 []),(7,(.d (.int .i64 k)))],[.box false (D.arr 64 .leaf (aq .u8 (pad (row m)))),.box false (D.arr 64 .leaf (aq .u8 (pad (row (pw Pol.X (p.toNat^(k-1))%m)))))]⟩ =
  if ∀k',k≤k'→2*k'≤n→(Pol.gcd m (frW m k')).len=1 then some (.exit 0,⟨[(0,(.d (.int .i64 p))),(3,.ptr 0 []),(5,(.d (.int .i64 n))),(6,.ptr 1 []),(7,(.d (.int .i64 (((n/2+1:Nat):Int))))),(19,(.d (.bool false)))],[.box false (D.arr 64 .leaf (aq .u8 (pad (row m)))),.box false (D.arr 64 .leaf (aq .u8 P'))]⟩)
  else some (.ret,⟨[(4,(.d (.bool false)))],[.hole,.hole]⟩)
 | 0,k,hk,hf=>by
  obtain rfl:k=n/2+1:=by omega
  refine ⟨pad (row (pw Pol.X (p.toNat^(n/2+1-1))%m)),?_⟩;rw [if_pos (fun k' h1 h2=>by omega)]
  have w1:IntKind.i64.wrap (2*((n/2+1:Nat):Int))=2*((n/2+1:Nat):Int):=wt;have hlt:¬ (2*((n/2+1:Nat):Int)≤n):=by omega
  refine bu ?_;generalize pad (row m)=Pm,pad (row (pw Pol.X (p.toNat^(n/2+1-1))%m))=P1,((n/2+1:Nat):Int)=k1 at *;simp -implicitDefEqProofs [Z3j_L0,ap,w1,hlt]
 | f+1,k,hk,hf=>by
  have hp:=IsP.pos (p:=p);have hp7:=IsP.le (p:=p);have w1:IntKind.i64.wrap (2*(k:Int))=2*(k:Int):=wt;have hlt:2*(k:Int)≤n:=by omega
  have w4:=wi k;have hl1:=Pol.len_mod (pw Pol.X (p.toNat^(k-1))) hm;have hl2:=Pol.len_mod (pw Pol.X (p.toNat^k)) hm;have e1:=hpw p (pw Pol.X (p.toNat^(k-1))%m) p m hm (by omega) (by omega) (by omega) (by omega)
  have e2:pw (pw Pol.X (p.toNat^(k-1))%m) p.toNat%m=pw Pol.X (p.toNat^k)%m:=by
   rw [Pol.pow_mod _ hm,xw,←qi,show (k-1).succ=k by omega]
  rw [e2] at e1;have e3:=ht p;have hX:(Pol.X:Fp p).len≤64:=by rw [Pol.len_X]; omega
  have e4:=ha p (-1) (pw Pol.X (p.toNat^k)%m) Pol.X (by omega) (by omega) (by omega) hX
  rw [Ao] at e4;have e4':pw Pol.X (p.toNat^k)%m-Pol.X=frW m k:=rfl;rw [e4'] at e4;have hl3:(frW m k).len≤64:=Pol.len_sub_le (by omega) hX
  have e5:=hg p m (frW m k) hm (by omega) hl3
  have hgm:=Pol.gcd_monic (a:=m) (b:=frW m k) (.inl hm);have hgl:=(Pol.gcd_dv_left (a:=m) (b:=frW m k) (.inl hm)).len hm;have e6:=hdg p (Pol.gcd m (frW m k)) (by omega)
  have hg1:=Pol.len_pos hgm.2
  by_cases hc:(Pol.gcd m (frW m k)).len=1
  ·obtain ⟨P',ih⟩:=a52 hdg hpw hg ha ht hm hml hn f (k+1) (by omega) (by omega)
   rw [show k+1-1=k by omega] at ih
   refine ⟨P',?_⟩
   have hiff:(∀k',k≤k'→2*k'≤n→(Pol.gcd m (frW m k')).len=1)↔∀k',k+1≤k'→2*k'≤n→(Pol.gcd m (frW m k')).len=1:=by
    constructor
    ·intro h k' h1 h2; exact h k' (by omega) h2
    ·intro h k' h1 h2
     by_cases hkk:k'=k
     ·rw [hkk]; exact hc
     ·exact h k' (by omega) h2
   rw [propext hiff];refine bn ?_ ih;rw [hc] at e6;have e7:((1:Nat):Int)-1=0:=rfl;rw [e7] at e6;generalize pad (row m)=Pm,pad (row (Pol.X:Fp p))=PX,pad (row (pw Pol.X (p.toNat^(k-1))%m))=P1,pad (row (pw Pol.X (p.toNat^k)%m))=P2,pad (row (frW m k))=Pw,pad (row (Pol.gcd m (frW m k)))=Pg at *;simp -implicitDefEqProofs [Z3j_L0,ap,w1,hlt,e1,e3,e4,e5,e6,w4]
  ·refine ⟨pad [],?_⟩
   rw [if_neg (fun h=>hc (h k (ba k) (by omega)))]
   have hne:¬ (((Pol.gcd m (frW m k)).len:Int)-1=0):=by omega
   refine u5 ?_;generalize pad (row m)=Pm,pad (row (Pol.X:Fp p))=PX,pad (row (pw Pol.X (p.toNat^(k-1))%m))=P1,pad (row (pw Pol.X (p.toNat^k)%m))=P2,pad (row (frW m k))=Pw,pad (row (Pol.gcd m (frW m k)))=Pg,((Pol.gcd m (frW m k)).len:Int)-1=g1 at *;simp -implicitDefEqProofs [Z3j_L0,ap,w1,hlt,e1,e3,e4,e5,e6,hne]
open Classical in
def Wj (O:am):Prop:=∀(p:Int) [IsP p] (m:Fp p),m≠0→m.len≤13→ask O F3j [(D.int .i64 p),(D.arr 64 .leaf (aq .u8 (pad (row m))))]=some (D.bool (decide (Irr m)))
open Classical in
theorem adx (hT:T F3j=some Z3j) (hdg:jw (den T A)) (hmo:Da (den T A)) (hpw:ve (den T A)) (hg:Qq (den T A)) (ha:m8 (den T A)) (ht:ac3 (den T A)):Wj (den T A):=by
 intro p i m hm hml;have e1:=hdg p m (by omega)
 have e2:=ht p;have e3:=hmo p Pol.X m hm (by rw [Pol.len_X]; omega) (by omega)
 have h1:=Pol.len_pos hm;refine c9 hT rfl ?_
 by_cases h2:2≤m.len
 ·obtain ⟨P',e4⟩:=a52 (O:=den T A) hdg hpw hg ha ht hm hml (n:=m.len-1) (by omega) ((m.len-1)/2) 1 (ba 1) (by omega)
  have e5:pw (Pol.X:Fp p) (p.toNat^(1-1))=Pol.X:=by rw [lh,t4,Dz]
  rw [e5,a9o h2 hml] at e4;rw [show ((m.len:Int)-1)=((m.len-1:Nat):Int) by omega] at e1
  have hlt:¬ (((m.len-1:Nat):Int)<1):=by omega
  have e01:((1:Nat):Int)=1:=rfl;rw [e01] at e4
  by_cases hi:Irr m
  ·rw [if_pos hi] at e4
   rw [decide_eq_true hi];generalize pad (row m)=Pm,pad (row (Pol.X:Fp p))=PX,pad (row (Pol.X%m))=P1,((m.len-1:Nat):Int)=n1,(((m.len-1)/2+1:Nat):Int)=k1 at *;simp -implicitDefEqProofs [Z3j,Z3j_B,ap,e1,e2,e3,e4,hlt,List.replicate]
  ·rw [if_neg hi] at e4
   rw [decide_eq_false hi];generalize pad (row m)=Pm,pad (row (Pol.X:Fp p))=PX,pad (row (Pol.X%m))=P1,((m.len-1:Nat):Int)=n1 at *;simp -implicitDefEqProofs [Z3j,Z3j_B,ap,e1,e2,e3,e4,hlt,List.replicate]
 ·have hl:m.len=1:=by omega
  rw [hl] at e1;have e7:((1:Nat):Int)-1=0:=rfl;rw [e7] at e1;rw [decide_eq_false (fun h:Irr m=>h2 h.len)]
  generalize pad (row m)=Pm,pad (row (Pol.X:Fp p))=PX,pad (row (Pol.X%m))=P1 at *;simp -implicitDefEqProofs [Z3j,Z3j_B,ap,e1,e2,e3,List.replicate]
end Pe
namespace Pe
open Go Gq
variable {T:Nat→Option Fn} {A:am}
theorem Ol (k:IntKind):∀{l m:List Int},l.length=m.length→D.beqs .int (aq k l) (aq k m)=some (decide (l=m))
 | [],[],_=>by simp [D.beqs,aq]
 | x::l,y::m,h=>by
  have e:D.beqs .int (aq k (x::l)) (aq k (y::m))=(D.beq .int (.int k x) (.int k y)).bind fun b=>if b then D.beqs .int (aq k l) (aq k m) else some false:=rfl
  rw [e];have e2:D.beq .int (.int k x) (.int k y)=some (decide (x=y)):=by simp [D.beq]
  rw [e2,ah,Ol k (by simpa using h)]
  by_cases h1:x=y
  ·subst h1; simp
  ·simp [h1]
theorem acd {l m:List Int} (hl:l.length=64) (hm:m.length=64):D.beq (.arr 64 .leaf .int) (D.arr 64 .leaf (aq .u8 l)) (D.arr 64 .leaf (aq .u8 m))=some (decide (l=m)):=by
 have e:D.beq (.arr 64 .leaf .int) (D.arr 64 .leaf (aq .u8 l)) (D.arr 64 .leaf (aq .u8 m))=if 64=64∧64=64∧Sh.beq .leaf .leaf∧Sh.beq .leaf .leaf then D.beqs .int (aq .u8 l) (aq .u8 m) else none:=rfl
 rw [e,if_pos ⟨rfl,rfl,rfl,rfl⟩,Ol _ (by omega)]
theorem s9 {p:Int} {a b:Fp p} (ha:a.len≤64) (hb:b.len≤64):pad (row a)=pad (row b)↔a=b:=by
 constructor
 ·intro h
  rw [←v8 ha,h,v8 hb]
 ·rintro rfl; rfl
section
variable {p:Int} [IsP p]
structure SInv (a0:Fp p) (k:Int) (a:Fp p) (out:od p):Prop where
 ne:a≠0
 eq:a0=a*oa out
 ok:FacOk out
 so:out.Pairwise fun x y=>gf x.1<gf y.1
 lt:∀x∈out,gf x.1<k
 ge:∀q,Irr q→Monic q→Dv q a→k≤gf q
 ln:out.length+a.len≤13
structure SEnd (a0 a:Fp p) (out:od p):Prop where
 ne:a≠0
 eq:a0=a*oa out
 ok:FacOk out
 so:out.Pairwise fun x y=>gf x.1<gf y.1
 irr:2≤a.len→Irr a∧∀x∈out,gf x.1<gf (mon a)
 ln:out.length+a.len≤13
theorem Xa {q a:Fp p} (hq:Irr q) (h:Dv q a):Dv (mon q) a:=(Cy hq.ne).2 h
theorem SInv.small {a0 a:Fp p} {n:Nat} {k:Int} {out:od p} (h:SInv a0 k a out) (_hn:n≤12) (hk:p^n≤k):Bm n a:=by
 intro q hq hd;have h1:=h.ge _ hq.mon (px hq.ne) (Xa hq hd);have h2:=Ea (mon q);rw [uu hq.ne] at h2;apply f7;intro hx;have:=qe (p:=p) (by have:=IsP.pos (p:=p); omega) (show q.len≤n by omega)
 omega
theorem SInv.step {a0 a:Fp p} {n:Nat} {k:Int} {out:od p} (h:SInv a0 k a out) (hn1:1≤n) (hn:n≤12) (hk:p^n≤k) (hk2:k<2*p^n) {j:Nat} {r:Fp p} (h1:a=r*pw (pb p k) j) (h2:¬ Dv (pb p k) r) :
 SInv a0 (k+1) r (if j=0 then out else out++[(pb p k,j)]):=by
 obtain ⟨m1,m2⟩:=Dp hn hk hk2;have hb:=tu (p:=p) hn;have hpos:=qx (p:=p) n;have hnum:gf (pb p k)=k:=yx ⟨by omega,by omega⟩
 have hr0:r≠0:=fun h0=>h.ne (by rw [h1,h0,Gq.zero_mul])
 have ge':∀q,Irr q→Monic q→Dv q r→k+1≤gf q:=by
  intro q hq hm hd;have g1:=h.ge q hq hm (by rw [h1]; exact hd.mul_right _)
  have g2:gf q≠k:=fun e=>by
   have:q=pb p k:=Na (by rw [e,hnum])
   exact h2 (this▸hd)
  omega
 by_cases hj:j=0
 ·subst hj
  rw [if_pos rfl];rw [pw,Gq.mul_one] at h1;subst h1;exact ⟨h.ne,h.eq,h.ok,h.so,fun x hx=>by have:=h.lt x hx; omega,ge',h.ln⟩
 ·rw [if_neg hj]
  have hda:Dv (pb p k) a:=by
   obtain ⟨i,rfl⟩:∃i,j=i+1:=⟨j-1,by omega⟩
   rw [h1,pw];exact ((Dv.refl _).mul_left _).mul_left _
  have hi:Irr (pb p k):=by
   refine Irr.of_dv (by omega) fun u hu=>?_
   have hul:=hu.len m1.2
   have hu0:u≠0:=fun h0=>by
    obtain ⟨c,hc⟩:=hu;exact m1.2 (by rw [hc,h0,Gq.zero_mul])
   have hup:=Pol.len_pos hu0
   by_cases hu1:u.len=1
   ·exact .inl hu1
   ·right
    obtain ⟨q,q1,q2,q3⟩:=Gu u.len u (ba _) (by omega)
    have g1:=h.ge q q1 q2 ((q3.trans hu).trans hda);have g2:=q3.len hu0;apply f7;intro hx;have g3:=vh (a:=q) (b:=pb p k) (by omega)
    omega
  have hlt:r.len<a.len:=by
   obtain ⟨i,rfl⟩:∃i,j=i+1:=⟨j-1,by omega⟩
   have hi0:=Mn hi.ne i;have l1:=Pol.len_mul hi0 hi.ne;have l2:=Pol.len_mul hr0 (Pol.mul_ne hi0 hi.ne);have l3:=Pol.len_pos hi0;rw [h1,pw]; omega
  refine ⟨hr0,?_,h.ok.snoc hi m1 (by omega) fun x hx e=>?_,?_,?_,ge',?_⟩
  ·rw [h.eq,zh]
   conv=>lhs; rw [h1]
   exact cu [r,pw (pb p k) j,oa out] rfl
  ·have:=h.lt x hx
   rw [e,hnum] at this; omega
  ·rw [iu]
   refine ⟨h.so,fk _ _,fun x hx y hy=>?_⟩
   simp at hy; subst hy;have:=h.lt x hx;rw [hnum]; exact this
  ·intro x hx
   rcases bp.1 hx with hx | hx
   ·have:=h.lt x hx; omega
   ·simp at hx; subst hx; rw [hnum]; omega
  ·have:=h.ln
   simp; omega
theorem SInv.next {a0 a:Fp p} {n:Nat} {out:od p} (h:SInv a0 (2*p^n) a out) (hn:n≤11):SInv a0 (p^(n+1)) a out:=by
 refine ⟨h.ne,h.eq,h.ok,h.so,fun x hx=>?_,fun q hq hm hd=>?_,h.ln⟩
 ·have:=h.lt x hx
  have:=Nk (p:=p) n;omega
 ·have h1:=h.ge q hq hm hd
  have hq0:=Pol.len_pos hm.2;rcases dx (n+1) q.len with h2 | h2
  ·obtain ⟨d,hd'⟩:∃d,q.len=d+1:=⟨q.len-1,by omega⟩
   have hl:=hd.len h.ne;have hln:=h.ln;have h3:=ub (n:=d) (by omega) hm hd'
   have:=qe (p:=p) (by have:=IsP.pos (p:=p); omega) (show n+1≤d by omega)
   omega
  ·exfalso
   obtain ⟨d,hd'⟩:∃d,q.len=d+1:=⟨q.len-1,by omega⟩
   have h3:=ub (n:=d) (by omega) hm hd'
   have:=qe (p:=p) (by have:=IsP.pos (p:=p); omega) (show d≤n by omega)
   omega
theorem SInv.init {a:Fp p} (ha:a≠0) (hl:a.len≤13):SInv a (p^1) a []:=
 ⟨ha,(Gq.mul_one a).symm,⟨by simp,.nil⟩,.nil,by simp,fun q hq hm _=>by
  have h1:=hq.len;obtain ⟨d,hd'⟩:∃d,q.len=d+1:=⟨q.len-1,by omega⟩
  by_cases hd12:d≤12
  ·have h3:=ub (n:=d) hd12 hm hd'
   have:=qe (p:=p) (by have:=IsP.pos (p:=p); omega) (show 1≤d by omega)
   omega
  ·have h4:=vh (a:=pb p (p^1)) (b:=q) (by
    have:=(Dp (p:=p) (n:=1) (by omega) (B8 _) (by have:=qx (p:=p) 1; omega)).2
    omega)
   have h5:gf (pb p (p^1))=p^1:=yx ⟨Int.le_of_lt (qx 1),by have:=tu (p:=p) (n:=1) (by omega); omega⟩
   omega,by simpa using hl⟩
theorem SEnd.fac {a0 a:Fp p} {out:od p} (h:SEnd a0 a out) (h0:a0≠0):Pe.fac a0=if 2≤a.len then out++[(mon a,1)] else out:=by
 apply a71 h0;have hP:=A5 h.ok;have hld:a0.ld=a.ld:=by rw [h.eq,Pol.ld_mul h.ne hP.2,hP.1,Gq.mul_one]
 split
 ·rename_i hl
  obtain ⟨hi,hx⟩:=h.irr hl;refine ⟨h.ok.snoc hi.mon (px h.ne) (ba 1) fun x hx' e=>?_,?_,?_⟩
  ·have:=hx x hx'
   rw [e] at this; omega
  ·rw [iu]
   refine ⟨h.so,fk _ _,fun x hx' y hy=>?_⟩
   simp at hy; subst hy; exact hx x hx'
  ·rw [zh,hld]
   show a0=Pol.C a.ld*(oa out*pw (mon a) 1);rw [Dz,h.eq]
   conv=>lhs; rw [a6f h.ne]
   exact cu [Pol.C a.ld,mon a,oa out] rfl
 ·rename_i hl
  have hp:=Pol.len_pos h.ne;obtain ⟨c,hc,rfl⟩:=pq (show a.len=1 by omega)
  refine ⟨h.ok,h.so,?_⟩;rw [hld,Pol.ld_C hc]; exact h.eq
end
section
variable {p:Int} [IsP p]
end
section
variable {p:Int} [IsP p]
end
section
variable {p:Int} [IsP p]
end
end Pe
namespace Pe
open Go Gq
variable {T:Nat→Option Fn} {A:am}
open Classical in
def S1 (O:am):Prop:=∀(p:Int) [IsP p] (a:Fp p),a.len≤13→ask O F18 [(D.int .i64 p),(D.sl .leaf (aq .i64 (row a)))]=some (D.bool (decide (Monic a∧Irr a)))
open Classical in
theorem aag (hT:T F18=some Z18) (hld:xq (den T A)) (hdg:po (den T A)) (hf:a7u (den T A)):S1 (den T A):=by
 intro p i a hal;have e1:=hld (row a) (by rw [ca]; omega)
 rw [H0] at e1;have e2:=hdg (row a) (by rw [ca]; omega)
 rw [ca] at e2;refine c9 hT rfl ?_
 by_cases h1:a.ld=1
 ·have h1':=(Au a.ld).2 h1
  have hM:=(O1 a).2 h1;rw [h1'] at e1
  by_cases h2:2≤a.len
  ·obtain ⟨f1,f2,e3⟩:=hf p a hM.2 hal
   have hiff:=aal hM f1;have hlt:¬ ((a.len:Int)-1<1):=by omega
   have hlt2:¬ ((a.len:Int)<2):=by omega
   have hlt3:(2:Int)≤a.len:=by omega
   have key:(∃q,fac a=[(q,1)])↔(Monic a∧Irr a):=⟨fun h=>⟨hM,hiff.1 h⟩,fun h=>hiff.2 h.2⟩
   generalize fac a=L at *;cases L with
   | nil=>
    rw [decide_eq_false (fun h0=>by obtain ⟨q,h⟩:=key.2 h0; cases h)]
    simp -implicitDefEqProofs [Z18,Z18_B,ap,e1,e2,e3,hlt]
   | cons x L=>
    cases L with
    | nil=>
     obtain ⟨q,k⟩:=x
     by_cases hk:k=1
     ·subst hk
      rw [decide_eq_true (key.1 ⟨q,rfl⟩)];simp -implicitDefEqProofs [Z18,Z18_B,ap,e1,e2,e3,hlt,q9]
     ·rw [decide_eq_false (fun h0=>by obtain ⟨q',h⟩:=key.2 h0; simp at h; exact hk h.2)]
      have hk':¬ ((k:Int)=1):=by omega
      simp -implicitDefEqProofs [Z18,Z18_B,ap,e1,e2,e3,hlt,q9,hk']
    | cons y L=>
     rw [decide_eq_false (fun h0=>by obtain ⟨q',h⟩:=key.2 h0; simp at h)]
     have hk':¬ (((L.length:Int)+1+1)=1):=by omega
     simp -implicitDefEqProofs [Z18,Z18_B,ap,e1,e2,e3,hlt,hk']
  ·have hlt:((a.len:Int)-1<1):=by omega
   have hlt2:((a.len:Int)<2):=by omega
   rw [decide_eq_false (fun h=>h2 h.2.len)]
   simp -implicitDefEqProofs [Z18,Z18_B,ap,e1,e2,hlt]
 ·have h1':=mt (Au a.ld).1 h1
  rw [decide_eq_false (fun h=>h1 h.1.1)]
  simp -implicitDefEqProofs [Z18,Z18_B,ap,e1,h1']
def Mo (O:am):Prop:=∀(p:Int) (l:List Int),m9 l→l.length=64→ask O F6 [(D.int .i64 p),(D.arr 64 .leaf (aq .u8 l))]=some (D.bool (isP p&&wo p l))
theorem a4y (hT:T F6=some Z6) (hp:Gh (den T A)) (hi:Ej (den T A)):Mo (den T A):=by
 intro p l hb hl;have e1:=hp p;have e2:=hi p l hb hl;refine c9 hT rfl ?_
 by_cases h:isP p=true
 ·simp -implicitDefEqProofs [Z6,Z6_B,e1,e2,h]
 ·simp -implicitDefEqProofs [Z6,Z6_B,e1,h]
structure Fld {p:Int} [IsP p] (m:Fp p):Prop where
 mon:Monic m
 two:2≤m.len
 five:m.len≤5
 irr:Irr m
def I7 (p:Int) (l:List Int):Prop:=∃(_:IsP p) (m:Fp p),l=pad (row m)∧Fld m
theorem Ow {p:Int} {l:List Int} (h:isP p=true→wo p l=false):¬ I7 p l:=by
 rintro ⟨ip,m,rfl,hm⟩
 have:=h Eb;rw [A8] at this;cases this
theorem rk {p:Int} [IsP p] {a:Fp p} (hl:a.len≤64):I7 p (pad (row a))↔Fld a:=by
 constructor
 ·rintro ⟨ip,m,e,hm⟩
  have hml:=hm.five;rw [(s9 hl (by omega)).1 e]
  exact hm
 ·intro h; exact ⟨_,a,rfl,h⟩
open Classical in
def Gm (O:am):Prop:=∀(p:Int) (l:List Int),m9 l→l.length=64→ask O Ft [(D.int .i64 p),(D.arr 64 .leaf (aq .u8 l))]=some (D.bool (decide (I7 p l)))
open Classical in
theorem a3o (hT:T Ft=some Zt) (hro:G8 (den T A)) (hip:Mo (den T A)) (hdg:po (den T A)) (hwi:E4 (den T A)) (hir:S1 (den T A)):Gm (den T A):=by
 intro p l hb hl;have e1:=hro l hb hl;have e2:=hip p l hb hl;refine c9 hT rfl ?_;rcases ajx p hb hl with ⟨h1,h2⟩ | ⟨ip,a,hal,rfl⟩
 ·have h3:(isP p&&wo p l)=false:=by
   cases hx:isP p
   ·rfl
   ·rw [h2 hx]; rfl
  rw [decide_eq_false (Ow h2)];rw [h3] at e2;simp -implicitDefEqProofs [Zt,Zt_B,e1,e2]
 ·rw [Eb,A8] at e2
  rw [Ju a hal] at e1;have e3:=hdg (row a) (by rw [ca]; omega)
  rw [ca] at e3;have e4:=hwi ((a.len:Int)-1) 1 4
  by_cases h:2≤a.len∧a.len≤5
  ·have h3:decide ((1:Int)≤(a.len:Int)-1∧(a.len:Int)-1≤4)=true:=decide_eq_true (by omega)
   rw [h3] at e4;have e5:=hir p a (by omega)
   have h6:decide (I7 p (pad (row a)))=decide (Monic a∧Irr a):=decide_eq_decide.2 ((rk hal).trans ⟨fun g=>⟨g.mon,g.irr⟩,fun g=>⟨g.1,h.1,h.2,g.2⟩⟩)
   rw [h6];generalize pad (row a)=Pa,decide (Monic a∧Irr a)=b at *;simp -implicitDefEqProofs [Zt,Zt_B,e1,e2,e3,e4,e5]
  ·have h3:decide ((1:Int)≤(a.len:Int)-1∧(a.len:Int)-1≤4)=false:=decide_eq_false (by omega)
   rw [h3] at e4;rw [decide_eq_false (fun g=>h ⟨((rk hal).1 g).two,((rk hal).1 g).five⟩)]
   generalize pad (row a)=Pa at *;simp -implicitDefEqProofs [Zt,Zt_B,e1,e2,e3,e4]
open Classical in
def Mp (O:am):Prop:=∀(p:Int) (l:List Int),m9 l→l.length=64→ask O F3w [(D.int .i64 p),(D.arr 64 .leaf (aq .u8 l))]=some (D.bool (decide (I7 p l)))
open Classical in
theorem a7f (hT:T F3w=some Z3w) (his:a14 (den T A)) (hmo:My (den T A)) (hdg:jw (den T A)) (hin:a1p (den T A)) (hir:Wj (den T A)):Mp (den T A):=by
 intro p l hb hl;have e1:=his p l hb hl;refine c9 hT rfl ?_;rcases ajx p hb hl with ⟨h1,h2⟩ | ⟨ip,a,hal,rfl⟩
 ·have h3:(wo p l&&isP p)=false:=by
   cases hx:isP p
   ·rw [Bool.and_false]
   ·rw [h2 hx]; rfl
  rw [decide_eq_false (Ow h2)];rw [h3] at e1;simp -implicitDefEqProofs [Z3w,Z3w_B,e1]
 ·rw [Eb,A8] at e1
  have e2:=hmo p a hal;have e3:=hdg p a hal;have e4:=hin ((a.len:Int)-1) 1 4
  by_cases hM:Monic a
  ·rw [decide_eq_true hM] at e2
   by_cases h:2≤a.len∧a.len≤5
   ·have h3:decide ((1:Int)≤(a.len:Int)-1∧(a.len:Int)-1≤4)=true:=decide_eq_true (by omega)
    rw [h3] at e4;have e5:=hir p a hM.2 (by omega)
    have h6:decide (I7 p (pad (row a)))=decide (Irr a):=decide_eq_decide.2 ((rk hal).trans ⟨fun g=>g.irr,fun g=>⟨hM,h.1,h.2,g⟩⟩)
    rw [h6];generalize pad (row a)=Pa,decide (Irr a)=b at *;simp -implicitDefEqProofs [Z3w,Z3w_B,e1,e2,e3,e4,e5]
   ·have h3:decide ((1:Int)≤(a.len:Int)-1∧(a.len:Int)-1≤4)=false:=decide_eq_false (by omega)
    rw [h3] at e4;rw [decide_eq_false (fun g=>h ⟨((rk hal).1 g).two,((rk hal).1 g).five⟩)]
    generalize pad (row a)=Pa at *;simp -implicitDefEqProofs [Z3w,Z3w_B,e1,e2,e3,e4]
  ·rw [decide_eq_false hM] at e2
   rw [decide_eq_false (fun g=>hM ((rk hal).1 g).mon)]
   generalize pad (row a)=Pa at *;simp -implicitDefEqProofs [Z3w,Z3w_B,e1,e2]
def ui {p:Int} [IsP p] (m:Fp p) (l:List Int):Prop:=∃a:Fp p,a.len<m.len∧l=pad (row a)
noncomputable abbrev fw {p:Int} (m:Fp p):D:=.st [.leaf,.leaf] [.int .i64 p,(D.sl .leaf (aq .i64 (row m)))]
open Classical in
def J0 (O:am):Prop:=∀(p:Int) [IsP p] (m:Fp p) (l:List Int),m.len≤64→m9 l→l.length=64→ask O Fk [fw m,(D.arr 64 .leaf (aq .u8 l))]=some (D.bool (decide (ui m l)))
theorem Nw {p:Int} [IsP p] {m a:Fp p} (hm:m.len≤64) (ha:a.len≤64):ui m (pad (row a))↔a.len<m.len:=by
 constructor
 ·rintro ⟨b,h1,h2⟩
  rw [(s9 ha (by omega)).1 h2]; exact h1
 ·intro h; exact ⟨a,h,rfl⟩
open Classical in
theorem aaw (hT:T Fk=some Zk) (hi:Ej (den T A)) (hro:G8 (den T A)) (hdg:po (den T A)):J0 (den T A):=by
 intro p ip m l hm hb hl;have e1:=hi p l hb hl;refine c9 hT rfl ?_
 by_cases h:wo p l=true
 ·obtain ⟨a,hal,rfl⟩:=Ac hb hl h
  rw [h] at e1;have e2:=hro _ hb hl;rw [Ju a hal] at e2;have e3:=hdg (row a) (by rw [ca]; omega)
  rw [ca] at e3;have e4:=hdg (row m) (by rw [ca]; omega)
  rw [ca] at e4;have h5:decide ((a.len:Int)-1<(m.len:Int)-1)=decide (ui m (pad (row a))):=decide_eq_decide.2 ((show _↔a.len<m.len by omega).trans (Nw hm hal).symm)
  rw [←h5];generalize pad (row a)=Pa at *;simp -implicitDefEqProofs [Zk,Zk_B,e1,e2,e3,e4]
 ·rw [decide_eq_false (fun ⟨a,h1,h2⟩=>h (by rw [h2]; exact A8))]
  have h':wo p l=false:=by simpa using h
  rw [h'] at e1;simp -implicitDefEqProofs [Zk,Zk_B,e1]
open Classical in
def R9 (O:am):Prop:=∀(p:Int) [IsP p] (m:Fp p) (l:List Int),m.len≤64→m9 l→l.length=64→ask O F41 [(D.int .i64 p),(D.arr 64 .leaf (aq .u8 (pad (row m)))),(D.arr 64 .leaf (aq .u8 l))]=some (D.bool (decide (ui m l)))
open Classical in
theorem ad9 (hT:T F41=some Z41) (hi:a14 (den T A)) (hdg:jw (den T A)):R9 (den T A):=by
 intro p ip m l hm hb hl;have e1:=hi p l hb hl;refine c9 hT rfl ?_
 by_cases h:wo p l=true
 ·obtain ⟨a,hal,rfl⟩:=Ac hb hl h
  rw [h,Eb] at e1;have e3:=hdg p a hal;have e4:=hdg p m hm;have h5:decide ((a.len:Int)-1<(m.len:Int)-1)=decide (ui m (pad (row a))):=decide_eq_decide.2 ((show _↔a.len<m.len by omega).trans (Nw hm hal).symm)
  rw [←h5];generalize pad (row m)=Pm,pad (row a)=Pa at *;simp -implicitDefEqProofs [Z41,Z41_B,e1,e3,e4]
 ·rw [decide_eq_false (fun ⟨a,h1,h2⟩=>h (by rw [h2]; exact A8))]
  have h':(wo p l&&isP p)=false:=by
   have:wo p l=false:=by simpa using h
   rw [this]; rfl
  rw [h'] at e1;generalize pad (row m)=Pm at *;simp -implicitDefEqProofs [Z41,Z41_B,e1]
def xv (O:am):Prop:=∀(p:Int) [IsP p] (m:Fp p),m.len≤64→ask O Fe [(D.int .i64 p),(D.arr 64 .leaf (aq .u8 (pad (row m))))]=some (fw m)
theorem a28 (hT:T Fe=some Ze) (hro:zd (den T A)):xv (den T A):=by
 intro p ip m hm;have e1:=hro p m hm;refine c9 hT rfl ?_;generalize pad (row m)=Pm at *;simp -implicitDefEqProofs [Ze,Ze_B,e1,List.replicate]
end Pe
namespace Pe
open Go Gq
variable {T:Nat→Option Fn} {A:am}
section
variable {p:Int} [IsP p]
noncomputable def ef (m:Fp p):Nat→Fp p→Fp p
 | 0,a=>a
 | k+1,a=>ef m k (pw a p.toNat%m)
theorem n7 {m:Fp p} (hm:m≠0):∀(k:Nat) (a:Fp p),a.len<m.len→(ef m k a).len<m.len
 | 0,_,h=>h
 | k+1,_a,_=>n7 hm k _ (Pol.len_mod _ hm)
theorem Qx {m:Fp p}:∀(k:Nat) (a:Fp p),Quo.mk m (ef m k a)=pw (Quo.mk m a) (p.toNat^k)
 | 0,a=>by rw [t4,Dz]; rfl
 | k+1,a=>by
  show Quo.mk m (ef m k (pw a p.toNat%m))=_;rw [Qx k,Pol.mk_mod,Quo.mk_pow,xw,qi,zy]
theorem G1 {m:Fp p} (hm:Fld m) (k:Nat) {a:Fp p} (ha:a.len<m.len):ef m (k%(m.len-1)) a=ef m k a:=by
 have h2:=hm.two;have h5:=hm.five
 have small:p^(m.len-1)<1000000000000:=by
  have h1:=qe (p:=p) (by have:=IsP.pos (p:=p); omega) (show m.len-1≤12 by omega)
  have h7:=tu (p:=p) (n:=12) (by omega)
  omega
 have hd:∀x:Quo m,pw x (p.toNat^(m.len-1))=x:=L5 hm.irr (by omega) small
 have hq:∀(q:Nat) (x:Quo m),pw x (p.toNat^((m.len-1)*q))=x:=by
  intro q
  induction q with
  | zero=>intro x; rw [zz,t4,Dz]
  | succ q ih=>intro x; rw [Nat.mul_succ,Nat.pow_add,←xw,ih,hd]
 have h0:m≠0:=hm.mon.2
 have e:Quo.mk m (ef m (k%(m.len-1)) a)=Quo.mk m (ef m k a):=by
  rw [Qx,Qx];have hk:k=(m.len-1)*(k/(m.len-1))+k%(m.len-1):=(Nat.div_add_mod k (m.len-1)).symm;have:p.toNat^k=p.toNat^((m.len-1)*(k/(m.len-1)))*p.toNat^(k%(m.len-1)):=by rw [←Nat.pow_add,←hk]
  rw [this,←xw,hq]
 have e2:=(Pol.mod_eq_iff h0).2 e
 rwa [Pol.mod_small (n7 h0 _ _ ha),Pol.mod_small (n7 h0 _ _ ha)] at e2
noncomputable def jp (m a:Fp p):Fp p:=(Pol.bezout a m).2.1%m
theorem T2 {m:Fp p} (hm:m≠0) (a:Fp p):(jp m a).len<m.len:=Pol.len_mod _ hm
theorem Qt {m a:Fp p} (hm:Fld m) (ha:a≠0) (hal:a.len<m.len):Quo.mk m (jp m a)*Quo.mk m a=1:=by
 have h0:m≠0:=hm.mon.2;have e:=Pol.bezout_eq (a:=a) (b:=m) (.inl ha)
 have hg:Pol.gcd a m=1:=by
  have h1:=Pol.gcd_monic (a:=a) (b:=m) (.inl ha);have h2:=Pol.gcd_dv_left (a:=a) (b:=m) (.inl ha);have h3:=Pol.gcd_dv_right (a:=a) (b:=m) (.inl ha);refine h1.eq_one ?_;rcases hm.irr.dv h3 with h | h
  ·exact h
  ·have:=h2.len ha
   omega
 rw [hg] at e;unfold jp;rw [Pol.mk_mod];have:Quo.mk m ((Pol.bezout a m).2.1*a+(Pol.bezout a m).2.2*m)=Quo.mk m 1:=by rw [e]
 rw [Quo.mk_add,Quo.mk_mul,Quo.mk_mul] at this;have hm0:Quo.mk m m=0:=qd.1 (Dv.refl m);rw [hm0,Gq.mul_zero,Gq.add_zero] at this;exact this
end
theorem a84 {p:Int} [IsP p] {a b:Fp p} {n:Nat} (ha:a.len≤n) (hb:b.len≤n):(a*b).len≤2*n:=by
 by_cases h:a=0
 ·rw [h,Gq.zero_mul,Pol.len_zero]; omega
 ·by_cases h2:b=0
  ·rw [h2,Gq.mul_zero,Pol.len_zero]; omega
  ·have:=Pol.len_mul h h2; omega
def jl (O:am):Prop:=∀(p:Int) [IsP p] (m a b:Fp p),m≠0→m.len≤64→a.len≤1000→b.len≤1000→ask O Fm [fw m,(D.sl .leaf (aq .i64 (row a))),(D.sl .leaf (aq .i64 (row b)))]=some (D.sl .leaf (aq .i64 (row (a*b%m))))
theorem a3k (hT:T Fm=some Zm) (ht:yr (den T A)) (hr:B5 (den T A)):jl (den T A):=by
 intro p ip m a b hm hml ha hb;have e1:=ht p a b (by omega) (by omega)
 have hl:=a84 (n:=1000) ha hb;have e2:=hr p (a*b) m hm (by omega) (by omega)
 refine c9 hT rfl ?_;simp -implicitDefEqProofs [Zm,Zm_B,e1,e2]
theorem a7x {O:am} (hpw:zg O) {p:Int} [IsP p] {m:Fp p} (hm:m≠0) (hml:m.len≤64) {n:Nat} (hn:n<1000000):∀(k i:Nat) (a:Fp p),i+k=n→a.len≤1000 →
 dn O 0 (.loop Zi_L0) ⟨[(1,(.d (.sl .leaf (aq .i64 (row a))))),(3,.ptr 0 []),(11,(.d (.int .i64 n))),(12,(.d (.int .i64 i)))],[.box false (fw m)]⟩ =
  some (.exit 0,⟨[(1,(.d (.sl .leaf (aq .i64 (row (ef m k a)))))),(3,.ptr 0 []),(11,(.d (.int .i64 n))),(12,(.d (.int .i64 n))),(13,(.d (.bool false)))],[.box false (fw m)]⟩)
 | 0,i,a,hi,ha=>by
  obtain rfl:i=n:=by omega
  exact bu (by simp -implicitDefEqProofs [Zi_L0,ap,ef])
 | k+1,i,a,hi,ha=>by
  have hp:=IsP.pos (p:=p);have hp7:=IsP.le (p:=p);have hlt:i<n:=by omega
  have w4:=wi i;have e1:=hpw p a p m hm (by omega) (by omega) (by omega) (by omega)
  have hl:=Pol.len_mod (pw a p.toNat) hm;refine bn ?_ (a7x hpw hm hml hn k (i+1) (pw a p.toNat%m) (by omega) (by omega))
  simp -implicitDefEqProofs [Zi_L0,ap,hlt,e1,w4]
def sk (O:am):Prop:=∀(p:Int) [IsP p] (m a:Fp p) (k:Nat),2≤m.len→m.len≤64→a.len≤1000→k<1000000→ask O Fi [fw m,(D.sl .leaf (aq .i64 (row a))),(D.int .i64 k)]=some (D.sl .leaf (aq .i64 (row (ef m (k%(m.len-1)) a))))
theorem adw (hT:T Fi=some Zi) (hpw:zg (den T A)) (hdg:po (den T A)):sk (den T A):=by
 intro p ip m a k h2 hml ha hk;have hm:m≠0:=fun h=>by rw [h,Pol.len_zero] at h2; omega
 have e1:=hdg (row m) (by rw [ca]; omega)
 rw [ca,show ((m.len:Int)-1)=((m.len-1:Nat):Int) by omega] at e1
 have hlt:=Nat.mod_lt k (show 0<m.len-1 by omega)
 have e2:=a7x (O:=den T A) hpw hm hml (n:=k%(m.len-1)) (by omega) (k%(m.len-1)) 0 a (b9 _) ha
 have e00:((0:Nat):Int)=0:=rfl;rw [e00] at e2;have w1:(k:Int).tmod ((m.len-1:Nat):Int)=((k%(m.len-1):Nat):Int):=by rw [d9 (by omega)]; rfl
 have h0:((m.len-1:Nat):Int)≠0:=by omega
 refine c9 hT rfl ?_;generalize ((m.len-1:Nat):Int)=m1,((k%(m.len-1):Nat):Int)=n1,row (ef m (k%(m.len-1)) a)=R at *;simp -implicitDefEqProofs [Zi,Zi_B,e1,e2,w1,h0]
def rx (O:am):Prop:=∀(p:Int) [IsP p] (m a:Fp p),m≠0→m.len≤64→a.len≤1000→ask O Fj [fw m,(D.sl .leaf (aq .i64 (row a)))]=some (D.sl .leaf (aq .i64 (row (jp m a))))
theorem a3s {p:Int} [IsP p] {a b:Fp p} (h:a≠0∨b≠0) (_ha:a.len≤1000) (hb:b.len≤1000):(Pol.bezout a b).2.1.len<5000:=by
 obtain ⟨x,y,hi,_,_⟩:=Pol.bz_spec b.len a b 1 0 0 1 (ba _) (Pol.BzI.init h);have h1:=hi.lu;rw [Pol.len_zero] at h1;have:(Pol.bezout a b).2.1.len≤(Pol.bz b.len a b 1 0 0 1).2.1.len:=Pol.len_le (Pol.lt_Cmul _ (Pol.lt_len _));omega
theorem Vc (hT:T Fj=some Zj) (hb:G2 (den T A)) (hr:B5 (den T A)):rx (den T A):=by
 intro p ip m a hm hml ha;have e1:=hb p a m (.inr hm) (by omega) (by omega)
 have hl:=a3s (a:=a) (b:=m) (.inr hm) ha (by omega)
 have e2:=hr p (Pol.bezout a m).2.1 m hm hl (by omega)
 have e3:(Pol.bezout a m).2.1%m=jp m a:=rfl;rw [e3] at e2;refine c9 hT rfl ?_;generalize row (Pol.bezout a m).2.2=R3,row (Pol.bezout a m).2.1=R2,row (Pol.bezout a m).1=R1,row (jp m a)=R at *;simp -implicitDefEqProofs [Zj,Zj_B,e1,e2]
theorem ae5 {p:Int} [IsP p] {a b:Fp p} (h:a≠0) (hb:b.len≤63):(Pol.bezout a b).2.1.len≤64:=by
 obtain ⟨x,y,hi,_,_⟩:=Pol.bz_spec b.len a b 1 0 0 1 (ba _) (Pol.BzI.init (.inl h));have h1:=hi.lu;rw [Pol.len_zero] at h1;have:(Pol.bezout a b).2.1.len≤(Pol.bz b.len a b 1 0 0 1).2.1.len:=Pol.len_le (Pol.lt_Cmul _ (Pol.lt_len _));omega
section
variable {p:Int} [IsP p]
theorem Vt {m:Fp p} (h2:2≤m.len):(1:Quo m)≠0:=fun h=>by
 have:Dv m 1:=qd.2 h;have:=this.len Pol.one_ne;rw [Pol.len_one] at this;omega
theorem adl {m c:Fp p} (hm:Fld m) (hc:c≠0) (hcl:c.len<m.len) (k:Nat):pw c k%m≠0∧(pw c k%m).len<m.len:=by
 have h0:m≠0:=hm.mon.2;refine ⟨fun h=>?_,Pol.len_mod _ h0⟩
 have h1:Quo.mk m (pw c k)=0:=by rw [←Pol.mk_mod,h]; rfl
 rw [Quo.mk_pow] at h1;have h2:=Qt hm hc hcl;have h3:pw (Quo.mk m (jp m c)*Quo.mk m c) k=0:=by rw [Ax,h1,Gq.mul_zero]
 rw [h2,Mr] at h3;exact Vt hm.two h3
end
def wj (O:am):Prop:=∀(l:List Int),m9 l→l.length=64→ask O F24 [(D.arr 64 .leaf (aq .u8 l))]=some (D.arr 64 .leaf (aq .u8 l))
theorem U0 {O:am} {l:List Int} (hb:m9 l) (hl:l.length=64) {b1:Blk}:∀(m i:Nat) (q:List Int),i+m=64→q.length=64→q.take i=l.take i →
 dn O 0 (.loop Z24_L0) ⟨[(1,.ptr 0 []),(2,.ptr 1 []),(3,.ptr 2 []),(4,(.d (.int .i64 i)))],[.box false (D.arr 64 .leaf (aq .u8 l)),b1,.box false (D.arr 64 .leaf (aq .u8 q))]⟩ =
  some (.exit 0,⟨[(1,.ptr 0 []),(2,.ptr 1 []),(3,.ptr 2 []),(4,(.d (.int .i64 64))),(6,(.d (.bool false)))],[.box false (D.arr 64 .leaf (aq .u8 l)),b1,.box false (D.arr 64 .leaf (aq .u8 l))]⟩)
 | 0,i,q,hi,hq,ht=>by
  obtain rfl:i=64:=by omega
  rw [aw (by omega),aw (by omega)] at ht
  subst ht;exact bu (by simp -implicitDefEqProofs [Z24_L0,ap])
 | m+1,i,q,hi,hq,ht=>by
  have hlt:i<64:=by omega
  have hlti:(i:Int)<64:=by omega
  have hlt':i<l.length:=by omega
  have hltq:i<q.length:=by omega
  have hx:l[i]=cf l i:=(ft hlt').symm;have w8':IntKind.u8.wrap (cf l i)=cf l i:=by rw [←hx]; exact w8 (hb _ (az _))
  have w4:=wi i;have hs:aq .u8 (q.set i (cf l i))=(aq .u8 q).set i (D.int .u8 (cf l i)):=by unfold aq; rw [dy]
  refine bn ?_ (U0 hb hl m (i+1) (q.set i (cf l i)) (by omega) (by rw [bx]; exact hq) (by
   rw [br hlt',br (by rw [bx]; exact hltq),mi,u9,jv (by rw [b8]; omega),ht,hx]))
  rw [hs];simp -implicitDefEqProofs [Z24_L0,ap,hlt,hlti,hx,hl,hq,w4]
theorem a9e (hT:T F24=some Z24):wj (den T A):=by
 intro l hb hl;have e:=U0 (O:=den T A) hb hl (b1:=.box false (.arr 64 .leaf (aq .u8 (pad [])))) 64 0 (List.replicate 64 0) rfl rfl (by simp)
 have e00:((0:Nat):Int)=0:=rfl;rw [e00] at e;have hz:List.replicate 64 (0:Int)=pad []:=rfl;rw [hz] at e;refine c9 hT rfl ?_;simp -implicitDefEqProofs [Z24,Z24_B,e]
theorem Ul {O:am} {l:List Int} (hl:l.length=64):∀(k i:Nat),i+k=64 →
 dn O 0 (.loop Z1z_L0) ⟨[(2,.ptr 0 []),(3,.ptr 1 []),(5,(.d (.int .i64 i)))],[.box false (D.arr 64 .leaf (aq .u8 l)),.box false (D.arr 64 .leaf (aq .u8 l))]⟩=some (.exit 0,⟨[(2,.ptr 0 []),(3,.ptr 1 []),(5,(.d (.int .i64 64))),(7,(.d (.bool false)))],[.box false (D.arr 64 .leaf (aq .u8 l)),.box false (D.arr 64 .leaf (aq .u8 l))]⟩)
 | 0,i,hi=>by
  obtain rfl:i=64:=by omega
  exact bu (by simp -implicitDefEqProofs [Z1z_L0,ap])
 | k+1,i,hi=>by
  have hlt:i<64:=by omega
  have hlti:(i:Int)<64:=by omega
  have hlt':i<l.length:=by omega
  have hx:l[i]=cf l i:=(ft hlt').symm;have w4:=wi i;refine bn ?_ (Ul hl k (i+1) (by omega))
  simp -implicitDefEqProofs [Z1z_L0,ap,hlt,hlti,hl,hx,w4]
def Em (O:am):Prop:=∀l:List Int,l.length=64→ask O F1z [(D.arr 64 .leaf (aq .u8 l)),(D.arr 64 .leaf (aq .u8 l))]=some (D.bool true)
theorem a6q (hT:T F1z=some Z1z):Em (den T A):=by
 intro l hl;have e:=Ul (O:=den T A) hl 64 0 rfl;have e00:((0:Nat):Int)=0:=rfl;rw [e00] at e;refine c9 hT rfl ?_;simp -implicitDefEqProofs [Z1z,Z1z_B,e,List.replicate]
noncomputable abbrev skD {p:Int} (a:List (Fp p)):D:=.sl .leaf (a.map fun c=>(D.sl .leaf (aq .i64 (row c))))
section
variable {p:Int} [IsP p]
noncomputable def svI (m x:Fp p):Nat→List (Fp p)→Fp p→Fp p
 | _,[],out=>out
 | i,c::cs,out=>svI m x (i+1) cs (out+c*ef m (i%(m.len-1)) x%m)
theorem Qz {m x:Fp p} (hm:m≠0):∀(i:Nat) (a:List (Fp p)) (out:Fp p),out.len<m.len→(svI m x i a out).len<m.len
 | _,[],_,h=>h
 | i,c::cs,out,h=>Qz hm (i+1) cs _ (by
  have h1:=Pol.len_mod (c*ef m (i%(m.len-1)) x) hm;have:=Pol.len_add_le (a:=out) (b:=c*ef m (i%(m.len-1)) x%m) (n:=m.len-1) (by omega) (by omega)
  omega)
end
section
variable {p:Int}
end
theorem a0y {O:am} (hfr:sk O) (hpr:jl O) (hco:rp O) {p:Int} [IsP p] {m x:Fp p} {a:List (Fp p)} (h2:2≤m.len) (hml:m.len≤64) (hx:x.len≤1000) (ha:a.length<100000) (hal:∀c∈a,c.len≤1000):∀(k i:Nat) (out:Fp p),i+k=a.length→out.len≤64 →
 dn O 0 (.loop Zq_L0) ⟨[(2,(.d (.sl .leaf (aq .i64 (row x))))),(3,.ptr 0 []),(7,(.d (.sl .leaf (aq .i64 (row out))))),(10,.d (skD a)),(11,(.d (.int .i64 a.length))),(12,(.d (.int .i64 i)))],[.box false (fw m)]⟩ =
  some (.exit 0,⟨[(2,(.d (.sl .leaf (aq .i64 (row x))))),(3,.ptr 0 []),(7,(.d (.sl .leaf (aq .i64 (row (svI m x i (a.drop i) out)))))),(10,.d (skD a)),(11,(.d (.int .i64 a.length))),(12,(.d (.int .i64 a.length))),(13,(.d (.bool false)))],[.box false (fw m)]⟩)
 | 0,i,out,hi,ho=>by
  obtain rfl:i=a.length:=by omega
  rw [fj];show _=some (_,(⟨[_,_,(7,(.d (.sl .leaf (aq .i64 (row out))))),_,_,_,_],_⟩:St));exact bu (by simp -implicitDefEqProofs [Zq_L0,ap])
 | k+1,i,out,hi,ho=>by
  have hm:m≠0:=fun h=>by rw [h,Pol.len_zero] at h2; omega
  have hlt:i<a.length:=by omega
  have hci:=hal _ (az hlt);have w4:=wi i;have e1:=hfr p m x i h2 hml hx (by omega)
  have hfl:(ef m (i%(m.len-1)) x).len≤1000:=by
   by_cases hz:i%(m.len-1)=0
   ·rw [hz]; exact hx
   ·obtain ⟨j,hj⟩:=Nat.exists_eq_succ_of_ne_zero hz
    rw [hj];have:=n7 hm j (pw x p.toNat%m) (Pol.len_mod _ hm);show (ef m j (pw x p.toNat%m)).len≤1000;omega
  have e2:=hpr p m a[i] (ef m (i%(m.len-1)) x) hm hml hci hfl;have hl:=Pol.len_mod (a[i]*ef m (i%(m.len-1)) x) hm;have e3:=hco p out (a[i]*ef m (i%(m.len-1)) x%m) (by omega) (by omega)
  have hl2:=Pol.len_add_le (a:=out) (b:=a[i]*ef m (i%(m.len-1)) x%m) (n:=64) ho (by omega)
  have ih:=a0y hfr hpr hco h2 hml hx ha hal k (i+1) (out+a[i]*ef m (i%(m.len-1)) x%m) (by omega) hl2
  have hsv:svI m x i (a.drop i) out=svI m x (i+1) (a.drop (i+1)) (out+a[i]*ef m (i%(m.len-1)) x%m):=by
   rw [c8 hlt]; rfl
  rw [hsv];refine bn ?_ ih;generalize row (out+a[i]*ef m (i%(m.len-1)) x%m)=R1 at *;generalize row (a[i]*ef m (i%(m.len-1)) x%m)=R2 at *;generalize row (ef m (i%(m.len-1)) x)=R3 at *;simp -implicitDefEqProofs [Zq_L0,ap,hlt,e1,e2,e3,w4]
def Jd (O:am):Prop:=∀(p:Int) [IsP p] (m x:Fp p) (a:List (Fp p)),2≤m.len→m.len≤64→x.len≤1000→a.length<100000→(∀c∈a,c.len≤1000)→ask O Fq [fw m,skD a,(D.sl .leaf (aq .i64 (row x)))]=some (D.sl .leaf (aq .i64 (row (svI m x 0 a 0))))
theorem ab7 (hT:T Fq=some Zq) (hfr:sk (den T A)) (hpr:jl (den T A)) (hco:rp (den T A)):Jd (den T A):=by
 intro p ip m x a h2 hml hx ha hal;have e:=a0y (O:=den T A) hfr hpr hco h2 hml hx ha hal a.length 0 0 (b9 _) (by rw [Pol.len_zero]; omega)
 have e00:((0:Nat):Int)=0:=rfl;rw [e00,dj,i6,dh] at e;refine c9 hT rfl ?_;generalize row (svI m x 0 a 0)=R at *;simp -implicitDefEqProofs [Zq,Zq_B,e]
abbrev Ck (ls:List (List Int)):D:=.arr 8 (.arr 64 .leaf) (ls.map bh)
theorem a7t {p:Int} [IsP p] {m:Fp p} {ls:List (List Int)} (hm:m.len≤64) (h:wq ls) (hi:J0 (den T A)):∃P:D→Bool,(∀l∈ls,P (bh l)=true↔ui m l)∧vp (den T A) Fk [fw m] [] (ls.map bh) P:=by
 classical
 refine ⟨fun x=>decide (ui m x.nums),fun l hl=>by show decide (ui m (bh l).nums)=true↔_; rw [On]; simp,fun x hx=>by simp at hx; subst hx; rfl,fun x hx=>by simp at hx,fun x hx=>?_,fun x hx=>?_⟩
 ·obtain ⟨n,_,rfl⟩:=cn.1 hx; rfl
 ·obtain ⟨l,hl,rfl⟩:=cn.1 hx
  have e:=hi p m l hm (h l hl).2 (h l hl).1;show ask (den T A) _ _=some (.bool (decide (ui m (bh l).nums)));rw [On];exact e
def Mz {p:Int} [IsP p] (m:Fp p) (ls:List (List Int)):Prop:=∀l∈ls,ui m l
open Classical in
noncomputable def Gy (p:Int) (l:List Int) (ls:List (List Int)):Int:=if ∃(_:IsP p) (m:Fp p),l=pad (row m)∧Fld m∧∀x∈ls,ui m x then 0 else 1
theorem V0 {p:Int} [IsP p] {m:Fp p} (hm:Fld m) {Q:∀(_:IsP p),Fp p→Prop}:(∃(ip:IsP p) (m':Fp p),pad (row m)=pad (row m')∧Fld m'∧Q ip m')↔Q inferInstance m:=by
 have h5:=hm.five;constructor
 ·rintro ⟨ip,m',e,h1,h2⟩
  have h6:=h1.five;obtain rfl:=(s9 (by omega) (by omega)).1 e
  exact h2
 ·intro h; exact ⟨_,m,rfl,hm,h⟩
def uz (O:am) (F:Nat):Prop:=∀(p:Int) (l:List Int) (ls:List (List Int)),m9 l→l.length=64→wq ls→ls.length<2000000→ask O F [(D.int .i64 p),(D.arr 64 .leaf (aq .u8 l)),.sl (.arr 64 .leaf) (ls.map bh)]=some (D.int .i64 (Gy p l ls))
open Classical in
theorem a48 (hT:T F1l=some Z1l) (hif:Gm (den T A)) (hfo:xv (den T A)) (his:J0 (den T A)) (ha:Ch (den T A) Fa (.arr 64 .leaf)):uz (den T A) F1l:=by
 intro p l ls hb hl h hlen;have e1:=hif p l hb hl;refine c9 hT rfl ?_;unfold Gy
 by_cases hf:I7 p l
 ·rw [decide_eq_true hf] at e1
  obtain ⟨ip,m,rfl,hm⟩:=hf;have h5:=hm.five;have e2:=hfo p m (by omega)
  obtain ⟨P,hP,hF⟩:=a7t (m:=m) (by omega) h his
  have e3:=ha _ _ _ _ _ hF (fun x hx=>by obtain ⟨n,_,rfl⟩:=cn.1 hx; rfl) (by rw [af]; exact hlen)
  have hall:(ls.map bh).all P=true↔∀x∈ls,ui m x:=by
   rw [df];constructor
   ·intro h2 l hl; exact (hP l hl).1 (h2 _ (gu hl))
   ·intro h2 x hx
    obtain ⟨l,hl,rfl⟩:=cn.1 hx;exact (hP l hl).2 (h2 l hl)
  have hc:=(V0 hm (Q:=fun ip m'=>∀x∈ls,@ui p ip m' x)).trans hall.symm
  cases hb1:(ls.map bh).all P
  ·rw [hb1] at e3 hc
   rw [if_neg (fun h=>by have:=hc.1 h; cases this)]
   generalize ls.map bh=LD,pad (row m)=Pm at *;simp -implicitDefEqProofs [Z1l,Z1l_B,ap,e1,e2,e3]
  ·rw [hb1] at e3 hc
   rw [if_pos (hc.2 rfl)];generalize ls.map bh=LD,pad (row m)=Pm at *;simp -implicitDefEqProofs [Z1l,Z1l_B,ap,e1,e2,e3]
 ·rw [decide_eq_false hf] at e1
  rw [if_neg (fun ⟨ip,m,e,hm,_⟩=>hf ⟨ip,m,e,hm⟩)]
  generalize ls.map bh=LD at *;simp -implicitDefEqProofs [Z1l,Z1l_B,ap,e1]
end Pe
namespace Pe
open Go Gq
variable {T:Nat→Option Fn} {A:am}
theorem Bd {p:Int} [IsP p] {m:Fp p} {l:List Int} {ls:List (List Int)}:Mz m (l::ls)↔ui m l∧Mz m ls:=by simp [Mz]
theorem a7z {p:Int} [IsP p] (m:Fp p):Mz m []:=fun _ h=>by cases h
theorem a07 {O:am} (hpw:ve O) {p:Int} [IsP p] {m:Fp p} {z:List Int} (hm:m≠0) (hml:m.len≤64):∀(k:Nat) (a:Fp p),k<1000000→a.len≤64 →
 dn O 0 (.loop Z3x_L0) ⟨[(0,(.d (.int .i64 p))),(5,.ptr 0 []),(7,.ptr 1 []),(8,.ptr 2 []),(9,(.d (.int .i64 k)))],[.box false (D.arr 64 .leaf (aq .u8 (pad (row a)))),.box false (D.arr 64 .leaf (aq .u8 (pad (row m)))),.box false (D.arr 64 .leaf (aq .u8 z))]⟩ =
  some (.exit 0,⟨[(0,(.d (.int .i64 p))),(5,.ptr 0 []),(7,.ptr 1 []),(8,.ptr 2 []),(9,(.d (.int .i64 0))),(15,(.d (.bool false)))],[.box false (D.arr 64 .leaf (aq .u8 (pad (row (ef m k a))))),.box false (D.arr 64 .leaf (aq .u8 (pad (row m)))),.box false (D.arr 64 .leaf (aq .u8 z))]⟩)
 | 0,a,hk,ha=>by
  refine bu ?_;show _=some (_,(⟨_,[.box false (D.arr 64 .leaf (aq .u8 (pad (row a)))),_,_]⟩:St));generalize pad (row m)=Pm,pad (row a)=Pa at *;simp -implicitDefEqProofs [Z3x_L0,ap]
 | k+1,a,hk,ha=>by
  have hp:=IsP.pos (p:=p);have hp7:=IsP.le (p:=p);have w4:IntKind.i64.wrap (((k+1:Nat):Int)-1)=(k:Int):=wt;have hlt:(0:Int)<((k+1:Nat):Int):=by omega
  have e1:=hpw p a p m hm ha hml (by omega) (by omega)
  have hl:=Pol.len_mod (pw a p.toNat) hm;refine bn ?_ (a07 hpw hm hml k (pw a p.toNat%m) (by omega) (by omega))
  generalize pad (row m)=Pm,pad (row a)=Pa,pad (row (pw a p.toNat%m))=R,((k+1:Nat):Int)=k1 at *;simp -implicitDefEqProofs [Z3x_L0,ap,hlt,e1,w4]
def p8 (O:am):Prop:=∀(p:Int) [IsP p] (m a:Fp p) (k:Nat),2≤m.len→m.len≤64→a.len≤64→k<1000000→ask O F3x [(D.int .i64 p),(D.arr 64 .leaf (aq .u8 (pad (row a)))),(D.int .i64 k),(D.arr 64 .leaf (aq .u8 (pad (row m))))]=some (D.arr 64 .leaf (aq .u8 (pad (row (ef m (k%(m.len-1)) a)))))
theorem abw (hT:T F3x=some Z3x) (hpw:ve (den T A)) (hdg:jw (den T A)):p8 (den T A):=by
 intro p ip m a k h2 hml ha hk;have hm:m≠0:=fun h=>by rw [h,Pol.len_zero] at h2; omega
 have e1:=hdg p m hml;rw [show ((m.len:Int)-1)=((m.len-1:Nat):Int) by omega] at e1
 have hlt:=Nat.mod_lt k (show 0<m.len-1 by omega)
 have e2:=a07 (O:=den T A) (z:=pad []) hpw hm hml (k%(m.len-1)) a (by omega) ha
 have w1:(k:Int).tmod ((m.len-1:Nat):Int)=((k%(m.len-1):Nat):Int):=by rw [d9 (by omega)]; rfl
 have h0:((m.len-1:Nat):Int)≠0:=by omega
 refine c9 hT rfl ?_;generalize pad (row m)=Pm,pad (row a)=Pa,((m.len-1:Nat):Int)=m1,((k%(m.len-1):Nat):Int)=n1,pad (row (ef m (k%(m.len-1)) a))=R at *;simp -implicitDefEqProofs [Z3x,Z3x_B,e1,e2,w1,h0,List.replicate]
section
variable {p:Int}
open Classical in
noncomputable def stl (S:List (Fp p)):Nat→Nat
 | 0=>0
 | n+1=>if S[n]? = some 0 then stl S n else n+1
noncomputable def fl (S:List (Fp p)):List (Fp p):=S.take (stl S S.length)
theorem Dx (S:List (Fp p)):∀n,stl S n≤n
 | 0=>ba 0
 | n+1=>by
  unfold stl
  split
  ·have:=Dx S n; omega
  ·omega
theorem Lh (S:List (Fp p)):∀n j,stl S n≤j→j<n→S[j]? = some 0
 | 0,j,_,h=>by omega
 | n+1,j,h1,h2=>by
  unfold stl at h1
  split at h1
  ·rename_i h0
   by_cases hj:j=n
   ·rw [hj]; exact h0
   ·exact Lh S n j h1 (by omega)
  ·omega
end
section
variable {p:Int} [IsP p]
theorem Oj {m x:Fp p} (hm:m≠0):∀(i:Nat) (S:List (Fp p)) (out:Fp p),(∀a∈S,a=0)→svI m x i S out=out
 | _,[],_,_=>rfl
 | i,c::cs,out,h=>by
  have hc:=h c (by simp)
  subst hc;show svI m x (i+1) cs (out+0*ef m (i%(m.len-1)) x%m)=out;rw [Gq.zero_mul,Pol.zero_mod hm,Gq.add_zero];exact Oj hm (i+1) cs out fun a ha=>h a (by simp [ha])
theorem M3 {m x:Fp p}:∀(i:Nat) (S R:List (Fp p)) (out:Fp p),svI m x i (S++R) out=svI m x (i+S.length) R (svI m x i S out)
 | _,[],_,_=>rfl
 | i,c::cs,R,out=>by
  show svI m x (i+1) (cs++R) _=svI m x (i+(cs.length+1)) R (svI m x (i+1) cs _);rw [M3 (i+1) cs R,show i+(cs.length+1)=i+1+cs.length by omega]
theorem Un {m x:Fp p} (hm:m≠0) (S:List (Fp p)):svI m x 0 (fl S) 0=svI m x 0 S 0:=by
 have e:=M3 (m:=m) (x:=x) 0 (S.take (stl S S.length)) (S.drop (stl S S.length)) 0;rw [i4] at e
 have hz:∀a∈S.drop (stl S S.length),a=0:=by
  intro a ha;obtain ⟨j,hj,rfl⟩:=je ha;rw [ec] at hj;have:=Lh S S.length (stl S S.length+j) (by omega) (by omega)
  rw [List.getElem_drop];rw [ac (by omega)] at this
  exact au this
 rw [e,Oj hm _ _ _ hz];rfl
end
theorem Va {O:am} {p:Int} [IsP p] {S:List (Fp p)} (hS:S.length<100000):∀n:Nat,n≤S.length →
 dn O 0 (.loop Z1w_L0) ⟨[(0,.d (skD S)),(3,(.d (.int .i64 n)))],[]⟩=some (.exit 0,⟨[(0,.d (skD S)),(3,(.d (.int .i64 (stl S n)))),(16,(.d (.bool false)))],[]⟩)
 | 0,_=>bu (by simp -implicitDefEqProofs [Z1w_L0,ap,stl])
 | n+1,hn=>by
  have hlt:n<S.length:=by omega
  have w1:IntKind.i64.wrap (((n+1:Nat):Int)-1)=(n:Int):=wt;have h0:(0:Int)<((n+1:Nat):Int):=by omega
  unfold stl
  by_cases hz:S[n]? = some 0
  ·rw [if_pos hz]
   rw [ac hlt] at hz;have hz':S[n]=0:=au hz;have hlen:(S[n]).len=0:=by rw [hz',Pol.len_zero]
   refine bn ?_ (Va hS n (by omega))
   generalize ((n+1:Nat):Int)=n1 at *;simp -implicitDefEqProofs [Z1w_L0,ap,hlt,w1,h0,hlen]
  ·rw [if_neg hz]
   rw [ac hlt] at hz;have hlen:(S[n]).len≠0:=fun h=>hz (by rw [Pol.len_zero_iff.1 h])
   refine bu ?_;generalize ((n+1:Nat):Int)=n1 at *;simp -implicitDefEqProofs [Z1w_L0,ap,hlt,w1,h0,hlen]
def A4 (O:am):Prop:=∀(p:Int) [IsP p] (S:List (Fp p)),S.length<100000→ask O F1w [skD S]=some (skD (fl S))
theorem a8y (hT:T F1w=some Z1w):A4 (den T A):=by
 intro p ip S hS;have e:=Va (O:=den T A) hS S.length (ba _);have hle:=Dx S S.length;have hL:(S.map fun c=>(D.sl .leaf (aq .i64 (row c)))).length=S.length:=af ..
 have e9:skD (fl S)=.sl .leaf ((S.map fun c=>(D.sl .leaf (aq .i64 (row c)))).take (stl S S.length)):=by unfold fl; rw [←List.map_take]
 have e8:skD S=.sl .leaf (S.map fun c=>(D.sl .leaf (aq .i64 (row c)))):=rfl
 rw [e9];rw [e8] at e ⊢;refine c9 hT rfl ?_;generalize S.length=sl,(S.map fun c=>(D.sl .leaf (aq .i64 (row c))))=LD,stl S S.length=n at *
 subst hL;simp -implicitDefEqProofs [Z1w,Z1w_B,e,hle]
theorem Uo {p:Int} [IsP p] {m:Fp p}:∀{ls:List (List Int)},Mz m ls→∃S:List (Fp p),ls=S.map (fun a=>pad (row a))∧∀a∈S,a.len<m.len
 | [],_=>⟨[],rfl,fun _ h=>by cases h⟩
 | l::ls,h=>by
  obtain ⟨h1,h2⟩:=Bd.1 h;obtain ⟨a,ha,rfl⟩:=h1;obtain ⟨S,rfl,hS⟩:=Uo h2;exact ⟨a::S,rfl,by simpa using ⟨ha,hS⟩⟩
noncomputable abbrev skP {p:Int} (S:List (Fp p)):List (List Int):=S.map fun a=>pad (row a)
theorem Lc {O:am} (hfr:p8 O) (hmm:im O) (ha:m8 O) {p:Int} [IsP p] {m x:Fp p} {z:List Int} (h2:2≤m.len) (hml:m.len≤64) (hx:x.len<m.len) {S:List (Fp p)} (h8:S.length=8) (hS:∀a∈S,a.len<m.len):∀(k i:Nat) (out:Fp p),i+k=8→out.len<m.len →
 dn O 0 (.loop Z45_L0) ⟨[(0,(.d (.int .i64 p))),(5,.ptr 0 []),(6,.ptr 1 []),(7,.ptr 2 []),(8,.ptr 3 []),(9,.ptr 4 []),(10,(.d (.int .i64 i)))],[.box false (D.arr 64 .leaf (aq .u8 (pad (row m)))),.box false (.arr 8 (.arr 64 .leaf) ((skP S).map bh)),.box false (D.arr 64 .leaf (aq .u8 (pad (row x)))),.box false (D.arr 64 .leaf (aq .u8 z)),.box false (D.arr 64 .leaf (aq .u8 (pad (row out))))]⟩ =
  some (.exit 0,⟨[(0,(.d (.int .i64 p))),(5,.ptr 0 []),(6,.ptr 1 []),(7,.ptr 2 []),(8,.ptr 3 []),(9,.ptr 4 []),(10,(.d (.int .i64 8))),(13,(.d (.bool false)))],[.box false (D.arr 64 .leaf (aq .u8 (pad (row m)))),.box false (.arr 8 (.arr 64 .leaf) ((skP S).map bh)),.box false (D.arr 64 .leaf (aq .u8 (pad (row x)))),.box false (D.arr 64 .leaf (aq .u8 z)),.box false (D.arr 64 .leaf (aq .u8 (pad (row (svI m x i (S.drop i) out)))))]⟩)
 | 0,i,out,hi,ho=>by
  obtain rfl:i=8:=by omega
  rw [gt (by omega)]
  refine bu ?_;show _=some (_,(⟨_,[_,_,_,_,.box false (D.arr 64 .leaf (aq .u8 (pad (row out))))]⟩:St));generalize pad (row m)=Pm,pad (row x)=Px,pad (row out)=Po,(skP S).map bh=LD at *;simp -implicitDefEqProofs [Z45_L0,ap]
 | k+1,i,out,hi,ho=>by
  have hm:m≠0:=fun h=>by rw [h,Pol.len_zero] at h2; omega
  have hi8:i<8:=by omega
  have hi8':(i:Int)<8:=by omega
  have hlt:i<S.length:=by omega
  have hm1:=az hlt;have hsl:=hS _ hm1;have hL:((skP S).map bh).length=8:=by rw [af,af]; exact h8
  have hx2:∀h:i<((skP S).map bh).length,((skP S).map bh)[i]'h=(D.arr 64 .leaf (aq .u8 (pad (row S[i])))):=fun h=>by rw [bb,bb]
  have w4:=wi i
  have t3:pad (row S[i])=pad []↔S[i]=0:=by
   rw [←dj (p:=p),s9 (by omega) (by rw [Pol.len_zero]; omega)]
  have e4:=acd (di (row S[i])) (di []);have hd:S.drop i=S[i]::S.drop (i+1):=c8 hlt;have hsv:svI m x i (S.drop i) out=svI m x (i+1) (S.drop (i+1)) (out+S[i]*ef m (i%(m.len-1)) x%m):=by rw [hd]; rfl
  rw [hsv]
  by_cases hz:S[i]=0
  ·rw [decide_eq_true (t3.2 hz)] at e4
   have hsame:out+S[i]*ef m (i%(m.len-1)) x%m=out:=by rw [hz,Gq.zero_mul,Pol.zero_mod hm,Gq.add_zero]
   rw [hsame];refine bn ?_ (Lc hfr hmm ha h2 hml hx h8 hS k (i+1) out (by omega) ho)
   generalize (skP S).map bh=LD at *;generalize pad (row S[i])=Pi at *;generalize pad (row m)=Pm,pad (row x)=Px,pad (row out)=Po at *;simp -implicitDefEqProofs [Z45_L0,ap,hi8,hi8',hL,hx2,e4,w4]
  ·rw [decide_eq_false (fun h=>hz (t3.1 h))] at e4
   have e1:=hfr p m x i h2 hml (by omega) (by omega)
   have hfl:=n7 hm (i%(m.len-1)) x hx;have e2:=hmm p S[i] (ef m (i%(m.len-1)) x) m hm hml (by omega) (by omega)
   have hl:=Pol.len_mod (S[i]*ef m (i%(m.len-1)) x) hm;have e3:=ha p 1 out (S[i]*ef m (i%(m.len-1)) x%m) (by omega) (by omega) (by omega) (by omega)
   rw [Af,Pol.C_one,Gq.one_mul] at e3;have hl2:=Pol.len_add_le (a:=out) (b:=S[i]*ef m (i%(m.len-1)) x%m) (n:=m.len-1) (by omega) (by omega)
   refine bn ?_ (Lc hfr hmm ha h2 hml hx h8 hS k (i+1) _ (by omega) (by omega))
   generalize pad (row (out+S[i]*ef m (i%(m.len-1)) x%m))=P1 at *;generalize pad (row (S[i]*ef m (i%(m.len-1)) x%m))=P2 at *;generalize (skP S).map bh=LD,pad (row (ef m (i%(m.len-1)) x))=P3 at *;generalize pad (row S[i])=Pi at *;generalize pad (row m)=Pm,pad (row x)=Px,pad (row out)=Po at *;simp -implicitDefEqProofs [Z45_L0,ap,hi8,hi8',hL,hx2,e1,e2,e3,e4,w4]
def E5 (O:am):Prop:=∀(p:Int) [IsP p] (m x:Fp p) (S:List (Fp p)),2≤m.len→m.len≤64→x.len<m.len→S.length=8→(∀a∈S,a.len<m.len)→ask O F45 [(D.int .i64 p),(D.arr 64 .leaf (aq .u8 (pad (row m)))),Ck (skP S),(D.arr 64 .leaf (aq .u8 (pad (row x))))]=some (D.arr 64 .leaf (aq .u8 (pad (row (svI m x 0 S 0)))))
theorem a4w (hT:T F45=some Z45) (hfr:p8 (den T A)) (hmm:im (den T A)) (ha:m8 (den T A)):E5 (den T A):=by
 intro p ip m x S h2 hml hx h8 hS;have e:=Lc (O:=den T A) (z:=pad []) hfr hmm ha h2 hml hx h8 hS 8 0 0 rfl (by rw [Pol.len_zero]; omega)
 have e00:((0:Nat):Int)=0:=rfl;rw [e00,dh,dj] at e;have hsk:Ck (skP S)=.arr 8 (.arr 64 .leaf) ((skP S).map bh):=rfl;rw [hsk];refine c9 hT rfl ?_;generalize pad (row m)=Pm,pad (row x)=Px,pad (row (svI m x 0 S 0))=PR,(skP S).map bh=LD at *;simp -implicitDefEqProofs [Z45,Z45_B,e,List.replicate]
theorem Bz {p:Int} {S:List (Fp p)} (hS:∀a∈S,a.len≤64):(skP S).map (gw p)=S:=by
 unfold skP;rw [uy]
 conv=>rhs; rw [←List.map_id S]
 exact List.map_congr_left fun a ha=>v8 (hS a ha)
theorem md:∀ls:List (List Int),D.flats (ls.map bh)=true
 | []=>rfl
 | l::ls=>by
  show (D.flats (aq .u8 l)&&D.flats (ls.map bh))=true;rw [md ls,Mb]; rfl
section
variable {p:Int}
noncomputable def jj (Q:List (Fp p)) (n:Nat) (v:Fp p):List (Fp p):=Q.set n ((Q[n]?).getD 0+v)
theorem sr (Q:List (Fp p)) (n:Nat) (v:Fp p):(jj Q n v).length=Q.length:=by unfold jj; rw [bx]
end
section
variable {p:Int} [IsP p]
noncomputable def o8 (m x:Fp p) (i:Nat):Nat→List (Fp p)→List (Fp p)→List (Fp p)
 | _,[],Q=>Q
 | k,y::ys,Q=>o8 m x i (k+1) ys (jj Q (i+k) (x*ef m (i%(m.len-1)) y%m))
noncomputable def n5 (m:Fp p) (b:List (Fp p)):Nat→List (Fp p)→List (Fp p)→List (Fp p)
 | _,[],Q=>Q
 | i,x::xs,Q=>n5 m b (i+1) xs (o8 m x i 0 b Q)
theorem oe (m x:Fp p) (i:Nat):∀(k:Nat) (b Q:List (Fp p)),(o8 m x i k b Q).length=Q.length
 | _,[],_=>rfl
 | k,y::ys,Q=>by
  show (o8 m x i (k+1) ys (jj Q (i+k) _)).length=_;rw [oe,sr]
theorem kz (m:Fp p) (b:List (Fp p)):∀(i:Nat) (a Q:List (Fp p)),(n5 m b i a Q).length=Q.length
 | _,[],_=>rfl
 | i,x::xs,Q=>by
  show (n5 m b (i+1) xs (o8 m x i 0 b Q)).length=_;rw [kz,oe]
end
theorem U2 {O:am} {p:Int} [IsP p] {S:List (Fp p)} (h8:S.length=8) (hS:∀a∈S,a.len≤64):∀n:Nat,n≤8 →
 dn O 0 (.loop Z3v_L0) ⟨[(1,.ptr 0 []),(3,(.d (.int .i64 ((n:Int)-1))))],[.box false (.arr 8 (.arr 64 .leaf) ((skP S).map bh))]⟩ =
  some (.exit 0,⟨[(1,.ptr 0 []),(3,(.d (.int .i64 (((stl S n:Nat):Int)-1)))),(12,(.d (.bool false)))],[.box false (.arr 8 (.arr 64 .leaf) ((skP S).map bh))]⟩)
 | 0,_=>by
  refine bu ?_;show _=some (_,(⟨[_,(3,(.d (.int .i64 (((0:Nat):Int)-1)))),_],_⟩:St));generalize (skP S).map bh=LD at *;simp -implicitDefEqProofs [Z3v_L0,ap]
 | n+1,hn=>by
  have hlt:n<S.length:=by omega
  have hi8:n<8:=by omega
  have hm1:=az hlt;have hsl:=hS _ hm1;have hL:((skP S).map bh).length=8:=by rw [af,af]; exact h8
  have hx2:∀h:n<((skP S).map bh).length,((skP S).map bh)[n]'h=(D.arr 64 .leaf (aq .u8 (pad (row S[n])))):=fun h=>by rw [bb,bb]
  have t3:pad (row S[n])=pad []↔S[n]=0:=by
   rw [←dj (p:=p),s9 hsl (by rw [Pol.len_zero]; omega)]
  have e4:=acd (di (row S[n])) (di []);have t0:((n+1:Nat):Int)-1=(n:Int):=by omega
  have w1:IntKind.i64.wrap ((n:Int)-1)=(n:Int)-1:=wt;rw [t0];unfold stl
  by_cases hz:S[n]=0
  ·rw [if_pos (by rw [ac hlt,hz])]
   rw [decide_eq_true (t3.2 hz)] at e4;refine bn ?_ (U2 h8 hS n (by omega))
   generalize (skP S).map bh=LD at *;generalize pad (row S[n])=Pn at *;simp -implicitDefEqProofs [Z3v_L0,ap,hi8,hL,hx2,e4,w1]
  ·rw [if_neg (by rw [ac hlt]; simpa using hz)]
   rw [decide_eq_false (fun h=>hz (t3.1 h))] at e4
   rw [t0];refine bu ?_;generalize (skP S).map bh=LD at *;generalize pad (row S[n])=Pn at *;simp -implicitDefEqProofs [Z3v_L0,ap,hi8,hL,hx2,e4]
def Eg (O:am):Prop:=∀(p:Int) [IsP p] (S:List (Fp p)),S.length=8→(∀a∈S,a.len≤64)→ask O F3v [Ck (skP S)]=some (D.int .i64 (((stl S 8:Nat):Int)-1))
theorem a8j (hT:T F3v=some Z3v):Eg (den T A):=by
 intro p ip S h8 hS;have e:=U2 (O:=den T A) h8 hS 8 (ba _);have e0:((8:Nat):Int)-1=7:=rfl;rw [e0] at e;have hsk:Ck (skP S)=.arr 8 (.arr 64 .leaf) ((skP S).map bh):=rfl;rw [hsk];refine c9 hT rfl ?_;generalize (skP S).map bh=LD at *;simp -implicitDefEqProofs [Z3v,Z3v_B,e]
def Iv (O:am):Prop:=∀(p:Int) [IsP p] (S:List (Fp p)),S.length<100000→ask O F1v [skD S]=some (D.int .i64 ((S.length:Int)-1))
theorem abh (hT:T F1v=some Z1v):Iv (den T A):=by
 intro p ip S hS;have w1:IntKind.i64.wrap ((S.length:Int)-1)=(S.length:Int)-1:=wt;refine c9 hT rfl ?_;simp -implicitDefEqProofs [Z1v,Z1v_B,w1]
noncomputable def pd8 {p:Int} (S:List (Fp p)):List (Fp p):=S++List.replicate (8-S.length) 0
theorem ahr {p:Int}:z8=(skP (pd8 ([]:List (Fp p)))).map bh:=by
 unfold pd8 skP;rw [cw,ew,ew,dj];rfl
theorem a3x {p:Int} [IsP p] {m y:Fp p} (hm:m≠0) (hml:m.len≤64) (hy:y.len≤64) (k:Nat):(ef m k y).len≤64:=by
 cases k with
 | zero=>exact hy
 | succ k=>
  have:=n7 hm k (pw y p.toNat%m) (Pol.len_mod _ hm);show (ef m k (pw y p.toNat%m)).len≤64;omega
theorem acn {O:am} (hfr:sk O) (hpr:jl O) (hco:rp O) {p:Int} [IsP p] {m x:Fp p} {a b:List (Fp p)} (h2:2≤m.len) (hml:m.len≤64) (hx:x.len≤64) (hb:∀c∈b,c.len≤64) {N i:Nat} (hN:N<100000) (hi:i+b.length≤N) {cp:Option Nat}:∀(r k:Nat) (Q:List (Fp p)),k+r=b.length→Q.length=N→(∀c∈Q,c.len≤64) →
 (∀c∈o8 m x i k (b.drop k) Q,c.len≤64) ∧
 dn O 0 (.loop Zf_L0) ⟨[(2,.d (skD b)),(3,.ptr 0 []),(7,.sl 1 [] 0 N cp),(8,(.d (.int .i64 i))),(9,(.d (.sl .leaf (aq .i64 (row x))))),(27,.d (skD a)),(28,(.d (.int .i64 a.length))),(29,(.d (.int .i64 i))),(34,.d (skD b)),(35,(.d (.int .i64 b.length))),(36,(.d (.int .i64 k)))],[.box false (fw m),.sl false .leaf (Q.map fun c=>(D.sl .leaf (aq .i64 (row c))))]⟩ =
  some (.exit 2,⟨[(2,.d (skD b)),(3,.ptr 0 []),(7,.sl 1 [] 0 N cp),(8,(.d (.int .i64 i))),(9,(.d (.sl .leaf (aq .i64 (row x))))),(27,.d (skD a)),(28,(.d (.int .i64 a.length))),(29,(.d (.int .i64 i))),(34,.d (skD b)),(35,(.d (.int .i64 b.length))),(36,(.d (.int .i64 b.length))),(37,(.d (.bool false)))],[.box false (fw m),.sl false .leaf ((o8 m x i k (b.drop k) Q).map fun c=>(D.sl .leaf (aq .i64 (row c))))]⟩)
 | 0,k,Q,hk,hq,hQ=>by
  obtain rfl:k=b.length:=by omega
  rw [fj];refine ⟨hQ,bu ?_⟩;show _=some (_,(⟨_,[_,.sl false .leaf (Q.map fun c=>(D.sl .leaf (aq .i64 (row c))))]⟩:St))
  generalize (Q.map fun c=>(D.sl .leaf (aq .i64 (row c))))=LQ at *
  simp -implicitDefEqProofs [Zf_L0,ap]
 | r+1,k,Q,hk,hq,hQ=>by
  have hm:m≠0:=fun h=>by rw [h,Pol.len_zero] at h2; omega
  have hlt:k<b.length:=by omega
  have hm1:=az hlt;have hbk:=hb _ hm1;have hik:i+k<N:=by omega
  have hikQ:i+k<Q.length:=by omega
  have hq1:=hQ _ (az hikQ);have w0:IntKind.i64.wrap ((i:Int)+k)=((i+k:Nat):Int):=wt;have hs0:(0:Int)≤(i:Int)+k:=by omega
  have hs1:((i:Int)+k).toNat=i+k:=by omega
  have w4:=wi k;have e1:=hfr p m b[k] i h2 hml (by omega) (by omega)
  have hfl:=a3x hm hml hbk (i%(m.len-1));have e2:=hpr p m x (ef m (i%(m.len-1)) b[k]) hm hml (by omega) (by omega)
  have hl:=Pol.len_mod (x*ef m (i%(m.len-1)) b[k]) hm;have e3:=hco p Q[i+k] (x*ef m (i%(m.len-1)) b[k]%m) (by omega) (by omega)
  have hl2:=Pol.len_add_le (a:=Q[i+k]) (b:=x*ef m (i%(m.len-1)) b[k]%m) (n:=64) hq1 (by omega)
  have hadd:jj Q (i+k) (x*ef m (i%(m.len-1)) b[k]%m)=Q.set (i+k) (Q[i+k]+x*ef m (i%(m.len-1)) b[k]%m):=by
   unfold jj; rw [ac hikQ]; rfl
  have hQ':∀c∈jj Q (i+k) (x*ef m (i%(m.len-1)) b[k]%m),c.len≤64:=fun c hc=>by
   rw [hadd] at hc;rcases ce hc with h | rfl
   ·exact hQ c h
   ·exact hl2
  obtain ⟨g1,ih⟩:=acn hfr hpr hco (a:=a) h2 hml hx hb hN hi (cp:=cp) r (k+1) (jj Q (i+k) (x*ef m (i%(m.len-1)) b[k]%m)) (by omega) (by rw [sr]; exact hq) hQ'
  have hby:o8 m x i k (b.drop k) Q=o8 m x i (k+1) (b.drop (k+1)) (jj Q (i+k) (x*ef m (i%(m.len-1)) b[k]%m)):=by
   rw [c8 hlt]; rfl
  rw [hby];refine ⟨g1,bn ?_ ih⟩
  have hset:((jj Q (i+k) (x*ef m (i%(m.len-1)) b[k]%m)).map fun c=>(D.sl .leaf (aq .i64 (row c))))=(Q.map fun c=>(D.sl .leaf (aq .i64 (row c)))).set (i+k) (D.sl .leaf (aq .i64 (row (Q[i+k]+x*ef m (i%(m.len-1)) b[k]%m)))):=by
   rw [hadd,dy]
  rw [hset];have hLQ:(Q.map fun c=>(D.sl .leaf (aq .i64 (row c)))).length=N:=by rw [af]; exact hq
  have hx2:∀h:i+k<(Q.map fun c=>(D.sl .leaf (aq .i64 (row c)))).length,(Q.map fun c=>(D.sl .leaf (aq .i64 (row c))))[i+k]'h=(D.sl .leaf (aq .i64 (row Q[i+k]))):=fun h=>by rw [bb]
  generalize row (Q[i+k]+x*ef m (i%(m.len-1)) b[k]%m)=R1 at *;generalize row (x*ef m (i%(m.len-1)) b[k]%m)=R2 at *;generalize row (ef m (i%(m.len-1)) b[k])=R3 at *;generalize row Q[i+k]=R4 at *;generalize (Q.map fun c=>(D.sl .leaf (aq .i64 (row c))))=LQ at *
  simp -implicitDefEqProofs [Zf_L0,ap,hlt,hik,hs0,hs1,hLQ,hx2,e1,e2,e3,w0,w4]
theorem acl {O:am} (hfr:sk O) (hpr:jl O) (hco:rp O) {p:Int} [IsP p] {m:Fp p} {a b:List (Fp p)} (h2:2≤m.len) (hml:m.len≤64) (ha:∀c∈a,c.len≤64) (hb:∀c∈b,c.len≤64) {N:Nat} (hN:N<100000) (hab:a.length+b.length≤N+1) (hb1:1≤b.length) {cp:Option Nat}:∀(r i:Nat) (Q:List (Fp p)),i+r=a.length→Q.length=N→(∀c∈Q,c.len≤64) →
 (∀c∈n5 m b i (a.drop i) Q,c.len≤64) ∧
 dn O 0 (.loop Zf_L1) ⟨[(2,.d (skD b)),(3,.ptr 0 []),(7,.sl 1 [] 0 N cp),(27,.d (skD a)),(28,(.d (.int .i64 a.length))),(29,(.d (.int .i64 i)))],[.box false (fw m),.sl false .leaf (Q.map fun c=>(D.sl .leaf (aq .i64 (row c))))]⟩ =
  some (.exit 0,⟨[(2,.d (skD b)),(3,.ptr 0 []),(7,.sl 1 [] 0 N cp),(27,.d (skD a)),(28,(.d (.int .i64 a.length))),(29,(.d (.int .i64 a.length))),(30,(.d (.bool false)))],[.box false (fw m),.sl false .leaf ((n5 m b i (a.drop i) Q).map fun c=>(D.sl .leaf (aq .i64 (row c))))]⟩)
 | 0,i,Q,hi,hq,hQ=>by
  obtain rfl:i=a.length:=by omega
  rw [fj];refine ⟨hQ,bu ?_⟩;show _=some (_,(⟨_,[_,.sl false .leaf (Q.map fun c=>(D.sl .leaf (aq .i64 (row c))))]⟩:St))
  generalize (Q.map fun c=>(D.sl .leaf (aq .i64 (row c))))=LQ at *
  simp -implicitDefEqProofs [Zf_L1,ap]
 | r+1,i,Q,hi,hq,hQ=>by
  have hlt:i<a.length:=by omega
  have hm1:=az hlt;have w4:=wi i;obtain ⟨g1,e1⟩:=acn hfr hpr hco (a:=a) h2 hml (ha _ hm1) hb hN (i:=i) (by omega) (cp:=cp) b.length 0 Q (b9 _) hq hQ
  have e00:((0:Nat):Int)=0:=rfl;rw [e00,dh] at e1;rw [dh] at g1;obtain ⟨g2,ih⟩:=acl hfr hpr hco h2 hml ha hb hN hab hb1 (cp:=cp) r (i+1) (o8 m a[i] i 0 b Q) (by omega) (by rw [oe]; exact hq) g1
  have hby:n5 m b i (a.drop i) Q=n5 m b (i+1) (a.drop (i+1)) (o8 m a[i] i 0 b Q):=by
   rw [c8 hlt]; rfl
  rw [hby];refine ⟨g2,bn ?_ ih⟩;generalize ((o8 m a[i] i 0 b Q).map fun c=>(D.sl .leaf (aq .i64 (row c))))=LQ2 at *
  generalize (Q.map fun c=>(D.sl .leaf (aq .i64 (row c))))=LQ at *
  simp -implicitDefEqProofs [Zf_L1,ap,hlt,e1,w4]
noncomputable def sw {p:Int} [IsP p] (m:Fp p) (a b:List (Fp p)):List (Fp p):=n5 m b 0 a (List.replicate (a.length+b.length-1) 0)
def afj (O:am):Prop:=∀(p:Int) [IsP p] (m:Fp p) (a b:List (Fp p)),2≤m.len→m.len≤64→(∀c∈a,c.len≤64)→(∀c∈b,c.len≤64)→a.length<10000→b.length<10000 →
 ask O Ff [fw m,skD a,skD b]=some (if a.length=0∨b.length=0 then skD ([]:List (Fp p)) else skD (fl (sw m a b)))
theorem anb (hT:T Ff=some Zf) (hfr:sk (den T A)) (hpr:jl (den T A)) (hco:rp (den T A)) (htr:A4 (den T A)):afj (den T A):=by
 intro p ip m a b h2 hml ha hb hal hbl;have hsa:skD a=.sl .leaf (a.map fun c=>(D.sl .leaf (aq .i64 (row c)))):=rfl
 have hsb:skD b=.sl .leaf (b.map fun c=>(D.sl .leaf (aq .i64 (row c)))):=rfl
 have hLa:(a.map fun c=>(D.sl .leaf (aq .i64 (row c)))).length=a.length:=af ..
 have hLb:(b.map fun c=>(D.sl .leaf (aq .i64 (row c)))).length=b.length:=af ..
 by_cases h0:a.length=0∨b.length=0
 ·rw [if_pos h0,hsa,hsb]
  refine c9 hT rfl ?_;generalize (b.map fun c=>(D.sl .leaf (aq .i64 (row c))))=LB,(a.map fun c=>(D.sl .leaf (aq .i64 (row c))))=LA at *
  rcases h0 with h0 | h0
  ·rw [h0] at hLa
   simp -implicitDefEqProofs [Zf,Zf_B,ap,hLa,List.replicate]
  ·rw [h0] at hLb
   by_cases h1:LA.length=0
   ·simp -implicitDefEqProofs [Zf,Zf_B,ap,h1,List.replicate]
   ·simp -implicitDefEqProofs [Zf,Zf_B,ap,h1,hLb,List.replicate]
 ·rw [if_neg h0]
  have ha1:1≤a.length:=by omega
  have hb1:1≤b.length:=by omega
  have hz:((List.replicate (a.length+b.length-1) (0:Fp p)).map fun c=>(D.sl .leaf (aq .i64 (row c))))=List.replicate (a.length+b.length-1) (.sl .leaf []):=by rw [ew,dj,i6]
  have hl0:∀c∈List.replicate (a.length+b.length-1) (0:Fp p),c.len≤64:=fun c hc=>by rw [fg hc,Pol.len_zero]; omega
  obtain ⟨g1,e1⟩:=acl (O:=den T A) hfr hpr hco h2 hml ha hb (N:=a.length+b.length-1) (by omega) (by omega) hb1 (cp:=some (a.length+b.length-1)) a.length 0 (List.replicate (a.length+b.length-1) 0) (b9 _) (bt ..) hl0
  have e00:((0:Nat):Int)=0:=rfl;have em:n5 m b 0 (a.drop 0) (List.replicate (a.length+b.length-1) 0)=sw m a b:=by rw [dh]; rfl
  rw [e00,em,hz] at e1;have hml2:(sw m a b).length=a.length+b.length-1:=by unfold sw; rw [kz,bt]
  have e2:=htr p (sw m a b) (by omega)
  have hsm:skD (sw m a b)=.sl .leaf ((sw m a b).map fun c=>(D.sl .leaf (aq .i64 (row c)))):=rfl
  have hLm:((sw m a b).map fun c=>(D.sl .leaf (aq .i64 (row c)))).length=a.length+b.length-1:=by rw [af]; exact hml2
  have ht:((sw m a b).map fun c=>(D.sl .leaf (aq .i64 (row c)))).take (a.length+b.length-1)=((sw m a b).map fun c=>(D.sl .leaf (aq .i64 (row c)))):=aw (by omega)
  rw [hsm] at e2;have n1:¬ ((a.length:Int)=0):=by omega
  have n2:¬ ((b.length:Int)=0):=by omega
  have n1':a.length≠0:=by omega
  have n2':b.length≠0:=by omega
  have w1:IntKind.i64.wrap ((a.length:Int)+b.length)=(a.length:Int)+b.length:=wt;have w2:IntKind.i64.wrap ((a.length:Int)+b.length-1)=((a.length+b.length-1:Nat):Int):=wt;have h24:(a.length+b.length-1)*24≤1099511627776:=by omega
  generalize skD (fl (sw m a b))=TD at *;rw [hsa,hsb] at e1 ⊢;refine c9 hT rfl ?_;generalize a.length+b.length-1=N,(b.map fun c=>(D.sl .leaf (aq .i64 (row c))))=LB,(a.map fun c=>(D.sl .leaf (aq .i64 (row c))))=LA,((sw m a b).map fun c=>(D.sl .leaf (aq .i64 (row c))))=LM at *
  simp -implicitDefEqProofs [Zf,Zf_B,ap,hLa,hLb,n1',n2',w1,w2,h24,e1,e2,hLm,ht,List.replicate]
theorem R6 {p:Int} {S:List (Fp p)} {i:Nat} (hi:i<S.length):∀h:i<((skP S).map bh).length,((skP S).map bh)[i]'h=(D.arr 64 .leaf (aq .u8 (pad (row S[i])))):=fun h=>by rw [bb,bb]
theorem Qk {p:Int} (S:List (Fp p)):((skP S).map bh).length=S.length:=by rw [af,af]
theorem a7n {O:am} (hfr:p8 O) (hmm:im O) (had:m8 O) {p:Int} [IsP p] {m:Fp p} {S R:List (Fp p)} {z:List D} {vn:V} (hvn:vn.refs=[]) (h2:2≤m.len) (hml:m.len≤64) (hS8:S.length=8) (hR8:R.length=8) (hS:∀c∈S,c.len<m.len) (hR:∀c∈R,c.len<m.len) {i nb:Nat} (hi:i<8) (hnb:i+nb≤8) (hnb1:1≤nb) {x:Fp p} (hx:S[i]? = some x):∀(r j:Nat) (Q:List (Fp p)),j+r=nb→Q.length=8→(∀c∈Q,c.len<m.len) →
 (∀c∈o8 m x i j ((R.take nb).drop j) Q,c.len<m.len) ∧
 dn O 0 (.loop Z44_L0) ⟨[(0,(.d (.int .i64 p))),(5,.ptr 0 []),(6,.ptr 1 []),(7,.ptr 2 []),(8,.ptr 3 []),(10,vn),(11,(.d (.int .i64 (((nb-1:Nat):Int))))),(12,.ptr 4 []),(13,(.d (.int .i64 i))),(14,(.d (.int .i64 j)))],[.box false (D.arr 64 .leaf (aq .u8 (pad (row m)))),.box false (.arr 8 (.arr 64 .leaf) ((skP S).map bh)),.box false (.arr 8 (.arr 64 .leaf) ((skP R).map bh)),.box false (.arr 8 (.arr 64 .leaf) z),.box false (.arr 8 (.arr 64 .leaf) ((skP Q).map bh)),.hole]⟩ =
  some (.exit 2,⟨[(0,(.d (.int .i64 p))),(5,.ptr 0 []),(6,.ptr 1 []),(7,.ptr 2 []),(8,.ptr 3 []),(10,vn),(11,(.d (.int .i64 (((nb-1:Nat):Int))))),(12,.ptr 4 []),(13,(.d (.int .i64 i))),(14,(.d (.int .i64 nb))),(40,(.d (.bool false)))],[.box false (D.arr 64 .leaf (aq .u8 (pad (row m)))),.box false (.arr 8 (.arr 64 .leaf) ((skP S).map bh)),.box false (.arr 8 (.arr 64 .leaf) ((skP R).map bh)),.box false (.arr 8 (.arr 64 .leaf) z),.box false (.arr 8 (.arr 64 .leaf) ((skP (o8 m x i j ((R.take nb).drop j) Q)).map bh)),.hole]⟩)
 | 0,j,Q,hj,hq,hQ=>by
  obtain rfl:j=nb:=by omega
  rw [gt (by rw [b8]; omega)]
  have hlt:¬ (j:Int)≤((j-1:Nat):Int):=by omega
  refine ⟨hQ,bu ?_⟩;show _=some (_,(⟨_,[_,_,_,_,.box false (.arr 8 (.arr 64 .leaf) ((skP Q).map bh)),_]⟩:St));generalize pad (row m)=Pm,(skP Q).map bh=LQ,(skP R).map bh=LR,(skP S).map bh=LS,((j-1:Nat):Int)=k1 at *;simp -implicitDefEqProofs [Z44_L0,ap,hlt,hvn]
 | r+1,j,Q,hj,hq,hQ=>by
  have hm:m≠0:=fun h=>by rw [h,Pol.len_zero] at h2; omega
  have hj8:j<8:=by omega
  have hij:i+j<8:=by omega
  have hjR:j<R.length:=by omega
  have hiS:i<S.length:=by omega
  have hikQ:i+j<Q.length:=by omega
  have hRj:=hR _ (az hjR);have hxe:S[i]=x:=by rw [ac hiS] at hx; exact au hx
  have hxl:x.len<m.len:=by rw [←hxe]; exact hS _ (az hiS)
  have hq1:=hQ _ (az hikQ);have hle:(j:Int)≤((nb-1:Nat):Int):=by omega
  have w0:IntKind.i64.wrap ((i:Int)+j)=((i+j:Nat):Int):=wt;have hs0:(0:Int)≤(i:Int)+j:=by omega
  have hs1:((i:Int)+j).toNat=i+j:=by omega
  have w4:=wi j;have e1:=hfr p m R[j] i h2 hml (by omega) (by omega)
  have hfl:=n7 hm (i%(m.len-1)) R[j] hRj;have e2:=hmm p x (ef m (i%(m.len-1)) R[j]) m hm hml (by omega) (by omega)
  have hl:=Pol.len_mod (x*ef m (i%(m.len-1)) R[j]) hm;have e3:=had p 1 Q[i+j] (x*ef m (i%(m.len-1)) R[j]%m) (by omega) (by omega) (by omega) (by omega)
  rw [Af,Pol.C_one,Gq.one_mul] at e3;have hl2:=Pol.len_add_le (a:=Q[i+j]) (b:=x*ef m (i%(m.len-1)) R[j]%m) (n:=m.len-1) (by omega) (by omega)
  have hadd:jj Q (i+j) (x*ef m (i%(m.len-1)) R[j]%m)=Q.set (i+j) (Q[i+j]+x*ef m (i%(m.len-1)) R[j]%m):=by
   unfold jj; rw [ac hikQ]; rfl
  have hQ':∀c∈jj Q (i+j) (x*ef m (i%(m.len-1)) R[j]%m),c.len<m.len:=fun c hc=>by
   rw [hadd] at hc;rcases ce hc with h | rfl
   ·exact hQ c h
   ·omega
  obtain ⟨g1,ih⟩:=a7n hfr hmm had (z:=z) hvn h2 hml hS8 hR8 hS hR hi hnb hnb1 hx r (j+1) (jj Q (i+j) (x*ef m (i%(m.len-1)) R[j]%m)) (by omega) (by rw [sr]; exact hq) hQ'
  have hby:o8 m x i j ((R.take nb).drop j) Q=o8 m x i (j+1) ((R.take nb).drop (j+1)) (jj Q (i+j) (x*ef m (i%(m.len-1)) R[j]%m)):=by
   rw [c8 (by rw [b8]; omega),ki]; rfl
  rw [hby];refine ⟨g1,bn ?_ ih⟩
  have hset:(skP (jj Q (i+j) (x*ef m (i%(m.len-1)) R[j]%m))).map bh=((skP Q).map bh).set (i+j) (D.arr 64 .leaf (aq .u8 (pad (row (Q[i+j]+x*ef m (i%(m.len-1)) R[j]%m))))):=by
   rw [hadd]; unfold skP; rw [dy,dy]
  rw [hset];have hLS:=Qk S;have hLR:=Qk R;have hLQ:=Qk Q;rw [hS8] at hLS;rw [hR8] at hLR;rw [hq] at hLQ;have hxS:=R6 hiS;rw [hxe] at hxS;have hxR:=R6 hjR;have hxQ:=R6 hikQ;generalize pad (row (Q[i+j]+x*ef m (i%(m.len-1)) R[j]%m))=P1 at *;generalize pad (row (x*ef m (i%(m.len-1)) R[j]%m))=P2 at *;generalize pad (row (ef m (i%(m.len-1)) R[j]))=P3 at *;generalize pad (row Q[i+j])=P4 at *;generalize pad (row R[j])=P5 at *;generalize ((nb-1:Nat):Int)=k1,pad (row m)=Pm,(skP Q).map bh=LQ,(skP R).map bh=LR,(skP S).map bh=LS,pad (row x)=P6 at *;simp -implicitDefEqProofs [Z44_L0,ap,hle,hi,hj8,hij,hs0,hs1,hLS,hLR,hLQ,hxS,hxR,hxQ,e1,e2,e3,w0,w4,hvn]
theorem a4q {O:am} (hfr:p8 O) (hmm:im O) (had:m8 O) {p:Int} [IsP p] {m:Fp p} {S R:List (Fp p)} {z:List D} (h2:2≤m.len) (hml:m.len≤64) (hS8:S.length=8) (hR8:R.length=8) (hS:∀c∈S,c.len<m.len) (hR:∀c∈R,c.len<m.len) {na nb:Nat} (hna:1≤na) (hnb:1≤nb) (hab:na+nb≤9):∀(r i:Nat) (Q:List (Fp p)),i+r=na→Q.length=8→(∀c∈Q,c.len<m.len) →
 (∀c∈n5 m (R.take nb) i ((S.take na).drop i) Q,c.len<m.len) ∧
 dn O 0 (.loop Z44_L1) ⟨[(0,(.d (.int .i64 p))),(5,.ptr 0 []),(6,.ptr 1 []),(7,.ptr 2 []),(8,.ptr 3 []),(10,(.d (.int .i64 (((na-1:Nat):Int))))),(11,(.d (.int .i64 (((nb-1:Nat):Int))))),(12,.ptr 4 []),(13,(.d (.int .i64 i)))],[.box false (D.arr 64 .leaf (aq .u8 (pad (row m)))),.box false (.arr 8 (.arr 64 .leaf) ((skP S).map bh)),.box false (.arr 8 (.arr 64 .leaf) ((skP R).map bh)),.box false (.arr 8 (.arr 64 .leaf) z),.box false (.arr 8 (.arr 64 .leaf) ((skP Q).map bh)),.hole]⟩ =
  some (.exit 0,⟨[(0,(.d (.int .i64 p))),(5,.ptr 0 []),(6,.ptr 1 []),(7,.ptr 2 []),(8,.ptr 3 []),(10,(.d (.int .i64 (((na-1:Nat):Int))))),(11,(.d (.int .i64 (((nb-1:Nat):Int))))),(12,.ptr 4 []),(13,(.d (.int .i64 na))),(35,(.d (.bool false)))],[.box false (D.arr 64 .leaf (aq .u8 (pad (row m)))),.box false (.arr 8 (.arr 64 .leaf) ((skP S).map bh)),.box false (.arr 8 (.arr 64 .leaf) ((skP R).map bh)),.box false (.arr 8 (.arr 64 .leaf) z),.box false (.arr 8 (.arr 64 .leaf) ((skP (n5 m (R.take nb) i ((S.take na).drop i) Q)).map bh)),.hole]⟩)
 | 0,i,Q,hi,hq,hQ=>by
  obtain rfl:i=na:=by omega
  rw [gt (by rw [b8]; omega)]
  have hlt:¬ (i:Int)≤((i-1:Nat):Int):=by omega
  refine ⟨hQ,bu ?_⟩;show _=some (_,(⟨_,[_,_,_,_,.box false (.arr 8 (.arr 64 .leaf) ((skP Q).map bh)),_]⟩:St));generalize pad (row m)=Pm,(skP Q).map bh=LQ,(skP R).map bh=LR,(skP S).map bh=LS,((nb-1:Nat):Int)=k2,((i-1:Nat):Int)=k1 at *;simp -implicitDefEqProofs [Z44_L1,ap,hlt]
 | r+1,i,Q,hi,hq,hQ=>by
  have hin:i<(S.take na).length:=by rw [b8]; omega
  have hiS:i<S.length:=by omega
  have hle:(i:Int)≤((na-1:Nat):Int):=by omega
  have w4:=wi i;obtain ⟨g1,e1⟩:=a7n (O:=O) hfr hmm had (z:=z) (vn:=(.d (.int .i64 (((na-1:Nat):Int))))) rfl h2 hml hS8 hR8 hS hR (i:=i) (nb:=nb) (by omega) (by omega) hnb (x:=S[i]) (ac hiS) nb 0 Q (b9 _) hq hQ
  have e00:((0:Nat):Int)=0:=rfl;rw [e00,dh] at e1;rw [dh] at g1;obtain ⟨g2,ih⟩:=a4q hfr hmm had (z:=z) h2 hml hS8 hR8 hS hR hna hnb hab r (i+1) (o8 m S[i] i 0 (R.take nb) Q) (by omega) (by rw [oe]; exact hq) g1
  have hby:n5 m (R.take nb) i ((S.take na).drop i) Q=n5 m (R.take nb) (i+1) ((S.take na).drop (i+1)) (o8 m S[i] i 0 (R.take nb) Q):=by
   rw [c8 hin,ki]; rfl
  rw [hby];refine ⟨g2,bn ?_ ih⟩;generalize (skP (o8 m S[i] i 0 (R.take nb) Q)).map bh=LQ2 at *;generalize ((na-1:Nat):Int)=k2,((nb-1:Nat):Int)=k1,pad (row m)=Pm,(skP Q).map bh=LQ,(skP R).map bh=LR,(skP S).map bh=LS at *;simp -implicitDefEqProofs [Z44_L1,ap,hle,e1,w4]
noncomputable def zs8 {p:Int}:List (Fp p):=List.replicate 8 0
noncomputable def Rp {p:Int} [IsP p] (m:Fp p) (S R:List (Fp p)):D:=
 if (fl S).length=0∨(fl R).length=0 then .tup [Ck (skP (zs8 (p:=p))),(D.bool true)]
 else if 9<(fl S).length+(fl R).length then .tup [Ck (skP (zs8 (p:=p))),(D.bool false)]
 else .tup [Ck (skP (n5 m (fl R) 0 (fl S) zs8)),(D.bool true)]
theorem Pj {p:Int} {S:List (Fp p)} (h:S.length=8):fl S=S.take (stl S 8):=by unfold fl; rw [h]
theorem Dg {p:Int} {S:List (Fp p)} (h:S.length=8):(fl S).length=stl S 8:=by
 rw [Pj h,b8]; have:=Dx S 8; omega
def Gj (O:am):Prop:=∀(p:Int) [IsP p] (m:Fp p) (S R:List (Fp p)),2≤m.len→m.len≤64→S.length=8→R.length=8→(∀c∈S,c.len<m.len)→(∀c∈R,c.len<m.len)→ask O F44 [(D.int .i64 p),(D.arr 64 .leaf (aq .u8 (pad (row m)))),Ck (skP S),Ck (skP R)]=some (Rp m S R)
theorem a00 {p:Int}:(skP (zs8 (p:=p))).map bh=z8:=by
 unfold skP zs8;rw [ew,ew,dj];rfl
theorem a34 (hT:T F44=some Z44) (hdg:Eg (den T A)) (hfr:p8 (den T A)) (hmm:im (den T A)) (had:m8 (den T A)):Gj (den T A):=by
 intro p ip m S R h2 hml hS8 hR8 hS hR;have e1:=hdg p S hS8 (fun a ha=>by have:=hS a ha; omega)
 have e2:=hdg p R hR8 (fun a ha=>by have:=hR a ha; omega)
 unfold Rp;rw [Dg hS8,Dg hR8,Pj hS8,Pj hR8];have l1:=Dx S 8;have l2:=Dx R 8;generalize stl R 8=nb,stl S 8=na at *;have hskS:Ck (skP S)=.arr 8 (.arr 64 .leaf) ((skP S).map bh):=rfl;have hskR:Ck (skP R)=.arr 8 (.arr 64 .leaf) ((skP R).map bh):=rfl;have hskZ:Ck (skP (zs8 (p:=p)))=.arr 8 (.arr 64 .leaf) z8:=by rw [←a00 (p:=p)]
 have w1:IntKind.i64.wrap ((na:Int)-1+(nb-1))=(na:Int)-1+(nb-1):=wt;rw [hskS] at e1 ⊢;rw [hskR] at e2 ⊢
 by_cases h0:na=0∨nb=0
 ·rw [if_pos h0,hskZ]
  refine c9 hT rfl ?_;rcases h0 with rfl | rfl
  ·generalize (skP S).map bh=LS at *
   generalize pad (row m)=Pm,(skP R).map bh=LR at *;simp -implicitDefEqProofs [Z44,Z44_B,ap,e1,e2,List.replicate]
  ·generalize (skP S).map bh=LS at *
   generalize pad (row m)=Pm,(skP R).map bh=LR at *
   by_cases hn:na=0
   ·subst hn
    simp -implicitDefEqProofs [Z44,Z44_B,ap,e1,e2,List.replicate]
   ·have hlt:¬ ((na:Int)-1<0):=by omega
    have hlt2:na≠0:=hn;have hlt3:(1:Int)≤na:=by omega
    have hlt4:¬ ((na:Int)<1):=by omega
    simp -implicitDefEqProofs [Z44,Z44_B,ap,e1,e2,hlt,List.replicate]
 ·rw [if_neg h0]
  have a1:((na:Int)-1)=((na-1:Nat):Int):=by omega
  have a2:((nb:Int)-1)=((nb-1:Nat):Int):=by omega
  rw [a1,a2] at w1;rw [a1] at e1;rw [a2] at e2;have hn1:¬ ((na-1:Nat):Int)<0:=by omega
  have hn2:¬ ((nb-1:Nat):Int)<0:=by omega
  by_cases h9:9<na+nb
  ·rw [if_pos h9,hskZ]
   have hgt:(7:Int)<((na-1:Nat):Int)+((nb-1:Nat):Int):=by omega
   refine c9 hT rfl ?_;generalize nb-1=k2,na-1=k1,pad (row m)=Pm,(skP R).map bh=LR,(skP S).map bh=LS at *;simp -implicitDefEqProofs [Z44,Z44_B,ap,e1,e2,w1,hgt,hn1,hn2,List.replicate]
  ·rw [if_neg h9]
   have hgt:¬ (7:Int)<((na-1:Nat):Int)+((nb-1:Nat):Int):=by omega
   obtain ⟨_,e3⟩:=a4q (O:=den T A) hfr hmm had (z:=z8) h2 hml hS8 hR8 hS hR (na:=na) (nb:=nb) (by omega) (by omega) (by omega) na 0 zs8 (b9 _) rfl (fun c hc=>by rw [fg hc,Pol.len_zero]; omega)
   have e00:((0:Nat):Int)=0:=rfl;rw [e00,dh,a00] at e3;have hskQ:Ck (skP (n5 m (R.take nb) 0 (S.take na) zs8))=.arr 8 (.arr 64 .leaf) ((skP (n5 m (R.take nb) 0 (S.take na) zs8)).map bh):=rfl;rw [hskQ];refine c9 hT rfl ?_;generalize nb-1=k2,na-1=k1,pad (row m)=Pm,(skP R).map bh=LR,(skP S).map bh=LS,(skP (n5 m (R.take nb) 0 (S.take na) zs8)).map bh=LQ at *;simp -implicitDefEqProofs [Z44,Z44_B,ap,e1,e2,e3,w1,hgt,hn1,hn2,List.replicate]
section
variable {p:Int}
theorem Rb {Q:List (Fp p)} {n j:Nat} {v:Fp p} (h:n≠j):(jj Q n v)[j]? = Q[j]?:=by
 unfold jj; rw [b7 h]
theorem a2w {Q Z:List (Fp p)} {n:Nat} {v:Fp p} (h:n<Q.length):jj (Q++Z) n v=jj Q n v++Z:=by
 unfold jj;rw [bi h,List.set_append_left _ _ h]
theorem aa6:pd8 ([]:List (Fp p))=zs8:=rfl
end
section
variable {p:Int} [IsP p]
theorem wy {m x:Fp p} {i n:Nat}:∀(k:Nat) (b Q:List (Fp p)),i+k+b.length≤n→(o8 m x i k b Q)[n]? = Q[n]?
 | _,[],_,_=>rfl
 | k,y::ys,Q,h=>by
  rw [bv] at h;show (o8 m x i (k+1) ys (jj Q (i+k) _))[n]? = _;rw [wy (k+1) ys _ (by omega),Rb (by omega)]
theorem zf {m:Fp p} {b:List (Fp p)} {n:Nat}:∀(i:Nat) (a Q:List (Fp p)),i+a.length+b.length≤n+1→(n5 m b i a Q)[n]? = Q[n]?
 | _,[],_,_=>rfl
 | i,x::xs,Q,h=>by
  rw [bv] at h;show (n5 m b (i+1) xs (o8 m x i 0 b Q))[n]? = _;rw [zf (i+1) xs _ (by omega),wy 0 b Q (by omega)]
theorem Gn {m x y:Fp p} {i:Nat}:∀(k:Nat) (b Q:List (Fp p)),o8 m x i k (b++[y]) Q=jj (o8 m x i k b Q) (i+(k+b.length)) (x*ef m (i%(m.len-1)) y%m)
 | _,[],_=>rfl
 | k,z::zs,Q=>by
  show o8 m x i (k+1) (zs++[y]) (jj Q (i+k) _)=jj (o8 m x i (k+1) zs (jj Q (i+k) _)) _ _;rw [Gn (k+1) zs,bv,show i+(k+1+zs.length)=i+(k+(zs.length+1)) by omega]
theorem De {m x:Fp p} {b:List (Fp p)}:∀(i:Nat) (a Q:List (Fp p)),n5 m b i (a++[x]) Q=o8 m x (i+a.length) 0 b (n5 m b i a Q)
 | _,[],_=>rfl
 | i,z::zs,Q=>by
  show n5 m b (i+1) (zs++[x]) (o8 m z i 0 b Q)=o8 m x _ 0 b (n5 m b (i+1) zs (o8 m z i 0 b Q));rw [De (i+1) zs,bv,show i+1+zs.length=i+(zs.length+1) by omega]
theorem Tz {m x:Fp p} {i:Nat} {Z:List (Fp p)}:∀(k:Nat) (b Q:List (Fp p)),i+k+b.length≤Q.length→o8 m x i k b (Q++Z)=o8 m x i k b Q++Z
 | _,[],_,_=>rfl
 | k,y::ys,Q,h=>by
  rw [bv] at h;show o8 m x i (k+1) ys (jj (Q++Z) (i+k) _)=o8 m x i (k+1) ys (jj Q (i+k) _)++Z;rw [a2w (by omega),Tz (k+1) ys _ (by rw [sr]; omega)]
theorem Ni {m:Fp p} {b Z:List (Fp p)}:∀(i:Nat) (a Q:List (Fp p)),i+a.length+b.length≤Q.length+1→n5 m b i a (Q++Z)=n5 m b i a Q++Z
 | _,[],_,_=>rfl
 | i,x::xs,Q,h=>by
  rw [bv] at h;show n5 m b (i+1) xs (o8 m x i 0 b (Q++Z))=n5 m b (i+1) xs (o8 m x i 0 b Q)++Z;rw [Tz 0 b Q (by omega),Ni (i+1) xs _ (by rw [oe]; omega)]
theorem W7 {m x y:Fp p} (hi:Irr m) (hx:x≠0) (hxl:x.len<m.len) (hy:y≠0) (hyl:y.len<m.len):x*y%m≠0:=fun h=>by
 rcases hi.prime ((zi hi.ne).2 h) with h | h
 ·have:=Dv.len h hx; omega
 ·have:=Dv.len h hy; omega
theorem Ja {m:Fp p} (hm:Fld m):∀(k:Nat) (y:Fp p),y≠0→y.len<m.len→ef m k y≠0
 | 0,_,h,_=>h
 | k+1,y,h,hl=>by
  obtain ⟨h1,h2⟩:=adl hm h hl p.toNat;exact Ja hm k _ h1 h2
end
section
variable {p:Int}
theorem Ua {S:List (Fp p)}:∀(n k:Nat),stl S n=k+1→S[k]? ≠ some 0
 | 0,k,h=>by cases h
 | n+1,k,h=>by
  unfold stl at h
  split at h
  ·exact Ua n k h
  ·rename_i h0
   obtain rfl:n=k:=by omega
   exact h0
theorem aah {S:List (Fp p)} {n:Nat} (h:S[n]? ≠ some 0):stl S (n+1)=n+1:=by
 unfold stl; rw [if_neg h]
theorem X0 {S:List (Fp p)} (h:(fl S).length≠0):∃a x,fl S=a++[x]∧x≠0:=by
 have hle:=Dx S S.length;have hl:(fl S).length=stl S S.length:=by unfold fl; rw [b8]; omega
 obtain ⟨k,hk⟩:∃k,stl S S.length=k+1:=⟨stl S S.length-1,by omega⟩
 have h1:=Ua _ _ hk;have hlt:k<S.length:=by omega
 rw [ac hlt] at h1;refine ⟨S.take k,S[k],?_,fun h=>h1 (by rw [h])⟩
 unfold fl;rw [hk,br hlt]
theorem a3w {S:List (Fp p)} {n:Nat} (hl:S.length=n+1) (h:S[n]? ≠ some 0):fl S=S:=by
 unfold fl;rw [hl,aah h,←hl,iq]
end
section
variable {p:Int} [IsP p]
theorem Sf {m x y:Fp p} (hm:Fld m) {a b:List (Fp p)} (hx:x≠0) (hxl:x.len<m.len) (hy:y≠0) (hyl:y.len<m.len):fl (sw m (a++[x]) (b++[y]))=sw m (a++[x]) (b++[y]):=by
 have hl:(sw m (a++[x]) (b++[y])).length=a.length+b.length+1:=by
  unfold sw;rw [kz,bt,bg,bg];simp only [bv,da]; omega
 refine a3w hl ?_;have hfy:ef m (a.length%(m.len-1)) y≠0:=Ja hm _ y hy hyl;have hfl:=n7 hm.mon.2 (a.length%(m.len-1)) y hyl;have hne:=W7 hm.irr hx hxl hfy hfl;unfold sw;rw [De,Gn];unfold jj;rw [wy _ _ _ (by omega),zf _ _ _ (by rw [bg,bv,da]; omega)]
 have hN:0+a.length+(0+b.length)=a.length+b.length:=by omega
 rw [hN,b4 (by rw [oe,kz,bt,bg,bg]; simp only [bv,da]; omega)]
 rw [gi,if_pos (by rw [bg,bg]; simp only [bv,da]; omega)]
 show some ((0:Fp p)+_)≠some 0;rw [Gq.zero_add,show 0+a.length=a.length by omega]
 exact fun h=>hne (au h)
noncomputable def ke (m:Fp p) (a b:List (Fp p)):List (Fp p):=if a.length=0∨b.length=0 then [] else fl (sw m a b)
theorem a66 {m:Fp p} {a b:List (Fp p)} (ha:1≤a.length) (hb:1≤b.length) (h:a.length+b.length≤9):pd8 (sw m a b)=n5 m b 0 a zs8:=by
 unfold pd8 sw zs8;rw [kz,bt,←Ni _ _ _ (by rw [bt]; omega),List.replicate_append_replicate,show a.length+b.length-1+(8-(a.length+b.length-1))=8 by omega]
end
section
variable {p:Int} [IsP p]
theorem Xb {N n:Nat} {Q:List (Fp p)} {v:Fp p} (hQ:∀c∈Q,c.len≤N) (hv:v.len≤N):∀c∈jj Q n v,c.len≤N:=fun c hc=>by
 unfold jj at hc;rcases ce hc with h | rfl
 ·exact hQ c h
 ·refine Pol.len_add_le ?_ hv
  cases he:Q[n]? with
  | none=>show (0:Fp p).len≤N; rw [Pol.len_zero]; omega
  | some w=>exact hQ w (dl he)
end
end Pe
namespace Pe
open Go Gq
section
variable {p:Int}
noncomputable def cS (A:List (Fp p)) (i:Nat):Fp p:=(A[i]?).getD 0
theorem Ho {A:List (Fp p)} {i:Nat} (h:A.length≤i):cS A i=0:=by unfold cS; rw [bq h]; rfl
theorem uh {A:List (Fp p)} {i:Nat} (h:i<A.length):A[i]=cS A i:=by unfold cS; rw [ac h]; rfl
def qu (A:List (Fp p)):Prop:=∀n,A.length=n+1→cS A n≠0
theorem zk (S:List (Fp p)) (i:Nat):cS (fl S) i=cS S i:=by
 unfold cS fl;have hle:=Dx S S.length
 by_cases h:i<stl S S.length
 ·rw [eh,if_pos h]
 ·rw [eh,if_neg h]
  by_cases h2:i<S.length
  ·rw [Lh S S.length i (by omega) h2]; rfl
  ·rw [bq (by omega)]
theorem jg (S:List (Fp p)):qu (fl S):=fun n hn=>by
 obtain ⟨a,x,e,hx⟩:=X0 (S:=S) (by omega)
 rw [e] at hn ⊢;rw [bg,jk] at hn;unfold cS;rw [bj (by omega),show n-a.length=0 by omega]
 exact hx
theorem Tv {A B:List (Fp p)} (hA:qu A) (hB:qu B) (h:∀i,cS A i=cS B i):A=B:=by
 have hl:A.length=B.length:=by
  rcases jd A.length B.length with g | g | g
  ·exact absurd (by rw [←h]; exact Ho (by omega)) (hB (B.length-1) (by omega))
  ·exact g
  ·exact absurd (by rw [h]; exact Ho (by omega)) (hA (A.length-1) (by omega))
 refine oc hl fun i h1 h2=>?_
 rw [uh h1,uh h2,h]
theorem I9 {X Y:List (Fp p)} (h:∀i,cS X i=cS Y i):fl X=fl Y:=
 Tv (jg X) (jg Y) fun i=>by rw [zk,zk,h]
theorem a7i {A:List (Fp p)} (hA:qu A):fl A=A:=Tv (jg A) hA (zk A)
theorem Hu {X:List (Fp p)} {n:Nat} (h:∀i,n≤i→cS X i=0):(fl X).length≤n:=by
 rcases dx n (fl X).length with g | g
 ·have:=jg X ((fl X).length-1) (by omega)
  rw [zk] at this;exact absurd (h _ (by omega)) this
 ·exact g
theorem Lf:qu ([]:List (Fp p)):=fun n h=>by cases h
theorem adt (i:Nat):cS ([]:List (Fp p)) i=0:=rfl
theorem af8 {A:List (Fp p)} {N:Nat} (h:∀i,(cS A i).len≤N):∀c∈A,c.len≤N:=fun c hc=>by
 obtain ⟨i,hi,rfl⟩:=je hc;rw [uh hi]; exact h i
theorem Ln {A:List (Fp p)} {N:Nat} (h:∀c∈A,c.len≤N) (i:Nat):(cS A i).len≤N:=by
 by_cases hi:i<A.length
 ·rw [←uh hi]; exact h _ (az hi)
 ·rw [Ho (by omega),Pol.len_zero]; omega
theorem Ql {n:Nat} {f:Nat→Fp p} (i:Nat):cS ((List.range n).map f) i=if i<n then f i else 0:=by
 unfold cS;rw [cb]
 by_cases h:i<n
 ·rw [db h,if_pos h]; rfl
 ·rw [bq (by simpa using h),if_neg h]; rfl
noncomputable def ia (k:Int) (A B:List (Fp p)):List (Fp p):=fl ((List.range (max A.length B.length)).map fun i=>cS A i+Pol.C (zp p k)*cS B i)
theorem E2 (k:Int) (A B:List (Fp p)) (i:Nat):cS (ia k A B) i=cS A i+Pol.C (zp p k)*cS B i:=by
 unfold ia;rw [zk,Ql]
 split
 ·rfl
 ·rw [Ho (A:=A) (by omega),Ho (A:=B) (by omega),Gq.mul_zero,Gq.add_zero]
theorem Ub (k:Int) (A B:List (Fp p)):qu (ia k A B):=jg _
theorem Aa (k:Int) (A B:List (Fp p)):(ia k A B).length≤max A.length B.length:=Hu fun i hi=>by
 rw [Ql,if_neg (by omega)]
noncomputable def kg (c:Fp p) (k:Nat):List (Fp p):=List.replicate k 0++[c]
theorem i9 (c:Fp p) (k:Nat):(kg c k).length=k+1:=by unfold kg; rw [bg,bt]; rfl
theorem Eh (c:Fp p) (k i:Nat):cS (kg c k) i=if i=k then c else 0:=by
 unfold cS kg;rcases jd i k with h | h | h
 ·rw [bi (by rw [bt]; exact h),gi,if_pos h,if_neg (by omega)]; rfl
 ·rw [bj (by rw [bt]; omega),bt,h,lh,if_pos rfl]; rfl
 ·rw [bq (by rw [bg,bt,jk]; omega),if_neg (by omega)]; rfl
theorem Ia {c:Fp p} (h:c≠0) (k:Nat):qu (kg c k):=fun n hn=>by
 rw [i9] at hn;rw [Eh,if_pos (by omega)]; exact h
theorem wn {A:List (Fp p)} (i:Nat):cS (pd8 A) i=cS A i:=by
 unfold pd8 cS
 by_cases h:i<A.length
 ·rw [bi h]
 ·rw [bj (by omega),gi,bq (l:=A) (by omega)]
  split <;> rfl
theorem fx {A:List (Fp p)} (h:A.length≤8):(pd8 A).length=8:=by unfold pd8; rw [bg,bt]; omega
theorem Lo {A:List (Fp p)} (h:qu A):fl (pd8 A)=A:=(I9 fun i=>wn i).trans (a7i h)
theorem C0 {X Y:List (Fp p)} (hX:X.length=8) (hY:Y.length=8) (h:∀i,i<8→cS X i=cS Y i):X=Y:=by
 refine oc (by omega) fun i h1 h2=>?_
 rw [uh h1,uh h2,h i (by omega)]
theorem lf (S:List (Fp p)):(fl S).length≤S.length:=by
 unfold fl; rw [b8]; omega
theorem a5x {X:List (Fp p)} {n i:Nat} {c:Fp p} (h:n<X.length):cS (X.set n c) i=if i=n then c else cS X i:=by
 unfold cS
 by_cases hi:i=n
 ·subst hi; rw [b4 h,if_pos rfl]; rfl
 ·rw [b7 (by omega),if_neg hi]
theorem Yj {Q:List (Fp p)} {k:Nat} {c:Fp p} (hQ:Q.length≤8) (hk:k<8) (h0:cS Q k=0):(pd8 Q).set k c=pd8 (ia 1 Q (kg c k)):=by
 have hl:=fx hQ;have hpl:=Aa 1 Q (kg c k);rw [i9] at hpl;refine C0 (by rw [bx]; exact hl) (fx (by omega)) fun i _=>?_
 rw [a5x (by omega),wn,wn,E2,Eh,Af,Pol.C_one,Gq.one_mul]
 by_cases hi:i=k
 ·subst hi; rw [if_pos rfl,if_pos rfl,h0,Gq.zero_add]
 ·rw [if_neg hi,if_neg hi,Gq.add_zero]
theorem Bs {B:List (Fp p)} (h:1≤B.length):∃b,B=b++[cS B (B.length-1)]∧b.length=B.length-1:=by
 have hlt:B.length-1<B.length:=by omega
 refine ⟨B.take (B.length-1),?_,by rw [b8]; omega⟩
 rw [←uh hlt,←br hlt,show B.length-1+1=B.length by omega,iq]
end
section
variable {p:Int} [IsP p]
theorem Lz {m x:Fp p} {i N:Nat} (hm:m≠0) (hN:m.len≤N+1):∀(k:Nat) (b Q:List (Fp p)),(∀c∈Q,c.len≤N)→∀c∈o8 m x i k b Q,c.len≤N
 | _,[],_,h=>h
 | k,y::ys,Q,h=>Lz hm hN (k+1) ys _ (Xb h (by have:=Pol.len_mod (x*ef m (i%(m.len-1)) y) hm; omega))
theorem Ib {m:Fp p} {b:List (Fp p)} {N:Nat} (hm:m≠0) (hN:m.len≤N+1):∀(i:Nat) (a Q:List (Fp p)),(∀c∈Q,c.len≤N)→∀c∈n5 m b i a Q,c.len≤N
 | _,[],_,h=>h
 | i,_x::xs,Q,h=>Ib hm hN (i+1) xs _ (Lz hm hN 0 b Q h)
theorem sb {m:Fp p} {a b:List (Fp p)} {N:Nat} (hm:m≠0) (hN:m.len≤N+1):∀c∈ke m a b,c.len≤N:=fun c hc=>by
 unfold ke at hc
 split at hc
 ·cases hc
 ·have h1:c∈sw m a b:=fc hc
  exact Ib hm hN 0 a _ (fun c hc=>by rw [fg hc,Pol.len_zero]; omega) c h1
theorem rz (m:Fp p) (a b:List (Fp p)):qu (ke m a b):=by
 unfold ke
 split
 ·exact Lf
 ·exact jg _
theorem Am {m:Fp p} {a b:List (Fp p)}:(ke m a b).length≤a.length+b.length-1:=by
 unfold ke
 split
 ·exact fh _
 ·have:=lf (sw m a b)
  have hl:(sw m a b).length=a.length+b.length-1:=by unfold sw; rw [kz,bt]
  omega
theorem a4a {m x y:Fp p} {a b:List (Fp p)}:cS (sw m (a++[x]) (b++[y])) (a.length+b.length)=x*ef m (a.length%(m.len-1)) y%m:=by
 unfold sw;rw [De,Gn];unfold jj;rw [wy _ _ _ (by omega),zf _ _ _ (by rw [bg,bv,da]; omega)]
 have hN:0+a.length+(0+b.length)=a.length+b.length:=by omega
 rw [hN];unfold cS;rw [b4 (by rw [oe,kz,bt,bg,bg]; simp only [bv,da]; omega)]
 rw [gi,if_pos (by rw [bg,bg]; simp only [bv,da]; omega)]
 show (0:Fp p)+_=_;rw [Gq.zero_add,show 0+a.length=a.length by omega]
theorem S9 {m:Fp p} {A B:List (Fp p)} (ha:1≤A.length) (hb:1≤B.length):cS (ke m A B) (A.length-1+(B.length-1))=cS A (A.length-1)*ef m ((A.length-1)%(m.len-1)) (cS B (B.length-1))%m:=by
 obtain ⟨a,ea,la⟩:=Bs ha;obtain ⟨b,eb,lb⟩:=Bs hb;have h:=a4a (m:=m) (x:=cS A (A.length-1)) (y:=cS B (B.length-1)) (a:=a) (b:=b);rw [←ea,←eb,la,lb] at h;unfold ke;rw [if_neg (by omega),zk]
 exact h
theorem a3h {m:Fp p} {X Y:List (Fp p)} (hX:qu X) (hY:qu Y) (h9:X.length+Y.length≤9) (hXl:∀c∈X,c.len<m.len) (hYl:∀c∈Y,c.len<m.len) (hm:Fld m):Rp m (pd8 X) (pd8 Y)=.tup [Ck (skP (pd8 (ke m X Y))),(D.bool true)]:=by
 unfold Rp ke;rw [Lo hX,Lo hY]
 by_cases h0:X.length=0∨Y.length=0
 ·rw [if_pos h0,if_pos h0,aa6]
 ·rw [if_neg h0,if_neg (by omega),if_neg h0]
  obtain ⟨a,ea,la⟩:=Bs (B:=X) (by omega)
  obtain ⟨b,eb,lb⟩:=Bs (B:=Y) (by omega)
  have hx:=hX (X.length-1) (by omega)
  have hy:=hY (Y.length-1) (by omega)
  have ht:=Sf hm (a:=a) (b:=b) hx (hXl _ (by rw [←uh (show X.length-1<X.length by omega)]; exact az _)) hy (hYl _ (by rw [←uh (show Y.length-1<Y.length by omega)]; exact az _))
  rw [←ea,←eb] at ht;rw [ht,a66 (by omega) (by omega) (by omega)]
theorem Sz {m x y:Fp p} (hm:Fld m) (hx:x.len<m.len) (hy:y≠0) (hyl:y.len<m.len):(x*jp m y%m)*y%m=x∧y*(x*jp m y%m)%m=x:=by
 have h0:m≠0:=hm.mon.2;have e:=Qt hm hy hyl
 have key:Quo.mk m ((x*jp m y%m)*y)=Quo.mk m x:=by
  rw [Quo.mk_mul,Pol.mk_mod,Quo.mk_mul,Gq.mul_assoc,e,Gq.mul_one]
 have h1:=(Pol.mod_eq_iff h0).2 key;rw [Pol.mod_small hx] at h1;exact ⟨h1,by rw [Gq.mul_comm]; exact h1⟩
theorem Tb {m:Fp p}:∀(b a:Nat) (x:Fp p),ef m (a+b) x=ef m a (ef m b x)
 | 0,_,_=>rfl
 | b+1,a,x=>by
  show ef m (a+b) (pw x p.toNat%m)=ef m a (ef m b (pw x p.toNat%m));exact Tb b a _
theorem X8 {m:Fp p} (hm:Fld m) (j:Nat) {z:Fp p} (hz:z.len<m.len):ef m (j%(m.len-1)) (ef m ((m.len-1-j%(m.len-1))%(m.len-1)) z)=z:=by
 have h2:=hm.two;have hlt:=Nat.mod_lt j (show 0<m.len-1 by omega)
 rw [G1 hm _ hz,←Tb,show j%(m.len-1)+(m.len-1-j%(m.len-1))=m.len-1 by omega,←G1 hm _ hz,Nat.mod_self]
 rfl
noncomputable def qc (left:Bool) (m:Fp p) (A B:List (Fp p)):Fp p:=
 if left then ef m ((m.len-1-(B.length-1)%(m.len-1))%(m.len-1)) (cS A (A.length-1)*jp m (cS B (B.length-1))%m)
 else cS A (A.length-1)*jp m (ef m ((A.length-B.length)%(m.len-1)) (cS B (B.length-1)))%m
noncomputable def qT (left:Bool) (m:Fp p) (A B:List (Fp p)):List (Fp p):=kg (qc left m A B) (A.length-B.length)
noncomputable def qP (left:Bool) (m:Fp p) (A B:List (Fp p)):List (Fp p):=if left then ke m B (qT left m A B) else ke m (qT left m A B) B
noncomputable def pc (left:Bool) (m:Fp p) (B:List (Fp p)):Nat→List (Fp p)→List (Fp p)→List (Fp p)×List (Fp p)
 | 0,Q,A=>(Q,A)
 | n+1,Q,A=>if A.length<B.length then (Q,A) else pc left m B n (ia 1 Q (qT left m A B)) (ia (-1) A (qP left m A B))
end
section
variable {p:Int}
structure Sk (m:Fp p) (A:List (Fp p)):Prop where
 trim:qu A
 eight:A.length≤8
 res:∀c∈A,c.len<m.len
theorem Sk.cs {m:Fp p} {A:List (Fp p)} (h:Sk m A) (hm:m≠0) (i:Nat):(cS A i).len<m.len:=by
 have:=Ln (N:=m.len-1) (fun c hc=>by have:=h.res c hc; omega) i
 have:=Pol.len_pos hm;omega
theorem Sk.top {m:Fp p} {A:List (Fp p)} (h:Sk m A) (h1:1≤A.length):cS A (A.length-1)≠0:=h.trim _ (by omega)
theorem Sk.nil (m:Fp p):Sk m []:=⟨Lf,by simp,fun c h=>by cases h⟩
end
section
variable {p:Int} [IsP p]
theorem a5m {p:Int} {a:Fp p} {n:Nat} (h:a.len≤n):a.c n=0:=a.lt_len n h
theorem Sk.plus {m:Fp p} {A B:List (Fp p)} (hm:m≠0) (hA:Sk m A) (hB:Sk m B) (k:Int):Sk m (ia k A B):=by
 have h1:=Pol.len_pos hm;refine ⟨Ub k A B,by have:=Aa k A B; have:=hA.eight; have:=hB.eight; omega,fun c hc=>?_⟩
 have:=af8 (A:=ia k A B) (N:=m.len-1) (fun i=>by
  rw [E2];have a1:=hA.cs hm i;have a2:=hB.cs hm i;exact Pol.len_add_le (by omega) (Pol.len_le fun j hj=>by rw [Pol.c_Cmul,a5m (by omega),Gq.mul_zero])) c hc
 omega
theorem J6 (left:Bool) {m:Fp p} (hm:Fld m) {A B:List (Fp p)} (hA:Sk m A) (hB:Sk m B) (h1:1≤B.length) (hle:B.length≤A.length) :
 qc left m A B≠0∧(qc left m A B).len<m.len∧Sk m (qT left m A B)∧Sk m (qP left m A B)∧(ia (-1) A (qP left m A B)).length<A.length∧Sk m (ia (-1) A (qP left m A B)):=by
 have h0:m≠0:=hm.mon.2;have hx:=hA.top (by omega)
 have hxl:=hA.cs h0 (A.length-1);have hy:=hB.top h1;have hyl:=hB.cs h0 (B.length-1);have hfy:ef m ((A.length-B.length)%(m.len-1)) (cS B (B.length-1))≠0:=Ja hm _ _ hy hyl;have hfl:=n7 h0 ((A.length-B.length)%(m.len-1)) (cS B (B.length-1)) hyl;have hb1:=Sz hm hxl hfy hfl;have hb2:=Sz hm hxl hy hyl;have hzl:(cS A (A.length-1)*jp m (cS B (B.length-1))%m).len<m.len:=Pol.len_mod _ h0
 have hz0:cS A (A.length-1)*jp m (cS B (B.length-1))%m≠0:=fun h=>by
  have:=hb2.1;rw [h,Gq.zero_mul,Pol.zero_mod h0] at this;exact hx this.symm
 have hc0:qc left m A B≠0:=by
  unfold qc;cases left with
  | true=>simp only [if_true]; exact Ja hm _ _ hz0 hzl
  | false=>
   simp only [b5,if_false];intro h;have:=hb1.1;rw [h,Gq.zero_mul,Pol.zero_mod h0] at this;exact hx this.symm
 have hcl:(qc left m A B).len<m.len:=by
  unfold qc;cases left with
  | true=>simp only [if_true]; exact n7 h0 _ _ hzl
  | false=>simp only [b5,if_false]; exact Pol.len_mod _ h0
 have hTl:(qT left m A B).length=A.length-B.length+1:=i9 _ _;have h8:=hA.eight
 have hT:Sk m (qT left m A B):=⟨Ia hc0 _,by omega,fun c hc=>by
  unfold qT kg at hc;rcases bp.1 hc with h | h
  ·rw [fg h,Pol.len_zero]; exact Pol.len_pos h0
  ·rw [c7.1 h]; exact hcl⟩
 have hPl:(qP left m A B).length≤A.length:=by
  unfold qP;cases left with
  | true=>have:=Am (m:=m) (a:=B) (b:=qT true m A B); simp only [if_true]; omega
  | false=>have:=Am (m:=m) (a:=qT false m A B) (b:=B); simp only [b5,if_false]; omega
 have hP:Sk m (qP left m A B):=by
  have hm1:=Pol.len_pos h0;refine ⟨?_,by omega,?_⟩
  ·unfold qP
   cases left with
   | true=>exact rz _ _ _
   | false=>exact rz _ _ _
  ·intro c hc
   have:c.len≤m.len-1:=by
    unfold qP at hc;cases left with
    | true=>exact sb h0 (by omega) c hc
    | false=>exact sb h0 (by omega) c hc
   omega
 have htop:cS (qP left m A B) (A.length-1)=cS A (A.length-1):=by
  unfold qP;cases left with
  | true=>
   simp only [if_true];have h:=S9 (m:=m) (A:=B) (B:=qT true m A B) h1 (by omega)
   rw [hTl,show B.length-1+(A.length-B.length+1-1)=A.length-1 by omega,show A.length-B.length+1-1=A.length-B.length by omega] at h
   rw [h];unfold qT;rw [Eh,if_pos rfl];unfold qc;simp only [if_true];rw [X8 hm (B.length-1) hzl];exact hb2.2
  | false=>
   simp only [b5,if_false];have h:=S9 (m:=m) (A:=qT false m A B) (B:=B) (by omega) h1
   rw [hTl,show A.length-B.length+1-1+(B.length-1)=A.length-1 by omega,show A.length-B.length+1-1=A.length-B.length by omega] at h
   rw [h];unfold qT;rw [Eh,if_pos rfl];unfold qc;simp only [b5,if_false];exact hb1.1
 have hneg:∀x:Fp p,x+Pol.C (zp p (-1))*x=0:=fun x=>by
  rw [Jp,Af,Pol.C_neg,Pol.C_one];exact cu [x] rfl
 refine ⟨hc0,hcl,hT,hP,?_,hA.plus h0 hP (-1)⟩
 have hlt:(ia (-1) A (qP left m A B)).length≤A.length-1:=Hu fun i hi=>by
  rw [Ql]
  split
  ·rcases dx i A.length with g | g
   ·rw [show i=A.length-1 by omega,htop,hneg]
   ·rw [Ho g,Ho (A:=qP left m A B) (by omega),Gq.mul_zero,Gq.add_zero]
  ·rfl
 omega
def Zto (Q A B:List (Fp p)):Prop:=∀j,j+B.length≤A.length→cS Q j=0
theorem Zto.step {left:Bool} {m:Fp p} (hm:Fld m) {Q A B:List (Fp p)} (hA:Sk m A) (hB:Sk m B) (h1:1≤B.length) (hle:B.length≤A.length) (hz:Zto Q A B):Zto (ia 1 Q (qT left m A B)) (ia (-1) A (qP left m A B)) B:=fun j hj=>by
 obtain ⟨_,_,_,_,h,_⟩:=J6 left hm hA hB h1 hle;unfold qT;rw [E2,hz j (by omega),Eh,if_neg (by omega),Gq.mul_zero,Gq.add_zero]
theorem J5 (left:Bool) {m:Fp p} (hm:Fld m) {B:List (Fp p)} (hB:Sk m B) (h1:1≤B.length):∀(n:Nat) (Q A:List (Fp p)),A.length≤n→Sk m Q→Sk m A→Sk m (pc left m B n Q A).1∧Sk m (pc left m B n Q A).2∧(pc left m B n Q A).2.length<B.length
 | 0,Q,A,h,hQ,hA=>⟨hQ,hA,by show A.length<B.length; omega⟩
 | n+1,Q,A,h,hQ,hA=>by
  unfold pc
  split
  ·exact ⟨hQ,hA,by assumption⟩
  ·obtain ⟨_,_,hT,hP,hl,hA'⟩:=J6 left hm hA hB h1 (by omega)
   exact J5 left hm hB h1 n _ _ (by omega) (hQ.plus hm.mon.2 hT 1) hA'
end
end Pe
namespace Pe
open Go Gq
variable {T:Nat→Option Fn} {A:am}
abbrev z6:List Int:=List.replicate 6 0
section
variable {p:Int} [IsP p]
noncomputable def mono (p:Int) (i:Nat):Fp p:=pb p (p^i)
end
def a32 (f:Nat→List Int):Nat→Nat→List (List Int)→List (List Int)
 | 0,_,L=>L
 | m+1,i,L=>a32 f m (i+1) (L.set i (f i))
section
variable {O:am} {g:Nat} {first caps:List D}
structure CmpRow (O:am) (g:Nat) (first caps:List D) (f:D→Int) (s:Sh) (cs:List D):Prop where
 nf:A2 first
 nc:A2 caps
 nx:A2 cs
 sh:Hv s cs
 ask:∀x∈cs,∀y∈cs,∃v:Int,ask O g (first++[x,y]++caps)=some (D.int .i64 v)∧(v<0↔f x<f y)
theorem CmpRow.perm {f:D→Int} {s:Sh} {cs ds:List D} (h:CmpRow O g first caps f s cs) (p:ds.Perm cs):CmpRow O g first caps f s ds:=
 ⟨h.nf,h.nc,fun x hx=>h.nx x (p.subset hx),fun x hx=>h.sh x (p.subset hx),fun x hx y hy=>h.ask x (p.subset hx) y (p.subset hy)⟩
theorem CmpRow.call {f:D→Int} {s:Sh} {cs:List D} (h:CmpRow O g first caps f s cs) {hp:Heap} {np:Nat} {news:List Nat} {x y:D} (hx:x∈cs) (hy:y∈cs) :
 ∃v:Int,El O np hp .flat news (g,first.map .d,caps.map .d) [.d x,.d y]=some (.d (D.int .i64 v),hp)∧(v<0↔f x<f y):=by
 have e:py hp (first.map .d++[.d x,.d y]++caps.map .d)=some (first++[x,y]++caps):=
  we hp (we hp (oo hp h.nf) (oo hp (ds:=[x,y]) (by intro z hz; simp at hz; rcases hz with rfl | rfl; exact h.nx _ hx; exact h.nx _ hy))) (oo hp h.nc)
 obtain ⟨v,e1,e2⟩:=h.ask x hx y hy;refine ⟨v,?_,e2⟩;rw [Cz,e,ah,L3,e1,ah,Gz,show (D.int IntKind.i64 v).flat=true from rfl,if_pos rfl]
theorem a9a {f:D→Int} {n:Nat} {cp:Option Nat} (hn:n≤1000) {i:Nat}:∀(L:List D) (x:D) (R:List D),(L.reverse++x::R).length=n→CmpRow O g first caps f .leaf (L.reverse++x::R)→∃j:Int,
 dn O 1 (.loop ir_slices_insertionSortCmpFunc_impl_row_L0) ⟨[(0,.sl 0 [] 0 n cp),(1,(.d (.int .i64 0))),(2,(.d (.int .i64 n))),(3,.d (.fn g first caps)),(8,(.d (.int .i64 i))),(9,(.d (.int .i64 L.length)))],[.sl false .leaf (L.reverse++x::R)]⟩ =
  some (.exit 2,⟨[(0,.sl 0 [] 0 n cp),(1,(.d (.int .i64 0))),(2,(.d (.int .i64 n))),(3,.d (.fn g first caps)),(8,(.d (.int .i64 i))),(9,(.d (.int .i64 j))),(34,(.d (.bool false)))],[.sl false .leaf (xo f L x R)]⟩)
 | [],x,R,hl,ok=>by
  refine ⟨0,bu ?_⟩;simp -implicitDefEqProofs [ir_slices_insertionSortCmpFunc_impl_row_L0,ap,xo]
 | y::L,x,R,hl,ok=>by
  have hj:(y::L).length=L.length+1:=rfl;have hlen:((y::L).reverse++x::R).length=L.length+1+(R.length+1):=by simp; omega
  have e1:((y::L).reverse++x::R)[L.length+1]? = some x:=by
   rw [bj (by simp)]; simp
  have e2:((y::L).reverse++x::R)[L.length]? = some y:=by
   rw [bi (by simp)]; simp
  have m1:x∈(y::L).reverse++x::R:=by simp
  have m2:y∈(y::L).reverse++x::R:=by simp
  obtain ⟨cv,c,cneg⟩:=ok.call (hp:=[.sl false .leaf ((y::L).reverse++x::R)]) (np:=1) (news:=[]) m1 m2;have s1:=ok.sh x m1;have s2:=ok.sh y m2;have n1:=ok.nx x m1;have n2:=ok.nx y m2
  have e3:(((y::L).reverse++x::R).set (L.length+1) y).set L.length x=L.reverse++x::y::R:=by
   rw [p7 _ _ (by simp),List.set_append_left _ _ (by simp)]
   simp
  have hp:((y::L).reverse++x::R).Perm (L.reverse++x::y::R):=by
   simp;exact (List.Perm.swap x y R).append_left _
  have w1:IntKind.i64.wrap (L.length:Int)=L.length:=w64 (by omega)
  have h0:(0:Int)<(L.length:Int)+1:=by omega
  have h00:(0:Int)≤(L.length:Int)+1:=by omega
  have h1:L.length+1<n:=by omega
  have h2:L.length<n:=by omega
  have h3:L.length<((y::L).reverse++x::R).length:=by omega
  have h4:L.length+1<((y::L).reverse++x::R).length:=by omega
  have e4:(((y::L).reverse++x::R).set (L.length+1) y)[L.length]? = some y:=by
   rw [b7 (by omega),e2]
  unfold xo;rw [hj,show ((L.length+1:Nat):Int)=(L.length:Int)+1 by omega]
  generalize (y::L).reverse++x::R=cs at *;have e1':cs[L.length+1]=x:=by rw [ac h4] at e1; exact au e1
  have e2':cs[L.length]=y:=by rw [ac h3] at e2; exact au e2
  by_cases hlt:f x<f y
  ·rw [if_pos hlt]
   obtain ⟨j,e⟩:=a9a hn L x (y::R) (by rw [←hp.length_eq]; omega) (ok.perm hp.symm)
   have hc:=cneg.2 hlt;refine ⟨j,bn ?_ e⟩;simp -implicitDefEqProofs [ir_slices_insertionSortCmpFunc_impl_row_L0,ap,h0,h00,h1,h2,h3,h4,e1',e2',c,s1,s2,n1,n2,w1,hc,e3]
  ·rw [if_neg hlt]
   have hc:=mt cneg.1 hlt;refine ⟨(L.length:Int)+1,bu ?_⟩;simp -implicitDefEqProofs [ir_slices_insertionSortCmpFunc_impl_row_L0,ap,h0,h00,h1,h2,h3,h4,e1',e2',c,s1,s2,w1,hc]
end
theorem a98 {O:am} {g:Nat} {first caps:List D} {f:D→Int} {n:Nat} {cp:Option Nat} (hn:n≤1000):∀(r P:List D),P.length+r.length=n→0<P.length→CmpRow O g first caps f .leaf (P++r) →
 dn O 1 (.loop ir_slices_insertionSortCmpFunc_impl_row_L1) ⟨[(0,.sl 0 [] 0 n cp),(1,(.d (.int .i64 0))),(2,(.d (.int .i64 n))),(3,.d (.fn g first caps)),(8,(.d (.int .i64 P.length)))],[.sl false .leaf (P++r)]⟩ =
  some (.exit 0,⟨[(0,.sl 0 [] 0 n cp),(1,(.d (.int .i64 0))),(2,(.d (.int .i64 n))),(3,.d (.fn g first caps)),(8,(.d (.int .i64 n))),(14,(.d (.bool false)))],[.sl false .leaf (G0 f P r)]⟩)
 | [],P,hl,hP,ok=>by
  have hl':P.length=n:=by simpa using hl
  refine bu ?_;simp -implicitDefEqProofs [ir_slices_insertionSortCmpFunc_impl_row_L1,ap,G0,hl']
 | x::r,P,hl,hP,ok=>by
  simp at hl;have e0:P.reverse.reverse++x::r=P++x::r:=by simp
  obtain ⟨j,e⟩:=a9a (O:=O) (g:=g) (first:=first) (caps:=caps) (f:=f) (n:=n) (cp:=cp) hn (i:=P.length) P.reverse x r (by simp; omega) (by rw [e0]; exact ok)
  rw [e0,qw,←cw r,M5,cw] at e;have hlen:=V8 f P.reverse x [];rw [qw,da,dd] at hlen
  have hperm:(xo f P.reverse x []++r).Perm (P++x::r):=by
   refine (List.Perm.append_right r (xz f P.reverse x [])).trans ?_;simp;exact List.perm_middle.symm
  have ih:=a98 (O:=O) (g:=g) (first:=first) (caps:=caps) (f:=f) (cp:=cp) hn r (xo f P.reverse x []) (by rw [hlen]; omega) (by omega) (ok.perm hperm)
  have hlt:P.length<n:=by omega
  have w1:=wi P.length;rw [hlen] at ih;unfold G0;refine bn ?_ ih;simp -implicitDefEqProofs [ir_slices_insertionSortCmpFunc_impl_row_L1,ap,hlt,e,w1]
def aax (O:am) (F:Nat) (args:V→List V→List V):Prop:=∀(g:Nat) (first caps:List D) (f:D→Int) (cs:List D) (cp:Option Nat),cs.length≤12→CmpRow O g first caps f .leaf cs →
 ∃ds:List D,ds.Perm cs∧Asc f ds∧O F (args (.sl 0 [] 0 cs.length cp) [(.d (.int .i64 cs.length)),.d (.fn g first caps)]) [.sl false .leaf cs]=some (.tup [],[.sl false .leaf ds],[])
def Ex (O:am):Prop:=aax O F2q fun s l=>[s,(.d (.int .i64 0))]++l
theorem a9h (hT:T F2q=some Z2q):Ex (den T A):=by
 intro g first caps f cs cp hl ok;cases cs with
 | nil=>
  refine ⟨[],.refl _,List.Pairwise.nil,pm hT rfl ?_⟩;have st:=bu (O:=den T A) (np:=1) (c:=ir_slices_insertionSortCmpFunc_impl_row_L1) (s:=⟨[(0,.sl 0 [] 0 0 cp),(1,(.d (.int .i64 0))),(2,(.d (.int .i64 0))),(3,.d (.fn g first caps)),(8,(.d (.int .i64 1)))],[.sl false .leaf []]⟩) (s1:=⟨[(0,.sl 0 [] 0 0 cp),(1,(.d (.int .i64 0))),(2,(.d (.int .i64 0))),(3,.d (.fn g first caps)),(8,(.d (.int .i64 1))),(14,(.d (.bool false)))],[.sl false .leaf []]⟩) (id:=0) (by simp -implicitDefEqProofs [ir_slices_insertionSortCmpFunc_impl_row_L1,ap])
  have w1:IntKind.i64.wrap 1=1:=wt;simp -implicitDefEqProofs [Z2q,ir_slices_insertionSortCmpFunc_impl_row_B,st,w1]
 | cons x r=>
  have e:=a98 (O:=den T A) (g:=g) (first:=first) (caps:=caps) (f:=f) (n:=(x::r).length) (cp:=cp) (by omega) r [x] (by simp; omega) (by simp) ok
  have e1:(([x]:List D).length:Int)=1:=rfl;rw [e1] at e;refine ⟨G0 f [x] r,Ge f r [x],Lb f r [x] (fk _ _),pm hT rfl ?_⟩;have w1:IntKind.i64.wrap 1=1:=wt;rw [List.singleton_append] at e;generalize x::r=cs at *;simp -implicitDefEqProofs [Z2q,ir_slices_insertionSortCmpFunc_impl_row_B,e,w1]
theorem a74 (hT:T F35=some Z35) (hi:Ex (den T A)):∀(g:Nat) (first caps:List D) (f:D→Int) (cs:List D) (cp:Option Nat) (v:Int),cs.length≤12→CmpRow (den T A) g first caps f .leaf cs →
 ∃ds:List D,ds.Perm cs∧Asc f ds∧den T A F35 [.sl 0 [] 0 cs.length cp,(.d (.int .i64 0)),(.d (.int .i64 cs.length)),(.d (.int .i64 v)),.d (.fn g first caps)] [.sl false .leaf cs]=some (.tup [],[.sl false .leaf ds],[]):=by
 intro g first caps f cs cp v hl ok;obtain ⟨ds,h1,h2,e⟩:=hi g first caps f cs cp hl ok;refine ⟨ds,h1,h2,pm hT rfl ?_⟩;have w1:IntKind.i64.wrap (cs.length:Int)=cs.length:=w64 (by omega)
 have h12:(cs.length:Int)≤12:=by omega
 have lp:=u5 (O:=den T A) (np:=1) (c:=ir_slices_pdqsortCmpFunc_impl_row_L0) (s:=⟨[(0,.sl 0 [] 0 cs.length cp),(1,(.d (.int .i64 0))),(2,(.d (.int .i64 cs.length))),(3,(.d (.int .i64 v))),(4,.d (.fn g first caps)),(10,(.d (.bool true))),(11,(.d (.bool true)))],[.sl false .leaf cs]⟩) (s1:=⟨[],[.sl false .leaf ds]⟩) (by
  simp at e;simp -implicitDefEqProofs [ir_slices_pdqsortCmpFunc_impl_row_L0,ap,w1,h12,e,List.idxOf,List.findIdx,List.findIdx.go])
 simp -implicitDefEqProofs [Z35,ir_slices_pdqsortCmpFunc_impl_row_B,lp]
def Bb (O:am):Prop:=∀(g:Nat) (first caps:List D) (f:D→Int) (cs:List D) (cp:Option Nat),cs.length≤12→CmpRow O g first caps f .leaf cs →
 ∃ds:List D,ds.Perm cs∧Asc f ds∧O F2i [.sl 0 [] 0 cs.length cp,.d (.fn g first caps)] [.sl false .leaf cs]=some (.tup [],[.sl false .leaf ds],[])
theorem a37 (hT:T F2i=some Z2i) (hTp:T F35=some Z35) (hi:Ex (den T A)) (hl:yp (den T A) F27):Bb (den T A):=by
 intro g first caps f cs cp hl12 ok;obtain ⟨v,ev⟩:=hl cs.length hl12;obtain ⟨ds,h1,h2,e⟩:=a74 hTp hi g first caps f cs cp v hl12 ok;refine ⟨ds,h1,h2,pm hT rfl ?_⟩
 have w1:IntKind.u64.wrap (cs.length:Int)=cs.length:=by
  simp [IntKind.wrap,IntKind.bits,IntKind.signed]; omega
 simp -implicitDefEqProofs [Z2i,ir_slices_SortFunc_impl_row_impl_row_B,w1,ev,e,List.idxOf,List.findIdx,List.findIdx.go]
section
variable {p:Int}
noncomputable def elim (a b:Fp p):Fp p:=b+Pol.C (-(b.c (a.len-1)))*a
noncomputable def fd:List (Fp p)→Fp p→Fp p
 | [],a=>a
 | b::bs,a=>fd bs (elim b a)
noncomputable def yn (a:Fp p):List (Fp p)→List (Fp p)
 | []=>[a]
 | b::bs=>if b.len<a.len then a::(b::bs).map (elim a) else elim a b::yn a bs
theorem vg (a:Fp p):∀L:List (Fp p),(yn a L).Perm (L.map (elim a)++[a])
 | []=>.refl _
 | b::bs=>by
  unfold yn
  split
  ·exact (List.perm_append_singleton a ((b::bs).map (elim a))).symm
  ·exact (vg a bs).cons _
theorem abk {a:Fp p} {n:Nat} (h:a.len≤n):a.c n=0:=a.lt_len n h
theorem Y6 (a b:Fp p) (n:Nat):(elim a b).c n=b.c n + -(b.c (a.len-1))*a.c n:=by
 unfold elim; rw [Pol.c_add,Pol.c_Cmul]
theorem Ey {a c:Fp p}:∀{L:List (Fp p)},c∈yn a L→c=a∨∃b∈L,c=elim a b:=fun {L} h=>by
 have:=(vg a L).subset h;rcases bp.1 this with h | h
 ·obtain ⟨b,hb,rfl⟩:=cn.1 h; exact .inr ⟨b,hb,rfl⟩
 ·exact .inl (by simpa using h)
noncomputable abbrev bf (a:Fp p):D:=(D.sl .leaf (aq .i64 (row a)))
def a8d:D→Int
 | .sl _ cs=>-(cs.length:Int)
 | _=>0
theorem Ga (a:Fp p):a8d (bf a)=-(a.len:Int):=by
 show -((aq .i64 (row a)).length:Int)=_;rw [Sl,ca]
theorem a24 {L M:List (Fp p)} (hp:M.Perm L) (hL:L.Pairwise fun x y=>y.len<x.len) (hM:M.Pairwise fun x y=>y.len≤x.len):M=L:=by
 refine List.Perm.eq_of_pairwise (le:=fun x y:Fp p=>y.len≤x.len) (fun a b ha hb h1 h2=>?_) hM (hL.imp fun h=>by omega) hp
 have ha':=hp.subset ha;have e:a.len=b.len:=Nat.le_antisymm h2 h1;clear h1 h2 hM
 induction L generalizing M with
 | nil=>cases hb
 | cons c L ih=>
  obtain ⟨g1,g2⟩:=ez.1 hL;rcases dp.1 ha' with rfl | ha1
  ·rcases dp.1 hb with rfl | hb1
   ·rfl
   ·have:=g1 b hb1; omega
  ·rcases dp.1 hb with rfl | hb1
   ·have:=g1 a ha1; omega
   ·exact ih (M:=L) (.refl _) g2 ha1 hb1 ha1
theorem Ov {n:Nat}:∀{L:List (Fp p)} {a:Fp p},(∀b∈L,b.len≤n)→(fd L a).c n=a.c n
 | [],_,_=>rfl
 | b::L,a,h=>by
  show (fd L (elim b a)).c n=_;rw [Ov (L:=L) (fun c hc=>h c (by simp [hc])),Y6,abk (a:=b) (h b (by simp)),Gq.mul_zero,Gq.add_zero]
end
section
variable {p:Int} [IsP p]
structure Desc (N:Nat) (L:List (Fp p)):Prop where
 pw:L.Pairwise fun x y=>y.len<x.len
 mon:∀b∈L,Monic b
 le:∀b∈L,b.len≤N
theorem Desc.nil (N:Nat):Desc N ([]:List (Fp p)):=⟨List.Pairwise.nil,(fun _ h=>by cases h),(fun _ h=>by cases h)⟩
theorem Desc.tail {N:Nat} {b:Fp p} {L:List (Fp p)} (h:Desc N (b::L)):Desc N L∧∀c∈L,c.len<b.len:=
 ⟨⟨h.pw.tail,fun c hc=>h.mon c (by simp [hc]),fun c hc=>h.le c (by simp [hc])⟩,(ez.1 h.pw).1⟩
theorem Desc.length:∀{N:Nat} {L:List (Fp p)},Desc N L→L.length≤N
 | N,[],_=>fh _
 | N,b::L,h=>by
  obtain ⟨h1,h2⟩:=h.tail;have hb:=Pol.len_pos (h.mon b (by simp)).2
  have hle:=h.le b (by simp)
  have:=Desc.length (N:=b.len-1) ⟨h1.pw,h1.mon,fun c hc=>by have:=h2 c hc; omega⟩
  rw [bv]; omega
theorem xg {N:Nat} {a b:Fp p} (ha:a.len≤N) (hb:b.len≤N):(elim a b).len≤N:=by
 unfold elim;refine Pol.len_add_le hb (Pol.len_le fun i hi=>?_)
 rw [Pol.c_Cmul,abk (a:=a) (by omega),Gq.mul_zero]
theorem aar {a:Fp p} (ha:Monic a) (b:Fp p):(elim a b).c (a.len-1)=0:=by
 rw [Y6,show a.c (a.len-1)=1 from ha.1,Gq.mul_one];exact Gq.add_neg _
theorem Eu {N:Nat}:∀{L:List (Fp p)} {a:Fp p},(∀b∈L,b.len≤N)→a.len≤N→(fd L a).len≤N
 | [],_,_,ha=>ha
 | b::L,a,h,ha=>Eu (L:=L) (fun c hc=>h c (by simp [hc])) (xg (h b (by simp)) ha)
theorem Ns {N:Nat}:∀{L:List (Fp p)} {a:Fp p},Desc N L→∀b∈L,(fd L a).c (b.len-1)=0
 | b::L,a,h,c,hc=>by
  obtain ⟨h1,h2⟩:=h.tail;show (fd L (elim b a)).c _=0;rcases dp.1 hc with rfl | hc
  ·rw [Ov (L:=L) (fun d hd=>by have:=h2 d hd; omega),aar (h.mon c (by simp))]
  ·exact Ns h1 c hc
theorem a17 {N:Nat} {L:List (Fp p)} {a:Fp p} (h:Desc N L) (h0:fd L a≠0):∀b∈L,b.len≠(fd L a).len:=fun b hb e=>by
 have h1:=Ns (a:=a) h b hb;rw [e] at h1;exact Pol.ld_ne h0 h1
theorem a5c {a b:Fp p} (hb:Monic b) (hne:b.len≠a.len):Monic (elim a b)∧(elim a b).len=b.len:=by
 have hbp:=Pol.len_pos hb.2;rcases dx b.len a.len with h | h
 ·have:elim a b=b:=by
   unfold elim;rw [abk (by omega),ud,Pol.C_zero,Gq.zero_mul,Gq.add_zero]
  rw [this]; exact ⟨hb,rfl⟩
 ·have hc:(elim a b).c (b.len-1)=1:=by
   rw [Y6,abk (a:=a) (by omega),Gq.mul_zero,Gq.add_zero]; exact hb.1
  have hl:(elim a b).len=b.len:=by
   have h1:(elim a b).len=(b.len-1)+1:=Pol.len_eq (Pol.lt_iff.2 (by
    rw [Nat.sub_add_cancel hbp]; exact xg h (ba _))) (by rw [hc]; exact Fd.one_ne)
   omega
  refine ⟨⟨by unfold Pol.ld; rw [hl]; exact hc,fun h0=>?_⟩,hl⟩
  rw [h0,Pol.len_zero] at hl;omega
theorem Gi {N:Nat} {a:Fp p} (ha:Monic a) (hal:a.len≤N):∀{L:List (Fp p)},Desc N L→(∀b∈L,b.len≠a.len)→Desc N (yn a L)
 | [],_,_=>⟨fk _ _,fun b hb=>by simp [yn] at hb; rw [hb]; exact ha,fun b hb=>by simp [yn] at hb; rw [hb]; exact hal⟩
 | b::L,h,hne=>by
  obtain ⟨h1,h2⟩:=h.tail;have hall:∀c∈b::L,Monic (elim a c)∧(elim a c).len=c.len:=fun c hc=>a5c (h.mon c hc) (hne c hc)
  refine ⟨?_,fun c hc=>?_,fun c hc=>?_⟩
  ·unfold yn
   split
   ·rename_i hlt
    refine ez.2 ⟨fun c hc=>?_,?_⟩
    ·obtain ⟨d,hd,rfl⟩:=cn.1 hc
     rw [(hall d hd).2];rcases dp.1 hd with rfl | hd
     ·exact hlt
     ·have:=h2 d hd; omega
    ·rw [pa]
     refine h.pw.imp_of_mem fun {x y} hx hy hxy=>?_
     rw [(hall x hx).2,(hall y hy).2]; exact hxy
   ·rename_i hge
    refine ez.2 ⟨fun c hc=>?_,(Gi ha hal h1 fun c hc=>hne c (by simp [hc])).pw⟩
    rw [(hall b (by simp)).2]
    rcases Ey hc with rfl | ⟨d,hd,rfl⟩
    ·have:=hne b (by simp); omega
    ·rw [(hall d (by simp [hd])).2]; exact h2 d hd
  ·rcases Ey hc with rfl | ⟨d,hd,rfl⟩
   ·exact ha
   ·exact (hall d hd).1
  ·rcases Ey hc with rfl | ⟨d,hd,rfl⟩
   ·exact hal
   ·rw [(hall d hd).2]; exact h.le d hd
noncomputable def Az (L:List (Fp p)) (x:Fp p):List (Fp p):=by
 classical exact if fd L x=0 then L else yn (Gq.mon (fd L x)) L
theorem Cg {L:List (Fp p)} {x:Fp p} (h:fd L x=0):Az L x=L:=by unfold Az; rw [if_pos h]
theorem Bv {L:List (Fp p)} {x:Fp p} (h:fd L x≠0):Az L x=yn (Gq.mon (fd L x)) L:=by unfold Az; rw [if_neg h]
noncomputable def gd:List (Fp p)→List (Fp p)→List (Fp p)
 | [],L=>L
 | x::xs,L=>gd xs (Az L x)
theorem Gr {N:Nat} {L:List (Fp p)} {x:Fp p} (h:Desc N L) (hx:x.len≤N):Desc N (Az L x):=by
 by_cases h0:fd L x=0
 ·rw [Cg h0]; exact h
 ·rw [Bv h0]
  exact Gi (px h0) (by rw [uu h0]; exact Eu h.le hx) h fun b hb=>by rw [uu h0]; exact a17 h h0 b hb
end
section
variable {p:Int}
theorem a7r {a:Fp p} {L:List (Fp p)} {ds:List D} (hd:(yn a L).Pairwise fun x y=>y.len<x.len) (hp:ds.Perm ((L.map (elim a)++[a]).map bf)) (hs:Asc a8d ds):ds=(yn a L).map bf:=by
 obtain ⟨M,p1,p2⟩:=Hw bf hp.symm (L.map (elim a)++[a]) rfl;subst p2
 have:M=yn a L:=a24 (p1.trans (vg a L).symm) hd (by
  unfold Asc at hs;rw [pa] at hs;exact hs.imp fun h=>by rw [Ga,Ga] at h; omega)
 rw [this]
end
end Pe
