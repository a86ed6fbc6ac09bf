/-
  A part of the proof: an evaluator for a small form of the code, its soundness, and contracts of functions over it.
-/
import Derived.Test.YtbhdhgbmgfokoaaGreatW1
import Derived.Test.YtbhdhgbmgfokoaaGreatW2
import Derived.Test.YtbhdhgbmgfokoaaGreatW3
import Derived.Test.YtbhdhgbmgfokoaaGreatW4

namespace Pe
open Go Gq
variable {T:Nat→Option Fn} {A:af}
open Classical in
def Ir (O:af):Prop:=∀(p:Int) [IsP p] (a:Fp p),a.len≤13→ask O Fy [(D.int .i64 p),(D.sl .leaf (am .i64 (row a)))]=some (D.bool (decide (Monic a∧Irr a)))
open Classical in
theorem a0b (hT:T Fy=some Zy) (hld:uw (den T A)) (hdg:lm (den T A)) (hf:Xg (den T A)):Ir (den T A):=by
 intro p i a hal;have e1:=hld (row a) (by rw [bn]; omega)
 rw [Ca] at e1;have e2:=hdg (row a) (by rw [bn]; omega)
 rw [bn] at e2;refine br hT rfl ?_
 by_cases h1:a.ld=1
 ·have h1':=(uq a.ld).2 h1
  have hM:=(Gn a).2 h1;rw [h1'] at e1
  by_cases h2:2≤a.len
  ·obtain ⟨f1,f2,e3⟩:=hf p a hM.2 hal
   have hiff:=Xz hM f1;have hlt:¬ ((a.len:Int)-1<1):=by omega
   have hlt2:¬ ((a.len:Int)<2):=by omega
   have hlt3:(2:Int)≤a.len:=by omega
   have key:(∃q,fac a=[(q,1)])↔(Monic a∧Irr a):=⟨fun h=>⟨hM,hiff.1 h⟩,fun h=>hiff.2 h.2⟩
   generalize fac a=L at *;cases L with
   | nil=>
    rw [decide_eq_false (fun h0=>by obtain ⟨q,h⟩:=key.2 h0; cases h)]
    simp -implicitDefEqProofs [Zy,Zy_B,ap,e1,e2,e3,hlt]
   | cons x L=>
    cases L with
    | nil=>
     obtain ⟨q,k⟩:=x
     by_cases hk:k=1
     ·subst hk
      rw [decide_eq_true (key.1 ⟨q,rfl⟩)];simp -implicitDefEqProofs [Zy,Zy_B,ap,e1,e2,e3,hlt,kq]
     ·rw [decide_eq_false (fun h0=>by obtain ⟨q',h⟩:=key.2 h0; simp at h; exact hk h.2)]
      have hk':¬ ((k:Int)=1):=by omega
      simp -implicitDefEqProofs [Zy,Zy_B,ap,e1,e2,e3,hlt,kq,hk']
    | cons y L=>
     rw [decide_eq_false (fun h0=>by obtain ⟨q',h⟩:=key.2 h0; simp at h)]
     have hk':¬ (((L.length:Int)+1+1)=1):=by omega
     simp -implicitDefEqProofs [Zy,Zy_B,ap,e1,e2,e3,hlt,hk']
  ·have hlt:((a.len:Int)-1<1):=by omega
   have hlt2:((a.len:Int)<2):=by omega
   rw [decide_eq_false (fun h=>h2 h.2.len)]
   simp -implicitDefEqProofs [Zy,Zy_B,ap,e1,e2,hlt]
 ·have h1':=mt (uq a.ld).1 h1
  rw [decide_eq_false (fun h=>h1 h.1.1)]
  simp -implicitDefEqProofs [Zy,Zy_B,ap,e1,h1']
def Dj (O:af):Prop:=∀(p:Int) (l:List Int),iu l→l.length=64→ask O F4 [(D.int .i64 p),(D.arr 64 .leaf (am .u8 l))]=some (D.bool (isP p&&rk p l))
theorem V7 (hT:T F4=some Z4) (hp:A9 (den T A)) (hi:yq (den T A)):Dj (den T A):=by
 intro p l hb hl;have e1:=hp p;have e2:=hi p l hb hl;refine br hT rfl ?_
 by_cases h:isP p=true
 ·simp -implicitDefEqProofs [Z4,Z4_B,e1,e2,h]
 ·simp -implicitDefEqProofs [Z4,Z4_B,e1,h]
structure Fld {p:Int} [IsP p] (m:Fp p):Prop where
 mon:Monic m
 two:2≤m.len
 five:m.len≤5
 irr:Irr m
def Aj (p:Int) (l:List Int):Prop:=∃(_:IsP p) (m:Fp p),l=pad (row m)∧Fld m
theorem Gl {p:Int} {l:List Int} (h:isP p=true→rk p l=false):¬ Aj p l:=by
 rintro ⟨ip,m,rfl,hm⟩
 have:=h yr;rw [v7] at this;cases this
theorem m8 {p:Int} [IsP p] {a:Fp p} (hl:a.len≤64):Aj p (pad (row a))↔Fld a:=by
 constructor
 ·rintro ⟨ip,m,e,hm⟩
  have hml:=hm.five;rw [(uo hl (by omega)).1 e]
  exact hm
 ·intro h; exact ⟨_,a,rfl,h⟩
open Classical in
def zq (O:af):Prop:=∀(p:Int) (l:List Int),iu l→l.length=64→ask O Fh [(D.int .i64 p),(D.arr 64 .leaf (am .u8 l))]=some (D.bool (decide (Aj p l)))
open Classical in
theorem S0 (hT:T Fh=some Zh) (hro:ye (den T A)) (hip:Dj (den T A)) (hdg:lm (den T A)) (hwi:Cw (den T A)) (hir:Ir (den T A)):zq (den T A):=by
 intro p l hb hl;have e1:=hro l hb hl;have e2:=hip p l hb hl;refine br hT rfl ?_;rcases a7e p hb hl with ⟨h1,h2⟩ | ⟨ip,a,hal,rfl⟩
 ·have h3:(isP p&&rk p l)=false:=by
   cases hx:isP p
   ·rfl
   ·rw [h2 hx]; rfl
  rw [decide_eq_false (Gl h2)];rw [h3] at e2;simp -implicitDefEqProofs [Zh,Zh_B,e1,e2]
 ·rw [yr,v7] at e2
  rw [Ed a hal] at e1;have e3:=hdg (row a) (by rw [bn]; omega)
  rw [bn] at e3;have e4:=hwi ((a.len:Int)-1) 1 4
  by_cases h:2≤a.len∧a.len≤5
  ·have h3:decide ((1:Int)≤(a.len:Int)-1∧(a.len:Int)-1≤4)=true:=decide_eq_true (by omega)
   rw [h3] at e4;have e5:=hir p a (by omega)
   have h6:decide (Aj p (pad (row a)))=decide (Monic a∧Irr a):=decide_eq_decide.2 ((m8 hal).trans ⟨fun g=>⟨g.mon,g.irr⟩,fun g=>⟨g.1,h.1,h.2,g.2⟩⟩)
   rw [h6];generalize decide (Monic a∧Irr a)=b at *;generalize pad (row a)=Pa at *;simp -implicitDefEqProofs [Zh,Zh_B,e1,e2,e3,e4,e5]
  ·have h3:decide ((1:Int)≤(a.len:Int)-1∧(a.len:Int)-1≤4)=false:=decide_eq_false (by omega)
   rw [h3] at e4;rw [decide_eq_false (fun g=>h ⟨((m8 hal).1 g).two,((m8 hal).1 g).five⟩)]
   generalize pad (row a)=Pa at *;simp -implicitDefEqProofs [Zh,Zh_B,e1,e2,e3,e4]
open Classical in
def Co (O:af):Prop:=∀(p:Int) (l:List Int),iu l→l.length=64→ask O F30 [(D.int .i64 p),(D.arr 64 .leaf (am .u8 l))]=some (D.bool (decide (Aj p l)))
open Classical in
theorem X6 (hT:T F30=some Z30) (his:Rc (den T A)) (hmo:E4 (den T A)) (hdg:k9 (den T A)) (hin:U3 (den T A)) (hir:Nx (den T A)):Co (den T A):=by
 intro p l hb hl;have e1:=his p l hb hl;refine br hT rfl ?_;rcases a7e p hb hl with ⟨h1,h2⟩ | ⟨ip,a,hal,rfl⟩
 ·have h3:(rk p l&&isP p)=false:=by
   cases hx:isP p
   ·rw [Bool.and_false]
   ·rw [h2 hx]; rfl
  rw [decide_eq_false (Gl h2)];rw [h3] at e1;simp -implicitDefEqProofs [Z30,Z30_B,e1]
 ·rw [yr,v7] at e1
  have e2:=hmo p a hal;have e3:=hdg p a hal;have e4:=hin ((a.len:Int)-1) 1 4
  by_cases hM:Monic a
  ·rw [decide_eq_true hM] at e2
   by_cases h:2≤a.len∧a.len≤5
   ·have h3:decide ((1:Int)≤(a.len:Int)-1∧(a.len:Int)-1≤4)=true:=decide_eq_true (by omega)
    rw [h3] at e4;have e5:=hir p a hM.2 (by omega)
    have h6:decide (Aj p (pad (row a)))=decide (Irr a):=decide_eq_decide.2 ((m8 hal).trans ⟨fun g=>g.irr,fun g=>⟨hM,h.1,h.2,g⟩⟩)
    rw [h6];generalize decide (Irr a)=b at *;generalize pad (row a)=Pa at *;simp -implicitDefEqProofs [Z30,Z30_B,e1,e2,e3,e4,e5]
   ·have h3:decide ((1:Int)≤(a.len:Int)-1∧(a.len:Int)-1≤4)=false:=decide_eq_false (by omega)
    rw [h3] at e4;rw [decide_eq_false (fun g=>h ⟨((m8 hal).1 g).two,((m8 hal).1 g).five⟩)]
    generalize pad (row a)=Pa at *;simp -implicitDefEqProofs [Z30,Z30_B,e1,e2,e3,e4]
  ·rw [decide_eq_false hM] at e2
   rw [decide_eq_false (fun g=>hM ((m8 hal).1 g).mon)]
   generalize pad (row a)=Pa at *;simp -implicitDefEqProofs [Z30,Z30_B,e1,e2]
def pe {p:Int} [IsP p] (m:Fp p) (l:List Int):Prop:=∃a:Fp p,a.len<m.len∧l=pad (row a)
noncomputable abbrev Ch {p:Int} (m:Fp p):D:=.st [.leaf,.leaf] [.int .i64 p,(D.sl .leaf (am .i64 (row m)))]
open Classical in
def Bf (O:af):Prop:=∀(p:Int) [IsP p] (m:Fp p) (l:List Int),m.len≤64→iu l→l.length=64→ask O Ff [Ch m,(D.arr 64 .leaf (am .u8 l))]=some (D.bool (decide (pe m l)))
theorem H1 {p:Int} [IsP p] {m a:Fp p} (hm:m.len≤64) (ha:a.len≤64):pe m (pad (row a))↔a.len<m.len:=by
 constructor
 ·rintro ⟨b,h1,h2⟩
  rw [(uo ha (by omega)).1 h2]; exact h1
 ·intro h; exact ⟨a,h,rfl⟩
open Classical in
theorem a0s (hT:T Ff=some Zf) (hi:yq (den T A)) (hro:ye (den T A)) (hdg:lm (den T A)):Bf (den T A):=by
 intro p ip m l hm hb hl;have e1:=hi p l hb hl;refine br hT rfl ?_
 by_cases h:rk p l=true
 ·obtain ⟨a,hal,rfl⟩:=v9 hb hl h
  rw [h] at e1;have e2:=hro _ hb hl;rw [Ed a hal] at e2;have e3:=hdg (row a) (by rw [bn]; omega)
  rw [bn] at e3;have e4:=hdg (row m) (by rw [bn]; omega)
  rw [bn] at e4;have h5:decide ((a.len:Int)-1<(m.len:Int)-1)=decide (pe m (pad (row a))):=decide_eq_decide.2 ((show _↔a.len<m.len by omega).trans (H1 hm hal).symm)
  rw [←h5];generalize pad (row a)=Pa at *;simp -implicitDefEqProofs [Zf,Zf_B,e1,e2,e3,e4]
 ·rw [decide_eq_false (fun ⟨a,h1,h2⟩=>h (by rw [h2]; exact v7))]
  have h':rk p l=false:=by simpa using h
  rw [h'] at e1;simp -implicitDefEqProofs [Zf,Zf_B,e1]
open Classical in
def Iy (O:af):Prop:=∀(p:Int) [IsP p] (m:Fp p) (l:List Int),m.len≤64→iu l→l.length=64→ask O F32 [(D.int .i64 p),(D.arr 64 .leaf (am .u8 (pad (row m)))),(D.arr 64 .leaf (am .u8 l))]=some (D.bool (decide (pe m l)))
open Classical in
theorem a2e (hT:T F32=some Z32) (hi:Rc (den T A)) (hdg:k9 (den T A)):Iy (den T A):=by
 intro p ip m l hm hb hl;have e1:=hi p l hb hl;refine br hT rfl ?_
 by_cases h:rk p l=true
 ·obtain ⟨a,hal,rfl⟩:=v9 hb hl h
  rw [h,yr] at e1;have e3:=hdg p a hal;have e4:=hdg p m hm;have h5:decide ((a.len:Int)-1<(m.len:Int)-1)=decide (pe m (pad (row a))):=decide_eq_decide.2 ((show _↔a.len<m.len by omega).trans (H1 hm hal).symm)
  rw [←h5];generalize pad (row a)=Pa at *;generalize pad (row m)=Pm at *;simp -implicitDefEqProofs [Z32,Z32_B,e1,e3,e4]
 ·rw [decide_eq_false (fun ⟨a,h1,h2⟩=>h (by rw [h2]; exact v7))]
  have h':(rk p l&&isP p)=false:=by
   have:rk p l=false:=by simpa using h
   rw [this]; rfl
  rw [h'] at e1;generalize pad (row m)=Pm at *;simp -implicitDefEqProofs [Z32,Z32_B,e1]
def px (O:af):Prop:=∀(p:Int) [IsP p] (m:Fp p),m.len≤64→ask O Fc [(D.int .i64 p),(D.arr 64 .leaf (am .u8 (pad (row m))))]=some (Ch m)
theorem S3 (hT:T Fc=some Zc) (hro:t6 (den T A)):px (den T A):=by
 intro p ip m hm;have e1:=hro p m hm;refine br hT rfl ?_;generalize pad (row m)=Pm at *;simp -implicitDefEqProofs [Zc,Zc_B,e1,List.replicate]
end Pe



namespace Pe
open Go Gq
variable {T:Nat→Option Fn} {A:af}
end Pe

namespace Pe
open Go Gq
variable {T:Nat→Option Fn} {A:af}
section
variable {p:Int} [IsP p]
noncomputable def gu (m:Fp p):Nat→Fp p→Fp p
 | 0,a=>a
 | k+1,a=>gu m k (pw a p.toNat%m)
theorem ri {m:Fp p} (hm:m≠0):∀(k:Nat) (a:Fp p),a.len<m.len→(gu m k a).len<m.len
 | 0,_,h=>h
 | k+1,_a,_=>ri hm k _ (Pol.len_mod _ hm)
theorem Ig {m:Fp p}:∀(k:Nat) (a:Fp p),Quo.mk m (gu m k a)=pw (Quo.mk m a) (p.toNat^k)
 | 0,a=>by rw [nk,z9]; rfl
 | k+1,a=>by
  show Quo.mk m (gu m k (pw a p.toNat%m))=_;rw [Ig k,Pol.mk_mod,Quo.mk_pow,x9,lc,Nat.mul_comm]
theorem yz {m:Fp p} (hm:Fld m) (k:Nat) {a:Fp p} (ha:a.len<m.len):gu m (k%(m.len-1)) a=gu m k a:=by
 have h2:=hm.two;have h5:=hm.five
 have small:p^(m.len-1)<1000000000000:=by
  have h1:=kr (p:=p) (by have:=IsP.pos (p:=p); omega) (show m.len-1≤12 by omega)
  have h7:=og (p:=p) (n:=12) (by omega)
  omega
 have hd:∀x:Quo m,pw x (p.toNat^(m.len-1))=x:=Dw hm.irr (by omega) small
 have hq:∀(q:Nat) (x:Quo m),pw x (p.toNat^((m.len-1)*q))=x:=by
  intro q
  induction q with
  | zero=>intro x; rw [u4,nk,z9]
  | succ q ih=>intro x; rw [Nat.mul_succ,Nat.pow_add,←x9,ih,hd]
 have h0:m≠0:=hm.mon.2
 have e:Quo.mk m (gu m (k%(m.len-1)) a)=Quo.mk m (gu m k a):=by
  rw [Ig,Ig];have hk:k=(m.len-1)*(k/(m.len-1))+k%(m.len-1):=(Nat.div_add_mod k (m.len-1)).symm;have:p.toNat^k=p.toNat^((m.len-1)*(k/(m.len-1)))*p.toNat^(k%(m.len-1)):=by rw [←Nat.pow_add,←hk]
  rw [this,←x9,hq]
 have e2:=(Pol.mod_eq_iff h0).2 e
 rwa [Pol.mod_small (ri h0 _ _ ha),Pol.mod_small (ri h0 _ _ ha)] at e2
noncomputable def va (m a:Fp p):Fp p:=(Pol.bezout a m).2.1%m
theorem Ht {m a:Fp p} (hm:Fld m) (ha:a≠0) (hal:a.len<m.len):Quo.mk m (va m a)*Quo.mk m a=1:=by
 have h0:m≠0:=hm.mon.2;have e:=Pol.bezout_eq (a:=a) (b:=m) (.inl ha)
 have hg:Pol.gcd a m=1:=by
  have h1:=Pol.gcd_monic (a:=a) (b:=m) (.inl ha);have h2:=Pol.gcd_dv_left (a:=a) (b:=m) (.inl ha);have h3:=Pol.gcd_dv_right (a:=a) (b:=m) (.inl ha);refine h1.eq_one ?_;rcases hm.irr.dv h3 with h | h
  ·exact h
  ·have:=h2.len ha
   omega
 rw [hg] at e;unfold va;rw [Pol.mk_mod];have:Quo.mk m ((Pol.bezout a m).2.1*a+(Pol.bezout a m).2.2*m)=Quo.mk m 1:=by rw [e]
 rw [Quo.mk_add,Quo.mk_mul,Quo.mk_mul] at this;have hm0:Quo.mk m m=0:=ki.1 (Dv.refl m);rw [hm0,Gq.mul_zero,Gq.add_zero] at this;exact this
end
theorem Ug {O:af} (hpw:tu O) {p:Int} [IsP p] {m:Fp p} (hm:m≠0) (hml:m.len≤64) {n:Nat} (hn:n<1000000):∀(k i:Nat) (a:Fp p),i+k=n→a.len≤1000 →
 dn O 0 (.loop Ze_L0) ⟨[(1,(.d (.sl .leaf (am .i64 (row a))))),(3,.ptr 0 []),(11,(.d (.int .i64 n))),(12,(.d (.int .i64 i)))],[.box false (Ch m)]⟩ =
  some (.exit 0,⟨[(1,(.d (.sl .leaf (am .i64 (row (gu m k a)))))),(3,.ptr 0 []),(11,(.d (.int .i64 n))),(12,(.d (.int .i64 n))),(13,(.d (.bool false)))],[.box false (Ch m)]⟩)
 | 0,i,a,hi,ha=>by
  obtain rfl:i=n:=by omega
  exact bo (by simp -implicitDefEqProofs [Ze_L0,ap,gu])
 | k+1,i,a,hi,ha=>by
  have hp:=IsP.pos (p:=p);have hp7:=IsP.le (p:=p);have hlt:i<n:=by omega
  have w4:IntKind.i64.wrap ((i:Int)+1)=((i+1:Nat):Int):=(w64 (x:=(i:Int)+1) (by omega)).trans (by omega)
  have e1:=hpw p a p m hm (by omega) (by omega) (by omega) (by omega)
  have hl:=Pol.len_mod (pw a p.toNat) hm;refine bm ?_ (Ug hpw hm hml hn k (i+1) (pw a p.toNat%m) (by omega) (by omega))
  simp -implicitDefEqProofs [Ze_L0,ap,hlt,e1,w4]
def Dt (O:af):Prop:=∀(p:Int) [IsP p] (m a:Fp p) (k:Nat),2≤m.len→m.len≤64→a.len≤1000→k<1000000→ask O Fe [Ch m,(D.sl .leaf (am .i64 (row a))),(D.int .i64 k)]=some (D.sl .leaf (am .i64 (row (gu m (k%(m.len-1)) a))))
theorem a3k (hT:T Fe=some Ze) (hpw:tu (den T A)) (hdg:lm (den T A)):Dt (den T A):=by
 intro p ip m a k h2 hml ha hk;have hm:m≠0:=fun h=>by rw [h,Pol.len_zero] at h2; omega
 have e1:=hdg (row m) (by rw [bn]; omega)
 rw [bn,show ((m.len:Int)-1)=((m.len-1:Nat):Int) by omega] at e1
 have hlt:=Nat.mod_lt k (show 0<m.len-1 by omega)
 have e2:=Ug (O:=den T A) hpw hm hml (n:=k%(m.len-1)) (by omega) (k%(m.len-1)) 0 a (b7 _) ha
 have e00:((0:Nat):Int)=0:=rfl;rw [e00] at e2;have w1:(k:Int).tmod ((m.len-1:Nat):Int)=((k%(m.len-1):Nat):Int):=by rw [ci (by omega)]; rfl
 have h0:((m.len-1:Nat):Int)≠0:=by omega
 refine br hT rfl ?_;generalize row (gu m (k%(m.len-1)) a)=R at *;generalize ((k%(m.len-1):Nat):Int)=n1 at *;generalize ((m.len-1:Nat):Int)=m1 at *;simp -implicitDefEqProofs [Ze,Ze_B,e1,e2,w1,h0]
end Pe

namespace Pe
open Go Gq
variable {T:Nat→Option Fn} {A:af}
section
variable {p:Int} [IsP p]
theorem O3 {m:Fp p} (h2:2≤m.len):(1:Quo m)≠0:=fun h=>by
 have:Dv m 1:=ki.2 h;have:=this.len Pol.one_ne;rw [Pol.len_one] at this;omega
theorem a36 {m c:Fp p} (hm:Fld m) (hc:c≠0) (hcl:c.len<m.len) (k:Nat):pw c k%m≠0∧(pw c k%m).len<m.len:=by
 have h0:m≠0:=hm.mon.2;refine ⟨fun h=>?_,Pol.len_mod _ h0⟩
 have h1:Quo.mk m (pw c k)=0:=by rw [←Pol.mk_mod,h]; rfl
 rw [Quo.mk_pow] at h1;have h2:=Ht hm hc hcl;have h3:pw (Quo.mk m (va m c)*Quo.mk m c) k=0:=by rw [Dc,h1,Gq.mul_zero]
 rw [h2,Uu] at h3;exact O3 hm.two h3
end
end Pe


namespace Pe
open Go Gq
variable {T:Nat→Option Fn} {A:af}
def qj (O:af):Prop:=∀(l:List Int),iu l→l.length=64→ask O F1q [(D.arr 64 .leaf (am .u8 l))]=some (D.arr 64 .leaf (am .u8 l))
theorem La {O:af} {l:List Int} (hb:iu l) (hl:l.length=64) {b1:Blk}:∀(m i:Nat) (q:List Int),i+m=64→q.length=64→q.take i=l.take i →
 dn O 0 (.loop Z1q_L0) ⟨[(1,.ptr 0 []),(2,.ptr 1 []),(3,.ptr 2 []),(4,(.d (.int .i64 i)))],[.box false (D.arr 64 .leaf (am .u8 l)),b1,.box false (D.arr 64 .leaf (am .u8 q))]⟩ =
  some (.exit 0,⟨[(1,.ptr 0 []),(2,.ptr 1 []),(3,.ptr 2 []),(4,(.d (.int .i64 64))),(6,(.d (.bool false)))],[.box false (D.arr 64 .leaf (am .u8 l)),b1,.box false (D.arr 64 .leaf (am .u8 l))]⟩)
 | 0,i,q,hi,hq,ht=>by
  obtain rfl:i=64:=by omega
  rw [av (by omega),av (by omega)] at ht
  subst ht;exact bo (by simp -implicitDefEqProofs [Z1q_L0,ap])
 | m+1,i,q,hi,hq,ht=>by
  have hlt:i<64:=by omega
  have hlti:(i:Int)<64:=by omega
  have hlt':i<l.length:=by omega
  have hltq:i<q.length:=by omega
  have hx:l[i]=cf l i:=(dp hlt').symm;have w8':IntKind.u8.wrap (cf l i)=cf l i:=by rw [←hx]; exact w8 (hb _ (bh _))
  have w4:IntKind.i64.wrap ((i:Int)+1)=((i+1:Nat):Int):=(w64 (x:=(i:Int)+1) (by omega)).trans (by omega)
  have hs:am .u8 (q.set i (cf l i))=(am .u8 q).set i (D.int .u8 (cf l i)):=by unfold am; rw [pq]
  refine bm ?_ (La hb hl m (i+1) (q.set i (cf l i)) (by omega) (by rw [c5]; exact hq) (by
   rw [bf hlt',bf (by rw [c5]; exact hltq),nw,List.take_set,lw (by rw [b8]; omega),ht,hx]))
  rw [hs];simp -implicitDefEqProofs [Z1q_L0,ap,hlt,hlti,hx,hl,hq,w4]
theorem Xp (hT:T F1q=some Z1q):qj (den T A):=by
 intro l hb hl;have e:=La (O:=den T A) hb hl (b1:=.box false (.arr 64 .leaf (am .u8 (pad [])))) 64 0 (List.replicate 64 0) rfl rfl (by simp)
 have e00:((0:Nat):Int)=0:=rfl;rw [e00] at e;have hz:List.replicate 64 (0:Int)=pad []:=rfl;rw [hz] at e;refine br hT rfl ?_;simp -implicitDefEqProofs [Z1q,Z1q_B,e]
end Pe

namespace Pe
open Go Gq
variable {T:Nat→Option Fn} {A:af}
theorem Mc {O:af} {l:List Int} (hl:l.length=64):∀(k i:Nat),i+k=64 →
 dn O 0 (.loop Z1i_L0) ⟨[(2,.ptr 0 []),(3,.ptr 1 []),(5,(.d (.int .i64 i)))],[.box false (D.arr 64 .leaf (am .u8 l)),.box false (D.arr 64 .leaf (am .u8 l))]⟩=some (.exit 0,⟨[(2,.ptr 0 []),(3,.ptr 1 []),(5,(.d (.int .i64 64))),(7,(.d (.bool false)))],[.box false (D.arr 64 .leaf (am .u8 l)),.box false (D.arr 64 .leaf (am .u8 l))]⟩)
 | 0,i,hi=>by
  obtain rfl:i=64:=by omega
  exact bo (by simp -implicitDefEqProofs [Z1i_L0,ap])
 | k+1,i,hi=>by
  have hlt:i<64:=by omega
  have hlti:(i:Int)<64:=by omega
  have hlt':i<l.length:=by omega
  have hx:l[i]=cf l i:=(dp hlt').symm;have w4:IntKind.i64.wrap ((i:Int)+1)=((i+1:Nat):Int):=(w64 (x:=(i:Int)+1) (by omega)).trans (by omega)
  refine bm ?_ (Mc hl k (i+1) (by omega))
  simp -implicitDefEqProofs [Z1i_L0,ap,hlt,hlti,hl,hx,w4]
def yy (O:af):Prop:=∀l:List Int,l.length=64→ask O F1i [(D.arr 64 .leaf (am .u8 l)),(D.arr 64 .leaf (am .u8 l))]=some (D.bool true)
theorem U7 (hT:T F1i=some Z1i):yy (den T A):=by
 intro l hl;have e:=Mc (O:=den T A) hl 64 0 rfl;have e00:((0:Nat):Int)=0:=rfl;rw [e00] at e;refine br hT rfl ?_;simp -implicitDefEqProofs [Z1i,Z1i_B,e,List.replicate]
end Pe

namespace Pe
open Go Gq
variable {T:Nat→Option Fn} {A:af}
section
variable {p:Int} [IsP p]
noncomputable def svI (m x:Fp p):Nat→List (Fp p)→Fp p→Fp p
 | _,[],out=>out
 | i,c::cs,out=>svI m x (i+1) cs (out+c*gu m (i%(m.len-1)) x%m)
theorem R9 {m x:Fp p} (hm:m≠0):∀(i:Nat) (a:List (Fp p)) (out:Fp p),out.len<m.len→(svI m x i a out).len<m.len
 | _,[],_,h=>h
 | i,c::cs,out,h=>R9 hm (i+1) cs _ (by
  have h1:=Pol.len_mod (c*gu m (i%(m.len-1)) x) hm;have:=Pol.len_add_le (a:=out) (b:=c*gu m (i%(m.len-1)) x%m) (n:=m.len-1) (by omega) (by omega)
  omega)
end
section
variable {p:Int}
end
end Pe


namespace Pe
open Go Gq
variable {T:Nat→Option Fn} {A:af}
theorem X1 {p:Int} [IsP p] {m:Fp p} {ls:List (List Int)} (hm:m.len≤64) (h:xj ls) (hi:Bf (den T A)):∃P:D→Bool,(∀l∈ls,P (bt l)=true↔pe m l)∧qf (den T A) Ff [Ch m] [] (ls.map bt) P:=by
 classical
 refine ⟨fun x=>decide (pe m x.nums),fun l hl=>by show decide (pe m (bt l).nums)=true↔_; rw [Ga]; simp,fun x hx=>by simp at hx; subst hx; rfl,fun x hx=>by simp at hx,fun x hx=>?_,fun x hx=>?_⟩
 ·obtain ⟨n,_,rfl⟩:=ca.1 hx; rfl
 ·obtain ⟨l,hl,rfl⟩:=ca.1 hx
  have e:=hi p m l hm (h l hl).2 (h l hl).1;show ask (den T A) _ _=some (.bool (decide (pe m (bt l).nums)));rw [Ga];exact e
def El {p:Int} [IsP p] (m:Fp p) (ls:List (List Int)):Prop:=∀l∈ls,pe m l
open Classical in
noncomputable def pc (p:Int) (l:List Int) (ls:List (List Int)):Int:=if ∃(_:IsP p) (m:Fp p),l=pad (row m)∧Fld m∧∀x∈ls,pe m x then 0 else 1
theorem Li {p:Int} [IsP p] {m:Fp p} (hm:Fld m) {Q:∀(_:IsP p),Fp p→Prop}:(∃(ip:IsP p) (m':Fp p),pad (row m)=pad (row m')∧Fld m'∧Q ip m')↔Q inferInstance m:=by
 have h5:=hm.five;constructor
 ·rintro ⟨ip,m',e,h1,h2⟩
  have h6:=h1.five;obtain rfl:=(uo (by omega) (by omega)).1 e
  exact h2
 ·intro h; exact ⟨_,m,rfl,hm,h⟩
def pz (O:af) (F:Nat):Prop:=∀(p:Int) (l:List Int) (ls:List (List Int)),iu l→l.length=64→xj ls→ls.length<2000000→ask O F [(D.int .i64 p),(D.arr 64 .leaf (am .u8 l)),.sl (.arr 64 .leaf) (ls.map bt)]=some (D.int .i64 (pc p l ls))
open Classical in
theorem Rt (hT:T F18=some Z18) (hif:zq (den T A)) (hfo:px (den T A)) (his:Bf (den T A)) (ha:vj (den T A) F9 (.arr 64 .leaf)):pz (den T A) F18:=by
 intro p l ls hb hl h hlen;have e1:=hif p l hb hl;refine br hT rfl ?_;unfold pc
 by_cases hf:Aj p l
 ·rw [decide_eq_true hf] at e1
  obtain ⟨ip,m,rfl,hm⟩:=hf;have h5:=hm.five;have e2:=hfo p m (by omega)
  obtain ⟨P,hP,hF⟩:=X1 (m:=m) (by omega) h his
  have e3:=ha _ _ _ _ _ hF (fun x hx=>by obtain ⟨n,_,rfl⟩:=ca.1 hx; rfl) (by rw [ah]; exact hlen)
  have hall:(ls.map bt).all P=true↔∀x∈ls,pe m x:=by
   rw [dq];constructor
   ·intro h2 l hl; exact (hP l hl).1 (h2 _ (List.mem_map_of_mem hl))
   ·intro h2 x hx
    obtain ⟨l,hl,rfl⟩:=ca.1 hx;exact (hP l hl).2 (h2 l hl)
  have hc:=(Li hm (Q:=fun ip m'=>∀x∈ls,@pe p ip m' x)).trans hall.symm
  cases hb1:(ls.map bt).all P
  ·rw [hb1] at e3 hc
   rw [if_neg (fun h=>by have:=hc.1 h; cases this)]
   generalize pad (row m)=Pm at *;generalize ls.map bt=LD at *;simp -implicitDefEqProofs [Z18,Z18_B,ap,e1,e2,e3]
  ·rw [hb1] at e3 hc
   rw [if_pos (hc.2 rfl)];generalize pad (row m)=Pm at *;generalize ls.map bt=LD at *;simp -implicitDefEqProofs [Z18,Z18_B,ap,e1,e2,e3]
 ·rw [decide_eq_false hf] at e1
  rw [if_neg (fun ⟨ip,m,e,hm,_⟩=>hf ⟨ip,m,e,hm⟩)]
  generalize ls.map bt=LD at *;simp -implicitDefEqProofs [Z18,Z18_B,ap,e1]
end Pe

namespace Pe
open Go Gq
variable {T:Nat→Option Fn} {A:af}
theorem wh {p:Int} [IsP p] {m:Fp p} {l:List Int} {ls:List (List Int)}:El m (l::ls)↔pe m l∧El m ls:=by simp [El]
theorem Xj {p:Int} [IsP p] (m:Fp p):El m []:=fun _ h=>by cases h
end Pe

namespace Pe
open Go Gq
variable {T:Nat→Option Fn} {A:af}
theorem Q4 {O:af} (hpw:py O) {p:Int} [IsP p] {m:Fp p} {z:List Int} (hm:m≠0) (hml:m.len≤64):∀(k:Nat) (a:Fp p),k<1000000→a.len≤64 →
 dn O 0 (.loop Z31_L0) ⟨[(0,(.d (.int .i64 p))),(5,.ptr 0 []),(7,.ptr 1 []),(8,.ptr 2 []),(9,(.d (.int .i64 k)))],[.box false (D.arr 64 .leaf (am .u8 (pad (row a)))),.box false (D.arr 64 .leaf (am .u8 (pad (row m)))),.box false (D.arr 64 .leaf (am .u8 z))]⟩ =
  some (.exit 0,⟨[(0,(.d (.int .i64 p))),(5,.ptr 0 []),(7,.ptr 1 []),(8,.ptr 2 []),(9,(.d (.int .i64 0))),(15,(.d (.bool false)))],[.box false (D.arr 64 .leaf (am .u8 (pad (row (gu m k a))))),.box false (D.arr 64 .leaf (am .u8 (pad (row m)))),.box false (D.arr 64 .leaf (am .u8 z))]⟩)
 | 0,a,hk,ha=>by
  refine bo ?_;show _=some (_,(⟨_,[.box false (D.arr 64 .leaf (am .u8 (pad (row a)))),_,_]⟩:St));generalize pad (row a)=Pa at *;generalize pad (row m)=Pm at *;simp -implicitDefEqProofs [Z31_L0,ap]
 | k+1,a,hk,ha=>by
  have hp:=IsP.pos (p:=p);have hp7:=IsP.le (p:=p);have w4:IntKind.i64.wrap (((k+1:Nat):Int)-1)=(k:Int):=(w64 (x:=((k+1:Nat):Int)-1) (by omega)).trans (by omega)
  have hlt:(0:Int)<((k+1:Nat):Int):=by omega
  have e1:=hpw p a p m hm ha hml (by omega) (by omega)
  have hl:=Pol.len_mod (pw a p.toNat) hm;refine bm ?_ (Q4 hpw hm hml k (pw a p.toNat%m) (by omega) (by omega))
  generalize ((k+1:Nat):Int)=k1 at *;generalize pad (row (pw a p.toNat%m))=R at *;generalize pad (row a)=Pa at *;generalize pad (row m)=Pm at *;simp -implicitDefEqProofs [Z31_L0,ap,hlt,e1,w4]
def yf (O:af):Prop:=∀(p:Int) [IsP p] (m a:Fp p) (k:Nat),2≤m.len→m.len≤64→a.len≤64→k<1000000→ask O F31 [(D.int .i64 p),(D.arr 64 .leaf (am .u8 (pad (row a)))),(D.int .i64 k),(D.arr 64 .leaf (am .u8 (pad (row m))))]=some (D.arr 64 .leaf (am .u8 (pad (row (gu m (k%(m.len-1)) a)))))
theorem a0o (hT:T F31=some Z31) (hpw:py (den T A)) (hdg:k9 (den T A)):yf (den T A):=by
 intro p ip m a k h2 hml ha hk;have hm:m≠0:=fun h=>by rw [h,Pol.len_zero] at h2; omega
 have e1:=hdg p m hml;rw [show ((m.len:Int)-1)=((m.len-1:Nat):Int) by omega] at e1
 have hlt:=Nat.mod_lt k (show 0<m.len-1 by omega)
 have e2:=Q4 (O:=den T A) (z:=pad []) hpw hm hml (k%(m.len-1)) a (by omega) ha
 have w1:(k:Int).tmod ((m.len-1:Nat):Int)=((k%(m.len-1):Nat):Int):=by rw [ci (by omega)]; rfl
 have h0:((m.len-1:Nat):Int)≠0:=by omega
 refine br hT rfl ?_;generalize pad (row (gu m (k%(m.len-1)) a))=R at *;generalize ((k%(m.len-1):Nat):Int)=n1 at *;generalize ((m.len-1:Nat):Int)=m1 at *;generalize pad (row a)=Pa at *;generalize pad (row m)=Pm at *;simp -implicitDefEqProofs [Z31,Z31_B,e1,e2,w1,h0,List.replicate]
section
variable {p:Int}
open Classical in
noncomputable def stl (S:List (Fp p)):Nat→Nat
 | 0=>0
 | n+1=>if S[n]? = some 0 then stl S n else n+1
noncomputable def n7 (S:List (Fp p)):List (Fp p):=S.take (stl S S.length)
theorem N0 (S:List (Fp p)):∀n,stl S n≤n
 | 0=>b9 0
 | n+1=>by
  unfold stl
  split
  ·have:=N0 S n; omega
  ·omega
theorem Cq (S:List (Fp p)):∀n j,stl S n≤j→j<n→S[j]? = some 0
 | 0,j,_,h=>by omega
 | n+1,j,h1,h2=>by
  unfold stl at h1
  split at h1
  ·rename_i h0
   by_cases hj:j=n
   ·rw [hj]; exact h0
   ·exact Cq S n j h1 (by omega)
  ·omega
end
section
variable {p:Int} [IsP p]
theorem Es {m x:Fp p} (hm:m≠0):∀(i:Nat) (S:List (Fp p)) (out:Fp p),(∀a∈S,a=0)→svI m x i S out=out
 | _,[],_,_=>rfl
 | i,c::cs,out,h=>by
  have hc:=h c (by simp)
  subst hc;show svI m x (i+1) cs (out+0*gu m (i%(m.len-1)) x%m)=out;rw [Gq.zero_mul,Pol.zero_mod hm,Gq.add_zero];exact Es hm (i+1) cs out fun a ha=>h a (by simp [ha])
theorem E6 {m x:Fp p}:∀(i:Nat) (S R:List (Fp p)) (out:Fp p),svI m x i (S++R) out=svI m x (i+S.length) R (svI m x i S out)
 | _,[],_,_=>rfl
 | i,c::cs,R,out=>by
  show svI m x (i+1) (cs++R) _=svI m x (i+(cs.length+1)) R (svI m x (i+1) cs _);rw [E6 (i+1) cs R,show i+(cs.length+1)=i+1+cs.length by omega]
theorem Uk {m x:Fp p} (hm:m≠0) (S:List (Fp p)):svI m x 0 (n7 S) 0=svI m x 0 S 0:=by
 have e:=E6 (m:=m) (x:=x) 0 (S.take (stl S S.length)) (S.drop (stl S S.length)) 0;rw [fg] at e
 have hz:∀a∈S.drop (stl S S.length),a=0:=by
  intro a ha;obtain ⟨j,hj,rfl⟩:=gh ha;rw [dl] at hj;have:=Cq S S.length (stl S S.length+j) (by omega) (by omega)
  rw [List.getElem_drop];rw [al (by omega)] at this
  exact ao this
 rw [e,Es hm _ _ _ hz];rfl
end
theorem Gv {p:Int} [IsP p] {m:Fp p}:∀{ls:List (List Int)},El m ls→∃S:List (Fp p),ls=S.map (fun a=>pad (row a))∧∀a∈S,a.len<m.len
 | [],_=>⟨[],rfl,fun _ h=>by cases h⟩
 | l::ls,h=>by
  obtain ⟨h1,h2⟩:=wh.1 h;obtain ⟨a,ha,rfl⟩:=h1;obtain ⟨S,rfl,hS⟩:=Gv h2;exact ⟨a::S,rfl,by simpa using ⟨ha,hS⟩⟩
noncomputable abbrev skP {p:Int} (S:List (Fp p)):List (List Int):=S.map fun a=>pad (row a)
end Pe

namespace Pe
open Go Gq
variable {T:Nat→Option Fn} {A:af}
theorem Ta {p:Int} {S:List (Fp p)} (hS:∀a∈S,a.len≤64):(skP S).map (f7 p)=S:=by
 unfold skP;rw [kz]
 conv=>rhs; rw [←List.map_id S]
 exact List.map_congr_left fun a ha=>qb (hS a ha)
end Pe

namespace Pe
open Go Gq
variable {T:Nat→Option Fn} {A:af}
section
variable {p:Int}
noncomputable def mf (Q:List (Fp p)) (n:Nat) (v:Fp p):List (Fp p):=Q.set n ((Q[n]?).getD 0+v)
theorem yw (Q:List (Fp p)) (n:Nat) (v:Fp p):(mf Q n v).length=Q.length:=by unfold mf; rw [c5]
end
section
variable {p:Int} [IsP p]
noncomputable def sc (m x:Fp p) (i:Nat):Nat→List (Fp p)→List (Fp p)→List (Fp p)
 | _,[],Q=>Q
 | k,y::ys,Q=>sc m x i (k+1) ys (mf Q (i+k) (x*gu m (i%(m.len-1)) y%m))
noncomputable def ub (m:Fp p) (b:List (Fp p)):Nat→List (Fp p)→List (Fp p)→List (Fp p)
 | _,[],Q=>Q
 | i,x::xs,Q=>ub m b (i+1) xs (sc m x i 0 b Q)
theorem p5 (m x:Fp p) (i:Nat):∀(k:Nat) (b Q:List (Fp p)),(sc m x i k b Q).length=Q.length
 | _,[],_=>rfl
 | k,y::ys,Q=>by
  show (sc m x i (k+1) ys (mf Q (i+k) _)).length=_;rw [p5,yw]
theorem kv (m:Fp p) (b:List (Fp p)):∀(i:Nat) (a Q:List (Fp p)),(ub m b i a Q).length=Q.length
 | _,[],_=>rfl
 | i,x::xs,Q=>by
  show (ub m b (i+1) xs (sc m x i 0 b Q)).length=_;rw [kv,p5]
end
end Pe

namespace Pe
open Go Gq
variable {T:Nat→Option Fn} {A:af}
noncomputable def za {p:Int} [IsP p] (m:Fp p) (a b:List (Fp p)):List (Fp p):=ub m b 0 a (List.replicate (a.length+b.length-1) 0)
end Pe

namespace Pe
open Go Gq
variable {T:Nat→Option Fn} {A:af}
end Pe

namespace Pe
open Go Gq
variable {T:Nat→Option Fn} {A:af}
section
variable {p:Int}
theorem Iu {Q:List (Fp p)} {n j:Nat} {v:Fp p} (h:n≠j):(mf Q n v)[j]? = Q[j]?:=by
 unfold mf; rw [az h]
end
section
variable {p:Int} [IsP p]
theorem rr {m x:Fp p} {i n:Nat}:∀(k:Nat) (b Q:List (Fp p)),i+k+b.length≤n→(sc m x i k b Q)[n]? = Q[n]?
 | _,[],_,_=>rfl
 | k,y::ys,Q,h=>by
  rw [bc] at h;show (sc m x i (k+1) ys (mf Q (i+k) _))[n]? = _;rw [rr (k+1) ys _ (by omega),Iu (by omega)]
theorem t9 {m:Fp p} {b:List (Fp p)} {n:Nat}:∀(i:Nat) (a Q:List (Fp p)),i+a.length+b.length≤n+1→(ub m b i a Q)[n]? = Q[n]?
 | _,[],_,_=>rfl
 | i,x::xs,Q,h=>by
  rw [bc] at h;show (ub m b (i+1) xs (sc m x i 0 b Q))[n]? = _;rw [t9 (i+1) xs _ (by omega),rr 0 b Q (by omega)]
theorem Af {m x y:Fp p} {i:Nat}:∀(k:Nat) (b Q:List (Fp p)),sc m x i k (b++[y]) Q=mf (sc m x i k b Q) (i+(k+b.length)) (x*gu m (i%(m.len-1)) y%m)
 | _,[],_=>rfl
 | k,z::zs,Q=>by
  show sc m x i (k+1) (zs++[y]) (mf Q (i+k) _)=mf (sc m x i (k+1) zs (mf Q (i+k) _)) _ _;rw [Af (k+1) zs,bc,show i+(k+1+zs.length)=i+(k+(zs.length+1)) by omega]
theorem xp {m x:Fp p} {b:List (Fp p)}:∀(i:Nat) (a Q:List (Fp p)),ub m b i (a++[x]) Q=sc m x (i+a.length) 0 b (ub m b i a Q)
 | _,[],_=>rfl
 | i,z::zs,Q=>by
  show ub m b (i+1) (zs++[x]) (sc m z i 0 b Q)=sc m x _ 0 b (ub m b (i+1) zs (sc m z i 0 b Q));rw [xp (i+1) zs,bc,show i+1+zs.length=i+(zs.length+1) by omega]
theorem Me {m x y:Fp p} (hi:Irr m) (hx:x≠0) (hxl:x.len<m.len) (hy:y≠0) (hyl:y.len<m.len):x*y%m≠0:=fun h=>by
 rcases hi.prime ((tg hi.ne).2 h) with h | h
 ·have:=Dv.len h hx; omega
 ·have:=Dv.len h hy; omega
theorem Bw {m:Fp p} (hm:Fld m):∀(k:Nat) (y:Fp p),y≠0→y.len<m.len→gu m k y≠0
 | 0,_,h,_=>h
 | k+1,y,h,hl=>by
  obtain ⟨h1,h2⟩:=a36 hm h hl p.toNat;exact Bw hm k _ h1 h2
end
section
variable {p:Int}
theorem M8 {S:List (Fp p)}:∀(n k:Nat),stl S n=k+1→S[k]? ≠ some 0
 | 0,k,h=>by cases h
 | n+1,k,h=>by
  unfold stl at h
  split at h
  ·exact M8 n k h
  ·rename_i h0
   obtain rfl:n=k:=by omega
   exact h0
theorem Y5 {S:List (Fp p)} {n:Nat} (h:S[n]? ≠ some 0):stl S (n+1)=n+1:=by
 unfold stl; rw [if_neg h]
theorem Oa {S:List (Fp p)} (h:(n7 S).length≠0):∃a x,n7 S=a++[x]∧x≠0:=by
 have hle:=N0 S S.length;have hl:(n7 S).length=stl S S.length:=by unfold n7; rw [b8]; omega
 obtain ⟨k,hk⟩:∃k,stl S S.length=k+1:=⟨stl S S.length-1,by omega⟩
 have h1:=M8 _ _ hk;have hlt:k<S.length:=by omega
 rw [al hlt] at h1;refine ⟨S.take k,S[k],?_,fun h=>h1 (by rw [h])⟩
 unfold n7;rw [hk,bf hlt]
theorem S8 {S:List (Fp p)} {n:Nat} (hl:S.length=n+1) (h:S[n]? ≠ some 0):n7 S=S:=by
 unfold n7;rw [hl,Y5 h,←hl,ee]
end
section
variable {p:Int} [IsP p]
theorem Tx {m x y:Fp p} (hm:Fld m) {a b:List (Fp p)} (hx:x≠0) (hxl:x.len<m.len) (hy:y≠0) (hyl:y.len<m.len):n7 (za m (a++[x]) (b++[y]))=za m (a++[x]) (b++[y]):=by
 have hl:(za m (a++[x]) (b++[y])).length=a.length+b.length+1:=by
  unfold za;rw [kv,c7,ba,ba];simp only [bc,cn]; omega
 refine S8 hl ?_;have hfy:gu m (a.length%(m.len-1)) y≠0:=Bw hm _ y hy hyl;have hfl:=ri hm.mon.2 (a.length%(m.len-1)) y hyl;have hne:=Me hm.irr hx hxl hfy hfl;unfold za;rw [xp,Af];unfold mf;rw [rr _ _ _ (by omega),t9 _ _ _ (by rw [ba,bc,cn]; omega)]
 have hN:0+a.length+(0+b.length)=a.length+b.length:=by omega
 rw [hN,aw (by rw [p5,kv,c7,ba,ba]; simp only [bc,cn]; omega)]
 rw [jc,if_pos (by rw [ba,ba]; simp only [bc,cn]; omega)]
 show some ((0:Fp p)+_)≠some 0;rw [Gq.zero_add,show 0+a.length=a.length by omega]
 exact fun h=>hne (ao h)
noncomputable def lr (m:Fp p) (a b:List (Fp p)):List (Fp p):=if a.length=0∨b.length=0 then [] else n7 (za m a b)
end
end Pe

namespace Pe
open Go Gq
variable {T:Nat→Option Fn} {A:af}
section
variable {p:Int} [IsP p]
theorem O2 {N n:Nat} {Q:List (Fp p)} {v:Fp p} (hQ:∀c∈Q,c.len≤N) (hv:v.len≤N):∀c∈mf Q n v,c.len≤N:=fun c hc=>by
 unfold mf at hc;rcases d9 hc with h | rfl
 ·exact hQ c h
 ·refine Pol.len_add_le ?_ hv
  cases he:Q[n]? with
  | none=>show (0:Fp p).len≤N; rw [Pol.len_zero]; omega
  | some w=>exact hQ w (fm he)
end
end Pe

namespace Pe
open Go Gq
section
variable {p:Int}
noncomputable def cS (A:List (Fp p)) (i:Nat):Fp p:=(A[i]?).getD 0
theorem Ja {A:List (Fp p)} {i:Nat} (h:A.length≤i):cS A i=0:=by unfold cS; rw [bi h]; rfl
theorem Mb {A:List (Fp p)} {i:Nat} (h:i<A.length):A[i]=cS A i:=by unfold cS; rw [al h]; rfl
def ry (A:List (Fp p)):Prop:=∀n,A.length=n+1→cS A n≠0
theorem Ho (S:List (Fp p)) (i:Nat):cS (n7 S) i=cS S i:=by
 unfold cS n7;have hle:=N0 S S.length
 by_cases h:i<stl S S.length
 ·rw [de,if_pos h]
 ·rw [de,if_neg h]
  by_cases h2:i<S.length
  ·rw [Cq S S.length i (by omega) h2]; rfl
  ·rw [bi (by omega)]
theorem um (S:List (Fp p)):ry (n7 S):=fun n hn=>by
 obtain ⟨a,x,e,hx⟩:=Oa (S:=S) (by omega)
 rw [e] at hn ⊢;rw [ba,List.length_singleton] at hn;unfold cS;rw [b4 (by omega),show n-a.length=0 by omega]
 exact hx
theorem Av {X:List (Fp p)} {n:Nat} (h:∀i,n≤i→cS X i=0):(n7 X).length≤n:=by
 rcases dg n (n7 X).length with g | g
 ·have:=um X ((n7 X).length-1) (by omega)
  rw [Ho] at this;exact absurd (h _ (by omega)) this
 ·exact g
theorem Dq:ry ([]:List (Fp p)):=fun n h=>by cases h
theorem a2r {A:List (Fp p)} {N:Nat} (h:∀i,(cS A i).len≤N):∀c∈A,c.len≤N:=fun c hc=>by
 obtain ⟨i,hi,rfl⟩:=gh hc;rw [Mb hi]; exact h i
theorem a1z {A:List (Fp p)} {N:Nat} (h:∀c∈A,c.len≤N) (i:Nat):(cS A i).len≤N:=by
 by_cases hi:i<A.length
 ·rw [←Mb hi]; exact h _ (bh hi)
 ·rw [Ja (by omega),Pol.len_zero]; omega
theorem P5 {n:Nat} {f:Nat→Fp p} (i:Nat):cS ((List.range n).map f) i=if i<n then f i else 0:=by
 unfold cS;rw [dj]
 by_cases h:i<n
 ·rw [eg h,if_pos h]; rfl
 ·rw [bi (by simpa using h),if_neg h]; rfl
noncomputable def uy (k:Int) (A B:List (Fp p)):List (Fp p):=n7 ((List.range (max A.length B.length)).map fun i=>cS A i+Pol.C (zp p k)*cS B i)
theorem Qz (k:Int) (A B:List (Fp p)) (i:Nat):cS (uy k A B) i=cS A i+Pol.C (zp p k)*cS B i:=by
 unfold uy;rw [Ho,P5]
 split
 ·rfl
 ·rw [Ja (A:=A) (by omega),Ja (A:=B) (by omega),Gq.mul_zero,Gq.add_zero]
theorem Jq (k:Int) (A B:List (Fp p)):ry (uy k A B):=um _
theorem W9 (k:Int) (A B:List (Fp p)):(uy k A B).length≤max A.length B.length:=Av fun i hi=>by
 rw [P5,if_neg (by omega)]
noncomputable def u7 (c:Fp p) (k:Nat):List (Fp p):=List.replicate k 0++[c]
theorem my (c:Fp p) (k:Nat):(u7 c k).length=k+1:=by unfold u7; rw [ba,c7]; rfl
theorem Bu (c:Fp p) (k i:Nat):cS (u7 c k) i=if i=k then c else 0:=by
 unfold cS u7;rcases ij i k with h | h | h
 ·rw [b5 (by rw [c7]; exact h),jc,if_pos h,if_neg (by omega)]; rfl
 ·rw [b4 (by rw [c7]; omega),c7,h,jl,if_pos rfl]; rfl
 ·rw [bi (by rw [ba,c7,List.length_singleton]; omega),if_neg (by omega)]; rfl
theorem B5 {c:Fp p} (h:c≠0) (k:Nat):ry (u7 c k):=fun n hn=>by
 rw [my] at hn;rw [Bu,if_pos (by omega)]; exact h
theorem Ii (S:List (Fp p)):(n7 S).length≤S.length:=by
 unfold n7; rw [b8]; omega
theorem Bv {B:List (Fp p)} (h:1≤B.length):∃b,B=b++[cS B (B.length-1)]∧b.length=B.length-1:=by
 have hlt:B.length-1<B.length:=by omega
 refine ⟨B.take (B.length-1),?_,by rw [b8]; omega⟩
 rw [←Mb hlt,←bf hlt,show B.length-1+1=B.length by omega,ee]
end
section
variable {p:Int} [IsP p]
theorem D8 {m x:Fp p} {i N:Nat} (hm:m≠0) (hN:m.len≤N+1):∀(k:Nat) (b Q:List (Fp p)),(∀c∈Q,c.len≤N)→∀c∈sc m x i k b Q,c.len≤N
 | _,[],_,h=>h
 | k,y::ys,Q,h=>D8 hm hN (k+1) ys _ (O2 h (by have:=Pol.len_mod (x*gu m (i%(m.len-1)) y) hm; omega))
theorem Ap {m:Fp p} {b:List (Fp p)} {N:Nat} (hm:m≠0) (hN:m.len≤N+1):∀(i:Nat) (a Q:List (Fp p)),(∀c∈Q,c.len≤N)→∀c∈ub m b i a Q,c.len≤N
 | _,[],_,h=>h
 | i,_x::xs,Q,h=>Ap hm hN (i+1) xs _ (D8 hm hN 0 b Q h)
theorem rq {m:Fp p} {a b:List (Fp p)} {N:Nat} (hm:m≠0) (hN:m.len≤N+1):∀c∈lr m a b,c.len≤N:=fun c hc=>by
 unfold lr at hc
 split at hc
 ·cases hc
 ·have h1:c∈za m a b:=List.mem_of_mem_take hc
  exact Ap hm hN 0 a _ (fun c hc=>by rw [im hc,Pol.len_zero]; omega) c h1
theorem ru (m:Fp p) (a b:List (Fp p)):ry (lr m a b):=by
 unfold lr
 split
 ·exact Dq
 ·exact um _
theorem v3 {m:Fp p} {a b:List (Fp p)}:(lr m a b).length≤a.length+b.length-1:=by
 unfold lr
 split
 ·exact mj _
 ·have:=Ii (za m a b)
  have hl:(za m a b).length=a.length+b.length-1:=by unfold za; rw [kv,c7]
  omega
theorem X2 {m x y:Fp p} {a b:List (Fp p)}:cS (za m (a++[x]) (b++[y])) (a.length+b.length)=x*gu m (a.length%(m.len-1)) y%m:=by
 unfold za;rw [xp,Af];unfold mf;rw [rr _ _ _ (by omega),t9 _ _ _ (by rw [ba,bc,cn]; omega)]
 have hN:0+a.length+(0+b.length)=a.length+b.length:=by omega
 rw [hN];unfold cS;rw [aw (by rw [p5,kv,c7,ba,ba]; simp only [bc,cn]; omega)]
 rw [jc,if_pos (by rw [ba,ba]; simp only [bc,cn]; omega)]
 show (0:Fp p)+_=_;rw [Gq.zero_add,show 0+a.length=a.length by omega]
theorem Jf {m:Fp p} {A B:List (Fp p)} (ha:1≤A.length) (hb:1≤B.length):cS (lr m A B) (A.length-1+(B.length-1))=cS A (A.length-1)*gu m ((A.length-1)%(m.len-1)) (cS B (B.length-1))%m:=by
 obtain ⟨a,ea,la⟩:=Bv ha;obtain ⟨b,eb,lb⟩:=Bv hb;have h:=X2 (m:=m) (x:=cS A (A.length-1)) (y:=cS B (B.length-1)) (a:=a) (b:=b);rw [←ea,←eb,la,lb] at h;unfold lr;rw [if_neg (by omega),Ho]
 exact h
theorem L5 {m x y:Fp p} (hm:Fld m) (hx:x.len<m.len) (hy:y≠0) (hyl:y.len<m.len):(x*va m y%m)*y%m=x∧y*(x*va m y%m)%m=x:=by
 have h0:m≠0:=hm.mon.2;have e:=Ht hm hy hyl
 have key:Quo.mk m ((x*va m y%m)*y)=Quo.mk m x:=by
  rw [Quo.mk_mul,Pol.mk_mod,Quo.mk_mul,Gq.mul_assoc,e,Gq.mul_one]
 have h1:=(Pol.mod_eq_iff h0).2 key;rw [Pol.mod_small hx] at h1;exact ⟨h1,by rw [Gq.mul_comm]; exact h1⟩
theorem Ld {m:Fp p}:∀(b a:Nat) (x:Fp p),gu m (a+b) x=gu m a (gu m b x)
 | 0,_,_=>rfl
 | b+1,a,x=>by
  show gu m (a+b) (pw x p.toNat%m)=gu m a (gu m b (pw x p.toNat%m));exact Ld b a _
theorem Oq {m:Fp p} (hm:Fld m) (j:Nat) {z:Fp p} (hz:z.len<m.len):gu m (j%(m.len-1)) (gu m ((m.len-1-j%(m.len-1))%(m.len-1)) z)=z:=by
 have h2:=hm.two;have hlt:=Nat.mod_lt j (show 0<m.len-1 by omega)
 rw [yz hm _ hz,←Ld,show j%(m.len-1)+(m.len-1-j%(m.len-1))=m.len-1 by omega,←yz hm _ hz,Nat.mod_self]
 rfl
noncomputable def qc (left:Bool) (m:Fp p) (A B:List (Fp p)):Fp p:=
 if left then gu m ((m.len-1-(B.length-1)%(m.len-1))%(m.len-1)) (cS A (A.length-1)*va m (cS B (B.length-1))%m)
 else cS A (A.length-1)*va m (gu m ((A.length-B.length)%(m.len-1)) (cS B (B.length-1)))%m
noncomputable def qT (left:Bool) (m:Fp p) (A B:List (Fp p)):List (Fp p):=u7 (qc left m A B) (A.length-B.length)
noncomputable def qP (left:Bool) (m:Fp p) (A B:List (Fp p)):List (Fp p):=if left then lr m B (qT left m A B) else lr m (qT left m A B) B
end
section
variable {p:Int}
structure Sk (m:Fp p) (A:List (Fp p)):Prop where
 trim:ry A
 eight:A.length≤8
 res:∀c∈A,c.len<m.len
theorem Sk.cs {m:Fp p} {A:List (Fp p)} (h:Sk m A) (hm:m≠0) (i:Nat):(cS A i).len<m.len:=by
 have:=a1z (N:=m.len-1) (fun c hc=>by have:=h.res c hc; omega) i
 have:=Pol.len_pos hm;omega
theorem Sk.top {m:Fp p} {A:List (Fp p)} (h:Sk m A) (h1:1≤A.length):cS A (A.length-1)≠0:=h.trim _ (by omega)
theorem Sk.nil (m:Fp p):Sk m []:=⟨Dq,by simp,fun c h=>by cases h⟩
end
section
variable {p:Int} [IsP p]
theorem V4 {p:Int} {a:Fp p} {n:Nat} (h:a.len≤n):a.c n=0:=a.lt_len n h
theorem Sk.plus {m:Fp p} {A B:List (Fp p)} (hm:m≠0) (hA:Sk m A) (hB:Sk m B) (k:Int):Sk m (uy k A B):=by
 have h1:=Pol.len_pos hm;refine ⟨Jq k A B,by have:=W9 k A B; have:=hA.eight; have:=hB.eight; omega,fun c hc=>?_⟩
 have:=a2r (A:=uy k A B) (N:=m.len-1) (fun i=>by
  rw [Qz];have a1:=hA.cs hm i;have a2:=hB.cs hm i;exact Pol.len_add_le (by omega) (Pol.len_le fun j hj=>by rw [Pol.c_Cmul,V4 (by omega),Gq.mul_zero])) c hc
 omega
theorem a0t (left:Bool) {m:Fp p} (hm:Fld m) {A B:List (Fp p)} (hA:Sk m A) (hB:Sk m B) (h1:1≤B.length) (hle:B.length≤A.length) :
 qc left m A B≠0∧(qc left m A B).len<m.len∧Sk m (qT left m A B)∧Sk m (qP left m A B)∧(uy (-1) A (qP left m A B)).length<A.length∧Sk m (uy (-1) A (qP left m A B)):=by
 have h0:m≠0:=hm.mon.2;have hx:=hA.top (by omega)
 have hxl:=hA.cs h0 (A.length-1);have hy:=hB.top h1;have hyl:=hB.cs h0 (B.length-1);have hfy:gu m ((A.length-B.length)%(m.len-1)) (cS B (B.length-1))≠0:=Bw hm _ _ hy hyl;have hfl:=ri h0 ((A.length-B.length)%(m.len-1)) (cS B (B.length-1)) hyl;have hb1:=L5 hm hxl hfy hfl;have hb2:=L5 hm hxl hy hyl;have hzl:(cS A (A.length-1)*va m (cS B (B.length-1))%m).len<m.len:=Pol.len_mod _ h0
 have hz0:cS A (A.length-1)*va m (cS B (B.length-1))%m≠0:=fun h=>by
  have:=hb2.1;rw [h,Gq.zero_mul,Pol.zero_mod h0] at this;exact hx this.symm
 have hc0:qc left m A B≠0:=by
  unfold qc;cases left with
  | true=>simp only [if_true]; exact Bw hm _ _ hz0 hzl
  | false=>
   simp only [au,if_false];intro h;have:=hb1.1;rw [h,Gq.zero_mul,Pol.zero_mod h0] at this;exact hx this.symm
 have hcl:(qc left m A B).len<m.len:=by
  unfold qc;cases left with
  | true=>simp only [if_true]; exact ri h0 _ _ hzl
  | false=>simp only [au,if_false]; exact Pol.len_mod _ h0
 have hTl:(qT left m A B).length=A.length-B.length+1:=my _ _;have h8:=hA.eight
 have hT:Sk m (qT left m A B):=⟨B5 hc0 _,by omega,fun c hc=>by
  unfold qT u7 at hc;rcases b6.1 hc with h | h
  ·rw [im h,Pol.len_zero]; exact Pol.len_pos h0
  ·rw [bg.1 h]; exact hcl⟩
 have hPl:(qP left m A B).length≤A.length:=by
  unfold qP;cases left with
  | true=>have:=v3 (m:=m) (a:=B) (b:=qT true m A B); simp only [if_true]; omega
  | false=>have:=v3 (m:=m) (a:=qT false m A B) (b:=B); simp only [au,if_false]; omega
 have hP:Sk m (qP left m A B):=by
  have hm1:=Pol.len_pos h0;refine ⟨?_,by omega,?_⟩
  ·unfold qP
   cases left with
   | true=>exact ru _ _ _
   | false=>exact ru _ _ _
  ·intro c hc
   have:c.len≤m.len-1:=by
    unfold qP at hc;cases left with
    | true=>exact rq h0 (by omega) c hc
    | false=>exact rq h0 (by omega) c hc
   omega
 have htop:cS (qP left m A B) (A.length-1)=cS A (A.length-1):=by
  unfold qP;cases left with
  | true=>
   simp only [if_true];have h:=Jf (m:=m) (A:=B) (B:=qT true m A B) h1 (by omega)
   rw [hTl,show B.length-1+(A.length-B.length+1-1)=A.length-1 by omega,show A.length-B.length+1-1=A.length-B.length by omega] at h
   rw [h];unfold qT;rw [Bu,if_pos rfl];unfold qc;simp only [if_true];rw [Oq hm (B.length-1) hzl];exact hb2.2
  | false=>
   simp only [au,if_false];have h:=Jf (m:=m) (A:=qT false m A B) (B:=B) (by omega) h1
   rw [hTl,show A.length-B.length+1-1+(B.length-1)=A.length-1 by omega,show A.length-B.length+1-1=A.length-B.length by omega] at h
   rw [h];unfold qT;rw [Bu,if_pos rfl];unfold qc;simp only [au,if_false];exact hb1.1
 have hneg:∀x:Fp p,x+Pol.C (zp p (-1))*x=0:=fun x=>by
  rw [N9,Nb,Pol.C_neg,Pol.C_one];exact bv [x] rfl
 refine ⟨hc0,hcl,hT,hP,?_,hA.plus h0 hP (-1)⟩
 have hlt:(uy (-1) A (qP left m A B)).length≤A.length-1:=Av fun i hi=>by
  rw [P5]
  split
  ·rcases dg i A.length with g | g
   ·rw [show i=A.length-1 by omega,htop,hneg]
   ·rw [Ja g,Ja (A:=qP left m A B) (by omega),Gq.mul_zero,Gq.add_zero]
  ·rfl
 omega
def Zto (Q A B:List (Fp p)):Prop:=∀j,j+B.length≤A.length→cS Q j=0
theorem Zto.step {left:Bool} {m:Fp p} (hm:Fld m) {Q A B:List (Fp p)} (hA:Sk m A) (hB:Sk m B) (h1:1≤B.length) (hle:B.length≤A.length) (hz:Zto Q A B):Zto (uy 1 Q (qT left m A B)) (uy (-1) A (qP left m A B)) B:=fun j hj=>by
 obtain ⟨_,_,_,_,h,_⟩:=a0t left hm hA hB h1 hle;unfold qT;rw [Qz,hz j (by omega),Bu,if_neg (by omega),Gq.mul_zero,Gq.add_zero]
end
end Pe



namespace Pe
open Go Gq
variable {T:Nat→Option Fn} {A:af}
abbrev z6:List Int:=List.replicate 6 0
section
variable {p:Int} [IsP p]
noncomputable def mono (p:Int) (i:Nat):Fp p:=kn p (p^i)
end
def Oi (f:Nat→List Int):Nat→Nat→List (List Int)→List (List Int)
 | 0,_,L=>L
 | m+1,i,L=>Oi f m (i+1) (L.set i (f i))
end Pe

namespace Pe
open Go Gq
variable {T:Nat→Option Fn} {A:af}
section
variable {O:af} {g:Nat} {first caps:List D}
structure CmpRow (O:af) (g:Nat) (first caps:List D) (f:D→Int) (s:Sh) (cs:List D):Prop where
 nf:u9 first
 nc:u9 caps
 nx:u9 cs
 sh:Ax s cs
 ask:∀x∈cs,∀y∈cs,∃v:Int,ask O g (first++[x,y]++caps)=some (D.int .i64 v)∧(v<0↔f x<f y)
theorem CmpRow.perm {f:D→Int} {s:Sh} {cs ds:List D} (h:CmpRow O g first caps f s cs) (p:ds.Perm cs):CmpRow O g first caps f s ds:=
 ⟨h.nf,h.nc,fun x hx=>h.nx x (p.subset hx),fun x hx=>h.sh x (p.subset hx),fun x hx y hy=>h.ask x (p.subset hx) y (p.subset hy)⟩
theorem CmpRow.call {f:D→Int} {s:Sh} {cs:List D} (h:CmpRow O g first caps f s cs) {hp:Heap} {np:Nat} {news:List Nat} {x y:D} (hx:x∈cs) (hy:y∈cs) :
 ∃v:Int,yi O np hp .flat news (g,first.map .d,caps.map .d) [.d x,.d y]=some (.d (D.int .i64 v),hp)∧(v<0↔f x<f y):=by
 have e:kj hp (first.map .d++[.d x,.d y]++caps.map .d)=some (first++[x,y]++caps):=
  qq hp (qq hp (jq hp h.nf) (jq hp (ds:=[x,y]) (by intro z hz; simp at hz; rcases hz with rfl | rfl; exact h.nx _ hx; exact h.nx _ hy))) (jq hp h.nc)
 obtain ⟨v,e1,e2⟩:=h.ask x hx y hy;refine ⟨v,?_,e2⟩;rw [xo,e,aa,D0,e1,aa,zg,show (D.int IntKind.i64 v).flat=true from rfl,if_pos rfl]
end
end Pe

namespace Pe
open Go Gq
variable {T:Nat→Option Fn} {A:af}
section
variable {p:Int}
noncomputable def elim (a b:Fp p):Fp p:=b+Pol.C (-(b.c (a.len-1)))*a
noncomputable def th:List (Fp p)→Fp p→Fp p
 | [],a=>a
 | b::bs,a=>th bs (elim b a)
noncomputable def E3 (a:Fp p):List (Fp p)→List (Fp p)
 | []=>[a]
 | b::bs=>if b.len<a.len then a::(b::bs).map (elim a) else elim a b::E3 a bs
theorem zt (a:Fp p):∀L:List (Fp p),(E3 a L).Perm (L.map (elim a)++[a])
 | []=>.refl _
 | b::bs=>by
  unfold E3
  split
  ·exact (List.perm_append_singleton a ((b::bs).map (elim a))).symm
  ·exact (zt a bs).cons _
theorem Yw {a:Fp p} {n:Nat} (h:a.len≤n):a.c n=0:=a.lt_len n h
theorem Oy (a b:Fp p) (n:Nat):(elim a b).c n=b.c n + -(b.c (a.len-1))*a.c n:=by
 unfold elim; rw [Pol.c_add,Pol.c_Cmul]
theorem yo {a c:Fp p}:∀{L:List (Fp p)},c∈E3 a L→c=a∨∃b∈L,c=elim a b:=fun {L} h=>by
 have:=(zt a L).subset h;rcases b6.1 this with h | h
 ·obtain ⟨b,hb,rfl⟩:=ca.1 h; exact .inr ⟨b,hb,rfl⟩
 ·exact .inl (by simpa using h)
noncomputable abbrev dk (a:Fp p):D:=(D.sl .leaf (am .i64 (row a)))
theorem Ey {n:Nat}:∀{L:List (Fp p)} {a:Fp p},(∀b∈L,b.len≤n)→(th L a).c n=a.c n
 | [],_,_=>rfl
 | b::L,a,h=>by
  show (th L (elim b a)).c n=_;rw [Ey (L:=L) (fun c hc=>h c (by simp [hc])),Oy,Yw (a:=b) (h b (by simp)),Gq.mul_zero,Gq.add_zero]
end
section
variable {p:Int} [IsP p]
structure Desc (N:Nat) (L:List (Fp p)):Prop where
 pw:L.Pairwise fun x y=>y.len<x.len
 mon:∀b∈L,Monic b
 le:∀b∈L,b.len≤N
theorem Desc.nil (N:Nat):Desc N ([]:List (Fp p)):=⟨List.Pairwise.nil,(fun _ h=>by cases h),(fun _ h=>by cases h)⟩
theorem Desc.tail {N:Nat} {b:Fp p} {L:List (Fp p)} (h:Desc N (b::L)):Desc N L∧∀c∈L,c.len<b.len:=
 ⟨⟨h.pw.tail,fun c hc=>h.mon c (by simp [hc]),fun c hc=>h.le c (by simp [hc])⟩,(df.1 h.pw).1⟩
theorem Desc.length:∀{N:Nat} {L:List (Fp p)},Desc N L→L.length≤N
 | N,[],_=>mj _
 | N,b::L,h=>by
  obtain ⟨h1,h2⟩:=h.tail;have hb:=Pol.len_pos (h.mon b (by simp)).2
  have hle:=h.le b (by simp)
  have:=Desc.length (N:=b.len-1) ⟨h1.pw,h1.mon,fun c hc=>by have:=h2 c hc; omega⟩
  rw [bc]; omega
theorem Bo {N:Nat} {a b:Fp p} (ha:a.len≤N) (hb:b.len≤N):(elim a b).len≤N:=by
 unfold elim;refine Pol.len_add_le hb (Pol.len_le fun i hi=>?_)
 rw [Pol.c_Cmul,Yw (a:=a) (by omega),Gq.mul_zero]
theorem Yj {a:Fp p} (ha:Monic a) (b:Fp p):(elim a b).c (a.len-1)=0:=by
 rw [Oy,show a.c (a.len-1)=1 from ha.1,Gq.mul_one];exact Gq.add_neg _
theorem Ij {N:Nat}:∀{L:List (Fp p)} {a:Fp p},(∀b∈L,b.len≤N)→a.len≤N→(th L a).len≤N
 | [],_,_,ha=>ha
 | b::L,a,h,ha=>Ij (L:=L) (fun c hc=>h c (by simp [hc])) (Bo (h b (by simp)) ha)
theorem Gd {N:Nat}:∀{L:List (Fp p)} {a:Fp p},Desc N L→∀b∈L,(th L a).c (b.len-1)=0
 | b::L,a,h,c,hc=>by
  obtain ⟨h1,h2⟩:=h.tail;show (th L (elim b a)).c _=0;rcases d5.1 hc with rfl | hc
  ·rw [Ey (L:=L) (fun d hd=>by have:=h2 d hd; omega),Yj (h.mon c (by simp))]
  ·exact Gd h1 c hc
theorem Y1 {N:Nat} {L:List (Fp p)} {a:Fp p} (h:Desc N L) (h0:th L a≠0):∀b∈L,b.len≠(th L a).len:=fun b hb e=>by
 have h1:=Gd (a:=a) h b hb;rw [e] at h1;exact Pol.ld_ne h0 h1
theorem Uf {a b:Fp p} (hb:Monic b) (hne:b.len≠a.len):Monic (elim a b)∧(elim a b).len=b.len:=by
 have hbp:=Pol.len_pos hb.2;rcases dg b.len a.len with h | h
 ·have:elim a b=b:=by
   unfold elim;rw [Yw (by omega),rh,Pol.C_zero,Gq.zero_mul,Gq.add_zero]
  rw [this]; exact ⟨hb,rfl⟩
 ·have hc:(elim a b).c (b.len-1)=1:=by
   rw [Oy,Yw (a:=a) (by omega),Gq.mul_zero,Gq.add_zero]; exact hb.1
  have hl:(elim a b).len=b.len:=by
   have h1:(elim a b).len=(b.len-1)+1:=Pol.len_eq (Pol.lt_iff.2 (by
    rw [Nat.sub_add_cancel hbp]; exact Bo h (b9 _))) (by rw [hc]; exact Fd.one_ne)
   omega
  refine ⟨⟨by unfold Pol.ld; rw [hl]; exact hc,fun h0=>?_⟩,hl⟩
  rw [h0,Pol.len_zero] at hl;omega
theorem H2 {N:Nat} {a:Fp p} (ha:Monic a) (hal:a.len≤N):∀{L:List (Fp p)},Desc N L→(∀b∈L,b.len≠a.len)→Desc N (E3 a L)
 | [],_,_=>⟨dy _ _,fun b hb=>by simp [E3] at hb; rw [hb]; exact ha,fun b hb=>by simp [E3] at hb; rw [hb]; exact hal⟩
 | b::L,h,hne=>by
  obtain ⟨h1,h2⟩:=h.tail;have hall:∀c∈b::L,Monic (elim a c)∧(elim a c).len=c.len:=fun c hc=>Uf (h.mon c hc) (hne c hc)
  refine ⟨?_,fun c hc=>?_,fun c hc=>?_⟩
  ·unfold E3
   split
   ·rename_i hlt
    refine df.2 ⟨fun c hc=>?_,?_⟩
    ·obtain ⟨d,hd,rfl⟩:=ca.1 hc
     rw [(hall d hd).2];rcases d5.1 hd with rfl | hd
     ·exact hlt
     ·have:=h2 d hd; omega
    ·rw [nu]
     refine h.pw.imp_of_mem fun {x y} hx hy hxy=>?_
     rw [(hall x hx).2,(hall y hy).2]; exact hxy
   ·rename_i hge
    refine df.2 ⟨fun c hc=>?_,(H2 ha hal h1 fun c hc=>hne c (by simp [hc])).pw⟩
    rw [(hall b (by simp)).2]
    rcases yo hc with rfl | ⟨d,hd,rfl⟩
    ·have:=hne b (by simp); omega
    ·rw [(hall d (by simp [hd])).2]; exact h2 d hd
  ·rcases yo hc with rfl | ⟨d,hd,rfl⟩
   ·exact ha
   ·exact (hall d hd).1
  ·rcases yo hc with rfl | ⟨d,hd,rfl⟩
   ·exact hal
   ·rw [(hall d hd).2]; exact h.le d hd
noncomputable def Tj (L:List (Fp p)) (x:Fp p):List (Fp p):=by
 classical exact if th L x=0 then L else E3 (Gq.mon (th L x)) L
theorem S7 {L:List (Fp p)} {x:Fp p} (h:th L x=0):Tj L x=L:=by unfold Tj; rw [if_pos h]
theorem Hv {L:List (Fp p)} {x:Fp p} (h:th L x≠0):Tj L x=E3 (Gq.mon (th L x)) L:=by unfold Tj; rw [if_neg h]
theorem S1 {N:Nat} {L:List (Fp p)} {x:Fp p} (h:Desc N L) (hx:x.len≤N):Desc N (Tj L x):=by
 by_cases h0:th L x=0
 ·rw [S7 h0]; exact h
 ·rw [Hv h0]
  exact H2 (o6 h0) (by rw [t5 h0]; exact Ij h.le hx) h fun b hb=>by rw [t5 h0]; exact Y1 h h0 b hb
end
section
variable {p:Int}
end
end Pe

namespace Pe
open Go Gq
variable {T:Nat→Option Fn} {A:af}
end Pe

namespace Pe
open Go Gq
variable {T:Nat→Option Fn} {A:af}
section
variable {p:Int} [IsP p]
end
end Pe

namespace Pe
open Go Gq
variable {T:Nat→Option Fn} {A:af}
noncomputable abbrev dd {p:Int} (a:Fp p):D:=(D.arr 64 .leaf (am .u8 (pad (row a))))
theorem vf {p:Int} (xs:List (Fp p)):(skP xs).map bt=xs.map dd:=by unfold skP; rw [kz]; rfl
section
variable {p:Int} [IsP p]
theorem Xl {O:af} (hro:t6 O) {xs:List (Fp p)} (hl:xs.length<2000000) (hx:∀x∈xs,x.len≤64):∀(r i:Nat) (cp:Option Nat),i+r=xs.length→∃cp':Option Nat,
 dn O 0 (.loop Z1f_L0) ⟨[(3,.sl 0 [] 0 i cp),(6,.d (.sl (.arr 64 .leaf) (xs.map dd))),(7,(.d (.int .i64 xs.length))),(8,(.d (.int .i64 i)))],[.sl false .leaf ((xs.take i).map dk),.hole,.hole,.hole]⟩ =
  some (.exit 0,⟨[(3,.sl 0 [] 0 xs.length cp'),(6,.d (.sl (.arr 64 .leaf) (xs.map dd))),(7,(.d (.int .i64 xs.length))),(8,(.d (.int .i64 xs.length))),(9,(.d (.bool false)))],[.sl false .leaf (xs.map dk),.hole,.hole,.hole]⟩)
 | 0,i,cp,hi=>by
  obtain rfl:i=xs.length:=by omega
  rw [ee];refine ⟨cp,bo ?_⟩;generalize xs.map dd=XD at *;generalize xs.map dk=RD at *;simp -implicitDefEqProofs [Z1f_L0,ap]
 | r+1,i,cp,hi=>by
  have hlt:i<xs.length:=by omega
  have hm:=bh hlt;have e1:=hro p xs[i] (hx _ hm);have hXD:(xs.map dd).length=xs.length:=ah ..;have hxi:∀h:i<(xs.map dd).length,(xs.map dd)[i]'h=(D.arr 64 .leaf (am .u8 (pad (row xs[i])))):=fun h=>by rw [cb]
  have w4:IntKind.i64.wrap ((i:Int)+1)=((i+1:Nat):Int):=(w64 (x:=(i:Int)+1) (by omega)).trans (by omega)
  have h24:(i+1)*24≤1099511627776:=by omega
  have htk:(xs.take (i+1)).map dk=(xs.take i).map dk++[(D.sl .leaf (am .i64 (row xs[i])))]:=by rw [bf hlt,cu]; rfl
  have hL:((xs.take i).map dk).length=i:=by rw [ah,b8]; omega
  have htt:((xs.take i).map dk).take i=(xs.take i).map dk:=av (by omega)
  obtain ⟨cp',ih⟩:=Xl hro hl hx r (i+1) none (by omega)
  refine ⟨cp',bm ?_ ih⟩;rw [htk];generalize pad (row xs[i])=Pi at *;generalize row xs[i]=Ri at *;generalize (xs.take i).map dk=TD at *;generalize xs.map dd=XD at *;simp -implicitDefEqProofs [Z1f_L0,ap,hlt,hXD,hxi,e1,h24,hL,htt,w4,List.replicate]
def Nz (O:af):Prop:=∀(p:Int) [IsP p] (xs:List (Fp p)),xs.length<2000000→(∀x∈xs,x.len≤64)→ask O F1f [.sl (.arr 64 .leaf) (xs.map dd)]=some (.sl .leaf (xs.map dk))
theorem Pj {O:af} (hpo:A1 O) {xs:List (Fp p)} (hl:xs.length<2000000) (hx:∀x∈xs,x.len≤64):∀(r i:Nat) (cp:Option Nat),i+r=xs.length→∃cp':Option Nat,
 dn O 0 (.loop Zo_L0) ⟨[(3,.sl 0 [] 0 i cp),(6,.d (.sl .leaf (xs.map dk))),(7,(.d (.int .i64 xs.length))),(8,(.d (.int .i64 i)))],[.sl false (.arr 64 .leaf) ((xs.take i).map dd),.hole,.hole]⟩ =
  some (.exit 0,⟨[(3,.sl 0 [] 0 xs.length cp'),(6,.d (.sl .leaf (xs.map dk))),(7,(.d (.int .i64 xs.length))),(8,(.d (.int .i64 xs.length))),(9,(.d (.bool false)))],[.sl false (.arr 64 .leaf) (xs.map dd),.hole,.hole]⟩)
 | 0,i,cp,hi=>by
  obtain rfl:i=xs.length:=by omega
  rw [ee];refine ⟨cp,bo ?_⟩;generalize xs.map dd=XD at *;generalize xs.map dk=RD at *;simp -implicitDefEqProofs [Zo_L0,ap]
 | r+1,i,cp,hi=>by
  have hlt:i<xs.length:=by omega
  have hm:=bh hlt;have e1:=hpo p xs[i] (hx _ hm);have hXD:(xs.map dk).length=xs.length:=ah ..;have hxi:∀h:i<(xs.map dk).length,(xs.map dk)[i]'h=(D.sl .leaf (am .i64 (row xs[i]))):=fun h=>by rw [cb]
  have w4:IntKind.i64.wrap ((i:Int)+1)=((i+1:Nat):Int):=(w64 (x:=(i:Int)+1) (by omega)).trans (by omega)
  have h24:(i+1)*64≤1099511627776:=by omega
  have htk:(xs.take (i+1)).map dd=(xs.take i).map dd++[(D.arr 64 .leaf (am .u8 (pad (row xs[i]))))]:=by rw [bf hlt,cu]; rfl
  have hL:((xs.take i).map dd).length=i:=by rw [ah,b8]; omega
  have htt:((xs.take i).map dd).take i=(xs.take i).map dd:=av (by omega)
  obtain ⟨cp',ih⟩:=Pj hpo hl hx r (i+1) none (by omega)
  refine ⟨cp',bm ?_ ih⟩;rw [htk];generalize pad (row xs[i])=Pi at *;generalize row xs[i]=Ri at *;generalize (xs.take i).map dd=TD at *;generalize xs.map dk=XD at *;simp -implicitDefEqProofs [Zo_L0,ap,hlt,hXD,hxi,e1,h24,hL,htt,w4,List.replicate]
def Bz (O:af):Prop:=∀(p:Int) [IsP p] (xs:List (Fp p)),xs.length<2000000→(∀x∈xs,x.len≤64)→ask O Fo [.sl .leaf (xs.map dk)]=some (.sl (.arr 64 .leaf) (xs.map dd))
end
theorem a3l (hT:T F1f=some Z1f) (hro:t6 (den T A)):Nz (den T A):=by
 intro p ip xs hl hx;obtain ⟨cp,e⟩:=Xl (O:=den T A) hro hl hx xs.length 0 (some 0) (b7 _);have e00:((0:Nat):Int)=0:=rfl;rw [e00,cz,fk] at e;have h1:(xs.map dk).length=xs.length:=ah ..;have h2:(xs.map dd).length=xs.length:=ah ..;have htk:(xs.map dk).take xs.length=xs.map dk:=av (by omega)
 refine br hT rfl ?_;generalize xs.map dd=XD at *;generalize xs.map dk=RD at *;simp -implicitDefEqProofs [Z1f,Z1f_B,h1,h2,htk,e]
theorem Yl (hT:T Fo=some Zo) (hpo:A1 (den T A)):Bz (den T A):=by
 intro p ip xs hl hx;obtain ⟨cp,e⟩:=Pj (O:=den T A) hpo hl hx xs.length 0 (some 0) (b7 _);have e00:((0:Nat):Int)=0:=rfl;rw [e00,cz,fk] at e;have h1:(xs.map dd).length=xs.length:=ah ..;have h2:(xs.map dk).length=xs.length:=ah ..;have htk:(xs.map dd).take xs.length=xs.map dd:=av (by omega)
 refine br hT rfl ?_;generalize xs.map dd=XD at *;generalize xs.map dk=RD at *;simp -implicitDefEqProofs [Zo,Zo_B,h1,h2,htk,e]
noncomputable def me (p:Int) (l:List Int) (ls:List (List Int)) (lo hi:Int):Int:=if pc p l ls≠0 then pc p l ls else if (ls.length:Int)<lo∨hi<ls.length then 2 else 0
def qe (O:af):Prop:=∀(p:Int) (l:List Int) (ls:List (List Int)) (lo hi:Int),iu l→l.length=64→xj ls→ls.length<2000000→ask O Fm [(D.int .i64 p),(D.arr 64 .leaf (am .u8 l)),.sl (.arr 64 .leaf) (ls.map bt),(D.int .i64 lo),(D.int .i64 hi)]=some (D.int .i64 (me p l ls lo hi))
theorem N3 (hT:T Fm=some Zm) (hr:pz (den T A) F18):qe (den T A):=by
 intro p l ls lo hi bl gl ha hl;have e:=hr p l ls bl gl ha hl;have h1:(ls.map bt).length=ls.length:=ah ..;unfold me;refine br hT rfl ?_;generalize ls.map bt=LD at *
 by_cases h0:pc p l ls=0
 ·rw [h0] at e
  rw [if_neg (by simpa using h0)]
  by_cases h2:(ls.length:Int)<lo
  ·rw [if_pos (.inl h2)]
   simp -implicitDefEqProofs [Zm,Zm_B,ap,e,h1,h2]
  ·by_cases h3:hi<(ls.length:Int)
   ·rw [if_pos (.inr h3)]
    simp -implicitDefEqProofs [Zm,Zm_B,ap,e,h1,h2,h3]
   ·rw [if_neg (by omega)]
    simp -implicitDefEqProofs [Zm,Zm_B,ap,e,h1,h2,h3]
 ·rw [if_pos h0]
  generalize pc p l ls=k at *;simp -implicitDefEqProofs [Zm,Zm_B,ap,e,h0]
def a0r (p:Int) (l:List Int) (ls:List (List Int)):Prop:=∃(_:IsP p) (m:Fp p),l=pad (row m)∧Fld m∧El m ls
theorem Jr {p:Int} {l:List Int} {ls:List (List Int)}:pc p l ls=0↔a0r p l ls:=by
 unfold pc;constructor
 ·intro h1
  split at h1
  ·rename_i g; exact g
  ·cases h1
 ·intro h; exact if_pos h
end Pe

namespace Pe
open Go Gq
variable {T:Nat→Option Fn} {A:af}
section
variable {p:Int}
end
section
variable {p:Int} [IsP p]
end
end Pe

namespace Pe
open Go Gq
variable {T:Nat→Option Fn} {A:af}
open Classical in
theorem a14 {O:af} (hr:Iy O) {p:Int} [IsP p] {m:Fp p} (hm:m.len≤64) {ls:List (List Int)} (h:xj ls) (hl:ls.length<2000000):∀(k i:Nat),i+k=ls.length →
 dn O 0 (.loop Z33_L0) ⟨[(0,(.d (.int .i64 p))),(2,.d (.sl (.arr 64 .leaf) (ls.map bt))),(4,.ptr 0 []),(7,(.d (.int .i64 i)))],[.box false (D.arr 64 .leaf (am .u8 (pad (row m))))]⟩ =
  if El m (ls.drop i) then some (.exit 0,⟨[(0,(.d (.int .i64 p))),(2,.d (.sl (.arr 64 .leaf) (ls.map bt))),(4,.ptr 0 []),(7,(.d (.int .i64 ls.length))),(15,(.d (.bool false)))],[.box false (D.arr 64 .leaf (am .u8 (pad (row m))))]⟩) else some (.ret,⟨[(6,(.d (.int .i64 1)))],[.hole]⟩)
 | 0,i,hi=>by
  obtain rfl:i=ls.length:=by omega
  rw [if_pos (by rw [kw]; exact Xj m)]
  have hL:(ls.map bt).length=ls.length:=ah ..;refine bo ?_;generalize pad (row m)=Pm at *;generalize ls.map bt=LD at *;simp -implicitDefEqProofs [Z33_L0,ap,hL]
 | k+1,i,hi=>by
  have hlt:i<ls.length:=by omega
  have hm1:=bh hlt;have e1:=hr p m ls[i] hm (h _ hm1).2 (h _ hm1).1;have hL:(ls.map bt).length=ls.length:=ah ..;have w4:IntKind.i64.wrap ((i:Int)+1)=((i+1:Nat):Int):=(w64 (x:=(i:Int)+1) (by omega)).trans (by omega)
  have hx2:∀h:i<(ls.map bt).length,(ls.map bt)[i]'h=(D.arr 64 .leaf (am .u8 (ls[i]))):=fun h=>by rw [cb]
  have hd:ls.drop i=ls[i]::ls.drop (i+1):=cd hlt;have ih:=a14 hr hm h hl k (i+1) (by omega)
  rw [hd]
  by_cases hres:pe m ls[i]
  ·rw [decide_eq_true hres] at e1
   have hiff:El m (ls[i]::ls.drop (i+1))↔El m (ls.drop (i+1)):=⟨fun h=>(wh.1 h).2,fun h=>wh.2 ⟨hres,h⟩⟩
   rw [propext hiff];refine bm ?_ ih;generalize ls[i]=li at *;generalize pad (row m)=Pm at *;generalize ls.map bt=LD at *;simp -implicitDefEqProofs [Z33_L0,ap,hlt,hx2,hL,e1,w4]
  ·rw [decide_eq_false hres] at e1
   rw [if_neg (fun h=>hres (wh.1 h).1)]
   refine pk ?_;generalize ls[i]=li at *;generalize pad (row m)=Pm at *;generalize ls.map bt=LD at *;simp -implicitDefEqProofs [Z33_L0,ap,hlt,hx2,hL,e1]
open Classical in
theorem T1 (hT:T F33=some Z33) (hf:Co (den T A)) (hi:Iy (den T A)):pz (den T A) F33:=by
 intro p l ls hb hl h hlen;have e1:=hf p l hb hl;refine br hT rfl ?_;unfold pc
 by_cases hfl:Aj p l
 ·rw [decide_eq_true hfl] at e1
  obtain ⟨ip,m,rfl,hm⟩:=hfl;have h5:=hm.five;have e2:=a14 (O:=den T A) hi (m:=m) (by omega) h hlen ls.length 0 (b7 _)
  have e00:((0:Nat):Int)=0:=rfl;rw [e00,fp] at e2;have hc:=Li hm (Q:=fun ip m'=>∀x∈ls,@pe p ip m' x)
  by_cases hs:El m ls
  ·rw [if_pos hs] at e2
   rw [if_pos (hc.2 hs)];generalize pad (row m)=Pm at *;generalize ls.map bt=LD at *;simp -implicitDefEqProofs [Z33,Z33_B,ap,e1,e2]
  ·rw [if_neg hs] at e2
   rw [if_neg (fun h=>hs (hc.1 h))]
   generalize pad (row m)=Pm at *;generalize ls.map bt=LD at *;simp -implicitDefEqProofs [Z33,Z33_B,ap,e1,e2]
 ·rw [decide_eq_false hfl] at e1
  rw [if_neg (fun ⟨ip,m,e,hm,_⟩=>hfl ⟨ip,m,e,hm⟩)]
  generalize ls.map bt=LD at *;simp -implicitDefEqProofs [Z33,Z33_B,ap,e1]
def A4 (O:af):Prop:=∀(p:Int) (l:List Int) (ls:List (List Int)) (hi:Int),iu l→l.length=64→xj ls→ls.length<2000000→ask O F34 [(D.int .i64 p),(D.arr 64 .leaf (am .u8 l)),.sl (.arr 64 .leaf) (ls.map bt),(D.int .i64 hi)]=some (D.int .i64 (me p l ls 0 hi))
theorem S6 (hT:T F34=some Z34) (hr:pz (den T A) F33):A4 (den T A):=by
 intro p l ls hi bl gl ha hl;have e:=hr p l ls bl gl ha hl;have h1:(ls.map bt).length=ls.length:=ah ..;unfold me;refine br hT rfl ?_;generalize ls.map bt=LD at *
 by_cases h0:pc p l ls=0
 ·rw [h0] at e
  rw [if_neg (by simpa using h0)]
  by_cases h3:hi<(ls.length:Int)
  ·rw [if_pos (.inr h3)]
   simp -implicitDefEqProofs [Z34,Z34_B,ap,e,h1,h3]
  ·rw [if_neg (by omega)]
   simp -implicitDefEqProofs [Z34,Z34_B,ap,e,h1,h3]
 ·rw [if_pos h0]
  generalize pc p l ls=k at *;simp -implicitDefEqProofs [Z34,Z34_B,ap,e,h0]
theorem Vf {O:af} (hp:qj O) {ls:List (List Int)} (h:xj ls) (hl:ls.length<2000000):∀(k i:Nat) (Q:List D),i+k=ls.length→Q.length=ls.length→(∀d∈Q,d.sh.beq (.arr 64 .leaf)=true)→Q.take i=(ls.map bt).take i →
 dn O 0 (.loop Z1r_L0) ⟨[(0,.d (.sl (.arr 64 .leaf) (ls.map bt))),(3,.sl 0 [] 0 ls.length (some ls.length)),(4,(.d (.int .i64 i)))],[.sl false (.arr 64 .leaf) Q]⟩ =
  some (.exit 0,⟨[(0,.d (.sl (.arr 64 .leaf) (ls.map bt))),(3,.sl 0 [] 0 ls.length (some ls.length)),(4,(.d (.int .i64 ls.length))),(11,(.d (.bool false)))],[.sl false (.arr 64 .leaf) (ls.map bt)]⟩)
 | 0,i,Q,hi,hq,hQ,ht=>by
  obtain rfl:i=ls.length:=by omega
  have hL:(ls.map bt).length=ls.length:=ah ..;rw [av (by omega),av (by omega)] at ht
  subst ht;refine bo ?_;generalize ls.map bt=LD at *;simp -implicitDefEqProofs [Z1r_L0,ap,hL]
 | k+1,i,Q,hi,hq,hQ,ht=>by
  have hlt:i<ls.length:=by omega
  have hm1:=bh hlt;have hsh:∀h:i<Q.length,(Q[i]'h).sh.beq (.arr 64 .leaf)=true:=fun h=>hQ _ (bh h)
  have e1:=hp ls[i] (h _ hm1).2 (h _ hm1).1;have hL:(ls.map bt).length=ls.length:=ah ..;have hx2:∀h:i<(ls.map bt).length,(ls.map bt)[i]'h=(D.arr 64 .leaf (am .u8 (ls[i]))):=fun h=>by rw [cb]
  have w4:IntKind.i64.wrap ((i:Int)+1)=((i+1:Nat):Int):=(w64 (x:=(i:Int)+1) (by omega)).trans (by omega)
  refine bm ?_ (Vf hp h hl k (i+1) (Q.set i (D.arr 64 .leaf (am .u8 (ls[i])))) (by omega) (by rw [c5]; exact hq) (fun d hd=>by
   rcases d9 hd with h1 | rfl
   ·exact hQ d h1
   ·rfl) (by
   rw [bf (show i<(ls.map bt).length by omega),bf (by rw [c5]; omega),nw,List.take_set,lw (by rw [b8]; omega),ht,hx2]))
  generalize ls[i]=li at *;generalize ls.map bt=LD at *;simp -implicitDefEqProofs [Z1r_L0,ap,hlt,hL,hx2,hq,hsh,e1,w4]
def Ot (O:af):Prop:=∀ls:List (List Int),xj ls→ls.length<2000000→ask O F1r [.sl (.arr 64 .leaf) (ls.map bt)]=some (.sl (.arr 64 .leaf) (ls.map bt))
theorem a1v (hT:T F1r=some Z1r) (hp:qj (den T A)):Ot (den T A):=by
 intro ls h hl;have e:=Vf (O:=den T A) hp h hl ls.length 0 (List.replicate ls.length (D.arr 64 .leaf (am .u8 (pad [])))) (b7 _) (c7 ..) (fun d hd=>by rw [im hd]; rfl) (by rw [cz,cz])
 have e00:((0:Nat):Int)=0:=rfl;rw [e00] at e;have hL:(ls.map bt).length=ls.length:=ah ..;have htk:(ls.map bt).take ls.length=ls.map bt:=av (by omega)
 have h64:ls.length*64≤1099511627776:=by omega
 refine br hT rfl ?_;generalize ls.map bt=LD at *;generalize ls.length=n at *;simp -implicitDefEqProofs [Z1r,Z1r_B,e,hL,htk,h64]
theorem Uc {O:af} (he:yy O) {ls:List (List Int)} (h:∀l∈ls,l.length=64) (hl:ls.length<2000000):∀(k i:Nat),i+k=ls.length →
 dn O 0 (.loop Z1j_L0) ⟨[(0,.d (.sl (.arr 64 .leaf) (ls.map bt))),(1,.d (.sl (.arr 64 .leaf) (ls.map bt))),(5,(.d (.int .i64 i)))],[]⟩ =
  some (.exit 0,⟨[(0,.d (.sl (.arr 64 .leaf) (ls.map bt))),(1,.d (.sl (.arr 64 .leaf) (ls.map bt))),(5,(.d (.int .i64 ls.length))),(14,(.d (.bool false)))],[]⟩)
 | 0,i,hi=>by
  obtain rfl:i=ls.length:=by omega
  have hL:(ls.map bt).length=ls.length:=ah ..;refine bo ?_;generalize ls.map bt=LD at *;simp -implicitDefEqProofs [Z1j_L0,ap,hL]
 | k+1,i,hi=>by
  have hlt:i<ls.length:=by omega
  have e1:=he ls[i] (h _ (bh hlt));have hL:(ls.map bt).length=ls.length:=ah ..;have hx2:∀h:i<(ls.map bt).length,(ls.map bt)[i]'h=(D.arr 64 .leaf (am .u8 (ls[i]))):=fun h=>by rw [cb]
  have w4:IntKind.i64.wrap ((i:Int)+1)=((i+1:Nat):Int):=(w64 (x:=(i:Int)+1) (by omega)).trans (by omega)
  refine bm ?_ (Uc he h hl k (i+1) (by omega))
  generalize ls[i]=li at *;generalize ls.map bt=LD at *;simp -implicitDefEqProofs [Z1j_L0,ap,hlt,hL,hx2,e1,w4]
def Di (O:af):Prop:=∀ls:List (List Int),(∀l∈ls,l.length=64)→ls.length<2000000→ask O F1j [.sl (.arr 64 .leaf) (ls.map bt),.sl (.arr 64 .leaf) (ls.map bt)]=some (D.bool true)
theorem a2b (hT:T F1j=some Z1j) (he:yy (den T A)):Di (den T A):=by
 intro ls h hl;have e:=Uc (O:=den T A) he h hl ls.length 0 (b7 _);have e00:((0:Nat):Int)=0:=rfl;rw [e00] at e;refine br hT rfl ?_;generalize ls.map bt=LD at *;simp -implicitDefEqProofs [Z1j,Z1j_B,ap,e]
def Oz (O:af):Prop:=∀(L:List D) (left:Int),0≤left→left≤2000000→L.length≤9223372036854775807→ask O F1p [.sl (.arr 64 .leaf) L,(D.int .i64 left)]=some (D.int .i64 (if left<L.length then -1 else left-L.length))
theorem a1k (hT:T F1p=some Z1p):Oz (den T A):=by
 intro L left h0 h1 hl;have w1:IntKind.i64.wrap (left-L.length)=left-L.length:=w64 (by omega)
 refine br hT rfl ?_
 by_cases h:left<L.length
 ·rw [if_pos h]
  have hn:left-(L.length:Int)<0:=by omega
  simp -implicitDefEqProofs [Z1p,Z1p_B,ap,w1,hn]
 ·rw [if_neg h]
  have hn:¬ left-(L.length:Int)<0:=by omega
  simp -implicitDefEqProofs [Z1p,Z1p_B,ap,w1,hn]
end Pe

namespace Pe
open Go Gq
variable {T:Nat→Option Fn} {A:af}
theorem Qn {O:af} (hp:qj O) {ls:List (List Int)} (h:xj ls) (hl:ls.length<2000000):∀(k i:Nat) (Q:List D),i+k=ls.length→Q.length=ls.length→(∀d∈Q,d.sh.beq (.arr 64 .leaf)=true)→Q.take i=(ls.map bt).take i →
 dn O 0 (.loop Z1s_L0) ⟨[(0,.d (.sl (.arr 64 .leaf) (ls.map bt))),(3,.sl 1 [] 0 ls.length (some ls.length)),(4,(.d (.int .i64 i)))],[.hole,.sl false (.arr 64 .leaf) Q]⟩ =
  some (.exit 0,⟨[(0,.d (.sl (.arr 64 .leaf) (ls.map bt))),(3,.sl 1 [] 0 ls.length (some ls.length)),(4,(.d (.int .i64 ls.length))),(11,(.d (.bool false)))],[.hole,.sl false (.arr 64 .leaf) (ls.map bt)]⟩)
 | 0,i,Q,hi,hq,hQ,ht=>by
  obtain rfl:i=ls.length:=by omega
  have hL:(ls.map bt).length=ls.length:=ah ..;rw [av (by omega),av (by omega)] at ht
  subst ht;refine bo ?_;generalize ls.map bt=LD at *;simp -implicitDefEqProofs [Z1s_L0,ap,hL]
 | k+1,i,Q,hi,hq,hQ,ht=>by
  have hlt:i<ls.length:=by omega
  have hm1:=bh hlt;have hsh:∀h:i<Q.length,(Q[i]'h).sh.beq (.arr 64 .leaf)=true:=fun h=>hQ _ (bh h)
  have e1:=hp ls[i] (h _ hm1).2 (h _ hm1).1;have hL:(ls.map bt).length=ls.length:=ah ..;have hx2:∀h:i<(ls.map bt).length,(ls.map bt)[i]'h=(D.arr 64 .leaf (am .u8 (ls[i]))):=fun h=>by rw [cb]
  have w4:IntKind.i64.wrap ((i:Int)+1)=((i+1:Nat):Int):=(w64 (x:=(i:Int)+1) (by omega)).trans (by omega)
  refine bm ?_ (Qn hp h hl k (i+1) (Q.set i (D.arr 64 .leaf (am .u8 (ls[i])))) (by omega) (by rw [c5]; exact hq) (fun d hd=>by
   rcases d9 hd with h1 | rfl
   ·exact hQ d h1
   ·rfl) (by
   rw [bf (show i<(ls.map bt).length by omega),bf (by rw [c5]; omega),nw,List.take_set,lw (by rw [b8]; omega),ht,hx2]))
  generalize ls[i]=li at *;generalize ls.map bt=LD at *;simp -implicitDefEqProofs [Z1s_L0,ap,hlt,hL,hx2,hq,hsh,e1,w4]
def Mx (O:af):Prop:=∀ls:List (List Int),xj ls→ls.length<2000000→O F1s [.d (.sl (.arr 64 .leaf) (ls.map bt))] []=some (.sl 0 [] 0 ls.length (some ls.length),[],[.sl false (.arr 64 .leaf) (ls.map bt)])
theorem a1s (hT:T F1s=some Z1s) (hp:qj (den T A)):Mx (den T A):=by
 intro ls h hl;have e:=Qn (O:=den T A) hp h hl ls.length 0 (List.replicate ls.length (D.arr 64 .leaf (am .u8 (pad [])))) (b7 _) (c7 ..) (fun d hd=>by rw [im hd]; rfl) (by rw [cz,cz])
 have e00:((0:Nat):Int)=0:=rfl;rw [e00] at e;have hL:(ls.map bt).length=ls.length:=ah ..;have h64:ls.length*64≤1099511627776:=by omega
 refine m9 hT rfl ?_;generalize ls.map bt=LD at *;generalize ls.length=n at *;simp -implicitDefEqProofs [Z1s,Z1s_B,e,hL,h64,List.idxOf,List.findIdx,List.findIdx.go]
def mk8 (k:Nat):Int:=((k%256:Nat):Int)
theorem Wk (k:Nat):IntKind.u8.wrap (k:Int)=mk8 k:=by
 unfold mk8;simp [IntKind.wrap,IntKind.bits,IntKind.signed]
def rl (s i:Nat):List Int:=(List.range 64).map fun j=>mk8 (s+64*i+j)
def gz (s n:Nat):List (List Int):=(List.range n).map (rl s)
theorem v5 (s i:Nat):(rl s i).length=64:=by unfold rl; rw [ah,fb]
theorem ta (s n:Nat):(gz s n).length=n:=by unfold gz; rw [ah,fb]
theorem J9 (f:Nat→List Int):∀(m i:Nat) (l:List (List Int)) (j:Nat),(Oi f m i l)[j]? = if i≤j∧j<i+m∧j<l.length then some (f j) else l[j]?
 | 0,i,l,j=>by rw [Oi,if_neg (by omega)]
 | m+1,i,l,j=>by
  rw [Oi,J9 f m,c5]
  by_cases h1:i+1≤j∧j<i+1+m∧j<l.length
  ·rw [if_pos h1,if_pos (by omega)]
  ·rw [if_neg h1]
   by_cases h2:j=i
   ·subst h2
    by_cases h3:j<l.length
    ·rw [if_pos (by omega),aw h3]
    ·rw [if_neg (by omega),bi (by simpa using h3),bi (by omega)]
   ·rw [az (fa h2),if_neg (by omega)]
theorem Jn (f:Nat→List Int) (n:Nat) (l:List (List Int)) (hl:l.length=n):Oi f n 0 l=(List.range n).map f:=by
 apply dc;intro j;rw [J9,dj]
 by_cases hj:j<n
 ·rw [if_pos (by omega),eg hj]; rfl
 ·rw [if_neg (by omega),bi (by omega),bi (by simpa using hj)]; rfl
theorem Qd {O:af} {n s i:Nat} {cp:Option Nat} {LR:List D} (hn:n<2000000) (hs:s<1000000000000) (hi:i<n) (hLR:LR.length=n):∀(r j:Nat) (cur:List Int),j+r=64→cur.length=64 →
 dn O 1 (.loop Z1n_L0) ⟨[(0,.sl 0 [] 0 n cp),(1,(.d (.int .i64 (((s+64*i+j:Nat):Int))))),(5,(.d (.int .i64 i))),(6,(.d (.int .i64 j)))],[.sl false (.arr 64 .leaf) (LR.set i (D.arr 64 .leaf (am .u8 cur)))]⟩ =
  some (.exit 2,⟨[(0,.sl 0 [] 0 n cp),(1,(.d (.int .i64 (((s+64*i+64:Nat):Int))))),(5,(.d (.int .i64 i))),(6,(.d (.int .i64 64))),(14,(.d (.bool false)))],[.sl false (.arr 64 .leaf) (LR.set i (D.arr 64 .leaf (am .u8 (upd (fun j=>mk8 (s+64*i+j)) r j cur))))]⟩)
 | 0,j,cur,hj,hc=>by
  have:j=64:=by omega
  subst this;refine bo ?_;show _=some (_,(⟨_,[.sl false (.arr 64 .leaf) (LR.set i (D.arr 64 .leaf (am .u8 cur)))]⟩:St));generalize LR.set i (D.arr 64 .leaf (am .u8 cur))=LQ at *;generalize ((s+64*i+64:Nat):Int)=k at *;simp -implicitDefEqProofs [Z1n_L0,ap]
 | r+1,j,cur,hj,hc=>by
  have hj64:j<64:=by omega
  have hj64':(j:Int)<64:=by omega
  have w1:=Wk (s+64*i+j);have w2:IntKind.i64.wrap (((s+64*i+j:Nat):Int)+1)=((s+64*i+(j+1):Nat):Int):=(w64 (x:=((s+64*i+j:Nat):Int)+1) (by omega)).trans (by omega)
  have w4:IntKind.i64.wrap ((j:Int)+1)=((j+1:Nat):Int):=(w64 (x:=(j:Int)+1) (by omega)).trans (by omega)
  have hcur:cur[j]? = some (cf cur j):=by rw [al (by omega),dp]
  refine bm ?_ (Qd hn hs hi hLR r (j+1) (cur.set j (mk8 (s+64*i+j))) (by omega) (by rw [c5]; exact hc))
  generalize mk8 (s+64*i+j)=mv at *;generalize ((s+64*i+j:Nat):Int)=k at *;generalize ((s+64*i+(j+1):Nat):Int)=k2 at *;simp -implicitDefEqProofs [Z1n_L0,ap,hj64,hj64',hi,hLR,hcur,w1,w2,w4]
theorem Qs {O:af} {n s:Nat} {cp:Option Nat} (hn:n<2000000) (hs:s<1000000000000):∀(r i:Nat) (L:List (List Int)),i+r=n→L.length=n→(∀l∈L,l.length=64) →
 dn O 1 (.loop Z1n_L1) ⟨[(0,.sl 0 [] 0 n cp),(1,(.d (.int .i64 (((s+64*i:Nat):Int))))),(5,(.d (.int .i64 i)))],[.sl false (.arr 64 .leaf) (L.map bt)]⟩ =
  some (.exit 0,⟨[(0,.sl 0 [] 0 n cp),(1,(.d (.int .i64 (((s+64*n:Nat):Int))))),(5,(.d (.int .i64 n))),(10,(.d (.bool false)))],[.sl false (.arr 64 .leaf) ((Oi (rl s) r i L).map bt)]⟩)
 | 0,i,L,hi,hL,h64=>by
  obtain rfl:i=n:=by omega
  refine bo ?_;show _=some (_,(⟨_,[.sl false (.arr 64 .leaf) (L.map bt)]⟩:St));generalize L.map bt=LQ at *;generalize ((s+64*i:Nat):Int)=k at *;simp -implicitDefEqProofs [Z1n_L1,ap]
 | r+1,i,L,hi,hL,h64=>by
  have hlt:i<n:=by omega
  have hltL:i<L.length:=by omega
  have hLD:(L.map bt).length=n:=by rw [ah]; exact hL
  have w4:IntKind.i64.wrap ((i:Int)+1)=((i+1:Nat):Int):=(w64 (x:=(i:Int)+1) (by omega)).trans (by omega)
  have e:=Qd (O:=O) (cp:=cp) hn hs hlt hLD 64 0 L[i] rfl (h64 _ (bh hltL))
  have hs0:(L.map bt).set i (D.arr 64 .leaf (am .u8 (L[i])))=L.map bt:=by
   have:(D.arr 64 .leaf (am .u8 (L[i])))=(L.map bt)[i]'(by omega):=by rw [cb]
   rw [this,List.set_getElem_self]
  have e00:((0:Nat):Int)=0:=rfl;rw [hs0,ze _ _ _ (h64 _ (bh hltL)),cg,e00,show (List.range 64).map (fun j=>mk8 (s+64*i+j))=rl s i from rfl] at e
  have hset:(L.set i (rl s i)).map bt=(L.map bt).set i (D.arr 64 .leaf (am .u8 (rl s i))):=pq
  have ih:=Qs (O:=O) (cp:=cp) hn hs r (i+1) (L.set i (rl s i)) (by omega) (by rw [c5]; exact hL) (fun l hl=>by
   rcases d9 hl with h1 | rfl
   ·exact h64 l h1
   ·exact v5 s i)
  rw [hset,show s+64*(i+1)=s+64*i+64 by omega] at ih
  refine bm ?_ ih;have hli:(i:Int)<n:=by omega
  generalize rl s i=mr at *;generalize ((s+64*i+64:Nat):Int)=k2 at *;generalize ((s+64*i:Nat):Int)=k at *;generalize L.map bt=LQ at *;simp -implicitDefEqProofs [Z1n_L1,ap,hli,e,w4]
def E5 (O:af):Prop:=∀(ls:List (List Int)) (cp:Option Nat) (s:Nat),ls.length<2000000→s<1000000000000→(∀l∈ls,l.length=64) →
 O F1n [.sl 0 [] 0 ls.length cp,(.d (.int .i64 s))] [.sl false (.arr 64 .leaf) (ls.map bt)]=some ((.d (.int .i64 (((s+64*ls.length:Nat):Int)))),[.sl false (.arr 64 .leaf) ((gz s ls.length).map bt)],[])
theorem W3 (hT:T F1n=some Z1n):E5 (den T A):=by
 intro ls cp s hl hs h64;have e:=Qs (O:=den T A) (cp:=cp) hl hs ls.length 0 ls (b7 _) rfl h64;have e00:((0:Nat):Int)=0:=rfl;rw [e00,u4,cg,Jn _ _ _ rfl,show (List.range ls.length).map (rl s)=gz s ls.length from rfl] at e;refine m9 hT rfl ?_;generalize gz s ls.length=MR at *;generalize ((s+64*ls.length:Nat):Int)=k at *;simp -implicitDefEqProofs [Z1n,Z1n_B,e,List.idxOf,List.findIdx]
theorem Qq {O:af} {n s i:Nat} (hn:n<2000000) (hs:s<1000000000000) (hi:i<n):∀(r j:Nat),j+r=64 →
 dn O 0 (.loop Z1l_L0) ⟨[(0,.d (.sl (.arr 64 .leaf) ((gz s n).map bt))),(1,(.d (.int .i64 (((s+64*i+j:Nat):Int))))),(5,(.d (.int .i64 i))),(6,(.d (.int .i64 j)))],[]⟩ =
  some (.exit 2,⟨[(0,.d (.sl (.arr 64 .leaf) ((gz s n).map bt))),(1,(.d (.int .i64 (((s+64*i+64:Nat):Int))))),(5,(.d (.int .i64 i))),(6,(.d (.int .i64 64))),(14,(.d (.bool false)))],[]⟩)
 | 0,j,hj=>by
  have:j=64:=by omega
  subst this;refine bo ?_;generalize (gz s n).map bt=LQ at *;generalize ((s+64*i+64:Nat):Int)=k at *;simp -implicitDefEqProofs [Z1l_L0,ap]
 | r+1,j,hj=>by
  have hj64:j<64:=by omega
  have hj64':(j:Int)<64:=by omega
  have w1:=Wk (s+64*i+j);have w2:IntKind.i64.wrap (((s+64*i+j:Nat):Int)+1)=((s+64*i+(j+1):Nat):Int):=(w64 (x:=((s+64*i+j:Nat):Int)+1) (by omega)).trans (by omega)
  have w4:IntKind.i64.wrap ((j:Int)+1)=((j+1:Nat):Int):=(w64 (x:=(j:Int)+1) (by omega)).trans (by omega)
  have hML:((gz s n).map bt).length=n:=by rw [ah,ta]
  have hx:∀h:i<((gz s n).map bt).length,((gz s n).map bt)[i]'h=(D.arr 64 .leaf (am .u8 (rl s i))):=fun h=>by
   rw [cb];unfold gz;rw [cb,List.getElem_range]
  have hml:=v5 s i;have hv:∀h:j<(rl s i).length,(rl s i)[j]'h=mk8 (s+64*i+j):=fun h=>by simp [rl]
  refine bm ?_ (Qq hn hs hi r (j+1) (by omega))
  generalize (gz s n).map bt=LQ at *;generalize rl s i=mr at *;generalize mk8 (s+64*i+j)=mv at *;generalize ((s+64*i+j:Nat):Int)=k at *;generalize ((s+64*i+(j+1):Nat):Int)=k2 at *;simp -implicitDefEqProofs [Z1l_L0,ap,hj64,hj64',hi,hML,hx,hml,hv,w1,w2,w4]
theorem Ql {O:af} {n s:Nat} (hn:n<2000000) (hs:s<1000000000000):∀(r i:Nat),i+r=n →
 dn O 0 (.loop Z1l_L1) ⟨[(0,.d (.sl (.arr 64 .leaf) ((gz s n).map bt))),(1,(.d (.int .i64 (((s+64*i:Nat):Int))))),(5,(.d (.int .i64 i)))],[]⟩ =
  some (.exit 0,⟨[(0,.d (.sl (.arr 64 .leaf) ((gz s n).map bt))),(1,(.d (.int .i64 (((s+64*n:Nat):Int))))),(5,(.d (.int .i64 n))),(10,(.d (.bool false)))],[]⟩)
 | 0,i,hi=>by
  obtain rfl:i=n:=by omega
  have hML:((gz s i).map bt).length=i:=by rw [ah,ta]
  refine bo ?_;generalize (gz s i).map bt=LQ at *;generalize ((s+64*i:Nat):Int)=k at *;simp -implicitDefEqProofs [Z1l_L1,ap,hML]
 | r+1,i,hi=>by
  have hlt:i<n:=by omega
  have hML:((gz s n).map bt).length=n:=by rw [ah,ta]
  have w4:IntKind.i64.wrap ((i:Int)+1)=((i+1:Nat):Int):=(w64 (x:=(i:Int)+1) (by omega)).trans (by omega)
  have e:=Qq (O:=O) hn hs hlt 64 0 rfl;have e00:((0:Nat):Int)=0:=rfl;rw [cg,e00] at e;have ih:=Ql (O:=O) hn hs r (i+1) (by omega)
  rw [show s+64*(i+1)=s+64*i+64 by omega] at ih
  refine bm ?_ ih;generalize ((s+64*i+64:Nat):Int)=k2 at *;generalize ((s+64*i:Nat):Int)=k at *;generalize (gz s n).map bt=LQ at *;simp -implicitDefEqProofs [Z1l_L1,ap,hlt,hML,e,w4]
def yj (O:af):Prop:=∀s n:Nat,n<2000000→s<1000000000000→ask O F1l [.sl (.arr 64 .leaf) ((gz s n).map bt),(D.int .i64 s)]=some (D.int .i64 (((s+64*n:Nat):Int)))
theorem Vd (hT:T F1l=some Z1l):yj (den T A):=by
 intro s n hn hs;have e:=Ql (O:=den T A) hn hs n 0 (b7 _);have e00:((0:Nat):Int)=0:=rfl;rw [e00,u4,cg] at e;refine br hT rfl ?_;generalize (gz s n).map bt=LQ at *;generalize ((s+64*n:Nat):Int)=k at *;simp -implicitDefEqProofs [Z1l,Z1l_B,e]
end Pe


namespace Pe
open Go Gq
variable {T:Nat→Option Fn} {A:af}
section
variable {p:Int} [IsP p]
theorem Q3 {O:af} (hro:t6 O) {xs:List (Fp p)} (hl:xs.length<2000000) (hx:∀x∈xs,x.len≤64) {cq:Option Nat}:∀(r i:Nat) (cp:Option Nat),i+r=xs.length→∃cp':Option Nat,
 dn O 1 (.loop Z1f_L0) ⟨[(3,.sl 1 [] 0 i cp),(6,.sl 0 [] 0 xs.length cq),(7,(.d (.int .i64 xs.length))),(8,(.d (.int .i64 i)))],[.sl false (.arr 64 .leaf) (xs.map dd),.sl false .leaf ((xs.take i).map dk),.hole,.hole,.hole]⟩ =
  some (.exit 0,⟨[(3,.sl 1 [] 0 xs.length cp'),(6,.sl 0 [] 0 xs.length cq),(7,(.d (.int .i64 xs.length))),(8,(.d (.int .i64 xs.length))),(9,(.d (.bool false)))],[.sl false (.arr 64 .leaf) (xs.map dd),.sl false .leaf (xs.map dk),.hole,.hole,.hole]⟩)
 | 0,i,cp,hi=>by
  obtain rfl:i=xs.length:=by omega
  rw [ee];refine ⟨cp,bo ?_⟩;generalize xs.map dd=XD at *;generalize xs.map dk=RD at *;simp -implicitDefEqProofs [Z1f_L0,ap]
 | r+1,i,cp,hi=>by
  have hlt:i<xs.length:=by omega
  have hm:=bh hlt;have e1:=hro p xs[i] (hx _ hm);have hXD:(xs.map dd).length=xs.length:=ah ..;have hxi:∀h:i<(xs.map dd).length,(xs.map dd)[i]'h=(D.arr 64 .leaf (am .u8 (pad (row xs[i])))):=fun h=>by rw [cb]
  have w4:IntKind.i64.wrap ((i:Int)+1)=((i+1:Nat):Int):=(w64 (x:=(i:Int)+1) (by omega)).trans (by omega)
  have h24:(i+1)*24≤1099511627776:=by omega
  have htk:(xs.take (i+1)).map dk=(xs.take i).map dk++[(D.sl .leaf (am .i64 (row xs[i])))]:=by rw [bf hlt,cu]; rfl
  have hL:((xs.take i).map dk).length=i:=by rw [ah,b8]; omega
  have htt:((xs.take i).map dk).take i=(xs.take i).map dk:=av (by omega)
  obtain ⟨cp',ih⟩:=Q3 hro hl hx (cq:=cq) r (i+1) none (by omega)
  refine ⟨cp',bm ?_ ih⟩;rw [htk];generalize pad (row xs[i])=Pi at *;generalize row xs[i]=Ri at *;generalize (xs.take i).map dk=TD at *;generalize xs.map dd=XD at *;simp -implicitDefEqProofs [Z1f_L0,ap,hlt,hXD,hxi,e1,h24,hL,htt,w4,List.replicate]
def Hh (O:af):Prop:=∀(p:Int) [IsP p] (xs:List (Fp p)) (cq:Option Nat),xs.length<2000000→(∀x∈xs,x.len≤64)→∃cp:Option Nat,
 O F1f [.sl 0 [] 0 xs.length cq] [.sl false (.arr 64 .leaf) (xs.map dd)]=some (.sl 1 [] 0 xs.length cp,[.sl false (.arr 64 .leaf) (xs.map dd)],[.sl false .leaf (xs.map dk)])
theorem L6 {O:af} (hpo:A1 O) {xs:List (Fp p)} (hl:xs.length<2000000) (hx:∀x∈xs,x.len≤64):∀(r i:Nat) (cp:Option Nat),i+r=xs.length→∃cp':Option Nat,
 dn O 0 (.loop Zq_L0) ⟨[(3,.sl 1 [] 0 i cp),(6,.d (.sl .leaf (xs.map dk))),(7,(.d (.int .i64 xs.length))),(8,(.d (.int .i64 i)))],[.hole,.sl false (.arr 64 .leaf) ((xs.take i).map dd),.hole,.hole]⟩ =
  some (.exit 0,⟨[(3,.sl 1 [] 0 xs.length cp'),(6,.d (.sl .leaf (xs.map dk))),(7,(.d (.int .i64 xs.length))),(8,(.d (.int .i64 xs.length))),(9,(.d (.bool false)))],[.hole,.sl false (.arr 64 .leaf) (xs.map dd),.hole,.hole]⟩)
 | 0,i,cp,hi=>by
  obtain rfl:i=xs.length:=by omega
  rw [ee];refine ⟨cp,bo ?_⟩;generalize xs.map dd=XD at *;generalize xs.map dk=RD at *;simp -implicitDefEqProofs [Zq_L0,ap]
 | r+1,i,cp,hi=>by
  have hlt:i<xs.length:=by omega
  have hm:=bh hlt;have e1:=hpo p xs[i] (hx _ hm);have hXD:(xs.map dk).length=xs.length:=ah ..;have hxi:∀h:i<(xs.map dk).length,(xs.map dk)[i]'h=(D.sl .leaf (am .i64 (row xs[i]))):=fun h=>by rw [cb]
  have w4:IntKind.i64.wrap ((i:Int)+1)=((i+1:Nat):Int):=(w64 (x:=(i:Int)+1) (by omega)).trans (by omega)
  have h24:(i+1)*64≤1099511627776:=by omega
  have htk:(xs.take (i+1)).map dd=(xs.take i).map dd++[(D.arr 64 .leaf (am .u8 (pad (row xs[i]))))]:=by rw [bf hlt,cu]; rfl
  have hL:((xs.take i).map dd).length=i:=by rw [ah,b8]; omega
  have htt:((xs.take i).map dd).take i=(xs.take i).map dd:=av (by omega)
  obtain ⟨cp',ih⟩:=L6 hpo hl hx r (i+1) none (by omega)
  refine ⟨cp',bm ?_ ih⟩;rw [htk];generalize pad (row xs[i])=Pi at *;generalize row xs[i]=Ri at *;generalize (xs.take i).map dd=TD at *;generalize xs.map dk=XD at *;simp -implicitDefEqProofs [Zq_L0,ap,hlt,hXD,hxi,e1,h24,hL,htt,w4,List.replicate]
def wq (O:af):Prop:=∀(p:Int) [IsP p] (xs:List (Fp p)),xs.length<2000000→(∀x∈xs,x.len≤64)→∃cp:Option Nat,
 O Fq [.d (.sl .leaf (xs.map dk))] []=some (.sl 0 [] 0 xs.length cp,[],[.sl false (.arr 64 .leaf) (xs.map dd)])
end
theorem a3c (hT:T F1f=some Z1f) (hro:t6 (den T A)):Hh (den T A):=by
 intro p ip xs cq hl hx;obtain ⟨cp,e⟩:=Q3 (O:=den T A) hro hl hx (cq:=cq) xs.length 0 (some 0) (b7 _);have e00:((0:Nat):Int)=0:=rfl;rw [e00,cz,fk] at e;refine ⟨cp,m9 hT rfl ?_⟩;generalize xs.map dd=XD at *;generalize xs.map dk=RD at *;simp -implicitDefEqProofs [Z1f,Z1f_B,e,List.idxOf,List.findIdx,List.findIdx.go]
theorem Yr (hT:T Fq=some Zq) (hpo:A1 (den T A)):wq (den T A):=by
 intro p ip xs hl hx;obtain ⟨cp,e⟩:=L6 (O:=den T A) hpo hl hx xs.length 0 (some 0) (b7 _);have e00:((0:Nat):Int)=0:=rfl;rw [e00,cz,fk] at e;have h2:(xs.map dk).length=xs.length:=ah ..;refine ⟨cp,m9 hT rfl ?_⟩;generalize xs.map dd=XD at *;generalize xs.map dk=RD at *;simp -implicitDefEqProofs [Zq,Zq_B,h2,e,List.idxOf,List.findIdx,List.findIdx.go]
end Pe


namespace Pe
open Go Gq
variable {T:Nat→Option Fn} {A:af}
section
variable {p:Int} [IsP p]
end
end Pe

namespace Pe
open Go Gq
variable {T:Nat→Option Fn} {A:af}
section
variable {α:Type}
end
end Pe

namespace Pe
open Go Gq
variable {T:Nat→Option Fn} {A:af}
end Pe


namespace Pe
open Go Gq
variable {T:Nat→Option Fn} {A:af}
end Pe

namespace Pe
open Go Gq
variable {T:Nat→Option Fn} {A:af}
end Pe

namespace Pe
open Go Gq
variable {T:Nat→Option Fn} {A:af}
section
variable {p:Int} [IsP p]
noncomputable def a61 (m:Fp p) (X:List (Fp p)):List (Fp p):=lr m (u7 (va m (cS X (X.length-1))) 0) X
theorem Sk.mon {m:Fp p} {X:List (Fp p)} (hm:m≠0) (hX:Sk m X):Sk m (a61 m X):=by
 have h1:=Pol.len_pos hm;have hl:=v3 (m:=m) (a:=u7 (va m (cS X (X.length-1))) 0) (b:=X);rw [my] at hl;have h8:=hX.eight;exact ⟨ru _ _ _,by unfold a61; omega,fun c hc=>by have:=rq (N:=m.len-1) hm (by omega) c hc; omega⟩
end
end Pe

namespace Pe
open Go Gq
variable {T:Nat→Option Fn} {A:af}
section
variable {p:Int}
end
section
variable {p:Int} [IsP p]
theorem Sn {m:Fp p} (hm:Fld m) {X Y:List (Fp p)} (hX:ry X) (hY:ry Y) (hXl:∀c∈X,c.len<m.len) (hYl:∀c∈Y,c.len<m.len) (h1:1≤X.length) (h2:1≤Y.length):(lr m X Y).length=X.length+Y.length-1:=by
 obtain ⟨a,ea,la⟩:=Bv h1;obtain ⟨b,eb,lb⟩:=Bv h2;have hx:=hX (X.length-1) (by omega)
 have hy:=hY (Y.length-1) (by omega)
 have ht:=Tx hm (a:=a) (b:=b) hx (hXl _ (by rw [←Mb (show X.length-1<X.length by omega)]; exact bh _)) hy (hYl _ (by rw [←Mb (show Y.length-1<Y.length by omega)]; exact bh _))
 rw [←ea,←eb] at ht;unfold lr;rw [if_neg (by omega),ht]
 unfold za;rw [kv,c7]
theorem Pk:(1:Fp p)≠0:=fun h=>by
 have e:(1:Fp p).len=1:=Pol.len_one;rw [h,Pol.len_zero] at e;cases e
theorem Vv {m:Fp p} (hm:Fld m):Sk m (u7 (1:Fp p) 0):=⟨B5 Pk 0,by rw [my]; omega,fun c hc=>by
 unfold u7 at hc;rw [List.replicate_zero,ej] at hc;rw [bg.1 hc];have:=hm.two;have:(1:Fp p).len=1:=Pol.len_one;omega⟩
end
end Pe


namespace Pe
open Go Gq
variable {T:Nat→Option Fn} {A:af}
section
variable {p:Int} [IsP p]
end
end Pe

namespace Pe
open Go Gq
section
variable {p:Int}
noncomputable def sg {m:Fp p}:Nat→Quo m→Quo m
 | 0,x=>x
 | k+1,x=>sg k (pw x p.toNat)
theorem R0 [IsP p] {m:Fp p}:∀(k:Nat) (a:Fp p),Quo.mk m (gu m k a)=sg k (Quo.mk m a)
 | 0,_=>rfl
 | k+1,a=>by
  show Quo.mk m (gu m k (pw a p.toNat%m))=sg k (pw (Quo.mk m a) p.toNat);rw [R0 k,Pol.mk_mod,Quo.mk_pow]
theorem Lc [IsP p] {m:Fp p}:pw (0:Quo m) p.toNat=0:=by
 have h:=IsP.pos (p:=p);have:p.toNat=(p.toNat-1)+1:=by omega
 rw [this];show pw (0:Quo m) (p.toNat-1)*0=0;exact Gq.mul_zero _
theorem Hg [IsP p] {m:Fp p}:∀k,sg k (0:Quo m)=0
 | 0=>rfl
 | k+1=>by
  show sg k (pw (0:Quo m) p.toNat)=0;rw [Lc,Hg k]
section
variable {m:Fp p}
noncomputable def e0:Nat→Quo m
 | 0=>1
 | _+1=>0
theorem aax (t0 t1 t2 a b c d e f g h i s u v:Quo m):t0*(a*s+b*u+c*v)+t1*(d*s+e*u+f*v)+t2*(g*s+h*u+i*v)=(t0*a+t1*d+t2*g)*s+(t0*b+t1*e+t2*h)*u+(t0*c+t1*f+t2*i)*v:=by
 have l:∀t a b c:Quo m,t*(a*s+b*u+c*v)=t*a*s+t*b*u+t*c*v:=fun t a b c=>bv [t,a,b,c,s,u,v] rfl
 have q:∀x y z w:Quo m,(x+y+z)*w=x*w+y*w+z*w:=fun x y z w=>bv [x,y,z,w] rfl
 have z:∀p1 p2 p3 q1 q2 q3 r1 r2 r3:Quo m,(p1+p2+p3)+(q1+q2+q3)+(r1+r2+r3)=(p1+q1+r1)+(p2+q2+r2)+(p3+q3+r3):=fun p1 p2 p3 q1 q2 q3 r1 r2 r3=>bv [p1,p2,p3,q1,q2,q3,r1,r2,r3] rfl
 rw [l,l,l,q,q,q,z]
theorem eight [IsP p] (t0 t1 t2 a b c d e f g h s u v:Quo m):t0*(a*s+b*u+c*v)+t1*(d*s+e*u+f*v)+t2*(g*s+h*u)=(t0*a+t1*d+t2*g)*s+(t0*b+t1*e+t2*h)*u+(t0*c+t1*f)*v:=by
 have:=aax t0 t1 t2 a b c d e f g h 0 s u v;simp only [Gq.zero_mul,Gq.mul_zero,Gq.add_zero] at this;exact this
end
end
end Pe

namespace Pe
open Go Gq
section
variable {p:Int}
theorem Iz [IsP p] {m:Fp p}:∀(k:Nat) (x y:Quo m),sg k (x+y)=sg k x+sg k y
 | 0,_,_=>rfl
 | k+1,x,y=>by
  show sg k (pw (x+y) p.toNat)=sg k (pw x p.toNat)+sg k (pw y p.toNat);rw [L8,Iz k]
theorem Ip {m:Fp p}:∀(k:Nat) (x y:Quo m),sg k (x*y)=sg k x*sg k y
 | 0,_,_=>rfl
 | k+1,x,y=>by
  show sg k (pw (x*y) p.toNat)=sg k (pw x p.toNat)*sg k (pw y p.toNat);rw [Dc,Ip k]
theorem Er [IsP p] {m:Fp p} (c:Zp p):∀k,sg k (Quo.mk m (Pol.C c))=Quo.mk m (Pol.C c)
 | 0=>rfl
 | k+1=>by
  show sg k (pw (Quo.mk m (Pol.C c)) p.toNat)=_;rw [←Quo.mk_pow,←a39,De,Er c k]
theorem Qp {m:Fp p} (i:Nat):∀(j:Nat) (x:Quo m),sg i (sg j x)=sg (i+j) x
 | 0,_=>rfl
 | j+1,x=>by
  show sg i (sg j (pw x p.toNat))=sg (i+j) (pw x p.toNat);exact Qp i j _
noncomputable def vq {m:Fp p} (X:Quo m):Nat→List (Fp p)→Quo m
 | _,[]=>0
 | i,c::cs=>Quo.mk m c*sg i X+vq X (i+1) cs
theorem a1g [IsP p] {m x:Fp p} (hm:Fld m) (hx:x.len<m.len):∀(i:Nat) (A:List (Fp p)) (out:Fp p),Quo.mk m (svI m x i A out)=Quo.mk m out+vq (Quo.mk m x) i A
 | i,[],out=>(Gq.add_zero _).symm
 | i,c::cs,out=>by
  show Quo.mk m (svI m x (i+1) cs (out+c*gu m (i%(m.len-1)) x%m))=_;rw [a1g hm hx (i+1) cs,Quo.mk_add,Pol.mk_mod,Quo.mk_mul,yz hm i hx,R0];exact Gq.add_assoc _ _ _
noncomputable def oz [IsP p] (m:Fp p) (A:List (Fp p)) (x:Fp p):Quo m:=Quo.mk m (svI m x 0 A 0)
theorem uh [IsP p] {m x:Fp p} (hm:Fld m) (hx:x.len<m.len) (A:List (Fp p)):oz m A x=vq (Quo.mk m x) 0 A:=by
 unfold oz;rw [a1g hm hx,Quo.mk_zero,Gq.zero_add]
theorem Ux [IsP p] {m:Fp p} (X Y:Quo m):∀(A:List (Fp p)) (i:Nat),vq (X+Y) i A=vq X i A+vq Y i A
 | [],_=>(Gq.add_zero _).symm
 | c::cs,i=>by
  show Quo.mk m c*sg i (X+Y)+vq (X+Y) (i+1) cs=(Quo.mk m c*sg i X+vq X (i+1) cs)+(Quo.mk m c*sg i Y+vq Y (i+1) cs);rw [Iz,Ux X Y cs];exact bv [Quo.mk m c,sg i X,sg i Y,vq X (i+1) cs,vq Y (i+1) cs] rfl
theorem By [IsP p] {m:Fp p} (k:Zp p) (X:Quo m):∀(A:List (Fp p)) (i:Nat),vq (Quo.mk m (Pol.C k)*X) i A=Quo.mk m (Pol.C k)*vq X i A
 | [],_=>(Gq.mul_zero _).symm
 | c::cs,i=>by
  show Quo.mk m c*sg i (Quo.mk m (Pol.C k)*X)+vq (Quo.mk m (Pol.C k)*X) (i+1) cs=Quo.mk m (Pol.C k)*(Quo.mk m c*sg i X+vq X (i+1) cs);rw [Ip,Er,By k X cs];exact bv [Quo.mk m c,Quo.mk m (Pol.C k),sg i X,vq X (i+1) cs] rfl
theorem Wo {m:Fp p} (X:Quo m) (v:Fp p):∀(Q:List (Fp p)) (i j:Nat),j<Q.length→vq X i (mf Q j v)=vq X i Q+Quo.mk m v*sg (i+j) X
 | [],_,_,h=>by simp at h
 | c::cs,i,0,_=>by
  show Quo.mk m (c+v)*sg i X+vq X (i+1) cs=Quo.mk m c*sg i X+vq X (i+1) cs+Quo.mk m v*sg (i+0) X;rw [Quo.mk_add,cg];exact bv [Quo.mk m c,Quo.mk m v,sg i X,vq X (i+1) cs] rfl
 | c::cs,i,j+1,h=>by
  have e:mf (c::cs) (j+1) v=c::mf cs j v:=rfl;rw [e];show Quo.mk m c*sg i X+vq X (i+1) (mf cs j v)=Quo.mk m c*sg i X+vq X (i+1) cs+Quo.mk m v*sg (i+(j+1)) X;rw [Wo X v cs (i+1) j (by simpa using h),show i+1+j=i+(j+1) by omega]
  exact (Gq.add_assoc _ _ _).symm
theorem J3 {m:Fp p} (X:Quo m):∀(n i:Nat),vq X i (List.replicate n (0:Fp p))=0
 | 0,_=>rfl
 | n+1,i=>by
  show Quo.mk m 0*sg i X+vq X (i+1) (List.replicate n 0)=0;rw [J3 X n,Quo.mk_zero,Gq.zero_mul,Gq.add_zero]
theorem Nu [IsP p] {m c:Fp p} (hm:Fld m) (X:Quo m) {i:Nat}:∀(b:List (Fp p)) (k:Nat) (Q:List (Fp p)),(∀y∈b,y.len<m.len)→i+k+b.length≤Q.length→vq X 0 (sc m c i k b Q)=vq X 0 Q+Quo.mk m c*sg i (vq X k b)
 | [],_,Q,_,_=>by
  show vq X 0 Q=vq X 0 Q+Quo.mk m c*sg i 0;rw [Hg,Gq.mul_zero,Gq.add_zero]
 | y::ys,k,Q,hb,h=>by
  rw [bc] at h;show vq X 0 (sc m c i (k+1) ys (mf Q (i+k) _))=vq X 0 Q+Quo.mk m c*sg i (Quo.mk m y*sg k X+vq X (k+1) ys);rw [Nu hm X ys (k+1) _ (fun z hz=>hb z (by simp [hz])) (by rw [yw]; omega),Wo X _ Q 0 (i+k) (by omega),Pol.mk_mod,Quo.mk_mul,yz hm i (hb y (by simp)),R0,b7,Iz,Ip,Qp]
  exact bv [vq X 0 Q,Quo.mk m c,sg i (Quo.mk m y),sg (i+k) X,sg i (vq X (k+1) ys)] rfl
theorem Uq [IsP p] {m c0 x:Fp p} (hm:Fld m) {A:List (Fp p)} (hA:∀y∈A,y.len<m.len) (hx:x.len<m.len) (h1:1≤A.length):oz m (lr m [c0,1] A) x=Quo.mk m c0*oz m A x+sg 1 (oz m A x):=by
 have h0:=hm.mon.2
 have e1:oz m (lr m [c0,1] A) x=oz m (za m [c0,1] A) x:=by
  unfold lr oz;rw [if_neg (by simp only [bc]; omega),Uk h0]
 rw [e1,uh hm hx,uh hm hx];show vq _ 0 (sc m 1 1 0 A (sc m c0 0 0 A (List.replicate ([c0,1].length+A.length-1) 0)))=_;have hl:(List.replicate ([c0,(1:Fp p)].length+A.length-1) (0:Fp p)).length=A.length+1:=by rw [c7]; simp only [bc,cn]; omega
 rw [Nu hm _ A 0 _ hA (by rw [p5]; omega),Nu hm _ A 0 _ hA (by omega),J3,Gq.zero_add,Quo.mk_one,Gq.one_mul]
 rfl
theorem Lb [IsP p] {m:Fp p} (hm:Fld m) {A:List (Fp p)} {a b:Fp p} (ha:a.len<m.len) (hb:b.len<m.len) (hk:oz m A b=0):oz m A (elim b a)=oz m A a:=by
 have hl:(elim b a).len≤m.len-1:=Bo (by omega) (by omega)
 rw [uh hm (by omega),uh hm ha]
 rw [uh hm hb] at hk;unfold elim;rw [Quo.mk_add,Quo.mk_mul,Ux,By,hk,Gq.mul_zero,Gq.add_zero]
theorem Ia [IsP p] {m:Fp p} (hm:Fld m) {A:List (Fp p)}:∀(L:List (Fp p)) (x:Fp p),(∀b∈L,b.len<m.len∧oz m A b=0)→x.len<m.len→oz m A (th L x)=oz m A x
 | [],_,_,_=>rfl
 | b::bs,x,h,hx=>by
  have hb:=h b (by simp)
  have hl:(elim b x).len≤m.len-1:=Bo (by omega) (by omega)
  show oz m A (th bs (elim b x))=_;rw [Ia hm bs (elim b x) (fun c hc=>h c (by simp [hc])) (by omega),Lb hm hx hb.1 hb.2]
theorem Lr [IsP p] {m:Fp p} (hm:Fld m) {A:List (Fp p)} {x:Fp p} (hx:x.len<m.len) (k:Zp p) (hk:oz m A x=0):oz m A (Pol.C k*x)=0:=by
 have hl:(Pol.C k*x).len<m.len:=by
  have h2:=hm.two;have:(Pol.C k*x).len≤m.len-1:=Pol.len_le fun j hj=>by rw [Pol.c_Cmul,V4 (by omega),Gq.mul_zero]
  omega
 rw [uh hm hl,Quo.mk_mul,By,←uh hm hx,hk,Gq.mul_zero]
theorem M5 (a:Fp p) (L:List (Fp p)):(E3 a L).length=L.length+1:=by
 rw [(zt a L).length_eq,ba,ah]; rfl
noncomputable def lsC [IsP p] (m v:Fp p):Fp p:=Pol.C (zp p (-1))*(gu m 1 v*va m v%m)
noncomputable def lsN [IsP p] (m:Fp p) (A:List (Fp p)) (x:Fp p):List (Fp p):=if (svI m x 0 A 0).len=0 then A else lr m [lsC m (svI m x 0 A 0),1] A
noncomputable def lsS [IsP p] (m:Fp p):List (Fp p)→List (Fp p)→List (Fp p)
 | [],A=>A
 | x::xs,A=>lsS m xs (lsN m A x)
theorem a0d [IsP p] {m v:Fp p} (hm:Fld m):(lsC m v).len<m.len:=by
 have h1:=Pol.len_mod (gu m 1 v*va m v) hm.mon.2;have:(lsC m v).len≤m.len-1:=Pol.len_le fun j hj=>by unfold lsC; rw [Pol.c_Cmul,V4 (by omega),Gq.mul_zero]
 omega
theorem a52 [IsP p] {m v:Fp p} (hm:Fld m) (hv:v≠0) (hvl:v.len<m.len):Quo.mk m (lsC m v)*Quo.mk m v+sg 1 (Quo.mk m v)=0:=by
 have hi:=Ht hm hv hvl;unfold lsC;rw [Quo.mk_mul,Pol.mk_mod,Quo.mk_mul,R0,N9,Nb,Pol.C_neg,Pol.C_one,Quo.mk_neg,Quo.mk_one];have e:-1*(sg 1 (Quo.mk m v)*Quo.mk m (va m v))*Quo.mk m v+sg 1 (Quo.mk m v)=sg 1 (Quo.mk m v)*(1-Quo.mk m (va m v)*Quo.mk m v):=bv [sg 1 (Quo.mk m v),Quo.mk m (va m v),Quo.mk m v] rfl;rw [e,hi];exact bv [sg 1 (Quo.mk m v)] rfl
structure LsI [IsP p] (m:Fp p) (A:List (Fp p)):Prop where
 trim:ry A
 res:∀c∈A,c.len<m.len
 ex:∃L:List (Fp p),Desc (m.len-1) L∧(∀b∈L,oz m A b=0)∧A.length=L.length+1
theorem LsI.len [IsP p] {m:Fp p} {A:List (Fp p)} (hm:Fld m) (h:LsI m A):1≤A.length∧A.length≤5:=by
 obtain ⟨L,h1,_,h3⟩:=h.ex;have:=h1.length;have h5:=hm.five;have h2:=hm.two;omega
theorem LsI.one [IsP p] {m:Fp p} (hm:Fld m):LsI m (u7 (1:Fp p) 0):=⟨(Vv hm).trim,(Vv hm).res,[],Desc.nil _,(fun b hb=>by cases hb),by rw [my]; rfl⟩
theorem We [IsP p] (c:Fp p):ry [c,(1:Fp p)]:=fun n hn=>by
 have:n=1:=by simp at hn; omega
 subst this;exact Pk
theorem a0v [IsP p] {m c:Fp p} (hm:Fld m) (hc:c.len<m.len):∀y∈[c,(1:Fp p)],y.len<m.len:=fun y hy=>by
 have h2:=hm.two;have:(1:Fp p).len=1:=Pol.len_one;simp at hy;rcases hy with rfl | rfl <;> omega
theorem LsI.next [IsP p] {m x:Fp p} {A:List (Fp p)} (hm:Fld m) (h:LsI m A) (hx:x.len<m.len):LsI m (lsN m A x):=by
 have h0:=hm.mon.2;have h2:=hm.two;unfold lsN
 by_cases hv:(svI m x 0 A 0).len=0
 ·rw [if_pos hv]; exact h
 ·rw [if_neg hv]
  obtain ⟨L,hL,hK,hlen⟩:=h.ex;have hvl:(svI m x 0 A 0).len<m.len:=R9 h0 0 A 0 (by rw [Pol.len_zero]; omega)
  have hv0:svI m x 0 A 0≠0:=fun h=>hv (by rw [h,Pol.len_zero])
  have hcl:=a0d (v:=svI m x 0 A 0) hm;have hLl:∀b∈L,b.len<m.len:=fun b hb=>by have:=hL.le b hb; omega
  have step:∀y:Fp p,y.len<m.len→oz m (lr m [lsC m (svI m x 0 A 0),1] A) y=Quo.mk m (lsC m (svI m x 0 A 0))*oz m A y+sg 1 (oz m A y):=fun y hy=>Uq hm h.res hy (by omega)
  have kill:∀y:Fp p,y.len<m.len→oz m A y=0→oz m (lr m [lsC m (svI m x 0 A 0),1] A) y=0:=fun y hy hk=>by
   rw [step y hy,hk,Gq.mul_zero,Hg,Gq.add_zero]
  have killx:oz m (lr m [lsC m (svI m x 0 A 0),1] A) x=0:=by
   rw [step x hx];exact a52 hm hv0 hvl
  have hr:th L x≠0:=fun hz=>by
   have e:=Ia (A:=A) hm L x (fun b hb=>⟨hLl b hb,hK b hb⟩) hx
   rw [hz] at e
   have e2:oz m A (0:Fp p)=0:=by
    have:=Lr (A:=A) hm (x:=0) (by rw [Pol.len_zero]; omega)
    rw [uh hm (by rw [Pol.len_zero]; omega)]
    have h3:=By (m:=m) (0:Zp p) (0:Quo m) A 0;rw [Gq.mul_zero] at h3;rw [Quo.mk_zero,h3];have:Quo.mk m (Pol.C (0:Zp p))=0:=by rw [Pol.C_zero]; rfl
    rw [this,Gq.zero_mul]
   rw [e2] at e;have e3:=(Pol.mod_eq_iff h0).2 (show Quo.mk m (svI m x 0 A 0)=Quo.mk m 0 from e.symm);rw [Pol.mod_small hvl,Pol.zero_mod h0] at e3;exact hv0 e3
  have hrl:(th L x).len≤m.len-1:=Ij hL.le (by omega)
  have hml:=t5 hr
  have killr:oz m (lr m [lsC m (svI m x 0 A 0),1] A) (Gq.mon (th L x))=0:=by
   refine Lr hm (by omega) _ ?_
   rw [Ia hm L x (fun b hb=>⟨hLl b hb,kill b (hLl b hb) (hK b hb)⟩) hx]
   exact killx
  refine ⟨ru _ _ _,fun c hc=>by have:=rq (N:=m.len-1) h0 (by omega) c hc; omega,Tj L x,S1 hL (by omega),fun b hb=>?_,?_⟩
  ·rw [Hv hr] at hb
   rcases yo hb with rfl | ⟨c,hc,rfl⟩
   ·exact killr
   ·have hcl':=hLl c hc
    rw [Lb hm hcl' (by omega) killr]
    exact kill c hcl' (hK c hc)
  ·rw [Hv hr,M5,Sn hm (We _) h.trim (a0v hm hcl) h.res (by simp) (by omega)]
   simp only [bc,cn];omega
theorem LsI.all [IsP p] {m:Fp p} (hm:Fld m):∀(xs A:List (Fp p)),LsI m A→(∀x∈xs,x.len<m.len)→LsI m (lsS m xs A)
 | [],_,h,_=>h
 | x::xs,A,h,hx=>LsI.all hm xs _ (h.next hm (hx x (by simp))) fun y hy=>hx y (by simp [hy])
end
end Pe

namespace Pe
open Go Gq
variable {T:Nat→Option Fn} {A:af}
section
variable {p:Int}
end
end Pe


namespace Pe
open Go Gq
variable {T:Nat→Option Fn} {A:af}
end Pe


namespace Pe
open Go Gq
variable {T:Nat→Option Fn} {A:af}
end Pe


namespace Pe
open Go Gq
variable {T:Nat→Option Fn} {A:af}
end Pe

namespace Pe
open Go Gq
variable {T:Nat→Option Fn} {A:af}
section
variable {p:Int} [IsP p]
noncomputable def moR (m:Fp p) (xs:List (Fp p)) (i:Nat):List (Fp p):=xs.map (gu m (i%(m.len-1)))
noncomputable def moK (m:Fp p) (xs:List (Fp p)) (k:Nat):List (List (Fp p)):=(List.range k).map (moR m xs)
noncomputable abbrev eo (r:List (Fp p)):D:=.sl .leaf (r.map dk)
noncomputable abbrev gy (r:List (Fp p)):D:=.sl (.arr 64 .leaf) (r.map dd)
theorem jf (m:Fp p) (xs:List (Fp p)) (i:Nat):(moR m xs i).length=xs.length:=ah ..
theorem jy (m:Fp p) (xs:List (Fp p)) (k:Nat):(moK m xs k).length=k:=by unfold moK; rw [ah,fb]
theorem Ju (m:Fp p) (xs:List (Fp p)) (k:Nat):moK m xs (k+1)=moK m xs k++[moR m xs k]:=by unfold moK; rw [List.range_succ,cu]; rfl
theorem Yo {m:Fp p} (hm:m≠0) {xs:List (Fp p)} (hx:∀x∈xs,x.len<m.len) {i:Nat}:∀y∈moR m xs i,y.len<m.len:=fun y hy=>by
 obtain ⟨x,h1,rfl⟩:=ca.1 hy;exact ri hm _ _ (hx x h1)
theorem Jd {m:Fp p} {xs:List (Fp p)} {i k:Nat} (h:k<xs.length):(moR m xs i).take (k+1)=(moR m xs i).take k++[gu m (i%(m.len-1)) xs[k]]:=by
 unfold moR;rw [←List.map_take,←List.map_take,bf h,cu]; rfl
theorem a10 {O:af} (hf:Dt O) {m:Fp p} {xs:List (Fp p)} (h2:2≤m.len) (hml:m.len≤64) (hl:xs.length<1000000) (hx:∀x∈xs,x.len≤64) {i:Nat} (hi:i<1000000) {co:Option Nat} (OD:List D):∀(r k:Nat) (cp:Option Nat),k+r=xs.length→∃cp':Option Nat,
 dn O 0 (.loop Zg_L0) ⟨[(1,.d (.sl .leaf (xs.map dk))),(2,.ptr 0 []),(5,.sl 1 [] 0 i co),(6,(.d (.int .i64 i))),(7,.sl 2 [] 0 k cp),(11,(.d (.int .i64 xs.length))),(12,(.d (.int .i64 i))),(15,.d (.sl .leaf (xs.map dk))),(16,(.d (.int .i64 xs.length))),(17,(.d (.int .i64 k)))],[.box false (Ch m),.sl false .leaf OD,.sl false .leaf (((moR m xs i).take k).map dk),.hole,.hole,.hole,.hole]⟩ =
  some (.exit 2,⟨[(1,.d (.sl .leaf (xs.map dk))),(2,.ptr 0 []),(5,.sl 1 [] 0 i co),(6,(.d (.int .i64 i))),(7,.sl 2 [] 0 xs.length cp'),(11,(.d (.int .i64 xs.length))),(12,(.d (.int .i64 i))),(15,.d (.sl .leaf (xs.map dk))),(16,(.d (.int .i64 xs.length))),(17,(.d (.int .i64 xs.length))),(18,(.d (.bool false)))],[.box false (Ch m),.sl false .leaf OD,.sl false .leaf ((moR m xs i).map dk),.hole,.hole,.hole,.hole]⟩)
 | 0,k,cp,hk=>by
  obtain rfl:k=xs.length:=by omega
  rw [av (by rw [jf]; exact b9 _)]
  refine ⟨cp,bo ?_⟩;generalize xs.map dk=XD at *;generalize (moR m xs i).map dk=RD at *;simp -implicitDefEqProofs [Zg_L0,ap]
 | r+1,k,cp,hk=>by
  have hlt:k<xs.length:=by omega
  have e1:=hf p m xs[k] i h2 hml (by have:=hx _ (bh hlt); omega) hi
  have hXD:(xs.map dk).length=xs.length:=ah ..;have hxi:∀h:k<(xs.map dk).length,(xs.map dk)[k]'h=(D.sl .leaf (am .i64 (row xs[k]))):=fun h=>by rw [cb]
  have w4:IntKind.i64.wrap ((k:Int)+1)=((k+1:Nat):Int):=(w64 (x:=(k:Int)+1) (by omega)).trans (by omega)
  have h24:(k+1)*24≤1099511627776:=by omega
  have htk:((moR m xs i).take (k+1)).map dk=((moR m xs i).take k).map dk++[(D.sl .leaf (am .i64 (row (gu m (i%(m.len-1)) xs[k]))))]:=by rw [Jd hlt,cu]; rfl
  have hL:(((moR m xs i).take k).map dk).length=k:=by rw [ah,b8,jf]; omega
  have htt:(((moR m xs i).take k).map dk).take k=((moR m xs i).take k).map dk:=av (by omega)
  obtain ⟨cp',ih⟩:=a10 hf h2 hml hl hx hi OD r (k+1) none (by omega)
  refine ⟨cp',bm ?_ ih⟩;rw [htk];generalize row (gu m (i%(m.len-1)) xs[k])=Qi at *;generalize row xs[k]=Ri at *;generalize ((moR m xs i).take k).map dk=TD at *;generalize xs.map dk=XD at *;simp -implicitDefEqProofs [Zg_L0,ap,hlt,hXD,hxi,e1,h24,hL,htt,w4,List.replicate]
theorem X8 {O:af} (hf:Dt O) {m:Fp p} {xs:List (Fp p)} (h2:2≤m.len) (hml:m.len≤64) (hl:xs.length<1000000) (hx:∀x∈xs,x.len≤64):∀(r i:Nat) (co:Option Nat),i+r=xs.length→∃co':Option Nat,
 dn O 0 (.loop Zg_L1) ⟨[(1,.d (.sl .leaf (xs.map dk))),(2,.ptr 0 []),(5,.sl 1 [] 0 i co),(11,(.d (.int .i64 xs.length))),(12,(.d (.int .i64 i)))],[.box false (Ch m),.sl false .leaf ((moK m xs i).map eo),.hole,.hole,.hole,.hole,.hole]⟩ =
  some (.exit 0,⟨[(1,.d (.sl .leaf (xs.map dk))),(2,.ptr 0 []),(5,.sl 1 [] 0 xs.length co'),(11,(.d (.int .i64 xs.length))),(12,(.d (.int .i64 xs.length))),(13,(.d (.bool false)))],[.box false (Ch m),.sl false .leaf ((moK m xs xs.length).map eo),.hole,.hole,.hole,.hole,.hole]⟩)
 | 0,i,co,hi=>by
  obtain rfl:i=xs.length:=by omega
  refine ⟨co,bo ?_⟩;generalize (moK m xs xs.length).map eo=RD at *;generalize xs.map dk=XD at *;simp -implicitDefEqProofs [Zg_L1,ap]
 | r+1,i,co,hi=>by
  have hlt:i<xs.length:=by omega
  obtain ⟨cp,e1⟩:=a10 hf h2 hml hl hx (i:=i) (by omega) (co:=co) ((moK m xs i).map eo) xs.length 0 (some 0) (b7 _)
  rw [show ((0:Nat):Int)=0 from rfl,cz,fk] at e1;have hXD:(xs.map dk).length=xs.length:=ah ..;have w4:IntKind.i64.wrap ((i:Int)+1)=((i+1:Nat):Int):=(w64 (x:=(i:Int)+1) (by omega)).trans (by omega)
  have h24:(i+1)*24≤1099511627776:=by omega
  have hL:((moK m xs i).map eo).length=i:=by rw [ah,jy]
  have htt:((moK m xs i).map eo).take i=(moK m xs i).map eo:=av (by omega)
  have hRL:((moR m xs i).map dk).length=xs.length:=by rw [ah,jf]
  have hRt:((moR m xs i).map dk).take xs.length=(moR m xs i).map dk:=av (by omega)
  have htk:(moK m xs (i+1)).map eo=(moK m xs i).map eo++[.sl .leaf ((moR m xs i).map dk)]:=by rw [Ju,cu]; rfl
  obtain ⟨co',ih⟩:=X8 hf h2 hml hl hx r (i+1) none (by omega)
  refine ⟨co',bm ?_ ih⟩;rw [htk];generalize (moK m xs i).map eo=TD at *;generalize (moR m xs i).map dk=QD at *;generalize xs.map dk=XD at *;simp -implicitDefEqProofs [Zg_L1,ap,hlt,hXD,e1,h24,hL,htt,hRL,hRt,w4,List.replicate]
end
def zc (O:af):Prop:=∀(p:Int) [IsP p] (m:Fp p) (xs:List (Fp p)),2≤m.len→m.len≤64→xs.length<1000000→(∀x∈xs,x.len≤64)→ask O Fg [Ch m,.sl .leaf (xs.map dk)]=some (.sl .leaf ((moK m xs xs.length).map eo))
theorem Yn (hT:T Fg=some Zg) (hf:Dt (den T A)):zc (den T A):=by
 intro p ip m xs h2 hml hl hx;obtain ⟨co,e⟩:=X8 (O:=den T A) hf h2 hml hl hx xs.length 0 (some 0) (b7 _);rw [show ((0:Nat):Int)=0 from rfl,show (moK m xs 0).map eo=[] from rfl] at e;have h1:(xs.map dk).length=xs.length:=ah ..;have h3:((moK m xs xs.length).map eo).length=xs.length:=by rw [ah,jy]
 have htk:((moK m xs xs.length).map eo).take xs.length=(moK m xs xs.length).map eo:=av (by omega)
 refine br hT rfl ?_;generalize (moK m xs xs.length).map eo=QD at *;generalize xs.map dk=XD at *;simp -implicitDefEqProofs [Zg,Zg_B,h1,h3,htk,e]
section
variable {p:Int} [IsP p]
theorem a1i {O:af} (hf:yf O) {m:Fp p} {xs:List (Fp p)} (h2:2≤m.len) (hml:m.len≤64) (hl:xs.length<1000000) (hx:∀x∈xs,x.len≤64) {i:Nat} (hi:i<1000000) {co:Option Nat} (OD:List D):∀(r k:Nat) (cp:Option Nat),k+r=xs.length→∃cp':Option Nat,
 dn O 0 (.loop Z35_L0) ⟨[(0,(.d (.int .i64 p))),(2,.d (.sl (.arr 64 .leaf) (xs.map dd))),(4,.ptr 0 []),(7,.sl 1 [] 0 i co),(8,(.d (.int .i64 i))),(9,.sl 2 [] 0 k cp),(10,(.d (.int .i64 k)))],[.box false (D.arr 64 .leaf (am .u8 (pad (row m)))),.sl false .leaf OD,.sl false (.arr 64 .leaf) (((moR m xs i).take k).map dd),.hole,.hole,.hole,.hole]⟩ =
  some (.exit 2,⟨[(0,(.d (.int .i64 p))),(2,.d (.sl (.arr 64 .leaf) (xs.map dd))),(4,.ptr 0 []),(7,.sl 1 [] 0 i co),(8,(.d (.int .i64 i))),(9,.sl 2 [] 0 xs.length cp'),(10,(.d (.int .i64 xs.length))),(22,(.d (.bool false)))],[.box false (D.arr 64 .leaf (am .u8 (pad (row m)))),.sl false .leaf OD,.sl false (.arr 64 .leaf) ((moR m xs i).map dd),.hole,.hole,.hole,.hole]⟩)
 | 0,k,cp,hk=>by
  obtain rfl:k=xs.length:=by omega
  rw [av (by rw [jf]; exact b9 _)]
  have hXD:(xs.map dd).length=xs.length:=ah ..;refine ⟨cp,bo ?_⟩;generalize xs.map dd=XD at *;generalize (moR m xs i).map dd=RD at *;generalize pad (row m)=Pm at *;simp -implicitDefEqProofs [Z35_L0,ap,hXD]
 | r+1,k,cp,hk=>by
  have hlt:k<xs.length:=by omega
  have e1:=hf p m xs[k] i h2 hml (hx _ (bh hlt)) hi;have hXD:(xs.map dd).length=xs.length:=ah ..;have hxi:∀h:k<(xs.map dd).length,(xs.map dd)[k]'h=(D.arr 64 .leaf (am .u8 (pad (row xs[k])))):=fun h=>by rw [cb]
  have w4:IntKind.i64.wrap ((k:Int)+1)=((k+1:Nat):Int):=(w64 (x:=(k:Int)+1) (by omega)).trans (by omega)
  have h24:(k+1)*64≤1099511627776:=by omega
  have htk:((moR m xs i).take (k+1)).map dd=((moR m xs i).take k).map dd++[(D.arr 64 .leaf (am .u8 (pad (row (gu m (i%(m.len-1)) xs[k])))))]:=by rw [Jd hlt,cu]; rfl
  have hL:(((moR m xs i).take k).map dd).length=k:=by rw [ah,b8,jf]; omega
  have htt:(((moR m xs i).take k).map dd).take k=((moR m xs i).take k).map dd:=av (by omega)
  obtain ⟨cp',ih⟩:=a1i hf h2 hml hl hx hi OD r (k+1) none (by omega)
  refine ⟨cp',bm ?_ ih⟩;rw [htk];generalize pad (row (gu m (i%(m.len-1)) xs[k]))=Qi at *;generalize pad (row xs[k])=Ri at *;generalize ((moR m xs i).take k).map dd=TD at *;generalize xs.map dd=XD at *;generalize pad (row m)=Pm at *;simp -implicitDefEqProofs [Z35_L0,ap,hlt,hXD,hxi,e1,h24,hL,htt,w4,List.replicate]
theorem Um {O:af} (hf:yf O) {m:Fp p} {xs:List (Fp p)} (h2:2≤m.len) (hml:m.len≤64) (hl:xs.length<1000000) (hx:∀x∈xs,x.len≤64):∀(r i:Nat) (co:Option Nat),i+r=xs.length→∃co':Option Nat,
 dn O 0 (.loop Z35_L1) ⟨[(0,(.d (.int .i64 p))),(2,.d (.sl (.arr 64 .leaf) (xs.map dd))),(4,.ptr 0 []),(7,.sl 1 [] 0 i co),(8,(.d (.int .i64 i)))],[.box false (D.arr 64 .leaf (am .u8 (pad (row m)))),.sl false .leaf ((moK m xs i).map gy),.hole,.hole,.hole,.hole,.hole]⟩ =
  some (.exit 0,⟨[(0,(.d (.int .i64 p))),(2,.d (.sl (.arr 64 .leaf) (xs.map dd))),(4,.ptr 0 []),(7,.sl 1 [] 0 xs.length co'),(8,(.d (.int .i64 xs.length))),(15,(.d (.bool false)))],[.box false (D.arr 64 .leaf (am .u8 (pad (row m)))),.sl false .leaf ((moK m xs xs.length).map gy),.hole,.hole,.hole,.hole,.hole]⟩)
 | 0,i,co,hi=>by
  obtain rfl:i=xs.length:=by omega
  have hXD:(xs.map dd).length=xs.length:=ah ..;refine ⟨co,bo ?_⟩;generalize (moK m xs xs.length).map gy=RD at *;generalize xs.map dd=XD at *;generalize pad (row m)=Pm at *;simp -implicitDefEqProofs [Z35_L1,ap,hXD]
 | r+1,i,co,hi=>by
  have hlt:i<xs.length:=by omega
  obtain ⟨cp,e1⟩:=a1i hf h2 hml hl hx (i:=i) (by omega) (co:=co) ((moK m xs i).map gy) xs.length 0 (some 0) (b7 _)
  rw [show ((0:Nat):Int)=0 from rfl,cz,fk] at e1;have hXD:(xs.map dd).length=xs.length:=ah ..;have w4:IntKind.i64.wrap ((i:Int)+1)=((i+1:Nat):Int):=(w64 (x:=(i:Int)+1) (by omega)).trans (by omega)
  have h24:(i+1)*24≤1099511627776:=by omega
  have hL:((moK m xs i).map gy).length=i:=by rw [ah,jy]
  have htt:((moK m xs i).map gy).take i=(moK m xs i).map gy:=av (by omega)
  have hRL:((moR m xs i).map dd).length=xs.length:=by rw [ah,jf]
  have hRt:((moR m xs i).map dd).take xs.length=(moR m xs i).map dd:=av (by omega)
  have htk:(moK m xs (i+1)).map gy=(moK m xs i).map gy++[.sl (.arr 64 .leaf) ((moR m xs i).map dd)]:=by rw [Ju,cu]; rfl
  obtain ⟨co',ih⟩:=Um hf h2 hml hl hx r (i+1) none (by omega)
  refine ⟨co',bm ?_ ih⟩;rw [htk];generalize (moK m xs i).map gy=TD at *;generalize (moR m xs i).map dd=QD at *;generalize xs.map dd=XD at *;generalize pad (row m)=Pm at *;simp -implicitDefEqProofs [Z35_L1,ap,hlt,hXD,e1,h24,hL,htt,hRL,hRt,w4,List.replicate]
end
def Cz (O:af):Prop:=∀(p:Int) [IsP p] (m:Fp p) (xs:List (Fp p)),2≤m.len→m.len≤64→xs.length<1000000→(∀x∈xs,x.len≤64)→ask O F35 [(D.int .i64 p),(D.arr 64 .leaf (am .u8 (pad (row m)))),.sl (.arr 64 .leaf) (xs.map dd)]=some (.sl .leaf ((moK m xs xs.length).map gy))
theorem X5 (hT:T F35=some Z35) (hf:yf (den T A)):Cz (den T A):=by
 intro p ip m xs h2 hml hl hx;obtain ⟨co,e⟩:=Um (O:=den T A) hf h2 hml hl hx xs.length 0 (some 0) (b7 _);rw [show ((0:Nat):Int)=0 from rfl,show (moK m xs 0).map gy=[] from rfl] at e;have h3:((moK m xs xs.length).map gy).length=xs.length:=by rw [ah,jy]
 have htk:((moK m xs xs.length).map gy).take xs.length=(moK m xs xs.length).map gy:=av (by omega)
 refine br hT rfl ?_;generalize (moK m xs xs.length).map gy=QD at *;generalize xs.map dd=XD at *;generalize pad (row m)=Pm at *;simp -implicitDefEqProofs [Z35,Z35_B,h3,htk,e]
open Classical in
noncomputable def mmT (p:Int) (l:List Int) (ls:List (List Int)):List (List (List Int)):=
 if h:a0r p l ls∧ls.length≤4 then
  haveI:IsP p:=h.1.choose
  (moK (f7 p l) (ls.map (f7 p)) ls.length).map skP
 else []
theorem ug {p:Int} [IsP p] {m:Fp p} {S:List (Fp p)} (h:a0r p (pad (row m)) (skP S)) (hn:S.length≤4) (hm:m.len≤64) (hS:∀a∈S,a.len≤64):mmT p (pad (row m)) (skP S)=(moK m S S.length).map skP:=by
 unfold mmT;have hl:(skP S).length=S.length:=ah ..;rw [dif_pos ⟨h,by omega⟩,qb hm,Ta hS]
 exact congrArg (fun k=>(moK m S k).map skP) hl
theorem G6 {p:Int} {l:List Int} {ls:List (List Int)}:me p l ls 0 4=0↔a0r p l ls∧ls.length≤4:=by
 unfold me
 by_cases h:pc p l ls=0
 ·rw [if_neg (by simpa using h)]
  have:=Jr.1 h
  by_cases h2:ls.length≤4
  ·rw [if_neg (by omega)]; exact ⟨fun _=>⟨this,h2⟩,fun _=>rfl⟩
  ·rw [if_pos (by omega)]; exact ⟨fun e=>by omega,fun e=>absurd e.2 h2⟩
 ·rw [if_pos h]
  exact ⟨fun e=>absurd e h,fun e=>Jr.2 e.1⟩
theorem Br {p:Int} {l:List Int} {ls:List (List Int)} (h:me p l ls 0 4≠0):mmT p l ls=[]:=by
 unfold mmT;rw [dif_neg fun g=>h (G6.2 g)]
def rm (ts:List (List (List Int))):D:=.sl .leaf (ts.map fun r=>.sl (.arr 64 .leaf) (r.map bt))
theorem Po {p:Int} [IsP p] (ks:List (List (Fp p))):rm (ks.map skP)=.sl .leaf (ks.map gy):=by
 unfold rm;rw [kz]
 congr 1
 refine List.map_congr_left fun r _=>?_
 show D.sl _ ((skP r).map bt)=_;rw [vf]
def jv (O:af) (F:Nat):Prop:=∀(p:Int) (l:List Int) (ls:List (List Int)),iu l→l.length=64→xj ls→ls.length<2000000→ask O F [(D.int .i64 p),(D.arr 64 .leaf (am .u8 l)),.sl (.arr 64 .leaf) (ls.map bt)]=some (.tup [rm (mmT p l ls),(D.int .i64 (me p l ls 0 4))])
section
variable {p:Int} [IsP p]
theorem a5t {O:af} (hp:Bz O) {ks:List (List (Fp p))} (hl:ks.length<1000000) (hk:∀r∈ks,r.length<1000000∧∀x∈r,x.len≤64):∀(r i:Nat) (co:Option Nat),i+r=ks.length→∃co':Option Nat,
 dn O 0 (.loop Z5_L0) ⟨[(9,.sl 1 [] 0 i co),(24,.d (.sl .leaf (ks.map eo))),(25,(.d (.int .i64 ks.length))),(26,(.d (.int .i64 i)))],[.hole,.sl false .leaf ((ks.take i).map gy),.hole,.hole]⟩ =
  some (.exit 0,⟨[(9,.sl 1 [] 0 ks.length co'),(24,.d (.sl .leaf (ks.map eo))),(25,(.d (.int .i64 ks.length))),(26,(.d (.int .i64 ks.length))),(27,(.d (.bool false)))],[.hole,.sl false .leaf (ks.map gy),.hole,.hole]⟩)
 | 0,i,co,hi=>by
  obtain rfl:i=ks.length:=by omega
  rw [ee];refine ⟨co,bo ?_⟩;generalize ks.map gy=RD at *;generalize ks.map eo=XD at *;simp -implicitDefEqProofs [Z5_L0,ap]
 | r+1,i,co,hi=>by
  have hlt:i<ks.length:=by omega
  obtain ⟨k1,k2⟩:=hk _ (bh hlt);have e1:=hp p ks[i] (by omega) k2
  have hXD:(ks.map eo).length=ks.length:=ah ..;have hxi:∀h:i<(ks.map eo).length,(ks.map eo)[i]'h=.sl .leaf (ks[i].map dk):=fun h=>by rw [cb]
  have w4:IntKind.i64.wrap ((i:Int)+1)=((i+1:Nat):Int):=(w64 (x:=(i:Int)+1) (by omega)).trans (by omega)
  have h24:(i+1)*24≤1099511627776:=by omega
  have htk:(ks.take (i+1)).map gy=(ks.take i).map gy++[.sl (.arr 64 .leaf) (ks[i].map dd)]:=by rw [bf hlt,cu]; rfl
  have hL:((ks.take i).map gy).length=i:=by rw [ah,b8]; omega
  have htt:((ks.take i).map gy).take i=(ks.take i).map gy:=av (by omega)
  obtain ⟨co',ih⟩:=a5t hp hl hk r (i+1) none (by omega)
  refine ⟨co',bm ?_ ih⟩;rw [htk];generalize (ks.take i).map gy=TD at *;generalize ks[i].map dd=QD at *;generalize ks[i].map dk=QR at *;generalize ks.map eo=XD at *;simp -implicitDefEqProofs [Z5_L0,ap,hlt,hXD,hxi,e1,h24,hL,htt,w4,List.replicate]
end
theorem Jm {p:Int} [IsP p] {m:Fp p} (hm:m≠0) (hml:m.len≤64) {xs:List (Fp p)} (hl:xs.length<1000000) (hx:∀x∈xs,x.len<m.len) {k:Nat}:∀r∈moK m xs k,r.length<1000000∧∀x∈r,x.len≤64:=fun r hr=>by
 obtain ⟨i,_,rfl⟩:=ca.1 hr;exact ⟨by rw [jf]; exact hl,fun y hy=>by have:=Yo hm hx y hy; omega⟩
theorem Ej (hT:T F5=some Z5) (hc:qe (den T A)) (hfo:px (den T A)) (hro:Nz (den T A)) (hmo:zc (den T A)) (hpo:Bz (den T A)):jv (den T A) F5:=by
 intro p l ls bl gl ha hl;have e1:=hc p l ls 0 4 bl gl ha hl
 by_cases h:me p l ls 0 4=0
 ·rw [h] at e1 ⊢
  obtain ⟨h',h4⟩:=G6.1 h;obtain ⟨ip,m,rfl,hm,hs⟩:=id h';obtain ⟨S,rfl,hS⟩:=Gv hs;have h5:=hm.five;have hSl:S.length≤4:=by rwa [ah] at h4
  have hS64:∀a∈S,a.len≤64:=fun a ha=>by have:=hS a ha; omega
  have e2:=hfo p m (by omega)
  have e3:=hro p S (by omega) hS64
  have e4:=hmo p m S hm.two (by omega) (by omega) hS64
  have hmd:(S.map fun a=>pad (row a)).map bt=S.map dd:=vf S
  have hk:=Jm hm.mon.2 (by omega) (show S.length<1000000 by omega) hS (k:=S.length)
  have hKl:=jy m S S.length;obtain ⟨co,e5⟩:=a5t (O:=den T A) hpo (ks:=moK m S S.length) (by omega) hk S.length 0 (some 0) (by omega)
  rw [show ((0:Nat):Int)=0 from rfl,cz,fk] at e5;rw [ug h' hSl (by omega) hS64,Po]
  have hL1:((moK m S S.length).map eo).length=S.length:=by rw [ah,hKl]
  have hL2:((moK m S S.length).map gy).length=S.length:=by rw [ah,hKl]
  have htk:((moK m S S.length).map gy).take S.length=(moK m S S.length).map gy:=av (by omega)
  rw [hmd] at e1 ⊢;rw [hKl] at e5;refine br hT rfl ?_;generalize (moK m S S.length).map gy=R1 at *;generalize (moK m S S.length).map eo=R2 at *;generalize S.map dd=SD at *;generalize S.map dk=SR at *;generalize S.length=sn at *;generalize pad (row m)=Pm at *;simp -implicitDefEqProofs [Z5,Z5_B,ap,e1,e2,e3,e4,e5,hL1,hL2,htk,List.replicate]
 ·rw [Br h]
  refine br hT rfl ?_;generalize me p l ls 0 4=cc at *;generalize ls.map bt=LD at *;simp -implicitDefEqProofs [Z5,Z5_B,ap,e1,h,rm]
theorem Cc (hT:T F2h=some Z2h) (hc:A4 (den T A)) (hmo:Cz (den T A)):jv (den T A) F2h:=by
 intro p l ls bl gl ha hl;have e1:=hc p l ls 4 bl gl ha hl
 by_cases h:me p l ls 0 4=0
 ·rw [h] at e1 ⊢
  obtain ⟨h',h4⟩:=G6.1 h;obtain ⟨ip,m,rfl,hm,hs⟩:=id h';obtain ⟨S,rfl,hS⟩:=Gv hs;have h5:=hm.five;have hSl:S.length≤4:=by rwa [ah] at h4
  have hS64:∀a∈S,a.len≤64:=fun a ha=>by have:=hS a ha; omega
  have e4:=hmo p m S hm.two (by omega) (by omega) hS64
  have hmd:(S.map fun a=>pad (row a)).map bt=S.map dd:=vf S
  rw [ug h' hSl (by omega) hS64,Po]
  rw [hmd] at e1 ⊢;refine br hT rfl ?_;generalize (moK m S S.length).map gy=R1 at *;generalize S.map dd=SD at *;generalize pad (row m)=Pm at *;simp -implicitDefEqProofs [Z2h,Z2h_B,ap,e1,e4,List.replicate]
 ·rw [Br h]
  refine br hT rfl ?_;generalize me p l ls 0 4=cc at *;generalize ls.map bt=LD at *;simp -implicitDefEqProofs [Z2h,Z2h_B,ap,e1,h,rm]
end Pe

namespace Pe
open Go Gq
variable {T:Nat→Option Fn} {A:af}
theorem Pp {O:af} {n s i r:Nat} {cp:Option Nat} {LR:List D} {IX:List Nat} {RR:List (List D)} (hr:r<RR.length) (hn:n<2000000) (hs:s<1000000000000) (hi:i<n) (hLR:LR.length=n):∀(q j:Nat) (cur:List Int),j+q=64→cur.length=64 →
 dn O 1 (.loop Z1n_L0) ⟨[(0,.sl 0 [r+1] 0 n cp),(1,(.d (.int .i64 (((s+64*i+j:Nat):Int))))),(5,(.d (.int .i64 i))),(6,(.d (.int .i64 j)))],[.tb false (.arr 64 .leaf) IX (RR.set r (LR.set i (D.arr 64 .leaf (am .u8 cur))))]⟩ =
  some (.exit 2,⟨[(0,.sl 0 [r+1] 0 n cp),(1,(.d (.int .i64 (((s+64*i+64:Nat):Int))))),(5,(.d (.int .i64 i))),(6,(.d (.int .i64 64))),(14,(.d (.bool false)))],[.tb false (.arr 64 .leaf) IX (RR.set r (LR.set i (D.arr 64 .leaf (am .u8 (upd (fun j=>mk8 (s+64*i+j)) q j cur)))))]⟩)
 | 0,j,cur,hj,hc=>by
  have:j=64:=by omega
  subst this;refine bo ?_;show _=some (_,(⟨_,[.tb false (.arr 64 .leaf) IX (RR.set r (LR.set i (D.arr 64 .leaf (am .u8 cur))))]⟩:St));generalize RR.set r (LR.set i (D.arr 64 .leaf (am .u8 cur)))=LQ at *;generalize ((s+64*i+64:Nat):Int)=k at *;simp -implicitDefEqProofs [Z1n_L0,ap]
 | q+1,j,cur,hj,hc=>by
  have hj64:j<64:=by omega
  have hj64':(j:Int)<64:=by omega
  have w1:=Wk (s+64*i+j);have w2:IntKind.i64.wrap (((s+64*i+j:Nat):Int)+1)=((s+64*i+(j+1):Nat):Int):=(w64 (x:=((s+64*i+j:Nat):Int)+1) (by omega)).trans (by omega)
  have w4:IntKind.i64.wrap ((j:Int)+1)=((j+1:Nat):Int):=(w64 (x:=(j:Int)+1) (by omega)).trans (by omega)
  have hcur:cur[j]? = some (cf cur j):=by rw [al (by omega),dp]
  refine bm ?_ (Pp hr hn hs hi hLR q (j+1) (cur.set j (mk8 (s+64*i+j))) (by omega) (by rw [c5]; exact hc))
  generalize mk8 (s+64*i+j)=mv at *;generalize ((s+64*i+j:Nat):Int)=k at *;generalize ((s+64*i+(j+1):Nat):Int)=k2 at *;simp -implicitDefEqProofs [Z1n_L0,ap,hj64,hj64',hi,hLR,hcur,hr,w1,w2,w4]
theorem Rr {O:af} {n s r:Nat} {cp:Option Nat} {IX:List Nat} {RR:List (List D)} (hr:r<RR.length) (hn:n<2000000) (hs:s<1000000000000):∀(q i:Nat) (L:List (List Int)),i+q=n→L.length=n→(∀l∈L,l.length=64) →
 dn O 1 (.loop Z1n_L1) ⟨[(0,.sl 0 [r+1] 0 n cp),(1,(.d (.int .i64 (((s+64*i:Nat):Int))))),(5,(.d (.int .i64 i)))],[.tb false (.arr 64 .leaf) IX (RR.set r (L.map bt))]⟩ =
  some (.exit 0,⟨[(0,.sl 0 [r+1] 0 n cp),(1,(.d (.int .i64 (((s+64*n:Nat):Int))))),(5,(.d (.int .i64 n))),(10,(.d (.bool false)))],[.tb false (.arr 64 .leaf) IX (RR.set r ((Oi (rl s) q i L).map bt))]⟩)
 | 0,i,L,hi,hL,h64=>by
  obtain rfl:i=n:=by omega
  refine bo ?_;show _=some (_,(⟨_,[.tb false (.arr 64 .leaf) IX (RR.set r (L.map bt))]⟩:St));generalize RR.set r (L.map bt)=LQ at *;generalize ((s+64*i:Nat):Int)=k at *;simp -implicitDefEqProofs [Z1n_L1,ap]
 | q+1,i,L,hi,hL,h64=>by
  have hlt:i<n:=by omega
  have hltL:i<L.length:=by omega
  have hLD:(L.map bt).length=n:=by rw [ah]; exact hL
  have w4:IntKind.i64.wrap ((i:Int)+1)=((i+1:Nat):Int):=(w64 (x:=(i:Int)+1) (by omega)).trans (by omega)
  have e:=Pp (O:=O) (cp:=cp) (IX:=IX) hr hn hs hlt hLD 64 0 L[i] rfl (h64 _ (bh hltL))
  have hs0:(L.map bt).set i (D.arr 64 .leaf (am .u8 (L[i])))=L.map bt:=by
   have:(D.arr 64 .leaf (am .u8 (L[i])))=(L.map bt)[i]'(by omega):=by rw [cb]
   rw [this,List.set_getElem_self]
  have e00:((0:Nat):Int)=0:=rfl;rw [hs0,ze _ _ _ (h64 _ (bh hltL)),cg,e00,show (List.range 64).map (fun j=>mk8 (s+64*i+j))=rl s i from rfl] at e
  have hset:(L.set i (rl s i)).map bt=(L.map bt).set i (D.arr 64 .leaf (am .u8 (rl s i))):=pq
  have ih:=Rr (O:=O) (cp:=cp) (IX:=IX) hr hn hs q (i+1) (L.set i (rl s i)) (by omega) (by rw [c5]; exact hL) (fun l hl=>by
   rcases d9 hl with h1 | rfl
   ·exact h64 l h1
   ·exact v5 s i)
  rw [hset,show s+64*(i+1)=s+64*i+64 by omega] at ih
  refine bm ?_ ih;have hli:(i:Int)<n:=by omega
  generalize rl s i=mr at *;generalize ((s+64*i+64:Nat):Int)=k2 at *;generalize ((s+64*i:Nat):Int)=k at *;generalize L.map bt=LQ at *;generalize RR.set r LQ=RQ at *;simp -implicitDefEqProofs [Z1n_L1,ap,hli,e,w4]
def vp (O:af):Prop:=∀(ls:List (List Int)) (cp:Option Nat) (s r:Nat) (IX:List Nat) (RR:List (List D)),r<RR.length→RR[r]? = some (ls.map bt)→ls.length<2000000→s<1000000000000→(∀l∈ls,l.length=64) →
 O F1n [.sl 0 [r+1] 0 ls.length cp,(.d (.int .i64 s))] [.tb false (.arr 64 .leaf) IX RR]=some ((.d (.int .i64 (((s+64*ls.length:Nat):Int)))),[.tb false (.arr 64 .leaf) IX (RR.set r ((gz s ls.length).map bt))],[])
theorem Rz (hT:T F1n=some Z1n):vp (den T A):=by
 intro ls cp s r IX RR hr hR hl hs h64;have e:=Rr (O:=den T A) (cp:=cp) (IX:=IX) hr hl hs ls.length 0 ls (b7 _) rfl h64;have e00:((0:Nat):Int)=0:=rfl
 have hself:RR.set r (ls.map bt)=RR:=by
  obtain ⟨h1,h2⟩:=ae.1 hR;rw [←h2,List.set_getElem_self]
 rw [e00,show s+64*0=s from rfl,Jn _ _ _ rfl,show (List.range ls.length).map (rl s)=gz s ls.length from rfl,hself] at e;refine m9 hT rfl ?_;generalize RR.set r ((gz s ls.length).map bt)=MR at *;generalize ((s+64*ls.length:Nat):Int)=k at *;simp -implicitDefEqProofs [Z1n,Z1n_B,e,List.idxOf,List.findIdx,List.findIdx.go]
abbrev t7 (r:List (List Int)):List D:=r.map bt
def mz (s n k:Nat):List (List (List Int)):=(List.range k).map fun i=>gz (s+64*n*i) n
theorem Tk (s n k:Nat):mz s n (k+1)=mz s n k++[gz (s+64*n*k) n]:=by unfold mz; rw [List.range_succ,cu]; rfl
theorem i8 (s n k:Nat):(mz s n k).length=k:=by unfold mz; rw [ah,fb]
def mix (ts:List (List (List Int))) (s n i:Nat):List (List D):=(mz s n i).map t7++(ts.drop i).map t7
theorem On {ts:List (List (List Int))} {s n i:Nat} (h:i≤ts.length):(mix ts s n i).length=ts.length:=by
 unfold mix;rw [ba,ah,ah,i8,dl]; omega
theorem Yc {ts:List (List (List Int))} {s n i:Nat} (h:i<ts.length):(mix ts s n i)[i]? = some (t7 ts[i]):=by
 unfold mix;rw [b4 (by rw [ah,i8]; exact b9 _),ah,i8,jl,dj,ek,cg,al h]; rfl
theorem Yh {ts:List (List (List Int))} {s n i:Nat} (h:i<ts.length):(mix ts s n i).set i (t7 (gz (s+64*n*i) n))=mix ts s n (i+1):=by
 unfold mix;rw [List.set_append_right _ _ (by rw [ah,i8]; exact b9 _),ah,i8,jl,Tk,cu,fc,cd h]
 rfl
theorem Qj {O:af} (hm:vp O) {ts:List (List (List Int))} {s n:Nat} {co:Option Nat} (hk:ts.length<1000) (hn:n<1000) (hs:s<1000000000) (hts:∀r∈ts,r.length=n∧∀l∈r,l.length=64):∀(q i:Nat),i+q=ts.length →
 dn O 1 (.loop Z1o_L0) ⟨[(0,.sl 0 [0] 0 ts.length co),(1,(.d (.int .i64 (((s+64*n*i:Nat):Int))))),(5,(.d (.int .i64 i)))],[.tb false (.arr 64 .leaf) (List.range ts.length) (mix ts s n i)]⟩ =
  some (.exit 0,⟨[(0,.sl 0 [0] 0 ts.length co),(1,(.d (.int .i64 (((s+64*n*ts.length:Nat):Int))))),(5,(.d (.int .i64 ts.length))),(9,(.d (.bool false)))],[.tb false (.arr 64 .leaf) (List.range ts.length) ((mz s n ts.length).map t7)]⟩)
 | 0,i,hi=>by
  obtain rfl:i=ts.length:=by omega
  have e:mix ts s n ts.length=(mz s n ts.length).map t7:=by unfold mix; rw [kw,fk,jt]
  rw [e];refine bo ?_;generalize (mz s n ts.length).map t7=RD at *;generalize ((s+64*n*ts.length:Nat):Int)=k at *;simp -implicitDefEqProofs [Z1o_L0,ap]
 | q+1,i,hi=>by
  have hlt:i<ts.length:=by omega
  obtain ⟨h1,h2⟩:=hts _ (bh hlt)
  have hb:64*n*i<64*1000*1000:=by
   have a1:64*n≤64*1000:=by omega
   have:=Nat.mul_le_mul a1 (show i≤999 by omega)
   omega
  have hml:=On (s:=s) (n:=n) (show i≤ts.length by omega)
  have hmg:=Yc (s:=s) (n:=n) hlt;have e:=hm ts[i] none (s+64*n*i) i (List.range ts.length) (mix ts s n i) (by omega) hmg (by omega) (by omega) h2
  rw [h1,Yh hlt,show s+64*n*i+64*n=s+64*n*(i+1) by rw [Nat.mul_succ]; omega] at e
  have w4:IntKind.i64.wrap ((i:Int)+1)=((i+1:Nat):Int):=(w64 (x:=(i:Int)+1) (by omega)).trans (by omega)
  have hli:(i:Int)<ts.length:=by omega
  have hrl:(t7 ts[i]).length=n:=by rw [ah]; exact h1
  refine bm ?_ (Qj hm hk hn hs hts q (i+1) (by omega))
  generalize mix ts s n (i+1)=M2 at *;generalize mix ts s n i=M1 at *;generalize t7 ts[i]=RA at *;generalize ((s+64*n*(i+1):Nat):Int)=k2 at *;generalize ((s+64*n*i:Nat):Int)=k at *;simp -implicitDefEqProofs [Z1o_L0,ap,hli,hlt,hmg,hrl,e,w4,List.idxOf,List.findIdx,List.findIdx.go]
def A7 (O:af):Prop:=∀(ts:List (List (List Int))) (co:Option Nat) (s n:Nat),ts.length<1000→n<1000→s<1000000000→(∀r∈ts,r.length=n∧∀l∈r,l.length=64) →
 O F1o [.sl 0 [0] 0 ts.length co,(.d (.int .i64 s))] [.tb false (.arr 64 .leaf) (List.range ts.length) (ts.map t7)]=some ((.d (.int .i64 (((s+64*n*ts.length:Nat):Int)))),[.tb false (.arr 64 .leaf) (List.range ts.length) ((mz s n ts.length).map t7)],[])
def y7 (O:af):Prop:=∀s:Int,O F1o [.sl 0 [] 0 0 (some 0),(.d (.int .i64 s))] [.sl false .leaf []]=some ((.d (.int .i64 s)),[.sl false .leaf []],[])
theorem Tn (hT:T F1o=some Z1o) (hm:vp (den T A)):A7 (den T A):=by
 intro ts co s n hk hn hs hts;have e:=Qj (O:=den T A) (co:=co) hm hk hn hs hts ts.length 0 (b7 _);rw [show ((0:Nat):Int)=0 from rfl,u4,cg,show mix ts s n 0=ts.map t7 from rfl] at e;refine m9 hT rfl ?_;generalize (mz s n ts.length).map t7=MR at *;generalize ts.map t7=TR at *;generalize ((s+64*n*ts.length:Nat):Int)=k at *;simp -implicitDefEqProofs [Z1o,Z1o_B,e]
theorem N7 (hT:T F1o=some Z1o):y7 (den T A):=by
 intro s;refine m9 hT rfl ?_
 have e:∀s,dn (den T A) 1 (.loop Z1o_L0) ⟨[(0,.sl 0 [] 0 0 (some 0)),(1,(.d (.int .i64 s))),(5,(.d (.int .i64 0)))],[.sl false .leaf []]⟩=some (.exit 0,⟨[(0,.sl 0 [] 0 0 (some 0)),(1,(.d (.int .i64 s))),(5,(.d (.int .i64 0))),(9,(.d (.bool false)))],[.sl false .leaf []]⟩):=by
  intro s;refine bo ?_;simp -implicitDefEqProofs [Z1o_L0,ap]
 simp -implicitDefEqProofs [Z1o,Z1o_B,e]
end Pe

namespace Pe
open Go Gq
variable {T:Nat→Option Fn} {A:af}
theorem Rj {O:af} (he:Di O) {ts:List (List (List Int))} (hk:ts.length<1000) (hts:∀r∈ts,r.length<1000∧∀l∈r,l.length=64):∀(q i:Nat),i+q=ts.length →
 dn O 0 (.loop Z1k_L0) ⟨[(0,.d (rm ts)),(1,.d (rm ts)),(5,(.d (.int .i64 i)))],[]⟩=some (.exit 0,⟨[(0,.d (rm ts)),(1,.d (rm ts)),(5,(.d (.int .i64 ts.length))),(14,(.d (.bool false)))],[]⟩)
 | 0,i,hi=>by
  obtain rfl:i=ts.length:=by omega
  have hL:(ts.map fun r=>D.sl (.arr 64 .leaf) (r.map bt)).length=ts.length:=ah ..
  refine bo ?_;unfold rm;generalize (ts.map fun r=>D.sl (.arr 64 .leaf) (r.map bt))=TD at *
  simp -implicitDefEqProofs [Z1k_L0,ap,hL]
 | q+1,i,hi=>by
  have hlt:i<ts.length:=by omega
  obtain ⟨h1,h2⟩:=hts _ (bh hlt);have e1:=he ts[i] h2 (by omega)
  have hL:(ts.map fun r=>D.sl (.arr 64 .leaf) (r.map bt)).length=ts.length:=ah ..
  have hx:∀h:i<(ts.map fun r=>D.sl (.arr 64 .leaf) (r.map bt)).length,(ts.map fun r=>D.sl (.arr 64 .leaf) (r.map bt))[i]'h=.sl (.arr 64 .leaf) (ts[i].map bt):=fun h=>by rw [cb]
  have w4:IntKind.i64.wrap ((i:Int)+1)=((i+1:Nat):Int):=(w64 (x:=(i:Int)+1) (by omega)).trans (by omega)
  have ih:=Rj he hk hts q (i+1) (by omega)
  refine bm ?_ ih;unfold rm;generalize ts[i].map bt=TI at *;generalize (ts.map fun r=>D.sl (.arr 64 .leaf) (r.map bt))=TD at *
  simp -implicitDefEqProofs [Z1k_L0,ap,hlt,hL,hx,e1,w4]
def Hs (O:af):Prop:=∀ts:List (List (List Int)),ts.length<1000→(∀r∈ts,r.length<1000∧∀l∈r,l.length=64)→ask O F1k [rm ts,rm ts]=some (D.bool true)
theorem Y4 (hT:T F1k=some Z1k) (he:Di (den T A)):Hs (den T A):=by
 intro ts hk hts;have e:=Rj (O:=den T A) he hk hts ts.length 0 (b7 _);rw [show ((0:Nat):Int)=0 from rfl] at e;unfold rm at e ⊢;refine br hT rfl ?_;generalize (ts.map fun r=>D.sl (.arr 64 .leaf) (r.map bt))=TD at *
 simp -implicitDefEqProofs [Z1k,Z1k_B,ap,e]
theorem G8 {O:af} (he:yj O) {s n k:Nat} (hk:k<1000) (hn:n<1000) (hs:s<1000000000):∀(q i:Nat),i+q=k →
 dn O 0 (.loop Z1m_L0) ⟨[(0,.d (rm (mz s n k))),(1,(.d (.int .i64 (((s+64*n*i:Nat):Int))))),(5,(.d (.int .i64 i)))],[]⟩=some (.exit 0,⟨[(0,.d (rm (mz s n k))),(1,(.d (.int .i64 (((s+64*n*k:Nat):Int))))),(5,(.d (.int .i64 k))),(9,(.d (.bool false)))],[]⟩)
 | 0,i,hi=>by
  obtain rfl:i=k:=by omega
  have hL:((mz s n i).map fun r=>D.sl (.arr 64 .leaf) (r.map bt)).length=i:=by rw [ah,i8]
  refine bo ?_;unfold rm;generalize ((mz s n i).map fun r=>D.sl (.arr 64 .leaf) (r.map bt))=TD at *
  generalize ((s+64*n*i:Nat):Int)=k at *;simp -implicitDefEqProofs [Z1m_L0,ap,hL]
 | q+1,i,hi=>by
  have hlt:i<k:=by omega
  have hb:64*n*i<64*1000*1000:=by
   have a1:64*n≤64*1000:=by omega
   have:=Nat.mul_le_mul a1 (show i≤999 by omega)
   omega
  have e1:=he (s+64*n*i) n (by omega) (by omega)
  rw [show s+64*n*i+64*n=s+64*n*(i+1) by rw [Nat.mul_succ]; omega] at e1
  have hL:((mz s n k).map fun r=>D.sl (.arr 64 .leaf) (r.map bt)).length=k:=by rw [ah,i8]
  have hx:∀h:i<((mz s n k).map fun r=>D.sl (.arr 64 .leaf) (r.map bt)).length,((mz s n k).map fun r=>D.sl (.arr 64 .leaf) (r.map bt))[i]'h=.sl (.arr 64 .leaf) ((gz (s+64*n*i) n).map bt):=fun h=>by
   rw [cb];unfold mz;rw [cb,List.getElem_range]
  have w4:IntKind.i64.wrap ((i:Int)+1)=((i+1:Nat):Int):=(w64 (x:=(i:Int)+1) (by omega)).trans (by omega)
  have h0:¬ ((s+64*n*(i+1):Nat):Int)<0:=by omega
  have ih:=G8 he hk hn hs q (i+1) (by omega)
  refine bm ?_ ih;unfold rm;generalize (gz (s+64*n*i) n).map bt=TI at *;generalize ((mz s n k).map fun r=>D.sl (.arr 64 .leaf) (r.map bt))=TD at *
  generalize ((s+64*n*(i+1):Nat):Int)=k2 at *;generalize ((s+64*n*i:Nat):Int)=k1 at *;simp -implicitDefEqProofs [Z1m_L0,ap,hlt,hL,hx,e1,h0,w4]
def zk (O:af):Prop:=∀s n k:Nat,k<1000→n<1000→s<1000000000→ask O F1m [rm (mz s n k),(D.int .i64 s)]=some (D.int .i64 (((s+64*n*k:Nat):Int)))
theorem S2 (hT:T F1m=some Z1m) (he:yj (den T A)):zk (den T A):=by
 intro s n k hk hn hs;have e:=G8 (O:=den T A) he hk hn hs k 0 (b7 _);rw [show ((0:Nat):Int)=0 from rfl,show s+64*n*0=s from rfl] at e;unfold rm at e ⊢;refine br hT rfl ?_;generalize ((mz s n k).map fun r=>D.sl (.arr 64 .leaf) (r.map bt))=TD at *
 generalize ((s+64*n*k:Nat):Int)=k2 at *;simp -implicitDefEqProofs [Z1m,Z1m_B,ap,e]
section
variable {p:Int} [IsP p]
noncomputable abbrev D3 (r:List (Fp p)):List D:=r.map dd
theorem a15 {O:af} (hp:wq O) {ks:List (List (Fp p))} (hl:ks.length<1000000) (hk:∀r∈ks,(0<r.length∧r.length<1000000)∧∀x∈r,x.len≤64) (LD:List D):∀(q i:Nat) (co:Option Nat),i+1+q=ks.length→∃co':Option Nat,
 dn O 1 (.loop Z6_w_L0) ⟨[(9,.sl 4 [0] 0 (i+1) co),(24,.d (.sl .leaf (ks.map eo))),(25,(.d (.int .i64 ks.length))),(26,(.d (.int .i64 (((i+1:Nat):Int)))))],[.sl false (.arr 64 .leaf) LD,.hole,.hole,.hole,.tb false (.arr 64 .leaf) (List.range (i+1)) ((ks.take (i+1)).map D3),.hole,.hole,.hole]⟩ =
  some (.exit 0,⟨[(9,.sl 4 [0] 0 ks.length co'),(24,.d (.sl .leaf (ks.map eo))),(25,(.d (.int .i64 ks.length))),(26,(.d (.int .i64 ks.length))),(27,(.d (.bool false)))],[.sl false (.arr 64 .leaf) LD,.hole,.hole,.hole,.tb false (.arr 64 .leaf) (List.range ks.length) (ks.map D3),.hole,.hole,.hole]⟩)
 | 0,i,co,hi=>by
  obtain hi:i+1=ks.length:=by omega
  rw [hi,ee];refine ⟨co,bo ?_⟩;generalize ks.map D3=RD at *;generalize ks.map eo=XD at *;generalize List.range ks.length=IX at *;simp -implicitDefEqProofs [Z6_w_L0,ap]
 | q+1,i,co,hi=>by
  have hlt:i+1<ks.length:=by omega
  obtain ⟨⟨k0,k1⟩,k2⟩:=hk _ (bh hlt);obtain ⟨cp,e1⟩:=hp p ks[i+1] (by omega) k2
  have hXD:(ks.map eo).length=ks.length:=ah ..;have hxi:∀h:i+1<(ks.map eo).length,(ks.map eo)[i+1]'h=.sl .leaf (ks[i+1].map dk):=fun h=>by rw [cb]
  have w4:IntKind.i64.wrap (((i+1:Nat):Int)+1)=((i+1+1:Nat):Int):=(w64 (x:=((i+1:Nat):Int)+1) (by omega)).trans (by omega)
  have h24:(i+1+1)*24≤1099511627776:=by omega
  have htk:(ks.take (i+1+1)).map D3=(ks.take (i+1)).map D3++[ks[i+1].map dd]:=by rw [bf hlt,cu]; rfl
  have hL:((ks.take (i+1)).map D3).length=i+1:=by rw [ah,b8]; omega
  have hRg:List.range (i+1+1)=List.range (i+1)++[i+1]:=List.range_succ;have hRl:(List.range (i+1)).length=i+1:=fb;have hpl:(ks[i+1].map dd).length=ks[i+1].length:=ah ..;obtain ⟨co',ih⟩:=a15 hp hl hk LD q (i+1) none (by omega)
  refine ⟨co',bm ?_ ih⟩;rw [htk,hRg];have hlt':((i+1:Nat):Int)<ks.length:=by omega
  have hnn:((i+1:Nat):Int).toNat=i+1:=by omega
  have h0':0≤((i+1:Nat):Int):=by omega
  generalize (ks.take (i+1)).map D3=TD at *;generalize ks[i+1].map dd=QD at *;generalize ks[i+1].map dk=QR at *;generalize ks[i+1].length=ql at *;generalize ks.map eo=XD at *;generalize List.range (i+1)=IX at *;generalize ((i+1+1:Nat):Int)=z2 at *;generalize ((i+1:Nat):Int)=z1 at *;generalize i+1=i1 at *;simp -implicitDefEqProofs [Z6_w_L0,ap,hlt,hlt',hnn,h0',hXD,hxi,e1,h24,hL,hRl,hpl,k0,w4,List.replicate,List.idxOf,List.findIdx,List.findIdx.go]
theorem a3g {O:af} (hp:wq O) {ks:List (List (Fp p))} (hl:ks.length<1000000) (hk:∀r∈ks,(0<r.length∧r.length<1000000)∧∀x∈r,x.len≤64) (LD:List D) (h0:0<ks.length):∃co':Option Nat,
 dn O 1 (.loop Z6_w_L0) ⟨[(9,.sl 4 [] 0 0 (some 0)),(24,.d (.sl .leaf (ks.map eo))),(25,(.d (.int .i64 ks.length))),(26,(.d (.int .i64 0)))],[.sl false (.arr 64 .leaf) LD,.hole,.hole,.hole,.sl false .leaf [],.hole,.hole,.hole]⟩ =
  some (.exit 0,⟨[(9,.sl 4 [0] 0 ks.length co'),(24,.d (.sl .leaf (ks.map eo))),(25,(.d (.int .i64 ks.length))),(26,(.d (.int .i64 ks.length))),(27,(.d (.bool false)))],[.sl false (.arr 64 .leaf) LD,.hole,.hole,.hole,.tb false (.arr 64 .leaf) (List.range ks.length) (ks.map D3),.hole,.hole,.hole]⟩):=by
 obtain ⟨⟨k0,k1⟩,k2⟩:=hk _ (bh h0);obtain ⟨cp,e1⟩:=hp p ks[0] (by omega) k2
 have hXD:(ks.map eo).length=ks.length:=ah ..;have hxi:∀h:0<(ks.map eo).length,(ks.map eo)[0]'h=.sl .leaf (ks[0].map dk):=fun h=>by rw [cb]
 have htk:(ks.take (0+1)).map D3=[ks[0].map dd]:=by rw [bf h0,cu]; rfl
 have hpl:(ks[0].map dd).length=ks[0].length:=ah ..;obtain ⟨co',ih⟩:=a15 hp hl hk LD (ks.length-1) 0 none (by omega)
 refine ⟨co',bm ?_ ih⟩;rw [htk];have hlt':(0:Int)<ks.length:=by omega
 generalize ks[0].map dd=QD at *;generalize ks[0].map dk=QR at *;generalize ks[0].length=ql at *;generalize ks.map eo=XD at *;simp -implicitDefEqProofs [Z6_w_L0,ap,h0,hlt',hXD,hxi,e1,hpl,k0,w64,List.replicate,List.idxOf,List.findIdx,List.findIdx.go]
end
theorem a3a (p:Int) (l:List Int) (ls:List (List Int)):(mmT p l ls).length≤4∧∀r∈mmT p l ls,r.length=(mmT p l ls).length∧∀x∈r,x.length=64:=by
 by_cases h:me p l ls 0 4=0
 ·obtain ⟨h',h4⟩:=G6.1 h
  obtain ⟨ip,m,rfl,hm,hs⟩:=id h';obtain ⟨S,rfl,hS⟩:=Gv hs;have h5:=hm.five;have hSl:S.length≤4:=by rwa [ah] at h4
  have e:=ug h' hSl (by omega) (fun a ha=>by have:=hS a ha; omega)
  have hl:((moK m S S.length).map skP).length=S.length:=by rw [ah,jy]
  show (mmT p (pad (row m)) (skP S)).length≤4∧∀r∈mmT p (pad (row m)) (skP S),r.length=(mmT p (pad (row m)) (skP S)).length∧_;rw [e,hl];refine ⟨hSl,fun r hr=>?_⟩
  obtain ⟨q,hq,rfl⟩:=ca.1 hr;obtain ⟨i,_,rfl⟩:=ca.1 hq;refine ⟨by unfold skP; rw [ah,jf],fun x hx=>?_⟩
  obtain ⟨y,_,rfl⟩:=ca.1 hx;exact cx _
 ·rw [Br h]; simp
def U0 (O:af):Prop:=∀(p:Int) (l:List Int) (ls:List (List Int)) (cq:Option Nat),iu l→l.length=64→xj ls→ls.length<2000000→0<(mmT p l ls).length→∃cp:Option Nat,
 O F6 [(.d (.int .i64 p)),.d (D.arr 64 .leaf (am .u8 l)),.sl 0 [] 0 ls.length cq] [.sl false (.arr 64 .leaf) (ls.map bt)]=some (.tup [.sl 1 [0] 0 (mmT p l ls).length cp,(.d (.int .i64 (me p l ls 0 4)))],[.sl false (.arr 64 .leaf) (ls.map bt)],[.tb false (.arr 64 .leaf) (List.range (mmT p l ls).length) ((mmT p l ls).map t7)])
def X3 (O:af):Prop:=∀(p:Int) (l:List Int) (ls:List (List Int)) (cq:Option Nat),iu l→l.length=64→xj ls→ls.length<2000000→mmT p l ls=[] →
 O F6 [(.d (.int .i64 p)),.d (D.arr 64 .leaf (am .u8 l)),.sl 0 [] 0 ls.length cq] [.sl false (.arr 64 .leaf) (ls.map bt)]=some (.tup [.sl 1 [] 0 0 (some 0),(.d (.int .i64 (me p l ls 0 4)))],[.sl false (.arr 64 .leaf) (ls.map bt)],[.sl false .leaf []])
theorem Xr {p:Int} [IsP p] (ks:List (List (Fp p))):(ks.map skP).map t7=ks.map D3:=by
 rw [kz];exact List.map_congr_left fun r _=>vf r
theorem a6l (hT:T F6=some Z6_w) (hc:qe (den T A)) (hfo:px (den T A)) (hro:Hh (den T A)) (hmo:zc (den T A)) (hpo:wq (den T A)):U0 (den T A):=by
 intro p l ls cq bl gl ha hl hpos;have e1:=hc p l ls 0 4 bl gl ha hl
 by_cases h:me p l ls 0 4=0
 ·rw [h] at e1 ⊢
  obtain ⟨h',h4⟩:=G6.1 h;obtain ⟨ip,m,rfl,hm,hs⟩:=id h';obtain ⟨S,rfl,hS⟩:=Gv hs;have h5:=hm.five;have hSl:S.length≤4:=by rwa [ah] at h4
  have hS64:∀a∈S,a.len≤64:=fun a ha=>by have:=hS a ha; omega
  have e2:=hfo p m (by omega)
  obtain ⟨cr,e3⟩:=hro p S cq (by omega) hS64
  have e4:=hmo p m S hm.two (by omega) (by omega) hS64
  have hmd:(S.map fun a=>pad (row a)).map bt=S.map dd:=vf S
  have hsl:(S.map fun a=>pad (row a)).length=S.length:=ah ..
  have hk:=Jm hm.mon.2 (by omega) (show S.length<1000000 by omega) hS (k:=S.length)
  have hKl:=jy m S S.length;have hgood:=ug h' hSl (by omega) hS64
  have hgl:((moK m S S.length).map skP).length=S.length:=by rw [ah,hKl]
  rw [show (mmT p (pad (row m)) (S.map fun a=>pad (row a)))=(moK m S S.length).map skP from hgood] at hpos ⊢
  rw [hgl] at hpos ⊢
  have hk':∀r∈moK m S S.length,(0<r.length∧r.length<1000000)∧∀x∈r,x.len≤64:=fun r hr=>by
   refine ⟨⟨?_,(hk r hr).1⟩,(hk r hr).2⟩;obtain ⟨i,_,rfl⟩:=ca.1 hr;rw [jf]; exact hpos
  obtain ⟨co,e5⟩:=a3g (O:=den T A) hpo (ks:=moK m S S.length) (by omega) hk' (S.map dd) (by omega)
  rw [hKl] at e5;have hL1:((moK m S S.length).map eo).length=S.length:=by rw [ah,hKl]
  have hRL:(S.map dk).length=S.length:=ah ..;have hRt:(S.map dk).take S.length=S.map dk:=av (by omega)
  have hPL:(S.map dd).length=S.length:=ah ..;have hPt:(S.map dd).take S.length=S.map dd:=av (by omega)
  rw [hmd] at e1;rw [Xr,hmd,hsl];refine ⟨co,m9 hT rfl ?_⟩;generalize (moK m S S.length).map D3=R1 at *;generalize (moK m S S.length).map eo=R2 at *;generalize S.map dd=SD at *;generalize S.map dk=SR at *;generalize List.range S.length=IX at *;generalize S.length=sn at *;generalize pad (row m)=Pm at *;simp -implicitDefEqProofs [Z6_w,Z6_w_B,ap,e1,e2,e3,e4,e5,hL1,hRL,hRt,hPL,hPt,List.replicate,List.idxOf,List.findIdx,List.findIdx.go]
 ·rw [Br h] at hpos
  simp at hpos
theorem a6o (hT:T F6=some Z6_w) (hc:qe (den T A)) (hfo:px (den T A)) (hro:Hh (den T A)) (hmo:zc (den T A)) (hpo:wq (den T A)):X3 (den T A):=by
 intro p l ls cq bl gl ha hl hz;have e1:=hc p l ls 0 4 bl gl ha hl;have hPL:(ls.map bt).length=ls.length:=ah ..;have hPt:(ls.map bt).take ls.length=ls.map bt:=av (by omega)
 by_cases h:me p l ls 0 4=0
 ·rw [h] at e1 ⊢
  obtain ⟨h',h4⟩:=G6.1 h;obtain ⟨ip,m,rfl,hm,hs⟩:=id h';obtain ⟨S,rfl,hS⟩:=Gv hs;have h5:=hm.five;have hSl:S.length≤4:=by rwa [ah] at h4
  have hS64:∀a∈S,a.len≤64:=fun a ha=>by have:=hS a ha; omega
  have hgood:=ug h' hSl (by omega) hS64
  rw [show (mmT p (pad (row m)) (S.map fun a=>pad (row a)))=(moK m S S.length).map skP from hgood] at hz
  have hS0:S=[]:=by
   have:=congrArg List.length hz;rw [ah,jy] at this;exact di.1 this
  subst hS0;have e2:=hfo p m (by omega)
  obtain ⟨cr,e3⟩:=hro p [] cq (by simp) (by simp)
  have e4:=hmo p m [] hm.two (by omega) (by simp) (by simp)
  rw [show (moK m ([]:List (Fp p)) ([]:List (Fp p)).length).map eo=[] from rfl] at e4;simp only [fk,cn] at e1 e3 e4 ⊢
  have e5:dn (den T A) 1 (.loop Z6_w_L0) ⟨[(9,.sl 4 [] 0 0 (some 0)),(24,.d (.sl .leaf [])),(25,(.d (.int .i64 0))),(26,(.d (.int .i64 0)))],[.sl false (.arr 64 .leaf) [],.hole,.hole,.hole,.sl false .leaf [],.hole,.hole,.hole]⟩ =
   some (.exit 0,⟨[(9,.sl 4 [] 0 0 (some 0)),(24,.d (.sl .leaf [])),(25,(.d (.int .i64 0))),(26,(.d (.int .i64 0))),(27,(.d (.bool false)))],[.sl false (.arr 64 .leaf) [],.hole,.hole,.hole,.sl false .leaf [],.hole,.hole,.hole]⟩):=by
   refine bo ?_;simp -implicitDefEqProofs [Z6_w_L0,ap]
  refine m9 hT rfl ?_;generalize pad (row m)=Pm at *;simp -implicitDefEqProofs [Z6_w,Z6_w_B,ap,e1,e2,e3,e4,e5,List.replicate,List.idxOf,List.findIdx,List.findIdx.go]
 ·refine m9 hT rfl ?_
  generalize me p l ls 0 4=cc at *;generalize ls.map bt=LD at *;generalize ls.length=n at *;simp -implicitDefEqProofs [Z6_w,Z6_w_B,ap,e1,h,hPL,hPt,List.replicate,List.idxOf,List.findIdx,List.findIdx.go]
end Pe

namespace Pe
open Go Gq
variable {T:Nat→Option Fn} {A:af}
theorem Gp (s:Sh) (rows:List (List D)):∀(k i:Nat),i+k=rows.length→rx s rows (List.range' i k)=some ((rows.drop i).map (D.sl s))
 | 0,i,h=>by
  rw [List.drop_of_length_le (by omega)]; rfl
 | k+1,i,h=>by
  have hlt:i<rows.length:=by omega
  rw [List.range'_succ,rx,al hlt,aa,Gp s rows k (i+1) (by omega),cd hlt]
  rfl
theorem Ic (s:Sh) (rows:List (List D)) {n:Nat} (h:rows.length=n):rx s rows (List.range n)=some (rows.map (D.sl s)):=by
 rw [List.range_eq_range',Gp s rows n 0 (by omega),fp]
theorem Dn (ts:List (List (List Int))) {n:Nat} (h:ts.length=n):rx (.arr 64 .leaf) (ts.map t7) (List.range n)=some (ts.map fun r=>.sl (.arr 64 .leaf) (r.map bt)):=by
 rw [Ic _ _ (by rw [ah]; exact h),kz]; rfl
def sb (O:af):Prop:=∀(p:Int) (l:List Int),iu l→l.length=64→∀(ls:List (List Int)),xj ls→ls.length≤9223372036854775807→ask O F1h [(D.int .i64 p),(D.arr 64 .leaf (am .u8 l)),.sl (.arr 64 .leaf) (ls.map bt)]=some (D.bool true)
theorem Ba (hT:T F1h=some Z1h) (hp:qj (den T A)) (hk:Ot (den T A)) (hkh:Mx (den T A)) (he:Di (den T A)) (hee:Hs (den T A)) (hsz:Oz (den T A)) (hmk:E5 (den T A)) (hmk2:A7 (den T A)) (hmk0:y7 (den T A)) (hhd:zk (den T A)) (hi:jv (den T A) F5) (hi1:U0 (den T A)) (hi0:X3 (den T A)) (hs:jv (den T A) F2h):sb (den T A):=by
 intro p l bl gl ls ha hl;have e0:=hsz (ls.map bt) 1048576 (by omega) (by omega) (by rw [ah]; exact hl)
 rw [ah] at e0;refine br hT rfl ?_
 by_cases hbig:(1048576:Int)<ls.length
 ·rw [if_pos hbig] at e0
  generalize ls.map bt=LD at *;simp -implicitDefEqProofs [Z1h,Z1h_B,ap,e0]
 ·rw [if_neg hbig] at e0
  have hn0:¬ (1048576:Int)-ls.length<0:=by omega
  have hl2:ls.length<2000000:=by omega
  have e1:=hp l bl gl;have e2:=hk ls ha hl2;have e2':=hkh ls ha hl2;have e3:=hi p l ls bl gl ha hl2;have e4:=hs p l ls bl gl ha hl2;obtain ⟨s1,s2⟩:=a3a p l ls;have e6:=he ls (fun l hl=>(ha l hl).1) hl2
  have e7:=hee (mmT p l ls) (by omega) (fun r hr=>⟨by have:=(s2 r hr).1; omega,(s2 r hr).2⟩)
  have e8:=hmk ls (some ls.length) 1 hl2 (by omega) (fun l hl=>(ha l hl).1)
  have hLL:(ls.map bt).length=ls.length:=ah ..;have htl:(ls.map bt).take ls.length=ls.map bt:=av (by omega)
  have hk1:¬ ((1+64*ls.length:Nat):Int)<0:=by omega
  have e01:((1:Nat):Int)=1:=rfl
  by_cases hz:mmT p l ls=[]
  ·have e5:=hi0 p l ls (some ls.length) bl gl ha hl2 hz
   have e9:=hmk0 1;have e10:=hhd 1 0 0 (by omega) (by omega) (by omega)
   rw [hz] at e3 e4 e7;rw [show mz 1 0 0=[] from rfl] at e10;rw [show rm []=.sl .leaf [] from rfl] at e3 e4 e7 e10;rw [e01] at e8 e10;generalize ((1+64*ls.length:Nat):Int)=k0 at *;generalize (gz 1 ls.length).map bt=QD at *;generalize me p l ls 0 4=cc at *;generalize (1048576:Int)-ls.length=left at *;generalize ls.map bt=LD at *;generalize ls.length=n at *;simp -implicitDefEqProofs [Z1h,Z1h_B,ap,e0,hn0,e1,e2,e2',e3,e4,e5,e6,e7,e8,e9,e10,hLL,htl,hk1,List.replicate,List.idxOf,List.findIdx,List.findIdx.go]
  ·have hpos:0<(mmT p l ls).length:=iw.2 hz
   obtain ⟨cp,e5⟩:=hi1 p l ls (some ls.length) bl gl ha hl2 hpos;have e9:=hmk2 (mmT p l ls) cp 1 (mmT p l ls).length (by omega) (by omega) (by omega) s2
   have e10:=hhd 1 (mmT p l ls).length (mmT p l ls).length (by omega) (by omega) (by omega)
   have hr1:=Dn (mmT p l ls) rfl;have hr2:=Dn (mz 1 (mmT p l ls).length (mmT p l ls).length) (i8 ..);have hd1:((mmT p l ls).map fun r=>D.sl (.arr 64 .leaf) (r.map bt)).length=(mmT p l ls).length:=ah ..
   have hd2:((mz 1 (mmT p l ls).length (mmT p l ls).length).map fun r=>D.sl (.arr 64 .leaf) (r.map bt)).length=(mmT p l ls).length:=by rw [ah,i8]
   have ht1:((mmT p l ls).map fun r=>D.sl (.arr 64 .leaf) (r.map bt)).take (mmT p l ls).length=(mmT p l ls).map fun r=>D.sl (.arr 64 .leaf) (r.map bt):=av (by omega)
   have ht2:((mz 1 (mmT p l ls).length (mmT p l ls).length).map fun r=>D.sl (.arr 64 .leaf) (r.map bt)).take (mmT p l ls).length=(mz 1 (mmT p l ls).length (mmT p l ls).length).map fun r=>D.sl (.arr 64 .leaf) (r.map bt):=av (by omega)
   have hk2:¬ ((1+64*(mmT p l ls).length*(mmT p l ls).length:Nat):Int)<0:=by omega
   rw [e01] at e8 e9 e10;unfold rm at e3 e4 e7 e10;generalize ((1+64*ls.length:Nat):Int)=k0 at *;generalize ((1+64*(mmT p l ls).length*(mmT p l ls).length:Nat):Int)=k2 at *;generalize (gz 1 ls.length).map bt=QD at *;generalize me p l ls 0 4=cc at *;generalize (1048576:Int)-ls.length=left at *;generalize ls.map bt=LD at *;generalize ls.length=n at *;generalize (mz 1 (mmT p l ls).length (mmT p l ls).length).map t7=MA at *;generalize (mmT p l ls).map t7=TA at *;generalize ((mz 1 (mmT p l ls).length (mmT p l ls).length).map fun r=>D.sl (.arr 64 .leaf) (r.map bt))=MD at *
   generalize ((mmT p l ls).map fun r=>D.sl (.arr 64 .leaf) (r.map bt))=TD at *
   generalize List.range (mmT p l ls).length=IX at *;generalize (mmT p l ls).length=tn at *;simp -implicitDefEqProofs [Z1h,Z1h_B,ap,e0,hn0,e1,e2,e2',e3,e4,e5,e6,e7,e8,e9,e10,hLL,htl,hk1,hk2,hr1,hr2,hd1,hd2,ht1,ht2,List.replicate,List.idxOf,List.findIdx,List.findIdx.go]
end Pe

namespace Pe
open Go
theorem Ew:∀(xs:List D),(∀x∈xs,tyP.has x)→∃ls:List (List Int),xs=ls.map bt∧xj ls
 | [],_=>⟨[],rfl,fun _ h=>by cases h⟩
 | x::xs,h=>by
  obtain ⟨ls,rfl,hb⟩:=Ew xs fun y hy=>h y (p8 _ hy)
  obtain ⟨l,rfl,b,g⟩:=a19 (h x (by simp))
  refine ⟨l::ls,rfl,fun y hy=>?_⟩
  rcases d5.1 hy with rfl | hy
  ·exact ⟨g,b⟩
  ·exact hb y hy
abbrev tyPs:Ty:=.sl tyP
theorem a30 {d:D} (h:tyPs.has d):∃ls:List (List Int),d=.sl (.arr 64 .leaf) (ls.map bt)∧xj ls∧ls.length≤9223372036854775807:=by
 cases d <;> simp only [Ty.has] at h
 obtain ⟨rfl,h1,h2⟩:=h;obtain ⟨ls,rfl,hb⟩:=Ew _ h2;exact ⟨ls,rfl,hb,by simpa using h1⟩
end Pe
