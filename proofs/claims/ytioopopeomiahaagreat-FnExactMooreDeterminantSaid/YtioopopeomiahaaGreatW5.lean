/-
  A part of the proof: an evaluator for a small form of the code, its soundness, and contracts of functions over it.
-/
import Derived.Test.YtioopopeomiahaaGreatW1
import Derived.Test.YtioopopeomiahaaGreatW2
import Derived.Test.YtioopopeomiahaaGreatW3
import Derived.Test.YtioopopeomiahaaGreatW4

namespace Pe
open Go Gq
variable {T:Nat→Option Fn} {A:ah}
open Classical in
def Hy (O:ah):Prop:=∀(p:Int) [IsP p] (a:Fp p),a.len≤13→ask O Fy [(D.int .i64 p),(D.sl .leaf (am .i64 (row a)))]=some (D.bool (decide (Monic a∧Irr a)))
open Classical in
theorem a0e (hT:T Fy=some Zy) (hld:v9 (den T A)) (hdg:jy (den T A)) (hf:V9 (den T A)):Hy (den T A):=by
 intro p i a hal;have e1:=hld (row a) (by rw [bp]; omega)
 rw [Dj] at e1;have e2:=hdg (row a) (by rw [bp]; omega)
 rw [bp] at e2;refine bu hT rfl ?_
 by_cases h1:a.ld=1
 ·have h1':=(vj a.ld).2 h1
  have hM:=(Ey a).2 h1;rw [h1'] at e1
  by_cases h2:2≤a.len
  ·obtain ⟨f1,f2,e3⟩:=hf p a hM.2 hal
   have hiff:=a1n hM f1;have hlt:¬ ((a.len:Int)-1<1):=by omega
   have hlt2:¬ ((a.len:Int)<2):=by omega
   have hlt3:(2:Int)≤a.len:=by omega
   have key:(∃q,fac a=[(q,1)])↔(Monic a∧Irr a):=⟨fun h=>⟨hM,hiff.1 h⟩,fun h=>hiff.2 h.2⟩
   generalize fac a=L at *;cases L with
   | nil=>
    rw [decide_eq_false (fun h0=>by obtain ⟨q,h⟩:=key.2 h0; cases h)]
    simp -implicitDefEqProofs [Zy,Zy_B,ao,e1,e2,e3,hlt]
   | cons x L=>
    cases L with
    | nil=>
     obtain ⟨q,k⟩:=x
     by_cases hk:k=1
     ·subst hk
      rw [decide_eq_true (key.1 ⟨q,rfl⟩)];simp -implicitDefEqProofs [Zy,Zy_B,ao,e1,e2,e3,hlt,kh]
     ·rw [decide_eq_false (fun h0=>by obtain ⟨q',h⟩:=key.2 h0; simp at h; exact hk h.2)]
      have hk':¬ ((k:Int)=1):=by omega
      simp -implicitDefEqProofs [Zy,Zy_B,ao,e1,e2,e3,hlt,kh,hk']
    | cons y L=>
     rw [decide_eq_false (fun h0=>by obtain ⟨q',h⟩:=key.2 h0; simp at h)]
     have hk':¬ (((L.length:Int)+1+1)=1):=by omega
     simp -implicitDefEqProofs [Zy,Zy_B,ao,e1,e2,e3,hlt,hk']
  ·have hlt:((a.len:Int)-1<1):=by omega
   have hlt2:((a.len:Int)<2):=by omega
   rw [decide_eq_false (fun h=>h2 h.2.len)]
   simp -implicitDefEqProofs [Zy,Zy_B,ao,e1,e2,hlt]
 ·have h1':=mt (vj a.ld).1 h1
  rw [decide_eq_false (fun h=>h1 h.1.1)]
  simp -implicitDefEqProofs [Zy,Zy_B,ao,e1,h1']
def Cl (O:ah):Prop:=∀(p:Int) (l:List Int),i5 l→l.length=64→ask O F4 [(D.int .i64 p),(D.arr 64 .leaf (am .u8 l))]=some (D.bool (isP p&&rl p l))
theorem Vv (hT:T F4=some Z4) (hp:zy (den T A)) (hi:yw (den T A)):Cl (den T A):=by
 intro p l hb hl;have e1:=hp p;have e2:=hi p l hb hl;refine bu hT rfl ?_
 by_cases h:isP p=true
 ·simp -implicitDefEqProofs [Z4,Z4_B,e1,e2,h]
 ·simp -implicitDefEqProofs [Z4,Z4_B,e1,h]
structure Fld {p:Int} [IsP p] (m:Fp p):Prop where
 mon:Monic m
 two:2≤m.len
 five:m.len≤5
 irr:Irr m
def Au (p:Int) (l:List Int):Prop:=∃(_:IsP p) (m:Fp p),l=pad (row m)∧Fld m
theorem G4 {p:Int} {l:List Int} (h:isP p=true→rl p l=false):¬ Au p l:=by
 rintro ⟨ip,m,rfl,hm⟩
 have:=h yx;rw [vd] at this;cases this
theorem md {p:Int} [IsP p] {a:Fp p} (hl:a.len≤64):Au p (pad (row a))↔Fld a:=by
 constructor
 ·rintro ⟨ip,m,e,hm⟩
  have hml:=hm.five;rw [(uh hl (by omega)).1 e]
  exact hm
 ·intro h; exact ⟨_,a,rfl,h⟩
open Classical in
def Ae (O:ah):Prop:=∀(p:Int) (l:List Int),i5 l→l.length=64→ask O Fj [(D.int .i64 p),(D.arr 64 .leaf (am .u8 l))]=some (D.bool (decide (Au p l)))
open Classical in
theorem Tn (hT:T Fj=some Zj) (hro:ze (den T A)) (hip:Cl (den T A)) (hdg:jy (den T A)) (hwi:Cm (den T A)) (hir:Hy (den T A)):Ae (den T A):=by
 intro p l hb hl;have e1:=hro l hb hl;have e2:=hip p l hb hl;refine bu hT rfl ?_;rcases a7r p hb hl with ⟨h1,h2⟩ | ⟨ip,a,hal,rfl⟩
 ·have h3:(isP p&&rl p l)=false:=by
   cases hx:isP p
   ·rfl
   ·rw [h2 hx]; rfl
  rw [decide_eq_false (G4 h2)];rw [h3] at e2;simp -implicitDefEqProofs [Zj,Zj_B,e1,e2]
 ·rw [yx,vd] at e2
  rw [E6 a hal] at e1;have e3:=hdg (row a) (by rw [bp]; omega)
  rw [bp] at e3;have e4:=hwi ((a.len:Int)-1) 1 4
  by_cases h:2≤a.len∧a.len≤5
  ·have h3:decide ((1:Int)≤(a.len:Int)-1∧(a.len:Int)-1≤4)=true:=decide_eq_true (by omega)
   rw [h3] at e4;have e5:=hir p a (by omega)
   have h6:decide (Au p (pad (row a)))=decide (Monic a∧Irr a):=decide_eq_decide.2 ((md hal).trans ⟨fun g=>⟨g.mon,g.irr⟩,fun g=>⟨g.1,h.1,h.2,g.2⟩⟩)
   rw [h6];generalize decide (Monic a∧Irr a)=b at *;generalize pad (row a)=Pa at *;simp -implicitDefEqProofs [Zj,Zj_B,e1,e2,e3,e4,e5]
  ·have h3:decide ((1:Int)≤(a.len:Int)-1∧(a.len:Int)-1≤4)=false:=decide_eq_false (by omega)
   rw [h3] at e4;rw [decide_eq_false (fun g=>h ⟨((md hal).1 g).two,((md hal).1 g).five⟩)]
   generalize pad (row a)=Pa at *;simp -implicitDefEqProofs [Zj,Zj_B,e1,e2,e3,e4]
open Classical in
def Ei (O:ah):Prop:=∀(p:Int) (l:List Int),i5 l→l.length=64→ask O F2w [(D.int .i64 p),(D.arr 64 .leaf (am .u8 l))]=some (D.bool (decide (Au p l)))
open Classical in
theorem Y9 (hT:T F2w=some Z2w) (his:Qw (den T A)) (hmo:Ck (den T A)) (hdg:iz (den T A)) (hin:V4 (den T A)) (hir:Ok (den T A)):Ei (den T A):=by
 intro p l hb hl;have e1:=his p l hb hl;refine bu hT rfl ?_;rcases a7r p hb hl with ⟨h1,h2⟩ | ⟨ip,a,hal,rfl⟩
 ·have h3:(rl p l&&isP p)=false:=by
   cases hx:isP p
   ·rw [Bool.and_false]
   ·rw [h2 hx]; rfl
  rw [decide_eq_false (G4 h2)];rw [h3] at e1;simp -implicitDefEqProofs [Z2w,Z2w_B,e1]
 ·rw [yx,vd] at e1
  have e2:=hmo p a hal;have e3:=hdg p a hal;have e4:=hin ((a.len:Int)-1) 1 4
  by_cases hM:Monic a
  ·rw [decide_eq_true hM] at e2
   by_cases h:2≤a.len∧a.len≤5
   ·have h3:decide ((1:Int)≤(a.len:Int)-1∧(a.len:Int)-1≤4)=true:=decide_eq_true (by omega)
    rw [h3] at e4;have e5:=hir p a hM.2 (by omega)
    have h6:decide (Au p (pad (row a)))=decide (Irr a):=decide_eq_decide.2 ((md hal).trans ⟨fun g=>g.irr,fun g=>⟨hM,h.1,h.2,g⟩⟩)
    rw [h6];generalize decide (Irr a)=b at *;generalize pad (row a)=Pa at *;simp -implicitDefEqProofs [Z2w,Z2w_B,e1,e2,e3,e4,e5]
   ·have h3:decide ((1:Int)≤(a.len:Int)-1∧(a.len:Int)-1≤4)=false:=decide_eq_false (by omega)
    rw [h3] at e4;rw [decide_eq_false (fun g=>h ⟨((md hal).1 g).two,((md hal).1 g).five⟩)]
    generalize pad (row a)=Pa at *;simp -implicitDefEqProofs [Z2w,Z2w_B,e1,e2,e3,e4]
  ·rw [decide_eq_false hM] at e2
   rw [decide_eq_false (fun g=>hM ((md hal).1 g).mon)]
   generalize pad (row a)=Pa at *;simp -implicitDefEqProofs [Z2w,Z2w_B,e1,e2]
def pk {p:Int} [IsP p] (m:Fp p) (l:List Int):Prop:=∃a:Fp p,a.len<m.len∧l=pad (row a)
noncomputable abbrev uf {p:Int} (m:Fp p):D:=.st [.leaf,.leaf] [.int .i64 p,(D.sl .leaf (am .i64 (row m)))]
open Classical in
def Ce (O:ah):Prop:=∀(p:Int) [IsP p] (m:Fp p) (l:List Int),m.len≤64→i5 l→l.length=64→ask O Fg [uf m,(D.arr 64 .leaf (am .u8 l))]=some (D.bool (decide (pk m l)))
theorem Gx {p:Int} [IsP p] {m a:Fp p} (hm:m.len≤64) (ha:a.len≤64):pk m (pad (row a))↔a.len<m.len:=by
 constructor
 ·rintro ⟨b,h1,h2⟩
  rw [(uh ha (by omega)).1 h2]; exact h1
 ·intro h; exact ⟨a,h,rfl⟩
open Classical in
theorem Yk (hT:T Fg=some Zg) (hi:yw (den T A)) (hro:ze (den T A)) (hdg:jy (den T A)):Ce (den T A):=by
 intro p ip m l hm hb hl;have e1:=hi p l hb hl;refine bu hT rfl ?_
 by_cases h:rl p l=true
 ·obtain ⟨a,hal,rfl⟩:=vh hb hl h
  rw [h] at e1;have e2:=hro _ hb hl;rw [E6 a hal] at e2;have e3:=hdg (row a) (by rw [bp]; omega)
  rw [bp] at e3;have e4:=hdg (row m) (by rw [bp]; omega)
  rw [bp] at e4;have h5:decide ((a.len:Int)-1<(m.len:Int)-1)=decide (pk m (pad (row a))):=decide_eq_decide.2 ((show _↔a.len<m.len by omega).trans (Gx hm hal).symm)
  rw [←h5];generalize pad (row a)=Pa at *;simp -implicitDefEqProofs [Zg,Zg_B,e1,e2,e3,e4]
 ·rw [decide_eq_false (fun ⟨a,h1,h2⟩=>h (by rw [h2]; exact vd))]
  have h':rl p l=false:=by simpa using h
  rw [h'] at e1;simp -implicitDefEqProofs [Zg,Zg_B,e1]
open Classical in
def Ho (O:ah):Prop:=∀(p:Int) [IsP p] (m:Fp p) (l:List Int),m.len≤64→i5 l→l.length=64→ask O F2z [(D.int .i64 p),(D.arr 64 .leaf (am .u8 (pad (row m)))),(D.arr 64 .leaf (am .u8 l))]=some (D.bool (decide (pk m l)))
open Classical in
theorem a3m (hT:T F2z=some Z2z) (hi:Qw (den T A)) (hdg:iz (den T A)):Ho (den T A):=by
 intro p ip m l hm hb hl;have e1:=hi p l hb hl;refine bu hT rfl ?_
 by_cases h:rl p l=true
 ·obtain ⟨a,hal,rfl⟩:=vh hb hl h
  rw [h,yx] at e1;have e3:=hdg p a hal;have e4:=hdg p m hm;have h5:decide ((a.len:Int)-1<(m.len:Int)-1)=decide (pk m (pad (row a))):=decide_eq_decide.2 ((show _↔a.len<m.len by omega).trans (Gx hm hal).symm)
  rw [←h5];generalize pad (row a)=Pa at *;generalize pad (row m)=Pm at *;simp -implicitDefEqProofs [Z2z,Z2z_B,e1,e3,e4]
 ·rw [decide_eq_false (fun ⟨a,h1,h2⟩=>h (by rw [h2]; exact vd))]
  have h':(rl p l&&isP p)=false:=by
   have:rl p l=false:=by simpa using h
   rw [this]; rfl
  rw [h'] at e1;generalize pad (row m)=Pm at *;simp -implicitDefEqProofs [Z2z,Z2z_B,e1]
def wx (O:ah):Prop:=∀(p:Int) [IsP p] (m:Fp p),m.len≤64→ask O Fc [(D.int .i64 p),(D.arr 64 .leaf (am .u8 (pad (row m))))]=some (uf m)
theorem Tg (hT:T Fc=some Zc) (hro:yy (den T A)):wx (den T A):=by
 intro p ip m hm;have e1:=hro p m hm;refine bu hT rfl ?_;generalize pad (row m)=Pm at *;simp -implicitDefEqProofs [Zc,Zc_B,e1,List.replicate]
end Pe



namespace Pe
open Go Gq
variable {T:Nat→Option Fn} {A:ah}
end Pe

namespace Pe
open Go Gq
variable {T:Nat→Option Fn} {A:ah}
section
variable {p:Int} [IsP p]
noncomputable def gi (m:Fp p):Nat→Fp p→Fp p
 | 0,a=>a
 | k+1,a=>gi m k (pw a p.toNat%m)
theorem rf {m:Fp p} (hm:m≠0):∀(k:Nat) (a:Fp p),a.len<m.len→(gi m k a).len<m.len
 | 0,_,h=>h
 | k+1,_a,_=>rf hm k _ (Pol.len_mod _ hm)
theorem Im {m:Fp p}:∀(k:Nat) (a:Fp p),Quo.mk m (gi m k a)=pw (Quo.mk m a) (p.toNat^k)
 | 0,a=>by rw [nk,yu]; rfl
 | k+1,a=>by
  show Quo.mk m (gi m k (pw a p.toNat%m))=_;rw [Im k,Pol.mk_mod,Quo.mk_pow,sr,lc,u9]
theorem zl {m:Fp p} (hm:Fld m) (k:Nat) {a:Fp p} (ha:a.len<m.len):gi m (k%(m.len-1)) a=gi m k a:=by
 have h2:=hm.two;have h5:=hm.five
 have small:p^(m.len-1)<1000000000000:=by
  have h1:=kr (p:=p) (by have:=IsP.pos (p:=p); omega) (show m.len-1≤12 by omega)
  have h7:=ot (p:=p) (n:=12) (by omega)
  omega
 have hd:∀x:Quo m,pw x (p.toNat^(m.len-1))=x:=D0 hm.irr (by omega) small
 have hq:∀(q:Nat) (x:Quo m),pw x (p.toNat^((m.len-1)*q))=x:=by
  intro q
  induction q with
  | zero=>intro x; rw [Nat.mul_zero,nk,yu]
  | succ q ih=>intro x; rw [Nat.mul_succ,Nat.pow_add,←sr,ih,hd]
 have h0:m≠0:=hm.mon.2
 have e:Quo.mk m (gi m (k%(m.len-1)) a)=Quo.mk m (gi m k a):=by
  rw [Im,Im];have hk:k=(m.len-1)*(k/(m.len-1))+k%(m.len-1):=(Nat.div_add_mod k (m.len-1)).symm;have:p.toNat^k=p.toNat^((m.len-1)*(k/(m.len-1)))*p.toNat^(k%(m.len-1)):=by rw [←Nat.pow_add,←hk]
  rw [this,←sr,hq]
 have e2:=(Pol.mod_eq_iff h0).2 e
 rwa [Pol.mod_small (rf h0 _ _ ha),Pol.mod_small (rf h0 _ _ ha)] at e2
noncomputable def jw (m a:Fp p):Fp p:=(Pol.bezout a m).2.1%m
theorem Bq {m a:Fp p} (hm:Fld m) (ha:a≠0) (hal:a.len<m.len):Quo.mk m (jw m a)*Quo.mk m a=1:=by
 have h0:m≠0:=hm.mon.2;have e:=Pol.bezout_eq (a:=a) (b:=m) (.inl ha)
 have hg:Pol.gcd a m=1:=by
  have h1:=Pol.gcd_monic (a:=a) (b:=m) (.inl ha);have h2:=Pol.gcd_dv_left (a:=a) (b:=m) (.inl ha);have h3:=Pol.gcd_dv_right (a:=a) (b:=m) (.inl ha);refine h1.eq_one ?_;rcases hm.irr.dv h3 with h | h
  ·exact h
  ·have:=h2.len ha
   omega
 rw [hg] at e;unfold jw;rw [Pol.mk_mod];have:Quo.mk m ((Pol.bezout a m).2.1*a+(Pol.bezout a m).2.2*m)=Quo.mk m 1:=by rw [e]
 rw [Quo.mk_add,Quo.mk_mul,Quo.mk_mul] at this;have hm0:Quo.mk m m=0:=ko.1 (Dv.refl m);rw [hm0,Gq.mul_zero,Gq.add_zero] at this;exact this
end
theorem W4 {p:Int} [IsP p] {a b:Fp p} {n:Nat} (ha:a.len≤n) (hb:b.len≤n):(a*b).len≤2*n:=by
 by_cases h:a=0
 ·rw [h,Gq.zero_mul,Pol.len_zero]; omega
 ·by_cases h2:b=0
  ·rw [h2,Gq.mul_zero,Pol.len_zero]; omega
  ·have:=Pol.len_mul h h2; omega
def xb (O:ah):Prop:=∀(p:Int) [IsP p] (m a b:Fp p),m≠0→m.len≤64→a.len≤1000→b.len≤1000→ask O Fi [uf m,(D.sl .leaf (am .i64 (row a))),(D.sl .leaf (am .i64 (row b)))]=some (D.sl .leaf (am .i64 (row (a*b%m))))
theorem Rx (hT:T Fi=some Zi) (ht:ta (den T A)) (hr:y8 (den T A)):xb (den T A):=by
 intro p ip m a b hm hml ha hb;have e1:=ht p a b (by omega) (by omega)
 have hl:=W4 (n:=1000) ha hb;have e2:=hr p (a*b) m hm (by omega) (by omega)
 refine bu hT rfl ?_;simp -implicitDefEqProofs [Zi,Zi_B,e1,e2]
theorem Xy {O:ah} (hpw:td O) {p:Int} [IsP p] {m:Fp p} (hm:m≠0) (hml:m.len≤64) {n:Nat} (hn:n<1000000):∀(k i:Nat) (a:Fp p),i+k=n→a.len≤1000 →
 dn O 0 (.loop Zf_L0) ⟨[(1,(.d (.sl .leaf (am .i64 (row a))))),(3,.ptr 0 []),(11,(.d (.int .i64 n))),(12,(.d (.int .i64 i)))],[.box false (uf m)]⟩ =
  some (.exit 0,⟨[(1,(.d (.sl .leaf (am .i64 (row (gi m k a)))))),(3,.ptr 0 []),(11,(.d (.int .i64 n))),(12,(.d (.int .i64 n))),(13,(.d (.bool false)))],[.box false (uf m)]⟩)
 | 0,i,a,hi,ha=>by
  obtain rfl:i=n:=by omega
  exact bv (by simp -implicitDefEqProofs [Zf_L0,ao,gi])
 | k+1,i,a,hi,ha=>by
  have hp:=IsP.pos (p:=p);have hp7:=IsP.le (p:=p);have hlt:i<n:=by omega
  have w4:IntKind.i64.wrap ((i:Int)+1)=((i+1:Nat):Int):=(w64 (x:=(i:Int)+1) (by omega)).trans (by omega)
  have e1:=hpw p a p m hm (by omega) (by omega) (by omega) (by omega)
  have hl:=Pol.len_mod (pw a p.toNat) hm;refine bq ?_ (Xy hpw hm hml hn k (i+1) (pw a p.toNat%m) (by omega) (by omega))
  simp -implicitDefEqProofs [Zf_L0,ao,hlt,e1,w4]
def Ej (O:ah):Prop:=∀(p:Int) [IsP p] (m a:Fp p) (k:Nat),2≤m.len→m.len≤64→a.len≤1000→k<1000000→ask O Ff [uf m,(D.sl .leaf (am .i64 (row a))),(D.int .i64 k)]=some (D.sl .leaf (am .i64 (row (gi m (k%(m.len-1)) a))))
theorem a4g (hT:T Ff=some Zf) (hpw:td (den T A)) (hdg:jy (den T A)):Ej (den T A):=by
 intro p ip m a k h2 hml ha hk;have hm:m≠0:=fun h=>by rw [h,Pol.len_zero] at h2; omega
 have e1:=hdg (row m) (by rw [bp]; omega)
 rw [bp,show ((m.len:Int)-1)=((m.len-1:Nat):Int) by omega] at e1
 have hlt:=Nat.mod_lt k (show 0<m.len-1 by omega)
 have e2:=Xy (O:=den T A) hpw hm hml (n:=k%(m.len-1)) (by omega) (k%(m.len-1)) 0 a (bi _) ha
 have e00:((0:Nat):Int)=0:=rfl;rw [e00] at e2;have w1:(k:Int).tmod ((m.len-1:Nat):Int)=((k%(m.len-1):Nat):Int):=by rw [cd (by omega)]; rfl
 have h0:((m.len-1:Nat):Int)≠0:=by omega
 refine bu hT rfl ?_;generalize row (gi m (k%(m.len-1)) a)=R at *;generalize ((k%(m.len-1):Nat):Int)=n1 at *;generalize ((m.len-1:Nat):Int)=m1 at *;simp -implicitDefEqProofs [Zf,Zf_B,e1,e2,w1,h0]
theorem a4d {p:Int} [IsP p] {a b:Fp p} (h:a≠0) (hb:b.len≤63):(Pol.bezout a b).2.1.len≤64:=by
 obtain ⟨x,y,hi,_,_⟩:=Pol.bz_spec b.len a b 1 0 0 1 (b9 _) (Pol.BzI.init (.inl h));have h1:=hi.lu;rw [Pol.len_zero] at h1;have:(Pol.bezout a b).2.1.len≤(Pol.bz b.len a b 1 0 0 1).2.1.len:=Pol.len_le (Pol.lt_Cmul _ (Pol.lt_len _));omega
end Pe

namespace Pe
open Go Gq
variable {T:Nat→Option Fn} {A:ah}
section
variable {p:Int} [IsP p]
theorem Oj {m:Fp p} (h2:2≤m.len):(1:Quo m)≠0:=fun h=>by
 have:Dv m 1:=ko.2 h;have:=this.len Pol.one_ne;rw [Pol.len_one] at this;omega
theorem a3j {m c:Fp p} (hm:Fld m) (hc:c≠0) (hcl:c.len<m.len) (k:Nat):pw c k%m≠0∧(pw c k%m).len<m.len:=by
 have h0:m≠0:=hm.mon.2;refine ⟨fun h=>?_,Pol.len_mod _ h0⟩
 have h1:Quo.mk m (pw c k)=0:=by rw [←Pol.mk_mod,h]; rfl
 rw [Quo.mk_pow] at h1;have h2:=Bq hm hc hcl;have h3:pw (Quo.mk m (jw m c)*Quo.mk m c) k=0:=by rw [uq,h1,Gq.mul_zero]
 rw [h2,Cy] at h3;exact Oj hm.two h3
end
end Pe


namespace Pe
open Go Gq
variable {T:Nat→Option Fn} {A:ah}
def ui (O:ah):Prop:=∀(l:List Int),i5 l→l.length=64→ask O F1n [(D.arr 64 .leaf (am .u8 l))]=some (D.arr 64 .leaf (am .u8 l))
theorem Jg {O:ah} {l:List Int} (hb:i5 l) (hl:l.length=64) {b1:Blk}:∀(m i:Nat) (q:List Int),i+m=64→q.length=64→q.take i=l.take i →
 dn O 0 (.loop Z1n_L0) ⟨[(1,.ptr 0 []),(2,.ptr 1 []),(3,.ptr 2 []),(4,(.d (.int .i64 i)))],[.box false (D.arr 64 .leaf (am .u8 l)),b1,.box false (D.arr 64 .leaf (am .u8 q))]⟩ =
  some (.exit 0,⟨[(1,.ptr 0 []),(2,.ptr 1 []),(3,.ptr 2 []),(4,(.d (.int .i64 64))),(6,(.d (.bool false)))],[.box false (D.arr 64 .leaf (am .u8 l)),b1,.box false (D.arr 64 .leaf (am .u8 l))]⟩)
 | 0,i,q,hi,hq,ht=>by
  obtain rfl:i=64:=by omega
  rw [b5 (by omega),b5 (by omega)] at ht
  subst ht;exact bv (by simp -implicitDefEqProofs [Z1n_L0,ao])
 | m+1,i,q,hi,hq,ht=>by
  have hlt:i<64:=by omega
  have hlti:(i:Int)<64:=by omega
  have hlt':i<l.length:=by omega
  have hltq:i<q.length:=by omega
  have hx:l[i]=cf l i:=(e8 hlt').symm;have w8':IntKind.u8.wrap (cf l i)=cf l i:=by rw [←hx]; exact w8 (hb _ (bm _))
  have w4:IntKind.i64.wrap ((i:Int)+1)=((i+1:Nat):Int):=(w64 (x:=(i:Int)+1) (by omega)).trans (by omega)
  have hs:am .u8 (q.set i (cf l i))=(am .u8 q).set i (D.int .u8 (cf l i)):=by unfold am; rw [ua]
  refine bq ?_ (Jg hb hl m (i+1) (q.set i (cf l i)) (by omega) (by rw [br]; exact hq) (by
   rw [c8 hlt',c8 (by rw [br]; exact hltq),List.getElem_set_self,List.take_set,List.set_eq_of_length_le (by rw [ba]; omega),ht,hx]))
  rw [hs];simp -implicitDefEqProofs [Z1n_L0,ao,hlt,hlti,hx,hl,hq,w4]
theorem W6 (hT:T F1n=some Z1n):ui (den T A):=by
 intro l hb hl;have e:=Jg (O:=den T A) hb hl (b1:=.box false (.arr 64 .leaf (am .u8 (pad [])))) 64 0 (List.replicate 64 0) rfl rfl (by simp)
 have e00:((0:Nat):Int)=0:=rfl;rw [e00] at e;have hz:List.replicate 64 (0:Int)=pad []:=rfl;rw [hz] at e;refine bu hT rfl ?_;simp -implicitDefEqProofs [Z1n,Z1n_B,e]
end Pe

namespace Pe
open Go Gq
variable {T:Nat→Option Fn} {A:ah}
theorem L0 {O:ah} {l:List Int} (hl:l.length=64):∀(k i:Nat),i+k=64 →
 dn O 0 (.loop Z1k_L0) ⟨[(2,.ptr 0 []),(3,.ptr 1 []),(5,(.d (.int .i64 i)))],[.box false (D.arr 64 .leaf (am .u8 l)),.box false (D.arr 64 .leaf (am .u8 l))]⟩=some (.exit 0,⟨[(2,.ptr 0 []),(3,.ptr 1 []),(5,(.d (.int .i64 64))),(7,(.d (.bool false)))],[.box false (D.arr 64 .leaf (am .u8 l)),.box false (D.arr 64 .leaf (am .u8 l))]⟩)
 | 0,i,hi=>by
  obtain rfl:i=64:=by omega
  exact bv (by simp -implicitDefEqProofs [Z1k_L0,ao])
 | k+1,i,hi=>by
  have hlt:i<64:=by omega
  have hlti:(i:Int)<64:=by omega
  have hlt':i<l.length:=by omega
  have hx:l[i]=cf l i:=(e8 hlt').symm;have w4:IntKind.i64.wrap ((i:Int)+1)=((i+1:Nat):Int):=(w64 (x:=(i:Int)+1) (by omega)).trans (by omega)
  refine bq ?_ (L0 hl k (i+1) (by omega))
  simp -implicitDefEqProofs [Z1k_L0,ao,hlt,hlti,hl,hx,w4]
def ur (O:ah):Prop:=∀l:List Int,l.length=64→ask O F1k [(D.arr 64 .leaf (am .u8 l)),(D.arr 64 .leaf (am .u8 l))]=some (D.bool true)
theorem W2 (hT:T F1k=some Z1k):ur (den T A):=by
 intro l hl;have e:=L0 (O:=den T A) hl 64 0 rfl;have e00:((0:Nat):Int)=0:=rfl;rw [e00] at e;refine bu hT rfl ?_;simp -implicitDefEqProofs [Z1k,Z1k_B,e,List.replicate]
end Pe

namespace Pe
open Go Gq
variable {T:Nat→Option Fn} {A:ah}
section
variable {p:Int} [IsP p]
noncomputable def svI (m x:Fp p):Nat→List (Fp p)→Fp p→Fp p
 | _,[],out=>out
 | i,c::cs,out=>svI m x (i+1) cs (out+c*gi m (i%(m.len-1)) x%m)
theorem Qd {m x:Fp p} (hm:m≠0):∀(i:Nat) (a:List (Fp p)) (out:Fp p),out.len<m.len→(svI m x i a out).len<m.len
 | _,[],_,h=>h
 | i,c::cs,out,h=>Qd hm (i+1) cs _ (by
  have h1:=Pol.len_mod (c*gi m (i%(m.len-1)) x) hm;have:=Pol.len_add_le (a:=out) (b:=c*gi m (i%(m.len-1)) x%m) (n:=m.len-1) (by omega) (by omega)
  omega)
end
section
variable {p:Int}
end
end Pe


namespace Pe
open Go Gq
variable {T:Nat→Option Fn} {A:ah}
theorem X0 {p:Int} [IsP p] {m:Fp p} {ls:List (List Int)} (hm:m.len≤64) (h:Bp ls) (hi:Ce (den T A)):∃P:D→Bool,(∀l∈ls,P (ee l)=true↔pk m l)∧re (den T A) Fg [uf m] [] (ls.map ee) P:=by
 classical
 refine ⟨fun x=>decide (pk m x.nums),fun l hl=>by show decide (pk m (ee l).nums)=true↔_; rw [Eu]; simp,fun x hx=>by simp at hx; subst hx; rfl,fun x hx=>by simp at hx,fun x hx=>?_,fun x hx=>?_⟩
 ·obtain ⟨n,_,rfl⟩:=cg.1 hx; rfl
 ·obtain ⟨l,hl,rfl⟩:=cg.1 hx
  have e:=hi p m l hm (h l hl).2 (h l hl).1;show ask (den T A) _ _=some (.bool (decide (pk m (ee l).nums)));rw [Eu];exact e
def Eo {p:Int} [IsP p] (m:Fp p) (ls:List (List Int)):Prop:=∀l∈ls,pk m l
open Classical in
noncomputable def pj (p:Int) (l:List Int) (ls:List (List Int)):Int:=if ∃(_:IsP p) (m:Fp p),l=pad (row m)∧Fld m∧∀x∈ls,pk m x then 0 else 1
theorem M1 {p:Int} [IsP p] {m:Fp p} (hm:Fld m) {Q:∀(_:IsP p),Fp p→Prop}:(∃(ip:IsP p) (m':Fp p),pad (row m)=pad (row m')∧Fld m'∧Q ip m')↔Q inferInstance m:=by
 have h5:=hm.five;constructor
 ·rintro ⟨ip,m',e,h1,h2⟩
  have h6:=h1.five;obtain rfl:=(uh (by omega) (by omega)).1 e
  exact h2
 ·intro h; exact ⟨_,m,rfl,hm,h⟩
def py (O:ah) (F:Nat):Prop:=∀(p:Int) (l:List Int) (ls:List (List Int)),i5 l→l.length=64→Bp ls→ls.length<2000000→ask O F [(D.int .i64 p),(D.arr 64 .leaf (am .u8 l)),.sl (.arr 64 .leaf) (ls.map ee)]=some (D.int .i64 (pj p l ls))
open Classical in
theorem Sp (hT:T F18=some Z18) (hif:Ae (den T A)) (hfo:wx (den T A)) (his:Ce (den T A)) (ha:x9 (den T A) F9 (.arr 64 .leaf)):py (den T A) F18:=by
 intro p l ls hb hl h hlen;have e1:=hif p l hb hl;refine bu hT rfl ?_;unfold pj
 by_cases hf:Au p l
 ·rw [decide_eq_true hf] at e1
  obtain ⟨ip,m,rfl,hm⟩:=hf;have h5:=hm.five;have e2:=hfo p m (by omega)
  obtain ⟨P,hP,hF⟩:=X0 (m:=m) (by omega) h his
  have e3:=ha _ _ _ _ _ hF (fun x hx=>by obtain ⟨n,_,rfl⟩:=cg.1 hx; rfl) (by rw [az]; exact hlen)
  have hall:(ls.map ee).all P=true↔∀x∈ls,pk m x:=by
   rw [dz];constructor
   ·intro h2 l hl; exact (hP l hl).1 (h2 _ (List.mem_map_of_mem hl))
   ·intro h2 x hx
    obtain ⟨l,hl,rfl⟩:=cg.1 hx;exact (hP l hl).2 (h2 l hl)
  have hc:=(M1 hm (Q:=fun ip m'=>∀x∈ls,@pk p ip m' x)).trans hall.symm
  cases hb1:(ls.map ee).all P
  ·rw [hb1] at e3 hc
   rw [if_neg (fun h=>by have:=hc.1 h; cases this)]
   generalize pad (row m)=Pm at *;generalize ls.map ee=LD at *;simp -implicitDefEqProofs [Z18,Z18_B,ao,e1,e2,e3]
  ·rw [hb1] at e3 hc
   rw [if_pos (hc.2 rfl)];generalize pad (row m)=Pm at *;generalize ls.map ee=LD at *;simp -implicitDefEqProofs [Z18,Z18_B,ao,e1,e2,e3]
 ·rw [decide_eq_false hf] at e1
  rw [if_neg (fun ⟨ip,m,e,hm,_⟩=>hf ⟨ip,m,e,hm⟩)]
  generalize ls.map ee=LD at *;simp -implicitDefEqProofs [Z18,Z18_B,ao,e1]
end Pe

namespace Pe
open Go Gq
variable {T:Nat→Option Fn} {A:ah}
theorem wj {p:Int} [IsP p] {m:Fp p} {l:List Int} {ls:List (List Int)}:Eo m (l::ls)↔pk m l∧Eo m ls:=by simp [Eo]
theorem We {p:Int} [IsP p] (m:Fp p):Eo m []:=fun _ h=>by cases h
end Pe

namespace Pe
open Go Gq
variable {T:Nat→Option Fn} {A:ah}
theorem Q3 {O:ah} (hpw:qa O) {p:Int} [IsP p] {m:Fp p} {z:List Int} (hm:m≠0) (hml:m.len≤64):∀(k:Nat) (a:Fp p),k<1000000→a.len≤64 →
 dn O 0 (.loop Z2x_L0) ⟨[(0,(.d (.int .i64 p))),(5,.ptr 0 []),(7,.ptr 1 []),(8,.ptr 2 []),(9,(.d (.int .i64 k)))],[.box false (D.arr 64 .leaf (am .u8 (pad (row a)))),.box false (D.arr 64 .leaf (am .u8 (pad (row m)))),.box false (D.arr 64 .leaf (am .u8 z))]⟩ =
  some (.exit 0,⟨[(0,(.d (.int .i64 p))),(5,.ptr 0 []),(7,.ptr 1 []),(8,.ptr 2 []),(9,(.d (.int .i64 0))),(15,(.d (.bool false)))],[.box false (D.arr 64 .leaf (am .u8 (pad (row (gi m k a))))),.box false (D.arr 64 .leaf (am .u8 (pad (row m)))),.box false (D.arr 64 .leaf (am .u8 z))]⟩)
 | 0,a,hk,ha=>by
  refine bv ?_;show _=some (_,(⟨_,[.box false (D.arr 64 .leaf (am .u8 (pad (row a)))),_,_]⟩:St));generalize pad (row a)=Pa at *;generalize pad (row m)=Pm at *;simp -implicitDefEqProofs [Z2x_L0,ao]
 | k+1,a,hk,ha=>by
  have hp:=IsP.pos (p:=p);have hp7:=IsP.le (p:=p);have w4:IntKind.i64.wrap (((k+1:Nat):Int)-1)=(k:Int):=(w64 (x:=((k+1:Nat):Int)-1) (by omega)).trans (by omega)
  have hlt:(0:Int)<((k+1:Nat):Int):=by omega
  have e1:=hpw p a p m hm ha hml (by omega) (by omega)
  have hl:=Pol.len_mod (pw a p.toNat) hm;refine bq ?_ (Q3 hpw hm hml k (pw a p.toNat%m) (by omega) (by omega))
  generalize ((k+1:Nat):Int)=k1 at *;generalize pad (row (pw a p.toNat%m))=R at *;generalize pad (row a)=Pa at *;generalize pad (row m)=Pm at *;simp -implicitDefEqProofs [Z2x_L0,ao,hlt,e1,w4]
def wm (O:ah):Prop:=∀(p:Int) [IsP p] (m a:Fp p) (k:Nat),2≤m.len→m.len≤64→a.len≤64→k<1000000→ask O F2x [(D.int .i64 p),(D.arr 64 .leaf (am .u8 (pad (row a)))),(D.int .i64 k),(D.arr 64 .leaf (am .u8 (pad (row m))))]=some (D.arr 64 .leaf (am .u8 (pad (row (gi m (k%(m.len-1)) a)))))
theorem a0c (hT:T F2x=some Z2x) (hpw:qa (den T A)) (hdg:iz (den T A)):wm (den T A):=by
 intro p ip m a k h2 hml ha hk;have hm:m≠0:=fun h=>by rw [h,Pol.len_zero] at h2; omega
 have e1:=hdg p m hml;rw [show ((m.len:Int)-1)=((m.len-1:Nat):Int) by omega] at e1
 have hlt:=Nat.mod_lt k (show 0<m.len-1 by omega)
 have e2:=Q3 (O:=den T A) (z:=pad []) hpw hm hml (k%(m.len-1)) a (by omega) ha
 have w1:(k:Int).tmod ((m.len-1:Nat):Int)=((k%(m.len-1):Nat):Int):=by rw [cd (by omega)]; rfl
 have h0:((m.len-1:Nat):Int)≠0:=by omega
 refine bu hT rfl ?_;generalize pad (row (gi m (k%(m.len-1)) a))=R at *;generalize ((k%(m.len-1):Nat):Int)=n1 at *;generalize ((m.len-1:Nat):Int)=m1 at *;generalize pad (row a)=Pa at *;generalize pad (row m)=Pm at *;simp -implicitDefEqProofs [Z2x,Z2x_B,e1,e2,w1,h0,List.replicate]
section
variable {p:Int}
open Classical in
noncomputable def stl (S:List (Fp p)):Nat→Nat
 | 0=>0
 | n+1=>if S[n]? = some 0 then stl S n else n+1
noncomputable def n7 (S:List (Fp p)):List (Fp p):=S.take (stl S S.length)
theorem Ow (S:List (Fp p)):∀n,stl S n≤n
 | 0=>b9 0
 | n+1=>by
  unfold stl
  split
  ·have:=Ow S n; omega
  ·omega
theorem Ch (S:List (Fp p)):∀n j,stl S n≤j→j<n→S[j]? = some 0
 | 0,j,_,h=>by omega
 | n+1,j,h1,h2=>by
  unfold stl at h1
  split at h1
  ·rename_i h0
   by_cases hj:j=n
   ·rw [hj]; exact h0
   ·exact Ch S n j h1 (by omega)
  ·omega
end
section
variable {p:Int} [IsP p]
theorem Gh {m x:Fp p} (hm:m≠0):∀(i:Nat) (S:List (Fp p)) (out:Fp p),(∀a∈S,a=0)→svI m x i S out=out
 | _,[],_,_=>rfl
 | i,c::cs,out,h=>by
  have hc:=h c (by simp)
  subst hc;show svI m x (i+1) cs (out+0*gi m (i%(m.len-1)) x%m)=out;rw [Gq.zero_mul,Pol.zero_mod hm,Gq.add_zero];exact Gh hm (i+1) cs out fun a ha=>h a (by simp [ha])
theorem El {m x:Fp p}:∀(i:Nat) (S R:List (Fp p)) (out:Fp p),svI m x i (S++R) out=svI m x (i+S.length) R (svI m x i S out)
 | _,[],_,_=>rfl
 | i,c::cs,R,out=>by
  show svI m x (i+1) (cs++R) _=svI m x (i+(cs.length+1)) R (svI m x (i+1) cs _);rw [El (i+1) cs R,show i+(cs.length+1)=i+1+cs.length by omega]
theorem X1 {m x:Fp p} (hm:m≠0) (S:List (Fp p)):svI m x 0 (n7 S) 0=svI m x 0 S 0:=by
 have e:=El (m:=m) (x:=x) 0 (S.take (stl S S.length)) (S.drop (stl S S.length)) 0;rw [ej] at e
 have hz:∀a∈S.drop (stl S S.length),a=0:=by
  intro a ha;obtain ⟨j,hj,rfl⟩:=gf ha;rw [d8] at hj;have:=Ch S S.length (stl S S.length+j) (by omega) (by omega)
  rw [List.getElem_drop];rw [ac (by omega)] at this
  exact al this
 rw [e,Gh hm _ _ _ hz];rfl
end
theorem Vb {p:Int} [IsP p] {m:Fp p}:∀{ls:List (List Int)},Eo m ls→∃S:List (Fp p),ls=S.map (fun a=>pad (row a))∧∀a∈S,a.len<m.len
 | [],_=>⟨[],rfl,fun _ h=>by cases h⟩
 | l::ls,h=>by
  obtain ⟨h1,h2⟩:=wj.1 h;obtain ⟨a,ha,rfl⟩:=h1;obtain ⟨S,rfl,hS⟩:=Vb h2;exact ⟨a::S,rfl,by simpa using ⟨ha,hS⟩⟩
noncomputable abbrev skP {p:Int} (S:List (Fp p)):List (List Int):=S.map fun a=>pad (row a)
end Pe

namespace Pe
open Go Gq
variable {T:Nat→Option Fn} {A:ah}
theorem Tm {p:Int} {S:List (Fp p)} (hS:∀a∈S,a.len≤64):(skP S).map (ep p)=S:=by
 unfold skP;rw [kz]
 conv=>rhs; rw [←List.map_id S]
 exact List.map_congr_left fun a ha=>pv (hS a ha)
end Pe

namespace Pe
open Go Gq
variable {T:Nat→Option Fn} {A:ah}
section
variable {p:Int}
noncomputable def mg (Q:List (Fp p)) (n:Nat) (v:Fp p):List (Fp p):=Q.set n ((Q[n]?).getD 0+v)
theorem yz (Q:List (Fp p)) (n:Nat) (v:Fp p):(mg Q n v).length=Q.length:=by unfold mg; rw [br]
end
section
variable {p:Int} [IsP p]
noncomputable def rz (m x:Fp p) (i:Nat):Nat→List (Fp p)→List (Fp p)→List (Fp p)
 | _,[],Q=>Q
 | k,y::ys,Q=>rz m x i (k+1) ys (mg Q (i+k) (x*gi m (i%(m.len-1)) y%m))
noncomputable def uv (m:Fp p) (b:List (Fp p)):Nat→List (Fp p)→List (Fp p)→List (Fp p)
 | _,[],Q=>Q
 | i,x::xs,Q=>uv m b (i+1) xs (rz m x i 0 b Q)
theorem p5 (m x:Fp p) (i:Nat):∀(k:Nat) (b Q:List (Fp p)),(rz m x i k b Q).length=Q.length
 | _,[],_=>rfl
 | k,y::ys,Q=>by
  show (rz m x i (k+1) ys (mg Q (i+k) _)).length=_;rw [p5,yz]
theorem kn (m:Fp p) (b:List (Fp p)):∀(i:Nat) (a Q:List (Fp p)),(uv m b i a Q).length=Q.length
 | _,[],_=>rfl
 | i,x::xs,Q=>by
  show (uv m b (i+1) xs (rz m x i 0 b Q)).length=_;rw [kn,p5]
end
end Pe

namespace Pe
open Go Gq
variable {T:Nat→Option Fn} {A:ah}
noncomputable def zd {p:Int} [IsP p] (m:Fp p) (a b:List (Fp p)):List (Fp p):=uv m b 0 a (List.replicate (a.length+b.length-1) 0)
end Pe

namespace Pe
open Go Gq
variable {T:Nat→Option Fn} {A:ah}
end Pe

namespace Pe
open Go Gq
variable {T:Nat→Option Fn} {A:ah}
section
variable {p:Int}
theorem H8 {Q:List (Fp p)} {n j:Nat} {v:Fp p} (h:n≠j):(mg Q n v)[j]? = Q[j]?:=by
 unfold mg; rw [av h]
end
section
variable {p:Int} [IsP p]
theorem rq {m x:Fp p} {i n:Nat}:∀(k:Nat) (b Q:List (Fp p)),i+k+b.length≤n→(rz m x i k b Q)[n]? = Q[n]?
 | _,[],_,_=>rfl
 | k,y::ys,Q,h=>by
  rw [b4] at h;show (rz m x i (k+1) ys (mg Q (i+k) _))[n]? = _;rw [rq (k+1) ys _ (by omega),H8 (by omega)]
theorem t8 {m:Fp p} {b:List (Fp p)} {n:Nat}:∀(i:Nat) (a Q:List (Fp p)),i+a.length+b.length≤n+1→(uv m b i a Q)[n]? = Q[n]?
 | _,[],_,_=>rfl
 | i,x::xs,Q,h=>by
  rw [b4] at h;show (uv m b (i+1) xs (rz m x i 0 b Q))[n]? = _;rw [t8 (i+1) xs _ (by omega),rq 0 b Q (by omega)]
theorem A7 {m x y:Fp p} {i:Nat}:∀(k:Nat) (b Q:List (Fp p)),rz m x i k (b++[y]) Q=mg (rz m x i k b Q) (i+(k+b.length)) (x*gi m (i%(m.len-1)) y%m)
 | _,[],_=>rfl
 | k,z::zs,Q=>by
  show rz m x i (k+1) (zs++[y]) (mg Q (i+k) _)=mg (rz m x i (k+1) zs (mg Q (i+k) _)) _ _;rw [A7 (k+1) zs,b4,show i+(k+1+zs.length)=i+(k+(zs.length+1)) by omega]
theorem y7 {m x:Fp p} {b:List (Fp p)}:∀(i:Nat) (a Q:List (Fp p)),uv m b i (a++[x]) Q=rz m x (i+a.length) 0 b (uv m b i a Q)
 | _,[],_=>rfl
 | i,z::zs,Q=>by
  show uv m b (i+1) (zs++[x]) (rz m z i 0 b Q)=rz m x _ 0 b (uv m b (i+1) zs (rz m z i 0 b Q));rw [y7 (i+1) zs,b4,show i+1+zs.length=i+(zs.length+1) by omega]
theorem O3 {m x y:Fp p} (hi:Irr m) (hx:x≠0) (hxl:x.len<m.len) (hy:y≠0) (hyl:y.len<m.len):x*y%m≠0:=fun h=>by
 rcases hi.prime ((u6 hi.ne).2 h) with h | h
 ·have:=Dv.len h hx; omega
 ·have:=Dv.len h hy; omega
theorem Bv {m:Fp p} (hm:Fld m):∀(k:Nat) (y:Fp p),y≠0→y.len<m.len→gi m k y≠0
 | 0,_,h,_=>h
 | k+1,y,h,hl=>by
  obtain ⟨h1,h2⟩:=a3j hm h hl p.toNat;exact Bv hm k _ h1 h2
end
section
variable {p:Int}
theorem Lm {S:List (Fp p)}:∀(n k:Nat),stl S n=k+1→S[k]? ≠ some 0
 | 0,k,h=>by cases h
 | n+1,k,h=>by
  unfold stl at h
  split at h
  ·exact Lm n k h
  ·rename_i h0
   obtain rfl:n=k:=by omega
   exact h0
theorem a1b {S:List (Fp p)} {n:Nat} (h:S[n]? ≠ some 0):stl S (n+1)=n+1:=by
 unfold stl; rw [if_neg h]
theorem Nl {S:List (Fp p)} (h:(n7 S).length≠0):∃a x,n7 S=a++[x]∧x≠0:=by
 have hle:=Ow S S.length;have hl:(n7 S).length=stl S S.length:=by unfold n7; rw [ba]; omega
 obtain ⟨k,hk⟩:∃k,stl S S.length=k+1:=⟨stl S S.length-1,by omega⟩
 have h1:=Lm _ _ hk;have hlt:k<S.length:=by omega
 rw [ac hlt] at h1;refine ⟨S.take k,S[k],?_,fun h=>h1 (by rw [h])⟩
 unfold n7;rw [hk,c8 hlt]
theorem S7 {S:List (Fp p)} {n:Nat} (hl:S.length=n+1) (h:S[n]? ≠ some 0):n7 S=S:=by
 unfold n7;rw [hl,a1b h,←hl,jc]
end
section
variable {p:Int} [IsP p]
theorem Yd {m x y:Fp p} (hm:Fld m) {a b:List (Fp p)} (hx:x≠0) (hxl:x.len<m.len) (hy:y≠0) (hyl:y.len<m.len):n7 (zd m (a++[x]) (b++[y]))=zd m (a++[x]) (b++[y]):=by
 have hl:(zd m (a++[x]) (b++[y])).length=a.length+b.length+1:=by
  unfold zd;rw [kn,ce,aw,aw];simp only [b4,bh]; omega
 refine S7 hl ?_;have hfy:gi m (a.length%(m.len-1)) y≠0:=Bv hm _ y hy hyl;have hfl:=rf hm.mon.2 (a.length%(m.len-1)) y hyl;have hne:=O3 hm.irr hx hxl hfy hfl;unfold zd;rw [y7,A7];unfold mg;rw [rq _ _ _ (by omega),t8 _ _ _ (by rw [aw,b4,bh]; omega)]
 have hN:0+a.length+(0+b.length)=a.length+b.length:=by omega
 rw [hN,au (by rw [p5,kn,ce,aw,aw]; simp only [b4,bh]; omega)]
 rw [jb,if_pos (by rw [aw,aw]; simp only [b4,bh]; omega)]
 show some ((0:Fp p)+_)≠some 0;rw [Gq.zero_add,show 0+a.length=a.length by omega]
 exact fun h=>hne (al h)
noncomputable def lh (m:Fp p) (a b:List (Fp p)):List (Fp p):=if a.length=0∨b.length=0 then [] else n7 (zd m a b)
end
end Pe

namespace Pe
open Go Gq
variable {T:Nat→Option Fn} {A:ah}
section
variable {p:Int} [IsP p]
theorem N3 {N n:Nat} {Q:List (Fp p)} {v:Fp p} (hQ:∀c∈Q,c.len≤N) (hv:v.len≤N):∀c∈mg Q n v,c.len≤N:=fun c hc=>by
 unfold mg at hc;rcases dd hc with h | rfl
 ·exact hQ c h
 ·refine Pol.len_add_le ?_ hv
  cases he:Q[n]? with
  | none=>show (0:Fp p).len≤N; rw [Pol.len_zero]; omega
  | some w=>exact hQ w (df he)
end
end Pe

namespace Pe
open Go Gq
section
variable {p:Int}
noncomputable def cS (A:List (Fp p)) (i:Nat):Fp p:=(A[i]?).getD 0
theorem Az {A:List (Fp p)} {i:Nat} (h:A.length≤i):cS A i=0:=by unfold cS; rw [bo h]; rfl
theorem E3 {A:List (Fp p)} {i:Nat} (h:i<A.length):A[i]=cS A i:=by unfold cS; rw [ac h]; rfl
def n8 (A:List (Fp p)):Prop:=∀n,A.length=n+1→cS A n≠0
theorem Io (S:List (Fp p)) (i:Nat):cS (n7 S) i=cS S i:=by
 unfold cS n7;have hle:=Ow S S.length
 by_cases h:i<stl S S.length
 ·rw [da,if_pos h]
 ·rw [da,if_neg h]
  by_cases h2:i<S.length
  ·rw [Ch S S.length i (by omega) h2]; rfl
  ·rw [bo (by omega)]
theorem ug (S:List (Fp p)):n8 (n7 S):=fun n hn=>by
 obtain ⟨a,x,e,hx⟩:=Nl (S:=S) (by omega)
 rw [e] at hn ⊢;rw [aw,List.length_singleton] at hn;unfold cS;rw [b6 (by omega),show n-a.length=0 by omega]
 exact hx
theorem Mc {A B:List (Fp p)} (hA:n8 A) (hB:n8 B) (h:∀i,cS A i=cS B i):A=B:=by
 have hl:A.length=B.length:=by
  rcases fu A.length B.length with g | g | g
  ·exact absurd (by rw [←h]; exact Az (by omega)) (hB (B.length-1) (by omega))
  ·exact g
  ·exact absurd (by rw [h]; exact Az (by omega)) (hA (A.length-1) (by omega))
 refine lf hl fun i h1 h2=>?_
 rw [E3 h1,E3 h2,h]
theorem Ap {X:List (Fp p)} {n:Nat} (h:∀i,n≤i→cS X i=0):(n7 X).length≤n:=by
 rcases cn n (n7 X).length with g | g
 ·have:=ug X ((n7 X).length-1) (by omega)
  rw [Io] at this;exact absurd (h _ (by omega)) this
 ·exact g
theorem E2:n8 ([]:List (Fp p)):=fun n h=>by cases h
theorem a2c (i:Nat):cS ([]:List (Fp p)) i=0:=rfl
theorem a4e {A:List (Fp p)} {N:Nat} (h:∀i,(cS A i).len≤N):∀c∈A,c.len≤N:=fun c hc=>by
 obtain ⟨i,hi,rfl⟩:=gf hc;rw [E3 hi]; exact h i
theorem a2z {A:List (Fp p)} {N:Nat} (h:∀c∈A,c.len≤N) (i:Nat):(cS A i).len≤N:=by
 by_cases hi:i<A.length
 ·rw [←E3 hi]; exact h _ (bm hi)
 ·rw [Az (by omega),Pol.len_zero]; omega
theorem Nk {n:Nat} {f:Nat→Fp p} (i:Nat):cS ((List.range n).map f) i=if i<n then f i else 0:=by
 unfold cS;rw [ct]
 by_cases h:i<n
 ·rw [ff h,if_pos h]; rfl
 ·rw [bo (by simpa using h),if_neg h]; rfl
noncomputable def qp (k:Int) (A B:List (Fp p)):List (Fp p):=n7 ((List.range (max A.length B.length)).map fun i=>cS A i+Pol.C (zp p k)*cS B i)
theorem Ii (k:Int) (A B:List (Fp p)) (i:Nat):cS (qp k A B) i=cS A i+Pol.C (zp p k)*cS B i:=by
 unfold qp;rw [Io,Nk]
 split
 ·rfl
 ·rw [Az (A:=A) (by omega),Az (A:=B) (by omega),Gq.mul_zero,Gq.add_zero]
theorem B5 (k:Int) (A B:List (Fp p)):n8 (qp k A B):=ug _
theorem Wc (k:Int) (A B:List (Fp p)):(qp k A B).length≤max A.length B.length:=Ap fun i hi=>by
 rw [Nk,if_neg (by omega)]
noncomputable def sw (c:Fp p) (k:Nat):List (Fp p):=List.replicate k 0++[c]
theorem mz (c:Fp p) (k:Nat):(sw c k).length=k+1:=by unfold sw; rw [aw,ce]; rfl
theorem Bx (c:Fp p) (k i:Nat):cS (sw c k) i=if i=k then c else 0:=by
 unfold cS sw;rcases fu i k with h | h | h
 ·rw [b8 (by rw [ce]; exact h),jb,if_pos h,if_neg (by omega)]; rfl
 ·rw [b6 (by rw [ce]; omega),ce,h,kw,if_pos rfl]; rfl
 ·rw [bo (by rw [aw,ce,List.length_singleton]; omega),if_neg (by omega)]; rfl
theorem Be {c:Fp p} (h:c≠0) (k:Nat):n8 (sw c k):=fun n hn=>by
 rw [mz] at hn;rw [Bx,if_pos (by omega)]; exact h
theorem Hs (S:List (Fp p)):(n7 S).length≤S.length:=by
 unfold n7; rw [ba]; omega
theorem Cb {B:List (Fp p)} (h:1≤B.length):∃b,B=b++[cS B (B.length-1)]∧b.length=B.length-1:=by
 have hlt:B.length-1<B.length:=by omega
 refine ⟨B.take (B.length-1),?_,by rw [ba]; omega⟩
 rw [←E3 hlt,←c8 hlt,show B.length-1+1=B.length by omega,jc]
end
section
variable {p:Int} [IsP p]
theorem Dl {m x:Fp p} {i N:Nat} (hm:m≠0) (hN:m.len≤N+1):∀(k:Nat) (b Q:List (Fp p)),(∀c∈Q,c.len≤N)→∀c∈rz m x i k b Q,c.len≤N
 | _,[],_,h=>h
 | k,y::ys,Q,h=>Dl hm hN (k+1) ys _ (N3 h (by have:=Pol.len_mod (x*gi m (i%(m.len-1)) y) hm; omega))
theorem Ay {m:Fp p} {b:List (Fp p)} {N:Nat} (hm:m≠0) (hN:m.len≤N+1):∀(i:Nat) (a Q:List (Fp p)),(∀c∈Q,c.len≤N)→∀c∈uv m b i a Q,c.len≤N
 | _,[],_,h=>h
 | i,_x::xs,Q,h=>Ay hm hN (i+1) xs _ (Dl hm hN 0 b Q h)
theorem rp {m:Fp p} {a b:List (Fp p)} {N:Nat} (hm:m≠0) (hN:m.len≤N+1):∀c∈lh m a b,c.len≤N:=fun c hc=>by
 unfold lh at hc
 split at hc
 ·cases hc
 ·have h1:c∈zd m a b:=List.mem_of_mem_take hc
  exact Ay hm hN 0 a _ (fun c hc=>by rw [m6 hc,Pol.len_zero]; omega) c h1
theorem rt (m:Fp p) (a b:List (Fp p)):n8 (lh m a b):=by
 unfold lh
 split
 ·exact E2
 ·exact ug _
theorem ul {m:Fp p} {a b:List (Fp p)}:(lh m a b).length≤a.length+b.length-1:=by
 unfold lh
 split
 ·exact jg _
 ·have:=Hs (zd m a b)
  have hl:(zd m a b).length=a.length+b.length-1:=by unfold zd; rw [kn,ce]
  omega
theorem Ww {m x y:Fp p} {a b:List (Fp p)}:cS (zd m (a++[x]) (b++[y])) (a.length+b.length)=x*gi m (a.length%(m.len-1)) y%m:=by
 unfold zd;rw [y7,A7];unfold mg;rw [rq _ _ _ (by omega),t8 _ _ _ (by rw [aw,b4,bh]; omega)]
 have hN:0+a.length+(0+b.length)=a.length+b.length:=by omega
 rw [hN];unfold cS;rw [au (by rw [p5,kn,ce,aw,aw]; simp only [b4,bh]; omega)]
 rw [jb,if_pos (by rw [aw,aw]; simp only [b4,bh]; omega)]
 show (0:Fp p)+_=_;rw [Gq.zero_add,show 0+a.length=a.length by omega]
theorem M7 {m:Fp p} {A B:List (Fp p)} (ha:1≤A.length) (hb:1≤B.length):cS (lh m A B) (A.length-1+(B.length-1))=cS A (A.length-1)*gi m ((A.length-1)%(m.len-1)) (cS B (B.length-1))%m:=by
 obtain ⟨a,ea,la⟩:=Cb ha;obtain ⟨b,eb,lb⟩:=Cb hb;have h:=Ww (m:=m) (x:=cS A (A.length-1)) (y:=cS B (B.length-1)) (a:=a) (b:=b);rw [←ea,←eb,la,lb] at h;unfold lh;rw [if_neg (by omega),Io]
 exact h
theorem L3 {m x y:Fp p} (hm:Fld m) (hx:x.len<m.len) (hy:y≠0) (hyl:y.len<m.len):(x*jw m y%m)*y%m=x∧y*(x*jw m y%m)%m=x:=by
 have h0:m≠0:=hm.mon.2;have e:=Bq hm hy hyl
 have key:Quo.mk m ((x*jw m y%m)*y)=Quo.mk m x:=by
  rw [Quo.mk_mul,Pol.mk_mod,Quo.mk_mul,Gq.mul_assoc,e,Gq.mul_one]
 have h1:=(Pol.mod_eq_iff h0).2 key;rw [Pol.mod_small hx] at h1;exact ⟨h1,by rw [Gq.mul_comm]; exact h1⟩
theorem Jk {m:Fp p}:∀(b a:Nat) (x:Fp p),gi m (a+b) x=gi m a (gi m b x)
 | 0,_,_=>rfl
 | b+1,a,x=>by
  show gi m (a+b) (pw x p.toNat%m)=gi m a (gi m b (pw x p.toNat%m));exact Jk b a _
theorem O6 {m:Fp p} (hm:Fld m) (j:Nat) {z:Fp p} (hz:z.len<m.len):gi m (j%(m.len-1)) (gi m ((m.len-1-j%(m.len-1))%(m.len-1)) z)=z:=by
 have h2:=hm.two;have hlt:=Nat.mod_lt j (show 0<m.len-1 by omega)
 rw [zl hm _ hz,←Jk,show j%(m.len-1)+(m.len-1-j%(m.len-1))=m.len-1 by omega,←zl hm _ hz,Nat.mod_self]
 rfl
noncomputable def qc (left:Bool) (m:Fp p) (A B:List (Fp p)):Fp p:=
 if left then gi m ((m.len-1-(B.length-1)%(m.len-1))%(m.len-1)) (cS A (A.length-1)*jw m (cS B (B.length-1))%m)
 else cS A (A.length-1)*jw m (gi m ((A.length-B.length)%(m.len-1)) (cS B (B.length-1)))%m
noncomputable def qT (left:Bool) (m:Fp p) (A B:List (Fp p)):List (Fp p):=sw (qc left m A B) (A.length-B.length)
noncomputable def qP (left:Bool) (m:Fp p) (A B:List (Fp p)):List (Fp p):=if left then lh m B (qT left m A B) else lh m (qT left m A B) B
end
section
variable {p:Int}
structure Sk (m:Fp p) (A:List (Fp p)):Prop where
 trim:n8 A
 eight:A.length≤8
 res:∀c∈A,c.len<m.len
theorem Sk.cs {m:Fp p} {A:List (Fp p)} (h:Sk m A) (hm:m≠0) (i:Nat):(cS A i).len<m.len:=by
 have:=a2z (N:=m.len-1) (fun c hc=>by have:=h.res c hc; omega) i
 have:=Pol.len_pos hm;omega
theorem Sk.top {m:Fp p} {A:List (Fp p)} (h:Sk m A) (h1:1≤A.length):cS A (A.length-1)≠0:=h.trim _ (by omega)
theorem Sk.nil (m:Fp p):Sk m []:=⟨E2,by simp,fun c h=>by cases h⟩
end
section
variable {p:Int} [IsP p]
theorem X7 {p:Int} {a:Fp p} {n:Nat} (h:a.len≤n):a.c n=0:=a.lt_len n h
theorem Sk.plus {m:Fp p} {A B:List (Fp p)} (hm:m≠0) (hA:Sk m A) (hB:Sk m B) (k:Int):Sk m (qp k A B):=by
 have h1:=Pol.len_pos hm;refine ⟨B5 k A B,by have:=Wc k A B; have:=hA.eight; have:=hB.eight; omega,fun c hc=>?_⟩
 have:=a4e (A:=qp k A B) (N:=m.len-1) (fun i=>by
  rw [Ii];have a1:=hA.cs hm i;have a2:=hB.cs hm i;exact Pol.len_add_le (by omega) (Pol.len_le fun j hj=>by rw [Pol.c_Cmul,X7 (by omega),Gq.mul_zero])) c hc
 omega
theorem Yv (left:Bool) {m:Fp p} (hm:Fld m) {A B:List (Fp p)} (hA:Sk m A) (hB:Sk m B) (h1:1≤B.length) (hle:B.length≤A.length) :
 qc left m A B≠0∧(qc left m A B).len<m.len∧Sk m (qT left m A B)∧Sk m (qP left m A B)∧(qp (-1) A (qP left m A B)).length<A.length∧Sk m (qp (-1) A (qP left m A B)):=by
 have h0:m≠0:=hm.mon.2;have hx:=hA.top (by omega)
 have hxl:=hA.cs h0 (A.length-1);have hy:=hB.top h1;have hyl:=hB.cs h0 (B.length-1);have hfy:gi m ((A.length-B.length)%(m.len-1)) (cS B (B.length-1))≠0:=Bv hm _ _ hy hyl;have hfl:=rf h0 ((A.length-B.length)%(m.len-1)) (cS B (B.length-1)) hyl;have hb1:=L3 hm hxl hfy hfl;have hb2:=L3 hm hxl hy hyl;have hzl:(cS A (A.length-1)*jw m (cS B (B.length-1))%m).len<m.len:=Pol.len_mod _ h0
 have hz0:cS A (A.length-1)*jw m (cS B (B.length-1))%m≠0:=fun h=>by
  have:=hb2.1;rw [h,Gq.zero_mul,Pol.zero_mod h0] at this;exact hx this.symm
 have hc0:qc left m A B≠0:=by
  unfold qc;cases left with
  | true=>simp only [if_true]; exact Bv hm _ _ hz0 hzl
  | false=>
   simp only [aq,if_false];intro h;have:=hb1.1;rw [h,Gq.zero_mul,Pol.zero_mod h0] at this;exact hx this.symm
 have hcl:(qc left m A B).len<m.len:=by
  unfold qc;cases left with
  | true=>simp only [if_true]; exact rf h0 _ _ hzl
  | false=>simp only [aq,if_false]; exact Pol.len_mod _ h0
 have hTl:(qT left m A B).length=A.length-B.length+1:=mz _ _;have h8:=hA.eight
 have hT:Sk m (qT left m A B):=⟨Be hc0 _,by omega,fun c hc=>by
  unfold qT sw at hc;rcases b7.1 hc with h | h
  ·rw [m6 h,Pol.len_zero]; exact Pol.len_pos h0
  ·rw [bj.1 h]; exact hcl⟩
 have hPl:(qP left m A B).length≤A.length:=by
  unfold qP;cases left with
  | true=>have:=ul (m:=m) (a:=B) (b:=qT true m A B); simp only [if_true]; omega
  | false=>have:=ul (m:=m) (a:=qT false m A B) (b:=B); simp only [aq,if_false]; omega
 have hP:Sk m (qP left m A B):=by
  have hm1:=Pol.len_pos h0;refine ⟨?_,by omega,?_⟩
  ·unfold qP
   cases left with
   | true=>exact rt _ _ _
   | false=>exact rt _ _ _
  ·intro c hc
   have:c.len≤m.len-1:=by
    unfold qP at hc;cases left with
    | true=>exact rp h0 (by omega) c hc
    | false=>exact rp h0 (by omega) c hc
   omega
 have htop:cS (qP left m A B) (A.length-1)=cS A (A.length-1):=by
  unfold qP;cases left with
  | true=>
   simp only [if_true];have h:=M7 (m:=m) (A:=B) (B:=qT true m A B) h1 (by omega)
   rw [hTl,show B.length-1+(A.length-B.length+1-1)=A.length-1 by omega,show A.length-B.length+1-1=A.length-B.length by omega] at h
   rw [h];unfold qT;rw [Bx,if_pos rfl];unfold qc;simp only [if_true];rw [O6 hm (B.length-1) hzl];exact hb2.2
  | false=>
   simp only [aq,if_false];have h:=M7 (m:=m) (A:=qT false m A B) (B:=B) (by omega) h1
   rw [hTl,show A.length-B.length+1-1+(B.length-1)=A.length-1 by omega,show A.length-B.length+1-1=A.length-B.length by omega] at h
   rw [h];unfold qT;rw [Bx,if_pos rfl];unfold qc;simp only [aq,if_false];exact hb1.1
 have hneg:∀x:Fp p,x+Pol.C (zp p (-1))*x=0:=fun x=>by
  rw [Hl,Hu,Pol.C_neg,Pol.C_one];exact bf [x] rfl
 refine ⟨hc0,hcl,hT,hP,?_,hA.plus h0 hP (-1)⟩
 have hlt:(qp (-1) A (qP left m A B)).length≤A.length-1:=Ap fun i hi=>by
  rw [Nk]
  split
  ·rcases cn i A.length with g | g
   ·rw [show i=A.length-1 by omega,htop,hneg]
   ·rw [Az g,Az (A:=qP left m A B) (by omega),Gq.mul_zero,Gq.add_zero]
  ·rfl
 omega
def Zto (Q A B:List (Fp p)):Prop:=∀j,j+B.length≤A.length→cS Q j=0
theorem Zto.step {left:Bool} {m:Fp p} (hm:Fld m) {Q A B:List (Fp p)} (hA:Sk m A) (hB:Sk m B) (h1:1≤B.length) (hle:B.length≤A.length) (hz:Zto Q A B):Zto (qp 1 Q (qT left m A B)) (qp (-1) A (qP left m A B)) B:=fun j hj=>by
 obtain ⟨_,_,_,_,h,_⟩:=Yv left hm hA hB h1 hle;unfold qT;rw [Ii,hz j (by omega),Bx,if_neg (by omega),Gq.mul_zero,Gq.add_zero]
end
end Pe



namespace Pe
open Go Gq
variable {T:Nat→Option Fn} {A:ah}
abbrev z6:List Int:=List.replicate 6 0
section
variable {p:Int} [IsP p]
noncomputable def mono (p:Int) (i:Nat):Fp p:=jx p (p^i)
end
end Pe

namespace Pe
open Go Gq
variable {T:Nat→Option Fn} {A:ah}
section
variable {O:ah} {g:Nat} {first caps:List D}
structure CmpRow (O:ah) (g:Nat) (first caps:List D) (f:D→Int) (s:Sh) (cs:List D):Prop where
 nf:ue first
 nc:ue caps
 nx:ue cs
 sh:B6 s cs
 ask:∀x∈cs,∀y∈cs,∃v:Int,ask O g (first++[x,y]++caps)=some (D.int .i64 v)∧(v<0↔f x<f y)
theorem CmpRow.perm {f:D→Int} {s:Sh} {cs ds:List D} (h:CmpRow O g first caps f s cs) (p:ds.Perm cs):CmpRow O g first caps f s ds:=
 ⟨h.nf,h.nc,fun x hx=>h.nx x (p.subset hx),fun x hx=>h.sh x (p.subset hx),fun x hx y hy=>h.ask x (p.subset hx) y (p.subset hy)⟩
theorem CmpRow.call {f:D→Int} {s:Sh} {cs:List D} (h:CmpRow O g first caps f s cs) {hp:Heap} {np:Nat} {news:List Nat} {x y:D} (hx:x∈cs) (hy:y∈cs) :
 ∃v:Int,za O np hp .flat news (g,first.map .d,caps.map .d) [.d x,.d y]=some (.d (D.int .i64 v),hp)∧(v<0↔f x<f y):=by
 have e:ku hp (first.map .d++[.d x,.d y]++caps.map .d)=some (first++[x,y]++caps):=
  rh hp (rh hp (jr hp h.nf) (jr hp (ds:=[x,y]) (by intro z hz; simp at hz; rcases hz with rfl | rfl; exact h.nx _ hx; exact h.nx _ hy))) (jr hp h.nc)
 obtain ⟨v,e1,e2⟩:=h.ask x hx y hy;refine ⟨v,?_,e2⟩;rw [yh,e,aa,Cr,e1,aa,A3,show (D.int IntKind.i64 v).flat=true from rfl,if_pos rfl]
end
end Pe

namespace Pe
open Go Gq
variable {T:Nat→Option Fn} {A:ah}
section
variable {p:Int}
noncomputable def elim (a b:Fp p):Fp p:=b+Pol.C (-(b.c (a.len-1)))*a
noncomputable def tr:List (Fp p)→Fp p→Fp p
 | [],a=>a
 | b::bs,a=>tr bs (elim b a)
noncomputable def Dd (a:Fp p):List (Fp p)→List (Fp p)
 | []=>[a]
 | b::bs=>if b.len<a.len then a::(b::bs).map (elim a) else elim a b::Dd a bs
theorem Ao (a:Fp p):∀L:List (Fp p),(Dd a L).Perm (L.map (elim a)++[a])
 | []=>.refl _
 | b::bs=>by
  unfold Dd
  split
  ·exact (List.perm_append_singleton a ((b::bs).map (elim a))).symm
  ·exact (Ao a bs).cons _
theorem Yn {a:Fp p} {n:Nat} (h:a.len≤n):a.c n=0:=a.lt_len n h
theorem Nt (a b:Fp p) (n:Nat):(elim a b).c n=b.c n + -(b.c (a.len-1))*a.c n:=by
 unfold elim; rw [Pol.c_add,Pol.c_Cmul]
theorem yp {a c:Fp p}:∀{L:List (Fp p)},c∈Dd a L→c=a∨∃b∈L,c=elim a b:=fun {L} h=>by
 have:=(Ao a L).subset h;rcases b7.1 this with h | h
 ·obtain ⟨b,hb,rfl⟩:=cg.1 h; exact .inr ⟨b,hb,rfl⟩
 ·exact .inl (by simpa using h)
noncomputable abbrev f9 (a:Fp p):D:=(D.sl .leaf (am .i64 (row a)))
theorem Gr {n:Nat}:∀{L:List (Fp p)} {a:Fp p},(∀b∈L,b.len≤n)→(tr L a).c n=a.c n
 | [],_,_=>rfl
 | b::L,a,h=>by
  show (tr L (elim b a)).c n=_;rw [Gr (L:=L) (fun c hc=>h c (by simp [hc])),Nt,Yn (a:=b) (h b (by simp)),Gq.mul_zero,Gq.add_zero]
end
section
variable {p:Int} [IsP p]
structure Desc (N:Nat) (L:List (Fp p)):Prop where
 pw:L.Pairwise fun x y=>y.len<x.len
 mon:∀b∈L,Monic b
 le:∀b∈L,b.len≤N
theorem Desc.nil (N:Nat):Desc N ([]:List (Fp p)):=⟨List.Pairwise.nil,(fun _ h=>by cases h),(fun _ h=>by cases h)⟩
theorem Desc.tail {N:Nat} {b:Fp p} {L:List (Fp p)} (h:Desc N (b::L)):Desc N L∧∀c∈L,c.len<b.len:=
 ⟨⟨h.pw.tail,fun c hc=>h.mon c (by simp [hc]),fun c hc=>h.le c (by simp [hc])⟩,(dk.1 h.pw).1⟩
theorem Desc.length:∀{N:Nat} {L:List (Fp p)},Desc N L→L.length≤N
 | N,[],_=>jg _
 | N,b::L,h=>by
  obtain ⟨h1,h2⟩:=h.tail;have hb:=Pol.len_pos (h.mon b (by simp)).2
  have hle:=h.le b (by simp)
  have:=Desc.length (N:=b.len-1) ⟨h1.pw,h1.mon,fun c hc=>by have:=h2 c hc; omega⟩
  rw [b4]; omega
theorem By {N:Nat} {a b:Fp p} (ha:a.len≤N) (hb:b.len≤N):(elim a b).len≤N:=by
 unfold elim;refine Pol.len_add_le hb (Pol.len_le fun i hi=>?_)
 rw [Pol.c_Cmul,Yn (a:=a) (by omega),Gq.mul_zero]
theorem a0q {a:Fp p} (ha:Monic a) (b:Fp p):(elim a b).c (a.len-1)=0:=by
 rw [Nt,show a.c (a.len-1)=1 from ha.1,Gq.mul_one];exact Gq.add_neg _
theorem It {N:Nat}:∀{L:List (Fp p)} {a:Fp p},(∀b∈L,b.len≤N)→a.len≤N→(tr L a).len≤N
 | [],_,_,ha=>ha
 | b::L,a,h,ha=>It (L:=L) (fun c hc=>h c (by simp [hc])) (By (h b (by simp)) ha)
theorem Ga {N:Nat}:∀{L:List (Fp p)} {a:Fp p},Desc N L→∀b∈L,(tr L a).c (b.len-1)=0
 | b::L,a,h,c,hc=>by
  obtain ⟨h1,h2⟩:=h.tail;show (tr L (elim b a)).c _=0;rcases d9.1 hc with rfl | hc
  ·rw [Gr (L:=L) (fun d hd=>by have:=h2 d hd; omega),a0q (h.mon c (by simp))]
  ·exact Ga h1 c hc
theorem a10 {N:Nat} {L:List (Fp p)} {a:Fp p} (h:Desc N L) (h0:tr L a≠0):∀b∈L,b.len≠(tr L a).len:=fun b hb e=>by
 have h1:=Ga (a:=a) h b hb;rw [e] at h1;exact Pol.ld_ne h0 h1
theorem X2 {a b:Fp p} (hb:Monic b) (hne:b.len≠a.len):Monic (elim a b)∧(elim a b).len=b.len:=by
 have hbp:=Pol.len_pos hb.2;rcases cn b.len a.len with h | h
 ·have:elim a b=b:=by
   unfold elim;rw [Yn (by omega),qv,Pol.C_zero,Gq.zero_mul,Gq.add_zero]
  rw [this]; exact ⟨hb,rfl⟩
 ·have hc:(elim a b).c (b.len-1)=1:=by
   rw [Nt,Yn (a:=a) (by omega),Gq.mul_zero,Gq.add_zero]; exact hb.1
  have hl:(elim a b).len=b.len:=by
   have h1:(elim a b).len=(b.len-1)+1:=Pol.len_eq (Pol.lt_iff.2 (by
    rw [Nat.sub_add_cancel hbp]; exact By h (b9 _))) (by rw [hc]; exact Fd.one_ne)
   omega
  refine ⟨⟨by unfold Pol.ld; rw [hl]; exact hc,fun h0=>?_⟩,hl⟩
  rw [h0,Pol.len_zero] at hl;omega
theorem Gv {N:Nat} {a:Fp p} (ha:Monic a) (hal:a.len≤N):∀{L:List (Fp p)},Desc N L→(∀b∈L,b.len≠a.len)→Desc N (Dd a L)
 | [],_,_=>⟨ec _ _,fun b hb=>by simp [Dd] at hb; rw [hb]; exact ha,fun b hb=>by simp [Dd] at hb; rw [hb]; exact hal⟩
 | b::L,h,hne=>by
  obtain ⟨h1,h2⟩:=h.tail;have hall:∀c∈b::L,Monic (elim a c)∧(elim a c).len=c.len:=fun c hc=>X2 (h.mon c hc) (hne c hc)
  refine ⟨?_,fun c hc=>?_,fun c hc=>?_⟩
  ·unfold Dd
   split
   ·rename_i hlt
    refine dk.2 ⟨fun c hc=>?_,?_⟩
    ·obtain ⟨d,hd,rfl⟩:=cg.1 hc
     rw [(hall d hd).2];rcases d9.1 hd with rfl | hd
     ·exact hlt
     ·have:=h2 d hd; omega
    ·rw [nv]
     refine h.pw.imp_of_mem fun {x y} hx hy hxy=>?_
     rw [(hall x hx).2,(hall y hy).2]; exact hxy
   ·rename_i hge
    refine dk.2 ⟨fun c hc=>?_,(Gv ha hal h1 fun c hc=>hne c (by simp [hc])).pw⟩
    rw [(hall b (by simp)).2]
    rcases yp hc with rfl | ⟨d,hd,rfl⟩
    ·have:=hne b (by simp); omega
    ·rw [(hall d (by simp [hd])).2]; exact h2 d hd
  ·rcases yp hc with rfl | ⟨d,hd,rfl⟩
   ·exact ha
   ·exact (hall d hd).1
  ·rcases yp hc with rfl | ⟨d,hd,rfl⟩
   ·exact hal
   ·rw [(hall d hd).2]; exact h.le d hd
noncomputable def Td (L:List (Fp p)) (x:Fp p):List (Fp p):=by
 classical exact if tr L x=0 then L else Dd (Gq.mon (tr L x)) L
theorem U1 {L:List (Fp p)} {x:Fp p} (h:tr L x=0):Td L x=L:=by unfold Td; rw [if_pos h]
theorem Hh {L:List (Fp p)} {x:Fp p} (h:tr L x≠0):Td L x=Dd (Gq.mon (tr L x)) L:=by unfold Td; rw [if_neg h]
theorem Tl {N:Nat} {L:List (Fp p)} {x:Fp p} (h:Desc N L) (hx:x.len≤N):Desc N (Td L x):=by
 by_cases h0:tr L x=0
 ·rw [U1 h0]; exact h
 ·rw [Hh h0]
  exact Gv (o6 h0) (by rw [tv h0]; exact It h.le hx) h fun b hb=>by rw [tv h0]; exact a10 h h0 b hb
end
section
variable {p:Int}
end
end Pe

namespace Pe
open Go Gq
variable {T:Nat→Option Fn} {A:ah}
end Pe

namespace Pe
open Go Gq
variable {T:Nat→Option Fn} {A:ah}
section
variable {p:Int} [IsP p]
end
end Pe

namespace Pe
open Go Gq
variable {T:Nat→Option Fn} {A:ah}
noncomputable abbrev dm {p:Int} (a:Fp p):D:=(D.arr 64 .leaf (am .u8 (pad (row a))))
theorem L5 {p:Int} (xs:List (Fp p)):(skP xs).map ee=xs.map dm:=by unfold skP; rw [kz]; rfl
section
variable {p:Int} [IsP p]
theorem X4 {O:ah} (hro:yy O) {xs:List (Fp p)} (hl:xs.length<2000000) (hx:∀x∈xs,x.len≤64):∀(r i:Nat) (cp:Option Nat),i+r=xs.length→∃cp':Option Nat,
 dn O 0 (.loop Z1g_L0) ⟨[(3,.sl 0 [] 0 i cp),(6,.d (.sl (.arr 64 .leaf) (xs.map dm))),(7,(.d (.int .i64 xs.length))),(8,(.d (.int .i64 i)))],[.sl false .leaf ((xs.take i).map f9),.hole,.hole,.hole]⟩ =
  some (.exit 0,⟨[(3,.sl 0 [] 0 xs.length cp'),(6,.d (.sl (.arr 64 .leaf) (xs.map dm))),(7,(.d (.int .i64 xs.length))),(8,(.d (.int .i64 xs.length))),(9,(.d (.bool false)))],[.sl false .leaf (xs.map f9),.hole,.hole,.hole]⟩)
 | 0,i,cp,hi=>by
  obtain rfl:i=xs.length:=by omega
  rw [jc];refine ⟨cp,bv ?_⟩;generalize xs.map dm=XD at *;generalize xs.map f9=RD at *;simp -implicitDefEqProofs [Z1g_L0,ao]
 | r+1,i,cp,hi=>by
  have hlt:i<xs.length:=by omega
  have hm:=bm hlt;have e1:=hro p xs[i] (hx _ hm);have hXD:(xs.map dm).length=xs.length:=az ..;have hxi:∀h:i<(xs.map dm).length,(xs.map dm)[i]'h=(D.arr 64 .leaf (am .u8 (pad (row xs[i])))):=fun h=>by rw [du]
  have w4:IntKind.i64.wrap ((i:Int)+1)=((i+1:Nat):Int):=(w64 (x:=(i:Int)+1) (by omega)).trans (by omega)
  have h24:(i+1)*24≤1099511627776:=by omega
  have htk:(xs.take (i+1)).map f9=(xs.take i).map f9++[(D.sl .leaf (am .i64 (row xs[i])))]:=by rw [c8 hlt,dh]; rfl
  have hL:((xs.take i).map f9).length=i:=by rw [az,ba]; omega
  have htt:((xs.take i).map f9).take i=(xs.take i).map f9:=b5 (by omega)
  obtain ⟨cp',ih⟩:=X4 hro hl hx r (i+1) none (by omega)
  refine ⟨cp',bq ?_ ih⟩;rw [htk];generalize pad (row xs[i])=Pi at *;generalize row xs[i]=Ri at *;generalize (xs.take i).map f9=TD at *;generalize xs.map dm=XD at *;simp -implicitDefEqProofs [Z1g_L0,ao,hlt,hXD,hxi,e1,h24,hL,htt,w4,List.replicate]
def Mn (O:ah):Prop:=∀(p:Int) [IsP p] (xs:List (Fp p)),xs.length<2000000→(∀x∈xs,x.len≤64)→ask O F1g [.sl (.arr 64 .leaf) (xs.map dm)]=some (.sl .leaf (xs.map f9))
end
theorem a38 (hT:T F1g=some Z1g) (hro:yy (den T A)):Mn (den T A):=by
 intro p ip xs hl hx;obtain ⟨cp,e⟩:=X4 (O:=den T A) hro hl hx xs.length 0 (some 0) (bi _);have e00:((0:Nat):Int)=0:=rfl;rw [e00,dy,kv] at e;have h1:(xs.map f9).length=xs.length:=az ..;have h2:(xs.map dm).length=xs.length:=az ..;have htk:(xs.map f9).take xs.length=xs.map f9:=b5 (by omega)
 refine bu hT rfl ?_;generalize xs.map dm=XD at *;generalize xs.map f9=RD at *;simp -implicitDefEqProofs [Z1g,Z1g_B,h1,h2,htk,e]
noncomputable def si (p:Int) (l:List Int) (ls:List (List Int)) (lo hi:Int):Int:=if pj p l ls≠0 then pj p l ls else if (ls.length:Int)<lo∨hi<ls.length then 2 else 0
def xu (O:ah):Prop:=∀(p:Int) (l:List Int) (ls:List (List Int)) (lo hi:Int),i5 l→l.length=64→Bp ls→ls.length<2000000→ask O Fq [(D.int .i64 p),(D.arr 64 .leaf (am .u8 l)),.sl (.arr 64 .leaf) (ls.map ee),(D.int .i64 lo),(D.int .i64 hi)]=some (D.int .i64 (si p l ls lo hi))
theorem O4 (hT:T Fq=some Zq) (hr:py (den T A) F18):xu (den T A):=by
 intro p l ls lo hi bl gl ha hl;have e:=hr p l ls bl gl ha hl;have h1:(ls.map ee).length=ls.length:=az ..;unfold si;refine bu hT rfl ?_;generalize ls.map ee=LD at *
 by_cases h0:pj p l ls=0
 ·rw [h0] at e
  rw [if_neg (by simpa using h0)]
  by_cases h2:(ls.length:Int)<lo
  ·rw [if_pos (.inl h2)]
   simp -implicitDefEqProofs [Zq,Zq_B,ao,e,h1,h2]
  ·by_cases h3:hi<(ls.length:Int)
   ·rw [if_pos (.inr h3)]
    simp -implicitDefEqProofs [Zq,Zq_B,ao,e,h1,h2,h3]
   ·rw [if_neg (by omega)]
    simp -implicitDefEqProofs [Zq,Zq_B,ao,e,h1,h2,h3]
 ·rw [if_pos h0]
  generalize pj p l ls=k at *;simp -implicitDefEqProofs [Zq,Zq_B,ao,e,h0]
def a1d (p:Int) (l:List Int) (ls:List (List Int)):Prop:=∃(_:IsP p) (m:Fp p),l=pad (row m)∧Fld m∧Eo m ls
theorem Lu {p:Int} {l:List Int} {ls:List (List Int)}:pj p l ls=0↔a1d p l ls:=by
 unfold pj;constructor
 ·intro h1
  split at h1
  ·rename_i g; exact g
  ·cases h1
 ·intro h; exact if_pos h
end Pe

namespace Pe
open Go Gq
variable {T:Nat→Option Fn} {A:ah}
section
variable {p:Int}
end
section
variable {p:Int} [IsP p]
end
end Pe

namespace Pe
open Go Gq
variable {T:Nat→Option Fn} {A:ah}
open Classical in
theorem a1u {O:ah} (hr:Ho O) {p:Int} [IsP p] {m:Fp p} (hm:m.len≤64) {ls:List (List Int)} (h:Bp ls) (hl:ls.length<2000000):∀(k i:Nat),i+k=ls.length →
 dn O 0 (.loop Z30_L0) ⟨[(0,(.d (.int .i64 p))),(2,.d (.sl (.arr 64 .leaf) (ls.map ee))),(4,.ptr 0 []),(7,(.d (.int .i64 i)))],[.box false (D.arr 64 .leaf (am .u8 (pad (row m))))]⟩ =
  if Eo m (ls.drop i) then some (.exit 0,⟨[(0,(.d (.int .i64 p))),(2,.d (.sl (.arr 64 .leaf) (ls.map ee))),(4,.ptr 0 []),(7,(.d (.int .i64 ls.length))),(15,(.d (.bool false)))],[.box false (D.arr 64 .leaf (am .u8 (pad (row m))))]⟩) else some (.ret,⟨[(6,(.d (.int .i64 1)))],[.hole]⟩)
 | 0,i,hi=>by
  obtain rfl:i=ls.length:=by omega
  rw [if_pos (by rw [ol]; exact We m)]
  have hL:(ls.map ee).length=ls.length:=az ..;refine bv ?_;generalize pad (row m)=Pm at *;generalize ls.map ee=LD at *;simp -implicitDefEqProofs [Z30_L0,ao,hL]
 | k+1,i,hi=>by
  have hlt:i<ls.length:=by omega
  have hm1:=bm hlt;have e1:=hr p m ls[i] hm (h _ hm1).2 (h _ hm1).1;have hL:(ls.map ee).length=ls.length:=az ..;have w4:IntKind.i64.wrap ((i:Int)+1)=((i+1:Nat):Int):=(w64 (x:=(i:Int)+1) (by omega)).trans (by omega)
  have hx2:∀h:i<(ls.map ee).length,(ls.map ee)[i]'h=(D.arr 64 .leaf (am .u8 (ls[i]))):=fun h=>by rw [du]
  have hd:ls.drop i=ls[i]::ls.drop (i+1):=c9 hlt;have ih:=a1u hr hm h hl k (i+1) (by omega)
  rw [hd]
  by_cases hres:pk m ls[i]
  ·rw [decide_eq_true hres] at e1
   have hiff:Eo m (ls[i]::ls.drop (i+1))↔Eo m (ls.drop (i+1)):=⟨fun h=>(wj.1 h).2,fun h=>wj.2 ⟨hres,h⟩⟩
   rw [propext hiff];refine bq ?_ ih;generalize ls[i]=li at *;generalize pad (row m)=Pm at *;generalize ls.map ee=LD at *;simp -implicitDefEqProofs [Z30_L0,ao,hlt,hx2,hL,e1,w4]
  ·rw [decide_eq_false hres] at e1
   rw [if_neg (fun h=>hres (wj.1 h).1)]
   refine oo ?_;generalize ls[i]=li at *;generalize pad (row m)=Pm at *;generalize ls.map ee=LD at *;simp -implicitDefEqProofs [Z30_L0,ao,hlt,hx2,hL,e1]
open Classical in
theorem T5 (hT:T F30=some Z30) (hf:Ei (den T A)) (hi:Ho (den T A)):py (den T A) F30:=by
 intro p l ls hb hl h hlen;have e1:=hf p l hb hl;refine bu hT rfl ?_;unfold pj
 by_cases hfl:Au p l
 ·rw [decide_eq_true hfl] at e1
  obtain ⟨ip,m,rfl,hm⟩:=hfl;have h5:=hm.five;have e2:=a1u (O:=den T A) hi (m:=m) (by omega) h hlen ls.length 0 (bi _)
  have e00:((0:Nat):Int)=0:=rfl;rw [e00,fb] at e2;have hc:=M1 hm (Q:=fun ip m'=>∀x∈ls,@pk p ip m' x)
  by_cases hs:Eo m ls
  ·rw [if_pos hs] at e2
   rw [if_pos (hc.2 hs)];generalize pad (row m)=Pm at *;generalize ls.map ee=LD at *;simp -implicitDefEqProofs [Z30,Z30_B,ao,e1,e2]
  ·rw [if_neg hs] at e2
   rw [if_neg (fun h=>hs (hc.1 h))]
   generalize pad (row m)=Pm at *;generalize ls.map ee=LD at *;simp -implicitDefEqProofs [Z30,Z30_B,ao,e1,e2]
 ·rw [decide_eq_false hfl] at e1
  rw [if_neg (fun ⟨ip,m,e,hm,_⟩=>hfl ⟨ip,m,e,hm⟩)]
  generalize ls.map ee=LD at *;simp -implicitDefEqProofs [Z30,Z30_B,ao,e1]
def A1 (O:ah):Prop:=∀(p:Int) (l:List Int) (ls:List (List Int)) (hi:Int),i5 l→l.length=64→Bp ls→ls.length<2000000→ask O F32 [(D.int .i64 p),(D.arr 64 .leaf (am .u8 l)),.sl (.arr 64 .leaf) (ls.map ee),(D.int .i64 hi)]=some (D.int .i64 (si p l ls 0 hi))
theorem Si (hT:T F32=some Z32) (hr:py (den T A) F30):A1 (den T A):=by
 intro p l ls hi bl gl ha hl;have e:=hr p l ls bl gl ha hl;have h1:(ls.map ee).length=ls.length:=az ..;unfold si;refine bu hT rfl ?_;generalize ls.map ee=LD at *
 by_cases h0:pj p l ls=0
 ·rw [h0] at e
  rw [if_neg (by simpa using h0)]
  by_cases h3:hi<(ls.length:Int)
  ·rw [if_pos (.inr h3)]
   simp -implicitDefEqProofs [Z32,Z32_B,ao,e,h1,h3]
  ·rw [if_neg (by omega)]
   simp -implicitDefEqProofs [Z32,Z32_B,ao,e,h1,h3]
 ·rw [if_pos h0]
  generalize pj p l ls=k at *;simp -implicitDefEqProofs [Z32,Z32_B,ao,e,h0]
theorem U4 {O:ah} (hp:ui O) {ls:List (List Int)} (h:Bp ls) (hl:ls.length<2000000):∀(k i:Nat) (Q:List D),i+k=ls.length→Q.length=ls.length→(∀d∈Q,d.sh.beq (.arr 64 .leaf)=true)→Q.take i=(ls.map ee).take i →
 dn O 0 (.loop Z1o_L0) ⟨[(0,.d (.sl (.arr 64 .leaf) (ls.map ee))),(3,.sl 0 [] 0 ls.length (some ls.length)),(4,(.d (.int .i64 i)))],[.sl false (.arr 64 .leaf) Q]⟩ =
  some (.exit 0,⟨[(0,.d (.sl (.arr 64 .leaf) (ls.map ee))),(3,.sl 0 [] 0 ls.length (some ls.length)),(4,(.d (.int .i64 ls.length))),(11,(.d (.bool false)))],[.sl false (.arr 64 .leaf) (ls.map ee)]⟩)
 | 0,i,Q,hi,hq,hQ,ht=>by
  obtain rfl:i=ls.length:=by omega
  have hL:(ls.map ee).length=ls.length:=az ..;rw [b5 (by omega),b5 (by omega)] at ht
  subst ht;refine bv ?_;generalize ls.map ee=LD at *;simp -implicitDefEqProofs [Z1o_L0,ao,hL]
 | k+1,i,Q,hi,hq,hQ,ht=>by
  have hlt:i<ls.length:=by omega
  have hm1:=bm hlt;have hsh:∀h:i<Q.length,(Q[i]'h).sh.beq (.arr 64 .leaf)=true:=fun h=>hQ _ (bm h)
  have e1:=hp ls[i] (h _ hm1).2 (h _ hm1).1;have hL:(ls.map ee).length=ls.length:=az ..;have hx2:∀h:i<(ls.map ee).length,(ls.map ee)[i]'h=(D.arr 64 .leaf (am .u8 (ls[i]))):=fun h=>by rw [du]
  have w4:IntKind.i64.wrap ((i:Int)+1)=((i+1:Nat):Int):=(w64 (x:=(i:Int)+1) (by omega)).trans (by omega)
  refine bq ?_ (U4 hp h hl k (i+1) (Q.set i (D.arr 64 .leaf (am .u8 (ls[i])))) (by omega) (by rw [br]; exact hq) (fun d hd=>by
   rcases dd hd with h1 | rfl
   ·exact hQ d h1
   ·rfl) (by
   rw [c8 (show i<(ls.map ee).length by omega),c8 (by rw [br]; omega),List.getElem_set_self,List.take_set,List.set_eq_of_length_le (by rw [ba]; omega),ht,hx2]))
  generalize ls[i]=li at *;generalize ls.map ee=LD at *;simp -implicitDefEqProofs [Z1o_L0,ao,hlt,hL,hx2,hq,hsh,e1,w4]
def P4 (O:ah):Prop:=∀ls:List (List Int),Bp ls→ls.length<2000000→ask O F1o [.sl (.arr 64 .leaf) (ls.map ee)]=some (.sl (.arr 64 .leaf) (ls.map ee))
theorem a46 (hT:T F1o=some Z1o) (hp:ui (den T A)):P4 (den T A):=by
 intro ls h hl;have e:=U4 (O:=den T A) hp h hl ls.length 0 (List.replicate ls.length (D.arr 64 .leaf (am .u8 (pad [])))) (bi _) (ce ..) (fun d hd=>by rw [m6 hd]; rfl) (by rw [dy,dy])
 have e00:((0:Nat):Int)=0:=rfl;rw [e00] at e;have hL:(ls.map ee).length=ls.length:=az ..;have htk:(ls.map ee).take ls.length=ls.map ee:=b5 (by omega)
 have h64:ls.length*64≤1099511627776:=by omega
 refine bu hT rfl ?_;generalize ls.map ee=LD at *;generalize ls.length=n at *;simp -implicitDefEqProofs [Z1o,Z1o_B,e,hL,htk,h64]
theorem Xh {O:ah} (he:ur O) {ls:List (List Int)} (h:∀l∈ls,l.length=64) (hl:ls.length<2000000):∀(k i:Nat),i+k=ls.length →
 dn O 0 (.loop Z1l_L0) ⟨[(0,.d (.sl (.arr 64 .leaf) (ls.map ee))),(1,.d (.sl (.arr 64 .leaf) (ls.map ee))),(5,(.d (.int .i64 i)))],[]⟩ =
  some (.exit 0,⟨[(0,.d (.sl (.arr 64 .leaf) (ls.map ee))),(1,.d (.sl (.arr 64 .leaf) (ls.map ee))),(5,(.d (.int .i64 ls.length))),(14,(.d (.bool false)))],[]⟩)
 | 0,i,hi=>by
  obtain rfl:i=ls.length:=by omega
  have hL:(ls.map ee).length=ls.length:=az ..;refine bv ?_;generalize ls.map ee=LD at *;simp -implicitDefEqProofs [Z1l_L0,ao,hL]
 | k+1,i,hi=>by
  have hlt:i<ls.length:=by omega
  have e1:=he ls[i] (h _ (bm hlt));have hL:(ls.map ee).length=ls.length:=az ..;have hx2:∀h:i<(ls.map ee).length,(ls.map ee)[i]'h=(D.arr 64 .leaf (am .u8 (ls[i]))):=fun h=>by rw [du]
  have w4:IntKind.i64.wrap ((i:Int)+1)=((i+1:Nat):Int):=(w64 (x:=(i:Int)+1) (by omega)).trans (by omega)
  refine bq ?_ (Xh he h hl k (i+1) (by omega))
  generalize ls[i]=li at *;generalize ls.map ee=LD at *;simp -implicitDefEqProofs [Z1l_L0,ao,hlt,hL,hx2,e1,w4]
def Nw (O:ah):Prop:=∀ls:List (List Int),(∀l∈ls,l.length=64)→ls.length<2000000→ask O F1l [.sl (.arr 64 .leaf) (ls.map ee),.sl (.arr 64 .leaf) (ls.map ee)]=some (D.bool true)
theorem a2n (hT:T F1l=some Z1l) (he:ur (den T A)):Nw (den T A):=by
 intro ls h hl;have e:=Xh (O:=den T A) he h hl ls.length 0 (bi _);have e00:((0:Nat):Int)=0:=rfl;rw [e00] at e;refine bu hT rfl ?_;generalize ls.map ee=LD at *;simp -implicitDefEqProofs [Z1l,Z1l_B,ao,e]
def Oo (O:ah):Prop:=∀(L:List D) (left:Int),0≤left→left≤2000000→L.length≤9223372036854775807→ask O F1m [.sl (.arr 64 .leaf) L,(D.int .i64 left)]=some (D.int .i64 (if left<L.length then -1 else left-L.length))
theorem a36 (hT:T F1m=some Z1m):Oo (den T A):=by
 intro L left h0 h1 hl;have w1:IntKind.i64.wrap (left-L.length)=left-L.length:=w64 (by omega)
 refine bu hT rfl ?_
 by_cases h:left<L.length
 ·rw [if_pos h]
  have hn:left-(L.length:Int)<0:=by omega
  simp -implicitDefEqProofs [Z1m,Z1m_B,ao,w1,hn]
 ·rw [if_neg h]
  have hn:¬ left-(L.length:Int)<0:=by omega
  simp -implicitDefEqProofs [Z1m,Z1m_B,ao,w1,hn]
end Pe

namespace Pe
open Go Gq
variable {T:Nat→Option Fn} {A:ah}
end Pe


namespace Pe
open Go Gq
variable {T:Nat→Option Fn} {A:ah}
section
variable {p:Int} [IsP p]
end
end Pe


namespace Pe
open Go Gq
variable {T:Nat→Option Fn} {A:ah}
section
variable {p:Int} [IsP p]
end
end Pe

namespace Pe
open Go Gq
variable {T:Nat→Option Fn} {A:ah}
section
variable {α:Type}
end
end Pe

namespace Pe
open Go Gq
variable {T:Nat→Option Fn} {A:ah}
def Br (O:ah):Prop:=∀(p:Int) [IsP p] (m a:Fp p),m≠0→m.len≤63→a≠0→a.len<m.len→ask O F2y [(D.int .i64 p),(D.arr 64 .leaf (am .u8 (pad (row a)))),(D.arr 64 .leaf (am .u8 (pad (row m))))]=some (D.arr 64 .leaf (am .u8 (pad (row (jw m a)))))
theorem a1c (hT:T F2y=some Z2y) (hmo:vm (den T A)) (hb:xc (den T A)):Br (den T A):=by
 intro p ip m a hm hml ha hal;have e2:=hb p a m (.inl ha) (by omega) (by omega)
 have e3:=hmo p (Pol.bezout a m).2.1 m hm (a4d ha hml) (by omega)
 have e4:(Pol.bezout a m).2.1%m=jw m a:=rfl;rw [e4] at e3;refine bu hT rfl ?_;generalize pad (row (jw m a))=R at *;generalize pad (row (Pol.bezout a m).1)=R1 at *;generalize pad (row (Pol.bezout a m).2.1)=R2 at *;generalize pad (row (Pol.bezout a m).2.2)=R3 at *;generalize pad (row a)=Pa at *;generalize pad (row m)=Pm at *;simp -implicitDefEqProofs [Z2y,Z2y_B,e2,e3,List.replicate]
end Pe


namespace Pe
open Go Gq
variable {T:Nat→Option Fn} {A:ah}
end Pe

namespace Pe
open Go Gq
variable {T:Nat→Option Fn} {A:ah}
end Pe

namespace Pe
open Go Gq
variable {T:Nat→Option Fn} {A:ah}
section
variable {p:Int} [IsP p]
noncomputable def a8p (m:Fp p) (X:List (Fp p)):List (Fp p):=lh m (sw (jw m (cS X (X.length-1))) 0) X
theorem Sk.mon {m:Fp p} {X:List (Fp p)} (hm:m≠0) (hX:Sk m X):Sk m (a8p m X):=by
 have h1:=Pol.len_pos hm;have hl:=ul (m:=m) (a:=sw (jw m (cS X (X.length-1))) 0) (b:=X);rw [mz] at hl;have h8:=hX.eight;exact ⟨rt _ _ _,by unfold a8p; omega,fun c hc=>by have:=rp (N:=m.len-1) hm (by omega) c hc; omega⟩
end
end Pe

namespace Pe
open Go Gq
variable {T:Nat→Option Fn} {A:ah}
section
variable {p:Int}
end
section
variable {p:Int} [IsP p]
theorem S3 {m:Fp p} (hm:Fld m) {X Y:List (Fp p)} (hX:n8 X) (hY:n8 Y) (hXl:∀c∈X,c.len<m.len) (hYl:∀c∈Y,c.len<m.len) (h1:1≤X.length) (h2:1≤Y.length):(lh m X Y).length=X.length+Y.length-1:=by
 obtain ⟨a,ea,la⟩:=Cb h1;obtain ⟨b,eb,lb⟩:=Cb h2;have hx:=hX (X.length-1) (by omega)
 have hy:=hY (Y.length-1) (by omega)
 have ht:=Yd hm (a:=a) (b:=b) hx (hXl _ (by rw [←E3 (show X.length-1<X.length by omega)]; exact bm _)) hy (hYl _ (by rw [←E3 (show Y.length-1<Y.length by omega)]; exact bm _))
 rw [←ea,←eb] at ht;unfold lh;rw [if_neg (by omega),ht]
 unfold zd;rw [kn,ce]
theorem Rd:(1:Fp p)≠0:=fun h=>by
 have e:(1:Fp p).len=1:=Pol.len_one;rw [h,Pol.len_zero] at e;cases e
theorem Vf {m:Fp p} (hm:Fld m):Sk m (sw (1:Fp p) 0):=⟨Be Rd 0,by rw [mz]; omega,fun c hc=>by
 unfold sw at hc;rw [List.replicate_zero,c6] at hc;rw [bj.1 hc];have:=hm.two;have:(1:Fp p).len=1:=Pol.len_one;omega⟩
end
end Pe


namespace Pe
open Go Gq
variable {T:Nat→Option Fn} {A:ah}
section
variable {p:Int} [IsP p]
end
end Pe

namespace Pe
open Go Gq
section
variable {p:Int}
noncomputable def sg {m:Fp p}:Nat→Quo m→Quo m
 | 0,x=>x
 | k+1,x=>sg k (pw x p.toNat)
theorem R6 [IsP p] {m:Fp p}:∀(k:Nat) (a:Fp p),Quo.mk m (gi m k a)=sg k (Quo.mk m a)
 | 0,_=>rfl
 | k+1,a=>by
  show Quo.mk m (gi m k (pw a p.toNat%m))=sg k (pw (Quo.mk m a) p.toNat);rw [R6 k,Pol.mk_mod,Quo.mk_pow]
theorem Jc [IsP p] {m:Fp p}:pw (0:Quo m) p.toNat=0:=by
 have h:=IsP.pos (p:=p);have:p.toNat=(p.toNat-1)+1:=by omega
 rw [this];show pw (0:Quo m) (p.toNat-1)*0=0;exact Gq.mul_zero _
theorem Iq [IsP p] {m:Fp p}:∀k,sg k (0:Quo m)=0
 | 0=>rfl
 | k+1=>by
  show sg k (pw (0:Quo m) p.toNat)=0;rw [Jc,Iq k]
section
variable {m:Fp p}
noncomputable def Rop (t0 t1 t2:Quo m) (X:Nat→Quo m):Nat→Quo m
 | 0=>X 0*t0
 | 1=>X 1*sg 1 t0+X 0*t1
 | n+2=>X (n+2)*sg (n+2) t0+X (n+1)*sg (n+1) t1+X n*sg n t2
noncomputable def e0:Nat→Quo m
 | 0=>1
 | _+1=>0
theorem aaq (t0 t1 t2 a b c d e f g h i s u v:Quo m):t0*(a*s+b*u+c*v)+t1*(d*s+e*u+f*v)+t2*(g*s+h*u+i*v)=(t0*a+t1*d+t2*g)*s+(t0*b+t1*e+t2*h)*u+(t0*c+t1*f+t2*i)*v:=by
 have l:∀t a b c:Quo m,t*(a*s+b*u+c*v)=t*a*s+t*b*u+t*c*v:=fun t a b c=>bf [t,a,b,c,s,u,v] rfl
 have q:∀x y z w:Quo m,(x+y+z)*w=x*w+y*w+z*w:=fun x y z w=>bf [x,y,z,w] rfl
 have z:∀p1 p2 p3 q1 q2 q3 r1 r2 r3:Quo m,(p1+p2+p3)+(q1+q2+q3)+(r1+r2+r3)=(p1+q1+r1)+(p2+q2+r2)+(p3+q3+r3):=fun p1 p2 p3 q1 q2 q3 r1 r2 r3=>bf [p1,p2,p3,q1,q2,q3,r1,r2,r3] rfl
 rw [l,l,l,q,q,q,z]
theorem eight [IsP p] (t0 t1 t2 a b c d e f g h s u v:Quo m):t0*(a*s+b*u+c*v)+t1*(d*s+e*u+f*v)+t2*(g*s+h*u)=(t0*a+t1*d+t2*g)*s+(t0*b+t1*e+t2*h)*u+(t0*c+t1*f)*v:=by
 have:=aaq t0 t1 t2 a b c d e f g h 0 s u v;simp only [Gq.zero_mul,Gq.mul_zero,Gq.add_zero] at this;exact this
noncomputable def Rk (t0 t1 t2:Quo m):Nat→Nat→Quo m
 | 0=>e0
 | k+1=>Rop t0 t1 t2 (Rk t0 t1 t2 k)
end
noncomputable def a6o [IsP p] (m t0 t1 t2 a:Fp p) (n:Nat):Nat→List (Fp p)
 | 0=>[]
 | j+1=>qp 1 (lh m (a6o m t0 t1 t2 a n j) [t0,t1,t2]) (sw (Pol.C (a.c (n-1-j))) 0)
noncomputable def nmS [IsP p] (m x:Fp p):Nat→Fp p
 | 0=>1
 | i+1=>nmS m x i*gi m i x%m
end
end Pe

namespace Pe
open Go Gq
section
variable {p:Int}
theorem J5 [IsP p] {m:Fp p}:∀(k:Nat) (x y:Quo m),sg k (x+y)=sg k x+sg k y
 | 0,_,_=>rfl
 | k+1,x,y=>by
  show sg k (pw (x+y) p.toNat)=sg k (pw x p.toNat)+sg k (pw y p.toNat);rw [Jr,J5 k]
theorem Ip {m:Fp p}:∀(k:Nat) (x y:Quo m),sg k (x*y)=sg k x*sg k y
 | 0,_,_=>rfl
 | k+1,x,y=>by
  show sg k (pw (x*y) p.toNat)=sg k (pw x p.toNat)*sg k (pw y p.toNat);rw [uq,Ip k]
theorem G5 [IsP p] {m:Fp p} (c:Zp p):∀k,sg k (Quo.mk m (Pol.C c))=Quo.mk m (Pol.C c)
 | 0=>rfl
 | k+1=>by
  show sg k (pw (Quo.mk m (Pol.C c)) p.toNat)=_;rw [←Quo.mk_pow,←a2o,Cq,G5 c k]
theorem Rg {m:Fp p} (i:Nat):∀(j:Nat) (x:Quo m),sg i (sg j x)=sg (i+j) x
 | 0,_=>rfl
 | j+1,x=>by
  show sg i (sg j (pw x p.toNat))=sg (i+j) (pw x p.toNat);exact Rg i j _
noncomputable def vq {m:Fp p} (X:Quo m):Nat→List (Fp p)→Quo m
 | _,[]=>0
 | i,c::cs=>Quo.mk m c*sg i X+vq X (i+1) cs
theorem a27 [IsP p] {m x:Fp p} (hm:Fld m) (hx:x.len<m.len):∀(i:Nat) (A:List (Fp p)) (out:Fp p),Quo.mk m (svI m x i A out)=Quo.mk m out+vq (Quo.mk m x) i A
 | i,[],out=>(Gq.add_zero _).symm
 | i,c::cs,out=>by
  show Quo.mk m (svI m x (i+1) cs (out+c*gi m (i%(m.len-1)) x%m))=_;rw [a27 hm hx (i+1) cs,Quo.mk_add,Pol.mk_mod,Quo.mk_mul,zl hm i hx,R6];exact Gq.add_assoc _ _ _
noncomputable def p6 [IsP p] (m:Fp p) (A:List (Fp p)) (x:Fp p):Quo m:=Quo.mk m (svI m x 0 A 0)
theorem vb [IsP p] {m x:Fp p} (hm:Fld m) (hx:x.len<m.len) (A:List (Fp p)):p6 m A x=vq (Quo.mk m x) 0 A:=by
 unfold p6;rw [a27 hm hx,Quo.mk_zero,Gq.zero_add]
theorem Vo [IsP p] {m:Fp p} (X Y:Quo m):∀(A:List (Fp p)) (i:Nat),vq (X+Y) i A=vq X i A+vq Y i A
 | [],_=>(Gq.add_zero _).symm
 | c::cs,i=>by
  show Quo.mk m c*sg i (X+Y)+vq (X+Y) (i+1) cs=(Quo.mk m c*sg i X+vq X (i+1) cs)+(Quo.mk m c*sg i Y+vq Y (i+1) cs);rw [J5,Vo X Y cs];exact bf [Quo.mk m c,sg i X,sg i Y,vq X (i+1) cs,vq Y (i+1) cs] rfl
theorem Cg [IsP p] {m:Fp p} (k:Zp p) (X:Quo m):∀(A:List (Fp p)) (i:Nat),vq (Quo.mk m (Pol.C k)*X) i A=Quo.mk m (Pol.C k)*vq X i A
 | [],_=>(Gq.mul_zero _).symm
 | c::cs,i=>by
  show Quo.mk m c*sg i (Quo.mk m (Pol.C k)*X)+vq (Quo.mk m (Pol.C k)*X) (i+1) cs=Quo.mk m (Pol.C k)*(Quo.mk m c*sg i X+vq X (i+1) cs);rw [Ip,G5,Cg k X cs];exact bf [Quo.mk m c,Quo.mk m (Pol.C k),sg i X,vq X (i+1) cs] rfl
theorem U8 {m:Fp p} (X:Quo m) (v:Fp p):∀(Q:List (Fp p)) (i j:Nat),j<Q.length→vq X i (mg Q j v)=vq X i Q+Quo.mk m v*sg (i+j) X
 | [],_,_,h=>by simp at h
 | c::cs,i,0,_=>by
  show Quo.mk m (c+v)*sg i X+vq X (i+1) cs=Quo.mk m c*sg i X+vq X (i+1) cs+Quo.mk m v*sg (i+0) X;rw [Quo.mk_add,cz];exact bf [Quo.mk m c,Quo.mk m v,sg i X,vq X (i+1) cs] rfl
 | c::cs,i,j+1,h=>by
  have e:mg (c::cs) (j+1) v=c::mg cs j v:=rfl;rw [e];show Quo.mk m c*sg i X+vq X (i+1) (mg cs j v)=Quo.mk m c*sg i X+vq X (i+1) cs+Quo.mk m v*sg (i+(j+1)) X;rw [U8 X v cs (i+1) j (by simpa using h),show i+1+j=i+(j+1) by omega]
  exact (Gq.add_assoc _ _ _).symm
theorem Js {m:Fp p} (X:Quo m):∀(n i:Nat),vq X i (List.replicate n (0:Fp p))=0
 | 0,_=>rfl
 | n+1,i=>by
  show Quo.mk m 0*sg i X+vq X (i+1) (List.replicate n 0)=0;rw [Js X n,Quo.mk_zero,Gq.zero_mul,Gq.add_zero]
theorem Ps [IsP p] {m c:Fp p} (hm:Fld m) (X:Quo m) {i:Nat}:∀(b:List (Fp p)) (k:Nat) (Q:List (Fp p)),(∀y∈b,y.len<m.len)→i+k+b.length≤Q.length→vq X 0 (rz m c i k b Q)=vq X 0 Q+Quo.mk m c*sg i (vq X k b)
 | [],_,Q,_,_=>by
  show vq X 0 Q=vq X 0 Q+Quo.mk m c*sg i 0;rw [Iq,Gq.mul_zero,Gq.add_zero]
 | y::ys,k,Q,hb,h=>by
  rw [b4] at h;show vq X 0 (rz m c i (k+1) ys (mg Q (i+k) _))=vq X 0 Q+Quo.mk m c*sg i (Quo.mk m y*sg k X+vq X (k+1) ys);rw [Ps hm X ys (k+1) _ (fun z hz=>hb z (by simp [hz])) (by rw [yz]; omega),U8 X _ Q 0 (i+k) (by omega),Pol.mk_mod,Quo.mk_mul,zl hm i (hb y (by simp)),R6,bi,J5,Ip,Rg]
  exact bf [vq X 0 Q,Quo.mk m c,sg i (Quo.mk m y),sg (i+k) X,sg i (vq X (k+1) ys)] rfl
theorem Vx [IsP p] {m c0 x:Fp p} (hm:Fld m) {A:List (Fp p)} (hA:∀y∈A,y.len<m.len) (hx:x.len<m.len) (h1:1≤A.length):p6 m (lh m [c0,1] A) x=Quo.mk m c0*p6 m A x+sg 1 (p6 m A x):=by
 have h0:=hm.mon.2
 have e1:p6 m (lh m [c0,1] A) x=p6 m (zd m [c0,1] A) x:=by
  unfold lh p6;rw [if_neg (by simp only [b4]; omega),X1 h0]
 rw [e1,vb hm hx,vb hm hx];show vq _ 0 (rz m 1 1 0 A (rz m c0 0 0 A (List.replicate ([c0,1].length+A.length-1) 0)))=_;have hl:(List.replicate ([c0,(1:Fp p)].length+A.length-1) (0:Fp p)).length=A.length+1:=by rw [ce]; simp only [b4,bh]; omega
 rw [Ps hm _ A 0 _ hA (by rw [p5]; omega),Ps hm _ A 0 _ hA (by omega),Js,Gq.zero_add,Quo.mk_one,Gq.one_mul]
 rfl
theorem J7 [IsP p] {m:Fp p} (hm:Fld m) {A:List (Fp p)} {a b:Fp p} (ha:a.len<m.len) (hb:b.len<m.len) (hk:p6 m A b=0):p6 m A (elim b a)=p6 m A a:=by
 have hl:(elim b a).len≤m.len-1:=By (by omega) (by omega)
 rw [vb hm (by omega),vb hm ha]
 rw [vb hm hb] at hk;unfold elim;rw [Quo.mk_add,Quo.mk_mul,Vo,Cg,hk,Gq.mul_zero,Gq.add_zero]
theorem J4 [IsP p] {m:Fp p} (hm:Fld m) {A:List (Fp p)}:∀(L:List (Fp p)) (x:Fp p),(∀b∈L,b.len<m.len∧p6 m A b=0)→x.len<m.len→p6 m A (tr L x)=p6 m A x
 | [],_,_,_=>rfl
 | b::bs,x,h,hx=>by
  have hb:=h b (by simp)
  have hl:(elim b x).len≤m.len-1:=By (by omega) (by omega)
  show p6 m A (tr bs (elim b x))=_;rw [J4 hm bs (elim b x) (fun c hc=>h c (by simp [hc])) (by omega),J7 hm hx hb.1 hb.2]
theorem Jz [IsP p] {m:Fp p} (hm:Fld m) {A:List (Fp p)} {x:Fp p} (hx:x.len<m.len) (k:Zp p) (hk:p6 m A x=0):p6 m A (Pol.C k*x)=0:=by
 have hl:(Pol.C k*x).len<m.len:=by
  have h2:=hm.two;have:(Pol.C k*x).len≤m.len-1:=Pol.len_le fun j hj=>by rw [Pol.c_Cmul,X7 (by omega),Gq.mul_zero]
  omega
 rw [vb hm hl,Quo.mk_mul,Cg,←vb hm hx,hk,Gq.mul_zero]
theorem Jh (a:Fp p) (L:List (Fp p)):(Dd a L).length=L.length+1:=by
 rw [(Ao a L).length_eq,aw,az]; rfl
noncomputable def lsC [IsP p] (m v:Fp p):Fp p:=Pol.C (zp p (-1))*(gi m 1 v*jw m v%m)
noncomputable def lsN [IsP p] (m:Fp p) (A:List (Fp p)) (x:Fp p):List (Fp p):=if (svI m x 0 A 0).len=0 then A else lh m [lsC m (svI m x 0 A 0),1] A
noncomputable def lsS [IsP p] (m:Fp p):List (Fp p)→List (Fp p)→List (Fp p)
 | [],A=>A
 | x::xs,A=>lsS m xs (lsN m A x)
theorem a0k [IsP p] {m v:Fp p} (hm:Fld m):(lsC m v).len<m.len:=by
 have h1:=Pol.len_mod (gi m 1 v*jw m v) hm.mon.2;have:(lsC m v).len≤m.len-1:=Pol.len_le fun j hj=>by unfold lsC; rw [Pol.c_Cmul,X7 (by omega),Gq.mul_zero]
 omega
theorem a8o [IsP p] {m v:Fp p} (hm:Fld m) (hv:v≠0) (hvl:v.len<m.len):Quo.mk m (lsC m v)*Quo.mk m v+sg 1 (Quo.mk m v)=0:=by
 have hi:=Bq hm hv hvl;unfold lsC;rw [Quo.mk_mul,Pol.mk_mod,Quo.mk_mul,R6,Hl,Hu,Pol.C_neg,Pol.C_one,Quo.mk_neg,Quo.mk_one];have e:-1*(sg 1 (Quo.mk m v)*Quo.mk m (jw m v))*Quo.mk m v+sg 1 (Quo.mk m v)=sg 1 (Quo.mk m v)*(1-Quo.mk m (jw m v)*Quo.mk m v):=bf [sg 1 (Quo.mk m v),Quo.mk m (jw m v),Quo.mk m v] rfl;rw [e,hi];exact bf [sg 1 (Quo.mk m v)] rfl
structure LsI [IsP p] (m:Fp p) (A:List (Fp p)):Prop where
 trim:n8 A
 res:∀c∈A,c.len<m.len
 ex:∃L:List (Fp p),Desc (m.len-1) L∧(∀b∈L,p6 m A b=0)∧A.length=L.length+1
theorem LsI.len [IsP p] {m:Fp p} {A:List (Fp p)} (hm:Fld m) (h:LsI m A):1≤A.length∧A.length≤5:=by
 obtain ⟨L,h1,_,h3⟩:=h.ex;have:=h1.length;have h5:=hm.five;have h2:=hm.two;omega
theorem LsI.one [IsP p] {m:Fp p} (hm:Fld m):LsI m (sw (1:Fp p) 0):=⟨(Vf hm).trim,(Vf hm).res,[],Desc.nil _,(fun b hb=>by cases hb),by rw [mz]; rfl⟩
theorem V5 [IsP p] (c:Fp p):n8 [c,(1:Fp p)]:=fun n hn=>by
 have:n=1:=by simp at hn; omega
 subst this;exact Rd
theorem a0d [IsP p] {m c:Fp p} (hm:Fld m) (hc:c.len<m.len):∀y∈[c,(1:Fp p)],y.len<m.len:=fun y hy=>by
 have h2:=hm.two;have:(1:Fp p).len=1:=Pol.len_one;simp at hy;rcases hy with rfl | rfl <;> omega
theorem LsI.next [IsP p] {m x:Fp p} {A:List (Fp p)} (hm:Fld m) (h:LsI m A) (hx:x.len<m.len):LsI m (lsN m A x):=by
 have h0:=hm.mon.2;have h2:=hm.two;unfold lsN
 by_cases hv:(svI m x 0 A 0).len=0
 ·rw [if_pos hv]; exact h
 ·rw [if_neg hv]
  obtain ⟨L,hL,hK,hlen⟩:=h.ex;have hvl:(svI m x 0 A 0).len<m.len:=Qd h0 0 A 0 (by rw [Pol.len_zero]; omega)
  have hv0:svI m x 0 A 0≠0:=fun h=>hv (by rw [h,Pol.len_zero])
  have hcl:=a0k (v:=svI m x 0 A 0) hm;have hLl:∀b∈L,b.len<m.len:=fun b hb=>by have:=hL.le b hb; omega
  have step:∀y:Fp p,y.len<m.len→p6 m (lh m [lsC m (svI m x 0 A 0),1] A) y=Quo.mk m (lsC m (svI m x 0 A 0))*p6 m A y+sg 1 (p6 m A y):=fun y hy=>Vx hm h.res hy (by omega)
  have kill:∀y:Fp p,y.len<m.len→p6 m A y=0→p6 m (lh m [lsC m (svI m x 0 A 0),1] A) y=0:=fun y hy hk=>by
   rw [step y hy,hk,Gq.mul_zero,Iq,Gq.add_zero]
  have killx:p6 m (lh m [lsC m (svI m x 0 A 0),1] A) x=0:=by
   rw [step x hx];exact a8o hm hv0 hvl
  have hr:tr L x≠0:=fun hz=>by
   have e:=J4 (A:=A) hm L x (fun b hb=>⟨hLl b hb,hK b hb⟩) hx
   rw [hz] at e
   have e2:p6 m A (0:Fp p)=0:=by
    have:=Jz (A:=A) hm (x:=0) (by rw [Pol.len_zero]; omega)
    rw [vb hm (by rw [Pol.len_zero]; omega)]
    have h3:=Cg (m:=m) (0:Zp p) (0:Quo m) A 0;rw [Gq.mul_zero] at h3;rw [Quo.mk_zero,h3];have:Quo.mk m (Pol.C (0:Zp p))=0:=by rw [Pol.C_zero]; rfl
    rw [this,Gq.zero_mul]
   rw [e2] at e;have e3:=(Pol.mod_eq_iff h0).2 (show Quo.mk m (svI m x 0 A 0)=Quo.mk m 0 from e.symm);rw [Pol.mod_small hvl,Pol.zero_mod h0] at e3;exact hv0 e3
  have hrl:(tr L x).len≤m.len-1:=It hL.le (by omega)
  have hml:=tv hr
  have killr:p6 m (lh m [lsC m (svI m x 0 A 0),1] A) (Gq.mon (tr L x))=0:=by
   refine Jz hm (by omega) _ ?_
   rw [J4 hm L x (fun b hb=>⟨hLl b hb,kill b (hLl b hb) (hK b hb)⟩) hx]
   exact killx
  refine ⟨rt _ _ _,fun c hc=>by have:=rp (N:=m.len-1) h0 (by omega) c hc; omega,Td L x,Tl hL (by omega),fun b hb=>?_,?_⟩
  ·rw [Hh hr] at hb
   rcases yp hb with rfl | ⟨c,hc,rfl⟩
   ·exact killr
   ·have hcl':=hLl c hc
    rw [J7 hm hcl' (by omega) killr]
    exact kill c hcl' (hK c hc)
  ·rw [Hh hr,Jh,S3 hm (V5 _) h.trim (a0d hm hcl) h.res (by simp) (by omega)]
   simp only [b4,bh];omega
theorem LsI.all [IsP p] {m:Fp p} (hm:Fld m):∀(xs A:List (Fp p)),LsI m A→(∀x∈xs,x.len<m.len)→LsI m (lsS m xs A)
 | [],_,h,_=>h
 | x::xs,A,h,hx=>LsI.all hm xs _ (h.next hm (hx x (by simp))) fun y hy=>hx y (by simp [hy])
end
end Pe

namespace Pe
open Go Gq
variable {T:Nat→Option Fn} {A:ah}
section
variable {p:Int}
noncomputable def frK [IsP p] (m d:Fp p):Int:=if (m.len-1)%2=1 then -inv p (rep ((nmS m d (m.len-1)).c 0)) else inv p (rep ((nmS m d (m.len-1)).c 0))
noncomputable def frB [IsP p] (m d:Fp p):Fp p:=Pol.C (zp p (frK m d))*m
noncomputable def frA [IsP p] (m g d:Fp p):Fp p:=cS (a6o m (Pol.X%m) g d (frB m d) (frB m d).len (frB m d).len) (m.len-1)
end
end Pe


namespace Pe
open Go Gq
variable {T:Nat→Option Fn} {A:ah}
end Pe


namespace Pe
open Go Gq
variable {T:Nat→Option Fn} {A:ah}
end Pe


namespace Pe
open Go Gq
variable {T:Nat→Option Fn} {A:ah}
end Pe

namespace Pe
open Go Gq
variable {T:Nat→Option Fn} {A:ah}
section
variable {p:Int} [IsP p]
noncomputable def moR (m:Fp p) (xs:List (Fp p)) (i:Nat):List (Fp p):=xs.map (gi m (i%(m.len-1)))
noncomputable def moK (m:Fp p) (xs:List (Fp p)) (k:Nat):List (List (Fp p)):=(List.range k).map (moR m xs)
noncomputable abbrev nw (r:List (Fp p)):D:=.sl .leaf (r.map f9)
theorem kb (m:Fp p) (xs:List (Fp p)) (i:Nat):(moR m xs i).length=xs.length:=az ..
theorem qz (m:Fp p) (xs:List (Fp p)) (k:Nat):(moK m xs k).length=k:=by unfold moK; rw [az,fq]
theorem Li (m:Fp p) (xs:List (Fp p)) (k:Nat):moK m xs (k+1)=moK m xs k++[moR m xs k]:=by unfold moK; rw [List.range_succ,dh]; rfl
theorem Yj {m:Fp p} (hm:m≠0) {xs:List (Fp p)} (hx:∀x∈xs,x.len<m.len) {i:Nat}:∀y∈moR m xs i,y.len<m.len:=fun y hy=>by
 obtain ⟨x,h1,rfl⟩:=cg.1 hy;exact rf hm _ _ (hx x h1)
theorem L9 {m:Fp p} {xs:List (Fp p)} {i k:Nat} (h:k<xs.length):(moR m xs i).take (k+1)=(moR m xs i).take k++[gi m (i%(m.len-1)) xs[k]]:=by
 unfold moR;rw [←List.map_take,←List.map_take,c8 h,dh]; rfl
theorem a22 {O:ah} (hf:Ej O) {m:Fp p} {xs:List (Fp p)} (h2:2≤m.len) (hml:m.len≤64) (hl:xs.length<1000000) (hx:∀x∈xs,x.len≤64) {i:Nat} (hi:i<1000000) {co:Option Nat} (OD:List D):∀(r k:Nat) (cp:Option Nat),k+r=xs.length→∃cp':Option Nat,
 dn O 0 (.loop Zh_L0) ⟨[(1,.d (.sl .leaf (xs.map f9))),(2,.ptr 0 []),(5,.sl 1 [] 0 i co),(6,(.d (.int .i64 i))),(7,.sl 2 [] 0 k cp),(11,(.d (.int .i64 xs.length))),(12,(.d (.int .i64 i))),(15,.d (.sl .leaf (xs.map f9))),(16,(.d (.int .i64 xs.length))),(17,(.d (.int .i64 k)))],[.box false (uf m),.sl false .leaf OD,.sl false .leaf (((moR m xs i).take k).map f9),.hole,.hole,.hole,.hole]⟩ =
  some (.exit 2,⟨[(1,.d (.sl .leaf (xs.map f9))),(2,.ptr 0 []),(5,.sl 1 [] 0 i co),(6,(.d (.int .i64 i))),(7,.sl 2 [] 0 xs.length cp'),(11,(.d (.int .i64 xs.length))),(12,(.d (.int .i64 i))),(15,.d (.sl .leaf (xs.map f9))),(16,(.d (.int .i64 xs.length))),(17,(.d (.int .i64 xs.length))),(18,(.d (.bool false)))],[.box false (uf m),.sl false .leaf OD,.sl false .leaf ((moR m xs i).map f9),.hole,.hole,.hole,.hole]⟩)
 | 0,k,cp,hk=>by
  obtain rfl:k=xs.length:=by omega
  rw [b5 (by rw [kb]; exact b9 _)]
  refine ⟨cp,bv ?_⟩;generalize xs.map f9=XD at *;generalize (moR m xs i).map f9=RD at *;simp -implicitDefEqProofs [Zh_L0,ao]
 | r+1,k,cp,hk=>by
  have hlt:k<xs.length:=by omega
  have e1:=hf p m xs[k] i h2 hml (by have:=hx _ (bm hlt); omega) hi
  have hXD:(xs.map f9).length=xs.length:=az ..;have hxi:∀h:k<(xs.map f9).length,(xs.map f9)[k]'h=(D.sl .leaf (am .i64 (row xs[k]))):=fun h=>by rw [du]
  have w4:IntKind.i64.wrap ((k:Int)+1)=((k+1:Nat):Int):=(w64 (x:=(k:Int)+1) (by omega)).trans (by omega)
  have h24:(k+1)*24≤1099511627776:=by omega
  have htk:((moR m xs i).take (k+1)).map f9=((moR m xs i).take k).map f9++[(D.sl .leaf (am .i64 (row (gi m (i%(m.len-1)) xs[k]))))]:=by rw [L9 hlt,dh]; rfl
  have hL:(((moR m xs i).take k).map f9).length=k:=by rw [az,ba,kb]; omega
  have htt:(((moR m xs i).take k).map f9).take k=((moR m xs i).take k).map f9:=b5 (by omega)
  obtain ⟨cp',ih⟩:=a22 hf h2 hml hl hx hi OD r (k+1) none (by omega)
  refine ⟨cp',bq ?_ ih⟩;rw [htk];generalize row (gi m (i%(m.len-1)) xs[k])=Qi at *;generalize row xs[k]=Ri at *;generalize ((moR m xs i).take k).map f9=TD at *;generalize xs.map f9=XD at *;simp -implicitDefEqProofs [Zh_L0,ao,hlt,hXD,hxi,e1,h24,hL,htt,w4,List.replicate]
theorem Xi {O:ah} (hf:Ej O) {m:Fp p} {xs:List (Fp p)} (h2:2≤m.len) (hml:m.len≤64) (hl:xs.length<1000000) (hx:∀x∈xs,x.len≤64):∀(r i:Nat) (co:Option Nat),i+r=xs.length→∃co':Option Nat,
 dn O 0 (.loop Zh_L1) ⟨[(1,.d (.sl .leaf (xs.map f9))),(2,.ptr 0 []),(5,.sl 1 [] 0 i co),(11,(.d (.int .i64 xs.length))),(12,(.d (.int .i64 i)))],[.box false (uf m),.sl false .leaf ((moK m xs i).map nw),.hole,.hole,.hole,.hole,.hole]⟩ =
  some (.exit 0,⟨[(1,.d (.sl .leaf (xs.map f9))),(2,.ptr 0 []),(5,.sl 1 [] 0 xs.length co'),(11,(.d (.int .i64 xs.length))),(12,(.d (.int .i64 xs.length))),(13,(.d (.bool false)))],[.box false (uf m),.sl false .leaf ((moK m xs xs.length).map nw),.hole,.hole,.hole,.hole,.hole]⟩)
 | 0,i,co,hi=>by
  obtain rfl:i=xs.length:=by omega
  refine ⟨co,bv ?_⟩;generalize (moK m xs xs.length).map nw=RD at *;generalize xs.map f9=XD at *;simp -implicitDefEqProofs [Zh_L1,ao]
 | r+1,i,co,hi=>by
  have hlt:i<xs.length:=by omega
  obtain ⟨cp,e1⟩:=a22 hf h2 hml hl hx (i:=i) (by omega) (co:=co) ((moK m xs i).map nw) xs.length 0 (some 0) (bi _)
  rw [show ((0:Nat):Int)=0 from rfl,dy,kv] at e1;have hXD:(xs.map f9).length=xs.length:=az ..;have w4:IntKind.i64.wrap ((i:Int)+1)=((i+1:Nat):Int):=(w64 (x:=(i:Int)+1) (by omega)).trans (by omega)
  have h24:(i+1)*24≤1099511627776:=by omega
  have hL:((moK m xs i).map nw).length=i:=by rw [az,qz]
  have htt:((moK m xs i).map nw).take i=(moK m xs i).map nw:=b5 (by omega)
  have hRL:((moR m xs i).map f9).length=xs.length:=by rw [az,kb]
  have hRt:((moR m xs i).map f9).take xs.length=(moR m xs i).map f9:=b5 (by omega)
  have htk:(moK m xs (i+1)).map nw=(moK m xs i).map nw++[.sl .leaf ((moR m xs i).map f9)]:=by rw [Li,dh]; rfl
  obtain ⟨co',ih⟩:=Xi hf h2 hml hl hx r (i+1) none (by omega)
  refine ⟨co',bq ?_ ih⟩;rw [htk];generalize (moK m xs i).map nw=TD at *;generalize (moR m xs i).map f9=QD at *;generalize xs.map f9=XD at *;simp -implicitDefEqProofs [Zh_L1,ao,hlt,hXD,e1,h24,hL,htt,hRL,hRt,w4,List.replicate]
end
def I5 (O:ah):Prop:=∀(p:Int) [IsP p] (m:Fp p) (xs:List (Fp p)),2≤m.len→m.len≤64→xs.length<1000000→(∀x∈xs,x.len≤64)→ask O Fh [uf m,.sl .leaf (xs.map f9)]=some (.sl .leaf ((moK m xs xs.length).map nw))
theorem a0o (hT:T Fh=some Zh) (hf:Ej (den T A)):I5 (den T A):=by
 intro p ip m xs h2 hml hl hx;obtain ⟨co,e⟩:=Xi (O:=den T A) hf h2 hml hl hx xs.length 0 (some 0) (bi _);rw [show ((0:Nat):Int)=0 from rfl,show (moK m xs 0).map nw=[] from rfl] at e;have h1:(xs.map f9).length=xs.length:=az ..;have h3:((moK m xs xs.length).map nw).length=xs.length:=by rw [az,qz]
 have htk:((moK m xs xs.length).map nw).take xs.length=(moK m xs xs.length).map nw:=b5 (by omega)
 refine bu hT rfl ?_;generalize (moK m xs xs.length).map nw=QD at *;generalize xs.map f9=XD at *;simp -implicitDefEqProofs [Zh,Zh_B,h1,h3,htk,e]
section
variable {p:Int} [IsP p]
end
theorem V2 {p:Int} {l:List Int} {ls:List (List Int)}:si p l ls 0 4=0↔a1d p l ls∧ls.length≤4:=by
 unfold si
 by_cases h:pj p l ls=0
 ·rw [if_neg (by simpa using h)]
  have:=Lu.1 h
  by_cases h2:ls.length≤4
  ·rw [if_neg (by omega)]; exact ⟨fun _=>⟨this,h2⟩,fun _=>rfl⟩
  ·rw [if_pos (by omega)]; exact ⟨fun e=>by omega,fun e=>absurd e.2 h2⟩
 ·rw [if_pos h]
  exact ⟨fun e=>absurd e h,fun e=>Lu.2 e.1⟩
section
variable {p:Int} [IsP p]
end
end Pe

namespace Gq
section
variable {K:Type} [CR K]
abbrev Rw (K:Type):=Nat→K
def tlR (r:Rw K):Rw K:=fun k=>r (k+1)
def exD (d:List (Rw K)→K):List (Rw K)→List (Rw K)→K
 | _,[]=>0
 | pre,r::rest=>r 0*d ((pre++rest).map tlR)-exD d (pre++[r]) rest
def det:Nat→List (Rw K)→K
 | 0,_=>1
 | n+1,M=>exD (det n) [] M
def adR (u:Rw K) (c:K) (v:Rw K):Rw K:=fun k=>u k+c*v k
@[simp] theorem abc (u:Rw K) (c:K) (v:Rw K):tlR (adR u c v)=adR (tlR u) c (tlR v):=rfl
theorem M8 {d:List (Rw K)→K} {n:Nat} (hd:∀A x C,A.length+C.length+2=n→d (A++x::x::C)=0):∀(C P Q:List (Rw K)) (x:Rw K),P.length+Q.length+C.length+1=n→exD d (P++x::x::Q) C=0
 | [],_,_,_,_=>rfl
 | r::C,P,Q,x,hl=>by
  simp only [b4] at hl
  have e1:d (((P++x::x::Q)++C).map tlR)=0:=by
   have:=hd (P.map tlR) (tlR x) ((Q++C).map tlR) (by simp only [az,aw]; omega)
   simpa [di] using this
  have e2:=M8 hd C P (Q++[r]) x (by simp only [aw,b4,bh]; omega)
  rw [exD,e1,show P++x::x::Q++[r]=P++x::x::(Q++[r]) by simp,e2]
  exact bf [r 0] rfl
theorem sk:∀(n:Nat) (A:List (Rw K)) (x:Rw K) (C:List (Rw K)),A.length+C.length+2=n→det n (A++x::x::C)=0
 | 0,_,_,_,h=>by omega
 | n+1,A,x,C,h=>by
  have key:∀(A P:List (Rw K)),P.length+A.length+C.length+2=n+1→exD (det n) P (A++x::x::C)=0:=by
   intro A
   induction A with
   | nil=>
    intro P hl;simp only [bh] at hl;have e1:=M8 (d:=det n) (n:=n) (sk n) C P [] x (by simp only [bh]; omega)
    simp only [c6,exD];rw [show P++[x]++[x]=P++x::x::[] by simp,e1,show P++x::C=P++[x]++C by simp]
    exact bf [x 0,det n ((P++[x]++C).map tlR)] rfl
   | cons a A ih=>
    intro P hl;simp only [b4] at hl
    have e1:det n ((P++(A++x::x::C)).map tlR)=0:=by
     have:=sk n ((P++A).map tlR) (tlR x) (C.map tlR) (by simp only [az,aw]; omega)
     simpa [di] using this
    have e2:=ih (P++[a]) (by simp only [aw,b4,bh]; omega)
    rw [c7,exD,e1,e2];exact bf [a 0] rfl
  have:=key A [] (by simp only [bh]; omega)
  simpa [det] using this
theorem Jw {d:List (Rw K)→K} {n:Nat} (hd:∀A u c v C,A.length+C.length+1=n→d (A++adR u c v::C)=d (A++u::C)+c*d (A++v::C)):∀(C P Q:List (Rw K)) (u:Rw K) (c:K) (v:Rw K),P.length+Q.length+C.length=n →
 exD d (P++adR u c v::Q) C=exD d (P++u::Q) C+c*exD d (P++v::Q) C
 | [],_,_,_,c,_,_=>by
  simp only [exD];exact bf [c] rfl
 | r::C,P,Q,u,c,v,hl=>by
  simp only [b4] at hl
  have e1:d (((P++adR u c v::Q)++C).map tlR)=d (((P++u::Q)++C).map tlR)+c*d (((P++v::Q)++C).map tlR):=by
   have:=hd (P.map tlR) (tlR u) c (tlR v) ((Q++C).map tlR) (by simp only [az,aw]; omega)
   simpa [di] using this
  have e2:=Jw hd C P (Q++[r]) u c v (by simp only [aw,b4,bh]; omega)
  have s:∀w:Rw K,P++w::Q++[r]=P++w::(Q++[r]):=fun w=>by simp
  rw [exD,exD,exD,e1,s,s,s,e2];exact bf [r 0,d (((P++u::Q)++C).map tlR),d (((P++v::Q)++C).map tlR),c,exD d (P++u::(Q++[r])) C,exD d (P++v::(Q++[r])) C] rfl
theorem wy:∀(n:Nat) (A:List (Rw K)) (u:Rw K) (c:K) (v:Rw K) (C:List (Rw K)),A.length+C.length+1=n→det n (A++adR u c v::C)=det n (A++u::C)+c*det n (A++v::C)
 | 0,_,_,_,_,_,h=>by omega
 | n+1,A,u,c,v,C,h=>by
  have key:∀(A P:List (Rw K)),P.length+A.length+C.length=n→exD (det n) P (A++adR u c v::C)=exD (det n) P (A++u::C)+c*exD (det n) P (A++v::C):=by
   intro A
   induction A with
   | nil=>
    intro P hl;simp only [bh] at hl;have e1:=Jw (d:=det n) (n:=n) (wy n) C P [] u c v (by simp only [bh]; omega)
    simp only [c6,exD];rw [e1];show (u 0+c*v 0)*_-_=_;exact bf [u 0,c,v 0,det n ((P++C).map tlR),exD (det n) (P++[u]) C,exD (det n) (P++[v]) C] rfl
   | cons a A ih=>
    intro P hl;simp only [b4] at hl
    have e1:det n ((P++(A++adR u c v::C)).map tlR)=det n ((P++(A++u::C)).map tlR)+c*det n ((P++(A++v::C)).map tlR):=by
     have:=wy n ((P++A).map tlR) (tlR u) c (tlR v) (C.map tlR) (by simp only [az,aw]; omega)
     simpa [di] using this
    have e2:=ih (P++[a]) (by simp only [aw,b4,bh]; omega)
    simp only [c7,exD];rw [e1,e2];exact bf [a 0,c,det n ((P++(A++u::C)).map tlR),det n ((P++(A++v::C)).map tlR),exD (det n) (P++[a]) (A++u::C),exD (det n) (P++[a]) (A++v::C)] rfl
  have:=key A [] (by simp only [bh]; omega)
  simpa [det] using this
theorem Q2 {n:Nat} (A:List (Rw K)) (x y:Rw K) (C:List (Rw K)) (h:A.length+C.length+2=n):det n (A++x::y::C)=-det n (A++y::x::C):=by
 have e0:=sk n A (adR x 1 y) C h;rw [wy n A x 1 y (adR x 1 y::C) (by simp only [b4]; omega)] at e0
 have a:∀z:Rw K,A++z::adR x 1 y::C=(A++[z])++adR x 1 y::C:=fun z=>by simp
 have b:∀z w:Rw K,(A++[z])++w::C=A++z::w::C:=fun z w=>by simp
 rw [a x,a y,wy n (A++[x]) x 1 y C (by simp only [aw,b4,bh]; omega),wy n (A++[y]) x 1 y C (by simp only [aw,b4,bh]; omega),
  b,b,b,b,sk n A x C h,sk n A y C h] at e0
 have e1:det n (A++x::y::C)+det n (A++y::x::C)=0:=by
  rw [←e0];exact bf [det n (A++x::y::C),det n (A++y::x::C)] rfl
 have e2:det n (A++x::y::C)=det n (A++x::y::C)+det n (A++y::x::C) + -det n (A++y::x::C):=bf [det n (A++x::y::C),det n (A++y::x::C)] rfl;rw [e2,e1];exact bf [det n (A++y::x::C)] rfl
def sgn:Nat→K
 | 0=>1
 | k+1=>-sgn k
theorem yq {n:Nat}:∀(B A:List (Rw K)) (x:Rw K) (C:List (Rw K)),A.length+B.length+C.length+1=n→det n (A++x::(B++C))=sgn B.length*det n (A++B++x::C)
 | [],A,x,C,_=>by
  simp only [c6,i7,bh,sgn];exact bf [det n (A++x::C)] rfl
 | b::B,A,x,C,h=>by
  simp only [b4] at h;rw [c7,Q2 (n:=n) A x b (B++C) (by rw [aw]; omega)]
  have ih:=yq (n:=n) B (A++[b]) x C (by simp only [aw,b4,bh]; omega)
  rw [show A++b::x::(B++C)=A++[b]++x::(B++C) by simp,ih,show A++[b]++B++x::C=A++(b::B)++x::C by simp]
  show _=-sgn B.length*_;exact bf [sgn B.length,det n (A++(b::B)++x::C)] rfl
theorem a18 {n:Nat} (A B:List (Rw K)) (x:Rw K) (C:List (Rw K)) (h:A.length+B.length+C.length+2=n):det n (A++x::(B++x::C))=0:=by
 have e:=yq (n:=n) B A x (x::C) (by rw [b4]; omega)
 rw [e,sk n (A++B) x C (by rw [aw]; omega)]
 exact bf [(sgn B.length:K)] rfl
theorem Ub {n:Nat} (B:List (Rw K)) (x y:Rw K) (C:List (Rw K)) (h:B.length+C.length+2=n):det n (x::(B++y::C))=-det n (y::(B++x::C)):=by
 have e1:=yq (n:=n) B [] x (y::C) (by simp only [b4,bh]; omega)
 have e2:=yq (n:=n) B [] y (x::C) (by simp only [b4,bh]; omega)
 simp only [c6] at e1 e2;rw [e1,e2,Q2 B x y C h];exact bf [(sgn B.length:K),det n (B++y::x::C)] rfl
theorem Mg {n:Nat} (x:Rw K) (f:Rw K→K):∀(R A:List (Rw K)),A.length+R.length+1=n→det n (x::(A++R.map fun y=>adR y (f y) x))=det n (x::(A++R))
 | [],_,_=>rfl
 | y::R,A,h=>by
  simp only [b4] at h;have ih:=Mg (n:=n) x f R (A++[adR y (f y) x]) (by simp only [aw,b4,bh]; omega)
  simp only [di,c7,c6] at ih;rw [eo,ih,←c7,wy n (x::A) y (f y) x R (by simp only [b4]; omega)]
  have e:=a18 (n:=n) [] A x R (by rw [bh]; omega)
  simp only [c6] at e;rw [show x::A++x::R=x::(A++x::R) from rfl,e];show det n (x::(A++y::R))+f y*0=det n (x::(A++y::R));exact bf [f y,det n (x::(A++y::R))] rfl
theorem E9 {d:List (Rw K)→K}:∀(R P:List (Rw K)),(∀r∈R,r 0=0)→exD d P R=0
 | [],_,_=>rfl
 | r::R,P,h=>by
  rw [exD,h r (by simp),E9 R (P++[r]) fun q hq=>h q (by simp [hq])]
  exact bf [d ((P++R).map tlR)] rfl
theorem Sn {n:Nat} (x:Rw K) (R:List (Rw K)) (h:∀r∈R,r 0=0):det (n+1) (x::R)=x 0*det n (R.map tlR):=by
 show exD (det n) [] (x::R)=_;rw [exD,E9 R _ h,c6];exact bf [x 0,det n (R.map tlR)] rfl
theorem Wf {n:Nat} (R:List (Rw K)) (h:∀r∈R,r 0=0):det (n+1) R=0:=E9 R [] h
end
end Gq

namespace Pe
open Go Gq
variable {T:Nat→Option Fn} {A:ah}
section
variable {p:Int} [IsP p]
abbrev Tab (p:Int) [IsP p]:=List (List (Fp p))
noncomputable def dtL (m:Fp p) (d:Tab p→Fp p):Fp p→Nat→Tab p→Tab p→Fp p
 | acc,_,_,[]=>acc
 | acc,i,pre,r::rest=>dtL m d (acc+Pol.C (zp p (1-2*((i%2:Nat):Int)))*(r.headD 0*d ((pre++rest).map List.tail)%m)) (i+1) (pre++[r]) rest
noncomputable def dtP (m:Fp p):Nat→Tab p→Fp p
 | 0,_=>1
 | n+1,M=>dtL m (dtP m n) 0 0 [] M
def Sq (m:Fp p) (n:Nat) (M:Tab p):Prop:=M.length=n∧∀r∈M,r.length=n∧∀x∈r,x.len<m.len
theorem Sq.minor {m:Fp p} {n:Nat} {pre:Tab p} {r:List (Fp p)} {rest:Tab p} (h:Sq m (n+1) (pre++r::rest)):Sq m n ((pre++rest).map List.tail):=by
 obtain ⟨h1,h2⟩:=h;refine ⟨?_,fun q hq=>?_⟩
 ·simp only [aw,b4] at h1
  simp only [az,aw]; omega
 ·obtain ⟨q,hq',rfl⟩:=cg.1 hq
  have hm:q∈pre++r::rest:=by
   rcases b7.1 hq' with g | g
   ·exact b7.2 (.inl g)
   ·exact b7.2 (.inr (by simp [g]))
  obtain ⟨g1,g2⟩:=h2 q hm;exact ⟨by rw [List.length_tail]; omega,fun x hx=>g2 x (List.mem_of_mem_tail hx)⟩
theorem Va (k:Zp p) (a:Fp p):(Pol.C k*a).len≤a.len:=by
 by_cases h:k=0
 ·rw [h,show Pol.C (0:Zp p)=(0:Fp p) from Pol.ext fun i=>by cases i <;> rfl,show (0:Fp p)*a=0 from bf [a] rfl,Pol.len_zero]; omega
 ·rw [Pol.len_Cmul h]; exact b9 _
theorem Q8 {m:Fp p} (hm:m≠0) (hm1:2≤m.len) {d:Tab p→Fp p}:∀(R:Tab p) (acc:Fp p) (i:Nat) (pre:Tab p),acc.len<m.len→(dtL m d acc i pre R).len<m.len
 | [],acc,_,_,h=>h
 | r::R,acc,i,pre,h=>by
  rw [dtL];refine Q8 hm hm1 R _ _ _ ?_;have h1:=Pol.len_mod (r.headD 0*d ((pre++R).map List.tail)) hm;have h2:=Va (zp p (1-2*((i%2:Nat):Int))) (r.headD 0*d ((pre++R).map List.tail)%m);have h3:=Pol.len_add_le (a:=acc) (b:=Pol.C (zp p (1-2*((i%2:Nat):Int)))*(r.headD 0*d ((pre++R).map List.tail)%m)) (n:=m.len-1) (by omega) (by omega)
  omega
theorem Iu {m:Fp p} (hm:m≠0) (hm1:2≤m.len) (n:Nat) (M:Tab p):(dtP m n M).len<m.len:=by
 cases n with
 | zero=>
  show (1:Fp p).len<m.len;have:(1:Fp p).len=1:=Pol.len_one;omega
 | succ n=>
  refine Q8 hm hm1 M 0 0 [] ?_;have:(0:Fp p).len=0:=Pol.len_zero;omega
noncomputable def rwQ (m:Fp p) (r:List (Fp p)):Rw (Quo m):=fun k=>Quo.mk m (r.getD k 0)
end
section
variable {p:Int}
theorem Y2 (m:Fp p) (r:List (Fp p)):tlR (rwQ m r)=rwQ m r.tail:=by
 funext k
 cases r with
 | nil=>rfl
 | cons x r=>rfl
end
section
variable {p:Int} [IsP p]
end
section
variable {p:Int}
theorem a7d (m:Fp p) (r:List (Fp p)):rwQ m r 0=Quo.mk m (r.headD 0):=by cases r <;> rfl
end
section
variable {p:Int} [IsP p]
noncomputable def sQ (m:Fp p) (i:Nat):Quo m:=Quo.mk m (Pol.C (zp p (1-2*((i%2:Nat):Int))))
end
section
variable {p:Int}
theorem abe (m:Fp p):sQ m 0=1:=rfl
end
section
variable {p:Int} [IsP p]
end
section
variable {p:Int}
theorem a01 (m:Fp p) (i:Nat):sQ m (i+1)=-sQ m i:=by
 unfold sQ;rcases Nat.mod_two_eq_zero_or_one i with h | h
 ·rw [h,show (i+1)%2=1 by omega]
  show Quo.mk m (Pol.C (-zp p 1))=-Quo.mk m (Pol.C (zp p 1));rw [Pol.C_neg]; rfl
 ·rw [h,show (i+1)%2=0 by omega]
  show Quo.mk m (Pol.C (zp p 1))=-Quo.mk m (Pol.C (-zp p 1));rw [Pol.C_neg,show Quo.mk m (-Pol.C (zp p 1))=-Quo.mk m (Pol.C (zp p 1)) from rfl];exact bf [Quo.mk m (Pol.C (zp p 1))] rfl
end
section
variable {p:Int} [IsP p]
theorem Y8 {m:Fp p} {d:Tab p→Fp p} {dq:List (Rw (Quo m))→Quo m} (hd:∀N,Quo.mk m (d N)=dq (N.map (rwQ m))):∀(R:Tab p) (acc:Fp p) (i:Nat) (pre:Tab p),
 Quo.mk m (dtL m d acc i pre R)=Quo.mk m acc+sQ m i*exD dq (pre.map (rwQ m)) (R.map (rwQ m))
 | [],acc,i,pre=>by
  show Quo.mk m acc=Quo.mk m acc+sQ m i*0;exact bf [Quo.mk m acc,sQ m i] rfl
 | r::R,acc,i,pre=>by
  have e1:(pre++R).map (tlR ∘ rwQ m)=((pre++R).map List.tail).map (rwQ m):=by
   rw [kz];exact List.map_congr_left fun q _=>Y2 m q
  have e3:exD dq (pre.map (rwQ m)) (rwQ m r::R.map (rwQ m))=Quo.mk m (r.headD 0)*Quo.mk m (d ((pre++R).map List.tail))-exD dq (pre.map (rwQ m)++[rwQ m r]) (R.map (rwQ m)):=by
   rw [exD,←dh,kz,e1,←hd,a7d]
  have e2:Quo.mk m (acc+Pol.C (zp p (1-2*((i%2:Nat):Int)))*(r.headD 0*d ((pre++R).map List.tail)%m)) =
   Quo.mk m acc+sQ m i*(Quo.mk m (r.headD 0)*Quo.mk m (d ((pre++R).map List.tail))):=by
   show Quo.mk m acc+Quo.mk m (Pol.C (zp p (1-2*((i%2:Nat):Int))))*Quo.mk m (r.headD 0*d ((pre++R).map List.tail)%m)=_;rw [Pol.mk_mod]; rfl
  rw [dtL,Y8 hd R,eo,e3,a01,e2,show (pre++[r]).map (rwQ m)=pre.map (rwQ m)++[rwQ m r] by rw [dh]; rfl]
  exact bf [Quo.mk m acc,sQ m i,Quo.mk m (r.headD 0),Quo.mk m (d ((pre++R).map List.tail)),exD dq (pre.map (rwQ m)++[rwQ m r]) (R.map (rwQ m))] rfl
theorem Yf (m:Fp p):∀(n:Nat) (M:Tab p),Quo.mk m (dtP m n M)=det n (M.map (rwQ m))
 | 0,_=>rfl
 | n+1,M=>by
  rw [dtP,Y8 (Yf m n) M 0 0 []];show Quo.mk m 0+sQ m 0*exD (det n) [] (M.map (rwQ m))=_;rw [abe,Quo.mk_zero];show 0+1*exD (det n) [] (M.map (rwQ m))=exD (det n) [] (M.map (rwQ m));exact bf [exD (det n) [] (M.map (rwQ m))] rfl
end
end Pe

namespace Pe
open Go Gq
variable {T:Nat→Option Fn} {A:ah}
section
variable {p:Int} [IsP p]
noncomputable abbrev tbD (M:Tab p):List D:=M.map fun r=>D.sl .leaf (r.map f9)
def mnr (M:Tab p) (i k:Nat):Tab p:=M.take (min k i)++(M.take k).drop (i+1)
theorem Xd (M:Tab p) (i:Nat):mnr M i (i+1)=mnr M i i:=by
 unfold mnr;rw [show min (i+1) i=min i i by omega,List.drop_of_length_le (by rw [ba]; omega),List.drop_of_length_le (by rw [ba]; omega)]
theorem Xp {M:Tab p} {i k:Nat} (hk:k<M.length) (h:k≠i):mnr M i (k+1)=mnr M i k++[M[k]]:=by
 unfold mnr
 by_cases hki:k<i
 ·rw [show min (k+1) i=k+1 by omega,show min k i=k by omega,c8 hk,List.drop_of_length_le (by rw [aw,ba,b4,bh]; omega),List.drop_of_length_le (by rw [ba]; omega)]
  simp
 ·rw [show min (k+1) i=i by omega,show min k i=i by omega,c8 hk,List.drop_append_of_le_length (by rw [ba]; omega),di]
theorem a14 {M pre:Tab p} {r:List (Fp p)} {rest:Tab p} (h:M=pre++r::rest):mnr M pre.length M.length=pre++rest:=by
 subst h;unfold mnr;rw [jc,show min (pre++r::rest).length pre.length=pre.length by rw [aw]; omega,je]
 congr 1
 rw [show pre.length+1=(pre++[r]).length by simp,show pre++r::rest=(pre++[r])++rest by simp,fc]
theorem Ph {O:ah} {m:Fp p} {M:Tab p} {n i:Nat} (hn:M.length=n) (hb:n<1000000) (hM:∀r∈M,0<r.length) (hi:i<n) {acc:List Int} {LD:D}:∀(q k:Nat) (cp:Option Nat),k+q=n→∃cp':Option Nat,
 dn O 0 (.loop Ze_L0) ⟨[(1,.d (.sl .leaf (tbD M))),(2,.ptr 0 []),(5,(.d (.sl .leaf (am .i64 acc)))),(6,(.d (.int .i64 i))),(7,.d LD),(8,.sl 2 [] 0 (mnr M i k).length cp),(16,.d (.sl .leaf (tbD M))),(17,(.d (.int .i64 n))),(18,(.d (.int .i64 i))),(23,.d (.sl .leaf (tbD M))),(24,(.d (.int .i64 n))),(25,(.d (.int .i64 k)))],[.box false (uf m),.hole,.sl false .leaf (tbD ((mnr M i k).map List.tail)),.hole,.hole]⟩ =
  some (.exit 2,⟨[(1,.d (.sl .leaf (tbD M))),(2,.ptr 0 []),(5,(.d (.sl .leaf (am .i64 acc)))),(6,(.d (.int .i64 i))),(7,.d LD),(8,.sl 2 [] 0 (mnr M i n).length cp'),(16,.d (.sl .leaf (tbD M))),(17,(.d (.int .i64 n))),(18,(.d (.int .i64 i))),(23,.d (.sl .leaf (tbD M))),(24,(.d (.int .i64 n))),(25,(.d (.int .i64 n))),(26,(.d (.bool false)))],[.box false (uf m),.hole,.sl false .leaf (tbD ((mnr M i n).map List.tail)),.hole,.hole]⟩)
 | 0,k,cp,hk=>by
  obtain rfl:k=n:=by omega
  refine ⟨cp,bv ?_⟩;show _=some (_,(⟨_,[_,_,.sl false .leaf (tbD ((mnr M i k).map List.tail)),_,_]⟩:St));generalize (tbD ((mnr M i k).map List.tail))=RD at *;generalize (mnr M i k).length=ml at *;generalize tbD M=XD at *;simp -implicitDefEqProofs [Ze_L0,ao]
 | q+1,k,cp,hk=>by
  have hlt:k<n:=by omega
  have hltM:k<M.length:=by omega
  have hXD:(tbD M).length=n:=by rw [az]; exact hn
  have hxk:∀h:k<(tbD M).length,(tbD M)[k]'h=.sl .leaf (M[k].map f9):=fun h=>by rw [du]
  have w4:IntKind.i64.wrap ((k:Int)+1)=((k+1:Nat):Int):=(w64 (x:=(k:Int)+1) (by omega)).trans (by omega)
  by_cases hki:k=i
  ·subst hki
   obtain ⟨cp',ih⟩:=Ph (O:=O) (m:=m) hn hb hM hi (acc:=acc) (LD:=LD) q (k+1) cp (by omega)
   rw [Xd] at ih;refine ⟨cp',bq ?_ ih⟩;generalize (tbD ((mnr M k k).map List.tail))=RD at *;generalize (mnr M k k).length=ml at *;generalize M[k].map f9=KD at *;generalize tbD M=XD at *;simp -implicitDefEqProofs [Ze_L0,ao,hlt,hXD,hxk,w4]
  ·have hpos:=hM _ (bm hltM)
   obtain ⟨cp',ih⟩:=Ph (O:=O) (m:=m) hn hb hM hi (acc:=acc) (LD:=LD) q (k+1) none (by omega)
   have hs:=Xp hltM hki;have hml:(mnr M i (k+1)).length=(mnr M i k).length+1:=by rw [hs,aw]; rfl
   have htb:tbD ((mnr M i (k+1)).map List.tail)=tbD ((mnr M i k).map List.tail)++[.sl .leaf (M[k].map f9).tail]:=by
    rw [hs,dh,tbD,dh]
    congr 1
    show [D.sl Sh.leaf ((M[k]).tail.map f9)]=_;rw [List.map_tail]
   have hmk:(mnr M i k).length≤k:=by
    unfold mnr;rw [aw,ba,d8,ba]; omega
   have h24:((mnr M i k).length+1)*24≤1099511627776:=by omega
   have hL:(tbD ((mnr M i k).map List.tail)).length=(mnr M i k).length:=by rw [az,az]
   have htt:(tbD ((mnr M i k).map List.tail)).take (mnr M i k).length=tbD ((mnr M i k).map List.tail):=b5 (by omega)
   have hKl:(M[k].map f9).length=M[k].length:=az ..;have hdt:(M[k].map f9).tail.take (M[k].length-1)=(M[k].map f9).tail:=b5 (by rw [List.length_tail,hKl]; exact b9 _)
   have h1:1≤M[k].length:=hpos;have hne:¬ (k:Int)=i:=by omega
   rw [hml,htb] at ih;refine ⟨cp',bq ?_ ih⟩;generalize (tbD ((mnr M i k).map List.tail))=RD at *;generalize (mnr M i k).length=ml at *;generalize M[k].map f9=KD at *;generalize M[k].length=kl at *;generalize tbD M=XD at *;simp -implicitDefEqProofs [Ze_L0,ao,hlt,hXD,hxk,hL,htt,hKl,hdt,h1,h24,hne,hki,w4,List.replicate]
theorem Hd (M:Tab p):(tbD M).length=M.length:=az ..
theorem Qs {O:ah} (hc:sx O) (hpr:xb O) {m:Fp p} (hm:m≠0) (hm1:2≤m.len) (hml:m.len≤64) {n:Nat} (hb:n+1<1000000) {M:Tab p} (hS:Sq m (n+1) M)
 (hd:∀N:Tab p,Sq m n N→ask O Fe [uf m,.sl .leaf (tbD N)]=some (D.sl .leaf (am .i64 (row (dtP m n N))))):∀(rest pre:Tab p) (acc:Fp p),M=pre++rest→acc.len<m.len →
 dn O 0 (.loop Ze_L1) ⟨[(1,.d (.sl .leaf (tbD M))),(2,.ptr 0 []),(5,(.d (.sl .leaf (am .i64 (row acc))))),(16,.d (.sl .leaf (tbD M))),(17,(.d (.int .i64 (((n+1:Nat):Int))))),(18,(.d (.int .i64 pre.length)))],[.box false (uf m),.hole,.hole,.hole,.hole]⟩ =
  some (.exit 0,⟨[(1,.d (.sl .leaf (tbD M))),(2,.ptr 0 []),(5,(.d (.sl .leaf (am .i64 (row (dtL m (dtP m n) acc pre.length pre rest)))))),(16,.d (.sl .leaf (tbD M))),(17,(.d (.int .i64 (((n+1:Nat):Int))))),(18,(.d (.int .i64 (((n+1:Nat):Int))))),(19,(.d (.bool false)))],[.box false (uf m),.hole,.hole,.hole,.hole]⟩)
 | [],pre,acc,h,ha=>by
  rw [i7] at h;have hl:pre.length=n+1:=by rw [←h]; exact hS.1
  rw [hl];refine bv ?_;show _=some (_,(⟨[_,_,(5,(.d (.sl .leaf (am .i64 (row acc))))),_,_,_,_],_⟩:St));generalize ((n+1:Nat):Int)=k at *;generalize row acc=ra at *;generalize tbD M=XD at *;simp -implicitDefEqProofs [Ze_L1,ao]
 | r::rest,pre,acc,h,ha=>by
  have hMl:=hS.1;have hlt:pre.length<n+1:=by rw [←hMl,h,aw,b4]; omega
  have hSm:Sq m n ((pre++rest).map List.tail):=Sq.minor (h▸hS);have hr:=hS.2 r (by rw [h]; simp)
  obtain ⟨x,r',rfl⟩:∃x r',r=x::r':=by
   cases r with
   | nil=>simp at hr
   | cons x r'=>exact ⟨x,r',rfl⟩
  have hx:=hr.2 x (by simp)
  have e1:=hd _ hSm;have hdl:=Iu hm hm1 n ((pre++rest).map List.tail);have e2:=hpr p m x (dtP m n ((pre++rest).map List.tail)) hm hml (by omega) (by omega)
  have hpl:=Pol.len_mod (x*dtP m n ((pre++rest).map List.tail)) hm;have e3:=hc p (1-2*((pre.length%2:Nat):Int)) acc (x*dtP m n ((pre++rest).map List.tail)%m) (by omega) (by omega) (by omega) (by omega)
  obtain ⟨cp,e4⟩:=Ph (O:=O) (m:=m) hMl hb (fun r hr=>by have:=(hS.2 r hr).1; omega) hlt (acc:=row acc) (LD:=.sl .leaf ((x::r').map f9)) (n+1) 0 (some 0) (bi _)
  have hall:=a14 h;rw [hMl] at hall
  have hml2:(pre++rest).length=n:=by
   have:=hSm.1
   rwa [az] at this
  rw [show ((0:Nat):Int)=0 from rfl,show (mnr M pre.length 0).length=0 by simp [mnr],show tbD ((mnr M pre.length 0).map List.tail)=[] by simp [mnr],hall,hml2] at e4
  have hXD:(tbD M).length=n+1:=by rw [Hd]; exact hMl
  have hxi:∀h:pre.length<(tbD M).length,(tbD M)[pre.length]'h=.sl .leaf ((x::r').map f9):=fun hh=>by
   rw [du]
   congr 2
   subst h;rw [List.getElem_append_right (b9 _)];simp
  have hNL:(tbD ((pre++rest).map List.tail)).length=n:=by rw [Hd]; exact hSm.1
  have hNt:(tbD ((pre++rest).map List.tail)).take n=tbD ((pre++rest).map List.tail):=b5 (by omega)
  have w4:IntKind.i64.wrap ((pre.length:Int)+1)=((pre.length+1:Nat):Int):=(w64 (x:=(pre.length:Int)+1) (by omega)).trans (by omega)
  have ht:Int.tmod (pre.length:Int) 2=((pre.length%2:Nat):Int):=by rw [cd (by omega)]; omega
  have w5:IntKind.i64.wrap (2*((pre.length%2:Nat):Int))=2*((pre.length%2:Nat):Int):=w64 (by omega)
  have w6:IntKind.i64.wrap (1-2*((pre.length%2:Nat):Int))=1-2*((pre.length%2:Nat):Int):=w64 (by omega)
  have hacc:(acc+Pol.C (zp p (1-2*((pre.length%2:Nat):Int)))*(x*dtP m n ((pre++rest).map List.tail)%m)).len<m.len:=by
   have h2:=Va (zp p (1-2*((pre.length%2:Nat):Int))) (x*dtP m n ((pre++rest).map List.tail)%m);have h3:=Pol.len_add_le (a:=acc) (b:=Pol.C (zp p (1-2*((pre.length%2:Nat):Int)))*(x*dtP m n ((pre++rest).map List.tail)%m)) (n:=m.len-1) (by omega) (by omega)
   omega
  have ih:=Qs hc hpr hm hm1 hml hb hS hd rest (pre++[x::r']) _ (by rw [h]; simp) hacc
  rw [show (pre++[x::r']).length=pre.length+1 by simp] at ih
  refine bq ?_ ih;rw [eo,show f9 x=(D.sl .leaf (am .i64 (row x))) from rfl] at e4 hxi;have hli:(pre.length:Int)<((n+1:Nat):Int):=by omega
  rw [←hXD] at e4 ih hlt hli ⊢;generalize row (acc+Pol.C (zp p (1-2*((pre.length%2:Nat):Int)))*(x*dtP m n ((pre++rest).map List.tail)%m))=R3 at *;generalize row (x*dtP m n ((pre++rest).map List.tail)%m)=R2 at *;generalize row (dtP m n ((pre++rest).map List.tail))=R1 at *;generalize tbD ((pre++rest).map List.tail)=ND at *;generalize row acc=ra at *;generalize tbD M=XD at *;generalize r'.map f9=RD at *;generalize row x=rx at *;generalize ((pre.length%2:Nat):Int)=par at *;generalize ((pre.length+1:Nat):Int)=k2 at *;generalize pre.length=pl at *;simp -implicitDefEqProofs [Ze_L1,ao,hlt,hli,hxi,hNL,hNt,e1,e2,e3,e4,ht,w4,w5,w6,List.replicate]
end
def Ui (O:ah):Prop:=∀(p:Int) [IsP p] (m:Fp p),m≠0→2≤m.len→m.len≤64→∀(n:Nat),n<1000→∀M:Tab p,Sq m n M→ask O Fe [uf m,.sl .leaf (tbD M)]=some (D.sl .leaf (am .i64 (row (dtP m n M))))
theorem a87 (hT:T Fe=some Ze) (hc:sx (den T A)) (hpr:xb (den T A)):Ui (den T A):=by
 intro p ip m hm hm1 hml n
 induction n with
 | zero=>
  intro _ M hS;obtain rfl:M=[]:=d5.1 hS.1;refine bu hT rfl ?_;show _=some (D.sl .leaf (am .i64 (row (1:Fp p))));rw [u7,show tbD ([]:Tab p)=[] from rfl];generalize row m=rm at *;simp -implicitDefEqProofs [Ze,Ze_B,ao,am,List.replicate]
 | succ n ih=>
  intro hn M hS;have e:=Qs (O:=den T A) hc hpr hm hm1 hml (n:=n) (by omega) hS (fun N hN=>ih (by omega) N hN) M [] 0 rfl (by have:(0:Fp p).len=0:=Pol.len_zero; omega)
  have hXD:(tbD M).length=n+1:=by rw [Hd]; exact hS.1
  rw [show ([]:Tab p).length=0 from rfl,show ((0:Nat):Int)=0 from rfl,show row (0:Fp p)=[] from dt,show am IntKind.i64 []=[] from rfl,show dtL m (dtP m n) 0 0 [] M=dtP m (n+1) M from rfl] at e;refine bu hT rfl ?_;generalize row (dtP m (n+1) M)=R1 at *;generalize tbD M=XD at *;have hnz:¬ XD=[]:=by rintro rfl; simp at hXD
  rw [←hXD] at e;simp -implicitDefEqProofs [Ze,Ze_B,ao,hnz,e,List.replicate]
end Pe

namespace Pe
open Go Gq
variable {T:Nat→Option Fn} {A:ah}
end Pe

namespace Pe
open Go Gq
variable {T:Nat→Option Fn} {A:ah}
section
variable {p:Int} [IsP p]
noncomputable abbrev xq (r:List (Fp p)):List D:=r.map dm
end
end Pe

namespace Pe
open Go Gq
variable {T:Nat→Option Fn} {A:ah}
section
variable {p:Int}
variable [IsP p]
end
end Pe

namespace Pe
open Go Gq
variable {T:Nat→Option Fn} {A:ah}
section
variable {p:Int} [IsP p]
end
def zr (O:ah):Prop:=∀(p:Int) [IsP p] (a b:Fp p),a.len≤64→b.len≤64→ask O F2e [(D.int .i64 p),(D.arr 64 .leaf (am .u8 (pad (row a)))),(D.arr 64 .leaf (am .u8 (pad (row b)))),(D.int .i64 (-1))]=some (D.arr 64 .leaf (am .u8 (pad (row (a-b)))))
theorem a4b {O:ah} (h:qu O):zr O:=fun p i a b h1 h2=>by
 rw [h p (-1) a b (by omega) (by omega) h1 h2,zh]
section
variable {p:Int} [IsP p]
end
end Pe

namespace Pe
open Go Gq
variable {T:Nat→Option Fn} {A:ah}
section
variable {p:Int} [IsP p]
theorem Xo {O:ah} (hf:wm O) {m:Fp p} {xs:List (Fp p)} (h2:2≤m.len) (hml:m.len≤64) (hl:xs.length<1000000) (hx:∀x∈xs,x.len≤64) {i:Nat} (hi:i<1000000) {vo:V} {BO:Blk} (hv:vo.refs=[2]):∀(r k:Nat) (cp:Option Nat),k+r=xs.length→∃cp':Option Nat,
 dn O 0 (.loop ir_spec_l09Moore_ht_L0) ⟨[(0,(.d (.int .i64 p))),(2,.d (.sl (.arr 64 .leaf) (xs.map dm))),(4,.ptr 0 []),(7,vo),(8,(.d (.int .i64 i))),(9,.sl 3 [] 0 k cp),(10,(.d (.int .i64 k)))],[.box false (D.arr 64 .leaf (am .u8 (pad (row m)))),.hole,BO,.sl false (.arr 64 .leaf) (((moR m xs i).take k).map dm),.hole,.hole,.hole]⟩ =
  some (.exit 2,⟨[(0,(.d (.int .i64 p))),(2,.d (.sl (.arr 64 .leaf) (xs.map dm))),(4,.ptr 0 []),(7,vo),(8,(.d (.int .i64 i))),(9,.sl 3 [] 0 xs.length cp'),(10,(.d (.int .i64 xs.length))),(22,(.d (.bool false)))],[.box false (D.arr 64 .leaf (am .u8 (pad (row m)))),.hole,BO,.sl false (.arr 64 .leaf) ((moR m xs i).map dm),.hole,.hole,.hole]⟩)
 | 0,k,cp,hk=>by
  obtain rfl:k=xs.length:=by omega
  rw [b5 (by rw [kb]; exact b9 _)]
  have hXD:(xs.map dm).length=xs.length:=az ..;refine ⟨cp,bv ?_⟩;generalize xs.map dm=XD at *;generalize (moR m xs i).map dm=RD at *;generalize pad (row m)=Pm at *;simp -implicitDefEqProofs [ir_spec_l09Moore_ht_L0,ao,hXD,hv]
 | r+1,k,cp,hk=>by
  have hlt:k<xs.length:=by omega
  have e1:=hf p m xs[k] i h2 hml (hx _ (bm hlt)) hi;have hXD:(xs.map dm).length=xs.length:=az ..;have hxi:∀h:k<(xs.map dm).length,(xs.map dm)[k]'h=(D.arr 64 .leaf (am .u8 (pad (row xs[k])))):=fun h=>by rw [du]
  have w4:IntKind.i64.wrap ((k:Int)+1)=((k+1:Nat):Int):=(w64 (x:=(k:Int)+1) (by omega)).trans (by omega)
  have h24:(k+1)*64≤1099511627776:=by omega
  have htk:((moR m xs i).take (k+1)).map dm=((moR m xs i).take k).map dm++[(D.arr 64 .leaf (am .u8 (pad (row (gi m (i%(m.len-1)) xs[k])))))]:=by rw [L9 hlt,dh]; rfl
  have hL:(((moR m xs i).take k).map dm).length=k:=by rw [az,ba,kb]; omega
  have htt:(((moR m xs i).take k).map dm).take k=((moR m xs i).take k).map dm:=b5 (by omega)
  obtain ⟨cp',ih⟩:=Xo hf h2 hml hl hx hi hv r (k+1) none (by omega)
  refine ⟨cp',bq ?_ ih⟩;rw [htk];generalize pad (row (gi m (i%(m.len-1)) xs[k]))=Qi at *;generalize pad (row xs[k])=Ri at *;generalize ((moR m xs i).take k).map dm=TD at *;generalize xs.map dm=XD at *;generalize pad (row m)=Pm at *;simp -implicitDefEqProofs [ir_spec_l09Moore_ht_L0,ao,hlt,hXD,hxi,e1,h24,hL,htt,w4,hv,List.replicate]
theorem Ug {O:ah} (hf:wm O) {m:Fp p} {xs:List (Fp p)} (h2:2≤m.len) (hml:m.len≤64) (hl:xs.length<1000000) (hx:∀x∈xs,x.len≤64):∀(r i:Nat) (co:Option Nat),i+1+r=xs.length→∃co':Option Nat,
 dn O 0 (.loop ir_spec_l09Moore_ht_L1) ⟨[(0,(.d (.int .i64 p))),(2,.d (.sl (.arr 64 .leaf) (xs.map dm))),(4,.ptr 0 []),(7,.sl 2 [0] 0 (i+1) co),(8,(.d (.int .i64 (((i+1:Nat):Int)))))],[.box false (D.arr 64 .leaf (am .u8 (pad (row m)))),.hole,.tb false (.arr 64 .leaf) (List.range (i+1)) ((moK m xs (i+1)).map xq),.hole,.hole,.hole,.hole]⟩ =
  some (.exit 0,⟨[(0,(.d (.int .i64 p))),(2,.d (.sl (.arr 64 .leaf) (xs.map dm))),(4,.ptr 0 []),(7,.sl 2 [0] 0 xs.length co'),(8,(.d (.int .i64 xs.length))),(15,(.d (.bool false)))],[.box false (D.arr 64 .leaf (am .u8 (pad (row m)))),.hole,.tb false (.arr 64 .leaf) (List.range xs.length) ((moK m xs xs.length).map xq),.hole,.hole,.hole,.hole]⟩)
 | 0,i,co,hi=>by
  rw [show i+1=xs.length by omega]
  have hXD:(xs.map dm).length=xs.length:=az ..;refine ⟨co,bv ?_⟩;generalize (moK m xs xs.length).map xq=RD at *;generalize List.range xs.length=IX at *;generalize xs.map dm=XD at *;generalize pad (row m)=Pm at *;simp -implicitDefEqProofs [ir_spec_l09Moore_ht_L1,ao,hXD]
 | r+1,i,co,hi=>by
  have hlt:i+1<xs.length:=by omega
  obtain ⟨cp,e1⟩:=Xo hf h2 hml hl hx (i:=i+1) (by omega) (vo:=.sl 2 [0] 0 (i+1) co) (BO:=.tb false (.arr 64 .leaf) (List.range (i+1)) ((moK m xs (i+1)).map xq)) rfl xs.length 0 (some 0) (bi _)
  rw [show ((0:Nat):Int)=0 from rfl,dy,kv] at e1;have hXD:(xs.map dm).length=xs.length:=az ..;have w4:IntKind.i64.wrap (((i+1:Nat):Int)+1)=((i+1+1:Nat):Int):=(w64 (x:=((i+1:Nat):Int)+1) (by omega)).trans (by omega)
  have h24:(i+1+1)*24≤1099511627776:=by omega
  have hL:((moK m xs (i+1)).map xq).length=i+1:=by rw [az,qz]
  have hRL:((moR m xs (i+1)).map dm).length=xs.length:=by rw [az,kb]
  have hRg:List.range (i+1+1)=List.range (i+1)++[i+1]:=List.range_succ;have hRl:(List.range (i+1)).length=i+1:=fq;have htk:(moK m xs (i+1+1)).map xq=(moK m xs (i+1)).map xq++[(moR m xs (i+1)).map dm]:=by rw [Li,dh]; rfl
  obtain ⟨co',ih⟩:=Ug hf h2 hml hl hx r (i+1) none (by omega)
  refine ⟨co',bq ?_ ih⟩;rw [htk,hRg];have hlt':((i+1:Nat):Int)<xs.length:=by omega
  have hpos:0<xs.length:=by omega
  generalize (moK m xs (i+1)).map xq=TD at *;generalize (moR m xs (i+1)).map dm=QD at *;generalize xs.map dm=XD at *;generalize xs.length=xl at *;generalize List.range (i+1)=IX at *;generalize pad (row m)=Pm at *;generalize ((i+1+1:Nat):Int)=z2 at *;generalize ((i+1:Nat):Int)=z1 at *;generalize i+1=i1 at *;simp -implicitDefEqProofs [ir_spec_l09Moore_ht_L1,ao,hlt,hlt',hpos,hXD,e1,h24,hL,hRL,hRl,w4,List.replicate]
theorem Yy {O:ah} (hf:wm O) {m:Fp p} {xs:List (Fp p)} (h2:2≤m.len) (hml:m.len≤64) (hl:xs.length<1000000) (hx:∀x∈xs,x.len≤64) (hpos:0<xs.length):∃co':Option Nat,
 dn O 0 (.loop ir_spec_l09Moore_ht_L1) ⟨[(0,(.d (.int .i64 p))),(2,.d (.sl (.arr 64 .leaf) (xs.map dm))),(4,.ptr 0 []),(7,.sl 2 [] 0 0 (some 0)),(8,(.d (.int .i64 0)))],[.box false (D.arr 64 .leaf (am .u8 (pad (row m)))),.hole,.sl false .leaf [],.hole,.hole,.hole,.hole]⟩ =
  some (.exit 0,⟨[(0,(.d (.int .i64 p))),(2,.d (.sl (.arr 64 .leaf) (xs.map dm))),(4,.ptr 0 []),(7,.sl 2 [0] 0 xs.length co'),(8,(.d (.int .i64 xs.length))),(15,(.d (.bool false)))],[.box false (D.arr 64 .leaf (am .u8 (pad (row m)))),.hole,.tb false (.arr 64 .leaf) (List.range xs.length) ((moK m xs xs.length).map xq),.hole,.hole,.hole,.hole]⟩):=by
 obtain ⟨cp,e1⟩:=Xo hf h2 hml hl hx (i:=0) (by omega) (vo:=.sl 2 [] 0 0 (some 0)) (BO:=.sl false .leaf []) rfl xs.length 0 (some 0) (bi _)
 rw [show ((0:Nat):Int)=0 from rfl,dy,kv] at e1;have hXD:(xs.map dm).length=xs.length:=az ..;have hRL:((moR m xs 0).map dm).length=xs.length:=by rw [az,kb]
 obtain ⟨co',ih⟩:=Ug hf h2 hml hl hx (xs.length-1) 0 none (by omega)
 rw [show (moK m xs (0+1)).map xq=[(moR m xs 0).map dm] from rfl] at ih;refine ⟨co',bq ?_ ih⟩;have hlt':(0:Int)<xs.length:=by omega
 generalize (moR m xs 0).map dm=QD at *;generalize xs.map dm=XD at *;generalize xs.length=xl at *;generalize pad (row m)=Pm at *;simp -implicitDefEqProofs [ir_spec_l09Moore_ht_L1,ao,hpos,hlt',hXD,e1,hRL,w64,List.replicate]
end
def Dw (O:ah):Prop:=∀(p:Int) [IsP p] (m:Fp p) (xs:List (Fp p)),2≤m.len→m.len≤64→xs.length<1000000→(∀x∈xs,x.len≤64)→0<xs.length→∃co:Option Nat,
 O F33 [(.d (.int .i64 p)),.d (D.arr 64 .leaf (am .u8 (pad (row m)))),.d (.sl (.arr 64 .leaf) (xs.map dm))] []=some (.sl 0 [0] 0 xs.length co,[],[.tb false (.arr 64 .leaf) (List.range xs.length) ((moK m xs xs.length).map xq)])
def Af (O:ah):Prop:=∀(p:Int) [IsP p] (m:Fp p),O F33 [(.d (.int .i64 p)),.d (D.arr 64 .leaf (am .u8 (pad (row m)))),.d (.sl (.arr 64 .leaf) [])] []=some (.sl 0 [] 0 0 (some 0),[],[.sl false .leaf []])
theorem Wg (hT:T F33=some ir_spec_l09Moore_ht) (hf:wm (den T A)):Dw (den T A):=by
 intro p ip m xs h2 hml hl hx hpos;obtain ⟨co,e⟩:=Yy (O:=den T A) hf h2 hml hl hx hpos;refine ⟨co,t7 hT rfl ?_⟩;generalize (moK m xs xs.length).map xq=QD at *;generalize List.range xs.length=IX at *;generalize xs.map dm=XD at *;generalize pad (row m)=Pm at *;simp -implicitDefEqProofs [ir_spec_l09Moore_ht,ir_spec_l09Moore_ht_B,e]
theorem Tx (hT:T F33=some ir_spec_l09Moore_ht):Af (den T A):=by
 intro p ip m
 have e:dn (den T A) 0 (.loop ir_spec_l09Moore_ht_L1) ⟨[(0,(.d (.int .i64 p))),(2,.d (.sl (.arr 64 .leaf) [])),(4,.ptr 0 []),(7,.sl 2 [] 0 0 (some 0)),(8,(.d (.int .i64 0)))],[.box false (D.arr 64 .leaf (am .u8 (pad (row m)))),.hole,.sl false .leaf [],.hole,.hole,.hole,.hole]⟩ =
  some (.exit 0,⟨[(0,(.d (.int .i64 p))),(2,.d (.sl (.arr 64 .leaf) [])),(4,.ptr 0 []),(7,.sl 2 [] 0 0 (some 0)),(8,(.d (.int .i64 0))),(15,(.d (.bool false)))],[.box false (D.arr 64 .leaf (am .u8 (pad (row m)))),.hole,.sl false .leaf [],.hole,.hole,.hole,.hole]⟩):=by
  refine bv ?_;generalize pad (row m)=Pm at *;simp -implicitDefEqProofs [ir_spec_l09Moore_ht_L1,ao]
 refine t7 hT rfl ?_;generalize pad (row m)=Pm at *;simp -implicitDefEqProofs [ir_spec_l09Moore_ht,ir_spec_l09Moore_ht_B,e]
end Pe

namespace Pe
open Go Gq
variable {T:Nat→Option Fn} {A:ah}
section
variable {p:Int} [IsP p]
noncomputable def elG (m f:Fp p) (a:List (Fp p)) (c k:Nat) (Q:List (Fp p)):List (Fp p):=Q.mapIdx fun j x=>if c≤j∧j<k then x-f*a.getD j 0%m else x
theorem xx (m f:Fp p) (a:List (Fp p)) (c k:Nat) (Q:List (Fp p)):(elG m f a c k Q).length=Q.length:=List.length_mapIdx
theorem wv (m f:Fp p) (a:List (Fp p)) (c k:Nat) (Q:List (Fp p)) (j:Nat):(elG m f a c k Q)[j]? = (Q[j]?).map fun x=>if c≤j∧j<k then x-f*a.getD j 0%m else x:=List.getElem?_mapIdx
theorem T7 (m f:Fp p) (a:List (Fp p)) (c:Nat) (Q:List (Fp p)):elG m f a c c Q=Q:=by
 apply ci;intro j;rw [wv];cases Q[j]? with
 | none=>rfl
 | some x=>rw [bb,if_neg (by omega)]
theorem a3i {m f:Fp p} {a:List (Fp p)} {c k:Nat} {Q:List (Fp p)} (hk:k<Q.length):(elG m f a c k Q)[k]? = some Q[k]:=by
 rw [wv,ac hk,bb,if_neg (by omega)]
theorem Ue {m f:Fp p} {a:List (Fp p)} {c k:Nat} {Q:List (Fp p)} (hc:c≤k) (hk:k<Q.length) (ha:k<a.length):(elG m f a c k Q).set k (Q[k]-f*a[k]%m)=elG m f a c (k+1) Q:=by
 apply ci;intro j;rw [wv]
 by_cases hj:k=j
 ·subst hj
  rw [au (by rw [xx]; exact hk),ac hk,bb,if_pos (by omega),bc,ac ha]; rfl
 ·rw [av hj,wv]
  cases Q[j]? with
  | none=>rfl
  | some x=>
   rw [bb,bb]
   by_cases h1:c≤j∧j<k
   ·rw [if_pos h1,if_pos (by omega)]
   ·rw [if_neg h1,if_neg (by omega)]
theorem a07 {m f:Fp p} (hm:m≠0) {a:List (Fp p)} {c k:Nat} {Q:List (Fp p)} (hQ:∀x∈Q,x.len<m.len):∀x∈elG m f a c k Q,x.len<m.len:=by
 intro x hx;obtain ⟨j,hj⟩:=List.mem_iff_getElem?.1 hx;rw [wv] at hj;obtain ⟨y,hy,rfl⟩:=a9.1 hj;have h1:=hQ y (df hy)
 split
 ·have h2:=Pol.len_mod (f*a.getD j 0) hm
  have h3:=Pol.len_sub_le (a:=y) (b:=f*a.getD j 0%m) (n:=m.len-1) (by omega) (by omega)
  omega
 ·exact h1
theorem a1s {O:ah} (hs:zr O) (hmm:mh O) {m f:Fp p} (hm:m≠0) (hml:m.len≤64) (hf:f.len<m.len) {a:List (Fp p)} (ha:∀x∈a,x.len<m.len) {n c i r r':Nat} (hn:n<1000000) (hal:a.length=n) {IX:List Nat} {RR:List (List D)} (hr:RR[r]? = some (a.map dm)) (hr':r'<RR.length) (hne:r'≠r) {cp:Option Nat} {z o iv:D} {Q:List (Fp p)} (hQ:Q.length=n) (hQl:∀x∈Q,x.len<m.len):∀(q k:Nat),c≤k→k+q=n →
 dn O 1 (.loop ir_spec_l09Determinantt_L1) ⟨[(0,(.d (.int .i64 p))),(2,.sl 0 [0] 0 n cp),(4,.ptr 1 []),(6,.ptr 2 []),(7,.ptr 3 []),(8,(.d (.int .i64 c))),(10,.sl 0 [r+1] 0 n none),(11,.ptr 4 []),(12,(.d (.int .i64 i))),(13,.ptr 5 []),(14,.sl 0 [r'+1] 0 n none),(15,(.d (.int .i64 k)))],[.tb false (.arr 64 .leaf) IX (RR.set r' ((elG m f a c k Q).map dm)),.box false (D.arr 64 .leaf (am .u8 (pad (row m)))),.box false z,.box false o,.box false iv,.box false (D.arr 64 .leaf (am .u8 (pad (row f))))]⟩ =
  some (.exit 6,⟨[(0,(.d (.int .i64 p))),(2,.sl 0 [0] 0 n cp),(4,.ptr 1 []),(6,.ptr 2 []),(7,.ptr 3 []),(8,(.d (.int .i64 c))),(10,.sl 0 [r+1] 0 n none),(11,.ptr 4 []),(12,(.d (.int .i64 i))),(13,.ptr 5 []),(14,.sl 0 [r'+1] 0 n none),(15,(.d (.int .i64 n))),(110,(.d (.bool false)))],[.tb false (.arr 64 .leaf) IX (RR.set r' ((elG m f a c n Q).map dm)),.box false (D.arr 64 .leaf (am .u8 (pad (row m)))),.box false z,.box false o,.box false iv,.box false (D.arr 64 .leaf (am .u8 (pad (row f))))]⟩)
 | 0,k,hck,hk=>by
  obtain rfl:k=n:=by omega
  refine bv ?_;show _=some (_,(⟨_,[.tb false (.arr 64 .leaf) IX (RR.set r' ((elG m f a c k Q).map dm)),_,_,_,_,_]⟩:St));generalize RR.set r' ((elG m f a c k Q).map dm)=LQ at *;generalize pad (row m)=Pm at *;generalize pad (row f)=Pf at *;simp -implicitDefEqProofs [ir_spec_l09Determinantt_L1,ao]
 | q+1,k,hck,hk=>by
  have hlt:k<n:=by omega
  have hka:k<a.length:=by omega
  have hkQ:k<Q.length:=by omega
  have hak:=ha _ (bm hka);have hQk:=hQl _ (bm hkQ);have e1:=hmm p f a[k] m hm hml (by omega) (by omega)
  have hmod:=Pol.len_mod (f*a[k]) hm;have e2:=hs p Q[k] (f*a[k]%m) (by omega) (by omega)
  have hEL:((elG m f a c k Q).map dm).length=n:=by rw [az,xx]; exact hQ
  have hEg:∀h:k<((elG m f a c k Q).map dm).length,((elG m f a c k Q).map dm)[k]'h=(D.arr 64 .leaf (am .u8 (pad (row Q[k])))):=fun h=>al ((ac h).symm.trans (by rw [ct,a3i hkQ]; rfl))
  have hAg:∀h:k<(a.map dm).length,(a.map dm)[k]'h=(D.arr 64 .leaf (am .u8 (pad (row a[k])))):=fun h=>by rw [du]
  have hAL:(a.map dm).length=n:=by rw [az]; exact hal
  have hset:((elG m f a c k Q).map dm).set k (D.arr 64 .leaf (am .u8 (pad (row (Q[k]-f*a[k]%m)))))=(elG m f a c (k+1) Q).map dm:=by
   rw [←Ue hck hkQ hka,ua]
  have w4:IntKind.i64.wrap ((k:Int)+1)=((k+1:Nat):Int):=(w64 (x:=(k:Int)+1) (by omega)).trans (by omega)
  have ih:=a1s hs hmm hm hml hf ha hn hal hr hr' hne (c:=c) (cp:=cp) (IX:=IX) (i:=i) (z:=z) (o:=o) (iv:=iv) hQ hQl q (k+1) (by omega) (by omega)
  refine bq ?_ ih;rw [←hset];have hli:(k:Int)<n:=by omega
  generalize pad (row (Q[k]-f*a[k]%m))=P3 at *;generalize pad (row (f*a[k]%m))=P2 at *;generalize pad (row Q[k])=P1 at *;generalize pad (row a[k])=P0 at *;generalize (elG m f a c k Q).map dm=EQ at *;generalize a.map dm=AD at *;generalize pad (row m)=Pm at *;generalize pad (row f)=Pf at *;simp -implicitDefEqProofs [ir_spec_l09Determinantt_L1,ao,hlt,hli,hr,hr',hne,hEL,hEg,hAg,hAL,e1,e2,w4]
structure TbI (IX:List Nat) (RR:List (List D)) (N:Tab p):Prop where
 len:IX.length=N.length
 inj:∀(j k r:Nat),IX[j]? = some r→IX[k]? = some r→j=k
 get:∀(k:Nat) Q,N[k]? = some Q→∃r,IX[k]? = some r∧RR[r]? = some (Q.map dm)
theorem TbI.set {IX:List Nat} {RR:List (List D)} {N:Tab p} (h:TbI IX RR N) {i r:Nat} (hi:i<N.length) (hr:IX[i]? = some r) (Q:List (Fp p)):TbI IX (RR.set r (Q.map dm)) (N.set i Q):=by
 refine ⟨by rw [br]; exact h.len,h.inj,fun k P hk=>?_⟩
 by_cases hik:i=k
 ·subst hik
  rw [au hi] at hk;obtain rfl:=al hk;obtain ⟨r2,h1,h2⟩:=h.get i _ (ac hi);obtain rfl:r=r2:=al (hr.symm.trans h1);exact ⟨r,hr,au (ae.1 h2).1⟩
 ·rw [av hik] at hk
  obtain ⟨r2,h1,h2⟩:=h.get k P hk;have hne:r≠r2:=fun e=>hik (h.inj i k r hr (e▸h1))
  exact ⟨r2,h1,by rw [av hne]; exact h2⟩
noncomputable def elM (m iv:Fp p) (a:List (Fp p)) (c n i:Nat) (N:Tab p):Tab p:=N.mapIdx fun j Q=>if c<j∧j<i then elG m (Q.getD c 0*iv%m) a c n Q else Q
theorem t9 (m iv:Fp p) (a:List (Fp p)) (c n i:Nat) (N:Tab p):(elM m iv a c n i N).length=N.length:=List.length_mapIdx
theorem tl (m iv:Fp p) (a:List (Fp p)) (c n i:Nat) (N:Tab p) (j:Nat):(elM m iv a c n i N)[j]? = (N[j]?).map fun Q=>if c<j∧j<i then elG m (Q.getD c 0*iv%m) a c n Q else Q:=List.getElem?_mapIdx
theorem Gp (m iv:Fp p) (a:List (Fp p)) (c n:Nat) (N:Tab p):elM m iv a c n (c+1) N=N:=by
 apply ci;intro j;rw [tl];cases N[j]? with
 | none=>rfl
 | some x=>rw [bb,if_neg (by omega)]
theorem a34 {m iv:Fp p} {a:List (Fp p)} {c n i:Nat} {N:Tab p} (hi:i<N.length):(elM m iv a c n i N)[i]? = some N[i]:=by
 rw [tl,ac hi,bb,if_neg (by omega)]
theorem a6m {m iv:Fp p} {a:List (Fp p)} {c n i:Nat} {N:Tab p} (hc:c<N.length):(elM m iv a c n i N)[c]? = some N[c]:=by
 rw [tl,ac hc,bb,if_neg (by omega)]
theorem Wh {m iv:Fp p} {a:List (Fp p)} {c n i:Nat} {N:Tab p} (hc:c<i) (hi:i<N.length):(elM m iv a c n i N).set i (elG m (N[i].getD c 0*iv%m) a c n N[i])=elM m iv a c n (i+1) N:=by
 apply ci;intro j;rw [tl]
 by_cases hj:i=j
 ·subst hj
  rw [au (by rw [t9]; exact hi),ac hi,bb,if_pos (by omega)]
 ·rw [av hj,tl]
  cases N[j]? with
  | none=>rfl
  | some x=>
   rw [bb,bb]
   by_cases h1:c<j∧j<i
   ·rw [if_pos h1,if_pos (by omega)]
   ·rw [if_neg h1,if_neg (by omega)]
theorem Sq.elM {m iv:Fp p} (hm:m≠0) {a:List (Fp p)} {c n i:Nat} {N:Tab p} (h:Sq m n N):Sq m n (elM m iv a c n i N):=by
 refine ⟨by rw [t9]; exact h.1,fun Q hQ=>?_⟩
 obtain ⟨j,hj⟩:=List.mem_iff_getElem?.1 hQ;rw [tl] at hj;obtain ⟨P,hP,rfl⟩:=a9.1 hj;obtain ⟨h1,h2⟩:=h.2 P (df hP)
 split
 ·exact ⟨by rw [xx]; exact h1,a07 hm h2⟩
 ·exact ⟨h1,h2⟩
theorem V0 {O:ah} (hs:zr O) (hmm:mh O) {m iv:Fp p} (hm:m≠0) (hml:m.len≤64) (hiv:iv.len<m.len) {n c r:Nat} (hn:n<1000000) {N:Tab p} (hN:Sq m n N) {a:List (Fp p)} (hc:c<n) (hca:N[c]? = some a) {IX:List Nat} (hr:IX[c]? = some r) {cp:Option Nat} {z o:D}:∀(q i:Nat) (RR:List (List D)),c<i→i+q=n→TbI IX RR (elM m iv a c n i N)→∃RR':List (List D),TbI IX RR' (elM m iv a c n n N) ∧
 dn O 1 (.loop ir_spec_l09Determinantt_L2) ⟨[(0,(.d (.int .i64 p))),(2,.sl 0 [0] 0 n cp),(4,.ptr 1 []),(6,.ptr 2 []),(7,.ptr 3 []),(8,(.d (.int .i64 c))),(10,.sl 0 [r+1] 0 n none),(11,.ptr 4 []),(12,(.d (.int .i64 i)))],[.tb false (.arr 64 .leaf) IX RR,.box false (D.arr 64 .leaf (am .u8 (pad (row m)))),.box false z,.box false o,.box false (D.arr 64 .leaf (am .u8 (pad (row iv)))),.hole]⟩ =
  some (.exit 4,⟨[(0,(.d (.int .i64 p))),(2,.sl 0 [0] 0 n cp),(4,.ptr 1 []),(6,.ptr 2 []),(7,.ptr 3 []),(8,(.d (.int .i64 c))),(10,.sl 0 [r+1] 0 n none),(11,.ptr 4 []),(12,(.d (.int .i64 n))),(88,(.d (.bool false)))],[.tb false (.arr 64 .leaf) IX RR',.box false (D.arr 64 .leaf (am .u8 (pad (row m)))),.box false z,.box false o,.box false (D.arr 64 .leaf (am .u8 (pad (row iv)))),.hole]⟩)
 | 0,i,RR,hci,hi,hT=>by
  obtain rfl:i=n:=by omega
  refine ⟨RR,hT,bv ?_⟩;generalize pad (row m)=Pm at *;generalize pad (row iv)=Pv at *;simp -implicitDefEqProofs [ir_spec_l09Determinantt_L2,ao]
 | q+1,i,RR,hci,hi,hT=>by
  have hNl:=hN.1;have hiN:i<N.length:=by omega
  have hlt:i<n:=by omega
  obtain ⟨hQ1,hQ2⟩:=hN.2 N[i] (bm hiN);obtain ⟨ha1,ha2⟩:=hN.2 a (df hca);obtain ⟨r',hr',hR'⟩:=hT.get i _ (a34 hiN);have hcN:c<N.length:=by omega
  have hNc:N[c]=a:=al ((ac hcN).symm.trans hca);obtain ⟨r2,hr2,hR⟩:=hT.get c a (by rw [a6m hcN,hNc])
  obtain rfl:r=r2:=al (hr.symm.trans hr2)
  have hne:r'≠r:=fun e=>by
   have:=hT.inj i c r' hr' (by rw [e]; exact hr)
   omega
  have hrl':r'<RR.length:=(ae.1 hR').1;have hcQ:c<N[i].length:=by omega
  have hQc:=hQ2 _ (bm hcQ);have hgd:N[i].getD c 0=N[i][c]:=by rw [bc,ac hcQ]; rfl
  have e1:=hmm p N[i][c] iv m hm hml (by omega) (by omega)
  have hfl:=Pol.len_mod (N[i][c]*iv) hm;have e2:=a1s (O:=O) hs hmm hm hml hfl ha2 (c:=c) (i:=i) (IX:=IX) (cp:=cp) (z:=z) (o:=o) (iv:=(D.arr 64 .leaf (am .u8 (pad (row iv))))) hn ha1 hR hrl' hne hQ1 hQ2 (n-c) c (b9 c) (by omega)
  have hself:RR.set r' (N[i].map dm)=RR:=by
   obtain ⟨h1,h2⟩:=ae.1 hR';rw [←h2,List.set_getElem_self]
  rw [T7,hself] at e2;have hT2:=hT.set (by rw [t9]; exact hiN) hr' (elG m (N[i][c]*iv%m) a c n N[i])
  rw [←hgd,Wh hci hiN,hgd] at hT2;obtain ⟨RR',hT',ih⟩:=V0 hs hmm hm hml hiv hn hN hc hca hr (cp:=cp) (z:=z) (o:=o) q (i+1) _ (by omega) (by omega) hT2
  refine ⟨RR',hT',bq ?_ ih⟩;have hQL:(N[i].map dm).length=n:=by rw [az]; exact hQ1
  have hxc:∀h:c<(N[i].map dm).length,(N[i].map dm)[c]'h=(D.arr 64 .leaf (am .u8 (pad (row N[i][c])))):=fun h=>by rw [du]
  have hIl:IX.length=n:=by rw [hT.len,t9]; exact hNl
  have hri:∀h:i<IX.length,IX[i]'h=r':=fun h=>al ((ac h).symm.trans hr')
  have w4:IntKind.i64.wrap ((i:Int)+1)=((i+1:Nat):Int):=(w64 (x:=(i:Int)+1) (by omega)).trans (by omega)
  have hli:(i:Int)<n:=by omega
  generalize RR.set r' ((elG m (N[i][c]*iv%m) a c n N[i]).map dm)=R2 at *;generalize pad (row (N[i][c]*iv%m))=Pf at *;generalize pad (row N[i][c])=Pc at *;generalize N[i].map dm=QD at *;generalize pad (row m)=Pm at *;generalize pad (row iv)=Pv at *;simp -implicitDefEqProofs [ir_spec_l09Determinantt_L2,ao,hlt,hli,hc,hIl,hri,hR',hQL,hxc,e1,e2,w4]
end
end Pe

namespace Pe
open Go Gq
section
variable {p:Int} [IsP p]
noncomputable def tn (m:Fp p) (c:Nat) (N:Tab p):List (Rw (Quo m)):=(N.drop c).map fun Q=>rwQ m (Q.drop c)
end
section
variable {p:Int}
theorem vz (m:Fp p) (Q:List (Fp p)) (c:Nat):rwQ m (Q.drop c) 0=Quo.mk m (Q.getD c 0):=by
 show Quo.mk m ((Q.drop c).getD 0 0)=_;rw [bc,cr,cz,←bc]
end
section
variable {p:Int} [IsP p]
end
section
variable {p:Int}
theorem Tb (m:Fp p) (Q:List (Fp p)) (c:Nat):tlR (rwQ m (Q.drop c))=rwQ m (Q.drop (c+1)):=by
 rw [Y2,List.tail_drop]
end
section
variable {p:Int} [IsP p]
theorem U6 {m:Fp p} {c r:Nat} {N:Tab p} (h:∀Q∈N.drop c,Q.getD c 0=0):det (r+1) (tn m c N)=0:=by
 refine Wf _ fun q hq=>?_
 obtain ⟨Q,hQ,rfl⟩:=cg.1 hq;rw [vz,h Q hQ]; rfl
def swp (N:Tab p) (c b:Nat) (hc:c<N.length) (hb:b<N.length):Tab p:=(N.set b N[c]).set c N[b]
theorem Dx (N:Tab p) (c b:Nat) (hc:c<N.length) (hb:b<N.length):(swp N c b hc hb).length=N.length:=by unfold swp; rw [br,br]
theorem Xr {m:Fp p} {c b:Nat} {N:Tab p} (hcb:c<b) (hb:b<N.length) {r:Nat} (hr:c+r=N.length):det r (tn m c (swp N c b (by omega) hb))=-det r (tn m c N):=by
 have hc:c<N.length:=by omega
 have e1:N.drop c=N[c]::((N.drop (c+1)).take (b-c-1)++N[b]::N.drop (b+1)):=by
  rw [c9 hc]
  congr 1
  have:=ej (b-c-1) (N.drop (c+1));rw [em,show c+1+(b-c-1)=b by omega,c9 hb] at this
  exact this.symm
 have e2:(swp N c b hc hb).drop c=N[b]::((N.drop (c+1)).take (b-c-1)++N[c]::N.drop (b+1)):=by
  apply ci;intro j;rw [cr];unfold swp
  by_cases hj:j=0
  ·subst hj
   rw [cz,au (by rw [br]; exact hc)]; rfl
  ·rw [av (by omega)]
   obtain ⟨j,rfl⟩:∃i,j=i+1:=⟨j-1,by omega⟩
   rw [ft];have hl:((N.drop (c+1)).take (b-c-1)).length=b-c-1:=by rw [ba,d8]; omega
   by_cases h1:j<b-c-1
   ·rw [av (by omega),b8 (by omega),da,if_pos h1,cr]
    congr 1; omega
   ·rw [b6 (by omega),hl]
    by_cases h2:j=b-c-1
    ·subst h2
     rw [show c+(b-c-1+1)=b by omega,au hb,kw]; rfl
    ·rw [av (by omega)]
     obtain ⟨i,hi⟩:∃i,j-(b-c-1)=i+1:=⟨j-(b-c-1)-1,by omega⟩
     rw [hi,ft,cr]
     congr 1; omega
 unfold tn;rw [e1,e2,eo,eo,dh,dh,eo,eo];refine Ub _ _ _ _ ?_;simp only [az,ba,d8];omega
theorem a30 {m f:Fp p} {a Q:List (Fp p)} {c n:Nat} (ha:a.length=n) (hQ:Q.length=n):rwQ m ((elG m f a c n Q).drop c)=adR (rwQ m (Q.drop c)) (-Quo.mk m f) (rwQ m (a.drop c)):=by
 funext k
 show Quo.mk m (((elG m f a c n Q).drop c).getD k 0)=Quo.mk m ((Q.drop c).getD k 0) + -Quo.mk m f*Quo.mk m ((a.drop c).getD k 0);simp only [bc,cr,wv]
 by_cases h:c+k<n
 ·rw [ac (show c+k<Q.length by omega),ac (show c+k<a.length by omega),bb,if_pos (by omega)]
  show Quo.mk m Q[c+k]-Quo.mk m (f*a[c+k]%m)=Quo.mk m Q[c+k] + -Quo.mk m f*Quo.mk m a[c+k];rw [Pol.mk_mod,show Quo.mk m (f*a[c+k])=Quo.mk m f*Quo.mk m a[c+k] from rfl];exact bf [Quo.mk m Q[c+k],Quo.mk m f,Quo.mk m a[c+k]] rfl
 ·rw [bo (show Q.length≤c+k by omega),bo (show a.length≤c+k by omega)]
  show (Quo.mk m 0:Quo m)=Quo.mk m 0 + -Quo.mk m f*Quo.mk m 0;rw [Quo.mk_zero];exact bf [Quo.mk m f] rfl
theorem J9 {m:Fp p} (hm:Fld m) {c n r:Nat} (hr:c+(r+1)=n) {N:Tab p} (hN:Sq m n N) {a:List (Fp p)} (hca:N[c]? = some a) (h0:a.getD c 0≠0) :
 det (r+1) (tn m c N)=Quo.mk m (a.getD c 0)*det r (tn m (c+1) (elM m (jw m (a.getD c 0)) a c n n N)):=by
 have hcN:c<N.length:=(ae.1 hca).1;have hNl:=hN.1;obtain ⟨ha1,ha2⟩:=hN.2 a (df hca)
 have hal:(a.getD c 0).len<m.len:=by
  rw [bc,ac (show c<a.length by omega)]
  exact ha2 _ (bm _)
 have hiv:=Bq hm h0 hal
 have e1:N.drop c=a::N.drop (c+1):=by
  rw [c9 hcN]
  congr 1
  exact al ((ac hcN).symm.trans hca)
 let F:Rw (Quo m)→Quo m:=fun y=>-(y 0*Quo.mk m (jw m (a.getD c 0)))
 have e2:((elM m (jw m (a.getD c 0)) a c n n N).drop (c+1)).map (fun Q=>rwQ m (Q.drop c))=((N.drop (c+1)).map fun Q=>rwQ m (Q.drop c)).map fun y=>adR y (F y) (rwQ m (a.drop c)):=by
  apply ci;intro j;rw [ct,cr,tl,ct,ct,cr];cases hj:N[c+1+j]? with
  | none=>rfl
  | some Q=>
   have hjl:=(ae.1 hj).1;obtain ⟨hQ1,hQ2⟩:=hN.2 Q (df hj);simp only [bb];rw [if_pos (by omega),a30 ha1 hQ1]
   congr 2
   show -Quo.mk m (Q.getD c 0*jw m (a.getD c 0)%m)=-(rwQ m (Q.drop c) 0*Quo.mk m (jw m (a.getD c 0)));rw [vz,Pol.mk_mod]; rfl
 have e3:(tn m (c+1) (elM m (jw m (a.getD c 0)) a c n n N))=(((N.drop (c+1)).map fun Q=>rwQ m (Q.drop c)).map fun y=>adR y (F y) (rwQ m (a.drop c))).map tlR:=by
  rw [←e2,kz];unfold tn;exact List.map_congr_left fun Q _=>(Tb m Q c).symm
 have e4:=Mg (n:=r+1) (rwQ m (a.drop c)) F ((N.drop (c+1)).map fun Q=>rwQ m (Q.drop c)) [] (by simp only [bh,az,d8]; omega)
 simp only [c6] at e4;have e5:tn m c N=rwQ m (a.drop c)::(N.drop (c+1)).map fun Q=>rwQ m (Q.drop c):=by unfold tn; rw [e1]; rfl
 rw [e5,←e4,e3,Sn]
 ·rw [vz]
 ·intro q hq
  obtain ⟨y,_,rfl⟩:=cg.1 hq;show y 0 + -(y 0*Quo.mk m (jw m (a.getD c 0)))*rwQ m (a.drop c) 0=0;rw [vz];have:y 0 + -(y 0*Quo.mk m (jw m (a.getD c 0)))*Quo.mk m (a.getD c 0)=y 0 + -(y 0*(Quo.mk m (jw m (a.getD c 0))*Quo.mk m (a.getD c 0))):=bf [y 0,Quo.mk m (jw m (a.getD c 0)),Quo.mk m (a.getD c 0)] rfl;rw [this,hiv];exact bf [y 0] rfl
end
end Pe

namespace Pe
open Go Gq
variable {T:Nat→Option Fn} {A:ah}
section
variable {p:Int} [IsP p]
open Classical in
noncomputable def pvF (N:Tab p) (c:Nat):Nat→Nat→Nat
 | 0,b=>b
 | q+1,b=>if ((N[b]?).getD []).getD c 0=0 then pvF N c q (b+1) else b
theorem La (N:Tab p) (c:Nat):∀(q b:Nat),b+q=N.length→b≤pvF N c q b∧pvF N c q b≤N.length∧(∀k (h:k<N.length),b≤k→k<pvF N c q b→N[k].getD c 0=0)∧∀h:pvF N c q b<N.length,(N[pvF N c q b]).getD c 0≠0
 | 0,b,hb=>by
  have e:pvF N c 0 b=b:=rfl;exact ⟨b9 _,by rw [e]; omega,fun k h h1 h2=>by rw [e] at h2; omega,fun h=>by rw [e] at h; omega⟩
 | q+1,b,hb=>by
  have hlt:b<N.length:=by omega
  have hg:(N[b]?).getD []=N[b]:=by rw [ac hlt]; rfl
  by_cases h:(N[b]).getD c 0=0
  ·have e:pvF N c (q+1) b=pvF N c q (b+1):=by rw [pvF,hg,if_pos h]
   obtain ⟨h1,h2,h3,h4⟩:=La N c q (b+1) (by omega)
   rw [e];refine ⟨by omega,h2,fun k hk hbk hkp=>?_,h4⟩
   by_cases hkb:k=b
   ·subst hkb; exact h
   ·exact h3 k hk (by omega) hkp
  ·have e:pvF N c (q+1) b=b:=by rw [pvF,hg,if_neg h]
   exact ⟨by omega,by omega,fun k hk h1 h2=>by omega,fun _=>by simp only [e]; exact h⟩
theorem a1p {O:ah} (hd:iz O) {m:Fp p} (hml:m.len≤64) {n c:Nat} (hn:n<1000000) (hc:c<n) {N:Tab p} (hN:Sq m n N) {IX:List Nat} {RR:List (List D)} (hT:TbI IX RR N) {cp:Option Nat} {z o:D} {Pm:List Int}:∀(q b:Nat),b+q=n →
 dn O 1 (.loop ir_spec_l09Determinantt_L0) ⟨[(0,(.d (.int .i64 p))),(2,.sl 0 [0] 0 n cp),(4,.ptr 1 []),(6,.ptr 2 []),(7,.ptr 3 []),(8,(.d (.int .i64 c))),(9,(.d (.int .i64 b)))],[.tb false (.arr 64 .leaf) IX RR,.box false (D.arr 64 .leaf (am .u8 Pm)),.box false z,.box false o,.hole,.hole]⟩ =
  some (.exit 2,⟨[(0,(.d (.int .i64 p))),(2,.sl 0 [0] 0 n cp),(4,.ptr 1 []),(6,.ptr 2 []),(7,.ptr 3 []),(8,(.d (.int .i64 c))),(9,(.d (.int .i64 (pvF N c q b)))),(38,(.d (.bool false)))],[.tb false (.arr 64 .leaf) IX RR,.box false (D.arr 64 .leaf (am .u8 Pm)),.box false z,.box false o,.hole,.hole]⟩)
 | 0,b,hb=>by
  obtain rfl:b=n:=by omega
  refine bv ?_;show _=some (_,(⟨[_,_,_,_,_,_,(9,(.d (.int .i64 b))),_],_⟩:St));simp -implicitDefEqProofs [ir_spec_l09Determinantt_L0,ao]
 | q+1,b,hb=>by
  have hNl:=hN.1;have hlt:b<n:=by omega
  have hbN:b<N.length:=by omega
  obtain ⟨hQ1,hQ2⟩:=hN.2 N[b] (bm hbN);obtain ⟨r,hr,hR⟩:=hT.get b _ (ac hbN);have hIl:IX.length=n:=by rw [hT.len]; exact hNl
  have hri:∀h:b<IX.length,IX[b]'h=r:=fun h=>al ((ac h).symm.trans hr)
  have hcQ:c<N[b].length:=by omega
  have hgd:N[b].getD c 0=N[b][c]:=by rw [bc,ac hcQ]; rfl
  have e1:=hd p N[b][c] (by have:=hQ2 _ (bm hcQ); omega)
  have hQL:(N[b].map dm).length=n:=by rw [az]; exact hQ1
  have hxc:∀h:c<(N[b].map dm).length,(N[b].map dm)[c]'h=(D.arr 64 .leaf (am .u8 (pad (row N[b][c])))):=fun h=>by rw [du]
  have w4:IntKind.i64.wrap ((b:Int)+1)=((b+1:Nat):Int):=(w64 (x:=(b:Int)+1) (by omega)).trans (by omega)
  have hli:(b:Int)<n:=by omega
  have hg:(N[b]?).getD []=N[b]:=by rw [ac hbN]; rfl
  by_cases h:(N[b]).getD c 0=0
  ·have e:pvF N c (q+1) b=pvF N c q (b+1):=by rw [pvF,hg,if_pos h]
   rw [hgd] at h;have hl0:(N[b][c]).len=0:=by rw [h]; exact Pol.len_zero
   have hneg:((N[b][c]).len:Int)-1<0:=by omega
   rw [e];refine bq ?_ (a1p hd hml hn hc hN hT q (b+1) (by omega))
   generalize pad (row N[b][c])=Pc at *;generalize ((N[b][c]).len:Int)-1=dg at *;generalize N[b].map dm=QD at *;simp -implicitDefEqProofs [ir_spec_l09Determinantt_L0,ao,hlt,hli,hc,hIl,hri,hR,hQL,hxc,e1,hneg,w4]
  ·have e:pvF N c (q+1) b=b:=by rw [pvF,hg,if_neg h]
   rw [hgd] at h;have hl0:(N[b][c]).len≠0:=fun hh=>h (Pol.len_zero_iff.1 hh)
   have hneg:¬ ((N[b][c]).len:Int)-1<0:=by omega
   rw [e];refine bv ?_;generalize pad (row N[b][c])=Pc at *;generalize ((N[b][c]).len:Int)-1=dg at *;generalize N[b].map dm=QD at *;simp -implicitDefEqProofs [ir_spec_l09Determinantt_L0,ao,hlt,hli,hc,hIl,hri,hR,hQL,hxc,e1,hneg]
theorem TbI.swap {IX:List Nat} {RR:List (List D)} {N:Tab p} (h:TbI IX RR N) {c b rc rb:Nat} (hc:c<N.length) (hb:b<N.length) (hcb:c≠b) (h1:IX[c]? = some rc) (h2:IX[b]? = some rb):TbI ((IX.set b rc).set c rb) RR (swp N c b hc hb):=by
 have hlen:=h.len
 have key:∀k,((IX.set b rc).set c rb)[k]? = if k=c then IX[b]? else if k=b then IX[c]? else IX[k]?:=by
  intro k
  by_cases hk:c=k
  ·subst hk
   rw [au (by rw [br]; omega),if_pos rfl,h2]
  ·rw [av hk,if_neg (eh hk)]
   by_cases hk2:b=k
   ·subst hk2
    rw [au (by omega),if_pos rfl,h1]
   ·rw [av hk2,if_neg (eh hk2)]
 refine ⟨by rw [br,br,Dx]; exact hlen,fun j k r hj hk=>?_,fun k Q hk=>?_⟩
 ·rw [key] at hj hk
  by_cases j1:j=c <;> by_cases k1:k=c
  ·omega
  ·rw [if_pos j1] at hj
   rw [if_neg k1] at hk
   by_cases k2:k=b
   ·rw [if_pos k2] at hk
    have:=h.inj b c r hj hk; omega
   ·rw [if_neg k2] at hk
    have:=h.inj b k r hj hk; omega
  ·rw [if_pos k1] at hk
   rw [if_neg j1] at hj
   by_cases j2:j=b
   ·rw [if_pos j2] at hj
    have:=h.inj c b r hj hk; omega
   ·rw [if_neg j2] at hj
    have:=h.inj j b r hj hk; omega
  ·rw [if_neg j1] at hj
   rw [if_neg k1] at hk
   by_cases j2:j=b <;> by_cases k2:k=b
   ·omega
   ·rw [if_pos j2] at hj
    rw [if_neg k2] at hk;have:=h.inj c k r hj hk; omega
   ·rw [if_neg j2] at hj
    rw [if_pos k2] at hk;have:=h.inj j c r hj hk; omega
   ·rw [if_neg j2] at hj
    rw [if_neg k2] at hk;exact h.inj j k r hj hk
 ·rw [key]
  unfold swp at hk
  by_cases k1:c=k
  ·subst k1
   rw [au (by rw [br]; exact hc)] at hk
   rw [if_pos rfl];exact h.get b Q (by rw [ac hb]; exact hk)
  ·rw [av k1] at hk
   rw [if_neg (eh k1)]
   by_cases k2:b=k
   ·subst k2
    rw [au hb] at hk;rw [if_pos rfl];exact h.get c Q (by rw [ac hc]; exact hk)
   ·rw [av k2] at hk
    rw [if_neg (eh k2)];exact h.get k Q hk
theorem Sq.swap {m:Fp p} {n:Nat} {N:Tab p} (h:Sq m n N) {c b:Nat} (hc:c<N.length) (hb:b<N.length):Sq m n (swp N c b hc hb):=by
 refine ⟨by rw [Dx]; exact h.1,fun r hr=>h.2 r ?_⟩
 unfold swp at hr;rcases dd hr with h1 | rfl
 ·rcases dd h1 with h2 | rfl
  ·exact h2
  ·exact bm hc
 ·exact bm hb
end
end Pe

namespace Pe
open Go Gq
variable {T:Nat→Option Fn} {A:ah}
section
variable {p:Int} [IsP p]
theorem Yp {m:Fp p} {c:Nat} {N:Tab p} (h:N.length≤c):tn m c N=[]:=by
 unfold tn;rw [List.drop_of_length_le h]; rfl
theorem sub_zero {m:Fp p} {N:Tab p}:tn m 0 N=N.map (rwQ m):=by
 unfold tn;rw [fb];exact List.map_congr_left fun Q _=>by rw [fb]
noncomputable abbrev A8 (p:Int) (n:Nat) (cp:Option Nat) (c:Nat) (IX:List Nat) (RR:List (List D)) (m o:Fp p) (l:List (Nat×V)):St:=
 ⟨[(0,(.d (.int .i64 p))),(2,.sl 0 [0] 0 n cp),(4,.ptr 1 []),(6,.ptr 2 []),(7,.ptr 3 []),(8,(.d (.int .i64 c)))]++l,[.tb false (.arr 64 .leaf) IX RR,.box false (D.arr 64 .leaf (am .u8 (pad (row m)))),.box false (D.arr 64 .leaf (am .u8 (pad []))),.box false (D.arr 64 .leaf (am .u8 (pad (row o)))),.hole,.hole]⟩
theorem Ul {O:ah} (hd:iz O) (hs:zr O) (hmm:mh O) (hin:Br O) {m:Fp p} (hm:Fld m) {n:Nat} (hn:n<1000000) {cp:Option Nat}:∀(r c:Nat) (N:Tab p) (IX:List Nat) (RR:List (List D)) (out:Fp p),c+r=n→Sq m n N→TbI IX RR N→out.len<m.len →
 ∃o:Fp p,o.len<m.len∧Quo.mk m o=Quo.mk m out*det r (tn m c N)∧∃(IX':List Nat) (RR':List (List D)),
  dn O 1 (.loop ir_spec_l09Determinantt_L3) (A8 p n cp c IX RR m out [])=some (.exit 0,A8 p n cp n IX' RR' m o [(20,(.d (.bool false)))]) ∨
  (o=0∧dn O 1 (.loop ir_spec_l09Determinantt_L3) (A8 p n cp c IX RR m out [])=some (.ret,⟨[(6,.ptr 2 [])],[.tb false (.arr 64 .leaf) IX' RR',.hole,.box false (D.arr 64 .leaf (am .u8 (pad []))),.hole,.hole,.hole]⟩))
 | 0,c,N,IX,RR,out,hc,hN,hT,ho=>by
  obtain rfl:c=n:=by omega
  refine ⟨out,ho,?_,IX,RR,.inl (bv ?_)⟩
  ·rw [Yp (by rw [hN.1]; exact b9 _)]
   show Quo.mk m out=Quo.mk m out*1;exact bf [Quo.mk m out] rfl
  ·simp only [A8,c7,c6]
   generalize pad (row m)=Pm at *;generalize pad (row out)=Po at *;simp -implicitDefEqProofs [ir_spec_l09Determinantt_L3,ao]
 | r+1,c,N,IX,RR,out,hc,hN,hT,ho=>by
  have hml:=hm.five;have hm0:=hm.mon.2;have hNl:=hN.1;have hlt:c<n:=by omega
  have hli:(c:Int)<n:=by omega
  have hcN:c<N.length:=by omega
  obtain ⟨q1,q2,q3,q4⟩:=La N c (n-c) c (by omega)
  have e1:=a1p (O:=O) hd (m:=m) (by omega) hn hlt hN hT (cp:=cp) (z:=(D.arr 64 .leaf (am .u8 (pad [])))) (o:=(D.arr 64 .leaf (am .u8 (pad (row out))))) (Pm:=pad (row m)) (n-c) c (by omega)
  generalize pvF N c (n-c) c=b at *
  by_cases hb:b=N.length
  ·have hbn:b=n:=by omega
   refine ⟨0,by have:=hm.two; rw [Pol.len_zero]; omega,?_,IX,RR,.inr ⟨rfl,?_⟩⟩
   ·rw [U6,Quo.mk_zero]
    ·exact bf [Quo.mk m out] rfl
    ·intro Q hQ
     obtain ⟨j,hj⟩:=List.mem_iff_getElem?.1 hQ;rw [cr] at hj;obtain ⟨h1,h2⟩:=ae.1 hj;rw [←h2];exact q3 _ h1 (by omega) (by omega)
   ·refine oo ?_
    rw [hbn] at e1;simp only [A8,c7,c6];generalize pad (row m)=Pm at *;generalize pad (row out)=Po at *;simp -implicitDefEqProofs [ir_spec_l09Determinantt_L3,ao,hli,e1]
  ·have hbN:b<N.length:=by omega
   have hbl:b<n:=by omega
   obtain ⟨rb,hrb,hRb⟩:=hT.get b _ (ac hbN);obtain ⟨rc,hrc,hRc⟩:=hT.get c _ (ac hcN);obtain ⟨hQ1,hQ2⟩:=hN.2 N[b] (bm hbN);have hcQ:c<N[b].length:=by omega
   have hxl:=hQ2 _ (bm hcQ);have hgd:N[b].getD c 0=N[b][c]:=by rw [bc,ac hcQ]; rfl
   have hx0:N[b][c]≠0:=by rw [←hgd]; exact q4 hbN
   have hIl:IX.length=n:=by rw [hT.len]; exact hNl
   have hrib:∀h:b<IX.length,IX[b]'h=rb:=fun h=>al ((ac h).symm.trans hrb)
   have hric:∀h:c<IX.length,IX[c]'h=rc:=fun h=>al ((ac h).symm.trans hrc)
   have hQL:(N[b].map dm).length=n:=by rw [az]; exact hQ1
   have hxc:∀h:c<(N[b].map dm).length,(N[b].map dm)[c]'h=(D.arr 64 .leaf (am .u8 (pad (row N[b][c])))):=fun h=>by rw [du]
   have e3:=hin p m N[b][c] hm0 (by omega) hx0 hxl
   have hivl:(jw m N[b][c]).len<m.len:=Pol.len_mod _ hm0;have w4:IntKind.i64.wrap ((c:Int)+1)=((c+1:Nat):Int):=(w64 (x:=(c:Int)+1) (by omega)).trans (by omega)
   have hlb:(b:Int)<n:=by omega
   have hbz:¬ (b:Int)=n:=by omega
   have hRcL:(N[c].map dm).length=n:=by rw [az]; exact (hN.2 N[c] (bm hcN)).1
   by_cases hbc:b=c
   ·subst hbc
    have e2:=hmm p out N[b][b] m hm0 (by omega) (by omega) (by omega)
    have hol:=Pol.len_mod (out*N[b][b]) hm0;have hel:Sq m n (elM m (jw m N[b][b]) N[b] b n n N):=hN.elM hm0;obtain ⟨RR',hT',e4⟩:=V0 (O:=O) hs hmm hm0 (by omega) hivl hn hN hlt (ac hbN) hrb (cp:=cp) (z:=(D.arr 64 .leaf (am .u8 (pad [])))) (o:=(D.arr 64 .leaf (am .u8 (pad (row (out*N[b][b]%m)))))) (n-(b+1)) (b+1) RR (by omega) (by omega) (by rw [Gp]; exact hT)
    obtain ⟨o,ho1,ho2,IX2,RR2,ih⟩:=Ul hd hs hmm hin hm hn (cp:=cp) r (b+1) _ IX RR' (out*N[b][b]%m) (by omega) hel hT' hol
    refine ⟨o,ho1,?_,IX2,RR2,?_⟩
    ·rw [ho2,J9 hm (r:=r) (by omega) hN (ac hbN) (by rw [hgd]; exact hx0),hgd,Pol.mk_mod]
     show Quo.mk m out*Quo.mk m N[b][b]*_=_;rw [Gq.mul_assoc]
    ·have key:dn O 1 ir_spec_l09Determinantt_L3 (A8 p n cp b IX RR m out [])=some (.normal,A8 p n cp (b+1) IX RR' m (out*N[b][b]%m) []):=by
      simp only [A8,c7,c6];generalize ((b+1:Nat):Int)=z1 at *;generalize pad (row (out*N[b][b]%m))=Pn at *;generalize pad (row (jw m N[b][b]))=Pi at *;generalize pad (row N[b][b])=Pc at *;generalize N[b].map dm=QD at *;generalize pad (row m)=Pm at *;generalize pad (row out)=Po at *;simp -implicitDefEqProofs [ir_spec_l09Determinantt_L3,ao,hlt,hli,e1,e2,e3,e4,hbz,hIl,hrib,hRb,hQL,hxc,w4]
     rcases ih with ih | ⟨h0,ih⟩
     ·exact .inl (bq key ih)
     ·exact .inr ⟨h0,bq key ih⟩
   ·have hcb:c<b:=by omega
    have hsw:=hT.swap hcN hbN (eh hbc) hrc hrb;have hSw:=hN.swap hcN hbN;have hcs:(swp N c b hcN hbN)[c]? = some N[b]:=by unfold swp; rw [au (by rw [br]; exact hcN)]
    have hrs:((IX.set b rc).set c rb)[c]? = some rb:=by rw [au (by rw [br]; omega)]
    have hol0:=Pol.len_sub_le (a:=(0:Fp p)) (b:=out) (n:=m.len-1) (by rw [Pol.len_zero]; omega) (by omega)
    have hml2:=hm.two;have e0:=hs p 0 out (by rw [Pol.len_zero]; omega) (by omega)
    rw [dt] at e0;have e2:=hmm p (0-out) N[b][c] m hm0 (by omega) (by omega) (by omega)
    have hol:=Pol.len_mod ((0-out)*N[b][c]) hm0;have hel:Sq m n (elM m (jw m N[b][c]) N[b] c n n (swp N c b hcN hbN)):=hSw.elM hm0;obtain ⟨RR',hT',e4⟩:=V0 (O:=O) hs hmm hm0 (by omega) hivl hn hSw hlt hcs hrs (cp:=cp) (z:=(D.arr 64 .leaf (am .u8 (pad [])))) (o:=(D.arr 64 .leaf (am .u8 (pad (row ((0-out)*N[b][c]%m)))))) (n-(c+1)) (c+1) RR (by omega) (by omega) (by rw [Gp]; exact hsw)
    obtain ⟨o,ho1,ho2,IX2,RR2,ih⟩:=Ul hd hs hmm hin hm hn (cp:=cp) r (c+1) _ _ RR' ((0-out)*N[b][c]%m) (by omega) hel hT' hol
    refine ⟨o,ho1,?_,IX2,RR2,?_⟩
    ·have hsd:=Xr (m:=m) hcb hbN (r:=r+1) (by omega)
     have hse:=J9 hm (r:=r) (by omega) hSw hcs (by rw [hgd]; exact hx0)
     rw [hgd] at hse;rw [ho2,Pol.mk_mod]
     have h1:det (r+1) (tn m c N)=-(Quo.mk m N[b][c]*det r (tn m (c+1) (elM m (jw m N[b][c]) N[b] c n n (swp N c b hcN hbN)))):=by
      rw [←hse,hsd];exact bf [det (r+1) (tn m c N)] rfl
     rw [h1];show (Quo.mk m 0-Quo.mk m out)*Quo.mk m N[b][c]*_=_;rw [Quo.mk_zero];exact bf [Quo.mk m out,Quo.mk m N[b][c],det r (tn m (c+1) (elM m (jw m N[b][c]) N[b] c n n (swp N c b hcN hbN)))] rfl
    ·have hbi:¬ (b:Int)=c:=by omega
     have hn0:0<n:=by omega
     have key:dn O 1 ir_spec_l09Determinantt_L3 (A8 p n cp c IX RR m out [])=some (.normal,A8 p n cp (c+1) ((IX.set b rc).set c rb) RR' m ((0-out)*N[b][c]%m) []):=by
      simp only [A8,c7,c6];generalize ((c+1:Nat):Int)=z1 at *;generalize pad (row ((0-out)*N[b][c]%m))=Pn at *;generalize pad (row (0-out))=P0 at *;generalize pad (row (jw m N[b][c]))=Pi at *;generalize pad (row N[b][c])=Pc at *;generalize N[b].map dm=QD at *;generalize N[c].map dm=QC at *;generalize pad (row m)=Pm at *;generalize pad (row out)=Po at *;simp -implicitDefEqProofs [ir_spec_l09Determinantt_L3,ao,hlt,hli,hbl,hbi,hn0,e0,e1,e2,e3,e4,hbz,hIl,hrib,hric,hRb,hRc,hRcL,hQL,hxc,w4]
     rcases ih with ih | ⟨h0,ih⟩
     ·exact .inl (bq key ih)
     ·exact .inr ⟨h0,bq key ih⟩
end
def Nh (O:ah):Prop:=∀(p:Int) [IsP p] (m:Fp p),Fld m→∀(n:Nat),0<n→n<1000000→∀(N:Tab p) (cp:Option Nat) (IX:List Nat) (RR:List (List D)),Sq m n N→TbI IX RR N→∃o:Fp p,o.len<m.len∧Quo.mk m o=det n (N.map (rwQ m))∧∃(IX':List Nat) (RR':List (List D)),
 O F31 [(.d (.int .i64 p)),.d (D.arr 64 .leaf (am .u8 (pad (row m)))),.sl 0 [0] 0 n cp] [.tb false (.arr 64 .leaf) IX RR]=some (.d (D.arr 64 .leaf (am .u8 (pad (row o)))),[.tb false (.arr 64 .leaf) IX' RR'],[])
theorem a2p (hT:T F31=some ir_spec_l09Determinantt) (h1:zt (den T A)) (hd:iz (den T A)) (hs:zr (den T A)) (hmm:mh (den T A)) (hin:Br (den T A)):Nh (den T A):=by
 intro p ip m hm n hp hn N cp IX RR hN hT0;have hone:(1:Fp p).len=1:=Pol.len_one;have hm2:=hm.two;obtain ⟨o,ho1,ho2,IX',RR',e⟩:=Ul (O:=den T A) hd hs hmm hin hm hn (cp:=cp) n 0 N IX RR 1 (by omega) hN hT0 (by omega)
 have e1:=h1 p;refine ⟨o,ho1,?_,IX',RR',t7 hT rfl ?_⟩
 ·rw [ho2,sub_zero]
  show 1*det n (N.map (rwQ m))=_;exact bf [det n (N.map (rwQ m))] rfl
 ·rcases e with e | ⟨h0,e⟩
  ·simp only [A8,c7,c6] at e
   rw [show ((0:Nat):Int)=0 from rfl] at e;generalize pad (row (1:Fp p))=P1 at *;generalize pad (row o)=Po at *;generalize pad (row m)=Pm at *;simp -implicitDefEqProofs [ir_spec_l09Determinantt,ir_spec_l09Determinantt_B,e,e1]
  ·subst h0
   simp only [A8,c7,c6] at e;rw [show ((0:Nat):Int)=0 from rfl] at e;rw [dt];generalize pad (row (1:Fp p))=P1 at *;generalize pad (row m)=Pm at *;simp -implicitDefEqProofs [ir_spec_l09Determinantt,ir_spec_l09Determinantt_B,e,e1]
def I8 (O:ah):Prop:=∀(p:Int) [IsP p] (m:Fp p),
 O F31 [(.d (.int .i64 p)),.d (D.arr 64 .leaf (am .u8 (pad (row m)))),.sl 0 [] 0 0 (some 0)] [.sl false .leaf []]=some (.d (D.arr 64 .leaf (am .u8 (pad (row (1:Fp p))))),[.sl false .leaf []],[])
theorem a1j (hT:T F31=some ir_spec_l09Determinantt) (h1:zt (den T A)):I8 (den T A):=by
 intro p ip m;have e1:=h1 p
 have e:dn (den T A) 1 (.loop ir_spec_l09Determinantt_L3) ⟨[(0,(.d (.int .i64 p))),(2,.sl 0 [] 0 0 (some 0)),(4,.ptr 1 []),(6,.ptr 2 []),(7,.ptr 3 []),(8,(.d (.int .i64 0)))],[.sl false .leaf [],.box false (D.arr 64 .leaf (am .u8 (pad (row m)))),.box false (D.arr 64 .leaf (am .u8 (pad []))),.box false (D.arr 64 .leaf (am .u8 (pad (row (1:Fp p))))),.hole,.hole]⟩ =
  some (.exit 0,⟨[(0,(.d (.int .i64 p))),(2,.sl 0 [] 0 0 (some 0)),(4,.ptr 1 []),(6,.ptr 2 []),(7,.ptr 3 []),(8,(.d (.int .i64 0))),(20,(.d (.bool false)))],[.sl false .leaf [],.box false (D.arr 64 .leaf (am .u8 (pad (row m)))),.box false (D.arr 64 .leaf (am .u8 (pad []))),.box false (D.arr 64 .leaf (am .u8 (pad (row (1:Fp p))))),.hole,.hole]⟩):=by
  refine bv ?_;generalize pad (row (1:Fp p))=P1 at *;generalize pad (row m)=Pm at *;simp -implicitDefEqProofs [ir_spec_l09Determinantt_L3,ao]
 refine t7 hT rfl ?_;generalize pad (row (1:Fp p))=P1 at *;generalize pad (row m)=Pm at *;simp -implicitDefEqProofs [ir_spec_l09Determinantt,ir_spec_l09Determinantt_B,e,e1]
end Pe

namespace Pe
open Go Gq
variable {T:Nat→Option Fn} {A:ah}
abbrev aba (code:List Int) (at_:Nat) (h:Int):Blk:=.box false (.st [.leaf,.leaf,.leaf] [.sl .leaf (am .u8 code),.int .i64 at_,.int .u64 h])
def Src (b:Blk):Prop:=∃(code:List Int) (at_:Nat) (h:Int),b=aba code at_ h∧at_≤code.length∧code.length≤1099511627776∧i5 code
end Pe

namespace Pe
open Go Gq
variable {T:Nat→Option Fn} {A:ah}
structure DrI (p:Int) (Q:List Int) (n:Nat):Prop where
 l:Q.length=64
 c:Can p Q
 z:∀j,n≤j→cf Q j=0
theorem DrI.set {p:Int} {Q:List Int} {n k:Nat} {x:Int} (h:DrI p Q n) (h0:0≤x) (h1:x<p) (hk:k<n):DrI p (Q.set k x) n:=
 ⟨by rw [br]; exact h.l,fun y hy=>by
  rcases dd hy with g | rfl
  ·exact h.c y g
  ·exact ⟨h0,h1⟩,fun j hj=>by rw [s9,if_neg (by omega)]; exact h.z j hj⟩
section
variable {p:Int} [IsP p]
end
theorem DrI.zero (p:Int) [IsP p] (n:Nat):DrI p (pad []) n:=
 ⟨cu _,fun x hx=>by
  have hp:=IsP.ge (p:=p)
  have:x=0:=by
   unfold pad at hx;obtain ⟨a,_,rfl⟩:∃a,a<64∧cf [] a=x:=by simpa using hx
   exact m5 (jg _)
  omega,fun j _=>(y9 (l:=[]) (by simp) j).trans (m5 (jg _))⟩
theorem DrI.up {p:Int} {Q:List Int} {n m:Nat} (h:DrI p Q n) (hm:n≤m):DrI p Q m:=⟨h.l,h.c,fun j hj=>h.z j (by omega)⟩
end Pe

namespace Pe
open Go Gq
variable {T:Nat→Option Fn} {A:ah}
end Pe

namespace Gq
def Pr (l:Nat):Prop:=2≤l∧∀d,d∣l→d=1∨d=l
theorem Pr.coprime {l n:Nat} (h:Pr l) (hn:¬ l∣n):Nat.Coprime l n:=by
 rcases h.2 _ (Nat.gcd_dvd_left l n) with h1 | h1
 ·exact h1
 ·exact absurd (h1▸Nat.gcd_dvd_right l n) hn
theorem a23:∀(n:Nat),2≤n→∃l,Pr l∧l∣n:=by
 intro n
 induction n using Nat.strongRecOn with
 | ind n ih=>
  intro hn
  by_cases h:Pr n
  ·exact ⟨n,h,Nat.dvd_refl n⟩
  ·have:∃d,d∣n∧d≠1∧d≠n:=by
    apply dc;intro hno;refine h ⟨hn,fun d hd=>?_⟩
    apply dc;intro h2;exact hno ⟨d,hd,fun e=>h2 (.inl e),fun e=>h2 (.inr e)⟩
   obtain ⟨d,hd,h1,h2⟩:=this;have hle:=oz (by omega) hd
   have h0:d≠0:=fun e=>by
    rw [e] at hd;have:=Nat.eq_zero_of_zero_dvd hd;omega
   obtain ⟨l,hl,hld⟩:=ih d (by omega) (by omega)
   exact ⟨l,hl,jv hld hd⟩
theorem Pr.dvd_mul {l a b:Nat} (h:Pr l) (hd:l∣a*b):l∣a∨l∣b:=by
 by_cases ha:l∣a
 ·exact .inl ha
 ·exact .inr ((h.coprime ha).dvd_of_dvd_mul_left hd)
theorem Pr.dvd_pr {l q:Nat} (h:Pr l) (hq:Pr q) (hd:l∣q):l=q:=by
 rcases hq.2 l hd with h1 | h1
 ·have:=h.1; omega
 ·exact h1
theorem Vl {n:Nat} (h0:1≤n) (h:∀l,Pr l→¬ l∣n):n=1:=by
 apply dc;intro h1;obtain ⟨l,hl,hd⟩:=a23 n (by omega)
 exact h l hl hd
section
variable {R:Type} [CR R]
theorem Hm {x:R} {n k:Nat} (h:pw x n=1) (hd:n∣k):pw x k=1:=by
 obtain ⟨c,rfl⟩:=hd;rw [←sr,h,Cy]
def Ord (x:R) (n:Nat):Prop:=∀k,pw x k=1↔n∣k
theorem Ord.self {x:R} {n:Nat} (h:Ord x n):pw x n=1:=(h n).2 (Nat.dvd_refl n)
theorem Ord.unique {x:R} {n m:Nat} (h:Ord x n) (h':Ord x m):n=m:=Nat.dvd_antisymm ((h m).1 h'.self) ((h' n).1 h.self)
theorem Ord.mul {a b:R} {m n:Nat} (ha:Ord a m) (hb:Ord b n) (h:Nat.Coprime m n):Ord (a*b) (m*n):=fun k=>by
 constructor
 ·intro hk
  have h1:m∣k:=by
   have e:pw a (k*n)=1:=by
    have e1:pw (a*b) (k*n)=1:=by rw [←sr,hk,Cy]
    rw [uq,Hm hb.self (om n k),mul_one] at e1;exact e1
   exact h.dvd_of_dvd_mul_right ((ha _).1 e)
  have h2:n∣k:=by
   have e:pw b (k*m)=1:=by
    have e1:pw (a*b) (k*m)=1:=by rw [←sr,hk,Cy]
    rw [uq,Hm ha.self (om m k),one_mul] at e1;exact e1
   exact h.symm.dvd_of_dvd_mul_right ((hb _).1 e)
  exact h.mul_dvd_of_dvd_of_dvd h1 h2
 ·intro hd
  rw [uq,Hm ha.self (jv (nm m n) hd),Hm hb.self (jv (om n m) hd),mul_one]
end
structure OrdI (n q rest order:Nat) (fin:Bool):Prop where
 dv:n∣order
 pos:1≤order
 low:∀l,Pr l→l<q→¬ l*n∣order∧¬ l∣rest
 rel:∃c,order=rest*c∧(∀l,Pr l→q<l→¬ l∣c)∧(fin=false→Pr q→¬ q∣c)
 fin:fin=true→¬ q*n∣order
theorem OrdI.rest_pos {n q rest order:Nat} {f:Bool} (h:OrdI n q rest order f):1≤rest:=by
 obtain ⟨c,e,-⟩:=h.rel;have:=h.pos;rcases jm rest with h0 | h0
 ·rw [h0,gr] at e; omega
 ·exact h0
theorem OrdI.init {n N:Nat} (hN:1≤N) (h:n∣N):OrdI n 2 N N false where
 dv:=h
 pos:=hN
 low:=fun l hl h2=>by have:=hl.1; omega
 rel:=⟨1,(Nat.mul_one N).symm,fun l hl _ hd=>by have:=hl.1; have:=oz (by omega) hd; omega,fun _ hq hd=>by have:=hq.1; have:=oz (by omega) hd; omega⟩
 fin:=fun h=>by cases h
theorem OrdI.prime {n q rest order:Nat} {f:Bool} (h:OrdI n q rest order f) (h2:2≤q) (hd:q∣rest):Pr q:=by
 obtain ⟨l,hl,hlq⟩:=a23 q h2;rcases cn l q with h1 | h1
 ·exact absurd (jv hlq hd) (h.low l hl h1).2
 ·have:=oz (by omega) hlq
  obtain rfl:l=q:=by omega
  exact hl
theorem OrdI.no {n q r c':Nat} {f:Bool} (h:OrdI n q (q*r) (q*c') f) (h2:2≤q) (hd:¬ n∣c'):OrdI n q r (q*c') true where
 dv:=h.dv
 pos:=h.pos
 low:=fun l hl h1=>by
  obtain ⟨a,b⟩:=h.low l hl h1;exact ⟨a,fun e=>b (jv e (om r q))⟩
 rel:=by
  have hq:=h.prime h2 (nm q r);obtain ⟨c,e,h3,_⟩:=h.rel;refine ⟨q*c,by rw [e,Nat.mul_assoc,Nat.mul_left_comm],fun l hl h4 hl2=>?_,fun hf=>by cases hf⟩
  rcases hl.dvd_mul hl2 with h5 | h5
  ·have:=hl.dvd_pr hq h5; omega
  ·exact h3 l hl h4 h5
 fin:=fun _ e=>hd (Nat.dvd_of_mul_dvd_mul_left (by omega) e)
theorem OrdI.next {n q rest order:Nat} {f:Bool} (h:OrdI n q rest order f) (h2:2≤q) (hd:¬ q∣rest):OrdI n (q+1) rest order false where
 dv:=h.dv
 pos:=h.pos
 low:=fun l hl h1=>by
  rcases cn l q with h3 | h3
  ·exact h.low l hl h3
  ·obtain rfl:l=q:=by omega
   refine ⟨fun e=>?_,hd⟩
   cases f with
   | true=>exact h.fin rfl e
   | false=>
    obtain ⟨c,e1,_,h5⟩:=h.rel;have:l∣rest*c:=e1▸jv (nm l n) e;rcases hl.dvd_mul this with h6 | h6
    ·exact hd h6
    ·exact h5 rfl hl h6
 rel:=by
  obtain ⟨c,e1,h4,_⟩:=h.rel;exact ⟨c,e1,fun l hl h5=>h4 l hl (by omega),fun _ hq=>h4 _ hq (by omega)⟩
 fin:=fun hf=>by cases hf
theorem OrdI.done {n q rest order:Nat} (h:OrdI n q rest order false) (hq:rest<q):order=n:=by
 have hr:rest=1:=Vl h.rest_pos fun l hl hd=>by
  have:=oz h.rest_pos hd;exact (h.low l hl (by omega)).2 hd
 obtain ⟨c,e1,h4,h5⟩:=h.rel;rw [hr,Nat.one_mul] at e1;obtain ⟨k,hk⟩:=h.dv
 have hk1:k=1:=Vl (by
  have:=h.pos;rcases jm k with h0 | h0
  ·rw [h0,Nat.mul_zero] at hk; omega
  ·exact h0) fun l hl hd=>by
  have hln:l*n∣order:=by
   rw [hk,u9 l n]; exact Nat.mul_dvd_mul_left n hd
  rcases cn l q with h6 | h6
  ·exact (h.low l hl h6).1 hln
  ·have hlc:l∣c:=e1▸jv (nm l n) hln
   rcases cn q l with h7 | h7
   ·exact h4 l hl h7 hlc
   ·obtain rfl:l=q:=by omega
    exact h5 rfl hl hlc
 rw [hk,hk1,Nat.mul_one]
end Gq

namespace Pe
open Gq
section
variable {p:Int}
def IsPrim (m:Fp p) (k:Nat):Prop:=1≤k∧(k:Int)<p^(m.len-1)∧Ord (Quo.mk m (jx p k)) (p.toNat^(m.len-1)-1)∧∀j:Nat,1≤j→j<k→¬ Ord (Quo.mk m (jx p j)) (p.toNat^(m.len-1)-1)
theorem IsPrim.unique {m:Fp p} {j k:Nat} (hj:IsPrim m j) (hk:IsPrim m k):j=k:=by
 rcases cn j k with h | h
 ·exact absurd hj.2.2.1 (hk.2.2.2 j hj.1 h)
 ·rcases cn k j with h2 | h2
  ·exact absurd hk.2.2.1 (hj.2.2.2 k hk.1 h2)
  ·omega
noncomputable def dgF:jf p→Nat
 | []=>0
 | x::L=>x.2*(x.1.len-1)+dgF L
theorem Xn [IsP p] {q:Fp p} (h:Monic q):∀k,(pw q k).len=k*(q.len-1)+1
 | 0=>by rw [gr]; exact Pol.len_one
 | k+1=>by
  have h1:=Pol.len_mul (Monic.pw h k).2 h.2;have h2:=Xn h k;have h3:=Pol.len_pos h.2;show (pw q k*q).len=_;rw [dx]; omega
theorem Rm [IsP p]:∀{L:jf p},FacOk L→(iq L).len=dgF L+1
 | [],_=>Pol.len_one
 | x::L,h=>by
  have hm:=(h.irr x (by simp)).2.1
  have ht:FacOk L:=⟨fun y hy=>h.irr y (by simp [hy]),h.dis.tail⟩
  have h1:=Rm ht;have h2:=Pol.len_mul (Monic.pw hm x.2).2 (uu ht).2;rw [Xn hm] at h2;rw [og,dgF]; omega
end
end Pe


namespace Pe
open Go Gq
variable {T:Nat→Option Fn} {A:ah}
section
variable {p:Int} [IsP p]
end
section
variable {p:Int} [IsP p]
end
section
variable {p:Int} [IsP p]
end
end Pe

namespace Pe
open Go Gq
variable {T:Nat→Option Fn} {A:ah}
end Pe

namespace Pe
open Go Gq
variable {T:Nat→Option Fn} {A:ah}
section
variable {p:Int} [IsP p]
theorem IsFac.small {m:Fp p} (hm:m≠0) (hl:m.len≤13) {L:jf p} (h:IsFac m L):(∀x∈L,2≤x.1.len∧x.1.len≤13∧1≤x.2∧x.2≤12)∧dgF L+1=m.len:=by
 refine ⟨fun x hx=>?_,?_⟩
 ·obtain ⟨q1,q2,q3,_⟩:=h.len hm hx
  exact ⟨q1,by omega,(h.ok.irr x hx).2.2,by omega⟩
 ·rw [←Rm h.ok]
  conv=>rhs; rw [h.eq]
  exact (Pol.len_Cmul (Pol.ld_ne hm) _).symm
end
section
variable {p:Int} [IsP p]
end
end Pe

namespace Pe
open Go Gq
variable {T:Nat→Option Fn} {A:ah}
section
variable {p:Int} [IsP p]
end
end Pe

namespace Pe
open Go Gq
variable {T:Nat→Option Fn} {A:ah}
end Pe


namespace Pe
open Go Gq
variable {T:Nat→Option Fn} {A:ah}
end Pe

namespace Pe
open Go Gq
section
variable {p:Int}
end
section
variable {p:Int} [IsP p]
end
end Pe

namespace Pe
open Go Gq
variable {T:Nat→Option Fn} {A:ah}
section
variable {p:Int} [IsP p]
end
end Pe

namespace Pe
open Go Gq
variable {T:Nat→Option Fn} {A:ah}
section
variable {p:Int} [ip:IsP p] {M X:Fp p}
end
end Pe

namespace Pe
open Go Gq
variable {T:Nat→Option Fn} {A:ah}
end Pe

namespace Pe
open Go Gq
variable {T:Nat→Option Fn} {A:ah}
end Pe


namespace Pe
open Go Gq
variable {T:Nat→Option Fn} {A:ah}
end Pe

namespace Pe
open Go Gq
variable {T:Nat→Option Fn} {A:ah}
theorem Dk {a m:List Int} (ha:i5 a) (gl:a.length=64) (hm:i5 m) (glm:m.length=64):Bp [a,m]:=fun x hx=>by
 simp at hx;rcases hx with rfl | rfl
 ·exact ⟨gl,ha⟩
 ·exact ⟨glm,hm⟩
end Pe

namespace Pe
open Go Gq
variable {T:Nat→Option Fn} {A:ah}
end Pe



namespace Pe
open Go Gq
variable {T:Nat→Option Fn} {A:ah}
section
variable {p:Int}
end
end Pe

namespace Pe
open Go Gq
variable {T:Nat→Option Fn} {A:ah}
end Pe

namespace Pe
open Go Gq
variable {T:Nat→Option Fn} {A:ah}
end Pe

namespace Pe
open Go Gq
variable {T:Nat→Option Fn} {A:ah}
end Pe

namespace Pe
open Go Gq
section
variable {K:Type} [CR K]
end
section
variable {p:Int} {m:Fp p}
variable {t0 t1 t2:Quo m}
end
end Pe

namespace Pe
open Go Gq
section
variable {p:Int} {m:Fp p}
end
structure FrobSaid {p:Int} [IsP p] (m g d:Fp p):Prop where
 lt:(frA m g d).lt ((m.len-1)/2+1)
 eq:∀n,(if n=2*(m.len-1) then 1 else 0)-(if n<m.len-1 then 0 else fj (fun i=>Quo.mk m (Pol.C ((frA m g d).c i))*Rk (Quo.mk m Pol.X) (Quo.mk m g) (Quo.mk m d) i (n-(m.len-1))) ((m.len-1)/2+1))+fj (fun i=>Quo.mk m (Pol.C ((frB m d).c i))*Rk (Quo.mk m Pol.X) (Quo.mk m g) (Quo.mk m d) i n) m.len=0
section
variable {p:Int} {m g d:Fp p}
end
end Pe


namespace Pe
open Go Gq
variable {T:Nat→Option Fn} {A:ah}
section
variable {p:Int}
end
end Pe

namespace Pe
open Go Gq
section
variable {K:Type} [CR K]
end
section
variable {p:Int} [ip:IsP p] {m:Fp p}
end
section
variable {p:Int} {m:Fp p}
end
section
variable {p:Int} [ip:IsP p] {m:Fp p}
end
section
variable {p:Int} {m:Fp p}
end
section
variable {p:Int} [ip:IsP p] {m:Fp p}
end
section
variable {p:Int} {m:Fp p}
end
section
variable {p:Int} [ip:IsP p] {m:Fp p}
end
end Pe


namespace Pe
open Go Gq
variable {T:Nat→Option Fn} {A:ah}
end Pe



namespace Pe
open Go Gq
variable {T:Nat→Option Fn} {A:ah}
end Pe


namespace Pe
open Go Gq
variable {T:Nat→Option Fn} {A:ah}
section
end
section
variable {p:Int} [IsP p]
end
end Pe

namespace Pe
open Go Gq
variable {T:Nat→Option Fn} {A:ah}
end Pe


namespace Pe
open Go Gq
variable {T:Nat→Option Fn} {A:ah}
end Pe

namespace Pe
open Go Gq
variable {T:Nat→Option Fn} {A:ah}
end Pe

namespace Pe
open Go Gq
variable {T:Nat→Option Fn} {A:ah}
end Pe

namespace Pe
open Go Gq
variable {T:Nat→Option Fn} {A:ah}
end Pe

namespace Pe
open Go Gq
variable {T:Nat→Option Fn} {A:ah}
end Pe

namespace Pe
open Go Gq
variable {T:Nat→Option Fn} {A:ah}
section
variable {p:Int} [IsP p] {m:Fp p}
end
end Pe

namespace Pe
open Go Gq
variable {T:Nat→Option Fn} {A:ah}
end Pe

namespace Pe
open Go Gq
section
variable {p:Int}
noncomputable def a73 {m:Fp p} (f:Nat→Quo m):Nat→Quo m
 | 0=>0
 | n+1=>a73 f n+f n
noncomputable def cv {m:Fp p} (X Y:Nat→Quo m) (n:Nat):Quo m:=a73 (fun i=>X i*sg i (Y (n-i))) (n+1)
end
end Pe


namespace Pe
open Go Gq
variable {T:Nat→Option Fn} {A:ah}
theorem plus_nil {p:Int} [IsP p] {A B:List (Fp p)} (hA:n8 A) (hB:n8 B):(qp (-1) A B).length=0↔A=B:=by
 have hc:∀i,cS (qp (-1) A B) i=cS A i-cS B i:=fun i=>by
  rw [Ii,show zp p (-1)=-1 from by rw [Hl,Hu]]
  have:Pol.C (-1:Zp p)=-1:=by rw [Pol.C_neg,Pol.C_one]
  rw [this];exact bf [cS A i,cS B i] rfl
 constructor
 ·intro h
  refine Mc hA hB fun i=>?_
  have h1:=hc i;rw [Az (by omega)] at h1
  have h2:cS A i=(cS A i-cS B i)+cS B i:=bf [cS A i,cS B i] rfl;rw [h2,←h1,Gq.zero_add]
 ·rintro rfl
  have:qp (-1) A A=[]:=Mc (B5 _ _ _) (fun n hn=>by cases hn) fun i=>by
   rw [hc,a2c];exact bf [cS A i] rfl
  rw [this]; rfl
end Pe


namespace Pe
open Go Gq
variable {T:Nat→Option Fn} {A:ah}
section
variable {p:Int} [IsP p]
end
section
variable {p:Int} [IsP p]
end
end Pe

namespace Pe
open Go Gq
section
variable {K:Type} [CR K]
end
section
variable {p:Int} {m:Fp p}
end
section
variable {p:Int} [ip:IsP p] {m:Fp p}
structure Tws (m:Fp p) (C V G D G' D':Quo m):Prop where
 cv:C*V=1
 g:V*G'=sg 1 V*G
 d:V*D'=sg 2 V*D
 dp:D'=pw V (p*p-1).toNat*D
 gp:G'=pw V (p-1).toNat*G
end
section
variable {p:Int} {m:Fp p}
end
section
variable {p:Int} [ip:IsP p] {m:Fp p}
theorem a2d (hm:Fld m) {a b:Fp p} (ha:a.len<m.len) (hb:b.len<m.len) (h:Quo.mk m a=Quo.mk m b):a=b:=by
 have e:=(Pol.mod_eq_iff hm.mon.2).2 h
 rwa [Pol.mod_small ha,Pol.mod_small hb] at e
end
section
variable {p:Int} {m:Fp p}
end
section
variable {p:Int} [ip:IsP p] {m:Fp p}
end
end Pe

namespace Pe
open Go Gq
variable {T:Nat→Option Fn} {A:ah}
section
variable {p:Int} [IsP p]
theorem Y3 {m:Fp p} (hm:m≠0) {xs:List (Fp p)} (hx:∀x∈xs,x.len<m.len):Sq m xs.length (moK m xs xs.length):=⟨qz ..,fun r hr=>by
 obtain ⟨i,_,rfl⟩:=cg.1 hr;exact ⟨kb ..,Yj hm hx⟩⟩
theorem Se (N:Tab p):TbI (List.range N.length) (N.map xq) N:=by
 refine ⟨fq,fun j k r hj hk=>?_,fun k Q hk=>?_⟩
 ·obtain ⟨h1,h2⟩:=ae.1 hj
  obtain ⟨h3,h4⟩:=ae.1 hk;rw [List.getElem_range] at h2 h4;omega
 ·obtain ⟨h1,h2⟩:=ae.1 hk
  exact ⟨k,by rw [ac (by rw [fq]; exact h1),List.getElem_range],by rw [ct,hk]; rfl⟩
end
open Classical in
noncomputable def mdL (p:Int) (l:List Int) (ls:List (List Int)):List Int:=
 if h:a1d p l ls∧ls.length≤4 then
  haveI:IsP p:=h.1.choose
  pad (row (dtP (ep p l) ls.length (moK (ep p l) (ls.map (ep p)) ls.length)))
 else pad []
theorem Lb {p:Int} [IsP p] {m:Fp p} {S:List (Fp p)} (h:a1d p (pad (row m)) (skP S)) (hn:S.length≤4) (hm:m.len≤64) (hS:∀a∈S,a.len≤64):mdL p (pad (row m)) (skP S)=pad (row (dtP m S.length (moK m S S.length))):=by
 unfold mdL;have hl:(skP S).length=S.length:=az ..;rw [dif_pos ⟨h,by omega⟩,pv hm,Tm hS]
 exact congrArg (fun k=>pad (row (dtP m k (moK m S k)))) hl
theorem Rr {p:Int} {l:List Int} {ls:List (List Int)} (h:si p l ls 0 4≠0):mdL p l ls=pad []:=by
 unfold mdL;rw [dif_neg fun g=>h (V2.2 g)]
theorem a0v (p:Int) (l:List Int) (ls:List (List Int)):(mdL p l ls).length=64:=by
 unfold mdL
 split <;> exact cu _
def oa (O:ah) (F:Nat):Prop:=∀(p:Int) (l:List Int) (ls:List (List Int)),i5 l→l.length=64→Bp ls→ls.length<2000000→ask O F [(D.int .i64 p),(D.arr 64 .leaf (am .u8 l)),.sl (.arr 64 .leaf) (ls.map ee)]=some (.tup [(D.arr 64 .leaf (am .u8 (mdL p l ls))),(D.int .i64 (si p l ls 0 4))])
theorem N0 (hT:T F5=some Z5) (hc:xu (den T A)) (hfo:wx (den T A)) (hro:Mn (den T A)) (hmo:I5 (den T A)) (hde:Ui (den T A)) (hto:Nq (den T A)):oa (den T A) F5:=by
 intro p l ls bl gl ha hl;have e1:=hc p l ls 0 4 bl gl ha hl
 by_cases h:si p l ls 0 4=0
 ·rw [h] at e1 ⊢
  obtain ⟨h',h4⟩:=V2.1 h;obtain ⟨ip,m,rfl,hm,hs⟩:=id h';obtain ⟨S,rfl,hS⟩:=Vb hs;have h5:=hm.five;have hSl:S.length≤4:=by rwa [az] at h4
  have hS64:∀a∈S,a.len≤64:=fun a ha=>by have:=hS a ha; omega
  have e2:=hfo p m (by omega)
  have e3:=hro p S (by omega) hS64
  have e4:=hmo p m S hm.two (by omega) (by omega) hS64
  have hmd:(S.map fun a=>pad (row a)).map ee=S.map dm:=L5 S
  have e5:=hde p m hm.mon.2 hm.two (by omega) S.length (by omega) (moK m S S.length) (Y3 hm.mon.2 hS)
  have hdl:=Iu hm.mon.2 hm.two S.length (moK m S S.length);have hrl:(row (dtP m S.length (moK m S S.length))).length≤64:=by rw [bp]; omega
  have e6:=hto (row (dtP m S.length (moK m S S.length))) (Tv _) (by omega)
  unfold Us at e6;rw [if_pos hrl] at e6;rw [show tbD (moK m S S.length)=(moK m S S.length).map nw from rfl] at e5;rw [Lb h' hSl (by omega) hS64]
  rw [hmd] at e1 ⊢;refine bu hT rfl ?_;generalize row (dtP m S.length (moK m S S.length))=R0 at *;generalize (moK m S S.length).map nw=R2 at *;generalize S.map dm=SD at *;generalize S.map f9=SR at *;generalize S.length=sn at *;generalize pad (row m)=Pm at *;simp -implicitDefEqProofs [Z5,Z5_B,ao,e1,e2,e3,e4,e5,e6,List.replicate]
 ·rw [Rr h]
  refine bu hT rfl ?_;generalize si p l ls 0 4=cc at *;generalize ls.map ee=LD at *;simp -implicitDefEqProofs [Z5,Z5_B,ao,e1,h]
theorem L4 (hT:T F2d=some ir_spec_MooreDeterminantt) (hc:A1 (den T A)) (hmo:Dw (den T A)) (hmo0:Af (den T A)) (hde:Nh (den T A)) (hde0:I8 (den T A)) (hmd':vm (den T A)):oa (den T A) F2d:=by
 intro p l ls bl gl ha hl;have e1:=hc p l ls 4 bl gl ha hl
 by_cases h:si p l ls 0 4=0
 ·rw [h] at e1 ⊢
  obtain ⟨h',h4⟩:=V2.1 h;obtain ⟨ip,m,rfl,hm,hs⟩:=id h';obtain ⟨S,rfl,hS⟩:=Vb hs;have h5:=hm.five;have h2:=hm.two;have hSl:S.length≤4:=by rwa [az] at h4
  have hS64:∀a∈S,a.len≤64:=fun a ha=>by have:=hS a ha; omega
  have hmd:(S.map fun a=>pad (row a)).map ee=S.map dm:=L5 S
  rw [Lb h' hSl (by omega) hS64]
  rw [hmd] at e1 ⊢
  by_cases h0:S.length=0
  ·obtain rfl:S=[]:=d5.1 h0
   have hone:(1:Fp p).len=1:=Pol.len_one;have e2:=hmo0 p m;have e3:=hde0 p m;have e4:=hmd' p 1 m hm.mon.2 (by omega) (by omega)
   rw [Pol.mod_small (show (1:Fp p).len<m.len by omega)] at e4
   rw [show dtP m ([]:List (Fp p)).length (moK m [] ([]:List (Fp p)).length)=1 from rfl];refine bu hT rfl ?_;simp only [kv] at e1 ⊢;generalize pad (row (1:Fp p))=P1 at *;generalize pad (row m)=Pm at *;simp -implicitDefEqProofs [ir_spec_MooreDeterminantt,ir_spec_MooreDeterminantt_B,ao,e1,e2,e3,e4,List.replicate,List.idxOf,List.findIdx,List.findIdx.go]
  ·obtain ⟨co,e2⟩:=hmo p m S h2 (by omega) (by omega) hS64 (by omega)
   have hTI:TbI (List.range S.length) ((moK m S S.length).map xq) (moK m S S.length):=by
    have:=Se (moK m S S.length)
    rwa [qz] at this
   have hsq:=Y3 hm.mon.2 hS;obtain ⟨o,ho1,ho2,IX',RR',e3⟩:=hde p m hm S.length (by omega) (by omega) (moK m S S.length) co _ _ hsq hTI
   have e4:=hmd' p o m hm.mon.2 (by omega) (by omega)
   rw [Pol.mod_small ho1] at e4;have hoe:o=dtP m S.length (moK m S S.length):=a2d hm ho1 (Iu hm.mon.2 h2 _ _) (by rw [ho2,Yf])
   rw [←hoe];refine bu hT rfl ?_;generalize pad (row o)=Po at *;generalize (moK m S S.length).map xq=R2 at *;generalize List.range S.length=IX at *;generalize S.map dm=SD at *;generalize S.length=sn at *;generalize pad (row m)=Pm at *;simp -implicitDefEqProofs [ir_spec_MooreDeterminantt,ir_spec_MooreDeterminantt_B,ao,e1,e2,e3,e4,List.replicate,List.idxOf,List.findIdx,List.findIdx.go]
 ·rw [Rr h]
  refine bu hT rfl ?_;generalize si p l ls 0 4=cc at *;generalize ls.map ee=LD at *;simp -implicitDefEqProofs [ir_spec_MooreDeterminantt,ir_spec_MooreDeterminantt_B,ao,e1,h]
def ma (O:ah):Prop:=∀(p:Int) (l:List Int),i5 l→l.length=64→∀(ls:List (List Int)),Bp ls→ls.length≤9223372036854775807→ask O F1j [(D.int .i64 p),(D.arr 64 .leaf (am .u8 l)),.sl (.arr 64 .leaf) (ls.map ee)]=some (D.bool true)
theorem vk (hT:T F1j=some Z1j) (hp:ui (den T A)) (hk:P4 (den T A)) (he:Nw (den T A)) (hee:ur (den T A)) (hsz:Oo (den T A)) (hi:oa (den T A) F5) (hs:oa (den T A) F2d):ma (den T A):=by
 intro p l bl gl ls ha hl;have e0:=hsz (ls.map ee) 1048576 (by omega) (by omega) (by rw [az]; exact hl)
 rw [az] at e0;refine bu hT rfl ?_
 by_cases hbig:(1048576:Int)<ls.length
 ·rw [if_pos hbig] at e0
  generalize ls.map ee=LD at *;simp -implicitDefEqProofs [Z1j,Z1j_B,ao,e0]
 ·rw [if_neg hbig] at e0
  have hn0:¬ (1048576:Int)-ls.length<0:=by omega
  have hl2:ls.length<2000000:=by omega
  have e1:=hp l bl gl;have e2:=hk ls ha hl2;have e3:=hi p l ls bl gl ha hl2;have e4:=hs p l ls bl gl ha hl2;have e6:=he ls (fun l hl=>(ha l hl).1) hl2
  have e7:=hee (mdL p l ls) (a0v p l ls);generalize mdL p l ls=R0 at *;generalize si p l ls 0 4=cc at *;generalize (1048576:Int)-ls.length=left at *;generalize ls.map ee=LD at *;generalize ls.length=n at *;simp -implicitDefEqProofs [Z1j,Z1j_B,ao,e0,hn0,e1,e2,e3,e4,e6,e7,List.replicate]
end Pe

namespace Pe
open Go
theorem Gs:∀(xs:List D),(∀x∈xs,tyP.has x)→∃ls:List (List Int),xs=ls.map ee∧Bp ls
 | [],_=>⟨[],rfl,fun _ h=>by cases h⟩
 | x::xs,h=>by
  obtain ⟨ls,rfl,hb⟩:=Gs xs fun y hy=>h y (pc _ hy)
  obtain ⟨l,rfl,b,g⟩:=a1w (h x (by simp))
  refine ⟨l::ls,rfl,fun y hy=>?_⟩
  rcases d9.1 hy with rfl | hy
  ·exact ⟨g,b⟩
  ·exact hb y hy
abbrev tyPs:Ty:=.sl tyP
theorem a2y {d:D} (h:tyPs.has d):∃ls:List (List Int),d=.sl (.arr 64 .leaf) (ls.map ee)∧Bp ls∧ls.length≤9223372036854775807:=by
 cases d <;> simp only [Ty.has] at h
 obtain ⟨rfl,h1,h2⟩:=h;obtain ⟨ls,rfl,hb⟩:=Gs _ h2;exact ⟨ls,rfl,hb,by simpa using h1⟩
end Pe
