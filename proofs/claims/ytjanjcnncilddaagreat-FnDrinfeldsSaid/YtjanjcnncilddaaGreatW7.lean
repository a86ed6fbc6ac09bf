/-
  A part of the proof: an evaluator for a small form of the code, its soundness, and contracts of functions over it.
-/
import Derived.Test.YtjanjcnncilddaaGreatW1
import Derived.Test.YtjanjcnncilddaaGreatW2
import Derived.Test.YtjanjcnncilddaaGreatW3
import Derived.Test.YtjanjcnncilddaaGreatW4
import Derived.Test.YtjanjcnncilddaaGreatW5
import Derived.Test.YtjanjcnncilddaaGreatW6

namespace Pe
open Go Gq
variable {T:Nat→Option Fn} {A:Oracle}
theorem l_polys9 {O:Oracle} {ls:List (List Int)} (h:∀l∈ls,l.length=64) (hl:ls.length<2000000):∀(k i:Nat),i+k=ls.length →
 dn O 0 (.loop Z29_L0) ⟨[(0,.d (.sl (.arr 64 .leaf) (ls.map arr8))),(1,.d (.sl (.arr 64 .leaf) (ls.map arr8))),(5,(.d (.int .i64 i)))],[]⟩ =
  some (.exit 0,⟨[(0,.d (.sl (.arr 64 .leaf) (ls.map arr8))),(1,.d (.sl (.arr 64 .leaf) (ls.map arr8))),(5,(.d (.int .i64 ls.length))),(14,(.d (.bool false)))],[]⟩)
 | 0,i,hi=>by
  obtain rfl:i=ls.length:=by omega
  have hL:(ls.map arr8).length=ls.length:=List.length_map ..
  refine dn_stop ?_
  generalize ls.map arr8=LD at *
  simp -implicitDefEqProofs [Z29_L0,dn_cond,hL]
 | k+1,i,hi=>by
  have hlt:i<ls.length:=by omega
  have hx:=h _ (List.getElem_mem hlt)
  have e1:D.beq (.arr 64 .leaf .int) (D.arr 64 .leaf (ints .u8 (ls[i]))) (D.arr 64 .leaf (ints .u8 (ls[i])))=some true:=by rw [beq_P hx hx,decide_eq_true rfl]
  have hL:(ls.map arr8).length=ls.length:=List.length_map ..
  have hx2:∀h:i<(ls.map arr8).length,(ls.map arr8)[i]'h=(D.arr 64 .leaf (ints .u8 (ls[i]))):=fun h=>by rw [List.getElem_map]
  have w4:IntKind.i64.wrap ((i:Int)+1)=((i+1:Nat):Int):=(w64 (x:=(i:Int)+1) (by omega)).trans (by omega)
  refine dn_round ?_ (l_polys9 h hl k (i+1) (by omega))
  generalize ls[i]=li at *
  generalize ls.map arr8=LD at *
  simp -implicitDefEqProofs [Z29_L0,dn_cond,hlt,hL,hx2,e1,w4]
def C_polys9 (O:Oracle):Prop:=∀ls:List (List Int),(∀l∈ls,l.length=64)→ls.length<2000000→ask O F29 [.sl (.arr 64 .leaf) (ls.map arr8),.sl (.arr 64 .leaf) (ls.map arr8)]=some (D.bool true)
theorem c_polys9 (hT:T F29=some Z29):C_polys9 (den T A):=by
 intro ls h hl
 have e:=l_polys9 (O:=den T A) h hl ls.length 0 (Nat.zero_add _)
 rw [show ((0:Nat):Int)=0 from rfl] at e
 refine ask_of hT rfl ?_
 generalize ls.map arr8=LD at *
 simp -implicitDefEqProofs [Z29,Z29_B,dn_cond,e]
open Classical in
theorem c_sIsDrinfeld (hT:T F39=some Z39) (hi:C_IsDr (den T A) F4c):C_IsDr (den T A) F39:=by
 intro n u v w bu gu bv gv bw gw
 have e:=hi n u v w bu gu bv gv bw gw
 refine ask_of hT rfl ?_
 generalize decide (IsDr n u v w)=t at *
 simp -implicitDefEqProofs [Z39,Z39_B,e]
noncomputable def jvP {p:Int} [IsP p] (m g d:Fp p):Fp p:=(pw g (p+1).toNat%m)*invm m d%m
open Classical in
noncomputable def jvD (n:Int) (u v w:List Int):D:=
 if h:IsDr n u v w then
  haveI:IsP n:=h.choose
  .tup [(D.arr 64 .leaf (ints .u8 (pad (row (jvP (polOf n u) (polOf n v) (polOf n w)))))),(D.int .i64 0)]
 else .tup [(D.arr 64 .leaf (ints .u8 (pad []))),(D.int .i64 1)]
theorem jvD_bad {n:Int} {u v w:List Int} (h:¬ IsDr n u v w):jvD n u v w=.tup [(D.arr 64 .leaf (ints .u8 (pad []))),(D.int .i64 1)]:=by unfold jvD; rw [dif_neg h]
theorem jvD_good {p:Int} [IsP p] {m g d:Fp p} (h:IsDr p (pad (row m)) (pad (row g)) (pad (row d))) (hm:m.len≤64) (hg:g.len≤64) (hd:d.len≤64):jvD p (pad (row m)) (pad (row g)) (pad (row d))=.tup [(D.arr 64 .leaf (ints .u8 (pad (row (jvP m g d))))),(D.int .i64 0)]:=by
 unfold jvD
 rw [dif_pos h,polOf_pad hm,polOf_pad hg,polOf_pad hd]
theorem jvD_form (n:Int) (u v w:List Int):∃(r:List Int) (k:Int),jvD n u v w=.tup [(D.arr 64 .leaf (ints .u8 r)),(D.int .i64 k)]∧r.length=64:=by
 unfold jvD
 split
 ·exact ⟨_,_,rfl,pad_length _⟩
 ·exact ⟨_,_,rfl,pad_length _⟩
def K_Invariant (O:Oracle) (F:Nat):Prop:=∀(n:Int) (u v w:List Int),Bytes u→u.length=64→Bytes v→v.length=64→Bytes w→w.length=64→ask O F [drD n u v w]=some (jvD n u v w)
theorem k_Invariant (hT:T Fe=some Ze) (hcd:C_drCode (den T A) Fr) (hfi:K_drField (den T A)) (hpw:K_power (den T A)) (hin:K_inverted (den T A)) (hro:K_rowOf (den T A)) (hpr:K_product (den T A)) (hto:C_told (den T A)):K_Invariant (den T A) Fe:=by
 classical
 intro n u v w bu gu bv gv bw gw
 have e1:=hcd n u v w [] bu gu bv gv bw gw (fun x hx=>by cases hx) (by simp)
 rw [show List.map arr8 []=[] from rfl,codeDr_nil] at e1
 by_cases h:IsDr n u v w
 ·rw [if_pos h] at e1
  have h':=h
  obtain ⟨ip,m,g,d,rfl,rfl,rfl,hm,hg,hd,hd0⟩:=h
  have hp:=IsP.pos (p:=n)
  have hp7:=IsP.le (p:=n)
  have h0:=hm.mon.2
  have h5:=hm.five
  rw [jvD_good h' (by omega) (by omega) (by omega)]
  have e2:=hfi n m (pad (row g)) (pad (row d)) (by omega)
  have w1:IntKind.i64.wrap (n+1)=n+1:=w64 (by omega)
  have e3:=hro n g (by omega)
  have e4:=hpw n g (n+1) m h0 (by omega) (by omega) (by omega) (by omega)
  have e5:=hro n d (by omega)
  have e6:=hin n m d h0 (by omega) (by omega)
  have l1:=Pol.len_mod (pw g (n+1).toNat) h0
  have l2:=invm_len h0 d
  have e7:=hpr n m (pw g (n+1).toNat%m) (invm m d) h0 (by omega) (by omega) (by omega)
  have l3:=Pol.len_mod ((pw g (n+1).toNat%m)*invm m d) h0
  have e8:=hto (row ((pw g (n+1).toNat%m)*invm m d%m)) (row_bytes _) (by rw [row_length]; omega)
  unfold toldD at e8
  rw [if_pos (by rw [row_length]; omega)] at e8
  refine ask_of hT rfl ?_
  unfold jvP
  generalize pad (row ((pw g (n+1).toNat%m)*invm m d%m))=P1 at *
  generalize row ((pw g (n+1).toNat%m)*invm m d%m)=R1 at *
  generalize row (pw g (n+1).toNat%m)=R2 at *
  generalize row (invm m d)=R3 at *
  generalize pad (row m)=Pm at *
  generalize pad (row g)=Pg at *
  generalize pad (row d)=Pd at *
  simp -implicitDefEqProofs [Ze,Ze_B,dn_cond,e1,e2,e3,e4,e5,e6,e7,e8,w1,List.replicate]
 ·rw [if_neg h] at e1
  rw [jvD_bad h]
  refine ask_of hT rfl ?_
  simp -implicitDefEqProofs [Ze,Ze_B,dn_cond,e1,List.replicate]
theorem k_sInvariant (hT:T F38=some Z38) (his:C_IsDr (den T A) F4c) (hpw:K_sPowMod (den T A)) (hin:K_sInv2 (den T A)) (hti:K_sTimes6 (den T A)):K_Invariant (den T A) F38:=by
 classical
 intro n u v w bu gu bv gv bw gw
 have e1:=his n u v w bu gu bv gv bw gw
 by_cases h:IsDr n u v w
 ·rw [decide_eq_true h] at e1
  have h':=h
  obtain ⟨ip,m,g,d,rfl,rfl,rfl,hm,hg,hd,hd0⟩:=h
  have hp:=IsP.pos (p:=n)
  have hp7:=IsP.le (p:=n)
  have h0:=hm.mon.2
  have h5:=hm.five
  rw [jvD_good h' (by omega) (by omega) (by omega)]
  have w1:IntKind.i64.wrap (n+1)=n+1:=w64 (by omega)
  have e4:=hpw n g (n+1) m h0 (by omega) (by omega) (by omega) (by omega)
  have e6:=hin n m d h0 (by omega) hd0 hd
  have l1:=Pol.len_mod (pw g (n+1).toNat) h0
  have l2:=invm_len h0 d
  have e7:=hti n m (pw g (n+1).toNat%m) (invm m d) (pad (row g)) (pad (row d)) h0 (by omega) (by omega) (by omega)
  refine ask_of hT rfl ?_
  unfold jvP
  generalize pad (row ((pw g (n+1).toNat%m)*invm m d%m))=P1 at *
  generalize pad (row (pw g (n+1).toNat%m))=R2 at *
  generalize pad (row (invm m d))=R3 at *
  generalize pad (row m)=Pm at *
  generalize pad (row g)=Pg at *
  generalize pad (row d)=Pd at *
  simp -implicitDefEqProofs [Z38,Z38_B,dn_cond,e1,e4,e6,e7,w1,List.replicate]
 ·rw [decide_eq_false h] at e1
  rw [jvD_bad h]
  refine ask_of hT rfl ?_
  simp -implicitDefEqProofs [Z38,Z38_B,dn_cond,e1,List.replicate]
abbrev drQ':Q:=.st [.leaf,.arr 64 .leaf,.arr 64 .leaf,.arr 64 .leaf] [.int,.arr 64 .leaf .int,.arr 64 .leaf .int,.arr 64 .leaf .int]
theorem beq_drs (n:Int) {u v w v' w':List Int} (hu:u.length=64) (hv:v.length=64) (hw:w.length=64) (hv':v'.length=64) (hw':w'.length=64):D.beq drQ' (drD n u v w) (drD n u v' w')=some (decide (v=v'∧w=w')):=by
 have e1:D.beq .int (D.int .i64 n) (D.int .i64 n)=some true:=by
  show (if IntKind.i64=IntKind.i64 then some (decide (n=n)) else none)=_
  rw [if_pos rfl,decide_eq_true rfl]
 have e2:D.beq (.arr 64 .leaf .int) (D.arr 64 .leaf (ints .u8 u)) (D.arr 64 .leaf (ints .u8 u))=some true:=by rw [beq_P hu hu,decide_eq_true rfl]
 show D.beqf [.int,.arr 64 .leaf .int,.arr 64 .leaf .int,.arr 64 .leaf .int] [(D.int .i64 n),(D.arr 64 .leaf (ints .u8 u)),(D.arr 64 .leaf (ints .u8 v)),(D.arr 64 .leaf (ints .u8 w))] [(D.int .i64 n),(D.arr 64 .leaf (ints .u8 u)),(D.arr 64 .leaf (ints .u8 v')),(D.arr 64 .leaf (ints .u8 w'))]=_
 rw [D.beqf,e1,Option.bind_some,if_pos rfl,D.beqf,e2,Option.bind_some,if_pos rfl,D.beqf,beq_P hv hv',Option.bind_some]
 by_cases h1:v=v'
 ·rw [decide_eq_true h1,if_pos rfl,D.beqf,beq_P hw hw',Option.bind_some]
  by_cases h2:w=w'
  ·rw [decide_eq_true h2,if_pos rfl,D.beqf,decide_eq_true ⟨h1,h2⟩]
  ·rw [decide_eq_false h2,if_neg (by simp),decide_eq_false (fun h=>h2 h.2)]
 ·rw [decide_eq_false h1,if_neg (by simp),decide_eq_false (fun h=>h1 h.1)]
def TwE {p:Int} [IsP p] (m g d:Fp p) (v' w':List Int) (k:Int):Prop:=pad (row (twc m (numP p k) g (p-1).toNat))=v'∧pad (row (twc m (numP p k) d (p*p-1).toNat))=w'
def IsoTo (n:Int) (u v w v' w':List Int):Prop:=∃(_:IsP n) (k:Nat),1≤k∧(k:Int)<n^((polOf n u:Fp n).len-1)∧TwE (polOf n u:Fp n) (polOf n v) (polOf n w) v' w' k
theorem isoTo_iff {p:Int} [IsP p] {m g d:Fp p} {v' w':List Int} (hm:m.len≤64) (hg:g.len≤64) (hd:d.len≤64):IsoTo p (pad (row m)) (pad (row g)) (pad (row d)) v' w'↔∃k:Nat,1≤k∧(k:Int)<p^(m.len-1)∧TwE m g d v' w' k:=by
 unfold IsoTo
 rw [polOf_pad hm,polOf_pad hg,polOf_pad hd]
 exact ⟨fun ⟨_,k,h⟩=>⟨k,h⟩,fun ⟨k,h⟩=>⟨_,k,h⟩⟩
open Classical in
noncomputable def arD (n:Int) (u v w:List Int) (n':Int) (u' v' w':List Int):D:=
 if codePr n u v w n' u' v' w'=0 then .tup [(D.bool (decide (IsoTo n u v w v' w'))),(D.int .i64 0)] else .tup [(D.bool false),(D.int .i64 (codePr n u v w n' u' v' w'))]
theorem arD_form (n:Int) (u v w:List Int) (n':Int) (u' v' w':List Int):∃(t:Bool) (k:Int),arD n u v w n' u' v' w'=.tup [(D.bool t),(D.int .i64 k)]:=by
 unfold arD
 split
 ·exact ⟨_,_,rfl⟩
 ·exact ⟨_,_,rfl⟩
def K_AreIso (O:Oracle) (F:Nat):Prop:=∀(n:Int) (u v w:List Int) (n':Int) (u' v' w':List Int),Bytes u→u.length=64→Bytes v→v.length=64→Bytes w→w.length=64→Bytes u'→u'.length=64→Bytes v'→v'.length=64→Bytes w'→w'.length=64→ask O F [drD n u v w,drD n' u' v' w']=some (arD n u v w n' u' v' w')
section
variable {p:Int} [IsP p]
theorem tw_facts {m g d:Fp p} {n:Nat} (hn:n≤4) {k:Nat} (h1:1≤k) (hk:(k:Int)<p^n):numP p k≠0∧(numP p k).len≤n:=by
 have hpl:=ppow_le (p:=p) (n:=n) (by omega)
 refine ⟨fun h=>?_,Pol.len_le (numP_lt (p:=p) ⟨by omega,by omega⟩ hk)⟩
 rw [←numP_zero (p:=p)] at h
 have:=numP_inj ⟨by omega,by omega⟩ ⟨by omega,by omega⟩ h
 omega
open Classical in
theorem l_iso {O:Oracle} (hdg:C_degree O) (hno:C_norm O) (hnu:K_numbered O) (htw:K_twist O) {m g d:Fp p} (hm:Fld m) (hg:g.len<m.len) (hd:d.len<m.len) {v' w':List Int} (gv:v'.length=64) (gw:w'.length=64):∀(r k:Nat),1≤k→(k:Int)+r=p^(m.len-1) →
 dn O 0 (.loop Z4_L0) ⟨[(2,.ptr 0 []),(3,.ptr 1 []),(7,.ptr 2 []),(8,(.d (.int .i64 k)))],[.box false (drD p (pad (row m)) (pad (row g)) (pad (row d))),.box false (drD p (pad (row m)) v' w'),.box false (fldD m)]⟩ =
  if ∃j:Nat,k≤j∧(j:Int)<p^(m.len-1)∧TwE m g d v' w' j then some (.ret,⟨[(4,(.d (.bool true))),(5,(.d (.int .i64 0)))],[.hole,.hole,.hole]⟩)
  else some (.exit 0,⟨[(2,.ptr 0 []),(3,.ptr 1 []),(7,.ptr 2 []),(8,(.d (.int .i64 (p^(m.len-1))))),(24,(.d (.bool false)))],[.box false (drD p (pad (row m)) (pad (row g)) (pad (row d))),.box false (drD p (pad (row m)) v' w'),.box false (fldD m)]⟩)
 | r,k,h1,hk=>by
  have h5:=hm.five
  have h2:=hm.two
  have hpl:=ppow_le (p:=p) (n:=m.len-1) (by omega)
  have e1:=hdg (row m) (by rw [row_length]; omega)
  rw [row_length,show ((m.len:Int)-1)=((m.len-1:Nat):Int) by omega] at e1
  have e2:=hno p (m.len-1) 1099511627776 (by omega) (by omega)
  rw [normL_eq _ 1 (by omega) (by omega),Int.one_mul] at e2
  match r with
  | 0=>
   rw [if_neg (fun ⟨j,a,b,_⟩=>by omega)]
   have hk':(k:Int)=p^(m.len-1):=by omega
   refine dn_stop ?_
   rw [hk']
   generalize p^(m.len-1)=N at *
   generalize ((m.len-1:Nat):Int)=L at *
   generalize pad (row m)=Pm at *
   simp -implicitDefEqProofs [Z4_L0,dn_cond,e1,e2]
  | r+1=>
   have hlt:(k:Int)<p^(m.len-1):=by omega
   obtain ⟨n0,nl⟩:=tw_facts (m:=m) (g:=g) (d:=d) (n:=m.len-1) (by omega) h1 hlt
   have e3:=hnu p k (by omega) (by omega)
   have e4:=htw p m g d (numP p k) hm hg hd n0 (by omega)
   have e5:=beq_drs p (u:=pad (row m)) (v:=pad (row (twc m (numP p k) g (p-1).toNat))) (w:=pad (row (twc m (numP p k) d (p*p-1).toNat))) (v':=v') (w':=w') (pad_length _) (pad_length _) (pad_length _) gv gw
   have w4:IntKind.i64.wrap ((k:Int)+1)=((k+1:Nat):Int):=(w64 (x:=(k:Int)+1) (by omega)).trans (by omega)
   by_cases hq:TwE m g d v' w' k
   ·rw [if_pos ⟨k,Nat.le_refl k,hlt,hq⟩]
    have hq':decide (pad (row (twc m (numP p k) g (p-1).toNat))=v'∧pad (row (twc m (numP p k) d (p*p-1).toNat))=w')=true:=decide_eq_true hq
    rw [hq'] at e5
    refine dn_back ?_
    generalize pad (row (twc m (numP p k) g (p-1).toNat))=P1 at *
    generalize pad (row (twc m (numP p k) d (p*p-1).toNat))=P2 at *
    generalize row (numP p k)=Rn at *
    generalize p^(m.len-1)=N at *
    generalize pad (row g)=Pg at *
    generalize pad (row d)=Pd at *
    generalize ((m.len-1:Nat):Int)=L at *
    generalize pad (row m)=Pm at *
    simp -implicitDefEqProofs [Z4_L0,dn_cond,e1,e2,e3,e4,e5,hlt]
   ·have hq':decide (pad (row (twc m (numP p k) g (p-1).toNat))=v'∧pad (row (twc m (numP p k) d (p*p-1).toNat))=w')=false:=decide_eq_false hq
    rw [hq'] at e5
    have ih:=l_iso hdg hno hnu htw hm hg hd gv gw r (k+1) (by omega) (by omega)
    have hsame:(∃j:Nat,k≤j∧(j:Int)<p^(m.len-1)∧TwE m g d v' w' j)↔∃j:Nat,k+1≤j∧(j:Int)<p^(m.len-1)∧TwE m g d v' w' j:=by
     constructor
     ·rintro ⟨j,a,b,c⟩
      rcases Nat.eq_or_lt_of_le a with rfl | a
      ·exact absurd c hq
      ·exact ⟨j,a,b,c⟩
     ·rintro ⟨j,a,b,c⟩
      exact ⟨j,by omega,b,c⟩
    rw [show (∃j:Nat,k≤j∧(j:Int)<p^(m.len-1)∧TwE m g d v' w' j)=(∃j:Nat,k+1≤j∧(j:Int)<p^(m.len-1)∧TwE m g d v' w' j) from propext hsame]
    refine dn_round ?_ ih
    generalize pad (row (twc m (numP p k) g (p-1).toNat))=P1 at *
    generalize pad (row (twc m (numP p k) d (p*p-1).toNat))=P2 at *
    generalize row (numP p k)=Rn at *
    generalize p^(m.len-1)=N at *
    generalize pad (row g)=Pg at *
    generalize pad (row d)=Pd at *
    generalize ((m.len-1:Nat):Int)=L at *
    generalize pad (row m)=Pm at *
    simp -implicitDefEqProofs [Z4_L0,dn_cond,e1,e2,e3,e4,e5,hlt,w4]
end
theorem codePr_01 (n:Int) (u v w:List Int) (n':Int) (u' v' w':List Int):codePr n u v w n' u' v' w'=0↔IsDr n u v w∧IsDr n' u' v' w'∧n=n'∧u=u':=by
 classical
 unfold codePr
 constructor
 ·intro h
  split at h
  ·rename_i h1
   split at h
   ·rename_i h2
    exact ⟨h1.1,h1.2,h2⟩
   ·cases h
  ·cases h
 ·rintro ⟨a,b,c⟩
  rw [if_pos ⟨a,b⟩,if_pos c]
open Classical in
theorem k_AreIso (hT:T F4=some Z4) (hpr:C_pair (den T A) F17) (hfi:K_drField (den T A)) (hdg:C_degree (den T A)) (hno:C_norm (den T A)) (hnu:K_numbered (den T A)) (htw:K_twist (den T A)):K_AreIso (den T A) F4:=by
 intro n u v w n' u' v' w' bu gu bv gv bw gw bu' gu' bv' gv' bw' gw'
 have e1:=hpr n u v w n' u' v' w' bu gu bv gv bw gw bu' gu' bv' gv' bw' gw'
 unfold arD
 by_cases h:codePr n u v w n' u' v' w'=0
 ·rw [if_pos h]
  rw [h] at e1
  obtain ⟨h1,-,rfl,rfl⟩:=(codePr_01 ..).1 h
  obtain ⟨ip,m,g,d,rfl,rfl,rfl,hm,hg,hd,hd0⟩:=h1
  have h5:=hm.five
  have h2:=hm.two
  have hp:=IsP.ge (p:=n)
  have hp1:1≤n^(m.len-1):=ppow_pos _
  have e2:=hfi n m (pad (row g)) (pad (row d)) (by omega)
  have st:=l_iso (O:=den T A) hdg hno hnu htw hm hg hd gv' gw' ((n^(m.len-1)).toNat-1) 1 (Nat.le_refl 1) (by omega)
  rw [show ((1:Nat):Int)=1 from rfl] at st
  have hi:=isoTo_iff (p:=n) (m:=m) (g:=g) (d:=d) (v':=v') (w':=w') (by omega) (by omega) (by omega)
  refine ask_of hT rfl ?_
  by_cases hq:IsoTo n (pad (row m)) (pad (row g)) (pad (row d)) v' w'
  ·rw [if_pos (hi.1 hq)] at st
   rw [decide_eq_true hq]
   generalize pad (row m)=Pm at *
   generalize pad (row g)=Pg at *
   generalize pad (row d)=Pd at *
   simp -implicitDefEqProofs [Z4,Z4_B,dn_cond,e1,e2,st,List.replicate]
  ·rw [if_neg (fun g=>hq (hi.2 g))] at st
   rw [decide_eq_false hq]
   generalize pad (row m)=Pm at *
   generalize pad (row g)=Pg at *
   generalize pad (row d)=Pd at *
   generalize n^(m.len-1)=N at *
   simp -implicitDefEqProofs [Z4,Z4_B,dn_cond,e1,e2,st,List.replicate]
 ·rw [if_neg h]
  refine ask_of hT rfl ?_
  generalize codePr n u v w n' u' v' w'=k at *
  simp -implicitDefEqProofs [Z4,Z4_B,dn_cond,e1,h,List.replicate]
section
variable {p:Int} [IsP p]
open Classical in
theorem l_sIso {O:Oracle} (hdg:K_sDeg O) (hno:K_sCount O) (hnu:K_sOf O) (htw:K_sTwist O) {m g d:Fp p} (hm:Fld m) (hg:g.len<m.len) (hd:d.len<m.len) {v' w':List Int} (gv:v'.length=64) (gw:w'.length=64):∀(r k:Nat),1≤k→(k:Int)+r=p^(m.len-1) →
 dn O 0 (.loop Z2z_L0) ⟨[(2,.ptr 0 []),(3,.ptr 1 []),(7,(.d (.int .i64 k)))],[.box false (drD p (pad (row m)) (pad (row g)) (pad (row d))),.box false (drD p (pad (row m)) v' w')]⟩ =
  if ∃j:Nat,k≤j∧(j:Int)<p^(m.len-1)∧TwE m g d v' w' j then some (.ret,⟨[(4,(.d (.bool true))),(5,(.d (.int .i64 0)))],[.hole,.hole]⟩)
  else some (.exit 0,⟨[(2,.ptr 0 []),(3,.ptr 1 []),(7,(.d (.int .i64 (p^(m.len-1))))),(21,(.d (.bool false)))],[.box false (drD p (pad (row m)) (pad (row g)) (pad (row d))),.box false (drD p (pad (row m)) v' w')]⟩)
 | r,k,h1,hk=>by
  have h5:=hm.five
  have h2:=hm.two
  have hpl:=ppow_le (p:=p) (n:=m.len-1) (by omega)
  have e1:=hdg p m (by omega)
  rw [show ((m.len:Int)-1)=((m.len-1:Nat):Int) by omega] at e1
  have e2:=k_sCount' hno p (m.len-1) (by omega)
  match r with
  | 0=>
   rw [if_neg (fun ⟨j,a,b,_⟩=>by omega)]
   have hk':(k:Int)=p^(m.len-1):=by omega
   refine dn_stop ?_
   rw [hk']
   generalize p^(m.len-1)=N at *
   generalize ((m.len-1:Nat):Int)=L at *
   generalize pad (row m)=Pm at *
   simp -implicitDefEqProofs [Z2z_L0,dn_cond,e1,e2]
  | r+1=>
   have hlt:(k:Int)<p^(m.len-1):=by omega
   obtain ⟨n0,nl⟩:=tw_facts (m:=m) (g:=g) (d:=d) (n:=m.len-1) (by omega) h1 hlt
   have e3:=hnu p k (by omega) (by omega)
   have e4:=htw p m g d (numP p k) hm hg hd n0 (by omega)
   have e5:=beq_drs p (u:=pad (row m)) (v:=pad (row (twc m (numP p k) g (p-1).toNat))) (w:=pad (row (twc m (numP p k) d (p*p-1).toNat))) (v':=v') (w':=w') (pad_length _) (pad_length _) (pad_length _) gv gw
   have w4:IntKind.i64.wrap ((k:Int)+1)=((k+1:Nat):Int):=(w64 (x:=(k:Int)+1) (by omega)).trans (by omega)
   by_cases hq:TwE m g d v' w' k
   ·rw [if_pos ⟨k,Nat.le_refl k,hlt,hq⟩]
    have hq':decide (pad (row (twc m (numP p k) g (p-1).toNat))=v'∧pad (row (twc m (numP p k) d (p*p-1).toNat))=w')=true:=decide_eq_true hq
    rw [hq'] at e5
    refine dn_back ?_
    generalize pad (row (twc m (numP p k) g (p-1).toNat))=P1 at *
    generalize pad (row (twc m (numP p k) d (p*p-1).toNat))=P2 at *
    generalize pad (row (numP p k))=Rn at *
    generalize p^(m.len-1)=N at *
    generalize pad (row g)=Pg at *
    generalize pad (row d)=Pd at *
    generalize ((m.len-1:Nat):Int)=L at *
    generalize pad (row m)=Pm at *
    simp -implicitDefEqProofs [Z2z_L0,dn_cond,e1,e2,e3,e4,e5,hlt]
   ·have hq':decide (pad (row (twc m (numP p k) g (p-1).toNat))=v'∧pad (row (twc m (numP p k) d (p*p-1).toNat))=w')=false:=decide_eq_false hq
    rw [hq'] at e5
    have ih:=l_sIso hdg hno hnu htw hm hg hd gv gw r (k+1) (by omega) (by omega)
    have hsame:(∃j:Nat,k≤j∧(j:Int)<p^(m.len-1)∧TwE m g d v' w' j)↔∃j:Nat,k+1≤j∧(j:Int)<p^(m.len-1)∧TwE m g d v' w' j:=by
     constructor
     ·rintro ⟨j,a,b,c⟩
      rcases Nat.eq_or_lt_of_le a with rfl | a
      ·exact absurd c hq
      ·exact ⟨j,a,b,c⟩
     ·rintro ⟨j,a,b,c⟩
      exact ⟨j,by omega,b,c⟩
    rw [show (∃j:Nat,k≤j∧(j:Int)<p^(m.len-1)∧TwE m g d v' w' j)=(∃j:Nat,k+1≤j∧(j:Int)<p^(m.len-1)∧TwE m g d v' w' j) from propext hsame]
    refine dn_round ?_ ih
    generalize pad (row (twc m (numP p k) g (p-1).toNat))=P1 at *
    generalize pad (row (twc m (numP p k) d (p*p-1).toNat))=P2 at *
    generalize pad (row (numP p k))=Rn at *
    generalize p^(m.len-1)=N at *
    generalize pad (row g)=Pg at *
    generalize pad (row d)=Pd at *
    generalize ((m.len-1:Nat):Int)=L at *
    generalize pad (row m)=Pm at *
    simp -implicitDefEqProofs [Z2z_L0,dn_cond,e1,e2,e3,e4,e5,hlt,w4]
end
open Classical in
theorem k_sAreIso (hT:T F2z=some Z2z) (hpr:C_pair (den T A) F47) (hdg:K_sDeg (den T A)) (hno:K_sCount (den T A)) (hnu:K_sOf (den T A)) (htw:K_sTwist (den T A)):K_AreIso (den T A) F2z:=by
 intro n u v w n' u' v' w' bu gu bv gv bw gw bu' gu' bv' gv' bw' gw'
 have e1:=hpr n u v w n' u' v' w' bu gu bv gv bw gw bu' gu' bv' gv' bw' gw'
 unfold arD
 by_cases h:codePr n u v w n' u' v' w'=0
 ·rw [if_pos h]
  rw [h] at e1
  obtain ⟨h1,-,rfl,rfl⟩:=(codePr_01 ..).1 h
  obtain ⟨ip,m,g,d,rfl,rfl,rfl,hm,hg,hd,hd0⟩:=h1
  have h5:=hm.five
  have h2:=hm.two
  have hp:=IsP.ge (p:=n)
  have hp1:1≤n^(m.len-1):=ppow_pos _
  have st:=l_sIso (O:=den T A) hdg hno hnu htw hm hg hd gv' gw' ((n^(m.len-1)).toNat-1) 1 (Nat.le_refl 1) (by omega)
  rw [show ((1:Nat):Int)=1 from rfl] at st
  have hi:=isoTo_iff (p:=n) (m:=m) (g:=g) (d:=d) (v':=v') (w':=w') (by omega) (by omega) (by omega)
  refine ask_of hT rfl ?_
  by_cases hq:IsoTo n (pad (row m)) (pad (row g)) (pad (row d)) v' w'
  ·rw [if_pos (hi.1 hq)] at st
   rw [decide_eq_true hq]
   generalize pad (row m)=Pm at *
   generalize pad (row g)=Pg at *
   generalize pad (row d)=Pd at *
   simp -implicitDefEqProofs [Z2z,Z2z_B,dn_cond,e1,st,List.replicate]
  ·rw [if_neg (fun g=>hq (hi.2 g))] at st
   rw [decide_eq_false hq]
   generalize pad (row m)=Pm at *
   generalize pad (row g)=Pg at *
   generalize pad (row d)=Pd at *
   generalize n^(m.len-1)=N at *
   simp -implicitDefEqProofs [Z2z,Z2z_B,dn_cond,e1,st,List.replicate]
 ·rw [if_neg h]
  refine ask_of hT rfl ?_
  generalize codePr n u v w n' u' v' w'=k at *
  simp -implicitDefEqProofs [Z2z,Z2z_B,dn_cond,e1,h,List.replicate]
end Pe


namespace Pe
open Go Gq
variable {T:Nat→Option Fn} {A:Oracle}
end Pe

namespace Pe
open Go Gq
variable {T:Nat→Option Fn} {A:Oracle}
def cutC:Nat→Cd→Cd→Cd
 | 0,_,t=>t
 | n+1,.seq a b,t=>.seq a (cutC n b t)
 | _+1,c,_=>c
def dropC:Nat→Cd→Cd
 | 0,c=>c
 | n+1,.seq _ b=>dropC n b
 | _+1,c=>c
theorem cutC_0 (c t:Cd):cutC 0 c t=t:=rfl
theorem cutC_s (n:Nat) (a b t:Cd):cutC (n+1) (.seq a b) t=.seq a (cutC n b t):=rfl
end Pe

namespace Pe
open Go Gq
variable {T:Nat→Option Fn} {A:Oracle}
theorem l_ii0 {O:Oracle} {x0 x1 dm:D}:∀(r:Nat) (k:Int) (Q:List (List Int)) (cp:Option Nat),k.toNat=r→k≤100→Q.length+r≤1000→∃(k':Int) (cp':Option Nat),
 dn O 0 (.loop Z34_L0) ⟨[(2,.ptr 0 []),(3,.ptr 1 []),(6,.ptr 3 []),(9,.sl 5 [] 0 Q.length cp),(10,(.d (.int .i64 k)))],[.box false x0,.box false x1,.hole,.box false dm,.hole,.sl false (.arr 64 .leaf) (Q.map arr8),.hole,.hole,.hole,.hole,.hole,.hole,.hole,.hole]⟩ =
  some (.exit 1,⟨[(2,.ptr 0 []),(3,.ptr 1 []),(6,.ptr 3 []),(9,.sl 5 [] 0 (Q++List.replicate r (pad [])).length cp'),(10,(.d (.int .i64 k'))),(31,(.d (.bool false)))],[.box false x0,.box false x1,.hole,.box false dm,.hole,.sl false (.arr 64 .leaf) ((Q++List.replicate r (pad [])).map arr8),.hole,.hole,.hole,.hole,.hole,.hole,.hole,.hole]⟩)
 | 0,k,Q,cp,hk,h100,hl=>by
  have hk0:¬ 0<k:=by omega
  refine ⟨k,cp,dn_stop ?_⟩
  rw [show Q++List.replicate 0 (pad [])=Q from List.append_nil Q]
  generalize Q.map arr8=QD at *
  simp -implicitDefEqProofs [Z34_L0,dn_cond,hk0]
 | r+1,k,Q,cp,hk,h100,hl=>by
  have hk0:0<k:=by omega
  have w4:IntKind.i64.wrap (k-1)=k-1:=w64 (by omega)
  have hQD:(Q.map arr8).length=Q.length:=List.length_map ..
  have htq:(Q.map arr8).take Q.length=Q.map arr8:=List.take_of_length_le (by omega)
  have h200:(Q.length+1)*64≤1099511627776:=by omega
  obtain ⟨k',cp',ih⟩:=l_ii0 (O:=O) (x0:=x0) (x1:=x1) (dm:=dm) r (k-1) (Q++[pad []]) none (by omega) (by omega) (by rw [List.length_append,List.length_singleton]; omega)
  rw [List.append_assoc,show [pad []]++List.replicate r (pad [])=List.replicate (r+1) (pad []) from rfl] at ih
  refine ⟨k',cp',dn_round ?_ ih⟩
  rw [List.length_append,List.length_singleton,show (Q++[pad []]).map arr8=Q.map arr8++[(D.arr 64 .leaf (ints .u8 (pad [])))] by rw [List.map_append]; rfl]
  generalize Q.map arr8=QD at *
  generalize Q.length=ql at *
  simp -implicitDefEqProofs [Z34_L0,dn_cond,hk0,hQD,htq,h200,w4]
theorem l_ii1 {O:Oracle} (hp:H_pick O) (hd:H_draw O) {p:Int} [IsP p] {x0 x1 dm dn':D}:∀(r:Nat) (b:Blk) (Q:List (List Int)) (cp:Option Nat),Src b→Arrs Q→r≤100→Q.length+r≤1000→∃(b':Blk) (Q':List (List Int)) (cp':Option Nat),Src b'∧Arrs Q'∧Q'.length≤1000 ∧
 dn O 0 (.loop Z34_L1) ⟨[(2,.ptr 0 []),(3,.ptr 1 []),(5,.ptr 2 []),(6,.ptr 3 []),(7,.ptr 4 []),(8,(.d (.int .i64 p))),(9,.sl 5 [] 0 Q.length cp),(11,(.d (.int .i64 ((r:Int)-1))))],[.box false x0,.box false x1,b,.box false dm,.box false dn',.sl false (.arr 64 .leaf) (Q.map arr8),.hole,.hole,.hole,.hole,.hole,.hole,.hole,.hole]⟩ =
  some (.exit 3,⟨[(2,.ptr 0 []),(3,.ptr 1 []),(5,.ptr 2 []),(6,.ptr 3 []),(7,.ptr 4 []),(8,(.d (.int .i64 p))),(9,.sl 5 [] 0 Q'.length cp'),(11,(.d (.int .i64 (-1)))),(73,(.d (.bool false)))],[.box false x0,.box false x1,b',.box false dm,.box false dn',.sl false (.arr 64 .leaf) (Q'.map arr8),.hole,.hole,.hole,.hole,.hole,.hole,.hole,.hole]⟩)
 | 0,b,Q,cp,hs,hQ,h100,hl=>by
  refine ⟨b,Q,cp,hs,hQ,by omega,dn_stop ?_⟩
  obtain ⟨_,_,_,rfl,_⟩:=hs
  generalize Q.map arr8=QD at *
  simp -implicitDefEqProofs [Z34_L1,dn_cond]
 | r+1,b,Q,cp,hs,hQ,h100,hl=>by
  rw [show ((r+1:Nat):Int)-1=(r:Int) by omega]
  have hk0:(0:Int)≤r:=by omega
  have w4:IntKind.i64.wrap ((r:Int)-1)=(r:Int)-1:=w64 (by omega)
  obtain ⟨x,b2,e1,hs2,hx⟩:=hp b [0,0,1,2] 4 (some 4) hs rfl (by omega) (by omega)
  rw [show ints .i64 [0,0,1,2]=[.int .i64 0,.int .i64 0,.int .i64 1,.int .i64 2] from rfl] at e1
  obtain ⟨n,rfl⟩:∃n:Nat,x=n:=⟨x.toNat,by simp at hx; omega⟩
  obtain ⟨a,b3,e2,hs3,-⟩:=hd p b2 n hs2 (by simp at hx; omega)
  have hQD:(Q.map arr8).length=Q.length:=List.length_map ..
  have htq:(Q.map arr8).take Q.length=Q.map arr8:=List.take_of_length_le (by omega)
  have h200:(Q.length+1)*64≤1099511627776:=by omega
  obtain ⟨b',Q',cp',g1,g2,g3,ih⟩:=l_ii1 hp hd (p:=p) (x0:=x0) (x1:=x1) (dm:=dm) (dn':=dn') r b3 (Q++[pad (row a)]) none hs3 (fun l hl=>by
   rcases List.mem_append.1 hl with h | h
   ·exact hQ l h
   ·rw [List.mem_singleton.1 h]; exact arr_row a) (by omega) (by rw [List.length_append,List.length_singleton]; omega)
  refine ⟨b',Q',cp',g1,g2,g3,dn_round ?_ ih⟩
  rw [List.length_append,List.length_singleton,show (Q++[pad (row a)]).map arr8=Q.map arr8++[(D.arr 64 .leaf (ints .u8 (pad (row a))))] by rw [List.map_append]; rfl]
  obtain ⟨_,_,_,rfl,_⟩:=hs
  obtain ⟨_,_,_,rfl,_⟩:=hs2
  obtain ⟨_,_,_,rfl,_⟩:=hs3
  generalize pad (row a)=Pa at *
  generalize Q.map arr8=QD at *
  generalize Q.length=ql at *
  simp -implicitDefEqProofs [Z34_L1,dn_cond,hk0,e1,e2,hQD,htq,h200,w4,List.replicate,List.idxOf,List.findIdx,List.findIdx.go]
abbrev iiS (p:Int) (b:Blk) (dm dk:D):St:=⟨[(2,.ptr 0 []),(3,.ptr 1 []),(5,.ptr 2 []),(6,.ptr 3 []),(7,.ptr 4 []),(8,(.d (.int .i64 p))),(9,.sl 5 [] 0 0 (some 0))],[.box false (drD 0 (pad []) (pad []) (pad [])),.box false (drD 0 (pad []) (pad []) (pad [])),b,.box false dm,.box false dk,.sl false (.arr 64 .leaf) [],.hole,.hole,.hole,.hole,.hole,.hole,.hole,.hole]⟩
theorem ii_B:Z34_B=cutC 5 Z34_B (dropC 5 Z34_B):=by
 rw [Z34_B]; rfl
theorem ii_top {O:Oracle} (t:Cd) {code u v w u' v' w':List Int} {p q pf:Int} {b0 b1:Blk} (hs0:Src b0) (hs1:Src b1)
 (e0:O F3j [.d (.sl .leaf (ints .u8 code))] []=some (.ptr 0 [],[],[b0]))
 (e1:O F4j [.ptr 0 []] [b0]=some (.tup [.d (drD p u v w),.d (drD q u' v' w')],[b1],[])) (e2:ask O F41 [(D.int .i64 p)]=some (D.int .i64 pf)) :
 dn O 0 (cutC 5 Z34_B t) ⟨[(0,.d (.sl .leaf (ints .u8 code)))],[.hole,.hole,.hole,.hole,.hole,.hole,.hole,.hole,.hole,.hole,.hole,.hole,.hole,.hole]⟩=dn O 0 t (iiS pf b1 (drD p u v w) (drD q u' v' w')):=by
 obtain ⟨_,_,_,rfl,_⟩:=hs0
 obtain ⟨_,_,_,rfl,_⟩:=hs1
 simp -implicitDefEqProofs [Z34_B,cutC_0,cutC_s,e0,e1,e2,List.idxOf,List.findIdx,List.findIdx.go]
theorem ii_case0 {O:Oracle} {pf:Int} {b1 b2:Blk} {dk:D} {p L:Int} {u v w one:List Int} (hs1:Src b1) (hs2:Src b2)
 (e3:O F3s [.ptr 0 [],(.d (.int .i64 4))] [b1]=some ((.d (.int .i64 0)),[b2],[])) (e4:ask O F3g [(D.arr 64 .leaf (ints .u8 u))]=some (D.int .i64 L)) (e5:ask O F3u []=some (D.arr 64 .leaf (ints .u8 one))) (hL:L≤100):∃(n:Nat) (cp:Option Nat),
 dn O 0 (dropC 5 Z34_B) (iiS pf b1 (drD p u v w) dk)=some (.ret,⟨[(2,.ptr 0 []),(3,.ptr 1 []),(4,.sl 5 [] 0 (n+1) cp)],[.box false (drD p u v w),.box false (drD p u v w),.hole,.hole,.hole,.sl false (.arr 64 .leaf) ((List.replicate n (pad [])++[one]).map arr8),.hole,.hole,.hole,.hole,.hole,.hole,.hole,.hole]⟩)∧n≤100:=by
 obtain ⟨k',cp',st⟩:=l_ii0 (O:=O) (x0:=drD 0 (pad []) (pad []) (pad [])) (x1:=drD 0 (pad []) (pad []) (pad [])) (dm:=drD p u v w) L.toNat L [] (some 0) rfl hL (by simp; omega)
 have hQD:((List.replicate L.toNat (pad [])).map arr8).length=L.toNat:=by rw [List.length_map,List.length_replicate]
 have htq:((List.replicate L.toNat (pad [])).map arr8).take L.toNat=(List.replicate L.toNat (pad [])).map arr8:=List.take_of_length_le (by omega)
 have h200:(L.toNat+1)*64≤1099511627776:=by omega
 rw [List.nil_append,List.length_replicate,show ([]:List (List Int)).length=0 from rfl,show ([]:List (List Int)).map arr8=[] from rfl] at st
 refine ⟨L.toNat,none,?_,by omega⟩
 rw [show (List.replicate L.toNat (pad [])++[one]).map arr8=(List.replicate L.toNat (pad [])).map arr8++[(D.arr 64 .leaf (ints .u8 one))] by rw [List.map_append]; rfl]
 obtain ⟨_,_,_,rfl,_⟩:=hs1
 obtain ⟨_,_,_,rfl,_⟩:=hs2
 rw [Z34_B]
 generalize (List.replicate L.toNat (pad [])).map arr8=QD at *
 generalize L.toNat=n at *
 simp -implicitDefEqProofs [dropC,dn_cond,e3,e4,e5,st,hQD,htq,h200,List.replicate,List.idxOf,List.findIdx,List.findIdx.go]
theorem ii_case1 {O:Oracle} {p y:Int} {b1 b2 b3:Blk} {dk:D} {u v w a:List Int} {LD:List D} (hs1:Src b1) (hs2:Src b2) (hs3:Src b3)
 (e3:O F3s [.ptr 0 [],(.d (.int .i64 4))] [b1]=some ((.d (.int .i64 1)),[b2],[])) (e4:ask O F4c [drD p u v w]=some (D.bool true))
 (e5:O F3s [.ptr 0 [],(.d (.int .i64 p))] [b2]=some ((.d (.int .i64 y)),[b3],[])) (w1:IntKind.u8.wrap y=y) (ha:((pad []).set 0 y).set 1 1=a)
 (e6:ask O F45 [drD p u v w,(D.arr 64 .leaf (ints .u8 a))]=some (.sl (.arr 64 .leaf) LD)) :
 dn O 0 (dropC 5 Z34_B) (iiS p b1 (drD p u v w) dk)=some (.ret,⟨[(2,.ptr 0 []),(3,.ptr 1 []),(4,.d (.sl (.arr 64 .leaf) LD))],[.box false (drD p u v w),.box false (drD p u v w),.hole,.hole,.hole,.hole,.hole,.hole,.hole,.hole,.hole,.hole,.hole,.hole]⟩):=by
 have q0:(pad [])[0]? = some 0:=rfl
 have q1:(pad [])[1]? = some 0:=rfl
 obtain ⟨_,_,_,rfl,_⟩:=hs1
 obtain ⟨_,_,_,rfl,_⟩:=hs2
 obtain ⟨_,_,_,rfl,_⟩:=hs3
 rw [Z34_B]
 simp -implicitDefEqProofs [dropC,dn_cond,e3,e4,e5,e6,w1,ha,q0,q1,List.idxOf,List.findIdx,List.findIdx.go]
theorem ii_case2 {O:Oracle} {pf:Int} {b1 b2 b3:Blk} {dm dk:D} {a:List Int} (hs1:Src b1) (hs2:Src b2) (hs3:Src b3)
 (e3:O F3s [.ptr 0 [],(.d (.int .i64 4))] [b1]=some ((.d (.int .i64 2)),[b2],[]))
 (e5:O F3i [.ptr 0 [],(.d (.int .i64 pf)),(.d (.int .i64 0))] [b2]=some (.d (D.arr 64 .leaf (ints .u8 a)),[b3],[])) {p q:Int} {u v w u' v' w':List Int} (h1:dm=drD p u v w) (h2:dk=drD q u' v' w') :
 dn O 0 (dropC 5 Z34_B) (iiS pf b1 dm dk)=some (.ret,⟨[(2,.ptr 0 []),(3,.ptr 1 []),(4,.sl 10 [] 0 1 (some 1))],[.box false dm,.box false dk,.hole,.hole,.hole,.hole,.hole,.hole,.hole,.hole,.sl false (.arr 64 .leaf) [(D.arr 64 .leaf (ints .u8 a))],.hole,.hole,.hole]⟩):=by
 subst h1 h2
 obtain ⟨_,_,_,rfl,_⟩:=hs1
 obtain ⟨_,_,_,rfl,_⟩:=hs2
 obtain ⟨_,_,_,rfl,_⟩:=hs3
 rw [Z34_B]
 simp -implicitDefEqProofs [dropC,dn_cond,e3,e5,List.replicate,List.idxOf,List.findIdx,List.findIdx.go]
theorem ii_case3 {O:Oracle} (hp:H_pick O) (hd:H_draw O) {pf:Int} [IsP pf] {b1 b2 b3 b4:Blk} {p q x y z:Int} {u v w u' v' w':List Int} {isd:Bool} (hs1:Src b1) (hs2:Src b2) (hs3:Src b3) (hs4:Src b4)
 (e3:O F3s [.ptr 0 [],(.d (.int .i64 4))] [b1]=some ((.d (.int .i64 x)),[b2],[])) (hx:x=1∧isd=false∨(x≠0∧x≠1∧x≠2)) (e4:ask O F4c [drD p u v w]=some (D.bool isd))
 (e5:O F3s [.ptr 0 [],(.d (.int .i64 4))] [b2]=some ((.d (.int .i64 y)),[b3],[])) (e6:O F3s [.ptr 0 [],(.d (.int .i64 24))] [b3]=some ((.d (.int .i64 z)),[b4],[])) (y0:0≤y) (y1:y<4) (z0:0≤z) (z1:z<24):∃(Q:List (List Int)) (cp:Option Nat),Arrs Q∧Q.length≤1000 ∧
 dn O 0 (dropC 5 Z34_B) (iiS pf b1 (drD p u v w) (drD q u' v' w'))=some (.ret,⟨[(2,.ptr 0 []),(3,.ptr 1 []),(4,.sl 5 [] 0 Q.length cp)],[.box false (drD p u v w),.box false (drD q u' v' w'),.hole,.hole,.hole,.sl false (.arr 64 .leaf) (Q.map arr8),.hole,.hole,.hole,.hole,.hole,.hole,.hole,.hole]⟩):=by
 have t1:z.tdiv 23=z/23:=Int.tdiv_eq_ediv_of_nonneg z0
 obtain ⟨r,hr⟩:∃r:Nat,y+z/23*5=(r:Int)-1:=⟨(y+z/23*5+1).toNat,by omega⟩
 obtain ⟨b',Q,cp,hs',hQ,hQl,st⟩:=l_ii1 hp hd (p:=pf) (x0:=drD 0 (pad []) (pad []) (pad [])) (x1:=drD 0 (pad []) (pad []) (pad [])) (dm:=drD p u v w) (dn':=drD q u' v' w') r b4 [] (some 0) hs4 (fun l hl=>by cases hl) (by omega) (by simp; omega)
 rw [←hr,show ([]:List (List Int)).length=0 from rfl,show ([]:List (List Int)).map arr8=[] from rfl] at st
 have w1:IntKind.i64.wrap (z/23)=z/23:=w64 (by omega)
 have w2:IntKind.i64.wrap (z/23*5)=z/23*5:=w64 (by omega)
 have w3:IntKind.i64.wrap (y+z/23*5)=y+z/23*5:=w64 (by omega)
 refine ⟨Q,cp,hQ,hQl,?_⟩
 obtain ⟨_,_,_,rfl,_⟩:=hs1
 obtain ⟨_,_,_,rfl,_⟩:=hs2
 obtain ⟨_,_,_,rfl,_⟩:=hs3
 obtain ⟨_,_,_,rfl,_⟩:=hs4
 obtain ⟨_,_,_,rfl,_⟩:=hs'
 rw [Z34_B]
 generalize Q.map arr8=QD at *
 generalize Q.length=ql at *
 rcases hx with ⟨rfl,rfl⟩ | ⟨n0,n1,n2⟩
 ·simp -implicitDefEqProofs [dropC,dn_cond,e3,e4,e5,e6,t1,w1,w2,w3,st,List.idxOf,List.findIdx,List.findIdx.go]
 ·simp -implicitDefEqProofs [dropC,dn_cond,e3,e5,e6,t1,w1,w2,w3,n0,n1,n2,st,List.idxOf,List.findIdx,List.findIdx.go]
theorem ii_out (hT:T F34=some Z34) {code:List Int} {x0 x1:D} {p q:Int} {u v w u' v' w':List Int} {Q:List (List Int)} {cp:Option Nat} (h0:x0=drD p u v w) (h1:x1=drD q u' v' w')
 (st:dn (den T A) 0 Z34_B ⟨[(0,.d (.sl .leaf (ints .u8 code)))],[.hole,.hole,.hole,.hole,.hole,.hole,.hole,.hole,.hole,.hole,.hole,.hole,.hole,.hole]⟩=some (.ret,⟨[(2,.ptr 0 []),(3,.ptr 1 []),(4,.sl 5 [] 0 Q.length cp)],[.box false x0,.box false x1,.hole,.hole,.hole,.sl false (.arr 64 .leaf) (Q.map arr8),.hole,.hole,.hole,.hole,.hole,.hole,.hole,.hole]⟩)) :
 ask (den T A) F34 [(.sl .leaf (ints .u8 code))]=some (.tup [x0,x1,.sl (.arr 64 .leaf) (Q.map arr8)]):=by
 subst h0 h1
 have hQD:(Q.map arr8).length=Q.length:=List.length_map ..
 have htq:(Q.map arr8).take Q.length=Q.map arr8:=List.take_of_length_le (by omega)
 refine ask_of hT rfl ?_
 generalize Q.map arr8=QD at *
 generalize Q.length=ql at *
 simp -implicitDefEqProofs [Z34,st,hQD,htq,List.replicate]
def H_DrawIsIsogeny (O:Oracle):Prop:=∀code:List Int,Bytes code→code.length≤4096→∃(p:Int) (u v w:List Int) (q:Int) (u' v' w':List Int) (ls:List (List Int)),ask O F34 [(.sl .leaf (ints .u8 code))]=some (.tup [drD p u v w,drD q u' v' w',.sl (.arr 64 .leaf) (ls.map arr8)])∧Arr u∧Arr v∧Arr w∧Arr u'∧Arr v'∧Arr w'∧Arrs ls∧ls.length≤2000
open Classical in
theorem h_DrawIsIsogeny (hT:T F34=some Z34) (hf:H_from (den T A)) (ht:H_l06Two (den T A)) (hfi:C_sFine (den T A)) (hn:H_next (den T A) F3s) (hp:H_pick (den T A)) (hd:H_draw (den T A)) (hdg:C_sDeg (den T A)) (hone:K_sOne (den T A)) (his:C_IsDr (den T A) F4c) (hac:K_sAction (den T A)):H_DrawIsIsogeny (den T A):=by
 intro code hb hc
 obtain ⟨b0,e0,hs0⟩:=hf code hb hc
 obtain ⟨p,u,v,w,q,u',v',w',b1,e1,hs1,-,-,a1,a2,a3,a4,a5,a6⟩:=ht b0 hs0
 have e2:=hfi p
 haveI ip:IsP (fineP p):=fineP_ok p
 obtain ⟨x,b2,e3,hs2,x0,x1⟩:=hn b1 4 hs1 (by omega)
 have top:=ii_top (O:=den T A) (dropC 5 Z34_B) (u:=u) (v:=v) (w:=w) (u':=u') (v':=v') (w':=w') (code:=code) hs0 hs1 e0 e1 e2
 rw [←ii_B] at top
 by_cases c0:x=0
 ·subst c0
  have e4:=hdg u a1.1
  have e5:=hone (fineP p)
  have ht:=tlen_le u 64
  obtain ⟨n,cp,st,hn1⟩:=ii_case0 (O:=den T A) (pf:=fineP p) (dk:=drD q u' v' w') (p:=p) (v:=v) (w:=w) hs1 hs2 e3 e4 e5 (by omega)
  rw [st] at top
  refine ⟨p,u,v,w,p,u,v,w,List.replicate n (pad [])++[pad (row (1:Fp (fineP p)))],ii_out hT rfl rfl (cp:=cp) ?_,a1,a2,a3,a1,a2,a3,fun l hl=>?_,by simp; omega⟩
  ·rw [top,List.length_append,List.length_replicate,List.length_singleton]
  ·rcases List.mem_append.1 hl with h | h
   ·rw [List.eq_of_mem_replicate h]; exact arr_zero
   ·rw [List.mem_singleton.1 h]; exact arr_row _
 ·by_cases c2:x=2
  ·subst c2
   obtain ⟨a,b3,e5,hs3,-⟩:=hd (fineP p) b2 0 hs2 (by omega)
   rw [show ((0:Nat):Int)=0 from rfl] at e5
   have st:=ii_case2 (O:=den T A) (dm:=drD p u v w) (dk:=drD q u' v' w') hs1 hs2 hs3 e3 e5 rfl rfl
   rw [st] at top
   refine ⟨p,u,v,w,q,u',v',w',[pad (row a)],ask_of hT rfl ?_,a1,a2,a3,a4,a5,a6,fun l hl=>by rw [List.mem_singleton.1 hl]; exact arr_row a,by simp⟩
   generalize pad (row a)=Pa at *
   simp -implicitDefEqProofs [Z34,top,List.replicate]
  ·have e4:=his p u v w a1.2 a1.1 a2.2 a2.1 a3.2 a3.1
   by_cases c1:x=1∧IsDr p u v w
   ·obtain ⟨rfl,hD⟩:=c1
    rw [decide_eq_true hD] at e4
    have hD':=hD
    obtain ⟨ip',m,g,d,rfl,rfl,rfl,hm,hg,hd',hd0⟩:=hD
    have hfp:fineP p=p:=by unfold fineP; rw [if_pos isP_true]
    rw [hfp] at top
    have hp2:=IsP.ge (p:=p)
    have hp7:=IsP.le (p:=p)
    obtain ⟨y,b3,e5,hs3,y0,y1⟩:=hn b2 p hs2 (by omega)
    have hI:DrI p (((pad []).set 0 y).set 1 1) 2:=((DrI.zero p 2).set y0 (by omega) (by omega)).set (by omega) (by omega) (by omega)
    obtain ⟨q1,q2⟩:=hI.pol
    have hne:polOf p (((pad []).set 0 y).set 1 1)≠0:=fun h=>by
     have h3:(polOf p (((pad []).set 0 y).set 1 1)).c 1=0:=by rw [h]; rfl
     rw [polOf_c,cf_set,if_pos ⟨rfl,by rw [List.length_set,pad_length]; omega⟩] at h3
     exact absurd h3 (by rw [zp_one]; exact Fd.one_ne)
    have e6:=hac p m g d (polOf p (((pad []).set 0 y).set 1 1)) hm hg hd' (by omega) hne
    rw [←q1] at e6
    have st:=ii_case1 (O:=den T A) (dk:=drD q u' v' w') hs1 hs2 hs3 e3 e4 e5 (w8 (by omega)) rfl e6
    rw [st] at top
    refine ⟨p,_,_,_,p,_,_,_,skP (outS m (Pol.X%m) g d (polOf p (((pad []).set 0 y).set 1 1)) (2*(polOf p (((pad []).set 0 y).set 1 1)).len-1) (polOf p (((pad []).set 0 y).set 1 1)).len),ask_of hT rfl ?_,a1,a2,a3,a1,a2,a3,fun l hl=>?_,?_⟩
    ·generalize (skP (outS m (Pol.X%m) g d (polOf p (((pad []).set 0 y).set 1 1)) (2*(polOf p (((pad []).set 0 y).set 1 1)).len-1) (polOf p (((pad []).set 0 y).set 1 1)).len)).map arr8=LD at *
     generalize pad (row m)=Pm at *
     generalize pad (row g)=Pg at *
     generalize pad (row d)=Pd at *
     simp -implicitDefEqProofs [Z34,top,List.replicate]
    ·obtain ⟨c,-,rfl⟩:=List.mem_map.1 hl
     exact arr_row c
    ·unfold skP
     rw [List.length_map,outS_length]
     omega
   ·obtain ⟨y,b3,e5,hs3,y0,y1⟩:=hn b2 4 hs2 (by omega)
    obtain ⟨z,b4,e6,hs4,z0,z1⟩:=hn b3 24 hs3 (by omega)
    obtain ⟨Q,cp,hQ,hQl,st⟩:=ii_case3 hp hd (pf:=fineP p) (p:=p) (q:=q) (u':=u') (v':=v') (w':=w') hs1 hs2 hs3 hs4 e3 (by
     by_cases h1:x=1
     ·exact .inl ⟨h1,decide_eq_false fun g=>c1 ⟨h1,g⟩⟩
     ·exact .inr ⟨c0,h1,c2⟩) e4 e5 e6 y0 (by omega) z0 (by omega)
    rw [st] at top
    exact ⟨p,u,v,w,q,u',v',w',Q,ii_out hT rfl rfl top,a1,a2,a3,a4,a5,a6,hQ,by omega⟩
end Pe

namespace Pe
open Go Gq
variable {T:Nat→Option Fn} {A:Oracle}
end Pe

namespace Pe
open Go Gq
section
variable {K:Type} [CR K]
theorem sumR_shift (f:Nat→K):∀n,sumR f (n+1)=f 0+sumR (fun i=>f (i+1)) n
 | 0=>by show 0+f 0=f 0+0; rw [Gq.add_zero,Gq.zero_add]
 | n+1=>by
  rw [sumR,sumR_shift f n,sumR]
  exact Gq.add_assoc _ _ _
theorem sumR_congr {f g:Nat→K}:∀{n:Nat},(∀i,i<n→f i=g i)→sumR f n=sumR g n
 | 0,_=>rfl
 | n+1,h=>by rw [sumR,sumR,sumR_congr fun i hi=>h i (by omega),h n (by omega)]
theorem pol_indK {P:Pol K→Prop} (h0:P 0) (h:∀c a,P a→P (Pol.C c+Pol.X*a)):∀(n:Nat) (a:Pol K),a.lt n→P a
 | 0,a,ha=>by rw [Pol.lt_zero.1 ha]; exact h0
 | n+1,a,ha=>by
  obtain ⟨m,hm⟩:=a.fin
  let b:Pol K:=⟨fun i=>a.c (i+1),m,fun i hi=>hm _ (by omega)⟩
  have e:a=Pol.C (a.c 0)+Pol.X*b:=Pol.ext fun i=>by
   rw [Pol.c_add,Pol.c_C,Pol.c_Xmul]
   cases i with
   | zero=>rw [if_pos rfl,if_pos rfl,Gq.add_zero]
   | succ i=>rw [if_neg (by omega),if_neg (by omega),Gq.zero_add]; rfl
  rw [e]
  exact h _ _ (pol_indK h0 h n b fun i hi=>ha _ (by omega))
end
section
variable {p:Int} {m:Fp p}
variable {t0 t1 t2:Quo m}
end
end Pe

namespace Pe
open Go Gq
section
variable {p:Int} {m:Fp p}
theorem sg_full [IsP p] (hm:Fld m) (x:Quo m):sg (m.len-1) x=x:=by
 obtain ⟨a,rfl⟩:=Quo.ex x
 have h0:=hm.mon.2
 rw [←Pol.mk_mod a m,←sg_mk,←frIt_mod hm _ (Pol.len_mod a h0),Nat.mod_self]
 rfl
end
structure FrobSaid {p:Int} [IsP p] (m g d:Fp p):Prop where
 lt:(frA m g d).lt ((m.len-1)/2+1)
 eq:∀n,(if n=2*(m.len-1) then 1 else 0)-(if n<m.len-1 then 0 else sumR (fun i=>Quo.mk m (Pol.C ((frA m g d).c i))*Rk (Quo.mk m Pol.X) (Quo.mk m g) (Quo.mk m d) i (n-(m.len-1))) ((m.len-1)/2+1))+sumR (fun i=>Quo.mk m (Pol.C ((frB m d).c i))*Rk (Quo.mk m Pol.X) (Quo.mk m g) (Quo.mk m d) i n) m.len=0
section
variable {p:Int} {m g d:Fp p}
theorem hsum_sumR (t0 t1 t2:Quo m) (c:Nat→Quo m) (n:Nat):∀N,hsum t0 t1 t2 c 0 N n=sumR (fun i=>c i*Rk t0 t1 t2 i n) N
 | 0=>rfl
 | N+1=>by rw [hsum_snoc,hsum_sumR t0 t1 t2 c n N,Nat.zero_add]; rfl
end
end Pe


namespace Pe
open Go Gq
variable {T:Nat→Option Fn} {A:Oracle}
section
variable {p:Int}
end
end Pe

namespace Pe
open Go Gq
section
variable {p:Int}
theorem sgn_add [IsP p] {m:Fp p}:∀(k:Nat) (x y:Quo m),sg k (x+y)=sg k x+sg k y
 | 0,_,_=>rfl
 | k+1,x,y=>by
  show sg k (pw (x+y) p.toNat)=sg k (pw x p.toNat)+sg k (pw y p.toNat)
  rw [frob_add,sgn_add k]
theorem sgn_mul {m:Fp p}:∀(k:Nat) (x y:Quo m),sg k (x*y)=sg k x*sg k y
 | 0,_,_=>rfl
 | k+1,x,y=>by
  show sg k (pw (x*y) p.toNat)=sg k (pw x p.toNat)*sg k (pw y p.toNat)
  rw [pw_mul,sgn_mul k]
theorem sgn_const [IsP p] {m:Fp p} (c:Zp p):∀k,sg k (Quo.mk m (Pol.C c))=Quo.mk m (Pol.C c)
 | 0=>rfl
 | k+1=>by
  show sg k (pw (Quo.mk m (Pol.C c)) p.toNat)=_
  rw [←Quo.mk_pow,←C_pw,frob_const,sgn_const c k]
theorem sgn_sgn {m:Fp p} (i:Nat):∀(j:Nat) (x:Quo m),sg i (sg j x)=sg (i+j) x
 | 0,_=>rfl
 | j+1,x=>by
  show sg i (sg j (pw x p.toNat))=sg (i+j) (pw x p.toNat)
  exact sgn_sgn i j _
noncomputable def vq {m:Fp p} (X:Quo m):Nat→List (Fp p)→Quo m
 | _,[]=>0
 | i,c::cs=>Quo.mk m c*sg i X+vq X (i+1) cs
theorem svI_q [IsP p] {m x:Fp p} (hm:Fld m) (hx:x.len<m.len):∀(i:Nat) (A:List (Fp p)) (out:Fp p),Quo.mk m (svI m x i A out)=Quo.mk m out+vq (Quo.mk m x) i A
 | i,[],out=>(Gq.add_zero _).symm
 | i,c::cs,out=>by
  show Quo.mk m (svI m x (i+1) cs (out+c*frIt m (i%(m.len-1)) x%m))=_
  rw [svI_q hm hx (i+1) cs,Quo.mk_add,Pol.mk_mod,Quo.mk_mul,frIt_mod hm i hx,sg_mk]
  exact Gq.add_assoc _ _ _
noncomputable def valS [IsP p] (m:Fp p) (A:List (Fp p)) (x:Fp p):Quo m:=Quo.mk m (svI m x 0 A 0)
theorem valS_q [IsP p] {m x:Fp p} (hm:Fld m) (hx:x.len<m.len) (A:List (Fp p)):valS m A x=vq (Quo.mk m x) 0 A:=by
 unfold valS
 rw [svI_q hm hx,Quo.mk_zero,Gq.zero_add]
theorem vq_add [IsP p] {m:Fp p} (X Y:Quo m):∀(A:List (Fp p)) (i:Nat),vq (X+Y) i A=vq X i A+vq Y i A
 | [],_=>(Gq.add_zero _).symm
 | c::cs,i=>by
  show Quo.mk m c*sg i (X+Y)+vq (X+Y) (i+1) cs=(Quo.mk m c*sg i X+vq X (i+1) cs)+(Quo.mk m c*sg i Y+vq Y (i+1) cs)
  rw [sgn_add,vq_add X Y cs]
  exact ring_of [Quo.mk m c,sg i X,sg i Y,vq X (i+1) cs,vq Y (i+1) cs] rfl
theorem vq_smul [IsP p] {m:Fp p} (k:Zp p) (X:Quo m):∀(A:List (Fp p)) (i:Nat),vq (Quo.mk m (Pol.C k)*X) i A=Quo.mk m (Pol.C k)*vq X i A
 | [],_=>(Gq.mul_zero _).symm
 | c::cs,i=>by
  show Quo.mk m c*sg i (Quo.mk m (Pol.C k)*X)+vq (Quo.mk m (Pol.C k)*X) (i+1) cs=Quo.mk m (Pol.C k)*(Quo.mk m c*sg i X+vq X (i+1) cs)
  rw [sgn_mul,sgn_const,vq_smul k X cs]
  exact ring_of [Quo.mk m c,Quo.mk m (Pol.C k),sg i X,vq X (i+1) cs] rfl
theorem vq_set {m:Fp p} (X:Quo m) (v:Fp p):∀(Q:List (Fp p)) (i j:Nat),j<Q.length→vq X i (addAt Q j v)=vq X i Q+Quo.mk m v*sg (i+j) X
 | [],_,_,h=>by simp at h
 | c::cs,i,0,_=>by
  show Quo.mk m (c+v)*sg i X+vq X (i+1) cs=Quo.mk m c*sg i X+vq X (i+1) cs+Quo.mk m v*sg (i+0) X
  rw [Quo.mk_add,Nat.add_zero]
  exact ring_of [Quo.mk m c,Quo.mk m v,sg i X,vq X (i+1) cs] rfl
 | c::cs,i,j+1,h=>by
  have e:addAt (c::cs) (j+1) v=c::addAt cs j v:=rfl
  rw [e]
  show Quo.mk m c*sg i X+vq X (i+1) (addAt cs j v)=Quo.mk m c*sg i X+vq X (i+1) cs+Quo.mk m v*sg (i+(j+1)) X
  rw [vq_set X v cs (i+1) j (by simpa using h),show i+1+j=i+(j+1) by omega]
  exact (Gq.add_assoc _ _ _).symm
theorem vq_zeros {m:Fp p} (X:Quo m):∀(n i:Nat),vq X i (List.replicate n (0:Fp p))=0
 | 0,_=>rfl
 | n+1,i=>by
  show Quo.mk m 0*sg i X+vq X (i+1) (List.replicate n 0)=0
  rw [vq_zeros X n,Quo.mk_zero,Gq.zero_mul,Gq.add_zero]
theorem byIn_v [IsP p] {m c:Fp p} (hm:Fld m) (X:Quo m) {i:Nat}:∀(b:List (Fp p)) (k:Nat) (Q:List (Fp p)),(∀y∈b,y.len<m.len)→i+k+b.length≤Q.length→vq X 0 (byIn m c i k b Q)=vq X 0 Q+Quo.mk m c*sg i (vq X k b)
 | [],_,Q,_,_=>by
  show vq X 0 Q=vq X 0 Q+Quo.mk m c*sg i 0
  rw [sg_zero,Gq.mul_zero,Gq.add_zero]
 | y::ys,k,Q,hb,h=>by
  rw [List.length_cons] at h
  show vq X 0 (byIn m c i (k+1) ys (addAt Q (i+k) _))=vq X 0 Q+Quo.mk m c*sg i (Quo.mk m y*sg k X+vq X (k+1) ys)
  rw [byIn_v hm X ys (k+1) _ (fun z hz=>hb z (by simp [hz])) (by rw [addAt_length]; omega),vq_set X _ Q 0 (i+k) (by omega),Pol.mk_mod,Quo.mk_mul,frIt_mod hm i (hb y (by simp)),sg_mk,Nat.zero_add,sgn_add,sgn_mul,sgn_sgn]
  exact ring_of [vq X 0 Q,Quo.mk m c,sg i (Quo.mk m y),sg (i+k) X,sg i (vq X (k+1) ys)] rfl
theorem prod_val [IsP p] {m c0 x:Fp p} (hm:Fld m) {A:List (Fp p)} (hA:∀y∈A,y.len<m.len) (hx:x.len<m.len) (h1:1≤A.length):valS m (prodS m [c0,1] A) x=Quo.mk m c0*valS m A x+sg 1 (valS m A x):=by
 have h0:=hm.mon.2
 have e1:valS m (prodS m [c0,1] A) x=valS m (mulS m [c0,1] A) x:=by
  unfold prodS valS
  rw [if_neg (by simp only [List.length_cons]; omega),svI_trim h0]
 rw [e1,valS_q hm hx,valS_q hm hx]
 show vq _ 0 (byIn m 1 1 0 A (byIn m c0 0 0 A (List.replicate ([c0,1].length+A.length-1) 0)))=_
 have hl:(List.replicate ([c0,(1:Fp p)].length+A.length-1) (0:Fp p)).length=A.length+1:=by rw [List.length_replicate]; simp only [List.length_cons,List.length_nil]; omega
 rw [byIn_v hm _ A 0 _ hA (by rw [byIn_length]; omega),byIn_v hm _ A 0 _ hA (by omega),vq_zeros,Gq.zero_add,Quo.mk_one,Gq.one_mul]
 rfl
theorem val_elim [IsP p] {m:Fp p} (hm:Fld m) {A:List (Fp p)} {a b:Fp p} (ha:a.len<m.len) (hb:b.len<m.len) (hk:valS m A b=0):valS m A (elim b a)=valS m A a:=by
 have hl:(elim b a).len≤m.len-1:=elim_le (by omega) (by omega)
 rw [valS_q hm (by omega),valS_q hm ha]
 rw [valS_q hm hb] at hk
 unfold elim
 rw [Quo.mk_add,Quo.mk_mul,vq_add,vq_smul,hk,Gq.mul_zero,Gq.add_zero]
theorem val_red [IsP p] {m:Fp p} (hm:Fld m) {A:List (Fp p)}:∀(L:List (Fp p)) (x:Fp p),(∀b∈L,b.len<m.len∧valS m A b=0)→x.len<m.len→valS m A (redS L x)=valS m A x
 | [],_,_,_=>rfl
 | b::bs,x,h,hx=>by
  have hb:=h b (by simp)
  have hl:(elim b x).len≤m.len-1:=elim_le (by omega) (by omega)
  show valS m A (redS bs (elim b x))=_
  rw [val_red hm bs (elim b x) (fun c hc=>h c (by simp [hc])) (by omega),val_elim hm hx hb.1 hb.2]
theorem val_smul [IsP p] {m:Fp p} (hm:Fld m) {A:List (Fp p)} {x:Fp p} (hx:x.len<m.len) (k:Zp p) (hk:valS m A x=0):valS m A (Pol.C k*x)=0:=by
 have hl:(Pol.C k*x).len<m.len:=by
  have h2:=hm.two
  have:(Pol.C k*x).len≤m.len-1:=Pol.len_le fun j hj=>by rw [Pol.c_Cmul,c_ge' (by omega),Gq.mul_zero]
  omega
 rw [valS_q hm hl,Quo.mk_mul,vq_smul,←valS_q hm hx,hk,Gq.mul_zero]
theorem insS_length (a:Fp p) (L:List (Fp p)):(insS a L).length=L.length+1:=by
 rw [(insS_perm a L).length_eq,List.length_append,List.length_map]; rfl
noncomputable def lsC [IsP p] (m v:Fp p):Fp p:=Pol.C (zp p (-1))*(frIt m 1 v*invm m v%m)
noncomputable def lsN [IsP p] (m:Fp p) (A:List (Fp p)) (x:Fp p):List (Fp p):=if (svI m x 0 A 0).len=0 then A else prodS m [lsC m (svI m x 0 A 0),1] A
noncomputable def lsS [IsP p] (m:Fp p):List (Fp p)→List (Fp p)→List (Fp p)
 | [],A=>A
 | x::xs,A=>lsS m xs (lsN m A x)
theorem lsC_len [IsP p] {m v:Fp p} (hm:Fld m):(lsC m v).len<m.len:=by
 have h1:=Pol.len_mod (frIt m 1 v*invm m v) hm.mon.2
 have:(lsC m v).len≤m.len-1:=Pol.len_le fun j hj=>by unfold lsC; rw [Pol.c_Cmul,c_ge' (by omega),Gq.mul_zero]
 omega
theorem lsC_q [IsP p] {m v:Fp p} (hm:Fld m) (hv:v≠0) (hvl:v.len<m.len):Quo.mk m (lsC m v)*Quo.mk m v+sg 1 (Quo.mk m v)=0:=by
 have hi:=invm_ok hm hv hvl
 unfold lsC
 rw [Quo.mk_mul,Pol.mk_mod,Quo.mk_mul,sg_mk,zp_neg,zp_one,Pol.C_neg,Pol.C_one,Quo.mk_neg,Quo.mk_one]
 have e:-1*(sg 1 (Quo.mk m v)*Quo.mk m (invm m v))*Quo.mk m v+sg 1 (Quo.mk m v)=sg 1 (Quo.mk m v)*(1-Quo.mk m (invm m v)*Quo.mk m v):=ring_of [sg 1 (Quo.mk m v),Quo.mk m (invm m v),Quo.mk m v] rfl
 rw [e,hi]
 exact ring_of [sg 1 (Quo.mk m v)] rfl
structure LsI [IsP p] (m:Fp p) (A:List (Fp p)):Prop where
 trim:IsTrim A
 res:∀c∈A,c.len<m.len
 ex:∃L:List (Fp p),Desc (m.len-1) L∧(∀b∈L,valS m A b=0)∧A.length=L.length+1
theorem LsI.len [IsP p] {m:Fp p} {A:List (Fp p)} (hm:Fld m) (h:LsI m A):1≤A.length∧A.length≤5:=by
 obtain ⟨L,h1,_,h3⟩:=h.ex
 have:=h1.length
 have h5:=hm.five
 have h2:=hm.two
 omega
theorem LsI.one [IsP p] {m:Fp p} (hm:Fld m):LsI m (termS (1:Fp p) 0):=⟨(sk_one hm).trim,(sk_one hm).res,[],Desc.nil _,(fun b hb=>by cases hb),by rw [termS_length]; rfl⟩
theorem two_trim [IsP p] (c:Fp p):IsTrim [c,(1:Fp p)]:=fun n hn=>by
 have:n=1:=by simp at hn; omega
 subst this
 exact one_ne8
theorem two_res [IsP p] {m c:Fp p} (hm:Fld m) (hc:c.len<m.len):∀y∈[c,(1:Fp p)],y.len<m.len:=fun y hy=>by
 have h2:=hm.two
 have:(1:Fp p).len=1:=Pol.len_one
 simp at hy
 rcases hy with rfl | rfl <;> omega
theorem LsI.next [IsP p] {m x:Fp p} {A:List (Fp p)} (hm:Fld m) (h:LsI m A) (hx:x.len<m.len):LsI m (lsN m A x):=by
 have h0:=hm.mon.2
 have h2:=hm.two
 unfold lsN
 by_cases hv:(svI m x 0 A 0).len=0
 ·rw [if_pos hv]; exact h
 ·rw [if_neg hv]
  obtain ⟨L,hL,hK,hlen⟩:=h.ex
  have hvl:(svI m x 0 A 0).len<m.len:=svI_len h0 0 A 0 (by rw [Pol.len_zero]; omega)
  have hv0:svI m x 0 A 0≠0:=fun h=>hv (by rw [h,Pol.len_zero])
  have hcl:=lsC_len (v:=svI m x 0 A 0) hm
  have hLl:∀b∈L,b.len<m.len:=fun b hb=>by have:=hL.le b hb; omega
  have step:∀y:Fp p,y.len<m.len→valS m (prodS m [lsC m (svI m x 0 A 0),1] A) y=Quo.mk m (lsC m (svI m x 0 A 0))*valS m A y+sg 1 (valS m A y):=fun y hy=>prod_val hm h.res hy (by omega)
  have kill:∀y:Fp p,y.len<m.len→valS m A y=0→valS m (prodS m [lsC m (svI m x 0 A 0),1] A) y=0:=fun y hy hk=>by
   rw [step y hy,hk,Gq.mul_zero,sg_zero,Gq.add_zero]
  have killx:valS m (prodS m [lsC m (svI m x 0 A 0),1] A) x=0:=by
   rw [step x hx]
   exact lsC_q hm hv0 hvl
  have hr:redS L x≠0:=fun hz=>by
   have e:=val_red (A:=A) hm L x (fun b hb=>⟨hLl b hb,hK b hb⟩) hx
   rw [hz] at e
   have e2:valS m A (0:Fp p)=0:=by
    have:=val_smul (A:=A) hm (x:=0) (by rw [Pol.len_zero]; omega)
    rw [valS_q hm (by rw [Pol.len_zero]; omega)]
    have h3:=vq_smul (m:=m) (0:Zp p) (0:Quo m) A 0
    rw [Gq.mul_zero] at h3
    rw [Quo.mk_zero,h3]
    have:Quo.mk m (Pol.C (0:Zp p))=0:=by rw [Pol.C_zero]; rfl
    rw [this,Gq.zero_mul]
   rw [e2] at e
   have e3:=(Pol.mod_eq_iff h0).2 (show Quo.mk m (svI m x 0 A 0)=Quo.mk m 0 from e.symm)
   rw [Pol.mod_small hvl,Pol.zero_mod h0] at e3
   exact hv0 e3
  have hrl:(redS L x).len≤m.len-1:=redS_le hL.le (by omega)
  have hml:=Gq.mon_len hr
  have killr:valS m (prodS m [lsC m (svI m x 0 A 0),1] A) (Gq.mon (redS L x))=0:=by
   refine val_smul hm (by omega) _ ?_
   rw [val_red hm L x (fun b hb=>⟨hLl b hb,kill b (hLl b hb) (hK b hb)⟩) hx]
   exact killx
  refine ⟨isTrim_prod _ _ _,fun c hc=>by have:=prodS_lens' (N:=m.len-1) h0 (by omega) c hc; omega,putS L x,putS_desc hL (by omega),fun b hb=>?_,?_⟩
  ·rw [putS_ne hr] at hb
   rcases insS_mem hb with rfl | ⟨c,hc,rfl⟩
   ·exact killr
   ·have hcl':=hLl c hc
    rw [val_elim hm hcl' (by omega) killr]
    exact kill c hcl' (hK c hc)
  ·rw [putS_ne hr,insS_length,prodS_len hm (two_trim _) h.trim (two_res hm hcl) h.res (by simp) (by omega)]
   simp only [List.length_cons,List.length_nil]
   omega
theorem LsI.all [IsP p] {m:Fp p} (hm:Fld m):∀(xs A:List (Fp p)),LsI m A→(∀x∈xs,x.len<m.len)→LsI m (lsS m xs A)
 | [],_,h,_=>h
 | x::xs,A,h,hx=>LsI.all hm xs _ (h.next hm (hx x (by simp))) fun y hy=>hx y (by simp [hy])
end
end Pe

namespace Pe
open Go Gq
section
variable {K:Type} [CR K]
end
section
variable {p:Int} [ip:IsP p] {m:Fp p}
noncomputable def phT (t0 t1 t2 X:Quo m):Quo m:=t0*X+t1*sg 1 X+t2*sg 2 X
noncomputable def phI (t0 t1 t2:Quo m):Nat→Quo m→Quo m
 | 0,X=>X
 | k+1,X=>phI t0 t1 t2 k (phT t0 t1 t2 X)
end
section
variable {p:Int} {m:Fp p}
end
section
variable {p:Int} [ip:IsP p] {m:Fp p}
noncomputable def phA (t0 t1 t2:Quo m) (a:Fp p) (X:Quo m) (n:Nat):Quo m:=sumR (fun i=>Quo.mk m (Pol.C (a.c i))*phI t0 t1 t2 i X) n
end
section
variable {p:Int} {m:Fp p}
theorem phA_more (t0 t1 t2:Quo m) {a:Fp p} (X:Quo m) {n:Nat} (h:a.lt n) (k:Nat):phA t0 t1 t2 a X (n+k)=phA t0 t1 t2 a X n:=
 sumR_more _ n (fun i hi=>by rw [h i hi,Pol.C_zero,Quo.mk_zero,Gq.zero_mul]) k
end
section
variable {p:Int} [ip:IsP p] {m:Fp p}
end
section
variable {p:Int} {m:Fp p}
theorem phA_len (t0 t1 t2:Quo m) {a:Fp p} (X:Quo m) {n:Nat} (h:a.len≤n):phA t0 t1 t2 a X n=phA t0 t1 t2 a X a.len:=by
 obtain ⟨k,rfl⟩:∃k,n=a.len+k:=⟨n-a.len,by omega⟩
 exact phA_more t0 t1 t2 X a.lt_len k
end
section
variable {p:Int} [ip:IsP p] {m:Fp p}
theorem sv6_q {g d x:Fp p}:Quo.mk m (sv6 m g d x)=phT (Quo.mk m Pol.X) (Quo.mk m g) (Quo.mk m d) (Quo.mk m x):=by
 unfold sv6 phT
 rw [Quo.mk_add,Quo.mk_add,Pol.mk_mod,Pol.mk_mod,Pol.mk_mod,Quo.mk_mul,Quo.mk_mul,Quo.mk_mul,Pol.mk_mod,sg_mk,sg_mk]
theorem dvL_q {g d:Fp p} {a:Fp p}:∀(k i:Nat) (out now:Fp p),i+k=a.len→Quo.mk m (dvL m g d (tlC a i) out now)=Quo.mk m out+sumR (fun j=>Quo.mk m (Pol.C (a.c (i+j)))*phI (Quo.mk m Pol.X) (Quo.mk m g) (Quo.mk m d) j (Quo.mk m now)) k
 | 0,i,out,now,h=>by
  obtain rfl:i=a.len:=by omega
  rw [tlC_end]
  show Quo.mk m out=Quo.mk m out+0
  rw [Gq.add_zero]
 | k+1,i,out,now,h=>by
  rw [tlC_cons a (by omega),dvL,dvL_q k (i+1) _ _ (by omega),sumR_shift,Quo.mk_add,Quo.mk_mul,sv6_q,Gq.add_assoc]
  congr 1
  congr 1
  refine sumR_congr fun j _=>?_
  rw [show i+1+j=i+(j+1) by omega]
  rfl
theorem drVal_q {g d a x:Fp p}:Quo.mk m (drVal m g d a x)=phA (Quo.mk m Pol.X) (Quo.mk m g) (Quo.mk m d) a (Quo.mk m x) a.len:=by
 unfold drVal phA
 rw [dvL_q a.len 0 0 (x%m) (Nat.zero_add _),Quo.mk_zero,Gq.zero_add,Pol.mk_mod]
 refine sumR_congr fun j _=>?_
 rw [Nat.zero_add]
end
end Pe



namespace Pe
open Go Gq
variable {T:Nat→Option Fn} {A:Oracle}
end Pe


namespace Pe
open Go Gq
variable {T:Nat→Option Fn} {A:Oracle}
section
end
section
variable {p:Int} [IsP p]
end
end Pe

namespace Pe
open Go Gq
variable {T:Nat→Option Fn} {A:Oracle}
end Pe

namespace Pe
open Go Gq
variable {T:Nat→Option Fn} {A:Oracle}
end Pe

namespace Pe
open Go Gq
variable {T:Nat→Option Fn} {A:Oracle}
end Pe

namespace Pe
open Go Gq
variable {T:Nat→Option Fn} {A:Oracle}
end Pe

namespace Pe
open Go Gq
variable {T:Nat→Option Fn} {A:Oracle}
section
variable {p:Int} [IsP p] {m:Fp p}
theorem act_c (hm:Fld m) {g d:Fp p} (hg:g.len<m.len) (hd:d.len<m.len) {a:Fp p} {N:Nat} (h:a.len≤N) (i:Nat):qcf m (actN m (Pol.X%m) g d a a.len a.len) i=sumR (fun k=>Quo.mk m (Pol.C (a.c k))*Rk (Quo.mk m Pol.X) (Quo.mk m g) (Quo.mk m d) k i) N:=by
 have e:=actN_q (t0:=Pol.X%m) (t1:=g) (t2:=d) hm (mem3 (Pol.len_mod _ hm.mon.2) hg hd) a a.len a.len (Nat.le_refl _)
 rw [e,hsum_sumR,Pol.mk_mod]
 obtain ⟨j,rfl⟩:∃j,N=a.len+j:=⟨N-a.len,by omega⟩
 rw [sumR_more _ a.len (fun k hk=>by rw [a.lt_len k hk,Pol.C_zero,Quo.mk_zero,Gq.zero_mul]) j]
 refine sumR_congr fun k _=>?_
 rw [show a.len-a.len+k=k by omega]
end
end Pe

namespace Pe
open Go Gq
section
variable {K:Type} [CR K]
theorem unit_cancel {u v a b:K} (h:u*v=1) (e:a*v=b*v):a=b:=by
 have h1:a=a*v*u:=by rw [Gq.mul_assoc,Gq.mul_comm v u,h,Gq.mul_one]
 rw [h1,e,Gq.mul_assoc,Gq.mul_comm v u,h,Gq.mul_one]
end
section
variable {p:Int} {m:Fp p}
noncomputable def prQ:Nat→Quo m→Quo m
 | 0,_=>1
 | k+1,X=>prQ k X*sg k X
theorem prQ_mul (X Y:Quo m):∀k,prQ k (X*Y)=prQ k X*prQ k Y
 | 0=>(Gq.mul_one _).symm
 | k+1=>by
  show prQ k (X*Y)*sg k (X*Y)=prQ k X*sg k X*(prQ k Y*sg k Y)
  rw [prQ_mul X Y k,sgn_mul]
  exact ring_of [prQ k X,prQ k Y,sg k X,sg k Y] rfl
theorem sg_one' (k:Nat):sg k (1:Quo m)=1:=sg_one k
theorem prQ_sg (X:Quo m):∀k,prQ k (sg 1 X)*X=prQ k X*sg k X
 | 0=>by
  show 1*X=1*X
  rfl
 | k+1=>by
  show prQ k (sg 1 X)*sg k (sg 1 X)*X=prQ k X*sg k X*sg (k+1) X
  rw [sgn_sgn k 1,←prQ_sg X k]
  exact ring_of [prQ k (sg 1 X),sg (k+1) X,X] rfl
theorem prQ_one:∀k,prQ k (1:Quo m)=1
 | 0=>rfl
 | k+1=>by
  show prQ k (1:Quo m)*sg k 1=1
  rw [prQ_one k,sg_one',Gq.mul_one]
end
section
variable {p:Int} [ip:IsP p] {m:Fp p}
theorem nmS_q (x:Fp p):∀i,Quo.mk m (nmS m x i)=prQ i (Quo.mk m x)
 | 0=>Quo.mk_one
 | i+1=>by
  show Quo.mk m (nmS m x i*frIt m i x%m)=prQ i (Quo.mk m x)*sg i (Quo.mk m x)
  rw [Pol.mk_mod,Quo.mk_mul,sg_mk,nmS_q x i]
theorem prQ_fix (hm:Fld m) {U V:Quo m} (h:U*V=1):prQ (m.len-1) (sg 1 V)=prQ (m.len-1) V:=by
 have e:=prQ_sg V (m.len-1)
 rw [sg_full hm] at e
 exact unit_cancel h e
theorem sg_two (X:Quo m):sg 2 X=pw X (p*p).toNat:=by
 show pw (pw X p.toNat) p.toNat=_
 have hp:=IsP.pos (p:=p)
 rw [pw_pw]
 congr 1
 have h:((p.toNat*p.toNat:Nat):Int)=p*p:=by
  rw [Int.natCast_mul,Int.toNat_of_nonneg (by omega)]
 rw [←h,Int.toNat_natCast]
structure Tws (m:Fp p) (C V G D G' D':Quo m):Prop where
 cv:C*V=1
 g:V*G'=sg 1 V*G
 d:V*D'=sg 2 V*D
 dp:D'=pw V (p*p-1).toNat*D
 gp:G'=pw V (p-1).toNat*G
theorem tws_of (hm:Fld m) {c:Fp p} (hc:c≠0) (hcl:c.len<m.len) (g d:Fp p):Tws m (Quo.mk m c) (Quo.mk m (invm m c)) (Quo.mk m g) (Quo.mk m d) (Quo.mk m (twc m c g (p-1).toNat)) (Quo.mk m (twc m c d (p*p-1).toNat)):=by
 have hp:=IsP.pos (p:=p)
 have hpp:1≤p*p:=by have:=Int.mul_pos hp hp; omega
 have tw:∀(x:Fp p) (k:Nat),Quo.mk m (twc m c x k)=pw (Quo.mk m (invm m c)) k*Quo.mk m x:=fun x k=>by
  unfold twc
  rw [Pol.mk_mod,Quo.mk_mul,invm_pw hm hc hcl]
 have cv:Quo.mk m c*Quo.mk m (invm m c)=1:=by rw [Gq.mul_comm]; exact invm_ok hm hc hcl
 generalize Quo.mk m (invm m c)=V at *
 refine ⟨cv,?_,?_,tw d _,tw g _⟩
 ·rw [tw g]
  show V*(pw V (p-1).toNat*Quo.mk m g)=pw V p.toNat*Quo.mk m g
  rw [show p.toNat=1+(p-1).toNat by omega,pw_add,pw_1,Gq.mul_assoc]
 ·rw [tw d,sg_two,show (p*p).toNat=1+(p*p-1).toNat by omega,pw_add,pw_1,Gq.mul_assoc]
theorem Tws.norm (hm:Fld m) {C V G D G' D':Quo m} (h:Tws m C V G D G' D'):prQ (m.len-1) D'=prQ (m.len-1) D:=by
 have h1:sg 1 C*sg 1 V=1:=by rw [←sgn_mul,h.cv,sg_one']
 have e1:prQ (m.len-1) (sg 2 V)=prQ (m.len-1) V:=by
  rw [show sg 2 V=sg 1 (sg 1 V) from (sgn_sgn 1 1 V).symm,prQ_fix hm h1,prQ_fix hm h.cv]
 have e2:prQ (m.len-1) V*prQ (m.len-1) D'=prQ (m.len-1) V*prQ (m.len-1) D:=by
  rw [←prQ_mul,h.d,prQ_mul,e1]
 have e3:prQ (m.len-1) C*prQ (m.len-1) V=1:=by rw [←prQ_mul,h.cv,prQ_one]
 refine unit_cancel e3 ?_
 rw [Gq.mul_comm,e2,Gq.mul_comm]
end
section
variable {p:Int} {m:Fp p}
theorem Tws.rk {C V G D G' D':Quo m} (h:Tws m C V G D G' D') (t:Quo m):∀k n,V*Rk t G' D' k n=Rk t G D k n*sg n V
 | 0,0=>Gq.mul_comm _ _
 | 0,n+1=>by
  show V*0=0*sg (n+1) V
  rw [Gq.mul_zero,Gq.zero_mul]
 | k+1,0=>by
  show V*(Rk t G' D' k 0*t)=Rk t G D k 0*t*sg 0 V
  have e:=h.rk t k 0
  rw [←Gq.mul_assoc,e]
  exact ring_of [Rk t G D k 0,sg 0 V,t] rfl
 | k+1,1=>by
  show V*(Rk t G' D' k 1*sg 1 t+Rk t G' D' k 0*G')=(Rk t G D k 1*sg 1 t+Rk t G D k 0*G)*sg 1 V
  have e1:=h.rk t k 1
  have e0:V*Rk t G' D' k 0=Rk t G D k 0*V:=h.rk t k 0
  have x1:V*(Rk t G' D' k 1*sg 1 t+Rk t G' D' k 0*G')=(V*Rk t G' D' k 1)*sg 1 t+(V*Rk t G' D' k 0)*G':=ring_of [V,Rk t G' D' k 1,sg 1 t,Rk t G' D' k 0,G'] rfl
  rw [x1,e1,e0,Gq.mul_assoc (Rk t G D k 0) V G',h.g]
  exact ring_of [Rk t G D k 1,sg 1 V,sg 1 t,Rk t G D k 0,G] rfl
 | k+1,n+2=>by
  show V*(Rk t G' D' k (n+2)*sg (n+2) t+Rk t G' D' k (n+1)*sg (n+1) G'+Rk t G' D' k n*sg n D')=(Rk t G D k (n+2)*sg (n+2) t+Rk t G D k (n+1)*sg (n+1) G+Rk t G D k n*sg n D)*sg (n+2) V
  have e2:=h.rk t k (n+2)
  have e1:=h.rk t k (n+1)
  have e0:=h.rk t k n
  have g1:sg (n+1) V*sg (n+1) G'=sg (n+2) V*sg (n+1) G:=by rw [←sgn_mul,h.g,sgn_mul,sgn_sgn]
  have d1:sg n V*sg n D'=sg (n+2) V*sg n D:=by rw [←sgn_mul,h.d,sgn_mul,sgn_sgn]
  have x1:V*(Rk t G' D' k (n+2)*sg (n+2) t+Rk t G' D' k (n+1)*sg (n+1) G'+Rk t G' D' k n*sg n D')=(V*Rk t G' D' k (n+2))*sg (n+2) t+(V*Rk t G' D' k (n+1))*sg (n+1) G'+(V*Rk t G' D' k n)*sg n D':=ring_of [V,Rk t G' D' k (n+2),sg (n+2) t,Rk t G' D' k (n+1),sg (n+1) G',Rk t G' D' k n,sg n D'] rfl
  rw [x1,e2,e1,e0,Gq.mul_assoc (Rk t G D k (n+1)),g1,Gq.mul_assoc (Rk t G D k n),d1]
  exact ring_of [Rk t G D k (n+2),sg (n+2) V,sg (n+2) t,Rk t G D k (n+1),sg (n+1) G,Rk t G D k n,sg n D] rfl
end
section
variable {p:Int} [ip:IsP p] {m:Fp p}
theorem mk_inj (hm:Fld m) {a b:Fp p} (ha:a.len<m.len) (hb:b.len<m.len) (h:Quo.mk m a=Quo.mk m b):a=b:=by
 have e:=(Pol.mod_eq_iff hm.mon.2).2 h
 rwa [Pol.mod_small ha,Pol.mod_small hb] at e
theorem twc_len (hm:Fld m) (c g:Fp p) (k:Nat):(twc m c g k).len<m.len:=Pol.len_mod _ hm.mon.2
theorem twc_ne (hm:Fld m) {c d:Fp p} (hc:c≠0) (hcl:c.len<m.len) (hd:d.len<m.len) (hd0:d≠0):twc m c d (p*p-1).toNat≠0:=fun h=>by
 have t:=tws_of hm hc hcl d d
 have e:=t.dp
 rw [h,Quo.mk_zero] at e
 have h1:pw (Quo.mk m c) (p*p-1).toNat*(pw (Quo.mk m (invm m c)) (p*p-1).toNat*Quo.mk m d)=Quo.mk m d:=by
  rw [←Gq.mul_assoc,←pw_mul,t.cv,pw_one,Gq.one_mul]
 rw [←e,Gq.mul_zero] at h1
 exact hd0 (mk_inj hm hd (by rw [Pol.len_zero]; exact Pol.len_pos hm.mon.2) (by rw [←h1,Quo.mk_zero]))
theorem tw_nm (hm:Fld m) {c d:Fp p} (hc:c≠0) (hcl:c.len<m.len):nmS m (twc m c d (p*p-1).toNat) (m.len-1)=nmS m d (m.len-1):=by
 refine mk_inj hm (nmS_len hm _ _) (nmS_len hm _ _) ?_
 rw [nmS_q,nmS_q]
 exact (tws_of hm hc hcl d d).norm hm
theorem tw_frB (hm:Fld m) {c d:Fp p} (hc:c≠0) (hcl:c.len<m.len):frB m (twc m c d (p*p-1).toNat)=frB m d:=by
 unfold frB frK
 rw [tw_nm hm hc hcl]
theorem tw_frA (hm:Fld m) {c g d:Fp p} (hc:c≠0) (hcl:c.len<m.len) (hg:g.len<m.len) (hd:d.len<m.len):frA m (twc m c g (p-1).toNat) (twc m c d (p*p-1).toNat)=frA m g d:=by
 have t:=tws_of hm hc hcl g d
 have hB:(frB m d).len≤m.len:=frB_len
 have h1:=Pol.len_pos hm.mon.2
 unfold frA
 rw [tw_frB hm hc hcl]
 refine qcf_eq hm.mon.2 ?_ ?_ ?_
 ·have:=mem_cS (N:=m.len-1) (fun c' hc'=>by have:=actN_lens hm _ _ _ _ _ _ c' hc'; omega) (m.len-1) (A:=actN m (Pol.X%m) (twc m c g (p-1).toNat) (twc m c d (p*p-1).toNat) (frB m d) (frB m d).len (frB m d).len)
  omega
 ·have:=mem_cS (N:=m.len-1) (fun c' hc'=>by have:=actN_lens hm _ _ _ _ _ _ c' hc'; omega) (m.len-1) (A:=actN m (Pol.X%m) g d (frB m d) (frB m d).len (frB m d).len)
  omega
 ·rw [act_c hm (twc_len hm _ _ _) (twc_len hm _ _ _) hB,act_c hm hg hd hB]
  refine sumR_congr fun k _=>?_
  congr 1
  have e:=t.rk (Quo.mk m Pol.X) k (m.len-1)
  rw [sg_full hm] at e
  exact unit_cancel t.cv (by rw [Gq.mul_comm,e])
theorem tw_inv (hm:Fld m) {c g d:Fp p} (hc:c≠0) (hcl:c.len<m.len) (hd:d.len<m.len) (hd0:d≠0):jvP m (twc m c g (p-1).toNat) (twc m c d (p*p-1).toNat)=jvP m g d:=by
 have hp:=IsP.pos (p:=p)
 have hpp:1≤p*p:=by have:=Int.mul_pos hp hp; omega
 have t:=tws_of hm hc hcl g d
 have i1:=invm_ok hm hd0 hd
 have i2:=invm_ok hm (twc_ne hm hc hcl hd hd0) (twc_len hm c d _)
 unfold jvP
 refine mk_inj hm (Pol.len_mod _ hm.mon.2) (Pol.len_mod _ hm.mon.2) ?_
 rw [Pol.mk_mod,Pol.mk_mod,Quo.mk_mul,Quo.mk_mul,Pol.mk_mod,Pol.mk_mod,Quo.mk_pow,Quo.mk_pow]
 rw [t.gp]
 have dp:=t.dp
 generalize Quo.mk m (twc m c d (p*p-1).toNat)=D' at *
 generalize Quo.mk m (invm m (twc m c d (p*p-1).toNat))=I' at *
 generalize Quo.mk m (invm m d)=I at *
 generalize Quo.mk m (invm m c)=V at *
 generalize Quo.mk m d=D at *
 generalize Quo.mk m g=G at *
 refine unit_cancel i2 ?_
 have hx:(p-1).toNat*(p+1).toNat=(p*p-1).toNat:=by
  have h:(((p-1).toNat*(p+1).toNat:Nat):Int)=p*p-1:=by
   rw [Int.natCast_mul,Int.toNat_of_nonneg (by omega),Int.toNat_of_nonneg (by omega),Int.sub_mul,Int.mul_add,Int.mul_add]
   omega
  omega
 rw [pw_mul,pw_pw,hx]
 have e1:pw V (p*p-1).toNat*pw G (p+1).toNat*I'*D'=pw V (p*p-1).toNat*pw G (p+1).toNat*(I'*D'):=Gq.mul_assoc _ _ _
 rw [e1,i2,Gq.mul_one,dp]
 have e2:pw G (p+1).toNat*I*(pw V (p*p-1).toNat*D)=pw V (p*p-1).toNat*pw G (p+1).toNat*(I*D):=ring_of [pw G (p+1).toNat,I,pw V (p*p-1).toNat,D] rfl
 rw [e2,i1,Gq.mul_one]
theorem phT_add (t0 t1 t2 X Y:Quo m):phT t0 t1 t2 (X+Y)=phT t0 t1 t2 X+phT t0 t1 t2 Y:=by
 unfold phT
 rw [sgn_add,sgn_add]
 exact ring_of [t0,t1,t2,X,Y,sg 1 X,sg 1 Y,sg 2 X,sg 2 Y] rfl
theorem phT_smul (t0 t1 t2:Quo m) (k:Zp p) (X:Quo m):phT t0 t1 t2 (Quo.mk m (Pol.C k)*X)=Quo.mk m (Pol.C k)*phT t0 t1 t2 X:=by
 unfold phT
 rw [sgn_mul,sgn_mul,sgn_const,sgn_const]
 exact ring_of [t0,t1,t2,X,Quo.mk m (Pol.C k),sg 1 X,sg 2 X] rfl
theorem phT_zero (t0 t1 t2:Quo m):phT t0 t1 t2 0=0:=by
 unfold phT
 rw [sg_zero,sg_zero,Gq.mul_zero,Gq.mul_zero,Gq.mul_zero,Gq.add_zero,Gq.add_zero]
theorem phT_sum (t0 t1 t2:Quo m) (f:Nat→Quo m):∀n,phT t0 t1 t2 (sumR f n)=sumR (fun i=>phT t0 t1 t2 (f i)) n
 | 0=>phT_zero t0 t1 t2
 | n+1=>by rw [sumR,phT_add,phT_sum t0 t1 t2 f n]; rfl
end
section
variable {p:Int} {m:Fp p}
theorem phI_phT (t0 t1 t2:Quo m):∀(k:Nat) (X:Quo m),phT t0 t1 t2 (phI t0 t1 t2 k X)=phI t0 t1 t2 k (phT t0 t1 t2 X)
 | 0,_=>rfl
 | k+1,X=>phI_phT t0 t1 t2 k (phT t0 t1 t2 X)
noncomputable def phS (t0 t1 t2:Quo m) (a:Fp p) (X:Quo m):Quo m:=phA t0 t1 t2 a X a.len
theorem phS_eq (t0 t1 t2:Quo m) {a:Fp p} (X:Quo m) {n:Nat} (h:a.len≤n):phA t0 t1 t2 a X n=phS t0 t1 t2 a X:=phA_len t0 t1 t2 X h
theorem phS_C (t0 t1 t2:Quo m) (k:Zp p) (a:Fp p) (X:Quo m):phS t0 t1 t2 (Pol.C k*a) X=Quo.mk m (Pol.C k)*phS t0 t1 t2 a X:=by
 have h1:(Pol.C k*a).len≤a.len:=Pol.len_le (Pol.lt_Cmul _ a.lt_len)
 rw [←phS_eq t0 t1 t2 X h1]
 unfold phS phA
 rw [←sumR_mul]
 refine sumR_congr fun i _=>?_
 rw [Pol.c_Cmul,Pol.C_mul,Quo.mk_mul,Gq.mul_assoc]
theorem phS_X (t0 t1 t2:Quo m) (a:Fp p) (X:Quo m):phS t0 t1 t2 (Pol.X*a) X=phS t0 t1 t2 a (phT t0 t1 t2 X):=by
 have h1:(Pol.X*a).len≤a.len+1:=Pol.len_le fun i hi=>by rw [Pol.c_Xmul,if_neg (by omega),a.lt_len _ (by omega)]
 rw [←phS_eq t0 t1 t2 X h1]
 unfold phS phA
 rw [sumR_shift,Pol.c_Xmul,if_pos rfl,Pol.C_zero,Quo.mk_zero,Gq.zero_mul,Gq.zero_add]
 refine sumR_congr fun i _=>?_
 rw [Pol.c_Xmul,if_neg (by omega)]
 rfl
theorem phS_zero (t0 t1 t2 X:Quo m):phS t0 t1 t2 (0:Fp p) X=0:=by
 unfold phS phA
 rw [Pol.len_zero]
 rfl
end
section
variable {p:Int} [ip:IsP p] {m:Fp p}
theorem phS_T (t0 t1 t2:Quo m) (a:Fp p) (X:Quo m):phT t0 t1 t2 (phS t0 t1 t2 a X)=phS t0 t1 t2 a (phT t0 t1 t2 X):=by
 unfold phS phA
 rw [phT_sum]
 refine sumR_congr fun i _=>?_
 rw [phT_smul,phI_phT]
theorem phS_add (t0 t1 t2:Quo m) (a b:Fp p) (X:Quo m):phS t0 t1 t2 (a+b) X=phS t0 t1 t2 a X+phS t0 t1 t2 b X:=by
 have h1:(a+b).len≤a.len+b.len:=Pol.len_add_le (by omega) (by omega)
 rw [←phS_eq t0 t1 t2 X h1,←phS_eq t0 t1 t2 X (show a.len≤a.len+b.len by omega),←phS_eq t0 t1 t2 X (show b.len≤a.len+b.len by omega)]
 unfold phA
 rw [←sumR_add]
 refine sumR_congr fun i _=>?_
 rw [Pol.c_add,Pol.C_add,Quo.mk_add]
 exact ring_of [Quo.mk m (Pol.C (a.c i)),Quo.mk m (Pol.C (b.c i)),phI t0 t1 t2 i X] rfl
theorem phS_one (t0 t1 t2 X:Quo m):phS t0 t1 t2 (1:Fp p) X=X:=by
 unfold phS phA
 rw [Pol.len_one]
 show 0+Quo.mk m (Pol.C ((1:Fp p).c 0))*X=_
 rw [show (1:Fp p).c 0=1 from rfl,Pol.C_one,Quo.mk_one,Gq.one_mul,Gq.zero_add]
theorem phS_mul (t0 t1 t2:Quo m) (b:Fp p):∀(a:Fp p) (X:Quo m),phS t0 t1 t2 (a*b) X=phS t0 t1 t2 a (phS t0 t1 t2 b X):=fun a=>
 pol_indK (P:=fun a=>∀X:Quo m,phS t0 t1 t2 (a*b) X=phS t0 t1 t2 a (phS t0 t1 t2 b X)) (fun X=>by
  rw [Gq.zero_mul,phS_zero,phS_zero]) (fun c a ih X=>by
  have e:(Pol.C c+Pol.X*a)*b=Pol.C c*b+Pol.X*(a*b):=ring_of [Pol.C c,Pol.X,a,b] rfl
  have e1:Pol.C c=Pol.C c*(1:Fp p):=(Gq.mul_one _).symm
  rw [e,phS_add,phS_C,phS_X,ih,phS_add,phS_X,phS_T]
  conv=>rhs; rw [e1]
  rw [phS_C,phS_one]) a.len a a.lt_len
theorem val_comp (hm:Fld m) {g d b y x:Fp p}:drVal m g d y (drVal m g d b x)=drVal m g d (b*y) x:=by
 refine mk_inj hm (drVal_len hm.mon.2) (drVal_len hm.mon.2) ?_
 rw [drVal_q,drVal_q,drVal_q]
 show phS _ _ _ y (phS _ _ _ b _)=phS _ _ _ (b*y) _
 rw [←phS_mul,Gq.mul_comm]
end
end Pe

namespace Pe
open Go Gq
theorem dd_B:Z25_B=cutC 8 Z25_B (dropC 8 Z25_B):=by
 rw [Z25_B]; rfl
theorem dd_B1:dropC 8 Z25_B=cutC 6 (dropC 8 Z25_B) (dropC 14 Z25_B):=by
 rw [Z25_B]; rfl
theorem dd_B2:dropC 14 Z25_B=cutC 6 (dropC 14 Z25_B) (dropC 20 Z25_B):=by
 rw [Z25_B]; rfl
theorem dd_B3:dropC 20 Z25_B=cutC 2 (dropC 20 Z25_B) (dropC 22 Z25_B):=by
 rw [Z25_B]; rfl
theorem dd_1 {O:Oracle} (t:Cd) {code u v w a n1 n2 n3 b x val:List Int} {p n one two:Int} {LD:List D} {isd:Bool}
 (e0:ask O F26 [.sl .leaf (ints .u8 code)]=some (D.bool false))
 (d1:ask O F31 [.sl .leaf (ints .u8 code)]=some (.tup [drD p u v w,(D.arr 64 .leaf (ints .u8 a))]))
 (a1:ask O F5 [drD p u v w,(D.arr 64 .leaf (ints .u8 a))]=some (.tup [.sl (.arr 64 .leaf) LD,(D.int .i64 one)]))
 (a2:ask O F36 [drD p u v w,(D.arr 64 .leaf (ints .u8 a))]=some (.tup [.sl (.arr 64 .leaf) LD,(D.int .i64 one)]))
 (a3:ask O F29 [.sl (.arr 64 .leaf) LD,.sl (.arr 64 .leaf) LD]=some (D.bool true))
 (a4:ask O Ff [drD p u v w]=some (D.bool isd)) (a5:ask O F39 [drD p u v w]=some (D.bool isd))
 (d2:ask O F32 [.sl .leaf (ints .u8 code)]=some (.tup [drD n n1 n2 n3,(D.arr 64 .leaf (ints .u8 b)),(D.arr 64 .leaf (ints .u8 x))]))
 (b1:ask O F6 [drD n n1 n2 n3,(D.arr 64 .leaf (ints .u8 b)),(D.arr 64 .leaf (ints .u8 x))]=some (.tup [(D.arr 64 .leaf (ints .u8 val)),(D.int .i64 two)]))
 (b2:ask O F37 [drD n n1 n2 n3,(D.arr 64 .leaf (ints .u8 b)),(D.arr 64 .leaf (ints .u8 x))]=some (.tup [(D.arr 64 .leaf (ints .u8 val)),(D.int .i64 two)]))
 (q1:D.beq (.arr 64 .leaf .int) (D.arr 64 .leaf (ints .u8 val)) (D.arr 64 .leaf (ints .u8 val))=some true) :
 dn O 0 (cutC 8 Z25_B t) ⟨[(0,.d (.sl .leaf (ints .u8 code)))],[.hole,.hole,.hole,.hole,.hole,.hole,.hole,.hole,.hole,.hole,.hole,.hole,.hole,.hole,.hole,.hole,.hole,.hole,.hole,.hole,.hole,.hole,.hole,.hole,.hole,.hole,.hole,.hole,.hole]⟩ =
  dn O 0 t ⟨[(0,.d (.sl .leaf (ints .u8 code))),(9,.ptr 2 []),(10,.ptr 3 []),(11,.ptr 4 []),(12,.ptr 5 []),(13,(.d (.int .i64 two))),(122,(.d (.bool false)))],[.hole,.hole,.box false (drD n n1 n2 n3),.box false (D.arr 64 .leaf (ints .u8 b)),.box false (D.arr 64 .leaf (ints .u8 x)),.box false (D.arr 64 .leaf (ints .u8 val)),.hole,.hole,.hole,.hole,.hole,.hole,.hole,.hole,.hole,.hole,.hole,.hole,.hole,.hole,.hole,.hole,.hole,.hole,.hole,.hole,.hole,.hole,.hole]⟩:=by
 have hb:D.beq .bool (D.bool isd) (D.bool isd)=some true:=by cases isd <;> rfl
 simp -implicitDefEqProofs [Z25_B,cutC_0,cutC_s,dn_cond,e0,d1,a1,a2,a3,a4,a5,d2,b1,b2,q1,hb]
theorem dd_2 {O:Oracle} (t:Cd) {code k1 k2 k3 iv l1 l2 l3 c t1 t2 t3 n1 n2 n3 b x val:List Int} {n k l two three four t0:Int}
 (d1:ask O F33 [.sl .leaf (ints .u8 code)]=some (drD k k1 k2 k3))
 (a1:ask O Fe [drD k k1 k2 k3]=some (.tup [(D.arr 64 .leaf (ints .u8 iv)),(D.int .i64 three)]))
 (a2:ask O F38 [drD k k1 k2 k3]=some (.tup [(D.arr 64 .leaf (ints .u8 iv)),(D.int .i64 three)]))
 (q1:D.beq (.arr 64 .leaf .int) (D.arr 64 .leaf (ints .u8 iv)) (D.arr 64 .leaf (ints .u8 iv))=some true)
 (d2:ask O F35 [.sl .leaf (ints .u8 code)]=some (.tup [drD l l1 l2 l3,(D.arr 64 .leaf (ints .u8 c))]))
 (b1:ask O Fj [drD l l1 l2 l3,(D.arr 64 .leaf (ints .u8 c))]=some (.tup [drD t0 t1 t2 t3,(D.int .i64 four)]))
 (b2:ask O F3b [drD l l1 l2 l3,(D.arr 64 .leaf (ints .u8 c))]=some (.tup [drD t0 t1 t2 t3,(D.int .i64 four)]))
 (q2:D.beq (.st [.leaf,.arr 64 .leaf,.arr 64 .leaf,.arr 64 .leaf] [.int,.arr 64 .leaf .int,.arr 64 .leaf .int,.arr 64 .leaf .int]) (drD t0 t1 t2 t3) (drD t0 t1 t2 t3)=some true) :
 dn O 0 (cutC 6 (dropC 8 Z25_B) t) ⟨[(0,.d (.sl .leaf (ints .u8 code))),(9,.ptr 2 []),(10,.ptr 3 []),(11,.ptr 4 []),(12,.ptr 5 []),(13,(.d (.int .i64 two))),(122,(.d (.bool false)))],[.hole,.hole,.box false (drD n n1 n2 n3),.box false (D.arr 64 .leaf (ints .u8 b)),.box false (D.arr 64 .leaf (ints .u8 x)),.box false (D.arr 64 .leaf (ints .u8 val)),.hole,.hole,.hole,.hole,.hole,.hole,.hole,.hole,.hole,.hole,.hole,.hole,.hole,.hole,.hole,.hole,.hole,.hole,.hole,.hole,.hole,.hole,.hole]⟩ =
  dn O 0 t ⟨[(0,.d (.sl .leaf (ints .u8 code))),(9,.ptr 2 []),(10,.ptr 3 []),(11,.ptr 4 []),(12,.ptr 5 []),(13,(.d (.int .i64 two))),(21,.ptr 10 []),(23,.ptr 12 []),(24,(.d (.int .i64 four))),(167,(.d (.bool false)))],[.hole,.hole,.box false (drD n n1 n2 n3),.box false (D.arr 64 .leaf (ints .u8 b)),.box false (D.arr 64 .leaf (ints .u8 x)),.box false (D.arr 64 .leaf (ints .u8 val)),.hole,.hole,.hole,.hole,.box false (drD l l1 l2 l3),.hole,.box false (drD t0 t1 t2 t3),.hole,.hole,.hole,.hole,.hole,.hole,.hole,.hole,.hole,.hole,.hole,.hole,.hole,.hole,.hole,.hole]⟩:=by
 rw [Z25_B]
 simp -implicitDefEqProofs [dropC,cutC_0,cutC_s,dn_cond,d1,a1,a2,q1,d2,b1,b2,q2]
theorem dd_3 {O:Oracle} (t:Cd) {code s1 s2 s3 r1 r2 r3 u1 u2 u3 v1 v2 v3 l1 l2 l3 t1 t2 t3 n1 n2 n3 b x val:List Int} {n l two four t0 s r u v five six:Int} {yes iso:Bool} {LD:List D}
 (d1:ask O F30 [.sl .leaf (ints .u8 code)]=some (.tup [drD s s1 s2 s3,drD r r1 r2 r3]))
 (a1:ask O F4 [drD s s1 s2 s3,drD r r1 r2 r3]=some (.tup [(D.bool yes),(D.int .i64 five)]))
 (a2:ask O F2z [drD s s1 s2 s3,drD r r1 r2 r3]=some (.tup [(D.bool yes),(D.int .i64 five)]))
 (d2:ask O F34 [.sl .leaf (ints .u8 code)]=some (.tup [drD u u1 u2 u3,drD v v1 v2 v3,.sl (.arr 64 .leaf) LD]))
 (b1:ask O Fg [drD u u1 u2 u3,drD v v1 v2 v3,.sl (.arr 64 .leaf) LD]=some (.tup [(D.bool iso),(D.int .i64 six)]))
 (b2:ask O F3a [drD u u1 u2 u3,drD v v1 v2 v3,.sl (.arr 64 .leaf) LD]=some (.tup [(D.bool iso),(D.int .i64 six)])) :
 dn O 0 (cutC 6 (dropC 14 Z25_B) t) ⟨[(0,.d (.sl .leaf (ints .u8 code))),(9,.ptr 2 []),(10,.ptr 3 []),(11,.ptr 4 []),(12,.ptr 5 []),(13,(.d (.int .i64 two))),(21,.ptr 10 []),(23,.ptr 12 []),(24,(.d (.int .i64 four))),(167,(.d (.bool false)))],[.hole,.hole,.box false (drD n n1 n2 n3),.box false (D.arr 64 .leaf (ints .u8 b)),.box false (D.arr 64 .leaf (ints .u8 x)),.box false (D.arr 64 .leaf (ints .u8 val)),.hole,.hole,.hole,.hole,.box false (drD l l1 l2 l3),.hole,.box false (drD t0 t1 t2 t3),.hole,.hole,.hole,.hole,.hole,.hole,.hole,.hole,.hole,.hole,.hole,.hole,.hole,.hole,.hole,.hole]⟩ =
  dn O 0 t ⟨[(0,.d (.sl .leaf (ints .u8 code))),(9,.ptr 2 []),(10,.ptr 3 []),(11,.ptr 4 []),(12,.ptr 5 []),(13,(.d (.int .i64 two))),(21,.ptr 10 []),(23,.ptr 12 []),(24,(.d (.int .i64 four))),(220,(.d (.bool false)))],[.hole,.hole,.box false (drD n n1 n2 n3),.box false (D.arr 64 .leaf (ints .u8 b)),.box false (D.arr 64 .leaf (ints .u8 x)),.box false (D.arr 64 .leaf (ints .u8 val)),.hole,.hole,.hole,.hole,.box false (drD l l1 l2 l3),.hole,.box false (drD t0 t1 t2 t3),.hole,.hole,.hole,.hole,.hole,.hole,.hole,.hole,.hole,.hole,.hole,.hole,.hole,.hole,.hole,.hole]⟩:=by
 have hb:D.beq .bool (D.bool yes) (D.bool yes)=some true:=by cases yes <;> rfl
 have hb2:D.beq .bool (D.bool iso) (D.bool iso)=some true:=by cases iso <;> rfl
 rw [Z25_B]
 simp -implicitDefEqProofs [dropC,cutC_0,cutC_s,dn_cond,d1,a1,a2,hb,d2,b1,b2,hb2]
structure TwSaid (O:Oracle) (l:Int) (l1 l2 l3:List Int) (t0:Int) (t1 t2 t3:List Int):Prop where
 ex:∃(iv f g:List Int),ask O Fe [drD l l1 l2 l3]=some (.tup [(D.arr 64 .leaf (ints .u8 iv)),(D.int .i64 0)])∧ask O Fe [drD t0 t1 t2 t3]=some (.tup [(D.arr 64 .leaf (ints .u8 iv)),(D.int .i64 0)]) ∧
  ask O F4 [drD l l1 l2 l3,drD t0 t1 t2 t3]=some (.tup [(D.bool true),(D.int .i64 0)]) ∧
  ask O Fc [drD l l1 l2 l3]=some (.tup [(D.arr 64 .leaf (ints .u8 f)),(D.arr 64 .leaf (ints .u8 g)),(D.int .i64 0)])∧ask O Fc [drD t0 t1 t2 t3]=some (.tup [(D.arr 64 .leaf (ints .u8 f)),(D.arr 64 .leaf (ints .u8 g)),(D.int .i64 0)]) ∧
  D.beq (.arr 64 .leaf .int) (D.arr 64 .leaf (ints .u8 iv)) (D.arr 64 .leaf (ints .u8 iv))=some true∧D.beq (.arr 64 .leaf .int) (D.arr 64 .leaf (ints .u8 f)) (D.arr 64 .leaf (ints .u8 f))=some true∧D.beq (.arr 64 .leaf .int) (D.arr 64 .leaf (ints .u8 g)) (D.arr 64 .leaf (ints .u8 g))=some true
theorem dd_4 {O:Oracle} (t:Cd) {code l1 l2 l3 t1 t2 t3 n1 n2 n3 b x val:List Int} {n l two four t0:Int} (h2:two=0) (h4:four≠0∨four=0∧TwSaid O l l1 l2 l3 t0 t1 t2 t3) :
 dn O 0 (cutC 2 (dropC 20 Z25_B) t) ⟨[(0,.d (.sl .leaf (ints .u8 code))),(9,.ptr 2 []),(10,.ptr 3 []),(11,.ptr 4 []),(12,.ptr 5 []),(13,(.d (.int .i64 two))),(21,.ptr 10 []),(23,.ptr 12 []),(24,(.d (.int .i64 four))),(220,(.d (.bool false)))],[.hole,.hole,.box false (drD n n1 n2 n3),.box false (D.arr 64 .leaf (ints .u8 b)),.box false (D.arr 64 .leaf (ints .u8 x)),.box false (D.arr 64 .leaf (ints .u8 val)),.hole,.hole,.hole,.hole,.box false (drD l l1 l2 l3),.hole,.box false (drD t0 t1 t2 t3),.hole,.hole,.hole,.hole,.hole,.hole,.hole,.hole,.hole,.hole,.hole,.hole,.hole,.hole,.hole,.hole]⟩ =
  dn O 0 t ⟨[(0,.d (.sl .leaf (ints .u8 code))),(9,.ptr 2 []),(10,.ptr 3 []),(11,.ptr 4 []),(12,.ptr 5 []),(289,(.d (.bool false)))],[.hole,.hole,.box false (drD n n1 n2 n3),.box false (D.arr 64 .leaf (ints .u8 b)),.box false (D.arr 64 .leaf (ints .u8 x)),.box false (D.arr 64 .leaf (ints .u8 val)),.hole,.hole,.hole,.hole,.hole,.hole,.hole,.hole,.hole,.hole,.hole,.hole,.hole,.hole,.hole,.hole,.hole,.hole,.hole,.hole,.hole,.hole,.hole]⟩:=by
 subst h2
 rw [Z25_B]
 rcases h4 with h4 | ⟨rfl,⟨iv,f,g,x1,x2,x3,x4,x5,q1,q2,q3⟩⟩
 ·simp -implicitDefEqProofs [dropC,cutC_0,cutC_s,dn_cond,h4]
 ·simp -implicitDefEqProofs [dropC,cutC_0,cutC_s,dn_cond,x1,x2,x3,x4,x5,q1,q2,q3]
theorem dd_5 {O:Oracle} {code l1 l2 l3 t1 t2 t3 n1 n2 n3 b x:List Int} {n l two four t0:Int} (h2:two≠0) (h4:four≠0∨four=0∧TwSaid O l l1 l2 l3 t0 t1 t2 t3) :
 dn O 0 (dropC 20 Z25_B) ⟨[(0,.d (.sl .leaf (ints .u8 code))),(9,.ptr 2 []),(10,.ptr 3 []),(11,.ptr 4 []),(12,.ptr 5 []),(13,(.d (.int .i64 two))),(21,.ptr 10 []),(23,.ptr 12 []),(24,(.d (.int .i64 four))),(220,(.d (.bool false)))],[.hole,.hole,.box false (drD n n1 n2 n3),.box false (D.arr 64 .leaf (ints .u8 b)),.box false (D.arr 64 .leaf (ints .u8 x)),.box false (D.arr 64 .leaf (ints .u8 (pad []))),.hole,.hole,.hole,.hole,.box false (drD l l1 l2 l3),.hole,.box false (drD t0 t1 t2 t3),.hole,.hole,.hole,.hole,.hole,.hole,.hole,.hole,.hole,.hole,.hole,.hole,.hole,.hole,.hole,.hole]⟩ =
  some (.ret,⟨[(2,(.d (.bool true)))],[.hole,.hole,.hole,.hole,.hole,.hole,.hole,.hole,.hole,.hole,.hole,.hole,.hole,.hole,.hole,.hole,.hole,.hole,.hole,.hole,.hole,.hole,.hole,.hole,.hole,.hole,.hole,.hole,.hole]⟩):=by
 have q0:D.beq (.arr 64 .leaf .int) (D.arr 64 .leaf (ints .u8 (pad []))) (D.arr 64 .leaf (ints .u8 (pad [])))=some true:=by rw [beq_P (pad_length _) (pad_length _),decide_eq_true rfl]
 rw [Z25_B]
 rcases h4 with h4 | ⟨rfl,⟨iv,f,g,x1,x2,x3,x4,x5,q1,q2,q3⟩⟩
 ·simp -implicitDefEqProofs [dropC,dn_cond,h2,h4,q0]
 ·simp -implicitDefEqProofs [dropC,dn_cond,h2,x1,x2,x3,x4,x5,q0,q1,q2,q3]
theorem dd_6 {O:Oracle} {code n1 n2 n3 b x val y again prod whole C1 C2:List Int} {a1 a2:Nat} {s1 s2 n thirteen fourteen:Int}
 (r1:O F2a [.d (.sl .leaf (ints .u8 code)),.d (.int .u64 9906)] []=some (.ptr 0 [],[],[srcB C1 a1 s1]))
 (r2:O F28 [.ptr 0 [],(.d (.int .i64 n)),(.d (.int .i64 2))] [srcB C1 a1 s1]=some (.d (D.arr 64 .leaf (ints .u8 y)),[srcB C2 a2 s2],[]))
 (v1:ask O F6 [drD n n1 n2 n3,(D.arr 64 .leaf (ints .u8 y)),(D.arr 64 .leaf (ints .u8 val))]=some (.tup [(D.arr 64 .leaf (ints .u8 again)),(D.int .i64 0)]))
 (m1:ask O Fi [(D.int .i64 n),(D.arr 64 .leaf (ints .u8 b)),(D.arr 64 .leaf (ints .u8 y))]=some (.tup [(D.arr 64 .leaf (ints .u8 prod)),(D.int .i64 thirteen)]))
 (v2:ask O F6 [drD n n1 n2 n3,(D.arr 64 .leaf (ints .u8 prod)),(D.arr 64 .leaf (ints .u8 x))]=some (.tup [(D.arr 64 .leaf (ints .u8 whole)),(D.int .i64 fourteen)]))
 (h:thirteen≠0∨thirteen=0∧fourteen=0∧D.beq (.arr 64 .leaf .int) (D.arr 64 .leaf (ints .u8 whole)) (D.arr 64 .leaf (ints .u8 again))=some true) :
 dn O 0 (dropC 22 Z25_B) ⟨[(0,.d (.sl .leaf (ints .u8 code))),(9,.ptr 2 []),(10,.ptr 3 []),(11,.ptr 4 []),(12,.ptr 5 []),(289,(.d (.bool false)))],[.hole,.hole,.box false (drD n n1 n2 n3),.box false (D.arr 64 .leaf (ints .u8 b)),.box false (D.arr 64 .leaf (ints .u8 x)),.box false (D.arr 64 .leaf (ints .u8 val)),.hole,.hole,.hole,.hole,.hole,.hole,.hole,.hole,.hole,.hole,.hole,.hole,.hole,.hole,.hole,.hole,.hole,.hole,.hole,.hole,.hole,.hole,.hole]⟩ =
  some (.ret,⟨[(2,(.d (.bool true)))],[.hole,.hole,.hole,.hole,.hole,.hole,.hole,.hole,.hole,.hole,.hole,.hole,.hole,.hole,.hole,.hole,.hole,.hole,.hole,.hole,.hole,.hole,.hole,.hole,.hole,.hole,.hole,.hole,.hole]⟩):=by
 rw [Z25_B]
 rcases h with h | ⟨rfl,rfl,h⟩
 ·simp -implicitDefEqProofs [dropC,r1,r2,v1,m1,v2,h,List.idxOf,List.findIdx,List.findIdx.go]
 ·simp -implicitDefEqProofs [dropC,r1,r2,v1,m1,v2,h,List.idxOf,List.findIdx,List.findIdx.go]
end Pe

namespace Pe
open Go Gq
variable {T:Nat→Option Fn} {A:Oracle}
theorem same_P {l:List Int} (h:l.length=64):D.beq (.arr 64 .leaf .int) (D.arr 64 .leaf (ints .u8 l)) (D.arr 64 .leaf (ints .u8 l))=some true:=by rw [beq_P h h,decide_eq_true rfl]
theorem tw_said (hin:K_Invariant (den T A) Fe) (har:K_AreIso (den T A) F4) (hfr:K_FrobOf (den T A) Fc) {n:Int} {u v w c:List Int} (au:Arr u) (av:Arr v) (aw:Arr w) (ac:Arr c) {t0:Int} {t1 t2 t3:List Int} {four:Int} (e:twistD n u v w c=.tup [drD t0 t1 t2 t3,(D.int .i64 four)]):four≠0∨four=0∧TwSaid (den T A) n u v w t0 t1 t2 t3:=by
 classical
 by_cases h4:four=0
 ·refine .inr ⟨h4,?_⟩
  subst h4
  by_cases h:IsDr n u v w∧isPl n c=true
  ·obtain ⟨h1,h2⟩:=h
   have h1':=h1
   obtain ⟨ip,m,g,d,rfl,rfl,rfl,hm,hg,hd,hd0⟩:=h1
   obtain ⟨a,hal,rfl⟩:=row_of_isPl ac.2 ac.1 h2
   have h5:=hm.five
   have hp:=IsP.pos (p:=n)
   rw [twistD_good h1' (by omega) (by omega) (by omega) hal] at e
   by_cases ha:a≠0∧a.len<m.len
   ·rw [if_pos ha] at e
    have e':n=t0∧(D.arr 64 .leaf (ints .u8 (pad (row m))))=(D.arr 64 .leaf (ints .u8 t1))∧(D.arr 64 .leaf (ints .u8 (pad (row (twc m a g (n-1).toNat)))))=(D.arr 64 .leaf (ints .u8 t2))∧(D.arr 64 .leaf (ints .u8 (pad (row (twc m a d (n*n-1).toNat)))))=(D.arr 64 .leaf (ints .u8 t3)):=by simpa using e
    obtain ⟨q0,q1,q2,q3⟩:=e'
    subst q0
    have inj:∀{x y:List Int},(D.arr 64 .leaf (ints .u8 x))=(D.arr 64 .leaf (ints .u8 y))→x=y:=fun {x y} h=>by
     have h1:ints .u8 x=ints .u8 y:=by simpa using h
     unfold ints at h1
     exact List.map_inj_right (fun a b hab=>by simpa using hab) |>.1 h1
    have r1:=inj q1; have r2:=inj q2; have r3:=inj q3
    subst r1 r2 r3
    have l1:=twc_len hm a g (n-1).toNat
    have l2:=twc_len hm a d (n*n-1).toNat
    have l3:=twc_ne hm ha.1 ha.2 hd hd0
    have hT':IsDr n (pad (row m)) (pad (row (twc m a g (n-1).toNat))) (pad (row (twc m a d (n*n-1).toNat))):=⟨ip,m,_,_,rfl,rfl,rfl,hm,l1,l2,l3⟩
    have ag:=arr_row (twc m a g (n-1).toNat)
    have ad:=arr_row (twc m a d (n*n-1).toNat)
    have i1:=hin n (pad (row m)) (pad (row g)) (pad (row d)) au.2 au.1 av.2 av.1 aw.2 aw.1
    have i2:=hin n (pad (row m)) _ _ au.2 au.1 ag.2 ag.1 ad.2 ad.1
    rw [jvD_good h1' (by omega) (by omega) (by omega)] at i1
    rw [jvD_good hT' (by omega) (by omega) (by omega),tw_inv hm ha.1 ha.2 hd hd0] at i2
    have f1:=hfr n (pad (row m)) (pad (row g)) (pad (row d)) au.2 au.1 av.2 av.1 aw.2 aw.1
    have f2:=hfr n (pad (row m)) _ _ au.2 au.1 ag.2 ag.1 ad.2 ad.1
    rw [frD_good h1' (by omega) (by omega) (by omega)] at f1
    rw [frD_good hT' (by omega) (by omega) (by omega),tw_frA hm ha.1 ha.2 hg hd,tw_frB hm ha.1 ha.2] at f2
    have s1:=har n (pad (row m)) (pad (row g)) (pad (row d)) n (pad (row m)) _ _ au.2 au.1 av.2 av.1 aw.2 aw.1 au.2 au.1 ag.2 ag.1 ad.2 ad.1
    have hc0:codePr n (pad (row m)) (pad (row g)) (pad (row d)) n (pad (row m)) (pad (row (twc m a g (n-1).toNat))) (pad (row (twc m a d (n*n-1).toNat)))=0:=(codePr_01 ..).2 ⟨h1',hT',rfl,rfl⟩
    have hI:IsoTo n (pad (row m)) (pad (row g)) (pad (row d)) (pad (row (twc m a g (n-1).toNat))) (pad (row (twc m a d (n*n-1).toNat))):=by
     refine (isoTo_iff (by omega) (by omega) (by omega)).2 ⟨(numOf a).toNat,?_⟩
     obtain ⟨n0,n1⟩:=numOf_in a
     have hpl:=ppow_le (p:=n) (n:=a.len) (by omega)
     have hle:n^a.len≤n^(m.len-1):=by
      obtain ⟨k,hk⟩:∃k,m.len-1=a.len+k:=⟨m.len-1-a.len,by omega⟩
      rw [hk,Int.pow_add]
      have h1:=ppow_pos (p:=n) a.len
      have h2:=ppow_pos (p:=n) k
      have h3:n^a.len*1≤n^a.len*n^k:=Int.mul_le_mul_of_nonneg_left (by omega) (by omega)
      omega
     have hne:numOf a≠0:=fun h=>ha.1 (by rw [←numP_numOf (a:=a) (by omega),h,numP_zero])
     have hcast:(((numOf a).toNat:Nat):Int)=numOf a:=Int.toNat_of_nonneg n0
     refine ⟨by omega,by rw [hcast]; omega,?_⟩
     unfold TwE
     rw [hcast,numP_numOf (by omega)]
     exact ⟨rfl,rfl⟩
    unfold arD at s1
    rw [if_pos hc0,decide_eq_true hI] at s1
    exact ⟨_,_,_,i1,i2,s1,f1,f2,same_P (pad_length _),same_P (pad_length _),same_P (pad_length _)⟩
   ·rw [if_neg ha] at e
    simp at e
  ·rw [twistD_bad h] at e
   simp at e
 ·exact .inl h4
def L_Drinfelds (O:Oracle):Prop:=∀code:List Int,Bytes code→code.length≤9223372036854775807→ask O F25 [.sl .leaf (ints .u8 code)]=some (D.bool true)
open Classical in
theorem law_Drinfelds (hT:T F25=some Z25) (hbig:C_big (den T A)) (hda:H_DrawTwistOf (den T A) F31) (hdv:H_DrawDrinfeldValue (den T A)) (hdi:H_DrawInvariantOf (den T A)) (hdt:H_DrawTwistOf (den T A) F35) (hdr:H_DrawAreIsomorphic (den T A)) (hdg:H_DrawIsIsogeny (den T A))
 (hac:K_DrAct (den T A) F5) (hacs:K_DrAct (den T A) F36) (hpo:C_polys9 (den T A)) (his:C_IsDr (den T A) Ff) (hiss:C_IsDr (den T A) F39) (hvl:K_DrVal (den T A) F6) (hvls:K_DrVal (den T A) F37)
 (hin:K_Invariant (den T A) Fe) (hins:K_Invariant (den T A) F38) (htw:K_TwistOf (den T A) Fj) (htws:K_TwistOf (den T A) F3b) (har:K_AreIso (den T A) F4) (hars:K_AreIso (den T A) F2z)
 (hii:K_IsIso (den T A) Fg) (hiis:K_IsIso (den T A) F3a) (hfr:K_FrobOf (den T A) Fc) (hro:H_roll (den T A)) (hp9:H_poly9 (den T A)) (hmu:K_MultiplyPolys (den T A)):L_Drinfelds (den T A):=by
 intro code hb hl
 have e0:=hbig (ints .u8 code)
 by_cases hc:(4096:Int)<(ints .u8 code).length
 ·rw [decide_eq_true hc] at e0
  refine ask_of hT rfl ?_
  simp -implicitDefEqProofs [Z25,Z25_B,dn_cond,e0]
 rw [decide_eq_false hc] at e0
 have hc4:code.length≤4096:=by
  rw [ints_length] at hc
  omega
 obtain ⟨p,u,v,w,a,d1,au,av,aw,aa⟩:=hda code hb hc4
 obtain ⟨n,n1,n2,n3,b,x,d2,an1,an2,an3,ab,ax⟩:=hdv code hb hc4
 obtain ⟨k,k1,k2,k3,d3,ak1,ak2,ak3⟩:=hdi code hb hc4
 obtain ⟨l,l1,l2,l3,c,d4,al1,al2,al3,ac⟩:=hdt code hb hc4
 obtain ⟨s,s1,s2,s3,r,r1,r2,r3,d5,as1,as2,as3,ar1,ar2,ar3⟩:=hdr code hb hc4
 obtain ⟨f,f1,f2,f3,g,g1,g2,g3,ls,d6,af1,af2,af3,ag1,ag2,ag3,als,hls⟩:=hdg code hb hc4
 have m1:=hac p u v w a au.2 au.1 av.2 av.1 aw.2 aw.1 aa.2 aa.1
 have m2:=hacs p u v w a au.2 au.1 av.2 av.1 aw.2 aw.1 aa.2 aa.1
 obtain ⟨o1,o2⟩:=daL_ok p u v w aa.2 aa.1
 have m3:=hpo (daL p u v w a) o1 (by omega)
 have m4:=his p u v w au.2 au.1 av.2 av.1 aw.2 aw.1
 have m5:=hiss p u v w au.2 au.1 av.2 av.1 aw.2 aw.1
 have v1:=hvl n n1 n2 n3 b x an1.2 an1.1 an2.2 an2.1 an3.2 an3.1 ab.2 ab.1 ax.2 ax.1
 have v2:=hvls n n1 n2 n3 b x an1.2 an1.1 an2.2 an2.1 an3.2 an3.1 ab.2 ab.1 ax.2 ax.1
 have i1:=hin k k1 k2 k3 ak1.2 ak1.1 ak2.2 ak2.1 ak3.2 ak3.1
 have i2:=hins k k1 k2 k3 ak1.2 ak1.1 ak2.2 ak2.1 ak3.2 ak3.1
 obtain ⟨iv,three,hiv,giv⟩:=jvD_form k k1 k2 k3
 rw [hiv] at i1 i2
 have t1:=htw l l1 l2 l3 c al1.2 al1.1 al2.2 al2.1 al3.2 al3.1 ac.2 ac.1
 have t2:=htws l l1 l2 l3 c al1.2 al1.1 al2.2 al2.1 al3.2 al3.1 ac.2 ac.1
 obtain ⟨q0,q1,q2,q3,four,htf,gq1,gq2,gq3⟩:=twistD_form l (u:=l1) (v:=l2) (w:=l3) (c:=c) al1.1
 rw [htf] at t1 t2
 have said:=tw_said hin har hfr al1 al2 al3 ac htf
 have y1:=har s s1 s2 s3 r r1 r2 r3 as1.2 as1.1 as2.2 as2.1 as3.2 as3.1 ar1.2 ar1.1 ar2.2 ar2.1 ar3.2 ar3.1
 have y2:=hars s s1 s2 s3 r r1 r2 r3 as1.2 as1.1 as2.2 as2.1 as3.2 as3.1 ar1.2 ar1.1 ar2.2 ar2.1 ar3.2 ar3.1
 obtain ⟨yes,five,hyes⟩:=arD_form s s1 s2 s3 r r1 r2 r3
 rw [hyes] at y1 y2
 have z1:=hii f f1 f2 f3 g g1 g2 g3 ls af1.2 af1.1 af2.2 af2.1 af3.2 af3.1 ag1.2 ag1.1 ag2.2 ag2.1 ag3.2 ag3.1 als (by omega)
 have z2:=hiis f f1 f2 f3 g g1 g2 g3 ls af1.2 af1.1 af2.2 af2.1 af3.2 af3.1 ag1.2 ag1.1 ag2.2 ag2.1 ag3.2 ag3.1 als (by omega)
 obtain ⟨iso,six,hiso⟩:=isoD_form f f1 f2 f3 g g1 g2 g3 ls
 rw [hiso] at z1 z2
 have qT:=beq_drs q0 (u:=q1) (v:=q2) (w:=q3) (v':=q2) (w':=q3) gq1 gq2 gq3 gq2 gq3
 rw [decide_eq_true ⟨rfl,rfl⟩] at qT
 by_cases h:IsDr n n1 n2 n3∧isPl n b=true∧isPl n x=true
 ·obtain ⟨h1,h2,h3⟩:=h
  have h1':=h1
  obtain ⟨ip,m,gg,dd,rfl,rfl,rfl,hm,hg,hd,hd0⟩:=h1
  obtain ⟨B,hbl,rfl⟩:=row_of_isPl ab.2 ab.1 h2
  obtain ⟨X,hxl,rfl⟩:=row_of_isPl ax.2 ax.1 h3
  have h5:=hm.five
  rw [drValD_good h1' (by omega) (by omega) (by omega) hbl hxl] at v1 v2
  have p1:=dd_1 (O:=den T A) (cutC 6 (dropC 8 Z25_B) (cutC 6 (dropC 14 Z25_B) (cutC 2 (dropC 20 Z25_B) (dropC 22 Z25_B)))) e0 d1 m1 m2 m3 m4 m5 d2 v1 v2 (same_P (pad_length _))
  have p2:=dd_2 (O:=den T A) (cutC 6 (dropC 14 Z25_B) (cutC 2 (dropC 20 Z25_B) (dropC 22 Z25_B))) (n:=n) (n1:=pad (row m)) (n2:=pad (row gg)) (n3:=pad (row dd)) (b:=pad (row B)) (x:=pad (row X)) (val:=pad (row (drVal m gg dd B X))) (two:=0) d3 i1 i2 (same_P giv) d4 t1 t2 qT
  have p3:=dd_3 (O:=den T A) (cutC 2 (dropC 20 Z25_B) (dropC 22 Z25_B)) (l:=l) (l1:=l1) (l2:=l2) (l3:=l3) (t0:=q0) (t1:=q1) (t2:=q2) (t3:=q3) (four:=four) (n:=n) (n1:=pad (row m)) (n2:=pad (row gg)) (n3:=pad (row dd)) (b:=pad (row B)) (x:=pad (row X)) (val:=pad (row (drVal m gg dd B X))) (two:=0) d5 y1 y2 d6 z1 z2
  have p4:=dd_4 (O:=den T A) (dropC 22 Z25_B) (code:=code) (n:=n) (n1:=pad (row m)) (n2:=pad (row gg)) (n3:=pad (row dd)) (b:=pad (row B)) (x:=pad (row X)) (val:=pad (row (drVal m gg dd B X))) (two:=0) rfl said
  obtain ⟨R1,w1,hs1⟩:=hro code 9906 hb hc4
  obtain ⟨y,R2,w2,hs2,hy⟩:=hp9 n R1 2 hs1 (by omega)
  rw [show ((2:Nat):Int)=2 from rfl] at w2
  have hvL:=drVal_len (g:=gg) (d:=dd) (a:=B) (x:=X) hm.mon.2
  have x1:=hvl n (pad (row m)) (pad (row gg)) (pad (row dd)) (pad (row y)) (pad (row (drVal m gg dd B X))) an1.2 an1.1 an2.2 an2.1 an3.2 an3.1 (pad_bytes _) (pad_length _) (pad_bytes _) (pad_length _)
  rw [drValD_good h1' (by omega) (by omega) (by omega) (by omega) (by omega),val_comp hm] at x1
  have x2:=hmu n B y hbl (by omega)
  have x3:=hvl n (pad (row m)) (pad (row gg)) (pad (row dd)) (pad (row (B*y))) (pad (row X)) an1.2 an1.1 an2.2 an2.1 an3.2 an3.1 (pad_bytes _) (pad_length _) (pad_bytes _) (pad_length _)
  have x4:=hvl n (pad (row m)) (pad (row gg)) (pad (row dd)) (pad []) (pad (row X)) an1.2 an1.1 an2.2 an2.1 an3.2 an3.1 arr_zero.2 (pad_length _) (pad_bytes _) (pad_length _)
  obtain ⟨vr,vk,hvr⟩:∃(vr:List Int) (vk:Int),drValD n (pad (row m)) (pad (row gg)) (pad (row dd)) (pad []) (pad (row X))=.tup [(D.arr 64 .leaf (ints .u8 vr)),(D.int .i64 vk)]:=by
   by_cases hh:IsDr n (pad (row m)) (pad (row gg)) (pad (row dd))∧isPl n (pad [])=true∧isPl n (pad (row X))=true
   ·have h0:=drValD_good (a:=(0:Fp n)) (x:=X) h1' (by omega) (by omega) (by omega) (by rw [Pol.len_zero]; omega) hxl
    rw [row_zero] at h0
    exact ⟨_,_,h0⟩
   ·exact ⟨_,_,drValD_bad hh⟩
  rw [hvr] at x4
  have fin:∃(prod whole:List Int) (thirteen fourteen:Int),ask (den T A) Fi [(D.int .i64 n),(D.arr 64 .leaf (ints .u8 (pad (row B)))),(D.arr 64 .leaf (ints .u8 (pad (row y))))]=some (.tup [(D.arr 64 .leaf (ints .u8 prod)),(D.int .i64 thirteen)])∧ask (den T A) F6 [drD n (pad (row m)) (pad (row gg)) (pad (row dd)),(D.arr 64 .leaf (ints .u8 prod)),(D.arr 64 .leaf (ints .u8 (pad (row X))))]=some (.tup [(D.arr 64 .leaf (ints .u8 whole)),(D.int .i64 fourteen)]) ∧
   (thirteen≠0∨thirteen=0∧fourteen=0∧D.beq (.arr 64 .leaf .int) (D.arr 64 .leaf (ints .u8 whole)) (D.arr 64 .leaf (ints .u8 (pad (row (drVal m gg dd (B*y) X)))))=some true):=by
   by_cases h64:(B*y).len≤64
   ·rw [if_pos h64] at x2
    rw [drValD_good h1' (by omega) (by omega) (by omega) h64 hxl] at x3
    exact ⟨_,_,_,_,x2,x3,.inr ⟨rfl,rfl,same_P (pad_length _)⟩⟩
   ·rw [if_neg h64] at x2
    exact ⟨_,_,_,_,x2,x4,.inl (by omega)⟩
  obtain ⟨prod,whole,thirteen,fourteen,x5,x6,x7⟩:=fin
  obtain ⟨_,_,_,rfl,_⟩:=hs1
  obtain ⟨_,_,_,rfl,_⟩:=hs2
  have p5:=dd_6 (O:=den T A) w1 w2 x1 x5 x6 x7
  have all:=p1.trans (p2.trans (p3.trans (p4.trans p5)))
  rw [←dd_B3,←dd_B2,←dd_B1,←dd_B] at all
  refine ask_of hT rfl ?_
  simp -implicitDefEqProofs [Z25,all,List.replicate]
 ·rw [drValD_bad h] at v1 v2
  have p1:=dd_1 (O:=den T A) (cutC 6 (dropC 8 Z25_B) (cutC 6 (dropC 14 Z25_B) (dropC 20 Z25_B))) e0 d1 m1 m2 m3 m4 m5 d2 v1 v2 (same_P (pad_length _))
  have p2:=dd_2 (O:=den T A) (cutC 6 (dropC 14 Z25_B) (dropC 20 Z25_B)) (n:=n) (n1:=n1) (n2:=n2) (n3:=n3) (b:=b) (x:=x) (val:=pad []) (two:=1) d3 i1 i2 (same_P giv) d4 t1 t2 qT
  have p3:=dd_3 (O:=den T A) (dropC 20 Z25_B) (l:=l) (l1:=l1) (l2:=l2) (l3:=l3) (t0:=q0) (t1:=q1) (t2:=q2) (t3:=q3) (four:=four) (n:=n) (n1:=n1) (n2:=n2) (n3:=n3) (b:=b) (x:=x) (val:=pad []) (two:=1) d5 y1 y2 d6 z1 z2
  have p4:=dd_5 (O:=den T A) (code:=code) (n:=n) (n1:=n1) (n2:=n2) (n3:=n3) (b:=b) (x:=x) (two:=1) (by omega) said
  have all:=p1.trans (p2.trans (p3.trans p4))
  rw [←dd_B2,←dd_B1,←dd_B] at all
  refine ask_of hT rfl ?_
  simp -implicitDefEqProofs [Z25,all,List.replicate]
end Pe

namespace Pe
open Go Gq
abbrev tyB:Ty:=.sl (.int .u8)
theorem has_B {d:D} (h:tyB.has d):∃l:List Int,d=.sl .leaf (ints .u8 l)∧Bytes l∧l.length≤9223372036854775807:=by
 cases d <;> simp only [Ty.has] at h
 obtain ⟨rfl,h1,h2⟩:=h
 obtain ⟨l,rfl,hb⟩:=has_bytes _ h2
 exact ⟨l,rfl,hb,by simpa [ints] using h1⟩
end Pe
