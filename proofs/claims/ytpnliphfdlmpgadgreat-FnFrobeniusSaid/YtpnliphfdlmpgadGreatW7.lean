/-
  A part of the proof: an evaluator for a small form of the code, its soundness, and contracts of functions over it.
-/
import Derived.Test.YtpnliphfdlmpgadGreatW1
import Derived.Test.YtpnliphfdlmpgadGreatW2
import Derived.Test.YtpnliphfdlmpgadGreatW3
import Derived.Test.YtpnliphfdlmpgadGreatW4
import Derived.Test.YtpnliphfdlmpgadGreatW5
import Derived.Test.YtpnliphfdlmpgadGreatW6

namespace Pe
open Go Gq
variable {T:Nat→Option Fn} {A:Oracle}
abbrev drQ:Q:=.st [.leaf,.arr 64 .leaf,.arr 64 .leaf,.arr 64 .leaf] [.int,.arr 64 .leaf .int,.arr 64 .leaf .int,.arr 64 .leaf .int]
theorem beq_dr (n:Int) {u v w:List Int} (hu:u.length=64) (hv:v.length=64) (hw:w.length=64):D.beq drQ (drD n u v w) (drD n u v w)=some true:=by
 have e1:D.beq .int (D.int .i64 n) (D.int .i64 n)=some true:=by
  show (if IntKind.i64=IntKind.i64 then some (decide (n=n)) else none)=_
  rw [if_pos rfl,decide_eq_true rfl]
 have same:∀{l:List Int},l.length=64→D.beq (.arr 64 .leaf .int) (D.arr 64 .leaf (ints .u8 l)) (D.arr 64 .leaf (ints .u8 l))=some true:=fun h=>by rw [beq_P h h,decide_eq_true rfl]
 show D.beqf [.int,.arr 64 .leaf .int,.arr 64 .leaf .int,.arr 64 .leaf .int] [(D.int .i64 n),(D.arr 64 .leaf (ints .u8 u)),(D.arr 64 .leaf (ints .u8 v)),(D.arr 64 .leaf (ints .u8 w))] [(D.int .i64 n),(D.arr 64 .leaf (ints .u8 u)),(D.arr 64 .leaf (ints .u8 v)),(D.arr 64 .leaf (ints .u8 w))]=some true
 rw [D.beqf,e1,Option.bind_some,if_pos rfl,D.beqf,same hu,Option.bind_some,if_pos rfl,D.beqf,same hv,Option.bind_some,if_pos rfl,D.beqf,same hw,Option.bind_some,if_pos rfl,D.beqf]
theorem l_fr0 {O:Oracle} {L:List Dr4} (h:∀q∈L,Sh4 q) (hl:L.length<100000) {CD:List D} {dr:D} {one p:Int} {sup:Bool} {a b o md:List Int}:∀(k i:Nat),i+k=L.length →
 dn O 0 (.loop Z26_L0) ⟨[(0,.d (.sl .leaf CD)),(3,.ptr 0 []),(4,.ptr 1 []),(5,.ptr 2 []),(6,(.d (.int .i64 one))),(10,(.d (.bool sup))),(14,.ptr 5 []),(24,(.d (.int .i64 p))),(25,.ptr 9 []),(26,.d (.sl dqSh (L.map drE))),(28,.d (.sl dqSh (L.map drE))),(30,(.d (.int .i64 i)))],[.box false dr,.box false (D.arr 64 .leaf (ints .u8 a)),.box false (D.arr 64 .leaf (ints .u8 b)),.hole,.hole,.box false (D.arr 64 .leaf (ints .u8 o)),.hole,.hole,.hole,.box false (D.arr 64 .leaf (ints .u8 md)),.hole,.hole,.hole,.hole,.hole]⟩ =
  some (.exit 0,⟨[(0,.d (.sl .leaf CD)),(3,.ptr 0 []),(4,.ptr 1 []),(5,.ptr 2 []),(6,(.d (.int .i64 one))),(10,(.d (.bool sup))),(14,.ptr 5 []),(24,(.d (.int .i64 p))),(25,.ptr 9 []),(26,.d (.sl dqSh (L.map drE))),(28,.d (.sl dqSh (L.map drE))),(30,(.d (.int .i64 L.length))),(172,(.d (.bool false)))],[.box false dr,.box false (D.arr 64 .leaf (ints .u8 a)),.box false (D.arr 64 .leaf (ints .u8 b)),.hole,.hole,.box false (D.arr 64 .leaf (ints .u8 o)),.hole,.hole,.hole,.box false (D.arr 64 .leaf (ints .u8 md)),.hole,.hole,.hole,.hole,.hole]⟩)
 | 0,i,hi=>by
  obtain rfl:i=L.length:=by omega
  have hL:(L.map drE).length=L.length:=List.length_map ..
  refine dn_stop ?_
  generalize L.map drE=LD at *
  simp -implicitDefEqProofs [Z26_L0,dn_cond,hL]
 | k+1,i,hi=>by
  have hlt:i<L.length:=by omega
  obtain ⟨a1,a2,a3⟩:=h _ (List.getElem_mem hlt)
  have e1:=beq_dr L[i].1 a1 a2 a3
  have hL:(L.map drE).length=L.length:=List.length_map ..
  have hx2:∀h:i<(L.map drE).length,(L.map drE)[i]'h=.st [.leaf,.arr 64 .leaf,.arr 64 .leaf,.arr 64 .leaf] [(D.int .i64 (L[i].1)),(D.arr 64 .leaf (ints .u8 (L[i].2.1))),(D.arr 64 .leaf (ints .u8 (L[i].2.2.1))),(D.arr 64 .leaf (ints .u8 (L[i].2.2.2)))]:=fun h=>by rw [List.getElem_map]
  have w4:IntKind.i64.wrap ((i:Int)+1)=((i+1:Nat):Int):=(w64 (x:=(i:Int)+1) (by omega)).trans (by omega)
  refine dn_round ?_ (l_fr0 h hl k (i+1) (by omega))
  generalize L[i].1=q1 at *
  generalize L[i].2.1=q2 at *
  generalize L[i].2.2.1=q3 at *
  generalize L[i].2.2.2=q4 at *
  generalize L.map drE=LD at *
  simp -implicitDefEqProofs [Z26_L0,dn_cond,hlt,hL,hx2,e1,w4]
def sumI (l:List Int):Int:=l.foldr (· + ·) 0
theorem sumI_set {l:List Int} {j:Nat} (h:j<l.length) (x:Int):sumI (l.set j x)=sumI l-cf l j+x:=by
 induction l generalizing j with
 | nil=>simp at h
 | cons y l ih=>
  cases j with
  | zero=>
   show x+sumI l=y+sumI l-y+x
   omega
  | succ j=>
   have:=ih (j:=j) (by simp at h; omega)
   show y+sumI (l.set j x)=y+sumI l-cf l j+x
   omega
theorem ctS_sum {p:Int} [IsP p]:∀(L:List Dr4) (Q:List Int),(∀q∈L,trN p q<Q.length)→sumI (ctS p L Q)=sumI Q+L.length
 | [],Q,_=>by rw [ctS]; simp
 | q::L,Q,h=>by
  rw [ctS,ctS_sum L _ (fun r hr=>by rw [List.length_set]; exact h r (by simp [hr])),sumI_set (h q (by simp)),List.length_cons]
  omega
theorem ctS_bound {p:Int} [IsP p]:∀(L:List Dr4) (Q:List Int) (n:Nat),(∀x∈Q,0≤x∧x≤n)→∀x∈ctS p L Q,0≤x∧x≤((n+L.length:Nat):Int)
 | [],Q,n,h=>h
 | q::L,Q,n,h=>fun x hx=>by
  have:=ctS_bound L _ (n+1) (set_bound h) x hx
  rw [List.length_cons]
  omega
theorem sumW_eq {l:List Int} {b:Nat} (hb:b≤1000000) (h:∀x∈l,0≤x∧x≤b) (hl:l.length≤1000000):∀n:Nat,n≤l.length→sumW l n=sumI (l.take n)∧0≤sumI (l.take n)∧sumI (l.take n)≤b*n
 | 0,_=>by simp [sumW,sumI]
 | n+1,hn=>by
  obtain ⟨h1,h2,h3⟩:=sumW_eq hb h hl n (by omega)
  have hx:=h _ (List.getElem_mem (show n<l.length by omega))
  have e:sumI (l.take (n+1))=sumI (l.take n)+l[n]:=by
   rw [List.take_succ_eq_append_getElem (show n<l.length by omega)]
   have g:∀(k:List Int) (y:Int),sumI (k++[y])=sumI k+y:=fun k y=>by
    induction k with
    | nil=>show y+0=0+y; omega
    | cons z k ih=>show z+sumI (k++[y])=z+sumI k+y; omega
   exact g _ _
  have hbn:(b:Int)*((n+1:Nat):Int)=b*n+b:=by rw [Int.natCast_add,Int.mul_add]; simp
  have hbb:(b:Int)*n≤1000000*1000000:=Int.mul_le_mul (by omega) (by omega) (by omega) (by omega)
  have hc:cf l n=l[n]:=cf_lt (by omega)
  refine ⟨?_,by omega,by omega⟩
  rw [sumW,h1,hc,e]
  exact w64 (by omega)
theorem ct_sum {p:Int} {l:List Int} (h:AdOk p l):sumW (ctL p l) (ctL p l).length=((adL p l).length:Int)∧(ctL p l).length≤343:=by
 have h':=h
 obtain ⟨ip,m,rfl,hm,h16⟩:=h
 have h5:=hm.five
 obtain ⟨c1,c2⟩:=ctN_pad (p:=p) hm
 have hlen:(ctL p (pad (row m))).length=ctN p (pad (row m)):=by rw [ctL_good h',ctS_length,List.length_replicate]
 have had:=(adL_ok p (pad (row m))).2
 have hg:∀q∈adL p (pad (row m)),GoodQ m q:=by
  rw [adL_good h' (by omega)]
  exact good_all hm h16
 have hb:=ctS_bound (p:=p) (adL p (pad (row m))) (List.replicate (ctN p (pad (row m))) 0) 0 (rep_zero_in _)
 obtain ⟨s1,-,-⟩:=sumW_eq (l:=ctL p (pad (row m))) (b:=0+(adL p (pad (row m))).length) (by omega) (by rw [ctL_good h']; exact hb) (by omega) _ (Nat.le_refl _)
 refine ⟨?_,by omega⟩
 rw [s1,List.take_length,ctL_good h',ctS_sum _ _ fun q hq=>?_]
 ·have g:∀n:Nat,sumI (List.replicate n (0:Int))=0:=fun n=>by
   induction n with
   | zero=>rfl
   | succ n ih=>rw [List.replicate_succ]; show 0+sumI _=0; rw [ih]; rfl
  rw [g]
  omega
 ·obtain ⟨g,d,-,-,-,-,-,-,hlt⟩:=trN_spec hm (hg q hq)
  rw [List.length_replicate]
  omega
end Pe

namespace Pe
open Go Gq
variable {T:Nat→Option Fn} {A:Oracle}
theorem skP_at {p:Int} {L:List (Fp p)} {i:Nat} (h:i<L.length):∀h':i<((skP L).map arr8).length,((skP L).map arr8)[i]'h'=(D.arr 64 .leaf (ints .u8 (pad (row (cS L i))))):=fun h'=>by
 rw [skA_getE h,cS_lt h]
theorem l_fr1 {O:Oracle} {p:Int} [IsP p] {m:Fp p} {v1 v2 o:List Int} {CD:List D} (hadd:K_PlusPolys O F4 1) (hsub:K_PlusPolys O Fm (-1)) {LA LB:List (Fp p)} {dl:Nat} {dI:Int} (hd:dI=dl) (hd5:dl≤64)
 (hA64:∀i,(cS LA i).len≤64) (hB64:∀i,(cS LB i).len≤64) (hLAl:LA.length≤1000) (hLBl:LB.length≤1000)
 (H:∀i,i≤2*dl→(cS LB i+(if i<dl then 0 else Pol.C (zp p (-1))*cS LA (i-dl)))+(if i=2*dl then Pol.C (zp p 1)*1 else 0)=0):∀(r i:Nat),i+r=2*dl+1 →
 dn O 0 (.loop Z26_L1) ⟨[(0,.d (.sl .leaf CD)),(3,.ptr 0 []),(14,.ptr 5 []),(35,(.d (.int .i64 dI))),(39,.d (.sl (.arr 64 .leaf) ((skP LA).map arr8))),(41,.d (.sl (.arr 64 .leaf) ((skP LB).map arr8))),(43,(.d (.int .i64 i)))],[.box false (drD p (pad (row m)) v1 v2),.hole,.hole,.hole,.hole,.box false (D.arr 64 .leaf (ints .u8 o)),.hole,.hole,.hole,.hole,.hole,.hole,.hole,.hole,.hole]⟩ =
  some (.exit 2,⟨[(0,.d (.sl .leaf CD)),(3,.ptr 0 []),(14,.ptr 5 []),(35,(.d (.int .i64 dI))),(39,.d (.sl (.arr 64 .leaf) ((skP LA).map arr8))),(41,.d (.sl (.arr 64 .leaf) ((skP LB).map arr8))),(43,(.d (.int .i64 (((2*dl+1:Nat):Int))))),(278,(.d (.bool false)))],[.box false (drD p (pad (row m)) v1 v2),.hole,.hole,.hole,.hole,.box false (D.arr 64 .leaf (ints .u8 o)),.hole,.hole,.hole,.hole,.hole,.hole,.hole,.hole,.hole]⟩)
 | 0,i,hi=>by
  obtain rfl:i=2*dl+1:=by omega
  have w2:IntKind.i64.wrap (2*dI)=2*dI:=w64 (by omega)
  have hle:¬ ((2*dl+1:Nat):Int)≤2*dI:=by omega
  refine dn_stop ?_
  generalize ((2*dl+1:Nat):Int)=nn at *
  generalize (skP LA).map arr8=DA at *
  generalize (skP LB).map arr8=DB at *
  simp -implicitDefEqProofs [Z26_L1,dn_cond,w2,hle]
 | r+1,i,hi=>by
  have w2:IntKind.i64.wrap (2*dI)=2*dI:=w64 (by omega)
  have hle:(i:Int)≤2*dI:=by omega
  have w4:IntKind.i64.wrap ((i:Int)+1)=((i+1:Nat):Int):=(w64 (x:=(i:Int)+1) (by omega)).trans (by omega)
  have hLA:=skA_len LA
  have hLB:=skA_len LB
  have hz:(pad []).length=64:=pad_length _
  have q1:D.beq (.arr 64 .leaf .int) (D.arr 64 .leaf (ints .u8 (pad []))) (D.arr 64 .leaf (ints .u8 (pad [])))=some true:=by rw [beq_P hz hz,decide_eq_true rfl]
  have q7:(pad [])[0]? = some 0:=rfl
  have h1r:(pad []).set 0 1=pad (row (1:Fp p)):=by rw [row_one]; rfl
  have Hi:=H i (by omega)
  refine dn_round ?_ (l_fr1 hadd hsub hd hd5 hA64 hB64 hLAl hLBl H r (i+1) (by omega))
  clear H
  -- the coefficient of the second list
  obtain ⟨P0,hP0,hcase⟩:∃P0:List Int,P0=pad (row (cS LB i))∧(i<LB.length∨¬ i<LB.length∧P0=pad []):=by
   by_cases h:i<LB.length
   ·exact ⟨_,rfl,.inl h⟩
   ·exact ⟨_,rfl,.inr ⟨h,by rw [cS_ge (by omega),row_zero]⟩⟩
  by_cases hB:dI≤(i:Int)
  ·obtain ⟨j,hj⟩:∃j,i=dl+j:=⟨i-dl,by omega⟩
   have w3:IntKind.i64.wrap ((i:Int)-dI)=(j:Int):=(w64 (by omega)).trans (by omega)
   rw [if_neg (by omega),show i-dl=j by omega] at Hi
   by_cases hjl:j<LA.length
   ·have hxA:=skP_at hjl
    have e1:=hsub p (cS LB i) (cS LA j) (hB64 i) (hA64 j)
    rw [←hP0] at e1
    by_cases hC:(i:Int)=2*dI
    ·rw [if_pos (by omega)] at Hi
     replace w2:=w2.trans hC.symm
     have e2:=hadd p (cS LB i+Pol.C (zp p (-1))*cS LA j) 1 (plus_le _ (hB64 i) (hA64 j)) (by rw [Pol.len_one]; omega)
     rw [Hi,row_zero,←h1r] at e2
     generalize pad (row (cS LB i+Pol.C (zp p (-1))*cS LA j))=P1 at *
     generalize pad (row (cS LA j))=PA at *
     rcases hcase with hA | ⟨hA,hPz⟩
     ·have hxB:=skP_at hA
      rw [←hP0] at hxB
      generalize (skP LA).map arr8=DA at *
      generalize (skP LB).map arr8=DB at *
      simp -implicitDefEqProofs [Z26_L1,dn_cond,hle,w2,w4,hLA,hLB,q1,List.replicate,hB,w3,hjl,hxA,e1,e2,q7,hA,hxB]
     ·subst hPz
      generalize (skP LA).map arr8=DA at *
      generalize (skP LB).map arr8=DB at *
      simp -implicitDefEqProofs [Z26_L1,dn_cond,hle,w2,w4,hLA,hLB,q1,List.replicate,hB,w3,hjl,hxA,e1,e2,q7,hA]
    ·rw [if_neg (by omega),Gq.add_zero] at Hi
     rw [Hi,row_zero] at e1
     generalize pad (row (cS LA j))=PA at *
     rcases hcase with hA | ⟨hA,hPz⟩
     ·have hxB:=skP_at hA
      rw [←hP0] at hxB
      generalize (skP LA).map arr8=DA at *
      generalize (skP LB).map arr8=DB at *
      simp -implicitDefEqProofs [Z26_L1,dn_cond,hle,w2,w4,hLA,hLB,q1,List.replicate,hB,w3,hjl,hxA,e1,hC,hA,hxB]
     ·subst hPz
      generalize (skP LA).map arr8=DA at *
      generalize (skP LB).map arr8=DB at *
      simp -implicitDefEqProofs [Z26_L1,dn_cond,hle,w2,w4,hLA,hLB,q1,List.replicate,hB,w3,hjl,hxA,e1,hC,hA]
   ·rw [cS_ge (A:=LA) (i:=j) (by omega),Gq.mul_zero,Gq.add_zero] at Hi
    by_cases hC:(i:Int)=2*dI
    ·rw [if_pos (by omega)] at Hi
     replace w2:=w2.trans hC.symm
     have e2:=hadd p (cS LB i) 1 (hB64 i) (by rw [Pol.len_one]; omega)
     rw [←hP0,Hi,row_zero,←h1r] at e2
     rcases hcase with hA | ⟨hA,hPz⟩
     ·have hxB:=skP_at hA
      rw [←hP0] at hxB
      generalize (skP LA).map arr8=DA at *
      generalize (skP LB).map arr8=DB at *
      simp -implicitDefEqProofs [Z26_L1,dn_cond,hle,w2,w4,hLA,hLB,q1,List.replicate,hB,w3,hjl,e2,q7,hA,hxB]
     ·subst hPz
      generalize (skP LA).map arr8=DA at *
      generalize (skP LB).map arr8=DB at *
      simp -implicitDefEqProofs [Z26_L1,dn_cond,hle,w2,w4,hLA,hLB,q1,List.replicate,hB,w3,hjl,e2,q7,hA]
    ·rw [if_neg (by omega),Gq.add_zero] at Hi
     obtain rfl:P0=pad []:=by rw [hP0,Hi,row_zero]
     rcases hcase with hA | ⟨hA,-⟩
     ·have hxB:=skP_at hA
      rw [←hP0] at hxB
      generalize (skP LA).map arr8=DA at *
      generalize (skP LB).map arr8=DB at *
      simp -implicitDefEqProofs [Z26_L1,dn_cond,hle,w2,w4,hLA,hLB,q1,List.replicate,hB,w3,hjl,hC,hA,hxB]
     ·generalize (skP LA).map arr8=DA at *
      generalize (skP LB).map arr8=DB at *
      simp -implicitDefEqProofs [Z26_L1,dn_cond,hle,w2,w4,hLA,hLB,q1,List.replicate,hB,w3,hjl,hC,hA]
  ·rw [if_pos (by omega),if_neg (by omega),Gq.add_zero,Gq.add_zero] at Hi
   have hC:¬ (i:Int)=2*dI:=by omega
   obtain rfl:P0=pad []:=by rw [hP0,Hi,row_zero]
   rcases hcase with hA | ⟨hA,-⟩
   ·have hxB:=skP_at hA
    rw [←hP0] at hxB
    generalize (skP LA).map arr8=DA at *
    generalize (skP LB).map arr8=DB at *
    simp -implicitDefEqProofs [Z26_L1,dn_cond,hle,w2,w4,hLA,hLB,q1,List.replicate,hB,hC,hA,hxB]
   ·generalize (skP LA).map arr8=DA at *
    generalize (skP LB).map arr8=DB at *
    simp -implicitDefEqProofs [Z26_L1,dn_cond,hle,w2,w4,hLA,hLB,q1,List.replicate,hB,hC,hA]
end Pe

namespace Pe
open Go Gq
variable {T:Nat→Option Fn} {A:Oracle}
def cutC:Nat→Cd→Cd→Cd
 | 0,_,t=>t
 | n+1,.seq a b,t=>.seq a (cutC n b t)
 | _+1,c,_=>c
def dropC:Nat→Cd→Cd
 | 0,c=>c
 | n+1,.seq _ b=>dropC n b
 | _+1,c=>c
theorem cutC_0 (c t:Cd):cutC 0 c t=t:=rfl
theorem cutC_s (n:Nat) (a b t:Cd):cutC (n+1) (.seq a b) t=.seq a (cutC n b t):=rfl
end Pe

namespace Pe
open Go Gq
variable {T:Nat→Option Fn} {A:Oracle}
abbrev frBl (dr:D) (a b o:List Int):List Blk:=[.box false dr,.box false (D.arr 64 .leaf (ints .u8 a)),.box false (D.arr 64 .leaf (ints .u8 b)),.hole,.hole,.box false (D.arr 64 .leaf (ints .u8 o)),.hole,.hole,.hole,.hole,.hole,.hole,.hole,.hole,.hole]
theorem fr_top {O:Oracle} (t:Cd) {p n1 no four q five one two three:Int} {sup:Bool} {u v w n2 n3 n4 x a b o md ct code:List Int} {L:List Dr4}
 (e0:ask O F27 [.sl .leaf (ints .u8 code)]=some (D.bool false))
 (d1:ask O F34 [.sl .leaf (ints .u8 code)]=some (drD p u v w))
 (f1:ask O Ff [drD p u v w]=some (.tup [(D.arr 64 .leaf (ints .u8 a)),(D.arr 64 .leaf (ints .u8 b)),(D.int .i64 one)]))
 (f2:ask O F37 [drD p u v w]=some (.tup [(D.arr 64 .leaf (ints .u8 a)),(D.arr 64 .leaf (ints .u8 b)),(D.int .i64 one)]))
 (i1:ask O Fi [drD p u v w]=some (.tup [(D.bool sup),(D.int .i64 two)]))
 (i2:ask O F38 [drD p u v w]=some (.tup [(D.bool sup),(D.int .i64 two)]))
 (o1:ask O Fl [drD p u v w]=some (.tup [(D.arr 64 .leaf (ints .u8 o)),(D.int .i64 three)]))
 (o2:ask O F3a [drD p u v w]=some (.tup [(D.arr 64 .leaf (ints .u8 o)),(D.int .i64 three)]))
 (d2:ask O F35 [.sl .leaf (ints .u8 code)]=some (.tup [drD n1 n2 n3 n4,(D.arr 64 .leaf (ints .u8 x))]))
 (k1:ask O Fj [drD n1 n2 n3 n4,(D.arr 64 .leaf (ints .u8 x))]=some (.tup [(D.int .i64 no),(D.int .i64 four)]))
 (k2:ask O F39 [drD n1 n2 n3 n4,(D.arr 64 .leaf (ints .u8 x))]=some (.tup [(D.int .i64 no),(D.int .i64 four)]))
 (d3:ask O F33 [.sl .leaf (ints .u8 code)]=some (.tup [(D.int .i64 q),(D.arr 64 .leaf (ints .u8 md))]))
 (a1:ask O F5 [(D.int .i64 q),(D.arr 64 .leaf (ints .u8 md))]=some (.tup [.sl dqSh (L.map drE),(D.int .i64 five)]))
 (a2:ask O F31 [(D.int .i64 q),(D.arr 64 .leaf (ints .u8 md))]=some (.tup [.sl dqSh (L.map drE),(D.int .i64 five)]))
 (hL:∀y∈L,Sh4 y) (hLl:L.length<100000)
 (c1:ask O F6 [(D.int .i64 q),(D.arr 64 .leaf (ints .u8 md))]=some (.tup [(D.sl .leaf (ints .i64 ct)),(D.int .i64 five)]))
 (c2:ask O F32 [(D.int .i64 q),(D.arr 64 .leaf (ints .u8 md))]=some (.tup [(D.sl .leaf (ints .i64 ct)),(D.int .i64 five)]))
 (lk:ask O F29 [(D.sl .leaf (ints .i64 ct)),(D.sl .leaf (ints .i64 ct))]=some (D.bool true))
 (hs:five≠0∨five=0∧ask O F2c [(D.sl .leaf (ints .i64 ct))]=some (D.int .i64 ((L.length:Int))))
 (q1:D.beq (.arr 64 .leaf .int) (D.arr 64 .leaf (ints .u8 a)) (D.arr 64 .leaf (ints .u8 a))=some true) (q2:D.beq (.arr 64 .leaf .int) (D.arr 64 .leaf (ints .u8 b)) (D.arr 64 .leaf (ints .u8 b))=some true) (q3:D.beq (.arr 64 .leaf .int) (D.arr 64 .leaf (ints .u8 o)) (D.arr 64 .leaf (ints .u8 o))=some true) :
 dn O 0 (cutC 20 Z26_B t) ⟨[(0,.d (.sl .leaf (ints .u8 code)))],[.hole,.hole,.hole,.hole,.hole,.hole,.hole,.hole,.hole,.hole,.hole,.hole,.hole,.hole,.hole]⟩ =
  dn O 0 t ⟨[(0,.d (.sl .leaf (ints .u8 code))),(3,.ptr 0 []),(4,.ptr 1 []),(5,.ptr 2 []),(6,(.d (.int .i64 one))),(10,(.d (.bool sup))),(14,.ptr 5 []),(213,(.d (.bool false)))],frBl (drD p u v w) a b o⟩:=by
 have st:=l_fr0 (O:=O) hL hLl (CD:=ints .u8 code) (dr:=drD p u v w) (one:=one) (p:=q) (sup:=sup) (a:=a) (b:=b) (o:=o) (md:=md) L.length 0 (Nat.zero_add _)
 rw [show ((0:Nat):Int)=0 from rfl] at st
 have hb:D.beq .bool (D.bool sup) (D.bool sup)=some true:=by cases sup <;> rfl
 have hLD:(L.map drE).length=L.length:=List.length_map ..
 generalize L.map drE=LD at *
 rcases hs with hs | ⟨rfl,hs⟩
 ·simp -implicitDefEqProofs [Z26_B,cutC_0,cutC_s,dn_cond,e0,d1,f1,f2,i1,i2,o1,o2,d2,k1,k2,d3,a1,a2,st,c1,c2,lk,hs,q1,q2,q3,hb,List.replicate]
 ·simp -implicitDefEqProofs [Z26_B,cutC_0,cutC_s,dn_cond,e0,d1,f1,f2,i1,i2,o1,o2,d2,k1,k2,d3,a1,a2,st,c1,c2,lk,hs,hLD,q1,q2,q3,hb,List.replicate]
theorem fr_bad {O:Oracle} {p one:Int} {sup:Bool} {u v w b code:List Int} (h:one≠0) :
 ∃bs:List Blk,bs.length=15∧dn O 0 (dropC 20 Z26_B) ⟨[(0,.d (.sl .leaf (ints .u8 code))),(3,.ptr 0 []),(4,.ptr 1 []),(5,.ptr 2 []),(6,(.d (.int .i64 one))),(10,(.d (.bool sup))),(14,.ptr 5 []),(213,(.d (.bool false)))],frBl (drD p u v w) (pad []) b (pad [])⟩=some (.ret,⟨[(2,(.d (.bool true)))],bs⟩):=by
 have hz:(pad []).length=64:=pad_length _
 have q1:D.beq (.arr 64 .leaf .int) (D.arr 64 .leaf (ints .u8 (pad []))) (D.arr 64 .leaf (ints .u8 (pad [])))=some true:=by rw [beq_P hz hz,decide_eq_true rfl]
 rw [Z26_B]
 refine ⟨List.replicate 15 .hole,rfl,?_⟩
 simp -implicitDefEqProofs [dropC,dn_cond,h,q1,List.replicate]
theorem fr_good {O:Oracle} {p:Int} [IsP p] {m:Fp p} {dI da:Int} {dl n:Nat} {sup:Bool} {v w a b o x code C1 C2:List Int} {a1 a2:Nat} {h1 h2:Int} {LA LB:List (Fp p)}
 (g1:ask O F7 [(D.int .i64 p),(D.arr 64 .leaf (ints .u8 (pad (row m))))]=some (.tup [(D.int .i64 dI),(D.int .i64 0)]))
 (g2:ask O F7 [(D.int .i64 p),(D.arr 64 .leaf (ints .u8 a))]=some (.tup [(D.int .i64 da),(D.int .i64 0)]))
 (w1:IntKind.i64.wrap (2*da)=2*da) (hda:¬ dI<2*da)
 (hsup:D.beq .bool (D.bool sup) (D.bool (decide (da<0)))=some true)
 (c1:ask O F8 [drD p (pad (row m)) v w,(D.arr 64 .leaf (ints .u8 a))]=some (.tup [.sl (.arr 64 .leaf) ((skP LA).map arr8),(D.int .i64 0)]))
 (c2:ask O F8 [drD p (pad (row m)) v w,(D.arr 64 .leaf (ints .u8 b))]=some (.tup [.sl (.arr 64 .leaf) ((skP LB).map arr8),(D.int .i64 0)]))
 (st:dn O 0 (.loop Z26_L1) ⟨[(0,.d (.sl .leaf (ints .u8 code))),(3,.ptr 0 []),(14,.ptr 5 []),(35,(.d (.int .i64 dI))),(39,.d (.sl (.arr 64 .leaf) ((skP LA).map arr8))),(41,.d (.sl (.arr 64 .leaf) ((skP LB).map arr8))),(43,(.d (.int .i64 0)))],[.box false (drD p (pad (row m)) v w),.hole,.hole,.hole,.hole,.box false (D.arr 64 .leaf (ints .u8 o)),.hole,.hole,.hole,.hole,.hole,.hole,.hole,.hole,.hole]⟩=some (.exit 2,⟨[(0,.d (.sl .leaf (ints .u8 code))),(3,.ptr 0 []),(14,.ptr 5 []),(35,(.d (.int .i64 dI))),(39,.d (.sl (.arr 64 .leaf) ((skP LA).map arr8))),(41,.d (.sl (.arr 64 .leaf) ((skP LB).map arr8))),(43,(.d (.int .i64 (((2*dl+1:Nat):Int))))),(278,(.d (.bool false)))],[.box false (drD p (pad (row m)) v w),.hole,.hole,.hole,.hole,.box false (D.arr 64 .leaf (ints .u8 o)),.hole,.hole,.hole,.hole,.hole,.hole,.hole,.hole,.hole]⟩))
 (r1:O F2b [.d (.sl .leaf (ints .u8 code)),.d (.int .u64 9907)] []=some (.ptr 0 [],[],[srcB C1 a1 h1]))
 (w2:IntKind.i64.wrap (dI-1)=(n:Int))
 (r2:O F2a [.ptr 0 [],(.d (.int .i64 p)),(.d (.int .i64 ((n:Int))))] [srcB C1 a1 h1]=some (.d (D.arr 64 .leaf (ints .u8 x)),[srcB C2 a2 h2],[]))
 (k1:ask O F9 [drD p (pad (row m)) v w,(D.arr 64 .leaf (ints .u8 o)),(D.arr 64 .leaf (ints .u8 x))]=some (.tup [(D.arr 64 .leaf (ints .u8 (pad []))),(D.int .i64 0)])) :
 ∃bs:List Blk,bs.length=15∧dn O 0 (dropC 20 Z26_B) ⟨[(0,.d (.sl .leaf (ints .u8 code))),(3,.ptr 0 []),(4,.ptr 1 []),(5,.ptr 2 []),(6,(.d (.int .i64 0))),(10,(.d (.bool sup))),(14,.ptr 5 []),(213,(.d (.bool false)))],frBl (drD p (pad (row m)) v w) a b o⟩=some (.ret,⟨[(2,(.d (.bool true)))],bs⟩):=by
 have hz:(pad []).length=64:=pad_length _
 have q1:D.beq (.arr 64 .leaf .int) (D.arr 64 .leaf (ints .u8 (pad []))) (D.arr 64 .leaf (ints .u8 (pad [])))=some true:=by rw [beq_P hz hz,decide_eq_true rfl]
 rw [Z26_B]
 refine ⟨List.replicate 15 .hole,rfl,?_⟩
 generalize ((2*dl+1:Nat):Int)=nn at *
 generalize pad (row m)=Pm at *
 generalize (skP LA).map arr8=DA at *
 generalize (skP LB).map arr8=DB at *
 simp -implicitDefEqProofs [dropC,dn_cond,g1,g2,w1,hda,hsup,c1,c2,st,r1,w2,r2,k1,q1,List.replicate,List.idxOf,List.findIdx,List.findIdx.go]
end Pe

namespace Pe
open Go Gq
variable {T:Nat→Option Fn} {A:Oracle}
def L_Frobenius (O:Oracle):Prop:=∀code:List Int,Bytes code→code.length≤9223372036854775807→ask O F26 [.sl .leaf (ints .u8 code)]=some (D.bool true)
section
variable {p:Int} [IsP p] {m:Fp p}
theorem act_c (hm:Fld m) {g d:Fp p} (hg:g.len<m.len) (hd:d.len<m.len) {a:Fp p} {N:Nat} (h:a.len≤N) (i:Nat):qcf m (actN m (Pol.X%m) g d a a.len a.len) i=sumR (fun k=>Quo.mk m (Pol.C (a.c k))*Rk (Quo.mk m Pol.X) (Quo.mk m g) (Quo.mk m d) k i) N:=by
 have e:=actN_q (t0:=Pol.X%m) (t1:=g) (t2:=d) hm (mem3 (Pol.len_mod _ hm.mon.2) hg hd) a a.len a.len (Nat.le_refl _)
 rw [e,hsum_sumR,Pol.mk_mod]
 obtain ⟨j,rfl⟩:∃j,N=a.len+j:=⟨N-a.len,by omega⟩
 rw [sumR_more _ a.len (fun k hk=>by rw [a.lt_len k hk,Pol.C_zero,Quo.mk_zero,Gq.zero_mul]) j]
 refine sumR_congr fun k _=>?_
 rw [show a.len-a.len+k=k by omega]
theorem fr_coef (hm:Fld m) {g d:Fp p} (hg:g.len<m.len) (hd:d.len<m.len) (hd0:d≠0) (i:Nat) :
 (cS (actN m (Pol.X%m) g d (frB m d) (frB m d).len (frB m d).len) i+(if i<m.len-1 then 0 else Pol.C (zp p (-1))*cS (actN m (Pol.X%m) g d (frA m g d) (frA m g d).len (frA m g d).len) (i-(m.len-1))))+(if i=2*(m.len-1) then Pol.C (zp p 1)*1 else 0)=0:=by
 have h2:=hm.two
 have hs:=frob_said hm hg hd hd0
 have hA:(frA m g d).len≤(m.len-1)/2+1:=Pol.len_le hs.lt
 have hB:=frB_len2 hm hd hd0
 have lA:∀j,(cS (actN m (Pol.X%m) g d (frA m g d) (frA m g d).len (frA m g d).len) j).len≤m.len-1:=fun j=>mem_cS (fun c hc=>by have:=actN_lens hm _ _ _ _ _ _ c hc; omega) j
 have lB:∀j,(cS (actN m (Pol.X%m) g d (frB m d) (frB m d).len (frB m d).len) j).len≤m.len-1:=fun j=>mem_cS (fun c hc=>by have:=actN_lens hm _ _ _ _ _ _ c hc; omega) j
 have qA:=fun j=>act_c hm hg hd hA j
 have qB:=fun j=>act_c hm hg hd (a:=frB m d) (N:=m.len) (by omega) j
 generalize actN m (Pol.X%m) g d (frA m g d) (frA m g d).len (frA m g d).len=LA at *
 generalize actN m (Pol.X%m) g d (frB m d) (frB m d).len (frB m d).len=LB at *
 have hl:((cS LB i+(if i<m.len-1 then 0 else Pol.C (zp p (-1))*cS LA (i-(m.len-1))))+(if i=2*(m.len-1) then Pol.C (zp p 1)*1 else 0)).len≤m.len-1:=by
  refine Pol.len_add_le (Pol.len_add_le (lB i) ?_) ?_
  ·split
   ·rw [Pol.len_zero]; omega
   ·exact Nat.le_trans (Pol.len_le (Pol.lt_Cmul _ (Pol.lt_len _))) (lA _)
  ·split
   ·exact Nat.le_trans (Pol.len_le (Pol.lt_Cmul _ (Pol.lt_len _))) (by rw [Pol.len_one]; omega)
   ·rw [Pol.len_zero]; omega
 have hq:Quo.mk m ((cS LB i+(if i<m.len-1 then 0 else Pol.C (zp p (-1))*cS LA (i-(m.len-1))))+(if i=2*(m.len-1) then Pol.C (zp p 1)*1 else 0))=0:=by
  have e:=hs.eq i
  have e1:Quo.mk m (cS LB i)=sumR (fun k=>Quo.mk m (Pol.C ((frB m d).c k))*Rk (Quo.mk m Pol.X) (Quo.mk m g) (Quo.mk m d) k i) m.len:=qB i
  have e2:Quo.mk m (cS LA (i-(m.len-1)))=sumR (fun k=>Quo.mk m (Pol.C ((frA m g d).c k))*Rk (Quo.mk m Pol.X) (Quo.mk m g) (Quo.mk m d) k (i-(m.len-1))) ((m.len-1)/2+1):=qA _
  rw [←e1,←e2] at e
  rw [Quo.mk_add,Quo.mk_add,←e]
  have hn:Quo.mk m (Pol.C (zp p (-1)))=-1:=by
   have h1:Pol.C (zp p (-1))+1=(0:Fp p):=by
    rw [←Pol.C_one,←Pol.C_add,zp_neg,zp_one,show (-1:Zp p)+1=0 from ring_of [] rfl,Pol.C_zero]
   have h2:Quo.mk m (Pol.C (zp p (-1)))+Quo.mk m 1=0:=by rw [←Quo.mk_add,h1,Quo.mk_zero]
   rw [Quo.mk_one] at h2
   have h3:Quo.mk m (Pol.C (zp p (-1)))+1-1=Quo.mk m (Pol.C (zp p (-1))):=ring_of [Quo.mk m (Pol.C (zp p (-1)))] rfl
   rw [←h3,h2]
   exact ring_of [] rfl
  have h1:Quo.mk m (Pol.C (zp p 1)*1)=1:=by rw [zp_one,Pol.C_one,Gq.mul_one,Quo.mk_one]
  by_cases c1:i<m.len-1
  ·rw [if_pos c1,if_pos c1,if_neg (by omega),if_neg (by omega),Quo.mk_zero]
   exact ring_of [Quo.mk m (cS LB i)] rfl
  ·rw [if_neg c1,if_neg c1,Quo.mk_mul,hn]
   by_cases c2:i=2*(m.len-1)
   ·rw [if_pos c2,if_pos c2,h1]
    exact ring_of [Quo.mk m (cS LB i),Quo.mk m (cS LA (i-(m.len-1)))] rfl
   ·rw [if_neg c2,if_neg c2,Quo.mk_zero]
    exact ring_of [Quo.mk m (cS LB i),Quo.mk m (cS LA (i-(m.len-1)))] rfl
 exact Classical.byContradiction fun h0=>by
  have:=(dv_iff_mk.2 hq).len h0
  omega
end
theorem fr_B:Z26_B=cutC 20 Z26_B (dropC 20 Z26_B):=by
 rw [Z26_B]; rfl
theorem law_Frobenius (hT:T F26=some Z26) (hbig:C_big (den T A)) (hdf:H_DrawFrobeniusOf (den T A)) (hdn:H_DrawTwistOf (den T A) F35) (hda:H_DrawAllDrinfeld (den T A))
 (hfr:K_FrobOf (den T A) Ff) (hfrs:K_FrobOf (den T A) F37) (hss:K_Ssing (den T A) Fi) (hsss:K_Ssing (den T A) F38) (hor:K_OrderP (den T A) Fl) (hors:K_OrderP (den T A) F3a)
 (hno:K_NormOf (den T A) Fj) (hnos:K_NormOf (den T A) F39) (had:K_AllDrinfeld (den T A) F5) (hads:K_AllDrinfeld (den T A) F31) (hct:K_CountByTrace (den T A) F6) (hcts:K_CountByTrace (den T A) F32)
 (hlk:C_likeInts (den T A)) (hsum:C_sumInts (den T A)) (hdg:K_DegreeOf (den T A)) (hac:K_DrAct (den T A) F8) (hadd:K_PlusPolys (den T A) F4 1) (hsub:K_PlusPolys (den T A) Fm (-1)) (hro:H_roll (den T A)) (hp9:H_poly9 (den T A)) (hvl:K_DrVal (den T A) F9):L_Frobenius (den T A):=by
 intro code hb hl
 have e0:=hbig (ints .u8 code)
 by_cases hc:(4096:Int)<(ints .u8 code).length
 ·rw [decide_eq_true hc] at e0
  refine ask_of hT rfl ?_
  simp -implicitDefEqProofs [Z26,Z26_B,dn_cond,e0]
 rw [decide_eq_false hc] at e0
 have hc4:code.length≤4096:=by
  rw [ints_length] at hc
  omega
 obtain ⟨p,u,v,w,d1,au,av,aw⟩:=hdf code hb hc4
 obtain ⟨n1,n2,n3,n4,x,d2,a2,a3,a4,ax⟩:=hdn code hb hc4
 obtain ⟨q,md,d3,amd⟩:=hda code hb hc4
 have f1:=hfr p u v w au.2 au.1 av.2 av.1 aw.2 aw.1
 have f2:=hfrs p u v w au.2 au.1 av.2 av.1 aw.2 aw.1
 have i1:=hss p u v w au.2 au.1 av.2 av.1 aw.2 aw.1
 have i2:=hsss p u v w au.2 au.1 av.2 av.1 aw.2 aw.1
 have o1:=hor p u v w au.2 au.1 av.2 av.1 aw.2 aw.1
 have o2:=hors p u v w au.2 au.1 av.2 av.1 aw.2 aw.1
 have k1:=hno n1 n2 n3 n4 x a2.2 a2.1 a3.2 a3.1 a4.2 a4.1 ax.2 ax.1
 have k2:=hnos n1 n2 n3 n4 x a2.2 a2.1 a3.2 a3.1 a4.2 a4.1 ax.2 ax.1
 obtain ⟨no,four,hno4⟩:=noD_form n1 n2 n3 n4 x
 rw [hno4] at k1 k2
 have b1:=had q md amd.2 amd.1
 have b2:=hads q md amd.2 amd.1
 unfold adD at b1 b2
 have c1:=hct q md amd.2 amd.1
 have c2:=hcts q md amd.2 amd.1
 obtain ⟨hL,hLl⟩:=adL_ok q md
 have hcl:(ctL q md).length≤343:=by
  by_cases h:AdOk q md
  ·exact (ct_sum h).2
  ·rw [ctL_bad h]; simp
 have lk:=hlk (ctL q md) (by omega)
 have hs:adC q md≠0∨adC q md=0∧ask (den T A) F2c [(D.sl .leaf (ints .i64 (ctL q md)))]=some (D.int .i64 (((adL q md).length:Int))):=by
  by_cases h:adC q md=0
  ·right
   have e:=hsum (ctL q md) (by omega)
   rw [(ct_sum (adC_iff.1 h)).1] at e
   exact ⟨h,e⟩
  ·exact .inl h
 have same:∀{l:List Int},l.length=64→D.beq (.arr 64 .leaf .int) (D.arr 64 .leaf (ints .u8 l)) (D.arr 64 .leaf (ints .u8 l))=some true:=fun h=>by rw [beq_P h h,decide_eq_true rfl]
 by_cases h:IsDr p u v w
 ·have h1':=h
  obtain ⟨ip,m,g,d,rfl,rfl,rfl,hm,hg,hd,hd0⟩:=h
  have h5:=hm.five
  have h2:=hm.two
  rw [frD_good h1' (by omega) (by omega) (by omega)] at f1 f2
  rw [ssD_good h1' (by omega) (by omega) (by omega)] at i1 i2
  rw [opoD_good h1' (by omega) (by omega) (by omega)] at o1 o2
  have hfs:=frob_said hm hg hd hd0
  have hA:(frA m g d).len≤(m.len-1)/2+1:=Pol.len_le hfs.lt
  have hB:=frB_len2 hm hd hd0
  have hO:=orP_len (g:=g) hm hd hd0
  have hOM:(orM m g d).len≤m.len:=by
   unfold orM
   exact Nat.le_trans (Pol.len_le (Pol.lt_Cmul _ (orP m g d).lt_len)) (by omega)
  have top:=fr_top (O:=den T A) (dropC 20 Z26_B) e0 d1 f1 f2 i1 i2 o1 o2 d2 k1 k2 d3 b1 b2 hL (by omega) c1 c2 lk hs (same (pad_length _)) (same (pad_length _)) (same (pad_length _))
  have g1:=hdg p m (by omega)
  have g2:=hdg p (frA m g d) (by omega)
  have act1:=hac p (pad (row m)) (pad (row g)) (pad (row d)) (pad (row (frA m g d))) au.2 au.1 av.2 av.1 aw.2 aw.1 (pad_bytes _) (pad_length _)
  obtain ⟨y1,y2⟩:=daL_good (a:=frA m g d) h1' (by omega) (by omega) (by omega) (by omega)
  rw [if_pos (by omega)] at y1 y2
  rw [y1,y2] at act1
  have act2:=hac p (pad (row m)) (pad (row g)) (pad (row d)) (pad (row (frB m d))) au.2 au.1 av.2 av.1 aw.2 aw.1 (pad_bytes _) (pad_length _)
  obtain ⟨z1,z2⟩:=daL_good (a:=frB m d) h1' (by omega) (by omega) (by omega) (by omega)
  rw [if_pos (by omega)] at z1 z2
  rw [z1,z2] at act2
  have lA:∀j,(cS (actN m (Pol.X%m) g d (frA m g d) (frA m g d).len (frA m g d).len) j).len≤64:=fun j=>mem_cS (fun c hc=>by have:=actN_lens hm _ _ _ _ _ _ c hc; omega) j
  have lB:∀j,(cS (actN m (Pol.X%m) g d (frB m d) (frB m d).len (frB m d).len) j).len≤64:=fun j=>mem_cS (fun c hc=>by have:=actN_lens hm _ _ _ _ _ _ c hc; omega) j
  have nA:=actN_len m (Pol.X%m) g d (frA m g d) (frA m g d).len (frA m g d).len
  have nB:=actN_len m (Pol.X%m) g d (frB m d) (frB m d).len (frB m d).len
  have st:=l_fr1 (O:=den T A) (m:=m) (v1:=pad (row g)) (v2:=pad (row d)) (o:=pad (row (orM m g d))) (CD:=ints .u8 code) hadd hsub (dl:=m.len-1) (dI:=(m.len:Int)-1) (by omega) (by omega) lA lB (by omega) (by omega) (fun i _=>fr_coef hm hg hd hd0 i) (2*(m.len-1)+1) 0 (Nat.zero_add _)
  rw [show ((0:Nat):Int)=0 from rfl] at st
  obtain ⟨s1,r1,hs1⟩:=hro code 9907 hb hc4
  obtain ⟨y,s2,r2,hs2,hy⟩:=hp9 p s1 (m.len-2) hs1 (by omega)
  have k1v:=hvl p (pad (row m)) (pad (row g)) (pad (row d)) (pad (row (orM m g d))) (pad (row y)) au.2 au.1 av.2 av.1 aw.2 aw.1 (pad_bytes _) (pad_length _) (pad_bytes _) (pad_length _)
  rw [drValD_good h1' (by omega) (by omega) (by omega) (by omega) (by omega),order_zero hm hg hd hd0,row_zero] at k1v
  have hsup:D.beq .bool (D.bool (decide ((frA m g d).len=0))) (D.bool (decide (((frA m g d).len:Int)-1<0)))=some true:=by
   have e:decide ((frA m g d).len=0)=decide (((frA m g d).len:Int)-1<0):=decide_eq_decide.2 ⟨fun h=>by omega,fun h=>by omega⟩
   rw [e]
   cases decide (((frA m g d).len:Int)-1<0) <;> rfl
  obtain ⟨C1,a1,t1,rfl,-⟩:=hs1
  obtain ⟨C2,a2',t2,rfl,-⟩:=hs2
  obtain ⟨bs,hbs,k4⟩:=fr_good (sup:=decide ((frA m g d).len=0)) g1 g2 (w64 (by omega)) (by omega) hsup act1 act2 st r1 ((w64 (by omega)).trans (by omega):IntKind.i64.wrap ((m.len:Int)-1-1)=((m.len-2:Nat):Int)) r2 k1v
  rw [←fr_B,k4] at top
  refine ask_of hT rfl ?_
  simp -implicitDefEqProofs [Z26,top,hbs]
 ·rw [frD_bad h] at f1 f2
  rw [ssD_bad h] at i1 i2
  rw [opoD_bad h] at o1 o2
  have top:=fr_top (O:=den T A) (dropC 20 Z26_B) e0 d1 f1 f2 i1 i2 o1 o2 d2 k1 k2 d3 b1 b2 hL (by omega) c1 c2 lk hs (same (pad_length _)) (same (pad_length _)) (same (pad_length _))
  obtain ⟨bs,hbs,k4⟩:=fr_bad (O:=den T A) (p:=p) (sup:=false) (u:=u) (v:=v) (w:=w) (b:=pad []) (code:=code) (show (1:Int)≠0 by omega)
  rw [←fr_B,k4] at top
  refine ask_of hT rfl ?_
  simp -implicitDefEqProofs [Z26,top,hbs,List.replicate]
end Pe

namespace Pe
open Go Gq
abbrev tyB:Ty:=.sl (.int .u8)
theorem has_B {d:D} (h:tyB.has d):∃l:List Int,d=.sl .leaf (ints .u8 l)∧Bytes l∧l.length≤9223372036854775807:=by
 cases d <;> simp only [Ty.has] at h
 obtain ⟨rfl,h1,h2⟩:=h
 obtain ⟨l,rfl,hb⟩:=has_bytes _ h2
 exact ⟨l,rfl,hb,by simpa [ints] using h1⟩
end Pe
