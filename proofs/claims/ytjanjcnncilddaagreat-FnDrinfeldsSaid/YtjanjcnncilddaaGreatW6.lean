/-
  A part of the proof: an evaluator for a small form of the code, its soundness, and contracts of functions over it.
-/
import Derived.Test.YtjanjcnncilddaaGreatW1
import Derived.Test.YtjanjcnncilddaaGreatW2
import Derived.Test.YtjanjcnncilddaaGreatW3
import Derived.Test.YtjanjcnncilddaaGreatW4
import Derived.Test.YtjanjcnncilddaaGreatW5

namespace Pe
open Go Gq
variable {T:Nat→Option Fn} {A:Oracle}
section
variable {p:Int}
noncomputable def elim (a b:Fp p):Fp p:=b+Pol.C (-(b.c (a.len-1)))*a
noncomputable def redS:List (Fp p)→Fp p→Fp p
 | [],a=>a
 | b::bs,a=>redS bs (elim b a)
noncomputable def insS (a:Fp p):List (Fp p)→List (Fp p)
 | []=>[a]
 | b::bs=>if b.len<a.len then a::(b::bs).map (elim a) else elim a b::insS a bs
theorem insS_perm (a:Fp p):∀L:List (Fp p),(insS a L).Perm (L.map (elim a)++[a])
 | []=>.refl _
 | b::bs=>by
  unfold insS
  split
  ·exact (List.perm_append_singleton a ((b::bs).map (elim a))).symm
  ·exact (insS_perm a bs).cons _
theorem c_ge {a:Fp p} {n:Nat} (h:a.len≤n):a.c n=0:=a.lt_len n h
theorem elim_c (a b:Fp p) (n:Nat):(elim a b).c n=b.c n + -(b.c (a.len-1))*a.c n:=by
 unfold elim; rw [Pol.c_add,Pol.c_Cmul]
theorem insS_mem {a c:Fp p}:∀{L:List (Fp p)},c∈insS a L→c=a∨∃b∈L,c=elim a b:=fun {L} h=>by
 have:=(insS_perm a L).subset h
 rcases List.mem_append.1 this with h | h
 ·obtain ⟨b,hb,rfl⟩:=List.mem_map.1 h; exact .inr ⟨b,hb,rfl⟩
 ·exact .inl (by simpa using h)
noncomputable abbrev rowD (a:Fp p):D:=(D.sl .leaf (ints .i64 (row a)))
theorem redS_keep {n:Nat}:∀{L:List (Fp p)} {a:Fp p},(∀b∈L,b.len≤n)→(redS L a).c n=a.c n
 | [],_,_=>rfl
 | b::L,a,h=>by
  show (redS L (elim b a)).c n=_
  rw [redS_keep (L:=L) (fun c hc=>h c (by simp [hc])),elim_c,c_ge (a:=b) (h b (by simp)),Gq.mul_zero,Gq.add_zero]
end
section
variable {p:Int} [IsP p]
structure Desc (N:Nat) (L:List (Fp p)):Prop where
 pw:L.Pairwise fun x y=>y.len<x.len
 mon:∀b∈L,Monic b
 le:∀b∈L,b.len≤N
theorem Desc.nil (N:Nat):Desc N ([]:List (Fp p)):=⟨List.Pairwise.nil,(fun _ h=>by cases h),(fun _ h=>by cases h)⟩
theorem Desc.tail {N:Nat} {b:Fp p} {L:List (Fp p)} (h:Desc N (b::L)):Desc N L∧∀c∈L,c.len<b.len:=
 ⟨⟨h.pw.tail,fun c hc=>h.mon c (by simp [hc]),fun c hc=>h.le c (by simp [hc])⟩,(List.pairwise_cons.1 h.pw).1⟩
theorem Desc.length:∀{N:Nat} {L:List (Fp p)},Desc N L→L.length≤N
 | N,[],_=>Nat.zero_le _
 | N,b::L,h=>by
  obtain ⟨h1,h2⟩:=h.tail
  have hb:=Pol.len_pos (h.mon b (by simp)).2
  have hle:=h.le b (by simp)
  have:=Desc.length (N:=b.len-1) ⟨h1.pw,h1.mon,fun c hc=>by have:=h2 c hc; omega⟩
  rw [List.length_cons]; omega
theorem elim_le {N:Nat} {a b:Fp p} (ha:a.len≤N) (hb:b.len≤N):(elim a b).len≤N:=by
 unfold elim
 refine Pol.len_add_le hb (Pol.len_le fun i hi=>?_)
 rw [Pol.c_Cmul,c_ge (a:=a) (by omega),Gq.mul_zero]
theorem elim_at {a:Fp p} (ha:Monic a) (b:Fp p):(elim a b).c (a.len-1)=0:=by
 rw [elim_c,show a.c (a.len-1)=1 from ha.1,Gq.mul_one]
 exact Gq.add_neg _
theorem redS_le {N:Nat}:∀{L:List (Fp p)} {a:Fp p},(∀b∈L,b.len≤N)→a.len≤N→(redS L a).len≤N
 | [],_,_,ha=>ha
 | b::L,a,h,ha=>redS_le (L:=L) (fun c hc=>h c (by simp [hc])) (elim_le (h b (by simp)) ha)
theorem redS_zero {N:Nat}:∀{L:List (Fp p)} {a:Fp p},Desc N L→∀b∈L,(redS L a).c (b.len-1)=0
 | b::L,a,h,c,hc=>by
  obtain ⟨h1,h2⟩:=h.tail
  show (redS L (elim b a)).c _=0
  rcases List.mem_cons.1 hc with rfl | hc
  ·rw [redS_keep (L:=L) (fun d hd=>by have:=h2 d hd; omega),elim_at (h.mon c (by simp))]
  ·exact redS_zero h1 c hc
theorem redS_ne {N:Nat} {L:List (Fp p)} {a:Fp p} (h:Desc N L) (h0:redS L a≠0):∀b∈L,b.len≠(redS L a).len:=fun b hb e=>by
 have h1:=redS_zero (a:=a) h b hb
 rw [e] at h1
 exact Pol.ld_ne h0 h1
theorem elim_mon {a b:Fp p} (hb:Monic b) (hne:b.len≠a.len):Monic (elim a b)∧(elim a b).len=b.len:=by
 have hbp:=Pol.len_pos hb.2
 rcases Nat.lt_or_ge b.len a.len with h | h
 ·have:elim a b=b:=by
   unfold elim
   rw [c_ge (by omega),Gq.neg_zero,Pol.C_zero,Gq.zero_mul,Gq.add_zero]
  rw [this]; exact ⟨hb,rfl⟩
 ·have hc:(elim a b).c (b.len-1)=1:=by
   rw [elim_c,c_ge (a:=a) (by omega),Gq.mul_zero,Gq.add_zero]; exact hb.1
  have hl:(elim a b).len=b.len:=by
   have h1:(elim a b).len=(b.len-1)+1:=Pol.len_eq (Pol.lt_iff.2 (by
    rw [Nat.sub_add_cancel hbp]; exact elim_le h (Nat.le_refl _))) (by rw [hc]; exact Fd.one_ne)
   omega
  refine ⟨⟨by unfold Pol.ld; rw [hl]; exact hc,fun h0=>?_⟩,hl⟩
  rw [h0,Pol.len_zero] at hl
  omega
theorem insS_desc {N:Nat} {a:Fp p} (ha:Monic a) (hal:a.len≤N):∀{L:List (Fp p)},Desc N L→(∀b∈L,b.len≠a.len)→Desc N (insS a L)
 | [],_,_=>⟨List.pairwise_singleton _ _,fun b hb=>by simp [insS] at hb; rw [hb]; exact ha,fun b hb=>by simp [insS] at hb; rw [hb]; exact hal⟩
 | b::L,h,hne=>by
  obtain ⟨h1,h2⟩:=h.tail
  have hall:∀c∈b::L,Monic (elim a c)∧(elim a c).len=c.len:=fun c hc=>elim_mon (h.mon c hc) (hne c hc)
  refine ⟨?_,fun c hc=>?_,fun c hc=>?_⟩
  ·unfold insS
   split
   ·rename_i hlt
    refine List.pairwise_cons.2 ⟨fun c hc=>?_,?_⟩
    ·obtain ⟨d,hd,rfl⟩:=List.mem_map.1 hc
     rw [(hall d hd).2]
     rcases List.mem_cons.1 hd with rfl | hd
     ·exact hlt
     ·have:=h2 d hd; omega
    ·rw [List.pairwise_map]
     refine h.pw.imp_of_mem fun {x y} hx hy hxy=>?_
     rw [(hall x hx).2,(hall y hy).2]; exact hxy
   ·rename_i hge
    refine List.pairwise_cons.2 ⟨fun c hc=>?_,(insS_desc ha hal h1 fun c hc=>hne c (by simp [hc])).pw⟩
    rw [(hall b (by simp)).2]
    rcases insS_mem hc with rfl | ⟨d,hd,rfl⟩
    ·have:=hne b (by simp); omega
    ·rw [(hall d (by simp [hd])).2]; exact h2 d hd
  ·rcases insS_mem hc with rfl | ⟨d,hd,rfl⟩
   ·exact ha
   ·exact (hall d hd).1
  ·rcases insS_mem hc with rfl | ⟨d,hd,rfl⟩
   ·exact hal
   ·rw [(hall d hd).2]; exact h.le d hd
noncomputable def putS (L:List (Fp p)) (x:Fp p):List (Fp p):=by
 classical exact if redS L x=0 then L else insS (Gq.mon (redS L x)) L
theorem putS_zero {L:List (Fp p)} {x:Fp p} (h:redS L x=0):putS L x=L:=by unfold putS; rw [if_pos h]
theorem putS_ne {L:List (Fp p)} {x:Fp p} (h:redS L x≠0):putS L x=insS (Gq.mon (redS L x)) L:=by unfold putS; rw [if_neg h]
theorem putS_desc {N:Nat} {L:List (Fp p)} {x:Fp p} (h:Desc N L) (hx:x.len≤N):Desc N (putS L x):=by
 by_cases h0:redS L x=0
 ·rw [putS_zero h0]; exact h
 ·rw [putS_ne h0]
  exact insS_desc (mon_monic h0) (by rw [mon_len h0]; exact redS_le h.le hx) h fun b hb=>by rw [mon_len h0]; exact redS_ne h h0 b hb
end
section
variable {p:Int}
end
end Pe

namespace Pe
open Go Gq
variable {T:Nat→Option Fn} {A:Oracle}
section
variable {p:Int} [IsP p]
end
end Pe


namespace Pe
open Go Gq
variable {T:Nat→Option Fn} {A:Oracle}
noncomputable abbrev padD {p:Int} (a:Fp p):D:=(D.arr 64 .leaf (ints .u8 (pad (row a))))
theorem map_padD {p:Int} (xs:List (Fp p)):(skP xs).map arr8=xs.map padD:=by unfold skP; rw [List.map_map]; rfl
section
variable {p:Int} [IsP p]
theorem l_rows {O:Oracle} (hro:K_rowOf O) {xs:List (Fp p)} (hl:xs.length<2000000) (hx:∀x∈xs,x.len≤64):∀(r i:Nat) (cp:Option Nat),i+r=xs.length→∃cp':Option Nat,
 dn O 0 (.loop Z1z_L0) ⟨[(3,.sl 0 [] 0 i cp),(6,.d (.sl (.arr 64 .leaf) (xs.map padD))),(7,(.d (.int .i64 xs.length))),(8,(.d (.int .i64 i)))],[.sl false .leaf ((xs.take i).map rowD),.hole,.hole,.hole]⟩ =
  some (.exit 0,⟨[(3,.sl 0 [] 0 xs.length cp'),(6,.d (.sl (.arr 64 .leaf) (xs.map padD))),(7,(.d (.int .i64 xs.length))),(8,(.d (.int .i64 xs.length))),(9,(.d (.bool false)))],[.sl false .leaf (xs.map rowD),.hole,.hole,.hole]⟩)
 | 0,i,cp,hi=>by
  obtain rfl:i=xs.length:=by omega
  rw [List.take_length]
  refine ⟨cp,dn_stop ?_⟩
  generalize xs.map padD=XD at *
  generalize xs.map rowD=RD at *
  simp -implicitDefEqProofs [Z1z_L0,dn_cond]
 | r+1,i,cp,hi=>by
  have hlt:i<xs.length:=by omega
  have hm:=List.getElem_mem hlt
  have e1:=hro p xs[i] (hx _ hm)
  have hXD:(xs.map padD).length=xs.length:=List.length_map ..
  have hxi:∀h:i<(xs.map padD).length,(xs.map padD)[i]'h=(D.arr 64 .leaf (ints .u8 (pad (row xs[i])))):=fun h=>by rw [List.getElem_map]
  have w4:IntKind.i64.wrap ((i:Int)+1)=((i+1:Nat):Int):=(w64 (x:=(i:Int)+1) (by omega)).trans (by omega)
  have h24:(i+1)*24≤1099511627776:=by omega
  have htk:(xs.take (i+1)).map rowD=(xs.take i).map rowD++[(D.sl .leaf (ints .i64 (row xs[i])))]:=by rw [List.take_succ_eq_append_getElem hlt,List.map_append]; rfl
  have hL:((xs.take i).map rowD).length=i:=by rw [List.length_map,List.length_take]; omega
  have htt:((xs.take i).map rowD).take i=(xs.take i).map rowD:=List.take_of_length_le (by omega)
  obtain ⟨cp',ih⟩:=l_rows hro hl hx r (i+1) none (by omega)
  refine ⟨cp',dn_round ?_ ih⟩
  rw [htk]
  generalize pad (row xs[i])=Pi at *
  generalize row xs[i]=Ri at *
  generalize (xs.take i).map rowD=TD at *
  generalize xs.map padD=XD at *
  simp -implicitDefEqProofs [Z1z_L0,dn_cond,hlt,hXD,hxi,e1,h24,hL,htt,w4,List.replicate]
def K_rows (O:Oracle):Prop:=∀(p:Int) [IsP p] (xs:List (Fp p)),xs.length<2000000→(∀x∈xs,x.len≤64)→ask O F1z [.sl (.arr 64 .leaf) (xs.map padD)]=some (.sl .leaf (xs.map rowD))
theorem l_polys {O:Oracle} (hpo:K_poly O) {xs:List (Fp p)} (hl:xs.length<2000000) (hx:∀x∈xs,x.len≤64):∀(r i:Nat) (cp:Option Nat),i+r=xs.length→∃cp':Option Nat,
 dn O 0 (.loop Z18_L0) ⟨[(3,.sl 0 [] 0 i cp),(6,.d (.sl .leaf (xs.map rowD))),(7,(.d (.int .i64 xs.length))),(8,(.d (.int .i64 i)))],[.sl false (.arr 64 .leaf) ((xs.take i).map padD),.hole,.hole]⟩ =
  some (.exit 0,⟨[(3,.sl 0 [] 0 xs.length cp'),(6,.d (.sl .leaf (xs.map rowD))),(7,(.d (.int .i64 xs.length))),(8,(.d (.int .i64 xs.length))),(9,(.d (.bool false)))],[.sl false (.arr 64 .leaf) (xs.map padD),.hole,.hole]⟩)
 | 0,i,cp,hi=>by
  obtain rfl:i=xs.length:=by omega
  rw [List.take_length]
  refine ⟨cp,dn_stop ?_⟩
  generalize xs.map padD=XD at *
  generalize xs.map rowD=RD at *
  simp -implicitDefEqProofs [Z18_L0,dn_cond]
 | r+1,i,cp,hi=>by
  have hlt:i<xs.length:=by omega
  have hm:=List.getElem_mem hlt
  have e1:=hpo p xs[i] (hx _ hm)
  have hXD:(xs.map rowD).length=xs.length:=List.length_map ..
  have hxi:∀h:i<(xs.map rowD).length,(xs.map rowD)[i]'h=(D.sl .leaf (ints .i64 (row xs[i]))):=fun h=>by rw [List.getElem_map]
  have w4:IntKind.i64.wrap ((i:Int)+1)=((i+1:Nat):Int):=(w64 (x:=(i:Int)+1) (by omega)).trans (by omega)
  have h24:(i+1)*64≤1099511627776:=by omega
  have htk:(xs.take (i+1)).map padD=(xs.take i).map padD++[(D.arr 64 .leaf (ints .u8 (pad (row xs[i]))))]:=by rw [List.take_succ_eq_append_getElem hlt,List.map_append]; rfl
  have hL:((xs.take i).map padD).length=i:=by rw [List.length_map,List.length_take]; omega
  have htt:((xs.take i).map padD).take i=(xs.take i).map padD:=List.take_of_length_le (by omega)
  obtain ⟨cp',ih⟩:=l_polys hpo hl hx r (i+1) none (by omega)
  refine ⟨cp',dn_round ?_ ih⟩
  rw [htk]
  generalize pad (row xs[i])=Pi at *
  generalize row xs[i]=Ri at *
  generalize (xs.take i).map padD=TD at *
  generalize xs.map rowD=XD at *
  simp -implicitDefEqProofs [Z18_L0,dn_cond,hlt,hXD,hxi,e1,h24,hL,htt,w4,List.replicate]
def K_polys (O:Oracle):Prop:=∀(p:Int) [IsP p] (xs:List (Fp p)),xs.length<2000000→(∀x∈xs,x.len≤64)→ask O F18 [.sl .leaf (xs.map rowD)]=some (.sl (.arr 64 .leaf) (xs.map padD))
end
theorem k_rows (hT:T F1z=some Z1z) (hro:K_rowOf (den T A)):K_rows (den T A):=by
 intro p ip xs hl hx
 obtain ⟨cp,e⟩:=l_rows (O:=den T A) hro hl hx xs.length 0 (some 0) (Nat.zero_add _)
 have e00:((0:Nat):Int)=0:=rfl
 rw [e00,List.take_zero,List.map_nil] at e
 have h1:(xs.map rowD).length=xs.length:=List.length_map ..
 have h2:(xs.map padD).length=xs.length:=List.length_map ..
 have htk:(xs.map rowD).take xs.length=xs.map rowD:=List.take_of_length_le (by omega)
 refine ask_of hT rfl ?_
 generalize xs.map padD=XD at *
 generalize xs.map rowD=RD at *
 simp -implicitDefEqProofs [Z1z,Z1z_B,h1,h2,htk,e]
theorem k_polys (hT:T F18=some Z18) (hpo:K_poly (den T A)):K_polys (den T A):=by
 intro p ip xs hl hx
 obtain ⟨cp,e⟩:=l_polys (O:=den T A) hpo hl hx xs.length 0 (some 0) (Nat.zero_add _)
 have e00:((0:Nat):Int)=0:=rfl
 rw [e00,List.take_zero,List.map_nil] at e
 have h1:(xs.map padD).length=xs.length:=List.length_map ..
 have h2:(xs.map rowD).length=xs.length:=List.length_map ..
 have htk:(xs.map padD).take xs.length=xs.map padD:=List.take_of_length_le (by omega)
 refine ask_of hT rfl ?_
 generalize xs.map padD=XD at *
 generalize xs.map rowD=RD at *
 simp -implicitDefEqProofs [Z18,Z18_B,h1,h2,htk,e]
end Pe

namespace Pe
open Go Gq
section
variable {p:Int}
noncomputable def cS (A:List (Fp p)) (i:Nat):Fp p:=(A[i]?).getD 0
theorem cS_ge {A:List (Fp p)} {i:Nat} (h:A.length≤i):cS A i=0:=by unfold cS; rw [List.getElem?_eq_none h]; rfl
theorem cS_lt {A:List (Fp p)} {i:Nat} (h:i<A.length):A[i]=cS A i:=by unfold cS; rw [List.getElem?_eq_getElem h]; rfl
def IsTrim (A:List (Fp p)):Prop:=∀n,A.length=n+1→cS A n≠0
theorem cS_trim (S:List (Fp p)) (i:Nat):cS (trimS S) i=cS S i:=by
 unfold cS trimS
 have hle:=stl_le S S.length
 by_cases h:i<stl S S.length
 ·rw [List.getElem?_take,if_pos h]
 ·rw [List.getElem?_take,if_neg h]
  by_cases h2:i<S.length
  ·rw [stl_zero S S.length i (by omega) h2]; rfl
  ·rw [List.getElem?_eq_none (by omega)]
theorem isTrim_trim (S:List (Fp p)):IsTrim (trimS S):=fun n hn=>by
 obtain ⟨a,x,e,hx⟩:=trimS_form (S:=S) (by omega)
 rw [e] at hn ⊢
 rw [List.length_append,List.length_singleton] at hn
 unfold cS
 rw [List.getElem?_append_right (by omega),show n-a.length=0 by omega]
 exact hx
theorem trim_ext {A B:List (Fp p)} (hA:IsTrim A) (hB:IsTrim B) (h:∀i,cS A i=cS B i):A=B:=by
 have hl:A.length=B.length:=by
  rcases Nat.lt_trichotomy A.length B.length with g | g | g
  ·exact absurd (by rw [←h]; exact cS_ge (by omega)) (hB (B.length-1) (by omega))
  ·exact g
  ·exact absurd (by rw [h]; exact cS_ge (by omega)) (hA (A.length-1) (by omega))
 refine List.ext_getElem hl fun i h1 h2=>?_
 rw [cS_lt h1,cS_lt h2,h]
theorem trim_len_le {X:List (Fp p)} {n:Nat} (h:∀i,n≤i→cS X i=0):(trimS X).length≤n:=by
 rcases Nat.lt_or_ge n (trimS X).length with g | g
 ·have:=isTrim_trim X ((trimS X).length-1) (by omega)
  rw [cS_trim] at this
  exact absurd (h _ (by omega)) this
 ·exact g
theorem isTrim_nil:IsTrim ([]:List (Fp p)):=fun n h=>by cases h
theorem cS_nil (i:Nat):cS ([]:List (Fp p)) i=0:=rfl
theorem cS_mem {A:List (Fp p)} {N:Nat} (h:∀i,(cS A i).len≤N):∀c∈A,c.len≤N:=fun c hc=>by
 obtain ⟨i,hi,rfl⟩:=List.getElem_of_mem hc
 rw [cS_lt hi]; exact h i
theorem mem_cS {A:List (Fp p)} {N:Nat} (h:∀c∈A,c.len≤N) (i:Nat):(cS A i).len≤N:=by
 by_cases hi:i<A.length
 ·rw [←cS_lt hi]; exact h _ (List.getElem_mem hi)
 ·rw [cS_ge (by omega),Pol.len_zero]; omega
theorem cS_map {n:Nat} {f:Nat→Fp p} (i:Nat):cS ((List.range n).map f) i=if i<n then f i else 0:=by
 unfold cS
 rw [List.getElem?_map]
 by_cases h:i<n
 ·rw [List.getElem?_range h,if_pos h]; rfl
 ·rw [List.getElem?_eq_none (by simpa using h),if_neg h]; rfl
noncomputable def plusS (k:Int) (A B:List (Fp p)):List (Fp p):=trimS ((List.range (max A.length B.length)).map fun i=>cS A i+Pol.C (zp p k)*cS B i)
theorem cS_plus (k:Int) (A B:List (Fp p)) (i:Nat):cS (plusS k A B) i=cS A i+Pol.C (zp p k)*cS B i:=by
 unfold plusS
 rw [cS_trim,cS_map]
 split
 ·rfl
 ·rw [cS_ge (A:=A) (by omega),cS_ge (A:=B) (by omega),Gq.mul_zero,Gq.add_zero]
theorem isTrim_plus (k:Int) (A B:List (Fp p)):IsTrim (plusS k A B):=isTrim_trim _
theorem plus_len (k:Int) (A B:List (Fp p)):(plusS k A B).length≤max A.length B.length:=trim_len_le fun i hi=>by
 rw [cS_map,if_neg (by omega)]
noncomputable def termS (c:Fp p) (k:Nat):List (Fp p):=List.replicate k 0++[c]
theorem termS_length (c:Fp p) (k:Nat):(termS c k).length=k+1:=by unfold termS; rw [List.length_append,List.length_replicate]; rfl
theorem cS_term (c:Fp p) (k i:Nat):cS (termS c k) i=if i=k then c else 0:=by
 unfold cS termS
 rcases Nat.lt_trichotomy i k with h | h | h
 ·rw [List.getElem?_append_left (by rw [List.length_replicate]; exact h),List.getElem?_replicate,if_pos h,if_neg (by omega)]; rfl
 ·rw [List.getElem?_append_right (by rw [List.length_replicate]; omega),List.length_replicate,h,Nat.sub_self,if_pos rfl]; rfl
 ·rw [List.getElem?_eq_none (by rw [List.length_append,List.length_replicate,List.length_singleton]; omega),if_neg (by omega)]; rfl
theorem isTrim_term {c:Fp p} (h:c≠0) (k:Nat):IsTrim (termS c k):=fun n hn=>by
 rw [termS_length] at hn
 rw [cS_term,if_pos (by omega)]; exact h
theorem trimS_len_le (S:List (Fp p)):(trimS S).length≤S.length:=by
 unfold trimS; rw [List.length_take]; omega
theorem cS_set {X:List (Fp p)} {n i:Nat} {c:Fp p} (h:n<X.length):cS (X.set n c) i=if i=n then c else cS X i:=by
 unfold cS
 by_cases hi:i=n
 ·subst hi; rw [List.getElem?_set_self h,if_pos rfl]; rfl
 ·rw [List.getElem?_set_ne (by omega),if_neg hi]
theorem snoc_of {B:List (Fp p)} (h:1≤B.length):∃b,B=b++[cS B (B.length-1)]∧b.length=B.length-1:=by
 have hlt:B.length-1<B.length:=by omega
 refine ⟨B.take (B.length-1),?_,by rw [List.length_take]; omega⟩
 rw [←cS_lt hlt,←List.take_succ_eq_append_getElem hlt,show B.length-1+1=B.length by omega,List.take_length]
end
section
variable {p:Int} [IsP p]
theorem byIn_lens' {m x:Fp p} {i N:Nat} (hm:m≠0) (hN:m.len≤N+1):∀(k:Nat) (b Q:List (Fp p)),(∀c∈Q,c.len≤N)→∀c∈byIn m x i k b Q,c.len≤N
 | _,[],_,h=>h
 | k,y::ys,Q,h=>byIn_lens' hm hN (k+1) ys _ (addAt_lens h (by have:=Pol.len_mod (x*frIt m (i%(m.len-1)) y) hm; omega))
theorem byOut_lens' {m:Fp p} {b:List (Fp p)} {N:Nat} (hm:m≠0) (hN:m.len≤N+1):∀(i:Nat) (a Q:List (Fp p)),(∀c∈Q,c.len≤N)→∀c∈byOut m b i a Q,c.len≤N
 | _,[],_,h=>h
 | i,_x::xs,Q,h=>byOut_lens' hm hN (i+1) xs _ (byIn_lens' hm hN 0 b Q h)
theorem prodS_lens' {m:Fp p} {a b:List (Fp p)} {N:Nat} (hm:m≠0) (hN:m.len≤N+1):∀c∈prodS m a b,c.len≤N:=fun c hc=>by
 unfold prodS at hc
 split at hc
 ·cases hc
 ·have h1:c∈mulS m a b:=List.mem_of_mem_take hc
  exact byOut_lens' hm hN 0 a _ (fun c hc=>by rw [List.eq_of_mem_replicate hc,Pol.len_zero]; omega) c h1
theorem isTrim_prod (m:Fp p) (a b:List (Fp p)):IsTrim (prodS m a b):=by
 unfold prodS
 split
 ·exact isTrim_nil
 ·exact isTrim_trim _
theorem prod_len_le {m:Fp p} {a b:List (Fp p)}:(prodS m a b).length≤a.length+b.length-1:=by
 unfold prodS
 split
 ·exact Nat.zero_le _
 ·have:=trimS_len_le (mulS m a b)
  have hl:(mulS m a b).length=a.length+b.length-1:=by unfold mulS; rw [byOut_length,List.length_replicate]
  omega
theorem mulS_val {m x y:Fp p} {a b:List (Fp p)}:cS (mulS m (a++[x]) (b++[y])) (a.length+b.length)=x*frIt m (a.length%(m.len-1)) y%m:=by
 unfold mulS
 rw [byOut_snoc,byIn_snoc]
 unfold addAt
 rw [byIn_get_ge _ _ _ (by omega),byOut_get_ge _ _ _ (by rw [List.length_append,List.length_cons,List.length_nil]; omega)]
 have hN:0+a.length+(0+b.length)=a.length+b.length:=by omega
 rw [hN]
 unfold cS
 rw [List.getElem?_set_self (by rw [byIn_length,byOut_length,List.length_replicate,List.length_append,List.length_append]; simp only [List.length_cons,List.length_nil]; omega)]
 rw [List.getElem?_replicate,if_pos (by rw [List.length_append,List.length_append]; simp only [List.length_cons,List.length_nil]; omega)]
 show (0:Fp p)+_=_
 rw [Gq.zero_add,show 0+a.length=a.length by omega]
theorem prod_top {m:Fp p} {A B:List (Fp p)} (ha:1≤A.length) (hb:1≤B.length):cS (prodS m A B) (A.length-1+(B.length-1))=cS A (A.length-1)*frIt m ((A.length-1)%(m.len-1)) (cS B (B.length-1))%m:=by
 obtain ⟨a,ea,la⟩:=snoc_of ha
 obtain ⟨b,eb,lb⟩:=snoc_of hb
 have h:=mulS_val (m:=m) (x:=cS A (A.length-1)) (y:=cS B (B.length-1)) (a:=a) (b:=b)
 rw [←ea,←eb,la,lb] at h
 unfold prodS
 rw [if_neg (by omega),cS_trim]
 exact h
theorem inv_back {m x y:Fp p} (hm:Fld m) (hx:x.len<m.len) (hy:y≠0) (hyl:y.len<m.len):(x*invm m y%m)*y%m=x∧y*(x*invm m y%m)%m=x:=by
 have h0:m≠0:=hm.mon.2
 have e:=invm_ok hm hy hyl
 have key:Quo.mk m ((x*invm m y%m)*y)=Quo.mk m x:=by
  rw [Quo.mk_mul,Pol.mk_mod,Quo.mk_mul,Gq.mul_assoc,e,Gq.mul_one]
 have h1:=(Pol.mod_eq_iff h0).2 key
 rw [Pol.mod_small hx] at h1
 exact ⟨h1,by rw [Gq.mul_comm]; exact h1⟩
theorem frIt_add {m:Fp p}:∀(b a:Nat) (x:Fp p),frIt m (a+b) x=frIt m a (frIt m b x)
 | 0,_,_=>rfl
 | b+1,a,x=>by
  show frIt m (a+b) (pw x p.toNat%m)=frIt m a (frIt m b (pw x p.toNat%m))
  exact frIt_add b a _
theorem frIt_round {m:Fp p} (hm:Fld m) (j:Nat) {z:Fp p} (hz:z.len<m.len):frIt m (j%(m.len-1)) (frIt m ((m.len-1-j%(m.len-1))%(m.len-1)) z)=z:=by
 have h2:=hm.two
 have hlt:=Nat.mod_lt j (show 0<m.len-1 by omega)
 rw [frIt_mod hm _ hz,←frIt_add,show j%(m.len-1)+(m.len-1-j%(m.len-1))=m.len-1 by omega,←frIt_mod hm _ hz,Nat.mod_self]
 rfl
noncomputable def qc (left:Bool) (m:Fp p) (A B:List (Fp p)):Fp p:=
 if left then frIt m ((m.len-1-(B.length-1)%(m.len-1))%(m.len-1)) (cS A (A.length-1)*invm m (cS B (B.length-1))%m)
 else cS A (A.length-1)*invm m (frIt m ((A.length-B.length)%(m.len-1)) (cS B (B.length-1)))%m
noncomputable def qT (left:Bool) (m:Fp p) (A B:List (Fp p)):List (Fp p):=termS (qc left m A B) (A.length-B.length)
noncomputable def qP (left:Bool) (m:Fp p) (A B:List (Fp p)):List (Fp p):=if left then prodS m B (qT left m A B) else prodS m (qT left m A B) B
end
section
variable {p:Int}
structure Sk (m:Fp p) (A:List (Fp p)):Prop where
 trim:IsTrim A
 eight:A.length≤8
 res:∀c∈A,c.len<m.len
theorem Sk.cs {m:Fp p} {A:List (Fp p)} (h:Sk m A) (hm:m≠0) (i:Nat):(cS A i).len<m.len:=by
 have:=mem_cS (N:=m.len-1) (fun c hc=>by have:=h.res c hc; omega) i
 have:=Pol.len_pos hm
 omega
theorem Sk.top {m:Fp p} {A:List (Fp p)} (h:Sk m A) (h1:1≤A.length):cS A (A.length-1)≠0:=h.trim _ (by omega)
theorem Sk.nil (m:Fp p):Sk m []:=⟨isTrim_nil,by simp,fun c h=>by cases h⟩
end
section
variable {p:Int} [IsP p]
theorem c_ge' {p:Int} {a:Fp p} {n:Nat} (h:a.len≤n):a.c n=0:=a.lt_len n h
theorem Sk.plus {m:Fp p} {A B:List (Fp p)} (hm:m≠0) (hA:Sk m A) (hB:Sk m B) (k:Int):Sk m (plusS k A B):=by
 have h1:=Pol.len_pos hm
 refine ⟨isTrim_plus k A B,by have:=plus_len k A B; have:=hA.eight; have:=hB.eight; omega,fun c hc=>?_⟩
 have:=cS_mem (A:=plusS k A B) (N:=m.len-1) (fun i=>by
  rw [cS_plus]
  have a1:=hA.cs hm i
  have a2:=hB.cs hm i
  exact Pol.len_add_le (by omega) (Pol.len_le fun j hj=>by rw [Pol.c_Cmul,c_ge' (by omega),Gq.mul_zero])) c hc
 omega
theorem step_ok (left:Bool) {m:Fp p} (hm:Fld m) {A B:List (Fp p)} (hA:Sk m A) (hB:Sk m B) (h1:1≤B.length) (hle:B.length≤A.length) :
 qc left m A B≠0∧(qc left m A B).len<m.len∧Sk m (qT left m A B)∧Sk m (qP left m A B)∧(plusS (-1) A (qP left m A B)).length<A.length∧Sk m (plusS (-1) A (qP left m A B)):=by
 have h0:m≠0:=hm.mon.2
 have hx:=hA.top (by omega)
 have hxl:=hA.cs h0 (A.length-1)
 have hy:=hB.top h1
 have hyl:=hB.cs h0 (B.length-1)
 have hfy:frIt m ((A.length-B.length)%(m.len-1)) (cS B (B.length-1))≠0:=frIt_ne hm _ _ hy hyl
 have hfl:=frIt_len h0 ((A.length-B.length)%(m.len-1)) (cS B (B.length-1)) hyl
 have hb1:=inv_back hm hxl hfy hfl
 have hb2:=inv_back hm hxl hy hyl
 have hzl:(cS A (A.length-1)*invm m (cS B (B.length-1))%m).len<m.len:=Pol.len_mod _ h0
 have hz0:cS A (A.length-1)*invm m (cS B (B.length-1))%m≠0:=fun h=>by
  have:=hb2.1
  rw [h,Gq.zero_mul,Pol.zero_mod h0] at this
  exact hx this.symm
 have hc0:qc left m A B≠0:=by
  unfold qc
  cases left with
  | true=>simp only [if_true]; exact frIt_ne hm _ _ hz0 hzl
  | false=>
   simp only [Bool.false_eq_true,if_false]
   intro h
   have:=hb1.1
   rw [h,Gq.zero_mul,Pol.zero_mod h0] at this
   exact hx this.symm
 have hcl:(qc left m A B).len<m.len:=by
  unfold qc
  cases left with
  | true=>simp only [if_true]; exact frIt_len h0 _ _ hzl
  | false=>simp only [Bool.false_eq_true,if_false]; exact Pol.len_mod _ h0
 have hTl:(qT left m A B).length=A.length-B.length+1:=termS_length _ _
 have h8:=hA.eight
 have hT:Sk m (qT left m A B):=⟨isTrim_term hc0 _,by omega,fun c hc=>by
  unfold qT termS at hc
  rcases List.mem_append.1 hc with h | h
  ·rw [List.eq_of_mem_replicate h,Pol.len_zero]; exact Pol.len_pos h0
  ·rw [List.mem_singleton.1 h]; exact hcl⟩
 have hPl:(qP left m A B).length≤A.length:=by
  unfold qP
  cases left with
  | true=>have:=prod_len_le (m:=m) (a:=B) (b:=qT true m A B); simp only [if_true]; omega
  | false=>have:=prod_len_le (m:=m) (a:=qT false m A B) (b:=B); simp only [Bool.false_eq_true,if_false]; omega
 have hP:Sk m (qP left m A B):=by
  have hm1:=Pol.len_pos h0
  refine ⟨?_,by omega,?_⟩
  ·unfold qP
   cases left with
   | true=>exact isTrim_prod _ _ _
   | false=>exact isTrim_prod _ _ _
  ·intro c hc
   have:c.len≤m.len-1:=by
    unfold qP at hc
    cases left with
    | true=>exact prodS_lens' h0 (by omega) c hc
    | false=>exact prodS_lens' h0 (by omega) c hc
   omega
 have htop:cS (qP left m A B) (A.length-1)=cS A (A.length-1):=by
  unfold qP
  cases left with
  | true=>
   simp only [if_true]
   have h:=prod_top (m:=m) (A:=B) (B:=qT true m A B) h1 (by omega)
   rw [hTl,show B.length-1+(A.length-B.length+1-1)=A.length-1 by omega,show A.length-B.length+1-1=A.length-B.length by omega] at h
   rw [h]
   unfold qT
   rw [cS_term,if_pos rfl]
   unfold qc
   simp only [if_true]
   rw [frIt_round hm (B.length-1) hzl]
   exact hb2.2
  | false=>
   simp only [Bool.false_eq_true,if_false]
   have h:=prod_top (m:=m) (A:=qT false m A B) (B:=B) (by omega) h1
   rw [hTl,show A.length-B.length+1-1+(B.length-1)=A.length-1 by omega,show A.length-B.length+1-1=A.length-B.length by omega] at h
   rw [h]
   unfold qT
   rw [cS_term,if_pos rfl]
   unfold qc
   simp only [Bool.false_eq_true,if_false]
   exact hb1.1
 have hneg:∀x:Fp p,x+Pol.C (zp p (-1))*x=0:=fun x=>by
  rw [zp_neg,zp_one,Pol.C_neg,Pol.C_one]
  exact ring_of [x] rfl
 refine ⟨hc0,hcl,hT,hP,?_,hA.plus h0 hP (-1)⟩
 have hlt:(plusS (-1) A (qP left m A B)).length≤A.length-1:=trim_len_le fun i hi=>by
  rw [cS_map]
  split
  ·rcases Nat.lt_or_ge i A.length with g | g
   ·rw [show i=A.length-1 by omega,htop,hneg]
   ·rw [cS_ge g,cS_ge (A:=qP left m A B) (by omega),Gq.mul_zero,Gq.add_zero]
  ·rfl
 omega
def Zto (Q A B:List (Fp p)):Prop:=∀j,j+B.length≤A.length→cS Q j=0
theorem Zto.step {left:Bool} {m:Fp p} (hm:Fld m) {Q A B:List (Fp p)} (hA:Sk m A) (hB:Sk m B) (h1:1≤B.length) (hle:B.length≤A.length) (hz:Zto Q A B):Zto (plusS 1 Q (qT left m A B)) (plusS (-1) A (qP left m A B)) B:=fun j hj=>by
 obtain ⟨_,_,_,_,h,_⟩:=step_ok left hm hA hB h1 hle
 unfold qT
 rw [cS_plus,hz j (by omega),cS_term,if_neg (by omega),Gq.mul_zero,Gq.add_zero]
end
end Pe

namespace Pe
open Go Gq
variable {T:Nat→Option Fn} {A:Oracle}
def K_single (O:Oracle):Prop:=∀(p:Int) [IsP p] (c:Fp p) (k:Nat),k<10000→ask O F20 [(D.sl .leaf (ints .i64 (row c))),(D.int .i64 k)]=some (skD (termS c k))
theorem termS_map {p:Int} (c:Fp p) (k:Nat):(List.replicate (k+1) (D.sl .leaf [])).set k (D.sl .leaf (ints .i64 (row c)))=(termS c k).map rowD:=by
 unfold termS
 rw [List.map_append,List.map_replicate,show rowD (0:Fp p)=.sl .leaf [] by show (D.sl .leaf (ints .i64 (row (0:Fp p))))=_; rw [row_zero,ints_nil],List.replicate_succ',List.set_append_right _ _ (by rw [List.length_replicate]; omega),List.length_replicate,Nat.sub_self]
 rfl
theorem k_single (hT:T F20=some Z20):K_single (den T A):=by
 intro p ip c k hk
 have w1:IntKind.i64.wrap ((k:Int)+1)=((k+1:Nat):Int):=(w64 (x:=(k:Int)+1) (by omega)).trans (by omega)
 have h24:(k+1)*24≤1099511627776:=by omega
 have hn:(0:Int)≤((k+1:Nat):Int):=by omega
 have hlt:k<k+1:=by omega
 have hsk:skD (termS c k)=.sl .leaf ((termS c k).map rowD):=rfl
 have htm:=termS_map c k
 have hTL:((termS c k).map rowD).length=k+1:=by rw [List.length_map,termS_length]
 have htk:((termS c k).map rowD).take (k+1)=(termS c k).map rowD:=List.take_of_length_le (by omega)
 rw [hsk]
 refine ask_of hT rfl ?_
 have hRL:(List.replicate (k+1) (D.sl .leaf [])).length=k+1:=List.length_replicate ..
 have hRg:∀h:k<(List.replicate (k+1) (D.sl .leaf [])).length,(List.replicate (k+1) (D.sl .leaf []))[k]'h=D.sl .leaf []:=fun h=>List.getElem_replicate h
 generalize (termS c k).map rowD=TD at *
 generalize row c=Rc at *
 generalize hRR:List.replicate (k+1) (D.sl .leaf [])=RR at *
 generalize k+1=k1 at *
 simp -implicitDefEqProofs [Z20,Z20_B,w1,h24,hlt,hRR,hRL,hRg,htm,hTL,htk]
def K_skAt (O:Oracle):Prop:=∀(p:Int) [IsP p] (A:List (Fp p)) (i:Nat),ask O F21 [skD A,(D.int .i64 i)]=some (D.sl .leaf (ints .i64 (row (cS A i))))
theorem k_skAt (hT:T F21=some Z21):K_skAt (den T A):=by
 intro p ip S i
 have hsk:skD S=.sl .leaf (S.map rowD):=rfl
 have hL:(S.map rowD).length=S.length:=List.length_map ..
 rw [hsk]
 refine ask_of hT rfl ?_
 by_cases h:i<S.length
 ·have hx:∀h:i<(S.map rowD).length,(S.map rowD)[i]'h=(D.sl .leaf (ints .i64 (row (cS S i)))):=fun h'=>by rw [List.getElem_map,cS_lt h]
  generalize row (cS S i)=Rc at *
  generalize S.map rowD=SD at *
  simp -implicitDefEqProofs [Z21,Z21_B,dn_cond,h,hL,hx]
 ·rw [cS_ge (by omega),row_zero]
  generalize S.map rowD=SD at *
  simp -implicitDefEqProofs [Z21,Z21_B,dn_cond,h,hL,ints_nil]
theorem l_plus {O:Oracle} (hat:K_skAt O) (hco:K_combine O) {p:Int} [IsP p] {m:Fp p} {X Y:List (Fp p)} {k:Int} (hk:-1000≤k∧k≤1000) (hX:∀c∈X,c.len≤64) (hY:∀c∈Y,c.len≤64) {n:Nat} (hn:n<100000) {cp cq:Option Nat}:∀(r i:Nat) (Q:List D),i+r=n→Q.length=n→(∀d∈Q,d.sh.beq .leaf=true)→Q.take i=((List.range n).map fun i=>rowD (cS X i+Pol.C (zp p k)*cS Y i)).take i →
 dn O 0 (.loop Zz_L0) ⟨[(1,.d (skD X)),(2,.d (skD Y)),(3,(.d (.int .i64 k))),(4,.ptr 0 []),(9,.sl 1 [] 0 n cp),(18,(.d (.int .i64 n))),(19,(.d (.int .i64 i)))],[.box false (fldD m),.sl false .leaf Q]⟩ =
  some (.exit 0,⟨[(1,.d (skD X)),(2,.d (skD Y)),(3,(.d (.int .i64 k))),(4,.ptr 0 []),(9,.sl 1 [] 0 n cp),(18,(.d (.int .i64 n))),(19,(.d (.int .i64 n))),(20,(.d (.bool false)))],[.box false (fldD m),.sl false .leaf ((List.range n).map fun i=>rowD (cS X i+Pol.C (zp p k)*cS Y i))]⟩)
 | 0,i,Q,hi,hq,hQ,ht=>by
  obtain rfl:i=n:=by omega
  rw [List.take_of_length_le (by omega),List.take_of_length_le (by rw [List.length_map,List.length_range]; omega)] at ht
  subst ht
  refine dn_stop ?_
  generalize (List.range i).map (fun i=>rowD (cS X i+Pol.C (zp p k)*cS Y i))=LQ at *
  simp -implicitDefEqProofs [Zz_L0,dn_cond]
 | r+1,i,Q,hi,hq,hQ,ht=>by
  have hlt:i<n:=by omega
  have hltq:i<Q.length:=by omega
  have hsh:∀h:i<Q.length,(Q[i]'h).sh.beq .leaf=true:=fun h=>hQ _ (List.getElem_mem h)
  have e1:=hat p X i
  have e2:=hat p Y i
  have a1:=mem_cS hX i
  have a2:=mem_cS hY i
  have e3:=hco p k (cS X i) (cS Y i) (by omega) (by omega) (by omega) (by omega)
  have w4:IntKind.i64.wrap ((i:Int)+1)=((i+1:Nat):Int):=(w64 (x:=(i:Int)+1) (by omega)).trans (by omega)
  have hLn:((List.range n).map fun i=>rowD (cS X i+Pol.C (zp p k)*cS Y i)).length=n:=by rw [List.length_map,List.length_range]
  refine dn_round ?_ (l_plus hat hco (m:=m) hk hX hY hn (cp:=cp) (cq:=cq) r (i+1) (Q.set i (D.sl .leaf (ints .i64 (row (cS X i+Pol.C (zp p k)*cS Y i))))) (by omega) (by rw [List.length_set]; exact hq) (fun d hd=>by
   rcases List.mem_or_eq_of_mem_set hd with h1 | rfl
   ·exact hQ d h1
   ·rfl) (by
   rw [List.take_succ_eq_append_getElem (by rw [List.length_set]; exact hltq),List.getElem_set_self,List.take_set,List.set_eq_of_length_le (by rw [List.length_take]; omega),ht,List.take_succ_eq_append_getElem (by omega),List.getElem_map,List.getElem_range]))
  have hfd:fldD m=.st [.leaf,.leaf] [(D.int .i64 p),(D.sl .leaf (ints .i64 (row m)))]:=rfl
  have hsX:skD X=.sl .leaf (X.map rowD):=rfl
  have hsY:skD Y=.sl .leaf (Y.map rowD):=rfl
  rw [hfd]
  rw [hsX] at e1 ⊢
  rw [hsY] at e2 ⊢
  generalize row (cS X i+Pol.C (zp p k)*cS Y i)=R3 at *
  generalize row (cS X i)=R1 at *
  generalize row (cS Y i)=R2 at *
  generalize X.map rowD=XD at *
  generalize Y.map rowD=YD at *
  generalize row m=Rm at *
  simp -implicitDefEqProofs [Zz_L0,dn_cond,hlt,hq,hsh,e1,e2,e3,w4]
def K_plus (O:Oracle):Prop:=∀(p:Int) [IsP p] (m:Fp p) (X Y:List (Fp p)) (k:Int),-1000≤k→k≤1000→X.length<10000→Y.length<10000→(∀c∈X,c.len≤64)→(∀c∈Y,c.len≤64)→ask O Fz [fldD m,skD X,skD Y,(D.int .i64 k)]=some (skD (plusS k X Y))
theorem k_plus (hT:T Fz=some Zz) (hat:K_skAt (den T A)) (hco:K_combine (den T A)) (htr:K_sktrim (den T A)):K_plus (den T A):=by
 intro p ip m X Y k hk1 hk2 hXl hYl hX hY
 have e1:=l_plus (O:=den T A) hat hco (m:=m) ⟨hk1,hk2⟩ hX hY (n:=max X.length Y.length) (by omega) (cp:=some (max X.length Y.length)) (cq:=none) (max X.length Y.length) 0 (List.replicate (max X.length Y.length) (.sl .leaf [])) (Nat.zero_add _) (List.length_replicate ..) (fun d hd=>by rw [List.eq_of_mem_replicate hd]; rfl) (by rw [List.take_zero,List.take_zero])
 have e00:((0:Nat):Int)=0:=rfl
 have e2:=htr p ((List.range (max X.length Y.length)).map fun i=>cS X i+Pol.C (zp p k)*cS Y i) (by rw [List.length_map,List.length_range]; omega)
 have hsum:skD ((List.range (max X.length Y.length)).map fun i=>cS X i+Pol.C (zp p k)*cS Y i)=.sl .leaf ((List.range (max X.length Y.length)).map fun i=>rowD (cS X i+Pol.C (zp p k)*cS Y i)):=by
  show D.sl .leaf (List.map _ (List.map _ _))=_
  rw [List.map_map]; rfl
 rw [hsum,show trimS ((List.range (max X.length Y.length)).map fun i=>cS X i+Pol.C (zp p k)*cS Y i)=plusS k X Y from rfl] at e2
 rw [e00] at e1
 have hsX:skD X=.sl .leaf (X.map rowD):=rfl
 have hsY:skD Y=.sl .leaf (Y.map rowD):=rfl
 have hsP:skD (plusS k X Y)=.sl .leaf ((plusS k X Y).map rowD):=rfl
 have hX1:(X.map rowD).length=X.length:=List.length_map ..
 have hY1:(Y.map rowD).length=Y.length:=List.length_map ..
 have hmx:(if X.length<Y.length then ((Y.length:Nat):Int) else ((X.length:Nat):Int))=((max X.length Y.length:Nat):Int):=by split <;> omega
 have h24:max X.length Y.length*24≤1099511627776:=by omega
 have hLn:((List.range (max X.length Y.length)).map fun i=>rowD (cS X i+Pol.C (zp p k)*cS Y i)).length=max X.length Y.length:=by rw [List.length_map,List.length_range]
 have htk:((List.range (max X.length Y.length)).map fun i=>rowD (cS X i+Pol.C (zp p k)*cS Y i)).take (max X.length Y.length)=((List.range (max X.length Y.length)).map fun i=>rowD (cS X i+Pol.C (zp p k)*cS Y i)):=List.take_of_length_le (by omega)
 rw [hsP] at e2 ⊢
 rw [hsX,hsY] at e1 ⊢
 refine ask_of hT rfl ?_
 generalize ((List.range (max X.length Y.length)).map fun i=>rowD (cS X i+Pol.C (zp p k)*cS Y i))=LQ at *
 generalize X.map rowD=XD at *
 generalize Y.map rowD=YD at *
 generalize (plusS k X Y).map rowD=PD at *
 generalize hmm:max X.length Y.length=n at *
 simp -implicitDefEqProofs [Zz,Zz_B,hX1,hY1,hmx,h24,e1,e2,hLn,htk]
def K_by2 (O:Oracle):Prop:=∀(p:Int) [IsP p] (m:Fp p) (a b:List (Fp p)),2≤m.len→m.len≤64→(∀c∈a,c.len≤64)→(∀c∈b,c.len≤64)→a.length<10000→b.length<10000→ask O Fu [fldD m,skD a,skD b]=some (skD (prodS m a b))
theorem k_by2 {O:Oracle} (h:K_by O):K_by2 O:=by
 intro p ip m a b h2 hml ha hb hal hbl
 rw [h p m a b h2 hml ha hb hal hbl]
 unfold prodS
 split <;> rfl
end Pe


namespace Pe
open Go Gq
variable {T:Nat→Option Fn} {A:Oracle}
section
variable {p:Int}
end
section
variable {p:Int} [IsP p]
end
end Pe


namespace Pe
open Go Gq
variable {T:Nat→Option Fn} {A:Oracle}
end Pe

namespace Pe
open Go Gq
variable {T:Nat→Option Fn} {A:Oracle}
end Pe


namespace Pe
open Go Gq
variable {T:Nat→Option Fn} {A:Oracle}
section
variable {p:Int} [IsP p]
end
end Pe


namespace Pe
open Go Gq
variable {T:Nat→Option Fn} {A:Oracle}
section
variable {p:Int} [IsP p]
end
end Pe

namespace Pe
open Go Gq
variable {T:Nat→Option Fn} {A:Oracle}
section
variable {α:Type}
end
end Pe

namespace Pe
open Go Gq
variable {T:Nat→Option Fn} {A:Oracle}
end Pe


namespace Pe
open Go Gq
variable {T:Nat→Option Fn} {A:Oracle}
end Pe

namespace Pe
open Go Gq
variable {T:Nat→Option Fn} {A:Oracle}
end Pe

namespace Pe
open Go Gq
variable {T:Nat→Option Fn} {A:Oracle}
section
variable {p:Int} [IsP p]
theorem byIn_cS {m x:Fp p} {i n:Nat}:∀(k:Nat) (b Q:List (Fp p)),i+k+b.length≤Q.length→cS (byIn m x i k b Q) n=if i+k≤n∧n<i+k+b.length then cS Q n+x*frIt m (i%(m.len-1)) (cS b (n-(i+k)))%m else cS Q n
 | k,[],Q,_=>by rw [if_neg (by rw [List.length_nil]; omega)]; rfl
 | k,y::ys,Q,h=>by
  rw [List.length_cons] at h
  show cS (byIn m x i (k+1) ys (addAt Q (i+k) _)) n=_
  rw [byIn_cS (k+1) ys _ (by rw [addAt_length]; omega)]
  have hadd:∀v:Fp p,cS (addAt Q (i+k) v) n=if n=i+k then cS Q n+v else cS Q n:=fun v=>by
   unfold addAt
   rw [cS_set (by omega)]
   split
   ·rename_i h; rw [h]; rfl
   ·rfl
  rw [hadd]
  by_cases h1:n=i+k
  ·subst h1
   rw [if_neg (by omega),if_pos rfl,if_pos (by rw [List.length_cons]; omega),Nat.sub_self]
   rfl
  ·rw [if_neg h1]
   by_cases h2:i+k≤n∧n<i+k+(y::ys).length
   ·rw [List.length_cons] at h2
    rw [if_pos (by omega),if_pos (by rw [List.length_cons]; omega)]
    have:cS (y::ys) (n-(i+k))=cS ys (n-(i+(k+1))):=by
     unfold cS
     rw [show n-(i+k)=(n-(i+(k+1)))+1 by omega,List.getElem?_cons_succ]
    rw [this]
   ·rw [if_neg h2,if_neg (by rw [List.length_cons] at h2; omega)]
noncomputable def monS (m:Fp p) (X:List (Fp p)):List (Fp p):=prodS m (termS (invm m (cS X (X.length-1))) 0) X
theorem Sk.mon {m:Fp p} {X:List (Fp p)} (hm:m≠0) (hX:Sk m X):Sk m (monS m X):=by
 have h1:=Pol.len_pos hm
 have hl:=prod_len_le (m:=m) (a:=termS (invm m (cS X (X.length-1))) 0) (b:=X)
 rw [termS_length] at hl
 have h8:=hX.eight
 exact ⟨isTrim_prod _ _ _,by unfold monS; omega,fun c hc=>by have:=prodS_lens' (N:=m.len-1) hm (by omega) c hc; omega⟩
end
end Pe

namespace Pe
open Go Gq
variable {T:Nat→Option Fn} {A:Oracle}
section
variable {p:Int}
theorem plus_len_left {k:Int} {X Y:List (Fp p)} (hX:IsTrim X) (h:Y.length<X.length):(plusS k X Y).length=X.length:=by
 have h1:=plus_len k X Y
 rcases Nat.lt_or_ge (plusS k X Y).length X.length with g | g
 ·have h2:=cS_plus k X Y (X.length-1)
  rw [cS_ge (A:=plusS k X Y) (by omega),cS_ge (A:=Y) (by omega),Gq.mul_zero,Gq.add_zero] at h2
  exact absurd h2.symm (hX (X.length-1) (by omega))
 ·omega
theorem plus_len_right {k:Int} {X Y:List (Fp p)} (hY:IsTrim Y) (hk:∀y:Fp p,Pol.C (zp p k)*y=0→y=0) (h:X.length<Y.length):(plusS k X Y).length=Y.length:=by
 have h1:=plus_len k X Y
 rcases Nat.lt_or_ge (plusS k X Y).length Y.length with g | g
 ·have h2:=cS_plus k X Y (Y.length-1)
  rw [cS_ge (A:=plusS k X Y) (by omega),cS_ge (A:=X) (by omega),Gq.zero_add] at h2
  exact absurd (hk _ h2.symm) (hY (Y.length-1) (by omega))
 ·omega
theorem c_one {y:Fp p} (h:Pol.C (zp p 1)*y=0):y=0:=by
 rw [zp_one,Pol.C_one,Gq.one_mul] at h; exact h
end
section
variable {p:Int} [IsP p]
theorem prodS_len {m:Fp p} (hm:Fld m) {X Y:List (Fp p)} (hX:IsTrim X) (hY:IsTrim Y) (hXl:∀c∈X,c.len<m.len) (hYl:∀c∈Y,c.len<m.len) (h1:1≤X.length) (h2:1≤Y.length):(prodS m X Y).length=X.length+Y.length-1:=by
 obtain ⟨a,ea,la⟩:=snoc_of h1
 obtain ⟨b,eb,lb⟩:=snoc_of h2
 have hx:=hX (X.length-1) (by omega)
 have hy:=hY (Y.length-1) (by omega)
 have ht:=mulS_top hm (a:=a) (b:=b) hx (hXl _ (by rw [←cS_lt (show X.length-1<X.length by omega)]; exact List.getElem_mem _)) hy (hYl _ (by rw [←cS_lt (show Y.length-1<Y.length by omega)]; exact List.getElem_mem _))
 rw [←ea,←eb] at ht
 unfold prodS
 rw [if_neg (by omega),ht]
 unfold mulS
 rw [byOut_length,List.length_replicate]
theorem one_ne8:(1:Fp p)≠0:=fun h=>by
 have e:(1:Fp p).len=1:=Pol.len_one
 rw [h,Pol.len_zero] at e
 cases e
theorem sk_one {m:Fp p} (hm:Fld m):Sk m (termS (1:Fp p) 0):=⟨isTrim_term one_ne8 0,by rw [termS_length]; omega,fun c hc=>by
 unfold termS at hc
 rw [List.replicate_zero,List.nil_append] at hc
 rw [List.mem_singleton.1 hc]
 have:=hm.two
 have:(1:Fp p).len=1:=Pol.len_one
 omega⟩
theorem mon_len {m:Fp p} (hm:Fld m) {X:List (Fp p)} (hX:IsTrim X) (hr:∀c∈X,c.len<m.len) (h1:1≤X.length):(monS m X).length=X.length:=by
 have h0:=hm.mon.2
 have hx:cS X (X.length-1)≠0:=hX _ (by omega)
 have hxl:(cS X (X.length-1)).len<m.len:=by
  rw [←cS_lt (show X.length-1<X.length by omega)]; exact hr _ (List.getElem_mem _)
 have hi:invm m (cS X (X.length-1))≠0:=fun h=>by
  have e:=inv_back hm (x:=1) (by have:=hm.two; have:(1:Fp p).len=1:=Pol.len_one; omega) hx hxl
  rw [h,Gq.mul_zero,Pol.zero_mod h0,Gq.zero_mul,Pol.zero_mod h0] at e
  exact one_ne8 e.1.symm
 have hil:=invm_len h0 (cS X (X.length-1))
 have:=prodS_len hm (isTrim_term hi 0) hX (fun c hc=>by
  unfold termS at hc
  rw [List.replicate_zero,List.nil_append] at hc
  rw [List.mem_singleton.1 hc]; exact hil) hr (by rw [termS_length]; omega) h1
 rw [termS_length] at this
 unfold monS
 omega
end
end Pe


namespace Pe
open Go Gq
variable {T:Nat→Option Fn} {A:Oracle}
section
variable {p:Int} [IsP p]
end
end Pe

namespace Pe
open Go Gq
section
variable {p:Int}
noncomputable def sg {m:Fp p}:Nat→Quo m→Quo m
 | 0,x=>x
 | k+1,x=>sg k (pw x p.toNat)
theorem sg_succ {m:Fp p}:∀(k:Nat) (x:Quo m),sg (k+1) x=pw (sg k x) p.toNat
 | 0,_=>rfl
 | k+1,x=>by
  show sg (k+1) (pw x p.toNat)=_
  rw [sg_succ k]
  rfl
theorem sg_mk [IsP p] {m:Fp p}:∀(k:Nat) (a:Fp p),Quo.mk m (frIt m k a)=sg k (Quo.mk m a)
 | 0,_=>rfl
 | k+1,a=>by
  show Quo.mk m (frIt m k (pw a p.toNat%m))=sg k (pw (Quo.mk m a) p.toNat)
  rw [sg_mk k,Pol.mk_mod,Quo.mk_pow]
theorem pw_zero_pos [IsP p] {m:Fp p}:pw (0:Quo m) p.toNat=0:=by
 have h:=IsP.pos (p:=p)
 have:p.toNat=(p.toNat-1)+1:=by omega
 rw [this]
 show pw (0:Quo m) (p.toNat-1)*0=0
 exact Gq.mul_zero _
theorem sg_zero [IsP p] {m:Fp p}:∀k,sg k (0:Quo m)=0
 | 0=>rfl
 | k+1=>by
  show sg k (pw (0:Quo m) p.toNat)=0
  rw [pw_zero_pos,sg_zero k]
theorem sg_one {m:Fp p}:∀k,sg k (1:Quo m)=1
 | 0=>rfl
 | k+1=>by
  show sg k (pw (1:Quo m) p.toNat)=1
  rw [pw_one,sg_one k]
section
variable {m:Fp p}
noncomputable def Lop (t0 t1 t2:Quo m) (X:Nat→Quo m):Nat→Quo m
 | 0=>t0*X 0
 | 1=>t0*X 1+t1*sg 1 (X 0)
 | n+2=>t0*X (n+2)+t1*sg 1 (X (n+1))+t2*sg 2 (X n)
noncomputable def Rop (t0 t1 t2:Quo m) (X:Nat→Quo m):Nat→Quo m
 | 0=>X 0*t0
 | 1=>X 1*sg 1 t0+X 0*t1
 | n+2=>X (n+2)*sg (n+2) t0+X (n+1)*sg (n+1) t1+X n*sg n t2
noncomputable def e0:Nat→Quo m
 | 0=>1
 | _+1=>0
theorem sg1_add [IsP p] (x y:Quo m):sg 1 (x+y)=sg 1 x+sg 1 y:=frob_add x y
theorem sg1_mul (x y:Quo m):sg 1 (x*y)=sg 1 x*sg 1 y:=pw_mul x y _
theorem sg2_add [IsP p] (x y:Quo m):sg 2 (x+y)=sg 2 x+sg 2 y:=by
 rw [show sg 2 (x+y)=sg 1 (sg 1 (x+y)) from rfl,sg1_add,sg1_add]; rfl
theorem sg2_mul [IsP p] (x y:Quo m):sg 2 (x*y)=sg 2 x*sg 2 y:=by
 rw [show sg 2 (x*y)=sg 1 (sg 1 (x*y)) from rfl,sg1_mul,sg1_mul]; rfl
theorem sg1_sg [IsP p] (k:Nat) (x:Quo m):sg 1 (sg k x)=sg (k+1) x:=(sg_succ k x).symm
theorem sg2_sg [IsP p] (k:Nat) (x:Quo m):sg 2 (sg k x)=sg (k+2) x:=by
 rw [show sg 2 (sg k x)=sg 1 (sg 1 (sg k x)) from rfl,sg1_sg k x,sg1_sg (k+1) x]
theorem nine (t0 t1 t2 a b c d e f g h i s u v:Quo m):t0*(a*s+b*u+c*v)+t1*(d*s+e*u+f*v)+t2*(g*s+h*u+i*v)=(t0*a+t1*d+t2*g)*s+(t0*b+t1*e+t2*h)*u+(t0*c+t1*f+t2*i)*v:=by
 have l:∀t a b c:Quo m,t*(a*s+b*u+c*v)=t*a*s+t*b*u+t*c*v:=fun t a b c=>ring_of [t,a,b,c,s,u,v] rfl
 have q:∀x y z w:Quo m,(x+y+z)*w=x*w+y*w+z*w:=fun x y z w=>ring_of [x,y,z,w] rfl
 have z:∀p1 p2 p3 q1 q2 q3 r1 r2 r3:Quo m,(p1+p2+p3)+(q1+q2+q3)+(r1+r2+r3)=(p1+q1+r1)+(p2+q2+r2)+(p3+q3+r3):=fun p1 p2 p3 q1 q2 q3 r1 r2 r3=>ring_of [p1,p2,p3,q1,q2,q3,r1,r2,r3] rfl
 rw [l,l,l,q,q,q,z]
theorem eight [IsP p] (t0 t1 t2 a b c d e f g h s u v:Quo m):t0*(a*s+b*u+c*v)+t1*(d*s+e*u+f*v)+t2*(g*s+h*u)=(t0*a+t1*d+t2*g)*s+(t0*b+t1*e+t2*h)*u+(t0*c+t1*f)*v:=by
 have:=nine t0 t1 t2 a b c d e f g h 0 s u v
 simp only [Gq.zero_mul,Gq.mul_zero,Gq.add_zero] at this
 exact this
theorem op_comm [IsP p] (t0 t1 t2:Quo m) (X:Nat→Quo m) (n:Nat):Lop t0 t1 t2 (Rop t0 t1 t2 X) n=Rop t0 t1 t2 (Lop t0 t1 t2 X) n:=by
 have s0:∀x:Quo m,sg 0 x=x:=fun _=>rfl
 match n with
 | 0=>
  simp only [Lop,Rop]
  exact ring_of [t0,X 0] rfl
 | 1=>
  simp only [Lop,Rop,sg1_mul]
  exact ring_of [t0,t1,X 0,X 1,sg 1 t0,sg 1 (X 0)] rfl
 | 2=>
  simp only [Lop,Rop,sg1_add,sg1_mul,sg2_mul,sg1_sg,s0]
  exact ring_of [t0,t1,t2,X 0,X 1,X 2,sg 1 t0,sg 2 t0,sg 1 t1,sg 1 (X 0),sg 1 (X 1),sg 2 (X 0),sg (1+1) t0] rfl
 | 3=>
  simp only [Lop,Rop,sg1_add,sg1_mul,sg2_add,sg2_mul,sg1_sg,sg2_sg,s0]
  exact eight _ _ _ _ _ _ _ _ _ _ _ _ _ _
 | k+4=>
  have hR:∀Y:Nat→Quo m,∀j,Rop t0 t1 t2 Y (j+2)=Y (j+2)*sg (j+2) t0+Y (j+1)*sg (j+1) t1+Y j*sg j t2:=fun _ _=>rfl
  have hL:∀Y:Nat→Quo m,∀j,Lop t0 t1 t2 Y (j+2)=t0*Y (j+2)+t1*sg 1 (Y (j+1))+t2*sg 2 (Y j):=fun _ _=>rfl
  rw [show k+4=(k+2)+2 from rfl,hL,hR,hR (Lop t0 t1 t2 X) (k+2),hL X (k+2),show k+2+1=(k+1)+2 from rfl,hL X (k+1),hR X (k+1),hL X k,hR X k]
  simp only [sg1_add,sg1_mul,sg2_add,sg2_mul,sg1_sg,sg2_sg]
  rw [show k+1+2=k+3 from rfl,show k+1+1=k+2 from rfl,show k+2+2=k+4 from rfl,show k+2+1=k+3 from rfl,show k+3+1=k+4 from rfl]
  exact nine _ _ _ _ _ _ _ _ _ _ _ _ _ _ _
theorem op_e0 [IsP p] (t0 t1 t2:Quo m) (n:Nat):Lop t0 t1 t2 e0 n=Rop t0 t1 t2 e0 n:=by
 have s0:∀x:Quo m,sg 0 x=x:=fun _=>rfl
 match n with
 | 0=>simp only [Lop,Rop,e0]; exact ring_of [t0] rfl
 | 1=>simp only [Lop,Rop,e0,sg_one]; exact ring_of [t0,t1,sg 1 t0] rfl
 | 2=>simp only [Lop,Rop,e0,sg_one,sg_zero,s0]; exact ring_of [t0,t1,t2,sg 2 t0,sg 1 t1,sg (0+1) t1,sg (0+2) t0] rfl
 | k+3=>
  have hR:∀Y:Nat→Quo m,∀j,Rop t0 t1 t2 Y (j+2)=Y (j+2)*sg (j+2) t0+Y (j+1)*sg (j+1) t1+Y j*sg j t2:=fun _ _=>rfl
  have hL:∀Y:Nat→Quo m,∀j,Lop t0 t1 t2 Y (j+2)=t0*Y (j+2)+t1*sg 1 (Y (j+1))+t2*sg 2 (Y j):=fun _ _=>rfl
  rw [show k+3=(k+1)+2 from rfl,hL,hR]
  simp only [e0,sg_zero]
  simp only [Gq.mul_zero,Gq.zero_mul,Gq.add_zero]
theorem op_add (t0 t1 t2:Quo m) (X Y:Nat→Quo m) (n:Nat):Rop t0 t1 t2 (fun i=>X i+Y i) n=Rop t0 t1 t2 X n+Rop t0 t1 t2 Y n:=by
 match n with
 | 0=>simp only [Rop]; exact ring_of [t0,X 0,Y 0] rfl
 | 1=>simp only [Rop]; exact ring_of [sg 1 t0,t1,X 0,Y 0,X 1,Y 1] rfl
 | k+2=>simp only [Rop]; exact ring_of [sg (k+2) t0,sg (k+1) t1,sg k t2,X k,Y k,X (k+1),Y (k+1),X (k+2),Y (k+2)] rfl
theorem op_smul (t0 t1 t2 c:Quo m) (X:Nat→Quo m) (n:Nat):Rop t0 t1 t2 (fun i=>c*X i) n=c*Rop t0 t1 t2 X n:=by
 match n with
 | 0=>simp only [Rop]; exact ring_of [t0,X 0,c] rfl
 | 1=>simp only [Rop]; exact ring_of [sg 1 t0,t1,X 0,X 1,c] rfl
 | k+2=>simp only [Rop]; exact ring_of [sg (k+2) t0,sg (k+1) t1,sg k t2,X k,X (k+1),X (k+2),c] rfl
theorem op_zero (t0 t1 t2:Quo m) (n:Nat):Rop t0 t1 t2 (fun _=>0) n=0:=by
 match n with
 | 0=>simp only [Rop,Gq.zero_mul]
 | 1=>simp only [Rop,Gq.zero_mul,Gq.add_zero]
 | k+2=>simp only [Rop,Gq.zero_mul,Gq.add_zero]
noncomputable def Rk (t0 t1 t2:Quo m):Nat→Nat→Quo m
 | 0=>e0
 | k+1=>Rop t0 t1 t2 (Rk t0 t1 t2 k)
noncomputable def Lk (t0 t1 t2:Quo m):Nat→Nat→Quo m
 | 0=>e0
 | k+1=>Lop t0 t1 t2 (Lk t0 t1 t2 k)
theorem lop_rk [IsP p] (t0 t1 t2:Quo m):∀k,Lop t0 t1 t2 (Rk t0 t1 t2 k)=Rk t0 t1 t2 (k+1)
 | 0=>funext fun n=>op_e0 t0 t1 t2 n
 | k+1=>by
  have ih:=lop_rk t0 t1 t2 k
  funext n
  show Lop t0 t1 t2 (Rop t0 t1 t2 (Rk t0 t1 t2 k)) n=Rop t0 t1 t2 (Rk t0 t1 t2 (k+1)) n
  rw [op_comm,ih]
theorem lk_rk [IsP p] (t0 t1 t2:Quo m):∀k,Lk t0 t1 t2 k=Rk t0 t1 t2 k
 | 0=>rfl
 | k+1=>by
  show Lop t0 t1 t2 (Lk t0 t1 t2 k)=_
  rw [lk_rk t0 t1 t2 k,lop_rk]
noncomputable def hsum (t0 t1 t2:Quo m):(Nat→Quo m)→Nat→Nat→Nat→Quo m
 | _,_,0,_=>0
 | c,k,n+1,i=>c 0*Rk t0 t1 t2 k i+hsum t0 t1 t2 (fun j=>c (j+1)) (k+1) n i
theorem hsum_rop [IsP p] (t0 t1 t2:Quo m):∀(n:Nat) (c:Nat→Quo m) (k:Nat),Rop t0 t1 t2 (hsum t0 t1 t2 c k n)=hsum t0 t1 t2 c (k+1) n
 | 0,c,k=>funext fun i=>op_zero t0 t1 t2 i
 | n+1,c,k=>by
  funext i
  show Rop t0 t1 t2 (fun i=>c 0*Rk t0 t1 t2 k i+hsum t0 t1 t2 (fun j=>c (j+1)) (k+1) n i) i=_
  rw [op_add,op_smul]
  show c 0*Rk t0 t1 t2 (k+1) i+Rop t0 t1 t2 (hsum t0 t1 t2 (fun j=>c (j+1)) (k+1) n) i=c 0*Rk t0 t1 t2 (k+1) i+hsum t0 t1 t2 (fun j=>c (j+1)) (k+1+1) n i
  rw [hsum_rop t0 t1 t2 n]
theorem hsum_snoc (t0 t1 t2:Quo m) (i:Nat):∀(n:Nat) (c:Nat→Quo m) (k:Nat),hsum t0 t1 t2 c k (n+1) i=hsum t0 t1 t2 c k n i+c n*Rk t0 t1 t2 (k+n) i
 | 0,c,k=>by
  show c 0*Rk t0 t1 t2 k i+0=0+c 0*Rk t0 t1 t2 (k+0) i
  rw [Nat.add_zero,Gq.add_zero,Gq.zero_add]
 | n+1,c,k=>by
  show c 0*Rk t0 t1 t2 k i+hsum t0 t1 t2 (fun j=>c (j+1)) (k+1) (n+1) i=c 0*Rk t0 t1 t2 k i+hsum t0 t1 t2 (fun j=>c (j+1)) (k+1) n i+c (n+1)*Rk t0 t1 t2 (k+(n+1)) i
  rw [hsum_snoc t0 t1 t2 i n (fun j=>c (j+1)) (k+1),show k+1+n=k+(n+1) by omega]
  exact (Gq.add_assoc _ _ _).symm
theorem hsum_congr (t0 t1 t2:Quo m) (i:Nat):∀(n:Nat) (c d:Nat→Quo m) (k:Nat),(∀j,j<n→c j=d j)→hsum t0 t1 t2 c k n i=hsum t0 t1 t2 d k n i
 | 0,_,_,_,_=>rfl
 | n+1,c,d,k,h=>by
  show c 0*Rk t0 t1 t2 k i+_=d 0*Rk t0 t1 t2 k i+_
  rw [h 0 (by omega),hsum_congr t0 t1 t2 i n (fun j=>c (j+1)) (fun j=>d (j+1)) (k+1) fun j hj=>h (j+1) (by omega)]
end
noncomputable def qcf (m:Fp p) (A:List (Fp p)) (n:Nat):Quo m:=Quo.mk m (cS A n)
theorem qcf_nil (m:Fp p) (n:Nat):qcf m [] n=0:=rfl
theorem qcf_ge {m:Fp p} {A:List (Fp p)} {n:Nat} (h:A.length≤n):qcf m A n=0:=by unfold qcf; rw [cS_ge h]; rfl
theorem qcf_eq [IsP p] {m:Fp p} (hm:m≠0) {A B:List (Fp p)} {n:Nat} (hA:(cS A n).len<m.len) (hB:(cS B n).len<m.len) (h:qcf m A n=qcf m B n):cS A n=cS B n:=by
 have e:=(Pol.mod_eq_iff hm).2 h
 rwa [Pol.mod_small hA,Pol.mod_small hB] at e
theorem qcf_set {m:Fp p} {A:List (Fp p)} {j n:Nat} {v:Fp p} (h:j<A.length):qcf m (addAt A j v) n=qcf m A n+(if n=j then Quo.mk m v else 0):=by
 unfold qcf addAt
 rw [cS_set h]
 by_cases hn:n=j
 ·rw [if_pos hn,if_pos hn,hn]; rfl
 ·rw [if_neg hn,if_neg hn,Gq.add_zero]
theorem qcf_zeros (m:Fp p) (k n:Nat):qcf m (List.replicate k 0) n=0:=by
 unfold qcf cS
 rw [List.getElem?_replicate]
 split <;> rfl
theorem byIn_q [IsP p] {m x:Fp p} (hm:Fld m) {b:List (Fp p)} (hb:∀c∈b,c.len<m.len) {i n:Nat} {Q:List (Fp p)} (h:i+b.length≤Q.length):qcf m (byIn m x i 0 b Q) n=qcf m Q n+(if i≤n then Quo.mk m x*sg i (qcf m b (n-i)) else 0):=by
 have h1:=Pol.len_pos hm.mon.2
 unfold qcf
 rw [byIn_cS 0 b Q (by omega),Nat.add_zero]
 have hl:(cS b (n-i)).len<m.len:=by
  have:=mem_cS (A:=b) (N:=m.len-1) (fun c hc=>by have:=hb c hc; omega) (n-i)
  omega
 by_cases h0:i≤n∧n<i+b.length
 ·rw [if_pos h0,if_pos h0.1,Quo.mk_add,Pol.mk_mod,Quo.mk_mul,frIt_mod hm i hl,sg_mk]
 ·rw [if_neg h0]
  split
  ·rename_i h2
   rw [cS_ge (A:=b) (by omega)]
   show _=Quo.mk m (cS Q n)+Quo.mk m x*sg i 0
   rw [sg_zero,Gq.mul_zero,Gq.add_zero]
  ·exact (Gq.add_zero _).symm
theorem byOut_q [IsP p] {m t0 t1 t2:Fp p} (hm:Fld m) (hb:∀c∈[t0,t1,t2],c.len<m.len) {n:Nat}:∀(A:List (Fp p)) (i:Nat) (Q:List (Fp p)),i+A.length+2≤Q.length→qcf m (byOut m [t0,t1,t2] i A Q) n=qcf m Q n+((if i≤n then qcf m A (n-i)*sg n (Quo.mk m t0) else 0)+(if i+1≤n then qcf m A (n-i-1)*sg (n-1) (Quo.mk m t1) else 0)+(if i+2≤n then qcf m A (n-i-2)*sg (n-2) (Quo.mk m t2) else 0))
 | [],i,Q,_=>by
  show qcf m Q n=_
  have z:∀j,qcf m ([]:List (Fp p)) j=0:=fun _=>rfl
  simp only [z,Gq.zero_mul,ite_self,Gq.add_zero]
 | x::xs,i,Q,h=>by
  rw [List.length_cons] at h
  show qcf m (byOut m [t0,t1,t2] (i+1) xs (byIn m x i 0 [t0,t1,t2] Q)) n=_
  rw [byOut_q hm hb xs (i+1) _ (by rw [byIn_length]; omega),byIn_q hm hb (by simp only [List.length_cons,List.length_nil]; omega)]
  have hx0:qcf m (x::xs) 0=Quo.mk m x:=rfl
  have hxs:∀j,qcf m (x::xs) (j+1)=qcf m xs j:=fun j=>rfl
  have ht0:qcf m [t0,t1,t2] 0=Quo.mk m t0:=rfl
  have ht1:qcf m [t0,t1,t2] 1=Quo.mk m t1:=rfl
  have ht2:qcf m [t0,t1,t2] 2=Quo.mk m t2:=rfl
  rcases Nat.lt_or_ge n i with h1 | h1
  ·rw [if_neg (by omega),if_neg (by omega),if_neg (by omega),if_neg (by omega),if_neg (by omega),if_neg (by omega),if_neg (by omega)]
   simp only [Gq.add_zero]
  ·obtain ⟨e,rfl⟩:∃e,n=i+e:=⟨n-i,by omega⟩
   match e with
   | 0=>
    rw [if_pos (by omega),if_neg (by omega),if_neg (by omega),if_neg (by omega),if_pos (by omega),if_neg (by omega),if_neg (by omega),show i+0-i=0 by omega,hx0,ht0,show i+0=i from rfl]
    simp only [Gq.add_zero]
   | 1=>
    rw [if_pos (by omega),if_pos (by omega),if_neg (by omega),if_neg (by omega),if_pos (by omega),if_pos (by omega),if_neg (by omega),show i+1-i=0+1 by omega,show i+1-(i+1)=0 by omega,show 0+1-1=0 from rfl,hxs,hx0,show i+1-1=i by omega]
    rw [show (0+1:Nat)=1 from rfl,ht1]
    exact ring_of [qcf m Q (i+1),Quo.mk m x,sg i (Quo.mk m t1),qcf m xs 0,sg (i+1) (Quo.mk m t0)] rfl
   | 2=>
    rw [if_pos (by omega),if_pos (by omega),if_pos (by omega),if_neg (by omega),if_pos (by omega),if_pos (by omega),if_pos (by omega),show i+2-(i+1)-1=0 by omega,show i+2-(i+1)=1 by omega,show i+2-i-2=0 by omega,show i+2-i-1=0+1 by omega,show i+2-i=1+1 by omega,hxs,hxs,hx0,show i+2-1=i+1 by omega,show i+2-2=i by omega]
    rw [show (1+1:Nat)=2 from rfl,ht2]
    exact ring_of [qcf m Q (i+2),Quo.mk m x,sg i (Quo.mk m t2),qcf m xs 0,qcf m xs 1,sg (i+2) (Quo.mk m t0),sg (i+1) (Quo.mk m t1)] rfl
   | k+3=>
    have hz:qcf m [t0,t1,t2] (k+3)=0:=rfl
    rw [if_pos (by omega),if_pos (by omega),if_pos (by omega),if_pos (by omega),if_pos (by omega),if_pos (by omega),if_pos (by omega),show i+(k+3)-(i+1)-2=k by omega,show i+(k+3)-(i+1)-1=k+1 by omega,show i+(k+3)-(i+1)=k+2 by omega,show i+(k+3)-i-2=k+1 by omega,show i+(k+3)-i-1=(k+1)+1 by omega,show i+(k+3)-i=k+3 by omega,hz,sg_zero,Gq.mul_zero,Gq.add_zero,hxs,hxs]
    rw [show k+3=(k+2)+1 from rfl,hxs]
theorem prod_R [IsP p] {m t0 t1 t2:Fp p} (hm:Fld m) (hb:∀c∈[t0,t1,t2],c.len<m.len) (A:List (Fp p)) (n:Nat):qcf m (prodS m A [t0,t1,t2]) n=Rop (Quo.mk m t0) (Quo.mk m t1) (Quo.mk m t2) (qcf m A) n:=by
 unfold prodS
 by_cases h0:A.length=0
 ·rw [if_pos (.inl h0),List.length_eq_zero_iff.1 h0]
  exact (op_zero _ _ _ n).symm
 ·rw [if_neg (by simp only [List.length_cons]; omega)]
  have e:qcf m (trimS (mulS m A [t0,t1,t2])) n=qcf m (mulS m A [t0,t1,t2]) n:=by unfold qcf; rw [cS_trim]
  rw [e]
  unfold mulS
  rw [byOut_q hm hb A 0 _ (by rw [List.length_replicate]; simp only [List.length_cons,List.length_nil]; omega),qcf_zeros,Gq.zero_add]
  match n with
  | 0=>
   rw [if_pos (by omega),if_neg (by omega),if_neg (by omega)]
   simp only [Rop,Gq.add_zero]
   rfl
  | 1=>
   rw [if_pos (by omega),if_pos (by omega),if_neg (by omega)]
   simp only [Rop,Gq.add_zero]
   rfl
  | k+2=>
   rw [if_pos (by omega),if_pos (by omega),if_pos (by omega)]
   rfl
noncomputable def cmpIn [IsP p] (m:Fp p) (k:Nat):Nat→List (Fp p)→Fp p→List (Fp p)→List (Fp p)
 | _,[],_,Q=>Q
 | i,u::us,w,Q=>cmpIn m k (i+1) us (pw w p.toNat%m) (addAt Q (i+k) (u*w%m))
noncomputable def cmpOut [IsP p] (m:Fp p) (us:List (Fp p)):Nat→List (Fp p)→List (Fp p)→List (Fp p)
 | _,[],Q=>Q
 | k,v::vs,Q=>cmpOut m us (k+1) vs (cmpIn m k 0 us v Q)
theorem cmpIn_length [IsP p] (m:Fp p) (k:Nat):∀(us:List (Fp p)) (i:Nat) (w:Fp p) (Q:List (Fp p)),(cmpIn m k i us w Q).length=Q.length
 | [],_,_,_=>rfl
 | u::us,i,w,Q=>by
  show (cmpIn m k (i+1) us _ (addAt Q (i+k) _)).length=_
  rw [cmpIn_length m k us,addAt_length]
theorem cmpOut_length [IsP p] (m:Fp p) (us:List (Fp p)):∀(vs:List (Fp p)) (k:Nat) (Q:List (Fp p)),(cmpOut m us k vs Q).length=Q.length
 | [],_,_=>rfl
 | v::vs,k,Q=>by
  show (cmpOut m us (k+1) vs _).length=_
  rw [cmpOut_length m us vs,cmpIn_length]
theorem cmpIn_lens [IsP p] {m:Fp p} {N:Nat} (hm:m≠0) (hN:m.len≤N+1) (k:Nat):∀(us:List (Fp p)) (i:Nat) (w:Fp p) (Q:List (Fp p)),(∀c∈Q,c.len≤N)→∀c∈cmpIn m k i us w Q,c.len≤N
 | [],_,_,_,h=>h
 | u::us,i,w,Q,h=>cmpIn_lens hm hN k us (i+1) _ _ (addAt_lens h (by have:=Pol.len_mod (u*w) hm; omega))
theorem cmpOut_lens [IsP p] {m:Fp p} {N:Nat} (hm:m≠0) (hN:m.len≤N+1) (us:List (Fp p)):∀(vs:List (Fp p)) (k:Nat) (Q:List (Fp p)),(∀c∈Q,c.len≤N)→∀c∈cmpOut m us k vs Q,c.len≤N
 | [],_,_,h=>h
 | v::vs,k,Q,h=>cmpOut_lens hm hN us vs (k+1) _ (cmpIn_lens hm hN k us 0 v Q h)
theorem cmpIn_q [IsP p] {m t0 t1 t2 v:Fp p} {k n:Nat} {Q:List (Fp p)} (h:k+3≤Q.length):qcf m (cmpIn m k 0 [t0,t1,t2] v Q) n=qcf m Q n+((if n=k then Quo.mk m t0*Quo.mk m v else 0)+(if n=k+1 then Quo.mk m t1*sg 1 (Quo.mk m v) else 0)+(if n=k+2 then Quo.mk m t2*sg 2 (Quo.mk m v) else 0)):=by
 have e1:Quo.mk m (pw v p.toNat%m)=sg 1 (Quo.mk m v):=by rw [Pol.mk_mod,Quo.mk_pow]; rfl
 have e2:Quo.mk m (pw (pw v p.toNat%m) p.toNat%m)=sg 2 (Quo.mk m v):=by rw [Pol.mk_mod,Quo.mk_pow,e1]; rfl
 show qcf m (addAt (addAt (addAt Q (0+k) (t0*v%m)) (1+k) (t1*(pw v p.toNat%m)%m)) (2+k) (t2*(pw (pw v p.toNat%m) p.toNat%m)%m)) n=_
 rw [qcf_set (by rw [addAt_length,addAt_length]; omega),qcf_set (by rw [addAt_length]; omega),qcf_set (by omega)]
 have m1:∀a b:Fp p,Quo.mk m (a*b%m)=Quo.mk m a*Quo.mk m b:=fun a b=>by rw [Pol.mk_mod,Quo.mk_mul]
 rw [m1,m1,m1,e1,e2,show 0+k=k by omega,show 1+k=k+1 by omega,show 2+k=k+2 by omega]
 simp only [Gq.add_assoc]
theorem cmpOut_q [IsP p] {m t0 t1 t2:Fp p} {n:Nat}:∀(vs:List (Fp p)) (k:Nat) (Q:List (Fp p)),k+vs.length+2≤Q.length→qcf m (cmpOut m [t0,t1,t2] k vs Q) n=qcf m Q n+((if k≤n then Quo.mk m t0*qcf m vs (n-k) else 0)+(if k+1≤n then Quo.mk m t1*sg 1 (qcf m vs (n-k-1)) else 0)+(if k+2≤n then Quo.mk m t2*sg 2 (qcf m vs (n-k-2)) else 0))
 | [],k,Q,_=>by
  show qcf m Q n=_
  have z:∀j,qcf m ([]:List (Fp p)) j=0:=fun _=>rfl
  simp only [z,sg_zero,Gq.mul_zero,ite_self,Gq.add_zero]
 | v::vs,k,Q,h=>by
  rw [List.length_cons] at h
  show qcf m (cmpOut m [t0,t1,t2] (k+1) vs (cmpIn m k 0 [t0,t1,t2] v Q)) n=_
  rw [cmpOut_q vs (k+1) _ (by rw [cmpIn_length]; omega),cmpIn_q (by omega)]
  have hx0:qcf m (v::vs) 0=Quo.mk m v:=rfl
  have hxs:∀j,qcf m (v::vs) (j+1)=qcf m vs j:=fun j=>rfl
  rcases Nat.lt_or_ge n k with h1 | h1
  ·rw [if_neg (by omega),if_neg (by omega),if_neg (by omega),if_neg (by omega),if_neg (by omega),if_neg (by omega),if_neg (by omega),if_neg (by omega),if_neg (by omega)]
   simp only [Gq.add_zero]
  ·obtain ⟨e,rfl⟩:∃e,n=k+e:=⟨n-k,by omega⟩
   match e with
   | 0=>
    rw [if_pos (by omega),if_neg (by omega),if_neg (by omega),if_neg (by omega),if_neg (by omega),if_neg (by omega),if_pos (by omega),if_neg (by omega),if_neg (by omega),show k+0-k=0 by omega,hx0]
    simp only [Gq.add_zero]
   | 1=>
    rw [if_neg (by omega),if_pos (by omega),if_neg (by omega),if_pos (by omega),if_neg (by omega),if_neg (by omega),if_pos (by omega),if_pos (by omega),if_neg (by omega),show k+1-(k+1)=0 by omega,show k+1-k=0+1 by omega,hxs,show 0+1-1=0 from rfl,hx0]
    exact ring_of [qcf m Q (k+1),Quo.mk m t0,Quo.mk m t1,sg 1 (Quo.mk m v),qcf m vs 0] rfl
   | 2=>
    rw [if_neg (by omega),if_neg (by omega),if_pos (by omega),if_pos (by omega),if_pos (by omega),if_neg (by omega),if_pos (by omega),if_pos (by omega),if_pos (by omega),show k+2-(k+1)-1=0 by omega,show k+2-(k+1)=1 by omega,show k+2-k-2=0 by omega,show k+2-k-1=0+1 by omega,show k+2-k=1+1 by omega,hxs,hxs,hx0]
    exact ring_of [qcf m Q (k+2),Quo.mk m t0,Quo.mk m t1,Quo.mk m t2,sg 2 (Quo.mk m v),qcf m vs 1,sg 1 (qcf m vs 0)] rfl
   | j+3=>
    rw [if_neg (by omega),if_neg (by omega),if_neg (by omega),if_pos (by omega),if_pos (by omega),if_pos (by omega),if_pos (by omega),if_pos (by omega),if_pos (by omega),show k+(j+3)-(k+1)-2=j by omega,show k+(j+3)-(k+1)-1=j+1 by omega,show k+(j+3)-(k+1)=j+2 by omega,show k+(j+3)-k-2=j+1 by omega,show k+(j+3)-k-1=(j+1)+1 by omega,show k+(j+3)-k=(j+2)+1 by omega,hxs,hxs,hxs]
    simp only [Gq.add_zero]
noncomputable def cmpS [IsP p] (m:Fp p) (us vs:List (Fp p)):List (Fp p):=trimS (cmpOut m us 0 vs (List.replicate (us.length+vs.length) 0))
theorem cmp_L [IsP p] {m t0 t1 t2:Fp p} (vs:List (Fp p)) (n:Nat):qcf m (cmpS m [t0,t1,t2] vs) n=Lop (Quo.mk m t0) (Quo.mk m t1) (Quo.mk m t2) (qcf m vs) n:=by
 have e:qcf m (cmpS m [t0,t1,t2] vs) n=qcf m (cmpOut m [t0,t1,t2] 0 vs (List.replicate ([t0,t1,t2].length+vs.length) 0)) n:=by unfold qcf cmpS; rw [cS_trim]
 rw [e,cmpOut_q vs 0 _ (by rw [List.length_replicate]; simp only [List.length_cons,List.length_nil]; omega),qcf_zeros,Gq.zero_add]
 match n with
 | 0=>
  rw [if_pos (by omega),if_neg (by omega),if_neg (by omega)]
  simp only [Lop,Gq.add_zero]
 | 1=>
  rw [if_pos (by omega),if_pos (by omega),if_neg (by omega)]
  simp only [Lop,Gq.add_zero]
 | k+2=>
  rw [if_pos (by omega),if_pos (by omega),if_pos (by omega)]
  rfl
theorem cmp_lens [IsP p] {m:Fp p} (hm:m≠0) (us vs:List (Fp p)):∀c∈cmpS m us vs,c.len<m.len:=fun c hc=>by
 have h1:=Pol.len_pos hm
 have:=cmpOut_lens (N:=m.len-1) hm (by omega) us vs 0 (List.replicate (us.length+vs.length) 0) (fun c hc=>by rw [List.eq_of_mem_replicate hc,Pol.len_zero]; omega) c (List.mem_of_mem_take hc)
 omega
theorem cmp_len [IsP p] {m:Fp p} (hm:m≠0) {t0 t1 t2:Fp p} (vs:List (Fp p)):(cmpS m [t0,t1,t2] vs).length≤vs.length+2:=by
 have h1:=Pol.len_pos hm
 unfold cmpS
 refine trim_len_le fun i hi=>?_
 have hz:=qcf_eq (A:=cmpOut m [t0,t1,t2] 0 vs (List.replicate ([t0,t1,t2].length+vs.length) 0)) (B:=[]) (n:=i) hm (by
  have:=mem_cS (N:=m.len-1) (cmpOut_lens (N:=m.len-1) hm (by omega) [t0,t1,t2] vs 0 (List.replicate ([t0,t1,t2].length+vs.length) 0) (fun c hc=>by rw [List.eq_of_mem_replicate hc,Pol.len_zero]; omega)) i
  omega) (by rw [cS_nil,Pol.len_zero]; omega) (by
  rw [cmpOut_q vs 0 _ (by rw [List.length_replicate]; simp only [List.length_cons,List.length_nil]; omega),qcf_zeros,Gq.zero_add,if_pos (by omega),if_pos (by omega),if_pos (by omega),qcf_ge (show vs.length≤i-0 by omega),qcf_ge (show vs.length≤i-0-1 by omega),qcf_ge (show vs.length≤i-0-2 by omega),sg_zero,sg_zero,Gq.mul_zero,Gq.mul_zero,Gq.mul_zero,Gq.add_zero,Gq.add_zero]
  rfl)
 rw [hz]; rfl
noncomputable def actN [IsP p] (m t0 t1 t2 a:Fp p) (n:Nat):Nat→List (Fp p)
 | 0=>[]
 | j+1=>plusS 1 (prodS m (actN m t0 t1 t2 a n j) [t0,t1,t2]) (termS (Pol.C (a.c (n-1-j))) 0)
theorem const_len (c:Zp p):(Pol.C c).len≤1:=Pol.len_le fun i hi=>by
 cases i with
 | zero=>omega
 | succ i=>rfl
theorem actN_lens [IsP p] {m:Fp p} (hm:Fld m) (t0 t1 t2 a:Fp p) (n:Nat):∀j,∀c∈actN m t0 t1 t2 a n j,c.len<m.len
 | 0=>fun c h=>by cases h
 | j+1=>fun c hc=>by
  have h2:=hm.two
  have:=cS_mem (A:=actN m t0 t1 t2 a n (j+1)) (N:=m.len-1) (fun i=>by
   show (cS (plusS 1 _ _) i).len≤_
   rw [cS_plus,zp_one,Pol.C_one,Gq.one_mul,cS_term]
   refine Pol.len_add_le (mem_cS (fun c hc=>prodS_lens' hm.mon.2 (by omega) c hc) i) ?_
   split
   ·have:=const_len (p:=p) (a.c (n-1-j)); omega
   ·rw [Pol.len_zero]; omega) c hc
  omega
theorem actN_len [IsP p] (m t0 t1 t2 a:Fp p) (n:Nat):∀j,(actN m t0 t1 t2 a n j).length≤2*j+1
 | 0=>Nat.zero_le _
 | j+1=>by
  have ih:=actN_len m t0 t1 t2 a n j
  have h1:=plus_len 1 (prodS m (actN m t0 t1 t2 a n j) [t0,t1,t2]) (termS (Pol.C (a.c (n-1-j))) 0)
  have h2:=prod_len_le (m:=m) (a:=actN m t0 t1 t2 a n j) (b:=[t0,t1,t2])
  rw [termS_length] at h1
  simp only [List.length_cons,List.length_nil] at h2
  show (plusS 1 _ _).length≤_
  omega
theorem actN_q [IsP p] {m t0 t1 t2:Fp p} (hm:Fld m) (hb:∀c∈[t0,t1,t2],c.len<m.len) (a:Fp p) (n:Nat):∀j,j≤n→qcf m (actN m t0 t1 t2 a n j)=hsum (Quo.mk m t0) (Quo.mk m t1) (Quo.mk m t2) (fun k=>Quo.mk m (Pol.C (a.c (n-j+k)))) 0 j
 | 0,_=>rfl
 | j+1,hj=>by
  have ih:=actN_q hm hb a n j (by omega)
  funext i
  have e:qcf m (actN m t0 t1 t2 a n (j+1)) i=qcf m (prodS m (actN m t0 t1 t2 a n j) [t0,t1,t2]) i+Quo.mk m (if i=0 then Pol.C (a.c (n-1-j)) else 0):=by
   show Quo.mk m (cS (plusS 1 _ _) i)=_
   rw [cS_plus,zp_one,Pol.C_one,Gq.one_mul,cS_term]
   rfl
  rw [e,prod_R hm hb,ih,hsum_rop]
  have e2:∀k,n-(j+1)+(k+1)=n-j+k:=fun k=>by omega
  show _=Quo.mk m (Pol.C (a.c (n-(j+1)+0)))*Rk _ _ _ 0 i+hsum _ _ _ (fun k=>Quo.mk m (Pol.C (a.c (n-(j+1)+(k+1))))) (0+1) j i
  simp only [e2]
  rw [Gq.add_comm,show n-(j+1)+0=n-1-j by omega]
  congr 1
  cases i with
  | zero=>rw [if_pos rfl]; exact (Gq.mul_one _).symm
  | succ i=>rw [if_neg (by omega)]; exact (Gq.mul_zero _).symm
noncomputable def spIn (c:Fp p):Nat→List (Fp p)→List (Fp p)→List (Fp p)
 | _,[],Q=>Q
 | i,x::xs,Q=>spIn c (i+1) xs (addAt Q i (c*x))
theorem spIn_length (c:Fp p):∀(xs:List (Fp p)) (i:Nat) (Q:List (Fp p)),(spIn c i xs Q).length=Q.length
 | [],_,_=>rfl
 | x::xs,i,Q=>by
  show (spIn c (i+1) xs _).length=_
  rw [spIn_length c xs,addAt_length]
theorem spIn_q [IsP p] {m c:Fp p} {n:Nat}:∀(xs:List (Fp p)) (i:Nat) (Q:List (Fp p)),i+xs.length≤Q.length→qcf m (spIn c i xs Q) n=qcf m Q n+(if i≤n then Quo.mk m c*qcf m xs (n-i) else 0)
 | [],i,Q,_=>by
  show qcf m Q n=_
  rw [qcf_nil,Gq.mul_zero,ite_self,Gq.add_zero]
 | x::xs,i,Q,h=>by
  rw [List.length_cons] at h
  show qcf m (spIn c (i+1) xs (addAt Q i (c*x))) n=_
  rw [spIn_q xs (i+1) _ (by rw [addAt_length]; omega),qcf_set (by omega)]
  have hx0:qcf m (x::xs) 0=Quo.mk m x:=rfl
  have hxs:∀j,qcf m (x::xs) (j+1)=qcf m xs j:=fun j=>rfl
  rcases Nat.lt_trichotomy n i with h1 | h1 | h1
  ·rw [if_neg (by omega),if_neg (by omega),if_neg (by omega)]
   simp only [Gq.add_zero]
  ·subst h1
   rw [if_pos rfl,if_neg (by omega),if_pos (by omega),Nat.sub_self,hx0,Gq.add_zero]
   rfl
  ·rw [if_neg (by omega),if_pos (by omega),if_pos (by omega),show n-i=(n-(i+1))+1 by omega,hxs,Gq.add_zero]
theorem spIn_lens [IsP p] {N:Nat} {c:Zp p}:∀(xs:List (Fp p)) (i:Nat) (Q:List (Fp p)),(∀x∈xs,x.len≤N)→(∀x∈Q,x.len≤N)→∀x∈spIn (Pol.C c) i xs Q,x.len≤N
 | [],_,_,_,h=>h
 | x::xs,i,Q,hx,hQ=>spIn_lens xs (i+1) _ (fun y hy=>hx y (by simp [hy])) fun y hy=>by
  unfold addAt at hy
  have hxl:=hx x (by simp)
  have hcx:(Pol.C c*x).len≤N:=Pol.len_le fun j hj=>by rw [Pol.c_Cmul,c_ge' (by omega),Gq.mul_zero]
  rcases List.mem_or_eq_of_mem_set hy with h | rfl
  ·exact hQ y h
  ·refine Pol.len_add_le ?_ hcx
   cases hq:Q[i]? with
   | none=>show (0:Fp p).len≤N; rw [Pol.len_zero]; omega
   | some q=>exact hQ q (List.mem_of_getElem? hq)
noncomputable def nwS [IsP p] (m t0 t1 t2:Fp p):Nat→List (Fp p)
 | 0=>[1]
 | k+1=>cmpS m [t0,t1,t2] (nwS m t0 t1 t2 k)
theorem nwS_len [IsP p] {m:Fp p} (hm:m≠0) (t0 t1 t2:Fp p):∀k,(nwS m t0 t1 t2 k).length≤2*k+1
 | 0=>Nat.le_refl _
 | k+1=>by
  have:=nwS_len hm t0 t1 t2 k
  have:=cmp_len hm (t0:=t0) (t1:=t1) (t2:=t2) (nwS m t0 t1 t2 k)
  show (cmpS m _ _).length≤_
  omega
theorem nwS_lens [IsP p] {m:Fp p} (hm:Fld m) (t0 t1 t2:Fp p):∀k,∀c∈nwS m t0 t1 t2 k,c.len<m.len
 | 0=>fun c hc=>by
  rw [List.mem_singleton.1 hc]
  have h2:=hm.two
  have:(1:Fp p).len=1:=Pol.len_one
  omega
 | _+1=>cmp_lens hm.mon.2 _ _
theorem nwS_q [IsP p] {m:Fp p} (t0 t1 t2:Fp p):∀k,qcf m (nwS m t0 t1 t2 k)=Lk (Quo.mk m t0) (Quo.mk m t1) (Quo.mk m t2) k
 | 0=>funext fun i=>by cases i <;> rfl
 | k+1=>funext fun i=>by
  show qcf m (cmpS m _ _) i=Lop _ _ _ (Lk _ _ _ k) i
  rw [cmp_L,nwS_q t0 t1 t2 k]
noncomputable def outS [IsP p] (m t0 t1 t2 a:Fp p) (N:Nat):Nat→List (Fp p)
 | 0=>List.replicate N 0
 | j+1=>spIn (Pol.C (a.c j)) 0 (nwS m t0 t1 t2 j) (outS m t0 t1 t2 a N j)
theorem outS_length [IsP p] (m t0 t1 t2 a:Fp p) (N:Nat):∀j,(outS m t0 t1 t2 a N j).length=N
 | 0=>List.length_replicate
 | j+1=>by
  show (spIn _ 0 _ _).length=N
  rw [spIn_length,outS_length]
theorem outS_lens [IsP p] {m:Fp p} (hm:Fld m) (t0 t1 t2 a:Fp p) (N:Nat):∀j,∀c∈outS m t0 t1 t2 a N j,c.len<m.len
 | 0=>fun c hc=>by rw [List.eq_of_mem_replicate hc,Pol.len_zero]; exact Pol.len_pos hm.mon.2
 | j+1=>fun c hc=>by
  have h1:=Pol.len_pos hm.mon.2
  have:=spIn_lens (N:=m.len-1) (nwS m t0 t1 t2 j) 0 (outS m t0 t1 t2 a N j) (fun x hx=>by have:=nwS_lens hm t0 t1 t2 j x hx; omega) (fun x hx=>by have:=outS_lens hm t0 t1 t2 a N j x hx; omega) c hc
  omega
theorem outS_q [IsP p] {m:Fp p} (hm:m≠0) (t0 t1 t2 a:Fp p) {N:Nat}:∀j,2*j≤N+1→∀i,qcf m (outS m t0 t1 t2 a N j) i=hsum (Quo.mk m t0) (Quo.mk m t1) (Quo.mk m t2) (fun k=>Quo.mk m (Pol.C (a.c k))) 0 j i
 | 0,_,i=>qcf_zeros m N i
 | j+1,hj,i=>by
  have hl:=nwS_len hm t0 t1 t2 j
  show qcf m (spIn (Pol.C (a.c j)) 0 (nwS m t0 t1 t2 j) (outS m t0 t1 t2 a N j)) i=_
  rw [spIn_q _ 0 _ (by rw [outS_length]; omega),outS_q hm t0 t1 t2 a j (by omega),if_pos (Nat.zero_le _),nwS_q,hsum_snoc,Nat.sub_zero,Nat.zero_add,lk_rk]
theorem act_out [IsP p] {m t0 t1 t2:Fp p} (hm:Fld m) (hb:∀c∈[t0,t1,t2],c.len<m.len) (a:Fp p) {n N:Nat} (hN:2*n≤N+1) (i:Nat):cS (actN m t0 t1 t2 a n n) i=cS (outS m t0 t1 t2 a N n) i:=by
 have h1:=Pol.len_pos hm.mon.2
 refine qcf_eq hm.mon.2 ?_ ?_ ?_
 ·have:=mem_cS (N:=m.len-1) (fun c hc=>by have:=actN_lens hm t0 t1 t2 a n n c hc; omega) i; omega
 ·have:=mem_cS (N:=m.len-1) (fun c hc=>by have:=outS_lens hm t0 t1 t2 a N n c hc; omega) i; omega
 ·rw [actN_q hm hb a n n (Nat.le_refl _),outS_q hm.mon.2 t0 t1 t2 a n hN]
  exact hsum_congr _ _ _ i n _ _ 0 fun j _=>by rw [Nat.sub_self,Nat.zero_add]
noncomputable def nmS [IsP p] (m x:Fp p):Nat→Fp p
 | 0=>1
 | i+1=>nmS m x i*frIt m i x%m
theorem nmS_len [IsP p] {m:Fp p} (hm:Fld m) (x:Fp p):∀i,(nmS m x i).len<m.len
 | 0=>by show (1:Fp p).len<_; rw [Pol.len_one]; have:=hm.two; omega
 | _+1=>Pol.len_mod _ hm.mon.2
end
end Pe

namespace Pe
open Go Gq
variable {T:Nat→Option Fn} {A:Oracle}
theorem trim_const {p:Int} [IsP p] (c:Zp p):trim [rep c]=row (Pol.C c):=by
 apply trim_row
 intro i
 cases i with
 | zero=>rfl
 | succ i=>
  rw [cf_ge (by simp)]
  show (0:Int)=rep ((Pol.C c).c (i+1))
  rw [c_ge' (by have:=const_len (p:=p) c; omega),rep_zero]
theorem l_act {O:Oracle} (hby:K_by2 O) (htr:C_trimmed O) (hsi:K_single O) (hpl:K_plus O) {p:Int} [IsP p] {m t0 t1 t2 a:Fp p} (hm:Fld m) (hb:∀c∈[t0,t1,t2],c.len<m.len) (ha:a.len≤64):∀(r j:Nat),j+r=a.len →
 dn O 0 (.loop Z7_L0) ⟨[(1,(.d (.sl .leaf (ints .i64 (row a))))),(5,.ptr 1 []),(6,.d (skD [t0,t1,t2])),(7,.d (skD (actN m t0 t1 t2 a a.len j))),(8,(.d (.int .i64 ((a.len:Int)-1-j))))],[.hole,.box false (fldD m),.hole]⟩ =
  some (.exit 0,⟨[(1,(.d (.sl .leaf (ints .i64 (row a))))),(5,.ptr 1 []),(6,.d (skD [t0,t1,t2])),(7,.d (skD (actN m t0 t1 t2 a a.len a.len))),(8,(.d (.int .i64 (-1)))),(17,(.d (.bool false)))],[.hole,.box false (fldD m),.hole]⟩)
 | 0,j,hj=>by
  obtain rfl:j=a.len:=by omega
  rw [show (a.len:Int)-1-(a.len:Nat)=-1 by omega]
  refine dn_stop ?_
  generalize skD (actN m t0 t1 t2 a a.len a.len)=AD at *
  generalize skD [t0,t1,t2]=TD at *
  generalize row a=Ra at *
  simp -implicitDefEqProofs [Z7_L0,dn_cond]
 | r+1,j,hj=>by
  have h5:=hm.five
  have h2:=hm.two
  obtain ⟨i,hi⟩:∃i:Nat,a.len-1-j=i:=⟨_,rfl⟩
  have hic:(a.len:Int)-1-j=(i:Nat):=by omega
  have hlt2:i<(row a).length:=by rw [row_length]; omega
  have hx:(row a)[i]? = some (rep (a.c i)):=by rw [List.getElem?_eq_getElem hlt2,←cf_lt hlt2,row_cf]
  have g1:=actN_lens hm t0 t1 t2 a a.len j
  have g2:=actN_len m t0 t1 t2 a a.len j
  have p1:=prod_len_le (m:=m) (a:=actN m t0 t1 t2 a a.len j) (b:=[t0,t1,t2])
  simp only [List.length_cons,List.length_nil] at p1
  have hcl:=const_len (p:=p) (a.c i)
  have e1:=hby p m (actN m t0 t1 t2 a a.len j) [t0,t1,t2] h2 (by omega) (fun c hc=>by have:=g1 c hc; omega) (fun c hc=>by have:=hb c hc; omega) (by omega) (by simp)
  have e2:=htr [rep (a.c i)] (by simp)
  rw [trim_const,show ints .i64 [rep (a.c i)]=[.int .i64 (rep (a.c i))] from rfl] at e2
  have e3:=hsi p (Pol.C (a.c i)) 0 (by omega)
  rw [show ((0:Nat):Int)=0 from rfl] at e3
  have e4:=hpl p m (prodS m (actN m t0 t1 t2 a a.len j) [t0,t1,t2]) (termS (Pol.C (a.c i)) 0) 1 (by omega) (by omega) (by omega) (by rw [termS_length]; omega) (fun c hc=>by have:=prodS_lens' (N:=m.len-1) hm.mon.2 (by omega) c hc; omega) (fun c hc=>by
   unfold termS at hc
   rw [List.replicate_zero,List.nil_append] at hc
   rw [List.mem_singleton.1 hc]; omega)
  have hact:plusS 1 (prodS m (actN m t0 t1 t2 a a.len j) [t0,t1,t2]) (termS (Pol.C (a.c i)) 0)=actN m t0 t1 t2 a a.len (j+1):=by
   show _=plusS 1 _ (termS (Pol.C (a.c (a.len-1-j))) 0)
   rw [hi]
  rw [hact] at e4
  have w4:IntKind.i64.wrap ((i:Int)-1)=(a.len:Int)-1-((j+1:Nat):Int):=(w64 (by omega)).trans (by omega)
  refine dn_round ?_ (l_act hby htr hsi hpl hm hb ha r (j+1) (by omega))
  rw [hic]
  have hfd:fldD m=.st [.leaf,.leaf] [(D.int .i64 p),(D.sl .leaf (ints .i64 (row m)))]:=rfl
  rw [show skD (actN m t0 t1 t2 a a.len (j+1))=.sl .leaf ((actN m t0 t1 t2 a a.len (j+1)).map rowD) from rfl] at e4 ⊢
  rw [show skD (prodS m (actN m t0 t1 t2 a a.len j) [t0,t1,t2])=.sl .leaf ((prodS m (actN m t0 t1 t2 a a.len j) [t0,t1,t2]).map rowD) from rfl] at e1 e4
  rw [show skD (termS (Pol.C (a.c i)) 0)=.sl .leaf ((termS (Pol.C (a.c i)) 0).map rowD) from rfl] at e3 e4
  rw [show skD (actN m t0 t1 t2 a a.len j)=.sl .leaf ((actN m t0 t1 t2 a a.len j).map rowD) from rfl,show skD [t0,t1,t2]=.sl .leaf ([t0,t1,t2].map rowD) from rfl,hfd] at e1 ⊢
  rw [hfd] at e4
  generalize (a.len:Int)-1-((j+1:Nat):Int)=k1 at *
  generalize (actN m t0 t1 t2 a a.len (j+1)).map rowD=D1 at *
  generalize (prodS m (actN m t0 t1 t2 a a.len j) [t0,t1,t2]).map rowD=D2 at *
  generalize (termS (Pol.C (a.c i)) 0).map rowD=D3 at *
  generalize (actN m t0 t1 t2 a a.len j).map rowD=D4 at *
  generalize [t0,t1,t2].map rowD=TD at *
  generalize row (Pol.C (a.c i))=R1 at *
  generalize row m=Rm at *
  simp -implicitDefEqProofs [Z7_L0,dn_cond,hx,e1,e2,e3,e4,w4]
def K_action (O:Oracle):Prop:=∀(p:Int) [IsP p] (m g d a:Fp p),Fld m→g.len<m.len→d.len<m.len→a.len≤64→ask O F7 [drD p (pad (row m)) (pad (row g)) (pad (row d)),(D.sl .leaf (ints .i64 (row a)))]=some (skD (actN m (Pol.X%m) g d a a.len a.len))
theorem mem3 {p:Int} {t0 t1 t2:Fp p} {n:Nat} (h0:t0.len<n) (h1:t1.len<n) (h2:t2.len<n):∀c∈[t0,t1,t2],c.len<n:=fun c hc=>by
 simp at hc
 rcases hc with rfl | rfl | rfl <;> assumption
theorem k_action (hT:T F7=some Z7) (hfi:K_drField (den T A)) (hla:K_letterAction (den T A)) (hby:K_by2 (den T A)) (htr:C_trimmed (den T A)) (hsi:K_single (den T A)) (hpl:K_plus (den T A)):K_action (den T A):=by
 intro p ip m g d a hm hg hd ha
 have h5:=hm.five
 have h0:=hm.mon.2
 have e1:=hfi p m (pad (row g)) (pad (row d)) (by omega)
 have e2:=hla p m g d h0 (by omega) (by omega) (by omega)
 have e3:=l_act (O:=den T A) (t0:=Pol.X%m) (t1:=g) (t2:=d) (a:=a) hby htr hsi hpl hm (mem3 (Pol.len_mod _ h0) hg hd) ha a.len 0 (by omega)
 rw [show actN m (Pol.X%m) g d a a.len 0=[] from rfl,show ((0:Nat):Int)=0 from rfl,Int.sub_zero] at e3
 have hl:(row a).length=a.len:=row_length a
 have w1:IntKind.i64.wrap ((a.len:Int)-1)=(a.len:Int)-1:=w64 (by omega)
 have hfd:fldD m=.st [.leaf,.leaf] [(D.int .i64 p),(D.sl .leaf (ints .i64 (row m)))]:=rfl
 rw [show skD (actN m (Pol.X%m) g d a a.len a.len)=.sl .leaf ((actN m (Pol.X%m) g d a a.len a.len).map rowD) from rfl] at e3 ⊢
 rw [show skD [Pol.X%m,g,d]=.sl .leaf ([Pol.X%m,g,d].map rowD) from rfl] at e2 e3
 rw [show skD ([]:List (Fp p))=.sl .leaf [] from rfl,hfd] at e3
 rw [hfd] at e1
 refine ask_of hT rfl ?_
 generalize (actN m (Pol.X%m) g d a a.len a.len).map rowD=D1 at *
 generalize [Pol.X%m,g,d].map rowD=TD at *
 generalize row a=Ra at *
 generalize pad (row m)=Pm at *
 generalize pad (row g)=Pg at *
 generalize pad (row d)=Pd at *
 generalize row m=Rm at *
 simp -implicitDefEqProofs [Z7,Z7_B,e1,e2,e3,hl,w1]
theorem l_normOf3 {O:Oracle} (hfr:K_frob O) (hpr:K_product O) {p:Int} [IsP p] {m x:Fp p} (hm:Fld m) (hx:x.len<m.len):∀(r i:Nat),i+r=m.len-1 →
 dn O 0 (.loop Zy_L0) ⟨[(1,(.d (.sl .leaf (ints .i64 (row (frIt m i x)))))),(2,.ptr 0 []),(5,(.d (.sl .leaf (ints .i64 (row (nmS m x i)))))),(9,(.d (.int .i64 (((m.len-1:Nat):Int))))),(10,(.d (.int .i64 i)))],[.box false (fldD m),.hole]⟩ =
  some (.exit 0,⟨[(1,(.d (.sl .leaf (ints .i64 (row (frIt m (m.len-1) x)))))),(2,.ptr 0 []),(5,(.d (.sl .leaf (ints .i64 (row (nmS m x (m.len-1))))))),(9,(.d (.int .i64 (((m.len-1:Nat):Int))))),(10,(.d (.int .i64 (((m.len-1:Nat):Int))))),(11,(.d (.bool false)))],[.box false (fldD m),.hole]⟩)
 | 0,i,hi=>by
  obtain rfl:i=m.len-1:=by omega
  refine dn_stop ?_
  generalize row (frIt m (m.len-1) x)=R1 at *
  generalize row (nmS m x (m.len-1))=R2 at *
  generalize m.len-1=n at *
  simp -implicitDefEqProofs [Zy_L0,dn_cond]
 | r+1,i,hi=>by
  have h5:=hm.five
  have h2:=hm.two
  have h0:=hm.mon.2
  have f1:=frIt_len h0 i x hx
  have n1:=nmS_len hm x i
  have e1:=hpr p m (nmS m x i) (frIt m i x) h0 (by omega) (by omega) (by omega)
  rw [show nmS m x i*frIt m i x%m=nmS m x (i+1) from rfl] at e1
  have e2:=hfr p m (frIt m i x) 1 h2 (by omega) (by omega) (by omega)
  rw [frIt_mod hm 1 f1,←frIt_add,Nat.add_comm 1 i,show ((1:Nat):Int)=1 from rfl] at e2
  have hlt:i<m.len-1:=by omega
  have hlt':(i:Int)<((m.len-1:Nat):Int):=by omega
  have w4:IntKind.i64.wrap ((i:Int)+1)=((i+1:Nat):Int):=(w64 (x:=(i:Int)+1) (by omega)).trans (by omega)
  refine dn_round ?_ (l_normOf3 hfr hpr hm hx r (i+1) (by omega))
  generalize row (frIt m (i+1) x)=R1 at *
  generalize row (frIt m i x)=R2 at *
  generalize row (nmS m x (i+1))=R3 at *
  generalize row (nmS m x i)=R4 at *
  generalize m.len-1=n at *
  simp -implicitDefEqProofs [Zy_L0,dn_cond,hlt',e1,e2,w4]
def K_normOf (O:Oracle):Prop:=∀(p:Int) [IsP p] (m x:Fp p),Fld m→x.len<m.len→ask O Fy [fldD m,(D.sl .leaf (ints .i64 (row x)))]=some (D.int .i64 (rep ((nmS m x (m.len-1)).c 0)))
theorem k_normOf (hT:T Fy=some Zy) (hdg:C_degree (den T A)) (hat:C_at (den T A)) (hfr:K_frob (den T A)) (hpr:K_product (den T A)):K_normOf (den T A):=by
 intro p ip m x hm hx
 have h5:=hm.five
 have h2:=hm.two
 have h0:=hm.mon.2
 have e1:=hdg (row m) (by rw [row_length]; omega)
 rw [row_length,show (m.len:Int)-1=((m.len-1:Nat):Int) by omega] at e1
 have e2:=hpr p m 1 x h0 (by omega) (by rw [Pol.len_one]; omega) (by omega)
 rw [row_one,show ints .i64 [1]=[.int .i64 1] from rfl,show (1:Fp p)*x%m=nmS m x 1 from rfl] at e2
 have e3:=hfr p m x 1 h2 (by omega) (by omega) (by omega)
 rw [frIt_mod hm 1 hx,show ((1:Nat):Int)=1 from rfl] at e3
 have e4:=l_normOf3 (O:=den T A) hfr hpr hm hx (m.len-2) 1 (by omega)
 rw [show ((1:Nat):Int)=1 from rfl] at e4
 have e5:=hat (row (nmS m x (m.len-1))) 0 (by omega)
 rw [row_cf,show ((0:Nat):Int)=0 from rfl] at e5
 have hlt:(0:Int)<((m.len-1:Nat):Int):=by omega
 have hlt':0<m.len-1:=by omega
 have hfd:fldD m=.st [.leaf,.leaf] [(D.int .i64 p),(D.sl .leaf (ints .i64 (row m)))]:=rfl
 rw [hfd] at e2 e3 e4 ⊢
 have e6:dn (den T A) 0 (.loop Zy_L0) ⟨[(1,(.d (.sl .leaf (ints .i64 (row x))))),(2,.ptr 0 []),(5,.sl 1 [] 0 1 (some 1)),(9,(.d (.int .i64 (((m.len-1:Nat):Int))))),(10,(.d (.int .i64 0)))],[.box false (.st [.leaf,.leaf] [(D.int .i64 p),(D.sl .leaf (ints .i64 (row m)))]),.sl false .leaf [.int .i64 1]]⟩ =
  some (.exit 0,⟨[(1,(.d (.sl .leaf (ints .i64 (row (frIt m (m.len-1) x)))))),(2,.ptr 0 []),(5,(.d (.sl .leaf (ints .i64 (row (nmS m x (m.len-1))))))),(9,(.d (.int .i64 (((m.len-1:Nat):Int))))),(10,(.d (.int .i64 (((m.len-1:Nat):Int))))),(11,(.d (.bool false)))],[.box false (.st [.leaf,.leaf] [(D.int .i64 p),(D.sl .leaf (ints .i64 (row m)))]),.hole]⟩):=by
  refine dn_round ?_ e4
  generalize row (frIt m 1 x)=R1 at *
  generalize row (nmS m x 1)=R2 at *
  generalize row x=Rx at *
  generalize row m=Rm at *
  generalize m.len-1=n at *
  have w0:IntKind.i64.wrap 1=1:=w64 (by omega)
  simp -implicitDefEqProofs [Zy_L0,dn_cond,hlt',e2,e3,w0]
 refine ask_of hT rfl ?_
 generalize rep ((nmS m x (m.len-1)).c 0)=v at *
 generalize row (frIt m (m.len-1) x)=R1 at *
 generalize row (nmS m x (m.len-1))=R2 at *
 generalize row x=Rx at *
 generalize row m=Rm at *
 generalize m.len-1=n at *
 simp -implicitDefEqProofs [Zy,Zy_B,e1,e6,e5]
section
variable {p:Int}
noncomputable def frK [IsP p] (m d:Fp p):Int:=if (m.len-1)%2=1 then -inv p (rep ((nmS m d (m.len-1)).c 0)) else inv p (rep ((nmS m d (m.len-1)).c 0))
noncomputable def frB [IsP p] (m d:Fp p):Fp p:=Pol.C (zp p (frK m d))*m
noncomputable def frA [IsP p] (m g d:Fp p):Fp p:=cS (actN m (Pol.X%m) g d (frB m d) (frB m d).len (frB m d).len) (m.len-1)
theorem frK_in [IsP p] {m d:Fp p}:-1000≤frK m d∧frK m d≤1000:=by
 have hp:2≤p:=by rcases IsP.h (p:=p) with h | h | h | h <;> omega
 have h7:=IsP.le (p:=p)
 have:=ipow_in (p:=p) (n:=rep ((nmS m d (m.len-1)).c 0)) (by omega) (p-2).toNat
 unfold frK inv
 split <;> omega
theorem frB_len [IsP p] {m d:Fp p}:(frB m d).len≤m.len:=Pol.len_le fun j hj=>by
 unfold frB
 rw [Pol.c_Cmul,c_ge' (by omega),Gq.mul_zero]
end
def K_drFrob (O:Oracle):Prop:=∀(p:Int) [IsP p] (m g d:Fp p),Fld m→g.len<m.len→d.len<m.len→ask O F9 [drD p (pad (row m)) (pad (row g)) (pad (row d))]=some (.tup [(D.sl .leaf (ints .i64 (row (frA m g d)))),(D.sl .leaf (ints .i64 (row (frB m d))))])
theorem k_drFrob (hT:T F9=some Z9) (hfi:K_drField (den T A)) (hro:K_rowOf (den T A)) (hno:K_normOf (den T A)) (hin:C_inverse (den T A)) (hdg:C_degree (den T A)) (hsc:K_scale (den T A)) (hac:K_action (den T A)) (hat:K_skAt (den T A)):K_drFrob (den T A):=by
 intro p ip m g d hm hg hd
 have h5:=hm.five
 have h2:=hm.two
 have h0:=hm.mon.2
 have hp:2≤p:=by rcases IsP.h (p:=p) with h | h | h | h <;> omega
 have h7:=IsP.le (p:=p)
 have hr:=rep_in ((nmS m d (m.len-1)).c 0)
 have hbl:=frB_len (m:=m) (d:=d)
 obtain ⟨k1,k2⟩:=frK_in (m:=m) (d:=d)
 have hiv:=ipow_in (p:=p) (n:=rep ((nmS m d (m.len-1)).c 0)) (by omega) (p-2).toNat
 have e1:=hfi p m (pad (row g)) (pad (row d)) (by omega)
 have e2:=hro p d (by omega)
 have e3:=hno p m d hm hd
 have e4:=hin p (rep ((nmS m d (m.len-1)).c 0)) (by omega) (by omega) hr.1 hr.2
 have e5:=hdg (row m) (by rw [row_length]; omega)
 rw [row_length,show (m.len:Int)-1=((m.len-1:Nat):Int) by omega] at e5
 have e6:=hsc p (frK m d) m (by omega) (by omega) (by omega)
 rw [show Pol.C (zp p (frK m d))*m=frB m d from rfl] at e6
 have e7:=hac p m g d (frB m d) hm hg hd (by omega)
 have e8:=hat p (actN m (Pol.X%m) g d (frB m d) (frB m d).len (frB m d).len) (m.len-1)
 rw [show cS (actN m (Pol.X%m) g d (frB m d) (frB m d).len (frB m d).len) (m.len-1)=frA m g d from rfl] at e8
 have hfd:fldD m=.st [.leaf,.leaf] [(D.int .i64 p),(D.sl .leaf (ints .i64 (row m)))]:=rfl
 rw [hfd] at e1 e3
 rw [show skD (actN m (Pol.X%m) g d (frB m d) (frB m d).len (frB m d).len)=.sl .leaf ((actN m (Pol.X%m) g d (frB m d) (frB m d).len (frB m d).len).map rowD) from rfl] at e7 e8
 have hrem:Int.tmod ((m.len-1:Nat):Int) 2=(((m.len-1)%2:Nat):Int):=rfl
 unfold frK at e6 k1 k2
 unfold inv at e4 e6 k1 k2
 refine ask_of hT rfl ?_
 generalize (actN m (Pol.X%m) g d (frB m d) (frB m d).len (frB m d).len).map rowD=D1 at *
 generalize row (frA m g d)=R1 at *
 generalize row (frB m d)=R2 at *
 generalize ipow p (rep ((nmS m d (m.len-1)).c 0)) (p-2).toNat=iv at *
 generalize rep ((nmS m d (m.len-1)).c 0)=nv at *
 generalize row d=Rd at *
 generalize pad (row m)=Pm at *
 generalize pad (row g)=Pg at *
 generalize pad (row d)=Pd at *
 generalize row m=Rm at *
 generalize m.len-1=n at *
 have w1:IntKind.i64.wrap (-iv)=-iv:=w64 (by omega)
 by_cases hodd:n%2=1
 ·rw [if_pos hodd] at e6
  rw [hodd] at hrem
  simp -implicitDefEqProofs [Z9,Z9_B,dn_cond,e1,e2,e3,e4,e5,e6,e7,e8,hrem,w1]
 ·rw [if_neg hodd] at e6
  rw [show n%2=0 by omega] at hrem
  simp -implicitDefEqProofs [Z9,Z9_B,dn_cond,e1,e2,e3,e4,e5,e6,e7,e8,hrem]
end Pe

namespace Pe
open Go Gq
variable {T:Nat→Option Fn} {A:Oracle}
noncomputable abbrev aD {p:Int} (L:List (Fp p)):D:=.sl (.arr 64 .leaf) ((skP L).map arr8)
theorem skA_get {p:Int} {L:List (Fp p)} {i:Nat} (h:i<L.length):((skP L).map arr8)[i]? = some (D.arr 64 .leaf (ints .u8 (pad (row L[i])))):=by
 unfold skP
 rw [List.getElem?_map,List.getElem?_map,List.getElem?_eq_getElem h]
 rfl
theorem skA_getE {p:Int} {L:List (Fp p)} {i:Nat} (h:i<L.length):∀h':i<((skP L).map arr8).length,((skP L).map arr8)[i]'h'=(D.arr 64 .leaf (ints .u8 (pad (row L[i])))):=fun h'=>by
 have:=skA_get h
 rw [List.getElem?_eq_getElem h'] at this
 exact Option.some.inj this
theorem skA_len {p:Int} (L:List (Fp p)):((skP L).map arr8).length=L.length:=by unfold skP; rw [List.length_map,List.length_map]
theorem skA_take {p:Int} (L:List (Fp p)) (n:Nat):((skP L).map arr8).take n=(skP (L.take n)).map arr8:=by unfold skP; rw [←List.map_take,←List.map_take]
theorem skA_set {p:Int} (L:List (Fp p)) (n:Nat) (c:Fp p):(skP (L.set n c)).map arr8=((skP L).map arr8).set n (D.arr 64 .leaf (ints .u8 (pad (row c)))):=by unfold skP; rw [List.map_set,List.map_set]
theorem l_sTrim4 {O:Oracle} {p:Int} [IsP p] {L:List (Fp p)} (hl:∀c∈L,c.len≤64) (hL:L.length≤1000000):∀n,n≤L.length →
 dn O 0 (.loop Z44_L0) ⟨[(0,.d (aD (L.take n)))],[]⟩=some (.exit 0,⟨[(0,.d (aD (L.take (stl L n)))),(15,(.d (.bool false)))],[]⟩)
 | 0,_=>by
  refine dn_stop ?_
  rw [List.take_zero,show aD ([]:List (Fp p))=.sl (.arr 64 .leaf) [] from rfl,show stl L 0=0 from rfl,List.take_zero,show aD ([]:List (Fp p))=.sl (.arr 64 .leaf) [] from rfl]
  simp -implicitDefEqProofs [Z44_L0,dn_cond]
 | n+1,hn=>by
  have hlt:n<L.length:=by omega
  have hc:=hl _ (List.getElem_mem hlt)
  have hg:=skA_get (L:=L.take (n+1)) (i:=n) (by rw [List.length_take]; omega)
  rw [List.getElem_take] at hg
  have hlen:((skP (L.take (n+1))).map arr8).length=n+1:=by rw [skA_len,List.length_take]; omega
  have w1:IntKind.i64.wrap (n:Int)=(n:Int):=w64 (by omega)
  have hpos:(0:Int)<(n:Int)+1:=by omega
  have hgE:=skA_getE (L:=L.take (n+1)) (i:=n) (by rw [List.length_take]; omega)
  rw [List.getElem_take] at hgE
  have heq:=beq_P (l:=pad (row L[n])) (m:=pad []) (pad_length _) (pad_length _)
  by_cases h0:L[n]=0
  ·have hst:stl L (n+1)=stl L n:=by
    conv=>lhs; unfold stl
    rw [if_pos (by rw [List.getElem?_eq_getElem hlt,h0])]
   rw [hst]
   have ih:=l_sTrim4 (O:=O) hl hL n (by omega)
   rw [h0,row_zero,decide_eq_true rfl] at heq
   rw [h0,row_zero] at hg hgE
   have htk:((skP (L.take (n+1))).map arr8).take n=(skP (L.take n)).map arr8:=by
    rw [skA_take,List.take_take,Nat.min_eq_left (by omega)]
   refine dn_round ?_ ih
   show _=some (_,(⟨[(0,.d (.sl (.arr 64 .leaf) ((skP (L.take n)).map arr8)))],_⟩:St))
   show dn O 0 _ ⟨[(0,.d (.sl (.arr 64 .leaf) ((skP (L.take (n+1))).map arr8)))],_⟩=_
   generalize (skP (L.take n)).map arr8=L1 at *
   generalize (skP (L.take (n+1))).map arr8=L2 at *
   simp -implicitDefEqProofs [Z44_L0,dn_cond,hgE,hlen,w1,hpos,heq,htk]
  ·have hst:stl L (n+1)=n+1:=by
    conv=>lhs; unfold stl
    rw [if_neg (by rw [List.getElem?_eq_getElem hlt]; exact fun h=>h0 (Option.some.inj h))]
   rw [hst]
   have hne:¬ pad (row L[n])=pad []:=fun h=>h0 ((pad_row_inj hc (by rw [Pol.len_zero]; omega)).1 (by rw [h,row_zero]))
   rw [decide_eq_false hne] at heq
   have key:∀(L2:List D) (P1:List Int),L2.length=n+1→(∀h':n<L2.length,L2[n]'h'=(D.arr 64 .leaf (ints .u8 P1)))→D.beq (.arr 64 .leaf .int) (D.arr 64 .leaf (ints .u8 P1)) (D.arr 64 .leaf (ints .u8 (pad [])))=some false →
    dn O 0 Z44_L0 ⟨[(0,.d (.sl (.arr 64 .leaf) L2))],[]⟩=some (.exit 0,⟨[(0,.d (.sl (.arr 64 .leaf) L2)),(15,(.d (.bool false)))],[]⟩):=by
    intro L2 P1 f1 f2 f3
    simp -implicitDefEqProofs [Z44_L0,dn_cond,f1,f2,w1,hpos,f3]
   exact dn_stop (key _ _ hlen hgE heq)
def K_sTrim4 (O:Oracle):Prop:=∀(p:Int) [IsP p] (L:List (Fp p)),(∀c∈L,c.len≤64)→L.length≤1000000→ask O F44 [aD L]=some (aD (trimS L))
theorem k_sTrim4 (hT:T F44=some Z44):K_sTrim4 (den T A):=by
 intro p ip L hl hL
 have e1:=l_sTrim4 (O:=den T A) hl hL L.length (Nat.le_refl _)
 rw [List.take_length,show L.take (stl L L.length)=trimS L from rfl] at e1
 rw [show aD L=.sl (.arr 64 .leaf) ((skP L).map arr8) from rfl,show aD (trimS L)=.sl (.arr 64 .leaf) ((skP (trimS L)).map arr8) from rfl] at e1 ⊢
 refine ask_of hT rfl ?_
 generalize (skP (trimS L)).map arr8=L1 at *
 generalize (skP L).map arr8=L2 at *
 simp -implicitDefEqProofs [Z44,Z44_B,e1]
theorem l_cmpIn {O:Oracle} (hti:K_sTimes6 O) (had:K_sAdd O) (hup:K_sUp6 O) {p:Int} [IsP p] {m:Fp p} {v1 v2:List Int} (hm:m≠0) (hml:m.len≤64) {us:List (Fp p)} (hus:∀c∈us,c.len≤64) {VD:D} {N k:Nat} (hN:N≤1000) (hk:us.length+k≤N):∀(r i:Nat) (w:Fp p) (Q:List (Fp p)),i+r=us.length→Q.length=N→(∀c∈Q,c.len≤64)→w.len≤64→∃w':List Int,
 dn O 0 (.loop Z49_L0) ⟨[(1,.d (aD us)),(2,.d VD),(3,.ptr 0 []),(7,.sl 1 [] 0 N (some N)),(8,(.d (.int .i64 k))),(9,.ptr 2 []),(10,(.d (.int .i64 i)))],[.box false (drD p (pad (row m)) v1 v2),.sl false (.arr 64 .leaf) ((skP Q).map arr8),.box false (D.arr 64 .leaf (ints .u8 (pad (row w))))]⟩ =
  some (.exit 2,⟨[(1,.d (aD us)),(2,.d VD),(3,.ptr 0 []),(7,.sl 1 [] 0 N (some N)),(8,(.d (.int .i64 k))),(9,.ptr 2 []),(10,(.d (.int .i64 us.length))),(30,(.d (.bool false)))],[.box false (drD p (pad (row m)) v1 v2),.sl false (.arr 64 .leaf) ((skP (cmpIn m k i (us.drop i) w Q)).map arr8),.box false (D.arr 64 .leaf (ints .u8 w'))]⟩)
 | 0,i,w,Q,hi,hq,hQ,hw=>by
  obtain rfl:i=us.length:=by omega
  rw [List.drop_length]
  refine ⟨pad (row w),dn_stop ?_⟩
  have hUL:=skA_len us
  show dn O 0 _ ⟨[(1,.d (.sl (.arr 64 .leaf) ((skP us).map arr8))),_,_,_,_,_,_],_⟩=some (_,(⟨[(1,.d (.sl (.arr 64 .leaf) ((skP us).map arr8))),_,_,_,_,_,_,_],[_,.sl false (.arr 64 .leaf) ((skP Q).map arr8),_]⟩:St))
  generalize (skP us).map arr8=UD at *
  generalize (skP Q).map arr8=QD at *
  generalize pad (row w)=Pw at *
  simp -implicitDefEqProofs [Z49_L0,dn_cond,hUL]
 | r+1,i,w,Q,hi,hq,hQ,hw=>by
  have hlt:i<us.length:=by omega
  have hik:i+k<N:=by omega
  have hikQ:i+k<Q.length:=by omega
  have hu1:=hus _ (List.getElem_mem hlt)
  have hq1:=hQ _ (List.getElem_mem hikQ)
  have hUL:=skA_len us
  have hQL:((skP Q).map arr8).length=N:=(skA_len Q).trans hq
  have g1:=skA_get hlt
  have g2:=skA_get hikQ
  have g1E:=skA_getE hlt
  have g2E:=skA_getE hikQ
  have e1:=hti p m us[i] w v1 v2 hm hml hu1 hw
  have l1:=Pol.len_mod (us[i]*w) hm
  have e2:=had p 1 Q[i+k] (us[i]*w%m) (by omega) (by omega) hq1 (by omega)
  rw [zp_one,Pol.C_one,Gq.one_mul] at e2
  have e3:=hup p m w v1 v2 1 hm hml hw (by omega)
  rw [show frIt m 1 w=pw w p.toNat%m from rfl,show ((1:Nat):Int)=1 from rfl] at e3
  have l2:=Pol.len_mod (pw w p.toNat) hm
  have hadd:addAt Q (i+k) (us[i]*w%m)=Q.set (i+k) (Q[i+k]+us[i]*w%m):=by
   unfold addAt; rw [List.getElem?_eq_getElem hikQ]; rfl
  have hQ':∀c∈addAt Q (i+k) (us[i]*w%m),c.len≤64:=addAt_lens hQ (by omega)
  have w0:IntKind.i64.wrap ((i:Int)+k)=((i+k:Nat):Int):=(w64 (x:=(i:Int)+k) (by omega)).trans (by omega)
  have hs0:(0:Int)≤(i:Int)+k:=by omega
  have hs1:((i:Int)+k).toNat=i+k:=by omega
  have w4:IntKind.i64.wrap ((i:Int)+1)=((i+1:Nat):Int):=(w64 (x:=(i:Int)+1) (by omega)).trans (by omega)
  have hlt':(i:Int)<us.length:=by omega
  obtain ⟨w',ih⟩:=l_cmpIn hti had hup hm hml hus (VD:=VD) hN hk (v1:=v1) (v2:=v2) r (i+1) (pw w p.toNat%m) (addAt Q (i+k) (us[i]*w%m)) (by omega) (by rw [addAt_length]; exact hq) hQ' (by omega)
  have hby:cmpIn m k i (us.drop i) w Q=cmpIn m k (i+1) (us.drop (i+1)) (pw w p.toNat%m) (addAt Q (i+k) (us[i]*w%m)):=by
   rw [List.drop_eq_getElem_cons hlt]; rfl
  rw [hby]
  refine ⟨w',dn_round ?_ ih⟩
  rw [hadd,skA_set]
  show dn O 0 _ ⟨[(1,.d (.sl (.arr 64 .leaf) ((skP us).map arr8))),_,_,_,_,_,_],_⟩=some (_,(⟨[(1,.d (.sl (.arr 64 .leaf) ((skP us).map arr8))),_,_,_,_,_,_],_⟩:St))
  generalize pad (row (Q[i+k]+us[i]*w%m))=P1 at *
  generalize pad (row (us[i]*w%m))=P2 at *
  generalize pad (row us[i])=P3 at *
  generalize pad (row Q[i+k])=P4 at *
  generalize pad (row (pw w p.toNat%m))=P5 at *
  generalize pad (row w)=Pw at *
  generalize (skP us).map arr8=UD at *
  generalize (skP Q).map arr8=QD at *
  generalize pad (row m)=Pm at *
  simp -implicitDefEqProofs [Z49_L0,dn_cond,hUL,hQL,hlt,hlt',hik,hs0,hs1,g1E,g2E,e1,e2,e3,w0,w4]
theorem l_cmpOut {O:Oracle} (hti:K_sTimes6 O) (had:K_sAdd O) (hup:K_sUp6 O) {p:Int} [IsP p] {m:Fp p} {v1 v2:List Int} (hm:m≠0) (hml:m.len≤64) {us vs:List (Fp p)} (hus:∀c∈us,c.len≤64) (hvs:∀c∈vs,c.len≤64) {N:Nat} (hN:N≤1000) (hk:us.length+vs.length≤N):∀(r k:Nat) (Q:List (Fp p)),k+r=vs.length→Q.length=N→(∀c∈Q,c.len≤64) →
 dn O 0 (.loop Z49_L1) ⟨[(1,.d (aD us)),(2,.d (aD vs)),(3,.ptr 0 []),(7,.sl 1 [] 0 N (some N)),(8,(.d (.int .i64 k)))],[.box false (drD p (pad (row m)) v1 v2),.sl false (.arr 64 .leaf) ((skP Q).map arr8),.hole]⟩ =
  some (.exit 0,⟨[(1,.d (aD us)),(2,.d (aD vs)),(3,.ptr 0 []),(7,.sl 1 [] 0 N (some N)),(8,(.d (.int .i64 vs.length))),(20,(.d (.bool false)))],[.box false (drD p (pad (row m)) v1 v2),.sl false (.arr 64 .leaf) ((skP (cmpOut m us k (vs.drop k) Q)).map arr8),.hole]⟩)
 | 0,k,Q,hi,hq,hQ=>by
  obtain rfl:k=vs.length:=by omega
  rw [List.drop_length]
  refine dn_stop ?_
  have hVL:=skA_len vs
  show dn O 0 _ ⟨[_,(2,.d (.sl (.arr 64 .leaf) ((skP vs).map arr8))),_,_,_],_⟩=some (_,(⟨[_,(2,.d (.sl (.arr 64 .leaf) ((skP vs).map arr8))),_,_,_,_],[_,.sl false (.arr 64 .leaf) ((skP Q).map arr8),_]⟩:St))
  generalize aD us=UD at *
  generalize (skP vs).map arr8=VD at *
  generalize (skP Q).map arr8=QD at *
  simp -implicitDefEqProofs [Z49_L1,dn_cond,hVL]
 | r+1,k,Q,hi,hq,hQ=>by
  have hlt:k<vs.length:=by omega
  have hv1:=hvs _ (List.getElem_mem hlt)
  have hVL:=skA_len vs
  have g1:=skA_get hlt
  have g1E:=skA_getE hlt
  have w4:IntKind.i64.wrap ((k:Int)+1)=((k+1:Nat):Int):=(w64 (x:=(k:Int)+1) (by omega)).trans (by omega)
  have hlt':(k:Int)<vs.length:=by omega
  obtain ⟨w',e1⟩:=l_cmpIn hti had hup hm hml hus (VD:=aD vs) hN (k:=k) (by omega) (v1:=v1) (v2:=v2) us.length 0 vs[k] Q (by omega) hq hQ hv1
  rw [List.drop_zero,show ((0:Nat):Int)=0 from rfl] at e1
  have hQ':∀c∈cmpIn m k 0 us vs[k] Q,c.len≤64:=cmpIn_lens (N:=64) hm (by omega) k us 0 vs[k] Q hQ
  have ih:=l_cmpOut hti had hup hm hml hus hvs hN hk (v1:=v1) (v2:=v2) r (k+1) (cmpIn m k 0 us vs[k] Q) (by omega) (by rw [cmpIn_length]; exact hq) hQ'
  have hby:cmpOut m us k (vs.drop k) Q=cmpOut m us (k+1) (vs.drop (k+1)) (cmpIn m k 0 us vs[k] Q):=by
   rw [List.drop_eq_getElem_cons hlt]; rfl
  rw [hby]
  refine dn_round ?_ ih
  rw [show aD vs=.sl (.arr 64 .leaf) ((skP vs).map arr8) from rfl] at e1 ⊢
  generalize aD us=UD at *
  generalize (skP (cmpIn m k 0 us vs[k] Q)).map arr8=Q2 at *
  generalize (skP vs).map arr8=VD at *
  generalize (skP Q).map arr8=QD at *
  generalize pad (row vs[k])=P1 at *
  generalize pad (row m)=Pm at *
  simp -implicitDefEqProofs [Z49_L1,dn_cond,hVL,hlt,hlt',g1E,e1,w4]
def K_sComp (O:Oracle):Prop:=∀(p:Int) [IsP p] (m:Fp p) (v1 v2:List Int) (us vs:List (Fp p)),m≠0→m.len≤64→(∀c∈us,c.len≤64)→(∀c∈vs,c.len≤64)→us.length+vs.length≤1000→ask O F49 [drD p (pad (row m)) v1 v2,aD us,aD vs]=some (aD (cmpS m us vs))
theorem skA_zeros (p:Int) (n:Nat):(skP (List.replicate n (0:Fp p))).map arr8=List.replicate n (D.arr 64 .leaf (ints .u8 (pad []))):=by
 unfold skP
 rw [List.map_replicate,List.map_replicate,row_zero]
theorem k_sComp (hT:T F49=some Z49) (hti:K_sTimes6 (den T A)) (had:K_sAdd (den T A)) (hup:K_sUp6 (den T A)) (htr:K_sTrim4 (den T A)):K_sComp (den T A):=by
 intro p ip m v1 v2 us vs hm hml hus hvs hN
 have hz:∀c∈List.replicate (us.length+vs.length) (0:Fp p),c.len≤64:=fun c hc=>by rw [List.eq_of_mem_replicate hc,Pol.len_zero]; omega
 have e1:=l_cmpOut (O:=den T A) hti had hup hm hml hus hvs hN (Nat.le_refl _) (v1:=v1) (v2:=v2) vs.length 0 (List.replicate (us.length+vs.length) 0) (by omega) List.length_replicate hz
 rw [List.drop_zero,show ((0:Nat):Int)=0 from rfl,skA_zeros] at e1
 have e2:=htr p (cmpOut m us 0 vs (List.replicate (us.length+vs.length) 0)) (cmpOut_lens (N:=64) hm (by omega) us vs 0 _ hz) (by rw [cmpOut_length,List.length_replicate]; omega)
 rw [show trimS (cmpOut m us 0 vs (List.replicate (us.length+vs.length) 0))=cmpS m us vs from rfl] at e2
 have hUL:=skA_len us
 have hVL:=skA_len vs
 have hOL:((skP (cmpOut m us 0 vs (List.replicate (us.length+vs.length) 0))).map arr8).length=us.length+vs.length:=by rw [skA_len,cmpOut_length,List.length_replicate]
 have w1:IntKind.i64.wrap ((us.length:Int)+vs.length)=((us.length+vs.length:Nat):Int):=(w64 (x:=(us.length:Int)+vs.length) (by omega)).trans (by omega)
 have hmul:(us.length+vs.length)*64≤1099511627776:=by omega
 have hs0:(0:Int)≤(us.length:Int)+vs.length:=by omega
 have hs1:((us.length:Int)+vs.length).toNat=us.length+vs.length:=by omega
 rw [show aD us=.sl (.arr 64 .leaf) ((skP us).map arr8) from rfl,show aD vs=.sl (.arr 64 .leaf) ((skP vs).map arr8) from rfl] at e1 ⊢
 rw [show aD (cmpS m us vs)=.sl (.arr 64 .leaf) ((skP (cmpS m us vs)).map arr8) from rfl] at e2 ⊢
 rw [show aD (cmpOut m us 0 vs (List.replicate (us.length+vs.length) 0))=.sl (.arr 64 .leaf) ((skP (cmpOut m us 0 vs (List.replicate (us.length+vs.length) 0))).map arr8) from rfl] at e2
 have htk:((skP (cmpOut m us 0 vs (List.replicate (us.length+vs.length) 0))).map arr8).take (us.length+vs.length)=(skP (cmpOut m us 0 vs (List.replicate (us.length+vs.length) 0))).map arr8:=List.take_of_length_le (by omega)
 refine ask_of hT rfl ?_
 generalize (skP (cmpS m us vs)).map arr8=CD at *
 generalize (skP (cmpOut m us 0 vs (List.replicate (us.length+vs.length) 0))).map arr8=OD at *
 generalize (skP us).map arr8=UD at *
 generalize (skP vs).map arr8=VD at *
 generalize us.length=nu at *
 generalize vs.length=nv at *
 generalize pad (row m)=Pm at *
 simp -implicitDefEqProofs [Z49,Z49_B,hUL,hVL,hOL,w1,hmul,hs0,hs1,htk,e1,e2]
def K_sT6 (O:Oracle):Prop:=∀(p:Int) [IsP p] (m g d:Fp p),m≠0→m.len≤64→ask O F4g [drD p (pad (row m)) (pad (row g)) (pad (row d))]=some (aD [Pol.X%m,g,d])
theorem k_sT6 (hT:T F4g=some Z4g) (ht:K_sT (den T A)) (hmo:K_sMod (den T A)):K_sT6 (den T A):=by
 intro p ip m g d hm hml
 have e1:=ht p
 have e2:=hmo p Pol.X m hm (by rw [Pol.len_X]; omega) hml
 rw [show aD [Pol.X%m,g,d]=.sl (.arr 64 .leaf) [(D.arr 64 .leaf (ints .u8 (pad (row (Pol.X%m))))),(D.arr 64 .leaf (ints .u8 (pad (row g)))),(D.arr 64 .leaf (ints .u8 (pad (row d))))] from rfl]
 refine ask_of hT rfl ?_
 generalize pad (row (Pol.X%m))=P1 at *
 generalize pad (row (Pol.X:Fp p))=P2 at *
 generalize pad (row m)=Pm at *
 generalize pad (row g)=Pg at *
 generalize pad (row d)=Pd at *
 simp -implicitDefEqProofs [Z4g,Z4g_B,e1,e2,List.replicate]
theorem conv_rep {p:Int} [IsP p] (c:Zp p):IntKind.i64.wrap (rep c)=rep c:=by
 have:=rep_in c
 have h7:=IsP.le (p:=p)
 exact w64 (by omega)
theorem l_sAct0 {O:Oracle} (had:K_sAdd O) {p:Int} [IsP p] {m a:Fp p} {v1 v2:List Int} (ha:a.len≤64) {X:List (Fp p)} (hX:∀c∈X,c.len≤64) {N k:Nat} {n5:Int} (hN:N≤1000) (hXN:X.length≤N) (hk:k<64):∀(r i:Nat) (Q:List (Fp p)),i+r=X.length→Q.length=N→(∀c∈Q,c.len≤64) →
 dn O 0 (.loop Z45_L0) ⟨[(2,.ptr 0 []),(3,.ptr 1 []),(5,(.d (.int .i64 n5))),(6,.sl 2 [] 0 N (some N)),(7,.d (aD X)),(8,(.d (.int .i64 k))),(9,(.d (.int .i64 i)))],[.box false (drD p (pad (row m)) v1 v2),.box false (D.arr 64 .leaf (ints .u8 (pad (row a)))),.sl false (.arr 64 .leaf) ((skP Q).map arr8),.hole]⟩ =
  some (.exit 2,⟨[(2,.ptr 0 []),(3,.ptr 1 []),(5,(.d (.int .i64 n5))),(6,.sl 2 [] 0 N (some N)),(7,.d (aD X)),(8,(.d (.int .i64 k))),(9,(.d (.int .i64 X.length))),(27,(.d (.bool false)))],[.box false (drD p (pad (row m)) v1 v2),.box false (D.arr 64 .leaf (ints .u8 (pad (row a)))),.sl false (.arr 64 .leaf) ((skP (spIn (Pol.C (a.c k)) i (X.drop i) Q)).map arr8),.hole]⟩)
 | 0,i,Q,hi,hq,hQ=>by
  obtain rfl:i=X.length:=by omega
  rw [List.drop_length]
  refine dn_stop ?_
  have hXL:=skA_len X
  show dn O 0 _ ⟨[_,_,_,_,(7,.d (.sl (.arr 64 .leaf) ((skP X).map arr8))),_,_],_⟩=some (_,(⟨[_,_,_,_,(7,.d (.sl (.arr 64 .leaf) ((skP X).map arr8))),_,_,_],[_,_,.sl false (.arr 64 .leaf) ((skP Q).map arr8),_]⟩:St))
  generalize (skP X).map arr8=XD at *
  generalize (skP Q).map arr8=QD at *
  simp -implicitDefEqProofs [Z45_L0,dn_cond,hXL]
 | r+1,i,Q,hi,hq,hQ=>by
  have hlt:i<X.length:=by omega
  have hiQ:i<Q.length:=by omega
  have hiN:i<N:=by omega
  have hx1:=hX _ (List.getElem_mem hlt)
  have hq1:=hQ _ (List.getElem_mem hiQ)
  have hXL:=skA_len X
  have hQL:((skP Q).map arr8).length=N:=(skA_len Q).trans hq
  have g1:=skA_getE hlt
  have g2:=skA_getE hiQ
  have hr:=rep_in (a.c k)
  have h7:=IsP.le (p:=p)
  have e1:=had p (rep (a.c k)) Q[i] X[i] (by omega) (by omega) hq1 hx1
  rw [zp_rep] at e1
  have hadd:addAt Q i (Pol.C (a.c k)*X[i])=Q.set i (Q[i]+Pol.C (a.c k)*X[i]):=by
   unfold addAt; rw [List.getElem?_eq_getElem hiQ]; rfl
  have hcl:(Pol.C (a.c k)*X[i]).len≤64:=Pol.len_le fun j hj=>by rw [Pol.c_Cmul,c_ge' (a:=X[i]) (n:=j) (by omega),Gq.mul_zero]
  have hQ':∀c∈addAt Q i (Pol.C (a.c k)*X[i]),c.len≤64:=addAt_lens hQ hcl
  have w4:IntKind.i64.wrap ((i:Int)+1)=((i+1:Nat):Int):=(w64 (x:=(i:Int)+1) (by omega)).trans (by omega)
  have hlt':(i:Int)<X.length:=by omega
  have hpl:(pad (row a)).length=64:=pad_length _
  have hpk:∀h:k<(pad (row a)).length,(pad (row a))[k]'h=rep (a.c k):=fun h=>by rw [←cf_lt h,pad_cf (by rw [row_length]; omega),row_cf]
  have hwr:=conv_rep (a.c k)
  have hby:spIn (Pol.C (a.c k)) i (X.drop i) Q=spIn (Pol.C (a.c k)) (i+1) (X.drop (i+1)) (addAt Q i (Pol.C (a.c k)*X[i])):=by
   rw [List.drop_eq_getElem_cons hlt]; rfl
  rw [hby]
  refine dn_round ?_ (l_sAct0 had (m:=m) (v1:=v1) (v2:=v2) ha hX hN hXN hk r (i+1) (addAt Q i (Pol.C (a.c k)*X[i])) (by omega) (by rw [addAt_length]; exact hq) hQ')
  rw [hadd,skA_set]
  show dn O 0 _ ⟨[_,_,_,_,(7,.d (.sl (.arr 64 .leaf) ((skP X).map arr8))),_,_],_⟩=some (_,(⟨[_,_,_,_,(7,.d (.sl (.arr 64 .leaf) ((skP X).map arr8))),_,_],_⟩:St))
  generalize pad (row (Q[i]+Pol.C (a.c k)*X[i]))=P1 at *
  generalize pad (row X[i])=P2 at *
  generalize pad (row Q[i])=P3 at *
  generalize (skP X).map arr8=XD at *
  generalize (skP Q).map arr8=QD at *
  generalize rep (a.c k)=ck at *
  generalize pad (row a)=Pa at *
  generalize pad (row m)=Pm at *
  simp -implicitDefEqProofs [Z45_L0,dn_cond,hXL,hQL,hlt,hlt',hiN,g1,g2,hk,hpl,hpk,hwr,e1,w4]
end Pe

namespace Pe
open Go Gq
variable {T:Nat→Option Fn} {A:Oracle}
theorem l_sAct0f {O:Oracle} (had:K_sAdd O) {p:Int} [IsP p] {m a:Fp p} {v1 v2:List Int} (ha:a.len≤64) {N:Nat} {n5:Int} (hN:N≤1000) (hN1:1≤N) {Q:List (Fp p)} (hq:Q.length=N) (hQ:∀c∈Q,c.len≤64) :
 dn O 0 (.loop Z45_L0) ⟨[(2,.ptr 0 []),(3,.ptr 1 []),(5,(.d (.int .i64 n5))),(6,.sl 2 [] 0 N (some N)),(7,.sl 3 [] 0 1 (some 1)),(8,(.d (.int .i64 0))),(9,(.d (.int .i64 0)))],[.box false (drD p (pad (row m)) v1 v2),.box false (D.arr 64 .leaf (ints .u8 (pad (row a)))),.sl false (.arr 64 .leaf) ((skP Q).map arr8),.sl false (.arr 64 .leaf) [(D.arr 64 .leaf (ints .u8 (pad (row (1:Fp p)))))]]⟩ =
  some (.exit 2,⟨[(2,.ptr 0 []),(3,.ptr 1 []),(5,(.d (.int .i64 n5))),(6,.sl 2 [] 0 N (some N)),(7,.sl 3 [] 0 1 (some 1)),(8,(.d (.int .i64 0))),(9,(.d (.int .i64 1))),(27,(.d (.bool false)))],[.box false (drD p (pad (row m)) v1 v2),.box false (D.arr 64 .leaf (ints .u8 (pad (row a)))),.sl false (.arr 64 .leaf) ((skP (spIn (Pol.C (a.c 0)) 0 [1] Q)).map arr8),.sl false (.arr 64 .leaf) [(D.arr 64 .leaf (ints .u8 (pad (row (1:Fp p)))))]]⟩):=by
 have hiQ:0<Q.length:=by omega
 have hiN:0<N:=by omega
 have hq1:=hQ _ (List.getElem_mem hiQ)
 have hQL:((skP Q).map arr8).length=N:=(skA_len Q).trans hq
 have g2:=skA_getE hiQ
 have hr:=rep_in (a.c 0)
 have h7:=IsP.le (p:=p)
 have e1:=had p (rep (a.c 0)) Q[0] 1 (by omega) (by omega) hq1 (by rw [Pol.len_one]; omega)
 rw [zp_rep] at e1
 have hadd:spIn (Pol.C (a.c 0)) 0 [1] Q=Q.set 0 (Q[0]+Pol.C (a.c 0)*1):=by
  show addAt Q 0 (Pol.C (a.c 0)*1)=_
  unfold addAt; rw [List.getElem?_eq_getElem hiQ]; rfl
 have w4:IntKind.i64.wrap 1=1:=w64 (by omega)
 have hpl:(pad (row a)).length=64:=pad_length _
 have hpk:∀h:0<(pad (row a)).length,(pad (row a))[0]'h=rep (a.c 0):=fun h=>by rw [←cf_lt h,pad_cf (by rw [row_length]; omega),row_cf]
 have hwr:=conv_rep (a.c 0)
 rw [hadd,skA_set]
 have stop:∀(QD:List D) (P1:D),dn O 0 (.loop Z45_L0) ⟨[(2,.ptr 0 []),(3,.ptr 1 []),(5,(.d (.int .i64 n5))),(6,.sl 2 [] 0 N (some N)),(7,.sl 3 [] 0 1 (some 1)),(8,(.d (.int .i64 0))),(9,(.d (.int .i64 1)))],[.box false (drD p (pad (row m)) v1 v2),.box false (D.arr 64 .leaf (ints .u8 (pad (row a)))),.sl false (.arr 64 .leaf) QD,.sl false (.arr 64 .leaf) [P1]]⟩ =
  some (.exit 2,⟨[(2,.ptr 0 []),(3,.ptr 1 []),(5,(.d (.int .i64 n5))),(6,.sl 2 [] 0 N (some N)),(7,.sl 3 [] 0 1 (some 1)),(8,(.d (.int .i64 0))),(9,(.d (.int .i64 1))),(27,(.d (.bool false)))],[.box false (drD p (pad (row m)) v1 v2),.box false (D.arr 64 .leaf (ints .u8 (pad (row a)))),.sl false (.arr 64 .leaf) QD,.sl false (.arr 64 .leaf) [P1]]⟩):=fun QD P1=>by
  refine dn_stop ?_
  generalize pad (row a)=Pa at *
  generalize pad (row m)=Pm at *
  simp -implicitDefEqProofs [Z45_L0,dn_cond]
 refine dn_round ?_ (stop _ _)
 generalize pad (row (Q[0]+Pol.C (a.c 0)*1))=P1 at *
 generalize pad (row (1:Fp p))=P2 at *
 generalize pad (row Q[0])=P3 at *
 generalize (skP Q).map arr8=QD at *
 generalize rep (a.c 0)=ck at *
 generalize pad (row a)=Pa at *
 generalize pad (row m)=Pm at *
 simp -implicitDefEqProofs [Z45_L0,dn_cond,hQL,hiN,g2,hpl,hpk,hwr,e1,w4]
theorem l_sAct1 {O:Oracle} (had:K_sAdd O) (ht:K_sT6 O) (hco:K_sComp O) {p:Int} [IsP p] {m g d a:Fp p} (hm:Fld m) (hg:g.len<m.len) (hd:d.len<m.len) (ha:a.len≤64) {N:Nat} (hN:N+1=2*a.len):∀(r k:Nat),k+r+1=a.len→∃X':V,
 dn O 0 (.loop Z45_L1) ⟨[(2,.ptr 0 []),(3,.ptr 1 []),(5,(.d (.int .i64 ((a.len:Int)-1)))),(6,.sl 2 [] 0 N (some N)),(7,.d (aD (nwS m (Pol.X%m) g d k))),(8,(.d (.int .i64 k)))],[.box false (drD p (pad (row m)) (pad (row g)) (pad (row d))),.box false (D.arr 64 .leaf (ints .u8 (pad (row a)))),.sl false (.arr 64 .leaf) ((skP (outS m (Pol.X%m) g d a N k)).map arr8),.hole]⟩ =
  some (.exit 0,⟨[(2,.ptr 0 []),(3,.ptr 1 []),(5,(.d (.int .i64 ((a.len:Int)-1)))),(6,.sl 2 [] 0 N (some N)),(7,X'),(8,(.d (.int .i64 a.len))),(21,(.d (.bool false)))],[.box false (drD p (pad (row m)) (pad (row g)) (pad (row d))),.box false (D.arr 64 .leaf (ints .u8 (pad (row a)))),.sl false (.arr 64 .leaf) ((skP (outS m (Pol.X%m) g d a N a.len)).map arr8),.hole]⟩)
 | r,k,hk=>by
  have h5:=hm.five
  have h0:=hm.mon.2
  have nl:=nwS_len h0 (Pol.X%m) g d k
  have nr:=nwS_lens hm (Pol.X%m) g d k
  have ol:=outS_length m (Pol.X%m) g d a N k
  have or_:=outS_lens hm (Pol.X%m) g d a N k
  have e1:=l_sAct0 (O:=O) had (m:=m) (v1:=pad (row g)) (v2:=pad (row d)) (n5:=(a.len:Int)-1) ha (X:=nwS m (Pol.X%m) g d k) (fun c hc=>by have:=nr c hc; omega) (N:=N) (k:=k) (by omega) (by omega) (by omega) (nwS m (Pol.X%m) g d k).length 0 (outS m (Pol.X%m) g d a N k) (Nat.zero_add _) ol (fun c hc=>by have:=or_ c hc; omega)
  rw [List.drop_zero,show spIn (Pol.C (a.c k)) 0 (nwS m (Pol.X%m) g d k) (outS m (Pol.X%m) g d a N k)=outS m (Pol.X%m) g d a N (k+1) from rfl,show ((0:Nat):Int)=0 from rfl] at e1
  have hle:(k:Int)≤(a.len:Int)-1:=by omega
  have w4:IntKind.i64.wrap ((k:Int)+1)=((k+1:Nat):Int):=(w64 (x:=(k:Int)+1) (by omega)).trans (by omega)
  have hXL:=nl
  match r with
  | 0=>
   have hk1:a.len=k+1:=by omega
   have hnlt:¬ (k:Int)<(a.len:Int)-1:=by omega
   have hnle:¬ ((k+1:Nat):Int)≤(a.len:Int)-1:=by omega
   refine ⟨.d (aD (nwS m (Pol.X%m) g d k)),?_⟩
   have stop:∀(QD:List D) (XD:D),dn O 0 (.loop Z45_L1) ⟨[(2,.ptr 0 []),(3,.ptr 1 []),(5,(.d (.int .i64 ((a.len:Int)-1)))),(6,.sl 2 [] 0 N (some N)),(7,.d XD),(8,(.d (.int .i64 (((k+1:Nat):Int)))))],[.box false (drD p (pad (row m)) (pad (row g)) (pad (row d))),.box false (D.arr 64 .leaf (ints .u8 (pad (row a)))),.sl false (.arr 64 .leaf) QD,.hole]⟩ =
    some (.exit 0,⟨[(2,.ptr 0 []),(3,.ptr 1 []),(5,(.d (.int .i64 ((a.len:Int)-1)))),(6,.sl 2 [] 0 N (some N)),(7,.d XD),(8,(.d (.int .i64 (((k+1:Nat):Int))))),(21,(.d (.bool false)))],[.box false (drD p (pad (row m)) (pad (row g)) (pad (row d))),.box false (D.arr 64 .leaf (ints .u8 (pad (row a)))),.sl false (.arr 64 .leaf) QD,.hole]⟩):=fun QD XD=>by
    refine dn_stop ?_
    generalize ((k+1:Nat):Int)=k1 at *
    generalize (a.len:Int)-1=n1 at *
    generalize pad (row a)=Pa at *
    generalize pad (row m)=Pm at *
    simp -implicitDefEqProofs [Z45_L1,dn_cond,hnle]
   rw [show outS m (Pol.X%m) g d a N a.len=outS m (Pol.X%m) g d a N (k+1) by rw [hk1],show ((a.len:Nat):Int)=((k+1:Nat):Int) by rw [hk1]]
   rw [show ((a.len:Nat):Int)=((k+1:Nat):Int) by rw [hk1]] at e1 stop hle hnlt hnle
   refine dn_round ?_ (stop _ _)
   generalize (skP (outS m (Pol.X%m) g d a N (k+1))).map arr8=Q2 at *
   generalize (skP (outS m (Pol.X%m) g d a N k)).map arr8=Q1 at *
   generalize aD (nwS m (Pol.X%m) g d k)=XD at *
   generalize ((k+1:Nat):Int)=k1 at *
   generalize pad (row a)=Pa at *
   generalize pad (row m)=Pm at *
   simp -implicitDefEqProofs [Z45_L1,dn_cond,hle,hnlt,e1,w4]
  | r+1=>
   have hlt:(k:Int)<(a.len:Int)-1:=by omega
   obtain ⟨X',ih⟩:=l_sAct1 had ht hco hm hg hd ha hN r (k+1) (by omega)
   have e2:=ht p m g d h0 (by omega)
   have e3:=hco p m (pad (row g)) (pad (row d)) [Pol.X%m,g,d] (nwS m (Pol.X%m) g d k) h0 (by omega) (fun c hc=>by have:=mem3 (Pol.len_mod Pol.X h0) hg hd c hc; omega) (fun c hc=>by have:=nr c hc; omega) (by simp only [List.length_cons,List.length_nil]; omega)
   rw [show cmpS m [Pol.X%m,g,d] (nwS m (Pol.X%m) g d k)=nwS m (Pol.X%m) g d (k+1) from rfl] at e3
   refine ⟨X',dn_round ?_ ih⟩
   unfold aD at e1 e2 e3 ⊢
   generalize (skP (outS m (Pol.X%m) g d a N (k+1))).map arr8=Q2 at *
   generalize (skP (outS m (Pol.X%m) g d a N k)).map arr8=Q1 at *
   generalize (skP (nwS m (Pol.X%m) g d (k+1))).map arr8=X2 at *
   generalize (skP (nwS m (Pol.X%m) g d k)).map arr8=XD at *
   generalize (skP [Pol.X%m,g,d]).map arr8=TD at *
   generalize ((k+1:Nat):Int)=k1 at *
   generalize (a.len:Int)-1=n1 at *
   generalize pad (row a)=Pa at *
   generalize pad (row m)=Pm at *
   generalize pad (row g)=Pg at *
   generalize pad (row d)=Pd at *
   simp -implicitDefEqProofs [Z45_L1,dn_cond,hle,hlt,e1,e2,e3,w4]
def K_sAction (O:Oracle):Prop:=∀(p:Int) [IsP p] (m g d a:Fp p),Fld m→g.len<m.len→d.len<m.len→a.len≤64→a≠0→ask O F45 [drD p (pad (row m)) (pad (row g)) (pad (row d)),(D.arr 64 .leaf (ints .u8 (pad (row a))))]=some (aD (outS m (Pol.X%m) g d a (2*a.len-1) a.len))
theorem k_sAction (hT:T F45=some Z45) (hdg:K_sDeg (den T A)) (h1:K_sOne (den T A)) (had:K_sAdd (den T A)) (ht:K_sT6 (den T A)) (hco:K_sComp (den T A)):K_sAction (den T A):=by
 intro p ip m g d a hm hg hd ha ha0
 have h5:=hm.five
 have h0:=hm.mon.2
 have hap:=Pol.len_pos ha0
 have e1:=hdg p a ha
 have e2:=h1 p
 have hN:(2*a.len-1)+1=2*a.len:=by omega
 have e3:=l_sAct0f (O:=den T A) had (m:=m) (v1:=pad (row g)) (v2:=pad (row d)) (n5:=(a.len:Int)-1) ha (N:=2*a.len-1) (by omega) (by omega) (Q:=outS m (Pol.X%m) g d a (2*a.len-1) 0) (outS_length _ _ _ _ _ _ _) (fun c hc=>by have:=outS_lens hm (Pol.X%m) g d a (2*a.len-1) 0 c hc; omega)
 rw [show spIn (Pol.C (a.c 0)) 0 [1] (outS m (Pol.X%m) g d a (2*a.len-1) 0)=outS m (Pol.X%m) g d a (2*a.len-1) 1 from rfl,show outS m (Pol.X%m) g d a (2*a.len-1) 0=List.replicate (2*a.len-1) 0 from rfl,skA_zeros] at e3
 have hOL:((skP (outS m (Pol.X%m) g d a (2*a.len-1) a.len)).map arr8).length=2*a.len-1:=by rw [skA_len,outS_length]
 have w1:IntKind.i64.wrap (2*((a.len:Int)-1))=2*((a.len:Int)-1):=w64 (by omega)
 have w2:IntKind.i64.wrap (2*((a.len:Int)-1)+1)=((2*a.len-1:Nat):Int):=(w64 (by omega)).trans (by omega)
 have hmax:¬ ((2*a.len-1:Nat):Int)<0:=by omega
 have hmul:(2*a.len-1)*64≤1099511627776:=by omega
 have htk:((skP (outS m (Pol.X%m) g d a (2*a.len-1) a.len)).map arr8).take (2*a.len-1)=(skP (outS m (Pol.X%m) g d a (2*a.len-1) a.len)).map arr8:=List.take_of_length_le (by omega)
 have hle:(0:Int)≤(a.len:Int)-1:=by omega
 have w4:IntKind.i64.wrap 1=1:=w64 (by omega)
 by_cases h1':a.len=1
 ·have hnlt:¬ (0:Int)<(a.len:Int)-1:=by omega
  have hnle:¬ (1:Int)≤(a.len:Int)-1:=by omega
  have e4:∀QD:List D,dn (den T A) 0 (.loop Z45_L1) ⟨[(2,.ptr 0 []),(3,.ptr 1 []),(5,(.d (.int .i64 ((a.len:Int)-1)))),(6,.sl 2 [] 0 (2*a.len-1) (some (2*a.len-1))),(7,.sl 3 [] 0 1 (some 1)),(8,(.d (.int .i64 1)))],[.box false (drD p (pad (row m)) (pad (row g)) (pad (row d))),.box false (D.arr 64 .leaf (ints .u8 (pad (row a)))),.sl false (.arr 64 .leaf) QD,.sl false (.arr 64 .leaf) [(D.arr 64 .leaf (ints .u8 (pad (row (1:Fp p)))))]]⟩ =
   some (.exit 0,⟨[(2,.ptr 0 []),(3,.ptr 1 []),(5,(.d (.int .i64 ((a.len:Int)-1)))),(6,.sl 2 [] 0 (2*a.len-1) (some (2*a.len-1))),(7,.sl 3 [] 0 1 (some 1)),(8,(.d (.int .i64 1))),(21,(.d (.bool false)))],[.box false (drD p (pad (row m)) (pad (row g)) (pad (row d))),.box false (D.arr 64 .leaf (ints .u8 (pad (row a)))),.sl false (.arr 64 .leaf) QD,.sl false (.arr 64 .leaf) [(D.arr 64 .leaf (ints .u8 (pad (row (1:Fp p)))))]]⟩):=fun QD=>by
   refine dn_stop ?_
   generalize (a.len:Int)-1=n1 at *
   generalize pad (row a)=Pa at *
   generalize pad (row m)=Pm at *
   generalize pad (row (1:Fp p))=P1 at *
   simp -implicitDefEqProofs [Z45_L1,dn_cond,hnle]
  have e5:dn (den T A) 0 (.loop Z45_L1) ⟨[(2,.ptr 0 []),(3,.ptr 1 []),(5,(.d (.int .i64 ((a.len:Int)-1)))),(6,.sl 2 [] 0 (2*a.len-1) (some (2*a.len-1))),(7,.sl 3 [] 0 1 (some 1)),(8,(.d (.int .i64 0)))],[.box false (drD p (pad (row m)) (pad (row g)) (pad (row d))),.box false (D.arr 64 .leaf (ints .u8 (pad (row a)))),.sl false (.arr 64 .leaf) (List.replicate (2*a.len-1) (D.arr 64 .leaf (ints .u8 (pad [])))),.sl false (.arr 64 .leaf) [(D.arr 64 .leaf (ints .u8 (pad (row (1:Fp p)))))]]⟩ =
   some (.exit 0,⟨[(2,.ptr 0 []),(3,.ptr 1 []),(5,(.d (.int .i64 ((a.len:Int)-1)))),(6,.sl 2 [] 0 (2*a.len-1) (some (2*a.len-1))),(7,.sl 3 [] 0 1 (some 1)),(8,(.d (.int .i64 1))),(21,(.d (.bool false)))],[.box false (drD p (pad (row m)) (pad (row g)) (pad (row d))),.box false (D.arr 64 .leaf (ints .u8 (pad (row a)))),.sl false (.arr 64 .leaf) ((skP (outS m (Pol.X%m) g d a (2*a.len-1) 1)).map arr8),.sl false (.arr 64 .leaf) [(D.arr 64 .leaf (ints .u8 (pad (row (1:Fp p)))))]]⟩):=by
   refine dn_round ?_ (e4 _)
   generalize (skP (outS m (Pol.X%m) g d a (2*a.len-1) 1)).map arr8=Q1 at *
   generalize List.replicate (2*a.len-1) (D.arr 64 .leaf (ints .u8 (pad [])))=Q0 at *
   generalize 2*a.len-1=N at *
   generalize (a.len:Int)-1=n1 at *
   generalize pad (row a)=Pa at *
   generalize pad (row m)=Pm at *
   generalize pad (row (1:Fp p))=P1 at *
   simp -implicitDefEqProofs [Z45_L1,dn_cond,hnlt,hle,e3,w4]
  rw [show outS m (Pol.X%m) g d a (2*a.len-1) 1=outS m (Pol.X%m) g d a (2*a.len-1) a.len by rw [h1']] at e5
  unfold aD
  refine ask_of hT rfl ?_
  generalize (skP (outS m (Pol.X%m) g d a (2*a.len-1) a.len)).map arr8=Q1 at *
  generalize 2*a.len-1=N at *
  generalize (a.len:Int)-1=n1 at *
  generalize pad (row a)=Pa at *
  generalize pad (row m)=Pm at *
  generalize pad (row (1:Fp p))=P1 at *
  simp -implicitDefEqProofs [Z45,Z45_B,e1,e2,e5,w1,w2,hmax,hmul,hOL,htk]
 ·have hlt:(0:Int)<(a.len:Int)-1:=by omega
  obtain ⟨X',e4⟩:=l_sAct1 (O:=den T A) had ht hco hm hg hd ha hN (a.len-2) 1 (by omega)
  rw [show ((1:Nat):Int)=1 from rfl] at e4
  have f2:=ht p m g d h0 (by omega)
  have f3:=hco p m (pad (row g)) (pad (row d)) [Pol.X%m,g,d] [1] h0 (by omega) (fun c hc=>by have:=mem3 (Pol.len_mod Pol.X h0) hg hd c hc; omega) (fun c hc=>by rw [List.mem_singleton.1 hc,Pol.len_one]; omega) (by simp only [List.length_cons,List.length_nil]; omega)
  rw [show cmpS m [Pol.X%m,g,d] [1]=nwS m (Pol.X%m) g d 1 from rfl,show aD [(1:Fp p)]=.sl (.arr 64 .leaf) [(D.arr 64 .leaf (ints .u8 (pad (row (1:Fp p)))))] from rfl] at f3
  unfold aD at e4 f2 f3 ⊢
  have e5:dn (den T A) 0 (.loop Z45_L1) ⟨[(2,.ptr 0 []),(3,.ptr 1 []),(5,(.d (.int .i64 ((a.len:Int)-1)))),(6,.sl 2 [] 0 (2*a.len-1) (some (2*a.len-1))),(7,.sl 3 [] 0 1 (some 1)),(8,(.d (.int .i64 0)))],[.box false (drD p (pad (row m)) (pad (row g)) (pad (row d))),.box false (D.arr 64 .leaf (ints .u8 (pad (row a)))),.sl false (.arr 64 .leaf) (List.replicate (2*a.len-1) (D.arr 64 .leaf (ints .u8 (pad [])))),.sl false (.arr 64 .leaf) [(D.arr 64 .leaf (ints .u8 (pad (row (1:Fp p)))))]]⟩ =
   some (.exit 0,⟨[(2,.ptr 0 []),(3,.ptr 1 []),(5,(.d (.int .i64 ((a.len:Int)-1)))),(6,.sl 2 [] 0 (2*a.len-1) (some (2*a.len-1))),(7,X'),(8,(.d (.int .i64 a.len))),(21,(.d (.bool false)))],[.box false (drD p (pad (row m)) (pad (row g)) (pad (row d))),.box false (D.arr 64 .leaf (ints .u8 (pad (row a)))),.sl false (.arr 64 .leaf) ((skP (outS m (Pol.X%m) g d a (2*a.len-1) a.len)).map arr8),.hole]⟩):=by
   refine dn_round ?_ e4
   generalize (skP (outS m (Pol.X%m) g d a (2*a.len-1) a.len)).map arr8=Q2 at *
   generalize (skP (outS m (Pol.X%m) g d a (2*a.len-1) 1)).map arr8=Q1 at *
   generalize (skP (nwS m (Pol.X%m) g d 1)).map arr8=XD at *
   generalize (skP [Pol.X%m,g,d]).map arr8=TD at *
   generalize List.replicate (2*a.len-1) (D.arr 64 .leaf (ints .u8 (pad [])))=Q0 at *
   generalize 2*a.len-1=N at *
   generalize (a.len:Int)-1=n1 at *
   generalize pad (row a)=Pa at *
   generalize pad (row m)=Pm at *
   generalize pad (row g)=Pg at *
   generalize pad (row d)=Pd at *
   generalize pad (row (1:Fp p))=P1 at *
   simp -implicitDefEqProofs [Z45_L1,dn_cond,hlt,hle,e3,f2,f3,w4]
  refine ask_of hT rfl ?_
  generalize (skP (outS m (Pol.X%m) g d a (2*a.len-1) a.len)).map arr8=Q1 at *
  generalize 2*a.len-1=N at *
  generalize (a.len:Int)-1=n1 at *
  generalize pad (row a)=Pa at *
  generalize pad (row m)=Pm at *
  generalize pad (row g)=Pg at *
  generalize pad (row d)=Pd at *
  generalize pad (row (1:Fp p))=P1 at *
  simp -implicitDefEqProofs [Z45,Z45_B,e1,e2,e5,w1,w2,hmax,hmul,hOL,htk]
end Pe



namespace Pe
open Go Gq
variable {T:Nat→Option Fn} {A:Oracle}
section
variable {p:Int}
theorem frA_len [IsP p] {m g d:Fp p} (hm:Fld m):(frA m g d).len<m.len:=by
 have h1:=Pol.len_pos hm.mon.2
 have:=mem_cS (A:=actN m (Pol.X%m) g d (frB m d) (frB m d).len (frB m d).len) (N:=m.len-1) (fun c hc=>by have:=actN_lens hm _ _ _ _ _ _ c hc; omega) (m.len-1)
 unfold frA
 omega
end
open Classical in
theorem codeDr_nil {n:Int} {u v w:List Int}:codeDr n u v w []=if IsDr n u v w then 0 else 1:=by
 unfold codeDr
 by_cases h:IsDr n u v w
 ·rw [if_pos h,if_pos ⟨h,rfl⟩]
 ·rw [if_neg h,if_neg fun g=>h g.1]
open Classical in
noncomputable def frD (n:Int) (u v w:List Int):D:=
 if h:IsDr n u v w then
  haveI:IsP n:=h.choose
  .tup [(D.arr 64 .leaf (ints .u8 (pad (row (frA (polOf n u) (polOf n v) (polOf n w)))))),(D.arr 64 .leaf (ints .u8 (pad (row (frB (polOf n u) (polOf n w)))))),(D.int .i64 0)]
 else .tup [(D.arr 64 .leaf (ints .u8 (pad []))),(D.arr 64 .leaf (ints .u8 (pad []))),(D.int .i64 1)]
theorem frD_bad {n:Int} {u v w:List Int} (h:¬ IsDr n u v w):frD n u v w=.tup [(D.arr 64 .leaf (ints .u8 (pad []))),(D.arr 64 .leaf (ints .u8 (pad []))),(D.int .i64 1)]:=by unfold frD; rw [dif_neg h]
theorem frD_good {p:Int} [IsP p] {m g d:Fp p} (h:IsDr p (pad (row m)) (pad (row g)) (pad (row d))) (hm:m.len≤64) (hg:g.len≤64) (hd:d.len≤64):frD p (pad (row m)) (pad (row g)) (pad (row d))=.tup [(D.arr 64 .leaf (ints .u8 (pad (row (frA m g d))))),(D.arr 64 .leaf (ints .u8 (pad (row (frB m d))))),(D.int .i64 0)]:=by
 unfold frD
 rw [dif_pos h,polOf_pad hm,polOf_pad hg,polOf_pad hd]
def K_FrobOf (O:Oracle) (F:Nat):Prop:=∀(n:Int) (u v w:List Int),Bytes u→u.length=64→Bytes v→v.length=64→Bytes w→w.length=64→ask O F [drD n u v w]=some (frD n u v w)
open Classical in
theorem k_FrobOf (hT:T Fc=some Zc) (hcd:C_drCode (den T A) Fr) (hfr:K_drFrob (den T A)) (hpo:K_poly (den T A)):K_FrobOf (den T A) Fc:=by
 intro n u v w bu gu bv gv bw gw
 have e1:=hcd n u v w [] bu gu bv gv bw gw (by intro y hy; cases hy) (by simp)
 rw [List.map_nil,codeDr_nil] at e1
 by_cases h:IsDr n u v w
 ·rw [if_pos h] at e1
  have h':=h
  obtain ⟨ip,m,g,d,rfl,rfl,rfl,hm,hg,hd,hd0⟩:=h
  have h5:=hm.five
  rw [frD_good h' (by omega) (by omega) (by omega)]
  have e2:=hfr n m g d hm hg hd
  have hal:=frA_len (g:=g) (d:=d) hm
  have hbl:=frB_len (m:=m) (d:=d)
  have e3:=hpo n (frA m g d) (by omega)
  have e4:=hpo n (frB m d) (by omega)
  refine ask_of hT rfl ?_
  generalize pad (row (frA m g d))=R1 at *
  generalize pad (row (frB m d))=R2 at *
  generalize row (frA m g d)=R3 at *
  generalize row (frB m d)=R4 at *
  generalize pad (row m)=Pm at *
  generalize pad (row g)=Pg at *
  generalize pad (row d)=Pd at *
  simp -implicitDefEqProofs [Zc,Zc_B,dn_cond,e1,e2,e3,e4,List.replicate]
 ·rw [if_neg h] at e1
  rw [frD_bad h]
  refine ask_of hT rfl ?_
  simp -implicitDefEqProofs [Zc,Zc_B,dn_cond,e1,List.replicate]
end Pe


namespace Pe
open Go Gq
variable {T:Nat→Option Fn} {A:Oracle}
theorem actN_full {p:Int} [IsP p] {m t0 t1 t2 a:Fp p} (hm:Fld m) (hb:∀c∈[t0,t1,t2],c.len<m.len) (ht:t2≠0) (ha:a≠0):∀j,j+1≤a.len→IsTrim (actN m t0 t1 t2 a a.len (j+1))∧(actN m t0 t1 t2 a a.len (j+1)).length=2*j+1
 | 0,_=>by
  have e:prodS m ([]:List (Fp p)) [t0,t1,t2]=[]:=by unfold prodS; exact if_pos (.inl rfl)
  refine ⟨isTrim_plus _ _ _,?_⟩
  show (plusS 1 (prodS m [] [t0,t1,t2]) (termS (Pol.C (a.c (a.len-1-0))) 0)).length=_
  rw [e]
  have hl:Pol.C (a.c (a.len-1-0))≠0:=fun h=>by
   have h1:=Pol.len_C (Pol.ld_ne ha)
   have:Pol.C a.ld=0:=h
   rw [this,Pol.len_zero] at h1
   cases h1
  have:=plus_len_right (k:=1) (X:=([]:List (Fp p))) (isTrim_term hl 0) (fun y=>c_one) (by rw [termS_length,List.length_nil]; omega)
  rw [this,termS_length]
 | j+1,hj=>by
  obtain ⟨i1,i2⟩:=actN_full hm hb ht ha j (by omega)
  have htt:IsTrim [t0,t1,t2]:=fun n hn=>by
   have:n=2:=by simp at hn; omega
   subst this
   exact ht
  have hp:=prodS_len hm i1 htt (actN_lens hm t0 t1 t2 a a.len (j+1)) hb (by omega) (by simp)
  rw [i2] at hp
  simp only [List.length_cons,List.length_nil] at hp
  refine ⟨isTrim_plus _ _ _,?_⟩
  show (plusS 1 (prodS m (actN m t0 t1 t2 a a.len (j+1)) [t0,t1,t2]) (termS (Pol.C (a.c (a.len-1-(j+1)))) 0)).length=_
  rw [plus_len_left (isTrim_prod _ _ _) (by rw [termS_length]; omega)]
  omega
theorem act_eq {p:Int} [IsP p] {m t0 t1 t2 a:Fp p} (hm:Fld m) (hb:∀c∈[t0,t1,t2],c.len<m.len) (ht:t2≠0) (ha:a≠0):outS m t0 t1 t2 a (2*a.len-1) a.len=actN m t0 t1 t2 a a.len a.len:=by
 have hap:=Pol.len_pos ha
 obtain ⟨_,h2⟩:=actN_full hm hb ht ha (a.len-1) (by omega)
 rw [show a.len-1+1=a.len by omega] at h2
 refine List.ext_getElem (by rw [outS_length,h2]; omega) fun i h3 h4=>?_
 rw [cS_lt h3,cS_lt h4,act_out hm hb a (N:=2*a.len-1) (by omega)]
def K_sAction0 (O:Oracle):Prop:=∀(p:Int) [IsP p] (m g d:Fp p),ask O F45 [drD p (pad (row m)) (pad (row g)) (pad (row d)),(D.arr 64 .leaf (ints .u8 (pad (row (0:Fp p)))))]=some (.sl (.arr 64 .leaf) [])
theorem k_sAction0 (hT:T F45=some Z45) (hdg:K_sDeg (den T A)) (h1:K_sOne (den T A)):K_sAction0 (den T A):=by
 intro p ip m g d
 have e1:=hdg p 0 (by rw [Pol.len_zero]; omega)
 rw [Pol.len_zero] at e1
 have e2:=h1 p
 have e3:∀(Q P1:D) (Pm Pg Pd Pa:List Int),dn (den T A) 0 (.loop Z45_L1) ⟨[(2,.ptr 0 []),(3,.ptr 1 []),(5,(.d (.int .i64 (-1)))),(6,.sl 2 [] 0 0 (some 0)),(7,.sl 3 [] 0 1 (some 1)),(8,(.d (.int .i64 0)))],[.box false (drD p Pm Pg Pd),.box false (D.arr 64 .leaf (ints .u8 Pa)),.sl false (.arr 64 .leaf) [],.sl false (.arr 64 .leaf) [P1]]⟩ =
  some (.exit 0,⟨[(2,.ptr 0 []),(3,.ptr 1 []),(5,(.d (.int .i64 (-1)))),(6,.sl 2 [] 0 0 (some 0)),(7,.sl 3 [] 0 1 (some 1)),(8,(.d (.int .i64 0))),(21,(.d (.bool false)))],[.box false (drD p Pm Pg Pd),.box false (D.arr 64 .leaf (ints .u8 Pa)),.sl false (.arr 64 .leaf) [],.sl false (.arr 64 .leaf) [P1]]⟩):=by
  intro Q P1 Pm Pg Pd Pa
  refine dn_stop ?_
  simp -implicitDefEqProofs [Z45_L1,dn_cond]
 have w1:IntKind.i64.wrap (-2)=-2:=w64 (by omega)
 have w2:IntKind.i64.wrap (-1)=-1:=w64 (by omega)
 refine ask_of hT rfl ?_
 generalize pad (row (0:Fp p))=Pa at *
 generalize pad (row (1:Fp p))=P1 at *
 generalize pad (row m)=Pm at *
 generalize pad (row g)=Pg at *
 generalize pad (row d)=Pd at *
 simp -implicitDefEqProofs [Z45,Z45_B,e1,e2,e3 (.int .i64 0),w1,w2,List.replicate]
open Classical in
noncomputable def daL (n:Int) (u v w a:List Int):List (List Int):=
 if h:IsDr n u v w∧isPl n a=true then
  haveI:IsP n:=h.1.choose
  if (polOf n a).len≤6 then skP (actN (polOf n u) (Pol.X%polOf n u) (polOf n v) (polOf n w) (polOf n a) (polOf n a).len (polOf n a).len) else []
 else []
open Classical in
noncomputable def daC (n:Int) (u v w a:List Int):Int:=
 if h:IsDr n u v w∧isPl n a=true then
  haveI:IsP n:=h.1.choose
  if (polOf n a).len≤6 then 0 else 2
 else 1
theorem daL_bad {n:Int} {u v w a:List Int} (h:¬ (IsDr n u v w∧isPl n a=true)):daL n u v w a=[]∧daC n u v w a=1:=by
 unfold daL daC
 exact ⟨dif_neg h,dif_neg h⟩
theorem daL_good {p:Int} [IsP p] {m g d a:Fp p} (h:IsDr p (pad (row m)) (pad (row g)) (pad (row d))) (hm:m.len≤64) (hg:g.len≤64) (hd:d.len≤64) (ha:a.len≤64) :
 daL p (pad (row m)) (pad (row g)) (pad (row d)) (pad (row a))=(if a.len≤6 then skP (actN m (Pol.X%m) g d a a.len a.len) else [])∧daC p (pad (row m)) (pad (row g)) (pad (row d)) (pad (row a))=(if a.len≤6 then 0 else 2):=by
 unfold daL daC
 rw [dif_pos ⟨h,isPl_row⟩,dif_pos ⟨h,isPl_row⟩,polOf_pad hm,polOf_pad hg,polOf_pad hd,polOf_pad ha]
 exact ⟨rfl,rfl⟩
theorem daL_ok (n:Int) (u v w:List Int) {a:List Int} (ba:Bytes a) (ga:a.length=64):(∀x∈daL n u v w a,x.length=64)∧(daL n u v w a).length≤20:=by
 by_cases h:IsDr n u v w∧isPl n a=true
 ·obtain ⟨h1,h2⟩:=h
  have h1':=h1
  obtain ⟨ip,m,g,d,rfl,rfl,rfl,hm,hg,hd,hd0⟩:=h1
  obtain ⟨b,hbl,rfl⟩:=row_of_isPl ba ga h2
  have h5:=hm.five
  rw [(daL_good h1' (by omega) (by omega) (by omega) hbl).1]
  split
  ·refine ⟨fun x hx=>by obtain ⟨c,_,rfl⟩:=List.mem_map.1 hx; exact pad_length _,?_⟩
   have:=actN_len m (Pol.X%m) g d b b.len b.len
   unfold skP
   rw [List.length_map]; omega
  ·exact ⟨fun x hx=>absurd hx List.not_mem_nil,by simp⟩
 ·rw [(daL_bad h).1]; exact ⟨fun x hx=>absurd hx List.not_mem_nil,by simp⟩
theorem codeDr_one1 {n:Int} {u v w a:List Int} (h:¬ (IsDr n u v w∧isPl n a=true)):codeDr n u v w [a]=1:=by
 unfold codeDr
 rw [if_neg]
 rintro ⟨h1,h2⟩
 simp at h2
 exact h ⟨h1,h2⟩
theorem codeDr_zero1 {n:Int} {u v w a:List Int} (h1:IsDr n u v w) (h2:isPl n a=true):codeDr n u v w [a]=0:=by
 unfold codeDr
 rw [if_pos ⟨h1,by simp [h2]⟩]
def K_DrAct (O:Oracle) (F:Nat):Prop:=∀(n:Int) (u v w a:List Int),Bytes u→u.length=64→Bytes v→v.length=64→Bytes w→w.length=64→Bytes a→a.length=64→ask O F [drD n u v w,(D.arr 64 .leaf (ints .u8 a))]=some (.tup [.sl (.arr 64 .leaf) ((daL n u v w a).map arr8),(D.int .i64 (daC n u v w a))])
theorem k_DrAct (hT:T F5=some Z5) (hcd:C_drCode (den T A) Fr) (hro:K_rowOf (den T A)) (hdg:C_degree (den T A)) (hac:K_action (den T A)) (hpo:K_polys (den T A)):K_DrAct (den T A) F5:=by
 intro n u v w a bu gu bv gv bw gw ba ga
 have e1:=hcd n u v w [a] bu gu bv gv bw gw (by intro y hy; simp at hy; subst hy; exact ⟨ga,ba⟩) (by simp)
 rw [show List.map arr8 [a]=[(D.arr 64 .leaf (ints .u8 a))] from rfl] at e1
 by_cases h:IsDr n u v w∧isPl n a=true
 ·obtain ⟨h1,h2⟩:=h
  rw [codeDr_zero1 h1 h2] at e1
  have h1':=h1
  obtain ⟨ip,m,g,d,rfl,rfl,rfl,hm,hg,hd,hd0⟩:=h1
  obtain ⟨b,hbl,rfl⟩:=row_of_isPl ba ga h2
  have h5:=hm.five
  obtain ⟨q1,q2⟩:=daL_good h1' (by omega) (by omega) (by omega) hbl
  rw [q1,q2]
  have e2:=hro n b hbl
  have e3:=hdg (row b) (by rw [row_length]; omega)
  rw [row_length] at e3
  by_cases h6:b.len≤6
  ·rw [if_pos h6,if_pos h6]
   have hle:¬ 5<(b.len:Int)-1:=by omega
   have e4:=hac n m g d b hm hg hd hbl
   have hl:=actN_len m (Pol.X%m) g d b b.len b.len
   have e5:=hpo n (actN m (Pol.X%m) g d b b.len b.len) (by omega) (fun x hx=>by have:=actN_lens hm _ _ _ _ _ _ x hx; omega)
   rw [map_padD]
   rw [show skD (actN m (Pol.X%m) g d b b.len b.len)=.sl .leaf ((actN m (Pol.X%m) g d b b.len b.len).map rowD) from rfl] at e4
   refine ask_of hT rfl ?_
   generalize (actN m (Pol.X%m) g d b b.len b.len).map padD=D1 at *
   generalize (actN m (Pol.X%m) g d b b.len b.len).map rowD=D2 at *
   generalize (b.len:Int)-1=k1 at *
   generalize row b=Rb at *
   generalize pad (row b)=Pb at *
   generalize pad (row m)=Pm at *
   generalize pad (row g)=Pg at *
   generalize pad (row d)=Pd at *
   simp -implicitDefEqProofs [Z5,Z5_B,dn_cond,e1,e2,e3,hle,e4,e5]
  ·rw [if_neg h6,if_neg h6]
   have hle:5<(b.len:Int)-1:=by omega
   refine ask_of hT rfl ?_
   generalize (b.len:Int)-1=k1 at *
   generalize row b=Rb at *
   generalize pad (row b)=Pb at *
   generalize pad (row m)=Pm at *
   generalize pad (row g)=Pg at *
   generalize pad (row d)=Pd at *
   simp -implicitDefEqProofs [Z5,Z5_B,dn_cond,e1,e2,e3,hle]
 ·rw [codeDr_one1 h] at e1
  obtain ⟨q1,q2⟩:=daL_bad h
  rw [q1,q2]
  refine ask_of hT rfl ?_
  simp -implicitDefEqProofs [Z5,Z5_B,dn_cond,e1]
theorem k_sDrAct (hT:T F36=some Z36) (hcd:C_drCode (den T A) F48) (hdg:K_sDeg (den T A)) (hac:K_sAction (den T A)) (hac0:K_sAction0 (den T A)):K_DrAct (den T A) F36:=by
 intro n u v w a bu gu bv gv bw gw ba ga
 have e1:=hcd n u v w [a] bu gu bv gv bw gw (by intro y hy; simp at hy; subst hy; exact ⟨ga,ba⟩) (by simp)
 rw [show List.map arr8 [a]=[(D.arr 64 .leaf (ints .u8 a))] from rfl] at e1
 by_cases h:IsDr n u v w∧isPl n a=true
 ·obtain ⟨h1,h2⟩:=h
  rw [codeDr_zero1 h1 h2] at e1
  have h1':=h1
  obtain ⟨ip,m,g,d,rfl,rfl,rfl,hm,hg,hd,hd0⟩:=h1
  obtain ⟨b,hbl,rfl⟩:=row_of_isPl ba ga h2
  have h5:=hm.five
  have h0:=hm.mon.2
  obtain ⟨q1,q2⟩:=daL_good h1' (by omega) (by omega) (by omega) hbl
  rw [q1,q2]
  have e2:=hdg n b hbl
  by_cases h6:b.len≤6
  ·rw [if_pos h6,if_pos h6]
   have hle:¬ 5<(b.len:Int)-1:=by omega
   have e3:ask (den T A) F45 [drD n (pad (row m)) (pad (row g)) (pad (row d)),(D.arr 64 .leaf (ints .u8 (pad (row b))))]=some (.sl (.arr 64 .leaf) ((skP (actN m (Pol.X%m) g d b b.len b.len)).map arr8)):=by
    by_cases hb0:b=0
    ·rw [hb0,hac0 n m g d,Pol.len_zero]; rfl
    ·rw [hac n m g d b hm hg hd hbl hb0,act_eq hm (mem3 (Pol.len_mod _ h0) hg hd) hd0 hb0]
   refine ask_of hT rfl ?_
   generalize (skP (actN m (Pol.X%m) g d b b.len b.len)).map arr8=D1 at *
   generalize (b.len:Int)-1=k1 at *
   generalize pad (row b)=Pb at *
   generalize pad (row m)=Pm at *
   generalize pad (row g)=Pg at *
   generalize pad (row d)=Pd at *
   simp -implicitDefEqProofs [Z36,Z36_B,dn_cond,e1,e2,hle,e3]
  ·rw [if_neg h6,if_neg h6]
   have hle:5<(b.len:Int)-1:=by omega
   refine ask_of hT rfl ?_
   generalize (b.len:Int)-1=k1 at *
   generalize pad (row b)=Pb at *
   generalize pad (row m)=Pm at *
   generalize pad (row g)=Pg at *
   generalize pad (row d)=Pd at *
   simp -implicitDefEqProofs [Z36,Z36_B,dn_cond,e1,e2,hle]
 ·rw [codeDr_one1 h] at e1
  obtain ⟨q1,q2⟩:=daL_bad h
  rw [q1,q2]
  refine ask_of hT rfl ?_
  simp -implicitDefEqProofs [Z36,Z36_B,dn_cond,e1]
end Pe

namespace Pe
open Go Gq
section
variable {p:Int}
noncomputable def sumq {m:Fp p} (f:Nat→Quo m):Nat→Quo m
 | 0=>0
 | n+1=>sumq f n+f n
theorem sumq_congr {m:Fp p} {f g:Nat→Quo m}:∀n,(∀i,i<n→f i=g i)→sumq f n=sumq g n
 | 0,_=>rfl
 | n+1,h=>by
  show sumq f n+f n=sumq g n+g n
  rw [sumq_congr n fun i hi=>h i (by omega),h n (by omega)]
theorem sumq_front {m:Fp p} (f:Nat→Quo m):∀n,sumq f (n+1)=f 0+sumq (fun i=>f (i+1)) n
 | 0=>by
  show 0+f 0=f 0+0
  rw [Gq.zero_add,Gq.add_zero]
 | n+1=>by
  show sumq f (n+1)+f (n+1)=f 0+(sumq (fun i=>f (i+1)) n+f (n+1))
  rw [sumq_front f n,Gq.add_assoc]
theorem sumq_rev {m:Fp p} (f:Nat→Quo m):∀n,sumq (fun i=>f (n-1-i)) n=sumq f n
 | 0=>rfl
 | n+1=>by
  rw [sumq_front]
  show f (n+1-1-0)+sumq (fun i=>f (n+1-1-(i+1))) n=sumq f n+f n
  rw [sumq_congr (g:=fun i=>f (n-1-i)) n (fun i hi=>by show f _=f _; congr 1; omega),sumq_rev f n,Gq.add_comm,show n+1-1-0=n by omega]
theorem sumq_zero {m:Fp p} {f:Nat→Quo m}:∀n,(∀i,i<n→f i=0)→sumq f n=0
 | 0,_=>rfl
 | n+1,h=>by
  show sumq f n+f n=0
  rw [sumq_zero n fun i hi=>h i (by omega),h n (by omega),Gq.add_zero]
theorem sumq_cut {m:Fp p} {f:Nat→Quo m} {N:Nat}:∀k,(∀i,N≤i→f i=0)→sumq f (N+k)=sumq f N
 | 0,_=>rfl
 | k+1,h=>by
  show sumq f (N+k)+f (N+k)=_
  rw [sumq_cut k h,h _ (by omega),Gq.add_zero]
noncomputable def cv {m:Fp p} (X Y:Nat→Quo m) (n:Nat):Quo m:=sumq (fun i=>X i*sg i (Y (n-i))) (n+1)
theorem sumq_list {m:Fp p} {f:Nat→Quo m} {L n:Nat} (h:∀i,L≤i→f i=0):sumq (fun i=>if i≤n then f i else 0) L=sumq f (n+1):=by
 have e1:sumq (fun i=>if i≤n then f i else 0) (n+1)=sumq f (n+1):=sumq_congr _ fun i hi=>by rw [if_pos (by omega)]
 rw [←e1]
 rcases Nat.le_total L (n+1) with hl | hl
 ·obtain ⟨k,hk⟩:∃k,n+1=L+k:=⟨n+1-L,by omega⟩
  rw [hk]
  refine (sumq_cut k fun i hi=>?_).symm
  rw [h i hi,ite_self]
 ·obtain ⟨k,rfl⟩:∃k,L=n+1+k:=⟨L-(n+1),by omega⟩
  exact sumq_cut k fun i hi=>if_neg (by omega)
theorem byOut_cv [IsP p] {m:Fp p} (hm:Fld m) {b:List (Fp p)} (hb:∀c∈b,c.len<m.len) {n:Nat}:∀(A:List (Fp p)) (i:Nat) (Q:List (Fp p)),i+A.length+b.length≤Q.length+1→qcf m (byOut m b i A Q) n=qcf m Q n+sumq (fun j=>if i+j≤n then qcf m A j*sg (i+j) (qcf m b (n-(i+j))) else 0) A.length
 | [],i,Q,_=>by
  show qcf m Q n=qcf m Q n+0
  rw [Gq.add_zero]
 | x::xs,i,Q,h=>by
  rw [List.length_cons] at h
  show qcf m (byOut m b (i+1) xs (byIn m x i 0 b Q)) n=_
  rw [byOut_cv hm hb xs (i+1) _ (by rw [byIn_length]; omega),byIn_q hm hb (by omega),List.length_cons,sumq_front,Gq.add_assoc]
  have e:sumq (fun j=>if i+1+j≤n then qcf m xs j*sg (i+1+j) (qcf m b (n-(i+1+j))) else 0) xs.length=sumq (fun j=>if i+(j+1)≤n then qcf m (x::xs) (j+1)*sg (i+(j+1)) (qcf m b (n-(i+(j+1)))) else 0) xs.length:=sumq_congr _ fun j _=>by
   show (if i+1+j≤n then qcf m xs j*sg (i+1+j) (qcf m b (n-(i+1+j))) else 0)=if i+(j+1)≤n then qcf m xs j*sg (i+(j+1)) (qcf m b (n-(i+(j+1)))) else 0
   rw [show i+1+j=i+(j+1) by omega]
  rw [e]
  rfl
theorem prod_cv [IsP p] {m:Fp p} (hm:Fld m) {b:List (Fp p)} (hb:∀c∈b,c.len<m.len) (A:List (Fp p)) (n:Nat):qcf m (prodS m A b) n=cv (qcf m A) (qcf m b) n:=by
 unfold prodS
 split
 ·rename_i h0
  show (0:Quo m)=_
  refine (sumq_zero _ fun i _=>?_).symm
  rcases h0 with h0 | h0
  ·rw [qcf_ge (by omega),Gq.zero_mul]
  ·rw [qcf_ge (A:=b) (by omega),sg_zero,Gq.mul_zero]
 ·rename_i h0
  have e:qcf m (trimS (mulS m A b)) n=qcf m (mulS m A b) n:=by unfold qcf; rw [cS_trim]
  rw [e]
  unfold mulS
  rw [byOut_cv hm hb A 0 _ (by rw [List.length_replicate]; omega),qcf_zeros,Gq.zero_add]
  have e2:sumq (fun j=>if 0+j≤n then qcf m A j*sg (0+j) (qcf m b (n-(0+j))) else 0) A.length=sumq (fun j=>if j≤n then qcf m A j*sg j (qcf m b (n-j)) else 0) A.length:=sumq_congr _ fun j _=>by rw [Nat.zero_add]
  rw [e2]
  exact sumq_list fun i hi=>by rw [qcf_ge hi,Gq.zero_mul]
theorem cmpIn_cv [IsP p] {m:Fp p} {k n:Nat}:∀(us:List (Fp p)) (i:Nat) (w:Fp p) (Q:List (Fp p)),i+us.length+k≤Q.length→qcf m (cmpIn m k i us w Q) n=qcf m Q n+(if i+k≤n then qcf m us (n-(i+k))*sg (n-(i+k)) (Quo.mk m w) else 0)
 | [],i,w,Q,_=>by
  show qcf m Q n=_
  rw [qcf_nil,Gq.zero_mul,ite_self,Gq.add_zero]
 | u::us,i,w,Q,h=>by
  rw [List.length_cons] at h
  have e1:Quo.mk m (pw w p.toNat%m)=pw (Quo.mk m w) p.toNat:=by rw [Pol.mk_mod,Quo.mk_pow]
  show qcf m (cmpIn m k (i+1) us (pw w p.toNat%m) (addAt Q (i+k) (u*w%m))) n=_
  rw [cmpIn_cv us (i+1) _ _ (by rw [addAt_length]; omega),qcf_set (by omega),e1,Pol.mk_mod,Quo.mk_mul]
  rcases Nat.lt_trichotomy n (i+k) with h1 | h1 | h1
  ·rw [if_neg (by omega),if_neg (by omega),if_neg (by omega)]
   simp only [Gq.add_zero]
  ·subst h1
   rw [if_pos rfl,if_neg (by omega),if_pos (by omega),Nat.sub_self,Gq.add_zero]
   rfl
  ·rw [if_neg (by omega),if_pos (by omega),if_pos (by omega),show n-(i+k)=(n-(i+1+k))+1 by omega,Gq.add_zero]
   rfl
theorem cmpOut_cv [IsP p] {m:Fp p} {us:List (Fp p)} {n:Nat}:∀(vs:List (Fp p)) (k:Nat) (Q:List (Fp p)),us.length+k+vs.length≤Q.length+1→qcf m (cmpOut m us k vs Q) n=qcf m Q n+sumq (fun j=>if k+j≤n then qcf m us (n-(k+j))*sg (n-(k+j)) (qcf m vs j) else 0) vs.length
 | [],k,Q,_=>by
  show qcf m Q n=qcf m Q n+0
  rw [Gq.add_zero]
 | v::vs,k,Q,h=>by
  rw [List.length_cons] at h
  show qcf m (cmpOut m us (k+1) vs (cmpIn m k 0 us v Q)) n=_
  rw [cmpOut_cv vs (k+1) _ (by rw [cmpIn_length]; omega),cmpIn_cv us 0 _ _ (by omega),List.length_cons,sumq_front,Gq.add_assoc]
  have e:sumq (fun j=>if k+1+j≤n then qcf m us (n-(k+1+j))*sg (n-(k+1+j)) (qcf m vs j) else 0) vs.length=sumq (fun j=>if k+(j+1)≤n then qcf m us (n-(k+(j+1)))*sg (n-(k+(j+1))) (qcf m (v::vs) (j+1)) else 0) vs.length:=sumq_congr _ fun j _=>by
   show (if k+1+j≤n then qcf m us (n-(k+1+j))*sg (n-(k+1+j)) (qcf m vs j) else 0)=if k+(j+1)≤n then qcf m us (n-(k+(j+1)))*sg (n-(k+(j+1))) (qcf m vs j) else 0
   rw [show k+1+j=k+(j+1) by omega]
  rw [e,Nat.zero_add]
  rfl
theorem cmp_cv [IsP p] {m:Fp p} (us vs:List (Fp p)) (n:Nat):qcf m (cmpS m us vs) n=cv (qcf m us) (qcf m vs) n:=by
 have e:qcf m (cmpS m us vs) n=qcf m (cmpOut m us 0 vs (List.replicate (us.length+vs.length) 0)) n:=by unfold qcf cmpS; rw [cS_trim]
 rw [e,cmpOut_cv vs 0 _ (by rw [List.length_replicate]; omega),qcf_zeros,Gq.zero_add]
 have e2:sumq (fun j=>if 0+j≤n then qcf m us (n-(0+j))*sg (n-(0+j)) (qcf m vs j) else 0) vs.length=sumq (fun j=>if j≤n then qcf m us (n-j)*sg (n-j) (qcf m vs j) else 0) vs.length:=sumq_congr _ fun j _=>by rw [Nat.zero_add]
 rw [e2,sumq_list fun i hi=>by rw [qcf_ge hi,sg_zero,Gq.mul_zero]]
 unfold cv
 rw [←sumq_rev (fun i=>qcf m us i*sg i (qcf m vs (n-i))) (n+1)]
 exact sumq_congr _ fun i hi=>by
  show _=qcf m us (n+1-1-i)*sg (n+1-1-i) (qcf m vs (n-(n+1-1-i)))
  rw [show n+1-1-i=n-i by omega,show n-(n-i)=i by omega]
theorem prod_cmp [IsP p] {m:Fp p} (hm:Fld m) {A B A' B':List (Fp p)} (hb:∀c∈B,c.len<m.len) (hA:∀i,cS A i=cS A' i) (hB:∀i,cS B i=cS B' i):prodS m A B=cmpS m A' B':=by
 have h1:=Pol.len_pos hm.mon.2
 refine trim_ext (isTrim_prod _ _ _) (isTrim_trim _) fun i=>qcf_eq hm.mon.2 ?_ ?_ ?_
 ·have:=mem_cS (N:=m.len-1) (fun c hc=>prodS_lens' (a:=A) (b:=B) hm.mon.2 (by omega) c hc) i
  omega
 ·have:=mem_cS (N:=m.len-1) (fun c hc=>by have:=cmp_lens hm.mon.2 A' B' c hc; omega) i
  exact Nat.lt_of_le_of_lt this (by omega)
 ·rw [prod_cv hm hb]
  show _=qcf m (cmpS m A' B') i
  rw [cmp_cv,show qcf m A=qcf m A' from funext fun j=>by unfold qcf; rw [hA],show qcf m B=qcf m B' from funext fun j=>by unfold qcf; rw [hB]]
end
end Pe


namespace Pe
open Go Gq
variable {T:Nat→Option Fn} {A:Oracle}
open Classical in
noncomputable def codePr (n:Int) (u v w:List Int) (n':Int) (u' v' w':List Int):Int:=if IsDr n u v w∧IsDr n' u' v' w' then (if n=n'∧u=u' then 0 else 2) else 1
def C_pair (O:Oracle) (F:Nat):Prop:=∀(n:Int) (u v w:List Int) (n':Int) (u' v' w':List Int),Bytes u→u.length=64→Bytes v→v.length=64→Bytes w→w.length=64→Bytes u'→u'.length=64→Bytes v'→v'.length=64→Bytes w'→w'.length=64→ask O F [drD n u v w,drD n' u' v' w']=some (D.int .i64 (codePr n u v w n' u' v' w'))
open Classical in
theorem c_pair (hT:T F17=some Z17) (hd:C_IsDr (den T A) Ff):C_pair (den T A) F17:=by
 intro n u v w n' u' v' w' bu gu bv gv bw gw bu' gu' bv' gv' bw' gw'
 have e1:=hd n u v w bu gu bv gv bw gw
 have e2:=hd n' u' v' w' bu' gu' bv' gv' bw' gw'
 have e3:=beq_P gu gu'
 unfold codePr
 refine ask_of hT rfl ?_
 by_cases h1:IsDr n u v w
 ·rw [decide_eq_true h1] at e1
  by_cases h2:IsDr n' u' v' w'
  ·rw [decide_eq_true h2] at e2
   rw [if_pos ⟨h1,h2⟩]
   by_cases h3:n=n'
   ·subst h3
    by_cases h4:u=u'
    ·rw [decide_eq_true h4] at e3
     rw [if_pos ⟨rfl,h4⟩]
     simp -implicitDefEqProofs [Z17,Z17_B,dn_cond,e1,e2,e3]
    ·rw [decide_eq_false h4] at e3
     rw [if_neg fun h=>h4 h.2]
     simp -implicitDefEqProofs [Z17,Z17_B,dn_cond,e1,e2,e3]
   ·rw [if_neg fun h=>h3 h.1]
    simp -implicitDefEqProofs [Z17,Z17_B,dn_cond,e1,e2,h3]
  ·rw [decide_eq_false h2] at e2
   rw [if_neg fun h=>h2 h.2]
   simp -implicitDefEqProofs [Z17,Z17_B,dn_cond,e1,e2]
 ·rw [decide_eq_false h1] at e1
  rw [if_neg fun h=>h1 h.1]
  simp -implicitDefEqProofs [Z17,Z17_B,dn_cond,e1]
open Classical in
theorem c_sPair (hT:T F47=some Z47) (hd:C_IsDr (den T A) F4c):C_pair (den T A) F47:=by
 intro n u v w n' u' v' w' bu gu bv gv bw gw bu' gu' bv' gv' bw' gw'
 have e1:=hd n u v w bu gu bv gv bw gw
 have e2:=hd n' u' v' w' bu' gu' bv' gv' bw' gw'
 have e3:=beq_P gu gu'
 unfold codePr
 refine ask_of hT rfl ?_
 by_cases h1:IsDr n u v w
 ·rw [decide_eq_true h1] at e1
  by_cases h2:IsDr n' u' v' w'
  ·rw [decide_eq_true h2] at e2
   rw [if_pos ⟨h1,h2⟩]
   by_cases h3:n=n'
   ·subst h3
    by_cases h4:u=u'
    ·rw [decide_eq_true h4] at e3
     rw [if_pos ⟨rfl,h4⟩]
     simp -implicitDefEqProofs [Z47,Z47_B,dn_cond,e1,e2,e3]
    ·rw [decide_eq_false h4] at e3
     rw [if_neg fun h=>h4 h.2]
     simp -implicitDefEqProofs [Z47,Z47_B,dn_cond,e1,e2,e3]
   ·rw [if_neg fun h=>h3 h.1]
    simp -implicitDefEqProofs [Z47,Z47_B,dn_cond,e1,e2,h3]
  ·rw [decide_eq_false h2] at e2
   rw [if_neg fun h=>h2 h.2]
   simp -implicitDefEqProofs [Z47,Z47_B,dn_cond,e1,e2]
 ·rw [decide_eq_false h1] at e1
  rw [if_neg fun h=>h1 h.1]
  simp -implicitDefEqProofs [Z47,Z47_B,dn_cond,e1]
def isoP {p:Int} [IsP p] (m g d g' d':Fp p) (U:List (Fp p)):Prop:=trimS U≠[]∧cmpS m U [Pol.X%m,g,d]=cmpS m [Pol.X%m,g',d'] U
open Classical in
noncomputable def isoD (n:Int) (u v w:List Int) (n':Int) (u' v' w':List Int) (ls:List (List Int)):D:=
 if h:IsDr n u v w∧IsDr n' u' v' w'∧ls.all (isPl n)=true then
  haveI:IsP n:=h.1.choose
  if n=n'∧u=u'∧1≤ls.length∧ls.length≤6∧IsSk (polOf n u) ls then
   .tup [(D.bool (decide (isoP (polOf n u) (polOf n v) (polOf n w) (polOf n v') (polOf n w') (ls.map (polOf n))))),(D.int .i64 0)]
  else .tup [(D.bool false),(D.int .i64 2)]
 else .tup [(D.bool false),(D.int .i64 1)]
theorem isoD_1 {n:Int} {u v w:List Int} {n':Int} {u' v' w':List Int} {ls:List (List Int)} (h:¬ (IsDr n u v w∧IsDr n' u' v' w'∧ls.all (isPl n)=true)):isoD n u v w n' u' v' w' ls=.tup [(D.bool false),(D.int .i64 1)]:=by
 unfold isoD; rw [dif_neg h]
theorem isoD_2 {n:Int} {u v w:List Int} {n':Int} {u' v' w':List Int} {ls:List (List Int)} (h:IsDr n u v w∧IsDr n' u' v' w'∧ls.all (isPl n)=true) (h2:∀_ip:IsP n,¬ (n=n'∧u=u'∧1≤ls.length∧ls.length≤6∧IsSk (polOf n u) ls)):isoD n u v w n' u' v' w' ls=.tup [(D.bool false),(D.int .i64 2)]:=by
 unfold isoD; rw [dif_pos h,if_neg (h2 _)]
open Classical in
theorem isoD_3 {p:Int} [IsP p] {m g d g' d':Fp p} {U:List (Fp p)} (h1:IsDr p (pad (row m)) (pad (row g)) (pad (row d))) (h2:IsDr p (pad (row m)) (pad (row g')) (pad (row d'))) (h3:(skP U).all (isPl p)=true) (hm:m.len≤64) (hg:g.len≤64) (hd:d.len≤64) (hg':g'.len≤64) (hd':d'.len≤64) (hU:∀c∈U,c.len<m.len) (hl1:1≤U.length) (hl6:U.length≤6):isoD p (pad (row m)) (pad (row g)) (pad (row d)) p (pad (row m)) (pad (row g')) (pad (row d')) (skP U)=.tup [(D.bool (decide (isoP m g d g' d' U))),(D.int .i64 0)]:=by
 have hs:IsSk m (skP U):=fun l hl=>by
  obtain ⟨c,hc,rfl⟩:=List.mem_map.1 hl
  exact ⟨c,hU c hc,rfl⟩
 unfold isoD
 rw [dif_pos ⟨h1,h2,h3⟩,polOf_pad hm,polOf_pad hg,polOf_pad hd,polOf_pad hg',polOf_pad hd',map_polOf (fun a ha=>by have:=hU a ha; omega),if_pos ⟨rfl,rfl,by rw [List.length_map]; exact hl1,by rw [List.length_map]; exact hl6,hs⟩]
theorem isoD_form (n:Int) (u v w:List Int) (n':Int) (u' v' w':List Int) (ls:List (List Int)):∃(b:Bool) (k:Int),isoD n u v w n' u' v' w' ls=.tup [(D.bool b),(D.int .i64 k)]:=by
 unfold isoD
 split
 ·split
  ·exact ⟨_,_,rfl⟩
  ·exact ⟨_,_,rfl⟩
 ·exact ⟨_,_,rfl⟩
theorem rows_of_isPl {p:Int} [IsP p]:∀{ls:List (List Int)},Arrs ls→ls.all (isPl p)=true→∃S:List (Fp p),ls=skP S∧∀a∈S,a.len≤64
 | [],_,_=>⟨[],rfl,fun _ h=>absurd h List.not_mem_nil⟩
 | l::ls,h,ha=>by
  rw [List.all_cons,Bool.and_eq_true] at ha
  obtain ⟨g1,b1⟩:=h l (by simp)
  obtain ⟨a,hal,rfl⟩:=row_of_isPl b1 g1 ha.1
  obtain ⟨S,rfl,hS⟩:=rows_of_isPl (fun x hx=>h x (by simp [hx])) ha.2
  exact ⟨a::S,rfl,by simpa using ⟨hal,hS⟩⟩
theorem plus_nil {p:Int} [IsP p] {A B:List (Fp p)} (hA:IsTrim A) (hB:IsTrim B):(plusS (-1) A B).length=0↔A=B:=by
 have hc:∀i,cS (plusS (-1) A B) i=cS A i-cS B i:=fun i=>by
  rw [cS_plus,show zp p (-1)=-1 from by rw [zp_neg,zp_one]]
  have:Pol.C (-1:Zp p)=-1:=by rw [Pol.C_neg,Pol.C_one]
  rw [this]
  exact ring_of [cS A i,cS B i] rfl
 constructor
 ·intro h
  refine trim_ext hA hB fun i=>?_
  have h1:=hc i
  rw [cS_ge (by omega)] at h1
  have h2:cS A i=(cS A i-cS B i)+cS B i:=ring_of [cS A i,cS B i] rfl
  rw [h2,←h1,Gq.zero_add]
 ·rintro rfl
  have:plusS (-1) A A=[]:=trim_ext (isTrim_plus _ _ _) (fun n hn=>by cases hn) fun i=>by
   rw [hc,cS_nil]
   exact ring_of [cS A i] rfl
  rw [this]; rfl
def K_IsIso (O:Oracle) (F:Nat):Prop:=∀(n:Int) (u v w:List Int) (n':Int) (u' v' w':List Int) (ls:List (List Int)),Bytes u→u.length=64→Bytes v→v.length=64→Bytes w→w.length=64→Bytes u'→u'.length=64→Bytes v'→v'.length=64→Bytes w'→w'.length=64→Arrs ls→ls.length<2000000→ask O F [drD n u v w,drD n' u' v' w',.sl (.arr 64 .leaf) (ls.map arr8)]=some (isoD n u v w n' u' v' w' ls)
theorem isSk_pl {p:Int} [IsP p] {m:Fp p} (hm:m.len≤64) {U:List (Fp p)} (hU:∀c∈U,c.len≤64):IsSk m (skP U)↔∀c∈U,c.len<m.len:=by
 constructor
 ·intro h c hc
  obtain ⟨a,ha,e⟩:=h _ (List.mem_map_of_mem hc)
  rw [(pad_row_inj (hU c hc) (by omega)).1 e]
  exact ha
 ·intro h l hl
  obtain ⟨c,hc,rfl⟩:=List.mem_map.1 hl
  exact ⟨c,h c hc,rfl⟩
open Classical in
theorem k_IsIso (hT:T Fg=some Zg) (hcd:C_drCode (den T A) Fr) (hpr:C_pair (den T A) F17) (hfi:K_drField (den T A)) (hwi:C_within (den T A)) (hir:C_isRes (den T A)) (hal:C_allOf (den T A) Fm (.arr 64 .leaf)) (hro:K_rows (den T A)) (htr:K_sktrim (den T A)) (hla:K_letterAction (den T A)) (hby:K_by2 (den T A)) (hpl:K_plus (den T A)):K_IsIso (den T A) Fg:=by
 intro n u v w n' u' v' w' ls bu gu bv gv bw gw bu' gu' bv' gv' bw' gw' ha hl
 have e1:=hcd n u v w ls bu gu bv gv bw gw ha hl
 have e2:=hpr n u v w n' u' v' w' bu gu bv gv bw gw bu' gu' bv' gv' bw' gw'
 unfold codeDr at e1
 unfold codePr at e2
 by_cases h1:IsDr n u v w∧ls.all (isPl n)=true
 ·rw [if_pos h1] at e1
  obtain ⟨h1,hL⟩:=h1
  by_cases h2:IsDr n' u' v' w'
  ·rw [if_pos ⟨h1,h2⟩] at e2
   by_cases h3:n=n'∧u=u'
   ·rw [if_pos h3] at e2
    obtain ⟨rfl,rfl⟩:=h3
    have h1':=h1
    have h2':=h2
    obtain ⟨ip,m,g,d,rfl,rfl,rfl,hm,hg,hd,hd0⟩:=h1
    obtain ⟨ip',m',g',d',em,rfl,rfl,hm',hg',hd',hd0'⟩:=h2
    have h5:=hm.five
    have h5':=hm'.five
    have h0:=hm.mon.2
    have h2m:=hm.two
    obtain rfl:m=m':=(pad_row_inj (by omega) (by omega)).1 em
    obtain ⟨U,rfl,hU⟩:=rows_of_isPl ha hL
    have e3:=hfi n m (pad (row g)) (pad (row d)) (by omega)
    have hLL:((skP U).map arr8).length=U.length:=by rw [List.length_map,List.length_map]
    have e4:=hwi (U.length:Int) 1 6
    by_cases h6:1≤U.length∧U.length≤6
    ·rw [decide_eq_true (show (1:Int)≤U.length∧(U.length:Int)≤6 by omega)] at e4
     obtain ⟨P,hP,hF⟩:=fn_isRes (m:=m) (by omega) ha hir
     have e5:=hal _ _ _ _ _ hF (fun x hx=>by obtain ⟨n,_,rfl⟩:=List.mem_map.1 hx; rfl) (by rw [List.length_map]; exact hl)
     have hb:((skP U).map arr8).all P=decide (IsSk m (skP U)):=by
      rw [Bool.eq_iff_iff,List.all_eq_true,decide_eq_true_iff]
      constructor
      ·intro h2 l hl; exact (hP l hl).1 (h2 _ (List.mem_map_of_mem hl))
      ·intro h2 x hx
       obtain ⟨l,hl,rfl⟩:=List.mem_map.1 hx
       exact (hP l hl).2 (h2 l hl)
     rw [hb] at e5
     by_cases h7:IsSk m (skP U)
     ·rw [decide_eq_true h7] at e5
      have h8:=(isSk_pl (by omega) hU).1 h7
      have hb1:=mem3 (Pol.len_mod Pol.X h0) hg hd
      have hb2:=mem3 (Pol.len_mod Pol.X h0) hg' hd'
      rw [isoD_3 h1' h2' hL (by omega) (by omega) (by omega) (by omega) (by omega) h8 h6.1 h6.2]
      have htl:=trimS_len_le U
      have htm:∀c∈trimS U,c.len<m.len:=fun c hc=>h8 c (List.mem_of_mem_take hc)
      have f1:=hro n U (by omega) (fun x hx=>by have:=h8 x hx; omega)
      rw [show (U.map padD:List D)=(skP U).map arr8 by rw [←map_padD]] at f1
      have f2:=htr n U (by omega)
      have f3:=hla n m g d h0 (by omega) (by omega) (by omega)
      have f4:=hla n m g' d' h0 (by omega) (by omega) (by omega)
      have f5:=hby n m (trimS U) [Pol.X%m,g,d] h2m (by omega) (fun c hc=>by have:=htm c hc; omega) (fun c hc=>by have:=hb1 c hc; omega) (by omega) (by simp only [List.length_cons,List.length_nil]; omega)
      have f6:=hby n m [Pol.X%m,g',d'] (trimS U) h2m (by omega) (fun c hc=>by have:=hb2 c hc; omega) (fun c hc=>by have:=htm c hc; omega) (by simp only [List.length_cons,List.length_nil]; omega) (by omega)
      have q1:=prod_len_le (m:=m) (a:=trimS U) (b:=[Pol.X%m,g,d])
      have q2:=prod_len_le (m:=m) (a:=[Pol.X%m,g',d']) (b:=trimS U)
      simp only [List.length_cons,List.length_nil] at q1 q2
      have f7:=hpl n m (prodS m (trimS U) [Pol.X%m,g,d]) (prodS m [Pol.X%m,g',d'] (trimS U)) (-1) (by omega) (by omega) (by omega) (by omega) (fun c hc=>prodS_lens' h0 (by omega) c hc) (fun c hc=>prodS_lens' h0 (by omega) c hc)
      have c1:=prod_cmp hm hb1 (A:=trimS U) (B:=[Pol.X%m,g,d]) (fun i=>cS_trim U i) (fun i=>rfl)
      have c2:=prod_cmp hm htm (A:=[Pol.X%m,g',d']) (B:=trimS U) (fun i=>rfl) (fun i=>cS_trim U i)
      have c3:=plus_nil (isTrim_prod m (trimS U) [Pol.X%m,g,d]) (isTrim_prod m [Pol.X%m,g',d'] (trimS U))
      have c4:isoP m g d g' d' U↔0<(trimS U).length∧(plusS (-1) (prodS m (trimS U) [Pol.X%m,g,d]) (prodS m [Pol.X%m,g',d'] (trimS U))).length=0:=by
       rw [c3,c1,c2]
       unfold isoP
       rw [←List.length_pos_iff]
      rw [show decide (isoP m g d g' d' U)=decide (0<(trimS U).length∧(plusS (-1) (prodS m (trimS U) [Pol.X%m,g,d]) (prodS m [Pol.X%m,g',d'] (trimS U))).length=0) from decide_eq_decide.2 c4]
      have g1:((trimS U).map rowD).length=(trimS U).length:=List.length_map ..
      have g2:((plusS (-1) (prodS m (trimS U) [Pol.X%m,g,d]) (prodS m [Pol.X%m,g',d'] (trimS U))).map rowD).length=(plusS (-1) (prodS m (trimS U) [Pol.X%m,g,d]) (prodS m [Pol.X%m,g',d'] (trimS U))).length:=List.length_map ..
      unfold skD at f2 f3 f4 f5 f6 f7
      refine ask_of hT rfl ?_
      generalize (plusS (-1) (prodS m (trimS U) [Pol.X%m,g,d]) (prodS m [Pol.X%m,g',d'] (trimS U))).length=z1 at *
      generalize (trimS U).length=z2 at *
      generalize (plusS (-1) (prodS m (trimS U) [Pol.X%m,g,d]) (prodS m [Pol.X%m,g',d'] (trimS U))).map rowD=D1 at *
      generalize (prodS m (trimS U) [Pol.X%m,g,d]).map rowD=D2 at *
      generalize (prodS m [Pol.X%m,g',d'] (trimS U)).map rowD=D3 at *
      generalize (trimS U).map rowD=D4 at *
      generalize U.map rowD=D5 at *
      generalize (skP U).map arr8=D6 at *
      generalize [Pol.X%m,g,d].map rowD=D7 at *
      generalize [Pol.X%m,g',d'].map rowD=D8 at *
      generalize pad (row m)=Pm at *
      generalize pad (row g)=Pg at *
      generalize pad (row d)=Pd at *
      generalize pad (row g')=Pg' at *
      generalize pad (row d')=Pd' at *
      by_cases y1:0<z2
      ·have y1':(0:Int)<(z2:Int):=by omega
       by_cases y2:z1=0
       ·rw [decide_eq_true ⟨y1,y2⟩]
        subst y2
        simp -implicitDefEqProofs [Zg,Zg_B,dn_cond,e1,e2,e3,hLL,e4,e5,f1,f2,f3,f4,f5,f6,f7,g1,g2,y1]
       ·rw [decide_eq_false fun h=>y2 h.2]
        simp -implicitDefEqProofs [Zg,Zg_B,dn_cond,e1,e2,e3,hLL,e4,e5,f1,f2,f3,f4,f5,f6,f7,g1,g2,y1,y2]
      ·rw [decide_eq_false fun h=>y1 h.1]
       simp -implicitDefEqProofs [Zg,Zg_B,dn_cond,e1,e2,e3,hLL,e4,e5,f1,f2,f3,f4,f5,f6,g1,y1]
     ·rw [decide_eq_false h7] at e5
      rw [isoD_2 ⟨h1',h2',hL⟩ fun _ h=>h7 (by rw [polOf_pad (by omega)] at h; exact h.2.2.2.2)]
      refine ask_of hT rfl ?_
      generalize (skP U).map arr8=D6 at *
      generalize pad (row m)=Pm at *
      generalize pad (row g)=Pg at *
      generalize pad (row d)=Pd at *
      generalize pad (row g')=Pg' at *
      generalize pad (row d')=Pd' at *
      simp -implicitDefEqProofs [Zg,Zg_B,dn_cond,e1,e2,e3,hLL,e4,e5]
    ·rw [decide_eq_false (show ¬ ((1:Int)≤U.length∧(U.length:Int)≤6) by omega)] at e4
     rw [isoD_2 ⟨h1',h2',hL⟩ fun _ h=>h6 ⟨by have:=h.2.2.1; rw [List.length_map] at this; exact this,by have:=h.2.2.2.1; rw [List.length_map] at this; exact this⟩]
     refine ask_of hT rfl ?_
     generalize (skP U).map arr8=D6 at *
     generalize pad (row m)=Pm at *
     generalize pad (row g)=Pg at *
     generalize pad (row d)=Pd at *
     generalize pad (row g')=Pg' at *
     generalize pad (row d')=Pd' at *
     simp -implicitDefEqProofs [Zg,Zg_B,dn_cond,e1,e2,e3,hLL,e4]
   ·rw [if_neg h3] at e2
    rw [isoD_2 ⟨h1,h2,hL⟩ fun _ h=>h3 ⟨h.1,h.2.1⟩]
    refine ask_of hT rfl ?_
    simp -implicitDefEqProofs [Zg,Zg_B,dn_cond,e1,e2]
  ·rw [if_neg fun h=>h2 h.2] at e2
   rw [isoD_1 fun h=>h2 h.2.1]
   refine ask_of hT rfl ?_
   simp -implicitDefEqProofs [Zg,Zg_B,dn_cond,e1,e2]
 ·rw [if_neg h1] at e1
  rw [isoD_1 fun h=>h1 ⟨h.1,h.2.2⟩]
  refine ask_of hT rfl ?_
  simp -implicitDefEqProofs [Zg,Zg_B,dn_cond,e1]
end Pe

namespace Pe
open Go Gq
variable {T:Nat→Option Fn} {A:Oracle}
open Classical in
noncomputable def nzS {p:Int} (L:List (Fp p)):Bool:=L.any fun a=>!decide (a=0)
theorem nz_trim {p:Int} (L:List (Fp p)):nzS L=true↔trimS L≠[]:=by
 unfold nzS
 rw [List.any_eq_true]
 constructor
 ·rintro ⟨a,ha,h⟩ hz
  simp at h
  obtain ⟨i,hi,rfl⟩:=List.getElem_of_mem ha
  have:=cS_trim L i
  rw [hz,cS_nil,←cS_lt hi] at this
  exact h this.symm
 ·intro h
  have hl:(trimS L).length≠0:=fun g=>h (List.length_eq_zero_iff.1 g)
  obtain ⟨a,x,e,hx⟩:=trimS_form hl
  refine ⟨x,?_,by simpa using hx⟩
  have:x∈trimS L:=by rw [e]; simp
  exact List.mem_of_mem_take this
open Classical in
theorem l_iso0 {O:Oracle} (hdg:K_sDeg O) {p:Int} [IsP p] {m:Fp p} {v w v' w':List Int} {U:List (Fp p)} (hm:m.len≤64) (hU:∀c∈U,c.len<m.len) (hl:U.length≤1000):∀(r i:Nat) (b:Bool),i+r=U.length →
 dn O 0 (.loop Z3a_L0) ⟨[(2,.d (aD U)),(3,.ptr 0 []),(4,.ptr 1 []),(8,(.d (.bool b))),(9,(.d (.int .i64 i)))],[.box false (drD p (pad (row m)) v w),.box false (drD p (pad (row m)) v' w')]⟩ =
  some (.exit 0,⟨[(2,.d (aD U)),(3,.ptr 0 []),(4,.ptr 1 []),(8,(.d (.bool (b||nzS (U.drop i))))),(9,(.d (.int .i64 U.length))),(46,(.d (.bool false)))],[.box false (drD p (pad (row m)) v w),.box false (drD p (pad (row m)) v' w')]⟩)
 | 0,i,b,hi=>by
  obtain rfl:i=U.length:=by omega
  have hn:nzS (U.drop U.length)=false:=by rw [List.drop_length]; rfl
  have hL:=skA_len U
  rw [hn,Bool.or_false]
  refine dn_stop ?_
  rw [show aD U=.sl (.arr 64 .leaf) ((skP U).map arr8) from rfl]
  generalize (skP U).map arr8=UD at *
  generalize pad (row m)=Pm at *
  simp -implicitDefEqProofs [Z3a_L0,dn_cond,hL]
 | r+1,i,b,hi=>by
  have hlt:i<U.length:=by omega
  have hc:=hU _ (List.getElem_mem hlt)
  have hL:=skA_len U
  have g1E:=skA_getE hlt
  have e1:=hdg p U[i] (by omega)
  have e2:=hdg p m hm
  have hge:¬ (m.len:Int)-1≤(U[i].len:Int)-1:=by omega
  have w4:IntKind.i64.wrap ((i:Int)+1)=((i+1:Nat):Int):=(w64 (x:=(i:Int)+1) (by omega)).trans (by omega)
  have heq:=beq_P (l:=pad (row U[i])) (m:=pad []) (pad_length _) (pad_length _)
  have hz:pad (row U[i])=pad []↔U[i]=0:=by
   rw [←row_zero (p:=p),pad_row_inj (by omega) (by rw [Pol.len_zero]; omega)]
  have hd:nzS (U.drop i)=(!decide (U[i]=0)||nzS (U.drop (i+1))):=by
   rw [List.drop_eq_getElem_cons hlt]; rfl
  have ih:=l_iso0 hdg (v:=v) (w:=w) (v':=v') (w':=w') hm hU hl r (i+1) (b || !decide (U[i]=0)) (by omega)
  rw [hd,←Bool.or_assoc]
  refine dn_round ?_ ih
  have hlt':(i:Int)<U.length:=by omega
  rw [show aD U=.sl (.arr 64 .leaf) ((skP U).map arr8) from rfl]
  by_cases h0:U[i]=0
  ·rw [decide_eq_true (hz.2 h0)] at heq
   rw [decide_eq_true h0,Bool.not_true,Bool.or_false]
   generalize (m.len:Int)-1=m1 at *
   generalize (U[i].len:Int)-1=u1 at *
   generalize pad (row U[i])=P1 at *
   generalize (skP U).map arr8=UD at *
   generalize pad (row m)=Pm at *
   cases b <;> simp -implicitDefEqProofs [Z3a_L0,dn_cond,hL,hlt,hlt',g1E,e1,e2,hge,heq,w4]
  ·rw [decide_eq_false (fun h=>h0 (hz.1 h))] at heq
   rw [decide_eq_false h0,Bool.not_false,Bool.or_true]
   generalize (m.len:Int)-1=m1 at *
   generalize (U[i].len:Int)-1=u1 at *
   generalize pad (row U[i])=P1 at *
   generalize (skP U).map arr8=UD at *
   generalize pad (row m)=Pm at *
   cases b <;> simp -implicitDefEqProofs [Z3a_L0,dn_cond,hL,hlt,hlt',g1E,e1,e2,hge,heq,w4]
theorem l_iso0x {O:Oracle} (hdg:K_sDeg O) {p:Int} [IsP p] {m:Fp p} {v w v' w':List Int} {U:List (Fp p)} (hm:m.len≤64) (hU:∀c∈U,c.len≤64) (hl:U.length≤1000):∀(r i:Nat) (b:Bool),i+r=U.length→(∃c∈U.drop i,m.len≤c.len) →
 dn O 0 (.loop Z3a_L0) ⟨[(2,.d (aD U)),(3,.ptr 0 []),(4,.ptr 1 []),(8,(.d (.bool b))),(9,(.d (.int .i64 i)))],[.box false (drD p (pad (row m)) v w),.box false (drD p (pad (row m)) v' w')]⟩ =
  some (.ret,⟨[(6,(.d (.bool false))),(7,(.d (.int .i64 2)))],[.hole,.hole]⟩)
 | 0,i,b,hi,hx=>by
  obtain rfl:i=U.length:=by omega
  obtain ⟨c,hc,_⟩:=hx
  rw [List.drop_length] at hc
  exact absurd hc List.not_mem_nil
 | r+1,i,b,hi,hx=>by
  have hlt:i<U.length:=by omega
  have hc:=hU _ (List.getElem_mem hlt)
  have hL:=skA_len U
  have g1E:=skA_getE hlt
  have e1:=hdg p U[i] (by omega)
  have e2:=hdg p m hm
  have w4:IntKind.i64.wrap ((i:Int)+1)=((i+1:Nat):Int):=(w64 (x:=(i:Int)+1) (by omega)).trans (by omega)
  have heq:=beq_P (l:=pad (row U[i])) (m:=pad []) (pad_length _) (pad_length _)
  have hlt':(i:Int)<U.length:=by omega
  by_cases hge:(m.len:Int)-1≤(U[i].len:Int)-1
  ·refine dn_back ?_
   rw [show aD U=.sl (.arr 64 .leaf) ((skP U).map arr8) from rfl]
   generalize (m.len:Int)-1=m1 at *
   generalize (U[i].len:Int)-1=u1 at *
   generalize pad (row U[i])=P1 at *
   generalize (skP U).map arr8=UD at *
   generalize pad (row m)=Pm at *
   simp -implicitDefEqProofs [Z3a_L0,dn_cond,hL,hlt,hlt',g1E,e1,e2,hge]
  ·have hx':∃c∈U.drop (i+1),m.len≤c.len:=by
    obtain ⟨c,hc,hcl⟩:=hx
    rw [List.drop_eq_getElem_cons hlt,List.mem_cons] at hc
    rcases hc with rfl | hc
    ·exact absurd (show (m.len:Int)-1≤(U[i].len:Int)-1 by omega) hge
    ·exact ⟨c,hc,hcl⟩
   have ih:=fun b=>l_iso0x hdg (v:=v) (w:=w) (v':=v') (w':=w') hm hU hl r (i+1) b (by omega) hx'
   rw [show aD U=.sl (.arr 64 .leaf) ((skP U).map arr8) from rfl] at ih ⊢
   generalize hbq:decide (pad (row U[i])=pad [])=bq at *
   refine dn_round ?_ (ih (b || !bq))
   generalize (m.len:Int)-1=m1 at *
   generalize (U[i].len:Int)-1=u1 at *
   generalize pad (row U[i])=P1 at *
   generalize (skP U).map arr8=UD at *
   generalize pad (row m)=Pm at *
   cases b <;> cases bq <;> simp -implicitDefEqProofs [Z3a_L0,dn_cond,hL,hlt,hlt',g1E,e1,e2,hge,heq,w4]
open Classical in
theorem l_iso1 {O:Oracle} {p:Int} [IsP p] {X Y:List (Fp p)} {bb:Bool} (hX:∀c∈X,c.len≤64) (hY:∀c∈Y,c.len≤64) (hl:X.length≤1000) (hxy:X.length=Y.length):∀(r i:Nat),i+r=X.length→∃(j:Int),
 dn O 0 (.loop Z3a_L1) ⟨[(8,(.d (.bool bb))),(10,.d (aD X)),(11,.d (aD Y)),(12,(.d (.bool true))),(13,(.d (.int .i64 i)))],[.hole,.hole]⟩ =
  some (.exit 2,⟨[(8,(.d (.bool bb))),(10,.d (aD X)),(11,.d (aD Y)),(12,(.d (.bool (decide (X.drop i=Y.drop i))))),(13,(.d (.int .i64 j))),(88,(.d (.bool false)))],[.hole,.hole]⟩)
 | 0,i,hi=>by
  obtain rfl:i=X.length:=by omega
  have hL:=skA_len X
  refine ⟨X.length,dn_stop ?_⟩
  rw [decide_eq_true (show X.drop X.length=Y.drop X.length by rw [List.drop_length,hxy,List.drop_length])]
  rw [show aD X=.sl (.arr 64 .leaf) ((skP X).map arr8) from rfl]
  generalize (skP X).map arr8=XD at *
  generalize aD Y=YD at *
  simp -implicitDefEqProofs [Z3a_L1,dn_cond,hL]
 | r+1,i,hi=>by
  have hlt:i<X.length:=by omega
  have hltY:i<Y.length:=by omega
  have hLX:=skA_len X
  have hLY:=skA_len Y
  have g1E:=skA_getE hlt
  have g2E:=skA_getE hltY
  have hcX:=hX _ (List.getElem_mem hlt)
  have hcY:=hY _ (List.getElem_mem hltY)
  have w4:IntKind.i64.wrap ((i:Int)+1)=((i+1:Nat):Int):=(w64 (x:=(i:Int)+1) (by omega)).trans (by omega)
  have heq:=beq_P (l:=pad (row X[i])) (m:=pad (row Y[i])) (pad_length _) (pad_length _)
  have hlt':(i:Int)<X.length:=by omega
  have hd:(X.drop i=Y.drop i)↔X[i]=Y[i]∧X.drop (i+1)=Y.drop (i+1):=by
   rw [List.drop_eq_getElem_cons hlt,List.drop_eq_getElem_cons hltY,List.cons.injEq]
  by_cases h0:X[i]=Y[i]
  ·rw [decide_eq_true (show pad (row X[i])=pad (row Y[i]) by rw [h0])] at heq
   obtain ⟨j,ih⟩:=l_iso1 (O:=O) (bb:=bb) hX hY hl hxy r (i+1) (by omega)
   rw [show decide (X.drop i=Y.drop i)=decide (X.drop (i+1)=Y.drop (i+1)) from decide_eq_decide.2 (hd.trans ⟨fun h=>h.2,fun h=>⟨h0,h⟩⟩)]
   refine ⟨j,dn_round ?_ ih⟩
   rw [show aD X=.sl (.arr 64 .leaf) ((skP X).map arr8) from rfl,show aD Y=.sl (.arr 64 .leaf) ((skP Y).map arr8) from rfl]
   generalize (skP X).map arr8=XD at *
   generalize (skP Y).map arr8=YD at *
   generalize pad (row X[i])=P1 at *
   generalize pad (row Y[i])=P2 at *
   simp -implicitDefEqProofs [Z3a_L1,dn_cond,hLX,hLY,hlt,hlt',hltY,g1E,g2E,heq,w4]
  ·rw [decide_eq_false (show ¬ pad (row X[i])=pad (row Y[i]) from fun h=>h0 ((pad_row_inj hcX hcY).1 h))] at heq
   rw [decide_eq_false (fun h=>h0 (hd.1 h).1)]
   refine ⟨((i+1:Nat):Int),?_⟩
   have stop:∀XD YD:D,dn O 0 (.loop Z3a_L1) ⟨[(8,(.d (.bool bb))),(10,.d (.sl (.arr 64 .leaf) ((skP X).map arr8))),(11,.d (.sl (.arr 64 .leaf) ((skP Y).map arr8))),(12,(.d (.bool false))),(13,(.d (.int .i64 (((i+1:Nat):Int)))))],[.hole,.hole]⟩ =
    some (.exit 2,⟨[(8,(.d (.bool bb))),(10,.d (.sl (.arr 64 .leaf) ((skP X).map arr8))),(11,.d (.sl (.arr 64 .leaf) ((skP Y).map arr8))),(12,(.d (.bool false))),(13,(.d (.int .i64 (((i+1:Nat):Int))))),(88,(.d (.bool false)))],[.hole,.hole]⟩):=fun _ _=>by
    refine dn_stop ?_
    generalize (skP X).map arr8=XD at *
    generalize (skP Y).map arr8=YD at *
    by_cases hk:((i+1:Nat):Int)<(XD.length:Int)
    ·generalize ((i+1:Nat):Int)=k1 at *
     simp -implicitDefEqProofs [Z3a_L1,dn_cond,hk]
    ·generalize ((i+1:Nat):Int)=k1 at *
     simp -implicitDefEqProofs [Z3a_L1,dn_cond,hk]
   rw [show aD X=.sl (.arr 64 .leaf) ((skP X).map arr8) from rfl,show aD Y=.sl (.arr 64 .leaf) ((skP Y).map arr8) from rfl]
   refine dn_round ?_ (stop (.bool true) (.bool true))
   generalize (skP X).map arr8=XD at *
   generalize (skP Y).map arr8=YD at *
   generalize pad (row X[i])=P1 at *
   generalize pad (row Y[i])=P2 at *
   simp -implicitDefEqProofs [Z3a_L1,dn_cond,hLX,hLY,hlt,hlt',hltY,g1E,g2E,heq,w4]
theorem l_iso1n {O:Oracle} {p:Int} [IsP p] {X Y:List (Fp p)} {bb:Bool} :
 dn O 0 (.loop Z3a_L1) ⟨[(8,(.d (.bool bb))),(10,.d (aD X)),(11,.d (aD Y)),(12,(.d (.bool false))),(13,(.d (.int .i64 0)))],[.hole,.hole]⟩ =
  some (.exit 2,⟨[(8,(.d (.bool bb))),(10,.d (aD X)),(11,.d (aD Y)),(12,(.d (.bool false))),(13,(.d (.int .i64 0))),(88,(.d (.bool false)))],[.hole,.hole]⟩):=by
 refine dn_stop ?_
 rw [show aD X=.sl (.arr 64 .leaf) ((skP X).map arr8) from rfl]
 generalize (skP X).map arr8=XD at *
 generalize aD Y=YD at *
 by_cases hk:0<XD.length
 ·simp -implicitDefEqProofs [Z3a_L1,dn_cond,hk]
 ·simp -implicitDefEqProofs [Z3a_L1,dn_cond,hk]
open Classical in
theorem k_sIsIso (hT:T F3a=some Z3a) (his:C_IsDr (den T A) F4c) (hco:C_sCode (den T A)) (hpr:C_pair (den T A) F47) (hdg:K_sDeg (den T A)) (ht:K_sT6 (den T A)) (hcp:K_sComp (den T A)):K_IsIso (den T A) F3a:=by
 intro n u v w n' u' v' w' ls bu gu bv gv bw gw bu' gu' bv' gv' bw' gw' ha hl
 have e1:=his n u v w bu gu bv gv bw gw
 have e1':=his n' u' v' w' bu' gu' bv' gv' bw' gw'
 have e2:=hpr n u v w n' u' v' w' bu gu bv gv bw gw bu' gu' bv' gv' bw' gw'
 have e3:=hco n ls ha hl
 unfold codePr at e2
 unfold codeP at e3
 have hLL:(ls.map arr8).length=ls.length:=List.length_map ..
 by_cases h1:IsDr n u v w
 ·rw [decide_eq_true h1] at e1
  by_cases h2:IsDr n' u' v' w'
  ·rw [decide_eq_true h2] at e1'
   rw [if_pos ⟨h1,h2⟩] at e2
   have hp:isP n=true:=by obtain ⟨ip,_⟩:=h1; exact isP_true
   by_cases hL:ls.all (isPl n)=true
   ·rw [if_pos ⟨hp,hL⟩] at e3
    by_cases h3:n=n'∧u=u'
    ·rw [if_pos h3] at e2
     obtain ⟨rfl,rfl⟩:=h3
     by_cases h6:1≤ls.length∧ls.length≤6
     ·obtain ⟨h61,h66⟩:=h6
      have k1:¬ (ls.length:Int)<1:=by omega
      have k2:¬ (6:Int)<ls.length:=by omega
      have h1':=h1
      have h2':=h2
      obtain ⟨ip,m,g,d,rfl,rfl,rfl,hm,hg,hd,hd0⟩:=h1
      obtain ⟨ip',m',g',d',em,rfl,rfl,hm',hg',hd',hd0'⟩:=h2
      have h5:=hm.five
      have h5':=hm'.five
      have h0:=hm.mon.2
      have h2m:=hm.two
      obtain rfl:m=m':=(pad_row_inj (by omega) (by omega)).1 em
      obtain ⟨U,rfl,hU⟩:=rows_of_isPl ha hL
      rw [List.length_map] at h61 h66
      by_cases h7:∀c∈U,c.len<m.len
      ·rw [isoD_3 h1' h2' hL (by omega) (by omega) (by omega) (by omega) (by omega) h7 h61 h66]
       have hb1:=mem3 (Pol.len_mod Pol.X h0) hg hd
       have hb2:=mem3 (Pol.len_mod Pol.X h0) hg' hd'
       have e4:=l_iso0 (O:=den T A) hdg (v:=pad (row g)) (w:=pad (row d)) (v':=pad (row g')) (w':=pad (row d')) (show m.len≤64 by omega) h7 (by omega) U.length 0 false (by omega)
       rw [List.drop_zero,Bool.false_or,show ((0:Nat):Int)=0 from rfl] at e4
       have e5:=ht n m g d h0 (by omega)
       have e5':=ht n m g' d' h0 (by omega)
       have e6:=hcp n m (pad (row g)) (pad (row d)) U [Pol.X%m,g,d] h0 (by omega) hU (fun c hc=>by have:=hb1 c hc; omega) (by simp only [List.length_cons,List.length_nil]; omega)
       have e7:=hcp n m (pad (row g)) (pad (row d)) [Pol.X%m,g',d'] U h0 (by omega) (fun c hc=>by have:=hb2 c hc; omega) hU (by simp only [List.length_cons,List.length_nil]; omega)
       have hl1:(cmpS m U [Pol.X%m,g,d]).length≤1000:=by
        have:=trimS_len_le (cmpOut m U 0 [Pol.X%m,g,d] (List.replicate (U.length + [Pol.X%m,g,d].length) 0))
        rw [cmpOut_length,List.length_replicate] at this
        simp only [List.length_cons,List.length_nil] at this
        exact Nat.le_trans this (by omega)
       have hz:=nz_trim U
       have hsame:(cmpS m U [Pol.X%m,g,d]).length=(cmpS m [Pol.X%m,g',d'] U).length→∃j:Int,dn (den T A) 0 (.loop Z3a_L1) ⟨[(8,(.d (.bool (nzS U)))),(10,.d (aD (cmpS m U [Pol.X%m,g,d]))),(11,.d (aD (cmpS m [Pol.X%m,g',d'] U))),(12,(.d (.bool true))),(13,(.d (.int .i64 0)))],[.hole,.hole]⟩ =
        some (.exit 2,⟨[(8,(.d (.bool (nzS U)))),(10,.d (aD (cmpS m U [Pol.X%m,g,d]))),(11,.d (aD (cmpS m [Pol.X%m,g',d'] U))),(12,(.d (.bool (decide (cmpS m U [Pol.X%m,g,d]=cmpS m [Pol.X%m,g',d'] U))))),(13,(.d (.int .i64 j))),(88,(.d (.bool false)))],[.hole,.hole]⟩):=fun hxy=>by
        obtain ⟨j,h⟩:=l_iso1 (O:=den T A) (bb:=nzS U) (X:=cmpS m U [Pol.X%m,g,d]) (Y:=cmpS m [Pol.X%m,g',d'] U) (fun c hc=>by have:=cmp_lens h0 _ _ c hc; omega) (fun c hc=>by have:=cmp_lens h0 _ _ c hc; omega) hl1 hxy (cmpS m U [Pol.X%m,g,d]).length 0 (by omega)
        rw [List.drop_zero,List.drop_zero] at h
        exact ⟨j,h⟩
       have hdiff:=l_iso1n (O:=den T A) (bb:=nzS U) (X:=cmpS m U [Pol.X%m,g,d]) (Y:=cmpS m [Pol.X%m,g',d'] U)
       have hne:¬ (cmpS m U [Pol.X%m,g,d]).length=(cmpS m [Pol.X%m,g',d'] U).length→decide (cmpS m U [Pol.X%m,g,d]=cmpS m [Pol.X%m,g',d'] U)=false:=fun h=>decide_eq_false fun e=>h (by rw [e])
       have hLX:=skA_len (cmpS m U [Pol.X%m,g,d])
       have hLY:=skA_len (cmpS m [Pol.X%m,g',d'] U)
       have hiso:decide (isoP m g d g' d' U)=(nzS U&&decide (cmpS m U [Pol.X%m,g,d]=cmpS m [Pol.X%m,g',d'] U)):=by
        rw [Bool.eq_iff_iff,decide_eq_true_iff,Bool.and_eq_true,decide_eq_true_iff,hz]
        rfl
       rw [hiso]
       have hUL:((skP U).map arr8).length=U.length:=skA_len U
       rw [show (skP U).length=U.length from List.length_map ..] at k1 k2 hLL
       unfold aD at e4 e5 e5' e6 e7 hsame hdiff
       refine ask_of hT rfl ?_
       generalize (skP U).map arr8=UD at *
       generalize (skP [Pol.X%m,g,d]).map arr8=T1 at *
       generalize (skP [Pol.X%m,g',d']).map arr8=T2 at *
       generalize pad (row m)=Pm at *
       generalize pad (row g)=Pg at *
       generalize pad (row d)=Pd at *
       generalize pad (row g')=Pg' at *
       generalize pad (row d')=Pd' at *
       generalize decide (cmpS m U [Pol.X%m,g,d]=cmpS m [Pol.X%m,g',d'] U)=bb at *
       by_cases hxy:(cmpS m U [Pol.X%m,g,d]).length=(cmpS m [Pol.X%m,g',d'] U).length
       ·obtain ⟨j,e8⟩:=hsame hxy
        have hxy':((cmpS m U [Pol.X%m,g,d]).length:Int)=((cmpS m [Pol.X%m,g',d'] U).length:Int):=by omega
        generalize (skP (cmpS m U [Pol.X%m,g,d])).map arr8=X1 at *
        generalize (skP (cmpS m [Pol.X%m,g',d'] U)).map arr8=X2 at *
        rw [hxy] at hLX
        generalize nzS U=nz at *
        cases nz <;> simp -implicitDefEqProofs [Z3a,Z3a_B,dn_cond,e1,e1',e2,e3,hLL,k1,k2,e4,e5,e5',e6,e7,e8,hLX,hLY]
       ·have hbb:=hne hxy
        have hxy':¬ ((cmpS m U [Pol.X%m,g,d]).length:Int)=((cmpS m [Pol.X%m,g',d'] U).length:Int):=by omega
        subst hbb
        generalize (skP (cmpS m U [Pol.X%m,g,d])).map arr8=X1 at *
        generalize (skP (cmpS m [Pol.X%m,g',d'] U)).map arr8=X2 at *
        generalize nzS U=nz at *
        cases nz <;> simp -implicitDefEqProofs [Z3a,Z3a_B,dn_cond,e1,e1',e2,e3,hLL,k1,k2,e4,e5,e5',e6,e7,hdiff,hLX,hLY,hxy']
      ·rw [isoD_2 ⟨h1',h2',hL⟩ fun _ h=>h7 (by rw [polOf_pad (by omega)] at h; exact (isSk_pl (by omega) hU).1 h.2.2.2.2)]
       have e4:=l_iso0x (O:=den T A) hdg (v:=pad (row g)) (w:=pad (row d)) (v':=pad (row g')) (w':=pad (row d')) (show m.len≤64 by omega) hU (by omega) U.length 0 false (by omega) (by
        rw [List.drop_zero]
        apply Classical.byContradiction
        intro hx
        exact h7 fun c hc=>by
         rcases Nat.lt_or_ge c.len m.len with h | h
         ·exact h
         ·exact absurd ⟨c,hc,h⟩ hx)
       rw [show ((0:Nat):Int)=0 from rfl] at e4
       rw [show (skP U).length=U.length from List.length_map ..] at k1 k2 hLL
       unfold aD at e4
       refine ask_of hT rfl ?_
       generalize (skP U).map arr8=UD at *
       generalize pad (row m)=Pm at *
       generalize pad (row g)=Pg at *
       generalize pad (row d)=Pd at *
       generalize pad (row g')=Pg' at *
       generalize pad (row d')=Pd' at *
       simp -implicitDefEqProofs [Z3a,Z3a_B,dn_cond,e1,e1',e2,e3,hLL,k1,k2,e4]
     ·rw [isoD_2 ⟨h1,h2,hL⟩ fun _ h=>h6 ⟨h.2.2.1,h.2.2.2.1⟩]
      refine ask_of hT rfl ?_
      generalize ls.map arr8=UD at *
      by_cases k1:(ls.length:Int)<1
      ·simp -implicitDefEqProofs [Z3a,Z3a_B,dn_cond,e1,e1',e2,e3,hLL,k1]
      ·have k2:(6:Int)<ls.length:=by omega
       simp -implicitDefEqProofs [Z3a,Z3a_B,dn_cond,e1,e1',e2,e3,hLL,k1,k2]
    ·rw [if_neg h3] at e2
     rw [isoD_2 ⟨h1,h2,hL⟩ fun _ h=>h3 ⟨h.1,h.2.1⟩]
     refine ask_of hT rfl ?_
     generalize ls.map arr8=UD at *
     simp -implicitDefEqProofs [Z3a,Z3a_B,dn_cond,e1,e1',e2,e3]
   ·rw [if_neg fun h=>hL h.2] at e3
    rw [isoD_1 fun h=>hL h.2.2]
    refine ask_of hT rfl ?_
    generalize ls.map arr8=UD at *
    simp -implicitDefEqProofs [Z3a,Z3a_B,dn_cond,e1,e1',e3]
  ·rw [decide_eq_false h2] at e1'
   rw [isoD_1 fun h=>h2 h.2.1]
   refine ask_of hT rfl ?_
   simp -implicitDefEqProofs [Z3a,Z3a_B,dn_cond,e1,e1']
 ·rw [decide_eq_false h1] at e1
  rw [isoD_1 fun h=>h1 h.1]
  refine ask_of hT rfl ?_
  simp -implicitDefEqProofs [Z3a,Z3a_B,dn_cond,e1]
end Pe

namespace Pe
open Go Gq
variable {T:Nat→Option Fn} {A:Oracle}
abbrev srcB (code:List Int) (at_:Nat) (h:Int):Blk:=.box false (.st [.leaf,.leaf,.leaf] [.sl .leaf (ints .u8 code),.int .i64 at_,.int .u64 h])
def Src (b:Blk):Prop:=∃(code:List Int) (at_:Nat) (h:Int),b=srcB code at_ h∧at_≤code.length∧code.length≤1099511627776∧Bytes code
theorem wrap_u64 {n:Nat} (h:n≤16777215):IntKind.u64.wrap (n:Int)=n:=by
 simp [IntKind.wrap,IntKind.bits,IntKind.signed]; omega
theorem andI_le (x:Int):0≤andI .u64 x 16777215∧andI .u64 x 16777215≤16777215:=by
 have h1:(BitVec.ofInt 64 x &&& BitVec.ofInt 64 16777215).toNat≤16777215:=by
  rw [BitVec.toNat_and]
  exact Nat.and_le_right
 have h2:andI .u64 x 16777215=((BitVec.ofInt 64 x &&& BitVec.ofInt 64 16777215).toNat:Int):=wrap_u64 h1
 rw [h2]
 omega
theorem shr33:(2:Int)^min 33 IntKind.u64.bits=8589934592:=rfl
def H_next (O:Oracle) (F:Nat):Prop:=∀(b:Blk) (n:Int),Src b→n≤4611686018427387904→∃(x:Int) (b':Blk),O F [.ptr 0 [],(.d (.int .i64 n))] [b]=some ((.d (.int .i64 x)),[b'],[])∧Src b'∧0≤x∧(x<n∨x=0)
theorem h_next (hT:T F3s=some Z3s):H_next (den T A) F3s:=by
 rintro b n ⟨code,k,h,rfl,hk,hc,hb⟩ hn
 by_cases h1:n<1
 ·refine ⟨0,_,den_of hT rfl ?_,⟨code,k,h,rfl,hk,hc,hb⟩,Int.le_refl _,.inr rfl⟩
  simp -implicitDefEqProofs [Z3s,Z3s_B,dn_cond,h1]
 ·obtain ⟨hh,hhh⟩:∃hh:Int,IntKind.u64.wrap (IntKind.u64.wrap (h*6364136223846793005)+1442695040888963407)=hh:=⟨_,rfl⟩
  have hx:=andI_le (hh.fdiv 8589934592)
  obtain ⟨x,hX⟩:∃x:Int,andI .u64 (hh.fdiv 8589934592) 16777215=x:=⟨_,rfl⟩
  rw [hX] at hx
  have w0:IntKind.i64.wrap x=x:=w64 (by omega)
  have hn0:¬ n=0:=by omega
  have tm:∀y:Int,0≤y→0≤y.tmod n∧y.tmod n<n:=fun y hy=>by
   rw [Int.tmod_eq_emod_of_nonneg hy]
   exact ⟨Int.emod_nonneg _ hn0,Int.emod_lt_of_pos _ (by omega)⟩
  by_cases h2:k<code.length
  ·have hbk:=hb _ (List.getElem_mem h2)
   have h2':(k:Int)<code.length:=by omega
   have w1:IntKind.i64.wrap code[k]=code[k]:=w64 (by omega)
   have w2:IntKind.i64.wrap (x+code[k])=x+code[k]:=w64 (by omega)
   have w3:IntKind.i64.wrap ((k:Int)+1)=((k+1:Nat):Int):=(w64 (x:=(k:Int)+1) (by omega)).trans (by omega)
   obtain ⟨t1,t2⟩:=tm (x+code[k]) (by omega)
   refine ⟨(x+code[k]).tmod n,srcB code (k+1) hh,den_of hT rfl ?_,⟨code,k+1,hh,rfl,by omega,hc,hb⟩,t1,.inl t2⟩
   simp -implicitDefEqProofs [Z3s,Z3s_B,dn_cond,shiftI,shr33,h1,hn0,h2,h2',hhh,hX,w0,w1,w2,w3]
  ·have h2':¬ (k:Int)<code.length:=by omega
   obtain ⟨t1,t2⟩:=tm x (by omega)
   refine ⟨x.tmod n,srcB code k hh,den_of hT rfl ?_,⟨code,k,hh,rfl,hk,hc,hb⟩,t1,.inl t2⟩
   simp -implicitDefEqProofs [Z3s,Z3s_B,dn_cond,shiftI,shr33,h1,hn0,h2',hhh,hX,w0]
theorem l_from {O:Oracle} {code:List Int} (hc:code.length≤4096) (hb:Bytes code):∀(r i:Nat) (h:Int),i+r=code.length→∃h':Int,
 dn O 0 (.loop Z3j_L0) ⟨[(0,.d (.sl .leaf (ints .u8 code))),(3,.ptr 0 []),(4,(.d (.int .i64 i)))],[srcB code 0 h]⟩ =
  some (.exit 0,⟨[(0,.d (.sl .leaf (ints .u8 code))),(3,.ptr 0 []),(4,(.d (.int .i64 code.length))),(19,(.d (.bool false)))],[srcB code 0 h']⟩)
 | 0,i,h,hi=>by
  obtain rfl:i=code.length:=by omega
  refine ⟨h,dn_stop ?_⟩
  simp -implicitDefEqProofs [Z3j_L0,dn_cond]
 | r+1,i,h,hi=>by
  have hlt:i<code.length:=by omega
  have hlt':(i:Int)<code.length:=by omega
  have hq:(i:Int)<4096:=by omega
  have hbk:=hb _ (List.getElem_mem hlt)
  have w4:IntKind.i64.wrap ((i:Int)+1)=((i+1:Nat):Int):=(w64 (x:=(i:Int)+1) (by omega)).trans (by omega)
  obtain ⟨h2,hh2⟩:∃h2:Int,IntKind.u64.wrap (IntKind.u64.wrap (IntKind.u64.wrap (h*1099511628211)+IntKind.u64.wrap code[i])+61)=h2:=⟨_,rfl⟩
  obtain ⟨h',ih⟩:=l_from hc hb r (i+1) h2 (by omega)
  refine ⟨h',dn_round ?_ ih⟩
  simp -implicitDefEqProofs [Z3j_L0,dn_cond,hlt,hlt',hq,w4,hh2]
def H_from (O:Oracle):Prop:=∀code:List Int,Bytes code→code.length≤4096→∃b:Blk,O F3j [.d (.sl .leaf (ints .u8 code))] []=some (.ptr 0 [],[],[b])∧Src b
theorem h_from (hT:T F3j=some Z3j):H_from (den T A):=by
 intro code hb hc
 obtain ⟨h0,hh0⟩:∃h0:Int,IntKind.u64.wrap (12251+IntKind.u64.wrap (code.length:Int))=h0:=⟨_,rfl⟩
 obtain ⟨h',e⟩:=l_from (O:=den T A) hc hb code.length 0 h0 (Nat.zero_add _)
 rw [show ((0:Nat):Int)=0 from rfl,show srcB code 0 h0=.box false (.st [.leaf,.leaf,.leaf] [.sl .leaf (ints .u8 code),.int .i64 0,.int .u64 h0]) from rfl] at e
 refine ⟨srcB code 0 h',den_of hT rfl ?_,⟨code,0,h',rfl,Nat.zero_le _,by omega,hb⟩⟩
 simp -implicitDefEqProofs [Z3j,Z3j_B,hh0,e,List.idxOf,List.findIdx,List.findIdx.go]
def H_pick (O:Oracle):Prop:=∀(b:Blk) (l:List Int) (n:Nat) (cp:Option Nat),Src b→l.length=n→0<n→n≤100→∃(x:Int) (b':Blk),O F3v [.ptr 0 [],.sl 1 [] 0 n cp] [b,.sl false .leaf (ints .i64 l)]=some ((.d (.int .i64 x)),[b',.sl false .leaf (ints .i64 l)],[])∧Src b'∧x∈l
theorem h_pick (hT:T F3v=some Z3v) (hn:H_next (den T A) F3s):H_pick (den T A):=by
 rintro b l n cp hs hl hpos hm
 obtain ⟨x,b',e,hs',h0,h1⟩:=hn b n hs (by omega)
 obtain ⟨k,rfl⟩:∃k:Nat,x=k:=⟨x.toNat,by omega⟩
 have hk:k<n:=by omega
 have hkl:k<l.length:=by omega
 obtain ⟨c,a,h,rfl,_⟩:=id hs
 obtain ⟨c',a',h',rfl,_⟩:=id hs'
 refine ⟨l[k],_,den_of hT rfl ?_,hs',List.getElem_mem hkl⟩
 simp -implicitDefEqProofs [Z3v,Z3v_B,e,hk,hl,List.idxOf,List.findIdx,List.findIdx.go]
end Pe

namespace Pe
open Go Gq
variable {T:Nat→Option Fn} {A:Oracle}
structure DrI (p:Int) (Q:List Int) (n:Nat):Prop where
 l:Q.length=64
 c:Can p Q
 z:∀j,n≤j→cf Q j=0
theorem DrI.set {p:Int} {Q:List Int} {n k:Nat} {x:Int} (h:DrI p Q n) (h0:0≤x) (h1:x<p) (hk:k<n):DrI p (Q.set k x) n:=
 ⟨by rw [List.length_set]; exact h.l,fun y hy=>by
  rcases List.mem_or_eq_of_mem_set hy with g | rfl
  ·exact h.c y g
  ·exact ⟨h0,h1⟩,fun j hj=>by rw [cf_set,if_neg (by omega)]; exact h.z j hj⟩
section
variable {p:Int} [IsP p]
theorem DrI.pol {Q:List Int} {n:Nat} (h:DrI p Q n):Q=pad (row (polOf p Q))∧(polOf p Q).len≤n:=
 ⟨pad_of h.c h.l,Pol.len_le fun j hj=>by rw [polOf_c,h.z j hj]; rfl⟩
theorem l_draw {O:Oracle} (hn:H_next O F3s) {b1:Blk} {n:Nat} (hn64:n≤64):∀(k:Nat) (b:Blk) (Q:List Int),k≤n→Src b→DrI p Q n→∃(b':Blk) (Q':List Int),Src b'∧DrI p Q' n ∧
 dn O 1 (.loop ir_spec_l01Draw_L0) ⟨[(0,.ptr 0 []),(1,(.d (.int .i64 p))),(6,.ptr 1 []),(7,.ptr 2 []),(8,(.d (.int .i64 ((k:Int)-1))))],[b,b1,.box false (D.arr 64 .leaf (ints .u8 Q))]⟩ =
  some (.exit 0,⟨[(0,.ptr 0 []),(1,(.d (.int .i64 p))),(6,.ptr 1 []),(7,.ptr 2 []),(8,(.d (.int .i64 (-1)))),(16,(.d (.bool false)))],[b',b1,.box false (D.arr 64 .leaf (ints .u8 Q'))]⟩)
 | 0,b,Q,hk,hs,hQ=>by
  refine ⟨b,Q,hs,hQ,dn_stop ?_⟩
  obtain ⟨c,a,h,rfl,_⟩:=hs
  simp -implicitDefEqProofs [ir_spec_l01Draw_L0,dn_cond]
 | k+1,b,Q,hk,hs,hQ=>by
  have hp:=IsP.ge (p:=p)
  have hp7:=IsP.le (p:=p)
  obtain ⟨x,b2,e1,hs2,x0,x1⟩:=hn b 3 hs (by omega)
  have w1:IntKind.i64.wrap ((((k+1:Nat):Int)-1)-1)=(k:Int)-1:=(w64 (by omega)).trans (by omega)
  have hk1:((k+1:Nat):Int)-1=(k:Int):=by omega
  rw [hk1] at w1 ⊢
  have hge:(0:Int)≤k:=by omega
  have hkQ:k<Q.length:=by rw [hQ.l]; omega
  have hk64:k<64:=by omega
  by_cases hx:0<x
  ·obtain ⟨y,b3,e2,hs3,y0,y1⟩:=hn b2 p hs2 (by omega)
   have w2:IntKind.u8.wrap y=y:=w8 (by omega)
   obtain ⟨b',Q',hs',hQ',ih⟩:=l_draw hn (b1:=b1) hn64 k b3 (Q.set k y) (by omega) hs3 (hQ.set y0 (by omega) (by omega))
   refine ⟨b',Q',hs',hQ',dn_round ?_ ih⟩
   obtain ⟨c,a,h,rfl,_⟩:=hs
   obtain ⟨c2,a2,h2,rfl,_⟩:=hs2
   obtain ⟨c3,a3,h3,rfl,_⟩:=hs3
   simp -implicitDefEqProofs [ir_spec_l01Draw_L0,dn_cond,hge,e1,e2,hx,w1,w2,hkQ,hk64,List.idxOf,List.findIdx,List.findIdx.go]
  ·obtain ⟨b',Q',hs',hQ',ih⟩:=l_draw hn (b1:=b1) hn64 k b2 Q (by omega) hs2 hQ
   refine ⟨b',Q',hs',hQ',dn_round ?_ ih⟩
   obtain ⟨c,a,h,rfl,_⟩:=hs
   obtain ⟨c2,a2,h2,rfl,_⟩:=hs2
   simp -implicitDefEqProofs [ir_spec_l01Draw_L0,dn_cond,hge,e1,hx,w1,List.idxOf,List.findIdx,List.findIdx.go]
end
theorem DrI.zero (p:Int) [IsP p] (n:Nat):DrI p (pad []) n:=
 ⟨pad_length _,fun x hx=>by
  have hp:=IsP.ge (p:=p)
  have:x=0:=by
   unfold pad at hx
   obtain ⟨a,_,rfl⟩:∃a,a<64∧cf [] a=x:=by simpa using hx
   exact cf_ge (Nat.zero_le _)
  omega,fun j _=>(pad_cf (l:=[]) (by simp) j).trans (cf_ge (Nat.zero_le _))⟩
def H_draw (O:Oracle):Prop:=∀(p:Int) [IsP p] (b:Blk) (n:Nat),Src b→n≤63→∃(a:Fp p) (b':Blk),O F3i [.ptr 0 [],(.d (.int .i64 p)),(.d (.int .i64 ((n:Int))))] [b]=some (.d (D.arr 64 .leaf (ints .u8 (pad (row a)))),[b'],[])∧Src b'∧a.len≤n+1
theorem h_draw (hT:T F3i=some Z3i) (hn:H_next (den T A) F3s):H_draw (den T A):=by
 intro p ip b n hs h63
 obtain ⟨x,b2,e1,hs2,x0,x1⟩:=hn b ((n:Int)+2) hs (by omega)
 obtain ⟨k,rfl⟩:∃k:Nat,x=k:=⟨x.toNat,by omega⟩
 have w0:IntKind.i64.wrap ((n:Int)+2)=(n:Int)+2:=w64 (by omega)
 have w1:IntKind.i64.wrap ((k:Int)-1)=(k:Int)-1:=w64 (by omega)
 obtain ⟨b',Q,hs',hQ,e2⟩:=l_draw (p:=p) hn (b1:=.box false (D.arr 64 .leaf (ints .u8 (pad [])))) (n:=n+1) (by omega) k b2 (pad []) (by omega) hs2 (.zero p _)
 obtain ⟨q1,q2⟩:=hQ.pol
 refine ⟨polOf p Q,b',den_of hT rfl ?_,hs',q2⟩
 rw [←q1]
 obtain ⟨c,a,h,rfl,_⟩:=hs
 obtain ⟨c2,a2,h2,rfl,_⟩:=hs2
 obtain ⟨c',a',h',rfl,_⟩:=hs'
 simp -implicitDefEqProofs [Z3i,ir_spec_l01Draw_B,w0,e1,w1,e2,List.replicate,List.idxOf,List.findIdx,List.findIdx.go]
theorem DrI.up {p:Int} {Q:List Int} {n m:Nat} (h:DrI p Q n) (hm:n≤m):DrI p Q m:=⟨h.l,h.c,fun j hj=>h.z j (by omega)⟩
end Pe

namespace Pe
open Go Gq
variable {T:Nat→Option Fn} {A:Oracle}
def Arr (l:List Int):Prop:=l.length=64∧Bytes l
theorem arr_row {p:Int} [IsP p] (a:Fp p):Arr (pad (row a)):=⟨pad_length _,pad_bytes a⟩
end Pe

namespace Gq
def Pr (l:Nat):Prop:=2≤l∧∀d,d∣l→d=1∨d=l
theorem Pr.coprime {l n:Nat} (h:Pr l) (hn:¬ l∣n):Nat.Coprime l n:=by
 rcases h.2 _ (Nat.gcd_dvd_left l n) with h1 | h1
 ·exact h1
 ·exact absurd (h1▸Nat.gcd_dvd_right l n) hn
theorem pr_ex:∀(n:Nat),2≤n→∃l,Pr l∧l∣n:=by
 intro n
 induction n using Nat.strongRecOn with
 | ind n ih=>
  intro hn
  by_cases h:Pr n
  ·exact ⟨n,h,Nat.dvd_refl n⟩
  ·have:∃d,d∣n∧d≠1∧d≠n:=by
    apply Classical.byContradiction
    intro hno
    refine h ⟨hn,fun d hd=>?_⟩
    apply Classical.byContradiction
    intro h2
    exact hno ⟨d,hd,fun e=>h2 (.inl e),fun e=>h2 (.inr e)⟩
   obtain ⟨d,hd,h1,h2⟩:=this
   have hle:=Nat.le_of_dvd (by omega) hd
   have h0:d≠0:=fun e=>by
    rw [e] at hd
    have:=Nat.eq_zero_of_zero_dvd hd
    omega
   obtain ⟨l,hl,hld⟩:=ih d (by omega) (by omega)
   exact ⟨l,hl,Nat.dvd_trans hld hd⟩
theorem Pr.dvd_mul {l a b:Nat} (h:Pr l) (hd:l∣a*b):l∣a∨l∣b:=by
 by_cases ha:l∣a
 ·exact .inl ha
 ·exact .inr ((h.coprime ha).dvd_of_dvd_mul_left hd)
theorem Pr.dvd_pr {l q:Nat} (h:Pr l) (hq:Pr q) (hd:l∣q):l=q:=by
 rcases hq.2 l hd with h1 | h1
 ·have:=h.1; omega
 ·exact h1
theorem one_of {n:Nat} (h0:1≤n) (h:∀l,Pr l→¬ l∣n):n=1:=by
 apply Classical.byContradiction
 intro h1
 obtain ⟨l,hl,hd⟩:=pr_ex n (by omega)
 exact h l hl hd
section
variable {R:Type} [CR R]
theorem pw_dvd {x:R} {n k:Nat} (h:pw x n=1) (hd:n∣k):pw x k=1:=by
 obtain ⟨c,rfl⟩:=hd
 rw [←pw_pw,h,pw_one]
def Ord (x:R) (n:Nat):Prop:=∀k,pw x k=1↔n∣k
theorem Ord.self {x:R} {n:Nat} (h:Ord x n):pw x n=1:=(h n).2 (Nat.dvd_refl n)
theorem Ord.unique {x:R} {n m:Nat} (h:Ord x n) (h':Ord x m):n=m:=Nat.dvd_antisymm ((h m).1 h'.self) ((h' n).1 h.self)
theorem Ord.mul {a b:R} {m n:Nat} (ha:Ord a m) (hb:Ord b n) (h:Nat.Coprime m n):Ord (a*b) (m*n):=fun k=>by
 constructor
 ·intro hk
  have h1:m∣k:=by
   have e:pw a (k*n)=1:=by
    have e1:pw (a*b) (k*n)=1:=by rw [←pw_pw,hk,pw_one]
    rw [pw_mul,pw_dvd hb.self (Nat.dvd_mul_left n k),mul_one] at e1
    exact e1
   exact h.dvd_of_dvd_mul_right ((ha _).1 e)
  have h2:n∣k:=by
   have e:pw b (k*m)=1:=by
    have e1:pw (a*b) (k*m)=1:=by rw [←pw_pw,hk,pw_one]
    rw [pw_mul,pw_dvd ha.self (Nat.dvd_mul_left m k),one_mul] at e1
    exact e1
   exact h.symm.dvd_of_dvd_mul_right ((hb _).1 e)
  exact h.mul_dvd_of_dvd_of_dvd h1 h2
 ·intro hd
  rw [pw_mul,pw_dvd ha.self (Nat.dvd_trans (Nat.dvd_mul_right m n) hd),pw_dvd hb.self (Nat.dvd_trans (Nat.dvd_mul_left n m) hd),mul_one]
end
structure OrdI (n q rest order:Nat) (fin:Bool):Prop where
 dv:n∣order
 pos:1≤order
 low:∀l,Pr l→l<q→¬ l*n∣order∧¬ l∣rest
 rel:∃c,order=rest*c∧(∀l,Pr l→q<l→¬ l∣c)∧(fin=false→Pr q→¬ q∣c)
 fin:fin=true→¬ q*n∣order
theorem OrdI.rest_pos {n q rest order:Nat} {f:Bool} (h:OrdI n q rest order f):1≤rest:=by
 obtain ⟨c,e,-⟩:=h.rel
 have:=h.pos
 rcases Nat.eq_zero_or_pos rest with h0 | h0
 ·rw [h0,Nat.zero_mul] at e; omega
 ·exact h0
theorem OrdI.init {n N:Nat} (hN:1≤N) (h:n∣N):OrdI n 2 N N false where
 dv:=h
 pos:=hN
 low:=fun l hl h2=>by have:=hl.1; omega
 rel:=⟨1,(Nat.mul_one N).symm,fun l hl _ hd=>by have:=hl.1; have:=Nat.le_of_dvd (by omega) hd; omega,fun _ hq hd=>by have:=hq.1; have:=Nat.le_of_dvd (by omega) hd; omega⟩
 fin:=fun h=>by cases h
theorem OrdI.prime {n q rest order:Nat} {f:Bool} (h:OrdI n q rest order f) (h2:2≤q) (hd:q∣rest):Pr q:=by
 obtain ⟨l,hl,hlq⟩:=pr_ex q h2
 rcases Nat.lt_or_ge l q with h1 | h1
 ·exact absurd (Nat.dvd_trans hlq hd) (h.low l hl h1).2
 ·have:=Nat.le_of_dvd (by omega) hlq
  obtain rfl:l=q:=by omega
  exact hl
theorem OrdI.yes {n q r c':Nat} {f:Bool} (h:OrdI n q (q*r) (q*c') f) (h2:2≤q) (hd:n∣c'):OrdI n q r c' f where
 dv:=hd
 pos:=by
  have:=h.pos
  rcases Nat.eq_zero_or_pos c' with h0 | h0
  ·rw [h0,Nat.mul_zero] at this; omega
  ·exact h0
 low:=fun l hl h1=>by
  obtain ⟨a,b⟩:=h.low l hl h1
  exact ⟨fun e=>a (Nat.dvd_trans e (Nat.dvd_mul_left c' q)),fun e=>b (Nat.dvd_trans e (Nat.dvd_mul_left r q))⟩
 rel:=by
  obtain ⟨c,e,h3,h4⟩:=h.rel
  refine ⟨c,?_,h3,h4⟩
  rw [Nat.mul_assoc] at e
  exact Nat.eq_of_mul_eq_mul_left (by omega) e
 fin:=fun hf e=>h.fin hf (Nat.dvd_trans e (Nat.dvd_mul_left c' q))
theorem OrdI.no {n q r c':Nat} {f:Bool} (h:OrdI n q (q*r) (q*c') f) (h2:2≤q) (hd:¬ n∣c'):OrdI n q r (q*c') true where
 dv:=h.dv
 pos:=h.pos
 low:=fun l hl h1=>by
  obtain ⟨a,b⟩:=h.low l hl h1
  exact ⟨a,fun e=>b (Nat.dvd_trans e (Nat.dvd_mul_left r q))⟩
 rel:=by
  have hq:=h.prime h2 (Nat.dvd_mul_right q r)
  obtain ⟨c,e,h3,_⟩:=h.rel
  refine ⟨q*c,by rw [e,Nat.mul_assoc,Nat.mul_left_comm],fun l hl h4 hl2=>?_,fun hf=>by cases hf⟩
  rcases hl.dvd_mul hl2 with h5 | h5
  ·have:=hl.dvd_pr hq h5; omega
  ·exact h3 l hl h4 h5
 fin:=fun _ e=>hd (Nat.dvd_of_mul_dvd_mul_left (by omega) e)
theorem OrdI.next {n q rest order:Nat} {f:Bool} (h:OrdI n q rest order f) (h2:2≤q) (hd:¬ q∣rest):OrdI n (q+1) rest order false where
 dv:=h.dv
 pos:=h.pos
 low:=fun l hl h1=>by
  rcases Nat.lt_or_ge l q with h3 | h3
  ·exact h.low l hl h3
  ·obtain rfl:l=q:=by omega
   refine ⟨fun e=>?_,hd⟩
   cases f with
   | true=>exact h.fin rfl e
   | false=>
    obtain ⟨c,e1,_,h5⟩:=h.rel
    have:l∣rest*c:=e1▸Nat.dvd_trans (Nat.dvd_mul_right l n) e
    rcases hl.dvd_mul this with h6 | h6
    ·exact hd h6
    ·exact h5 rfl hl h6
 rel:=by
  obtain ⟨c,e1,h4,_⟩:=h.rel
  exact ⟨c,e1,fun l hl h5=>h4 l hl (by omega),fun _ hq=>h4 _ hq (by omega)⟩
 fin:=fun hf=>by cases hf
theorem OrdI.done {n q rest order:Nat} (h:OrdI n q rest order false) (hq:rest<q):order=n:=by
 have hr:rest=1:=one_of h.rest_pos fun l hl hd=>by
  have:=Nat.le_of_dvd h.rest_pos hd
  exact (h.low l hl (by omega)).2 hd
 obtain ⟨c,e1,h4,h5⟩:=h.rel
 rw [hr,Nat.one_mul] at e1
 obtain ⟨k,hk⟩:=h.dv
 have hk1:k=1:=one_of (by
  have:=h.pos
  rcases Nat.eq_zero_or_pos k with h0 | h0
  ·rw [h0,Nat.mul_zero] at hk; omega
  ·exact h0) fun l hl hd=>by
  have hln:l*n∣order:=by
   rw [hk,Nat.mul_comm l n]; exact Nat.mul_dvd_mul_left n hd
  rcases Nat.lt_or_ge l q with h6 | h6
  ·exact (h.low l hl h6).1 hln
  ·have hlc:l∣c:=e1▸Nat.dvd_trans (Nat.dvd_mul_right l n) hln
   rcases Nat.lt_or_ge q l with h7 | h7
   ·exact h4 l hl h7 hlc
   ·obtain rfl:l=q:=by omega
    exact h5 rfl hl hlc
 rw [hk,hk1,Nat.mul_one]
end Gq

namespace Pe
open Gq
section
variable {p:Int}
def IsPrim (m:Fp p) (k:Nat):Prop:=1≤k∧(k:Int)<p^(m.len-1)∧Ord (Quo.mk m (numP p k)) (p.toNat^(m.len-1)-1)∧∀j:Nat,1≤j→j<k→¬ Ord (Quo.mk m (numP p j)) (p.toNat^(m.len-1)-1)
theorem IsPrim.unique {m:Fp p} {j k:Nat} (hj:IsPrim m j) (hk:IsPrim m k):j=k:=by
 rcases Nat.lt_or_ge j k with h | h
 ·exact absurd hj.2.2.1 (hk.2.2.2 j hj.1 h)
 ·rcases Nat.lt_or_ge k j with h2 | h2
  ·exact absurd hk.2.2.1 (hj.2.2.2 k hk.1 h2)
  ·omega
noncomputable def dgF:Facs p→Nat
 | []=>0
 | x::L=>x.2*(x.1.len-1)+dgF L
theorem pw_len [IsP p] {q:Fp p} (h:Monic q):∀k,(pw q k).len=k*(q.len-1)+1
 | 0=>by rw [Nat.zero_mul]; exact Pol.len_one
 | k+1=>by
  have h1:=Pol.len_mul (Monic.pw h k).2 h.2
  have h2:=pw_len h k
  have h3:=Pol.len_pos h.2
  show (pw q k*q).len=_
  rw [Nat.succ_mul]; omega
theorem dgF_len [IsP p]:∀{L:Facs p},FacOk L→(prodF L).len=dgF L+1
 | [],_=>Pol.len_one
 | x::L,h=>by
  have hm:=(h.irr x (by simp)).2.1
  have ht:FacOk L:=⟨fun y hy=>h.irr y (by simp [hy]),h.dis.tail⟩
  have h1:=dgF_len ht
  have h2:=Pol.len_mul (Monic.pw hm x.2).2 (prodF_monic ht).2
  rw [pw_len hm] at h2
  rw [prodF_cons,dgF]; omega
end
end Pe


namespace Pe
open Go Gq
variable {T:Nat→Option Fn} {A:Oracle}
section
variable {p:Int} [IsP p]
end
section
variable {p:Int} [IsP p]
end
section
variable {p:Int} [IsP p]
end
end Pe

namespace Pe
open Go Gq
variable {T:Nat→Option Fn} {A:Oracle}
end Pe

namespace Pe
open Go Gq
variable {T:Nat→Option Fn} {A:Oracle}
section
variable {p:Int} [IsP p]
theorem IsFac.small {m:Fp p} (hm:m≠0) (hl:m.len≤13) {L:Facs p} (h:IsFac m L):(∀x∈L,2≤x.1.len∧x.1.len≤13∧1≤x.2∧x.2≤12)∧dgF L+1=m.len:=by
 refine ⟨fun x hx=>?_,?_⟩
 ·obtain ⟨q1,q2,q3,_⟩:=h.len hm hx
  exact ⟨q1,by omega,(h.ok.irr x hx).2.2,by omega⟩
 ·rw [←dgF_len h.ok]
  conv=>rhs; rw [h.eq]
  exact (Pol.len_Cmul (Pol.ld_ne hm) _).symm
end
section
variable {p:Int} [IsP p]
end
end Pe

namespace Pe
open Go Gq
variable {T:Nat→Option Fn} {A:Oracle}
section
variable {p:Int} [IsP p]
end
end Pe

namespace Pe
open Go Gq
variable {T:Nat→Option Fn} {A:Oracle}
def fineP (p:Int):Int:=if isP p then p else 3
theorem fineP_ok (p:Int):IsP (fineP p):=by
 unfold fineP
 by_cases h:isP p=true
 ·rw [if_pos h]; exact isP_of h
 ·rw [if_neg h]; exact ⟨by omega⟩
def C_sFine (O:Oracle):Prop:=∀p:Int,ask O F41 [(D.int .i64 p)]=some (D.int .i64 (fineP p))
theorem c_sFine (hT:T F41=some Z41) (hp:C_sPrime (den T A)):C_sFine (den T A):=by
 intro p
 have e:=hp p
 unfold fineP
 refine ask_of hT rfl ?_
 by_cases h:isP p=true
 ·rw [h] at e
  rw [if_pos h]
  simp -implicitDefEqProofs [Z41,Z41_B,dn_cond,e]
 ·rw [Bool.not_eq_true] at h
  rw [h] at e
  rw [if_neg (by rw [h]; exact Bool.false_ne_true)]
  simp -implicitDefEqProofs [Z41,Z41_B,dn_cond,e]
end Pe

namespace Pe
open Go Gq
section
variable {p:Int}
end
section
variable {p:Int} [IsP p]
end
end Pe

namespace Pe
open Go Gq
variable {T:Nat→Option Fn} {A:Oracle}
section
variable {p:Int} [IsP p]
end
end Pe

namespace Pe
open Go Gq
variable {T:Nat→Option Fn} {A:Oracle}
section
variable {p:Int} [ip:IsP p] {M X:Fp p}
end
end Pe

namespace Pe
open Go Gq
variable {T:Nat→Option Fn} {A:Oracle}
end Pe

namespace Pe
open Go Gq
variable {T:Nat→Option Fn} {A:Oracle}
end Pe

namespace Pe
open Go Gq
variable {T:Nat→Option Fn} {A:Oracle}
def C_big (O:Oracle):Prop:=∀L:List D,ask O F26 [.sl .leaf L]=some (D.bool (decide ((4096:Int)<L.length)))
theorem two_code {p:Int} [IsP p] (a b:Fp p):codeP p [pad (row a),pad (row b)]=0:=codeP_good [a,b]
theorem c_big (hT:T F26=some Z26):C_big (den T A):=by
 intro L
 refine ask_of hT rfl ?_
 simp -implicitDefEqProofs [Z26,Z26_B]
end Pe

namespace Pe
open Go Gq
variable {T:Nat→Option Fn} {A:Oracle}
theorem l_roll {O:Oracle} {code:List Int} (hc:code.length≤4096) (hb:Bytes code):∀(r i:Nat) (h:Int),i+r=code.length→∃h':Int,
 dn O 0 (.loop Z2a_L0) ⟨[(0,.d (.sl .leaf (ints .u8 code))),(5,.ptr 0 []),(6,(.d (.int .i64 i)))],[srcB code 0 h]⟩ =
  some (.exit 0,⟨[(0,.d (.sl .leaf (ints .u8 code))),(5,.ptr 0 []),(6,(.d (.int .i64 code.length))),(19,(.d (.bool false)))],[srcB code 0 h']⟩)
 | 0,i,h,hi=>by
  obtain rfl:i=code.length:=by omega
  refine ⟨h,dn_stop ?_⟩
  simp -implicitDefEqProofs [Z2a_L0,dn_cond]
 | r+1,i,h,hi=>by
  have hlt:i<code.length:=by omega
  have hlt':(i:Int)<code.length:=by omega
  have hbk:=hb _ (List.getElem_mem hlt)
  have w4:IntKind.i64.wrap ((i:Int)+1)=((i+1:Nat):Int):=(w64 (x:=(i:Int)+1) (by omega)).trans (by omega)
  obtain ⟨h2,hh2⟩:∃h2:Int,IntKind.u64.wrap (IntKind.u64.wrap (IntKind.u64.wrap (h*1099511628211)+IntKind.u64.wrap code[i])+5)=h2:=⟨_,rfl⟩
  obtain ⟨h',ih⟩:=l_roll hc hb r (i+1) h2 (by omega)
  refine ⟨h',dn_round ?_ ih⟩
  simp -implicitDefEqProofs [Z2a_L0,dn_cond,hlt,hlt',w4,hh2]
def H_roll (O:Oracle):Prop:=∀(code:List Int) (s:Int),Bytes code→code.length≤4096→∃b:Blk,O F2a [.d (.sl .leaf (ints .u8 code)),.d (.int .u64 s)] []=some (.ptr 0 [],[],[b])∧Src b
theorem h_roll (hT:T F2a=some Z2a):H_roll (den T A):=by
 intro code s hb hc
 obtain ⟨h0,hh0⟩:∃h0:Int,IntKind.u64.wrap (IntKind.u64.wrap (s*8219)+IntKind.u64.wrap (code.length:Int))=h0:=⟨_,rfl⟩
 obtain ⟨h',e⟩:=l_roll (O:=den T A) hc hb code.length 0 h0 (Nat.zero_add _)
 rw [show ((0:Nat):Int)=0 from rfl,show srcB code 0 h0=.box false (.st [.leaf,.leaf,.leaf] [.sl .leaf (ints .u8 code),.int .i64 0,.int .u64 h0]) from rfl] at e
 refine ⟨srcB code 0 h',den_of hT rfl ?_,⟨code,0,h',rfl,Nat.zero_le _,by omega,hb⟩⟩
 simp -implicitDefEqProofs [Z2a,Z2a_B,hh0,e,List.idxOf,List.findIdx,List.findIdx.go]
theorem h_below (hT:T F27=some Z27):H_next (den T A) F27:=by
 rintro b n ⟨code,k,h,rfl,hk,hc,hb⟩ hn
 by_cases h1:n<1
 ·refine ⟨0,_,den_of hT rfl ?_,⟨code,k,h,rfl,hk,hc,hb⟩,Int.le_refl _,.inr rfl⟩
  simp -implicitDefEqProofs [Z27,ir_laws_dice_below_B,dn_cond,h1]
 ·obtain ⟨hh,hhh⟩:∃hh:Int,IntKind.u64.wrap (IntKind.u64.wrap (h*6364136223846793005)+1442695040888963407)=hh:=⟨_,rfl⟩
  have hx:=andI_le (hh.fdiv 8589934592)
  obtain ⟨x,hX⟩:∃x:Int,andI .u64 (hh.fdiv 8589934592) 16777215=x:=⟨_,rfl⟩
  rw [hX] at hx
  have w0:IntKind.i64.wrap x=x:=w64 (by omega)
  have hn0:¬ n=0:=by omega
  have tm:∀y:Int,0≤y→0≤y.tmod n∧y.tmod n<n:=fun y hy=>by
   rw [Int.tmod_eq_emod_of_nonneg hy]
   exact ⟨Int.emod_nonneg _ hn0,Int.emod_lt_of_pos _ (by omega)⟩
  by_cases h2:k<code.length
  ·have hbk:=hb _ (List.getElem_mem h2)
   have h2':(k:Int)<code.length:=by omega
   have w1:IntKind.i64.wrap code[k]=code[k]:=w64 (by omega)
   have w2:IntKind.i64.wrap (x+code[k])=x+code[k]:=w64 (by omega)
   have w3:IntKind.i64.wrap ((k:Int)+1)=((k+1:Nat):Int):=(w64 (x:=(k:Int)+1) (by omega)).trans (by omega)
   obtain ⟨t1,t2⟩:=tm (x+code[k]) (by omega)
   refine ⟨(x+code[k]).tmod n,srcB code (k+1) hh,den_of hT rfl ?_,⟨code,k+1,hh,rfl,by omega,hc,hb⟩,t1,.inl t2⟩
   simp -implicitDefEqProofs [Z27,ir_laws_dice_below_B,dn_cond,shiftI,shr33,h1,hn0,h2,h2',hhh,hX,w0,w1,w2,w3]
  ·have h2':¬ (k:Int)<code.length:=by omega
   obtain ⟨t1,t2⟩:=tm x (by omega)
   refine ⟨x.tmod n,srcB code k hh,den_of hT rfl ?_,⟨code,k,hh,rfl,hk,hc,hb⟩,t1,.inl t2⟩
   simp -implicitDefEqProofs [Z27,ir_laws_dice_below_B,dn_cond,shiftI,shr33,h1,hn0,h2',hhh,hX,w0]
theorem l_poly9 {O:Oracle} (hn:H_next O F27) {p:Int} [IsP p] {b1:Blk} {n:Nat} (hn64:n≤60):∀(r i:Nat) (b:Blk) (Q:List Int),i+r=n+1→Src b→DrI p Q (n+1)→∃(b':Blk) (Q':List Int),Src b'∧DrI p Q' (n+1) ∧
 dn O 1 (.loop Z28_L0) ⟨[(0,.ptr 0 []),(1,(.d (.int .i64 p))),(2,(.d (.int .i64 ((n:Int))))),(6,.ptr 1 []),(7,.ptr 2 []),(8,(.d (.int .i64 i)))],[b,b1,.box false (D.arr 64 .leaf (ints .u8 Q))]⟩ =
  some (.exit 0,⟨[(0,.ptr 0 []),(1,(.d (.int .i64 p))),(2,(.d (.int .i64 ((n:Int))))),(6,.ptr 1 []),(7,.ptr 2 []),(8,(.d (.int .i64 (((n+1:Nat):Int))))),(12,(.d (.bool false)))],[b',b1,.box false (D.arr 64 .leaf (ints .u8 Q'))]⟩)
 | 0,i,b,Q,hi,hs,hQ=>by
  obtain rfl:i=n+1:=by omega
  refine ⟨b,Q,hs,hQ,dn_stop ?_⟩
  obtain ⟨c,a,h,rfl,_⟩:=hs
  have hle:¬ ((n+1:Nat):Int)≤n:=by omega
  generalize ((n+1:Nat):Int)=nn at *
  simp -implicitDefEqProofs [Z28_L0,dn_cond,hle]
 | r+1,i,b,Q,hi,hs,hQ=>by
  have hp:=IsP.ge (p:=p)
  have hp7:=IsP.le (p:=p)
  obtain ⟨y,b3,e2,hs3,y0,y1⟩:=hn b p hs (by omega)
  have w2:IntKind.u8.wrap y=y:=w8 (by omega)
  have w4:IntKind.i64.wrap ((i:Int)+1)=((i+1:Nat):Int):=(w64 (x:=(i:Int)+1) (by omega)).trans (by omega)
  have hle:i≤n:=by omega
  have hiQ:i<Q.length:=by rw [hQ.l]; omega
  have hi64:i<64:=by omega
  obtain ⟨b',Q',hs',hQ',ih⟩:=l_poly9 hn (b1:=b1) hn64 r (i+1) b3 (Q.set i y) (by omega) hs3 (hQ.set y0 (by omega) (by omega))
  refine ⟨b',Q',hs',hQ',dn_round ?_ ih⟩
  obtain ⟨c,a,h,rfl,_⟩:=hs
  obtain ⟨c3,a3,h3,rfl,_⟩:=hs3
  simp -implicitDefEqProofs [Z28_L0,dn_cond,hle,e2,w2,w4,hiQ,hi64,List.idxOf,List.findIdx,List.findIdx.go]
def H_poly9 (O:Oracle):Prop:=∀(p:Int) [IsP p] (b:Blk) (n:Nat),Src b→n≤60→∃(a:Fp p) (b':Blk),O F28 [.ptr 0 [],(.d (.int .i64 p)),(.d (.int .i64 ((n:Int))))] [b]=some (.d (D.arr 64 .leaf (ints .u8 (pad (row a)))),[b'],[])∧Src b'∧a.len≤n+1
theorem h_poly9 (hT:T F28=some Z28) (hn:H_next (den T A) F27):H_poly9 (den T A):=by
 intro p ip b n hs h60
 obtain ⟨b',Q,hs',hQ,e2⟩:=l_poly9 (p:=p) hn (b1:=.box false (D.arr 64 .leaf (ints .u8 (pad [])))) (n:=n) h60 (n+1) 0 b (pad []) (by omega) hs (.zero p _)
 rw [show ((0:Nat):Int)=0 from rfl] at e2
 obtain ⟨q1,q2⟩:=hQ.pol
 refine ⟨polOf p Q,b',den_of hT rfl ?_,hs',q2⟩
 rw [←q1]
 obtain ⟨c,a,h,rfl,_⟩:=hs
 obtain ⟨c',a',h',rfl,_⟩:=hs'
 simp -implicitDefEqProofs [Z28,Z28_B,e2,List.replicate,List.idxOf,List.findIdx]
end Pe

namespace Pe
open Go Gq
variable {T:Nat→Option Fn} {A:Oracle}
theorem arr2 {a m:List Int} (ha:Bytes a) (gl:a.length=64) (hm:Bytes m) (glm:m.length=64):Arrs [a,m]:=fun x hx=>by
 simp at hx
 rcases hx with rfl | rfl
 ·exact ⟨gl,ha⟩
 ·exact ⟨glm,hm⟩
def K_MultiplyPolys (O:Oracle):Prop:=∀(p:Int) [IsP p] (a b:Fp p),a.len≤64→b.len≤64→ask O Fi [(D.int .i64 p),(D.arr 64 .leaf (ints .u8 (pad (row a)))),(D.arr 64 .leaf (ints .u8 (pad (row b))))]=some (if (a*b).len≤64 then .tup [(D.arr 64 .leaf (ints .u8 (pad (row (a*b))))),(D.int .i64 0)] else .tup [(D.arr 64 .leaf (ints .u8 (pad []))),(D.int .i64 3)])
theorem k_MultiplyPolys (hT:T Fi=some Zi) (hpc:C_polysCode (den T A)) (hro:K_rowOf (den T A)) (hti:K_times (den T A)) (hto:C_told (den T A)):K_MultiplyPolys (den T A):=by
 intro p ip X M hX hM
 have e1:=hpc p [pad (row X),pad (row M)] (arr2 (pad_bytes X) (pad_length _) (pad_bytes M) (pad_length _)) (by simp)
 rw [two_code,show [pad (row X),pad (row M)].map arr8=[(D.arr 64 .leaf (ints .u8 (pad (row X)))),(D.arr 64 .leaf (ints .u8 (pad (row M))))] from rfl] at e1
 have e2:=hro p X hX
 have e3:=hro p M hM
 have e4:=hti p X M (by omega) (by omega)
 have hl:(X*M).len<1000000:=by
  by_cases h0:X=0
  ·rw [h0,Gq.zero_mul,Pol.len_zero]; omega
  ·by_cases h1:M=0
   ·rw [h1,Gq.mul_zero,Pol.len_zero]; omega
   ·have:=Pol.len_mul h0 h1
    omega
 have e5:=hto (row (X*M)) (row_bytes _) (by rw [row_length]; exact hl)
 unfold toldD at e5
 rw [row_length] at e5
 refine ask_of hT rfl ?_
 generalize pad (row (X*M))=Pr at *
 generalize row (X*M)=Rr at *
 generalize pad (row X)=Px at *
 generalize row X=Rx at *
 generalize pad (row M)=Pm at *
 generalize row M=Rm at *
 by_cases h:(X*M).len≤64
 ·rw [if_pos h] at e5 ⊢
  simp -implicitDefEqProofs [Zi,Zi_B,dn_cond,e1,e2,e3,e4,e5,List.replicate]
 ·rw [if_neg h] at e5 ⊢
  simp -implicitDefEqProofs [Zi,Zi_B,dn_cond,e1,e2,e3,e4,e5,List.replicate]
end Pe

namespace Pe
open Go Gq
variable {T:Nat→Option Fn} {A:Oracle}
theorem num_deg {p:Int} [IsP p] {n:Nat} (hn:n≤8) {x:Int} (h0:0≤x) (h1:x<p^n):(numP p (p^n+x)).len≤n+1∧numP p (p^n+x)≠0:=by
 have h2:=ppow_le (p:=p) (n:=n) (by omega)
 have hpos:=ppow_pos (p:=p) n
 have hp:=IsP.ge (p:=p)
 have hok:NumOk (p^n+x):=⟨by omega,by omega⟩
 refine ⟨Pol.len_le (numP_lt (p:=p) hok ?_),fun h=>?_⟩
 ·rw [Int.pow_succ]
  have:p^n*2≤p^n*p:=Int.mul_le_mul_of_nonneg_left hp (by omega)
  omega
 ·rw [←numP_zero (p:=p)] at h
  have:=numP_inj hok ⟨by omega,by omega⟩ h
  omega
theorem irr_X {p:Int} [IsP p]:Irr (Pol.X:Fp p):=Irr.of_dv (by rw [Pol.len_X]; omega) fun u hu=>by
 have hX:(Pol.X:Fp p)≠0:=Pol.X_ne
 have h1:=hu.len hX
 have h2:u≠0:=fun h=>hX (by obtain ⟨c,hc⟩:=hu; rw [hc,h,Gq.zero_mul])
 have h3:=Pol.len_pos h2
 rw [Pol.len_X] at h1 ⊢
 omega
theorem fld_X {p:Int} [IsP p]:Fld (Pol.X:Fp p):=⟨⟨by rw [Pol.ld,Pol.len_X]; rfl,Pol.X_ne⟩,by rw [Pol.len_X]; omega,by rw [Pol.len_X]; omega,irr_X⟩
open Classical in
theorem l_dm6 {O:Oracle} (hn:H_next O F3s) (hpw:K_sPower O) (hof:K_sOf O) (hir:K_sIrr O) {p:Int} [IsP p] {n:Nat} (hn1:1≤n) (hn4:n≤4) {z:List Int}:∀(r k:Nat) (b:Blk),k+r=30→Src b→∃b':Blk,Src b' ∧
 (dn O 1 (.loop Z4b_L0) ⟨[(0,.ptr 0 []),(1,(.d (.int .i64 p))),(4,.ptr 1 []),(5,(.d (.int .i64 n))),(6,(.d (.int .i64 k)))],[b,.box false (D.arr 64 .leaf (ints .u8 z)),.hole,.hole]⟩ =
  some (.exit 0,⟨[(0,.ptr 0 []),(1,(.d (.int .i64 p))),(4,.ptr 1 []),(5,(.d (.int .i64 n))),(6,(.d (.int .i64 30))),(16,(.d (.bool false)))],[b',.box false (D.arr 64 .leaf (ints .u8 z)),.hole,.hole]⟩) ∨
 ∃a:Fp p,Fld a∧dn O 1 (.loop Z4b_L0) ⟨[(0,.ptr 0 []),(1,(.d (.int .i64 p))),(4,.ptr 1 []),(5,(.d (.int .i64 n))),(6,(.d (.int .i64 k)))],[b,.box false (D.arr 64 .leaf (ints .u8 z)),.hole,.hole]⟩ =
  some (.ret,⟨[(4,.ptr 1 [])],[b',.box false (D.arr 64 .leaf (ints .u8 (pad (row a)))),.hole,.hole]⟩))
 | 0,k,b,hk,hs=>by
  obtain rfl:k=30:=by omega
  refine ⟨b,hs,.inl (dn_stop ?_)⟩
  obtain ⟨c,a,h,rfl,_⟩:=hs
  simp -implicitDefEqProofs [Z4b_L0,dn_cond]
 | r+1,k,b,hk,hs=>by
  have hk4:(k:Int)<30:=by omega
  have hpl:=ppow_le (p:=p) (n:=n) (by omega)
  have hpos:=ppow_pos (p:=p) n
  have e0:=hpw p n (by omega)
  obtain ⟨x,b2,e1,hs2,x0,x1⟩:=hn b (p^n) hs (by omega)
  obtain ⟨g1,g2⟩:=num_deg (p:=p) (n:=n) (by omega) x0 (by omega)
  have w1:IntKind.i64.wrap (p^n+x)=p^n+x:=w64 (by omega)
  have e2:=hof p (p^n+x) (by omega) (by omega)
  have e3:=hir p (numP p (p^n+x)) g2 (by omega)
  have w4:IntKind.i64.wrap ((k:Int)+1)=((k+1:Nat):Int):=(w64 (x:=(k:Int)+1) (by omega)).trans (by omega)
  by_cases hI:Irr (numP p (p^n+x))
  ·rw [decide_eq_true hI] at e3
   have hM:=numP_monic (p:=p) (n:=n) (by omega) (k:=p^n+x) (by omega) (by omega)
   refine ⟨b2,hs2,.inr ⟨numP p (p^n+x),⟨hM.1,by omega,by omega,hI⟩,dn_back ?_⟩⟩
   obtain ⟨c,a0,h,rfl,_⟩:=hs
   obtain ⟨c2,a2,h2,rfl,_⟩:=hs2
   generalize pad (row (numP p (p^n+x)))=Pn at *
   generalize p^n=N at *
   simp -implicitDefEqProofs [Z4b_L0,dn_cond,hk4,e0,e1,e2,e3,w1,List.idxOf,List.findIdx,List.findIdx.go]
  ·rw [decide_eq_false hI] at e3
   obtain ⟨b',hs',ih⟩:=l_dm6 hn hpw hof hir (p:=p) hn1 hn4 (z:=z) r (k+1) b2 (by omega) hs2
   have key:dn O 1 Z4b_L0 ⟨[(0,.ptr 0 []),(1,(.d (.int .i64 p))),(4,.ptr 1 []),(5,(.d (.int .i64 n))),(6,(.d (.int .i64 k)))],[b,.box false (D.arr 64 .leaf (ints .u8 z)),.hole,.hole]⟩=some (.normal,⟨[(0,.ptr 0 []),(1,(.d (.int .i64 p))),(4,.ptr 1 []),(5,(.d (.int .i64 n))),(6,(.d (.int .i64 (((k+1:Nat):Int)))))],[b2,.box false (D.arr 64 .leaf (ints .u8 z)),.hole,.hole]⟩):=by
    obtain ⟨c,a0,h,rfl,_⟩:=hs
    obtain ⟨c2,a2,h2,rfl,_⟩:=hs2
    generalize pad (row (numP p (p^n+x)))=Pn at *
    generalize p^n=N at *
    simp -implicitDefEqProofs [Z4b_L0,dn_cond,hk4,e0,e1,e2,e3,w1,w4,List.idxOf,List.findIdx,List.findIdx.go]
   exact ⟨b',hs',ih.imp (dn_round key) (fun ⟨a,h1,h3⟩=>⟨a,h1,dn_round key h3⟩)⟩
def H_l06DrawMod (O:Oracle):Prop:=∀(p:Int) [IsP p] (b:Blk),Src b→∃(a:Fp p) (b':Blk),O F4b [.ptr 0 [],(.d (.int .i64 p))] [b]=some (.d (D.arr 64 .leaf (ints .u8 (pad (row a)))),[b'],[])∧Src b'∧Fld a
theorem h_l06DrawMod (hT:T F4b=some Z4b) (hn:H_next (den T A) F3s) (hp:H_pick (den T A)) (hpw:K_sPower (den T A)) (hof:K_sOf (den T A)) (hir:K_sIrr (den T A)) (ht:K_sT (den T A)):H_l06DrawMod (den T A):=by
 intro p ip b hs
 have e0:=ht p
 obtain ⟨x,b1,e1,hs1,hx⟩:=hp b [1,2,2,3,3,4] 6 (some 6) hs rfl (by omega) (by omega)
 rw [show ints .i64 [1,2,2,3,3,4]=[.int .i64 1,.int .i64 2,.int .i64 2,.int .i64 3,.int .i64 3,.int .i64 4] from rfl] at e1
 have hx2:1≤x∧x≤4:=by simp at hx; omega
 obtain ⟨n,hn2,hn1,hn4⟩:∃n:Nat,(n:Int)=(if 3<p then (if 2<x then 2 else x) else x)∧1≤n∧n≤4:=by
  split
  ·split
   ·exact ⟨2,rfl,by omega,by omega⟩
   ·exact ⟨x.toNat,by omega,by omega,by omega⟩
  ·exact ⟨x.toNat,by omega,by omega,by omega⟩
 obtain ⟨b',hs',st⟩:=l_dm6 (O:=den T A) hn hpw hof hir (p:=p) hn1 hn4 (z:=pad []) 30 0 b1 rfl hs1
 rw [hn2,show ((0:Nat):Int)=0 from rfl] at st
 rcases st with st | ⟨a,fa,st⟩
 ·refine ⟨Pol.X,b',den_of hT rfl ?_,hs',fld_X⟩
  obtain ⟨_,_,_,rfl,_⟩:=hs
  obtain ⟨_,_,_,rfl,_⟩:=hs1
  obtain ⟨_,_,_,rfl,_⟩:=hs'
  generalize pad (row (Pol.X:Fp p))=PX at *
  by_cases h3:3<p
  ·rw [if_pos h3] at st
   simp -implicitDefEqProofs [Z4b,Z4b_B,dn_cond,e0,e1,h3,st,List.replicate,List.idxOf,List.findIdx,List.findIdx.go]
  ·rw [if_neg h3] at st
   simp -implicitDefEqProofs [Z4b,Z4b_B,dn_cond,e0,e1,h3,st,List.replicate,List.idxOf,List.findIdx,List.findIdx.go]
 ·refine ⟨a,b',den_of hT rfl ?_,hs',fa⟩
  obtain ⟨_,_,_,rfl,_⟩:=hs
  obtain ⟨_,_,_,rfl,_⟩:=hs1
  obtain ⟨_,_,_,rfl,_⟩:=hs'
  generalize pad (row a)=Pa at *
  by_cases h3:3<p
  ·rw [if_pos h3] at st
   simp -implicitDefEqProofs [Z4b,Z4b_B,dn_cond,e1,h3,st,List.replicate,List.idxOf,List.findIdx,List.findIdx.go]
  ·rw [if_neg h3] at st
   simp -implicitDefEqProofs [Z4b,Z4b_B,dn_cond,e1,h3,st,List.replicate,List.idxOf,List.findIdx,List.findIdx.go]
def H_l06Of (O:Oracle):Prop:=∀(p:Int) [IsP p] (a:Fp p) (b:Blk),Src b→a≠0→2≤a.len→a.len≤5→∃(g d:Fp p) (b':Blk),O F4d [.ptr 0 [],(.d (.int .i64 p)),.d (D.arr 64 .leaf (ints .u8 (pad (row a))))] [b]=some (.d (drD p (pad (row a)) (pad (row g)) (pad (row d))),[b'],[])∧Src b'∧g.len<a.len∧d.len<a.len∧d≠0
theorem h_l06Of (hT:T F4d=some Z4d) (hn:H_next (den T A) F3s) (hdg:K_sDeg (den T A)) (hcn:K_sCount (den T A)) (hof:K_sOf (den T A)):H_l06Of (den T A):=by
 intro p ip a b hs a0 a2 a5
 have hap:=Pol.len_pos a0
 have e1:=hdg p a (by omega)
 rw [show ((a.len:Int)-1)=((a.len-1:Nat):Int) by omega] at e1
 have e2:=k_sCount' hcn p (a.len-1) (by omega)
 have hpl:=ppow_le (p:=p) (n:=a.len-1) (by omega)
 have hpos:=ppow_pos (p:=p) (a.len-1)
 obtain ⟨x,b1,e3,hs1,x0,x1⟩:=hn b (p^(a.len-1)) hs (by omega)
 have e4:=hof p x x0 (by omega)
 have w1:IntKind.i64.wrap (p^(a.len-1)-1)=p^(a.len-1)-1:=w64 (by omega)
 obtain ⟨y,b2,e5,hs2,y0,y1⟩:=hn b1 (p^(a.len-1)-1) hs1 (by omega)
 have w2:IntKind.i64.wrap (1+y)=1+y:=w64 (by omega)
 have e6:=hof p (1+y) (by omega) (by omega)
 have hp:=IsP.ge (p:=p)
 have hp1:2≤p^(a.len-1):=by
  obtain ⟨k,hk⟩:∃k,a.len-1=k+1:=⟨a.len-2,by omega⟩
  have hk1:=ppow_pos (p:=p) k
  rw [hk,Int.pow_succ]
  have:1*2≤p^k*p:=Int.mul_le_mul (by omega) hp (by omega) (by omega)
  omega
 have l1:(numP p x).len≤a.len-1:=Pol.len_le (numP_lt (p:=p) ⟨x0,by omega⟩ (by omega))
 have l2:(numP p (1+y)).len≤a.len-1:=Pol.len_le (numP_lt (p:=p) ⟨by omega,by omega⟩ (by omega))
 have l3:numP p (1+y)≠0:=fun h=>by
  rw [←numP_zero (p:=p)] at h
  have:=numP_inj ⟨by omega,by omega⟩ ⟨by omega,by omega⟩ h
  omega
 refine ⟨numP p x,numP p (1+y),b2,den_of hT rfl ?_,hs2,by omega,by omega,l3⟩
 obtain ⟨_,_,_,rfl,_⟩:=hs
 obtain ⟨_,_,_,rfl,_⟩:=hs1
 obtain ⟨_,_,_,rfl,_⟩:=hs2
 generalize pad (row (numP p x))=Px at *
 generalize pad (row (numP p (1+y)))=Py at *
 generalize pad (row a)=Pa at *
 generalize p^(a.len-1)=N at *
 generalize ((a.len-1:Nat):Int)=L at *
 simp -implicitDefEqProofs [Z4d,Z4d_B,e1,e2,e3,e4,e5,e6,w1,w2,List.replicate,List.idxOf,List.findIdx,List.findIdx.go]
def H_l06Draw (O:Oracle):Prop:=∀b:Blk,Src b→∃(p:Int) (u v w:List Int) (b':Blk),O F4a [.ptr 0 []] [b]=some (.d (drD p u v w),[b'],[])∧Src b'∧0≤p∧p<256∧Arr u∧Arr v∧Arr w∧IsDr p u v w
theorem h_l06Draw (hT:T F4a=some Z4a) (hp:H_pick (den T A)) (hm:H_l06DrawMod (den T A)) (ho:H_l06Of (den T A)):H_l06Draw (den T A):=by
 intro b hs
 obtain ⟨p,b1,e1,hs1,hx⟩:=hp b [2,2,3,3,5,7] 6 (some 6) hs rfl (by omega) (by omega)
 rw [show ints .i64 [2,2,3,3,5,7]=[.int .i64 2,.int .i64 2,.int .i64 3,.int .i64 3,.int .i64 5,.int .i64 7] from rfl] at e1
 haveI ip:IsP p:=⟨by simp at hx; omega⟩
 have hp2:=IsP.ge (p:=p)
 have hp7:=IsP.le (p:=p)
 obtain ⟨a,b2,e2,hs2,fa⟩:=hm p b1 hs1
 obtain ⟨g,d,b3,e3,hs3,g1,g2,g3⟩:=ho p a b2 hs2 fa.mon.2 fa.two fa.five
 refine ⟨p,pad (row a),pad (row g),pad (row d),b3,den_of hT rfl ?_,hs3,by omega,by omega,arr_row a,arr_row g,arr_row d,ip,a,g,d,rfl,rfl,rfl,fa,g1,g2,g3⟩
 obtain ⟨_,_,_,rfl,_⟩:=hs
 obtain ⟨_,_,_,rfl,_⟩:=hs1
 obtain ⟨_,_,_,rfl,_⟩:=hs2
 obtain ⟨_,_,_,rfl,_⟩:=hs3
 generalize pad (row a)=Pa at *
 generalize pad (row g)=Pg at *
 generalize pad (row d)=Pd at *
 simp -implicitDefEqProofs [Z4a,ir_spec_l06Draw_B,e1,e2,e3,List.replicate,List.idxOf,List.findIdx,List.findIdx.go]
end Pe

namespace Pe
open Go Gq
variable {T:Nat→Option Fn} {A:Oracle}
theorem arr_set {l:List Int} (h:Arr l) {x:Int} (h0:0≤x) (h1:x<256) (i:Nat):Arr (l.set i x):=
 ⟨by rw [List.length_set]; exact h.1,fun z hz=>by
  rcases List.mem_or_eq_of_mem_set hz with g | rfl
  ·exact h.2 z g
  ·exact ⟨h0,h1⟩⟩
theorem arr_zero:Arr (pad []):=⟨pad_length _,fun x hx=>by
 unfold pad at hx
 obtain ⟨a,_,rfl⟩:∃a,a<64∧cf [] a=x:=by simpa using hx
 rw [cf_ge (Nat.zero_le _)]
 omega⟩
def H_l06Bad (O:Oracle):Prop:=∀(b:Blk) (p:Int) (u v w:List Int),Src b→0≤p→p<256→Arr u→Arr v→Arr w→∃(p':Int) (u' v' w':List Int) (b':Blk),O F46 [.ptr 0 [],.d (drD p u v w)] [b]=some (.d (drD p' u' v' w'),[b'],[])∧Src b'∧0≤p'∧p'<256∧Arr u'∧Arr v'∧Arr w'
theorem h_l06Bad (hT:T F46=some Z46) (hn:H_next (den T A) F3s) (hp:H_pick (den T A)):H_l06Bad (den T A):=by
 intro b p u v w hs p0 p1 au av aw
 obtain ⟨x,b2,e1,hs2,x0,x1⟩:=hn b 40 hs (by omega)
 have hvl:=av.1
 by_cases c0:x=0
 ·obtain ⟨q,b3,e2,hs3,hq⟩:=hp b2 [0,4,11] 3 (some 3) hs2 rfl (by omega) (by omega)
  rw [show ints .i64 [0,4,11]=[.int .i64 0,.int .i64 4,.int .i64 11] from rfl] at e2
  refine ⟨q,u,v,w,b3,den_of hT rfl ?_,hs3,by simp at hq; omega,by simp at hq; omega,au,av,aw⟩
  subst c0
  obtain ⟨_,_,_,rfl,_⟩:=hs
  obtain ⟨_,_,_,rfl,_⟩:=hs2
  obtain ⟨_,_,_,rfl,_⟩:=hs3
  simp -implicitDefEqProofs [Z46,Z46_B,dn_cond,e1,e2,List.replicate,List.idxOf,List.findIdx,List.findIdx.go]
 ·by_cases c1:x=1
  ·refine ⟨p,u,v,pad [],b2,den_of hT rfl ?_,hs2,p0,p1,au,av,arr_zero⟩
   subst c1
   obtain ⟨_,_,_,rfl,_⟩:=hs
   obtain ⟨_,_,_,rfl,_⟩:=hs2
   simp -implicitDefEqProofs [Z46,Z46_B,dn_cond,e1,List.replicate,List.idxOf,List.findIdx,List.findIdx.go]
  ·by_cases c2:x=2
   ·refine ⟨p,(((pad []).set 0 0).set 1 0).set 2 1,v,w,b2,den_of hT rfl ?_,hs2,p0,p1,arr_set (arr_set (arr_set arr_zero (by omega) (by omega) 0) (by omega) (by omega) 1) (by omega) (by omega) 2,av,aw⟩
    subst c2
    obtain ⟨_,_,_,rfl,_⟩:=hs
    obtain ⟨_,_,_,rfl,_⟩:=hs2
    have q0:(pad [])[0]? = some 0:=rfl
    have q1:(pad [])[1]? = some 0:=rfl
    have q2:(pad [])[2]? = some 0:=rfl
    simp -implicitDefEqProofs [Z46,Z46_B,dn_cond,e1,q0,q1,q2,List.replicate,List.idxOf,List.findIdx,List.findIdx.go]
   ·by_cases c3:x=3
    ·obtain ⟨y,b3,e2,hs3,y0,y1⟩:=hn b2 8 hs2 (by omega)
     obtain ⟨k,rfl⟩:∃k:Nat,y=k:=⟨y.toNat,by omega⟩
     obtain ⟨c,b4,e3,hs4,z0,z1⟩:=hn b3 8 hs3 (by omega)
     have w1:IntKind.u8.wrap c=c:=w8 (by omega)
     have hk:k<64:=by omega
     refine ⟨p,u,v.set k c,w,b4,den_of hT rfl ?_,hs4,p0,p1,au,arr_set av (by omega) (by omega) k,aw⟩
     subst c3
     obtain ⟨_,_,_,rfl,_⟩:=hs
     obtain ⟨_,_,_,rfl,_⟩:=hs2
     obtain ⟨_,_,_,rfl,_⟩:=hs3
     obtain ⟨_,_,_,rfl,_⟩:=hs4
     simp -implicitDefEqProofs [Z46,Z46_B,dn_cond,e1,e2,e3,w1,hk,hvl,List.replicate,List.idxOf,List.findIdx,List.findIdx.go]
    ·refine ⟨p,u,v,w,b2,den_of hT rfl ?_,hs2,p0,p1,au,av,aw⟩
     obtain ⟨_,_,_,rfl,_⟩:=hs
     obtain ⟨_,_,_,rfl,_⟩:=hs2
     simp -implicitDefEqProofs [Z46,Z46_B,dn_cond,e1,c0,c1,c2,c3,List.replicate,List.idxOf,List.findIdx,List.findIdx.go]
def H_l06Spoil (O:Oracle):Prop:=∀b:Blk,Src b→∃(p:Int) (u v w:List Int) (b':Blk),O F4f [.ptr 0 []] [b]=some (.d (drD p u v w),[b'],[])∧Src b'∧0≤p∧p<256∧Arr u∧Arr v∧Arr w
theorem h_l06Spoil (hT:T F4f=some Z4f) (hd:H_l06Draw (den T A)) (hb:H_l06Bad (den T A)):H_l06Spoil (den T A):=by
 intro b hs
 obtain ⟨p,u,v,w,b1,e1,hs1,p0,p1,au,av,aw,-⟩:=hd b hs
 obtain ⟨p',u',v',w',b2,e2,hs2,q0,q1,au',av',aw'⟩:=hb b1 p u v w hs1 p0 p1 au av aw
 refine ⟨p',u',v',w',b2,den_of hT rfl ?_,hs2,q0,q1,au',av',aw'⟩
 obtain ⟨_,_,_,rfl,_⟩:=hs
 obtain ⟨_,_,_,rfl,_⟩:=hs1
 obtain ⟨_,_,_,rfl,_⟩:=hs2
 simp -implicitDefEqProofs [Z4f,Z4f_B,e1,e2,List.replicate,List.idxOf,List.findIdx,List.findIdx.go]
def H_DrawTwistOf (O:Oracle) (F:Nat):Prop:=∀code:List Int,Bytes code→code.length≤4096→∃(p:Int) (u v w x:List Int),ask O F [.sl .leaf (ints .u8 code)]=some (.tup [drD p u v w,(D.arr 64 .leaf (ints .u8 x))])∧Arr u∧Arr v∧Arr w∧Arr x
theorem h_DrawTwistOf (hT:T F35=some Z35) (hf:H_from (den T A)) (hsp:H_l06Spoil (den T A)) (hfi:C_sFine (den T A)) (hp:H_pick (den T A)) (hd:H_draw (den T A)):H_DrawTwistOf (den T A) F35:=by
 intro code hb hc
 obtain ⟨b,e1,hs⟩:=hf code hb hc
 obtain ⟨p,u,v,w,b1,e2,hs1,p0,p1,au,av,aw⟩:=hsp b hs
 have e3:=hfi p
 obtain ⟨x,b2,e4,hs2,hx⟩:=hp b1 [0,1,1,2] 4 (some 4) hs1 rfl (by omega) (by omega)
 rw [show ints .i64 [0,1,1,2]=[.int .i64 0,.int .i64 1,.int .i64 1,.int .i64 2] from rfl] at e4
 obtain ⟨n,rfl⟩:∃n:Nat,x=n:=⟨x.toNat,by simp at hx; omega⟩
 haveI ip:IsP (fineP p):=fineP_ok p
 obtain ⟨a,b3,e5,hs3,-⟩:=hd (fineP p) b2 n hs2 (by simp at hx; omega)
 refine ⟨p,u,v,w,pad (row a),ask_of hT rfl ?_,au,av,aw,arr_row a⟩
 obtain ⟨_,_,_,rfl,_⟩:=hs
 obtain ⟨_,_,_,rfl,_⟩:=hs1
 obtain ⟨_,_,_,rfl,_⟩:=hs2
 obtain ⟨_,_,_,rfl,_⟩:=hs3
 generalize pad (row a)=Pa at *
 generalize fineP p=q at *
 simp -implicitDefEqProofs [Z35,Z35_B,e1,e2,e3,e4,e5,List.replicate,List.idxOf,List.findIdx,List.findIdx.go]
end Pe

namespace Pe
open Go Gq
variable {T:Nat→Option Fn} {A:Oracle}
def H_DrawInvariantOf (O:Oracle):Prop:=∀code:List Int,Bytes code→code.length≤4096→∃(p:Int) (u v w:List Int),ask O F33 [.sl .leaf (ints .u8 code)]=some (drD p u v w)∧Arr u∧Arr v∧Arr w
theorem h_DrawInvariantOf (hT:T F33=some Z33) (hf:H_from (den T A)) (hsp:H_l06Spoil (den T A)):H_DrawInvariantOf (den T A):=by
 intro code hb hc
 obtain ⟨b,e1,hs⟩:=hf code hb hc
 obtain ⟨p,u,v,w,b1,e2,hs1,p0,p1,au,av,aw⟩:=hsp b hs
 refine ⟨p,u,v,w,ask_of hT rfl ?_,au,av,aw⟩
 obtain ⟨_,_,_,rfl,_⟩:=hs
 obtain ⟨_,_,_,rfl,_⟩:=hs1
 simp -implicitDefEqProofs [Z33,Z33_B,e1,e2,List.replicate,List.idxOf,List.findIdx,List.findIdx.go]
theorem h_DrawDrinfeldAction (hT:T F31=some Z31) (hf:H_from (den T A)) (hsp:H_l06Spoil (den T A)) (hfi:C_sFine (den T A)) (hp:H_pick (den T A)) (hd:H_draw (den T A)):H_DrawTwistOf (den T A) F31:=by
 intro code hb hc
 obtain ⟨b,e1,hs⟩:=hf code hb hc
 obtain ⟨p,u,v,w,b1,e2,hs1,p0,p1,au,av,aw⟩:=hsp b hs
 have e3:=hfi p
 obtain ⟨x,b2,e4,hs2,hx⟩:=hp b1 [1,2,3,6] 4 (some 4) hs1 rfl (by omega) (by omega)
 rw [show ints .i64 [1,2,3,6]=[.int .i64 1,.int .i64 2,.int .i64 3,.int .i64 6] from rfl] at e4
 obtain ⟨n,rfl⟩:∃n:Nat,x=n:=⟨x.toNat,by simp at hx; omega⟩
 haveI ip:IsP (fineP p):=fineP_ok p
 obtain ⟨a,b3,e5,hs3,-⟩:=hd (fineP p) b2 n hs2 (by simp at hx; omega)
 refine ⟨p,u,v,w,pad (row a),ask_of hT rfl ?_,au,av,aw,arr_row a⟩
 obtain ⟨_,_,_,rfl,_⟩:=hs
 obtain ⟨_,_,_,rfl,_⟩:=hs1
 obtain ⟨_,_,_,rfl,_⟩:=hs2
 obtain ⟨_,_,_,rfl,_⟩:=hs3
 generalize pad (row a)=Pa at *
 generalize fineP p=q at *
 simp -implicitDefEqProofs [Z31,Z31_B,e1,e2,e3,e4,e5,List.replicate,List.idxOf,List.findIdx,List.findIdx.go]
def H_DrawDrinfeldValue (O:Oracle):Prop:=∀code:List Int,Bytes code→code.length≤4096→∃(p:Int) (u v w a x:List Int),ask O F32 [.sl .leaf (ints .u8 code)]=some (.tup [drD p u v w,(D.arr 64 .leaf (ints .u8 a)),(D.arr 64 .leaf (ints .u8 x))])∧Arr u∧Arr v∧Arr w∧Arr a∧Arr x
theorem h_DrawDrinfeldValue (hT:T F32=some Z32) (hf:H_from (den T A)) (hsp:H_l06Spoil (den T A)) (hfi:C_sFine (den T A)) (hp:H_pick (den T A)) (hd:H_draw (den T A)):H_DrawDrinfeldValue (den T A):=by
 intro code hb hc
 obtain ⟨b,e1,hs⟩:=hf code hb hc
 obtain ⟨p,u,v,w,b1,e2,hs1,p0,p1,au,av,aw⟩:=hsp b hs
 have e3:=hfi p
 obtain ⟨x,b2,e4,hs2,hx⟩:=hp b1 [1,2,3,6] 4 (some 4) hs1 rfl (by omega) (by omega)
 rw [show ints .i64 [1,2,3,6]=[.int .i64 1,.int .i64 2,.int .i64 3,.int .i64 6] from rfl] at e4
 obtain ⟨n,rfl⟩:∃n:Nat,x=n:=⟨x.toNat,by simp at hx; omega⟩
 haveI ip:IsP (fineP p):=fineP_ok p
 obtain ⟨a,b3,e5,hs3,-⟩:=hd (fineP p) b2 n hs2 (by simp at hx; omega)
 obtain ⟨c,b4,e6,hs4,-⟩:=hd (fineP p) b3 4 hs3 (by omega)
 rw [show ((4:Nat):Int)=4 from rfl] at e6
 refine ⟨p,u,v,w,pad (row a),pad (row c),ask_of hT rfl ?_,au,av,aw,arr_row a,arr_row c⟩
 obtain ⟨_,_,_,rfl,_⟩:=hs
 obtain ⟨_,_,_,rfl,_⟩:=hs1
 obtain ⟨_,_,_,rfl,_⟩:=hs2
 obtain ⟨_,_,_,rfl,_⟩:=hs3
 obtain ⟨_,_,_,rfl,_⟩:=hs4
 generalize pad (row a)=Pa at *
 generalize pad (row c)=Pc at *
 generalize fineP p=q at *
 simp -implicitDefEqProofs [Z32,Z32_B,e1,e2,e3,e4,e5,e6,List.replicate,List.idxOf,List.findIdx,List.findIdx.go]
def H_l06Two (O:Oracle):Prop:=∀b:Blk,Src b→∃(p:Int) (u v w:List Int) (q:Int) (u' v' w':List Int) (b':Blk),O F4j [.ptr 0 []] [b]=some (.tup [.d (drD p u v w),.d (drD q u' v' w')],[b'],[])∧Src b'∧0≤p∧p<256∧Arr u∧Arr v∧Arr w∧Arr u'∧Arr v'∧Arr w'
theorem two_twist (hT:T F4j=some Z4j) {b b1 b2 b3 b4 b5 b6:Blk} (hs:Src b) (hs1:Src b1) (hs2:Src b2) (hs3:Src b3) (hs4:Src b4) (hs5:Src b5) (hs6:Src b6) {p x y N L:Int} {m g d g2 d2 Pc g3 d3 u v w u' v' w':List Int} {p' q':Int}
 (e1:den T A F4a [.ptr 0 []] [b]=some (.d (drD p m g d),[b1],[]))
 (e2:den T A F4d [.ptr 0 [],(.d (.int .i64 p)),.d (D.arr 64 .leaf (ints .u8 m))] [b1]=some (.d (drD p m g2 d2),[b2],[]))
 (e3:den T A F3s [.ptr 0 [],(.d (.int .i64 8))] [b2]=some ((.d (.int .i64 x)),[b3],[])) (hx:x=0∨x=1∨x=2)
 (e4:ask (den T A) F3g [(D.arr 64 .leaf (ints .u8 m))]=some (D.int .i64 L)) (e5:ask (den T A) F3f [(D.int .i64 p),(D.int .i64 L)]=some (D.int .i64 N)) (w1:IntKind.i64.wrap (N-1)=N-1)
 (e6:den T A F3s [.ptr 0 [],(.d (.int .i64 (N-1)))] [b3]=some ((.d (.int .i64 y)),[b4],[])) (w2:IntKind.i64.wrap (1+y)=1+y)
 (e7:ask (den T A) F3t [(D.int .i64 p),(D.int .i64 (1+y))]=some (D.arr 64 .leaf (ints .u8 Pc)))
 (e8:ask (den T A) F4i [drD p m g d,(D.arr 64 .leaf (ints .u8 Pc))]=some (drD p m g3 d3))
 (e9:den T A F46 [.ptr 0 [],.d (drD p m g d)] [b4]=some (.d (drD p' u v w),[b5],[]))
 (e10:den T A F46 [.ptr 0 [],.d (drD p m g3 d3)] [b5]=some (.d (drD q' u' v' w'),[b6],[])) :
 den T A F4j [.ptr 0 []] [b]=some (.tup [.d (drD p' u v w),.d (drD q' u' v' w')],[b6],[]):=by
 refine den_of hT rfl ?_
 obtain ⟨_,_,_,rfl,_⟩:=hs
 obtain ⟨_,_,_,rfl,_⟩:=hs1
 obtain ⟨_,_,_,rfl,_⟩:=hs2
 obtain ⟨_,_,_,rfl,_⟩:=hs3
 obtain ⟨_,_,_,rfl,_⟩:=hs4
 obtain ⟨_,_,_,rfl,_⟩:=hs5
 obtain ⟨_,_,_,rfl,_⟩:=hs6
 rcases hx with rfl | rfl | rfl
 ·simp -implicitDefEqProofs [Z4j,Z4j_B,dn_cond,e1,e2,e3,e4,e5,e6,e7,e8,e9,e10,w1,w2,List.replicate,List.idxOf,List.findIdx,List.findIdx.go]
 ·simp -implicitDefEqProofs [Z4j,Z4j_B,dn_cond,e1,e2,e3,e4,e5,e6,e7,e8,e9,e10,w1,w2,List.replicate,List.idxOf,List.findIdx,List.findIdx.go]
 ·simp -implicitDefEqProofs [Z4j,Z4j_B,dn_cond,e1,e2,e3,e4,e5,e6,e7,e8,e9,e10,w1,w2,List.replicate,List.idxOf,List.findIdx,List.findIdx.go]
theorem h_l06Two (hT:T F4j=some Z4j) (hn:H_next (den T A) F3s) (hd:H_l06Draw (den T A)) (ho:H_l06Of (den T A)) (hdg:K_sDeg (den T A)) (hcn:K_sCount (den T A)) (hof:K_sOf (den T A)) (htw:K_sTwist (den T A)) (hb:H_l06Bad (den T A)):H_l06Two (den T A):=by
 intro b hs
 obtain ⟨p,u,v,w,b1,e1,hs1,p0,p1,au,av,aw,ip,m,g,d,rfl,rfl,rfl,hm,hg,hdl,hd0⟩:=hd b hs
 have h5:=hm.five
 have h2:=hm.two
 obtain ⟨g2,d2,b2,e2,hs2,hg2,hd2,hd20⟩:=ho p m b1 hs1 hm.mon.2 h2 h5
 obtain ⟨x,b3,e3,hs3,x0,x1⟩:=hn b2 8 hs2 (by omega)
 by_cases hx:x=0∨x=1∨x=2
 ·have e4:=hdg p m (by omega)
  rw [show ((m.len:Int)-1)=((m.len-1:Nat):Int) by omega] at e4
  have e5:=k_sCount' hcn p (m.len-1) (by omega)
  have hpl:=ppow_le (p:=p) (n:=m.len-1) (by omega)
  have hpos:=ppow_pos (p:=p) (m.len-1)
  have hp:=IsP.ge (p:=p)
  have hp1:2≤p^(m.len-1):=by
   obtain ⟨k,hk⟩:∃k,m.len-1=k+1:=⟨m.len-2,by omega⟩
   have hk1:=ppow_pos (p:=p) k
   rw [hk,Int.pow_succ]
   have:1*2≤p^k*p:=Int.mul_le_mul (by omega) hp (by omega) (by omega)
   omega
  obtain ⟨y,b4,e6,hs4,y0,y1⟩:=hn b3 (p^(m.len-1)-1) hs3 (by omega)
  have e7:=hof p (1+y) (by omega) (by omega)
  have l2:(numP p (1+y)).len≤m.len-1:=Pol.len_le (numP_lt (p:=p) ⟨by omega,by omega⟩ (by omega))
  have l3:numP p (1+y)≠0:=fun h=>by
   rw [←numP_zero (p:=p)] at h
   have:=numP_inj ⟨by omega,by omega⟩ ⟨by omega,by omega⟩ h
   omega
  have e8:=htw p m g d (numP p (1+y)) hm hg hdl l3 (by omega)
  obtain ⟨p',u1,v1,w1,b5,e9,hs5,q0,q1,a1,a2,a3⟩:=hb b4 p _ _ _ hs4 p0 p1 au av aw
  obtain ⟨q',u2,v2,w2,b6,e10,hs6,-,-,a4,a5,a6⟩:=hb b5 p _ _ _ hs5 p0 p1 au (arr_row (twc m (numP p (1+y)) g (p-1).toNat)) (arr_row (twc m (numP p (1+y)) d (p*p-1).toNat))
  exact ⟨p',u1,v1,w1,q',u2,v2,w2,b6,two_twist hT hs hs1 hs2 hs3 hs4 hs5 hs6 e1 e2 e3 hx e4 e5 (w64 (by omega)) e6 (w64 (by omega)) e7 e8 e9 e10,hs6,q0,q1,a1,a2,a3,a4,a5,a6⟩
 ·by_cases c3:x=3
  ·obtain ⟨p',u1,v1,w1,b5,e9,hs5,q0,q1,a1,a2,a3⟩:=hb b3 p _ _ _ hs3 p0 p1 au av aw
   obtain ⟨q',u2,v2,w2,b6,e10,hs6,-,-,a4,a5,a6⟩:=hb b5 p _ _ _ hs5 p0 p1 au av aw
   refine ⟨p',u1,v1,w1,q',u2,v2,w2,b6,den_of hT rfl ?_,hs6,q0,q1,a1,a2,a3,a4,a5,a6⟩
   subst c3
   obtain ⟨_,_,_,rfl,_⟩:=hs
   obtain ⟨_,_,_,rfl,_⟩:=hs1
   obtain ⟨_,_,_,rfl,_⟩:=hs2
   obtain ⟨_,_,_,rfl,_⟩:=hs3
   obtain ⟨_,_,_,rfl,_⟩:=hs5
   obtain ⟨_,_,_,rfl,_⟩:=hs6
   generalize pad (row g)=Pg at *
   generalize pad (row d)=Pd at *
   generalize pad (row g2)=Pg2 at *
   generalize pad (row d2)=Pd2 at *
   generalize pad (row m)=Pm at *
   simp -implicitDefEqProofs [Z4j,Z4j_B,dn_cond,e1,e2,e3,e9,e10,List.replicate,List.idxOf,List.findIdx,List.findIdx.go]
  ·have k0:¬ x=0:=fun h=>hx (.inl h)
   have k1:¬ x=1:=fun h=>hx (.inr (.inl h))
   have k2:¬ x=2:=fun h=>hx (.inr (.inr h))
   by_cases c4:x=4
   ·obtain ⟨p2,u3,v3,w3,b4,e4,hs4,r0,r1,a7,a8,a9,-⟩:=hd b3 hs3
    obtain ⟨p',u1,v1,w1,b5,e9,hs5,q0,q1,a1,a2,a3⟩:=hb b4 p _ _ _ hs4 p0 p1 au av aw
    obtain ⟨q',u2,v2,w2,b6,e10,hs6,-,-,a4,a5,a6⟩:=hb b5 p2 _ _ _ hs5 r0 r1 a7 a8 a9
    refine ⟨p',u1,v1,w1,q',u2,v2,w2,b6,den_of hT rfl ?_,hs6,q0,q1,a1,a2,a3,a4,a5,a6⟩
    subst c4
    obtain ⟨_,_,_,rfl,_⟩:=hs
    obtain ⟨_,_,_,rfl,_⟩:=hs1
    obtain ⟨_,_,_,rfl,_⟩:=hs2
    obtain ⟨_,_,_,rfl,_⟩:=hs3
    obtain ⟨_,_,_,rfl,_⟩:=hs4
    obtain ⟨_,_,_,rfl,_⟩:=hs5
    obtain ⟨_,_,_,rfl,_⟩:=hs6
    generalize pad (row g)=Pg at *
    generalize pad (row d)=Pd at *
    generalize pad (row g2)=Pg2 at *
    generalize pad (row d2)=Pd2 at *
    generalize pad (row m)=Pm at *
    simp -implicitDefEqProofs [Z4j,Z4j_B,dn_cond,e1,e2,e3,e4,e9,e10,List.replicate,List.idxOf,List.findIdx,List.findIdx.go]
   ·obtain ⟨p',u1,v1,w1,b5,e9,hs5,q0,q1,a1,a2,a3⟩:=hb b3 p _ _ _ hs3 p0 p1 au av aw
    obtain ⟨q',u2,v2,w2,b6,e10,hs6,-,-,a4,a5,a6⟩:=hb b5 p _ _ _ hs5 p0 p1 au (arr_row g2) (arr_row d2)
    refine ⟨p',u1,v1,w1,q',u2,v2,w2,b6,den_of hT rfl ?_,hs6,q0,q1,a1,a2,a3,a4,a5,a6⟩
    obtain ⟨_,_,_,rfl,_⟩:=hs
    obtain ⟨_,_,_,rfl,_⟩:=hs1
    obtain ⟨_,_,_,rfl,_⟩:=hs2
    obtain ⟨_,_,_,rfl,_⟩:=hs3
    obtain ⟨_,_,_,rfl,_⟩:=hs5
    obtain ⟨_,_,_,rfl,_⟩:=hs6
    generalize pad (row g)=Pg at *
    generalize pad (row d)=Pd at *
    generalize pad (row g2)=Pg2 at *
    generalize pad (row d2)=Pd2 at *
    generalize pad (row m)=Pm at *
    simp -implicitDefEqProofs [Z4j,Z4j_B,dn_cond,e1,e2,e3,e9,e10,k0,k1,k2,c3,c4,List.replicate,List.idxOf,List.findIdx,List.findIdx.go]
def H_DrawAreIsomorphic (O:Oracle):Prop:=∀code:List Int,Bytes code→code.length≤4096→∃(p:Int) (u v w:List Int) (q:Int) (u' v' w':List Int),ask O F30 [.sl .leaf (ints .u8 code)]=some (.tup [drD p u v w,drD q u' v' w'])∧Arr u∧Arr v∧Arr w∧Arr u'∧Arr v'∧Arr w'
theorem h_DrawAreIsomorphic (hT:T F30=some Z30) (hf:H_from (den T A)) (ht:H_l06Two (den T A)):H_DrawAreIsomorphic (den T A):=by
 intro code hb hc
 obtain ⟨b,e1,hs⟩:=hf code hb hc
 obtain ⟨p,u,v,w,q,u',v',w',b1,e2,hs1,-,-,a1,a2,a3,a4,a5,a6⟩:=ht b hs
 refine ⟨p,u,v,w,q,u',v',w',ask_of hT rfl ?_,a1,a2,a3,a4,a5,a6⟩
 obtain ⟨_,_,_,rfl,_⟩:=hs
 obtain ⟨_,_,_,rfl,_⟩:=hs1
 simp -implicitDefEqProofs [Z30,Z30_B,e1,e2,List.replicate,List.idxOf,List.findIdx,List.findIdx.go]
end Pe
