/-
  A part of the proof: an evaluator for a small form of the code, its soundness, and contracts of functions over it.
-/
import Derived.Test.YtpnliphfdlmpgacGreatW1
import Derived.Test.YtpnliphfdlmpgacGreatW2
import Derived.Test.YtpnliphfdlmpgacGreatW3
import Derived.Test.YtpnliphfdlmpgacGreatW4
import Derived.Test.YtpnliphfdlmpgacGreatW5

namespace Pe
open Go Gq
section
variable {p:Int}
noncomputable def cS (A:List (Fp p)) (i:Nat):Fp p:=(A[i]?).getD 0
theorem cS_ge {A:List (Fp p)} {i:Nat} (h:A.length≤i):cS A i=0:=by unfold cS; rw [List.getElem?_eq_none h]; rfl
theorem cS_lt {A:List (Fp p)} {i:Nat} (h:i<A.length):A[i]=cS A i:=by unfold cS; rw [List.getElem?_eq_getElem h]; rfl
def IsTrim (A:List (Fp p)):Prop:=∀n,A.length=n+1→cS A n≠0
theorem cS_trim (S:List (Fp p)) (i:Nat):cS (trimS S) i=cS S i:=by
 unfold cS trimS
 have hle:=stl_le S S.length
 by_cases h:i<stl S S.length
 ·rw [List.getElem?_take,if_pos h]
 ·rw [List.getElem?_take,if_neg h]
  by_cases h2:i<S.length
  ·rw [stl_zero S S.length i (by omega) h2]; rfl
  ·rw [List.getElem?_eq_none (by omega)]
theorem isTrim_trim (S:List (Fp p)):IsTrim (trimS S):=fun n hn=>by
 obtain ⟨a,x,e,hx⟩:=trimS_form (S:=S) (by omega)
 rw [e] at hn ⊢
 rw [List.length_append,List.length_singleton] at hn
 unfold cS
 rw [List.getElem?_append_right (by omega),show n-a.length=0 by omega]
 exact hx
theorem trim_ext {A B:List (Fp p)} (hA:IsTrim A) (hB:IsTrim B) (h:∀i,cS A i=cS B i):A=B:=by
 have hl:A.length=B.length:=by
  rcases Nat.lt_trichotomy A.length B.length with g | g | g
  ·exact absurd (by rw [←h]; exact cS_ge (by omega)) (hB (B.length-1) (by omega))
  ·exact g
  ·exact absurd (by rw [h]; exact cS_ge (by omega)) (hA (A.length-1) (by omega))
 refine List.ext_getElem hl fun i h1 h2=>?_
 rw [cS_lt h1,cS_lt h2,h]
theorem trimS_congr {X Y:List (Fp p)} (h:∀i,cS X i=cS Y i):trimS X=trimS Y:=
 trim_ext (isTrim_trim X) (isTrim_trim Y) fun i=>by rw [cS_trim,cS_trim,h]
theorem trimS_of {A:List (Fp p)} (hA:IsTrim A):trimS A=A:=trim_ext (isTrim_trim A) hA (cS_trim A)
theorem trim_len_le {X:List (Fp p)} {n:Nat} (h:∀i,n≤i→cS X i=0):(trimS X).length≤n:=by
 rcases Nat.lt_or_ge n (trimS X).length with g | g
 ·have:=isTrim_trim X ((trimS X).length-1) (by omega)
  rw [cS_trim] at this
  exact absurd (h _ (by omega)) this
 ·exact g
theorem isTrim_nil:IsTrim ([]:List (Fp p)):=fun n h=>by cases h
theorem cS_nil (i:Nat):cS ([]:List (Fp p)) i=0:=rfl
theorem cS_mem {A:List (Fp p)} {N:Nat} (h:∀i,(cS A i).len≤N):∀c∈A,c.len≤N:=fun c hc=>by
 obtain ⟨i,hi,rfl⟩:=List.getElem_of_mem hc
 rw [cS_lt hi]; exact h i
theorem mem_cS {A:List (Fp p)} {N:Nat} (h:∀c∈A,c.len≤N) (i:Nat):(cS A i).len≤N:=by
 by_cases hi:i<A.length
 ·rw [←cS_lt hi]; exact h _ (List.getElem_mem hi)
 ·rw [cS_ge (by omega),Pol.len_zero]; omega
theorem cS_map {n:Nat} {f:Nat→Fp p} (i:Nat):cS ((List.range n).map f) i=if i<n then f i else 0:=by
 unfold cS
 rw [List.getElem?_map]
 by_cases h:i<n
 ·rw [List.getElem?_range h,if_pos h]; rfl
 ·rw [List.getElem?_eq_none (by simpa using h),if_neg h]; rfl
noncomputable def plusS (k:Int) (A B:List (Fp p)):List (Fp p):=trimS ((List.range (max A.length B.length)).map fun i=>cS A i+Pol.C (zp p k)*cS B i)
theorem cS_plus (k:Int) (A B:List (Fp p)) (i:Nat):cS (plusS k A B) i=cS A i+Pol.C (zp p k)*cS B i:=by
 unfold plusS
 rw [cS_trim,cS_map]
 split
 ·rfl
 ·rw [cS_ge (A:=A) (by omega),cS_ge (A:=B) (by omega),Gq.mul_zero,Gq.add_zero]
theorem isTrim_plus (k:Int) (A B:List (Fp p)):IsTrim (plusS k A B):=isTrim_trim _
theorem plus_len (k:Int) (A B:List (Fp p)):(plusS k A B).length≤max A.length B.length:=trim_len_le fun i hi=>by
 rw [cS_map,if_neg (by omega)]
noncomputable def termS (c:Fp p) (k:Nat):List (Fp p):=List.replicate k 0++[c]
theorem termS_length (c:Fp p) (k:Nat):(termS c k).length=k+1:=by unfold termS; rw [List.length_append,List.length_replicate]; rfl
theorem cS_term (c:Fp p) (k i:Nat):cS (termS c k) i=if i=k then c else 0:=by
 unfold cS termS
 rcases Nat.lt_trichotomy i k with h | h | h
 ·rw [List.getElem?_append_left (by rw [List.length_replicate]; exact h),List.getElem?_replicate,if_pos h,if_neg (by omega)]; rfl
 ·rw [List.getElem?_append_right (by rw [List.length_replicate]; omega),List.length_replicate,h,Nat.sub_self,if_pos rfl]; rfl
 ·rw [List.getElem?_eq_none (by rw [List.length_append,List.length_replicate,List.length_singleton]; omega),if_neg (by omega)]; rfl
theorem isTrim_term {c:Fp p} (h:c≠0) (k:Nat):IsTrim (termS c k):=fun n hn=>by
 rw [termS_length] at hn
 rw [cS_term,if_pos (by omega)]; exact h
theorem cS_pd8 {A:List (Fp p)} (i:Nat):cS (pd8 A) i=cS A i:=by
 unfold pd8 cS
 by_cases h:i<A.length
 ·rw [List.getElem?_append_left h]
 ·rw [List.getElem?_append_right (by omega),List.getElem?_replicate,List.getElem?_eq_none (l:=A) (by omega)]
  split <;> rfl
theorem pd8_length {A:List (Fp p)} (h:A.length≤8):(pd8 A).length=8:=by unfold pd8; rw [List.length_append,List.length_replicate]; omega
theorem trim_pd8 {A:List (Fp p)} (h:IsTrim A):trimS (pd8 A)=A:=(trimS_congr fun i=>cS_pd8 i).trans (trimS_of h)
theorem eight_ext {X Y:List (Fp p)} (hX:X.length=8) (hY:Y.length=8) (h:∀i,i<8→cS X i=cS Y i):X=Y:=by
 refine List.ext_getElem (by omega) fun i h1 h2=>?_
 rw [cS_lt h1,cS_lt h2,h i (by omega)]
theorem trimS_len_le (S:List (Fp p)):(trimS S).length≤S.length:=by
 unfold trimS; rw [List.length_take]; omega
theorem pd8_trim {F:List (Fp p)} (h:F.length=8):pd8 (trimS F)=F:=eight_ext (pd8_length (by have:=trimS_len_le F; omega)) h fun i _=>by rw [cS_pd8,cS_trim]
theorem cS_set {X:List (Fp p)} {n i:Nat} {c:Fp p} (h:n<X.length):cS (X.set n c) i=if i=n then c else cS X i:=by
 unfold cS
 by_cases hi:i=n
 ·subst hi; rw [List.getElem?_set_self h,if_pos rfl]; rfl
 ·rw [List.getElem?_set_ne (by omega),if_neg hi]
theorem pd8_set {Q:List (Fp p)} {k:Nat} {c:Fp p} (hQ:Q.length≤8) (hk:k<8) (h0:cS Q k=0):(pd8 Q).set k c=pd8 (plusS 1 Q (termS c k)):=by
 have hl:=pd8_length hQ
 have hpl:=plus_len 1 Q (termS c k)
 rw [termS_length] at hpl
 refine eight_ext (by rw [List.length_set]; exact hl) (pd8_length (by omega)) fun i _=>?_
 rw [cS_set (by omega),cS_pd8,cS_pd8,cS_plus,cS_term,zp_one,Pol.C_one,Gq.one_mul]
 by_cases hi:i=k
 ·subst hi; rw [if_pos rfl,if_pos rfl,h0,Gq.zero_add]
 ·rw [if_neg hi,if_neg hi,Gq.add_zero]
theorem snoc_of {B:List (Fp p)} (h:1≤B.length):∃b,B=b++[cS B (B.length-1)]∧b.length=B.length-1:=by
 have hlt:B.length-1<B.length:=by omega
 refine ⟨B.take (B.length-1),?_,by rw [List.length_take]; omega⟩
 rw [←cS_lt hlt,←List.take_succ_eq_append_getElem hlt,show B.length-1+1=B.length by omega,List.take_length]
end
section
variable {p:Int} [IsP p]
theorem byIn_lens' {m x:Fp p} {i N:Nat} (hm:m≠0) (hN:m.len≤N+1):∀(k:Nat) (b Q:List (Fp p)),(∀c∈Q,c.len≤N)→∀c∈byIn m x i k b Q,c.len≤N
 | _,[],_,h=>h
 | k,y::ys,Q,h=>byIn_lens' hm hN (k+1) ys _ (addAt_lens h (by have:=Pol.len_mod (x*frIt m (i%(m.len-1)) y) hm; omega))
theorem byOut_lens' {m:Fp p} {b:List (Fp p)} {N:Nat} (hm:m≠0) (hN:m.len≤N+1):∀(i:Nat) (a Q:List (Fp p)),(∀c∈Q,c.len≤N)→∀c∈byOut m b i a Q,c.len≤N
 | _,[],_,h=>h
 | i,_x::xs,Q,h=>byOut_lens' hm hN (i+1) xs _ (byIn_lens' hm hN 0 b Q h)
theorem prodS_lens' {m:Fp p} {a b:List (Fp p)} {N:Nat} (hm:m≠0) (hN:m.len≤N+1):∀c∈prodS m a b,c.len≤N:=fun c hc=>by
 unfold prodS at hc
 split at hc
 ·cases hc
 ·have h1:c∈mulS m a b:=List.mem_of_mem_take hc
  exact byOut_lens' hm hN 0 a _ (fun c hc=>by rw [List.eq_of_mem_replicate hc,Pol.len_zero]; omega) c h1
theorem isTrim_prod (m:Fp p) (a b:List (Fp p)):IsTrim (prodS m a b):=by
 unfold prodS
 split
 ·exact isTrim_nil
 ·exact isTrim_trim _
theorem prod_len_le {m:Fp p} {a b:List (Fp p)}:(prodS m a b).length≤a.length+b.length-1:=by
 unfold prodS
 split
 ·exact Nat.zero_le _
 ·have:=trimS_len_le (mulS m a b)
  have hl:(mulS m a b).length=a.length+b.length-1:=by unfold mulS; rw [byOut_length,List.length_replicate]
  omega
theorem mulS_val {m x y:Fp p} {a b:List (Fp p)}:cS (mulS m (a++[x]) (b++[y])) (a.length+b.length)=x*frIt m (a.length%(m.len-1)) y%m:=by
 unfold mulS
 rw [byOut_snoc,byIn_snoc]
 unfold addAt
 rw [byIn_get_ge _ _ _ (by omega),byOut_get_ge _ _ _ (by rw [List.length_append,List.length_cons,List.length_nil]; omega)]
 have hN:0+a.length+(0+b.length)=a.length+b.length:=by omega
 rw [hN]
 unfold cS
 rw [List.getElem?_set_self (by rw [byIn_length,byOut_length,List.length_replicate,List.length_append,List.length_append]; simp only [List.length_cons,List.length_nil]; omega)]
 rw [List.getElem?_replicate,if_pos (by rw [List.length_append,List.length_append]; simp only [List.length_cons,List.length_nil]; omega)]
 show (0:Fp p)+_=_
 rw [Gq.zero_add,show 0+a.length=a.length by omega]
theorem prod_top {m:Fp p} {A B:List (Fp p)} (ha:1≤A.length) (hb:1≤B.length):cS (prodS m A B) (A.length-1+(B.length-1))=cS A (A.length-1)*frIt m ((A.length-1)%(m.len-1)) (cS B (B.length-1))%m:=by
 obtain ⟨a,ea,la⟩:=snoc_of ha
 obtain ⟨b,eb,lb⟩:=snoc_of hb
 have h:=mulS_val (m:=m) (x:=cS A (A.length-1)) (y:=cS B (B.length-1)) (a:=a) (b:=b)
 rw [←ea,←eb,la,lb] at h
 unfold prodS
 rw [if_neg (by omega),cS_trim]
 exact h
theorem times_pd8 {m:Fp p} {X Y:List (Fp p)} (hX:IsTrim X) (hY:IsTrim Y) (h9:X.length+Y.length≤9) (hXl:∀c∈X,c.len<m.len) (hYl:∀c∈Y,c.len<m.len) (hm:Fld m):timesD m (pd8 X) (pd8 Y)=.tup [skwD (skP (pd8 (prodS m X Y))),(D.bool true)]:=by
 unfold timesD prodS
 rw [trim_pd8 hX,trim_pd8 hY]
 by_cases h0:X.length=0∨Y.length=0
 ·rw [if_pos h0,if_pos h0,pd8_nil]
 ·rw [if_neg h0,if_neg (by omega),if_neg h0]
  obtain ⟨a,ea,la⟩:=snoc_of (B:=X) (by omega)
  obtain ⟨b,eb,lb⟩:=snoc_of (B:=Y) (by omega)
  have hx:=hX (X.length-1) (by omega)
  have hy:=hY (Y.length-1) (by omega)
  have ht:=mulS_top hm (a:=a) (b:=b) hx (hXl _ (by rw [←cS_lt (show X.length-1<X.length by omega)]; exact List.getElem_mem _)) hy (hYl _ (by rw [←cS_lt (show Y.length-1<Y.length by omega)]; exact List.getElem_mem _))
  rw [←ea,←eb] at ht
  rw [ht,pd8_mulS (by omega) (by omega) (by omega)]
theorem inv_back {m x y:Fp p} (hm:Fld m) (hx:x.len<m.len) (hy:y≠0) (hyl:y.len<m.len):(x*invm m y%m)*y%m=x∧y*(x*invm m y%m)%m=x:=by
 have h0:m≠0:=hm.mon.2
 have e:=invm_ok hm hy hyl
 have key:Quo.mk m ((x*invm m y%m)*y)=Quo.mk m x:=by
  rw [Quo.mk_mul,Pol.mk_mod,Quo.mk_mul,Gq.mul_assoc,e,Gq.mul_one]
 have h1:=(Pol.mod_eq_iff h0).2 key
 rw [Pol.mod_small hx] at h1
 exact ⟨h1,by rw [Gq.mul_comm]; exact h1⟩
theorem frIt_add {m:Fp p}:∀(b a:Nat) (x:Fp p),frIt m (a+b) x=frIt m a (frIt m b x)
 | 0,_,_=>rfl
 | b+1,a,x=>by
  show frIt m (a+b) (pw x p.toNat%m)=frIt m a (frIt m b (pw x p.toNat%m))
  exact frIt_add b a _
theorem frIt_round {m:Fp p} (hm:Fld m) (j:Nat) {z:Fp p} (hz:z.len<m.len):frIt m (j%(m.len-1)) (frIt m ((m.len-1-j%(m.len-1))%(m.len-1)) z)=z:=by
 have h2:=hm.two
 have hlt:=Nat.mod_lt j (show 0<m.len-1 by omega)
 rw [frIt_mod hm _ hz,←frIt_add,show j%(m.len-1)+(m.len-1-j%(m.len-1))=m.len-1 by omega,←frIt_mod hm _ hz,Nat.mod_self]
 rfl
noncomputable def qc (left:Bool) (m:Fp p) (A B:List (Fp p)):Fp p:=
 if left then frIt m ((m.len-1-(B.length-1)%(m.len-1))%(m.len-1)) (cS A (A.length-1)*invm m (cS B (B.length-1))%m)
 else cS A (A.length-1)*invm m (frIt m ((A.length-B.length)%(m.len-1)) (cS B (B.length-1)))%m
noncomputable def qT (left:Bool) (m:Fp p) (A B:List (Fp p)):List (Fp p):=termS (qc left m A B) (A.length-B.length)
noncomputable def qP (left:Bool) (m:Fp p) (A B:List (Fp p)):List (Fp p):=if left then prodS m B (qT left m A B) else prodS m (qT left m A B) B
noncomputable def divG (left:Bool) (m:Fp p) (B:List (Fp p)):Nat→List (Fp p)→List (Fp p)→List (Fp p)×List (Fp p)
 | 0,Q,A=>(Q,A)
 | n+1,Q,A=>if A.length<B.length then (Q,A) else divG left m B n (plusS 1 Q (qT left m A B)) (plusS (-1) A (qP left m A B))
end
section
variable {p:Int}
structure Sk (m:Fp p) (A:List (Fp p)):Prop where
 trim:IsTrim A
 eight:A.length≤8
 res:∀c∈A,c.len<m.len
theorem Sk.cs {m:Fp p} {A:List (Fp p)} (h:Sk m A) (hm:m≠0) (i:Nat):(cS A i).len<m.len:=by
 have:=mem_cS (N:=m.len-1) (fun c hc=>by have:=h.res c hc; omega) i
 have:=Pol.len_pos hm
 omega
theorem Sk.top {m:Fp p} {A:List (Fp p)} (h:Sk m A) (h1:1≤A.length):cS A (A.length-1)≠0:=h.trim _ (by omega)
theorem Sk.nil (m:Fp p):Sk m []:=⟨isTrim_nil,by simp,fun c h=>by cases h⟩
theorem Sk.of8 {m:Fp p} {F:List (Fp p)} (h8:F.length=8) (h:∀c∈F,c.len<m.len):Sk m (trimS F):=
 ⟨isTrim_trim F,by have:=trimS_len_le F; omega,fun c hc=>h c (List.mem_of_mem_take hc)⟩
end
section
variable {p:Int} [IsP p]
theorem c_ge' {p:Int} {a:Fp p} {n:Nat} (h:a.len≤n):a.c n=0:=a.lt_len n h
theorem Sk.plus {m:Fp p} {A B:List (Fp p)} (hm:m≠0) (hA:Sk m A) (hB:Sk m B) (k:Int):Sk m (plusS k A B):=by
 have h1:=Pol.len_pos hm
 refine ⟨isTrim_plus k A B,by have:=plus_len k A B; have:=hA.eight; have:=hB.eight; omega,fun c hc=>?_⟩
 have:=cS_mem (A:=plusS k A B) (N:=m.len-1) (fun i=>by
  rw [cS_plus]
  have a1:=hA.cs hm i
  have a2:=hB.cs hm i
  exact Pol.len_add_le (by omega) (Pol.len_le fun j hj=>by rw [Pol.c_Cmul,c_ge' (by omega),Gq.mul_zero])) c hc
 omega
theorem step_ok (left:Bool) {m:Fp p} (hm:Fld m) {A B:List (Fp p)} (hA:Sk m A) (hB:Sk m B) (h1:1≤B.length) (hle:B.length≤A.length) :
 qc left m A B≠0∧(qc left m A B).len<m.len∧Sk m (qT left m A B)∧Sk m (qP left m A B)∧(plusS (-1) A (qP left m A B)).length<A.length∧Sk m (plusS (-1) A (qP left m A B)):=by
 have h0:m≠0:=hm.mon.2
 have hx:=hA.top (by omega)
 have hxl:=hA.cs h0 (A.length-1)
 have hy:=hB.top h1
 have hyl:=hB.cs h0 (B.length-1)
 have hfy:frIt m ((A.length-B.length)%(m.len-1)) (cS B (B.length-1))≠0:=frIt_ne hm _ _ hy hyl
 have hfl:=frIt_len h0 ((A.length-B.length)%(m.len-1)) (cS B (B.length-1)) hyl
 have hb1:=inv_back hm hxl hfy hfl
 have hb2:=inv_back hm hxl hy hyl
 have hzl:(cS A (A.length-1)*invm m (cS B (B.length-1))%m).len<m.len:=Pol.len_mod _ h0
 have hz0:cS A (A.length-1)*invm m (cS B (B.length-1))%m≠0:=fun h=>by
  have:=hb2.1
  rw [h,Gq.zero_mul,Pol.zero_mod h0] at this
  exact hx this.symm
 have hc0:qc left m A B≠0:=by
  unfold qc
  cases left with
  | true=>simp only [if_true]; exact frIt_ne hm _ _ hz0 hzl
  | false=>
   simp only [Bool.false_eq_true,if_false]
   intro h
   have:=hb1.1
   rw [h,Gq.zero_mul,Pol.zero_mod h0] at this
   exact hx this.symm
 have hcl:(qc left m A B).len<m.len:=by
  unfold qc
  cases left with
  | true=>simp only [if_true]; exact frIt_len h0 _ _ hzl
  | false=>simp only [Bool.false_eq_true,if_false]; exact Pol.len_mod _ h0
 have hTl:(qT left m A B).length=A.length-B.length+1:=termS_length _ _
 have h8:=hA.eight
 have hT:Sk m (qT left m A B):=⟨isTrim_term hc0 _,by omega,fun c hc=>by
  unfold qT termS at hc
  rcases List.mem_append.1 hc with h | h
  ·rw [List.eq_of_mem_replicate h,Pol.len_zero]; exact Pol.len_pos h0
  ·rw [List.mem_singleton.1 h]; exact hcl⟩
 have hPl:(qP left m A B).length≤A.length:=by
  unfold qP
  cases left with
  | true=>have:=prod_len_le (m:=m) (a:=B) (b:=qT true m A B); simp only [if_true]; omega
  | false=>have:=prod_len_le (m:=m) (a:=qT false m A B) (b:=B); simp only [Bool.false_eq_true,if_false]; omega
 have hP:Sk m (qP left m A B):=by
  have hm1:=Pol.len_pos h0
  refine ⟨?_,by omega,?_⟩
  ·unfold qP
   cases left with
   | true=>exact isTrim_prod _ _ _
   | false=>exact isTrim_prod _ _ _
  ·intro c hc
   have:c.len≤m.len-1:=by
    unfold qP at hc
    cases left with
    | true=>exact prodS_lens' h0 (by omega) c hc
    | false=>exact prodS_lens' h0 (by omega) c hc
   omega
 have htop:cS (qP left m A B) (A.length-1)=cS A (A.length-1):=by
  unfold qP
  cases left with
  | true=>
   simp only [if_true]
   have h:=prod_top (m:=m) (A:=B) (B:=qT true m A B) h1 (by omega)
   rw [hTl,show B.length-1+(A.length-B.length+1-1)=A.length-1 by omega,show A.length-B.length+1-1=A.length-B.length by omega] at h
   rw [h]
   unfold qT
   rw [cS_term,if_pos rfl]
   unfold qc
   simp only [if_true]
   rw [frIt_round hm (B.length-1) hzl]
   exact hb2.2
  | false=>
   simp only [Bool.false_eq_true,if_false]
   have h:=prod_top (m:=m) (A:=qT false m A B) (B:=B) (by omega) h1
   rw [hTl,show A.length-B.length+1-1+(B.length-1)=A.length-1 by omega,show A.length-B.length+1-1=A.length-B.length by omega] at h
   rw [h]
   unfold qT
   rw [cS_term,if_pos rfl]
   unfold qc
   simp only [Bool.false_eq_true,if_false]
   exact hb1.1
 have hneg:∀x:Fp p,x+Pol.C (zp p (-1))*x=0:=fun x=>by
  rw [zp_neg,zp_one,Pol.C_neg,Pol.C_one]
  exact ring_of [x] rfl
 refine ⟨hc0,hcl,hT,hP,?_,hA.plus h0 hP (-1)⟩
 have hlt:(plusS (-1) A (qP left m A B)).length≤A.length-1:=trim_len_le fun i hi=>by
  rw [cS_map]
  split
  ·rcases Nat.lt_or_ge i A.length with g | g
   ·rw [show i=A.length-1 by omega,htop,hneg]
   ·rw [cS_ge g,cS_ge (A:=qP left m A B) (by omega),Gq.mul_zero,Gq.add_zero]
  ·rfl
 omega
def Zto (Q A B:List (Fp p)):Prop:=∀j,j+B.length≤A.length→cS Q j=0
theorem Zto.step {left:Bool} {m:Fp p} (hm:Fld m) {Q A B:List (Fp p)} (hA:Sk m A) (hB:Sk m B) (h1:1≤B.length) (hle:B.length≤A.length) (hz:Zto Q A B):Zto (plusS 1 Q (qT left m A B)) (plusS (-1) A (qP left m A B)) B:=fun j hj=>by
 obtain ⟨_,_,_,_,h,_⟩:=step_ok left hm hA hB h1 hle
 unfold qT
 rw [cS_plus,hz j (by omega),cS_term,if_neg (by omega),Gq.mul_zero,Gq.add_zero]
theorem divG_ok (left:Bool) {m:Fp p} (hm:Fld m) {B:List (Fp p)} (hB:Sk m B) (h1:1≤B.length):∀(n:Nat) (Q A:List (Fp p)),A.length≤n→Sk m Q→Sk m A→Sk m (divG left m B n Q A).1∧Sk m (divG left m B n Q A).2∧(divG left m B n Q A).2.length<B.length
 | 0,Q,A,h,hQ,hA=>⟨hQ,hA,by show A.length<B.length; omega⟩
 | n+1,Q,A,h,hQ,hA=>by
  unfold divG
  split
  ·exact ⟨hQ,hA,by assumption⟩
  ·obtain ⟨_,_,hT,hP,hl,hA'⟩:=step_ok left hm hA hB h1 (by omega)
   exact divG_ok left hm hB h1 n _ _ (by omega) (hQ.plus hm.mon.2 hT 1) hA'
end
end Pe



namespace Pe
open Go Gq
variable {T:Nat→Option Fn} {A:Oracle}
abbrev z6:List Int:=List.replicate 6 0
section
variable {p:Int} [IsP p]
noncomputable def mono (p:Int) (i:Nat):Fp p:=numP p (p^i)
end
end Pe

namespace Pe
open Go Gq
variable {T:Nat→Option Fn} {A:Oracle}
section
variable {O:Oracle} {g:Nat} {first caps:List D}
structure CmpRow (O:Oracle) (g:Nat) (first caps:List D) (f:D→Int) (s:Sh) (cs:List D):Prop where
 nf:noTup first
 nc:noTup caps
 nx:noTup cs
 sh:AllSh s cs
 ask:∀x∈cs,∀y∈cs,∃v:Int,ask O g (first++[x,y]++caps)=some (D.int .i64 v)∧(v<0↔f x<f y)
theorem CmpRow.perm {f:D→Int} {s:Sh} {cs ds:List D} (h:CmpRow O g first caps f s cs) (p:ds.Perm cs):CmpRow O g first caps f s ds:=
 ⟨h.nf,h.nc,fun x hx=>h.nx x (p.subset hx),fun x hx=>h.sh x (p.subset hx),fun x hx y hy=>h.ask x (p.subset hx) y (p.subset hy)⟩
theorem CmpRow.call {f:D→Int} {s:Sh} {cs:List D} (h:CmpRow O g first caps f s cs) {hp:Heap} {np:Nat} {news:List Nat} {x y:D} (hx:x∈cs) (hy:y∈cs) :
 ∃v:Int,kCall O np hp .flat news (g,first.map .d,caps.map .d) [.d x,.d y]=some (.d (D.int .i64 v),hp)∧(v<0↔f x<f y):=by
 have e:toDs hp (first.map .d++[.d x,.d y]++caps.map .d)=some (first++[x,y]++caps):=
  toDs_app hp (toDs_app hp (toDs_map hp h.nf) (toDs_map hp (ds:=[x,y]) (by intro z hz; simp at hz; rcases hz with rfl | rfl; exact h.nx _ hx; exact h.nx _ hy))) (toDs_map hp h.nc)
 obtain ⟨v,e1,e2⟩:=h.ask x hx y hy
 refine ⟨v,?_,e2⟩
 rw [kCall_flat,e,Option.bind_some,kAsk_ask,e1,Option.bind_some,kAns_flat,show (D.int IntKind.i64 v).flat=true from rfl,if_pos rfl]
end
end Pe

namespace Pe
open Go Gq
variable {T:Nat→Option Fn} {A:Oracle}
section
variable {p:Int}
noncomputable def elim (a b:Fp p):Fp p:=b+Pol.C (-(b.c (a.len-1)))*a
noncomputable def redS:List (Fp p)→Fp p→Fp p
 | [],a=>a
 | b::bs,a=>redS bs (elim b a)
noncomputable def insS (a:Fp p):List (Fp p)→List (Fp p)
 | []=>[a]
 | b::bs=>if b.len<a.len then a::(b::bs).map (elim a) else elim a b::insS a bs
theorem insS_perm (a:Fp p):∀L:List (Fp p),(insS a L).Perm (L.map (elim a)++[a])
 | []=>.refl _
 | b::bs=>by
  unfold insS
  split
  ·exact (List.perm_append_singleton a ((b::bs).map (elim a))).symm
  ·exact (insS_perm a bs).cons _
theorem c_ge {a:Fp p} {n:Nat} (h:a.len≤n):a.c n=0:=a.lt_len n h
theorem elim_c (a b:Fp p) (n:Nat):(elim a b).c n=b.c n + -(b.c (a.len-1))*a.c n:=by
 unfold elim; rw [Pol.c_add,Pol.c_Cmul]
theorem insS_mem {a c:Fp p}:∀{L:List (Fp p)},c∈insS a L→c=a∨∃b∈L,c=elim a b:=fun {L} h=>by
 have:=(insS_perm a L).subset h
 rcases List.mem_append.1 this with h | h
 ·obtain ⟨b,hb,rfl⟩:=List.mem_map.1 h; exact .inr ⟨b,hb,rfl⟩
 ·exact .inl (by simpa using h)
noncomputable abbrev rowD (a:Fp p):D:=(D.sl .leaf (ints .i64 (row a)))
theorem redS_keep {n:Nat}:∀{L:List (Fp p)} {a:Fp p},(∀b∈L,b.len≤n)→(redS L a).c n=a.c n
 | [],_,_=>rfl
 | b::L,a,h=>by
  show (redS L (elim b a)).c n=_
  rw [redS_keep (L:=L) (fun c hc=>h c (by simp [hc])),elim_c,c_ge (a:=b) (h b (by simp)),Gq.mul_zero,Gq.add_zero]
end
section
variable {p:Int} [IsP p]
structure Desc (N:Nat) (L:List (Fp p)):Prop where
 pw:L.Pairwise fun x y=>y.len<x.len
 mon:∀b∈L,Monic b
 le:∀b∈L,b.len≤N
theorem Desc.nil (N:Nat):Desc N ([]:List (Fp p)):=⟨List.Pairwise.nil,(fun _ h=>by cases h),(fun _ h=>by cases h)⟩
theorem Desc.tail {N:Nat} {b:Fp p} {L:List (Fp p)} (h:Desc N (b::L)):Desc N L∧∀c∈L,c.len<b.len:=
 ⟨⟨h.pw.tail,fun c hc=>h.mon c (by simp [hc]),fun c hc=>h.le c (by simp [hc])⟩,(List.pairwise_cons.1 h.pw).1⟩
theorem Desc.length:∀{N:Nat} {L:List (Fp p)},Desc N L→L.length≤N
 | N,[],_=>Nat.zero_le _
 | N,b::L,h=>by
  obtain ⟨h1,h2⟩:=h.tail
  have hb:=Pol.len_pos (h.mon b (by simp)).2
  have hle:=h.le b (by simp)
  have:=Desc.length (N:=b.len-1) ⟨h1.pw,h1.mon,fun c hc=>by have:=h2 c hc; omega⟩
  rw [List.length_cons]; omega
theorem elim_le {N:Nat} {a b:Fp p} (ha:a.len≤N) (hb:b.len≤N):(elim a b).len≤N:=by
 unfold elim
 refine Pol.len_add_le hb (Pol.len_le fun i hi=>?_)
 rw [Pol.c_Cmul,c_ge (a:=a) (by omega),Gq.mul_zero]
theorem elim_at {a:Fp p} (ha:Monic a) (b:Fp p):(elim a b).c (a.len-1)=0:=by
 rw [elim_c,show a.c (a.len-1)=1 from ha.1,Gq.mul_one]
 exact Gq.add_neg _
theorem redS_le {N:Nat}:∀{L:List (Fp p)} {a:Fp p},(∀b∈L,b.len≤N)→a.len≤N→(redS L a).len≤N
 | [],_,_,ha=>ha
 | b::L,a,h,ha=>redS_le (L:=L) (fun c hc=>h c (by simp [hc])) (elim_le (h b (by simp)) ha)
theorem redS_zero {N:Nat}:∀{L:List (Fp p)} {a:Fp p},Desc N L→∀b∈L,(redS L a).c (b.len-1)=0
 | b::L,a,h,c,hc=>by
  obtain ⟨h1,h2⟩:=h.tail
  show (redS L (elim b a)).c _=0
  rcases List.mem_cons.1 hc with rfl | hc
  ·rw [redS_keep (L:=L) (fun d hd=>by have:=h2 d hd; omega),elim_at (h.mon c (by simp))]
  ·exact redS_zero h1 c hc
theorem redS_ne {N:Nat} {L:List (Fp p)} {a:Fp p} (h:Desc N L) (h0:redS L a≠0):∀b∈L,b.len≠(redS L a).len:=fun b hb e=>by
 have h1:=redS_zero (a:=a) h b hb
 rw [e] at h1
 exact Pol.ld_ne h0 h1
theorem elim_mon {a b:Fp p} (hb:Monic b) (hne:b.len≠a.len):Monic (elim a b)∧(elim a b).len=b.len:=by
 have hbp:=Pol.len_pos hb.2
 rcases Nat.lt_or_ge b.len a.len with h | h
 ·have:elim a b=b:=by
   unfold elim
   rw [c_ge (by omega),Gq.neg_zero,Pol.C_zero,Gq.zero_mul,Gq.add_zero]
  rw [this]; exact ⟨hb,rfl⟩
 ·have hc:(elim a b).c (b.len-1)=1:=by
   rw [elim_c,c_ge (a:=a) (by omega),Gq.mul_zero,Gq.add_zero]; exact hb.1
  have hl:(elim a b).len=b.len:=by
   have h1:(elim a b).len=(b.len-1)+1:=Pol.len_eq (Pol.lt_iff.2 (by
    rw [Nat.sub_add_cancel hbp]; exact elim_le h (Nat.le_refl _))) (by rw [hc]; exact Fd.one_ne)
   omega
  refine ⟨⟨by unfold Pol.ld; rw [hl]; exact hc,fun h0=>?_⟩,hl⟩
  rw [h0,Pol.len_zero] at hl
  omega
theorem insS_desc {N:Nat} {a:Fp p} (ha:Monic a) (hal:a.len≤N):∀{L:List (Fp p)},Desc N L→(∀b∈L,b.len≠a.len)→Desc N (insS a L)
 | [],_,_=>⟨List.pairwise_singleton _ _,fun b hb=>by simp [insS] at hb; rw [hb]; exact ha,fun b hb=>by simp [insS] at hb; rw [hb]; exact hal⟩
 | b::L,h,hne=>by
  obtain ⟨h1,h2⟩:=h.tail
  have hall:∀c∈b::L,Monic (elim a c)∧(elim a c).len=c.len:=fun c hc=>elim_mon (h.mon c hc) (hne c hc)
  refine ⟨?_,fun c hc=>?_,fun c hc=>?_⟩
  ·unfold insS
   split
   ·rename_i hlt
    refine List.pairwise_cons.2 ⟨fun c hc=>?_,?_⟩
    ·obtain ⟨d,hd,rfl⟩:=List.mem_map.1 hc
     rw [(hall d hd).2]
     rcases List.mem_cons.1 hd with rfl | hd
     ·exact hlt
     ·have:=h2 d hd; omega
    ·rw [List.pairwise_map]
     refine h.pw.imp_of_mem fun {x y} hx hy hxy=>?_
     rw [(hall x hx).2,(hall y hy).2]; exact hxy
   ·rename_i hge
    refine List.pairwise_cons.2 ⟨fun c hc=>?_,(insS_desc ha hal h1 fun c hc=>hne c (by simp [hc])).pw⟩
    rw [(hall b (by simp)).2]
    rcases insS_mem hc with rfl | ⟨d,hd,rfl⟩
    ·have:=hne b (by simp); omega
    ·rw [(hall d (by simp [hd])).2]; exact h2 d hd
  ·rcases insS_mem hc with rfl | ⟨d,hd,rfl⟩
   ·exact ha
   ·exact (hall d hd).1
  ·rcases insS_mem hc with rfl | ⟨d,hd,rfl⟩
   ·exact hal
   ·rw [(hall d hd).2]; exact h.le d hd
noncomputable def putS (L:List (Fp p)) (x:Fp p):List (Fp p):=by
 classical exact if redS L x=0 then L else insS (Gq.mon (redS L x)) L
theorem putS_zero {L:List (Fp p)} {x:Fp p} (h:redS L x=0):putS L x=L:=by unfold putS; rw [if_pos h]
theorem putS_ne {L:List (Fp p)} {x:Fp p} (h:redS L x≠0):putS L x=insS (Gq.mon (redS L x)) L:=by unfold putS; rw [if_neg h]
theorem putS_desc {N:Nat} {L:List (Fp p)} {x:Fp p} (h:Desc N L) (hx:x.len≤N):Desc N (putS L x):=by
 by_cases h0:redS L x=0
 ·rw [putS_zero h0]; exact h
 ·rw [putS_ne h0]
  exact insS_desc (mon_monic h0) (by rw [mon_len h0]; exact redS_le h.le hx) h fun b hb=>by rw [mon_len h0]; exact redS_ne h h0 b hb
end
section
variable {p:Int}
end
end Pe

namespace Pe
open Go Gq
variable {T:Nat→Option Fn} {A:Oracle}
def K_single (O:Oracle):Prop:=∀(p:Int) [IsP p] (c:Fp p) (k:Nat),k<10000→ask O F1w [(D.sl .leaf (ints .i64 (row c))),(D.int .i64 k)]=some (skD (termS c k))
theorem termS_map {p:Int} (c:Fp p) (k:Nat):(List.replicate (k+1) (D.sl .leaf [])).set k (D.sl .leaf (ints .i64 (row c)))=(termS c k).map rowD:=by
 unfold termS
 rw [List.map_append,List.map_replicate,show rowD (0:Fp p)=.sl .leaf [] by show (D.sl .leaf (ints .i64 (row (0:Fp p))))=_; rw [row_zero,ints_nil],List.replicate_succ',List.set_append_right _ _ (by rw [List.length_replicate]; omega),List.length_replicate,Nat.sub_self]
 rfl
theorem k_single (hT:T F1w=some Z1w):K_single (den T A):=by
 intro p ip c k hk
 have w1:IntKind.i64.wrap ((k:Int)+1)=((k+1:Nat):Int):=(w64 (x:=(k:Int)+1) (by omega)).trans (by omega)
 have h24:(k+1)*24≤1099511627776:=by omega
 have hn:(0:Int)≤((k+1:Nat):Int):=by omega
 have hlt:k<k+1:=by omega
 have hsk:skD (termS c k)=.sl .leaf ((termS c k).map rowD):=rfl
 have htm:=termS_map c k
 have hTL:((termS c k).map rowD).length=k+1:=by rw [List.length_map,termS_length]
 have htk:((termS c k).map rowD).take (k+1)=(termS c k).map rowD:=List.take_of_length_le (by omega)
 rw [hsk]
 refine ask_of hT rfl ?_
 have hRL:(List.replicate (k+1) (D.sl .leaf [])).length=k+1:=List.length_replicate ..
 have hRg:∀h:k<(List.replicate (k+1) (D.sl .leaf [])).length,(List.replicate (k+1) (D.sl .leaf []))[k]'h=D.sl .leaf []:=fun h=>List.getElem_replicate h
 generalize (termS c k).map rowD=TD at *
 generalize row c=Rc at *
 generalize hRR:List.replicate (k+1) (D.sl .leaf [])=RR at *
 generalize k+1=k1 at *
 simp -implicitDefEqProofs [Z1w,Z1w_B,w1,h24,hlt,hRR,hRL,hRg,htm,hTL,htk]
def K_skAt (O:Oracle):Prop:=∀(p:Int) [IsP p] (A:List (Fp p)) (i:Nat),ask O F1y [skD A,(D.int .i64 i)]=some (D.sl .leaf (ints .i64 (row (cS A i))))
theorem k_skAt (hT:T F1y=some Z1y):K_skAt (den T A):=by
 intro p ip S i
 have hsk:skD S=.sl .leaf (S.map rowD):=rfl
 have hL:(S.map rowD).length=S.length:=List.length_map ..
 rw [hsk]
 refine ask_of hT rfl ?_
 by_cases h:i<S.length
 ·have hx:∀h:i<(S.map rowD).length,(S.map rowD)[i]'h=(D.sl .leaf (ints .i64 (row (cS S i)))):=fun h'=>by rw [List.getElem_map,cS_lt h]
  generalize row (cS S i)=Rc at *
  generalize S.map rowD=SD at *
  simp -implicitDefEqProofs [Z1y,Z1y_B,dn_cond,h,hL,hx]
 ·rw [cS_ge (by omega),row_zero]
  generalize S.map rowD=SD at *
  simp -implicitDefEqProofs [Z1y,Z1y_B,dn_cond,h,hL,ints_nil]
theorem l_plus {O:Oracle} (hat:K_skAt O) (hco:K_combine O) {p:Int} [IsP p] {m:Fp p} {X Y:List (Fp p)} {k:Int} (hk:-1000≤k∧k≤1000) (hX:∀c∈X,c.len≤64) (hY:∀c∈Y,c.len≤64) {n:Nat} (hn:n<100000) {cp cq:Option Nat}:∀(r i:Nat) (Q:List D),i+r=n→Q.length=n→(∀d∈Q,d.sh.beq .leaf=true)→Q.take i=((List.range n).map fun i=>rowD (cS X i+Pol.C (zp p k)*cS Y i)).take i →
 dn O 0 (.loop Zx_L0) ⟨[(1,.d (skD X)),(2,.d (skD Y)),(3,(.d (.int .i64 k))),(4,.ptr 0 []),(9,.sl 1 [] 0 n cp),(18,(.d (.int .i64 n))),(19,(.d (.int .i64 i)))],[.box false (fldD m),.sl false .leaf Q]⟩ =
  some (.exit 0,⟨[(1,.d (skD X)),(2,.d (skD Y)),(3,(.d (.int .i64 k))),(4,.ptr 0 []),(9,.sl 1 [] 0 n cp),(18,(.d (.int .i64 n))),(19,(.d (.int .i64 n))),(20,(.d (.bool false)))],[.box false (fldD m),.sl false .leaf ((List.range n).map fun i=>rowD (cS X i+Pol.C (zp p k)*cS Y i))]⟩)
 | 0,i,Q,hi,hq,hQ,ht=>by
  obtain rfl:i=n:=by omega
  rw [List.take_of_length_le (by omega),List.take_of_length_le (by rw [List.length_map,List.length_range]; omega)] at ht
  subst ht
  refine dn_stop ?_
  generalize (List.range i).map (fun i=>rowD (cS X i+Pol.C (zp p k)*cS Y i))=LQ at *
  simp -implicitDefEqProofs [Zx_L0,dn_cond]
 | r+1,i,Q,hi,hq,hQ,ht=>by
  have hlt:i<n:=by omega
  have hltq:i<Q.length:=by omega
  have hsh:∀h:i<Q.length,(Q[i]'h).sh.beq .leaf=true:=fun h=>hQ _ (List.getElem_mem h)
  have e1:=hat p X i
  have e2:=hat p Y i
  have a1:=mem_cS hX i
  have a2:=mem_cS hY i
  have e3:=hco p k (cS X i) (cS Y i) (by omega) (by omega) (by omega) (by omega)
  have w4:IntKind.i64.wrap ((i:Int)+1)=((i+1:Nat):Int):=(w64 (x:=(i:Int)+1) (by omega)).trans (by omega)
  have hLn:((List.range n).map fun i=>rowD (cS X i+Pol.C (zp p k)*cS Y i)).length=n:=by rw [List.length_map,List.length_range]
  refine dn_round ?_ (l_plus hat hco (m:=m) hk hX hY hn (cp:=cp) (cq:=cq) r (i+1) (Q.set i (D.sl .leaf (ints .i64 (row (cS X i+Pol.C (zp p k)*cS Y i))))) (by omega) (by rw [List.length_set]; exact hq) (fun d hd=>by
   rcases List.mem_or_eq_of_mem_set hd with h1 | rfl
   ·exact hQ d h1
   ·rfl) (by
   rw [List.take_succ_eq_append_getElem (by rw [List.length_set]; exact hltq),List.getElem_set_self,List.take_set,List.set_eq_of_length_le (by rw [List.length_take]; omega),ht,List.take_succ_eq_append_getElem (by omega),List.getElem_map,List.getElem_range]))
  have hfd:fldD m=.st [.leaf,.leaf] [(D.int .i64 p),(D.sl .leaf (ints .i64 (row m)))]:=rfl
  have hsX:skD X=.sl .leaf (X.map rowD):=rfl
  have hsY:skD Y=.sl .leaf (Y.map rowD):=rfl
  rw [hfd]
  rw [hsX] at e1 ⊢
  rw [hsY] at e2 ⊢
  generalize row (cS X i+Pol.C (zp p k)*cS Y i)=R3 at *
  generalize row (cS X i)=R1 at *
  generalize row (cS Y i)=R2 at *
  generalize X.map rowD=XD at *
  generalize Y.map rowD=YD at *
  generalize row m=Rm at *
  simp -implicitDefEqProofs [Zx_L0,dn_cond,hlt,hq,hsh,e1,e2,e3,w4]
def K_plus (O:Oracle):Prop:=∀(p:Int) [IsP p] (m:Fp p) (X Y:List (Fp p)) (k:Int),-1000≤k→k≤1000→X.length<10000→Y.length<10000→(∀c∈X,c.len≤64)→(∀c∈Y,c.len≤64)→ask O Fx [fldD m,skD X,skD Y,(D.int .i64 k)]=some (skD (plusS k X Y))
theorem k_plus (hT:T Fx=some Zx) (hat:K_skAt (den T A)) (hco:K_combine (den T A)) (htr:K_sktrim (den T A)):K_plus (den T A):=by
 intro p ip m X Y k hk1 hk2 hXl hYl hX hY
 have e1:=l_plus (O:=den T A) hat hco (m:=m) ⟨hk1,hk2⟩ hX hY (n:=max X.length Y.length) (by omega) (cp:=some (max X.length Y.length)) (cq:=none) (max X.length Y.length) 0 (List.replicate (max X.length Y.length) (.sl .leaf [])) (Nat.zero_add _) (List.length_replicate ..) (fun d hd=>by rw [List.eq_of_mem_replicate hd]; rfl) (by rw [List.take_zero,List.take_zero])
 have e00:((0:Nat):Int)=0:=rfl
 have e2:=htr p ((List.range (max X.length Y.length)).map fun i=>cS X i+Pol.C (zp p k)*cS Y i) (by rw [List.length_map,List.length_range]; omega)
 have hsum:skD ((List.range (max X.length Y.length)).map fun i=>cS X i+Pol.C (zp p k)*cS Y i)=.sl .leaf ((List.range (max X.length Y.length)).map fun i=>rowD (cS X i+Pol.C (zp p k)*cS Y i)):=by
  show D.sl .leaf (List.map _ (List.map _ _))=_
  rw [List.map_map]; rfl
 rw [hsum,show trimS ((List.range (max X.length Y.length)).map fun i=>cS X i+Pol.C (zp p k)*cS Y i)=plusS k X Y from rfl] at e2
 rw [e00] at e1
 have hsX:skD X=.sl .leaf (X.map rowD):=rfl
 have hsY:skD Y=.sl .leaf (Y.map rowD):=rfl
 have hsP:skD (plusS k X Y)=.sl .leaf ((plusS k X Y).map rowD):=rfl
 have hX1:(X.map rowD).length=X.length:=List.length_map ..
 have hY1:(Y.map rowD).length=Y.length:=List.length_map ..
 have hmx:(if X.length<Y.length then ((Y.length:Nat):Int) else ((X.length:Nat):Int))=((max X.length Y.length:Nat):Int):=by split <;> omega
 have h24:max X.length Y.length*24≤1099511627776:=by omega
 have hLn:((List.range (max X.length Y.length)).map fun i=>rowD (cS X i+Pol.C (zp p k)*cS Y i)).length=max X.length Y.length:=by rw [List.length_map,List.length_range]
 have htk:((List.range (max X.length Y.length)).map fun i=>rowD (cS X i+Pol.C (zp p k)*cS Y i)).take (max X.length Y.length)=((List.range (max X.length Y.length)).map fun i=>rowD (cS X i+Pol.C (zp p k)*cS Y i)):=List.take_of_length_le (by omega)
 rw [hsP] at e2 ⊢
 rw [hsX,hsY] at e1 ⊢
 refine ask_of hT rfl ?_
 generalize ((List.range (max X.length Y.length)).map fun i=>rowD (cS X i+Pol.C (zp p k)*cS Y i))=LQ at *
 generalize X.map rowD=XD at *
 generalize Y.map rowD=YD at *
 generalize (plusS k X Y).map rowD=PD at *
 generalize hmm:max X.length Y.length=n at *
 simp -implicitDefEqProofs [Zx,Zx_B,hX1,hY1,hmx,h24,e1,e2,hLn,htk]
def K_by2 (O:Oracle):Prop:=∀(p:Int) [IsP p] (m:Fp p) (a b:List (Fp p)),2≤m.len→m.len≤64→(∀c∈a,c.len≤64)→(∀c∈b,c.len≤64)→a.length<10000→b.length<10000→ask O Fq [fldD m,skD a,skD b]=some (skD (prodS m a b))
theorem k_by2 {O:Oracle} (h:K_by O):K_by2 O:=by
 intro p ip m a b h2 hml ha hb hal hbl
 rw [h p m a b h2 hml ha hb hal hbl]
 unfold prodS
 split <;> rfl
theorem l_divR {O:Oracle} (hfr:K_frob O) (hin:K_inverted O) (hpr:K_product O) (hsi:K_single O) (hpl:K_plus O) (hby:K_by2 O) {p:Int} [IsP p] {m:Fp p} (hm:Fld m) {B:List (Fp p)} (hB:Sk m B) (h1:1≤B.length):∀(r:Nat) (Q X:List (Fp p)),X.length≤r→Sk m Q→Sk m X →
 dn O 0 (.loop Zs_L0) ⟨[(1,.d (skD X)),(2,.d (skD B)),(3,.ptr 0 []),(8,.d (skD Q))],[.box false (fldD m)]⟩ =
  some (.exit 0,⟨[(1,.d (skD (divG false m B r Q X).2)),(2,.d (skD B)),(3,.ptr 0 []),(8,.d (skD (divG false m B r Q X).1)),(16,(.d (.bool false)))],[.box false (fldD m)]⟩)
 | 0,Q,X,hr,hQ,hX=>by
  have hlt:¬ B.length≤X.length:=by omega
  have hsX:skD X=.sl .leaf (X.map rowD):=rfl
  have hsB:skD B=.sl .leaf (B.map rowD):=rfl
  have hX1:(X.map rowD).length=X.length:=List.length_map ..
  have hB1:(B.map rowD).length=B.length:=List.length_map ..
  refine dn_stop ?_
  show _=some (_,(⟨[(1,.d (skD X)),_,_,(8,.d (skD Q)),_],_⟩:St))
  rw [hsX,hsB]
  generalize X.map rowD=XD at *
  generalize B.map rowD=BD at *
  simp -implicitDefEqProofs [Zs_L0,dn_cond,hX1,hB1,hlt]
 | r+1,Q,X,hr,hQ,hX=>by
  have hsX:skD X=.sl .leaf (X.map rowD):=rfl
  have hsB:skD B=.sl .leaf (B.map rowD):=rfl
  have hsQ:skD Q=.sl .leaf (Q.map rowD):=rfl
  have hX1:(X.map rowD).length=X.length:=List.length_map ..
  have hB1:(B.map rowD).length=B.length:=List.length_map ..
  by_cases hlt:X.length<B.length
  ·have hg:divG false m B (r+1) Q X=(Q,X):=by unfold divG; rw [if_pos hlt]
   have hlt':¬ B.length≤X.length:=by omega
   rw [hg]
   refine dn_stop ?_
   rw [hsX,hsB]
   generalize X.map rowD=XD at *
   generalize B.map rowD=BD at *
   simp -implicitDefEqProofs [Zs_L0,dn_cond,hX1,hB1,hlt']
  ·have hg:divG false m B (r+1) Q X=divG false m B r (plusS 1 Q (qT false m X B)) (plusS (-1) X (qP false m X B)):=by
    conv=>lhs; unfold divG
    rw [if_neg hlt]
   have hle:B.length≤X.length:=by omega
   obtain ⟨s1,s2,s3,s4,s5,s6⟩:=step_ok false hm hX hB h1 hle
   have h2:=hm.two
   have h5:=hm.five
   have h8:=hX.eight
   have hB8:=hB.eight
   have hm0:=hm.mon.2
   have ih:=l_divR hfr hin hpr hsi hpl hby hm hB h1 r (plusS 1 Q (qT false m X B)) (plusS (-1) X (qP false m X B)) (by omega) (hQ.plus hm0 s3 1) s6
   rw [←hg] at ih
   have hyl:=hB.cs hm0 (B.length-1)
   have hxl:=hX.cs hm0 (X.length-1)
   have e1:=hfr p m (cS B (B.length-1)) (X.length-B.length) h2 (by omega) (by omega) (by omega)
   have hfl:=frIt_len hm0 ((X.length-B.length)%(m.len-1)) (cS B (B.length-1)) hyl
   have e2:=hin p m (frIt m ((X.length-B.length)%(m.len-1)) (cS B (B.length-1))) hm0 (by omega) (by omega)
   have hil:=invm_len hm0 (frIt m ((X.length-B.length)%(m.len-1)) (cS B (B.length-1)))
   have e3:=hpr p m (cS X (X.length-1)) (invm m (frIt m ((X.length-B.length)%(m.len-1)) (cS B (B.length-1)))) hm0 (by omega) (by omega) (by omega)
   rw [show cS X (X.length-1)*invm m (frIt m ((X.length-B.length)%(m.len-1)) (cS B (B.length-1)))%m=qc false m X B from rfl] at e3
   have e4:=hsi p (qc false m X B) (X.length-B.length) (by omega)
   rw [show termS (qc false m X B) (X.length-B.length)=qT false m X B from rfl] at e4
   have e5:=hpl p m Q (qT false m X B) 1 (by omega) (by omega) (by have:=hQ.eight; omega) (by have:=s3.eight; omega) (fun c hc=>by have:=hQ.res c hc; omega) (fun c hc=>by have:=s3.res c hc; omega)
   have e6:=hby p m (qT false m X B) B h2 (by omega) (fun c hc=>by have:=s3.res c hc; omega) (fun c hc=>by have:=hB.res c hc; omega) (by have:=s3.eight; omega) (by omega)
   rw [show prodS m (qT false m X B) B=qP false m X B from rfl] at e6
   have e7:=hpl p m X (qP false m X B) (-1) (by omega) (by omega) (by omega) (by have:=s4.eight; omega) (fun c hc=>by have:=hX.res c hc; omega) (fun c hc=>by have:=s4.res c hc; omega)
   have w1:IntKind.i64.wrap ((X.length:Int)-B.length)=((X.length-B.length:Nat):Int):=(w64 (by omega)).trans (by omega)
   have w2:IntKind.i64.wrap ((X.length:Int)-1)=((X.length-1:Nat):Int):=(w64 (by omega)).trans (by omega)
   have w3:IntKind.i64.wrap ((B.length:Int)-1)=((B.length-1:Nat):Int):=(w64 (by omega)).trans (by omega)
   have hx1:∀h:X.length-1<(X.map rowD).length,(X.map rowD)[X.length-1]'h=(D.sl .leaf (ints .i64 (row (cS X (X.length-1))))):=fun h=>by rw [List.getElem_map,cS_lt (by omega)]
   have hx2:∀h:B.length-1<(B.map rowD).length,(B.map rowD)[B.length-1]'h=(D.sl .leaf (ints .i64 (row (cS B (B.length-1))))):=fun h=>by rw [List.getElem_map,cS_lt (by omega)]
   have hb1:X.length-1<X.length:=by omega
   have hb2:B.length-1<B.length:=by omega
   have hfd:fldD m=.st [.leaf,.leaf] [(D.int .i64 p),(D.sl .leaf (ints .i64 (row m)))]:=rfl
   refine dn_round ?_ ih
   rw [show skD (plusS 1 Q (qT false m X B))=.sl .leaf ((plusS 1 Q (qT false m X B)).map rowD) from rfl] at e5 ⊢
   rw [show skD (plusS (-1) X (qP false m X B))=.sl .leaf ((plusS (-1) X (qP false m X B)).map rowD) from rfl] at e7 ⊢
   rw [show skD (qT false m X B)=.sl .leaf ((qT false m X B).map rowD) from rfl] at e4 e5 e6
   rw [show skD (qP false m X B)=.sl .leaf ((qP false m X B).map rowD) from rfl] at e6 e7
   rw [hsX] at e7 ⊢
   rw [hsB] at e6 ⊢
   rw [hsQ] at e5 ⊢
   rw [hfd] at e1 e2 e3 e5 e6 e7 ⊢
   generalize (plusS 1 Q (qT false m X B)).map rowD=D1 at *
   generalize (plusS (-1) X (qP false m X B)).map rowD=D2 at *
   generalize (qT false m X B).map rowD=D3 at *
   generalize (qP false m X B).map rowD=D4 at *
   generalize row (qc false m X B)=R1 at *
   generalize row (invm m (frIt m ((X.length-B.length)%(m.len-1)) (cS B (B.length-1))))=R2 at *
   generalize row (frIt m ((X.length-B.length)%(m.len-1)) (cS B (B.length-1)))=R3 at *
   generalize row (cS X (X.length-1))=R4 at *
   generalize row (cS B (B.length-1))=R5 at *
   generalize X.map rowD=XD at *
   generalize B.map rowD=BD at *
   generalize Q.map rowD=QD at *
   generalize row m=Rm at *
   generalize X.length-B.length=xb at *
   generalize X.length-1=x1 at *
   generalize B.length-1=b1 at *
   simp -implicitDefEqProofs [Zs_L0,dn_cond,hX1,hB1,hle,hb1,hb2,hx1,hx2,w1,w2,w3,e1,e2,e3,e4,e5,e6,e7]
def K_div (O:Oracle) (F:Nat) (left:Bool):Prop:=∀(p:Int) [IsP p] (m:Fp p) (X B:List (Fp p)),Fld m→Sk m X→Sk m B→1≤B.length→ask O F [fldD m,skD X,skD B]=some (.tup [skD (divG left m B X.length [] X).1,skD (divG left m B X.length [] X).2])
theorem k_divR (hT:T Fs=some Zs) (hfr:K_frob (den T A)) (hin:K_inverted (den T A)) (hpr:K_product (den T A)) (hsi:K_single (den T A)) (hpl:K_plus (den T A)) (hby:K_by2 (den T A)):K_div (den T A) Fs false:=by
 intro p ip m X B hm hX hB h1
 have e:=l_divR (O:=den T A) hfr hin hpr hsi hpl hby hm hB h1 X.length [] X (Nat.le_refl _) (Sk.nil m) hX
 rw [show skD ([]:List (Fp p))=.sl .leaf [] from rfl] at e
 rw [show skD (divG false m B X.length [] X).1=.sl .leaf ((divG false m B X.length [] X).1.map rowD) from rfl,show skD (divG false m B X.length [] X).2=.sl .leaf ((divG false m B X.length [] X).2.map rowD) from rfl] at e ⊢
 rw [show skD X=.sl .leaf (X.map rowD) from rfl,show skD B=.sl .leaf (B.map rowD) from rfl] at e ⊢
 refine ask_of hT rfl ?_
 generalize (divG false m B X.length [] X).1.map rowD=D1 at *
 generalize (divG false m B X.length [] X).2.map rowD=D2 at *
 generalize X.map rowD=XD at *
 generalize B.map rowD=BD at *
 simp -implicitDefEqProofs [Zs,Zs_B,e]
end Pe

namespace Pe
open Go Gq
variable {T:Nat→Option Fn} {A:Oracle}
section
variable {p:Int} [IsP p]
end
end Pe



namespace Pe
open Go Gq
variable {T:Nat→Option Fn} {A:Oracle}
section
variable {p:Int} [IsP p]
end
end Pe


namespace Pe
open Go Gq
variable {T:Nat→Option Fn} {A:Oracle}
section
variable {p:Int}
end
section
variable {p:Int} [IsP p]
end
end Pe


namespace Pe
open Go Gq
variable {T:Nat→Option Fn} {A:Oracle}
end Pe

namespace Pe
open Go Gq
variable {T:Nat→Option Fn} {A:Oracle}
end Pe


namespace Pe
open Go Gq
variable {T:Nat→Option Fn} {A:Oracle}
section
variable {p:Int} [IsP p]
end
end Pe


namespace Pe
open Go Gq
variable {T:Nat→Option Fn} {A:Oracle}
section
variable {p:Int} [IsP p]
end
end Pe

namespace Pe
open Go Gq
variable {T:Nat→Option Fn} {A:Oracle}
section
variable {α:Type}
def updG (f:Nat→α):Nat→Nat→List α→List α
 | 0,_,l=>l
 | m+1,i,l=>updG f m (i+1) (l.set i (f i))
theorem updG_get (f:Nat→α):∀(m i:Nat) (l:List α) (j:Nat),(updG f m i l)[j]? = if i≤j∧j<i+m∧j<l.length then some (f j) else l[j]?
 | 0,i,l,j=>by rw [updG,if_neg (by omega)]
 | m+1,i,l,j=>by
  rw [updG,updG_get f m,List.length_set]
  by_cases h1:i+1≤j∧j<i+1+m∧j<l.length
  ·rw [if_pos h1,if_pos (by omega)]
  ·rw [if_neg h1]
   by_cases h2:j=i
   ·subst h2
    by_cases h3:j<l.length
    ·rw [if_pos (by omega),List.getElem?_set_self h3]
    ·rw [if_neg (by omega),List.getElem?_eq_none (by simpa using h3),List.getElem?_eq_none (by omega)]
   ·rw [List.getElem?_set_ne (Ne.symm h2),if_neg (by omega)]
theorem updG_all (f:Nat→α) (n:Nat) (l:List α) (hl:l.length=n):updG f n 0 l=(List.range n).map f:=by
 apply List.ext_getElem?
 intro j
 rw [updG_get,List.getElem?_map]
 by_cases hj:j<n
 ·rw [if_pos (by omega),List.getElem?_range hj]; rfl
 ·rw [if_neg (by omega),List.getElem?_eq_none (by omega),List.getElem?_eq_none (by simpa using hj)]; rfl
end
end Pe

namespace Pe
open Go Gq
variable {T:Nat→Option Fn} {A:Oracle}
theorem l_divL {O:Oracle} (hfr:K_frob O) (hin:K_inverted O) (hdg:K_skDeg O) (hpr:K_product O) (hsi:K_single O) (hpl:K_plus O) (hby:K_by2 O) {p:Int} [IsP p] {m:Fp p} (hm:Fld m) {B:List (Fp p)} (hB:Sk m B) (h1:1≤B.length):∀(r:Nat) (Q X:List (Fp p)),X.length≤r→Sk m Q→Sk m X →
 dn O 0 (.loop Zr_L0) ⟨[(1,.d (skD X)),(2,.d (skD B)),(3,.ptr 0 []),(8,.d (skD Q)),(9,(.d (.int .i64 (((m.len-1:Nat):Int)))))],[.box false (fldD m)]⟩ =
  some (.exit 0,⟨[(1,.d (skD (divG true m B r Q X).2)),(2,.d (skD B)),(3,.ptr 0 []),(8,.d (skD (divG true m B r Q X).1)),(9,(.d (.int .i64 (((m.len-1:Nat):Int))))),(20,(.d (.bool false)))],[.box false (fldD m)]⟩)
 | 0,Q,X,hr,hQ,hX=>by
  have hlt:¬ B.length≤X.length:=by omega
  have hsX:skD X=.sl .leaf (X.map rowD):=rfl
  have hsB:skD B=.sl .leaf (B.map rowD):=rfl
  have hX1:(X.map rowD).length=X.length:=List.length_map ..
  have hB1:(B.map rowD).length=B.length:=List.length_map ..
  refine dn_stop ?_
  show _=some (_,(⟨[(1,.d (skD X)),_,_,(8,.d (skD Q)),_,_],_⟩:St))
  rw [hsX,hsB]
  generalize X.map rowD=XD at *
  generalize B.map rowD=BD at *
  simp -implicitDefEqProofs [Zr_L0,dn_cond,hX1,hB1,hlt]
 | r+1,Q,X,hr,hQ,hX=>by
  have hsX:skD X=.sl .leaf (X.map rowD):=rfl
  have hsB:skD B=.sl .leaf (B.map rowD):=rfl
  have hsQ:skD Q=.sl .leaf (Q.map rowD):=rfl
  have hX1:(X.map rowD).length=X.length:=List.length_map ..
  have hB1:(B.map rowD).length=B.length:=List.length_map ..
  by_cases hlt:X.length<B.length
  ·have hg:divG true m B (r+1) Q X=(Q,X):=by unfold divG; rw [if_pos hlt]
   have hlt':¬ B.length≤X.length:=by omega
   rw [hg]
   refine dn_stop ?_
   rw [hsX,hsB]
   generalize X.map rowD=XD at *
   generalize B.map rowD=BD at *
   simp -implicitDefEqProofs [Zr_L0,dn_cond,hX1,hB1,hlt']
  ·have hg:divG true m B (r+1) Q X=divG true m B r (plusS 1 Q (qT true m X B)) (plusS (-1) X (qP true m X B)):=by
    conv=>lhs; unfold divG
    rw [if_neg hlt]
   have hle:B.length≤X.length:=by omega
   obtain ⟨s1,s2,s3,s4,s5,s6⟩:=step_ok true hm hX hB h1 hle
   have h2:=hm.two
   have h5:=hm.five
   have h8:=hX.eight
   have hB8:=hB.eight
   have hm0:=hm.mon.2
   have ih:=l_divL hfr hin hdg hpr hsi hpl hby hm hB h1 r (plusS 1 Q (qT true m X B)) (plusS (-1) X (qP true m X B)) (by omega) (hQ.plus hm0 s3 1) s6
   rw [←hg] at ih
   have hyl:=hB.cs hm0 (B.length-1)
   have hxl:=hX.cs hm0 (X.length-1)
   have e1:=hin p m (cS B (B.length-1)) hm0 (by omega) (by omega)
   have hil:=invm_len hm0 (cS B (B.length-1))
   have e2:=hpr p m (cS X (X.length-1)) (invm m (cS B (B.length-1))) hm0 (by omega) (by omega) (by omega)
   have hzl:=Pol.len_mod (cS X (X.length-1)*invm m (cS B (B.length-1))) hm0
   have hmd:=Nat.mod_lt (B.length-1) (show 0<m.len-1 by omega)
   have e3:=hfr p m (cS X (X.length-1)*invm m (cS B (B.length-1))%m) (m.len-1-(B.length-1)%(m.len-1)) h2 (by omega) (by omega) (by omega)
   rw [show frIt m ((m.len-1-(B.length-1)%(m.len-1))%(m.len-1)) (cS X (X.length-1)*invm m (cS B (B.length-1))%m)=qc true m X B from rfl] at e3
   have e8:=hdg p B (by omega)
   have w5:((B.length:Int)-1).tmod ((m.len-1:Nat):Int)=(((B.length-1)%(m.len-1):Nat):Int):=by
    rw [show (B.length:Int)-1=((B.length-1:Nat):Int) by omega,Int.tmod_eq_emod_of_nonneg (by omega)]; rfl
   have w6:IntKind.i64.wrap (((m.len-1:Nat):Int)-(((B.length-1)%(m.len-1):Nat):Int))=((m.len-1-(B.length-1)%(m.len-1):Nat):Int):=(w64 (by omega)).trans (by omega)
   have hd0:((m.len-1:Nat):Int)≠0:=by omega
   have e4:=hsi p (qc true m X B) (X.length-B.length) (by omega)
   rw [show termS (qc true m X B) (X.length-B.length)=qT true m X B from rfl] at e4
   have e5:=hpl p m Q (qT true m X B) 1 (by omega) (by omega) (by have:=hQ.eight; omega) (by have:=s3.eight; omega) (fun c hc=>by have:=hQ.res c hc; omega) (fun c hc=>by have:=s3.res c hc; omega)
   have e6:=hby p m B (qT true m X B) h2 (by omega) (fun c hc=>by have:=hB.res c hc; omega) (fun c hc=>by have:=s3.res c hc; omega) (by omega) (by have:=s3.eight; omega)
   rw [show prodS m B (qT true m X B)=qP true m X B from rfl] at e6
   have e7:=hpl p m X (qP true m X B) (-1) (by omega) (by omega) (by omega) (by have:=s4.eight; omega) (fun c hc=>by have:=hX.res c hc; omega) (fun c hc=>by have:=s4.res c hc; omega)
   have w1:IntKind.i64.wrap ((X.length:Int)-B.length)=((X.length-B.length:Nat):Int):=(w64 (by omega)).trans (by omega)
   have w2:IntKind.i64.wrap ((X.length:Int)-1)=((X.length-1:Nat):Int):=(w64 (by omega)).trans (by omega)
   have w3:IntKind.i64.wrap ((B.length:Int)-1)=((B.length-1:Nat):Int):=(w64 (by omega)).trans (by omega)
   have hx1:∀h:X.length-1<(X.map rowD).length,(X.map rowD)[X.length-1]'h=(D.sl .leaf (ints .i64 (row (cS X (X.length-1))))):=fun h=>by rw [List.getElem_map,cS_lt (by omega)]
   have hx2:∀h:B.length-1<(B.map rowD).length,(B.map rowD)[B.length-1]'h=(D.sl .leaf (ints .i64 (row (cS B (B.length-1))))):=fun h=>by rw [List.getElem_map,cS_lt (by omega)]
   have hb1:X.length-1<X.length:=by omega
   have hb2:B.length-1<B.length:=by omega
   have hfd:fldD m=.st [.leaf,.leaf] [(D.int .i64 p),(D.sl .leaf (ints .i64 (row m)))]:=rfl
   refine dn_round ?_ ih
   rw [show skD (plusS 1 Q (qT true m X B))=.sl .leaf ((plusS 1 Q (qT true m X B)).map rowD) from rfl] at e5 ⊢
   rw [show skD (plusS (-1) X (qP true m X B))=.sl .leaf ((plusS (-1) X (qP true m X B)).map rowD) from rfl] at e7 ⊢
   rw [show skD (qT true m X B)=.sl .leaf ((qT true m X B).map rowD) from rfl] at e4 e5 e6
   rw [show skD (qP true m X B)=.sl .leaf ((qP true m X B).map rowD) from rfl] at e6 e7
   rw [hsX] at e7 ⊢
   rw [hsB] at e6 e8 ⊢
   rw [hsQ] at e5 ⊢
   rw [hfd] at e1 e2 e3 e5 e6 e7 ⊢
   generalize (plusS 1 Q (qT true m X B)).map rowD=D1 at *
   generalize (plusS (-1) X (qP true m X B)).map rowD=D2 at *
   generalize (qT true m X B).map rowD=D3 at *
   generalize (qP true m X B).map rowD=D4 at *
   generalize row (qc true m X B)=R1 at *
   generalize row (cS X (X.length-1)*invm m (cS B (B.length-1))%m)=R2 at *
   generalize row (invm m (cS B (B.length-1)))=R3 at *
   generalize row (cS X (X.length-1))=R4 at *
   generalize row (cS B (B.length-1))=R5 at *
   generalize X.map rowD=XD at *
   generalize B.map rowD=BD at *
   generalize Q.map rowD=QD at *
   generalize row m=Rm at *
   generalize X.length-B.length=xb at *
   generalize X.length-1=x1 at *
   generalize m.len-1-(B.length-1)%(m.len-1)=kf at *
   generalize (((B.length-1)%(m.len-1):Nat):Int)=kr at *
   generalize ((m.len-1:Nat):Int)=kd at *
   generalize B.length-1=b1 at *
   simp -implicitDefEqProofs [Zr_L0,dn_cond,hX1,hB1,hle,hb1,hb2,hx1,hx2,w1,w2,w3,w5,w6,hd0,e1,e2,e3,e4,e5,e6,e7,e8]
theorem k_divL (hT:T Fr=some Zr) (hfr:K_frob (den T A)) (hin:K_inverted (den T A)) (hdg:C_degree (den T A)) (hsd:K_skDeg (den T A)) (hpr:K_product (den T A)) (hsi:K_single (den T A)) (hpl:K_plus (den T A)) (hby:K_by2 (den T A)):K_div (den T A) Fr true:=by
 intro p ip m X B hm hX hB h1
 have e:=l_divL (O:=den T A) hfr hin hsd hpr hsi hpl hby hm hB h1 X.length [] X (Nat.le_refl _) (Sk.nil m) hX
 rw [show skD ([]:List (Fp p))=.sl .leaf [] from rfl] at e
 have h2:=hm.two
 have h5:=hm.five
 have e2:=hdg (row m) (by rw [row_length]; omega)
 rw [row_length,show (m.len:Int)-1=((m.len-1:Nat):Int) by omega] at e2
 have hfd:fldD m=.st [.leaf,.leaf] [(D.int .i64 p),(D.sl .leaf (ints .i64 (row m)))]:=rfl
 rw [hfd] at e ⊢
 rw [show skD (divG true m B X.length [] X).1=.sl .leaf ((divG true m B X.length [] X).1.map rowD) from rfl,show skD (divG true m B X.length [] X).2=.sl .leaf ((divG true m B X.length [] X).2.map rowD) from rfl] at e ⊢
 rw [show skD X=.sl .leaf (X.map rowD) from rfl,show skD B=.sl .leaf (B.map rowD) from rfl] at e ⊢
 refine ask_of hT rfl ?_
 generalize (divG true m B X.length [] X).1.map rowD=D1 at *
 generalize (divG true m B X.length [] X).2.map rowD=D2 at *
 generalize X.map rowD=XD at *
 generalize B.map rowD=BD at *
 generalize ((m.len-1:Nat):Int)=kd at *
 generalize row m=Rm at *
 simp -implicitDefEqProofs [Zr,Zr_B,e,e2]
def K_sInv3 (O:Oracle):Prop:=∀(p:Int) [IsP p] (m a:Fp p),m≠0→m.len≤63→a≠0→a.len<m.len→ask O F48 [(D.int .i64 p),(D.arr 64 .leaf (ints .u8 (pad (row a)))),(D.arr 64 .leaf (ints .u8 (pad (row m))))]=some (D.arr 64 .leaf (ints .u8 (pad (row (invm m a)))))
theorem k_sInv3 (hT:T F48=some Z48) (hmo:K_sMod (den T A)) (hb:K_sBezout (den T A)):K_sInv3 (den T A):=by
 intro p ip m a hm hml ha hal
 have e2:=hb p a m (.inl ha) (by omega) (by omega)
 have e3:=hmo p (Pol.bezout a m).2.1 m hm (bez_64 ha hml) (by omega)
 have e4:(Pol.bezout a m).2.1%m=invm m a:=rfl
 rw [e4] at e3
 refine ask_of hT rfl ?_
 generalize pad (row (invm m a))=R at *
 generalize pad (row (Pol.bezout a m).1)=R1 at *
 generalize pad (row (Pol.bezout a m).2.1)=R2 at *
 generalize pad (row (Pol.bezout a m).2.2)=R3 at *
 generalize pad (row a)=Pa at *
 generalize pad (row m)=Pm at *
 simp -implicitDefEqProofs [Z48,Z48_B,e2,e3,List.replicate]
noncomputable abbrev eS {p:Int} (X:List (Fp p)):D:=skwD (skP (pd8 X))
theorem eS_arr {p:Int} (X:List (Fp p)):eS X=.arr 8 (.arr 64 .leaf) ((skP (pd8 X)).map arr8):=rfl
theorem eS_get {p:Int} {X:List (Fp p)} {i:Nat} (hX:X.length≤8) (hi:i<8):∀h:i<((skP (pd8 X)).map arr8).length,((skP (pd8 X)).map arr8)[i]'h=(D.arr 64 .leaf (ints .u8 (pad (row (cS X i))))):=fun h=>by
 rw [List.getElem_map,List.getElem_map,cS_lt (by rw [pd8_length hX]; exact hi),cS_pd8]
theorem eS_len {p:Int} {X:List (Fp p)} (hX:X.length≤8):((skP (pd8 X)).map arr8).length=8:=by rw [List.length_map,List.length_map,pd8_length hX]
def K_sTerm (O:Oracle):Prop:=∀(p:Int) [IsP p] (c:Fp p) (k:Nat),k<8→ask O F4e [(D.arr 64 .leaf (ints .u8 (pad (row c)))),(D.int .i64 k)]=some (eS (termS c k))
theorem term_pd8 {p:Int} (c:Fp p) {k:Nat} (hk:k<8):pd8 (termS c k)=zs8.set k c:=by
 have hz:pd8 ([]:List (Fp p))=zs8:=rfl
 have h:=pd8_set (Q:=([]:List (Fp p))) (k:=k) (c:=c) (by simp) hk rfl
 rw [hz] at h
 rw [h]
 refine eight_ext (pd8_length (by rw [termS_length]; omega)) (pd8_length (by have:=plus_len 1 ([]:List (Fp p)) (termS c k); rw [termS_length] at this; simp at this; omega)) fun i _=>?_
 rw [cS_pd8,cS_pd8,cS_plus,cS_nil,zp_one,Pol.C_one,Gq.one_mul,Gq.zero_add]
theorem k_sTerm (hT:T F4e=some Z4e):K_sTerm (den T A):=by
 intro p ip c k hk
 rw [eS_arr,term_pd8 c hk,show (skP ((zs8 (p:=p)).set k c)).map arr8=z8.set k (D.arr 64 .leaf (ints .u8 (pad (row c)))) by unfold skP; rw [List.map_set,List.map_set,show ((zs8 (p:=p)).map fun a=>pad (row a)).map arr8=z8 from z8_zs]]
 have hz8:z8=List.replicate 8 (D.arr 64 .leaf (ints .u8 (pad []))):=rfl
 have hlz:z8.length=8:=rfl
 have hsz:∀h:k<z8.length,(z8[k]'h).sh.beq (.arr 64 .leaf)=true:=fun h=>by simp only [hz8,List.getElem_replicate]; rfl
 refine ask_of hT rfl ?_
 generalize pad (row c)=Pc at *
 generalize hzz:z8=ZZ at *
 simp -implicitDefEqProofs [Z4e,Z4e_B,hk,hzz,hlz,hsz]
theorem l_sAdd8 {O:Oracle} (had:K_sAdd O) {p:Int} [IsP p] {X Y:List (Fp p)} {k:Int} {b:Blk} (hk:-1000≤k∧k≤1000) (hX8:X.length≤8) (hY8:Y.length≤8) (hX:∀c∈X,c.len≤64) (hY:∀c∈Y,c.len≤64):∀(r i:Nat) (Q:List (Fp p)),i+r=8→Q.length=8→(∀j,i≤j→cS Q j=cS X j) →
 dn O 0 (.loop Z3y_L0) ⟨[(0,(.d (.int .i64 p))),(3,(.d (.int .i64 k))),(5,.ptr 0 []),(6,.ptr 1 []),(8,.ptr 2 []),(9,(.d (.int .i64 i)))],[.box false (.arr 8 (.arr 64 .leaf) ((skP Q).map arr8)),.box false (.arr 8 (.arr 64 .leaf) ((skP (pd8 Y)).map arr8)),b]⟩ =
  some (.exit 0,⟨[(0,(.d (.int .i64 p))),(3,(.d (.int .i64 k))),(5,.ptr 0 []),(6,.ptr 1 []),(8,.ptr 2 []),(9,(.d (.int .i64 8))),(11,(.d (.bool false)))],[.box false (.arr 8 (.arr 64 .leaf) ((skP (updG (fun i=>cS X i+Pol.C (zp p k)*cS Y i) r i Q)).map arr8)),.box false (.arr 8 (.arr 64 .leaf) ((skP (pd8 Y)).map arr8)),b]⟩)
 | 0,i,Q,hi,hq,hQ=>by
  obtain rfl:i=8:=by omega
  refine dn_stop ?_
  show _=some (_,(⟨_,[.box false (.arr 8 (.arr 64 .leaf) ((skP Q).map arr8)),_,_]⟩:St))
  generalize (skP Q).map arr8=QD at *
  generalize (skP (pd8 Y)).map arr8=YD at *
  simp -implicitDefEqProofs [Z3y_L0,dn_cond]
 | r+1,i,Q,hi,hq,hQ=>by
  have hi8:i<8:=by omega
  have hi8':(i:Int)<8:=by omega
  have hltq:i<Q.length:=by omega
  have a1:=mem_cS hX i
  have a2:=mem_cS hY i
  have e1:=had p k (cS X i) (cS Y i) (by omega) (by omega) a1 a2
  have w4:IntKind.i64.wrap ((i:Int)+1)=((i+1:Nat):Int):=(w64 (x:=(i:Int)+1) (by omega)).trans (by omega)
  have hx1:∀h:i<((skP Q).map arr8).length,((skP Q).map arr8)[i]'h=(D.arr 64 .leaf (ints .u8 (pad (row (cS X i))))):=fun h=>by
   rw [List.getElem_map,List.getElem_map,cS_lt hltq,hQ i (Nat.le_refl _)]
  have hx2:=eS_get hY8 hi8
  have hQL:((skP Q).map arr8).length=8:=by rw [List.length_map,List.length_map]; exact hq
  have hYL:=eS_len hY8
  refine dn_round ?_ (l_sAdd8 had (b:=b) hk hX8 hY8 hX hY r (i+1) (Q.set i (cS X i+Pol.C (zp p k)*cS Y i)) (by omega) (by rw [List.length_set]; exact hq) (fun j hj=>by rw [cS_set hltq,if_neg (by omega),hQ j (by omega)]))
  rw [show (skP (Q.set i (cS X i+Pol.C (zp p k)*cS Y i))).map arr8=((skP Q).map arr8).set i (D.arr 64 .leaf (ints .u8 (pad (row (cS X i+Pol.C (zp p k)*cS Y i))))) by unfold skP; rw [List.map_set,List.map_set]]
  generalize pad (row (cS X i+Pol.C (zp p k)*cS Y i))=P1 at *
  generalize pad (row (cS X i))=P2 at *
  generalize pad (row (cS Y i))=P3 at *
  generalize (skP Q).map arr8=QD at *
  generalize (skP (pd8 Y)).map arr8=YD at *
  simp -implicitDefEqProofs [Z3y_L0,dn_cond,hi8,hi8',hQL,hYL,hx1,hx2,e1,w4]
def K_sAdd8 (O:Oracle):Prop:=∀(p:Int) [IsP p] (X Y:List (Fp p)) (k:Int),-1000≤k→k≤1000→X.length≤8→Y.length≤8→(∀c∈X,c.len≤64)→(∀c∈Y,c.len≤64)→ask O F3y [(D.int .i64 p),eS X,eS Y,(D.int .i64 k)]=some (eS (plusS k X Y))
theorem k_sAdd8 (hT:T F3y=some Z3y) (had:K_sAdd (den T A)):K_sAdd8 (den T A):=by
 intro p ip X Y k hk1 hk2 hX8 hY8 hX hY
 have e:=l_sAdd8 (O:=den T A) had (b:=.box false (.arr 8 (.arr 64 .leaf) z8)) ⟨hk1,hk2⟩ hX8 hY8 hX hY 8 0 (pd8 X) rfl (pd8_length hX8) (fun j _=>cS_pd8 j)
 have e00:((0:Nat):Int)=0:=rfl
 have hpl:=plus_len k X Y
 rw [e00,updG_all _ _ _ (pd8_length hX8),show (List.range 8).map (fun i=>cS X i+Pol.C (zp p k)*cS Y i)=pd8 (plusS k X Y) from eight_ext (by rw [List.length_map,List.length_range]) (pd8_length (by omega)) fun i hi=>by rw [cS_map,if_pos hi,cS_pd8,cS_plus]] at e
 rw [eS_arr,eS_arr,eS_arr]
 refine ask_of hT rfl ?_
 generalize (skP (pd8 X)).map arr8=XD at *
 generalize (skP (pd8 Y)).map arr8=YD at *
 generalize (skP (pd8 (plusS k X Y))).map arr8=PD at *
 simp -implicitDefEqProofs [Z3y,Z3y_B,e,List.replicate]
def K_sTimes8 (O:Oracle):Prop:=∀(p:Int) [IsP p] (m:Fp p) (X Y:List (Fp p)),Fld m→Sk m X→Sk m Y→X.length+Y.length≤9→ask O F4f [(D.int .i64 p),(D.arr 64 .leaf (ints .u8 (pad (row m)))),eS X,eS Y]=some (.tup [eS (prodS m X Y),(D.bool true)])
theorem pd8_res {p:Int} {m:Fp p} {X:List (Fp p)} (hm:m≠0) (hX:∀c∈X,c.len<m.len):∀c∈pd8 X,c.len<m.len:=fun c hc=>by
 unfold pd8 at hc
 rcases List.mem_append.1 hc with h | h
 ·exact hX c h
 ·rw [List.eq_of_mem_replicate h,Pol.len_zero]; exact Pol.len_pos hm
theorem k_sTimes8 {O:Oracle} (h:K_sTimes3 O):K_sTimes8 O:=by
 intro p ip m X Y hm hX hY h9
 have h5:=hm.five
 have e:=h p m (pd8 X) (pd8 Y) hm.two (by omega) (pd8_length hX.eight) (pd8_length hY.eight) (pd8_res hm.mon.2 hX.res) (pd8_res hm.mon.2 hY.res)
 rw [times_pd8 hX.trim hY.trim h9 hX.res hY.res hm] at e
 exact e
def K_sDeg8 (O:Oracle):Prop:=∀(p:Int) [IsP p] (m:Fp p) (X:List (Fp p)),m≠0→m.len≤64→Sk m X→ask O F41 [eS X]=some (D.int .i64 ((X.length:Int)-1))
theorem k_sDeg8 {O:Oracle} (h:K_sSkDeg O):K_sDeg8 O:=by
 intro p ip m X hm hml hX
 have e:=h p (pd8 X) (pd8_length hX.eight) (fun c hc=>by have:=pd8_res hm hX.res c hc; omega)
 rw [←trimS_len8 (pd8_length hX.eight),trim_pd8 hX.trim] at e
 exact e
end Pe


namespace Pe
open Go Gq
variable {T:Nat→Option Fn} {A:Oracle}
theorem l_sRight {O:Oracle} (hfr:K_sFrob O) (hin:K_sInv3 O) (hmm:K_sMulMod O) (hte:K_sTerm O) (hti:K_sTimes8 O) (had:K_sAdd8 O) (hdg:K_sDeg8 O) {p:Int} [IsP p] {m:Fp p} {z z2:List D} (hm:Fld m) {B:List (Fp p)} (hB:Sk m B) (h1:1≤B.length):∀(r:Nat) (Q X:List (Fp p)),X.length≤r→Sk m Q→Sk m X→Zto Q X B →
 dn O 0 (.loop Z4d_L0) ⟨[(0,(.d (.int .i64 p))),(5,.ptr 0 []),(6,.ptr 1 []),(7,.ptr 2 []),(8,.ptr 3 []),(9,.ptr 4 []),(10,.ptr 5 []),(11,(.d (.int .i64 (((B.length-1:Nat):Int))))),(12,(.d (.int .i64 ((X.length:Int)-1))))],[.box false (D.arr 64 .leaf (ints .u8 (pad (row m)))),.box false (.arr 8 (.arr 64 .leaf) ((skP (pd8 X)).map arr8)),.box false (.arr 8 (.arr 64 .leaf) ((skP (pd8 B)).map arr8)),.box false (.arr 8 (.arr 64 .leaf) z),.box false (.arr 8 (.arr 64 .leaf) z2),.box false (.arr 8 (.arr 64 .leaf) ((skP (pd8 Q)).map arr8)),.hole,.hole]⟩ =
  some (.exit 0,⟨[(0,(.d (.int .i64 p))),(5,.ptr 0 []),(6,.ptr 1 []),(7,.ptr 2 []),(8,.ptr 3 []),(9,.ptr 4 []),(10,.ptr 5 []),(11,(.d (.int .i64 (((B.length-1:Nat):Int))))),(12,(.d (.int .i64 (((divG false m B r Q X).2.length:Int)-1)))),(23,(.d (.bool false)))],[.box false (D.arr 64 .leaf (ints .u8 (pad (row m)))),.box false (.arr 8 (.arr 64 .leaf) ((skP (pd8 (divG false m B r Q X).2)).map arr8)),.box false (.arr 8 (.arr 64 .leaf) ((skP (pd8 B)).map arr8)),.box false (.arr 8 (.arr 64 .leaf) z),.box false (.arr 8 (.arr 64 .leaf) z2),.box false (.arr 8 (.arr 64 .leaf) ((skP (pd8 (divG false m B r Q X).1)).map arr8)),.hole,.hole]⟩)
 | 0,Q,X,hr,hQ,hX,hz=>by
  have hlt:¬ ((B.length-1:Nat):Int)≤(X.length:Int)-1:=by omega
  refine dn_stop ?_
  show _=some (_,(⟨[_,_,_,_,_,_,_,_,(12,(.d (.int .i64 ((X.length:Int)-1)))),_],[_,.box false (.arr 8 (.arr 64 .leaf) ((skP (pd8 X)).map arr8)),_,_,_,.box false (.arr 8 (.arr 64 .leaf) ((skP (pd8 Q)).map arr8)),_,_]⟩:St))
  generalize (X.length:Int)-1=x1 at *
  generalize ((B.length-1:Nat):Int)=b1 at *
  generalize (skP (pd8 X)).map arr8=XD at *
  generalize (skP (pd8 B)).map arr8=BD at *
  generalize (skP (pd8 Q)).map arr8=QD at *
  generalize pad (row m)=Pm at *
  simp -implicitDefEqProofs [Z4d_L0,dn_cond,hlt]
 | r+1,Q,X,hr,hQ,hX,hz=>by
  by_cases hlt:X.length<B.length
  ·have hg:divG false m B (r+1) Q X=(Q,X):=by unfold divG; rw [if_pos hlt]
   have hlt':¬ ((B.length-1:Nat):Int)≤(X.length:Int)-1:=by omega
   rw [hg]
   refine dn_stop ?_
   generalize (X.length:Int)-1=x1 at *
   generalize ((B.length-1:Nat):Int)=b1 at *
   generalize (skP (pd8 X)).map arr8=XD at *
   generalize (skP (pd8 B)).map arr8=BD at *
   generalize (skP (pd8 Q)).map arr8=QD at *
   generalize pad (row m)=Pm at *
   simp -implicitDefEqProofs [Z4d_L0,dn_cond,hlt']
  ·have hg:divG false m B (r+1) Q X=divG false m B r (plusS 1 Q (qT false m X B)) (plusS (-1) X (qP false m X B)):=by
    conv=>lhs; unfold divG
    rw [if_neg hlt]
   have hle:B.length≤X.length:=by omega
   obtain ⟨s1,s2,s3,s4,s5,s6⟩:=step_ok false hm hX hB h1 hle
   have h2:=hm.two
   have h5:=hm.five
   have h8:=hX.eight
   have hB8:=hB.eight
   have hQ8:=hQ.eight
   have hm0:=hm.mon.2
   have hTl:(qT false m X B).length=X.length-B.length+1:=termS_length _ _
   have hk8:X.length-B.length<8:=by omega
   have ih:=l_sRight hfr hin hmm hte hti had hdg (z:=z) (z2:=z2) hm hB h1 r (plusS 1 Q (qT false m X B)) (plusS (-1) X (qP false m X B)) (by omega) (hQ.plus hm0 s3 1) s6 (hz.step hm hX hB h1 hle)
   rw [←hg] at ih
   have hset:=pd8_set (c:=qc false m X B) hQ8 hk8 (hz _ (by omega))
   rw [show termS (qc false m X B) (X.length-B.length)=qT false m X B from rfl] at hset
   have hset2:(skP (pd8 (plusS 1 Q (qT false m X B)))).map arr8=((skP (pd8 Q)).map arr8).set (X.length-B.length) (D.arr 64 .leaf (ints .u8 (pad (row (qc false m X B))))):=by
    rw [←hset]; unfold skP; rw [List.map_set,List.map_set]
   rw [hset2] at ih
   have hxl:=hX.cs hm0 (X.length-1)
   have e1:=hfr p m (cS B (B.length-1)) (X.length-B.length) h2 (by omega) (by have:=hB.cs hm0 (B.length-1); omega) (by omega)
   have hfl:=frIt_len hm0 ((X.length-B.length)%(m.len-1)) (cS B (B.length-1)) (hB.cs hm0 _)
   have e2:=hin p m (frIt m ((X.length-B.length)%(m.len-1)) (cS B (B.length-1))) hm0 (by omega) (frIt_ne hm _ _ (hB.top h1) (hB.cs hm0 _)) hfl
   have hil:=invm_len hm0 (frIt m ((X.length-B.length)%(m.len-1)) (cS B (B.length-1)))
   have e3:=hmm p (cS X (X.length-1)) (invm m (frIt m ((X.length-B.length)%(m.len-1)) (cS B (B.length-1)))) m hm0 (by omega) (by omega) (by omega)
   rw [show cS X (X.length-1)*invm m (frIt m ((X.length-B.length)%(m.len-1)) (cS B (B.length-1)))%m=qc false m X B from rfl] at e3
   have e4:=hte p (qc false m X B) (X.length-B.length) hk8
   rw [show termS (qc false m X B) (X.length-B.length)=qT false m X B from rfl] at e4
   have e5:=hti p m (qT false m X B) B hm s3 hB (by have:=hTl; omega)
   rw [show prodS m (qT false m X B) B=qP false m X B from rfl] at e5
   have e6:=had p X (qP false m X B) (-1) (by omega) (by omega) h8 s4.eight (fun c hc=>by have:=hX.res c hc; omega) (fun c hc=>by have:=s4.res c hc; omega)
   have e7:=hdg p m (plusS (-1) X (qP false m X B)) hm0 (by omega) s6
   have hge:((B.length-1:Nat):Int)≤((X.length-1:Nat):Int):=by omega
   have hgeN:B.length-1≤X.length-1:=by omega
   have hx0:(X.length:Int)-1=((X.length-1:Nat):Int):=by omega
   have w1:IntKind.i64.wrap (((X.length-1:Nat):Int)-((B.length-1:Nat):Int))=((X.length-B.length:Nat):Int):=(w64 (by omega)).trans (by omega)
   have hx1:=eS_get (X:=X) h8 (i:=X.length-1) (by omega)
   have hx2:=eS_get (X:=B) hB8 (i:=B.length-1) (by omega)
   have hb1:X.length-1<8:=by omega
   have hb2:B.length-1<8:=by omega
   have hXL:=eS_len h8
   have hBL:=eS_len hB8
   have hQL:=eS_len hQ8
   have hQs:∀h:X.length-B.length<((skP (pd8 Q)).map arr8).length,(((skP (pd8 Q)).map arr8)[X.length-B.length]'h).sh.beq (.arr 64 .leaf)=true:=fun h=>by rw [List.getElem_map]; rfl
   have hfT:=flats_arr8 (skP (pd8 (qT false m X B)))
   have hfP:=flats_arr8 (skP (pd8 (qP false m X B)))
   have hfA:=flats_arr8 (skP (pd8 (plusS (-1) X (qP false m X B))))
   rw [eS_arr] at e4 e7
   rw [eS_arr,eS_arr,eS_arr] at e5 e6
   rw [hx0]
   refine dn_round ?_ ih
   generalize ((plusS (-1) X (qP false m X B)).length:Int)-1=xn at *
   generalize (skP (pd8 (qT false m X B))).map arr8=D1 at *
   generalize (skP (pd8 (qP false m X B))).map arr8=D2 at *
   generalize (skP (pd8 (plusS (-1) X (qP false m X B)))).map arr8=D3 at *
   generalize pad (row (qc false m X B))=R1 at *
   generalize pad (row (invm m (frIt m ((X.length-B.length)%(m.len-1)) (cS B (B.length-1)))))=R2 at *
   generalize pad (row (frIt m ((X.length-B.length)%(m.len-1)) (cS B (B.length-1))))=R3 at *
   generalize pad (row (cS X (X.length-1)))=R4 at *
   generalize pad (row (cS B (B.length-1)))=R5 at *
   generalize (skP (pd8 X)).map arr8=XD at *
   generalize (skP (pd8 B)).map arr8=BD at *
   generalize (skP (pd8 Q)).map arr8=QD at *
   generalize pad (row m)=Pm at *
   generalize X.length-B.length=xb at *
   generalize X.length-1=x1 at *
   generalize B.length-1=b1 at *
   simp -implicitDefEqProofs [Z4d_L0,dn_cond,hge,hb1,hb2,hk8,hXL,hBL,hQL,hQs,hx1,hx2,w1,e1,e2,e3,e4,e5,e6,e7,hfT,hfP,hfA]
theorem l_sLeft {O:Oracle} (hfr:K_sFrob O) (hin:K_sInv3 O) (hmm:K_sMulMod O) (hte:K_sTerm O) (hti:K_sTimes8 O) (had:K_sAdd8 O) (hdg:K_sDeg8 O) {p:Int} [IsP p] {m:Fp p} {z z2:List D} (hm:Fld m) {B:List (Fp p)} (hB:Sk m B) (h1:1≤B.length):∀(r:Nat) (Q X:List (Fp p)),X.length≤r→Sk m Q→Sk m X→Zto Q X B →
 dn O 0 (.loop Z4a_L0) ⟨[(0,(.d (.int .i64 p))),(5,.ptr 0 []),(6,.ptr 1 []),(7,.ptr 2 []),(8,.ptr 3 []),(9,.ptr 4 []),(10,.ptr 5 []),(11,(.d (.int .i64 (((B.length-1:Nat):Int))))),(12,(.d (.int .i64 (((m.len-1:Nat):Int))))),(13,(.d (.int .i64 ((X.length:Int)-1))))],[.box false (D.arr 64 .leaf (ints .u8 (pad (row m)))),.box false (.arr 8 (.arr 64 .leaf) ((skP (pd8 X)).map arr8)),.box false (.arr 8 (.arr 64 .leaf) ((skP (pd8 B)).map arr8)),.box false (.arr 8 (.arr 64 .leaf) z),.box false (.arr 8 (.arr 64 .leaf) z2),.box false (.arr 8 (.arr 64 .leaf) ((skP (pd8 Q)).map arr8)),.hole,.hole]⟩ =
  some (.exit 0,⟨[(0,(.d (.int .i64 p))),(5,.ptr 0 []),(6,.ptr 1 []),(7,.ptr 2 []),(8,.ptr 3 []),(9,.ptr 4 []),(10,.ptr 5 []),(11,(.d (.int .i64 (((B.length-1:Nat):Int))))),(12,(.d (.int .i64 (((m.len-1:Nat):Int))))),(13,(.d (.int .i64 (((divG true m B r Q X).2.length:Int)-1)))),(26,(.d (.bool false)))],[.box false (D.arr 64 .leaf (ints .u8 (pad (row m)))),.box false (.arr 8 (.arr 64 .leaf) ((skP (pd8 (divG true m B r Q X).2)).map arr8)),.box false (.arr 8 (.arr 64 .leaf) ((skP (pd8 B)).map arr8)),.box false (.arr 8 (.arr 64 .leaf) z),.box false (.arr 8 (.arr 64 .leaf) z2),.box false (.arr 8 (.arr 64 .leaf) ((skP (pd8 (divG true m B r Q X).1)).map arr8)),.hole,.hole]⟩)
 | 0,Q,X,hr,hQ,hX,hz=>by
  have hlt:¬ ((B.length-1:Nat):Int)≤(X.length:Int)-1:=by omega
  refine dn_stop ?_
  show _=some (_,(⟨[_,_,_,_,_,_,_,_,_,(13,(.d (.int .i64 ((X.length:Int)-1)))),_],[_,.box false (.arr 8 (.arr 64 .leaf) ((skP (pd8 X)).map arr8)),_,_,_,.box false (.arr 8 (.arr 64 .leaf) ((skP (pd8 Q)).map arr8)),_,_]⟩:St))
  generalize (X.length:Int)-1=x1 at *
  generalize ((B.length-1:Nat):Int)=b1 at *
  generalize (skP (pd8 X)).map arr8=XD at *
  generalize (skP (pd8 B)).map arr8=BD at *
  generalize (skP (pd8 Q)).map arr8=QD at *
  generalize pad (row m)=Pm at *
  simp -implicitDefEqProofs [Z4a_L0,dn_cond,hlt]
 | r+1,Q,X,hr,hQ,hX,hz=>by
  by_cases hlt:X.length<B.length
  ·have hg:divG true m B (r+1) Q X=(Q,X):=by unfold divG; rw [if_pos hlt]
   have hlt':¬ ((B.length-1:Nat):Int)≤(X.length:Int)-1:=by omega
   rw [hg]
   refine dn_stop ?_
   generalize (X.length:Int)-1=x1 at *
   generalize ((B.length-1:Nat):Int)=b1 at *
   generalize (skP (pd8 X)).map arr8=XD at *
   generalize (skP (pd8 B)).map arr8=BD at *
   generalize (skP (pd8 Q)).map arr8=QD at *
   generalize pad (row m)=Pm at *
   simp -implicitDefEqProofs [Z4a_L0,dn_cond,hlt']
  ·have hg:divG true m B (r+1) Q X=divG true m B r (plusS 1 Q (qT true m X B)) (plusS (-1) X (qP true m X B)):=by
    conv=>lhs; unfold divG
    rw [if_neg hlt]
   have hle:B.length≤X.length:=by omega
   obtain ⟨s1,s2,s3,s4,s5,s6⟩:=step_ok true hm hX hB h1 hle
   have h2:=hm.two
   have h5:=hm.five
   have h8:=hX.eight
   have hB8:=hB.eight
   have hQ8:=hQ.eight
   have hm0:=hm.mon.2
   have hTl:(qT true m X B).length=X.length-B.length+1:=termS_length _ _
   have hk8:X.length-B.length<8:=by omega
   have ih:=l_sLeft hfr hin hmm hte hti had hdg (z:=z) (z2:=z2) hm hB h1 r (plusS 1 Q (qT true m X B)) (plusS (-1) X (qP true m X B)) (by omega) (hQ.plus hm0 s3 1) s6 (hz.step hm hX hB h1 hle)
   rw [←hg] at ih
   have hset:=pd8_set (c:=qc true m X B) hQ8 hk8 (hz _ (by omega))
   rw [show termS (qc true m X B) (X.length-B.length)=qT true m X B from rfl] at hset
   have hset2:(skP (pd8 (plusS 1 Q (qT true m X B)))).map arr8=((skP (pd8 Q)).map arr8).set (X.length-B.length) (D.arr 64 .leaf (ints .u8 (pad (row (qc true m X B))))):=by
    rw [←hset]; unfold skP; rw [List.map_set,List.map_set]
   rw [hset2] at ih
   have hxl:=hX.cs hm0 (X.length-1)
   have e1:=hin p m (cS B (B.length-1)) hm0 (by omega) (hB.top h1) (hB.cs hm0 _)
   have hil:=invm_len hm0 (cS B (B.length-1))
   have e2:=hmm p (cS X (X.length-1)) (invm m (cS B (B.length-1))) m hm0 (by omega) (by omega) (by omega)
   have hzl:=Pol.len_mod (cS X (X.length-1)*invm m (cS B (B.length-1))) hm0
   have hmd:=Nat.mod_lt (B.length-1) (show 0<m.len-1 by omega)
   have e3:=hfr p m (cS X (X.length-1)*invm m (cS B (B.length-1))%m) (m.len-1-(B.length-1)%(m.len-1)) h2 (by omega) (by omega) (by omega)
   rw [show frIt m ((m.len-1-(B.length-1)%(m.len-1))%(m.len-1)) (cS X (X.length-1)*invm m (cS B (B.length-1))%m)=qc true m X B from rfl] at e3
   have w5:(((B.length-1:Nat):Int)).tmod ((m.len-1:Nat):Int)=(((B.length-1)%(m.len-1):Nat):Int):=by rw [Int.tmod_eq_emod_of_nonneg (by omega)]; rfl
   have w6:IntKind.i64.wrap (((m.len-1:Nat):Int)-(((B.length-1)%(m.len-1):Nat):Int))=((m.len-1-(B.length-1)%(m.len-1):Nat):Int):=(w64 (by omega)).trans (by omega)
   have hd0:((m.len-1:Nat):Int)≠0:=by omega
   have e4:=hte p (qc true m X B) (X.length-B.length) hk8
   rw [show termS (qc true m X B) (X.length-B.length)=qT true m X B from rfl] at e4
   have e5:=hti p m B (qT true m X B) hm hB s3 (by have:=hTl; omega)
   rw [show prodS m B (qT true m X B)=qP true m X B from rfl] at e5
   have e6:=had p X (qP true m X B) (-1) (by omega) (by omega) h8 s4.eight (fun c hc=>by have:=hX.res c hc; omega) (fun c hc=>by have:=s4.res c hc; omega)
   have e7:=hdg p m (plusS (-1) X (qP true m X B)) hm0 (by omega) s6
   have hge:((B.length-1:Nat):Int)≤((X.length-1:Nat):Int):=by omega
   have hgeN:B.length-1≤X.length-1:=by omega
   have hx0:(X.length:Int)-1=((X.length-1:Nat):Int):=by omega
   have w1:IntKind.i64.wrap (((X.length-1:Nat):Int)-((B.length-1:Nat):Int))=((X.length-B.length:Nat):Int):=(w64 (by omega)).trans (by omega)
   have hx1:=eS_get (X:=X) h8 (i:=X.length-1) (by omega)
   have hx2:=eS_get (X:=B) hB8 (i:=B.length-1) (by omega)
   have hb1:X.length-1<8:=by omega
   have hb2:B.length-1<8:=by omega
   have hXL:=eS_len h8
   have hBL:=eS_len hB8
   have hQL:=eS_len hQ8
   have hQs:∀h:X.length-B.length<((skP (pd8 Q)).map arr8).length,(((skP (pd8 Q)).map arr8)[X.length-B.length]'h).sh.beq (.arr 64 .leaf)=true:=fun h=>by rw [List.getElem_map]; rfl
   have hfT:=flats_arr8 (skP (pd8 (qT true m X B)))
   have hfP:=flats_arr8 (skP (pd8 (qP true m X B)))
   have hfA:=flats_arr8 (skP (pd8 (plusS (-1) X (qP true m X B))))
   rw [eS_arr] at e4 e7
   rw [eS_arr,eS_arr,eS_arr] at e5 e6
   rw [hx0]
   refine dn_round ?_ ih
   generalize ((plusS (-1) X (qP true m X B)).length:Int)-1=xn at *
   generalize (skP (pd8 (qT true m X B))).map arr8=D1 at *
   generalize (skP (pd8 (qP true m X B))).map arr8=D2 at *
   generalize (skP (pd8 (plusS (-1) X (qP true m X B)))).map arr8=D3 at *
   generalize pad (row (qc true m X B))=R1 at *
   generalize pad (row (cS X (X.length-1)*invm m (cS B (B.length-1))%m))=R2 at *
   generalize pad (row (invm m (cS B (B.length-1))))=R3 at *
   generalize pad (row (cS X (X.length-1)))=R4 at *
   generalize pad (row (cS B (B.length-1)))=R5 at *
   generalize (skP (pd8 X)).map arr8=XD at *
   generalize (skP (pd8 B)).map arr8=BD at *
   generalize (skP (pd8 Q)).map arr8=QD at *
   generalize pad (row m)=Pm at *
   generalize X.length-B.length=xb at *
   generalize m.len-1-(B.length-1)%(m.len-1)=kf at *
   generalize (((B.length-1)%(m.len-1):Nat):Int)=kr at *
   generalize ((m.len-1:Nat):Int)=kd at *
   generalize X.length-1=x1 at *
   generalize B.length-1=b1 at *
   simp -implicitDefEqProofs [Z4a_L0,dn_cond,hge,hb1,hb2,hk8,hXL,hBL,hQL,hQs,hx1,hx2,w1,w5,w6,hd0,e1,e2,e3,e4,e5,e6,e7,hfT,hfP,hfA]
def K_sDiv (O:Oracle) (F:Nat) (left:Bool):Prop:=∀(p:Int) [IsP p] (m:Fp p) (X B:List (Fp p)),Fld m→Sk m X→Sk m B→1≤B.length→ask O F [(D.int .i64 p),(D.arr 64 .leaf (ints .u8 (pad (row m)))),eS X,eS B]=some (.tup [eS (divG left m B X.length [] X).1,eS (divG left m B X.length [] X).2])
theorem k_sRight (hT:T F4d=some Z4d) (hfr:K_sFrob (den T A)) (hin:K_sInv3 (den T A)) (hmm:K_sMulMod (den T A)) (hte:K_sTerm (den T A)) (hti:K_sTimes8 (den T A)) (had:K_sAdd8 (den T A)) (hdg:K_sDeg8 (den T A)):K_sDiv (den T A) F4d false:=by
 intro p ip m X B hm hX hB h1
 have h2:=hm.two
 have h5:=hm.five
 have e:=l_sRight (O:=den T A) hfr hin hmm hte hti had hdg (z:=z8) (z2:=z8) hm hB h1 X.length [] X (Nat.le_refl _) (Sk.nil m) hX (fun j _=>rfl)
 have e1:=hdg p m X hm.mon.2 (by omega) hX
 have e2:=hdg p m B hm.mon.2 (by omega) hB
 rw [show (B.length:Int)-1=((B.length-1:Nat):Int) by omega] at e2
 rw [←z8_eq] at e
 rw [eS_arr] at e1 e2
 rw [eS_arr,eS_arr,eS_arr,eS_arr]
 refine ask_of hT rfl ?_
 generalize ((divG false m B X.length [] X).2.length:Int)-1=rn at *
 generalize (skP (pd8 (divG false m B X.length [] X).1)).map arr8=D1 at *
 generalize (skP (pd8 (divG false m B X.length [] X).2)).map arr8=D2 at *
 generalize (skP (pd8 X)).map arr8=XD at *
 generalize (skP (pd8 B)).map arr8=BD at *
 generalize pad (row m)=Pm at *
 generalize (X.length:Int)-1=x1 at *
 generalize ((B.length-1:Nat):Int)=b1 at *
 simp -implicitDefEqProofs [Z4d,Z4d_B,e,e1,e2,List.replicate]
theorem k_sLeft (hT:T F4a=some Z4a) (hmd:K_sDeg (den T A)) (hfr:K_sFrob (den T A)) (hin:K_sInv3 (den T A)) (hmm:K_sMulMod (den T A)) (hte:K_sTerm (den T A)) (hti:K_sTimes8 (den T A)) (had:K_sAdd8 (den T A)) (hdg:K_sDeg8 (den T A)):K_sDiv (den T A) F4a true:=by
 intro p ip m X B hm hX hB h1
 have h2:=hm.two
 have h5:=hm.five
 have e:=l_sLeft (O:=den T A) hfr hin hmm hte hti had hdg (z:=z8) (z2:=z8) hm hB h1 X.length [] X (Nat.le_refl _) (Sk.nil m) hX (fun j _=>rfl)
 have e1:=hdg p m X hm.mon.2 (by omega) hX
 have e2:=hdg p m B hm.mon.2 (by omega) hB
 rw [show (B.length:Int)-1=((B.length-1:Nat):Int) by omega] at e2
 rw [←z8_eq] at e
 have e3:=hmd p m (by omega)
 rw [show (m.len:Int)-1=((m.len-1:Nat):Int) by omega] at e3
 rw [eS_arr] at e1 e2
 rw [eS_arr,eS_arr,eS_arr,eS_arr]
 refine ask_of hT rfl ?_
 generalize ((divG true m B X.length [] X).2.length:Int)-1=rn at *
 generalize (skP (pd8 (divG true m B X.length [] X).1)).map arr8=D1 at *
 generalize (skP (pd8 (divG true m B X.length [] X).2)).map arr8=D2 at *
 generalize (skP (pd8 X)).map arr8=XD at *
 generalize (skP (pd8 B)).map arr8=BD at *
 generalize pad (row m)=Pm at *
 generalize (X.length:Int)-1=x1 at *
 generalize ((B.length-1:Nat):Int)=b1 at *
 generalize ((m.len-1:Nat):Int)=kd at *
 simp -implicitDefEqProofs [Z4a,Z4a_B,e,e1,e2,e3,List.replicate]
end Pe

namespace Pe
open Go Gq
variable {T:Nat→Option Fn} {A:Oracle}
theorem beqs_S:∀{ls ks:List (List Int)},ls.length=ks.length→(∀l∈ls,l.length=64)→(∀l∈ks,l.length=64)→D.beqs (.arr 64 .leaf .int) (ls.map arr8) (ks.map arr8)=some (decide (ls=ks))
 | [],[],_,_,_=>rfl
 | l::ls,k::ks,h,h1,h2=>by
  have e1:=beq_P (h1 l (by simp)) (h2 k (by simp))
  have ih:=beqs_S (ls:=ls) (ks:=ks) (by simpa using h) (fun x hx=>h1 x (by simp [hx])) (fun x hx=>h2 x (by simp [hx]))
  show (D.beq (.arr 64 .leaf .int) (D.arr 64 .leaf (ints .u8 l)) (D.arr 64 .leaf (ints .u8 k))).bind (fun b=>if b then D.beqs (.arr 64 .leaf .int) (ls.map arr8) (ks.map arr8) else some false)=_
  rw [e1,ih,Option.bind_some]
  by_cases hlk:l=k
  ·subst hlk
   rw [if_pos (decide_eq_true rfl)]
   congr 1
   exact decide_eq_decide.2 (by simp)
  ·rw [decide_eq_false hlk,if_neg (by simp)]
   congr 1
   exact (decide_eq_false (by simp [hlk])).symm
theorem beq_S {ls ks:List (List Int)} (h:Sh8 ls) (h':Sh8 ks):D.beq (.arr 8 (.arr 64 .leaf) (.arr 64 .leaf .int)) (.arr 8 (.arr 64 .leaf) (ls.map arr8)) (.arr 8 (.arr 64 .leaf) (ks.map arr8))=some (decide (ls=ks)):=by
 have e:=beqs_S (h.1.trans h'.1.symm) h.2 h'.2
 have e2:D.beq (.arr 8 (.arr 64 .leaf) (.arr 64 .leaf .int)) (.arr 8 (.arr 64 .leaf) (ls.map arr8)) (.arr 8 (.arr 64 .leaf) (ks.map arr8))=if 8=8∧8=8∧Sh.beq (.arr 64 .leaf) (.arr 64 .leaf)∧Sh.beq (.arr 64 .leaf) (.arr 64 .leaf) then D.beqs (.arr 64 .leaf .int) (ls.map arr8) (ks.map arr8) else none:=rfl
 rw [e2,if_pos ⟨rfl,rfl,rfl,rfl⟩,e]
theorem skP_zero {p:Int} [IsP p] {R:List (Fp p)} (h8:R.length=8) (hR:∀a∈R,a.len≤64):skP R=List.replicate 8 (pad [])↔(trimS R).length=0:=by
 have hz:skP (zs8 (p:=p))=List.replicate 8 (pad []):=by unfold skP zs8; rw [List.map_replicate,row_zero]
 constructor
 ·intro h
  have h1:R=zs8:=by
   have:=map_polOf hR
   have h2:=map_polOf (S:=zs8 (p:=p)) (fun a ha=>by rw [List.eq_of_mem_replicate ha,Pol.len_zero]; omega)
   rw [←this,h,←hz,h2]
  rw [h1,←pd8_nil,trim_pd8 isTrim_nil]; rfl
 ·intro h
  have h1:trimS R=[]:=List.length_eq_zero_iff.1 h
  have h2:=pd8_trim h8
  rw [h1,pd8_nil] at h2
  rw [←h2,hz]
open Classical in
noncomputable def dvC (p:Int) (l:List Int) (ls ks:List (List Int)):Int:=if codeSk p l [ls,ks]≠0 then codeSk p l [ls,ks] else if ks=List.replicate 8 (pad []) then 5 else 0
theorem dvC_ok {p:Int} {l:List Int} {ls ks:List (List Int)} (h:dvC p l ls ks=0):MsOk p l ls ks:=by
 unfold dvC at h
 split at h
 ·rename_i h0; exact absurd h h0
 ·rename_i h0; exact codes_ms.1 (by simpa using h0)
theorem dvC_zero {p:Int} {l:List Int} {ls ks:List (List Int)} (h8:Sk8 ls) (k8:Sk8 ks) (h:dvC p l ls ks=0):∃(_:IsP p) (m:Fp p) (S R:List (Fp p)),l=pad (row m)∧ls=skP S∧ks=skP R∧Fld m∧S.length=8∧R.length=8∧(∀c∈S,c.len<m.len)∧(∀c∈R,c.len<m.len)∧1≤(trimS R).length:=by
 obtain ⟨ip,m,rfl,hm,hs,hr⟩:=dvC_ok h
 obtain ⟨S,rfl,hS⟩:=sk_of hs
 obtain ⟨R,rfl,hR⟩:=sk_of hr
 have hS8:S.length=8:=by have:=h8.2; rwa [List.length_map] at this
 have hR8:R.length=8:=by have:=k8.2; rwa [List.length_map] at this
 have h5:=hm.five
 refine ⟨ip,m,S,R,rfl,rfl,rfl,hm,hS8,hR8,hS,hR,?_⟩
 rcases Nat.eq_zero_or_pos (trimS R).length with h0 | h0
 ·have hz:=(skP_zero hR8 (fun a ha=>by have:=hR a ha; omega)).2 h0
  unfold dvC at h
  split at h
  ·rename_i g; exact absurd h g
  ·first | cases h | (rw [if_pos hz] at h; cases h)
 ·exact h0
open Classical in
noncomputable def dvD (left:Bool) (p:Int) (l:List Int) (ls ks:List (List Int)):D:=
 if h:dvC p l ls ks=0 then
  haveI:IsP p:=(dvC_ok h).choose
  .tup [eS (divG left (polOf p l) (trimS (ks.map (polOf p))) (trimS (ls.map (polOf p))).length [] (trimS (ls.map (polOf p)))).1,eS (divG left (polOf p l) (trimS (ks.map (polOf p))) (trimS (ls.map (polOf p))).length [] (trimS (ls.map (polOf p)))).2,(D.int .i64 0)]
 else .tup [skwD (List.replicate 8 (pad [])),skwD (List.replicate 8 (pad [])),(D.int .i64 (dvC p l ls ks))]
theorem dvD_bad {left:Bool} {p:Int} {l:List Int} {ls ks:List (List Int)} (h:¬ dvC p l ls ks=0):dvD left p l ls ks=.tup [skwD (List.replicate 8 (pad [])),skwD (List.replicate 8 (pad [])),(D.int .i64 (dvC p l ls ks))]:=by unfold dvD; rw [dif_neg h]
theorem dvC_good {p:Int} [IsP p] {m:Fp p} {S R:List (Fp p)} (hm:Fld m) (hR8:R.length=8) (hS:∀c∈S,c.len<m.len) (hR:∀c∈R,c.len<m.len) (h1:1≤(trimS R).length):dvC p (pad (row m)) (skP S) (skP R)=0:=by
 have h5:=hm.five
 have h0:codeSk p (pad (row m)) [skP S,skP R]=0:=codes_ms.2 ⟨_,m,rfl,hm,fun l hl=>by obtain ⟨a,ha,rfl⟩:=List.mem_map.1 hl; exact ⟨a,hS a ha,rfl⟩,fun l hl=>by obtain ⟨a,ha,rfl⟩:=List.mem_map.1 hl; exact ⟨a,hR a ha,rfl⟩⟩
 unfold dvC
 rw [if_neg (by simpa using h0),if_neg]
 intro h
 have:=(skP_zero hR8 (fun a ha=>by have:=hR a ha; omega)).1 h
 omega
theorem dvD_good {left:Bool} {p:Int} [IsP p] {m:Fp p} {S R:List (Fp p)} (hm:Fld m) (_hS8:S.length=8) (hR8:R.length=8) (hS:∀c∈S,c.len<m.len) (hR:∀c∈R,c.len<m.len) (h1:1≤(trimS R).length):dvD left p (pad (row m)) (skP S) (skP R)=.tup [eS (divG left m (trimS R) (trimS S).length [] (trimS S)).1,eS (divG left m (trimS R) (trimS S).length [] (trimS S)).2,(D.int .i64 0)]:=by
 have h5:=hm.five
 unfold dvD
 rw [dif_pos (dvC_good hm hR8 hS hR h1),polOf_pad (by omega),map_polOf (S:=S) (fun a ha=>by have:=hS a ha; omega),map_polOf (S:=R) (fun a ha=>by have:=hR a ha; omega)]
theorem eS_sh {p:Int} {m:Fp p} {X:List (Fp p)} (h:Sk m X):Sh8 (skP (pd8 X)):=sh8_skP (pd8_length h.eight)
theorem dvD_form (left:Bool) (p:Int) (l:List Int) {ls ks:List (List Int)} (h8:Sk8 ls) (k8:Sk8 ks):∃(r1 r2:List (List Int)) (k:Int),dvD left p l ls ks=.tup [skwD r1,skwD r2,(D.int .i64 k)]∧Sh8 r1∧Sh8 r2:=by
 by_cases h:dvC p l ls ks=0
 ·obtain ⟨ip,m,S,R,rfl,rfl,rfl,hm,hS8,hR8,hS,hR,h1⟩:=dvC_zero h8 k8 h
  rw [dvD_good hm hS8 hR8 hS hR h1]
  obtain ⟨g1,g2,_⟩:=divG_ok left hm (Sk.of8 hR8 hR) h1 (trimS S).length [] (trimS S) (Nat.le_refl _) (Sk.nil m) (Sk.of8 hS8 hS)
  exact ⟨_,_,_,rfl,eS_sh g1,eS_sh g2⟩
 ·rw [dvD_bad h]
  exact ⟨_,_,_,rfl,sh8_zero,sh8_zero⟩
def K_Divide (O:Oracle) (F:Nat) (left:Bool):Prop:=∀(p:Int) (l:List Int) (ls ks:List (List Int)),Bytes l→l.length=64→Sk8 ls→Sk8 ks→ask O F [(D.int .i64 p),(D.arr 64 .leaf (ints .u8 l)),skwD ls,skwD ks]=some (dvD left p l ls ks)
theorem k_divided {F:Nat} {left:Bool} (hT:T Fm=some Zm) (hsc:C_skewsCode (den T A) F21) (hfo:K_fieldOf (den T A)) (hsk:K_skewOf (den T A)) (hto:K_toldSk (den T A)) (hd:K_div (den T A) F left):∀(p:Int) (l:List Int) (ls ks:List (List Int)),Bytes l→l.length=64→Sk8 ls→Sk8 ks→ask (den T A) Fm [(D.int .i64 p),(D.arr 64 .leaf (ints .u8 l)),skwD ls,skwD ks,.fn F [] []]=some (dvD left p l ls ks):=by
 intro p l ls ks bl gl h8 k8
 have e1:=hsc p l [ls,ks] bl gl (by intro x hx; simp at hx; rcases hx with rfl | rfl <;> assumption) (by simp)
 rw [show List.map skwD [ls,ks]=[skwD ls,skwD ks] from rfl] at e1
 have hskd:skwD ls=.arr 8 (.arr 64 .leaf) (ls.map arr8):=rfl
 have hskk:skwD ks=.arr 8 (.arr 64 .leaf) (ks.map arr8):=rfl
 have eq:=beq_S (ls:=ks) (ks:=List.replicate 8 (pad [])) ⟨k8.2,fun l hl=>(k8.1 l hl).1⟩ sh8_zero
 rw [show (List.replicate 8 (pad [])).map arr8=z8 from rfl] at eq
 by_cases h:dvC p l ls ks=0
 ·have hc:=codes_ms.2 (dvC_ok h)
  rw [hc] at e1
  have hnz:ks≠List.replicate 8 (pad []):=by
   intro g
   unfold dvC at h
   rw [if_neg (by simpa using hc),if_pos g] at h
   cases h
  rw [decide_eq_false hnz] at eq
  obtain ⟨ip,m,S,R,rfl,rfl,rfl,hm,hS8,hR8,hS,hR,h1⟩:=dvC_zero h8 k8 h
  rw [dvD_good hm hS8 hR8 hS hR h1]
  have h5:=hm.five
  have hX:=Sk.of8 hS8 hS
  have hB:=Sk.of8 hR8 hR
  obtain ⟨g1,g2,_⟩:=divG_ok left hm hB h1 (trimS S).length [] (trimS S) (Nat.le_refl _) (Sk.nil m) hX
  have e3:=hfo p m (by omega)
  have e4:=hsk p S hS8 (fun a ha=>by have:=hS a ha; omega)
  have e5:=hsk p R hR8 (fun a ha=>by have:=hR a ha; omega)
  have e6:=hd p m (trimS S) (trimS R) hm hX hB h1
  have e7:=hto p (divG left m (trimS R) (trimS S).length [] (trimS S)).1 (by have:=g1.eight; omega) (fun a ha=>by have:=g1.res a ha; omega)
  have e8:=hto p (divG left m (trimS R) (trimS S).length [] (trimS S)).2 (by have:=g2.eight; omega) (fun a ha=>by have:=g2.res a ha; omega)
  unfold toldSkD at e7 e8
  rw [if_pos g1.eight] at e7
  rw [if_pos g2.eight] at e8
  have hf1:=flats_arr8 (skP (pd8 (divG left m (trimS R) (trimS S).length [] (trimS S)).1))
  have hf2:=flats_arr8 (skP (pd8 (divG left m (trimS R) (trimS S).length [] (trimS S)).2))
  rw [eS_arr,eS_arr]
  rw [show skwD (skP (pd8 (divG left m (trimS R) (trimS S).length [] (trimS S)).1))=.arr 8 (.arr 64 .leaf) ((skP (pd8 (divG left m (trimS R) (trimS S).length [] (trimS S)).1)).map arr8) from rfl] at e7
  rw [show skwD (skP (pd8 (divG left m (trimS R) (trimS S).length [] (trimS S)).2))=.arr 8 (.arr 64 .leaf) ((skP (pd8 (divG left m (trimS R) (trimS S).length [] (trimS S)).2)).map arr8) from rfl] at e8
  rw [show skD (trimS S)=.sl .leaf ((trimS S).map rowD) from rfl] at e4 e6
  rw [show skD (trimS R)=.sl .leaf ((trimS R).map rowD) from rfl] at e5 e6
  rw [show skD (divG left m (trimS R) (trimS S).length [] (trimS S)).1=.sl .leaf ((divG left m (trimS R) (trimS S).length [] (trimS S)).1.map rowD) from rfl] at e6 e7
  rw [show skD (divG left m (trimS R) (trimS S).length [] (trimS S)).2=.sl .leaf ((divG left m (trimS R) (trimS S).length [] (trimS S)).2.map rowD) from rfl] at e6 e8
  rw [hskd,hskk] at e1 ⊢
  rw [hskd] at e4
  rw [hskk] at e5
  have hfS:=flats_arr8 (skP S)
  refine ask_of hT rfl ?_
  generalize (skP (pd8 (divG left m (trimS R) (trimS S).length [] (trimS S)).1)).map arr8=D1 at *
  generalize (skP (pd8 (divG left m (trimS R) (trimS S).length [] (trimS S)).2)).map arr8=D2 at *
  generalize (divG left m (trimS R) (trimS S).length [] (trimS S)).1.map rowD=D3 at *
  generalize (divG left m (trimS R) (trimS S).length [] (trimS S)).2.map rowD=D4 at *
  generalize (trimS S).map rowD=TS at *
  generalize (trimS R).map rowD=TR at *
  generalize (skP S).map arr8=LS at *
  generalize (skP R).map arr8=LR at *
  generalize pad (row m)=Pm at *
  simp -implicitDefEqProofs [Zm,Zm_B,dn_cond,e1,eq,e3,e4,e5,e6,e7,e8,hf1,hf2,List.replicate]
 ·rw [dvD_bad h,z8_pad]
  rw [hskd,hskk] at e1 ⊢
  refine ask_of hT rfl ?_
  by_cases hc:codeSk p l [ls,ks]=0
  ·have hz:ks=List.replicate 8 (pad []):=by
    refine Classical.byContradiction fun g=>h ?_
    unfold dvC
    rw [if_neg (by simpa using hc),if_neg g]
   have hk5:dvC p l ls ks=5:=by unfold dvC; rw [if_neg (by simpa using hc),if_pos hz]
   rw [hk5]
   rw [decide_eq_true hz] at eq
   rw [hc] at e1
   generalize ls.map arr8=LD at *
   generalize ks.map arr8=KD at *
   simp -implicitDefEqProofs [Zm,Zm_B,dn_cond,e1,eq,List.replicate]
  ·have hk1:dvC p l ls ks=codeSk p l [ls,ks]:=by unfold dvC; rw [if_pos hc]
   rw [hk1]
   generalize codeSk p l [ls,ks]=k at *
   generalize ls.map arr8=LD at *
   generalize ks.map arr8=KD at *
   simp -implicitDefEqProofs [Zm,Zm_B,dn_cond,e1,hc,List.replicate]
def C_sDivided (O:Oracle):Prop:=∀(p:Int) (l:List Int) (ls ks:List (List Int)),Bytes l→l.length=64→Sk8 ls→Sk8 ks→ask O F42 [(D.int .i64 p),(D.arr 64 .leaf (ints .u8 l)),skwD ls,skwD ks]=some (D.int .i64 (dvC p l ls ks))
theorem c_sDivided (hT:T F42=some Z42) (hsc:C_skewsCode (den T A) F40) (hdg:K_sSkDeg (den T A)):C_sDivided (den T A):=by
 intro p l ls ks bl gl h8 k8
 have e1:=hsc p l [ls,ks] bl gl (by intro x hx; simp at hx; rcases hx with rfl | rfl <;> assumption) (by simp)
 rw [show List.map skwD [ls,ks]=[skwD ls,skwD ks] from rfl] at e1
 rw [show skwD ls=.arr 8 (.arr 64 .leaf) (ls.map arr8) from rfl,show skwD ks=.arr 8 (.arr 64 .leaf) (ks.map arr8) from rfl] at e1 ⊢
 refine ask_of hT rfl ?_
 by_cases hc:codeSk p l [ls,ks]=0
 ·rw [hc] at e1
  obtain ⟨ip,m,rfl,hm,hs,hr⟩:=codes_ms.1 hc
  obtain ⟨S,rfl,hS⟩:=sk_of hs
  obtain ⟨R,rfl,hR⟩:=sk_of hr
  have h5:=hm.five
  have hR8:R.length=8:=by have:=k8.2; rwa [List.length_map] at this
  have hR64:∀a∈R,a.len≤64:=fun a ha=>by have:=hR a ha; omega
  have e2:=hdg p R hR8 hR64
  rw [←trimS_len8 hR8] at e2
  have hz:=skP_zero hR8 hR64
  rw [show skwD (skP R)=.arr 8 (.arr 64 .leaf) ((skP R).map arr8) from rfl] at e2
  by_cases h0:(trimS R).length=0
  ·have hk5:dvC p (pad (row m)) (skP S) (skP R)=5:=by unfold dvC; rw [if_neg (by simpa using hc),if_pos (hz.2 h0)]
   rw [hk5]
   rw [h0] at e2
   generalize (skP S).map arr8=LS at *
   generalize (skP R).map arr8=LR at *
   generalize pad (row m)=Pm at *
   simp -implicitDefEqProofs [Z42,Z42_B,dn_cond,e1,e2]
  ·have hk0:dvC p (pad (row m)) (skP S) (skP R)=0:=by unfold dvC; rw [if_neg (by simpa using hc),if_neg fun g=>h0 (hz.1 g)]
   rw [hk0]
   have hn:¬ ((trimS R).length:Int)-1<0:=by omega
   generalize ((trimS R).length:Int)-1=rl at *
   generalize (skP S).map arr8=LS at *
   generalize (skP R).map arr8=LR at *
   generalize pad (row m)=Pm at *
   simp -implicitDefEqProofs [Z42,Z42_B,dn_cond,e1,e2,hn]
 ·have hk1:dvC p l ls ks=codeSk p l [ls,ks]:=by unfold dvC; rw [if_pos hc]
  rw [hk1]
  generalize codeSk p l [ls,ks]=k at *
  generalize ls.map arr8=LD at *
  generalize ks.map arr8=KD at *
  simp -implicitDefEqProofs [Z42,Z42_B,dn_cond,e1,hc]
theorem k_DivideRight (hT:T F7=some Z7) (hT2:T Fm=some Zm) (hsc:C_skewsCode (den T A) F21) (hfo:K_fieldOf (den T A)) (hsk:K_skewOf (den T A)) (hto:K_toldSk (den T A)) (hd:K_div (den T A) Fs false):K_Divide (den T A) F7 false:=by
 intro p l ls ks bl gl h8 k8
 have e:=k_divided hT2 hsc hfo hsk hto hd p l ls ks bl gl h8 k8
 obtain ⟨r1,r2,k,e5,_,_⟩:=dvD_form false p l h8 k8
 rw [e5] at e ⊢
 have hf1:=flats_arr8 r1
 have hf2:=flats_arr8 r2
 rw [show skwD ls=.arr 8 (.arr 64 .leaf) (ls.map arr8) from rfl,show skwD ks=.arr 8 (.arr 64 .leaf) (ks.map arr8) from rfl] at e ⊢
 rw [show skwD r1=.arr 8 (.arr 64 .leaf) (r1.map arr8) from rfl,show skwD r2=.arr 8 (.arr 64 .leaf) (r2.map arr8) from rfl] at e ⊢
 refine ask_of hT rfl ?_
 generalize ls.map arr8=LD at *
 generalize ks.map arr8=KD at *
 generalize r1.map arr8=D1 at *
 generalize r2.map arr8=D2 at *
 simp -implicitDefEqProofs [Z7,Z7_B,e,hf1,hf2]
theorem k_sDivideRight (hT:T F31=some Z31) (hc:C_sDivided (den T A)) (hd:K_sDiv (den T A) F4d false):K_Divide (den T A) F31 false:=by
 intro p l ls ks bl gl h8 k8
 have e1:=hc p l ls ks bl gl h8 k8
 rw [show skwD ls=.arr 8 (.arr 64 .leaf) (ls.map arr8) from rfl,show skwD ks=.arr 8 (.arr 64 .leaf) (ks.map arr8) from rfl] at e1 ⊢
 by_cases h:dvC p l ls ks=0
 ·rw [h] at e1
  obtain ⟨ip,m,S,R,rfl,rfl,rfl,hm,hS8,hR8,hS,hR,h1⟩:=dvC_zero h8 k8 h
  rw [dvD_good hm hS8 hR8 hS hR h1]
  have hX:=Sk.of8 hS8 hS
  have hB:=Sk.of8 hR8 hR
  have e2:=hd p m (trimS S) (trimS R) hm hX hB h1
  obtain ⟨g1,g2,_⟩:=divG_ok false hm hB h1 (trimS S).length [] (trimS S) (Nat.le_refl _) (Sk.nil m) hX
  have hf1:=flats_arr8 (skP (pd8 (divG false m (trimS R) (trimS S).length [] (trimS S)).1))
  have hf2:=flats_arr8 (skP (pd8 (divG false m (trimS R) (trimS S).length [] (trimS S)).2))
  rw [eS_arr,eS_arr,eS_arr,eS_arr,pd8_trim hS8,pd8_trim hR8] at e2
  rw [eS_arr,eS_arr]
  refine ask_of hT rfl ?_
  generalize (skP (pd8 (divG false m (trimS R) (trimS S).length [] (trimS S)).1)).map arr8=D1 at *
  generalize (skP (pd8 (divG false m (trimS R) (trimS S).length [] (trimS S)).2)).map arr8=D2 at *
  generalize (skP S).map arr8=LD at *
  generalize (skP R).map arr8=KD at *
  generalize pad (row m)=Pm at *
  simp -implicitDefEqProofs [Z31,Z31_B,dn_cond,e1,e2,hf1,hf2,List.replicate]
 ·rw [dvD_bad h,z8_pad]
  refine ask_of hT rfl ?_
  generalize dvC p l ls ks=k at *
  generalize ls.map arr8=LD at *
  generalize ks.map arr8=KD at *
  simp -implicitDefEqProofs [Z31,Z31_B,dn_cond,e1,h,List.replicate]
theorem k_DivideLeft (hT:T F6=some Z6) (hT2:T Fm=some Zm) (hsc:C_skewsCode (den T A) F21) (hfo:K_fieldOf (den T A)) (hsk:K_skewOf (den T A)) (hto:K_toldSk (den T A)) (hd:K_div (den T A) Fr true):K_Divide (den T A) F6 true:=by
 intro p l ls ks bl gl h8 k8
 have e:=k_divided hT2 hsc hfo hsk hto hd p l ls ks bl gl h8 k8
 obtain ⟨r1,r2,k,e5,_,_⟩:=dvD_form true p l h8 k8
 rw [e5] at e ⊢
 have hf1:=flats_arr8 r1
 have hf2:=flats_arr8 r2
 rw [show skwD ls=.arr 8 (.arr 64 .leaf) (ls.map arr8) from rfl,show skwD ks=.arr 8 (.arr 64 .leaf) (ks.map arr8) from rfl] at e ⊢
 rw [show skwD r1=.arr 8 (.arr 64 .leaf) (r1.map arr8) from rfl,show skwD r2=.arr 8 (.arr 64 .leaf) (r2.map arr8) from rfl] at e ⊢
 refine ask_of hT rfl ?_
 generalize ls.map arr8=LD at *
 generalize ks.map arr8=KD at *
 generalize r1.map arr8=D1 at *
 generalize r2.map arr8=D2 at *
 simp -implicitDefEqProofs [Z6,Z6_B,e,hf1,hf2]
theorem k_sDivideLeft (hT:T F30=some Z30) (hc:C_sDivided (den T A)) (hd:K_sDiv (den T A) F4a true):K_Divide (den T A) F30 true:=by
 intro p l ls ks bl gl h8 k8
 have e1:=hc p l ls ks bl gl h8 k8
 rw [show skwD ls=.arr 8 (.arr 64 .leaf) (ls.map arr8) from rfl,show skwD ks=.arr 8 (.arr 64 .leaf) (ks.map arr8) from rfl] at e1 ⊢
 by_cases h:dvC p l ls ks=0
 ·rw [h] at e1
  obtain ⟨ip,m,S,R,rfl,rfl,rfl,hm,hS8,hR8,hS,hR,h1⟩:=dvC_zero h8 k8 h
  rw [dvD_good hm hS8 hR8 hS hR h1]
  have hX:=Sk.of8 hS8 hS
  have hB:=Sk.of8 hR8 hR
  have e2:=hd p m (trimS S) (trimS R) hm hX hB h1
  obtain ⟨g1,g2,_⟩:=divG_ok true hm hB h1 (trimS S).length [] (trimS S) (Nat.le_refl _) (Sk.nil m) hX
  have hf1:=flats_arr8 (skP (pd8 (divG true m (trimS R) (trimS S).length [] (trimS S)).1))
  have hf2:=flats_arr8 (skP (pd8 (divG true m (trimS R) (trimS S).length [] (trimS S)).2))
  rw [eS_arr,eS_arr,eS_arr,eS_arr,pd8_trim hS8,pd8_trim hR8] at e2
  rw [eS_arr,eS_arr]
  refine ask_of hT rfl ?_
  generalize (skP (pd8 (divG true m (trimS R) (trimS S).length [] (trimS S)).1)).map arr8=D1 at *
  generalize (skP (pd8 (divG true m (trimS R) (trimS S).length [] (trimS S)).2)).map arr8=D2 at *
  generalize (skP S).map arr8=LD at *
  generalize (skP R).map arr8=KD at *
  generalize pad (row m)=Pm at *
  simp -implicitDefEqProofs [Z30,Z30_B,dn_cond,e1,e2,hf1,hf2,List.replicate]
 ·rw [dvD_bad h,z8_pad]
  refine ask_of hT rfl ?_
  generalize dvC p l ls ks=k at *
  generalize ls.map arr8=LD at *
  generalize ks.map arr8=KD at *
  simp -implicitDefEqProofs [Z30,Z30_B,dn_cond,e1,h,List.replicate]
end Pe

namespace Pe
open Go Gq
variable {T:Nat→Option Fn} {A:Oracle}
section
variable {p:Int} [IsP p]
theorem byIn_cS {m x:Fp p} {i n:Nat}:∀(k:Nat) (b Q:List (Fp p)),i+k+b.length≤Q.length→cS (byIn m x i k b Q) n=if i+k≤n∧n<i+k+b.length then cS Q n+x*frIt m (i%(m.len-1)) (cS b (n-(i+k)))%m else cS Q n
 | k,[],Q,_=>by rw [if_neg (by rw [List.length_nil]; omega)]; rfl
 | k,y::ys,Q,h=>by
  rw [List.length_cons] at h
  show cS (byIn m x i (k+1) ys (addAt Q (i+k) _)) n=_
  rw [byIn_cS (k+1) ys _ (by rw [addAt_length]; omega)]
  have hadd:∀v:Fp p,cS (addAt Q (i+k) v) n=if n=i+k then cS Q n+v else cS Q n:=fun v=>by
   unfold addAt
   rw [cS_set (by omega)]
   split
   ·rename_i h; rw [h]; rfl
   ·rfl
  rw [hadd]
  by_cases h1:n=i+k
  ·subst h1
   rw [if_neg (by omega),if_pos rfl,if_pos (by rw [List.length_cons]; omega),Nat.sub_self]
   rfl
  ·rw [if_neg h1]
   by_cases h2:i+k≤n∧n<i+k+(y::ys).length
   ·rw [List.length_cons] at h2
    rw [if_pos (by omega),if_pos (by rw [List.length_cons]; omega)]
    have:cS (y::ys) (n-(i+k))=cS ys (n-(i+(k+1))):=by
     unfold cS
     rw [show n-(i+k)=(n-(i+(k+1)))+1 by omega,List.getElem?_cons_succ]
    rw [this]
   ·rw [if_neg h2,if_neg (by rw [List.length_cons] at h2; omega)]
theorem prod_one {m x:Fp p} (hm:m≠0) (X:List (Fp p)) (i:Nat):cS (prodS m (termS x 0) X) i=x*cS X i%m:=by
 unfold prodS
 have hz:x*0%m=0:=by rw [Gq.mul_zero,Pol.zero_mod hm]
 by_cases h0:X.length=0
 ·rw [if_pos (.inr h0),cS_nil,cS_ge (by omega),hz]
 ·rw [if_neg (by rw [termS_length]; omega),cS_trim]
  show cS (byIn m x 0 0 X (List.replicate ((termS x 0).length+X.length-1) 0)) i=_
  rw [termS_length,byIn_cS 0 X _ (by rw [List.length_replicate]; omega),Nat.zero_mod]
  have hr:cS (List.replicate (0+1+X.length-1) (0:Fp p)) i=0:=by
   unfold cS
   rw [List.getElem?_replicate]
   split <;> rfl
  rw [hr]
  split
  ·rw [Gq.zero_add]; rfl
  ·rw [cS_ge (A:=X) (by omega),hz]
noncomputable def monS (m:Fp p) (X:List (Fp p)):List (Fp p):=prodS m (termS (invm m (cS X (X.length-1))) 0) X
theorem Sk.mon {m:Fp p} {X:List (Fp p)} (hm:m≠0) (hX:Sk m X):Sk m (monS m X):=by
 have h1:=Pol.len_pos hm
 have hl:=prod_len_le (m:=m) (a:=termS (invm m (cS X (X.length-1))) 0) (b:=X)
 rw [termS_length] at hl
 have h8:=hX.eight
 exact ⟨isTrim_prod _ _ _,by unfold monS; omega,fun c hc=>by have:=prodS_lens' (N:=m.len-1) hm (by omega) c hc; omega⟩
end
end Pe

namespace Pe
open Go Gq
variable {T:Nat→Option Fn} {A:Oracle}
section
variable {p:Int}
end
section
variable {p:Int} [IsP p]
theorem prodS_len {m:Fp p} (hm:Fld m) {X Y:List (Fp p)} (hX:IsTrim X) (hY:IsTrim Y) (hXl:∀c∈X,c.len<m.len) (hYl:∀c∈Y,c.len<m.len) (h1:1≤X.length) (h2:1≤Y.length):(prodS m X Y).length=X.length+Y.length-1:=by
 obtain ⟨a,ea,la⟩:=snoc_of h1
 obtain ⟨b,eb,lb⟩:=snoc_of h2
 have hx:=hX (X.length-1) (by omega)
 have hy:=hY (Y.length-1) (by omega)
 have ht:=mulS_top hm (a:=a) (b:=b) hx (hXl _ (by rw [←cS_lt (show X.length-1<X.length by omega)]; exact List.getElem_mem _)) hy (hYl _ (by rw [←cS_lt (show Y.length-1<Y.length by omega)]; exact List.getElem_mem _))
 rw [←ea,←eb] at ht
 unfold prodS
 rw [if_neg (by omega),ht]
 unfold mulS
 rw [byOut_length,List.length_replicate]
theorem one_ne8:(1:Fp p)≠0:=fun h=>by
 have e:(1:Fp p).len=1:=Pol.len_one
 rw [h,Pol.len_zero] at e
 cases e
theorem sk_one {m:Fp p} (hm:Fld m):Sk m (termS (1:Fp p) 0):=⟨isTrim_term one_ne8 0,by rw [termS_length]; omega,fun c hc=>by
 unfold termS at hc
 rw [List.replicate_zero,List.nil_append] at hc
 rw [List.mem_singleton.1 hc]
 have:=hm.two
 have:(1:Fp p).len=1:=Pol.len_one
 omega⟩
theorem mon_len {m:Fp p} (hm:Fld m) {X:List (Fp p)} (hX:IsTrim X) (hr:∀c∈X,c.len<m.len) (h1:1≤X.length):(monS m X).length=X.length:=by
 have h0:=hm.mon.2
 have hx:cS X (X.length-1)≠0:=hX _ (by omega)
 have hxl:(cS X (X.length-1)).len<m.len:=by
  rw [←cS_lt (show X.length-1<X.length by omega)]; exact hr _ (List.getElem_mem _)
 have hi:invm m (cS X (X.length-1))≠0:=fun h=>by
  have e:=inv_back hm (x:=1) (by have:=hm.two; have:(1:Fp p).len=1:=Pol.len_one; omega) hx hxl
  rw [h,Gq.mul_zero,Pol.zero_mod h0,Gq.zero_mul,Pol.zero_mod h0] at e
  exact one_ne8 e.1.symm
 have hil:=invm_len h0 (cS X (X.length-1))
 have:=prodS_len hm (isTrim_term hi 0) hX (fun c hc=>by
  unfold termS at hc
  rw [List.replicate_zero,List.nil_append] at hc
  rw [List.mem_singleton.1 hc]; exact hil) hr (by rw [termS_length]; omega) h1
 rw [termS_length] at this
 unfold monS
 omega
end
def K_sOne3 (O:Oracle):Prop:=∀(p:Int) [IsP p],ask O F4b []=some (eS (termS (1:Fp p) 0))
theorem k_sOne3 (hT:T F4b=some Z4b) (h1:K_sOne (den T A)):K_sOne3 (den T A):=by
 intro p ip
 have e1:=h1 p
 have e2:skP (pd8 (termS (1:Fp p) 0))=pad (row (1:Fp p))::List.replicate 7 (pad []):=by
  show pad (row (1:Fp p))::(List.replicate 7 (0:Fp p)).map (fun a=>pad (row a))=_
  rw [List.map_replicate,row_zero]
 have e3:(pad (row (1:Fp p))::List.replicate 7 (pad [])).map arr8=z8.set 0 (D.arr 64 .leaf (ints .u8 (pad (row (1:Fp p))))):=rfl
 rw [eS_arr,e2,e3]
 refine ask_of hT rfl ?_
 generalize pad (row (1:Fp p))=P1 at *
 simp -implicitDefEqProofs [Z4b,Z4b_B,e1,z8,List.replicate]
end Pe


namespace Pe
open Go Gq
variable {T:Nat→Option Fn} {A:Oracle}
section
variable {p:Int} [IsP p]
noncomputable def powS (m:Fp p) (B:List (Fp p)):Nat→List (Fp p)
 | 0=>termS 1 0
 | k+1=>prodS m (powS m B k) B
theorem pow_trim (m:Fp p) (B:List (Fp p)):∀k,IsTrim (powS m B k)
 | 0=>isTrim_term one_ne8 0
 | _+1=>isTrim_prod _ _ _
theorem pow_res {m:Fp p} (hm:Fld m) (B:List (Fp p)):∀k,∀c∈powS m B k,c.len<m.len
 | 0=>(sk_one hm).res
 | k+1=>fun c hc=>by
  have h1:=Pol.len_pos hm.mon.2
  have:=prodS_lens' (N:=m.len-1) hm.mon.2 (by omega) c hc
  omega
theorem pow_nil (m:Fp p) (k:Nat):powS m [] (k+1)=[]:=by
 show prodS m (powS m [] k) []=[]
 unfold prodS
 exact if_pos (.inr rfl)
theorem powS_len {m:Fp p} (hm:Fld m) {B:List (Fp p)} (hB:Sk m B) {n:Nat} (hn:B.length=n+1):∀k,(powS m B k).length=k*n+1
 | 0=>by
  show (termS (1:Fp p) 0).length=_
  rw [termS_length,Nat.zero_mul]
 | k+1=>by
  have ih:=powS_len hm hB hn k
  show (prodS m (powS m B k) B).length=_
  rw [prodS_len hm (pow_trim m B k) hB.trim (pow_res hm B k) hB.res (by omega) (by omega),ih,hn,Nat.succ_mul]
  omega
theorem pow_len8 {m:Fp p} (hm:Fld m) {B:List (Fp p)} (hB:Sk m B) {K:Nat} (h:B.length=0∨K*(B.length-1)≤7):∀k,k≤K→(powS m B k).length≤8:=by
 intro k hk
 rcases h with h | h
 ·obtain rfl:B=[]:=List.length_eq_zero_iff.1 h
  cases k with
  | zero=>show (termS (1:Fp p) 0).length≤8; rw [termS_length]; omega
  | succ k=>rw [pow_nil]; simp
 ·by_cases h0:B.length=0
  ·obtain rfl:B=[]:=List.length_eq_zero_iff.1 h0
   cases k with
   | zero=>show (termS (1:Fp p) 0).length≤8; rw [termS_length]; omega
   | succ k=>rw [pow_nil]; simp
  ·rw [powS_len hm hB (n:=B.length-1) (by omega) k]
   have:=Nat.mul_le_mul_right (B.length-1) hk
   omega
theorem pow_sk {m:Fp p} (hm:Fld m) {B:List (Fp p)} (k:Nat) (h:(powS m B k).length≤8):Sk m (powS m B k):=⟨pow_trim m B k,h,pow_res hm B k⟩
theorem pow_first {m:Fp p} (hm:Fld m) {B:List (Fp p)} (hB:Sk m B):powS m B 1=B:=by
 refine trim_ext (pow_trim m B 1) hB.trim fun i=>?_
 show cS (prodS m (termS 1 0) B) i=_
 rw [prod_one hm.mon.2,Gq.one_mul,Pol.mod_small (hB.cs hm.mon.2 i)]
theorem pow_const {m:Fp p} (hm:Fld m) {B:List (Fp p)} (h1:B.length=1):∀k i,cS (powS m B k) i=cS (termS (pw (cS B 0) k%m) 0) i
 | 0,i=>by
  show cS (termS 1 0) i=_
  have:(pw (cS B 0) 0%m)=1:=Pol.mod_small (by show (1:Fp p).len<_; rw [Pol.len_one]; have:=hm.two; omega)
  rw [this]
 | k+1,i=>by
  have ih:=pow_const hm h1 k
  have e:powS m B k=trimS (termS (pw (cS B 0) k%m) 0):=trim_ext (pow_trim m B k) (isTrim_trim _) fun j=>by rw [ih j,cS_trim]
  have key:∀X:List (Fp p),X.length≤1→cS (prodS m X B) i=cS X 0*cS B i%m:=by
   intro X hX
   by_cases h0:X.length=0
   ·obtain rfl:X=[]:=List.length_eq_zero_iff.1 h0
    have:prodS m [] B=[]:=by unfold prodS; exact if_pos (.inl rfl)
    rw [this,cS_nil,cS_nil,Gq.zero_mul,Pol.zero_mod hm.mon.2]
   ·have:X=termS (cS X 0) 0:=List.ext_getElem (by rw [termS_length]; omega) fun j h1 h2=>by
     rw [cS_lt h1,cS_lt h2,cS_term,if_pos (by omega),show j=0 by omega]
    rw [this,prod_one hm.mon.2,cS_term,if_pos rfl]
  show cS (prodS m (powS m B k) B) i=_
  rw [e,key _ (by have:=trimS_len_le (termS (pw (cS B 0) k%m) 0); rw [termS_length] at this; omega),cS_trim,cS_term,if_pos rfl,cS_term]
  split
  ·rename_i hi
   subst hi
   refine (Pol.mod_eq_iff hm.mon.2).2 ?_
   show _=Quo.mk m (pw (cS B 0) k*cS B 0)
   rw [Quo.mk_mul,Pol.mk_mod,Quo.mk_mul]
  ·rw [cS_ge (A:=B) (i:=i) (by omega),Gq.mul_zero,Pol.zero_mod hm.mon.2]
noncomputable def pwT (m:Fp p) (B:List (Fp p)) (K:Nat):D:=if B.length=0∨K*(B.length-1)≤7 then .tup [eS (powS m B K),(D.int .i64 0)] else .tup [eS ([]:List (Fp p)),(D.int .i64 3)]
end
theorem l_pow {O:Oracle} (hfo:K_fieldOf O) (hby:K_by2 O) (hdg:K_skDeg O) {p:Int} [IsP p] {m:Fp p} (hm:Fld m) {B:List (Fp p)} (hB:Sk m B) {K:Nat} (hK:K≤1000) (h8:∀k,k≤K→(powS m B k).length≤8) {z:List D}:∀(r i:Nat),i+r=K →
 dn O 0 (.loop ir_impl_PowerOfSkew_L0) ⟨[(0,(.d (.int .i64 p))),(5,.ptr 0 []),(8,.ptr 2 []),(11,.d (skD (powS m B i))),(12,.d (skD B)),(30,(.d (.int .i64 K))),(31,(.d (.int .i64 i)))],[.box false (D.arr 64 .leaf (ints .u8 (pad (row m)))),.hole,.box false (.arr 8 (.arr 64 .leaf) z),.hole,.hole]⟩ =
  some (.exit 0,⟨[(0,(.d (.int .i64 p))),(5,.ptr 0 []),(8,.ptr 2 []),(11,.d (skD (powS m B K))),(12,.d (skD B)),(30,(.d (.int .i64 K))),(31,(.d (.int .i64 K))),(32,(.d (.bool false)))],[.box false (D.arr 64 .leaf (ints .u8 (pad (row m)))),.hole,.box false (.arr 8 (.arr 64 .leaf) z),.hole,.hole]⟩)
 | 0,i,hi=>by
  obtain rfl:i=K:=by omega
  refine dn_stop ?_
  generalize skD (powS m B i)=XD at *
  generalize skD B=BD at *
  generalize pad (row m)=Pm at *
  simp -implicitDefEqProofs [ir_impl_PowerOfSkew_L0,dn_cond]
 | r+1,i,hi=>by
  have h5:=hm.five
  have a1:=h8 i (by omega)
  have a2:=h8 (i+1) (by omega)
  have b8:=hB.eight
  have e1:=hfo p m (by omega)
  have e2:=hby p m (powS m B i) B hm.two (by omega) (fun c hc=>by have:=pow_res hm B i c hc; omega) (fun c hc=>by have:=hB.res c hc; omega) (by omega) (by omega)
  rw [show prodS m (powS m B i) B=powS m B (i+1) from rfl] at e2
  have e3:=hdg p (powS m B (i+1)) (by omega)
  have hlt:i<K:=by omega
  have hlt':(i:Int)<K:=by omega
  have hle:¬ 7<((powS m B (i+1)).length:Int)-1:=by omega
  have w4:IntKind.i64.wrap ((i:Int)+1)=((i+1:Nat):Int):=(w64 (x:=(i:Int)+1) (by omega)).trans (by omega)
  refine dn_round ?_ (l_pow hfo hby hdg hm hB hK h8 r (i+1) (by omega))
  rw [show skD (powS m B (i+1))=.sl .leaf ((powS m B (i+1)).map rowD) from rfl] at e2 e3 ⊢
  rw [show skD (powS m B i)=.sl .leaf ((powS m B i).map rowD) from rfl,show skD B=.sl .leaf (B.map rowD) from rfl] at e2 ⊢
  generalize ((powS m B (i+1)).length:Int)-1=n1 at *
  generalize (powS m B (i+1)).map rowD=D1 at *
  generalize (powS m B i).map rowD=D2 at *
  generalize B.map rowD=BD at *
  generalize pad (row m)=Pm at *
  simp -implicitDefEqProofs [ir_impl_PowerOfSkew_L0,dn_cond,hlt',e1,e2,e3,hle,w4]
theorem l_powB {O:Oracle} (hfo:K_fieldOf O) (hby:K_by2 O) (hdg:K_skDeg O) {p:Int} [IsP p] {m:Fp p} (hm:Fld m) {B:List (Fp p)} (hB:Sk m B) {K:Nat} (hK:K≤1000) (h8:8<(powS m B K).length):∀(r i:Nat),i+r=K→(powS m B i).length≤8 →
 dn O 0 (.loop ir_impl_PowerOfSkew_L0) ⟨[(0,(.d (.int .i64 p))),(5,.ptr 0 []),(8,.ptr 2 []),(11,.d (skD (powS m B i))),(12,.d (skD B)),(30,(.d (.int .i64 K))),(31,(.d (.int .i64 i)))],[.box false (D.arr 64 .leaf (ints .u8 (pad (row m)))),.hole,.box false (.arr 8 (.arr 64 .leaf) z8),.hole,.hole]⟩ =
  some (.ret,⟨[(8,.ptr 2 []),(9,(.d (.int .i64 3)))],[.hole,.hole,.box false (.arr 8 (.arr 64 .leaf) z8),.hole,.hole]⟩)
 | 0,i,hi,h=>by
  obtain rfl:i=K:=by omega
  omega
 | r+1,i,hi,h=>by
  have h5:=hm.five
  have b8:=hB.eight
  have pl:=prod_len_le (m:=m) (a:=powS m B i) (b:=B)
  rw [show prodS m (powS m B i) B=powS m B (i+1) from rfl] at pl
  have e1:=hfo p m (by omega)
  have e2:=hby p m (powS m B i) B hm.two (by omega) (fun c hc=>by have:=pow_res hm B i c hc; omega) (fun c hc=>by have:=hB.res c hc; omega) (by omega) (by omega)
  rw [show prodS m (powS m B i) B=powS m B (i+1) from rfl] at e2
  have e3:=hdg p (powS m B (i+1)) (by omega)
  have hlt:i<K:=by omega
  have hlt':(i:Int)<K:=by omega
  have w4:IntKind.i64.wrap ((i:Int)+1)=((i+1:Nat):Int):=(w64 (x:=(i:Int)+1) (by omega)).trans (by omega)
  have hfz:D.flats z8=true:=rfl
  by_cases h9:(powS m B (i+1)).length≤8
  ·have hle:¬ 7<((powS m B (i+1)).length:Int)-1:=by omega
   refine dn_round ?_ (l_powB hfo hby hdg hm hB hK h8 r (i+1) (by omega) h9)
   rw [show skD (powS m B (i+1))=.sl .leaf ((powS m B (i+1)).map rowD) from rfl] at e2 e3 ⊢
   rw [show skD (powS m B i)=.sl .leaf ((powS m B i).map rowD) from rfl,show skD B=.sl .leaf (B.map rowD) from rfl] at e2 ⊢
   generalize ((powS m B (i+1)).length:Int)-1=n1 at *
   generalize (powS m B (i+1)).map rowD=D1 at *
   generalize (powS m B i).map rowD=D2 at *
   generalize B.map rowD=BD at *
   generalize pad (row m)=Pm at *
   simp -implicitDefEqProofs [ir_impl_PowerOfSkew_L0,dn_cond,hlt',e1,e2,e3,hle,w4]
  ·have hle:7<((powS m B (i+1)).length:Int)-1:=by omega
   refine dn_back ?_
   rw [show skD (powS m B (i+1))=.sl .leaf ((powS m B (i+1)).map rowD) from rfl] at e2 e3
   rw [show skD (powS m B i)=.sl .leaf ((powS m B i).map rowD) from rfl,show skD B=.sl .leaf (B.map rowD) from rfl] at e2 ⊢
   generalize ((powS m B (i+1)).length:Int)-1=n1 at *
   generalize (powS m B (i+1)).map rowD=D1 at *
   generalize (powS m B i).map rowD=D2 at *
   generalize B.map rowD=BD at *
   generalize pad (row m)=Pm at *
   simp -implicitDefEqProofs [ir_impl_PowerOfSkew_L0,dn_cond,hlt',e1,e2,e3,hle]
theorem code_sk {p:Int} {l:List Int} {ls:List (List Int)} (h8:Sk8 ls) (h:codeSk p l [ls]=0):∃(_:IsP p) (m:Fp p) (S:List (Fp p)),l=pad (row m)∧ls=skP S∧Fld m∧S.length=8∧(∀c∈S,c.len<m.len):=by
 unfold codeSk at h
 split at h
 ·rename_i g
  obtain ⟨ip,m,rfl,hm,hs⟩:=g
  obtain ⟨S,rfl,hS⟩:=sk_of (hs ls (by simp))
  exact ⟨ip,m,S,rfl,rfl,hm,by have:=h8.2; rwa [List.length_map] at this,hS⟩
 ·cases h
theorem code_ip {p:Int} {l:List Int} {lss:List (List (List Int))} (h:codeSk p l lss=0):∃_:IsP p,True:=by
 unfold codeSk at h
 split at h
 ·rename_i g
  obtain ⟨ip,-⟩:=g
  exact ⟨ip,trivial⟩
 ·cases h
open Classical in
noncomputable def pwD (p:Int) (l:List Int) (ls:List (List Int)) (k:Int):D:=
 if h:codeSk p l [ls]=0 then
  if 0≤k∧k≤1000 then
   haveI:IsP p:=(code_ip h).choose
   pwT (polOf p l) (trimS (ls.map (polOf p))) k.toNat
  else .tup [skwD (List.replicate 8 (pad [])),(D.int .i64 2)]
 else .tup [skwD (List.replicate 8 (pad [])),(D.int .i64 (codeSk p l [ls]))]
theorem pwD_bad {p:Int} {l:List Int} {ls:List (List Int)} {k:Int} (h:¬ codeSk p l [ls]=0):pwD p l ls k=.tup [skwD (List.replicate 8 (pad [])),(D.int .i64 (codeSk p l [ls]))]:=by unfold pwD; rw [dif_neg h]
theorem pwD_out {p:Int} {l:List Int} {ls:List (List Int)} {k:Int} (h:codeSk p l [ls]=0) (hk:¬ (0≤k∧k≤1000)):pwD p l ls k=.tup [skwD (List.replicate 8 (pad [])),(D.int .i64 2)]:=by unfold pwD; rw [dif_pos h,if_neg hk]
theorem pwD_good {p:Int} [IsP p] {m:Fp p} {S:List (Fp p)} {K:Nat} (hm:Fld m) (hS:∀c∈S,c.len<m.len) (h:codeSk p (pad (row m)) [skP S]=0) (hK:K≤1000):pwD p (pad (row m)) (skP S) K=pwT m (trimS S) K:=by
 have h5:=hm.five
 unfold pwD
 rw [dif_pos h,if_pos (by omega),polOf_pad (by omega),map_polOf (S:=S) (fun a ha=>by have:=hS a ha; omega)]
 rfl
theorem pwT_form {p:Int} [IsP p] {m:Fp p} {B:List (Fp p)} (hm:Fld m) (hB:Sk m B) (K:Nat):∃(r:List (List Int)) (k:Int),pwT m B K=.tup [skwD r,(D.int .i64 k)]∧Sh8 r:=by
 unfold pwT
 split
 ·rename_i h
  exact ⟨_,_,rfl,eS_sh (pow_sk hm K (pow_len8 hm hB h K (Nat.le_refl _)))⟩
 ·exact ⟨_,_,rfl,eS_sh (Sk.nil m)⟩
theorem pwD_form (p:Int) (l:List Int) {ls:List (List Int)} (h8:Sk8 ls) (k:Int):∃(r:List (List Int)) (c:Int),pwD p l ls k=.tup [skwD r,(D.int .i64 c)]∧Sh8 r:=by
 by_cases h:codeSk p l [ls]=0
 ·by_cases hk:0≤k∧k≤1000
  ·obtain ⟨ip,m,S,rfl,rfl,hm,hS8,hS⟩:=code_sk h8 h
   obtain ⟨K,rfl⟩:∃K:Nat,k=K:=⟨k.toNat,by omega⟩
   rw [pwD_good hm hS h (by omega)]
   exact pwT_form hm (Sk.of8 hS8 hS) K
  ·rw [pwD_out h hk]; exact ⟨_,_,rfl,sh8_zero⟩
 ·rw [pwD_bad h]; exact ⟨_,_,rfl,sh8_zero⟩
def K_PowerOfSkew (O:Oracle) (F:Nat):Prop:=∀(p:Int) (l:List Int) (ls:List (List Int)) (k:Int),Bytes l→l.length=64→Sk8 ls→ask O F [(D.int .i64 p),(D.arr 64 .leaf (ints .u8 l)),skwD ls,(D.int .i64 k)]=some (pwD p l ls k)
theorem k_PowerOfSkew (hT:T Fb=some Zb) (hsc:C_skewsCode (den T A) F21) (hwi:C_within (den T A)) (hfo:K_fieldOf (den T A)) (hsk:K_skewOf (den T A)) (hsi:K_single (den T A)) (hby:K_by2 (den T A)) (hdg:K_skDeg (den T A)) (hto:K_toldSk (den T A)):K_PowerOfSkew (den T A) Fb:=by
 intro p l ls k bl gl h8
 have e1:=hsc p l [ls] bl gl (by intro x hx; simp at hx; subst hx; exact h8) (by simp)
 rw [show List.map skwD [ls]=[skwD ls] from rfl] at e1
 have hskd:skwD ls=.arr 8 (.arr 64 .leaf) (ls.map arr8):=rfl
 have hfz:D.flats z8=true:=rfl
 have e2:=hwi k 0 1000
 rw [hskd] at e1 ⊢
 by_cases hc:codeSk p l [ls]=0
 ·rw [hc] at e1
  obtain ⟨ip,m,S,rfl,rfl,hm,hS8,hS⟩:=code_sk h8 hc
  by_cases hk:0≤k∧k≤1000
  ·rw [decide_eq_true hk] at e2
   obtain ⟨K,rfl⟩:∃K:Nat,k=K:=⟨k.toNat,by omega⟩
   have hK:K≤1000:=by omega
   rw [pwD_good hm hS hc hK]
   have h5:=hm.five
   have hB:=Sk.of8 hS8 hS
   have e3:=hsi p (1:Fp p) 0 (by omega)
   rw [row_one,show ints .i64 [1]=[.int .i64 1] from rfl,show ((0:Nat):Int)=0 from rfl] at e3
   have e4:=hsk p S hS8 (fun a ha=>by have:=hS a ha; omega)
   rw [show skwD (skP S)=.arr 8 (.arr 64 .leaf) ((skP S).map arr8) from rfl] at e4
   unfold pwT
   by_cases h:(trimS S).length=0∨K*((trimS S).length-1)≤7
   ·rw [if_pos h]
    have p8:=pow_len8 hm hB h
    have e5:=l_pow (O:=den T A) hfo hby hdg hm hB hK p8 (z:=z8) K 0 (by omega)
    rw [show powS m (trimS S) 0=termS 1 0 from rfl,show ((0:Nat):Int)=0 from rfl] at e5
    have e6:=hto p (powS m (trimS S) K) (by have:=p8 K (Nat.le_refl _); omega) (fun a ha=>by have:=pow_res hm (trimS S) K a ha; omega)
    unfold toldSkD at e6
    rw [if_pos (p8 K (Nat.le_refl _))] at e6
    have hf1:=flats_arr8 (skP (pd8 (powS m (trimS S) K)))
    rw [eS_arr]
    rw [show skwD (skP (pd8 (powS m (trimS S) K)))=.arr 8 (.arr 64 .leaf) ((skP (pd8 (powS m (trimS S) K))).map arr8) from rfl] at e6
    rw [show skD (termS (1:Fp p) 0)=.sl .leaf ((termS (1:Fp p) 0).map rowD) from rfl] at e3 e5
    rw [show skD (powS m (trimS S) K)=.sl .leaf ((powS m (trimS S) K).map rowD) from rfl] at e5 e6
    rw [show skD (trimS S)=.sl .leaf ((trimS S).map rowD) from rfl] at e4 e5
    refine ask_of hT rfl ?_
    generalize (skP (pd8 (powS m (trimS S) K))).map arr8=D1 at *
    generalize (powS m (trimS S) K).map rowD=D2 at *
    generalize (termS (1:Fp p) 0).map rowD=D3 at *
    generalize (trimS S).map rowD=D4 at *
    generalize (skP S).map arr8=LS at *
    generalize pad (row m)=Pm at *
    simp -implicitDefEqProofs [Zb,ir_impl_PowerOfSkew_B,dn_cond,e1,e2,e3,e4,e5,e6,hf1,List.replicate]
   ·rw [if_neg h]
    have hlong:8<(powS m (trimS S) K).length:=by
     rw [powS_len hm hB (n:=(trimS S).length-1) (by omega) K]; omega
    have e5:=l_powB (O:=den T A) hfo hby hdg hm hB hK hlong K 0 (by omega) (by show (termS (1:Fp p) 0).length≤8; rw [termS_length]; omega)
    rw [show powS m (trimS S) 0=termS 1 0 from rfl,show ((0:Nat):Int)=0 from rfl] at e5
    rw [eS_arr,←z8_eq]
    rw [show skD (termS (1:Fp p) 0)=.sl .leaf ((termS (1:Fp p) 0).map rowD) from rfl] at e3 e5
    rw [show skD (trimS S)=.sl .leaf ((trimS S).map rowD) from rfl] at e4 e5
    refine ask_of hT rfl ?_
    generalize (termS (1:Fp p) 0).map rowD=D3 at *
    generalize (trimS S).map rowD=D4 at *
    generalize (skP S).map arr8=LS at *
    generalize pad (row m)=Pm at *
    simp -implicitDefEqProofs [Zb,ir_impl_PowerOfSkew_B,dn_cond,e1,e2,e3,e4,e5,List.replicate]
  ·rw [decide_eq_false hk] at e2
   rw [pwD_out hc hk,z8_pad]
   refine ask_of hT rfl ?_
   generalize (skP S).map arr8=LS at *
   generalize pad (row m)=Pm at *
   simp -implicitDefEqProofs [Zb,ir_impl_PowerOfSkew_B,dn_cond,e1,e2,List.replicate]
 ·rw [pwD_bad hc,z8_pad]
  refine ask_of hT rfl ?_
  generalize codeSk p l [ls]=c at *
  generalize ls.map arr8=LD at *
  simp -implicitDefEqProofs [Zb,ir_impl_PowerOfSkew_B,dn_cond,e1,hc,List.replicate]
theorem l_sPow3 {O:Oracle} (hti:K_sTimes8 O) {p:Int} [IsP p] {m:Fp p} (hm:Fld m) {B:List (Fp p)} (hB:Sk m B) {K n:Nat} (hn:B.length=n+1) (hK:K≤1000) (h7:K*n≤7) {z:List D}:∀(r j:Nat),j+r=K→1≤j →
 dn O 0 (.loop ir_spec_PowerOfSkew_L0) ⟨[(0,(.d (.int .i64 p))),(3,(.d (.int .i64 (((r+1:Nat):Int))))),(5,.ptr 0 []),(6,.ptr 1 []),(8,.ptr 2 []),(12,.ptr 4 [])],[.box false (D.arr 64 .leaf (ints .u8 (pad (row m)))),.box false (.arr 8 (.arr 64 .leaf) ((skP (pd8 B)).map arr8)),.box false (.arr 8 (.arr 64 .leaf) z),.hole,.box false (.arr 8 (.arr 64 .leaf) ((skP (pd8 (powS m B j))).map arr8)),.hole]⟩ =
  some (.exit 1,⟨[(0,(.d (.int .i64 p))),(3,(.d (.int .i64 1))),(5,.ptr 0 []),(6,.ptr 1 []),(8,.ptr 2 []),(12,.ptr 4 []),(57,(.d (.bool false)))],[.box false (D.arr 64 .leaf (ints .u8 (pad (row m)))),.box false (.arr 8 (.arr 64 .leaf) ((skP (pd8 B)).map arr8)),.box false (.arr 8 (.arr 64 .leaf) z),.hole,.box false (.arr 8 (.arr 64 .leaf) ((skP (pd8 (powS m B K))).map arr8)),.hole]⟩)
 | 0,j,hj,h1=>by
  obtain rfl:j=K:=by omega
  refine dn_stop ?_
  rw [show ((0+1:Nat):Int)=1 from rfl]
  generalize (skP (pd8 (powS m B j))).map arr8=XD at *
  generalize (skP (pd8 B)).map arr8=BD at *
  generalize pad (row m)=Pm at *
  simp -implicitDefEqProofs [ir_spec_PowerOfSkew_L0,dn_cond]
 | r+1,j,hj,h1=>by
  have b8:=hB.eight
  have l1:=powS_len hm hB hn j
  have l2:=powS_len hm hB hn (j+1)
  have q1:(j+1)*n≤7:=Nat.le_trans (Nat.mul_le_mul_right n (show j+1≤K by omega)) h7
  rw [Nat.succ_mul] at q1 l2
  have e1:=hti p m (powS m B j) B hm (pow_sk hm j (by omega)) hB (by omega)
  rw [show prodS m (powS m B j) B=powS m B (j+1) from rfl,eS_arr,eS_arr,eS_arr] at e1
  have hf1:=flats_arr8 (skP (pd8 (powS m B (j+1))))
  have hgt:1<((r+1+1:Nat):Int):=by omega
  have w1:IntKind.i64.wrap (((r+1+1:Nat):Int)-1)=((r+1:Nat):Int):=(w64 (by omega)).trans (by omega)
  refine dn_round ?_ (l_sPow3 hti hm hB hn hK h7 (r:=r) (j:=j+1) (by omega) (by omega))
  generalize ((r+1+1:Nat):Int)=k1 at *
  generalize ((r+1:Nat):Int)=k2 at *
  generalize (skP (pd8 (powS m B (j+1)))).map arr8=D1 at *
  generalize (skP (pd8 (powS m B j))).map arr8=XD at *
  generalize (skP (pd8 B)).map arr8=BD at *
  generalize pad (row m)=Pm at *
  simp -implicitDefEqProofs [ir_spec_PowerOfSkew_L0,dn_cond,hgt,w1,e1,hf1]
theorem eS_term0 {p:Int} [IsP p] (c:Fp p):(skP (pd8 (termS c 0))).map arr8=z8.set 0 (D.arr 64 .leaf (ints .u8 (pad (row c)))):=by
 have e2:skP (pd8 (termS c 0))=pad (row c)::List.replicate 7 (pad []):=by
  show pad (row c)::(List.replicate 7 (0:Fp p)).map (fun a=>pad (row a))=_
  rw [List.map_replicate,row_zero]
 rw [e2]
 rfl
theorem k_sPowerOfSkew (hT:T F38=some Z38) (hsc:C_skewsCode (den T A) F40) (hwi:C_sIn (den T A)) (hdg:K_sDeg8 (den T A)) (hon:K_sOne3 (den T A)) (hpm:K_sPowMod (den T A)) (hti:K_sTimes8 (den T A)):K_PowerOfSkew (den T A) F38:=by
 intro p l ls k bl gl h8
 have e1:=hsc p l [ls] bl gl (by intro x hx; simp at hx; subst hx; exact h8) (by simp)
 rw [show List.map skwD [ls]=[skwD ls] from rfl] at e1
 have hskd:skwD ls=.arr 8 (.arr 64 .leaf) (ls.map arr8):=rfl
 have hfz:D.flats z8=true:=rfl
 have e2:=hwi k 0 1000
 rw [hskd] at e1 ⊢
 by_cases hc:codeSk p l [ls]=0
 ·rw [hc] at e1
  obtain ⟨ip,m,S,rfl,rfl,hm,hS8,hS⟩:=code_sk h8 hc
  have h5:=hm.five
  have hB:=Sk.of8 hS8 hS
  have hb8:=hB.eight
  have hm0:=hm.mon.2
  have hfS:=flats_arr8 (skP S)
  have e3:=hdg p m (trimS S) hm0 (by omega) hB
  rw [eS_arr,pd8_trim hS8] at e3
  by_cases hk:0≤k∧k≤1000
  ·rw [decide_eq_true hk] at e2
   obtain ⟨K,rfl⟩:∃K:Nat,k=K:=⟨k.toNat,by omega⟩
   have hK:K≤1000:=by omega
   rw [pwD_good hm hS hc hK]
   unfold pwT
   by_cases hK0:K=0
   ·subst hK0
    rw [if_pos (.inr (by omega))]
    have e4:=hon p
    have hf1:=flats_arr8 (skP (pd8 (termS (1:Fp p) 0)))
    rw [show powS m (trimS S) 0=termS 1 0 from rfl,show ((0:Nat):Int)=0 from rfl]
    rw [show ((0:Nat):Int)=0 from rfl] at e2
    rw [eS_arr] at e4 ⊢
    refine ask_of hT rfl ?_
    generalize (skP (pd8 (termS (1:Fp p) 0))).map arr8=D3 at *
    generalize ((trimS S).length:Int)-1=n1 at *
    generalize (skP S).map arr8=LS at *
    generalize pad (row m)=Pm at *
    simp -implicitDefEqProofs [Z38,ir_spec_PowerOfSkew_B,dn_cond,e1,e2,e3,e4,hf1,List.replicate]
   ·have hK0':¬ (K:Int)=0:=by omega
    by_cases hl0:(trimS S).length=0
    ·rw [if_pos (.inl hl0)]
     have hp0:powS m (trimS S) K=[]:=by
      rw [List.length_eq_zero_iff.1 hl0,show K=(K-1)+1 by omega]
      exact pow_nil m _
     rw [hp0,eS_arr,←z8_eq]
     rw [hl0] at e3
     refine ask_of hT rfl ?_
     generalize (skP S).map arr8=LS at *
     generalize pad (row m)=Pm at *
     simp -implicitDefEqProofs [Z38,ir_spec_PowerOfSkew_B,dn_cond,e1,e2,e3,hK0,List.replicate]
    ·have hn0:¬ ((trimS S).length:Int)-1<0:=by omega
     by_cases hl1:(trimS S).length=1
     ·rw [if_pos (.inr (by rw [hl1]; omega))]
      have hcl:=hB.cs hm0 0
      have e4:=hpm p (cS (trimS S) 0) K m hm0 (by omega) (by omega) (by omega) (by omega)
      rw [Int.toNat_natCast] at e4
      have hpc:pd8 (powS m (trimS S) K)=pd8 (termS (pw (cS (trimS S) 0) K%m) 0):=eight_ext (pd8_length (pow_len8 hm hB (.inr (by rw [hl1]; omega)) K (Nat.le_refl _))) (pd8_length (by rw [termS_length]; omega)) fun i hi=>by rw [cS_pd8,cS_pd8,pow_const hm hl1]
      have hz:z8.length=8:=rfl
      have hx0:∀h:0<((skP S).map arr8).length,((skP S).map arr8)[0]'h=(D.arr 64 .leaf (ints .u8 (pad (row (cS (trimS S) 0))))):=fun h=>by
       rw [List.getElem_map,List.getElem_map,cS_trim,cS_lt (by omega)]
      have hLS:((skP S).map arr8).length=8:=by rw [List.length_map,List.length_map]; exact hS8
      rw [eS_arr,hpc,eS_term0]
      rw [hl1] at e3
      have hf2:D.flats (z8.set 0 (D.arr 64 .leaf (ints .u8 (pad (row (pw (cS (trimS S) 0) K%m))))))=true:=by rw [←eS_term0]; exact flats_arr8 _
      refine ask_of hT rfl ?_
      generalize pad (row (pw (cS (trimS S) 0) K%m))=P1 at *
      generalize pad (row (cS (trimS S) 0))=P2 at *
      generalize (skP S).map arr8=LS at *
      generalize pad (row m)=Pm at *
      simp -implicitDefEqProofs [Z38,ir_spec_PowerOfSkew_B,dn_cond,e1,e2,e3,e4,hK0,hLS,hx0,z8,List.replicate]
     ·obtain ⟨n,hn⟩:∃n:Nat,(trimS S).length=n+1:=⟨(trimS S).length-1,by omega⟩
      have hn1:¬ ((trimS S).length:Int)-1=0:=by omega
      have hmul:((trimS S).length-1)=n:=by omega
      have hnk:n*K≤8*1000:=Nat.mul_le_mul (by omega) hK
      have hcast:(((trimS S).length:Int)-1)*(K:Int)=((n*K:Nat):Int):=by rw [show ((trimS S).length:Int)-1=(n:Int) by omega,Int.natCast_mul]
      have w1:IntKind.i64.wrap ((((trimS S).length:Int)-1)*(K:Int))=((n*K:Nat):Int):=by rw [hcast]; exact w64 (by omega)
      have hcomm:=Nat.mul_comm n K
      by_cases h7:K*n≤7
      ·rw [if_pos (.inr (by rw [hmul]; exact h7))]
       have hlt:¬ 7<((n*K:Nat):Int):=by omega
       have e4:=l_sPow3 (O:=den T A) hti hm hB hn hK h7 (z:=z8) (K-1) 1 (by omega) (Nat.le_refl _)
       rw [pow_first hm hB,show K-1+1=K by omega,pd8_trim hS8] at e4
       have hf1:=flats_arr8 (skP (pd8 (powS m (trimS S) K)))
       rw [eS_arr]
       refine ask_of hT rfl ?_
       generalize (skP (pd8 (powS m (trimS S) K))).map arr8=D1 at *
       generalize ((n*K:Nat):Int)=nk at *
       generalize ((trimS S).length:Int)-1=n1 at *
       generalize (skP S).map arr8=LS at *
       generalize pad (row m)=Pm at *
       simp -implicitDefEqProofs [Z38,ir_spec_PowerOfSkew_B,dn_cond,e1,e2,e3,e4,hK0,hn0,hn1,w1,hlt,List.replicate]
      ·rw [if_neg (by rw [hmul]; omega),eS_arr,←z8_eq]
       have hlt:7<((n*K:Nat):Int):=by omega
       refine ask_of hT rfl ?_
       generalize ((n*K:Nat):Int)=nk at *
       generalize ((trimS S).length:Int)-1=n1 at *
       generalize (skP S).map arr8=LS at *
       generalize pad (row m)=Pm at *
       simp -implicitDefEqProofs [Z38,ir_spec_PowerOfSkew_B,dn_cond,e1,e2,e3,hK0,hn0,hn1,w1,hlt,List.replicate]
  ·rw [decide_eq_false hk] at e2
   rw [pwD_out hc hk,z8_pad]
   refine ask_of hT rfl ?_
   generalize ((trimS S).length:Int)-1=n1 at *
   generalize (skP S).map arr8=LS at *
   generalize pad (row m)=Pm at *
   simp -implicitDefEqProofs [Z38,ir_spec_PowerOfSkew_B,dn_cond,e1,e2,e3,List.replicate]
 ·rw [pwD_bad hc,z8_pad]
  refine ask_of hT rfl ?_
  generalize codeSk p l [ls]=c at *
  generalize ls.map arr8=LD at *
  simp -implicitDefEqProofs [Z38,ir_spec_PowerOfSkew_B,dn_cond,e1,hc,List.replicate]
end Pe

namespace Pe
open Go Gq
variable {T:Nat→Option Fn} {A:Oracle}
abbrev srcB (code:List Int) (at_:Nat) (h:Int):Blk:=.box false (.st [.leaf,.leaf,.leaf] [.sl .leaf (ints .u8 code),.int .i64 at_,.int .u64 h])
def Src (b:Blk):Prop:=∃(code:List Int) (at_:Nat) (h:Int),b=srcB code at_ h∧at_≤code.length∧code.length≤1099511627776∧Bytes code
theorem wrap_u64 {n:Nat} (h:n≤16777215):IntKind.u64.wrap (n:Int)=n:=by
 simp [IntKind.wrap,IntKind.bits,IntKind.signed]; omega
theorem andI_le (x:Int):0≤andI .u64 x 16777215∧andI .u64 x 16777215≤16777215:=by
 have h1:(BitVec.ofInt 64 x &&& BitVec.ofInt 64 16777215).toNat≤16777215:=by
  rw [BitVec.toNat_and]
  exact Nat.and_le_right
 have h2:andI .u64 x 16777215=((BitVec.ofInt 64 x &&& BitVec.ofInt 64 16777215).toNat:Int):=wrap_u64 h1
 rw [h2]
 omega
theorem shr33:(2:Int)^min 33 IntKind.u64.bits=8589934592:=rfl
def H_next (O:Oracle) (F:Nat):Prop:=∀(b:Blk) (n:Int),Src b→n≤4611686018427387904→∃(x:Int) (b':Blk),O F [.ptr 0 [],(.d (.int .i64 n))] [b]=some ((.d (.int .i64 x)),[b'],[])∧Src b'∧0≤x∧(x<n∨x=0)
theorem h_next (hT:T F3q=some Z3q):H_next (den T A) F3q:=by
 rintro b n ⟨code,k,h,rfl,hk,hc,hb⟩ hn
 by_cases h1:n<1
 ·refine ⟨0,_,den_of hT rfl ?_,⟨code,k,h,rfl,hk,hc,hb⟩,Int.le_refl _,.inr rfl⟩
  simp -implicitDefEqProofs [Z3q,Z3q_B,dn_cond,h1]
 ·obtain ⟨hh,hhh⟩:∃hh:Int,IntKind.u64.wrap (IntKind.u64.wrap (h*6364136223846793005)+1442695040888963407)=hh:=⟨_,rfl⟩
  have hx:=andI_le (hh.fdiv 8589934592)
  obtain ⟨x,hX⟩:∃x:Int,andI .u64 (hh.fdiv 8589934592) 16777215=x:=⟨_,rfl⟩
  rw [hX] at hx
  have w0:IntKind.i64.wrap x=x:=w64 (by omega)
  have hn0:¬ n=0:=by omega
  have tm:∀y:Int,0≤y→0≤y.tmod n∧y.tmod n<n:=fun y hy=>by
   rw [Int.tmod_eq_emod_of_nonneg hy]
   exact ⟨Int.emod_nonneg _ hn0,Int.emod_lt_of_pos _ (by omega)⟩
  by_cases h2:k<code.length
  ·have hbk:=hb _ (List.getElem_mem h2)
   have h2':(k:Int)<code.length:=by omega
   have w1:IntKind.i64.wrap code[k]=code[k]:=w64 (by omega)
   have w2:IntKind.i64.wrap (x+code[k])=x+code[k]:=w64 (by omega)
   have w3:IntKind.i64.wrap ((k:Int)+1)=((k+1:Nat):Int):=(w64 (x:=(k:Int)+1) (by omega)).trans (by omega)
   obtain ⟨t1,t2⟩:=tm (x+code[k]) (by omega)
   refine ⟨(x+code[k]).tmod n,srcB code (k+1) hh,den_of hT rfl ?_,⟨code,k+1,hh,rfl,by omega,hc,hb⟩,t1,.inl t2⟩
   simp -implicitDefEqProofs [Z3q,Z3q_B,dn_cond,shiftI,shr33,h1,hn0,h2,h2',hhh,hX,w0,w1,w2,w3]
  ·have h2':¬ (k:Int)<code.length:=by omega
   obtain ⟨t1,t2⟩:=tm x (by omega)
   refine ⟨x.tmod n,srcB code k hh,den_of hT rfl ?_,⟨code,k,hh,rfl,hk,hc,hb⟩,t1,.inl t2⟩
   simp -implicitDefEqProofs [Z3q,Z3q_B,dn_cond,shiftI,shr33,h1,hn0,h2',hhh,hX,w0]
theorem l_from {O:Oracle} {code:List Int} (hc:code.length≤4096) (hb:Bytes code):∀(r i:Nat) (h:Int),i+r=code.length→∃h':Int,
 dn O 0 (.loop Z3g_L0) ⟨[(0,.d (.sl .leaf (ints .u8 code))),(3,.ptr 0 []),(4,(.d (.int .i64 i)))],[srcB code 0 h]⟩ =
  some (.exit 0,⟨[(0,.d (.sl .leaf (ints .u8 code))),(3,.ptr 0 []),(4,(.d (.int .i64 code.length))),(19,(.d (.bool false)))],[srcB code 0 h']⟩)
 | 0,i,h,hi=>by
  obtain rfl:i=code.length:=by omega
  refine ⟨h,dn_stop ?_⟩
  simp -implicitDefEqProofs [Z3g_L0,dn_cond]
 | r+1,i,h,hi=>by
  have hlt:i<code.length:=by omega
  have hlt':(i:Int)<code.length:=by omega
  have hq:(i:Int)<4096:=by omega
  have hbk:=hb _ (List.getElem_mem hlt)
  have w4:IntKind.i64.wrap ((i:Int)+1)=((i+1:Nat):Int):=(w64 (x:=(i:Int)+1) (by omega)).trans (by omega)
  obtain ⟨h2,hh2⟩:∃h2:Int,IntKind.u64.wrap (IntKind.u64.wrap (IntKind.u64.wrap (h*1099511628211)+IntKind.u64.wrap code[i])+61)=h2:=⟨_,rfl⟩
  obtain ⟨h',ih⟩:=l_from hc hb r (i+1) h2 (by omega)
  refine ⟨h',dn_round ?_ ih⟩
  simp -implicitDefEqProofs [Z3g_L0,dn_cond,hlt,hlt',hq,w4,hh2]
def H_from (O:Oracle):Prop:=∀code:List Int,Bytes code→code.length≤4096→∃b:Blk,O F3g [.d (.sl .leaf (ints .u8 code))] []=some (.ptr 0 [],[],[b])∧Src b
theorem h_from (hT:T F3g=some Z3g):H_from (den T A):=by
 intro code hb hc
 obtain ⟨h0,hh0⟩:∃h0:Int,IntKind.u64.wrap (12251+IntKind.u64.wrap (code.length:Int))=h0:=⟨_,rfl⟩
 obtain ⟨h',e⟩:=l_from (O:=den T A) hc hb code.length 0 h0 (Nat.zero_add _)
 rw [show ((0:Nat):Int)=0 from rfl,show srcB code 0 h0=.box false (.st [.leaf,.leaf,.leaf] [.sl .leaf (ints .u8 code),.int .i64 0,.int .u64 h0]) from rfl] at e
 refine ⟨srcB code 0 h',den_of hT rfl ?_,⟨code,0,h',rfl,Nat.zero_le _,by omega,hb⟩⟩
 simp -implicitDefEqProofs [Z3g,Z3g_B,hh0,e,List.idxOf,List.findIdx,List.findIdx.go]
def H_pick (O:Oracle):Prop:=∀(b:Blk) (l:List Int) (n:Nat) (cp:Option Nat),Src b→l.length=n→0<n→n≤100→∃(x:Int) (b':Blk),O F3s [.ptr 0 [],.sl 1 [] 0 n cp] [b,.sl false .leaf (ints .i64 l)]=some ((.d (.int .i64 x)),[b',.sl false .leaf (ints .i64 l)],[])∧Src b'∧x∈l
theorem h_pick (hT:T F3s=some Z3s) (hn:H_next (den T A) F3q):H_pick (den T A):=by
 rintro b l n cp hs hl hpos hm
 obtain ⟨x,b',e,hs',h0,h1⟩:=hn b n hs (by omega)
 obtain ⟨k,rfl⟩:∃k:Nat,x=k:=⟨x.toNat,by omega⟩
 have hk:k<n:=by omega
 have hkl:k<l.length:=by omega
 obtain ⟨c,a,h,rfl,_⟩:=id hs
 obtain ⟨c',a',h',rfl,_⟩:=id hs'
 refine ⟨l[k],_,den_of hT rfl ?_,hs',List.getElem_mem hkl⟩
 simp -implicitDefEqProofs [Z3s,Z3s_B,e,hk,hl,List.idxOf,List.findIdx,List.findIdx.go]
end Pe

namespace Pe
open Go Gq
variable {T:Nat→Option Fn} {A:Oracle}
def H_drawPrime (O:Oracle):Prop:=∀b:Blk,Src b→∃(p:Int) (b':Blk),O F3f [.ptr 0 []] [b]=some ((.d (.int .i64 p)),[b'],[])∧Src b'∧IsP p
theorem h_drawPrime (hT:T F3f=some Z3f) (hp:H_pick (den T A)):H_drawPrime (den T A):=by
 intro b hs
 obtain ⟨x,b',e,hs',hx⟩:=hp b [2,2,3,3,5,7] 6 (some 6) hs rfl (by omega) (by omega)
 rw [show ints .i64 [2,2,3,3,5,7]=[.int .i64 2,.int .i64 2,.int .i64 3,.int .i64 3,.int .i64 5,.int .i64 7] from rfl] at e
 obtain ⟨c,a,h,rfl,_⟩:=id hs
 obtain ⟨c',a',h',rfl,_⟩:=id hs'
 refine ⟨x,_,den_of hT rfl ?_,hs',⟨by simp at hx; omega⟩⟩
 simp -implicitDefEqProofs [Z3f,Z3f_B,e,List.replicate,List.idxOf,List.findIdx,List.findIdx.go]
structure DrI (p:Int) (Q:List Int) (n:Nat):Prop where
 l:Q.length=64
 c:Can p Q
 z:∀j,n≤j→cf Q j=0
theorem DrI.set {p:Int} {Q:List Int} {n k:Nat} {x:Int} (h:DrI p Q n) (h0:0≤x) (h1:x<p) (hk:k<n):DrI p (Q.set k x) n:=
 ⟨by rw [List.length_set]; exact h.l,fun y hy=>by
  rcases List.mem_or_eq_of_mem_set hy with g | rfl
  ·exact h.c y g
  ·exact ⟨h0,h1⟩,fun j hj=>by rw [cf_set,if_neg (by omega)]; exact h.z j hj⟩
section
variable {p:Int} [IsP p]
theorem DrI.pol {Q:List Int} {n:Nat} (h:DrI p Q n):Q=pad (row (polOf p Q))∧(polOf p Q).len≤n:=
 ⟨pad_of h.c h.l,Pol.len_le fun j hj=>by rw [polOf_c,h.z j hj]; rfl⟩
theorem l_draw {O:Oracle} (hn:H_next O F3q) {b1:Blk} {n:Nat} (hn64:n≤64):∀(k:Nat) (b:Blk) (Q:List Int),k≤n→Src b→DrI p Q n→∃(b':Blk) (Q':List Int),Src b'∧DrI p Q' n ∧
 dn O 1 (.loop ir_spec_l01Draw_L0) ⟨[(0,.ptr 0 []),(1,(.d (.int .i64 p))),(6,.ptr 1 []),(7,.ptr 2 []),(8,(.d (.int .i64 ((k:Int)-1))))],[b,b1,.box false (D.arr 64 .leaf (ints .u8 Q))]⟩ =
  some (.exit 0,⟨[(0,.ptr 0 []),(1,(.d (.int .i64 p))),(6,.ptr 1 []),(7,.ptr 2 []),(8,(.d (.int .i64 (-1)))),(16,(.d (.bool false)))],[b',b1,.box false (D.arr 64 .leaf (ints .u8 Q'))]⟩)
 | 0,b,Q,hk,hs,hQ=>by
  refine ⟨b,Q,hs,hQ,dn_stop ?_⟩
  obtain ⟨c,a,h,rfl,_⟩:=hs
  simp -implicitDefEqProofs [ir_spec_l01Draw_L0,dn_cond]
 | k+1,b,Q,hk,hs,hQ=>by
  have hp:=IsP.ge (p:=p)
  have hp7:=IsP.le (p:=p)
  obtain ⟨x,b2,e1,hs2,x0,x1⟩:=hn b 3 hs (by omega)
  have w1:IntKind.i64.wrap ((((k+1:Nat):Int)-1)-1)=(k:Int)-1:=(w64 (by omega)).trans (by omega)
  have hk1:((k+1:Nat):Int)-1=(k:Int):=by omega
  rw [hk1] at w1 ⊢
  have hge:(0:Int)≤k:=by omega
  have hkQ:k<Q.length:=by rw [hQ.l]; omega
  have hk64:k<64:=by omega
  by_cases hx:0<x
  ·obtain ⟨y,b3,e2,hs3,y0,y1⟩:=hn b2 p hs2 (by omega)
   have w2:IntKind.u8.wrap y=y:=w8 (by omega)
   obtain ⟨b',Q',hs',hQ',ih⟩:=l_draw hn (b1:=b1) hn64 k b3 (Q.set k y) (by omega) hs3 (hQ.set y0 (by omega) (by omega))
   refine ⟨b',Q',hs',hQ',dn_round ?_ ih⟩
   obtain ⟨c,a,h,rfl,_⟩:=hs
   obtain ⟨c2,a2,h2,rfl,_⟩:=hs2
   obtain ⟨c3,a3,h3,rfl,_⟩:=hs3
   simp -implicitDefEqProofs [ir_spec_l01Draw_L0,dn_cond,hge,e1,e2,hx,w1,w2,hkQ,hk64,List.idxOf,List.findIdx,List.findIdx.go]
  ·obtain ⟨b',Q',hs',hQ',ih⟩:=l_draw hn (b1:=b1) hn64 k b2 Q (by omega) hs2 hQ
   refine ⟨b',Q',hs',hQ',dn_round ?_ ih⟩
   obtain ⟨c,a,h,rfl,_⟩:=hs
   obtain ⟨c2,a2,h2,rfl,_⟩:=hs2
   simp -implicitDefEqProofs [ir_spec_l01Draw_L0,dn_cond,hge,e1,hx,w1,List.idxOf,List.findIdx,List.findIdx.go]
end
theorem DrI.zero (p:Int) [IsP p] (n:Nat):DrI p (pad []) n:=
 ⟨pad_length _,fun x hx=>by
  have hp:=IsP.ge (p:=p)
  have:x=0:=by
   unfold pad at hx
   obtain ⟨a,_,rfl⟩:∃a,a<64∧cf [] a=x:=by simpa using hx
   exact cf_ge (Nat.zero_le _)
  omega,fun j _=>(pad_cf (l:=[]) (by simp) j).trans (cf_ge (Nat.zero_le _))⟩
def H_draw (O:Oracle):Prop:=∀(p:Int) [IsP p] (b:Blk) (n:Nat),Src b→n≤63→∃(a:Fp p) (b':Blk),O F3d [.ptr 0 [],(.d (.int .i64 p)),(.d (.int .i64 ((n:Int))))] [b]=some (.d (D.arr 64 .leaf (ints .u8 (pad (row a)))),[b'],[])∧Src b'∧a.len≤n+1
theorem h_draw (hT:T F3d=some Z3d) (hn:H_next (den T A) F3q):H_draw (den T A):=by
 intro p ip b n hs h63
 obtain ⟨x,b2,e1,hs2,x0,x1⟩:=hn b ((n:Int)+2) hs (by omega)
 obtain ⟨k,rfl⟩:∃k:Nat,x=k:=⟨x.toNat,by omega⟩
 have w0:IntKind.i64.wrap ((n:Int)+2)=(n:Int)+2:=w64 (by omega)
 have w1:IntKind.i64.wrap ((k:Int)-1)=(k:Int)-1:=w64 (by omega)
 obtain ⟨b',Q,hs',hQ,e2⟩:=l_draw (p:=p) hn (b1:=.box false (D.arr 64 .leaf (ints .u8 (pad [])))) (n:=n+1) (by omega) k b2 (pad []) (by omega) hs2 (.zero p _)
 obtain ⟨q1,q2⟩:=hQ.pol
 refine ⟨polOf p Q,b',den_of hT rfl ?_,hs',q2⟩
 rw [←q1]
 obtain ⟨c,a,h,rfl,_⟩:=hs
 obtain ⟨c2,a2,h2,rfl,_⟩:=hs2
 obtain ⟨c',a',h',rfl,_⟩:=hs'
 simp -implicitDefEqProofs [Z3d,ir_spec_l01Draw_B,w0,e1,w1,e2,List.replicate,List.idxOf,List.findIdx,List.findIdx.go]
theorem l_mod0 {O:Oracle} (hn:H_next O F3q) {p:Int} [IsP p] {b1:Blk} {n:Nat} {most k:Int} (hn62:n≤62):∀(r i:Nat) (b:Blk) (Q:List Int),i+r=n→Src b→DrI p Q n→∃(b':Blk) (Q':List Int),Src b'∧DrI p Q' n ∧
 dn O 1 (.loop Z3e_L0) ⟨[(0,.ptr 0 []),(1,(.d (.int .i64 p))),(2,(.d (.int .i64 most))),(6,.ptr 1 []),(7,.ptr 2 []),(8,(.d (.int .i64 k))),(9,(.d (.int .i64 n))),(10,(.d (.int .i64 i)))],[b,b1,.box false (D.arr 64 .leaf (ints .u8 Q))]⟩ =
  some (.exit 2,⟨[(0,.ptr 0 []),(1,(.d (.int .i64 p))),(2,(.d (.int .i64 most))),(6,.ptr 1 []),(7,.ptr 2 []),(8,(.d (.int .i64 k))),(9,(.d (.int .i64 n))),(10,(.d (.int .i64 n))),(23,(.d (.bool false)))],[b',b1,.box false (D.arr 64 .leaf (ints .u8 Q'))]⟩)
 | 0,i,b,Q,hi,hs,hQ=>by
  obtain rfl:i=n:=by omega
  refine ⟨b,Q,hs,hQ,dn_stop ?_⟩
  obtain ⟨c,a,h,rfl,_⟩:=hs
  simp -implicitDefEqProofs [Z3e_L0,dn_cond]
 | r+1,i,b,Q,hi,hs,hQ=>by
  have hp:=IsP.ge (p:=p)
  have hp7:=IsP.le (p:=p)
  obtain ⟨y,b3,e2,hs3,y0,y1⟩:=hn b p hs (by omega)
  have w2:IntKind.u8.wrap y=y:=w8 (by omega)
  have w4:IntKind.i64.wrap ((i:Int)+1)=((i+1:Nat):Int):=(w64 (x:=(i:Int)+1) (by omega)).trans (by omega)
  have hlt:i<n:=by omega
  have hiQ:i<Q.length:=by rw [hQ.l]; omega
  have hi64:i<64:=by omega
  obtain ⟨b',Q',hs',hQ',ih⟩:=l_mod0 hn (b1:=b1) (most:=most) (k:=k) hn62 r (i+1) b3 (Q.set i y) (by omega) hs3 (hQ.set y0 (by omega) hlt)
  refine ⟨b',Q',hs',hQ',dn_round ?_ ih⟩
  obtain ⟨c,a,h,rfl,_⟩:=hs
  obtain ⟨c3,a3,h3,rfl,_⟩:=hs3
  simp -implicitDefEqProofs [Z3e_L0,dn_cond,hlt,e2,w2,w4,hiQ,hi64,List.idxOf,List.findIdx,List.findIdx.go]
theorem DrI.up {p:Int} {Q:List Int} {n m:Nat} (h:DrI p Q n) (hm:n≤m):DrI p Q m:=⟨h.l,h.c,fun j hj=>h.z j (by omega)⟩
theorem DrI.mod {p:Int} [IsP p] {Q:List Int} {n:Nat} (h:DrI p Q n) (hn:n≤62):∃a:Fp p,Q.set n 1=pad (row a)∧a.len=n+1∧Monic a:=by
 have hp:=IsP.ge (p:=p)
 have h1:DrI p (Q.set n 1) (n+1):=(h.up (Nat.le_succ n)).set (by omega) (by omega) (Nat.lt_succ_self n)
 obtain ⟨q1,q2⟩:=h1.pol
 have hc:(polOf p (Q.set n 1)).c n=1:=by
  rw [polOf_c,cf_set,if_pos ⟨rfl,by rw [h.l]; omega⟩,zp_one]
 have hne:(polOf p (Q.set n 1)).c n≠0:=by
  rw [hc]; exact Fd.one_ne
 have hl:(polOf p (Q.set n 1)).len=n+1:=Pol.len_eq (Pol.lt_iff.2 q2) hne
 have h0:polOf p (Q.set n 1)≠0:=fun h=>by rw [h,Pol.len_zero] at hl; omega
 exact ⟨polOf p (Q.set n 1),q1,hl,⟨by unfold Pol.ld; rw [hl]; exact hc,h0⟩⟩
open Classical in
theorem l_mod1 {O:Oracle} (hn:H_next O F3q) (hir:K_sIrr O) {p:Int} [IsP p] {z:List Int} {most:Int} (hm1:1≤most) (hm2:most≤12):∀(r k:Nat) (b:Blk) (a:Fp p),k+r=4→Src b→2≤a.len→a.len≤most+1→Monic a→∃(b':Blk) (a':Fp p),Src b'∧2≤a'.len∧a'.len≤most+1∧Monic a' ∧
 (dn O 1 (.loop Z3e_L1) ⟨[(0,.ptr 0 []),(1,(.d (.int .i64 p))),(2,(.d (.int .i64 most))),(6,.ptr 1 []),(7,.ptr 2 []),(8,(.d (.int .i64 k)))],[b,.box false (D.arr 64 .leaf (ints .u8 z)),.box false (D.arr 64 .leaf (ints .u8 (pad (row a))))]⟩ =
  some (.exit 0,⟨[(0,.ptr 0 []),(1,(.d (.int .i64 p))),(2,(.d (.int .i64 most))),(6,.ptr 1 []),(7,.ptr 2 []),(8,(.d (.int .i64 4))),(13,(.d (.bool false)))],[b',.box false (D.arr 64 .leaf (ints .u8 z)),.box false (D.arr 64 .leaf (ints .u8 (pad (row a'))))]⟩) ∨
 dn O 1 (.loop Z3e_L1) ⟨[(0,.ptr 0 []),(1,(.d (.int .i64 p))),(2,(.d (.int .i64 most))),(6,.ptr 1 []),(7,.ptr 2 []),(8,(.d (.int .i64 k)))],[b,.box false (D.arr 64 .leaf (ints .u8 z)),.box false (D.arr 64 .leaf (ints .u8 (pad (row a))))]⟩ =
  some (.ret,⟨[(6,.ptr 1 [])],[b',.box false (D.arr 64 .leaf (ints .u8 (pad (row a')))),.hole]⟩))
 | 0,k,b,a,hk,hs,h2,hl,hm=>by
  obtain rfl:k=4:=by omega
  refine ⟨b,a,hs,h2,hl,hm,.inl (dn_stop ?_)⟩
  obtain ⟨c,a,h,rfl,_⟩:=hs
  simp -implicitDefEqProofs [Z3e_L1,dn_cond]
 | r+1,k,b,a,hk,hs,h2,hl,hm=>by
  have hk4:(k:Int)<4:=by omega
  obtain ⟨x,b2,e1,hs2,x0,x1⟩:=hn b most hs (by omega)
  obtain ⟨n,hn1⟩:∃n:Nat,1+x=n:=⟨(1+x).toNat,by omega⟩
  have w1:IntKind.i64.wrap (1+x)=n:=(w64 (by omega)).trans hn1
  obtain ⟨b3,Q,hs3,hQ,st⟩:=l_mod0 hn (p:=p) (b1:=.box false (D.arr 64 .leaf (ints .u8 z))) (n:=n) (most:=most) (k:=k) (by omega) n 0 b2 (pad []) (Nat.zero_add _) hs2 (.zero p _)
  rw [show ((0:Nat):Int)=0 from rfl] at st
  obtain ⟨a',q1,q2,q3⟩:=hQ.mod (by omega)
  have hnQ:n<Q.length:=by rw [hQ.l]; omega
  have hn64:n<64:=by omega
  obtain ⟨y,b4,e2,hs4,y0,y1⟩:=hn b3 3 hs3 (by omega)
  have w4:IntKind.i64.wrap ((k:Int)+1)=((k+1:Nat):Int):=(w64 (x:=(k:Int)+1) (by omega)).trans (by omega)
  have e3:=hir p a' q3.2 (by omega)
  obtain ⟨b',a2,g1,g2,g3,g4,ih⟩:=l_mod1 hn hir (z:=z) hm1 hm2 r (k+1) b4 a' (by omega) hs4 (by omega) (by omega) q3
  by_cases hy:y=0
  ·refine ⟨b4,a',hs4,by omega,by omega,q3,.inr (dn_back ?_)⟩
   obtain ⟨c,a0,h,rfl,_⟩:=hs
   obtain ⟨c2,a2,h2,rfl,_⟩:=hs2
   obtain ⟨c3,a3,h3,rfl,_⟩:=hs3
   obtain ⟨c4,a4,h4,rfl,_⟩:=hs4
   generalize pad (row a)=Pa at *
   generalize hPQ:Q.set n 1=PQ at *
   generalize pad (row a')=Pb at *
   subst q1
   simp -implicitDefEqProofs [Z3e_L1,dn_cond,hk4,e1,w1,st,hnQ,hn64,hPQ,e2,hy,List.idxOf,List.findIdx,List.findIdx.go]
  ·by_cases hI:Irr a'
   ·refine ⟨b4,a',hs4,by omega,by omega,q3,.inr (dn_back ?_)⟩
    rw [decide_eq_true hI] at e3
    obtain ⟨c,a0,h,rfl,_⟩:=hs
    obtain ⟨c2,a2,h2,rfl,_⟩:=hs2
    obtain ⟨c3,a3,h3,rfl,_⟩:=hs3
    obtain ⟨c4,a4,h4,rfl,_⟩:=hs4
    generalize pad (row a)=Pa at *
    generalize hPQ:Q.set n 1=PQ at *
    generalize pad (row a')=Pb at *
    subst q1
    simp -implicitDefEqProofs [Z3e_L1,dn_cond,hk4,e1,w1,st,hnQ,hn64,hPQ,e2,e3,hy,List.idxOf,List.findIdx,List.findIdx.go]
   ·rw [decide_eq_false hI] at e3
    have key:dn O 1 Z3e_L1 ⟨[(0,.ptr 0 []),(1,(.d (.int .i64 p))),(2,(.d (.int .i64 most))),(6,.ptr 1 []),(7,.ptr 2 []),(8,(.d (.int .i64 k)))],[b,.box false (D.arr 64 .leaf (ints .u8 z)),.box false (D.arr 64 .leaf (ints .u8 (pad (row a))))]⟩=some (.normal,⟨[(0,.ptr 0 []),(1,(.d (.int .i64 p))),(2,(.d (.int .i64 most))),(6,.ptr 1 []),(7,.ptr 2 []),(8,(.d (.int .i64 (((k+1:Nat):Int)))))],[b4,.box false (D.arr 64 .leaf (ints .u8 z)),.box false (D.arr 64 .leaf (ints .u8 (pad (row a'))))]⟩):=by
     obtain ⟨c,a0,h,rfl,_⟩:=hs
     obtain ⟨c2,a2,h2,rfl,_⟩:=hs2
     obtain ⟨c3,a3,h3,rfl,_⟩:=hs3
     obtain ⟨c4,a4,h4,rfl,_⟩:=hs4
     generalize pad (row a)=Pa at *
     generalize hPQ:Q.set n 1=PQ at *
     generalize pad (row a')=Pb at *
     subst q1
     simp -implicitDefEqProofs [Z3e_L1,dn_cond,hk4,e1,w1,st,hnQ,hn64,hPQ,e2,e3,hy,w4,List.idxOf,List.findIdx,List.findIdx.go]
    exact ⟨b',a2,g1,g2,g3,g4,ih.imp (dn_round key) (dn_round key)⟩
def H_drawMod (O:Oracle):Prop:=∀(p:Int) [IsP p] (b:Blk) (most:Int),Src b→1≤most→most≤12→∃(a:Fp p) (b':Blk),O F3e [.ptr 0 [],(.d (.int .i64 p)),(.d (.int .i64 most))] [b]=some (.d (D.arr 64 .leaf (ints .u8 (pad (row a)))),[b'],[])∧Src b'∧2≤a.len∧a.len≤most+1∧Monic a
theorem h_drawMod (hT:T F3e=some Z3e) (hn:H_next (den T A) F3q) (ht:K_sT (den T A)) (hir:K_sIrr (den T A)):H_drawMod (den T A):=by
 intro p ip b most hs hm1 hm2
 have e0:=ht p
 have hX:(Pol.X:Fp p).len=2:=Pol.len_X
 obtain ⟨b',a',g1,g2,g3,g4,e | e⟩:=l_mod1 (O:=den T A) hn hir (z:=pad []) hm1 hm2 4 0 b (Pol.X:Fp p) rfl hs (by omega) (by omega) ⟨by unfold Pol.ld; rw [Pol.len_X]; rfl,Pol.X_ne⟩
 ·refine ⟨a',b',den_of hT rfl ?_,g1,g2,g3,g4⟩
  rw [show ((0:Nat):Int)=0 from rfl] at e
  obtain ⟨c,a0,h,rfl,_⟩:=hs
  obtain ⟨c2,a2,h2,rfl,_⟩:=g1
  generalize pad (row a')=Pb at *
  generalize pad (row (Pol.X:Fp p))=Pt at *
  simp -implicitDefEqProofs [Z3e,Z3e_B,e0,e,List.replicate,List.idxOf,List.findIdx]
 ·refine ⟨a',b',den_of hT rfl ?_,g1,g2,g3,g4⟩
  rw [show ((0:Nat):Int)=0 from rfl] at e
  obtain ⟨c,a0,h,rfl,_⟩:=hs
  obtain ⟨c2,a2,h2,rfl,_⟩:=g1
  generalize pad (row a')=Pb at *
  generalize pad (row (Pol.X:Fp p))=Pt at *
  simp -implicitDefEqProofs [Z3e,Z3e_B,e0,e,List.replicate,List.idxOf,List.findIdx]
end Pe

namespace Gq
def Pr (l:Nat):Prop:=2≤l∧∀d,d∣l→d=1∨d=l
theorem Pr.coprime {l n:Nat} (h:Pr l) (hn:¬ l∣n):Nat.Coprime l n:=by
 rcases h.2 _ (Nat.gcd_dvd_left l n) with h1 | h1
 ·exact h1
 ·exact absurd (h1▸Nat.gcd_dvd_right l n) hn
theorem pr_ex:∀(n:Nat),2≤n→∃l,Pr l∧l∣n:=by
 intro n
 induction n using Nat.strongRecOn with
 | ind n ih=>
  intro hn
  by_cases h:Pr n
  ·exact ⟨n,h,Nat.dvd_refl n⟩
  ·have:∃d,d∣n∧d≠1∧d≠n:=by
    apply Classical.byContradiction
    intro hno
    refine h ⟨hn,fun d hd=>?_⟩
    apply Classical.byContradiction
    intro h2
    exact hno ⟨d,hd,fun e=>h2 (.inl e),fun e=>h2 (.inr e)⟩
   obtain ⟨d,hd,h1,h2⟩:=this
   have hle:=Nat.le_of_dvd (by omega) hd
   have h0:d≠0:=fun e=>by
    rw [e] at hd
    have:=Nat.eq_zero_of_zero_dvd hd
    omega
   obtain ⟨l,hl,hld⟩:=ih d (by omega) (by omega)
   exact ⟨l,hl,Nat.dvd_trans hld hd⟩
theorem Pr.dvd_mul {l a b:Nat} (h:Pr l) (hd:l∣a*b):l∣a∨l∣b:=by
 by_cases ha:l∣a
 ·exact .inl ha
 ·exact .inr ((h.coprime ha).dvd_of_dvd_mul_left hd)
theorem Pr.dvd_pr {l q:Nat} (h:Pr l) (hq:Pr q) (hd:l∣q):l=q:=by
 rcases hq.2 l hd with h1 | h1
 ·have:=h.1; omega
 ·exact h1
theorem one_of {n:Nat} (h0:1≤n) (h:∀l,Pr l→¬ l∣n):n=1:=by
 apply Classical.byContradiction
 intro h1
 obtain ⟨l,hl,hd⟩:=pr_ex n (by omega)
 exact h l hl hd
section
variable {R:Type} [CR R]
theorem pw_dvd {x:R} {n k:Nat} (h:pw x n=1) (hd:n∣k):pw x k=1:=by
 obtain ⟨c,rfl⟩:=hd
 rw [←pw_pw,h,pw_one]
def Ord (x:R) (n:Nat):Prop:=∀k,pw x k=1↔n∣k
theorem Ord.self {x:R} {n:Nat} (h:Ord x n):pw x n=1:=(h n).2 (Nat.dvd_refl n)
theorem Ord.unique {x:R} {n m:Nat} (h:Ord x n) (h':Ord x m):n=m:=Nat.dvd_antisymm ((h m).1 h'.self) ((h' n).1 h.self)
theorem Ord.mul {a b:R} {m n:Nat} (ha:Ord a m) (hb:Ord b n) (h:Nat.Coprime m n):Ord (a*b) (m*n):=fun k=>by
 constructor
 ·intro hk
  have h1:m∣k:=by
   have e:pw a (k*n)=1:=by
    have e1:pw (a*b) (k*n)=1:=by rw [←pw_pw,hk,pw_one]
    rw [pw_mul,pw_dvd hb.self (Nat.dvd_mul_left n k),mul_one] at e1
    exact e1
   exact h.dvd_of_dvd_mul_right ((ha _).1 e)
  have h2:n∣k:=by
   have e:pw b (k*m)=1:=by
    have e1:pw (a*b) (k*m)=1:=by rw [←pw_pw,hk,pw_one]
    rw [pw_mul,pw_dvd ha.self (Nat.dvd_mul_left m k),one_mul] at e1
    exact e1
   exact h.symm.dvd_of_dvd_mul_right ((hb _).1 e)
  exact h.mul_dvd_of_dvd_of_dvd h1 h2
 ·intro hd
  rw [pw_mul,pw_dvd ha.self (Nat.dvd_trans (Nat.dvd_mul_right m n) hd),pw_dvd hb.self (Nat.dvd_trans (Nat.dvd_mul_left n m) hd),mul_one]
end
structure OrdI (n q rest order:Nat) (fin:Bool):Prop where
 dv:n∣order
 pos:1≤order
 low:∀l,Pr l→l<q→¬ l*n∣order∧¬ l∣rest
 rel:∃c,order=rest*c∧(∀l,Pr l→q<l→¬ l∣c)∧(fin=false→Pr q→¬ q∣c)
 fin:fin=true→¬ q*n∣order
theorem OrdI.rest_pos {n q rest order:Nat} {f:Bool} (h:OrdI n q rest order f):1≤rest:=by
 obtain ⟨c,e,-⟩:=h.rel
 have:=h.pos
 rcases Nat.eq_zero_or_pos rest with h0 | h0
 ·rw [h0,Nat.zero_mul] at e; omega
 ·exact h0
theorem OrdI.init {n N:Nat} (hN:1≤N) (h:n∣N):OrdI n 2 N N false where
 dv:=h
 pos:=hN
 low:=fun l hl h2=>by have:=hl.1; omega
 rel:=⟨1,(Nat.mul_one N).symm,fun l hl _ hd=>by have:=hl.1; have:=Nat.le_of_dvd (by omega) hd; omega,fun _ hq hd=>by have:=hq.1; have:=Nat.le_of_dvd (by omega) hd; omega⟩
 fin:=fun h=>by cases h
theorem OrdI.prime {n q rest order:Nat} {f:Bool} (h:OrdI n q rest order f) (h2:2≤q) (hd:q∣rest):Pr q:=by
 obtain ⟨l,hl,hlq⟩:=pr_ex q h2
 rcases Nat.lt_or_ge l q with h1 | h1
 ·exact absurd (Nat.dvd_trans hlq hd) (h.low l hl h1).2
 ·have:=Nat.le_of_dvd (by omega) hlq
  obtain rfl:l=q:=by omega
  exact hl
theorem OrdI.no {n q r c':Nat} {f:Bool} (h:OrdI n q (q*r) (q*c') f) (h2:2≤q) (hd:¬ n∣c'):OrdI n q r (q*c') true where
 dv:=h.dv
 pos:=h.pos
 low:=fun l hl h1=>by
  obtain ⟨a,b⟩:=h.low l hl h1
  exact ⟨a,fun e=>b (Nat.dvd_trans e (Nat.dvd_mul_left r q))⟩
 rel:=by
  have hq:=h.prime h2 (Nat.dvd_mul_right q r)
  obtain ⟨c,e,h3,_⟩:=h.rel
  refine ⟨q*c,by rw [e,Nat.mul_assoc,Nat.mul_left_comm],fun l hl h4 hl2=>?_,fun hf=>by cases hf⟩
  rcases hl.dvd_mul hl2 with h5 | h5
  ·have:=hl.dvd_pr hq h5; omega
  ·exact h3 l hl h4 h5
 fin:=fun _ e=>hd (Nat.dvd_of_mul_dvd_mul_left (by omega) e)
theorem OrdI.next {n q rest order:Nat} {f:Bool} (h:OrdI n q rest order f) (h2:2≤q) (hd:¬ q∣rest):OrdI n (q+1) rest order false where
 dv:=h.dv
 pos:=h.pos
 low:=fun l hl h1=>by
  rcases Nat.lt_or_ge l q with h3 | h3
  ·exact h.low l hl h3
  ·obtain rfl:l=q:=by omega
   refine ⟨fun e=>?_,hd⟩
   cases f with
   | true=>exact h.fin rfl e
   | false=>
    obtain ⟨c,e1,_,h5⟩:=h.rel
    have:l∣rest*c:=e1▸Nat.dvd_trans (Nat.dvd_mul_right l n) e
    rcases hl.dvd_mul this with h6 | h6
    ·exact hd h6
    ·exact h5 rfl hl h6
 rel:=by
  obtain ⟨c,e1,h4,_⟩:=h.rel
  exact ⟨c,e1,fun l hl h5=>h4 l hl (by omega),fun _ hq=>h4 _ hq (by omega)⟩
 fin:=fun hf=>by cases hf
theorem OrdI.done {n q rest order:Nat} (h:OrdI n q rest order false) (hq:rest<q):order=n:=by
 have hr:rest=1:=one_of h.rest_pos fun l hl hd=>by
  have:=Nat.le_of_dvd h.rest_pos hd
  exact (h.low l hl (by omega)).2 hd
 obtain ⟨c,e1,h4,h5⟩:=h.rel
 rw [hr,Nat.one_mul] at e1
 obtain ⟨k,hk⟩:=h.dv
 have hk1:k=1:=one_of (by
  have:=h.pos
  rcases Nat.eq_zero_or_pos k with h0 | h0
  ·rw [h0,Nat.mul_zero] at hk; omega
  ·exact h0) fun l hl hd=>by
  have hln:l*n∣order:=by
   rw [hk,Nat.mul_comm l n]; exact Nat.mul_dvd_mul_left n hd
  rcases Nat.lt_or_ge l q with h6 | h6
  ·exact (h.low l hl h6).1 hln
  ·have hlc:l∣c:=e1▸Nat.dvd_trans (Nat.dvd_mul_right l n) hln
   rcases Nat.lt_or_ge q l with h7 | h7
   ·exact h4 l hl h7 hlc
   ·obtain rfl:l=q:=by omega
    exact h5 rfl hl hlc
 rw [hk,hk1,Nat.mul_one]
end Gq

namespace Pe
open Gq
section
variable {p:Int}
def IsPrim (m:Fp p) (k:Nat):Prop:=1≤k∧(k:Int)<p^(m.len-1)∧Ord (Quo.mk m (numP p k)) (p.toNat^(m.len-1)-1)∧∀j:Nat,1≤j→j<k→¬ Ord (Quo.mk m (numP p j)) (p.toNat^(m.len-1)-1)
theorem IsPrim.unique {m:Fp p} {j k:Nat} (hj:IsPrim m j) (hk:IsPrim m k):j=k:=by
 rcases Nat.lt_or_ge j k with h | h
 ·exact absurd hj.2.2.1 (hk.2.2.2 j hj.1 h)
 ·rcases Nat.lt_or_ge k j with h2 | h2
  ·exact absurd hk.2.2.1 (hj.2.2.2 k hk.1 h2)
  ·omega
noncomputable def dgF:Facs p→Nat
 | []=>0
 | x::L=>x.2*(x.1.len-1)+dgF L
theorem pw_len [IsP p] {q:Fp p} (h:Monic q):∀k,(pw q k).len=k*(q.len-1)+1
 | 0=>by rw [Nat.zero_mul]; exact Pol.len_one
 | k+1=>by
  have h1:=Pol.len_mul (Monic.pw h k).2 h.2
  have h2:=pw_len h k
  have h3:=Pol.len_pos h.2
  show (pw q k*q).len=_
  rw [Nat.succ_mul]; omega
theorem dgF_len [IsP p]:∀{L:Facs p},FacOk L→(prodF L).len=dgF L+1
 | [],_=>Pol.len_one
 | x::L,h=>by
  have hm:=(h.irr x (by simp)).2.1
  have ht:FacOk L:=⟨fun y hy=>h.irr y (by simp [hy]),h.dis.tail⟩
  have h1:=dgF_len ht
  have h2:=Pol.len_mul (Monic.pw hm x.2).2 (prodF_monic ht).2
  rw [pw_len hm] at h2
  rw [prodF_cons,dgF]; omega
end
end Pe

namespace Pe
open Go Gq
section
variable {p:Int}
end
section
variable {p:Int} [IsP p]
end
end Pe


namespace Pe
open Go Gq
variable {T:Nat→Option Fn} {A:Oracle}
section
variable {p:Int} [IsP p]
end
section
variable {p:Int} [IsP p]
end
section
variable {p:Int} [IsP p]
end
end Pe

namespace Pe
open Go Gq
variable {T:Nat→Option Fn} {A:Oracle}
end Pe

namespace Pe
open Go Gq
variable {T:Nat→Option Fn} {A:Oracle}
section
variable {p:Int} [IsP p]
theorem IsFac.small {m:Fp p} (hm:m≠0) (hl:m.len≤13) {L:Facs p} (h:IsFac m L):(∀x∈L,2≤x.1.len∧x.1.len≤13∧1≤x.2∧x.2≤12)∧dgF L+1=m.len:=by
 refine ⟨fun x hx=>?_,?_⟩
 ·obtain ⟨q1,q2,q3,_⟩:=h.len hm hx
  exact ⟨q1,by omega,(h.ok.irr x hx).2.2,by omega⟩
 ·rw [←dgF_len h.ok]
  conv=>rhs; rw [h.eq]
  exact (Pol.len_Cmul (Pol.ld_ne hm) _).symm
end
section
variable {p:Int} [IsP p]
end
end Pe

namespace Pe
open Go Gq
variable {T:Nat→Option Fn} {A:Oracle}
section
variable {p:Int} [IsP p]
end
end Pe

namespace Pe
open Go Gq
variable {T:Nat→Option Fn} {A:Oracle}
section
variable {p:Int} [IsP p]
end
end Pe

namespace Pe
open Go Gq
variable {T:Nat→Option Fn} {A:Oracle}
section
variable {p:Int} [ip:IsP p] {M X:Fp p}
end
end Pe

namespace Pe
open Go Gq
variable {T:Nat→Option Fn} {A:Oracle}
end Pe

namespace Pe
open Go Gq
variable {T:Nat→Option Fn} {A:Oracle}
end Pe

namespace Pe
open Go Gq
variable {T:Nat→Option Fn} {A:Oracle}
def C_big (O:Oracle):Prop:=∀L:List D,ask O F26 [.sl .leaf L]=some (D.bool (decide ((4096:Int)<L.length)))
theorem c_big (hT:T F26=some Z26):C_big (den T A):=by
 intro L
 refine ask_of hT rfl ?_
 simp -implicitDefEqProofs [Z26,Z26_B]
end Pe

namespace Pe
open Go Gq
variable {T:Nat→Option Fn} {A:Oracle}
def Arr (l:List Int):Prop:=l.length=64∧Bytes l
theorem arr_row {p:Int} [IsP p] (a:Fp p):Arr (pad (row a)):=⟨pad_length _,pad_bytes a⟩
end Pe

namespace Pe
open Go Gq
variable {T:Nat→Option Fn} {A:Oracle}
end Pe

namespace Pe
open Go Gq
variable {T:Nat→Option Fn} {A:Oracle}
theorem l_roll {O:Oracle} {code:List Int} (hc:code.length≤4096) (hb:Bytes code):∀(r i:Nat) (h:Int),i+r=code.length→∃h':Int,
 dn O 0 (.loop Z28_L0) ⟨[(0,.d (.sl .leaf (ints .u8 code))),(5,.ptr 0 []),(6,(.d (.int .i64 i)))],[srcB code 0 h]⟩ =
  some (.exit 0,⟨[(0,.d (.sl .leaf (ints .u8 code))),(5,.ptr 0 []),(6,(.d (.int .i64 code.length))),(19,(.d (.bool false)))],[srcB code 0 h']⟩)
 | 0,i,h,hi=>by
  obtain rfl:i=code.length:=by omega
  refine ⟨h,dn_stop ?_⟩
  simp -implicitDefEqProofs [Z28_L0,dn_cond]
 | r+1,i,h,hi=>by
  have hlt:i<code.length:=by omega
  have hlt':(i:Int)<code.length:=by omega
  have hbk:=hb _ (List.getElem_mem hlt)
  have w4:IntKind.i64.wrap ((i:Int)+1)=((i+1:Nat):Int):=(w64 (x:=(i:Int)+1) (by omega)).trans (by omega)
  obtain ⟨h2,hh2⟩:∃h2:Int,IntKind.u64.wrap (IntKind.u64.wrap (IntKind.u64.wrap (h*1099511628211)+IntKind.u64.wrap code[i])+5)=h2:=⟨_,rfl⟩
  obtain ⟨h',ih⟩:=l_roll hc hb r (i+1) h2 (by omega)
  refine ⟨h',dn_round ?_ ih⟩
  simp -implicitDefEqProofs [Z28_L0,dn_cond,hlt,hlt',w4,hh2]
def H_roll (O:Oracle):Prop:=∀(code:List Int) (s:Int),Bytes code→code.length≤4096→∃b:Blk,O F28 [.d (.sl .leaf (ints .u8 code)),.d (.int .u64 s)] []=some (.ptr 0 [],[],[b])∧Src b
theorem h_roll (hT:T F28=some Z28):H_roll (den T A):=by
 intro code s hb hc
 obtain ⟨h0,hh0⟩:∃h0:Int,IntKind.u64.wrap (IntKind.u64.wrap (s*8219)+IntKind.u64.wrap (code.length:Int))=h0:=⟨_,rfl⟩
 obtain ⟨h',e⟩:=l_roll (O:=den T A) hc hb code.length 0 h0 (Nat.zero_add _)
 rw [show ((0:Nat):Int)=0 from rfl,show srcB code 0 h0=.box false (.st [.leaf,.leaf,.leaf] [.sl .leaf (ints .u8 code),.int .i64 0,.int .u64 h0]) from rfl] at e
 refine ⟨srcB code 0 h',den_of hT rfl ?_,⟨code,0,h',rfl,Nat.zero_le _,by omega,hb⟩⟩
 simp -implicitDefEqProofs [Z28,Z28_B,hh0,e,List.idxOf,List.findIdx,List.findIdx.go]
theorem h_below (hT:T F27=some Z27):H_next (den T A) F27:=by
 rintro b n ⟨code,k,h,rfl,hk,hc,hb⟩ hn
 by_cases h1:n<1
 ·refine ⟨0,_,den_of hT rfl ?_,⟨code,k,h,rfl,hk,hc,hb⟩,Int.le_refl _,.inr rfl⟩
  simp -implicitDefEqProofs [Z27,ir_laws_dice_below_B,dn_cond,h1]
 ·obtain ⟨hh,hhh⟩:∃hh:Int,IntKind.u64.wrap (IntKind.u64.wrap (h*6364136223846793005)+1442695040888963407)=hh:=⟨_,rfl⟩
  have hx:=andI_le (hh.fdiv 8589934592)
  obtain ⟨x,hX⟩:∃x:Int,andI .u64 (hh.fdiv 8589934592) 16777215=x:=⟨_,rfl⟩
  rw [hX] at hx
  have w0:IntKind.i64.wrap x=x:=w64 (by omega)
  have hn0:¬ n=0:=by omega
  have tm:∀y:Int,0≤y→0≤y.tmod n∧y.tmod n<n:=fun y hy=>by
   rw [Int.tmod_eq_emod_of_nonneg hy]
   exact ⟨Int.emod_nonneg _ hn0,Int.emod_lt_of_pos _ (by omega)⟩
  by_cases h2:k<code.length
  ·have hbk:=hb _ (List.getElem_mem h2)
   have h2':(k:Int)<code.length:=by omega
   have w1:IntKind.i64.wrap code[k]=code[k]:=w64 (by omega)
   have w2:IntKind.i64.wrap (x+code[k])=x+code[k]:=w64 (by omega)
   have w3:IntKind.i64.wrap ((k:Int)+1)=((k+1:Nat):Int):=(w64 (x:=(k:Int)+1) (by omega)).trans (by omega)
   obtain ⟨t1,t2⟩:=tm (x+code[k]) (by omega)
   refine ⟨(x+code[k]).tmod n,srcB code (k+1) hh,den_of hT rfl ?_,⟨code,k+1,hh,rfl,by omega,hc,hb⟩,t1,.inl t2⟩
   simp -implicitDefEqProofs [Z27,ir_laws_dice_below_B,dn_cond,shiftI,shr33,h1,hn0,h2,h2',hhh,hX,w0,w1,w2,w3]
  ·have h2':¬ (k:Int)<code.length:=by omega
   obtain ⟨t1,t2⟩:=tm x (by omega)
   refine ⟨x.tmod n,srcB code k hh,den_of hT rfl ?_,⟨code,k,hh,rfl,hk,hc,hb⟩,t1,.inl t2⟩
   simp -implicitDefEqProofs [Z27,ir_laws_dice_below_B,dn_cond,shiftI,shr33,h1,hn0,h2',hhh,hX,w0]
end Pe

namespace Pe
open Go Gq
variable {T:Nat→Option Fn} {A:Oracle}
theorem arr2 {a m:List Int} (ha:Bytes a) (gl:a.length=64) (hm:Bytes m) (glm:m.length=64):Arrs [a,m]:=fun x hx=>by
 simp at hx
 rcases hx with rfl | rfl
 ·exact ⟨gl,ha⟩
 ·exact ⟨glm,hm⟩
def K_DegreeOf (O:Oracle):Prop:=∀(p:Int) [IsP p] (a:Fp p),a.len≤64→ask O F5 [(D.int .i64 p),(D.arr 64 .leaf (ints .u8 (pad (row a))))]=some (.tup [(D.int .i64 ((a.len:Int)-1)),(D.int .i64 0)])
theorem k_DegreeOf (hT:T F5=some Z5) (hpc:C_polysCode (den T A)) (hro:K_rowOf (den T A)) (hdg:C_degree (den T A)):K_DegreeOf (den T A):=by
 intro p ip a hl
 have e1:=hpc p [pad (row a)] (fun x hx=>by simp at hx; subst hx; exact ⟨pad_length _,pad_bytes a⟩) (by simp)
 rw [codeP_one,show [pad (row a)].map arr8=[(D.arr 64 .leaf (ints .u8 (pad (row a))))] from rfl] at e1
 have e2:=hro p a hl
 have e3:=hdg (row a) (by rw [row_length]; omega)
 rw [row_length] at e3
 refine ask_of hT rfl ?_
 generalize (a.len:Int)-1=n at *
 generalize pad (row a)=Px at *
 generalize row a=Rx at *
 simp -implicitDefEqProofs [Z5,Z5_B,dn_cond,e1,e2,e3,List.replicate]
end Pe


namespace Pe
open Go Gq
variable {T:Nat→Option Fn} {A:Oracle}
def H_near (O:Oracle):Prop:=∀(b:Blk) (most:Int),Src b→0≤most→most≤1000000→∃(x:Int) (b':Blk),O F3p [.ptr 0 [],(.d (.int .i64 most))] [b]=some ((.d (.int .i64 x)),[b'],[])∧Src b'
theorem h_near (hT:T F3p=some Z3p) (hn:H_next (den T A) F3q) (hp:H_pick (den T A)):H_near (den T A):=by
 intro b most hs m0 m1
 obtain ⟨k,b1,e1,hs1,k0,k1⟩:=hn b 14 hs (by omega)
 have w1:IntKind.i64.wrap (most+1)=most+1:=w64 (by omega)
 by_cases c0:k=0
 ·obtain ⟨x,b2,e2,hs2,hx⟩:=hp b1 [-1,most+1,1099511627776,-4611686018427387904] 4 (some 4) hs1 rfl (by omega) (by omega)
  rw [show ints .i64 [-1,most+1,1099511627776,-4611686018427387904]=[.int .i64 (-1),.int .i64 (most+1),.int .i64 1099511627776,.int .i64 (-4611686018427387904)] from rfl] at e2
  refine ⟨x,b2,den_of hT rfl ?_,hs2⟩
  obtain ⟨_,_,_,rfl,_⟩:=hs
  obtain ⟨_,_,_,rfl,_⟩:=hs1
  obtain ⟨_,_,_,rfl,_⟩:=hs2
  simp -implicitDefEqProofs [Z3p,Z3p_B,dn_cond,e1,e2,c0,w1,List.replicate,List.idxOf,List.findIdx,List.findIdx.go]
 ·obtain ⟨x,b2,e2,hs2,-,-⟩:=hn b1 (most+1) hs1 (by omega)
  refine ⟨x,b2,den_of hT rfl ?_,hs2⟩
  obtain ⟨_,_,_,rfl,_⟩:=hs
  obtain ⟨_,_,_,rfl,_⟩:=hs1
  obtain ⟨_,_,_,rfl,_⟩:=hs2
  simp -implicitDefEqProofs [Z3p,Z3p_B,dn_cond,e1,e2,c0,w1,List.replicate,List.idxOf,List.findIdx,List.findIdx.go]
end Pe

namespace Pe
open Go Gq
variable {T:Nat→Option Fn} {A:Oracle}
def BB (l:List Int):Prop:=∀i,0≤cf l i∧cf l i≤255
theorem bb_arr {l:List Int} (h:Arr l):BB l:=fun i=>by
 rcases Nat.lt_or_ge i l.length with g | g
 ·rw [cf_lt g]
  have:=h.2 _ (List.getElem_mem g)
  omega
 ·rw [cf_ge g]; omega
theorem arr_bb {l:List Int} (hl:l.length=64) (h:BB l):Arr l:=⟨hl,fun x hx=>by
 obtain ⟨i,hi,rfl⟩:=List.getElem_of_mem hx
 have:=h i
 rw [cf_lt hi] at this
 omega⟩
theorem BB.set {l:List Int} (h:BB l) {x:Int} (h0:0≤x) (h1:x≤255) (i:Nat):BB (l.set i x):=fun j=>by
 rw [cf_set]
 split
 ·exact ⟨h0,h1⟩
 ·exact h j
theorem t_add0 {O:Oracle} {p k:Int} [IsP p] {a b z:List Int} (ha:BB a) (hb:BB b) (hbl:b.length=64) (hk:-1000000≤k∧k≤1000000):∀(m i:Nat) (cur:List Int),i+m=64→cur.length=64→(∀j,i≤j→cf cur j=cf a j) →
 dn O 0 (.loop Z39_L0) ⟨[(0,(.d (.int .i64 p))),(3,(.d (.int .i64 k))),(5,.ptr 0 []),(6,.ptr 1 []),(8,.ptr 2 []),(9,(.d (.int .i64 i)))],[.box false (D.arr 64 .leaf (ints .u8 cur)),.box false (D.arr 64 .leaf (ints .u8 b)),.box false (D.arr 64 .leaf (ints .u8 z))]⟩ =
  some (.exit 0,⟨[(0,(.d (.int .i64 p))),(3,(.d (.int .i64 k))),(5,.ptr 0 []),(6,.ptr 1 []),(8,.ptr 2 []),(9,(.d (.int .i64 64))),(11,(.d (.bool false)))],[.box false (D.arr 64 .leaf (ints .u8 (upd (lin p a b k) m i cur))),.box false (D.arr 64 .leaf (ints .u8 b)),.box false (D.arr 64 .leaf (ints .u8 z))]⟩)
 | 0,i,cur,hi,hc,hs=>by
  obtain rfl:i=64:=by omega
  exact dn_stop (by simp -implicitDefEqProofs [Z39_L0,dn_cond,upd])
 | m+1,i,cur,hi,hc,hs=>by
  have hp:=IsP.pos (p:=p)
  have hp7:=IsP.le (p:=p)
  have hp0:p≠0:=by omega
  have hlt:i<cur.length:=by omega
  have hlb:i<b.length:=by omega
  have hi64:i<64:=by omega
  have hi64':(i:Int)<64:=by omega
  have hx:cur[i]=cf a i:=by rw [←cf_lt hlt]; exact hs i (Nat.le_refl i)
  have hy:b[i]=cf b i:=(cf_lt hlb).symm
  have ga:=ha i
  have gb:=hb i
  have gm:=mul_small (x:=k) (y:=cf b i) (b:=1000000) (c:=256) hk (by omega) (by omega)
  have w1:IntKind.i64.wrap (cf a i)=cf a i:=w64 (by omega)
  have w2:IntKind.i64.wrap (cf b i)=cf b i:=w64 (by omega)
  have w3:IntKind.i64.wrap (k*cf b i)=k*cf b i:=w64 (by omega)
  have w5:IntKind.i64.wrap (cf a i+k*cf b i)=cf a i+k*cf b i:=w64 (by omega)
  have hin:=tmod_in (n:=cf a i+k*cf b i) hp
  have w6:IntKind.i64.wrap ((cf a i+k*cf b i).tmod p+p)=(cf a i+k*cf b i).tmod p+p:=w64 (by omega)
  have w7:((cf a i+k*cf b i).tmod p+p).tmod p=lin p a b k i:=tmod_tmod hp
  have hlin:0≤lin p a b k i∧lin p a b k i<p:=⟨Int.emod_nonneg _ (by omega),Int.emod_lt_of_pos _ hp⟩
  have w8':IntKind.u8.wrap (lin p a b k i)=lin p a b k i:=w8 (by omega)
  have w4:IntKind.i64.wrap ((i:Int)+1)=((i+1:Nat):Int):=(w64 (x:=(i:Int)+1) (by omega)).trans (by omega)
  refine dn_round ?_ (t_add0 ha hb hbl hk m (i+1) (cur.set i (lin p a b k i)) (by omega) (by simpa using hc) (fun j hj=>by rw [cf_set,if_neg (by omega)]; exact hs j (by omega)))
  simp -implicitDefEqProofs [Z39_L0,dn_cond,hlt,hlb,hi64,hi64',hx,hy,w1,w2,w3,w5,w6,w7,w8',w4,hp0]
def T_sAdd (O:Oracle):Prop:=∀(p:Int) [IsP p] (a b:List Int) (k:Int),Arr a→Arr b→-1000000≤k→k≤1000000→∃c:Fp p,c.len≤64∧ask O F39 [(D.int .i64 p),(D.arr 64 .leaf (ints .u8 a)),(D.arr 64 .leaf (ints .u8 b)),(D.int .i64 k)]=some (D.arr 64 .leaf (ints .u8 (pad (row c))))
theorem t_sAdd (hT:T F39=some Z39):T_sAdd (den T A):=by
 intro p ip a b k ha hb hk hk'
 have hp:=IsP.pos (p:=p)
 have e:=t_add0 (O:=den T A) (p:=p) (z:=pad []) (bb_arr ha) (bb_arr hb) hb.1 ⟨hk,hk'⟩ 64 0 a (by omega) ha.1 (fun _ _=>rfl)
 have e0:((0:Nat):Int)=0:=rfl
 rw [e0,upd_all _ _ _ ha.1] at e
 have hcan:Can p ((List.range 64).map (lin p a b k)):=fun x hx=>by
  obtain ⟨j,_,rfl⟩:=List.mem_map.1 hx
  exact ⟨Int.emod_nonneg _ (by omega),Int.emod_lt_of_pos _ hp⟩
 have hl:((List.range 64).map (lin p a b k)).length=64:=by simp
 have hpad:=pad_of hcan hl
 refine ⟨polOf p ((List.range 64).map (lin p a b k)),?_,ask_of hT rfl ?_⟩
 ·exact Pol.len_le fun j hj=>by rw [polOf_c,cf_ge (by omega)]; rfl
 ·rw [←hpad]
  generalize (List.range 64).map (lin p a b k)=R at *
  simp -implicitDefEqProofs [Z39,Z39_B,e]
theorem t_div0 {O:Oracle} {p q by_:Int} [IsP p] {b quo z z':List Int} {i bl:Nat} (hq:0<q∧q<p) (hb:BB b) (hbl:b.length=64) (hn:i+bl≤64) (h0:0<bl):∀(m k:Nat) (cur:List Int),k+m=bl→cur.length=64→BB cur→∃cur':List Int,cur'.length=64∧BB cur' ∧
 dn O 0 (.loop Z3c_L0) ⟨[(0,(.d (.int .i64 p))),(4,.ptr 0 []),(5,.ptr 1 []),(6,.ptr 2 []),(7,.ptr 3 []),(8,.ptr 4 []),(9,(.d (.int .i64 ((bl:Int)-1)))),(10,(.d (.int .i64 by_))),(11,(.d (.int .i64 ((i:Int)+bl-1)))),(12,(.d (.int .i64 q))),(13,(.d (.int .i64 k)))],[.box false (D.arr 64 .leaf (ints .u8 cur)),.box false (D.arr 64 .leaf (ints .u8 b)),.box false (D.arr 64 .leaf (ints .u8 z)),.box false (D.arr 64 .leaf (ints .u8 z')),.box false (D.arr 64 .leaf (ints .u8 quo))]⟩ =
  some (.exit 2,⟨[(0,(.d (.int .i64 p))),(4,.ptr 0 []),(5,.ptr 1 []),(6,.ptr 2 []),(7,.ptr 3 []),(8,.ptr 4 []),(9,(.d (.int .i64 ((bl:Int)-1)))),(10,(.d (.int .i64 by_))),(11,(.d (.int .i64 ((i:Int)+bl-1)))),(12,(.d (.int .i64 q))),(13,(.d (.int .i64 bl))),(50,(.d (.bool false)))],[.box false (D.arr 64 .leaf (ints .u8 cur')),.box false (D.arr 64 .leaf (ints .u8 b)),.box false (D.arr 64 .leaf (ints .u8 z)),.box false (D.arr 64 .leaf (ints .u8 z')),.box false (D.arr 64 .leaf (ints .u8 quo))]⟩)
 | 0,k,cur,hk,hc,hcan=>by
  obtain rfl:k=bl:=by omega
  have h1:¬ (k:Int)≤(k:Int)-1:=by omega
  exact ⟨cur,hc,hcan,dn_stop (by simp -implicitDefEqProofs [Z3c_L0,dn_cond,h1])⟩
 | m+1,k,cur,hk,hc,hcan=>by
  have hp:=IsP.pos (p:=p)
  have hp7:=IsP.le (p:=p)
  have hp0:p≠0:=by omega
  have hq0:q≠0:=by omega
  have h1:(k:Int)≤(bl:Int)-1:=by omega
  have w1:IntKind.i64.wrap ((i:Int)+bl-1-(bl-1))=i:=(w64 (x:=(i:Int)+bl-1-(bl-1)) (by omega)).trans (by omega)
  have w2:IntKind.i64.wrap ((i:Int)+k)=((i+k:Nat):Int):=(w64 (x:=(i:Int)+k) (by omega)).trans (by omega)
  have hik:i+k<64:=by omega
  have hikc:i+k<cur.length:=by omega
  have hkb:k<b.length:=by omega
  have hk64:k<64:=by omega
  have hx:cur[i+k]=cf cur (i+k):=(cf_lt hikc).symm
  have hy:b[k]=cf b k:=(cf_lt hkb).symm
  have gc:=hcan (i+k)
  have gb:=hb k
  have gm:=mul_small (x:=q) (y:=cf b k) (b:=10) (c:=256) (by omega) (by omega) (by omega)
  have w3:IntKind.i64.wrap (cf cur (i+k))=cf cur (i+k):=w64 (by omega)
  have w5:IntKind.i64.wrap (cf b k)=cf b k:=w64 (by omega)
  have w6:IntKind.i64.wrap (q*cf b k)=q*cf b k:=w64 (by omega)
  have w7:IntKind.i64.wrap (cf cur (i+k)-q*cf b k)=cf cur (i+k)-q*cf b k:=w64 (by omega)
  have hin:=tmod_in (n:=cf cur (i+k)-q*cf b k) hp
  have w9:IntKind.i64.wrap ((cf cur (i+k)-q*cf b k).tmod p+p)=(cf cur (i+k)-q*cf b k).tmod p+p:=w64 (by omega)
  have w10:((cf cur (i+k)-q*cf b k).tmod p+p).tmod p=(cf cur (i+k)-q*cf b k)%p:=tmod_tmod hp
  have hlin:0≤(cf cur (i+k)-q*cf b k)%p∧(cf cur (i+k)-q*cf b k)%p<p:=⟨Int.emod_nonneg _ (by omega),Int.emod_lt_of_pos _ hp⟩
  have w11:IntKind.u8.wrap ((cf cur (i+k)-q*cf b k)%p)=(cf cur (i+k)-q*cf b k)%p:=w8 (by omega)
  have w4:IntKind.i64.wrap ((k:Int)+1)=((k+1:Nat):Int):=(w64 (x:=(k:Int)+1) (by omega)).trans (by omega)
  have t1:(0:Int)≤(i:Int)+k:=by omega
  have t2:((i:Int)+k).toNat=i+k:=by omega
  obtain ⟨cur',h2,h3,ih⟩:=t_div0 (O:=O) (by_:=by_) (quo:=quo) (z:=z) (z':=z') hq hb hbl hn h0 m (k+1) (cur.set (i+k) ((cf cur (i+k)-q*cf b k)%p)) (by omega) (by simpa using hc) (hcan.set hlin.1 (by omega) _)
  refine ⟨cur',h2,h3,dn_round ?_ ih⟩
  simp -implicitDefEqProofs [Z3c_L0,dn_cond,h1,hq0,w1,w2,hik,hikc,hkb,hk64,hx,hy,w3,w5,w6,w7,w9,w10,w11,w4,hp0,t1,t2]
theorem t_div1 {O:Oracle} {p by_:Int} [IsP p] {b:List Int} {bl:Nat} {z z':List Int} (hby:0≤by_∧by_<p) (hb:BB b) (hbl:b.length=64) (h0:0<bl):∀(c:Nat) (cur quo:List Int),c+bl≤65→cur.length=64→quo.length=64→BB cur→BB quo→∃(cur' quo':List Int) (n:Int),cur'.length=64∧BB cur'∧quo'.length=64∧BB quo' ∧
 dn O 0 (.loop Z3c_L1) ⟨[(0,(.d (.int .i64 p))),(4,.ptr 0 []),(5,.ptr 1 []),(6,.ptr 2 []),(7,.ptr 3 []),(8,.ptr 4 []),(9,(.d (.int .i64 ((bl:Int)-1)))),(10,(.d (.int .i64 by_))),(11,(.d (.int .i64 ((c:Int)+bl-2))))],[.box false (D.arr 64 .leaf (ints .u8 cur)),.box false (D.arr 64 .leaf (ints .u8 b)),.box false (D.arr 64 .leaf (ints .u8 z)),.box false (D.arr 64 .leaf (ints .u8 z')),.box false (D.arr 64 .leaf (ints .u8 quo))]⟩ =
  some (.exit 0,⟨[(0,(.d (.int .i64 p))),(4,.ptr 0 []),(5,.ptr 1 []),(6,.ptr 2 []),(7,.ptr 3 []),(8,.ptr 4 []),(9,(.d (.int .i64 ((bl:Int)-1)))),(10,(.d (.int .i64 by_))),(11,(.d (.int .i64 n))),(27,(.d (.bool false)))],[.box false (D.arr 64 .leaf (ints .u8 cur')),.box false (D.arr 64 .leaf (ints .u8 b)),.box false (D.arr 64 .leaf (ints .u8 z)),.box false (D.arr 64 .leaf (ints .u8 z')),.box false (D.arr 64 .leaf (ints .u8 quo'))]⟩)
 | 0,cur,quo,_,hc,hqo,hcan,hq2=>by
  have h1:¬ (bl:Int)-1≤(bl:Int)-2:=by omega
  have t0:((0:Nat):Int)+bl-2=(bl:Int)-2:=by omega
  rw [t0]
  exact ⟨cur,quo,(bl:Int)-2,hc,hcan,hqo,hq2,dn_stop (by simp -implicitDefEqProofs [Z3c_L1,dn_cond,h1])⟩
 | c+1,cur,quo,hcb,hc,hqo,hcan,hq2=>by
  have hp:=IsP.pos (p:=p)
  have hp7:=IsP.le (p:=p)
  have hp0:p≠0:=by omega
  have t0:((c+1:Nat):Int)+bl-2=(c:Int)+bl-1:=by omega
  rw [t0]
  have h1:(bl:Int)-1≤(c:Int)+bl-1:=by omega
  have hi64:c+bl-1<64:=by omega
  have hic:c+bl-1<cur.length:=by omega
  have t2:((c:Int)+bl-1).toNat=c+bl-1:=by omega
  have t3:(1:Int)≤(c:Int)+bl:=by omega
  have hx:cur[c+bl-1]=cf cur (c+bl-1):=(cf_lt hic).symm
  have gc:=hcan (c+bl-1)
  have gm:=mul_small (x:=cf cur (c+bl-1)) (y:=by_) (b:=256) (c:=10) (by omega) (by omega) (by omega)
  have w1:IntKind.i64.wrap (cf cur (c+bl-1))=cf cur (c+bl-1):=w64 (by omega)
  have w2:IntKind.i64.wrap (cf cur (c+bl-1)*by_)=cf cur (c+bl-1)*by_:=w64 (by omega)
  have w3:(cf cur (c+bl-1)*by_).tmod p=cf cur (c+bl-1)*by_%p:=Int.tmod_eq_emod_of_nonneg (Int.mul_nonneg gc.1 hby.1)
  have hq:0≤cf cur (c+bl-1)*by_%p∧cf cur (c+bl-1)*by_%p<p:=⟨Int.emod_nonneg _ hp0,Int.emod_lt_of_pos _ hp⟩
  have w4:IntKind.i64.wrap ((c:Int)+bl-1-(bl-1))=c:=(w64 (x:=(c:Int)+bl-1-(bl-1)) (by omega)).trans (by omega)
  have w5:IntKind.u8.wrap (cf cur (c+bl-1)*by_%p)=cf cur (c+bl-1)*by_%p:=w8 (by omega)
  have hc64:c<64:=by omega
  have hcq:c<quo.length:=by omega
  have w6:IntKind.i64.wrap ((c:Int)+bl-1-1)=(c:Int)+bl-2:=(w64 (x:=(c:Int)+bl-1-1) (by omega)).trans (by omega)
  generalize cf cur (c+bl-1)*by_%p=q at *
  have l0:∃(k:Int) (cur2:List Int),cur2.length=64∧BB cur2∧dn O 0 (.loop Z3c_L0) ⟨[(0,(.d (.int .i64 p))),(4,.ptr 0 []),(5,.ptr 1 []),(6,.ptr 2 []),(7,.ptr 3 []),(8,.ptr 4 []),(9,(.d (.int .i64 ((bl:Int)-1)))),(10,(.d (.int .i64 by_))),(11,(.d (.int .i64 ((c:Int)+bl-1)))),(12,(.d (.int .i64 q))),(13,(.d (.int .i64 0)))],[.box false (D.arr 64 .leaf (ints .u8 cur)),.box false (D.arr 64 .leaf (ints .u8 b)),.box false (D.arr 64 .leaf (ints .u8 z)),.box false (D.arr 64 .leaf (ints .u8 z')),.box false (D.arr 64 .leaf (ints .u8 (quo.set c q)))]⟩ =
   some (.exit 2,⟨[(0,(.d (.int .i64 p))),(4,.ptr 0 []),(5,.ptr 1 []),(6,.ptr 2 []),(7,.ptr 3 []),(8,.ptr 4 []),(9,(.d (.int .i64 ((bl:Int)-1)))),(10,(.d (.int .i64 by_))),(11,(.d (.int .i64 ((c:Int)+bl-1)))),(12,(.d (.int .i64 q))),(13,(.d (.int .i64 k))),(50,(.d (.bool false)))],[.box false (D.arr 64 .leaf (ints .u8 cur2)),.box false (D.arr 64 .leaf (ints .u8 b)),.box false (D.arr 64 .leaf (ints .u8 z)),.box false (D.arr 64 .leaf (ints .u8 z')),.box false (D.arr 64 .leaf (ints .u8 (quo.set c q)))]⟩):=by
   by_cases hq0:q=0
   ·subst hq0
    have h2:(1:Int)≤(bl:Int):=by omega
    exact ⟨0,cur,hc,hcan,dn_stop (by simp -implicitDefEqProofs [Z3c_L0,dn_cond,h2])⟩
   ·obtain ⟨cur2,g1,g2,g3⟩:=t_div0 (O:=O) (by_:=by_) (quo:=quo.set c q) (z:=z) (z':=z') (i:=c) (bl:=bl) ⟨by omega,hq.2⟩ hb hbl (by omega) h0 bl 0 cur (Nat.zero_add _) hc hcan
    exact ⟨_,cur2,g1,g2,g3⟩
  obtain ⟨k,cur2,c1,c2,l0⟩:=l0
  obtain ⟨cur',quo',n,e1,e2,e3,e4,ih⟩:=t_div1 (O:=O) (z:=z) (z':=z') hby hb hbl h0 c cur2 (quo.set c q) (by omega) c1 (by simpa using hqo) c2 (hq2.set hq.1 (by omega) _)
  refine ⟨cur',quo',n,e1,e2,e3,e4,dn_round ?_ ih⟩
  simp -implicitDefEqProofs [Z3c_L1,dn_cond,h1,hi64,hic,t2,t3,hx,w1,w2,w3,w4,w5,w6,hc64,hcq,hp0,l0]
def T_sDivide (O:Oracle):Prop:=∀(p:Int) [IsP p] (a:List Int) (b:Fp p),Arr a→b≠0→b.len≤64→∃q r:List Int,Arr q∧Arr r∧ask O F3c [(D.int .i64 p),(D.arr 64 .leaf (ints .u8 a)),(D.arr 64 .leaf (ints .u8 (pad (row b))))]=some (.tup [(D.arr 64 .leaf (ints .u8 q)),(D.arr 64 .leaf (ints .u8 r))])
theorem t_sDivide (hT:T F3c=some Z3c) (hdr:C_sDeg (den T A)) (hd:K_sDeg (den T A)) (hinv:K_sInverse (den T A)):T_sDivide (den T A):=by
 intro p ip a b ha hb hbl
 have hp:=IsP.ge (p:=p)
 have hp7:=IsP.le (p:=p)
 have hb0:=Pol.len_pos hb
 have e1:=hd p b hbl
 have e2:=hdr a ha.1
 have hr:=rep_in b.ld
 have hld:rep b.ld≠0:=fun h0=>Pol.ld_ne hb (rep_eq_zero.1 h0)
 have e3:=hinv p (rep b.ld) (by omega) hr.2
 have hin:=inv_in p (rep b.ld)
 have w1:IntKind.i64.wrap (inv p (rep b.ld))=inv p (rep b.ld):=w64 (by omega)
 have hbx:(pad (row b))[b.len-1]? = some (rep b.ld):=by rw [pad_get _ _ (by omega),row_cf]; rfl
 have hbx':((b.len:Int)-1).toNat=b.len-1:=by omega
 have hbx2:(1:Int)≤(b.len:Int):=by omega
 have hbx3:b.len-1<64:=by omega
 have htl:tlen a 64≤64:=tlen_le a 64
 have bz:BB (pad []):=fun j=>by rw [pad_cf (by simp),cf_ge (by simp)]; omega
 have lz:∃(cur' quo':List Int) (n:Int),cur'.length=64∧BB cur'∧quo'.length=64∧BB quo'∧dn (den T A) 0 (.loop Z3c_L1) ⟨[(0,(.d (.int .i64 p))),(4,.ptr 0 []),(5,.ptr 1 []),(6,.ptr 2 []),(7,.ptr 3 []),(8,.ptr 4 []),(9,(.d (.int .i64 ((b.len:Int)-1)))),(10,(.d (.int .i64 (inv p (rep b.ld))))),(11,(.d (.int .i64 ((tlen a 64:Int)-1))))],[.box false (D.arr 64 .leaf (ints .u8 a)),.box false (D.arr 64 .leaf (ints .u8 (pad (row b)))),.box false (D.arr 64 .leaf (ints .u8 (pad []))),.box false (D.arr 64 .leaf (ints .u8 (pad []))),.box false (D.arr 64 .leaf (ints .u8 (pad [])))]⟩ =
  some (.exit 0,⟨[(0,(.d (.int .i64 p))),(4,.ptr 0 []),(5,.ptr 1 []),(6,.ptr 2 []),(7,.ptr 3 []),(8,.ptr 4 []),(9,(.d (.int .i64 ((b.len:Int)-1)))),(10,(.d (.int .i64 (inv p (rep b.ld))))),(11,(.d (.int .i64 n))),(27,(.d (.bool false)))],[.box false (D.arr 64 .leaf (ints .u8 cur')),.box false (D.arr 64 .leaf (ints .u8 (pad (row b)))),.box false (D.arr 64 .leaf (ints .u8 (pad []))),.box false (D.arr 64 .leaf (ints .u8 (pad []))),.box false (D.arr 64 .leaf (ints .u8 quo'))]⟩):=by
  by_cases hlt:b.len≤tlen a 64
  ·obtain ⟨cur',quo',n,g1,g2,g3,g4,l1⟩:=t_div1 (O:=den T A) (b:=pad (row b)) (bl:=b.len) (z:=pad []) (z':=pad []) hin (bb_arr (arr_row b)) (pad_length _) hb0 (tlen a 64+1-b.len) a (pad []) (by omega) ha.1 (pad_length _) (bb_arr ha) bz
   rw [show ((tlen a 64+1-b.len:Nat):Int)+b.len-2=(tlen a 64:Int)-1 by omega] at l1
   exact ⟨cur',quo',n,g1,g2,g3,g4,l1⟩
  ·have h4:¬ (b.len:Int)-1≤(tlen a 64:Int)-1:=by omega
   exact ⟨a,pad [],(tlen a 64:Int)-1,ha.1,bb_arr ha,pad_length _,bz,dn_stop (by simp -implicitDefEqProofs [Z3c_L1,dn_cond,h4])⟩
 obtain ⟨cur',quo',n,g1,g2,g3,g4,lz⟩:=lz
 refine ⟨quo',cur',arr_bb g3 g4,arr_bb g1 g2,ask_of hT rfl ?_⟩
 generalize pad (row b)=Pb at *
 generalize (tlen a 64:Int)-1=ta at *
 simp -implicitDefEqProofs [Z3c,Z3c_B,e1,e2,e3,w1,hbx,hbx',hbx2,hbx3,lz,List.replicate]
def T_sMod (O:Oracle):Prop:=∀(p:Int) [IsP p] (a:List Int) (b:Fp p),Arr a→b≠0→b.len≤64→∃r:List Int,Arr r∧ask O F3m [(D.int .i64 p),(D.arr 64 .leaf (ints .u8 a)),(D.arr 64 .leaf (ints .u8 (pad (row b))))]=some (D.arr 64 .leaf (ints .u8 r))
theorem t_sMod (hT:T F3m=some Z3m) (hd:T_sDivide (den T A)):T_sMod (den T A):=by
 intro p ip a b ha hb hbl
 obtain ⟨q,r,h1,h2,e⟩:=hd p a b ha hb hbl
 refine ⟨r,h2,ask_of hT rfl ?_⟩
 generalize pad (row b)=Pb at *
 simp -implicitDefEqProofs [Z3m,Z3m_B,e,List.replicate]
theorem t_mm {O:Oracle} (hu:K_sUp O) (ha:T_sAdd O) (hmo:K_sMod O) {p:Int} [IsP p] {a b z:List Int} {m:Fp p} (hm:m≠0) (hml:m.len≤64) (haa:Arr a) (hbb:Arr b):∀(n:Nat) (c:Fp p),n≤64→c.len<m.len→∃c':Fp p,c'.len<m.len ∧
 dn O 0 (.loop Z3o_L0) ⟨[(0,(.d (.int .i64 p))),(5,.ptr 0 []),(6,.ptr 1 []),(7,.ptr 2 []),(8,.ptr 3 []),(9,.ptr 4 []),(10,(.d (.int .i64 ((n:Int)-1))))],[.box false (D.arr 64 .leaf (ints .u8 a)),.box false (D.arr 64 .leaf (ints .u8 b)),.box false (D.arr 64 .leaf (ints .u8 (pad (row m)))),.box false (D.arr 64 .leaf (ints .u8 z)),.box false (D.arr 64 .leaf (ints .u8 (pad (row c))))]⟩ =
  some (.exit 0,⟨[(0,(.d (.int .i64 p))),(5,.ptr 0 []),(6,.ptr 1 []),(7,.ptr 2 []),(8,.ptr 3 []),(9,.ptr 4 []),(10,(.d (.int .i64 (-1)))),(15,(.d (.bool false)))],[.box false (D.arr 64 .leaf (ints .u8 a)),.box false (D.arr 64 .leaf (ints .u8 b)),.box false (D.arr 64 .leaf (ints .u8 (pad (row m)))),.box false (D.arr 64 .leaf (ints .u8 z)),.box false (D.arr 64 .leaf (ints .u8 (pad (row c'))))]⟩)
 | 0,c,_,hc=>⟨c,hc,dn_stop (by simp -implicitDefEqProofs [Z3o_L0,dn_cond])⟩
 | n+1,c,hn,hc=>by
  have gb:=bb_arr hbb n
  have e1:=hu p c m hm hc hml
  obtain ⟨d,hd,e2⟩:=ha p (pad (row (Pol.X*c%m))) a (cf b n) (arr_row _) haa (by omega) (by omega)
  have e3:=hmo p d m hm hd hml
  have t0:(((n+1:Nat):Int)-1)=(n:Int):=by omega
  rw [t0]
  have hn64:n<64:=by omega
  have hnb:n<b.length:=by rw [hbb.1]; omega
  have hx:b[n]? = some (cf b n):=by rw [List.getElem?_eq_getElem hnb,cf_lt hnb]
  have w1:IntKind.i64.wrap (cf b n)=cf b n:=w64 (by omega)
  have w2:IntKind.i64.wrap ((n:Int)-1)=(n:Int)-1:=w64 (by omega)
  obtain ⟨c',h1,ih⟩:=t_mm hu ha hmo (z:=z) hm hml haa hbb n (d%m) (by omega) (Pol.len_mod _ hm)
  refine ⟨c',h1,dn_round ?_ ih⟩
  generalize pad (row (d%m))=R at *
  generalize pad (row d)=R1 at *
  generalize pad (row c)=R2 at *
  generalize pad (row (Pol.X*c%m))=R3 at *
  generalize pad (row m)=PM at *
  simp -implicitDefEqProofs [Z3o_L0,dn_cond,e1,e2,e3,hn64,hx,w1,w2]
def T_sMulMod (O:Oracle):Prop:=∀(p:Int) [IsP p] (a b:List Int) (m:Fp p),m≠0→m.len≤64→Arr a→Arr b→∃c:Fp p,c.len<m.len∧ask O F3o [(D.int .i64 p),(D.arr 64 .leaf (ints .u8 a)),(D.arr 64 .leaf (ints .u8 b)),(D.arr 64 .leaf (ints .u8 (pad (row m))))]=some (D.arr 64 .leaf (ints .u8 (pad (row c))))
theorem t_sMulMod (hT:T F3o=some Z3o) (hd:C_sDeg (den T A)) (hu:K_sUp (den T A)) (ha:T_sAdd (den T A)) (hmo:K_sMod (den T A)):T_sMulMod (den T A):=by
 intro p ip a b m hm hml haa hbb
 have e1:=hd b hbb.1
 have hmp:=Pol.len_pos hm
 obtain ⟨c,h1,e2⟩:=t_mm (O:=den T A) (z:=pad []) hu ha hmo hm hml haa hbb (tlen b 64) 0 (tlen_le b 64) (by rw [Pol.len_zero]; omega)
 rw [row_zero] at e2
 refine ⟨c,h1,ask_of hT rfl ?_⟩
 generalize pad (row c)=R at *
 generalize (tlen b 64:Int)-1=tb at *
 generalize pad (row m)=PM at *
 simp -implicitDefEqProofs [Z3o,Z3o_B,e1,e2]
theorem t_pw {O:Oracle} (hmm:T_sMulMod O) {p:Int} [IsP p] {m:Fp p} {z:List Int} (hm:m≠0) (hml:m.len≤64):∀(n:Nat) (k:Int) (out base:List Int),0≤k→k.toNat<2^n→k<4611686018427387904→Arr out→Arr base→∃out' base':List Int,Arr out' ∧
 dn O 0 (.loop Z3t_L0) ⟨[(0,(.d (.int .i64 p))),(2,(.d (.int .i64 k))),(7,.ptr 1 []),(8,.ptr 2 []),(9,.ptr 3 []),(10,.ptr 4 [])],[.hole,.box false (D.arr 64 .leaf (ints .u8 (pad (row m)))),.box false (D.arr 64 .leaf (ints .u8 z)),.box false (D.arr 64 .leaf (ints .u8 out)),.box false (D.arr 64 .leaf (ints .u8 base))]⟩ =
  some (.exit 0,⟨[(0,(.d (.int .i64 p))),(2,(.d (.int .i64 0))),(7,.ptr 1 []),(8,.ptr 2 []),(9,.ptr 3 []),(10,.ptr 4 []),(20,(.d (.bool false)))],[.hole,.box false (D.arr 64 .leaf (ints .u8 (pad (row m)))),.box false (D.arr 64 .leaf (ints .u8 z)),.box false (D.arr 64 .leaf (ints .u8 out')),.box false (D.arr 64 .leaf (ints .u8 base'))]⟩)
 | n,k,out,base,hk,hn,hkm,ho,hb=>by
  by_cases h0:k=0
  ·subst h0
   exact ⟨out,base,ho,dn_stop (by simp -implicitDefEqProofs [Z3t_L0,dn_cond])⟩
  ·cases n with
   | zero=>simp at hn; omega
   | succ n=>
    have hkp:0<k:=by omega
    obtain ⟨c1,-,t1⟩:=hmm p out base m hm hml ho hb
    obtain ⟨c2,-,t2⟩:=hmm p base base m hm hml hb hb
    have w1:IntKind.i64.wrap (k.tdiv 2)=k/2:=by rw [Int.tdiv_eq_ediv_of_nonneg hk,w64 (by omega)]
    have w2:k.tmod 2=k%2:=Int.tmod_eq_emod_of_nonneg hk
    by_cases hodd:k%2=1
    ·obtain ⟨o',b',h1,e⟩:=t_pw hmm (z:=z) hm hml n (k/2) (pad (row c1)) (pad (row c2)) (by omega) (by rw [Nat.pow_succ] at hn; omega) (by omega) (arr_row c1) (arr_row c2)
     refine ⟨o',b',h1,dn_round ?_ e⟩
     generalize pad (row c1)=R1 at *
     generalize pad (row c2)=R2 at *
     generalize pad (row m)=R5 at *
     simp -implicitDefEqProofs [Z3t_L0,dn_cond,hkp,t1,t2,w1,w2,hodd]
    ·obtain ⟨o',b',h1,e⟩:=t_pw hmm (z:=z) hm hml n (k/2) out (pad (row c2)) (by omega) (by rw [Nat.pow_succ] at hn; omega) (by omega) ho (arr_row c2)
     refine ⟨o',b',h1,dn_round ?_ e⟩
     generalize pad (row c2)=R2 at *
     generalize pad (row m)=R5 at *
     simp -implicitDefEqProofs [Z3t_L0,dn_cond,hkp,t2,w1,w2,hodd]
def T_sPowMod (O:Oracle):Prop:=∀(p:Int) [IsP p] (a:List Int) (k:Int) (m:Fp p),m≠0→Arr a→m.len≤64→0≤k→k<4611686018427387904→∃r:List Int,Arr r∧ask O F3t [(D.int .i64 p),(D.arr 64 .leaf (ints .u8 a)),(D.int .i64 k),(D.arr 64 .leaf (ints .u8 (pad (row m))))]=some (D.arr 64 .leaf (ints .u8 r))
theorem t_sPowMod (hT:T F3t=some Z3t) (h1:K_sOne (den T A)) (hmo:T_sMod (den T A)) (hmm:T_sMulMod (den T A)):T_sPowMod (den T A):=by
 intro p ip a k m hm ha hml hk hkm
 have e1:=h1 p
 obtain ⟨r1,a1,e2⟩:=hmo p (pad (row (1:Fp p))) m (arr_row _) hm hml
 obtain ⟨r2,a2,e3⟩:=hmo p a m ha hm hml
 obtain ⟨o,b,ao,st⟩:=t_pw (O:=den T A) hmm (z:=pad []) hm hml 62 k r1 r2 hk (by omega) hkm a1 a2
 refine ⟨o,ao,ask_of hT rfl ?_⟩
 generalize pad (row (1:Fp p))=P1 at *
 generalize pad (row m)=R5 at *
 simp -implicitDefEqProofs [Z3t,Z3t_B,e1,e2,e3,st,List.replicate]
theorem t_fr {O:Oracle} (hpw:T_sPowMod O) {p:Int} [IsP p] {m:Fp p} {z:List Int} (hm:m≠0) (hml:m.len≤64):∀(k:Nat) (a:List Int),k<1000000→Arr a→∃a':List Int,Arr a' ∧
 dn O 0 (.loop Z47_L0) ⟨[(0,(.d (.int .i64 p))),(5,.ptr 0 []),(7,.ptr 1 []),(8,.ptr 2 []),(9,(.d (.int .i64 k)))],[.box false (D.arr 64 .leaf (ints .u8 a)),.box false (D.arr 64 .leaf (ints .u8 (pad (row m)))),.box false (D.arr 64 .leaf (ints .u8 z))]⟩ =
  some (.exit 0,⟨[(0,(.d (.int .i64 p))),(5,.ptr 0 []),(7,.ptr 1 []),(8,.ptr 2 []),(9,(.d (.int .i64 0))),(15,(.d (.bool false)))],[.box false (D.arr 64 .leaf (ints .u8 a')),.box false (D.arr 64 .leaf (ints .u8 (pad (row m)))),.box false (D.arr 64 .leaf (ints .u8 z))]⟩)
 | 0,a,hk,ha=>by
  refine ⟨a,ha,dn_stop ?_⟩
  generalize pad (row m)=Pm at *
  simp -implicitDefEqProofs [Z47_L0,dn_cond]
 | k+1,a,hk,ha=>by
  have hp:=IsP.pos (p:=p)
  have hp7:=IsP.le (p:=p)
  have w4:IntKind.i64.wrap (((k+1:Nat):Int)-1)=(k:Int):=(w64 (x:=((k+1:Nat):Int)-1) (by omega)).trans (by omega)
  have hlt:(0:Int)<((k+1:Nat):Int):=by omega
  obtain ⟨r,ar,e1⟩:=hpw p a p m hm ha hml (by omega) (by omega)
  obtain ⟨a',h1,ih⟩:=t_fr hpw (z:=z) hm hml k r (by omega) ar
  refine ⟨a',h1,dn_round ?_ ih⟩
  generalize ((k+1:Nat):Int)=k1 at *
  generalize pad (row m)=Pm at *
  simp -implicitDefEqProofs [Z47_L0,dn_cond,hlt,e1,w4]
def T_sFrob (O:Oracle):Prop:=∀(p:Int) [IsP p] (m:Fp p) (a:List Int) (k:Nat),2≤m.len→m.len≤64→Arr a→k<1000000→∃r:List Int,Arr r∧ask O F47 [(D.int .i64 p),(D.arr 64 .leaf (ints .u8 a)),(D.int .i64 k),(D.arr 64 .leaf (ints .u8 (pad (row m))))]=some (D.arr 64 .leaf (ints .u8 r))
theorem t_sFrob (hT:T F47=some Z47) (hpw:T_sPowMod (den T A)) (hdg:K_sDeg (den T A)):T_sFrob (den T A):=by
 intro p ip m a k h2 hml ha hk
 have hm:m≠0:=fun h=>by rw [h,Pol.len_zero] at h2; omega
 have e1:=hdg p m hml
 rw [show ((m.len:Int)-1)=((m.len-1:Nat):Int) by omega] at e1
 have hlt:=Nat.mod_lt k (show 0<m.len-1 by omega)
 obtain ⟨r,ar,e2⟩:=t_fr (O:=den T A) (z:=pad []) hpw hm hml (k%(m.len-1)) a (by omega) ha
 have w1:(k:Int).tmod ((m.len-1:Nat):Int)=((k%(m.len-1):Nat):Int):=by rw [Int.tmod_eq_emod_of_nonneg (by omega)]; rfl
 have h0:((m.len-1:Nat):Int)≠0:=by omega
 refine ⟨r,ar,ask_of hT rfl ?_⟩
 generalize ((k%(m.len-1):Nat):Int)=n1 at *
 generalize ((m.len-1:Nat):Int)=m1 at *
 generalize pad (row m)=Pm at *
 simp -implicitDefEqProofs [Z47,Z47_B,e1,e2,w1,h0,List.replicate]
end Pe

namespace Pe
open Go Gq
variable {T:Nat→Option Fn} {A:Oracle}
theorem sk_at {ls:List (List Int)} (h:Sk8 ls) {i:Nat} (hi:i<8):∃l:List Int,Arr l∧l∈ls∧∀h:i<(ls.map arr8).length,(ls.map arr8)[i]'h=(D.arr 64 .leaf (ints .u8 l)):=by
 have hlt:i<ls.length:=by rw [h.2]; exact hi
 have hm:=List.getElem_mem hlt
 exact ⟨ls[i],h.1 _ hm,hm,fun h=>by rw [List.getElem_map]⟩
theorem sk_set {ls:List (List Int)} (h:Sk8 ls) {l:List Int} (hl:Arr l) (i:Nat):Sk8 (ls.set i l):=
 ⟨fun x hx=>by
  rcases List.mem_or_eq_of_mem_set hx with g | rfl
  ·exact h.1 x g
  ·exact hl,by rw [List.length_set]; exact h.2⟩
theorem t_dg8 {O:Oracle} {ls:List (List Int)} (h:Sk8 ls):∀n:Nat,n≤8→∃k:Nat,k≤n ∧
 dn O 0 (.loop Z41_L0) ⟨[(1,.ptr 0 []),(3,(.d (.int .i64 ((n:Int)-1))))],[.box false (.arr 8 (.arr 64 .leaf) (ls.map arr8))]⟩ =
  some (.exit 0,⟨[(1,.ptr 0 []),(3,(.d (.int .i64 ((k:Int)-1)))),(12,(.d (.bool false)))],[.box false (.arr 8 (.arr 64 .leaf) (ls.map arr8))]⟩)
 | 0,_=>by
  refine ⟨0,Nat.le_refl _,dn_stop ?_⟩
  generalize ls.map arr8=LD at *
  simp -implicitDefEqProofs [Z41_L0,dn_cond]
 | n+1,hn=>by
  have hi8:n<8:=by omega
  obtain ⟨l,al,-,hx2⟩:=sk_at h hi8
  have hL:(ls.map arr8).length=8:=by rw [List.length_map]; exact h.2
  have e4:=beq_P al.1 (pad_length [])
  have t0:((n+1:Nat):Int)-1=(n:Int):=by omega
  have w1:IntKind.i64.wrap ((n:Int)-1)=(n:Int)-1:=w64 (by omega)
  rw [t0]
  by_cases hz:l=pad []
  ·rw [decide_eq_true hz] at e4
   obtain ⟨k,hk,ih⟩:=t_dg8 (O:=O) h n (by omega)
   refine ⟨k,by omega,dn_round ?_ ih⟩
   generalize ls.map arr8=LD at *
   simp -implicitDefEqProofs [Z41_L0,dn_cond,hi8,hL,hx2,e4,w1]
  ·rw [decide_eq_false hz] at e4
   refine ⟨n+1,Nat.le_refl _,?_⟩
   rw [t0]
   refine dn_stop ?_
   generalize ls.map arr8=LD at *
   simp -implicitDefEqProofs [Z41_L0,dn_cond,hi8,hL,hx2,e4]
def T_sSkDeg (O:Oracle):Prop:=∀ls:List (List Int),Sk8 ls→∃k:Nat,k≤8∧ask O F41 [.arr 8 (.arr 64 .leaf) (ls.map arr8)]=some (D.int .i64 ((k:Int)-1))
theorem t_sSkDeg (hT:T F41=some Z41):T_sSkDeg (den T A):=by
 intro ls h
 obtain ⟨k,hk,e⟩:=t_dg8 (O:=den T A) h 8 (Nat.le_refl _)
 rw [show ((8:Nat):Int)-1=7 from rfl] at e
 refine ⟨k,hk,ask_of hT rfl ?_⟩
 generalize ls.map arr8=LD at *
 simp -implicitDefEqProofs [Z41,Z41_B,e]
theorem t_by0 {O:Oracle} (hfr:T_sFrob O) (hmm:T_sMulMod O) (had:T_sAdd O) {p:Int} [IsP p] {m:Fp p} {F G:List (List Int)} {z:List D} {vn:V} (hvn:vn.refs=[]) (h2:2≤m.len) (hml:m.len≤64) (hF:Sk8 F) (hG:Sk8 G) {i nb:Nat} (hi:i<8) (hnb:i+nb≤8) (hnb1:1≤nb):∀(r j:Nat) (Q:List (List Int)),j+r=nb→Sk8 Q→∃Q':List (List Int),Sk8 Q' ∧
 dn O 0 (.loop Z4f_L0) ⟨[(0,(.d (.int .i64 p))),(5,.ptr 0 []),(6,.ptr 1 []),(7,.ptr 2 []),(8,.ptr 3 []),(10,vn),(11,(.d (.int .i64 (((nb-1:Nat):Int))))),(12,.ptr 4 []),(13,(.d (.int .i64 i))),(14,(.d (.int .i64 j)))],[.box false (D.arr 64 .leaf (ints .u8 (pad (row m)))),.box false (.arr 8 (.arr 64 .leaf) (F.map arr8)),.box false (.arr 8 (.arr 64 .leaf) (G.map arr8)),.box false (.arr 8 (.arr 64 .leaf) z),.box false (.arr 8 (.arr 64 .leaf) (Q.map arr8)),.hole]⟩ =
  some (.exit 2,⟨[(0,(.d (.int .i64 p))),(5,.ptr 0 []),(6,.ptr 1 []),(7,.ptr 2 []),(8,.ptr 3 []),(10,vn),(11,(.d (.int .i64 (((nb-1:Nat):Int))))),(12,.ptr 4 []),(13,(.d (.int .i64 i))),(14,(.d (.int .i64 nb))),(40,(.d (.bool false)))],[.box false (D.arr 64 .leaf (ints .u8 (pad (row m)))),.box false (.arr 8 (.arr 64 .leaf) (F.map arr8)),.box false (.arr 8 (.arr 64 .leaf) (G.map arr8)),.box false (.arr 8 (.arr 64 .leaf) z),.box false (.arr 8 (.arr 64 .leaf) (Q'.map arr8)),.hole]⟩)
 | 0,j,Q,hj,hQ=>by
  obtain rfl:j=nb:=by omega
  have hlt:¬ (j:Int)≤((j-1:Nat):Int):=by omega
  refine ⟨Q,hQ,dn_stop ?_⟩
  generalize ((j-1:Nat):Int)=k1 at *
  generalize F.map arr8=LS at *
  generalize G.map arr8=LR at *
  generalize Q.map arr8=LQ at *
  generalize pad (row m)=Pm at *
  simp -implicitDefEqProofs [Z4f_L0,dn_cond,hlt,hvn]
 | r+1,j,Q,hj,hQ=>by
  have hm:m≠0:=fun h=>by rw [h,Pol.len_zero] at h2; omega
  have hj8:j<8:=by omega
  have hij:i+j<8:=by omega
  obtain ⟨f,af,-,hxS⟩:=sk_at hF hi
  obtain ⟨g,ag,-,hxR⟩:=sk_at hG hj8
  obtain ⟨q,aq,-,hxQ⟩:=sk_at hQ hij
  have hle:(j:Int)≤((nb-1:Nat):Int):=by omega
  have w0:IntKind.i64.wrap ((i:Int)+j)=((i+j:Nat):Int):=(w64 (x:=(i:Int)+j) (by omega)).trans (by omega)
  have hs0:(0:Int)≤(i:Int)+j:=by omega
  have hs1:((i:Int)+j).toNat=i+j:=by omega
  have w4:IntKind.i64.wrap ((j:Int)+1)=((j+1:Nat):Int):=(w64 (x:=(j:Int)+1) (by omega)).trans (by omega)
  obtain ⟨x1,a1,e1⟩:=hfr p m g i h2 hml ag (by omega)
  obtain ⟨c2,-,e2⟩:=hmm p f x1 m hm hml af a1
  obtain ⟨c3,-,e3⟩:=had p q (pad (row c2)) 1 aq (arr_row c2) (by omega) (by omega)
  obtain ⟨Q',g1,ih⟩:=t_by0 hfr hmm had (z:=z) hvn h2 hml hF hG hi hnb hnb1 r (j+1) (Q.set (i+j) (pad (row c3))) (by omega) (sk_set hQ (arr_row c3) _)
  refine ⟨Q',g1,dn_round ?_ ih⟩
  rw [List.map_set]
  have hLS:(F.map arr8).length=8:=by rw [List.length_map]; exact hF.2
  have hLR:(G.map arr8).length=8:=by rw [List.length_map]; exact hG.2
  have hLQ:(Q.map arr8).length=8:=by rw [List.length_map]; exact hQ.2
  show _=some (_,(⟨_,[_,_,_,_,.box false (.arr 8 (.arr 64 .leaf) ((Q.map arr8).set (i+j) (D.arr 64 .leaf (ints .u8 (pad (row c3)))))),_]⟩:St))
  generalize pad (row c3)=P1 at *
  generalize pad (row c2)=P2 at *
  generalize F.map arr8=LS at *
  generalize G.map arr8=LR at *
  generalize Q.map arr8=LQ at *
  generalize pad (row m)=Pm at *
  generalize ((nb-1:Nat):Int)=k1 at *
  simp -implicitDefEqProofs [Z4f_L0,dn_cond,hle,hi,hj8,hij,hs0,hs1,hLS,hLR,hLQ,hxS,hxR,hxQ,e1,e2,e3,w0,w4,hvn]
theorem t_by1 {O:Oracle} (hfr:T_sFrob O) (hmm:T_sMulMod O) (had:T_sAdd O) {p:Int} [IsP p] {m:Fp p} {F G:List (List Int)} {z:List D} (h2:2≤m.len) (hml:m.len≤64) (hF:Sk8 F) (hG:Sk8 G) {na nb:Nat} (hnb:1≤nb) (hab:na+nb≤9):∀(r i:Nat) (Q:List (List Int)),i+r=na→Sk8 Q→∃Q':List (List Int),Sk8 Q' ∧
 dn O 0 (.loop Z4f_L1) ⟨[(0,(.d (.int .i64 p))),(5,.ptr 0 []),(6,.ptr 1 []),(7,.ptr 2 []),(8,.ptr 3 []),(10,(.d (.int .i64 ((na:Int)-1)))),(11,(.d (.int .i64 (((nb-1:Nat):Int))))),(12,.ptr 4 []),(13,(.d (.int .i64 i)))],[.box false (D.arr 64 .leaf (ints .u8 (pad (row m)))),.box false (.arr 8 (.arr 64 .leaf) (F.map arr8)),.box false (.arr 8 (.arr 64 .leaf) (G.map arr8)),.box false (.arr 8 (.arr 64 .leaf) z),.box false (.arr 8 (.arr 64 .leaf) (Q.map arr8)),.hole]⟩ =
  some (.exit 0,⟨[(0,(.d (.int .i64 p))),(5,.ptr 0 []),(6,.ptr 1 []),(7,.ptr 2 []),(8,.ptr 3 []),(10,(.d (.int .i64 ((na:Int)-1)))),(11,(.d (.int .i64 (((nb-1:Nat):Int))))),(12,.ptr 4 []),(13,(.d (.int .i64 na))),(35,(.d (.bool false)))],[.box false (D.arr 64 .leaf (ints .u8 (pad (row m)))),.box false (.arr 8 (.arr 64 .leaf) (F.map arr8)),.box false (.arr 8 (.arr 64 .leaf) (G.map arr8)),.box false (.arr 8 (.arr 64 .leaf) z),.box false (.arr 8 (.arr 64 .leaf) (Q'.map arr8)),.hole]⟩)
 | 0,i,Q,hi,hQ=>by
  obtain rfl:i=na:=by omega
  have hlt:¬ (i:Int)≤(i:Int)-1:=by omega
  refine ⟨Q,hQ,dn_stop ?_⟩
  generalize ((nb-1:Nat):Int)=k2 at *
  generalize F.map arr8=LS at *
  generalize G.map arr8=LR at *
  generalize Q.map arr8=LQ at *
  generalize pad (row m)=Pm at *
  simp -implicitDefEqProofs [Z4f_L1,dn_cond,hlt]
 | r+1,i,Q,hi,hQ=>by
  have hle:(i:Int)≤(na:Int)-1:=by omega
  have w4:IntKind.i64.wrap ((i:Int)+1)=((i+1:Nat):Int):=(w64 (x:=(i:Int)+1) (by omega)).trans (by omega)
  obtain ⟨Q2,g1,e1⟩:=t_by0 (O:=O) hfr hmm had (z:=z) (vn:=(.d (.int .i64 ((na:Int)-1)))) rfl h2 hml hF hG (i:=i) (nb:=nb) (by omega) (by omega) hnb nb 0 Q (Nat.zero_add _) hQ
  rw [show ((0:Nat):Int)=0 from rfl] at e1
  obtain ⟨Q',g2,ih⟩:=t_by1 hfr hmm had (z:=z) h2 hml hF hG hnb hab r (i+1) Q2 (by omega) g1
  refine ⟨Q',g2,dn_round ?_ ih⟩
  generalize Q2.map arr8=LQ2 at *
  generalize F.map arr8=LS at *
  generalize G.map arr8=LR at *
  generalize Q.map arr8=LQ at *
  generalize pad (row m)=Pm at *
  generalize ((nb-1:Nat):Int)=k1 at *
  generalize (na:Int)-1=k2 at *
  simp -implicitDefEqProofs [Z4f_L1,dn_cond,hle,e1,w4]
theorem sk_zero:Sk8 (List.replicate 8 (pad [])):=⟨fun x hx=>by
 rw [List.eq_of_mem_replicate hx]
 refine ⟨pad_length _,fun y hy=>?_⟩
 unfold pad at hy
 obtain ⟨a,_,rfl⟩:∃a,a<64∧cf [] a=y:=by simpa using hy
 rw [cf_ge (Nat.zero_le _)]
 omega,rfl⟩
def T_sTimes3 (O:Oracle):Prop:=∀(p:Int) [IsP p] (m:Fp p) (F G:List (List Int)),2≤m.len→m.len≤64→Sk8 F→Sk8 G→∃(Q:List (List Int)) (b:Bool),Sk8 Q∧ask O F4f [(D.int .i64 p),(D.arr 64 .leaf (ints .u8 (pad (row m)))),skwD F,skwD G]=some (.tup [skwD Q,(D.bool b)])
theorem t_sTimes3 (hT:T F4f=some Z4f) (hdg:T_sSkDeg (den T A)) (hfr:T_sFrob (den T A)) (hmm:T_sMulMod (den T A)) (had:T_sAdd (den T A)):T_sTimes3 (den T A):=by
 intro p ip m F G h2 hml hF hG
 obtain ⟨na,l1,e1⟩:=hdg F hF
 obtain ⟨nb,l2,e2⟩:=hdg G hG
 have w1:IntKind.i64.wrap ((na:Int)-1+(nb-1))=(na:Int)-1+(nb-1):=w64 (by omega)
 have hzz:(List.replicate 8 (pad [])).map arr8=z8:=rfl
 rw [show skwD F=.arr 8 (.arr 64 .leaf) (F.map arr8) from rfl,show skwD G=.arr 8 (.arr 64 .leaf) (G.map arr8) from rfl]
 by_cases h0:na=0∨nb=0
 ·refine ⟨List.replicate 8 (pad []),true,sk_zero,ask_of hT rfl ?_⟩
  show _=some (D.tup [.arr 8 (.arr 64 .leaf) ((List.replicate 8 (pad [])).map arr8),(D.bool true)])
  rw [hzz]
  rcases h0 with rfl | rfl
  ·generalize F.map arr8=LS at *
   generalize G.map arr8=LR at *
   generalize pad (row m)=Pm at *
   simp -implicitDefEqProofs [Z4f,Z4f_B,dn_cond,e1,e2,List.replicate]
  ·generalize F.map arr8=LS at *
   generalize G.map arr8=LR at *
   generalize pad (row m)=Pm at *
   by_cases hn:na=0
   ·subst hn
    simp -implicitDefEqProofs [Z4f,Z4f_B,dn_cond,e1,e2,List.replicate]
   ·have hlt:¬ ((na:Int)-1<0):=by omega
    simp -implicitDefEqProofs [Z4f,Z4f_B,dn_cond,e1,e2,hlt,List.replicate]
 ·have a2:((nb:Int)-1)=((nb-1:Nat):Int):=by omega
  rw [a2] at w1 e2
  have hn1:¬ (na:Int)-1<0:=by omega
  have hn2:¬ ((nb-1:Nat):Int)<0:=by omega
  by_cases h9:9<na+nb
  ·refine ⟨List.replicate 8 (pad []),false,sk_zero,ask_of hT rfl ?_⟩
   show _=some (D.tup [.arr 8 (.arr 64 .leaf) ((List.replicate 8 (pad [])).map arr8),(D.bool false)])
   rw [hzz]
   have hgt:(7:Int)<(na:Int)-1+((nb-1:Nat):Int):=by omega
   generalize F.map arr8=LS at *
   generalize G.map arr8=LR at *
   generalize pad (row m)=Pm at *
   generalize (na:Int)-1=k1 at *
   generalize ((nb-1:Nat):Int)=k2 at *
   simp -implicitDefEqProofs [Z4f,Z4f_B,dn_cond,e1,e2,w1,hgt,hn1,hn2,List.replicate]
  ·have hgt:¬ (7:Int)<(na:Int)-1+((nb-1:Nat):Int):=by omega
   obtain ⟨Q,hQ,e3⟩:=t_by1 (O:=den T A) hfr hmm had (z:=z8) h2 hml hF hG (na:=na) (nb:=nb) (by omega) (by omega) na 0 (List.replicate 8 (pad [])) (Nat.zero_add _) sk_zero
   rw [show ((0:Nat):Int)=0 from rfl,hzz] at e3
   refine ⟨Q,true,hQ,ask_of hT rfl ?_⟩
   show _=some (D.tup [.arr 8 (.arr 64 .leaf) (Q.map arr8),(D.bool true)])
   generalize Q.map arr8=LQ at *
   generalize F.map arr8=LS at *
   generalize G.map arr8=LR at *
   generalize pad (row m)=Pm at *
   generalize (na:Int)-1=k1 at *
   generalize ((nb-1:Nat):Int)=k2 at *
   simp -implicitDefEqProofs [Z4f,Z4f_B,dn_cond,e1,e2,e3,w1,hgt,hn1,hn2,List.replicate]
end Pe

namespace Pe
open Go Gq
variable {T:Nat→Option Fn} {A:Oracle}
end Pe

namespace Pe
open Go Gq
variable {T:Nat→Option Fn} {A:Oracle}
theorem arr_set {l:List Int} (h:Arr l) {x:Int} (h0:0≤x) (h1:x<256) (i:Nat):Arr (l.set i x):=
 ⟨by rw [List.length_set]; exact h.1,fun z hz=>by
  rcases List.mem_or_eq_of_mem_set hz with g | rfl
  ·exact h.2 z g
  ·exact ⟨h0,h1⟩⟩
end Pe

namespace Pe
open Go Gq
variable {T:Nat→Option Fn} {A:Oracle}
open Classical in
theorem l_df3 {O:Oracle} (hn:H_next O F3q) (hm:H_drawMod O) (hir:K_sIrr O) {p:Int} [IsP p] {z:List Int}:∀(r k:Nat) (b:Blk),k+r=6→Src b→∃b':Blk,Src b' ∧
 (dn O 1 (.loop Z44_L0) ⟨[(0,.ptr 0 []),(3,.ptr 1 []),(4,(.d (.int .i64 p))),(5,(.d (.int .i64 k)))],[b,.box false (D.arr 64 .leaf (ints .u8 z)),.hole]⟩ =
  some (.exit 0,⟨[(0,.ptr 0 []),(3,.ptr 1 []),(4,(.d (.int .i64 p))),(5,(.d (.int .i64 6))),(10,(.d (.bool false)))],[b',.box false (D.arr 64 .leaf (ints .u8 z)),.hole]⟩) ∨
 ∃m:List Int,Arr m∧dn O 1 (.loop Z44_L0) ⟨[(0,.ptr 0 []),(3,.ptr 1 []),(4,(.d (.int .i64 p))),(5,(.d (.int .i64 k)))],[b,.box false (D.arr 64 .leaf (ints .u8 z)),.hole]⟩ =
  some (.ret,⟨[(2,(.d (.int .i64 p))),(3,.ptr 1 [])],[b',.box false (D.arr 64 .leaf (ints .u8 m)),.hole]⟩))
 | 0,k,b,hk,hs=>by
  obtain rfl:k=6:=by omega
  refine ⟨b,hs,.inl (dn_stop ?_)⟩
  obtain ⟨c,a,h,rfl,_⟩:=hs
  simp -implicitDefEqProofs [Z44_L0,dn_cond]
 | r+1,k,b,hk,hs=>by
  have hk6:(k:Int)<6:=by omega
  obtain ⟨m,b1,e1,hs1,m2,m5,mm⟩:=hm p b 4 hs (by omega) (by omega)
  have e2:=hir p m mm.2 (by omega)
  have w4:IntKind.i64.wrap ((k:Int)+1)=((k+1:Nat):Int):=(w64 (x:=(k:Int)+1) (by omega)).trans (by omega)
  by_cases hI:Irr m
  ·rw [decide_eq_true hI] at e2
   obtain ⟨x,b2,e3,hs2,-,-⟩:=hn b1 40 hs1 (by omega)
   have am:=arr_row m
   by_cases hx:x=0
   ·obtain ⟨y,b3,e4,hs3,y0,y1⟩:=hn b2 5 hs2 (by omega)
    obtain ⟨j,rfl⟩:∃j:Nat,y=j:=⟨y.toNat,by omega⟩
    obtain ⟨v,b4,e5,hs4,v0,v1⟩:=hn b3 8 hs3 (by omega)
    have w1:IntKind.u8.wrap v=v:=w8 (by omega)
    have hj64:j<64:=by omega
    have hml:=am.1
    refine ⟨b4,hs4,.inr ⟨(pad (row m)).set j v,arr_set am (by omega) (by omega) j,dn_back ?_⟩⟩
    obtain ⟨_,_,_,rfl,_⟩:=hs
    obtain ⟨_,_,_,rfl,_⟩:=hs1
    obtain ⟨_,_,_,rfl,_⟩:=hs2
    obtain ⟨_,_,_,rfl,_⟩:=hs3
    obtain ⟨_,_,_,rfl,_⟩:=hs4
    generalize pad (row m)=Pm at *
    simp -implicitDefEqProofs [Z44_L0,dn_cond,hk6,e1,e2,e3,e4,e5,hx,w1,hj64,hml,List.idxOf,List.findIdx,List.findIdx.go]
   ·refine ⟨b2,hs2,.inr ⟨pad (row m),am,dn_back ?_⟩⟩
    obtain ⟨_,_,_,rfl,_⟩:=hs
    obtain ⟨_,_,_,rfl,_⟩:=hs1
    obtain ⟨_,_,_,rfl,_⟩:=hs2
    generalize pad (row m)=Pm at *
    simp -implicitDefEqProofs [Z44_L0,dn_cond,hk6,e1,e2,e3,hx,List.idxOf,List.findIdx,List.findIdx.go]
  ·rw [decide_eq_false hI] at e2
   obtain ⟨b',hs',ih⟩:=l_df3 hn hm hir (p:=p) (z:=z) r (k+1) b1 (by omega) hs1
   have key:dn O 1 Z44_L0 ⟨[(0,.ptr 0 []),(3,.ptr 1 []),(4,(.d (.int .i64 p))),(5,(.d (.int .i64 k)))],[b,.box false (D.arr 64 .leaf (ints .u8 z)),.hole]⟩=some (.normal,⟨[(0,.ptr 0 []),(3,.ptr 1 []),(4,(.d (.int .i64 p))),(5,(.d (.int .i64 (((k+1:Nat):Int)))))],[b1,.box false (D.arr 64 .leaf (ints .u8 z)),.hole]⟩):=by
    obtain ⟨_,_,_,rfl,_⟩:=hs
    obtain ⟨_,_,_,rfl,_⟩:=hs1
    generalize pad (row m)=Pm at *
    simp -implicitDefEqProofs [Z44_L0,dn_cond,hk6,e1,e2,w4,List.idxOf,List.findIdx,List.findIdx.go]
   exact ⟨b',hs',ih.imp (dn_round key) (fun ⟨m,h1,h2⟩=>⟨m,h1,dn_round key h2⟩)⟩
def H_l03DrawField (O:Oracle):Prop:=∀b:Blk,Src b→∃(p:Int) (m:List Int) (b':Blk),O F44 [.ptr 0 []] [b]=some (.tup [(.d (.int .i64 p)),.d (D.arr 64 .leaf (ints .u8 m))],[b'],[])∧Src b'∧IsP p∧Arr m
theorem h_l03DrawField (hT:T F44=some Z44) (hpr:H_drawPrime (den T A)) (hn:H_next (den T A) F3q) (hm:H_drawMod (den T A)) (hir:K_sIrr (den T A)) (ht:K_sT (den T A)):H_l03DrawField (den T A):=by
 intro b hs
 obtain ⟨p,b1,e1,hs1,ip⟩:=hpr b hs
 have e0:=ht p
 obtain ⟨b',hs',st⟩:=l_df3 (O:=den T A) hn hm hir (p:=p) (z:=pad []) 6 0 b1 rfl hs1
 rw [show ((0:Nat):Int)=0 from rfl] at st
 rcases st with st | ⟨m,am,st⟩
 ·refine ⟨p,pad (row (Pol.X:Fp p)),b',den_of hT rfl ?_,hs',ip,arr_row _⟩
  obtain ⟨_,_,_,rfl,_⟩:=hs
  obtain ⟨_,_,_,rfl,_⟩:=hs1
  obtain ⟨_,_,_,rfl,_⟩:=hs'
  generalize pad (row (Pol.X:Fp p))=PX at *
  simp -implicitDefEqProofs [Z44,Z44_B,e0,e1,st,List.replicate,List.idxOf,List.findIdx,List.findIdx.go]
 ·refine ⟨p,m,b',den_of hT rfl ?_,hs',ip,am⟩
  obtain ⟨_,_,_,rfl,_⟩:=hs
  obtain ⟨_,_,_,rfl,_⟩:=hs1
  obtain ⟨_,_,_,rfl,_⟩:=hs'
  simp -implicitDefEqProofs [Z44,Z44_B,e1,st,List.replicate,List.idxOf,List.findIdx,List.findIdx.go]
def H_l03DrawResidue (O:Oracle):Prop:=∀(p:Int) [IsP p] (m:List Int) (b:Blk),Src b→Arr m→∃(a:List Int) (b':Blk),O F45 [.ptr 0 [],(.d (.int .i64 p)),.d (D.arr 64 .leaf (ints .u8 m))] [b]=some (.d (D.arr 64 .leaf (ints .u8 a)),[b'],[])∧Src b'∧Arr a
theorem h_l03DrawResidue (hT:T F45=some Z45) (hdr:C_sDeg (den T A)) (hd:H_draw (den T A)) (hn:H_next (den T A) F3q):H_l03DrawResidue (den T A):=by
 intro p ip m b hs am
 have e1:=hdr m am.1
 have htl:tlen m 64≤64:=tlen_le m 64
 have w1:IntKind.i64.wrap ((tlen m 64:Int)-1-1)=(tlen m 64:Int)-1-1:=w64 (by omega)
 obtain ⟨n,hn2,hn62⟩:∃n:Nat,(n:Int)=(if (tlen m 64:Int)-1-1<0 then 0 else (tlen m 64:Int)-1-1)∧n≤62:=by
  split
  ·exact ⟨0,rfl,by omega⟩
  ·exact ⟨tlen m 64-2,by omega,by omega⟩
 obtain ⟨a,b1,e2,hs1,-⟩:=hd p b n hs (by omega)
 rw [hn2] at e2
 obtain ⟨x,b2,e3,hs2,-,-⟩:=hn b1 60 hs1 (by omega)
 have aa:=arr_row a
 by_cases hx:x=0
 ·obtain ⟨y,b3,e4,hs3,y0,y1⟩:=hn b2 8 hs2 (by omega)
  obtain ⟨j,rfl⟩:∃j:Nat,y=j:=⟨y.toNat,by omega⟩
  obtain ⟨v,b4,e5,hs4,v0,v1⟩:=hn b3 7 hs3 (by omega)
  have w2:IntKind.u8.wrap v=v:=w8 (by omega)
  have hj64:j<64:=by omega
  have hal:=aa.1
  refine ⟨(pad (row a)).set j v,b4,den_of hT rfl ?_,hs4,arr_set aa (by omega) (by omega) j⟩
  obtain ⟨_,_,_,rfl,_⟩:=hs
  obtain ⟨_,_,_,rfl,_⟩:=hs1
  obtain ⟨_,_,_,rfl,_⟩:=hs2
  obtain ⟨_,_,_,rfl,_⟩:=hs3
  obtain ⟨_,_,_,rfl,_⟩:=hs4
  generalize pad (row a)=Pa at *
  generalize (tlen m 64:Int)-1=tm at *
  by_cases hneg:tm-1<0
  ·rw [if_pos hneg] at e2
   simp -implicitDefEqProofs [Z45,Z45_B,dn_cond,e1,e2,e3,e4,e5,w1,w2,hx,hneg,hj64,hal,List.replicate,List.idxOf,List.findIdx,List.findIdx.go]
  ·rw [if_neg hneg] at e2
   simp -implicitDefEqProofs [Z45,Z45_B,dn_cond,e1,e2,e3,e4,e5,w1,w2,hx,hneg,hj64,hal,List.replicate,List.idxOf,List.findIdx,List.findIdx.go]
 ·refine ⟨pad (row a),b2,den_of hT rfl ?_,hs2,aa⟩
  obtain ⟨_,_,_,rfl,_⟩:=hs
  obtain ⟨_,_,_,rfl,_⟩:=hs1
  obtain ⟨_,_,_,rfl,_⟩:=hs2
  generalize pad (row a)=Pa at *
  generalize (tlen m 64:Int)-1=tm at *
  by_cases hneg:tm-1<0
  ·rw [if_pos hneg] at e2
   simp -implicitDefEqProofs [Z45,Z45_B,dn_cond,e1,e2,e3,w1,hx,hneg,List.replicate,List.idxOf,List.findIdx,List.findIdx.go]
  ·rw [if_neg hneg] at e2
   simp -implicitDefEqProofs [Z45,Z45_B,dn_cond,e1,e2,e3,w1,hx,hneg,List.replicate,List.idxOf,List.findIdx,List.findIdx.go]
end Pe

namespace Pe
open Go Gq
variable {T:Nat→Option Fn} {A:Oracle}
theorem l_draw3 {O:Oracle} (hn:H_next O F3q) (hr:H_l03DrawResidue O) {p:Int} [IsP p] {m:List Int} {z:List D} (am:Arr m):∀(k:Nat) (b:Blk) (Q:List (List Int)),k≤8→Src b→Sk8 Q→∃(b':Blk) (Q':List (List Int)),Src b'∧Sk8 Q' ∧
 dn O 1 (.loop ir_spec_l03Draw_L0) ⟨[(0,.ptr 0 []),(1,(.d (.int .i64 p))),(6,.ptr 1 []),(8,.ptr 2 []),(9,.ptr 3 []),(10,(.d (.int .i64 ((k:Int)-1))))],[b,.box false (D.arr 64 .leaf (ints .u8 m)),.box false (.arr 8 (.arr 64 .leaf) z),.box false (.arr 8 (.arr 64 .leaf) (Q.map arr8))]⟩ =
  some (.exit 0,⟨[(0,.ptr 0 []),(1,(.d (.int .i64 p))),(6,.ptr 1 []),(8,.ptr 2 []),(9,.ptr 3 []),(10,(.d (.int .i64 (-1)))),(18,(.d (.bool false)))],[b',.box false (D.arr 64 .leaf (ints .u8 m)),.box false (.arr 8 (.arr 64 .leaf) z),.box false (.arr 8 (.arr 64 .leaf) (Q'.map arr8))]⟩)
 | 0,b,Q,hk,hs,hQ=>by
  refine ⟨b,Q,hs,hQ,dn_stop ?_⟩
  obtain ⟨c,a,h,rfl,_⟩:=hs
  generalize Q.map arr8=LQ at *
  simp -implicitDefEqProofs [ir_spec_l03Draw_L0,dn_cond]
 | k+1,b,Q,hk,hs,hQ=>by
  obtain ⟨x,b2,e1,hs2,x0,x1⟩:=hn b 4 hs (by omega)
  have w1:IntKind.i64.wrap ((((k+1:Nat):Int)-1)-1)=(k:Int)-1:=(w64 (by omega)).trans (by omega)
  have hk1:((k+1:Nat):Int)-1=(k:Int):=by omega
  rw [hk1] at w1 ⊢
  have hge:(0:Int)≤k:=by omega
  have hk8:k<8:=by omega
  have hLQ:(Q.map arr8).length=8:=by rw [List.length_map]; exact hQ.2
  by_cases hx:0<x
  ·obtain ⟨a,b3,e2,hs3,aa⟩:=hr p m b2 hs2 am
   obtain ⟨b',Q',g1,g2,ih⟩:=l_draw3 hn hr (p:=p) (z:=z) am k b3 (Q.set k a) (by omega) hs3 (sk_set hQ aa k)
   refine ⟨b',Q',g1,g2,dn_round ?_ ih⟩
   rw [List.map_set]
   show _=some (_,(⟨_,[_,_,_,.box false (.arr 8 (.arr 64 .leaf) ((Q.map arr8).set k (D.arr 64 .leaf (ints .u8 a))))]⟩:St))
   obtain ⟨_,_,_,rfl,_⟩:=hs
   obtain ⟨_,_,_,rfl,_⟩:=hs2
   obtain ⟨_,_,_,rfl,_⟩:=hs3
   have hx2:∀h:k<(Q.map arr8).length,((Q.map arr8)[k]'h).sh.beq (.arr 64 .leaf)=true:=fun h=>by
    rw [List.getElem_map]; rfl
   generalize Q.map arr8=LQ at *
   simp -implicitDefEqProofs [ir_spec_l03Draw_L0,dn_cond,e1,e2,hx,w1,hk8,hLQ,hx2,List.idxOf,List.findIdx,List.findIdx.go]
  ·obtain ⟨b',Q',g1,g2,ih⟩:=l_draw3 hn hr (p:=p) (z:=z) am k b2 Q (by omega) hs2 hQ
   refine ⟨b',Q',g1,g2,dn_round ?_ ih⟩
   obtain ⟨_,_,_,rfl,_⟩:=hs
   obtain ⟨_,_,_,rfl,_⟩:=hs2
   generalize Q.map arr8=LQ at *
   simp -implicitDefEqProofs [ir_spec_l03Draw_L0,dn_cond,e1,hx,w1,List.idxOf,List.findIdx,List.findIdx.go]
def H_l03Draw (O:Oracle):Prop:=∀(p:Int) [IsP p] (m:List Int) (b:Blk) (most:Int),Src b→Arr m→0≤most→most≤7→∃(F:List (List Int)) (b':Blk),O F43 [.ptr 0 [],(.d (.int .i64 p)),.d (D.arr 64 .leaf (ints .u8 m)),(.d (.int .i64 most))] [b]=some (.d (.arr 8 (.arr 64 .leaf) (F.map arr8)),[b'],[])∧Src b'∧Sk8 F
theorem h_l03Draw (hT:T F43=some Z43) (hn:H_next (den T A) F3q) (hr:H_l03DrawResidue (den T A)):H_l03Draw (den T A):=by
 intro p ip m b most hs am m0 m7
 have w1:IntKind.i64.wrap (most+2)=most+2:=w64 (by omega)
 obtain ⟨x,b1,e1,hs1,x0,x1⟩:=hn b (most+2) hs (by omega)
 have w2:IntKind.i64.wrap (x-1)=x-1:=w64 (by omega)
 have hzz:(List.replicate 8 (pad [])).map arr8=z8:=rfl
 obtain ⟨k,rfl⟩:∃k:Nat,x=k:=⟨x.toNat,by omega⟩
 obtain ⟨b',Q,hs',hQ,st⟩:=l_draw3 (O:=den T A) hn hr (p:=p) (z:=z8) am k b1 (List.replicate 8 (pad [])) (by omega) hs1 sk_zero
 rw [hzz] at st
 refine ⟨Q,b',den_of hT rfl ?_,hs',hQ⟩
 obtain ⟨_,_,_,rfl,_⟩:=hs
 obtain ⟨_,_,_,rfl,_⟩:=hs1
 obtain ⟨_,_,_,rfl,_⟩:=hs'
 generalize Q.map arr8=LQ at *
 simp -implicitDefEqProofs [Z43,ir_spec_l03Draw_B,e1,w1,w2,st,List.replicate,List.idxOf,List.findIdx,List.findIdx.go]
def H_l03Both (O:Oracle) (F:Nat):Prop:=∀code:List Int,Bytes code→code.length≤4096→∃(p:Int) (m:List Int) (f g:List (List Int)),ask O F [.sl .leaf (ints .u8 code)]=some (.tup [(D.int .i64 p),(D.arr 64 .leaf (ints .u8 m)),.arr 8 (.arr 64 .leaf) (f.map arr8),.arr 8 (.arr 64 .leaf) (g.map arr8)])∧Arr m∧Sk8 f∧Sk8 g
theorem two_sk {f g:List (List Int)} (hf:Sk8 f) (hg:Sk8 g):∀ls∈[f,g],Sk8 ls:=fun ls h=>by
 simp at h
 rcases h with rfl | rfl
 ·exact hf
 ·exact hg
theorem both_0 (hT:T F3z=some Z3z) {code:List Int} {b0 b1 b2 b3 b4 b5 b6:Blk} {p n1 n2 x:Int} {m:List Int} {f g:List (List Int)}
 (e0:den T A F3g [.d (.sl .leaf (ints .u8 code))] []=some (.ptr 0 [],[],[b0])) (hs0:Src b0)
 (e1:den T A F44 [.ptr 0 []] [b0]=some (.tup [(.d (.int .i64 p)),.d (D.arr 64 .leaf (ints .u8 m))],[b1],[])) (hs1:Src b1)
 (e2:den T A F3s [.ptr 0 [],.sl 1 [] 0 3 (some 3)] [b1,.sl false .leaf [.int .i64 1,.int .i64 3,.int .i64 7]]=some ((.d (.int .i64 n1)),[b2,.sl false .leaf [.int .i64 1,.int .i64 3,.int .i64 7]],[])) (hs2:Src b2)
 (e3:den T A F43 [.ptr 0 [],(.d (.int .i64 p)),.d (D.arr 64 .leaf (ints .u8 m)),(.d (.int .i64 n1))] [b2]=some (.d (.arr 8 (.arr 64 .leaf) (f.map arr8)),[b3],[])) (hs3:Src b3)
 (e4:den T A F3s [.ptr 0 [],.sl 1 [] 0 3 (some 3)] [b3,.sl false .leaf [.int .i64 1,.int .i64 2,.int .i64 4]]=some ((.d (.int .i64 n2)),[b4,.sl false .leaf [.int .i64 1,.int .i64 2,.int .i64 4]],[])) (hs4:Src b4)
 (e5:den T A F43 [.ptr 0 [],(.d (.int .i64 p)),.d (D.arr 64 .leaf (ints .u8 m)),(.d (.int .i64 n2))] [b4]=some (.d (.arr 8 (.arr 64 .leaf) (g.map arr8)),[b5],[])) (hs5:Src b5)
 (e6:den T A F3q [.ptr 0 [],(.d (.int .i64 3))] [b5]=some ((.d (.int .i64 x)),[b6],[])) (hs6:Src b6) (hx:¬ x=0) :
 ask (den T A) F3z [.sl .leaf (ints .u8 code)]=some (.tup [(D.int .i64 p),(D.arr 64 .leaf (ints .u8 m)),.arr 8 (.arr 64 .leaf) (f.map arr8),.arr 8 (.arr 64 .leaf) (g.map arr8)]):=by
 refine ask_of hT rfl ?_
 obtain ⟨_,_,_,rfl,_⟩:=hs0
 obtain ⟨_,_,_,rfl,_⟩:=hs1
 obtain ⟨_,_,_,rfl,_⟩:=hs2
 obtain ⟨_,_,_,rfl,_⟩:=hs3
 obtain ⟨_,_,_,rfl,_⟩:=hs4
 obtain ⟨_,_,_,rfl,_⟩:=hs5
 obtain ⟨_,_,_,rfl,_⟩:=hs6
 generalize f.map arr8=DF at *
 generalize g.map arr8=DG at *
 simp -implicitDefEqProofs [Z3z,Z3z_B,dn_cond,e0,e1,e2,e3,e4,e5,e6,hx,List.replicate,List.idxOf,List.findIdx,List.findIdx.go]
theorem h_l03Both (hT:T F3z=some Z3z) (hf:H_from (den T A)) (hn:H_next (den T A) F3q) (hp:H_pick (den T A)) (hdf:H_l03DrawField (den T A)) (hd:H_l03Draw (den T A)) (hc:C_skewsCode (den T A) F40) (ht:T_sTimes3 (den T A)):H_l03Both (den T A) F3z:=by
 intro code hb hcl
 obtain ⟨b0,e0,hs0⟩:=hf code hb hcl
 obtain ⟨p,m,b1,e1,hs1,ip,am⟩:=hdf b0 hs0
 obtain ⟨n1,b2,e2,hs2,hn1⟩:=hp b1 [1,3,7] 3 (some 3) hs1 rfl (by omega) (by omega)
 rw [show ints .i64 [1,3,7]=[.int .i64 1,.int .i64 3,.int .i64 7] from rfl] at e2
 obtain ⟨f,b3,e3,hs3,sf⟩:=hd p m b2 n1 hs2 am (by simp at hn1; omega) (by simp at hn1; omega)
 obtain ⟨n2,b4,e4,hs4,hn2⟩:=hp b3 [1,2,4] 3 (some 3) hs3 rfl (by omega) (by omega)
 rw [show ints .i64 [1,2,4]=[.int .i64 1,.int .i64 2,.int .i64 4] from rfl] at e4
 obtain ⟨g,b5,e5,hs5,sg⟩:=hd p m b4 n2 hs4 am (by simp at hn2; omega) (by simp at hn2; omega)
 obtain ⟨x,b6,e6,hs6,-,-⟩:=hn b5 3 hs5 (by omega)
 have c1:=hc p m [f,g] am.2 am.1 (two_sk sf sg) (by simp)
 rw [show [f,g].map skwD=[.arr 8 (.arr 64 .leaf) (f.map arr8),.arr 8 (.arr 64 .leaf) (g.map arr8)] from rfl] at c1
 by_cases hx:x=0
 ·by_cases hk:codeSk p m [f,g]=0
  ·rw [hk] at c1
   obtain ⟨_,M,rfl,hM,-⟩:∃(_:IsP p) (M:Fp p),m=pad (row M)∧Fld M∧∀ls∈[f,g],IsSk M ls:=by
    unfold codeSk at hk
    split at hk
    ·assumption
    ·omega
   have h5:=hM.five
   have h2:=hM.two
   obtain ⟨h,b7,e7,hs7,sh⟩:=hd p (pad (row M)) b6 1 hs6 am (by omega) (by omega)
   obtain ⟨one,first,so,t1⟩:=ht p M f h h2 (by omega) sf sh
   obtain ⟨two,second,st,t2⟩:=ht p M g h h2 (by omega) sg sh
   rw [show skwD f=.arr 8 (.arr 64 .leaf) (f.map arr8) from rfl,show skwD h=.arr 8 (.arr 64 .leaf) (h.map arr8) from rfl,show skwD one=.arr 8 (.arr 64 .leaf) (one.map arr8) from rfl] at t1
   rw [show skwD g=.arr 8 (.arr 64 .leaf) (g.map arr8) from rfl,show skwD h=.arr 8 (.arr 64 .leaf) (h.map arr8) from rfl,show skwD two=.arr 8 (.arr 64 .leaf) (two.map arr8) from rfl] at t2
   have c2:=hc p (pad (row M)) [one,two] am.2 am.1 (two_sk so st) (by simp)
   rw [show [one,two].map skwD=[.arr 8 (.arr 64 .leaf) (one.map arr8),.arr 8 (.arr 64 .leaf) (two.map arr8)] from rfl] at c2
   by_cases hl:first=true∧second=true∧codeSk p (pad (row M)) [one,two]=0
   ·obtain ⟨rfl,rfl,hk2⟩:=hl
    rw [hk2] at c2
    refine ⟨p,pad (row M),one,two,ask_of hT rfl ?_,am,so,st⟩
    obtain ⟨_,_,_,rfl,_⟩:=hs0
    obtain ⟨_,_,_,rfl,_⟩:=hs1
    obtain ⟨_,_,_,rfl,_⟩:=hs2
    obtain ⟨_,_,_,rfl,_⟩:=hs3
    obtain ⟨_,_,_,rfl,_⟩:=hs4
    obtain ⟨_,_,_,rfl,_⟩:=hs5
    obtain ⟨_,_,_,rfl,_⟩:=hs6
    obtain ⟨_,_,_,rfl,_⟩:=hs7
    generalize f.map arr8=DF at *
    generalize g.map arr8=DG at *
    generalize h.map arr8=DH at *
    have flD1:D.flats (one.map arr8)=true:=flats_arr8 one
    generalize one.map arr8=D1 at *
    have flD2:D.flats (two.map arr8)=true:=flats_arr8 two
    generalize two.map arr8=D2 at *
    generalize pad (row M)=PM at *
    simp -implicitDefEqProofs [Z3z,Z3z_B,dn_cond,flD1,flD2,e0,e1,e2,e3,e4,e5,e6,e7,hx,c1,c2,t1,t2,List.replicate,List.idxOf,List.findIdx,List.findIdx.go]
   ·refine ⟨p,pad (row M),f,g,ask_of hT rfl ?_,am,sf,sg⟩
    obtain ⟨_,_,_,rfl,_⟩:=hs0
    obtain ⟨_,_,_,rfl,_⟩:=hs1
    obtain ⟨_,_,_,rfl,_⟩:=hs2
    obtain ⟨_,_,_,rfl,_⟩:=hs3
    obtain ⟨_,_,_,rfl,_⟩:=hs4
    obtain ⟨_,_,_,rfl,_⟩:=hs5
    obtain ⟨_,_,_,rfl,_⟩:=hs6
    obtain ⟨_,_,_,rfl,_⟩:=hs7
    generalize f.map arr8=DF at *
    generalize g.map arr8=DG at *
    generalize h.map arr8=DH at *
    generalize codeSk p (pad (row M)) [one,two]=k2 at *
    have flD1:D.flats (one.map arr8)=true:=flats_arr8 one
    generalize one.map arr8=D1 at *
    have flD2:D.flats (two.map arr8)=true:=flats_arr8 two
    generalize two.map arr8=D2 at *
    generalize pad (row M)=PM at *
    cases first with
    | false=>simp -implicitDefEqProofs [Z3z,Z3z_B,dn_cond,flD1,flD2,e0,e1,e2,e3,e4,e5,e6,e7,hx,c1,t1,t2,List.replicate,List.idxOf,List.findIdx,List.findIdx.go]
    | true=>
     cases second with
     | false=>simp -implicitDefEqProofs [Z3z,Z3z_B,dn_cond,flD1,flD2,e0,e1,e2,e3,e4,e5,e6,e7,hx,c1,t1,t2,List.replicate,List.idxOf,List.findIdx,List.findIdx.go]
     | true=>
      have hk2:¬ k2=0:=fun h=>hl ⟨rfl,rfl,h⟩
      simp -implicitDefEqProofs [Z3z,Z3z_B,dn_cond,flD1,flD2,e0,e1,e2,e3,e4,e5,e6,e7,hx,c1,c2,hk2,t1,t2,List.replicate,List.idxOf,List.findIdx,List.findIdx.go]
  ·refine ⟨p,m,f,g,ask_of hT rfl ?_,am,sf,sg⟩
   obtain ⟨_,_,_,rfl,_⟩:=hs0
   obtain ⟨_,_,_,rfl,_⟩:=hs1
   obtain ⟨_,_,_,rfl,_⟩:=hs2
   obtain ⟨_,_,_,rfl,_⟩:=hs3
   obtain ⟨_,_,_,rfl,_⟩:=hs4
   obtain ⟨_,_,_,rfl,_⟩:=hs5
   obtain ⟨_,_,_,rfl,_⟩:=hs6
   generalize codeSk p m [f,g]=k1 at *
   generalize f.map arr8=DF at *
   generalize g.map arr8=DG at *
   simp -implicitDefEqProofs [Z3z,Z3z_B,dn_cond,e0,e1,e2,e3,e4,e5,e6,hx,c1,hk,List.replicate,List.idxOf,List.findIdx,List.findIdx.go]
 ·exact ⟨p,m,f,g,both_0 hT e0 hs0 e1 hs1 e2 hs2 e3 hs3 e4 hs4 e5 hs5 e6 hs6 hx,am,sf,sg⟩
theorem h_DrawMultiplySkews (hT:T F34=some Z34) (h:H_l03Both (den T A) F3z):H_l03Both (den T A) F34:=by
 intro code hb hc
 obtain ⟨p,m,f,g,e,am,sf,sg⟩:=h code hb hc
 refine ⟨p,m,f,g,ask_of hT rfl ?_,am,sf,sg⟩
 have flDF:D.flats (f.map arr8)=true:=flats_arr8 f
 generalize f.map arr8=DF at *
 have flDG:D.flats (g.map arr8)=true:=flats_arr8 g
 generalize g.map arr8=DG at *
 simp -implicitDefEqProofs [Z34,Z34_B,flDF,flDG,e,List.replicate]
theorem h_DrawDivideRight (hT:T F33=some Z33) (h:H_l03Both (den T A) F3z):H_l03Both (den T A) F33:=by
 intro code hb hc
 obtain ⟨p,m,f,g,e,am,sf,sg⟩:=h code hb hc
 refine ⟨p,m,f,g,ask_of hT rfl ?_,am,sf,sg⟩
 have flDF:D.flats (f.map arr8)=true:=flats_arr8 f
 generalize f.map arr8=DF at *
 have flDG:D.flats (g.map arr8)=true:=flats_arr8 g
 generalize g.map arr8=DG at *
 simp -implicitDefEqProofs [Z33,Z33_B,flDF,flDG,e,List.replicate]
theorem h_DrawAddSkews (hT:T F32=some Z32) (h:H_l03Both (den T A) F3z):H_l03Both (den T A) F32:=by
 intro code hb hc
 obtain ⟨p,m,f,g,e,am,sf,sg⟩:=h code hb hc
 refine ⟨p,m,f,g,ask_of hT rfl ?_,am,sf,sg⟩
 have flDF:D.flats (f.map arr8)=true:=flats_arr8 f
 generalize f.map arr8=DF at *
 have flDG:D.flats (g.map arr8)=true:=flats_arr8 g
 generalize g.map arr8=DG at *
 simp -implicitDefEqProofs [Z32,Z32_B,flDF,flDG,e,List.replicate]
def H_DrawPowerOfSkew (O:Oracle):Prop:=∀code:List Int,Bytes code→code.length≤4096→∃(p:Int) (m:List Int) (f:List (List Int)) (k:Int),ask O F35 [.sl .leaf (ints .u8 code)]=some (.tup [(D.int .i64 p),(D.arr 64 .leaf (ints .u8 m)),.arr 8 (.arr 64 .leaf) (f.map arr8),(D.int .i64 k)])∧Arr m∧Sk8 f
theorem h_DrawPowerOfSkew (hT:T F35=some Z35) (hf:H_from (den T A)) (hp:H_pick (den T A)) (hnr:H_near (den T A)) (hdf:H_l03DrawField (den T A)) (hd:H_l03Draw (den T A)):H_DrawPowerOfSkew (den T A):=by
 intro code hb hcl
 obtain ⟨b0,e0,hs0⟩:=hf code hb hcl
 obtain ⟨p,m,b1,e1,hs1,ip,am⟩:=hdf b0 hs0
 obtain ⟨n1,b2,e2,hs2,hn1⟩:=hp b1 [0,1,1,2,3] 5 (some 5) hs1 rfl (by omega) (by omega)
 rw [show ints .i64 [0,1,1,2,3]=[.int .i64 0,.int .i64 1,.int .i64 1,.int .i64 2,.int .i64 3] from rfl] at e2
 obtain ⟨f,b3,e3,hs3,sf⟩:=hd p m b2 n1 hs2 am (by simp at hn1; omega) (by simp at hn1; omega)
 obtain ⟨y,b4,e4,hs4⟩:=hnr b3 1000 hs3 (by omega) (by omega)
 obtain ⟨k,b5,e5,hs5,-⟩:=hp b4 [0,1,2,3,4,7,y] 7 (some 7) hs4 rfl (by omega) (by omega)
 rw [show ints .i64 [0,1,2,3,4,7,y]=[.int .i64 0,.int .i64 1,.int .i64 2,.int .i64 3,.int .i64 4,.int .i64 7,.int .i64 y] from rfl] at e5
 refine ⟨p,m,f,k,ask_of hT rfl ?_,am,sf⟩
 obtain ⟨_,_,_,rfl,_⟩:=hs0
 obtain ⟨_,_,_,rfl,_⟩:=hs1
 obtain ⟨_,_,_,rfl,_⟩:=hs2
 obtain ⟨_,_,_,rfl,_⟩:=hs3
 obtain ⟨_,_,_,rfl,_⟩:=hs4
 obtain ⟨_,_,_,rfl,_⟩:=hs5
 have flDF:D.flats (f.map arr8)=true:=flats_arr8 f
 generalize f.map arr8=DF at *
 simp -implicitDefEqProofs [Z35,ir_spec_DrawPowerOfSkew_B,e0,e1,e2,e3,e4,e5,List.replicate,List.idxOf,List.findIdx,List.findIdx.go]
end Pe

namespace Pe
open Go Gq
section
variable {p:Int}
noncomputable def sg {m:Fp p}:Nat→Quo m→Quo m
 | 0,x=>x
 | k+1,x=>sg k (pw x p.toNat)
theorem sg_mk [IsP p] {m:Fp p}:∀(k:Nat) (a:Fp p),Quo.mk m (frIt m k a)=sg k (Quo.mk m a)
 | 0,_=>rfl
 | k+1,a=>by
  show Quo.mk m (frIt m k (pw a p.toNat%m))=sg k (pw (Quo.mk m a) p.toNat)
  rw [sg_mk k,Pol.mk_mod,Quo.mk_pow]
theorem pw_zero_pos [IsP p] {m:Fp p}:pw (0:Quo m) p.toNat=0:=by
 have h:=IsP.pos (p:=p)
 have:p.toNat=(p.toNat-1)+1:=by omega
 rw [this]
 show pw (0:Quo m) (p.toNat-1)*0=0
 exact Gq.mul_zero _
theorem sg_zero [IsP p] {m:Fp p}:∀k,sg k (0:Quo m)=0
 | 0=>rfl
 | k+1=>by
  show sg k (pw (0:Quo m) p.toNat)=0
  rw [pw_zero_pos,sg_zero k]
section
variable {m:Fp p}
noncomputable def Rop (t0 t1 t2:Quo m) (X:Nat→Quo m):Nat→Quo m
 | 0=>X 0*t0
 | 1=>X 1*sg 1 t0+X 0*t1
 | n+2=>X (n+2)*sg (n+2) t0+X (n+1)*sg (n+1) t1+X n*sg n t2
noncomputable def e0:Nat→Quo m
 | 0=>1
 | _+1=>0
theorem nine (t0 t1 t2 a b c d e f g h i s u v:Quo m):t0*(a*s+b*u+c*v)+t1*(d*s+e*u+f*v)+t2*(g*s+h*u+i*v)=(t0*a+t1*d+t2*g)*s+(t0*b+t1*e+t2*h)*u+(t0*c+t1*f+t2*i)*v:=by
 have l:∀t a b c:Quo m,t*(a*s+b*u+c*v)=t*a*s+t*b*u+t*c*v:=fun t a b c=>ring_of [t,a,b,c,s,u,v] rfl
 have q:∀x y z w:Quo m,(x+y+z)*w=x*w+y*w+z*w:=fun x y z w=>ring_of [x,y,z,w] rfl
 have z:∀p1 p2 p3 q1 q2 q3 r1 r2 r3:Quo m,(p1+p2+p3)+(q1+q2+q3)+(r1+r2+r3)=(p1+q1+r1)+(p2+q2+r2)+(p3+q3+r3):=fun p1 p2 p3 q1 q2 q3 r1 r2 r3=>ring_of [p1,p2,p3,q1,q2,q3,r1,r2,r3] rfl
 rw [l,l,l,q,q,q,z]
theorem eight [IsP p] (t0 t1 t2 a b c d e f g h s u v:Quo m):t0*(a*s+b*u+c*v)+t1*(d*s+e*u+f*v)+t2*(g*s+h*u)=(t0*a+t1*d+t2*g)*s+(t0*b+t1*e+t2*h)*u+(t0*c+t1*f)*v:=by
 have:=nine t0 t1 t2 a b c d e f g h 0 s u v
 simp only [Gq.zero_mul,Gq.mul_zero,Gq.add_zero] at this
 exact this
noncomputable def Rk (t0 t1 t2:Quo m):Nat→Nat→Quo m
 | 0=>e0
 | k+1=>Rop t0 t1 t2 (Rk t0 t1 t2 k)
noncomputable def hsum (t0 t1 t2:Quo m):(Nat→Quo m)→Nat→Nat→Nat→Quo m
 | _,_,0,_=>0
 | c,k,n+1,i=>c 0*Rk t0 t1 t2 k i+hsum t0 t1 t2 (fun j=>c (j+1)) (k+1) n i
end
noncomputable def qcf (m:Fp p) (A:List (Fp p)) (n:Nat):Quo m:=Quo.mk m (cS A n)
theorem qcf_nil (m:Fp p) (n:Nat):qcf m [] n=0:=rfl
theorem qcf_ge {m:Fp p} {A:List (Fp p)} {n:Nat} (h:A.length≤n):qcf m A n=0:=by unfold qcf; rw [cS_ge h]; rfl
theorem qcf_eq [IsP p] {m:Fp p} (hm:m≠0) {A B:List (Fp p)} {n:Nat} (hA:(cS A n).len<m.len) (hB:(cS B n).len<m.len) (h:qcf m A n=qcf m B n):cS A n=cS B n:=by
 have e:=(Pol.mod_eq_iff hm).2 h
 rwa [Pol.mod_small hA,Pol.mod_small hB] at e
theorem qcf_zeros (m:Fp p) (k n:Nat):qcf m (List.replicate k 0) n=0:=by
 unfold qcf cS
 rw [List.getElem?_replicate]
 split <;> rfl
theorem byIn_q [IsP p] {m x:Fp p} (hm:Fld m) {b:List (Fp p)} (hb:∀c∈b,c.len<m.len) {i n:Nat} {Q:List (Fp p)} (h:i+b.length≤Q.length):qcf m (byIn m x i 0 b Q) n=qcf m Q n+(if i≤n then Quo.mk m x*sg i (qcf m b (n-i)) else 0):=by
 have h1:=Pol.len_pos hm.mon.2
 unfold qcf
 rw [byIn_cS 0 b Q (by omega),Nat.add_zero]
 have hl:(cS b (n-i)).len<m.len:=by
  have:=mem_cS (A:=b) (N:=m.len-1) (fun c hc=>by have:=hb c hc; omega) (n-i)
  omega
 by_cases h0:i≤n∧n<i+b.length
 ·rw [if_pos h0,if_pos h0.1,Quo.mk_add,Pol.mk_mod,Quo.mk_mul,frIt_mod hm i hl,sg_mk]
 ·rw [if_neg h0]
  split
  ·rename_i h2
   rw [cS_ge (A:=b) (by omega)]
   show _=Quo.mk m (cS Q n)+Quo.mk m x*sg i 0
   rw [sg_zero,Gq.mul_zero,Gq.add_zero]
  ·exact (Gq.add_zero _).symm
end
end Pe

namespace Pe
open Go Gq
section
variable {p:Int}
noncomputable def sumq {m:Fp p} (f:Nat→Quo m):Nat→Quo m
 | 0=>0
 | n+1=>sumq f n+f n
theorem sumq_congr {m:Fp p} {f g:Nat→Quo m}:∀n,(∀i,i<n→f i=g i)→sumq f n=sumq g n
 | 0,_=>rfl
 | n+1,h=>by
  show sumq f n+f n=sumq g n+g n
  rw [sumq_congr n fun i hi=>h i (by omega),h n (by omega)]
theorem sumq_front {m:Fp p} (f:Nat→Quo m):∀n,sumq f (n+1)=f 0+sumq (fun i=>f (i+1)) n
 | 0=>by
  show 0+f 0=f 0+0
  rw [Gq.zero_add,Gq.add_zero]
 | n+1=>by
  show sumq f (n+1)+f (n+1)=f 0+(sumq (fun i=>f (i+1)) n+f (n+1))
  rw [sumq_front f n,Gq.add_assoc]
theorem sumq_zero {m:Fp p} {f:Nat→Quo m}:∀n,(∀i,i<n→f i=0)→sumq f n=0
 | 0,_=>rfl
 | n+1,h=>by
  show sumq f n+f n=0
  rw [sumq_zero n fun i hi=>h i (by omega),h n (by omega),Gq.add_zero]
theorem sumq_cut {m:Fp p} {f:Nat→Quo m} {N:Nat}:∀k,(∀i,N≤i→f i=0)→sumq f (N+k)=sumq f N
 | 0,_=>rfl
 | k+1,h=>by
  show sumq f (N+k)+f (N+k)=_
  rw [sumq_cut k h,h _ (by omega),Gq.add_zero]
noncomputable def cv {m:Fp p} (X Y:Nat→Quo m) (n:Nat):Quo m:=sumq (fun i=>X i*sg i (Y (n-i))) (n+1)
theorem sumq_list {m:Fp p} {f:Nat→Quo m} {L n:Nat} (h:∀i,L≤i→f i=0):sumq (fun i=>if i≤n then f i else 0) L=sumq f (n+1):=by
 have e1:sumq (fun i=>if i≤n then f i else 0) (n+1)=sumq f (n+1):=sumq_congr _ fun i hi=>by rw [if_pos (by omega)]
 rw [←e1]
 rcases Nat.le_total L (n+1) with hl | hl
 ·obtain ⟨k,hk⟩:∃k,n+1=L+k:=⟨n+1-L,by omega⟩
  rw [hk]
  refine (sumq_cut k fun i hi=>?_).symm
  rw [h i hi,ite_self]
 ·obtain ⟨k,rfl⟩:∃k,L=n+1+k:=⟨L-(n+1),by omega⟩
  exact sumq_cut k fun i hi=>if_neg (by omega)
theorem byOut_cv [IsP p] {m:Fp p} (hm:Fld m) {b:List (Fp p)} (hb:∀c∈b,c.len<m.len) {n:Nat}:∀(A:List (Fp p)) (i:Nat) (Q:List (Fp p)),i+A.length+b.length≤Q.length+1→qcf m (byOut m b i A Q) n=qcf m Q n+sumq (fun j=>if i+j≤n then qcf m A j*sg (i+j) (qcf m b (n-(i+j))) else 0) A.length
 | [],i,Q,_=>by
  show qcf m Q n=qcf m Q n+0
  rw [Gq.add_zero]
 | x::xs,i,Q,h=>by
  rw [List.length_cons] at h
  show qcf m (byOut m b (i+1) xs (byIn m x i 0 b Q)) n=_
  rw [byOut_cv hm hb xs (i+1) _ (by rw [byIn_length]; omega),byIn_q hm hb (by omega),List.length_cons,sumq_front,Gq.add_assoc]
  have e:sumq (fun j=>if i+1+j≤n then qcf m xs j*sg (i+1+j) (qcf m b (n-(i+1+j))) else 0) xs.length=sumq (fun j=>if i+(j+1)≤n then qcf m (x::xs) (j+1)*sg (i+(j+1)) (qcf m b (n-(i+(j+1)))) else 0) xs.length:=sumq_congr _ fun j _=>by
   show (if i+1+j≤n then qcf m xs j*sg (i+1+j) (qcf m b (n-(i+1+j))) else 0)=if i+(j+1)≤n then qcf m xs j*sg (i+(j+1)) (qcf m b (n-(i+(j+1)))) else 0
   rw [show i+1+j=i+(j+1) by omega]
  rw [e]
  rfl
theorem prod_cv [IsP p] {m:Fp p} (hm:Fld m) {b:List (Fp p)} (hb:∀c∈b,c.len<m.len) (A:List (Fp p)) (n:Nat):qcf m (prodS m A b) n=cv (qcf m A) (qcf m b) n:=by
 unfold prodS
 split
 ·rename_i h0
  show (0:Quo m)=_
  refine (sumq_zero _ fun i _=>?_).symm
  rcases h0 with h0 | h0
  ·rw [qcf_ge (by omega),Gq.zero_mul]
  ·rw [qcf_ge (A:=b) (by omega),sg_zero,Gq.mul_zero]
 ·rename_i h0
  have e:qcf m (trimS (mulS m A b)) n=qcf m (mulS m A b) n:=by unfold qcf; rw [cS_trim]
  rw [e]
  unfold mulS
  rw [byOut_cv hm hb A 0 _ (by rw [List.length_replicate]; omega),qcf_zeros,Gq.zero_add]
  have e2:sumq (fun j=>if 0+j≤n then qcf m A j*sg (0+j) (qcf m b (n-(0+j))) else 0) A.length=sumq (fun j=>if j≤n then qcf m A j*sg j (qcf m b (n-j)) else 0) A.length:=sumq_congr _ fun j _=>by rw [Nat.zero_add]
  rw [e2]
  exact sumq_list fun i hi=>by rw [qcf_ge hi,Gq.zero_mul]
end
end Pe

namespace Pe
open Go Gq
section
variable {p:Int}
theorem sgn_add [IsP p] {m:Fp p}:∀(k:Nat) (x y:Quo m),sg k (x+y)=sg k x+sg k y
 | 0,_,_=>rfl
 | k+1,x,y=>by
  show sg k (pw (x+y) p.toNat)=sg k (pw x p.toNat)+sg k (pw y p.toNat)
  rw [frob_add,sgn_add k]
theorem sgn_mul {m:Fp p}:∀(k:Nat) (x y:Quo m),sg k (x*y)=sg k x*sg k y
 | 0,_,_=>rfl
 | k+1,x,y=>by
  show sg k (pw (x*y) p.toNat)=sg k (pw x p.toNat)*sg k (pw y p.toNat)
  rw [pw_mul,sgn_mul k]
theorem sgn_const [IsP p] {m:Fp p} (c:Zp p):∀k,sg k (Quo.mk m (Pol.C c))=Quo.mk m (Pol.C c)
 | 0=>rfl
 | k+1=>by
  show sg k (pw (Quo.mk m (Pol.C c)) p.toNat)=_
  rw [←Quo.mk_pow,←C_pw,frob_const,sgn_const c k]
theorem sgn_sgn {m:Fp p} (i:Nat):∀(j:Nat) (x:Quo m),sg i (sg j x)=sg (i+j) x
 | 0,_=>rfl
 | j+1,x=>by
  show sg i (sg j (pw x p.toNat))=sg (i+j) (pw x p.toNat)
  exact sgn_sgn i j _
noncomputable def vq {m:Fp p} (X:Quo m):Nat→List (Fp p)→Quo m
 | _,[]=>0
 | i,c::cs=>Quo.mk m c*sg i X+vq X (i+1) cs
theorem svI_q [IsP p] {m x:Fp p} (hm:Fld m) (hx:x.len<m.len):∀(i:Nat) (A:List (Fp p)) (out:Fp p),Quo.mk m (svI m x i A out)=Quo.mk m out+vq (Quo.mk m x) i A
 | i,[],out=>(Gq.add_zero _).symm
 | i,c::cs,out=>by
  show Quo.mk m (svI m x (i+1) cs (out+c*frIt m (i%(m.len-1)) x%m))=_
  rw [svI_q hm hx (i+1) cs,Quo.mk_add,Pol.mk_mod,Quo.mk_mul,frIt_mod hm i hx,sg_mk]
  exact Gq.add_assoc _ _ _
noncomputable def valS [IsP p] (m:Fp p) (A:List (Fp p)) (x:Fp p):Quo m:=Quo.mk m (svI m x 0 A 0)
theorem valS_q [IsP p] {m x:Fp p} (hm:Fld m) (hx:x.len<m.len) (A:List (Fp p)):valS m A x=vq (Quo.mk m x) 0 A:=by
 unfold valS
 rw [svI_q hm hx,Quo.mk_zero,Gq.zero_add]
theorem vq_add [IsP p] {m:Fp p} (X Y:Quo m):∀(A:List (Fp p)) (i:Nat),vq (X+Y) i A=vq X i A+vq Y i A
 | [],_=>(Gq.add_zero _).symm
 | c::cs,i=>by
  show Quo.mk m c*sg i (X+Y)+vq (X+Y) (i+1) cs=(Quo.mk m c*sg i X+vq X (i+1) cs)+(Quo.mk m c*sg i Y+vq Y (i+1) cs)
  rw [sgn_add,vq_add X Y cs]
  exact ring_of [Quo.mk m c,sg i X,sg i Y,vq X (i+1) cs,vq Y (i+1) cs] rfl
theorem vq_smul [IsP p] {m:Fp p} (k:Zp p) (X:Quo m):∀(A:List (Fp p)) (i:Nat),vq (Quo.mk m (Pol.C k)*X) i A=Quo.mk m (Pol.C k)*vq X i A
 | [],_=>(Gq.mul_zero _).symm
 | c::cs,i=>by
  show Quo.mk m c*sg i (Quo.mk m (Pol.C k)*X)+vq (Quo.mk m (Pol.C k)*X) (i+1) cs=Quo.mk m (Pol.C k)*(Quo.mk m c*sg i X+vq X (i+1) cs)
  rw [sgn_mul,sgn_const,vq_smul k X cs]
  exact ring_of [Quo.mk m c,Quo.mk m (Pol.C k),sg i X,vq X (i+1) cs] rfl
theorem vq_set {m:Fp p} (X:Quo m) (v:Fp p):∀(Q:List (Fp p)) (i j:Nat),j<Q.length→vq X i (addAt Q j v)=vq X i Q+Quo.mk m v*sg (i+j) X
 | [],_,_,h=>by simp at h
 | c::cs,i,0,_=>by
  show Quo.mk m (c+v)*sg i X+vq X (i+1) cs=Quo.mk m c*sg i X+vq X (i+1) cs+Quo.mk m v*sg (i+0) X
  rw [Quo.mk_add,Nat.add_zero]
  exact ring_of [Quo.mk m c,Quo.mk m v,sg i X,vq X (i+1) cs] rfl
 | c::cs,i,j+1,h=>by
  have e:addAt (c::cs) (j+1) v=c::addAt cs j v:=rfl
  rw [e]
  show Quo.mk m c*sg i X+vq X (i+1) (addAt cs j v)=Quo.mk m c*sg i X+vq X (i+1) cs+Quo.mk m v*sg (i+(j+1)) X
  rw [vq_set X v cs (i+1) j (by simpa using h),show i+1+j=i+(j+1) by omega]
  exact (Gq.add_assoc _ _ _).symm
theorem vq_zeros {m:Fp p} (X:Quo m):∀(n i:Nat),vq X i (List.replicate n (0:Fp p))=0
 | 0,_=>rfl
 | n+1,i=>by
  show Quo.mk m 0*sg i X+vq X (i+1) (List.replicate n 0)=0
  rw [vq_zeros X n,Quo.mk_zero,Gq.zero_mul,Gq.add_zero]
theorem byIn_v [IsP p] {m c:Fp p} (hm:Fld m) (X:Quo m) {i:Nat}:∀(b:List (Fp p)) (k:Nat) (Q:List (Fp p)),(∀y∈b,y.len<m.len)→i+k+b.length≤Q.length→vq X 0 (byIn m c i k b Q)=vq X 0 Q+Quo.mk m c*sg i (vq X k b)
 | [],_,Q,_,_=>by
  show vq X 0 Q=vq X 0 Q+Quo.mk m c*sg i 0
  rw [sg_zero,Gq.mul_zero,Gq.add_zero]
 | y::ys,k,Q,hb,h=>by
  rw [List.length_cons] at h
  show vq X 0 (byIn m c i (k+1) ys (addAt Q (i+k) _))=vq X 0 Q+Quo.mk m c*sg i (Quo.mk m y*sg k X+vq X (k+1) ys)
  rw [byIn_v hm X ys (k+1) _ (fun z hz=>hb z (by simp [hz])) (by rw [addAt_length]; omega),vq_set X _ Q 0 (i+k) (by omega),Pol.mk_mod,Quo.mk_mul,frIt_mod hm i (hb y (by simp)),sg_mk,Nat.zero_add,sgn_add,sgn_mul,sgn_sgn]
  exact ring_of [vq X 0 Q,Quo.mk m c,sg i (Quo.mk m y),sg (i+k) X,sg i (vq X (k+1) ys)] rfl
theorem prod_val [IsP p] {m c0 x:Fp p} (hm:Fld m) {A:List (Fp p)} (hA:∀y∈A,y.len<m.len) (hx:x.len<m.len) (h1:1≤A.length):valS m (prodS m [c0,1] A) x=Quo.mk m c0*valS m A x+sg 1 (valS m A x):=by
 have h0:=hm.mon.2
 have e1:valS m (prodS m [c0,1] A) x=valS m (mulS m [c0,1] A) x:=by
  unfold prodS valS
  rw [if_neg (by simp only [List.length_cons]; omega),svI_trim h0]
 rw [e1,valS_q hm hx,valS_q hm hx]
 show vq _ 0 (byIn m 1 1 0 A (byIn m c0 0 0 A (List.replicate ([c0,1].length+A.length-1) 0)))=_
 have hl:(List.replicate ([c0,(1:Fp p)].length+A.length-1) (0:Fp p)).length=A.length+1:=by rw [List.length_replicate]; simp only [List.length_cons,List.length_nil]; omega
 rw [byIn_v hm _ A 0 _ hA (by rw [byIn_length]; omega),byIn_v hm _ A 0 _ hA (by omega),vq_zeros,Gq.zero_add,Quo.mk_one,Gq.one_mul]
 rfl
theorem val_elim [IsP p] {m:Fp p} (hm:Fld m) {A:List (Fp p)} {a b:Fp p} (ha:a.len<m.len) (hb:b.len<m.len) (hk:valS m A b=0):valS m A (elim b a)=valS m A a:=by
 have hl:(elim b a).len≤m.len-1:=elim_le (by omega) (by omega)
 rw [valS_q hm (by omega),valS_q hm ha]
 rw [valS_q hm hb] at hk
 unfold elim
 rw [Quo.mk_add,Quo.mk_mul,vq_add,vq_smul,hk,Gq.mul_zero,Gq.add_zero]
theorem val_red [IsP p] {m:Fp p} (hm:Fld m) {A:List (Fp p)}:∀(L:List (Fp p)) (x:Fp p),(∀b∈L,b.len<m.len∧valS m A b=0)→x.len<m.len→valS m A (redS L x)=valS m A x
 | [],_,_,_=>rfl
 | b::bs,x,h,hx=>by
  have hb:=h b (by simp)
  have hl:(elim b x).len≤m.len-1:=elim_le (by omega) (by omega)
  show valS m A (redS bs (elim b x))=_
  rw [val_red hm bs (elim b x) (fun c hc=>h c (by simp [hc])) (by omega),val_elim hm hx hb.1 hb.2]
theorem val_smul [IsP p] {m:Fp p} (hm:Fld m) {A:List (Fp p)} {x:Fp p} (hx:x.len<m.len) (k:Zp p) (hk:valS m A x=0):valS m A (Pol.C k*x)=0:=by
 have hl:(Pol.C k*x).len<m.len:=by
  have h2:=hm.two
  have:(Pol.C k*x).len≤m.len-1:=Pol.len_le fun j hj=>by rw [Pol.c_Cmul,c_ge' (by omega),Gq.mul_zero]
  omega
 rw [valS_q hm hl,Quo.mk_mul,vq_smul,←valS_q hm hx,hk,Gq.mul_zero]
theorem insS_length (a:Fp p) (L:List (Fp p)):(insS a L).length=L.length+1:=by
 rw [(insS_perm a L).length_eq,List.length_append,List.length_map]; rfl
noncomputable def lsC [IsP p] (m v:Fp p):Fp p:=Pol.C (zp p (-1))*(frIt m 1 v*invm m v%m)
noncomputable def lsN [IsP p] (m:Fp p) (A:List (Fp p)) (x:Fp p):List (Fp p):=if (svI m x 0 A 0).len=0 then A else prodS m [lsC m (svI m x 0 A 0),1] A
noncomputable def lsS [IsP p] (m:Fp p):List (Fp p)→List (Fp p)→List (Fp p)
 | [],A=>A
 | x::xs,A=>lsS m xs (lsN m A x)
theorem lsC_len [IsP p] {m v:Fp p} (hm:Fld m):(lsC m v).len<m.len:=by
 have h1:=Pol.len_mod (frIt m 1 v*invm m v) hm.mon.2
 have:(lsC m v).len≤m.len-1:=Pol.len_le fun j hj=>by unfold lsC; rw [Pol.c_Cmul,c_ge' (by omega),Gq.mul_zero]
 omega
theorem lsC_q [IsP p] {m v:Fp p} (hm:Fld m) (hv:v≠0) (hvl:v.len<m.len):Quo.mk m (lsC m v)*Quo.mk m v+sg 1 (Quo.mk m v)=0:=by
 have hi:=invm_ok hm hv hvl
 unfold lsC
 rw [Quo.mk_mul,Pol.mk_mod,Quo.mk_mul,sg_mk,zp_neg,zp_one,Pol.C_neg,Pol.C_one,Quo.mk_neg,Quo.mk_one]
 have e:-1*(sg 1 (Quo.mk m v)*Quo.mk m (invm m v))*Quo.mk m v+sg 1 (Quo.mk m v)=sg 1 (Quo.mk m v)*(1-Quo.mk m (invm m v)*Quo.mk m v):=ring_of [sg 1 (Quo.mk m v),Quo.mk m (invm m v),Quo.mk m v] rfl
 rw [e,hi]
 exact ring_of [sg 1 (Quo.mk m v)] rfl
structure LsI [IsP p] (m:Fp p) (A:List (Fp p)):Prop where
 trim:IsTrim A
 res:∀c∈A,c.len<m.len
 ex:∃L:List (Fp p),Desc (m.len-1) L∧(∀b∈L,valS m A b=0)∧A.length=L.length+1
theorem LsI.len [IsP p] {m:Fp p} {A:List (Fp p)} (hm:Fld m) (h:LsI m A):1≤A.length∧A.length≤5:=by
 obtain ⟨L,h1,_,h3⟩:=h.ex
 have:=h1.length
 have h5:=hm.five
 have h2:=hm.two
 omega
theorem LsI.sk [IsP p] {m:Fp p} {A:List (Fp p)} (hm:Fld m) (h:LsI m A):Sk m A:=⟨h.trim,by have:=h.len hm; omega,h.res⟩
theorem LsI.one [IsP p] {m:Fp p} (hm:Fld m):LsI m (termS (1:Fp p) 0):=⟨(sk_one hm).trim,(sk_one hm).res,[],Desc.nil _,(fun b hb=>by cases hb),by rw [termS_length]; rfl⟩
theorem two_trim [IsP p] (c:Fp p):IsTrim [c,(1:Fp p)]:=fun n hn=>by
 have:n=1:=by simp at hn; omega
 subst this
 exact one_ne8
theorem two_res [IsP p] {m c:Fp p} (hm:Fld m) (hc:c.len<m.len):∀y∈[c,(1:Fp p)],y.len<m.len:=fun y hy=>by
 have h2:=hm.two
 have:(1:Fp p).len=1:=Pol.len_one
 simp at hy
 rcases hy with rfl | rfl <;> omega
theorem LsI.next [IsP p] {m x:Fp p} {A:List (Fp p)} (hm:Fld m) (h:LsI m A) (hx:x.len<m.len):LsI m (lsN m A x):=by
 have h0:=hm.mon.2
 have h2:=hm.two
 unfold lsN
 by_cases hv:(svI m x 0 A 0).len=0
 ·rw [if_pos hv]; exact h
 ·rw [if_neg hv]
  obtain ⟨L,hL,hK,hlen⟩:=h.ex
  have hvl:(svI m x 0 A 0).len<m.len:=svI_len h0 0 A 0 (by rw [Pol.len_zero]; omega)
  have hv0:svI m x 0 A 0≠0:=fun h=>hv (by rw [h,Pol.len_zero])
  have hcl:=lsC_len (v:=svI m x 0 A 0) hm
  have hLl:∀b∈L,b.len<m.len:=fun b hb=>by have:=hL.le b hb; omega
  have step:∀y:Fp p,y.len<m.len→valS m (prodS m [lsC m (svI m x 0 A 0),1] A) y=Quo.mk m (lsC m (svI m x 0 A 0))*valS m A y+sg 1 (valS m A y):=fun y hy=>prod_val hm h.res hy (by omega)
  have kill:∀y:Fp p,y.len<m.len→valS m A y=0→valS m (prodS m [lsC m (svI m x 0 A 0),1] A) y=0:=fun y hy hk=>by
   rw [step y hy,hk,Gq.mul_zero,sg_zero,Gq.add_zero]
  have killx:valS m (prodS m [lsC m (svI m x 0 A 0),1] A) x=0:=by
   rw [step x hx]
   exact lsC_q hm hv0 hvl
  have hr:redS L x≠0:=fun hz=>by
   have e:=val_red (A:=A) hm L x (fun b hb=>⟨hLl b hb,hK b hb⟩) hx
   rw [hz] at e
   have e2:valS m A (0:Fp p)=0:=by
    have:=val_smul (A:=A) hm (x:=0) (by rw [Pol.len_zero]; omega)
    rw [valS_q hm (by rw [Pol.len_zero]; omega)]
    have h3:=vq_smul (m:=m) (0:Zp p) (0:Quo m) A 0
    rw [Gq.mul_zero] at h3
    rw [Quo.mk_zero,h3]
    have:Quo.mk m (Pol.C (0:Zp p))=0:=by rw [Pol.C_zero]; rfl
    rw [this,Gq.zero_mul]
   rw [e2] at e
   have e3:=(Pol.mod_eq_iff h0).2 (show Quo.mk m (svI m x 0 A 0)=Quo.mk m 0 from e.symm)
   rw [Pol.mod_small hvl,Pol.zero_mod h0] at e3
   exact hv0 e3
  have hrl:(redS L x).len≤m.len-1:=redS_le hL.le (by omega)
  have hml:=Gq.mon_len hr
  have killr:valS m (prodS m [lsC m (svI m x 0 A 0),1] A) (Gq.mon (redS L x))=0:=by
   refine val_smul hm (by omega) _ ?_
   rw [val_red hm L x (fun b hb=>⟨hLl b hb,kill b (hLl b hb) (hK b hb)⟩) hx]
   exact killx
  refine ⟨isTrim_prod _ _ _,fun c hc=>by have:=prodS_lens' (N:=m.len-1) h0 (by omega) c hc; omega,putS L x,putS_desc hL (by omega),fun b hb=>?_,?_⟩
  ·rw [putS_ne hr] at hb
   rcases insS_mem hb with rfl | ⟨c,hc,rfl⟩
   ·exact killr
   ·have hcl':=hLl c hc
    rw [val_elim hm hcl' (by omega) killr]
    exact kill c hcl' (hK c hc)
  ·rw [putS_ne hr,insS_length,prodS_len hm (two_trim _) h.trim (two_res hm hcl) h.res (by simp) (by omega)]
   simp only [List.length_cons,List.length_nil]
   omega
theorem LsI.all [IsP p] {m:Fp p} (hm:Fld m):∀(xs A:List (Fp p)),LsI m A→(∀x∈xs,x.len<m.len)→LsI m (lsS m xs A)
 | [],_,h,_=>h
 | x::xs,A,h,hx=>LsI.all hm xs _ (h.next hm (hx x (by simp))) fun y hy=>hx y (by simp [hy])
end
end Pe
