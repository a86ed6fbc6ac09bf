/-
  A part of the proof: an evaluator for a small form of the code, its soundness, and contracts of functions over it.
-/
import Derived.Test.YtpnliphfdlmpgacGreatW1
import Derived.Test.YtpnliphfdlmpgacGreatW2
import Derived.Test.YtpnliphfdlmpgacGreatW3
import Derived.Test.YtpnliphfdlmpgacGreatW4
import Derived.Test.YtpnliphfdlmpgacGreatW5
import Derived.Test.YtpnliphfdlmpgacGreatW6

namespace Pe
open Go Gq
section
variable {p:Int} {m:Fp p}
theorem sumq_add (f g:Nat→Quo m):∀n,sumq (fun i=>f i+g i) n=sumq f n+sumq g n
 | 0=>(Gq.add_zero _).symm
 | n+1=>by
  show sumq (fun i=>f i+g i) n+(f n+g n)=(sumq f n+f n)+(sumq g n+g n)
  rw [sumq_add f g n]
  exact ring_of [sumq f n,sumq g n,f n,g n] rfl
theorem sumq_mulL (c:Quo m) (f:Nat→Quo m):∀n,sumq (fun i=>c*f i) n=c*sumq f n
 | 0=>(Gq.mul_zero _).symm
 | n+1=>by
  show sumq (fun i=>c*f i) n+c*f n=c*(sumq f n+f n)
  rw [sumq_mulL c f n,Gq.mul_add]
theorem sumq_mulR (c:Quo m) (f:Nat→Quo m):∀n,sumq (fun i=>f i*c) n=sumq f n*c
 | 0=>(Gq.zero_mul _).symm
 | n+1=>by
  show sumq (fun i=>f i*c) n+f n*c=(sumq f n+f n)*c
  rw [sumq_mulR c f n,Gq.add_mul]
theorem sumq_sg [IsP p] (k:Nat) (f:Nat→Quo m):∀n,sg k (sumq f n)=sumq (fun i=>sg k (f i)) n
 | 0=>sg_zero k
 | n+1=>by
  show sg k (sumq f n+f n)=sumq (fun i=>sg k (f i)) n+sg k (f n)
  rw [sgn_add,sumq_sg k f n]
theorem sumq_tri (f:Nat→Nat→Quo m):∀n,sumq (fun j=>sumq (fun i=>f i (j-i)) (j+1)) n=sumq (fun i=>sumq (fun k=>f i k) (n-i)) n
 | 0=>rfl
 | n+1=>by
  show sumq (fun j=>sumq (fun i=>f i (j-i)) (j+1)) n+sumq (fun i=>f i (n-i)) (n+1)=sumq (fun i=>sumq (fun k=>f i k) (n+1-i)) n+sumq (fun k=>f n k) (n+1-n)
  have e:sumq (fun i=>sumq (fun k=>f i k) (n+1-i)) n=sumq (fun i=>sumq (fun k=>f i k) (n-i)+f i (n-i)) n:=sumq_congr n fun i hi=>by
   rw [show n+1-i=(n-i)+1 by omega]; rfl
  have e2:sumq (fun k=>f n k) (n+1-n)=0+f n 0:=by rw [show n+1-n=0+1 by omega]; rfl
  have e3:sumq (fun i=>f i (n-i)) (n+1)=sumq (fun i=>f i (n-i)) n+f n 0:=by
   show _+f n (n-n)=_
   rw [Nat.sub_self]
  rw [e,e2,e3,sumq_add,sumq_tri f n]
  exact ring_of [sumq (fun i=>sumq (fun k=>f i k) (n-i)) n,sumq (fun i=>f i (n-i)) n,f n 0] rfl
theorem cv_assoc [IsP p] (X Y Z:Nat→Quo m) (n:Nat):cv (cv X Y) Z n=cv X (cv Y Z) n:=by
 have e1:cv (cv X Y) Z n=sumq (fun j=>sumq (fun i=>(fun i k=>X i*sg i (Y k)*sg (i+k) (Z (n-i-k))) i (j-i)) (j+1)) (n+1):=sumq_congr _ fun j hj=>by
  show sumq (fun i=>X i*sg i (Y (j-i))) (j+1)*sg j (Z (n-j))=_
  rw [←sumq_mulR]
  exact sumq_congr _ fun i hi=>by
   show _=X i*sg i (Y (j-i))*sg (i+(j-i)) (Z (n-i-(j-i)))
   rw [show i+(j-i)=j by omega,show n-i-(j-i)=n-j by omega]
 have e2:cv X (cv Y Z) n=sumq (fun i=>sumq (fun k=>(fun i k=>X i*sg i (Y k)*sg (i+k) (Z (n-i-k))) i k) (n+1-i)) (n+1):=sumq_congr _ fun i hi=>by
  show X i*sg i (sumq (fun k=>Y k*sg k (Z (n-i-k))) (n-i+1))=_
  rw [sumq_sg,←sumq_mulL,show n+1-i=n-i+1 by omega]
  exact sumq_congr _ fun k hk=>by
   show X i*sg i (Y k*sg k (Z (n-i-k)))=X i*sg i (Y k)*sg (i+k) (Z (n-i-k))
   rw [sgn_mul,sgn_sgn,Gq.mul_assoc]
 rw [e1,e2]
 exact sumq_tri (fun i k=>X i*sg i (Y k)*sg (i+k) (Z (n-i-k))) (n+1)
theorem cv_addL [IsP p] (X X' Y:Nat→Quo m) (n:Nat):cv (fun i=>X i+X' i) Y n=cv X Y n+cv X' Y n:=by
 unfold cv
 rw [←sumq_add]
 exact sumq_congr _ fun i _=>Gq.add_mul _ _ _
theorem cv_addR [IsP p] (X Y Y':Nat→Quo m) (n:Nat):cv X (fun i=>Y i+Y' i) n=cv X Y n+cv X Y' n:=by
 unfold cv
 rw [←sumq_add]
 exact sumq_congr _ fun i _=>by rw [sgn_add,Gq.mul_add]
theorem cv_zeroL (Y:Nat→Quo m) (n:Nat):cv (fun _=>0) Y n=0:=sumq_zero _ fun i _=>Gq.zero_mul _
theorem cv_zeroR [IsP p] (X:Nat→Quo m) (n:Nat):cv X (fun _=>0) n=0:=sumq_zero _ fun i _=>by rw [sg_zero,Gq.mul_zero]
variable [IsP p]
theorem prod_res (hm:Fld m) (X Y:List (Fp p)):∀c∈prodS m X Y,c.len<m.len:=fun c hc=>by
 have h1:=Pol.len_pos hm.mon.2
 have:=prodS_lens' (N:=m.len-1) hm.mon.2 (by omega) c hc
 omega
theorem cS_res {A:List (Fp p)} (hm:Fld m) (h:∀c∈A,c.len<m.len) (i:Nat):(cS A i).len<m.len:=by
 have h1:=Pol.len_pos hm.mon.2
 have:=mem_cS (N:=m.len-1) (fun c hc=>by have:=h c hc; omega) i
 omega
theorem sk_ext {A B:List (Fp p)} (hm:Fld m) (tA:IsTrim A) (tB:IsTrim B) (hA:∀c∈A,c.len<m.len) (hB:∀c∈B,c.len<m.len) (h:∀n,qcf m A n=qcf m B n):A=B:=
 trim_ext tA tB fun i=>qcf_eq hm.mon.2 (cS_res hm hA i) (cS_res hm hB i) (h i)
theorem prod_assoc (hm:Fld m) {X Y Z:List (Fp p)} (hY:∀c∈Y,c.len<m.len) (hZ:∀c∈Z,c.len<m.len):prodS m (prodS m X Y) Z=prodS m X (prodS m Y Z):=by
 refine sk_ext hm (isTrim_prod _ _ _) (isTrim_prod _ _ _) (prod_res hm _ _) (prod_res hm _ _) fun n=>?_
 rw [prod_cv hm hZ,prod_cv hm (prod_res hm _ _),show qcf m (prodS m X Y)=cv (qcf m X) (qcf m Y) from funext fun n=>prod_cv hm hY X n,show qcf m (prodS m Y Z)=cv (qcf m Y) (qcf m Z) from funext fun n=>prod_cv hm hZ Y n]
 exact cv_assoc _ _ _ n
theorem byOut_v (hm:Fld m) (X:Quo m) {b:List (Fp p)} (hb:∀c∈b,c.len<m.len):∀(a:List (Fp p)) (i:Nat) (Q:List (Fp p)),i+a.length+b.length≤Q.length+1→vq X 0 (byOut m b i a Q)=vq X 0 Q+vq (vq X 0 b) i a
 | [],_,_,_=>(Gq.add_zero _).symm
 | x::xs,i,Q,h=>by
  rw [List.length_cons] at h
  show vq X 0 (byOut m b (i+1) xs (byIn m x i 0 b Q))=vq X 0 Q+(Quo.mk m x*sg i (vq X 0 b)+vq (vq X 0 b) (i+1) xs)
  rw [byOut_v hm X hb xs (i+1) _ (by rw [byIn_length]; omega),byIn_v hm X b 0 Q hb (by omega)]
  exact ring_of [vq X 0 Q,Quo.mk m x*sg i (vq X 0 b),vq (vq X 0 b) (i+1) xs] rfl
theorem prod_value (hm:Fld m) {X Y:List (Fp p)} {x:Fp p} (hY:∀c∈Y,c.len<m.len) (hx:x.len<m.len):svI m x 0 (prodS m X Y) 0=svI m (svI m x 0 Y 0) 0 X 0:=by
 have h0:=hm.mon.2
 have hz:(0:Fp p).len<m.len:=by rw [Pol.len_zero]; exact Pol.len_pos h0
 have h1:(svI m x 0 (prodS m X Y) 0).len<m.len:=svI_len h0 0 _ 0 hz
 have h2:(svI m x 0 Y 0).len<m.len:=svI_len h0 0 _ 0 hz
 have h3:(svI m (svI m x 0 Y 0) 0 X 0).len<m.len:=svI_len h0 0 _ 0 hz
 have e:Quo.mk m (svI m x 0 (prodS m X Y) 0)=Quo.mk m (svI m (svI m x 0 Y 0) 0 X 0):=by
  show valS m (prodS m X Y) x=valS m X (svI m x 0 Y 0)
  rw [valS_q hm h2]
  have eY:Quo.mk m (svI m x 0 Y 0)=vq (Quo.mk m x) 0 Y:=valS_q hm hx Y
  rw [eY]
  by_cases hl:X.length=0∨Y.length=0
  ·have e1:prodS m X Y=[]:=by unfold prodS; rw [if_pos hl]
   rw [e1,valS_q hm hx]
   rcases hl with hl | hl
   ·obtain rfl:=List.eq_nil_of_length_eq_zero hl
    rfl
   ·obtain rfl:=List.eq_nil_of_length_eq_zero hl
    show (0:Quo m)=vq 0 0 X
    have hz:∀(X:List (Fp p)) (i:Nat),(0:Quo m)=vq 0 i X:=by
     intro X
     induction X with
     | nil=>intro i; rfl
     | cons c cs ih=>
      intro i
      show (0:Quo m)=Quo.mk m c*sg i 0+vq 0 (i+1) cs
      rw [←ih,sg_zero,Gq.mul_zero,Gq.add_zero]
    exact hz X 0
  ·have e1:valS m (prodS m X Y) x=valS m (mulS m X Y) x:=by
    unfold prodS valS
    rw [if_neg hl,svI_trim h0]
   rw [e1,valS_q hm hx]
   unfold mulS
   rw [byOut_v hm _ hY X 0 _ (by rw [List.length_replicate]; omega),vq_zeros,Gq.zero_add]
 have key:=(Pol.mod_eq_iff h0).2 e
 rwa [Pol.mod_small h1,Pol.mod_small h3] at key
end
section
variable {p:Int} {m:Fp p}
theorem qcf_plus (k:Int) (X Y:List (Fp p)) (n:Nat):qcf m (plusS k X Y) n=qcf m X n+Quo.mk m (Pol.C (zp p k))*qcf m Y n:=by
 unfold qcf
 rw [cS_plus,Quo.mk_add,Quo.mk_mul]
theorem qcf_plus1 (X Y:List (Fp p)) (n:Nat):qcf m (plusS 1 X Y) n=qcf m X n+qcf m Y n:=by
 rw [qcf_plus,zp_one,Pol.C_one,Quo.mk_one,Gq.one_mul]
theorem qcf_minus (X Y:List (Fp p)) (n:Nat):qcf m (plusS (-1) X Y) n=qcf m X n-qcf m Y n:=by
 rw [qcf_plus,zp_neg,zp_one,Pol.C_neg,Pol.C_one,Quo.mk_neg,Quo.mk_one]
 exact ring_of [qcf m X n,qcf m Y n] rfl
end
section
variable {p:Int} {m:Fp p}
variable [IsP p]
noncomputable def sideS (left:Bool) (m:Fp p) (B Q:List (Fp p)):List (Fp p):=if left then prodS m B Q else prodS m Q B
theorem sideS_q (left:Bool) (hm:Fld m) {B Q:List (Fp p)} (hB:∀c∈B,c.len<m.len) (hQ:∀c∈Q,c.len<m.len) (n:Nat):qcf m (sideS left m B Q) n=if left then cv (qcf m B) (qcf m Q) n else cv (qcf m Q) (qcf m B) n:=by
 unfold sideS
 cases left with
 | true=>simp only [if_true]; exact prod_cv hm hQ B n
 | false=>simp only [Bool.false_eq_true,if_false]; exact prod_cv hm hB Q n
theorem side_plus (left:Bool) (hm:Fld m) {B Q R:List (Fp p)} (hB:Sk m B) (hQ:Sk m Q) (hR:Sk m R) (n:Nat):qcf m (sideS left m B (plusS 1 Q R)) n=qcf m (sideS left m B Q) n+qcf m (sideS left m B R) n:=by
 have h:=hQ.plus hm.mon.2 hR 1
 rw [sideS_q left hm hB.res h.res,sideS_q left hm hB.res hQ.res,sideS_q left hm hB.res hR.res,show qcf m (plusS 1 Q R)=fun i=>qcf m Q i+qcf m R i from funext fun i=>qcf_plus1 Q R i]
 cases left with
 | true=>simp only [if_true]; exact cv_addR _ _ _ n
 | false=>simp only [Bool.false_eq_true,if_false]; exact cv_addL _ _ _ n
theorem divG_sum (left:Bool) (hm:Fld m) {B:List (Fp p)} (hB:Sk m B) (h1:1≤B.length):∀(n:Nat) (Q A:List (Fp p)),Sk m Q→Sk m A→∀i,qcf m (sideS left m B (divG left m B n Q A).1) i+qcf m (divG left m B n Q A).2 i=qcf m (sideS left m B Q) i+qcf m A i
 | 0,_,_,_,_,_=>rfl
 | n+1,Q,A,hQ,hA,i=>by
  unfold divG
  split
  ·rfl
  ·obtain ⟨_,_,hT,hP,hl,hA'⟩:=step_ok left hm hA hB h1 (by omega)
   rw [divG_sum left hm hB h1 n _ _ (hQ.plus hm.mon.2 hT 1) hA' i,side_plus left hm hB hQ hT,qcf_minus]
   have e:sideS left m B (qT left m A B)=qP left m A B:=rfl
   rw [e]
   exact ring_of [qcf m (sideS left m B Q) i,qcf m (qP left m A B) i,qcf m A i] rfl
theorem side_trim (left:Bool) (B Q:List (Fp p)):IsTrim (sideS left m B Q):=by
 unfold sideS
 cases left <;> exact isTrim_prod _ _ _
theorem side_res (left:Bool) (hm:Fld m) (B Q:List (Fp p)):∀c∈sideS left m B Q,c.len<m.len:=by
 unfold sideS
 cases left <;> exact prod_res hm _ _
theorem divG_back (left:Bool) (hm:Fld m) {A B:List (Fp p)} (hA:Sk m A) (hB:Sk m B) (h1:1≤B.length) :
 Sk m (sideS left m B (divG left m B A.length [] A).1)∧plusS 1 (sideS left m B (divG left m B A.length [] A).1) (divG left m B A.length [] A).2=A:=by
 obtain ⟨hq,hr,hlt⟩:=divG_ok left hm hB h1 A.length [] A (Nat.le_refl _) (Sk.nil m) hA
 have e:=divG_sum left hm hB h1 A.length [] A (Sk.nil m) hA
 have e0:∀i,qcf m (sideS left m B []) i=0:=fun i=>by
  rw [sideS_q left hm hB.res (Sk.nil m).res]
  cases left with
  | true=>simp only [if_true]; exact cv_zeroR _ i
  | false=>simp only [Bool.false_eq_true,if_false]; exact cv_zeroL _ i
 generalize divG left m B A.length [] A=D at *
 have tr:=side_trim (m:=m) left B D.1
 have rs:=side_res left hm B D.1
 have h8:=hB.eight
 have hA8:=hA.eight
 have hs:Sk m (sideS left m B D.1):=by
  refine ⟨tr,?_,rs⟩
  rw [←trimS_of tr]
  refine trim_len_le fun i hi=>?_
  have hz:qcf m (sideS left m B D.1) i=0:=by
   have:=e i
   rw [e0,qcf_ge (A:=A) (by omega),qcf_ge (A:=D.2) (by omega),Gq.add_zero,Gq.add_zero] at this
   exact this
  have:=qcf_eq hm.mon.2 (B:=[]) (cS_res hm rs i) (cS_res hm (Sk.nil m).res i) (hz.trans (qcf_nil m i).symm)
  rw [this,cS_nil]
 refine ⟨hs,sk_ext hm (isTrim_plus _ _ _) hA.trim (hs.plus hm.mon.2 hr 1).res hA.res fun i=>?_⟩
 rw [qcf_plus1,e i,e0,Gq.zero_add]
end
end Pe

namespace Pe
open Go Gq
variable {T:Nat→Option Fn} {A:Oracle}
theorem codeSk_one {p:Int} [IsP p] {m:Fp p} (hm:Fld m) {ls:List (List Int)}:codeSk p (pad (row m)) [ls]=0↔IsSk m ls:=by
 have h5:=hm.five
 unfold codeSk
 constructor
 ·intro h
  split at h
  ·rename_i g
   obtain ⟨ip,m',e,_,g2⟩:=g
   obtain rfl:=(pad_row_inj (by omega) (by have:=‹Fld m'›.five; omega)).1 e
   exact g2 ls (by simp)
  ·cases h
 ·intro h
  exact if_pos ⟨_,m,rfl,hm,fun x hx=>by simp at hx; subst hx; exact h⟩
theorem codeSk_fld {p:Int} {l:List Int} {lss:List (List (List Int))} (h:codeSk p l lss=0):IsFld p l:=by
 unfold codeSk at h
 split at h
 ·rename_i g
  obtain ⟨ip,m,e,f,_⟩:=g
  exact ⟨ip,m,e,f⟩
 ·cases h
def K_IsSkew (O:Oracle) (F:Nat):Prop:=∀(p:Int) (l:List Int) (ls:List (List Int)),Bytes l→l.length=64→Sk8 ls→ask O F [(D.int .i64 p),(D.arr 64 .leaf (ints .u8 l)),skwD ls]=some (D.bool (decide (codeSk p l [ls]=0)))
theorem k_IsSkew (hT:T F9=some Z9) (hif:C_isField (den T A)) (hfo:K_fieldOf (den T A)) (his:C_isSk (den T A)):K_IsSkew (den T A) F9:=by
 classical
 intro p l ls bl gl h8
 have e1:=hif p l bl gl
 rw [show skwD ls=.arr 8 (.arr 64 .leaf) (ls.map arr8) from rfl]
 have fl:=flats_arr8 ls
 by_cases h:IsFld p l
 ·rw [decide_eq_true h] at e1
  obtain ⟨ip,m,rfl,hm⟩:=h
  have h5:=hm.five
  have e2:=hfo p m (by omega)
  have e3:=his p m ls (by omega) h8
  rw [show skwD ls=.arr 8 (.arr 64 .leaf) (ls.map arr8) from rfl,show decide (IsSk m ls)=decide (codeSk p (pad (row m)) [ls]=0) from decide_eq_decide.2 (codeSk_one hm).symm] at e3
  refine ask_of hT rfl ?_
  generalize codeSk p (pad (row m)) [ls]=k at *
  generalize ls.map arr8=D1 at *
  generalize pad (row m)=PM at *
  cases hd:decide (k=0) with
  | true=>
   rw [hd] at e3
   simp -implicitDefEqProofs [Z9,ir_impl_IsSkew_B,e1,e2,e3]
  | false=>
   rw [hd] at e3
   simp -implicitDefEqProofs [Z9,ir_impl_IsSkew_B,e1,e2,e3]
 ·rw [decide_eq_false h] at e1
  rw [decide_eq_false (fun g=>h (codeSk_fld g))]
  refine ask_of hT rfl ?_
  generalize ls.map arr8=D1 at *
  simp -implicitDefEqProofs [Z9,ir_impl_IsSkew_B,e1]
theorem k_sIsSkew (hT:T F36=some Z36) (hif:C_sField (den T A)) (his:C_sIsSk (den T A)):K_IsSkew (den T A) F36:=by
 classical
 intro p l ls bl gl h8
 have e1:=hif p l bl gl
 rw [show skwD ls=.arr 8 (.arr 64 .leaf) (ls.map arr8) from rfl]
 have fl:=flats_arr8 ls
 by_cases h:IsFld p l
 ·rw [decide_eq_true h] at e1
  obtain ⟨ip,m,rfl,hm⟩:=h
  have h5:=hm.five
  have e3:=his p m ls (by omega) h8
  rw [show skwD ls=.arr 8 (.arr 64 .leaf) (ls.map arr8) from rfl,show decide (IsSk m ls)=decide (codeSk p (pad (row m)) [ls]=0) from decide_eq_decide.2 (codeSk_one hm).symm] at e3
  refine ask_of hT rfl ?_
  generalize codeSk p (pad (row m)) [ls]=k at *
  generalize ls.map arr8=D1 at *
  generalize pad (row m)=PM at *
  cases hd:decide (k=0) with
  | true=>
   rw [hd] at e3
   simp -implicitDefEqProofs [Z36,ir_spec_IsSkew_B,e1,e3]
  | false=>
   rw [hd] at e3
   simp -implicitDefEqProofs [Z36,ir_spec_IsSkew_B,e1,e3]
 ·rw [decide_eq_false h] at e1
  rw [decide_eq_false (fun g=>h (codeSk_fld g))]
  refine ask_of hT rfl ?_
  generalize ls.map arr8=D1 at *
  simp -implicitDefEqProofs [Z36,ir_spec_IsSkew_B,e1]
open Classical in
noncomputable def sgD (p:Int) (l:List Int) (ls:List (List Int)):D:=
 if h:codeSk p l [ls]=0 then
  haveI:IsP p:=(code_ip h).choose
  .tup [(D.int .i64 (((trimS (ls.map (polOf p))).length:Int)-1)),(D.int .i64 0)]
 else .tup [(D.int .i64 0),(D.int .i64 (codeSk p l [ls]))]
theorem sgD_bad {p:Int} {l:List Int} {ls:List (List Int)} (h:¬ codeSk p l [ls]=0):sgD p l ls=.tup [(D.int .i64 0),(D.int .i64 (codeSk p l [ls]))]:=by unfold sgD; rw [dif_neg h]
theorem sgD_good {p:Int} [IsP p] {m:Fp p} {S:List (Fp p)} (hm:Fld m) (hS:∀c∈S,c.len<m.len) (h:codeSk p (pad (row m)) [skP S]=0):sgD p (pad (row m)) (skP S)=.tup [(D.int .i64 (((trimS S).length:Int)-1)),(D.int .i64 0)]:=by
 have h5:=hm.five
 unfold sgD
 rw [dif_pos h,map_polOf (S:=S) (fun a ha=>by have:=hS a ha; omega)]
def K_SkewDegree (O:Oracle):Prop:=∀(p:Int) (l:List Int) (ls:List (List Int)),Bytes l→l.length=64→Sk8 ls→ask O Fc [(D.int .i64 p),(D.arr 64 .leaf (ints .u8 l)),skwD ls]=some (sgD p l ls)
theorem k_SkewDegree (hT:T Fc=some Zc) (hsc:C_skewsCode (den T A) F21) (hsk:K_skewOf (den T A)) (hdg:K_skDeg (den T A)):K_SkewDegree (den T A):=by
 intro p l ls bl gl h8
 have e1:=hsc p l [ls] bl gl (by intro x hx; simp at hx; subst hx; exact h8) (by simp)
 rw [show List.map skwD [ls]=[skwD ls] from rfl] at e1
 rw [show skwD ls=.arr 8 (.arr 64 .leaf) (ls.map arr8) from rfl] at e1 ⊢
 by_cases h:codeSk p l [ls]=0
 ·rw [h] at e1
  obtain ⟨ip,m,S,rfl,rfl,hm,hS8,hS⟩:=code_sk h8 h
  have h5:=hm.five
  rw [sgD_good hm hS h]
  have e2:=hsk p S hS8 (fun a ha=>by have:=hS a ha; omega)
  have e3:=hdg p (trimS S) (by have:=trimS_len_le S; omega)
  rw [show skwD (skP S)=.arr 8 (.arr 64 .leaf) ((skP S).map arr8) from rfl,show skD (trimS S)=.sl .leaf ((trimS S).map fun c=>(D.sl .leaf (ints .i64 (row c)))) from rfl] at e2
  rw [show skD (trimS S)=.sl .leaf ((trimS S).map fun c=>(D.sl .leaf (ints .i64 (row c)))) from rfl] at e3
  refine ask_of hT rfl ?_
  generalize (skP S).map arr8=D1 at *
  generalize ((trimS S).map fun c=>(D.sl .leaf (ints .i64 (row c))))=D2 at *
  generalize ((trimS S).length:Int)-1=n1 at *
  generalize pad (row m)=PM at *
  simp -implicitDefEqProofs [Zc,Zc_B,dn_cond,e1,e2,e3]
 ·rw [sgD_bad h]
  refine ask_of hT rfl ?_
  generalize codeSk p l [ls]=k at *
  generalize ls.map arr8=D1 at *
  simp -implicitDefEqProofs [Zc,Zc_B,dn_cond,e1,h]
open Classical in
noncomputable def asD (p:Int) (l:List Int) (ls ks:List (List Int)):D:=
 if h:codeSk p l [ls,ks]=0 then
  haveI:IsP p:=(code_ip h).choose
  .tup [eS (plusS 1 (trimS (ls.map (polOf p))) (trimS (ks.map (polOf p)))),(D.int .i64 0)]
 else .tup [skwD (List.replicate 8 (pad [])),(D.int .i64 (codeSk p l [ls,ks]))]
theorem asD_bad {p:Int} {l:List Int} {ls ks:List (List Int)} (h:¬ codeSk p l [ls,ks]=0):asD p l ls ks=.tup [skwD (List.replicate 8 (pad [])),(D.int .i64 (codeSk p l [ls,ks]))]:=by unfold asD; rw [dif_neg h]
theorem asD_good {p:Int} [IsP p] {m:Fp p} {S R:List (Fp p)} (hm:Fld m) (hS:∀c∈S,c.len<m.len) (hR:∀c∈R,c.len<m.len) (h:codeSk p (pad (row m)) [skP S,skP R]=0):asD p (pad (row m)) (skP S) (skP R)=.tup [eS (plusS 1 (trimS S) (trimS R)),(D.int .i64 0)]:=by
 have h5:=hm.five
 unfold asD
 rw [dif_pos h,map_polOf (S:=S) (fun a ha=>by have:=hS a ha; omega),map_polOf (S:=R) (fun a ha=>by have:=hR a ha; omega)]
theorem code_sk2 {p:Int} {l:List Int} {ls ks:List (List Int)} (h8:Sk8 ls) (k8:Sk8 ks) (h:codeSk p l [ls,ks]=0):∃(_:IsP p) (m:Fp p) (S R:List (Fp p)),l=pad (row m)∧ls=skP S∧ks=skP R∧Fld m∧S.length=8∧R.length=8∧(∀c∈S,c.len<m.len)∧(∀c∈R,c.len<m.len):=by
 obtain ⟨ip,m,rfl,hm,hs,hr⟩:=codes_ms.1 h
 obtain ⟨S,rfl,hS⟩:=sk_of hs
 obtain ⟨R,rfl,hR⟩:=sk_of hr
 exact ⟨ip,m,S,R,rfl,rfl,rfl,hm,by have:=h8.2; rwa [List.length_map] at this,by have:=k8.2; rwa [List.length_map] at this,hS,hR⟩
theorem asD_form (p:Int) (l:List Int) {ls ks:List (List Int)} (h8:Sk8 ls) (k8:Sk8 ks):∃(r:List (List Int)) (k:Int),asD p l ls ks=.tup [skwD r,(D.int .i64 k)]∧Sh8 r:=by
 by_cases h:codeSk p l [ls,ks]=0
 ·obtain ⟨ip,m,S,R,rfl,rfl,rfl,hm,hS8,hR8,hS,hR⟩:=code_sk2 h8 k8 h
  rw [asD_good hm hS hR h]
  exact ⟨_,_,rfl,eS_sh ((Sk.of8 hS8 hS).plus hm.mon.2 (Sk.of8 hR8 hR) 1)⟩
 ·rw [asD_bad h]; exact ⟨_,_,rfl,sh8_zero⟩
def K_AddSkews (O:Oracle) (F:Nat):Prop:=∀(p:Int) (l:List Int) (ls ks:List (List Int)),Bytes l→l.length=64→Sk8 ls→Sk8 ks→ask O F [(D.int .i64 p),(D.arr 64 .leaf (ints .u8 l)),skwD ls,skwD ks]=some (asD p l ls ks)
theorem k_AddSkews (hT:T F4=some Z4) (hsc:C_skewsCode (den T A) F21) (hfo:K_fieldOf (den T A)) (hsk:K_skewOf (den T A)) (hpl:K_plus (den T A)) (hto:K_toldSk (den T A)):K_AddSkews (den T A) F4:=by
 intro p l ls ks bl gl h8 k8
 have e1:=hsc p l [ls,ks] bl gl (by intro x hx; simp at hx; rcases hx with rfl | rfl <;> assumption) (by simp)
 rw [show List.map skwD [ls,ks]=[skwD ls,skwD ks] from rfl] at e1
 rw [show skwD ls=.arr 8 (.arr 64 .leaf) (ls.map arr8) from rfl,show skwD ks=.arr 8 (.arr 64 .leaf) (ks.map arr8) from rfl] at e1 ⊢
 by_cases h:codeSk p l [ls,ks]=0
 ·rw [h] at e1
  obtain ⟨ip,m,S,R,rfl,rfl,rfl,hm,hS8,hR8,hS,hR⟩:=code_sk2 h8 k8 h
  have h5:=hm.five
  rw [asD_good hm hS hR h]
  have hX:=Sk.of8 hS8 hS
  have hY:=Sk.of8 hR8 hR
  have hP:=hX.plus hm.mon.2 hY 1
  have x8:=hX.eight
  have y8:=hY.eight
  have z8':=hP.eight
  have e2:=hfo p m (by omega)
  have e3:=hsk p S hS8 (fun a ha=>by have:=hS a ha; omega)
  have e4:=hsk p R hR8 (fun a ha=>by have:=hR a ha; omega)
  have e5:=hpl p m (trimS S) (trimS R) 1 (by omega) (by omega) (by omega) (by omega) (fun a ha=>by have:=hX.res a ha; omega) (fun a ha=>by have:=hY.res a ha; omega)
  have e6:=hto p (plusS 1 (trimS S) (trimS R)) (by omega) (fun a ha=>by have:=hP.res a ha; omega)
  unfold toldSkD at e6
  rw [if_pos z8'] at e6
  have fl:=flats_arr8 (skP (pd8 (plusS 1 (trimS S) (trimS R))))
  rw [eS_arr]
  rw [show skwD (skP (pd8 (plusS 1 (trimS S) (trimS R))))=.arr 8 (.arr 64 .leaf) ((skP (pd8 (plusS 1 (trimS S) (trimS R)))).map arr8) from rfl,show skD (plusS 1 (trimS S) (trimS R))=.sl .leaf ((plusS 1 (trimS S) (trimS R)).map fun c=>(D.sl .leaf (ints .i64 (row c)))) from rfl] at e6
  rw [show skD (plusS 1 (trimS S) (trimS R))=.sl .leaf ((plusS 1 (trimS S) (trimS R)).map fun c=>(D.sl .leaf (ints .i64 (row c)))) from rfl,show skD (trimS S)=.sl .leaf ((trimS S).map fun c=>(D.sl .leaf (ints .i64 (row c)))) from rfl,show skD (trimS R)=.sl .leaf ((trimS R).map fun c=>(D.sl .leaf (ints .i64 (row c)))) from rfl] at e5
  rw [show skwD (skP S)=.arr 8 (.arr 64 .leaf) ((skP S).map arr8) from rfl,show skD (trimS S)=.sl .leaf ((trimS S).map fun c=>(D.sl .leaf (ints .i64 (row c)))) from rfl] at e3
  rw [show skwD (skP R)=.arr 8 (.arr 64 .leaf) ((skP R).map arr8) from rfl,show skD (trimS R)=.sl .leaf ((trimS R).map fun c=>(D.sl .leaf (ints .i64 (row c)))) from rfl] at e4
  refine ask_of hT rfl ?_
  generalize (skP (pd8 (plusS 1 (trimS S) (trimS R)))).map arr8=D5 at *
  generalize ((plusS 1 (trimS S) (trimS R)).map fun c=>(D.sl .leaf (ints .i64 (row c))))=D6 at *
  generalize (skP S).map arr8=D1 at *
  generalize (skP R).map arr8=D3 at *
  generalize ((trimS S).map fun c=>(D.sl .leaf (ints .i64 (row c))))=D2 at *
  generalize ((trimS R).map fun c=>(D.sl .leaf (ints .i64 (row c))))=D4 at *
  generalize pad (row m)=PM at *
  simp -implicitDefEqProofs [Z4,Z4_B,dn_cond,e1,e2,e3,e4,e5,e6,fl,List.replicate]
 ·rw [asD_bad h,show skwD (List.replicate 8 (pad []))=.arr 8 (.arr 64 .leaf) z8 from rfl]
  have fz:D.flats z8=true:=rfl
  refine ask_of hT rfl ?_
  generalize codeSk p l [ls,ks]=k at *
  generalize ls.map arr8=D1 at *
  generalize ks.map arr8=D2 at *
  simp -implicitDefEqProofs [Z4,Z4_B,dn_cond,e1,h,List.replicate]
theorem k_sAddSkews (hT:T F2z=some Z2z) (hsc:C_skewsCode (den T A) F40) (had:K_sAdd8 (den T A)):K_AddSkews (den T A) F2z:=by
 intro p l ls ks bl gl h8 k8
 have e1:=hsc p l [ls,ks] bl gl (by intro x hx; simp at hx; rcases hx with rfl | rfl <;> assumption) (by simp)
 rw [show List.map skwD [ls,ks]=[skwD ls,skwD ks] from rfl] at e1
 by_cases h:codeSk p l [ls,ks]=0
 ·rw [h] at e1
  obtain ⟨ip,m,S,R,rfl,rfl,rfl,hm,hS8,hR8,hS,hR⟩:=code_sk2 h8 k8 h
  have h5:=hm.five
  rw [asD_good hm hS hR h]
  have hX:=Sk.of8 hS8 hS
  have hY:=Sk.of8 hR8 hR
  have e5:=had p (trimS S) (trimS R) 1 (by omega) (by omega) hX.eight hY.eight (fun a ha=>by have:=hX.res a ha; omega) (fun a ha=>by have:=hY.res a ha; omega)
  rw [eS_arr,eS_arr,eS_arr,pd8_trim hS8,pd8_trim hR8] at e5
  rw [show skwD (skP S)=.arr 8 (.arr 64 .leaf) ((skP S).map arr8) from rfl,show skwD (skP R)=.arr 8 (.arr 64 .leaf) ((skP R).map arr8) from rfl] at e1 ⊢
  rw [eS_arr]
  have fl:=flats_arr8 (skP (pd8 (plusS 1 (trimS S) (trimS R))))
  refine ask_of hT rfl ?_
  generalize (skP (pd8 (plusS 1 (trimS S) (trimS R)))).map arr8=D5 at *
  generalize (skP S).map arr8=D1 at *
  generalize (skP R).map arr8=D3 at *
  generalize pad (row m)=PM at *
  simp -implicitDefEqProofs [Z2z,Z2z_B,dn_cond,e1,e5,fl,List.replicate]
 ·rw [asD_bad h,show skwD (List.replicate 8 (pad []))=.arr 8 (.arr 64 .leaf) z8 from rfl]
  rw [show skwD ls=.arr 8 (.arr 64 .leaf) (ls.map arr8) from rfl,show skwD ks=.arr 8 (.arr 64 .leaf) (ks.map arr8) from rfl] at e1 ⊢
  have fz:D.flats z8=true:=rfl
  refine ask_of hT rfl ?_
  generalize codeSk p l [ls,ks]=k at *
  generalize ls.map arr8=D1 at *
  generalize ks.map arr8=D2 at *
  simp -implicitDefEqProofs [Z2z,Z2z_B,dn_cond,e1,h,List.replicate]
end Pe

namespace Pe
open Go Gq
variable {T:Nat→Option Fn} {A:Oracle}
def cutC:Nat→Cd→Cd→Cd
 | 0,_,t=>t
 | n+1,.seq a b,t=>.seq a (cutC n b t)
 | _+1,c,_=>c
def dropC:Nat→Cd→Cd
 | 0,c=>c
 | n+1,.seq _ b=>dropC n b
 | _+1,c=>c
theorem cutC_0 (c t:Cd):cutC 0 c t=t:=rfl
theorem cutC_s (n:Nat) (a b t:Cd):cutC (n+1) (.seq a b) t=.seq a (cutC n b t):=rfl
end Pe

namespace Pe
open Go Gq
variable {T:Nat→Option Fn} {A:Oracle}
theorem l_skx {O:Oracle} (hn:H_next O F27) {p one:Int} [IsP p] {m code:List Int} {f g pr:List D} {n:Nat} (hn8:n≤7):∀(r i:Nat) (b:Blk) (Q:List Int),i+r=n→Src b→DrI p Q n→∃(b':Blk) (Q':List Int),Src b'∧DrI p Q' n ∧
 dn O 0 (.loop Z25_L0) ⟨[(0,.d (.sl .leaf (ints .u8 code))),(3,(.d (.int .i64 p))),(4,.ptr 0 []),(5,.ptr 1 []),(6,.ptr 2 []),(7,.ptr 3 []),(11,(.d (.int .i64 ((n:Int))))),(12,(.d (.int .i64 one))),(13,.ptr 5 []),(14,.ptr 6 []),(15,(.d (.int .i64 i)))],[.box false (D.arr 64 .leaf (ints .u8 m)),.box false (.arr 8 (.arr 64 .leaf) f),.box false (.arr 8 (.arr 64 .leaf) g),.box false (.arr 8 (.arr 64 .leaf) pr),.hole,b,.box false (D.arr 64 .leaf (ints .u8 Q)),.hole,.hole,.hole,.hole,.hole,.hole,.hole,.hole,.hole,.hole,.hole,.hole,.hole,.hole,.hole,.hole,.hole,.hole,.hole,.hole,.hole,.hole,.hole,.hole,.hole]⟩ =
  some (.exit 0,⟨[(0,.d (.sl .leaf (ints .u8 code))),(3,(.d (.int .i64 p))),(4,.ptr 0 []),(5,.ptr 1 []),(6,.ptr 2 []),(7,.ptr 3 []),(11,(.d (.int .i64 ((n:Int))))),(12,(.d (.int .i64 one))),(13,.ptr 5 []),(14,.ptr 6 []),(15,(.d (.int .i64 ((n:Int))))),(125,(.d (.bool false)))],[.box false (D.arr 64 .leaf (ints .u8 m)),.box false (.arr 8 (.arr 64 .leaf) f),.box false (.arr 8 (.arr 64 .leaf) g),.box false (.arr 8 (.arr 64 .leaf) pr),.hole,b',.box false (D.arr 64 .leaf (ints .u8 Q')),.hole,.hole,.hole,.hole,.hole,.hole,.hole,.hole,.hole,.hole,.hole,.hole,.hole,.hole,.hole,.hole,.hole,.hole,.hole,.hole,.hole,.hole,.hole,.hole,.hole]⟩)
 | 0,i,b,Q,hi,hs,hQ=>by
  obtain rfl:i=n:=by omega
  refine ⟨b,Q,hs,hQ,dn_stop ?_⟩
  obtain ⟨c,a,h,rfl,_⟩:=hs
  simp -implicitDefEqProofs [Z25_L0,dn_cond]
 | r+1,i,b,Q,hi,hs,hQ=>by
  have hp:=IsP.ge (p:=p)
  have hp7:=IsP.le (p:=p)
  obtain ⟨y,b3,e2,hs3,y0,y1⟩:=hn b p hs (by omega)
  have w2:IntKind.u8.wrap y=y:=w8 (by omega)
  have w4:IntKind.i64.wrap ((i:Int)+1)=((i+1:Nat):Int):=(w64 (x:=(i:Int)+1) (by omega)).trans (by omega)
  have hlt:i<n:=by omega
  have hi8:(i:Int)<8:=by omega
  have hiQ:i<Q.length:=by rw [hQ.l]; omega
  have hi64:i<64:=by omega
  obtain ⟨b',Q',hs',hQ',ih⟩:=l_skx hn (one:=one) (m:=m) (code:=code) (f:=f) (g:=g) (pr:=pr) hn8 r (i+1) b3 (Q.set i y) (by omega) hs3 (hQ.set y0 (by omega) (by omega))
  refine ⟨b',Q',hs',hQ',dn_round ?_ ih⟩
  obtain ⟨c,a,h,rfl,_⟩:=hs
  obtain ⟨c3,a3,h3,rfl,_⟩:=hs3
  simp -implicitDefEqProofs [Z25_L0,dn_cond,hlt,hi8,e2,w2,w4,hiQ,hi64,List.idxOf,List.findIdx,List.findIdx.go]
theorem sk_top {O:Oracle} (t:Cd) {p one:Int} {m code:List Int} {f g pr:List D} {isk:Bool}
 (e0:ask O F26 [.sl .leaf (ints .u8 code)]=some (D.bool false))
 (d1:ask O F34 [.sl .leaf (ints .u8 code)]=some (.tup [(D.int .i64 p),(D.arr 64 .leaf (ints .u8 m)),(.arr 8 (.arr 64 .leaf) f),(.arr 8 (.arr 64 .leaf) g)]))
 (m1:ask O Fa [(D.int .i64 p),(D.arr 64 .leaf (ints .u8 m)),(.arr 8 (.arr 64 .leaf) f),(.arr 8 (.arr 64 .leaf) g)]=some (.tup [(.arr 8 (.arr 64 .leaf) pr),(D.int .i64 one)]))
 (m2:ask O F37 [(D.int .i64 p),(D.arr 64 .leaf (ints .u8 m)),(.arr 8 (.arr 64 .leaf) f),(.arr 8 (.arr 64 .leaf) g)]=some (.tup [(.arr 8 (.arr 64 .leaf) pr),(D.int .i64 one)]))
 (s1:ask O F9 [(D.int .i64 p),(D.arr 64 .leaf (ints .u8 m)),(.arr 8 (.arr 64 .leaf) f)]=some (D.bool isk)) (s2:ask O F36 [(D.int .i64 p),(D.arr 64 .leaf (ints .u8 m)),(.arr 8 (.arr 64 .leaf) f)]=some (D.bool isk))
 (q1:D.beq (.arr 8 (.arr 64 .leaf) (.arr 64 .leaf .int)) (.arr 8 (.arr 64 .leaf) pr) (.arr 8 (.arr 64 .leaf) pr)=some true) (hf:D.flats f=true) (hg:D.flats g=true) (hpr:D.flats pr=true) :
 dn O 0 (cutC 6 Z25_B t) ⟨[(0,.d (.sl .leaf (ints .u8 code)))],[.hole,.hole,.hole,.hole,.hole,.hole,.hole,.hole,.hole,.hole,.hole,.hole,.hole,.hole,.hole,.hole,.hole,.hole,.hole,.hole,.hole,.hole,.hole,.hole,.hole,.hole,.hole,.hole,.hole,.hole,.hole,.hole]⟩ =
  dn O 0 t ⟨[(0,.d (.sl .leaf (ints .u8 code))),(3,(.d (.int .i64 p))),(4,.ptr 0 []),(5,.ptr 1 []),(6,.ptr 2 []),(7,.ptr 3 []),(8,(.d (.int .i64 one))),(107,(.d (.bool false)))],[.box false (D.arr 64 .leaf (ints .u8 m)),.box false (.arr 8 (.arr 64 .leaf) f),.box false (.arr 8 (.arr 64 .leaf) g),.box false (.arr 8 (.arr 64 .leaf) pr),.hole,.hole,.hole,.hole,.hole,.hole,.hole,.hole,.hole,.hole,.hole,.hole,.hole,.hole,.hole,.hole,.hole,.hole,.hole,.hole,.hole,.hole,.hole,.hole,.hole,.hole,.hole,.hole]⟩:=by
 have hb:D.beq .bool (D.bool isk) (D.bool isk)=some true:=by cases isk <;> rfl
 simp -implicitDefEqProofs [Z25_B,cutC_0,cutC_s,dn_cond,e0,d1,m1,m2,s1,s2,q1,hb,hf,hg,hpr]
theorem sk_B:Z25_B=cutC 6 Z25_B (dropC 6 Z25_B):=by
 rw [Z25_B]; rfl
theorem sk_B1:dropC 6 Z25_B=cutC 2 (dropC 6 Z25_B) (dropC 8 Z25_B):=by
 rw [Z25_B]; rfl
theorem sk_no {O:Oracle} (t:Cd) {p one q:Int} {m n code:List Int} {f g pr k l:List D} (h:one≠0)
 (d2:ask O F33 [.sl .leaf (ints .u8 code)]=some (.tup [(D.int .i64 q),(D.arr 64 .leaf (ints .u8 n)),(.arr 8 (.arr 64 .leaf) k),(.arr 8 (.arr 64 .leaf) l)])) (hk:D.flats k=true) (hl:D.flats l=true) :
 dn O 0 (cutC 2 (dropC 6 Z25_B) t) ⟨[(0,.d (.sl .leaf (ints .u8 code))),(3,(.d (.int .i64 p))),(4,.ptr 0 []),(5,.ptr 1 []),(6,.ptr 2 []),(7,.ptr 3 []),(8,(.d (.int .i64 one))),(107,(.d (.bool false)))],[.box false (D.arr 64 .leaf (ints .u8 m)),.box false (.arr 8 (.arr 64 .leaf) f),.box false (.arr 8 (.arr 64 .leaf) g),.box false (.arr 8 (.arr 64 .leaf) pr),.hole,.hole,.hole,.hole,.hole,.hole,.hole,.hole,.hole,.hole,.hole,.hole,.hole,.hole,.hole,.hole,.hole,.hole,.hole,.hole,.hole,.hole,.hole,.hole,.hole,.hole,.hole,.hole]⟩ =
  dn O 0 t ⟨[(0,.d (.sl .leaf (ints .u8 code))),(29,(.d (.int .i64 q))),(30,.ptr 14 []),(31,.ptr 15 []),(32,.ptr 16 [])],[.hole,.hole,.hole,.hole,.hole,.hole,.hole,.hole,.hole,.hole,.hole,.hole,.hole,.hole,.box false (D.arr 64 .leaf (ints .u8 n)),.box false (.arr 8 (.arr 64 .leaf) k),.box false (.arr 8 (.arr 64 .leaf) l),.hole,.hole,.hole,.hole,.hole,.hole,.hole,.hole,.hole,.hole,.hole,.hole,.hole,.hole,.hole]⟩:=by
 rw [Z25_B]
 simp -implicitDefEqProofs [dropC,cutC_0,cutC_s,dn_cond,h,d2,hk,hl]
theorem sk_yes {O:Oracle} (t:Cd) {p q seven eight nine:Int} {d:Nat} {m n code C1 C2 x y z f0 g0:List Int} {a1 a2:Nat} {t1 t2:Int} {fs gs pr k l a b c:List D}
 (g1:ask O F5 [(D.int .i64 p),(D.arr 64 .leaf (ints .u8 m))]=some (.tup [(D.int .i64 ((d:Int))),(D.int .i64 0)]))
 (r1:O F28 [.d (.sl .leaf (ints .u8 code)),.d (.int .u64 1801)] []=some (.ptr 0 [],[],[srcB C1 a1 t1]))
 (st:dn O 0 (.loop Z25_L0) ⟨[(0,.d (.sl .leaf (ints .u8 code))),(3,(.d (.int .i64 p))),(4,.ptr 0 []),(5,.ptr 1 []),(6,.ptr 2 []),(7,.ptr 3 []),(11,(.d (.int .i64 ((d:Int))))),(12,(.d (.int .i64 0))),(13,.ptr 5 []),(14,.ptr 6 []),(15,(.d (.int .i64 0)))],[.box false (D.arr 64 .leaf (ints .u8 m)),.box false (.arr 8 (.arr 64 .leaf) ((D.arr 64 .leaf (ints .u8 f0))::fs)),.box false (.arr 8 (.arr 64 .leaf) ((D.arr 64 .leaf (ints .u8 g0))::gs)),.box false (.arr 8 (.arr 64 .leaf) pr),.hole,srcB C1 a1 t1,.box false (D.arr 64 .leaf (ints .u8 (pad []))),.hole,.hole,.hole,.hole,.hole,.hole,.hole,.hole,.hole,.hole,.hole,.hole,.hole,.hole,.hole,.hole,.hole,.hole,.hole,.hole,.hole,.hole,.hole,.hole,.hole]⟩ =
  some (.exit 0,⟨[(0,.d (.sl .leaf (ints .u8 code))),(3,(.d (.int .i64 p))),(4,.ptr 0 []),(5,.ptr 1 []),(6,.ptr 2 []),(7,.ptr 3 []),(11,(.d (.int .i64 ((d:Int))))),(12,(.d (.int .i64 0))),(13,.ptr 5 []),(14,.ptr 6 []),(15,(.d (.int .i64 ((d:Int))))),(125,(.d (.bool false)))],[.box false (D.arr 64 .leaf (ints .u8 m)),.box false (.arr 8 (.arr 64 .leaf) ((D.arr 64 .leaf (ints .u8 f0))::fs)),.box false (.arr 8 (.arr 64 .leaf) ((D.arr 64 .leaf (ints .u8 g0))::gs)),.box false (.arr 8 (.arr 64 .leaf) pr),.hole,srcB C2 a2 t2,.box false (D.arr 64 .leaf (ints .u8 x)),.hole,.hole,.hole,.hole,.hole,.hole,.hole,.hole,.hole,.hole,.hole,.hole,.hole,.hole,.hole,.hole,.hole,.hole,.hole,.hole,.hole,.hole,.hole,.hole,.hole]⟩))
 (v1:ask O Fe [(D.int .i64 p),(D.arr 64 .leaf (ints .u8 m)),(.arr 8 (.arr 64 .leaf) ((D.arr 64 .leaf (ints .u8 g0))::gs)),(D.arr 64 .leaf (ints .u8 x))]=some (.tup [(D.arr 64 .leaf (ints .u8 y)),(D.int .i64 0)]))
 (v2:ask O Fe [(D.int .i64 p),(D.arr 64 .leaf (ints .u8 m)),(.arr 8 (.arr 64 .leaf) ((D.arr 64 .leaf (ints .u8 f0))::fs)),(D.arr 64 .leaf (ints .u8 y))]=some (.tup [(D.arr 64 .leaf (ints .u8 z)),(D.int .i64 0)]))
 (v3:ask O Fe [(D.int .i64 p),(D.arr 64 .leaf (ints .u8 m)),(.arr 8 (.arr 64 .leaf) pr),(D.arr 64 .leaf (ints .u8 x))]=some (.tup [(D.arr 64 .leaf (ints .u8 z)),(D.int .i64 0)]))
 (q1:D.beq (.arr 64 .leaf .int) (D.arr 64 .leaf (ints .u8 z)) (D.arr 64 .leaf (ints .u8 z))=some true)
 (c1:ask O Fa [(D.int .i64 p),(D.arr 64 .leaf (ints .u8 m)),(.arr 8 (.arr 64 .leaf) pr),(.arr 8 (.arr 64 .leaf) ((z8.set 0 (D.arr 64 .leaf (ints .u8 f0))).set 1 (D.arr 64 .leaf (ints .u8 g0))))]=some (.tup [(.arr 8 (.arr 64 .leaf) a),(D.int .i64 seven)]))
 (c2:ask O Fa [(D.int .i64 p),(D.arr 64 .leaf (ints .u8 m)),(.arr 8 (.arr 64 .leaf) ((D.arr 64 .leaf (ints .u8 g0))::gs)),(.arr 8 (.arr 64 .leaf) ((z8.set 0 (D.arr 64 .leaf (ints .u8 f0))).set 1 (D.arr 64 .leaf (ints .u8 g0))))]=some (.tup [(.arr 8 (.arr 64 .leaf) b),(D.int .i64 eight)]))
 (c3:ask O Fa [(D.int .i64 p),(D.arr 64 .leaf (ints .u8 m)),(.arr 8 (.arr 64 .leaf) ((D.arr 64 .leaf (ints .u8 f0))::fs)),(.arr 8 (.arr 64 .leaf) b)]=some (.tup [(.arr 8 (.arr 64 .leaf) c),(D.int .i64 nine)]))
 (hfin:seven≠0∨seven=0∧(eight≠0∨eight=0∧nine=0∧D.beq (.arr 8 (.arr 64 .leaf) (.arr 64 .leaf .int)) (.arr 8 (.arr 64 .leaf) a) (.arr 8 (.arr 64 .leaf) c)=some true))
 (hfs:fs.length=7) (hgs:gs.length=7) (ha:D.flats a=true) (hb:D.flats b=true) (hc:D.flats c=true)
 (d2:ask O F33 [.sl .leaf (ints .u8 code)]=some (.tup [(D.int .i64 q),(D.arr 64 .leaf (ints .u8 n)),(.arr 8 (.arr 64 .leaf) k),(.arr 8 (.arr 64 .leaf) l)])) (hk:D.flats k=true) (hl:D.flats l=true) :
 dn O 0 (cutC 2 (dropC 6 Z25_B) t) ⟨[(0,.d (.sl .leaf (ints .u8 code))),(3,(.d (.int .i64 p))),(4,.ptr 0 []),(5,.ptr 1 []),(6,.ptr 2 []),(7,.ptr 3 []),(8,(.d (.int .i64 0))),(107,(.d (.bool false)))],[.box false (D.arr 64 .leaf (ints .u8 m)),.box false (.arr 8 (.arr 64 .leaf) ((D.arr 64 .leaf (ints .u8 f0))::fs)),.box false (.arr 8 (.arr 64 .leaf) ((D.arr 64 .leaf (ints .u8 g0))::gs)),.box false (.arr 8 (.arr 64 .leaf) pr),.hole,.hole,.hole,.hole,.hole,.hole,.hole,.hole,.hole,.hole,.hole,.hole,.hole,.hole,.hole,.hole,.hole,.hole,.hole,.hole,.hole,.hole,.hole,.hole,.hole,.hole,.hole,.hole]⟩ =
  dn O 0 t ⟨[(0,.d (.sl .leaf (ints .u8 code))),(29,(.d (.int .i64 q))),(30,.ptr 14 []),(31,.ptr 15 []),(32,.ptr 16 [])],[.hole,.hole,.hole,.hole,.hole,.hole,.hole,.hole,.hole,.hole,.hole,.hole,.hole,.hole,.box false (D.arr 64 .leaf (ints .u8 n)),.box false (.arr 8 (.arr 64 .leaf) k),.box false (.arr 8 (.arr 64 .leaf) l),.hole,.hole,.hole,.hole,.hole,.hole,.hole,.hole,.hole,.hole,.hole,.hole,.hole,.hole,.hole]⟩:=by
 rw [Z25_B]
 have z0:z8[0]? = some (.arr 64 .leaf z64):=rfl
 have z1:z8[1]? = some (.arr 64 .leaf z64):=rfl
 generalize hHH:(z8.set 0 (D.arr 64 .leaf (ints .u8 f0))).set 1 (D.arr 64 .leaf (ints .u8 g0))=HH at *
 rcases hfin with h7 | ⟨rfl,h8 | ⟨rfl,rfl,h9⟩⟩
 ·simp -implicitDefEqProofs [dropC,cutC_0,cutC_s,dn_cond,g1,r1,st,v1,v2,v3,q1,c1,c2,c3,h7,hfs,hgs,ha,hb,hc,d2,hk,hl,hHH,z0,z1,List.idxOf,List.findIdx,List.findIdx.go]
 ·simp -implicitDefEqProofs [dropC,cutC_0,cutC_s,dn_cond,g1,r1,st,v1,v2,v3,q1,c1,c2,c3,h8,hfs,hgs,ha,hb,hc,d2,hk,hl,hHH,z0,z1,List.idxOf,List.findIdx,List.findIdx.go]
 ·simp -implicitDefEqProofs [dropC,cutC_0,cutC_s,dn_cond,g1,r1,st,v1,v2,v3,q1,c1,c2,c3,h9,hfs,hgs,ha,hb,hc,d2,hk,hl,hHH,z0,z1,List.idxOf,List.findIdx,List.findIdx.go]
end Pe

namespace Pe
open Go Gq
theorem wr1:IntKind.i64.wrap 1=1:=w64 (by omega)
theorem wr2:IntKind.i64.wrap 2=2:=w64 (by omega)
abbrev skE (code:List Int) (q side:Int):List (Nat×V):=[(0,.d (.sl .leaf (ints .u8 code))),(29,(.d (.int .i64 q))),(30,.ptr 14 []),(31,.ptr 15 []),(32,.ptr 16 []),(33,(.d (.int .i64 side)))]
abbrev skH (n:List Int) (k l:List D):List Blk:=[.hole,.hole,.hole,.hole,.hole,.hole,.hole,.hole,.hole,.hole,.hole,.hole,.hole,.hole,.box false (D.arr 64 .leaf (ints .u8 n)),.box false (.arr 8 (.arr 64 .leaf) k),.box false (.arr 8 (.arr 64 .leaf) l),.hole,.hole,.hole,.hole,.hole,.hole,.hole,.hole,.hole,.hole,.hole,.hole,.hole,.hole,.hole]
theorem sd_bad0 {O:Oracle} {q e:Int} {n code:List Int} {k l q0 r0:List D}
 (a1:ask O F7 [(D.int .i64 q),(D.arr 64 .leaf (ints .u8 n)),(.arr 8 (.arr 64 .leaf) k),(.arr 8 (.arr 64 .leaf) l)]=some (.tup [(.arr 8 (.arr 64 .leaf) q0),(.arr 8 (.arr 64 .leaf) r0),(D.int .i64 e)]))
 (a2:ask O F31 [(D.int .i64 q),(D.arr 64 .leaf (ints .u8 n)),(.arr 8 (.arr 64 .leaf) k),(.arr 8 (.arr 64 .leaf) l)]=some (.tup [(.arr 8 (.arr 64 .leaf) q0),(.arr 8 (.arr 64 .leaf) r0),(D.int .i64 e)]))
 (h1:D.beq (.arr 8 (.arr 64 .leaf) (.arr 64 .leaf .int)) (.arr 8 (.arr 64 .leaf) q0) (.arr 8 (.arr 64 .leaf) q0)=some true) (h2:D.beq (.arr 8 (.arr 64 .leaf) (.arr 64 .leaf .int)) (.arr 8 (.arr 64 .leaf) r0) (.arr 8 (.arr 64 .leaf) r0)=some true)
 (hq:D.flats q0=true) (hr:D.flats r0=true) (he:e≠0) :
 dn O 0 Z25_L1 ⟨skE code q 0,skH n k l⟩=some (.normal,⟨skE code q 1,skH n k l⟩):=by
 simp -implicitDefEqProofs [Z25_L1,dn_cond,wr1,a1,a2,h1,h2,hq,hr,he]
theorem sd_bad1 {O:Oracle} {q e:Int} {n code:List Int} {k l q0 r0 q1 r1:List D}
 (a1:ask O F7 [(D.int .i64 q),(D.arr 64 .leaf (ints .u8 n)),(.arr 8 (.arr 64 .leaf) k),(.arr 8 (.arr 64 .leaf) l)]=some (.tup [(.arr 8 (.arr 64 .leaf) q0),(.arr 8 (.arr 64 .leaf) r0),(D.int .i64 e)]))
 (a2:ask O F31 [(D.int .i64 q),(D.arr 64 .leaf (ints .u8 n)),(.arr 8 (.arr 64 .leaf) k),(.arr 8 (.arr 64 .leaf) l)]=some (.tup [(.arr 8 (.arr 64 .leaf) q0),(.arr 8 (.arr 64 .leaf) r0),(D.int .i64 e)]))
 (b1:ask O F6 [(D.int .i64 q),(D.arr 64 .leaf (ints .u8 n)),(.arr 8 (.arr 64 .leaf) k),(.arr 8 (.arr 64 .leaf) l)]=some (.tup [(.arr 8 (.arr 64 .leaf) q1),(.arr 8 (.arr 64 .leaf) r1),(D.int .i64 e)]))
 (b2:ask O F30 [(D.int .i64 q),(D.arr 64 .leaf (ints .u8 n)),(.arr 8 (.arr 64 .leaf) k),(.arr 8 (.arr 64 .leaf) l)]=some (.tup [(.arr 8 (.arr 64 .leaf) q1),(.arr 8 (.arr 64 .leaf) r1),(D.int .i64 e)]))
 (h1:D.beq (.arr 8 (.arr 64 .leaf) (.arr 64 .leaf .int)) (.arr 8 (.arr 64 .leaf) q1) (.arr 8 (.arr 64 .leaf) q1)=some true) (h2:D.beq (.arr 8 (.arr 64 .leaf) (.arr 64 .leaf .int)) (.arr 8 (.arr 64 .leaf) r1) (.arr 8 (.arr 64 .leaf) r1)=some true)
 (hq:D.flats q0=true) (hr:D.flats r0=true) (hq1:D.flats q1=true) (hr1:D.flats r1=true) (he:e≠0) :
 dn O 0 Z25_L1 ⟨skE code q 1,skH n k l⟩=some (.normal,⟨skE code q 2,skH n k l⟩):=by
 simp -implicitDefEqProofs [Z25_L1,dn_cond,wr2,a1,a2,b1,b2,h1,h2,hq,hr,hq1,hr1,he]
theorem sd_good0 {O:Oracle} {q x y:Int} {n code:List Int} {k l q0 r0 p0:List D}
 (a1:ask O F7 [(D.int .i64 q),(D.arr 64 .leaf (ints .u8 n)),(.arr 8 (.arr 64 .leaf) k),(.arr 8 (.arr 64 .leaf) l)]=some (.tup [(.arr 8 (.arr 64 .leaf) q0),(.arr 8 (.arr 64 .leaf) r0),(D.int .i64 0)]))
 (a2:ask O F31 [(D.int .i64 q),(D.arr 64 .leaf (ints .u8 n)),(.arr 8 (.arr 64 .leaf) k),(.arr 8 (.arr 64 .leaf) l)]=some (.tup [(.arr 8 (.arr 64 .leaf) q0),(.arr 8 (.arr 64 .leaf) r0),(D.int .i64 0)]))
 (h1:D.beq (.arr 8 (.arr 64 .leaf) (.arr 64 .leaf .int)) (.arr 8 (.arr 64 .leaf) q0) (.arr 8 (.arr 64 .leaf) q0)=some true) (h2:D.beq (.arr 8 (.arr 64 .leaf) (.arr 64 .leaf .int)) (.arr 8 (.arr 64 .leaf) r0) (.arr 8 (.arr 64 .leaf) r0)=some true)
 (c1:ask O Fa [(D.int .i64 q),(D.arr 64 .leaf (ints .u8 n)),(.arr 8 (.arr 64 .leaf) q0),(.arr 8 (.arr 64 .leaf) l)]=some (.tup [(.arr 8 (.arr 64 .leaf) p0),(D.int .i64 0)]))
 (c2:ask O F4 [(D.int .i64 q),(D.arr 64 .leaf (ints .u8 n)),(.arr 8 (.arr 64 .leaf) p0),(.arr 8 (.arr 64 .leaf) r0)]=some (.tup [(.arr 8 (.arr 64 .leaf) k),(D.int .i64 0)]))
 (d1:ask O Fc [(D.int .i64 q),(D.arr 64 .leaf (ints .u8 n)),(.arr 8 (.arr 64 .leaf) r0)]=some (.tup [(D.int .i64 x),(D.int .i64 0)]))
 (d2:ask O Fc [(D.int .i64 q),(D.arr 64 .leaf (ints .u8 n)),(.arr 8 (.arr 64 .leaf) l)]=some (.tup [(D.int .i64 y),(D.int .i64 0)])) (hxy:¬ y≤x)
 (h3:D.beq (.arr 8 (.arr 64 .leaf) (.arr 64 .leaf .int)) (.arr 8 (.arr 64 .leaf) k) (.arr 8 (.arr 64 .leaf) k)=some true)
 (hq:D.flats q0=true) (hr:D.flats r0=true) (hp:D.flats p0=true) (hk:D.flats k=true) :
 dn O 0 Z25_L1 ⟨skE code q 0,skH n k l⟩=some (.normal,⟨skE code q 1,skH n k l⟩):=by
 simp -implicitDefEqProofs [Z25_L1,dn_cond,wr1,a1,a2,h1,h2,h3,c1,c2,d1,d2,hxy,hq,hr,hp,hk]
theorem sd_good1 {O:Oracle} {q x y e:Int} {n code:List Int} {k l q0 r0 q1 r1 p0 p1:List D}
 (a1:ask O F7 [(D.int .i64 q),(D.arr 64 .leaf (ints .u8 n)),(.arr 8 (.arr 64 .leaf) k),(.arr 8 (.arr 64 .leaf) l)]=some (.tup [(.arr 8 (.arr 64 .leaf) q0),(.arr 8 (.arr 64 .leaf) r0),(D.int .i64 0)]))
 (a2:ask O F31 [(D.int .i64 q),(D.arr 64 .leaf (ints .u8 n)),(.arr 8 (.arr 64 .leaf) k),(.arr 8 (.arr 64 .leaf) l)]=some (.tup [(.arr 8 (.arr 64 .leaf) q0),(.arr 8 (.arr 64 .leaf) r0),(D.int .i64 0)]))
 (b1:ask O F6 [(D.int .i64 q),(D.arr 64 .leaf (ints .u8 n)),(.arr 8 (.arr 64 .leaf) k),(.arr 8 (.arr 64 .leaf) l)]=some (.tup [(.arr 8 (.arr 64 .leaf) q1),(.arr 8 (.arr 64 .leaf) r1),(D.int .i64 0)]))
 (b2:ask O F30 [(D.int .i64 q),(D.arr 64 .leaf (ints .u8 n)),(.arr 8 (.arr 64 .leaf) k),(.arr 8 (.arr 64 .leaf) l)]=some (.tup [(.arr 8 (.arr 64 .leaf) q1),(.arr 8 (.arr 64 .leaf) r1),(D.int .i64 0)]))
 (h1:D.beq (.arr 8 (.arr 64 .leaf) (.arr 64 .leaf .int)) (.arr 8 (.arr 64 .leaf) q1) (.arr 8 (.arr 64 .leaf) q1)=some true) (h2:D.beq (.arr 8 (.arr 64 .leaf) (.arr 64 .leaf .int)) (.arr 8 (.arr 64 .leaf) r1) (.arr 8 (.arr 64 .leaf) r1)=some true)
 (c0:ask O Fa [(D.int .i64 q),(D.arr 64 .leaf (ints .u8 n)),(.arr 8 (.arr 64 .leaf) q1),(.arr 8 (.arr 64 .leaf) l)]=some (.tup [(.arr 8 (.arr 64 .leaf) p0),(D.int .i64 e)]))
 (c1:ask O Fa [(D.int .i64 q),(D.arr 64 .leaf (ints .u8 n)),(.arr 8 (.arr 64 .leaf) l),(.arr 8 (.arr 64 .leaf) q1)]=some (.tup [(.arr 8 (.arr 64 .leaf) p1),(D.int .i64 0)]))
 (c2:ask O F4 [(D.int .i64 q),(D.arr 64 .leaf (ints .u8 n)),(.arr 8 (.arr 64 .leaf) p1),(.arr 8 (.arr 64 .leaf) r1)]=some (.tup [(.arr 8 (.arr 64 .leaf) k),(D.int .i64 0)]))
 (d1:ask O Fc [(D.int .i64 q),(D.arr 64 .leaf (ints .u8 n)),(.arr 8 (.arr 64 .leaf) r1)]=some (.tup [(D.int .i64 x),(D.int .i64 0)]))
 (d2:ask O Fc [(D.int .i64 q),(D.arr 64 .leaf (ints .u8 n)),(.arr 8 (.arr 64 .leaf) l)]=some (.tup [(D.int .i64 y),(D.int .i64 0)])) (hxy:¬ y≤x)
 (h3:D.beq (.arr 8 (.arr 64 .leaf) (.arr 64 .leaf .int)) (.arr 8 (.arr 64 .leaf) k) (.arr 8 (.arr 64 .leaf) k)=some true)
 (hq:D.flats q0=true) (hr:D.flats r0=true) (hq1:D.flats q1=true) (hr1:D.flats r1=true) (hp:D.flats p0=true) (hp1:D.flats p1=true) (hk:D.flats k=true) :
 dn O 0 Z25_L1 ⟨skE code q 1,skH n k l⟩=some (.normal,⟨skE code q 2,skH n k l⟩):=by
 simp -implicitDefEqProofs [Z25_L1,dn_cond,wr2,a1,a2,b1,b2,h1,h2,h3,c0,c1,c2,d1,d2,hxy,hq,hr,hq1,hr1,hp,hp1,hk]
theorem sd_end {O:Oracle} {q:Int} {n code:List Int} {k l:List D}:dn O 0 Z25_L1 ⟨skE code q 2,skH n k l⟩=some (.exit 2,⟨skE code q 2++[(229,(.d (.bool false)))],skH n k l⟩):=by
 simp -implicitDefEqProofs [Z25_L1,dn_cond]
theorem sk_end {O:Oracle} {q r u e sixteen eighteen:Int} {n o v code:List Int} {k l s t sm w pw:List D}
 (st:dn O 0 (.loop Z25_L1) ⟨skE code q 0,skH n k l⟩=some (.exit 2,⟨skE code q 2++[(229,(.d (.bool false)))],skH n k l⟩))
 (d1:ask O F32 [.sl .leaf (ints .u8 code)]=some (.tup [(D.int .i64 r),(D.arr 64 .leaf (ints .u8 o)),(.arr 8 (.arr 64 .leaf) s),(.arr 8 (.arr 64 .leaf) t)]))
 (a1:ask O F4 [(D.int .i64 r),(D.arr 64 .leaf (ints .u8 o)),(.arr 8 (.arr 64 .leaf) s),(.arr 8 (.arr 64 .leaf) t)]=some (.tup [(.arr 8 (.arr 64 .leaf) sm),(D.int .i64 sixteen)]))
 (a2:ask O F2z [(D.int .i64 r),(D.arr 64 .leaf (ints .u8 o)),(.arr 8 (.arr 64 .leaf) s),(.arr 8 (.arr 64 .leaf) t)]=some (.tup [(.arr 8 (.arr 64 .leaf) sm),(D.int .i64 sixteen)]))
 (d2:ask O F35 [.sl .leaf (ints .u8 code)]=some (.tup [(D.int .i64 u),(D.arr 64 .leaf (ints .u8 v)),(.arr 8 (.arr 64 .leaf) w),(D.int .i64 e)]))
 (b1:ask O Fb [(D.int .i64 u),(D.arr 64 .leaf (ints .u8 v)),(.arr 8 (.arr 64 .leaf) w),(D.int .i64 e)]=some (.tup [(.arr 8 (.arr 64 .leaf) pw),(D.int .i64 eighteen)]))
 (b2:ask O F38 [(D.int .i64 u),(D.arr 64 .leaf (ints .u8 v)),(.arr 8 (.arr 64 .leaf) w),(D.int .i64 e)]=some (.tup [(.arr 8 (.arr 64 .leaf) pw),(D.int .i64 eighteen)]))
 (h1:D.beq (.arr 8 (.arr 64 .leaf) (.arr 64 .leaf .int)) (.arr 8 (.arr 64 .leaf) sm) (.arr 8 (.arr 64 .leaf) sm)=some true) (h2:D.beq (.arr 8 (.arr 64 .leaf) (.arr 64 .leaf .int)) (.arr 8 (.arr 64 .leaf) pw) (.arr 8 (.arr 64 .leaf) pw)=some true)
 (fs:D.flats s=true) (ft:D.flats t=true) (fsm:D.flats sm=true) (fw:D.flats w=true) (fpw:D.flats pw=true) :
 ∃bs:List Blk,bs.length=32∧dn O 0 (dropC 8 Z25_B) ⟨[(0,.d (.sl .leaf (ints .u8 code))),(29,(.d (.int .i64 q))),(30,.ptr 14 []),(31,.ptr 15 []),(32,.ptr 16 [])],[.hole,.hole,.hole,.hole,.hole,.hole,.hole,.hole,.hole,.hole,.hole,.hole,.hole,.hole,.box false (D.arr 64 .leaf (ints .u8 n)),.box false (.arr 8 (.arr 64 .leaf) k),.box false (.arr 8 (.arr 64 .leaf) l),.hole,.hole,.hole,.hole,.hole,.hole,.hole,.hole,.hole,.hole,.hole,.hole,.hole,.hole,.hole]⟩=some (.ret,⟨[(2,(.d (.bool true)))],bs⟩):=by
 rw [Z25_B]
 refine ⟨List.replicate 32 .hole,rfl,?_⟩
 simp -implicitDefEqProofs [dropC,dn_cond,st,d1,a1,a2,d2,b1,b2,h1,h2,fs,ft,fsm,fw,fpw,List.replicate]
end Pe

namespace Pe
open Go Gq
variable {T:Nat→Option Fn} {A:Oracle}
section
variable {p:Int}
end
end Pe


namespace Pe
open Go Gq
variable {T:Nat→Option Fn} {A:Oracle}
end Pe


namespace Pe
open Go Gq
variable {T:Nat→Option Fn} {A:Oracle}
theorem eS_two {p:Int} [IsP p] (c d:Fp p):(skP (pd8 [c,d])).map arr8=(z8.set 0 (D.arr 64 .leaf (ints .u8 (pad (row c))))).set 1 (D.arr 64 .leaf (ints .u8 (pad (row d)))):=by
 have e2:skP (pd8 [c,d])=pad (row c)::pad (row d)::List.replicate 6 (pad []):=by
  show pad (row c)::pad (row d)::(List.replicate 6 (0:Fp p)).map (fun a=>pad (row a))=_
  rw [List.map_replicate,row_zero]
 rw [e2]
 rfl
end Pe

namespace Pe
open Go Gq
variable {T:Nat→Option Fn} {A:Oracle}
theorem told_ok {p:Int} {S:List (Fp p)} (h:S.length≤8):toldSkD S=.tup [eS S,(D.int .i64 0)]:=by unfold toldSkD; rw [if_pos h]
theorem told_no {p:Int} {S:List (Fp p)} (h:¬ S.length≤8):toldSkD S=.tup [eS ([]:List (Fp p)),(D.int .i64 3)]:=by unfold toldSkD; rw [if_neg h]
section
variable {p:Int} [IsP p] {m:Fp p}
theorem sk8_skP {S:List (Fp p)} (h:S.length=8):Sk8 (skP S):=⟨fun l hl=>by
 obtain ⟨a,_,rfl⟩:=List.mem_map.1 hl
 exact ⟨pad_length _,pad_bytes _⟩,by unfold skP; rw [List.length_map]; exact h⟩
theorem isSk_skP {S:List (Fp p)} (h:∀c∈S,c.len<m.len):IsSk m (skP S):=fun l hl=>by
 obtain ⟨a,ha,rfl⟩:=List.mem_map.1 hl
 exact ⟨a,h a ha,rfl⟩
theorem ms_told (hm:Fld m) {S R:List (Fp p)} (hS:∀c∈S,c.len<m.len) (hR:∀c∈R,c.len<m.len):msD p (pad (row m)) (skP S) (skP R)=toldSkD (prodS m (trimS S) (trimS R)):=by
 have h5:=hm.five
 exact msD_good ⟨_,m,rfl,hm,isSk_skP hS,isSk_skP hR⟩ (by omega) (fun a ha=>by have:=hS a ha; omega) (fun a ha=>by have:=hR a ha; omega)
theorem code_one (hm:Fld m) {S:List (Fp p)} (hS:∀c∈S,c.len<m.len):codeSk p (pad (row m)) [skP S]=0:=(codeSk_one hm).2 (isSk_skP hS)
theorem code_two (hm:Fld m) {S R:List (Fp p)} (hS:∀c∈S,c.len<m.len) (hR:∀c∈R,c.len<m.len):codeSk p (pad (row m)) [skP S,skP R]=0:=codes_ms.2 ⟨_,m,rfl,hm,isSk_skP hS,isSk_skP hR⟩
end
theorem same_S {ls:List (List Int)} (h:Sh8 ls):D.beq (.arr 8 (.arr 64 .leaf) (.arr 64 .leaf .int)) (.arr 8 (.arr 64 .leaf) (ls.map arr8)) (.arr 8 (.arr 64 .leaf) (ls.map arr8))=some true:=by rw [beq_S h h,decide_eq_true rfl]
theorem sk_partB (hmu:K_MultiplySkews (den T A) Fa) (hdg:K_DegreeOf (den T A)) (hro:H_roll (den T A)) (hbl:H_next (den T A) F27) (hvl:K_ValueOfSkew (den T A) Fe) (t:Cd)
 {code:List Int} (hb:Bytes code) (hc4:code.length≤4096) {p one q:Int} {m n:List Int} {f g pr k l:List (List Int)} (am:Arr m) (sf:Sk8 f) (sg:Sk8 g) (em:msD p m f g=.tup [skwD pr,(D.int .i64 one)])
 (d2:ask (den T A) F33 [.sl .leaf (ints .u8 code)]=some (.tup [(D.int .i64 q),(D.arr 64 .leaf (ints .u8 n)),.arr 8 (.arr 64 .leaf) (k.map arr8),.arr 8 (.arr 64 .leaf) (l.map arr8)])) :
 dn (den T A) 0 (cutC 2 (dropC 6 Z25_B) t) ⟨[(0,.d (.sl .leaf (ints .u8 code))),(3,(.d (.int .i64 p))),(4,.ptr 0 []),(5,.ptr 1 []),(6,.ptr 2 []),(7,.ptr 3 []),(8,(.d (.int .i64 one))),(107,(.d (.bool false)))],.box false (D.arr 64 .leaf (ints .u8 m)) :: .box false (.arr 8 (.arr 64 .leaf) (f.map arr8)) :: .box false (.arr 8 (.arr 64 .leaf) (g.map arr8)) :: .box false (.arr 8 (.arr 64 .leaf) (pr.map arr8))::List.replicate 28 .hole⟩ =
  dn (den T A) 0 t ⟨[(0,.d (.sl .leaf (ints .u8 code))),(29,(.d (.int .i64 q))),(30,.ptr 14 []),(31,.ptr 15 []),(32,.ptr 16 [])],List.replicate 14 .hole ++ .box false (D.arr 64 .leaf (ints .u8 n)) :: .box false (.arr 8 (.arr 64 .leaf) (k.map arr8)) :: .box false (.arr 8 (.arr 64 .leaf) (l.map arr8))::List.replicate 15 .hole⟩:=by
 by_cases h1:one=0
 ·subst h1
  have h:MsOk p m f g:=Classical.byContradiction fun h=>by
   rw [msD_bad h] at em
   simp at em
  obtain ⟨ip,M,rfl,hm,hs,hr⟩:=h
  obtain ⟨S,rfl,hS⟩:=sk_of hs
  obtain ⟨R,rfl,hR⟩:=sk_of hr
  have hS8:S.length=8:=by have:=sf.2; rwa [List.length_map] at this
  have hR8:R.length=8:=by have:=sg.2; rwa [List.length_map] at this
  have h5:=hm.five
  have h2:=hm.two
  have hX:=Sk.of8 hS8 hS
  have hY:=Sk.of8 hR8 hR
  rw [show S.map (fun a=>pad (row a))=skP S from rfl,show R.map (fun a=>pad (row a))=skP R from rfl] at *
  rw [ms_told hm hS hR] at em
  have hPl:(prodS M (trimS S) (trimS R)).length≤8:=Classical.byContradiction fun h=>by
   rw [told_no h] at em
   simp at em
  rw [told_ok hPl] at em
  have hpr:(skP (pd8 (prodS M (trimS S) (trimS R)))).map arr8=pr.map arr8:=by simpa [skwD] using em
  rw [←hpr]
  have tP:=isTrim_prod M (trimS S) (trimS R)
  have rP:=prod_res hm (trimS S) (trimS R)
  have assoc:=fun Z hZ=>prod_assoc hm (X:=trimS S) (Y:=trimS R) (Z:=Z) hY.res hZ
  have value:=fun x (hx:x.len<M.len)=>prod_value hm (X:=trimS S) (Y:=trimS R) (x:=x) hY.res hx
  generalize prodS M (trimS S) (trimS R)=P at *
  have hP8:=pd8_length hPl
  have rP8:=pd8_res hm.mon.2 rP
  obtain ⟨b1,r1,hs1⟩:=hro code 1801 hb hc4
  have g1:=hdg p M (by omega)
  rw [show (M.len:Int)-1=((M.len-1:Nat):Int) by omega] at g1
  obtain ⟨b2,Q,hs2,hQ,st⟩:=l_skx (O:=den T A) hbl (one:=0) (m:=pad (row M)) (code:=code) (f:=(skP S).map arr8) (g:=(skP R).map arr8) (pr:=(skP (pd8 P)).map arr8) (n:=M.len-1) (by omega) (M.len-1) 0 b1 (pad []) (by omega) hs1 (.zero p _)
  rw [show ((0:Nat):Int)=0 from rfl] at st
  obtain ⟨q1,q2⟩:=hQ.pol
  rw [q1] at st
  generalize polOf p Q=x at *
  have hx:x.len<M.len:=by omega
  have h0:M≠0:=hm.mon.2
  have hz:(0:Fp p).len<M.len:=by rw [Pol.len_zero]; exact Pol.len_pos h0
  have hy:(svI M x 0 R 0).len<M.len:=svI_len h0 0 _ 0 hz
  have v1:=hvl p (pad (row M)) (skP R) (pad (row x)) am.2 am.1 sg (pad_bytes _) (pad_length _)
  rw [vsD_good ⟨_,M,rfl,hm,isSk_skP hR,x,hx,rfl⟩ (by omega) (by omega) (fun a ha=>by have:=hR a ha; omega)] at v1
  have v2:=hvl p (pad (row M)) (skP S) (pad (row (svI M x 0 R 0))) am.2 am.1 sf (pad_bytes _) (pad_length _)
  rw [vsD_good ⟨_,M,rfl,hm,isSk_skP hS,_,hy,rfl⟩ (by omega) (by omega) (fun a ha=>by have:=hS a ha; omega)] at v2
  have v3:=hvl p (pad (row M)) (skP (pd8 P)) (pad (row x)) am.2 am.1 (sk8_skP hP8) (pad_bytes _) (pad_length _)
  rw [vsD_good ⟨_,M,rfl,hm,isSk_skP rP8,x,hx,rfl⟩ (by omega) (by omega) (fun a ha=>by have:=rP8 a ha; omega)] at v3
  have ev:svI M x 0 (pd8 P) 0=svI M (svI M x 0 R 0) 0 S 0:=by
   rw [←svI_trim h0 (pd8 P),trim_pd8 tP,value x hx,svI_trim h0,svI_trim h0]
  rw [ev] at v3
  obtain ⟨s0,S',rfl⟩:∃s0 S',S=s0::S':=by
   cases S with
   | nil=>simp at hS8
   | cons a b=>exact ⟨a,b,rfl⟩
  obtain ⟨r0,R',rfl⟩:∃r0 R',R=r0::R':=by
   cases R with
   | nil=>simp at hR8
   | cons a b=>exact ⟨a,b,rfl⟩
  have hH:∀c∈pd8 [s0,r0],c.len<M.len:=pd8_res hm.mon.2 fun c hc=>by
   simp at hc
   rcases hc with rfl | rfl
   ·exact hS _ (by simp)
   ·exact hR _ (by simp)
  have hH8:(pd8 [s0,r0]).length=8:=pd8_length (by simp)
  have rZ:∀c∈trimS (pd8 [s0,r0]),c.len<M.len:=(Sk.of8 hH8 hH).res
  have c1:=hmu p (pad (row M)) (skP (pd8 P)) (skP (pd8 [s0,r0])) am.2 am.1 (sk8_skP hP8) (sk8_skP hH8)
  rw [ms_told hm rP8 hH,trim_pd8 tP] at c1
  have c2:=hmu p (pad (row M)) (skP (r0::R')) (skP (pd8 [s0,r0])) am.2 am.1 sg (sk8_skP hH8)
  rw [ms_told hm hR hH] at c2
  rw [show skwD (skP (pd8 [s0,r0]))=.arr 8 (.arr 64 .leaf) ((skP (pd8 [s0,r0])).map arr8) from rfl,eS_two] at c1 c2
  have as:=assoc (trimS (pd8 [s0,r0])) rZ
  obtain ⟨b,eight,e2,fb,hb8⟩:∃(b:List (List Int)) (eight:Int),toldSkD (prodS M (trimS (r0::R')) (trimS (pd8 [s0,r0])))=.tup [skwD b,(D.int .i64 eight)]∧Sk8 b∧((eight≠0)∨(eight=0∧b=skP (pd8 (prodS M (trimS (r0::R')) (trimS (pd8 [s0,r0]))))∧(prodS M (trimS (r0::R')) (trimS (pd8 [s0,r0]))).length≤8)):=by
   by_cases hl:(prodS M (trimS (r0::R')) (trimS (pd8 [s0,r0]))).length≤8
   ·exact ⟨_,0,told_ok hl,sk8_skP (pd8_length hl),.inr ⟨rfl,rfl,hl⟩⟩
   ·exact ⟨_,3,told_no hl,sk8_skP (pd8_length (by simp)),.inl (by omega)⟩
  rw [e2] at c2
  have c3:=hmu p (pad (row M)) (skP (s0::S')) b am.2 am.1 sf fb
  obtain ⟨a,seven,e1,ga⟩:=toldSkD_form (prodS M P (trimS (pd8 [s0,r0])))
  obtain ⟨c,nine,e3,gc⟩:=msD_form p (pad (row M)) (skP (s0::S')) b
  have hfin:seven≠0∨seven=0∧(eight≠0∨eight=0∧nine=0∧D.beq (.arr 8 (.arr 64 .leaf) (.arr 64 .leaf .int)) (.arr 8 (.arr 64 .leaf) (a.map arr8)) (.arr 8 (.arr 64 .leaf) (c.map arr8))=some true):=by
   by_cases h7:seven=0
   ·refine .inr ⟨h7,?_⟩
    rcases hb8 with h8 | ⟨h8,rfl,hl⟩
    ·exact .inl h8
    ·refine .inr ⟨h8,?_⟩
     rw [ms_told hm hS (pd8_res hm.mon.2 (prod_res hm _ _)),trim_pd8 (isTrim_prod _ _ _),←as,e1] at e3
     have h9:skwD a=skwD c∧seven=nine:=by simpa using e3
     refine ⟨by omega,?_⟩
     have h10:a.map arr8=c.map arr8:=by simpa [skwD] using h9.1
     rw [←h10,same_S ga]
   ·exact .inl h7
  rw [e1] at c1
  rw [e3] at c3
  obtain ⟨_,_,_,rfl,_⟩:=hs1
  obtain ⟨_,_,_,rfl,_⟩:=hs2
  exact sk_yes t g1 r1 st v1 v2 v3 (by rw [beq_P (pad_length _) (pad_length _),decide_eq_true rfl]) c1 c2 c3 hfin (by simpa using hS8) (by simpa using hR8) (flats_arr8 _) (flats_arr8 _) (flats_arr8 _) d2 (flats_arr8 _) (flats_arr8 _)
 ·exact sk_no t h1 d2 (flats_arr8 _) (flats_arr8 _)
end Pe

namespace Pe
open Go Gq
variable {T:Nat→Option Fn} {A:Oracle}
theorem sk_partC (hmu:K_MultiplySkews (den T A) Fa) (had:K_AddSkews (den T A) F4) (hsd:K_SkewDegree (den T A))
 (hdr:K_Divide (den T A) F7 false) (hdrs:K_Divide (den T A) F31 false) (hdl:K_Divide (den T A) F6 true) (hdls:K_Divide (den T A) F30 true)
 {code:List Int} {q:Int} {n:List Int} {k l:List (List Int)} (an:Arr n) (sk:Sk8 k) (sl:Sk8 l) :
 dn (den T A) 0 (.loop Z25_L1) ⟨skE code q 0,skH n (k.map arr8) (l.map arr8)⟩=some (.exit 2,⟨skE code q 2++[(229,(.d (.bool false)))],skH n (k.map arr8) (l.map arr8)⟩):=by
 have a1:=hdr q n k l an.2 an.1 sk sl
 have a2:=hdrs q n k l an.2 an.1 sk sl
 have b1:=hdl q n k l an.2 an.1 sk sl
 have b2:=hdls q n k l an.2 an.1 sk sl
 by_cases h:dvC q n k l=0
 ·obtain ⟨ip,m,S,R,rfl,rfl,rfl,hm,hS8,hR8,hS,hR,h1⟩:=dvC_zero sk sl h
  have h5:=hm.five
  have hX:=Sk.of8 hS8 hS
  have hB:=Sk.of8 hR8 hR
  rw [dvD_good hm hS8 hR8 hS hR h1] at a1 a2 b1 b2
  obtain ⟨f1,f2,f3⟩:=divG_ok false hm hB h1 (trimS S).length [] (trimS S) (Nat.le_refl _) (Sk.nil m) hX
  obtain ⟨f4,f5⟩:=divG_back false hm hX hB h1
  obtain ⟨g1,g2,g3⟩:=divG_ok true hm hB h1 (trimS S).length [] (trimS S) (Nat.le_refl _) (Sk.nil m) hX
  obtain ⟨g4,g5⟩:=divG_back true hm hX hB h1
  generalize divG false m (trimS R) (trimS S).length [] (trimS S)=U at *
  generalize divG true m (trimS R) (trimS S).length [] (trimS S)=V at *
  have rU:=pd8_res hm.mon.2 f1.res
  have rU2:=pd8_res hm.mon.2 f2.res
  have rV:=pd8_res hm.mon.2 g1.res
  have rV2:=pd8_res hm.mon.2 g2.res
  have rP:=pd8_res hm.mon.2 f4.res
  have rQ:=pd8_res hm.mon.2 g4.res
  have sU:=sk8_skP (pd8_length f1.eight)
  have sU2:=sk8_skP (pd8_length f2.eight)
  have sV:=sk8_skP (pd8_length g1.eight)
  have sV2:=sk8_skP (pd8_length g2.eight)
  have sP:=sk8_skP (pd8_length f4.eight)
  have sQ:=sk8_skP (pd8_length g4.eight)
  have c1:=hmu q (pad (row m)) (skP (pd8 U.1)) (skP R) an.2 an.1 sU sl
  rw [ms_told hm rU hR,trim_pd8 f1.trim,show prodS m U.1 (trimS R)=sideS false m (trimS R) U.1 from rfl,told_ok f4.eight] at c1
  have c2:=had q (pad (row m)) (skP (pd8 (sideS false m (trimS R) U.1))) (skP (pd8 U.2)) an.2 an.1 sP sU2
  rw [asD_good hm rP rU2 (code_two hm rP rU2),trim_pd8 f4.trim,trim_pd8 f2.trim,f5,show eS (trimS S)=skwD (skP S) by unfold eS; rw [pd8_trim hS8]] at c2
  have d1:=hsd q (pad (row m)) (skP (pd8 U.2)) an.2 an.1 sU2
  rw [sgD_good hm rU2 (code_one hm rU2),trim_pd8 f2.trim] at d1
  have d2:=hsd q (pad (row m)) (skP R) an.2 an.1 sl
  rw [sgD_good hm hR (code_one hm hR)] at d2
  have c3:=hmu q (pad (row m)) (skP R) (skP (pd8 V.1)) an.2 an.1 sl sV
  rw [ms_told hm hR rV,trim_pd8 g1.trim,show prodS m (trimS R) V.1=sideS true m (trimS R) V.1 from rfl,told_ok g4.eight] at c3
  have c4:=had q (pad (row m)) (skP (pd8 (sideS true m (trimS R) V.1))) (skP (pd8 V.2)) an.2 an.1 sQ sV2
  rw [asD_good hm rQ rV2 (code_two hm rQ rV2),trim_pd8 g4.trim,trim_pd8 g2.trim,g5,show eS (trimS S)=skwD (skP S) by unfold eS; rw [pd8_trim hS8]] at c4
  have d3:=hsd q (pad (row m)) (skP (pd8 V.2)) an.2 an.1 sV2
  rw [sgD_good hm rV2 (code_one hm rV2),trim_pd8 g2.trim] at d3
  have c0:=hmu q (pad (row m)) (skP (pd8 V.1)) (skP R) an.2 an.1 sV sl
  obtain ⟨p0,e,e0,-⟩:=msD_form q (pad (row m)) (skP (pd8 V.1)) (skP R)
  rw [e0] at c0
  have x1:=sd_good0 (code:=code) a1 a2 (same_S (eS_sh f1)) (same_S (eS_sh f2)) c1 c2 d1 d2 (by omega) (same_S (sh8_skP hS8)) (flats_arr8 _) (flats_arr8 _) (flats_arr8 _) (flats_arr8 _)
  have x2:=sd_good1 (code:=code) a1 a2 b1 b2 (same_S (eS_sh g1)) (same_S (eS_sh g2)) c0 c3 c4 d3 d2 (by omega) (same_S (sh8_skP hS8)) (flats_arr8 _) (flats_arr8 _) (flats_arr8 _) (flats_arr8 _) (flats_arr8 _) (flats_arr8 _) (flats_arr8 _)
  exact dn_round x1 (dn_round x2 (dn_stop sd_end))
 ·rw [dvD_bad h] at a1 a2 b1 b2
  have x1:=sd_bad0 (code:=code) a1 a2 (same_S sh8_zero) (same_S sh8_zero) (flats_arr8 _) (flats_arr8 _) h
  have x2:=sd_bad1 (code:=code) a1 a2 b1 b2 (same_S sh8_zero) (same_S sh8_zero) (flats_arr8 _) (flats_arr8 _) (flats_arr8 _) (flats_arr8 _) h
  exact dn_round x1 (dn_round x2 (dn_stop sd_end))
def L_Skews (O:Oracle):Prop:=∀code:List Int,Bytes code→code.length≤9223372036854775807→ask O F25 [.sl .leaf (ints .u8 code)]=some (D.bool true)
theorem law_Skews (hT:T F25=some Z25) (hbig:C_big (den T A)) (hdm:H_l03Both (den T A) F34) (hdd:H_l03Both (den T A) F33) (hda:H_l03Both (den T A) F32) (hdp:H_DrawPowerOfSkew (den T A))
 (hmu:K_MultiplySkews (den T A) Fa) (hmus:K_MultiplySkews (den T A) F37) (his:K_IsSkew (den T A) F9) (hiss:K_IsSkew (den T A) F36)
 (hdg:K_DegreeOf (den T A)) (hro:H_roll (den T A)) (hbl:H_next (den T A) F27) (hvl:K_ValueOfSkew (den T A) Fe)
 (hdr:K_Divide (den T A) F7 false) (hdrs:K_Divide (den T A) F31 false) (hdl:K_Divide (den T A) F6 true) (hdls:K_Divide (den T A) F30 true)
 (had:K_AddSkews (den T A) F4) (hads:K_AddSkews (den T A) F2z) (hsd:K_SkewDegree (den T A)) (hpo:K_PowerOfSkew (den T A) Fb) (hpos:K_PowerOfSkew (den T A) F38):L_Skews (den T A):=by
 intro code hb hl
 have e0:=hbig (ints .u8 code)
 by_cases hc:(4096:Int)<(ints .u8 code).length
 ·rw [decide_eq_true hc] at e0
  refine ask_of hT rfl ?_
  simp -implicitDefEqProofs [Z25,Z25_B,dn_cond,e0]
 rw [decide_eq_false hc] at e0
 have hc4:code.length≤4096:=by
  rw [ints_length] at hc
  omega
 obtain ⟨p,m,f,g,d1,am,sf,sg⟩:=hdm code hb hc4
 obtain ⟨q,n,k,l,d2,an,sk,sl⟩:=hdd code hb hc4
 obtain ⟨r,o,s,t,d3,ao,ss,st⟩:=hda code hb hc4
 obtain ⟨u,v,w,e,d4,av,sw⟩:=hdp code hb hc4
 have m1:=hmu p m f g am.2 am.1 sf sg
 have m2:=hmus p m f g am.2 am.1 sf sg
 obtain ⟨pr,one,em,gp⟩:=msD_form p m f g
 rw [em] at m1 m2
 have i1:=his p m f am.2 am.1 sf
 have i2:=hiss p m f am.2 am.1 sf
 have top:=sk_top (O:=den T A) (cutC 2 (dropC 6 Z25_B) (dropC 8 Z25_B)) e0 d1 m1 m2 i1 i2 (same_S gp) (flats_arr8 _) (flats_arr8 _) (flats_arr8 _)
 have mid:=sk_partB hmu hdg hro hbl hvl (dropC 8 Z25_B) hb hc4 am sf sg em d2
 have lp:=sk_partC hmu had hsd hdr hdrs hdl hdls (code:=code) (q:=q) an sk sl
 have a1:=had r o s t ao.2 ao.1 ss st
 have a2:=hads r o s t ao.2 ao.1 ss st
 obtain ⟨sm,c1,ea,ga⟩:=asD_form r o ss st
 rw [ea] at a1 a2
 have b1:=hpo u v w e av.2 av.1 sw
 have b2:=hpos u v w e av.2 av.1 sw
 obtain ⟨pw,c2,eb,gb⟩:=pwD_form u v sw e
 rw [eb] at b1 b2
 obtain ⟨bs,hbs,fin⟩:=sk_end lp d3 a1 a2 d4 b1 b2 (same_S ga) (same_S gb) (flats_arr8 _) (flats_arr8 _) (flats_arr8 _) (flats_arr8 _) (flats_arr8 _)
 have all:=top.trans (mid.trans fin)
 rw [←sk_B1,←sk_B] at all
 refine ask_of hT rfl ?_
 simp -implicitDefEqProofs [Z25,all,hbs]
end Pe

namespace Pe
open Go Gq
abbrev tyB:Ty:=.sl (.int .u8)
theorem has_B {d:D} (h:tyB.has d):∃l:List Int,d=.sl .leaf (ints .u8 l)∧Bytes l∧l.length≤9223372036854775807:=by
 cases d <;> simp only [Ty.has] at h
 obtain ⟨rfl,h1,h2⟩:=h
 obtain ⟨l,rfl,hb⟩:=has_bytes _ h2
 exact ⟨l,rfl,hb,by simpa [ints] using h1⟩
end Pe
