/-
  A part of the proof: an evaluator for a small form of the code, its soundness, and contracts of functions over it.
-/
import Derived.Test.YtjanjcnncilddabGreatW1
import Derived.Test.YtjanjcnncilddabGreatW2
import Derived.Test.YtjanjcnncilddabGreatW3
import Derived.Test.YtjanjcnncilddabGreatW4
import Derived.Test.YtjanjcnncilddabGreatW5
import Derived.Test.YtjanjcnncilddabGreatW6

namespace Pe
open Go Gq
section
variable {p:Int} {m:Fp p}
theorem G5 (f g:Nat→Quo m):∀n,gj (fun i=>f i+g i) n=gj f n+gj g n
 | 0=>(Gq.add_zero _).symm
 | n+1=>by
  show gj (fun i=>f i+g i) n+(f n+g n)=(gj f n+f n)+(gj g n+g n)
  rw [G5 f g n];exact bo [gj f n,gj g n,f n,g n] rfl
theorem yl (c:Quo m) (f:Nat→Quo m):∀n,gj (fun i=>c*f i) n=c*gj f n
 | 0=>(Gq.mul_zero _).symm
 | n+1=>by
  show gj (fun i=>c*f i) n+c*f n=c*(gj f n+f n)
  rw [yl c f n,Gq.mul_add]
theorem Ok (c:Quo m) (f:Nat→Quo m):∀n,gj (fun i=>f i*c) n=gj f n*c
 | 0=>(Gq.zero_mul _).symm
 | n+1=>by
  show gj (fun i=>f i*c) n+f n*c=(gj f n+f n)*c
  rw [Ok c f n,Gq.add_mul]
theorem a03 [IsP p] (k:Nat) (f:Nat→Quo m):∀n,sg k (gj f n)=gj (fun i=>sg k (f i)) n
 | 0=>tz k
 | n+1=>by
  show sg k (gj f n+f n)=gj (fun i=>sg k (f i)) n+sg k (f n)
  rw [Ez,a03 k f n]
theorem Ui (f:Nat→Nat→Quo m):∀n,gj (fun j=>gj (fun i=>f i (j-i)) (j+1)) n=gj (fun i=>gj (fun k=>f i k) (n-i)) n
 | 0=>rfl
 | n+1=>by
  show gj (fun j=>gj (fun i=>f i (j-i)) (j+1)) n+gj (fun i=>f i (n-i)) (n+1)=gj (fun i=>gj (fun k=>f i k) (n+1-i)) n+gj (fun k=>f n k) (n+1-n)
  have e:gj (fun i=>gj (fun k=>f i k) (n+1-i)) n=gj (fun i=>gj (fun k=>f i k) (n-i)+f i (n-i)) n:=i4 n fun i hi=>by
   rw [show n+1-i=(n-i)+1 by omega]; rfl
  have e2:gj (fun k=>f n k) (n+1-n)=0+f n 0:=by rw [show n+1-n=0+1 by omega]; rfl
  have e3:gj (fun i=>f i (n-i)) (n+1)=gj (fun i=>f i (n-i)) n+f n 0:=by
   show _+f n (n-n)=_;rw [nz]
  rw [e,e2,e3,G5,Ui f n];exact bo [gj (fun i=>gj (fun k=>f i k) (n-i)) n,gj (fun i=>f i (n-i)) n,f n 0] rfl
theorem cv_assoc [IsP p] (X Y Z:Nat→Quo m) (n:Nat):cv (cv X Y) Z n=cv X (cv Y Z) n:=by
 have e1:cv (cv X Y) Z n=gj (fun j=>gj (fun i=>(fun i k=>X i*sg i (Y k)*sg (i+k) (Z (n-i-k))) i (j-i)) (j+1)) (n+1):=i4 _ fun j hj=>by
  show gj (fun i=>X i*sg i (Y (j-i))) (j+1)*sg j (Z (n-j))=_
  rw [←Ok]
  exact i4 _ fun i hi=>by
   show _=X i*sg i (Y (j-i))*sg (i+(j-i)) (Z (n-i-(j-i)));rw [show i+(j-i)=j by omega,show n-i-(j-i)=n-j by omega]
 have e2:cv X (cv Y Z) n=gj (fun i=>gj (fun k=>(fun i k=>X i*sg i (Y k)*sg (i+k) (Z (n-i-k))) i k) (n+1-i)) (n+1):=i4 _ fun i hi=>by
  show X i*sg i (gj (fun k=>Y k*sg k (Z (n-i-k))) (n-i+1))=_
  rw [a03,←yl,show n+1-i=n-i+1 by omega]
  exact i4 _ fun k hk=>by
   show X i*sg i (Y k*sg k (Z (n-i-k)))=X i*sg i (Y k)*sg (i+k) (Z (n-i-k));rw [uy,T4,Gq.mul_assoc]
 rw [e1,e2];exact Ui (fun i k=>X i*sg i (Y k)*sg (i+k) (Z (n-i-k))) (n+1)
theorem Tb [IsP p] (X X' Y:Nat→Quo m) (n:Nat):cv (fun i=>X i+X' i) Y n=cv X Y n+cv X' Y n:=by
 unfold cv;rw [←G5];exact i4 _ fun i _=>Gq.add_mul _ _ _
theorem a0f [IsP p] (X Y Y':Nat→Quo m) (n:Nat):cv X (fun i=>Y i+Y' i) n=cv X Y n+cv X Y' n:=by
 unfold cv;rw [←G5];exact i4 _ fun i _=>by rw [Ez,Gq.mul_add]
theorem Ex (Y:Nat→Quo m) (n:Nat):cv (fun _=>0) Y n=0:=vu _ fun i _=>Gq.zero_mul _
variable [IsP p]
theorem a78 {A:List (Fp p)} (hm:Fld m) (h:∀c∈A,c.len<m.len) (i:Nat):(cS A i).len<m.len:=by
 have h1:=Pol.len_pos hm.mon.2;have:=Do (N:=m.len-1) (fun c hc=>by have:=h c hc; omega) i
 omega
theorem aeo {A B:List (Fp p)} (hm:Fld m) (tA:km A) (tB:km B) (hA:∀c∈A,c.len<m.len) (hB:∀c∈B,c.len<m.len) (h:∀n,qcf m A n=qcf m B n):A=B:=
 Nj tA tB fun i=>a6b hm.mon.2 (a78 hm hA i) (a78 hm hB i) (h i)
end
section
variable {p:Int} {m:Fp p}
theorem V8 (k:Int) (X Y:List (Fp p)) (n:Nat):qcf m (f4 k X Y) n=qcf m X n+Quo.mk m (Pol.C (zp p k))*qcf m Y n:=by
 unfold qcf;rw [xi,Quo.mk_add,Quo.mk_mul]
theorem a1h (X Y:List (Fp p)) (n:Nat):qcf m (f4 1 X Y) n=qcf m X n+qcf m Y n:=by
 rw [V8,t9,Pol.C_one,Quo.mk_one,Gq.one_mul]
theorem P9 (X Y:List (Fp p)) (n:Nat):qcf m (f4 (-1) X Y) n=qcf m X n-qcf m Y n:=by
 rw [V8,Bp,t9,Pol.C_neg,Pol.C_one,Quo.mk_neg,Quo.mk_one];exact bo [qcf m X n,qcf m Y n] rfl
end
section
variable {p:Int} {m:Fp p}
variable [IsP p]
noncomputable def Eg (left:Bool) (m:Fp p) (B Q:List (Fp p)):List (Fp p):=if left then ee m B Q else ee m Q B
theorem Gv (left:Bool) (hm:Fld m) {B Q:List (Fp p)} (hB:∀c∈B,c.len<m.len) (hQ:∀c∈Q,c.len<m.len) (n:Nat):qcf m (Eg left m B Q) n=if left then cv (qcf m B) (qcf m Q) n else cv (qcf m Q) (qcf m B) n:=by
 unfold Eg;cases left with
 | true=>simp only [if_true]; exact En hm hQ B n
 | false=>simp only [b9,if_false]; exact En hm hB Q n
theorem a3g (left:Bool) (hm:Fld m) {B Q R:List (Fp p)} (hB:Sk m B) (hQ:Sk m Q) (hR:Sk m R) (n:Nat):qcf m (Eg left m B (f4 1 Q R)) n=qcf m (Eg left m B Q) n+qcf m (Eg left m B R) n:=by
 have h:=hQ.plus hm.mon.2 hR 1;rw [Gv left hm hB.res h.res,Gv left hm hB.res hQ.res,Gv left hm hB.res hR.res,show qcf m (f4 1 Q R)=fun i=>qcf m Q i+qcf m R i from funext fun i=>a1h Q R i]
 cases left with
 | true=>simp only [if_true]; exact a0f _ _ _ n
 | false=>simp only [b9,if_false]; exact Tb _ _ _ n
theorem Vy (left:Bool) (hm:Fld m) {B:List (Fp p)} (hB:Sk m B) (h1:1≤B.length):∀(n:Nat) (Q A:List (Fp p)),Sk m Q→Sk m A→∀i,qcf m (Eg left m B (dx left m B n Q A).1) i+qcf m (dx left m B n Q A).2 i=qcf m (Eg left m B Q) i+qcf m A i
 | 0,_,_,_,_,_=>rfl
 | n+1,Q,A,hQ,hA,i=>by
  unfold dx
  split
  ·rfl
  ·obtain ⟨_,_,hT,hP,hl,hA'⟩:=Af left hm hA hB h1 (by omega)
   rw [Vy left hm hB h1 n _ _ (hQ.plus hm.mon.2 hT 1) hA' i,a3g left hm hB hQ hT,P9];have e:Eg left m B (qT left m A B)=qP left m A B:=rfl;rw [e];exact bo [qcf m (Eg left m B Q) i,qcf m (qP left m A B) i,qcf m A i] rfl
end
end Pe

namespace Pe
open Go Gq
variable {T:Nat→Option Fn} {A:ah}
theorem Vo {p:Int} [IsP p] {m:Fp p} (hm:Fld m) {ls:List (List Int)}:eg p (pad (row m)) [ls]=0↔oq m ls:=by
 have h5:=hm.five;unfold eg;constructor
 ·intro h
  split at h
  ·rename_i g
   obtain ⟨ip,m',e,_,g2⟩:=g;obtain rfl:=(pa (by omega) (by have:=‹Fld m'›.five; omega)).1 e
   exact g2 ls (by simp)
  ·cases h
 ·intro h
  exact if_pos ⟨_,m,rfl,hm,fun x hx=>by simp at hx; subst hx; exact h⟩
open Classical in
noncomputable def sgD (p:Int) (l:List Int) (ls:List (List Int)):D:=
 if h:eg p l [ls]=0 then
  haveI:IsP p:=(aa3 h).choose
  .tup [(D.int .i64 (((az (ls.map (ew p))).length:Int)-1)),(D.int .i64 0)]
 else .tup [(D.int .i64 0),(D.int .i64 (eg p l [ls]))]
theorem aaf {p:Int} {l:List Int} {ls:List (List Int)} (h:¬ eg p l [ls]=0):sgD p l ls=.tup [(D.int .i64 0),(D.int .i64 (eg p l [ls]))]:=by unfold sgD; rw [dif_neg h]
theorem yp {p:Int} [IsP p] {m:Fp p} {S:List (Fp p)} (hm:Fld m) (hS:∀c∈S,c.len<m.len) (h:eg p (pad (row m)) [skP S]=0):sgD p (pad (row m)) (skP S)=.tup [(D.int .i64 (((az S).length:Int)-1)),(D.int .i64 0)]:=by
 have h5:=hm.five;unfold sgD;rw [dif_pos h,kh (S:=S) (fun a ha=>by have:=hS a ha; omega)]
def su (O:ah):Prop:=∀(p:Int) (l:List Int) (ls:List (List Int)),g9 l→l.length=64→Sk8 ls→ask O Fb [(D.int .i64 p),(D.arr 64 .leaf (ab .u8 l)),da ls]=some (sgD p l ls)
theorem Sl (hT:T Fb=some Zb) (hsc:fp (den T A) F27) (hsk:sr (den T A)) (hdg:L1 (den T A)):su (den T A):=by
 intro p l ls bl gl h8;have e1:=hsc p l [ls] bl gl (by intro x hx; simp at hx; subst hx; exact h8) (by simp)
 rw [show List.map da [ls]=[da ls] from rfl] at e1;rw [show da ls=.arr 8 (.arr 64 .leaf) (ls.map aw) from rfl] at e1 ⊢
 by_cases h:eg p l [ls]=0
 ·rw [h] at e1
  obtain ⟨ip,m,S,rfl,rfl,hm,hS8,hS⟩:=aap h8 h;have h5:=hm.five;rw [yp hm hS h];have e2:=hsk p S hS8 (fun a ha=>by have:=hS a ha; omega)
  have e3:=hdg p (az S) (by have:=v5 S; omega)
  rw [show da (skP S)=.arr 8 (.arr 64 .leaf) ((skP S).map aw) from rfl,show skD (az S)=.sl .leaf ((az S).map fun c=>(D.sl .leaf (ab .i64 (row c)))) from rfl] at e2
  rw [show skD (az S)=.sl .leaf ((az S).map fun c=>(D.sl .leaf (ab .i64 (row c)))) from rfl] at e3
  refine bi hT rfl ?_;generalize (skP S).map aw=D1 at *;generalize ((az S).map fun c=>(D.sl .leaf (ab .i64 (row c))))=D2 at *
  generalize ((az S).length:Int)-1=n1 at *;generalize pad (row m)=PM at *;simp -implicitDefEqProofs [Zb,Zb_B,ac,e1,e2,e3]
 ·rw [aaf h]
  refine bi hT rfl ?_;generalize eg p l [ls]=k at *;generalize ls.map aw=D1 at *;simp -implicitDefEqProofs [Zb,Zb_B,ac,e1,h]
end Pe

namespace Pe
open Go Gq
variable {T:Nat→Option Fn} {A:ah}
theorem Tq {O:ah} {ls:List (List Int)} (h:∀l∈ls,l.length=64) (hl:ls.length<2000000):∀(k i:Nat),i+k=ls.length →
 dn O 0 (.loop Z2d_L0) ⟨[(0,.d (.sl (.arr 64 .leaf) (ls.map aw))),(1,.d (.sl (.arr 64 .leaf) (ls.map aw))),(5,(.d (.int .i64 i)))],[]⟩ =
  some (.exit 0,⟨[(0,.d (.sl (.arr 64 .leaf) (ls.map aw))),(1,.d (.sl (.arr 64 .leaf) (ls.map aw))),(5,(.d (.int .i64 ls.length))),(14,(.d (.bool false)))],[]⟩)
 | 0,i,hi=>by
  obtain rfl:i=ls.length:=by omega
  have hL:(ls.map aw).length=ls.length:=ap ..;refine bt ?_;generalize ls.map aw=LD at *;simp -implicitDefEqProofs [Z2d_L0,ac,hL]
 | k+1,i,hi=>by
  have hlt:i<ls.length:=by omega
  have hx:=h _ (bj hlt);have e1:D.beq (.arr 64 .leaf .int) (D.arr 64 .leaf (ab .u8 (ls[i]))) (D.arr 64 .leaf (ab .u8 (ls[i])))=some true:=by rw [Nk hx hx,decide_eq_true rfl]
  have hL:(ls.map aw).length=ls.length:=ap ..;have hx2:∀h:i<(ls.map aw).length,(ls.map aw)[i]'h=(D.arr 64 .leaf (ab .u8 (ls[i]))):=fun h=>by rw [ca]
  have w4:IntKind.i64.wrap ((i:Int)+1)=((i+1:Nat):Int):=(w64 (x:=(i:Int)+1) (by omega)).trans (by omega)
  refine bm ?_ (Tq h hl k (i+1) (by omega))
  generalize ls[i]=li at *;generalize ls.map aw=LD at *;simp -implicitDefEqProofs [Z2d_L0,ac,hlt,hL,hx2,e1,w4]
def Er (O:ah):Prop:=∀ls:List (List Int),(∀l∈ls,l.length=64)→ls.length<2000000→ask O F2d [.sl (.arr 64 .leaf) (ls.map aw),.sl (.arr 64 .leaf) (ls.map aw)]=some (D.bool true)
theorem a4b (hT:T F2d=some Z2d):Er (den T A):=by
 intro ls h hl;have e:=Tq (O:=den T A) h hl ls.length 0 (bn _);rw [show ((0:Nat):Int)=0 from rfl] at e;refine bi hT rfl ?_;generalize ls.map aw=LD at *;simp -implicitDefEqProofs [Z2d,Z2d_B,ac,e]
open Classical in
def vp (O:ah) (F:Nat):Prop:=∀(p:Int) (l:List Int),g9 l→l.length=64→ask O F [(D.int .i64 p),(D.arr 64 .leaf (ab .u8 l))]=some (D.bool (decide (z3 p l)))
theorem a3y (hT:T F5=some Z5) (h:yr (den T A)):vp (den T A) F5:=by
 classical
 intro p l bl gl;have e:=h p l bl gl;refine bi hT rfl ?_;cases hd:decide (z3 p l) with
 | true=>rw [hd] at e; simp -implicitDefEqProofs [Z5,Z5_B,e]
 | false=>rw [hd] at e; simp -implicitDefEqProofs [Z5,Z5_B,e]
theorem Xe (hT:T F3n=some Z3n) (h:Bh (den T A)):vp (den T A) F3n:=by
 classical
 intro p l bl gl;have e:=h p l bl gl;refine bi hT rfl ?_;cases hd:decide (z3 p l) with
 | true=>rw [hd] at e; simp -implicitDefEqProofs [Z3n,Z3n_B,e]
 | false=>rw [hd] at e; simp -implicitDefEqProofs [Z3n,Z3n_B,e]
def xu (O:ah):Prop:=∀code:List Int,g9 code→code.length≤4096→∃(p:Int) (m:List Int),ask O F3i [(.sl .leaf (ab .u8 code))]=some (.tup [(D.int .i64 p),(D.arr 64 .leaf (ab .u8 m))])∧Arr m
theorem O3 (hT:T F3i=some Z3i) (hf:E8 (den T A)) (hp:xk (den T A)) (hm:yn (den T A)) (hb:a6p (den T A)):xu (den T A):=by
 intro code hbc hcl;obtain ⟨b0,e0,hs0⟩:=hf code hbc hcl;obtain ⟨p,b1,e1,hs1,ip⟩:=hp b0 hs0;have hp2:=IsP.ge (p:=p);have hp7:=IsP.le (p:=p);obtain ⟨a,b2,e2,hs2,-,-,-⟩:=hm p b1 5 hs1 (by omega) (by omega)
 obtain ⟨l,b3,e3,hs3,gl,bl⟩:=hb b2 p (pad (row a)) hs2 (by omega) (by omega) (ck _) (yy _)
 refine ⟨p,l,bi hT rfl ?_,gl,bl⟩;obtain ⟨_,_,_,rfl,_⟩:=hs0;obtain ⟨_,_,_,rfl,_⟩:=hs1;obtain ⟨_,_,_,rfl,_⟩:=hs2;obtain ⟨_,_,_,rfl,_⟩:=hs3;generalize pad (row a)=Pa at *;simp -implicitDefEqProofs [Z3i,Z3i_B,e0,e1,e2,e3,List.replicate,List.idxOf,List.findIdx,List.findIdx.go]
theorem Ea (hT:T F3l=some Z3l) (h:vw (den T A) F4j):vw (den T A) F3l:=by
 intro code hb hc;obtain ⟨p,m,f,g,e,am,sf,sg⟩:=h code hb hc;refine ⟨p,m,f,g,bi hT rfl ?_,am,sf,sg⟩;have flDF:D.flats (f.map aw)=true:=cm f;generalize f.map aw=DF at *;have flDG:D.flats (g.map aw)=true:=cm g;generalize g.map aw=DG at *;simp -implicitDefEqProofs [Z3l,Z3l_B,flDF,flDG,e,List.replicate]
def sm (O:ah):Prop:=∀code:List Int,g9 code→code.length≤4096→∃(p:Int) (m:List Int) (f:List (List Int)) (x:List Int),ask O F3m [(.sl .leaf (ab .u8 code))]=some (.tup [(D.int .i64 p),(D.arr 64 .leaf (ab .u8 m)),.arr 8 (.arr 64 .leaf) (f.map aw),(D.arr 64 .leaf (ab .u8 x))])∧Arr m∧Sk8 f∧Arr x
theorem Gc (hT:T F3m=some Z3m) (hf:E8 (den T A)) (hdf:mw (den T A)) (hd:yi (den T A)) (hr:jc (den T A)):sm (den T A):=by
 intro code hb hcl;obtain ⟨b0,e0,hs0⟩:=hf code hb hcl;obtain ⟨p,m,b1,e1,hs1,ip,am⟩:=hdf b0 hs0;obtain ⟨f,b2,e2,hs2,sf⟩:=hd p m b1 5 hs1 am (by omega) (by omega)
 obtain ⟨x,b3,e3,hs3,ax⟩:=hr p m b2 hs2 am;refine ⟨p,m,f,x,bi hT rfl ?_,am,sf,ax⟩;obtain ⟨_,_,_,rfl,_⟩:=hs0;obtain ⟨_,_,_,rfl,_⟩:=hs1;obtain ⟨_,_,_,rfl,_⟩:=hs2;obtain ⟨_,_,_,rfl,_⟩:=hs3;have flDF:D.flats (f.map aw)=true:=cm f;generalize f.map aw=DF at *;simp -implicitDefEqProofs [Z3m,ir_spec_DrawValueOfSkew_B,e0,e1,e2,e3,List.replicate,List.idxOf,List.findIdx,List.findIdx.go]
theorem Pk {O:ah} (hr:jc O) {p:Int} [IsP p] {m:List Int} (am:Arr m):∀(r:Nat) (b:Blk) (Q:List (List Int)) (cp:Option Nat),Src b→Ji Q→r≤100→Q.length+r≤1000→∃(b':Blk) (Q':List (List Int)) (cp':Option Nat),Src b'∧Ji Q'∧Q'.length≤1000 ∧
 dn O 1 (.loop Z4w_L0) ⟨[(0,.ptr 0 []),(1,(.d (.int .i64 p))),(5,.ptr 1 []),(7,.sl 2 [] 0 Q.length cp),(8,(.d (.int .i64 ((r:Int)))))],[b,.box false (D.arr 64 .leaf (ab .u8 m)),.sl false (.arr 64 .leaf) (Q.map aw),.hole,.hole]⟩ =
  some (.exit 0,⟨[(0,.ptr 0 []),(1,(.d (.int .i64 p))),(5,.ptr 1 []),(7,.sl 2 [] 0 Q'.length cp'),(8,(.d (.int .i64 0))),(13,(.d (.bool false)))],[b',.box false (D.arr 64 .leaf (ab .u8 m)),.sl false (.arr 64 .leaf) (Q'.map aw),.hole,.hole]⟩)
 | 0,b,Q,cp,hs,hQ,h100,hl=>by
  refine ⟨b,Q,cp,hs,hQ,by omega,bt ?_⟩
  obtain ⟨_,_,_,rfl,_⟩:=hs;generalize Q.map aw=QD at *;simp -implicitDefEqProofs [Z4w_L0,ac]
 | r+1,b,Q,cp,hs,hQ,h100,hl=>by
  have hk0:(0:Int)<((r+1:Nat):Int):=by omega
  have w4:IntKind.i64.wrap (((r+1:Nat):Int)-1)=(r:Int):=(w64 (by omega)).trans (by omega)
  obtain ⟨a,b2,e1,hs2,aa⟩:=hr p m b hs am;have hQD:(Q.map aw).length=Q.length:=ap ..;have htq:(Q.map aw).take Q.length=Q.map aw:=bb (by omega)
  have h200:(Q.length+1)*64≤1099511627776:=by omega
  obtain ⟨b',Q',cp',g1,g2,g3,ih⟩:=Pk hr (p:=p) am r b2 (Q++[a]) none hs2 (fun l hl=>by
   rcases bp.1 hl with h | h
   ·exact hQ l h
   ·rw [cl.1 h]; exact aa) (by omega) (by rw [bk,f0]; omega)
  refine ⟨b',Q',cp',g1,g2,g3,bm ?_ ih⟩;rw [bk,f0,show (Q++[a]).map aw=Q.map aw++[(D.arr 64 .leaf (ab .u8 a))] by rw [fd]; rfl]
  obtain ⟨_,_,_,rfl,_⟩:=hs;obtain ⟨_,_,_,rfl,_⟩:=hs2;generalize ((r+1:Nat):Int)=r1 at *;generalize Q.map aw=QD at *;generalize Q.length=ql at *;simp -implicitDefEqProofs [Z4w_L0,ac,hk0,e1,hQD,htq,h200,w4,List.replicate,List.idxOf,List.findIdx,List.findIdx.go]
def H2 (O:ah):Prop:=∀(p:Int) [IsP p] (m:List Int) (b:Blk),Src b→Arr m→∃(Q:List (List Int)) (cp:Option Nat) (b':Blk),O F4w [.ptr 0 [],(.d (.int .i64 p)),.d (D.arr 64 .leaf (ab .u8 m))] [b]=some (.sl 1 [] 0 Q.length cp,[b'],[.sl false (.arr 64 .leaf) (Q.map aw)])∧Src b'∧Ji Q∧Q.length≤1000
theorem a3r (hT:T F4w=some Z4w) (hn:pb (den T A) F4a) (hr:jc (den T A)):H2 (den T A):=by
 intro p ip m b hs am;obtain ⟨x,b1,e1,hs1,x0,x1⟩:=hn b 5 hs (by omega)
 obtain ⟨r,rfl⟩:∃r:Nat,x=r:=⟨x.toNat,by omega⟩
 obtain ⟨b',Q,cp,hs',hQ,hQl,st⟩:=Pk (O:=den T A) hr (p:=p) am r b1 [] (some 0) hs1 (fun l hl=>by cases hl) (by omega) (by simp; omega)
 rw [show ([]:List (List Int)).length=0 from rfl,show ([]:List (List Int)).map aw=[] from rfl] at st;refine ⟨Q,cp,b',jh hT rfl ?_,hs',hQ,hQl⟩;obtain ⟨_,_,_,rfl,_⟩:=hs;obtain ⟨_,_,_,rfl,_⟩:=hs1;obtain ⟨_,_,_,rfl,_⟩:=hs';generalize Q.map aw=QD at *;generalize Q.length=ql at *;simp -implicitDefEqProofs [Z4w,Z4w_B,e1,st,List.replicate,List.idxOf,List.findIdx,List.findIdx.go]
def um (O:ah):Prop:=∀code:List Int,g9 code→code.length≤4096→∃(p:Int) (m:List Int) (ls:List (List Int)),ask O F3k [(.sl .leaf (ab .u8 code))]=some (.tup [(D.int .i64 p),(D.arr 64 .leaf (ab .u8 m)),.sl (.arr 64 .leaf) (ls.map aw)])∧Arr m∧Ji ls∧ls.length≤1000
theorem Ja (hT:T F3k=some Z3k) (hf:E8 (den T A)) (hdf:mw (den T A)) (hli:H2 (den T A)):um (den T A):=by
 intro code hb hcl;obtain ⟨b0,e0,hs0⟩:=hf code hb hcl;obtain ⟨p,m,b1,e1,hs1,ip,am⟩:=hdf b0 hs0;obtain ⟨Q,cp,b2,e2,hs2,hQ,hQl⟩:=hli p m b1 hs1 am;refine ⟨p,m,Q,bi hT rfl ?_,am,hQ,hQl⟩;have hQD:(Q.map aw).length=Q.length:=ap ..;have htq:(Q.map aw).take Q.length=Q.map aw:=bb (by omega)
 obtain ⟨_,_,_,rfl,_⟩:=hs0;obtain ⟨_,_,_,rfl,_⟩:=hs1;obtain ⟨_,_,_,rfl,_⟩:=hs2;generalize Q.map aw=QD at *;generalize Q.length=ql at *;simp -implicitDefEqProofs [Z3k,ir_spec_DrawLeastSkew_B,e0,e1,e2,hQD,htq,List.replicate,List.idxOf,List.findIdx,List.findIdx.go]
def ri (O:ah):Prop:=∀code:List Int,g9 code→code.length≤4096→∃(p:Int) (m:List Int) (f:List (List Int)),ask O F3j [(.sl .leaf (ab .u8 code))]=some (.tup [(D.int .i64 p),(D.arr 64 .leaf (ab .u8 m)),.arr 8 (.arr 64 .leaf) (f.map aw)])∧Arr m∧Sk8 f
theorem ahv (hT:T F3j=some Z3j) {code:List Int} {b0 b1 b2 b3:Blk} {p x k:Int} {m:List Int} {f:List (List Int)} (hs0:Src b0) (hs1:Src b1) (hs2:Src b2) (hs3:Src b3)
 (e0:den T A F41 [.d (.sl .leaf (ab .u8 code))] []=some (.ptr 0 [],[],[b0]))
 (e1:den T A F4o [.ptr 0 []] [b0]=some (.tup [(.d (.int .i64 p)),.d (D.arr 64 .leaf (ab .u8 m))],[b1],[]))
 (e2:den T A F4n [.ptr 0 [],(.d (.int .i64 p)),.d (D.arr 64 .leaf (ab .u8 m)),(.d (.int .i64 3))] [b1]=some (.d (.arr 8 (.arr 64 .leaf) (f.map aw)),[b2],[]))
 (e3:den T A F4a [.ptr 0 [],(.d (.int .i64 2))] [b2]=some ((.d (.int .i64 x)),[b3],[]))
 (e4:ask (den T A) F4k [(D.int .i64 p),(D.arr 64 .leaf (ab .u8 m)),.sl (.arr 8 (.arr 64 .leaf)) [.arr 8 (.arr 64 .leaf) (f.map aw)]]=some (D.int .i64 k)) (h:x≠0∨x=0∧k≠0) :
 ask (den T A) F3j [(.sl .leaf (ab .u8 code))]=some (.tup [(D.int .i64 p),(D.arr 64 .leaf (ab .u8 m)),.arr 8 (.arr 64 .leaf) (f.map aw)]):=by
 refine bi hT rfl ?_;obtain ⟨_,_,_,rfl,_⟩:=hs0;obtain ⟨_,_,_,rfl,_⟩:=hs1;obtain ⟨_,_,_,rfl,_⟩:=hs2;obtain ⟨_,_,_,rfl,_⟩:=hs3;have flDF:D.flats (f.map aw)=true:=cm f;generalize f.map aw=DF at *;rcases h with h | ⟨rfl,h⟩
 ·simp -implicitDefEqProofs [Z3j,ir_spec_DrawKernelOfSkew_B,ac,e0,e1,e2,e3,h,List.replicate,List.idxOf,List.findIdx,List.findIdx.go]
 ·simp -implicitDefEqProofs [Z3j,ir_spec_DrawKernelOfSkew_B,ac,e0,e1,e2,e3,e4,h,List.replicate,List.idxOf,List.findIdx,List.findIdx.go]
theorem acr (hT:T F3j=some Z3j) {code:List Int} {b0 b1 b2 b3 b4:Blk} {p:Int} {m a r:List Int} {f g own:List (List Int)} {ok:Bool} (hs0:Src b0) (hs1:Src b1) (hs2:Src b2) (hs3:Src b3) (hs4:Src b4)
 (e0:den T A F41 [.d (.sl .leaf (ab .u8 code))] []=some (.ptr 0 [],[],[b0]))
 (e1:den T A F4o [.ptr 0 []] [b0]=some (.tup [(.d (.int .i64 p)),.d (D.arr 64 .leaf (ab .u8 m))],[b1],[]))
 (e2:den T A F4n [.ptr 0 [],(.d (.int .i64 p)),.d (D.arr 64 .leaf (ab .u8 m)),(.d (.int .i64 3))] [b1]=some (.d (.arr 8 (.arr 64 .leaf) (f.map aw)),[b2],[]))
 (e3:den T A F4a [.ptr 0 [],(.d (.int .i64 2))] [b2]=some ((.d (.int .i64 0)),[b3],[]))
 (e4:ask (den T A) F4k [(D.int .i64 p),(D.arr 64 .leaf (ab .u8 m)),.sl (.arr 8 (.arr 64 .leaf)) [.arr 8 (.arr 64 .leaf) (f.map aw)]]=some (D.int .i64 0))
 (e5:den T A F3y [.ptr 0 [],(.d (.int .i64 p)),(.d (.int .i64 3))] [b3]=some (.d (D.arr 64 .leaf (ab .u8 a)),[b4],[]))
 (e6:ask (den T A) F47 [(D.int .i64 p),(D.arr 64 .leaf (ab .u8 a)),(D.arr 64 .leaf (ab .u8 m))]=some (D.arr 64 .leaf (ab .u8 r)))
 (e7:ask (den T A) F4v [(D.int .i64 p),(D.arr 64 .leaf (ab .u8 m)),.sl (.arr 64 .leaf) [(D.arr 64 .leaf (ab .u8 r))]]=some (.arr 8 (.arr 64 .leaf) (g.map aw)))
 (e8:ask (den T A) F55 [(D.int .i64 p),(D.arr 64 .leaf (ab .u8 m)),.arr 8 (.arr 64 .leaf) (f.map aw),.arr 8 (.arr 64 .leaf) (g.map aw)]=some (.tup [.arr 8 (.arr 64 .leaf) (own.map aw),(D.bool ok)])) :
 ask (den T A) F3j [(.sl .leaf (ab .u8 code))]=some (.tup [(D.int .i64 p),(D.arr 64 .leaf (ab .u8 m)),.arr 8 (.arr 64 .leaf) ((if ok then own else f).map aw)]):=by
 refine bi hT rfl ?_;obtain ⟨_,_,_,rfl,_⟩:=hs0;obtain ⟨_,_,_,rfl,_⟩:=hs1;obtain ⟨_,_,_,rfl,_⟩:=hs2;obtain ⟨_,_,_,rfl,_⟩:=hs3;obtain ⟨_,_,_,rfl,_⟩:=hs4;have flDF:D.flats (f.map aw)=true:=cm f;have flDG:D.flats (g.map aw)=true:=cm g;have flDO:D.flats (own.map aw)=true:=cm own;cases ok with
 | true=>
  rw [if_pos rfl];generalize f.map aw=DF at *;generalize g.map aw=DG at *;generalize own.map aw=DO at *;simp -implicitDefEqProofs [Z3j,ir_spec_DrawKernelOfSkew_B,ac,flDG,flDO,e0,e1,e2,e3,e4,e5,e6,e7,e8,List.replicate,List.idxOf,List.findIdx,List.findIdx.go]
 | false=>
  rw [if_neg (by simp)]
  generalize f.map aw=DF at *;generalize g.map aw=DG at *;generalize own.map aw=DO at *;simp -implicitDefEqProofs [Z3j,ir_spec_DrawKernelOfSkew_B,ac,flDG,flDO,e0,e1,e2,e3,e4,e5,e6,e7,e8,List.replicate,List.idxOf,List.findIdx,List.findIdx.go]
theorem E5 (hT:T F3j=some Z3j) (hf:E8 (den T A)) (hdf:mw (den T A)) (hd:yi (den T A)) (hn:pb (den T A) F4a) (hc:fp (den T A) F4k) (hdr:Rz (den T A)) (hmo:xy (den T A)) (hle:Cg (den T A)) (ht:Cw (den T A)):ri (den T A):=by
 intro code hb hcl;obtain ⟨b0,e0,hs0⟩:=hf code hb hcl;obtain ⟨p,m,b1,e1,hs1,ip,am⟩:=hdf b0 hs0;obtain ⟨f,b2,e2,hs2,sf⟩:=hd p m b1 3 hs1 am (by omega) (by omega)
 obtain ⟨x,b3,e3,hs3,-,-⟩:=hn b2 2 hs2 (by omega)
 have e4:=hc p m [f] am.2 am.1 (by intro x hx; simp at hx; subst hx; exact sf) (by simp)
 rw [show [f].map da=[.arr 8 (.arr 64 .leaf) (f.map aw)] from rfl] at e4
 by_cases h:x=0∧eg p m [f]=0
 ·obtain ⟨rfl,hk⟩:=h
  rw [hk] at e4
  obtain ⟨M,rfl,hM⟩:∃M:Fp p,m=pad (row M)∧Fld M:=by
   unfold eg at hk
   split at hk
   ·rename_i g
    obtain ⟨_,M,e,g1,_⟩:=g;exact ⟨M,e,g1⟩
   ·cases hk
  have h5:=hM.five;have h2:=hM.two;obtain ⟨a,b4,e5,hs4,ha⟩:=hdr p b3 3 hs3 (by omega)
  rw [show ((3:Nat):Int)=3 from rfl] at e5;have e6:=hmo p a M hM.mon.2 (by omega) (by omega)
  have hr:=Pol.len_mod a hM.mon.2;have hI:=LsI.all hM [a%M] _ (.one hM) (fun x hx=>by simp at hx; subst hx; exact hr)
  have hI8:=(hI.sk hM).eight;have e7:=hle p M [a%M] hM (fun x hx=>by simp at hx; subst hx; exact hr) (by simp)
  rw [show [a%M].map di=[(D.arr 64 .leaf (ab .u8 (pad (row (a%M)))))] from rfl,d9] at e7
  have sg:Sk8 (skP (pd8 (lsS M [a%M] (dj 1 0)))):=⟨fun l hl=>by
   obtain ⟨c,_,rfl⟩:=cj.1 hl;exact qq c,by unfold skP; rw [ap]; exact f9 hI8⟩
  obtain ⟨own,ok,so,e8⟩:=ht p M f _ h2 (by omega) sf sg
  have e:=acr hT hs0 hs1 hs2 hs3 hs4 e0 e1 e2 e3 e4 e5 e6 e7 e8;refine ⟨p,pad (row M),_,e,am,?_⟩;cases ok with
  | true=>exact so
  | false=>exact sf
 ·refine ⟨p,m,f,ahv hT hs0 hs1 hs2 hs3 e0 e1 e2 e3 e4 ?_,am,sf⟩
  by_cases hx:x=0
  ·exact .inr ⟨hx,fun g=>h ⟨hx,g⟩⟩
  ·exact .inl hx
end Pe

namespace Pe
open Go Gq
section
variable {p:Int} {m:Fp p}
def Dvr (D A:Nat→Quo m):Prop:=∃q:Nat→Quo m,(∃N,∀i,N≤i→q i=0)∧∀n,A n=cv q D n
theorem cv_one (X:Nat→Quo m) (n:Nat):cv e0 X n=X n:=by
 unfold cv;rw [Dh];have h:gj (fun i=>(e0:Nat→Quo m) (i+1)*sg (i+1) (X (n-(i+1)))) n=0:=vu n fun i _=>Gq.zero_mul _
 rw [h,Gq.add_zero];exact Gq.one_mul _
theorem Dvr.self (D:Nat→Quo m):Dvr D D:=⟨e0,⟨1,fun i hi=>by obtain ⟨k,rfl⟩:∃k,i=k+1:=⟨i-1,by omega⟩; rfl⟩,fun n=>(cv_one D n).symm⟩
theorem Dvr.zero {D A:Nat→Quo m} (h:∀n,A n=0):Dvr D A:=⟨fun _=>0,⟨0,fun _ _=>rfl⟩,fun n=>(h n).trans (Ex D n).symm⟩
theorem Dvr.congr {D A B:Nat→Quo m} (h:Dvr D A) (e:∀n,B n=A n):Dvr D B:=by
 obtain ⟨q,hq,hA⟩:=h;exact ⟨q,hq,fun n=>(e n).trans (hA n)⟩
theorem Dvr.smul {D A:Nat→Quo m} (c:Quo m) (hA:Dvr D A):Dvr D fun n=>c*A n:=by
 obtain ⟨q,⟨N,hN⟩,h1⟩:=hA;refine ⟨fun i=>c*q i,⟨N,fun i hi=>by show c*q i=0; rw [hN i hi,Gq.mul_zero]⟩,fun n=>?_⟩
 show c*A n=_;rw [h1];unfold cv;rw [←yl];exact i4 _ fun i _=>(Gq.mul_assoc _ _ _).symm
theorem a07 (A:List (Fp p)):∃N,∀i,N≤i→qcf m A i=0:=⟨A.length,fun _ hi=>y7 hi⟩
theorem Ua {f:Nat→Quo m} {j:Nat}:∀n,j<n→(∀i,i<n→i≠j→f i=0)→gj f n=f j
 | 0,h,_=>by omega
 | n+1,h,h0=>by
  show gj f n+f n=f j
  by_cases hj:j=n
  ·subst hj
   rw [vu j fun i hi=>h0 i (by omega) (by omega),Gq.zero_add]
  ·rw [Ua n (by omega) fun i hi hij=>h0 i (by omega) hij,h0 n (by omega) (fun h=>hj h.symm),Gq.add_zero]
end
section
variable {p:Int} [IsP p] {m:Fp p}
theorem Dvr.add {D A B:Nat→Quo m} (hA:Dvr D A) (hB:Dvr D B):Dvr D fun n=>A n+B n:=by
 obtain ⟨q,⟨N,hN⟩,h1⟩:=hA;obtain ⟨r,⟨M,hM⟩,h2⟩:=hB;refine ⟨fun i=>q i+r i,⟨N+M,fun i hi=>by show q i+r i=0; rw [hN i (by omega),hM i (by omega),Gq.add_zero]⟩,fun n=>?_⟩
 show A n+B n=_;rw [Tb,h1,h2]
theorem Dvr.left {D A:Nat→Quo m} {s:Nat→Quo m} (hs:∃N,∀i,N≤i→s i=0) (hA:Dvr D A):Dvr D (cv s A):=by
 obtain ⟨q,⟨N,hN⟩,h1⟩:=hA;obtain ⟨M,hM⟩:=hs;refine ⟨cv s q,⟨N+M,fun n hn=>vu _ fun i _=>?_⟩,fun n=>?_⟩
 ·by_cases h:M≤i
  ·rw [hM i h,Gq.zero_mul]
  ·rw [hN (n-i) (by omega),tz,Gq.mul_zero]
 ·rw [cv_assoc,show A=cv q D from funext h1]
theorem Dvr.prod (hm:Fld m) (Q:List (Fp p)) {B:List (Fp p)} (hB:∀c∈B,c.len<m.len):Dvr (qcf m B) (qcf m (ee m Q B)):=⟨qcf m Q,a07 Q,fun n=>En hm hB Q n⟩
theorem Ro (hm:Fld m) {A B:List (Fp p)} (hA:Sk m A) (hB:Sk m B) (h1:1≤B.length) (n:Nat):cv (qcf m (dx false m B A.length [] A).1) (qcf m B) n+qcf m (dx false m B A.length [] A).2 n=qcf m A n:=by
 have e:=Vy false hm hB h1 A.length [] A (Sk.nil m) hA n;obtain ⟨hq,_,_⟩:=ov false hm hB h1 A.length [] A (ba _) (Sk.nil m) hA;rw [Gv false hm hB.res hq.res,Gv false hm hB.res (Sk.nil m).res] at e;simp only [b9,if_false] at e;rw [e,show qcf m ([]:List (Fp p))=fun _=>0 from rfl,Ex,Gq.zero_add]
theorem a11 (hm:Fld m):∀(n:Nat) (A B:List (Fp p)),B.length≤n→Sk m A→Sk m B→Dvr (qcf m (gf m n A B)) (qcf m A)∧Dvr (qcf m (gf m n A B)) (qcf m B)
 | 0,A,B,h,hA,hB=>by
  refine ⟨.self _,.zero fun n=>y7 (by omega)⟩
 | n+1,A,B,h,hA,hB=>by
  unfold gf
  split
  ·rename_i h0
   exact ⟨.self _,.zero fun n=>y7 (by omega)⟩
  ·obtain ⟨_,g2,g3⟩:=ov false hm hB (by omega) A.length [] A (ba _) (Sk.nil m) hA
   obtain ⟨i1,i2⟩:=a11 hm n B _ (by omega) hB g2
   exact ⟨(((i1.left (a07 _)).add i2)).congr fun k=>(Ro hm hA hB (by omega) k).symm,i1⟩
theorem Up (hm:Fld m) {F G:List (Fp p)} (hF:Sk m F) {N:Nat} (hN:N≤8):∀(n:Nat) (A B U V:List (Fp p)),B.length≤n→Sk m A→Sk m B→Sk m U→Sk m V→MI N A B U V →
 Dvr (qcf m G) (fun n=>qcf m A n-cv (qcf m U) (qcf m F) n)→Dvr (qcf m G) (fun n=>qcf m B n-cv (qcf m V) (qcf m F) n)→Dvr (qcf m G) (cv (qcf m (qa m n A B U V)) (qcf m F))
 | 0,A,B,U,V,h,hA,hB,hU,hV,hi,e1,e2=>by
  refine (e2.smul (-1)).congr fun n=>?_
  show cv (qcf m V) (qcf m F) n=-1*(qcf m B n-cv (qcf m V) (qcf m F) n);rw [y7 (A:=B) (by omega)]
  exact bo [cv (qcf m V) (qcf m F) n] rfl
 | n+1,A,B,U,V,h,hA,hB,hU,hV,hi,e1,e2=>by
  unfold qa
  split
  ·rename_i h0
   refine (e2.smul (-1)).congr fun n=>?_
   show cv (qcf m V) (qcf m F) n=-1*(qcf m B n-cv (qcf m V) (qcf m F) n);rw [y7 (A:=B) (by omega)]
   exact bo [cv (qcf m V) (qcf m F) n] rfl
  ·rename_i h0
   obtain ⟨g1,g2,g3⟩:=ov false hm hB (by omega) A.length [] A (ba _) (Sk.nil m) hA
   obtain ⟨s1,s2,s3,s4⟩:=Gi hm hA hB hU hV hN hi (by omega)
   have re:=Ro hm hA hB (by omega)
   refine Up hm hF hN n B _ V _ (by omega) hB g2 hV s3 s4 e2 ?_
   have e3:=(e1.add ((e2.left (a07 (dx false m B A.length [] A).1)).smul (-1)));refine e3.congr fun k=>?_
   have pv:qcf m (ee m (dx false m B A.length [] A).1 V)=cv (qcf m (dx false m B A.length [] A).1) (qcf m V):=funext fun j=>En hm hV.res _ j
   generalize (dx false m B A.length [] A).1=Q at *;generalize (dx false m B A.length [] A).2=R at *
   have x1:qcf m R k=qcf m A k-cv (qcf m Q) (qcf m B) k:=by
    rw [←re k];exact bo [cv (qcf m Q) (qcf m B) k,qcf m R k] rfl
   have neg:∀(X Y:Nat→Quo m) (n:Nat),cv (fun i=>-1*X i) Y n=-1*cv X Y n:=fun X Y n=>by
    unfold cv;rw [←yl];exact i4 _ fun i _=>Gq.mul_assoc _ _ _
   have negR:∀(X Y:Nat→Quo m) (n:Nat),cv X (fun i=>-1*Y i) n=-1*cv X Y n:=fun X Y n=>by
    unfold cv;rw [←yl];refine i4 _ fun i _=>?_
    rw [uy,show sg i (-1:Quo m)=-1 from by
     have:=Ia (m:=m) (-1:Zp p) i
     rwa [Pol.C_neg,Pol.C_one,Quo.mk_neg,Quo.mk_one] at this]
    exact bo [X i,sg i (Y (n-i))] rfl
   have x2:cv (qcf m (f4 (-1) U (ee m Q V))) (qcf m F) k=cv (qcf m U) (qcf m F) k + -1*cv (qcf m Q) (cv (qcf m V) (qcf m F)) k:=by
    rw [←cv_assoc,←neg,←Tb,←pv]
    congr 1
    funext j
    rw [P9];exact bo [qcf m U j,qcf m (ee m Q V) j] rfl
   have x3:cv (qcf m Q) (fun n=>qcf m B n-cv (qcf m V) (qcf m F) n) k=cv (qcf m Q) (qcf m B) k + -1*cv (qcf m Q) (cv (qcf m V) (qcf m F)) k:=by
    rw [←negR,←a0f]
    congr 1
    funext j
    exact bo [qcf m B j,cv (qcf m V) (qcf m F) j] rfl
   show qcf m R k-cv (qcf m (f4 (-1) U (ee m Q V))) (qcf m F) k=qcf m A k-cv (qcf m U) (qcf m F) k + -1*cv (qcf m Q) (fun n=>qcf m B n-cv (qcf m V) (qcf m F) n) k
   rw [x1,x2,x3];exact bo [qcf m A k,cv (qcf m Q) (qcf m B) k,cv (qcf m U) (qcf m F) k,cv (qcf m Q) (cv (qcf m V) (qcf m F)) k] rfl
theorem adv (hm:Fld m) {F G:List (Fp p)} (hF:Sk m F) (hG:Sk m G):Dvr (qcf m F) (qcf m (lmX m F G))∧Dvr (qcf m G) (qcf m (lmX m F G)):=by
 refine ⟨.prod hm _ hF.res,?_⟩
 have h:Dvr (qcf m G) (cv (qcf m (Cz m F G)) (qcf m F)):=by
  unfold Cz;refine Up hm hF (N:=G.length) hG.eight G.length F G (dj 1 0) [] (ba _) hF hG (As hm) (Sk.nil m) (.inl ⟨ej _ _,rfl,rfl⟩) (.zero fun n=>?_) ((Dvr.self _).congr fun n=>?_)
  ·have:qcf m (dj (1:Fp p) 0)=e0:=funext fun i=>by
    unfold qcf;rw [Cm];cases i with
    | zero=>rw [if_pos rfl]; exact Quo.mk_one
    | succ i=>rw [if_neg (by omega)]; rfl
   show qcf m F n-cv (qcf m (dj 1 0)) (qcf m F) n=0;rw [this,cv_one];exact bo [qcf m F n] rfl
  ·show qcf m G n-cv (qcf m ([]:List (Fp p))) (qcf m F) n=qcf m G n
   rw [show qcf m ([]:List (Fp p))=fun _=>0 from rfl,Ex]
   exact bo [qcf m G n] rfl
 exact h.congr fun n=>En hm hF.res _ n
theorem ace (hm:Fld m) (X:List (Fp p)) (n:Nat):qcf m (gr m X) n=Quo.mk m (ji m (cS X (X.length-1)))*qcf m X n:=by
 unfold qcf gr;rw [U1 hm.mon.2,Pol.mk_mod,Quo.mk_mul]
theorem Dvr.mon (hm:Fld m) {D:Nat→Quo m} {X:List (Fp p)} (h:Dvr D (qcf m X)):Dvr D (qcf m (gr m X)):=(h.smul _).congr fun n=>ace hm X n
theorem Dvr.of_mon (hm:Fld m) {X:List (Fp p)} (hX:Sk m X) (h1:1≤X.length) {A:Nat→Quo m} (h:Dvr (qcf m X) A):Dvr (qcf m (gr m X)) A:=by
 obtain ⟨q,⟨N,hN⟩,e⟩:=h;have hi:=Ey hm (hX.top h1) (hX.cs hm.mon.2 _);refine ⟨fun i=>q i*sg i (Quo.mk m (cS X (X.length-1))),⟨N,fun i hi=>by show q i*_=0; rw [hN i hi,Gq.zero_mul]⟩,fun n=>?_⟩
 rw [e];refine i4 _ fun i _=>?_
 show q i*sg i (qcf m X (n-i))=q i*sg i (Quo.mk m (cS X (X.length-1)))*sg i (qcf m (gr m X) (n-i));rw [ace hm,Gq.mul_assoc,←uy,←Gq.mul_assoc,Gq.mul_comm (Quo.mk m (cS X (X.length-1))),hi,Gq.one_mul]
theorem air (hm:Fld m) {z:Quo m} (hz:z≠0) (k:Nat):sg k z≠0:=fun h=>by
 obtain ⟨y,hy⟩:=hm.irr.quo_inv hz;have e:sg k (z*y)=1:=by rw [hy]; exact W8 k
 rw [uy,h,Gq.zero_mul] at e;exact Md hm.two e.symm
theorem a1e (hm:Fld m) {F R:List (Fp p)} (hF:Sk m F) (hR:Sk m R) (hl:R.length<F.length) (h:Dvr (qcf m F) (qcf m R)):R=[]:=by
 obtain ⟨q,⟨N,hN⟩,e⟩:=h
 have top:qcf m F (F.length-1)≠0:=fun h0=>by
  have h1:=a6b hm.mon.2 (A:=F) (B:=[]) (n:=F.length-1) (hF.cs hm.mon.2 _) (by rw [W9,Pol.len_zero]; exact Pol.len_pos hm.mon.2) (h0.trans (abm m _).symm)
  exact hF.top (by omega) h1
 have key:∀k,k≤N→∀i,N-k≤i→q i=0:=by
  intro k
  induction k with
  | zero=>intro _ i hi; exact hN i (by omega)
  | succ k ih=>
   intro hk i hi
   by_cases h1:N-k≤i
   ·exact ih (by omega) i h1
   ·have e1:=e (i+(F.length-1))
    rw [y7 (by omega)] at e1
    unfold cv at e1
    rw [Ua (j:=i) _ (by omega) fun j hj hij=>by
     by_cases h2:i<j
     ·rw [ih (by omega) j (by omega),Gq.zero_mul]
     ·rw [y7 (by omega),tz,Gq.mul_zero]] at e1
    rw [show i+(F.length-1)-i=F.length-1 by omega] at e1
    rcases hm.irr.quo_zero e1.symm with h2 | h2
    ·exact h2
    ·exact absurd h2 (air hm top i)
 have q0:∀i,q i=0:=fun i=>key N (ba N) i (by omega)
 refine aeo hm hR.trim zy hR.res (Sk.nil m).res fun n=>?_
 rw [e n,show q=fun _=>0 from funext q0,Ex]
 rfl
theorem Sw (hm:Fld m) {M F:List (Fp p)} (hM:Sk m M) (hF:Sk m F) (h1:1≤F.length) (h:Dvr (qcf m F) (qcf m M)):(dx false m F M.length [] M).2=[]:=by
 obtain ⟨g1,g2,g3⟩:=ov false hm hF h1 M.length [] M (ba _) (Sk.nil m) hM;refine a1e hm hF g2 g3 ?_;have e:=(h.add (((Dvr.self (qcf m F)).left (a07 (dx false m F M.length [] M).1)).smul (-1)));refine e.congr fun n=>?_
 rw [←Ro hm hM hF h1 n];exact bo [cv (qcf m (dx false m F M.length [] M).1) (qcf m F) n,qcf m (dx false m F M.length [] M).2 n] rfl
end
end Pe

namespace Pe
open Go Gq
section
variable {K:Type} [CR K]
end
section
variable {p:Int} {m:Fp p}
theorem ags [IsP p]:sg 1 (0:Quo m)=0:=tz 1
variable {t0 t1 t2:Quo m}
noncomputable def ae3 [IsP p] (f:Pol (Quo m)):Pol (Quo m):=⟨fun i=>sg 1 (f.c i),by
 obtain ⟨n,h⟩:=f.fin;exact ⟨n,fun i hi=>by rw [h i hi,ags]⟩⟩
noncomputable def PQ [IsP p] (u v:Pol (Quo m)):Nat→Pol (Quo m)×Pol (Quo m)
 | 0=>(1,0)
 | j+1=>(u*ae3 (PQ u v j).2,ae3 (PQ u v j).1+v*ae3 (PQ u v j).2)
end
end Pe


namespace Pe
open Go Gq
variable {T:Nat→Option Fn} {A:ah}
end Pe

namespace Pe
open Go Gq
variable {T:Nat→Option Fn} {A:ah}
theorem a9k {a m:List Int} (ha:g9 a) (gl:a.length=64) (hm:g9 m) (glm:m.length=64):Ji [a,m]:=fun x hx=>by
 simp at hx;rcases hx with rfl | rfl
 ·exact ⟨gl,ha⟩
 ·exact ⟨glm,hm⟩
end Pe

namespace Pe
open Go Gq
variable {T:Nat→Option Fn} {A:ah}
section
variable {p:Int}
end
end Pe

namespace Pe
open Go Gq
variable {T:Nat→Option Fn} {A:ah}
section
variable {p:Int} [ip:IsP p] {M N X Y:Fp p}
end
end Pe

namespace Pe
open Go Gq
variable {T:Nat→Option Fn} {A:ah}
end Pe

namespace Pe
open Go Gq
section
variable {p:Int} [ip:IsP p]
variable {q:Fp p}
end
section
variable {p:Int}
variable {q:Fp p}
theorem a2p {r:Fp p} (h:r.len≤1):r=Pol.C (r.c 0):=Pol.ext fun i=>by
 rw [Pol.c_C]
 split
 ·rename_i h0; rw [h0]
 ·exact Pol.lt_len r i (by omega)
end
section
variable {p:Int} [ip:IsP p]
variable {q:Fp p}
end
section
variable {p:Int}
variable {q:Fp p}
end
section
variable {p:Int} [ip:IsP p]
variable {q:Fp p}
end
end Pe

namespace Pe
open Go Gq
section
variable {K S:Type} [CR K] [CR S]
structure Hom (f:K→S):Prop where
 add:∀x y,f (x+y)=f x+f y
 mul:∀x y,f (x*y)=f x*f y
 one:f 1=1
theorem Hom.zero {f:K→S} (h:Hom f):f 0=0:=by
 have e:=h.add 0 0;rw [Gq.add_zero] at e;have e2:f 0+f 0-f 0=f 0:=bo [f 0] rfl;rw [←e,Gq.sub_self] at e2;exact e2.symm
noncomputable def evP (f:K→S) (z:S) (a:Pol K):S:=jm (fun i=>f (a.c i)*pw z i) a.len
variable {f:K→S} {z:S}
theorem Hom.pw {g:K→S} (h:Hom g) (a:K):∀n,g (Gq.pw a n)=Gq.pw (g a) n
 | 0=>h.one
 | n+1=>by rw [Gq.pw,Gq.pw,h.mul,Hom.pw h a n]
end
end Pe

namespace Pe
open Go Gq
section
variable {S:Type} [CR S]
end
section
variable {p:Int} [IsP p]
end
end Pe

namespace Pe
open Go Gq
section
variable {K L S:Type} [CR K] [CR L] [CR S]
end
section
variable {p:Int} [IsP p] {q:Fp p}
theorem Hom.sub {K S:Type} [CR K] [CR S] {f:K→S} (h:Hom f) (x y:K):f (x-y)=f x-f y:=by
 have e:f (x-y)+f y=f x:=by rw [←h.add]; congr 1; exact bo [x,y] rfl
 rw [←e];exact bo [f (x-y),f y] rfl
theorem V0 (hi:Irr q) (x:Quo q) (h:pw x p.toNat=x):∃c:Zp p,x=Quo.mk q (Pol.C c):=by
 obtain ⟨a,rfl⟩:=Quo.ex x;have e:Quo.mk q (a%q)=Quo.mk q a:=Pol.mk_mod _ _;have hl:=ab0 (a:=a%q) hi.len hi (Pol.len_mod _ hi.ne) (by rw [e]; exact h)
 exact ⟨(a%q).c 0,by rw [←a2p hl,e]⟩
end
section
variable {p:Int} {q:Fp p}
end
section
variable {p:Int} [IsP p] {q:Fp p}
end
end Pe

namespace Pe
open Go Gq
section
variable {p:Int} [IsP p] {m:Fp p}
theorem S3 (hm:Fld m) {S:List (Fp p)} {x:Fp p}:Quo.mk m (sev m S x)=0↔sev m S x=0:=by
 constructor
 ·intro h
  have e:=(Pol.mod_eq_iff hm.mon.2).2 (h.trans Quo.mk_zero.symm)
  rwa [Pol.mod_small (Gf hm.mon.2 S x),Pol.zero_mod hm.mon.2] at e
 ·intro h
  rw [h,Quo.mk_zero]
structure LkI (m:Fp p) (A L:List (Fp p)):Prop where
 trim:km A
 res:∀c∈A,c.len<m.len
 desc:Desc (m.len-1) L
 len:A.length=L.length+1
 ker:∀z:Fp p,z.len<m.len→(sev m A z=0↔Spn L z)
theorem LkI.one (hm:Fld m):LkI m (dj (1:Fp p) 0) [] where
 trim:=(As hm).trim
 res:=(As hm).res
 desc:=Desc.nil _
 len:=by rw [ej]; rfl
 ker:=fun z hz=>by
  have e:sev m (dj (1:Fp p) 0) z=0+1*du m (0%(m.len-1)) z%m:=rfl;rw [e,Nat.zero_mod,Gq.zero_add,Gq.one_mul,show du m 0 z=z from rfl,Pol.mod_small hz];constructor
  ·rintro rfl; exact .zero
  ·intro h
   exact h.inside (S:=fun b=>b=0) rfl (fun k a b ha hb=>by rw [ha,hb,Gq.mul_zero,Gq.add_zero]) (fun a ha=>by cases ha)
theorem a4t (hm:Fld m) {A:List (Fp p)} {c z:Fp p} (hA:∀y∈A,y.len<m.len) (h1:1≤A.length) (hz:z.len<m.len):Quo.mk m (sev m (ee m [c,1] A) z)=Quo.mk m c*Quo.mk m (sev m A z)+sg 1 (Quo.mk m (sev m A z)):=Vb hm hA hz h1
theorem LkI.next (hm:Fld m) {A L:List (Fp p)} (h:LkI m A L) {x:Fp p} (hx:x.len<m.len):LkI m (lsN m A x) (v7 L x):=by
 have h0:=hm.mon.2;have h2:=hm.two;have hl:=h.len
 have hv:(svI m x 0 A 0).len=0↔df L x=0:=by
  rw [B8 h.desc,←h.ker x hx];exact Pol.len_zero_iff
 unfold lsN
 by_cases hr:df L x=0
 ·rw [if_pos (hv.2 hr),tc hr]
  exact h
 ·have hv':¬ (svI m x 0 A 0).len=0:=fun g=>hr (hv.1 g)
  rw [if_neg hv'];have hvl:(sev m A x).len<m.len:=Gf h0 A x;have hv0:sev m A x≠0:=fun g=>hv' (Pol.len_zero_iff.2 g)
  have hcl:=Jn (v:=sev m A x) hm;have hcq:=ac6 hm hv0 hvl;have step:=fun z hz=>a4t hm (c:=lsC m (sev m A x)) (z:=z) h.res (by omega) hz
  have lin:∀(k:Zp p) (a b:Fp p),(a.len<m.len∧sev m (ee m [lsC m (sev m A x),1] A) a=0)→(b.len<m.len∧sev m (ee m [lsC m (sev m A x),1] A) b=0)→((Pol.C k*a+b).len<m.len∧sev m (ee m [lsC m (sev m A x),1] A) (Pol.C k*a+b)=0):=fun k a b ha hb=>
   ⟨tu k ha.1 hb.1,by rw [sq h0 _ k ha.1 hb.1,ha.2,hb.2,Gq.mul_zero,Gq.add_zero]⟩
  have kz:(0:Fp p).len<m.len∧sev m (ee m [lsC m (sev m A x),1] A) 0=0:=⟨by rw [Pol.len_zero]; omega,Am h0 _⟩
  have kill:∀y:Fp p,y.len<m.len→Quo.mk m (lsC m (sev m A x))*Quo.mk m (sev m A y)+sg 1 (Quo.mk m (sev m A y))=0→sev m (ee m [lsC m (sev m A x),1] A) y=0:=fun y hy e=>(S3 hm).1 (by rw [step y hy,e])
  have kL:∀a∈L,a.len<m.len∧sev m (ee m [lsC m (sev m A x),1] A) a=0:=fun a ha=>by
   have hal:a.len<m.len:=by have:=h.desc.le a ha; omega
   refine ⟨hal,kill a hal ?_⟩;rw [(h.ker a hal).2 (.mem ha),Quo.mk_zero,Gq.mul_zero,tz,Gq.add_zero]
  have kx:x.len<m.len∧sev m (ee m [lsC m (sev m A x),1] A) x=0:=⟨hx,kill x hx hcq⟩;have hput:=Rl (L:=L) (x:=x) (S:=fun y=>y.len<m.len∧sev m (ee m [lsC m (sev m A x),1] A) y=0) kz lin kL kx
  obtain ⟨_,sx⟩:=yf (L:=L) (x:=x) (y:=x);refine ⟨kf _ _ _,fun c hc=>by have:=nk (N:=m.len-1) h0 (by omega) c hc; omega,zg h.desc (by omega),?_,fun z hz=>⟨fun hk=>?_,fun hs=>?_⟩⟩
  ·rw [tv hr,In]
   show (ee m [lsC m (sev m A x),1] A).length=_;rw [zd hm (M6 _) h.trim (La hm hcl) h.res (by simp) (by omega)]
   simp only [bv,cw];omega
  ·have e1:Quo.mk m (lsC m (sev m A x))*Quo.mk m (sev m A z)+sg 1 (Quo.mk m (sev m A z))=0:=by
    rw [←step z hz];show Quo.mk m (sev m (ee m [lsC m (sev m A x),1] A) z)=0;have hk':sev m (ee m [lsC m (sev m A x),1] A) z=0:=hk;rw [hk',Quo.mk_zero]
   have hvq:Quo.mk m (sev m A x)≠0:=fun g=>hv0 ((S3 hm).1 g)
   obtain ⟨v',hv1⟩:=hm.irr.quo_inv hvq;have hs1:sg 1 (Quo.mk m (sev m A x))*sg 1 v'=1:=by rw [←uy,hv1]; exact W8 1
   have zl:=Gf h0 A z
   -- the quotient is fixed
   have fx:pw (Quo.mk m (sev m A z)*v') p.toNat=Quo.mk m (sev m A z)*v':=by
    show sg 1 (Quo.mk m (sev m A z)*v')=_;rw [uy];generalize Quo.mk m (lsC m (sev m A x))=C at *;generalize Quo.mk m (sev m A z)=w at *;generalize Quo.mk m (sev m A x)=v at *;generalize sg 1 v'=v2 at *
    have w1:sg 1 w=-(C*w):=by
     have:sg 1 w=(C*w+sg 1 w)-C*w:=bo [C,w,sg 1 w] rfl;rw [this,e1];exact bo [C,w] rfl
    have w2:sg 1 v=-(C*v):=by
     have:sg 1 v=(C*v+sg 1 v)-C*v:=bo [C,v,sg 1 v] rfl;rw [this,hcq];exact bo [C,v] rfl
    rw [w2] at hs1;have e3:-(C*w)*v2=w*v'*(-(C*v)*v2)+(-(C*w)*v2)*(1-v*v'):=bo [C,w,v,v',v2] rfl;rw [w1,e3,hs1,hv1];exact bo [C,w,v',v2] rfl
   obtain ⟨k,hk2⟩:=V0 hm.irr _ fx
   have hw:Quo.mk m (sev m A z)=Quo.mk m (Pol.C k)*Quo.mk m (sev m A x):=by
    have:Quo.mk m (sev m A z)=Quo.mk m (sev m A z)*v'*Quo.mk m (sev m A x)+Quo.mk m (sev m A z)*(1-Quo.mk m (sev m A x)*v'):=bo [Quo.mk m (sev m A z),v',Quo.mk m (sev m A x)] rfl;rw [this,hk2,hv1];exact bo [Quo.mk m (Pol.C k),Quo.mk m (sev m A x),Quo.mk m (sev m A z)] rfl
   have hd:sev m A (Pol.C (-k)*x+z)=0:=by
    refine (S3 hm).1 ?_;rw [sq h0 A (-k) hx hz,Quo.mk_add,Quo.mk_mul,hw,Pol.C_neg,Quo.mk_neg];exact bo [Quo.mk m (Pol.C k),Quo.mk m (sev m A x)] rfl
   have s1:Spn L (Pol.C (-k)*x+z):=(h.ker _ (tu (-k) hx hz)).1 hd;have s2:Spn (v7 L x) (Pol.C (-k)*x+z):=(yf (L:=L) (x:=x) (y:=Pol.C (-k)*x+z)).1 s1;have s3:=(sx.smul k).add s2
   have e4:Pol.C k*x+(Pol.C (-k)*x+z)=z:=by
    rw [Pol.C_neg];exact bo [Pol.C k,x,z] rfl
   rwa [e4] at s3
  ·exact (hs.inside (S:=fun y=>y.len<m.len∧sev m (ee m [lsC m (sev m A x),1] A) y=0) kz lin hput).2
theorem LkI.all (hm:Fld m):∀(xs A L:List (Fp p)),LkI m A L→(∀x∈xs,x.len<m.len)→LkI m (lsS m xs A) (iw xs L)
 | [],_,_,h,_=>h
 | x::xs,A,L,h,hx=>LkI.all hm xs _ _ (h.next hm (hx x (by simp))) fun y hy=>hx y (by simp [hy])
theorem a1p (hm:Fld m) {xs:List (Fp p)} (hx:∀x∈xs,x.len<m.len):(lsS m xs (dj 1 0)).length=(iw xs []).length+1∧zn m (pd8 (lsS m xs (dj 1 0)))=iw xs []:=by
 have h0:=hm.mon.2;have h5:=hm.five;have h2:=hm.two;have hI:=LkI.all hm xs _ _ (.one hm) hx;have inv:=vr h0 (by omega) (pd8 (lsS m xs (dj 1 0))) (m.len-1) (by omega)
 have same:∀z,sev m (pd8 (lsS m xs (dj 1 0))) z=sev m (lsS m xs (dj 1 0)) z:=fun z=>by
  show svI m z 0 (pd8 (lsS m xs (dj 1 0))) 0=svI m z 0 (lsS m xs (dj 1 0)) 0;rw [←Aq h0 (pd8 (lsS m xs (dj 1 0))),mj hI.trim]
 have r1:Rdc (iw xs []):=Hn (Desc.nil 11) Rdc.nil fun x hx'=>by have:=hx x hx'; omega
 refine ⟨hI.len,J7 inv.desc hI.desc inv.rdc r1 (fun b hb=>?_) fun b hb=>?_⟩
 ·obtain ⟨k1,k2⟩:=inv.ker b hb
  rw [same] at k2;exact (B8 hI.desc b).2 ((hI.ker b k1).1 k2)
 ·have hbl:b.len<m.len:=by have:=hI.desc.le b hb; omega
  have k2:=(hI.ker b hbl).2 (.mem hb);rw [←same] at k2;exact (B8 inv.desc b).2 (a08 h0 (by omega) hbl k2)
end
end Pe

namespace Pe
open Go Gq
variable {T:Nat→Option Fn} {A:ah}
def zf:Nat→Cd→Cd→Cd
 | 0,_,t=>t
 | n+1,.seq a b,t=>.seq a (zf n b t)
 | _+1,c,_=>c
def jx:Nat→Cd→Cd
 | 0,c=>c
 | n+1,.seq _ b=>jx n b
 | _+1,c=>c
theorem I5 (c t:Cd):zf 0 c t=t:=rfl
theorem Hl (n:Nat) (a b t:Cd):zf (n+1) (.seq a b) t=.seq a (zf n b t):=rfl
end Pe

namespace Pe
open Go Gq
abbrev a83:Q:=.arr 8 (.arr 64 .leaf) (.arr 64 .leaf .int)
theorem amm:Z2b_B=zf 8 Z2b_B (jx 8 Z2b_B):=by
 rw [Z2b_B]; rfl
theorem ah7:jx 8 Z2b_B=zf 2 (jx 8 Z2b_B) (jx 10 Z2b_B):=by
 rw [Z2b_B]; rfl
theorem ahk:jx 10 Z2b_B=zf 5 (jx 10 Z2b_B) (jx 15 Z2b_B):=by
 rw [Z2b_B]; rfl
theorem agv:jx 15 Z2b_B=zf 5 (jx 15 Z2b_B) (jx 20 Z2b_B):=by
 rw [Z2b_B]; rfl
theorem ami {O:ah} (t:Cd) {code m:List Int} {p one three:Int} {f g mu dv:List D}
 (e0:ask O F2c [.sl .leaf (ab .u8 code)]=some (D.bool false))
 (d1:ask O F3l [.sl .leaf (ab .u8 code)]=some (.tup [(D.int .i64 p),(D.arr 64 .leaf (ab .u8 m)),(.arr 8 (.arr 64 .leaf) f),(.arr 8 (.arr 64 .leaf) g)]))
 (a1:ask O F9 [(D.int .i64 p),(D.arr 64 .leaf (ab .u8 m)),(.arr 8 (.arr 64 .leaf) f),(.arr 8 (.arr 64 .leaf) g)]=some (.tup [(.arr 8 (.arr 64 .leaf) mu),(D.int .i64 one)]))
 (a2:ask O F3q [(D.int .i64 p),(D.arr 64 .leaf (ab .u8 m)),(.arr 8 (.arr 64 .leaf) f),(.arr 8 (.arr 64 .leaf) g)]=some (.tup [(.arr 8 (.arr 64 .leaf) mu),(D.int .i64 one)]))
 (b1:ask O Fa [(D.int .i64 p),(D.arr 64 .leaf (ab .u8 m)),(.arr 8 (.arr 64 .leaf) f),(.arr 8 (.arr 64 .leaf) g)]=some (.tup [(.arr 8 (.arr 64 .leaf) dv),(D.int .i64 three)]))
 (b2:ask O F3r [(D.int .i64 p),(D.arr 64 .leaf (ab .u8 m)),(.arr 8 (.arr 64 .leaf) f),(.arr 8 (.arr 64 .leaf) g)]=some (.tup [(.arr 8 (.arr 64 .leaf) dv),(D.int .i64 three)]))
 (q1:D.beq a83 (.arr 8 (.arr 64 .leaf) mu) (.arr 8 (.arr 64 .leaf) mu)=some true) (q2:D.beq a83 (.arr 8 (.arr 64 .leaf) dv) (.arr 8 (.arr 64 .leaf) dv)=some true)
 (hf:D.flats f=true) (hg:D.flats g=true) (hm:D.flats mu=true) (hd:D.flats dv=true) :
 dn O 0 (zf 8 Z2b_B t) ⟨[(0,.d (.sl .leaf (ab .u8 code)))],[.hole,.hole,.hole,.hole,.hole,.hole,.hole,.hole,.hole,.hole,.hole,.hole,.hole,.hole,.hole,.hole,.hole,.hole,.hole,.hole,.hole,.hole,.hole,.hole,.hole]⟩ =
  dn O 0 t ⟨[(0,.d (.sl .leaf (ab .u8 code))),(3,(.d (.int .i64 p))),(4,.ptr 0 []),(5,.ptr 1 []),(6,.ptr 2 []),(7,.ptr 3 []),(8,(.d (.int .i64 one))),(11,.ptr 5 []),(123,(.d (.bool false)))],[.box false (D.arr 64 .leaf (ab .u8 m)),.box false (.arr 8 (.arr 64 .leaf) f),.box false (.arr 8 (.arr 64 .leaf) g),.box false (.arr 8 (.arr 64 .leaf) mu),.hole,.box false (.arr 8 (.arr 64 .leaf) dv),.hole,.hole,.hole,.hole,.hole,.hole,.hole,.hole,.hole,.hole,.hole,.hole,.hole,.hole,.hole,.hole,.hole,.hole,.hole]⟩:=by
 simp -implicitDefEqProofs [Z2b_B,I5,Hl,ac,e0,d1,a1,a2,b1,b2,q1,q2,hf,hg,hm,hd]
theorem am5 {O:ah} (t:Cd) {code m n:List Int} {p one q:Int} {f g mu dv h:List D} (h1:one≠0)
 (d1:ask O F3j [.sl .leaf (ab .u8 code)]=some (.tup [(D.int .i64 q),(D.arr 64 .leaf (ab .u8 n)),(.arr 8 (.arr 64 .leaf) h)])) (hh:D.flats h=true) :
 dn O 0 (zf 2 (jx 8 Z2b_B) t) ⟨[(0,.d (.sl .leaf (ab .u8 code))),(3,(.d (.int .i64 p))),(4,.ptr 0 []),(5,.ptr 1 []),(6,.ptr 2 []),(7,.ptr 3 []),(8,(.d (.int .i64 one))),(11,.ptr 5 []),(123,(.d (.bool false)))],[.box false (D.arr 64 .leaf (ab .u8 m)),.box false (.arr 8 (.arr 64 .leaf) f),.box false (.arr 8 (.arr 64 .leaf) g),.box false (.arr 8 (.arr 64 .leaf) mu),.hole,.box false (.arr 8 (.arr 64 .leaf) dv),.hole,.hole,.hole,.hole,.hole,.hole,.hole,.hole,.hole,.hole,.hole,.hole,.hole,.hole,.hole,.hole,.hole,.hole,.hole]⟩ =
  dn O 0 t ⟨[(0,.d (.sl .leaf (ab .u8 code))),(32,(.d (.int .i64 q))),(33,.ptr 13 []),(34,.ptr 14 [])],[.hole,.hole,.hole,.hole,.hole,.hole,.hole,.hole,.hole,.hole,.hole,.hole,.hole,.box false (D.arr 64 .leaf (ab .u8 n)),.box false (.arr 8 (.arr 64 .leaf) h),.hole,.hole,.hole,.hole,.hole,.hole,.hole,.hole,.hole,.hole]⟩:=by
 rw [Z2b_B];simp -implicitDefEqProofs [jx,I5,Hl,ac,h1,d1,hh]
theorem am6 {O:ah} (t:Cd) {code m n:List Int} {p q a b c d s:Int} {f g mu dv h x1 x2 x3:List D}
 (e1:ask O Fb [(D.int .i64 p),(D.arr 64 .leaf (ab .u8 m)),(.arr 8 (.arr 64 .leaf) f)]=some (.tup [(D.int .i64 a),(D.int .i64 0)])) (e2:ask O Fb [(D.int .i64 p),(D.arr 64 .leaf (ab .u8 m)),(.arr 8 (.arr 64 .leaf) g)]=some (.tup [(D.int .i64 b),(D.int .i64 0)]))
 (e3:ask O Fb [(D.int .i64 p),(D.arr 64 .leaf (ab .u8 m)),(.arr 8 (.arr 64 .leaf) dv)]=some (.tup [(D.int .i64 c),(D.int .i64 0)])) (e4:ask O Fb [(D.int .i64 p),(D.arr 64 .leaf (ab .u8 m)),(.arr 8 (.arr 64 .leaf) mu)]=some (.tup [(D.int .i64 d),(D.int .i64 0)]))
 (e5:ask O F4 [(D.int .i64 p),(D.arr 64 .leaf (ab .u8 m)),(.arr 8 (.arr 64 .leaf) mu),(.arr 8 (.arr 64 .leaf) f)]=some (.tup [(.arr 8 (.arr 64 .leaf) x1),(.arr 8 (.arr 64 .leaf) z8),(D.int .i64 0)])) (e6:ask O F4 [(D.int .i64 p),(D.arr 64 .leaf (ab .u8 m)),(.arr 8 (.arr 64 .leaf) mu),(.arr 8 (.arr 64 .leaf) g)]=some (.tup [(.arr 8 (.arr 64 .leaf) x2),(.arr 8 (.arr 64 .leaf) z8),(D.int .i64 0)]))
 (e7:ask O F4 [(D.int .i64 p),(D.arr 64 .leaf (ab .u8 m)),(.arr 8 (.arr 64 .leaf) f),(.arr 8 (.arr 64 .leaf) dv)]=some (.tup [(.arr 8 (.arr 64 .leaf) x3),(.arr 8 (.arr 64 .leaf) z8),(D.int .i64 0)]))
 (w1:IntKind.i64.wrap (a+b)=s) (w2:IntKind.i64.wrap (c+d)=s) (q0:D.beq a83 (.arr 8 (.arr 64 .leaf) z8) (.arr 8 (.arr 64 .leaf) z8)=some true) (f1:D.flats x1=true) (f2:D.flats x2=true) (f3:D.flats x3=true)
 (d1:ask O F3j [.sl .leaf (ab .u8 code)]=some (.tup [(D.int .i64 q),(D.arr 64 .leaf (ab .u8 n)),(.arr 8 (.arr 64 .leaf) h)])) (hh:D.flats h=true) :
 dn O 0 (zf 2 (jx 8 Z2b_B) t) ⟨[(0,.d (.sl .leaf (ab .u8 code))),(3,(.d (.int .i64 p))),(4,.ptr 0 []),(5,.ptr 1 []),(6,.ptr 2 []),(7,.ptr 3 []),(8,(.d (.int .i64 0))),(11,.ptr 5 []),(123,(.d (.bool false)))],[.box false (D.arr 64 .leaf (ab .u8 m)),.box false (.arr 8 (.arr 64 .leaf) f),.box false (.arr 8 (.arr 64 .leaf) g),.box false (.arr 8 (.arr 64 .leaf) mu),.hole,.box false (.arr 8 (.arr 64 .leaf) dv),.hole,.hole,.hole,.hole,.hole,.hole,.hole,.hole,.hole,.hole,.hole,.hole,.hole,.hole,.hole,.hole,.hole,.hole,.hole]⟩ =
  dn O 0 t ⟨[(0,.d (.sl .leaf (ab .u8 code))),(32,(.d (.int .i64 q))),(33,.ptr 13 []),(34,.ptr 14 [])],[.hole,.hole,.hole,.hole,.hole,.hole,.hole,.hole,.hole,.hole,.hole,.hole,.hole,.box false (D.arr 64 .leaf (ab .u8 n)),.box false (.arr 8 (.arr 64 .leaf) h),.hole,.hole,.hole,.hole,.hole,.hole,.hole,.hole,.hole,.hole]⟩:=by
 have fz:D.flats z8=true:=rfl;rw [Z2b_B];simp -implicitDefEqProofs [jx,I5,Hl,ac,e1,e2,e3,e4,e5,e6,e7,w1,w2,q0,fz,f1,f2,f3,d1,hh]
theorem ahr {O:ah} {code n:List Int} {q:Int} {h:List D} {ls:List (List Int)} (hv:∀l∈ls,ask O Fe [(D.int .i64 q),(D.arr 64 .leaf (ab .u8 n)),(.arr 8 (.arr 64 .leaf) h),(D.arr 64 .leaf (ab .u8 l))]=some (.tup [(D.arr 64 .leaf (ab .u8 (pad []))),(D.int .i64 0)])) (hl:ls.length<100000):∀(k i:Nat),i+k=ls.length →
 dn O 0 (.loop Z2b_L0) ⟨[(0,.d (.sl .leaf (ab .u8 code))),(32,(.d (.int .i64 q))),(33,.ptr 13 []),(34,.ptr 14 []),(35,.d (.sl (.arr 64 .leaf) (ls.map aw))),(39,(.d (.int .i64 i)))],[.hole,.hole,.hole,.hole,.hole,.hole,.hole,.hole,.hole,.hole,.hole,.hole,.hole,.box false (D.arr 64 .leaf (ab .u8 n)),.box false (.arr 8 (.arr 64 .leaf) h),.hole,.hole,.hole,.hole,.hole,.hole,.hole,.hole,.hole,.hole]⟩ =
  some (.exit 0,⟨[(0,.d (.sl .leaf (ab .u8 code))),(32,(.d (.int .i64 q))),(33,.ptr 13 []),(34,.ptr 14 []),(35,.d (.sl (.arr 64 .leaf) (ls.map aw))),(39,(.d (.int .i64 ls.length))),(263,(.d (.bool false)))],[.hole,.hole,.hole,.hole,.hole,.hole,.hole,.hole,.hole,.hole,.hole,.hole,.hole,.box false (D.arr 64 .leaf (ab .u8 n)),.box false (.arr 8 (.arr 64 .leaf) h),.hole,.hole,.hole,.hole,.hole,.hole,.hole,.hole,.hole,.hole]⟩)
 | 0,i,hi=>by
  obtain rfl:i=ls.length:=by omega
  have hL:(ls.map aw).length=ls.length:=ap ..;refine bt ?_;generalize ls.map aw=LD at *;simp -implicitDefEqProofs [Z2b_L0,ac,hL]
 | k+1,i,hi=>by
  have hlt:i<ls.length:=by omega
  have e1:=hv _ (bj hlt);have q0:D.beq (.arr 64 .leaf .int) (D.arr 64 .leaf (ab .u8 (pad []))) (D.arr 64 .leaf (ab .u8 (pad [])))=some true:=by rw [Nk (ck _) (ck _),decide_eq_true rfl]
  have hL:(ls.map aw).length=ls.length:=ap ..;have hx2:∀h:i<(ls.map aw).length,(ls.map aw)[i]'h=(D.arr 64 .leaf (ab .u8 (ls[i]))):=fun h=>by rw [ca]
  have w4:IntKind.i64.wrap ((i:Int)+1)=((i+1:Nat):Int):=(w64 (x:=(i:Int)+1) (by omega)).trans (by omega)
  refine bm ?_ (ahr hv hl k (i+1) (by omega))
  generalize ls[i]=li at *;generalize ls.map aw=LD at *;simp -implicitDefEqProofs [Z2b_L0,ac,hlt,hL,hx2,e1,q0,w4]
theorem alt {O:ah} (t:Cd) {code n o:List Int} {q r twelve:Int} {h LD:List D} {ls:List (List Int)}
 (a1:ask O F7 [(D.int .i64 q),(D.arr 64 .leaf (ab .u8 n)),(.arr 8 (.arr 64 .leaf) h)]=some (.tup [.sl (.arr 64 .leaf) (ls.map aw),(D.int .i64 twelve)])) (a2:ask O F3o [(D.int .i64 q),(D.arr 64 .leaf (ab .u8 n)),(.arr 8 (.arr 64 .leaf) h)]=some (.tup [.sl (.arr 64 .leaf) (ls.map aw),(D.int .i64 twelve)]))
 (a3:ask O F2d [.sl (.arr 64 .leaf) (ls.map aw),.sl (.arr 64 .leaf) (ls.map aw)]=some (D.bool true))
 (hv:∀l∈ls,ask O Fe [(D.int .i64 q),(D.arr 64 .leaf (ab .u8 n)),(.arr 8 (.arr 64 .leaf) h),(D.arr 64 .leaf (ab .u8 l))]=some (.tup [(D.arr 64 .leaf (ab .u8 (pad []))),(D.int .i64 0)])) (hl:ls.length<100000)
 (d1:ask O F3k [.sl .leaf (ab .u8 code)]=some (.tup [(D.int .i64 r),(D.arr 64 .leaf (ab .u8 o)),.sl (.arr 64 .leaf) LD])) :
 dn O 0 (zf 5 (jx 10 Z2b_B) t) ⟨[(0,.d (.sl .leaf (ab .u8 code))),(32,(.d (.int .i64 q))),(33,.ptr 13 []),(34,.ptr 14 [])],[.hole,.hole,.hole,.hole,.hole,.hole,.hole,.hole,.hole,.hole,.hole,.hole,.hole,.box false (D.arr 64 .leaf (ab .u8 n)),.box false (.arr 8 (.arr 64 .leaf) h),.hole,.hole,.hole,.hole,.hole,.hole,.hole,.hole,.hole,.hole]⟩ =
  dn O 0 t ⟨[(0,.d (.sl .leaf (ab .u8 code))),(42,(.d (.int .i64 r))),(43,.ptr 16 []),(44,.d (.sl (.arr 64 .leaf) LD))],[.hole,.hole,.hole,.hole,.hole,.hole,.hole,.hole,.hole,.hole,.hole,.hole,.hole,.hole,.hole,.hole,.box false (D.arr 64 .leaf (ab .u8 o)),.hole,.hole,.hole,.hole,.hole,.hole,.hole,.hole]⟩:=by
 have st:=ahr (O:=O) (code:=code) hv hl ls.length 0 (bn _);rw [show ((0:Nat):Int)=0 from rfl] at st;rw [Z2b_B];generalize ls.map aw=QD at *;simp -implicitDefEqProofs [jx,I5,Hl,ac,a1,a2,a3,st,d1]
structure LkSaid (O:ah) (r:Int) (o:List Int) (LD le:List D):Prop where
 ex:∃(sp:List D),ask O Fc [(D.int .i64 r),(D.arr 64 .leaf (ab .u8 o)),.sl (.arr 64 .leaf) LD]=some (.tup [.sl (.arr 64 .leaf) sp,(D.int .i64 0)])∧ask O Fb [(D.int .i64 r),(D.arr 64 .leaf (ab .u8 o)),(.arr 8 (.arr 64 .leaf) le)]=some (.tup [(D.int .i64 ((sp.length:Int))),(D.int .i64 0)]) ∧
  ask O F7 [(D.int .i64 r),(D.arr 64 .leaf (ab .u8 o)),(.arr 8 (.arr 64 .leaf) le)]=some (.tup [.sl (.arr 64 .leaf) sp,(D.int .i64 0)])∧ask O F2d [.sl (.arr 64 .leaf) sp,.sl (.arr 64 .leaf) sp]=some (D.bool true)
theorem alx {O:ah} (t:Cd) {code o tt x:List Int} {r s fifteen:Int} {LD le k:List D}
 (a1:ask O F8 [(D.int .i64 r),(D.arr 64 .leaf (ab .u8 o)),.sl (.arr 64 .leaf) LD]=some (.tup [(.arr 8 (.arr 64 .leaf) le),(D.int .i64 fifteen)])) (a2:ask O F3p [(D.int .i64 r),(D.arr 64 .leaf (ab .u8 o)),.sl (.arr 64 .leaf) LD]=some (.tup [(.arr 8 (.arr 64 .leaf) le),(D.int .i64 fifteen)]))
 (q1:D.beq a83 (.arr 8 (.arr 64 .leaf) le) (.arr 8 (.arr 64 .leaf) le)=some true) (fl:D.flats le=true) (h:fifteen≠0∨fifteen=0∧LkSaid O r o LD le)
 (d1:ask O F3m [.sl .leaf (ab .u8 code)]=some (.tup [(D.int .i64 s),(D.arr 64 .leaf (ab .u8 tt)),(.arr 8 (.arr 64 .leaf) k),(D.arr 64 .leaf (ab .u8 x))])) (fk:D.flats k=true) :
 dn O 0 (zf 5 (jx 15 Z2b_B) t) ⟨[(0,.d (.sl .leaf (ab .u8 code))),(42,(.d (.int .i64 r))),(43,.ptr 16 []),(44,.d (.sl (.arr 64 .leaf) LD))],[.hole,.hole,.hole,.hole,.hole,.hole,.hole,.hole,.hole,.hole,.hole,.hole,.hole,.hole,.hole,.hole,.box false (D.arr 64 .leaf (ab .u8 o)),.hole,.hole,.hole,.hole,.hole,.hole,.hole,.hole]⟩ =
  dn O 0 t ⟨[(0,.d (.sl .leaf (ab .u8 code))),(55,(.d (.int .i64 s))),(56,.ptr 19 []),(57,.ptr 20 []),(58,.ptr 21 [])],[.hole,.hole,.hole,.hole,.hole,.hole,.hole,.hole,.hole,.hole,.hole,.hole,.hole,.hole,.hole,.hole,.hole,.hole,.hole,.box false (D.arr 64 .leaf (ab .u8 tt)),.box false (.arr 8 (.arr 64 .leaf) k),.box false (D.arr 64 .leaf (ab .u8 x)),.hole,.hole,.hole]⟩:=by
 rw [Z2b_B];rcases h with h | ⟨rfl,⟨sp,s1,s2,s3,s4⟩⟩
 ·simp -implicitDefEqProofs [jx,I5,Hl,ac,a1,a2,q1,fl,h,d1,fk]
 ·simp -implicitDefEqProofs [jx,I5,Hl,ac,a1,a2,q1,fl,s1,s2,s3,s4,d1,fk]
theorem al6 {O:ah} {code tt x v vv:List Int} {s twenty u:Int} {k:List D} {fb:Bool}
 (a1:ask O Fe [(D.int .i64 s),(D.arr 64 .leaf (ab .u8 tt)),(.arr 8 (.arr 64 .leaf) k),(D.arr 64 .leaf (ab .u8 x))]=some (.tup [(D.arr 64 .leaf (ab .u8 v)),(D.int .i64 twenty)])) (a2:ask O F3s [(D.int .i64 s),(D.arr 64 .leaf (ab .u8 tt)),(.arr 8 (.arr 64 .leaf) k),(D.arr 64 .leaf (ab .u8 x))]=some (.tup [(D.arr 64 .leaf (ab .u8 v)),(D.int .i64 twenty)]))
 (q1:D.beq (.arr 64 .leaf .int) (D.arr 64 .leaf (ab .u8 v)) (D.arr 64 .leaf (ab .u8 v))=some true)
 (d1:ask O F3i [.sl .leaf (ab .u8 code)]=some (.tup [(D.int .i64 u),(D.arr 64 .leaf (ab .u8 vv))])) (b1:ask O F5 [(D.int .i64 u),(D.arr 64 .leaf (ab .u8 vv))]=some (D.bool fb)) (b2:ask O F3n [(D.int .i64 u),(D.arr 64 .leaf (ab .u8 vv))]=some (D.bool fb)) :
 dn O 0 (jx 20 Z2b_B) ⟨[(0,.d (.sl .leaf (ab .u8 code))),(55,(.d (.int .i64 s))),(56,.ptr 19 []),(57,.ptr 20 []),(58,.ptr 21 [])],[.hole,.hole,.hole,.hole,.hole,.hole,.hole,.hole,.hole,.hole,.hole,.hole,.hole,.hole,.hole,.hole,.hole,.hole,.hole,.box false (D.arr 64 .leaf (ab .u8 tt)),.box false (.arr 8 (.arr 64 .leaf) k),.box false (D.arr 64 .leaf (ab .u8 x)),.hole,.hole,.hole]⟩=some (.ret,⟨[(2,(.d (.bool true)))],[.hole,.hole,.hole,.hole,.hole,.hole,.hole,.hole,.hole,.hole,.hole,.hole,.hole,.hole,.hole,.hole,.hole,.hole,.hole,.hole,.hole,.hole,.hole,.hole,.hole]⟩):=by
 have hb:D.beq .bool (D.bool fb) (D.bool fb)=some true:=by cases fb <;> rfl
 rw [Z2b_B];simp -implicitDefEqProofs [jx,a1,a2,q1,d1,b1,b2,hb]
end Pe


namespace Pe
open Go Gq
variable {T:Nat→Option Fn} {A:ah}
end Pe

namespace Pe
open Go Gq
end Pe

namespace Pe
open Go Gq
variable {T:Nat→Option Fn} {A:ah}
section
variable {p:Int} [IsP p] {m:Fp p}
theorem zq {S:List (Fp p)} (h:S.length=8):Sk8 (skP S):=⟨fun l hl=>by
 obtain ⟨a,_,rfl⟩:=cj.1 hl;exact ⟨ck _,yy _⟩,by unfold skP; rw [ap]; exact h⟩
theorem G9 {S:List (Fp p)} (h:∀c∈S,c.len<m.len):oq m (skP S):=fun l hl=>by
 obtain ⟨a,ha,rfl⟩:=cj.1 hl;exact ⟨a,h a ha,rfl⟩
theorem Bo (hm:Fld m) {S:List (Fp p)} (hS:∀c∈S,c.len<m.len):eg p (pad (row m)) [skP S]=0:=(Vo hm).2 (G9 hS)
theorem a4q (hm:Fld m) {S R:List (Fp p)} (hS:∀c∈S,c.len<m.len) (hR:∀c∈R,c.len<m.len):eg p (pad (row m)) [skP S,skP R]=0:=o9.2 ⟨_,m,rfl,hm,G9 hS,G9 hR⟩
end
theorem Rt {ls:List (List Int)} (h:Sh8 ls):D.beq (.arr 8 (.arr 64 .leaf) (.arr 64 .leaf .int)) (.arr 8 (.arr 64 .leaf) (ls.map aw)) (.arr 8 (.arr 64 .leaf) (ls.map aw))=some true:=by rw [Qm h h,decide_eq_true rfl]
end Pe

namespace Pe
open Go Gq
variable {T:Nat→Option Fn} {A:ah}
theorem Wm {p:Int}:eS ([]:List (Fp p))=.arr 8 (.arr 64 .leaf) z8:=by rw [z8_eq (p:=p)]
theorem G3 {a b:List (List Int)} {k l:Int} (h:D.tup [da a,(D.int .i64 k)]=D.tup [da b,(D.int .i64 l)]):a.map aw=b.map aw∧k=l:=by simpa [da] using h
theorem a96:D.beq a83 (.arr 8 (.arr 64 .leaf) z8) (.arr 8 (.arr 64 .leaf) z8)=some true:=Rt oz
theorem aco (hlm:kn (den T A) F9) (hrd:kk (den T A) Fa) (hsd:su (den T A)) (hdr:H0 (den T A) F4 false) (t:Cd) {code:List Int} {p q:Int} {m n:List Int} {f g h mu dv:List (List Int)} {one three:Int} (am:Arr m) (sf:Sk8 f) (sg:Sk8 g)
 (em:lmD p m f g=.tup [da mu,(D.int .i64 one)]) (er:rdD p m f g=.tup [da dv,(D.int .i64 three)])
 (d1:ask (den T A) F3j [.sl .leaf (ab .u8 code)]=some (.tup [(D.int .i64 q),(D.arr 64 .leaf (ab .u8 n)),.arr 8 (.arr 64 .leaf) (h.map aw)])) :
 dn (den T A) 0 (zf 2 (jx 8 Z2b_B) t) ⟨[(0,.d (.sl .leaf (ab .u8 code))),(3,(.d (.int .i64 p))),(4,.ptr 0 []),(5,.ptr 1 []),(6,.ptr 2 []),(7,.ptr 3 []),(8,(.d (.int .i64 one))),(11,.ptr 5 []),(123,(.d (.bool false)))],.box false (D.arr 64 .leaf (ab .u8 m)) :: .box false (.arr 8 (.arr 64 .leaf) (f.map aw)) :: .box false (.arr 8 (.arr 64 .leaf) (g.map aw)) :: .box false (.arr 8 (.arr 64 .leaf) (mu.map aw)) :: .hole :: .box false (.arr 8 (.arr 64 .leaf) (dv.map aw))::List.replicate 19 .hole⟩ =
  dn (den T A) 0 t ⟨[(0,.d (.sl .leaf (ab .u8 code))),(32,(.d (.int .i64 q))),(33,.ptr 13 []),(34,.ptr 14 [])],List.replicate 13 .hole ++ .box false (D.arr 64 .leaf (ab .u8 n)) :: .box false (.arr 8 (.arr 64 .leaf) (h.map aw))::List.replicate 10 .hole⟩:=by
 by_cases h1:one=0
 ·subst h1
  have hc:lmC p m f g=0:=dd fun hc=>by
   rw [Cp hc] at em;exact hc (G3 em).2
  have ok:=Sd hc;obtain ⟨ip,M,S,R,rfl,rfl,rfl,hm,hS8,hR8,hS,hR⟩:=Mg sf sg ok;have h5:=hm.five;have hX:=Sk.of8 hS8 hS;have hY:=Sk.of8 hR8 hR;have c2:=a4q hm hS hR;have l0:=L2 hm hS8 hR8 hS hR c2;rw [hc] at l0
  have hlen:1≤(az S).length∧1≤(az R).length:=by
   split at l0
   ·cases l0
   ·omega
  obtain ⟨x1,y1⟩:=hlen;have rc:=Jo hm hS8 hR8 hS hR c2;rw [if_neg (by omega)] at rc
  rw [Gk hm hS hR rc] at er;rw [Eu hm hS hR hc] at em;unfold lmT at em;obtain ⟨k1,k2,k3,k4,k5,k6,k7⟩:=Tn hm hX hY x1 y1;obtain ⟨g1,g2⟩:=xp hm (az R).length (az S) (az R) (ba _) hX hY (.inl x1);obtain ⟨v1,v2⟩:=adv hm hX hY;obtain ⟨v3,v4⟩:=a11 hm (az R).length (az S) (az R) (ba _) hX hY
  have m8:(lmX M (az S) (az R)).length≤8:=dd fun h=>by
   rw [if_neg h] at em;simp at em
  rw [if_pos m8] at em;have hL:Sk M (lmX M (az S) (az R)):=⟨kf _ _ _,m8,k5⟩;have emu:(skP (pd8 (gr M (lmX M (az S) (az R))))).map aw=mu.map aw:=(G3 em).1;have edv:(skP (pd8 (gr M (gf M (az R).length (az S) (az R))))).map aw=dv.map aw:=(G3 er).1;rw [←emu,←edv];have w1:=v1.mon hm;have w2:=v2.mon hm;have w3:=Dvr.of_mon hm g1 g2 v3;have mL:=Es hm hL.trim hL.res k2;have mG:=Es hm g1.trim g1.res g2;have sL:=hL.mon hm.mon.2;have sG:=g1.mon hm.mon.2;generalize gr M (lmX M (az S) (az R))=L at *;generalize gr M (gf M (az R).length (az S) (az R))=G at *;have rL:=A7 hm.mon.2 sL.res;have rG:=A7 hm.mon.2 sG.res;have L8:=f9 sL.eight;have G8:=f9 sG.eight;have e1:=hsd p (pad (row M)) (skP S) am.2 am.1 sf;rw [yp hm hS (Bo hm hS)] at e1;have e2:=hsd p (pad (row M)) (skP R) am.2 am.1 sg;rw [yp hm hR (Bo hm hR)] at e2;have e3:=hsd p (pad (row M)) (skP (pd8 G)) am.2 am.1 (zq G8);rw [yp hm rG (Bo hm rG),mj sG.trim] at e3;have e4:=hsd p (pad (row M)) (skP (pd8 L)) am.2 am.1 (zq L8);rw [yp hm rL (Bo hm rL),mj sL.trim] at e4;have e5:=hdr p (pad (row M)) (skP (pd8 L)) (skP S) am.2 am.1 (zq L8) sf;rw [Az hm L8 hS8 rL hS x1,mj sL.trim,Sw hm sL hX x1 w1,Wm] at e5;have e6:=hdr p (pad (row M)) (skP (pd8 L)) (skP R) am.2 am.1 (zq L8) sg;rw [Az hm L8 hR8 rL hR y1,mj sL.trim,Sw hm sL hY y1 w2,Wm] at e6;have e7:=hdr p (pad (row M)) (skP S) (skP (pd8 G)) am.2 am.1 sf (zq G8);rw [Az hm hS8 G8 hS rG (by rw [mj sG.trim]; omega),mj sG.trim,Sw hm hX sG (by omega) w3,Wm] at e7
  have x8:=hX.eight;have y8:=hY.eight;have l8:=sL.eight;have g8:=sG.eight;exact am6 t e1 e2 e3 e4 e5 e6 e7 (w64 (by omega)) ((w64 (by omega)).trans (by omega)) a96 (cm _) (cm _) (cm _) d1 (cm _)
 ·exact am5 t h1 d1 (cm _)
theorem ab9 (hvl:mc (den T A) Fe) {q:Int} {n:List Int} {h:List (List Int)} (an:Arr n) (sh:Sk8 h):∀l∈kL q n h,ask (den T A) Fe [(D.int .i64 q),(D.arr 64 .leaf (ab .u8 n)),da h,(D.arr 64 .leaf (ab .u8 l))]=some (.tup [(D.arr 64 .leaf (ab .u8 (pad []))),(D.int .i64 0)]):=by
 intro l hl
 by_cases hk:Oa q n h
 ·have hk':=hk
  obtain ⟨ip,m,rfl,hm,hs⟩:=hk;obtain ⟨S,rfl,hS⟩:=uh hs;have h5:=hm.five;rw [Gs hk' (by omega) (fun a ha=>by have:=hS a ha; omega)] at hl
  obtain ⟨b,hb,rfl⟩:=cj.1 hl;obtain ⟨k1,k2⟩:=(E9 hm S).2 b hb;have e:=hvl q (pad (row m)) (skP S) (pad (row b)) an.2 an.1 sh (yy _) (ck _);rw [Lu ⟨_,m,rfl,hm,hs,b,k1,rfl⟩ (by omega) (by omega) (fun a ha=>by have:=hS a ha; omega),show svI m b 0 S 0=0 from k2,dq] at e
  exact e
 ·rw [Sz hk] at hl
  cases hl
theorem abn (hsp:Gp (den T A) Fc) (hsd:su (den T A)) (hke:kj (den T A) F7) (hpo:Er (den T A)) {r:Int} {o:List Int} {ls le:List (List Int)} {fifteen:Int} (ao:Arr o) (al:Ji ls) (hl:ls.length≤1000) (el:lkD r o ls=.tup [da le,(D.int .i64 fifteen)]):fifteen≠0∨fifteen=0∧LkSaid (den T A) r o (ls.map aw) (le.map aw):=by
 by_cases h:H6 r o ls
 ·have h':=h
  obtain ⟨ip,m,rfl,hm,hs⟩:=h;obtain ⟨S,rfl,hS⟩:=uh hs;have h5:=hm.five;have hS64:∀a∈S,a.len≤64:=fun a ha=>by have:=hS a ha; omega
  have hc:=Aw.2 h';have k1:=Ev h' (by omega) hS64
  have k2:=Uj h' hS64;have e1:=hsp r (pad (row m)) (skP S) ao.2 ao.1 al (by have:(skP S).length≤1000:=hl; omega)
  unfold spD at e1;rw [k2] at e1;rw [show lkD r (pad (row m)) (S.map fun a=>pad (row a))=lkD r (pad (row m)) (skP S) from rfl,k1] at el
  obtain ⟨rfl,hle⟩:fifteen=0∧(skP (pd8 (lsS m S (dj 1 0)))).map aw=le.map aw:=⟨(G3 el).2.symm,(G3 el).1⟩;refine .inr ⟨rfl,?_⟩;rw [←hle];have hI:=LkI.all hm S _ _ (.one hm) hS;obtain ⟨d1,d2⟩:=a1p hm hS;have sl:=hI.desc.length;have A8:(lsS m S (dj 1 0)).length≤8:=by omega
  have rA:=A7 hm.mon.2 hI.res;have eA:=f9 A8;have e2:=hsd r (pad (row m)) (skP (pd8 (lsS m S (dj 1 0)))) ao.2 ao.1 (zq eA);rw [yp hm rA (Bo hm rA),mj hI.trim,d1,show (((iw S []).length+1:Nat):Int)-1=((iw S []).length:Int) by omega] at e2
  have e3:=hke r (pad (row m)) (skP (pd8 (lsS m S (dj 1 0)))) ao.2 ao.1 (zq eA);have ok:Oa r (pad (row m)) (skP (pd8 (lsS m S (dj 1 0)))):=⟨ip,m,rfl,hm,G9 rA⟩;unfold a5g at e3;rw [Gs ok (by omega) (fun a ha=>by have:=rA a ha; omega),d2,Ew.2 ok] at e3
  have e4:=hpo (skP (iw S [])) (fun l hl=>by obtain ⟨a,_,rfl⟩:=cj.1 hl; exact ck _) (by unfold skP; rw [ap]; omega)
  have hlen:((skP (iw S [])).map aw).length=(iw S []).length:=by rw [ap]; unfold skP; rw [ap]
  rw [show te r (pad (row m)) (skP S)=0 from hc] at e1;exact ⟨_,e1,by rw [hlen]; exact e2,e3,e4⟩
 ·rw [L7 h] at el
  left;intro h0;subst h0;simp at el
def Hp (O:ah):Prop:=∀code:List Int,g9 code→code.length≤9223372036854775807→ask O F2b [.sl .leaf (ab .u8 code)]=some (D.bool true)
theorem V4 (hT:T F2b=some Z2b) (hbig:a41 (den T A)) (hdm:vw (den T A) F3l) (hdk:ri (den T A)) (hdl:um (den T A)) (hdv:sm (den T A)) (hdf:xu (den T A))
 (hlm:kn (den T A) F9) (hlms:kn (den T A) F3q) (hrd:kk (den T A) Fa) (hrds:kk (den T A) F3r) (hsd:su (den T A)) (hdr:H0 (den T A) F4 false)
 (hke:kj (den T A) F7) (hkes:kj (den T A) F3o) (hpo:Er (den T A)) (hvl:mc (den T A) Fe) (hvls:mc (den T A) F3s)
 (hle:sa (den T A) F8) (hles:sa (den T A) F3p) (hsp:Gp (den T A) Fc) (hfi:vp (den T A) F5) (hfis:vp (den T A) F3n):Hp (den T A):=by
 classical
 intro code hb hl;have e0:=hbig (ab .u8 code)
 by_cases hc:(4096:Int)<(ab .u8 code).length
 ·rw [decide_eq_true hc] at e0
  refine bi hT rfl ?_;simp -implicitDefEqProofs [Z2b,Z2b_B,ac,e0]
 rw [decide_eq_false hc] at e0
 have hc4:code.length≤4096:=by
  rw [Iq] at hc;omega
 obtain ⟨p,m,f,g,d1,am,sf,sg⟩:=hdm code hb hc4;obtain ⟨q,n,h,d2,an,sh⟩:=hdk code hb hc4;obtain ⟨r,o,ls,d3,ao,als,hls⟩:=hdl code hb hc4;obtain ⟨s,tt,k,x,d4,att,sk,ax⟩:=hdv code hb hc4;obtain ⟨u,vv,d5,avv⟩:=hdf code hb hc4;have a1:=hlm p m f g am.2 am.1 sf sg;have a2:=hlms p m f g am.2 am.1 sf sg;obtain ⟨mu,one,em,gm⟩:∃(r:List (List Int)) (k:Int),lmD p m f g=.tup [da r,(D.int .i64 k)]∧Sh8 r:=a7b p m sf sg;have b1:=hrd p m f g am.2 am.1 sf sg;have b2:=hrds p m f g am.2 am.1 sf sg;obtain ⟨dv,three,er,gd⟩:∃(r:List (List Int)) (k:Int),rdD p m f g=.tup [da r,(D.int .i64 k)]∧Sh8 r:=a8p p m sf sg;rw [em] at a1 a2;rw [er] at b1 b2;have k1:=hke q n h an.2 an.1 sh;have k2:=hkes q n h an.2 an.1 sh;unfold a5g at k1 k2;obtain ⟨o1,o2⟩:=aij q n h;have k3:=hpo (kL q n h) o1 (by omega)
 have k4:=ab9 hvl (q:=q) an sh;have l1:=hle r o ls ao.2 ao.1 als (by omega)
 have l2:=hles r o ls ao.2 ao.1 als (by omega)
 obtain ⟨le,fifteen,el,gl⟩:=a74 r o ls;rw [el] at l1 l2;have said:=abn hsp hsd hke hpo ao als hls el;have v1:=hvl s tt k x att.2 att.1 sk ax.2 ax.1;have v2:=hvls s tt k x att.2 att.1 sk ax.2 ax.1;obtain ⟨v,twenty,ev,gv⟩:=a5j s tt k x;rw [ev] at v1 v2;have f1:=hfi u vv avv.2 avv.1;have f2:=hfis u vv avv.2 avv.1;have p1:=ami (O:=den T A) (zf 2 (jx 8 Z2b_B) (zf 5 (jx 10 Z2b_B) (zf 5 (jx 15 Z2b_B) (jx 20 Z2b_B)))) e0 d1 a1 a2 b1 b2 (Rt gm) (Rt gd) (cm _) (cm _) (cm _) (cm _);have p2:=aco hlm hrd hsd hdr (zf 5 (jx 10 Z2b_B) (zf 5 (jx 15 Z2b_B) (jx 20 Z2b_B))) am sf sg em er d2;have p3:=alt (O:=den T A) (zf 5 (jx 15 Z2b_B) (jx 20 Z2b_B)) k1 k2 k3 k4 (by omega) d3
 have p4:=alx (O:=den T A) (jx 20 Z2b_B) l1 l2 (Rt gl) (cm _) said d4 (cm _);have p5:=al6 (O:=den T A) v1 v2 (by rw [Nk gv gv,decide_eq_true rfl]) d5 f1 f2
 have all:=p1.trans (p2.trans (p3.trans (p4.trans p5)));rw [←agv,←ahk,←ah7,←amm] at all;refine bi hT rfl ?_;simp -implicitDefEqProofs [Z2b,all,List.replicate]
end Pe

namespace Pe
open Go Gq
abbrev tyB:Ty:=.sl (.int .u8)
theorem ail {d:D} (h:tyB.has d):∃l:List Int,d=.sl .leaf (ab .u8 l)∧g9 l∧l.length≤9223372036854775807:=by
 cases d <;> simp only [Ty.has] at h
 obtain ⟨rfl,h1,h2⟩:=h;obtain ⟨l,rfl,hb⟩:=Q8 _ h2;exact ⟨l,rfl,hb,by simpa [ab] using h1⟩
end Pe
