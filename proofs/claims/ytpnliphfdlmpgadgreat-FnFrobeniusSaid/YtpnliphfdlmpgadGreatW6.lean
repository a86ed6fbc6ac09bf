/-
  A part of the proof: an evaluator for a small form of the code, its soundness, and contracts of functions over it.
-/
import Derived.Test.YtpnliphfdlmpgadGreatW1
import Derived.Test.YtpnliphfdlmpgadGreatW2
import Derived.Test.YtpnliphfdlmpgadGreatW3
import Derived.Test.YtpnliphfdlmpgadGreatW4
import Derived.Test.YtpnliphfdlmpgadGreatW5

namespace Pe
open Go Gq
section
variable {p:Int}
noncomputable def sg {m:Fp p}:Nat→Quo m→Quo m
 | 0,x=>x
 | k+1,x=>sg k (pw x p.toNat)
theorem sg_succ {m:Fp p}:∀(k:Nat) (x:Quo m),sg (k+1) x=pw (sg k x) p.toNat
 | 0,_=>rfl
 | k+1,x=>by
  show sg (k+1) (pw x p.toNat)=_
  rw [sg_succ k]
  rfl
theorem sg_mk [IsP p] {m:Fp p}:∀(k:Nat) (a:Fp p),Quo.mk m (frIt m k a)=sg k (Quo.mk m a)
 | 0,_=>rfl
 | k+1,a=>by
  show Quo.mk m (frIt m k (pw a p.toNat%m))=sg k (pw (Quo.mk m a) p.toNat)
  rw [sg_mk k,Pol.mk_mod,Quo.mk_pow]
theorem pw_zero_pos [IsP p] {m:Fp p}:pw (0:Quo m) p.toNat=0:=by
 have h:=IsP.pos (p:=p)
 have:p.toNat=(p.toNat-1)+1:=by omega
 rw [this]
 show pw (0:Quo m) (p.toNat-1)*0=0
 exact Gq.mul_zero _
theorem sg_zero [IsP p] {m:Fp p}:∀k,sg k (0:Quo m)=0
 | 0=>rfl
 | k+1=>by
  show sg k (pw (0:Quo m) p.toNat)=0
  rw [pw_zero_pos,sg_zero k]
theorem sg_one {m:Fp p}:∀k,sg k (1:Quo m)=1
 | 0=>rfl
 | k+1=>by
  show sg k (pw (1:Quo m) p.toNat)=1
  rw [pw_one,sg_one k]
section
variable {m:Fp p}
noncomputable def Lop (t0 t1 t2:Quo m) (X:Nat→Quo m):Nat→Quo m
 | 0=>t0*X 0
 | 1=>t0*X 1+t1*sg 1 (X 0)
 | n+2=>t0*X (n+2)+t1*sg 1 (X (n+1))+t2*sg 2 (X n)
noncomputable def Rop (t0 t1 t2:Quo m) (X:Nat→Quo m):Nat→Quo m
 | 0=>X 0*t0
 | 1=>X 1*sg 1 t0+X 0*t1
 | n+2=>X (n+2)*sg (n+2) t0+X (n+1)*sg (n+1) t1+X n*sg n t2
noncomputable def e0:Nat→Quo m
 | 0=>1
 | _+1=>0
theorem sg1_add [IsP p] (x y:Quo m):sg 1 (x+y)=sg 1 x+sg 1 y:=frob_add x y
theorem sg1_mul (x y:Quo m):sg 1 (x*y)=sg 1 x*sg 1 y:=pw_mul x y _
theorem sg2_add [IsP p] (x y:Quo m):sg 2 (x+y)=sg 2 x+sg 2 y:=by
 rw [show sg 2 (x+y)=sg 1 (sg 1 (x+y)) from rfl,sg1_add,sg1_add]; rfl
theorem sg2_mul [IsP p] (x y:Quo m):sg 2 (x*y)=sg 2 x*sg 2 y:=by
 rw [show sg 2 (x*y)=sg 1 (sg 1 (x*y)) from rfl,sg1_mul,sg1_mul]; rfl
theorem sg1_sg [IsP p] (k:Nat) (x:Quo m):sg 1 (sg k x)=sg (k+1) x:=(sg_succ k x).symm
theorem sg2_sg [IsP p] (k:Nat) (x:Quo m):sg 2 (sg k x)=sg (k+2) x:=by
 rw [show sg 2 (sg k x)=sg 1 (sg 1 (sg k x)) from rfl,sg1_sg k x,sg1_sg (k+1) x]
theorem nine (t0 t1 t2 a b c d e f g h i s u v:Quo m):t0*(a*s+b*u+c*v)+t1*(d*s+e*u+f*v)+t2*(g*s+h*u+i*v)=(t0*a+t1*d+t2*g)*s+(t0*b+t1*e+t2*h)*u+(t0*c+t1*f+t2*i)*v:=by
 have l:∀t a b c:Quo m,t*(a*s+b*u+c*v)=t*a*s+t*b*u+t*c*v:=fun t a b c=>ring_of [t,a,b,c,s,u,v] rfl
 have q:∀x y z w:Quo m,(x+y+z)*w=x*w+y*w+z*w:=fun x y z w=>ring_of [x,y,z,w] rfl
 have z:∀p1 p2 p3 q1 q2 q3 r1 r2 r3:Quo m,(p1+p2+p3)+(q1+q2+q3)+(r1+r2+r3)=(p1+q1+r1)+(p2+q2+r2)+(p3+q3+r3):=fun p1 p2 p3 q1 q2 q3 r1 r2 r3=>ring_of [p1,p2,p3,q1,q2,q3,r1,r2,r3] rfl
 rw [l,l,l,q,q,q,z]
theorem eight [IsP p] (t0 t1 t2 a b c d e f g h s u v:Quo m):t0*(a*s+b*u+c*v)+t1*(d*s+e*u+f*v)+t2*(g*s+h*u)=(t0*a+t1*d+t2*g)*s+(t0*b+t1*e+t2*h)*u+(t0*c+t1*f)*v:=by
 have:=nine t0 t1 t2 a b c d e f g h 0 s u v
 simp only [Gq.zero_mul,Gq.mul_zero,Gq.add_zero] at this
 exact this
theorem op_comm [IsP p] (t0 t1 t2:Quo m) (X:Nat→Quo m) (n:Nat):Lop t0 t1 t2 (Rop t0 t1 t2 X) n=Rop t0 t1 t2 (Lop t0 t1 t2 X) n:=by
 have s0:∀x:Quo m,sg 0 x=x:=fun _=>rfl
 match n with
 | 0=>
  simp only [Lop,Rop]
  exact ring_of [t0,X 0] rfl
 | 1=>
  simp only [Lop,Rop,sg1_mul]
  exact ring_of [t0,t1,X 0,X 1,sg 1 t0,sg 1 (X 0)] rfl
 | 2=>
  simp only [Lop,Rop,sg1_add,sg1_mul,sg2_mul,sg1_sg,s0]
  exact ring_of [t0,t1,t2,X 0,X 1,X 2,sg 1 t0,sg 2 t0,sg 1 t1,sg 1 (X 0),sg 1 (X 1),sg 2 (X 0),sg (1+1) t0] rfl
 | 3=>
  simp only [Lop,Rop,sg1_add,sg1_mul,sg2_add,sg2_mul,sg1_sg,sg2_sg,s0]
  exact eight _ _ _ _ _ _ _ _ _ _ _ _ _ _
 | k+4=>
  have hR:∀Y:Nat→Quo m,∀j,Rop t0 t1 t2 Y (j+2)=Y (j+2)*sg (j+2) t0+Y (j+1)*sg (j+1) t1+Y j*sg j t2:=fun _ _=>rfl
  have hL:∀Y:Nat→Quo m,∀j,Lop t0 t1 t2 Y (j+2)=t0*Y (j+2)+t1*sg 1 (Y (j+1))+t2*sg 2 (Y j):=fun _ _=>rfl
  rw [show k+4=(k+2)+2 from rfl,hL,hR,hR (Lop t0 t1 t2 X) (k+2),hL X (k+2),show k+2+1=(k+1)+2 from rfl,hL X (k+1),hR X (k+1),hL X k,hR X k]
  simp only [sg1_add,sg1_mul,sg2_add,sg2_mul,sg1_sg,sg2_sg]
  rw [show k+1+2=k+3 from rfl,show k+1+1=k+2 from rfl,show k+2+2=k+4 from rfl,show k+2+1=k+3 from rfl,show k+3+1=k+4 from rfl]
  exact nine _ _ _ _ _ _ _ _ _ _ _ _ _ _ _
theorem op_e0 [IsP p] (t0 t1 t2:Quo m) (n:Nat):Lop t0 t1 t2 e0 n=Rop t0 t1 t2 e0 n:=by
 have s0:∀x:Quo m,sg 0 x=x:=fun _=>rfl
 match n with
 | 0=>simp only [Lop,Rop,e0]; exact ring_of [t0] rfl
 | 1=>simp only [Lop,Rop,e0,sg_one]; exact ring_of [t0,t1,sg 1 t0] rfl
 | 2=>simp only [Lop,Rop,e0,sg_one,sg_zero,s0]; exact ring_of [t0,t1,t2,sg 2 t0,sg 1 t1,sg (0+1) t1,sg (0+2) t0] rfl
 | k+3=>
  have hR:∀Y:Nat→Quo m,∀j,Rop t0 t1 t2 Y (j+2)=Y (j+2)*sg (j+2) t0+Y (j+1)*sg (j+1) t1+Y j*sg j t2:=fun _ _=>rfl
  have hL:∀Y:Nat→Quo m,∀j,Lop t0 t1 t2 Y (j+2)=t0*Y (j+2)+t1*sg 1 (Y (j+1))+t2*sg 2 (Y j):=fun _ _=>rfl
  rw [show k+3=(k+1)+2 from rfl,hL,hR]
  simp only [e0,sg_zero]
  simp only [Gq.mul_zero,Gq.zero_mul,Gq.add_zero]
theorem op_add (t0 t1 t2:Quo m) (X Y:Nat→Quo m) (n:Nat):Rop t0 t1 t2 (fun i=>X i+Y i) n=Rop t0 t1 t2 X n+Rop t0 t1 t2 Y n:=by
 match n with
 | 0=>simp only [Rop]; exact ring_of [t0,X 0,Y 0] rfl
 | 1=>simp only [Rop]; exact ring_of [sg 1 t0,t1,X 0,Y 0,X 1,Y 1] rfl
 | k+2=>simp only [Rop]; exact ring_of [sg (k+2) t0,sg (k+1) t1,sg k t2,X k,Y k,X (k+1),Y (k+1),X (k+2),Y (k+2)] rfl
theorem op_smul (t0 t1 t2 c:Quo m) (X:Nat→Quo m) (n:Nat):Rop t0 t1 t2 (fun i=>c*X i) n=c*Rop t0 t1 t2 X n:=by
 match n with
 | 0=>simp only [Rop]; exact ring_of [t0,X 0,c] rfl
 | 1=>simp only [Rop]; exact ring_of [sg 1 t0,t1,X 0,X 1,c] rfl
 | k+2=>simp only [Rop]; exact ring_of [sg (k+2) t0,sg (k+1) t1,sg k t2,X k,X (k+1),X (k+2),c] rfl
theorem op_zero (t0 t1 t2:Quo m) (n:Nat):Rop t0 t1 t2 (fun _=>0) n=0:=by
 match n with
 | 0=>simp only [Rop,Gq.zero_mul]
 | 1=>simp only [Rop,Gq.zero_mul,Gq.add_zero]
 | k+2=>simp only [Rop,Gq.zero_mul,Gq.add_zero]
noncomputable def Rk (t0 t1 t2:Quo m):Nat→Nat→Quo m
 | 0=>e0
 | k+1=>Rop t0 t1 t2 (Rk t0 t1 t2 k)
noncomputable def Lk (t0 t1 t2:Quo m):Nat→Nat→Quo m
 | 0=>e0
 | k+1=>Lop t0 t1 t2 (Lk t0 t1 t2 k)
theorem lop_rk [IsP p] (t0 t1 t2:Quo m):∀k,Lop t0 t1 t2 (Rk t0 t1 t2 k)=Rk t0 t1 t2 (k+1)
 | 0=>funext fun n=>op_e0 t0 t1 t2 n
 | k+1=>by
  have ih:=lop_rk t0 t1 t2 k
  funext n
  show Lop t0 t1 t2 (Rop t0 t1 t2 (Rk t0 t1 t2 k)) n=Rop t0 t1 t2 (Rk t0 t1 t2 (k+1)) n
  rw [op_comm,ih]
theorem lk_rk [IsP p] (t0 t1 t2:Quo m):∀k,Lk t0 t1 t2 k=Rk t0 t1 t2 k
 | 0=>rfl
 | k+1=>by
  show Lop t0 t1 t2 (Lk t0 t1 t2 k)=_
  rw [lk_rk t0 t1 t2 k,lop_rk]
noncomputable def hsum (t0 t1 t2:Quo m):(Nat→Quo m)→Nat→Nat→Nat→Quo m
 | _,_,0,_=>0
 | c,k,n+1,i=>c 0*Rk t0 t1 t2 k i+hsum t0 t1 t2 (fun j=>c (j+1)) (k+1) n i
theorem hsum_rop [IsP p] (t0 t1 t2:Quo m):∀(n:Nat) (c:Nat→Quo m) (k:Nat),Rop t0 t1 t2 (hsum t0 t1 t2 c k n)=hsum t0 t1 t2 c (k+1) n
 | 0,c,k=>funext fun i=>op_zero t0 t1 t2 i
 | n+1,c,k=>by
  funext i
  show Rop t0 t1 t2 (fun i=>c 0*Rk t0 t1 t2 k i+hsum t0 t1 t2 (fun j=>c (j+1)) (k+1) n i) i=_
  rw [op_add,op_smul]
  show c 0*Rk t0 t1 t2 (k+1) i+Rop t0 t1 t2 (hsum t0 t1 t2 (fun j=>c (j+1)) (k+1) n) i=c 0*Rk t0 t1 t2 (k+1) i+hsum t0 t1 t2 (fun j=>c (j+1)) (k+1+1) n i
  rw [hsum_rop t0 t1 t2 n]
theorem hsum_snoc (t0 t1 t2:Quo m) (i:Nat):∀(n:Nat) (c:Nat→Quo m) (k:Nat),hsum t0 t1 t2 c k (n+1) i=hsum t0 t1 t2 c k n i+c n*Rk t0 t1 t2 (k+n) i
 | 0,c,k=>by
  show c 0*Rk t0 t1 t2 k i+0=0+c 0*Rk t0 t1 t2 (k+0) i
  rw [Nat.add_zero,Gq.add_zero,Gq.zero_add]
 | n+1,c,k=>by
  show c 0*Rk t0 t1 t2 k i+hsum t0 t1 t2 (fun j=>c (j+1)) (k+1) (n+1) i=c 0*Rk t0 t1 t2 k i+hsum t0 t1 t2 (fun j=>c (j+1)) (k+1) n i+c (n+1)*Rk t0 t1 t2 (k+(n+1)) i
  rw [hsum_snoc t0 t1 t2 i n (fun j=>c (j+1)) (k+1),show k+1+n=k+(n+1) by omega]
  exact (Gq.add_assoc _ _ _).symm
theorem hsum_congr (t0 t1 t2:Quo m) (i:Nat):∀(n:Nat) (c d:Nat→Quo m) (k:Nat),(∀j,j<n→c j=d j)→hsum t0 t1 t2 c k n i=hsum t0 t1 t2 d k n i
 | 0,_,_,_,_=>rfl
 | n+1,c,d,k,h=>by
  show c 0*Rk t0 t1 t2 k i+_=d 0*Rk t0 t1 t2 k i+_
  rw [h 0 (by omega),hsum_congr t0 t1 t2 i n (fun j=>c (j+1)) (fun j=>d (j+1)) (k+1) fun j hj=>h (j+1) (by omega)]
end
noncomputable def qcf (m:Fp p) (A:List (Fp p)) (n:Nat):Quo m:=Quo.mk m (cS A n)
theorem qcf_nil (m:Fp p) (n:Nat):qcf m [] n=0:=rfl
theorem qcf_ge {m:Fp p} {A:List (Fp p)} {n:Nat} (h:A.length≤n):qcf m A n=0:=by unfold qcf; rw [cS_ge h]; rfl
theorem qcf_eq [IsP p] {m:Fp p} (hm:m≠0) {A B:List (Fp p)} {n:Nat} (hA:(cS A n).len<m.len) (hB:(cS B n).len<m.len) (h:qcf m A n=qcf m B n):cS A n=cS B n:=by
 have e:=(Pol.mod_eq_iff hm).2 h
 rwa [Pol.mod_small hA,Pol.mod_small hB] at e
theorem qcf_set {m:Fp p} {A:List (Fp p)} {j n:Nat} {v:Fp p} (h:j<A.length):qcf m (addAt A j v) n=qcf m A n+(if n=j then Quo.mk m v else 0):=by
 unfold qcf addAt
 rw [cS_set h]
 by_cases hn:n=j
 ·rw [if_pos hn,if_pos hn,hn]; rfl
 ·rw [if_neg hn,if_neg hn,Gq.add_zero]
theorem qcf_zeros (m:Fp p) (k n:Nat):qcf m (List.replicate k 0) n=0:=by
 unfold qcf cS
 rw [List.getElem?_replicate]
 split <;> rfl
theorem byIn_q [IsP p] {m x:Fp p} (hm:Fld m) {b:List (Fp p)} (hb:∀c∈b,c.len<m.len) {i n:Nat} {Q:List (Fp p)} (h:i+b.length≤Q.length):qcf m (byIn m x i 0 b Q) n=qcf m Q n+(if i≤n then Quo.mk m x*sg i (qcf m b (n-i)) else 0):=by
 have h1:=Pol.len_pos hm.mon.2
 unfold qcf
 rw [byIn_cS 0 b Q (by omega),Nat.add_zero]
 have hl:(cS b (n-i)).len<m.len:=by
  have:=mem_cS (A:=b) (N:=m.len-1) (fun c hc=>by have:=hb c hc; omega) (n-i)
  omega
 by_cases h0:i≤n∧n<i+b.length
 ·rw [if_pos h0,if_pos h0.1,Quo.mk_add,Pol.mk_mod,Quo.mk_mul,frIt_mod hm i hl,sg_mk]
 ·rw [if_neg h0]
  split
  ·rename_i h2
   rw [cS_ge (A:=b) (by omega)]
   show _=Quo.mk m (cS Q n)+Quo.mk m x*sg i 0
   rw [sg_zero,Gq.mul_zero,Gq.add_zero]
  ·exact (Gq.add_zero _).symm
theorem byOut_q [IsP p] {m t0 t1 t2:Fp p} (hm:Fld m) (hb:∀c∈[t0,t1,t2],c.len<m.len) {n:Nat}:∀(A:List (Fp p)) (i:Nat) (Q:List (Fp p)),i+A.length+2≤Q.length→qcf m (byOut m [t0,t1,t2] i A Q) n=qcf m Q n+((if i≤n then qcf m A (n-i)*sg n (Quo.mk m t0) else 0)+(if i+1≤n then qcf m A (n-i-1)*sg (n-1) (Quo.mk m t1) else 0)+(if i+2≤n then qcf m A (n-i-2)*sg (n-2) (Quo.mk m t2) else 0))
 | [],i,Q,_=>by
  show qcf m Q n=_
  have z:∀j,qcf m ([]:List (Fp p)) j=0:=fun _=>rfl
  simp only [z,Gq.zero_mul,ite_self,Gq.add_zero]
 | x::xs,i,Q,h=>by
  rw [List.length_cons] at h
  show qcf m (byOut m [t0,t1,t2] (i+1) xs (byIn m x i 0 [t0,t1,t2] Q)) n=_
  rw [byOut_q hm hb xs (i+1) _ (by rw [byIn_length]; omega),byIn_q hm hb (by simp only [List.length_cons,List.length_nil]; omega)]
  have hx0:qcf m (x::xs) 0=Quo.mk m x:=rfl
  have hxs:∀j,qcf m (x::xs) (j+1)=qcf m xs j:=fun j=>rfl
  have ht0:qcf m [t0,t1,t2] 0=Quo.mk m t0:=rfl
  have ht1:qcf m [t0,t1,t2] 1=Quo.mk m t1:=rfl
  have ht2:qcf m [t0,t1,t2] 2=Quo.mk m t2:=rfl
  rcases Nat.lt_or_ge n i with h1 | h1
  ·rw [if_neg (by omega),if_neg (by omega),if_neg (by omega),if_neg (by omega),if_neg (by omega),if_neg (by omega),if_neg (by omega)]
   simp only [Gq.add_zero]
  ·obtain ⟨e,rfl⟩:∃e,n=i+e:=⟨n-i,by omega⟩
   match e with
   | 0=>
    rw [if_pos (by omega),if_neg (by omega),if_neg (by omega),if_neg (by omega),if_pos (by omega),if_neg (by omega),if_neg (by omega),show i+0-i=0 by omega,hx0,ht0,show i+0=i from rfl]
    simp only [Gq.add_zero]
   | 1=>
    rw [if_pos (by omega),if_pos (by omega),if_neg (by omega),if_neg (by omega),if_pos (by omega),if_pos (by omega),if_neg (by omega),show i+1-i=0+1 by omega,show i+1-(i+1)=0 by omega,show 0+1-1=0 from rfl,hxs,hx0,show i+1-1=i by omega]
    rw [show (0+1:Nat)=1 from rfl,ht1]
    exact ring_of [qcf m Q (i+1),Quo.mk m x,sg i (Quo.mk m t1),qcf m xs 0,sg (i+1) (Quo.mk m t0)] rfl
   | 2=>
    rw [if_pos (by omega),if_pos (by omega),if_pos (by omega),if_neg (by omega),if_pos (by omega),if_pos (by omega),if_pos (by omega),show i+2-(i+1)-1=0 by omega,show i+2-(i+1)=1 by omega,show i+2-i-2=0 by omega,show i+2-i-1=0+1 by omega,show i+2-i=1+1 by omega,hxs,hxs,hx0,show i+2-1=i+1 by omega,show i+2-2=i by omega]
    rw [show (1+1:Nat)=2 from rfl,ht2]
    exact ring_of [qcf m Q (i+2),Quo.mk m x,sg i (Quo.mk m t2),qcf m xs 0,qcf m xs 1,sg (i+2) (Quo.mk m t0),sg (i+1) (Quo.mk m t1)] rfl
   | k+3=>
    have hz:qcf m [t0,t1,t2] (k+3)=0:=rfl
    rw [if_pos (by omega),if_pos (by omega),if_pos (by omega),if_pos (by omega),if_pos (by omega),if_pos (by omega),if_pos (by omega),show i+(k+3)-(i+1)-2=k by omega,show i+(k+3)-(i+1)-1=k+1 by omega,show i+(k+3)-(i+1)=k+2 by omega,show i+(k+3)-i-2=k+1 by omega,show i+(k+3)-i-1=(k+1)+1 by omega,show i+(k+3)-i=k+3 by omega,hz,sg_zero,Gq.mul_zero,Gq.add_zero,hxs,hxs]
    rw [show k+3=(k+2)+1 from rfl,hxs]
theorem prod_R [IsP p] {m t0 t1 t2:Fp p} (hm:Fld m) (hb:∀c∈[t0,t1,t2],c.len<m.len) (A:List (Fp p)) (n:Nat):qcf m (prodS m A [t0,t1,t2]) n=Rop (Quo.mk m t0) (Quo.mk m t1) (Quo.mk m t2) (qcf m A) n:=by
 unfold prodS
 by_cases h0:A.length=0
 ·rw [if_pos (.inl h0),List.length_eq_zero_iff.1 h0]
  exact (op_zero _ _ _ n).symm
 ·rw [if_neg (by simp only [List.length_cons]; omega)]
  have e:qcf m (trimS (mulS m A [t0,t1,t2])) n=qcf m (mulS m A [t0,t1,t2]) n:=by unfold qcf; rw [cS_trim]
  rw [e]
  unfold mulS
  rw [byOut_q hm hb A 0 _ (by rw [List.length_replicate]; simp only [List.length_cons,List.length_nil]; omega),qcf_zeros,Gq.zero_add]
  match n with
  | 0=>
   rw [if_pos (by omega),if_neg (by omega),if_neg (by omega)]
   simp only [Rop,Gq.add_zero]
   rfl
  | 1=>
   rw [if_pos (by omega),if_pos (by omega),if_neg (by omega)]
   simp only [Rop,Gq.add_zero]
   rfl
  | k+2=>
   rw [if_pos (by omega),if_pos (by omega),if_pos (by omega)]
   rfl
noncomputable def cmpIn [IsP p] (m:Fp p) (k:Nat):Nat→List (Fp p)→Fp p→List (Fp p)→List (Fp p)
 | _,[],_,Q=>Q
 | i,u::us,w,Q=>cmpIn m k (i+1) us (pw w p.toNat%m) (addAt Q (i+k) (u*w%m))
noncomputable def cmpOut [IsP p] (m:Fp p) (us:List (Fp p)):Nat→List (Fp p)→List (Fp p)→List (Fp p)
 | _,[],Q=>Q
 | k,v::vs,Q=>cmpOut m us (k+1) vs (cmpIn m k 0 us v Q)
theorem cmpIn_length [IsP p] (m:Fp p) (k:Nat):∀(us:List (Fp p)) (i:Nat) (w:Fp p) (Q:List (Fp p)),(cmpIn m k i us w Q).length=Q.length
 | [],_,_,_=>rfl
 | u::us,i,w,Q=>by
  show (cmpIn m k (i+1) us _ (addAt Q (i+k) _)).length=_
  rw [cmpIn_length m k us,addAt_length]
theorem cmpOut_length [IsP p] (m:Fp p) (us:List (Fp p)):∀(vs:List (Fp p)) (k:Nat) (Q:List (Fp p)),(cmpOut m us k vs Q).length=Q.length
 | [],_,_=>rfl
 | v::vs,k,Q=>by
  show (cmpOut m us (k+1) vs _).length=_
  rw [cmpOut_length m us vs,cmpIn_length]
theorem cmpIn_lens [IsP p] {m:Fp p} {N:Nat} (hm:m≠0) (hN:m.len≤N+1) (k:Nat):∀(us:List (Fp p)) (i:Nat) (w:Fp p) (Q:List (Fp p)),(∀c∈Q,c.len≤N)→∀c∈cmpIn m k i us w Q,c.len≤N
 | [],_,_,_,h=>h
 | u::us,i,w,Q,h=>cmpIn_lens hm hN k us (i+1) _ _ (addAt_lens h (by have:=Pol.len_mod (u*w) hm; omega))
theorem cmpOut_lens [IsP p] {m:Fp p} {N:Nat} (hm:m≠0) (hN:m.len≤N+1) (us:List (Fp p)):∀(vs:List (Fp p)) (k:Nat) (Q:List (Fp p)),(∀c∈Q,c.len≤N)→∀c∈cmpOut m us k vs Q,c.len≤N
 | [],_,_,h=>h
 | v::vs,k,Q,h=>cmpOut_lens hm hN us vs (k+1) _ (cmpIn_lens hm hN k us 0 v Q h)
theorem cmpIn_q [IsP p] {m t0 t1 t2 v:Fp p} {k n:Nat} {Q:List (Fp p)} (h:k+3≤Q.length):qcf m (cmpIn m k 0 [t0,t1,t2] v Q) n=qcf m Q n+((if n=k then Quo.mk m t0*Quo.mk m v else 0)+(if n=k+1 then Quo.mk m t1*sg 1 (Quo.mk m v) else 0)+(if n=k+2 then Quo.mk m t2*sg 2 (Quo.mk m v) else 0)):=by
 have e1:Quo.mk m (pw v p.toNat%m)=sg 1 (Quo.mk m v):=by rw [Pol.mk_mod,Quo.mk_pow]; rfl
 have e2:Quo.mk m (pw (pw v p.toNat%m) p.toNat%m)=sg 2 (Quo.mk m v):=by rw [Pol.mk_mod,Quo.mk_pow,e1]; rfl
 show qcf m (addAt (addAt (addAt Q (0+k) (t0*v%m)) (1+k) (t1*(pw v p.toNat%m)%m)) (2+k) (t2*(pw (pw v p.toNat%m) p.toNat%m)%m)) n=_
 rw [qcf_set (by rw [addAt_length,addAt_length]; omega),qcf_set (by rw [addAt_length]; omega),qcf_set (by omega)]
 have m1:∀a b:Fp p,Quo.mk m (a*b%m)=Quo.mk m a*Quo.mk m b:=fun a b=>by rw [Pol.mk_mod,Quo.mk_mul]
 rw [m1,m1,m1,e1,e2,show 0+k=k by omega,show 1+k=k+1 by omega,show 2+k=k+2 by omega]
 simp only [Gq.add_assoc]
theorem cmpOut_q [IsP p] {m t0 t1 t2:Fp p} {n:Nat}:∀(vs:List (Fp p)) (k:Nat) (Q:List (Fp p)),k+vs.length+2≤Q.length→qcf m (cmpOut m [t0,t1,t2] k vs Q) n=qcf m Q n+((if k≤n then Quo.mk m t0*qcf m vs (n-k) else 0)+(if k+1≤n then Quo.mk m t1*sg 1 (qcf m vs (n-k-1)) else 0)+(if k+2≤n then Quo.mk m t2*sg 2 (qcf m vs (n-k-2)) else 0))
 | [],k,Q,_=>by
  show qcf m Q n=_
  have z:∀j,qcf m ([]:List (Fp p)) j=0:=fun _=>rfl
  simp only [z,sg_zero,Gq.mul_zero,ite_self,Gq.add_zero]
 | v::vs,k,Q,h=>by
  rw [List.length_cons] at h
  show qcf m (cmpOut m [t0,t1,t2] (k+1) vs (cmpIn m k 0 [t0,t1,t2] v Q)) n=_
  rw [cmpOut_q vs (k+1) _ (by rw [cmpIn_length]; omega),cmpIn_q (by omega)]
  have hx0:qcf m (v::vs) 0=Quo.mk m v:=rfl
  have hxs:∀j,qcf m (v::vs) (j+1)=qcf m vs j:=fun j=>rfl
  rcases Nat.lt_or_ge n k with h1 | h1
  ·rw [if_neg (by omega),if_neg (by omega),if_neg (by omega),if_neg (by omega),if_neg (by omega),if_neg (by omega),if_neg (by omega),if_neg (by omega),if_neg (by omega)]
   simp only [Gq.add_zero]
  ·obtain ⟨e,rfl⟩:∃e,n=k+e:=⟨n-k,by omega⟩
   match e with
   | 0=>
    rw [if_pos (by omega),if_neg (by omega),if_neg (by omega),if_neg (by omega),if_neg (by omega),if_neg (by omega),if_pos (by omega),if_neg (by omega),if_neg (by omega),show k+0-k=0 by omega,hx0]
    simp only [Gq.add_zero]
   | 1=>
    rw [if_neg (by omega),if_pos (by omega),if_neg (by omega),if_pos (by omega),if_neg (by omega),if_neg (by omega),if_pos (by omega),if_pos (by omega),if_neg (by omega),show k+1-(k+1)=0 by omega,show k+1-k=0+1 by omega,hxs,show 0+1-1=0 from rfl,hx0]
    exact ring_of [qcf m Q (k+1),Quo.mk m t0,Quo.mk m t1,sg 1 (Quo.mk m v),qcf m vs 0] rfl
   | 2=>
    rw [if_neg (by omega),if_neg (by omega),if_pos (by omega),if_pos (by omega),if_pos (by omega),if_neg (by omega),if_pos (by omega),if_pos (by omega),if_pos (by omega),show k+2-(k+1)-1=0 by omega,show k+2-(k+1)=1 by omega,show k+2-k-2=0 by omega,show k+2-k-1=0+1 by omega,show k+2-k=1+1 by omega,hxs,hxs,hx0]
    exact ring_of [qcf m Q (k+2),Quo.mk m t0,Quo.mk m t1,Quo.mk m t2,sg 2 (Quo.mk m v),qcf m vs 1,sg 1 (qcf m vs 0)] rfl
   | j+3=>
    rw [if_neg (by omega),if_neg (by omega),if_neg (by omega),if_pos (by omega),if_pos (by omega),if_pos (by omega),if_pos (by omega),if_pos (by omega),if_pos (by omega),show k+(j+3)-(k+1)-2=j by omega,show k+(j+3)-(k+1)-1=j+1 by omega,show k+(j+3)-(k+1)=j+2 by omega,show k+(j+3)-k-2=j+1 by omega,show k+(j+3)-k-1=(j+1)+1 by omega,show k+(j+3)-k=(j+2)+1 by omega,hxs,hxs,hxs]
    simp only [Gq.add_zero]
noncomputable def cmpS [IsP p] (m:Fp p) (us vs:List (Fp p)):List (Fp p):=trimS (cmpOut m us 0 vs (List.replicate (us.length+vs.length) 0))
theorem cmp_L [IsP p] {m t0 t1 t2:Fp p} (vs:List (Fp p)) (n:Nat):qcf m (cmpS m [t0,t1,t2] vs) n=Lop (Quo.mk m t0) (Quo.mk m t1) (Quo.mk m t2) (qcf m vs) n:=by
 have e:qcf m (cmpS m [t0,t1,t2] vs) n=qcf m (cmpOut m [t0,t1,t2] 0 vs (List.replicate ([t0,t1,t2].length+vs.length) 0)) n:=by unfold qcf cmpS; rw [cS_trim]
 rw [e,cmpOut_q vs 0 _ (by rw [List.length_replicate]; simp only [List.length_cons,List.length_nil]; omega),qcf_zeros,Gq.zero_add]
 match n with
 | 0=>
  rw [if_pos (by omega),if_neg (by omega),if_neg (by omega)]
  simp only [Lop,Gq.add_zero]
 | 1=>
  rw [if_pos (by omega),if_pos (by omega),if_neg (by omega)]
  simp only [Lop,Gq.add_zero]
 | k+2=>
  rw [if_pos (by omega),if_pos (by omega),if_pos (by omega)]
  rfl
theorem cmp_lens [IsP p] {m:Fp p} (hm:m≠0) (us vs:List (Fp p)):∀c∈cmpS m us vs,c.len<m.len:=fun c hc=>by
 have h1:=Pol.len_pos hm
 have:=cmpOut_lens (N:=m.len-1) hm (by omega) us vs 0 (List.replicate (us.length+vs.length) 0) (fun c hc=>by rw [List.eq_of_mem_replicate hc,Pol.len_zero]; omega) c (List.mem_of_mem_take hc)
 omega
theorem cmp_len [IsP p] {m:Fp p} (hm:m≠0) {t0 t1 t2:Fp p} (vs:List (Fp p)):(cmpS m [t0,t1,t2] vs).length≤vs.length+2:=by
 have h1:=Pol.len_pos hm
 unfold cmpS
 refine trim_len_le fun i hi=>?_
 have hz:=qcf_eq (A:=cmpOut m [t0,t1,t2] 0 vs (List.replicate ([t0,t1,t2].length+vs.length) 0)) (B:=[]) (n:=i) hm (by
  have:=mem_cS (N:=m.len-1) (cmpOut_lens (N:=m.len-1) hm (by omega) [t0,t1,t2] vs 0 (List.replicate ([t0,t1,t2].length+vs.length) 0) (fun c hc=>by rw [List.eq_of_mem_replicate hc,Pol.len_zero]; omega)) i
  omega) (by rw [cS_nil,Pol.len_zero]; omega) (by
  rw [cmpOut_q vs 0 _ (by rw [List.length_replicate]; simp only [List.length_cons,List.length_nil]; omega),qcf_zeros,Gq.zero_add,if_pos (by omega),if_pos (by omega),if_pos (by omega),qcf_ge (show vs.length≤i-0 by omega),qcf_ge (show vs.length≤i-0-1 by omega),qcf_ge (show vs.length≤i-0-2 by omega),sg_zero,sg_zero,Gq.mul_zero,Gq.mul_zero,Gq.mul_zero,Gq.add_zero,Gq.add_zero]
  rfl)
 rw [hz]; rfl
noncomputable def actN [IsP p] (m t0 t1 t2 a:Fp p) (n:Nat):Nat→List (Fp p)
 | 0=>[]
 | j+1=>plusS 1 (prodS m (actN m t0 t1 t2 a n j) [t0,t1,t2]) (termS (Pol.C (a.c (n-1-j))) 0)
theorem const_len (c:Zp p):(Pol.C c).len≤1:=Pol.len_le fun i hi=>by
 cases i with
 | zero=>omega
 | succ i=>rfl
theorem actN_lens [IsP p] {m:Fp p} (hm:Fld m) (t0 t1 t2 a:Fp p) (n:Nat):∀j,∀c∈actN m t0 t1 t2 a n j,c.len<m.len
 | 0=>fun c h=>by cases h
 | j+1=>fun c hc=>by
  have h2:=hm.two
  have:=cS_mem (A:=actN m t0 t1 t2 a n (j+1)) (N:=m.len-1) (fun i=>by
   show (cS (plusS 1 _ _) i).len≤_
   rw [cS_plus,zp_one,Pol.C_one,Gq.one_mul,cS_term]
   refine Pol.len_add_le (mem_cS (fun c hc=>prodS_lens' hm.mon.2 (by omega) c hc) i) ?_
   split
   ·have:=const_len (p:=p) (a.c (n-1-j)); omega
   ·rw [Pol.len_zero]; omega) c hc
  omega
theorem actN_len [IsP p] (m t0 t1 t2 a:Fp p) (n:Nat):∀j,(actN m t0 t1 t2 a n j).length≤2*j+1
 | 0=>Nat.zero_le _
 | j+1=>by
  have ih:=actN_len m t0 t1 t2 a n j
  have h1:=plus_len 1 (prodS m (actN m t0 t1 t2 a n j) [t0,t1,t2]) (termS (Pol.C (a.c (n-1-j))) 0)
  have h2:=prod_len_le (m:=m) (a:=actN m t0 t1 t2 a n j) (b:=[t0,t1,t2])
  rw [termS_length] at h1
  simp only [List.length_cons,List.length_nil] at h2
  show (plusS 1 _ _).length≤_
  omega
theorem actN_q [IsP p] {m t0 t1 t2:Fp p} (hm:Fld m) (hb:∀c∈[t0,t1,t2],c.len<m.len) (a:Fp p) (n:Nat):∀j,j≤n→qcf m (actN m t0 t1 t2 a n j)=hsum (Quo.mk m t0) (Quo.mk m t1) (Quo.mk m t2) (fun k=>Quo.mk m (Pol.C (a.c (n-j+k)))) 0 j
 | 0,_=>rfl
 | j+1,hj=>by
  have ih:=actN_q hm hb a n j (by omega)
  funext i
  have e:qcf m (actN m t0 t1 t2 a n (j+1)) i=qcf m (prodS m (actN m t0 t1 t2 a n j) [t0,t1,t2]) i+Quo.mk m (if i=0 then Pol.C (a.c (n-1-j)) else 0):=by
   show Quo.mk m (cS (plusS 1 _ _) i)=_
   rw [cS_plus,zp_one,Pol.C_one,Gq.one_mul,cS_term]
   rfl
  rw [e,prod_R hm hb,ih,hsum_rop]
  have e2:∀k,n-(j+1)+(k+1)=n-j+k:=fun k=>by omega
  show _=Quo.mk m (Pol.C (a.c (n-(j+1)+0)))*Rk _ _ _ 0 i+hsum _ _ _ (fun k=>Quo.mk m (Pol.C (a.c (n-(j+1)+(k+1))))) (0+1) j i
  simp only [e2]
  rw [Gq.add_comm,show n-(j+1)+0=n-1-j by omega]
  congr 1
  cases i with
  | zero=>rw [if_pos rfl]; exact (Gq.mul_one _).symm
  | succ i=>rw [if_neg (by omega)]; exact (Gq.mul_zero _).symm
noncomputable def spIn (c:Fp p):Nat→List (Fp p)→List (Fp p)→List (Fp p)
 | _,[],Q=>Q
 | i,x::xs,Q=>spIn c (i+1) xs (addAt Q i (c*x))
theorem spIn_length (c:Fp p):∀(xs:List (Fp p)) (i:Nat) (Q:List (Fp p)),(spIn c i xs Q).length=Q.length
 | [],_,_=>rfl
 | x::xs,i,Q=>by
  show (spIn c (i+1) xs _).length=_
  rw [spIn_length c xs,addAt_length]
theorem spIn_q [IsP p] {m c:Fp p} {n:Nat}:∀(xs:List (Fp p)) (i:Nat) (Q:List (Fp p)),i+xs.length≤Q.length→qcf m (spIn c i xs Q) n=qcf m Q n+(if i≤n then Quo.mk m c*qcf m xs (n-i) else 0)
 | [],i,Q,_=>by
  show qcf m Q n=_
  rw [qcf_nil,Gq.mul_zero,ite_self,Gq.add_zero]
 | x::xs,i,Q,h=>by
  rw [List.length_cons] at h
  show qcf m (spIn c (i+1) xs (addAt Q i (c*x))) n=_
  rw [spIn_q xs (i+1) _ (by rw [addAt_length]; omega),qcf_set (by omega)]
  have hx0:qcf m (x::xs) 0=Quo.mk m x:=rfl
  have hxs:∀j,qcf m (x::xs) (j+1)=qcf m xs j:=fun j=>rfl
  rcases Nat.lt_trichotomy n i with h1 | h1 | h1
  ·rw [if_neg (by omega),if_neg (by omega),if_neg (by omega)]
   simp only [Gq.add_zero]
  ·subst h1
   rw [if_pos rfl,if_neg (by omega),if_pos (by omega),Nat.sub_self,hx0,Gq.add_zero]
   rfl
  ·rw [if_neg (by omega),if_pos (by omega),if_pos (by omega),show n-i=(n-(i+1))+1 by omega,hxs,Gq.add_zero]
theorem spIn_lens [IsP p] {N:Nat} {c:Zp p}:∀(xs:List (Fp p)) (i:Nat) (Q:List (Fp p)),(∀x∈xs,x.len≤N)→(∀x∈Q,x.len≤N)→∀x∈spIn (Pol.C c) i xs Q,x.len≤N
 | [],_,_,_,h=>h
 | x::xs,i,Q,hx,hQ=>spIn_lens xs (i+1) _ (fun y hy=>hx y (by simp [hy])) fun y hy=>by
  unfold addAt at hy
  have hxl:=hx x (by simp)
  have hcx:(Pol.C c*x).len≤N:=Pol.len_le fun j hj=>by rw [Pol.c_Cmul,c_ge' (by omega),Gq.mul_zero]
  rcases List.mem_or_eq_of_mem_set hy with h | rfl
  ·exact hQ y h
  ·refine Pol.len_add_le ?_ hcx
   cases hq:Q[i]? with
   | none=>show (0:Fp p).len≤N; rw [Pol.len_zero]; omega
   | some q=>exact hQ q (List.mem_of_getElem? hq)
noncomputable def nwS [IsP p] (m t0 t1 t2:Fp p):Nat→List (Fp p)
 | 0=>[1]
 | k+1=>cmpS m [t0,t1,t2] (nwS m t0 t1 t2 k)
theorem nwS_len [IsP p] {m:Fp p} (hm:m≠0) (t0 t1 t2:Fp p):∀k,(nwS m t0 t1 t2 k).length≤2*k+1
 | 0=>Nat.le_refl _
 | k+1=>by
  have:=nwS_len hm t0 t1 t2 k
  have:=cmp_len hm (t0:=t0) (t1:=t1) (t2:=t2) (nwS m t0 t1 t2 k)
  show (cmpS m _ _).length≤_
  omega
theorem nwS_lens [IsP p] {m:Fp p} (hm:Fld m) (t0 t1 t2:Fp p):∀k,∀c∈nwS m t0 t1 t2 k,c.len<m.len
 | 0=>fun c hc=>by
  rw [List.mem_singleton.1 hc]
  have h2:=hm.two
  have:(1:Fp p).len=1:=Pol.len_one
  omega
 | _+1=>cmp_lens hm.mon.2 _ _
theorem nwS_q [IsP p] {m:Fp p} (t0 t1 t2:Fp p):∀k,qcf m (nwS m t0 t1 t2 k)=Lk (Quo.mk m t0) (Quo.mk m t1) (Quo.mk m t2) k
 | 0=>funext fun i=>by cases i <;> rfl
 | k+1=>funext fun i=>by
  show qcf m (cmpS m _ _) i=Lop _ _ _ (Lk _ _ _ k) i
  rw [cmp_L,nwS_q t0 t1 t2 k]
noncomputable def outS [IsP p] (m t0 t1 t2 a:Fp p) (N:Nat):Nat→List (Fp p)
 | 0=>List.replicate N 0
 | j+1=>spIn (Pol.C (a.c j)) 0 (nwS m t0 t1 t2 j) (outS m t0 t1 t2 a N j)
theorem outS_length [IsP p] (m t0 t1 t2 a:Fp p) (N:Nat):∀j,(outS m t0 t1 t2 a N j).length=N
 | 0=>List.length_replicate
 | j+1=>by
  show (spIn _ 0 _ _).length=N
  rw [spIn_length,outS_length]
theorem outS_lens [IsP p] {m:Fp p} (hm:Fld m) (t0 t1 t2 a:Fp p) (N:Nat):∀j,∀c∈outS m t0 t1 t2 a N j,c.len<m.len
 | 0=>fun c hc=>by rw [List.eq_of_mem_replicate hc,Pol.len_zero]; exact Pol.len_pos hm.mon.2
 | j+1=>fun c hc=>by
  have h1:=Pol.len_pos hm.mon.2
  have:=spIn_lens (N:=m.len-1) (nwS m t0 t1 t2 j) 0 (outS m t0 t1 t2 a N j) (fun x hx=>by have:=nwS_lens hm t0 t1 t2 j x hx; omega) (fun x hx=>by have:=outS_lens hm t0 t1 t2 a N j x hx; omega) c hc
  omega
theorem outS_q [IsP p] {m:Fp p} (hm:m≠0) (t0 t1 t2 a:Fp p) {N:Nat}:∀j,2*j≤N+1→∀i,qcf m (outS m t0 t1 t2 a N j) i=hsum (Quo.mk m t0) (Quo.mk m t1) (Quo.mk m t2) (fun k=>Quo.mk m (Pol.C (a.c k))) 0 j i
 | 0,_,i=>qcf_zeros m N i
 | j+1,hj,i=>by
  have hl:=nwS_len hm t0 t1 t2 j
  show qcf m (spIn (Pol.C (a.c j)) 0 (nwS m t0 t1 t2 j) (outS m t0 t1 t2 a N j)) i=_
  rw [spIn_q _ 0 _ (by rw [outS_length]; omega),outS_q hm t0 t1 t2 a j (by omega),if_pos (Nat.zero_le _),nwS_q,hsum_snoc,Nat.sub_zero,Nat.zero_add,lk_rk]
theorem act_out [IsP p] {m t0 t1 t2:Fp p} (hm:Fld m) (hb:∀c∈[t0,t1,t2],c.len<m.len) (a:Fp p) {n N:Nat} (hN:2*n≤N+1) (i:Nat):cS (actN m t0 t1 t2 a n n) i=cS (outS m t0 t1 t2 a N n) i:=by
 have h1:=Pol.len_pos hm.mon.2
 refine qcf_eq hm.mon.2 ?_ ?_ ?_
 ·have:=mem_cS (N:=m.len-1) (fun c hc=>by have:=actN_lens hm t0 t1 t2 a n n c hc; omega) i; omega
 ·have:=mem_cS (N:=m.len-1) (fun c hc=>by have:=outS_lens hm t0 t1 t2 a N n c hc; omega) i; omega
 ·rw [actN_q hm hb a n n (Nat.le_refl _),outS_q hm.mon.2 t0 t1 t2 a n hN]
  exact hsum_congr _ _ _ i n _ _ 0 fun j _=>by rw [Nat.sub_self,Nat.zero_add]
noncomputable def nmS [IsP p] (m x:Fp p):Nat→Fp p
 | 0=>1
 | i+1=>nmS m x i*frIt m i x%m
theorem nmS_len [IsP p] {m:Fp p} (hm:Fld m) (x:Fp p):∀i,(nmS m x i).len<m.len
 | 0=>by show (1:Fp p).len<_; rw [Pol.len_one]; have:=hm.two; omega
 | _+1=>Pol.len_mod _ hm.mon.2
theorem nmS_ne [IsP p] {m x:Fp p} (hm:Fld m) (hx:x≠0) (hxl:x.len<m.len):∀i,nmS m x i≠0
 | 0=>one_ne8
 | i+1=>mul_mod_ne hm.irr (nmS_ne hm hx hxl i) (nmS_len hm x i) (frIt_ne hm i x hx hxl) (frIt_len hm.mon.2 i x hxl)
theorem nmS_fix [IsP p] {m x:Fp p}:∀i,pw (Quo.mk m (nmS m x i)) p.toNat*Quo.mk m x=Quo.mk m (nmS m x i)*sg i (Quo.mk m x)
 | 0=>by
  show pw (1:Quo m) p.toNat*_=1*_
  rw [pw_one]; rfl
 | i+1=>by
  have ih:=nmS_fix (m:=m) (x:=x) i
  have e:Quo.mk m (nmS m x (i+1))=Quo.mk m (nmS m x i)*sg i (Quo.mk m x):=by
   show Quo.mk m (nmS m x i*frIt m i x%m)=_
   rw [Pol.mk_mod,Quo.mk_mul,sg_mk]
  rw [e,pw_mul,←sg_succ,←ih]
  exact ring_of [pw (Quo.mk m (nmS m x i)) p.toNat,Quo.mk m x,sg (i+1) (Quo.mk m x)] rfl
theorem dv_list [IsP p] {m a:Fp p} (hm:Irr m):∀l:List (Fp p),Dv m (l.foldr (fun c r=>(a-c)*r) 1)→∃c∈l,Dv m (a-c)
 | [],h=>by
  have h0:Dv m 1:=h
  have h1:=h0.len Pol.one_ne
  have:=hm.len
  rw [Pol.len_one] at h1
  omega
 | c::l,h=>by
  rcases hm.prime (show Dv m ((a-c)*_) from h) with h1 | h1
  ·exact ⟨c,by simp,h1⟩
  ·obtain ⟨d,hd,h2⟩:=dv_list hm l h1
   exact ⟨d,by simp [hd],h2⟩
theorem ip_zero {m:Fp p} {n:Int} (h:p=n):(ic n:Quo m)=0:=by
 subst h
 exact ic_p
theorem fix_irr [IsP p] {m a:Fp p} (h2:2≤m.len) (hi:Irr m) (hal:a.len<m.len) (h:pw (Quo.mk m a) p.toNat=Quo.mk m a):a.len≤1:=by
 have main:∀l:List (Fp p),(∀c∈l,c.len≤1)→l.foldr (fun c r=>(Quo.mk m a-Quo.mk m c)*r) (1:Quo m)=0→a.len≤1:=by
  intro l hl hz
  have e:∀l:List (Fp p),Quo.mk m (l.foldr (fun c r=>(a-c)*r) 1)=l.foldr (fun c r=>(Quo.mk m a-Quo.mk m c)*r) (1:Quo m):=by
   intro l
   induction l with
   | nil=>rfl
   | cons c l ih=>
    show Quo.mk m ((a-c)*_)=(Quo.mk m a-Quo.mk m c)*_
    rw [Quo.mk_mul,Quo.mk_sub,ih]
  obtain ⟨c,hc,hd⟩:=dv_list (a:=a) hi l (dv_iff_mk.2 ((e l).trans hz))
  have hcl:=hl c hc
  have hz:a-c=0:=by
   rcases Classical.em (a-c=0) with h0 | h0
   ·exact h0
   ·have:=hd.len h0
    have:(a-c).len≤m.len-1:=by
     rw [Gq.sub_eq]
     exact Pol.len_add_le (by omega) (by rw [Pol.len_neg]; omega)
    omega
  have:a=c:=by
   have h3:a=(a-c)+c:=ring_of [a,c] rfl
   rw [h3,hz,Gq.zero_add]
  rw [this]; exact hcl
 have c0:(0:Fp p).len≤1:=by rw [Pol.len_zero]; omega
 have c1:(1:Fp p).len≤1:=by rw [Pol.len_one]; omega
 have cs:∀c:Fp p,c.len≤1→(c+1).len≤1:=fun c hc=>Pol.len_add_le hc c1
 have k0:∀c:Fp p,c=0→c.len≤1:=fun c hc=>by rw [hc]; exact c0
 rcases IsP.h (p:=p) with hp | hp | hp | hp
 ·have hn:p.toNat=2:=by omega
  rw [hn] at h
  refine main [0,1] (by intro c hc; simp at hc; rcases hc with rfl | rfl <;> assumption) ?_
  have h':Quo.mk m a^2=Quo.mk m a:=h
  show (Quo.mk m a-0)*((Quo.mk m a-1)*1)=0
  generalize Quo.mk m a=y at h'
  have e:(y-0)*((y-1)*1)=y^2-y:=ring_of [y] rfl
  rw [e,h']
  exact ring_of [y] rfl
 ·have hn:p.toNat=3:=by omega
  have hz:=ip_zero (m:=m) hp
  rw [hn] at h
  refine main [0,1,1+1] (by intro c hc; simp at hc; rcases hc with rfl | rfl | rfl <;> first | exact c0 | exact c1 | exact cs _ c1 | exact cs _ (cs _ c1) | exact cs _ (cs _ (cs _ c1)) | exact cs _ (cs _ (cs _ (cs _ c1))) | exact cs _ (cs _ (cs _ (cs _ (cs _ c1))))) ?_
  have h':Quo.mk m a^3=Quo.mk m a:=h
  show (Quo.mk m a-0)*((Quo.mk m a-1)*((Quo.mk m a-(1+1))*1))=0
  generalize Quo.mk m a=y at h'
  have e:(y-0)*((y-1)*((y-(1+1))*1))=y^3-y+ic 3*(y-y^2):=ring_of [y] rfl
  rw [e,h',hz]
  exact ring_of [y] rfl
 ·have hn:p.toNat=5:=by omega
  have hz:=ip_zero (m:=m) hp
  rw [hn] at h
  refine main [0,1,1+1,1+1+1,1+1+1+1] (by intro c hc; simp at hc; rcases hc with rfl | rfl | rfl | rfl | rfl <;> first | exact c0 | exact c1 | exact cs _ c1 | exact cs _ (cs _ c1) | exact cs _ (cs _ (cs _ c1)) | exact cs _ (cs _ (cs _ (cs _ c1))) | exact cs _ (cs _ (cs _ (cs _ (cs _ c1))))) ?_
  have h':Quo.mk m a^5=Quo.mk m a:=h
  show (Quo.mk m a-0)*((Quo.mk m a-1)*((Quo.mk m a-(1+1))*((Quo.mk m a-(1+1+1))*((Quo.mk m a-(1+1+1+1))*1))))=0
  generalize Quo.mk m a=y at h'
  have e:(y-0)*((y-1)*((y-(1+1))*((y-(1+1+1))*((y-(1+1+1+1))*1))))=y^5-y+ic 5*(ic 7*y^3+ic 5*y-ic 2*y^4-ic 10*y^2):=ring_of [y] rfl
  rw [e,h',hz]
  exact ring_of [y] rfl
 ·have hn:p.toNat=7:=by omega
  have hz:=ip_zero (m:=m) hp
  rw [hn] at h
  refine main [0,1,1+1,1+1+1,1+1+1+1,1+1+1+1+1,1+1+1+1+1+1] (by intro c hc; simp at hc; rcases hc with rfl | rfl | rfl | rfl | rfl | rfl | rfl <;> first | exact c0 | exact c1 | exact cs _ c1 | exact cs _ (cs _ c1) | exact cs _ (cs _ (cs _ c1)) | exact cs _ (cs _ (cs _ (cs _ c1))) | exact cs _ (cs _ (cs _ (cs _ (cs _ c1))))) ?_
  have h':Quo.mk m a^7=Quo.mk m a:=h
  show (Quo.mk m a-0)*((Quo.mk m a-1)*((Quo.mk m a-(1+1))*((Quo.mk m a-(1+1+1))*((Quo.mk m a-(1+1+1+1))*((Quo.mk m a-(1+1+1+1+1))*((Quo.mk m a-(1+1+1+1+1+1))*1))))))=0
  generalize Quo.mk m a=y at h'
  have e:(y-0)*((y-1)*((y-(1+1))*((y-(1+1+1))*((y-(1+1+1+1))*((y-(1+1+1+1+1))*((y-(1+1+1+1+1+1))*1))))))=y^7-y+ic 7*(ic 25*y^5+ic 232*y^3+ic 103*y-ic 3*y^6-ic 105*y^4-ic 252*y^2):=ring_of [y] rfl
  rw [e,h',hz]
  exact ring_of [y] rfl
theorem fix_const [IsP p] {m a:Fp p} (hm:Fld m) (hal:a.len<m.len) (h:pw (Quo.mk m a) p.toNat=Quo.mk m a):a.len≤1:=fix_irr hm.two hm.irr hal h
theorem norm_const [IsP p] {m x:Fp p} (hm:Fld m) (hx:x≠0) (hxl:x.len<m.len):(nmS m x (m.len-1)).len=1∧(nmS m x (m.len-1)).c 0≠0:=by
 have h2:=hm.two
 have h0:=hm.mon.2
 have hN:=nmS_len hm x (m.len-1)
 have hn0:=nmS_ne hm hx hxl (m.len-1)
 have e:=nmS_fix (m:=m) (x:=x) (m.len-1)
 have e1:sg (m.len-1) (Quo.mk m x)=Quo.mk m x:=by
  rw [←sg_mk,←frIt_mod hm _ hxl,Nat.mod_self]; rfl
 rw [e1] at e
 have hi:=invm_ok hm hx hxl
 have e2:pw (Quo.mk m (nmS m x (m.len-1))) p.toNat=Quo.mk m (nmS m x (m.len-1)):=by
  have h3:∀a b c d:Quo m,d*c=1→a*c=b*c→a=b:=fun a b c d h1 h2=>by
   have:a*c*d=b*c*d:=by rw [h2]
   rw [Gq.mul_assoc,Gq.mul_assoc,Gq.mul_comm c d,h1,Gq.mul_one,Gq.mul_one] at this
   exact this
  exact h3 _ _ _ _ hi e
 have hl:=fix_const hm hN e2
 have hp:=Pol.len_pos hn0
 refine ⟨by omega,?_⟩
 intro hc
 apply hn0
 refine Pol.ext fun i=>?_
 cases i with
 | zero=>exact hc
 | succ i=>exact c_ge' (by omega)
end
end Pe

namespace Pe
open Go Gq
variable {T:Nat→Option Fn} {A:Oracle}
theorem trim_const {p:Int} [IsP p] (c:Zp p):trim [rep c]=row (Pol.C c):=by
 apply trim_row
 intro i
 cases i with
 | zero=>rfl
 | succ i=>
  rw [cf_ge (by simp)]
  show (0:Int)=rep ((Pol.C c).c (i+1))
  rw [c_ge' (by have:=const_len (p:=p) c; omega),rep_zero]
theorem l_act {O:Oracle} (hby:K_by2 O) (htr:C_trimmed O) (hsi:K_single O) (hpl:K_plus O) {p:Int} [IsP p] {m t0 t1 t2 a:Fp p} (hm:Fld m) (hb:∀c∈[t0,t1,t2],c.len<m.len) (ha:a.len≤64):∀(r j:Nat),j+r=a.len →
 dn O 0 (.loop Za_L0) ⟨[(1,(.d (.sl .leaf (ints .i64 (row a))))),(5,.ptr 1 []),(6,.d (skD [t0,t1,t2])),(7,.d (skD (actN m t0 t1 t2 a a.len j))),(8,(.d (.int .i64 ((a.len:Int)-1-j))))],[.hole,.box false (fldD m),.hole]⟩ =
  some (.exit 0,⟨[(1,(.d (.sl .leaf (ints .i64 (row a))))),(5,.ptr 1 []),(6,.d (skD [t0,t1,t2])),(7,.d (skD (actN m t0 t1 t2 a a.len a.len))),(8,(.d (.int .i64 (-1)))),(17,(.d (.bool false)))],[.hole,.box false (fldD m),.hole]⟩)
 | 0,j,hj=>by
  obtain rfl:j=a.len:=by omega
  rw [show (a.len:Int)-1-(a.len:Nat)=-1 by omega]
  refine dn_stop ?_
  generalize skD (actN m t0 t1 t2 a a.len a.len)=AD at *
  generalize skD [t0,t1,t2]=TD at *
  generalize row a=Ra at *
  simp -implicitDefEqProofs [Za_L0,dn_cond]
 | r+1,j,hj=>by
  have h5:=hm.five
  have h2:=hm.two
  obtain ⟨i,hi⟩:∃i:Nat,a.len-1-j=i:=⟨_,rfl⟩
  have hic:(a.len:Int)-1-j=(i:Nat):=by omega
  have hlt2:i<(row a).length:=by rw [row_length]; omega
  have hx:(row a)[i]? = some (rep (a.c i)):=by rw [List.getElem?_eq_getElem hlt2,←cf_lt hlt2,row_cf]
  have g1:=actN_lens hm t0 t1 t2 a a.len j
  have g2:=actN_len m t0 t1 t2 a a.len j
  have p1:=prod_len_le (m:=m) (a:=actN m t0 t1 t2 a a.len j) (b:=[t0,t1,t2])
  simp only [List.length_cons,List.length_nil] at p1
  have hcl:=const_len (p:=p) (a.c i)
  have e1:=hby p m (actN m t0 t1 t2 a a.len j) [t0,t1,t2] h2 (by omega) (fun c hc=>by have:=g1 c hc; omega) (fun c hc=>by have:=hb c hc; omega) (by omega) (by simp)
  have e2:=htr [rep (a.c i)] (by simp)
  rw [trim_const,show ints .i64 [rep (a.c i)]=[.int .i64 (rep (a.c i))] from rfl] at e2
  have e3:=hsi p (Pol.C (a.c i)) 0 (by omega)
  rw [show ((0:Nat):Int)=0 from rfl] at e3
  have e4:=hpl p m (prodS m (actN m t0 t1 t2 a a.len j) [t0,t1,t2]) (termS (Pol.C (a.c i)) 0) 1 (by omega) (by omega) (by omega) (by rw [termS_length]; omega) (fun c hc=>by have:=prodS_lens' (N:=m.len-1) hm.mon.2 (by omega) c hc; omega) (fun c hc=>by
   unfold termS at hc
   rw [List.replicate_zero,List.nil_append] at hc
   rw [List.mem_singleton.1 hc]; omega)
  have hact:plusS 1 (prodS m (actN m t0 t1 t2 a a.len j) [t0,t1,t2]) (termS (Pol.C (a.c i)) 0)=actN m t0 t1 t2 a a.len (j+1):=by
   show _=plusS 1 _ (termS (Pol.C (a.c (a.len-1-j))) 0)
   rw [hi]
  rw [hact] at e4
  have w4:IntKind.i64.wrap ((i:Int)-1)=(a.len:Int)-1-((j+1:Nat):Int):=(w64 (by omega)).trans (by omega)
  refine dn_round ?_ (l_act hby htr hsi hpl hm hb ha r (j+1) (by omega))
  rw [hic]
  have hfd:fldD m=.st [.leaf,.leaf] [(D.int .i64 p),(D.sl .leaf (ints .i64 (row m)))]:=rfl
  rw [show skD (actN m t0 t1 t2 a a.len (j+1))=.sl .leaf ((actN m t0 t1 t2 a a.len (j+1)).map rowD) from rfl] at e4 ⊢
  rw [show skD (prodS m (actN m t0 t1 t2 a a.len j) [t0,t1,t2])=.sl .leaf ((prodS m (actN m t0 t1 t2 a a.len j) [t0,t1,t2]).map rowD) from rfl] at e1 e4
  rw [show skD (termS (Pol.C (a.c i)) 0)=.sl .leaf ((termS (Pol.C (a.c i)) 0).map rowD) from rfl] at e3 e4
  rw [show skD (actN m t0 t1 t2 a a.len j)=.sl .leaf ((actN m t0 t1 t2 a a.len j).map rowD) from rfl,show skD [t0,t1,t2]=.sl .leaf ([t0,t1,t2].map rowD) from rfl,hfd] at e1 ⊢
  rw [hfd] at e4
  generalize (a.len:Int)-1-((j+1:Nat):Int)=k1 at *
  generalize (actN m t0 t1 t2 a a.len (j+1)).map rowD=D1 at *
  generalize (prodS m (actN m t0 t1 t2 a a.len j) [t0,t1,t2]).map rowD=D2 at *
  generalize (termS (Pol.C (a.c i)) 0).map rowD=D3 at *
  generalize (actN m t0 t1 t2 a a.len j).map rowD=D4 at *
  generalize [t0,t1,t2].map rowD=TD at *
  generalize row (Pol.C (a.c i))=R1 at *
  generalize row m=Rm at *
  simp -implicitDefEqProofs [Za_L0,dn_cond,hx,e1,e2,e3,e4,w4]
def K_action (O:Oracle):Prop:=∀(p:Int) [IsP p] (m g d a:Fp p),Fld m→g.len<m.len→d.len<m.len→a.len≤64→ask O Fa [drD p (pad (row m)) (pad (row g)) (pad (row d)),(D.sl .leaf (ints .i64 (row a)))]=some (skD (actN m (Pol.X%m) g d a a.len a.len))
theorem mem3 {p:Int} {t0 t1 t2:Fp p} {n:Nat} (h0:t0.len<n) (h1:t1.len<n) (h2:t2.len<n):∀c∈[t0,t1,t2],c.len<n:=fun c hc=>by
 simp at hc
 rcases hc with rfl | rfl | rfl <;> assumption
theorem k_action (hT:T Fa=some Za) (hfi:K_drField (den T A)) (hla:K_letterAction (den T A)) (hby:K_by2 (den T A)) (htr:C_trimmed (den T A)) (hsi:K_single (den T A)) (hpl:K_plus (den T A)):K_action (den T A):=by
 intro p ip m g d a hm hg hd ha
 have h5:=hm.five
 have h0:=hm.mon.2
 have e1:=hfi p m (pad (row g)) (pad (row d)) (by omega)
 have e2:=hla p m g d h0 (by omega) (by omega) (by omega)
 have e3:=l_act (O:=den T A) (t0:=Pol.X%m) (t1:=g) (t2:=d) (a:=a) hby htr hsi hpl hm (mem3 (Pol.len_mod _ h0) hg hd) ha a.len 0 (by omega)
 rw [show actN m (Pol.X%m) g d a a.len 0=[] from rfl,show ((0:Nat):Int)=0 from rfl,Int.sub_zero] at e3
 have hl:(row a).length=a.len:=row_length a
 have w1:IntKind.i64.wrap ((a.len:Int)-1)=(a.len:Int)-1:=w64 (by omega)
 have hfd:fldD m=.st [.leaf,.leaf] [(D.int .i64 p),(D.sl .leaf (ints .i64 (row m)))]:=rfl
 rw [show skD (actN m (Pol.X%m) g d a a.len a.len)=.sl .leaf ((actN m (Pol.X%m) g d a a.len a.len).map rowD) from rfl] at e3 ⊢
 rw [show skD [Pol.X%m,g,d]=.sl .leaf ([Pol.X%m,g,d].map rowD) from rfl] at e2 e3
 rw [show skD ([]:List (Fp p))=.sl .leaf [] from rfl,hfd] at e3
 rw [hfd] at e1
 refine ask_of hT rfl ?_
 generalize (actN m (Pol.X%m) g d a a.len a.len).map rowD=D1 at *
 generalize [Pol.X%m,g,d].map rowD=TD at *
 generalize row a=Ra at *
 generalize pad (row m)=Pm at *
 generalize pad (row g)=Pg at *
 generalize pad (row d)=Pd at *
 generalize row m=Rm at *
 simp -implicitDefEqProofs [Za,Za_B,e1,e2,e3,hl,w1]
theorem l_normOf3 {O:Oracle} (hfr:K_frob O) (hpr:K_product O) {p:Int} [IsP p] {m x:Fp p} (hm:Fld m) (hx:x.len<m.len):∀(r i:Nat),i+r=m.len-1 →
 dn O 0 (.loop Z11_L0) ⟨[(1,(.d (.sl .leaf (ints .i64 (row (frIt m i x)))))),(2,.ptr 0 []),(5,(.d (.sl .leaf (ints .i64 (row (nmS m x i)))))),(9,(.d (.int .i64 (((m.len-1:Nat):Int))))),(10,(.d (.int .i64 i)))],[.box false (fldD m),.hole]⟩ =
  some (.exit 0,⟨[(1,(.d (.sl .leaf (ints .i64 (row (frIt m (m.len-1) x)))))),(2,.ptr 0 []),(5,(.d (.sl .leaf (ints .i64 (row (nmS m x (m.len-1))))))),(9,(.d (.int .i64 (((m.len-1:Nat):Int))))),(10,(.d (.int .i64 (((m.len-1:Nat):Int))))),(11,(.d (.bool false)))],[.box false (fldD m),.hole]⟩)
 | 0,i,hi=>by
  obtain rfl:i=m.len-1:=by omega
  refine dn_stop ?_
  generalize row (frIt m (m.len-1) x)=R1 at *
  generalize row (nmS m x (m.len-1))=R2 at *
  generalize m.len-1=n at *
  simp -implicitDefEqProofs [Z11_L0,dn_cond]
 | r+1,i,hi=>by
  have h5:=hm.five
  have h2:=hm.two
  have h0:=hm.mon.2
  have f1:=frIt_len h0 i x hx
  have n1:=nmS_len hm x i
  have e1:=hpr p m (nmS m x i) (frIt m i x) h0 (by omega) (by omega) (by omega)
  rw [show nmS m x i*frIt m i x%m=nmS m x (i+1) from rfl] at e1
  have e2:=hfr p m (frIt m i x) 1 h2 (by omega) (by omega) (by omega)
  rw [frIt_mod hm 1 f1,←frIt_add,Nat.add_comm 1 i,show ((1:Nat):Int)=1 from rfl] at e2
  have hlt:i<m.len-1:=by omega
  have hlt':(i:Int)<((m.len-1:Nat):Int):=by omega
  have w4:IntKind.i64.wrap ((i:Int)+1)=((i+1:Nat):Int):=(w64 (x:=(i:Int)+1) (by omega)).trans (by omega)
  refine dn_round ?_ (l_normOf3 hfr hpr hm hx r (i+1) (by omega))
  generalize row (frIt m (i+1) x)=R1 at *
  generalize row (frIt m i x)=R2 at *
  generalize row (nmS m x (i+1))=R3 at *
  generalize row (nmS m x i)=R4 at *
  generalize m.len-1=n at *
  simp -implicitDefEqProofs [Z11_L0,dn_cond,hlt',e1,e2,w4]
def K_normOf (O:Oracle):Prop:=∀(p:Int) [IsP p] (m x:Fp p),Fld m→x.len<m.len→ask O F11 [fldD m,(D.sl .leaf (ints .i64 (row x)))]=some (D.int .i64 (rep ((nmS m x (m.len-1)).c 0)))
theorem k_normOf (hT:T F11=some Z11) (hdg:C_degree (den T A)) (hat:C_at (den T A)) (hfr:K_frob (den T A)) (hpr:K_product (den T A)):K_normOf (den T A):=by
 intro p ip m x hm hx
 have h5:=hm.five
 have h2:=hm.two
 have h0:=hm.mon.2
 have e1:=hdg (row m) (by rw [row_length]; omega)
 rw [row_length,show (m.len:Int)-1=((m.len-1:Nat):Int) by omega] at e1
 have e2:=hpr p m 1 x h0 (by omega) (by rw [Pol.len_one]; omega) (by omega)
 rw [row_one,show ints .i64 [1]=[.int .i64 1] from rfl,show (1:Fp p)*x%m=nmS m x 1 from rfl] at e2
 have e3:=hfr p m x 1 h2 (by omega) (by omega) (by omega)
 rw [frIt_mod hm 1 hx,show ((1:Nat):Int)=1 from rfl] at e3
 have e4:=l_normOf3 (O:=den T A) hfr hpr hm hx (m.len-2) 1 (by omega)
 rw [show ((1:Nat):Int)=1 from rfl] at e4
 have e5:=hat (row (nmS m x (m.len-1))) 0 (by omega)
 rw [row_cf,show ((0:Nat):Int)=0 from rfl] at e5
 have hlt:(0:Int)<((m.len-1:Nat):Int):=by omega
 have hlt':0<m.len-1:=by omega
 have hfd:fldD m=.st [.leaf,.leaf] [(D.int .i64 p),(D.sl .leaf (ints .i64 (row m)))]:=rfl
 rw [hfd] at e2 e3 e4 ⊢
 have e6:dn (den T A) 0 (.loop Z11_L0) ⟨[(1,(.d (.sl .leaf (ints .i64 (row x))))),(2,.ptr 0 []),(5,.sl 1 [] 0 1 (some 1)),(9,(.d (.int .i64 (((m.len-1:Nat):Int))))),(10,(.d (.int .i64 0)))],[.box false (.st [.leaf,.leaf] [(D.int .i64 p),(D.sl .leaf (ints .i64 (row m)))]),.sl false .leaf [.int .i64 1]]⟩ =
  some (.exit 0,⟨[(1,(.d (.sl .leaf (ints .i64 (row (frIt m (m.len-1) x)))))),(2,.ptr 0 []),(5,(.d (.sl .leaf (ints .i64 (row (nmS m x (m.len-1))))))),(9,(.d (.int .i64 (((m.len-1:Nat):Int))))),(10,(.d (.int .i64 (((m.len-1:Nat):Int))))),(11,(.d (.bool false)))],[.box false (.st [.leaf,.leaf] [(D.int .i64 p),(D.sl .leaf (ints .i64 (row m)))]),.hole]⟩):=by
  refine dn_round ?_ e4
  generalize row (frIt m 1 x)=R1 at *
  generalize row (nmS m x 1)=R2 at *
  generalize row x=Rx at *
  generalize row m=Rm at *
  generalize m.len-1=n at *
  have w0:IntKind.i64.wrap 1=1:=w64 (by omega)
  simp -implicitDefEqProofs [Z11_L0,dn_cond,hlt',e2,e3,w0]
 refine ask_of hT rfl ?_
 generalize rep ((nmS m x (m.len-1)).c 0)=v at *
 generalize row (frIt m (m.len-1) x)=R1 at *
 generalize row (nmS m x (m.len-1))=R2 at *
 generalize row x=Rx at *
 generalize row m=Rm at *
 generalize m.len-1=n at *
 simp -implicitDefEqProofs [Z11,Z11_B,e1,e6,e5]
section
variable {p:Int}
noncomputable def frK [IsP p] (m d:Fp p):Int:=if (m.len-1)%2=1 then -inv p (rep ((nmS m d (m.len-1)).c 0)) else inv p (rep ((nmS m d (m.len-1)).c 0))
noncomputable def frB [IsP p] (m d:Fp p):Fp p:=Pol.C (zp p (frK m d))*m
noncomputable def frA [IsP p] (m g d:Fp p):Fp p:=cS (actN m (Pol.X%m) g d (frB m d) (frB m d).len (frB m d).len) (m.len-1)
theorem frK_in [IsP p] {m d:Fp p}:-1000≤frK m d∧frK m d≤1000:=by
 have hp:2≤p:=by rcases IsP.h (p:=p) with h | h | h | h <;> omega
 have h7:=IsP.le (p:=p)
 have:=ipow_in (p:=p) (n:=rep ((nmS m d (m.len-1)).c 0)) (by omega) (p-2).toNat
 unfold frK inv
 split <;> omega
theorem frB_len [IsP p] {m d:Fp p}:(frB m d).len≤m.len:=Pol.len_le fun j hj=>by
 unfold frB
 rw [Pol.c_Cmul,c_ge' (by omega),Gq.mul_zero]
end
def K_drFrob (O:Oracle):Prop:=∀(p:Int) [IsP p] (m g d:Fp p),Fld m→g.len<m.len→d.len<m.len→ask O Fc [drD p (pad (row m)) (pad (row g)) (pad (row d))]=some (.tup [(D.sl .leaf (ints .i64 (row (frA m g d)))),(D.sl .leaf (ints .i64 (row (frB m d))))])
theorem k_drFrob (hT:T Fc=some Zc) (hfi:K_drField (den T A)) (hro:K_rowOf (den T A)) (hno:K_normOf (den T A)) (hin:C_inverse (den T A)) (hdg:C_degree (den T A)) (hsc:K_scale (den T A)) (hac:K_action (den T A)) (hat:K_skAt (den T A)):K_drFrob (den T A):=by
 intro p ip m g d hm hg hd
 have h5:=hm.five
 have h2:=hm.two
 have h0:=hm.mon.2
 have hp:2≤p:=by rcases IsP.h (p:=p) with h | h | h | h <;> omega
 have h7:=IsP.le (p:=p)
 have hr:=rep_in ((nmS m d (m.len-1)).c 0)
 have hbl:=frB_len (m:=m) (d:=d)
 obtain ⟨k1,k2⟩:=frK_in (m:=m) (d:=d)
 have hiv:=ipow_in (p:=p) (n:=rep ((nmS m d (m.len-1)).c 0)) (by omega) (p-2).toNat
 have e1:=hfi p m (pad (row g)) (pad (row d)) (by omega)
 have e2:=hro p d (by omega)
 have e3:=hno p m d hm hd
 have e4:=hin p (rep ((nmS m d (m.len-1)).c 0)) (by omega) (by omega) hr.1 hr.2
 have e5:=hdg (row m) (by rw [row_length]; omega)
 rw [row_length,show (m.len:Int)-1=((m.len-1:Nat):Int) by omega] at e5
 have e6:=hsc p (frK m d) m (by omega) (by omega) (by omega)
 rw [show Pol.C (zp p (frK m d))*m=frB m d from rfl] at e6
 have e7:=hac p m g d (frB m d) hm hg hd (by omega)
 have e8:=hat p (actN m (Pol.X%m) g d (frB m d) (frB m d).len (frB m d).len) (m.len-1)
 rw [show cS (actN m (Pol.X%m) g d (frB m d) (frB m d).len (frB m d).len) (m.len-1)=frA m g d from rfl] at e8
 have hfd:fldD m=.st [.leaf,.leaf] [(D.int .i64 p),(D.sl .leaf (ints .i64 (row m)))]:=rfl
 rw [hfd] at e1 e3
 rw [show skD (actN m (Pol.X%m) g d (frB m d) (frB m d).len (frB m d).len)=.sl .leaf ((actN m (Pol.X%m) g d (frB m d) (frB m d).len (frB m d).len).map rowD) from rfl] at e7 e8
 have hrem:Int.tmod ((m.len-1:Nat):Int) 2=(((m.len-1)%2:Nat):Int):=rfl
 unfold frK at e6 k1 k2
 unfold inv at e4 e6 k1 k2
 refine ask_of hT rfl ?_
 generalize (actN m (Pol.X%m) g d (frB m d) (frB m d).len (frB m d).len).map rowD=D1 at *
 generalize row (frA m g d)=R1 at *
 generalize row (frB m d)=R2 at *
 generalize ipow p (rep ((nmS m d (m.len-1)).c 0)) (p-2).toNat=iv at *
 generalize rep ((nmS m d (m.len-1)).c 0)=nv at *
 generalize row d=Rd at *
 generalize pad (row m)=Pm at *
 generalize pad (row g)=Pg at *
 generalize pad (row d)=Pd at *
 generalize row m=Rm at *
 generalize m.len-1=n at *
 have w1:IntKind.i64.wrap (-iv)=-iv:=w64 (by omega)
 by_cases hodd:n%2=1
 ·rw [if_pos hodd] at e6
  rw [hodd] at hrem
  simp -implicitDefEqProofs [Zc,Zc_B,dn_cond,e1,e2,e3,e4,e5,e6,e7,e8,hrem,w1]
 ·rw [if_neg hodd] at e6
  rw [show n%2=0 by omega] at hrem
  simp -implicitDefEqProofs [Zc,Zc_B,dn_cond,e1,e2,e3,e4,e5,e6,e7,e8,hrem]
end Pe

namespace Pe
open Go Gq
variable {T:Nat→Option Fn} {A:Oracle}
noncomputable abbrev aD {p:Int} (L:List (Fp p)):D:=.sl (.arr 64 .leaf) ((skP L).map arr8)
theorem skA_get {p:Int} {L:List (Fp p)} {i:Nat} (h:i<L.length):((skP L).map arr8)[i]? = some (D.arr 64 .leaf (ints .u8 (pad (row L[i])))):=by
 unfold skP
 rw [List.getElem?_map,List.getElem?_map,List.getElem?_eq_getElem h]
 rfl
theorem skA_getE {p:Int} {L:List (Fp p)} {i:Nat} (h:i<L.length):∀h':i<((skP L).map arr8).length,((skP L).map arr8)[i]'h'=(D.arr 64 .leaf (ints .u8 (pad (row L[i])))):=fun h'=>by
 have:=skA_get h
 rw [List.getElem?_eq_getElem h'] at this
 exact Option.some.inj this
theorem skA_len {p:Int} (L:List (Fp p)):((skP L).map arr8).length=L.length:=by unfold skP; rw [List.length_map,List.length_map]
theorem skA_take {p:Int} (L:List (Fp p)) (n:Nat):((skP L).map arr8).take n=(skP (L.take n)).map arr8:=by unfold skP; rw [←List.map_take,←List.map_take]
theorem skA_set {p:Int} (L:List (Fp p)) (n:Nat) (c:Fp p):(skP (L.set n c)).map arr8=((skP L).map arr8).set n (D.arr 64 .leaf (ints .u8 (pad (row c)))):=by unfold skP; rw [List.map_set,List.map_set]
theorem l_sTrim4 {O:Oracle} {p:Int} [IsP p] {L:List (Fp p)} (hl:∀c∈L,c.len≤64) (hL:L.length≤1000000):∀n,n≤L.length →
 dn O 0 (.loop Z43_L0) ⟨[(0,.d (aD (L.take n)))],[]⟩=some (.exit 0,⟨[(0,.d (aD (L.take (stl L n)))),(15,(.d (.bool false)))],[]⟩)
 | 0,_=>by
  refine dn_stop ?_
  rw [List.take_zero,show aD ([]:List (Fp p))=.sl (.arr 64 .leaf) [] from rfl,show stl L 0=0 from rfl,List.take_zero,show aD ([]:List (Fp p))=.sl (.arr 64 .leaf) [] from rfl]
  simp -implicitDefEqProofs [Z43_L0,dn_cond]
 | n+1,hn=>by
  have hlt:n<L.length:=by omega
  have hc:=hl _ (List.getElem_mem hlt)
  have hg:=skA_get (L:=L.take (n+1)) (i:=n) (by rw [List.length_take]; omega)
  rw [List.getElem_take] at hg
  have hlen:((skP (L.take (n+1))).map arr8).length=n+1:=by rw [skA_len,List.length_take]; omega
  have w1:IntKind.i64.wrap (n:Int)=(n:Int):=w64 (by omega)
  have hpos:(0:Int)<(n:Int)+1:=by omega
  have hgE:=skA_getE (L:=L.take (n+1)) (i:=n) (by rw [List.length_take]; omega)
  rw [List.getElem_take] at hgE
  have heq:=beq_P (l:=pad (row L[n])) (m:=pad []) (pad_length _) (pad_length _)
  by_cases h0:L[n]=0
  ·have hst:stl L (n+1)=stl L n:=by
    conv=>lhs; unfold stl
    rw [if_pos (by rw [List.getElem?_eq_getElem hlt,h0])]
   rw [hst]
   have ih:=l_sTrim4 (O:=O) hl hL n (by omega)
   rw [h0,row_zero,decide_eq_true rfl] at heq
   rw [h0,row_zero] at hg hgE
   have htk:((skP (L.take (n+1))).map arr8).take n=(skP (L.take n)).map arr8:=by
    rw [skA_take,List.take_take,Nat.min_eq_left (by omega)]
   refine dn_round ?_ ih
   show _=some (_,(⟨[(0,.d (.sl (.arr 64 .leaf) ((skP (L.take n)).map arr8)))],_⟩:St))
   show dn O 0 _ ⟨[(0,.d (.sl (.arr 64 .leaf) ((skP (L.take (n+1))).map arr8)))],_⟩=_
   generalize (skP (L.take n)).map arr8=L1 at *
   generalize (skP (L.take (n+1))).map arr8=L2 at *
   simp -implicitDefEqProofs [Z43_L0,dn_cond,hgE,hlen,w1,hpos,heq,htk]
  ·have hst:stl L (n+1)=n+1:=by
    conv=>lhs; unfold stl
    rw [if_neg (by rw [List.getElem?_eq_getElem hlt]; exact fun h=>h0 (Option.some.inj h))]
   rw [hst]
   have hne:¬ pad (row L[n])=pad []:=fun h=>h0 ((pad_row_inj hc (by rw [Pol.len_zero]; omega)).1 (by rw [h,row_zero]))
   rw [decide_eq_false hne] at heq
   have key:∀(L2:List D) (P1:List Int),L2.length=n+1→(∀h':n<L2.length,L2[n]'h'=(D.arr 64 .leaf (ints .u8 P1)))→D.beq (.arr 64 .leaf .int) (D.arr 64 .leaf (ints .u8 P1)) (D.arr 64 .leaf (ints .u8 (pad [])))=some false →
    dn O 0 Z43_L0 ⟨[(0,.d (.sl (.arr 64 .leaf) L2))],[]⟩=some (.exit 0,⟨[(0,.d (.sl (.arr 64 .leaf) L2)),(15,(.d (.bool false)))],[]⟩):=by
    intro L2 P1 f1 f2 f3
    simp -implicitDefEqProofs [Z43_L0,dn_cond,f1,f2,w1,hpos,f3]
   exact dn_stop (key _ _ hlen hgE heq)
def K_sTrim4 (O:Oracle):Prop:=∀(p:Int) [IsP p] (L:List (Fp p)),(∀c∈L,c.len≤64)→L.length≤1000000→ask O F43 [aD L]=some (aD (trimS L))
theorem k_sTrim4 (hT:T F43=some Z43):K_sTrim4 (den T A):=by
 intro p ip L hl hL
 have e1:=l_sTrim4 (O:=den T A) hl hL L.length (Nat.le_refl _)
 rw [List.take_length,show L.take (stl L L.length)=trimS L from rfl] at e1
 rw [show aD L=.sl (.arr 64 .leaf) ((skP L).map arr8) from rfl,show aD (trimS L)=.sl (.arr 64 .leaf) ((skP (trimS L)).map arr8) from rfl] at e1 ⊢
 refine ask_of hT rfl ?_
 generalize (skP (trimS L)).map arr8=L1 at *
 generalize (skP L).map arr8=L2 at *
 simp -implicitDefEqProofs [Z43,Z43_B,e1]
theorem l_cmpIn {O:Oracle} (hti:K_sTimes6 O) (had:K_sAdd O) (hup:K_sUp6 O) {p:Int} [IsP p] {m:Fp p} {v1 v2:List Int} (hm:m≠0) (hml:m.len≤64) {us:List (Fp p)} (hus:∀c∈us,c.len≤64) {VD:D} {N k:Nat} (hN:N≤1000) (hk:us.length+k≤N):∀(r i:Nat) (w:Fp p) (Q:List (Fp p)),i+r=us.length→Q.length=N→(∀c∈Q,c.len≤64)→w.len≤64→∃w':List Int,
 dn O 0 (.loop Z48_L0) ⟨[(1,.d (aD us)),(2,.d VD),(3,.ptr 0 []),(7,.sl 1 [] 0 N (some N)),(8,(.d (.int .i64 k))),(9,.ptr 2 []),(10,(.d (.int .i64 i)))],[.box false (drD p (pad (row m)) v1 v2),.sl false (.arr 64 .leaf) ((skP Q).map arr8),.box false (D.arr 64 .leaf (ints .u8 (pad (row w))))]⟩ =
  some (.exit 2,⟨[(1,.d (aD us)),(2,.d VD),(3,.ptr 0 []),(7,.sl 1 [] 0 N (some N)),(8,(.d (.int .i64 k))),(9,.ptr 2 []),(10,(.d (.int .i64 us.length))),(30,(.d (.bool false)))],[.box false (drD p (pad (row m)) v1 v2),.sl false (.arr 64 .leaf) ((skP (cmpIn m k i (us.drop i) w Q)).map arr8),.box false (D.arr 64 .leaf (ints .u8 w'))]⟩)
 | 0,i,w,Q,hi,hq,hQ,hw=>by
  obtain rfl:i=us.length:=by omega
  rw [List.drop_length]
  refine ⟨pad (row w),dn_stop ?_⟩
  have hUL:=skA_len us
  show dn O 0 _ ⟨[(1,.d (.sl (.arr 64 .leaf) ((skP us).map arr8))),_,_,_,_,_,_],_⟩=some (_,(⟨[(1,.d (.sl (.arr 64 .leaf) ((skP us).map arr8))),_,_,_,_,_,_,_],[_,.sl false (.arr 64 .leaf) ((skP Q).map arr8),_]⟩:St))
  generalize (skP us).map arr8=UD at *
  generalize (skP Q).map arr8=QD at *
  generalize pad (row w)=Pw at *
  simp -implicitDefEqProofs [Z48_L0,dn_cond,hUL]
 | r+1,i,w,Q,hi,hq,hQ,hw=>by
  have hlt:i<us.length:=by omega
  have hik:i+k<N:=by omega
  have hikQ:i+k<Q.length:=by omega
  have hu1:=hus _ (List.getElem_mem hlt)
  have hq1:=hQ _ (List.getElem_mem hikQ)
  have hUL:=skA_len us
  have hQL:((skP Q).map arr8).length=N:=(skA_len Q).trans hq
  have g1:=skA_get hlt
  have g2:=skA_get hikQ
  have g1E:=skA_getE hlt
  have g2E:=skA_getE hikQ
  have e1:=hti p m us[i] w v1 v2 hm hml hu1 hw
  have l1:=Pol.len_mod (us[i]*w) hm
  have e2:=had p 1 Q[i+k] (us[i]*w%m) (by omega) (by omega) hq1 (by omega)
  rw [zp_one,Pol.C_one,Gq.one_mul] at e2
  have e3:=hup p m w v1 v2 1 hm hml hw (by omega)
  rw [show frIt m 1 w=pw w p.toNat%m from rfl,show ((1:Nat):Int)=1 from rfl] at e3
  have l2:=Pol.len_mod (pw w p.toNat) hm
  have hadd:addAt Q (i+k) (us[i]*w%m)=Q.set (i+k) (Q[i+k]+us[i]*w%m):=by
   unfold addAt; rw [List.getElem?_eq_getElem hikQ]; rfl
  have hQ':∀c∈addAt Q (i+k) (us[i]*w%m),c.len≤64:=addAt_lens hQ (by omega)
  have w0:IntKind.i64.wrap ((i:Int)+k)=((i+k:Nat):Int):=(w64 (x:=(i:Int)+k) (by omega)).trans (by omega)
  have hs0:(0:Int)≤(i:Int)+k:=by omega
  have hs1:((i:Int)+k).toNat=i+k:=by omega
  have w4:IntKind.i64.wrap ((i:Int)+1)=((i+1:Nat):Int):=(w64 (x:=(i:Int)+1) (by omega)).trans (by omega)
  have hlt':(i:Int)<us.length:=by omega
  obtain ⟨w',ih⟩:=l_cmpIn hti had hup hm hml hus (VD:=VD) hN hk (v1:=v1) (v2:=v2) r (i+1) (pw w p.toNat%m) (addAt Q (i+k) (us[i]*w%m)) (by omega) (by rw [addAt_length]; exact hq) hQ' (by omega)
  have hby:cmpIn m k i (us.drop i) w Q=cmpIn m k (i+1) (us.drop (i+1)) (pw w p.toNat%m) (addAt Q (i+k) (us[i]*w%m)):=by
   rw [List.drop_eq_getElem_cons hlt]; rfl
  rw [hby]
  refine ⟨w',dn_round ?_ ih⟩
  rw [hadd,skA_set]
  show dn O 0 _ ⟨[(1,.d (.sl (.arr 64 .leaf) ((skP us).map arr8))),_,_,_,_,_,_],_⟩=some (_,(⟨[(1,.d (.sl (.arr 64 .leaf) ((skP us).map arr8))),_,_,_,_,_,_],_⟩:St))
  generalize pad (row (Q[i+k]+us[i]*w%m))=P1 at *
  generalize pad (row (us[i]*w%m))=P2 at *
  generalize pad (row us[i])=P3 at *
  generalize pad (row Q[i+k])=P4 at *
  generalize pad (row (pw w p.toNat%m))=P5 at *
  generalize pad (row w)=Pw at *
  generalize (skP us).map arr8=UD at *
  generalize (skP Q).map arr8=QD at *
  generalize pad (row m)=Pm at *
  simp -implicitDefEqProofs [Z48_L0,dn_cond,hUL,hQL,hlt,hlt',hik,hs0,hs1,g1E,g2E,e1,e2,e3,w0,w4]
theorem l_cmpOut {O:Oracle} (hti:K_sTimes6 O) (had:K_sAdd O) (hup:K_sUp6 O) {p:Int} [IsP p] {m:Fp p} {v1 v2:List Int} (hm:m≠0) (hml:m.len≤64) {us vs:List (Fp p)} (hus:∀c∈us,c.len≤64) (hvs:∀c∈vs,c.len≤64) {N:Nat} (hN:N≤1000) (hk:us.length+vs.length≤N):∀(r k:Nat) (Q:List (Fp p)),k+r=vs.length→Q.length=N→(∀c∈Q,c.len≤64) →
 dn O 0 (.loop Z48_L1) ⟨[(1,.d (aD us)),(2,.d (aD vs)),(3,.ptr 0 []),(7,.sl 1 [] 0 N (some N)),(8,(.d (.int .i64 k)))],[.box false (drD p (pad (row m)) v1 v2),.sl false (.arr 64 .leaf) ((skP Q).map arr8),.hole]⟩ =
  some (.exit 0,⟨[(1,.d (aD us)),(2,.d (aD vs)),(3,.ptr 0 []),(7,.sl 1 [] 0 N (some N)),(8,(.d (.int .i64 vs.length))),(20,(.d (.bool false)))],[.box false (drD p (pad (row m)) v1 v2),.sl false (.arr 64 .leaf) ((skP (cmpOut m us k (vs.drop k) Q)).map arr8),.hole]⟩)
 | 0,k,Q,hi,hq,hQ=>by
  obtain rfl:k=vs.length:=by omega
  rw [List.drop_length]
  refine dn_stop ?_
  have hVL:=skA_len vs
  show dn O 0 _ ⟨[_,(2,.d (.sl (.arr 64 .leaf) ((skP vs).map arr8))),_,_,_],_⟩=some (_,(⟨[_,(2,.d (.sl (.arr 64 .leaf) ((skP vs).map arr8))),_,_,_,_],[_,.sl false (.arr 64 .leaf) ((skP Q).map arr8),_]⟩:St))
  generalize aD us=UD at *
  generalize (skP vs).map arr8=VD at *
  generalize (skP Q).map arr8=QD at *
  simp -implicitDefEqProofs [Z48_L1,dn_cond,hVL]
 | r+1,k,Q,hi,hq,hQ=>by
  have hlt:k<vs.length:=by omega
  have hv1:=hvs _ (List.getElem_mem hlt)
  have hVL:=skA_len vs
  have g1:=skA_get hlt
  have g1E:=skA_getE hlt
  have w4:IntKind.i64.wrap ((k:Int)+1)=((k+1:Nat):Int):=(w64 (x:=(k:Int)+1) (by omega)).trans (by omega)
  have hlt':(k:Int)<vs.length:=by omega
  obtain ⟨w',e1⟩:=l_cmpIn hti had hup hm hml hus (VD:=aD vs) hN (k:=k) (by omega) (v1:=v1) (v2:=v2) us.length 0 vs[k] Q (by omega) hq hQ hv1
  rw [List.drop_zero,show ((0:Nat):Int)=0 from rfl] at e1
  have hQ':∀c∈cmpIn m k 0 us vs[k] Q,c.len≤64:=cmpIn_lens (N:=64) hm (by omega) k us 0 vs[k] Q hQ
  have ih:=l_cmpOut hti had hup hm hml hus hvs hN hk (v1:=v1) (v2:=v2) r (k+1) (cmpIn m k 0 us vs[k] Q) (by omega) (by rw [cmpIn_length]; exact hq) hQ'
  have hby:cmpOut m us k (vs.drop k) Q=cmpOut m us (k+1) (vs.drop (k+1)) (cmpIn m k 0 us vs[k] Q):=by
   rw [List.drop_eq_getElem_cons hlt]; rfl
  rw [hby]
  refine dn_round ?_ ih
  rw [show aD vs=.sl (.arr 64 .leaf) ((skP vs).map arr8) from rfl] at e1 ⊢
  generalize aD us=UD at *
  generalize (skP (cmpIn m k 0 us vs[k] Q)).map arr8=Q2 at *
  generalize (skP vs).map arr8=VD at *
  generalize (skP Q).map arr8=QD at *
  generalize pad (row vs[k])=P1 at *
  generalize pad (row m)=Pm at *
  simp -implicitDefEqProofs [Z48_L1,dn_cond,hVL,hlt,hlt',g1E,e1,w4]
def K_sComp (O:Oracle):Prop:=∀(p:Int) [IsP p] (m:Fp p) (v1 v2:List Int) (us vs:List (Fp p)),m≠0→m.len≤64→(∀c∈us,c.len≤64)→(∀c∈vs,c.len≤64)→us.length+vs.length≤1000→ask O F48 [drD p (pad (row m)) v1 v2,aD us,aD vs]=some (aD (cmpS m us vs))
theorem skA_zeros (p:Int) (n:Nat):(skP (List.replicate n (0:Fp p))).map arr8=List.replicate n (D.arr 64 .leaf (ints .u8 (pad []))):=by
 unfold skP
 rw [List.map_replicate,List.map_replicate,row_zero]
theorem k_sComp (hT:T F48=some Z48) (hti:K_sTimes6 (den T A)) (had:K_sAdd (den T A)) (hup:K_sUp6 (den T A)) (htr:K_sTrim4 (den T A)):K_sComp (den T A):=by
 intro p ip m v1 v2 us vs hm hml hus hvs hN
 have hz:∀c∈List.replicate (us.length+vs.length) (0:Fp p),c.len≤64:=fun c hc=>by rw [List.eq_of_mem_replicate hc,Pol.len_zero]; omega
 have e1:=l_cmpOut (O:=den T A) hti had hup hm hml hus hvs hN (Nat.le_refl _) (v1:=v1) (v2:=v2) vs.length 0 (List.replicate (us.length+vs.length) 0) (by omega) List.length_replicate hz
 rw [List.drop_zero,show ((0:Nat):Int)=0 from rfl,skA_zeros] at e1
 have e2:=htr p (cmpOut m us 0 vs (List.replicate (us.length+vs.length) 0)) (cmpOut_lens (N:=64) hm (by omega) us vs 0 _ hz) (by rw [cmpOut_length,List.length_replicate]; omega)
 rw [show trimS (cmpOut m us 0 vs (List.replicate (us.length+vs.length) 0))=cmpS m us vs from rfl] at e2
 have hUL:=skA_len us
 have hVL:=skA_len vs
 have hOL:((skP (cmpOut m us 0 vs (List.replicate (us.length+vs.length) 0))).map arr8).length=us.length+vs.length:=by rw [skA_len,cmpOut_length,List.length_replicate]
 have w1:IntKind.i64.wrap ((us.length:Int)+vs.length)=((us.length+vs.length:Nat):Int):=(w64 (x:=(us.length:Int)+vs.length) (by omega)).trans (by omega)
 have hmul:(us.length+vs.length)*64≤1099511627776:=by omega
 have hs0:(0:Int)≤(us.length:Int)+vs.length:=by omega
 have hs1:((us.length:Int)+vs.length).toNat=us.length+vs.length:=by omega
 rw [show aD us=.sl (.arr 64 .leaf) ((skP us).map arr8) from rfl,show aD vs=.sl (.arr 64 .leaf) ((skP vs).map arr8) from rfl] at e1 ⊢
 rw [show aD (cmpS m us vs)=.sl (.arr 64 .leaf) ((skP (cmpS m us vs)).map arr8) from rfl] at e2 ⊢
 rw [show aD (cmpOut m us 0 vs (List.replicate (us.length+vs.length) 0))=.sl (.arr 64 .leaf) ((skP (cmpOut m us 0 vs (List.replicate (us.length+vs.length) 0))).map arr8) from rfl] at e2
 have htk:((skP (cmpOut m us 0 vs (List.replicate (us.length+vs.length) 0))).map arr8).take (us.length+vs.length)=(skP (cmpOut m us 0 vs (List.replicate (us.length+vs.length) 0))).map arr8:=List.take_of_length_le (by omega)
 refine ask_of hT rfl ?_
 generalize (skP (cmpS m us vs)).map arr8=CD at *
 generalize (skP (cmpOut m us 0 vs (List.replicate (us.length+vs.length) 0))).map arr8=OD at *
 generalize (skP us).map arr8=UD at *
 generalize (skP vs).map arr8=VD at *
 generalize us.length=nu at *
 generalize vs.length=nv at *
 generalize pad (row m)=Pm at *
 simp -implicitDefEqProofs [Z48,Z48_B,hUL,hVL,hOL,w1,hmul,hs0,hs1,htk,e1,e2]
def K_sT6 (O:Oracle):Prop:=∀(p:Int) [IsP p] (m g d:Fp p),m≠0→m.len≤64→ask O F4h [drD p (pad (row m)) (pad (row g)) (pad (row d))]=some (aD [Pol.X%m,g,d])
theorem k_sT6 (hT:T F4h=some Z4h) (ht:K_sT (den T A)) (hmo:K_sMod (den T A)):K_sT6 (den T A):=by
 intro p ip m g d hm hml
 have e1:=ht p
 have e2:=hmo p Pol.X m hm (by rw [Pol.len_X]; omega) hml
 rw [show aD [Pol.X%m,g,d]=.sl (.arr 64 .leaf) [(D.arr 64 .leaf (ints .u8 (pad (row (Pol.X%m))))),(D.arr 64 .leaf (ints .u8 (pad (row g)))),(D.arr 64 .leaf (ints .u8 (pad (row d))))] from rfl]
 refine ask_of hT rfl ?_
 generalize pad (row (Pol.X%m))=P1 at *
 generalize pad (row (Pol.X:Fp p))=P2 at *
 generalize pad (row m)=Pm at *
 generalize pad (row g)=Pg at *
 generalize pad (row d)=Pd at *
 simp -implicitDefEqProofs [Z4h,Z4h_B,e1,e2,List.replicate]
theorem conv_rep {p:Int} [IsP p] (c:Zp p):IntKind.i64.wrap (rep c)=rep c:=by
 have:=rep_in c
 have h7:=IsP.le (p:=p)
 exact w64 (by omega)
theorem l_sAct0 {O:Oracle} (had:K_sAdd O) {p:Int} [IsP p] {m a:Fp p} {v1 v2:List Int} (ha:a.len≤64) {X:List (Fp p)} (hX:∀c∈X,c.len≤64) {N k:Nat} {n5:Int} (hN:N≤1000) (hXN:X.length≤N) (hk:k<64):∀(r i:Nat) (Q:List (Fp p)),i+r=X.length→Q.length=N→(∀c∈Q,c.len≤64) →
 dn O 0 (.loop Z44_L0) ⟨[(2,.ptr 0 []),(3,.ptr 1 []),(5,(.d (.int .i64 n5))),(6,.sl 2 [] 0 N (some N)),(7,.d (aD X)),(8,(.d (.int .i64 k))),(9,(.d (.int .i64 i)))],[.box false (drD p (pad (row m)) v1 v2),.box false (D.arr 64 .leaf (ints .u8 (pad (row a)))),.sl false (.arr 64 .leaf) ((skP Q).map arr8),.hole]⟩ =
  some (.exit 2,⟨[(2,.ptr 0 []),(3,.ptr 1 []),(5,(.d (.int .i64 n5))),(6,.sl 2 [] 0 N (some N)),(7,.d (aD X)),(8,(.d (.int .i64 k))),(9,(.d (.int .i64 X.length))),(27,(.d (.bool false)))],[.box false (drD p (pad (row m)) v1 v2),.box false (D.arr 64 .leaf (ints .u8 (pad (row a)))),.sl false (.arr 64 .leaf) ((skP (spIn (Pol.C (a.c k)) i (X.drop i) Q)).map arr8),.hole]⟩)
 | 0,i,Q,hi,hq,hQ=>by
  obtain rfl:i=X.length:=by omega
  rw [List.drop_length]
  refine dn_stop ?_
  have hXL:=skA_len X
  show dn O 0 _ ⟨[_,_,_,_,(7,.d (.sl (.arr 64 .leaf) ((skP X).map arr8))),_,_],_⟩=some (_,(⟨[_,_,_,_,(7,.d (.sl (.arr 64 .leaf) ((skP X).map arr8))),_,_,_],[_,_,.sl false (.arr 64 .leaf) ((skP Q).map arr8),_]⟩:St))
  generalize (skP X).map arr8=XD at *
  generalize (skP Q).map arr8=QD at *
  simp -implicitDefEqProofs [Z44_L0,dn_cond,hXL]
 | r+1,i,Q,hi,hq,hQ=>by
  have hlt:i<X.length:=by omega
  have hiQ:i<Q.length:=by omega
  have hiN:i<N:=by omega
  have hx1:=hX _ (List.getElem_mem hlt)
  have hq1:=hQ _ (List.getElem_mem hiQ)
  have hXL:=skA_len X
  have hQL:((skP Q).map arr8).length=N:=(skA_len Q).trans hq
  have g1:=skA_getE hlt
  have g2:=skA_getE hiQ
  have hr:=rep_in (a.c k)
  have h7:=IsP.le (p:=p)
  have e1:=had p (rep (a.c k)) Q[i] X[i] (by omega) (by omega) hq1 hx1
  rw [zp_rep] at e1
  have hadd:addAt Q i (Pol.C (a.c k)*X[i])=Q.set i (Q[i]+Pol.C (a.c k)*X[i]):=by
   unfold addAt; rw [List.getElem?_eq_getElem hiQ]; rfl
  have hcl:(Pol.C (a.c k)*X[i]).len≤64:=Pol.len_le fun j hj=>by rw [Pol.c_Cmul,c_ge' (a:=X[i]) (n:=j) (by omega),Gq.mul_zero]
  have hQ':∀c∈addAt Q i (Pol.C (a.c k)*X[i]),c.len≤64:=addAt_lens hQ hcl
  have w4:IntKind.i64.wrap ((i:Int)+1)=((i+1:Nat):Int):=(w64 (x:=(i:Int)+1) (by omega)).trans (by omega)
  have hlt':(i:Int)<X.length:=by omega
  have hpl:(pad (row a)).length=64:=pad_length _
  have hpk:∀h:k<(pad (row a)).length,(pad (row a))[k]'h=rep (a.c k):=fun h=>by rw [←cf_lt h,pad_cf (by rw [row_length]; omega),row_cf]
  have hwr:=conv_rep (a.c k)
  have hby:spIn (Pol.C (a.c k)) i (X.drop i) Q=spIn (Pol.C (a.c k)) (i+1) (X.drop (i+1)) (addAt Q i (Pol.C (a.c k)*X[i])):=by
   rw [List.drop_eq_getElem_cons hlt]; rfl
  rw [hby]
  refine dn_round ?_ (l_sAct0 had (m:=m) (v1:=v1) (v2:=v2) ha hX hN hXN hk r (i+1) (addAt Q i (Pol.C (a.c k)*X[i])) (by omega) (by rw [addAt_length]; exact hq) hQ')
  rw [hadd,skA_set]
  show dn O 0 _ ⟨[_,_,_,_,(7,.d (.sl (.arr 64 .leaf) ((skP X).map arr8))),_,_],_⟩=some (_,(⟨[_,_,_,_,(7,.d (.sl (.arr 64 .leaf) ((skP X).map arr8))),_,_],_⟩:St))
  generalize pad (row (Q[i]+Pol.C (a.c k)*X[i]))=P1 at *
  generalize pad (row X[i])=P2 at *
  generalize pad (row Q[i])=P3 at *
  generalize (skP X).map arr8=XD at *
  generalize (skP Q).map arr8=QD at *
  generalize rep (a.c k)=ck at *
  generalize pad (row a)=Pa at *
  generalize pad (row m)=Pm at *
  simp -implicitDefEqProofs [Z44_L0,dn_cond,hXL,hQL,hlt,hlt',hiN,g1,g2,hk,hpl,hpk,hwr,e1,w4]
end Pe

namespace Pe
open Go Gq
variable {T:Nat→Option Fn} {A:Oracle}
theorem l_sAct0f {O:Oracle} (had:K_sAdd O) {p:Int} [IsP p] {m a:Fp p} {v1 v2:List Int} (ha:a.len≤64) {N:Nat} {n5:Int} (hN:N≤1000) (hN1:1≤N) {Q:List (Fp p)} (hq:Q.length=N) (hQ:∀c∈Q,c.len≤64) :
 dn O 0 (.loop Z44_L0) ⟨[(2,.ptr 0 []),(3,.ptr 1 []),(5,(.d (.int .i64 n5))),(6,.sl 2 [] 0 N (some N)),(7,.sl 3 [] 0 1 (some 1)),(8,(.d (.int .i64 0))),(9,(.d (.int .i64 0)))],[.box false (drD p (pad (row m)) v1 v2),.box false (D.arr 64 .leaf (ints .u8 (pad (row a)))),.sl false (.arr 64 .leaf) ((skP Q).map arr8),.sl false (.arr 64 .leaf) [(D.arr 64 .leaf (ints .u8 (pad (row (1:Fp p)))))]]⟩ =
  some (.exit 2,⟨[(2,.ptr 0 []),(3,.ptr 1 []),(5,(.d (.int .i64 n5))),(6,.sl 2 [] 0 N (some N)),(7,.sl 3 [] 0 1 (some 1)),(8,(.d (.int .i64 0))),(9,(.d (.int .i64 1))),(27,(.d (.bool false)))],[.box false (drD p (pad (row m)) v1 v2),.box false (D.arr 64 .leaf (ints .u8 (pad (row a)))),.sl false (.arr 64 .leaf) ((skP (spIn (Pol.C (a.c 0)) 0 [1] Q)).map arr8),.sl false (.arr 64 .leaf) [(D.arr 64 .leaf (ints .u8 (pad (row (1:Fp p)))))]]⟩):=by
 have hiQ:0<Q.length:=by omega
 have hiN:0<N:=by omega
 have hq1:=hQ _ (List.getElem_mem hiQ)
 have hQL:((skP Q).map arr8).length=N:=(skA_len Q).trans hq
 have g2:=skA_getE hiQ
 have hr:=rep_in (a.c 0)
 have h7:=IsP.le (p:=p)
 have e1:=had p (rep (a.c 0)) Q[0] 1 (by omega) (by omega) hq1 (by rw [Pol.len_one]; omega)
 rw [zp_rep] at e1
 have hadd:spIn (Pol.C (a.c 0)) 0 [1] Q=Q.set 0 (Q[0]+Pol.C (a.c 0)*1):=by
  show addAt Q 0 (Pol.C (a.c 0)*1)=_
  unfold addAt; rw [List.getElem?_eq_getElem hiQ]; rfl
 have w4:IntKind.i64.wrap 1=1:=w64 (by omega)
 have hpl:(pad (row a)).length=64:=pad_length _
 have hpk:∀h:0<(pad (row a)).length,(pad (row a))[0]'h=rep (a.c 0):=fun h=>by rw [←cf_lt h,pad_cf (by rw [row_length]; omega),row_cf]
 have hwr:=conv_rep (a.c 0)
 rw [hadd,skA_set]
 have stop:∀(QD:List D) (P1:D),dn O 0 (.loop Z44_L0) ⟨[(2,.ptr 0 []),(3,.ptr 1 []),(5,(.d (.int .i64 n5))),(6,.sl 2 [] 0 N (some N)),(7,.sl 3 [] 0 1 (some 1)),(8,(.d (.int .i64 0))),(9,(.d (.int .i64 1)))],[.box false (drD p (pad (row m)) v1 v2),.box false (D.arr 64 .leaf (ints .u8 (pad (row a)))),.sl false (.arr 64 .leaf) QD,.sl false (.arr 64 .leaf) [P1]]⟩ =
  some (.exit 2,⟨[(2,.ptr 0 []),(3,.ptr 1 []),(5,(.d (.int .i64 n5))),(6,.sl 2 [] 0 N (some N)),(7,.sl 3 [] 0 1 (some 1)),(8,(.d (.int .i64 0))),(9,(.d (.int .i64 1))),(27,(.d (.bool false)))],[.box false (drD p (pad (row m)) v1 v2),.box false (D.arr 64 .leaf (ints .u8 (pad (row a)))),.sl false (.arr 64 .leaf) QD,.sl false (.arr 64 .leaf) [P1]]⟩):=fun QD P1=>by
  refine dn_stop ?_
  generalize pad (row a)=Pa at *
  generalize pad (row m)=Pm at *
  simp -implicitDefEqProofs [Z44_L0,dn_cond]
 refine dn_round ?_ (stop _ _)
 generalize pad (row (Q[0]+Pol.C (a.c 0)*1))=P1 at *
 generalize pad (row (1:Fp p))=P2 at *
 generalize pad (row Q[0])=P3 at *
 generalize (skP Q).map arr8=QD at *
 generalize rep (a.c 0)=ck at *
 generalize pad (row a)=Pa at *
 generalize pad (row m)=Pm at *
 simp -implicitDefEqProofs [Z44_L0,dn_cond,hQL,hiN,g2,hpl,hpk,hwr,e1,w4]
theorem l_sAct1 {O:Oracle} (had:K_sAdd O) (ht:K_sT6 O) (hco:K_sComp O) {p:Int} [IsP p] {m g d a:Fp p} (hm:Fld m) (hg:g.len<m.len) (hd:d.len<m.len) (ha:a.len≤64) {N:Nat} (hN:N+1=2*a.len):∀(r k:Nat),k+r+1=a.len→∃X':V,
 dn O 0 (.loop Z44_L1) ⟨[(2,.ptr 0 []),(3,.ptr 1 []),(5,(.d (.int .i64 ((a.len:Int)-1)))),(6,.sl 2 [] 0 N (some N)),(7,.d (aD (nwS m (Pol.X%m) g d k))),(8,(.d (.int .i64 k)))],[.box false (drD p (pad (row m)) (pad (row g)) (pad (row d))),.box false (D.arr 64 .leaf (ints .u8 (pad (row a)))),.sl false (.arr 64 .leaf) ((skP (outS m (Pol.X%m) g d a N k)).map arr8),.hole]⟩ =
  some (.exit 0,⟨[(2,.ptr 0 []),(3,.ptr 1 []),(5,(.d (.int .i64 ((a.len:Int)-1)))),(6,.sl 2 [] 0 N (some N)),(7,X'),(8,(.d (.int .i64 a.len))),(21,(.d (.bool false)))],[.box false (drD p (pad (row m)) (pad (row g)) (pad (row d))),.box false (D.arr 64 .leaf (ints .u8 (pad (row a)))),.sl false (.arr 64 .leaf) ((skP (outS m (Pol.X%m) g d a N a.len)).map arr8),.hole]⟩)
 | r,k,hk=>by
  have h5:=hm.five
  have h0:=hm.mon.2
  have nl:=nwS_len h0 (Pol.X%m) g d k
  have nr:=nwS_lens hm (Pol.X%m) g d k
  have ol:=outS_length m (Pol.X%m) g d a N k
  have or_:=outS_lens hm (Pol.X%m) g d a N k
  have e1:=l_sAct0 (O:=O) had (m:=m) (v1:=pad (row g)) (v2:=pad (row d)) (n5:=(a.len:Int)-1) ha (X:=nwS m (Pol.X%m) g d k) (fun c hc=>by have:=nr c hc; omega) (N:=N) (k:=k) (by omega) (by omega) (by omega) (nwS m (Pol.X%m) g d k).length 0 (outS m (Pol.X%m) g d a N k) (Nat.zero_add _) ol (fun c hc=>by have:=or_ c hc; omega)
  rw [List.drop_zero,show spIn (Pol.C (a.c k)) 0 (nwS m (Pol.X%m) g d k) (outS m (Pol.X%m) g d a N k)=outS m (Pol.X%m) g d a N (k+1) from rfl,show ((0:Nat):Int)=0 from rfl] at e1
  have hle:(k:Int)≤(a.len:Int)-1:=by omega
  have w4:IntKind.i64.wrap ((k:Int)+1)=((k+1:Nat):Int):=(w64 (x:=(k:Int)+1) (by omega)).trans (by omega)
  have hXL:=nl
  match r with
  | 0=>
   have hk1:a.len=k+1:=by omega
   have hnlt:¬ (k:Int)<(a.len:Int)-1:=by omega
   have hnle:¬ ((k+1:Nat):Int)≤(a.len:Int)-1:=by omega
   refine ⟨.d (aD (nwS m (Pol.X%m) g d k)),?_⟩
   have stop:∀(QD:List D) (XD:D),dn O 0 (.loop Z44_L1) ⟨[(2,.ptr 0 []),(3,.ptr 1 []),(5,(.d (.int .i64 ((a.len:Int)-1)))),(6,.sl 2 [] 0 N (some N)),(7,.d XD),(8,(.d (.int .i64 (((k+1:Nat):Int)))))],[.box false (drD p (pad (row m)) (pad (row g)) (pad (row d))),.box false (D.arr 64 .leaf (ints .u8 (pad (row a)))),.sl false (.arr 64 .leaf) QD,.hole]⟩ =
    some (.exit 0,⟨[(2,.ptr 0 []),(3,.ptr 1 []),(5,(.d (.int .i64 ((a.len:Int)-1)))),(6,.sl 2 [] 0 N (some N)),(7,.d XD),(8,(.d (.int .i64 (((k+1:Nat):Int))))),(21,(.d (.bool false)))],[.box false (drD p (pad (row m)) (pad (row g)) (pad (row d))),.box false (D.arr 64 .leaf (ints .u8 (pad (row a)))),.sl false (.arr 64 .leaf) QD,.hole]⟩):=fun QD XD=>by
    refine dn_stop ?_
    generalize ((k+1:Nat):Int)=k1 at *
    generalize (a.len:Int)-1=n1 at *
    generalize pad (row a)=Pa at *
    generalize pad (row m)=Pm at *
    simp -implicitDefEqProofs [Z44_L1,dn_cond,hnle]
   rw [show outS m (Pol.X%m) g d a N a.len=outS m (Pol.X%m) g d a N (k+1) by rw [hk1],show ((a.len:Nat):Int)=((k+1:Nat):Int) by rw [hk1]]
   rw [show ((a.len:Nat):Int)=((k+1:Nat):Int) by rw [hk1]] at e1 stop hle hnlt hnle
   refine dn_round ?_ (stop _ _)
   generalize (skP (outS m (Pol.X%m) g d a N (k+1))).map arr8=Q2 at *
   generalize (skP (outS m (Pol.X%m) g d a N k)).map arr8=Q1 at *
   generalize aD (nwS m (Pol.X%m) g d k)=XD at *
   generalize ((k+1:Nat):Int)=k1 at *
   generalize pad (row a)=Pa at *
   generalize pad (row m)=Pm at *
   simp -implicitDefEqProofs [Z44_L1,dn_cond,hle,hnlt,e1,w4]
  | r+1=>
   have hlt:(k:Int)<(a.len:Int)-1:=by omega
   obtain ⟨X',ih⟩:=l_sAct1 had ht hco hm hg hd ha hN r (k+1) (by omega)
   have e2:=ht p m g d h0 (by omega)
   have e3:=hco p m (pad (row g)) (pad (row d)) [Pol.X%m,g,d] (nwS m (Pol.X%m) g d k) h0 (by omega) (fun c hc=>by have:=mem3 (Pol.len_mod Pol.X h0) hg hd c hc; omega) (fun c hc=>by have:=nr c hc; omega) (by simp only [List.length_cons,List.length_nil]; omega)
   rw [show cmpS m [Pol.X%m,g,d] (nwS m (Pol.X%m) g d k)=nwS m (Pol.X%m) g d (k+1) from rfl] at e3
   refine ⟨X',dn_round ?_ ih⟩
   unfold aD at e1 e2 e3 ⊢
   generalize (skP (outS m (Pol.X%m) g d a N (k+1))).map arr8=Q2 at *
   generalize (skP (outS m (Pol.X%m) g d a N k)).map arr8=Q1 at *
   generalize (skP (nwS m (Pol.X%m) g d (k+1))).map arr8=X2 at *
   generalize (skP (nwS m (Pol.X%m) g d k)).map arr8=XD at *
   generalize (skP [Pol.X%m,g,d]).map arr8=TD at *
   generalize ((k+1:Nat):Int)=k1 at *
   generalize (a.len:Int)-1=n1 at *
   generalize pad (row a)=Pa at *
   generalize pad (row m)=Pm at *
   generalize pad (row g)=Pg at *
   generalize pad (row d)=Pd at *
   simp -implicitDefEqProofs [Z44_L1,dn_cond,hle,hlt,e1,e2,e3,w4]
def K_sAction (O:Oracle):Prop:=∀(p:Int) [IsP p] (m g d a:Fp p),Fld m→g.len<m.len→d.len<m.len→a.len≤64→a≠0→ask O F44 [drD p (pad (row m)) (pad (row g)) (pad (row d)),(D.arr 64 .leaf (ints .u8 (pad (row a))))]=some (aD (outS m (Pol.X%m) g d a (2*a.len-1) a.len))
theorem k_sAction (hT:T F44=some Z44) (hdg:K_sDeg (den T A)) (h1:K_sOne (den T A)) (had:K_sAdd (den T A)) (ht:K_sT6 (den T A)) (hco:K_sComp (den T A)):K_sAction (den T A):=by
 intro p ip m g d a hm hg hd ha ha0
 have h5:=hm.five
 have h0:=hm.mon.2
 have hap:=Pol.len_pos ha0
 have e1:=hdg p a ha
 have e2:=h1 p
 have hN:(2*a.len-1)+1=2*a.len:=by omega
 have e3:=l_sAct0f (O:=den T A) had (m:=m) (v1:=pad (row g)) (v2:=pad (row d)) (n5:=(a.len:Int)-1) ha (N:=2*a.len-1) (by omega) (by omega) (Q:=outS m (Pol.X%m) g d a (2*a.len-1) 0) (outS_length _ _ _ _ _ _ _) (fun c hc=>by have:=outS_lens hm (Pol.X%m) g d a (2*a.len-1) 0 c hc; omega)
 rw [show spIn (Pol.C (a.c 0)) 0 [1] (outS m (Pol.X%m) g d a (2*a.len-1) 0)=outS m (Pol.X%m) g d a (2*a.len-1) 1 from rfl,show outS m (Pol.X%m) g d a (2*a.len-1) 0=List.replicate (2*a.len-1) 0 from rfl,skA_zeros] at e3
 have hOL:((skP (outS m (Pol.X%m) g d a (2*a.len-1) a.len)).map arr8).length=2*a.len-1:=by rw [skA_len,outS_length]
 have w1:IntKind.i64.wrap (2*((a.len:Int)-1))=2*((a.len:Int)-1):=w64 (by omega)
 have w2:IntKind.i64.wrap (2*((a.len:Int)-1)+1)=((2*a.len-1:Nat):Int):=(w64 (by omega)).trans (by omega)
 have hmax:¬ ((2*a.len-1:Nat):Int)<0:=by omega
 have hmul:(2*a.len-1)*64≤1099511627776:=by omega
 have htk:((skP (outS m (Pol.X%m) g d a (2*a.len-1) a.len)).map arr8).take (2*a.len-1)=(skP (outS m (Pol.X%m) g d a (2*a.len-1) a.len)).map arr8:=List.take_of_length_le (by omega)
 have hle:(0:Int)≤(a.len:Int)-1:=by omega
 have w4:IntKind.i64.wrap 1=1:=w64 (by omega)
 by_cases h1':a.len=1
 ·have hnlt:¬ (0:Int)<(a.len:Int)-1:=by omega
  have hnle:¬ (1:Int)≤(a.len:Int)-1:=by omega
  have e4:∀QD:List D,dn (den T A) 0 (.loop Z44_L1) ⟨[(2,.ptr 0 []),(3,.ptr 1 []),(5,(.d (.int .i64 ((a.len:Int)-1)))),(6,.sl 2 [] 0 (2*a.len-1) (some (2*a.len-1))),(7,.sl 3 [] 0 1 (some 1)),(8,(.d (.int .i64 1)))],[.box false (drD p (pad (row m)) (pad (row g)) (pad (row d))),.box false (D.arr 64 .leaf (ints .u8 (pad (row a)))),.sl false (.arr 64 .leaf) QD,.sl false (.arr 64 .leaf) [(D.arr 64 .leaf (ints .u8 (pad (row (1:Fp p)))))]]⟩ =
   some (.exit 0,⟨[(2,.ptr 0 []),(3,.ptr 1 []),(5,(.d (.int .i64 ((a.len:Int)-1)))),(6,.sl 2 [] 0 (2*a.len-1) (some (2*a.len-1))),(7,.sl 3 [] 0 1 (some 1)),(8,(.d (.int .i64 1))),(21,(.d (.bool false)))],[.box false (drD p (pad (row m)) (pad (row g)) (pad (row d))),.box false (D.arr 64 .leaf (ints .u8 (pad (row a)))),.sl false (.arr 64 .leaf) QD,.sl false (.arr 64 .leaf) [(D.arr 64 .leaf (ints .u8 (pad (row (1:Fp p)))))]]⟩):=fun QD=>by
   refine dn_stop ?_
   generalize (a.len:Int)-1=n1 at *
   generalize pad (row a)=Pa at *
   generalize pad (row m)=Pm at *
   generalize pad (row (1:Fp p))=P1 at *
   simp -implicitDefEqProofs [Z44_L1,dn_cond,hnle]
  have e5:dn (den T A) 0 (.loop Z44_L1) ⟨[(2,.ptr 0 []),(3,.ptr 1 []),(5,(.d (.int .i64 ((a.len:Int)-1)))),(6,.sl 2 [] 0 (2*a.len-1) (some (2*a.len-1))),(7,.sl 3 [] 0 1 (some 1)),(8,(.d (.int .i64 0)))],[.box false (drD p (pad (row m)) (pad (row g)) (pad (row d))),.box false (D.arr 64 .leaf (ints .u8 (pad (row a)))),.sl false (.arr 64 .leaf) (List.replicate (2*a.len-1) (D.arr 64 .leaf (ints .u8 (pad [])))),.sl false (.arr 64 .leaf) [(D.arr 64 .leaf (ints .u8 (pad (row (1:Fp p)))))]]⟩ =
   some (.exit 0,⟨[(2,.ptr 0 []),(3,.ptr 1 []),(5,(.d (.int .i64 ((a.len:Int)-1)))),(6,.sl 2 [] 0 (2*a.len-1) (some (2*a.len-1))),(7,.sl 3 [] 0 1 (some 1)),(8,(.d (.int .i64 1))),(21,(.d (.bool false)))],[.box false (drD p (pad (row m)) (pad (row g)) (pad (row d))),.box false (D.arr 64 .leaf (ints .u8 (pad (row a)))),.sl false (.arr 64 .leaf) ((skP (outS m (Pol.X%m) g d a (2*a.len-1) 1)).map arr8),.sl false (.arr 64 .leaf) [(D.arr 64 .leaf (ints .u8 (pad (row (1:Fp p)))))]]⟩):=by
   refine dn_round ?_ (e4 _)
   generalize (skP (outS m (Pol.X%m) g d a (2*a.len-1) 1)).map arr8=Q1 at *
   generalize List.replicate (2*a.len-1) (D.arr 64 .leaf (ints .u8 (pad [])))=Q0 at *
   generalize 2*a.len-1=N at *
   generalize (a.len:Int)-1=n1 at *
   generalize pad (row a)=Pa at *
   generalize pad (row m)=Pm at *
   generalize pad (row (1:Fp p))=P1 at *
   simp -implicitDefEqProofs [Z44_L1,dn_cond,hnlt,hle,e3,w4]
  rw [show outS m (Pol.X%m) g d a (2*a.len-1) 1=outS m (Pol.X%m) g d a (2*a.len-1) a.len by rw [h1']] at e5
  unfold aD
  refine ask_of hT rfl ?_
  generalize (skP (outS m (Pol.X%m) g d a (2*a.len-1) a.len)).map arr8=Q1 at *
  generalize 2*a.len-1=N at *
  generalize (a.len:Int)-1=n1 at *
  generalize pad (row a)=Pa at *
  generalize pad (row m)=Pm at *
  generalize pad (row (1:Fp p))=P1 at *
  simp -implicitDefEqProofs [Z44,Z44_B,e1,e2,e5,w1,w2,hmax,hmul,hOL,htk]
 ·have hlt:(0:Int)<(a.len:Int)-1:=by omega
  obtain ⟨X',e4⟩:=l_sAct1 (O:=den T A) had ht hco hm hg hd ha hN (a.len-2) 1 (by omega)
  rw [show ((1:Nat):Int)=1 from rfl] at e4
  have f2:=ht p m g d h0 (by omega)
  have f3:=hco p m (pad (row g)) (pad (row d)) [Pol.X%m,g,d] [1] h0 (by omega) (fun c hc=>by have:=mem3 (Pol.len_mod Pol.X h0) hg hd c hc; omega) (fun c hc=>by rw [List.mem_singleton.1 hc,Pol.len_one]; omega) (by simp only [List.length_cons,List.length_nil]; omega)
  rw [show cmpS m [Pol.X%m,g,d] [1]=nwS m (Pol.X%m) g d 1 from rfl,show aD [(1:Fp p)]=.sl (.arr 64 .leaf) [(D.arr 64 .leaf (ints .u8 (pad (row (1:Fp p)))))] from rfl] at f3
  unfold aD at e4 f2 f3 ⊢
  have e5:dn (den T A) 0 (.loop Z44_L1) ⟨[(2,.ptr 0 []),(3,.ptr 1 []),(5,(.d (.int .i64 ((a.len:Int)-1)))),(6,.sl 2 [] 0 (2*a.len-1) (some (2*a.len-1))),(7,.sl 3 [] 0 1 (some 1)),(8,(.d (.int .i64 0)))],[.box false (drD p (pad (row m)) (pad (row g)) (pad (row d))),.box false (D.arr 64 .leaf (ints .u8 (pad (row a)))),.sl false (.arr 64 .leaf) (List.replicate (2*a.len-1) (D.arr 64 .leaf (ints .u8 (pad [])))),.sl false (.arr 64 .leaf) [(D.arr 64 .leaf (ints .u8 (pad (row (1:Fp p)))))]]⟩ =
   some (.exit 0,⟨[(2,.ptr 0 []),(3,.ptr 1 []),(5,(.d (.int .i64 ((a.len:Int)-1)))),(6,.sl 2 [] 0 (2*a.len-1) (some (2*a.len-1))),(7,X'),(8,(.d (.int .i64 a.len))),(21,(.d (.bool false)))],[.box false (drD p (pad (row m)) (pad (row g)) (pad (row d))),.box false (D.arr 64 .leaf (ints .u8 (pad (row a)))),.sl false (.arr 64 .leaf) ((skP (outS m (Pol.X%m) g d a (2*a.len-1) a.len)).map arr8),.hole]⟩):=by
   refine dn_round ?_ e4
   generalize (skP (outS m (Pol.X%m) g d a (2*a.len-1) a.len)).map arr8=Q2 at *
   generalize (skP (outS m (Pol.X%m) g d a (2*a.len-1) 1)).map arr8=Q1 at *
   generalize (skP (nwS m (Pol.X%m) g d 1)).map arr8=XD at *
   generalize (skP [Pol.X%m,g,d]).map arr8=TD at *
   generalize List.replicate (2*a.len-1) (D.arr 64 .leaf (ints .u8 (pad [])))=Q0 at *
   generalize 2*a.len-1=N at *
   generalize (a.len:Int)-1=n1 at *
   generalize pad (row a)=Pa at *
   generalize pad (row m)=Pm at *
   generalize pad (row g)=Pg at *
   generalize pad (row d)=Pd at *
   generalize pad (row (1:Fp p))=P1 at *
   simp -implicitDefEqProofs [Z44_L1,dn_cond,hlt,hle,e3,f2,f3,w4]
  refine ask_of hT rfl ?_
  generalize (skP (outS m (Pol.X%m) g d a (2*a.len-1) a.len)).map arr8=Q1 at *
  generalize 2*a.len-1=N at *
  generalize (a.len:Int)-1=n1 at *
  generalize pad (row a)=Pa at *
  generalize pad (row m)=Pm at *
  generalize pad (row g)=Pg at *
  generalize pad (row d)=Pd at *
  generalize pad (row (1:Fp p))=P1 at *
  simp -implicitDefEqProofs [Z44,Z44_B,e1,e2,e5,w1,w2,hmax,hmul,hOL,htk]
theorem l_sNorm {O:Oracle} (hdg:K_sDeg O) (hup:K_sUp6 O) (hti:K_sTimes6 O) {p:Int} [IsP p] {m x:Fp p} {v1 v2:List Int} (hm:Fld m) (hx:x.len<m.len):∀(r i:Nat),i+r=m.len-1 →
 dn O 0 (.loop Z4d_L0) ⟨[(2,.ptr 0 []),(3,.ptr 1 []),(5,.ptr 2 []),(6,(.d (.int .i64 i)))],[.box false (drD p (pad (row m)) v1 v2),.box false (D.arr 64 .leaf (ints .u8 (pad (row x)))),.box false (D.arr 64 .leaf (ints .u8 (pad (row (nmS m x i)))))]⟩ =
  some (.exit 0,⟨[(2,.ptr 0 []),(3,.ptr 1 []),(5,.ptr 2 []),(6,(.d (.int .i64 (((m.len-1:Nat):Int))))),(12,(.d (.bool false)))],[.box false (drD p (pad (row m)) v1 v2),.box false (D.arr 64 .leaf (ints .u8 (pad (row x)))),.box false (D.arr 64 .leaf (ints .u8 (pad (row (nmS m x (m.len-1))))))]⟩)
 | 0,i,hi=>by
  have h5:=hm.five
  have h2:=hm.two
  obtain rfl:i=m.len-1:=by omega
  have e1:=hdg p m (by omega)
  rw [show (m.len:Int)-1=((m.len-1:Nat):Int) by omega] at e1
  refine dn_stop ?_
  generalize pad (row (nmS m x (m.len-1)))=P1 at *
  generalize pad (row x)=Px at *
  generalize pad (row m)=Pm at *
  generalize m.len-1=n at *
  simp -implicitDefEqProofs [Z4d_L0,dn_cond,e1]
 | r+1,i,hi=>by
  have h5:=hm.five
  have h2:=hm.two
  have h0:=hm.mon.2
  have e1:=hdg p m (by omega)
  rw [show (m.len:Int)-1=((m.len-1:Nat):Int) by omega] at e1
  have e2:=hup p m x v1 v2 i h0 (by omega) (by omega) (by omega)
  have f1:=frIt_len h0 i x hx
  have n1:=nmS_len hm x i
  have e3:=hti p m (nmS m x i) (frIt m i x) v1 v2 h0 (by omega) (by omega) (by omega)
  rw [show nmS m x i*frIt m i x%m=nmS m x (i+1) from rfl] at e3
  have hlt:i<m.len-1:=by omega
  have hlt':(i:Int)<((m.len-1:Nat):Int):=by omega
  have w4:IntKind.i64.wrap ((i:Int)+1)=((i+1:Nat):Int):=(w64 (x:=(i:Int)+1) (by omega)).trans (by omega)
  refine dn_round ?_ (l_sNorm hdg hup hti hm hx r (i+1) (by omega))
  generalize pad (row (nmS m x (i+1)))=P1 at *
  generalize pad (row (nmS m x i))=P2 at *
  generalize pad (row (frIt m i x))=P3 at *
  generalize pad (row x)=Px at *
  generalize pad (row m)=Pm at *
  generalize m.len-1=n at *
  simp -implicitDefEqProofs [Z4d_L0,dn_cond,hlt',e1,e2,e3,w4]
def K_sNorm (O:Oracle):Prop:=∀(p:Int) [IsP p] (m x:Fp p) (v1 v2:List Int),Fld m→x.len<m.len→ask O F4d [drD p (pad (row m)) v1 v2,(D.arr 64 .leaf (ints .u8 (pad (row x))))]=some (D.int .i64 (rep ((nmS m x (m.len-1)).c 0)))
theorem k_sNorm (hT:T F4d=some Z4d) (h1:K_sOne (den T A)) (hdg:K_sDeg (den T A)) (hup:K_sUp6 (den T A)) (hti:K_sTimes6 (den T A)):K_sNorm (den T A):=by
 intro p ip m x v1 v2 hm hx
 have h5:=hm.five
 have e1:=h1 p
 have e2:=l_sNorm (O:=den T A) hdg hup hti (v1:=v1) (v2:=v2) hm hx (m.len-1) 0 (by omega)
 rw [show nmS m x 0=1 from rfl,show ((0:Nat):Int)=0 from rfl] at e2
 have nl:=nmS_len hm x (m.len-1)
 have hpl:(pad (row (nmS m x (m.len-1)))).length=64:=pad_length _
 have hpk:∀h:0<(pad (row (nmS m x (m.len-1)))).length,(pad (row (nmS m x (m.len-1))))[0]'h=rep ((nmS m x (m.len-1)).c 0):=fun h=>by rw [←cf_lt h,pad_cf (by rw [row_length]; omega),row_cf]
 have hwr:=conv_rep ((nmS m x (m.len-1)).c 0)
 refine ask_of hT rfl ?_
 generalize rep ((nmS m x (m.len-1)).c 0)=v at *
 generalize pad (row (nmS m x (m.len-1)))=P1 at *
 generalize pad (row (1:Fp p))=P2 at *
 generalize pad (row x)=Px at *
 generalize pad (row m)=Pm at *
 generalize m.len-1=n at *
 simp -implicitDefEqProofs [Z4d,Z4d_B,e1,e2,hpl,hpk,hwr,List.replicate]
end Pe



namespace Pe
open Go Gq
variable {T:Nat→Option Fn} {A:Oracle}
section
variable {p:Int}
theorem frK_ne [IsP p] {m d:Fp p} (hm:Fld m) (hd:d.len<m.len) (hd0:d≠0):zp p (frK m d)≠0:=by
 obtain ⟨_,hn⟩:=norm_const hm hd0 hd
 have e:=finv_rep _ hn
 have h1:=Fd.inv_ne hn
 unfold frK
 split
 ·intro h
  rw [zp_neg,e] at h
  have h2:Fd.inv ((nmS m d (m.len-1)).c 0)=-(-Fd.inv ((nmS m d (m.len-1)).c 0)):=ring_of [Fd.inv ((nmS m d (m.len-1)).c 0)] rfl
  rw [h] at h2
  exact h1 (h2.trans (ring_of ([]:List (Zp p)) rfl))
 ·rw [e]; exact h1
theorem frB_len2 [IsP p] {m d:Fp p} (hm:Fld m) (hd:d.len<m.len) (hd0:d≠0):(frB m d).len=m.len:=Pol.len_Cmul (frK_ne hm hd hd0) m
theorem frA_len [IsP p] {m g d:Fp p} (hm:Fld m):(frA m g d).len<m.len:=by
 have h1:=Pol.len_pos hm.mon.2
 have:=mem_cS (A:=actN m (Pol.X%m) g d (frB m d) (frB m d).len (frB m d).len) (N:=m.len-1) (fun c hc=>by have:=actN_lens hm _ _ _ _ _ _ c hc; omega) (m.len-1)
 unfold frA
 omega
theorem rep_pos [IsP p] {c:Zp p} (h:c≠0):0<rep c:=by
 have h1:=rep_in c
 rcases Int.lt_or_eq_of_le h1.1 with h2 | h2
 ·exact h2
 ·exact absurd (by rw [←zp_rep c,←h2,zp_zero]) h
end
def K_sFrob6 (O:Oracle):Prop:=∀(p:Int) [IsP p] (m g d:Fp p),Fld m→g.len<m.len→d.len<m.len→d≠0→ask O F4b [drD p (pad (row m)) (pad (row g)) (pad (row d))]=some (.tup [(D.arr 64 .leaf (ints .u8 (pad (row (frA m g d))))),(D.arr 64 .leaf (ints .u8 (pad (row (frB m d)))))])
theorem k_sFrob6 (hT:T F4b=some Z4b) (hdg:K_sDeg (den T A)) (hno:K_sNorm (den T A)) (hin:K_sInverse (den T A)) (had:K_sAdd (den T A)) (hac:K_sAction (den T A)):K_sFrob6 (den T A):=by
 intro p ip m g d hm hg hd hd0
 have h5:=hm.five
 have h2:=hm.two
 have h0:=hm.mon.2
 have hp:2≤p:=by rcases IsP.h (p:=p) with h | h | h | h <;> omega
 have h7:=IsP.le (p:=p)
 obtain ⟨_,hn⟩:=norm_const hm hd0 hd
 have hr:=rep_in ((nmS m d (m.len-1)).c 0)
 have hrp:=rep_pos hn
 obtain ⟨k1,k2⟩:=frK_in (m:=m) (d:=d)
 have hiv:=ipow_in (p:=p) (n:=rep ((nmS m d (m.len-1)).c 0)) (by omega) (p-2).toNat
 have hbl:=frB_len2 hm hd hd0
 have hb0:frB m d≠0:=fun h=>by rw [h,Pol.len_zero] at hbl; omega
 have hal:=frA_len (g:=g) (d:=d) hm
 have e1:=hdg p m (by omega)
 rw [show (m.len:Int)-1=((m.len-1:Nat):Int) by omega] at e1
 have e2:=hno p m d (pad (row g)) (pad (row d)) hm hd
 have e3:=hin p (rep ((nmS m d (m.len-1)).c 0)) hrp hr.2
 have e4:=had p (frK m d) 0 m (by omega) (by omega) (by rw [Pol.len_zero]; omega) (by omega)
 rw [Gq.zero_add,show Pol.C (zp p (frK m d))*m=frB m d from rfl,row_zero] at e4
 have e5:=hac p m g d (frB m d) hm hg hd (by omega) hb0
 have hidx:m.len-1<(outS m (Pol.X%m) g d (frB m d) (2*(frB m d).len-1) (frB m d).len).length:=by rw [outS_length]; omega
 have hel:=skA_getE hidx
 have hea:(outS m (Pol.X%m) g d (frB m d) (2*(frB m d).len-1) (frB m d).len)[m.len-1]=frA m g d:=by
  rw [cS_lt hidx]
  exact (act_out hm (mem3 (Pol.len_mod _ h0) hg hd) (frB m d) (n:=(frB m d).len) (N:=2*(frB m d).len-1) (by omega) (m.len-1)).symm
 rw [hea] at hel
 have hOL:m.len-1<((skP (outS m (Pol.X%m) g d (frB m d) (2*(frB m d).len-1) (frB m d).len)).map arr8).length:=by rw [skA_len]; exact hidx
 have c1:IntKind.u8.wrap (rep ((nmS m d (m.len-1)).c 0))=rep ((nmS m d (m.len-1)).c 0):=w8 (by omega)
 unfold frK at e4 k1 k2
 unfold inv at e3 e4 k1 k2
 have c2:IntKind.i64.wrap (ipow p (rep ((nmS m d (m.len-1)).c 0)) (p-2).toNat)=ipow p (rep ((nmS m d (m.len-1)).c 0)) (p-2).toNat:=w64 (by omega)
 have hrem:Int.tmod ((m.len-1:Nat):Int) 2=(((m.len-1)%2:Nat):Int):=rfl
 unfold aD at e5
 refine ask_of hT rfl ?_
 generalize (skP (outS m (Pol.X%m) g d (frB m d) (2*(frB m d).len-1) (frB m d).len)).map arr8=D1 at *
 generalize pad (row (frA m g d))=R1 at *
 generalize pad (row (frB m d))=R2 at *
 generalize ipow p (rep ((nmS m d (m.len-1)).c 0)) (p-2).toNat=iv at *
 generalize rep ((nmS m d (m.len-1)).c 0)=nv at *
 generalize pad (row m)=Pm at *
 generalize pad (row g)=Pg at *
 generalize pad (row d)=Pd at *
 generalize m.len-1=n at *
 have w1:IntKind.i64.wrap (-iv)=-iv:=w64 (by omega)
 by_cases hodd:n%2=1
 ·rw [if_pos hodd] at e4
  rw [hodd] at hrem
  simp -implicitDefEqProofs [Z4b,Z4b_B,dn_cond,e1,e2,e3,e4,e5,hel,hOL,c1,c2,hrem,w1,List.replicate]
 ·rw [if_neg hodd] at e4
  rw [show n%2=0 by omega] at hrem
  simp -implicitDefEqProofs [Z4b,Z4b_B,dn_cond,e1,e2,e3,e4,e5,hel,hOL,c1,c2,hrem,List.replicate]
open Classical in
noncomputable def ssD (n:Int) (u v w:List Int):D:=
 if h:IsDr n u v w then
  haveI:IsP n:=h.choose
  .tup [(D.bool (decide ((frA (polOf n u) (polOf n v) (polOf n w)).len=0))),(D.int .i64 0)]
 else .tup [(D.bool false),(D.int .i64 1)]
theorem ssD_bad {n:Int} {u v w:List Int} (h:¬ IsDr n u v w):ssD n u v w=.tup [(D.bool false),(D.int .i64 1)]:=by unfold ssD; rw [dif_neg h]
theorem ssD_good {p:Int} [IsP p] {m g d:Fp p} (h:IsDr p (pad (row m)) (pad (row g)) (pad (row d))) (hm:m.len≤64) (hg:g.len≤64) (hd:d.len≤64):ssD p (pad (row m)) (pad (row g)) (pad (row d))=.tup [(D.bool (decide ((frA m g d).len=0))),(D.int .i64 0)]:=by
 unfold ssD
 rw [dif_pos h,polOf_pad hm,polOf_pad hg,polOf_pad hd]
open Classical in
theorem codeDr_nil {n:Int} {u v w:List Int}:codeDr n u v w []=if IsDr n u v w then 0 else 1:=by
 unfold codeDr
 by_cases h:IsDr n u v w
 ·rw [if_pos h,if_pos ⟨h,rfl⟩]
 ·rw [if_neg h,if_neg fun g=>h g.1]
def K_Ssing (O:Oracle) (F:Nat):Prop:=∀(n:Int) (u v w:List Int),Bytes u→u.length=64→Bytes v→v.length=64→Bytes w→w.length=64→ask O F [drD n u v w]=some (ssD n u v w)
open Classical in
theorem k_Ssing (hT:T Fi=some Zi) (hcd:C_drCode (den T A) Fv) (hfr:K_drFrob (den T A)):K_Ssing (den T A) Fi:=by
 intro n u v w bu gu bv gv bw gw
 have e1:=hcd n u v w [] bu gu bv gv bw gw (by intro y hy; cases hy) (by simp)
 rw [List.map_nil,codeDr_nil] at e1
 by_cases h:IsDr n u v w
 ·rw [if_pos h] at e1
  have h':=h
  obtain ⟨ip,m,g,d,rfl,rfl,rfl,hm,hg,hd,hd0⟩:=h
  have h5:=hm.five
  rw [ssD_good h' (by omega) (by omega) (by omega)]
  have e2:=hfr n m g d hm hg hd
  have hl:(row (frA m g d)).length=(frA m g d).len:=row_length _
  refine ask_of hT rfl ?_
  generalize (frA m g d).len=al at *
  generalize row (frA m g d)=R1 at *
  generalize row (frB m d)=R2 at *
  generalize pad (row m)=Pm at *
  generalize pad (row g)=Pg at *
  generalize pad (row d)=Pd at *
  simp -implicitDefEqProofs [Zi,Zi_B,dn_cond,e1,e2,hl]
 ·rw [if_neg h] at e1
  rw [ssD_bad h]
  refine ask_of hT rfl ?_
  simp -implicitDefEqProofs [Zi,Zi_B,dn_cond,e1]
open Classical in
theorem k_sSsing (hT:T F38=some Z38) (his:C_IsDr (den T A) F4c) (hfr:K_sFrob6 (den T A)):K_Ssing (den T A) F38:=by
 intro n u v w bu gu bv gv bw gw
 have e1:=his n u v w bu gu bv gv bw gw
 by_cases h:IsDr n u v w
 ·rw [decide_eq_true h] at e1
  have h':=h
  obtain ⟨ip,m,g,d,rfl,rfl,rfl,hm,hg,hd,hd0⟩:=h
  have h5:=hm.five
  rw [ssD_good h' (by omega) (by omega) (by omega)]
  have e2:=hfr n m g d hm hg hd hd0
  have hal:=frA_len (g:=g) (d:=d) hm
  have heq:=beq_P (l:=pad (row (frA m g d))) (m:=pad []) (pad_length _) (pad_length _)
  have hz:pad (row (frA m g d))=pad []↔(frA m g d).len=0:=by
   constructor
   ·intro hh
    have:=(pad_row_inj (a:=frA m g d) (b:=0) (by omega) (by rw [Pol.len_zero]; omega)).1 (by rw [hh,row_zero])
    rw [this,Pol.len_zero]
   ·intro hh
    have h0:frA m g d=0:=Classical.byContradiction fun h=>by have:=Pol.len_pos h; omega
    rw [h0,row_zero]
  rw [decide_eq_decide.2 hz] at heq
  refine ask_of hT rfl ?_
  generalize decide ((frA m g d).len=0)=bb at *
  generalize pad (row (frA m g d))=R1 at *
  generalize pad (row (frB m d))=R2 at *
  generalize pad (row m)=Pm at *
  generalize pad (row g)=Pg at *
  generalize pad (row d)=Pd at *
  simp -implicitDefEqProofs [Z38,Z38_B,dn_cond,e1,e2,heq,List.replicate]
 ·rw [decide_eq_false h] at e1
  rw [ssD_bad h]
  refine ask_of hT rfl ?_
  simp -implicitDefEqProofs [Z38,Z38_B,dn_cond,e1,List.replicate]
open Classical in
noncomputable def frD (n:Int) (u v w:List Int):D:=
 if h:IsDr n u v w then
  haveI:IsP n:=h.choose
  .tup [(D.arr 64 .leaf (ints .u8 (pad (row (frA (polOf n u) (polOf n v) (polOf n w)))))),(D.arr 64 .leaf (ints .u8 (pad (row (frB (polOf n u) (polOf n w)))))),(D.int .i64 0)]
 else .tup [(D.arr 64 .leaf (ints .u8 (pad []))),(D.arr 64 .leaf (ints .u8 (pad []))),(D.int .i64 1)]
theorem frD_bad {n:Int} {u v w:List Int} (h:¬ IsDr n u v w):frD n u v w=.tup [(D.arr 64 .leaf (ints .u8 (pad []))),(D.arr 64 .leaf (ints .u8 (pad []))),(D.int .i64 1)]:=by unfold frD; rw [dif_neg h]
theorem frD_good {p:Int} [IsP p] {m g d:Fp p} (h:IsDr p (pad (row m)) (pad (row g)) (pad (row d))) (hm:m.len≤64) (hg:g.len≤64) (hd:d.len≤64):frD p (pad (row m)) (pad (row g)) (pad (row d))=.tup [(D.arr 64 .leaf (ints .u8 (pad (row (frA m g d))))),(D.arr 64 .leaf (ints .u8 (pad (row (frB m d))))),(D.int .i64 0)]:=by
 unfold frD
 rw [dif_pos h,polOf_pad hm,polOf_pad hg,polOf_pad hd]
def K_FrobOf (O:Oracle) (F:Nat):Prop:=∀(n:Int) (u v w:List Int),Bytes u→u.length=64→Bytes v→v.length=64→Bytes w→w.length=64→ask O F [drD n u v w]=some (frD n u v w)
open Classical in
theorem k_FrobOf (hT:T Ff=some Zf) (hcd:C_drCode (den T A) Fv) (hfr:K_drFrob (den T A)) (hpo:K_poly (den T A)):K_FrobOf (den T A) Ff:=by
 intro n u v w bu gu bv gv bw gw
 have e1:=hcd n u v w [] bu gu bv gv bw gw (by intro y hy; cases hy) (by simp)
 rw [List.map_nil,codeDr_nil] at e1
 by_cases h:IsDr n u v w
 ·rw [if_pos h] at e1
  have h':=h
  obtain ⟨ip,m,g,d,rfl,rfl,rfl,hm,hg,hd,hd0⟩:=h
  have h5:=hm.five
  rw [frD_good h' (by omega) (by omega) (by omega)]
  have e2:=hfr n m g d hm hg hd
  have hal:=frA_len (g:=g) (d:=d) hm
  have hbl:=frB_len (m:=m) (d:=d)
  have e3:=hpo n (frA m g d) (by omega)
  have e4:=hpo n (frB m d) (by omega)
  refine ask_of hT rfl ?_
  generalize pad (row (frA m g d))=R1 at *
  generalize pad (row (frB m d))=R2 at *
  generalize row (frA m g d)=R3 at *
  generalize row (frB m d)=R4 at *
  generalize pad (row m)=Pm at *
  generalize pad (row g)=Pg at *
  generalize pad (row d)=Pd at *
  simp -implicitDefEqProofs [Zf,Zf_B,dn_cond,e1,e2,e3,e4,List.replicate]
 ·rw [if_neg h] at e1
  rw [frD_bad h]
  refine ask_of hT rfl ?_
  simp -implicitDefEqProofs [Zf,Zf_B,dn_cond,e1,List.replicate]
open Classical in
theorem k_sFrobOf (hT:T F37=some Z37) (his:C_IsDr (den T A) F4c) (hfr:K_sFrob6 (den T A)):K_FrobOf (den T A) F37:=by
 intro n u v w bu gu bv gv bw gw
 have e1:=his n u v w bu gu bv gv bw gw
 by_cases h:IsDr n u v w
 ·rw [decide_eq_true h] at e1
  have h':=h
  obtain ⟨ip,m,g,d,rfl,rfl,rfl,hm,hg,hd,hd0⟩:=h
  have h5:=hm.five
  rw [frD_good h' (by omega) (by omega) (by omega)]
  have e2:=hfr n m g d hm hg hd hd0
  refine ask_of hT rfl ?_
  generalize pad (row (frA m g d))=R1 at *
  generalize pad (row (frB m d))=R2 at *
  generalize pad (row m)=Pm at *
  generalize pad (row g)=Pg at *
  generalize pad (row d)=Pd at *
  simp -implicitDefEqProofs [Z37,Z37_B,dn_cond,e1,e2,List.replicate]
 ·rw [decide_eq_false h] at e1
  rw [frD_bad h]
  refine ask_of hT rfl ?_
  simp -implicitDefEqProofs [Z37,Z37_B,dn_cond,e1,List.replicate]
end Pe


namespace Pe
open Go Gq
variable {T:Nat→Option Fn} {A:Oracle}
section
variable {p:Int}
noncomputable def orP [IsP p] (m g d:Fp p):Fp p:=frB m d+Pol.C (zp p (-1))*frA m g d+1
theorem orP_c [IsP p] {m g d:Fp p} (hm:Fld m):(orP m g d).c (m.len-1)=(frB m d).c (m.len-1):=by
 have h2:=hm.two
 have ha:=frA_len (g:=g) (d:=d) hm
 have e1:(Pol.C (zp p (-1))*frA m g d).c (m.len-1)=0:=by rw [Pol.c_Cmul,c_ge' (by omega),Gq.mul_zero]
 have e2:(1:Fp p).c (m.len-1)=0:=c_ge' (by rw [Pol.len_one]; omega)
 show ((frB m d).c (m.len-1)+(Pol.C (zp p (-1))*frA m g d).c (m.len-1))+(1:Fp p).c (m.len-1)=_
 rw [e1,e2,Gq.add_zero,Gq.add_zero]
theorem orP_len [IsP p] {m g d:Fp p} (hm:Fld m) (hd:d.len<m.len) (hd0:d≠0):(orP m g d).len=m.len:=by
 have h2:=hm.two
 have ha:=frA_len (g:=g) (d:=d) hm
 have hb:=frB_len2 hm hd hd0
 have hb0:frB m d≠0:=fun h=>by rw [h,Pol.len_zero] at hb; omega
 have h1:(orP m g d).len≤m.len:=Pol.len_add_le (Pol.len_add_le (by omega) (Pol.len_le fun j hj=>by rw [Pol.c_Cmul,c_ge' (by omega),Gq.mul_zero])) (by rw [Pol.len_one]; omega)
 have h3:(orP m g d).c (m.len-1)≠0:=by
  rw [orP_c hm]
  have:=Pol.ld_ne hb0
  unfold Pol.ld at this
  rwa [hb] at this
 rcases Nat.lt_or_ge (orP m g d).len m.len with h | h
 ·exact absurd (c_ge' (by omega)) h3
 ·omega
noncomputable def orM [IsP p] (m g d:Fp p):Fp p:=Pol.C (Fd.inv (orP m g d).ld)*orP m g d
end
open Classical in
noncomputable def opoD (n:Int) (u v w:List Int):D:=
 if h:IsDr n u v w then
  haveI:IsP n:=h.choose
  .tup [(D.arr 64 .leaf (ints .u8 (pad (row (orM (polOf n u) (polOf n v) (polOf n w)))))),(D.int .i64 0)]
 else .tup [(D.arr 64 .leaf (ints .u8 (pad []))),(D.int .i64 1)]
theorem opoD_bad {n:Int} {u v w:List Int} (h:¬ IsDr n u v w):opoD n u v w=.tup [(D.arr 64 .leaf (ints .u8 (pad []))),(D.int .i64 1)]:=by unfold opoD; rw [dif_neg h]
theorem opoD_good {p:Int} [IsP p] {m g d:Fp p} (h:IsDr p (pad (row m)) (pad (row g)) (pad (row d))) (hm:m.len≤64) (hg:g.len≤64) (hd:d.len≤64):opoD p (pad (row m)) (pad (row g)) (pad (row d))=.tup [(D.arr 64 .leaf (ints .u8 (pad (row (orM m g d))))),(D.int .i64 0)]:=by
 unfold opoD
 rw [dif_pos h,polOf_pad hm,polOf_pad hg,polOf_pad hd]
def K_OrderP (O:Oracle) (F:Nat):Prop:=∀(n:Int) (u v w:List Int),Bytes u→u.length=64→Bytes v→v.length=64→Bytes w→w.length=64→ask O F [drD n u v w]=some (opoD n u v w)
open Classical in
theorem k_OrderP (hT:T Fl=some Zl) (hcd:C_drCode (den T A) Fv) (hfi:K_drField (den T A)) (hfr:K_drFrob (den T A)) (hco:K_combine (den T A)) (hld:C_lead (den T A)) (hin:C_inverse (den T A)) (hsc:K_scale (den T A)) (hto:C_told (den T A)):K_OrderP (den T A) Fl:=by
 intro n u v w bu gu bv gv bw gw
 have e1:=hcd n u v w [] bu gu bv gv bw gw (by intro y hy; cases hy) (by simp)
 rw [List.map_nil,codeDr_nil] at e1
 by_cases h:IsDr n u v w
 ·rw [if_pos h] at e1
  have h':=h
  obtain ⟨ip,m,g,d,rfl,rfl,rfl,hm,hg,hd,hd0⟩:=h
  have h5:=hm.five
  have h2:=hm.two
  have hp:2≤n:=by rcases IsP.h (p:=n) with h | h | h | h <;> omega
  have h7:=IsP.le (p:=n)
  rw [opoD_good h' (by omega) (by omega) (by omega)]
  have hal:=frA_len (g:=g) (d:=d) hm
  have hbl:=frB_len (m:=m) (d:=d)
  have hol:=orP_len (g:=g) hm hd hd0
  have ho0:orP m g d≠0:=fun h=>by rw [h,Pol.len_zero] at hol; omega
  have e2:=hfi n m (pad (row g)) (pad (row d)) (by omega)
  have e3:=hfr n m g d hm hg hd
  have e4:=hco n (-1) (frB m d) (frA m g d) (by omega) (by omega) (by omega) (by omega)
  have l4:(frB m d+Pol.C (zp n (-1))*frA m g d).len≤64:=Pol.len_add_le (by omega) (Pol.len_le fun j hj=>by rw [Pol.c_Cmul,c_ge' (by omega),Gq.mul_zero])
  have e5:=hco n 1 (frB m d+Pol.C (zp n (-1))*frA m g d) 1 (by omega) (by omega) (by omega) (by rw [Pol.len_one]; omega)
  rw [zp_one,Pol.C_one,Gq.one_mul,row_one,show ints .i64 [1]=[.int .i64 1] from rfl,show frB m d+Pol.C (zp n (-1))*frA m g d+1=orP m g d from rfl] at e5
  have e6:=hld (row (orP m g d)) (by rw [row_length]; omega)
  rw [ld_row] at e6
  have hr:=rep_in (orP m g d).ld
  have e7:=hin n (rep (orP m g d).ld) (by omega) (by omega) hr.1 hr.2
  have hii:=inv_in n (rep (orP m g d).ld)
  have e8:=hsc n (inv n (rep (orP m g d).ld)) (orP m g d) (by omega) (by omega) (by omega)
  rw [finv_rep _ (Pol.ld_ne ho0),show Pol.C (Fd.inv (orP m g d).ld)*orP m g d=orM m g d from rfl] at e8
  have hml:(orM m g d).len≤64:=Pol.len_le fun j hj=>by unfold orM; rw [Pol.c_Cmul,c_ge' (by omega),Gq.mul_zero]
  have e9:=hto (row (orM m g d)) (row_bytes _) (by rw [row_length]; omega)
  unfold toldD at e9
  rw [if_pos (by rw [row_length]; omega)] at e9
  have hfd:fldD m=.st [.leaf,.leaf] [(D.int .i64 n),(D.sl .leaf (ints .i64 (row m)))]:=rfl
  rw [hfd] at e2
  refine ask_of hT rfl ?_
  generalize pad (row (orM m g d))=P1 at *
  generalize row (orM m g d)=R1 at *
  generalize inv n (rep (orP m g d).ld)=iv at *
  generalize rep (orP m g d).ld=lv at *
  generalize row (orP m g d)=R2 at *
  generalize row (frB m d+Pol.C (zp n (-1))*frA m g d)=R3 at *
  generalize row (frA m g d)=R4 at *
  generalize row (frB m d)=R5 at *
  generalize pad (row m)=Pm at *
  generalize pad (row g)=Pg at *
  generalize pad (row d)=Pd at *
  generalize row m=Rm at *
  simp -implicitDefEqProofs [Zl,Zl_B,dn_cond,e1,e2,e3,e4,e5,e6,e7,e8,e9,List.replicate]
 ·rw [if_neg h] at e1
  rw [opoD_bad h]
  refine ask_of hT rfl ?_
  simp -implicitDefEqProofs [Zl,Zl_B,dn_cond,e1,List.replicate]
open Classical in
theorem k_sOrderP (hT:T F3a=some Z3a) (his:C_IsDr (den T A) F4c) (hfr:K_sFrob6 (den T A)) (h1:K_sOne (den T A)) (had:K_sAdd (den T A)) (hdg:K_sDeg (den T A)) (hin:K_sInverse (den T A)):K_OrderP (den T A) F3a:=by
 intro n u v w bu gu bv gv bw gw
 have e1:=his n u v w bu gu bv gv bw gw
 by_cases h:IsDr n u v w
 ·rw [decide_eq_true h] at e1
  have h':=h
  obtain ⟨ip,m,g,d,rfl,rfl,rfl,hm,hg,hd,hd0⟩:=h
  have h5:=hm.five
  have h2:=hm.two
  have hp:2≤n:=by rcases IsP.h (p:=n) with h | h | h | h <;> omega
  have h7:=IsP.le (p:=n)
  rw [opoD_good h' (by omega) (by omega) (by omega)]
  have hal:=frA_len (g:=g) (d:=d) hm
  have hbl:=frB_len (m:=m) (d:=d)
  have hol:=orP_len (g:=g) hm hd hd0
  have ho0:orP m g d≠0:=fun h=>by rw [h,Pol.len_zero] at hol; omega
  have e2:=hfr n m g d hm hg hd hd0
  have e3:=h1 n
  have e4:=had n (-1) 1 (frA m g d) (by omega) (by omega) (by rw [Pol.len_one]; omega) (by omega)
  have l4:(1+Pol.C (zp n (-1))*frA m g d).len≤64:=Pol.len_add_le (by rw [Pol.len_one]; omega) (Pol.len_le fun j hj=>by rw [Pol.c_Cmul,c_ge' (by omega),Gq.mul_zero])
  have e5:=had n 1 (1+Pol.C (zp n (-1))*frA m g d) (frB m d) (by omega) (by omega) l4 (by omega)
  have hcomm:1+Pol.C (zp n (-1))*frA m g d+frB m d=orP m g d:=by
   unfold orP
   exact ring_of [Pol.C (zp n (-1)),frA m g d,frB m d] rfl
  rw [zp_one,Pol.C_one,Gq.one_mul,hcomm] at e5
  have e6:=hdg n (orP m g d) (by omega)
  rw [show ((orP m g d).len:Int)-1=(((orP m g d).len-1:Nat):Int) by omega] at e6
  have hr:=rep_in (orP m g d).ld
  have e7:=hin n (rep (orP m g d).ld) (rep_pos (Pol.ld_ne ho0)) hr.2
  have hii:=inv_in n (rep (orP m g d).ld)
  have e8:=had n (inv n (rep (orP m g d).ld)) 0 (orP m g d) (by omega) (by omega) (by rw [Pol.len_zero]; omega) (by omega)
  rw [Gq.zero_add,finv_rep _ (Pol.ld_ne ho0),show Pol.C (Fd.inv (orP m g d).ld)*orP m g d=orM m g d from rfl,row_zero] at e8
  have hlt:(orP m g d).len-1<64:=by omega
  have hpl:(pad (row (orP m g d))).length=64:=pad_length _
  have hpk:∀h:(orP m g d).len-1<(pad (row (orP m g d))).length,(pad (row (orP m g d)))[(orP m g d).len-1]'h=rep (orP m g d).ld:=fun h=>by rw [←cf_lt h,pad_cf (by rw [row_length]; omega),row_cf]; rfl
  have hwr:IntKind.i64.wrap (inv n (rep (orP m g d).ld))=inv n (rep (orP m g d).ld):=w64 (by omega)
  refine ask_of hT rfl ?_
  generalize pad (row (orM m g d))=P1 at *
  generalize inv n (rep (orP m g d).ld)=iv at *
  generalize rep (orP m g d).ld=lv at *
  generalize pad (row (orP m g d))=P2 at *
  generalize pad (row (1+Pol.C (zp n (-1))*frA m g d))=P3 at *
  generalize pad (row (frA m g d))=P4 at *
  generalize pad (row (frB m d))=P5 at *
  generalize pad (row (1:Fp n))=P6 at *
  generalize pad (row m)=Pm at *
  generalize pad (row g)=Pg at *
  generalize pad (row d)=Pd at *
  generalize (orP m g d).len-1=k at *
  simp -implicitDefEqProofs [Z3a,Z3a_B,dn_cond,e1,e2,e3,e4,e5,e6,e7,e8,hlt,hpl,hpk,hwr,List.replicate]
 ·rw [decide_eq_false h] at e1
  rw [opoD_bad h]
  refine ask_of hT rfl ?_
  simp -implicitDefEqProofs [Z3a,Z3a_B,dn_cond,e1,List.replicate]
end Pe


namespace Pe
open Go Gq
variable {T:Nat→Option Fn} {A:Oracle}
open Classical in
noncomputable def daL (n:Int) (u v w a:List Int):List (List Int):=
 if h:IsDr n u v w∧isPl n a=true then
  haveI:IsP n:=h.1.choose
  if (polOf n a).len≤6 then skP (actN (polOf n u) (Pol.X%polOf n u) (polOf n v) (polOf n w) (polOf n a) (polOf n a).len (polOf n a).len) else []
 else []
open Classical in
noncomputable def daC (n:Int) (u v w a:List Int):Int:=
 if h:IsDr n u v w∧isPl n a=true then
  haveI:IsP n:=h.1.choose
  if (polOf n a).len≤6 then 0 else 2
 else 1
theorem daL_bad {n:Int} {u v w a:List Int} (h:¬ (IsDr n u v w∧isPl n a=true)):daL n u v w a=[]∧daC n u v w a=1:=by
 unfold daL daC
 exact ⟨dif_neg h,dif_neg h⟩
theorem daL_good {p:Int} [IsP p] {m g d a:Fp p} (h:IsDr p (pad (row m)) (pad (row g)) (pad (row d))) (hm:m.len≤64) (hg:g.len≤64) (hd:d.len≤64) (ha:a.len≤64) :
 daL p (pad (row m)) (pad (row g)) (pad (row d)) (pad (row a))=(if a.len≤6 then skP (actN m (Pol.X%m) g d a a.len a.len) else [])∧daC p (pad (row m)) (pad (row g)) (pad (row d)) (pad (row a))=(if a.len≤6 then 0 else 2):=by
 unfold daL daC
 rw [dif_pos ⟨h,isPl_row⟩,dif_pos ⟨h,isPl_row⟩,polOf_pad hm,polOf_pad hg,polOf_pad hd,polOf_pad ha]
 exact ⟨rfl,rfl⟩
theorem codeDr_one1 {n:Int} {u v w a:List Int} (h:¬ (IsDr n u v w∧isPl n a=true)):codeDr n u v w [a]=1:=by
 unfold codeDr
 rw [if_neg]
 rintro ⟨h1,h2⟩
 simp at h2
 exact h ⟨h1,h2⟩
theorem codeDr_zero1 {n:Int} {u v w a:List Int} (h1:IsDr n u v w) (h2:isPl n a=true):codeDr n u v w [a]=0:=by
 unfold codeDr
 rw [if_pos ⟨h1,by simp [h2]⟩]
def K_DrAct (O:Oracle) (F:Nat):Prop:=∀(n:Int) (u v w a:List Int),Bytes u→u.length=64→Bytes v→v.length=64→Bytes w→w.length=64→Bytes a→a.length=64→ask O F [drD n u v w,(D.arr 64 .leaf (ints .u8 a))]=some (.tup [.sl (.arr 64 .leaf) ((daL n u v w a).map arr8),(D.int .i64 (daC n u v w a))])
theorem k_DrAct (hT:T F8=some Z8) (hcd:C_drCode (den T A) Fv) (hro:K_rowOf (den T A)) (hdg:C_degree (den T A)) (hac:K_action (den T A)) (hpo:K_polys (den T A)):K_DrAct (den T A) F8:=by
 intro n u v w a bu gu bv gv bw gw ba ga
 have e1:=hcd n u v w [a] bu gu bv gv bw gw (by intro y hy; simp at hy; subst hy; exact ⟨ga,ba⟩) (by simp)
 rw [show List.map arr8 [a]=[(D.arr 64 .leaf (ints .u8 a))] from rfl] at e1
 by_cases h:IsDr n u v w∧isPl n a=true
 ·obtain ⟨h1,h2⟩:=h
  rw [codeDr_zero1 h1 h2] at e1
  have h1':=h1
  obtain ⟨ip,m,g,d,rfl,rfl,rfl,hm,hg,hd,hd0⟩:=h1
  obtain ⟨b,hbl,rfl⟩:=row_of_isPl ba ga h2
  have h5:=hm.five
  obtain ⟨q1,q2⟩:=daL_good h1' (by omega) (by omega) (by omega) hbl
  rw [q1,q2]
  have e2:=hro n b hbl
  have e3:=hdg (row b) (by rw [row_length]; omega)
  rw [row_length] at e3
  by_cases h6:b.len≤6
  ·rw [if_pos h6,if_pos h6]
   have hle:¬ 5<(b.len:Int)-1:=by omega
   have e4:=hac n m g d b hm hg hd hbl
   have hl:=actN_len m (Pol.X%m) g d b b.len b.len
   have e5:=hpo n (actN m (Pol.X%m) g d b b.len b.len) (by omega) (fun x hx=>by have:=actN_lens hm _ _ _ _ _ _ x hx; omega)
   rw [map_padD]
   rw [show skD (actN m (Pol.X%m) g d b b.len b.len)=.sl .leaf ((actN m (Pol.X%m) g d b b.len b.len).map rowD) from rfl] at e4
   refine ask_of hT rfl ?_
   generalize (actN m (Pol.X%m) g d b b.len b.len).map padD=D1 at *
   generalize (actN m (Pol.X%m) g d b b.len b.len).map rowD=D2 at *
   generalize (b.len:Int)-1=k1 at *
   generalize row b=Rb at *
   generalize pad (row b)=Pb at *
   generalize pad (row m)=Pm at *
   generalize pad (row g)=Pg at *
   generalize pad (row d)=Pd at *
   simp -implicitDefEqProofs [Z8,Z8_B,dn_cond,e1,e2,e3,hle,e4,e5]
  ·rw [if_neg h6,if_neg h6]
   have hle:5<(b.len:Int)-1:=by omega
   refine ask_of hT rfl ?_
   generalize (b.len:Int)-1=k1 at *
   generalize row b=Rb at *
   generalize pad (row b)=Pb at *
   generalize pad (row m)=Pm at *
   generalize pad (row g)=Pg at *
   generalize pad (row d)=Pd at *
   simp -implicitDefEqProofs [Z8,Z8_B,dn_cond,e1,e2,e3,hle]
 ·rw [codeDr_one1 h] at e1
  obtain ⟨q1,q2⟩:=daL_bad h
  rw [q1,q2]
  refine ask_of hT rfl ?_
  simp -implicitDefEqProofs [Z8,Z8_B,dn_cond,e1]
end Pe

namespace Pe
open Go Gq
section
variable {K:Type} [CR K]
theorem sumR_shift (f:Nat→K):∀n,sumR f (n+1)=f 0+sumR (fun i=>f (i+1)) n
 | 0=>by show 0+f 0=f 0+0; rw [Gq.add_zero,Gq.zero_add]
 | n+1=>by
  rw [sumR,sumR_shift f n,sumR]
  exact Gq.add_assoc _ _ _
theorem sumR_congr {f g:Nat→K}:∀{n:Nat},(∀i,i<n→f i=g i)→sumR f n=sumR g n
 | 0,_=>rfl
 | n+1,h=>by rw [sumR,sumR,sumR_congr fun i hi=>h i (by omega),h n (by omega)]
theorem pol_indK {P:Pol K→Prop} (h0:P 0) (h:∀c a,P a→P (Pol.C c+Pol.X*a)):∀(n:Nat) (a:Pol K),a.lt n→P a
 | 0,a,ha=>by rw [Pol.lt_zero.1 ha]; exact h0
 | n+1,a,ha=>by
  obtain ⟨m,hm⟩:=a.fin
  let b:Pol K:=⟨fun i=>a.c (i+1),m,fun i hi=>hm _ (by omega)⟩
  have e:a=Pol.C (a.c 0)+Pol.X*b:=Pol.ext fun i=>by
   rw [Pol.c_add,Pol.c_C,Pol.c_Xmul]
   cases i with
   | zero=>rw [if_pos rfl,if_pos rfl,Gq.add_zero]
   | succ i=>rw [if_neg (by omega),if_neg (by omega),Gq.zero_add]; rfl
  rw [e]
  exact h _ _ (pol_indK h0 h n b fun i hi=>ha _ (by omega))
theorem c_lin (θ:K) (h:Pol K) (i:Nat):((Pol.X-Pol.C θ)*h).c i=(if i=0 then 0 else h.c (i-1))-θ*h.c i:=by
 have e:(Pol.X-Pol.C θ)*h=Pol.X*h-Pol.C θ*h:=ring_of [Pol.X,Pol.C θ,h] rfl
 rw [e,Pol.c_sub,Pol.c_Xmul,Pol.c_Cmul]
theorem lin_cancel {θ:K} {h:Pol K} (e:(Pol.X-Pol.C θ)*h=0):h=0:=by
 obtain ⟨n,hn⟩:=h.fin
 have step:∀k,k≤n→∀i,n-k≤i→h.c i=0:=by
  intro k
  induction k with
  | zero=>intro _ i hi; exact hn i (by omega)
  | succ k ih=>
   intro hk i hi
   by_cases h1:n-k≤i
   ·exact ih (by omega) i h1
   ·have:=c_lin θ h (i+1)
    rw [e,if_neg (by omega),ih (by omega) (i+1) (by omega),Gq.mul_zero] at this
    have h2:h.c i-0=h.c i:=ring_of [h.c i] rfl
    rw [show i+1-1=i from rfl,h2] at this
    exact this.symm
 exact Pol.ext fun i=>step n (Nat.le_refl n) i (by omega)
theorem lin_root (θ:K) (h:Pol K):∀N,sumR (fun i=>((Pol.X-Pol.C θ)*h).c i*pw θ i) (N+1)=-(h.c N*pw θ (N+1))
 | 0=>by
  rw [sumR,sumR,c_lin,if_pos rfl,show pw θ 0=1 from rfl,show pw θ (0+1)=1*θ from rfl]
  exact ring_of [θ,h.c 0] rfl
 | N+1=>by
  rw [sumR,lin_root θ h N,c_lin,if_neg (by omega),show N+1-1=N from rfl,show pw θ (N+1+1)=pw θ (N+1)*θ from rfl]
  exact ring_of [h.c N,h.c (N+1),pw θ (N+1),θ] rfl
end
section
variable {p:Int} {m:Fp p}
noncomputable def tau (X:Nat→Quo m):Nat→Quo m
 | 0=>0
 | n+1=>sg 1 (X n)
theorem sg1_0 [IsP p]:sg 1 (0:Quo m)=0:=sg_zero 1
theorem sg1_neg [IsP p] (x:Quo m):sg 1 (-x)=-sg 1 x:=neg_of (by rw [←sg1_add,Gq.add_neg,sg1_0])
theorem lop_tau [IsP p] (t0 t1 t2:Quo m) (X:Nat→Quo m) (n:Nat):Lop t0 t1 t2 X n=t0*X n+t1*tau X n+t2*tau (tau X) n:=by
 match n with
 | 0=>simp only [Lop,tau,Gq.mul_zero,Gq.add_zero]
 | 1=>simp only [Lop,tau,sg1_0,Gq.mul_zero,Gq.add_zero]
 | k+2=>rfl
theorem tau_rop [IsP p] (t0 t1 t2:Quo m) (X:Nat→Quo m) (n:Nat):tau (Rop t0 t1 t2 X) n=Rop t0 t1 t2 (tau X) n:=by
 match n with
 | 0=>simp only [Rop,tau,Gq.zero_mul]
 | 1=>simp only [Rop,tau,sg1_mul,Gq.zero_mul,Gq.add_zero]
 | 2=>simp only [Rop,tau,sg1_mul,sg1_add,Gq.zero_mul,Gq.add_zero,sg1_sg]
 | k+3=>simp only [Rop,tau,sg1_mul,sg1_add,sg1_sg]
noncomputable def Rit (t0 t1 t2:Quo m):Nat→(Nat→Quo m)→Nat→Quo m
 | 0,X=>X
 | k+1,X=>Rop t0 t1 t2 (Rit t0 t1 t2 k X)
theorem rit_e0 (t0 t1 t2:Quo m):∀k,Rit t0 t1 t2 k e0=Rk t0 t1 t2 k
 | 0=>rfl
 | k+1=>by
  show Rop t0 t1 t2 (Rit t0 t1 t2 k e0)=Rop t0 t1 t2 (Rk t0 t1 t2 k)
  rw [rit_e0 t0 t1 t2 k]
theorem tau_rit [IsP p] (t0 t1 t2:Quo m) (X:Nat→Quo m):∀k,tau (Rit t0 t1 t2 k X)=Rit t0 t1 t2 k (tau X)
 | 0=>rfl
 | k+1=>by
  show tau (Rop t0 t1 t2 (Rit t0 t1 t2 k X))=Rop t0 t1 t2 (Rit t0 t1 t2 k (tau X))
  rw [←tau_rit t0 t1 t2 X k]
  funext n
  exact tau_rop t0 t1 t2 _ n
noncomputable def opP (t0 t1 t2:Quo m) (f:Pol (Quo m)) (X:Nat→Quo m) (n:Nat):Quo m:=sumR (fun i=>f.c i*Rit t0 t1 t2 i X n) f.len
variable {t0 t1 t2:Quo m}
theorem opP_eq {f:Pol (Quo m)} {N:Nat} (h:f.lt N) (X:Nat→Quo m) (n:Nat):opP t0 t1 t2 f X n=sumR (fun i=>f.c i*Rit t0 t1 t2 i X n) N:=by
 obtain ⟨k,rfl⟩:=Nat.exists_eq_add_of_le (Pol.len_le h)
 rw [sumR_more _ f.len fun i hi=>by rw [f.lt_len i hi,Gq.zero_mul]]
 rfl
theorem opP_add [IsP p] (f g:Pol (Quo m)) (X:Nat→Quo m) (n:Nat):opP t0 t1 t2 (f+g) X n=opP t0 t1 t2 f X n+opP t0 t1 t2 g X n:=by
 have hf:f.lt (max f.len g.len):=f.lt_len.mono (Nat.le_max_left _ _)
 have hg:g.lt (max f.len g.len):=g.lt_len.mono (Nat.le_max_right _ _)
 rw [opP_eq (Pol.lt_add hf hg),opP_eq hf,opP_eq hg,←sumR_add]
 exact sumR_congr fun i _=>by rw [Pol.c_add,Gq.add_mul]
theorem opP_Cmul [IsP p] (c:Quo m) (f:Pol (Quo m)) (X:Nat→Quo m) (n:Nat):opP t0 t1 t2 (Pol.C c*f) X n=c*opP t0 t1 t2 f X n:=by
 rw [opP_eq (Pol.lt_Cmul c f.lt_len),opP_eq f.lt_len,←sumR_mul]
 exact sumR_congr fun i _=>by rw [Pol.c_Cmul,Gq.mul_assoc]
theorem opP_one [IsP p] (X:Nat→Quo m) (n:Nat):opP t0 t1 t2 1 X n=X n:=by
 rw [opP_eq Pol.lt_one]
 show 0+1*X n=X n
 rw [Gq.zero_add,Gq.one_mul]
theorem opP_zero [IsP p] (X:Nat→Quo m) (n:Nat):opP t0 t1 t2 0 X n=0:=by
 rw [opP_eq (N:=0) (Pol.lt_zero' 0)]; rfl
theorem opP_C [IsP p] (c:Quo m) (X:Nat→Quo m) (n:Nat):opP t0 t1 t2 (Pol.C c) X n=c*X n:=by
 rw [show Pol.C c=Pol.C c*1 from (Gq.mul_one _).symm,opP_Cmul,opP_one]
theorem rop_sum (f:Nat→Quo m) (Y:Nat→Nat→Quo m) (n:Nat):∀N,Rop t0 t1 t2 (fun n=>sumR (fun i=>f i*Y i n) N) n=sumR (fun i=>f i*Rop t0 t1 t2 (Y i) n) N
 | 0=>op_zero t0 t1 t2 n
 | N+1=>by
  show Rop t0 t1 t2 (fun n=>sumR (fun i=>f i*Y i n) N+f N*Y N n) n=_
  rw [op_add,rop_sum f Y n N,op_smul]
  rfl
theorem opP_X [IsP p] (f:Pol (Quo m)) (Y:Nat→Quo m) (n:Nat):opP t0 t1 t2 (Pol.X*f) Y n=Rop t0 t1 t2 (opP t0 t1 t2 f Y) n:=by
 have h:(Pol.X*f).lt (f.len+1):=fun i hi=>by rw [Pol.c_Xmul,if_neg (by omega),f.lt_len _ (by omega)]
 have e:opP t0 t1 t2 f Y=fun n=>sumR (fun i=>f.c i*Rit t0 t1 t2 i Y n) f.len:=rfl
 rw [opP_eq h,sumR_shift,e,rop_sum]
 show (Pol.X*f).c 0*_+_=_
 rw [Pol.c_Xmul,if_pos rfl,Gq.zero_mul,Gq.zero_add]
 exact sumR_congr fun i _=>by rw [Pol.c_Xmul,if_neg (by omega)]; rfl
theorem opP_mul [IsP p] (g:Pol (Quo m)) (Y:Nat→Quo m) (f:Pol (Quo m)):∀n,opP t0 t1 t2 (f*g) Y n=opP t0 t1 t2 f (opP t0 t1 t2 g Y) n:=by
 refine pol_indK (P:=fun f=>∀n,opP t0 t1 t2 (f*g) Y n=opP t0 t1 t2 f (opP t0 t1 t2 g Y) n) ?_ (fun c a ha=>?_) _ f f.lt_len
 ·intro n; rw [Gq.zero_mul,opP_zero,opP_zero]
 ·intro n
  have e:(Pol.C c+Pol.X*a)*g=Pol.C c*g+Pol.X*(a*g):=ring_of [Pol.C c,Pol.X,a,g] rfl
  rw [e,opP_add,opP_Cmul,opP_X,opP_add,opP_C,opP_X,show opP t0 t1 t2 (a*g) Y=opP t0 t1 t2 a (opP t0 t1 t2 g Y) from funext ha]
theorem opP_fun (f:Pol (Quo m)) {X Y Z:Nat→Quo m} (h:∀n,Z n=X n+Y n) (n:Nat):opP t0 t1 t2 f Z n=opP t0 t1 t2 f X n+opP t0 t1 t2 f Y n:=by
 have hz:Z=fun n=>X n+Y n:=funext h
 subst hz
 have key:∀i n,Rit t0 t1 t2 i (fun n=>X n+Y n) n=Rit t0 t1 t2 i X n+Rit t0 t1 t2 i Y n:=by
  intro i
  induction i with
  | zero=>intro n; rfl
  | succ i ih=>
   intro n
   show Rop t0 t1 t2 (Rit t0 t1 t2 i (fun n=>X n+Y n)) n=_
   rw [show Rit t0 t1 t2 i (fun n=>X n+Y n)=fun n=>Rit t0 t1 t2 i X n+Rit t0 t1 t2 i Y n from funext ih,op_add]
   rfl
 unfold opP
 rw [←sumR_add]
 exact sumR_congr fun i _=>by rw [key,Gq.mul_add]
noncomputable def polS [IsP p] (f:Pol (Quo m)):Pol (Quo m):=⟨fun i=>sg 1 (f.c i),by
 obtain ⟨n,h⟩:=f.fin
 exact ⟨n,fun i hi=>by rw [h i hi,sg1_0]⟩⟩
theorem polS_c [IsP p] (f:Pol (Quo m)) (i:Nat):(polS f).c i=sg 1 (f.c i):=rfl
theorem polS_lt [IsP p] {f:Pol (Quo m)} {n:Nat} (h:f.lt n):(polS f).lt n:=fun i hi=>by rw [polS_c,h i hi,sg1_0]
theorem polS_add [IsP p] (f g:Pol (Quo m)):polS (f+g)=polS f+polS g:=Pol.ext fun i=>by rw [polS_c,Pol.c_add,sg1_add]; rfl
theorem polS_neg [IsP p] (f:Pol (Quo m)):polS (-f)=-polS f:=Pol.ext fun i=>by rw [polS_c,Pol.c_neg,sg1_neg]; rfl
theorem cv_sg [IsP p]:∀(n:Nat) (f g:Nat→Quo m),sg 1 (cv n f g)=cv n (fun i=>sg 1 (f i)) (fun i=>sg 1 (g i))
 | 0,f,g=>sg1_mul _ _
 | n+1,f,g=>by
  rw [cv,sg1_add,sg1_mul,cv_sg n]
  rfl
theorem polS_mul [IsP p] (f g:Pol (Quo m)):polS (f*g)=polS f*polS g:=Pol.ext fun i=>by
 rw [polS_c,Pol.c_mul,cv_sg]; rfl
theorem polS_one [IsP p]:polS (1:Pol (Quo m))=1:=Pol.ext fun i=>by
 rw [polS_c,Pol.c_one]
 split
 ·exact sg_one 1
 ·exact sg1_0
theorem polS_zero [IsP p]:polS (0:Pol (Quo m))=0:=Pol.ext fun _i=>sg1_0
theorem polS_C [IsP p] (c:Quo m):polS (Pol.C c)=Pol.C (sg 1 c):=Pol.ext fun i=>by
 rw [polS_c,Pol.c_C,Pol.c_C]
 split
 ·rfl
 ·exact sg1_0
theorem polS_X [IsP p]:polS (Pol.X:Pol (Quo m))=Pol.X:=Pol.ext fun i=>by
 rw [polS_c,Pol.c_X]
 split
 ·exact sg_one 1
 ·exact sg1_0
theorem sg_sum [IsP p] (f:Nat→Quo m):∀n,sg 1 (sumR f n)=sumR (fun i=>sg 1 (f i)) n
 | 0=>sg1_0
 | n+1=>by rw [sumR,sg1_add,sg_sum f n]; rfl
theorem sumR_zeros {f:Nat→Quo m}:∀{n:Nat},(∀i,i<n→f i=0)→sumR f n=0
 | 0,_=>rfl
 | n+1,h=>by rw [sumR,sumR_zeros fun i hi=>h i (by omega),h n (by omega),Gq.add_zero]
theorem tau_op [IsP p] (f:Pol (Quo m)) (Y:Nat→Quo m):∀n,tau (opP t0 t1 t2 f Y) n=opP t0 t1 t2 (polS f) (tau Y) n
 | 0=>by
  rw [opP_eq (polS_lt f.lt_len)]
  refine (sumR_zeros fun i _=>?_).symm
  rw [←tau_rit]
  show _*(0:Quo m)=0
  rw [Gq.mul_zero]
 | n+1=>by
  show sg 1 (opP t0 t1 t2 f Y n)=_
  rw [opP_eq (polS_lt f.lt_len),opP_eq f.lt_len,sg_sum]
  exact sumR_congr fun i _=>by
   rw [sg1_mul,←tau_rit]; rfl
noncomputable def PQ [IsP p] (u v:Pol (Quo m)):Nat→Pol (Quo m)×Pol (Quo m)
 | 0=>(1,0)
 | j+1=>(u*polS (PQ u v j).2,polS (PQ u v j).1+v*polS (PQ u v j).2)
theorem pq_three [IsP p] {u v:Nat→Pol (Quo m)} (hu:∀j,polS (u j)=u (j+1)) (hv:∀j,polS (v j)=v (j+1)):∀j,
 (PQ (u 0) (v 0) (j+2)).1=u j*(PQ (u 0) (v 0) j).1+v j*(PQ (u 0) (v 0) (j+1)).1∧(PQ (u 0) (v 0) (j+2)).2=u j*(PQ (u 0) (v 0) j).2+v j*(PQ (u 0) (v 0) (j+1)).2
 | 0=>by
  simp only [PQ,polS_one,polS_zero,Gq.mul_zero,Gq.add_zero,Gq.mul_one,Gq.zero_add]
  exact ⟨trivial,trivial⟩
 | j+1=>by
  obtain ⟨h1,h2⟩:=pq_three hu hv j
  have a1:∀k,(PQ (u 0) (v 0) (k+1)).1=u 0*polS (PQ (u 0) (v 0) k).2:=fun _=>rfl
  have a2:∀k,(PQ (u 0) (v 0) (k+1)).2=polS (PQ (u 0) (v 0) k).1+v 0*polS (PQ (u 0) (v 0) k).2:=fun _=>rfl
  constructor
  ·rw [show j+1+2=(j+2)+1 from rfl,a1 (j+2),h2,polS_add,polS_mul,polS_mul,hu,hv,a1 (j+1),a1 j]
   exact ring_of [u 0,u (j+1),v (j+1),polS (PQ (u 0) (v 0) j).2,polS (PQ (u 0) (v 0) (j+1)).2] rfl
  ·have r1:polS (PQ (u 0) (v 0) (j+2)).1=u (j+1)*polS (PQ (u 0) (v 0) j).1+v (j+1)*polS (PQ (u 0) (v 0) (j+1)).1:=by rw [h1,polS_add,polS_mul,polS_mul,hu,hv]
   have r2:polS (PQ (u 0) (v 0) (j+2)).2=u (j+1)*polS (PQ (u 0) (v 0) j).2+v (j+1)*polS (PQ (u 0) (v 0) (j+1)).2:=by rw [h2,polS_add,polS_mul,polS_mul,hu,hv]
   rw [show j+1+2=(j+2)+1 from rfl,a2 (j+2),r1,r2,show (PQ (u 0) (v 0) (j+1+1)).2=polS (PQ (u 0) (v 0) (j+1)).1+v 0*polS (PQ (u 0) (v 0) (j+1)).2 from rfl]
   generalize polS (PQ (u 0) (v 0) (j+1)).1=S1
   generalize polS (PQ (u 0) (v 0) (j+1)).2=S2
   rw [a2 j]
   exact ring_of [v 0,u (j+1),v (j+1),polS (PQ (u 0) (v 0) j).2,S2,polS (PQ (u 0) (v 0) j).1,S1] rfl
noncomputable def trF [IsP p] (u v:Pol (Quo m)) (d:Nat):Pol (Quo m):=(PQ u v d).1+(PQ u v (d+1)).2
noncomputable def dtF [IsP p] (u v:Pol (Quo m)) (d:Nat):Pol (Quo m):=(PQ u v d).1*(PQ u v (d+1)).2-(PQ u v d).2*(PQ u v (d+1)).1
theorem dtF_zero [IsP p] (u v:Pol (Quo m)):dtF u v 0=1:=by
 unfold dtF
 simp only [PQ,polS_one,polS_zero]
 exact ring_of [u,v] rfl
theorem polS_sub [IsP p] (f g:Pol (Quo m)):polS (f-g)=polS f-polS g:=by rw [Gq.sub_eq,polS_add,polS_neg,←Gq.sub_eq]
theorem dtF_left [IsP p] (u v:Pol (Quo m)) (j:Nat):dtF u v (j+1)=-(u*polS (dtF u v j)):=by
 have key:polS (dtF u v j)=polS (PQ u v j).1*polS (PQ u v (j+1)).2-polS (PQ u v j).2*polS (PQ u v (j+1)).1:=by
  unfold dtF; rw [polS_sub,polS_mul,polS_mul]
 have l1:dtF u v (j+1)=(PQ u v (j+1)).1*(polS (PQ u v (j+1)).1+v*polS (PQ u v (j+1)).2)-(PQ u v (j+1)).2*(u*polS (PQ u v (j+1)).2):=rfl
 rw [l1,key]
 generalize polS (PQ u v (j+1)).1=S1
 generalize polS (PQ u v (j+1)).2=S2
 rw [show (PQ u v (j+1)).1=u*polS (PQ u v j).2 from rfl,show (PQ u v (j+1)).2=polS (PQ u v j).1+v*polS (PQ u v j).2 from rfl]
 exact ring_of [u,v,S1,S2,polS (PQ u v j).1,polS (PQ u v j).2] rfl
theorem dtF_right [IsP p] {u v:Nat→Pol (Quo m)} (hu:∀j,polS (u j)=u (j+1)) (hv:∀j,polS (v j)=v (j+1)) (j:Nat):dtF (u 0) (v 0) (j+1)=-(u j*dtF (u 0) (v 0) j):=by
 obtain ⟨h1,h2⟩:=pq_three hu hv j
 unfold dtF
 rw [show j+1+1=j+2 from rfl,h1,h2]
 exact ring_of [u j,v j,(PQ (u 0) (v 0) j).1,(PQ (u 0) (v 0) j).2,(PQ (u 0) (v 0) (j+1)).1,(PQ (u 0) (v 0) (j+1)).2] rfl
theorem neg_inj {R:Type} [CR R] {a b:R} (h:-a=-b):a=b:=by rw [←Gq.neg_neg a,h,Gq.neg_neg]
theorem trF_fix [IsP p] {u v:Nat→Pol (Quo m)} (hu:∀j,polS (u j)=u (j+1)) (hv:∀j,polS (v j)=v (j+1)) (hc:∀f g:Pol (Quo m),u 0*f=u 0*g→f=g) {d:Nat} (ud:u d=u 0) (vd:v d=v 0):polS (trF (u 0) (v 0) d)=trF (u 0) (v 0) d:=by
 obtain ⟨h1,-⟩:=pq_three hu hv d
 have a1:∀k,(PQ (u 0) (v 0) (k+1)).1=u 0*polS (PQ (u 0) (v 0) k).2:=fun _=>rfl
 have a2:∀k,(PQ (u 0) (v 0) (k+1)).2=polS (PQ (u 0) (v 0) k).1+v 0*polS (PQ (u 0) (v 0) k).2:=fun _=>rfl
 rw [ud,vd,a1 (d+1),a1 d] at h1
 have h2:polS (PQ (u 0) (v 0) (d+1)).2=(PQ (u 0) (v 0) d).1+v 0*polS (PQ (u 0) (v 0) d).2:=by
  refine hc _ _ (h1.trans ?_)
  exact ring_of [u 0,v 0,(PQ (u 0) (v 0) d).1,polS (PQ (u 0) (v 0) d).2] rfl
 unfold trF
 rw [polS_add,h2,a2 d]
 exact ring_of [v 0,(PQ (u 0) (v 0) d).1,polS (PQ (u 0) (v 0) d).2,polS (PQ (u 0) (v 0) d).1] rfl
theorem dtF_fix [IsP p] {u v:Nat→Pol (Quo m)} (hu:∀j,polS (u j)=u (j+1)) (hv:∀j,polS (v j)=v (j+1)) (hc:∀f g:Pol (Quo m),u 0*f=u 0*g→f=g) {d:Nat} (ud:u d=u 0):polS (dtF (u 0) (v 0) d)=dtF (u 0) (v 0) d:=by
 have h1:=dtF_left (u 0) (v 0) d
 have h2:=dtF_right hu hv d
 rw [ud] at h2
 exact hc _ _ (neg_inj (h1.symm.trans h2))
theorem pq_lt [IsP p] {u v:Pol (Quo m)} (hu:u.lt 2) (hv:v.lt 1):∀j,(PQ u v j).1.lt (j/2+1)∧(PQ u v j).2.lt ((j+1)/2)
 | 0=>⟨Pol.lt_one,Pol.lt_zero' _⟩
 | j+1=>by
  obtain ⟨h1,h2⟩:=pq_lt hu hv j
  refine ⟨(Pol.lt_mul hu (polS_lt h2)).mono (by omega),Pol.lt_add ((polS_lt h1).mono (by omega)) ((Pol.lt_mul hv (polS_lt h2)).mono (by omega))⟩
theorem trF_lt [IsP p] {u v:Pol (Quo m)} (hu:u.lt 2) (hv:v.lt 1) (d:Nat):(trF u v d).lt (d/2+1):=
 Pol.lt_add (pq_lt hu hv d).1 ((pq_lt hu hv (d+1)).2.mono (by omega))
noncomputable def tauN:Nat→(Nat→Quo m)→Nat→Quo m
 | 0,X=>X
 | k+1,X=>tau (tauN k X)
theorem tauN_val [IsP p] (X:Nat→Quo m):∀k n,tauN k X n=if n<k then 0 else sg k (X (n-k))
 | 0,n=>by rw [if_neg (by omega)]; rfl
 | k+1,0=>by rw [if_pos (by omega)]; rfl
 | k+1,n+1=>by
  show sg 1 (tauN k X n)=_
  rw [tauN_val X k n]
  by_cases h:n<k
  ·rw [if_pos h,if_pos (by omega),sg1_0]
  ·rw [if_neg h,if_neg (by omega),sg1_sg,show n+1-(k+1)=n-k by omega]
theorem tauN_pq [IsP p] {u v:Pol (Quo m)} (h:∀n,tau (tau e0) n=opP t0 t1 t2 u e0 n+opP t0 t1 t2 v (tau e0) n):∀j n,tauN j e0 n=opP t0 t1 t2 (PQ u v j).1 e0 n+opP t0 t1 t2 (PQ u v j).2 (tau e0) n
 | 0,n=>by
  show e0 n=opP t0 t1 t2 1 e0 n+opP t0 t1 t2 0 (tau e0) n
  rw [opP_one,opP_zero,Gq.add_zero]
 | j+1,n=>by
  have ih:=tauN_pq h j
  show tau (tauN j e0) n=_
  have e1:∀n,tau (tauN j e0) n=tau (opP t0 t1 t2 (PQ u v j).1 e0) n+tau (opP t0 t1 t2 (PQ u v j).2 (tau e0)) n:=by
   intro n
   cases n with
   | zero=>show (0:Quo m)=0+0; rw [Gq.add_zero]
   | succ n=>show sg 1 _=sg 1 _+sg 1 _; rw [ih n,sg1_add]
  rw [e1,tau_op,tau_op,opP_fun _ h]
  show _=opP t0 t1 t2 (u*polS (PQ u v j).2) e0 n+opP t0 t1 t2 (polS (PQ u v j).1+v*polS (PQ u v j).2) (tau e0) n
  rw [show u*polS (PQ u v j).2=polS (PQ u v j).2*u from Gq.mul_comm _ _,show v*polS (PQ u v j).2=polS (PQ u v j).2*v from Gq.mul_comm _ _,opP_add,opP_mul,opP_mul]
  exact ring_of [opP t0 t1 t2 (polS (PQ u v j).1) (tau e0) n,opP t0 t1 t2 (polS (PQ u v j).2) (opP t0 t1 t2 u e0) n,opP t0 t1 t2 (polS (PQ u v j).2) (opP t0 t1 t2 v (tau e0)) n] rfl
theorem tauN_op [IsP p] {d:Nat} (hd:∀x:Quo m,sg d x=x) (f:Pol (Quo m)) (Y:Nat→Quo m) (n:Nat):tauN d (opP t0 t1 t2 f Y) n=opP t0 t1 t2 f (tauN d Y) n:=by
 have key:∀i,tauN d (Rit t0 t1 t2 i Y)=Rit t0 t1 t2 i (tauN d Y):=by
  intro i
  clear hd
  induction d with
  | zero=>rfl
  | succ d ih=>
   show tau (tauN d _)=Rit t0 t1 t2 i (tau (tauN d Y))
   rw [ih,tau_rit]
 rw [tauN_val]
 unfold opP
 by_cases h:n<d
 ·rw [if_pos h]
  refine (sumR_zeros fun i _=>?_).symm
  rw [←key,tauN_val,if_pos h,Gq.mul_zero]
 ·rw [if_neg h,hd]
  exact sumR_congr fun i _=>by rw [←key,tauN_val,if_neg h,hd]
theorem tauN_tauN (a b:Nat) (X:Nat→Quo m):tauN a (tauN b X)=tauN (a+b) X:=by
 induction a with
 | zero=>rw [Nat.zero_add]; rfl
 | succ a ih=>
  show tau (tauN a (tauN b X))=_
  rw [ih,show a+1+b=(a+b)+1 by omega]
  rfl
theorem frob_cayley [IsP p] {u v:Pol (Quo m)} (h:∀n,tau (tau e0) n=opP t0 t1 t2 u e0 n+opP t0 t1 t2 v (tau e0) n) {d:Nat} (hd:∀x:Quo m,sg d x=x) (n:Nat) :
 tauN (d+d) e0 n-opP t0 t1 t2 (trF u v d) (tauN d e0) n+opP t0 t1 t2 (dtF u v d) e0 n=0:=by
 have e1:=tauN_pq h d
 have e2:=tauN_pq h (d+1)
 have e3:∀n,tauN d (tauN d e0) n=opP t0 t1 t2 (PQ u v d).1 (tauN d e0) n+opP t0 t1 t2 (PQ u v d).2 (tauN d (tau e0)) n:=by
  intro n
  rw [←tauN_op hd,←tauN_op hd,tauN_val (tauN d e0) d n,tauN_val (opP t0 t1 t2 (PQ u v d).1 e0) d n,tauN_val (opP t0 t1 t2 (PQ u v d).2 (tau e0)) d n]
  split
  ·rw [Gq.add_zero]
  ·rw [hd,hd,hd,e1]
 have e4:tauN d (tau e0)=tauN (d+1) (e0:Nat→Quo m):=by
  rw [show (tau e0:Nat→Quo m)=tauN 1 e0 from rfl,tauN_tauN]
 rw [←tauN_tauN,e3,e4,opP_fun _ e1,opP_fun _ e2,opP_fun _ e1]
 rw [←opP_mul,←opP_mul,←opP_mul,←opP_mul,←opP_mul,←opP_mul]
 unfold trF dtF
 generalize (PQ u v d).1=P
 generalize (PQ u v d).2=Q
 generalize (PQ u v (d+1)).1=R
 generalize (PQ u v (d+1)).2=S
 rw [show (P+S)*P=P*P+P*S from ring_of [P,S] rfl,show (P+S)*Q=P*Q+Q*S from ring_of [P,Q,S] rfl,Gq.sub_eq (P*S),opP_add,opP_add,opP_add]
 have hn:∀f:Pol (Quo m),opP t0 t1 t2 (-f) e0 n=-opP t0 t1 t2 f e0 n:=fun f=>neg_of (by rw [←opP_add,Gq.add_neg,opP_zero])
 rw [hn]
 exact ring_of [opP t0 t1 t2 (P*P) e0 n,opP t0 t1 t2 (P*Q) (tau e0) n,opP t0 t1 t2 (Q*R) e0 n,opP t0 t1 t2 (Q*S) (tau e0) n,opP t0 t1 t2 (P*S) e0 n] rfl
end
end Pe

namespace Pe
open Go Gq
section
variable {p:Int} {m:Fp p}
theorem mk_sum:∀(N:Nat) (a:Fp p),a.lt N→Quo.mk m a=sumR (fun i=>Quo.mk m (Pol.C (a.c i))*pw (Quo.mk m Pol.X) i) N
 | 0,a,h=>by rw [Pol.lt_zero.1 h]; rfl
 | N+1,a,h=>by
  obtain ⟨k,hk⟩:=a.fin
  let b:Fp p:=⟨fun i=>a.c (i+1),k,fun i hi=>hk _ (by omega)⟩
  have e:a=Pol.C (a.c 0)+Pol.X*b:=Pol.ext fun i=>by
   rw [Pol.c_add,Pol.c_C,Pol.c_Xmul]
   cases i with
   | zero=>rw [if_pos rfl,if_pos rfl,Gq.add_zero]
   | succ i=>rw [if_neg (by omega),if_neg (by omega),Gq.zero_add]; rfl
  have ih:=mk_sum N b fun i hi=>h _ (by omega)
  rw [sumR_shift]
  have e2:Quo.mk m a=Quo.mk m (Pol.C (a.c 0))+Quo.mk m Pol.X*Quo.mk m b:=by rw [←Quo.mk_mul,←Quo.mk_add,←e]
  rw [e2,ih,←sumR_mul]
  show _=Quo.mk m (Pol.C (a.c 0))*1+_
  rw [Gq.mul_one]
  congr 1
  exact sumR_congr fun i _=>by
   show Quo.mk m Pol.X*(Quo.mk m (Pol.C (a.c (i+1)))*pw (Quo.mk m Pol.X) i)=Quo.mk m (Pol.C (a.c (i+1)))*(pw (Quo.mk m Pol.X) i*Quo.mk m Pol.X)
   exact ring_of [Quo.mk m Pol.X,Quo.mk m (Pol.C (a.c (i+1))),pw (Quo.mk m Pol.X) i] rfl
theorem const_ex [IsP p] (hm:Fld m) {x:Quo m} (h:sg 1 x=x):∃c:Zp p,x=Quo.mk m (Pol.C c):=by
 obtain ⟨a,rfl⟩:=Quo.ex x
 have h0:=hm.mon.2
 have e:Quo.mk m (a%m)=Quo.mk m a:=Pol.mk_mod a m
 have h1:=fix_const hm (Pol.len_mod a h0) (by rw [e]; exact h)
 exact ⟨(a%m).c 0,by rw [←e,←Pol.eq_C (Pol.lt_iff.2 h1)]⟩
theorem descend [IsP p] (hm:Fld m) {f:Pol (Quo m)} (h:polS f=f) {N:Nat} (hN:f.lt N):∃a:Fp p,a.lt N∧∀i,f.c i=Quo.mk m (Pol.C (a.c i)):=by
 have hc:∀i,∃c:Zp p,f.c i=Quo.mk m (Pol.C c):=fun i=>const_ex hm (congrArg (fun g=>Pol.c g i) h)
 refine ⟨⟨fun i=>if i<N then Classical.choose (hc i) else 0,N,fun i hi=>if_neg (by omega)⟩,fun i hi=>if_neg (by omega),fun i=>?_⟩
 show _=Quo.mk m (Pol.C (if i<N then Classical.choose (hc i) else 0))
 by_cases hi:i<N
 ·rw [if_pos hi]; exact Classical.choose_spec (hc i)
 ·rw [if_neg hi,hN i (by omega),Pol.C_zero]; rfl
theorem mkC_inj [IsP p] (hm:Fld m) {a b:Zp p} (h:Quo.mk m (Pol.C a)=Quo.mk m (Pol.C b)):a=b:=by
 have h2:=hm.two
 have e:=(Pol.mod_eq_iff hm.mon.2).2 h
 have hl:∀c:Zp p,(Pol.C c).len<m.len:=fun c=>by have:=const_len c; omega
 rw [Pol.mod_small (hl a),Pol.mod_small (hl b)] at e
 exact Pol.C_inj e
theorem sg_full [IsP p] (hm:Fld m) (x:Quo m):sg (m.len-1) x=x:=by
 obtain ⟨a,rfl⟩:=Quo.ex x
 have h0:=hm.mon.2
 rw [←Pol.mk_mod a m,←sg_mk,←frIt_mod hm _ (Pol.len_mod a h0),Nat.mod_self]
 rfl
theorem sg_mul_k (k:Nat):∀x y:Quo m,sg k (x*y)=sg k x*sg k y:=by
 induction k with
 | zero=>intro x y; rfl
 | succ k ih=>intro x y; rw [sg_succ,sg_succ,sg_succ,ih]; exact pw_mul _ _ _
end
structure FrobSaid {p:Int} [IsP p] (m g d:Fp p):Prop where
 lt:(frA m g d).lt ((m.len-1)/2+1)
 eq:∀n,(if n=2*(m.len-1) then 1 else 0)-(if n<m.len-1 then 0 else sumR (fun i=>Quo.mk m (Pol.C ((frA m g d).c i))*Rk (Quo.mk m Pol.X) (Quo.mk m g) (Quo.mk m d) i (n-(m.len-1))) ((m.len-1)/2+1))+sumR (fun i=>Quo.mk m (Pol.C ((frB m d).c i))*Rk (Quo.mk m Pol.X) (Quo.mk m g) (Quo.mk m d) i n) m.len=0
section
variable {p:Int} {m g d:Fp p}
theorem tauN_e0 [IsP p] (k n:Nat):tauN k (e0:Nat→Quo m) n=if n=k then 1 else 0:=by
 rw [tauN_val]
 by_cases h:n<k
 ·rw [if_pos h,if_neg (by omega)]
 ·rw [if_neg h]
  by_cases h2:n=k
  ·rw [if_pos h2,show n-k=0 by omega]; exact sg_one k
  ·rw [if_neg h2,show n-k=(n-k-1)+1 by omega]; exact sg_zero k
theorem rk_at0 (t0 t1 t2:Quo m):∀k,Rk t0 t1 t2 k 0=pw t0 k
 | 0=>rfl
 | k+1=>by
  show Rk t0 t1 t2 k 0*t0=pw t0 k*t0
  rw [rk_at0 t0 t1 t2 k]
theorem hsum_sumR (t0 t1 t2:Quo m) (c:Nat→Quo m) (n:Nat):∀N,hsum t0 t1 t2 c 0 N n=sumR (fun i=>c i*Rk t0 t1 t2 i n) N
 | 0=>rfl
 | N+1=>by rw [hsum_snoc,hsum_sumR t0 t1 t2 c n N,Nat.zero_add]; rfl
theorem frob_said [IsP p] (hm:Fld m) (hg:g.len<m.len) (hd:d.len<m.len) (hd0:d≠0):FrobSaid m g d:=by
 have h2:=hm.two
 have h0:=hm.mon.2
 -- the inverse of the last coefficient
 obtain ⟨w,hw⟩:∃w:Quo m,Quo.mk m d*w=1:=by
  have:=invm_ok hm hd0 hd
  exact hm.irr.quo_inv fun h=>hd0 (by
   have e:=(Pol.mod_eq_iff h0).2 (show Quo.mk m d=Quo.mk m 0 from h)
   rwa [Pol.mod_small hd,Pol.zero_mod h0] at e)
 generalize hθ:Quo.mk m Pol.X=θ
 generalize hG:Quo.mk m g=G
 generalize hD:Quo.mk m d=D at *
 let D0:=m.len-1
 let u:Nat→Pol (Quo m):=fun j=>Pol.C (sg j w)*(Pol.X-Pol.C (sg j θ))
 let v:Nat→Pol (Quo m):=fun j=>Pol.C (sg j (-(w*G)))
 have hu:∀j,polS (u j)=u (j+1):=fun j=>by
  show polS (Pol.C (sg j w)*(Pol.X-Pol.C (sg j θ)))=Pol.C (sg (j+1) w)*(Pol.X-Pol.C (sg (j+1) θ))
  rw [polS_mul,Gq.sub_eq,polS_add,polS_neg,polS_C,polS_C,polS_X,sg1_sg,sg1_sg,←Gq.sub_eq]
 have hv:∀j,polS (v j)=v (j+1):=fun j=>by
  show polS (Pol.C (sg j (-(w*G))))=_
  rw [polS_C,sg1_sg]
 have hc:∀f k:Pol (Quo m),u 0*f=u 0*k→f=k:=fun f k e=>by
  have e1:(Pol.X-Pol.C θ)*(f-k)=Pol.C D*(u 0*f)-Pol.C D*(u 0*k):=by
   have e2:(Pol.X-Pol.C θ)=(Pol.C D*Pol.C w)*(Pol.X-Pol.C θ):=by rw [←Pol.C_mul,hw,Pol.C_one,Gq.one_mul]
   rw [e2]
   show Pol.C D*Pol.C w*(Pol.X-Pol.C θ)*(f-k)=Pol.C D*(Pol.C w*(Pol.X-Pol.C θ)*f)-Pol.C D*(Pol.C w*(Pol.X-Pol.C θ)*k)
   exact ring_of [Pol.C D,Pol.C w,Pol.X,Pol.C θ,f,k] rfl
  rw [e,Gq.sub_self] at e1
  exact eq_of_sub (lin_cancel e1)
 have hfull:=sg_full (m:=m) hm
 have ud:u D0=u 0:=by show Pol.C (sg (m.len-1) w)*(Pol.X-Pol.C (sg (m.len-1) θ))=_; rw [hfull,hfull]; rfl
 have vd:v D0=v 0:=by show Pol.C (sg (m.len-1) _)=_; rw [hfull]; rfl
 have htt:∀n,tau (tau e0) n=opP θ G D (u 0) e0 n+opP θ G D (v 0) (tau e0) n:=fun n=>by
  have e1:Lop θ G D e0 n=Rop θ G D e0 n:=op_e0 θ G D n
  rw [lop_tau] at e1
  have e2:opP θ G D (u 0) e0 n=w*(Rop θ G D e0 n-θ*e0 n):=by
   show opP θ G D (Pol.C w*(Pol.X-Pol.C θ)) e0 n=_
   rw [opP_Cmul,Gq.sub_eq,opP_add,←Pol.C_neg,opP_C,show (Pol.X:Pol (Quo m))=Pol.X*1 from (Gq.mul_one _).symm,opP_X,show opP θ G D 1 e0=e0 from funext fun n=>opP_one e0 n]
   exact ring_of [w,Rop θ G D e0 n,θ,e0 n] rfl
  have e3:opP θ G D (v 0) (tau e0) n=-(w*G)*tau e0 n:=opP_C _ _ n
  rw [e2,e3,←e1]
  have e4:w*(θ*e0 n+G*tau e0 n+D*tau (tau e0) n-θ*e0 n) + -(w*G)*tau e0 n=(D*w)*tau (tau e0) n:=ring_of [w,θ,G,D,e0 n,tau e0 n,tau (tau e0) n] rfl
  rw [e4,hw,Gq.one_mul]
 have cay:=frob_cayley htt hfull
 have hu2:(u 0).lt 2:=Pol.lt_Cmul _ (Pol.lt_sub Pol.lt_X ((Pol.lt_C _).mono (by omega)))
 obtain ⟨a,ha,hac⟩:=descend hm (trF_fix hu hv hc ud vd) (trF_lt hu2 (Pol.lt_C _) D0)
 -- the determinant
 have dlt:∀j,(dtF (u 0) (v 0) j).lt (j+1):=by
  intro j
  induction j with
  | zero=>rw [dtF_zero]; exact Pol.lt_one
  | succ j ih=>
   rw [dtF_right hu hv]
   exact Pol.lt_neg ((Pol.lt_mul (Pol.lt_Cmul _ (Pol.lt_sub Pol.lt_X ((Pol.lt_C _).mono (by omega)))) ih).mono (by omega))
 have dtop:∀j,(dtF (u 0) (v 0) j).c j*Quo.mk m (nmS m d j)=if j%2=1 then -1 else 1:=by
  intro j
  induction j with
  | zero=>rw [dtF_zero]; show (1:Quo m)*1=_; rw [Gq.mul_one]; rfl
  | succ j ih=>
   have e1:Quo.mk m (nmS m d (j+1))=Quo.mk m (nmS m d j)*sg j D:=by
    show Quo.mk m (nmS m d j*frIt m j d%m)=_
    rw [Pol.mk_mod,Quo.mk_mul,sg_mk,hD]
   have e2:(dtF (u 0) (v 0) (j+1)).c (j+1)=-(sg j w*(dtF (u 0) (v 0) j).c j):=by
    rw [dtF_right hu hv,Pol.c_neg]
    show -((Pol.C (sg j w)*(Pol.X-Pol.C (sg j θ)))*dtF (u 0) (v 0) j).c (j+1)=_
    rw [Gq.mul_assoc,Pol.c_Cmul,c_lin,if_neg (by omega),dlt j (j+1) (Nat.le_refl _),show j+1-1=j from rfl]
    exact ring_of [sg j w,sg j θ,(dtF (u 0) (v 0) j).c j] rfl
   have e3:sg j D*sg j w=1:=by rw [←sg_mul_k,hw,sg_one]
   have e4:-(sg j w*(dtF (u 0) (v 0) j).c j)*(Quo.mk m (nmS m d j)*sg j D)=-((sg j D*sg j w)*((dtF (u 0) (v 0) j).c j*Quo.mk m (nmS m d j))):=ring_of [sg j w,sg j D,(dtF (u 0) (v 0) j).c j,Quo.mk m (nmS m d j)] rfl
   rw [e1,e2,e4,e3,ih,Gq.one_mul]
   by_cases h:j%2=1
   ·rw [if_pos h,if_neg (by omega),Gq.neg_neg]
   ·rw [if_neg h,if_pos (by omega)]
 obtain ⟨b,hb,hbc⟩:=descend hm (dtF_fix hu hv hc ud) (dlt D0)
 -- the root
 have hroot:Quo.mk m b=0:=by
  obtain ⟨j,hj⟩:∃j,D0=j+1:=⟨D0-1,by show m.len-1=_; omega⟩
  have e1:=dtF_left (u 0) (v 0) j
  have e2:dtF (u 0) (v 0) D0=(Pol.X-Pol.C θ)*(-(Pol.C w*polS (dtF (u 0) (v 0) j))):=by
   rw [hj,e1]
   show -(Pol.C w*(Pol.X-Pol.C θ)*polS (dtF (u 0) (v 0) j))=_
   exact ring_of [Pol.C w,Pol.X,Pol.C θ,polS (dtF (u 0) (v 0) j)] rfl
  rw [mk_sum (D0+1) b hb,hθ]
  have e3:sumR (fun i=>Quo.mk m (Pol.C (b.c i))*pw θ i) (D0+1)=sumR (fun i=>((Pol.X-Pol.C θ)*(-(Pol.C w*polS (dtF (u 0) (v 0) j)))).c i*pw θ i) (D0+1):=
   sumR_congr fun i _=>by rw [←e2,hbc]
  rw [e3,lin_root]
  have e4:(-(Pol.C w*polS (dtF (u 0) (v 0) j))).c D0=0:=
   Pol.lt_neg (Pol.lt_Cmul _ (polS_lt (dlt j))) D0 (by omega)
  rw [e4,Gq.zero_mul,Gq.neg_zero]
 obtain ⟨q,hq⟩:=dv_iff_mk.2 hroot
 have hN:=norm_const hm hd0 hd
 have hbtop:Quo.mk m (Pol.C (b.c D0))*Quo.mk m (Pol.C ((nmS m d D0).c 0))=if D0%2=1 then -1 else 1:=by
  rw [←hbc,←dtop D0,←Pol.eq_C (Pol.lt_iff.2 (Nat.le_of_eq hN.1))]
 have hbk:b.c D0=zp p (frK m d):=by
  have e:=finv_rep (p:=p) ((nmS m d (m.len-1)).c 0) hN.2
  have hk:zp p (frK m d)=if D0%2=1 then -Fd.inv ((nmS m d (m.len-1)).c 0) else Fd.inv ((nmS m d (m.len-1)).c 0):=by
   unfold frK
   show zp p (if (m.len-1)%2=1 then _ else _)=if (m.len-1)%2=1 then _ else _
   split
   ·rw [zp_neg,e]
   ·rw [e]
  have hmi:=Fd.mul_inv _ hN.2
  rw [←Quo.mk_mul,←Pol.C_mul] at hbtop
  have h1:b.c D0*(nmS m d D0).c 0=if D0%2=1 then -1 else 1:=by
   refine mkC_inj hm (hbtop.trans ?_)
   split
   ·rw [Pol.C_neg,Pol.C_one]; rfl
   ·rw [Pol.C_one]; rfl
  have h3:b.c D0=(b.c D0*(nmS m d D0).c 0)*Fd.inv ((nmS m d (m.len-1)).c 0):=by
   rw [Gq.mul_assoc,hmi,Gq.mul_one]
  rw [h3,h1,hk]
  split
  ·rw [Gq.neg_mul,Gq.one_mul]
  ·rw [Gq.one_mul]
 have hbB:b=frB m d:=by
  have hmtop:m.c D0=1:=hm.mon.1
  have hq1:q.lt 1:=by
   by_cases hq0:q=0
   ·rw [hq0]; exact Pol.lt_zero' 1
   ·have:=Pol.len_mul h0 hq0
    rw [←hq] at this
    have hbl:=Pol.lt_iff.1 hb
    exact Pol.lt_iff.2 (by show q.len≤1; have:D0=m.len-1:=rfl; omega)
  have hqc:q=Pol.C (q.c 0):=Pol.eq_C hq1
  have e1:b.c D0=q.c 0:=by
   rw [hq,hqc,Gq.mul_comm,Pol.c_Cmul,hmtop,Gq.mul_one]
   rfl
  unfold frB
  rw [←hbk,e1,←hqc,hq,Gq.mul_comm]
 -- coefficients
 have lenD:D0=m.len-1:=rfl
 have eqn:∀n,(if n=2*D0 then 1 else 0)-(if n<D0 then 0 else sumR (fun i=>Quo.mk m (Pol.C (a.c i))*Rk θ G D i (n-D0)) (D0/2+1))+sumR (fun i=>Quo.mk m (Pol.C ((frB m d).c i))*Rk θ G D i n) m.len=0:=fun n=>by
  have e:=cay n
  rw [tauN_e0] at e
  have e1:opP θ G D (trF (u 0) (v 0) D0) (tauN D0 e0) n=if n<D0 then 0 else sumR (fun i=>Quo.mk m (Pol.C (a.c i))*Rk θ G D i (n-D0)) (D0/2+1):=by
   rw [←tauN_op hfull,tauN_val]
   split
   ·rfl
   ·rw [hfull,opP_eq (trF_lt hu2 (Pol.lt_C _) D0)]
    exact sumR_congr fun i _=>by rw [hac,rit_e0]
  have e2:opP θ G D (dtF (u 0) (v 0) D0) e0 n=sumR (fun i=>Quo.mk m (Pol.C ((frB m d).c i))*Rk θ G D i n) m.len:=by
   rw [opP_eq (dlt D0),show D0+1=m.len by omega]
   exact sumR_congr fun i _=>by rw [hbc,hbB,rit_e0]
  rw [show m.len-1+(m.len-1)=2*D0 by omega] at e
  rw [show m.len-1=D0 from rfl,e1,e2] at e
  exact e
 have hA:a=frA m g d:=by
  have e:=eqn D0
  rw [if_neg (by omega),if_neg (by omega),Nat.sub_self] at e
  have e1:sumR (fun i=>Quo.mk m (Pol.C (a.c i))*Rk θ G D i 0) (D0/2+1)=Quo.mk m a:=by
   rw [mk_sum _ a ha,hθ]
   exact sumR_congr fun i _=>by rw [rk_at0]
  have e2:sumR (fun i=>Quo.mk m (Pol.C ((frB m d).c i))*Rk θ G D i D0) m.len=Quo.mk m (frA m g d):=by
   have h3:=actN_q hm (mem3 (Pol.len_mod Pol.X h0) hg hd) (frB m d) (frB m d).len (frB m d).len (Nat.le_refl _)
   have h4:=congrFun h3 D0
   rw [hsum_sumR,Pol.mk_mod,hθ,hG,hD] at h4
   have h5:qcf m (actN m (Pol.X%m) g d (frB m d) (frB m d).len (frB m d).len) D0=Quo.mk m (frA m g d):=rfl
   rw [h5] at h4
   rw [h4]
   obtain ⟨k,hk⟩:=Nat.exists_eq_add_of_le (frB_len (m:=m) (d:=d))
   rw [hk,sumR_more _ _ fun i hi=>by rw [(frB m d).lt_len i hi,Pol.C_zero,Quo.mk_zero,Gq.zero_mul]]
   exact sumR_congr fun i _=>by rw [Nat.sub_self,Nat.zero_add]
  rw [e1,e2] at e
  have e3:Quo.mk m a=Quo.mk m (frA m g d):=by
   have e4:Quo.mk m a=Quo.mk m (frA m g d)-(0-Quo.mk m a+Quo.mk m (frA m g d)):=ring_of [Quo.mk m a,Quo.mk m (frA m g d)] rfl
   rw [e4,e]
   exact ring_of [Quo.mk m (frA m g d)] rfl
  have e5:=(Pol.mod_eq_iff h0).2 e3
  have l1:a.len<m.len:=by have:=Pol.lt_iff.1 ha; omega
  have l2:(frA m g d).len<m.len:=by
   have:=mem_cS (A:=actN m (Pol.X%m) g d (frB m d) (frB m d).len (frB m d).len) (N:=m.len-1) (fun c hc=>by have:=actN_lens hm _ _ _ _ _ _ c hc; omega) (m.len-1)
   unfold frA
   omega
  rwa [Pol.mod_small l1,Pol.mod_small l2] at e5
 subst hθ hG
 exact ⟨by rw [←hA]; exact ha,by rw [←hA,hD]; exact eqn⟩
end
end Pe


namespace Pe
open Go Gq
variable {T:Nat→Option Fn} {A:Oracle}
end Pe


namespace Pe
open Go Gq
variable {T:Nat→Option Fn} {A:Oracle}
section
theorem vl_drop {p:Int} (l:List Int) (k:Nat) (h:k<l.length):vl p (l.drop k)=vl p (l.drop (k+1))*p+cf l k:=by
 rw [List.drop_eq_getElem_cons h,vl,cf_lt h,Int.mul_comm p,Int.add_comm]
theorem vl_small {p:Int} [IsP p] {l:List Int} (hc:Can p l) (hl:l.length≤14):0≤vl p l∧vl p l≤1000000000000:=by
 obtain ⟨h1,h2⟩:=vl_in hc
 have h3:p^l.length≤p^14:=ipow_mono (p:=p) (by have:=IsP.pos (p:=p); omega) hl
 have h4:p^14≤678223072849:=by
  rcases IsP.h (p:=p) with h | h | h | h <;> subst h <;> decide
 omega
theorem can_drop {p:Int} {l:List Int} (hc:Can p l) (k:Nat):Can p (l.drop k):=fun x hx=>hc x (List.mem_of_mem_drop hx)
theorem l_num {O:Oracle} {p:Int} [IsP p] {l:List Int} (hc:Can p l) (hl:l.length≤14):∀(k:Nat) (i:Int),i=(k:Int)-1→k≤l.length →
 dn O 0 (.loop Zk_L0) ⟨[(0,(.d (.int .i64 p))),(7,(.d (.sl .leaf (ints .i64 l)))),(8,(.d (.int .i64 (vl p (l.drop k))))),(9,(.d (.int .i64 i)))],[.hole,.hole]⟩=some (.exit 0,⟨[(0,(.d (.int .i64 p))),(7,(.d (.sl .leaf (ints .i64 l)))),(8,(.d (.int .i64 (vl p l)))),(9,(.d (.int .i64 (-1)))),(23,(.d (.bool false)))],[.hole,.hole]⟩)
 | 0,i,hi,_=>by
  obtain rfl:i=-1:=by omega
  exact dn_stop (by simp -implicitDefEqProofs [Zk_L0,dn_cond])
 | k+1,i,hi,hk=>by
  obtain rfl:i=(k:Int):=by omega
  have ih:=l_num (O:=O) hc hl k ((k:Int)-1) rfl (by omega)
  have e:=vl_drop (p:=p) l k (by omega)
  have h1:=vl_small (can_drop hc k) (by rw [List.length_drop]; omega)
  have h2:=vl_small (can_drop hc (k+1)) (by rw [List.length_drop]; omega)
  have h3:=hc _ (List.getElem_mem (show k<l.length by omega))
  rw [←cf_lt] at h3
  have h7:=IsP.le (p:=p)
  have w1:IntKind.i64.wrap (vl p (l.drop (k+1))*p)=vl p (l.drop (k+1))*p:=w64 (by omega)
  have w2:IntKind.i64.wrap (vl p (l.drop (k+1))*p+cf l k)=vl p (l.drop k):=by rw [←e]; exact w64 (by omega)
  have w3:IntKind.i64.wrap ((k:Int)-1)=(k:Int)-1:=w64 (by omega)
  have hg:l[k]? = some (cf l k):=by rw [cf_lt (by omega)]; exact List.getElem?_eq_getElem _
  have hlt:k<l.length:=by omega
  have hn:¬ 1000000000000<vl p (l.drop k):=by omega
  refine dn_round ?_ ih
  generalize vl p (l.drop (k+1))=v1 at *
  generalize vl p (l.drop k)=v0 at *
  have hgg:∀h:k<l.length,l[k]'h=cf l k:=fun h=>(cf_lt h).symm
  simp -implicitDefEqProofs [Zk_L0,dn_cond,hlt,hgg,w1,w2,w3,hn]
def K_NumberOf (O:Oracle):Prop:=∀(p:Int) [IsP p] (a:Fp p),a.len≤14→ask O Fk [(D.int .i64 p),(D.arr 64 .leaf (ints .u8 (pad (row a))))]=some (.tup [(D.int .i64 (numOf a)),(D.int .i64 0)])
theorem k_NumberOf (hT:T Fk=some Zk) (hc:C_polysCode (den T A)) (hro:K_rowOf (den T A)):K_NumberOf (den T A):=by
 intro p ip a ha
 have e1:=hc p [pad (row a)] (by intro x hx; simp at hx; subst hx; exact ⟨pad_length _,pad_bytes a⟩) (by simp)
 rw [show List.map arr8 [pad (row a)]=[(D.arr 64 .leaf (ints .u8 (pad (row a))))] from rfl,show codeP p [pad (row a)]=0 from by unfold codeP; rw [if_pos ⟨isP_true,by simp [isPl_row]⟩]] at e1
 have e2:=hro p a (by omega)
 have hL:=row_length a
 have e3:=l_num (O:=den T A) (row_can a) (by rw [hL]; exact ha) (row a).length (((row a).length:Int)-1) rfl (Nat.le_refl _)
 rw [List.drop_length,show vl p []=0 from rfl] at e3
 have w1:IntKind.i64.wrap (((row a).length:Int)-1)=((row a).length:Int)-1:=w64 (by omega)
 refine ask_of hT rfl ?_
 unfold numOf
 generalize vl p (row a)=v at *
 generalize row a=Ra at *
 generalize pad Ra=Pa at *
 simp -implicitDefEqProofs [Zk,Zk_B,dn_cond,e1,e2,e3,w1,List.replicate]
theorem l_sval {O:Oracle} {p:Int} [IsP p] {l:List Int} (hc:Can p l) (hl:l.length≤14):∀(k:Nat) (i:Int),i=(k:Int)-1→k≤l.length →
 dn O 0 (.loop Z40_L0) ⟨[(0,(.d (.int .i64 p))),(3,.ptr 0 []),(5,(.d (.int .i64 (vl p (l.drop k))))),(6,(.d (.int .i64 i)))],[.box false (D.arr 64 .leaf (ints .u8 (pad l)))]⟩=some (.exit 0,⟨[(0,(.d (.int .i64 p))),(3,.ptr 0 []),(5,(.d (.int .i64 (vl p l)))),(6,(.d (.int .i64 (-1)))),(10,(.d (.bool false)))],[.box false (D.arr 64 .leaf (ints .u8 (pad l)))]⟩)
 | 0,i,hi,_=>by
  obtain rfl:i=-1:=by omega
  refine dn_stop ?_
  generalize pad l=Pl at *
  simp -implicitDefEqProofs [Z40_L0,dn_cond]
 | k+1,i,hi,hk=>by
  obtain rfl:i=(k:Int):=by omega
  have ih:=l_sval (O:=O) hc hl k ((k:Int)-1) rfl (by omega)
  have e:=vl_drop (p:=p) l k (by omega)
  have h1:=vl_small (can_drop hc k) (by rw [List.length_drop]; omega)
  have h2:=vl_small (can_drop hc (k+1)) (by rw [List.length_drop]; omega)
  have h3:=hc _ (List.getElem_mem (show k<l.length by omega))
  rw [←cf_lt] at h3
  have h7:=IsP.le (p:=p)
  have w1:IntKind.i64.wrap (vl p (l.drop (k+1))*p)=vl p (l.drop (k+1))*p:=w64 (by omega)
  have w2:IntKind.i64.wrap (vl p (l.drop (k+1))*p+cf l k)=vl p (l.drop k):=by rw [←e]; exact w64 (by omega)
  have w3:IntKind.i64.wrap ((k:Int)-1)=(k:Int)-1:=w64 (by omega)
  have w4:IntKind.i64.wrap (cf l k)=cf l k:=w64 (by omega)
  have hg:∀h:k<(pad l).length,(pad l)[k]'h=cf l k:=fun h=>by
   have:=pad_get l k (by omega)
   rw [List.getElem?_eq_getElem h] at this
   exact Option.some.inj this
  have hlt:k<64:=by omega
  have hn:¬ 1000000000000<vl p (l.drop k):=by omega
  refine dn_round ?_ ih
  generalize vl p (l.drop (k+1))=v1 at *
  generalize vl p (l.drop k)=v0 at *
  have hPL:=pad_length l
  generalize pad l=Pl at *
  simp -implicitDefEqProofs [Z40_L0,dn_cond,hlt,hg,w1,w2,w3,w4,hn,hPL]
def K_sValue (O:Oracle):Prop:=∀(p:Int) [IsP p] (a:Fp p),a.len≤14→ask O F40 [(D.int .i64 p),(D.arr 64 .leaf (ints .u8 (pad (row a))))]=some (D.int .i64 (numOf a))
theorem k_sValue (hT:T F40=some Z40) (hdg:K_sDeg (den T A)):K_sValue (den T A):=by
 intro p ip a ha
 have e1:=hdg p a (by omega)
 have hL:=row_length a
 have e3:=l_sval (O:=den T A) (row_can a) (by rw [hL]; exact ha) (row a).length (((row a).length:Int)-1) rfl (Nat.le_refl _)
 rw [List.drop_length,show vl p []=0 from rfl,hL] at e3
 refine ask_of hT rfl ?_
 unfold numOf
 generalize vl p (row a)=v at *
 generalize pad (row a)=Pa at *
 generalize a.len=n at *
 simp -implicitDefEqProofs [Z40,Z40_B,e1,e3]
end
section
variable {p:Int} [IsP p]
def GoodQ (m:Fp p) (q:Dr4):Prop:=∃g d:Fp p,q=(p,pad (row m),pad (row g),pad (row d))∧g.len<m.len∧d.len<m.len∧d≠0
noncomputable def trN (p:Int) [IsP p] (q:Dr4):Nat:=(numOf (frA (polOf p q.2.1) (polOf p q.2.2.1) (polOf p q.2.2.2))).toNat
noncomputable def ctS (p:Int) [IsP p]:List Dr4→List Int→List Int
 | [],Q=>Q
 | q::L,Q=>ctS p L (Q.set (trN p q) (cf Q (trN p q)+1))
theorem ctS_length (p:Int) [IsP p]:∀(L:List Dr4) (Q:List Int),(ctS p L Q).length=Q.length
 | [],_=>rfl
 | q::L,Q=>by rw [ctS,ctS_length p L,List.length_set]
theorem goodQ_mk {m:Fp p} (h5:m.len≤5) (hp:p^(m.len-1)≤16) (h2:2≤m.len) {n:Nat} (hn:(n:Int)=p^(m.len-1)) {g d:Nat} (hg:g<n) (hd:d<n) (h1:1≤d):GoodQ m (mkq p (pad (row m)) g d):=by
 have hlt:∀k:Nat,k<n→(numP p (k:Int)).len<m.len:=fun k hk=>by
  have:=Pol.len_le (numP_lt (p:=p) (n:=(k:Int)) ⟨by omega,by omega⟩ (d:=m.len-1) (by omega))
  omega
 refine ⟨numP p g,numP p d,rfl,hlt g hg,hlt d hd,fun h=>?_⟩
 have e:=numOf_numP (p:=p) (n:=(d:Int)) ⟨by omega,by omega⟩
 rw [h,←numP_zero,numOf_numP ⟨by omega,by omega⟩] at e
 omega
theorem goodQ_in {m:Fp p} (h5:m.len≤5) (hp:p^(m.len-1)≤16) (h2:2≤m.len) {n:Nat} (hn:(n:Int)=p^(m.len-1)) {g:Nat} (hg:g<n):∀(r d:Nat),1≤d→d+r=n→∀q∈inQ p (pad (row m)) g d r,GoodQ m q
 | 0,_,_,_,q,hq=>by cases hq
 | r+1,d,h1,hd,q,hq=>by
  rcases List.mem_cons.1 hq with rfl | hq
  ·exact goodQ_mk h5 hp h2 hn hg (by omega) h1
  ·exact goodQ_in h5 hp h2 hn hg r (d+1) (by omega) (by omega) q hq
theorem goodQ_out {m:Fp p} (h5:m.len≤5) (hp:p^(m.len-1)≤16) (h2:2≤m.len) {n:Nat} (hn:(n:Int)=p^(m.len-1)) (hn1:1≤n):∀(r g:Nat),g+r=n→∀q∈outQ p (pad (row m)) n g r,GoodQ m q
 | 0,_,_,q,hq=>by cases hq
 | r+1,g,hg,q,hq=>by
  rcases List.mem_append.1 hq with hq | hq
  ·exact goodQ_in h5 hp h2 hn (by omega) (n-1) 1 (Nat.le_refl _) (by omega) q hq
  ·exact goodQ_out h5 hp h2 hn hn1 r (g+1) (by omega) q hq
theorem good_all {m:Fp p} (hm:Fld m) (hp:p^(m.len-1)≤16):∀q∈allQ p (pad (row m)) (manyQ p (m.len-1)),GoodQ m q:=by
 have h1:(1:Int)≤p^(m.len-1):=ppow_pos _
 have hn:((manyQ p (m.len-1):Nat):Int)=p^(m.len-1):=by unfold manyQ; omega
 exact goodQ_out hm.five hp hm.two hn (by omega) _ 0 (Nat.zero_add _)
theorem trN_spec {m:Fp p} (hm:Fld m) {q:Dr4} (hq:GoodQ m q):∃g d:Fp p,q=(p,pad (row m),pad (row g),pad (row d))∧g.len<m.len∧d.len<m.len∧d≠0∧numOf (frA m g d)=((trN p q:Nat):Int)∧(frA m g d).len≤14∧((trN p q:Nat):Int)<p^((m.len-1)/2+1):=by
 obtain ⟨g,d,rfl,hg,hd,hd0⟩:=hq
 have h5:=hm.five
 have fs:=frob_said hm hg hd hd0
 have hl:=Pol.len_le fs.lt
 have hi:=numOf_in (frA m g d)
 have e:((trN p (p,pad (row m),pad (row g),pad (row d)):Nat):Int)=numOf (frA m g d):=by
  unfold trN
  show (((numOf (frA (polOf p (pad (row m))) (polOf p (pad (row g))) (polOf p (pad (row d))))).toNat:Nat):Int)=_
  rw [polOf_pad (by omega),polOf_pad (by omega),polOf_pad (by omega)]
  omega
 refine ⟨g,d,rfl,hg,hd,hd0,e.symm,by omega,?_⟩
 have:=ipow_mono (p:=p) (by have:=IsP.pos (p:=p); omega) hl
 rw [e]; omega
theorem cf_bound {Q:List Int} {j n:Nat} (h:∀x∈Q,0≤x∧x≤n):0≤cf Q j∧cf Q j≤n:=by
 by_cases hj:j<Q.length
 ·rw [cf_lt hj]; exact h _ (List.getElem_mem hj)
 ·rw [cf_ge (by omega)]; omega
theorem set_bound {Q:List Int} {j n:Nat} (h:∀x∈Q,0≤x∧x≤n):∀x∈Q.set j (cf Q j+1),0≤x∧x≤((n+1:Nat):Int):=fun x hx=>by
 have hb:=cf_bound (j:=j) h
 rcases List.mem_or_eq_of_mem_set hx with h1 | h1
 ·have:=h x h1; omega
 ·omega
theorem l_ct {O:Oracle} (hfr:K_drFrob O) (hpo:K_poly O) (hnu:K_NumberOf O) {m:Fp p} (hm:Fld m) {L:List Dr4} (hL:∀q∈L,GoodQ m q) (hLn:L.length≤1000) {N:Nat} (hN:(N:Int)=p^((m.len-1)/2+1)):∀(k i:Nat) (Q:List Int),i+k=L.length→Q.length=N→(∀x∈Q,0≤x∧x≤i) →
 dn O 0 (.loop Z6_L0) ⟨[(0,(.d (.int .i64 p))),(8,.sl 1 [] 0 N (some N)),(32,.d (.sl dqSh (L.map drE))),(33,(.d (.int .i64 L.length))),(34,(.d (.int .i64 i)))],[.hole,.sl false .leaf (ints .i64 Q),.hole]⟩ =
  some (.exit 0,⟨[(0,(.d (.int .i64 p))),(8,.sl 1 [] 0 N (some N)),(32,.d (.sl dqSh (L.map drE))),(33,(.d (.int .i64 L.length))),(34,(.d (.int .i64 L.length))),(35,(.d (.bool false)))],[.hole,.sl false .leaf (ints .i64 (ctS p (L.drop i) Q)),.hole]⟩)
 | 0,i,Q,hi,hQ,_=>by
  obtain rfl:i=L.length:=by omega
  rw [List.drop_length,ctS]
  refine dn_stop ?_
  generalize L.map drE=LD at *
  simp -implicitDefEqProofs [Z6_L0,dn_cond]
 | k+1,i,Q,hi,hQ,hb=>by
  have hlt:i<L.length:=by omega
  obtain ⟨g,d,hq,hg,hd,hd0,e3,h14,htn⟩:=trN_spec hm (hL _ (List.getElem_mem hlt))
  have e1:=hfr p m g d hm hg hd
  have e2:=hpo p (frA m g d) (by omega)
  have e4:=hnu p (frA m g d) h14
  have hbb:=cf_bound (j:=trN p L[i]) hb
  have ih:=l_ct hfr hpo hnu hm hL hLn hN k (i+1) (Q.set (trN p L[i]) (cf Q (trN p L[i])+1)) (by omega) (by rw [List.length_set]; exact hQ) (set_bound hb)
  rw [List.drop_eq_getElem_cons hlt,ctS]
  have w4:IntKind.i64.wrap ((i:Int)+1)=((i+1:Nat):Int):=(w64 (x:=(i:Int)+1) (by omega)).trans (by omega)
  have w5:IntKind.i64.wrap (cf Q (trN p L[i])+1)=cf Q (trN p L[i])+1:=w64 (by omega)
  have htN:trN p L[i]<N:=by omega
  have htQ:trN p L[i]<Q.length:=by omega
  have hcf:∀h:trN p L[i]<Q.length,Q[trN p L[i]]'h=cf Q (trN p L[i]):=fun h=>(cf_lt h).symm
  have hLD:(L.map drE).length=L.length:=List.length_map ..
  have hgD:∀h:i<(L.map drE).length,(L.map drE)[i]'h=drD p (pad (row m)) (pad (row g)) (pad (row d)):=fun h=>by
   rw [List.getElem_map,hq]
  rw [e3] at e4
  refine dn_round ?_ ih
  generalize trN p L[i]=t at *
  generalize frA m g d=fa at *
  generalize row fa=Rf at *
  generalize row (frB m d)=Rb at *
  generalize pad Rf=Pf at *
  generalize pad (row m)=Pm at *
  generalize pad (row g)=Pg at *
  generalize pad (row d)=Pd at *
  generalize L.map drE=LD at *
  simp -implicitDefEqProofs [Z6_L0,dn_cond,hlt,hLD,hgD,e1,e2,e4,w4,w5,htN,hcf,hQ]
theorem l_sct {O:Oracle} (hfr:K_sFrob6 O) (hva:K_sValue O) {m:Fp p} (hm:Fld m) {L:List Dr4} (hL:∀q∈L,GoodQ m q) (hLn:L.length≤1000) {N:Nat} (hN:(N:Int)=p^((m.len-1)/2+1)):∀(k i:Nat) (Q:List Int),i+k=L.length→Q.length=N→(∀x∈Q,0≤x∧x≤i) →
 dn O 0 (.loop Z32_L0) ⟨[(0,(.d (.int .i64 p))),(7,.sl 1 [] 0 N (some N)),(8,.d (.sl dqSh (L.map drE))),(9,(.d (.int .i64 i)))],[.hole,.sl false .leaf (ints .i64 Q),.hole,.hole]⟩ =
  some (.exit 0,⟨[(0,(.d (.int .i64 p))),(7,.sl 1 [] 0 N (some N)),(8,.d (.sl dqSh (L.map drE))),(9,(.d (.int .i64 L.length))),(31,(.d (.bool false)))],[.hole,.sl false .leaf (ints .i64 (ctS p (L.drop i) Q)),.hole,.hole]⟩)
 | 0,i,Q,hi,hQ,_=>by
  obtain rfl:i=L.length:=by omega
  rw [List.drop_length,ctS]
  refine dn_stop ?_
  have hLD:(L.map drE).length=L.length:=List.length_map ..
  generalize L.map drE=LD at *
  simp -implicitDefEqProofs [Z32_L0,dn_cond,hLD]
 | k+1,i,Q,hi,hQ,hb=>by
  have hlt:i<L.length:=by omega
  obtain ⟨g,d,hq,hg,hd,hd0,e3,h14,htn⟩:=trN_spec hm (hL _ (List.getElem_mem hlt))
  have e1:=hfr p m g d hm hg hd hd0
  have e4:=hva p (frA m g d) h14
  have hbb:=cf_bound (j:=trN p L[i]) hb
  have ih:=l_sct hfr hva hm hL hLn hN k (i+1) (Q.set (trN p L[i]) (cf Q (trN p L[i])+1)) (by omega) (by rw [List.length_set]; exact hQ) (set_bound hb)
  rw [List.drop_eq_getElem_cons hlt,ctS]
  have w4:IntKind.i64.wrap ((i:Int)+1)=((i+1:Nat):Int):=(w64 (x:=(i:Int)+1) (by omega)).trans (by omega)
  have w5:IntKind.i64.wrap (cf Q (trN p L[i])+1)=cf Q (trN p L[i])+1:=w64 (by omega)
  have htN:trN p L[i]<N:=by omega
  have htQ:trN p L[i]<Q.length:=by omega
  have hcf:∀h:trN p L[i]<Q.length,Q[trN p L[i]]'h=cf Q (trN p L[i]):=fun h=>(cf_lt h).symm
  have hLD:(L.map drE).length=L.length:=List.length_map ..
  have hgD:∀h:i<(L.map drE).length,(L.map drE)[i]'h=drD p (pad (row m)) (pad (row g)) (pad (row d)):=fun h=>by
   rw [List.getElem_map,hq]
  rw [e3] at e4
  refine dn_round ?_ ih
  generalize trN p L[i]=t at *
  generalize frA m g d=fa at *
  generalize pad (row fa)=Pf at *
  generalize pad (row (frB m d))=Pb at *
  generalize pad (row m)=Pm at *
  generalize pad (row g)=Pg at *
  generalize pad (row d)=Pd at *
  generalize L.map drE=LD at *
  simp -implicitDefEqProofs [Z32_L0,dn_cond,hlt,hLD,hgD,e1,e4,w4,w5,htN,hcf,hQ]
end
end Pe

namespace Pe
open Go Gq
variable {T:Nat→Option Fn} {A:Oracle}
noncomputable def ctN (p:Int) (l:List Int):Nat:=(p^(((polOf p l).len-1)/2+1)).toNat
open Classical in
noncomputable def ctL (p:Int) (l:List Int):List Int:=
 if h:AdOk p l then
  haveI:IsP p:=h.choose
  ctS p (adL p l) (List.replicate (ctN p l) 0)
 else []
theorem adC_iff {p:Int} {l:List Int}:adC p l=0↔AdOk p l:=by
 constructor
 ·intro h
  unfold adC at h
  split at h
  ·exact absurd h (by assumption)
  ·split at h
   ·assumption
   ·omega
 ·intro h
  refine adC_zero ?_ h
  obtain ⟨ip,m,rfl,-⟩:=h
  unfold codeP
  rw [if_pos ⟨isP_true,by simp [isPl_row]⟩]
theorem ctL_bad {p:Int} {l:List Int} (h:¬ AdOk p l):ctL p l=[]:=by unfold ctL; rw [dif_neg h]
theorem ctL_good {p:Int} [IsP p] {l:List Int} (h:AdOk p l):ctL p l=ctS p (adL p l) (List.replicate (ctN p l) 0):=by unfold ctL; rw [dif_pos h]
theorem ctN_pad {p:Int} [IsP p] {m:Fp p} (hm:Fld m):((ctN p (pad (row m)):Nat):Int)=p^((m.len-1)/2+1)∧ctN p (pad (row m))≤343:=by
 have h5:=hm.five
 have h1:(1:Int)≤p^((m.len-1)/2+1):=ppow_pos _
 have h2:p^((m.len-1)/2+1)≤p^3:=ipow_mono (p:=p) (by have:=IsP.pos (p:=p); omega) (by omega)
 have h3:p^3≤343:=by rcases IsP.h (p:=p) with h | h | h | h <;> subst h <;> decide
 unfold ctN
 rw [polOf_pad (by omega)]
 omega
theorem rep_zero_in (n:Nat):∀x∈List.replicate n (0:Int),0≤x∧x≤((0:Nat):Int):=fun x hx=>by
 have:=List.eq_of_mem_replicate hx
 omega
def K_CountByTrace (O:Oracle) (F:Nat):Prop:=∀(p:Int) (l:List Int),Bytes l→l.length=64→ask O F [(D.int .i64 p),(D.arr 64 .leaf (ints .u8 l))]=some (.tup [(D.sl .leaf (ints .i64 (ctL p l))),(D.int .i64 (adC p l))])
theorem k_CountByTrace (hT:T F6=some Z6) (hal:K_AllDrinfeld (den T A) F5) (hro:K_rowOf (den T A)) (hdg:C_degree (den T A)) (hno:C_norm (den T A)) (hfr:K_drFrob (den T A)) (hpo:K_poly (den T A)) (hnu:K_NumberOf (den T A)):K_CountByTrace (den T A) F6:=by
 intro p l bl gl
 have e1:=hal p l bl gl
 unfold adD at e1
 by_cases h0:adC p l=0
 ·have hok:=adC_iff.1 h0
  have hok':=hok
  rw [h0] at e1 ⊢
  obtain ⟨ip,m,rfl,hm,h16⟩:=hok
  have h5:=hm.five
  have h2:=hm.two
  obtain ⟨hN,hN3⟩:=ctN_pad hm
  have e2:=hro p m (by omega)
  have e3:=hdg (row m) (by rw [row_length]; omega)
  rw [row_length,show (m.len:Int)-1=((m.len-1:Nat):Int) by omega] at e3
  have e4:=hno p ((m.len-1)/2+1) 1099511627776 (by omega) (by omega)
  rw [normL_eq ((m.len-1)/2+1) 1 (by omega) (by omega),Int.one_mul,←hN] at e4
  have hgood:∀q∈adL p (pad (row m)),GoodQ m q:=by rw [adL_good hok' (by omega)]; exact good_all hm h16
  have hlen:=(adL_ok p (pad (row m))).2
  have e5:=l_ct (O:=den T A) hfr hpo hnu hm hgood hlen hN (adL p (pad (row m))).length 0 (List.replicate (ctN p (pad (row m))) 0) (Nat.zero_add _) List.length_replicate (rep_zero_in _)
  have e00:((0:Nat):Int)=0:=rfl
  rw [e00,List.drop_zero,←ctL_good hok'] at e5
  have hcl:(ctL p (pad (row m))).length=ctN p (pad (row m)):=by rw [ctL_good hok',ctS_length,List.length_replicate]
  have htk:(ctL p (pad (row m))).take (ctN p (pad (row m)))=ctL p (pad (row m)):=List.take_of_length_le (by omega)
  have hq:Int.tdiv ((m.len-1:Nat):Int) 2=(((m.len-1)/2:Nat):Int):=rfl
  have w1:IntKind.i64.wrap (((m.len-1)/2:Nat):Int)=(((m.len-1)/2:Nat):Int):=w64 (by omega)
  have w2:IntKind.i64.wrap ((((m.len-1)/2:Nat):Int)+1)=(((m.len-1)/2+1:Nat):Int):=(w64 (x:=(((m.len-1)/2:Nat):Int)+1) (by omega)).trans (by omega)
  have hLD:((adL p (pad (row m))).map drE).length=(adL p (pad (row m))).length:=List.length_map ..
  have h8:ctN p (pad (row m))*8≤1099511627776:=by omega
  refine ask_of hT rfl ?_
  generalize ctN p (pad (row m))=N at *
  generalize ctL p (pad (row m))=C at *
  generalize (adL p (pad (row m))).length=ln at *
  generalize (adL p (pad (row m))).map drE=LD at *
  generalize pad (row m)=Pm at *
  generalize row m=Rm at *
  generalize (m.len-1)/2+1=h1 at *
  generalize (m.len-1)/2=hf at *
  generalize m.len-1=d at *
  simp -implicitDefEqProofs [Z6,Z6_B,dn_cond,e1,e2,e3,e4,e5,hq,w1,w2,hLD,htk,hcl,h8,List.replicate]
 ·have hno':¬ AdOk p l:=fun h=>h0 (adC_iff.2 h)
  rw [adL_bad hno'] at e1
  rw [ctL_bad hno']
  refine ask_of hT rfl ?_
  generalize adC p l=c at *
  simp -implicitDefEqProofs [Z6,Z6_B,dn_cond,e1,h0,ints_nil,List.replicate]
theorem k_sCountByTrace (hT:T F32=some Z32) (hsm:C_sSmall (den T A)) (hdg:K_sDeg (den T A)) (hct:K_sCount (den T A)) (hal:K_all (den T A) F45) (hfr:K_sFrob6 (den T A)) (hva:K_sValue (den T A)):K_CountByTrace (den T A) F32:=by
 intro p l bl gl
 have e1:=hsm p l bl gl
 by_cases h0:adC p l=0
 ·have hok:=adC_iff.1 h0
  have hok':=hok
  rw [h0] at e1 ⊢
  obtain ⟨ip,m,rfl,hm,h16⟩:=hok
  have h5:=hm.five
  have h2:=hm.two
  obtain ⟨hN,hN3⟩:=ctN_pad hm
  have e3:=hdg p m (by omega)
  rw [show (m.len:Int)-1=((m.len-1:Nat):Int) by omega] at e3
  have e4:=hct p ((m.len-1)/2+1) (by omega)
  rw [←hN,Int.min_eq_left (by omega)] at e4
  have e6:=hal p m hm h16
  rw [←adL_good hok' (by omega)] at e6
  have hgood:∀q∈adL p (pad (row m)),GoodQ m q:=by rw [adL_good hok' (by omega)]; exact good_all hm h16
  have hlen:=(adL_ok p (pad (row m))).2
  have e5:=l_sct (O:=den T A) hfr hva hm hgood hlen hN (adL p (pad (row m))).length 0 (List.replicate (ctN p (pad (row m))) 0) (Nat.zero_add _) List.length_replicate (rep_zero_in _)
  have e00:((0:Nat):Int)=0:=rfl
  rw [e00,List.drop_zero,←ctL_good hok'] at e5
  have hcl:(ctL p (pad (row m))).length=ctN p (pad (row m)):=by rw [ctL_good hok',ctS_length,List.length_replicate]
  have htk:(ctL p (pad (row m))).take (ctN p (pad (row m)))=ctL p (pad (row m)):=List.take_of_length_le (by omega)
  have hq:Int.tdiv ((m.len-1:Nat):Int) 2=(((m.len-1)/2:Nat):Int):=rfl
  have w1:IntKind.i64.wrap (((m.len-1)/2:Nat):Int)=(((m.len-1)/2:Nat):Int):=w64 (by omega)
  have w2:IntKind.i64.wrap ((((m.len-1)/2:Nat):Int)+1)=(((m.len-1)/2+1:Nat):Int):=(w64 (x:=(((m.len-1)/2:Nat):Int)+1) (by omega)).trans (by omega)
  have h8:ctN p (pad (row m))*8≤1099511627776:=by omega
  refine ask_of hT rfl ?_
  generalize ctN p (pad (row m))=N at *
  generalize ctL p (pad (row m))=C at *
  generalize (adL p (pad (row m))).length=ln at *
  generalize (adL p (pad (row m))).map drE=LD at *
  generalize pad (row m)=Pm at *
  generalize (m.len-1)/2+1=h1 at *
  generalize (m.len-1)/2=hf at *
  generalize m.len-1=d at *
  simp -implicitDefEqProofs [Z32,Z32_B,dn_cond,e1,e3,e4,e5,e6,hq,w1,w2,htk,hcl,h8,List.replicate]
 ·have hno':¬ AdOk p l:=fun h=>h0 (adC_iff.2 h)
  rw [ctL_bad hno']
  refine ask_of hT rfl ?_
  generalize adC p l=c at *
  simp -implicitDefEqProofs [Z32,Z32_B,dn_cond,e1,h0,ints_nil,List.replicate]
end Pe

namespace Pe
open Go Gq
variable {T:Nat→Option Fn} {A:Oracle}
abbrev srcB (code:List Int) (at_:Nat) (h:Int):Blk:=.box false (.st [.leaf,.leaf,.leaf] [.sl .leaf (ints .u8 code),.int .i64 at_,.int .u64 h])
def Src (b:Blk):Prop:=∃(code:List Int) (at_:Nat) (h:Int),b=srcB code at_ h∧at_≤code.length∧code.length≤1099511627776∧Bytes code
theorem wrap_u64 {n:Nat} (h:n≤16777215):IntKind.u64.wrap (n:Int)=n:=by
 simp [IntKind.wrap,IntKind.bits,IntKind.signed]; omega
theorem andI_le (x:Int):0≤andI .u64 x 16777215∧andI .u64 x 16777215≤16777215:=by
 have h1:(BitVec.ofInt 64 x &&& BitVec.ofInt 64 16777215).toNat≤16777215:=by
  rw [BitVec.toNat_and]
  exact Nat.and_le_right
 have h2:andI .u64 x 16777215=((BitVec.ofInt 64 x &&& BitVec.ofInt 64 16777215).toNat:Int):=wrap_u64 h1
 rw [h2]
 omega
theorem shr33:(2:Int)^min 33 IntKind.u64.bits=8589934592:=rfl
def H_next (O:Oracle) (F:Nat):Prop:=∀(b:Blk) (n:Int),Src b→n≤4611686018427387904→∃(x:Int) (b':Blk),O F [.ptr 0 [],(.d (.int .i64 n))] [b]=some ((.d (.int .i64 x)),[b'],[])∧Src b'∧0≤x∧(x<n∨x=0)
theorem h_next (hT:T F3r=some Z3r):H_next (den T A) F3r:=by
 rintro b n ⟨code,k,h,rfl,hk,hc,hb⟩ hn
 by_cases h1:n<1
 ·refine ⟨0,_,den_of hT rfl ?_,⟨code,k,h,rfl,hk,hc,hb⟩,Int.le_refl _,.inr rfl⟩
  simp -implicitDefEqProofs [Z3r,Z3r_B,dn_cond,h1]
 ·obtain ⟨hh,hhh⟩:∃hh:Int,IntKind.u64.wrap (IntKind.u64.wrap (h*6364136223846793005)+1442695040888963407)=hh:=⟨_,rfl⟩
  have hx:=andI_le (hh.fdiv 8589934592)
  obtain ⟨x,hX⟩:∃x:Int,andI .u64 (hh.fdiv 8589934592) 16777215=x:=⟨_,rfl⟩
  rw [hX] at hx
  have w0:IntKind.i64.wrap x=x:=w64 (by omega)
  have hn0:¬ n=0:=by omega
  have tm:∀y:Int,0≤y→0≤y.tmod n∧y.tmod n<n:=fun y hy=>by
   rw [Int.tmod_eq_emod_of_nonneg hy]
   exact ⟨Int.emod_nonneg _ hn0,Int.emod_lt_of_pos _ (by omega)⟩
  by_cases h2:k<code.length
  ·have hbk:=hb _ (List.getElem_mem h2)
   have h2':(k:Int)<code.length:=by omega
   have w1:IntKind.i64.wrap code[k]=code[k]:=w64 (by omega)
   have w2:IntKind.i64.wrap (x+code[k])=x+code[k]:=w64 (by omega)
   have w3:IntKind.i64.wrap ((k:Int)+1)=((k+1:Nat):Int):=(w64 (x:=(k:Int)+1) (by omega)).trans (by omega)
   obtain ⟨t1,t2⟩:=tm (x+code[k]) (by omega)
   refine ⟨(x+code[k]).tmod n,srcB code (k+1) hh,den_of hT rfl ?_,⟨code,k+1,hh,rfl,by omega,hc,hb⟩,t1,.inl t2⟩
   simp -implicitDefEqProofs [Z3r,Z3r_B,dn_cond,shiftI,shr33,h1,hn0,h2,h2',hhh,hX,w0,w1,w2,w3]
  ·have h2':¬ (k:Int)<code.length:=by omega
   obtain ⟨t1,t2⟩:=tm x (by omega)
   refine ⟨x.tmod n,srcB code k hh,den_of hT rfl ?_,⟨code,k,hh,rfl,hk,hc,hb⟩,t1,.inl t2⟩
   simp -implicitDefEqProofs [Z3r,Z3r_B,dn_cond,shiftI,shr33,h1,hn0,h2',hhh,hX,w0]
theorem l_from {O:Oracle} {code:List Int} (hc:code.length≤4096) (hb:Bytes code):∀(r i:Nat) (h:Int),i+r=code.length→∃h':Int,
 dn O 0 (.loop Z3i_L0) ⟨[(0,.d (.sl .leaf (ints .u8 code))),(3,.ptr 0 []),(4,(.d (.int .i64 i)))],[srcB code 0 h]⟩ =
  some (.exit 0,⟨[(0,.d (.sl .leaf (ints .u8 code))),(3,.ptr 0 []),(4,(.d (.int .i64 code.length))),(19,(.d (.bool false)))],[srcB code 0 h']⟩)
 | 0,i,h,hi=>by
  obtain rfl:i=code.length:=by omega
  refine ⟨h,dn_stop ?_⟩
  simp -implicitDefEqProofs [Z3i_L0,dn_cond]
 | r+1,i,h,hi=>by
  have hlt:i<code.length:=by omega
  have hlt':(i:Int)<code.length:=by omega
  have hq:(i:Int)<4096:=by omega
  have hbk:=hb _ (List.getElem_mem hlt)
  have w4:IntKind.i64.wrap ((i:Int)+1)=((i+1:Nat):Int):=(w64 (x:=(i:Int)+1) (by omega)).trans (by omega)
  obtain ⟨h2,hh2⟩:∃h2:Int,IntKind.u64.wrap (IntKind.u64.wrap (IntKind.u64.wrap (h*1099511628211)+IntKind.u64.wrap code[i])+61)=h2:=⟨_,rfl⟩
  obtain ⟨h',ih⟩:=l_from hc hb r (i+1) h2 (by omega)
  refine ⟨h',dn_round ?_ ih⟩
  simp -implicitDefEqProofs [Z3i_L0,dn_cond,hlt,hlt',hq,w4,hh2]
def H_from (O:Oracle):Prop:=∀code:List Int,Bytes code→code.length≤4096→∃b:Blk,O F3i [.d (.sl .leaf (ints .u8 code))] []=some (.ptr 0 [],[],[b])∧Src b
theorem h_from (hT:T F3i=some Z3i):H_from (den T A):=by
 intro code hb hc
 obtain ⟨h0,hh0⟩:∃h0:Int,IntKind.u64.wrap (12251+IntKind.u64.wrap (code.length:Int))=h0:=⟨_,rfl⟩
 obtain ⟨h',e⟩:=l_from (O:=den T A) hc hb code.length 0 h0 (Nat.zero_add _)
 rw [show ((0:Nat):Int)=0 from rfl,show srcB code 0 h0=.box false (.st [.leaf,.leaf,.leaf] [.sl .leaf (ints .u8 code),.int .i64 0,.int .u64 h0]) from rfl] at e
 refine ⟨srcB code 0 h',den_of hT rfl ?_,⟨code,0,h',rfl,Nat.zero_le _,by omega,hb⟩⟩
 simp -implicitDefEqProofs [Z3i,Z3i_B,hh0,e,List.idxOf,List.findIdx,List.findIdx.go]
def H_pick (O:Oracle):Prop:=∀(b:Blk) (l:List Int) (n:Nat) (cp:Option Nat),Src b→l.length=n→0<n→n≤100→∃(x:Int) (b':Blk),O F3u [.ptr 0 [],.sl 1 [] 0 n cp] [b,.sl false .leaf (ints .i64 l)]=some ((.d (.int .i64 x)),[b',.sl false .leaf (ints .i64 l)],[])∧Src b'∧x∈l
theorem h_pick (hT:T F3u=some Z3u) (hn:H_next (den T A) F3r):H_pick (den T A):=by
 rintro b l n cp hs hl hpos hm
 obtain ⟨x,b',e,hs',h0,h1⟩:=hn b n hs (by omega)
 obtain ⟨k,rfl⟩:∃k:Nat,x=k:=⟨x.toNat,by omega⟩
 have hk:k<n:=by omega
 have hkl:k<l.length:=by omega
 obtain ⟨c,a,h,rfl,_⟩:=id hs
 obtain ⟨c',a',h',rfl,_⟩:=id hs'
 refine ⟨l[k],_,den_of hT rfl ?_,hs',List.getElem_mem hkl⟩
 simp -implicitDefEqProofs [Z3u,Z3u_B,e,hk,hl,List.idxOf,List.findIdx,List.findIdx.go]
end Pe

namespace Pe
open Go Gq
variable {T:Nat→Option Fn} {A:Oracle}
structure DrI (p:Int) (Q:List Int) (n:Nat):Prop where
 l:Q.length=64
 c:Can p Q
 z:∀j,n≤j→cf Q j=0
theorem DrI.set {p:Int} {Q:List Int} {n k:Nat} {x:Int} (h:DrI p Q n) (h0:0≤x) (h1:x<p) (hk:k<n):DrI p (Q.set k x) n:=
 ⟨by rw [List.length_set]; exact h.l,fun y hy=>by
  rcases List.mem_or_eq_of_mem_set hy with g | rfl
  ·exact h.c y g
  ·exact ⟨h0,h1⟩,fun j hj=>by rw [cf_set,if_neg (by omega)]; exact h.z j hj⟩
section
variable {p:Int} [IsP p]
theorem DrI.pol {Q:List Int} {n:Nat} (h:DrI p Q n):Q=pad (row (polOf p Q))∧(polOf p Q).len≤n:=
 ⟨pad_of h.c h.l,Pol.len_le fun j hj=>by rw [polOf_c,h.z j hj]; rfl⟩
theorem l_draw {O:Oracle} (hn:H_next O F3r) {b1:Blk} {n:Nat} (hn64:n≤64):∀(k:Nat) (b:Blk) (Q:List Int),k≤n→Src b→DrI p Q n→∃(b':Blk) (Q':List Int),Src b'∧DrI p Q' n ∧
 dn O 1 (.loop ir_spec_l01Draw_L0) ⟨[(0,.ptr 0 []),(1,(.d (.int .i64 p))),(6,.ptr 1 []),(7,.ptr 2 []),(8,(.d (.int .i64 ((k:Int)-1))))],[b,b1,.box false (D.arr 64 .leaf (ints .u8 Q))]⟩ =
  some (.exit 0,⟨[(0,.ptr 0 []),(1,(.d (.int .i64 p))),(6,.ptr 1 []),(7,.ptr 2 []),(8,(.d (.int .i64 (-1)))),(16,(.d (.bool false)))],[b',b1,.box false (D.arr 64 .leaf (ints .u8 Q'))]⟩)
 | 0,b,Q,hk,hs,hQ=>by
  refine ⟨b,Q,hs,hQ,dn_stop ?_⟩
  obtain ⟨c,a,h,rfl,_⟩:=hs
  simp -implicitDefEqProofs [ir_spec_l01Draw_L0,dn_cond]
 | k+1,b,Q,hk,hs,hQ=>by
  have hp:=IsP.ge (p:=p)
  have hp7:=IsP.le (p:=p)
  obtain ⟨x,b2,e1,hs2,x0,x1⟩:=hn b 3 hs (by omega)
  have w1:IntKind.i64.wrap ((((k+1:Nat):Int)-1)-1)=(k:Int)-1:=(w64 (by omega)).trans (by omega)
  have hk1:((k+1:Nat):Int)-1=(k:Int):=by omega
  rw [hk1] at w1 ⊢
  have hge:(0:Int)≤k:=by omega
  have hkQ:k<Q.length:=by rw [hQ.l]; omega
  have hk64:k<64:=by omega
  by_cases hx:0<x
  ·obtain ⟨y,b3,e2,hs3,y0,y1⟩:=hn b2 p hs2 (by omega)
   have w2:IntKind.u8.wrap y=y:=w8 (by omega)
   obtain ⟨b',Q',hs',hQ',ih⟩:=l_draw hn (b1:=b1) hn64 k b3 (Q.set k y) (by omega) hs3 (hQ.set y0 (by omega) (by omega))
   refine ⟨b',Q',hs',hQ',dn_round ?_ ih⟩
   obtain ⟨c,a,h,rfl,_⟩:=hs
   obtain ⟨c2,a2,h2,rfl,_⟩:=hs2
   obtain ⟨c3,a3,h3,rfl,_⟩:=hs3
   simp -implicitDefEqProofs [ir_spec_l01Draw_L0,dn_cond,hge,e1,e2,hx,w1,w2,hkQ,hk64,List.idxOf,List.findIdx,List.findIdx.go]
  ·obtain ⟨b',Q',hs',hQ',ih⟩:=l_draw hn (b1:=b1) hn64 k b2 Q (by omega) hs2 hQ
   refine ⟨b',Q',hs',hQ',dn_round ?_ ih⟩
   obtain ⟨c,a,h,rfl,_⟩:=hs
   obtain ⟨c2,a2,h2,rfl,_⟩:=hs2
   simp -implicitDefEqProofs [ir_spec_l01Draw_L0,dn_cond,hge,e1,hx,w1,List.idxOf,List.findIdx,List.findIdx.go]
end
theorem DrI.zero (p:Int) [IsP p] (n:Nat):DrI p (pad []) n:=
 ⟨pad_length _,fun x hx=>by
  have hp:=IsP.ge (p:=p)
  have:x=0:=by
   unfold pad at hx
   obtain ⟨a,_,rfl⟩:∃a,a<64∧cf [] a=x:=by simpa using hx
   exact cf_ge (Nat.zero_le _)
  omega,fun j _=>(pad_cf (l:=[]) (by simp) j).trans (cf_ge (Nat.zero_le _))⟩
def H_draw (O:Oracle):Prop:=∀(p:Int) [IsP p] (b:Blk) (n:Nat),Src b→n≤63→∃(a:Fp p) (b':Blk),O F3h [.ptr 0 [],(.d (.int .i64 p)),(.d (.int .i64 ((n:Int))))] [b]=some (.d (D.arr 64 .leaf (ints .u8 (pad (row a)))),[b'],[])∧Src b'∧a.len≤n+1
theorem h_draw (hT:T F3h=some Z3h) (hn:H_next (den T A) F3r):H_draw (den T A):=by
 intro p ip b n hs h63
 obtain ⟨x,b2,e1,hs2,x0,x1⟩:=hn b ((n:Int)+2) hs (by omega)
 obtain ⟨k,rfl⟩:∃k:Nat,x=k:=⟨x.toNat,by omega⟩
 have w0:IntKind.i64.wrap ((n:Int)+2)=(n:Int)+2:=w64 (by omega)
 have w1:IntKind.i64.wrap ((k:Int)-1)=(k:Int)-1:=w64 (by omega)
 obtain ⟨b',Q,hs',hQ,e2⟩:=l_draw (p:=p) hn (b1:=.box false (D.arr 64 .leaf (ints .u8 (pad [])))) (n:=n+1) (by omega) k b2 (pad []) (by omega) hs2 (.zero p _)
 obtain ⟨q1,q2⟩:=hQ.pol
 refine ⟨polOf p Q,b',den_of hT rfl ?_,hs',q2⟩
 rw [←q1]
 obtain ⟨c,a,h,rfl,_⟩:=hs
 obtain ⟨c2,a2,h2,rfl,_⟩:=hs2
 obtain ⟨c',a',h',rfl,_⟩:=hs'
 simp -implicitDefEqProofs [Z3h,ir_spec_l01Draw_B,w0,e1,w1,e2,List.replicate,List.idxOf,List.findIdx,List.findIdx.go]
theorem DrI.up {p:Int} {Q:List Int} {n m:Nat} (h:DrI p Q n) (hm:n≤m):DrI p Q m:=⟨h.l,h.c,fun j hj=>h.z j (by omega)⟩
end Pe

namespace Pe
open Go Gq
variable {T:Nat→Option Fn} {A:Oracle}
def Arr (l:List Int):Prop:=l.length=64∧Bytes l
theorem arr_row {p:Int} [IsP p] (a:Fp p):Arr (pad (row a)):=⟨pad_length _,pad_bytes a⟩
end Pe

namespace Gq
def Pr (l:Nat):Prop:=2≤l∧∀d,d∣l→d=1∨d=l
theorem Pr.coprime {l n:Nat} (h:Pr l) (hn:¬ l∣n):Nat.Coprime l n:=by
 rcases h.2 _ (Nat.gcd_dvd_left l n) with h1 | h1
 ·exact h1
 ·exact absurd (h1▸Nat.gcd_dvd_right l n) hn
theorem pr_ex:∀(n:Nat),2≤n→∃l,Pr l∧l∣n:=by
 intro n
 induction n using Nat.strongRecOn with
 | ind n ih=>
  intro hn
  by_cases h:Pr n
  ·exact ⟨n,h,Nat.dvd_refl n⟩
  ·have:∃d,d∣n∧d≠1∧d≠n:=by
    apply Classical.byContradiction
    intro hno
    refine h ⟨hn,fun d hd=>?_⟩
    apply Classical.byContradiction
    intro h2
    exact hno ⟨d,hd,fun e=>h2 (.inl e),fun e=>h2 (.inr e)⟩
   obtain ⟨d,hd,h1,h2⟩:=this
   have hle:=Nat.le_of_dvd (by omega) hd
   have h0:d≠0:=fun e=>by
    rw [e] at hd
    have:=Nat.eq_zero_of_zero_dvd hd
    omega
   obtain ⟨l,hl,hld⟩:=ih d (by omega) (by omega)
   exact ⟨l,hl,Nat.dvd_trans hld hd⟩
theorem Pr.dvd_mul {l a b:Nat} (h:Pr l) (hd:l∣a*b):l∣a∨l∣b:=by
 by_cases ha:l∣a
 ·exact .inl ha
 ·exact .inr ((h.coprime ha).dvd_of_dvd_mul_left hd)
theorem Pr.dvd_pr {l q:Nat} (h:Pr l) (hq:Pr q) (hd:l∣q):l=q:=by
 rcases hq.2 l hd with h1 | h1
 ·have:=h.1; omega
 ·exact h1
theorem one_of {n:Nat} (h0:1≤n) (h:∀l,Pr l→¬ l∣n):n=1:=by
 apply Classical.byContradiction
 intro h1
 obtain ⟨l,hl,hd⟩:=pr_ex n (by omega)
 exact h l hl hd
section
variable {R:Type} [CR R]
theorem pw_dvd {x:R} {n k:Nat} (h:pw x n=1) (hd:n∣k):pw x k=1:=by
 obtain ⟨c,rfl⟩:=hd
 rw [←pw_pw,h,pw_one]
def Ord (x:R) (n:Nat):Prop:=∀k,pw x k=1↔n∣k
theorem Ord.self {x:R} {n:Nat} (h:Ord x n):pw x n=1:=(h n).2 (Nat.dvd_refl n)
theorem Ord.unique {x:R} {n m:Nat} (h:Ord x n) (h':Ord x m):n=m:=Nat.dvd_antisymm ((h m).1 h'.self) ((h' n).1 h.self)
theorem Ord.mul {a b:R} {m n:Nat} (ha:Ord a m) (hb:Ord b n) (h:Nat.Coprime m n):Ord (a*b) (m*n):=fun k=>by
 constructor
 ·intro hk
  have h1:m∣k:=by
   have e:pw a (k*n)=1:=by
    have e1:pw (a*b) (k*n)=1:=by rw [←pw_pw,hk,pw_one]
    rw [pw_mul,pw_dvd hb.self (Nat.dvd_mul_left n k),mul_one] at e1
    exact e1
   exact h.dvd_of_dvd_mul_right ((ha _).1 e)
  have h2:n∣k:=by
   have e:pw b (k*m)=1:=by
    have e1:pw (a*b) (k*m)=1:=by rw [←pw_pw,hk,pw_one]
    rw [pw_mul,pw_dvd ha.self (Nat.dvd_mul_left m k),one_mul] at e1
    exact e1
   exact h.symm.dvd_of_dvd_mul_right ((hb _).1 e)
  exact h.mul_dvd_of_dvd_of_dvd h1 h2
 ·intro hd
  rw [pw_mul,pw_dvd ha.self (Nat.dvd_trans (Nat.dvd_mul_right m n) hd),pw_dvd hb.self (Nat.dvd_trans (Nat.dvd_mul_left n m) hd),mul_one]
end
structure OrdI (n q rest order:Nat) (fin:Bool):Prop where
 dv:n∣order
 pos:1≤order
 low:∀l,Pr l→l<q→¬ l*n∣order∧¬ l∣rest
 rel:∃c,order=rest*c∧(∀l,Pr l→q<l→¬ l∣c)∧(fin=false→Pr q→¬ q∣c)
 fin:fin=true→¬ q*n∣order
theorem OrdI.rest_pos {n q rest order:Nat} {f:Bool} (h:OrdI n q rest order f):1≤rest:=by
 obtain ⟨c,e,-⟩:=h.rel
 have:=h.pos
 rcases Nat.eq_zero_or_pos rest with h0 | h0
 ·rw [h0,Nat.zero_mul] at e; omega
 ·exact h0
theorem OrdI.init {n N:Nat} (hN:1≤N) (h:n∣N):OrdI n 2 N N false where
 dv:=h
 pos:=hN
 low:=fun l hl h2=>by have:=hl.1; omega
 rel:=⟨1,(Nat.mul_one N).symm,fun l hl _ hd=>by have:=hl.1; have:=Nat.le_of_dvd (by omega) hd; omega,fun _ hq hd=>by have:=hq.1; have:=Nat.le_of_dvd (by omega) hd; omega⟩
 fin:=fun h=>by cases h
theorem OrdI.prime {n q rest order:Nat} {f:Bool} (h:OrdI n q rest order f) (h2:2≤q) (hd:q∣rest):Pr q:=by
 obtain ⟨l,hl,hlq⟩:=pr_ex q h2
 rcases Nat.lt_or_ge l q with h1 | h1
 ·exact absurd (Nat.dvd_trans hlq hd) (h.low l hl h1).2
 ·have:=Nat.le_of_dvd (by omega) hlq
  obtain rfl:l=q:=by omega
  exact hl
theorem OrdI.no {n q r c':Nat} {f:Bool} (h:OrdI n q (q*r) (q*c') f) (h2:2≤q) (hd:¬ n∣c'):OrdI n q r (q*c') true where
 dv:=h.dv
 pos:=h.pos
 low:=fun l hl h1=>by
  obtain ⟨a,b⟩:=h.low l hl h1
  exact ⟨a,fun e=>b (Nat.dvd_trans e (Nat.dvd_mul_left r q))⟩
 rel:=by
  have hq:=h.prime h2 (Nat.dvd_mul_right q r)
  obtain ⟨c,e,h3,_⟩:=h.rel
  refine ⟨q*c,by rw [e,Nat.mul_assoc,Nat.mul_left_comm],fun l hl h4 hl2=>?_,fun hf=>by cases hf⟩
  rcases hl.dvd_mul hl2 with h5 | h5
  ·have:=hl.dvd_pr hq h5; omega
  ·exact h3 l hl h4 h5
 fin:=fun _ e=>hd (Nat.dvd_of_mul_dvd_mul_left (by omega) e)
theorem OrdI.next {n q rest order:Nat} {f:Bool} (h:OrdI n q rest order f) (h2:2≤q) (hd:¬ q∣rest):OrdI n (q+1) rest order false where
 dv:=h.dv
 pos:=h.pos
 low:=fun l hl h1=>by
  rcases Nat.lt_or_ge l q with h3 | h3
  ·exact h.low l hl h3
  ·obtain rfl:l=q:=by omega
   refine ⟨fun e=>?_,hd⟩
   cases f with
   | true=>exact h.fin rfl e
   | false=>
    obtain ⟨c,e1,_,h5⟩:=h.rel
    have:l∣rest*c:=e1▸Nat.dvd_trans (Nat.dvd_mul_right l n) e
    rcases hl.dvd_mul this with h6 | h6
    ·exact hd h6
    ·exact h5 rfl hl h6
 rel:=by
  obtain ⟨c,e1,h4,_⟩:=h.rel
  exact ⟨c,e1,fun l hl h5=>h4 l hl (by omega),fun _ hq=>h4 _ hq (by omega)⟩
 fin:=fun hf=>by cases hf
theorem OrdI.done {n q rest order:Nat} (h:OrdI n q rest order false) (hq:rest<q):order=n:=by
 have hr:rest=1:=one_of h.rest_pos fun l hl hd=>by
  have:=Nat.le_of_dvd h.rest_pos hd
  exact (h.low l hl (by omega)).2 hd
 obtain ⟨c,e1,h4,h5⟩:=h.rel
 rw [hr,Nat.one_mul] at e1
 obtain ⟨k,hk⟩:=h.dv
 have hk1:k=1:=one_of (by
  have:=h.pos
  rcases Nat.eq_zero_or_pos k with h0 | h0
  ·rw [h0,Nat.mul_zero] at hk; omega
  ·exact h0) fun l hl hd=>by
  have hln:l*n∣order:=by
   rw [hk,Nat.mul_comm l n]; exact Nat.mul_dvd_mul_left n hd
  rcases Nat.lt_or_ge l q with h6 | h6
  ·exact (h.low l hl h6).1 hln
  ·have hlc:l∣c:=e1▸Nat.dvd_trans (Nat.dvd_mul_right l n) hln
   rcases Nat.lt_or_ge q l with h7 | h7
   ·exact h4 l hl h7 hlc
   ·obtain rfl:l=q:=by omega
    exact h5 rfl hl hlc
 rw [hk,hk1,Nat.mul_one]
end Gq

namespace Pe
open Gq
section
variable {p:Int}
def IsPrim (m:Fp p) (k:Nat):Prop:=1≤k∧(k:Int)<p^(m.len-1)∧Ord (Quo.mk m (numP p k)) (p.toNat^(m.len-1)-1)∧∀j:Nat,1≤j→j<k→¬ Ord (Quo.mk m (numP p j)) (p.toNat^(m.len-1)-1)
theorem IsPrim.unique {m:Fp p} {j k:Nat} (hj:IsPrim m j) (hk:IsPrim m k):j=k:=by
 rcases Nat.lt_or_ge j k with h | h
 ·exact absurd hj.2.2.1 (hk.2.2.2 j hj.1 h)
 ·rcases Nat.lt_or_ge k j with h2 | h2
  ·exact absurd hk.2.2.1 (hj.2.2.2 k hk.1 h2)
  ·omega
noncomputable def dgF:Facs p→Nat
 | []=>0
 | x::L=>x.2*(x.1.len-1)+dgF L
theorem pw_len [IsP p] {q:Fp p} (h:Monic q):∀k,(pw q k).len=k*(q.len-1)+1
 | 0=>by rw [Nat.zero_mul]; exact Pol.len_one
 | k+1=>by
  have h1:=Pol.len_mul (Monic.pw h k).2 h.2
  have h2:=pw_len h k
  have h3:=Pol.len_pos h.2
  show (pw q k*q).len=_
  rw [Nat.succ_mul]; omega
theorem dgF_len [IsP p]:∀{L:Facs p},FacOk L→(prodF L).len=dgF L+1
 | [],_=>Pol.len_one
 | x::L,h=>by
  have hm:=(h.irr x (by simp)).2.1
  have ht:FacOk L:=⟨fun y hy=>h.irr y (by simp [hy]),h.dis.tail⟩
  have h1:=dgF_len ht
  have h2:=Pol.len_mul (Monic.pw hm x.2).2 (prodF_monic ht).2
  rw [pw_len hm] at h2
  rw [prodF_cons,dgF]; omega
end
end Pe


namespace Pe
open Go Gq
variable {T:Nat→Option Fn} {A:Oracle}
section
variable {p:Int} [IsP p]
end
section
variable {p:Int} [IsP p]
end
section
variable {p:Int} [IsP p]
end
end Pe

namespace Pe
open Go Gq
variable {T:Nat→Option Fn} {A:Oracle}
end Pe

namespace Pe
open Go Gq
variable {T:Nat→Option Fn} {A:Oracle}
section
variable {p:Int} [IsP p]
theorem IsFac.small {m:Fp p} (hm:m≠0) (hl:m.len≤13) {L:Facs p} (h:IsFac m L):(∀x∈L,2≤x.1.len∧x.1.len≤13∧1≤x.2∧x.2≤12)∧dgF L+1=m.len:=by
 refine ⟨fun x hx=>?_,?_⟩
 ·obtain ⟨q1,q2,q3,_⟩:=h.len hm hx
  exact ⟨q1,by omega,(h.ok.irr x hx).2.2,by omega⟩
 ·rw [←dgF_len h.ok]
  conv=>rhs; rw [h.eq]
  exact (Pol.len_Cmul (Pol.ld_ne hm) _).symm
end
section
variable {p:Int} [IsP p]
end
end Pe

namespace Pe
open Go Gq
variable {T:Nat→Option Fn} {A:Oracle}
section
variable {p:Int} [IsP p]
end
end Pe

namespace Pe
open Go Gq
variable {T:Nat→Option Fn} {A:Oracle}
def fineP (p:Int):Int:=if isP p then p else 3
theorem fineP_ok (p:Int):IsP (fineP p):=by
 unfold fineP
 by_cases h:isP p=true
 ·rw [if_pos h]; exact isP_of h
 ·rw [if_neg h]; exact ⟨by omega⟩
def C_sFine (O:Oracle):Prop:=∀p:Int,ask O F41 [(D.int .i64 p)]=some (D.int .i64 (fineP p))
theorem c_sFine (hT:T F41=some Z41) (hp:C_sPrime (den T A)):C_sFine (den T A):=by
 intro p
 have e:=hp p
 unfold fineP
 refine ask_of hT rfl ?_
 by_cases h:isP p=true
 ·rw [h] at e
  rw [if_pos h]
  simp -implicitDefEqProofs [Z41,Z41_B,dn_cond,e]
 ·rw [Bool.not_eq_true] at h
  rw [h] at e
  rw [if_neg (by rw [h]; exact Bool.false_ne_true)]
  simp -implicitDefEqProofs [Z41,Z41_B,dn_cond,e]
end Pe

namespace Pe
open Go Gq
section
variable {p:Int}
end
section
variable {p:Int} [IsP p]
end
end Pe

namespace Pe
open Go Gq
variable {T:Nat→Option Fn} {A:Oracle}
section
variable {p:Int} [IsP p]
end
end Pe

namespace Pe
open Go Gq
variable {T:Nat→Option Fn} {A:Oracle}
section
variable {p:Int} [ip:IsP p] {M X:Fp p}
end
end Pe

namespace Pe
open Go Gq
variable {T:Nat→Option Fn} {A:Oracle}
end Pe

namespace Pe
open Go Gq
variable {T:Nat→Option Fn} {A:Oracle}
end Pe

namespace Pe
open Go Gq
variable {T:Nat→Option Fn} {A:Oracle}
def C_big (O:Oracle):Prop:=∀L:List D,ask O F27 [.sl .leaf L]=some (D.bool (decide ((4096:Int)<L.length)))
theorem two_code {p:Int} [IsP p] (a b:Fp p):codeP p [pad (row a),pad (row b)]=0:=codeP_good [a,b]
theorem c_big (hT:T F27=some Z27):C_big (den T A):=by
 intro L
 refine ask_of hT rfl ?_
 simp -implicitDefEqProofs [Z27,Z27_B]
end Pe

namespace Pe
open Go Gq
variable {T:Nat→Option Fn} {A:Oracle}
theorem l_roll {O:Oracle} {code:List Int} (hc:code.length≤4096) (hb:Bytes code):∀(r i:Nat) (h:Int),i+r=code.length→∃h':Int,
 dn O 0 (.loop Z2b_L0) ⟨[(0,.d (.sl .leaf (ints .u8 code))),(5,.ptr 0 []),(6,(.d (.int .i64 i)))],[srcB code 0 h]⟩ =
  some (.exit 0,⟨[(0,.d (.sl .leaf (ints .u8 code))),(5,.ptr 0 []),(6,(.d (.int .i64 code.length))),(19,(.d (.bool false)))],[srcB code 0 h']⟩)
 | 0,i,h,hi=>by
  obtain rfl:i=code.length:=by omega
  refine ⟨h,dn_stop ?_⟩
  simp -implicitDefEqProofs [Z2b_L0,dn_cond]
 | r+1,i,h,hi=>by
  have hlt:i<code.length:=by omega
  have hlt':(i:Int)<code.length:=by omega
  have hbk:=hb _ (List.getElem_mem hlt)
  have w4:IntKind.i64.wrap ((i:Int)+1)=((i+1:Nat):Int):=(w64 (x:=(i:Int)+1) (by omega)).trans (by omega)
  obtain ⟨h2,hh2⟩:∃h2:Int,IntKind.u64.wrap (IntKind.u64.wrap (IntKind.u64.wrap (h*1099511628211)+IntKind.u64.wrap code[i])+5)=h2:=⟨_,rfl⟩
  obtain ⟨h',ih⟩:=l_roll hc hb r (i+1) h2 (by omega)
  refine ⟨h',dn_round ?_ ih⟩
  simp -implicitDefEqProofs [Z2b_L0,dn_cond,hlt,hlt',w4,hh2]
def H_roll (O:Oracle):Prop:=∀(code:List Int) (s:Int),Bytes code→code.length≤4096→∃b:Blk,O F2b [.d (.sl .leaf (ints .u8 code)),.d (.int .u64 s)] []=some (.ptr 0 [],[],[b])∧Src b
theorem h_roll (hT:T F2b=some Z2b):H_roll (den T A):=by
 intro code s hb hc
 obtain ⟨h0,hh0⟩:∃h0:Int,IntKind.u64.wrap (IntKind.u64.wrap (s*8219)+IntKind.u64.wrap (code.length:Int))=h0:=⟨_,rfl⟩
 obtain ⟨h',e⟩:=l_roll (O:=den T A) hc hb code.length 0 h0 (Nat.zero_add _)
 rw [show ((0:Nat):Int)=0 from rfl,show srcB code 0 h0=.box false (.st [.leaf,.leaf,.leaf] [.sl .leaf (ints .u8 code),.int .i64 0,.int .u64 h0]) from rfl] at e
 refine ⟨srcB code 0 h',den_of hT rfl ?_,⟨code,0,h',rfl,Nat.zero_le _,by omega,hb⟩⟩
 simp -implicitDefEqProofs [Z2b,Z2b_B,hh0,e,List.idxOf,List.findIdx,List.findIdx.go]
theorem h_below (hT:T F28=some Z28):H_next (den T A) F28:=by
 rintro b n ⟨code,k,h,rfl,hk,hc,hb⟩ hn
 by_cases h1:n<1
 ·refine ⟨0,_,den_of hT rfl ?_,⟨code,k,h,rfl,hk,hc,hb⟩,Int.le_refl _,.inr rfl⟩
  simp -implicitDefEqProofs [Z28,ir_laws_dice_below_B,dn_cond,h1]
 ·obtain ⟨hh,hhh⟩:∃hh:Int,IntKind.u64.wrap (IntKind.u64.wrap (h*6364136223846793005)+1442695040888963407)=hh:=⟨_,rfl⟩
  have hx:=andI_le (hh.fdiv 8589934592)
  obtain ⟨x,hX⟩:∃x:Int,andI .u64 (hh.fdiv 8589934592) 16777215=x:=⟨_,rfl⟩
  rw [hX] at hx
  have w0:IntKind.i64.wrap x=x:=w64 (by omega)
  have hn0:¬ n=0:=by omega
  have tm:∀y:Int,0≤y→0≤y.tmod n∧y.tmod n<n:=fun y hy=>by
   rw [Int.tmod_eq_emod_of_nonneg hy]
   exact ⟨Int.emod_nonneg _ hn0,Int.emod_lt_of_pos _ (by omega)⟩
  by_cases h2:k<code.length
  ·have hbk:=hb _ (List.getElem_mem h2)
   have h2':(k:Int)<code.length:=by omega
   have w1:IntKind.i64.wrap code[k]=code[k]:=w64 (by omega)
   have w2:IntKind.i64.wrap (x+code[k])=x+code[k]:=w64 (by omega)
   have w3:IntKind.i64.wrap ((k:Int)+1)=((k+1:Nat):Int):=(w64 (x:=(k:Int)+1) (by omega)).trans (by omega)
   obtain ⟨t1,t2⟩:=tm (x+code[k]) (by omega)
   refine ⟨(x+code[k]).tmod n,srcB code (k+1) hh,den_of hT rfl ?_,⟨code,k+1,hh,rfl,by omega,hc,hb⟩,t1,.inl t2⟩
   simp -implicitDefEqProofs [Z28,ir_laws_dice_below_B,dn_cond,shiftI,shr33,h1,hn0,h2,h2',hhh,hX,w0,w1,w2,w3]
  ·have h2':¬ (k:Int)<code.length:=by omega
   obtain ⟨t1,t2⟩:=tm x (by omega)
   refine ⟨x.tmod n,srcB code k hh,den_of hT rfl ?_,⟨code,k,hh,rfl,hk,hc,hb⟩,t1,.inl t2⟩
   simp -implicitDefEqProofs [Z28,ir_laws_dice_below_B,dn_cond,shiftI,shr33,h1,hn0,h2',hhh,hX,w0]
theorem l_poly9 {O:Oracle} (hn:H_next O F28) {p:Int} [IsP p] {b1:Blk} {n:Nat} (hn64:n≤60):∀(r i:Nat) (b:Blk) (Q:List Int),i+r=n+1→Src b→DrI p Q (n+1)→∃(b':Blk) (Q':List Int),Src b'∧DrI p Q' (n+1) ∧
 dn O 1 (.loop Z2a_L0) ⟨[(0,.ptr 0 []),(1,(.d (.int .i64 p))),(2,(.d (.int .i64 ((n:Int))))),(6,.ptr 1 []),(7,.ptr 2 []),(8,(.d (.int .i64 i)))],[b,b1,.box false (D.arr 64 .leaf (ints .u8 Q))]⟩ =
  some (.exit 0,⟨[(0,.ptr 0 []),(1,(.d (.int .i64 p))),(2,(.d (.int .i64 ((n:Int))))),(6,.ptr 1 []),(7,.ptr 2 []),(8,(.d (.int .i64 (((n+1:Nat):Int))))),(12,(.d (.bool false)))],[b',b1,.box false (D.arr 64 .leaf (ints .u8 Q'))]⟩)
 | 0,i,b,Q,hi,hs,hQ=>by
  obtain rfl:i=n+1:=by omega
  refine ⟨b,Q,hs,hQ,dn_stop ?_⟩
  obtain ⟨c,a,h,rfl,_⟩:=hs
  have hle:¬ ((n+1:Nat):Int)≤n:=by omega
  generalize ((n+1:Nat):Int)=nn at *
  simp -implicitDefEqProofs [Z2a_L0,dn_cond,hle]
 | r+1,i,b,Q,hi,hs,hQ=>by
  have hp:=IsP.ge (p:=p)
  have hp7:=IsP.le (p:=p)
  obtain ⟨y,b3,e2,hs3,y0,y1⟩:=hn b p hs (by omega)
  have w2:IntKind.u8.wrap y=y:=w8 (by omega)
  have w4:IntKind.i64.wrap ((i:Int)+1)=((i+1:Nat):Int):=(w64 (x:=(i:Int)+1) (by omega)).trans (by omega)
  have hle:i≤n:=by omega
  have hiQ:i<Q.length:=by rw [hQ.l]; omega
  have hi64:i<64:=by omega
  obtain ⟨b',Q',hs',hQ',ih⟩:=l_poly9 hn (b1:=b1) hn64 r (i+1) b3 (Q.set i y) (by omega) hs3 (hQ.set y0 (by omega) (by omega))
  refine ⟨b',Q',hs',hQ',dn_round ?_ ih⟩
  obtain ⟨c,a,h,rfl,_⟩:=hs
  obtain ⟨c3,a3,h3,rfl,_⟩:=hs3
  simp -implicitDefEqProofs [Z2a_L0,dn_cond,hle,e2,w2,w4,hiQ,hi64,List.idxOf,List.findIdx,List.findIdx.go]
def H_poly9 (O:Oracle):Prop:=∀(p:Int) [IsP p] (b:Blk) (n:Nat),Src b→n≤60→∃(a:Fp p) (b':Blk),O F2a [.ptr 0 [],(.d (.int .i64 p)),(.d (.int .i64 ((n:Int))))] [b]=some (.d (D.arr 64 .leaf (ints .u8 (pad (row a)))),[b'],[])∧Src b'∧a.len≤n+1
theorem h_poly9 (hT:T F2a=some Z2a) (hn:H_next (den T A) F28):H_poly9 (den T A):=by
 intro p ip b n hs h60
 obtain ⟨b',Q,hs',hQ,e2⟩:=l_poly9 (p:=p) hn (b1:=.box false (D.arr 64 .leaf (ints .u8 (pad [])))) (n:=n) h60 (n+1) 0 b (pad []) (by omega) hs (.zero p _)
 rw [show ((0:Nat):Int)=0 from rfl] at e2
 obtain ⟨q1,q2⟩:=hQ.pol
 refine ⟨polOf p Q,b',den_of hT rfl ?_,hs',q2⟩
 rw [←q1]
 obtain ⟨c,a,h,rfl,_⟩:=hs
 obtain ⟨c',a',h',rfl,_⟩:=hs'
 simp -implicitDefEqProofs [Z2a,Z2a_B,e2,List.replicate,List.idxOf,List.findIdx]
end Pe

namespace Pe
open Go Gq
variable {T:Nat→Option Fn} {A:Oracle}
theorem arr2 {a m:List Int} (ha:Bytes a) (gl:a.length=64) (hm:Bytes m) (glm:m.length=64):Arrs [a,m]:=fun x hx=>by
 simp at hx
 rcases hx with rfl | rfl
 ·exact ⟨gl,ha⟩
 ·exact ⟨glm,hm⟩
def K_DegreeOf (O:Oracle):Prop:=∀(p:Int) [IsP p] (a:Fp p),a.len≤64→ask O F7 [(D.int .i64 p),(D.arr 64 .leaf (ints .u8 (pad (row a))))]=some (.tup [(D.int .i64 ((a.len:Int)-1)),(D.int .i64 0)])
theorem k_DegreeOf (hT:T F7=some Z7) (hpc:C_polysCode (den T A)) (hro:K_rowOf (den T A)) (hdg:C_degree (den T A)):K_DegreeOf (den T A):=by
 intro p ip a hl
 have e1:=hpc p [pad (row a)] (fun x hx=>by simp at hx; subst hx; exact ⟨pad_length _,pad_bytes a⟩) (by simp)
 rw [codeP_one,show [pad (row a)].map arr8=[(D.arr 64 .leaf (ints .u8 (pad (row a))))] from rfl] at e1
 have e2:=hro p a hl
 have e3:=hdg (row a) (by rw [row_length]; omega)
 rw [row_length] at e3
 refine ask_of hT rfl ?_
 generalize (a.len:Int)-1=n at *
 generalize pad (row a)=Px at *
 generalize row a=Rx at *
 simp -implicitDefEqProofs [Z7,Z7_B,dn_cond,e1,e2,e3,List.replicate]
end Pe

namespace Pe
open Go Gq
variable {T:Nat→Option Fn} {A:Oracle}
theorem l_like {O:Oracle} {l:List Int} (hl:l.length<1000000):∀(k i:Nat),i+k=l.length →
 dn O 0 (.loop Z29_L0) ⟨[(0,(.d (.sl .leaf (ints .i64 l)))),(1,(.d (.sl .leaf (ints .i64 l)))),(5,(.d (.int .i64 i)))],[]⟩ =
  some (.exit 0,⟨[(0,(.d (.sl .leaf (ints .i64 l)))),(1,(.d (.sl .leaf (ints .i64 l)))),(5,(.d (.int .i64 l.length))),(14,(.d (.bool false)))],[]⟩)
 | 0,i,hi=>by
  obtain rfl:i=l.length:=by omega
  exact dn_stop (by simp -implicitDefEqProofs [Z29_L0,dn_cond])
 | k+1,i,hi=>by
  have hlt:i<l.length:=by omega
  have w4:IntKind.i64.wrap ((i:Int)+1)=((i+1:Nat):Int):=(w64 (x:=(i:Int)+1) (by omega)).trans (by omega)
  refine dn_round ?_ (l_like hl k (i+1) (by omega))
  simp -implicitDefEqProofs [Z29_L0,dn_cond,hlt,w4]
def C_likeInts (O:Oracle):Prop:=∀l:List Int,l.length<1000000→ask O F29 [(D.sl .leaf (ints .i64 l)),(D.sl .leaf (ints .i64 l))]=some (D.bool true)
theorem c_likeInts (hT:T F29=some Z29):C_likeInts (den T A):=by
 intro l hl
 have e:=l_like (O:=den T A) hl l.length 0 (Nat.zero_add _)
 rw [show ((0:Nat):Int)=0 from rfl] at e
 refine ask_of hT rfl ?_
 simp -implicitDefEqProofs [Z29,Z29_B,dn_cond,e]
theorem l_sum {O:Oracle} {l:List Int} (hl:l.length<1000000):∀(k i:Nat),i+k=l.length →
 dn O 0 (.loop Z2c_L0) ⟨[(0,(.d (.sl .leaf (ints .i64 l)))),(3,(.d (.int .i64 (sumW l i)))),(4,(.d (.int .i64 i)))],[]⟩ =
  some (.exit 0,⟨[(0,(.d (.sl .leaf (ints .i64 l)))),(3,(.d (.int .i64 (sumW l l.length)))),(4,(.d (.int .i64 l.length))),(8,(.d (.bool false)))],[]⟩)
 | 0,i,hi=>by
  obtain rfl:i=l.length:=by omega
  exact dn_stop (by simp -implicitDefEqProofs [Z2c_L0,dn_cond])
 | k+1,i,hi=>by
  have hlt:i<l.length:=by omega
  have hx:l[i]=cf l i:=(cf_lt hlt).symm
  have w4:IntKind.i64.wrap ((i:Int)+1)=((i+1:Nat):Int):=(w64 (x:=(i:Int)+1) (by omega)).trans (by omega)
  refine dn_round ?_ (l_sum hl k (i+1) (by omega))
  simp -implicitDefEqProofs [Z2c_L0,dn_cond,hlt,hx,w4,sumW]
def C_sumInts (O:Oracle):Prop:=∀l:List Int,l.length<1000000→ask O F2c [(D.sl .leaf (ints .i64 l))]=some (D.int .i64 (sumW l l.length))
theorem c_sumInts (hT:T F2c=some Z2c):C_sumInts (den T A):=by
 intro l hl
 have e:=l_sum (O:=den T A) hl l.length 0 (Nat.zero_add _)
 rw [show ((0:Nat):Int)=0 from rfl,show sumW l 0=0 from rfl] at e
 refine ask_of hT rfl ?_
 simp -implicitDefEqProofs [Z2c,Z2c_B,e]
end Pe

namespace Pe
open Go Gq
variable {T:Nat→Option Fn} {A:Oracle}
def K_PlusPolys (O:Oracle) (F:Nat) (k:Int):Prop:=∀(p:Int) [IsP p] (a b:Fp p),a.len≤64→b.len≤64→ask O F [(D.int .i64 p),(D.arr 64 .leaf (ints .u8 (pad (row a)))),(D.arr 64 .leaf (ints .u8 (pad (row b))))]=some (.tup [(D.arr 64 .leaf (ints .u8 (pad (row (a+Pol.C (zp p k)*b))))),(D.int .i64 0)])
theorem plus_le {p:Int} [IsP p] {a b:Fp p} {n:Nat} (k:Zp p) (ha:a.len≤n) (hb:b.len≤n):(a+Pol.C k*b).len≤n:=
 Pol.len_le fun j hj=>by
  rw [Pol.c_add,Pol.c_Cmul,a.lt_len j (by omega),b.lt_len j (by omega),Gq.mul_zero,Gq.add_zero]
theorem k_AddPolys (hT:T F4=some Z4) (hpc:C_polysCode (den T A)) (hro:K_rowOf (den T A)) (hco:K_combine (den T A)) (hto:C_told (den T A)):K_PlusPolys (den T A) F4 1:=by
 intro p ip X M hX hM
 have e1:=hpc p [pad (row X),pad (row M)] (arr2 (pad_bytes X) (pad_length _) (pad_bytes M) (pad_length _)) (by simp)
 rw [two_code,show [pad (row X),pad (row M)].map arr8=[(D.arr 64 .leaf (ints .u8 (pad (row X)))),(D.arr 64 .leaf (ints .u8 (pad (row M))))] from rfl] at e1
 have e2:=hro p X hX
 have e3:=hro p M hM
 have e4:=hco p 1 X M (by omega) (by omega) (by omega) (by omega)
 have hl:=plus_le (zp p 1) hX hM
 have e5:=hto (row (X+Pol.C (zp p 1)*M)) (row_bytes _) (by rw [row_length]; omega)
 unfold toldD at e5
 rw [row_length,if_pos hl] at e5
 refine ask_of hT rfl ?_
 generalize pad (row (X+Pol.C (zp p 1)*M))=Pr at *
 generalize row (X+Pol.C (zp p 1)*M)=Rr at *
 generalize pad (row X)=Px at *
 generalize row X=Rx at *
 generalize pad (row M)=Pm at *
 generalize row M=Rm at *
 simp -implicitDefEqProofs [Z4,Z4_B,dn_cond,e1,e2,e3,e4,e5,List.replicate]
theorem k_SubtractPolys (hT:T Fm=some Zm) (hpc:C_polysCode (den T A)) (hro:K_rowOf (den T A)) (hco:K_combine (den T A)) (hto:C_told (den T A)):K_PlusPolys (den T A) Fm (-1):=by
 intro p ip X M hX hM
 have e1:=hpc p [pad (row X),pad (row M)] (arr2 (pad_bytes X) (pad_length _) (pad_bytes M) (pad_length _)) (by simp)
 rw [two_code,show [pad (row X),pad (row M)].map arr8=[(D.arr 64 .leaf (ints .u8 (pad (row X)))),(D.arr 64 .leaf (ints .u8 (pad (row M))))] from rfl] at e1
 have e2:=hro p X hX
 have e3:=hro p M hM
 have e4:=hco p (-1) X M (by omega) (by omega) (by omega) (by omega)
 have hl:=plus_le (zp p (-1)) hX hM
 have e5:=hto (row (X+Pol.C (zp p (-1))*M)) (row_bytes _) (by rw [row_length]; omega)
 unfold toldD at e5
 rw [row_length,if_pos hl] at e5
 refine ask_of hT rfl ?_
 generalize pad (row (X+Pol.C (zp p (-1))*M))=Pr at *
 generalize row (X+Pol.C (zp p (-1))*M)=Rr at *
 generalize pad (row X)=Px at *
 generalize row X=Rx at *
 generalize pad (row M)=Pm at *
 generalize row M=Rm at *
 simp -implicitDefEqProofs [Zm,Zm_B,dn_cond,e1,e2,e3,e4,e5,List.replicate]
open Classical in
noncomputable def noD (n:Int) (u v w x:List Int):D:=
 if h:IsDr n u v w∧isPl n x=true then
  haveI:IsP n:=h.1.choose
  if (polOf n x).len<(polOf n u).len then .tup [(D.int .i64 (rep ((nmS (polOf n u) (polOf n x) ((polOf n u).len-1)).c 0))),(D.int .i64 0)] else .tup [(D.int .i64 0),(D.int .i64 2)]
 else .tup [(D.int .i64 0),(D.int .i64 1)]
theorem noD_bad {n:Int} {u v w x:List Int} (h:¬ (IsDr n u v w∧isPl n x=true)):noD n u v w x=.tup [(D.int .i64 0),(D.int .i64 1)]:=by
 unfold noD
 rw [dif_neg h]
theorem noD_good {p:Int} [IsP p] {m g d x:Fp p} (h:IsDr p (pad (row m)) (pad (row g)) (pad (row d))) (hm:m.len≤64) (hx:x.len≤64) :
 noD p (pad (row m)) (pad (row g)) (pad (row d)) (pad (row x))=if x.len<m.len then .tup [(D.int .i64 (rep ((nmS m x (m.len-1)).c 0))),(D.int .i64 0)] else .tup [(D.int .i64 0),(D.int .i64 2)]:=by
 unfold noD
 rw [dif_pos ⟨h,isPl_row⟩,polOf_pad hm,polOf_pad hx]
theorem noD_form (n:Int) (u v w x:List Int):∃a k:Int,noD n u v w x=.tup [(D.int .i64 a),(D.int .i64 k)]:=by
 unfold noD
 split
 ·split
  ·exact ⟨_,_,rfl⟩
  ·exact ⟨_,_,rfl⟩
 ·exact ⟨_,_,rfl⟩
theorem codeDr_x0 {n:Int} {u v w x:List Int} (h:IsDr n u v w∧isPl n x=true):codeDr n u v w [x]=0:=by
 unfold codeDr
 rw [if_pos ⟨h.1,by simp [h.2]⟩]
theorem codeDr_x1 {n:Int} {u v w x:List Int} (h:¬ (IsDr n u v w∧isPl n x=true)):codeDr n u v w [x]=1:=by
 unfold codeDr
 rw [if_neg]
 rintro ⟨h1,h2⟩
 exact h ⟨h1,by simpa using h2⟩
def K_NormOf (O:Oracle) (F:Nat):Prop:=∀(n:Int) (u v w x:List Int),Bytes u→u.length=64→Bytes v→v.length=64→Bytes w→w.length=64→Bytes x→x.length=64→ask O F [drD n u v w,(D.arr 64 .leaf (ints .u8 x))]=some (noD n u v w x)
theorem k_NormOf (hT:T Fj=some Zj) (hcd:C_drCode (den T A) Fv) (hfi:K_drField (den T A)) (hir:C_isRes (den T A)) (hro:K_rowOf (den T A)) (hno:K_normOf (den T A)):K_NormOf (den T A) Fj:=by
 classical
 intro n u v w x bu gu bv gv bw gw bx gx
 have e1:=hcd n u v w [x] bu gu bv gv bw gw (by intro y hy; simp at hy; subst hy; exact ⟨gx,bx⟩) (by simp)
 rw [show List.map arr8 [x]=[(D.arr 64 .leaf (ints .u8 x))] from rfl] at e1
 by_cases h:IsDr n u v w∧isPl n x=true
 ·rw [codeDr_x0 h] at e1
  obtain ⟨h1,h2⟩:=h
  have h1':=h1
  obtain ⟨ip,m,g,d,rfl,rfl,rfl,hm,hg,hd,hd0⟩:=h1
  obtain ⟨y,hyl,rfl⟩:=row_of_isPl bx gx h2
  have h5:=hm.five
  rw [noD_good h1' (by omega) hyl]
  have e2:=hfi n m (pad (row g)) (pad (row d)) (by omega)
  have e3:=hir n m (pad (row y)) (by omega) bx gx
  have hi:=isRes_iff (m:=m) (a:=y) (by omega) hyl
  by_cases hl:y.len<m.len
  ·rw [if_pos hl]
   rw [decide_eq_true (hi.2 hl)] at e3
   have e4:=hro n y hyl
   have e5:=hno n m y hm hl
   refine ask_of hT rfl ?_
   generalize rep ((nmS m y (m.len-1)).c 0)=N at *
   generalize pad (row g)=Pg at *
   generalize pad (row d)=Pd at *
   generalize pad (row y)=Py at *
   generalize row y=Ry at *
   generalize pad (row m)=Pm at *
   generalize row m=Rm at *
   simp -implicitDefEqProofs [Zj,Zj_B,dn_cond,e1,e2,e3,e4,e5,List.replicate]
  ·rw [if_neg hl]
   rw [decide_eq_false fun k=>hl (hi.1 k)] at e3
   refine ask_of hT rfl ?_
   generalize pad (row g)=Pg at *
   generalize pad (row d)=Pd at *
   generalize pad (row y)=Py at *
   generalize pad (row m)=Pm at *
   generalize row m=Rm at *
   simp -implicitDefEqProofs [Zj,Zj_B,dn_cond,e1,e2,e3,List.replicate]
 ·rw [codeDr_x1 h] at e1
  rw [noD_bad h]
  refine ask_of hT rfl ?_
  simp -implicitDefEqProofs [Zj,Zj_B,dn_cond,e1,List.replicate]
theorem k_sNormOf (hT:T F39=some Z39) (hcd:C_drCode (den T A) F47) (hdg:K_sDeg (den T A)) (hno:K_sNorm (den T A)):K_NormOf (den T A) F39:=by
 intro n u v w x bu gu bv gv bw gw bx gx
 have e1:=hcd n u v w [x] bu gu bv gv bw gw (by intro y hy; simp at hy; subst hy; exact ⟨gx,bx⟩) (by simp)
 rw [show List.map arr8 [x]=[(D.arr 64 .leaf (ints .u8 x))] from rfl] at e1
 by_cases h:IsDr n u v w∧isPl n x=true
 ·rw [codeDr_x0 h] at e1
  obtain ⟨h1,h2⟩:=h
  have h1':=h1
  obtain ⟨ip,m,g,d,rfl,rfl,rfl,hm,hg,hd,hd0⟩:=h1
  obtain ⟨y,hyl,rfl⟩:=row_of_isPl bx gx h2
  have h5:=hm.five
  rw [noD_good h1' (by omega) hyl]
  have e2:=hdg n y hyl
  have e3:=hdg n m (by omega)
  by_cases hl:y.len<m.len
  ·rw [if_pos hl]
   have hl':¬ (m.len:Int)-1≤(y.len:Int)-1:=by omega
   have e5:=hno n m y (pad (row g)) (pad (row d)) hm hl
   refine ask_of hT rfl ?_
   generalize rep ((nmS m y (m.len-1)).c 0)=N at *
   generalize (m.len:Int)-1=Lm at *
   generalize (y.len:Int)-1=Ly at *
   generalize pad (row g)=Pg at *
   generalize pad (row d)=Pd at *
   generalize pad (row y)=Py at *
   generalize pad (row m)=Pm at *
   simp -implicitDefEqProofs [Z39,Z39_B,dn_cond,e1,e2,e3,e5,hl',List.replicate]
  ·rw [if_neg hl]
   have hl':(m.len:Int)-1≤(y.len:Int)-1:=by omega
   refine ask_of hT rfl ?_
   generalize (m.len:Int)-1=Lm at *
   generalize (y.len:Int)-1=Ly at *
   generalize pad (row g)=Pg at *
   generalize pad (row d)=Pd at *
   generalize pad (row y)=Py at *
   generalize pad (row m)=Pm at *
   simp -implicitDefEqProofs [Z39,Z39_B,dn_cond,e1,e2,e3,hl',List.replicate]
 ·rw [codeDr_x1 h] at e1
  rw [noD_bad h]
  refine ask_of hT rfl ?_
  simp -implicitDefEqProofs [Z39,Z39_B,dn_cond,e1,List.replicate]
end Pe

namespace Pe
open Go Gq
variable {T:Nat→Option Fn} {A:Oracle}
theorem num_deg {p:Int} [IsP p] {n:Nat} (hn:n≤8) {x:Int} (h0:0≤x) (h1:x<p^n):(numP p (p^n+x)).len≤n+1∧numP p (p^n+x)≠0:=by
 have h2:=ppow_le (p:=p) (n:=n) (by omega)
 have hpos:=ppow_pos (p:=p) n
 have hp:=IsP.ge (p:=p)
 have hok:NumOk (p^n+x):=⟨by omega,by omega⟩
 refine ⟨Pol.len_le (numP_lt (p:=p) hok ?_),fun h=>?_⟩
 ·rw [Int.pow_succ]
  have:p^n*2≤p^n*p:=Int.mul_le_mul_of_nonneg_left hp (by omega)
  omega
 ·rw [←numP_zero (p:=p)] at h
  have:=numP_inj hok ⟨by omega,by omega⟩ h
  omega
open Classical in
theorem l_dm6 {O:Oracle} (hn:H_next O F3r) (hpw:K_sPower O) (hof:K_sOf O) (hir:K_sIrr O) {p:Int} [IsP p] {n:Nat} (hn4:n≤4) {z:List Int}:∀(r k:Nat) (b:Blk),k+r=30→Src b→∃b':Blk,Src b' ∧
 (dn O 1 (.loop Z4a_L0) ⟨[(0,.ptr 0 []),(1,(.d (.int .i64 p))),(4,.ptr 1 []),(5,(.d (.int .i64 n))),(6,(.d (.int .i64 k)))],[b,.box false (D.arr 64 .leaf (ints .u8 z)),.hole,.hole]⟩ =
  some (.exit 0,⟨[(0,.ptr 0 []),(1,(.d (.int .i64 p))),(4,.ptr 1 []),(5,(.d (.int .i64 n))),(6,(.d (.int .i64 30))),(16,(.d (.bool false)))],[b',.box false (D.arr 64 .leaf (ints .u8 z)),.hole,.hole]⟩) ∨
 ∃a:Fp p,a≠0∧a.len≤5∧dn O 1 (.loop Z4a_L0) ⟨[(0,.ptr 0 []),(1,(.d (.int .i64 p))),(4,.ptr 1 []),(5,(.d (.int .i64 n))),(6,(.d (.int .i64 k)))],[b,.box false (D.arr 64 .leaf (ints .u8 z)),.hole,.hole]⟩ =
  some (.ret,⟨[(4,.ptr 1 [])],[b',.box false (D.arr 64 .leaf (ints .u8 (pad (row a)))),.hole,.hole]⟩))
 | 0,k,b,hk,hs=>by
  obtain rfl:k=30:=by omega
  refine ⟨b,hs,.inl (dn_stop ?_)⟩
  obtain ⟨c,a,h,rfl,_⟩:=hs
  simp -implicitDefEqProofs [Z4a_L0,dn_cond]
 | r+1,k,b,hk,hs=>by
  have hk4:(k:Int)<30:=by omega
  have hpl:=ppow_le (p:=p) (n:=n) (by omega)
  have hpos:=ppow_pos (p:=p) n
  have e0:=hpw p n (by omega)
  obtain ⟨x,b2,e1,hs2,x0,x1⟩:=hn b (p^n) hs (by omega)
  obtain ⟨g1,g2⟩:=num_deg (p:=p) (n:=n) (by omega) x0 (by omega)
  have w1:IntKind.i64.wrap (p^n+x)=p^n+x:=w64 (by omega)
  have e2:=hof p (p^n+x) (by omega) (by omega)
  have e3:=hir p (numP p (p^n+x)) g2 (by omega)
  have w4:IntKind.i64.wrap ((k:Int)+1)=((k+1:Nat):Int):=(w64 (x:=(k:Int)+1) (by omega)).trans (by omega)
  by_cases hI:Irr (numP p (p^n+x))
  ·rw [decide_eq_true hI] at e3
   refine ⟨b2,hs2,.inr ⟨numP p (p^n+x),g2,by omega,dn_back ?_⟩⟩
   obtain ⟨c,a0,h,rfl,_⟩:=hs
   obtain ⟨c2,a2,h2,rfl,_⟩:=hs2
   generalize pad (row (numP p (p^n+x)))=Pn at *
   generalize p^n=N at *
   simp -implicitDefEqProofs [Z4a_L0,dn_cond,hk4,e0,e1,e2,e3,w1,List.idxOf,List.findIdx,List.findIdx.go]
  ·rw [decide_eq_false hI] at e3
   obtain ⟨b',hs',ih⟩:=l_dm6 hn hpw hof hir (p:=p) hn4 (z:=z) r (k+1) b2 (by omega) hs2
   have key:dn O 1 Z4a_L0 ⟨[(0,.ptr 0 []),(1,(.d (.int .i64 p))),(4,.ptr 1 []),(5,(.d (.int .i64 n))),(6,(.d (.int .i64 k)))],[b,.box false (D.arr 64 .leaf (ints .u8 z)),.hole,.hole]⟩=some (.normal,⟨[(0,.ptr 0 []),(1,(.d (.int .i64 p))),(4,.ptr 1 []),(5,(.d (.int .i64 n))),(6,(.d (.int .i64 (((k+1:Nat):Int)))))],[b2,.box false (D.arr 64 .leaf (ints .u8 z)),.hole,.hole]⟩):=by
    obtain ⟨c,a0,h,rfl,_⟩:=hs
    obtain ⟨c2,a2,h2,rfl,_⟩:=hs2
    generalize pad (row (numP p (p^n+x)))=Pn at *
    generalize p^n=N at *
    simp -implicitDefEqProofs [Z4a_L0,dn_cond,hk4,e0,e1,e2,e3,w1,w4,List.idxOf,List.findIdx,List.findIdx.go]
   exact ⟨b',hs',ih.imp (dn_round key) (fun ⟨a,h1,h2,h3⟩=>⟨a,h1,h2,dn_round key h3⟩)⟩
def H_l06DrawMod (O:Oracle):Prop:=∀(p:Int) [IsP p] (b:Blk),Src b→∃(a:Fp p) (b':Blk),O F4a [.ptr 0 [],(.d (.int .i64 p))] [b]=some (.d (D.arr 64 .leaf (ints .u8 (pad (row a)))),[b'],[])∧Src b'∧a≠0∧a.len≤5
theorem h_l06DrawMod (hT:T F4a=some Z4a) (hn:H_next (den T A) F3r) (hp:H_pick (den T A)) (hpw:K_sPower (den T A)) (hof:K_sOf (den T A)) (hir:K_sIrr (den T A)) (ht:K_sT (den T A)):H_l06DrawMod (den T A):=by
 intro p ip b hs
 have e0:=ht p
 obtain ⟨x,b1,e1,hs1,hx⟩:=hp b [1,2,2,3,3,4] 6 (some 6) hs rfl (by omega) (by omega)
 rw [show ints .i64 [1,2,2,3,3,4]=[.int .i64 1,.int .i64 2,.int .i64 2,.int .i64 3,.int .i64 3,.int .i64 4] from rfl] at e1
 have hx2:1≤x∧x≤4:=by simp at hx; omega
 obtain ⟨n,hn2,hn4⟩:∃n:Nat,(n:Int)=(if 3<p then (if 2<x then 2 else x) else x)∧n≤4:=by
  split
  ·split
   ·exact ⟨2,rfl,by omega⟩
   ·exact ⟨x.toNat,by omega,by omega⟩
  ·exact ⟨x.toNat,by omega,by omega⟩
 obtain ⟨b',hs',st⟩:=l_dm6 (O:=den T A) hn hpw hof hir (p:=p) hn4 (z:=pad []) 30 0 b1 rfl hs1
 rw [hn2,show ((0:Nat):Int)=0 from rfl] at st
 have hX:(Pol.X:Fp p)≠0:=Pol.X_ne
 have hXl:(Pol.X:Fp p).len=2:=Pol.len_X
 rcases st with st | ⟨a,a0,a5,st⟩
 ·refine ⟨Pol.X,b',den_of hT rfl ?_,hs',hX,by omega⟩
  obtain ⟨_,_,_,rfl,_⟩:=hs
  obtain ⟨_,_,_,rfl,_⟩:=hs1
  obtain ⟨_,_,_,rfl,_⟩:=hs'
  generalize pad (row (Pol.X:Fp p))=PX at *
  by_cases h3:3<p
  ·rw [if_pos h3] at st
   simp -implicitDefEqProofs [Z4a,Z4a_B,dn_cond,e0,e1,h3,st,List.replicate,List.idxOf,List.findIdx,List.findIdx.go]
  ·rw [if_neg h3] at st
   simp -implicitDefEqProofs [Z4a,Z4a_B,dn_cond,e0,e1,h3,st,List.replicate,List.idxOf,List.findIdx,List.findIdx.go]
 ·refine ⟨a,b',den_of hT rfl ?_,hs',a0,a5⟩
  obtain ⟨_,_,_,rfl,_⟩:=hs
  obtain ⟨_,_,_,rfl,_⟩:=hs1
  obtain ⟨_,_,_,rfl,_⟩:=hs'
  generalize pad (row a)=Pa at *
  by_cases h3:3<p
  ·rw [if_pos h3] at st
   simp -implicitDefEqProofs [Z4a,Z4a_B,dn_cond,e1,h3,st,List.replicate,List.idxOf,List.findIdx,List.findIdx.go]
  ·rw [if_neg h3] at st
   simp -implicitDefEqProofs [Z4a,Z4a_B,dn_cond,e1,h3,st,List.replicate,List.idxOf,List.findIdx,List.findIdx.go]
def H_l06Of (O:Oracle):Prop:=∀(p:Int) [IsP p] (a:Fp p) (b:Blk),Src b→a≠0→a.len≤5→∃(v w:List Int) (b':Blk),O F4e [.ptr 0 [],(.d (.int .i64 p)),.d (D.arr 64 .leaf (ints .u8 (pad (row a))))] [b]=some (.d (drD p (pad (row a)) v w),[b'],[])∧Src b'∧Arr v∧Arr w
theorem h_l06Of (hT:T F4e=some Z4e) (hn:H_next (den T A) F3r) (hdg:K_sDeg (den T A)) (hcn:K_sCount (den T A)) (hof:K_sOf (den T A)):H_l06Of (den T A):=by
 intro p ip a b hs a0 a5
 have hap:=Pol.len_pos a0
 have e1:=hdg p a (by omega)
 rw [show ((a.len:Int)-1)=((a.len-1:Nat):Int) by omega] at e1
 have e2:=k_sCount' hcn p (a.len-1) (by omega)
 have hpl:=ppow_le (p:=p) (n:=a.len-1) (by omega)
 have hpos:=ppow_pos (p:=p) (a.len-1)
 obtain ⟨x,b1,e3,hs1,x0,x1⟩:=hn b (p^(a.len-1)) hs (by omega)
 have e4:=hof p x x0 (by omega)
 have w1:IntKind.i64.wrap (p^(a.len-1)-1)=p^(a.len-1)-1:=w64 (by omega)
 obtain ⟨y,b2,e5,hs2,y0,y1⟩:=hn b1 (p^(a.len-1)-1) hs1 (by omega)
 have w2:IntKind.i64.wrap (1+y)=1+y:=w64 (by omega)
 have e6:=hof p (1+y) (by omega) (by omega)
 refine ⟨pad (row (numP p x)),pad (row (numP p (1+y))),b2,den_of hT rfl ?_,hs2,arr_row _,arr_row _⟩
 obtain ⟨_,_,_,rfl,_⟩:=hs
 obtain ⟨_,_,_,rfl,_⟩:=hs1
 obtain ⟨_,_,_,rfl,_⟩:=hs2
 generalize pad (row (numP p x))=Px at *
 generalize pad (row (numP p (1+y)))=Py at *
 generalize pad (row a)=Pa at *
 generalize p^(a.len-1)=N at *
 generalize ((a.len-1:Nat):Int)=L at *
 simp -implicitDefEqProofs [Z4e,Z4e_B,e1,e2,e3,e4,e5,e6,w1,w2,List.replicate,List.idxOf,List.findIdx,List.findIdx.go]
def H_l06Draw (O:Oracle):Prop:=∀b:Blk,Src b→∃(p:Int) (u v w:List Int) (b':Blk),O F49 [.ptr 0 []] [b]=some (.d (drD p u v w),[b'],[])∧Src b'∧0≤p∧p<256∧Arr u∧Arr v∧Arr w
theorem h_l06Draw (hT:T F49=some Z49) (hp:H_pick (den T A)) (hm:H_l06DrawMod (den T A)) (ho:H_l06Of (den T A)):H_l06Draw (den T A):=by
 intro b hs
 obtain ⟨p,b1,e1,hs1,hx⟩:=hp b [2,2,3,3,5,7] 6 (some 6) hs rfl (by omega) (by omega)
 rw [show ints .i64 [2,2,3,3,5,7]=[.int .i64 2,.int .i64 2,.int .i64 3,.int .i64 3,.int .i64 5,.int .i64 7] from rfl] at e1
 haveI ip:IsP p:=⟨by simp at hx; omega⟩
 have hp2:=IsP.ge (p:=p)
 have hp7:=IsP.le (p:=p)
 obtain ⟨a,b2,e2,hs2,a0,a5⟩:=hm p b1 hs1
 obtain ⟨v,w,b3,e3,hs3,av,aw⟩:=ho p a b2 hs2 a0 a5
 refine ⟨p,pad (row a),v,w,b3,den_of hT rfl ?_,hs3,by omega,by omega,arr_row a,av,aw⟩
 obtain ⟨_,_,_,rfl,_⟩:=hs
 obtain ⟨_,_,_,rfl,_⟩:=hs1
 obtain ⟨_,_,_,rfl,_⟩:=hs2
 obtain ⟨_,_,_,rfl,_⟩:=hs3
 generalize pad (row a)=Pa at *
 simp -implicitDefEqProofs [Z49,ir_spec_l06Draw_B,e1,e2,e3,List.replicate,List.idxOf,List.findIdx,List.findIdx.go]
end Pe

namespace Pe
open Go Gq
variable {T:Nat→Option Fn} {A:Oracle}
theorem arr_set {l:List Int} (h:Arr l) {x:Int} (h0:0≤x) (h1:x<256) (i:Nat):Arr (l.set i x):=
 ⟨by rw [List.length_set]; exact h.1,fun z hz=>by
  rcases List.mem_or_eq_of_mem_set hz with g | rfl
  ·exact h.2 z g
  ·exact ⟨h0,h1⟩⟩
theorem arr_zero:Arr (pad []):=⟨pad_length _,fun x hx=>by
 unfold pad at hx
 obtain ⟨a,_,rfl⟩:∃a,a<64∧cf [] a=x:=by simpa using hx
 rw [cf_ge (Nat.zero_le _)]
 omega⟩
def H_l06Bad (O:Oracle):Prop:=∀(b:Blk) (p:Int) (u v w:List Int),Src b→0≤p→p<256→Arr u→Arr v→Arr w→∃(p':Int) (u' v' w':List Int) (b':Blk),O F46 [.ptr 0 [],.d (drD p u v w)] [b]=some (.d (drD p' u' v' w'),[b'],[])∧Src b'∧0≤p'∧p'<256∧Arr u'∧Arr v'∧Arr w'
theorem h_l06Bad (hT:T F46=some Z46) (hn:H_next (den T A) F3r) (hp:H_pick (den T A)):H_l06Bad (den T A):=by
 intro b p u v w hs p0 p1 au av aw
 obtain ⟨x,b2,e1,hs2,x0,x1⟩:=hn b 40 hs (by omega)
 have hvl:=av.1
 by_cases c0:x=0
 ·obtain ⟨q,b3,e2,hs3,hq⟩:=hp b2 [0,4,11] 3 (some 3) hs2 rfl (by omega) (by omega)
  rw [show ints .i64 [0,4,11]=[.int .i64 0,.int .i64 4,.int .i64 11] from rfl] at e2
  refine ⟨q,u,v,w,b3,den_of hT rfl ?_,hs3,by simp at hq; omega,by simp at hq; omega,au,av,aw⟩
  subst c0
  obtain ⟨_,_,_,rfl,_⟩:=hs
  obtain ⟨_,_,_,rfl,_⟩:=hs2
  obtain ⟨_,_,_,rfl,_⟩:=hs3
  simp -implicitDefEqProofs [Z46,Z46_B,dn_cond,e1,e2,List.replicate,List.idxOf,List.findIdx,List.findIdx.go]
 ·by_cases c1:x=1
  ·refine ⟨p,u,v,pad [],b2,den_of hT rfl ?_,hs2,p0,p1,au,av,arr_zero⟩
   subst c1
   obtain ⟨_,_,_,rfl,_⟩:=hs
   obtain ⟨_,_,_,rfl,_⟩:=hs2
   simp -implicitDefEqProofs [Z46,Z46_B,dn_cond,e1,List.replicate,List.idxOf,List.findIdx,List.findIdx.go]
  ·by_cases c2:x=2
   ·refine ⟨p,(((pad []).set 0 0).set 1 0).set 2 1,v,w,b2,den_of hT rfl ?_,hs2,p0,p1,arr_set (arr_set (arr_set arr_zero (by omega) (by omega) 0) (by omega) (by omega) 1) (by omega) (by omega) 2,av,aw⟩
    subst c2
    obtain ⟨_,_,_,rfl,_⟩:=hs
    obtain ⟨_,_,_,rfl,_⟩:=hs2
    have q0:(pad [])[0]? = some 0:=rfl
    have q1:(pad [])[1]? = some 0:=rfl
    have q2:(pad [])[2]? = some 0:=rfl
    simp -implicitDefEqProofs [Z46,Z46_B,dn_cond,e1,q0,q1,q2,List.replicate,List.idxOf,List.findIdx,List.findIdx.go]
   ·by_cases c3:x=3
    ·obtain ⟨y,b3,e2,hs3,y0,y1⟩:=hn b2 8 hs2 (by omega)
     obtain ⟨k,rfl⟩:∃k:Nat,y=k:=⟨y.toNat,by omega⟩
     obtain ⟨c,b4,e3,hs4,z0,z1⟩:=hn b3 8 hs3 (by omega)
     have w1:IntKind.u8.wrap c=c:=w8 (by omega)
     have hk:k<64:=by omega
     refine ⟨p,u,v.set k c,w,b4,den_of hT rfl ?_,hs4,p0,p1,au,arr_set av (by omega) (by omega) k,aw⟩
     subst c3
     obtain ⟨_,_,_,rfl,_⟩:=hs
     obtain ⟨_,_,_,rfl,_⟩:=hs2
     obtain ⟨_,_,_,rfl,_⟩:=hs3
     obtain ⟨_,_,_,rfl,_⟩:=hs4
     simp -implicitDefEqProofs [Z46,Z46_B,dn_cond,e1,e2,e3,w1,hk,hvl,List.replicate,List.idxOf,List.findIdx,List.findIdx.go]
    ·refine ⟨p,u,v,w,b2,den_of hT rfl ?_,hs2,p0,p1,au,av,aw⟩
     obtain ⟨_,_,_,rfl,_⟩:=hs
     obtain ⟨_,_,_,rfl,_⟩:=hs2
     simp -implicitDefEqProofs [Z46,Z46_B,dn_cond,e1,c0,c1,c2,c3,List.replicate,List.idxOf,List.findIdx,List.findIdx.go]
def H_l06Spoil (O:Oracle):Prop:=∀b:Blk,Src b→∃(p:Int) (u v w:List Int) (b':Blk),O F4g [.ptr 0 []] [b]=some (.d (drD p u v w),[b'],[])∧Src b'∧0≤p∧p<256∧Arr u∧Arr v∧Arr w
theorem h_l06Spoil (hT:T F4g=some Z4g) (hd:H_l06Draw (den T A)) (hb:H_l06Bad (den T A)):H_l06Spoil (den T A):=by
 intro b hs
 obtain ⟨p,u,v,w,b1,e1,hs1,p0,p1,au,av,aw⟩:=hd b hs
 obtain ⟨p',u',v',w',b2,e2,hs2,q0,q1,au',av',aw'⟩:=hb b1 p u v w hs1 p0 p1 au av aw
 refine ⟨p',u',v',w',b2,den_of hT rfl ?_,hs2,q0,q1,au',av',aw'⟩
 obtain ⟨_,_,_,rfl,_⟩:=hs
 obtain ⟨_,_,_,rfl,_⟩:=hs1
 obtain ⟨_,_,_,rfl,_⟩:=hs2
 simp -implicitDefEqProofs [Z4g,Z4g_B,e1,e2,List.replicate,List.idxOf,List.findIdx,List.findIdx.go]
def H_DrawFrobeniusOf (O:Oracle):Prop:=∀code:List Int,Bytes code→code.length≤4096→∃(p:Int) (u v w:List Int),ask O F34 [.sl .leaf (ints .u8 code)]=some (drD p u v w)∧Arr u∧Arr v∧Arr w
theorem h_DrawFrobeniusOf (hT:T F34=some Z34) (hf:H_from (den T A)) (hsp:H_l06Spoil (den T A)):H_DrawFrobeniusOf (den T A):=by
 intro code hb hc
 obtain ⟨b,e1,hs⟩:=hf code hb hc
 obtain ⟨p,u,v,w,b1,e2,hs1,p0,p1,au,av,aw⟩:=hsp b hs
 refine ⟨p,u,v,w,ask_of hT rfl ?_,au,av,aw⟩
 obtain ⟨_,_,_,rfl,_⟩:=hs
 obtain ⟨_,_,_,rfl,_⟩:=hs1
 simp -implicitDefEqProofs [Z34,Z34_B,e1,e2,List.replicate,List.idxOf,List.findIdx,List.findIdx.go]
def H_DrawTwistOf (O:Oracle) (F:Nat):Prop:=∀code:List Int,Bytes code→code.length≤4096→∃(p:Int) (u v w x:List Int),ask O F [.sl .leaf (ints .u8 code)]=some (.tup [drD p u v w,(D.arr 64 .leaf (ints .u8 x))])∧Arr u∧Arr v∧Arr w∧Arr x
theorem h_DrawTwistOf (hT:T F36=some Z36) (hf:H_from (den T A)) (hsp:H_l06Spoil (den T A)) (hfi:C_sFine (den T A)) (hp:H_pick (den T A)) (hd:H_draw (den T A)):H_DrawTwistOf (den T A) F36:=by
 intro code hb hc
 obtain ⟨b,e1,hs⟩:=hf code hb hc
 obtain ⟨p,u,v,w,b1,e2,hs1,p0,p1,au,av,aw⟩:=hsp b hs
 have e3:=hfi p
 obtain ⟨x,b2,e4,hs2,hx⟩:=hp b1 [0,1,1,2] 4 (some 4) hs1 rfl (by omega) (by omega)
 rw [show ints .i64 [0,1,1,2]=[.int .i64 0,.int .i64 1,.int .i64 1,.int .i64 2] from rfl] at e4
 obtain ⟨n,rfl⟩:∃n:Nat,x=n:=⟨x.toNat,by simp at hx; omega⟩
 haveI ip:IsP (fineP p):=fineP_ok p
 obtain ⟨a,b3,e5,hs3,-⟩:=hd (fineP p) b2 n hs2 (by simp at hx; omega)
 refine ⟨p,u,v,w,pad (row a),ask_of hT rfl ?_,au,av,aw,arr_row a⟩
 obtain ⟨_,_,_,rfl,_⟩:=hs
 obtain ⟨_,_,_,rfl,_⟩:=hs1
 obtain ⟨_,_,_,rfl,_⟩:=hs2
 obtain ⟨_,_,_,rfl,_⟩:=hs3
 generalize pad (row a)=Pa at *
 generalize fineP p=q at *
 simp -implicitDefEqProofs [Z36,Z36_B,e1,e2,e3,e4,e5,List.replicate,List.idxOf,List.findIdx,List.findIdx.go]
theorem h_DrawNormOf (hT:T F35=some Z35) (hd:H_DrawTwistOf (den T A) F36):H_DrawTwistOf (den T A) F35:=by
 intro code hb hc
 obtain ⟨p,u,v,w,x,e1,au,av,aw,ax⟩:=hd code hb hc
 refine ⟨p,u,v,w,x,ask_of hT rfl ?_,au,av,aw,ax⟩
 simp -implicitDefEqProofs [Z35,Z35_B,e1,List.replicate]
def H_DrawAllDrinfeld (O:Oracle):Prop:=∀code:List Int,Bytes code→code.length≤4096→∃(p:Int) (m:List Int),ask O F33 [.sl .leaf (ints .u8 code)]=some (.tup [(D.int .i64 p),(D.arr 64 .leaf (ints .u8 m))])∧Arr m
theorem h_DrawAllDrinfeld (hT:T F33=some Z33) (hf:H_from (den T A)) (hn:H_next (den T A) F3r) (hp:H_pick (den T A)) (hm:H_l06DrawMod (den T A)) (hd:H_draw (den T A)):H_DrawAllDrinfeld (den T A):=by
 intro code hb hc
 obtain ⟨b,e1,hs⟩:=hf code hb hc
 obtain ⟨p,b1,e2,hs1,hx⟩:=hp b [2,2,3,5,7] 5 (some 5) hs rfl (by omega) (by omega)
 rw [show ints .i64 [2,2,3,5,7]=[.int .i64 2,.int .i64 2,.int .i64 3,.int .i64 5,.int .i64 7] from rfl] at e2
 haveI ip:IsP p:=⟨by simp at hx; omega⟩
 obtain ⟨m,b2,e3,hs2,-,-⟩:=hm p b1 hs1
 obtain ⟨k,b3,e4,hs3,-,-⟩:=hn b2 16 hs2 (by omega)
 by_cases c0:k=0
 ·obtain ⟨a,b4,e5,hs4,-⟩:=hd p b3 3 hs3 (by omega)
  rw [show ((3:Nat):Int)=3 from rfl] at e5
  refine ⟨p,pad (row a),ask_of hT rfl ?_,arr_row a⟩
  obtain ⟨_,_,_,rfl,_⟩:=hs
  obtain ⟨_,_,_,rfl,_⟩:=hs1
  obtain ⟨_,_,_,rfl,_⟩:=hs2
  obtain ⟨_,_,_,rfl,_⟩:=hs3
  obtain ⟨_,_,_,rfl,_⟩:=hs4
  generalize pad (row a)=Pa at *
  generalize pad (row m)=Pm at *
  simp -implicitDefEqProofs [Z33,Z33_B,dn_cond,e1,e2,e3,e4,e5,c0,List.replicate,List.idxOf,List.findIdx,List.findIdx.go]
 ·refine ⟨p,pad (row m),ask_of hT rfl ?_,arr_row m⟩
  obtain ⟨_,_,_,rfl,_⟩:=hs
  obtain ⟨_,_,_,rfl,_⟩:=hs1
  obtain ⟨_,_,_,rfl,_⟩:=hs2
  obtain ⟨_,_,_,rfl,_⟩:=hs3
  generalize pad (row m)=Pm at *
  simp -implicitDefEqProofs [Z33,Z33_B,dn_cond,e1,e2,e3,e4,c0,List.replicate,List.idxOf,List.findIdx,List.findIdx.go]
end Pe

namespace Pe
open Go Gq
section
variable {p:Int}
theorem sgn_add [IsP p] {m:Fp p}:∀(k:Nat) (x y:Quo m),sg k (x+y)=sg k x+sg k y
 | 0,_,_=>rfl
 | k+1,x,y=>by
  show sg k (pw (x+y) p.toNat)=sg k (pw x p.toNat)+sg k (pw y p.toNat)
  rw [frob_add,sgn_add k]
theorem sgn_mul {m:Fp p}:∀(k:Nat) (x y:Quo m),sg k (x*y)=sg k x*sg k y
 | 0,_,_=>rfl
 | k+1,x,y=>by
  show sg k (pw (x*y) p.toNat)=sg k (pw x p.toNat)*sg k (pw y p.toNat)
  rw [pw_mul,sgn_mul k]
theorem sgn_const [IsP p] {m:Fp p} (c:Zp p):∀k,sg k (Quo.mk m (Pol.C c))=Quo.mk m (Pol.C c)
 | 0=>rfl
 | k+1=>by
  show sg k (pw (Quo.mk m (Pol.C c)) p.toNat)=_
  rw [←Quo.mk_pow,←C_pw,frob_const,sgn_const c k]
theorem sgn_sgn {m:Fp p} (i:Nat):∀(j:Nat) (x:Quo m),sg i (sg j x)=sg (i+j) x
 | 0,_=>rfl
 | j+1,x=>by
  show sg i (sg j (pw x p.toNat))=sg (i+j) (pw x p.toNat)
  exact sgn_sgn i j _
noncomputable def vq {m:Fp p} (X:Quo m):Nat→List (Fp p)→Quo m
 | _,[]=>0
 | i,c::cs=>Quo.mk m c*sg i X+vq X (i+1) cs
theorem svI_q [IsP p] {m x:Fp p} (hm:Fld m) (hx:x.len<m.len):∀(i:Nat) (A:List (Fp p)) (out:Fp p),Quo.mk m (svI m x i A out)=Quo.mk m out+vq (Quo.mk m x) i A
 | i,[],out=>(Gq.add_zero _).symm
 | i,c::cs,out=>by
  show Quo.mk m (svI m x (i+1) cs (out+c*frIt m (i%(m.len-1)) x%m))=_
  rw [svI_q hm hx (i+1) cs,Quo.mk_add,Pol.mk_mod,Quo.mk_mul,frIt_mod hm i hx,sg_mk]
  exact Gq.add_assoc _ _ _
noncomputable def valS [IsP p] (m:Fp p) (A:List (Fp p)) (x:Fp p):Quo m:=Quo.mk m (svI m x 0 A 0)
theorem valS_q [IsP p] {m x:Fp p} (hm:Fld m) (hx:x.len<m.len) (A:List (Fp p)):valS m A x=vq (Quo.mk m x) 0 A:=by
 unfold valS
 rw [svI_q hm hx,Quo.mk_zero,Gq.zero_add]
theorem vq_add [IsP p] {m:Fp p} (X Y:Quo m):∀(A:List (Fp p)) (i:Nat),vq (X+Y) i A=vq X i A+vq Y i A
 | [],_=>(Gq.add_zero _).symm
 | c::cs,i=>by
  show Quo.mk m c*sg i (X+Y)+vq (X+Y) (i+1) cs=(Quo.mk m c*sg i X+vq X (i+1) cs)+(Quo.mk m c*sg i Y+vq Y (i+1) cs)
  rw [sgn_add,vq_add X Y cs]
  exact ring_of [Quo.mk m c,sg i X,sg i Y,vq X (i+1) cs,vq Y (i+1) cs] rfl
theorem vq_smul [IsP p] {m:Fp p} (k:Zp p) (X:Quo m):∀(A:List (Fp p)) (i:Nat),vq (Quo.mk m (Pol.C k)*X) i A=Quo.mk m (Pol.C k)*vq X i A
 | [],_=>(Gq.mul_zero _).symm
 | c::cs,i=>by
  show Quo.mk m c*sg i (Quo.mk m (Pol.C k)*X)+vq (Quo.mk m (Pol.C k)*X) (i+1) cs=Quo.mk m (Pol.C k)*(Quo.mk m c*sg i X+vq X (i+1) cs)
  rw [sgn_mul,sgn_const,vq_smul k X cs]
  exact ring_of [Quo.mk m c,Quo.mk m (Pol.C k),sg i X,vq X (i+1) cs] rfl
theorem vq_set {m:Fp p} (X:Quo m) (v:Fp p):∀(Q:List (Fp p)) (i j:Nat),j<Q.length→vq X i (addAt Q j v)=vq X i Q+Quo.mk m v*sg (i+j) X
 | [],_,_,h=>by simp at h
 | c::cs,i,0,_=>by
  show Quo.mk m (c+v)*sg i X+vq X (i+1) cs=Quo.mk m c*sg i X+vq X (i+1) cs+Quo.mk m v*sg (i+0) X
  rw [Quo.mk_add,Nat.add_zero]
  exact ring_of [Quo.mk m c,Quo.mk m v,sg i X,vq X (i+1) cs] rfl
 | c::cs,i,j+1,h=>by
  have e:addAt (c::cs) (j+1) v=c::addAt cs j v:=rfl
  rw [e]
  show Quo.mk m c*sg i X+vq X (i+1) (addAt cs j v)=Quo.mk m c*sg i X+vq X (i+1) cs+Quo.mk m v*sg (i+(j+1)) X
  rw [vq_set X v cs (i+1) j (by simpa using h),show i+1+j=i+(j+1) by omega]
  exact (Gq.add_assoc _ _ _).symm
theorem vq_zeros {m:Fp p} (X:Quo m):∀(n i:Nat),vq X i (List.replicate n (0:Fp p))=0
 | 0,_=>rfl
 | n+1,i=>by
  show Quo.mk m 0*sg i X+vq X (i+1) (List.replicate n 0)=0
  rw [vq_zeros X n,Quo.mk_zero,Gq.zero_mul,Gq.add_zero]
theorem byIn_v [IsP p] {m c:Fp p} (hm:Fld m) (X:Quo m) {i:Nat}:∀(b:List (Fp p)) (k:Nat) (Q:List (Fp p)),(∀y∈b,y.len<m.len)→i+k+b.length≤Q.length→vq X 0 (byIn m c i k b Q)=vq X 0 Q+Quo.mk m c*sg i (vq X k b)
 | [],_,Q,_,_=>by
  show vq X 0 Q=vq X 0 Q+Quo.mk m c*sg i 0
  rw [sg_zero,Gq.mul_zero,Gq.add_zero]
 | y::ys,k,Q,hb,h=>by
  rw [List.length_cons] at h
  show vq X 0 (byIn m c i (k+1) ys (addAt Q (i+k) _))=vq X 0 Q+Quo.mk m c*sg i (Quo.mk m y*sg k X+vq X (k+1) ys)
  rw [byIn_v hm X ys (k+1) _ (fun z hz=>hb z (by simp [hz])) (by rw [addAt_length]; omega),vq_set X _ Q 0 (i+k) (by omega),Pol.mk_mod,Quo.mk_mul,frIt_mod hm i (hb y (by simp)),sg_mk,Nat.zero_add,sgn_add,sgn_mul,sgn_sgn]
  exact ring_of [vq X 0 Q,Quo.mk m c,sg i (Quo.mk m y),sg (i+k) X,sg i (vq X (k+1) ys)] rfl
theorem prod_val [IsP p] {m c0 x:Fp p} (hm:Fld m) {A:List (Fp p)} (hA:∀y∈A,y.len<m.len) (hx:x.len<m.len) (h1:1≤A.length):valS m (prodS m [c0,1] A) x=Quo.mk m c0*valS m A x+sg 1 (valS m A x):=by
 have h0:=hm.mon.2
 have e1:valS m (prodS m [c0,1] A) x=valS m (mulS m [c0,1] A) x:=by
  unfold prodS valS
  rw [if_neg (by simp only [List.length_cons]; omega),svI_trim h0]
 rw [e1,valS_q hm hx,valS_q hm hx]
 show vq _ 0 (byIn m 1 1 0 A (byIn m c0 0 0 A (List.replicate ([c0,1].length+A.length-1) 0)))=_
 have hl:(List.replicate ([c0,(1:Fp p)].length+A.length-1) (0:Fp p)).length=A.length+1:=by rw [List.length_replicate]; simp only [List.length_cons,List.length_nil]; omega
 rw [byIn_v hm _ A 0 _ hA (by rw [byIn_length]; omega),byIn_v hm _ A 0 _ hA (by omega),vq_zeros,Gq.zero_add,Quo.mk_one,Gq.one_mul]
 rfl
theorem val_elim [IsP p] {m:Fp p} (hm:Fld m) {A:List (Fp p)} {a b:Fp p} (ha:a.len<m.len) (hb:b.len<m.len) (hk:valS m A b=0):valS m A (elim b a)=valS m A a:=by
 have hl:(elim b a).len≤m.len-1:=elim_le (by omega) (by omega)
 rw [valS_q hm (by omega),valS_q hm ha]
 rw [valS_q hm hb] at hk
 unfold elim
 rw [Quo.mk_add,Quo.mk_mul,vq_add,vq_smul,hk,Gq.mul_zero,Gq.add_zero]
theorem val_red [IsP p] {m:Fp p} (hm:Fld m) {A:List (Fp p)}:∀(L:List (Fp p)) (x:Fp p),(∀b∈L,b.len<m.len∧valS m A b=0)→x.len<m.len→valS m A (redS L x)=valS m A x
 | [],_,_,_=>rfl
 | b::bs,x,h,hx=>by
  have hb:=h b (by simp)
  have hl:(elim b x).len≤m.len-1:=elim_le (by omega) (by omega)
  show valS m A (redS bs (elim b x))=_
  rw [val_red hm bs (elim b x) (fun c hc=>h c (by simp [hc])) (by omega),val_elim hm hx hb.1 hb.2]
theorem val_smul [IsP p] {m:Fp p} (hm:Fld m) {A:List (Fp p)} {x:Fp p} (hx:x.len<m.len) (k:Zp p) (hk:valS m A x=0):valS m A (Pol.C k*x)=0:=by
 have hl:(Pol.C k*x).len<m.len:=by
  have h2:=hm.two
  have:(Pol.C k*x).len≤m.len-1:=Pol.len_le fun j hj=>by rw [Pol.c_Cmul,c_ge' (by omega),Gq.mul_zero]
  omega
 rw [valS_q hm hl,Quo.mk_mul,vq_smul,←valS_q hm hx,hk,Gq.mul_zero]
theorem insS_length (a:Fp p) (L:List (Fp p)):(insS a L).length=L.length+1:=by
 rw [(insS_perm a L).length_eq,List.length_append,List.length_map]; rfl
noncomputable def lsC [IsP p] (m v:Fp p):Fp p:=Pol.C (zp p (-1))*(frIt m 1 v*invm m v%m)
noncomputable def lsN [IsP p] (m:Fp p) (A:List (Fp p)) (x:Fp p):List (Fp p):=if (svI m x 0 A 0).len=0 then A else prodS m [lsC m (svI m x 0 A 0),1] A
noncomputable def lsS [IsP p] (m:Fp p):List (Fp p)→List (Fp p)→List (Fp p)
 | [],A=>A
 | x::xs,A=>lsS m xs (lsN m A x)
theorem lsC_len [IsP p] {m v:Fp p} (hm:Fld m):(lsC m v).len<m.len:=by
 have h1:=Pol.len_mod (frIt m 1 v*invm m v) hm.mon.2
 have:(lsC m v).len≤m.len-1:=Pol.len_le fun j hj=>by unfold lsC; rw [Pol.c_Cmul,c_ge' (by omega),Gq.mul_zero]
 omega
theorem lsC_q [IsP p] {m v:Fp p} (hm:Fld m) (hv:v≠0) (hvl:v.len<m.len):Quo.mk m (lsC m v)*Quo.mk m v+sg 1 (Quo.mk m v)=0:=by
 have hi:=invm_ok hm hv hvl
 unfold lsC
 rw [Quo.mk_mul,Pol.mk_mod,Quo.mk_mul,sg_mk,zp_neg,zp_one,Pol.C_neg,Pol.C_one,Quo.mk_neg,Quo.mk_one]
 have e:-1*(sg 1 (Quo.mk m v)*Quo.mk m (invm m v))*Quo.mk m v+sg 1 (Quo.mk m v)=sg 1 (Quo.mk m v)*(1-Quo.mk m (invm m v)*Quo.mk m v):=ring_of [sg 1 (Quo.mk m v),Quo.mk m (invm m v),Quo.mk m v] rfl
 rw [e,hi]
 exact ring_of [sg 1 (Quo.mk m v)] rfl
structure LsI [IsP p] (m:Fp p) (A:List (Fp p)):Prop where
 trim:IsTrim A
 res:∀c∈A,c.len<m.len
 ex:∃L:List (Fp p),Desc (m.len-1) L∧(∀b∈L,valS m A b=0)∧A.length=L.length+1
theorem LsI.len [IsP p] {m:Fp p} {A:List (Fp p)} (hm:Fld m) (h:LsI m A):1≤A.length∧A.length≤5:=by
 obtain ⟨L,h1,_,h3⟩:=h.ex
 have:=h1.length
 have h5:=hm.five
 have h2:=hm.two
 omega
theorem LsI.one [IsP p] {m:Fp p} (hm:Fld m):LsI m (termS (1:Fp p) 0):=⟨(sk_one hm).trim,(sk_one hm).res,[],Desc.nil _,(fun b hb=>by cases hb),by rw [termS_length]; rfl⟩
theorem two_trim [IsP p] (c:Fp p):IsTrim [c,(1:Fp p)]:=fun n hn=>by
 have:n=1:=by simp at hn; omega
 subst this
 exact one_ne8
theorem two_res [IsP p] {m c:Fp p} (hm:Fld m) (hc:c.len<m.len):∀y∈[c,(1:Fp p)],y.len<m.len:=fun y hy=>by
 have h2:=hm.two
 have:(1:Fp p).len=1:=Pol.len_one
 simp at hy
 rcases hy with rfl | rfl <;> omega
theorem LsI.next [IsP p] {m x:Fp p} {A:List (Fp p)} (hm:Fld m) (h:LsI m A) (hx:x.len<m.len):LsI m (lsN m A x):=by
 have h0:=hm.mon.2
 have h2:=hm.two
 unfold lsN
 by_cases hv:(svI m x 0 A 0).len=0
 ·rw [if_pos hv]; exact h
 ·rw [if_neg hv]
  obtain ⟨L,hL,hK,hlen⟩:=h.ex
  have hvl:(svI m x 0 A 0).len<m.len:=svI_len h0 0 A 0 (by rw [Pol.len_zero]; omega)
  have hv0:svI m x 0 A 0≠0:=fun h=>hv (by rw [h,Pol.len_zero])
  have hcl:=lsC_len (v:=svI m x 0 A 0) hm
  have hLl:∀b∈L,b.len<m.len:=fun b hb=>by have:=hL.le b hb; omega
  have step:∀y:Fp p,y.len<m.len→valS m (prodS m [lsC m (svI m x 0 A 0),1] A) y=Quo.mk m (lsC m (svI m x 0 A 0))*valS m A y+sg 1 (valS m A y):=fun y hy=>prod_val hm h.res hy (by omega)
  have kill:∀y:Fp p,y.len<m.len→valS m A y=0→valS m (prodS m [lsC m (svI m x 0 A 0),1] A) y=0:=fun y hy hk=>by
   rw [step y hy,hk,Gq.mul_zero,sg_zero,Gq.add_zero]
  have killx:valS m (prodS m [lsC m (svI m x 0 A 0),1] A) x=0:=by
   rw [step x hx]
   exact lsC_q hm hv0 hvl
  have hr:redS L x≠0:=fun hz=>by
   have e:=val_red (A:=A) hm L x (fun b hb=>⟨hLl b hb,hK b hb⟩) hx
   rw [hz] at e
   have e2:valS m A (0:Fp p)=0:=by
    have:=val_smul (A:=A) hm (x:=0) (by rw [Pol.len_zero]; omega)
    rw [valS_q hm (by rw [Pol.len_zero]; omega)]
    have h3:=vq_smul (m:=m) (0:Zp p) (0:Quo m) A 0
    rw [Gq.mul_zero] at h3
    rw [Quo.mk_zero,h3]
    have:Quo.mk m (Pol.C (0:Zp p))=0:=by rw [Pol.C_zero]; rfl
    rw [this,Gq.zero_mul]
   rw [e2] at e
   have e3:=(Pol.mod_eq_iff h0).2 (show Quo.mk m (svI m x 0 A 0)=Quo.mk m 0 from e.symm)
   rw [Pol.mod_small hvl,Pol.zero_mod h0] at e3
   exact hv0 e3
  have hrl:(redS L x).len≤m.len-1:=redS_le hL.le (by omega)
  have hml:=Gq.mon_len hr
  have killr:valS m (prodS m [lsC m (svI m x 0 A 0),1] A) (Gq.mon (redS L x))=0:=by
   refine val_smul hm (by omega) _ ?_
   rw [val_red hm L x (fun b hb=>⟨hLl b hb,kill b (hLl b hb) (hK b hb)⟩) hx]
   exact killx
  refine ⟨isTrim_prod _ _ _,fun c hc=>by have:=prodS_lens' (N:=m.len-1) h0 (by omega) c hc; omega,putS L x,putS_desc hL (by omega),fun b hb=>?_,?_⟩
  ·rw [putS_ne hr] at hb
   rcases insS_mem hb with rfl | ⟨c,hc,rfl⟩
   ·exact killr
   ·have hcl':=hLl c hc
    rw [val_elim hm hcl' (by omega) killr]
    exact kill c hcl' (hK c hc)
  ·rw [putS_ne hr,insS_length,prodS_len hm (two_trim _) h.trim (two_res hm hcl) h.res (by simp) (by omega)]
   simp only [List.length_cons,List.length_nil]
   omega
theorem LsI.all [IsP p] {m:Fp p} (hm:Fld m):∀(xs A:List (Fp p)),LsI m A→(∀x∈xs,x.len<m.len)→LsI m (lsS m xs A)
 | [],_,h,_=>h
 | x::xs,A,h,hx=>LsI.all hm xs _ (h.next hm (hx x (by simp))) fun y hy=>hx y (by simp [hy])
end
end Pe

namespace Pe
open Go Gq
section
variable {K:Type} [CR K]
theorem sumR_comm (f:Nat→Nat→K) (M:Nat):∀N:Nat,sumR (fun n=>sumR (fun i=>f i n) M) N=sumR (fun i=>sumR (fun n=>f i n) N) M
 | 0=>by
  induction M with
  | zero=>rfl
  | succ M ih=>
   show (0:K)=sumR (fun i=>sumR (fun n=>f i n) 0) M+0
   rw [Gq.add_zero]
   exact ih
 | N+1=>by rw [sumR,sumR_comm f M N,←sumR_add]; rfl
theorem sumR_one (f:Nat→K) (k:Nat):∀N:Nat,sumR (fun n=>if n=k then f n else 0) N=if k<N then f k else 0
 | 0=>by rw [if_neg (by omega)]; rfl
 | N+1=>by
  rw [sumR,sumR_one f k N]
  by_cases h:N=k
  ·rw [if_pos h,if_neg (by omega),if_pos (by omega),h,Gq.zero_add]
  ·rw [if_neg h,Gq.add_zero]
   by_cases h2:k<N
   ·rw [if_pos h2,if_pos (by omega)]
   ·rw [if_neg h2,if_neg (by omega)]
theorem sumR_late (f:Nat→K) (k:Nat):∀N:Nat,sumR (fun n=>if n<k then 0 else f (n-k)) (k+N)=sumR f N
 | 0=>by
  have g:∀j,j≤k→sumR (fun n=>if n<k then (0:K) else f (n-k)) j=0:=fun j=>by
   induction j with
   | zero=>intro _; rfl
   | succ j ih=>intro h; rw [sumR,ih (by omega),if_pos (by omega),Gq.add_zero]
  exact g k (Nat.le_refl k)
 | N+1=>by rw [←Nat.add_assoc,sumR,sumR_late f k N,if_neg (by omega),show k+N-k=N by omega,sumR]
end
section
variable {p:Int} [ip:IsP p] {m:Fp p}
noncomputable def phT (t0 t1 t2 X:Quo m):Quo m:=t0*X+t1*sg 1 X+t2*sg 2 X
noncomputable def phI (t0 t1 t2:Quo m):Nat→Quo m→Quo m
 | 0,X=>X
 | k+1,X=>phI t0 t1 t2 k (phT t0 t1 t2 X)
theorem rop_val (t0 t1 t2 X:Quo m) (Y:Nat→Quo m):∀N:Nat,sumR (fun n=>Rop t0 t1 t2 Y n*sg n X) (N+2)=sumR (fun n=>Y n*sg n (phT t0 t1 t2 X)) N+(Y N*(sg N t0*sg N X+sg N t1*sg (N+1) X)+Y (N+1)*(sg (N+1) t0*sg (N+1) X))
 | 0=>by
  show 0+Y 0*t0*sg 0 X+(Y 1*sg 1 t0+Y 0*t1)*sg 1 X=0+(Y 0*(sg 0 t0*sg 0 X+sg 0 t1*sg 1 X)+Y 1*(sg 1 t0*sg 1 X))
  rw [show sg 0 t0=t0 from rfl,show sg 0 t1=t1 from rfl,show sg 0 X=X from rfl]
  exact ring_of [Y 0,Y 1,t0,t1,X,sg 1 t0,sg 1 X] rfl
 | N+1=>by
  rw [show N+1+2=(N+2)+1 from rfl,sumR,rop_val t0 t1 t2 X Y N,sumR]
  unfold phT
  rw [sgn_add,sgn_add,sgn_mul,sgn_mul,sgn_mul,sgn_sgn N 1,sgn_sgn N 2]
  show sumR (fun n=>Y n*sg n (t0*X+t1*sg 1 X+t2*sg 2 X)) N+(Y N*(sg N t0*sg N X+sg N t1*sg (N+1) X)+Y (N+1)*(sg (N+1) t0*sg (N+1) X))+(Y (N+2)*sg (N+2) t0+Y (N+1)*sg (N+1) t1+Y N*sg N t2)*sg (N+2) X=sumR (fun n=>Y n*sg n (t0*X+t1*sg 1 X+t2*sg 2 X)) N+Y N*(sg N t0*sg N X+sg N t1*sg (N+1) X+sg N t2*sg (N+2) X)+(Y (N+1)*(sg (N+1) t0*sg (N+1) X+sg (N+1) t1*sg (N+2) X)+Y (N+2)*(sg (N+2) t0*sg (N+2) X))
  rw [show (Y (N+2)*sg (N+2) t0+Y (N+1)*sg (N+1) t1+Y N*sg N t2)*sg (N+2) X=Y (N+2)*(sg (N+2) t0*sg (N+2) X)+Y (N+1)*(sg (N+1) t1*sg (N+2) X)+Y N*(sg N t2*sg (N+2) X) from ring_of [Y (N+2),sg (N+2) t0,Y (N+1),sg (N+1) t1,Y N,sg N t2,sg (N+2) X] rfl]
  generalize sumR (fun n=>Y n*sg n (t0*X+t1*sg 1 X+t2*sg 2 X)) N=S
  generalize sg N t0*sg N X=q1
  generalize sg N t1*sg (N+1) X=q2
  generalize sg N t2*sg (N+2) X=q3
  generalize sg (N+1) t0*sg (N+1) X=q4
  generalize sg (N+1) t1*sg (N+2) X=q5
  generalize sg (N+2) t0*sg (N+2) X=q6
  exact ring_of [S,Y N,Y (N+1),Y (N+2),q1,q2,q3,q4,q5,q6] rfl
end
section
variable {p:Int} {m:Fp p}
theorem rk_zero (t0 t1 t2:Quo m):∀(k n:Nat),2*k<n→Rk t0 t1 t2 k n=0
 | 0,n,h=>by
  obtain ⟨j,rfl⟩:∃j,n=j+1:=⟨n-1,by omega⟩
  rfl
 | k+1,n,h=>by
  obtain ⟨j,rfl⟩:∃j,n=j+2:=⟨n-2,by omega⟩
  show Rk t0 t1 t2 k (j+2)*sg (j+2) t0+Rk t0 t1 t2 k (j+1)*sg (j+1) t1+Rk t0 t1 t2 k j*sg j t2=0
  rw [rk_zero t0 t1 t2 k (j+2) (by omega),rk_zero t0 t1 t2 k (j+1) (by omega),rk_zero t0 t1 t2 k j (by omega)]
  rw [Gq.zero_mul,Gq.zero_mul,Gq.zero_mul,Gq.add_zero,Gq.add_zero]
end
section
variable {p:Int} [ip:IsP p] {m:Fp p}
theorem rk_val (t0 t1 t2:Quo m):∀(k:Nat) (X:Quo m) (N:Nat),2*k<N→sumR (fun n=>Rk t0 t1 t2 k n*sg n X) N=phI t0 t1 t2 k X
 | 0,X,N,h=>by
  obtain ⟨j,rfl⟩:∃j,N=1+j:=⟨N-1,by omega⟩
  rw [sumR_more _ 1 fun i hi=>by rw [rk_zero t0 t1 t2 0 i (by omega),Gq.zero_mul]]
  show 0+1*X=X
  rw [Gq.zero_add,Gq.one_mul]
 | k+1,X,N,h=>by
  obtain ⟨j,rfl⟩:∃j,N=j+2:=⟨N-2,by omega⟩
  show sumR (fun n=>Rop t0 t1 t2 (Rk t0 t1 t2 k) n*sg n X) (j+2)=phI t0 t1 t2 k (phT t0 t1 t2 X)
  rw [rop_val,rk_zero t0 t1 t2 k j (by omega),rk_zero t0 t1 t2 k (j+1) (by omega),Gq.zero_mul,Gq.zero_mul,Gq.add_zero,Gq.add_zero]
  exact rk_val t0 t1 t2 k (phT t0 t1 t2 X) j (by omega)
noncomputable def phA (t0 t1 t2:Quo m) (a:Fp p) (X:Quo m) (n:Nat):Quo m:=sumR (fun i=>Quo.mk m (Pol.C (a.c i))*phI t0 t1 t2 i X) n
end
section
variable {p:Int} {m:Fp p}
theorem phA_more (t0 t1 t2:Quo m) {a:Fp p} (X:Quo m) {n:Nat} (h:a.lt n) (k:Nat):phA t0 t1 t2 a X (n+k)=phA t0 t1 t2 a X n:=
 sumR_more _ n (fun i hi=>by rw [h i hi,Pol.C_zero,Quo.mk_zero,Gq.zero_mul]) k
end
section
variable {p:Int} [ip:IsP p] {m:Fp p}
end
section
variable {p:Int} {m:Fp p}
theorem phA_len (t0 t1 t2:Quo m) {a:Fp p} (X:Quo m) {n:Nat} (h:a.len≤n):phA t0 t1 t2 a X n=phA t0 t1 t2 a X a.len:=by
 obtain ⟨k,rfl⟩:∃k,n=a.len+k:=⟨n-a.len,by omega⟩
 exact phA_more t0 t1 t2 X a.lt_len k
end
section
variable {p:Int} [ip:IsP p] {m:Fp p}
theorem sv6_q {g d x:Fp p}:Quo.mk m (sv6 m g d x)=phT (Quo.mk m Pol.X) (Quo.mk m g) (Quo.mk m d) (Quo.mk m x):=by
 unfold sv6 phT
 rw [Quo.mk_add,Quo.mk_add,Pol.mk_mod,Pol.mk_mod,Pol.mk_mod,Quo.mk_mul,Quo.mk_mul,Quo.mk_mul,Pol.mk_mod,sg_mk,sg_mk]
theorem dvL_q {g d:Fp p} {a:Fp p}:∀(k i:Nat) (out now:Fp p),i+k=a.len→Quo.mk m (dvL m g d (tlC a i) out now)=Quo.mk m out+sumR (fun j=>Quo.mk m (Pol.C (a.c (i+j)))*phI (Quo.mk m Pol.X) (Quo.mk m g) (Quo.mk m d) j (Quo.mk m now)) k
 | 0,i,out,now,h=>by
  obtain rfl:i=a.len:=by omega
  rw [tlC_end]
  show Quo.mk m out=Quo.mk m out+0
  rw [Gq.add_zero]
 | k+1,i,out,now,h=>by
  rw [tlC_cons a (by omega),dvL,dvL_q k (i+1) _ _ (by omega),sumR_shift,Quo.mk_add,Quo.mk_mul,sv6_q,Gq.add_assoc]
  congr 1
  congr 1
  refine sumR_congr fun j _=>?_
  rw [show i+1+j=i+(j+1) by omega]
  rfl
theorem drVal_q {g d a x:Fp p}:Quo.mk m (drVal m g d a x)=phA (Quo.mk m Pol.X) (Quo.mk m g) (Quo.mk m d) a (Quo.mk m x) a.len:=by
 unfold drVal phA
 rw [dvL_q a.len 0 0 (x%m) (Nat.zero_add _),Quo.mk_zero,Gq.zero_add,Pol.mk_mod]
 refine sumR_congr fun j _=>?_
 rw [Nat.zero_add]
theorem frob_val {g d:Fp p} (hm:Fld m) (h:FrobSaid m g d) (X:Quo m):X-phA (Quo.mk m Pol.X) (Quo.mk m g) (Quo.mk m d) (frA m g d) X ((m.len-1)/2+1)+phA (Quo.mk m Pol.X) (Quo.mk m g) (Quo.mk m d) (frB m d) X m.len=0:=by
 have h5:=hm.five
 have h2:=hm.two
 have hs:∀n:Nat,sg (n+(m.len-1)) X=sg n X:=fun n=>by rw [←sgn_sgn,sg_full hm]
 have hs2:sg (2*(m.len-1)) X=X:=by
  rw [show 2*(m.len-1)=(m.len-1)+(m.len-1) by omega,hs,sg_full hm]
 -- the sum over all places
 have e:sumR (fun n=>((if n=2*(m.len-1) then 1 else 0)-(if n<m.len-1 then 0 else sumR (fun i=>Quo.mk m (Pol.C ((frA m g d).c i))*Rk (Quo.mk m Pol.X) (Quo.mk m g) (Quo.mk m d) i (n-(m.len-1))) ((m.len-1)/2+1))+sumR (fun i=>Quo.mk m (Pol.C ((frB m d).c i))*Rk (Quo.mk m Pol.X) (Quo.mk m g) (Quo.mk m d) i n) m.len)*sg n X) ((m.len-1)+20)=0:=by
  rw [sumR_congr (g:=fun _=>(0:Quo m)) fun n _=>by rw [h.eq n,Gq.zero_mul]]
  have:∀n:Nat,sumR (fun _=>(0:Quo m)) n=0:=fun n=>by
   induction n with
   | zero=>rfl
   | succ n ih=>rw [sumR,ih,Gq.add_zero]
  exact this _
 have split3:∀(f1 f2 f3:Nat→Quo m) (N:Nat),sumR (fun n=>(f1 n-f2 n+f3 n)*sg n X) N=sumR (fun n=>f1 n*sg n X) N-sumR (fun n=>f2 n*sg n X) N+sumR (fun n=>f3 n*sg n X) N:=fun f1 f2 f3 N=>by
  induction N with
  | zero=>show (0:Quo m)=0-0+0; exact ring_of [] rfl
  | succ N ih=>
   rw [sumR,ih,sumR,sumR,sumR]
   exact ring_of [sumR (fun n=>f1 n*sg n X) N,sumR (fun n=>f2 n*sg n X) N,sumR (fun n=>f3 n*sg n X) N,f1 N,f2 N,f3 N,sg N X] rfl
 rw [split3] at e
 have p1:sumR (fun n=>(if n=2*(m.len-1) then (1:Quo m) else 0)*sg n X) ((m.len-1)+20)=X:=by
  rw [sumR_congr (g:=fun n=>if n=2*(m.len-1) then sg n X else 0) fun n _=>by
   split
   ·exact Gq.one_mul _
   ·exact Gq.zero_mul _]
  rw [sumR_one (fun n=>sg n X),if_pos (by omega),hs2]
 have lin:∀(a:Fp p) (M N:Nat),2*M<N+2→sumR (fun n=>sumR (fun i=>Quo.mk m (Pol.C (a.c i))*Rk (Quo.mk m Pol.X) (Quo.mk m g) (Quo.mk m d) i n) M*sg n X) N=phA (Quo.mk m Pol.X) (Quo.mk m g) (Quo.mk m d) a X M:=fun a M N hN=>by
  rw [sumR_congr (g:=fun n=>sumR (fun i=>Quo.mk m (Pol.C (a.c i))*Rk (Quo.mk m Pol.X) (Quo.mk m g) (Quo.mk m d) i n*sg n X) M) fun n _=>by
   rw [Gq.mul_comm,←sumR_mul]
   exact sumR_congr fun i _=>Gq.mul_comm _ _]
  rw [sumR_comm (fun i n=>Quo.mk m (Pol.C (a.c i))*Rk (Quo.mk m Pol.X) (Quo.mk m g) (Quo.mk m d) i n*sg n X)]
  refine sumR_congr fun i hi=>?_
  rw [←rk_val (Quo.mk m Pol.X) (Quo.mk m g) (Quo.mk m d) i X N (by omega),←sumR_mul]
  exact sumR_congr fun n _=>Gq.mul_assoc _ _ _
 have p3:=lin (frB m d) m.len ((m.len-1)+20) (by omega)
 have p2:sumR (fun n=>(if n<m.len-1 then 0 else sumR (fun i=>Quo.mk m (Pol.C ((frA m g d).c i))*Rk (Quo.mk m Pol.X) (Quo.mk m g) (Quo.mk m d) i (n-(m.len-1))) ((m.len-1)/2+1))*sg n X) ((m.len-1)+20)=phA (Quo.mk m Pol.X) (Quo.mk m g) (Quo.mk m d) (frA m g d) X ((m.len-1)/2+1):=by
  rw [←lin (frA m g d) ((m.len-1)/2+1) 20 (by omega),←sumR_late (fun n=>sumR (fun i=>Quo.mk m (Pol.C ((frA m g d).c i))*Rk (Quo.mk m Pol.X) (Quo.mk m g) (Quo.mk m d) i n) ((m.len-1)/2+1)*sg n X) (m.len-1) 20]
  refine sumR_congr fun n _=>?_
  by_cases hn:n<m.len-1
  ·rw [if_pos hn,if_pos hn,Gq.zero_mul]
  ·rw [if_neg hn,if_neg hn]
   have:=hs (n-(m.len-1))
   rw [show n-(m.len-1)+(m.len-1)=n by omega] at this
   rw [this]
 rw [p1,p2,p3] at e
 exact e
theorem order_zero {g d x:Fp p} (hm:Fld m) (hg:g.len<m.len) (hd:d.len<m.len) (hd0:d≠0):drVal m g d (orM m g d) x=0:=by
 have h2:=hm.two
 have hs:=frob_said hm hg hd hd0
 have hA:(frA m g d).len≤(m.len-1)/2+1:=Pol.len_le hs.lt
 have hB:=frB_len2 hm hd hd0
 have hO:=orP_len (g:=g) hm hd hd0
 have hOM:(orM m g d).len≤m.len:=by
  unfold orM
  exact Nat.le_trans (Pol.len_le (Pol.lt_Cmul _ (orP m g d).lt_len)) (by omega)
 have e:=frob_val hm hs (Quo.mk m x)
 have add:∀(a b:Fp p) (n:Nat),phA (Quo.mk m Pol.X) (Quo.mk m g) (Quo.mk m d) (a+b) (Quo.mk m x) n=phA (Quo.mk m Pol.X) (Quo.mk m g) (Quo.mk m d) a (Quo.mk m x) n+phA (Quo.mk m Pol.X) (Quo.mk m g) (Quo.mk m d) b (Quo.mk m x) n:=fun a b n=>by
  unfold phA
  rw [←sumR_add]
  refine sumR_congr fun i _=>?_
  rw [Pol.c_add,Pol.C_add,Quo.mk_add]
  exact ring_of [Quo.mk m (Pol.C (a.c i)),Quo.mk m (Pol.C (b.c i)),phI (Quo.mk m Pol.X) (Quo.mk m g) (Quo.mk m d) i (Quo.mk m x)] rfl
 have smul:∀(k:Zp p) (a:Fp p) (n:Nat),phA (Quo.mk m Pol.X) (Quo.mk m g) (Quo.mk m d) (Pol.C k*a) (Quo.mk m x) n=Quo.mk m (Pol.C k)*phA (Quo.mk m Pol.X) (Quo.mk m g) (Quo.mk m d) a (Quo.mk m x) n:=fun k a n=>by
  unfold phA
  rw [←sumR_mul]
  refine sumR_congr fun i _=>?_
  rw [Pol.c_Cmul,Pol.C_mul,Quo.mk_mul,Gq.mul_assoc]
 have one:phA (Quo.mk m Pol.X) (Quo.mk m g) (Quo.mk m d) 1 (Quo.mk m x) m.len=Quo.mk m x:=by
  rw [phA_len _ _ _ _ (by rw [Pol.len_one]; omega),Pol.len_one]
  show 0+Quo.mk m (Pol.C ((1:Fp p).c 0))*Quo.mk m x=_
  rw [show (1:Fp p).c 0=1 from rfl,Pol.C_one,Quo.mk_one,Gq.one_mul,Gq.zero_add]
 have hz:phA (Quo.mk m Pol.X) (Quo.mk m g) (Quo.mk m d) (orP m g d) (Quo.mk m x) m.len=0:=by
  unfold orP
  rw [add,add,smul,one,phA_len _ _ _ _ (a:=frA m g d) (n:=m.len) (by omega),←phA_len _ _ _ _ hA,zp_neg,zp_one,←e]
  have hn:Quo.mk m (Pol.C (-1:Zp p))=-1:=by
   have h1:Pol.C (-1:Zp p)+1=0:=by
    rw [←Pol.C_one,←Pol.C_add,show (-1:Zp p)+1=0 from ring_of [] rfl,Pol.C_zero]
   have h2:Quo.mk m (Pol.C (-1:Zp p))+Quo.mk m 1=0:=by rw [←Quo.mk_add,h1,Quo.mk_zero]
   rw [Quo.mk_one] at h2
   have h3:Quo.mk m (Pol.C (-1:Zp p))+1-1=Quo.mk m (Pol.C (-1:Zp p)):=ring_of [Quo.mk m (Pol.C (-1:Zp p))] rfl
   rw [←h3,h2]
   exact ring_of [] rfl
  rw [hn]
  exact ring_of [phA (Quo.mk m Pol.X) (Quo.mk m g) (Quo.mk m d) (frB m d) (Quo.mk m x) m.len,phA (Quo.mk m Pol.X) (Quo.mk m g) (Quo.mk m d) (frA m g d) (Quo.mk m x) ((m.len-1)/2+1),Quo.mk m x] rfl
 have hq:Quo.mk m (drVal m g d (orM m g d) x)=0:=by
  rw [drVal_q,←phA_len _ _ _ _ hOM]
  unfold orM
  rw [smul,hz,Gq.mul_zero]
 have hl:=drVal_len (g:=g) (d:=d) (a:=orM m g d) (x:=x) hm.mon.2
 exact Classical.byContradiction fun h0=>by
  have:=(dv_iff_mk.2 hq).len h0
  omega
end
end Pe
