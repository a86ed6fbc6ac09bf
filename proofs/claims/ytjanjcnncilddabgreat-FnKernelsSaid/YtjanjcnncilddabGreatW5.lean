/-
  A part of the proof: an evaluator for a small form of the code, its soundness, and contracts of functions over it.
-/
import Derived.Test.YtjanjcnncilddabGreatW1
import Derived.Test.YtjanjcnncilddabGreatW2
import Derived.Test.YtjanjcnncilddabGreatW3
import Derived.Test.YtjanjcnncilddabGreatW4

namespace Pe
open Go Gq
variable {T:Nat→Option Fn} {A:ah}
section
variable {p:Int}
def Jc (a:Fp p) (i:Nat):Fp p:=⟨fun n=>if n<i then a.c n else 0,i,fun n hn=>if_neg (by omega)⟩
theorem R0 (a:Fp p) (i n:Nat):(Jc a i).c n=if n<i then a.c n else 0:=rfl
theorem Oe (a:Fp p):Jc a 0=0:=Pol.ext fun n=>by rw [R0,if_neg (by omega)]; rfl
theorem Th (a:Fp p):Jc a a.len=a:=Pol.ext fun n=>by
 rw [R0]
 split
 ·rfl
 ·rename_i h; exact (a.lt_len n (by omega)).symm
end
section
variable {p:Int} [IsP p]
theorem a4j (k:Zp p) (n i:Nat):(Pol.mo k n).c i=if i=n then k else 0:=rfl
theorem Hb (a:Fp p) (i:Nat):Jc a (i+1)=Jc a i+Pol.mo (a.c i) i:=Pol.ext fun n=>by
 rw [Pol.c_add,R0,R0,a4j]
 by_cases h:n=i
 ·subst h; rw [if_pos (by omega),if_neg (by omega),if_pos rfl,Gq.zero_add]
 ·rw [if_neg h,Gq.add_zero]
  by_cases h2:n<i
  ·rw [if_pos (by omega),if_pos h2]
  ·rw [if_neg (by omega),if_neg h2]
theorem aal (n:Nat):(Pol.mo 0 n:Fp p)=0:=Pol.ext fun i=>by rw [a4j]; split <;> rfl
theorem agh (k l:Zp p) (n m:Nat):(Pol.mo k n*Pol.mo l m:Fp p)=Pol.mo (k*l) (n+m):=Pol.ext fun i=>by
 rw [W3,a4j,a4j]
 by_cases h:n≤i
 ·rw [if_pos h]
  by_cases h2:i-n=m
  ·rw [if_pos h2,if_pos (by omega)]
  ·rw [if_neg h2,if_neg (by omega),Gq.mul_zero]
 ·rw [if_neg h,if_neg (by omega)]
theorem O6 {cur:List Int} {k:Nat} (h:k<cur.length) (t:Int):ew p (cur.set k ((cf cur k+t)%p))=ew p cur+Pol.mo (zp p t) k:=Pol.ext fun j=>by
 rw [Pol.c_add,iu,iu,tk,a4j]
 by_cases h1:j=k
 ·subst h1
  rw [if_pos ⟨rfl,h⟩,if_pos rfl,A3,Wf]
 ·rw [if_neg (by omega),if_neg h1,Gq.add_zero]
end
theorem a84 {O:ah} {p:Int} [IsP p] {a b:Fp p} {z:List Int} {n i:Nat} (hn:n<64) (hi:i<a.len) (hal:a.len≤64) (hbl:b.len≤64) (hab:a.len+b.len≤65) (hb1:0<b.len) (hai:a.c i≠0) {P:Fp p} {vn:V} (hvn:vn.refs=[]):∀(m j:Nat) (cur:List Int),j+m=b.len→cur.length=64→Can p cur→ew p cur=P+Pol.mo (a.c i) i*Jc b j→∃cur':List Int,cur'.length=64∧Can p cur'∧ew p cur'=P+Pol.mo (a.c i) i*b ∧
 dn O 0 (.loop Z4g_L0) ⟨[(0,(.d (.int .i64 p))),(4,.ptr 0 []),(5,.ptr 1 []),(6,.ptr 2 []),(8,vn),(9,(.d (.int .i64 (((b.len-1:Nat):Int))))),(10,.ptr 3 []),(11,(.d (.int .i64 i))),(12,(.d (.int .i64 j)))],[.box false (D.arr 64 .leaf (ab .u8 (pad (row a)))),.box false (D.arr 64 .leaf (ab .u8 (pad (row b)))),.box false (D.arr 64 .leaf (ab .u8 z)),.box false (D.arr 64 .leaf (ab .u8 cur))]⟩ =
  some (.exit 2,⟨[(0,(.d (.int .i64 p))),(4,.ptr 0 []),(5,.ptr 1 []),(6,.ptr 2 []),(8,vn),(9,(.d (.int .i64 (((b.len-1:Nat):Int))))),(10,.ptr 3 []),(11,(.d (.int .i64 i))),(12,(.d (.int .i64 b.len))),(43,(.d (.bool false)))],[.box false (D.arr 64 .leaf (ab .u8 (pad (row a)))),.box false (D.arr 64 .leaf (ab .u8 (pad (row b)))),.box false (D.arr 64 .leaf (ab .u8 z)),.box false (D.arr 64 .leaf (ab .u8 cur'))]⟩)
 | 0,j,cur,hj,hc,hcan,he=>by
  obtain rfl:j=b.len:=by omega
  rw [Th] at he;have hlt:¬ (b.len:Int)≤((b.len-1:Nat):Int):=by omega
  refine ⟨cur,hc,hcan,he,bt ?_⟩;generalize ((b.len-1:Nat):Int)=m1 at *;generalize pad (row a)=PA at *;generalize pad (row b)=PB at *;simp -implicitDefEqProofs [Z4g_L0,ac,hlt,hvn]
 | m+1,j,cur,hj,hc,hcan,he=>by
  have hp:=IsP.pos (p:=p);have hp7:=IsP.le (p:=p);have hp0:p≠0:=by omega
  have hlt:(j:Int)≤((b.len-1:Nat):Int):=by omega
  have hi64:i<64:=by omega
  have hj64:j<64:=by omega
  have hij:i+j<64:=by omega
  have hs0:(0:Int)≤(i:Int)+j:=by omega
  have hs1:((i:Int)+j).toNat=i+j:=by omega
  have hx:(pad (row a))[i]? = some (rep (a.c i)):=by rw [qt _ _ hi64,gz]
  have hy:(pad (row b))[j]? = some (rep (b.c j)):=by rw [qt _ _ hj64,gz]
  have hx0:rep (a.c i)≠0:=fun h=>hai (g7.1 h)
  have hr1:=kl (a.c i);have hr2:=kl (b.c j);have hkc:i+j<cur.length:=by omega
  have hw:cur[i+j]=cf cur (i+j):=(fj hkc).symm;have gc:=hcan.le hp (i+j);have gm:=il (x:=rep (a.c i)) (y:=rep (b.c j)) (b:=10) (c:=10) (by omega) (by omega) (by omega)
  have gm0:=fm hr1.1 hr2.1;have w0:IntKind.i64.wrap ((i:Int)+j)=((i+j:Nat):Int):=(w64 (x:=(i:Int)+j) (by omega)).trans (by omega)
  have w1:IntKind.i64.wrap (rep (a.c i))=rep (a.c i):=w64 (by omega)
  have w2:IntKind.i64.wrap (rep (b.c j))=rep (b.c j):=w64 (by omega)
  have w3:IntKind.i64.wrap (cf cur (i+j))=cf cur (i+j):=w64 (by omega)
  have w4:IntKind.i64.wrap (rep (a.c i)*rep (b.c j))=rep (a.c i)*rep (b.c j):=w64 (by omega)
  have w5:IntKind.i64.wrap (cf cur (i+j)+rep (a.c i)*rep (b.c j))=cf cur (i+j)+rep (a.c i)*rep (b.c j):=w64 (by omega)
  have w6:(cf cur (i+j)+rep (a.c i)*rep (b.c j)).tmod p=(cf cur (i+j)+rep (a.c i)*rep (b.c j))%p:=ct (by omega)
  have hin:=dt (cf cur (i+j)+rep (a.c i)*rep (b.c j)) hp0;have hin2:=cz (cf cur (i+j)+rep (a.c i)*rep (b.c j)) hp;have w7:IntKind.u8.wrap ((cf cur (i+j)+rep (a.c i)*rep (b.c j))%p)=(cf cur (i+j)+rep (a.c i)*rep (b.c j))%p:=w8 (by omega)
  have w8':IntKind.i64.wrap ((j:Int)+1)=((j+1:Nat):Int):=(w64 (x:=(j:Int)+1) (by omega)).trans (by omega)
  have hnew:ew p (cur.set (i+j) ((cf cur (i+j)+rep (a.c i)*rep (b.c j))%p))=P+Pol.mo (a.c i) i*Jc b (j+1):=by
   rw [O6 hkc,he,B4,kq,kq,Hb,Gq.mul_add,agh,Gq.add_assoc]
  have hcan':Can p (cur.set (i+j) ((cf cur (i+j)+rep (a.c i)*rep (b.c j))%p)):=fun x hx=>by
   rcases dh hx with h | rfl
   ·exact hcan x h
   ·exact ⟨hin,hin2⟩
  obtain ⟨cur',g1,g2,g3,g4⟩:=a84 (O:=O) (z:=z) hn hi hal hbl hab hb1 hai hvn m (j+1) (cur.set (i+j) ((cf cur (i+j)+rep (a.c i)*rep (b.c j))%p)) (by omega) (by rw [cr]; exact hc) hcan' hnew
  have hs:ab .u8 (cur.set (i+j) ((cf cur (i+j)+rep (a.c i)*rep (b.c j))%p))=(ab .u8 cur).set (i+j) (D.int .u8 ((cf cur (i+j)+rep (a.c i)*rep (b.c j))%p)):=by unfold ab; rw [fg]
  rw [hs] at g4;refine ⟨cur',g1,g2,g3,bm ?_ g4⟩;generalize (cf cur (i+j)+rep (a.c i)*rep (b.c j))%p=W at *;generalize ((b.len-1:Nat):Int)=m1 at *;generalize pad (row a)=PA at *;generalize pad (row b)=PB at *;simp -implicitDefEqProofs [Z4g_L0,ac,hlt,hi64,hj64,hij,hs0,hs1,hx,hy,hx0,hc,hw,w0,w1,w2,w3,w4,w5,w6,w7,w8',hp0,hvn]
theorem Wj {O:ah} {p:Int} [IsP p] {a b:Fp p} {z:List Int} (hal:a.len≤64) (hbl:b.len≤64) (hab:a.len+b.len≤65) (ha1:0<a.len) (hb1:0<b.len):∀(m i:Nat) (cur:List Int),i+m=a.len→cur.length=64→Can p cur→ew p cur=Jc a i*b→∃cur':List Int,cur'.length=64∧Can p cur'∧ew p cur'=a*b ∧
 dn O 0 (.loop Z4g_L1) ⟨[(0,(.d (.int .i64 p))),(4,.ptr 0 []),(5,.ptr 1 []),(6,.ptr 2 []),(8,(.d (.int .i64 (((a.len-1:Nat):Int))))),(9,(.d (.int .i64 (((b.len-1:Nat):Int))))),(10,.ptr 3 []),(11,(.d (.int .i64 i)))],[.box false (D.arr 64 .leaf (ab .u8 (pad (row a)))),.box false (D.arr 64 .leaf (ab .u8 (pad (row b)))),.box false (D.arr 64 .leaf (ab .u8 z)),.box false (D.arr 64 .leaf (ab .u8 cur))]⟩ =
  some (.exit 0,⟨[(0,(.d (.int .i64 p))),(4,.ptr 0 []),(5,.ptr 1 []),(6,.ptr 2 []),(8,(.d (.int .i64 (((a.len-1:Nat):Int))))),(9,(.d (.int .i64 (((b.len-1:Nat):Int))))),(10,.ptr 3 []),(11,(.d (.int .i64 a.len))),(32,(.d (.bool false)))],[.box false (D.arr 64 .leaf (ab .u8 (pad (row a)))),.box false (D.arr 64 .leaf (ab .u8 (pad (row b)))),.box false (D.arr 64 .leaf (ab .u8 z)),.box false (D.arr 64 .leaf (ab .u8 cur'))]⟩)
 | 0,i,cur,hi,hc,hcan,he=>by
  obtain rfl:i=a.len:=by omega
  rw [Th] at he;have hlt:¬ (a.len:Int)≤((a.len-1:Nat):Int):=by omega
  refine ⟨cur,hc,hcan,he,bt ?_⟩;generalize ((b.len-1:Nat):Int)=m1 at *;generalize ((a.len-1:Nat):Int)=n1 at *;generalize pad (row a)=PA at *;generalize pad (row b)=PB at *;simp -implicitDefEqProofs [Z4g_L1,ac,hlt]
 | m+1,i,cur,hi,hc,hcan,he=>by
  have hlt:(i:Int)≤((a.len-1:Nat):Int):=by omega
  have hi64:i<64:=by omega
  have w8':IntKind.i64.wrap ((i:Int)+1)=((i+1:Nat):Int):=(w64 (x:=(i:Int)+1) (by omega)).trans (by omega)
  have hx:(pad (row a))[i]? = some (rep (a.c i)):=by rw [qt _ _ hi64,gz]
  by_cases hai:a.c i=0
  ·have hr:rep (a.c i)=0:=g7.2 hai
   have he':ew p cur=Jc a (i+1)*b:=by rw [Hb,hai,aal,Gq.add_zero]; exact he
   obtain ⟨cur',g1,g2,g3,g4⟩:=Wj (O:=O) (z:=z) hal hbl hab ha1 hb1 m (i+1) cur (by omega) hc hcan he'
   rw [hr] at hx
   have hin:dn O 0 (.loop Z4g_L0) ⟨[(0,(.d (.int .i64 p))),(4,.ptr 0 []),(5,.ptr 1 []),(6,.ptr 2 []),(8,(.d (.int .i64 (((a.len-1:Nat):Int))))),(9,(.d (.int .i64 (((b.len-1:Nat):Int))))),(10,.ptr 3 []),(11,(.d (.int .i64 i))),(12,(.d (.int .i64 0)))],[.box false (D.arr 64 .leaf (ab .u8 (pad (row a)))),.box false (D.arr 64 .leaf (ab .u8 (pad (row b)))),.box false (D.arr 64 .leaf (ab .u8 z)),.box false (D.arr 64 .leaf (ab .u8 cur))]⟩ =
    some (.exit 2,⟨[(0,(.d (.int .i64 p))),(4,.ptr 0 []),(5,.ptr 1 []),(6,.ptr 2 []),(8,(.d (.int .i64 (((a.len-1:Nat):Int))))),(9,(.d (.int .i64 (((b.len-1:Nat):Int))))),(10,.ptr 3 []),(11,(.d (.int .i64 i))),(12,(.d (.int .i64 0))),(43,(.d (.bool false)))],[.box false (D.arr 64 .leaf (ab .u8 (pad (row a)))),.box false (D.arr 64 .leaf (ab .u8 (pad (row b)))),.box false (D.arr 64 .leaf (ab .u8 z)),.box false (D.arr 64 .leaf (ab .u8 cur))]⟩):=by
    refine bt ?_;generalize b.len-1=m1 at *;generalize ((a.len-1:Nat):Int)=n1 at *;generalize pad (row a)=PA at *;generalize pad (row b)=PB at *;simp -implicitDefEqProofs [Z4g_L0,ac,hi64,hx]
   refine ⟨cur',g1,g2,g3,bm ?_ g4⟩;generalize ((b.len-1:Nat):Int)=m1 at *;generalize ((a.len-1:Nat):Int)=n1 at *;generalize pad (row a)=PA at *;generalize pad (row b)=PB at *;simp -implicitDefEqProofs [Z4g_L1,ac,hlt,hin,w8']
  ·obtain ⟨cur1,k1,k2,k3,k4⟩:=a84 (O:=O) (z:=z) (n:=0) (i:=i) (by omega) (by omega) hal hbl hab hb1 hai (P:=Jc a i*b) (vn:=(.d (.int .i64 (((a.len-1:Nat):Int))))) rfl b.len 0 cur (bn _) hc hcan (by rw [Oe,Gq.mul_zero,Gq.add_zero]; exact he)
   have e00:((0:Nat):Int)=0:=rfl;rw [e00] at k4
   have he':ew p cur1=Jc a (i+1)*b:=by
    rw [k3,Hb];exact bo [Jc a i,b,Pol.mo (a.c i) i] rfl
   obtain ⟨cur',g1,g2,g3,g4⟩:=Wj (O:=O) (z:=z) hal hbl hab ha1 hb1 m (i+1) cur1 (by omega) k1 k2 he'
   refine ⟨cur',g1,g2,g3,bm ?_ g4⟩;generalize ((b.len-1:Nat):Int)=m1 at *;generalize ((a.len-1:Nat):Int)=n1 at *;generalize pad (row a)=PA at *;generalize pad (row b)=PB at *;simp -implicitDefEqProofs [Z4g_L1,ac,hlt,k4,w8']
def z5 (O:ah):Prop:=∀(p:Int) [IsP p] (a b:Fp p),a.len≤64→b.len≤64→(a*b).len≤64 →
 ask O F4g [(D.int .i64 p),(D.arr 64 .leaf (ab .u8 (pad (row a)))),(D.arr 64 .leaf (ab .u8 (pad (row b))))]=some (.tup [(D.arr 64 .leaf (ab .u8 (pad (row (a*b))))),(D.bool true)])
theorem a53 (hT:T F4g=some Z4g) (hd:iq (den T A)):z5 (den T A):=by
 intro p i a b hal hbl hab;have e1:=hd p a hal;have e2:=hd p b hbl;refine bi hT rfl ?_
 by_cases ha:a=0
 ·subst ha
  rw [Gq.zero_mul,dq];rw [Pol.len_zero,dq] at e1;generalize pad (row b)=PB at *;simp -implicitDefEqProofs [Z4g,Z4g_B,ac,e1,e2,List.replicate]
 ·have ha1:=Pol.len_pos ha
  by_cases hb:b=0
  ·subst hb
   rw [Gq.mul_zero,dq];rw [Pol.len_zero,dq] at e2;have ha2:¬ ((a.len:Int)-1<0):=by omega
   generalize pad (row a)=PA at *;simp -implicitDefEqProofs [Z4g,Z4g_B,ac,e1,e2,ha2,List.replicate]
  ·have hb1:=Pol.len_pos hb
   have hm:=Pol.len_mul ha hb;rw [show ((a.len:Int)-1)=((a.len-1:Nat):Int) by omega] at e1
   rw [show ((b.len:Int)-1)=((b.len-1:Nat):Int) by omega] at e2
   have w1:IntKind.i64.wrap (((a.len-1:Nat):Int)+((b.len-1:Nat):Int))=((a.len-1+(b.len-1):Nat):Int):=(w64 (by omega)).trans (by omega)
   have w2:¬ ((63:Int)<((a.len-1+(b.len-1):Nat):Int)):=by omega
   obtain ⟨cur',g1,g2,g3,g4⟩:=Wj (O:=den T A) (z:=pad []) hal hbl (by omega) ha1 hb1 a.len 0 (pad []) (bn _) (ck _) (by
    have:=Ag (0:Fp p); rwa [dq] at this) (by
    rw [Oe,Gq.zero_mul];have:=lh (p:=p) (a:=0) (by rw [Pol.len_zero]; omega)
    rwa [dq] at this)
   have e00:((0:Nat):Int)=0:=rfl;rw [e00] at g4;have hcur:cur'=pad (row (a*b)):=by rw [Hw g2 g1,g3]
   rw [hcur] at g4;have n1:¬ (((a.len-1:Nat):Int)<0):=by omega
   have n2:¬ (((b.len-1:Nat):Int)<0):=by omega
   generalize ((a.len-1+(b.len-1):Nat):Int)=s1 at *;generalize ((b.len-1:Nat):Int)=m1 at *;generalize ((a.len-1:Nat):Int)=k1 at *;generalize pad (row (a*b))=PR at *;generalize pad (row a)=PA at *;generalize pad (row b)=PB at *;simp -implicitDefEqProofs [Z4g,Z4g_B,ac,e1,e2,w1,w2,n1,n2,g4,List.replicate]
structure BzS {p:Int} [IsP p] (A B a b u x v y:Fp p):Prop where
 i:Pol.BzI A B a b u x v y
 la:a.len≤64
 lb:b.len≤64
 lu:u.len≤64
 lv:v.len≤64
 ne:a≠0
theorem BzS.step {p:Int} [IsP p] {A B a b u x v y:Fp p} (h:BzS A B a b u x v y) (hA:A.len≤64) (hB:B.len≤64) (hb:b≠0) :
 BzS A B b (a%b) x (u-a/b*x) y (v-a/b*y)∧x.len≤64∧y.len≤64∧(a/b).len≤64∧(a/b*x).len≤64∧(a/b*y).len≤64∧(a%b).len≤64:=by
 have h1:=h.i.lx;have h2:=h.i.ly;have h3:=Pol.len_pos h.ne;have h4:=Pol.len_pos hb;have h5:=Pol.len_div_le a hb;have h6:=Pol.len_mod_le a hb;obtain ⟨h7,h8⟩:=h.i.qlen hb;have h9:=h.la;have hx:x.len≤64:=by omega
 have hy:y.len≤64:=by omega
 exact ⟨⟨h.i.step hb,h.lb,by omega,hx,hy,hb⟩,hx,hy,by omega,by omega,by omega,by omega⟩
theorem a49 {O:ah} (hdg:iq O) (hd:tg O) (ht:z5 O) (ha:ja O) {p:Int} [IsP p] {z:List Int} {a b u x v y:Fp p} (h0:b≠0) (ha':a.len≤64) (hb:b.len≤64) (hu:u.len≤64) (hv:v.len≤64) (s1:x.len≤64) (s2:y.len≤64) (s3:(a/b).len≤64) (s4:(a/b*x).len≤64) (s5:(a/b*y).len≤64) :
 dn O 0 Z3v_L0 ⟨[(0,(.d (.int .i64 p))),(4,.ptr 0 []),(5,.ptr 1 []),(6,.ptr 2 []),(7,.ptr 3 []),(8,.ptr 4 []),(9,.ptr 5 []),(10,.ptr 6 []),(11,.ptr 7 []),(12,.ptr 8 [])],[.box false (D.arr 64 .leaf (ab .u8 (pad (row a)))),.box false (D.arr 64 .leaf (ab .u8 (pad (row b)))),.box false (D.arr 64 .leaf (ab .u8 z)),.box false (D.arr 64 .leaf (ab .u8 z)),.box false (D.arr 64 .leaf (ab .u8 z)),.box false (D.arr 64 .leaf (ab .u8 (pad (row u)))),.box false (D.arr 64 .leaf (ab .u8 (pad (row x)))),.box false (D.arr 64 .leaf (ab .u8 (pad (row v)))),.box false (D.arr 64 .leaf (ab .u8 (pad (row y)))),.hole,.hole,.hole,.hole,.hole,.hole]⟩ =
  some (.normal,⟨[(0,(.d (.int .i64 p))),(4,.ptr 0 []),(5,.ptr 1 []),(6,.ptr 2 []),(7,.ptr 3 []),(8,.ptr 4 []),(9,.ptr 5 []),(10,.ptr 6 []),(11,.ptr 7 []),(12,.ptr 8 [])],[.box false (D.arr 64 .leaf (ab .u8 (pad (row b)))),.box false (D.arr 64 .leaf (ab .u8 (pad (row (a%b))))),.box false (D.arr 64 .leaf (ab .u8 z)),.box false (D.arr 64 .leaf (ab .u8 z)),.box false (D.arr 64 .leaf (ab .u8 z)),.box false (D.arr 64 .leaf (ab .u8 (pad (row x)))),.box false (D.arr 64 .leaf (ab .u8 (pad (row (u-a/b*x))))),.box false (D.arr 64 .leaf (ab .u8 (pad (row y)))),.box false (D.arr 64 .leaf (ab .u8 (pad (row (v-a/b*y))))),.hole,.hole,.hole,.hole,.hole,.hole]⟩):=by
 have hp:=Pol.len_pos h0;have e0:=hdg p b hb;have e1:=hd p a b h0 ha' hb;have e2:=ht p (a/b) x s3 s1 s4;have e3:=ha p (-1) u (a/b*x) (by omega) (by omega) hu s4
 have e4:=ht p (a/b) y s3 s2 s5;have e5:=ha p (-1) v (a/b*y) (by omega) (by omega) hv s5
 rw [Ld] at e3 e5;have hge:¬ ((b.len:Int)-1<0):=by omega
 have hge2:(0:Int)≤(b.len:Int)-1:=by omega
 have hge3:(1:Int)≤(b.len:Int):=by omega
 generalize pad (row (u-a/b*x))=Pux at *;generalize pad (row (v-a/b*y))=Pvy at *;generalize pad (row (a/b*x))=Pqx at *;generalize pad (row (a/b*y))=Pqy at *;generalize pad (row (a/b))=Pq at *;generalize pad (row (a%b))=Pr at *;generalize pad (row a)=Pa at *;generalize pad (row b)=Pb at *;generalize pad (row u)=Pu at *;generalize pad (row x)=Px at *;generalize pad (row v)=Pv at *;generalize pad (row y)=Py at *;simp -implicitDefEqProofs [Z3v_L0,ac,hge3,e0,e1,e2,e3,e4,e5]
theorem a5t {O:ah} (hdg:iq O) (hd:tg O) (ht:z5 O) (ha:ja O) {p:Int} [IsP p] {A B:Fp p} {z:List Int} (hA:A.len≤64) (hB:B.len≤64):∀(n:Nat) (a b u x v y:Fp p),b.len≤n→BzS A B a b u x v y→∃x' y':List Int,(Pol.bz n a b u x v y).1≠0∧(Pol.bz n a b u x v y).1.len≤64∧(Pol.bz n a b u x v y).2.1.len≤64∧(Pol.bz n a b u x v y).2.2.len≤64 ∧
 dn O 0 (.loop Z3v_L0) ⟨[(0,(.d (.int .i64 p))),(4,.ptr 0 []),(5,.ptr 1 []),(6,.ptr 2 []),(7,.ptr 3 []),(8,.ptr 4 []),(9,.ptr 5 []),(10,.ptr 6 []),(11,.ptr 7 []),(12,.ptr 8 [])],[.box false (D.arr 64 .leaf (ab .u8 (pad (row a)))),.box false (D.arr 64 .leaf (ab .u8 (pad (row b)))),.box false (D.arr 64 .leaf (ab .u8 z)),.box false (D.arr 64 .leaf (ab .u8 z)),.box false (D.arr 64 .leaf (ab .u8 z)),.box false (D.arr 64 .leaf (ab .u8 (pad (row u)))),.box false (D.arr 64 .leaf (ab .u8 (pad (row x)))),.box false (D.arr 64 .leaf (ab .u8 (pad (row v)))),.box false (D.arr 64 .leaf (ab .u8 (pad (row y)))),.hole,.hole,.hole,.hole,.hole,.hole]⟩ =
  some (.exit 0,⟨[(0,(.d (.int .i64 p))),(4,.ptr 0 []),(5,.ptr 1 []),(6,.ptr 2 []),(7,.ptr 3 []),(8,.ptr 4 []),(9,.ptr 5 []),(10,.ptr 6 []),(11,.ptr 7 []),(12,.ptr 8 []),(28,(.d (.bool false)))],[.box false (D.arr 64 .leaf (ab .u8 (pad (row (Pol.bz n a b u x v y).1)))),.box false (D.arr 64 .leaf (ab .u8 (pad []))),.box false (D.arr 64 .leaf (ab .u8 z)),.box false (D.arr 64 .leaf (ab .u8 z)),.box false (D.arr 64 .leaf (ab .u8 z)),.box false (D.arr 64 .leaf (ab .u8 (pad (row (Pol.bz n a b u x v y).2.1)))),.box false (D.arr 64 .leaf (ab .u8 x')),.box false (D.arr 64 .leaf (ab .u8 (pad (row (Pol.bz n a b u x v y).2.2)))),.box false (D.arr 64 .leaf (ab .u8 y')),.hole,.hole,.hole,.hole,.hole,.hole]⟩):=by
 intro n
 have stop:∀(a u x v y:Fp p),dn O 0 (.loop Z3v_L0) ⟨[(0,(.d (.int .i64 p))),(4,.ptr 0 []),(5,.ptr 1 []),(6,.ptr 2 []),(7,.ptr 3 []),(8,.ptr 4 []),(9,.ptr 5 []),(10,.ptr 6 []),(11,.ptr 7 []),(12,.ptr 8 [])],[.box false (D.arr 64 .leaf (ab .u8 (pad (row a)))),.box false (D.arr 64 .leaf (ab .u8 (pad (row (0:Fp p))))),.box false (D.arr 64 .leaf (ab .u8 z)),.box false (D.arr 64 .leaf (ab .u8 z)),.box false (D.arr 64 .leaf (ab .u8 z)),.box false (D.arr 64 .leaf (ab .u8 (pad (row u)))),.box false (D.arr 64 .leaf (ab .u8 (pad (row x)))),.box false (D.arr 64 .leaf (ab .u8 (pad (row v)))),.box false (D.arr 64 .leaf (ab .u8 (pad (row y)))),.hole,.hole,.hole,.hole,.hole,.hole]⟩ =
  some (.exit 0,⟨[(0,(.d (.int .i64 p))),(4,.ptr 0 []),(5,.ptr 1 []),(6,.ptr 2 []),(7,.ptr 3 []),(8,.ptr 4 []),(9,.ptr 5 []),(10,.ptr 6 []),(11,.ptr 7 []),(12,.ptr 8 []),(28,(.d (.bool false)))],[.box false (D.arr 64 .leaf (ab .u8 (pad (row a)))),.box false (D.arr 64 .leaf (ab .u8 (pad []))),.box false (D.arr 64 .leaf (ab .u8 z)),.box false (D.arr 64 .leaf (ab .u8 z)),.box false (D.arr 64 .leaf (ab .u8 z)),.box false (D.arr 64 .leaf (ab .u8 (pad (row u)))),.box false (D.arr 64 .leaf (ab .u8 (pad (row x)))),.box false (D.arr 64 .leaf (ab .u8 (pad (row v)))),.box false (D.arr 64 .leaf (ab .u8 (pad (row y)))),.hole,.hole,.hole,.hole,.hole,.hole]⟩):=by
  intro a u x v y;have e:=hdg p 0 (by rw [Pol.len_zero]; omega)
  rw [dq,Pol.len_zero] at e;rw [dq];refine bt ?_;generalize pad (row a)=Pa;generalize pad (row u)=Pu;generalize pad (row x)=Px;generalize pad (row v)=Pv;generalize pad (row y)=Py;simp -implicitDefEqProofs [Z3v_L0,ac,e]
 induction n with
 | zero=>
  intro a b u x v y hn hs;obtain rfl:=Pol.len_zero_iff.1 (show b.len=0 by omega)
  exact ⟨_,_,hs.ne,hs.la,hs.lu,hs.lv,stop a u x v y⟩
 | succ n ih=>
  intro a b u x v y hn hs;unfold Pol.bz
  by_cases h0:b=0
  ·subst h0
   rw [if_pos rfl];exact ⟨_,_,hs.ne,hs.la,hs.lu,hs.lv,stop a u x v y⟩
  ·rw [if_neg h0]
   obtain ⟨s0,s1,s2,s3,s4,s5,s6⟩:=hs.step hA hB h0;have hl:=Pol.len_mod a h0;have hp:=Pol.len_pos h0;obtain ⟨x',y',g1,g2,g3,g4,e⟩:=ih b (a%b) x (u-a/b*x) y (v-a/b*y) (by omega) s0
   exact ⟨x',y',g1,g2,g3,g4,bm (a49 hdg hd ht ha h0 hs.la hs.lb hs.lu hs.lv s1 s2 s3 s4 s5) e⟩
theorem a8z {O:ah} (hdg:iq O) (hd:tg O) (ht:z5 O) (ha:ja O) {p:Int} [IsP p] {a b:Fp p} {z:List Int} (h:a≠0∨b≠0) (hal:a.len≤64) (hbl:b.len≤64):∃x' y':List Int,(Pol.bz b.len a b 1 0 0 1).1≠0∧(Pol.bz b.len a b 1 0 0 1).1.len≤64∧(Pol.bz b.len a b 1 0 0 1).2.1.len≤64∧(Pol.bz b.len a b 1 0 0 1).2.2.len≤64 ∧
 dn O 0 (.loop Z3v_L0) ⟨[(0,(.d (.int .i64 p))),(4,.ptr 0 []),(5,.ptr 1 []),(6,.ptr 2 []),(7,.ptr 3 []),(8,.ptr 4 []),(9,.ptr 5 []),(10,.ptr 6 []),(11,.ptr 7 []),(12,.ptr 8 [])],[.box false (D.arr 64 .leaf (ab .u8 (pad (row a)))),.box false (D.arr 64 .leaf (ab .u8 (pad (row b)))),.box false (D.arr 64 .leaf (ab .u8 z)),.box false (D.arr 64 .leaf (ab .u8 z)),.box false (D.arr 64 .leaf (ab .u8 z)),.box false (D.arr 64 .leaf (ab .u8 (pad (row (1:Fp p))))),.box false (D.arr 64 .leaf (ab .u8 (pad (row (0:Fp p))))),.box false (D.arr 64 .leaf (ab .u8 (pad (row (0:Fp p))))),.box false (D.arr 64 .leaf (ab .u8 (pad (row (1:Fp p))))),.hole,.hole,.hole,.hole,.hole,.hole]⟩ =
  some (.exit 0,⟨[(0,(.d (.int .i64 p))),(4,.ptr 0 []),(5,.ptr 1 []),(6,.ptr 2 []),(7,.ptr 3 []),(8,.ptr 4 []),(9,.ptr 5 []),(10,.ptr 6 []),(11,.ptr 7 []),(12,.ptr 8 []),(28,(.d (.bool false)))],[.box false (D.arr 64 .leaf (ab .u8 (pad (row (Pol.bz b.len a b 1 0 0 1).1)))),.box false (D.arr 64 .leaf (ab .u8 (pad []))),.box false (D.arr 64 .leaf (ab .u8 z)),.box false (D.arr 64 .leaf (ab .u8 z)),.box false (D.arr 64 .leaf (ab .u8 z)),.box false (D.arr 64 .leaf (ab .u8 (pad (row (Pol.bz b.len a b 1 0 0 1).2.1)))),.box false (D.arr 64 .leaf (ab .u8 x')),.box false (D.arr 64 .leaf (ab .u8 (pad (row (Pol.bz b.len a b 1 0 0 1).2.2)))),.box false (D.arr 64 .leaf (ab .u8 y')),.hole,.hole,.hole,.hole,.hole,.hole]⟩):=by
 by_cases h0:a=0
 ·subst h0
  have hb:=h.resolve_left (fun h=>h rfl)
  have hp:=Pol.len_pos hb;obtain ⟨k,hk⟩:∃k,b.len=k+1:=⟨b.len-1,by omega⟩
  have h1:(1:Fp p).len=1:=Pol.len_one;have hz:(0:Fp p).len=0:=Pol.len_zero;have hq:(0:Fp p)/b=0:=(Pol.div_mod_eq (a:=(0:Fp p)) (b:=b) (q:=0) (r:=0) (by rw [Gq.zero_mul,Gq.zero_add]) (by omega)).1
  have hs0:∀c:Fp p,c-0=c:=fun c=>by rw [Gq.sub_eq,qj,Gq.add_zero]
  have hr:(0:Fp p)%b=0:=Pol.zero_mod hb;have e:=a49 (z:=z) hdg hd ht ha (a:=0) (b:=b) (u:=1) (x:=0) (v:=0) (y:=1) hb (by omega) hbl (by omega) (by omega) (by omega) (by omega) (by rw [hq]; omega) (by rw [hq,Gq.zero_mul]; omega) (by rw [hq,Gq.zero_mul]; omega)
  rw [hk];unfold Pol.bz;rw [if_neg hb];rw [hq,hr,Gq.zero_mul,Gq.zero_mul,hs0,hs0] at e ⊢;have hi:Pol.BzI (0:Fp p) b b 0 0 1 1 0:=⟨by rw [Gq.zero_mul,Gq.zero_add,Gq.one_mul],by rw [Gq.mul_zero,Gq.zero_mul,Gq.add_zero],.inr (by omega),.inl hz,.inl hz,.inr (by omega),.inl hb⟩
  obtain ⟨x',y',g1,g2,g3,g4,e2⟩:=a5t (O:=O) (z:=z) hdg hd ht ha (A:=0) (B:=b) (by omega) hbl k b 0 0 1 1 0 (by omega) ⟨hi,hbl,by omega,by omega,by omega,hb⟩
  exact ⟨x',y',g1,g2,g3,g4,bm e e2⟩
 ·exact a5t (O:=O) (z:=z) hdg hd ht ha hal hbl b.len a b 1 0 0 1 (ba _) ⟨Pol.BzI.init (.inl h0),hal,hbl,by rw [Pol.len_one]; omega,by rw [Pol.len_zero]; omega,h0⟩
def Cf (O:ah):Prop:=∀(p:Int) [IsP p] (a b:Fp p),a≠0∨b≠0→a.len≤64→b.len≤64 →
 ask O F3v [(D.int .i64 p),(D.arr 64 .leaf (ab .u8 (pad (row a)))),(D.arr 64 .leaf (ab .u8 (pad (row b))))]=some (.tup [(D.arr 64 .leaf (ab .u8 (pad (row (Pol.bezout a b).1)))),(D.arr 64 .leaf (ab .u8 (pad (row (Pol.bezout a b).2.1)))),(D.arr 64 .leaf (ab .u8 (pad (row (Pol.bezout a b).2.2))))])
theorem a2u (hT:T F3v=some Z3v) (h1:Au (den T A)) (hdg:iq (den T A)) (hd:tg (den T A)) (ht:z5 (den T A)) (ha:ja (den T A)) (hinv:md (den T A)):Cf (den T A):=by
 intro p i a b h0 hal hbl;have hp:=IsP.ge (p:=p);have hp7:=IsP.le (p:=p);have e1:=h1 p;obtain ⟨x',y',g1,g2,g3,g4,e2⟩:=a8z (O:=den T A) (z:=pad []) hdg hd ht ha h0 hal hbl;unfold Pol.bezout;have heu:Pol.eu a b=Pol.bz b.len a b 1 0 0 1:=rfl;rw [heu];generalize Pol.bz b.len a b 1 0 0 1=R at *;obtain ⟨d,u,v⟩:=R;simp only at g1 g2 g3 g4 e2 ⊢;rw [dq] at e2;have hd1:=Pol.len_pos g1;have e3:=hdg p d g2;rw [show ((d.len:Int)-1)=((d.len-1:Nat):Int) by omega] at e3
 have hi64:d.len-1<64:=by omega
 have hx:(pad (row d))[d.len-1]? = some (rep d.ld):=by rw [qt _ _ hi64,gz]; rfl
 have hr:=kl d.ld;have hr0:rep d.ld≠0:=fun h=>Pol.ld_ne g1 (g7.1 h)
 have hin:=y9 p (rep d.ld);have e4:=hinv p (rep d.ld) (by omega) hr.2
 have w1:IntKind.i64.wrap (inv p (rep d.ld))=inv p (rep d.ld):=w64 (by omega)
 have z0:(0:Fp p).len≤64:=by rw [Pol.len_zero]; omega
 have e5:=ha p (inv p (rep d.ld)) 0 d (by omega) (by omega) z0 g2
 have e6:=ha p (inv p (rep d.ld)) 0 u (by omega) (by omega) z0 g3
 have e7:=ha p (inv p (rep d.ld)) 0 v (by omega) (by omega) z0 g4
 rw [uc _ (Pol.ld_ne g1),Gq.zero_add,dq] at e5 e6 e7;refine bi hT rfl ?_;generalize pad (row (Pol.C (Fd.inv d.ld)*d))=P1 at *;generalize pad (row (Pol.C (Fd.inv d.ld)*u))=P2 at *;generalize pad (row (Pol.C (Fd.inv d.ld)*v))=P3 at *;generalize pad (row d)=Pd at *;generalize pad (row u)=Pu at *;generalize pad (row v)=Pv at *;generalize pad (row a)=Pa at *;generalize pad (row b)=Pb at *;generalize pad (row (1:Fp p))=P0 at *;generalize d.len-1=n1 at *;simp -implicitDefEqProofs [Z3v,Z3v_B,e1,e2,e3,e4,e5,e6,e7,hi64,hx,w1,List.replicate]
def R7 (O:ah):Prop:=∀(p:Int) [IsP p] (a b:Fp p),a≠0→a.len≤64→b.len≤64 →
 ask O F42 [(D.int .i64 p),(D.arr 64 .leaf (ab .u8 (pad (row a)))),(D.arr 64 .leaf (ab .u8 (pad (row b))))]=some (D.arr 64 .leaf (ab .u8 (pad (row (Pol.gcd a b)))))
theorem acs (hT:T F42=some Z42) (hdg:iq (den T A)) (hb:Cf (den T A)):R7 (den T A):=by
 intro p i a b h0 hal hbl;have e1:=hdg p a hal;have e2:=hb p a b (.inl h0) hal hbl;have hp:=Pol.len_pos h0;have hge:¬ ((a.len:Int)-1<0):=by omega
 refine bi hT rfl ?_;unfold Pol.gcd;generalize pad (row (Pol.bezout a b).1)=P1 at *;generalize pad (row (Pol.bezout a b).2.1)=P2 at *;generalize pad (row (Pol.bezout a b).2.2)=P3 at *;generalize pad (row a)=Pa at *;generalize pad (row b)=Pb at *;generalize (a.len:Int)-1=n1 at *;simp -implicitDefEqProofs [Z42,Z42_B,ac,e1,e2,hge,List.replicate]
def a2k (O:ah):Prop:=∀(p:Int) [IsP p],ask O F4f []=some (D.arr 64 .leaf (ab .u8 (pad (row (Pol.X:Fp p)))))
theorem an2 (hT:T F4f=some Z4f):a2k (den T A):=by
 intro p i;have e:((pad []).set 0 0).set 1 1=pad [0,1]:=by decide +kernel
 have h0:(pad [])[0]? = some 0:=by decide +kernel
 have h1:(pad [])[1]? = some 0:=by decide +kernel
 rw [abp];refine bi hT rfl ?_;simp -implicitDefEqProofs [Z4f,Z4f_B,e,h0,h1]
open Classical in
theorem a5f {O:ah} (hdg:iq O) (hpw:s9 O) (hg:R7 O) (ha:ja O) (ht:a2k O) {p:Int} [IsP p] {m:Fp p} (hm:m≠0) (hml:m.len≤13) {n:Nat} (hn:n+1=m.len):∀(f k:Nat),1≤k→k+f=n/2+1→∃P':List Int,
 dn O 0 (.loop Z45_L0) ⟨[(0,(.d (.int .i64 p))),(3,.ptr 0 []),(5,(.d (.int .i64 n))),(6,.ptr 1 []),(7,(.d (.int .i64 k)))],[.box false (D.arr 64 .leaf (ab .u8 (pad (row m)))),.box false (D.arr 64 .leaf (ab .u8 (pad (row (pw Pol.X (p.toNat^(k-1))%m)))))]⟩ =
  if ∀k',k≤k'→2*k'≤n→(Pol.gcd m (frW m k')).len=1 then some (.exit 0,⟨[(0,(.d (.int .i64 p))),(3,.ptr 0 []),(5,(.d (.int .i64 n))),(6,.ptr 1 []),(7,(.d (.int .i64 (((n/2+1:Nat):Int))))),(19,(.d (.bool false)))],[.box false (D.arr 64 .leaf (ab .u8 (pad (row m)))),.box false (D.arr 64 .leaf (ab .u8 P'))]⟩)
  else some (.ret,⟨[(4,(.d (.bool false)))],[.hole,.hole]⟩)
 | 0,k,hk,hf=>by
  obtain rfl:k=n/2+1:=by omega
  refine ⟨pad (row (pw Pol.X (p.toNat^(n/2+1-1))%m)),?_⟩;rw [if_pos (fun k' h1 h2=>by omega)]
  have w1:IntKind.i64.wrap (2*((n/2+1:Nat):Int))=2*((n/2+1:Nat):Int):=w64 (by omega)
  have hlt:¬ (2*((n/2+1:Nat):Int)≤n):=by omega
  refine bt ?_;generalize ((n/2+1:Nat):Int)=k1 at *;generalize pad (row (pw Pol.X (p.toNat^(n/2+1-1))%m))=P1 at *;generalize pad (row m)=Pm at *;simp -implicitDefEqProofs [Z45_L0,ac,w1,hlt]
 | f+1,k,hk,hf=>by
  have hp:=IsP.pos (p:=p);have hp7:=IsP.le (p:=p);have w1:IntKind.i64.wrap (2*(k:Int))=2*(k:Int):=w64 (by omega)
  have hlt:2*(k:Int)≤n:=by omega
  have w4:IntKind.i64.wrap ((k:Int)+1)=((k+1:Nat):Int):=(w64 (x:=(k:Int)+1) (by omega)).trans (by omega)
  have hl1:=Pol.len_mod (pw Pol.X (p.toNat^(k-1))) hm;have hl2:=Pol.len_mod (pw Pol.X (p.toNat^k)) hm;have e1:=hpw p (pw Pol.X (p.toNat^(k-1))%m) p m hm (by omega) (by omega) (by omega) (by omega)
  have e2:pw (pw Pol.X (p.toNat^(k-1))%m) p.toNat%m=pw Pol.X (p.toNat^k)%m:=by
   rw [Pol.pow_mod _ hm,yg,←lw,show (k-1).succ=k by omega]
  rw [e2] at e1;have e3:=ht p;have hX:(Pol.X:Fp p).len≤64:=by rw [Pol.len_X]; omega
  have e4:=ha p (-1) (pw Pol.X (p.toNat^k)%m) Pol.X (by omega) (by omega) (by omega) hX
  rw [Ld] at e4;have e4':pw Pol.X (p.toNat^k)%m-Pol.X=frW m k:=rfl;rw [e4'] at e4;have hl3:(frW m k).len≤64:=Pol.len_sub_le (by omega) hX
  have e5:=hg p m (frW m k) hm (by omega) hl3
  have hgm:=Pol.gcd_monic (a:=m) (b:=frW m k) (.inl hm);have hgl:=(Pol.gcd_dv_left (a:=m) (b:=frW m k) (.inl hm)).len hm;have e6:=hdg p (Pol.gcd m (frW m k)) (by omega)
  have hg1:=Pol.len_pos hgm.2
  by_cases hc:(Pol.gcd m (frW m k)).len=1
  ·obtain ⟨P',ih⟩:=a5f hdg hpw hg ha ht hm hml hn f (k+1) (by omega) (by omega)
   rw [show k+1-1=k by omega] at ih
   refine ⟨P',?_⟩
   have hiff:(∀k',k≤k'→2*k'≤n→(Pol.gcd m (frW m k')).len=1)↔∀k',k+1≤k'→2*k'≤n→(Pol.gcd m (frW m k')).len=1:=by
    constructor
    ·intro h k' h1 h2; exact h k' (by omega) h2
    ·intro h k' h1 h2
     by_cases hkk:k'=k
     ·rw [hkk]; exact hc
     ·exact h k' (by omega) h2
   rw [propext hiff];refine bm ?_ ih;rw [hc] at e6;have e7:((1:Nat):Int)-1=0:=rfl;rw [e7] at e6;generalize pad (row (Pol.gcd m (frW m k)))=Pg at *;generalize pad (row (frW m k))=Pw at *;generalize pad (row (pw Pol.X (p.toNat^k)%m))=P2 at *;generalize pad (row (pw Pol.X (p.toNat^(k-1))%m))=P1 at *;generalize pad (row (Pol.X:Fp p))=PX at *;generalize pad (row m)=Pm at *;simp -implicitDefEqProofs [Z45_L0,ac,w1,hlt,e1,e3,e4,e5,e6,w4]
  ·refine ⟨pad [],?_⟩
   rw [if_neg (fun h=>hc (h k (ba k) (by omega)))]
   have hne:¬ (((Pol.gcd m (frW m k)).len:Int)-1=0):=by omega
   refine lq ?_;generalize ((Pol.gcd m (frW m k)).len:Int)-1=g1 at *;generalize pad (row (Pol.gcd m (frW m k)))=Pg at *;generalize pad (row (frW m k))=Pw at *;generalize pad (row (pw Pol.X (p.toNat^k)%m))=P2 at *;generalize pad (row (pw Pol.X (p.toNat^(k-1))%m))=P1 at *;generalize pad (row (Pol.X:Fp p))=PX at *;generalize pad (row m)=Pm at *;simp -implicitDefEqProofs [Z45_L0,ac,w1,hlt,e1,e3,e4,e5,e6,hne]
open Classical in
def E0 (O:ah):Prop:=∀(p:Int) [IsP p] (m:Fp p),m≠0→m.len≤13→ask O F45 [(D.int .i64 p),(D.arr 64 .leaf (ab .u8 (pad (row m))))]=some (D.bool (decide (Irr m)))
open Classical in
theorem aen (hT:T F45=some Z45) (hdg:iq (den T A)) (hmo:xy (den T A)) (hpw:s9 (den T A)) (hg:R7 (den T A)) (ha:ja (den T A)) (ht:a2k (den T A)):E0 (den T A):=by
 intro p i m hm hml;have e1:=hdg p m (by omega)
 have e2:=ht p;have e3:=hmo p Pol.X m hm (by rw [Pol.len_X]; omega) (by omega)
 have h1:=Pol.len_pos hm;refine bi hT rfl ?_
 by_cases h2:2≤m.len
 ·obtain ⟨P',e4⟩:=a5f (O:=den T A) hdg hpw hg ha ht hm hml (n:=m.len-1) (by omega) ((m.len-1)/2) 1 (ba 1) (by omega)
  have e5:pw (Pol.X:Fp p) (p.toNat^(1-1))=Pol.X:=by rw [nz,sz,Gn]
  rw [e5,a8a h2 hml] at e4;rw [show ((m.len:Int)-1)=((m.len-1:Nat):Int) by omega] at e1
  have hlt:¬ (((m.len-1:Nat):Int)<1):=by omega
  have e01:((1:Nat):Int)=1:=rfl;rw [e01] at e4
  by_cases hi:Irr m
  ·rw [if_pos hi] at e4
   rw [decide_eq_true hi];generalize (((m.len-1)/2+1:Nat):Int)=k1 at *;generalize ((m.len-1:Nat):Int)=n1 at *;generalize pad (row (Pol.X%m))=P1 at *;generalize pad (row (Pol.X:Fp p))=PX at *;generalize pad (row m)=Pm at *;simp -implicitDefEqProofs [Z45,Z45_B,ac,e1,e2,e3,e4,hlt,List.replicate]
  ·rw [if_neg hi] at e4
   rw [decide_eq_false hi];generalize ((m.len-1:Nat):Int)=n1 at *;generalize pad (row (Pol.X%m))=P1 at *;generalize pad (row (Pol.X:Fp p))=PX at *;generalize pad (row m)=Pm at *;simp -implicitDefEqProofs [Z45,Z45_B,ac,e1,e2,e3,e4,hlt,List.replicate]
 ·have hl:m.len=1:=by omega
  rw [hl] at e1;have e7:((1:Nat):Int)-1=0:=rfl;rw [e7] at e1;rw [decide_eq_false (fun h:Irr m=>h2 h.len)]
  generalize pad (row (Pol.X%m))=P1 at *;generalize pad (row (Pol.X:Fp p))=PX at *;generalize pad (row m)=Pm at *;simp -implicitDefEqProofs [Z45,Z45_B,ac,e1,e2,e3,List.replicate]
end Pe


namespace Pe
open Go Gq
variable {T:Nat→Option Fn} {A:ah}
theorem Ol (k:IntKind):∀{l m:List Int},l.length=m.length→D.beqs .int (ab k l) (ab k m)=some (decide (l=m))
 | [],[],_=>by simp [D.beqs,ab]
 | x::l,y::m,h=>by
  have e:D.beqs .int (ab k (x::l)) (ab k (y::m))=(D.beq .int (.int k x) (.int k y)).bind fun b=>if b then D.beqs .int (ab k l) (ab k m) else some false:=rfl
  rw [e];have e2:D.beq .int (.int k x) (.int k y)=some (decide (x=y)):=by simp [D.beq]
  rw [e2,ae,Ol k (by simpa using h)]
  by_cases h1:x=y
  ·subst h1; simp
  ·simp [h1]
theorem Nk {l m:List Int} (hl:l.length=64) (hm:m.length=64):D.beq (.arr 64 .leaf .int) (D.arr 64 .leaf (ab .u8 l)) (D.arr 64 .leaf (ab .u8 m))=some (decide (l=m)):=by
 have e:D.beq (.arr 64 .leaf .int) (D.arr 64 .leaf (ab .u8 l)) (D.arr 64 .leaf (ab .u8 m))=if 64=64∧64=64∧Sh.beq .leaf .leaf∧Sh.beq .leaf .leaf then D.beqs .int (ab .u8 l) (ab .u8 m) else none:=rfl
 rw [e,if_pos ⟨rfl,rfl,rfl,rfl⟩,Ol _ (by omega)]
theorem pa {p:Int} {a b:Fp p} (ha:a.len≤64) (hb:b.len≤64):pad (row a)=pad (row b)↔a=b:=by
 constructor
 ·intro h
  rw [←lh ha,h,lh hb]
 ·rintro rfl; rfl
section
variable {p:Int} [IsP p]
structure SInv (a0:Fp p) (k:Int) (a:Fp p) (out:ni p):Prop where
 ne:a≠0
 eq:a0=a*mp out
 ok:FacOk out
 so:out.Pairwise fun x y=>fw x.1<fw y.1
 lt:∀x∈out,fw x.1<k
 ge:∀q,Irr q→Monic q→Dv q a→k≤fw q
 ln:out.length+a.len≤13
structure SEnd (a0 a:Fp p) (out:ni p):Prop where
 ne:a≠0
 eq:a0=a*mp out
 ok:FacOk out
 so:out.Pairwise fun x y=>fw x.1<fw y.1
 irr:2≤a.len→Irr a∧∀x∈out,fw x.1<fw (mon a)
 ln:out.length+a.len≤13
theorem We {q a:Fp p} (hq:Irr q) (h:Dv q a):Dv (mon q) a:=(Dk hq.ne).2 h
theorem SInv.small {a0 a:Fp p} {n:Nat} {k:Int} {out:ni p} (h:SInv a0 k a out) (_hn:n≤12) (hk:p^n≤k):Bz n a:=by
 intro q hq hd;have h1:=h.ge _ hq.mon (oe hq.ne) (We hq hd);have h2:=Ap (mon q);rw [u9 hq.ne] at h2;apply dd;intro hx;have:=n5 (p:=p) (by have:=IsP.pos (p:=p); omega) (show q.len≤n by omega)
 omega
theorem SInv.step {a0 a:Fp p} {n:Nat} {k:Int} {out:ni p} (h:SInv a0 k a out) (hn1:1≤n) (hn:n≤12) (hk:p^n≤k) (hk2:k<2*p^n) {j:Nat} {r:Fp p} (h1:a=r*pw (jb p k) j) (h2:¬ Dv (jb p k) r) :
 SInv a0 (k+1) r (if j=0 then out else out++[(jb p k,j)]):=by
 obtain ⟨m1,m2⟩:=Dn hn hk hk2;have hb:=u7 (p:=p) hn;have hpos:=p7 (p:=p) n;have hnum:fw (jb p k)=k:=zh ⟨by omega,by omega⟩
 have hr0:r≠0:=fun h0=>h.ne (by rw [h1,h0,Gq.zero_mul])
 have ge':∀q,Irr q→Monic q→Dv q r→k+1≤fw q:=by
  intro q hq hm hd;have g1:=h.ge q hq hm (by rw [h1]; exact hd.mul_right _)
  have g2:fw q≠k:=fun e=>by
   have:q=jb p k:=Oj (by rw [e,hnum])
   exact h2 (this▸hd)
  omega
 by_cases hj:j=0
 ·subst hj
  rw [if_pos rfl];rw [pw,Gq.mul_one] at h1;subst h1;exact ⟨h.ne,h.eq,h.ok,h.so,fun x hx=>by have:=h.lt x hx; omega,ge',h.ln⟩
 ·rw [if_neg hj]
  have hda:Dv (jb p k) a:=by
   obtain ⟨i,rfl⟩:∃i,j=i+1:=⟨j-1,by omega⟩
   rw [h1,pw];exact ((Dv.refl _).mul_left _).mul_left _
  have hi:Irr (jb p k):=by
   refine Irr.of_dv (by omega) fun u hu=>?_
   have hul:=hu.len m1.2
   have hu0:u≠0:=fun h0=>by
    obtain ⟨c,hc⟩:=hu;exact m1.2 (by rw [hc,h0,Gq.zero_mul])
   have hup:=Pol.len_pos hu0
   by_cases hu1:u.len=1
   ·exact .inl hu1
   ·right
    obtain ⟨q,q1,q2,q3⟩:=Hv u.len u (ba _) (by omega)
    have g1:=h.ge q q1 q2 ((q3.trans hu).trans hda);have g2:=q3.len hu0;apply dd;intro hx;have g3:=vk (a:=q) (b:=jb p k) (by omega)
    omega
  have hlt:r.len<a.len:=by
   obtain ⟨i,rfl⟩:∃i,j=i+1:=⟨j-1,by omega⟩
   have hi0:=N6 hi.ne i;have l1:=Pol.len_mul hi0 hi.ne;have l2:=Pol.len_mul hr0 (Pol.mul_ne hi0 hi.ne);have l3:=Pol.len_pos hi0;rw [h1,pw]; omega
  refine ⟨hr0,?_,h.ok.snoc hi m1 (by omega) fun x hx e=>?_,?_,?_,ge',?_⟩
  ·rw [h.eq,A6]
   conv=>lhs; rw [h1]
   exact bo [r,pw (jb p k) j,mp out] rfl
  ·have:=h.lt x hx
   rw [e,hnum] at this; omega
  ·rw [i9]
   refine ⟨h.so,fc _ _,fun x hx y hy=>?_⟩
   simp at hy; subst hy;have:=h.lt x hx;rw [hnum]; exact this
  ·intro x hx
   rcases bp.1 hx with hx | hx
   ·have:=h.lt x hx; omega
   ·simp at hx; subst hx; rw [hnum]; omega
  ·have:=h.ln
   simp; omega
theorem SInv.next {a0 a:Fp p} {n:Nat} {out:ni p} (h:SInv a0 (2*p^n) a out) (hn:n≤11):SInv a0 (p^(n+1)) a out:=by
 refine ⟨h.ne,h.eq,h.ok,h.so,fun x hx=>?_,fun q hq hm hd=>?_,h.ln⟩
 ·have:=h.lt x hx
  have:=Pj (p:=p) n;omega
 ·have h1:=h.ge q hq hm hd
  have hq0:=Pol.len_pos hm.2;rcases dm (n+1) q.len with h2 | h2
  ·obtain ⟨d,hd'⟩:∃d,q.len=d+1:=⟨q.len-1,by omega⟩
   have hl:=hd.len h.ne;have hln:=h.ln;have h3:=ue (n:=d) (by omega) hm hd'
   have:=n5 (p:=p) (by have:=IsP.pos (p:=p); omega) (show n+1≤d by omega)
   omega
  ·exfalso
   obtain ⟨d,hd'⟩:∃d,q.len=d+1:=⟨q.len-1,by omega⟩
   have h3:=ue (n:=d) (by omega) hm hd'
   have:=n5 (p:=p) (by have:=IsP.pos (p:=p); omega) (show d≤n by omega)
   omega
theorem SInv.init {a:Fp p} (ha:a≠0) (hl:a.len≤13):SInv a (p^1) a []:=
 ⟨ha,(Gq.mul_one a).symm,⟨by simp,.nil⟩,.nil,by simp,fun q hq hm _=>by
  have h1:=hq.len;obtain ⟨d,hd'⟩:∃d,q.len=d+1:=⟨q.len-1,by omega⟩
  by_cases hd12:d≤12
  ·have h3:=ue (n:=d) hd12 hm hd'
   have:=n5 (p:=p) (by have:=IsP.pos (p:=p); omega) (show 1≤d by omega)
   omega
  ·have h4:=vk (a:=jb p (p^1)) (b:=q) (by
    have:=(Dn (p:=p) (n:=1) (by omega) (xr _) (by have:=p7 (p:=p) 1; omega)).2
    omega)
   have h5:fw (jb p (p^1))=p^1:=zh ⟨Int.le_of_lt (p7 1),by have:=u7 (p:=p) (n:=1) (by omega); omega⟩
   omega,by simpa using hl⟩
theorem SEnd.fac {a0 a:Fp p} {out:ni p} (h:SEnd a0 a out) (h0:a0≠0):Pe.fac a0=if 2≤a.len then out++[(mon a,1)] else out:=by
 apply a5m h0;have hP:=Be h.ok;have hld:a0.ld=a.ld:=by rw [h.eq,Pol.ld_mul h.ne hP.2,hP.1,Gq.mul_one]
 split
 ·rename_i hl
  obtain ⟨hi,hx⟩:=h.irr hl;refine ⟨h.ok.snoc hi.mon (oe h.ne) (ba 1) fun x hx' e=>?_,?_,?_⟩
  ·have:=hx x hx'
   rw [e] at this; omega
  ·rw [i9]
   refine ⟨h.so,fc _ _,fun x hx' y hy=>?_⟩
   simp at hy; subst hy; exact hx x hx'
  ·rw [A6,hld]
   show a0=Pol.C a.ld*(mp out*pw (mon a) 1);rw [Gn,h.eq]
   conv=>lhs; rw [Wd h.ne]
   exact bo [Pol.C a.ld,mon a,mp out] rfl
 ·rename_i hl
  have hp:=Pol.len_pos h.ne;obtain ⟨c,hc,rfl⟩:=p9 (show a.len=1 by omega)
  refine ⟨h.ok,h.so,?_⟩;rw [hld,Pol.ld_C hc]; exact h.eq
end
end Pe

namespace Pe
open Go Gq
variable {T:Nat→Option Fn} {A:ah}
section
variable {p:Int} [IsP p]
end
end Pe


namespace Pe
open Go Gq
variable {T:Nat→Option Fn} {A:ah}
section
variable {p:Int} [IsP p]
end
section
variable {p:Int} [IsP p]
end
end Pe

namespace Pe
open Go Gq
variable {T:Nat→Option Fn} {A:ah}
end Pe

namespace Pe
open Go Gq
variable {T:Nat→Option Fn} {A:ah}
end Pe

namespace Pe
open Go Gq
variable {T:Nat→Option Fn} {A:ah}
open Classical in
def Rr (O:ah):Prop:=∀(p:Int) [IsP p] (a:Fp p),a.len≤13→ask O F1h [(D.int .i64 p),(D.sl .leaf (ab .i64 (row a)))]=some (D.bool (decide (Monic a∧Irr a)))
open Classical in
theorem a97 (hT:T F1h=some Z1h) (hld:xw (den T A)) (hdg:o7 (den T A)) (hf:a5e (den T A)):Rr (den T A):=by
 intro p i a hal;have e1:=hld (row a) (by rw [cg]; omega)
 rw [H7] at e1;have e2:=hdg (row a) (by rw [cg]; omega)
 rw [cg] at e2;refine bi hT rfl ?_
 by_cases h1:a.ld=1
 ·have h1':=(B3 a.ld).2 h1
  have hM:=(Q0 a).2 h1;rw [h1'] at e1
  by_cases h2:2≤a.len
  ·obtain ⟨f1,f2,e3⟩:=hf p a hM.2 hal
   have hiff:=a9y hM f1;have hlt:¬ ((a.len:Int)-1<1):=by omega
   have hlt2:¬ ((a.len:Int)<2):=by omega
   have hlt3:(2:Int)≤a.len:=by omega
   have key:(∃q,fac a=[(q,1)])↔(Monic a∧Irr a):=⟨fun h=>⟨hM,hiff.1 h⟩,fun h=>hiff.2 h.2⟩
   generalize fac a=L at *;cases L with
   | nil=>
    rw [decide_eq_false (fun h0=>by obtain ⟨q,h⟩:=key.2 h0; cases h)]
    simp -implicitDefEqProofs [Z1h,Z1h_B,ac,e1,e2,e3,hlt]
   | cons x L=>
    cases L with
    | nil=>
     obtain ⟨q,k⟩:=x
     by_cases hk:k=1
     ·subst hk
      rw [decide_eq_true (key.1 ⟨q,rfl⟩)];simp -implicitDefEqProofs [Z1h,Z1h_B,ac,e1,e2,e3,hlt,po]
     ·rw [decide_eq_false (fun h0=>by obtain ⟨q',h⟩:=key.2 h0; simp at h; exact hk h.2)]
      have hk':¬ ((k:Int)=1):=by omega
      simp -implicitDefEqProofs [Z1h,Z1h_B,ac,e1,e2,e3,hlt,po,hk']
    | cons y L=>
     rw [decide_eq_false (fun h0=>by obtain ⟨q',h⟩:=key.2 h0; simp at h)]
     have hk':¬ (((L.length:Int)+1+1)=1):=by omega
     simp -implicitDefEqProofs [Z1h,Z1h_B,ac,e1,e2,e3,hlt,hk']
  ·have hlt:((a.len:Int)-1<1):=by omega
   have hlt2:((a.len:Int)<2):=by omega
   rw [decide_eq_false (fun h=>h2 h.2.len)]
   simp -implicitDefEqProofs [Z1h,Z1h_B,ac,e1,e2,hlt]
 ·have h1':=mt (B3 a.ld).1 h1
  rw [decide_eq_false (fun h=>h1 h.1.1)]
  simp -implicitDefEqProofs [Z1h,Z1h_B,ac,e1,h1']
def Mw (O:ah):Prop:=∀(p:Int) (l:List Int),g9 l→l.length=64→ask O F6 [(D.int .i64 p),(D.arr 64 .leaf (ab .u8 l))]=some (D.bool (isP p&&xe p l))
theorem a65 (hT:T F6=some Z6) (hp:Hg (den T A)) (hi:Ei (den T A)):Mw (den T A):=by
 intro p l hb hl;have e1:=hp p;have e2:=hi p l hb hl;refine bi hT rfl ?_
 by_cases h:isP p=true
 ·simp -implicitDefEqProofs [Z6,Z6_B,e1,e2,h]
 ·simp -implicitDefEqProofs [Z6,Z6_B,e1,h]
structure Fld {p:Int} [IsP p] (m:Fp p):Prop where
 mon:Monic m
 two:2≤m.len
 five:m.len≤5
 irr:Irr m
def z3 (p:Int) (l:List Int):Prop:=∃(_:IsP p) (m:Fp p),l=pad (row m)∧Fld m
theorem P8 {p:Int} {l:List Int} (h:isP p=true→xe p l=false):¬ z3 p l:=by
 rintro ⟨ip,m,rfl,hm⟩
 have:=h Gw;rw [Bl] at this;cases this
theorem ro {p:Int} [IsP p] {a:Fp p} (hl:a.len≤64):z3 p (pad (row a))↔Fld a:=by
 constructor
 ·rintro ⟨ip,m,e,hm⟩
  have hml:=hm.five;rw [(pa hl (by omega)).1 e]
  exact hm
 ·intro h; exact ⟨_,a,rfl,h⟩
open Classical in
def yr (O:ah):Prop:=∀(p:Int) (l:List Int),g9 l→l.length=64→ask O F14 [(D.int .i64 p),(D.arr 64 .leaf (ab .u8 l))]=some (D.bool (decide (z3 p l)))
open Classical in
theorem a3n (hT:T F14=some Z14) (hro:Gg (den T A)) (hip:Mw (den T A)) (hdg:o7 (den T A)) (hwi:Ma (den T A)) (hir:Rr (den T A)):yr (den T A):=by
 intro p l hb hl;have e1:=hro l hb hl;have e2:=hip p l hb hl;refine bi hT rfl ?_;rcases ahi p hb hl with ⟨h1,h2⟩ | ⟨ip,a,hal,rfl⟩
 ·have h3:(isP p&&xe p l)=false:=by
   cases hx:isP p
   ·rfl
   ·rw [h2 hx]; rfl
  rw [decide_eq_false (P8 h2)];rw [h3] at e2;simp -implicitDefEqProofs [Z14,Z14_B,e1,e2]
 ·rw [Gw,Bl] at e2
  rw [N9 a hal] at e1;have e3:=hdg (row a) (by rw [cg]; omega)
  rw [cg] at e3;have e4:=hwi ((a.len:Int)-1) 1 4
  by_cases h:2≤a.len∧a.len≤5
  ·have h3:decide ((1:Int)≤(a.len:Int)-1∧(a.len:Int)-1≤4)=true:=decide_eq_true (by omega)
   rw [h3] at e4;have e5:=hir p a (by omega)
   have h6:decide (z3 p (pad (row a)))=decide (Monic a∧Irr a):=decide_eq_decide.2 ((ro hal).trans ⟨fun g=>⟨g.mon,g.irr⟩,fun g=>⟨g.1,h.1,h.2,g.2⟩⟩)
   rw [h6];generalize decide (Monic a∧Irr a)=b at *;generalize pad (row a)=Pa at *;simp -implicitDefEqProofs [Z14,Z14_B,e1,e2,e3,e4,e5]
  ·have h3:decide ((1:Int)≤(a.len:Int)-1∧(a.len:Int)-1≤4)=false:=decide_eq_false (by omega)
   rw [h3] at e4;rw [decide_eq_false (fun g=>h ⟨((ro hal).1 g).two,((ro hal).1 g).five⟩)]
   generalize pad (row a)=Pa at *;simp -implicitDefEqProofs [Z14,Z14_B,e1,e2,e3,e4]
open Classical in
def Bh (O:ah):Prop:=∀(p:Int) (l:List Int),g9 l→l.length=64→ask O F4q [(D.int .i64 p),(D.arr 64 .leaf (ab .u8 l))]=some (D.bool (decide (z3 p l)))
open Classical in
theorem a6r (hT:T F4q=some Z4q) (his:Yr (den T A)) (hmo:Mu (den T A)) (hdg:iq (den T A)) (hin:a7s (den T A)) (hir:E0 (den T A)):Bh (den T A):=by
 intro p l hb hl;have e1:=his p l hb hl;refine bi hT rfl ?_;rcases ahi p hb hl with ⟨h1,h2⟩ | ⟨ip,a,hal,rfl⟩
 ·have h3:(xe p l&&isP p)=false:=by
   cases hx:isP p
   ·rw [Bool.and_false]
   ·rw [h2 hx]; rfl
  rw [decide_eq_false (P8 h2)];rw [h3] at e1;simp -implicitDefEqProofs [Z4q,Z4q_B,e1]
 ·rw [Gw,Bl] at e1
  have e2:=hmo p a hal;have e3:=hdg p a hal;have e4:=hin ((a.len:Int)-1) 1 4
  by_cases hM:Monic a
  ·rw [decide_eq_true hM] at e2
   by_cases h:2≤a.len∧a.len≤5
   ·have h3:decide ((1:Int)≤(a.len:Int)-1∧(a.len:Int)-1≤4)=true:=decide_eq_true (by omega)
    rw [h3] at e4;have e5:=hir p a hM.2 (by omega)
    have h6:decide (z3 p (pad (row a)))=decide (Irr a):=decide_eq_decide.2 ((ro hal).trans ⟨fun g=>g.irr,fun g=>⟨hM,h.1,h.2,g⟩⟩)
    rw [h6];generalize decide (Irr a)=b at *;generalize pad (row a)=Pa at *;simp -implicitDefEqProofs [Z4q,Z4q_B,e1,e2,e3,e4,e5]
   ·have h3:decide ((1:Int)≤(a.len:Int)-1∧(a.len:Int)-1≤4)=false:=decide_eq_false (by omega)
    rw [h3] at e4;rw [decide_eq_false (fun g=>h ⟨((ro hal).1 g).two,((ro hal).1 g).five⟩)]
    generalize pad (row a)=Pa at *;simp -implicitDefEqProofs [Z4q,Z4q_B,e1,e2,e3,e4]
  ·rw [decide_eq_false hM] at e2
   rw [decide_eq_false (fun g=>hM ((ro hal).1 g).mon)]
   generalize pad (row a)=Pa at *;simp -implicitDefEqProofs [Z4q,Z4q_B,e1,e2]
def rt {p:Int} [IsP p] (m:Fp p) (l:List Int):Prop:=∃a:Fp p,a.len<m.len∧l=pad (row a)
noncomputable abbrev ka {p:Int} (m:Fp p):D:=.st [.leaf,.leaf] [.int .i64 p,(D.sl .leaf (ab .i64 (row m)))]
open Classical in
def Gd (O:ah):Prop:=∀(p:Int) [IsP p] (m:Fp p) (l:List Int),m.len≤64→g9 l→l.length=64→ask O Fu [ka m,(D.arr 64 .leaf (ab .u8 l))]=some (D.bool (decide (rt m l)))
theorem Qg {p:Int} [IsP p] {m a:Fp p} (hm:m.len≤64) (ha:a.len≤64):rt m (pad (row a))↔a.len<m.len:=by
 constructor
 ·rintro ⟨b,h1,h2⟩
  rw [(pa ha (by omega)).1 h2]; exact h1
 ·intro h; exact ⟨a,h,rfl⟩
open Classical in
theorem ab1 (hT:T Fu=some Zu) (hi:Ei (den T A)) (hro:Gg (den T A)) (hdg:o7 (den T A)):Gd (den T A):=by
 intro p ip m l hm hb hl;have e1:=hi p l hb hl;refine bi hT rfl ?_
 by_cases h:xe p l=true
 ·obtain ⟨a,hal,rfl⟩:=Bf hb hl h
  rw [h] at e1;have e2:=hro _ hb hl;rw [N9 a hal] at e2;have e3:=hdg (row a) (by rw [cg]; omega)
  rw [cg] at e3;have e4:=hdg (row m) (by rw [cg]; omega)
  rw [cg] at e4;have h5:decide ((a.len:Int)-1<(m.len:Int)-1)=decide (rt m (pad (row a))):=decide_eq_decide.2 ((show _↔a.len<m.len by omega).trans (Qg hm hal).symm)
  rw [←h5];generalize pad (row a)=Pa at *;simp -implicitDefEqProofs [Zu,Zu_B,e1,e2,e3,e4]
 ·rw [decide_eq_false (fun ⟨a,h1,h2⟩=>h (by rw [h2]; exact Bl))]
  have h':xe p l=false:=by simpa using h
  rw [h'] at e1;simp -implicitDefEqProofs [Zu,Zu_B,e1]
open Classical in
def Dr (O:ah):Prop:=∀(p:Int) [IsP p] (m:Fp p) (l:List Int),m.len≤64→g9 l→l.length=64→ask O F51 [(D.int .i64 p),(D.arr 64 .leaf (ab .u8 (pad (row m)))),(D.arr 64 .leaf (ab .u8 l))]=some (D.bool (decide (rt m l)))
open Classical in
theorem ae4 (hT:T F51=some Z51) (hi:Yr (den T A)) (hdg:iq (den T A)):Dr (den T A):=by
 intro p ip m l hm hb hl;have e1:=hi p l hb hl;refine bi hT rfl ?_
 by_cases h:xe p l=true
 ·obtain ⟨a,hal,rfl⟩:=Bf hb hl h
  rw [h,Gw] at e1;have e3:=hdg p a hal;have e4:=hdg p m hm;have h5:decide ((a.len:Int)-1<(m.len:Int)-1)=decide (rt m (pad (row a))):=decide_eq_decide.2 ((show _↔a.len<m.len by omega).trans (Qg hm hal).symm)
  rw [←h5];generalize pad (row a)=Pa at *;generalize pad (row m)=Pm at *;simp -implicitDefEqProofs [Z51,Z51_B,e1,e3,e4]
 ·rw [decide_eq_false (fun ⟨a,h1,h2⟩=>h (by rw [h2]; exact Bl))]
  have h':(xe p l&&isP p)=false:=by
   have:xe p l=false:=by simpa using h
   rw [this]; rfl
  rw [h'] at e1;generalize pad (row m)=Pm at *;simp -implicitDefEqProofs [Z51,Z51_B,e1]
def mi (O:ah):Prop:=∀(p:Int) [IsP p] (m:Fp p),m.len≤64→ask O Fo [(D.int .i64 p),(D.arr 64 .leaf (ab .u8 (pad (row m))))]=some (ka m)
theorem a1i (hT:T Fo=some Zo) (hro:tw (den T A)):mi (den T A):=by
 intro p ip m hm;have e1:=hro p m hm;refine bi hT rfl ?_;generalize pad (row m)=Pm at *;simp -implicitDefEqProofs [Zo,Zo_B,e1,List.replicate]
end Pe



namespace Pe
open Go Gq
variable {T:Nat→Option Fn} {A:ah}
end Pe

namespace Pe
open Go Gq
variable {T:Nat→Option Fn} {A:ah}
section
variable {p:Int} [IsP p]
noncomputable def du (m:Fp p):Nat→Fp p→Fp p
 | 0,a=>a
 | k+1,a=>du m k (pw a p.toNat%m)
theorem my {m:Fp p} (hm:m≠0):∀(k:Nat) (a:Fp p),a.len<m.len→(du m k a).len<m.len
 | 0,_,h=>h
 | k+1,_a,_=>my hm k _ (Pol.len_mod _ hm)
theorem Qw {m:Fp p}:∀(k:Nat) (a:Fp p),Quo.mk m (du m k a)=pw (Quo.mk m a) (p.toNat^k)
 | 0,a=>by rw [sz,Gn]; rfl
 | k+1,a=>by
  show Quo.mk m (du m k (pw a p.toNat%m))=_;rw [Qw k,Pol.mk_mod,Quo.mk_pow,yg,lw,Ah]
theorem z9 {m:Fp p} (hm:Fld m) (k:Nat) {a:Fp p} (ha:a.len<m.len):du m (k%(m.len-1)) a=du m k a:=by
 have h2:=hm.two;have h5:=hm.five
 have small:p^(m.len-1)<1000000000000:=by
  have h1:=n5 (p:=p) (by have:=IsP.pos (p:=p); omega) (show m.len-1≤12 by omega)
  have h7:=u7 (p:=p) (n:=12) (by omega)
  omega
 have hd:∀x:Quo m,pw x (p.toNat^(m.len-1))=x:=Nn hm.irr (by omega) small
 have hq:∀(q:Nat) (x:Quo m),pw x (p.toNat^((m.len-1)*q))=x:=by
  intro q
  induction q with
  | zero=>intro x; rw [Nat.mul_zero,sz,Gn]
  | succ q ih=>intro x; rw [Nat.mul_succ,Nat.pow_add,←yg,ih,hd]
 have h0:m≠0:=hm.mon.2
 have e:Quo.mk m (du m (k%(m.len-1)) a)=Quo.mk m (du m k a):=by
  rw [Qw,Qw];have hk:k=(m.len-1)*(k/(m.len-1))+k%(m.len-1):=(Nat.div_add_mod k (m.len-1)).symm;have:p.toNat^k=p.toNat^((m.len-1)*(k/(m.len-1)))*p.toNat^(k%(m.len-1)):=by rw [←Nat.pow_add,←hk]
  rw [this,←yg,hq]
 have e2:=(Pol.mod_eq_iff h0).2 e
 rwa [Pol.mod_small (my h0 _ _ ha),Pol.mod_small (my h0 _ _ ha)] at e2
noncomputable def ji (m a:Fp p):Fp p:=(Pol.bezout a m).2.1%m
theorem ym {m:Fp p} (hm:m≠0) (a:Fp p):(ji m a).len<m.len:=Pol.len_mod _ hm
theorem Ey {m a:Fp p} (hm:Fld m) (ha:a≠0) (hal:a.len<m.len):Quo.mk m (ji m a)*Quo.mk m a=1:=by
 have h0:m≠0:=hm.mon.2;have e:=Pol.bezout_eq (a:=a) (b:=m) (.inl ha)
 have hg:Pol.gcd a m=1:=by
  have h1:=Pol.gcd_monic (a:=a) (b:=m) (.inl ha);have h2:=Pol.gcd_dv_left (a:=a) (b:=m) (.inl ha);have h3:=Pol.gcd_dv_right (a:=a) (b:=m) (.inl ha);refine h1.eq_one ?_;rcases hm.irr.dv h3 with h | h
  ·exact h
  ·have:=h2.len ha
   omega
 rw [hg] at e;unfold ji;rw [Pol.mk_mod];have:Quo.mk m ((Pol.bezout a m).2.1*a+(Pol.bezout a m).2.2*m)=Quo.mk m 1:=by rw [e]
 rw [Quo.mk_add,Quo.mk_mul,Quo.mk_mul] at this;have hm0:Quo.mk m m=0:=og.1 (Dv.refl m);rw [hm0,Gq.mul_zero,Gq.add_zero] at this;exact this
end
theorem a8m {p:Int} [IsP p] {a b:Fp p} {n:Nat} (ha:a.len≤n) (hb:b.len≤n):(a*b).len≤2*n:=by
 by_cases h:a=0
 ·rw [h,Gq.zero_mul,Pol.len_zero]; omega
 ·by_cases h2:b=0
  ·rw [h2,Gq.mul_zero,Pol.len_zero]; omega
  ·have:=Pol.len_mul h h2; omega
def n6 (O:ah):Prop:=∀(p:Int) [IsP p] (m a b:Fp p),m≠0→m.len≤64→a.len≤1000→b.len≤1000→ask O F11 [ka m,(D.sl .leaf (ab .i64 (row a))),(D.sl .leaf (ab .i64 (row b)))]=some (D.sl .leaf (ab .i64 (row (a*b%m))))
theorem a2v (hT:T F11=some Z11) (ht:Ac (den T A)) (hr:Bw (den T A)):n6 (den T A):=by
 intro p ip m a b hm hml ha hb;have e1:=ht p a b (by omega) (by omega)
 have hl:=a8m (n:=1000) ha hb;have e2:=hr p (a*b) m hm (by omega) (by omega)
 refine bi hT rfl ?_;simp -implicitDefEqProofs [Z11,Z11_B,e1,e2]
theorem a7j {O:ah} (hpw:zk O) {p:Int} [IsP p] {m:Fp p} (hm:m≠0) (hml:m.len≤64) {n:Nat} (hn:n<1000000):∀(k i:Nat) (a:Fp p),i+k=n→a.len≤1000 →
 dn O 0 (.loop Zs_L0) ⟨[(1,(.d (.sl .leaf (ab .i64 (row a))))),(3,.ptr 0 []),(11,(.d (.int .i64 n))),(12,(.d (.int .i64 i)))],[.box false (ka m)]⟩ =
  some (.exit 0,⟨[(1,(.d (.sl .leaf (ab .i64 (row (du m k a)))))),(3,.ptr 0 []),(11,(.d (.int .i64 n))),(12,(.d (.int .i64 n))),(13,(.d (.bool false)))],[.box false (ka m)]⟩)
 | 0,i,a,hi,ha=>by
  obtain rfl:i=n:=by omega
  exact bt (by simp -implicitDefEqProofs [Zs_L0,ac,du])
 | k+1,i,a,hi,ha=>by
  have hp:=IsP.pos (p:=p);have hp7:=IsP.le (p:=p);have hlt:i<n:=by omega
  have w4:IntKind.i64.wrap ((i:Int)+1)=((i+1:Nat):Int):=(w64 (x:=(i:Int)+1) (by omega)).trans (by omega)
  have e1:=hpw p a p m hm (by omega) (by omega) (by omega) (by omega)
  have hl:=Pol.len_mod (pw a p.toNat) hm;refine bm ?_ (a7j hpw hm hml hn k (i+1) (pw a p.toNat%m) (by omega) (by omega))
  simp -implicitDefEqProofs [Zs_L0,ac,hlt,e1,w4]
def we (O:ah):Prop:=∀(p:Int) [IsP p] (m a:Fp p) (k:Nat),2≤m.len→m.len≤64→a.len≤1000→k<1000000→ask O Fs [ka m,(D.sl .leaf (ab .i64 (row a))),(D.int .i64 k)]=some (D.sl .leaf (ab .i64 (row (du m (k%(m.len-1)) a))))
theorem ae8 (hT:T Fs=some Zs) (hpw:zk (den T A)) (hdg:o7 (den T A)):we (den T A):=by
 intro p ip m a k h2 hml ha hk;have hm:m≠0:=fun h=>by rw [h,Pol.len_zero] at h2; omega
 have e1:=hdg (row m) (by rw [cg]; omega)
 rw [cg,show ((m.len:Int)-1)=((m.len-1:Nat):Int) by omega] at e1
 have hlt:=Nat.mod_lt k (show 0<m.len-1 by omega)
 have e2:=a7j (O:=den T A) hpw hm hml (n:=k%(m.len-1)) (by omega) (k%(m.len-1)) 0 a (bn _) ha
 have e00:((0:Nat):Int)=0:=rfl;rw [e00] at e2;have w1:(k:Int).tmod ((m.len-1:Nat):Int)=((k%(m.len-1):Nat):Int):=by rw [ct (by omega)]; rfl
 have h0:((m.len-1:Nat):Int)≠0:=by omega
 refine bi hT rfl ?_;generalize row (du m (k%(m.len-1)) a)=R at *;generalize ((k%(m.len-1):Nat):Int)=n1 at *;generalize ((m.len-1:Nat):Int)=m1 at *;simp -implicitDefEqProofs [Zs,Zs_B,e1,e2,w1,h0]
def rh (O:ah):Prop:=∀(p:Int) [IsP p] (m a:Fp p),m≠0→m.len≤64→a.len≤1000→ask O Ft [ka m,(D.sl .leaf (ab .i64 (row a)))]=some (D.sl .leaf (ab .i64 (row (ji m a))))
theorem a1x {p:Int} [IsP p] {a b:Fp p} (h:a≠0∨b≠0) (_ha:a.len≤1000) (hb:b.len≤1000):(Pol.bezout a b).2.1.len<5000:=by
 obtain ⟨x,y,hi,_,_⟩:=Pol.bz_spec b.len a b 1 0 0 1 (ba _) (Pol.BzI.init h);have h1:=hi.lu;rw [Pol.len_zero] at h1;have:(Pol.bezout a b).2.1.len≤(Pol.bz b.len a b 1 0 0 1).2.1.len:=Pol.len_le (Pol.lt_Cmul _ (Pol.lt_len _));omega
theorem Wv (hT:T Ft=some Zt) (hb:G4 (den T A)) (hr:Bw (den T A)):rh (den T A):=by
 intro p ip m a hm hml ha;have e1:=hb p a m (.inr hm) (by omega) (by omega)
 have hl:=a1x (a:=a) (b:=m) (.inr hm) ha (by omega)
 have e2:=hr p (Pol.bezout a m).2.1 m hm hl (by omega)
 have e3:(Pol.bezout a m).2.1%m=ji m a:=rfl;rw [e3] at e2;refine bi hT rfl ?_;generalize row (ji m a)=R at *;generalize row (Pol.bezout a m).1=R1 at *;generalize row (Pol.bezout a m).2.1=R2 at *;generalize row (Pol.bezout a m).2.2=R3 at *;simp -implicitDefEqProofs [Zt,Zt_B,e1,e2]
theorem ae6 {p:Int} [IsP p] {a b:Fp p} (h:a≠0) (hb:b.len≤63):(Pol.bezout a b).2.1.len≤64:=by
 obtain ⟨x,y,hi,_,_⟩:=Pol.bz_spec b.len a b 1 0 0 1 (ba _) (Pol.BzI.init (.inl h));have h1:=hi.lu;rw [Pol.len_zero] at h1;have:(Pol.bezout a b).2.1.len≤(Pol.bz b.len a b 1 0 0 1).2.1.len:=Pol.len_le (Pol.lt_Cmul _ (Pol.lt_len _));omega
end Pe

namespace Pe
open Go Gq
variable {T:Nat→Option Fn} {A:ah}
section
variable {p:Int} [IsP p]
theorem Md {m:Fp p} (h2:2≤m.len):(1:Quo m)≠0:=fun h=>by
 have:Dv m 1:=og.2 h;have:=this.len Pol.one_ne;rw [Pol.len_one] at this;omega
theorem aes {m c:Fp p} (hm:Fld m) (hc:c≠0) (hcl:c.len<m.len) (k:Nat):pw c k%m≠0∧(pw c k%m).len<m.len:=by
 have h0:m≠0:=hm.mon.2;refine ⟨fun h=>?_,Pol.len_mod _ h0⟩
 have h1:Quo.mk m (pw c k)=0:=by rw [←Pol.mk_mod,h]; rfl
 rw [Quo.mk_pow] at h1;have h2:=Ey hm hc hcl;have h3:pw (Quo.mk m (ji m c)*Quo.mk m c) k=0:=by rw [Ae,h1,Gq.mul_zero]
 rw [h2,Hm] at h3;exact Md hm.two h3
end
end Pe



namespace Pe
open Go Gq
variable {T:Nat→Option Fn} {A:ah}
end Pe


namespace Pe
open Go Gq
variable {T:Nat→Option Fn} {A:ah}
end Pe

namespace Pe
open Go Gq
variable {T:Nat→Option Fn} {A:ah}
noncomputable abbrev skD {p:Int} (a:List (Fp p)):D:=.sl .leaf (a.map fun c=>(D.sl .leaf (ab .i64 (row c))))
section
variable {p:Int} [IsP p]
noncomputable def svI (m x:Fp p):Nat→List (Fp p)→Fp p→Fp p
 | _,[],out=>out
 | i,c::cs,out=>svI m x (i+1) cs (out+c*du m (i%(m.len-1)) x%m)
theorem Cj {m x:Fp p} (hm:m≠0):∀(i:Nat) (a:List (Fp p)) (out:Fp p),out.len<m.len→(svI m x i a out).len<m.len
 | _,[],_,h=>h
 | i,c::cs,out,h=>Cj hm (i+1) cs _ (by
  have h1:=Pol.len_mod (c*du m (i%(m.len-1)) x) hm;have:=Pol.len_add_le (a:=out) (b:=c*du m (i%(m.len-1)) x%m) (n:=m.len-1) (by omega) (by omega)
  omega)
end
section
variable {p:Int}
end
theorem a12 {O:ah} (hfr:we O) (hpr:n6 O) (hco:rm O) {p:Int} [IsP p] {m x:Fp p} {a:List (Fp p)} (h2:2≤m.len) (hml:m.len≤64) (hx:x.len≤1000) (ha:a.length<100000) (hal:∀c∈a,c.len≤1000):∀(k i:Nat) (out:Fp p),i+k=a.length→out.len≤64 →
 dn O 0 (.loop Z13_L0) ⟨[(2,(.d (.sl .leaf (ab .i64 (row x))))),(3,.ptr 0 []),(7,(.d (.sl .leaf (ab .i64 (row out))))),(10,.d (skD a)),(11,(.d (.int .i64 a.length))),(12,(.d (.int .i64 i)))],[.box false (ka m)]⟩ =
  some (.exit 0,⟨[(2,(.d (.sl .leaf (ab .i64 (row x))))),(3,.ptr 0 []),(7,(.d (.sl .leaf (ab .i64 (row (svI m x i (a.drop i) out)))))),(10,.d (skD a)),(11,(.d (.int .i64 a.length))),(12,(.d (.int .i64 a.length))),(13,(.d (.bool false)))],[.box false (ka m)]⟩)
 | 0,i,out,hi,ho=>by
  obtain rfl:i=a.length:=by omega
  rw [ez];show _=some (_,(⟨[_,_,(7,(.d (.sl .leaf (ab .i64 (row out))))),_,_,_,_],_⟩:St));exact bt (by simp -implicitDefEqProofs [Z13_L0,ac])
 | k+1,i,out,hi,ho=>by
  have hm:m≠0:=fun h=>by rw [h,Pol.len_zero] at h2; omega
  have hlt:i<a.length:=by omega
  have hci:=hal _ (bj hlt);have w4:IntKind.i64.wrap ((i:Int)+1)=((i+1:Nat):Int):=(w64 (x:=(i:Int)+1) (by omega)).trans (by omega)
  have e1:=hfr p m x i h2 hml hx (by omega)
  have hfl:(du m (i%(m.len-1)) x).len≤1000:=by
   by_cases hz:i%(m.len-1)=0
   ·rw [hz]; exact hx
   ·obtain ⟨j,hj⟩:=Nat.exists_eq_succ_of_ne_zero hz
    rw [hj];have:=my hm j (pw x p.toNat%m) (Pol.len_mod _ hm);show (du m j (pw x p.toNat%m)).len≤1000;omega
  have e2:=hpr p m a[i] (du m (i%(m.len-1)) x) hm hml hci hfl;have hl:=Pol.len_mod (a[i]*du m (i%(m.len-1)) x) hm;have e3:=hco p out (a[i]*du m (i%(m.len-1)) x%m) (by omega) (by omega)
  have hl2:=Pol.len_add_le (a:=out) (b:=a[i]*du m (i%(m.len-1)) x%m) (n:=64) ho (by omega)
  have ih:=a12 hfr hpr hco h2 hml hx ha hal k (i+1) (out+a[i]*du m (i%(m.len-1)) x%m) (by omega) hl2
  have hsv:svI m x i (a.drop i) out=svI m x (i+1) (a.drop (i+1)) (out+a[i]*du m (i%(m.len-1)) x%m):=by
   rw [bu hlt]; rfl
  rw [hsv];refine bm ?_ ih;generalize row (out+a[i]*du m (i%(m.len-1)) x%m)=R1 at *;generalize row (a[i]*du m (i%(m.len-1)) x%m)=R2 at *;generalize row (du m (i%(m.len-1)) x)=R3 at *;simp -implicitDefEqProofs [Z13_L0,ac,hlt,e1,e2,e3,w4]
def zv (O:ah):Prop:=∀(p:Int) [IsP p] (m x:Fp p) (a:List (Fp p)),2≤m.len→m.len≤64→x.len≤1000→a.length<100000→(∀c∈a,c.len≤1000)→ask O F13 [ka m,skD a,(D.sl .leaf (ab .i64 (row x)))]=some (D.sl .leaf (ab .i64 (row (svI m x 0 a 0))))
theorem aa7 (hT:T F13=some Z13) (hfr:we (den T A)) (hpr:n6 (den T A)) (hco:rm (den T A)):zv (den T A):=by
 intro p ip m x a h2 hml hx ha hal;have e:=a12 (O:=den T A) hfr hpr hco h2 hml hx ha hal a.length 0 0 (bn _) (by rw [Pol.len_zero]; omega)
 have e00:((0:Nat):Int)=0:=rfl;rw [e00,dq,gy,dc] at e;refine bi hT rfl ?_;generalize row (svI m x 0 a 0)=R at *;simp -implicitDefEqProofs [Z13,Z13_B,e]
end Pe


namespace Pe
open Go Gq
variable {T:Nat→Option Fn} {A:ah}
theorem Uy {O:ah} {g:Nat} {first caps cs:List D} {P:D→Bool} (hF:qy O g first caps cs P) (hs:D0 (.arr 8 (.arr 64 .leaf)) cs) (hl:cs.length<2000000):∀(m i:Nat),i+m=cs.length →
 dn O 0 (.loop ir_slices_IndexFunc_impl_Skew_impl_Skew_L0) ⟨[(0,.d (.sl (.arr 8 (.arr 64 .leaf)) cs)),(1,.d (.fn g first caps)),(7,(.d (.int .i64 cs.length))),(8,(.d (.int .i64 i)))],[]⟩ =
  if (cs.drop i).any P then some (.ret,⟨[(4,(.d (.int .i64 (si P (cs.drop i) i))))],[]⟩) else some (.exit 0,⟨[(0,.d (.sl (.arr 8 (.arr 64 .leaf)) cs)),(1,.d (.fn g first caps)),(7,(.d (.int .i64 cs.length))),(8,(.d (.int .i64 cs.length))),(9,(.d (.bool false)))],[]⟩)
 | 0,i,hi=>by
  have:i=cs.length:=by omega
  subst this;rw [ez];exact bt (by simp -implicitDefEqProofs [ir_slices_IndexFunc_impl_Skew_impl_Skew_L0,ac])
 | m+1,i,hi=>by
  have hlt:i<cs.length:=by omega
  have h1:(i:Int)<cs.length:=by omega
  have hx:cs[i]? = some cs[i]:=au hlt;have hm:cs[i]∈cs:=bj hlt;have hc:=Cc (O:=O) (np:=0) (h:=[]) (news:=[]) hF.1 hF.2.1 (hF.2.2.1 _ hm) (hF.2.2.2 _ hm) rfl;have hsh:=hs _ hm;have w4:IntKind.i64.wrap ((i:Int)+1)=((i+1:Nat):Int):=(w64 (x:=(i:Int)+1) (by omega)).trans (by omega)
  rw [bu hlt];cases hp:P cs[i]
  ·rw [hp] at hc
   refine bm (s1:=⟨[(0,.d (.sl (.arr 8 (.arr 64 .leaf)) cs)),(1,.d (.fn g first caps)),(7,(.d (.int .i64 cs.length))),(8,(.d (.int .i64 ((i+1:Nat)))))],[]⟩) ?_ ?_
   ·simp -implicitDefEqProofs [ir_slices_IndexFunc_impl_Skew_impl_Skew_L0,ac,h1,hx,hsh,hc,w4]
   ·rw [Uy hF hs hl m (i+1) (by omega)]
    simp only [ol,hp,Bool.false_or,si,b9,if_false]
  ·rw [hp] at hc
   have e:si P (cs[i]::cs.drop (i+1)) i=i:=by simp [si,hp]
   rw [e];simp only [ol,hp,Bool.true_or,if_true];exact lq (by simp -implicitDefEqProofs [ir_slices_IndexFunc_impl_Skew_impl_Skew_L0,ac,h1,hx,hsh,hc])
theorem a5i (hT:T F2n=some Z2n):pm (den T A) F2n (.arr 8 (.arr 64 .leaf)):=by
 intro g first caps cs P hF hs hl;have h:=Uy hF hs hl cs.length 0 (bn _);rw [dc] at h;have e0:((0:Nat):Int)=0:=rfl;rw [e0] at h;refine bi hT rfl ?_
 by_cases ha:cs.any P=true
 ·rw [if_pos ha] at h
  simp -implicitDefEqProofs [Z2n,ir_slices_IndexFunc_impl_Skew_impl_Skew_B,h]
 ·rw [if_neg ha] at h
  have hn:si P cs 0=-1:=by
   have hi:∀(ds:List D) (i:Nat),ds.any P=false→si P ds i=-1:=by
    intro ds
    induction ds with
    | nil=>intro i _; rfl
    | cons d ds ih=>intro i hd; simp at hd; rw [si,hd.1]; simpa using ih (i+1) (by simpa using hd.2)
   exact hi cs 0 (by simpa using ha)
  simp -implicitDefEqProofs [Z2n,ir_slices_IndexFunc_impl_Skew_impl_Skew_B,h,hn]
theorem Uk (hT:T F2k=some Z2k) (hi:pm (den T A) F2n (.arr 8 (.arr 64 .leaf))):vb (den T A) F2k (.arr 8 (.arr 64 .leaf)):=by
 intro g first caps cs P hF hs hl;have h:=hi g first caps cs P hF hs hl;have e:decide (0≤si P cs 0)=cs.any P:=by rw [uq]; simpa using Ju P cs 0
 refine bi hT rfl ?_;simp -implicitDefEqProofs [Z2k,ir_slices_ContainsFunc_impl_Skew_impl_Skew_B,h,e]
theorem aer {g:Nat} {first caps cs:List D} {P:D→Bool} (hT:T Fk=some Zk) (hs:D0 (.arr 8 (.arr 64 .leaf)) cs) (hF:qy (den T A) g first caps cs P):qy (den T A) Fk [] [.ip (.fn g first caps)] cs fun x=>!P x:=by
 refine ⟨fun x hx=>by simp at hx,fun x hx=>by simp at hx; subst hx; rfl,hF.2.2.1,fun x hx=>?_⟩
 have hc:=Cc (O:=den T A) (np:=0) (h:=[.box false x]) (news:=[]) hF.1 hF.2.1 (hF.2.2.1 _ hx) (hF.2.2.2 _ hx) rfl;have h1:=hF.2.2.1 _ hx;have h2:=hs _ hx;refine bi hT rfl ?_;simp -implicitDefEqProofs [Zk,Zk_B,hc,h1,h2]
theorem a3o (hT:T Fj=some Zj) (hT1:T Fk=some Zk) (hc:vb (den T A) F2k (.arr 8 (.arr 64 .leaf))):tr (den T A) Fj (.arr 8 (.arr 64 .leaf)):=by
 intro g first caps cs P hF hs hl;have e:=hc _ _ _ _ _ (aer hT1 hs hF) hs hl;have e2:=Qq P cs;rw [←e2];generalize (cs.any fun x=>!P x)=r at *
 refine bi hT rfl ?_;simp -implicitDefEqProofs [Zj,ir_impl_areAll_impl_Skew_B,e]
abbrev da (ls:List (List Int)):D:=.arr 8 (.arr 64 .leaf) (ls.map aw)
def Sk8 (ls:List (List Int)):Prop:=Ji ls∧ls.length=8
theorem U3 {p:Int} [IsP p] {m:Fp p} {ls:List (List Int)} (hm:m.len≤64) (h:Ji ls) (hi:Gd (den T A)):∃P:D→Bool,(∀l∈ls,P (aw l)=true↔rt m l)∧qy (den T A) Fu [ka m] [] (ls.map aw) P:=by
 classical
 refine ⟨fun x=>decide (rt m x.nums),fun l hl=>by show decide (rt m (aw l).nums)=true↔_; rw [He]; simp,fun x hx=>by simp at hx; subst hx; rfl,fun x hx=>by simp at hx,fun x hx=>?_,fun x hx=>?_⟩
 ·obtain ⟨n,_,rfl⟩:=cj.1 hx; rfl
 ·obtain ⟨l,hl,rfl⟩:=cj.1 hx
  have e:=hi p m l hm (h l hl).2 (h l hl).1;show ask (den T A) _ _=some (.bool (decide (rt m (aw l).nums)));rw [He];exact e
def oq {p:Int} [IsP p] (m:Fp p) (ls:List (List Int)):Prop:=∀l∈ls,rt m l
open Classical in
def Rs (O:ah):Prop:=∀(p:Int) [IsP p] (m:Fp p) (ls:List (List Int)),m.len≤64→Sk8 ls→ask O Fv [ka m,da ls]=some (D.bool (decide (oq m ls)))
open Classical in
theorem aew (hT:T Fv=some Zv) (ha:tr (den T A) Fh (.arr 64 .leaf)) (hi:Gd (den T A)):Rs (den T A):=by
 intro p ip m ls hm ⟨h,h8⟩;obtain ⟨P,hP,hF⟩:=U3 (m:=m) hm h hi;have e:=ha _ _ _ _ _ hF (fun x hx=>by obtain ⟨n,_,rfl⟩:=cj.1 hx; rfl) (by rw [ap]; omega)
 have hb:(ls.map aw).all P=decide (oq m ls):=by
  rw [uq,fe,decide_eq_true_iff];constructor
  ·intro h2 l hl; exact (hP l hl).1 (h2 _ (jy hl))
  ·intro h2 x hx
   obtain ⟨l,hl,rfl⟩:=cj.1 hx;exact (hP l hl).2 (h2 l hl)
 rw [hb] at e;have hL:(ls.map aw).length=8:=by rw [ap]; exact h8
 have htk:(ls.map aw).take 8=ls.map aw:=bb (by omega)
 have hsk:da ls=.arr 8 (.arr 64 .leaf) (ls.map aw):=rfl;rw [hsk];refine bi hT rfl ?_;generalize ls.map aw=LD at *;generalize decide (oq m ls)=b at *;simp -implicitDefEqProofs [Zv,ir_impl_field_isSkew_B,e,hL,htk,List.replicate]
def D.numss:D→List (List Int)
 | .arr _ _ cs=>cs.map D.nums
 | _=>[]
theorem N7 (ls:List (List Int)):(da ls).numss=ls:=by
 show (ls.map aw).map D.nums=ls;rw [sy];have:(D.nums ∘ aw)=id:=by funext l; exact He l
 rw [this,List.map_id]
theorem a9u {p:Int} [IsP p] {m:Fp p} {lss:List (List (List Int))} (hm:m.len≤64) (h:∀ls∈lss,Sk8 ls) (hi:Rs (den T A)):∃P:D→Bool,(∀ls∈lss,P (da ls)=true↔oq m ls)∧qy (den T A) Fv [ka m] [] (lss.map da) P:=by
 classical
 refine ⟨fun x=>decide (oq m x.numss),fun l hl=>by show decide (oq m (da l).numss)=true↔_; rw [N7]; simp,fun x hx=>by simp at hx; subst hx; rfl,fun x hx=>by simp at hx,fun x hx=>?_,fun x hx=>?_⟩
 ·obtain ⟨n,_,rfl⟩:=cj.1 hx; rfl
 ·obtain ⟨l,hl,rfl⟩:=cj.1 hx
  have e:=hi p m l hm (h l hl);show ask (den T A) _ _=some (.bool (decide (oq m (da l).numss)));rw [N7];exact e
open Classical in
noncomputable def eg (p:Int) (l:List Int) (lss:List (List (List Int))):Int:=if ∃(_:IsP p) (m:Fp p),l=pad (row m)∧Fld m∧∀ls∈lss,oq m ls then 0 else 1
open Classical in
noncomputable def te (p:Int) (l:List Int) (ls:List (List Int)):Int:=if ∃(_:IsP p) (m:Fp p),l=pad (row m)∧Fld m∧∀x∈ls,rt m x then 0 else 1
theorem Bd {p:Int} [IsP p] {m:Fp p} (hm:Fld m) {Q:∀(_:IsP p),Fp p→Prop}:(∃(ip:IsP p) (m':Fp p),pad (row m)=pad (row m')∧Fld m'∧Q ip m')↔Q inferInstance m:=by
 have h5:=hm.five;constructor
 ·rintro ⟨ip,m',e,h1,h2⟩
  have h6:=h1.five;obtain rfl:=(pa (by omega) (by omega)).1 e
  exact h2
 ·intro h; exact ⟨_,m,rfl,hm,h⟩
def fp (O:ah) (F:Nat):Prop:=∀(p:Int) (l:List Int) (lss:List (List (List Int))),g9 l→l.length=64→(∀ls∈lss,Sk8 ls)→lss.length<2000000→ask O F [(D.int .i64 p),(D.arr 64 .leaf (ab .u8 l)),.sl (.arr 8 (.arr 64 .leaf)) (lss.map da)]=some (D.int .i64 (eg p l lss))
def rx (O:ah) (F:Nat):Prop:=∀(p:Int) (l:List Int) (ls:List (List Int)),g9 l→l.length=64→Ji ls→ls.length<2000000→ask O F [(D.int .i64 p),(D.arr 64 .leaf (ab .u8 l)),.sl (.arr 64 .leaf) (ls.map aw)]=some (D.int .i64 (te p l ls))
open Classical in
theorem U0 (hT:T F27=some Z27) (hif:yr (den T A)) (hfo:mi (den T A)) (his:Rs (den T A)) (ha:tr (den T A) Fj (.arr 8 (.arr 64 .leaf))):fp (den T A) F27:=by
 intro p l lss hb hl h hlen;have e1:=hif p l hb hl;refine bi hT rfl ?_;unfold eg
 by_cases hf:z3 p l
 ·rw [decide_eq_true hf] at e1
  obtain ⟨ip,m,rfl,hm⟩:=hf;have h5:=hm.five;have e2:=hfo p m (by omega)
  obtain ⟨P,hP,hF⟩:=a9u (m:=m) (by omega) h his
  have e3:=ha _ _ _ _ _ hF (fun x hx=>by obtain ⟨n,_,rfl⟩:=cj.1 hx; rfl) (by rw [ap]; exact hlen)
  have hall:(lss.map da).all P=true↔∀ls∈lss,oq m ls:=by
   rw [fe];constructor
   ·intro h2 l hl; exact (hP l hl).1 (h2 _ (jy hl))
   ·intro h2 x hx
    obtain ⟨l,hl,rfl⟩:=cj.1 hx;exact (hP l hl).2 (h2 l hl)
  have hc:=(Bd hm (Q:=fun ip m'=>∀ls∈lss,@oq p ip m' ls)).trans hall.symm
  cases hb1:(lss.map da).all P
  ·rw [hb1] at e3 hc
   rw [if_neg (fun h=>by have:=hc.1 h; cases this)]
   generalize pad (row m)=Pm at *;generalize lss.map da=LD at *;simp -implicitDefEqProofs [Z27,Z27_B,ac,e1,e2,e3]
  ·rw [hb1] at e3 hc
   rw [if_pos (hc.2 rfl)];generalize pad (row m)=Pm at *;generalize lss.map da=LD at *;simp -implicitDefEqProofs [Z27,Z27_B,ac,e1,e2,e3]
 ·rw [decide_eq_false hf] at e1
  rw [if_neg (fun ⟨ip,m,e,hm,_⟩=>hf ⟨ip,m,e,hm⟩)]
  generalize lss.map da=LD at *;simp -implicitDefEqProofs [Z27,Z27_B,ac,e1]
open Classical in
theorem a2i (hT:T F1t=some Z1t) (hif:yr (den T A)) (hfo:mi (den T A)) (his:Gd (den T A)) (ha:tr (den T A) Fh (.arr 64 .leaf)):rx (den T A) F1t:=by
 intro p l ls hb hl h hlen;have e1:=hif p l hb hl;refine bi hT rfl ?_;unfold te
 by_cases hf:z3 p l
 ·rw [decide_eq_true hf] at e1
  obtain ⟨ip,m,rfl,hm⟩:=hf;have h5:=hm.five;have e2:=hfo p m (by omega)
  obtain ⟨P,hP,hF⟩:=U3 (m:=m) (by omega) h his
  have e3:=ha _ _ _ _ _ hF (fun x hx=>by obtain ⟨n,_,rfl⟩:=cj.1 hx; rfl) (by rw [ap]; exact hlen)
  have hall:(ls.map aw).all P=true↔∀x∈ls,rt m x:=by
   rw [fe];constructor
   ·intro h2 l hl; exact (hP l hl).1 (h2 _ (jy hl))
   ·intro h2 x hx
    obtain ⟨l,hl,rfl⟩:=cj.1 hx;exact (hP l hl).2 (h2 l hl)
  have hc:=(Bd hm (Q:=fun ip m'=>∀x∈ls,@rt p ip m' x)).trans hall.symm
  cases hb1:(ls.map aw).all P
  ·rw [hb1] at e3 hc
   rw [if_neg (fun h=>by have:=hc.1 h; cases this)]
   generalize pad (row m)=Pm at *;generalize ls.map aw=LD at *;simp -implicitDefEqProofs [Z1t,Z1t_B,ac,e1,e2,e3]
  ·rw [hb1] at e3 hc
   rw [if_pos (hc.2 rfl)];generalize pad (row m)=Pm at *;generalize ls.map aw=LD at *;simp -implicitDefEqProofs [Z1t,Z1t_B,ac,e1,e2,e3]
 ·rw [decide_eq_false hf] at e1
  rw [if_neg (fun ⟨ip,m,e,hm,_⟩=>hf ⟨ip,m,e,hm⟩)]
  generalize ls.map aw=LD at *;simp -implicitDefEqProofs [Z1t,Z1t_B,ac,e1]
end Pe

namespace Pe
open Go Gq
variable {T:Nat→Option Fn} {A:ah}
theorem a9h {ls:List (List Int)} (h:Sk8 ls) {i:Nat} (hi:i<8):∃l,l∈ls∧(ls.map aw)[i]? = some (D.arr 64 .leaf (ab .u8 l))∧g9 l∧l.length=64∧ls[i]? = some l:=by
 have hlt:i<ls.length:=by rw [h.2]; exact hi
 have hm:=bj hlt;refine ⟨ls[i],hm,by rw [gi,au hlt]; rfl,(h.1 _ hm).2,(h.1 _ hm).1,au hlt⟩
theorem td {p:Int} [IsP p] {m:Fp p} {l:List Int} {ls:List (List Int)}:oq m (l::ls)↔rt m l∧oq m ls:=by simp [oq]
theorem Vs {p:Int} [IsP p] (m:Fp p):oq m []:=fun _ h=>by cases h
def Im {p:Int} [IsP p] (m:Fp p) (lss:List (List (List Int))):Prop:=∀ls∈lss,oq m ls
theorem E4 {p:Int} [IsP p] {m:Fp p} {l:List (List Int)} {ls:List (List (List Int))}:Im m (l::ls)↔oq m l∧Im m ls:=by simp [Im]
theorem a3f {p:Int} [IsP p] (m:Fp p):Im m []:=fun _ h=>by cases h
open Classical in
theorem Yq {O:ah} (hr:Dr O) {p:Int} [IsP p] {m:Fp p} (hm:m.len≤64) {ls:List (List Int)} (h:Sk8 ls):∀(k i:Nat),i+k=8 →
 dn O 0 (.loop Z4t_L0) ⟨[(0,(.d (.int .i64 p))),(4,.ptr 0 []),(5,.ptr 1 []),(7,(.d (.int .i64 i)))],[.box false (D.arr 64 .leaf (ab .u8 (pad (row m)))),.box false (.arr 8 (.arr 64 .leaf) (ls.map aw))]⟩ =
  if oq m (ls.drop i) then some (.exit 0,⟨[(0,(.d (.int .i64 p))),(4,.ptr 0 []),(5,.ptr 1 []),(7,(.d (.int .i64 8))),(9,(.d (.bool false)))],[.box false (D.arr 64 .leaf (ab .u8 (pad (row m)))),.box false (.arr 8 (.arr 64 .leaf) (ls.map aw))]⟩) else some (.ret,⟨[(6,(.d (.bool false)))],[.hole,.hole]⟩)
 | 0,i,hi=>by
  obtain rfl:i=8:=by omega
  rw [if_pos (by rw [ft (by rw [h.2]; omega)]; exact Vs m)]
  refine bt ?_;generalize pad (row m)=Pm at *;generalize ls.map aw=LD at *;simp -implicitDefEqProofs [Z4t_L0,ac]
 | k+1,i,hi=>by
  have hi8:i<8:=by omega
  have hi8':(i:Int)<8:=by omega
  obtain ⟨l,hl,hx,hb,h64,hli⟩:=a9h h hi8;have e1:=hr p m l hm hb h64;have hL:(ls.map aw).length=8:=by rw [ap]; exact h.2
  have hx2:∀h:i<(ls.map aw).length,(ls.map aw)[i]'h=(D.arr 64 .leaf (ab .u8 l)):=fun h=>by rw [au h] at hx; exact bc hx
  have w4:IntKind.i64.wrap ((i:Int)+1)=((i+1:Nat):Int):=(w64 (x:=(i:Int)+1) (by omega)).trans (by omega)
  have hlt:i<ls.length:=by rw [h.2]; exact hi8
  have hd:ls.drop i=l::ls.drop (i+1):=by
   rw [bu hlt];rw [au hlt] at hli;rw [bc hli]
  have ih:=Yq hr hm h k (i+1) (by omega)
  rw [hd]
  by_cases hres:rt m l
  ·rw [decide_eq_true hres] at e1
   have hiff:oq m (l::ls.drop (i+1))↔oq m (ls.drop (i+1)):=⟨fun h=>(td.1 h).2,fun h=>td.2 ⟨hres,h⟩⟩
   rw [propext hiff];refine bm ?_ ih;generalize pad (row m)=Pm at *;generalize ls.map aw=LD at *;simp -implicitDefEqProofs [Z4t_L0,ac,hi8,hi8',hx2,hL,e1,w4]
  ·rw [decide_eq_false hres] at e1
   rw [if_neg (fun h=>hres (td.1 h).1)]
   refine lq ?_;generalize pad (row m)=Pm at *;generalize ls.map aw=LD at *;simp -implicitDefEqProofs [Z4t_L0,ac,hi8,hi8',hx2,hL,e1]
open Classical in
def Jm (O:ah):Prop:=∀(p:Int) [IsP p] (m:Fp p) (ls:List (List Int)),m.len≤64→Sk8 ls→ask O F4t [(D.int .i64 p),(D.arr 64 .leaf (ab .u8 (pad (row m)))),da ls]=some (D.bool (decide (oq m ls)))
open Classical in
theorem aav (hT:T F4t=some Z4t) (hr:Dr (den T A)):Jm (den T A):=by
 intro p ip m ls hm h;have e:=Yq (O:=den T A) hr hm h 8 0 rfl;have e00:((0:Nat):Int)=0:=rfl;rw [e00,dc] at e;have hsk:da ls=.arr 8 (.arr 64 .leaf) (ls.map aw):=rfl;rw [hsk];refine bi hT rfl ?_
 by_cases hs:oq m ls
 ·rw [if_pos hs] at e
  rw [decide_eq_true hs];generalize pad (row m)=Pm at *;generalize ls.map aw=LD at *;simp -implicitDefEqProofs [Z4t,Z4t_B,e,List.replicate]
 ·rw [if_neg hs] at e
  rw [decide_eq_false hs];generalize pad (row m)=Pm at *;generalize ls.map aw=LD at *;simp -implicitDefEqProofs [Z4t,Z4t_B,e,List.replicate]
open Classical in
theorem Od {O:ah} (hr:Jm O) {p:Int} [IsP p] {m:Fp p} (hm:m.len≤64) {lss:List (List (List Int))} (h:∀ls∈lss,Sk8 ls) (hl:lss.length<2000000):∀(k i:Nat),i+k=lss.length →
 dn O 0 (.loop Z4k_L0) ⟨[(0,(.d (.int .i64 p))),(2,.d (.sl (.arr 8 (.arr 64 .leaf)) (lss.map da))),(4,.ptr 0 []),(7,(.d (.int .i64 i)))],[.box false (D.arr 64 .leaf (ab .u8 (pad (row m))))]⟩ =
  if Im m (lss.drop i) then some (.exit 0,⟨[(0,(.d (.int .i64 p))),(2,.d (.sl (.arr 8 (.arr 64 .leaf)) (lss.map da))),(4,.ptr 0 []),(7,(.d (.int .i64 lss.length))),(15,(.d (.bool false)))],[.box false (D.arr 64 .leaf (ab .u8 (pad (row m))))]⟩) else some (.ret,⟨[(6,(.d (.int .i64 1)))],[.hole]⟩)
 | 0,i,hi=>by
  obtain rfl:i=lss.length:=by omega
  rw [if_pos (by rw [ez]; exact a3f m)]
  have hL:(lss.map da).length=lss.length:=ap ..;refine bt ?_;generalize pad (row m)=Pm at *;generalize lss.map da=LD at *;simp -implicitDefEqProofs [Z4k_L0,ac,hL]
 | k+1,i,hi=>by
  have hlt:i<lss.length:=by omega
  have hm1:=bj hlt;have e1:=hr p m lss[i] hm (h _ hm1);have hL:(lss.map da).length=lss.length:=ap ..;have w4:IntKind.i64.wrap ((i:Int)+1)=((i+1:Nat):Int):=(w64 (x:=(i:Int)+1) (by omega)).trans (by omega)
  have hx2:∀h:i<(lss.map da).length,(lss.map da)[i]'h=.arr 8 (.arr 64 .leaf) (lss[i].map aw):=fun h=>by rw [ca]
  have hd:lss.drop i=lss[i]::lss.drop (i+1):=bu hlt;have ih:=Od hr hm h hl k (i+1) (by omega)
  rw [hd];have hsk:da lss[i]=.arr 8 (.arr 64 .leaf) (lss[i].map aw):=rfl;rw [hsk] at e1
  by_cases hres:oq m lss[i]
  ·rw [decide_eq_true hres] at e1
   have hiff:Im m (lss[i]::lss.drop (i+1))↔Im m (lss.drop (i+1)):=⟨fun h=>(E4.1 h).2,fun h=>E4.2 ⟨hres,h⟩⟩
   rw [propext hiff];refine bm ?_ ih;generalize pad (row m)=Pm at *;generalize lss.map da=LD at *;simp -implicitDefEqProofs [Z4k_L0,ac,hlt,hx2,hL,e1,w4]
  ·rw [decide_eq_false hres] at e1
   rw [if_neg (fun h=>hres (E4.1 h).1)]
   refine lq ?_;generalize pad (row m)=Pm at *;generalize lss.map da=LD at *;simp -implicitDefEqProofs [Z4k_L0,ac,hlt,hx2,hL,e1]
open Classical in
theorem a31 (hT:T F4k=some Z4k) (hf:Bh (den T A)) (hi:Jm (den T A)):fp (den T A) F4k:=by
 intro p l lss hb hl h hlen;have e1:=hf p l hb hl;refine bi hT rfl ?_;unfold eg
 by_cases hfl:z3 p l
 ·rw [decide_eq_true hfl] at e1
  obtain ⟨ip,m,rfl,hm⟩:=hfl;have h5:=hm.five;have e2:=Od (O:=den T A) hi (m:=m) (by omega) h hlen lss.length 0 (bn _)
  have e00:((0:Nat):Int)=0:=rfl;rw [e00,dc] at e2;have hc:=Bd hm (Q:=fun ip m'=>∀ls∈lss,@oq p ip m' ls)
  by_cases hs:Im m lss
  ·rw [if_pos hs] at e2
   rw [if_pos (hc.2 hs)];generalize pad (row m)=Pm at *;generalize lss.map da=LD at *;simp -implicitDefEqProofs [Z4k,Z4k_B,ac,e1,e2]
  ·rw [if_neg hs] at e2
   rw [if_neg (fun h=>hs (hc.1 h))]
   generalize pad (row m)=Pm at *;generalize lss.map da=LD at *;simp -implicitDefEqProofs [Z4k,Z4k_B,ac,e1,e2]
 ·rw [decide_eq_false hfl] at e1
  rw [if_neg (fun ⟨ip,m,e,hm,_⟩=>hfl ⟨ip,m,e,hm⟩)]
  generalize lss.map da=LD at *;simp -implicitDefEqProofs [Z4k,Z4k_B,ac,e1]
end Pe

namespace Pe
open Go Gq
variable {T:Nat→Option Fn} {A:ah}
theorem a0v {O:ah} (hpw:s9 O) {p:Int} [IsP p] {m:Fp p} {z:List Int} (hm:m≠0) (hml:m.len≤64):∀(k:Nat) (a:Fp p),k<1000000→a.len≤64 →
 dn O 0 (.loop Z4r_L0) ⟨[(0,(.d (.int .i64 p))),(5,.ptr 0 []),(7,.ptr 1 []),(8,.ptr 2 []),(9,(.d (.int .i64 k)))],[.box false (D.arr 64 .leaf (ab .u8 (pad (row a)))),.box false (D.arr 64 .leaf (ab .u8 (pad (row m)))),.box false (D.arr 64 .leaf (ab .u8 z))]⟩ =
  some (.exit 0,⟨[(0,(.d (.int .i64 p))),(5,.ptr 0 []),(7,.ptr 1 []),(8,.ptr 2 []),(9,(.d (.int .i64 0))),(15,(.d (.bool false)))],[.box false (D.arr 64 .leaf (ab .u8 (pad (row (du m k a))))),.box false (D.arr 64 .leaf (ab .u8 (pad (row m)))),.box false (D.arr 64 .leaf (ab .u8 z))]⟩)
 | 0,a,hk,ha=>by
  refine bt ?_;show _=some (_,(⟨_,[.box false (D.arr 64 .leaf (ab .u8 (pad (row a)))),_,_]⟩:St));generalize pad (row a)=Pa at *;generalize pad (row m)=Pm at *;simp -implicitDefEqProofs [Z4r_L0,ac]
 | k+1,a,hk,ha=>by
  have hp:=IsP.pos (p:=p);have hp7:=IsP.le (p:=p);have w4:IntKind.i64.wrap (((k+1:Nat):Int)-1)=(k:Int):=(w64 (x:=((k+1:Nat):Int)-1) (by omega)).trans (by omega)
  have hlt:(0:Int)<((k+1:Nat):Int):=by omega
  have e1:=hpw p a p m hm ha hml (by omega) (by omega)
  have hl:=Pol.len_mod (pw a p.toNat) hm;refine bm ?_ (a0v hpw hm hml k (pw a p.toNat%m) (by omega) (by omega))
  generalize ((k+1:Nat):Int)=k1 at *;generalize pad (row (pw a p.toNat%m))=R at *;generalize pad (row a)=Pa at *;generalize pad (row m)=Pm at *;simp -implicitDefEqProofs [Z4r_L0,ac,hlt,e1,w4]
def v6 (O:ah):Prop:=∀(p:Int) [IsP p] (m a:Fp p) (k:Nat),2≤m.len→m.len≤64→a.len≤64→k<1000000→ask O F4r [(D.int .i64 p),(D.arr 64 .leaf (ab .u8 (pad (row a)))),(D.int .i64 k),(D.arr 64 .leaf (ab .u8 (pad (row m))))]=some (D.arr 64 .leaf (ab .u8 (pad (row (du m (k%(m.len-1)) a)))))
theorem aa0 (hT:T F4r=some Z4r) (hpw:s9 (den T A)) (hdg:iq (den T A)):v6 (den T A):=by
 intro p ip m a k h2 hml ha hk;have hm:m≠0:=fun h=>by rw [h,Pol.len_zero] at h2; omega
 have e1:=hdg p m hml;rw [show ((m.len:Int)-1)=((m.len-1:Nat):Int) by omega] at e1
 have hlt:=Nat.mod_lt k (show 0<m.len-1 by omega)
 have e2:=a0v (O:=den T A) (z:=pad []) hpw hm hml (k%(m.len-1)) a (by omega) ha
 have w1:(k:Int).tmod ((m.len-1:Nat):Int)=((k%(m.len-1):Nat):Int):=by rw [ct (by omega)]; rfl
 have h0:((m.len-1:Nat):Int)≠0:=by omega
 refine bi hT rfl ?_;generalize pad (row (du m (k%(m.len-1)) a))=R at *;generalize ((k%(m.len-1):Nat):Int)=n1 at *;generalize ((m.len-1:Nat):Int)=m1 at *;generalize pad (row a)=Pa at *;generalize pad (row m)=Pm at *;simp -implicitDefEqProofs [Z4r,Z4r_B,e1,e2,w1,h0,List.replicate]
section
variable {p:Int}
open Classical in
noncomputable def stl (S:List (Fp p)):Nat→Nat
 | 0=>0
 | n+1=>if S[n]? = some 0 then stl S n else n+1
noncomputable def az (S:List (Fp p)):List (Fp p):=S.take (stl S S.length)
theorem Dl (S:List (Fp p)):∀n,stl S n≤n
 | 0=>ba 0
 | n+1=>by
  unfold stl
  split
  ·have:=Dl S n; omega
  ·omega
theorem Nb (S:List (Fp p)):∀n j,stl S n≤j→j<n→S[j]? = some 0
 | 0,j,_,h=>by omega
 | n+1,j,h1,h2=>by
  unfold stl at h1
  split at h1
  ·rename_i h0
   by_cases hj:j=n
   ·rw [hj]; exact h0
   ·exact Nb S n j h1 (by omega)
  ·omega
end
section
variable {p:Int} [IsP p]
theorem Oo {m x:Fp p} (hm:m≠0):∀(i:Nat) (S:List (Fp p)) (out:Fp p),(∀a∈S,a=0)→svI m x i S out=out
 | _,[],_,_=>rfl
 | i,c::cs,out,h=>by
  have hc:=h c (by simp)
  subst hc;show svI m x (i+1) cs (out+0*du m (i%(m.len-1)) x%m)=out;rw [Gq.zero_mul,Pol.zero_mod hm,Gq.add_zero];exact Oo hm (i+1) cs out fun a ha=>h a (by simp [ha])
theorem M5 {m x:Fp p}:∀(i:Nat) (S R:List (Fp p)) (out:Fp p),svI m x i (S++R) out=svI m x (i+S.length) R (svI m x i S out)
 | _,[],_,_=>rfl
 | i,c::cs,R,out=>by
  show svI m x (i+1) (cs++R) _=svI m x (i+(cs.length+1)) R (svI m x (i+1) cs _);rw [M5 (i+1) cs R,show i+(cs.length+1)=i+1+cs.length by omega]
theorem Aq {m x:Fp p} (hm:m≠0) (S:List (Fp p)):svI m x 0 (az S) 0=svI m x 0 S 0:=by
 have e:=M5 (m:=m) (x:=x) 0 (S.take (stl S S.length)) (S.drop (stl S S.length)) 0;rw [kw] at e
 have hz:∀a∈S.drop (stl S S.length),a=0:=by
  intro a ha;obtain ⟨j,hj,rfl⟩:=im ha;rw [fy] at hj;have:=Nb S S.length (stl S S.length+j) (by omega) (by omega)
  rw [List.getElem_drop];rw [au (by omega)] at this
  exact bc this
 rw [e,Oo hm _ _ _ hz];rfl
end
theorem Vz {O:ah} {p:Int} [IsP p] {S:List (Fp p)} (hS:S.length<100000):∀n:Nat,n≤S.length →
 dn O 0 (.loop Z26_L0) ⟨[(0,.d (skD S)),(3,(.d (.int .i64 n)))],[]⟩=some (.exit 0,⟨[(0,.d (skD S)),(3,(.d (.int .i64 (stl S n)))),(16,(.d (.bool false)))],[]⟩)
 | 0,_=>bt (by simp -implicitDefEqProofs [Z26_L0,ac,stl])
 | n+1,hn=>by
  have hlt:n<S.length:=by omega
  have w1:IntKind.i64.wrap (((n+1:Nat):Int)-1)=(n:Int):=(w64 (x:=((n+1:Nat):Int)-1) (by omega)).trans (by omega)
  have h0:(0:Int)<((n+1:Nat):Int):=by omega
  unfold stl
  by_cases hz:S[n]? = some 0
  ·rw [if_pos hz]
   rw [au hlt] at hz;have hz':S[n]=0:=bc hz;have hlen:(S[n]).len=0:=by rw [hz',Pol.len_zero]
   refine bm ?_ (Vz hS n (by omega))
   generalize ((n+1:Nat):Int)=n1 at *;simp -implicitDefEqProofs [Z26_L0,ac,hlt,w1,h0,hlen]
  ·rw [if_neg hz]
   rw [au hlt] at hz;have hlen:(S[n]).len≠0:=fun h=>hz (by rw [Pol.len_zero_iff.1 h])
   refine bt ?_;generalize ((n+1:Nat):Int)=n1 at *;simp -implicitDefEqProofs [Z26_L0,ac,hlt,w1,h0,hlen]
def Ay (O:ah):Prop:=∀(p:Int) [IsP p] (S:List (Fp p)),S.length<100000→ask O F26 [skD S]=some (skD (az S))
theorem a87 (hT:T F26=some Z26):Ay (den T A):=by
 intro p ip S hS;have e:=Vz (O:=den T A) hS S.length (ba _);have hle:=Dl S S.length;have hL:(S.map fun c=>(D.sl .leaf (ab .i64 (row c)))).length=S.length:=ap ..
 have e9:skD (az S)=.sl .leaf ((S.map fun c=>(D.sl .leaf (ab .i64 (row c)))).take (stl S S.length)):=by unfold az; rw [←List.map_take]
 have e8:skD S=.sl .leaf (S.map fun c=>(D.sl .leaf (ab .i64 (row c)))):=rfl
 rw [e9];rw [e8] at e ⊢;refine bi hT rfl ?_;generalize stl S S.length=n at *;generalize (S.map fun c=>(D.sl .leaf (ab .i64 (row c))))=LD at *
 generalize S.length=sl at *;subst hL;simp -implicitDefEqProofs [Z26,Z26_B,e,hle]
theorem uh {p:Int} [IsP p] {m:Fp p}:∀{ls:List (List Int)},oq m ls→∃S:List (Fp p),ls=S.map (fun a=>pad (row a))∧∀a∈S,a.len<m.len
 | [],_=>⟨[],rfl,fun _ h=>by cases h⟩
 | l::ls,h=>by
  obtain ⟨h1,h2⟩:=td.1 h;obtain ⟨a,ha,rfl⟩:=h1;obtain ⟨S,rfl,hS⟩:=uh h2;exact ⟨a::S,rfl,by simpa using ⟨ha,hS⟩⟩
noncomputable abbrev skP {p:Int} (S:List (Fp p)):List (List Int):=S.map fun a=>pad (row a)
theorem Ue {O:ah} (hro:tw O) {p:Int} [IsP p] {S:List (Fp p)} (h8:S.length=8) (hS:∀a∈S,a.len≤64):∀(k i:Nat) (cp:Option Nat),i+k=8→∃cp':Option Nat,
 dn O 0 (.loop Z23_L0) ⟨[(3,.sl 1 [] 0 i cp),(6,.d (.arr 8 (.arr 64 .leaf) ((skP S).map aw))),(7,(.d (.int .i64 i)))],[.hole,.sl false .leaf ((S.take i).map fun c=>(D.sl .leaf (ab .i64 (row c)))),.hole,.hole,.hole]⟩ =
  some (.exit 0,⟨[(3,.sl 1 [] 0 8 cp'),(6,.d (.arr 8 (.arr 64 .leaf) ((skP S).map aw))),(7,(.d (.int .i64 8))),(8,(.d (.bool false)))],[.hole,.sl false .leaf (S.map fun c=>(D.sl .leaf (ab .i64 (row c)))),.hole,.hole,.hole]⟩)
 | 0,i,cp,hi=>by
  obtain rfl:i=8:=by omega
  rw [bb (by omega)]
  refine ⟨cp,bt ?_⟩;generalize (skP S).map aw=LD at *;generalize (S.map fun c=>(D.sl .leaf (ab .i64 (row c))))=LR at *
  simp -implicitDefEqProofs [Z23_L0,ac]
 | k+1,i,cp,hi=>by
  have hi8:i<8:=by omega
  have hi8':(i:Int)<8:=by omega
  have hlt:i<S.length:=by omega
  have hm1:=bj hlt;have e1:=hro p S[i] (hS _ hm1);have hL:((skP S).map aw).length=8:=by rw [ap,ap]; exact h8
  have hx2:∀h:i<((skP S).map aw).length,((skP S).map aw)[i]'h=(D.arr 64 .leaf (ab .u8 (pad (row S[i])))):=fun h=>by rw [ca,ca]
  have w4:IntKind.i64.wrap ((i:Int)+1)=((i+1:Nat):Int):=(w64 (x:=(i:Int)+1) (by omega)).trans (by omega)
  have o1:((S.take (i+1)).map fun c=>(D.sl .leaf (ab .i64 (row c))))=((S.take i).map fun c=>(D.sl .leaf (ab .i64 (row c))))++[(D.sl .leaf (ab .i64 (row S[i])))]:=by
   rw [dg hlt,fd]; rfl
  have hL2:((S.take i).map fun c=>(D.sl .leaf (ab .i64 (row c)))).length=i:=by rw [ap,bq]; omega
  have ht:((S.take i).map fun c=>(D.sl .leaf (ab .i64 (row c)))).take i=((S.take i).map fun c=>(D.sl .leaf (ab .i64 (row c)))):=bb (by omega)
  have h24:(i+1)*24≤1099511627776:=by omega
  obtain ⟨cp',ih⟩:=Ue hro h8 hS k (i+1) none (by omega)
  rw [o1] at ih;refine ⟨cp',bm ?_ ih⟩;generalize (skP S).map aw=LD at *;generalize ((S.take i).map fun c=>(D.sl .leaf (ab .i64 (row c))))=LR at *
  generalize pad (row S[i])=Pi at *;generalize row S[i]=Ri at *;simp -implicitDefEqProofs [Z23_L0,ac,hi8,hi8',hL,hx2,e1,w4,hL2,ht,h24,List.replicate]
def sr (O:ah):Prop:=∀(p:Int) [IsP p] (S:List (Fp p)),S.length=8→(∀a∈S,a.len≤64)→ask O F23 [da (skP S)]=some (skD (az S))
theorem a8n (hT:T F23=some Z23) (hro:tw (den T A)) (htr:Ay (den T A)):sr (den T A):=by
 intro p ip S h8 hS;obtain ⟨cp',e1⟩:=Ue (O:=den T A) hro h8 hS 8 0 (some 0) rfl;have e00:((0:Nat):Int)=0:=rfl;rw [e00,ff,ij] at e1;have e2:=htr p S (by omega)
 have hsk:da (skP S)=.arr 8 (.arr 64 .leaf) ((skP S).map aw):=rfl;have hs2:skD S=.sl .leaf (S.map fun c=>(D.sl .leaf (ab .i64 (row c)))):=rfl
 rw [hsk];rw [hs2] at e2;have hL:(S.map fun c=>(D.sl .leaf (ab .i64 (row c)))).length=8:=by rw [ap]; exact h8
 have ht:(S.map fun c=>(D.sl .leaf (ab .i64 (row c)))).take 8=(S.map fun c=>(D.sl .leaf (ab .i64 (row c)))):=bb (by omega)
 refine bi hT rfl ?_;generalize (skP S).map aw=LD at *;generalize (S.map fun c=>(D.sl .leaf (ab .i64 (row c))))=LR at *
 generalize skD (az S)=TD at *;simp -implicitDefEqProofs [Z23,Z23_B,e1,e2,hL,ht,List.replicate]
end Pe

namespace Pe
open Go Gq
variable {T:Nat→Option Fn} {A:ah}
theorem Nl {O:ah} (hfr:v6 O) (hmm:ki O) (ha:ja O) {p:Int} [IsP p] {m x:Fp p} {z:List Int} (h2:2≤m.len) (hml:m.len≤64) (hx:x.len<m.len) {S:List (Fp p)} (h8:S.length=8) (hS:∀a∈S,a.len<m.len):∀(k i:Nat) (out:Fp p),i+k=8→out.len<m.len →
 dn O 0 (.loop Z56_L0) ⟨[(0,(.d (.int .i64 p))),(5,.ptr 0 []),(6,.ptr 1 []),(7,.ptr 2 []),(8,.ptr 3 []),(9,.ptr 4 []),(10,(.d (.int .i64 i)))],[.box false (D.arr 64 .leaf (ab .u8 (pad (row m)))),.box false (.arr 8 (.arr 64 .leaf) ((skP S).map aw)),.box false (D.arr 64 .leaf (ab .u8 (pad (row x)))),.box false (D.arr 64 .leaf (ab .u8 z)),.box false (D.arr 64 .leaf (ab .u8 (pad (row out))))]⟩ =
  some (.exit 0,⟨[(0,(.d (.int .i64 p))),(5,.ptr 0 []),(6,.ptr 1 []),(7,.ptr 2 []),(8,.ptr 3 []),(9,.ptr 4 []),(10,(.d (.int .i64 8))),(13,(.d (.bool false)))],[.box false (D.arr 64 .leaf (ab .u8 (pad (row m)))),.box false (.arr 8 (.arr 64 .leaf) ((skP S).map aw)),.box false (D.arr 64 .leaf (ab .u8 (pad (row x)))),.box false (D.arr 64 .leaf (ab .u8 z)),.box false (D.arr 64 .leaf (ab .u8 (pad (row (svI m x i (S.drop i) out)))))]⟩)
 | 0,i,out,hi,ho=>by
  obtain rfl:i=8:=by omega
  rw [ft (by omega)]
  refine bt ?_;show _=some (_,(⟨_,[_,_,_,_,.box false (D.arr 64 .leaf (ab .u8 (pad (row out))))]⟩:St));generalize (skP S).map aw=LD at *;generalize pad (row out)=Po at *;generalize pad (row x)=Px at *;generalize pad (row m)=Pm at *;simp -implicitDefEqProofs [Z56_L0,ac]
 | k+1,i,out,hi,ho=>by
  have hm:m≠0:=fun h=>by rw [h,Pol.len_zero] at h2; omega
  have hi8:i<8:=by omega
  have hi8':(i:Int)<8:=by omega
  have hlt:i<S.length:=by omega
  have hm1:=bj hlt;have hsl:=hS _ hm1;have hL:((skP S).map aw).length=8:=by rw [ap,ap]; exact h8
  have hx2:∀h:i<((skP S).map aw).length,((skP S).map aw)[i]'h=(D.arr 64 .leaf (ab .u8 (pad (row S[i])))):=fun h=>by rw [ca,ca]
  have w4:IntKind.i64.wrap ((i:Int)+1)=((i+1:Nat):Int):=(w64 (x:=(i:Int)+1) (by omega)).trans (by omega)
  have t3:pad (row S[i])=pad []↔S[i]=0:=by
   rw [←dq (p:=p),pa (by omega) (by rw [Pol.len_zero]; omega)]
  have e4:=Nk (ck (row S[i])) (ck []);have hd:S.drop i=S[i]::S.drop (i+1):=bu hlt;have hsv:svI m x i (S.drop i) out=svI m x (i+1) (S.drop (i+1)) (out+S[i]*du m (i%(m.len-1)) x%m):=by rw [hd]; rfl
  rw [hsv]
  by_cases hz:S[i]=0
  ·rw [decide_eq_true (t3.2 hz)] at e4
   have hsame:out+S[i]*du m (i%(m.len-1)) x%m=out:=by rw [hz,Gq.zero_mul,Pol.zero_mod hm,Gq.add_zero]
   rw [hsame];refine bm ?_ (Nl hfr hmm ha h2 hml hx h8 hS k (i+1) out (by omega) ho)
   generalize (skP S).map aw=LD at *;generalize pad (row S[i])=Pi at *;generalize pad (row out)=Po at *;generalize pad (row x)=Px at *;generalize pad (row m)=Pm at *;simp -implicitDefEqProofs [Z56_L0,ac,hi8,hi8',hL,hx2,e4,w4]
  ·rw [decide_eq_false (fun h=>hz (t3.1 h))] at e4
   have e1:=hfr p m x i h2 hml (by omega) (by omega)
   have hfl:=my hm (i%(m.len-1)) x hx;have e2:=hmm p S[i] (du m (i%(m.len-1)) x) m hm hml (by omega) (by omega)
   have hl:=Pol.len_mod (S[i]*du m (i%(m.len-1)) x) hm;have e3:=ha p 1 out (S[i]*du m (i%(m.len-1)) x%m) (by omega) (by omega) (by omega) (by omega)
   rw [t9,Pol.C_one,Gq.one_mul] at e3;have hl2:=Pol.len_add_le (a:=out) (b:=S[i]*du m (i%(m.len-1)) x%m) (n:=m.len-1) (by omega) (by omega)
   refine bm ?_ (Nl hfr hmm ha h2 hml hx h8 hS k (i+1) _ (by omega) (by omega))
   generalize pad (row (out+S[i]*du m (i%(m.len-1)) x%m))=P1 at *;generalize pad (row (S[i]*du m (i%(m.len-1)) x%m))=P2 at *;generalize pad (row (du m (i%(m.len-1)) x))=P3 at *;generalize (skP S).map aw=LD at *;generalize pad (row S[i])=Pi at *;generalize pad (row out)=Po at *;generalize pad (row x)=Px at *;generalize pad (row m)=Pm at *;simp -implicitDefEqProofs [Z56_L0,ac,hi8,hi8',hL,hx2,e1,e2,e3,e4,w4]
def wl (O:ah):Prop:=∀(p:Int) [IsP p] (m x:Fp p) (S:List (Fp p)),2≤m.len→m.len≤64→x.len<m.len→S.length=8→(∀a∈S,a.len<m.len)→ask O F56 [(D.int .i64 p),(D.arr 64 .leaf (ab .u8 (pad (row m)))),da (skP S),(D.arr 64 .leaf (ab .u8 (pad (row x))))]=some (D.arr 64 .leaf (ab .u8 (pad (row (svI m x 0 S 0)))))
theorem a4z (hT:T F56=some Z56) (hfr:v6 (den T A)) (hmm:ki (den T A)) (ha:ja (den T A)):wl (den T A):=by
 intro p ip m x S h2 hml hx h8 hS;have e:=Nl (O:=den T A) (z:=pad []) hfr hmm ha h2 hml hx h8 hS 8 0 0 rfl (by rw [Pol.len_zero]; omega)
 have e00:((0:Nat):Int)=0:=rfl;rw [e00,dc,dq] at e;have hsk:da (skP S)=.arr 8 (.arr 64 .leaf) ((skP S).map aw):=rfl;rw [hsk];refine bi hT rfl ?_;generalize (skP S).map aw=LD at *;generalize pad (row (svI m x 0 S 0))=PR at *;generalize pad (row x)=Px at *;generalize pad (row m)=Pm at *;simp -implicitDefEqProofs [Z56,Z56_B,e,List.replicate]
def Vd (p:Int) (l:List Int) (ls:List (List Int)) (x:List Int):Prop:=∃(_:IsP p) (m:Fp p),l=pad (row m)∧Fld m∧oq m ls∧rt m x
open Classical in
noncomputable def vsD (p:Int) (l:List Int) (ls:List (List Int)) (x:List Int):D:=
 if h:Vd p l ls x then
  haveI:IsP p:=h.choose
  .tup [(D.arr 64 .leaf (ab .u8 (pad (row (svI (ew p l) (ew p x) 0 (ls.map (ew p)) 0))))),(D.int .i64 0)]
 else .tup [(D.arr 64 .leaf (ab .u8 (pad []))),(D.int .i64 1)]
theorem Re {p:Int} {l x:List Int} {ls:List (List Int)} (h:¬ Vd p l ls x):vsD p l ls x=.tup [(D.arr 64 .leaf (ab .u8 (pad []))),(D.int .i64 1)]:=by
 unfold vsD; rw [dif_neg h]
theorem kh {p:Int} {S:List (Fp p)} (hS:∀a∈S,a.len≤64):(skP S).map (ew p)=S:=by
 unfold skP;rw [sy]
 conv=>rhs; rw [←List.map_id S]
 exact List.map_congr_left fun a ha=>lh (hS a ha)
theorem Lu {p:Int} [IsP p] {m x:Fp p} {S:List (Fp p)} (h:Vd p (pad (row m)) (skP S) (pad (row x))) (hm:m.len≤64) (hx:x.len≤64) (hS:∀a∈S,a.len≤64):vsD p (pad (row m)) (skP S) (pad (row x))=.tup [(D.arr 64 .leaf (ab .u8 (pad (row (svI m x 0 S 0))))),(D.int .i64 0)]:=by
 unfold vsD;rw [dif_pos h,lh hm,lh hx,kh hS]
def mc (O:ah) (F:Nat):Prop:=∀(p:Int) (l:List Int) (ls:List (List Int)) (x:List Int),g9 l→l.length=64→Sk8 ls→g9 x→x.length=64→ask O F [(D.int .i64 p),(D.arr 64 .leaf (ab .u8 l)),da ls,(D.arr 64 .leaf (ab .u8 x))]=some (vsD p l ls x)
open Classical in
theorem Ny {p:Int} {l x:List Int} {ls:List (List Int)}:(eg p l [ls]=0∧te p l [x]=0)↔Vd p l ls x:=by
 unfold eg te;constructor
 ·rintro ⟨h1,h2⟩
  split at h1
  ·split at h2
   ·rename_i g1 g2
    obtain ⟨ip,m,e1,f1,s1⟩:=g1;obtain ⟨ip2,m2,e2,f2,s2⟩:=g2;have h5:=f1.five;have h6:=f2.five;rw [e1] at e2;obtain rfl:=(pa (by omega) (by omega)).1 e2
    exact ⟨ip,m,e1,f1,s1 _ (by simp),s2 _ (by simp)⟩
   ·cases h2
  ·cases h1
 ·rintro ⟨ip,m,e,f,s,r⟩
  exact ⟨if_pos ⟨ip,m,e,f,by simpa using s⟩,if_pos ⟨ip,m,e,f,by simpa using r⟩⟩
theorem I6 (p:Int) (l:List Int) (lss:List (List (List Int))):eg p l lss=0∨eg p l lss=1:=by
 unfold eg; split
 ·exact .inl rfl
 ·exact .inr rfl
theorem Q1 (p:Int) (l:List Int) (ls:List (List Int)):te p l ls=0∨te p l ls=1:=by
 unfold te; split
 ·exact .inl rfl
 ·exact .inr rfl
theorem O8 (hT:T Fe=some Ze) (hsc:fp (den T A) F27) (hrc:rx (den T A) F1t) (hfo:mi (den T A)) (hsk:sr (den T A)) (hro:tw (den T A)) (hva:zv (den T A)) (hto:Xa (den T A)):mc (den T A) Fe:=by
 intro p l ls x bl gl h8 bx gx;have e1:=hsc p l [ls] bl gl (by simpa using h8) (by simp)
 have e2:=hrc p l [x] bl gl (by intro y hy; simp at hy; subst hy; exact ⟨gx,bx⟩) (by simp)
 rw [show List.map da [ls]=[da ls] from rfl] at e1;rw [show List.map aw [x]=[(D.arr 64 .leaf (ab .u8 x))] from rfl] at e2;have hskd:da ls=.arr 8 (.arr 64 .leaf) (ls.map aw):=rfl;have hL:(ls.map aw).length=8:=by rw [ap]; exact h8.2
 by_cases h:Vd p l ls x
 ·obtain ⟨c1,c2⟩:=Ny.2 h
  rw [c1] at e1;rw [c2] at e2;have h':=h;obtain ⟨ip,m,rfl,hm,hs,a,ha,rfl⟩:=h;obtain ⟨S,rfl,hS⟩:=uh hs;have h5:=hm.five;have hS8:S.length=8:=by have:=h8.2; rwa [ap] at this
  rw [Lu h' (by omega) (by omega) (fun a ha=>by have:=hS a ha; omega)]
  have e3:=hfo p m (by omega)
  have e4:=hsk p S hS8 (fun a ha=>by have:=hS a ha; omega)
  have e5:=hro p a (by omega)
  have hts:∀c∈az S,c.len≤1000:=fun c hc=>by
   have:=hS c (lr hc); omega
  have e6:=hva p m a (az S) hm.two (by omega) (by omega) (by unfold az; rw [bq]; omega) hts
  rw [Aq hm.mon.2] at e6;have hvl:=Cj (x:=a) hm.mon.2 0 S 0 (by rw [Pol.len_zero]; have:=hm.two; omega)
  have e8:=hto (row (svI m a 0 S 0)) (Ou _) (by rw [cg]; omega)
  unfold a4i at e8;rw [if_pos (by rw [cg]; omega)] at e8
  have hts2:skD (az S)=.sl .leaf ((az S).map fun c=>(D.sl .leaf (ab .i64 (row c)))):=rfl
  rw [hts2] at e4 e6;rw [hskd] at e1 e4 ⊢;refine bi hT rfl ?_;generalize ((az S).map fun c=>(D.sl .leaf (ab .i64 (row c))))=TR at *
  generalize row (svI m a 0 S 0)=R1 at *;generalize (skP S).map aw=LD at *;generalize pad (row m)=Pm at *;generalize pad (row a)=Pa at *;simp -implicitDefEqProofs [Ze,ir_impl_ValueOfSkew_B,ac,e1,e2,e3,e4,e5,e6,e8,List.replicate]
 ·rw [Re h]
  rw [hskd] at e1 ⊢;refine bi hT rfl ?_;rcases I6 p l [ls] with c1 | c1
  ·rcases Q1 p l [x] with c2 | c2
   ·exact absurd (Ny.1 ⟨c1,c2⟩) h
   ·rw [c1] at e1
    rw [c2] at e2;generalize ls.map aw=LD at *;simp -implicitDefEqProofs [Ze,ir_impl_ValueOfSkew_B,ac,e1,e2,List.replicate]
  ·rw [c1] at e1
   generalize ls.map aw=LD at *;simp -implicitDefEqProofs [Ze,ir_impl_ValueOfSkew_B,ac,e1,List.replicate]
open Classical in
theorem Nd (hT:T F3s=some Z3s) (hsc:fp (den T A) F4k) (hre:Dr (den T A)) (hva:wl (den T A)):mc (den T A) F3s:=by
 intro p l ls x bl gl h8 bx gx;have e1:=hsc p l [ls] bl gl (by simpa using h8) (by simp)
 rw [show List.map da [ls]=[da ls] from rfl] at e1;have hskd:da ls=.arr 8 (.arr 64 .leaf) (ls.map aw):=rfl;have hL:(ls.map aw).length=8:=by rw [ap]; exact h8.2
 rcases I6 p l [ls] with c1 | c1
 ·rw [c1] at e1
  have c1':=c1;unfold eg at c1'
  split at c1'
  case isFalse=>cases c1'
  rename_i g1
  obtain ⟨ip,m,rfl,hm,hs⟩:=g1
  replace hs:=hs ls (by simp)
  obtain ⟨S,rfl,hS⟩:=uh hs;have h5:=hm.five;have hS8:S.length=8:=by have:=h8.2; rwa [ap] at this
  have e2:=hre p m x (by omega) bx gx
  by_cases hr:rt m x
  ·rw [decide_eq_true hr] at e2
   have h:Vd p (pad (row m)) (skP S) x:=⟨ip,m,rfl,hm,hs,hr⟩;have h':=h;obtain ⟨a,ha,rfl⟩:=hr;rw [Lu h' (by omega) (by omega) (fun a ha=>by have:=hS a ha; omega)]
   have e3:=hva p m a S hm.two (by omega) ha hS8 hS
   rw [hskd] at e1 e3 ⊢;refine bi hT rfl ?_;generalize row (svI m a 0 S 0)=R1 at *;generalize (skP S).map aw=LD at *;generalize pad (row m)=Pm at *;generalize pad (row a)=Pa at *;simp -implicitDefEqProofs [Z3s,ir_spec_ValueOfSkew_B,ac,e1,e2,e3,List.replicate]
  ·rw [decide_eq_false hr] at e2
   have h:¬ Vd p (pad (row m)) (skP S) x:=fun h=>by
    have:=(Bd hm (Q:=fun ip m'=>oq m' (skP S)∧@rt p ip m' x)).1 h
    exact hr this.2
   rw [Re h];rw [hskd] at e1 ⊢;refine bi hT rfl ?_;generalize (skP S).map aw=LD at *;generalize pad (row m)=Pm at *;simp -implicitDefEqProofs [Z3s,ir_spec_ValueOfSkew_B,ac,e1,e2,List.replicate]
 ·rw [c1] at e1
  have h:¬ Vd p l ls x:=fun h=>by have:=(Ny.2 h).1; omega
  rw [Re h];rw [hskd] at e1 ⊢;refine bi hT rfl ?_;generalize ls.map aw=LD at *;simp -implicitDefEqProofs [Z3s,ir_spec_ValueOfSkew_B,ac,e1,List.replicate]
theorem a5j (p:Int) (l:List Int) (ls:List (List Int)) (x:List Int):∃(r:List Int) (k:Int),vsD p l ls x=.tup [(D.arr 64 .leaf (ab .u8 r)),(D.int .i64 k)]∧r.length=64:=by
 unfold vsD
 split
 ·exact ⟨_,_,rfl,ck _⟩
 ·exact ⟨_,_,rfl,ck _⟩
theorem cm:∀ls:List (List Int),D.flats (ls.map aw)=true
 | []=>rfl
 | l::ls=>by
  show (D.flats (ab .u8 l)&&D.flats (ls.map aw))=true;rw [cm ls,Nu]; rfl
end Pe

namespace Pe
open Go Gq
variable {T:Nat→Option Fn} {A:ah}
section
variable {p:Int}
noncomputable def ig (Q:List (Fp p)) (n:Nat) (v:Fp p):List (Fp p):=Q.set n ((Q[n]?).getD 0+v)
theorem pr (Q:List (Fp p)) (n:Nat) (v:Fp p):(ig Q n v).length=Q.length:=by unfold ig; rw [cr]
end
section
variable {p:Int} [IsP p]
noncomputable def lf (m x:Fp p) (i:Nat):Nat→List (Fp p)→List (Fp p)→List (Fp p)
 | _,[],Q=>Q
 | k,y::ys,Q=>lf m x i (k+1) ys (ig Q (i+k) (x*du m (i%(m.len-1)) y%m))
noncomputable def ko (m:Fp p) (b:List (Fp p)):Nat→List (Fp p)→List (Fp p)→List (Fp p)
 | _,[],Q=>Q
 | i,x::xs,Q=>ko m b (i+1) xs (lf m x i 0 b Q)
theorem lm (m x:Fp p) (i:Nat):∀(k:Nat) (b Q:List (Fp p)),(lf m x i k b Q).length=Q.length
 | _,[],_=>rfl
 | k,y::ys,Q=>by
  show (lf m x i (k+1) ys (ig Q (i+k) _)).length=_;rw [lm,pr]
theorem ll (m:Fp p) (b:List (Fp p)):∀(i:Nat) (a Q:List (Fp p)),(ko m b i a Q).length=Q.length
 | _,[],_=>rfl
 | i,x::xs,Q=>by
  show (ko m b (i+1) xs (lf m x i 0 b Q)).length=_;rw [ll,lm]
end
theorem V6 {O:ah} {p:Int} [IsP p] {S:List (Fp p)} (h8:S.length=8) (hS:∀a∈S,a.len≤64):∀n:Nat,n≤8 →
 dn O 0 (.loop Z4l_L0) ⟨[(1,.ptr 0 []),(3,(.d (.int .i64 ((n:Int)-1))))],[.box false (.arr 8 (.arr 64 .leaf) ((skP S).map aw))]⟩ =
  some (.exit 0,⟨[(1,.ptr 0 []),(3,(.d (.int .i64 (((stl S n:Nat):Int)-1)))),(12,(.d (.bool false)))],[.box false (.arr 8 (.arr 64 .leaf) ((skP S).map aw))]⟩)
 | 0,_=>by
  refine bt ?_;show _=some (_,(⟨[_,(3,(.d (.int .i64 (((0:Nat):Int)-1)))),_],_⟩:St));generalize (skP S).map aw=LD at *;simp -implicitDefEqProofs [Z4l_L0,ac]
 | n+1,hn=>by
  have hlt:n<S.length:=by omega
  have hi8:n<8:=by omega
  have hm1:=bj hlt;have hsl:=hS _ hm1;have hL:((skP S).map aw).length=8:=by rw [ap,ap]; exact h8
  have hx2:∀h:n<((skP S).map aw).length,((skP S).map aw)[n]'h=(D.arr 64 .leaf (ab .u8 (pad (row S[n])))):=fun h=>by rw [ca,ca]
  have t3:pad (row S[n])=pad []↔S[n]=0:=by
   rw [←dq (p:=p),pa hsl (by rw [Pol.len_zero]; omega)]
  have e4:=Nk (ck (row S[n])) (ck []);have t0:((n+1:Nat):Int)-1=(n:Int):=by omega
  have w1:IntKind.i64.wrap ((n:Int)-1)=(n:Int)-1:=w64 (by omega)
  rw [t0];unfold stl
  by_cases hz:S[n]=0
  ·rw [if_pos (by rw [au hlt,hz])]
   rw [decide_eq_true (t3.2 hz)] at e4;refine bm ?_ (V6 h8 hS n (by omega))
   generalize (skP S).map aw=LD at *;generalize pad (row S[n])=Pn at *;simp -implicitDefEqProofs [Z4l_L0,ac,hi8,hL,hx2,e4,w1]
  ·rw [if_neg (by rw [au hlt]; simpa using hz)]
   rw [decide_eq_false (fun h=>hz (t3.1 h))] at e4
   rw [t0];refine bt ?_;generalize (skP S).map aw=LD at *;generalize pad (row S[n])=Pn at *;simp -implicitDefEqProofs [Z4l_L0,ac,hi8,hL,hx2,e4]
def Eq (O:ah):Prop:=∀(p:Int) [IsP p] (S:List (Fp p)),S.length=8→(∀a∈S,a.len≤64)→ask O F4l [da (skP S)]=some (D.int .i64 (((stl S 8:Nat):Int)-1))
theorem a8h (hT:T F4l=some Z4l):Eq (den T A):=by
 intro p ip S h8 hS;have e:=V6 (O:=den T A) h8 hS 8 (ba _);have e0:((8:Nat):Int)-1=7:=rfl;rw [e0] at e;have hsk:da (skP S)=.arr 8 (.arr 64 .leaf) ((skP S).map aw):=rfl;rw [hsk];refine bi hT rfl ?_;generalize (skP S).map aw=LD at *;simp -implicitDefEqProofs [Z4l,Z4l_B,e]
def L1 (O:ah):Prop:=∀(p:Int) [IsP p] (S:List (Fp p)),S.length<100000→ask O F25 [skD S]=some (D.int .i64 ((S.length:Int)-1))
theorem abb (hT:T F25=some Z25):L1 (den T A):=by
 intro p ip S hS;have w1:IntKind.i64.wrap ((S.length:Int)-1)=(S.length:Int)-1:=w64 (by omega)
 refine bi hT rfl ?_;simp -implicitDefEqProofs [Z25,Z25_B,w1]
noncomputable def pd8 {p:Int} (S:List (Fp p)):List (Fp p):=S++List.replicate (8-S.length) 0
theorem Vn {O:ah} (hpo:Hq O) {p:Int} [IsP p] {S:List (Fp p)} (h8:S.length≤8) (hS:∀a∈S,a.len≤64) {b0:Blk}:∀(k i:Nat),i+k=S.length →
 dn O 0 (.loop ir_impl_toldSkew_L0) ⟨[(2,.ptr 0 []),(4,.ptr 1 []),(11,.d (skD S)),(12,(.d (.int .i64 S.length))),(13,(.d (.int .i64 i)))],[b0,.box false (.arr 8 (.arr 64 .leaf) ((skP (pd8 (S.take i))).map aw))]⟩ =
  some (.exit 0,⟨[(2,.ptr 0 []),(4,.ptr 1 []),(11,.d (skD S)),(12,(.d (.int .i64 S.length))),(13,(.d (.int .i64 S.length))),(14,(.d (.bool false)))],[b0,.box false (.arr 8 (.arr 64 .leaf) ((skP (pd8 S)).map aw))]⟩)
 | 0,i,hi=>by
  obtain rfl:i=S.length:=by omega
  rw [jd];refine bt ?_;generalize (skP (pd8 S)).map aw=LD at *;simp -implicitDefEqProofs [ir_impl_toldSkew_L0,ac]
 | k+1,i,hi=>by
  have hlt:i<S.length:=by omega
  have hi8:i<8:=by omega
  have hm1:=bj hlt;have e1:=hpo p S[i] (hS _ hm1);have w4:IntKind.i64.wrap ((i:Int)+1)=((i+1:Nat):Int):=(w64 (x:=(i:Int)+1) (by omega)).trans (by omega)
  have hnew:(skP (pd8 (S.take (i+1)))).map aw=((skP (pd8 (S.take i))).map aw).set i (D.arr 64 .leaf (ab .u8 (pad (row S[i])))):=by
   have hp:pd8 (S.take (i+1))=(pd8 (S.take i)).set i S[i]:=by
    unfold pd8;have l1:(S.take i).length=i:=by rw [bq]; omega
    have l2:(S.take (i+1)).length=i+1:=by rw [bq]; omega
    rw [l1,l2,ou _ _ (by omega),l1,nz,show 8-i=(8-(i+1))+1 by omega,List.replicate_succ,List.set_cons_zero,dg hlt,gw]
    rfl
   rw [hp];unfold skP;rw [fg,fg]
  have hL:((skP (pd8 (S.take i))).map aw).length=8:=by
   rw [ap,ap];unfold pd8;rw [bk,ch,bq]; omega
  have hsh:∀h:i<((skP (pd8 (S.take i))).map aw).length,(((skP (pd8 (S.take i))).map aw)[i]'h).sh.beq (.arr 64 .leaf)=true:=fun h=>by rw [ca]; rfl
  have ih:=Vn hpo h8 hS (b0:=b0) k (i+1) (by omega)
  rw [hnew] at ih;refine bm ?_ ih;generalize (skP (pd8 (S.take i))).map aw=LD at *;generalize pad (row S[i])=Pi at *;simp -implicitDefEqProofs [ir_impl_toldSkew_L0,ac,hlt,hi8,hL,hsh,e1,w4]
noncomputable def Ct {p:Int} (S:List (Fp p)):D:=if S.length≤8 then .tup [da (skP (pd8 S)),(D.int .i64 0)] else .tup [da (skP (pd8 ([]:List (Fp p)))),(D.int .i64 3)]
theorem z8_eq {p:Int}:z8=(skP (pd8 ([]:List (Fp p)))).map aw:=by
 unfold pd8 skP;rw [eh,fu,fu,dq];rfl
def wt (O:ah):Prop:=∀(p:Int) [IsP p] (S:List (Fp p)),S.length<100000→(∀a∈S,a.len≤64)→ask O F29 [skD S]=some (Ct S)
theorem a8l (hT:T F29=some Z29) (hdg:L1 (den T A)) (hpo:Hq (den T A)):wt (den T A):=by
 intro p ip S hl hS;have e1:=hdg p S hl;unfold Ct;refine bi hT rfl ?_
 by_cases h8:S.length≤8
 ·rw [if_pos h8]
  have e2:=Vn (O:=den T A) hpo h8 hS (b0:=.box false (.arr 8 (.arr 64 .leaf) z8)) S.length 0 (bn _);have e00:((0:Nat):Int)=0:=rfl;rw [e00,ff,←z8_eq] at e2;have hlt:¬ ((7:Int)<(S.length:Int)-1):=by omega
  have hsk:da (skP (pd8 S))=.arr 8 (.arr 64 .leaf) ((skP (pd8 S)).map aw):=rfl;rw [hsk];have hsd:skD S=.sl .leaf (S.map fun c=>(D.sl .leaf (ab .i64 (row c)))):=rfl
  have hL:(S.map fun c=>(D.sl .leaf (ab .i64 (row c)))).length=S.length:=ap ..
  rw [hsd] at e1 e2 ⊢;generalize (skP (pd8 S)).map aw=LD at *;generalize (S.map fun c=>(D.sl .leaf (ab .i64 (row c))))=LR at *
  generalize (S.length:Int)-1=m1 at *;simp -implicitDefEqProofs [Z29,ir_impl_toldSkew_B,ac,e1,e2,hlt,hL,List.replicate]
 ·rw [if_neg h8]
  have hlt:(7:Int)<(S.length:Int)-1:=by omega
  have hsk:da (skP (pd8 ([]:List (Fp p))))=.arr 8 (.arr 64 .leaf) z8:=by rw [z8_eq (p:=p)]
  rw [hsk];have hsd:skD S=.sl .leaf (S.map fun c=>(D.sl .leaf (ab .i64 (row c)))):=rfl
  rw [hsd] at e1 ⊢;generalize (S.map fun c=>(D.sl .leaf (ab .i64 (row c))))=LR at *
  generalize (S.length:Int)-1=m1 at *;simp -implicitDefEqProofs [Z29,ir_impl_toldSkew_B,ac,e1,hlt,List.replicate]
end Pe

namespace Pe
open Go Gq
variable {T:Nat→Option Fn} {A:ah}
theorem a1d {p:Int} [IsP p] {m y:Fp p} (hm:m≠0) (hml:m.len≤64) (hy:y.len≤64) (k:Nat):(du m k y).len≤64:=by
 cases k with
 | zero=>exact hy
 | succ k=>
  have:=my hm k (pw y p.toNat%m) (Pol.len_mod _ hm);show (du m k (pw y p.toNat%m)).len≤64;omega
theorem acg {O:ah} (hfr:we O) (hpr:n6 O) (hco:rm O) {p:Int} [IsP p] {m x:Fp p} {a b:List (Fp p)} (h2:2≤m.len) (hml:m.len≤64) (hx:x.len≤64) (hb:∀c∈b,c.len≤64) {N i:Nat} (hN:N<100000) (hi:i+b.length≤N) {cp:Option Nat}:∀(r k:Nat) (Q:List (Fp p)),k+r=b.length→Q.length=N→(∀c∈Q,c.len≤64) →
 (∀c∈lf m x i k (b.drop k) Q,c.len≤64) ∧
 dn O 0 (.loop Zq_L0) ⟨[(2,.d (skD b)),(3,.ptr 0 []),(7,.sl 1 [] 0 N cp),(8,(.d (.int .i64 i))),(9,(.d (.sl .leaf (ab .i64 (row x))))),(27,.d (skD a)),(28,(.d (.int .i64 a.length))),(29,(.d (.int .i64 i))),(34,.d (skD b)),(35,(.d (.int .i64 b.length))),(36,(.d (.int .i64 k)))],[.box false (ka m),.sl false .leaf (Q.map fun c=>(D.sl .leaf (ab .i64 (row c))))]⟩ =
  some (.exit 2,⟨[(2,.d (skD b)),(3,.ptr 0 []),(7,.sl 1 [] 0 N cp),(8,(.d (.int .i64 i))),(9,(.d (.sl .leaf (ab .i64 (row x))))),(27,.d (skD a)),(28,(.d (.int .i64 a.length))),(29,(.d (.int .i64 i))),(34,.d (skD b)),(35,(.d (.int .i64 b.length))),(36,(.d (.int .i64 b.length))),(37,(.d (.bool false)))],[.box false (ka m),.sl false .leaf ((lf m x i k (b.drop k) Q).map fun c=>(D.sl .leaf (ab .i64 (row c))))]⟩)
 | 0,k,Q,hk,hq,hQ=>by
  obtain rfl:k=b.length:=by omega
  rw [ez];refine ⟨hQ,bt ?_⟩;show _=some (_,(⟨_,[_,.sl false .leaf (Q.map fun c=>(D.sl .leaf (ab .i64 (row c))))]⟩:St))
  generalize (Q.map fun c=>(D.sl .leaf (ab .i64 (row c))))=LQ at *
  simp -implicitDefEqProofs [Zq_L0,ac]
 | r+1,k,Q,hk,hq,hQ=>by
  have hm:m≠0:=fun h=>by rw [h,Pol.len_zero] at h2; omega
  have hlt:k<b.length:=by omega
  have hm1:=bj hlt;have hbk:=hb _ hm1;have hik:i+k<N:=by omega
  have hikQ:i+k<Q.length:=by omega
  have hq1:=hQ _ (bj hikQ);have w0:IntKind.i64.wrap ((i:Int)+k)=((i+k:Nat):Int):=(w64 (x:=(i:Int)+k) (by omega)).trans (by omega)
  have hs0:(0:Int)≤(i:Int)+k:=by omega
  have hs1:((i:Int)+k).toNat=i+k:=by omega
  have w4:IntKind.i64.wrap ((k:Int)+1)=((k+1:Nat):Int):=(w64 (x:=(k:Int)+1) (by omega)).trans (by omega)
  have e1:=hfr p m b[k] i h2 hml (by omega) (by omega)
  have hfl:=a1d hm hml hbk (i%(m.len-1));have e2:=hpr p m x (du m (i%(m.len-1)) b[k]) hm hml (by omega) (by omega)
  have hl:=Pol.len_mod (x*du m (i%(m.len-1)) b[k]) hm;have e3:=hco p Q[i+k] (x*du m (i%(m.len-1)) b[k]%m) (by omega) (by omega)
  have hl2:=Pol.len_add_le (a:=Q[i+k]) (b:=x*du m (i%(m.len-1)) b[k]%m) (n:=64) hq1 (by omega)
  have hadd:ig Q (i+k) (x*du m (i%(m.len-1)) b[k]%m)=Q.set (i+k) (Q[i+k]+x*du m (i%(m.len-1)) b[k]%m):=by
   unfold ig; rw [au hikQ]; rfl
  have hQ':∀c∈ig Q (i+k) (x*du m (i%(m.len-1)) b[k]%m),c.len≤64:=fun c hc=>by
   rw [hadd] at hc;rcases dh hc with h | rfl
   ·exact hQ c h
   ·exact hl2
  obtain ⟨g1,ih⟩:=acg hfr hpr hco (a:=a) h2 hml hx hb hN hi (cp:=cp) r (k+1) (ig Q (i+k) (x*du m (i%(m.len-1)) b[k]%m)) (by omega) (by rw [pr]; exact hq) hQ'
  have hby:lf m x i k (b.drop k) Q=lf m x i (k+1) (b.drop (k+1)) (ig Q (i+k) (x*du m (i%(m.len-1)) b[k]%m)):=by
   rw [bu hlt]; rfl
  rw [hby];refine ⟨g1,bm ?_ ih⟩
  have hset:((ig Q (i+k) (x*du m (i%(m.len-1)) b[k]%m)).map fun c=>(D.sl .leaf (ab .i64 (row c))))=(Q.map fun c=>(D.sl .leaf (ab .i64 (row c)))).set (i+k) (D.sl .leaf (ab .i64 (row (Q[i+k]+x*du m (i%(m.len-1)) b[k]%m)))):=by
   rw [hadd,fg]
  rw [hset];have hLQ:(Q.map fun c=>(D.sl .leaf (ab .i64 (row c)))).length=N:=by rw [ap]; exact hq
  have hx2:∀h:i+k<(Q.map fun c=>(D.sl .leaf (ab .i64 (row c)))).length,(Q.map fun c=>(D.sl .leaf (ab .i64 (row c))))[i+k]'h=(D.sl .leaf (ab .i64 (row Q[i+k]))):=fun h=>by rw [ca]
  generalize row (Q[i+k]+x*du m (i%(m.len-1)) b[k]%m)=R1 at *;generalize row (x*du m (i%(m.len-1)) b[k]%m)=R2 at *;generalize row (du m (i%(m.len-1)) b[k])=R3 at *;generalize row Q[i+k]=R4 at *;generalize (Q.map fun c=>(D.sl .leaf (ab .i64 (row c))))=LQ at *
  simp -implicitDefEqProofs [Zq_L0,ac,hlt,hik,hs0,hs1,hLQ,hx2,e1,e2,e3,w0,w4]
theorem ac7 {O:ah} (hfr:we O) (hpr:n6 O) (hco:rm O) {p:Int} [IsP p] {m:Fp p} {a b:List (Fp p)} (h2:2≤m.len) (hml:m.len≤64) (ha:∀c∈a,c.len≤64) (hb:∀c∈b,c.len≤64) {N:Nat} (hN:N<100000) (hab:a.length+b.length≤N+1) (hb1:1≤b.length) {cp:Option Nat}:∀(r i:Nat) (Q:List (Fp p)),i+r=a.length→Q.length=N→(∀c∈Q,c.len≤64) →
 (∀c∈ko m b i (a.drop i) Q,c.len≤64) ∧
 dn O 0 (.loop Zq_L1) ⟨[(2,.d (skD b)),(3,.ptr 0 []),(7,.sl 1 [] 0 N cp),(27,.d (skD a)),(28,(.d (.int .i64 a.length))),(29,(.d (.int .i64 i)))],[.box false (ka m),.sl false .leaf (Q.map fun c=>(D.sl .leaf (ab .i64 (row c))))]⟩ =
  some (.exit 0,⟨[(2,.d (skD b)),(3,.ptr 0 []),(7,.sl 1 [] 0 N cp),(27,.d (skD a)),(28,(.d (.int .i64 a.length))),(29,(.d (.int .i64 a.length))),(30,(.d (.bool false)))],[.box false (ka m),.sl false .leaf ((ko m b i (a.drop i) Q).map fun c=>(D.sl .leaf (ab .i64 (row c))))]⟩)
 | 0,i,Q,hi,hq,hQ=>by
  obtain rfl:i=a.length:=by omega
  rw [ez];refine ⟨hQ,bt ?_⟩;show _=some (_,(⟨_,[_,.sl false .leaf (Q.map fun c=>(D.sl .leaf (ab .i64 (row c))))]⟩:St))
  generalize (Q.map fun c=>(D.sl .leaf (ab .i64 (row c))))=LQ at *
  simp -implicitDefEqProofs [Zq_L1,ac]
 | r+1,i,Q,hi,hq,hQ=>by
  have hlt:i<a.length:=by omega
  have hm1:=bj hlt;have w4:IntKind.i64.wrap ((i:Int)+1)=((i+1:Nat):Int):=(w64 (x:=(i:Int)+1) (by omega)).trans (by omega)
  obtain ⟨g1,e1⟩:=acg hfr hpr hco (a:=a) h2 hml (ha _ hm1) hb hN (i:=i) (by omega) (cp:=cp) b.length 0 Q (bn _) hq hQ
  have e00:((0:Nat):Int)=0:=rfl;rw [e00,dc] at e1;rw [dc] at g1;obtain ⟨g2,ih⟩:=ac7 hfr hpr hco h2 hml ha hb hN hab hb1 (cp:=cp) r (i+1) (lf m a[i] i 0 b Q) (by omega) (by rw [lm]; exact hq) g1
  have hby:ko m b i (a.drop i) Q=ko m b (i+1) (a.drop (i+1)) (lf m a[i] i 0 b Q):=by
   rw [bu hlt]; rfl
  rw [hby];refine ⟨g2,bm ?_ ih⟩;generalize ((lf m a[i] i 0 b Q).map fun c=>(D.sl .leaf (ab .i64 (row c))))=LQ2 at *
  generalize (Q.map fun c=>(D.sl .leaf (ab .i64 (row c))))=LQ at *
  simp -implicitDefEqProofs [Zq_L1,ac,hlt,e1,w4]
noncomputable def rg {p:Int} [IsP p] (m:Fp p) (a b:List (Fp p)):List (Fp p):=ko m b 0 a (List.replicate (a.length+b.length-1) 0)
def afb (O:ah):Prop:=∀(p:Int) [IsP p] (m:Fp p) (a b:List (Fp p)),2≤m.len→m.len≤64→(∀c∈a,c.len≤64)→(∀c∈b,c.len≤64)→a.length<10000→b.length<10000 →
 ask O Fq [ka m,skD a,skD b]=some (if a.length=0∨b.length=0 then skD ([]:List (Fp p)) else skD (az (rg m a b)))
theorem alp (hT:T Fq=some Zq) (hfr:we (den T A)) (hpr:n6 (den T A)) (hco:rm (den T A)) (htr:Ay (den T A)):afb (den T A):=by
 intro p ip m a b h2 hml ha hb hal hbl;have hsa:skD a=.sl .leaf (a.map fun c=>(D.sl .leaf (ab .i64 (row c)))):=rfl
 have hsb:skD b=.sl .leaf (b.map fun c=>(D.sl .leaf (ab .i64 (row c)))):=rfl
 have hLa:(a.map fun c=>(D.sl .leaf (ab .i64 (row c)))).length=a.length:=ap ..
 have hLb:(b.map fun c=>(D.sl .leaf (ab .i64 (row c)))).length=b.length:=ap ..
 by_cases h0:a.length=0∨b.length=0
 ·rw [if_pos h0,hsa,hsb]
  refine bi hT rfl ?_;generalize (a.map fun c=>(D.sl .leaf (ab .i64 (row c))))=LA at *
  generalize (b.map fun c=>(D.sl .leaf (ab .i64 (row c))))=LB at *
  rcases h0 with h0 | h0
  ·rw [h0] at hLa
   simp -implicitDefEqProofs [Zq,Zq_B,ac,hLa,List.replicate]
  ·rw [h0] at hLb
   by_cases h1:LA.length=0
   ·simp -implicitDefEqProofs [Zq,Zq_B,ac,h1,List.replicate]
   ·simp -implicitDefEqProofs [Zq,Zq_B,ac,h1,hLb,List.replicate]
 ·rw [if_neg h0]
  have ha1:1≤a.length:=by omega
  have hb1:1≤b.length:=by omega
  have hz:((List.replicate (a.length+b.length-1) (0:Fp p)).map fun c=>(D.sl .leaf (ab .i64 (row c))))=List.replicate (a.length+b.length-1) (.sl .leaf []):=by rw [fu,dq,gy]
  have hl0:∀c∈List.replicate (a.length+b.length-1) (0:Fp p),c.len≤64:=fun c hc=>by rw [f7 hc,Pol.len_zero]; omega
  obtain ⟨g1,e1⟩:=ac7 (O:=den T A) hfr hpr hco h2 hml ha hb (N:=a.length+b.length-1) (by omega) (by omega) hb1 (cp:=some (a.length+b.length-1)) a.length 0 (List.replicate (a.length+b.length-1) 0) (bn _) (ch ..) hl0
  have e00:((0:Nat):Int)=0:=rfl;have em:ko m b 0 (a.drop 0) (List.replicate (a.length+b.length-1) 0)=rg m a b:=by rw [dc]; rfl
  rw [e00,em,hz] at e1;have hml2:(rg m a b).length=a.length+b.length-1:=by unfold rg; rw [ll,ch]
  have e2:=htr p (rg m a b) (by omega)
  have hsm:skD (rg m a b)=.sl .leaf ((rg m a b).map fun c=>(D.sl .leaf (ab .i64 (row c)))):=rfl
  have hLm:((rg m a b).map fun c=>(D.sl .leaf (ab .i64 (row c)))).length=a.length+b.length-1:=by rw [ap]; exact hml2
  have ht:((rg m a b).map fun c=>(D.sl .leaf (ab .i64 (row c)))).take (a.length+b.length-1)=((rg m a b).map fun c=>(D.sl .leaf (ab .i64 (row c)))):=bb (by omega)
  rw [hsm] at e2;have n1:¬ ((a.length:Int)=0):=by omega
  have n2:¬ ((b.length:Int)=0):=by omega
  have n1':a.length≠0:=by omega
  have n2':b.length≠0:=by omega
  have w1:IntKind.i64.wrap ((a.length:Int)+b.length)=(a.length:Int)+b.length:=w64 (by omega)
  have w2:IntKind.i64.wrap ((a.length:Int)+b.length-1)=((a.length+b.length-1:Nat):Int):=(w64 (by omega)).trans (by omega)
  have h24:(a.length+b.length-1)*24≤1099511627776:=by omega
  generalize skD (az (rg m a b))=TD at *;rw [hsa,hsb] at e1 ⊢;refine bi hT rfl ?_;generalize ((rg m a b).map fun c=>(D.sl .leaf (ab .i64 (row c))))=LM at *
  generalize (a.map fun c=>(D.sl .leaf (ab .i64 (row c))))=LA at *
  generalize (b.map fun c=>(D.sl .leaf (ab .i64 (row c))))=LB at *
  generalize a.length+b.length-1=N at *;simp -implicitDefEqProofs [Zq,Zq_B,ac,hLa,hLb,n1',n2',w1,w2,h24,e1,e2,hLm,ht,List.replicate]
end Pe

namespace Pe
open Go Gq
variable {T:Nat→Option Fn} {A:ah}
theorem S4 {p:Int} {S:List (Fp p)} {i:Nat} (hi:i<S.length):∀h:i<((skP S).map aw).length,((skP S).map aw)[i]'h=(D.arr 64 .leaf (ab .u8 (pad (row S[i])))):=fun h=>by rw [ca,ca]
theorem Sr {p:Int} (S:List (Fp p)):((skP S).map aw).length=S.length:=by rw [ap,ap]
theorem a4c {O:ah} (hfr:v6 O) (hmm:ki O) (had:ja O) {p:Int} [IsP p] {m:Fp p} {S R:List (Fp p)} {z:List D} {vn:V} (hvn:vn.refs=[]) (h2:2≤m.len) (hml:m.len≤64) (hS8:S.length=8) (hR8:R.length=8) (hS:∀c∈S,c.len<m.len) (hR:∀c∈R,c.len<m.len) {i nb:Nat} (hi:i<8) (hnb:i+nb≤8) (hnb1:1≤nb) {x:Fp p} (hx:S[i]? = some x):∀(r j:Nat) (Q:List (Fp p)),j+r=nb→Q.length=8→(∀c∈Q,c.len<m.len) →
 (∀c∈lf m x i j ((R.take nb).drop j) Q,c.len<m.len) ∧
 dn O 0 (.loop Z55_L0) ⟨[(0,(.d (.int .i64 p))),(5,.ptr 0 []),(6,.ptr 1 []),(7,.ptr 2 []),(8,.ptr 3 []),(10,vn),(11,(.d (.int .i64 (((nb-1:Nat):Int))))),(12,.ptr 4 []),(13,(.d (.int .i64 i))),(14,(.d (.int .i64 j)))],[.box false (D.arr 64 .leaf (ab .u8 (pad (row m)))),.box false (.arr 8 (.arr 64 .leaf) ((skP S).map aw)),.box false (.arr 8 (.arr 64 .leaf) ((skP R).map aw)),.box false (.arr 8 (.arr 64 .leaf) z),.box false (.arr 8 (.arr 64 .leaf) ((skP Q).map aw)),.hole]⟩ =
  some (.exit 2,⟨[(0,(.d (.int .i64 p))),(5,.ptr 0 []),(6,.ptr 1 []),(7,.ptr 2 []),(8,.ptr 3 []),(10,vn),(11,(.d (.int .i64 (((nb-1:Nat):Int))))),(12,.ptr 4 []),(13,(.d (.int .i64 i))),(14,(.d (.int .i64 nb))),(40,(.d (.bool false)))],[.box false (D.arr 64 .leaf (ab .u8 (pad (row m)))),.box false (.arr 8 (.arr 64 .leaf) ((skP S).map aw)),.box false (.arr 8 (.arr 64 .leaf) ((skP R).map aw)),.box false (.arr 8 (.arr 64 .leaf) z),.box false (.arr 8 (.arr 64 .leaf) ((skP (lf m x i j ((R.take nb).drop j) Q)).map aw)),.hole]⟩)
 | 0,j,Q,hj,hq,hQ=>by
  obtain rfl:j=nb:=by omega
  rw [ft (by rw [bq]; omega)]
  have hlt:¬ (j:Int)≤((j-1:Nat):Int):=by omega
  refine ⟨hQ,bt ?_⟩;show _=some (_,(⟨_,[_,_,_,_,.box false (.arr 8 (.arr 64 .leaf) ((skP Q).map aw)),_]⟩:St));generalize ((j-1:Nat):Int)=k1 at *;generalize (skP S).map aw=LS at *;generalize (skP R).map aw=LR at *;generalize (skP Q).map aw=LQ at *;generalize pad (row m)=Pm at *;simp -implicitDefEqProofs [Z55_L0,ac,hlt,hvn]
 | r+1,j,Q,hj,hq,hQ=>by
  have hm:m≠0:=fun h=>by rw [h,Pol.len_zero] at h2; omega
  have hj8:j<8:=by omega
  have hij:i+j<8:=by omega
  have hjR:j<R.length:=by omega
  have hiS:i<S.length:=by omega
  have hikQ:i+j<Q.length:=by omega
  have hRj:=hR _ (bj hjR);have hxe:S[i]=x:=by rw [au hiS] at hx; exact bc hx
  have hxl:x.len<m.len:=by rw [←hxe]; exact hS _ (bj hiS)
  have hq1:=hQ _ (bj hikQ);have hle:(j:Int)≤((nb-1:Nat):Int):=by omega
  have w0:IntKind.i64.wrap ((i:Int)+j)=((i+j:Nat):Int):=(w64 (x:=(i:Int)+j) (by omega)).trans (by omega)
  have hs0:(0:Int)≤(i:Int)+j:=by omega
  have hs1:((i:Int)+j).toNat=i+j:=by omega
  have w4:IntKind.i64.wrap ((j:Int)+1)=((j+1:Nat):Int):=(w64 (x:=(j:Int)+1) (by omega)).trans (by omega)
  have e1:=hfr p m R[j] i h2 hml (by omega) (by omega)
  have hfl:=my hm (i%(m.len-1)) R[j] hRj;have e2:=hmm p x (du m (i%(m.len-1)) R[j]) m hm hml (by omega) (by omega)
  have hl:=Pol.len_mod (x*du m (i%(m.len-1)) R[j]) hm;have e3:=had p 1 Q[i+j] (x*du m (i%(m.len-1)) R[j]%m) (by omega) (by omega) (by omega) (by omega)
  rw [t9,Pol.C_one,Gq.one_mul] at e3;have hl2:=Pol.len_add_le (a:=Q[i+j]) (b:=x*du m (i%(m.len-1)) R[j]%m) (n:=m.len-1) (by omega) (by omega)
  have hadd:ig Q (i+j) (x*du m (i%(m.len-1)) R[j]%m)=Q.set (i+j) (Q[i+j]+x*du m (i%(m.len-1)) R[j]%m):=by
   unfold ig; rw [au hikQ]; rfl
  have hQ':∀c∈ig Q (i+j) (x*du m (i%(m.len-1)) R[j]%m),c.len<m.len:=fun c hc=>by
   rw [hadd] at hc;rcases dh hc with h | rfl
   ·exact hQ c h
   ·omega
  obtain ⟨g1,ih⟩:=a4c hfr hmm had (z:=z) hvn h2 hml hS8 hR8 hS hR hi hnb hnb1 hx r (j+1) (ig Q (i+j) (x*du m (i%(m.len-1)) R[j]%m)) (by omega) (by rw [pr]; exact hq) hQ'
  have hby:lf m x i j ((R.take nb).drop j) Q=lf m x i (j+1) ((R.take nb).drop (j+1)) (ig Q (i+j) (x*du m (i%(m.len-1)) R[j]%m)):=by
   rw [bu (by rw [bq]; omega),ma]; rfl
  rw [hby];refine ⟨g1,bm ?_ ih⟩
  have hset:(skP (ig Q (i+j) (x*du m (i%(m.len-1)) R[j]%m))).map aw=((skP Q).map aw).set (i+j) (D.arr 64 .leaf (ab .u8 (pad (row (Q[i+j]+x*du m (i%(m.len-1)) R[j]%m))))):=by
   rw [hadd]; unfold skP; rw [fg,fg]
  rw [hset];have hLS:=Sr S;have hLR:=Sr R;have hLQ:=Sr Q;rw [hS8] at hLS;rw [hR8] at hLR;rw [hq] at hLQ;have hxS:=S4 hiS;rw [hxe] at hxS;have hxR:=S4 hjR;have hxQ:=S4 hikQ;generalize pad (row (Q[i+j]+x*du m (i%(m.len-1)) R[j]%m))=P1 at *;generalize pad (row (x*du m (i%(m.len-1)) R[j]%m))=P2 at *;generalize pad (row (du m (i%(m.len-1)) R[j]))=P3 at *;generalize pad (row Q[i+j])=P4 at *;generalize pad (row R[j])=P5 at *;generalize pad (row x)=P6 at *;generalize (skP S).map aw=LS at *;generalize (skP R).map aw=LR at *;generalize (skP Q).map aw=LQ at *;generalize pad (row m)=Pm at *;generalize ((nb-1:Nat):Int)=k1 at *;simp -implicitDefEqProofs [Z55_L0,ac,hle,hi,hj8,hij,hs0,hs1,hLS,hLR,hLQ,hxS,hxR,hxQ,e1,e2,e3,w0,w4,hvn]
end Pe

namespace Pe
open Go Gq
variable {T:Nat→Option Fn} {A:ah}
theorem a52 {O:ah} (hfr:v6 O) (hmm:ki O) (had:ja O) {p:Int} [IsP p] {m:Fp p} {S R:List (Fp p)} {z:List D} (h2:2≤m.len) (hml:m.len≤64) (hS8:S.length=8) (hR8:R.length=8) (hS:∀c∈S,c.len<m.len) (hR:∀c∈R,c.len<m.len) {na nb:Nat} (hna:1≤na) (hnb:1≤nb) (hab:na+nb≤9):∀(r i:Nat) (Q:List (Fp p)),i+r=na→Q.length=8→(∀c∈Q,c.len<m.len) →
 (∀c∈ko m (R.take nb) i ((S.take na).drop i) Q,c.len<m.len) ∧
 dn O 0 (.loop Z55_L1) ⟨[(0,(.d (.int .i64 p))),(5,.ptr 0 []),(6,.ptr 1 []),(7,.ptr 2 []),(8,.ptr 3 []),(10,(.d (.int .i64 (((na-1:Nat):Int))))),(11,(.d (.int .i64 (((nb-1:Nat):Int))))),(12,.ptr 4 []),(13,(.d (.int .i64 i)))],[.box false (D.arr 64 .leaf (ab .u8 (pad (row m)))),.box false (.arr 8 (.arr 64 .leaf) ((skP S).map aw)),.box false (.arr 8 (.arr 64 .leaf) ((skP R).map aw)),.box false (.arr 8 (.arr 64 .leaf) z),.box false (.arr 8 (.arr 64 .leaf) ((skP Q).map aw)),.hole]⟩ =
  some (.exit 0,⟨[(0,(.d (.int .i64 p))),(5,.ptr 0 []),(6,.ptr 1 []),(7,.ptr 2 []),(8,.ptr 3 []),(10,(.d (.int .i64 (((na-1:Nat):Int))))),(11,(.d (.int .i64 (((nb-1:Nat):Int))))),(12,.ptr 4 []),(13,(.d (.int .i64 na))),(35,(.d (.bool false)))],[.box false (D.arr 64 .leaf (ab .u8 (pad (row m)))),.box false (.arr 8 (.arr 64 .leaf) ((skP S).map aw)),.box false (.arr 8 (.arr 64 .leaf) ((skP R).map aw)),.box false (.arr 8 (.arr 64 .leaf) z),.box false (.arr 8 (.arr 64 .leaf) ((skP (ko m (R.take nb) i ((S.take na).drop i) Q)).map aw)),.hole]⟩)
 | 0,i,Q,hi,hq,hQ=>by
  obtain rfl:i=na:=by omega
  rw [ft (by rw [bq]; omega)]
  have hlt:¬ (i:Int)≤((i-1:Nat):Int):=by omega
  refine ⟨hQ,bt ?_⟩;show _=some (_,(⟨_,[_,_,_,_,.box false (.arr 8 (.arr 64 .leaf) ((skP Q).map aw)),_]⟩:St));generalize ((i-1:Nat):Int)=k1 at *;generalize ((nb-1:Nat):Int)=k2 at *;generalize (skP S).map aw=LS at *;generalize (skP R).map aw=LR at *;generalize (skP Q).map aw=LQ at *;generalize pad (row m)=Pm at *;simp -implicitDefEqProofs [Z55_L1,ac,hlt]
 | r+1,i,Q,hi,hq,hQ=>by
  have hin:i<(S.take na).length:=by rw [bq]; omega
  have hiS:i<S.length:=by omega
  have hle:(i:Int)≤((na-1:Nat):Int):=by omega
  have w4:IntKind.i64.wrap ((i:Int)+1)=((i+1:Nat):Int):=(w64 (x:=(i:Int)+1) (by omega)).trans (by omega)
  obtain ⟨g1,e1⟩:=a4c (O:=O) hfr hmm had (z:=z) (vn:=(.d (.int .i64 (((na-1:Nat):Int))))) rfl h2 hml hS8 hR8 hS hR (i:=i) (nb:=nb) (by omega) (by omega) hnb (x:=S[i]) (au hiS) nb 0 Q (bn _) hq hQ
  have e00:((0:Nat):Int)=0:=rfl;rw [e00,dc] at e1;rw [dc] at g1;obtain ⟨g2,ih⟩:=a52 hfr hmm had (z:=z) h2 hml hS8 hR8 hS hR hna hnb hab r (i+1) (lf m S[i] i 0 (R.take nb) Q) (by omega) (by rw [lm]; exact hq) g1
  have hby:ko m (R.take nb) i ((S.take na).drop i) Q=ko m (R.take nb) (i+1) ((S.take na).drop (i+1)) (lf m S[i] i 0 (R.take nb) Q):=by
   rw [bu hin,ma]; rfl
  rw [hby];refine ⟨g2,bm ?_ ih⟩;generalize (skP (lf m S[i] i 0 (R.take nb) Q)).map aw=LQ2 at *;generalize (skP S).map aw=LS at *;generalize (skP R).map aw=LR at *;generalize (skP Q).map aw=LQ at *;generalize pad (row m)=Pm at *;generalize ((nb-1:Nat):Int)=k1 at *;generalize ((na-1:Nat):Int)=k2 at *;simp -implicitDefEqProofs [Z55_L1,ac,hle,e1,w4]
noncomputable def zs8 {p:Int}:List (Fp p):=List.replicate 8 0
noncomputable def Se {p:Int} [IsP p] (m:Fp p) (S R:List (Fp p)):D:=
 if (az S).length=0∨(az R).length=0 then .tup [da (skP (zs8 (p:=p))),(D.bool true)]
 else if 9<(az S).length+(az R).length then .tup [da (skP (zs8 (p:=p))),(D.bool false)]
 else .tup [da (skP (ko m (az R) 0 (az S) zs8)),(D.bool true)]
theorem T8 {p:Int} {S:List (Fp p)} (h:S.length=8):az S=S.take (stl S 8):=by unfold az; rw [h]
theorem Ec {p:Int} {S:List (Fp p)} (h:S.length=8):(az S).length=stl S 8:=by
 rw [T8 h,bq]; have:=Dl S 8; omega
def Ie (O:ah):Prop:=∀(p:Int) [IsP p] (m:Fp p) (S R:List (Fp p)),2≤m.len→m.len≤64→S.length=8→R.length=8→(∀c∈S,c.len<m.len)→(∀c∈R,c.len<m.len)→ask O F55 [(D.int .i64 p),(D.arr 64 .leaf (ab .u8 (pad (row m)))),da (skP S),da (skP R)]=some (Se m S R)
theorem a46 {p:Int}:(skP (zs8 (p:=p))).map aw=z8:=by
 unfold skP zs8;rw [fu,fu,dq];rfl
theorem a21 (hT:T F55=some Z55) (hdg:Eq (den T A)) (hfr:v6 (den T A)) (hmm:ki (den T A)) (had:ja (den T A)):Ie (den T A):=by
 intro p ip m S R h2 hml hS8 hR8 hS hR;have e1:=hdg p S hS8 (fun a ha=>by have:=hS a ha; omega)
 have e2:=hdg p R hR8 (fun a ha=>by have:=hR a ha; omega)
 unfold Se;rw [Ec hS8,Ec hR8,T8 hS8,T8 hR8];have l1:=Dl S 8;have l2:=Dl R 8;generalize stl S 8=na at *;generalize stl R 8=nb at *;have hskS:da (skP S)=.arr 8 (.arr 64 .leaf) ((skP S).map aw):=rfl;have hskR:da (skP R)=.arr 8 (.arr 64 .leaf) ((skP R).map aw):=rfl;have hskZ:da (skP (zs8 (p:=p)))=.arr 8 (.arr 64 .leaf) z8:=by rw [←a46 (p:=p)]
 have w1:IntKind.i64.wrap ((na:Int)-1+(nb-1))=(na:Int)-1+(nb-1):=w64 (by omega)
 rw [hskS] at e1 ⊢;rw [hskR] at e2 ⊢
 by_cases h0:na=0∨nb=0
 ·rw [if_pos h0,hskZ]
  refine bi hT rfl ?_;rcases h0 with rfl | rfl
  ·generalize (skP S).map aw=LS at *
   generalize (skP R).map aw=LR at *;generalize pad (row m)=Pm at *;simp -implicitDefEqProofs [Z55,Z55_B,ac,e1,e2,List.replicate]
  ·generalize (skP S).map aw=LS at *
   generalize (skP R).map aw=LR at *;generalize pad (row m)=Pm at *
   by_cases hn:na=0
   ·subst hn
    simp -implicitDefEqProofs [Z55,Z55_B,ac,e1,e2,List.replicate]
   ·have hlt:¬ ((na:Int)-1<0):=by omega
    have hlt2:na≠0:=hn;have hlt3:(1:Int)≤na:=by omega
    have hlt4:¬ ((na:Int)<1):=by omega
    simp -implicitDefEqProofs [Z55,Z55_B,ac,e1,e2,hlt,List.replicate]
 ·rw [if_neg h0]
  have a1:((na:Int)-1)=((na-1:Nat):Int):=by omega
  have a2:((nb:Int)-1)=((nb-1:Nat):Int):=by omega
  rw [a1,a2] at w1;rw [a1] at e1;rw [a2] at e2;have hn1:¬ ((na-1:Nat):Int)<0:=by omega
  have hn2:¬ ((nb-1:Nat):Int)<0:=by omega
  by_cases h9:9<na+nb
  ·rw [if_pos h9,hskZ]
   have hgt:(7:Int)<((na-1:Nat):Int)+((nb-1:Nat):Int):=by omega
   refine bi hT rfl ?_;generalize (skP S).map aw=LS at *;generalize (skP R).map aw=LR at *;generalize pad (row m)=Pm at *;generalize na-1=k1 at *;generalize nb-1=k2 at *;simp -implicitDefEqProofs [Z55,Z55_B,ac,e1,e2,w1,hgt,hn1,hn2,List.replicate]
  ·rw [if_neg h9]
   have hgt:¬ (7:Int)<((na-1:Nat):Int)+((nb-1:Nat):Int):=by omega
   obtain ⟨_,e3⟩:=a52 (O:=den T A) hfr hmm had (z:=z8) h2 hml hS8 hR8 hS hR (na:=na) (nb:=nb) (by omega) (by omega) (by omega) na 0 zs8 (bn _) rfl (fun c hc=>by rw [f7 hc,Pol.len_zero]; omega)
   have e00:((0:Nat):Int)=0:=rfl;rw [e00,dc,a46] at e3;have hskQ:da (skP (ko m (R.take nb) 0 (S.take na) zs8))=.arr 8 (.arr 64 .leaf) ((skP (ko m (R.take nb) 0 (S.take na) zs8)).map aw):=rfl;rw [hskQ];refine bi hT rfl ?_;generalize (skP (ko m (R.take nb) 0 (S.take na) zs8)).map aw=LQ at *;generalize (skP S).map aw=LS at *;generalize (skP R).map aw=LR at *;generalize pad (row m)=Pm at *;generalize na-1=k1 at *;generalize nb-1=k2 at *;simp -implicitDefEqProofs [Z55,Z55_B,ac,e1,e2,e3,w1,hgt,hn1,hn2,List.replicate]
section
variable {p:Int}
theorem Rj {Q:List (Fp p)} {n j:Nat} {v:Fp p} (h:n≠j):(ig Q n v)[j]? = Q[j]?:=by
 unfold ig; rw [ce h]
theorem a2s {Q Z:List (Fp p)} {n:Nat} {v:Fp p} (h:n<Q.length):ig (Q++Z) n v=ig Q n v++Z:=by
 unfold ig;rw [cd h,List.set_append_left _ _ h]
theorem Rd:pd8 ([]:List (Fp p))=zs8:=rfl
end
section
variable {p:Int} [IsP p]
theorem xm {m x:Fp p} {i n:Nat}:∀(k:Nat) (b Q:List (Fp p)),i+k+b.length≤n→(lf m x i k b Q)[n]? = Q[n]?
 | _,[],_,_=>rfl
 | k,y::ys,Q,h=>by
  rw [bv] at h;show (lf m x i (k+1) ys (ig Q (i+k) _))[n]? = _;rw [xm (k+1) ys _ (by omega),Rj (by omega)]
theorem zw {m:Fp p} {b:List (Fp p)} {n:Nat}:∀(i:Nat) (a Q:List (Fp p)),i+a.length+b.length≤n+1→(ko m b i a Q)[n]? = Q[n]?
 | _,[],_,_=>rfl
 | i,x::xs,Q,h=>by
  rw [bv] at h;show (ko m b (i+1) xs (lf m x i 0 b Q))[n]? = _;rw [zw (i+1) xs _ (by omega),xm 0 b Q (by omega)]
theorem Hx {m x y:Fp p} {i:Nat}:∀(k:Nat) (b Q:List (Fp p)),lf m x i k (b++[y]) Q=ig (lf m x i k b Q) (i+(k+b.length)) (x*du m (i%(m.len-1)) y%m)
 | _,[],_=>rfl
 | k,z::zs,Q=>by
  show lf m x i (k+1) (zs++[y]) (ig Q (i+k) _)=ig (lf m x i (k+1) zs (ig Q (i+k) _)) _ _;rw [Hx (k+1) zs,bv,show i+(k+1+zs.length)=i+(k+(zs.length+1)) by omega]
theorem Ds {m x:Fp p} {b:List (Fp p)}:∀(i:Nat) (a Q:List (Fp p)),ko m b i (a++[x]) Q=lf m x (i+a.length) 0 b (ko m b i a Q)
 | _,[],_=>rfl
 | i,z::zs,Q=>by
  show ko m b (i+1) (zs++[x]) (lf m z i 0 b Q)=lf m x _ 0 b (ko m b (i+1) zs (lf m z i 0 b Q));rw [Ds (i+1) zs,bv,show i+1+zs.length=i+(zs.length+1) by omega]
theorem Vg {m x:Fp p} {i:Nat} {Z:List (Fp p)}:∀(k:Nat) (b Q:List (Fp p)),i+k+b.length≤Q.length→lf m x i k b (Q++Z)=lf m x i k b Q++Z
 | _,[],_,_=>rfl
 | k,y::ys,Q,h=>by
  rw [bv] at h;show lf m x i (k+1) ys (ig (Q++Z) (i+k) _)=lf m x i (k+1) ys (ig Q (i+k) _)++Z;rw [a2s (by omega),Vg (k+1) ys _ (by rw [pr]; omega)]
theorem Ot {m:Fp p} {b Z:List (Fp p)}:∀(i:Nat) (a Q:List (Fp p)),i+a.length+b.length≤Q.length+1→ko m b i a (Q++Z)=ko m b i a Q++Z
 | _,[],_,_=>rfl
 | i,x::xs,Q,h=>by
  rw [bv] at h;show ko m b (i+1) xs (lf m x i 0 b (Q++Z))=ko m b (i+1) xs (lf m x i 0 b Q)++Z;rw [Vg 0 b Q (by omega),Ot (i+1) xs _ (by rw [lm]; omega)]
theorem Wa {m x y:Fp p} (hi:Irr m) (hx:x≠0) (hxl:x.len<m.len) (hy:y≠0) (hyl:y.len<m.len):x*y%m≠0:=fun h=>by
 rcases hi.prime ((A1 hi.ne).2 h) with h | h
 ·have:=Dv.len h hx; omega
 ·have:=Dv.len h hy; omega
theorem Gb {m:Fp p} (hm:Fld m):∀(k:Nat) (y:Fp p),y≠0→y.len<m.len→du m k y≠0
 | 0,_,h,_=>h
 | k+1,y,h,hl=>by
  obtain ⟨h1,h2⟩:=aes hm h hl p.toNat;exact Gb hm k _ h1 h2
end
section
variable {p:Int}
theorem Vw {S:List (Fp p)}:∀(n k:Nat),stl S n=k+1→S[k]? ≠ some 0
 | 0,k,h=>by cases h
 | n+1,k,h=>by
  unfold stl at h
  split at h
  ·exact Vw n k h
  ·rename_i h0
   obtain rfl:n=k:=by omega
   exact h0
theorem a94 {S:List (Fp p)} {n:Nat} (h:S[n]? ≠ some 0):stl S (n+1)=n+1:=by
 unfold stl; rw [if_neg h]
theorem Wr {S:List (Fp p)} (h:(az S).length≠0):∃a x,az S=a++[x]∧x≠0:=by
 have hle:=Dl S S.length;have hl:(az S).length=stl S S.length:=by unfold az; rw [bq]; omega
 obtain ⟨k,hk⟩:∃k,stl S S.length=k+1:=⟨stl S S.length-1,by omega⟩
 have h1:=Vw _ _ hk;have hlt:k<S.length:=by omega
 rw [au hlt] at h1;refine ⟨S.take k,S[k],?_,fun h=>h1 (by rw [h])⟩
 unfold az;rw [hk,dg hlt]
theorem a1j {S:List (Fp p)} {n:Nat} (hl:S.length=n+1) (h:S[n]? ≠ some 0):az S=S:=by
 unfold az;rw [hl,a94 h,←hl,jd]
end
section
variable {p:Int} [IsP p]
theorem Vr {m x y:Fp p} (hm:Fld m) {a b:List (Fp p)} (hx:x≠0) (hxl:x.len<m.len) (hy:y≠0) (hyl:y.len<m.len):az (rg m (a++[x]) (b++[y]))=rg m (a++[x]) (b++[y]):=by
 have hl:(rg m (a++[x]) (b++[y])).length=a.length+b.length+1:=by
  unfold rg;rw [ll,ch,bk,bk];simp only [bv,cw]; omega
 refine a1j hl ?_;have hfy:du m (a.length%(m.len-1)) y≠0:=Gb hm _ y hy hyl;have hfl:=my hm.mon.2 (a.length%(m.len-1)) y hyl;have hne:=Wa hm.irr hx hxl hfy hfl;unfold rg;rw [Ds,Hx];unfold ig;rw [xm _ _ _ (by omega),zw _ _ _ (by rw [bk,bv,cw]; omega)]
 have hN:0+a.length+(0+b.length)=a.length+b.length:=by omega
 rw [hN,c9 (by rw [lm,ll,ch,bk,bk]; simp only [bv,cw]; omega)]
 rw [gk,if_pos (by rw [bk,bk]; simp only [bv,cw]; omega)]
 show some ((0:Fp p)+_)≠some 0;rw [Gq.zero_add,show 0+a.length=a.length by omega]
 exact fun h=>hne (bc h)
noncomputable def ee (m:Fp p) (a b:List (Fp p)):List (Fp p):=if a.length=0∨b.length=0 then [] else az (rg m a b)
theorem a6g {m:Fp p} {a b:List (Fp p)} (ha:1≤a.length) (hb:1≤b.length) (h:a.length+b.length≤9):pd8 (rg m a b)=ko m b 0 a zs8:=by
 unfold pd8 rg zs8;rw [ll,ch,←Ot _ _ _ (by rw [ch]; omega),List.replicate_append_replicate,show a.length+b.length-1+(8-(a.length+b.length-1))=8 by omega]
end
end Pe

namespace Pe
open Go Gq
variable {T:Nat→Option Fn} {A:ah}
section
variable {p:Int} [IsP p]
theorem X0 {N n:Nat} {Q:List (Fp p)} {v:Fp p} (hQ:∀c∈Q,c.len≤N) (hv:v.len≤N):∀c∈ig Q n v,c.len≤N:=fun c hc=>by
 unfold ig at hc;rcases dh hc with h | rfl
 ·exact hQ c h
 ·refine Pol.len_add_le ?_ hv
  cases he:Q[n]? with
  | none=>show (0:Fp p).len≤N; rw [Pol.len_zero]; omega
  | some w=>exact hQ w (jk he)
end
def a6k (p:Int) (l:List Int) (ls ks:List (List Int)):Prop:=∃(_:IsP p) (m:Fp p),l=pad (row m)∧Fld m∧oq m ls∧oq m ks
theorem wq:da (List.replicate 8 (pad []))=.arr 8 (.arr 64 .leaf) z8:=rfl
theorem o9 {p:Int} {l:List Int} {ls ks:List (List Int)}:eg p l [ls,ks]=0↔a6k p l ls ks:=by
 unfold eg;constructor
 ·intro h1
  split at h1
  ·rename_i g1
   obtain ⟨ip,m,e1,f1,s1⟩:=g1;exact ⟨ip,m,e1,f1,s1 _ (by simp),s1 _ (by simp)⟩
  ·cases h1
 ·rintro ⟨ip,m,e,f,s,r⟩
  refine if_pos ⟨ip,m,e,f,fun x hx=>?_⟩
  simp at hx;rcases hx with rfl | rfl
  ·exact s
  ·exact r
def Sh8 (ls:List (List Int)):Prop:=ls.length=8∧∀l∈ls,l.length=64
theorem abi {p:Int} {S:List (Fp p)} (h:S.length=8):Sh8 (skP S):=⟨by unfold skP; rw [ap]; exact h,fun l hl=>by
 obtain ⟨a,_,rfl⟩:=cj.1 hl;exact ck _⟩
theorem oz:Sh8 (List.replicate 8 (pad [])):=⟨rfl,fun l hl=>by rw [f7 hl]; rfl⟩
end Pe



namespace Pe
open Go Gq
variable {T:Nat→Option Fn} {A:ah}
abbrev z6:List Int:=List.replicate 6 0
section
variable {p:Int} [IsP p]
noncomputable def mono (p:Int) (i:Nat):Fp p:=jb p (p^i)
end
def Oa (p:Int) (l:List Int) (ls:List (List Int)):Prop:=∃(_:IsP p) (m:Fp p),l=pad (row m)∧Fld m∧oq m ls
theorem Ew {p:Int} {l:List Int} {ls:List (List Int)}:eg p l [ls]=0↔Oa p l ls:=by
 unfold eg;constructor
 ·intro h1
  split at h1
  ·rename_i g1
   obtain ⟨ip,m,e1,f1,s1⟩:=g1;exact ⟨ip,m,e1,f1,s1 _ (by simp)⟩
  ·cases h1
 ·rintro ⟨ip,m,e,f,s⟩
  exact if_pos ⟨ip,m,e,f,fun x hx=>by simp at hx; rw [hx]; exact s⟩
end Pe

namespace Pe
open Go Gq
variable {T:Nat→Option Fn} {A:ah}
section
variable {O:ah} {g:Nat} {first caps:List D}
structure CmpRow (O:ah) (g:Nat) (first caps:List D) (f:D→Int) (s:Sh) (cs:List D):Prop where
 nf:Aj first
 nc:Aj caps
 nx:Aj cs
 sh:D0 s cs
 ask:∀x∈cs,∀y∈cs,∃v:Int,ask O g (first++[x,y]++caps)=some (D.int .i64 v)∧(v<0↔f x<f y)
theorem CmpRow.perm {f:D→Int} {s:Sh} {cs ds:List D} (h:CmpRow O g first caps f s cs) (p:ds.Perm cs):CmpRow O g first caps f s ds:=
 ⟨h.nf,h.nc,fun x hx=>h.nx x (p.subset hx),fun x hx=>h.sh x (p.subset hx),fun x hx y hy=>h.ask x (p.subset hx) y (p.subset hy)⟩
theorem CmpRow.call {f:D→Int} {s:Sh} {cs:List D} (h:CmpRow O g first caps f s cs) {hp:Heap} {np:Nat} {news:List Nat} {x y:D} (hx:x∈cs) (hy:y∈cs) :
 ∃v:Int,Ef O np hp .flat news (g,first.map .d,caps.map .d) [.d x,.d y]=some (.d (D.int .i64 v),hp)∧(v<0↔f x<f y):=by
 have e:pq hp (first.map .d++[.d x,.d y]++caps.map .d)=some (first++[x,y]++caps):=
  xd hp (xd hp (oa hp h.nf) (oa hp (ds:=[x,y]) (by intro z hz; simp at hz; rcases hz with rfl | rfl; exact h.nx _ hx; exact h.nx _ hy))) (oa hp h.nc)
 obtain ⟨v,e1,e2⟩:=h.ask x hx y hy;refine ⟨v,?_,e2⟩;rw [E2,e,ae,Ng,e1,ae,Hd,show (D.int IntKind.i64 v).flat=true from rfl,if_pos rfl]
theorem a70 {f:D→Int} {n:Nat} {cp:Option Nat} (hn:n≤1000) {i:Nat}:∀(L:List D) (x:D) (R:List D),(L.reverse++x::R).length=n→CmpRow O g first caps f .leaf (L.reverse++x::R)→∃j:Int,
 dn O 1 (.loop ir_slices_insertionSortCmpFunc_impl_row_L0) ⟨[(0,.sl 0 [] 0 n cp),(1,(.d (.int .i64 0))),(2,(.d (.int .i64 n))),(3,.d (.fn g first caps)),(8,(.d (.int .i64 i))),(9,(.d (.int .i64 L.length)))],[.sl false .leaf (L.reverse++x::R)]⟩ =
  some (.exit 2,⟨[(0,.sl 0 [] 0 n cp),(1,(.d (.int .i64 0))),(2,(.d (.int .i64 n))),(3,.d (.fn g first caps)),(8,(.d (.int .i64 i))),(9,(.d (.int .i64 j))),(34,(.d (.bool false)))],[.sl false .leaf (yb f L x R)]⟩)
 | [],x,R,hl,ok=>by
  refine ⟨0,bt ?_⟩;simp -implicitDefEqProofs [ir_slices_insertionSortCmpFunc_impl_row_L0,ac,yb]
 | y::L,x,R,hl,ok=>by
  have hj:(y::L).length=L.length+1:=rfl;have hlen:((y::L).reverse++x::R).length=L.length+1+(R.length+1):=by simp; omega
  have e1:((y::L).reverse++x::R)[L.length+1]? = some x:=by
   rw [ci (by simp)]; simp
  have e2:((y::L).reverse++x::R)[L.length]? = some y:=by
   rw [cd (by simp)]; simp
  have m1:x∈(y::L).reverse++x::R:=by simp
  have m2:y∈(y::L).reverse++x::R:=by simp
  obtain ⟨cv,c,cneg⟩:=ok.call (hp:=[.sl false .leaf ((y::L).reverse++x::R)]) (np:=1) (news:=[]) m1 m2;have s1:=ok.sh x m1;have s2:=ok.sh y m2;have n1:=ok.nx x m1;have n2:=ok.nx y m2
  have e3:(((y::L).reverse++x::R).set (L.length+1) y).set L.length x=L.reverse++x::y::R:=by
   rw [ou _ _ (by simp),List.set_append_left _ _ (by simp)]
   simp
  have hp:((y::L).reverse++x::R).Perm (L.reverse++x::y::R):=by
   simp;exact (List.Perm.swap x y R).append_left _
  have w1:IntKind.i64.wrap (L.length:Int)=L.length:=w64 (by omega)
  have h0:(0:Int)<(L.length:Int)+1:=by omega
  have h00:(0:Int)≤(L.length:Int)+1:=by omega
  have h1:L.length+1<n:=by omega
  have h2:L.length<n:=by omega
  have h3:L.length<((y::L).reverse++x::R).length:=by omega
  have h4:L.length+1<((y::L).reverse++x::R).length:=by omega
  have e4:(((y::L).reverse++x::R).set (L.length+1) y)[L.length]? = some y:=by
   rw [ce (by omega),e2]
  unfold yb;rw [hj,show ((L.length+1:Nat):Int)=(L.length:Int)+1 by omega]
  generalize (y::L).reverse++x::R=cs at *;have e1':cs[L.length+1]=x:=by rw [au h4] at e1; exact bc e1
  have e2':cs[L.length]=y:=by rw [au h3] at e2; exact bc e2
  by_cases hlt:f x<f y
  ·rw [if_pos hlt]
   obtain ⟨j,e⟩:=a70 hn L x (y::R) (by rw [←hp.length_eq]; omega) (ok.perm hp.symm)
   have hc:=cneg.2 hlt;refine ⟨j,bm ?_ e⟩;simp -implicitDefEqProofs [ir_slices_insertionSortCmpFunc_impl_row_L0,ac,h0,h00,h1,h2,h3,h4,e1',e2',c,s1,s2,n1,n2,w1,hc,e3]
  ·rw [if_neg hlt]
   have hc:=mt cneg.1 hlt;refine ⟨(L.length:Int)+1,bt ?_⟩;simp -implicitDefEqProofs [ir_slices_insertionSortCmpFunc_impl_row_L0,ac,h0,h00,h1,h2,h3,h4,e1',e2',c,s1,s2,w1,hc]
end
theorem a5a {O:ah} {g:Nat} {first caps:List D} {f:D→Int} {n:Nat} {cp:Option Nat} (hn:n≤1000):∀(r P:List D),P.length+r.length=n→0<P.length→CmpRow O g first caps f .leaf (P++r) →
 dn O 1 (.loop ir_slices_insertionSortCmpFunc_impl_row_L1) ⟨[(0,.sl 0 [] 0 n cp),(1,(.d (.int .i64 0))),(2,(.d (.int .i64 n))),(3,.d (.fn g first caps)),(8,(.d (.int .i64 P.length)))],[.sl false .leaf (P++r)]⟩ =
  some (.exit 0,⟨[(0,.sl 0 [] 0 n cp),(1,(.d (.int .i64 0))),(2,(.d (.int .i64 n))),(3,.d (.fn g first caps)),(8,(.d (.int .i64 n))),(14,(.d (.bool false)))],[.sl false .leaf (Gm f P r)]⟩)
 | [],P,hl,hP,ok=>by
  have hl':P.length=n:=by simpa using hl
  refine bt ?_;simp -implicitDefEqProofs [ir_slices_insertionSortCmpFunc_impl_row_L1,ac,Gm,hl']
 | x::r,P,hl,hP,ok=>by
  simp at hl;have e0:P.reverse.reverse++x::r=P++x::r:=by simp
  obtain ⟨j,e⟩:=a70 (O:=O) (g:=g) (first:=first) (caps:=caps) (f:=f) (n:=n) (cp:=cp) hn (i:=P.length) P.reverse x r (by simp; omega) (by rw [e0]; exact ok)
  rw [e0,qf,←eh r,Mh,eh] at e;have hlen:=Ti f P.reverse x [];rw [qf,cw,kb] at hlen
  have hperm:(yb f P.reverse x []++r).Perm (P++x::r):=by
   refine (List.Perm.append_right r (za f P.reverse x [])).trans ?_;simp;exact List.perm_middle.symm
  have ih:=a5a (O:=O) (g:=g) (first:=first) (caps:=caps) (f:=f) (cp:=cp) hn r (yb f P.reverse x []) (by rw [hlen]; omega) (by omega) (ok.perm hperm)
  have hlt:P.length<n:=by omega
  have w1:IntKind.i64.wrap ((P.length:Int)+1)=((P.length+1:Nat):Int):=(w64 (x:=(P.length:Int)+1) (by omega)).trans (by omega)
  rw [hlen] at ih;unfold Gm;refine bm ?_ ih;simp -implicitDefEqProofs [ir_slices_insertionSortCmpFunc_impl_row_L1,ac,hlt,e,w1]
def a95 (O:ah) (F:Nat) (args:V→List V→List V):Prop:=∀(g:Nat) (first caps:List D) (f:D→Int) (cs:List D) (cp:Option Nat),cs.length≤12→CmpRow O g first caps f .leaf cs →
 ∃ds:List D,ds.Perm cs∧Asc f ds∧O F (args (.sl 0 [] 0 cs.length cp) [(.d (.int .i64 cs.length)),.d (.fn g first caps)]) [.sl false .leaf cs]=some (.tup [],[.sl false .leaf ds],[])
def Ek (O:ah):Prop:=a95 O F2x fun s l=>[s,(.d (.int .i64 0))]++l
theorem a44 (hT:T F2x=some Z2x):Ek (den T A):=by
 intro g first caps f cs cp hl ok;cases cs with
 | nil=>
  refine ⟨[],.refl _,List.Pairwise.nil,jh hT rfl ?_⟩;have st:=bt (O:=den T A) (np:=1) (c:=ir_slices_insertionSortCmpFunc_impl_row_L1) (s:=⟨[(0,.sl 0 [] 0 0 cp),(1,(.d (.int .i64 0))),(2,(.d (.int .i64 0))),(3,.d (.fn g first caps)),(8,(.d (.int .i64 1)))],[.sl false .leaf []]⟩) (s1:=⟨[(0,.sl 0 [] 0 0 cp),(1,(.d (.int .i64 0))),(2,(.d (.int .i64 0))),(3,.d (.fn g first caps)),(8,(.d (.int .i64 1))),(14,(.d (.bool false)))],[.sl false .leaf []]⟩) (id:=0) (by simp -implicitDefEqProofs [ir_slices_insertionSortCmpFunc_impl_row_L1,ac])
  have w1:IntKind.i64.wrap 1=1:=w64 (by omega)
  simp -implicitDefEqProofs [Z2x,ir_slices_insertionSortCmpFunc_impl_row_B,st,w1]
 | cons x r=>
  have e:=a5a (O:=den T A) (g:=g) (first:=first) (caps:=caps) (f:=f) (n:=(x::r).length) (cp:=cp) (by omega) r [x] (by simp; omega) (by simp) ok
  have e1:(([x]:List D).length:Int)=1:=rfl;rw [e1] at e;refine ⟨Gm f [x] r,Hu f r [x],Na f r [x] (fc _ _),jh hT rfl ?_⟩;have w1:IntKind.i64.wrap 1=1:=w64 (by omega)
  rw [List.singleton_append] at e;generalize x::r=cs at *;simp -implicitDefEqProofs [Z2x,ir_slices_insertionSortCmpFunc_impl_row_B,e,w1]
theorem a80 (hT:T F3c=some Z3c) (hi:Ek (den T A)):∀(g:Nat) (first caps:List D) (f:D→Int) (cs:List D) (cp:Option Nat) (v:Int),cs.length≤12→CmpRow (den T A) g first caps f .leaf cs →
 ∃ds:List D,ds.Perm cs∧Asc f ds∧den T A F3c [.sl 0 [] 0 cs.length cp,(.d (.int .i64 0)),(.d (.int .i64 cs.length)),(.d (.int .i64 v)),.d (.fn g first caps)] [.sl false .leaf cs]=some (.tup [],[.sl false .leaf ds],[]):=by
 intro g first caps f cs cp v hl ok;obtain ⟨ds,h1,h2,e⟩:=hi g first caps f cs cp hl ok;refine ⟨ds,h1,h2,jh hT rfl ?_⟩;have w1:IntKind.i64.wrap (cs.length:Int)=cs.length:=w64 (by omega)
 have h12:(cs.length:Int)≤12:=by omega
 have lp:=lq (O:=den T A) (np:=1) (c:=ir_slices_pdqsortCmpFunc_impl_row_L0) (s:=⟨[(0,.sl 0 [] 0 cs.length cp),(1,(.d (.int .i64 0))),(2,(.d (.int .i64 cs.length))),(3,(.d (.int .i64 v))),(4,.d (.fn g first caps)),(10,(.d (.bool true))),(11,(.d (.bool true)))],[.sl false .leaf cs]⟩) (s1:=⟨[],[.sl false .leaf ds]⟩) (by
  simp at e;simp -implicitDefEqProofs [ir_slices_pdqsortCmpFunc_impl_row_L0,ac,w1,h12,e,List.idxOf,List.findIdx,List.findIdx.go])
 simp -implicitDefEqProofs [Z3c,ir_slices_pdqsortCmpFunc_impl_row_B,lp]
def C8 (O:ah):Prop:=∀(g:Nat) (first caps:List D) (f:D→Int) (cs:List D) (cp:Option Nat),cs.length≤12→CmpRow O g first caps f .leaf cs →
 ∃ds:List D,ds.Perm cs∧Asc f ds∧O F2p [.sl 0 [] 0 cs.length cp,.d (.fn g first caps)] [.sl false .leaf cs]=some (.tup [],[.sl false .leaf ds],[])
theorem a2b (hT:T F2p=some Z2p) (hTp:T F3c=some Z3c) (hi:Ek (den T A)) (hl:zj (den T A) F2e):C8 (den T A):=by
 intro g first caps f cs cp hl12 ok;obtain ⟨v,ev⟩:=hl cs.length hl12;obtain ⟨ds,h1,h2,e⟩:=a80 hTp hi g first caps f cs cp v hl12 ok;refine ⟨ds,h1,h2,jh hT rfl ?_⟩
 have w1:IntKind.u64.wrap (cs.length:Int)=cs.length:=by
  simp [IntKind.wrap,IntKind.bits,IntKind.signed]; omega
 simp -implicitDefEqProofs [Z2p,ir_slices_SortFunc_impl_row_impl_row_B,w1,ev,e,List.idxOf,List.findIdx,List.findIdx.go]
end Pe

namespace Pe
open Go Gq
variable {T:Nat→Option Fn} {A:ah}
section
variable {p:Int}
noncomputable def elim (a b:Fp p):Fp p:=b+Pol.C (-(b.c (a.len-1)))*a
noncomputable def df:List (Fp p)→Fp p→Fp p
 | [],a=>a
 | b::bs,a=>df bs (elim b a)
noncomputable def xf (a:Fp p):List (Fp p)→List (Fp p)
 | []=>[a]
 | b::bs=>if b.len<a.len then a::(b::bs).map (elim a) else elim a b::xf a bs
theorem vg (a:Fp p):∀L:List (Fp p),(xf a L).Perm (L.map (elim a)++[a])
 | []=>.refl _
 | b::bs=>by
  unfold xf
  split
  ·exact (List.perm_append_singleton a ((b::bs).map (elim a))).symm
  ·exact (vg a bs).cons _
theorem Ws {a:Fp p} {n:Nat} (h:a.len≤n):a.c n=0:=a.lt_len n h
theorem Nx (a b:Fp p) (n:Nat):(elim a b).c n=b.c n + -(b.c (a.len-1))*a.c n:=by
 unfold elim; rw [Pol.c_add,Pol.c_Cmul]
theorem wh {a c:Fp p}:∀{L:List (Fp p)},c∈xf a L→c=a∨∃b∈L,c=elim a b:=fun {L} h=>by
 have:=(vg a L).subset h;rcases bp.1 this with h | h
 ·obtain ⟨b,hb,rfl⟩:=cj.1 h; exact .inr ⟨b,hb,rfl⟩
 ·exact .inl (by simpa using h)
noncomputable abbrev bw (a:Fp p):D:=(D.sl .leaf (ab .i64 (row a)))
def a8c:D→Int
 | .sl _ cs=>-(cs.length:Int)
 | _=>0
theorem G7 (a:Fp p):a8c (bw a)=-(a.len:Int):=by
 show -((ab .i64 (row a)).length:Int)=_;rw [Iq,cg]
theorem a3c {L M:List (Fp p)} (hp:M.Perm L) (hL:L.Pairwise fun x y=>y.len<x.len) (hM:M.Pairwise fun x y=>y.len≤x.len):M=L:=by
 refine List.Perm.eq_of_pairwise (le:=fun x y:Fp p=>y.len≤x.len) (fun a b ha hb h1 h2=>?_) hM (hL.imp fun h=>by omega) hp
 have ha':=hp.subset ha;have e:a.len=b.len:=Nat.le_antisymm h2 h1;clear h1 h2 hM
 induction L generalizing M with
 | nil=>cases hb
 | cons c L ih=>
  obtain ⟨g1,g2⟩:=ep.1 hL;rcases dk.1 ha' with rfl | ha1
  ·rcases dk.1 hb with rfl | hb1
   ·rfl
   ·have:=g1 b hb1; omega
  ·rcases dk.1 hb with rfl | hb1
   ·have:=g1 a ha1; omega
   ·exact ih (M:=L) (.refl _) g2 ha1 hb1 ha1
theorem Qi {n:Nat}:∀{L:List (Fp p)} {a:Fp p},(∀b∈L,b.len≤n)→(df L a).c n=a.c n
 | [],_,_=>rfl
 | b::L,a,h=>by
  show (df L (elim b a)).c n=_;rw [Qi (L:=L) (fun c hc=>h c (by simp [hc])),Nx,Ws (a:=b) (h b (by simp)),Gq.mul_zero,Gq.add_zero]
end
section
variable {p:Int} [IsP p]
structure Desc (N:Nat) (L:List (Fp p)):Prop where
 pw:L.Pairwise fun x y=>y.len<x.len
 mon:∀b∈L,Monic b
 le:∀b∈L,b.len≤N
theorem Desc.nil (N:Nat):Desc N ([]:List (Fp p)):=⟨List.Pairwise.nil,(fun _ h=>by cases h),(fun _ h=>by cases h)⟩
theorem Desc.tail {N:Nat} {b:Fp p} {L:List (Fp p)} (h:Desc N (b::L)):Desc N L∧∀c∈L,c.len<b.len:=
 ⟨⟨h.pw.tail,fun c hc=>h.mon c (by simp [hc]),fun c hc=>h.le c (by simp [hc])⟩,(ep.1 h.pw).1⟩
theorem Desc.length:∀{N:Nat} {L:List (Fp p)},Desc N L→L.length≤N
 | N,[],_=>kg _
 | N,b::L,h=>by
  obtain ⟨h1,h2⟩:=h.tail;have hb:=Pol.len_pos (h.mon b (by simp)).2
  have hle:=h.le b (by simp)
  have:=Desc.length (N:=b.len-1) ⟨h1.pw,h1.mon,fun c hc=>by have:=h2 c hc; omega⟩
  rw [bv]; omega
theorem v9 {N:Nat} {a b:Fp p} (ha:a.len≤N) (hb:b.len≤N):(elim a b).len≤N:=by
 unfold elim;refine Pol.len_add_le hb (Pol.len_le fun i hi=>?_)
 rw [Pol.c_Cmul,Ws (a:=a) (by omega),Gq.mul_zero]
theorem a0c {a:Fp p} (ha:Monic a) (b:Fp p):(elim a b).c (a.len-1)=0:=by
 rw [Nx,show a.c (a.len-1)=1 from ha.1,Gq.mul_one];exact Gq.add_neg _
theorem G2 {N:Nat}:∀{L:List (Fp p)} {a:Fp p},(∀b∈L,b.len≤N)→a.len≤N→(df L a).len≤N
 | [],_,_,ha=>ha
 | b::L,a,h,ha=>G2 (L:=L) (fun c hc=>h c (by simp [hc])) (v9 (h b (by simp)) ha)
theorem I8 {N:Nat}:∀{L:List (Fp p)} {a:Fp p},Desc N L→∀b∈L,(df L a).c (b.len-1)=0
 | b::L,a,h,c,hc=>by
  obtain ⟨h1,h2⟩:=h.tail;show (df L (elim b a)).c _=0;rcases dk.1 hc with rfl | hc
  ·rw [Qi (L:=L) (fun d hd=>by have:=h2 d hd; omega),a0c (h.mon c (by simp))]
  ·exact I8 h1 c hc
theorem Rp {N:Nat} {L:List (Fp p)} {a:Fp p} (h:Desc N L) (h0:df L a≠0):∀b∈L,b.len≠(df L a).len:=fun b hb e=>by
 have h1:=I8 (a:=a) h b hb;rw [e] at h1;exact Pol.ld_ne h0 h1
theorem Li {a b:Fp p} (hb:Monic b) (hne:b.len≠a.len):Monic (elim a b)∧(elim a b).len=b.len:=by
 have hbp:=Pol.len_pos hb.2;rcases dm b.len a.len with h | h
 ·have:elim a b=b:=by
   unfold elim;rw [Ws (by omega),qj,Pol.C_zero,Gq.zero_mul,Gq.add_zero]
  rw [this]; exact ⟨hb,rfl⟩
 ·have hc:(elim a b).c (b.len-1)=1:=by
   rw [Nx,Ws (a:=a) (by omega),Gq.mul_zero,Gq.add_zero]; exact hb.1
  have hl:(elim a b).len=b.len:=by
   have h1:(elim a b).len=(b.len-1)+1:=Pol.len_eq (Pol.lt_iff.2 (by
    rw [Nat.sub_add_cancel hbp]; exact v9 h (ba _))) (by rw [hc]; exact Fd.one_ne)
   omega
  refine ⟨⟨by unfold Pol.ld; rw [hl]; exact hc,fun h0=>?_⟩,hl⟩
  rw [h0,Pol.len_zero] at hl;omega
theorem Hj {N:Nat} {a:Fp p} (ha:Monic a) (hal:a.len≤N):∀{L:List (Fp p)},Desc N L→(∀b∈L,b.len≠a.len)→Desc N (xf a L)
 | [],_,_=>⟨fc _ _,fun b hb=>by simp [xf] at hb; rw [hb]; exact ha,fun b hb=>by simp [xf] at hb; rw [hb]; exact hal⟩
 | b::L,h,hne=>by
  obtain ⟨h1,h2⟩:=h.tail;have hall:∀c∈b::L,Monic (elim a c)∧(elim a c).len=c.len:=fun c hc=>Li (h.mon c hc) (hne c hc)
  refine ⟨?_,fun c hc=>?_,fun c hc=>?_⟩
  ·unfold xf
   split
   ·rename_i hlt
    refine ep.2 ⟨fun c hc=>?_,?_⟩
    ·obtain ⟨d,hd,rfl⟩:=cj.1 hc
     rw [(hall d hd).2];rcases dk.1 hd with rfl | hd
     ·exact hlt
     ·have:=h2 d hd; omega
    ·rw [ow]
     refine h.pw.imp_of_mem fun {x y} hx hy hxy=>?_
     rw [(hall x hx).2,(hall y hy).2]; exact hxy
   ·rename_i hge
    refine ep.2 ⟨fun c hc=>?_,(Hj ha hal h1 fun c hc=>hne c (by simp [hc])).pw⟩
    rw [(hall b (by simp)).2]
    rcases wh hc with rfl | ⟨d,hd,rfl⟩
    ·have:=hne b (by simp); omega
    ·rw [(hall d (by simp [hd])).2]; exact h2 d hd
  ·rcases wh hc with rfl | ⟨d,hd,rfl⟩
   ·exact ha
   ·exact (hall d hd).1
  ·rcases wh hc with rfl | ⟨d,hd,rfl⟩
   ·exact hal
   ·rw [(hall d hd).2]; exact h.le d hd
noncomputable def v7 (L:List (Fp p)) (x:Fp p):List (Fp p):=by
 classical exact if df L x=0 then L else xf (Gq.mon (df L x)) L
theorem tc {L:List (Fp p)} {x:Fp p} (h:df L x=0):v7 L x=L:=by unfold v7; rw [if_pos h]
theorem tv {L:List (Fp p)} {x:Fp p} (h:df L x≠0):v7 L x=xf (Gq.mon (df L x)) L:=by unfold v7; rw [if_neg h]
noncomputable def iw:List (Fp p)→List (Fp p)→List (Fp p)
 | [],L=>L
 | x::xs,L=>iw xs (v7 L x)
theorem zg {N:Nat} {L:List (Fp p)} {x:Fp p} (h:Desc N L) (hx:x.len≤N):Desc N (v7 L x):=by
 by_cases h0:df L x=0
 ·rw [tc h0]; exact h
 ·rw [tv h0]
  exact Hj (oe h0) (by rw [u9 h0]; exact G2 h.le hx) h fun b hb=>by rw [u9 h0]; exact Rp h h0 b hb
theorem Dz {N:Nat}:∀{xs L:List (Fp p)},Desc N L→(∀x∈xs,x.len≤N)→Desc N (iw xs L)
 | [],_,h,_=>h
 | x::xs,L,h,hx=>Dz (xs:=xs) (zg h (hx x (by simp))) fun y hy=>hx y (by simp [hy])
end
section
variable {p:Int}
theorem a45 {a:Fp p} {L:List (Fp p)} {ds:List D} (hd:(xf a L).Pairwise fun x y=>y.len<x.len) (hp:ds.Perm ((L.map (elim a)++[a]).map bw)) (hs:Asc a8c ds):ds=(xf a L).map bw:=by
 obtain ⟨M,p1,p2⟩:=Iz bw hp.symm (L.map (elim a)++[a]) rfl;subst p2
 have:M=xf a L:=a3c (p1.trans (vg a L).symm) hd (by
  unfold Asc at hs;rw [ow] at hs;exact hs.imp fun h=>by rw [G7,G7] at h; omega)
 rw [this]
end
end Pe

namespace Pe
open Go Gq
variable {T:Nat→Option Fn} {A:ah}
section
variable {p:Int} [IsP p]
theorem vm (x:Zp p):0≤rep x∧rep x≤7:=by
 have h1:=kl x;have h2:=IsP.le (p:=p);omega
theorem a4y {O:ah} (hc:mg O) {a b:Fp p} (ha:a.len≤64) (hb:b.len≤64):ask O F1b [(D.int .i64 p),(D.sl .leaf (ab .i64 (row b))),(D.sl .leaf (ab .i64 (row a))),(D.int .i64 (-rep (b.c (a.len-1))))]=some (D.sl .leaf (ab .i64 (row (elim a b)))):=by
 have h:=vm (b.c (a.len-1));have:=hc p (-rep (b.c (a.len-1))) b a (by omega) (by omega) (by omega) (by omega)
 rw [Bp,kq] at this;exact this
theorem a5u {O:ah} (hat:Ux O) (hc:mg O) {L:List (Fp p)} {N:Nat} (hN:N≤12) (hL:Desc N L) {xs:List D} {nx i:Int} {n:Nat} (hn:L.length=n) {cp cp2:Option Nat}:∀(r j:Nat) (a:Fp p),j+r=n→a.len≤N →
 dn O 0 (.loop Z1m_L0) ⟨[(0,(.d (.int .i64 p))),(5,.sl 0 [] 0 n cp),(7,(.d (.sl .leaf (ab .i64 (row a))))),(12,.d (.sl .leaf xs)),(13,(.d (.int .i64 nx))),(14,(.d (.int .i64 i))),(18,.sl 0 [] 0 n cp2),(19,(.d (.int .i64 n))),(20,(.d (.int .i64 j)))],[.sl false .leaf (L.map bw),.hole,.hole]⟩ =
  some (.exit 2,⟨[(0,(.d (.int .i64 p))),(5,.sl 0 [] 0 n cp),(7,(.d (.sl .leaf (ab .i64 (row (df (L.drop j) a)))))),(12,.d (.sl .leaf xs)),(13,(.d (.int .i64 nx))),(14,(.d (.int .i64 i))),(18,.sl 0 [] 0 n cp2),(19,(.d (.int .i64 n))),(20,(.d (.int .i64 n))),(21,(.d (.bool false)))],[.sl false .leaf (L.map bw),.hole,.hole]⟩)
 | 0,j,a,hj,ha=>by
  obtain rfl:j=n:=by omega
  rw [ft (by omega)]
  refine bt ?_;show _=some (_,(⟨[_,_,(7,(.d (.sl .leaf (ab .i64 (row a))))),_,_,_,_,_,_,_],_⟩:St));generalize L.map bw=LD at *;simp -implicitDefEqProofs [Z1m_L0,ac]
 | r+1,j,a,hj,ha=>by
  have hlt:j<L.length:=by omega
  have hll:=hL.length;have hjn:j<n:=by omega
  have hm:=bj hlt;have hbl:=hL.le _ hm;have hbp:=Pol.len_pos (hL.mon _ hm).2;have e1:=hat (row a) (L[j].len-1) (by omega)
  rw [gz] at e1;have e2:=a4y (O:=O) hc (a:=L[j]) (b:=a) (by omega) (by omega)
  have w1:IntKind.i64.wrap (((row L[j]).length:Int)-1)=((L[j].len-1:Nat):Int):=by rw [cg]; exact (w64 (by omega)).trans (by omega)
  have hr:=vm (a.c (L[j].len-1));have w2':IntKind.i64.wrap (-rep (a.c (L[j].len-1)))=-rep (a.c (L[j].len-1)):=w64 (by omega)
  have w4:IntKind.i64.wrap ((j:Int)+1)=((j+1:Nat):Int):=(w64 (x:=(j:Int)+1) (by omega)).trans (by omega)
  have hx:∀h:j<(L.map bw).length,(L.map bw)[j]'h=(D.sl .leaf (ab .i64 (row L[j]))):=fun h=>by rw [ca]
  have hLD:(L.map bw).length=n:=by rw [ap]; exact hn
  have hd:df (L.drop j) a=df (L.drop (j+1)) (elim L[j] a):=by rw [bu hlt]; rfl
  have hjl:(j:Int)<n:=by omega
  rw [hd];refine bm ?_ (a5u hat hc hN hL hn r (j+1) (elim L[j] a) (by omega) (v9 hbl ha))
  generalize rep (a.c (L[j].len-1))=k at *;generalize row (elim L[j] a)=R1 at *;generalize row a=R2 at *;generalize row L[j]=R3 at *;generalize L[j].len-1=d at *;generalize L.map bw=LD at *;simp -implicitDefEqProofs [Z1m_L0,ac,hjl,hjn,hLD,hx,e1,e2,w1,w2',w4]
theorem a5h {O:ah} (hat:Ux O) (hc:mg O) {a:Fp p} (ha:a≠0) (hal:a.len≤12) {xs:List D} {nx i:Int} {n:Nat} {cp cp2:Option Nat}:∀(r j:Nat) (Q:List (Fp p)),j+r=n→Q.length=n→(∀b∈Q,b.len≤12)→n≤12 →
 dn O 0 (.loop Z1m_L1) ⟨[(0,(.d (.int .i64 p))),(5,.sl 0 [] 0 n cp),(7,(.d (.sl .leaf (ab .i64 (row a))))),(12,.d (.sl .leaf xs)),(13,(.d (.int .i64 nx))),(14,(.d (.int .i64 i))),(45,.sl 0 [] 0 n cp2),(46,(.d (.int .i64 n))),(47,(.d (.int .i64 j)))],[.sl false .leaf (Q.map bw),.hole,.hole]⟩ =
  some (.exit 4,⟨[(0,(.d (.int .i64 p))),(5,.sl 0 [] 0 n cp),(7,(.d (.sl .leaf (ab .i64 (row a))))),(12,.d (.sl .leaf xs)),(13,(.d (.int .i64 nx))),(14,(.d (.int .i64 i))),(45,.sl 0 [] 0 n cp2),(46,(.d (.int .i64 n))),(47,(.d (.int .i64 n))),(48,(.d (.bool false)))],[.sl false .leaf ((Q.take j++(Q.drop j).map (elim a)).map bw),.hole,.hole]⟩)
 | 0,j,Q,hj,hq,hQ,hn=>by
  obtain rfl:j=n:=by omega
  have:Q.take j++(Q.drop j).map (elim a)=Q:=by rw [ft (by omega),bb (by omega)]; simp
  rw [this];refine bt ?_;generalize Q.map bw=LD at *;simp -implicitDefEqProofs [Z1m_L1,ac]
 | r+1,j,Q,hj,hq,hQ,hn=>by
  have hlt:j<Q.length:=by omega
  have hjn:j<n:=by omega
  have hm:=bj hlt;have hbl:=hQ _ hm;have hap:=Pol.len_pos ha;have e1:=hat (row Q[j]) (a.len-1) (by omega)
  rw [gz] at e1;have e2:=a4y (O:=O) hc (a:=a) (b:=Q[j]) (by omega) (by omega)
  have w1:IntKind.i64.wrap (((row a).length:Int)-1)=((a.len-1:Nat):Int):=by rw [cg]; exact (w64 (by omega)).trans (by omega)
  have hr:=vm (Q[j].c (a.len-1));have w2':IntKind.i64.wrap (-rep (Q[j].c (a.len-1)))=-rep (Q[j].c (a.len-1)):=w64 (by omega)
  have w4:IntKind.i64.wrap ((j:Int)+1)=((j+1:Nat):Int):=(w64 (x:=(j:Int)+1) (by omega)).trans (by omega)
  have hx:∀h:j<(Q.map bw).length,(Q.map bw)[j]'h=(D.sl .leaf (ab .i64 (row Q[j]))):=fun h=>by rw [ca]
  have hLD:(Q.map bw).length=n:=by rw [ap]; exact hq
  have hset:(Q.set j (elim a Q[j])).take (j+1)++((Q.set j (elim a Q[j])).drop (j+1)).map (elim a)=Q.take j++(Q.drop j).map (elim a):=by
   rw [List.drop_set_of_lt (by omega),dg (by rw [cr]; exact hlt),List.getElem_set_self,List.take_set,List.set_eq_of_length_le (by rw [bq]; omega),bu hlt,om,gw]
   rfl
  rw [←hset]
  refine bm ?_ (a5h hat hc ha hal r (j+1) (Q.set j (elim a Q[j])) (by omega) (by rw [cr]; exact hq) (fun b hb=>by
   rcases dh hb with h | rfl
   ·exact hQ b h
   ·exact v9 hal hbl) hn)
  have hms:(Q.set j (elim a Q[j])).map bw=(Q.map bw).set j (D.sl .leaf (ab .i64 (row (elim a Q[j])))):=fg;rw [hms];have hjl:(j:Int)<n:=by omega
  generalize rep (Q[j].c (a.len-1))=k at *;generalize row (elim a Q[j])=R1 at *;generalize row Q[j]=R2 at *;generalize row a=R3 at *;generalize a.len-1=d at *;generalize Q.map bw=LD at *;simp -implicitDefEqProofs [Z1m_L1,ac,hjl,hjn,hLD,hx,e1,e2,w1,w2',w4]
theorem Xj {O:ah} (hat:Ux O) (hc:mg O) (hld:xw O) (hinv:py O) (hsc:u4 O) (hsort:C8 O) (hcmp:∀L:List (Fp p),(∀x∈L,x.len≤1000)→CmpRow O F1n [] [] a8c .leaf (L.map bw)) {xs:List (Fp p)} {N:Nat} (hN:N≤11) (hxs:∀x∈xs,x.len≤N) (hxl:xs.length<2000000):∀(r i:Nat) (L:List (Fp p)) (cp:Option Nat),i+r=xs.length→Desc N L→∃cp':Option Nat,
 dn O 0 (.loop Z1m_L2) ⟨[(0,(.d (.int .i64 p))),(5,.sl 0 [] 0 L.length cp),(12,.d (.sl .leaf (xs.map bw))),(13,(.d (.int .i64 xs.length))),(14,(.d (.int .i64 i)))],[.sl false .leaf (L.map bw),.hole,.hole]⟩ =
  some (.exit 0,⟨[(0,(.d (.int .i64 p))),(5,.sl 0 [] 0 (iw (xs.drop i) L).length cp'),(12,.d (.sl .leaf (xs.map bw))),(13,(.d (.int .i64 xs.length))),(14,(.d (.int .i64 xs.length))),(15,(.d (.bool false)))],[.sl false .leaf ((iw (xs.drop i) L).map bw),.hole,.hole]⟩)
 | 0,i,L,cp,hi,hL=>by
  obtain rfl:i=xs.length:=by omega
  rw [ez];refine ⟨cp,bt ?_⟩;show _=some (_,(⟨[_,(5,.sl 0 [] 0 L.length cp),_,_,_,_],[.sl false .leaf (L.map bw),_,_]⟩:St));generalize L.map bw=LD at *;generalize xs.map bw=XD at *;simp -implicitDefEqProofs [Z1m_L2,ac]
 | r+1,i,L,cp,hi,hL=>by
  have hlt:i<xs.length:=by omega
  have hm:=bj hlt;have hxi:=hxs _ hm;have hll:=hL.length;have hd:iw (xs.drop i) L=iw (xs.drop (i+1)) (v7 L xs[i]):=by rw [bu hlt]; rfl
  have hx:∀h:i<(xs.map bw).length,(xs.map bw)[i]'h=(D.sl .leaf (ab .i64 (row xs[i]))):=fun h=>by rw [ca]
  have hXD:(xs.map bw).length=xs.length:=ap ..;have hLD:(L.map bw).length=L.length:=ap ..;have w4:IntKind.i64.wrap ((i:Int)+1)=((i+1:Nat):Int):=(w64 (x:=(i:Int)+1) (by omega)).trans (by omega)
  have e0:=a5u (O:=O) hat hc (by omega) hL (xs:=xs.map bw) (nx:=xs.length) (i:=i) rfl (cp:=cp) (cp2:=cp) L.length 0 xs[i] (bn _) hxi
  have e00:((0:Nat):Int)=0:=rfl;rw [e00,dc] at e0;have hrl:=G2 (L:=L) hL.le hxi;rw [hd]
  by_cases h0:df L xs[i]=0
  ·rw [tc h0]
   obtain ⟨cp',ih⟩:=Xj hat hc hld hinv hsc hsort hcmp hN hxs hxl r (i+1) L cp (by omega) hL
   refine ⟨cp',bm ?_ ih⟩;rw [h0,dq] at e0;generalize row xs[i]=R1 at *;generalize L.map bw=LD at *;generalize xs.map bw=XD at *;simp -implicitDefEqProofs [Z1m_L2,ac,hlt,hXD,hx,e0,w4,gy]
  ·have hap:=Pol.len_pos h0
   have hml:=u9 h0;have hmm:=oe h0;have hld0:=Pol.ld_ne h0;have hri:=kl (df L xs[i]).ld;have hp7:=IsP.le (p:=p);have hp2:=IsP.ge (p:=p);have hr0:rep (df L xs[i]).ld≠0:=fun h=>hld0 (g7.1 h)
   have e2:=hld (row (df L xs[i])) (by rw [cg]; omega)
   rw [H7] at e2;have e3:=hinv p (rep (df L xs[i]).ld) (by omega) (by omega) (by omega) (by omega)
   have hin:=y9 (p:=p) (rep (df L xs[i]).ld);have e4:=hsc p (inv p (rep (df L xs[i]).ld)) (df L xs[i]) (by omega) (by omega) (by omega)
   rw [uc _ hld0,show Pol.C (Fd.inv (df L xs[i]).ld)*df L xs[i]=Gq.mon (df L xs[i]) from rfl] at e4;have e5:=a5h (O:=O) hat hc hmm.2 (by omega) (xs:=xs.map bw) (nx:=xs.length) (i:=i) (n:=L.length) (cp:=cp) (cp2:=cp) L.length 0 L (bn _) rfl (fun b hb=>by have:=hL.le b hb; omega) (by omega)
   rw [e00,ff,eh,dc] at e5;have hne:∀b∈L,b.len≠(Gq.mon (df L xs[i])).len:=fun b hb=>by rw [hml]; exact Rp hL h0 b hb
   have hins:=Hj hmm (by omega) hL hne
   obtain ⟨ds,s1,s2,s3⟩:=hsort F1n [] [] a8c ((L.map (elim (Gq.mon (df L xs[i])))++[Gq.mon (df L xs[i])]).map bw) none (by rw [ap,bk,ap,f0]; omega) (hcmp _ fun x hx=>by
    rcases bp.1 hx with h | h
    ·obtain ⟨b,hb,rfl⟩:=cj.1 h
     have:=v9 (N:=N) (a:=Gq.mon (df L xs[i])) (by omega) (hL.le b hb)
     omega
    ·obtain rfl:x=_:=by simpa using h
     omega)
   rw [a45 hins.pw s1 s2] at s3;have hpl:=(vg (Gq.mon (df L xs[i])) L).length_eq;rw [bk,ap,f0] at hpl;rw [tv h0];obtain ⟨cp',ih⟩:=Xj hat hc hld hinv hsc hsort hcmp hN hxs hxl r (i+1) (xf (Gq.mon (df L xs[i])) L) none (by omega) hins
   refine ⟨cp',bm ?_ ih⟩;rw [hpl];have hsl:((L.map (elim (Gq.mon (df L xs[i])))++[Gq.mon (df L xs[i])]).map bw).length=L.length+1:=by rw [ap,bk,ap,f0]
   rw [hsl] at s3;have hmap:(L.map (elim (Gq.mon (df L xs[i])))++[Gq.mon (df L xs[i])]).map bw=(L.map (elim (Gq.mon (df L xs[i])))).map bw++[(D.sl .leaf (ab .i64 (row (Gq.mon (df L xs[i])))))]:=by rw [fd]; rfl
   rw [hmap] at s3;have hLE:((L.map (elim (Gq.mon (df L xs[i])))).map bw).length=L.length:=by rw [ap,ap]
   have h24:(L.length+1)*24≤1099511627776:=by omega
   have hrl0:(row (df L xs[i])).length≠0:=by rw [cg]; omega
   have htk:((L.map (elim (Gq.mon (df L xs[i])))).map bw).take L.length=(L.map (elim (Gq.mon (df L xs[i])))).map bw:=bb (by omega)
   generalize (xf (Gq.mon (df L xs[i])) L).map bw=LI at *;generalize (L.map (elim (Gq.mon (df L xs[i])))).map bw=LE at *;generalize inv p (rep (df L xs[i]).ld)=k1 at *;generalize rep (df L xs[i]).ld=k2 at *;generalize row (Gq.mon (df L xs[i]))=R2 at *;generalize row (df L xs[i])=R3 at *;generalize row xs[i]=R1 at *;generalize L.map bw=LD at *;generalize xs.map bw=XD at *;simp -implicitDefEqProofs [Z1m_L2,ac,hlt,hXD,hx,e0,e2,e3,e4,e5,s3,w4,hrl0,hLE,h24,htk,List.replicate,List.idxOf,List.findIdx,List.findIdx.go]
def Cq (O:ah):Prop:=∀(p:Int) [IsP p] (xs:List (Fp p)),(∀x∈xs,x.len≤11)→xs.length<2000000→ask O F1m [(D.int .i64 p),.sl .leaf (xs.map bw)]=some (.sl .leaf ((iw xs []).map bw))
end
theorem abg {p:Int} (hT:T F1n=some Z1n) {L:List (Fp p)} (hl:∀x∈L,x.len≤1000):CmpRow (den T A) F1n [] [] a8c .leaf (L.map bw):=by
 refine ⟨fun x hx=>by simp at hx,fun x hx=>by simp at hx,fun x hx=>?_,fun x hx=>?_,fun x hx y hy=>?_⟩
 ·obtain ⟨a,_,rfl⟩:=cj.1 hx; rfl
 ·obtain ⟨a,_,rfl⟩:=cj.1 hx; rfl
 ·obtain ⟨a,ha,rfl⟩:=cj.1 hx
  obtain ⟨b,hb,rfl⟩:=cj.1 hy;have h1:=hl a ha;have h2:=hl b hb;have w1:IntKind.i64.wrap ((b.len:Int)-a.len)=(b.len:Int)-a.len:=w64 (by omega)
  refine ⟨(b.len:Int)-a.len,bi hT rfl ?_,by rw [G7,G7]; omega⟩
  simp -implicitDefEqProofs [Z1n,Z1n_B,w1]
theorem a39 (hT:T F1m=some Z1m) (hT1:T F1n=some Z1n) (hat:Ux (den T A)) (hc:mg (den T A)) (hld:xw (den T A)) (hinv:py (den T A)) (hsc:u4 (den T A)) (hsort:C8 (den T A)):Cq (den T A):=by
 intro p ip xs hxs hxl;obtain ⟨cp,e⟩:=Xj (O:=den T A) hat hc hld hinv hsc hsort (fun L hl=>abg hT1 hl) (ba 11) hxs hxl xs.length 0 [] (some 0) (bn _) (Desc.nil 11)
 have e00:((0:Nat):Int)=0:=rfl;rw [e00,dc,ij,cw] at e;have hL:((iw xs []).map bw).length=(iw xs []).length:=ap ..;have hX:(xs.map bw).length=xs.length:=ap ..;have htk:((iw xs []).map bw).take (iw xs []).length=(iw xs []).map bw:=bb (by omega)
 refine bi hT rfl ?_;generalize (iw xs []).map bw=LD at *;generalize xs.map bw=XD at *;simp -implicitDefEqProofs [Z1m,Z1m_B,hX,hL,htk,e]
end Pe

namespace Pe
open Go Gq
variable {T:Nat→Option Fn} {A:ah}
noncomputable abbrev di {p:Int} (a:Fp p):D:=(D.arr 64 .leaf (ab .u8 (pad (row a))))
theorem yv {p:Int} (xs:List (Fp p)):(skP xs).map aw=xs.map di:=by unfold skP; rw [sy]; rfl
section
variable {p:Int} [IsP p]
theorem a72 {O:ah} (hro:tw O) {xs:List (Fp p)} (hl:xs.length<2000000) (hx:∀x∈xs,x.len≤64):∀(r i:Nat) (cp:Option Nat),i+r=xs.length→∃cp':Option Nat,
 dn O 0 (.loop Z21_L0) ⟨[(3,.sl 0 [] 0 i cp),(6,.d (.sl (.arr 64 .leaf) (xs.map di))),(7,(.d (.int .i64 xs.length))),(8,(.d (.int .i64 i)))],[.sl false .leaf ((xs.take i).map bw),.hole,.hole,.hole]⟩ =
  some (.exit 0,⟨[(3,.sl 0 [] 0 xs.length cp'),(6,.d (.sl (.arr 64 .leaf) (xs.map di))),(7,(.d (.int .i64 xs.length))),(8,(.d (.int .i64 xs.length))),(9,(.d (.bool false)))],[.sl false .leaf (xs.map bw),.hole,.hole,.hole]⟩)
 | 0,i,cp,hi=>by
  obtain rfl:i=xs.length:=by omega
  rw [jd];refine ⟨cp,bt ?_⟩;generalize xs.map di=XD at *;generalize xs.map bw=RD at *;simp -implicitDefEqProofs [Z21_L0,ac]
 | r+1,i,cp,hi=>by
  have hlt:i<xs.length:=by omega
  have hm:=bj hlt;have e1:=hro p xs[i] (hx _ hm);have hXD:(xs.map di).length=xs.length:=ap ..;have hxi:∀h:i<(xs.map di).length,(xs.map di)[i]'h=(D.arr 64 .leaf (ab .u8 (pad (row xs[i])))):=fun h=>by rw [ca]
  have w4:IntKind.i64.wrap ((i:Int)+1)=((i+1:Nat):Int):=(w64 (x:=(i:Int)+1) (by omega)).trans (by omega)
  have h24:(i+1)*24≤1099511627776:=by omega
  have htk:(xs.take (i+1)).map bw=(xs.take i).map bw++[(D.sl .leaf (ab .i64 (row xs[i])))]:=by rw [dg hlt,fd]; rfl
  have hL:((xs.take i).map bw).length=i:=by rw [ap,bq]; omega
  have htt:((xs.take i).map bw).take i=(xs.take i).map bw:=bb (by omega)
  obtain ⟨cp',ih⟩:=a72 hro hl hx r (i+1) none (by omega)
  refine ⟨cp',bm ?_ ih⟩;rw [htk];generalize pad (row xs[i])=Pi at *;generalize row xs[i]=Ri at *;generalize (xs.take i).map bw=TD at *;generalize xs.map di=XD at *;simp -implicitDefEqProofs [Z21_L0,ac,hlt,hXD,hxi,e1,h24,hL,htt,w4,List.replicate]
def Xz (O:ah):Prop:=∀(p:Int) [IsP p] (xs:List (Fp p)),xs.length<2000000→(∀x∈xs,x.len≤64)→ask O F21 [.sl (.arr 64 .leaf) (xs.map di)]=some (.sl .leaf (xs.map bw))
theorem a0l {O:ah} (hpo:Hq O) {xs:List (Fp p)} (hl:xs.length<2000000) (hx:∀x∈xs,x.len≤64):∀(r i:Nat) (cp:Option Nat),i+r=xs.length→∃cp':Option Nat,
 dn O 0 (.loop Z19_L0) ⟨[(3,.sl 0 [] 0 i cp),(6,.d (.sl .leaf (xs.map bw))),(7,(.d (.int .i64 xs.length))),(8,(.d (.int .i64 i)))],[.sl false (.arr 64 .leaf) ((xs.take i).map di),.hole,.hole]⟩ =
  some (.exit 0,⟨[(3,.sl 0 [] 0 xs.length cp'),(6,.d (.sl .leaf (xs.map bw))),(7,(.d (.int .i64 xs.length))),(8,(.d (.int .i64 xs.length))),(9,(.d (.bool false)))],[.sl false (.arr 64 .leaf) (xs.map di),.hole,.hole]⟩)
 | 0,i,cp,hi=>by
  obtain rfl:i=xs.length:=by omega
  rw [jd];refine ⟨cp,bt ?_⟩;generalize xs.map di=XD at *;generalize xs.map bw=RD at *;simp -implicitDefEqProofs [Z19_L0,ac]
 | r+1,i,cp,hi=>by
  have hlt:i<xs.length:=by omega
  have hm:=bj hlt;have e1:=hpo p xs[i] (hx _ hm);have hXD:(xs.map bw).length=xs.length:=ap ..;have hxi:∀h:i<(xs.map bw).length,(xs.map bw)[i]'h=(D.sl .leaf (ab .i64 (row xs[i]))):=fun h=>by rw [ca]
  have w4:IntKind.i64.wrap ((i:Int)+1)=((i+1:Nat):Int):=(w64 (x:=(i:Int)+1) (by omega)).trans (by omega)
  have h24:(i+1)*64≤1099511627776:=by omega
  have htk:(xs.take (i+1)).map di=(xs.take i).map di++[(D.arr 64 .leaf (ab .u8 (pad (row xs[i]))))]:=by rw [dg hlt,fd]; rfl
  have hL:((xs.take i).map di).length=i:=by rw [ap,bq]; omega
  have htt:((xs.take i).map di).take i=(xs.take i).map di:=bb (by omega)
  obtain ⟨cp',ih⟩:=a0l hpo hl hx r (i+1) none (by omega)
  refine ⟨cp',bm ?_ ih⟩;rw [htk];generalize pad (row xs[i])=Pi at *;generalize row xs[i]=Ri at *;generalize (xs.take i).map di=TD at *;generalize xs.map bw=XD at *;simp -implicitDefEqProofs [Z19_L0,ac,hlt,hXD,hxi,e1,h24,hL,htt,w4,List.replicate]
def Jl (O:ah):Prop:=∀(p:Int) [IsP p] (xs:List (Fp p)),xs.length<2000000→(∀x∈xs,x.len≤64)→ask O F19 [.sl .leaf (xs.map bw)]=some (.sl (.arr 64 .leaf) (xs.map di))
end
theorem af2 (hT:T F21=some Z21) (hro:tw (den T A)):Xz (den T A):=by
 intro p ip xs hl hx;obtain ⟨cp,e⟩:=a72 (O:=den T A) hro hl hx xs.length 0 (some 0) (bn _);have e00:((0:Nat):Int)=0:=rfl;rw [e00,ff,ij] at e;have h1:(xs.map bw).length=xs.length:=ap ..;have h2:(xs.map di).length=xs.length:=ap ..;have htk:(xs.map bw).take xs.length=xs.map bw:=bb (by omega)
 refine bi hT rfl ?_;generalize xs.map di=XD at *;generalize xs.map bw=RD at *;simp -implicitDefEqProofs [Z21,Z21_B,h1,h2,htk,e]
theorem ab5 (hT:T F19=some Z19) (hpo:Hq (den T A)):Jl (den T A):=by
 intro p ip xs hl hx;obtain ⟨cp,e⟩:=a0l (O:=den T A) hpo hl hx xs.length 0 (some 0) (bn _);have e00:((0:Nat):Int)=0:=rfl;rw [e00,ff,ij] at e;have h1:(xs.map di).length=xs.length:=ap ..;have h2:(xs.map bw).length=xs.length:=ap ..;have htk:(xs.map di).take xs.length=xs.map di:=bb (by omega)
 refine bi hT rfl ?_;generalize xs.map di=XD at *;generalize xs.map bw=RD at *;simp -implicitDefEqProofs [Z19,Z19_B,h1,h2,htk,e]
def H6 (p:Int) (l:List Int) (ls:List (List Int)):Prop:=∃(_:IsP p) (m:Fp p),l=pad (row m)∧Fld m∧oq m ls
theorem Aw {p:Int} {l:List Int} {ls:List (List Int)}:te p l ls=0↔H6 p l ls:=by
 unfold te;constructor
 ·intro h1
  split at h1
  ·rename_i g; exact g
  ·cases h1
 ·intro h; exact if_pos h
end Pe


namespace Pe
open Go Gq
variable {T:Nat→Option Fn} {A:ah}
section
variable {p:Int}
theorem tp {a:Fp p} (ha:a.len≤64) {n:Nat}:∀h:n<(pad (row a)).length,(pad (row a))[n]'h=rep (a.c n):=fun h=>by
 rw [←fj h,rk ha]
end
section
variable {p:Int} [IsP p]
theorem Yt {O:ah} (hadd:ja O) {a b:Fp p} (ha:a.len≤64) (hb:b.len≤64):ask O F3t [(D.int .i64 p),(D.arr 64 .leaf (ab .u8 (pad (row b)))),(D.arr 64 .leaf (ab .u8 (pad (row a)))),(D.int .i64 (-rep (b.c (a.len-1))))]=some (D.arr 64 .leaf (ab .u8 (pad (row (elim a b))))):=by
 have h:=vm (b.c (a.len-1));have:=hadd p (-rep (b.c (a.len-1))) b a (by omega) (by omega) hb ha
 rw [Bp,kq] at this;exact this
theorem a8r {O:ah} (hdg:iq O) (hadd:ja O) {L:List (Fp p)} {N:Nat} (hN:N≤11) (hL:Desc N L):∀(r i:Nat) (a:Fp p),i+r=L.length→a.len≤N →
 dn O 0 (.loop Z50_L0) ⟨[(0,(.d (.int .i64 p))),(1,.d (.sl (.arr 64 .leaf) (L.map di))),(5,.ptr 0 []),(7,(.d (.int .i64 i)))],[.box false (D.arr 64 .leaf (ab .u8 (pad (row a)))),.hole,.hole,.hole,.hole,.hole,.hole,.hole]⟩ =
  some (.exit 0,⟨[(0,(.d (.int .i64 p))),(1,.d (.sl (.arr 64 .leaf) (L.map di))),(5,.ptr 0 []),(7,(.d (.int .i64 L.length))),(16,(.d (.bool false)))],[.box false (D.arr 64 .leaf (ab .u8 (pad (row (df (L.drop i) a))))),.hole,.hole,.hole,.hole,.hole,.hole,.hole]⟩)
 | 0,i,a,hi,ha=>by
  obtain rfl:i=L.length:=by omega
  have hLD:(L.map di).length=L.length:=ap ..;rw [ez];refine bt ?_;show _=some (_,(⟨_,[.box false (D.arr 64 .leaf (ab .u8 (pad (row a)))),_,_,_,_,_,_,_]⟩:St));generalize pad (row a)=Pa at *;generalize L.map di=LD at *;simp -implicitDefEqProofs [Z50_L0,ac,hLD]
 | r+1,i,a,hi,ha=>by
  have hlt:i<L.length:=by omega
  have hm:=bj hlt;have hbl:=hL.le _ hm;have hbp:=Pol.len_pos (hL.mon _ hm).2;have hll:=hL.length;have hLD:(L.map di).length=L.length:=ap ..;have hx:∀h:i<(L.map di).length,(L.map di)[i]'h=(D.arr 64 .leaf (ab .u8 (pad (row L[i])))):=fun h=>by rw [ca]
  have e1:=hdg p L[i] (by omega)
  rw [show (L[i].len:Int)-1=((L[i].len-1:Nat):Int) by omega] at e1
  have e2:=Yt hadd (a:=L[i]) (b:=a) (by omega) (by omega)
  have hat:=tp (a:=a) (by omega) (n:=L[i].len-1)
  have hPl:=ck (row a);have hd64:L[i].len-1<64:=by omega
  have hr:=vm (a.c (L[i].len-1));have w1:IntKind.i64.wrap (rep (a.c (L[i].len-1)))=rep (a.c (L[i].len-1)):=w64 (by omega)
  have w2:IntKind.i64.wrap (-rep (a.c (L[i].len-1)))=-rep (a.c (L[i].len-1)):=w64 (by omega)
  have w4:IntKind.i64.wrap ((i:Int)+1)=((i+1:Nat):Int):=(w64 (x:=(i:Int)+1) (by omega)).trans (by omega)
  have hd:df (L.drop i) a=df (L.drop (i+1)) (elim L[i] a):=by rw [bu hlt]; rfl
  rw [hd];refine bm ?_ (a8r hdg hadd hN hL r (i+1) (elim L[i] a) (by omega) (v9 hbl ha))
  by_cases h0:rep (a.c (L[i].len-1))=0
  ·have hz:elim L[i] a=a:=by
    unfold elim;rw [g7.1 h0,qj,Pol.C_zero,Gq.zero_mul,Gq.add_zero]
   rw [hz];rw [h0] at hat;generalize pad (row a)=Pa at *;generalize pad (row L[i])=Pi at *;generalize L[i].len-1=d at *;generalize L.map di=LD at *;simp -implicitDefEqProofs [Z50_L0,ac,hlt,hLD,hx,e1,hat,hPl,hd64,w4]
  ·generalize rep (a.c (L[i].len-1))=k at *
   generalize pad (row (elim L[i] a))=Pe at *;generalize pad (row a)=Pa at *;generalize pad (row L[i])=Pi at *;generalize L[i].len-1=d at *;generalize L.map di=LD at *;simp -implicitDefEqProofs [Z50_L0,ac,hlt,hLD,hx,e1,e2,hat,hPl,hd64,h0,w1,w2,w4]
theorem ado {O:ah} {p:Int} {Pa:List Int} {d ql n:Nat} {LD QD:List D} {cp:Option Nat} {b:Bool} (hLD:LD.length=n) :
 dn O 0 Z50_L1 ⟨[(0,(.d (.int .i64 p))),(1,.d (.sl (.arr 64 .leaf) LD)),(5,.ptr 0 []),(9,(.d (.int .i64 ((d:Int))))),(10,.sl 1 [] 0 ql cp),(11,(.d (.bool b))),(12,(.d (.int .i64 n)))],[.box false (D.arr 64 .leaf (ab .u8 Pa)),.sl false (.arr 64 .leaf) QD,.hole,.hole,.hole,.hole,.hole,.hole]⟩=some (.exit 2,⟨[(0,(.d (.int .i64 p))),(1,.d (.sl (.arr 64 .leaf) LD)),(5,.ptr 0 []),(9,(.d (.int .i64 ((d:Int))))),(10,.sl 1 [] 0 ql cp),(11,(.d (.bool b))),(12,(.d (.int .i64 n))),(59,(.d (.bool false)))],[.box false (D.arr 64 .leaf (ab .u8 Pa)),.sl false (.arr 64 .leaf) QD,.hole,.hole,.hole,.hole,.hole,.hole]⟩):=by
 simp -implicitDefEqProofs [Z50_L1,ac,hLD]
theorem aeu {O:ah} {p k:Int} {Pa Pi Pe:List Int} {d ql i n:Nat} {LD QD:List D} {cp:Option Nat} (hlt:i<n) (hLD:LD.length=n) (hx:∀h:i<LD.length,LD[i]'h=(D.arr 64 .leaf (ab .u8 Pi))) (e2:ask O F3t [(D.int .i64 p),(D.arr 64 .leaf (ab .u8 Pi)),(D.arr 64 .leaf (ab .u8 Pa)),(D.int .i64 (-k))]=some (D.arr 64 .leaf (ab .u8 Pe)))
 (hat:∀h:d<Pi.length,Pi[d]'h=k) (hPl:Pi.length=64) (hd64:d<64) (hQD:QD.length=ql) (htq:QD.take ql=QD) (h64:(ql+1)*64≤1099511627776) (w1:IntKind.i64.wrap k=k) (w2:IntKind.i64.wrap (-k)=-k) (w4:IntKind.i64.wrap ((i:Int)+1)=((i+1:Nat):Int)) :
 dn O 0 Z50_L1 ⟨[(0,(.d (.int .i64 p))),(1,.d (.sl (.arr 64 .leaf) LD)),(5,.ptr 0 []),(9,(.d (.int .i64 ((d:Int))))),(10,.sl 1 [] 0 ql cp),(11,(.d (.bool true))),(12,(.d (.int .i64 i)))],[.box false (D.arr 64 .leaf (ab .u8 Pa)),.sl false (.arr 64 .leaf) QD,.hole,.hole,.hole,.hole,.hole,.hole]⟩=some (.normal,⟨[(0,(.d (.int .i64 p))),(1,.d (.sl (.arr 64 .leaf) LD)),(5,.ptr 0 []),(9,(.d (.int .i64 ((d:Int))))),(10,.sl 1 [] 0 (ql+1) none),(11,(.d (.bool true))),(12,(.d (.int .i64 (((i+1:Nat):Int)))))],[.box false (D.arr 64 .leaf (ab .u8 Pa)),.sl false (.arr 64 .leaf) (QD++[(D.arr 64 .leaf (ab .u8 Pe))]),.hole,.hole,.hole,.hole,.hole,.hole]⟩):=by
 simp -implicitDefEqProofs [Z50_L1,ac,hlt,hLD,hx,e2,hat,hPl,hd64,hQD,htq,h64,w1,w2,w4,List.replicate]
theorem a3z {α:Type} {QD:List α} {ql:Nat} (h:QD.length=ql) (z:α):(QD++[z]).take (ql+1)=QD++[z]:=bb (by rw [bk,h]; exact ba _)
theorem ad2 {O:ah} {p k:Int} {Pa Pi Pe:List Int} {d d2 ql i n:Nat} {LD QD:List D} {cp:Option Nat} (hlt:i<n) (hLD:LD.length=n) (hx:∀h:i<LD.length,LD[i]'h=(D.arr 64 .leaf (ab .u8 Pi))) (e1:ask O F3w [(D.arr 64 .leaf (ab .u8 Pi))]=some (D.int .i64 ((d2:Int)))) (e2:ask O F3t [(D.int .i64 p),(D.arr 64 .leaf (ab .u8 Pi)),(D.arr 64 .leaf (ab .u8 Pa)),(D.int .i64 (-k))]=some (D.arr 64 .leaf (ab .u8 Pe)))
 (hat:∀h:d<Pi.length,Pi[d]'h=k) (hPl:Pi.length=64) (hd64:d<64) (hQD:QD.length=ql) (htq:QD.take ql=QD) (h64:(ql+1)*64≤1099511627776) (h64':(ql+1+1)*64≤1099511627776) (w1:IntKind.i64.wrap k=k) (w2:IntKind.i64.wrap (-k)=-k) (w4:IntKind.i64.wrap ((i:Int)+1)=((i+1:Nat):Int)) (hdl:d2<d) :
 dn O 0 Z50_L1 ⟨[(0,(.d (.int .i64 p))),(1,.d (.sl (.arr 64 .leaf) LD)),(5,.ptr 0 []),(9,(.d (.int .i64 ((d:Int))))),(10,.sl 1 [] 0 ql cp),(11,(.d (.bool false))),(12,(.d (.int .i64 i)))],[.box false (D.arr 64 .leaf (ab .u8 Pa)),.sl false (.arr 64 .leaf) QD,.hole,.hole,.hole,.hole,.hole,.hole]⟩=some (.normal,⟨[(0,(.d (.int .i64 p))),(1,.d (.sl (.arr 64 .leaf) LD)),(5,.ptr 0 []),(9,(.d (.int .i64 ((d:Int))))),(10,.sl 1 [] 0 (ql+2) none),(11,(.d (.bool true))),(12,(.d (.int .i64 (((i+1:Nat):Int)))))],[.box false (D.arr 64 .leaf (ab .u8 Pa)),.sl false (.arr 64 .leaf) (QD++[(D.arr 64 .leaf (ab .u8 Pa)),(D.arr 64 .leaf (ab .u8 Pe))]),.hole,.hole,.hole,.hole,.hole,.hole]⟩):=by
 have htq2:=fun z:D=>a3z hQD z
 simp -implicitDefEqProofs [Z50_L1,ac,hlt,hLD,hx,e1,e2,hat,hPl,hd64,hdl,hQD,htq,htq2,h64,h64',w1,w2,w4,List.replicate]
theorem ae5 {O:ah} {p k:Int} {Pa Pi Pe:List Int} {d d2 ql i n:Nat} {LD QD:List D} {cp:Option Nat} (hlt:i<n) (hLD:LD.length=n) (hx:∀h:i<LD.length,LD[i]'h=(D.arr 64 .leaf (ab .u8 Pi))) (e1:ask O F3w [(D.arr 64 .leaf (ab .u8 Pi))]=some (D.int .i64 ((d2:Int)))) (e2:ask O F3t [(D.int .i64 p),(D.arr 64 .leaf (ab .u8 Pi)),(D.arr 64 .leaf (ab .u8 Pa)),(D.int .i64 (-k))]=some (D.arr 64 .leaf (ab .u8 Pe)))
 (hat:∀h:d<Pi.length,Pi[d]'h=k) (hPl:Pi.length=64) (hd64:d<64) (hQD:QD.length=ql) (htq:QD.take ql=QD) (h64:(ql+1)*64≤1099511627776) (w1:IntKind.i64.wrap k=k) (w2:IntKind.i64.wrap (-k)=-k) (w4:IntKind.i64.wrap ((i:Int)+1)=((i+1:Nat):Int)) (hdl:¬ d2<d) :
 dn O 0 Z50_L1 ⟨[(0,(.d (.int .i64 p))),(1,.d (.sl (.arr 64 .leaf) LD)),(5,.ptr 0 []),(9,(.d (.int .i64 ((d:Int))))),(10,.sl 1 [] 0 ql cp),(11,(.d (.bool false))),(12,(.d (.int .i64 i)))],[.box false (D.arr 64 .leaf (ab .u8 Pa)),.sl false (.arr 64 .leaf) QD,.hole,.hole,.hole,.hole,.hole,.hole]⟩=some (.normal,⟨[(0,(.d (.int .i64 p))),(1,.d (.sl (.arr 64 .leaf) LD)),(5,.ptr 0 []),(9,(.d (.int .i64 ((d:Int))))),(10,.sl 1 [] 0 (ql+1) none),(11,(.d (.bool false))),(12,(.d (.int .i64 (((i+1:Nat):Int)))))],[.box false (D.arr 64 .leaf (ab .u8 Pa)),.sl false (.arr 64 .leaf) (QD++[(D.arr 64 .leaf (ab .u8 Pe))]),.hole,.hole,.hole,.hole,.hole,.hole]⟩):=by
 simp -implicitDefEqProofs [Z50_L1,ac,hlt,hLD,hx,e1,e2,hat,hPl,hd64,hdl,hQD,htq,h64,w1,w2,w4,List.replicate]
theorem I7 {O:ah} (hdg:iq O) (hadd:ja O) {L:List (Fp p)} {N:Nat} (hN:N≤11) (hL:Desc N L) {a:Fp p} (ha:a≠0) (hal:a.len≤N) {i:Nat} (hlt:i<L.length) :
 (∀h:i<(L.map di).length,(L.map di)[i]'h=(D.arr 64 .leaf (ab .u8 (pad (row L[i])))))∧ask O F3w [(D.arr 64 .leaf (ab .u8 (pad (row L[i]))))]=some (D.int .i64 (((L[i].len-1:Nat):Int))) ∧
 ask O F3t [(D.int .i64 p),(D.arr 64 .leaf (ab .u8 (pad (row L[i])))),(D.arr 64 .leaf (ab .u8 (pad (row a)))),(D.int .i64 (-rep (L[i].c (a.len-1))))]=some (D.arr 64 .leaf (ab .u8 (pad (row (elim a L[i]))))) ∧
 (∀h:a.len-1<(pad (row L[i])).length,(pad (row L[i]))[a.len-1]'h=rep (L[i].c (a.len-1)))∧(pad (row L[i])).length=64 ∧
 IntKind.i64.wrap (rep (L[i].c (a.len-1)))=rep (L[i].c (a.len-1))∧IntKind.i64.wrap (-rep (L[i].c (a.len-1)))=-rep (L[i].c (a.len-1)) ∧
 IntKind.i64.wrap ((i:Int)+1)=((i+1:Nat):Int)∧a.len-1<64:=by
 have hm:=bj hlt;have hbl:=hL.le _ hm;have hbp:=Pol.len_pos (hL.mon _ hm).2;have hap:=Pol.len_pos ha;have hll:=hL.length;have e1:=hdg p L[i] (by omega)
 rw [show (L[i].len:Int)-1=((L[i].len-1:Nat):Int) by omega] at e1
 have hr:=vm (L[i].c (a.len-1));exact ⟨fun h=>by rw [ca],e1,Yt hadd (a:=a) (b:=L[i]) (by omega) (by omega),tp (a:=L[i]) (by omega) (n:=a.len-1),ck _,w64 (by omega),w64 (by omega),(w64 (x:=(i:Int)+1) (by omega)).trans (by omega),by omega⟩
theorem Rh {O:ah} (hdg:iq O) (hadd:ja O) {L:List (Fp p)} {N:Nat} (hN:N≤11) (hL:Desc N L) {a:Fp p} (ha:a≠0) (hal:a.len≤N):∀(r i:Nat) (Q:List (Fp p)) (b:Bool) (cp:Option Nat),i+r=L.length→Q.length≤i+b.toNat→∃(Q':List (Fp p)) (b':Bool) (cp':Option Nat),
 dn O 0 (.loop Z50_L1) ⟨[(0,(.d (.int .i64 p))),(1,.d (.sl (.arr 64 .leaf) (L.map di))),(5,.ptr 0 []),(9,(.d (.int .i64 (((a.len-1:Nat):Int))))),(10,.sl 1 [] 0 Q.length cp),(11,(.d (.bool b))),(12,(.d (.int .i64 i)))],[.box false (D.arr 64 .leaf (ab .u8 (pad (row a)))),.sl false (.arr 64 .leaf) (Q.map di),.hole,.hole,.hole,.hole,.hole,.hole]⟩ =
  some (.exit 2,⟨[(0,(.d (.int .i64 p))),(1,.d (.sl (.arr 64 .leaf) (L.map di))),(5,.ptr 0 []),(9,(.d (.int .i64 (((a.len-1:Nat):Int))))),(10,.sl 1 [] 0 Q'.length cp'),(11,(.d (.bool b'))),(12,(.d (.int .i64 L.length))),(59,(.d (.bool false)))],[.box false (D.arr 64 .leaf (ab .u8 (pad (row a)))),.sl false (.arr 64 .leaf) (Q'.map di),.hole,.hole,.hole,.hole,.hole,.hole]⟩) ∧
  (if b' then Q' else Q'++[a])=Q++(if b then (L.drop i).map (elim a) else xf a (L.drop i))∧Q'.length≤L.length+1
 | 0,i,Q,b,cp,hi,hq=>by
  obtain rfl:i=L.length:=by omega
  have hLD:(L.map di).length=L.length:=ap ..;refine ⟨Q,b,cp,bt ?_,?_,by have:=Bool.toNat_le b; omega⟩
  ·exact ado hLD
  ·rw [ez]
   cases b <;> simp [xf]
 | r+1,i,Q,b,cp,hi,hq=>by
  have hlt:i<L.length:=by omega
  have hll:=hL.length;have hbt:=Bool.toNat_le b;have hir:i+1+r=L.length:=by omega
  have hQl:Q.length≤12:=by omega
  have h64:(Q.length+1)*64≤1099511627776:=nw (i8 64 (Nat.succ_le_succ hQl)) (by decide)
  have h64':(Q.length+1+1)*64≤1099511627776:=nw (i8 64 (Nat.succ_le_succ (Nat.succ_le_succ hQl))) (by decide)
  have hLD:(L.map di).length=L.length:=ap ..;have hd:L.drop i=L[i]::L.drop (i+1):=bu hlt;have hQD:(Q.map di).length=Q.length:=ap ..;have htq:(Q.map di).take Q.length=Q.map di:=bb (by omega)
  have hq1:∀x:Fp p,(Q++[x]).map di=Q.map di++[(D.arr 64 .leaf (ab .u8 (pad (row x))))]:=fun x=>by rw [fd]; rfl
  have hl1:∀x:Fp p,(Q++[x]).length=Q.length+1:=fun x=>by rw [bk]; rfl
  have hq2:∀x y:Fp p,(Q++[x,y]).map di=Q.map di++[(D.arr 64 .leaf (ab .u8 (pad (row x)))),(D.arr 64 .leaf (ab .u8 (pad (row y))))]:=fun x y=>by rw [fd]; rfl
  have hl2:∀x y:Fp p,(Q++[x,y]).length=Q.length+2:=fun x y=>by rw [bk]; rfl
  have hap:=Pol.len_pos ha;have hbp:=Pol.len_pos (hL.mon _ (bj hlt)).2;cases b with
  | true=>
   obtain ⟨Q',b',cp',g1,g2,g3⟩:=Rh hdg hadd hN hL ha hal r (i+1) (Q++[elim a L[i]]) true none hir (by rw [hl1]; simp only [Bool.toNat_true] at hq ⊢; omega)
   refine ⟨Q',b',cp',bm ?_ g1,?_,g3⟩
   ·obtain ⟨hx,e1,e2,hat,hPl,w1,w2,w4,hd64⟩:=I7 hdg hadd hN hL ha hal hlt
    rw [hq1,hl1]; exact aeu hlt hLD hx e2 hat hPl hd64 hQD htq h64 w1 w2 w4
   ·rw [g2,hd]; simp only [if_true,om,gw,gq,eh]
  | false=>
   by_cases hlen:L[i].len<a.len
   ·have hdl:L[i].len-1<a.len-1:=by omega
    obtain ⟨Q',b',cp',g1,g2,g3⟩:=Rh hdg hadd hN hL ha hal r (i+1) (Q++[a,elim a L[i]]) true none hir (by rw [hl2]; simp only [Bool.toNat_true,Bool.toNat_false] at hq ⊢; omega)
    refine ⟨Q',b',cp',bm ?_ g1,?_,g3⟩
    ·obtain ⟨hx,e1,e2,hat,hPl,w1,w2,w4,hd64⟩:=I7 hdg hadd hN hL ha hal hlt
     rw [hq2,hl2]; exact ad2 hlt hLD hx e1 e2 hat hPl hd64 hQD htq h64 h64' w1 w2 w4 hdl
    ·rw [g2,hd]
     show _=Q++(if L[i].len<a.len then a::(L[i]::L.drop (i+1)).map (elim a) else elim a L[i]::xf a (L.drop (i+1)))
     rw [if_pos hlen]; simp only [if_true,om,gw,gq,eh]
   ·have hdl:¬ (L[i].len-1<a.len-1):=by omega
    obtain ⟨Q',b',cp',g1,g2,g3⟩:=Rh hdg hadd hN hL ha hal r (i+1) (Q++[elim a L[i]]) false none hir (by rw [hl1]; simp only [Bool.toNat_false] at hq ⊢; omega)
    refine ⟨Q',b',cp',bm ?_ g1,?_,g3⟩
    ·obtain ⟨hx,e1,e2,hat,hPl,w1,w2,w4,hd64⟩:=I7 hdg hadd hN hL ha hal hlt
     rw [hq1,hl1]; exact ae5 hlt hLD hx e1 e2 hat hPl hd64 hQD htq h64 w1 w2 w4 hdl
    ·rw [g2,hd]
     show _=Q++(if L[i].len<a.len then a::(L[i]::L.drop (i+1)).map (elim a) else elim a L[i]::xf a (L.drop (i+1)))
     rw [if_neg hlen]; simp
end
def Rn (O:ah):Prop:=∀(p:Int) [IsP p] (L:List (Fp p)) (x:Fp p),Desc 11 L→x.len≤11→ask O F50 [(D.int .i64 p),.sl (.arr 64 .leaf) (L.map di),(D.arr 64 .leaf (ab .u8 (pad (row x))))]=some (.sl (.arr 64 .leaf) ((v7 L x).map di))
theorem act (hT:T F50=some Z50) (hdg:iq (den T A)) (hinv:md (den T A)) (hadd:ja (den T A)):Rn (den T A):=by
 intro p ip L x hL hx;have e0:=a8r (O:=den T A) hdg hadd (ba 11) hL L.length 0 x (bn _) hx;have e00:((0:Nat):Int)=0:=rfl;rw [e00,dc] at e0;have hrl:=G2 (L:=L) hL.le hx;have e1:=hdg p (df L x) (by omega)
 refine bi hT rfl ?_
 by_cases h0:df L x=0
 ·rw [tc h0]
  rw [h0,dq,Pol.len_zero] at e1;rw [h0,dq] at e0;generalize pad (row x)=Px at *;generalize L.map di=LD at *;simp -implicitDefEqProofs [Z50,Z50_B,ac,e0,e1]
 ·rw [tv h0]
  have hap:=Pol.len_pos h0;have hml:=u9 h0;have hmm:=oe h0;have hld0:=Pol.ld_ne h0;have hri:=kl (df L x).ld;have hr0:rep (df L x).ld≠0:=fun h=>hld0 (g7.1 h)
  rw [show ((df L x).len:Int)-1=(((df L x).len-1:Nat):Int) by omega] at e1
  have hat:=tp (a:=df L x) (by omega) (n:=(df L x).len-1)
  rw [show (df L x).c ((df L x).len-1)=(df L x).ld from rfl] at hat;have hPl:=ck (row (df L x));have hd64:(df L x).len-1<64:=by omega
  have e2:=hinv p (rep (df L x).ld) (by omega) (by omega)
  have hin:=y9 (p:=p) (rep (df L x).ld);have hp7:=IsP.le (p:=p);have e3:=hadd p (inv p (rep (df L x).ld)) 0 (df L x) (by omega) (by omega) (by rw [Pol.len_zero]; omega) (by omega)
  rw [uc _ hld0,Gq.zero_add,show Pol.C (Fd.inv (df L x).ld)*df L x=Gq.mon (df L x) from rfl,dq] at e3;have w1:IntKind.i64.wrap (inv p (rep (df L x).ld))=inv p (rep (df L x).ld):=w64 (by omega)
  obtain ⟨Q',b',cp',g1,g2,g3⟩:=Rh (O:=den T A) hdg hadd (ba 11) hL hmm.2 (by omega) L.length 0 [] false (some 0) (bn _) (by simp)
  rw [e00,ij,cw,hml] at g1;simp only [dc,eh,b9,if_false] at g2;have hn0:¬ (((df L x).len-1:Nat):Int)<0:=by omega
  have hll:=hL.length;have hQD:(Q'.map di).length=Q'.length:=ap ..;have htq:(Q'.map di).take Q'.length=Q'.map di:=bb (by omega)
  have h64:(Q'.length+1)*64≤1099511627776:=by omega
  cases b' with
  | true=>
   simp only [if_true] at g2;rw [←g2];generalize inv p (rep (df L x).ld)=k1 at *;generalize rep (df L x).ld=k2 at *;generalize pad (row (Gq.mon (df L x)))=P2 at *;generalize pad (row (df L x))=P1 at *;generalize pad (row x)=Px at *;generalize (df L x).len-1=d at *;generalize L.map di=LD at *;generalize Q'.map di=QD at *;generalize Q'.length=ql at *;simp -implicitDefEqProofs [Z50,Z50_B,ac,e0,e1,e2,e3,g1,hat,hPl,hd64,hn0,hQD,htq,w1]
  | false=>
   simp only [b9,if_false] at g2;rw [←g2,show (Q'++[Gq.mon (df L x)]).map di=Q'.map di++[(D.arr 64 .leaf (ab .u8 (pad (row (Gq.mon (df L x))))))] by rw [fd]; rfl]
   have htq2:∀z:D,(Q'.map di++[z]).take (Q'.length+1)=Q'.map di++[z]:=fun z=>bb (by rw [bk,hQD]; exact ba _)
   generalize inv p (rep (df L x).ld)=k1 at *;generalize rep (df L x).ld=k2 at *;generalize pad (row (Gq.mon (df L x)))=P2 at *;generalize pad (row (df L x))=P1 at *;generalize pad (row x)=Px at *;generalize (df L x).len-1=d at *;generalize L.map di=LD at *;generalize Q'.map di=QD at *;generalize Q'.length=ql at *;simp -implicitDefEqProofs [Z50,Z50_B,ac,e0,e1,e2,e3,g1,hat,hPl,hd64,hn0,hQD,htq,htq2,h64,w1,List.replicate]
end Pe


namespace Pe
open Go Gq
variable {T:Nat→Option Fn} {A:ah}
open Classical in
theorem abr {O:ah} (hr:Dr O) {p:Int} [IsP p] {m:Fp p} (hm:m.len≤64) {ls:List (List Int)} (h:Ji ls) (hl:ls.length<2000000):∀(k i:Nat),i+k=ls.length →
 dn O 0 (.loop Z52_L0) ⟨[(0,(.d (.int .i64 p))),(2,.d (.sl (.arr 64 .leaf) (ls.map aw))),(4,.ptr 0 []),(7,(.d (.int .i64 i)))],[.box false (D.arr 64 .leaf (ab .u8 (pad (row m))))]⟩ =
  if oq m (ls.drop i) then some (.exit 0,⟨[(0,(.d (.int .i64 p))),(2,.d (.sl (.arr 64 .leaf) (ls.map aw))),(4,.ptr 0 []),(7,(.d (.int .i64 ls.length))),(15,(.d (.bool false)))],[.box false (D.arr 64 .leaf (ab .u8 (pad (row m))))]⟩) else some (.ret,⟨[(6,(.d (.int .i64 1)))],[.hole]⟩)
 | 0,i,hi=>by
  obtain rfl:i=ls.length:=by omega
  rw [if_pos (by rw [ez]; exact Vs m)]
  have hL:(ls.map aw).length=ls.length:=ap ..;refine bt ?_;generalize pad (row m)=Pm at *;generalize ls.map aw=LD at *;simp -implicitDefEqProofs [Z52_L0,ac,hL]
 | k+1,i,hi=>by
  have hlt:i<ls.length:=by omega
  have hm1:=bj hlt;have e1:=hr p m ls[i] hm (h _ hm1).2 (h _ hm1).1;have hL:(ls.map aw).length=ls.length:=ap ..;have w4:IntKind.i64.wrap ((i:Int)+1)=((i+1:Nat):Int):=(w64 (x:=(i:Int)+1) (by omega)).trans (by omega)
  have hx2:∀h:i<(ls.map aw).length,(ls.map aw)[i]'h=(D.arr 64 .leaf (ab .u8 (ls[i]))):=fun h=>by rw [ca]
  have hd:ls.drop i=ls[i]::ls.drop (i+1):=bu hlt;have ih:=abr hr hm h hl k (i+1) (by omega)
  rw [hd]
  by_cases hres:rt m ls[i]
  ·rw [decide_eq_true hres] at e1
   have hiff:oq m (ls[i]::ls.drop (i+1))↔oq m (ls.drop (i+1)):=⟨fun h=>(td.1 h).2,fun h=>td.2 ⟨hres,h⟩⟩
   rw [propext hiff];refine bm ?_ ih;generalize ls[i]=li at *;generalize pad (row m)=Pm at *;generalize ls.map aw=LD at *;simp -implicitDefEqProofs [Z52_L0,ac,hlt,hx2,hL,e1,w4]
  ·rw [decide_eq_false hres] at e1
   rw [if_neg (fun h=>hres (td.1 h).1)]
   refine lq ?_;generalize ls[i]=li at *;generalize pad (row m)=Pm at *;generalize ls.map aw=LD at *;simp -implicitDefEqProofs [Z52_L0,ac,hlt,hx2,hL,e1]
open Classical in
theorem a38 (hT:T F52=some Z52) (hf:Bh (den T A)) (hi:Dr (den T A)):rx (den T A) F52:=by
 intro p l ls hb hl h hlen;have e1:=hf p l hb hl;refine bi hT rfl ?_;unfold te
 by_cases hfl:z3 p l
 ·rw [decide_eq_true hfl] at e1
  obtain ⟨ip,m,rfl,hm⟩:=hfl;have h5:=hm.five;have e2:=abr (O:=den T A) hi (m:=m) (by omega) h hlen ls.length 0 (bn _)
  have e00:((0:Nat):Int)=0:=rfl;rw [e00,dc] at e2;have hc:=Bd hm (Q:=fun ip m'=>∀x∈ls,@rt p ip m' x)
  by_cases hs:oq m ls
  ·rw [if_pos hs] at e2
   rw [if_pos (hc.2 hs)];generalize pad (row m)=Pm at *;generalize ls.map aw=LD at *;simp -implicitDefEqProofs [Z52,Z52_B,ac,e1,e2]
  ·rw [if_neg hs] at e2
   rw [if_neg (fun h=>hs (hc.1 h))]
   generalize pad (row m)=Pm at *;generalize ls.map aw=LD at *;simp -implicitDefEqProofs [Z52,Z52_B,ac,e1,e2]
 ·rw [decide_eq_false hfl] at e1
  rw [if_neg (fun ⟨ip,m,e,hm,_⟩=>hfl ⟨ip,m,e,hm⟩)]
  generalize ls.map aw=LD at *;simp -implicitDefEqProofs [Z52,Z52_B,ac,e1]
end Pe

namespace Pe
open Go Gq
variable {T:Nat→Option Fn} {A:ah}
end Pe


namespace Pe
open Go Gq
variable {T:Nat→Option Fn} {A:ah}
section
variable {p:Int} [IsP p]
end
open Classical in
noncomputable def spL (p:Int) (l:List Int) (ls:List (List Int)):List (List Int):=
 if h:H6 p l ls then
  haveI:IsP p:=h.choose
  skP (iw (ls.map (ew p)) [])
 else []
theorem Uj {p:Int} [IsP p] {m:Fp p} {S:List (Fp p)} (h:H6 p (pad (row m)) (skP S)) (hS:∀a∈S,a.len≤64):spL p (pad (row m)) (skP S)=skP (iw S []):=by
 unfold spL;rw [dif_pos h,kh hS]
theorem a9e {p:Int} {l:List Int} {ls:List (List Int)} (h:¬ H6 p l ls):spL p l ls=[]:=by unfold spL; rw [dif_neg h]
noncomputable def spD (p:Int) (l:List Int) (ls:List (List Int)):D:=.tup [.sl (.arr 64 .leaf) ((spL p l ls).map aw),(D.int .i64 (te p l ls))]
theorem Eb {p:Int} {l:List Int} {ls:List (List Int)} (h:¬ H6 p l ls):te p l ls=1:=by
 rcases Q1 p l ls with c | c
 ·exact absurd (Aw.1 c) h
 ·exact c
def Gp (O:ah) (F:Nat):Prop:=∀(p:Int) (l:List Int) (ls:List (List Int)),g9 l→l.length=64→Ji ls→ls.length<2000000→ask O F [(D.int .i64 p),(D.arr 64 .leaf (ab .u8 l)),.sl (.arr 64 .leaf) (ls.map aw)]=some (spD p l ls)
theorem a6w (hT:T Fc=some Zc) (hc:rx (den T A) F1t) (hro:Xz (den T A)) (hre:Cq (den T A)) (hpo:Jl (den T A)):Gp (den T A) Fc:=by
 intro p l ls bl gl ha hl;have e1:=hc p l ls bl gl ha hl;unfold spD
 by_cases h:H6 p l ls
 ·have h':=h
  rw [Aw.2 h] at e1 ⊢;obtain ⟨ip,m,rfl,hm,hs⟩:=h;obtain ⟨S,rfl,hS⟩:=uh hs;have h5:=hm.five;have hSl:S.length<2000000:=by rwa [ap] at hl
  have hd:=Dz (N:=11) (xs:=S) (Desc.nil 11) (fun a ha=>by have:=hS a ha; omega)
  have hdl:=hd.length;have e2:=hro p S hSl (fun x hx=>by have:=hS x hx; omega)
  have e3:=hre p S (fun x hx=>by have:=hS x hx; omega) hSl
  have e4:=hpo p (iw S []) (by omega) (fun x hx=>by have:=hd.le x hx; omega)
  have hmd:(S.map fun a=>pad (row a)).map aw=S.map di:=yv S
  rw [Uj h' (fun a ha=>by have:=hS a ha; omega),hmd,show (skP (iw S [])).map aw=(iw S []).map di from yv _]
  rw [hmd] at e1;refine bi hT rfl ?_;generalize (iw S []).map di=R1 at *;generalize (iw S []).map bw=R2 at *;generalize S.map di=SD at *;generalize S.map bw=RD at *;generalize pad (row m)=Pm at *;simp -implicitDefEqProofs [Zc,Zc_B,ac,e1,e2,e3,e4]
 ·rw [Eb h] at e1 ⊢
  rw [a9e h,ij];refine bi hT rfl ?_;generalize ls.map aw=LD at *;simp -implicitDefEqProofs [Zc,Zc_B,ac,e1]
end Pe

namespace Pe
open Go Gq
section
variable {p:Int}
noncomputable def cS (A:List (Fp p)) (i:Nat):Fp p:=(A[i]?).getD 0
theorem ur {A:List (Fp p)} {i:Nat} (h:A.length≤i):cS A i=0:=by unfold cS; rw [cb h]; rfl
theorem rp {A:List (Fp p)} {i:Nat} (h:i<A.length):A[i]=cS A i:=by unfold cS; rw [au h]; rfl
def km (A:List (Fp p)):Prop:=∀n,A.length=n+1→cS A n≠0
theorem vf (S:List (Fp p)) (i:Nat):cS (az S) i=cS S i:=by
 unfold cS az;have hle:=Dl S S.length
 by_cases h:i<stl S S.length
 ·rw [fi,if_pos h]
 ·rw [fi,if_neg h]
  by_cases h2:i<S.length
  ·rw [Nb S S.length i (by omega) h2]; rfl
  ·rw [cb (by omega)]
theorem ox (S:List (Fp p)):km (az S):=fun n hn=>by
 obtain ⟨a,x,e,hx⟩:=Wr (S:=S) (by omega)
 rw [e] at hn ⊢;rw [bk,f0] at hn;unfold cS;rw [ci (by omega),show n-a.length=0 by omega]
 exact hx
theorem Nj {A B:List (Fp p)} (hA:km A) (hB:km B) (h:∀i,cS A i=cS B i):A=B:=by
 have hl:A.length=B.length:=by
  rcases jp A.length B.length with g | g | g
  ·exact absurd (by rw [←h]; exact ur (by omega)) (hB (B.length-1) (by omega))
  ·exact g
  ·exact absurd (by rw [h]; exact ur (by omega)) (hA (A.length-1) (by omega))
 refine n9 hl fun i h1 h2=>?_
 rw [rp h1,rp h2,h]
theorem Vp {X Y:List (Fp p)} (h:∀i,cS X i=cS Y i):az X=az Y:=
 Nj (ox X) (ox Y) fun i=>by rw [vf,vf,h]
theorem a58 {A:List (Fp p)} (hA:km A):az A=A:=Nj (ox A) hA (vf A)
theorem Iv {X:List (Fp p)} {n:Nat} (h:∀i,n≤i→cS X i=0):(az X).length≤n:=by
 rcases dm n (az X).length with g | g
 ·have:=ox X ((az X).length-1) (by omega)
  rw [vf] at this;exact absurd (h _ (by omega)) this
 ·exact g
theorem zy:km ([]:List (Fp p)):=fun n h=>by cases h
theorem W9 (i:Nat):cS ([]:List (Fp p)) i=0:=rfl
theorem ae7 {A:List (Fp p)} {N:Nat} (h:∀i,(cS A i).len≤N):∀c∈A,c.len≤N:=fun c hc=>by
 obtain ⟨i,hi,rfl⟩:=im hc;rw [rp hi]; exact h i
theorem Do {A:List (Fp p)} {N:Nat} (h:∀c∈A,c.len≤N) (i:Nat):(cS A i).len≤N:=by
 by_cases hi:i<A.length
 ·rw [←rp hi]; exact h _ (bj hi)
 ·rw [ur (by omega),Pol.len_zero]; omega
theorem O1 {n:Nat} {f:Nat→Fp p} (i:Nat):cS ((List.range n).map f) i=if i<n then f i else 0:=by
 unfold cS;rw [gi]
 by_cases h:i<n
 ·rw [gt h,if_pos h]; rfl
 ·rw [cb (by simpa using h),if_neg h]; rfl
noncomputable def f4 (k:Int) (A B:List (Fp p)):List (Fp p):=az ((List.range (max A.length B.length)).map fun i=>cS A i+Pol.C (zp p k)*cS B i)
theorem xi (k:Int) (A B:List (Fp p)) (i:Nat):cS (f4 k A B) i=cS A i+Pol.C (zp p k)*cS B i:=by
 unfold f4;rw [vf,O1]
 split
 ·rfl
 ·rw [ur (A:=A) (by omega),ur (A:=B) (by omega),Gq.mul_zero,Gq.add_zero]
theorem B1 (k:Int) (A B:List (Fp p)):km (f4 k A B):=ox _
theorem zc (k:Int) (A B:List (Fp p)):(f4 k A B).length≤max A.length B.length:=Iv fun i hi=>by
 rw [O1,if_neg (by omega)]
noncomputable def dj (c:Fp p) (k:Nat):List (Fp p):=List.replicate k 0++[c]
theorem ej (c:Fp p) (k:Nat):(dj c k).length=k+1:=by unfold dj; rw [bk,ch]; rfl
theorem Cm (c:Fp p) (k i:Nat):cS (dj c k) i=if i=k then c else 0:=by
 unfold cS dj;rcases jp i k with h | h | h
 ·rw [cd (by rw [ch]; exact h),gk,if_pos h,if_neg (by omega)]; rfl
 ·rw [ci (by rw [ch]; omega),ch,h,nz,if_pos rfl]; rfl
 ·rw [cb (by rw [bk,ch,f0]; omega),if_neg (by omega)]; rfl
theorem xj {c:Fp p} (h:c≠0) (k:Nat):km (dj c k):=fun n hn=>by
 rw [ej] at hn;rw [Cm,if_pos (by omega)]; exact h
theorem x9 {A:List (Fp p)} (i:Nat):cS (pd8 A) i=cS A i:=by
 unfold pd8 cS
 by_cases h:i<A.length
 ·rw [cd h]
 ·rw [ci (by omega),gk,cb (l:=A) (by omega)]
  split <;> rfl
theorem f9 {A:List (Fp p)} (h:A.length≤8):(pd8 A).length=8:=by unfold pd8; rw [bk,ch]; omega
theorem mj {A:List (Fp p)} (h:km A):az (pd8 A)=A:=(Vp fun i=>x9 i).trans (a58 h)
theorem yj {X Y:List (Fp p)} (hX:X.length=8) (hY:Y.length=8) (h:∀i,i<8→cS X i=cS Y i):X=Y:=by
 refine n9 (by omega) fun i h1 h2=>?_
 rw [rp h1,rp h2,h i (by omega)]
theorem v5 (S:List (Fp p)):(az S).length≤S.length:=by
 unfold az; rw [bq]; omega
theorem sd {F:List (Fp p)} (h:F.length=8):pd8 (az F)=F:=yj (f9 (by have:=v5 F; omega)) h fun i _=>by rw [x9,vf]
theorem S6 {X:List (Fp p)} {n i:Nat} {c:Fp p} (h:n<X.length):cS (X.set n c) i=if i=n then c else cS X i:=by
 unfold cS
 by_cases hi:i=n
 ·subst hi; rw [c9 h,if_pos rfl]; rfl
 ·rw [ce (by omega),if_neg hi]
theorem a0t {Q:List (Fp p)} {k:Nat} {c:Fp p} (hQ:Q.length≤8) (hk:k<8) (h0:cS Q k=0):(pd8 Q).set k c=pd8 (f4 1 Q (dj c k)):=by
 have hl:=f9 hQ;have hpl:=zc 1 Q (dj c k);rw [ej] at hpl;refine yj (by rw [cr]; exact hl) (f9 (by omega)) fun i _=>?_
 rw [S6 (by omega),x9,x9,xi,Cm,t9,Pol.C_one,Gq.one_mul]
 by_cases hi:i=k
 ·subst hi; rw [if_pos rfl,if_pos rfl,h0,Gq.zero_add]
 ·rw [if_neg hi,if_neg hi,Gq.add_zero]
theorem Ce {B:List (Fp p)} (h:1≤B.length):∃b,B=b++[cS B (B.length-1)]∧b.length=B.length-1:=by
 have hlt:B.length-1<B.length:=by omega
 refine ⟨B.take (B.length-1),?_,by rw [bq]; omega⟩
 rw [←rp hlt,←dg hlt,show B.length-1+1=B.length by omega,jd]
end
section
variable {p:Int} [IsP p]
theorem Ly {m x:Fp p} {i N:Nat} (hm:m≠0) (hN:m.len≤N+1):∀(k:Nat) (b Q:List (Fp p)),(∀c∈Q,c.len≤N)→∀c∈lf m x i k b Q,c.len≤N
 | _,[],_,h=>h
 | k,y::ys,Q,h=>Ly hm hN (k+1) ys _ (X0 h (by have:=Pol.len_mod (x*du m (i%(m.len-1)) y) hm; omega))
theorem J3 {m:Fp p} {b:List (Fp p)} {N:Nat} (hm:m≠0) (hN:m.len≤N+1):∀(i:Nat) (a Q:List (Fp p)),(∀c∈Q,c.len≤N)→∀c∈ko m b i a Q,c.len≤N
 | _,[],_,h=>h
 | i,_x::xs,Q,h=>J3 hm hN (i+1) xs _ (Ly hm hN 0 b Q h)
theorem nk {m:Fp p} {a b:List (Fp p)} {N:Nat} (hm:m≠0) (hN:m.len≤N+1):∀c∈ee m a b,c.len≤N:=fun c hc=>by
 unfold ee at hc
 split at hc
 ·cases hc
 ·have h1:c∈rg m a b:=lr hc
  exact J3 hm hN 0 a _ (fun c hc=>by rw [f7 hc,Pol.len_zero]; omega) c h1
theorem kf (m:Fp p) (a b:List (Fp p)):km (ee m a b):=by
 unfold ee
 split
 ·exact zy
 ·exact ox _
theorem Ax {m:Fp p} {a b:List (Fp p)}:(ee m a b).length≤a.length+b.length-1:=by
 unfold ee
 split
 ·exact kg _
 ·have:=v5 (rg m a b)
  have hl:(rg m a b).length=a.length+b.length-1:=by unfold rg; rw [ll,ch]
  omega
theorem a50 {m x y:Fp p} {a b:List (Fp p)}:cS (rg m (a++[x]) (b++[y])) (a.length+b.length)=x*du m (a.length%(m.len-1)) y%m:=by
 unfold rg;rw [Ds,Hx];unfold ig;rw [xm _ _ _ (by omega),zw _ _ _ (by rw [bk,bv,cw]; omega)]
 have hN:0+a.length+(0+b.length)=a.length+b.length:=by omega
 rw [hN];unfold cS;rw [c9 (by rw [lm,ll,ch,bk,bk]; simp only [bv,cw]; omega)]
 rw [gk,if_pos (by rw [bk,bk]; simp only [bv,cw]; omega)]
 show (0:Fp p)+_=_;rw [Gq.zero_add,show 0+a.length=a.length by omega]
theorem Uz {m:Fp p} {A B:List (Fp p)} (ha:1≤A.length) (hb:1≤B.length):cS (ee m A B) (A.length-1+(B.length-1))=cS A (A.length-1)*du m ((A.length-1)%(m.len-1)) (cS B (B.length-1))%m:=by
 obtain ⟨a,ea,la⟩:=Ce ha;obtain ⟨b,eb,lb⟩:=Ce hb;have h:=a50 (m:=m) (x:=cS A (A.length-1)) (y:=cS B (B.length-1)) (a:=a) (b:=b);rw [←ea,←eb,la,lb] at h;unfold ee;rw [if_neg (by omega),vf]
 exact h
theorem a2m {m:Fp p} {X Y:List (Fp p)} (hX:km X) (hY:km Y) (h9:X.length+Y.length≤9) (hXl:∀c∈X,c.len<m.len) (hYl:∀c∈Y,c.len<m.len) (hm:Fld m):Se m (pd8 X) (pd8 Y)=.tup [da (skP (pd8 (ee m X Y))),(D.bool true)]:=by
 unfold Se ee;rw [mj hX,mj hY]
 by_cases h0:X.length=0∨Y.length=0
 ·rw [if_pos h0,if_pos h0,Rd]
 ·rw [if_neg h0,if_neg (by omega),if_neg h0]
  obtain ⟨a,ea,la⟩:=Ce (B:=X) (by omega)
  obtain ⟨b,eb,lb⟩:=Ce (B:=Y) (by omega)
  have hx:=hX (X.length-1) (by omega)
  have hy:=hY (Y.length-1) (by omega)
  have ht:=Vr hm (a:=a) (b:=b) hx (hXl _ (by rw [←rp (show X.length-1<X.length by omega)]; exact bj _)) hy (hYl _ (by rw [←rp (show Y.length-1<Y.length by omega)]; exact bj _))
  rw [←ea,←eb] at ht;rw [ht,a6g (by omega) (by omega) (by omega)]
theorem Nf {m x y:Fp p} (hm:Fld m) (hx:x.len<m.len) (hy:y≠0) (hyl:y.len<m.len):(x*ji m y%m)*y%m=x∧y*(x*ji m y%m)%m=x:=by
 have h0:m≠0:=hm.mon.2;have e:=Ey hm hy hyl
 have key:Quo.mk m ((x*ji m y%m)*y)=Quo.mk m x:=by
  rw [Quo.mk_mul,Pol.mk_mod,Quo.mk_mul,Gq.mul_assoc,e,Gq.mul_one]
 have h1:=(Pol.mod_eq_iff h0).2 key;rw [Pol.mod_small hx] at h1;exact ⟨h1,by rw [Gq.mul_comm]; exact h1⟩
theorem Tv {m:Fp p}:∀(b a:Nat) (x:Fp p),du m (a+b) x=du m a (du m b x)
 | 0,_,_=>rfl
 | b+1,a,x=>by
  show du m (a+b) (pw x p.toNat%m)=du m a (du m b (pw x p.toNat%m));exact Tv b a _
theorem Xv {m:Fp p} (hm:Fld m) (j:Nat) {z:Fp p} (hz:z.len<m.len):du m (j%(m.len-1)) (du m ((m.len-1-j%(m.len-1))%(m.len-1)) z)=z:=by
 have h2:=hm.two;have hlt:=Nat.mod_lt j (show 0<m.len-1 by omega)
 rw [z9 hm _ hz,←Tv,show j%(m.len-1)+(m.len-1-j%(m.len-1))=m.len-1 by omega,←z9 hm _ hz,Nat.mod_self]
 rfl
noncomputable def qc (left:Bool) (m:Fp p) (A B:List (Fp p)):Fp p:=
 if left then du m ((m.len-1-(B.length-1)%(m.len-1))%(m.len-1)) (cS A (A.length-1)*ji m (cS B (B.length-1))%m)
 else cS A (A.length-1)*ji m (du m ((A.length-B.length)%(m.len-1)) (cS B (B.length-1)))%m
noncomputable def qT (left:Bool) (m:Fp p) (A B:List (Fp p)):List (Fp p):=dj (qc left m A B) (A.length-B.length)
noncomputable def qP (left:Bool) (m:Fp p) (A B:List (Fp p)):List (Fp p):=if left then ee m B (qT left m A B) else ee m (qT left m A B) B
noncomputable def dx (left:Bool) (m:Fp p) (B:List (Fp p)):Nat→List (Fp p)→List (Fp p)→List (Fp p)×List (Fp p)
 | 0,Q,A=>(Q,A)
 | n+1,Q,A=>if A.length<B.length then (Q,A) else dx left m B n (f4 1 Q (qT left m A B)) (f4 (-1) A (qP left m A B))
end
section
variable {p:Int}
structure Sk (m:Fp p) (A:List (Fp p)):Prop where
 trim:km A
 eight:A.length≤8
 res:∀c∈A,c.len<m.len
theorem Sk.cs {m:Fp p} {A:List (Fp p)} (h:Sk m A) (hm:m≠0) (i:Nat):(cS A i).len<m.len:=by
 have:=Do (N:=m.len-1) (fun c hc=>by have:=h.res c hc; omega) i
 have:=Pol.len_pos hm;omega
theorem Sk.top {m:Fp p} {A:List (Fp p)} (h:Sk m A) (h1:1≤A.length):cS A (A.length-1)≠0:=h.trim _ (by omega)
theorem Sk.nil (m:Fp p):Sk m []:=⟨zy,by simp,fun c h=>by cases h⟩
theorem Sk.of8 {m:Fp p} {F:List (Fp p)} (h8:F.length=8) (h:∀c∈F,c.len<m.len):Sk m (az F):=
 ⟨ox F,by have:=v5 F; omega,fun c hc=>h c (lr hc)⟩
end
section
variable {p:Int} [IsP p]
theorem a69 {p:Int} {a:Fp p} {n:Nat} (h:a.len≤n):a.c n=0:=a.lt_len n h
theorem Sk.plus {m:Fp p} {A B:List (Fp p)} (hm:m≠0) (hA:Sk m A) (hB:Sk m B) (k:Int):Sk m (f4 k A B):=by
 have h1:=Pol.len_pos hm;refine ⟨B1 k A B,by have:=zc k A B; have:=hA.eight; have:=hB.eight; omega,fun c hc=>?_⟩
 have:=ae7 (A:=f4 k A B) (N:=m.len-1) (fun i=>by
  rw [xi];have a1:=hA.cs hm i;have a2:=hB.cs hm i;exact Pol.len_add_le (by omega) (Pol.len_le fun j hj=>by rw [Pol.c_Cmul,a69 (by omega),Gq.mul_zero])) c hc
 omega
theorem Af (left:Bool) {m:Fp p} (hm:Fld m) {A B:List (Fp p)} (hA:Sk m A) (hB:Sk m B) (h1:1≤B.length) (hle:B.length≤A.length) :
 qc left m A B≠0∧(qc left m A B).len<m.len∧Sk m (qT left m A B)∧Sk m (qP left m A B)∧(f4 (-1) A (qP left m A B)).length<A.length∧Sk m (f4 (-1) A (qP left m A B)):=by
 have h0:m≠0:=hm.mon.2;have hx:=hA.top (by omega)
 have hxl:=hA.cs h0 (A.length-1);have hy:=hB.top h1;have hyl:=hB.cs h0 (B.length-1);have hfy:du m ((A.length-B.length)%(m.len-1)) (cS B (B.length-1))≠0:=Gb hm _ _ hy hyl;have hfl:=my h0 ((A.length-B.length)%(m.len-1)) (cS B (B.length-1)) hyl;have hb1:=Nf hm hxl hfy hfl;have hb2:=Nf hm hxl hy hyl;have hzl:(cS A (A.length-1)*ji m (cS B (B.length-1))%m).len<m.len:=Pol.len_mod _ h0
 have hz0:cS A (A.length-1)*ji m (cS B (B.length-1))%m≠0:=fun h=>by
  have:=hb2.1;rw [h,Gq.zero_mul,Pol.zero_mod h0] at this;exact hx this.symm
 have hc0:qc left m A B≠0:=by
  unfold qc;cases left with
  | true=>simp only [if_true]; exact Gb hm _ _ hz0 hzl
  | false=>
   simp only [b9,if_false];intro h;have:=hb1.1;rw [h,Gq.zero_mul,Pol.zero_mod h0] at this;exact hx this.symm
 have hcl:(qc left m A B).len<m.len:=by
  unfold qc;cases left with
  | true=>simp only [if_true]; exact my h0 _ _ hzl
  | false=>simp only [b9,if_false]; exact Pol.len_mod _ h0
 have hTl:(qT left m A B).length=A.length-B.length+1:=ej _ _;have h8:=hA.eight
 have hT:Sk m (qT left m A B):=⟨xj hc0 _,by omega,fun c hc=>by
  unfold qT dj at hc;rcases bp.1 hc with h | h
  ·rw [f7 h,Pol.len_zero]; exact Pol.len_pos h0
  ·rw [cl.1 h]; exact hcl⟩
 have hPl:(qP left m A B).length≤A.length:=by
  unfold qP;cases left with
  | true=>have:=Ax (m:=m) (a:=B) (b:=qT true m A B); simp only [if_true]; omega
  | false=>have:=Ax (m:=m) (a:=qT false m A B) (b:=B); simp only [b9,if_false]; omega
 have hP:Sk m (qP left m A B):=by
  have hm1:=Pol.len_pos h0;refine ⟨?_,by omega,?_⟩
  ·unfold qP
   cases left with
   | true=>exact kf _ _ _
   | false=>exact kf _ _ _
  ·intro c hc
   have:c.len≤m.len-1:=by
    unfold qP at hc;cases left with
    | true=>exact nk h0 (by omega) c hc
    | false=>exact nk h0 (by omega) c hc
   omega
 have htop:cS (qP left m A B) (A.length-1)=cS A (A.length-1):=by
  unfold qP;cases left with
  | true=>
   simp only [if_true];have h:=Uz (m:=m) (A:=B) (B:=qT true m A B) h1 (by omega)
   rw [hTl,show B.length-1+(A.length-B.length+1-1)=A.length-1 by omega,show A.length-B.length+1-1=A.length-B.length by omega] at h
   rw [h];unfold qT;rw [Cm,if_pos rfl];unfold qc;simp only [if_true];rw [Xv hm (B.length-1) hzl];exact hb2.2
  | false=>
   simp only [b9,if_false];have h:=Uz (m:=m) (A:=qT false m A B) (B:=B) (by omega) h1
   rw [hTl,show A.length-B.length+1-1+(B.length-1)=A.length-1 by omega,show A.length-B.length+1-1=A.length-B.length by omega] at h
   rw [h];unfold qT;rw [Cm,if_pos rfl];unfold qc;simp only [b9,if_false];exact hb1.1
 have hneg:∀x:Fp p,x+Pol.C (zp p (-1))*x=0:=fun x=>by
  rw [Bp,t9,Pol.C_neg,Pol.C_one];exact bo [x] rfl
 refine ⟨hc0,hcl,hT,hP,?_,hA.plus h0 hP (-1)⟩
 have hlt:(f4 (-1) A (qP left m A B)).length≤A.length-1:=Iv fun i hi=>by
  rw [O1]
  split
  ·rcases dm i A.length with g | g
   ·rw [show i=A.length-1 by omega,htop,hneg]
   ·rw [ur g,ur (A:=qP left m A B) (by omega),Gq.mul_zero,Gq.add_zero]
  ·rfl
 omega
def Zto (Q A B:List (Fp p)):Prop:=∀j,j+B.length≤A.length→cS Q j=0
theorem Zto.step {left:Bool} {m:Fp p} (hm:Fld m) {Q A B:List (Fp p)} (hA:Sk m A) (hB:Sk m B) (h1:1≤B.length) (hle:B.length≤A.length) (hz:Zto Q A B):Zto (f4 1 Q (qT left m A B)) (f4 (-1) A (qP left m A B)) B:=fun j hj=>by
 obtain ⟨_,_,_,_,h,_⟩:=Af left hm hA hB h1 hle;unfold qT;rw [xi,hz j (by omega),Cm,if_neg (by omega),Gq.mul_zero,Gq.add_zero]
theorem ov (left:Bool) {m:Fp p} (hm:Fld m) {B:List (Fp p)} (hB:Sk m B) (h1:1≤B.length):∀(n:Nat) (Q A:List (Fp p)),A.length≤n→Sk m Q→Sk m A→Sk m (dx left m B n Q A).1∧Sk m (dx left m B n Q A).2∧(dx left m B n Q A).2.length<B.length
 | 0,Q,A,h,hQ,hA=>⟨hQ,hA,by show A.length<B.length; omega⟩
 | n+1,Q,A,h,hQ,hA=>by
  unfold dx
  split
  ·exact ⟨hQ,hA,by assumption⟩
  ·obtain ⟨_,_,hT,hP,hl,hA'⟩:=Af left hm hA hB h1 (by omega)
   exact ov left hm hB h1 n _ _ (by omega) (hQ.plus hm.mon.2 hT 1) hA'
end
end Pe

namespace Pe
open Go Gq
variable {T:Nat→Option Fn} {A:ah}
def wi (O:ah):Prop:=∀(p:Int) [IsP p] (c:Fp p) (k:Nat),k<10000→ask O F22 [(D.sl .leaf (ab .i64 (row c))),(D.int .i64 k)]=some (skD (dj c k))
theorem a23 {p:Int} (c:Fp p) (k:Nat):(List.replicate (k+1) (D.sl .leaf [])).set k (D.sl .leaf (ab .i64 (row c)))=(dj c k).map bw:=by
 unfold dj;rw [fd,fu,show bw (0:Fp p)=.sl .leaf [] by show (D.sl .leaf (ab .i64 (row (0:Fp p))))=_; rw [dq,gy],List.replicate_succ',ou _ _ (by rw [ch]; omega),ch,nz]
 rfl
theorem a4e (hT:T F22=some Z22):wi (den T A):=by
 intro p ip c k hk;have w1:IntKind.i64.wrap ((k:Int)+1)=((k+1:Nat):Int):=(w64 (x:=(k:Int)+1) (by omega)).trans (by omega)
 have h24:(k+1)*24≤1099511627776:=by omega
 have hn:(0:Int)≤((k+1:Nat):Int):=by omega
 have hlt:k<k+1:=by omega
 have hsk:skD (dj c k)=.sl .leaf ((dj c k).map bw):=rfl;have htm:=a23 c k;have hTL:((dj c k).map bw).length=k+1:=by rw [ap,ej]
 have htk:((dj c k).map bw).take (k+1)=(dj c k).map bw:=bb (by omega)
 rw [hsk];refine bi hT rfl ?_;have hRL:(List.replicate (k+1) (D.sl .leaf [])).length=k+1:=ch ..;have hRg:∀h:k<(List.replicate (k+1) (D.sl .leaf [])).length,(List.replicate (k+1) (D.sl .leaf []))[k]'h=D.sl .leaf []:=fun h=>List.getElem_replicate h
 generalize (dj c k).map bw=TD at *;generalize row c=Rc at *;generalize hRR:List.replicate (k+1) (D.sl .leaf [])=RR at *;generalize k+1=k1 at *;simp -implicitDefEqProofs [Z22,Z22_B,w1,h24,hlt,hRR,hRL,hRg,htm,hTL,htk]
def Sy (O:ah):Prop:=∀(p:Int) [IsP p] (A:List (Fp p)) (i:Nat),ask O F24 [skD A,(D.int .i64 i)]=some (D.sl .leaf (ab .i64 (row (cS A i))))
theorem aci (hT:T F24=some Z24):Sy (den T A):=by
 intro p ip S i;have hsk:skD S=.sl .leaf (S.map bw):=rfl;have hL:(S.map bw).length=S.length:=ap ..;rw [hsk];refine bi hT rfl ?_
 by_cases h:i<S.length
 ·have hx:∀h:i<(S.map bw).length,(S.map bw)[i]'h=(D.sl .leaf (ab .i64 (row (cS S i)))):=fun h'=>by rw [ca,rp h]
  generalize row (cS S i)=Rc at *;generalize S.map bw=SD at *;simp -implicitDefEqProofs [Z24,Z24_B,ac,h,hL,hx]
 ·rw [ur (by omega),dq]
  generalize S.map bw=SD at *;simp -implicitDefEqProofs [Z24,Z24_B,ac,h,hL,gy]
theorem a73 {O:ah} (hat:Sy O) (hco:mg O) {p:Int} [IsP p] {m:Fp p} {X Y:List (Fp p)} {k:Int} (hk:-1000≤k∧k≤1000) (hX:∀c∈X,c.len≤64) (hY:∀c∈Y,c.len≤64) {n:Nat} (hn:n<100000) {cp cq:Option Nat}:∀(r i:Nat) (Q:List D),i+r=n→Q.length=n→(∀d∈Q,d.sh.beq .leaf=true)→Q.take i=((List.range n).map fun i=>bw (cS X i+Pol.C (zp p k)*cS Y i)).take i →
 dn O 0 (.loop Z10_L0) ⟨[(1,.d (skD X)),(2,.d (skD Y)),(3,(.d (.int .i64 k))),(4,.ptr 0 []),(9,.sl 1 [] 0 n cp),(18,(.d (.int .i64 n))),(19,(.d (.int .i64 i)))],[.box false (ka m),.sl false .leaf Q]⟩ =
  some (.exit 0,⟨[(1,.d (skD X)),(2,.d (skD Y)),(3,(.d (.int .i64 k))),(4,.ptr 0 []),(9,.sl 1 [] 0 n cp),(18,(.d (.int .i64 n))),(19,(.d (.int .i64 n))),(20,(.d (.bool false)))],[.box false (ka m),.sl false .leaf ((List.range n).map fun i=>bw (cS X i+Pol.C (zp p k)*cS Y i))]⟩)
 | 0,i,Q,hi,hq,hQ,ht=>by
  obtain rfl:i=n:=by omega
  rw [bb (by omega),bb (by rw [ap,gu]; omega)] at ht
  subst ht;refine bt ?_;generalize (List.range i).map (fun i=>bw (cS X i+Pol.C (zp p k)*cS Y i))=LQ at *
  simp -implicitDefEqProofs [Z10_L0,ac]
 | r+1,i,Q,hi,hq,hQ,ht=>by
  have hlt:i<n:=by omega
  have hltq:i<Q.length:=by omega
  have hsh:∀h:i<Q.length,(Q[i]'h).sh.beq .leaf=true:=fun h=>hQ _ (bj h)
  have e1:=hat p X i;have e2:=hat p Y i;have a1:=Do hX i;have a2:=Do hY i;have e3:=hco p k (cS X i) (cS Y i) (by omega) (by omega) (by omega) (by omega)
  have w4:IntKind.i64.wrap ((i:Int)+1)=((i+1:Nat):Int):=(w64 (x:=(i:Int)+1) (by omega)).trans (by omega)
  have hLn:((List.range n).map fun i=>bw (cS X i+Pol.C (zp p k)*cS Y i)).length=n:=by rw [ap,gu]
  refine bm ?_ (a73 hat hco (m:=m) hk hX hY hn (cp:=cp) (cq:=cq) r (i+1) (Q.set i (D.sl .leaf (ab .i64 (row (cS X i+Pol.C (zp p k)*cS Y i))))) (by omega) (by rw [cr]; exact hq) (fun d hd=>by
   rcases dh hd with h1 | rfl
   ·exact hQ d h1
   ·rfl) (by
   rw [dg (by rw [cr]; exact hltq),List.getElem_set_self,List.take_set,List.set_eq_of_length_le (by rw [bq]; omega),ht,dg (by omega),ca,List.getElem_range]))
  have hfd:ka m=.st [.leaf,.leaf] [(D.int .i64 p),(D.sl .leaf (ab .i64 (row m)))]:=rfl;have hsX:skD X=.sl .leaf (X.map bw):=rfl;have hsY:skD Y=.sl .leaf (Y.map bw):=rfl;rw [hfd];rw [hsX] at e1 ⊢;rw [hsY] at e2 ⊢;generalize row (cS X i+Pol.C (zp p k)*cS Y i)=R3 at *;generalize row (cS X i)=R1 at *;generalize row (cS Y i)=R2 at *;generalize X.map bw=XD at *;generalize Y.map bw=YD at *;generalize row m=Rm at *;simp -implicitDefEqProofs [Z10_L0,ac,hlt,hq,hsh,e1,e2,e3,w4]
def Ic (O:ah):Prop:=∀(p:Int) [IsP p] (m:Fp p) (X Y:List (Fp p)) (k:Int),-1000≤k→k≤1000→X.length<10000→Y.length<10000→(∀c∈X,c.len≤64)→(∀c∈Y,c.len≤64)→ask O F10 [ka m,skD X,skD Y,(D.int .i64 k)]=some (skD (f4 k X Y))
theorem af3 (hT:T F10=some Z10) (hat:Sy (den T A)) (hco:mg (den T A)) (htr:Ay (den T A)):Ic (den T A):=by
 intro p ip m X Y k hk1 hk2 hXl hYl hX hY;have e1:=a73 (O:=den T A) hat hco (m:=m) ⟨hk1,hk2⟩ hX hY (n:=max X.length Y.length) (by omega) (cp:=some (max X.length Y.length)) (cq:=none) (max X.length Y.length) 0 (List.replicate (max X.length Y.length) (.sl .leaf [])) (bn _) (ch ..) (fun d hd=>by rw [f7 hd]; rfl) (by rw [ff,ff])
 have e00:((0:Nat):Int)=0:=rfl;have e2:=htr p ((List.range (max X.length Y.length)).map fun i=>cS X i+Pol.C (zp p k)*cS Y i) (by rw [ap,gu]; omega)
 have adq:skD ((List.range (max X.length Y.length)).map fun i=>cS X i+Pol.C (zp p k)*cS Y i)=.sl .leaf ((List.range (max X.length Y.length)).map fun i=>bw (cS X i+Pol.C (zp p k)*cS Y i)):=by
  show D.sl .leaf (List.map _ (List.map _ _))=_;rw [sy]; rfl
 rw [adq,show az ((List.range (max X.length Y.length)).map fun i=>cS X i+Pol.C (zp p k)*cS Y i)=f4 k X Y from rfl] at e2
 rw [e00] at e1;have hsX:skD X=.sl .leaf (X.map bw):=rfl;have hsY:skD Y=.sl .leaf (Y.map bw):=rfl;have hsP:skD (f4 k X Y)=.sl .leaf ((f4 k X Y).map bw):=rfl;have hX1:(X.map bw).length=X.length:=ap ..;have hY1:(Y.map bw).length=Y.length:=ap ..;have hmx:(if X.length<Y.length then ((Y.length:Nat):Int) else ((X.length:Nat):Int))=((max X.length Y.length:Nat):Int):=by split <;> omega
 have h24:max X.length Y.length*24≤1099511627776:=by omega
 have hLn:((List.range (max X.length Y.length)).map fun i=>bw (cS X i+Pol.C (zp p k)*cS Y i)).length=max X.length Y.length:=by rw [ap,gu]
 have htk:((List.range (max X.length Y.length)).map fun i=>bw (cS X i+Pol.C (zp p k)*cS Y i)).take (max X.length Y.length)=((List.range (max X.length Y.length)).map fun i=>bw (cS X i+Pol.C (zp p k)*cS Y i)):=bb (by omega)
 rw [hsP] at e2 ⊢;rw [hsX,hsY] at e1 ⊢;refine bi hT rfl ?_;generalize ((List.range (max X.length Y.length)).map fun i=>bw (cS X i+Pol.C (zp p k)*cS Y i))=LQ at *
 generalize X.map bw=XD at *;generalize Y.map bw=YD at *;generalize (f4 k X Y).map bw=PD at *;generalize hmm:max X.length Y.length=n at *;simp -implicitDefEqProofs [Z10,Z10_B,hX1,hY1,hmx,h24,e1,e2,hLn,htk]
def Gl (O:ah):Prop:=∀(p:Int) [IsP p] (m:Fp p) (a b:List (Fp p)),2≤m.len→m.len≤64→(∀c∈a,c.len≤64)→(∀c∈b,c.len≤64)→a.length<10000→b.length<10000→ask O Fq [ka m,skD a,skD b]=some (skD (ee m a b))
theorem ais {O:ah} (h:afb O):Gl O:=by
 intro p ip m a b h2 hml ha hb hal hbl;rw [h p m a b h2 hml ha hb hal hbl];unfold ee
 split <;> rfl
theorem a6a {O:ah} (hfr:we O) (hin:rh O) (hpr:n6 O) (hsi:wi O) (hpl:Ic O) (hby:Gl O) {p:Int} [IsP p] {m:Fp p} (hm:Fld m) {B:List (Fp p)} (hB:Sk m B) (h1:1≤B.length):∀(r:Nat) (Q X:List (Fp p)),X.length≤r→Sk m Q→Sk m X →
 dn O 0 (.loop Zr_L0) ⟨[(1,.d (skD X)),(2,.d (skD B)),(3,.ptr 0 []),(8,.d (skD Q))],[.box false (ka m)]⟩ =
  some (.exit 0,⟨[(1,.d (skD (dx false m B r Q X).2)),(2,.d (skD B)),(3,.ptr 0 []),(8,.d (skD (dx false m B r Q X).1)),(16,(.d (.bool false)))],[.box false (ka m)]⟩)
 | 0,Q,X,hr,hQ,hX=>by
  have hlt:¬ B.length≤X.length:=by omega
  have hsX:skD X=.sl .leaf (X.map bw):=rfl;have hsB:skD B=.sl .leaf (B.map bw):=rfl;have hX1:(X.map bw).length=X.length:=ap ..;have hB1:(B.map bw).length=B.length:=ap ..;refine bt ?_;show _=some (_,(⟨[(1,.d (skD X)),_,_,(8,.d (skD Q)),_],_⟩:St));rw [hsX,hsB];generalize X.map bw=XD at *;generalize B.map bw=BD at *;simp -implicitDefEqProofs [Zr_L0,ac,hX1,hB1,hlt]
 | r+1,Q,X,hr,hQ,hX=>by
  have hsX:skD X=.sl .leaf (X.map bw):=rfl;have hsB:skD B=.sl .leaf (B.map bw):=rfl;have hsQ:skD Q=.sl .leaf (Q.map bw):=rfl;have hX1:(X.map bw).length=X.length:=ap ..;have hB1:(B.map bw).length=B.length:=ap ..
  by_cases hlt:X.length<B.length
  ·have hg:dx false m B (r+1) Q X=(Q,X):=by unfold dx; rw [if_pos hlt]
   have hlt':¬ B.length≤X.length:=by omega
   rw [hg];refine bt ?_;rw [hsX,hsB];generalize X.map bw=XD at *;generalize B.map bw=BD at *;simp -implicitDefEqProofs [Zr_L0,ac,hX1,hB1,hlt']
  ·have hg:dx false m B (r+1) Q X=dx false m B r (f4 1 Q (qT false m X B)) (f4 (-1) X (qP false m X B)):=by
    conv=>lhs; unfold dx
    rw [if_neg hlt]
   have hle:B.length≤X.length:=by omega
   obtain ⟨s1,s2,s3,s4,s5,s6⟩:=Af false hm hX hB h1 hle;have h2:=hm.two;have h5:=hm.five;have h8:=hX.eight;have hB8:=hB.eight;have hm0:=hm.mon.2;have ih:=a6a hfr hin hpr hsi hpl hby hm hB h1 r (f4 1 Q (qT false m X B)) (f4 (-1) X (qP false m X B)) (by omega) (hQ.plus hm0 s3 1) s6
   rw [←hg] at ih;have hyl:=hB.cs hm0 (B.length-1);have hxl:=hX.cs hm0 (X.length-1);have e1:=hfr p m (cS B (B.length-1)) (X.length-B.length) h2 (by omega) (by omega) (by omega)
   have hfl:=my hm0 ((X.length-B.length)%(m.len-1)) (cS B (B.length-1)) hyl;have e2:=hin p m (du m ((X.length-B.length)%(m.len-1)) (cS B (B.length-1))) hm0 (by omega) (by omega)
   have hil:=ym hm0 (du m ((X.length-B.length)%(m.len-1)) (cS B (B.length-1)));have e3:=hpr p m (cS X (X.length-1)) (ji m (du m ((X.length-B.length)%(m.len-1)) (cS B (B.length-1)))) hm0 (by omega) (by omega) (by omega)
   rw [show cS X (X.length-1)*ji m (du m ((X.length-B.length)%(m.len-1)) (cS B (B.length-1)))%m=qc false m X B from rfl] at e3;have e4:=hsi p (qc false m X B) (X.length-B.length) (by omega)
   rw [show dj (qc false m X B) (X.length-B.length)=qT false m X B from rfl] at e4;have e5:=hpl p m Q (qT false m X B) 1 (by omega) (by omega) (by have:=hQ.eight; omega) (by have:=s3.eight; omega) (fun c hc=>by have:=hQ.res c hc; omega) (fun c hc=>by have:=s3.res c hc; omega)
   have e6:=hby p m (qT false m X B) B h2 (by omega) (fun c hc=>by have:=s3.res c hc; omega) (fun c hc=>by have:=hB.res c hc; omega) (by have:=s3.eight; omega) (by omega)
   rw [show ee m (qT false m X B) B=qP false m X B from rfl] at e6;have e7:=hpl p m X (qP false m X B) (-1) (by omega) (by omega) (by omega) (by have:=s4.eight; omega) (fun c hc=>by have:=hX.res c hc; omega) (fun c hc=>by have:=s4.res c hc; omega)
   have w1:IntKind.i64.wrap ((X.length:Int)-B.length)=((X.length-B.length:Nat):Int):=(w64 (by omega)).trans (by omega)
   have w2:IntKind.i64.wrap ((X.length:Int)-1)=((X.length-1:Nat):Int):=(w64 (by omega)).trans (by omega)
   have w3:IntKind.i64.wrap ((B.length:Int)-1)=((B.length-1:Nat):Int):=(w64 (by omega)).trans (by omega)
   have hx1:∀h:X.length-1<(X.map bw).length,(X.map bw)[X.length-1]'h=(D.sl .leaf (ab .i64 (row (cS X (X.length-1))))):=fun h=>by rw [ca,rp (by omega)]
   have hx2:∀h:B.length-1<(B.map bw).length,(B.map bw)[B.length-1]'h=(D.sl .leaf (ab .i64 (row (cS B (B.length-1))))):=fun h=>by rw [ca,rp (by omega)]
   have hb1:X.length-1<X.length:=by omega
   have hb2:B.length-1<B.length:=by omega
   have hfd:ka m=.st [.leaf,.leaf] [(D.int .i64 p),(D.sl .leaf (ab .i64 (row m)))]:=rfl;refine bm ?_ ih;rw [show skD (f4 1 Q (qT false m X B))=.sl .leaf ((f4 1 Q (qT false m X B)).map bw) from rfl] at e5 ⊢;rw [show skD (f4 (-1) X (qP false m X B))=.sl .leaf ((f4 (-1) X (qP false m X B)).map bw) from rfl] at e7 ⊢;rw [show skD (qT false m X B)=.sl .leaf ((qT false m X B).map bw) from rfl] at e4 e5 e6;rw [show skD (qP false m X B)=.sl .leaf ((qP false m X B).map bw) from rfl] at e6 e7;rw [hsX] at e7 ⊢;rw [hsB] at e6 ⊢;rw [hsQ] at e5 ⊢;rw [hfd] at e1 e2 e3 e5 e6 e7 ⊢;generalize (f4 1 Q (qT false m X B)).map bw=D1 at *;generalize (f4 (-1) X (qP false m X B)).map bw=D2 at *;generalize (qT false m X B).map bw=D3 at *;generalize (qP false m X B).map bw=D4 at *;generalize row (qc false m X B)=R1 at *;generalize row (ji m (du m ((X.length-B.length)%(m.len-1)) (cS B (B.length-1))))=R2 at *;generalize row (du m ((X.length-B.length)%(m.len-1)) (cS B (B.length-1)))=R3 at *;generalize row (cS X (X.length-1))=R4 at *;generalize row (cS B (B.length-1))=R5 at *;generalize X.map bw=XD at *;generalize B.map bw=BD at *;generalize Q.map bw=QD at *;generalize row m=Rm at *;generalize X.length-B.length=xb at *;generalize X.length-1=x1 at *;generalize B.length-1=b1 at *;simp -implicitDefEqProofs [Zr_L0,ac,hX1,hB1,hle,hb1,hb2,hx1,hx2,w1,w2,w3,e1,e2,e3,e4,e5,e6,e7]
def It (O:ah) (F:Nat) (left:Bool):Prop:=∀(p:Int) [IsP p] (m:Fp p) (X B:List (Fp p)),Fld m→Sk m X→Sk m B→1≤B.length→ask O F [ka m,skD X,skD B]=some (.tup [skD (dx left m B X.length [] X).1,skD (dx left m B X.length [] X).2])
theorem aed (hT:T Fr=some Zr) (hfr:we (den T A)) (hin:rh (den T A)) (hpr:n6 (den T A)) (hsi:wi (den T A)) (hpl:Ic (den T A)) (hby:Gl (den T A)):It (den T A) Fr false:=by
 intro p ip m X B hm hX hB h1;have e:=a6a (O:=den T A) hfr hin hpr hsi hpl hby hm hB h1 X.length [] X (ba _) (Sk.nil m) hX;rw [show skD ([]:List (Fp p))=.sl .leaf [] from rfl] at e;rw [show skD (dx false m B X.length [] X).1=.sl .leaf ((dx false m B X.length [] X).1.map bw) from rfl,show skD (dx false m B X.length [] X).2=.sl .leaf ((dx false m B X.length [] X).2.map bw) from rfl] at e ⊢;rw [show skD X=.sl .leaf (X.map bw) from rfl,show skD B=.sl .leaf (B.map bw) from rfl] at e ⊢;refine bi hT rfl ?_;generalize (dx false m B X.length [] X).1.map bw=D1 at *;generalize (dx false m B X.length [] X).2.map bw=D2 at *;generalize X.map bw=XD at *;generalize B.map bw=BD at *;simp -implicitDefEqProofs [Zr,Zr_B,e]
end Pe


namespace Pe
open Go Gq
variable {T:Nat→Option Fn} {A:ah}
section
variable {p:Int} [IsP p]
end
end Pe

namespace Pe
open Go Gq
variable {T:Nat→Option Fn} {A:ah}
section
variable {α:Type}
def X2 (f:Nat→α):Nat→Nat→List α→List α
 | 0,_,l=>l
 | m+1,i,l=>X2 f m (i+1) (l.set i (f i))
theorem V1 (f:Nat→α):∀(m i:Nat) (l:List α) (j:Nat),(X2 f m i l)[j]? = if i≤j∧j<i+m∧j<l.length then some (f j) else l[j]?
 | 0,i,l,j=>by rw [X2,if_neg (by omega)]
 | m+1,i,l,j=>by
  rw [X2,V1 f m,cr]
  by_cases h1:i+1≤j∧j<i+1+m∧j<l.length
  ·rw [if_pos h1,if_pos (by omega)]
  ·rw [if_neg h1]
   by_cases h2:j=i
   ·subst h2
    by_cases h3:j<l.length
    ·rw [if_pos (by omega),c9 h3]
    ·rw [if_neg (by omega),cb (by simpa using h3),cb (by omega)]
   ·rw [ce (jo h2),if_neg (by omega)]
theorem U2 (f:Nat→α) (n:Nat) (l:List α) (hl:l.length=n):X2 f n 0 l=(List.range n).map f:=by
 apply fh;intro j;rw [V1,gi]
 by_cases hj:j<n
 ·rw [if_pos (by omega),gt hj]; rfl
 ·rw [if_neg (by omega),cb (by omega),cb (by simpa using hj)]; rfl
end
end Pe

namespace Pe
open Go Gq
variable {T:Nat→Option Fn} {A:ah}
def Eo (O:ah):Prop:=∀(p:Int) [IsP p] (m a:Fp p),m≠0→m.len≤63→a≠0→a.len<m.len→ask O F4s [(D.int .i64 p),(D.arr 64 .leaf (ab .u8 (pad (row a)))),(D.arr 64 .leaf (ab .u8 (pad (row m))))]=some (D.arr 64 .leaf (ab .u8 (pad (row (ji m a)))))
theorem aab (hT:T F4s=some Z4s) (hmo:xy (den T A)) (hb:Cf (den T A)):Eo (den T A):=by
 intro p ip m a hm hml ha hal;have e2:=hb p a m (.inl ha) (by omega) (by omega)
 have e3:=hmo p (Pol.bezout a m).2.1 m hm (ae6 ha hml) (by omega)
 have e4:(Pol.bezout a m).2.1%m=ji m a:=rfl;rw [e4] at e3;refine bi hT rfl ?_;generalize pad (row (ji m a))=R at *;generalize pad (row (Pol.bezout a m).1)=R1 at *;generalize pad (row (Pol.bezout a m).2.1)=R2 at *;generalize pad (row (Pol.bezout a m).2.2)=R3 at *;generalize pad (row a)=Pa at *;generalize pad (row m)=Pm at *;simp -implicitDefEqProofs [Z4s,Z4s_B,e2,e3,List.replicate]
noncomputable abbrev eS {p:Int} (X:List (Fp p)):D:=da (skP (pd8 X))
theorem d9 {p:Int} (X:List (Fp p)):eS X=.arr 8 (.arr 64 .leaf) ((skP (pd8 X)).map aw):=rfl
theorem Tc {p:Int} {X:List (Fp p)} {i:Nat} (hX:X.length≤8) (hi:i<8):∀h:i<((skP (pd8 X)).map aw).length,((skP (pd8 X)).map aw)[i]'h=(D.arr 64 .leaf (ab .u8 (pad (row (cS X i))))):=fun h=>by
 rw [ca,ca,rp (by rw [f9 hX]; exact hi),x9]
theorem Mz {p:Int} {X:List (Fp p)} (hX:X.length≤8):((skP (pd8 X)).map aw).length=8:=by rw [ap,ap,f9 hX]
def Jq (O:ah):Prop:=∀(p:Int) [IsP p] (c:Fp p) (k:Nat),k<8→ask O F54 [(D.arr 64 .leaf (ab .u8 (pad (row c)))),(D.int .i64 k)]=some (eS (dj c k))
theorem a5l {p:Int} (c:Fp p) {k:Nat} (hk:k<8):pd8 (dj c k)=zs8.set k c:=by
 have hz:pd8 ([]:List (Fp p))=zs8:=rfl;have h:=a0t (Q:=([]:List (Fp p))) (k:=k) (c:=c) (by simp) hk rfl
 rw [hz] at h;rw [h];refine yj (f9 (by rw [ej]; omega)) (f9 (by have:=zc 1 ([]:List (Fp p)) (dj c k); rw [ej] at this; simp at this; omega)) fun i _=>?_
 rw [x9,x9,xi,W9,t9,Pol.C_one,Gq.one_mul,Gq.zero_add]
theorem a9m (hT:T F54=some Z54):Jq (den T A):=by
 intro p ip c k hk;rw [d9,a5l c hk,show (skP ((zs8 (p:=p)).set k c)).map aw=z8.set k (D.arr 64 .leaf (ab .u8 (pad (row c)))) by unfold skP; rw [fg,fg,show ((zs8 (p:=p)).map fun a=>pad (row a)).map aw=z8 from a46]]
 have hz8:z8=List.replicate 8 (D.arr 64 .leaf (ab .u8 (pad []))):=rfl;have hlz:z8.length=8:=rfl;have hsz:∀h:k<z8.length,(z8[k]'h).sh.beq (.arr 64 .leaf)=true:=fun h=>by simp only [hz8,List.getElem_replicate]; rfl
 refine bi hT rfl ?_;generalize pad (row c)=Pc at *;generalize hzz:z8=ZZ at *;simp -implicitDefEqProofs [Z54,Z54_B,hk,hzz,hlz,hsz]
theorem a02 {O:ah} (had:ja O) {p:Int} [IsP p] {X Y:List (Fp p)} {k:Int} {b:Blk} (hk:-1000≤k∧k≤1000) (hX8:X.length≤8) (hY8:Y.length≤8) (hX:∀c∈X,c.len≤64) (hY:∀c∈Y,c.len≤64):∀(r i:Nat) (Q:List (Fp p)),i+r=8→Q.length=8→(∀j,i≤j→cS Q j=cS X j) →
 dn O 0 (.loop Z4i_L0) ⟨[(0,(.d (.int .i64 p))),(3,(.d (.int .i64 k))),(5,.ptr 0 []),(6,.ptr 1 []),(8,.ptr 2 []),(9,(.d (.int .i64 i)))],[.box false (.arr 8 (.arr 64 .leaf) ((skP Q).map aw)),.box false (.arr 8 (.arr 64 .leaf) ((skP (pd8 Y)).map aw)),b]⟩ =
  some (.exit 0,⟨[(0,(.d (.int .i64 p))),(3,(.d (.int .i64 k))),(5,.ptr 0 []),(6,.ptr 1 []),(8,.ptr 2 []),(9,(.d (.int .i64 8))),(11,(.d (.bool false)))],[.box false (.arr 8 (.arr 64 .leaf) ((skP (X2 (fun i=>cS X i+Pol.C (zp p k)*cS Y i) r i Q)).map aw)),.box false (.arr 8 (.arr 64 .leaf) ((skP (pd8 Y)).map aw)),b]⟩)
 | 0,i,Q,hi,hq,hQ=>by
  obtain rfl:i=8:=by omega
  refine bt ?_;show _=some (_,(⟨_,[.box false (.arr 8 (.arr 64 .leaf) ((skP Q).map aw)),_,_]⟩:St));generalize (skP Q).map aw=QD at *;generalize (skP (pd8 Y)).map aw=YD at *;simp -implicitDefEqProofs [Z4i_L0,ac]
 | r+1,i,Q,hi,hq,hQ=>by
  have hi8:i<8:=by omega
  have hi8':(i:Int)<8:=by omega
  have hltq:i<Q.length:=by omega
  have a1:=Do hX i;have a2:=Do hY i;have e1:=had p k (cS X i) (cS Y i) (by omega) (by omega) a1 a2
  have w4:IntKind.i64.wrap ((i:Int)+1)=((i+1:Nat):Int):=(w64 (x:=(i:Int)+1) (by omega)).trans (by omega)
  have hx1:∀h:i<((skP Q).map aw).length,((skP Q).map aw)[i]'h=(D.arr 64 .leaf (ab .u8 (pad (row (cS X i))))):=fun h=>by
   rw [ca,ca,rp hltq,hQ i (ba _)]
  have hx2:=Tc hY8 hi8;have hQL:((skP Q).map aw).length=8:=by rw [ap,ap]; exact hq
  have hYL:=Mz hY8;refine bm ?_ (a02 had (b:=b) hk hX8 hY8 hX hY r (i+1) (Q.set i (cS X i+Pol.C (zp p k)*cS Y i)) (by omega) (by rw [cr]; exact hq) (fun j hj=>by rw [S6 hltq,if_neg (by omega),hQ j (by omega)]))
  rw [show (skP (Q.set i (cS X i+Pol.C (zp p k)*cS Y i))).map aw=((skP Q).map aw).set i (D.arr 64 .leaf (ab .u8 (pad (row (cS X i+Pol.C (zp p k)*cS Y i))))) by unfold skP; rw [fg,fg]]
  generalize pad (row (cS X i+Pol.C (zp p k)*cS Y i))=P1 at *;generalize pad (row (cS X i))=P2 at *;generalize pad (row (cS Y i))=P3 at *;generalize (skP Q).map aw=QD at *;generalize (skP (pd8 Y)).map aw=YD at *;simp -implicitDefEqProofs [Z4i_L0,ac,hi8,hi8',hQL,hYL,hx1,hx2,e1,w4]
def Cv (O:ah):Prop:=∀(p:Int) [IsP p] (X Y:List (Fp p)) (k:Int),-1000≤k→k≤1000→X.length≤8→Y.length≤8→(∀c∈X,c.len≤64)→(∀c∈Y,c.len≤64)→ask O F4i [(D.int .i64 p),eS X,eS Y,(D.int .i64 k)]=some (eS (f4 k X Y))
theorem a9i (hT:T F4i=some Z4i) (had:ja (den T A)):Cv (den T A):=by
 intro p ip X Y k hk1 hk2 hX8 hY8 hX hY;have e:=a02 (O:=den T A) had (b:=.box false (.arr 8 (.arr 64 .leaf) z8)) ⟨hk1,hk2⟩ hX8 hY8 hX hY 8 0 (pd8 X) rfl (f9 hX8) (fun j _=>x9 j)
 have e00:((0:Nat):Int)=0:=rfl;have hpl:=zc k X Y;rw [e00,U2 _ _ _ (f9 hX8),show (List.range 8).map (fun i=>cS X i+Pol.C (zp p k)*cS Y i)=pd8 (f4 k X Y) from yj (by rw [ap,gu]) (f9 (by omega)) fun i hi=>by rw [O1,if_pos hi,x9,xi]] at e
 rw [d9,d9,d9];refine bi hT rfl ?_;generalize (skP (pd8 X)).map aw=XD at *;generalize (skP (pd8 Y)).map aw=YD at *;generalize (skP (pd8 (f4 k X Y))).map aw=PD at *;simp -implicitDefEqProofs [Z4i,Z4i_B,e,List.replicate]
def rq (O:ah):Prop:=∀(p:Int) [IsP p] (m:Fp p) (X Y:List (Fp p)),Fld m→Sk m X→Sk m Y→X.length+Y.length≤9→ask O F55 [(D.int .i64 p),(D.arr 64 .leaf (ab .u8 (pad (row m)))),eS X,eS Y]=some (.tup [eS (ee m X Y),(D.bool true)])
theorem A7 {p:Int} {m:Fp p} {X:List (Fp p)} (hm:m≠0) (hX:∀c∈X,c.len<m.len):∀c∈pd8 X,c.len<m.len:=fun c hc=>by
 unfold pd8 at hc;rcases bp.1 hc with h | h
 ·exact hX c h
 ·rw [f7 h,Pol.len_zero]; exact Pol.len_pos hm
theorem a27 {O:ah} (h:Ie O):rq O:=by
 intro p ip m X Y hm hX hY h9;have h5:=hm.five;have e:=h p m (pd8 X) (pd8 Y) hm.two (by omega) (f9 hX.eight) (f9 hY.eight) (A7 hm.mon.2 hX.res) (A7 hm.mon.2 hY.res)
 rw [a2m hX.trim hY.trim h9 hX.res hY.res hm] at e;exact e
def sj (O:ah):Prop:=∀(p:Int) [IsP p] (m:Fp p) (X:List (Fp p)),m≠0→m.len≤64→Sk m X→ask O F4l [eS X]=some (D.int .i64 ((X.length:Int)-1))
theorem a98 {O:ah} (h:Eq O):sj O:=by
 intro p ip m X hm hml hX;have e:=h p (pd8 X) (f9 hX.eight) (fun c hc=>by have:=A7 hm hX.res c hc; omega)
 rw [←Ec (f9 hX.eight),mj hX.trim] at e;exact e
end Pe


namespace Pe
open Go Gq
variable {T:Nat→Option Fn} {A:ah}
theorem V2 {O:ah} (hfr:v6 O) (hin:Eo O) (hmm:ki O) (hte:Jq O) (hti:rq O) (had:Cv O) (hdg:sj O) {p:Int} [IsP p] {m:Fp p} {z z2:List D} (hm:Fld m) {B:List (Fp p)} (hB:Sk m B) (h1:1≤B.length):∀(r:Nat) (Q X:List (Fp p)),X.length≤r→Sk m Q→Sk m X→Zto Q X B →
 dn O 0 (.loop Z53_L0) ⟨[(0,(.d (.int .i64 p))),(5,.ptr 0 []),(6,.ptr 1 []),(7,.ptr 2 []),(8,.ptr 3 []),(9,.ptr 4 []),(10,.ptr 5 []),(11,(.d (.int .i64 (((B.length-1:Nat):Int))))),(12,(.d (.int .i64 ((X.length:Int)-1))))],[.box false (D.arr 64 .leaf (ab .u8 (pad (row m)))),.box false (.arr 8 (.arr 64 .leaf) ((skP (pd8 X)).map aw)),.box false (.arr 8 (.arr 64 .leaf) ((skP (pd8 B)).map aw)),.box false (.arr 8 (.arr 64 .leaf) z),.box false (.arr 8 (.arr 64 .leaf) z2),.box false (.arr 8 (.arr 64 .leaf) ((skP (pd8 Q)).map aw)),.hole,.hole]⟩ =
  some (.exit 0,⟨[(0,(.d (.int .i64 p))),(5,.ptr 0 []),(6,.ptr 1 []),(7,.ptr 2 []),(8,.ptr 3 []),(9,.ptr 4 []),(10,.ptr 5 []),(11,(.d (.int .i64 (((B.length-1:Nat):Int))))),(12,(.d (.int .i64 (((dx false m B r Q X).2.length:Int)-1)))),(23,(.d (.bool false)))],[.box false (D.arr 64 .leaf (ab .u8 (pad (row m)))),.box false (.arr 8 (.arr 64 .leaf) ((skP (pd8 (dx false m B r Q X).2)).map aw)),.box false (.arr 8 (.arr 64 .leaf) ((skP (pd8 B)).map aw)),.box false (.arr 8 (.arr 64 .leaf) z),.box false (.arr 8 (.arr 64 .leaf) z2),.box false (.arr 8 (.arr 64 .leaf) ((skP (pd8 (dx false m B r Q X).1)).map aw)),.hole,.hole]⟩)
 | 0,Q,X,hr,hQ,hX,hz=>by
  have hlt:¬ ((B.length-1:Nat):Int)≤(X.length:Int)-1:=by omega
  refine bt ?_;show _=some (_,(⟨[_,_,_,_,_,_,_,_,(12,(.d (.int .i64 ((X.length:Int)-1)))),_],[_,.box false (.arr 8 (.arr 64 .leaf) ((skP (pd8 X)).map aw)),_,_,_,.box false (.arr 8 (.arr 64 .leaf) ((skP (pd8 Q)).map aw)),_,_]⟩:St));generalize (X.length:Int)-1=x1 at *;generalize ((B.length-1:Nat):Int)=b1 at *;generalize (skP (pd8 X)).map aw=XD at *;generalize (skP (pd8 B)).map aw=BD at *;generalize (skP (pd8 Q)).map aw=QD at *;generalize pad (row m)=Pm at *;simp -implicitDefEqProofs [Z53_L0,ac,hlt]
 | r+1,Q,X,hr,hQ,hX,hz=>by
  by_cases hlt:X.length<B.length
  ·have hg:dx false m B (r+1) Q X=(Q,X):=by unfold dx; rw [if_pos hlt]
   have hlt':¬ ((B.length-1:Nat):Int)≤(X.length:Int)-1:=by omega
   rw [hg];refine bt ?_;generalize (X.length:Int)-1=x1 at *;generalize ((B.length-1:Nat):Int)=b1 at *;generalize (skP (pd8 X)).map aw=XD at *;generalize (skP (pd8 B)).map aw=BD at *;generalize (skP (pd8 Q)).map aw=QD at *;generalize pad (row m)=Pm at *;simp -implicitDefEqProofs [Z53_L0,ac,hlt']
  ·have hg:dx false m B (r+1) Q X=dx false m B r (f4 1 Q (qT false m X B)) (f4 (-1) X (qP false m X B)):=by
    conv=>lhs; unfold dx
    rw [if_neg hlt]
   have hle:B.length≤X.length:=by omega
   obtain ⟨s1,s2,s3,s4,s5,s6⟩:=Af false hm hX hB h1 hle;have h2:=hm.two;have h5:=hm.five;have h8:=hX.eight;have hB8:=hB.eight;have hQ8:=hQ.eight;have hm0:=hm.mon.2;have hTl:(qT false m X B).length=X.length-B.length+1:=ej _ _;have hk8:X.length-B.length<8:=by omega
   have ih:=V2 hfr hin hmm hte hti had hdg (z:=z) (z2:=z2) hm hB h1 r (f4 1 Q (qT false m X B)) (f4 (-1) X (qP false m X B)) (by omega) (hQ.plus hm0 s3 1) s6 (hz.step hm hX hB h1 hle)
   rw [←hg] at ih;have hset:=a0t (c:=qc false m X B) hQ8 hk8 (hz _ (by omega))
   rw [show dj (qc false m X B) (X.length-B.length)=qT false m X B from rfl] at hset
   have hset2:(skP (pd8 (f4 1 Q (qT false m X B)))).map aw=((skP (pd8 Q)).map aw).set (X.length-B.length) (D.arr 64 .leaf (ab .u8 (pad (row (qc false m X B))))):=by
    rw [←hset]; unfold skP; rw [fg,fg]
   rw [hset2] at ih;have hxl:=hX.cs hm0 (X.length-1);have e1:=hfr p m (cS B (B.length-1)) (X.length-B.length) h2 (by omega) (by have:=hB.cs hm0 (B.length-1); omega) (by omega)
   have hfl:=my hm0 ((X.length-B.length)%(m.len-1)) (cS B (B.length-1)) (hB.cs hm0 _);have e2:=hin p m (du m ((X.length-B.length)%(m.len-1)) (cS B (B.length-1))) hm0 (by omega) (Gb hm _ _ (hB.top h1) (hB.cs hm0 _)) hfl
   have hil:=ym hm0 (du m ((X.length-B.length)%(m.len-1)) (cS B (B.length-1)));have e3:=hmm p (cS X (X.length-1)) (ji m (du m ((X.length-B.length)%(m.len-1)) (cS B (B.length-1)))) m hm0 (by omega) (by omega) (by omega)
   rw [show cS X (X.length-1)*ji m (du m ((X.length-B.length)%(m.len-1)) (cS B (B.length-1)))%m=qc false m X B from rfl] at e3;have e4:=hte p (qc false m X B) (X.length-B.length) hk8;rw [show dj (qc false m X B) (X.length-B.length)=qT false m X B from rfl] at e4;have e5:=hti p m (qT false m X B) B hm s3 hB (by have:=hTl; omega)
   rw [show ee m (qT false m X B) B=qP false m X B from rfl] at e5;have e6:=had p X (qP false m X B) (-1) (by omega) (by omega) h8 s4.eight (fun c hc=>by have:=hX.res c hc; omega) (fun c hc=>by have:=s4.res c hc; omega)
   have e7:=hdg p m (f4 (-1) X (qP false m X B)) hm0 (by omega) s6
   have hge:((B.length-1:Nat):Int)≤((X.length-1:Nat):Int):=by omega
   have hgeN:B.length-1≤X.length-1:=by omega
   have hx0:(X.length:Int)-1=((X.length-1:Nat):Int):=by omega
   have w1:IntKind.i64.wrap (((X.length-1:Nat):Int)-((B.length-1:Nat):Int))=((X.length-B.length:Nat):Int):=(w64 (by omega)).trans (by omega)
   have hx1:=Tc (X:=X) h8 (i:=X.length-1) (by omega)
   have hx2:=Tc (X:=B) hB8 (i:=B.length-1) (by omega)
   have hb1:X.length-1<8:=by omega
   have hb2:B.length-1<8:=by omega
   have hXL:=Mz h8;have hBL:=Mz hB8;have hQL:=Mz hQ8;have hQs:∀h:X.length-B.length<((skP (pd8 Q)).map aw).length,(((skP (pd8 Q)).map aw)[X.length-B.length]'h).sh.beq (.arr 64 .leaf)=true:=fun h=>by rw [ca]; rfl
   have hfT:=cm (skP (pd8 (qT false m X B)));have hfP:=cm (skP (pd8 (qP false m X B)));have hfA:=cm (skP (pd8 (f4 (-1) X (qP false m X B))));rw [d9] at e4 e7;rw [d9,d9,d9] at e5 e6;rw [hx0];refine bm ?_ ih;generalize ((f4 (-1) X (qP false m X B)).length:Int)-1=xn at *;generalize (skP (pd8 (qT false m X B))).map aw=D1 at *;generalize (skP (pd8 (qP false m X B))).map aw=D2 at *;generalize (skP (pd8 (f4 (-1) X (qP false m X B)))).map aw=D3 at *;generalize pad (row (qc false m X B))=R1 at *;generalize pad (row (ji m (du m ((X.length-B.length)%(m.len-1)) (cS B (B.length-1)))))=R2 at *;generalize pad (row (du m ((X.length-B.length)%(m.len-1)) (cS B (B.length-1))))=R3 at *;generalize pad (row (cS X (X.length-1)))=R4 at *;generalize pad (row (cS B (B.length-1)))=R5 at *;generalize (skP (pd8 X)).map aw=XD at *;generalize (skP (pd8 B)).map aw=BD at *;generalize (skP (pd8 Q)).map aw=QD at *;generalize pad (row m)=Pm at *;generalize X.length-B.length=xb at *;generalize X.length-1=x1 at *;generalize B.length-1=b1 at *;simp -implicitDefEqProofs [Z53_L0,ac,hge,hb1,hb2,hk8,hXL,hBL,hQL,hQs,hx1,hx2,w1,e1,e2,e3,e4,e5,e6,e7,hfT,hfP,hfA]
def Hz (O:ah) (F:Nat) (left:Bool):Prop:=∀(p:Int) [IsP p] (m:Fp p) (X B:List (Fp p)),Fld m→Sk m X→Sk m B→1≤B.length→ask O F [(D.int .i64 p),(D.arr 64 .leaf (ab .u8 (pad (row m)))),eS X,eS B]=some (.tup [eS (dx left m B X.length [] X).1,eS (dx left m B X.length [] X).2])
theorem a4u (hT:T F53=some Z53) (hfr:v6 (den T A)) (hin:Eo (den T A)) (hmm:ki (den T A)) (hte:Jq (den T A)) (hti:rq (den T A)) (had:Cv (den T A)) (hdg:sj (den T A)):Hz (den T A) F53 false:=by
 intro p ip m X B hm hX hB h1;have h2:=hm.two;have h5:=hm.five;have e:=V2 (O:=den T A) hfr hin hmm hte hti had hdg (z:=z8) (z2:=z8) hm hB h1 X.length [] X (ba _) (Sk.nil m) hX (fun j _=>rfl)
 have e1:=hdg p m X hm.mon.2 (by omega) hX
 have e2:=hdg p m B hm.mon.2 (by omega) hB
 rw [show (B.length:Int)-1=((B.length-1:Nat):Int) by omega] at e2
 rw [←z8_eq] at e;rw [d9] at e1 e2;rw [d9,d9,d9,d9];refine bi hT rfl ?_;generalize ((dx false m B X.length [] X).2.length:Int)-1=rn at *;generalize (skP (pd8 (dx false m B X.length [] X).1)).map aw=D1 at *;generalize (skP (pd8 (dx false m B X.length [] X).2)).map aw=D2 at *;generalize (skP (pd8 X)).map aw=XD at *;generalize (skP (pd8 B)).map aw=BD at *;generalize pad (row m)=Pm at *;generalize (X.length:Int)-1=x1 at *;generalize ((B.length-1:Nat):Int)=b1 at *;simp -implicitDefEqProofs [Z53,Z53_B,e,e1,e2,List.replicate]
end Pe
