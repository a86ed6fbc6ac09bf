/-
  A part of the proof: an evaluator for a small form of the code, its soundness, and contracts of functions over it.
-/
import Derived.Test.YtkkcmeenhegdiaaGreatW1
import Derived.Test.YtkkcmeenhegdiaaGreatW2
import Derived.Test.YtkkcmeenhegdiaaGreatW3
import Derived.Test.YtkkcmeenhegdiaaGreatW4

namespace Pe
open Go Gq
variable {T:Nat→Option Fn} {A:ap}
def By (O:ap):Prop:=∀(p:Int) [IsP p] (a b:Fp p),b≠0→a.len≤64→b.len≤64 →
 ask O F3c [(D.int .i64 p),(D.arr 64 .leaf (ah .u8 (pad (row a)))),(D.arr 64 .leaf (ah .u8 (pad (row b))))]=some (D.arr 64 .leaf (ah .u8 (pad (row (a%b)))))
theorem aau (hT:T F3c=some Z3c) (hd:s9 (den T A)):By (den T A):=by
 intro p i a b hb h1 h2;have e:=hd p a b hb h1 h2;refine cd hT rfl ?_;simp -implicitDefEqProofs [Z3c,Z3c_B,e]
theorem a4x (f:Nat→Int) (m i:Nat) (l:List Int) (j:Nat):cf (upd f m i l) j=if i≤j∧j<i+m∧j<l.length then f j else cf l j:=by
 unfold cf;rw [cz,cz,H6]
 split <;> rfl
theorem a1y {O:ap} {p:Int} {a:List Int} {mm z:List Int} {n:Nat} {top:Int} (hal:a.length=64) (hn:n<64):∀(k i:Nat) (cur:List Int),i+k=n→1≤i→cur.length=64 →
 dn O 0 (.loop Z3l_L0) ⟨[(0,(.d (.int .i64 p))),(4,.ptr 0 []),(5,.ptr 1 []),(6,.ptr 2 []),(7,(.d (.int .i64 n))),(8,(.d (.int .i64 top))),(9,.ptr 3 []),(10,(.d (.int .i64 i)))],[.box false (D.arr 64 .leaf (ah .u8 a)),.box false (D.arr 64 .leaf (ah .u8 mm)),.box false (D.arr 64 .leaf (ah .u8 z)),.box false (D.arr 64 .leaf (ah .u8 cur))]⟩ =
  some (.exit 0,⟨[(0,(.d (.int .i64 p))),(4,.ptr 0 []),(5,.ptr 1 []),(6,.ptr 2 []),(7,(.d (.int .i64 n))),(8,(.d (.int .i64 top))),(9,.ptr 3 []),(10,(.d (.int .i64 n))),(26,(.d (.bool false)))],[.box false (D.arr 64 .leaf (ah .u8 a)),.box false (D.arr 64 .leaf (ah .u8 mm)),.box false (D.arr 64 .leaf (ah .u8 z)),.box false (D.arr 64 .leaf (ah .u8 (upd (fun j=>cf a (j-1)) k i cur)))]⟩)
 | 0,i,cur,hi,h1,hc=>by
  obtain rfl:i=n:=by omega
  exact cg (by simp -implicitDefEqProofs [Z3l_L0,az,upd])
 | k+1,i,cur,hi,h1,hc=>by
  have hlt:i<n:=by omega
  have hi1:i-1<a.length:=by omega
  have hi2:i-1<64:=by omega
  have hi64:i<64:=by omega
  have hic:i<cur.length:=by omega
  have hx:a[i-1]=cf a (i-1):=(fp hi1).symm;have w1:IntKind.i64.wrap ((i:Int)-1)=((i-1:Nat):Int):=(w64 (x:=(i:Int)-1) (by omega)).trans (by omega)
  have w4:IntKind.i64.wrap ((i:Int)+1)=((i+1:Nat):Int):=(w64 (x:=(i:Int)+1) (by omega)).trans (by omega)
  refine c8 ?_ (a1y hal hn k (i+1) (cur.set i (cf a (i-1))) (by omega) (by omega) (by simpa using hc))
  simp -implicitDefEqProofs [Z3l_L0,az,hlt,hi1,hi2,hi64,hic,hx,w1,w4]
theorem a3c {O:ap} {p q:Int} [IsP p] {b z out:List Int} {n:Nat} {hol:Blk} (hh:hol=.hole) (hb:Can p b) (hbl:b.length=64) (hq:0≤q∧q<p) (hn:n<64) (ho:Can p out):∀(k i:Nat) (cur:List Int),i+k=n→cur.length=64→(∀j,i≤j→cf cur j=cf out j) →
 dn O 0 (.loop Z3l_L1) ⟨[(0,(.d (.int .i64 p))),(5,.ptr 1 []),(6,.ptr 2 []),(7,(.d (.int .i64 n))),(9,.ptr 3 []),(11,(.d (.int .i64 q))),(12,(.d (.int .i64 i)))],[hol,.box false (D.arr 64 .leaf (ah .u8 b)),.box false (D.arr 64 .leaf (ah .u8 z)),.box false (D.arr 64 .leaf (ah .u8 cur))]⟩ =
  some (.exit 2,⟨[(0,(.d (.int .i64 p))),(5,.ptr 1 []),(6,.ptr 2 []),(7,(.d (.int .i64 n))),(9,.ptr 3 []),(11,(.d (.int .i64 q))),(12,(.d (.int .i64 n))),(47,(.d (.bool false)))],[hol,.box false (D.arr 64 .leaf (ah .u8 b)),.box false (D.arr 64 .leaf (ah .u8 z)),.box false (D.arr 64 .leaf (ah .u8 (upd (fun j=>(cf out j-q*cf b j)%p) k i cur)))]⟩)
 | 0,i,cur,hi,hc,hs=>by
  subst hh;obtain rfl:i=n:=by omega
  exact cg (by simp -implicitDefEqProofs [Z3l_L1,az,upd])
 | k+1,i,cur,hi,hc,hs=>by
  have hp:=IsP.pos (p:=p);have hp7:=IsP.le (p:=p);have hp0:p≠0:=by omega
  have hlt:i<n:=by omega
  have hi64:i<64:=by omega
  have hic:i<cur.length:=by omega
  have hib:i<b.length:=by omega
  have hx:cur[i]=cf out i:=by rw [←fp hic]; exact hs i (bj i)
  have hy:b[i]=cf b i:=(fp hib).symm;have gc:=ho.le hp i;have gb:=hb.le hp i;have gm:=lf (x:=q) (y:=cf b i) (b:=10) (c:=10) (by omega) (by omega) (by omega)
  have w3:IntKind.i64.wrap (cf out i)=cf out i:=w64 (by omega)
  have w5:IntKind.i64.wrap (cf b i)=cf b i:=w64 (by omega)
  have w6:IntKind.i64.wrap (q*cf b i)=q*cf b i:=w64 (by omega)
  have w7:IntKind.i64.wrap (cf out i-q*cf b i)=cf out i-q*cf b i:=w64 (by omega)
  have hin:=Cp (n:=cf out i-q*cf b i) hp;have w9:IntKind.i64.wrap ((cf out i-q*cf b i).tmod p+p)=(cf out i-q*cf b i).tmod p+p:=w64 (by omega)
  have w10:((cf out i-q*cf b i).tmod p+p).tmod p=(cf out i-q*cf b i)%p:=Ao hp;have hlin:0≤(cf out i-q*cf b i)%p∧(cf out i-q*cf b i)%p<p:=⟨dw _ (by omega),de _ hp⟩
  have w11:IntKind.u8.wrap ((cf out i-q*cf b i)%p)=(cf out i-q*cf b i)%p:=w8 (by omega)
  have w4:IntKind.i64.wrap ((i:Int)+1)=((i+1:Nat):Int):=(w64 (x:=(i:Int)+1) (by omega)).trans (by omega)
  refine c8 ?_ (a3c hh hb hbl hq hn ho k (i+1) (cur.set i ((cf out i-q*cf b i)%p)) (by omega) (by simpa using hc) (fun j hj=>by rw [tf,if_neg (by omega)]; exact hs j (by omega)))
  subst hh;simp -implicitDefEqProofs [Z3l_L1,az,hlt,hi64,hic,hib,hx,hy,w3,w5,w6,w7,w9,w10,w11,w4,hp0]
def Wc (O:ap):Prop:=∀(p:Int) [IsP p] (a m:Fp p),m≠0→a.len<m.len→m.len≤64 →
 ask O F3l [(D.int .i64 p),(D.arr 64 .leaf (ah .u8 (pad (row a)))),(D.arr 64 .leaf (ah .u8 (pad (row m))))]=some (D.arr 64 .leaf (ah .u8 (pad (row (Pol.X*a%m)))))
theorem ad8 (hT:T F3l=some Z3l) (hd:m8 (den T A)) (hinv:nm (den T A)):Wc (den T A):=by
 intro p i a m hm hal hml;have hp:=IsP.ge (p:=p);have hp7:=IsP.le (p:=p);have e1:=hd p m hml;refine cd hT rfl ?_
 by_cases h1:m.len=1
 ·have ha:a=0:=Pol.len_zero_iff.1 (by omega)
  subst ha;rw [Gq.mul_zero,Pol.zero_mod hm,ee];rw [h1] at e1;simp -implicitDefEqProofs [Z3l,Z3l_B,az,e1]
 ·have hm0:=Pol.len_pos hm
  obtain ⟨n,hn⟩:∃n,m.len=n+2:=⟨m.len-2,by omega⟩
  have e1':ask (den T A) F35 [(D.arr 64 .leaf (ah .u8 (pad (row m))))]=some (D.int .i64 ((n+1:Nat))):=by rw [e1,hn]; congr 2; omega
  have hr:=im m.ld;have hld:rep m.ld≠0:=fun h0=>Pol.ld_ne hm (ku.1 h0)
  have e3:=hinv p (rep m.ld) (by omega) hr.2
  have hin:=xl p (rep m.ld);have hpa:a.len≤64:=by omega
  have hax:(pad (row a))[n]? = some (rep (a.c n)):=by rw [pf _ _ (by omega),gd]
  have hmx:(pad (row m))[n+1]? = some (rep m.ld):=by
   rw [pf _ _ (by omega),gd]
   unfold Pol.ld;rw [hn]; rfl
  have ha0:=im (a.c n);have w0:IntKind.i64.wrap ((n:Int)+1-1)=(n:Int):=(w64 (x:=(n:Int)+1-1) (by omega)).trans (by omega)
  have w0':IntKind.i64.wrap (n:Int)=(n:Int):=w64 (by omega)
  have w1:IntKind.i64.wrap (rep (a.c n))=rep (a.c n):=w64 (by omega)
  have w2:IntKind.i64.wrap (inv p (rep m.ld))=inv p (rep m.ld):=w64 (by omega)
  have gm:=lf (x:=rep (a.c n)) (y:=inv p (rep m.ld)) (b:=10) (c:=10) (by omega) (by omega) (by omega)
  have w3:IntKind.i64.wrap (rep (a.c n)*inv p (rep m.ld))=rep (a.c n)*inv p (rep m.ld):=w64 (by omega)
  have w4:(rep (a.c n)*inv p (rep m.ld)).tmod p=rep (a.c n)*inv p (rep m.ld)%p:=di (ep ha0.1 hin.1);have hq:0≤rep (a.c n)*inv p (rep m.ld)%p∧rep (a.c n)*inv p (rep m.ld)%p<p:=⟨dw _ (by omega),de _ (by omega)⟩
  have hqz:zp p (rep (a.c n)*inv p (rep m.ld)%p)=a.c n*Fd.inv m.ld:=by
   rw [xm,zx,lm,uc _ (Pol.ld_ne hm)]
  generalize rep (a.c n)*inv p (rep m.ld)%p=q at *;have l0:=a1y (O:=den T A) (p:=p) (a:=pad (row a)) (mm:=pad (row m)) (z:=pad []) (n:=n+1) (top:=rep (a.c n)) (c5 _) (by omega) n 1 (pad []) (by omega) (bj 1) (c5 _)
  have hz:∀j,cf (pad []) j=0:=fun j=>by rw [yr (by simp),o7 (by simp)]
  have c0:∀j,cf (upd (fun j=>cf (pad (row a)) (j-1)) n 1 (pad [])) j=if 1≤j∧j<n+1 then rep (a.c (j-1)) else 0:=fun j=>by
   rw [a4x,hz,c5]
   by_cases h:1≤j∧j<n+1
   ·rw [if_pos (by omega),if_pos h,ou hpa]
   ·rw [if_neg (by omega),if_neg h]
  have hlen0:(upd (fun j=>cf (pad (row a)) (j-1)) n 1 (pad [])).length=64:=by rw [xn,c5]
  generalize upd (fun j=>cf (pad (row a)) (j-1)) n 1 (pad [])=out at *
  have hcan0:Can p out:=Can.of_cf fun j _=>by rw [c0]; split; exact im _; omega
  have l1:=a3c (O:=den T A) (p:=p) (q:=q) (b:=pad (row m)) (z:=pad []) (out:=out) (n:=n+1) rfl (xw m) (c5 _) hq (by omega) hcan0 (n+1) 0 out (by omega) hlen0 (fun _ _=>rfl)
  have hres:upd (fun j=>(cf out j-q*cf (pad (row m)) j)%p) (n+1) 0 out=pad (row (Pol.X*a%m)):=by
   have hlenR:(upd (fun j=>(cf out j-q*cf (pad (row m)) j)%p) (n+1) 0 out).length=64:=by rw [xn,hlen0]
   have hcR:∀j,cf (upd (fun j=>(cf out j-q*cf (pad (row m)) j)%p) (n+1) 0 out) j=if j<n+1 then (cf out j-q*rep (m.c j))%p else 0:=fun j=>by
    rw [a4x,hlen0]
    by_cases h:j<n+1
    ·rw [if_pos (by omega),if_pos h,ou hml]
    ·rw [if_neg (by omega),if_neg h,c0,if_neg (by omega)]
   have hcanR:Can p (upd (fun j=>(cf out j-q*cf (pad (row m)) j)%p) (n+1) 0 out):=Can.of_cf fun j _=>by
    rw [hcR]; split
    ·exact ⟨dw _ (by omega),de _ (by omega)⟩
    ·omega
   rw [Ig hcanR hlenR]
   congr 2
   symm
   refine (Pol.div_mod_eq (q:=Pol.C (zp p q)) ?_ ?_).2
   ·refine Pol.ext fun j=>?_
    rw [Pol.c_add,Pol.c_Cmul,Pol.c_Xmul,jr,hcR];rcases jz j (n+1) with h | h | h
    ·rw [if_pos h,xm,a3d,zx,lm,c0]
     by_cases hj:j=0
     ·subst hj
      rw [if_pos rfl,if_neg (by omega),Ak]
      exact bq [zp p q,m.c 0] rfl
     ·rw [if_neg hj,if_pos (by omega),lm]
      exact bq [zp p q,m.c j,a.c (j-1)] rfl
    ·subst h
     rw [if_neg (by omega),if_neg (by omega),Ak,Gq.add_zero,hqz]
     have e:m.c (n+1)=m.ld:=by unfold Pol.ld; rw [hn]; rfl
     rw [e,Gq.mul_assoc,Gq.mul_comm (Fd.inv m.ld),Fd.mul_inv _ (Pol.ld_ne hm),Gq.mul_one]; rfl
    ·rw [if_neg (by omega),if_neg (by omega),Ak,m.lt_len j (by omega),Gq.mul_zero,Gq.add_zero,a.lt_len (j-1) (by omega)]
   ·have:(gn p (upd (fun j=>(cf out j-q*cf (pad (row m)) j)%p) (n+1) 0 out)).lt (n+1):=fun j hj=>by
     rw [jr,hcR,if_neg (by omega)]; rfl
    have:=Pol.len_le this;omega
  rw [hres] at l1;have e0:((0:Nat):Int)=0:=rfl;have e11:((1:Nat):Int)=1:=rfl;have en:((n+1:Nat):Int)=(n:Int)+1:=by omega
  rw [e0,en] at l1;rw [e11,en] at l0;rw [en] at e1';have hp0:p≠0:=by omega
  have hn64:n<64:=by omega
  have hn65:n+1<64:=by omega
  have t1:¬ (n:Int)+1=0:=by omega
  have t2:(0:Int)≤(n:Int)+1:=by omega
  have t3:((n:Int)+1).toNat=n+1:=by omega
  generalize pad (row (Pol.X*a%m))=R at *;generalize pad (row a)=PA at *;generalize pad (row m)=PM at *;simp -implicitDefEqProofs [Z3l,Z3l_B,az,e1',e3,hax,hmx,w0',w1,w2,w3,w4,l0,l1,hn64,hn65,t1,t2,t3,hp0]
def rr {p:Int} (b:Fp p) (i:Nat):Fp p:=⟨fun j=>b.c (i+j),b.len,fun j hj=>b.lt_len _ (by omega)⟩
theorem V5 {p:Int} (b:Fp p):rr b 0=b:=Pol.ext fun j=>by show b.c (0+j)=b.c j; rw [bv]
theorem a0i {p:Int} (b:Fp p):rr b b.len=0:=Pol.ext fun j=>b.lt_len _ (by omega)
theorem Ur {p:Int} (b:Fp p) (i:Nat):rr b i=Pol.X*rr b (i+1)+Pol.C (b.c i):=Pol.ext fun j=>by
 rw [Pol.c_add,Pol.c_Xmul,Pol.c_C];show b.c (i+j)=(if j=0 then 0 else b.c (i+1+(j-1)))+if j=0 then b.c i else 0
 by_cases h:j=0
 ·subst h; rw [if_pos rfl,if_pos rfl,Gq.zero_add]; rfl
 ·rw [if_neg h,if_neg h,Gq.add_zero,show i+1+(j-1)=i+j by omega]
theorem Mc {O:ap} (hu:Wc O) (ha:pq O) (hmo:By O) {p:Int} [IsP p] {a b m:Fp p} {z:List Int} (hm:m≠0) (hml:m.len≤64) (hal:a.len≤64) (hbl:b.len≤64):∀(n:Nat),n≤b.len →
 dn O 0 (.loop Z3e_L0) ⟨[(0,(.d (.int .i64 p))),(5,.ptr 0 []),(6,.ptr 1 []),(7,.ptr 2 []),(8,.ptr 3 []),(9,.ptr 4 []),(10,(.d (.int .i64 ((n:Int)-1))))],[.box false (D.arr 64 .leaf (ah .u8 (pad (row a)))),.box false (D.arr 64 .leaf (ah .u8 (pad (row b)))),.box false (D.arr 64 .leaf (ah .u8 (pad (row m)))),.box false (D.arr 64 .leaf (ah .u8 z)),.box false (D.arr 64 .leaf (ah .u8 (pad (row (a*rr b n%m)))))]⟩ =
  some (.exit 0,⟨[(0,(.d (.int .i64 p))),(5,.ptr 0 []),(6,.ptr 1 []),(7,.ptr 2 []),(8,.ptr 3 []),(9,.ptr 4 []),(10,(.d (.int .i64 (-1)))),(15,(.d (.bool false)))],[.box false (D.arr 64 .leaf (ah .u8 (pad (row a)))),.box false (D.arr 64 .leaf (ah .u8 (pad (row b)))),.box false (D.arr 64 .leaf (ah .u8 (pad (row m)))),.box false (D.arr 64 .leaf (ah .u8 z)),.box false (D.arr 64 .leaf (ah .u8 (pad (row (a*b%m)))))]⟩)
 | 0,_=>by
  rw [V5];exact cg (by simp -implicitDefEqProofs [Z3e_L0,az])
 | n+1,hn=>by
  have hp:=IsP.pos (p:=p);have hp7:=IsP.le (p:=p);have hlr:=Pol.len_mod (a*rr b (n+1)) hm;have hr:=im (b.c n);have e1:=hu p (a*rr b (n+1)%m) m hm hlr hml;have hl2:=Pol.len_mod (Pol.X*(a*rr b (n+1)%m)) hm;have e2:=ha p (rep (b.c n)) (Pol.X*(a*rr b (n+1)%m)%m) a (by omega) (by omega) (by omega) hal
  rw [lm] at e2;have hl3:=Pol.len_add_le (a:=Pol.X*(a*rr b (n+1)%m)%m) (b:=Pol.C (b.c n)*a) (n:=64) (by omega) (dk (Pol.len_le (Pol.lt_Cmul _ a.lt_len)) hal)
  have e3:=hmo p (Pol.X*(a*rr b (n+1)%m)%m+Pol.C (b.c n)*a) m hm hl3 hml
  have e4:(Pol.X*(a*rr b (n+1)%m)%m+Pol.C (b.c n)*a)%m=a*rr b n%m:=by
   rw [Ur b n,Pol.mod_eq_iff hm,Quo.mk_add,Pol.mk_mod,Quo.mk_mul,Pol.mk_mod,←Quo.mk_mul,←Quo.mk_add]
   congr 1
   exact bq [Pol.X,a,rr b (n+1),Pol.C (b.c n)] rfl
  rw [e4] at e3;have t0:(((n+1:Nat):Int)-1)=(n:Int):=by omega
  rw [t0];have hn64:n<64:=by omega
  have hx:(pad (row b))[n]? = some (rep (b.c n)):=by rw [pf _ _ hn64,gd]
  have w1:IntKind.i64.wrap (rep (b.c n))=rep (b.c n):=w64 (by omega)
  have w2:IntKind.i64.wrap ((n:Int)-1)=(n:Int)-1:=w64 (by omega)
  refine c8 ?_ (Mc hu ha hmo hm hml hal hbl n (by omega))
  generalize pad (row (a*rr b n%m))=R at *;generalize pad (row (a*rr b (n+1)%m))=R1 at *;generalize pad (row (Pol.X*(a*rr b (n+1)%m)%m+Pol.C (b.c n)*a))=R2 at *;generalize pad (row (Pol.X*(a*rr b (n+1)%m)%m))=R3 at *;generalize pad (row a)=PA at *;generalize pad (row b)=PB at *;generalize pad (row m)=PM at *;simp -implicitDefEqProofs [Z3e_L0,az,e1,e2,e3,hn64,hx,w1,w2]
def x9 (O:ap):Prop:=∀(p:Int) [IsP p] (a b m:Fp p),m≠0→m.len≤64→a.len≤64→b.len≤64 →
 ask O F3e [(D.int .i64 p),(D.arr 64 .leaf (ah .u8 (pad (row a)))),(D.arr 64 .leaf (ah .u8 (pad (row b)))),(D.arr 64 .leaf (ah .u8 (pad (row m))))]=some (D.arr 64 .leaf (ah .u8 (pad (row (a*b%m)))))
theorem a0o (hT:T F3e=some Z3e) (hd:m8 (den T A)) (hu:Wc (den T A)) (ha:pq (den T A)) (hmo:By (den T A)):x9 (den T A):=by
 intro p i a b m hm hml hal hbl;have e1:=hd p b hbl;have e2:=Mc (O:=den T A) (z:=pad []) hu ha hmo hm hml hal hbl b.len (bj _);rw [a0i,Gq.mul_zero,Pol.zero_mod hm,ee] at e2;refine cd hT rfl ?_;generalize pad (row (a*b%m))=R at *;generalize pad (row a)=PA at *;generalize pad (row b)=PB at *;generalize pad (row m)=PM at *;simp -implicitDefEqProofs [Z3e,Z3e_B,e1,e2]
theorem aay {O:ap} (hmm:x9 O) {p:Int} [IsP p] {m:Fp p} {z:List Int} {hol:Blk} (hh:hol=.hole) (hm:m≠0) (hml:m.len≤64):∀(n:Nat) (k:Int) (out base:Fp p),0≤k→k.toNat<2^n→k<4611686018427387904→out.len<m.len→base.len<m.len→∃base':List Int,
 dn O 0 (.loop Z3h_L0) ⟨[(0,(.d (.int .i64 p))),(2,(.d (.int .i64 k))),(7,.ptr 1 []),(8,.ptr 2 []),(9,.ptr 3 []),(10,.ptr 4 [])],[hol,.box false (D.arr 64 .leaf (ah .u8 (pad (row m)))),.box false (D.arr 64 .leaf (ah .u8 z)),.box false (D.arr 64 .leaf (ah .u8 (pad (row out)))),.box false (D.arr 64 .leaf (ah .u8 (pad (row base))))]⟩ =
  some (.exit 0,⟨[(0,(.d (.int .i64 p))),(2,(.d (.int .i64 0))),(7,.ptr 1 []),(8,.ptr 2 []),(9,.ptr 3 []),(10,.ptr 4 []),(20,(.d (.bool false)))],[hol,.box false (D.arr 64 .leaf (ah .u8 (pad (row m)))),.box false (D.arr 64 .leaf (ah .u8 z)),.box false (D.arr 64 .leaf (ah .u8 (pad (row (out*pw base k.toNat%m))))),.box false (D.arr 64 .leaf (ah .u8 base'))]⟩):=by
 intro n
 induction n with
 | zero=>
  intro k out base hk hn _ ho hb;obtain rfl:k=0:=by simp at hn; omega
  refine ⟨pad (row base),?_⟩
  have e:out*pw base (0:Int).toNat%m=out:=by
   show out*1%m=out;rw [Gq.mul_one,Pol.mod_small ho]
  rw [e];subst hh;exact cg (by simp -implicitDefEqProofs [Z3h_L0,az])
 | succ n ih=>
  intro k out base hk hn hkm ho hb
  by_cases h0:k=0
  ·subst h0
   refine ⟨pad (row base),?_⟩
   have e:out*pw base (0:Int).toNat%m=out:=by
    show out*1%m=out;rw [Gq.mul_one,Pol.mod_small ho]
   rw [e];subst hh;exact cg (by simp -implicitDefEqProofs [Z3h_L0,az])
  ·have hkp:0<k:=by omega
   have t1:=hmm p out base m hm hml (by omega) (by omega)
   have t2:=hmm p base base m hm hml (by omega) (by omega)
   have s:=Pol.bin_step (out:=out) (base:=base) hm k.toNat (by omega)
   have hdiv:(k/2).toNat=k.toNat/2:=by omega
   obtain ⟨b',e⟩:=ih (k/2) (if k.toNat%2=1 then out*base%m else out) (base*base%m) (by omega) (by rw [fo] at hn; omega) (by omega) (by split; exact Pol.len_mod _ hm; exact ho) (Pol.len_mod _ hm)
   rw [hdiv,s] at e;refine ⟨b',c8 ?_ e⟩;subst hh;have w1:IntKind.i64.wrap (k.tdiv 2)=k/2:=by rw [p4 hk,w64 (by omega)]
   have w2:k.tmod 2=k%2:=di hk
   by_cases hodd:k%2=1
   ·rw [if_pos (show k.toNat%2=1 by omega)]
    generalize pad (row (out*base%m))=R1 at *;generalize pad (row (base*base%m))=R2 at *;generalize pad (row out)=R3 at *;generalize pad (row base)=R4 at *;generalize pad (row m)=R5 at *;simp -implicitDefEqProofs [Z3h_L0,az,hkp,t1,t2,w1,w2,hodd]
   ·rw [if_neg (show ¬ k.toNat%2=1 by omega)]
    generalize pad (row (base*base%m))=R2 at *;generalize pad (row out)=R3 at *;generalize pad (row base)=R4 at *;generalize pad (row m)=R5 at *;simp -implicitDefEqProofs [Z3h_L0,az,hkp,t2,w1,w2,hodd]
def wm (O:ap):Prop:=∀(p:Int) [IsP p] (a:Fp p) (k:Int) (m:Fp p),m≠0→a.len≤64→m.len≤64→0≤k→k<4611686018427387904 →
 ask O F3h [(D.int .i64 p),(D.arr 64 .leaf (ah .u8 (pad (row a)))),(D.int .i64 k),(D.arr 64 .leaf (ah .u8 (pad (row m))))]=some (D.arr 64 .leaf (ah .u8 (pad (row (pw a k.toNat%m)))))
theorem a04 (hT:T F3h=some Z3h) (h1:Mr (den T A)) (hmo:By (den T A)) (hmm:x9 (den T A)):wm (den T A):=by
 intro p i a k m hm hal hml hk hkm;have e1:=h1 p;have e2:=hmo p 1 m hm (by rw [Pol.len_one]; omega) hml
 have e3:=hmo p a m hm hal hml;obtain ⟨b',e⟩:=aay (O:=den T A) hmm (z:=pad []) (hol:=.hole) rfl hm hml 62 k (1%m) (a%m) hk (by omega) hkm (Pol.len_mod _ hm) (Pol.len_mod _ hm)
 have e4:1%m*pw (a%m) k.toNat%m=pw a k.toNat%m:=by
  rw [Pol.mul_mod_left _ _ hm,Gq.one_mul,Pol.pow_mod _ hm]
 rw [e4] at e;refine cd hT rfl ?_;generalize pad (row (pw a k.toNat%m))=R at *;generalize pad (row (1%m))=R1 at *;generalize pad (row (a%m))=R2 at *;generalize pad (row (1:Fp p))=R3 at *;generalize pad (row a)=PA at *;generalize pad (row m)=PM at *;simp -implicitDefEqProofs [Z3h,Z3h_B,e1,e2,e3,e]
end Pe
namespace Pe
open Go Gq
section
variable {p:Int} [IsP p]
noncomputable def frW (m:Fp p) (k:Nat):Fp p:=pw Pol.X (p.toNat^k)%m-Pol.X
theorem a3x {m q:Fp p} (_hm:m≠0) (hq:Dv q m) (k:Nat):Dv q (frW m k)↔Dv q (frT p k):=by
 have h1:frT p k=frW m k+pw Pol.X (p.toNat^k)/m*m:=by
  have h:=Pol.div_mod (pw Pol.X (p.toNat^k)) m;show pw Pol.X (p.toNat^k)-Pol.X=pw Pol.X (p.toNat^k)%m-Pol.X+pw Pol.X (p.toNat^k)/m*m;generalize pw Pol.X (p.toNat^k)%m=R at *;generalize pw Pol.X (p.toNat^k)/m=Q at *;rw [h];exact bq [Q,m,R,Pol.X] rfl
 have h2:Dv q (pw Pol.X (p.toNat^k)/m*m):=hq.mul_left _;constructor
 ·intro h; rw [h1]; exact h.add h2
 ·intro h
  have:=h.sub h2;rw [h1] at this;have e:frW m k+pw Pol.X (p.toNat^k)/m*m-pw Pol.X (p.toNat^k)/m*m=frW m k:=bq [frW m k,pw Pol.X (p.toNat^k)/m,m] rfl
  rwa [e] at this
theorem a3i {m:Fp p} (h2:2≤m.len) (h13:m.len≤13):(∀k,1≤k→2*k≤m.len-1→(Pol.gcd m (frW m k)).len=1)↔Irr m:=by
 have hm:m≠0:=fun h=>by rw [h,Pol.len_zero] at h2; omega
 have small:∀d,d≤12→p^d<1000000000000:=fun d hd=>by
  have h1:=gr (p:=p) (by have:=IsP.pos (p:=p); omega) hd
  have h7:=md (p:=p) (n:=12) (by omega)
  omega
 constructor
 ·intro h
  refine za (n:=(m.len-1)/2+1) (fun q hq hd=>?_) h2 (by omega)
  rcases dt ((m.len-1)/2+1) q.len with g | g
  ·omega
  ·exfalso
   have hl:=hq.len;have h1:=h (q.len-1) (by omega) (by omega)
   have h3:Dv q (frT p (q.len-1)):=H9 hq (by omega) (small _ (by omega))
   have h4:=Pol.dv_gcd (.inl hm) hd ((a3x hm hd _).2 h3);have h5:=h4.len (fun h0=>by rw [h0,Pol.len_zero] at h1; omega)
   omega
 ·intro hi k hk hk2
  by_cases hd:Dv m (frW m k)
  ·have h3:=(a3x hm (Dv.refl m) k).1 hd
   have:=C8 hi (d:=m.len-1) (by omega) (small _ (by omega)) hk h3
   omega
  ·obtain ⟨u,v,e⟩:=hi.coprime hd
   have h1:=Pol.gcd_dv_left (a:=m) (b:=frW m k) (.inl hm);have h3:=Pol.gcd_dv_right (a:=m) (b:=frW m k) (.inl hm)
   have h4:Dv (Pol.gcd m (frW m k)) 1:=by
    rw [←e];exact (h1.mul_left u).add (h3.mul_left v)
   have h5:=h4.len Pol.one_ne;rw [Pol.len_one] at h5;have h6:=Pol.len_pos (Pol.gcd_monic (a:=m) (b:=frW m k) (.inl hm)).2;omega
theorem Mn {m:Fp p} (hi:Irr m) (hm:Monic m):IsFac m [(m,1)] where
 ok:=⟨fun x hx=>by simp only [br] at hx; subst hx; exact ⟨hi,hm,bj 1⟩,fj _ _⟩
 sorted:=fj _ _
 eq:=by
  rw [hm.1,Pol.C_one,Gq.one_mul];show m=pw m 1*1;rw [rc,Gq.mul_one]
theorem a67 {m:Fp p} {L:k9 p} (hm:Monic m) (h:IsFac m L):(∃q,L=[(q,1)])↔Irr m:=by
 constructor
 ·rintro ⟨q,rfl⟩
  have e:=h.eq;rw [hm.1,Pol.C_one,Gq.one_mul] at e
  have e2:ki [(q,1)]=q:=by
   show pw q 1*1=q;rw [rc,Gq.mul_one]
  rw [e2] at e;rw [e];exact (h.ok.irr (q,1) (by simp)).1
 ·intro hi
  exact ⟨m,h.unique hm.2 (Mn hi hm)⟩
end
end Pe
namespace Pe
open Go Gq
variable {T:Nat→Option Fn} {A:ap}
section
variable {p:Int}
def Gk (a:Fp p) (i:Nat):Fp p:=⟨fun n=>if n<i then a.c n else 0,i,fun n hn=>if_neg (by omega)⟩
theorem Nq (a:Fp p) (i n:Nat):(Gk a i).c n=if n<i then a.c n else 0:=rfl
theorem Lt (a:Fp p):Gk a 0=0:=Pol.ext fun n=>by rw [Nq,if_neg (by omega)]; rfl
theorem Qj (a:Fp p):Gk a a.len=a:=Pol.ext fun n=>by
 rw [Nq]
 split
 ·rfl
 ·rename_i h; exact (a.lt_len n (by omega)).symm
end
section
variable {p:Int} [IsP p]
theorem a2k (k:Zp p) (n i:Nat):(Pol.mo k n).c i=if i=n then k else 0:=rfl
theorem E2 (a:Fp p) (i:Nat):Gk a (i+1)=Gk a i+Pol.mo (a.c i) i:=Pol.ext fun n=>by
 rw [Pol.c_add,Nq,Nq,a2k]
 by_cases h:n=i
 ·subst h; rw [if_pos (by omega),if_neg (by omega),if_pos rfl,Gq.zero_add]
 ·rw [if_neg h,Gq.add_zero]
  by_cases h2:n<i
  ·rw [if_pos (by omega),if_pos h2]
  ·rw [if_neg (by omega),if_neg h2]
theorem a7o (n:Nat):(Pol.mo 0 n:Fp p)=0:=Pol.ext fun i=>by rw [a2k]; split <;> rfl
theorem afd (k l:Zp p) (n m:Nat):(Pol.mo k n*Pol.mo l m:Fp p)=Pol.mo (k*l) (n+m):=Pol.ext fun i=>by
 rw [Re,a2k,a2k]
 by_cases h:n≤i
 ·rw [if_pos h]
  by_cases h2:i-n=m
  ·rw [if_pos h2,if_pos (by omega)]
  ·rw [if_neg h2,if_neg (by omega),Gq.mul_zero]
 ·rw [if_neg h,if_neg (by omega)]
theorem Js {cur:List Int} {k:Nat} (h:k<cur.length) (t:Int):gn p (cur.set k ((cf cur k+t)%p))=gn p cur+Pol.mo (zp p t) k:=Pol.ext fun j=>by
 rw [Pol.c_add,jr,jr,tf,a2k]
 by_cases h1:j=k
 ·subst h1
  rw [if_pos ⟨rfl,h⟩,if_pos rfl,xm,Uc]
 ·rw [if_neg (by omega),if_neg h1,Gq.add_zero]
end
theorem a4j {O:ap} {p:Int} [IsP p] {a b:Fp p} {z:List Int} {n i:Nat} (hn:n<64) (hi:i<a.len) (hal:a.len≤64) (hbl:b.len≤64) (hab:a.len+b.len≤65) (hb1:0<b.len) (hai:a.c i≠0) {P:Fp p} {vn:V} (hvn:vn.refs=[]):∀(m j:Nat) (cur:List Int),j+m=b.len→cur.length=64→Can p cur→gn p cur=P+Pol.mo (a.c i) i*Gk b j→∃cur':List Int,cur'.length=64∧Can p cur'∧gn p cur'=P+Pol.mo (a.c i) i*b ∧
 dn O 0 (.loop Z3k_L0) ⟨[(0,(.d (.int .i64 p))),(4,.ptr 0 []),(5,.ptr 1 []),(6,.ptr 2 []),(8,vn),(9,(.d (.int .i64 (((b.len-1:Nat):Int))))),(10,.ptr 3 []),(11,(.d (.int .i64 i))),(12,(.d (.int .i64 j)))],[.box false (D.arr 64 .leaf (ah .u8 (pad (row a)))),.box false (D.arr 64 .leaf (ah .u8 (pad (row b)))),.box false (D.arr 64 .leaf (ah .u8 z)),.box false (D.arr 64 .leaf (ah .u8 cur))]⟩ =
  some (.exit 2,⟨[(0,(.d (.int .i64 p))),(4,.ptr 0 []),(5,.ptr 1 []),(6,.ptr 2 []),(8,vn),(9,(.d (.int .i64 (((b.len-1:Nat):Int))))),(10,.ptr 3 []),(11,(.d (.int .i64 i))),(12,(.d (.int .i64 b.len))),(43,(.d (.bool false)))],[.box false (D.arr 64 .leaf (ah .u8 (pad (row a)))),.box false (D.arr 64 .leaf (ah .u8 (pad (row b)))),.box false (D.arr 64 .leaf (ah .u8 z)),.box false (D.arr 64 .leaf (ah .u8 cur'))]⟩)
 | 0,j,cur,hj,hc,hcan,he=>by
  obtain rfl:j=b.len:=by omega
  rw [Qj] at he;have hlt:¬ (b.len:Int)≤((b.len-1:Nat):Int):=by omega
  refine ⟨cur,hc,hcan,he,cg ?_⟩;generalize ((b.len-1:Nat):Int)=m1 at *;generalize pad (row a)=PA at *;generalize pad (row b)=PB at *;simp -implicitDefEqProofs [Z3k_L0,az,hlt,hvn]
 | m+1,j,cur,hj,hc,hcan,he=>by
  have hp:=IsP.pos (p:=p);have hp7:=IsP.le (p:=p);have hp0:p≠0:=by omega
  have hlt:(j:Int)≤((b.len-1:Nat):Int):=by omega
  have hi64:i<64:=by omega
  have hj64:j<64:=by omega
  have hij:i+j<64:=by omega
  have hs0:(0:Int)≤(i:Int)+j:=by omega
  have hs1:((i:Int)+j).toNat=i+j:=by omega
  have hx:(pad (row a))[i]? = some (rep (a.c i)):=by rw [pf _ _ hi64,gd]
  have hy:(pad (row b))[j]? = some (rep (b.c j)):=by rw [pf _ _ hj64,gd]
  have hx0:rep (a.c i)≠0:=fun h=>hai (ku.1 h)
  have hr1:=im (a.c i);have hr2:=im (b.c j);have hkc:i+j<cur.length:=by omega
  have hw:cur[i+j]=cf cur (i+j):=(fp hkc).symm;have gc:=hcan.le hp (i+j);have gm:=lf (x:=rep (a.c i)) (y:=rep (b.c j)) (b:=10) (c:=10) (by omega) (by omega) (by omega)
  have gm0:=ep hr1.1 hr2.1;have w0:IntKind.i64.wrap ((i:Int)+j)=((i+j:Nat):Int):=(w64 (x:=(i:Int)+j) (by omega)).trans (by omega)
  have w1:IntKind.i64.wrap (rep (a.c i))=rep (a.c i):=w64 (by omega)
  have w2:IntKind.i64.wrap (rep (b.c j))=rep (b.c j):=w64 (by omega)
  have w3:IntKind.i64.wrap (cf cur (i+j))=cf cur (i+j):=w64 (by omega)
  have w4:IntKind.i64.wrap (rep (a.c i)*rep (b.c j))=rep (a.c i)*rep (b.c j):=w64 (by omega)
  have w5:IntKind.i64.wrap (cf cur (i+j)+rep (a.c i)*rep (b.c j))=cf cur (i+j)+rep (a.c i)*rep (b.c j):=w64 (by omega)
  have w6:(cf cur (i+j)+rep (a.c i)*rep (b.c j)).tmod p=(cf cur (i+j)+rep (a.c i)*rep (b.c j))%p:=di (by omega)
  have hin:=dw (cf cur (i+j)+rep (a.c i)*rep (b.c j)) hp0;have hin2:=de (cf cur (i+j)+rep (a.c i)*rep (b.c j)) hp;have w7:IntKind.u8.wrap ((cf cur (i+j)+rep (a.c i)*rep (b.c j))%p)=(cf cur (i+j)+rep (a.c i)*rep (b.c j))%p:=w8 (by omega)
  have w8':IntKind.i64.wrap ((j:Int)+1)=((j+1:Nat):Int):=(w64 (x:=(j:Int)+1) (by omega)).trans (by omega)
  have hnew:gn p (cur.set (i+j) ((cf cur (i+j)+rep (a.c i)*rep (b.c j))%p))=P+Pol.mo (a.c i) i*Gk b (j+1):=by
   rw [Js hkc,he,zx,lm,lm,E2,Gq.mul_add,afd,Gq.add_assoc]
  have hcan':Can p (cur.set (i+j) ((cf cur (i+j)+rep (a.c i)*rep (b.c j))%p)):=fun x hx=>by
   rcases fl hx with h | rfl
   ·exact hcan x h
   ·exact ⟨hin,hin2⟩
  obtain ⟨cur',g1,g2,g3,g4⟩:=a4j (O:=O) (z:=z) hn hi hal hbl hab hb1 hai hvn m (j+1) (cur.set (i+j) ((cf cur (i+j)+rep (a.c i)*rep (b.c j))%p)) (by omega) (by rw [cx]; exact hc) hcan' hnew
  have hs:ah .u8 (cur.set (i+j) ((cf cur (i+j)+rep (a.c i)*rep (b.c j))%p))=(ah .u8 cur).set (i+j) (D.int .u8 ((cf cur (i+j)+rep (a.c i)*rep (b.c j))%p)):=by unfold ah; rw [List.map_set]
  rw [hs] at g4;refine ⟨cur',g1,g2,g3,c8 ?_ g4⟩;generalize (cf cur (i+j)+rep (a.c i)*rep (b.c j))%p=W at *;generalize ((b.len-1:Nat):Int)=m1 at *;generalize pad (row a)=PA at *;generalize pad (row b)=PB at *;simp -implicitDefEqProofs [Z3k_L0,az,hlt,hi64,hj64,hij,hs0,hs1,hx,hy,hx0,hc,hw,w0,w1,w2,w3,w4,w5,w6,w7,w8',hp0,hvn]
theorem T8 {O:ap} {p:Int} [IsP p] {a b:Fp p} {z:List Int} (hal:a.len≤64) (hbl:b.len≤64) (hab:a.len+b.len≤65) (ha1:0<a.len) (hb1:0<b.len):∀(m i:Nat) (cur:List Int),i+m=a.len→cur.length=64→Can p cur→gn p cur=Gk a i*b→∃cur':List Int,cur'.length=64∧Can p cur'∧gn p cur'=a*b ∧
 dn O 0 (.loop Z3k_L1) ⟨[(0,(.d (.int .i64 p))),(4,.ptr 0 []),(5,.ptr 1 []),(6,.ptr 2 []),(8,(.d (.int .i64 (((a.len-1:Nat):Int))))),(9,(.d (.int .i64 (((b.len-1:Nat):Int))))),(10,.ptr 3 []),(11,(.d (.int .i64 i)))],[.box false (D.arr 64 .leaf (ah .u8 (pad (row a)))),.box false (D.arr 64 .leaf (ah .u8 (pad (row b)))),.box false (D.arr 64 .leaf (ah .u8 z)),.box false (D.arr 64 .leaf (ah .u8 cur))]⟩ =
  some (.exit 0,⟨[(0,(.d (.int .i64 p))),(4,.ptr 0 []),(5,.ptr 1 []),(6,.ptr 2 []),(8,(.d (.int .i64 (((a.len-1:Nat):Int))))),(9,(.d (.int .i64 (((b.len-1:Nat):Int))))),(10,.ptr 3 []),(11,(.d (.int .i64 a.len))),(32,(.d (.bool false)))],[.box false (D.arr 64 .leaf (ah .u8 (pad (row a)))),.box false (D.arr 64 .leaf (ah .u8 (pad (row b)))),.box false (D.arr 64 .leaf (ah .u8 z)),.box false (D.arr 64 .leaf (ah .u8 cur'))]⟩)
 | 0,i,cur,hi,hc,hcan,he=>by
  obtain rfl:i=a.len:=by omega
  rw [Qj] at he;have hlt:¬ (a.len:Int)≤((a.len-1:Nat):Int):=by omega
  refine ⟨cur,hc,hcan,he,cg ?_⟩;generalize ((b.len-1:Nat):Int)=m1 at *;generalize ((a.len-1:Nat):Int)=n1 at *;generalize pad (row a)=PA at *;generalize pad (row b)=PB at *;simp -implicitDefEqProofs [Z3k_L1,az,hlt]
 | m+1,i,cur,hi,hc,hcan,he=>by
  have hlt:(i:Int)≤((a.len-1:Nat):Int):=by omega
  have hi64:i<64:=by omega
  have w8':IntKind.i64.wrap ((i:Int)+1)=((i+1:Nat):Int):=(w64 (x:=(i:Int)+1) (by omega)).trans (by omega)
  have hx:(pad (row a))[i]? = some (rep (a.c i)):=by rw [pf _ _ hi64,gd]
  by_cases hai:a.c i=0
  ·have hr:rep (a.c i)=0:=ku.2 hai
   have he':gn p cur=Gk a (i+1)*b:=by rw [E2,hai,a7o,Gq.add_zero]; exact he
   obtain ⟨cur',g1,g2,g3,g4⟩:=T8 (O:=O) (z:=z) hal hbl hab ha1 hb1 m (i+1) cur (by omega) hc hcan he'
   rw [hr] at hx
   have hin:dn O 0 (.loop Z3k_L0) ⟨[(0,(.d (.int .i64 p))),(4,.ptr 0 []),(5,.ptr 1 []),(6,.ptr 2 []),(8,(.d (.int .i64 (((a.len-1:Nat):Int))))),(9,(.d (.int .i64 (((b.len-1:Nat):Int))))),(10,.ptr 3 []),(11,(.d (.int .i64 i))),(12,(.d (.int .i64 0)))],[.box false (D.arr 64 .leaf (ah .u8 (pad (row a)))),.box false (D.arr 64 .leaf (ah .u8 (pad (row b)))),.box false (D.arr 64 .leaf (ah .u8 z)),.box false (D.arr 64 .leaf (ah .u8 cur))]⟩ =
    some (.exit 2,⟨[(0,(.d (.int .i64 p))),(4,.ptr 0 []),(5,.ptr 1 []),(6,.ptr 2 []),(8,(.d (.int .i64 (((a.len-1:Nat):Int))))),(9,(.d (.int .i64 (((b.len-1:Nat):Int))))),(10,.ptr 3 []),(11,(.d (.int .i64 i))),(12,(.d (.int .i64 0))),(43,(.d (.bool false)))],[.box false (D.arr 64 .leaf (ah .u8 (pad (row a)))),.box false (D.arr 64 .leaf (ah .u8 (pad (row b)))),.box false (D.arr 64 .leaf (ah .u8 z)),.box false (D.arr 64 .leaf (ah .u8 cur))]⟩):=by
    refine cg ?_;generalize b.len-1=m1 at *;generalize ((a.len-1:Nat):Int)=n1 at *;generalize pad (row a)=PA at *;generalize pad (row b)=PB at *;simp -implicitDefEqProofs [Z3k_L0,az,hi64,hx]
   refine ⟨cur',g1,g2,g3,c8 ?_ g4⟩;generalize ((b.len-1:Nat):Int)=m1 at *;generalize ((a.len-1:Nat):Int)=n1 at *;generalize pad (row a)=PA at *;generalize pad (row b)=PB at *;simp -implicitDefEqProofs [Z3k_L1,az,hlt,hin,w8']
  ·obtain ⟨cur1,k1,k2,k3,k4⟩:=a4j (O:=O) (z:=z) (n:=0) (i:=i) (by omega) (by omega) hal hbl hab hb1 hai (P:=Gk a i*b) (vn:=(.d (.int .i64 (((a.len-1:Nat):Int))))) rfl b.len 0 cur (bv _) hc hcan (by rw [Lt,Gq.mul_zero,Gq.add_zero]; exact he)
   have e00:((0:Nat):Int)=0:=rfl;rw [e00] at k4
   have he':gn p cur1=Gk a (i+1)*b:=by
    rw [k3,E2];exact bq [Gk a i,b,Pol.mo (a.c i) i] rfl
   obtain ⟨cur',g1,g2,g3,g4⟩:=T8 (O:=O) (z:=z) hal hbl hab ha1 hb1 m (i+1) cur1 (by omega) k1 k2 he'
   refine ⟨cur',g1,g2,g3,c8 ?_ g4⟩;generalize ((b.len-1:Nat):Int)=m1 at *;generalize ((a.len-1:Nat):Int)=n1 at *;generalize pad (row a)=PA at *;generalize pad (row b)=PB at *;simp -implicitDefEqProofs [Z3k_L1,az,hlt,k4,w8']
def wq (O:ap):Prop:=∀(p:Int) [IsP p] (a b:Fp p),a.len≤64→b.len≤64→(a*b).len≤64 →
 ask O F3k [(D.int .i64 p),(D.arr 64 .leaf (ah .u8 (pad (row a)))),(D.arr 64 .leaf (ah .u8 (pad (row b))))]=some (.tup [(D.arr 64 .leaf (ah .u8 (pad (row (a*b))))),(D.bool true)])
theorem a3v (hT:T F3k=some Z3k) (hd:m8 (den T A)):wq (den T A):=by
 intro p i a b hal hbl hab;have e1:=hd p a hal;have e2:=hd p b hbl;refine cd hT rfl ?_
 by_cases ha:a=0
 ·subst ha
  rw [Gq.zero_mul,ee];rw [Pol.len_zero,ee] at e1;generalize pad (row b)=PB at *;simp -implicitDefEqProofs [Z3k,Z3k_B,az,e1,e2,List.replicate]
 ·have ha1:=Pol.len_pos ha
  by_cases hb:b=0
  ·subst hb
   rw [Gq.mul_zero,ee];rw [Pol.len_zero,ee] at e2;have ha2:¬ ((a.len:Int)-1<0):=by omega
   generalize pad (row a)=PA at *;simp -implicitDefEqProofs [Z3k,Z3k_B,az,e1,e2,ha2,List.replicate]
  ·have hb1:=Pol.len_pos hb
   have hm:=Pol.len_mul ha hb;rw [show ((a.len:Int)-1)=((a.len-1:Nat):Int) by omega] at e1
   rw [show ((b.len:Int)-1)=((b.len-1:Nat):Int) by omega] at e2
   have w1:IntKind.i64.wrap (((a.len-1:Nat):Int)+((b.len-1:Nat):Int))=((a.len-1+(b.len-1):Nat):Int):=(w64 (by omega)).trans (by omega)
   have w2:¬ ((63:Int)<((a.len-1+(b.len-1):Nat):Int)):=by omega
   obtain ⟨cur',g1,g2,g3,g4⟩:=T8 (O:=den T A) (z:=pad []) hal hbl (by omega) ha1 hb1 a.len 0 (pad []) (bv _) (c5 _) (by
    have:=xw (0:Fp p); rwa [ee] at this) (by
    rw [Lt,Gq.zero_mul];have:=mb (p:=p) (a:=0) (by rw [Pol.len_zero]; omega)
    rwa [ee] at this)
   have e00:((0:Nat):Int)=0:=rfl;rw [e00] at g4;have hcur:cur'=pad (row (a*b)):=by rw [Ig g2 g1,g3]
   rw [hcur] at g4;have n1:¬ (((a.len-1:Nat):Int)<0):=by omega
   have n2:¬ (((b.len-1:Nat):Int)<0):=by omega
   generalize ((a.len-1+(b.len-1):Nat):Int)=s1 at *;generalize ((b.len-1:Nat):Int)=m1 at *;generalize ((a.len-1:Nat):Int)=k1 at *;generalize pad (row (a*b))=PR at *;generalize pad (row a)=PA at *;generalize pad (row b)=PB at *;simp -implicitDefEqProofs [Z3k,Z3k_B,az,e1,e2,w1,w2,n1,n2,g4,List.replicate]
structure BzS {p:Int} [IsP p] (A B a b u x v y:Fp p):Prop where
 i:Pol.BzI A B a b u x v y
 la:a.len≤64
 lb:b.len≤64
 lu:u.len≤64
 lv:v.len≤64
 ne:a≠0
theorem BzS.step {p:Int} [IsP p] {A B a b u x v y:Fp p} (h:BzS A B a b u x v y) (hA:A.len≤64) (hB:B.len≤64) (hb:b≠0) :
 BzS A B b (a%b) x (u-a/b*x) y (v-a/b*y)∧x.len≤64∧y.len≤64∧(a/b).len≤64∧(a/b*x).len≤64∧(a/b*y).len≤64∧(a%b).len≤64:=by
 have h1:=h.i.lx;have h2:=h.i.ly;have h3:=Pol.len_pos h.ne;have h4:=Pol.len_pos hb;have h5:=Pol.len_div_le a hb;have h6:=Pol.len_mod_le a hb;obtain ⟨h7,h8⟩:=h.i.qlen hb;have h9:=h.la;have hx:x.len≤64:=by omega
 have hy:y.len≤64:=by omega
 exact ⟨⟨h.i.step hb,h.lb,by omega,hx,hy,hb⟩,hx,hy,by omega,by omega,by omega,by omega⟩
theorem a48 {O:ap} (hdg:m8 O) (hd:s9 O) (ht:wq O) (ha:pq O) {p:Int} [IsP p] {z:List Int} {a b u x v y:Fp p} (h0:b≠0) (ha':a.len≤64) (hb:b.len≤64) (hu:u.len≤64) (hv:v.len≤64) (s1:x.len≤64) (s2:y.len≤64) (s3:(a/b).len≤64) (s4:(a/b*x).len≤64) (s5:(a/b*y).len≤64) :
 dn O 0 Z32_L0 ⟨[(0,(.d (.int .i64 p))),(4,.ptr 0 []),(5,.ptr 1 []),(6,.ptr 2 []),(7,.ptr 3 []),(8,.ptr 4 []),(9,.ptr 5 []),(10,.ptr 6 []),(11,.ptr 7 []),(12,.ptr 8 [])],[.box false (D.arr 64 .leaf (ah .u8 (pad (row a)))),.box false (D.arr 64 .leaf (ah .u8 (pad (row b)))),.box false (D.arr 64 .leaf (ah .u8 z)),.box false (D.arr 64 .leaf (ah .u8 z)),.box false (D.arr 64 .leaf (ah .u8 z)),.box false (D.arr 64 .leaf (ah .u8 (pad (row u)))),.box false (D.arr 64 .leaf (ah .u8 (pad (row x)))),.box false (D.arr 64 .leaf (ah .u8 (pad (row v)))),.box false (D.arr 64 .leaf (ah .u8 (pad (row y)))),.hole,.hole,.hole,.hole,.hole,.hole]⟩ =
  some (.normal,⟨[(0,(.d (.int .i64 p))),(4,.ptr 0 []),(5,.ptr 1 []),(6,.ptr 2 []),(7,.ptr 3 []),(8,.ptr 4 []),(9,.ptr 5 []),(10,.ptr 6 []),(11,.ptr 7 []),(12,.ptr 8 [])],[.box false (D.arr 64 .leaf (ah .u8 (pad (row b)))),.box false (D.arr 64 .leaf (ah .u8 (pad (row (a%b))))),.box false (D.arr 64 .leaf (ah .u8 z)),.box false (D.arr 64 .leaf (ah .u8 z)),.box false (D.arr 64 .leaf (ah .u8 z)),.box false (D.arr 64 .leaf (ah .u8 (pad (row x)))),.box false (D.arr 64 .leaf (ah .u8 (pad (row (u-a/b*x))))),.box false (D.arr 64 .leaf (ah .u8 (pad (row y)))),.box false (D.arr 64 .leaf (ah .u8 (pad (row (v-a/b*y))))),.hole,.hole,.hole,.hole,.hole,.hole]⟩):=by
 have hp:=Pol.len_pos h0;have e0:=hdg p b hb;have e1:=hd p a b h0 ha' hb;have e2:=ht p (a/b) x s3 s1 s4;have e3:=ha p (-1) u (a/b*x) (by omega) (by omega) hu s4
 have e4:=ht p (a/b) y s3 s2 s5;have e5:=ha p (-1) v (a/b*y) (by omega) (by omega) hv s5
 rw [Cr] at e3 e5;have hge:¬ ((b.len:Int)-1<0):=by omega
 have hge2:(0:Int)≤(b.len:Int)-1:=by omega
 have hge3:(1:Int)≤(b.len:Int):=by omega
 generalize pad (row (u-a/b*x))=Pux at *;generalize pad (row (v-a/b*y))=Pvy at *;generalize pad (row (a/b*x))=Pqx at *;generalize pad (row (a/b*y))=Pqy at *;generalize pad (row (a/b))=Pq at *;generalize pad (row (a%b))=Pr at *;generalize pad (row a)=Pa at *;generalize pad (row b)=Pb at *;generalize pad (row u)=Pu at *;generalize pad (row x)=Px at *;generalize pad (row v)=Pv at *;generalize pad (row y)=Py at *;simp -implicitDefEqProofs [Z32_L0,az,hge3,e0,e1,e2,e3,e4,e5]
theorem a3a {O:ap} (hdg:m8 O) (hd:s9 O) (ht:wq O) (ha:pq O) {p:Int} [IsP p] {A B:Fp p} {z:List Int} (hA:A.len≤64) (hB:B.len≤64):∀(n:Nat) (a b u x v y:Fp p),b.len≤n→BzS A B a b u x v y→∃x' y':List Int,(Pol.bz n a b u x v y).1≠0∧(Pol.bz n a b u x v y).1.len≤64∧(Pol.bz n a b u x v y).2.1.len≤64∧(Pol.bz n a b u x v y).2.2.len≤64 ∧
 dn O 0 (.loop Z32_L0) ⟨[(0,(.d (.int .i64 p))),(4,.ptr 0 []),(5,.ptr 1 []),(6,.ptr 2 []),(7,.ptr 3 []),(8,.ptr 4 []),(9,.ptr 5 []),(10,.ptr 6 []),(11,.ptr 7 []),(12,.ptr 8 [])],[.box false (D.arr 64 .leaf (ah .u8 (pad (row a)))),.box false (D.arr 64 .leaf (ah .u8 (pad (row b)))),.box false (D.arr 64 .leaf (ah .u8 z)),.box false (D.arr 64 .leaf (ah .u8 z)),.box false (D.arr 64 .leaf (ah .u8 z)),.box false (D.arr 64 .leaf (ah .u8 (pad (row u)))),.box false (D.arr 64 .leaf (ah .u8 (pad (row x)))),.box false (D.arr 64 .leaf (ah .u8 (pad (row v)))),.box false (D.arr 64 .leaf (ah .u8 (pad (row y)))),.hole,.hole,.hole,.hole,.hole,.hole]⟩ =
  some (.exit 0,⟨[(0,(.d (.int .i64 p))),(4,.ptr 0 []),(5,.ptr 1 []),(6,.ptr 2 []),(7,.ptr 3 []),(8,.ptr 4 []),(9,.ptr 5 []),(10,.ptr 6 []),(11,.ptr 7 []),(12,.ptr 8 []),(28,(.d (.bool false)))],[.box false (D.arr 64 .leaf (ah .u8 (pad (row (Pol.bz n a b u x v y).1)))),.box false (D.arr 64 .leaf (ah .u8 (pad []))),.box false (D.arr 64 .leaf (ah .u8 z)),.box false (D.arr 64 .leaf (ah .u8 z)),.box false (D.arr 64 .leaf (ah .u8 z)),.box false (D.arr 64 .leaf (ah .u8 (pad (row (Pol.bz n a b u x v y).2.1)))),.box false (D.arr 64 .leaf (ah .u8 x')),.box false (D.arr 64 .leaf (ah .u8 (pad (row (Pol.bz n a b u x v y).2.2)))),.box false (D.arr 64 .leaf (ah .u8 y')),.hole,.hole,.hole,.hole,.hole,.hole]⟩):=by
 intro n
 have stop:∀(a u x v y:Fp p),dn O 0 (.loop Z32_L0) ⟨[(0,(.d (.int .i64 p))),(4,.ptr 0 []),(5,.ptr 1 []),(6,.ptr 2 []),(7,.ptr 3 []),(8,.ptr 4 []),(9,.ptr 5 []),(10,.ptr 6 []),(11,.ptr 7 []),(12,.ptr 8 [])],[.box false (D.arr 64 .leaf (ah .u8 (pad (row a)))),.box false (D.arr 64 .leaf (ah .u8 (pad (row (0:Fp p))))),.box false (D.arr 64 .leaf (ah .u8 z)),.box false (D.arr 64 .leaf (ah .u8 z)),.box false (D.arr 64 .leaf (ah .u8 z)),.box false (D.arr 64 .leaf (ah .u8 (pad (row u)))),.box false (D.arr 64 .leaf (ah .u8 (pad (row x)))),.box false (D.arr 64 .leaf (ah .u8 (pad (row v)))),.box false (D.arr 64 .leaf (ah .u8 (pad (row y)))),.hole,.hole,.hole,.hole,.hole,.hole]⟩ =
  some (.exit 0,⟨[(0,(.d (.int .i64 p))),(4,.ptr 0 []),(5,.ptr 1 []),(6,.ptr 2 []),(7,.ptr 3 []),(8,.ptr 4 []),(9,.ptr 5 []),(10,.ptr 6 []),(11,.ptr 7 []),(12,.ptr 8 []),(28,(.d (.bool false)))],[.box false (D.arr 64 .leaf (ah .u8 (pad (row a)))),.box false (D.arr 64 .leaf (ah .u8 (pad []))),.box false (D.arr 64 .leaf (ah .u8 z)),.box false (D.arr 64 .leaf (ah .u8 z)),.box false (D.arr 64 .leaf (ah .u8 z)),.box false (D.arr 64 .leaf (ah .u8 (pad (row u)))),.box false (D.arr 64 .leaf (ah .u8 (pad (row x)))),.box false (D.arr 64 .leaf (ah .u8 (pad (row v)))),.box false (D.arr 64 .leaf (ah .u8 (pad (row y)))),.hole,.hole,.hole,.hole,.hole,.hole]⟩):=by
  intro a u x v y;have e:=hdg p 0 (by rw [Pol.len_zero]; omega)
  rw [ee,Pol.len_zero] at e;rw [ee];refine cg ?_;generalize pad (row a)=Pa;generalize pad (row u)=Pu;generalize pad (row x)=Px;generalize pad (row v)=Pv;generalize pad (row y)=Py;simp -implicitDefEqProofs [Z32_L0,az,e]
 induction n with
 | zero=>
  intro a b u x v y hn hs;obtain rfl:=Pol.len_zero_iff.1 (show b.len=0 by omega)
  exact ⟨_,_,hs.ne,hs.la,hs.lu,hs.lv,stop a u x v y⟩
 | succ n ih=>
  intro a b u x v y hn hs;unfold Pol.bz
  by_cases h0:b=0
  ·subst h0
   rw [if_pos rfl];exact ⟨_,_,hs.ne,hs.la,hs.lu,hs.lv,stop a u x v y⟩
  ·rw [if_neg h0]
   obtain ⟨s0,s1,s2,s3,s4,s5,s6⟩:=hs.step hA hB h0;have hl:=Pol.len_mod a h0;have hp:=Pol.len_pos h0;obtain ⟨x',y',g1,g2,g3,g4,e⟩:=ih b (a%b) x (u-a/b*x) y (v-a/b*y) (by omega) s0
   exact ⟨x',y',g1,g2,g3,g4,c8 (a48 hdg hd ht ha h0 hs.la hs.lb hs.lu hs.lv s1 s2 s3 s4 s5) e⟩
theorem a6r {O:ap} (hdg:m8 O) (hd:s9 O) (ht:wq O) (ha:pq O) {p:Int} [IsP p] {a b:Fp p} {z:List Int} (h:a≠0∨b≠0) (hal:a.len≤64) (hbl:b.len≤64):∃x' y':List Int,(Pol.bz b.len a b 1 0 0 1).1≠0∧(Pol.bz b.len a b 1 0 0 1).1.len≤64∧(Pol.bz b.len a b 1 0 0 1).2.1.len≤64∧(Pol.bz b.len a b 1 0 0 1).2.2.len≤64 ∧
 dn O 0 (.loop Z32_L0) ⟨[(0,(.d (.int .i64 p))),(4,.ptr 0 []),(5,.ptr 1 []),(6,.ptr 2 []),(7,.ptr 3 []),(8,.ptr 4 []),(9,.ptr 5 []),(10,.ptr 6 []),(11,.ptr 7 []),(12,.ptr 8 [])],[.box false (D.arr 64 .leaf (ah .u8 (pad (row a)))),.box false (D.arr 64 .leaf (ah .u8 (pad (row b)))),.box false (D.arr 64 .leaf (ah .u8 z)),.box false (D.arr 64 .leaf (ah .u8 z)),.box false (D.arr 64 .leaf (ah .u8 z)),.box false (D.arr 64 .leaf (ah .u8 (pad (row (1:Fp p))))),.box false (D.arr 64 .leaf (ah .u8 (pad (row (0:Fp p))))),.box false (D.arr 64 .leaf (ah .u8 (pad (row (0:Fp p))))),.box false (D.arr 64 .leaf (ah .u8 (pad (row (1:Fp p))))),.hole,.hole,.hole,.hole,.hole,.hole]⟩ =
  some (.exit 0,⟨[(0,(.d (.int .i64 p))),(4,.ptr 0 []),(5,.ptr 1 []),(6,.ptr 2 []),(7,.ptr 3 []),(8,.ptr 4 []),(9,.ptr 5 []),(10,.ptr 6 []),(11,.ptr 7 []),(12,.ptr 8 []),(28,(.d (.bool false)))],[.box false (D.arr 64 .leaf (ah .u8 (pad (row (Pol.bz b.len a b 1 0 0 1).1)))),.box false (D.arr 64 .leaf (ah .u8 (pad []))),.box false (D.arr 64 .leaf (ah .u8 z)),.box false (D.arr 64 .leaf (ah .u8 z)),.box false (D.arr 64 .leaf (ah .u8 z)),.box false (D.arr 64 .leaf (ah .u8 (pad (row (Pol.bz b.len a b 1 0 0 1).2.1)))),.box false (D.arr 64 .leaf (ah .u8 x')),.box false (D.arr 64 .leaf (ah .u8 (pad (row (Pol.bz b.len a b 1 0 0 1).2.2)))),.box false (D.arr 64 .leaf (ah .u8 y')),.hole,.hole,.hole,.hole,.hole,.hole]⟩):=by
 by_cases h0:a=0
 ·subst h0
  have hb:=h.resolve_left (fun h=>h rfl)
  have hp:=Pol.len_pos hb;obtain ⟨k,hk⟩:∃k,b.len=k+1:=⟨b.len-1,by omega⟩
  have h1:(1:Fp p).len=1:=Pol.len_one;have hz:(0:Fp p).len=0:=Pol.len_zero;have hq:(0:Fp p)/b=0:=(Pol.div_mod_eq (a:=(0:Fp p)) (b:=b) (q:=0) (r:=0) (by rw [Gq.zero_mul,Gq.zero_add]) (by omega)).1
  have hs0:∀c:Fp p,c-0=c:=fun c=>by rw [Gq.sub_eq,py,Gq.add_zero]
  have hr:(0:Fp p)%b=0:=Pol.zero_mod hb;have e:=a48 (z:=z) hdg hd ht ha (a:=0) (b:=b) (u:=1) (x:=0) (v:=0) (y:=1) hb (by omega) hbl (by omega) (by omega) (by omega) (by omega) (by rw [hq]; omega) (by rw [hq,Gq.zero_mul]; omega) (by rw [hq,Gq.zero_mul]; omega)
  rw [hk];unfold Pol.bz;rw [if_neg hb];rw [hq,hr,Gq.zero_mul,Gq.zero_mul,hs0,hs0] at e ⊢;have hi:Pol.BzI (0:Fp p) b b 0 0 1 1 0:=⟨by rw [Gq.zero_mul,Gq.zero_add,Gq.one_mul],by rw [Gq.mul_zero,Gq.zero_mul,Gq.add_zero],.inr (by omega),.inl hz,.inl hz,.inr (by omega),.inl hb⟩
  obtain ⟨x',y',g1,g2,g3,g4,e2⟩:=a3a (O:=O) (z:=z) hdg hd ht ha (A:=0) (B:=b) (by omega) hbl k b 0 0 1 1 0 (by omega) ⟨hi,hbl,by omega,by omega,by omega,hb⟩
  exact ⟨x',y',g1,g2,g3,g4,c8 e e2⟩
 ·exact a3a (O:=O) (z:=z) hdg hd ht ha hal hbl b.len a b 1 0 0 1 (bj _) ⟨Pol.BzI.init (.inl h0),hal,hbl,by rw [Pol.len_one]; omega,by rw [Pol.len_zero]; omega,h0⟩
def Dx (O:ap):Prop:=∀(p:Int) [IsP p] (a b:Fp p),a≠0∨b≠0→a.len≤64→b.len≤64 →
 ask O F32 [(D.int .i64 p),(D.arr 64 .leaf (ah .u8 (pad (row a)))),(D.arr 64 .leaf (ah .u8 (pad (row b))))]=some (.tup [(D.arr 64 .leaf (ah .u8 (pad (row (Pol.bezout a b).1)))),(D.arr 64 .leaf (ah .u8 (pad (row (Pol.bezout a b).2.1)))),(D.arr 64 .leaf (ah .u8 (pad (row (Pol.bezout a b).2.2))))])
theorem Yt (hT:T F32=some Z32) (h1:Mr (den T A)) (hdg:m8 (den T A)) (hd:s9 (den T A)) (ht:wq (den T A)) (ha:pq (den T A)) (hinv:nm (den T A)):Dx (den T A):=by
 intro p i a b h0 hal hbl;have hp:=IsP.ge (p:=p);have hp7:=IsP.le (p:=p);have e1:=h1 p;obtain ⟨x',y',g1,g2,g3,g4,e2⟩:=a6r (O:=den T A) (z:=pad []) hdg hd ht ha h0 hal hbl;unfold Pol.bezout;have heu:Pol.eu a b=Pol.bz b.len a b 1 0 0 1:=rfl;rw [heu];generalize Pol.bz b.len a b 1 0 0 1=R at *;obtain ⟨d,u,v⟩:=R;simp only at g1 g2 g3 g4 e2 ⊢;rw [ee] at e2;have hd1:=Pol.len_pos g1;have e3:=hdg p d g2;rw [show ((d.len:Int)-1)=((d.len-1:Nat):Int) by omega] at e3
 have hi64:d.len-1<64:=by omega
 have hx:(pad (row d))[d.len-1]? = some (rep d.ld):=by rw [pf _ _ hi64,gd]; rfl
 have hr:=im d.ld;have hr0:rep d.ld≠0:=fun h=>Pol.ld_ne g1 (ku.1 h)
 have hin:=xl p (rep d.ld);have e4:=hinv p (rep d.ld) (by omega) hr.2
 have w1:IntKind.i64.wrap (inv p (rep d.ld))=inv p (rep d.ld):=w64 (by omega)
 have z0:(0:Fp p).len≤64:=by rw [Pol.len_zero]; omega
 have e5:=ha p (inv p (rep d.ld)) 0 d (by omega) (by omega) z0 g2
 have e6:=ha p (inv p (rep d.ld)) 0 u (by omega) (by omega) z0 g3
 have e7:=ha p (inv p (rep d.ld)) 0 v (by omega) (by omega) z0 g4
 rw [uc _ (Pol.ld_ne g1),Gq.zero_add,ee] at e5 e6 e7;refine cd hT rfl ?_;generalize pad (row (Pol.C (Fd.inv d.ld)*d))=P1 at *;generalize pad (row (Pol.C (Fd.inv d.ld)*u))=P2 at *;generalize pad (row (Pol.C (Fd.inv d.ld)*v))=P3 at *;generalize pad (row d)=Pd at *;generalize pad (row u)=Pu at *;generalize pad (row v)=Pv at *;generalize pad (row a)=Pa at *;generalize pad (row b)=Pb at *;generalize pad (row (1:Fp p))=P0 at *;generalize d.len-1=n1 at *;simp -implicitDefEqProofs [Z32,Z32_B,e1,e2,e3,e4,e5,e6,e7,hi64,hx,w1,List.replicate]
def O7 (O:ap):Prop:=∀(p:Int) [IsP p] (a b:Fp p),a≠0→a.len≤64→b.len≤64 →
 ask O F37 [(D.int .i64 p),(D.arr 64 .leaf (ah .u8 (pad (row a)))),(D.arr 64 .leaf (ah .u8 (pad (row b))))]=some (D.arr 64 .leaf (ah .u8 (pad (row (Pol.gcd a b)))))
theorem a9h (hT:T F37=some Z37) (hdg:m8 (den T A)) (hb:Dx (den T A)):O7 (den T A):=by
 intro p i a b h0 hal hbl;have e1:=hdg p a hal;have e2:=hb p a b (.inl h0) hal hbl;have hp:=Pol.len_pos h0;have hge:¬ ((a.len:Int)-1<0):=by omega
 refine cd hT rfl ?_;unfold Pol.gcd;generalize pad (row (Pol.bezout a b).1)=P1 at *;generalize pad (row (Pol.bezout a b).2.1)=P2 at *;generalize pad (row (Pol.bezout a b).2.2)=P3 at *;generalize pad (row a)=Pa at *;generalize pad (row b)=Pb at *;generalize (a.len:Int)-1=n1 at *;simp -implicitDefEqProofs [Z37,Z37_B,az,e1,e2,hge,List.replicate]
def a2n (O:ap):Prop:=∀(p:Int) [IsP p],ask O F3j []=some (D.arr 64 .leaf (ah .u8 (pad (row (Pol.X:Fp p)))))
theorem ajc (hT:T F3j=some Z3j):a2n (den T A):=by
 intro p i;have e:((pad []).set 0 0).set 1 1=pad [0,1]:=by decide +kernel
 have h0:(pad [])[0]? = some 0:=by decide +kernel
 have h1:(pad [])[1]? = some 0:=by decide +kernel
 rw [a37];refine cd hT rfl ?_;simp -implicitDefEqProofs [Z3j,Z3j_B,e,h0,h1]
open Classical in
theorem a4z {O:ap} (hdg:m8 O) (hpw:wm O) (hg:O7 O) (ha:pq O) (ht:a2n O) {p:Int} [IsP p] {m:Fp p} (hm:m≠0) (hml:m.len≤13) {n:Nat} (hn:n+1=m.len):∀(f k:Nat),1≤k→k+f=n/2+1→∃P':List Int,
 dn O 0 (.loop Z3a_L0) ⟨[(0,(.d (.int .i64 p))),(3,.ptr 0 []),(5,(.d (.int .i64 n))),(6,.ptr 1 []),(7,(.d (.int .i64 k)))],[.box false (D.arr 64 .leaf (ah .u8 (pad (row m)))),.box false (D.arr 64 .leaf (ah .u8 (pad (row (pw Pol.X (p.toNat^(k-1))%m)))))]⟩ =
  if ∀k',k≤k'→2*k'≤n→(Pol.gcd m (frW m k')).len=1 then some (.exit 0,⟨[(0,(.d (.int .i64 p))),(3,.ptr 0 []),(5,(.d (.int .i64 n))),(6,.ptr 1 []),(7,(.d (.int .i64 (((n/2+1:Nat):Int))))),(19,(.d (.bool false)))],[.box false (D.arr 64 .leaf (ah .u8 (pad (row m)))),.box false (D.arr 64 .leaf (ah .u8 P'))]⟩)
  else some (.ret,⟨[(4,(.d (.bool false)))],[.hole,.hole]⟩)
 | 0,k,hk,hf=>by
  obtain rfl:k=n/2+1:=by omega
  refine ⟨pad (row (pw Pol.X (p.toNat^(n/2+1-1))%m)),?_⟩;rw [if_pos (fun k' h1 h2=>by omega)]
  have w1:IntKind.i64.wrap (2*((n/2+1:Nat):Int))=2*((n/2+1:Nat):Int):=w64 (by omega)
  have hlt:¬ (2*((n/2+1:Nat):Int)≤n):=by omega
  refine cg ?_;generalize ((n/2+1:Nat):Int)=k1 at *;generalize pad (row (pw Pol.X (p.toNat^(n/2+1-1))%m))=P1 at *;generalize pad (row m)=Pm at *;simp -implicitDefEqProofs [Z3a_L0,az,w1,hlt]
 | f+1,k,hk,hf=>by
  have hp:=IsP.pos (p:=p);have hp7:=IsP.le (p:=p);have w1:IntKind.i64.wrap (2*(k:Int))=2*(k:Int):=w64 (by omega)
  have hlt:2*(k:Int)≤n:=by omega
  have w4:IntKind.i64.wrap ((k:Int)+1)=((k+1:Nat):Int):=(w64 (x:=(k:Int)+1) (by omega)).trans (by omega)
  have hl1:=Pol.len_mod (pw Pol.X (p.toNat^(k-1))) hm;have hl2:=Pol.len_mod (pw Pol.X (p.toNat^k)) hm;have e1:=hpw p (pw Pol.X (p.toNat^(k-1))%m) p m hm (by omega) (by omega) (by omega) (by omega)
  have e2:pw (pw Pol.X (p.toNat^(k-1))%m) p.toNat%m=pw Pol.X (p.toNat^k)%m:=by
   rw [Pol.pow_mod _ hm,qw,←fo,show (k-1).succ=k by omega]
  rw [e2] at e1;have e3:=ht p;have hX:(Pol.X:Fp p).len≤64:=by rw [Pol.len_X]; omega
  have e4:=ha p (-1) (pw Pol.X (p.toNat^k)%m) Pol.X (by omega) (by omega) (by omega) hX
  rw [Cr] at e4;have e4':pw Pol.X (p.toNat^k)%m-Pol.X=frW m k:=rfl;rw [e4'] at e4;have hl3:(frW m k).len≤64:=Pol.len_sub_le (by omega) hX
  have e5:=hg p m (frW m k) hm (by omega) hl3
  have hgm:=Pol.gcd_monic (a:=m) (b:=frW m k) (.inl hm);have hgl:=(Pol.gcd_dv_left (a:=m) (b:=frW m k) (.inl hm)).len hm;have e6:=hdg p (Pol.gcd m (frW m k)) (by omega)
  have hg1:=Pol.len_pos hgm.2
  by_cases hc:(Pol.gcd m (frW m k)).len=1
  ·obtain ⟨P',ih⟩:=a4z hdg hpw hg ha ht hm hml hn f (k+1) (by omega) (by omega)
   rw [show k+1-1=k by omega] at ih
   refine ⟨P',?_⟩
   have hiff:(∀k',k≤k'→2*k'≤n→(Pol.gcd m (frW m k')).len=1)↔∀k',k+1≤k'→2*k'≤n→(Pol.gcd m (frW m k')).len=1:=by
    constructor
    ·intro h k' h1 h2; exact h k' (by omega) h2
    ·intro h k' h1 h2
     by_cases hkk:k'=k
     ·rw [hkk]; exact hc
     ·exact h k' (by omega) h2
   rw [propext hiff];refine c8 ?_ ih;rw [hc] at e6;have e7:((1:Nat):Int)-1=0:=rfl;rw [e7] at e6;generalize pad (row (Pol.gcd m (frW m k)))=Pg at *;generalize pad (row (frW m k))=Pw at *;generalize pad (row (pw Pol.X (p.toNat^k)%m))=P2 at *;generalize pad (row (pw Pol.X (p.toNat^(k-1))%m))=P1 at *;generalize pad (row (Pol.X:Fp p))=PX at *;generalize pad (row m)=Pm at *;simp -implicitDefEqProofs [Z3a_L0,az,w1,hlt,e1,e3,e4,e5,e6,w4]
  ·refine ⟨pad [],?_⟩
   rw [if_neg (fun h=>hc (h k (bj k) (by omega)))]
   have hne:¬ (((Pol.gcd m (frW m k)).len:Int)-1=0):=by omega
   refine nj ?_;generalize ((Pol.gcd m (frW m k)).len:Int)-1=g1 at *;generalize pad (row (Pol.gcd m (frW m k)))=Pg at *;generalize pad (row (frW m k))=Pw at *;generalize pad (row (pw Pol.X (p.toNat^k)%m))=P2 at *;generalize pad (row (pw Pol.X (p.toNat^(k-1))%m))=P1 at *;generalize pad (row (Pol.X:Fp p))=PX at *;generalize pad (row m)=Pm at *;simp -implicitDefEqProofs [Z3a_L0,az,w1,hlt,e1,e3,e4,e5,e6,hne]
open Classical in
def Nj (O:ap):Prop:=∀(p:Int) [IsP p] (m:Fp p),m≠0→m.len≤13→ask O F3a [(D.int .i64 p),(D.arr 64 .leaf (ah .u8 (pad (row m))))]=some (D.bool (decide (Irr m)))
open Classical in
theorem aag (hT:T F3a=some Z3a) (hdg:m8 (den T A)) (hmo:By (den T A)) (hpw:wm (den T A)) (hg:O7 (den T A)) (ha:pq (den T A)) (ht:a2n (den T A)):Nj (den T A):=by
 intro p i m hm hml;have e1:=hdg p m (by omega)
 have e2:=ht p;have e3:=hmo p Pol.X m hm (by rw [Pol.len_X]; omega) (by omega)
 have h1:=Pol.len_pos hm;refine cd hT rfl ?_
 by_cases h2:2≤m.len
 ·obtain ⟨P',e4⟩:=a4z (O:=den T A) hdg hpw hg ha ht hm hml (n:=m.len-1) (by omega) ((m.len-1)/2) 1 (bj 1) (by omega)
  have e5:pw (Pol.X:Fp p) (p.toNat^(1-1))=Pol.X:=by rw [gu,mh,rc]
  rw [e5,a3i h2 hml] at e4;rw [show ((m.len:Int)-1)=((m.len-1:Nat):Int) by omega] at e1
  have hlt:¬ (((m.len-1:Nat):Int)<1):=by omega
  have e01:((1:Nat):Int)=1:=rfl;rw [e01] at e4
  by_cases hi:Irr m
  ·rw [if_pos hi] at e4
   rw [decide_eq_true hi];generalize (((m.len-1)/2+1:Nat):Int)=k1 at *;generalize ((m.len-1:Nat):Int)=n1 at *;generalize pad (row (Pol.X%m))=P1 at *;generalize pad (row (Pol.X:Fp p))=PX at *;generalize pad (row m)=Pm at *;simp -implicitDefEqProofs [Z3a,Z3a_B,az,e1,e2,e3,e4,hlt,List.replicate]
  ·rw [if_neg hi] at e4
   rw [decide_eq_false hi];generalize ((m.len-1:Nat):Int)=n1 at *;generalize pad (row (Pol.X%m))=P1 at *;generalize pad (row (Pol.X:Fp p))=PX at *;generalize pad (row m)=Pm at *;simp -implicitDefEqProofs [Z3a,Z3a_B,az,e1,e2,e3,e4,hlt,List.replicate]
 ·have hl:m.len=1:=by omega
  rw [hl] at e1;have e7:((1:Nat):Int)-1=0:=rfl;rw [e7] at e1;rw [decide_eq_false (fun h:Irr m=>h2 h.len)]
  generalize pad (row (Pol.X%m))=P1 at *;generalize pad (row (Pol.X:Fp p))=PX at *;generalize pad (row m)=Pm at *;simp -implicitDefEqProofs [Z3a,Z3a_B,az,e1,e2,e3,List.replicate]
end Pe
namespace Pe
open Go Gq
variable {T:Nat→Option Fn} {A:ap}
def Id:List Int→Nat→List Int→List Int
 | [],_,cur=>cur
 | d::ds,i,cur=>Id ds (i+1) (cur.set i d)
theorem Ge:∀(ds:List Int) (i:Nat) (cur:List Int),(Id ds i cur).length=cur.length
 | [],_,_=>rfl
 | d::ds,i,cur=>by rw [Id,Ge,cx]
theorem Wx:∀(ds:List Int) (i:Nat) (cur:List Int) (j:Nat),i+ds.length≤cur.length→cf (Id ds i cur) j=if i≤j∧j<i+ds.length then cf ds (j-i) else cf cur j
 | [],i,cur,j,_=>by rw [Id,if_neg (by rintro ⟨h1,h2⟩; rw [dl] at h2; omega)]
 | d::ds,i,cur,j,h=>by
  simp at h;rw [Id,Wx ds (i+1) _ j (by rw [cx]; omega),tf,bu]
  by_cases h1:j=i
  ·subst h1
   rw [if_neg (by omega),if_pos ⟨rfl,by omega⟩,if_pos (by omega),gu]; rfl
  ·by_cases h2:i+1≤j∧j<i+1+ds.length
   ·rw [if_pos h2,if_pos (by omega)]
    obtain ⟨k,hk⟩:∃k,j-i=k+1:=⟨j-i-1,by omega⟩
    rw [hk,show j-(i+1)=k by omega]
    simp [cf]
   ·rw [if_neg h2,if_neg (by omega),if_neg (by omega)]
theorem a2w {ds:List Int} (h:ds.length≤64):Id ds 0 (pad [])=pad ds:=by
 symm
 apply I6 (by rw [Ge,c5])
 intro i hi;rw [Wx _ _ _ _ (by rw [c5]; omega)]
 by_cases h1:i<ds.length
 ·rw [if_pos (by omega),Nat.sub_zero]
 ·rw [if_neg (by omega),yr (by simp),o7 (by omega),o7 (by simp)]
theorem a8w {O:ap} {p:Int} [IsP p] {z:List Int}:∀(f:Nat) (n:Int) (i:Nat) (cur:List Int),0≤n→n<2^f→n<9223372036854775807→i+f≤64→cur.length=64→∃i':Nat,
 dn O 0 (.loop Z3f_L0) ⟨[(0,(.d (.int .i64 p))),(1,(.d (.int .i64 n))),(4,.ptr 0 []),(5,.ptr 1 []),(6,(.d (.int .i64 i)))],[.box false (D.arr 64 .leaf (ah .u8 z)),.box false (D.arr 64 .leaf (ah .u8 cur))]⟩ =
  some (.exit 0,⟨[(0,(.d (.int .i64 p))),(1,(.d (.int .i64 0))),(4,.ptr 0 []),(5,.ptr 1 []),(6,(.d (.int .i64 i'))),(9,(.d (.bool false)))],[.box false (D.arr 64 .leaf (ah .u8 z)),.box false (D.arr 64 .leaf (ah .u8 (Id (dgs p f n) i cur)))]⟩)
 | 0,n,i,cur,h0,hn,hm,hi,hc=>by
  obtain rfl:n=0:=by simp at hn; omega
  exact ⟨i,cg (by simp -implicitDefEqProofs [Z3f_L0,az,dgs,Id])⟩
 | f+1,n,i,cur,h0,hn,hm,hi,hc=>by
  have hp:=IsP.ge (p:=p);have hp7:=IsP.le (p:=p)
  by_cases hz:n=0
  ·subst hz
   refine ⟨i,?_⟩;rw [dgs,if_pos (tc 0),Id];exact cg (by simp -implicitDefEqProofs [Z3f_L0,az])
  ·have hd:n/p<2^f:=by
    apply jg (by omega)
    have:(2:Int)^(f+1)=2^f*2:=dq _ _;have h2:(2:Int)^f*2≤2^f*p:=c7 hp (oz (by omega))
    omega
   have hdn:0≤n/p:=oc (by omega) (by omega)
   have hdl:n/p≤n:=Int.ediv_le_self _ h0;obtain ⟨i',e⟩:=a8w (O:=O) (p:=p) (z:=z) f (n/p) (i+1) (cur.set i (n%p)) hdn hd (by omega) (by omega) (by simpa using hc)
   have hpos:0<n:=by omega
   have hr:0≤n%p∧n%p<p:=⟨dw _ (by omega),de _ (by omega)⟩
   have w1:IntKind.i64.wrap (n.tdiv p)=n/p:=by rw [p4 h0,w64 (by omega)]
   have w2:n.tmod p=n%p:=di h0;have w3:IntKind.u8.wrap (n%p)=n%p:=w8 (by omega)
   have w4:IntKind.i64.wrap ((i:Int)+1)=((i+1:Nat):Int):=(w64 (x:=(i:Int)+1) (by omega)).trans (by omega)
   have hp0:p≠0:=by omega
   have hi64:i<64:=by omega
   have hic:i<cur.length:=by omega
   refine ⟨i',?_⟩;rw [dgs,if_neg (by omega),Id]
   refine c8 ?_ e;simp -implicitDefEqProofs [Z3f_L0,az,hpos,w1,w2,w3,w4,hp0,hi64,hic]
def Ww (O:ap):Prop:=∀(p:Int) [IsP p] (n:Int),0≤n→n<4611686018427387904→ask O F3f [(D.int .i64 p),(D.int .i64 n)]=some (D.arr 64 .leaf (ah .u8 (pad (row (f7 p n)))))
theorem af5 (hT:T F3f=some Z3f):Ww (den T A):=by
 intro p i n h0 hn;obtain ⟨i',e⟩:=a8w (O:=den T A) (p:=p) (z:=pad []) 64 n 0 (pad []) h0 (by omega) (by omega) (by omega) (c5 _)
 rw [a2w (Vr p 64 n),←Io (by omega)] at e
 have e0:((0:Nat):Int)=0:=rfl;rw [e0] at e;refine cd hT rfl ?_;generalize pad (row (f7 p n))=R at *;simp -implicitDefEqProofs [Z3f,Z3f_B,e]
theorem Mg (k:IntKind):∀{l m:List Int},l.length=m.length→D.beqs .int (ah k l) (ah k m)=some (decide (l=m))
 | [],[],_=>by simp [D.beqs,ah]
 | x::l,y::m,h=>by
  have e:D.beqs .int (ah k (x::l)) (ah k (y::m))=(D.beq .int (.int k x) (.int k y)).bind fun b=>if b then D.beqs .int (ah k l) (ah k m) else some false:=rfl
  rw [e];have e2:D.beq .int (.int k x) (.int k y)=some (decide (x=y)):=by simp [D.beq]
  rw [e2,ae,Mg k (by simpa using h)]
  by_cases h1:x=y
  ·subst h1; simp
  ·simp [h1]
theorem a99 {l m:List Int} (hl:l.length=64) (hm:m.length=64):D.beq (.arr 64 .leaf .int) (D.arr 64 .leaf (ah .u8 l)) (D.arr 64 .leaf (ah .u8 m))=some (decide (l=m)):=by
 have e:D.beq (.arr 64 .leaf .int) (D.arr 64 .leaf (ah .u8 l)) (D.arr 64 .leaf (ah .u8 m))=if 64=64∧64=64∧Sh.beq .leaf .leaf∧Sh.beq .leaf .leaf then D.beqs .int (ah .u8 l) (ah .u8 m) else none:=rfl
 rw [e,if_pos ⟨rfl,rfl,rfl,rfl⟩,Mg _ (by omega)]
theorem z5 {p:Int} {a b:Fp p} (ha:a.len≤64) (hb:b.len≤64):pad (row a)=pad (row b)↔a=b:=by
 constructor
 ·intro h
  rw [←mb ha,h,mb hb]
 ·rintro rfl; rfl
section
variable {p:Int} [IsP p]
structure SInv (a0:Fp p) (k:Int) (a:Fp p) (out:k9 p):Prop where
 ne:a≠0
 eq:a0=a*ki out
 ok:FacOk out
 so:out.Pairwise fun x y=>fh x.1<fh y.1
 lt:∀x∈out,fh x.1<k
 ge:∀q,Irr q→Monic q→Dv q a→k≤fh q
 ln:out.length+a.len≤13
structure SEnd (a0 a:Fp p) (out:k9 p):Prop where
 ne:a≠0
 eq:a0=a*ki out
 ok:FacOk out
 so:out.Pairwise fun x y=>fh x.1<fh y.1
 irr:2≤a.len→Irr a∧∀x∈out,fh x.1<fh (mon a)
 ln:out.length+a.len≤13
theorem Uw {q a:Fp p} (hq:Irr q) (h:Dv q a):Dv (mon q) a:=(Bt hq.ne).2 h
theorem SInv.small {a0 a:Fp p} {n:Nat} {k:Int} {out:k9 p} (h:SInv a0 k a out) (_hn:n≤12) (hk:p^n≤k):Ad n a:=by
 intro q hq hd;have h1:=h.ge _ hq.mon (ry hq.ne) (Uw hq hd);have h2:=zf (mon q);rw [xz hq.ne] at h2;apply cm;intro hx;have:=gr (p:=p) (by have:=IsP.pos (p:=p); omega) (show q.len≤n by omega)
 omega
theorem SInv.step {a0 a:Fp p} {n:Nat} {k:Int} {out:k9 p} (h:SInv a0 k a out) (hn1:1≤n) (hn:n≤12) (hk:p^n≤k) (hk2:k<2*p^n) {j:Nat} {r:Fp p} (h1:a=r*pw (f7 p k) j) (h2:¬ Dv (f7 p k) r) :
 SInv a0 (k+1) r (if j=0 then out else out++[(f7 p k,j)]):=by
 obtain ⟨m1,m2⟩:=uz hn hk hk2;have hb:=md (p:=p) hn;have hpos:=je (p:=p) n;have hnum:fh (f7 p k)=k:=sf ⟨by omega,by omega⟩
 have hr0:r≠0:=fun h0=>h.ne (by rw [h1,h0,Gq.zero_mul])
 have ge':∀q,Irr q→Monic q→Dv q r→k+1≤fh q:=by
  intro q hq hm hd;have g1:=h.ge q hq hm (by rw [h1]; exact hd.mul_right _)
  have g2:fh q≠k:=fun e=>by
   have:q=f7 p k:=Lq (by rw [e,hnum])
   exact h2 (this▸hd)
  omega
 by_cases hj:j=0
 ·subst hj
  rw [if_pos rfl];rw [pw,Gq.mul_one] at h1;subst h1;exact ⟨h.ne,h.eq,h.ok,h.so,fun x hx=>by have:=h.lt x hx; omega,ge',h.ln⟩
 ·rw [if_neg hj]
  have hda:Dv (f7 p k) a:=by
   obtain ⟨i,rfl⟩:∃i,j=i+1:=⟨j-1,by omega⟩
   rw [h1,pw];exact ((Dv.refl _).mul_left _).mul_left _
  have hi:Irr (f7 p k):=by
   refine Irr.of_dv (by omega) fun u hu=>?_
   have hul:=hu.len m1.2
   have hu0:u≠0:=fun h0=>by
    obtain ⟨c,hc⟩:=hu;exact m1.2 (by rw [hc,h0,Gq.zero_mul])
   have hup:=Pol.len_pos hu0
   by_cases hu1:u.len=1
   ·exact .inl hu1
   ·right
    obtain ⟨q,q1,q2,q3⟩:=Bw u.len u (bj _) (by omega)
    have g1:=h.ge q q1 q2 ((q3.trans hu).trans hda);have g2:=q3.len hu0;apply cm;intro hx;have g3:=ua (a:=q) (b:=f7 p k) (by omega)
    omega
  have hlt:r.len<a.len:=by
   obtain ⟨i,rfl⟩:∃i,j=i+1:=⟨j-1,by omega⟩
   have hi0:=J3 hi.ne i;have l1:=Pol.len_mul hi0 hi.ne;have l2:=Pol.len_mul hr0 (Pol.mul_ne hi0 hi.ne);have l3:=Pol.len_pos hi0;rw [h1,pw]; omega
  refine ⟨hr0,?_,h.ok.snoc hi m1 (by omega) fun x hx e=>?_,?_,?_,ge',?_⟩
  ·rw [h.eq,xy]
   conv=>lhs; rw [h1]
   exact bq [r,pw (f7 p k) j,ki out] rfl
  ·have:=h.lt x hx
   rw [e,hnum] at this; omega
  ·rw [fe]
   refine ⟨h.so,fj _ _,fun x hx y hy=>?_⟩
   simp at hy; subst hy;have:=h.lt x hx;rw [hnum]; exact this
  ·intro x hx
   rcases bi.1 hx with hx | hx
   ·have:=h.lt x hx; omega
   ·simp at hx; subst hx; rw [hnum]; omega
  ·have:=h.ln
   simp; omega
theorem SInv.next {a0 a:Fp p} {n:Nat} {out:k9 p} (h:SInv a0 (2*p^n) a out) (hn:n≤11):SInv a0 (p^(n+1)) a out:=by
 refine ⟨h.ne,h.eq,h.ok,h.so,fun x hx=>?_,fun q hq hm hd=>?_,h.ln⟩
 ·have:=h.lt x hx
  have:=Ar (p:=p) n;omega
 ·have h1:=h.ge q hq hm hd
  have hq0:=Pol.len_pos hm.2;rcases dt (n+1) q.len with h2 | h2
  ·obtain ⟨d,hd'⟩:∃d,q.len=d+1:=⟨q.len-1,by omega⟩
   have hl:=hd.len h.ne;have hln:=h.ln;have h3:=om (n:=d) (by omega) hm hd'
   have:=gr (p:=p) (by have:=IsP.pos (p:=p); omega) (show n+1≤d by omega)
   omega
  ·exfalso
   obtain ⟨d,hd'⟩:∃d,q.len=d+1:=⟨q.len-1,by omega⟩
   have h3:=om (n:=d) (by omega) hm hd'
   have:=gr (p:=p) (by have:=IsP.pos (p:=p); omega) (show d≤n by omega)
   omega
theorem SInv.init {a:Fp p} (ha:a≠0) (hl:a.len≤13):SInv a (p^1) a []:=
 ⟨ha,(Gq.mul_one a).symm,⟨by simp,.nil⟩,.nil,by simp,fun q hq hm _=>by
  have h1:=hq.len;obtain ⟨d,hd'⟩:∃d,q.len=d+1:=⟨q.len-1,by omega⟩
  by_cases hd12:d≤12
  ·have h3:=om (n:=d) hd12 hm hd'
   have:=gr (p:=p) (by have:=IsP.pos (p:=p); omega) (show 1≤d by omega)
   omega
  ·have h4:=ua (a:=f7 p (p^1)) (b:=q) (by
    have:=(uz (p:=p) (n:=1) (by omega) (tc _) (by have:=je (p:=p) 1; omega)).2
    omega)
   have h5:fh (f7 p (p^1))=p^1:=sf ⟨Int.le_of_lt (je 1),by have:=md (p:=p) (n:=1) (by omega); omega⟩
   omega,by simpa using hl⟩
theorem SEnd.fac {a0 a:Fp p} {out:k9 p} (h:SEnd a0 a out) (h0:a0≠0):Pe.fac a0=if 2≤a.len then out++[(mon a,1)] else out:=by
 apply a56 h0;have hP:=vd h.ok;have hld:a0.ld=a.ld:=by rw [h.eq,Pol.ld_mul h.ne hP.2,hP.1,Gq.mul_one]
 split
 ·rename_i hl
  obtain ⟨hi,hx⟩:=h.irr hl;refine ⟨h.ok.snoc hi.mon (ry h.ne) (bj 1) fun x hx' e=>?_,?_,?_⟩
  ·have:=hx x hx'
   rw [e] at this; omega
  ·rw [fe]
   refine ⟨h.so,fj _ _,fun x hx' y hy=>?_⟩
   simp at hy; subst hy; exact hx x hx'
  ·rw [xy,hld]
   show a0=Pol.C a.ld*(ki out*pw (mon a) 1);rw [rc,h.eq]
   conv=>lhs; rw [a34 h.ne]
   exact bq [Pol.C a.ld,mon a,ki out] rfl
 ·rename_i hl
  have hp:=Pol.len_pos h.ne;obtain ⟨c,hc,rfl⟩:=ox (show a.len=1 by omega)
  refine ⟨h.ok,h.so,?_⟩;rw [hld,Pol.ld_C hc]; exact h.eq
end
section
variable {p:Int} [IsP p]
end
section
variable {p:Int} [IsP p]
end
section
variable {p:Int} [IsP p]
end
theorem R7 {p:Int} [IsP p]:∀(n:Nat) (out:Int),0<out→(va p 343 n out≤343↔out*p^n≤343)
 | 0,out,h0=>by rw [eo,lc]; exact qe
 | n+1,out,h0=>by
  have hp:=IsP.pos (p:=p);have e:out*p^(n+1)=out*p*p^n:=by rw [dq,jl,i8 p]
  unfold va
  split
  ·rename_i h
   have h1:1≤p^(n+1):=je (n+1);have h2:out*1≤out*p^(n+1):=c7 h1 (by omega)
   omega
  ·rw [e]
   exact R7 n (out*p) (vk h0 hp)
end Pe
namespace Pe
open Go Gq
variable {T:Nat→Option Fn} {A:ap}
open Classical in
def H5 (O:ap):Prop:=∀(p:Int) [IsP p] (a:Fp p),a.len≤13→ask O F19 [(D.int .i64 p),(D.sl .leaf (ah .i64 (row a)))]=some (D.bool (decide (Monic a∧Irr a)))
open Classical in
theorem a75 (hT:T F19=some Z19) (hld:my (den T A)) (hdg:me (den T A)) (hf:Lz (den T A)):H5 (den T A):=by
 intro p i a hal;have e1:=hld (row a) (by rw [bf]; omega)
 rw [vw] at e1;have e2:=hdg (row a) (by rw [bf]; omega)
 rw [bf] at e2;refine cd hT rfl ?_
 by_cases h1:a.ld=1
 ·have h1':=(t6 a.ld).2 h1
  have hM:=(Ba a).2 h1;rw [h1'] at e1
  by_cases h2:2≤a.len
  ·obtain ⟨f1,f2,e3⟩:=hf p a hM.2 hal
   have hiff:=a67 hM f1;have hlt:¬ ((a.len:Int)-1<1):=by omega
   have hlt2:¬ ((a.len:Int)<2):=by omega
   have hlt3:(2:Int)≤a.len:=by omega
   have key:(∃q,fac a=[(q,1)])↔(Monic a∧Irr a):=⟨fun h=>⟨hM,hiff.1 h⟩,fun h=>hiff.2 h.2⟩
   generalize fac a=L at *;cases L with
   | nil=>
    rw [decide_eq_false (fun h0=>by obtain ⟨q,h⟩:=key.2 h0; cases h)]
    simp -implicitDefEqProofs [Z19,Z19_B,az,e1,e2,e3,hlt]
   | cons x L=>
    cases L with
    | nil=>
     obtain ⟨q,k⟩:=x
     by_cases hk:k=1
     ·subst hk
      rw [decide_eq_true (key.1 ⟨q,rfl⟩)];simp -implicitDefEqProofs [Z19,Z19_B,az,e1,e2,e3,hlt,mf]
     ·rw [decide_eq_false (fun h0=>by obtain ⟨q',h⟩:=key.2 h0; simp at h; exact hk h.2)]
      have hk':¬ ((k:Int)=1):=by omega
      simp -implicitDefEqProofs [Z19,Z19_B,az,e1,e2,e3,hlt,mf,hk']
    | cons y L=>
     rw [decide_eq_false (fun h0=>by obtain ⟨q',h⟩:=key.2 h0; simp at h)]
     have hk':¬ (((L.length:Int)+1+1)=1):=by omega
     simp -implicitDefEqProofs [Z19,Z19_B,az,e1,e2,e3,hlt,hk']
  ·have hlt:((a.len:Int)-1<1):=by omega
   have hlt2:((a.len:Int)<2):=by omega
   rw [decide_eq_false (fun h=>h2 h.2.len)]
   simp -implicitDefEqProofs [Z19,Z19_B,az,e1,e2,hlt]
 ·have h1':=mt (t6 a.ld).1 h1
  rw [decide_eq_false (fun h=>h1 h.1.1)]
  simp -implicitDefEqProofs [Z19,Z19_B,az,e1,h1']
structure Fld {p:Int} [IsP p] (m:Fp p):Prop where
 mon:Monic m
 two:2≤m.len
 five:m.len≤5
 irr:Irr m
end Pe
namespace Pe
open Go Gq
variable {T:Nat→Option Fn} {A:ap}
section
variable {p:Int} [IsP p]
noncomputable def ow (m:Fp p):Nat→Fp p→Fp p
 | 0,a=>a
 | k+1,a=>ow m k (pw a p.toNat%m)
theorem wk {m:Fp p} (hm:m≠0):∀(k:Nat) (a:Fp p),a.len<m.len→(ow m k a).len<m.len
 | 0,_,h=>h
 | k+1,_a,_=>wk hm k _ (Pol.len_mod _ hm)
theorem Nh {m:Fp p}:∀(k:Nat) (a:Fp p),Quo.mk m (ow m k a)=pw (Quo.mk m a) (p.toNat^k)
 | 0,a=>by rw [mh,rc]; rfl
 | k+1,a=>by
  show Quo.mk m (ow m k (pw a p.toNat%m))=_;rw [Nh k,Pol.mk_mod,Quo.mk_pow,qw,fo,fm]
theorem Cs {m:Fp p} (hm:Fld m) (k:Nat) {a:Fp p} (ha:a.len<m.len):ow m (k%(m.len-1)) a=ow m k a:=by
 have h2:=hm.two;have h5:=hm.five
 have small:p^(m.len-1)<1000000000000:=by
  have h1:=gr (p:=p) (by have:=IsP.pos (p:=p); omega) (show m.len-1≤12 by omega)
  have h7:=md (p:=p) (n:=12) (by omega)
  omega
 have hd:∀x:Quo m,pw x (p.toNat^(m.len-1))=x:=xg hm.irr (by omega) small
 have hq:∀(q:Nat) (x:Quo m),pw x (p.toNat^((m.len-1)*q))=x:=by
  intro q
  induction q with
  | zero=>intro x; rw [rp,mh,rc]
  | succ q ih=>intro x; rw [Nat.mul_succ,Nat.pow_add,←qw,ih,hd]
 have h0:m≠0:=hm.mon.2
 have e:Quo.mk m (ow m (k%(m.len-1)) a)=Quo.mk m (ow m k a):=by
  rw [Nh,Nh];have hk:k=(m.len-1)*(k/(m.len-1))+k%(m.len-1):=(Nat.div_add_mod k (m.len-1)).symm;have:p.toNat^k=p.toNat^((m.len-1)*(k/(m.len-1)))*p.toNat^(k%(m.len-1)):=by rw [←Nat.pow_add,←hk]
  rw [this,←qw,hq]
 have e2:=(Pol.mod_eq_iff h0).2 e
 rwa [Pol.mod_small (wk h0 _ _ ha),Pol.mod_small (wk h0 _ _ ha)] at e2
noncomputable def zc (m a:Fp p):Fp p:=(Pol.bezout a m).2.1%m
theorem Na {m a:Fp p} (hm:Fld m) (ha:a≠0) (hal:a.len<m.len):Quo.mk m (zc m a)*Quo.mk m a=1:=by
 have h0:m≠0:=hm.mon.2;have e:=Pol.bezout_eq (a:=a) (b:=m) (.inl ha)
 have hg:Pol.gcd a m=1:=by
  have h1:=Pol.gcd_monic (a:=a) (b:=m) (.inl ha);have h2:=Pol.gcd_dv_left (a:=a) (b:=m) (.inl ha);have h3:=Pol.gcd_dv_right (a:=a) (b:=m) (.inl ha);refine h1.eq_one ?_;rcases hm.irr.dv h3 with h | h
  ·exact h
  ·have:=h2.len ha
   omega
 rw [hg] at e;unfold zc;rw [Pol.mk_mod];have:Quo.mk m ((Pol.bezout a m).2.1*a+(Pol.bezout a m).2.2*m)=Quo.mk m 1:=by rw [e]
 rw [Quo.mk_add,Quo.mk_mul,Quo.mk_mul] at this;have hm0:Quo.mk m m=0:=gh.1 (Dv.refl m);rw [hm0,Gq.mul_zero,Gq.add_zero] at this;exact this
end
section
variable {p:Int} [IsP p]
theorem Tc {m:Fp p} (h2:2≤m.len):(1:Quo m)≠0:=fun h=>by
 have:Dv m 1:=gh.2 h;have:=this.len Pol.one_ne;rw [Pol.len_one] at this;omega
theorem aab {m c:Fp p} (hm:Fld m) (hc:c≠0) (hcl:c.len<m.len) (k:Nat):pw c k%m≠0∧(pw c k%m).len<m.len:=by
 have h0:m≠0:=hm.mon.2;refine ⟨fun h=>?_,Pol.len_mod _ h0⟩
 have h1:Quo.mk m (pw c k)=0:=by rw [←Pol.mk_mod,h]; rfl
 rw [Quo.mk_pow] at h1;have h2:=Na hm hc hcl;have h3:pw (Quo.mk m (zc m c)*Quo.mk m c) k=0:=by rw [sb,h1,Gq.mul_zero]
 rw [h2,xq] at h3;exact Tc hm.two h3
end
section
variable {p:Int} [IsP p]
noncomputable def svI (m x:Fp p):Nat→List (Fp p)→Fp p→Fp p
 | _,[],out=>out
 | i,c::cs,out=>svI m x (i+1) cs (out+c*ow m (i%(m.len-1)) x%m)
theorem X6 {m x:Fp p} (hm:m≠0):∀(i:Nat) (a:List (Fp p)) (out:Fp p),out.len<m.len→(svI m x i a out).len<m.len
 | _,[],_,h=>h
 | i,c::cs,out,h=>X6 hm (i+1) cs _ (by
  have h1:=Pol.len_mod (c*ow m (i%(m.len-1)) x) hm;have:=Pol.len_add_le (a:=out) (b:=c*ow m (i%(m.len-1)) x%m) (n:=m.len-1) (by omega) (by omega)
  omega)
end
section
variable {p:Int}
end
section
variable {p:Int}
open Classical in
noncomputable def stl (S:List (Fp p)):Nat→Nat
 | 0=>0
 | n+1=>if S[n]? = some 0 then stl S n else n+1
noncomputable def rf (S:List (Fp p)):List (Fp p):=S.take (stl S S.length)
theorem U2 (S:List (Fp p)):∀n,stl S n≤n
 | 0=>bj 0
 | n+1=>by
  unfold stl
  split
  ·have:=U2 S n; omega
  ·omega
theorem Iy (S:List (Fp p)):∀n j,stl S n≤j→j<n→S[j]? = some 0
 | 0,j,_,h=>by omega
 | n+1,j,h1,h2=>by
  unfold stl at h1
  split at h1
  ·rename_i h0
   by_cases hj:j=n
   ·rw [hj]; exact h0
   ·exact Iy S n j h1 (by omega)
  ·omega
end
section
variable {p:Int} [IsP p]
theorem Mm {m x:Fp p} (hm:m≠0):∀(i:Nat) (S:List (Fp p)) (out:Fp p),(∀a∈S,a=0)→svI m x i S out=out
 | _,[],_,_=>rfl
 | i,c::cs,out,h=>by
  have hc:=h c (by simp)
  subst hc;show svI m x (i+1) cs (out+0*ow m (i%(m.len-1)) x%m)=out;rw [Gq.zero_mul,Pol.zero_mod hm,Gq.add_zero];exact Mm hm (i+1) cs out fun a ha=>h a (by simp [ha])
theorem Hn {m x:Fp p}:∀(i:Nat) (S R:List (Fp p)) (out:Fp p),svI m x i (S++R) out=svI m x (i+S.length) R (svI m x i S out)
 | _,[],_,_=>rfl
 | i,c::cs,R,out=>by
  show svI m x (i+1) (cs++R) _=svI m x (i+(cs.length+1)) R (svI m x (i+1) cs _);rw [Hn (i+1) cs R,show i+(cs.length+1)=i+1+cs.length by omega]
theorem a2z {m x:Fp p} (hm:m≠0) (S:List (Fp p)):svI m x 0 (rf S) 0=svI m x 0 S 0:=by
 have e:=Hn (m:=m) (x:=x) 0 (S.take (stl S S.length)) (S.drop (stl S S.length)) 0;rw [g9] at e
 have hz:∀a∈S.drop (stl S S.length),a=0:=by
  intro a ha;obtain ⟨j,hj,rfl⟩:=km ha;rw [dp] at hj;have:=Iy S S.length (stl S S.length+j) (by omega) (by omega)
  rw [List.getElem_drop];rw [b7 (by omega)] at this
  exact aw this
 rw [e,Mm hm _ _ _ hz];rfl
end
section
variable {p:Int}
noncomputable def qt (Q:List (Fp p)) (n:Nat) (v:Fp p):List (Fp p):=Q.set n ((Q[n]?).getD 0+v)
theorem Cu (Q:List (Fp p)) (n:Nat) (v:Fp p):(qt Q n v).length=Q.length:=by unfold qt; rw [cx]
end
section
variable {p:Int} [IsP p]
noncomputable def vu (m x:Fp p) (i:Nat):Nat→List (Fp p)→List (Fp p)→List (Fp p)
 | _,[],Q=>Q
 | k,y::ys,Q=>vu m x i (k+1) ys (qt Q (i+k) (x*ow m (i%(m.len-1)) y%m))
noncomputable def A0 (m:Fp p) (b:List (Fp p)):Nat→List (Fp p)→List (Fp p)→List (Fp p)
 | _,[],Q=>Q
 | i,x::xs,Q=>A0 m b (i+1) xs (vu m x i 0 b Q)
theorem sy (m x:Fp p) (i:Nat):∀(k:Nat) (b Q:List (Fp p)),(vu m x i k b Q).length=Q.length
 | _,[],_=>rfl
 | k,y::ys,Q=>by
  show (vu m x i (k+1) ys (qt Q (i+k) _)).length=_;rw [sy,Cu]
theorem pb (m:Fp p) (b:List (Fp p)):∀(i:Nat) (a Q:List (Fp p)),(A0 m b i a Q).length=Q.length
 | _,[],_=>rfl
 | i,x::xs,Q=>by
  show (A0 m b (i+1) xs (vu m x i 0 b Q)).length=_;rw [pb,sy]
end
noncomputable def Cw {p:Int} [IsP p] (m:Fp p) (a b:List (Fp p)):List (Fp p):=A0 m b 0 a (List.replicate (a.length+b.length-1) 0)
section
variable {p:Int}
theorem Mt {Q:List (Fp p)} {n j:Nat} {v:Fp p} (h:n≠j):(qt Q n v)[j]? = Q[j]?:=by
 unfold qt; rw [bh h]
end
section
variable {p:Int} [IsP p]
theorem vi {m x:Fp p} {i n:Nat}:∀(k:Nat) (b Q:List (Fp p)),i+k+b.length≤n→(vu m x i k b Q)[n]? = Q[n]?
 | _,[],_,_=>rfl
 | k,y::ys,Q,h=>by
  rw [bu] at h;show (vu m x i (k+1) ys (qt Q (i+k) _))[n]? = _;rw [vi (k+1) ys _ (by omega),Mt (by omega)]
theorem xk {m:Fp p} {b:List (Fp p)} {n:Nat}:∀(i:Nat) (a Q:List (Fp p)),i+a.length+b.length≤n+1→(A0 m b i a Q)[n]? = Q[n]?
 | _,[],_,_=>rfl
 | i,x::xs,Q,h=>by
  rw [bu] at h;show (A0 m b (i+1) xs (vu m x i 0 b Q))[n]? = _;rw [xk (i+1) xs _ (by omega),vi 0 b Q (by omega)]
theorem Ec {m x y:Fp p} {i:Nat}:∀(k:Nat) (b Q:List (Fp p)),vu m x i k (b++[y]) Q=qt (vu m x i k b Q) (i+(k+b.length)) (x*ow m (i%(m.len-1)) y%m)
 | _,[],_=>rfl
 | k,z::zs,Q=>by
  show vu m x i (k+1) (zs++[y]) (qt Q (i+k) _)=qt (vu m x i (k+1) zs (qt Q (i+k) _)) _ _;rw [Ec (k+1) zs,bu,show i+(k+1+zs.length)=i+(k+(zs.length+1)) by omega]
theorem Cb {m x:Fp p} {b:List (Fp p)}:∀(i:Nat) (a Q:List (Fp p)),A0 m b i (a++[x]) Q=vu m x (i+a.length) 0 b (A0 m b i a Q)
 | _,[],_=>rfl
 | i,z::zs,Q=>by
  show A0 m b (i+1) (zs++[x]) (vu m z i 0 b Q)=vu m x _ 0 b (A0 m b (i+1) zs (vu m z i 0 b Q));rw [Cb (i+1) zs,bu,show i+1+zs.length=i+(zs.length+1) by omega]
theorem V6 {m x y:Fp p} (hi:Irr m) (hx:x≠0) (hxl:x.len<m.len) (hy:y≠0) (hyl:y.len<m.len):x*y%m≠0:=fun h=>by
 rcases hi.prime ((uj hi.ne).2 h) with h | h
 ·have:=Dv.len h hx; omega
 ·have:=Dv.len h hy; omega
theorem Hi {m:Fp p} (hm:Fld m):∀(k:Nat) (y:Fp p),y≠0→y.len<m.len→ow m k y≠0
 | 0,_,h,_=>h
 | k+1,y,h,hl=>by
  obtain ⟨h1,h2⟩:=aab hm h hl p.toNat;exact Hi hm k _ h1 h2
end
section
variable {p:Int}
theorem Q1 {S:List (Fp p)}:∀(n k:Nat),stl S n=k+1→S[k]? ≠ some 0
 | 0,k,h=>by cases h
 | n+1,k,h=>by
  unfold stl at h
  split at h
  ·exact Q1 n k h
  ·rename_i h0
   obtain rfl:n=k:=by omega
   exact h0
theorem a7v {S:List (Fp p)} {n:Nat} (h:S[n]? ≠ some 0):stl S (n+1)=n+1:=by
 unfold stl; rw [if_neg h]
theorem To {S:List (Fp p)} (h:(rf S).length≠0):∃a x,rf S=a++[x]∧x≠0:=by
 have hle:=U2 S S.length;have hl:(rf S).length=stl S S.length:=by unfold rf; rw [bm]; omega
 obtain ⟨k,hk⟩:∃k,stl S S.length=k+1:=⟨stl S S.length-1,by omega⟩
 have h1:=Q1 _ _ hk;have hlt:k<S.length:=by omega
 rw [b7 hlt] at h1;refine ⟨S.take k,S[k],?_,fun h=>h1 (by rw [h])⟩
 unfold rf;rw [hk,ja hlt]
theorem a0k {S:List (Fp p)} {n:Nat} (hl:S.length=n+1) (h:S[n]? ≠ some 0):rf S=S:=by
 unfold rf;rw [hl,a7v h,←hl,ph]
end
section
variable {p:Int} [IsP p]
theorem a2h {m x y:Fp p} (hm:Fld m) {a b:List (Fp p)} (hx:x≠0) (hxl:x.len<m.len) (hy:y≠0) (hyl:y.len<m.len):rf (Cw m (a++[x]) (b++[y]))=Cw m (a++[x]) (b++[y]):=by
 have hl:(Cw m (a++[x]) (b++[y])).length=a.length+b.length+1:=by
  unfold Cw;rw [pb,cu,bo,bo];simp only [bu,dl]; omega
 refine a0k hl ?_;have hfy:ow m (a.length%(m.len-1)) y≠0:=Hi hm _ y hy hyl;have hfl:=wk hm.mon.2 (a.length%(m.len-1)) y hyl;have hne:=V6 hm.irr hx hxl hfy hfl;unfold Cw;rw [Cb,Ec];unfold qt;rw [vi _ _ _ (by omega),xk _ _ _ (by rw [bo,bu,dl]; omega)]
 have hN:0+a.length+(0+b.length)=a.length+b.length:=by omega
 rw [hN,bc (by rw [sy,pb,cu,bo,bo]; simp only [bu,dl]; omega)]
 rw [ju,if_pos (by rw [bo,bo]; simp only [bu,dl]; omega)]
 show some ((0:Fp p)+_)≠some 0;rw [Gq.zero_add,show 0+a.length=a.length by omega]
 exact fun h=>hne (aw h)
noncomputable def pz (m:Fp p) (a b:List (Fp p)):List (Fp p):=if a.length=0∨b.length=0 then [] else rf (Cw m a b)
end
section
variable {p:Int} [IsP p]
theorem T9 {N n:Nat} {Q:List (Fp p)} {v:Fp p} (hQ:∀c∈Q,c.len≤N) (hv:v.len≤N):∀c∈qt Q n v,c.len≤N:=fun c hc=>by
 unfold qt at hc;rcases fl hc with h | rfl
 ·exact hQ c h
 ·refine Pol.len_add_le ?_ hv
  cases he:Q[n]? with
  | none=>show (0:Fp p).len≤N; rw [Pol.len_zero]; omega
  | some w=>exact hQ w (jo he)
end
abbrev z6:List Int:=List.replicate 6 0
section
variable {p:Int} [IsP p]
noncomputable def mono (p:Int) (i:Nat):Fp p:=f7 p (p^i)
end
section
variable {O:ap} {g:Nat} {first caps:List D}
structure CmpRow (O:ap) (g:Nat) (first caps:List D) (f:D→Int) (s:Sh) (cs:List D):Prop where
 nf:yn first
 nc:yn caps
 nx:yn cs
 sh:A7 s cs
 ask:∀x∈cs,∀y∈cs,∃v:Int,ask O g (first++[x,y]++caps)=some (D.int .i64 v)∧(v<0↔f x<f y)
theorem CmpRow.perm {f:D→Int} {s:Sh} {cs ds:List D} (h:CmpRow O g first caps f s cs) (p:ds.Perm cs):CmpRow O g first caps f s ds:=
 ⟨h.nf,h.nc,fun x hx=>h.nx x (p.subset hx),fun x hx=>h.sh x (p.subset hx),fun x hx y hy=>h.ask x (p.subset hx) y (p.subset hy)⟩
theorem CmpRow.call {f:D→Int} {s:Sh} {cs:List D} (h:CmpRow O g first caps f s cs) {hp:Heap} {np:Nat} {news:List Nat} {x y:D} (hx:x∈cs) (hy:y∈cs) :
 ∃v:Int,Da O np hp .flat news (g,first.map .d,caps.map .d) [.d x,.d y]=some (.d (D.int .i64 v),hp)∧(v<0↔f x<f y):=by
 have e:p9 hp (first.map .d++[.d x,.d y]++caps.map .d)=some (first++[x,y]++caps):=
  v6 hp (v6 hp (o8 hp h.nf) (o8 hp (ds:=[x,y]) (by intro z hz; simp at hz; rcases hz with rfl | rfl; exact h.nx _ hx; exact h.nx _ hy))) (o8 hp h.nc)
 obtain ⟨v,e1,e2⟩:=h.ask x hx y hy;refine ⟨v,?_,e2⟩;rw [Cj,e,ae,Hw,e1,ae,E3,show (D.int IntKind.i64 v).flat=true from rfl,if_pos rfl]
end
section
variable {p:Int}
noncomputable def elim (a b:Fp p):Fp p:=b+Pol.C (-(b.c (a.len-1)))*a
noncomputable def xf:List (Fp p)→Fp p→Fp p
 | [],a=>a
 | b::bs,a=>xf bs (elim b a)
noncomputable def Jk (a:Fp p):List (Fp p)→List (Fp p)
 | []=>[a]
 | b::bs=>if b.len<a.len then a::(b::bs).map (elim a) else elim a b::Jk a bs
theorem Eb (a:Fp p):∀L:List (Fp p),(Jk a L).Perm (L.map (elim a)++[a])
 | []=>.refl _
 | b::bs=>by
  unfold Jk
  split
  ·exact (List.perm_append_singleton a ((b::bs).map (elim a))).symm
  ·exact (Eb a bs).cons _
theorem a7x {a:Fp p} {n:Nat} (h:a.len≤n):a.c n=0:=a.lt_len n h
theorem Vz (a b:Fp p) (n:Nat):(elim a b).c n=b.c n + -(b.c (a.len-1))*a.c n:=by
 unfold elim; rw [Pol.c_add,Pol.c_Cmul]
theorem Ds {a c:Fp p}:∀{L:List (Fp p)},c∈Jk a L→c=a∨∃b∈L,c=elim a b:=fun {L} h=>by
 have:=(Eb a L).subset h;rcases bi.1 this with h | h
 ·obtain ⟨b,hb,rfl⟩:=ch.1 h; exact .inr ⟨b,hb,rfl⟩
 ·exact .inl (by simpa using h)
noncomputable abbrev cl (a:Fp p):D:=(D.sl .leaf (ah .i64 (row a)))
theorem L2 {n:Nat}:∀{L:List (Fp p)} {a:Fp p},(∀b∈L,b.len≤n)→(xf L a).c n=a.c n
 | [],_,_=>rfl
 | b::L,a,h=>by
  show (xf L (elim b a)).c n=_;rw [L2 (L:=L) (fun c hc=>h c (by simp [hc])),Vz,a7x (a:=b) (h b (by simp)),Gq.mul_zero,Gq.add_zero]
end
section
variable {p:Int} [IsP p]
structure Desc (N:Nat) (L:List (Fp p)):Prop where
 pw:L.Pairwise fun x y=>y.len<x.len
 mon:∀b∈L,Monic b
 le:∀b∈L,b.len≤N
theorem Desc.nil (N:Nat):Desc N ([]:List (Fp p)):=⟨List.Pairwise.nil,(fun _ h=>by cases h),(fun _ h=>by cases h)⟩
theorem Desc.tail {N:Nat} {b:Fp p} {L:List (Fp p)} (h:Desc N (b::L)):Desc N L∧∀c∈L,c.len<b.len:=
 ⟨⟨h.pw.tail,fun c hc=>h.mon c (by simp [hc]),fun c hc=>h.le c (by simp [hc])⟩,(d5.1 h.pw).1⟩
theorem Desc.length:∀{N:Nat} {L:List (Fp p)},Desc N L→L.length≤N
 | N,[],_=>jc _
 | N,b::L,h=>by
  obtain ⟨h1,h2⟩:=h.tail;have hb:=Pol.len_pos (h.mon b (by simp)).2
  have hle:=h.le b (by simp)
  have:=Desc.length (N:=b.len-1) ⟨h1.pw,h1.mon,fun c hc=>by have:=h2 c hc; omega⟩
  rw [bu]; omega
theorem Hc {N:Nat} {a b:Fp p} (ha:a.len≤N) (hb:b.len≤N):(elim a b).len≤N:=by
 unfold elim;refine Pol.len_add_le hb (Pol.len_le fun i hi=>?_)
 rw [Pol.c_Cmul,a7x (a:=a) (by omega),Gq.mul_zero]
theorem a7m {a:Fp p} (ha:Monic a) (b:Fp p):(elim a b).c (a.len-1)=0:=by
 rw [Vz,show a.c (a.len-1)=1 from ha.1,Gq.mul_one];exact Gq.add_neg _
theorem My {N:Nat}:∀{L:List (Fp p)} {a:Fp p},(∀b∈L,b.len≤N)→a.len≤N→(xf L a).len≤N
 | [],_,_,ha=>ha
 | b::L,a,h,ha=>My (L:=L) (fun c hc=>h c (by simp [hc])) (Hc (h b (by simp)) ha)
theorem M7 {N:Nat}:∀{L:List (Fp p)} {a:Fp p},Desc N L→∀b∈L,(xf L a).c (b.len-1)=0
 | b::L,a,h,c,hc=>by
  obtain ⟨h1,h2⟩:=h.tail;show (xf L (elim b a)).c _=0;rcases d8.1 hc with rfl | hc
  ·rw [L2 (L:=L) (fun d hd=>by have:=h2 d hd; omega),a7m (h.mon c (by simp))]
  ·exact M7 h1 c hc
theorem a6l {N:Nat} {L:List (Fp p)} {a:Fp p} (h:Desc N L) (h0:xf L a≠0):∀b∈L,b.len≠(xf L a).len:=fun b hb e=>by
 have h1:=M7 (a:=a) h b hb;rw [e] at h1;exact Pol.ld_ne h0 h1
theorem a57 {a b:Fp p} (hb:Monic b) (hne:b.len≠a.len):Monic (elim a b)∧(elim a b).len=b.len:=by
 have hbp:=Pol.len_pos hb.2;rcases dt b.len a.len with h | h
 ·have:elim a b=b:=by
   unfold elim;rw [a7x (by omega),py,Pol.C_zero,Gq.zero_mul,Gq.add_zero]
  rw [this]; exact ⟨hb,rfl⟩
 ·have hc:(elim a b).c (b.len-1)=1:=by
   rw [Vz,a7x (a:=a) (by omega),Gq.mul_zero,Gq.add_zero]; exact hb.1
  have hl:(elim a b).len=b.len:=by
   have h1:(elim a b).len=(b.len-1)+1:=Pol.len_eq (Pol.lt_iff.2 (by
    rw [Nat.sub_add_cancel hbp]; exact Hc h (bj _))) (by rw [hc]; exact Fd.one_ne)
   omega
  refine ⟨⟨by unfold Pol.ld; rw [hl]; exact hc,fun h0=>?_⟩,hl⟩
  rw [h0,Pol.len_zero] at hl;omega
theorem M3 {N:Nat} {a:Fp p} (ha:Monic a) (hal:a.len≤N):∀{L:List (Fp p)},Desc N L→(∀b∈L,b.len≠a.len)→Desc N (Jk a L)
 | [],_,_=>⟨fj _ _,fun b hb=>by simp [Jk] at hb; rw [hb]; exact ha,fun b hb=>by simp [Jk] at hb; rw [hb]; exact hal⟩
 | b::L,h,hne=>by
  obtain ⟨h1,h2⟩:=h.tail;have hall:∀c∈b::L,Monic (elim a c)∧(elim a c).len=c.len:=fun c hc=>a57 (h.mon c hc) (hne c hc)
  refine ⟨?_,fun c hc=>?_,fun c hc=>?_⟩
  ·unfold Jk
   split
   ·rename_i hlt
    refine d5.2 ⟨fun c hc=>?_,?_⟩
    ·obtain ⟨d,hd,rfl⟩:=ch.1 hc
     rw [(hall d hd).2];rcases d8.1 hd with rfl | hd
     ·exact hlt
     ·have:=h2 d hd; omega
    ·rw [jy]
     refine h.pw.imp_of_mem fun {x y} hx hy hxy=>?_
     rw [(hall x hx).2,(hall y hy).2]; exact hxy
   ·rename_i hge
    refine d5.2 ⟨fun c hc=>?_,(M3 ha hal h1 fun c hc=>hne c (by simp [hc])).pw⟩
    rw [(hall b (by simp)).2]
    rcases Ds hc with rfl | ⟨d,hd,rfl⟩
    ·have:=hne b (by simp); omega
    ·rw [(hall d (by simp [hd])).2]; exact h2 d hd
  ·rcases Ds hc with rfl | ⟨d,hd,rfl⟩
   ·exact ha
   ·exact (hall d hd).1
  ·rcases Ds hc with rfl | ⟨d,hd,rfl⟩
   ·exact hal
   ·rw [(hall d hd).2]; exact h.le d hd
noncomputable def Yl (L:List (Fp p)) (x:Fp p):List (Fp p):=by
 classical exact if xf L x=0 then L else Jk (Gq.mon (xf L x)) L
theorem Ya {L:List (Fp p)} {x:Fp p} (h:xf L x=0):Yl L x=L:=by unfold Yl; rw [if_pos h]
theorem N3 {L:List (Fp p)} {x:Fp p} (h:xf L x≠0):Yl L x=Jk (Gq.mon (xf L x)) L:=by unfold Yl; rw [if_neg h]
theorem a0q {N:Nat} {L:List (Fp p)} {x:Fp p} (h:Desc N L) (hx:x.len≤N):Desc N (Yl L x):=by
 by_cases h0:xf L x=0
 ·rw [Ya h0]; exact h
 ·rw [N3 h0]
  exact M3 (ry h0) (by rw [xz h0]; exact My h.le hx) h fun b hb=>by rw [xz h0]; exact a6l h h0 b hb
end
section
variable {p:Int}
end
end Pe
namespace Pe
open Go Gq
section
variable {p:Int}
inductive Spn (L:List (Fp p)):Fp p→Prop
 | zero:Spn L 0
 | step {a b:Fp p} (k:Zp p) (ha:a∈L) (hb:Spn L b):Spn L (Pol.C k*a+b)
theorem Spn.mem {L:List (Fp p)} {a:Fp p} (h:a∈L):Spn L a:=by
 have:=Spn.step (1:Zp p) h .zero
 rwa [Pol.C_one,Gq.one_mul,Gq.add_zero] at this
theorem Spn.add {L:List (Fp p)} {a b:Fp p} (ha:Spn L a) (hb:Spn L b):Spn L (a+b):=by
 induction ha with
 | zero=>rw [Gq.zero_add]; exact hb
 | step k h1 h2 ih=>rw [Gq.add_assoc]; exact .step k h1 ih
theorem Spn.smul {L:List (Fp p)} {a:Fp p} (k:Zp p) (ha:Spn L a):Spn L (Pol.C k*a):=by
 induction ha with
 | zero=>rw [Gq.mul_zero]; exact .zero
 | step c h1 h2 ih=>rw [Gq.mul_add,←Gq.mul_assoc,←Pol.C_mul]; exact .step _ h1 ih
theorem Spn.neg [IsP p] {L:List (Fp p)} {a:Fp p} (ha:Spn L a):Spn L (-a):=by
 have:=ha.smul (-1)
 rwa [Pol.C_neg,Pol.C_one,Gq.neg_mul,Gq.one_mul] at this
theorem Spn.sub [IsP p] {L:List (Fp p)} {a b:Fp p} (ha:Spn L a) (hb:Spn L b):Spn L (a-b):=by rw [Gq.sub_eq]; exact ha.add hb.neg
theorem Spn.inside {L:List (Fp p)} {S:Fp p→Prop} (h0:S 0) (hs:∀(k:Zp p) a b,S a→S b→S (Pol.C k*a+b)) (h:∀a∈L,S a) {a:Fp p} (ha:Spn L a):S a:=by
 induction ha with
 | zero=>exact h0
 | step k h1 _ ih=>exact hs k _ _ (h _ h1) ih
theorem Spn.sup [IsP p] {L M:List (Fp p)} (h:∀a∈L,Spn M a) {a:Fp p} (ha:Spn L a):Spn M a:=
 ha.inside .zero (fun k _ _ h1 h2=>(h1.smul k).add h2) h
def Rdc (L:List (Fp p)):Prop:=∀b∈L,∀c∈L,b≠c→b.c (c.len-1)=0
theorem Rdc.nil:Rdc ([]:List (Fp p)):=fun _ h=>by cases h
end
section
variable {p:Int}
noncomputable def cS (A:List (Fp p)) (i:Nat):Fp p:=(A[i]?).getD 0
theorem S8 {A:List (Fp p)} {i:Nat} (h:A.length≤i):cS A i=0:=by unfold cS; rw [ce h]; rfl
theorem Pp {A:List (Fp p)} {i:Nat} (h:i<A.length):A[i]=cS A i:=by unfold cS; rw [b7 h]; rfl
def vm (A:List (Fp p)):Prop:=∀n,A.length=n+1→cS A n≠0
theorem N7 (S:List (Fp p)) (i:Nat):cS (rf S) i=cS S i:=by
 unfold cS rf;have hle:=U2 S S.length
 by_cases h:i<stl S S.length
 ·rw [dg,if_pos h]
 ·rw [dg,if_neg h]
  by_cases h2:i<S.length
  ·rw [Iy S S.length i (by omega) h2]; rfl
  ·rw [ce (by omega)]
theorem A9 (S:List (Fp p)):vm (rf S):=fun n hn=>by
 obtain ⟨a,x,e,hx⟩:=To (S:=S) (by omega)
 rw [e] at hn ⊢;rw [bo,jh] at hn;unfold cS;rw [bg (by omega),show n-a.length=0 by omega]
 exact hx
theorem G6 {X:List (Fp p)} {n:Nat} (h:∀i,n≤i→cS X i=0):(rf X).length≤n:=by
 rcases dt n (rf X).length with g | g
 ·have:=A9 X ((rf X).length-1) (by omega)
  rw [N7] at this;exact absurd (h _ (by omega)) this
 ·exact g
theorem J7:vm ([]:List (Fp p)):=fun n h=>by cases h
theorem aa8 {A:List (Fp p)} {N:Nat} (h:∀i,(cS A i).len≤N):∀c∈A,c.len≤N:=fun c hc=>by
 obtain ⟨i,hi,rfl⟩:=km hc;rw [Pp hi]; exact h i
theorem ab7 {A:List (Fp p)} {N:Nat} (h:∀c∈A,c.len≤N) (i:Nat):(cS A i).len≤N:=by
 by_cases hi:i<A.length
 ·rw [←Pp hi]; exact h _ (c6 hi)
 ·rw [S8 (by omega),Pol.len_zero]; omega
theorem Te {n:Nat} {f:Nat→Fp p} (i:Nat):cS ((List.range n).map f) i=if i<n then f i else 0:=by
 unfold cS;rw [fd]
 by_cases h:i<n
 ·rw [gv h,if_pos h]; rfl
 ·rw [ce (by simpa using h),if_neg h]; rfl
noncomputable def A4 (k:Int) (A B:List (Fp p)):List (Fp p):=rf ((List.range (max A.length B.length)).map fun i=>cS A i+Pol.C (zp p k)*cS B i)
theorem Wn (k:Int) (A B:List (Fp p)) (i:Nat):cS (A4 k A B) i=cS A i+Pol.C (zp p k)*cS B i:=by
 unfold A4;rw [N7,Te]
 split
 ·rfl
 ·rw [S8 (A:=A) (by omega),S8 (A:=B) (by omega),Gq.mul_zero,Gq.add_zero]
theorem P7 (k:Int) (A B:List (Fp p)):vm (A4 k A B):=A9 _
theorem a2v (k:Int) (A B:List (Fp p)):(A4 k A B).length≤max A.length B.length:=G6 fun i hi=>by
 rw [Te,if_neg (by omega)]
noncomputable def yo (c:Fp p) (k:Nat):List (Fp p):=List.replicate k 0++[c]
theorem rk (c:Fp p) (k:Nat):(yo c k).length=k+1:=by unfold yo; rw [bo,cu]; rfl
theorem Hk (c:Fp p) (k i:Nat):cS (yo c k) i=if i=k then c else 0:=by
 unfold cS yo;rcases jz i k with h | h | h
 ·rw [bn (by rw [cu]; exact h),ju,if_pos h,if_neg (by omega)]; rfl
 ·rw [bg (by rw [cu]; omega),cu,h,gu,if_pos rfl]; rfl
 ·rw [ce (by rw [bo,cu,jh]; omega),if_neg (by omega)]; rfl
theorem G7 {c:Fp p} (h:c≠0) (k:Nat):vm (yo c k):=fun n hn=>by
 rw [rk] at hn;rw [Hk,if_pos (by omega)]; exact h
theorem Ob (S:List (Fp p)):(rf S).length≤S.length:=by
 unfold rf; rw [bm]; omega
theorem Hb {B:List (Fp p)} (h:1≤B.length):∃b,B=b++[cS B (B.length-1)]∧b.length=B.length-1:=by
 have hlt:B.length-1<B.length:=by omega
 refine ⟨B.take (B.length-1),?_,by rw [bm]; omega⟩
 rw [←Pp hlt,←ja hlt,show B.length-1+1=B.length by omega,ph]
end
section
variable {p:Int} [IsP p]
theorem Hy {m x:Fp p} {i N:Nat} (hm:m≠0) (hN:m.len≤N+1):∀(k:Nat) (b Q:List (Fp p)),(∀c∈Q,c.len≤N)→∀c∈vu m x i k b Q,c.len≤N
 | _,[],_,h=>h
 | k,y::ys,Q,h=>Hy hm hN (k+1) ys _ (T9 h (by have:=Pol.len_mod (x*ow m (i%(m.len-1)) y) hm; omega))
theorem G4 {m:Fp p} {b:List (Fp p)} {N:Nat} (hm:m≠0) (hN:m.len≤N+1):∀(i:Nat) (a Q:List (Fp p)),(∀c∈Q,c.len≤N)→∀c∈A0 m b i a Q,c.len≤N
 | _,[],_,h=>h
 | i,_x::xs,Q,h=>G4 hm hN (i+1) xs _ (Hy hm hN 0 b Q h)
theorem vf {m:Fp p} {a b:List (Fp p)} {N:Nat} (hm:m≠0) (hN:m.len≤N+1):∀c∈pz m a b,c.len≤N:=fun c hc=>by
 unfold pz at hc
 split at hc
 ·cases hc
 ·have h1:c∈Cw m a b:=jp hc
  exact G4 hm hN 0 a _ (fun c hc=>by rw [List.eq_of_mem_replicate hc,Pol.len_zero]; omega) c h1
theorem ve (m:Fp p) (a b:List (Fp p)):vm (pz m a b):=by
 unfold pz
 split
 ·exact J7
 ·exact A9 _
theorem zr {m:Fp p} {a b:List (Fp p)}:(pz m a b).length≤a.length+b.length-1:=by
 unfold pz
 split
 ·exact jc _
 ·have:=Ob (Cw m a b)
  have hl:(Cw m a b).length=a.length+b.length-1:=by unfold Cw; rw [pb,cu]
  omega
theorem a5f {m x y:Fp p} {a b:List (Fp p)}:cS (Cw m (a++[x]) (b++[y])) (a.length+b.length)=x*ow m (a.length%(m.len-1)) y%m:=by
 unfold Cw;rw [Cb,Ec];unfold qt;rw [vi _ _ _ (by omega),xk _ _ _ (by rw [bo,bu,dl]; omega)]
 have hN:0+a.length+(0+b.length)=a.length+b.length:=by omega
 rw [hN];unfold cS;rw [bc (by rw [sy,pb,cu,bo,bo]; simp only [bu,dl]; omega)]
 rw [ju,if_pos (by rw [bo,bo]; simp only [bu,dl]; omega)]
 show (0:Fp p)+_=_;rw [Gq.zero_add,show 0+a.length=a.length by omega]
theorem Qr {m:Fp p} {A B:List (Fp p)} (ha:1≤A.length) (hb:1≤B.length):cS (pz m A B) (A.length-1+(B.length-1))=cS A (A.length-1)*ow m ((A.length-1)%(m.len-1)) (cS B (B.length-1))%m:=by
 obtain ⟨a,ea,la⟩:=Hb ha;obtain ⟨b,eb,lb⟩:=Hb hb;have h:=a5f (m:=m) (x:=cS A (A.length-1)) (y:=cS B (B.length-1)) (a:=a) (b:=b);rw [←ea,←eb,la,lb] at h;unfold pz;rw [if_neg (by omega),N7]
 exact h
theorem Sd {m x y:Fp p} (hm:Fld m) (hx:x.len<m.len) (hy:y≠0) (hyl:y.len<m.len):(x*zc m y%m)*y%m=x∧y*(x*zc m y%m)%m=x:=by
 have h0:m≠0:=hm.mon.2;have e:=Na hm hy hyl
 have key:Quo.mk m ((x*zc m y%m)*y)=Quo.mk m x:=by
  rw [Quo.mk_mul,Pol.mk_mod,Quo.mk_mul,Gq.mul_assoc,e,Gq.mul_one]
 have h1:=(Pol.mod_eq_iff h0).2 key;rw [Pol.mod_small hx] at h1;exact ⟨h1,by rw [Gq.mul_comm]; exact h1⟩
theorem Qs {m:Fp p}:∀(b a:Nat) (x:Fp p),ow m (a+b) x=ow m a (ow m b x)
 | 0,_,_=>rfl
 | b+1,a,x=>by
  show ow m (a+b) (pw x p.toNat%m)=ow m a (ow m b (pw x p.toNat%m));exact Qs b a _
theorem Tz {m:Fp p} (hm:Fld m) (j:Nat) {z:Fp p} (hz:z.len<m.len):ow m (j%(m.len-1)) (ow m ((m.len-1-j%(m.len-1))%(m.len-1)) z)=z:=by
 have h2:=hm.two;have hlt:=Nat.mod_lt j (show 0<m.len-1 by omega)
 rw [Cs hm _ hz,←Qs,show j%(m.len-1)+(m.len-1-j%(m.len-1))=m.len-1 by omega,←Cs hm _ hz,Nat.mod_self]
 rfl
noncomputable def qc (left:Bool) (m:Fp p) (A B:List (Fp p)):Fp p:=
 if left then ow m ((m.len-1-(B.length-1)%(m.len-1))%(m.len-1)) (cS A (A.length-1)*zc m (cS B (B.length-1))%m)
 else cS A (A.length-1)*zc m (ow m ((A.length-B.length)%(m.len-1)) (cS B (B.length-1)))%m
noncomputable def qT (left:Bool) (m:Fp p) (A B:List (Fp p)):List (Fp p):=yo (qc left m A B) (A.length-B.length)
noncomputable def qP (left:Bool) (m:Fp p) (A B:List (Fp p)):List (Fp p):=if left then pz m B (qT left m A B) else pz m (qT left m A B) B
end
section
variable {p:Int}
structure Sk (m:Fp p) (A:List (Fp p)):Prop where
 trim:vm A
 eight:A.length≤8
 res:∀c∈A,c.len<m.len
theorem Sk.cs {m:Fp p} {A:List (Fp p)} (h:Sk m A) (hm:m≠0) (i:Nat):(cS A i).len<m.len:=by
 have:=ab7 (N:=m.len-1) (fun c hc=>by have:=h.res c hc; omega) i
 have:=Pol.len_pos hm;omega
theorem Sk.top {m:Fp p} {A:List (Fp p)} (h:Sk m A) (h1:1≤A.length):cS A (A.length-1)≠0:=h.trim _ (by omega)
theorem Sk.nil (m:Fp p):Sk m []:=⟨J7,by simp,fun c h=>by cases h⟩
end
section
variable {p:Int} [IsP p]
theorem lr {p:Int} {a:Fp p} {n:Nat} (h:a.len≤n):a.c n=0:=a.lt_len n h
theorem Sk.plus {m:Fp p} {A B:List (Fp p)} (hm:m≠0) (hA:Sk m A) (hB:Sk m B) (k:Int):Sk m (A4 k A B):=by
 have h1:=Pol.len_pos hm;refine ⟨P7 k A B,by have:=a2v k A B; have:=hA.eight; have:=hB.eight; omega,fun c hc=>?_⟩
 have:=aa8 (A:=A4 k A B) (N:=m.len-1) (fun i=>by
  rw [Wn];have a1:=hA.cs hm i;have a2:=hB.cs hm i;exact Pol.len_add_le (by omega) (Pol.len_le fun j hj=>by rw [Pol.c_Cmul,lr (by omega),Gq.mul_zero])) c hc
 omega
theorem a8b (left:Bool) {m:Fp p} (hm:Fld m) {A B:List (Fp p)} (hA:Sk m A) (hB:Sk m B) (h1:1≤B.length) (hle:B.length≤A.length) :
 qc left m A B≠0∧(qc left m A B).len<m.len∧Sk m (qT left m A B)∧Sk m (qP left m A B)∧(A4 (-1) A (qP left m A B)).length<A.length∧Sk m (A4 (-1) A (qP left m A B)):=by
 have h0:m≠0:=hm.mon.2;have hx:=hA.top (by omega)
 have hxl:=hA.cs h0 (A.length-1);have hy:=hB.top h1;have hyl:=hB.cs h0 (B.length-1);have hfy:ow m ((A.length-B.length)%(m.len-1)) (cS B (B.length-1))≠0:=Hi hm _ _ hy hyl;have hfl:=wk h0 ((A.length-B.length)%(m.len-1)) (cS B (B.length-1)) hyl;have hb1:=Sd hm hxl hfy hfl;have hb2:=Sd hm hxl hy hyl;have hzl:(cS A (A.length-1)*zc m (cS B (B.length-1))%m).len<m.len:=Pol.len_mod _ h0
 have hz0:cS A (A.length-1)*zc m (cS B (B.length-1))%m≠0:=fun h=>by
  have:=hb2.1;rw [h,Gq.zero_mul,Pol.zero_mod h0] at this;exact hx this.symm
 have hc0:qc left m A B≠0:=by
  unfold qc;cases left with
  | true=>simp only [if_true]; exact Hi hm _ _ hz0 hzl
  | false=>
   simp only [b8,if_false];intro h;have:=hb1.1;rw [h,Gq.zero_mul,Pol.zero_mod h0] at this;exact hx this.symm
 have hcl:(qc left m A B).len<m.len:=by
  unfold qc;cases left with
  | true=>simp only [if_true]; exact wk h0 _ _ hzl
  | false=>simp only [b8,if_false]; exact Pol.len_mod _ h0
 have hTl:(qT left m A B).length=A.length-B.length+1:=rk _ _;have h8:=hA.eight
 have hT:Sk m (qT left m A B):=⟨G7 hc0 _,by omega,fun c hc=>by
  unfold qT yo at hc;rcases bi.1 hc with h | h
  ·rw [List.eq_of_mem_replicate h,Pol.len_zero]; exact Pol.len_pos h0
  ·rw [br.1 h]; exact hcl⟩
 have hPl:(qP left m A B).length≤A.length:=by
  unfold qP;cases left with
  | true=>have:=zr (m:=m) (a:=B) (b:=qT true m A B); simp only [if_true]; omega
  | false=>have:=zr (m:=m) (a:=qT false m A B) (b:=B); simp only [b8,if_false]; omega
 have hP:Sk m (qP left m A B):=by
  have hm1:=Pol.len_pos h0;refine ⟨?_,by omega,?_⟩
  ·unfold qP
   cases left with
   | true=>exact ve _ _ _
   | false=>exact ve _ _ _
  ·intro c hc
   have:c.len≤m.len-1:=by
    unfold qP at hc;cases left with
    | true=>exact vf h0 (by omega) c hc
    | false=>exact vf h0 (by omega) c hc
   omega
 have htop:cS (qP left m A B) (A.length-1)=cS A (A.length-1):=by
  unfold qP;cases left with
  | true=>
   simp only [if_true];have h:=Qr (m:=m) (A:=B) (B:=qT true m A B) h1 (by omega)
   rw [hTl,show B.length-1+(A.length-B.length+1-1)=A.length-1 by omega,show A.length-B.length+1-1=A.length-B.length by omega] at h
   rw [h];unfold qT;rw [Hk,if_pos rfl];unfold qc;simp only [if_true];rw [Tz hm (B.length-1) hzl];exact hb2.2
  | false=>
   simp only [b8,if_false];have h:=Qr (m:=m) (A:=qT false m A B) (B:=B) (by omega) h1
   rw [hTl,show A.length-B.length+1-1+(B.length-1)=A.length-1 by omega,show A.length-B.length+1-1=A.length-B.length by omega] at h
   rw [h];unfold qT;rw [Hk,if_pos rfl];unfold qc;simp only [b8,if_false];exact hb1.1
 have hneg:∀x:Fp p,x+Pol.C (zp p (-1))*x=0:=fun x=>by
  rw [J2,zh,Pol.C_neg,Pol.C_one];exact bq [x] rfl
 refine ⟨hc0,hcl,hT,hP,?_,hA.plus h0 hP (-1)⟩
 have hlt:(A4 (-1) A (qP left m A B)).length≤A.length-1:=G6 fun i hi=>by
  rw [Te]
  split
  ·rcases dt i A.length with g | g
   ·rw [show i=A.length-1 by omega,htop,hneg]
   ·rw [S8 g,S8 (A:=qP left m A B) (by omega),Gq.mul_zero,Gq.add_zero]
  ·rfl
 omega
def Zto (Q A B:List (Fp p)):Prop:=∀j,j+B.length≤A.length→cS Q j=0
theorem Zto.step {left:Bool} {m:Fp p} (hm:Fld m) {Q A B:List (Fp p)} (hA:Sk m A) (hB:Sk m B) (h1:1≤B.length) (hle:B.length≤A.length) (hz:Zto Q A B):Zto (A4 1 Q (qT left m A B)) (A4 (-1) A (qP left m A B)) B:=fun j hj=>by
 obtain ⟨_,_,_,_,h,_⟩:=a8b left hm hA hB h1 hle;unfold qT;rw [Wn,hz j (by omega),Hk,if_neg (by omega),Gq.mul_zero,Gq.add_zero]
end
end Pe
namespace Pe
open Go Gq
variable {T:Nat→Option Fn} {A:ap}
section
variable {p:Int} [IsP p]
end
noncomputable abbrev e8 {p:Int} (a:Fp p):D:=(D.arr 64 .leaf (ah .u8 (pad (row a))))
section
variable {p:Int} [IsP p]
theorem Xt {O:ap} (hpo:N0 O) {xs:List (Fp p)} (hl:xs.length<2000000) (hx:∀x∈xs,x.len≤64):∀(r i:Nat) (cp:Option Nat),i+r=xs.length→∃cp':Option Nat,
 dn O 0 (.loop Zw_L0) ⟨[(3,.sl 0 [] 0 i cp),(6,.d (.sl .leaf (xs.map cl))),(7,(.d (.int .i64 xs.length))),(8,(.d (.int .i64 i)))],[.sl false (.arr 64 .leaf) ((xs.take i).map e8),.hole,.hole]⟩ =
  some (.exit 0,⟨[(3,.sl 0 [] 0 xs.length cp'),(6,.d (.sl .leaf (xs.map cl))),(7,(.d (.int .i64 xs.length))),(8,(.d (.int .i64 xs.length))),(9,(.d (.bool false)))],[.sl false (.arr 64 .leaf) (xs.map e8),.hole,.hole]⟩)
 | 0,i,cp,hi=>by
  obtain rfl:i=xs.length:=by omega
  rw [ph];refine ⟨cp,cg ?_⟩;generalize xs.map e8=XD at *;generalize xs.map cl=RD at *;simp -implicitDefEqProofs [Zw_L0,az]
 | r+1,i,cp,hi=>by
  have hlt:i<xs.length:=by omega
  have hm:=c6 hlt;have e1:=hpo p xs[i] (hx _ hm);have hXD:(xs.map cl).length=xs.length:=ba ..;have hxi:∀h:i<(xs.map cl).length,(xs.map cl)[i]'h=(D.sl .leaf (ah .i64 (row xs[i]))):=fun h=>by rw [e9]
  have w4:IntKind.i64.wrap ((i:Int)+1)=((i+1:Nat):Int):=(w64 (x:=(i:Int)+1) (by omega)).trans (by omega)
  have h24:(i+1)*64≤1099511627776:=by omega
  have htk:(xs.take (i+1)).map e8=(xs.take i).map e8++[(D.arr 64 .leaf (ah .u8 (pad (row xs[i]))))]:=by rw [ja hlt,da]; rfl
  have hL:((xs.take i).map e8).length=i:=by rw [ba,bm]; omega
  have htt:((xs.take i).map e8).take i=(xs.take i).map e8:=bb (by omega)
  obtain ⟨cp',ih⟩:=Xt hpo hl hx r (i+1) none (by omega)
  refine ⟨cp',c8 ?_ ih⟩;rw [htk];generalize pad (row xs[i])=Pi at *;generalize row xs[i]=Ri at *;generalize (xs.take i).map e8=TD at *;generalize xs.map cl=XD at *;simp -implicitDefEqProofs [Zw_L0,az,hlt,hXD,hxi,e1,h24,hL,htt,w4,List.replicate]
def Mq (O:ap):Prop:=∀(p:Int) [IsP p] (xs:List (Fp p)),xs.length<2000000→(∀x∈xs,x.len≤64)→ask O Fw [.sl .leaf (xs.map cl)]=some (.sl (.arr 64 .leaf) (xs.map e8))
end
theorem a6i (hT:T Fw=some Zw) (hpo:N0 (den T A)):Mq (den T A):=by
 intro p ip xs hl hx;obtain ⟨cp,e⟩:=Xt (O:=den T A) hpo hl hx xs.length 0 (some 0) (bv _);have e00:((0:Nat):Int)=0:=rfl;rw [e00,iq,gt] at e;have h1:(xs.map e8).length=xs.length:=ba ..;have h2:(xs.map cl).length=xs.length:=ba ..;have htk:(xs.map e8).take xs.length=xs.map e8:=bb (by omega)
 refine cd hT rfl ?_;generalize xs.map e8=XD at *;generalize xs.map cl=RD at *;simp -implicitDefEqProofs [Zw,Zw_B,h1,h2,htk,e]
section
variable {p:Int}
end
section
variable {p:Int} [IsP p]
end
section
variable {p:Int} [IsP p]
end
section
variable {p:Int} [IsP p]
end
section
variable {α:Type}
end
section
variable {p:Int} [IsP p]
noncomputable def ade (m:Fp p) (X:List (Fp p)):List (Fp p):=pz m (yo (zc m (cS X (X.length-1))) 0) X
theorem Sk.mon {m:Fp p} {X:List (Fp p)} (hm:m≠0) (hX:Sk m X):Sk m (ade m X):=by
 have h1:=Pol.len_pos hm;have hl:=zr (m:=m) (a:=yo (zc m (cS X (X.length-1))) 0) (b:=X);rw [rk] at hl;have h8:=hX.eight;exact ⟨ve _ _ _,by unfold ade; omega,fun c hc=>by have:=vf (N:=m.len-1) hm (by omega) c hc; omega⟩
end
section
variable {p:Int}
end
section
variable {p:Int} [IsP p]
theorem Yp {m:Fp p} (hm:Fld m) {X Y:List (Fp p)} (hX:vm X) (hY:vm Y) (hXl:∀c∈X,c.len<m.len) (hYl:∀c∈Y,c.len<m.len) (h1:1≤X.length) (h2:1≤Y.length):(pz m X Y).length=X.length+Y.length-1:=by
 obtain ⟨a,ea,la⟩:=Hb h1;obtain ⟨b,eb,lb⟩:=Hb h2;have hx:=hX (X.length-1) (by omega)
 have hy:=hY (Y.length-1) (by omega)
 have ht:=a2h hm (a:=a) (b:=b) hx (hXl _ (by rw [←Pp (show X.length-1<X.length by omega)]; exact c6 _)) hy (hYl _ (by rw [←Pp (show Y.length-1<Y.length by omega)]; exact c6 _))
 rw [←ea,←eb] at ht;unfold pz;rw [if_neg (by omega),ht]
 unfold Cw;rw [pb,cu]
theorem W4:(1:Fp p)≠0:=fun h=>by
 have e:(1:Fp p).len=1:=Pol.len_one;rw [h,Pol.len_zero] at e;cases e
theorem a1l {m:Fp p} (hm:Fld m):Sk m (yo (1:Fp p) 0):=⟨G7 W4 0,by rw [rk]; omega,fun c hc=>by
 unfold yo at hc;rw [List.replicate_zero,fg] at hc;rw [br.1 hc];have:=hm.two;have:(1:Fp p).len=1:=Pol.len_one;omega⟩
end
section
variable {p:Int} [IsP p]
end
end Pe
namespace Pe
open Go Gq
section
variable {p:Int}
noncomputable def sg {m:Fp p}:Nat→Quo m→Quo m
 | 0,x=>x
 | k+1,x=>sg k (pw x p.toNat)
theorem W5 [IsP p] {m:Fp p}:∀(k:Nat) (a:Fp p),Quo.mk m (ow m k a)=sg k (Quo.mk m a)
 | 0,_=>rfl
 | k+1,a=>by
  show Quo.mk m (ow m k (pw a p.toNat%m))=sg k (pw (Quo.mk m a) p.toNat);rw [W5 k,Pol.mk_mod,Quo.mk_pow]
theorem Qo [IsP p] {m:Fp p}:pw (0:Quo m) p.toNat=0:=by
 have h:=IsP.pos (p:=p);have:p.toNat=(p.toNat-1)+1:=by omega
 rw [this];show pw (0:Quo m) (p.toNat-1)*0=0;exact Gq.mul_zero _
theorem Oe [IsP p] {m:Fp p}:∀k,sg k (0:Quo m)=0
 | 0=>rfl
 | k+1=>by
  show sg k (pw (0:Quo m) p.toNat)=0;rw [Qo,Oe k]
section
variable {m:Fp p}
noncomputable def Rop (t0 t1 t2:Quo m) (X:Nat→Quo m):Nat→Quo m
 | 0=>X 0*t0
 | 1=>X 1*sg 1 t0+X 0*t1
 | n+2=>X (n+2)*sg (n+2) t0+X (n+1)*sg (n+1) t1+X n*sg n t2
noncomputable def e0:Nat→Quo m
 | 0=>1
 | _+1=>0
theorem aib (t0 t1 t2 a b c d e f g h i s u v:Quo m):t0*(a*s+b*u+c*v)+t1*(d*s+e*u+f*v)+t2*(g*s+h*u+i*v)=(t0*a+t1*d+t2*g)*s+(t0*b+t1*e+t2*h)*u+(t0*c+t1*f+t2*i)*v:=by
 have l:∀t a b c:Quo m,t*(a*s+b*u+c*v)=t*a*s+t*b*u+t*c*v:=fun t a b c=>bq [t,a,b,c,s,u,v] rfl
 have q:∀x y z w:Quo m,(x+y+z)*w=x*w+y*w+z*w:=fun x y z w=>bq [x,y,z,w] rfl
 have z:∀p1 p2 p3 q1 q2 q3 r1 r2 r3:Quo m,(p1+p2+p3)+(q1+q2+q3)+(r1+r2+r3)=(p1+q1+r1)+(p2+q2+r2)+(p3+q3+r3):=fun p1 p2 p3 q1 q2 q3 r1 r2 r3=>bq [p1,p2,p3,q1,q2,q3,r1,r2,r3] rfl
 rw [l,l,l,q,q,q,z]
theorem eight [IsP p] (t0 t1 t2 a b c d e f g h s u v:Quo m):t0*(a*s+b*u+c*v)+t1*(d*s+e*u+f*v)+t2*(g*s+h*u)=(t0*a+t1*d+t2*g)*s+(t0*b+t1*e+t2*h)*u+(t0*c+t1*f)*v:=by
 have:=aib t0 t1 t2 a b c d e f g h 0 s u v;simp only [Gq.zero_mul,Gq.mul_zero,Gq.add_zero] at this;exact this
noncomputable def Rk (t0 t1 t2:Quo m):Nat→Nat→Quo m
 | 0=>e0
 | k+1=>Rop t0 t1 t2 (Rk t0 t1 t2 k)
noncomputable def a8n (t0 t1 t2:Quo m):(Nat→Quo m)→Nat→Nat→Nat→Quo m
 | _,_,0,_=>0
 | c,k,n+1,i=>c 0*Rk t0 t1 t2 k i+a8n t0 t1 t2 (fun j=>c (j+1)) (k+1) n i
end
theorem Lp (c:Zp p):(Pol.C c).len≤1:=Pol.len_le fun i hi=>by
 cases i with
 | zero=>omega
 | succ i=>rfl
theorem X1 [IsP p] {m a:Fp p} (hm:Irr m):∀l:List (Fp p),Dv m (l.foldr (fun c r=>(a-c)*r) 1)→∃c∈l,Dv m (a-c)
 | [],h=>by
  have h0:Dv m 1:=h;have h1:=h0.len Pol.one_ne;have:=hm.len;rw [Pol.len_one] at h1;omega
 | c::l,h=>by
  rcases hm.prime (show Dv m ((a-c)*_) from h) with h1 | h1
  ·exact ⟨c,by simp,h1⟩
  ·obtain ⟨d,hd,h2⟩:=X1 hm l h1
   exact ⟨d,by simp [hd],h2⟩
theorem Nd {m:Fp p} {n:Int} (h:p=n):(ic n:Quo m)=0:=by
 subst h;exact aff
theorem a6w [IsP p] {m a:Fp p} (h2:2≤m.len) (hi:Irr m) (hal:a.len<m.len) (h:pw (Quo.mk m a) p.toNat=Quo.mk m a):a.len≤1:=by
 have main:∀l:List (Fp p),(∀c∈l,c.len≤1)→l.foldr (fun c r=>(Quo.mk m a-Quo.mk m c)*r) (1:Quo m)=0→a.len≤1:=by
  intro l hl hz
  have e:∀l:List (Fp p),Quo.mk m (l.foldr (fun c r=>(a-c)*r) 1)=l.foldr (fun c r=>(Quo.mk m a-Quo.mk m c)*r) (1:Quo m):=by
   intro l
   induction l with
   | nil=>rfl
   | cons c l ih=>
    show Quo.mk m ((a-c)*_)=(Quo.mk m a-Quo.mk m c)*_;rw [Quo.mk_mul,Quo.mk_sub,ih]
  obtain ⟨c,hc,hd⟩:=X1 (a:=a) hi l (gh.2 ((e l).trans hz));have hcl:=hl c hc
  have hz:a-c=0:=by
   rcases Classical.em (a-c=0) with h0 | h0
   ·exact h0
   ·have:=hd.len h0
    have:(a-c).len≤m.len-1:=by
     rw [Gq.sub_eq];exact Pol.len_add_le (by omega) (by rw [Pol.len_neg]; omega)
    omega
  have:a=c:=by
   have h3:a=(a-c)+c:=bq [a,c] rfl;rw [h3,hz,Gq.zero_add]
  rw [this]; exact hcl
 have c0:(0:Fp p).len≤1:=by rw [Pol.len_zero]; omega
 have c1:(1:Fp p).len≤1:=by rw [Pol.len_one]; omega
 have cs:∀c:Fp p,c.len≤1→(c+1).len≤1:=fun c hc=>Pol.len_add_le hc c1
 have k0:∀c:Fp p,c=0→c.len≤1:=fun c hc=>by rw [hc]; exact c0
 rcases IsP.h (p:=p) with hp | hp | hp | hp
 ·have hn:p.toNat=2:=by omega
  rw [hn] at h;refine main [0,1] (by intro c hc; simp at hc; rcases hc with rfl | rfl <;> assumption) ?_
  have h':Quo.mk m a^2=Quo.mk m a:=h;show (Quo.mk m a-0)*((Quo.mk m a-1)*1)=0;generalize Quo.mk m a=y at h';have e:(y-0)*((y-1)*1)=y^2-y:=bq [y] rfl;rw [e,h'];exact bq [y] rfl
 ·have hn:p.toNat=3:=by omega
  have hz:=Nd (m:=m) hp;rw [hn] at h;refine main [0,1,1+1] (by intro c hc; simp at hc; rcases hc with rfl | rfl | rfl <;> first | exact c0 | exact c1 | exact cs _ c1 | exact cs _ (cs _ c1) | exact cs _ (cs _ (cs _ c1)) | exact cs _ (cs _ (cs _ (cs _ c1))) | exact cs _ (cs _ (cs _ (cs _ (cs _ c1))))) ?_
  have h':Quo.mk m a^3=Quo.mk m a:=h;show (Quo.mk m a-0)*((Quo.mk m a-1)*((Quo.mk m a-(1+1))*1))=0;generalize Quo.mk m a=y at h';have e:(y-0)*((y-1)*((y-(1+1))*1))=y^3-y+ic 3*(y-y^2):=bq [y] rfl;rw [e,h',hz];exact bq [y] rfl
 ·have hn:p.toNat=5:=by omega
  have hz:=Nd (m:=m) hp;rw [hn] at h;refine main [0,1,1+1,1+1+1,1+1+1+1] (by intro c hc; simp at hc; rcases hc with rfl | rfl | rfl | rfl | rfl <;> first | exact c0 | exact c1 | exact cs _ c1 | exact cs _ (cs _ c1) | exact cs _ (cs _ (cs _ c1)) | exact cs _ (cs _ (cs _ (cs _ c1))) | exact cs _ (cs _ (cs _ (cs _ (cs _ c1))))) ?_
  have h':Quo.mk m a^5=Quo.mk m a:=h;show (Quo.mk m a-0)*((Quo.mk m a-1)*((Quo.mk m a-(1+1))*((Quo.mk m a-(1+1+1))*((Quo.mk m a-(1+1+1+1))*1))))=0;generalize Quo.mk m a=y at h';have e:(y-0)*((y-1)*((y-(1+1))*((y-(1+1+1))*((y-(1+1+1+1))*1))))=y^5-y+ic 5*(ic 7*y^3+ic 5*y-ic 2*y^4-ic 10*y^2):=bq [y] rfl;rw [e,h',hz];exact bq [y] rfl
 ·have hn:p.toNat=7:=by omega
  have hz:=Nd (m:=m) hp;rw [hn] at h;refine main [0,1,1+1,1+1+1,1+1+1+1,1+1+1+1+1,1+1+1+1+1+1] (by intro c hc; simp at hc; rcases hc with rfl | rfl | rfl | rfl | rfl | rfl | rfl <;> first | exact c0 | exact c1 | exact cs _ c1 | exact cs _ (cs _ c1) | exact cs _ (cs _ (cs _ c1)) | exact cs _ (cs _ (cs _ (cs _ c1))) | exact cs _ (cs _ (cs _ (cs _ (cs _ c1))))) ?_
  have h':Quo.mk m a^7=Quo.mk m a:=h;show (Quo.mk m a-0)*((Quo.mk m a-1)*((Quo.mk m a-(1+1))*((Quo.mk m a-(1+1+1))*((Quo.mk m a-(1+1+1+1))*((Quo.mk m a-(1+1+1+1+1))*((Quo.mk m a-(1+1+1+1+1+1))*1))))))=0;generalize Quo.mk m a=y at h';have e:(y-0)*((y-1)*((y-(1+1))*((y-(1+1+1))*((y-(1+1+1+1))*((y-(1+1+1+1+1))*((y-(1+1+1+1+1+1))*1))))))=y^7-y+ic 7*(ic 25*y^5+ic 232*y^3+ic 103*y-ic 3*y^6-ic 105*y^4-ic 252*y^2):=bq [y] rfl;rw [e,h',hz];exact bq [y] rfl
end
end Pe
namespace Pe
open Go Gq
variable {T:Nat→Option Fn} {A:ap}
section
variable {p:Int}
end
end Pe
namespace Pe
open Go Gq
section
variable {K:Type} [CR K]
theorem J8 (f:Nat→K):∀n,ff f (n+1)=f 0+ff (fun i=>f (i+1)) n
 | 0=>by show 0+f 0=f 0+0; rw [Gq.add_zero,Gq.zero_add]
 | n+1=>by
  rw [ff,J8 f n,ff];exact Gq.add_assoc _ _ _
theorem ug {f g:Nat→K}:∀{n:Nat},(∀i,i<n→f i=g i)→ff f n=ff g n
 | 0,_=>rfl
 | n+1,h=>by rw [ff,ff,ug fun i hi=>h i (by omega),h n (by omega)]
end
section
variable {p:Int} {m:Fp p}
variable {t0 t1 t2:Quo m}
end
section
variable {p:Int}
theorem Mp [IsP p] {m:Fp p}:∀(k:Nat) (x y:Quo m),sg k (x+y)=sg k x+sg k y
 | 0,_,_=>rfl
 | k+1,x,y=>by
  show sg k (pw (x+y) p.toNat)=sg k (pw x p.toNat)+sg k (pw y p.toNat);rw [wo,Mp k]
theorem Nt {m:Fp p}:∀(k:Nat) (x y:Quo m),sg k (x*y)=sg k x*sg k y
 | 0,_,_=>rfl
 | k+1,x,y=>by
  show sg k (pw (x*y) p.toNat)=sg k (pw x p.toNat)*sg k (pw y p.toNat);rw [sb,Nt k]
theorem Lm [IsP p] {m:Fp p} (c:Zp p):∀k,sg k (Quo.mk m (Pol.C c))=Quo.mk m (Pol.C c)
 | 0=>rfl
 | k+1=>by
  show sg k (pw (Quo.mk m (Pol.C c)) p.toNat)=_;rw [←Quo.mk_pow,←a11,ue,Lm c k]
theorem Xd {m:Fp p} (i:Nat):∀(j:Nat) (x:Quo m),sg i (sg j x)=sg (i+j) x
 | 0,_=>rfl
 | j+1,x=>by
  show sg i (sg j (pw x p.toNat))=sg (i+j) (pw x p.toNat);exact Xd i j _
noncomputable def vq {m:Fp p} (X:Quo m):Nat→List (Fp p)→Quo m
 | _,[]=>0
 | i,c::cs=>Quo.mk m c*sg i X+vq X (i+1) cs
theorem a8q [IsP p] {m x:Fp p} (hm:Fld m) (hx:x.len<m.len):∀(i:Nat) (A:List (Fp p)) (out:Fp p),Quo.mk m (svI m x i A out)=Quo.mk m out+vq (Quo.mk m x) i A
 | i,[],out=>(Gq.add_zero _).symm
 | i,c::cs,out=>by
  show Quo.mk m (svI m x (i+1) cs (out+c*ow m (i%(m.len-1)) x%m))=_;rw [a8q hm hx (i+1) cs,Quo.mk_add,Pol.mk_mod,Quo.mk_mul,Cs hm i hx,W5];exact Gq.add_assoc _ _ _
noncomputable def t8 [IsP p] (m:Fp p) (A:List (Fp p)) (x:Fp p):Quo m:=Quo.mk m (svI m x 0 A 0)
theorem zi [IsP p] {m x:Fp p} (hm:Fld m) (hx:x.len<m.len) (A:List (Fp p)):t8 m A x=vq (Quo.mk m x) 0 A:=by
 unfold t8;rw [a8q hm hx,Quo.mk_zero,Gq.zero_add]
theorem a1n [IsP p] {m:Fp p} (X Y:Quo m):∀(A:List (Fp p)) (i:Nat),vq (X+Y) i A=vq X i A+vq Y i A
 | [],_=>(Gq.add_zero _).symm
 | c::cs,i=>by
  show Quo.mk m c*sg i (X+Y)+vq (X+Y) (i+1) cs=(Quo.mk m c*sg i X+vq X (i+1) cs)+(Quo.mk m c*sg i Y+vq Y (i+1) cs);rw [Mp,a1n X Y cs];exact bq [Quo.mk m c,sg i X,sg i Y,vq X (i+1) cs,vq Y (i+1) cs] rfl
theorem H7 [IsP p] {m:Fp p} (k:Zp p) (X:Quo m):∀(A:List (Fp p)) (i:Nat),vq (Quo.mk m (Pol.C k)*X) i A=Quo.mk m (Pol.C k)*vq X i A
 | [],_=>(Gq.mul_zero _).symm
 | c::cs,i=>by
  show Quo.mk m c*sg i (Quo.mk m (Pol.C k)*X)+vq (Quo.mk m (Pol.C k)*X) (i+1) cs=Quo.mk m (Pol.C k)*(Quo.mk m c*sg i X+vq X (i+1) cs);rw [Nt,Lm,H7 k X cs];exact bq [Quo.mk m c,Quo.mk m (Pol.C k),sg i X,vq X (i+1) cs] rfl
theorem a22 {m:Fp p} (X:Quo m) (v:Fp p):∀(Q:List (Fp p)) (i j:Nat),j<Q.length→vq X i (qt Q j v)=vq X i Q+Quo.mk m v*sg (i+j) X
 | [],_,_,h=>by simp at h
 | c::cs,i,0,_=>by
  show Quo.mk m (c+v)*sg i X+vq X (i+1) cs=Quo.mk m c*sg i X+vq X (i+1) cs+Quo.mk m v*sg (i+0) X;rw [Quo.mk_add,eg];exact bq [Quo.mk m c,Quo.mk m v,sg i X,vq X (i+1) cs] rfl
 | c::cs,i,j+1,h=>by
  have e:qt (c::cs) (j+1) v=c::qt cs j v:=rfl;rw [e];show Quo.mk m c*sg i X+vq X (i+1) (qt cs j v)=Quo.mk m c*sg i X+vq X (i+1) cs+Quo.mk m v*sg (i+(j+1)) X;rw [a22 X v cs (i+1) j (by simpa using h),show i+1+j=i+(j+1) by omega]
  exact (Gq.add_assoc _ _ _).symm
theorem Sz {m:Fp p} (X:Quo m):∀(n i:Nat),vq X i (List.replicate n (0:Fp p))=0
 | 0,_=>rfl
 | n+1,i=>by
  show Quo.mk m 0*sg i X+vq X (i+1) (List.replicate n 0)=0;rw [Sz X n,Quo.mk_zero,Gq.zero_mul,Gq.add_zero]
theorem Up [IsP p] {m c:Fp p} (hm:Fld m) (X:Quo m) {i:Nat}:∀(b:List (Fp p)) (k:Nat) (Q:List (Fp p)),(∀y∈b,y.len<m.len)→i+k+b.length≤Q.length→vq X 0 (vu m c i k b Q)=vq X 0 Q+Quo.mk m c*sg i (vq X k b)
 | [],_,Q,_,_=>by
  show vq X 0 Q=vq X 0 Q+Quo.mk m c*sg i 0;rw [Oe,Gq.mul_zero,Gq.add_zero]
 | y::ys,k,Q,hb,h=>by
  rw [bu] at h;show vq X 0 (vu m c i (k+1) ys (qt Q (i+k) _))=vq X 0 Q+Quo.mk m c*sg i (Quo.mk m y*sg k X+vq X (k+1) ys);rw [Up hm X ys (k+1) _ (fun z hz=>hb z (by simp [hz])) (by rw [Cu]; omega),a22 X _ Q 0 (i+k) (by omega),Pol.mk_mod,Quo.mk_mul,Cs hm i (hb y (by simp)),W5,bv,Mp,Nt,Xd]
  exact bq [vq X 0 Q,Quo.mk m c,sg i (Quo.mk m y),sg (i+k) X,sg i (vq X (k+1) ys)] rfl
theorem a3z [IsP p] {m c0 x:Fp p} (hm:Fld m) {A:List (Fp p)} (hA:∀y∈A,y.len<m.len) (hx:x.len<m.len) (h1:1≤A.length):t8 m (pz m [c0,1] A) x=Quo.mk m c0*t8 m A x+sg 1 (t8 m A x):=by
 have h0:=hm.mon.2
 have e1:t8 m (pz m [c0,1] A) x=t8 m (Cw m [c0,1] A) x:=by
  unfold pz t8;rw [if_neg (by simp only [bu]; omega),a2z h0]
 rw [e1,zi hm hx,zi hm hx];show vq _ 0 (vu m 1 1 0 A (vu m c0 0 0 A (List.replicate ([c0,1].length+A.length-1) 0)))=_;have hl:(List.replicate ([c0,(1:Fp p)].length+A.length-1) (0:Fp p)).length=A.length+1:=by rw [cu]; simp only [bu,dl]; omega
 rw [Up hm _ A 0 _ hA (by rw [sy]; omega),Up hm _ A 0 _ hA (by omega),Sz,Gq.zero_add,Quo.mk_one,Gq.one_mul]
 rfl
theorem T2 [IsP p] {m:Fp p} (hm:Fld m) {A:List (Fp p)} {a b:Fp p} (ha:a.len<m.len) (hb:b.len<m.len) (hk:t8 m A b=0):t8 m A (elim b a)=t8 m A a:=by
 have hl:(elim b a).len≤m.len-1:=Hc (by omega) (by omega)
 rw [zi hm (by omega),zi hm ha]
 rw [zi hm hb] at hk;unfold elim;rw [Quo.mk_add,Quo.mk_mul,a1n,H7,hk,Gq.mul_zero,Gq.add_zero]
theorem O5 [IsP p] {m:Fp p} (hm:Fld m) {A:List (Fp p)}:∀(L:List (Fp p)) (x:Fp p),(∀b∈L,b.len<m.len∧t8 m A b=0)→x.len<m.len→t8 m A (xf L x)=t8 m A x
 | [],_,_,_=>rfl
 | b::bs,x,h,hx=>by
  have hb:=h b (by simp)
  have hl:(elim b x).len≤m.len-1:=Hc (by omega) (by omega)
  show t8 m A (xf bs (elim b x))=_;rw [O5 hm bs (elim b x) (fun c hc=>h c (by simp [hc])) (by omega),T2 hm hx hb.1 hb.2]
theorem Rc [IsP p] {m:Fp p} (hm:Fld m) {A:List (Fp p)} {x:Fp p} (hx:x.len<m.len) (k:Zp p) (hk:t8 m A x=0):t8 m A (Pol.C k*x)=0:=by
 have hl:(Pol.C k*x).len<m.len:=by
  have h2:=hm.two;have:(Pol.C k*x).len≤m.len-1:=Pol.len_le fun j hj=>by rw [Pol.c_Cmul,lr (by omega),Gq.mul_zero]
  omega
 rw [zi hm hl,Quo.mk_mul,H7,←zi hm hx,hk,Gq.mul_zero]
theorem R9 (a:Fp p) (L:List (Fp p)):(Jk a L).length=L.length+1:=by
 rw [(Eb a L).length_eq,bo,ba]; rfl
noncomputable def lsC [IsP p] (m v:Fp p):Fp p:=Pol.C (zp p (-1))*(ow m 1 v*zc m v%m)
noncomputable def lsN [IsP p] (m:Fp p) (A:List (Fp p)) (x:Fp p):List (Fp p):=if (svI m x 0 A 0).len=0 then A else pz m [lsC m (svI m x 0 A 0),1] A
noncomputable def lsS [IsP p] (m:Fp p):List (Fp p)→List (Fp p)→List (Fp p)
 | [],A=>A
 | x::xs,A=>lsS m xs (lsN m A x)
theorem a6g [IsP p] {m v:Fp p} (hm:Fld m):(lsC m v).len<m.len:=by
 have h1:=Pol.len_mod (ow m 1 v*zc m v) hm.mon.2;have:(lsC m v).len≤m.len-1:=Pol.len_le fun j hj=>by unfold lsC; rw [Pol.c_Cmul,lr (by omega),Gq.mul_zero]
 omega
theorem af3 [IsP p] {m v:Fp p} (hm:Fld m) (hv:v≠0) (hvl:v.len<m.len):Quo.mk m (lsC m v)*Quo.mk m v+sg 1 (Quo.mk m v)=0:=by
 have hi:=Na hm hv hvl;unfold lsC;rw [Quo.mk_mul,Pol.mk_mod,Quo.mk_mul,W5,J2,zh,Pol.C_neg,Pol.C_one,Quo.mk_neg,Quo.mk_one];have e:-1*(sg 1 (Quo.mk m v)*Quo.mk m (zc m v))*Quo.mk m v+sg 1 (Quo.mk m v)=sg 1 (Quo.mk m v)*(1-Quo.mk m (zc m v)*Quo.mk m v):=bq [sg 1 (Quo.mk m v),Quo.mk m (zc m v),Quo.mk m v] rfl;rw [e,hi];exact bq [sg 1 (Quo.mk m v)] rfl
structure LsI [IsP p] (m:Fp p) (A:List (Fp p)):Prop where
 trim:vm A
 res:∀c∈A,c.len<m.len
 ex:∃L:List (Fp p),Desc (m.len-1) L∧(∀b∈L,t8 m A b=0)∧A.length=L.length+1
theorem LsI.len [IsP p] {m:Fp p} {A:List (Fp p)} (hm:Fld m) (h:LsI m A):1≤A.length∧A.length≤5:=by
 obtain ⟨L,h1,_,h3⟩:=h.ex;have:=h1.length;have h5:=hm.five;have h2:=hm.two;omega
theorem LsI.one [IsP p] {m:Fp p} (hm:Fld m):LsI m (yo (1:Fp p) 0):=⟨(a1l hm).trim,(a1l hm).res,[],Desc.nil _,(fun b hb=>by cases hb),by rw [rk]; rfl⟩
theorem a36 [IsP p] (c:Fp p):vm [c,(1:Fp p)]:=fun n hn=>by
 have:n=1:=by simp at hn; omega
 subst this;exact W4
theorem a7a [IsP p] {m c:Fp p} (hm:Fld m) (hc:c.len<m.len):∀y∈[c,(1:Fp p)],y.len<m.len:=fun y hy=>by
 have h2:=hm.two;have:(1:Fp p).len=1:=Pol.len_one;simp at hy;rcases hy with rfl | rfl <;> omega
theorem LsI.next [IsP p] {m x:Fp p} {A:List (Fp p)} (hm:Fld m) (h:LsI m A) (hx:x.len<m.len):LsI m (lsN m A x):=by
 have h0:=hm.mon.2;have h2:=hm.two;unfold lsN
 by_cases hv:(svI m x 0 A 0).len=0
 ·rw [if_pos hv]; exact h
 ·rw [if_neg hv]
  obtain ⟨L,hL,hK,hlen⟩:=h.ex;have hvl:(svI m x 0 A 0).len<m.len:=X6 h0 0 A 0 (by rw [Pol.len_zero]; omega)
  have hv0:svI m x 0 A 0≠0:=fun h=>hv (by rw [h,Pol.len_zero])
  have hcl:=a6g (v:=svI m x 0 A 0) hm;have hLl:∀b∈L,b.len<m.len:=fun b hb=>by have:=hL.le b hb; omega
  have step:∀y:Fp p,y.len<m.len→t8 m (pz m [lsC m (svI m x 0 A 0),1] A) y=Quo.mk m (lsC m (svI m x 0 A 0))*t8 m A y+sg 1 (t8 m A y):=fun y hy=>a3z hm h.res hy (by omega)
  have kill:∀y:Fp p,y.len<m.len→t8 m A y=0→t8 m (pz m [lsC m (svI m x 0 A 0),1] A) y=0:=fun y hy hk=>by
   rw [step y hy,hk,Gq.mul_zero,Oe,Gq.add_zero]
  have killx:t8 m (pz m [lsC m (svI m x 0 A 0),1] A) x=0:=by
   rw [step x hx];exact af3 hm hv0 hvl
  have hr:xf L x≠0:=fun hz=>by
   have e:=O5 (A:=A) hm L x (fun b hb=>⟨hLl b hb,hK b hb⟩) hx
   rw [hz] at e
   have e2:t8 m A (0:Fp p)=0:=by
    have:=Rc (A:=A) hm (x:=0) (by rw [Pol.len_zero]; omega)
    rw [zi hm (by rw [Pol.len_zero]; omega)]
    have h3:=H7 (m:=m) (0:Zp p) (0:Quo m) A 0;rw [Gq.mul_zero] at h3;rw [Quo.mk_zero,h3];have:Quo.mk m (Pol.C (0:Zp p))=0:=by rw [Pol.C_zero]; rfl
    rw [this,Gq.zero_mul]
   rw [e2] at e;have e3:=(Pol.mod_eq_iff h0).2 (show Quo.mk m (svI m x 0 A 0)=Quo.mk m 0 from e.symm);rw [Pol.mod_small hvl,Pol.zero_mod h0] at e3;exact hv0 e3
  have hrl:(xf L x).len≤m.len-1:=My hL.le (by omega)
  have hml:=xz hr
  have killr:t8 m (pz m [lsC m (svI m x 0 A 0),1] A) (Gq.mon (xf L x))=0:=by
   refine Rc hm (by omega) _ ?_
   rw [O5 hm L x (fun b hb=>⟨hLl b hb,kill b (hLl b hb) (hK b hb)⟩) hx]
   exact killx
  refine ⟨ve _ _ _,fun c hc=>by have:=vf (N:=m.len-1) h0 (by omega) c hc; omega,Yl L x,a0q hL (by omega),fun b hb=>?_,?_⟩
  ·rw [N3 hr] at hb
   rcases Ds hb with rfl | ⟨c,hc,rfl⟩
   ·exact killr
   ·have hcl':=hLl c hc
    rw [T2 hm hcl' (by omega) killr]
    exact kill c hcl' (hK c hc)
  ·rw [N3 hr,R9,Yp hm (a36 _) h.trim (a7a hm hcl) h.res (by simp) (by omega)]
   simp only [bu,dl];omega
theorem LsI.all [IsP p] {m:Fp p} (hm:Fld m):∀(xs A:List (Fp p)),LsI m A→(∀x∈xs,x.len<m.len)→LsI m (lsS m xs A)
 | [],_,h,_=>h
 | x::xs,A,h,hx=>LsI.all hm xs _ (h.next hm (hx x (by simp))) fun y hy=>hx y (by simp [hy])
end
end Pe
namespace Pe
open Go Gq
variable {T:Nat→Option Fn} {A:ap}
end Pe


/-
 Functions of the laws in the small form,printed by a program.
-/
namespace Pe
open Go
abbrev Fb:Nat:=1122
end Pe
namespace Pe
open Go Gq
variable {T:Nat→Option Fn} {A:ap}
section
variable {p:Int} [IsP p]
end
section
variable {p:Int} [IsP p]
end
section
variable {p:Int} [IsP p]
end
end Pe

namespace Gq
section
variable {K:Type} [CR K]
abbrev Rw (K:Type):=Nat→K
def tlR (r:Rw K):Rw K:=fun k=>r (k+1)
def adR (u:Rw K) (c:K) (v:Rw K):Rw K:=fun k=>u k+c*v k
@[simp] theorem air (u:Rw K) (c:K) (v:Rw K):tlR (adR u c v)=adR (tlR u) c (tlR v):=rfl
end
end Gq

namespace Pe
open Go Gq
variable {T:Nat→Option Fn} {A:ap}
section
variable {p:Int} [IsP p]
theorem ma (k:Zp p) (a:Fp p):(Pol.C k*a).len≤a.len:=by
 by_cases h:k=0
 ·rw [h,show Pol.C (0:Zp p)=(0:Fp p) from Pol.ext fun i=>by cases i <;> rfl,show (0:Fp p)*a=0 from bq [a] rfl,Pol.len_zero]; omega
 ·rw [Pol.len_Cmul h]; exact bj _
end
section
variable {p:Int}
end
section
variable {p:Int} [IsP p]
end
section
variable {p:Int}
end
section
variable {p:Int} [IsP p]
end
section
variable {p:Int}
end
section
variable {p:Int} [IsP p]
end
section
variable {p:Int}
end
section
variable {p:Int} [IsP p]
end
end Pe
namespace Pe
open Go Gq
section
variable {p:Int}
structure Lin (f:Fp p→Fp p):Prop where
 add:∀x y,f (x+y)=f x+f y
 mul:∀(k:Zp p) x,f (Pol.C k*x)=Pol.C k*f x
theorem Lin.zero {f:Fp p→Fp p} (h:Lin f):f 0=0:=by
 have:=h.mul 0 0
 rwa [Pol.C_zero,Gq.zero_mul,Gq.zero_mul] at this
theorem Lin.neg {f:Fp p→Fp p} (h:Lin f) (x:Fp p):f (-x)=-f x:=by
 have e:=h.mul (-1) x;have e1:Pol.C (-1:Zp p)=-1:=by rw [Pol.C_neg]; rfl
 rw [e1,show (-1:Fp p)*x=-x from bq [x] rfl,show (-1:Fp p)*f x=-f x from bq [f x] rfl] at e;exact e
theorem Lin.sub {f:Fp p→Fp p} (h:Lin f) (x y:Fp p):f (x-y)=f x-f y:=by
 rw [Gq.sub_eq,h.add,h.neg,←Gq.sub_eq]
variable [IsP p]
structure MinR (ev:Fp p→Fp p) (f:Fp p):Prop where
 mon:Monic f
 zero:ev f=0
 least:∀g:Fp p,g.len<f.len→ev g=0→g=0
theorem MinR.one {ev:Fp p→Fp p} (hl:Lin ev) {f g:Fp p} (hf:MinR ev f) (hg:MinR ev g):f=g:=by
 have h1:¬ f.len<g.len:=fun h=>hf.mon.2 (hg.least f h hf.zero)
 have h2:¬ g.len<f.len:=fun h=>hg.mon.2 (hf.least g h hg.zero)
 have e:f.len=g.len:=by omega
 have hp:=Pol.len_pos hf.mon.2
 have hd:f-g=0:=hf.least (f-g) (by
  have hle:(f-g).len≤f.len-1:=Pol.len_le fun i hi=>by
   rw [Pol.c_sub]
   by_cases hi':i=f.len-1
   ·have e1:f.c i=1:=by rw [hi']; exact hf.mon.1
    have e2:g.c i=1:=by rw [hi',e]; exact hg.mon.1
    rw [e1,e2]; exact Gq.sub_self _
   ·rw [lr (by omega),lr (by omega)]; exact Gq.sub_self _
  omega) (by rw [hl.sub,hf.zero,hg.zero]; exact Gq.sub_self _)
 have:f=f-g+g:=bq [f,g] rfl;rw [this,hd,Gq.zero_add]
end
section
variable {p:Int} [IsP p]
noncomputable def rlC (v b:Fp p):Int:=-rep (v.c (b.len-1))*inv p (rep b.ld)
noncomputable def rlS (v o b t:Fp p):Fp p×Fp p:=(v+Pol.C (zp p (rlC v b))*b,o+Pol.C (zp p (rlC v b))*t)
noncomputable def rlL:List (Fp p)→List (Fp p)→Fp p→Fp p→Fp p×Fp p
 | b::ks,t::ts,v,o=>rlL ks ts (rlS v o b t).1 (rlS v o b t).2
 | _,_,v,o=>(v,o)
theorem a3u {v b:Fp p} (hb:b≠0):(v+Pol.C (zp p (rlC v b))*b).c (b.len-1)=0:=by
 rw [Pol.c_add,Pol.c_Cmul];show v.c (b.len-1)+zp p (rlC v b)*b.ld=0;have hl:=Pol.ld_ne hb
 have e:zp p (rlC v b)=-v.c (b.len-1)*Fd.inv b.ld:=by
  unfold rlC;rw [zx,uc _ hl,J2,lm]
 rw [e,Gq.mul_assoc,Gq.mul_comm (Fd.inv b.ld),Fd.mul_inv _ hl];exact bq [v.c (b.len-1)] rfl
theorem Iz (v b:Fp p):-1000≤rlC v b∧rlC v b≤1000:=by
 have hp:=IsP.le (p:=p);have h1:=im (v.c (b.len-1));have h2:=xl p (rep b.ld);unfold rlC;have h3:rep (v.c (b.len-1))*inv p (rep b.ld)≤7*7:=Int.mul_le_mul (by omega) (by omega) (by omega) (by omega)
 have h4:0≤rep (v.c (b.len-1))*inv p (rep b.ld):=ep (by omega) (by omega)
 rw [Int.neg_mul];omega
structure RelI (ev:Fp p→Fp p) (d k:Nat) (ks ts:List (Fp p)):Prop where
 src:ks=ts.map ev
 dec:ks.Pairwise fun a b=>b.len<a.len
 nz:∀b∈ks,b≠0∧b.len≤d
 tl:∀t∈ts,t.len≤k
 sp:∀h:Fp p,h.len≤k→Spn ks (ev h)
 ind:∀h:Fp p,h.len≤k→ev h=0→h=0
 cnt:ks.length=k
end
section
variable {p:Int}
theorem RelI.nil {ev:Fp p→Fp p} (hl:Lin ev) (d:Nat):RelI ev d 0 [] [] where
 src:=rfl
 dec:=.nil
 nz:=fun b hb=>(List.not_mem_nil hb).elim
 tl:=fun b hb=>(List.not_mem_nil hb).elim
 sp:=fun h hh=>by rw [Pol.len_zero_iff.1 (Nat.le_zero.1 hh),hl.zero]; exact .zero
 ind:=fun h hh _=>Pol.len_zero_iff.1 (by omega)
 cnt:=rfl
end
section
variable {p:Int} [IsP p]
end
section
variable {p:Int}
theorem L8:∀{d:Nat} {ks:List (Fp p)},ks.Pairwise (fun a b=>b.len<a.len)→(∀b∈ks,b≠0∧b.len≤d)→ks.length≤d
 | _,[],_,_=>jc _
 | d,b::ks,hd,hn=>by
  obtain ⟨h1,h2⟩:=d5.1 hd;obtain ⟨h3,h4⟩:=hn b (by simp)
  have hp:=Pol.len_pos h3;have:=L8 (d:=b.len-1) h2 fun c hc=>⟨(hn c (by simp [hc])).1,by have:=h1 c hc; omega⟩
  rw [bu]; omega
end
section
variable {p:Int} [IsP p]
theorem a5n {ev:Fp p→Fp p} (hl:Lin ev) {d k:Nat}:∀(ts:List (Fp p)) (v o:Fp p),((ts.map ev).Pairwise fun a b=>b.len<a.len)→(∀b∈ts.map ev,b≠0∧b.len≤d)→(∀t∈ts,t.len≤k)→v.len≤d→o.len≤k+1→o.c k=1→ev o=v →
 let r:=rlL (ts.map ev) ts v o
 r.1.len≤d∧r.2.len≤k+1∧r.2.c k=1∧ev r.2=r.1∧(∀b∈ts.map ev,r.1.c (b.len-1)=0)∧(∀i,(∀b∈ts.map ev,b.len≤i)→r.1.c i=v.c i)
 | [],v,o,_,_,_,h1,h2,h3,h4=>⟨h1,h2,h3,h4,fun b hb=>(List.not_mem_nil hb).elim,fun _ _=>rfl⟩
 | t::ts,v,o,hd,hn,ht,h1,h2,h3,h4=>by
  rw [cw] at hd hn;obtain ⟨d1,d2⟩:=d5.1 hd;obtain ⟨n1,n2⟩:=hn (ev t) (by simp)
  have tk:=ht t (by simp)
  have hz:=a3u (v:=v) n1
  have ih:=a5n hl ts (v+Pol.C (zp p (rlC v (ev t)))*ev t) (o+Pol.C (zp p (rlC v (ev t)))*t) d2 (fun b hb=>hn b (by simp [hb])) (fun s hs=>ht s (by simp [hs]))
   (Pol.len_add_le h1 (dk (ma _ _) n2)) (Pol.len_add_le h2 (dk (ma _ _) (by omega)))
   (by rw [Pol.c_add,Pol.c_Cmul,lr tk,Gq.mul_zero,Gq.add_zero]; exact h3) (by rw [hl.add,hl.mul,h4])
  obtain ⟨i1,i2,i3,i4,i5,i6⟩:=ih;refine ⟨i1,i2,i3,i4,fun b hb=>?_,fun i hi=>?_⟩
  ·rw [cw] at hb
   rcases d8.1 hb with rfl | hb
   ·have hp:=Pol.len_pos n1
    have:=i6 ((ev t).len-1) fun c hc=>by have:=d1 c hc; omega
    exact this.trans hz
   ·exact i5 b hb
  ·rw [cw] at hi
   have e1:=i6 i fun c hc=>hi c (by simp [hc])
   refine e1.trans ?_;rw [Pol.c_add,Pol.c_Cmul,lr (hi (ev t) (by simp)),Gq.mul_zero,Gq.add_zero]
theorem Qq:∀{ks:List (Fp p)} {y:Fp p},ks.Pairwise (fun a b=>b.len<a.len)→(∀b∈ks,b≠0)→Spn ks y→(∀b∈ks,y.c (b.len-1)=0)→y=0
 | [],y,_,_,hs,_=>by
  refine Spn.inside (S:=fun y=>y=0) rfl (fun k a b ha hb=>by rw [ha,hb,Gq.mul_zero,Gq.add_zero]) (fun a ha=>by cases ha) hs
 | b::ks,y,hd,hn,hs,hz=>by
  obtain ⟨d1,d2⟩:=d5.1 hd;have hb0:=hn b (by simp)
  have hbp:=Pol.len_pos hb0
  obtain ⟨k,z,hz1,rfl⟩:∃(k:Zp p) (z:Fp p),Spn ks z∧y=Pol.C k*b+z:=by
   refine Spn.inside (S:=fun y=>∃(k:Zp p) (z:Fp p),Spn ks z∧y=Pol.C k*b+z) ⟨0,0,.zero,by rw [Pol.C_zero,Gq.zero_mul,Gq.zero_add]⟩ ?_ ?_ hs
   ·rintro k _ _ ⟨k1,z1,s1,rfl⟩ ⟨k2,z2,s2,rfl⟩
    refine ⟨k*k1+k2,Pol.C k*z1+z2,(s1.smul k).add s2,?_⟩;rw [Pol.C_add,Pol.C_mul];exact bq [Pol.C k,Pol.C k1,Pol.C k2,b,z1,z2] rfl
   ·intro a ha
    rcases d8.1 ha with rfl | ha
    ·exact ⟨1,0,.zero,by rw [show Pol.C (1:Zp p)=1 from rfl,Gq.one_mul,Gq.add_zero]⟩
    ·exact ⟨0,a,.mem ha,by rw [Pol.C_zero,Gq.zero_mul,Gq.zero_add]⟩
  have hzl:z.len≤b.len-1:=by
   refine Spn.inside (S:=fun y=>y.len≤b.len-1) (by rw [Pol.len_zero]; omega) (fun k x w hx hw=>Pol.len_add_le (dk (ma _ _) hx) hw) (fun a ha=>by have:=d1 a ha; omega) hz1
  have hk:k=0:=by
   have e:=hz b (by simp)
   rw [Pol.c_add,Pol.c_Cmul,lr hzl,Gq.add_zero] at e;rcases Fd.zero_or e with h | h
   ·exact h
   ·exact absurd h (Pol.ld_ne hb0)
  subst hk;rw [Pol.C_zero,Gq.zero_mul,Gq.zero_add] at hz ⊢;exact Qq d2 (fun c hc=>hn c (by simp [hc])) hz1 fun c hc=>hz c (by simp [hc])
theorem RelI.found {ev:Fp p→Fp p} {d k:Nat} {ks ts:List (Fp p)} (h:RelI ev d k ks ts) {o:Fp p} (h1:o.len≤k+1) (h2:o.c k=1) (h3:ev o=0):MinR ev o∧o.len=k+1:=by
 have hne:o.c k≠0:=by rw [h2]; exact Fd.one_ne
 have hlen:o.len=k+1:=by
  have:¬ o.len≤k:=fun g=>hne (lr g)
  omega
 have hon:o≠0:=fun g=>hne (by rw [g]; rfl)
 exact ⟨⟨⟨by unfold Pol.ld; rw [hlen,Nat.add_sub_cancel]; exact h2,hon⟩,h3,fun g hg hz=>h.ind g (by omega) hz⟩,hlen⟩
theorem RelI.next {ev:Fp p→Fp p} (hl:Lin ev) {d k:Nat} {ks ts:List (Fp p)} (h:RelI ev d k ks ts) {v o:Fp p} (h1:o.len≤k+1) (h2:o.c k=1) (h3:ev o=v) (hv:v≠0) (hvl:v.len≤d) (hz:∀b∈ks,v.c (b.len-1)=0) {n:Nat} (hn:n≤k)
 (ha:∀b∈ks.take n,¬ b.len<v.len) (hb:∀b∈ks.drop n,b.len<v.len):RelI ev d (k+1) (ks.take n++v::ks.drop n) (ts.take n++o::ts.drop n):=by
 have hmem:∀b,b∈ks.take n++v::ks.drop n↔b=v∨b∈ks:=fun b=>by
  rw [bi,d8];constructor
  ·rintro (g | g | g)
   ·exact .inr (jp g)
   ·exact .inl g
   ·exact .inr (List.mem_of_mem_drop g)
  ·rintro (g | g)
   ·exact .inr (.inl g)
   ·rw [←g9 n ks,bi] at g
    rcases g with g | g
    ·exact .inl g
    ·exact .inr (.inr g)
 have hne:∀b∈ks,b.len≠v.len:=fun b hbm e=>by
  have:=hz b hbm;rw [e] at this;exact Pol.ld_ne hv this
 have hsp:∀g:Fp p,g.len≤k+1→∃(c:Zp p) (g':Fp p),g'.len≤k∧g=Pol.C c*o+g':=fun g hg=>by
  refine ⟨g.c k,g-Pol.C (g.c k)*o,Pol.len_le fun i hi=>?_,?_⟩
  ·rw [Pol.c_sub,Pol.c_Cmul]
   by_cases hik:i=k
   ·rw [hik,h2,Gq.mul_one]; exact Gq.sub_self _
   ·rw [lr (show g.len≤i by omega),lr (show o.len≤i by omega),Gq.mul_zero]; exact Gq.sub_self _
  ·exact bq [g,Pol.C (g.c k),o] rfl
 have sup:∀{y},Spn ks y→Spn (ks.take n++v::ks.drop n) y:=fun hy=>Spn.sup (fun a ha=>.mem ((hmem a).2 (.inr ha))) hy
 refine ⟨?_,?_,fun b hbm=>?_,fun t ht=>?_,fun g hg=>?_,fun g hg h0=>?_,?_⟩
 ·rw [da,cw,h3,List.map_take,List.map_drop,←h.src]
 ·have hd:=h.dec
  rw [←g9 n ks,fe] at hd;obtain ⟨p1,p2,p3⟩:=hd;rw [fe,d5];refine ⟨p1,⟨fun b hbm=>hb b hbm,p2⟩,fun a ham b hbm=>?_⟩
  rcases d8.1 hbm with rfl | hbm
  ·have:=ha a ham
   have:=hne a (jp ham);omega
  ·exact p3 a ham b hbm
 ·rcases (hmem b).1 hbm with rfl | hbm
  ·exact ⟨hv,hvl⟩
  ·exact h.nz b hbm
 ·rcases bi.1 ht with g | g
  ·have:=h.tl t (jp g); omega
  ·rcases d8.1 g with rfl | g
   ·exact h1
   ·have:=h.tl t (List.mem_of_mem_drop g); omega
 ·obtain ⟨c,g',hg',rfl⟩:=hsp g hg
  rw [hl.add,hl.mul,h3];exact ((Spn.mem ((hmem v).2 (.inl rfl))).smul c).add (sup (h.sp g' hg'))
 ·obtain ⟨c,g',hg',rfl⟩:=hsp g hg
  rw [hl.add,hl.mul,h3] at h0
  have hc:c=0:=by
   refine cm fun hc=>hv ?_
   have e:v=Pol.C (Fd.inv c) * -ev g':=by
    have e1:-ev g'=Pol.C c*v:=by
     have:-ev g'=Pol.C c*v-(Pol.C c*v+ev g'):=bq [ev g',Pol.C c*v] rfl;rw [this,h0];exact bq [Pol.C c*v] rfl
    rw [e1,←Gq.mul_assoc,←Pol.C_mul,Gq.mul_comm (Fd.inv c),Fd.mul_inv _ hc,show Pol.C (1:Zp p)=1 from rfl,Gq.one_mul]
   refine Qq h.dec (fun b hbm=>(h.nz b hbm).1) ?_ hz
   rw [e];exact (h.sp g' hg').neg.smul _
  subst hc;rw [Pol.C_zero,Gq.zero_mul,Gq.zero_add] at h0 ⊢;exact h.ind g' hg' h0
 ·rw [bo,bu,bm,dp,h.cnt]; omega
end
end Pe
namespace Pe
open Go Gq
variable {T:Nat→Option Fn} {A:ap}
abbrev Vc (code:List Int) (at_:Nat) (h:Int):Blk:=.box false (.st [.leaf,.leaf,.leaf] [.sl .leaf (ah .u8 code),.int .i64 at_,.int .u64 h])
def Src (b:Blk):Prop:=∃(code:List Int) (at_:Nat) (h:Int),b=Vc code at_ h∧at_≤code.length∧code.length≤1099511627776∧kh code
theorem a2m {n:Nat} (h:n≤16777215):IntKind.u64.wrap (n:Int)=n:=by
 simp [IntKind.wrap,IntKind.bits,IntKind.signed]; omega
theorem a64 (x:Int):0≤a0e .u64 x 16777215∧a0e .u64 x 16777215≤16777215:=by
 have h1:(BitVec.ofInt 64 x &&& BitVec.ofInt 64 16777215).toNat≤16777215:=by
  rw [BitVec.toNat_and];exact Nat.and_le_right
 have h2:a0e .u64 x 16777215=((BitVec.ofInt 64 x &&& BitVec.ofInt 64 16777215).toNat:Int):=a2m h1;rw [h2];omega
theorem a9a:(2:Int)^min 33 IntKind.u64.bits=8589934592:=rfl
def Iq (O:ap) (F:Nat):Prop:=∀(b:Blk) (n:Int),Src b→n≤4611686018427387904→∃(x:Int) (b':Blk),O F [.ptr 0 [],(.d (.int .i64 n))] [b]=some ((.d (.int .i64 x)),[b'],[])∧Src b'∧0≤x∧(x<n∨x=0)
structure DrI (p:Int) (Q:List Int) (n:Nat):Prop where
 l:Q.length=64
 c:Can p Q
 z:∀j,n≤j→cf Q j=0
theorem DrI.set {p:Int} {Q:List Int} {n k:Nat} {x:Int} (h:DrI p Q n) (h0:0≤x) (h1:x<p) (hk:k<n):DrI p (Q.set k x) n:=
 ⟨by rw [cx]; exact h.l,fun y hy=>by
  rcases fl hy with g | rfl
  ·exact h.c y g
  ·exact ⟨h0,h1⟩,fun j hj=>by rw [tf,if_neg (by omega)]; exact h.z j hj⟩
section
variable {p:Int} [IsP p]
theorem DrI.pol {Q:List Int} {n:Nat} (h:DrI p Q n):Q=pad (row (gn p Q))∧(gn p Q).len≤n:=
 ⟨Ig h.c h.l,Pol.len_le fun j hj=>by rw [jr,h.z j hj]; rfl⟩
end
theorem DrI.zero (p:Int) [IsP p] (n:Nat):DrI p (pad []) n:=
 ⟨c5 _,fun x hx=>by
  have hp:=IsP.ge (p:=p)
  have:x=0:=by
   unfold pad at hx;obtain ⟨a,_,rfl⟩:∃a,a<64∧cf [] a=x:=by simpa using hx
   exact o7 (jc _)
  omega,fun j _=>(yr (l:=[]) (by simp) j).trans (o7 (jc _))⟩
theorem DrI.up {p:Int} {Q:List Int} {n m:Nat} (h:DrI p Q n) (hm:n≤m):DrI p Q m:=⟨h.l,h.c,fun j hj=>h.z j (by omega)⟩
def Arr (l:List Int):Prop:=l.length=64∧kh l
theorem Xy {p:Int} [IsP p] (a:Fp p):Arr (pad (row a)):=⟨c5 _,lh a⟩
end Pe

namespace Gq
def Pr (l:Nat):Prop:=2≤l∧∀d,d∣l→d=1∨d=l
theorem Pr.coprime {l n:Nat} (h:Pr l) (hn:¬ l∣n):Nat.Coprime l n:=by
 rcases h.2 _ (Nat.gcd_dvd_left l n) with h1 | h1
 ·exact h1
 ·exact absurd (h1▸Nat.gcd_dvd_right l n) hn
theorem a5x:∀(n:Nat),2≤n→∃l,Pr l∧l∣n:=by
 intro n
 induction n using Nat.strongRecOn with
 | ind n ih=>
  intro hn
  by_cases h:Pr n
  ·exact ⟨n,h,Nat.dvd_refl n⟩
  ·have:∃d,d∣n∧d≠1∧d≠n:=by
    apply cm;intro hno;refine h ⟨hn,fun d hd=>?_⟩
    apply cm;intro h2;exact hno ⟨d,hd,fun e=>h2 (.inl e),fun e=>h2 (.inr e)⟩
   obtain ⟨d,hd,h1,h2⟩:=this;have hle:=kz (by omega) hd
   have h0:d≠0:=fun e=>by
    rw [e] at hd;have:=Nat.eq_zero_of_zero_dvd hd;omega
   obtain ⟨l,hl,hld⟩:=ih d (by omega) (by omega)
   exact ⟨l,hl,jk hld hd⟩
theorem Pr.dvd_mul {l a b:Nat} (h:Pr l) (hd:l∣a*b):l∣a∨l∣b:=by
 by_cases ha:l∣a
 ·exact .inl ha
 ·exact .inr ((h.coprime ha).dvd_of_dvd_mul_left hd)
theorem Pr.dvd_pr {l q:Nat} (h:Pr l) (hq:Pr q) (hd:l∣q):l=q:=by
 rcases hq.2 l hd with h1 | h1
 ·have:=h.1; omega
 ·exact h1
theorem a4i {n:Nat} (h0:1≤n) (h:∀l,Pr l→¬ l∣n):n=1:=by
 apply cm;intro h1;obtain ⟨l,hl,hd⟩:=a5x n (by omega)
 exact h l hl hd
theorem Xm {l d:Nat} (h:Pr l):∀e,d∣l^(e+1)→d=l^(e+1)∨d∣l^e
 | 0,hd=>by
  rw [bv,Nat.pow_one] at hd ⊢;rcases h.2 d hd with h1 | h1
  ·right; rw [h1]; exact Nat.one_dvd _
  ·exact .inl h1
 | e+1,hd=>by
  by_cases hl:l∣d
  ·obtain ⟨c,rfl⟩:=hl
   rw [fo,fm (l^(e+1))] at hd;have hc:c∣l^(e+1):=Nat.dvd_of_mul_dvd_mul_left (by have:=h.1; omega) hd
   rcases Xm h e hc with h1 | h1
   ·left; rw [h1,fo l (e+1),fm]
   ·right; rw [fo l e,fm l c]; exact Nat.mul_dvd_mul_right h1 l
  ·right
   rw [fo] at hd;exact ((h.coprime hl).symm).dvd_of_dvd_mul_right hd
theorem a2j {l:Nat} (h:Pr l):∀n,1≤n→∃e r,n=l^e*r∧¬ l∣r:=by
 intro n
 induction n using Nat.strongRecOn with
 | ind n ih=>
  intro hn
  by_cases hd:l∣n
  ·obtain ⟨c,rfl⟩:=hd
   have h2:=h.1
   have hc:1≤c:=by
    rcases ia c with h0 | h0
    ·rw [h0,rp] at hn; omega
    ·exact h0
   have hlt:c<l*c:=by
    have:=fb c h2;omega
   obtain ⟨e,r,e1,e2⟩:=ih c hlt hc;refine ⟨e+1,r,?_,e2⟩
   conv=>lhs; rw [e1]
   rw [fo,fm (l^e) l,wg]
  ·exact ⟨0,n,by rw [mh,Nat.one_mul],hd⟩
section
variable {R:Type} [CR R]
theorem Wd {x:R} {n k:Nat} (h:pw x n=1):pw x (k%n)=pw x k:=by
 have e:pw x k=pw x (n*(k/n)+k%n):=by rw [Nat.div_add_mod]
 rw [e,v5,←qw,h,xq,one_mul]
theorem a9c {x:R} (a b:Nat) (ha:pw x a=1) (hb:pw x b=1):pw x (Nat.gcd a b)=1:=by
 revert ha hb
 refine Nat.gcd.induction (P:=fun a b=>pw x a=1→pw x b=1→pw x (Nat.gcd a b)=1) a b ?_ ?_
 ·intro n _ hb; rw [Nat.gcd_zero_left]; exact hb
 ·intro a b _ ih ha hb
  rw [Nat.gcd_rec];exact ih (by rw [Wd ha]; exact hb) ha
theorem yz {x:R} {n k:Nat} (h:pw x n=1) (hd:n∣k):pw x k=1:=by
 obtain ⟨c,rfl⟩:=hd;rw [←qw,h,xq]
def Ord (x:R) (n:Nat):Prop:=∀k,pw x k=1↔n∣k
theorem Ord.self {x:R} {n:Nat} (h:Ord x n):pw x n=1:=(h n).2 (Nat.dvd_refl n)
theorem Ord.unique {x:R} {n m:Nat} (h:Ord x n) (h':Ord x m):n=m:=Nat.dvd_antisymm ((h m).1 h'.self) ((h' n).1 h.self)
theorem a1a {x:R}:∀(N:Nat),1≤N→pw x N=1→∃n,1≤n∧Ord x n:=by
 intro N
 induction N using Nat.strongRecOn with
 | ind N ih=>
  intro hN h
  by_cases hs:∃k,1≤k∧k<N∧pw x k=1
  ·obtain ⟨k,h1,h2,h3⟩:=hs
   exact ih k h2 h1 h3
  ·refine ⟨N,hN,fun k=>⟨fun hk=>?_,fun hd=>yz h hd⟩⟩
   have hm:pw x (k%N)=1:=by rw [Wd h]; exact hk
   have hlt:=Nat.mod_lt k (show 0<N by omega)
   have h0:k%N=0:=by
    apply cm;intro hne;exact hs ⟨k%N,by omega,hlt,hm⟩
   exact Nat.dvd_of_mod_eq_zero h0
theorem Ord.mul {a b:R} {m n:Nat} (ha:Ord a m) (hb:Ord b n) (h:Nat.Coprime m n):Ord (a*b) (m*n):=fun k=>by
 constructor
 ·intro hk
  have h1:m∣k:=by
   have e:pw a (k*n)=1:=by
    have e1:pw (a*b) (k*n)=1:=by rw [←qw,hk,xq]
    rw [sb,yz hb.self (pj n k),mul_one] at e1;exact e1
   exact h.dvd_of_dvd_mul_right ((ha _).1 e)
  have h2:n∣k:=by
   have e:pw b (k*m)=1:=by
    have e1:pw (a*b) (k*m)=1:=by rw [←qw,hk,xq]
    rw [sb,yz ha.self (pj m k),one_mul] at e1;exact e1
   exact h.symm.dvd_of_dvd_mul_right ((hb _).1 e)
  exact h.mul_dvd_of_dvd_of_dvd h1 h2
 ·intro hd
  rw [sb,yz ha.self (jk (ol m n) hd),yz hb.self (jk (pj n m) hd),mul_one]
theorem aaz {y:R} {l e:Nat} (hl:Pr l) (h1:pw y (l^(e+1))=1) (h2:pw y (l^e)≠1):Ord y (l^(e+1)):=fun k=>by
 constructor
 ·intro hk
  have hg:=a9c k (l^(e+1)) hk h1;rcases Xm hl e (Nat.gcd_dvd_right k (l^(e+1))) with h3 | h3
  ·exact h3▸Nat.gcd_dvd_left k (l^(e+1))
  ·exact absurd (yz hg h3) h2
 ·intro hd
  exact yz h1 hd
theorem a8j {N:Nat} (hN:1≤N) (hall:∀x:R,x≠0→pw x N=1) (h10:(1:R)≠0) (hc:∀x y:R,x*y=0→x=0∨y=0) (hr:∀k,1≤k→k<N→∃x:R,x≠0∧pw x k≠1):∀n,1≤n→n∣N→∃g:R,g≠0∧Ord g n:=by
 have pwne:∀(x:R) (k:Nat),x≠0→pw x k≠0:=by
  intro x k hx
  induction k with
  | zero=>exact h10
  | succ k ih=>exact fun h=>(hc _ _ h).elim ih hx
 intro n
 induction n using Nat.strongRecOn with
 | ind n ih=>
  intro hn hd
  by_cases h1:n=1
  ·subst h1
   exact ⟨1,h10,fun k=>⟨fun _=>Nat.one_dvd k,fun _=>xq k⟩⟩
  ·obtain ⟨l,hl,hln⟩:=a5x n (by omega)
   obtain ⟨e,r,e1,e2⟩:=a2j hl n hn;have h2:=hl.1;cases e with
   | zero=>
    rw [mh,Nat.one_mul] at e1;exact absurd (e1▸hln) e2
   | succ e=>
    have hr1:1≤r:=by
     rcases ia r with h0 | h0
     ·rw [h0,rp] at e1; omega
     ·exact h0
    have hpos:0<l^e:=Nat.pow_pos (by omega)
    have hlt:r<n:=by
     have:2*r≤l^(e+1)*r:=fb r (by
      rw [fo];have:=fb l hpos;omega)
     omega
    obtain ⟨g,hg0,hg⟩:=ih r hlt hr1 (jk ⟨l^(e+1),by rw [fm]; exact e1⟩ hd)
    obtain ⟨c,hcN⟩:l^(e+1)∣N:=jk ⟨r,e1⟩ hd
    have hc1:1≤c:=by
     rcases ia c with h0 | h0
     ·rw [h0,rp] at hcN; omega
     ·exact h0
    have hlc:l^e*c<N:=by
     rw [hcN,fo,wg,fm l c,←wg];have h3:0<l^e*c:=Nat.mul_pos hpos hc1;have:=n6 (l^e*c) h2;omega
    obtain ⟨x,hx0,hx⟩:=hr (l^e*c) (Nat.mul_pos hpos hc1) hlc;have hy:Ord (pw x c) (l^(e+1)):=aaz hl (by rw [qw,fm,←hcN,hall x hx0]) (by rw [qw,fm]; exact hx)
    refine ⟨pw x c*g,fun h=>(hc _ _ h).elim (pwne x c hx0) hg0,?_⟩
    rw [e1];refine hy.mul hg ?_;have:=hl.coprime e2;exact Nat.Coprime.pow_left (e+1) this
end
structure OrdI (n q rest order:Nat) (fin:Bool):Prop where
 dv:n∣order
 pos:1≤order
 low:∀l,Pr l→l<q→¬ l*n∣order∧¬ l∣rest
 rel:∃c,order=rest*c∧(∀l,Pr l→q<l→¬ l∣c)∧(fin=false→Pr q→¬ q∣c)
 fin:fin=true→¬ q*n∣order
theorem OrdI.rest_pos {n q rest order:Nat} {f:Bool} (h:OrdI n q rest order f):1≤rest:=by
 obtain ⟨c,e,-⟩:=h.rel;have:=h.pos;rcases ia rest with h0 | h0
 ·rw [h0,iz] at e; omega
 ·exact h0
theorem OrdI.init {n N:Nat} (hN:1≤N) (h:n∣N):OrdI n 2 N N false where
 dv:=h
 pos:=hN
 low:=fun l hl h2=>by have:=hl.1; omega
 rel:=⟨1,(Nat.mul_one N).symm,fun l hl _ hd=>by have:=hl.1; have:=kz (by omega) hd; omega,fun _ hq hd=>by have:=hq.1; have:=kz (by omega) hd; omega⟩
 fin:=fun h=>by cases h
theorem OrdI.prime {n q rest order:Nat} {f:Bool} (h:OrdI n q rest order f) (h2:2≤q) (hd:q∣rest):Pr q:=by
 obtain ⟨l,hl,hlq⟩:=a5x q h2;rcases dt l q with h1 | h1
 ·exact absurd (jk hlq hd) (h.low l hl h1).2
 ·have:=kz (by omega) hlq
  obtain rfl:l=q:=by omega
  exact hl
theorem OrdI.no {n q r c':Nat} {f:Bool} (h:OrdI n q (q*r) (q*c') f) (h2:2≤q) (hd:¬ n∣c'):OrdI n q r (q*c') true where
 dv:=h.dv
 pos:=h.pos
 low:=fun l hl h1=>by
  obtain ⟨a,b⟩:=h.low l hl h1;exact ⟨a,fun e=>b (jk e (pj r q))⟩
 rel:=by
  have hq:=h.prime h2 (ol q r);obtain ⟨c,e,h3,_⟩:=h.rel;refine ⟨q*c,by rw [e,wg,Nat.mul_left_comm],fun l hl h4 hl2=>?_,fun hf=>by cases hf⟩
  rcases hl.dvd_mul hl2 with h5 | h5
  ·have:=hl.dvd_pr hq h5; omega
  ·exact h3 l hl h4 h5
 fin:=fun _ e=>hd (Nat.dvd_of_mul_dvd_mul_left (by omega) e)
theorem OrdI.next {n q rest order:Nat} {f:Bool} (h:OrdI n q rest order f) (h2:2≤q) (hd:¬ q∣rest):OrdI n (q+1) rest order false where
 dv:=h.dv
 pos:=h.pos
 low:=fun l hl h1=>by
  rcases dt l q with h3 | h3
  ·exact h.low l hl h3
  ·obtain rfl:l=q:=by omega
   refine ⟨fun e=>?_,hd⟩
   cases f with
   | true=>exact h.fin rfl e
   | false=>
    obtain ⟨c,e1,_,h5⟩:=h.rel;have:l∣rest*c:=e1▸jk (ol l n) e;rcases hl.dvd_mul this with h6 | h6
    ·exact hd h6
    ·exact h5 rfl hl h6
 rel:=by
  obtain ⟨c,e1,h4,_⟩:=h.rel;exact ⟨c,e1,fun l hl h5=>h4 l hl (by omega),fun _ hq=>h4 _ hq (by omega)⟩
 fin:=fun hf=>by cases hf
theorem OrdI.done {n q rest order:Nat} (h:OrdI n q rest order false) (hq:rest<q):order=n:=by
 have hr:rest=1:=a4i h.rest_pos fun l hl hd=>by
  have:=kz h.rest_pos hd;exact (h.low l hl (by omega)).2 hd
 obtain ⟨c,e1,h4,h5⟩:=h.rel;rw [hr,Nat.one_mul] at e1;obtain ⟨k,hk⟩:=h.dv
 have hk1:k=1:=a4i (by
  have:=h.pos;rcases ia k with h0 | h0
  ·rw [h0,rp] at hk; omega
  ·exact h0) fun l hl hd=>by
  have hln:l*n∣order:=by
   rw [hk,fm l n]; exact Nat.mul_dvd_mul_left n hd
  rcases dt l q with h6 | h6
  ·exact (h.low l hl h6).1 hln
  ·have hlc:l∣c:=e1▸jk (ol l n) hln
   rcases dt q l with h7 | h7
   ·exact h4 l hl h7 hlc
   ·obtain rfl:l=q:=by omega
    exact h5 rfl hl hlc
 rw [hk,hk1,Nat.mul_one]
end Gq

namespace Pe
open Gq
section
variable {p:Int}
theorem a3m [IsP p] {m:Fp p} (hi:Irr m) {d:Nat} (hq:m.len=d+1) (hd:p^d<1000000000000) {k:Nat} (h1:1≤k) (hk:k<p.toNat^d-1):∃x:Quo m,x≠0∧pw x k≠1:=by
 apply cm;intro hno
 have hall:∀x:Quo m,x≠0→pw x k=1:=fun x hx=>by
  apply cm;intro h;exact hno ⟨x,hx,h⟩
 have hone:(1:Quo m)≠0:=(Qm hi).one_ne
 let f:Nat→Quo m:=fun i=>(if i=k then 1 else 0)+(-1)*(if i=0 then 1 else 0)
 have hf:f k≠0:=by
  show (if k=k then (1:Quo m) else 0)+(-1)*(if k=0 then 1 else 0)≠0
  rw [if_pos rfl,if_neg (by omega),Gq.mul_zero,Gq.add_zero]
  exact hone
 have:=De (K:=Quo m) (fun x y=>hi.quo_zero) k f (yi m d) hf (xr hq hd) fun y hy=>by
  have hy0:=(C4 hq hd y).1 hy
  have e:ff (fun i=>f i*pw y i) (k+1)=ff (fun i=>(if i=k then 1 else 0)*pw y i) (k+1)+(-1)*ff (fun i=>(if i=0 then 1 else 0)*pw y i) (k+1):=by
   rw [←wn,←xc]
   congr 1
   funext i
   show ((if i=k then (1:Quo m) else 0)+(-1)*(if i=0 then 1 else 0))*pw y i=_
   exact bq [(if i=k then (1:Quo m) else 0),(if i=0 then (1:Quo m) else 0),pw y i] rfl
  rw [e,uk,uk,if_pos (by omega),if_pos (by omega),hall y hy0,show pw y 0=1 from rfl]
  exact bq ([]:List (Quo m)) rfl
 unfold yi at this;rw [ba,jw] at this;omega
theorem a5s [IsP p] {m:Fp p} (hi:Irr m) {d:Nat} (hq:m.len=d+1) (hd:p^d<1000000000000) {n:Nat} (h1:1≤n) (hn:n∣p.toNat^d-1):∃g:Quo m,g≠0∧Ord g n:=by
 have hN:1≤p.toNat^d-1:=by
  have hl:=hi.len;have h2:2≤p.toNat:=by have:=IsP.ge (p:=p); omega
  have h3:p.toNat^1≤p.toNat^d:=mu (by omega) (by omega)
  rw [Nat.pow_one] at h3;omega
 exact a8j hN (fun x hx=>U5 hi hq hd hx) (Qm hi).one_ne (fun x y=>hi.quo_zero) (fun k h2 h3=>a3m hi hq hd h2 h3) n h1 hn
def IsPrim (m:Fp p) (k:Nat):Prop:=1≤k∧(k:Int)<p^(m.len-1)∧Ord (Quo.mk m (f7 p k)) (p.toNat^(m.len-1)-1)∧∀j:Nat,1≤j→j<k→¬ Ord (Quo.mk m (f7 p j)) (p.toNat^(m.len-1)-1)
theorem a5e {P:Nat→Prop}:∀(n:Nat),P n→∃k,k≤n∧P k∧∀j,j<k→¬ P j:=by
 intro n
 induction n using Nat.strongRecOn with
 | ind n ih=>
  intro h
  by_cases hs:∃j,j<n∧P j
  ·obtain ⟨j,h1,h2⟩:=hs
   obtain ⟨k,h3,h4,h5⟩:=ih j h1 h2;exact ⟨k,by omega,h4,h5⟩
  ·exact ⟨n,bj n,h,fun j hj hp=>hs ⟨j,hj,hp⟩⟩
theorem Es [IsP p] {m:Fp p} (hi:Irr m) (hl:m.len≤13):∃k,IsPrim m k:=by
 have h2:=hi.len
 have hd:p^(m.len-1)<1000000000000:=by
  have h3:=gr (p:=p) (by have:=IsP.pos (p:=p); omega) (show m.len-1≤12 by omega)
  have h4:p^12≤13841287201:=by rcases IsP.h (p:=p) with h | h | h | h <;> subst h <;> decide
  omega
 have hN:1≤p.toNat^(m.len-1)-1:=by
  have h2':2≤p.toNat:=by have:=IsP.ge (p:=p); omega
  have h3:p.toNat^1≤p.toNat^(m.len-1):=mu (by omega) (by omega)
  rw [Nat.pow_one] at h3;omega
 obtain ⟨g,hg0,hg⟩:=a5s hi (d:=m.len-1) (by omega) hd hN (Nat.dvd_refl _)
 obtain ⟨a,rfl⟩:=Quo.ex g;have hm0:m≠0:=hi.ne;have hal:=Pol.len_mod a hm0;have hin:=zf (a%m);have hle:p^(a%m).len≤p^(m.len-1):=gr (p:=p) (by have:=IsP.pos (p:=p); omega) (by omega)
 have e:=Bz (a:=a%m) (by omega)
 have hn0:fh (a%m)≠0:=fun h0=>by
  rw [h0,Az] at e;exact hg0 (by rw [←Pol.mk_mod a m,←e]; rfl)
 obtain ⟨k,h3,⟨h4,h5⟩,h6⟩:=a5e (P:=fun k:Nat=>1≤k∧Ord (Quo.mk m (f7 p k)) (p.toNat^(m.len-1)-1)) (fh (a%m)).toNat ⟨by omega,by
  rw [show (((fh (a%m)).toNat:Nat):Int)=fh (a%m) by omega,e,Pol.mk_mod]
  exact hg⟩
 exact ⟨k,h4,by omega,h5,fun j h7 h8 h9=>h6 j h8 ⟨h7,h9⟩⟩
theorem IsPrim.unique {m:Fp p} {j k:Nat} (hj:IsPrim m j) (hk:IsPrim m k):j=k:=by
 rcases dt j k with h | h
 ·exact absurd hj.2.2.1 (hk.2.2.2 j hj.1 h)
 ·rcases dt k j with h2 | h2
  ·exact absurd hk.2.2.1 (hj.2.2.2 k hk.1 h2)
  ·omega
noncomputable def Gr (p:Int):Int→k9 p→Int
 | out,[]=>out
 | out,x::L=>Gr p (out*(p^(x.1.len-1)-1)*(p^(x.1.len-1))^(x.2-1)) L
noncomputable def eul [IsP p] (a:Fp p):Int:=Gr p 1 (fac a)
noncomputable def dgF:k9 p→Nat
 | []=>0
 | x::L=>x.2*(x.1.len-1)+dgF L
theorem W3 [IsP p] {q:Fp p} (h:Monic q):∀k,(pw q k).len=k*(q.len-1)+1
 | 0=>by rw [iz]; exact Pol.len_one
 | k+1=>by
  have h1:=Pol.len_mul (Monic.pw h k).2 h.2;have h2:=W3 h k;have h3:=Pol.len_pos h.2;show (pw q k*q).len=_;rw [ez]; omega
theorem H3 [IsP p]:∀{L:k9 p},FacOk L→(ki L).len=dgF L+1
 | [],_=>Pol.len_one
 | x::L,h=>by
  have hm:=(h.irr x (by simp)).2.1
  have ht:FacOk L:=⟨fun y hy=>h.irr y (by simp [hy]),h.dis.tail⟩
  have h1:=H3 ht;have h2:=Pol.len_mul (Monic.pw hm x.2).2 (vd ht).2;rw [W3 hm] at h2;rw [qh,dgF]; omega
theorem Ic (d k:Nat):(p^d)^k=p^(d*k):=by rw [Int.pow_mul]
theorem Qh [IsP p] {x:Fp p×Nat} (h2:1≤x.2) {out:Int} {e:Nat} (h0:0≤out) (hb:out≤p^e) (_hl:2≤x.1.len) :
 0≤out*(p^(x.1.len-1)-1)*(p^(x.1.len-1))^(x.2-1)∧out*(p^(x.1.len-1)-1)*(p^(x.1.len-1))^(x.2-1)≤p^(e+x.2*(x.1.len-1))∧0≤out*(p^(x.1.len-1)-1)∧out*(p^(x.1.len-1)-1)≤p^(e+(x.1.len-1)):=by
 have hp:=IsP.pos (p:=p);have hn1:1≤p^(x.1.len-1):=qy hp;have he1:1≤p^e:=qy hp;have hk1:0≤(p^(x.1.len-1))^(x.2-1):=Int.le_of_lt (qy (by omega))
 have a0:0≤out*(p^(x.1.len-1)-1):=ep h0 (by omega)
 have a1:out*(p^(x.1.len-1)-1)≤p^e*p^(x.1.len-1):=Int.mul_le_mul hb (by omega) (by omega) (by omega)
 refine ⟨ep a0 hk1,?_,a0,by rw [Int.pow_add]; exact a1⟩
 have a2:out*(p^(x.1.len-1)-1)*(p^(x.1.len-1))^(x.2-1)≤p^e*p^(x.1.len-1)*(p^(x.1.len-1))^(x.2-1):=sq a1 hk1;rw [Ic,←Int.pow_add,←Int.pow_add] at a2;rw [Ic]
 have e3:e+(x.1.len-1)+(x.1.len-1)*(x.2-1)=e+x.2*(x.1.len-1):=by
  obtain ⟨k,hk⟩:∃k,x.2=k+1:=⟨x.2-1,by omega⟩
  rw [hk,Nat.add_sub_cancel,ez,fm k]; omega
 rwa [e3] at a2
end
end Pe
namespace Pe
open Go Gq
variable {T:Nat→Option Fn} {A:ap}
section
variable {p:Int} [IsP p]
theorem G8 {a:Fp p}:((row a).length=1∧cf (row a) 0=1)↔a=1:=by
 rw [bf];constructor
 ·rintro ⟨h1,h2⟩
  rw [Pol.eq_C (Pol.lt_iff.2 (Nat.le_of_eq h1))]
  have h3:cf (row a) 0=rep (a.c 0):=by
   rw [fp (by rw [bf]; omega)]
   unfold row;simp
  rw [h3] at h2;rw [(t6 _).1 h2,Pol.C_one]
 ·rintro rfl
  refine ⟨Pol.len_one,?_⟩;rw [fp (by rw [bf,Pol.len_one]; omega)]
  unfold row;simp only [e9,List.getElem_range];exact qb
end
def Dr (O:ap):Prop:=∀(p:Int) [IsP p] (a:Fp p),a.len<1000000→ask O Fq [(D.sl .leaf (ah .i64 (row a)))]=some (D.bool (decide (a.len=1∧cf (row a) 0=1)))
theorem a6p (hT:T Fq=some Zq):Dr (den T A):=by
 intro p ip a ha;have hL:(row a).length=a.len:=bf a;refine cd hT rfl ?_;generalize row a=Ra at *
 by_cases h1:a.len=1
 ·have h0:0<Ra.length:=by omega
  have hc:∀h:0<Ra.length,Ra[0]'h=cf Ra 0:=fun h=>(fp h).symm
  have hL1:Ra.length=1:=by omega
  simp -implicitDefEqProofs [Zq,Zq_B,hL1,h1,hc]
 ·have hL1:¬ Ra.length=1:=by omega
  have hL2:¬ (Ra.length:Int)=1:=by omega
  simp -implicitDefEqProofs [Zq,Zq_B,hL2,h1]
section
variable {p:Int} [IsP p]
theorem G3 {m a:Fp p} (h2:2≤m.len) (k:Nat):pw a k%m=1↔pw (Quo.mk m a) k=1:=by
 have h0:m≠0:=fun h=>by rw [h,Pol.len_zero] at h2; omega
 have e1:(1:Fp p)%m=1:=Pol.mod_small (by rw [Pol.len_one]; omega)
 rw [←Quo.mk_pow,←Quo.mk_one,←Pol.mod_eq_iff h0,e1]
theorem Xc {O:ap} (h1:Dr O) (hti:rh O) (hre:uo O) {m a:Fp p} (hm2:2≤m.len) (hml:m.len≤64) (ha:a.len<m.len) {n:Nat} (hn:n≤1000000000) (ho:Ord (Quo.mk m a) n):∀(r k:Nat),k+r=n→1≤k →
 dn O 0 (.loop Z1e_L0) ⟨[(0,(.d (.int .i64 p))),(1,(.d (.sl .leaf (ah .i64 (row a))))),(2,(.d (.sl .leaf (ah .i64 (row m))))),(7,(.d (.int .i64 k))),(8,(.d (.sl .leaf (ah .i64 (row (pw a k%m))))))],[]⟩ =
  some (.exit 0,⟨[(0,(.d (.int .i64 p))),(1,(.d (.sl .leaf (ah .i64 (row a))))),(2,(.d (.sl .leaf (ah .i64 (row m))))),(7,(.d (.int .i64 n))),(8,(.d (.sl .leaf (ah .i64 (row (pw a n%m)))))),(16,(.d (.bool false)))],[]⟩)
 | 0,k,hk,h1k=>by
  obtain rfl:k=n:=by omega
  have h0:m≠0:=fun h=>by rw [h,Pol.len_zero] at hm2; omega
  have hl:=Pol.len_mod (pw a k) h0;have e1:=h1 p (pw a k%m) (by omega)
  have hx:pw a k%m=1:=(G3 hm2 k).2 ho.self;rw [←bf (pw a k%m),decide_eq_true (G8.2 hx)] at e1;refine cg ?_;generalize row (pw a k%m)=Rx at *;generalize row a=Ra at *;generalize row m=Rm at *;simp -implicitDefEqProofs [Z1e_L0,az,e1]
 | r+1,k,hk,h1k=>by
  have h0:m≠0:=fun h=>by rw [h,Pol.len_zero] at hm2; omega
  have hl:=Pol.len_mod (pw a k) h0;have e1:=h1 p (pw a k%m) (by omega)
  have hx:¬ pw a k%m=1:=fun h=>by
   have:=(ho k).1 ((G3 hm2 k).1 h);have:=kz (by omega) this
   omega
  rw [←bf (pw a k%m),decide_eq_false (fun h=>hx (G8.1 h))] at e1
  have e2:=hti p (pw a k%m) a (by omega) (by omega)
  have hlm:(pw a k%m*a).len<5000:=by
   have:=Pol.lt_mul (pw a k%m).lt_len a.lt_len;have:=Pol.len_le this;omega
  have e3:=hre p (pw a k%m*a) m h0 hlm (by omega)
  have e4:pw a k%m*a%m=pw a (k+1)%m:=by rw [Pol.mul_mod_left _ _ h0]; rfl
  rw [e4] at e3;have w4:IntKind.i64.wrap ((k:Int)+1)=((k+1:Nat):Int):=(w64 (x:=(k:Int)+1) (by omega)).trans (by omega)
  have ih:=Xc h1 hti hre hm2 hml ha hn ho r (k+1) (by omega) (by omega)
  refine c8 ?_ ih;generalize row (pw a (k+1)%m)=Ry at *;generalize row (pw a k%m*a)=Rz at *;generalize row (pw a k%m)=Rx at *;generalize row a=Ra at *;generalize row m=Rm at *;simp -implicitDefEqProofs [Z1e_L0,az,e1,e2,e3,w4]
end
def Dc (O:ap):Prop:=∀(p:Int) [IsP p] (a m:Fp p) (n:Nat),2≤m.len→m.len≤64→a.len<5000→1≤n→n≤1000000000→Ord (Quo.mk m a) n→ask O F1e [(D.int .i64 p),(D.sl .leaf (ah .i64 (row a))),(D.sl .leaf (ah .i64 (row m)))]=some (D.int .i64 n)
theorem a8f (hT:T F1e=some Z1e) (h1:Dr (den T A)) (hti:rh (den T A)) (hre:uo (den T A)):Dc (den T A):=by
 intro p ip a m n hm2 hml ha hn1 hn ho;have h0:m≠0:=fun h=>by rw [h,Pol.len_zero] at hm2; omega
 have hl:=Pol.len_mod a h0;have e1:=hre p a m h0 ha (by omega)
 have ho':Ord (Quo.mk m (a%m)) n:=by rw [Pol.mk_mod]; exact ho
 have e2:=Xc (O:=den T A) h1 hti hre hm2 hml hl hn ho' (n-1) 1 (by omega) (bj 1)
 have e11:pw (a%m) 1%m=a%m:=by rw [rc]; exact Pol.mod_small hl
 have e01:((1:Nat):Int)=1:=rfl;rw [e11,e01] at e2;refine cd hT rfl ?_;generalize row (pw (a%m) n%m)=Rn at *;generalize row (a%m)=Rx at *;generalize row a=Ra at *;generalize row m=Rm at *;simp -implicitDefEqProofs [Z1e,Z1e_B,e1,e2]
section
variable {p:Int} [IsP p]
theorem J4 (d:Nat):((p.toNat^d:Nat):Int)=p^d:=m6 d
theorem abj {m:Fp p} (hi:Irr m) (hl:m.len≤6) {k:Nat} (h1:1≤k) (hk:(k:Int)<p^(m.len-1)):Quo.mk m (f7 p (k:Int))≠0:=fun h=>by
 have h2:=hi.len;have h3:=gr (p:=p) (by have:=IsP.pos (p:=p); omega) (show m.len-1≤5 by omega)
 have h4:p^5≤16807:=by rcases IsP.h (p:=p) with h | h | h | h <;> subst h <;> decide
 have hlen:(f7 p (k:Int)).len<m.len:=by
  have:=Pol.len_le (tt (p:=p) (n:=(k:Int)) ⟨by omega,by omega⟩ hk)
  omega
 have e:=(Pol.mod_eq_iff hi.ne).2 (show Quo.mk m (f7 p (k:Int))=Quo.mk m 0 from h);rw [Pol.mod_small hlen,Pol.zero_mod hi.ne] at e;have e2:=sf (p:=p) (n:=(k:Int)) ⟨by omega,by omega⟩
 rw [e,←Az,sf ⟨by omega,by omega⟩] at e2
 omega
theorem Sc {m:Fp p} (hi:Irr m) (hl:m.len≤6) {k:Nat} (hk:IsPrim m k):(f7 p (k:Int)).len≤5:=by
 have h2:=hi.len;have h3:=gr (p:=p) (by have:=IsP.pos (p:=p); omega) (show m.len-1≤5 by omega)
 have h4:p^5≤16807:=by rcases IsP.h (p:=p) with h | h | h | h <;> subst h <;> decide
 have hkb:=hk.2.1;have:=Pol.len_le (tt (p:=p) (n:=(k:Int)) ⟨by omega,by omega⟩ hkb)
 omega
theorem M8 {m:Fp p} (hi:Irr m) (hl:m.len≤6) {k:Nat} (h1:1≤k) (hk:(k:Int)<p^(m.len-1)):∃n,1≤n∧n≤20000∧Ord (Quo.mk m (f7 p k)) n∧(n=p.toNat^(m.len-1)-1↔Ord (Quo.mk m (f7 p k)) (p.toNat^(m.len-1)-1)):=by
 have h2:=hi.len;have h3:=gr (p:=p) (by have:=IsP.pos (p:=p); omega) (show m.len-1≤5 by omega)
 have h4:p^5≤16807:=by rcases IsP.h (p:=p) with h | h | h | h <;> subst h <;> decide
 have hnn:=J4 (p:=p) (m.len-1);have hx:Quo.mk m (f7 p (k:Int))≠0:=abj hi hl h1 hk;have hf:=U5 hi (d:=m.len-1) (by omega) (by omega) hx
 obtain ⟨n,hn1,hn⟩:=a1a (p.toNat^(m.len-1)-1) (by omega) hf
 have hdv:=(hn _).1 hf;have hle:=kz (by omega) hdv
 refine ⟨n,hn1,by omega,hn,fun e=>e▸hn,fun h=>hn.unique h⟩
theorem a4n {O:ap} (hnu:kf O) (hor:Dc O) {m:Fp p} (hi:Irr m) (hl:m.len≤6) {k:Nat} (hk:IsPrim m k):∀(r n:Nat),n+r=k→1≤n →
 dn O 0 (.loop Z1g_L0) ⟨[(0,(.d (.int .i64 p))),(1,(.d (.sl .leaf (ah .i64 (row m))))),(5,(.d (.int .i64 (p^(m.len-1)-1)))),(6,(.d (.int .i64 n)))],[]⟩ =
  some (.ret,⟨[(4,(.d (.sl .leaf (ah .i64 (row (f7 p k))))))],[]⟩)
 | 0,n,hn,h1=>by
  obtain rfl:n=k:=by omega
  obtain ⟨q1,q2,q3,q4⟩:=hk;have h2:=hi.len;obtain ⟨o,o1,o2,o3,o4⟩:=M8 hi hl q1 q2
  have e1:=hnu p n (by omega) (by
   have h3:=gr (p:=p) (by have:=IsP.pos (p:=p); omega) (show m.len-1≤5 by omega)
   have h4:p^5≤16807:=by rcases IsP.h (p:=p) with h | h | h | h <;> subst h <;> decide
   omega)
  have hnl:=Qf (p:=p) n;have e2:=hor p (f7 p n) m o h2 (by omega) (by omega) o1 (by omega) o3
  have hoN:=o4.2 q3;have hnn:=J4 (p:=p) (m.len-1);have hpp:=je (p:=p) (m.len-1);have heq:(o:Int)=p^(m.len-1)-1:=by omega
  refine nj ?_;generalize row (f7 p (n:Int))=Rn at *;generalize p^(m.len-1)-1=N at *;generalize row m=Rm at *;simp -implicitDefEqProofs [Z1g_L0,az,e1,e2,heq]
 | r+1,n,hn,h1=>by
  have h2:=hi.len;obtain ⟨o,o1,o2,o3,o4⟩:=M8 hi hl h1 (by have:=hk.2.1; omega)
  have hkb:(k:Int)<20000:=by
   have:=hk.2.1;have h3:=gr (p:=p) (by have:=IsP.pos (p:=p); omega) (show m.len-1≤5 by omega)
   have h4:p^5≤16807:=by rcases IsP.h (p:=p) with h | h | h | h <;> subst h <;> decide
   omega
  have e1:=hnu p n (by omega) (by omega)
  have hnl:=Qf (p:=p) n;have e2:=hor p (f7 p n) m o h2 (by omega) (by omega) o1 (by omega) o3
  have hne:=mt o4.1 (hk.2.2.2 n h1 (by omega))
  have hnn:=J4 (p:=p) (m.len-1);have hpp:=je (p:=p) (m.len-1);have heq:¬ (o:Int)=p^(m.len-1)-1:=by omega
  have w4:IntKind.i64.wrap ((n:Int)+1)=((n+1:Nat):Int):=(w64 (x:=(n:Int)+1) (by omega)).trans (by omega)
  refine c8 ?_ (a4n hnu hor hi hl hk r (n+1) (by omega) (by omega))
  generalize row (f7 p (n:Int))=Rn at *;generalize p^(m.len-1)-1=N at *;generalize row m=Rm at *;simp -implicitDefEqProofs [Z1g_L0,az,e1,e2,heq,w4]
end
def ze (O:ap):Prop:=∀(p:Int) [IsP p] (m:Fp p) (k:Nat),Irr m→m.len≤6→IsPrim m k→ask O F1g [(D.int .i64 p),(D.sl .leaf (ah .i64 (row m)))]=some (D.sl .leaf (ah .i64 (row (f7 p k))))
theorem Sq (hT:T F1g=some Z1g) (hdg:me (den T A)) (hno:ti (den T A)) (hnu:kf (den T A)) (hor:Dc (den T A)):ze (den T A):=by
 intro p ip m k hi hl hk;have h2:=hi.len;have h3:=gr (p:=p) (by have:=IsP.pos (p:=p); omega) (show m.len-1≤5 by omega)
 have h4:p^5≤16807:=by rcases IsP.h (p:=p) with h | h | h | h <;> subst h <;> decide
 have h5:=je (p:=p) (m.len-1);have e1:=hdg (row m) (by rw [bf]; omega)
 rw [bf,show (m.len:Int)-1=((m.len-1:Nat):Int) by omega] at e1
 have e2:=hno p (m.len-1) 1152921504606846976 (by omega) (by omega)
 rw [ud (m.len-1) 1 (by omega) (by omega),fc] at e2
 have w1:IntKind.i64.wrap (p^(m.len-1)-1)=p^(m.len-1)-1:=w64 (by omega)
 have e3:=a4n (O:=den T A) hnu hor hi hl hk (k-1) 1 (by have:=hk.1; omega) (bj 1)
 have e01:((1:Nat):Int)=1:=rfl;rw [e01] at e3;refine cd hT rfl ?_;generalize row (f7 p (k:Int))=Rk at *;generalize p^(m.len-1)=N at *;generalize row m=Rm at *;generalize m.len-1=d at *;simp -implicitDefEqProofs [Z1g,Z1g_B,e1,e2,e3,w1]
def a92 (p:Int) (l:List Int):Prop:=∃(_:IsP p) (m:Fp p),l=pad (row m)∧Monic m∧2≤m.len∧m.len≤6
theorem Mk {p:Int} [IsP p] {m:Fp p} (hm:m.len≤64):a92 p (pad (row m))↔Monic m∧2≤m.len∧m.len≤6:=by
 constructor
 ·rintro ⟨_,a,e,h1,h2,h3⟩
  obtain rfl:=(z5 hm (by omega)).1 e
  exact ⟨h1,h2,h3⟩
 ·rintro ⟨h1,h2,h3⟩; exact ⟨_,m,rfl,h1,h2,h3⟩
open Classical in
noncomputable def pu (p:Int) (l:List Int) (ls:List (List Int)):Int:=if kv p (ls++[l])≠0 then 1 else if a92 p l then 0 else 2
open Classical in
def vj (O:ap):Prop:=∀(p:Int) [IsP p] (m:Fp p),m.len≤64→ask O Fo [(D.arr 64 .leaf (ah .u8 (pad (row m))))]=some (D.bool (decide (m.ld=1∧2≤m.len∧m.len≤6)))
open Classical in
theorem Sr (hT:T Fo=some Zo) (hro:qa (den T A)) (hld:my (den T A)) (hdg:me (den T A)) (hwi:Dl (den T A)):vj (den T A):=by
 intro p ip a hal;have e2:=hro p a hal;have e3:=hld (row a) (by rw [bf]; omega)
 rw [vw] at e3;have e4:=hdg (row a) (by rw [bf]; omega)
 rw [bf] at e4;have e5:=hwi ((a.len:Int)-1) 1 5;have h1:=t6 a.ld;refine cd hT rfl ?_
 by_cases h0:a.ld=1
 ·have h0':=h1.2 h0
  have h3:decide ((1:Int)≤(a.len:Int)-1∧(a.len:Int)-1≤5)=decide (a.ld=1∧2≤a.len∧a.len≤6):=decide_eq_decide.2 ⟨fun h=>⟨h0,by omega,by omega⟩,fun h=>by omega⟩
  rw [h3] at e5;rw [h0'] at e3;generalize decide (a.ld=1∧2≤a.len∧a.len≤6)=b at *;generalize row a=Ra at *;generalize (a.len:Int)-1=n at *;simp -implicitDefEqProofs [Zo,Zo_B,e2,e3,e4,e5]
 ·have h0':=mt h1.1 h0
  rw [decide_eq_false (fun h:a.ld=1∧2≤a.len∧a.len≤6=>h0 h.1)]
  generalize rep a.ld=x at *;generalize row a=Ra at *;simp -implicitDefEqProofs [Zo,Zo_B,e2,e3,h0']
theorem Ct {p:Int} {l:List Int} {ls:List (List Int)} (h:kv p (ls++[l])≠0):pu p l ls=1:=by unfold pu; rw [if_pos h]
theorem yy (p:Int) (ls:List (List Int)):kv p ls=0∨kv p ls=1:=by
 unfold kv; split
 ·exact .inl rfl
 ·exact .inr rfl
theorem yb {p:Int} {l:List Int} {ls:List (List Int)} (h:kv p (ls++[l])=0):kv p ls=0∧kv p [l]=0:=by
 unfold kv at h
 split at h
 ·rename_i g
  have g2:=g.2;rw [List.all_append,au] at g2;exact ⟨by unfold kv; rw [if_pos ⟨g.1,g2.1⟩],by unfold kv; rw [if_pos ⟨g.1,g2.2⟩]⟩
 ·cases h
open Classical in
theorem tz {p:Int} [IsP p] {m:Fp p} {ls:List (List Int)} (hm:m.len≤64) (h:kv p (ls++[pad (row m)])=0):pu p (pad (row m)) ls=if Monic m∧2≤m.len∧m.len≤6 then 0 else 2:=by
 unfold pu;rw [if_neg (by simpa using h)]
 by_cases h2:Monic m∧2≤m.len∧m.len≤6
 ·rw [if_pos h2,if_pos ((Mk hm).2 h2)]
 ·rw [if_neg h2,if_neg fun g=>h2 ((Mk hm).1 g)]
def xo (O:ap):Prop:=∀(p:Int) (l:List Int),kh l→l.length=64→O Fv [(.d (.int .i64 p)),(.d (.arr 64 .leaf (ah .u8 l))),.d (.nils (.arr 64 .leaf))] []=some ((.d (.int .i64 (pu p l []))),[],[])
def B9 (O:ap):Prop:=∀(p:Int) (l:List Int) (ls:List (List Int)),kh l→l.length=64→Ve ls→1≤ls.length→ls.length<1000→O Fv [(.d (.int .i64 p)),(.d (.arr 64 .leaf (ah .u8 l))),.sl 0 [] 0 ls.length (some ls.length)] [.sl false (.arr 64 .leaf) (ls.map kl)]=some ((.d (.int .i64 (pu p l ls))),[.sl false (.arr 64 .leaf) (ls.map kl)],[])
theorem qp {p:Int} {l:List Int} (hb:kh l) (hl:l.length=64) (h:kv p [l]=0):∃(_:IsP p) (a:Fp p),a.len≤64∧l=pad (row a):=by
 rcases aiq p hb hl with ⟨h1,h2⟩ | ⟨ip,a,hal,e⟩
 ·rw [h1] at h; cases h
 ·exact ⟨ip,a,hal,e⟩
open Classical in
theorem Vk (hT:T Fv=some Zv) (hpc:ni (den T A)) (him:vj (den T A)):xo (den T A):=by
 intro p l hb hl;have e1:=hpc p [l] (by intro x hx; simp at hx; subst hx; exact ⟨hl,hb⟩) (by simp)
 rw [show List.map kl [l]=[(D.arr 64 .leaf (ah .u8 l))] from rfl] at e1;rcases yy p [l] with hc | hc
 ·obtain ⟨ip,a,hal,rfl⟩:=qp hb hl hc
  rw [tz hal (by simpa using hc)]
  rw [hc] at e1;have e2:=him p a hal;refine na hT rfl ?_
  by_cases h:Monic a∧2≤a.len∧a.len≤6
  ·rw [decide_eq_true ⟨h.1.1,h.2⟩] at e2
   rw [if_pos h];generalize pad (row a)=Pa at *;simp -implicitDefEqProofs [Zv,Zv_B,az,e1,e2,List.replicate]
  ·rw [decide_eq_false (fun g=>h ⟨(Ba a).2 g.1,g.2⟩)] at e2
   rw [if_neg h];generalize pad (row a)=Pa at *;simp -implicitDefEqProofs [Zv,Zv_B,az,e1,e2,List.replicate]
 ·rw [Ct (by simpa using fun h=>by rw [hc] at h; cases h)]
  rw [hc] at e1;refine na hT rfl ?_;simp -implicitDefEqProofs [Zv,Zv_B,az,e1,List.replicate]
open Classical in
theorem Yf (hT:T Fv=some Zv) (hpc:ni (den T A)) (him:vj (den T A)):B9 (den T A):=by
 intro p l ls hb hl ha h1 h2
 have e1:=hpc p (ls++[l]) (by
  intro x hx;rcases bi.1 hx with hx | hx
  ·exact ha x hx
  ·simp at hx; subst hx; exact ⟨hl,hb⟩) (by rw [bo,jh]; omega)
 rw [da,show List.map kl [l]=[(D.arr 64 .leaf (ah .u8 l))] from rfl] at e1;have hL:(ls.map kl).length=ls.length:=ba ..;have ht:(ls.map kl).take ls.length=ls.map kl:=bb (by omega)
 have h64:(ls.length+1)*64≤1099511627776:=by omega
 have hap:(ls.map kl++[(D.arr 64 .leaf (ah .u8 l))]).take (ls.length+1)=ls.map kl++[(D.arr 64 .leaf (ah .u8 l))]:=bb (by rw [bo,hL]; exact bj _)
 rcases yy p (ls++[l]) with hc | hc
 ·obtain ⟨ip,a,hal,rfl⟩:=qp hb hl (yb hc).2
  rw [tz hal hc];rw [hc] at e1;have e2:=him p a hal;refine na hT rfl ?_
  by_cases h:Monic a∧2≤a.len∧a.len≤6
  ·rw [decide_eq_true ⟨h.1.1,h.2⟩] at e2
   rw [if_pos h];generalize pad (row a)=Pa at *;generalize ls.map kl=LD at *;generalize ls.length=n at *;simp -implicitDefEqProofs [Zv,Zv_B,az,e1,e2,hL,ht,hap,h64,List.replicate]
  ·rw [decide_eq_false (fun g=>h ⟨(Ba a).2 g.1,g.2⟩)] at e2
   rw [if_neg h];generalize pad (row a)=Pa at *;generalize ls.map kl=LD at *;generalize ls.length=n at *;simp -implicitDefEqProofs [Zv,Zv_B,az,e1,e2,hL,ht,hap,h64,List.replicate]
 ·rw [Ct (fun h=>by rw [hc] at h; cases h)]
  rw [hc] at e1;refine na hT rfl ?_;generalize ls.map kl=LD at *;generalize ls.length=n at *;simp -implicitDefEqProofs [Zv,Zv_B,az,e1,hL,ht,hap,h64,List.replicate]
def Cf (O:ap):Prop:=∀(p:Int) (l:List Int) (ls:List (List Int)),kh l→l.length=64→Ve ls→ls.length<1000→ask O F3m [(D.int .i64 p),(D.arr 64 .leaf (ah .u8 l)),.sl (.arr 64 .leaf) (ls.map kl)]=some (D.int .i64 (pu p l ls))
theorem Yk {p:Int} {l:List Int} {ls:List (List Int)} (h1:kv p ls=0) (h2:kv p [l]=0):kv p (ls++[l])=0:=by
 unfold kv at h1 h2
 split at h1
 ·split at h2
  ·rename_i g1 g2
   unfold kv;rw [if_pos ⟨g1.1,by rw [List.all_append,au]; exact ⟨g1.2,g2.2⟩⟩]
  ·cases h2
 ·cases h1
open Classical in
theorem U1 (hT:T F3m=some Z3m) (hc:Mv (den T A)) (hmo:Hz (den T A)) (hdg:m8 (den T A)) (hin:X3 (den T A)):Cf (den T A):=by
 intro p l ls hb hl ha hn;have e1:=hc p [l] (by intro x hx; simp at hx; subst hx; exact ⟨hl,hb⟩) (by simp)
 rw [show List.map kl [l]=[(D.arr 64 .leaf (ah .u8 l))] from rfl] at e1;have e2:=hc p ls ha (by omega)
 refine cd hT rfl ?_;rcases yy p [l] with h1 | h1
 ·rw [h1] at e1
  rcases yy p ls with h2 | h2
  ·rw [h2] at e2
   obtain ⟨ip,a,hal,rfl⟩:=qp hb hl h1;rw [tz hal (Yk h2 h1)];have e3:=hmo p a hal;have e4:=hdg p a hal;have e5:=hin ((a.len:Int)-1) 1 5
   by_cases hM:Monic a
   ·rw [decide_eq_true hM] at e3
    by_cases h:2≤a.len∧a.len≤6
    ·rw [decide_eq_true (show (1:Int)≤(a.len:Int)-1∧(a.len:Int)-1≤5 by omega)] at e5
     rw [if_pos ⟨hM,h⟩];generalize pad (row a)=Pa at *;generalize ls.map kl=LD at *;generalize (a.len:Int)-1=d at *;simp -implicitDefEqProofs [Z3m,Z3m_B,az,e1,e2,e3,e4,e5,List.replicate]
    ·rw [decide_eq_false (show ¬ ((1:Int)≤(a.len:Int)-1∧(a.len:Int)-1≤5) by omega)] at e5
     rw [if_neg fun g=>h g.2]
     generalize pad (row a)=Pa at *;generalize ls.map kl=LD at *;generalize (a.len:Int)-1=d at *;simp -implicitDefEqProofs [Z3m,Z3m_B,az,e1,e2,e3,e4,e5,List.replicate]
   ·rw [decide_eq_false hM] at e3
    rw [if_neg fun g=>hM g.1]
    generalize pad (row a)=Pa at *;generalize ls.map kl=LD at *;simp -implicitDefEqProofs [Z3m,Z3m_B,az,e1,e2,e3,List.replicate]
  ·rw [Ct (fun h=>by rw [(yb h).1] at h2; cases h2)]
   rw [h2] at e2;generalize ls.map kl=LD at *;simp -implicitDefEqProofs [Z3m,Z3m_B,az,e1,e2,List.replicate]
 ·rw [Ct (fun h=>by rw [(yb h).2] at h1; cases h1)]
  rw [h1] at e1;generalize ls.map kl=LD at *;simp -implicitDefEqProofs [Z3m,Z3m_B,az,e1,List.replicate]
end Pe
namespace Pe
open Go Gq
variable {T:Nat→Option Fn} {A:ap}
section
variable {p:Int} [IsP p]
theorem a0h {m:Fp p} {L:k9 p} (h:IsFac m L):IsFac m (fac m):=by
 unfold fac;rw [dif_pos ⟨L,h⟩];exact d9 (⟨L,h⟩:∃L,IsFac m L)
theorem IsFac.small {m:Fp p} (hm:m≠0) (hl:m.len≤13) {L:k9 p} (h:IsFac m L):(∀x∈L,2≤x.1.len∧x.1.len≤13∧1≤x.2∧x.2≤12)∧dgF L+1=m.len:=by
 refine ⟨fun x hx=>?_,?_⟩
 ·obtain ⟨q1,q2,q3,_⟩:=h.len hm hx
  exact ⟨q1,by omega,(h.ok.irr x hx).2.2,by omega⟩
 ·rw [←H3 h.ok]
  conv=>rhs; rw [h.eq]
  exact (Pol.len_Cmul (Pol.ld_ne hm) _).symm
end
theorem a79 {p:Int} [IsP p] {m:Fp p} (hi:Irr m) (hM:Monic m):eul m=p^(m.len-1)-1:=by
 have h1:fac m=[(m,1)]:=(a0h (Mn hi hM)).unique hi.ne (Mn hi hM);unfold eul;rw [h1];simp only [Gr];rw [gu,eo,lc,fc]
section
variable {p:Int} [IsP p]
end
end Pe
namespace Pe
open Go Gq
variable {T:Nat→Option Fn} {A:ap}
open Classical in
noncomputable def prD (p:Int) (l:List Int):D:=
 if h:∃(_:IsP p) (m:Fp p) (k:Nat),l=pad (row m)∧Monic m∧2≤m.len∧m.len≤6∧Irr m∧IsPrim m k then
  .tup [(D.arr 64 .leaf (ah .u8 (pad (row (f7 p ((Classical.choose h.choose_spec.choose_spec:Nat):Int)))))),(D.int .i64 0)]
 else .tup [(D.arr 64 .leaf (ah .u8 (pad []))),(D.int .i64 (if pu p l []=0 then 5 else pu p l []))]
theorem Ho {p:Int} [ip:IsP p] {m:Fp p} {k:Nat} (hM:Monic m) (h2:2≤m.len) (h6:m.len≤6) (hi:Irr m) (hk:IsPrim m k):prD p (pad (row m))=.tup [(D.arr 64 .leaf (ah .u8 (pad (row (f7 p k))))),(D.int .i64 0)]:=by
 have h:∃(_:IsP p) (m':Fp p) (k:Nat),pad (row m)=pad (row m')∧Monic m'∧2≤m'.len∧m'.len≤6∧Irr m'∧IsPrim m' k:=⟨ip,m,k,rfl,hM,h2,h6,hi,hk⟩;unfold prD;rw [dif_pos h];have hs:=d9 h.choose_spec.choose_spec;obtain ⟨s1,s2,s3,s4,s5,s6⟩:=hs;have e:=(z5 (by omega) (by omega)).1 s1
 generalize Classical.choose h.choose_spec.choose_spec=k' at s6 ⊢;rw [←e] at s6;rw [hk.unique s6]
open Classical in
theorem X4 {p:Int} {l:List Int} (h:pu p l []≠0):prD p l=.tup [(D.arr 64 .leaf (ah .u8 (pad []))),(D.int .i64 (pu p l []))]:=by
 unfold prD;rw [dif_neg,if_neg h]
 rintro ⟨ip,m,k,rfl,h1,h2,h3,-⟩
 refine h ?_;rw [tz (by omega) (by rw [fg,M4]),if_pos ⟨h1,h2,h3⟩]
theorem Ws {p:Int} [IsP p] {m:Fp p} (hm:m.len≤64) (h:pu p (pad (row m)) []=0) (hi:¬ Irr m):prD p (pad (row m))=.tup [(D.arr 64 .leaf (ah .u8 (pad []))),(D.int .i64 5)]:=by
 unfold prD;rw [dif_neg,if_pos h]
 rintro ⟨_,a,k,e,-,-,h6,ha,-⟩
 obtain rfl:=(z5 hm (by omega)).1 e
 exact hi ha
theorem Ed {p:Int} {l:List Int} {ls:List (List Int)} (h:pu p l ls=0):∃(_:IsP p) (m:Fp p),l=pad (row m)∧Monic m∧2≤m.len∧m.len≤6:=by
 unfold pu at h
 split at h
 ·cases h
 ·split at h
  ·assumption
  ·cases h
def we (O:ap) (F:Nat):Prop:=∀(p:Int) (l:List Int),kh l→l.length=64→ask O F [(D.int .i64 p),(D.arr 64 .leaf (ah .u8 l))]=some (prD p l)
open Classical in
theorem Jx (hT:T Ff=some Zf) (hmc:xo (den T A)) (hro:qa (den T A)) (hir:H5 (den T A)) (hpr:ze (den T A)) (hto:zu (den T A)):we (den T A) Ff:=by
 intro p l hb hl;have e1:=hmc p l hb hl
 by_cases h0:pu p l []=0
 ·have h0':=h0
  rw [h0] at e1;obtain ⟨ip,m,rfl,hM,h2,h6⟩:=Ed h0;have e2:=hro p m (by omega)
  have e3:=hir p m (by omega)
  by_cases hi:Irr m
  ·obtain ⟨k,hk⟩:=Es hi (by omega)
   rw [Ho hM h2 h6 hi hk];rw [decide_eq_true ⟨hM,hi⟩] at e3;have e4:=hpr p m k hi h6 hk;have hkl:=Sc hi h6 hk;have e5:=hto (row (f7 p k)) (sa _) (by rw [bf]; omega)
   unfold G1 at e5;rw [if_pos (by rw [bf]; omega)] at e5
   refine cd hT rfl ?_;generalize pad (row (f7 p (k:Int)))=Pk at *;generalize row (f7 p (k:Int))=Rk at *;generalize pad (row m)=Pm at *;generalize row m=Rm at *;simp -implicitDefEqProofs [Zf,Zf_B,az,e1,e2,e3,e4,e5,List.replicate,List.idxOf,List.findIdx,List.findIdx.go]
  ·rw [Ws (by omega) h0' hi]
   rw [decide_eq_false fun h=>hi h.2] at e3
   refine cd hT rfl ?_;generalize pad (row m)=Pm at *;generalize row m=Rm at *;simp -implicitDefEqProofs [Zf,Zf_B,az,e1,e2,e3,List.replicate,List.idxOf,List.findIdx,List.findIdx.go]
 ·rw [X4 h0]
  refine cd hT rfl ?_;generalize pu p l []=c at *;simp -implicitDefEqProofs [Zf,Zf_B,az,e1,h0,List.replicate,List.idxOf,List.findIdx,List.findIdx.go]
section
variable {p:Int} [IsP p]
end
end Pe
namespace Pe
open Go Gq
variable {T:Nat→Option Fn} {A:ap}
theorem a4q {O:ap} {code:List Int} (hc:code.length≤4096) (hb:kh code):∀(r i:Nat) (h:Int),i+r=code.length→∃h':Int,
 dn O 0 (.loop Z24_L0) ⟨[(0,.d (.sl .leaf (ah .u8 code))),(5,.ptr 0 []),(6,(.d (.int .i64 i)))],[Vc code 0 h]⟩ =
  some (.exit 0,⟨[(0,.d (.sl .leaf (ah .u8 code))),(5,.ptr 0 []),(6,(.d (.int .i64 code.length))),(19,(.d (.bool false)))],[Vc code 0 h']⟩)
 | 0,i,h,hi=>by
  obtain rfl:i=code.length:=by omega
  refine ⟨h,cg ?_⟩;simp -implicitDefEqProofs [Z24_L0,az]
 | r+1,i,h,hi=>by
  have hlt:i<code.length:=by omega
  have hlt':(i:Int)<code.length:=by omega
  have hbk:=hb _ (c6 hlt);have w4:IntKind.i64.wrap ((i:Int)+1)=((i+1:Nat):Int):=(w64 (x:=(i:Int)+1) (by omega)).trans (by omega)
  obtain ⟨h2,hh2⟩:∃h2:Int,IntKind.u64.wrap (IntKind.u64.wrap (IntKind.u64.wrap (h*1099511628211)+IntKind.u64.wrap code[i])+5)=h2:=⟨_,rfl⟩;obtain ⟨h',ih⟩:=a4q hc hb r (i+1) h2 (by omega)
  refine ⟨h',c8 ?_ ih⟩;simp -implicitDefEqProofs [Z24_L0,az,hlt,hlt',w4,hh2]
def Tb (O:ap):Prop:=∀(code:List Int) (s:Int),kh code→code.length≤4096→∃b:Blk,O F24 [.d (.sl .leaf (ah .u8 code)),.d (.int .u64 s)] []=some (.ptr 0 [],[],[b])∧Src b
theorem a9n (hT:T F24=some Z24):Tb (den T A):=by
 intro code s hb hc;obtain ⟨h0,hh0⟩:∃h0:Int,IntKind.u64.wrap (IntKind.u64.wrap (s*8219)+IntKind.u64.wrap (code.length:Int))=h0:=⟨_,rfl⟩;obtain ⟨h',e⟩:=a4q (O:=den T A) hc hb code.length 0 h0 (bv _);rw [show ((0:Nat):Int)=0 from rfl,show Vc code 0 h0=.box false (.st [.leaf,.leaf,.leaf] [.sl .leaf (ah .u8 code),.int .i64 0,.int .u64 h0]) from rfl] at e;refine ⟨Vc code 0 h',na hT rfl ?_,⟨code,0,h',rfl,jc _,by omega,hb⟩⟩
 simp -implicitDefEqProofs [Z24,Z24_B,hh0,e,List.idxOf,List.findIdx,List.findIdx.go]
theorem a7k (hT:T F21=some Z21):Iq (den T A) F21:=by
 rintro b n ⟨code,k,h,rfl,hk,hc,hb⟩ hn
 by_cases h1:n<1
 ·refine ⟨0,_,na hT rfl ?_,⟨code,k,h,rfl,hk,hc,hb⟩,tc _,.inr rfl⟩
  simp -implicitDefEqProofs [Z21,ir_laws_dice_below_B,az,h1]
 ·obtain ⟨hh,hhh⟩:∃hh:Int,IntKind.u64.wrap (IntKind.u64.wrap (h*6364136223846793005)+1442695040888963407)=hh:=⟨_,rfl⟩
  have hx:=a64 (hh.fdiv 8589934592);obtain ⟨x,hX⟩:∃x:Int,a0e .u64 (hh.fdiv 8589934592) 16777215=x:=⟨_,rfl⟩;rw [hX] at hx;have w0:IntKind.i64.wrap x=x:=w64 (by omega)
  have hn0:¬ n=0:=by omega
  have tm:∀y:Int,0≤y→0≤y.tmod n∧y.tmod n<n:=fun y hy=>by
   rw [di hy];exact ⟨dw _ hn0,de _ (by omega)⟩
  by_cases h2:k<code.length
  ·have hbk:=hb _ (c6 h2)
   have h2':(k:Int)<code.length:=by omega
   have w1:IntKind.i64.wrap code[k]=code[k]:=w64 (by omega)
   have w2:IntKind.i64.wrap (x+code[k])=x+code[k]:=w64 (by omega)
   have w3:IntKind.i64.wrap ((k:Int)+1)=((k+1:Nat):Int):=(w64 (x:=(k:Int)+1) (by omega)).trans (by omega)
   obtain ⟨t1,t2⟩:=tm (x+code[k]) (by omega)
   refine ⟨(x+code[k]).tmod n,Vc code (k+1) hh,na hT rfl ?_,⟨code,k+1,hh,rfl,by omega,hc,hb⟩,t1,.inl t2⟩
   simp -implicitDefEqProofs [Z21,ir_laws_dice_below_B,az,yj,a9a,h1,hn0,h2,h2',hhh,hX,w0,w1,w2,w3]
  ·have h2':¬ (k:Int)<code.length:=by omega
   obtain ⟨t1,t2⟩:=tm x (by omega)
   refine ⟨x.tmod n,Vc code k hh,na hT rfl ?_,⟨code,k,hh,rfl,hk,hc,hb⟩,t1,.inl t2⟩;simp -implicitDefEqProofs [Z21,ir_laws_dice_below_B,az,yj,a9a,h1,hn0,h2',hhh,hX,w0]
theorem Wq {O:ap} (hn:Iq O F21) {p:Int} [IsP p] {b1:Blk} {n:Nat} (hn64:n≤60):∀(r i:Nat) (b:Blk) (Q:List Int),i+r=n+1→Src b→DrI p Q (n+1)→∃(b':Blk) (Q':List Int),Src b'∧DrI p Q' (n+1) ∧
 dn O 1 (.loop Z22_L0) ⟨[(0,.ptr 0 []),(1,(.d (.int .i64 p))),(2,(.d (.int .i64 ((n:Int))))),(6,.ptr 1 []),(7,.ptr 2 []),(8,(.d (.int .i64 i)))],[b,b1,.box false (D.arr 64 .leaf (ah .u8 Q))]⟩ =
  some (.exit 0,⟨[(0,.ptr 0 []),(1,(.d (.int .i64 p))),(2,(.d (.int .i64 ((n:Int))))),(6,.ptr 1 []),(7,.ptr 2 []),(8,(.d (.int .i64 (((n+1:Nat):Int))))),(12,(.d (.bool false)))],[b',b1,.box false (D.arr 64 .leaf (ah .u8 Q'))]⟩)
 | 0,i,b,Q,hi,hs,hQ=>by
  obtain rfl:i=n+1:=by omega
  refine ⟨b,Q,hs,hQ,cg ?_⟩;obtain ⟨c,a,h,rfl,_⟩:=hs;have hle:¬ ((n+1:Nat):Int)≤n:=by omega
  generalize ((n+1:Nat):Int)=nn at *;simp -implicitDefEqProofs [Z22_L0,az,hle]
 | r+1,i,b,Q,hi,hs,hQ=>by
  have hp:=IsP.ge (p:=p);have hp7:=IsP.le (p:=p);obtain ⟨y,b3,e2,hs3,y0,y1⟩:=hn b p hs (by omega)
  have w2:IntKind.u8.wrap y=y:=w8 (by omega)
  have w4:IntKind.i64.wrap ((i:Int)+1)=((i+1:Nat):Int):=(w64 (x:=(i:Int)+1) (by omega)).trans (by omega)
  have hle:i≤n:=by omega
  have hiQ:i<Q.length:=by rw [hQ.l]; omega
  have hi64:i<64:=by omega
  obtain ⟨b',Q',hs',hQ',ih⟩:=Wq hn (b1:=b1) hn64 r (i+1) b3 (Q.set i y) (by omega) hs3 (hQ.set y0 (by omega) (by omega))
  refine ⟨b',Q',hs',hQ',c8 ?_ ih⟩;obtain ⟨c,a,h,rfl,_⟩:=hs;obtain ⟨c3,a3,h3,rfl,_⟩:=hs3;simp -implicitDefEqProofs [Z22_L0,az,hle,e2,w2,w4,hiQ,hi64,List.idxOf,List.findIdx,List.findIdx.go]
def O0 (O:ap):Prop:=∀(p:Int) [IsP p] (b:Blk) (n:Nat),Src b→n≤60→∃(a:Fp p) (b':Blk),O F22 [.ptr 0 [],(.d (.int .i64 p)),(.d (.int .i64 ((n:Int))))] [b]=some (.d (D.arr 64 .leaf (ah .u8 (pad (row a)))),[b'],[])∧Src b'∧a.len≤n+1
theorem a8d (hT:T F22=some Z22) (hn:Iq (den T A) F21):O0 (den T A):=by
 intro p ip b n hs h60;obtain ⟨b',Q,hs',hQ,e2⟩:=Wq (p:=p) hn (b1:=.box false (D.arr 64 .leaf (ah .u8 (pad [])))) (n:=n) h60 (n+1) 0 b (pad []) (by omega) hs (.zero p _)
 rw [show ((0:Nat):Int)=0 from rfl] at e2;obtain ⟨q1,q2⟩:=hQ.pol;refine ⟨gn p Q,b',na hT rfl ?_,hs',q2⟩;rw [←q1];obtain ⟨c,a,h,rfl,_⟩:=hs;obtain ⟨c',a',h',rfl,_⟩:=hs';simp -implicitDefEqProofs [Z22,Z22_B,e2,List.replicate,List.idxOf,List.findIdx]
end Pe
namespace Pe
open Go Gq
section
variable {p:Int}
theorem Xp {q a:Fp p} (h:∃u v:Fp p,u*q+v*a=1):∀n,∃u v:Fp p,u*pw q n+v*a=1
 | 0=>⟨1,0,by
  show 1*(1:Fp p)+0*a=1;rw [Gq.one_mul,Gq.zero_mul,Gq.add_zero]⟩
 | n+1=>by
  obtain ⟨u,v,e⟩:=h;obtain ⟨s,t,e2⟩:=Xp ⟨u,v,e⟩ n;refine ⟨s*u,s*pw q n*v+t*u*q+t*v*a,?_⟩;have e3:(s*pw q n+t*a)*(u*q+v*a)=1:=by rw [e,e2,Gq.one_mul]
  rw [←e3];show s*u*(pw q n*q)+(s*pw q n*v+t*u*q+t*v*a)*a=_;exact bq [s,u,v,t,q,a,pw q n] rfl
noncomputable def Be (p:Int):k9 p→Nat
 | []=>1
 | x::L=>(p.toNat^(x.1.len-1)-1)*(p.toNat^(x.1.len-1))^(x.2-1)*Be p L
theorem Sb:∀{L:k9 p} {x:Fp p×Nat},x∈L→(p.toNat^(x.1.len-1)-1)*(p.toNat^(x.1.len-1))^(x.2-1)∣Be p L
 | y::L,x,h=>by
  rcases d8.1 h with rfl | h
  ·exact ol _ _
  ·exact jk (Sb h) (pj _ _)
end
section
variable {p:Int} [IsP p]
theorem a9d {b a y:Fp p} (h:∃u v:Fp p,u*b+v*a=1) (h1:Dv b y) (h2:Dv a y):Dv (b*a) y:=by
 obtain ⟨u,v,e⟩:=h;obtain ⟨s,hs⟩:=h1;obtain ⟨t,ht⟩:=h2;refine ⟨u*t+v*s,?_⟩;have e1:y=y*(u*b)+y*(v*a):=by rw [←Gq.mul_add,e,Gq.mul_one]
 rw [e1]
 conv=>lhs; lhs; rw [ht]
 conv=>lhs; rhs; rw [hs]
 exact bq [u,v,s,t,a,b] rfl
theorem a5i {q a:Fp p} (hi:Irr q) {d:Nat} (hq:q.len=d+1) (hd:p^d<1000000000000) (ha:¬ Dv q a) (e:Nat):pw (Quo.mk (pw q (e+1)) a) ((p.toNat^d-1)*(p.toNat^d)^e)=1:=by
 have hp:=IsP.ge (p:=p);have hpos:=pa (p:=p) d
 -- in the field
 have h1:pw (Quo.mk q a) (p.toNat^d-1)=1:=by
  have hx:Quo.mk q a≠0:=fun h=>ha (gh.2 h)
  obtain ⟨y,hy⟩:=hi.quo_inv hx;have hf:=xg hi hq hd (Quo.mk q a);have hs:p.toNat^d=(p.toNat^d-1)+1:=by omega
  rw [hs,v5,rc] at hf;have:pw (Quo.mk q a) (p.toNat^d-1)*Quo.mk q a*y=Quo.mk q a*y:=by rw [hf]
  rwa [Gq.mul_assoc,hy,Gq.mul_one] at this
 have h2:Dv q (pw a (p.toNat^d-1)-1):=by
  rw [gh,Quo.mk_sub,Quo.mk_pow,h1];exact Gq.sub_self _
 obtain ⟨b,hb⟩:=h2
 have h3:pw a (p.toNat^d-1)=1+q*b:=by
  rw [←hb];exact bq [pw a (p.toNat^d-1)] rfl
 rw [←qw,←Quo.mk_pow,h3,Quo.mk_add,←Nat.pow_mul,Ej,Quo.mk_one,xq,←Quo.mk_pow,sb,Quo.mk_mul]
 have hge:e+1≤p.toNat^(d*e):=by
  have hd1:1≤d:=by have:=hi.len; omega
  have a1:e<2^e:=Nat.lt_two_pow_self;have a2:2^e≤p.toNat^e:=Nat.pow_le_pow_left (by omega) e
  have a3:p.toNat^e≤p.toNat^(d*e):=mu (by omega) (Nat.le_mul_of_pos_left e hd1)
  omega
 have hz:Quo.mk (pw q (e+1)) (pw q (p.toNat^(d*e)))=0:=by
  rw [←gh];obtain ⟨k,hk⟩:∃k,p.toNat^(d*e)=(e+1)+k:=⟨p.toNat^(d*e)-(e+1),by omega⟩
  rw [hk,v5 q (e+1) k];exact ⟨pw q k,rfl⟩
 rw [hz,Gq.zero_mul,Gq.add_zero]
theorem Ld {d:Nat} (hd:d≤12):p^d<1000000000000:=by
 have h1:=gr (p:=p) (by have:=IsP.pos (p:=p); omega) hd
 have h2:p^12<1000000000000:=by rcases IsP.h (p:=p) with h | h | h | h <;> (subst h; decide)
 omega
theorem Va:∀(L:k9 p) (out:Int),Gr p out L=out*(Be p L:Int)
 | [],out=>by show out=out*((1:Nat):Int); omega
 | x::L,out=>by
  have h1:=m6 (p:=p) (x.1.len-1);have hpos:=pa (p:=p) (x.1.len-1);have h2:((p.toNat^(x.1.len-1)-1:Nat):Int)=p^(x.1.len-1)-1:=by omega
  show Gr p (out*(p^(x.1.len-1)-1)*(p^(x.1.len-1))^(x.2-1)) L=out*(((p.toNat^(x.1.len-1)-1)*(p.toNat^(x.1.len-1))^(x.2-1)*Be p L:Nat):Int);rw [Va L,qd,qd,h2,Int.natCast_pow,h1];generalize (p^(x.1.len-1))^(x.2-1)=A;generalize p^(x.1.len-1)-1=B;generalize (Be p L:Int)=C;rw [jl out B A,jl]
theorem ae8 (m:Fp p):eul m=(Be p (fac m):Int):=by
 unfold eul;rw [Va,fc]
theorem Ni {y:Fp p}:∀{L:k9 p},FacOk L→(∀x∈L,Dv (pw x.1 x.2) y)→Dv (ki L) y
 | [],_,_=>⟨y,(Gq.one_mul y).symm⟩
 | x::L,ok,h=>by
  have hx:=ok.irr x (by simp)
  have ht:FacOk L:=⟨fun y hy=>ok.irr y (by simp [hy]),ok.dis.tail⟩
  rw [qh];refine a9d (Xp (hx.1.coprime fun hd=>?_) x.2) (h x (by simp)) (Ni ht fun z hz=>h z (by simp [hz]))
  obtain ⟨k,hz⟩:=Gy hx.1 hx.2.1 ht hd;exact (d5.1 ok.dis).1 _ hz rfl
theorem a08 {m a:Fp p} (hM:Monic m) (hl:m.len≤13) (h:IsFac m (fac m)) (ha:∀q,Irr q→Dv q m→¬ Dv q a):pw (Quo.mk m a) (Be p (fac m))=1:=by
 have hm0:=hM.2
 have e:m=ki (fac m):=by
  have:=h.eq
  rwa [hM.1,Pol.C_one,Gq.one_mul] at this
 have key:Dv m (pw a (Be p (fac m))-1):=by
  have:=Ni (y:=pw a (Be p (fac m))-1) h.ok fun x hx=>by
   obtain ⟨i1,i2,i3⟩:=h.ok.irr x hx;obtain ⟨-,-,-,h4,-⟩:=(Gz hm0 h.ok h.eq x.1 x.2).1 hx;obtain ⟨k,hk⟩:∃k,x.2=k+1:=⟨x.2-1,by omega⟩
   have hq:Dv x.1 m:=by
    refine Dv.trans ⟨pw x.1 k,?_⟩ h4;rw [hk];exact Gq.mul_comm _ _
   have hxl:=hq.len hm0;have h2:=i1.len;have small:p^(x.1.len-1)<1000000000000:=Ld (by omega)
   have e1:=a5i i1 (d:=x.1.len-1) (by omega) small (ha x.1 i1 hq) k
   rw [hk,gh,Quo.mk_sub,Quo.mk_pow];have hdv:=Sb hx;rw [hk,Nat.add_sub_cancel] at hdv;rw [yz e1 hdv];exact Gq.sub_self _
  rwa [←e] at this
 rw [gh,Quo.mk_sub,Quo.mk_pow] at key;have e2:pw (Quo.mk m a) (Be p (fac m))=(pw (Quo.mk m a) (Be p (fac m))-Quo.mk m 1)+Quo.mk m 1:=bq [pw (Quo.mk m a) (Be p (fac m)),Quo.mk m 1] rfl;rw [e2,key,Gq.zero_add]; rfl
end
end Pe
namespace Pe
open Go Gq
variable {T:Nat→Option Fn} {A:ap}
theorem Yd {p:Int} {l:List Int} {ls:List (List Int)} (h:pu p l ls=0):kv p ls=0:=by
 unfold pu at h
 split at h
 ·cases h
 ·rename_i g
  exact (yb (by simpa using g)).1
theorem a9s {p:Int} {a m:List Int} (ha:kh a) (gl:a.length=64) (h:pu p m [a]=0):∃(_:IsP p) (M X:Fp p),m=pad (row M)∧a=pad (row X)∧Monic M∧2≤M.len∧M.len≤6∧X.len≤64:=by
 obtain ⟨ip,M,rfl,hM,h2,h6⟩:=Ed h;obtain ⟨ip',X,hX,rfl⟩:=qp ha gl (Yd h);exact ⟨ip,M,X,rfl,rfl,hM,h2,h6,hX⟩
section
variable {p:Int} [IsP p]
def Un (M X:Fp p):Prop:=Pol.gcd X M=1
theorem a9w {M X:Fp p} (hM:M≠0) (h:Un M X):∀q,Irr q→Dv q M→¬ Dv q X:=fun q hq h1 h2=>by
 have h3:=Pol.dv_gcd (.inr hM) h2 h1;rw [show Pol.gcd X M=1 from h] at h3;have h4:=h3.len Pol.one_ne;rw [Pol.len_one] at h4;have:=hq.len;omega
theorem X8:∀(L:k9 p) (out:Int) (e:Nat),(∀x∈L,1≤x.2∧2≤x.1.len)→0≤out→out≤p^e→Gr p out L≤p^(e+dgF L)
 | [],out,e,_,_,h=>by
  show out≤p^(e+0);exact h
 | x::L,out,e,hL,h0,h1=>by
  obtain ⟨i1,i2⟩:=hL x (by simp)
  obtain ⟨s1,s2,-,-⟩:=Qh (p:=p) (x:=x) i1 h0 h1 i2;have:=X8 L _ _ (fun y hy=>hL y (by simp [hy])) s1 s2
  show Gr p (out*(p^(x.1.len-1)-1)*(p^(x.1.len-1))^(x.2-1)) L≤p^(e+(x.2*(x.1.len-1)+dgF L))
  rwa [←eh]
theorem Rq:∀(L:k9 p),(∀x∈L,2≤x.1.len)→1≤Be p L
 | [],_=>bj 1
 | x::L,h=>by
  have h1:=Rq L fun y hy=>h y (by simp [hy])
  have hx:=h x (by simp)
  have hp:=IsP.ge (p:=p)
  have h2:2≤p.toNat^(x.1.len-1):=by
   obtain ⟨k,hk⟩:∃k,x.1.len-1=k+1:=⟨x.1.len-2,by omega⟩
   rw [hk,fo];have:=pa (p:=p) k;exact dk (by omega) (Nat.mul_le_mul this (show 2≤p.toNat by omega))
  have h3:0<(p.toNat^(x.1.len-1))^(x.2-1):=Nat.pow_pos (by omega)
  exact Nat.mul_pos (Nat.mul_pos (by omega) h3) h1
theorem Cc {M:Fp p} (hM:Monic M) (hf:IsFac M (fac M)):1≤Be p (fac M)∧(Be p (fac M):Int)≤p^(M.len-1):=by
 refine ⟨Rq _ fun x hx=>(hf.ok.irr x hx).1.len,?_⟩
 have h1:=X8 (fac M) 1 0 (fun x hx=>⟨(hf.ok.irr x hx).2.2,(hf.ok.irr x hx).1.len⟩) (by omega) (by rw [eo]; omega)
 rw [Va,fc,bv] at h1;have h2:=H3 hf.ok
 have e:M=ki (fac M):=by
  have:=hf.eq
  rwa [hM.1,Pol.C_one,Gq.one_mul] at this
 rw [←e] at h2
 rwa [show dgF (fac M)=M.len-1 by omega] at h1
open Classical in
noncomputable def Sx (M X:Fp p):Nat:=if h:∃n,1≤n∧Ord (Quo.mk M X) n then h.choose else 0
theorem Xg {M X:Fp p} (hM:Monic M) (hl:M.len≤13) (hf:IsFac M (fac M)) (h:Un M X):1≤Sx M X∧Ord (Quo.mk M X) (Sx M X)∧Sx M X∣Be p (fac M):=by
 have h1:=a08 hM hl hf (a9w hM.2 h);have hx:∃n,1≤n∧Ord (Quo.mk M X) n:=a1a _ (Cc hM hf).1 h1;unfold Sx;rw [dif_pos hx];obtain ⟨g1,g2⟩:=hx.choose_spec;exact ⟨g1,g2,(g2 _).1 h1⟩
end
end Pe
namespace Pe
open Go Gq
variable {T:Nat→Option Fn} {A:ap}
open Classical in
noncomputable def orD (p:Int) (a m:List Int):D:=
 if pu p m [a]=0 then
  (if h:IsP p then haveI:=h; if Un (gn p m) (gn p a) then .tup [(D.int .i64 ((Sx (gn p m) (gn p a):Nat))),(D.int .i64 0)] else .tup [(D.int .i64 0),(D.int .i64 4)] else .tup [(D.int .i64 0),(D.int .i64 4)])
 else .tup [(D.int .i64 0),(D.int .i64 (pu p m [a]))]
section
variable {p:Int} [ip:IsP p] {M X:Fp p}
theorem Qn (h:pu p (pad (row M)) [pad (row X)]=0) (hM:M.len≤64) (hX:X.len≤64) (hu:Un M X):orD p (pad (row X)) (pad (row M))=.tup [(D.int .i64 ((Sx M X:Nat))),(D.int .i64 0)]:=by
 unfold orD;rw [if_pos h,dif_pos ip,mb hM,mb hX,if_pos hu]
theorem a88 (h:pu p (pad (row M)) [pad (row X)]=0) (hM:M.len≤64) (hX:X.len≤64) (hu:¬ Un M X):orD p (pad (row X)) (pad (row M))=.tup [(D.int .i64 0),(D.int .i64 4)]:=by
 unfold orD;rw [if_pos h,dif_pos ip,mb hM,mb hX,if_neg hu]
end
theorem a6o {p:Int} {a m:List Int} (h:¬ pu p m [a]=0):orD p a m=.tup [(D.int .i64 0),(D.int .i64 (pu p m [a]))]:=by unfold orD; rw [if_neg h]
theorem a61 {p:Int} [IsP p] {d:Fp p} (hd:Monic d) [Decidable (d.len=1∧cf (row d) 0=1)] [Decidable (d=1)]:decide (d.len=1∧cf (row d) 0=1)=decide (d=1):=by
 refine decide_eq_decide.2 ⟨fun h=>hd.eq_one h.1,?_⟩
 rintro rfl
 refine ⟨Pol.len_one,?_⟩;rw [su]; rfl
def wb (O:ap) (F:Nat):Prop:=∀(p:Int) (a m:List Int),kh a→a.length=64→kh m→m.length=64→ask O F [(D.int .i64 p),(D.arr 64 .leaf (ah .u8 a)),(D.arr 64 .leaf (ah .u8 m))]=some (orD p a m)
open Classical in
theorem Jy (hT:T Fe=some Ze) (hmc:B9 (den T A)) (hro:qa (den T A)) (hg:L4 (den T A)) (h1:Dr (den T A)) (hfa:Lz (den T A)) (hor:Dc (den T A)):wb (den T A) Fe:=by
 intro p a m ha gla hm glm;have e1:=hmc p m [a] hm glm (fun x hx=>by simp at hx; subst hx; exact ⟨gla,ha⟩) (by simp) (by simp)
 rw [show [a].map kl=[(D.arr 64 .leaf (ah .u8 a))] from rfl,show [a].length=1 from rfl] at e1
 by_cases h0:pu p m [a]=0
 ·have h0':=h0
  rw [h0] at e1;obtain ⟨ip,M,X,rfl,rfl,hM,h2,h6,hX⟩:=a9s ha gla h0;have e2:=hro p X hX;have e3:=hro p M (by omega)
  have e4:=hg p X M (.inr hM.2) (by omega) (by omega)
  have hgm:Monic (Pol.gcd X M):=Pol.gcd_monic (.inr hM.2);have hgl:=(Pol.gcd_dv_right (a:=X) (b:=M) (.inr hM.2)).len hM.2;have e5:=h1 p (Pol.gcd X M) (by omega)
  rw [a61 (d:=Pol.gcd X M) hgm] at e5
  by_cases hu:Un M X
  ·rw [Qn h0' (by omega) hX hu]
   rw [decide_eq_true (show Pol.gcd X M=1 from hu)] at e5;obtain ⟨hf,-,-⟩:=hfa p M hM.2 (by omega)
   obtain ⟨n1,n2,n3⟩:=Xg hM (by omega) hf hu
   obtain ⟨b1,b2⟩:=Cc hM hf;have hnl:=kz b1 n3;have hpb:=md (p:=p) (n:=5) (by omega)
   have hpb2:p^5≤16807:=by rcases IsP.h (p:=p) with h | h | h | h <;> (subst h; decide)
   have hmono:=gr (p:=p) (by have:=IsP.pos (p:=p); omega) (show M.len-1≤5 by omega)
   have e6:=hor p X M (Sx M X) h2 (by omega) (by omega) n1 (by omega) n2
   refine cd hT rfl ?_;generalize Sx M X=n at *;generalize row (Pol.gcd X M)=R1 at *;generalize pad (row X)=Px at *;generalize row X=Rx at *;generalize pad (row M)=Pm at *;generalize row M=Rm at *;simp -implicitDefEqProofs [Ze,Ze_B,az,e1,e2,e3,e4,e5,e6,List.replicate,List.idxOf,List.findIdx,List.findIdx.go]
  ·rw [a88 h0' (by omega) hX hu]
   rw [decide_eq_false (show ¬ Pol.gcd X M=1 from hu)] at e5;refine cd hT rfl ?_;generalize row (Pol.gcd X M)=R1 at *;generalize pad (row X)=Px at *;generalize row X=Rx at *;generalize pad (row M)=Pm at *;generalize row M=Rm at *;simp -implicitDefEqProofs [Ze,Ze_B,az,e1,e2,e3,e4,e5,List.replicate,List.idxOf,List.findIdx,List.findIdx.go]
 ·rw [a6o h0]
  refine cd hT rfl ?_;generalize pu p m [a]=c at *;simp -implicitDefEqProofs [Ze,Ze_B,az,e1,h0,List.replicate,List.idxOf,List.findIdx,List.findIdx.go]
end Pe
namespace Pe
open Go Gq
variable {T:Nat→Option Fn} {A:ap}
noncomputable def dgC (p:Int) (a:List Int) (lo hi:Int):Int:=if kv p [a]≠0 then 1 else if lo≤((gn p a).len:Int)-1∧((gn p a).len:Int)-1≤hi then 0 else 2
def xv (O:ap) (F:Nat):Prop:=∀(p:Int) (a:List Int) (lo hi:Int),kh a→a.length=64→ask O F [(D.int .i64 p),(D.arr 64 .leaf (ah .u8 a)),(D.int .i64 lo),(D.int .i64 hi)]=some (D.int .i64 (dgC p a lo hi))
theorem N6 (hT:T Fm=some Zm) (hpc:ni (den T A)) (hro:qa (den T A)) (hdg:me (den T A)) (hw:Dl (den T A)):xv (den T A) Fm:=by
 intro p a lo hi ha gl;have e1:=hpc p [a] (fun x hx=>by simp at hx; subst hx; exact ⟨gl,ha⟩) (by simp)
 rw [show [a].map kl=[(D.arr 64 .leaf (ah .u8 a))] from rfl] at e1;unfold dgC;rcases yy p [a] with hc | hc
 ·rw [if_neg (by rw [hc]; omega)]
  rw [hc] at e1;obtain ⟨ip,X,hX,rfl⟩:=qp ha gl hc;have e2:=hro p X hX;have e3:=hdg (row X) (by rw [bf]; omega)
  rw [bf] at e3;have e4:=hw ((X.len:Int)-1) lo hi;rw [mb hX];refine cd hT rfl ?_;generalize (X.len:Int)-1=d at *;generalize pad (row X)=Px at *;generalize row X=Rx at *
  by_cases h:lo≤d∧d≤hi
  ·rw [decide_eq_true h] at e4
   rw [if_pos h];simp -implicitDefEqProofs [Zm,Zm_B,az,e1,e2,e3,e4,List.replicate]
  ·rw [decide_eq_false h] at e4
   rw [if_neg h];simp -implicitDefEqProofs [Zm,Zm_B,az,e1,e2,e3,e4,List.replicate]
 ·rw [if_pos (by rw [hc]; omega)]
  rw [hc] at e1;refine cd hT rfl ?_;simp -implicitDefEqProofs [Zm,Zm_B,az,e1,List.replicate]
theorem a5z {p:Int} {a:List Int} {lo hi:Int} (ha:kh a) (gl:a.length=64) (h:dgC p a lo hi=0):∃(_:IsP p) (X:Fp p),a=pad (row X)∧lo≤(X.len:Int)-1∧(X.len:Int)-1≤hi∧X.len≤64:=by
 unfold dgC at h
 split at h
 ·cases h
 ·rename_i hc
  split at h
  ·rename_i h1
   obtain ⟨ip,X,hX,rfl⟩:=qp ha gl (by simpa using hc)
   rw [mb hX] at h1;exact ⟨ip,X,rfl,h1.1,h1.2,hX⟩
  ·cases h
open Classical in
noncomputable def euD (p:Int) (a:List Int):D:=
 if dgC p a 1 12=0 then (if h:IsP p then haveI:=h; .tup [(D.int .i64 (eul (gn p a))),(D.int .i64 0)] else .tup [(D.int .i64 0),(D.int .i64 0)]) else .tup [(D.int .i64 0),(D.int .i64 (dgC p a 1 12))]
theorem Qe {p:Int} [ip:IsP p] {X:Fp p} (h:dgC p (pad (row X)) 1 12=0) (hX:X.len≤64):euD p (pad (row X))=.tup [(D.int .i64 (eul X)),(D.int .i64 0)]:=by
 unfold euD;rw [if_pos h,dif_pos ip,mb hX]
theorem a82 {p:Int} {a:List Int} (h:¬ dgC p a 1 12=0):euD p a=.tup [(D.int .i64 0),(D.int .i64 (dgC p a 1 12))]:=by unfold euD; rw [if_neg h]
def E8 (O:ap) (F:Nat):Prop:=∀(p:Int) (a:List Int),kh a→a.length=64→ask O F [(D.int .i64 p),(D.arr 64 .leaf (ah .u8 a))]=some (euD p a)
theorem a4v {O:ap} {p norm:Int} {LD:List D} {n i:Nat} {k:Int} (hnm:1≤norm):∀(r:Nat) (j out:Int),j+r=k→0≤j→k<100000→0≤out→out*norm^r≤1000000000000 →
 dn O 0 (.loop Z7_L0) ⟨[(0,(.d (.int .i64 p))),(7,(.d (.int .i64 out))),(10,(.d (.int .i64 norm))),(20,.d (.sl kw LD)),(21,(.d (.int .i64 n))),(22,(.d (.int .i64 i))),(37,(.d (.int .i64 k))),(38,(.d (.int .i64 j)))],[.hole,.hole]⟩ =
  some (.exit 2,⟨[(0,(.d (.int .i64 p))),(7,(.d (.int .i64 (out*norm^r)))),(10,(.d (.int .i64 norm))),(20,.d (.sl kw LD)),(21,(.d (.int .i64 n))),(22,(.d (.int .i64 i))),(37,(.d (.int .i64 k))),(38,(.d (.int .i64 k))),(39,(.d (.bool false)))],[.hole,.hole]⟩)
 | 0,j,out,hj,h0,hk,ho,hb=>by
  obtain rfl:j=k:=by omega
  rw [eo,lc];refine cg ?_;simp -implicitDefEqProofs [Z7_L0,az]
 | r+1,j,out,hj,h0,hk,ho,hb=>by
  have hlt:j<k:=by omega
  have w4:IntKind.i64.wrap (j+1)=j+1:=w64 (by omega)
  have e:out*norm^(r+1)=out*norm*norm^r:=by rw [dq,i8 (norm^r),jl]
  rw [e] at hb ⊢;have hpos:1≤norm^r:=qy (by omega)
  have ho2:0≤out*norm:=ep ho (by omega)
  have hle:out*norm*1≤out*norm*norm^r:=c7 hpos ho2;have w1:IntKind.i64.wrap (out*norm)=out*norm:=w64 (by omega)
  refine c8 ?_ (a4v hnm r (j+1) (out*norm) (by omega) (by omega) hk ho2 hb)
  simp -implicitDefEqProofs [Z7_L0,az,hlt,w1,w4]
theorem a1u {O:ap} (hdg:me O) (hno:ti O) {p:Int} [IsP p] {L:k9 p} (hL:∀x∈L,1≤x.2∧2≤x.1.len∧x.1.len≤13∧x.2≤12) (hl:L.length≤12):∀(r i e:Nat) (out:Int),i+r=L.length→0≤out→out≤p^e→e+dgF (L.drop i)≤12 →
 dn O 0 (.loop Z7_L1) ⟨[(0,(.d (.int .i64 p))),(7,(.d (.int .i64 out))),(20,.d (.sl kw (L.map mf))),(21,(.d (.int .i64 L.length))),(22,(.d (.int .i64 i)))],[.hole,.hole]⟩ =
  some (.exit 0,⟨[(0,(.d (.int .i64 p))),(7,(.d (.int .i64 (Gr p out (L.drop i))))),(20,.d (.sl kw (L.map mf))),(21,(.d (.int .i64 L.length))),(22,(.d (.int .i64 L.length))),(23,(.d (.bool false)))],[.hole,.hole]⟩)
 | 0,i,e,out,hi,h0,h1,h2=>by
  obtain rfl:i=L.length:=by omega
  rw [lk,show Gr p out []=out from rfl];refine cg ?_;generalize L.map mf=LD at *;simp -implicitDefEqProofs [Z7_L1,az]
 | r+1,i,e,out,hi,h0,h1,h2=>by
  have hlt:i<L.length:=by omega
  obtain ⟨q1,q2,q3,q4⟩:=hL _ (c6 hlt);have hd:L.drop i=L[i]::L.drop (i+1):=bt hlt;rw [hd] at h2 ⊢;have hdg2:dgF (L[i]::L.drop (i+1))=L[i].2*(L[i].1.len-1)+dgF (L.drop (i+1)):=rfl;rw [hdg2] at h2;obtain ⟨s1,s2,s3,s4⟩:=Qh (p:=p) (x:=L[i]) q1 h0 h1 q2;have hsm:=md (p:=p) (n:=e+L[i].2*(L[i].1.len-1)) (by omega)
  have hge:L[i].1.len-1≤L[i].2*(L[i].1.len-1):=Nat.le_mul_of_pos_left _ q1;have hsm2:=md (p:=p) (n:=e+(L[i].1.len-1)) (by omega)
  have hsm3:=md (p:=p) (n:=L[i].1.len-1) (by omega)
  have e1:=hdg (row L[i].1) (by rw [bf]; omega)
  rw [bf,show (L[i].1.len:Int)-1=((L[i].1.len-1:Nat):Int) by omega] at e1
  have e2:=hno p (L[i].1.len-1) 1152921504606846976 (by omega) (by omega)
  rw [ud _ _ (by omega) (by omega),fc] at e2
  have hnm:1≤p^(L[i].1.len-1):=qy (IsP.pos (p:=p));have w1:IntKind.i64.wrap (p^(L[i].1.len-1)-1)=p^(L[i].1.len-1)-1:=w64 (by omega)
  have w2:IntKind.i64.wrap (out*(p^(L[i].1.len-1)-1))=out*(p^(L[i].1.len-1)-1):=w64 (by omega)
  have w3:IntKind.i64.wrap ((L[i].2:Int)-1)=((L[i].2-1:Nat):Int):=(w64 (by omega)).trans (by omega)
  have w4:IntKind.i64.wrap ((i:Int)+1)=((i+1:Nat):Int):=(w64 (x:=(i:Int)+1) (by omega)).trans (by omega)
  have st:=a4v (O:=O) (p:=p) (LD:=L.map mf) (n:=L.length) (i:=i) (k:=((L[i].2-1:Nat):Int)) hnm (L[i].2-1) 0 (out*(p^(L[i].1.len-1)-1)) (by omega) (by omega) (by omega) s3 (by omega)
  have ih:=a1u hdg hno hL hl r (i+1) (e+L[i].2*(L[i].1.len-1)) _ (by omega) s1 s2 (by omega)
  rw [show Gr p out (L[i]::L.drop (i+1))=Gr p (out*(p^(L[i].1.len-1)-1)*(p^(L[i].1.len-1))^(L[i].2-1)) (L.drop (i+1)) from rfl];refine c8 ?_ ih;have hLD:(L.map mf).length=L.length:=ba ..;have hx:∀h:i<(L.map mf).length,(L.map mf)[i]'h=.st [.leaf,.leaf] [(D.sl .leaf (ah .i64 (row L[i].1))),(D.int .i64 (L[i].2))]:=fun h=>by rw [e9]
  have hlt':(i:Int)<L.length:=by omega
  generalize p^(L[i].1.len-1)=N at *;generalize ((L[i].2-1:Nat):Int)=k at *;generalize ((L[i].1.len-1:Nat):Int)=d at *;generalize row L[i].1=R at *;generalize (L[i].2:Int)=e2' at *;generalize L.map mf=LD at *;simp -implicitDefEqProofs [Z7_L1,az,hlt,hlt',hLD,hx,e1,e2,w1,w2,w3,w4,st]
theorem a0b (hT:T F7=some Z7) (hdc:xv (den T A) Fm) (hro:qa (den T A)) (hfa:Lz (den T A)) (hdg:me (den T A)) (hno:ti (den T A)):E8 (den T A) F7:=by
 intro p a ha gl;have e1:=hdc p a 1 12 ha gl
 by_cases h:dgC p a 1 12=0
 ·have h':=h
  rw [h] at e1;obtain ⟨ip,X,rfl,h1,h2,hX⟩:=a5z ha gl h;rw [Qe h' hX];have hX0:X≠0:=fun h0=>by rw [h0,Pol.len_zero] at h1; omega
  have e2:=hro p X hX;obtain ⟨f1,f2,e3⟩:=hfa p X hX0 (by omega)
  obtain ⟨g1,g2⟩:=f1.small hX0 (by omega)
  have st:=a1u (O:=den T A) hdg hno (L:=fac X) (fun x hx=>⟨(g1 x hx).2.2.1,(g1 x hx).1,(g1 x hx).2.1,(g1 x hx).2.2.2⟩) f2 (fac X).length 0 0 1 (bv _) (by omega) (by rw [eo]; omega) (by rw [dx]; omega)
  rw [show ((0:Nat):Int)=0 from rfl,dx,show Gr p 1 (fac X)=eul X from rfl] at st;have hLD:((fac X).map mf).length=(fac X).length:=ba ..;refine cd hT rfl ?_;generalize eul X=E at *;generalize (fac X).map mf=LD at *;generalize (fac X).length=n at *;generalize pad (row X)=Px at *;generalize row X=Rx at *;simp -implicitDefEqProofs [Z7,Z7_B,az,e1,e2,e3,hLD,st]
 ·rw [a82 h]
  refine cd hT rfl ?_;generalize dgC p a 1 12=c at *;simp -implicitDefEqProofs [Z7,Z7_B,az,e1,h]
end Pe
namespace Pe
open Go Gq
variable {T:Nat→Option Fn} {A:ap}
def a5b (O:ap):Prop:=∀L:List D,ask O F20 [.sl .leaf L]=some (D.bool (decide ((4096:Int)<L.length)))
theorem Dm {p:Int} [IsP p] (a b:Fp p):kv p [pad (row a),pad (row b)]=0:=Ca [a,b]
theorem ado (hT:T F20=some Z20):a5b (den T A):=by
 intro L;refine cd hT rfl ?_;simp -implicitDefEqProofs [Z20,Z20_B]
theorem yq {a m:List Int} (ha:kh a) (gl:a.length=64) (hm:kh m) (glm:m.length=64):Ve [a,m]:=fun x hx=>by
 simp at hx;rcases hx with rfl | rfl
 ·exact ⟨gl,ha⟩
 ·exact ⟨glm,hm⟩
def tg (O:ap):Prop:=∀(p:Int) [IsP p] (a b:Fp p),a.len≤64→b.len≤64→ask O Fc [(D.int .i64 p),(D.arr 64 .leaf (ah .u8 (pad (row a)))),(D.arr 64 .leaf (ah .u8 (pad (row b))))]=some (if (a*b).len≤64 then .tup [(D.arr 64 .leaf (ah .u8 (pad (row (a*b))))),(D.int .i64 0)] else .tup [(D.arr 64 .leaf (ah .u8 (pad []))),(D.int .i64 3)])
theorem Gs (hT:T Fc=some Zc) (hpc:ni (den T A)) (hro:qa (den T A)) (hti:rh (den T A)) (hto:zu (den T A)):tg (den T A):=by
 intro p ip X M hX hM;have e1:=hpc p [pad (row X),pad (row M)] (yq (lh X) (c5 _) (lh M) (c5 _)) (by simp)
 rw [Dm,show [pad (row X),pad (row M)].map kl=[(D.arr 64 .leaf (ah .u8 (pad (row X)))),(D.arr 64 .leaf (ah .u8 (pad (row M))))] from rfl] at e1;have e2:=hro p X hX;have e3:=hro p M hM;have e4:=hti p X M (by omega) (by omega)
 have hl:(X*M).len<1000000:=by
  by_cases h0:X=0
  ·rw [h0,Gq.zero_mul,Pol.len_zero]; omega
  ·by_cases h1:M=0
   ·rw [h1,Gq.mul_zero,Pol.len_zero]; omega
   ·have:=Pol.len_mul h0 h1
    omega
 have e5:=hto (row (X*M)) (sa _) (by rw [bf]; exact hl)
 unfold G1 at e5;rw [bf] at e5;refine cd hT rfl ?_;generalize pad (row (X*M))=Pr at *;generalize row (X*M)=Rr at *;generalize pad (row X)=Px at *;generalize row X=Rx at *;generalize pad (row M)=Pm at *;generalize row M=Rm at *
 by_cases h:(X*M).len≤64
 ·rw [if_pos h] at e5 ⊢
  simp -implicitDefEqProofs [Zc,Zc_B,az,e1,e2,e3,e4,e5,List.replicate]
 ·rw [if_neg h] at e5 ⊢
  simp -implicitDefEqProofs [Zc,Zc_B,az,e1,e2,e3,e4,e5,List.replicate]
section
variable {p:Int}
end
section
variable {p:Int} [ip:IsP p] {M N X Y:Fp p}
end
theorem Tl {p:Int} [IsP p] {a b:Fp p} {x y:Nat} (ha:a.len≤x) (hb:b.len≤y):(a*b).len≤x+y:=by
 by_cases h0:a=0
 ·rw [h0,Gq.zero_mul,Pol.len_zero]; omega
 ·by_cases h1:b=0
  ·rw [h1,Gq.mul_zero,Pol.len_zero]; omega
  ·have:=Pol.len_mul h0 h1
   omega
theorem Xb {p:Int} [IsP p] (a b:Fp p):a+Pol.C (zp p 1)*b=a+b:=by rw [zh,Pol.C_one,Gq.one_mul]
end Pe
namespace Pe
open Go Gq
section
variable {p:Int} [ip:IsP p]
variable {q:Fp p}
end
section
variable {p:Int}
variable {q:Fp p}
end
section
variable {p:Int} [ip:IsP p]
variable {q:Fp p}
end
section
variable {p:Int}
variable {q:Fp p}
end
section
variable {p:Int} [ip:IsP p]
variable {q:Fp p}
end
section
variable {K S:Type} [CR K] [CR S]
structure Hom (f:K→S):Prop where
 add:∀x y,f (x+y)=f x+f y
 mul:∀x y,f (x*y)=f x*f y
 one:f 1=1
theorem Hom.zero {f:K→S} (h:Hom f):f 0=0:=by
 have e:=h.add 0 0;rw [Gq.add_zero] at e;have e2:f 0+f 0-f 0=f 0:=bq [f 0] rfl;rw [←e,Gq.sub_self] at e2;exact e2.symm
noncomputable def evP (f:K→S) (z:S) (a:Pol K):S:=ff (fun i=>f (a.c i)*pw z i) a.len
variable {f:K→S} {z:S}
theorem Hom.pw {g:K→S} (h:Hom g) (a:K):∀n,g (Gq.pw a n)=Gq.pw (g a) n
 | 0=>h.one
 | n+1=>by rw [Gq.pw,Gq.pw,h.mul,Hom.pw h a n]
end
section
variable {S:Type} [CR S]
def prR (f:Nat→S):Nat→S
 | 0=>1
 | n+1=>prR f n*f n
theorem Hom.pr {K:Type} [CR K] {g:K→S} (h:Hom g) (f:Nat→K):∀n,g (prR f n)=prR (fun i=>g (f i)) n
 | 0=>h.one
 | n+1=>by rw [prR,prR,h.mul,Hom.pr h f n]
end
section
variable {p:Int} [IsP p]
end
section
variable {p:Int} [IsP p]
noncomputable def stp (m x:Fp p):Fp p:=(Pol.X*x+pw x p.toNat%m)%m
noncomputable def stI (m:Fp p):Nat→Fp p→Fp p
 | 0,x=>x
 | k+1,x=>stp m (stI m k x)
theorem D7 (m:Fp p):∀(k:Nat) (x:Fp p),stI m (k+1) x=stI m k (stp m x)
 | 0,_=>rfl
 | k+1,x=>by show stp m (stI m (k+1) x)=stp m (stI m k (stp m x)); rw [D7 m k x]
noncomputable def av (m x f:Fp p):Fp p:=ff (fun i=>Pol.C (f.c i)*stI m i x) f.len
theorem G9 {m x f:Fp p} {N:Nat} (h:f.len≤N):av m x f=ff (fun i=>Pol.C (f.c i)*stI m i x) N:=by
 obtain ⟨k,rfl⟩:=gi h;exact (Ma _ _ (fun i hi=>by rw [lr hi,Pol.C_zero,Gq.zero_mul]) k).symm
theorem oh (m x:Fp p):Lin (av m x) where
 add f g:=by
  have h1:=od f.len g.len;have h2:=ll f.len g.len;rw [G9 h1,G9 h2,G9 (Pol.len_add_le h1 h2),←xc];exact ug fun i _=>by rw [Pol.c_add,Pol.C_add,Gq.add_mul]
 mul k f:=by
  rw [G9 (bj f.len),G9 (ma k f),←wn];exact ug fun i _=>by rw [Pol.c_Cmul,Pol.C_mul,Gq.mul_assoc]
theorem Tg (m x:Fp p) (c:Zp p):av m x (Pol.C c)=Pol.C c*x:=by
 rw [G9 (N:=1) (Pol.len_le fun i hi=>by rw [Pol.c_C,if_neg (by omega)])]
 show 0+Pol.C ((Pol.C c:Fp p).c 0)*x=_;rw [Gq.zero_add,Pol.c_C,if_pos rfl]
theorem a3p (m x f:Fp p):av m x (Pol.X*f)=av m (stp m x) f:=by
 have hl:(Pol.X*f).len≤f.len+1:=Pol.len_le fun i hi=>by
  obtain ⟨j,rfl⟩:∃j,i=j+1:=⟨i-1,by omega⟩
  rw [Pol.c_Xmul,if_neg (by omega)]; exact lr (by omega)
 rw [G9 hl,J8,G9 (bj f.len)];rw [Pol.c_Xmul,if_pos rfl,Pol.C_zero,Gq.zero_mul,Gq.zero_add];exact ug fun i _=>by rw [Pol.c_Xmul,if_neg (by omega),D7]; rfl
variable {m:Fp p}
theorem yc (hm:m≠0) (x:Fp p):(stp m x).len<m.len:=Pol.len_mod _ hm
theorem Dh (hm:m≠0) {x:Fp p} (hx:x.len<m.len):∀k,(stI m k x).len<m.len
 | 0=>hx
 | _+1=>yc hm _
theorem Eq (hm:m≠0) {x:Fp p} (hx:x.len<m.len) (f:Fp p):(av m x f).len<m.len:=by
 have:∀n,(ff (fun i=>Pol.C (f.c i)*stI m i x) n).len<m.len:=fun n=>by
  induction n with
  | zero=>show (0:Fp p).len<_; rw [Pol.len_zero]; exact Pol.len_pos hm
  | succ n ih=>
   have h1:=Dh hm hx n;have h2:=ma (f.c n) (stI m n x);have:=Pol.len_add_le (a:=ff (fun i=>Pol.C (f.c i)*stI m i x) n) (b:=Pol.C (f.c n)*stI m n x) (n:=m.len-1) (by omega) (by omega)
   exact Nat.lt_of_le_of_lt this (by omega)
 exact this _
theorem En (hm:m≠0) (a:Fp p):Quo.mk m (a%m)=Quo.mk m a:=(Pol.mod_eq_iff hm).1 (Pol.mod_mod a hm)
theorem zd (hm:m≠0) (x:Fp p):Quo.mk m (stp m x)=Quo.mk m Pol.X*Quo.mk m x+pw (Quo.mk m x) p.toNat:=by
 unfold stp;rw [En hm,Quo.mk_add,Quo.mk_mul,En hm,Quo.mk_pow]
theorem E6 (hm:m≠0) {a b:Fp p} (ha:a.len<m.len) (hb:b.len<m.len) (h:Quo.mk m a=Quo.mk m b):a=b:=by
 have e:=(Pol.mod_eq_iff hm).2 h
 rwa [Pol.mod_small ha,Pol.mod_small hb] at e
theorem a7b (hm:m≠0) (x y:Fp p):stp m (x+y)=stp m x+stp m y:=by
 have h1:=yc hm x;have h2:=yc hm y;refine E6 hm (yc hm _) (Nat.lt_of_le_of_lt (Pol.len_add_le (n:=m.len-1) (by omega) (by omega)) (by omega)) ?_
 rw [Quo.mk_add,zd hm,zd hm,zd hm,Quo.mk_add,wo];exact bq [Quo.mk m Pol.X,Quo.mk m x,Quo.mk m y,pw (Quo.mk m x) p.toNat,pw (Quo.mk m y) p.toNat] rfl
theorem a39 (hm:m≠0) (k:Zp p) (x:Fp p):stp m (Pol.C k*x)=Pol.C k*stp m x:=by
 have h1:=yc hm x;have h2:=ma k (stp m x);refine E6 hm (yc hm _) (by omega) ?_
 rw [Quo.mk_mul,zd hm,zd hm,Quo.mk_mul,sb];have e:pw (Quo.mk m (Pol.C k)) p.toNat=Quo.mk m (Pol.C k):=by rw [←Quo.mk_pow,←a11,ue]
 rw [e];exact bq [Quo.mk m Pol.X,Quo.mk m x,Quo.mk m (Pol.C k),pw (Quo.mk m x) p.toNat] rfl
theorem a1c (hm:m≠0):stp m 0=0:=by
 have:=a39 hm 0 0
 rwa [Pol.C_zero,Gq.zero_mul,Gq.zero_mul] at this
theorem a93 (hm:m≠0) (c:Zp p) (x:Fp p):∀k,stI m k (Pol.C c*x)=Pol.C c*stI m k x
 | 0=>rfl
 | k+1=>by rw [stI,a93 hm c x k,a39 hm]; rfl
theorem a7c (hm:m≠0) (k:Zp p) (x f:Fp p):av m (Pol.C k*x) f=Pol.C k*av m x f:=by
 unfold av;rw [←wn]
 exact ug fun i _=>by
  rw [a93 hm];exact bq [Pol.C k,Pol.C (f.c i),stI m i x] rfl
theorem a9l (hm:m≠0) (x f:Fp p):stp m (av m x f)=av m (stp m x) f:=by
 have:∀n,stp m (ff (fun i=>Pol.C (f.c i)*stI m i x) n)=ff (fun i=>Pol.C (f.c i)*stI m i (stp m x)) n:=fun n=>by
  induction n with
  | zero=>exact a1c hm
  | succ n ih=>rw [ff,a7b hm,ih,a39 hm,ff,←D7]; rfl
 exact this _
theorem a5y (hm:m≠0) (b:Fp p):∀(a x:Fp p),av m x (a*b)=av m (av m x b) a:=by
 have key:∀(n:Nat) (a:Fp p),a.lt n→∀x,av m x (a*b)=av m (av m x b) a:=fun n a ha=>Or (P:=fun a=>∀x,av m x (a*b)=av m (av m x b) a)
  (fun x=>by rw [Gq.zero_mul,(oh m x).zero,(oh m _).zero])
  (fun c a ih x=>by
   have e:(Pol.C c+Pol.X*a)*b=Pol.C c*b+Pol.X*(a*b):=bq [Pol.C c,Pol.X,a,b] rfl;rw [e,(oh m x).add,(oh m x).mul,a3p,ih,(oh m _).add,Tg,a3p,a9l hm]) n a ha
 intro a x;obtain ⟨n,hn⟩:=a.fin;exact key n a hn x
theorem Wy (hm:m≠0) (f:Fp p):av m 0 f=0:=by
 have:=a7c hm 0 0 f
 rwa [Pol.C_zero,Gq.zero_mul,Gq.zero_mul] at this
theorem MinR.dv (hm:m≠0) {x f a:Fp p} (h:MinR (av m x) a) (hf:av m x f=0):Dv a f:=by
 have e:=Pol.div_mod f a
 have h0:av m x (f%a)=0:=by
  have e1:f%a=f-f/a*a:=by
   have:f%a=f/a*a+f%a-f/a*a:=bq [f%a,f/a*a] rfl
   rwa [←e] at this
  rw [e1,(oh m x).sub,hf,a5y hm,h.zero,Wy hm];exact Gq.sub_self _
 have h1:=h.least _ (Pol.len_mod f h.mon.2) h0;exact (uj h.mon.2).2 h1
end
end Pe
namespace Pe
open Go Gq
variable {T:Nat→Option Fn} {A:ap}
def a1k (p d:Int):Prop:=0≤d∧d≤8∧p^d.toNat≤343
instance (p d:Int):Decidable (a1k p d):=by unfold a1k; infer_instance
theorem P8 {O:ap} {g:Nat} {first caps cs:List D} {P:D→Bool} (hF:sk O g first caps cs P) (hs:A7 .leaf cs) (hl:cs.length<2000000):∀(m i:Nat),i+m=cs.length →
 dn O 0 (.loop ir_slices_IndexFunc_impl_row_impl_row_L0) ⟨[(0,.d (.sl .leaf cs)),(1,.d (.fn g first caps)),(7,(.d (.int .i64 cs.length))),(8,(.d (.int .i64 i)))],[]⟩ =
  if (cs.drop i).any P then some (.ret,⟨[(4,(.d (.int .i64 (lj P (cs.drop i) i))))],[]⟩) else some (.exit 0,⟨[(0,.d (.sl .leaf cs)),(1,.d (.fn g first caps)),(7,(.d (.int .i64 cs.length))),(8,(.d (.int .i64 cs.length))),(9,(.d (.bool false)))],[]⟩)
 | 0,i,hi=>by
  have:i=cs.length:=by omega
  subst this;rw [lk];exact cg (by simp -implicitDefEqProofs [ir_slices_IndexFunc_impl_row_impl_row_L0,az])
 | m+1,i,hi=>by
  have hlt:i<cs.length:=by omega
  have h1:(i:Int)<cs.length:=by omega
  have hx:cs[i]? = some cs[i]:=b7 hlt;have hm:cs[i]∈cs:=c6 hlt;have hc:=Cy (O:=O) (np:=0) (h:=[]) (news:=[]) hF.1 hF.2.1 (hF.2.2.1 _ hm) (hF.2.2.2 _ hm) rfl;have hsh:=hs _ hm;have w4:IntKind.i64.wrap ((i:Int)+1)=((i+1:Nat):Int):=(w64 (x:=(i:Int)+1) (by omega)).trans (by omega)
  rw [bt hlt];cases hp:P cs[i]
  ·rw [hp] at hc
   refine c8 (s1:=⟨[(0,.d (.sl .leaf cs)),(1,.d (.fn g first caps)),(7,(.d (.int .i64 cs.length))),(8,(.d (.int .i64 ((i+1:Nat)))))],[]⟩) ?_ ?_
   ·simp -implicitDefEqProofs [ir_slices_IndexFunc_impl_row_impl_row_L0,az,h1,hx,hsh,hc,w4]
   ·rw [P8 hF hs hl m (i+1) (by omega)]
    simp only [og,hp,Bool.false_or,lj,b8,if_false]
  ·rw [hp] at hc
   have e:lj P (cs[i]::cs.drop (i+1)) i=i:=by simp [lj,hp]
   rw [e];simp only [og,hp,Bool.true_or,if_true];exact nj (by simp -implicitDefEqProofs [ir_slices_IndexFunc_impl_row_impl_row_L0,az,h1,hx,hsh,hc])
theorem a50 (hT:T F2e=some Z2e):gy (den T A) F2e .leaf:=by
 intro g first caps cs P hF hs hl;have h:=P8 hF hs hl cs.length 0 (bv _);rw [dx] at h;have e0:((0:Nat):Int)=0:=rfl;rw [e0] at h;refine cd hT rfl ?_
 by_cases ha:cs.any P=true
 ·rw [if_pos ha] at h
  simp -implicitDefEqProofs [Z2e,ir_slices_IndexFunc_impl_row_impl_row_B,h]
 ·rw [if_neg ha] at h
  have hn:lj P cs 0=-1:=by
   have hi:∀(ds:List D) (i:Nat),ds.any P=false→lj P ds i=-1:=by
    intro ds
    induction ds with
    | nil=>intro i _; rfl
    | cons d ds ih=>intro i hd; simp at hd; rw [lj,hd.1]; simpa using ih (i+1) (by simpa using hd.2)
   exact hi cs 0 (by simpa using ha)
  simp -implicitDefEqProofs [Z2e,ir_slices_IndexFunc_impl_row_impl_row_B,h,hn]
section
variable {p:Int} [IsP p]
open Classical in
noncomputable def irB (a:Fp p):Bool:=decide (Monic a∧Irr a)
theorem Lf (P:D→Bool) (R:Fp p→D):∀(L:List (Fp p)) (i:Nat),(∀a∈L,P (R a) = !irB a)→(lj P (L.map R) i=-1∧L.filter irB=L)∨∃k,lj P (L.map R) i=((i+k:Nat):Int)∧k<L.length∧L.filter irB=L.take k++(L.drop (k+1)).filter irB
 | [],i,_=>.inl ⟨rfl,rfl⟩
 | a::L,i,hP=>by
  rw [cw];have hPa:=hP a (by simp)
  by_cases h:irB a=true
  ·have hp:P (R a)=false:=by rw [hPa,h]; rfl
   have e:lj P (R a::L.map R) i=lj P (L.map R) (i+1):=by rw [lj,hp]; rfl
   rw [e];rcases Lf P R L (i+1) fun b hb=>hP b (by simp [hb]) with ⟨h1,h2⟩ | ⟨k,h1,h2,h3⟩
   ·exact .inl ⟨h1,by rw [List.filter_cons_of_pos h,h2]⟩
   ·refine .inr ⟨k+1,by rw [h1]; congr 1; omega,by simpa using h2,?_⟩
    rw [List.filter_cons_of_pos h,h3,g8,List.drop_succ_cons];rfl
  ·have h':irB a=false:=by simpa using h
   have hp:P (R a)=true:=by rw [hPa,h']; rfl
   refine .inr ⟨0,by rw [lj,hp]; rfl,by simp,?_⟩
   rw [List.filter_cons_of_neg h];rfl
end
def Ow (O:ap):Prop:=∀(p:Int) [IsP p] (a:Fp p),a.len≤13→ask O Fa [(D.sl .leaf (ah .i64 (row a))),.ip (D.int .i64 p)]=some (D.bool (!irB a))
theorem aap (hT:T Fa=some Za) (hir:H5 (den T A)):Ow (den T A):=by
 intro p ip a ha;have e:=hir p a ha;have e2:ask (den T A) F19 [(D.int .i64 p),(D.sl .leaf (ah .i64 (row a)))]=some (D.bool (irB a)):=e;refine cd hT rfl ?_;generalize irB a=b at *;simp -implicitDefEqProofs [Za,Za_B,e2]
theorem a4s {O:ap} (h1:Ow O) {p:Int} [IsP p] {L:List (Fp p)} (hL:∀a∈L,a.len≤13) (hl:L.length<10000) {cp:Option Nat}:∀(r j i:Nat) (cur:List D),j+r=L.length→i≤j→cur.length=L.length→A7 .leaf cur→cur.drop j=(L.drop j).map cl→∃cur':List D,
 dn O 2 (.loop ir_slices_DeleteFunc_impl_row_impl_row_L0) ⟨[(0,.sl 0 [] 0 L.length cp),(1,.fn Fa [] [.ptr 1 []]),(5,(.d (.int .i64 i))),(6,(.d (.int .i64 j)))],[.sl false .leaf cur,.box false (D.int .i64 p)]⟩ =
  some (.exit 0,⟨[(0,.sl 0 [] 0 L.length cp),(1,.fn Fa [] [.ptr 1 []]),(5,(.d (.int .i64 (((i+((L.drop j).filter irB).length:Nat):Int))))),(6,(.d (.int .i64 L.length))),(19,(.d (.bool false)))],[.sl false .leaf cur',.box false (D.int .i64 p)]⟩) ∧
  cur'.length=L.length∧cur'.take (i+((L.drop j).filter irB).length)=cur.take i++((L.drop j).filter irB).map cl
 | 0,j,i,cur,hj,hij,hc,hsh,hd=>by
  obtain rfl:j=L.length:=by omega
  rw [lk];refine ⟨cur,cg ?_,hc,by simp⟩
  generalize L.length=n at *;simp -implicitDefEqProofs [ir_slices_DeleteFunc_impl_row_impl_row_L0,az]
 | r+1,j,i,cur,hj,hij,hc,hsh,hd=>by
  have hlt:j<L.length:=by omega
  have hltc:j<cur.length:=by omega
  have hdL:L.drop j=L[j]::L.drop (j+1):=bt hlt;have hdc:cur.drop j=cur[j]::cur.drop (j+1):=bt hltc;rw [hdL,hdc,cw,List.cons.injEq] at hd;obtain ⟨hd1,hd2⟩:=hd;have hx:cur[j]=(D.sl .leaf (ah .i64 (row L[j]))):=hd1;have e1:=h1 p L[j] (hL _ (c6 hlt));have w4:IntKind.i64.wrap ((j:Int)+1)=((j+1:Nat):Int):=(w64 (x:=(j:Int)+1) (by omega)).trans (by omega)
  have w5:IntKind.i64.wrap ((i:Int)+1)=((i+1:Nat):Int):=(w64 (x:=(i:Int)+1) (by omega)).trans (by omega)
  have hil:i<cur.length:=by omega
  have hil':i<L.length:=by omega
  have hsi:=hsh _ (c6 hil);have hll:Sh.beq .leaf .leaf=true:=rfl;have hl64:L.length≤cur.length:=by omega
  rw [hdL]
  by_cases hb:irB L[j]=true
  ·rw [List.filter_cons_of_pos hb]
   rw [hb] at e1;obtain ⟨cur',ih,g1,g2⟩:=a4s (O:=O) h1 hL hl (cp:=cp) r (j+1) (i+1) (cur.set i (D.sl .leaf (ah .i64 (row L[j])))) (by omega) (by omega) (by rw [cx]; exact hc) (fun x hx=>(fl hx).elim (hsh x) fun e=>by rw [e]; rfl) (by rw [List.drop_set_of_lt (by omega)]; exact hd2)
   have t1:i+(L[j]::(L.drop (j+1)).filter irB).length=i+1+((L.drop (j+1)).filter irB).length:=by rw [bu]; omega
   rw [t1];refine ⟨cur',c8 ?_ ih,g1,?_⟩
   ·generalize row L[j]=Rj at *
    simp -implicitDefEqProofs [ir_slices_DeleteFunc_impl_row_impl_row_L0,az,hlt,hltc,hil,hil',hx,e1,w4,w5,hsi,hll]
   ·rw [g2,List.take_add_one,bc hil,Option.toList_some,List.take_set_of_le (by omega),cw,gw]
    rfl
  ·have hb':irB L[j]=false:=by simpa using hb
   rw [List.filter_cons_of_neg hb];rw [hb'] at e1;obtain ⟨cur',ih,g1,g2⟩:=a4s (O:=O) h1 hL hl (cp:=cp) r (j+1) i cur (by omega) (by omega) hc hsh hd2
   refine ⟨cur',c8 ?_ ih,g1,g2⟩;generalize row L[j]=Rj at *;simp -implicitDefEqProofs [ir_slices_DeleteFunc_impl_row_impl_row_L0,az,hlt,hltc,hx,e1,w4]
def J0 (O:ap):Prop:=∀(p:Int) [IsP p] (L:List (Fp p)) (cp:Option Nat),(∀a∈L,a.len≤13)→L.length<10000→∃(cp':Option Nat) (rest:List D),
 O F2b [.sl 0 [] 0 L.length cp,.fn Fa [] [.ptr 1 []]] [.sl false .leaf (L.map cl),.box false (D.int .i64 p)] =
  some (.sl 0 [] 0 (L.filter irB).length cp',[.sl false .leaf ((L.filter irB).map cl++rest),.box false (D.int .i64 p)],[])
theorem a2q (hT:T F2b=some Z2b) (hi:gy (den T A) F2e .leaf) (h1:Ow (den T A)):J0 (den T A):=by
 intro p ip L cp hL hl
 let P:D→Bool:=fun d=>match ask (den T A) Fa [d,.ip (D.int .i64 p)] with | some (.bool b)=>b | _=>false
 have hPr:∀a,a.len≤13→ask (den T A) Fa [cl a,.ip (D.int .i64 p)]=some (D.bool (P (cl a)))∧P (cl a) = !irB a:=fun a ha=>by
  have e:=h1 p a ha
  have e2:P (cl a) = !irB a:=by
   show (match ask (den T A) Fa [cl a,.ip (D.int .i64 p)] with | some (.bool b)=>b | _=>false)=_
   rw [show ask (den T A) Fa [cl a,.ip (D.int .i64 p)]=some (D.bool (!irB a)) from e]
  exact ⟨by rw [e2]; exact e,e2⟩
 have hFn:sk (den T A) Fa [] [.ip (D.int .i64 p)] (L.map cl) P:=by
  refine ⟨fun x hx=>(by cases hx),fun x hx=>(by simp at hx; subst hx; rfl),fun x hx=>?_,fun x hx=>?_⟩
  ·obtain ⟨a,_,rfl⟩:=ch.1 hx
   rfl
  ·obtain ⟨a,ha,rfl⟩:=ch.1 hx
   exact (hPr a (hL a ha)).1
 have hSh:A7 .leaf (L.map cl):=fun x hx=>by
  obtain ⟨a,_,rfl⟩:=ch.1 hx;rfl
 have hLl:(L.map cl).length=L.length:=ba ..;have e0:=hi Fa [] [.ip (D.int .i64 p)] (L.map cl) P hFn hSh (by omega)
 have ht:(L.map cl).take L.length=L.map cl:=bb (by omega)
 rcases Lf P cl L 0 (fun a ha=>(hPr a (hL a ha)).2) with ⟨g1,g2⟩ | ⟨k,g1,g2,g3⟩
 ·rw [g1] at e0
  rw [g2];refine ⟨cp,[],na hT rfl ?_⟩;rw [fa];clear hPr hFn
  clear_value P
  generalize L.map cl=LD at *;generalize L.length=n at *;simp -implicitDefEqProofs [Z2b,ir_slices_DeleteFunc_impl_row_impl_row_B,az,e0,hLl,ht,List.idxOf,List.findIdx]
 ·rw [g1,bv] at e0
  obtain ⟨cur',e1,q1,q2⟩:=a4s (O:=den T A) h1 hL hl (cp:=cp) (L.length-(k+1)) (k+1) k (L.map cl) (by omega) (by omega) hLl hSh (by rw [List.map_drop])
  have hn:k+((L.drop (k+1)).filter irB).length=(L.filter irB).length:=by
   rw [g3,bo,bm,Nat.min_eq_left (by omega)]
  have hK:cur'.take (L.filter irB).length=(L.filter irB).map cl:=by
   rw [←hn,q2,g3,da,List.map_take]
  rw [hn] at e1;have hle:(L.filter irB).length≤L.length:=List.length_filter_le ..;have w4:IntKind.i64.wrap ((k:Int)+1)=((k+1:Nat):Int):=(w64 (x:=(k:Int)+1) (by omega)).trans (by omega)
  have hk1:¬ (k:Int)=-1:=by omega
  refine ⟨cp.map (· - 0),List.replicate (L.length-(L.filter irB).length) (.sl .leaf [])++cur'.drop ((L.filter irB).length+(L.length-(L.filter irB).length)),na hT rfl ?_⟩
  rw [←hK];clear hPr hFn hK q2 hn g3
  clear_value P
  generalize (L.filter irB).length=m at *;generalize L.map cl=LD at *;generalize L.length=n at *;have hmn:m+(n-m)≤cur'.length:=by omega
  have a8n:m+(n-m)=n:=by omega
  generalize ((k+1:Nat):Int)=K1 at *;simp -implicitDefEqProofs [Z2b,ir_slices_DeleteFunc_impl_row_impl_row_B,az,e0,e1,hLl,ht,w4,hk1,hle,q1,List.idxOf,List.findIdx]
end Pe
