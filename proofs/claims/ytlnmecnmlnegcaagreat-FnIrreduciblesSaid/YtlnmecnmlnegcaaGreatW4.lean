/-
  A part of the proof: an evaluator for a small form of the code, its soundness, and contracts of functions over it.
-/
import Derived.KernelRfl
import Derived.Test.YtlnmecnmlnegcaaGreatW1
import Derived.Test.YtlnmecnmlnegcaaGreatW2
import Derived.Test.YtlnmecnmlnegcaaGreatW3

namespace Pe
open Go Gq
variable {T:Nat→Option Fn} {A:ah}
theorem T3 {p:Int} (a:Fp p) (h:a.len≤64):xd (pad (row a))=row a:=uz fun i=>by rw [uk (by rw [bg]; exact h),f7]
theorem x7 {l:List Int} {i:Nat} (h:i<l.length):l.take i++[l[i]]=l.take (i+1):=by
 rw [List.take_add_one,ao h]; rfl
theorem Oa {O:ah} {l:List Int} (hb:ft l) (hl:l.length=64):∀(m i:Nat) (cp:Option Nat),i+m=64 →
 dn O 0 (.loop Z1f_L0) ⟨[(3,.sl 1 [] 0 i cp),(6,(.d (.arr 64 .leaf (ak .u8 l)))),(7,(.d (.int .i64 i)))],[.hole,.sl false .leaf (ak .i64 (l.take i)),.hole,.hole]⟩ =
  some (.exit 0,⟨[(3,.sl 1 [] 0 64 (if m=0 then cp else none)),(6,(.d (.arr 64 .leaf (ak .u8 l)))),(7,(.d (.int .i64 64))),(8,(.d (.bool false)))],[.hole,.sl false .leaf (ak .i64 (l.take 64)),.hole,.hole]⟩)
 | 0,i,cp,hi=>by
  have:i=64:=by omega
  subst this;exact bo (by simp -implicitDefEqProofs [Z1f_L0,af])
 | m+1,i,cp,hi=>by
  have h1:(i:Int)<64:=by omega
  have hlt:i<l.length:=by omega
  have hx:l[i]? = some l[i]:=ao hlt;have hb':=hb _ (ce hlt);have w1:IntKind.i64.wrap l[i]=l[i]:=w64 (by omega)
  have w4:IntKind.i64.wrap ((i:Int)+1)=((i+1:Nat):Int):=(w64 (x:=(i:Int)+1) (by omega)).trans (by omega)
  have h8:(i+1)*8≤1099511627776:=by omega
  have hlen:i≤l.length:=by omega
  have ht:(l.take i).take i=l.take i:=by rw [List.take_take,Nat.min_self]
  have e1:ak .i64 (l.take i)++[D.int .i64 l[i]]=ak .i64 (l.take (i+1)):=by rw [←x7 hlt,←Ah]; rfl
  have ih:=Oa (O:=O) hb hl m (i+1) none (by omega)
  have e2:(if m=0 then (none:Option Nat) else none)=none:=by split <;> rfl
  rw [e2] at ih;rw [if_neg (Nat.succ_ne_zero m)];refine bb ?_ ih;simp -implicitDefEqProofs [Z1f_L0,af,h1,hlt,w1,w4,h8,hlen,ht,e1,List.replicate]
def Gy (O:ah):Prop:=∀l:List Int,ft l→l.length=64→ask O F1f [(D.arr 64 .leaf (ak .u8 l))]=some (D.sl .leaf (ak .i64 (xd l)))
theorem X3 (hT:T F1f=some Z1f) (ht:qh (den T A)):Gy (den T A):=by
 intro l hb hl;have e:=Oa (O:=den T A) hb hl 64 0 (some 0) (bf _);have e0:((0:Nat):Int)=0:=rfl;rw [e0,g7,gt,aw (by omega)] at e
 have e1:=ht l (by omega)
 have ht:l.take 64=l:=aw (by omega)
 refine bc hT rfl ?_;simp -implicitDefEqProofs [Z1f,Z1f_B,e,e1,hl,ht]
def pv (O:ah):Prop:=∀(p:Int) [IsP p] (a:Fp p),a.len≤64→ask O F1f [(D.arr 64 .leaf (ak .u8 (pad (row a))))]=some (D.sl .leaf (ak .i64 (row a)))
theorem ot {p:Int} [IsP p] (a:Fp p):ft (pad (row a)):=fun x hx=>by
 obtain ⟨i,_,rfl⟩:=cb.1 hx;have:=(gv a).le IsP.pos i;have:=IsP.le (p:=p);omega
theorem Wi {O:ah} (h:Gy O):pv O:=fun p i a hl=>by
 rw [h _ (ot a) (bq _),T3 a hl]
theorem Rl {O:ah} {l z:List Int} (hb:ft l) (hl:l.length≤64):∀(m i:Nat) (cur:List Int),i+m=l.length→cur.length=64 →
 dn O 0 (.loop Z1k_L0) ⟨[(2,.ptr 0 []),(3,.ptr 1 []),(6,(.d (.sl .leaf (ak .i64 l)))),(7,(.d (.int .i64 l.length))),(8,(.d (.int .i64 i)))],[.box false (D.arr 64 .leaf (ak .u8 z)),.box false (D.arr 64 .leaf (ak .u8 cur))]⟩ =
  some (.exit 0,⟨[(2,.ptr 0 []),(3,.ptr 1 []),(6,(.d (.sl .leaf (ak .i64 l)))),(7,(.d (.int .i64 l.length))),(8,(.d (.int .i64 l.length))),(9,(.d (.bool false)))],[.box false (D.arr 64 .leaf (ak .u8 z)),.box false (D.arr 64 .leaf (ak .u8 (upd (cf l) m i cur)))]⟩)
 | 0,i,cur,hi,hc=>by
  have:i=l.length:=by omega
  subst this;exact bo (by simp -implicitDefEqProofs [Z1k_L0,af,upd])
 | m+1,i,cur,hi,hc=>by
  have hlt:i<l.length:=by omega
  have hx:l[i]? = some (cf l i):=by rw [ao hlt,dt hlt]
  have hb':=hb _ (ce hlt);rw [←dt hlt] at hb';have w1:IntKind.u8.wrap l[i]=cf l i:=by rw [←dt hlt]; exact w8 hb'
  have w4:IntKind.i64.wrap ((i:Int)+1)=((i+1:Nat):Int):=(w64 (x:=(i:Int)+1) (by omega)).trans (by omega)
  have hi64:i<64:=by omega
  have hcur:cur[i]? = some (cf cur i):=by rw [ao (by omega),dt]
  have ih:=Rl (O:=O) (z:=z) hb hl m (i+1) (cur.set i (cf l i)) (by omega) (by simpa using hc)
  refine bb ?_ ih;simp -implicitDefEqProofs [Z1k_L0,af,hlt,w1,w4,hi64,hcur]
def H0 (O:ah):Prop:=∀l:List Int,ft l→l.length≤64→ask O F1k [(D.sl .leaf (ak .i64 l))]=some (D.arr 64 .leaf (ak .u8 (pad l)))
theorem Wq {l:List Int} (_hl:l.length≤64):upd (cf l) l.length 0 (pad [])=pad l:=by
 symm
 apply Gn
 ·rw [sz,bq]
 ·intro i hi
  unfold cf;rw [bt,bt,Bb]
  by_cases h:i<l.length
  ·rw [if_pos (by rw [bq]; omega)]
   simp [h]
  ·rw [if_neg (by omega),c5 (by omega),o3 _ _ hi]; rfl
theorem a0p (hT:T F1k=some Z1k):H0 (den T A):=by
 intro l hb hl;have e:=Rl (O:=den T A) (z:=pad []) hb hl l.length 0 (pad []) (bf _) (bq []);have e0:((0:Nat):Int)=0:=rfl;rw [e0,Wq hl] at e;refine bc hT rfl ?_;simp -implicitDefEqProofs [Z1k,Z1k_B,e]
theorem vk {p:Int} [IsP p] (a:Fp p):ft (row a):=fun x hx=>by
 have:=gv a x hx;have:=IsP.le (p:=p);omega
def zg (O:ah):Prop:=∀(p:Int) [IsP p] (a:Fp p),a.len≤64→ask O F1k [(D.sl .leaf (ak .i64 (row a)))]=some (D.arr 64 .leaf (ak .u8 (pad (row a))))
theorem a03 {O:ah} (h:H0 O):zg O:=fun p i a hl=>h _ (vk a) (by simpa using hl)
def Bx (O:ah):Prop:=∀l:List Int,l.length<1000000→ask O F1i [(D.sl .leaf (ak .i64 l))]=some (D.bool (decide (l.length≤64)))
theorem Xz (hT:T F1i=some Z1i) (hd:kq (den T A)):Bx (den T A):=by
 intro l hl;have e:=hd l hl;have e2:decide ((l.length:Int)-1≤63)=decide (l.length≤64):=decide_eq_decide.2 (by omega)
 refine bc hT rfl ?_;simp -implicitDefEqProofs [Z1i,Z1i_B,e,e2]
def Ik (l:List Int):D:=if l.length≤64 then .tup [(D.arr 64 .leaf (ak .u8 (pad l))),(D.int .i64 0)] else .tup [(D.arr 64 .leaf (ak .u8 (pad []))),(D.int .i64 3)]
def Bm (O:ah):Prop:=∀l:List Int,ft l→l.length<1000000→ask O F1m [(D.sl .leaf (ak .i64 l))]=some (Ik l)
theorem Yg (hT:T F1m=some Z1m) (hf:Bx (den T A)) (hp:H0 (den T A)):Bm (den T A):=by
 intro l hb hl;have e:=hf l hl;unfold Ik;refine bc hT rfl ?_
 by_cases h:l.length≤64
 ·have e2:=hp l hb h
  simp -implicitDefEqProofs [Z1m,Z1m_B,e,e2,h,af]
 ·simp -implicitDefEqProofs [Z1m,Z1m_B,e,h,af]
def z5 (O:ah):Prop:=∀(p:Int) [IsP p] (a b:Fp p),b≠0→a.len<5000→b.len<5000 →
 ask O F1a [(D.int .i64 p),(D.sl .leaf (ak .i64 (row a))),(D.sl .leaf (ak .i64 (row b)))]=some (D.sl .leaf (ak .i64 (row (a%b))))
theorem Yc (hT:T F1a=some Z1a) (hd:rm (den T A)):z5 (den T A):=by
 intro p i a b hb h1 h2;have e:=hd p a b hb h1 h2;refine bc hT rfl ?_;simp -implicitDefEqProofs [Z1a,Z1a_B,e]
end Pe

namespace Pe
open Go Gq
variable {T:Nat→Option Fn} {A:ah}
section
variable {p:Int} [IsP p]
theorem vb:row (1:Fp p)=[1]:=by
 unfold row;rw [Pol.len_one];show [rep ((1:Fp p).c 0)]=[1];have:(1:Fp p).c 0=1:=rfl;rw [this,va]
end
section
variable {p:Int}
theorem Bt (u z:Fp p):u+Pol.C (zp p (-1))*z=u-z:=by
 rw [Yf,Mb,Pol.C_neg,Pol.C_one];exact c6 [u,z] rfl
end
section
variable {p:Int} [IsP p]
end
def oh (O:ah):Prop:=∀(p:Int) [IsP p] (a b:Fp p),a.len<1000000→b.len<1000000 →
 ask O Fy [(D.int .i64 p),(D.sl .leaf (ak .i64 (row a))),(D.sl .leaf (ak .i64 (row b))),(D.int .i64 (-1))]=some (D.sl .leaf (ak .i64 (row (a-b))))
theorem La {O:ah} (h:z9 O):oh O:=fun p i a b h1 h2=>by
 rw [h p (-1) a b (by omega) (by omega) h1 h2,Bt]
section
variable {p:Int} [IsP p]
theorem Da {A B a b u x v y:Fp p} (h:Pol.BzI A B a b u x v y) (hA:A.len≤2000) (hB:B.len≤2000) (ha:a.len≤2000) (hb:b.len≤2000) (hb0:b≠0) :
 u.len<3000∧v.len<3000∧x.len<3000∧y.len<3000∧(a/b).len<3000∧(a%b).len≤2000∧(a/b*x).len<3000∧(a/b*y).len<3000:=by
 have h1:=h.lu;have h2:=h.lv;have h3:=h.lx;have h4:=h.ly;have h5:=Pol.len_div_le a hb0;have h6:=Pol.len_mod_le a hb0;obtain ⟨h7,h8⟩:=h.qlen hb0;omega
theorem S2 {O:ah} (hd:rm O) (ht:pz O) (hc:oh O) {A B:Fp p} (hA:A.len≤2000) (hB:B.len≤2000):∀(n:Nat) (a b u x v y:Fp p),b.len≤n→a.len≤2000→b.len≤2000→Pol.BzI A B a b u x v y→∃x' y',
 dn O 0 (.loop Zx_L0) ⟨[(0,(.d (.int .i64 p))),(1,(.d (.sl .leaf (ak .i64 (row a))))),(2,(.d (.sl .leaf (ak .i64 (row b))))),(9,(.d (.sl .leaf (ak .i64 (row u))))),(10,(.d (.sl .leaf (ak .i64 (row v))))),(11,(.d (.sl .leaf (ak .i64 (row x))))),(12,(.d (.sl .leaf (ak .i64 (row y)))))],[.hole,.hole]⟩ =
  some (.exit 0,⟨[(0,(.d (.int .i64 p))),(1,(.d (.sl .leaf (ak .i64 (row (Pol.bz n a b u x v y).1))))),(2,(.d (.sl .leaf (ak .i64 ([]))))),(9,(.d (.sl .leaf (ak .i64 (row (Pol.bz n a b u x v y).2.1))))),(10,(.d (.sl .leaf (ak .i64 (row (Pol.bz n a b u x v y).2.2))))),(11,(.d (.sl .leaf (ak .i64 x')))),(12,(.d (.sl .leaf (ak .i64 y')))),(20,(.d (.bool false)))],[.hole,.hole]⟩):=by
 intro n
 induction n with
 | zero=>
  intro a b u x v y hn ha hb hi;obtain rfl:=Pol.len_zero_iff.1 (show b.len=0 by omega)
  exact ⟨row x,row y,bo (by simp -implicitDefEqProofs [Zx_L0,af,dd,Pol.bz,gt])⟩
 | succ n ih=>
  intro a b u x v y hn ha hb hi;unfold Pol.bz
  by_cases h0:b=0
  ·subst h0
   rw [if_pos rfl];exact ⟨row x,row y,bo (by simp -implicitDefEqProofs [Zx_L0,af,dd,gt])⟩
  ·rw [if_neg h0]
   obtain ⟨s1,s2,s3,s4,s5,s6,s7,s8⟩:=Da hi hA hB ha hb h0;have hl:=Pol.len_mod a h0;have hp:=Pol.len_pos h0;obtain ⟨x',y',e⟩:=ih b (a%b) x (u-a/b*x) y (v-a/b*y) (by omega) hb s6 (hi.step h0)
   refine ⟨x',y',bb ?_ e⟩;have e1:=hd p a b h0 (by omega) (by omega)
   have e2:=ht p (a/b) x (by omega) (by omega)
   have e3:=hc p u (a/b*x) (by omega) (by omega)
   have e4:=ht p (a/b) y (by omega) (by omega)
   have e5:=hc p v (a/b*y) (by omega) (by omega)
   simp -implicitDefEqProofs [Zx_L0,af,hp,e1,e2,e3,e4,e5]
end
def Cw (O:ah):Prop:=∀(p:Int) [IsP p] (a b:Fp p),(a≠0∨b≠0)→a.len≤2000→b.len≤2000 →
 ask O Fx [(D.int .i64 p),(D.sl .leaf (ak .i64 (row a))),(D.sl .leaf (ak .i64 (row b)))]=some (.tup [(D.sl .leaf (ak .i64 (row (Pol.bezout a b).1))),(D.sl .leaf (ak .i64 (row (Pol.bezout a b).2.1))),(D.sl .leaf (ak .i64 (row (Pol.bezout a b).2.2)))])
theorem se {p:Int} [IsP p] (x:Zp p) (hx:x≠0):zp p (inv p (rep x))=Fd.inv x:=by
 have h0:=kg x;have h1:rep x≠0:=fun h=>hx (fw.1 h)
 have h2:x*zp p (inv p (rep x))=1:=by
  have:zp p (rep x*inv p (rep x))=1:=by rw [←t6,U2 p _ (by omega) h0.2]; rfl
  rwa [xn,jk] at this
 have h3:=Fd.mul_inv x hx;have:Fd.inv x*(x*zp p (inv p (rep x)))=Fd.inv x*1:=by rw [h2]
 rw [←Gq.mul_assoc,Gq.mul_comm (Fd.inv x),h3,Gq.one_mul,Gq.mul_one] at this;exact this
theorem Te (hT:T Fx=some Zx) (hd:rm (den T A)) (ht:pz (den T A)) (hc:oh (den T A)) (hld:ul (den T A)) (hinv:ow (den T A)) (hs:vh (den T A)):Cw (den T A):=by
 intro p i a b hab ha hb;have hp:=IsP.ge (p:=p);have hp7:=IsP.le (p:=p)
 -- the end
 have last:∀{x y:Fp p} {a' u v:Fp p},Pol.BzI a b a' 0 u x v y→ask (den T A) F1j [(D.sl .leaf (ak .i64 (row a')))]=some (D.int .i64 (rep a'.ld))∧ask (den T A) F13 [(D.int .i64 p),(D.int .i64 (rep a'.ld))]=some (D.int .i64 (inv p (rep a'.ld))) ∧
  ask (den T A) F1b [(D.int .i64 p),(D.sl .leaf (ak .i64 (row a'))),(D.int .i64 (inv p (rep a'.ld)))]=some (D.sl .leaf (ak .i64 (row (Pol.C (Fd.inv a'.ld)*a'))))∧ask (den T A) F1b [(D.int .i64 p),(D.sl .leaf (ak .i64 (row u))),(D.int .i64 (inv p (rep a'.ld)))]=some (D.sl .leaf (ak .i64 (row (Pol.C (Fd.inv a'.ld)*u))))∧ask (den T A) F1b [(D.int .i64 p),(D.sl .leaf (ak .i64 (row v))),(D.int .i64 (inv p (rep a'.ld)))]=some (D.sl .leaf (ak .i64 (row (Pol.C (Fd.inv a'.ld)*v)))):=by
  intro x y a' u v hi;have ha0:a'≠0:=hi.any.resolve_right (fun h=>h rfl)
  have hr:=kg a'.ld;have hin:=v6 p (rep a'.ld);have h1:=hi.lu;have h2:=hi.lv;rw [Pol.len_zero] at h1 h2
  have hal:a'.len<5000:=by
   have:=Pol.len_add_le (a:=u*a) (b:=v*b) (n:=4500) (by
    by_cases hu:u=0
    ·rw [hu,Gq.zero_mul,Pol.len_zero]; omega
    ·by_cases ha0:a=0
     ·rw [ha0,Gq.mul_zero,Pol.len_zero]; omega
     ·have:=Pol.len_mul hu ha0; omega) (by
    by_cases hu:v=0
    ·rw [hu,Gq.zero_mul,Pol.len_zero]; omega
    ·by_cases ha0:b=0
     ·rw [ha0,Gq.mul_zero,Pol.len_zero]; omega
     ·have:=Pol.len_mul hu ha0; omega)
   rw [hi.one] at this;omega
  have e1:=hld (row a') (by rw [bg]; omega)
  rw [Bf] at e1;have e2:=hinv p (rep a'.ld) (by omega) (by omega) hr.1 hr.2
  have e3:=hs p (inv p (rep a'.ld)) a' (by omega) (by omega) (by omega)
  have e4:=hs p (inv p (rep a'.ld)) u (by omega) (by omega) (by omega)
  have e5:=hs p (inv p (rep a'.ld)) v (by omega) (by omega) (by omega)
  rw [se _ (Pol.ld_ne ha0)] at e3 e4 e5;exact ⟨e1,e2,e3,e4,e5⟩
 have I0:=Pol.BzI.init (A:=a) (B:=b) hab;refine bc hT rfl ?_;unfold Pol.bezout Pol.eu
 by_cases h0:b=0
 ·subst h0
  have l0:=bo (O:=den T A) (np:=0) (c:=Zx_L0) (s:=⟨[(0,(.d (.int .i64 p))),(1,(.d (.sl .leaf (ak .i64 (row a))))),(2,(.d (.sl .leaf (ak .i64 ([]))))),(9,.sl 0 [] 0 1 (some 1)),(10,(.d (.sl .leaf (ak .i64 ([]))))),(11,(.d (.sl .leaf (ak .i64 ([]))))),(12,.sl 1 [] 0 1 (some 1))],[.sl false .leaf (ak .i64 [1]),.sl false .leaf (ak .i64 [1])]⟩) (s1:=⟨[(0,(.d (.int .i64 p))),(1,(.d (.sl .leaf (ak .i64 (row a))))),(2,(.d (.sl .leaf (ak .i64 ([]))))),(9,.sl 0 [] 0 1 (some 1)),(10,(.d (.sl .leaf (ak .i64 ([]))))),(11,(.d (.sl .leaf (ak .i64 ([]))))),(12,.sl 1 [] 0 1 (some 1)),(20,(.d (.bool false)))],[.sl false .leaf (ak .i64 [1]),.sl false .leaf (ak .i64 [1])]⟩) (id:=0) (by simp -implicitDefEqProofs [Zx_L0,af,gt])
  obtain ⟨e1,e2,e3,e4,e5⟩:=last I0;rw [vb] at e4;rw [dd] at e5;rw [gt] at l0 e5;rw [Pol.len_zero];have o1:D.int IntKind.i64 1::[]=ak .i64 [1]:=rfl;simp -implicitDefEqProofs [Zx,Zx_B,dd,gt,Pol.bz,e1,e2,e3,e4,e5,l0,o1,List.replicate]
 ·have hp0:=Pol.len_pos h0
  have I1:=I0.step h0;obtain ⟨_,_,_,_,q5,q6,q7,q8⟩:=Da I0 ha hb ha hb h0;have l0:=hd p a b h0 (by omega) (by omega)
  have l1:=ht p (a/b) 0 (by omega) (by rw [Pol.len_zero]; omega)
  have l2:=ht p (a/b) 1 (by omega) (by rw [Pol.len_one]; omega)
  have l3:=hc p 1 (a/b*0) (by rw [Pol.len_one]; omega) (by omega)
  have l4:=hc p 0 (a/b*1) (by rw [Pol.len_zero]; omega) (by omega)
  rw [vb] at l2 l3;rw [dd,gt] at l1 l4
  have st1:dn (den T A) 0 Zx_L0 ⟨[(0,(.d (.int .i64 p))),(1,(.d (.sl .leaf (ak .i64 (row a))))),(2,(.d (.sl .leaf (ak .i64 (row b))))),(9,.sl 0 [] 0 1 (some 1)),(10,.d (.sl .leaf [])),(11,.d (.sl .leaf [])),(12,.sl 1 [] 0 1 (some 1))],[.sl false .leaf (ak .i64 [1]),.sl false .leaf (ak .i64 [1])]⟩ =
   some (.normal,⟨[(0,(.d (.int .i64 p))),(1,(.d (.sl .leaf (ak .i64 (row b))))),(2,(.d (.sl .leaf (ak .i64 (row (a%b)))))),(9,.d (.sl .leaf [])),(10,.sl 1 [] 0 1 (some 1)),(11,(.d (.sl .leaf (ak .i64 (row (1-a/b*0)))))),(12,(.d (.sl .leaf (ak .i64 (row (0-a/b*1))))))],[.hole,.sl true .leaf (ak .i64 [1])]⟩):=by
   simp -implicitDefEqProofs [Zx_L0,af,hp0,l0,l1,l2,l3,l4]
  by_cases h1:a%b=0
  ·have st2:dn (den T A) 0 Zx_L0 ⟨[(0,(.d (.int .i64 p))),(1,(.d (.sl .leaf (ak .i64 (row b))))),(2,(.d (.sl .leaf (ak .i64 (row (a%b)))))),(9,.d (.sl .leaf [])),(10,.sl 1 [] 0 1 (some 1)),(11,(.d (.sl .leaf (ak .i64 (row (1-a/b*0)))))),(12,(.d (.sl .leaf (ak .i64 (row (0-a/b*1))))))],[.hole,.sl true .leaf (ak .i64 [1])]⟩ =
    some (.exit 0,⟨[(0,(.d (.int .i64 p))),(1,(.d (.sl .leaf (ak .i64 (row b))))),(2,(.d (.sl .leaf (ak .i64 (row (a%b)))))),(9,.d (.sl .leaf [])),(10,.sl 1 [] 0 1 (some 1)),(11,(.d (.sl .leaf (ak .i64 (row (1-a/b*0)))))),(12,(.d (.sl .leaf (ak .i64 (row (0-a/b*1)))))),(20,(.d (.bool false)))],[.hole,.sl true .leaf (ak .i64 [1])]⟩):=by
    simp -implicitDefEqProofs [Zx_L0,af,h1,dd]
   have lp:=bb st1 (bo st2)
   have hb1:Pol.bz b.len a b 1 0 0 1=(b,0,1):=by
    rw [show b.len=(b.len-1)+1 by omega,Pol.bz,if_neg h0]
    cases hn:b.len-1 with
    | zero=>rfl
    | succ n=>rw [Pol.bz,if_pos h1]
   rw [hb1];have I1':Pol.BzI a b b 0 0 (1-a/b*0) 1 (0-a/b*1):=h1▸I1;obtain ⟨e1,e2,e3,e4,e5⟩:=last I1';rw [vb] at e5;rw [dd,gt] at e4;have o1:D.int IntKind.i64 1::[]=ak .i64 [1]:=rfl;simp -implicitDefEqProofs [Zx,Zx_B,e1,e2,e3,e4,e5,lp,o1,List.replicate]
  ·have hp1:=Pol.len_pos h1
   have hl1:=Pol.len_mod a h0;obtain ⟨s1,s2,s3,s4,s5,s6,s7,s8⟩:=Da I1 ha hb hb (by omega) h1
   have m0:=hd p b (a%b) h1 (by omega) (by omega)
   have m1:=ht p (b/(a%b)) (1-a/b*0) (by omega) (by omega)
   have m2:=ht p (b/(a%b)) (0-a/b*1) (by omega) (by omega)
   have m3:=hc p 0 (b/(a%b)*(1-a/b*0)) (by omega) (by omega)
   have m4:=hc p 1 (b/(a%b)*(0-a/b*1)) (by omega) (by omega)
   rw [vb] at m4;rw [dd,gt] at m3
   have st2:dn (den T A) 0 Zx_L0 ⟨[(0,(.d (.int .i64 p))),(1,(.d (.sl .leaf (ak .i64 (row b))))),(2,(.d (.sl .leaf (ak .i64 (row (a%b)))))),(9,.d (.sl .leaf [])),(10,.sl 1 [] 0 1 (some 1)),(11,(.d (.sl .leaf (ak .i64 (row (1-a/b*0)))))),(12,(.d (.sl .leaf (ak .i64 (row (0-a/b*1))))))],[.hole,.sl true .leaf (ak .i64 [1])]⟩ =
    some (.normal,⟨[(0,(.d (.int .i64 p))),(1,(.d (.sl .leaf (ak .i64 (row (a%b)))))),(2,(.d (.sl .leaf (ak .i64 (row (b%(a%b))))))),(9,(.d (.sl .leaf (ak .i64 (row (1-a/b*0)))))),(10,(.d (.sl .leaf (ak .i64 (row (0-a/b*1)))))),(11,(.d (.sl .leaf (ak .i64 (row (0-b/(a%b)*(1-a/b*0))))))),(12,(.d (.sl .leaf (ak .i64 (row (1-b/(a%b)*(0-a/b*1)))))))],[.hole,.hole]⟩):=by
    simp -implicitDefEqProofs [Zx_L0,af,hp1,m0,m1,m2,m3,m4]
   have I2:=I1.step h1;have hl2:=Pol.len_mod b h1;obtain ⟨x',y',e⟩:=S2 hd ht hc ha hb (b.len-2) _ _ _ _ _ _ (by omega) (by omega) (by omega) I2
   have lp:=bb st1 (bb st2 e)
   have hb1:Pol.bz b.len a b 1 0 0 1=Pol.bz (b.len-2) (a%b) (b%(a%b)) (1-a/b*0) (0-b/(a%b)*(1-a/b*0)) (0-a/b*1) (1-b/(a%b)*(0-a/b*1)):=by
    rw [show b.len=(b.len-2+1)+1 by omega,Pol.bz,if_neg h0,Pol.bz,if_neg h1]
    rfl
   rw [hb1];obtain ⟨x2,y2,I3,_,_⟩:=Pol.bz_spec (b.len-2) _ _ _ _ _ _ (by omega) I2
   obtain ⟨e1,e2,e3,e4,e5⟩:=last I3;have o1:D.int IntKind.i64 1::[]=ak .i64 [1]:=rfl;simp -implicitDefEqProofs [Zx,Zx_B,gt,e1,e2,e3,e4,e5,lp,o1,List.replicate]
end Pe

namespace Pe
open Go Gq
variable {T:Nat→Option Fn} {A:ah}
def O2 (O:ah):Prop:=∀(p:Int) [IsP p] (a b:Fp p),(a≠0∨b≠0)→a.len≤2000→b.len≤2000 →
 ask O F12 [(D.int .i64 p),(D.sl .leaf (ak .i64 (row a))),(D.sl .leaf (ak .i64 (row b)))]=some (D.sl .leaf (ak .i64 (row (Pol.gcd a b))))
theorem a4i (hT:T F12=some Z12) (hb:Cw (den T A)):O2 (den T A):=by
 intro p i a b hab h1 h2;have e:=hb p a b hab h1 h2;refine bc hT rfl ?_;simp -implicitDefEqProofs [Z12,Z12_B,e,Pol.gcd]
theorem a7f (x:Int) (_h:0≤x):((BitVec.ofInt 64 x &&& 1#64).toNat:Int)=x%2:=by
 rw [BitVec.toNat_and];have e:(1#64).toNat=2^1-1:=rfl;rw [e,Nat.and_two_pow_sub_one_eq_mod,BitVec.toNat_ofInt];omega
theorem Wv (x:Int) (h:0≤x):Qz .i64 x 1=x%2:=by
 show IntKind.i64.wrap ((BitVec.ofInt 64 x &&& 1#64).toNat:Int)=_;rw [a7f x h,w64 (by omega)]
theorem W2 (x:Int):t5 .shr .i64 x 1=some (.int .i64 (x/2)):=by
 show (if (1:Int)<0 then none else some (D.int .i64 (x.fdiv (2^min (1:Int).toNat 64))))=_
 rw [if_neg (by omega)]
 congr 2
 show x.fdiv 2=x/2;rw [Int.fdiv_eq_ediv_of_nonneg _ (by omega)]
theorem Vo {O:ah} (hr:z5 O) (ht:pz O) {p:Int} [IsP p] {m:Fp p} (hm:m≠0) (hml:m.len<2000):∀(n:Nat) (k:Int) (out base:Fp p),0≤k→k.toNat<2^n→k<4611686018427387904→out.len<m.len→base.len<m.len→∃base':List Int,
 dn O 0 (.loop Z18_L0) ⟨[(0,(.d (.int .i64 p))),(2,(.d (.int .i64 k))),(3,(.d (.sl .leaf (ak .i64 (row m))))),(9,(.d (.sl .leaf (ak .i64 (row out))))),(10,(.d (.sl .leaf (ak .i64 (row base)))))],[.hole]⟩ =
  some (.exit 0,⟨[(0,(.d (.int .i64 p))),(2,(.d (.int .i64 0))),(3,(.d (.sl .leaf (ak .i64 (row m))))),(9,(.d (.sl .leaf (ak .i64 (row (out*pw base k.toNat%m)))))),(10,(.d (.sl .leaf (ak .i64 base')))),(20,(.d (.bool false)))],[.hole]⟩):=by
 intro n
 induction n with
 | zero=>
  intro k out base hk hn _ ho hb;obtain rfl:k=0:=by simp at hn; omega
  refine ⟨row base,?_⟩
  have e:out*pw base (0:Int).toNat%m=out:=by
   show out*1%m=out;rw [Gq.mul_one,Pol.mod_small ho]
  rw [e];exact bo (by simp -implicitDefEqProofs [Z18_L0,af])
 | succ n ih=>
  intro k out base hk hn hkm ho hb
  by_cases h0:k=0
  ·subst h0
   refine ⟨row base,?_⟩
   have e:out*pw base (0:Int).toNat%m=out:=by
    show out*1%m=out;rw [Gq.mul_one,Pol.mod_small ho]
   rw [e];exact bo (by simp -implicitDefEqProofs [Z18_L0,af])
  ·have hkp:0<k:=by omega
   have hlen:∀x y:Fp p,x.len<m.len→y.len<m.len→(x*y).len<5000:=fun x y hx hy=>by
    have:=Pol.len_le (Pol.lt_mul x.lt_len y.lt_len);omega
   have t1:=ht p out base (by omega) (by omega)
   have t2:=ht p base base (by omega) (by omega)
   have r1:=hr p (out*base) m hm (hlen _ _ ho hb) (by omega)
   have r2:=hr p (base*base) m hm (hlen _ _ hb hb) (by omega)
   have s:=Pol.bin_step (out:=out) (base:=base) hm k.toNat (by omega)
   have hdiv:(k/2).toNat=k.toNat/2:=by omega
   obtain ⟨b',e⟩:=ih (k/2) (if k.toNat%2=1 then out*base%m else out) (base*base%m) (by omega) (by rw [o5] at hn; omega) (by omega) (by split; exact Pol.len_mod _ hm; exact ho) (Pol.len_mod _ hm)
   rw [hdiv,s] at e;refine ⟨b',bb ?_ e⟩;have ea:=Wv k (by omega)
   have es:=W2 k
   by_cases hodd:k%2=1
   ·rw [if_pos (show k.toNat%2=1 by omega)]
    simp -implicitDefEqProofs [Z18_L0,af,hkp,t1,t2,r1,r2,ea,es,hodd]
   ·rw [if_neg (show ¬ k.toNat%2=1 by omega)]
    simp -implicitDefEqProofs [Z18_L0,af,hkp,t2,r2,ea,es,hodd]
def y8 (O:ah):Prop:=∀(p:Int) [IsP p] (a:Fp p) (k:Int) (m:Fp p),m≠0→a.len<5000→m.len<2000→0≤k→k<4611686018427387904 →
 ask O F18 [(D.int .i64 p),(D.sl .leaf (ak .i64 (row a))),(D.int .i64 k),(D.sl .leaf (ak .i64 (row m)))]=some (D.sl .leaf (ak .i64 (row (pw a k.toNat%m))))
theorem Wh (hT:T F18=some Z18) (hr:z5 (den T A)) (ht:pz (den T A)):y8 (den T A):=by
 intro p i a k m hm ha hml hk hkm;have r1:=hr p 1 m hm (by rw [Pol.len_one]; omega) (by omega)
 rw [vb] at r1;have r2:=hr p a m hm (by omega) (by omega)
 obtain ⟨b',e⟩:=Vo hr ht hm hml 62 k (1%m) (a%m) hk (by omega) hkm (Pol.len_mod _ hm) (Pol.len_mod _ hm)
 have e2:1%m*pw (a%m) k.toNat%m=pw a k.toNat%m:=by
  rw [Pol.mul_mod_left _ _ hm,Gq.one_mul,Pol.pow_mod _ hm]
 rw [e2] at e;have o1:D.int IntKind.i64 1::[]=ak .i64 [1]:=rfl;refine bc hT rfl ?_;simp -implicitDefEqProofs [Z18,Z18_B,r1,r2,e,o1,List.replicate]
def ru (p most:Int):Nat→Int→Int
 | 0,out=>out
 | n+1,out=>if out > most then out else ru p most n (out*p)
theorem S4 {O:ah} {p:Int} [IsP p] {most nn:Int} (hmost:most≤1152921504606846976):∀(n:Nat) (i:Int) (out:Int),i+n=nn→-1000000<i→nn<1000000→0≤out→out≤8070450532247928832→∃(i':Int) (b:List (Nat×V)),
 dn O 0 (.loop Z16_L0) ⟨[(0,(.d (.int .i64 p))),(2,(.d (.int .i64 most))),(7,(.d (.int .i64 out))),(8,(.d (.int .i64 nn))),(9,(.d (.int .i64 i)))],[]⟩ =
  some (.exit 0,⟨[(0,(.d (.int .i64 p))),(2,(.d (.int .i64 most))),(7,(.d (.int .i64 (ru p most n out)))),(8,(.d (.int .i64 nn))),(9,(.d (.int .i64 i')))]++b,[]⟩)
 | 0,i,out,hi,h1,h2,ho,ho2=>by
  have:i=nn:=by omega
  subst this;exact ⟨i,[(10,(.d (.bool false)))],bo (by simp -implicitDefEqProofs [Z16_L0,af,ru])⟩
 | n+1,i,out,hi,h1,h2,ho,ho2=>by
  have hlt:i<nn:=by omega
  have hp:=IsP.le (p:=p);have hp2:=IsP.pos (p:=p)
  by_cases hm:most<out
  ·exact ⟨i,[(13,(.d (.bool true)))],bo (by simp -implicitDefEqProofs [Z16_L0,af,ru,hlt,hm])⟩
  ·have hmul:0≤out*p∧out*p≤8070450532247928832:=by
    refine ⟨dy ho (by omega),?_⟩
    have:out*p≤out*7:=bm hp ho;omega
   obtain ⟨i',b,e⟩:=S4 (O:=O) (p:=p) (nn:=nn) hmost n (i+1) (out*p) (by omega) (by omega) h2 hmul.1 hmul.2
   have w1:IntKind.i64.wrap (out*p)=out*p:=w64 (by omega)
   have w2:IntKind.i64.wrap (i+1)=i+1:=w64 (by omega)
   refine ⟨i',b,bb (s1:=⟨[(0,(.d (.int .i64 p))),(2,(.d (.int .i64 most))),(7,(.d (.int .i64 (out*p)))),(8,(.d (.int .i64 nn))),(9,(.d (.int .i64 (i+1))))],[]⟩) (by simp -implicitDefEqProofs [Z16_L0,af,hlt,hm,w1,w2]) ?_⟩
   rw [e,ru,if_neg (by omega)]
def xf (O:ah):Prop:=∀(p:Int) [IsP p] (n:Nat) (most:Int),n<1000000→most≤1152921504606846976→ask O F16 [(D.int .i64 p),(D.int .i64 n),(D.int .i64 most)]=some (D.int .i64 (ru p most n 1))
theorem Yi (hT:T F16=some Z16):xf (den T A):=by
 intro p i n most hn hm;obtain ⟨i',b,e⟩:=S4 (O:=den T A) (p:=p) (nn:=(n:Int)) hm n 0 1 (by omega) (by omega) (by omega) (by omega) (by omega)
 refine bc hT rfl ?_;simp -implicitDefEqProofs [Z16,Z16_B,e]
end Pe

namespace Pe
open Go Gq
variable {T:Nat→Option Fn} {A:ah}
def dgs (p:Int):Nat→Int→List Int
 | 0,_=>[]
 | f+1,n=>if n≤0 then [] else n%p::dgs p f (n/p)
def du (p n:Int):Fp p:=dl p (dgs p 64 n)
theorem Np {p:Int} [IsP p]:∀f n,Can p (dgs p f n)
 | 0,n=>fun x hx=>by simp [dgs] at hx
 | f+1,n=>fun x hx=>by
  unfold dgs at hx
  split at hx
  ·simp at hx
  ·have hp:=IsP.pos (p:=p)
   rcases da.1 hx with rfl | hx
   ·exact ⟨co _ (by omega),cd _ hp⟩
   ·exact Np f _ x hx
theorem Do {p n:Int} [IsP p] (h:0<n) (h2:n/p=0):n%p≠0:=by
 have h3:=Int.mul_ediv_add_emod n p;rw [h2] at h3;simp at h3;omega
theorem I6 {p:Int} [IsP p]:∀(f:Nat) (n:Int),n<2^f→dgs p f n=[]∨cf (dgs p f n) ((dgs p f n).length-1)≠0
 | 0,n,h=>.inl rfl
 | f+1,n,h=>by
  by_cases h0:n≤0
  ·left; simp [dgs,h0]
  ·right
   have hp:=IsP.ge (p:=p)
   have hd:n/p<2^f:=by
    apply fd (by omega)
    have:(2:Int)^(f+1)=2^f*2:=cu _ _;have h2:(2:Int)^f*2≤2^f*p:=bm hp (lc (by omega))
    omega
   have e:dgs p (f+1) n=n%p::dgs p f (n/p):=by simp [dgs,h0]
   rw [e];have hdn:0≤n/p:=il (by omega) (by omega)
   rcases I6 (p:=p) f (n/p) hd with h1 | h1
   ·rw [h1]
    show n%p≠0
    by_cases hz:n/p=0
    ·exact Do (p:=p) (show 0<n by omega) hz
    ·exfalso
     cases f with
     | zero=>simp at hd; omega
     | succ f=>
      rw [dgs,if_neg (by omega)] at h1
      cases h1
   ·cases hq:dgs p f (n/p) with
    | nil=>rw [hq] at h1; simp [cf] at h1
    | cons a l=>
     rw [hq] at h1
     simpa [cf] using h1
theorem A6 {p:Int} [IsP p] {l:List Int} (h:Can p l) (hl:l=[]∨cf l (l.length-1)≠0):row (dl p l)=l:=by
 rw [←n5 h];unfold xd
 have:nk l l.length=l.length:=by
  cases hn:l.length with
  | zero=>rfl
  | succ n=>
   rcases hl with h0 | h0
   ·rw [h0] at hn; simp at hn
   ·rw [hn,Nat.add_sub_cancel] at h0
    rw [nk,if_neg h0]
 rw [this,m6]
theorem Bh {p:Int} [IsP p] {n:Int} (h:n<18446744073709551616):row (du p n)=dgs p 64 n:=A6 (Np 64 n) (I6 64 n (by simpa using h))
theorem Va (p:Int):∀f n,(dgs p f n).length≤f
 | 0,n=>by simp [dgs]
 | f+1,n=>by
  unfold dgs
  split
  ·simp
  ·have:=Va p f (n/p); simp; omega
theorem Bz {O:ah} {p:Int} [IsP p]:∀(f:Nat) (n:Int) (cur:List Int) (cp:Option Nat),0≤n→n<2^f→n<9223372036854775807→cur.length+f<1000→∃cp',
 dn O 0 (.loop Z17_L0) ⟨[(0,(.d (.int .i64 p))),(1,(.d (.int .i64 n))),(5,.sl 0 [] 0 cur.length cp)],[.sl false .leaf (ak .i64 cur),.hole,.hole]⟩ =
  some (.exit 0,⟨[(0,(.d (.int .i64 p))),(1,(.d (.int .i64 0))),(5,.sl 0 [] 0 (cur++dgs p f n).length cp'),(7,(.d (.bool false)))],[.sl false .leaf (ak .i64 (cur++dgs p f n)),.hole,.hole]⟩)
 | 0,n,cur,cp,h0,hn,hm,hl=>by
  obtain rfl:n=0:=by simp at hn; omega
  refine ⟨cp,?_⟩;rw [dgs,dp];exact bo (by simp -implicitDefEqProofs [Z17_L0,af])
 | f+1,n,cur,cp,h0,hn,hm,hl=>by
  have hp:=IsP.ge (p:=p);have hp7:=IsP.le (p:=p)
  by_cases hz:n=0
  ·subst hz
   refine ⟨cp,?_⟩;rw [dgs,if_pos (lf 0),dp];exact bo (by simp -implicitDefEqProofs [Z17_L0,af])
  ·have hd:n/p<2^f:=by
    apply fd (by omega)
    have:(2:Int)^(f+1)=2^f*2:=cu _ _;have h2:(2:Int)^f*2≤2^f*p:=bm hp (lc (by omega))
    omega
   have hdn:0≤n/p:=il (by omega) (by omega)
   have hdl:n/p≤n:=Int.ediv_le_self _ h0;obtain ⟨cp',e⟩:=Bz (O:=O) (p:=p) f (n/p) (cur++[n%p]) none hdn hd (by omega) (by simp; omega)
   have hpos:0<n:=by omega
   have w1:IntKind.i64.wrap (n.tdiv p)=n/p:=by rw [dx h0,w64 (by omega)]
   have w2:n.tmod p=n%p:=c8 h0;have hp0:p≠0:=by omega
   have h8:(cur.length+1)*8≤1099511627776:=by omega
   have o1:ak .i64 cur++[D.int .i64 (n%p)]=ak .i64 (cur++[n%p]):=by rw [←Ah]; rfl
   refine ⟨cp',?_⟩;rw [dgs,if_neg (by omega),show cur++n%p::dgs p f (n/p)=(cur++[n%p])++dgs p f (n/p) by simp]
   refine bb ?_ e;simp -implicitDefEqProofs [Z17_L0,af,hpos,w1,w2,hp0,h8,o1,List.replicate]
def n4 (O:ah):Prop:=∀(p:Int) [IsP p] (n:Int),0≤n→n<4611686018427387904→ask O F17 [(D.int .i64 p),(D.int .i64 n)]=some (D.sl .leaf (ak .i64 (row (du p n))))
theorem Jy (hT:T F17=some Z17):n4 (den T A):=by
 intro p i n h0 hn;obtain ⟨cp,e⟩:=Bz (O:=den T A) (p:=p) 64 n [] (some 0) h0 (by omega) (by omega) (by simp)
 rw [Bh (by omega)]
 rw [gt,gp] at e;have e0:(([]:List Int).length:Nat)=0:=rfl;rw [e0] at e;refine bc hT rfl ?_;simp -implicitDefEqProofs [Z17,Z17_B,e]
theorem L8 (n:Nat) {α:Type} (f:Nat→α):(List.range n).map f++[f n]=(List.range (n+1)).map f:=by rw [List.range_succ,gq]; rfl
end Pe

namespace Gq
section
variable {K:Type} [Fd K]
def Dv (a b:Pol K):Prop:=∃c,b=a*c
theorem Dv.refl (a:Pol K):Dv a a:=⟨1,(mul_one a).symm⟩
theorem Dv.trans {a b c:Pol K} (h:Dv a b) (h':Dv b c):Dv a c:=by
 obtain ⟨x,rfl⟩:=h;obtain ⟨y,rfl⟩:=h';exact ⟨x*y,mul_assoc _ _ _⟩
theorem Dv.zero (a:Pol K):Dv a 0:=⟨0,(mul_zero a).symm⟩
theorem Dv.mul_right {a b:Pol K} (h:Dv a b) (c:Pol K):Dv a (b*c):=h.trans ⟨c,rfl⟩
theorem Dv.mul_left {a b:Pol K} (h:Dv a b) (c:Pol K):Dv a (c*b):=h.trans ⟨c,mul_comm _ _⟩
theorem Dv.add {a b c:Pol K} (h:Dv a b) (h':Dv a c):Dv a (b+c):=by
 obtain ⟨x,rfl⟩:=h;obtain ⟨y,rfl⟩:=h';exact ⟨x+y,(mul_add _ _ _).symm⟩
theorem Dv.neg {a b:Pol K} (h:Dv a b):Dv a (-b):=by
 obtain ⟨x,rfl⟩:=h;exact ⟨-x,(Wf _ _).symm⟩
theorem Dv.sub {a b c:Pol K} (h:Dv a b) (h':Dv a c):Dv a (b-c):=by
 rw [sub_eq]; exact h.add h'.neg
theorem Dv.len {a b:Pol K} (h:Dv a b) (hb:b≠0):a.len≤b.len:=by
 obtain ⟨x,rfl⟩:=h;have ha:a≠0:=fun h=>hb (by rw [h,zero_mul])
 have hx:x≠0:=fun h=>hb (by rw [h,mul_zero])
 have:=Pol.len_mul ha hx;have:=Pol.len_pos hx;omega
theorem t8 {a m:Pol K} (hm:m≠0):Dv m a↔a%m=0:=by
 constructor
 ·rintro ⟨c,rfl⟩
  rw [mul_comm];exact Pol.mod_self_mul c hm
 ·intro h
  have:=Pol.div_mod a m;rw [h,add_zero,mul_comm] at this;exact ⟨_,this⟩
theorem lm {a m:Pol K}:Dv m a↔Quo.mk m a=0:=by
 rw [←Quo.mk_zero,Quo.eq];constructor
 ·rintro ⟨c,h⟩; exact ⟨c,by rw [zero_add,h]⟩
 ·rintro ⟨c,h⟩; exact ⟨c,by rw [h,zero_add]⟩
theorem km {a:Pol K} (h:a.len=1):∃k:K,k≠0∧a=Pol.C k:=by
 have e:=Pol.eq_C (Pol.lt_iff.2 (show a.len≤1 by omega))
 refine ⟨a.c 0,fun h0=>?_,e⟩
 rw [h0,Pol.C_zero] at e;rw [e,Pol.len_zero] at h;omega
theorem Ua {k:K} (h:k≠0):Pol.C k*Pol.C (Fd.inv k)=1:=by rw [←Pol.C_mul,Fd.mul_inv k h,Pol.C_one]
theorem Dv.Cmul {a b:Pol K} {k:K} (hk:k≠0):Dv (Pol.C k*a) b↔Dv a b:=by
 constructor
 ·rintro ⟨c,h⟩
  exact ⟨Pol.C k*c,by rw [h]; exact c6 [Pol.C k,a,c] rfl⟩
 ·rintro ⟨c,h⟩
  refine ⟨Pol.C (Fd.inv k)*c,?_⟩;have:Pol.C k*a*(Pol.C (Fd.inv k)*c)=(Pol.C k*Pol.C (Fd.inv k))*(a*c):=c6 [Pol.C k,a,Pol.C (Fd.inv k),c] rfl;rw [this,Ua hk,one_mul,h]
def Monic (a:Pol K):Prop:=a.ld=1∧a≠0
theorem Monic.mul {a b:Pol K} (ha:Monic a) (hb:Monic b):Monic (a*b):=⟨by rw [Pol.ld_mul ha.2 hb.2,ha.1,hb.1,mul_one],Pol.mul_ne ha.2 hb.2⟩
theorem Monic.one:Monic (1:Pol K):=⟨Pol.ld_one,Pol.one_ne⟩
theorem Pol.ld_C {k:K} (h:k≠0):(C k).ld=k:=by unfold ld; rw [len_C h]; rfl
theorem Monic.eq_one {a:Pol K} (h:Monic a) (hl:a.len=1):a=1:=by
 obtain ⟨k,hk,rfl⟩:=km hl;have:=h.1;rw [Pol.ld_C hk] at this;rw [this,Pol.C_one]
theorem Monic.antisymm {a b:Pol K} (ha:Monic a) (hb:Monic b) (h:Dv a b) (h':Dv b a):a=b:=by
 obtain ⟨x,rfl⟩:=h;have h1:=h'.len ha.2;have hx:x≠0:=fun h=>hb.2 (by rw [h,mul_zero])
 have h2:=Pol.len_mul ha.2 hx;have h3:=Pol.len_pos hx;obtain ⟨k,hk,rfl⟩:=km (show x.len=1 by omega)
 have h4:=hb.1;rw [Pol.ld_mul ha.2 hx,ha.1,one_mul,Pol.ld_C hk] at h4;rw [h4,Pol.C_one,mul_one]
noncomputable def mon (a:Pol K):Pol K:=Pol.C (Fd.inv a.ld)*a
theorem oo {a:Pol K} (h:a≠0):Monic (mon a):=by
 have h1:=Fd.inv_ne (Pol.ld_ne h);refine ⟨?_,Pol.mul_ne (Pol.C_ne h1) h⟩;unfold mon;rw [Pol.ld_mul (Pol.C_ne h1) h,Pol.ld_C h1,mul_comm,Fd.mul_inv _ (Pol.ld_ne h)]
theorem u9 {a b:Pol K} (h:a≠0):Dv (mon a) b↔Dv a b:=Dv.Cmul (Fd.inv_ne (Pol.ld_ne h))
theorem vd {a:Pol K} (h:a≠0):(mon a).len=a.len:=Pol.len_Cmul (Fd.inv_ne (Pol.ld_ne h)) a
theorem Uj {a:Pol K} (h:a≠0):a=Pol.C a.ld*mon a:=by
 unfold mon;rw [←mul_assoc,Ua (Pol.ld_ne h),one_mul]
theorem Pol.eu_spec {a b:Pol K} (h:a≠0∨b≠0):(eu a b).1≠0∧Dv (eu a b).1 a∧Dv (eu a b).1 b∧(eu a b).2.1*a+(eu a b).2.2*b=(eu a b).1:=by
 obtain ⟨x,y,h1,⟨s,h2⟩,⟨t,h3⟩⟩:=bz_spec b.len a b 1 0 0 1 (az _) (BzI.init h);exact ⟨h1.any.resolve_right fun h=>h rfl,⟨s,by rw [mul_comm]; exact h2⟩,⟨t,by rw [mul_comm]; exact h3⟩,h1.one⟩
theorem Pol.gcd_monic {a b:Pol K} (h:a≠0∨b≠0):Monic (gcd a b):=oo (eu_spec h).1
theorem Pol.gcd_dv_left {a b:Pol K} (h:a≠0∨b≠0):Dv (gcd a b) a:=(u9 (eu_spec h).1).2 (eu_spec h).2.1
theorem Pol.gcd_dv_right {a b:Pol K} (h:a≠0∨b≠0):Dv (gcd a b) b:=(u9 (eu_spec h).1).2 (eu_spec h).2.2.1
theorem Pol.bezout_eq {a b:Pol K} (h:a≠0∨b≠0):(bezout a b).2.1*a+(bezout a b).2.2*b=gcd a b:=by
 have e:=(eu_spec h).2.2.2;show C (Fd.inv (eu a b).1.ld)*(eu a b).2.1*a+C (Fd.inv (eu a b).1.ld)*(eu a b).2.2*b=C (Fd.inv (eu a b).1.ld)*(eu a b).1;generalize C (Fd.inv (eu a b).1.ld)=k;generalize (eu a b).2.1=u at *;generalize (eu a b).2.2=v at *;rw [←e];exact c6 [k,u,a,v,b] rfl
theorem Pol.dv_gcd {a b c:Pol K} (h:a≠0∨b≠0) (ha:Dv c a) (hb:Dv c b):Dv c (gcd a b):=by
 rw [←bezout_eq h];exact (ha.mul_left _).add (hb.mul_left _)
structure Irr (q:Pol K):Prop where
 len:2≤q.len
 no:∀u v,q=u*v→u.len=1∨v.len=1
theorem Irr.ne {q:Pol K} (h:Irr q):q≠0:=fun h0=>by have:=h.len; rw [h0,Pol.len_zero] at this; omega
theorem Irr.dv {q u:Pol K} (h:Irr q) (hd:Dv u q):u.len=1∨u.len=q.len:=by
 obtain ⟨v,hv⟩:=hd;have hu:u≠0:=fun h0=>h.ne (by rw [hv,h0,zero_mul])
 have hv0:v≠0:=fun h0=>h.ne (by rw [hv,h0,mul_zero])
 have l:=Pol.len_mul hu hv0;rw [←hv] at l;rcases h.no u v hv with h1 | h1
 ·exact .inl h1
 ·right; omega
theorem Irr.coprime {q a:Pol K} (h:Irr q) (hn:¬ Dv q a):∃u v,u*q+v*a=1:=by
 have h0:q≠0∨a≠0:=.inl h.ne;have e:=Pol.bezout_eq h0;have d1:=Pol.gcd_dv_left h0;have d2:=Pol.gcd_dv_right h0;have m:=Pol.gcd_monic h0;rcases h.dv d1 with h1 | h1
 ·rw [m.eq_one h1] at e
  exact ⟨_,_,e⟩
 ·exfalso
  obtain ⟨c,hc⟩:=d1;have hc0:c≠0:=fun h0=>h.ne (by rw [hc,h0,mul_zero])
  have l:=Pol.len_mul m.2 hc0;rw [←hc] at l;obtain ⟨k,hk,rfl⟩:=km (show c.len=1 by omega)
  apply hn;rw [hc,mul_comm];exact (Dv.Cmul hk).2 d2
theorem Irr.prime {q a b:Pol K} (h:Irr q) (hd:Dv q (a*b)):Dv q a∨Dv q b:=by
 by_cases ha:Dv q a
 ·exact .inl ha
 ·obtain ⟨u,v,e⟩:=h.coprime ha
  right
  have:b=u*b*q+v*(a*b):=by
   have e2:u*b*q+v*(a*b)=(u*q+v*a)*b:=c6 [u,b,q,v,a] rfl;rw [e2,e,one_mul]
  rw [this];exact ((Dv.refl q).mul_left _).add (hd.mul_left _)
theorem Irr.of_dv {q:Pol K} (hl:2≤q.len) (h:∀u,Dv u q→u.len=1∨u.len=q.len):Irr q:=⟨hl,fun u v e=>by
 have hq:q≠0:=fun h0=>by rw [h0,Pol.len_zero] at hl; omega
 have hu:u≠0:=fun h0=>hq (by rw [e,h0,zero_mul])
 have hv0:v≠0:=fun h0=>hq (by rw [e,h0,mul_zero])
 have l:=Pol.len_mul hu hv0;rw [←e] at l;rcases h u ⟨v,e⟩ with h1 | h1
 ·exact .inl h1
 ·right; omega⟩
theorem Irr.mon {q:Pol K} (h:Irr q):Irr (mon q):=Irr.of_dv (by rw [vd h.ne]; exact h.len) fun u hu=>by
 rw [vd h.ne];apply h.dv;refine hu.trans ?_;rw [u9 h.ne];exact .refl q
theorem xv:∀(n:Nat) (a:Pol K),a.len≤n→2≤a.len→∃q,Irr q∧Monic q∧Dv q a
 | 0,a,h,h2=>by omega
 | n+1,a,h,h2=>by
  have ha:a≠0:=fun h0=>by rw [h0,Pol.len_zero] at h2; omega
  by_cases hi:Irr a
  ·exact ⟨Gq.mon a,hi.mon,oo ha,(u9 ha).2 (.refl a)⟩
  ·have:∃u,Dv u a∧u.len≠1∧u.len≠a.len:=ck fun hx=>hi (Irr.of_dv h2 fun u hu=>ck fun hy=>hx ⟨u,hu,by omega,by omega⟩)
   obtain ⟨u,hu,h3,h4⟩:=this;have h5:=hu.len ha
   have hu0:u≠0:=fun h0=>by
    obtain ⟨c,hc⟩:=hu;exact ha (by rw [hc,h0,zero_mul])
   have h6:=Pol.len_pos hu0;obtain ⟨q,h7,h8,h9⟩:=xv n u (by omega) (by omega)
   exact ⟨q,h7,h8,h9.trans hu⟩
theorem Irr.eq_of_dv {q r:Pol K} (hq:Irr q) (hr:Irr r) (mq:Monic q) (mr:Monic r) (h:Dv q r):q=r:=by
 refine mq.antisymm mr h ?_;rcases hr.dv h with h1 | h1
 ·have:=hq.len; omega
 ·obtain ⟨c,rfl⟩:=h
  have hc:c≠0:=fun h0=>mr.2 (by rw [h0,mul_zero])
  have l:=Pol.len_mul mq.2 hc;obtain ⟨k,hk,rfl⟩:=km (show c.len=1 by omega)
  rw [mul_comm];exact (Dv.Cmul hk).2 (.refl q)
theorem Quo.ex {R:Type} [CR R] {m:R} (x:Quo m):∃a,x=Quo.mk m a:=Quo.ind (P:=fun x=>∃a,x=Quo.mk m a) (fun a=>⟨a,rfl⟩) x
theorem Irr.quo_zero {q:Pol K} (h:Irr q) {x y:Quo q} (e:x*y=0):x=0∨y=0:=by
 obtain ⟨a,rfl⟩:=Quo.ex x;obtain ⟨b,rfl⟩:=Quo.ex y;rw [←Quo.mk_mul,←lm] at e;rw [←lm,←lm];exact h.prime e
theorem Irr.quo_inv {q:Pol K} (h:Irr q) {x:Quo q} (hx:x≠0):∃y,x*y=1:=by
 obtain ⟨a,rfl⟩:=Quo.ex x;obtain ⟨u,v,e⟩:=h.coprime fun hd=>hx (lm.1 hd)
 refine ⟨Quo.mk q v,?_⟩;rw [←Quo.mk_mul,←Quo.mk_one,Quo.eq];refine ⟨-u,?_⟩;rw [←e];exact c6 [a,v,u,q] rfl
open Classical in
noncomputable abbrev Us {q:Pol K} (h:Irr q):Fd (Quo q) where
 one_ne:=fun e=>by
  have:=lm.2 e;have h1:=this.len Pol.one_ne;have:=h.len;rw [Pol.len_one] at h1;omega
 inv:=fun x=>if hx:x=0 then 0 else Classical.choose (h.quo_inv hx)
 mul_inv:=fun x hx=>by rw [dif_neg hx]; exact ci (h.quo_inv hx)
end
def mc {R:Type} [CR R]:List R→R
 | []=>1
 | x::l=>x*mc l
theorem Bg {R:Type} [CR R] {l m:List R} (h:l.Perm m):mc l=mc m:=by
 induction h with
 | nil=>rfl
 | cons x _ ih=>rw [mc,mc,ih]
 | swap x y l=>rw [mc,mc,mc,mc,mul_left_comm]
 | trans _ _ h1 h2=>exact h1.trans h2
theorem Ee {R:Type} [CR R] (x:R):∀l:List R,mc (l.map (x * ·))=pw x l.length*mc l
 | []=>(one_mul _).symm
 | y::l=>by
  rw [fj,mc,Ee x l,mc,cl,pw];exact c6 [x,y,pw x l.length,mc l] rfl
theorem A5 {α:Type} [DecidableEq α]:∀{l m:List α},l.Nodup→(∀x∈l,x∈m)→m.length=l.length→l.Perm m
 | [],m,_,_,hl=>by
  obtain rfl:=pk (by simpa using hl)
  exact .nil
 | x::l,m,hn,hs,hl=>by
  have hx:x∈m:=hs x (by simp)
  obtain ⟨h1,h2⟩:=im.1 hn;have p:=List.perm_cons_erase hx;refine (List.Perm.cons x (A5 h2 (fun y hy=>?_) ?_)).trans p.symm
  ·have hne:y≠x:=fun e=>h1 (e▸hy)
   exact (List.mem_erase_of_ne hne).2 (hs y (by simp [hy]))
  ·rw [List.length_erase_of_mem hx]; simp at hl; omega
theorem U4 {R:Type} [CR R] [DecidableEq R] {l:List R} (hn:l.Nodup) (hc:∀x y:R,x*y=0→x=0∨y=0) (h1:(1:R)≠0) (hl:∀x,x∈l↔x≠0) {x:R} (hx:x≠0):pw x l.length=1:=by
 have hcan:∀y z:R,x*y=x*z→y=z:=fun y z e=>by
  have:x*(y-z)=0:=by
   have e2:x*(y-z)=x*y-x*z:=c6 [x,y,z] rfl;rw [e2,e,sub_self]
  exact og ((hc _ _ this).resolve_left hx)
 have hp:(l.map (x * ·)).Perm l:=by
  refine A5 ?_ (fun y hy=>?_) (by simp)
  ·unfold List.Nodup at hn ⊢
   rw [iz];exact hn.imp fun hab e=>hab (hcan _ _ e)
  ·obtain ⟨z,hz,rfl⟩:=cb.1 hy
   exact (hl _).2 fun e=>((hc _ _ e).elim hx) ((hl z).1 hz)
 have hprod:mc l≠0:=by
  have:∀m:List R,(∀z∈m,z≠0)→mc m≠0:=by
   intro m
   induction m with
   | nil=>exact fun _=>h1
   | cons z m ih=>exact fun hm e=>((hc _ _ e).elim (hm z (by simp))) (ih fun y hy=>hm y (by simp [hy]))
  exact this l fun z hz=>(hl z).1 hz
 have e:=Bg hp;rw [Ee] at e
 have e2:mc l*(pw x l.length-1)=0:=by
  have e3:mc l*(pw x l.length-1)=pw x l.length*mc l-mc l:=c6 [mc l,pw x l.length] rfl;rw [e3,e,sub_self]
 exact og ((hc _ _ e2).resolve_left hprod)
section
variable {K:Type} [CR K]
def gd (f:Nat→K):Nat→K
 | 0=>0
 | n+1=>gd f n+f n
noncomputable def Pol.val (a:Pol K) (x:K):K:=gd (fun i=>a.c i*pw x i) a.len
theorem xz (f g:Nat→K):∀n,gd (fun i=>f i+g i) n=gd f n+gd g n
 | 0=>(add_zero _).symm
 | n+1=>by rw [gd,xz f g n,gd,gd]; exact c6 [gd f n,gd g n,f n,g n] rfl
theorem Ct (k:K) (f:Nat→K):∀n,gd (fun i=>k*f i) n=k*gd f n
 | 0=>(mul_zero _).symm
 | n+1=>by rw [gd,Ct k f n,gd,mul_add]
theorem R9 (x:K):∀n,∃g:Nat→K,(∀i,n≤i→g i=0)∧(∀k,n=k+1→g k=1)∧∀y,pw y n-pw x n=(y-x)*gd (fun i=>g i*pw y i) n:=by
 intro n
 induction n with
 | zero=>exact ⟨fun _=>0,fun _ _=>rfl,fun k h=>by omega,fun y=>by show (1:K)-1=(y-x)*0; rw [mul_zero,sub_self]⟩
 | succ n ih=>
  obtain ⟨g,h1,h2,h3⟩:=ih;refine ⟨fun i=>if i=n then 1 else x*g i,fun i hi=>?_,fun k hk=>?_,fun y=>?_⟩
  ·dsimp only; rw [if_neg (by omega),h1 i (by omega),mul_zero]
  ·dsimp only; rw [if_pos (by omega)]
  ·rw [gd]; dsimp only; rw [if_pos rfl,one_mul]
   have e:gd (fun i=>(if i=n then 1 else x*g i)*pw y i) n=x*gd (fun i=>g i*pw y i) n:=by
    rw [←Ct]
    have:∀m,m≤n→gd (fun i=>(if i=n then 1 else x*g i)*pw y i) m=gd (fun i=>x*(g i*pw y i)) m:=by
     intro m
     induction m with
     | zero=>intro _; rfl
     | succ m ihm=>intro hm; rw [gd,gd,ihm (by omega),if_neg (by omega),mul_assoc]
    exact this n (az n)
   rw [e,pw,pw];have e2:(y-x)*(x*gd (fun i=>g i*pw y i) n+pw y n)=x*((y-x)*gd (fun i=>g i*pw y i) n)+(y-x)*pw y n:=c6 [y,x,gd (fun i=>g i*pw y i) n,pw y n] rfl
   rw [e2,←h3 y];exact c6 [pw y n,y,pw x n,x] rfl
theorem Lk (f:Nat→K) (x:K):∀n,∃g:Nat→K,(∀i,n≤i+1→g i=0)∧(∀k,n=k+2→g k=f (k+1))∧∀y,gd (fun i=>f i*pw y i) n-gd (fun i=>f i*pw x i) n=(y-x)*gd (fun i=>g i*pw y i) n:=by
 intro n
 induction n with
 | zero=>exact ⟨fun _=>0,fun _ _=>rfl,fun k h=>by omega,fun y=>by show (0:K)-0=(y-x)*0; rw [mul_zero,sub_self]⟩
 | succ n ih=>
  obtain ⟨g,h1,h2,h3⟩:=ih;obtain ⟨g',h1',h2',h3'⟩:=R9 x n;refine ⟨fun i=>g i+f n*g' i,fun i hi=>?_,fun k hk=>?_,fun y=>?_⟩
  ·dsimp only; rw [h1 i (by omega),h1' i (by omega),mul_zero,add_zero]
  ·obtain rfl:k+1=n:=by omega
   dsimp only; rw [h1 k (by omega),h2' k rfl,mul_one,zero_add]
  ·rw [gd,gd,gd]
   have e0:g n+f n*g' n=0:=by rw [h1 n (by omega),h1' n (by omega),mul_zero,add_zero]
   dsimp only
   rw [e0,zero_mul,add_zero]
   have e:gd (fun i=>(g i+f n*g' i)*pw y i) n=gd (fun i=>g i*pw y i) n+f n*gd (fun i=>g' i*pw y i) n:=by
    rw [←Ct,←xz]
    congr 1
    funext i
    exact c6 [g i,f n,g' i,pw y i] rfl
   rw [e];have e2:(y-x)*(gd (fun i=>g i*pw y i) n+f n*gd (fun i=>g' i*pw y i) n)=(y-x)*gd (fun i=>g i*pw y i) n+f n*((y-x)*gd (fun i=>g' i*pw y i) n):=c6 [y,x,gd (fun i=>g i*pw y i) n,f n,gd (fun i=>g' i*pw y i) n] rfl
   rw [e2,←h3 y,←h3' y];exact c6 [gd (fun i=>f i*pw y i) n,f n,pw y n,gd (fun i=>f i*pw x i) n,pw x n] rfl
theorem Bv (hc:∀x y:K,x*y=0→x=0∨y=0):∀(n:Nat) (f:Nat→K) (l:List K),f n≠0→l.Nodup→(∀y∈l,gd (fun i=>f i*pw y i) (n+1)=0)→l.length≤n
 | n,f,[],_,_,_=>jn n
 | 0,f,x::l,hf,_,hr=>by
  have:=hr x (by simp)
  have e:gd (fun i=>f i*pw x i) (0+1)=f 0:=by show 0+f 0*1=f 0; rw [zero_add,mul_one]
  rw [e] at this;exact absurd this hf
 | n+1,f,x::l,hf,hn,hr=>by
  obtain ⟨g,h1,h2,h5⟩:=Lk f x (n+2);have hx:=hr x (by simp)
  obtain ⟨h3,h4⟩:=im.1 hn;have hg0:g n≠0:=by rw [h2 n rfl]; exact hf
  have hg:∀y,gd (fun i=>f i*pw y i) (n+2)=(y-x)*gd (fun i=>g i*pw y i) (n+1):=fun y=>by
   have:=h5 y;rw [hx] at this
   have e:gd (fun i=>g i*pw y i) (n+2)=gd (fun i=>g i*pw y i) (n+1):=by
    show gd (fun i=>g i*pw y i) (n+1)+g (n+1)*pw y (n+1)=_
    rw [h1 (n+1) (by omega),zero_mul,add_zero]
   rw [e] at this;rw [←this];exact c6 [gd (fun i=>f i*pw y i) (n+2)] rfl
  have:=Bv hc n g l hg0 h4 fun y hy=>by
   have e:=hr y (by simp [hy])
   rw [hg y] at e;refine (hc _ _ e).resolve_left fun h0=>h3 ?_
   rw [←og h0]; exact hy
  simp; omega
end
end Gq

namespace Pe
open Go Gq
section
variable {p:Int} [IsP p]
end
section
variable {p:Int}
theorem jh (h:1≤p) {a b:Nat} (hab:a≤b):p^a≤p^b:=by
 obtain ⟨k,rfl⟩:=f5 hab;rw [Int.pow_add];have h1:1≤p^k:=v8 (n:=p) (m:=k) (by omega)
 have h2:0≤p^a:=lc (by omega)
 have:=bm h1 h2;omega
end
section
variable {p:Int} [IsP p]
def vl (p:Int):List Int→Int
 | []=>0
 | d::l=>d+p*vl p l
theorem Or:∀{l:List Int},Can p l→0≤vl p l∧vl p l<p^l.length
 | [],_=>by simp [vl]
 | d::l,h=>by
  have hp:=IsP.pos (p:=p);obtain ⟨h1,h2⟩:=Or (l:=l) fun x hx=>h x (by simp [hx])
  have h3:=h d (by simp)
  have h4:0≤p*vl p l:=dy (by omega) h1
  have h5:p*vl p l≤p*(p^l.length-1):=bm (by omega) (by omega)
  rw [Int.mul_sub,ix] at h5;rw [cl,cu,eg (p^l.length),vl];omega
theorem Uo:∀{l:List Int},Can p l→∀i,cf l i=vl p l/p^i%p
 | [],_,i=>by simp [vl,cf]
 | d::l,h,0=>by
  have h3:=h d (by simp)
  show d=(d+p*vl p l)/p^0%p;rw [fa,Int.ediv_one,lh,iv h3.1 h3.2]
 | d::l,h,i+1=>by
  have hp:=IsP.pos (p:=p);have h3:=h d (by simp)
  have e:cf (d::l) (i+1)=cf l i:=by simp [cf]
  rw [e,Uo (l:=l) fun x hx=>h x (by simp [hx]),vl,cu,eg (p^i),←Int.ediv_ediv_of_nonneg (by omega),Int.add_mul_ediv_left _ _ (by omega),jw h3.1 h3.2,Int.zero_add]
theorem Ut:∀(f:Nat) (n:Int),0≤n→n<2^f→∀i,cf (dgs p f n) i=n/p^i%p
 | 0,n,h0,hn,i=>by
  obtain rfl:n=0:=by simp at hn; omega
  simp [dgs,cf]
 | f+1,n,h0,hn,i=>by
  have hp:=IsP.ge (p:=p);unfold dgs
  split
  ·obtain rfl:n=0:=by omega
   simp [cf]
  ·have hd:n/p<2^f:=by
    apply fd (by omega)
    have:(2:Int)^(f+1)=2^f*2:=cu _ _;have h2:(2:Int)^f*2≤2^f*p:=bm hp (lc (by omega))
    omega
   cases i with
   | zero=>show n%p=n/p^0%p; rw [fa,Int.ediv_one]
   | succ i=>
    have e:cf (n%p::dgs p f (n/p)) (i+1)=cf (dgs p f (n/p)) i:=by simp [cf]
    rw [e,Ut f _ (il h0 (by omega)) hd,cu,eg (p^i),←Int.ediv_ediv_of_nonneg (by omega)]
abbrev ut (n:Int):Prop:=0≤n∧n<18446744073709551616
theorem Cu {n:Int} (h:ut n) (i:Nat):(du p n).c i=zp p (n/p^i):=by
 unfold du;rw [fc,Ut 64 n h.1 (by simpa using h.2),t6]
noncomputable def dm (a:Fp p):Int:=vl p (row a)
theorem ym (a:Fp p):0≤dm a∧dm a<p^a.len:=by
 have:=Or (gv a)
 rwa [bg] at this
theorem D6 {a:Fp p} (h:dm a<18446744073709551616):du p (dm a)=a:=Pol.ext fun i=>by
 rw [Cu ⟨(ym a).1,h⟩];have:=Uo (gv a) i;rw [f7] at this;rw [←t6,show dm a/p^i%p=rep (a.c i) from this.symm,jk]
theorem V0:∀(f:Nat) (n:Int),0≤n→n<2^f→vl p (dgs p f n)=n
 | 0,n,h0,hn=>by
  obtain rfl:n=0:=by simp at hn; omega
  rfl
 | f+1,n,h0,hn=>by
  have hp:=IsP.ge (p:=p);unfold dgs
  split
  ·show (0:Int)=n; omega
  ·have hd:n/p<2^f:=by
    apply fd (by omega)
    have:(2:Int)^(f+1)=2^f*2:=cu _ _;have h2:(2:Int)^f*2≤2^f*p:=bm hp (lc (by omega))
    omega
   rw [vl,V0 f _ (il h0 (by omega)) hd]
   exact Int.emod_add_mul_ediv n p
theorem tk {n:Int} (h:ut n):dm (du p n)=n:=by
 unfold dm;rw [Bh h.2,V0 64 n h.1 (by simpa using h.2)]
theorem yj {n m:Int} (hn:ut n) (hm:ut m) (h:du p n=du p m):n=m:=by rw [←tk (p:=p) hn,h,tk hm]
theorem vm {n:Int} (h:ut n) {d:Nat} (hd:n<p^d):(du p n).lt d:=fun i hi=>by
 have hp:=IsP.pos (p:=p);rw [Cu h,jw h.1 (Int.lt_of_lt_of_le hd (jh (by omega) hi)),td]
theorem jo (d:Nat):((p.toNat^d:Nat):Int)=p^d:=by
 have hp:=IsP.pos (p:=p);rw [Int.natCast_pow,Int.toNat_of_nonneg (by omega)]
theorem E2:du p 0=0:=Pol.ext fun i=>by rw [Cu ⟨by omega,by omega⟩,Int.zero_ediv,td]; rfl
def xh (q:Fp p) (d:Nat):List (Quo q):=(List.range (p.toNat^d-1)).map fun (n:Nat)=>Quo.mk q (du p (n+1))
theorem sm (d:Nat):0<p.toNat^d:=Nat.pow_pos (by have:=IsP.pos (p:=p); omega)
theorem yl {q:Fp p} {d:Nat} (hq:q.len=d+1) (hd:p^d<1000000000000):(xh q d).Nodup:=by
 unfold xh List.Nodup;rw [iz];refine List.Pairwise.imp_of_mem ?_ (List.pairwise_lt_range (n:=p.toNat^d-1));intro a b ha hb hab e;rw [ef] at ha hb;have hc:=jo (p:=p) d;have hpos:=sm (p:=p) d;have h1:ut ((a:Int)+1):=⟨by omega,by omega⟩
 have h2:ut ((b:Int)+1):=⟨by omega,by omega⟩
 have hq0:q≠0:=fun h0=>by rw [h0,Pol.len_zero] at hq; omega
 have l1:=Pol.len_le (vm (p:=p) h1 (d:=d) (by omega))
 have l2:=Pol.len_le (vm (p:=p) h2 (d:=d) (by omega))
 rw [←Pol.mod_eq_iff hq0,Pol.mod_small (by omega),Pol.mod_small (by omega)] at e
 have:=yj h1 h2 e;omega
theorem Ci {q:Fp p} {d:Nat} (hq:q.len=d+1) (hd:p^d<1000000000000) (x:Quo q):x∈xh q d↔x≠0:=by
 have hc:=jo (p:=p) d;have hpos:=sm (p:=p) d;have hq0:q≠0:=fun h0=>by rw [h0,Pol.len_zero] at hq; omega
 constructor
 ·intro h e
  obtain ⟨n,hn,rfl⟩:=cb.1 h;rw [ef] at hn;have h1:ut ((n:Int)+1):=⟨by omega,by omega⟩
  have l1:=Pol.len_le (vm (p:=p) h1 (d:=d) (by omega))
  rw [←Quo.mk_zero,←Pol.mod_eq_iff hq0,Pol.mod_small (by omega),Pol.zero_mod hq0,←E2] at e
  have:=yj h1 ⟨by omega,by omega⟩ e
  omega
 ·intro h
  obtain ⟨a,rfl⟩:=Quo.ex x;have hl:=Pol.len_mod a hq0;rw [←Pol.mk_mod] at h ⊢;have hin:=ym (a%q);have hle:p^(a%q).len≤p^d:=jh (by have:=IsP.pos (p:=p); omega) (by omega)
  have e:=D6 (a:=a%q) (by omega)
  have hne:dm (a%q)≠0:=fun h0=>by
   rw [h0,E2] at e;exact h (by rw [←e,Quo.mk_zero])
  refine cb.2 ⟨(dm (a%q)).toNat-1,?_,?_⟩
  ·rw [ef]; omega
  ·rw [show (((dm (a%q)).toNat-1:Nat):Int)+1=dm (a%q) by omega,e]
theorem a0t {q:Fp p} (hi:Irr q) {d:Nat} (hq:q.len=d+1) (hd:p^d<1000000000000) {x:Quo q} (hx:x≠0):pw x (p.toNat^d-1)=1:=by
 classical
 have h1:(1:Quo q)≠0:=(Us hi).one_ne;have:=U4 (yl hq hd) (fun x y e=>hi.quo_zero e) h1 (Ci hq hd) hx
 rwa [xh,c7,kj] at this
theorem Nb {q:Fp p} (hi:Irr q) {d:Nat} (hq:q.len=d+1) (hd:p^d<1000000000000) (x:Quo q):pw x (p.toNat^d)=x:=by
 have hpos:=sm (p:=p) d
 by_cases hx:x=0
 ·rw [hx]
  cases hn:p.toNat^d with
  | zero=>omega
  | succ n=>rw [pw,Gq.mul_zero]
 ·have:=a0t hi hq hd hx
  have e:p.toNat^d=(p.toNat^d-1)+1:=by omega
  rw [e,pw,this,Gq.one_mul]
end
section
variable {p:Int}
theorem a6b {q:Fp p}:(ic p:Quo q)=0:=by
 have h:∀n:Int,(ic n:Quo q)=Quo.mk q (Pol.C (zp p n)):=by
  have hn:∀n:Nat,(nc n:Quo q)=Quo.mk q (Pol.C (zp p n)):=by
   intro n
   induction n with
   | zero=>show (0:Quo q)=_; rw [show zp p ((0:Nat):Int)=0 from rfl,Pol.C_zero,Quo.mk_zero]
   | succ n ih=>
    rw [nc,ih];have:zp p ((n+1:Nat):Int)=zp p n+1:=rfl;rw [this,Pol.C_add,Quo.mk_add,Pol.C_one,Quo.mk_one]
  intro n;cases n with
  | ofNat n=>exact hn n
  | negSucc n=>
   show -(nc (n+1):Quo q)=_;rw [hn,←Quo.mk_neg,←Pol.C_neg]; rfl
 rw [h];have:zp p p=0:=Cg.2 (by simp)
 rw [this,Pol.C_zero,Quo.mk_zero]
end
section
variable {p:Int} [IsP p]
theorem T9 {q:Fp p} (x y:Quo q):pw (x+y) p.toNat=pw x p.toNat+pw y p.toNat:=by
 have h:=a6b (q:=q);rcases (inferInstance:IsP p).h with rfl | rfl | rfl | rfl
 ·have e:pw (x+y) 2=pw x 2+pw y 2+ic 2*(x*y):=by
   show (x+y)^2=x^2+y^2+ic 2*(x*y);exact c6 [x,y] rfl
  rw [h,Gq.zero_mul,Gq.add_zero] at e;exact e
 ·have e:pw (x+y) 3=pw x 3+pw y 3+ic 3*(x*x*y+x*y*y):=by
   show (x+y)^3=x^3+y^3+ic 3*(x*x*y+x*y*y);exact c6 [x,y] rfl
  rw [h,Gq.zero_mul,Gq.add_zero] at e;exact e
 ·have e:pw (x+y) 5=pw x 5+pw y 5+ic 5*(x^4*y+ic 2*x^3*y^2+ic 2*x^2*y^3+x*y^4):=by
   show (x+y)^5=x^5+y^5+ic 5*(x^4*y+ic 2*x^3*y^2+ic 2*x^2*y^3+x*y^4);exact c6 [x,y] rfl
  rw [h,Gq.zero_mul,Gq.add_zero] at e;exact e
 ·have e:pw (x+y) 7=pw x 7+pw y 7+ic 7*(x^6*y+ic 3*x^5*y^2+ic 5*x^4*y^3+ic 5*x^3*y^4+ic 3*x^2*y^5+x*y^6):=by
   show (x+y)^7=x^7+y^7+ic 7*(x^6*y+ic 3*x^5*y^2+ic 5*x^4*y^3+ic 5*x^3*y^4+ic 3*x^2*y^5+x*y^6);exact c6 [x,y] rfl
  rw [h,Gq.zero_mul,Gq.add_zero] at e;exact e
theorem M1 (c:Zp p):pw c p.toNat=c:=by
 have h0:=kg c;have e:c=zp p (rep c):=(jk c).symm;generalize rep c=n at *;subst e;rcases (inferInstance:IsP p).h with rfl | rfl | rfl | rfl
 ·have:n=0∨n=1:=by omega
  rcases this with rfl | rfl <;> exact Cg.2 (by decide)
 ·have:n=0∨n=1∨n=2:=by omega
  rcases this with rfl | rfl | rfl <;> exact Cg.2 (by decide)
 ·have:n=0∨n=1∨n=2∨n=3∨n=4:=by omega
  rcases this with rfl | rfl | rfl | rfl | rfl <;> exact Cg.2 (by decide)
 ·have:n=0∨n=1∨n=2∨n=3∨n=4∨n=5∨n=6:=by omega
  rcases this with rfl | rfl | rfl | rfl | rfl | rfl | rfl <;> exact Cg.2 (by decide)
end
end Pe

namespace Pe
open Go Gq
section
variable {p:Int} [IsP p]
theorem Ea {q:Fp p} (x y:Quo q):∀k,pw (x+y) (p.toNat^k)=pw x (p.toNat^k)+pw y (p.toNat^k)
 | 0=>by rw [qb,tw,tw,tw]
 | k+1=>by rw [o5,←tu,Ea x y k,T9,tu,tu]
theorem Ag (c:Zp p):∀k,pw c (p.toNat^k)=c
 | 0=>by rw [qb,tw]
 | k+1=>by rw [o5,←tu,Ag c k,M1]
end
section
variable {p:Int}
theorem a1z (c:Zp p):∀n,Pol.C (pw c n)=pw (Pol.C c) n
 | 0=>rfl
 | n+1=>by rw [pw,Pol.C_mul,a1z c n,pw]
end
section
variable {p:Int} [IsP p]
end
section
variable {p:Int}
theorem Oc {P:Fp p→Prop} (h0:P 0) (h:∀c a,P a→P (Pol.C c+Pol.X*a)):∀(n:Nat) (a:Fp p),a.lt n→P a
 | 0,a,ha=>by rw [Pol.lt_zero.1 ha]; exact h0
 | n+1,a,ha=>by
  obtain ⟨m,hm⟩:=a.fin
  let b:Fp p:=⟨fun i=>a.c (i+1),m,fun i hi=>hm _ (by omega)⟩
  have e:a=Pol.C (a.c 0)+Pol.X*b:=Pol.ext fun i=>by
   rw [Pol.c_add,Pol.c_C,Pol.c_Xmul];cases i with
   | zero=>rw [if_pos rfl,if_pos rfl,Gq.add_zero]
   | succ i=>rw [if_neg (by omega),if_neg (by omega),Gq.zero_add]; rfl
  rw [e];exact h _ _ (Oc h0 h n b fun i hi=>ha _ (by omega))
end
section
variable {p:Int} [IsP p]
theorem Cv {q:Fp p} (k:Nat) (h:pw (Quo.mk q Pol.X) (p.toNat^k)=Quo.mk q Pol.X) (x:Quo q):pw x (p.toNat^k)=x:=by
 obtain ⟨a,rfl⟩:=Quo.ex x;refine Oc (P:=fun a=>pw (Quo.mk q a) (p.toNat^k)=Quo.mk q a) ?_ (fun c a ha=>?_) _ a a.lt_len
 ·rw [Quo.mk_zero]
  have:=sm (p:=p) k;cases hn:p.toNat^k with
  | zero=>omega
  | succ n=>rw [pw,Gq.mul_zero]
 ·rw [Quo.mk_add,Quo.mk_mul,Ea,zi,h,ha]
  congr 1
  rw [←Quo.mk_pow,←a1z,Ag]
theorem v4 {K:Type} [CR K] (m:Nat) (g:Nat→K):∀n,gd (fun i=>(if i=m then 1 else 0)*g i) n=if m<n then g m else 0
 | 0=>by rw [if_neg (by omega)]; rfl
 | n+1=>by
  rw [gd,v4 m g n];rcases kl m n with h | h | h
  ·rw [if_pos h,if_neg (by omega),if_pos (by omega),Gq.zero_mul,Gq.add_zero]
  ·rw [if_neg (by omega),if_pos h.symm,if_pos (by omega),Gq.one_mul,Gq.zero_add,h]
  ·rw [if_neg (by omega),if_neg (by omega),if_neg (by omega),Gq.zero_mul,Gq.add_zero]
noncomputable def frT (p:Int) (k:Nat):Fp p:=pw Pol.X (p.toNat^k)-Pol.X
theorem tj {q:Fp p} {k:Nat}:Dv q (frT p k)↔pw (Quo.mk q Pol.X) (p.toNat^k)=Quo.mk q Pol.X:=by
 rw [lm,frT,Quo.mk_sub,Quo.mk_pow];exact ⟨fun h=>og h,fun h=>by rw [h,sub_self]⟩
theorem Ay {q:Fp p} (hi:Irr q) {d:Nat} (hq:q.len=d+1) (hd:p^d<1000000000000):Dv q (frT p d):=tj.2 (Nb hi hq hd _)
theorem x8 {q:Fp p} (hi:Irr q) {d k:Nat} (hq:q.len=d+1) (hd:p^d<1000000000000) (hk:0<k) (h:Dv q (frT p k)):d≤k:=by
 classical
 have hfix:=Cv k (tj.1 h);have hone:(1:Quo q)≠0:=(Us hi).one_ne;have hP:2≤p.toNat:=by have:=IsP.ge (p:=p); omega
 have hne1:1<p.toNat^k:=Nat.one_lt_pow (by omega) hP
 have r:=Bv (fun x y e=>hi.quo_zero e) (p.toNat^k) (fun i=>(if i=p.toNat^k then (1:Quo q) else 0)-(if i=1 then 1 else 0)) ((0:Quo q)::xh q d)
  (by rw [if_pos rfl,if_neg (by omega),sub_eq,neg_zero,Gq.add_zero]; exact hone)
  (im.2 ⟨fun h0=>(Ci hq hd 0).1 h0 rfl,yl hq hd⟩)
  (fun y _=>by
   have e:(fun i=>((if i=p.toNat^k then (1:Quo q) else 0)-(if i=1 then 1 else 0))*pw y i)=fun i=>(if i=p.toNat^k then (1:Quo q) else 0)*pw y i+(if i=1 then 1 else 0) * -pw y i:=by
    funext i
    exact c6 [(if i=p.toNat^k then (1:Quo q) else 0),(if i=1 then (1:Quo q) else 0),pw y i] rfl
   rw [e,xz,v4,v4 _ (fun i=>-pw y i),if_pos (by omega),if_pos (by omega),hfix,tw,add_neg])
 have hl:(xh q d).length=p.toNat^d-1:=by unfold xh; rw [c7,kj]
 have hpos:=sm (p:=p) d;rw [cl,hl] at r;have:p.toNat^d≤p.toNat^k:=by omega
 exact (Nat.pow_le_pow_iff_right (by omega)).1 this
end
end Pe

namespace Pe
open Go Gq
section
variable {p:Int} [IsP p]
theorem G0:∀{l m:List Int},Can p l→Can p m→l.length<m.length→cf m (m.length-1)≠0→vl p l<vl p m
 | l,[],_,_,h,_=>by simp at h
 | l,d::m,hl,hm,h,hc=>by
  have hp:=IsP.pos (p:=p);have hd:=hm d (by simp)
  have hmc:Can p m:=fun x hx=>hm x (by simp [hx])
  cases l with
  | nil=>
   show 0<d+p*vl p m;have h2:=(Or hmc).1;cases m with
   | nil=>
    have:d≠0:=hc;simp [vl]; omega
   | cons e m=>
    have h3:cf (e::m) ((e::m).length-1)≠0:=by simpa [cf] using hc
    have:=G0 (l:=[]) (m:=e::m) (fun x hx=>by simp at hx) hmc (by simp) h3
    have h5:0<p*vl p (e::m):=ph hp (by simpa [vl] using this)
    omega
  | cons c l=>
   have hlc:Can p l:=fun x hx=>hl x (by simp [hx])
   have hcc:=hl c (by simp)
   have h3:cf m (m.length-1)≠0:=by
    cases m with
    | nil=>simp at h
    | cons e m=>simpa [cf] using hc
   have:=G0 hlc hmc (by simpa using h) h3
   have h5:p*(vl p l+1)≤p*vl p m:=bm (by omega) (by omega)
   rw [pj,ix] at h5;show c+p*vl p l<d+p*vl p m;omega
end
section
variable {p:Int}
theorem V9 {a:Fp p} (h:a≠0):cf (row a) ((row a).length-1)≠0:=by
 rw [bg,f7];exact fun h0=>Pol.ld_ne h (fw.1 h0)
end
section
variable {p:Int} [IsP p]
theorem qj {a b:Fp p} (h:a.len<b.len):dm a<dm b:=G0 (gv a) (gv b) (by simpa using h) (V9 fun h0=>by rw [h0,Pol.len_zero] at h; omega)
theorem Uw:∀{l m:List Int},Can p l→Can p m→l.length=m.length→vl p l=vl p m→l=m
 | [],[],_,_,_,_=>rfl
 | [],_::_,_,_,h,_=>by simp at h
 | _::_,[],_,_,h,_=>by simp at h
 | c::l,d::m,hl,hm,h,e=>by
  have hp:=IsP.pos (p:=p);have hcc:=hl c (by simp)
  have hd:=hm d (by simp)
  have e2:c+p*vl p l=d+p*vl p m:=e
  have e3:c=d:=by
   have:=congrArg (· % p) e2
   simp only [lh] at this
   rwa [iv hcc.1 hcc.2,iv hd.1 hd.2] at this
  subst e3;have e4:p*vl p l=p*vl p m:=by omega
  rw [Uw (l:=l) (m:=m) (fun x hx=>hl x (by simp [hx])) (fun x hx=>hm x (by simp [hx])) (by simpa using h) (Int.eq_of_mul_eq_mul_left (by omega) e4)]
theorem Ej {a b:Fp p} (h:dm a=dm b):a=b:=by
 rcases kl a.len b.len with h1 | h1 | h1
 ·have:=qj h1; omega
 ·exact W9 (Uw (gv a) (gv b) (by simpa using h1) h)
 ·have:=qj h1; omega
abbrev ej (p:Int):=List (Fp p×Nat)
noncomputable def dz (L:ej p):Fp p:=mc (L.map fun x=>pw x.1 x.2)
structure FacOk (L:ej p):Prop where
 irr:∀x∈L,Irr x.1∧Monic x.1∧1≤x.2
 dis:L.Pairwise fun x y=>x.1≠y.1
structure IsFac (a:Fp p) (L:ej p):Prop where
 ok:FacOk L
 sorted:L.Pairwise fun x y=>dm x.1<dm y.1
 eq:a=Pol.C a.ld*dz L
end
section
variable {p:Int}
theorem n6 (x:Fp p×Nat) (L:ej p):dz (x::L)=pw x.1 x.2*dz L:=rfl
end
section
variable {p:Int} [IsP p]
theorem Monic.pw {a:Fp p} (h:Monic a):∀n,Monic (pw a n)
 | 0=>Monic.one
 | n+1=>(Monic.pw h n).mul h
theorem rt {L:ej p} (h:FacOk L):Monic (dz L):=by
 induction L with
 | nil=>exact Monic.one
 | cons x L ih=>
  rw [n6];exact (Monic.pw (h.irr x (by simp)).2.1 _).mul (ih ⟨fun y hy=>h.irr y (by simp [hy]),(db.1 h.dis).2⟩)
theorem Irr.pw_dv {q a:Fp p} (h:Irr q):∀n,Dv q (pw a n)→Dv q a
 | 0,hd=>by
  have h1:q.len≤(1:Fp p).len:=hd.len Pol.one_ne;have h2:=h.len;rw [Pol.len_one] at h1; omega
 | n+1,hd=>(h.prime hd).elim (Irr.pw_dv h n) id
theorem B6 {q:Fp p} (hq:Irr q) (mq:Monic q):∀{L:ej p},FacOk L→Dv q (dz L)→∃k,(q,k)∈L
 | [],_,h=>by
  have h1:q.len≤(1:Fp p).len:=h.len Pol.one_ne;have h2:=hq.len;rw [Pol.len_one] at h1; omega
 | x::L,ok,h=>by
  rw [n6] at h;rcases hq.prime h with h1 | h1
  ·have h2:=Irr.pw_dv hq _ h1
   obtain ⟨i1,i2,_⟩:=ok.irr x (by simp)
   have:=hq.eq_of_dv i1 mq i2 h2;exact ⟨x.2,by rw [this]; simp⟩
  ·obtain ⟨k,hk⟩:=B6 hq mq ⟨fun y hy=>ok.irr y (by simp [hy]),(db.1 ok.dis).2⟩ h1
   exact ⟨k,by simp [hk]⟩
theorem qi {q:Fp p} {k:Nat}:∀{L:ej p},FacOk L→(q,k)∈L→∃r,dz L=pw q k*r∧¬ Dv q r
 | x::L,ok,h=>by
  have ok':FacOk L:=⟨fun y hy=>ok.irr y (by simp [hy]),(db.1 ok.dis).2⟩
  rw [n6];rcases da.1 h with rfl | h
  ·refine ⟨dz L,rfl,fun hd=>?_⟩
   obtain ⟨i1,i2,_⟩:=ok.irr (q,k) (by simp)
   obtain ⟨k',hk⟩:=B6 i1 i2 ok' hd;exact (db.1 ok.dis).1 _ hk rfl
  ·obtain ⟨r,e,hn⟩:=qi ok' h
   refine ⟨pw x.1 x.2*r,by rw [e,Gq.mul_left_comm],fun hd=>?_⟩
   obtain ⟨i1,i2,_⟩:=ok.irr (q,k) (by simp [h])
   obtain ⟨j1,j2,_⟩:=ok.irr x (by simp)
   rcases i1.prime hd with h1 | h1
   ·have h2:=Irr.pw_dv i1 _ h1
    have e:=i1.eq_of_dv j1 i2 j2 h2;exact (db.1 ok.dis).1 _ h e.symm
   ·exact hn h1
theorem By {a:Fp p} (h:a≠0):∀n,pw a n≠0
 | 0=>Pol.one_ne
 | n+1=>Pol.mul_ne (By h n) h
theorem H4 {a:Fp p} (ha:a≠0) {L:ej p} (ok:FacOk L) (e:a=Pol.C a.ld*dz L) (q:Fp p) (k:Nat):(q,k)∈L↔Irr q∧Monic q∧1≤k∧Dv (pw q k) a∧¬ Dv (pw q (k+1)) a:=by
 have hld:=Pol.ld_ne ha
 have dvP:∀c,Dv c a↔Dv c (dz L):=fun c=>by
  constructor
  ·rintro ⟨x,hx⟩
   refine ⟨Pol.C (Fd.inv a.ld)*x,?_⟩
   have:dz L=Pol.C (Fd.inv a.ld)*a:=by
    rw [e];have e2:(Pol.C a.ld*dz L).ld=a.ld:=by rw [←e]
    rw [e2,←Gq.mul_assoc,Gq.mul_comm (Pol.C (Fd.inv _)),Ua hld,Gq.one_mul]
   rw [this];generalize Pol.C (Fd.inv a.ld)=k;rw [hx];exact c6 [k,c,x] rfl
  ·intro h
   rw [e]; exact h.mul_left _
 constructor
 ·intro h
  obtain ⟨i1,i2,i3⟩:=ok.irr (q,k) h;obtain ⟨r,e2,hn⟩:=qi ok h;refine ⟨i1,i2,i3,(dvP _).2 ⟨r,e2⟩,fun hd=>hn ?_⟩
  obtain ⟨y,hy⟩:=(dvP _).1 hd;rw [e2,pw,Gq.mul_assoc] at hy;exact ⟨y,Pol.mul_cancel (By i1.ne k) hy⟩
 ·rintro ⟨i1,i2,i3,h1,h2⟩
  have hq:Dv q a:=by
   obtain ⟨k,rfl⟩:∃j,k=j+1:=⟨k-1,by omega⟩
   exact Dv.trans ⟨pw q k,Gq.mul_comm _ _⟩ h1
  obtain ⟨k',hk'⟩:=B6 i1 i2 ok ((dvP _).1 hq);obtain ⟨r,e2,hn⟩:=qi ok hk'
  have:k=k':=by
   rcases kl k k' with h | h | h
   ·exfalso
    apply h2;rw [dvP,e2];obtain ⟨j,rfl⟩:=f5 (show k+1≤k' from h);rw [uf q (k+1) j];exact ((Dv.refl _).mul_right _).mul_right _
   ·exact h
   ·exfalso
    apply hn;obtain ⟨y,hy⟩:=(dvP _).1 h1;obtain ⟨j,rfl⟩:=f5 (show k'+1≤k from h);rw [e2,uf,pw,Gq.mul_assoc,Gq.mul_assoc] at hy;exact ⟨_,Pol.mul_cancel (By i1.ne k') hy⟩
  rw [this]; exact hk'
theorem Ev {α:Type} (f:α→Int):∀{l m:List α},l.Pairwise (fun x y=>f x<f y)→m.Pairwise (fun x y=>f x<f y)→(∀x,x∈l↔x∈m)→l=m
 | [],[],_,_,_=>rfl
 | [],y::m,_,_,h=>by have:=(h y).2 (by simp); simp at this
 | x::l,[],_,_,h=>by have:=(h x).1 (by simp); simp at this
 | x::l,y::m,hl,hm,h=>by
  obtain ⟨l1,l2⟩:=db.1 hl;obtain ⟨m1,m2⟩:=db.1 hm
  have e:x=y:=by
   rcases da.1 ((h x).1 (by simp)) with h1 | h1
   ·exact h1
   ·rcases da.1 ((h y).2 (by simp)) with h2 | h2
    ·exact h2.symm
    ·have:=m1 _ h1
     have:=l1 _ h2;omega
  subst e;rw [Ev f l2 m2 fun z=>?_]
  constructor
  ·intro hz
   rcases da.1 ((h z).1 (by simp [hz])) with h1 | h1
   ·subst h1; have:=l1 _ hz; omega
   ·exact h1
  ·intro hz
   rcases da.1 ((h z).2 (by simp [hz])) with h1 | h1
   ·subst h1; have:=m1 _ hz; omega
   ·exact h1
theorem IsFac.unique {a:Fp p} (ha:a≠0) {L L':ej p} (h:IsFac a L) (h':IsFac a L'):L=L':=
 Ev (fun x=>dm x.1) h.sorted h'.sorted fun x=>by
  obtain ⟨q,k⟩:=x;rw [H4 ha h.ok h.eq,H4 ha h'.ok h'.eq]
def vf (n:Nat) (a:Fp p):Prop:=∀q,Irr q→Dv q a→n+1≤q.len
theorem rf {a:Fp p} {n:Nat} (h:vf n a) (hl:2≤a.len) (hs:a.len<2*n+1):Irr a:=by
 refine Irr.of_dv hl fun u hu=>?_
 have ha:a≠0:=fun h0=>by rw [h0,Pol.len_zero] at hl; omega
 obtain ⟨v,rfl⟩:=hu;have hu0:u≠0:=fun h0=>ha (by rw [h0,Gq.zero_mul])
 have hv0:v≠0:=fun h0=>ha (by rw [h0,Gq.mul_zero])
 have l:=Pol.len_mul hu0 hv0;have l1:=Pol.len_pos hu0;have l2:=Pol.len_pos hv0;apply ck;intro hx;have hu2:2≤u.len:=by omega
 have hv2:2≤v.len:=by omega
 obtain ⟨q,q1,_,q2⟩:=xv u.len u (az _) hu2;obtain ⟨r,r1,_,r2⟩:=xv v.len v (az _) hv2;have s1:=h q q1 (q2.mul_right v);have s2:=h r r1 (r2.mul_left u);have s3:=q2.len hu0;have s4:=r2.len hv0;omega
theorem Jj (a:Fp p):vf 1 a:=fun _q h _=>h.len
theorem Mo {a b:Fp p} {n:Nat} (h:vf n a) (hd:Dv b a):vf n b:=fun q hq hb=>h q hq (hb.trans hd)
end
end Pe

namespace Pe
open Go Gq
variable {T:Nat→Option Fn} {A:ah}
def vr (O:ah) (F:Nat):Prop:=∀x:Int,ask O F [(D.int .i64 x)]=some (D.bool false)
theorem X2 (hT:T F3=some Z3):vr (den T A) F3:=fun x=>by
 refine bc hT rfl ?_;simp -implicitDefEqProofs [Z3,Z3_B]
theorem Qc (hT:T F4=some Z4):vr (den T A) F4:=fun x=>by
 refine bc hT rfl ?_;simp -implicitDefEqProofs [Z4,Z4_B]
def md (x y:Int):Int:=if x<y then -1 else if y<x then 1 else 0
def my (O:ah) (F:Nat):Prop:=∀x y:Int,ask O F [(D.int .i64 x),(D.int .i64 y)]=some (D.int .i64 (md x y))
theorem Mh (hT:T F0=some Z0) (h:vr (den T A) F3):my (den T A) F0:=fun x y=>by
 have e1:=h x;have e2:=h y;refine bc hT rfl ?_;unfold md
 by_cases h1:x<y
 ·simp -implicitDefEqProofs [Z0,Z0_B,e1,e2,h1,af]
 ·by_cases h2:y<x
  ·simp -implicitDefEqProofs [Z0,Z0_B,e1,e2,h1,h2,af]
  ·simp -implicitDefEqProofs [Z0,Z0_B,e1,e2,h1,h2,af]
theorem Gp (hT:T F2=some Z2) (h:vr (den T A) F4):my (den T A) F2:=fun x y=>by
 have e1:=h x;have e2:=h y;refine bc hT rfl ?_;unfold md
 by_cases h1:x<y
 ·simp -implicitDefEqProofs [Z2,Z2_B,e1,e2,h1,af]
 ·by_cases h2:y<x
  ·simp -implicitDefEqProofs [Z2,Z2_B,e1,e2,h1,h2,af]
  ·simp -implicitDefEqProofs [Z2,Z2_B,e1,e2,h1,h2,af]
def A4 (l m:List Int):Nat→Int
 | 0=>0
 | n+1=>if md (cf l n) (cf m n)≠0 then md (cf l n) (cf m n) else A4 l m n
theorem Dy {O:ah} (hc:my O F2) {l m:List Int} (hlm:l.length=m.length) (hl:l.length<1000000):∀n:Nat,n≤l.length →
 dn O 0 (.loop Zk_L0) ⟨[(0,(.d (.sl .leaf (ak .i64 l)))),(1,(.d (.sl .leaf (ak .i64 m)))),(6,(.d (.int .i64 ((n:Int)-1))))],[]⟩ =
  if A4 l m n=0 then some (.exit 0,⟨[(0,(.d (.sl .leaf (ak .i64 l)))),(1,(.d (.sl .leaf (ak .i64 m)))),(6,(.d (.int .i64 (-1)))),(20,(.d (.bool false)))],[]⟩) else some (.ret,⟨[(4,(.d (.int .i64 (A4 l m n))))],[]⟩)
 | 0,hn=>by
  simp only [A4,if_true];exact bo (by simp -implicitDefEqProofs [Zk_L0,af])
 | n+1,hn=>by
  have t0:(((n+1:Nat):Int)-1)=(n:Int):=by omega
  rw [t0];have h1:n<l.length:=by omega
  have h2:n<m.length:=by omega
  have e1:l[n]? = some (cf l n):=by rw [ao h1,dt h1]
  have e2:m[n]? = some (cf m n):=by rw [ao h2,dt h2]
  have e1':l[n]=cf l n:=(dt h1).symm;have e2':m[n]=cf m n:=(dt h2).symm;have e3:=hc (cf l n) (cf m n);have w1:IntKind.i64.wrap ((n:Int)-1)=(n:Int)-1:=w64 (by omega)
  by_cases h0:md (cf l n) (cf m n)=0
  ·rw [h0] at e3
   have e:A4 l m (n+1)=A4 l m n:=if_neg (fun h=>h h0)
   rw [e];refine bb ?_ (Dy hc hlm hl n (by omega))
   simp -implicitDefEqProofs [Zk_L0,af,h1,h2,e1',e2',e3,w1]
  ·have e:A4 l m (n+1)=md (cf l n) (cf m n):=if_pos h0
   rw [e,if_neg h0];refine ki ?_;simp -implicitDefEqProofs [Zk_L0,af,h1,h2,e1',e2',e3,h0]
def Wd (l m:List Int):Int:=if md l.length m.length≠0 then md l.length m.length else A4 l m l.length
def wa (O:ah):Prop:=∀l m:List Int,l.length<1000000→m.length<1000000→ask O Fk [(D.sl .leaf (ak .i64 l)),(D.sl .leaf (ak .i64 m))]=some (D.int .i64 (Wd l m))
theorem Qo (hT:T Fk=some Zk) (h1:my (den T A) F0) (h2:my (den T A) F2):wa (den T A):=by
 intro l m hl hm;have e1:=h1 l.length m.length;unfold Wd;refine bc hT rfl ?_
 by_cases h0:md l.length m.length=0
 ·have hlm:l.length=m.length:=by
   unfold md at h0
   split at h0
   ·omega
   ·split at h0 <;> omega
  rw [if_neg (fun h=>h h0)]
  rw [h0] at e1;have e2:=Dy h2 hlm hl l.length (az _);have w1:IntKind.i64.wrap ((l.length:Int)-1)=(l.length:Int)-1:=w64 (by omega)
  by_cases hz:A4 l m l.length=0
  ·rw [if_pos hz] at e2
   simp -implicitDefEqProofs [Zk,Zk_B,af,e1,e2,w1,hz]
  ·rw [if_neg hz] at e2
   simp -implicitDefEqProofs [Zk,Zk_B,af,e1,e2,w1]
 ·rw [if_pos h0]
  simp -implicitDefEqProofs [Zk,Zk_B,af,e1,h0]
section
variable (f:D→Int)
def wt:List D→D→List D→List D
 | [],x,R=>x::R
 | y::L,x,R=>if f x<f y then wt L x (y::R) else (y::L).reverse++x::R
def Dm:List D→List D→List D
 | P,[]=>P
 | P,x::r=>Dm (wt f P.reverse x []) r
theorem It:∀(L:List D) (x:D) (R S:List D),wt f L x (R++S)=wt f L x R++S
 | [],x,R,S=>rfl
 | y::L,x,R,S=>by
  unfold wt
  split
  ·rw [←fh,It L x (y::R) S]
  ·simp
theorem wl:∀(L:List D) (x:D) (R:List D),(wt f L x R).Perm (x::(L.reverse++R))
 | [],x,R=>.refl _
 | y::L,x,R=>by
  unfold wt
  split
  ·refine (wl L x (y::R)).trans ?_
   simp
  ·exact List.perm_middle
theorem Rh (L:List D) (x:D) (R:List D):(wt f L x R).length=L.length+R.length+1:=by
 have:=(wl f L x R).length_eq
 simpa using this
def Asc (l:List D):Prop:=l.Pairwise fun x y=>f x≤f y
theorem J5:∀(L:List D) (x:D) (R:List D),Asc f (L.reverse++R)→(∀y∈R,f x≤f y)→Asc f (wt f L x R)
 | [],x,R,h,hx=>by
  unfold wt Asc;refine db.2 ⟨hx,?_⟩;have h':Asc f R:=by simpa using h
  exact h'
 | y::L,x,R,h,hx=>by
  unfold wt
  split
  ·rename_i hlt
   refine J5 L x (y::R) (by simpa using h) fun z hz=>?_
   rcases da.1 hz with rfl | hz
   ·omega
   ·exact hx z hz
  ·rename_i hlt
   unfold Asc at h ⊢;rw [f0] at h ⊢;refine ⟨h.1,db.2 ⟨hx,h.2.1⟩,fun a ha b hb=>?_⟩
   rcases da.1 hb with rfl | hb
   ·have hay:f a≤f y:=by
     have h1:=h.1;rw [List.reverse_cons,f0] at h1;rw [List.reverse_cons] at ha;rcases ba.1 ha with ha | ha
     ·exact h1.2.2 a ha y (by simp)
     ·simp at ha; rw [ha]; exact lf _
    omega
   ·exact h.2.2 a ha b hb
theorem Es:∀(r P:List D),(Dm f P r).Perm (P++r)
 | [],P=>by simp [Dm]
 | x::r,P=>by
  unfold Dm;refine (Es r _).trans ?_;have:=wl f P.reverse x [];refine (List.Perm.append_right r this).trans ?_;simp;exact List.perm_middle.symm
theorem Hr:∀(r P:List D),Asc f P→Asc f (Dm f P r)
 | [],P,h=>h
 | x::r,P,h=>by
  unfold Dm;exact Hr r _ (J5 f P.reverse x [] (by simpa using h) (by simp))
end
section
variable {O:ah} {g:Nat} {first caps:List D}
abbrev fx:Sh:=.st [.leaf,.leaf]
structure CmpOk (O:ah) (g:Nat) (first caps:List D) (f:D→Int) (s:Sh) (cs:List D):Prop where
 nf:tq first
 nc:tq caps
 nx:tq cs
 sh:ud s cs
 ask:∀x∈cs,∀y∈cs,ask O g (first++[x,y]++caps)=some (D.int .i64 (md (f x) (f y)))
theorem CmpOk.perm {f:D→Int} {s:Sh} {cs ds:List D} (h:CmpOk O g first caps f s cs) (p:ds.Perm cs):CmpOk O g first caps f s ds:=
 ⟨h.nf,h.nc,fun x hx=>h.nx x (p.subset hx),fun x hx=>h.sh x (p.subset hx),fun x hx y hy=>h.ask x (p.subset hx) y (p.subset hy)⟩
theorem CmpOk.call {f:D→Int} {s:Sh} {cs:List D} (h:CmpOk O g first caps f s cs) {hp:Heap} {np:Nat} {news:List Nat} {x y:D} (hx:x∈cs) (hy:y∈cs) :
 yn O np hp .flat news (g,first.map .d,caps.map .d) [.d x,.d y]=some (.d (D.int .i64 (md (f x) (f y))),hp):=by
 have e:ll hp (first.map .d++[.d x,.d y]++caps.map .d)=some (first++[x,y]++caps):=
  re hp (re hp (jx hp h.nf) (jx hp (ds:=[x,y]) (by intro z hz; simp at hz; rcases hz with rfl | rfl; exact h.nx _ hx; exact h.nx _ hy))) (jx hp h.nc)
 rw [xu,e,ac,Db,h.ask x hx y hy,ac,A1,show (D.int IntKind.i64 (md (f x) (f y))).flat=true from rfl,if_pos rfl]
theorem Iu (x y:Int):md x y<0↔x<y:=by
 unfold md
 split
 ·omega
 ·split <;> omega
theorem Sd {f:D→Int} {n:Nat} {cp:Option Nat} (hn:n≤1000) {i:Nat}:∀(L:List D) (x:D) (R:List D),(L.reverse++x::R).length=n→CmpOk O g first caps f fx (L.reverse++x::R)→∃j:Int,
 dn O 1 (.loop Z26_L0) ⟨[(0,.sl 0 [] 0 n cp),(1,(.d (.int .i64 0))),(2,(.d (.int .i64 n))),(3,.d (.fn g first caps)),(8,(.d (.int .i64 i))),(9,(.d (.int .i64 L.length)))],[.sl false fx (L.reverse++x::R)]⟩ =
  some (.exit 2,⟨[(0,.sl 0 [] 0 n cp),(1,(.d (.int .i64 0))),(2,(.d (.int .i64 n))),(3,.d (.fn g first caps)),(8,(.d (.int .i64 i))),(9,(.d (.int .i64 j))),(34,(.d (.bool false)))],[.sl false fx (wt f L x R)]⟩)
 | [],x,R,hl,ok=>by
  refine ⟨0,bo ?_⟩;simp -implicitDefEqProofs [Z26_L0,af,wt]
 | y::L,x,R,hl,ok=>by
  have hj:(y::L).length=L.length+1:=rfl;have hlen:((y::L).reverse++x::R).length=L.length+1+(R.length+1):=by simp; omega
  have e1:((y::L).reverse++x::R)[L.length+1]? = some x:=by
   rw [bk (by simp)]; simp
  have e2:((y::L).reverse++x::R)[L.length]? = some y:=by
   rw [bh (by simp)]; simp
  have m1:x∈(y::L).reverse++x::R:=by simp
  have m2:y∈(y::L).reverse++x::R:=by simp
  have c:=ok.call (hp:=[.sl false fx ((y::L).reverse++x::R)]) (np:=1) (news:=[]) m1 m2;have s1:=ok.sh x m1;have s2:=ok.sh y m2;have n1:=ok.nx x m1;have n2:=ok.nx y m2
  have e3:(((y::L).reverse++x::R).set (L.length+1) y).set L.length x=L.reverse++x::y::R:=by
   rw [List.set_append_right _ _ (by simp),List.set_append_left _ _ (by simp)]
   simp
  have hp:((y::L).reverse++x::R).Perm (L.reverse++x::y::R):=by
   simp;exact (List.Perm.swap x y R).append_left _
  have w1:IntKind.i64.wrap (L.length:Int)=L.length:=w64 (by omega)
  have h0:(0:Int)<(L.length:Int)+1:=by omega
  have h00:(0:Int)≤(L.length:Int)+1:=by omega
  have h1:L.length+1<n:=by omega
  have h2:L.length<n:=by omega
  have h3:L.length<((y::L).reverse++x::R).length:=by omega
  have h4:L.length+1<((y::L).reverse++x::R).length:=by omega
  have e4:(((y::L).reverse++x::R).set (L.length+1) y)[L.length]? = some y:=by
   rw [bn (by omega),e2]
  unfold wt;rw [hj,show ((L.length+1:Nat):Int)=(L.length:Int)+1 by omega]
  generalize (y::L).reverse++x::R=cs at *;have e1':cs[L.length+1]=x:=by rw [ao h4] at e1; exact av e1
  have e2':cs[L.length]=y:=by rw [ao h3] at e2; exact av e2
  by_cases hlt:f x<f y
  ·rw [if_pos hlt]
   obtain ⟨j,e⟩:=Sd hn L x (y::R) (by rw [←hp.length_eq]; omega) (ok.perm hp.symm)
   have hc:=(Iu (f x) (f y)).2 hlt;refine ⟨j,bb ?_ e⟩;simp -implicitDefEqProofs [Z26_L0,af,h0,h00,h1,h2,h3,h4,e1',e2',c,s1,s2,n1,n2,w1,hc,e3]
  ·rw [if_neg hlt]
   have hc:=mt (Iu (f x) (f y)).1 hlt;refine ⟨(L.length:Int)+1,bo ?_⟩;simp -implicitDefEqProofs [Z26_L0,af,h0,h00,h1,h2,h3,h4,e1',e2',c,s1,s2,w1,hc]
end
theorem S8 {O:ah} {g:Nat} {first caps:List D} {f:D→Int} {n:Nat} {cp:Option Nat} (hn:n≤1000):∀(r P:List D),P.length+r.length=n→0<P.length→CmpOk O g first caps f fx (P++r) →
 dn O 1 (.loop Z26_L1) ⟨[(0,.sl 0 [] 0 n cp),(1,(.d (.int .i64 0))),(2,(.d (.int .i64 n))),(3,.d (.fn g first caps)),(8,(.d (.int .i64 P.length)))],[.sl false fx (P++r)]⟩ =
  some (.exit 0,⟨[(0,.sl 0 [] 0 n cp),(1,(.d (.int .i64 0))),(2,(.d (.int .i64 n))),(3,.d (.fn g first caps)),(8,(.d (.int .i64 n))),(14,(.d (.bool false)))],[.sl false fx (Dm f P r)]⟩)
 | [],P,hl,hP,ok=>by
  have hl':P.length=n:=by simpa using hl
  refine bo ?_;simp -implicitDefEqProofs [Z26_L1,af,Dm,hl']
 | x::r,P,hl,hP,ok=>by
  simp at hl;have e0:P.reverse.reverse++x::r=P++x::r:=by simp
  obtain ⟨j,e⟩:=Sd (O:=O) (g:=g) (first:=first) (caps:=caps) (f:=f) (n:=n) (cp:=cp) hn (i:=P.length) P.reverse x r (by simp; omega) (by rw [e0]; exact ok)
  rw [e0,List.length_reverse,←gp r,It,gp] at e;have hlen:=Rh f P.reverse x [];rw [List.length_reverse,mn,fk] at hlen
  have hperm:(wt f P.reverse x []++r).Perm (P++x::r):=by
   refine (List.Perm.append_right r (wl f P.reverse x [])).trans ?_;simp;exact List.perm_middle.symm
  have ih:=S8 (O:=O) (g:=g) (first:=first) (caps:=caps) (f:=f) (cp:=cp) hn r (wt f P.reverse x []) (by rw [hlen]; omega) (by omega) (ok.perm hperm)
  have hlt:P.length<n:=by omega
  have w1:IntKind.i64.wrap ((P.length:Int)+1)=((P.length+1:Nat):Int):=(w64 (x:=(P.length:Int)+1) (by omega)).trans (by omega)
  rw [hlen] at ih;unfold Dm;refine bb ?_ ih;simp -implicitDefEqProofs [Z26_L1,af,hlt,e,w1]
def Yh (O:ah) (F:Nat) (args:V→List V→List V):Prop:=∀(g:Nat) (first caps:List D) (f:D→Int) (cs:List D) (cp:Option Nat),cs.length≤12→CmpOk O g first caps f fx cs →
 ∃ds:List D,ds.Perm cs∧Asc f ds∧O F (args (.sl 0 [] 0 cs.length cp) [(.d (.int .i64 cs.length)),.d (.fn g first caps)]) [.sl false fx cs]=some (.tup [],[.sl false fx ds],[])
def ry (O:ah):Prop:=Yh O F26 fun s l=>[s,(.d (.int .i64 0))]++l
theorem Io (hT:T F26=some Z26):ry (den T A):=by
 intro g first caps f cs cp hl ok;cases cs with
 | nil=>
  refine ⟨[],.refl _,List.Pairwise.nil,jb hT rfl ?_⟩;have st:=bo (O:=den T A) (np:=1) (c:=Z26_L1) (s:=⟨[(0,.sl 0 [] 0 0 cp),(1,(.d (.int .i64 0))),(2,(.d (.int .i64 0))),(3,.d (.fn g first caps)),(8,(.d (.int .i64 1)))],[.sl false fx []]⟩) (s1:=⟨[(0,.sl 0 [] 0 0 cp),(1,(.d (.int .i64 0))),(2,(.d (.int .i64 0))),(3,.d (.fn g first caps)),(8,(.d (.int .i64 1))),(14,(.d (.bool false)))],[.sl false fx []]⟩) (id:=0) (by simp -implicitDefEqProofs [Z26_L1,af])
  have w1:IntKind.i64.wrap 1=1:=w64 (by omega)
  simp -implicitDefEqProofs [Z26,Z26_B,st,w1]
 | cons x r=>
  have e:=S8 (O:=den T A) (g:=g) (first:=first) (caps:=caps) (f:=f) (n:=(x::r).length) (cp:=cp) (by omega) r [x] (by simp; omega) (by simp) ok
  have e1:(([x]:List D).length:Int)=1:=rfl;rw [e1] at e;refine ⟨Dm f [x] r,Es f r [x],Hr f r [x] (f4 _ _),jb hT rfl ?_⟩;have w1:IntKind.i64.wrap 1=1:=w64 (by omega)
  rw [List.singleton_append] at e;generalize x::r=cs at *;simp -implicitDefEqProofs [Z26,Z26_B,e,w1]
def wn (O:ah) (F:Nat):Prop:=∀n:Nat,n≤12→∃v:Int,ask O F [.int .u64 n]=some (D.int .i64 v)
theorem Wx (hT:T F1u=some Z1u):wn (den T A) F1u:=by
 intro n hn
 have key:∀v:Int,run (fun _ _ _=>none) 1 Z1u [.d (.int .u64 n)] []=some ((.d (.int .i64 v)),[],[])→ask (den T A) F1u [.int .u64 n]=some (D.int .i64 v):=by
  intro v h
  have h2:=H8 (A:=A) hT (n:=1) (vs:=[.d (.int .u64 n)]) (bs:=[]) (ans:=((.d (.int .i64 v)),[],[])) (by
   obtain ⟨qs,h3,h4⟩:=vw h;cases qs with
   | nil=>exact h4 _ (by intro q hq; simp at hq)
   | cons q qs=>exact absurd (h3 q (by simp)) (by simp))
  unfold ask;rw [show ([D.int .u64 n]:List D).map V.d=[.d (.int .u64 n)] from rfl,h2];rfl
 have h:n=0∨n=1∨n=2∨n=3∨n=4∨n=5∨n=6∨n=7∨n=8∨n=9∨n=10∨n=11∨n=12:=by omega
 rcases h with rfl | rfl | rfl | rfl | rfl | rfl | rfl | rfl | rfl | rfl | rfl | rfl | rfl
 ·exact ⟨0,key 0 (by kernel_rfl)⟩
 ·exact ⟨1,key 1 (by kernel_rfl)⟩
 ·exact ⟨2,key 2 (by kernel_rfl)⟩
 ·exact ⟨2,key 2 (by kernel_rfl)⟩
 ·exact ⟨3,key 3 (by kernel_rfl)⟩
 ·exact ⟨3,key 3 (by kernel_rfl)⟩
 ·exact ⟨3,key 3 (by kernel_rfl)⟩
 ·exact ⟨3,key 3 (by kernel_rfl)⟩
 ·exact ⟨4,key 4 (by kernel_rfl)⟩
 ·exact ⟨4,key 4 (by kernel_rfl)⟩
 ·exact ⟨4,key 4 (by kernel_rfl)⟩
 ·exact ⟨4,key 4 (by kernel_rfl)⟩
 ·exact ⟨4,key 4 (by kernel_rfl)⟩
theorem a35 (hT:T F1s=some Z1s) (h:wn (den T A) F1u):wn (den T A) F1s:=by
 intro n hn;obtain ⟨v,e⟩:=h n hn;refine ⟨v,bc hT rfl ?_⟩;simp -implicitDefEqProofs [Z1s,Z1s_B,af,e]
theorem a3y (hT:T F2e=some Z2e) (hi:ry (den T A)):∀(g:Nat) (first caps:List D) (f:D→Int) (cs:List D) (cp:Option Nat) (v:Int),cs.length≤12→CmpOk (den T A) g first caps f fx cs →
 ∃ds:List D,ds.Perm cs∧Asc f ds∧den T A F2e [.sl 0 [] 0 cs.length cp,(.d (.int .i64 0)),(.d (.int .i64 cs.length)),(.d (.int .i64 v)),.d (.fn g first caps)] [.sl false fx cs]=some (.tup [],[.sl false fx ds],[]):=by
 intro g first caps f cs cp v hl ok;obtain ⟨ds,h1,h2,e⟩:=hi g first caps f cs cp hl ok;refine ⟨ds,h1,h2,jb hT rfl ?_⟩;have w1:IntKind.i64.wrap (cs.length:Int)=cs.length:=w64 (by omega)
 have h12:(cs.length:Int)≤12:=by omega
 have lp:=ki (O:=den T A) (np:=1) (c:=Z2e_L0) (s:=⟨[(0,.sl 0 [] 0 cs.length cp),(1,(.d (.int .i64 0))),(2,(.d (.int .i64 cs.length))),(3,(.d (.int .i64 v))),(4,.d (.fn g first caps)),(10,(.d (.bool true))),(11,(.d (.bool true)))],[.sl false fx cs]⟩) (s1:=⟨[],[.sl false fx ds]⟩) (by
  simp at e;simp -implicitDefEqProofs [Z2e_L0,af,w1,h12,e,List.idxOf,List.findIdx,List.findIdx.go])
 simp -implicitDefEqProofs [Z2e,Z2e_B,lp]
def xj (O:ah):Prop:=∀(g:Nat) (first caps:List D) (f:D→Int) (cs:List D) (cp:Option Nat),cs.length≤12→CmpOk O g first caps f fx cs →
 ∃ds:List D,ds.Perm cs∧Asc f ds∧O F22 [.sl 0 [] 0 cs.length cp,.d (.fn g first caps)] [.sl false fx cs]=some (.tup [],[.sl false fx ds],[])
theorem Ml (hT:T F22=some Z22) (hTp:T F2e=some Z2e) (hi:ry (den T A)) (hl:wn (den T A) F1s):xj (den T A):=by
 intro g first caps f cs cp hl12 ok;obtain ⟨v,ev⟩:=hl cs.length hl12;obtain ⟨ds,h1,h2,e⟩:=a3y hTp hi g first caps f cs cp v hl12 ok;refine ⟨ds,h1,h2,jb hT rfl ?_⟩
 have w1:IntKind.u64.wrap (cs.length:Int)=cs.length:=by
  simp [IntKind.wrap,IntKind.bits,IntKind.signed]; omega
 simp -implicitDefEqProofs [Z22,Z22_B,w1,ev,e,List.idxOf,List.findIdx,List.findIdx.go]
end Pe

namespace Pe
open Go Gq
variable {T:Nat→Option Fn} {A:ah}
theorem Nd {O:ah} (hd:rm O) {p:Int} [IsP p] {b:Fp p} (hb:2≤b.len) (hbl:b.len<2000):∀(n:Nat) (a:Fp p) (i:Nat),a.len≤n→a≠0→n<2000→i+n<100000→∃(k:Nat) (r:Fp p),a=r*pw b k∧¬ Dv b r ∧
 dn O 0 (.loop Z1c_L0) ⟨[(0,(.d (.int .i64 p))),(1,(.d (.sl .leaf (ak .i64 (row a))))),(2,(.d (.sl .leaf (ak .i64 (row b))))),(8,(.d (.int .i64 i)))],[]⟩=some (.ret,⟨[(6,(.d (.sl .leaf (ak .i64 (row r))))),(7,(.d (.int .i64 ((i+k:Nat)))))],[]⟩)
 | 0,a,i,hn,ha,_,_=>absurd (Pol.len_zero_iff.1 (by omega)) ha
 | n+1,a,i,hn,ha,hn2,hi=>by
  have hb0:b≠0:=fun h=>by rw [h,Pol.len_zero] at hb; omega
  have e:=hd p a b hb0 (by omega) (by omega)
  by_cases h0:a%b=0
  ·have hm:=Pol.div_mod a b
   rw [h0,Gq.add_zero] at hm;have hq:a/b≠0:=fun h=>ha (by rw [hm,h,Gq.zero_mul])
   have hl:=Pol.len_mul hq hb0;rw [←hm] at hl;obtain ⟨k,r,e1,e2,e3⟩:=Nd hd hb hbl n (a/b) (i+1) (by omega) hq (by omega) (by omega)
   refine ⟨k+1,r,?_,e2,?_⟩
   ·rw [pw,←Gq.mul_assoc,←e1]; exact hm
   ·have w1:IntKind.i64.wrap ((i:Int)+1)=((i+1:Nat):Int):=(w64 (x:=(i:Int)+1) (by omega)).trans (by omega)
    rw [show i+(k+1)=i+1+k by omega]
    refine bb ?_ e3;simp -implicitDefEqProofs [Z1c_L0,af,e,h0,dd,w1]
  ·refine ⟨0,a,(Gq.mul_one a).symm,fun hdv=>h0 ((t8 hb0).1 hdv),ki ?_⟩
   have hp:=Pol.len_pos h0;simp -implicitDefEqProofs [Z1c_L0,af,e,hp]
def yc (O:ah):Prop:=∀(p:Int) [IsP p] (a b:Fp p),a≠0→2≤b.len→a.len<1000→b.len<1000→∃(k:Nat) (r:Fp p),a=r*pw b k∧¬ Dv b r ∧
 ask O F1c [(D.int .i64 p),(D.sl .leaf (ak .i64 (row a))),(D.sl .leaf (ak .i64 (row b)))]=some (.tup [(D.sl .leaf (ak .i64 (row r))),(D.int .i64 k)])
theorem X0 (hT:T F1c=some Z1c) (hd:rm (den T A)):yc (den T A):=by
 intro p i a b ha hb hal hbl;obtain ⟨k,r,h1,h2,e⟩:=Nd hd hb (by omega) a.len a 0 (az _) ha (by omega) (by omega)
 have e0:((0:Nat):Int)=0:=rfl;rw [e0,bf] at e;refine ⟨k,r,h1,h2,bc hT rfl ?_⟩;simp -implicitDefEqProofs [Z1c,Z1c_B,e]
section
variable {p:Int} [IsP p]
theorem mj {n:Nat} (h:n≤12):p^n≤13841287201:=by
 have hp:=IsP.pos (p:=p);have h1:=jh (p:=p) (by omega) h
 have h2:p^12≤13841287201:=by
  rcases (inferInstance:IsP p).h with rfl | rfl | rfl | rfl <;> decide
 omega
theorem i7 (n:Nat):0<p^n:=v8 (IsP.pos)
theorem Eg (n:Nat):2*p^n≤p^(n+1):=by
 have hp:=IsP.ge (p:=p);rw [cu,eg];exact bm hp (Int.le_of_lt (i7 n))
theorem yd {most:Int}:∀(n:Nat) (out:Int),0<out→out*p^n≤most→ru p most n out=out*p^n
 | 0,out,h0,h=>by rw [fa,ix]; rfl
 | n+1,out,h0,h=>by
  have hp:=IsP.pos (p:=p);have e:out*p^(n+1)=out*p*p^n:=by rw [cu,kf,eg p]
  rw [e] at h ⊢;have h1:1≤p^(n+1):=i7 (n+1);have h2:out*1≤out*p^(n+1):=bm h1 (by omega)
  rw [e] at h2;rw [ru,if_neg (by omega)]
  exact yd n (out*p) (ph h0 hp) h
theorem ox {n:Nat} (hn:n≤12) {k:Int} (h1:p^n≤k) (h2:k<2*p^n):Monic (du p k)∧(du p k).len=n+1:=by
 have hp:=IsP.ge (p:=p);have hb:=mj (p:=p) hn;have hpos:=i7 (p:=p) n;have ok:ut k:=⟨by omega,by omega⟩
 have hs:=Eg (p:=p) n;have hlt:=vm (p:=p) ok (d:=n+1) (by omega)
 have hc:(du p k).c n=1:=by
  rw [Cu ok]
  have:k/p^n=1:=by
   have e:k=(k-p^n)+p^n:=by omega
   rw [e,Int.add_ediv_of_dvd_right (Int.dvd_refl _),Int.ediv_self (by omega),jw (by omega) (by omega)]; rfl
  rw [this]; rfl
 have hl:=Pol.len_eq hlt (by rw [hc]; exact Fd.one_ne)
 refine ⟨⟨?_,fun h0=>by rw [h0,Pol.len_zero] at hl; omega⟩,hl⟩
 unfold Pol.ld;rw [hl]; exact hc
theorem kz {n:Nat} (_hn:n≤12) {q:Fp p} (hq:Monic q) (hl:q.len=n+1):p^n≤dm q∧dm q<2*p^n:=by
 have hp:=IsP.ge (p:=p);have hpos:=i7 (p:=p) n;have h1:=ym q;have h2:=Uo (gv q) n;have h3:q.c n=1:=by have:=hq.1; unfold Pol.ld at this; rwa [hl] at this
 rw [f7,h3,va] at h2
 have h4:dm q/p^n<p:=by
  apply fd hpos;rw [hl,cu,eg] at h1;exact h1.2
 have h5:0≤dm q/p^n:=il h1.1 (by omega)
 have h6:dm q/p^n=1:=by
  have:dm q/p^n%p=dm q/p^n:=iv h5 h4;have h7:(1:Int)=dm q/p^n%p:=h2;omega
 have h8:=Int.mul_ediv_add_emod (dm q) (p^n);rw [h6,ix] at h8;have h9:=co (dm q) (show p^n≠0 by omega)
 have h10:=cd (dm q) hpos;omega
theorem uj {n:Nat} (hn:n≤12) {q:Fp p} (hq:Monic q) (hl:q.len=n+1):du p (dm q)=q:=D6 (by
 have:=kz hn hq hl;have:=mj (p:=p) hn;omega)
theorem Vg {O:ah} (hnu:n4 O) (hr:z5 O) {a:Fp p} (hal:a.len<1000) {n:Nat} (hn:n≤12):∀(m:Nat) (k:Int),p^n≤k→k<2*p^n→(2*p^n-k).toNat≤m→(∃k0,k≤k0∧k0<2*p^n∧Dv (du p k0) a)→∃b:Fp p,Monic b∧b.len=n+1∧Dv b a ∧
 dn O 0 (.loop Z1e_L0) ⟨[(0,(.d (.int .i64 p))),(1,(.d (.sl .leaf (ak .i64 (row a))))),(7,(.d (.int .i64 (p^n)))),(8,(.d (.int .i64 k)))],[]⟩=some (.ret,⟨[(6,(.d (.sl .leaf (ak .i64 (row b)))))],[]⟩)
 | 0,k,h1,h2,hm,hx=>by omega
 | m+1,k,h1,h2,hm,hx=>by
  have hb:=mj (p:=p) hn;have hpos:=i7 (p:=p) n;obtain ⟨m1,m2⟩:=ox hn h1 h2;have e1:=hnu p k (by omega) (by omega)
  have e2:=hr p a (du p k) m1.2 (by omega) (by omega)
  have w1:IntKind.i64.wrap (2*p^n)=2*p^n:=w64 (by omega)
  have w2:IntKind.i64.wrap (k+1)=k+1:=w64 (by omega)
  by_cases hd:Dv (du p k) a
  ·refine ⟨du p k,m1,m2,hd,ki ?_⟩
   have h0:=(t8 m1.2).1 hd;rw [h0,dd] at e2;simp -implicitDefEqProofs [Z1e_L0,af,e1,e2,w1,h2]
  ·obtain ⟨k0,g1,g2,g3⟩:=hx
   have hne:k≠k0:=fun h=>hd (h▸g3)
   obtain ⟨b,b1,b2,b3,e⟩:=Vg hnu hr hal hn m (k+1) (by omega) (by omega) (by omega) ⟨k0,by omega,g2,g3⟩
   refine ⟨b,b1,b2,b3,bb ?_ e⟩;have h0:a%du p k≠0:=fun h=>hd ((t8 m1.2).2 h)
   have h0':row (a%du p k)≠[]:=fun h=>h0 (Wm.1 h)
   have h0'':(a%du p k).len≠0:=fun h=>h0 (Pol.len_zero_iff.1 h)
   simp -implicitDefEqProofs [Z1e_L0,af,e1,e2,w1,w2,h2,h0'']
end
def nv (O:ah):Prop:=∀(p:Int) [IsP p] (a:Fp p) (n:Nat),1≤n→n≤12→a.len<1000→a≠0→(∃q,Monic q∧q.len=n+1∧Dv q a)→∃b:Fp p,Monic b∧b.len=n+1∧Dv b a ∧
 ask O F1e [(D.int .i64 p),(D.sl .leaf (ak .i64 (row a))),(D.int .i64 n)]=some (D.sl .leaf (ak .i64 (row b)))
theorem Gz (hT:T F1e=some Z1e) (hnu:n4 (den T A)) (hr:z5 (den T A)) (hno:xf (den T A)) (hdg:kq (den T A)) (hld:ul (den T A)) (hinv:ow (den T A)) (hs:vh (den T A)):nv (den T A):=by
 intro p i a n hn1 hn hal ha ⟨q,q1,q2,q3⟩;have hp:=IsP.ge (p:=p);have hp7:=IsP.le (p:=p);have e1:=hdg (row a) (by rw [bg]; omega)
 rw [bg] at e1
 by_cases hd:a.len=n+1
 ·have hr:=kg a.ld
  have hin:=v6 p (rep a.ld);have e2:=hld (row a) (by rw [bg]; omega)
  rw [Bf] at e2;have e3:=hinv p (rep a.ld) (by omega) (by omega) hr.1 hr.2
  have e4:=hs p (inv p (rep a.ld)) a (by omega) (by omega) (by omega)
  rw [se _ (Pol.ld_ne ha)] at e4;have hd2:(a.len:Int)-1=n:=by omega
  refine ⟨mon a,oo ha,by rw [vd ha,hd],(u9 ha).2 (.refl a),bc hT rfl ?_⟩
  simp -implicitDefEqProofs [Z1e,Z1e_B,af,e1,e2,e3,e4,hd2,mon]
 ·have hd2:¬ (a.len:Int)-1=n:=by omega
  have hb:=mj (p:=p) hn;have hpos:=i7 (p:=p) n;have e2:=hno p n 1099511627776 (by omega) (by omega)
  rw [yd n 1 (by omega) (by omega),g8] at e2
  have hq:=kz hn q1 q2;obtain ⟨b,b1,b2,b3,e⟩:=Vg hnu hr hal hn (2*p^n-p^n).toNat (p^n) (lf _) (by omega) (az _) ⟨dm q,hq.1,hq.2,by rw [uj hn q1 q2]; exact q3⟩
  refine ⟨b,b1,b2,b3,bc hT rfl ?_⟩;simp -implicitDefEqProofs [Z1e,Z1e_B,af,e1,e2,hd2,e]
end Pe

namespace Pe
open Go Gq
variable {T:Nat→Option Fn} {A:ah}
section
variable {p:Int} [IsP p]
theorem Xq:row (Pol.X:Fp p)=[0,1]:=by
 unfold row;rw [Pol.len_X];show [rep ((Pol.X:Fp p).c 0),rep ((Pol.X:Fp p).c 1)]=[0,1];have e0:(Pol.X:Fp p).c 0=0:=rfl;have e1:(Pol.X:Fp p).c 1=1:=rfl;rw [e0,e1,rep_zero,va]
theorem Irr.assoc {q b:Fp p} (hq:Irr q) (hb:Irr b) (h:Dv q b):Dv b q:=by
 obtain ⟨c,hc⟩:=h;have hc0:c≠0:=fun h0=>hb.ne (by rw [hc,h0,Gq.mul_zero])
 have l:=Pol.len_mul hq.ne hc0;rw [←hc] at l;have h1:=hq.len;rcases hb.dv ⟨c,hc⟩ with h2 | h2
 ·omega
 ·obtain ⟨k,hk,rfl⟩:=km (show c.len=1 by omega)
  rw [hc,Gq.mul_comm];exact (Dv.Cmul hk).2 (.refl q)
structure FInv (a0:Fp p) (n:Nat) (a:Fp p) (out:ej p):Prop where
 ne:a≠0
 eq:a0=a*dz out
 ok:FacOk out
 nd:∀x∈out,¬ Dv x.1 a
 ns:vf n a
 ln:out.length+a.len≤13
structure JInv (a0:Fp p) (n:Nat) (a:Fp p) (out:ej p) (all:Fp p):Prop where
 f:FInv a0 n a out
 ne:all≠0
 ln:all.len≤13
 one:∀q,Irr q→Dv q all→q.len=n+1∧Dv q a
 two:∀q,Irr q→q.len=n+1→Dv q a→Dv q all
end
section
variable {p:Int}
theorem rl (L:ej p) (x:Fp p×Nat):dz (L++[x])=dz L*pw x.1 x.2:=by
 induction L with
 | nil=>show pw x.1 x.2*1=1*pw x.1 x.2; rw [Gq.mul_one,Gq.one_mul]
 | cons y L ih=>rw [fh,n6,n6,ih,Gq.mul_assoc]
end
section
variable {p:Int} [IsP p]
theorem FacOk.snoc {L:ej p} (h:FacOk L) {q:Fp p} {k:Nat} (hi:Irr q) (hm:Monic q) (hk:1≤k) (hd:∀x∈L,x.1≠q):FacOk (L++[(q,k)]):=by
 refine ⟨fun x hx=>?_,?_⟩
 ·rcases ba.1 hx with hx | hx
  ·exact h.irr x hx
  ·simp at hx; subst hx; exact ⟨hi,hm,hk⟩
 ·rw [f0]
  refine ⟨h.dis,f4 _ _,fun x hx y hy=>?_⟩
  simp at hy; subst hy; exact hd x hx
theorem JInv.irr {a0 a:Fp p} {n:Nat} {out:ej p} {all b:Fp p} (h:JInv a0 n a out all) (hn:1≤n) (hb:b.len=n+1) (hd:Dv b all):Irr b:=by
 have hb0:b≠0:=fun h0=>by rw [h0,Pol.len_zero] at hb; omega
 refine Irr.of_dv (by omega) fun u hu=>?_
 have hul:=hu.len hb0
 have hu0:u≠0:=fun h0=>by
  obtain ⟨c,hc⟩:=hu;exact hb0 (by rw [hc,h0,Gq.zero_mul])
 have hup:=Pol.len_pos hu0
 by_cases h1:u.len=1
 ·exact .inl h1
 ·right
  obtain ⟨r,r1,_,r2⟩:=xv u.len u (az _) (by omega)
  have h2:=(h.one r r1 ((r2.trans hu).trans hd)).1;have h3:=r2.len hu0;omega
theorem JInv.step {a0 a:Fp p} {n:Nat} {out:ej p} {all b:Fp p} (h:JInv a0 n a out all) (hn:1≤n) (hm:Monic b) (hb:b.len=n+1) (hd:Dv b all)
 {k k':Nat} {r r':Fp p} (h1:a=r*pw b k) (h2:¬ Dv b r) (h3:all=r'*pw b k') (h4:¬ Dv b r'):JInv a0 n r (out++[(b,k)]) r'∧r'.len<all.len∧1≤k:=by
 have hi:=h.irr hn hb hd;have hda:=(h.one b hi hd).2
 have hk:1≤k:=by
  cases k with
  | zero=>exact absurd (by rw [h1,pw,Gq.mul_one] at hda; exact hda) h2
  | succ k=>omega
 have hk':1≤k':=by
  cases k' with
  | zero=>exact absurd (by rw [h3,pw,Gq.mul_one] at hd; exact hd) h4
  | succ k=>omega
 have hr0:r≠0:=fun h0=>h.f.ne (by rw [h1,h0,Gq.zero_mul])
 have hr0':r'≠0:=fun h0=>h.ne (by rw [h3,h0,Gq.zero_mul])
 have shrink:∀(a r:Fp p) (k:Nat),r≠0→1≤k→a=r*pw b k→r.len<a.len:=by
  intro a r k hr hk e;obtain ⟨j,rfl⟩:∃j,k=j+1:=⟨k-1,by omega⟩
  have hj:=By hi.ne j;have l1:=Pol.len_mul hj hi.ne;have l2:=Pol.len_mul hr (Pol.mul_ne hj hi.ne);have l3:=Pol.len_pos hj;rw [e,pw]; omega
 have s1:=shrink a r k hr0 hk h1;have s2:=shrink all r' k' hr0' hk' h3;have dr:∀q,Dv q r→Dv q a:=fun q hq=>by rw [h1]; exact hq.mul_right _
 have pd:∀q,Irr q→∀m,Dv q (pw b m)→Dv b q:=fun q hq m hq2=>Irr.assoc hq hi (Irr.pw_dv hq m hq2)
 refine ⟨⟨⟨hr0,?_,h.f.ok.snoc hi hm hk fun x hx e=>h.f.nd x hx (e▸hda),?_,Mo h.f.ns ⟨pw b k,h1⟩,?_⟩,hr0',by have:=h.ln; omega,?_,?_⟩,s2,hk⟩
 ·rw [h.f.eq,rl]
  conv=>lhs; rw [h1]
  exact c6 [r,pw b k,dz out] rfl
 ·intro x hx
  rcases ba.1 hx with hx | hx
  ·exact fun hq=>h.f.nd x hx (dr _ hq)
  ·simp at hx; subst hx; exact h2
 ·have:=h.f.ln
  simp; omega
 ·intro q hq hqr
  have hqa:Dv q all:=by rw [h3]; exact hqr.mul_right _
  obtain ⟨g1,g2⟩:=h.one q hq hqa;refine ⟨g1,?_⟩;rw [h1] at g2;rcases hq.prime g2 with g | g
  ·exact g
  ·exact absurd ((pd q hq k g).trans hqr) h4
 ·intro q hq hql hqr
  have:=h.two q hq hql (dr q hqr);rw [h3] at this;rcases hq.prime this with g | g
  ·exact g
  ·exact absurd ((pd q hq k' g).trans hqr) h2
theorem JInv.done {a0 a:Fp p} {n:Nat} {out:ej p} {all:Fp p} (h:JInv a0 n a out all) (hl:all.len<2):FInv a0 (n+1) a out:=by
 refine ⟨h.f.ne,h.f.eq,h.f.ok,h.f.nd,fun q hq hd=>?_,h.f.ln⟩
 have h1:=h.f.ns q hq hd;apply ck;intro hx;have h2:=(h.two q hq (by omega) hd).len h.ne
 have:=hq.len;omega
theorem JInv.init {a0 a:Fp p} {n:Nat} {out:ej p} (h:FInv a0 n a out) (hn:1≤n) (hn2:n≤12) {fr:Fp p} (hf:fr%a=pw Pol.X (p.toNat^n)%a):JInv a0 n a out (Pol.gcd (fr-Pol.X) a):=by
 have h0:fr-Pol.X≠0∨a≠0:=.inr h.ne;have hm:=Pol.gcd_monic h0;have hd2:=Pol.gcd_dv_right h0
 have key:∀q,Dv q a→(Dv q (fr-Pol.X)↔Dv q (frT p n)):=by
  intro q hq
  have e:Dv q (fr-pw Pol.X (p.toNat^n)):=by
   refine hq.trans ?_;rw [lm,Quo.mk_sub];rw [(Pol.mod_eq_iff h.ne).1 hf,sub_self]
  unfold frT;constructor
  ·intro g
   have:pw Pol.X (p.toNat^n)-Pol.X=(fr-Pol.X)-(fr-pw Pol.X (p.toNat^n)):=c6 [pw Pol.X (p.toNat^n),Pol.X,fr] rfl;rw [this]; exact g.sub e
  ·intro g
   have:fr-Pol.X=(pw Pol.X (p.toNat^n)-Pol.X)+(fr-pw Pol.X (p.toNat^n)):=c6 [pw Pol.X (p.toNat^n),Pol.X,fr] rfl;rw [this]; exact g.add e
 have hl:=hd2.len h.ne;have hl2:=h.ln;refine ⟨h,hm.2,by omega,fun q hq hd=>?_,fun q hq hql hqa=>?_⟩
 ·have g1:=hd.trans hd2
  have g2:=(key q g1).1 (hd.trans (Pol.gcd_dv_left h0));have g3:=h.ns q hq g1;have g4:=g1.len h.ne;have g5:=x8 hq (d:=q.len-1) (k:=n) (by have:=hq.len; omega) (by have:=mj (p:=p) (n:=q.len-1) (by omega); omega) hn g2
  exact ⟨by omega,g1⟩
 ·have g2:=Ay hq hql (by have:=mj (p:=p) hn2; omega)
  exact Pol.dv_gcd h0 ((key q hqa).2 g2) hqa
noncomputable abbrev fo (x:Fp p×Nat):D:=.st [.leaf,.leaf] [(D.sl .leaf (ak .i64 (row x.1))),(D.int .i64 x.2)]
theorem Uz {O:ah} (hw:nv O) (hst:yc O) (hdg:kq O) {a0:Fp p} {n:Nat} (hn:1≤n) (hn2:n≤12):∀(m:Nat) (a:Fp p) (out:ej p) (all:Fp p) (cp:Option Nat),all.len≤m→JInv a0 n a out all→∃(a':Fp p) (out':ej p) (all':List Int) (cp':Option Nat),FInv a0 (n+1) a' out'∧a'.len≤a.len ∧
 dn O 0 (.loop Z10_L1) ⟨[(0,(.d (.int .i64 p))),(1,(.d (.sl .leaf (ak .i64 (row a))))),(5,.sl 0 [] 0 out.length cp),(6,(.d (.int .i64 n))),(8,(.d (.sl .leaf (ak .i64 (row all)))))],[.sl false fx (out.map fo),.hole,.hole,.hole,.hole]⟩ =
  some (.exit 4,⟨[(0,(.d (.int .i64 p))),(1,(.d (.sl .leaf (ak .i64 (row a'))))),(5,.sl 0 [] 0 out'.length cp'),(6,(.d (.int .i64 n))),(8,(.d (.sl .leaf (ak .i64 all')))),(52,(.d (.bool false)))],[.sl false fx (out'.map fo),.hole,.hole,.hole,.hole]⟩)
 | m,a,out,all,cp,hm,h=>by
  have hln:=h.ln;have hp:=Pol.len_pos h.ne;have e1:=hdg (row all) (by rw [bg]; omega)
  rw [bg] at e1
  by_cases hl:all.len<2
  ·refine ⟨a,out,row all,cp,h.done hl,az _,bo ?_⟩
   have h1:¬ (1:Int)<(all.len:Int):=by omega
   simp -implicitDefEqProofs [Z10_L1,af,e1,h1]
  ·have hlo:=h.f.ln
   obtain ⟨q,q1,q2,q3⟩:=xv all.len all (az _) (by omega)
   obtain ⟨b,b1,b2,b3,e2⟩:=hw p all n hn hn2 (by omega) h.ne ⟨q,q2,(h.one q q1 q3).1,q3⟩
   obtain ⟨k,r,g1,g2,e3⟩:=hst p a b h.f.ne (by omega) (by omega) (by omega)
   obtain ⟨k',r',g3,g4,e4⟩:=hst p all b h.ne (by omega) (by omega) (by omega)
   obtain ⟨hJ,hlt,hk⟩:=h.step hn b1 b2 b3 g1 g2 g3 g4;cases m with
   | zero=>omega
   | succ m=>
    obtain ⟨a',out',all',cp',i1,i2,e⟩:=Uz hw hst hdg hn hn2 m r (out++[(b,k)]) r' none (by omega) hJ
    have hra:r.len≤a.len:=(show Dv r a from ⟨_,g1⟩).len h.f.ne;refine ⟨a',out',all',cp',i1,by omega,bb ?_ e⟩
    have h1:(1:Int)<(all.len:Int):=by omega
    have h8:(out.length+1)*32≤1099511627776:=by omega
    have ht:(out.map fo).take out.length=out.map fo:=aw (by simp)
    have hL:(out.map fo).length=out.length:=by simp
    have o1:(out++[(b,k)]).map fo=out.map fo++[fo (b,k)]:=by simp
    have o2:(out++[(b,k)]).length=out.length+1:=by simp
    rw [o1,o2];generalize out.map fo=LD at *;simp -implicitDefEqProofs [Z10_L1,af,e1,e2,e3,e4,h1,h8,ht,hL,List.replicate]
theorem Rz {O:ah} (hpw:y8 O) {a:Fp p} (ha:a≠0) (hal:a.len≤13) {n:Nat} (hn2:n≤1000) {st:V} {hp:Heap} (hst:st.refs=[0]) (hhp:∃b,hp=[b,.hole,.hole,.hole,.hole]):∀(m i:Nat) (fr:Fp p),i+m=n→fr.len≤13→∃fr':Fp p,fr'.len≤13∧fr'%a=pw fr (p.toNat^m)%a ∧
 dn O 0 (.loop Z10_L0) ⟨[(0,(.d (.int .i64 p))),(1,(.d (.sl .leaf (ak .i64 (row a))))),(5,st),(6,(.d (.int .i64 n))),(7,(.d (.sl .leaf (ak .i64 (row fr))))),(34,(.d (.int .i64 n))),(35,(.d (.int .i64 i)))],hp⟩ =
  some (.exit 2,⟨[(0,(.d (.int .i64 p))),(1,(.d (.sl .leaf (ak .i64 (row a))))),(5,st),(6,(.d (.int .i64 n))),(7,(.d (.sl .leaf (ak .i64 (row fr'))))),(34,(.d (.int .i64 n))),(35,(.d (.int .i64 n))),(36,(.d (.bool false)))],hp⟩)
 | 0,i,fr,hi,hf=>by
  obtain ⟨b,rfl⟩:=hhp;obtain rfl:i=n:=by omega
  refine ⟨fr,hf,by rw [qb,tw],bo ?_⟩
  simp -implicitDefEqProofs [Z10_L0,af,hst]
 | m+1,i,fr,hi,hf=>by
  have hP:=IsP.pos (p:=p);have hP7:=IsP.le (p:=p);have e:=hpw p fr p a ha (by omega) (by omega) (by omega) (by omega)
  have hl:=Pol.len_mod (pw fr p.toNat) ha;obtain ⟨fr',g1,g2,g3⟩:=Rz (O:=O) hpw ha hal hn2 hst hhp m (i+1) (pw fr p.toNat%a) (by omega) (by omega)
  obtain ⟨b,rfl⟩:=hhp;have h1:i<n:=by omega
  have w1:IntKind.i64.wrap ((i:Int)+1)=((i+1:Nat):Int):=(w64 (x:=(i:Int)+1) (by omega)).trans (by omega)
  refine ⟨fr',g1,?_,bb ?_ g3⟩
  ·rw [g2,Pol.pow_mod _ ha,tu,o5,Nat.mul_comm]
  ·simp -implicitDefEqProofs [Z10_L0,af,e,h1,w1,hst]
structure FEnd (a0:Fp p) (out:ej p):Prop where
 ok:FacOk out
 eq:∃c:Zp p,c≠0∧a0=Pol.C c*dz out
 ln:out.length≤12
theorem Ry {O:ah} (hw:nv O) (hst:yc O) (hdg:kq O) (hpw:y8 O) (hlet:yz O) (hc:oh O) (hg:O2 O) (hld:ul O) (hinv:ow O) (hs:vh O) {a0:Fp p}:∀(m n:Nat) (a:Fp p) (out:ej p) (cp:Option Nat),1≤n→n+m=15→FInv a0 n a out→∃(out':ej p) (cp':Option Nat) (e:Env),FEnd a0 out'∧((∃x y,e=[(0,(.d (.int .i64 p))),(1,(.d (.sl .leaf (ak .i64 x)))),(5,.sl 0 [] 0 out'.length cp'),(6,(.d (.int .i64 y))),(14,(.d (.bool false)))])∨e=[(5,.sl 0 [] 0 out'.length cp')]) ∧
 dn O 0 (.loop Z10_L2) ⟨[(0,(.d (.int .i64 p))),(1,(.d (.sl .leaf (ak .i64 (row a))))),(5,.sl 0 [] 0 out.length cp),(6,(.d (.int .i64 n)))],[.sl false fx (out.map fo),.hole,.hole,.hole,.hole]⟩ =
  some (.exit 0,⟨e,[.sl false fx (out'.map fo),.hole,.hole,.hole,.hole]⟩)
 | m,n,a,out,cp,hn,hm,h=>by
  have hp:=IsP.ge (p:=p);have hp7:=IsP.le (p:=p);have hln:=h.ln;have ha:=Pol.len_pos h.ne;have e1:=hdg (row a) (by rw [bg]; omega)
  rw [bg] at e1
  by_cases hl:a.len=1
  ·have h1:¬ (1:Int)<(a.len:Int):=by omega
   obtain ⟨c,hc0,rfl⟩:=km hl;refine ⟨out,cp,_,⟨h.ok,⟨c,hc0,h.eq⟩,by omega⟩,.inl ⟨row (Pol.C c),n,rfl⟩,bo ?_⟩
   simp -implicitDefEqProofs [Z10_L2,af,e1,h1]
  ·have h1:(1:Int)<(a.len:Int):=by omega
   have w1:IntKind.i64.wrap (2*(n:Int))=2*(n:Int):=w64 (by omega)
   have h8:(out.length+1)*32≤1099511627776:=by omega
   have ht:(out.map fo).take out.length=out.map fo:=aw (by simp)
   have hL:(out.map fo).length=out.length:=by simp
   by_cases h2:(a.len:Int)-1<2*(n:Int)
   ·have hi:=rf h.ns (by omega) (by omega)
    have hr:=kg a.ld;have hin:=v6 p (rep a.ld);have e2:=hld (row a) (by rw [bg]; omega)
    rw [Bf] at e2;have e3:=hinv p (rep a.ld) (by omega) (by omega) hr.1 hr.2
    have e4:=hs p (inv p (rep a.ld)) a (by omega) (by omega) (by omega)
    rw [se _ (Pol.ld_ne h.ne)] at e4;have e4':ask O F1b [(D.int .i64 p),(D.sl .leaf (ak .i64 (row a))),(D.int .i64 (inv p (rep a.ld)))]=some (D.sl .leaf (ak .i64 (row (mon a)))):=e4;have o1:(out++[(mon a,1)]).map fo=out.map fo++[fo (mon a,1)]:=by simp
    have o2:(out++[(mon a,1)]).length=out.length+1:=by simp
    refine ⟨out++[(mon a,1)],none,_,⟨h.ok.snoc hi.mon (oo h.ne) (az 1) fun x hx e=>h.nd x hx (by rw [e,u9 h.ne]; exact .refl a),⟨a.ld,Pol.ld_ne h.ne,?_⟩,by rw [o2]; omega⟩,.inr rfl,bo ?_⟩
    ·rw [rl]
     show a0=Pol.C a.ld*(dz out*pw (mon a) 1);rw [tw,h.eq]
     conv=>lhs; rw [Uj h.ne]
     exact c6 [Pol.C a.ld,mon a,dz out] rfl
    ·rw [o1,o2]
     generalize out.map fo=LD at *;simp -implicitDefEqProofs [Z10_L2,af,e1,h1,h2,w1,e2,e3,e4',h8,ht,hL,List.replicate]
   ·cases m with
    | zero=>omega
    | succ m=>
     have hl2:(Pol.X:Fp p).len≤13:=by rw [Pol.len_X]; omega
     obtain ⟨fr,g1,g2,g3⟩:=Rz (O:=O) hpw h.ne (by omega) (n:=n) (by omega) (st:=.sl 0 [] 0 out.length cp) (hp:=[.sl false fx (out.map fo),.hole,.hole,.hole,.hole]) (by simp [V.refs]) ⟨_,rfl⟩ n 0 Pol.X (bf _) hl2
     have hJ:=JInv.init h hn (by omega) g2
     have hlj:=hJ.ln;obtain ⟨a',out',all',cp',i1,i2,i3⟩:=Uz (O:=O) hw hst hdg hn (by omega) (Pol.gcd (fr-Pol.X) a).len a out _ cp (az _) hJ
     obtain ⟨out2,cp2,e,j1,j2,j3⟩:=Ry hw hst hdg hpw hlet hc hg hld hinv hs m (n+1) a' out' cp' (by omega) (by omega) i1
     have e2:ask O Fs []=some (D.sl .leaf (ak .i64 (row (Pol.X:Fp p)))):=by rw [Xq]; exact hlet
     have e3:=hc p fr Pol.X (by omega) (by omega)
     have hsl:=Pol.len_sub_le (a:=fr) (b:=Pol.X) (n:=13) g1 hl2;have e4:=hg p (fr-Pol.X) a (.inr h.ne) (by omega) (by omega)
     have w2:IntKind.i64.wrap ((n:Int)+1)=((n+1:Nat):Int):=(w64 (x:=(n:Int)+1) (by omega)).trans (by omega)
     have e0:((0:Nat):Int)=0:=rfl;rw [e0] at g3;refine ⟨out2,cp2,e,j1,j2,bb ?_ j3⟩;generalize out.map fo=LD at *;simp -implicitDefEqProofs [Z10_L2,af,e1,h1,h2,w1,w2,e2,e3,e4,g3,i3]
end
theorem Hz {α β:Type} (f:α→β) {m ds:List β} (h:m.Perm ds):∀l:List α,l.map f=m→∃l':List α,l'.Perm l∧l'.map f=ds:=by
 induction h with
 | nil=>intro l hl; exact ⟨[],by simp at hl; subst hl; exact .refl _,rfl⟩
 | cons x h ih=>
  intro l hl;cases l with
  | nil=>simp at hl
  | cons y l=>
   simp at hl;obtain ⟨l',p,e⟩:=ih l hl.2;exact ⟨y::l',p.cons y,by simp [e,hl.1]⟩
 | swap x y s=>
  intro l hl;cases l with
  | nil=>simp at hl
  | cons a l=>
   cases l with
   | nil=>simp at hl
   | cons b l=>
    simp at hl;exact ⟨b::a::l,List.Perm.swap a b l,by simp [hl]⟩
 | trans _ _ ih1 ih2=>
  intro l hl;obtain ⟨l',p,e⟩:=ih1 l hl;obtain ⟨l'',p2,e2⟩:=ih2 l' e;exact ⟨l'',p2.trans p,e2⟩
section
variable {p:Int} [IsP p]
theorem a0c:∀(n:Nat) {l m:List Int},Can p l→Can p m→l.length=n→m.length=n→A4 l m n=md (vl p l) (vl p m):=by
 have hp:=IsP.pos (p:=p)
 -- the value of the first coefficients
 have key:∀(k:Nat) (l:List Int),Can p l→k≤l.length→vl p (l.take k)+(if k<l.length then p^k*cf l k else 0)=vl p (l.take (k+1))∧0≤vl p (l.take k)∧vl p (l.take k)<p^k:=by
  intro k l hl hk;have hin:=Or (p:=p) (l:=l.take k) fun x hx=>hl x (List.mem_of_mem_take hx)
  rw [bp,Nat.min_eq_left hk] at hin;refine ⟨?_,hin⟩
  have app:∀(a b:List Int),vl p (a++b)=vl p a+p^a.length*vl p b:=by
   intro a
   induction a with
   | nil=>intro b; simp [vl]
   | cons x a ih=>
    intro b;rw [fh,vl,ih,vl,cl,cu,pj,eg (p^a.length) p,kf,Int.add_assoc]
  by_cases hlt:k<l.length
  ·rw [if_pos hlt,←x7 hlt,app,bp,Nat.min_eq_left hk,dt hlt]
   simp [vl]
  ·rw [if_neg hlt,aw (by omega),aw (by omega),Int.add_zero]
 intro n l m hl hm hln hmn
 have main:∀k,k≤n→A4 l m k=md (vl p (l.take k)) (vl p (m.take k)):=by
  intro k
  induction k with
  | zero=>intro _; simp [A4,md,vl]
  | succ k ih=>
   intro hk;obtain ⟨a1,a2,a3⟩:=key k l hl (by omega)
   obtain ⟨b1,b2,b3⟩:=key k m hm (by omega)
   rw [if_pos (by omega)] at a1 b1
   rw [←a1,←b1,A4,ih (by omega)]
   have hpk:=i7 (p:=p) k;generalize vl p (l.take k)=u at *;generalize vl p (m.take k)=v at *;generalize cf l k=c at *;generalize cf m k=d at *
   have mono:∀x y:Int,x<y→p^k*x+p^k≤p^k*y:=fun x y h=>by
    have:=bm (show x+1≤y by omega) (Int.le_of_lt hpk)
    rwa [pj,ix] at this
   rcases Int.lt_trichotomy c d with h | h | h
   ·have:=mono c d h
    have e:md c d=-1:=if_pos h;rw [e,if_pos (by omega)]
    exact (if_pos (by omega)).symm
   ·subst h
    have e:md c c=0:=by unfold md; rw [if_neg (by omega),if_neg (by omega)]
    rw [e,if_neg (fun h=>h rfl)]
    unfold md
    by_cases h1:u<v
    ·rw [if_pos h1,if_pos (by omega)]
    ·rw [if_neg h1]
     by_cases h2:v<u
     ·rw [if_pos h2,if_neg (by omega),if_pos (by omega)]
     ·rw [if_neg h2,if_neg (by omega),if_neg (by omega)]
   ·have:=mono d c h
    have e:md c d=1:=by unfold md; rw [if_neg (by omega),if_pos h]
    rw [e,if_pos (by omega)]
    unfold md;rw [if_neg (by omega),if_pos (by omega)]
 have:=main n (az n)
 rwa [aw (by omega),aw (by omega)] at this
theorem Rt (a b:Fp p):Wd (row a) (row b)=md (dm a) (dm b):=by
 unfold Wd;rw [bg,bg];rcases kl a.len b.len with h | h | h
 ·have:=qj h
  have e:md (a.len:Int) b.len=-1:=if_pos (by omega)
  rw [e,if_pos (by omega)]
  exact (if_pos this).symm
 ·have e:md (a.len:Int) b.len=0:=by unfold md; rw [if_neg (by omega),if_neg (by omega)]
  rw [e,if_neg (fun h=>h rfl)]
  exact a0c a.len (gv a) (gv b) (bg a) (by rw [bg,h])
 ·have:=qj h
  have e:md (a.len:Int) b.len=1:=by unfold md; rw [if_neg (by omega),if_pos (by omega)]
  rw [e,if_pos (by omega)]
  unfold md;rw [if_neg (by omega),if_pos this]
end
def a4b (p:Int):D→Int
 | .st _ (.sl _ cs::_)=>vl p (cs.map D.num)
 | _=>0
theorem yh {p:Int} (x:Fp p×Nat):a4b p (fo x)=vl p (row x.1):=by
 show vl p ((ak .i64 (row x.1)).map D.num)=_;unfold ak;rw [tp];have:(D.num ∘ D.int .i64)=id:=rfl;rw [this,List.map_id]
theorem Vm {p:Int} [IsP p] (hT:T F11=some Z11) (hc:wa (den T A)) {L:ej p} (hl:∀x∈L,x.1.len≤1000):CmpOk (den T A) F11 [] [] (a4b p) fx (L.map fo):=by
 refine ⟨fun x hx=>by simp at hx,fun x hx=>by simp at hx,fun x hx=>?_,fun x hx=>?_,fun x hx y hy=>?_⟩
 ·obtain ⟨a,_,rfl⟩:=cb.1 hx; rfl
 ·obtain ⟨a,_,rfl⟩:=cb.1 hx; rfl
 ·obtain ⟨a,ha,rfl⟩:=cb.1 hx
  obtain ⟨b,hb,rfl⟩:=cb.1 hy;have h1:=hl a ha;have h2:=hl b hb;have e:=hc (row a.1) (row b.1) (by rw [bg]; omega) (by rw [bg]; omega)
  rw [Rt] at e;have n1:=yh a;have n2:=yh b;rw [n1,n2];refine bc hT rfl ?_;simp -implicitDefEqProofs [Z11,Z11_B,e,dm]
def za (O:ah):Prop:=∀(p:Int) [IsP p] (a:Fp p),a≠0→a.len≤13→∃L:ej p,IsFac a L∧L.length≤12 ∧
 ask O F10 [(D.int .i64 p),(D.sl .leaf (ak .i64 (row a)))]=some (.sl fx (L.map fo))
theorem FacOk.perm {p:Int} [IsP p] {L L':ej p} (h:FacOk L) (hp:L'.Perm L):FacOk L':=
 ⟨fun x hx=>h.irr x (hp.subset hx),(hp.pairwise_iff (fun h e=>h e.symm)).2 h.dis⟩
theorem L4 {p:Int} {L L':ej p} (hp:L'.Perm L):dz L'=dz L:=Bg (hp.map _)
theorem Qa (hT:T F10=some Z10) (hT1:T F11=some Z11) (hw:nv (den T A)) (hst:yc (den T A)) (hdg:kq (den T A)) (hpw:y8 (den T A)) (hlet:yz (den T A)) (hc:oh (den T A)) (hg:O2 (den T A)) (hld:ul (den T A)) (hinv:ow (den T A)) (hs:vh (den T A)) (hcmp:wa (den T A)) (hsort:xj (den T A)):za (den T A):=by
 intro p i a ha hal;have h0:FInv a 1 a []:=⟨ha,(Gq.mul_one a).symm,⟨by simp,List.Pairwise.nil⟩,by simp,Jj a,by simpa using hal⟩
 obtain ⟨out,cp,e,j1,j2,j3⟩:=Ry hw hst hdg hpw hlet hc hg hld hinv hs 14 1 a [] (some 0) (az 1) rfl h0;obtain ⟨c,hc0,hac⟩:=j1.eq;have hP:=rt j1.ok
 have hlen:∀x∈out,x.1.len≤1000:=fun x hx=>by
  have h1:Dv x.1 a:=by
   obtain ⟨r,h2,_⟩:=qi j1.ok (show (x.1,x.2)∈out from hx);obtain ⟨k,hk⟩:∃k,x.2=k+1:=⟨x.2-1,by have:=(j1.ok.irr x hx).2.2; omega⟩
   rw [hac,h2,hk,pw];exact (((Dv.refl x.1).mul_left _).mul_right _).mul_left _
  have:=h1.len ha;omega
 obtain ⟨ds,s1,s2,s3⟩:=hsort _ _ _ _ (out.map fo) cp (by simpa using j1.ln) (Vm hT1 hcmp hlen)
 obtain ⟨L,p1,p2⟩:=Hz fo s1.symm out rfl;have ok:=j1.ok.perm p1;subst p2;have hLl:L.length=out.length:=p1.length_eq;refine ⟨L,⟨ok,?_,?_⟩,by rw [hLl]; exact j1.ln,bc hT rfl ?_⟩
 ·have s4:L.Pairwise fun x y=>dm x.1≤dm y.1:=by
   have:=s2;unfold Asc at this;rw [iz] at this;exact this.imp fun h=>by rw [yh,yh] at h; exact h
  exact (s4.and ok.dis).imp fun {x y} h=>by
   have h1:=h.1;rcases Int.lt_or_eq_of_le h1 with h2 | h2
   ·exact h2
   ·exact absurd (Ej h2) h.2
 ·have:a.ld=c:=by
   rw [hac,Pol.ld_mul (Pol.C_ne hc0) hP.2,Pol.ld_C hc0,hP.1,Gq.mul_one]
  rw [this,L4 p1]; exact hac
 ·have e0:(([]:ej p).length:Nat)=0:=rfl
  have e00:((1:Nat):Int)=1:=rfl;rw [e0,e00,iu] at j3;have hds:(L.map fo).length=out.length:=by rw [c7,hLl]
  have hol:(out.map fo).length=out.length:=by simp
  have htk:(L.map fo).take out.length=L.map fo:=aw (by omega)
  rw [hol] at s3;generalize L.map fo=LD at *;generalize out.map fo=OD at *;rcases j2 with ⟨x,y,rfl⟩ | rfl
  ·simp -implicitDefEqProofs [Z10,Z10_B,j3,s3,hds,htk,List.idxOf,List.findIdx,List.findIdx.go]
  ·simp -implicitDefEqProofs [Z10,Z10_B,j3,s3,hds,htk,List.idxOf,List.findIdx,List.findIdx.go]
end Pe


namespace Pe
open Go Gq
variable {T:Nat→Option Fn} {A:ah}
open Classical in
noncomputable def fac {p:Int} [IsP p] (a:Fp p):ej p:=if h:∃L,IsFac a L then Classical.choose h else []
theorem T8 {p:Int} [IsP p] {a:Fp p} (ha:a≠0) {L:ej p} (h:IsFac a L):fac a=L:=by
 have hx:∃L,IsFac a L:=⟨L,h⟩;unfold fac;rw [dif_pos hx];exact IsFac.unique ha (ci hx) h
def Ak (O:ah):Prop:=∀(p:Int) [IsP p] (a:Fp p),a≠0→a.len≤13→IsFac a (fac a)∧(fac a).length≤12 ∧
 ask O F10 [(D.int .i64 p),(D.sl .leaf (ak .i64 (row a)))]=some (.sl fx ((fac a).map fo))
theorem a47 {O:ah} (h:za O):Ak O:=fun p i a ha hl=>by
 obtain ⟨L,h1,h2,h3⟩:=h p a ha hl;rw [T8 ha h1];exact ⟨h1,h2,h3⟩
section
variable {p:Int} [IsP p]
theorem IsFac.len {m:Fp p} (hm:m≠0) {L:ej p} (h:IsFac m L) {x:Fp p×Nat} (hx:x∈L):2≤x.1.len∧x.1.len≤m.len∧x.2<m.len∧x.1≠0:=by
 obtain ⟨i1,i2,i3⟩:=h.ok.irr x hx;obtain ⟨_,_,_,h4,_⟩:=(H4 hm h.ok h.eq x.1 x.2).1 hx;have h5:=h4.len hm
 have h6:∀n,n<(pw x.1 n).len:=by
  intro n
  induction n with
  | zero=>show 0<(1:Fp p).len; rw [Pol.len_one]; omega
  | succ n ih=>
   have l:=Pol.len_mul (By i1.ne n) i1.ne;have:=i1.len;rw [pw]; omega
 have h7:=h6 x.2
 have h8:x.1.len≤(pw x.1 x.2).len:=by
  obtain ⟨k,hk⟩:∃k,x.2=k+1:=⟨x.2-1,by omega⟩
  rw [hk,pw];exact (show Dv x.1 (pw x.1 k*x.1) from ⟨pw x.1 k,Gq.mul_comm _ _⟩).len (Pol.mul_ne (By i1.ne k) i1.ne)
 exact ⟨i1.len,by omega,by omega,i1.ne⟩
end
end Pe

namespace Pe
open Go Gq
variable {T:Nat→Option Fn} {A:ah}
theorem xi {p:Int} (h:isP p=true):IsP p:=⟨by unfold isP at h; simpa using h⟩
theorem yr {p:Int} [h:IsP p]:isP p=true:=by unfold isP; exact decide_eq_true h.h
theorem Sy {p:Int} [IsP p] {a:Fp p}:sk p (pad (row a))=true:=by
 unfold sk;rw [dq];intro x hx;obtain ⟨i,_,rfl⟩:=cb.1 hx;have:=(gv a).le IsP.pos i
 simpa using this.2
theorem Hx {p:Int} [IsP p] {l:List Int} (hb:ft l) (hl:l.length=64) (h:sk p l=true):∃a:Fp p,a.len≤64∧l=pad (row a):=by
 have hc:Can p l:=fun x hx=>⟨(hb x hx).1,by
  unfold sk at h;rw [dq] at h
  simpa using h x hx⟩
 refine ⟨dl p l,iq (Pol.len_le (U3 l)) (by omega),?_⟩
 rw [←n5 hc]
 symm
 apply Gn hl;intro i hi;rw [n5 hc,f7,fc,G5 (hc.le IsP.pos i)]
inductive Arg1 (p:Int) (l:List Int):Prop
 | bad (h:pq p [l]=1) (h2:isP p=true→sk p l=false)
 | good (ip:IsP p) (a:Fp p) (hl:a.len≤64) (e:l=pad (row a))
theorem a7h (p:Int) {l:List Int} (hb:ft l) (hl:l.length=64):Arg1 p l:=by
 by_cases h1:isP p=true
 ·by_cases h2:sk p l=true
  ·have ip:=xi h1
   obtain ⟨a,g1,g2⟩:=Hx hb hl h2;exact .good ip a g1 g2
  ·refine .bad (by simp [pq,h2]) fun _=>by simpa using h2
 ·exact .bad (by simp [pq,h1]) fun h=>absurd h h1
theorem Cn {p:Int} [IsP p] (ls:List (Fp p)):pq p (ls.map fun a=>pad (row a))=0:=by
 unfold pq;rw [if_pos];refine ⟨yr,?_⟩;rw [List.all_map,dq];intro a _;exact Sy
theorem zc {p:Int} [IsP p] (a:Fp p):pq p [pad (row a)]=0:=Cn [a]
theorem tz {p:Int} [IsP p] (x:Zp p):rep x=1↔x=1:=⟨fun h=>Oj (by rw [h,va]),fun h=>by rw [h,va]⟩
theorem Ef {p:Int} [IsP p] (a:Fp p):Monic a↔a.ld=1:=⟨fun h=>h.1,fun h=>⟨h,fun h0=>by
 rw [h0] at h;have:(0:Fp p).ld=0:=rfl;rw [this] at h;exact Fd.one_ne h.symm⟩⟩
end Pe

namespace Pe
open Go Gq
variable {T:Nat→Option Fn} {A:ah}
theorem Sl {p:Int} {l:List Int} {f:Fp p} (h:∀i,cf l i=rep (f.c i)):nk l l.length=f.len:=by
 have e:=congrArg List.length (uz h);rw [bg] at e;unfold xd at e;rw [bp] at e;have:=B8 l l.length;omega
theorem Ux {O:ah} {l:List Int} (hl:l.length=64):∀n:Nat,n≤64 →
 dn O 0 (.loop Z2w_L0) ⟨[(1,.ptr 0 []),(3,(.d (.int .i64 ((n:Int)-1))))],[.box false (D.arr 64 .leaf (ak .u8 l))]⟩ =
  some (.exit 0,⟨[(1,.ptr 0 []),(3,(.d (.int .i64 ((nk l n:Int)-1)))),(11,(.d (.bool false)))],[.box false (D.arr 64 .leaf (ak .u8 l))]⟩)
 | 0,_=>bo (by simp -implicitDefEqProofs [Z2w_L0,af,nk])
 | n+1,hn=>by
  have hlt:n<l.length:=by omega
  have hn64:n<64:=by omega
  have hx:l[n]=cf l n:=(dt hlt).symm;have t0:(((n+1:Nat):Int)-1)=(n:Int):=by omega
  rw [t0];have w1:IntKind.i64.wrap ((n:Int)-1)=(n:Int)-1:=w64 (by omega)
  by_cases h0:cf l n=0
  ·have e:nk l (n+1)=nk l n:=by simp [nk,h0]
   rw [e];refine bb ?_ (Ux hl n (by omega))
   simp -implicitDefEqProofs [Z2w_L0,af,hlt,hn64,hx,h0,w1]
  ·have e:nk l (n+1)=n+1:=by simp [nk,h0]
   rw [e,t0];refine bo ?_;simp -implicitDefEqProofs [Z2w_L0,af,hlt,hn64,hx,h0]
def Ly (O:ah):Prop:=∀l:List Int,l.length=64→ask O F2w [(D.arr 64 .leaf (ak .u8 l))]=some (D.int .i64 ((nk l 64:Int)-1))
theorem Yj (hT:T F2w=some Z2w):Ly (den T A):=by
 intro l hl;have e:=Ux (O:=den T A) hl 64 (az _);have e0:((64:Nat):Int)-1=63:=rfl;rw [e0] at e;refine bc hT rfl ?_;simp -implicitDefEqProofs [Z2w,Z2w_B,e]
def ja (O:ah):Prop:=∀(p:Int) [IsP p] (a:Fp p),a.len≤64→ask O F2w [(D.arr 64 .leaf (ak .u8 (pad (row a))))]=some (D.int .i64 ((a.len:Int)-1))
theorem a0l {O:ah} (h:Ly O):ja O:=fun p i a hl=>by
 have e:=Sl (f:=a) (l:=pad (row a)) fun i=>by rw [uk (by rw [bg]; exact hl),f7]
 rw [bq] at e;rw [h _ (bq _),e]
def Jd (O:ah):Prop:=∀n a b:Int,ask O F33 [(D.int .i64 n),(D.int .i64 a),(D.int .i64 b)]=some (D.bool (decide (a≤n∧n≤b)))
theorem a3e (hT:T F33=some Z33):Jd (den T A):=by
 intro n a b;refine bc hT rfl ?_
 by_cases h:a≤n <;> simp -implicitDefEqProofs [Z33,Z33_B,h]
def sn (O:ah):Prop:=∀p:Int,ask O F3g [(D.int .i64 p)]=some (D.bool (isP p))
theorem T2 (hT:T F3g=some Z3g):sn (den T A):=by
 intro p;refine bc hT rfl ?_
 by_cases h2:p=2
 ·simp -implicitDefEqProofs [Z3g,Z3g_B,h2,isP]
 ·by_cases h3:p=3
  ·simp -implicitDefEqProofs [Z3g,Z3g_B,h3,isP]
  ·by_cases h5:p=5
   ·simp -implicitDefEqProofs [Z3g,Z3g_B,h5,isP]
   ·simp -implicitDefEqProofs [Z3g,Z3g_B,h2,h3,h5,isP]
theorem Xd {O:ah} {p:Int} {l:List Int} (hb:ft l) (hl:l.length=64):∀(m i:Nat),i+m=64 →
 dn O 0 (.loop Z36_L0) ⟨[(0,(.d (.int .i64 p))),(3,.ptr 0 []),(5,(.d (.int .i64 i)))],[.box false (D.arr 64 .leaf (ak .u8 l))]⟩ =
  if (l.drop i).all (fun x=>decide (x<p)) then some (.exit 0,⟨[(0,(.d (.int .i64 p))),(3,.ptr 0 []),(5,(.d (.int .i64 64))),(7,(.d (.bool false)))],[.box false (D.arr 64 .leaf (ak .u8 l))]⟩) else some (.ret,⟨[(4,(.d (.bool false)))],[.hole]⟩)
 | 0,i,hi=>by
  obtain rfl:i=64:=by omega
  rw [show l.drop 64=[] from List.drop_eq_nil_of_le (by omega)]
  exact bo (by simp -implicitDefEqProofs [Z36_L0,af])
 | m+1,i,hi=>by
  have hlt:i<l.length:=by omega
  have hi64:i<64:=by omega
  have hi64':(i:Int)<64:=by omega
  have hx:l[i]=cf l i:=(dt hlt).symm;have hb':=hb _ (ce hlt);rw [hx] at hb';have w1:IntKind.i64.wrap (cf l i)=cf l i:=w64 (by omega)
  have w4:IntKind.i64.wrap ((i:Int)+1)=((i+1:Nat):Int):=(w64 (x:=(i:Int)+1) (by omega)).trans (by omega)
  rw [bv hlt,List.all_cons,hx]
  by_cases h0:cf l i<p
  ·rw [decide_eq_true h0,Bool.true_and]
   refine bb ?_ (Xd hb hl m (i+1) (by omega))
   have h1:¬ p≤cf l i:=by omega
   simp -implicitDefEqProofs [Z36_L0,af,hlt,hi64,hi64',hx,h1,w1,w4]
  ·rw [decide_eq_false h0,Bool.false_and]
   have h1:p≤cf l i:=by omega
   refine ki ?_;simp -implicitDefEqProofs [Z36_L0,af,hlt,hi64,hi64',hx,h1,w1]
def Oi (O:ah):Prop:=∀(p:Int) (l:List Int),ft l→l.length=64→ask O F36 [(D.int .i64 p),(D.arr 64 .leaf (ak .u8 l))]=some (D.bool (sk p l&&isP p))
theorem a32 (hT:T F36=some Z36) (hp:sn (den T A)):Oi (den T A):=by
 intro p l hb hl;have e:=Xd (O:=den T A) (p:=p) hb hl 64 0 (by omega)
 have e0:((0:Nat):Int)=0:=rfl;rw [e0,de,show (l.all fun x=>decide (x<p))=sk p l from rfl] at e
 have e1:=hp p;refine bc hT rfl ?_
 by_cases h:sk p l=true
 ·rw [if_pos h] at e
  simp -implicitDefEqProofs [Z36,Z36_B,e,e1,h]
 ·rw [if_neg h] at e
  simp -implicitDefEqProofs [Z36,Z36_B,e,h]
theorem Ob {O:ah} (hi:Oi O) {p:Int} (hp:isP p=true) {ls:List (List Int)} (h:Ti ls) (hl:ls.length<2000000):∀(m i:Nat),i+m=ls.length →
 dn O 0 (.loop Z2u_L0) ⟨[(0,(.d (.int .i64 p))),(1,.d (.sl (.arr 64 .leaf) (ls.map nw))),(5,(.d (.int .i64 i)))],[]⟩ =
  if (ls.drop i).all (sk p) then some (.exit 0,⟨[(0,(.d (.int .i64 p))),(1,.d (.sl (.arr 64 .leaf) (ls.map nw))),(5,(.d (.int .i64 ls.length))),(12,(.d (.bool false)))],[]⟩) else some (.ret,⟨[(4,(.d (.int .i64 1)))],[]⟩)
 | 0,i,hi'=>by
  obtain rfl:i=ls.length:=by omega
  rw [ew];exact bo (by simp -implicitDefEqProofs [Z2u_L0,af])
 | m+1,i,hi'=>by
  have hlt:i<ls.length:=by omega
  have h1:=h _ (ce hlt);have e1:=hi p ls[i] h1.2 h1.1;rw [hp,Bool.and_true] at e1;have w4:IntKind.i64.wrap ((i:Int)+1)=((i+1:Nat):Int):=(w64 (x:=(i:Int)+1) (by omega)).trans (by omega)
  rw [bv hlt,List.all_cons]
  by_cases h0:sk p ls[i]=true
  ·rw [h0,Bool.true_and]
   rw [h0] at e1;refine bb ?_ (Ob hi hp h hl m (i+1) (by omega))
   simp -implicitDefEqProofs [Z2u_L0,af,hlt,e1,w4]
  ·rw [jl] at h0
   rw [h0,Bool.false_and];rw [h0] at e1;refine ki ?_;simp -implicitDefEqProofs [Z2u_L0,af,hlt,e1]
def Hm (O:ah):Prop:=∀(p:Int) (ls:List (List Int)),Ti ls→ls.length<2000000→ask O F2u [(D.int .i64 p),.sl (.arr 64 .leaf) (ls.map nw)]=some (D.int .i64 (pq p ls))
theorem W7 (hT:T F2u=some Z2u) (hp:sn (den T A)) (hi:Oi (den T A)):Hm (den T A):=by
 intro p ls h hl;have e1:=hp p;unfold pq;refine bc hT rfl ?_
 by_cases h1:isP p=true
 ·have e:=Ob hi h1 h hl ls.length 0 (bf _)
  have e0:((0:Nat):Int)=0:=rfl;rw [e0,de] at e
  by_cases h2:ls.all (sk p)=true
  ·rw [if_pos h2] at e
   rw [if_pos ⟨h1,h2⟩];simp -implicitDefEqProofs [Z2u,Z2u_B,af,e1,e,h1]
  ·rw [if_neg h2] at e
   rw [if_neg (fun h=>h2 h.2)]
   simp -implicitDefEqProofs [Z2u,Z2u_B,af,e1,e,h1]
 ·rw [if_neg (fun h=>h1 h.1)]
  simp -implicitDefEqProofs [Z2u,Z2u_B,af,e1,h1]
open Classical in
def D5 (O:ah):Prop:=∀(p:Int) [IsP p] (a:Fp p),a.len≤64→ask O F38 [(D.arr 64 .leaf (ak .u8 (pad (row a))))]=some (D.bool (decide (Monic a)))
open Classical in
theorem Sx (hT:T F38=some Z38) (hd:ja (den T A)):D5 (den T A):=by
 intro p i a hl;have e1:=hd p a hl;refine bc hT rfl ?_
 by_cases h0:a=0
 ·subst h0
  have hm:¬ Monic (0:Fp p):=fun h=>h.2 rfl
  rw [decide_eq_false hm];rw [Pol.len_zero] at e1;simp -implicitDefEqProofs [Z38,Z38_B,e1]
 ·have hp:=Pol.len_pos h0
  have hd2:((a.len:Int)-1)=((a.len-1:Nat):Int):=by omega
  rw [hd2] at e1;have hx:(pad (row a))[a.len-1]? = some (rep a.ld):=by rw [o3 _ _ (by omega),f7]; rfl
  have h64:a.len-1<64:=by omega
  have e2:decide (rep a.ld=1)=decide (Monic a):=decide_eq_decide.2 (by rw [tz,Ef])
  rw [←e2];generalize a.len-1=n at *;generalize pad (row a)=L at *;simp -implicitDefEqProofs [Z38,Z38_B,e1,hx,h64]
end Pe

namespace Pe
open Go Gq
variable {T:Nat→Option Fn} {A:ah}
def Av (p:Int):Nat→Int→Int
 | 0,out=>out
 | n+1,out=>if out≤1000000000000 then Av p n (out*p) else out
theorem Hw {p:Int} [IsP p]:∀(n:Nat) (out:Int),0<out→min (Av p n out) 1000000000001=min (out*p^n) 1000000000001
 | 0,out,h=>by rw [fa,ix]; rfl
 | n+1,out,h=>by
  have hp:=IsP.pos (p:=p);have e:out*p^(n+1)=out*p*p^n:=by rw [cu,kf,eg p]
  unfold Av
  split
  ·rw [e,Hw n _ (ph h hp)]
  ·have h1:1≤p^(n+1):=i7 (n+1)
   have h2:out*1≤out*p^(n+1):=bm h1 (by omega)
   omega
theorem Jg {O:ah} {p:Int} [IsP p]:∀(n:Nat) (out:Int),n<1000000→0<out→out≤7000000000000→∃n':Int,0<Av p n out∧Av p n out≤7000000000000 ∧
 dn O 0 (.loop Z2v_L0) ⟨[(0,(.d (.int .i64 p))),(1,(.d (.int .i64 n))),(5,(.d (.int .i64 out)))],[]⟩ =
  some (.exit 0,⟨[(0,(.d (.int .i64 p))),(1,(.d (.int .i64 n'))),(5,(.d (.int .i64 (Av p n out)))),(11,(.d (.bool false)))],[]⟩)
 | 0,out,_,h1,h2=>⟨0,h1,h2,bo (by simp -implicitDefEqProofs [Z2v_L0,af,Av])⟩
 | n+1,out,hn,h1,h2=>by
  have hp:=IsP.pos (p:=p);have hp7:=IsP.le (p:=p);have h0:(0:Int)<(n:Int)+1:=by omega
  by_cases h3:out≤1000000000000
  ·have hmul:0<out*p∧out*p≤7000000000000:=by
    refine ⟨ph h1 hp,?_⟩;have:out*p≤out*7:=bm hp7 (by omega)
    omega
   obtain ⟨n',g1,g2,e⟩:=Jg (O:=O) (p:=p) n (out*p) (by omega) hmul.1 hmul.2
   have ec:Av p (n+1) out=Av p n (out*p):=if_pos h3;rw [ec];have w1:IntKind.i64.wrap (out*p)=out*p:=w64 (by omega)
   have w2:IntKind.i64.wrap (n:Int)=n:=w64 (by omega)
   refine ⟨n',g1,g2,bb ?_ e⟩;simp -implicitDefEqProofs [Z2v_L0,af,h0,h3,w1,w2]
  ·have ec:Av p (n+1) out=out:=if_neg h3
   rw [ec];refine ⟨((n+1:Nat):Int),h1,h2,bo ?_⟩;simp -implicitDefEqProofs [Z2v_L0,af,h0,h3]
def p9 (O:ah):Prop:=∀(p:Int) [IsP p] (n:Nat),n<1000000→ask O F2v [(D.int .i64 p),(D.int .i64 n)]=some (D.int .i64 (min (p^n) 1000000000001))
theorem Ss (hT:T F2v=some Z2v):p9 (den T A):=by
 intro p i n hn;obtain ⟨n',g1,g2,e⟩:=Jg (O:=den T A) (p:=p) n 1 hn (by omega) (by omega)
 have e2:=Hw (p:=p) n 1 (by omega)
 rw [g8] at e2
 have e3:(if (1000000000001:Int)<Av p n 1 then 1000000000001 else Av p n 1)=min (p^n) 1000000000001:=by
  rw [←e2]
  split <;> omega
 refine bc hT rfl ?_;simp -implicitDefEqProofs [Z2v,Z2v_B,e];exact e3
theorem wh {O:ah} (h:p9 O) (p:Int) [IsP p] (n:Nat) (hn:n≤12):ask O F2v [(D.int .i64 p),(D.int .i64 n)]=some (D.int .i64 (p^n)):=by
 have h1:=mj (p:=p) hn;rw [h p n (by omega),Int.min_eq_left (by omega)]
def ou (O:ah):Prop:=∀(p:Int) [IsP p] (x:Int),0<x→x<p→ask O F34 [(D.int .i64 p),.int .u8 x]=some (.int .u8 (inv p x))
theorem bj {F:Nat} {fn:Fn} (hT:T F=some fn) {ds:List D} {d:D} {n:Nat} (h:run (fun _ _ _=>none) n fn (ds.map .d) []=some (.d d,[],[])):ask (den T A) F ds=some d:=by
 have h2:=H8 (A:=A) hT (n:=n) (vs:=ds.map .d) (bs:=[]) (ans:=(.d d,[],[])) (by
  obtain ⟨qs,h3,h4⟩:=vw h;cases qs with
  | nil=>exact h4 _ (by intro q hq; simp at hq)
  | cons q qs=>exact absurd (h3 q (by simp)) (by simp))
 unfold ask;rw [h2];simp
theorem M7 (hT:T F34=some Z34):ou (den T A):=by
 intro p ip x h0 h1;rcases ip.h with rfl | rfl | rfl | rfl
 ·obtain rfl:x=1:=by omega
  exact bj hT (n:=10) (by kernel_rfl)
 ·have:x=1∨x=2:=by omega
  rcases this with rfl | rfl
  ·exact bj hT (n:=10) (by kernel_rfl)
  ·exact bj hT (n:=10) (by kernel_rfl)
 ·have:x=1∨x=2∨x=3∨x=4:=by omega
  rcases this with rfl | rfl | rfl | rfl
  ·exact bj hT (n:=10) (by kernel_rfl)
  ·exact bj hT (n:=10) (by kernel_rfl)
  ·exact bj hT (n:=10) (by kernel_rfl)
  ·exact bj hT (n:=10) (by kernel_rfl)
 ·have:x=1∨x=2∨x=3∨x=4∨x=5∨x=6:=by omega
  rcases this with rfl | rfl | rfl | rfl | rfl | rfl
  ·exact bj hT (n:=10) (by kernel_rfl)
  ·exact bj hT (n:=10) (by kernel_rfl)
  ·exact bj hT (n:=10) (by kernel_rfl)
  ·exact bj hT (n:=10) (by kernel_rfl)
  ·exact bj hT (n:=10) (by kernel_rfl)
  ·exact bj hT (n:=10) (by kernel_rfl)
theorem Cf {p:Int} [IsP p] {l:List Int} (h:Can p l) (hl:l.length=64):l=pad (row (dl p l)):=by
 rw [←n5 h]
 symm
 apply Gn hl;intro i hi;rw [n5 h,f7,fc,G5 (h.le IsP.pos i)]
theorem tf {p:Int} [IsP p] (a:Fp p):Can p (pad (row a)):=fun x hx=>by
 obtain ⟨i,_,rfl⟩:=cb.1 hx;exact (gv a).le IsP.pos i
theorem jj {p:Int} {a:Fp p} (hl:a.len≤64):dl p (pad (row a))=a:=Pol.ext fun i=>by rw [fc,uk (by rw [bg]; exact hl),f7,jk]
theorem kw {p:Int} {a:Fp p} (hl:a.len≤64) (i:Nat):cf (pad (row a)) i=rep (a.c i):=by rw [uk (by rw [bg]; exact hl),f7]
theorem Rv {O:ah} {p k:Int} [IsP p] {a b z:List Int} (ha:Can p a) (hb:Can p b) (hbl:b.length=64) (hk:-1000000≤k∧k≤1000000):∀(m i:Nat) (cur:List Int),i+m=64→cur.length=64→(∀j,i≤j→cf cur j=cf a j) →
 dn O 0 (.loop Z2r_L0) ⟨[(0,(.d (.int .i64 p))),(3,(.d (.int .i64 k))),(5,.ptr 0 []),(6,.ptr 1 []),(8,.ptr 2 []),(9,(.d (.int .i64 i)))],[.box false (D.arr 64 .leaf (ak .u8 cur)),.box false (D.arr 64 .leaf (ak .u8 b)),.box false (D.arr 64 .leaf (ak .u8 z))]⟩ =
  some (.exit 0,⟨[(0,(.d (.int .i64 p))),(3,(.d (.int .i64 k))),(5,.ptr 0 []),(6,.ptr 1 []),(8,.ptr 2 []),(9,(.d (.int .i64 64))),(11,(.d (.bool false)))],[.box false (D.arr 64 .leaf (ak .u8 (upd (lin p a b k) m i cur))),.box false (D.arr 64 .leaf (ak .u8 b)),.box false (D.arr 64 .leaf (ak .u8 z))]⟩)
 | 0,i,cur,hi,hc,hs=>by
  obtain rfl:i=64:=by omega
  exact bo (by simp -implicitDefEqProofs [Z2r_L0,af,upd])
 | m+1,i,cur,hi,hc,hs=>by
  have hp:=IsP.pos (p:=p);have hp7:=IsP.le (p:=p);have hp0:p≠0:=by omega
  have hlt:i<cur.length:=by omega
  have hlb:i<b.length:=by omega
  have hi64:i<64:=by omega
  have hi64':(i:Int)<64:=by omega
  have hx:cur[i]=cf a i:=by rw [←dt hlt]; exact hs i (az i)
  have hy:b[i]=cf b i:=(dt hlb).symm;have ga:=ha.le hp i;have gb:=hb.le hp i;have gm:=gz (x:=k) (y:=cf b i) (b:=1000000) (c:=10) hk (by omega) (by omega)
  have w1:IntKind.i64.wrap (cf a i)=cf a i:=w64 (by omega)
  have w2:IntKind.i64.wrap (cf b i)=cf b i:=w64 (by omega)
  have w3:IntKind.i64.wrap (k*cf b i)=k*cf b i:=w64 (by omega)
  have w5:IntKind.i64.wrap (cf a i+k*cf b i)=cf a i+k*cf b i:=w64 (by omega)
  have hin:=yb (n:=cf a i+k*cf b i) hp;have w6:IntKind.i64.wrap ((cf a i+k*cf b i).tmod p+p)=(cf a i+k*cf b i).tmod p+p:=w64 (by omega)
  have w7:((cf a i+k*cf b i).tmod p+p).tmod p=lin p a b k i:=wk hp;have hlin:0≤lin p a b k i∧lin p a b k i<p:=⟨co _ (by omega),cd _ hp⟩
  have w8':IntKind.u8.wrap (lin p a b k i)=lin p a b k i:=w8 (by omega)
  have w4:IntKind.i64.wrap ((i:Int)+1)=((i+1:Nat):Int):=(w64 (x:=(i:Int)+1) (by omega)).trans (by omega)
  refine bb ?_ (Rv ha hb hbl hk m (i+1) (cur.set i (lin p a b k i)) (by omega) (by simpa using hc) (fun j hj=>by rw [po,if_neg (by omega)]; exact hs j (by omega)))
  simp -implicitDefEqProofs [Z2r_L0,af,hlt,hlb,hi64,hi64',hx,hy,w1,w2,w3,w5,w6,w7,w8',w4,hp0]
def rk (O:ah):Prop:=∀(p:Int) [IsP p] (k:Int) (a b:Fp p),-1000000≤k→k≤1000000→a.len≤64→b.len≤64 →
 ask O F2r [(D.int .i64 p),(D.arr 64 .leaf (ak .u8 (pad (row a)))),(D.arr 64 .leaf (ak .u8 (pad (row b)))),(D.int .i64 k)]=some (D.arr 64 .leaf (ak .u8 (pad (row (a+Pol.C (zp p k)*b)))))
theorem Yy (hT:T F2r=some Z2r):rk (den T A):=by
 intro p i k a b hk hk' hal hbl;have e:=Rv (O:=den T A) (z:=pad []) (tf a) (tf b) (bq _) ⟨hk,hk'⟩ 64 0 (pad (row a)) (by omega) (bq _) (fun _ _=>rfl)
 have e0:((0:Nat):Int)=0:=rfl;rw [e0,Ho _ _ _ (bq _)] at e
 have e2:(List.range 64).map (lin p (pad (row a)) (pad (row b)) k)=pad (row (a+Pol.C (zp p k)*b)):=by
  unfold pad
  congr 1
  funext j
  rw [f7,Pol.c_add,Pol.c_Cmul];show (cf (pad (row a)) j+k*cf (pad (row b)) j)%p=_;rw [kw hal,kw hbl,←Cz,Mi,xn,jk,jk]
 rw [e2] at e;refine bc hT rfl ?_;generalize pad (row (a+Pol.C (zp p k)*b))=R at *;simp -implicitDefEqProofs [Z2r,Z2r_B,e]
def H1 (O:ah):Prop:=∀(p:Int) [IsP p],ask O F3d []=some (D.arr 64 .leaf (ak .u8 (pad (row (1:Fp p)))))
theorem a0k (hT:T F3d=some Z3d):H1 (den T A):=by
 intro p i;have e:(pad []).set 0 1=pad [1]:=by decide +kernel
 have h0:(0:Nat)<(pad []).length:=by rw [bq]; omega
 rw [vb];refine bc hT rfl ?_;simp -implicitDefEqProofs [Z3d,Z3d_B,e,h0]
end Pe

namespace Pe
open Go Gq
variable {T:Nat→Option Fn} {A:ah}
def Hp (p q:Int) (b:List Int) (i:Nat) (m:Nat) (cur:List Int):List Int:=if q=0 then cur else k8 p q b i m 0 cur
theorem G7 {p q:Int} [IsP p] {b cur:List Int} {i m:Nat} (hc:Can p cur) (hl:i+m≤cur.length):Hp p q b i m cur=k8 p q b i m 0 cur:=by
 unfold Hp
 split
 ·rename_i h
  subst h;apply m9
  ·rw [jt]
  ·intro j h1 h2
   rw [←dt h1,←dt h2,ue _ _ _ _ _ _ _ _ (by omega)]
   have:=hc.le IsP.pos j
   split
   ·rw [Int.zero_mul,Int.sub_zero,iv this.1 this.2]
   ·rfl
 ·rfl
theorem Ou {O:ah} {p q by_:Int} [IsP p] {b quo z z':List Int} {i bl:Nat} (hq:0<q∧q<p) (hb:Can p b) (hbl:b.length=64) (hn:i+bl≤64) (h0:0<bl):∀(m k:Nat) (cur:List Int),k+m=bl→cur.length=64→Can p cur →
 dn O 0 (.loop Z2x_L0) ⟨[(0,(.d (.int .i64 p))),(4,.ptr 0 []),(5,.ptr 1 []),(6,.ptr 2 []),(7,.ptr 3 []),(8,.ptr 4 []),(9,(.d (.int .i64 ((bl:Int)-1)))),(10,(.d (.int .i64 by_))),(11,(.d (.int .i64 ((i:Int)+bl-1)))),(12,(.d (.int .i64 q))),(13,(.d (.int .i64 k)))],[.box false (D.arr 64 .leaf (ak .u8 cur)),.box false (D.arr 64 .leaf (ak .u8 b)),.box false (D.arr 64 .leaf (ak .u8 z)),.box false (D.arr 64 .leaf (ak .u8 z')),.box false (D.arr 64 .leaf (ak .u8 quo))]⟩ =
  some (.exit 2,⟨[(0,(.d (.int .i64 p))),(4,.ptr 0 []),(5,.ptr 1 []),(6,.ptr 2 []),(7,.ptr 3 []),(8,.ptr 4 []),(9,(.d (.int .i64 ((bl:Int)-1)))),(10,(.d (.int .i64 by_))),(11,(.d (.int .i64 ((i:Int)+bl-1)))),(12,(.d (.int .i64 q))),(13,(.d (.int .i64 bl))),(50,(.d (.bool false)))],[.box false (D.arr 64 .leaf (ak .u8 (k8 p q b i m k cur))),.box false (D.arr 64 .leaf (ak .u8 b)),.box false (D.arr 64 .leaf (ak .u8 z)),.box false (D.arr 64 .leaf (ak .u8 z')),.box false (D.arr 64 .leaf (ak .u8 quo))]⟩)
 | 0,k,cur,hk,hc,hcan=>by
  obtain rfl:k=bl:=by omega
  have h1:¬ (k:Int)≤(k:Int)-1:=by omega
  exact bo (by simp -implicitDefEqProofs [Z2x_L0,af,k8,h1])
 | m+1,k,cur,hk,hc,hcan=>by
  have hp:=IsP.pos (p:=p);have hp7:=IsP.le (p:=p);have hp0:p≠0:=by omega
  have hq0:q≠0:=by omega
  have h1:(k:Int)≤(bl:Int)-1:=by omega
  have w1:IntKind.i64.wrap ((i:Int)+bl-1-(bl-1))=i:=(w64 (x:=(i:Int)+bl-1-(bl-1)) (by omega)).trans (by omega)
  have w2:IntKind.i64.wrap ((i:Int)+k)=((i+k:Nat):Int):=(w64 (x:=(i:Int)+k) (by omega)).trans (by omega)
  have hik:i+k<64:=by omega
  have hikc:i+k<cur.length:=by omega
  have hkb:k<b.length:=by omega
  have hk64:k<64:=by omega
  have hx:cur[i+k]=cf cur (i+k):=(dt hikc).symm;have hy:b[k]=cf b k:=(dt hkb).symm;have gc:=hcan.le hp (i+k);have gb:=hb.le hp k;have gm:=gz (x:=q) (y:=cf b k) (b:=10) (c:=10) (by omega) (by omega) (by omega)
  have w3:IntKind.i64.wrap (cf cur (i+k))=cf cur (i+k):=w64 (by omega)
  have w5:IntKind.i64.wrap (cf b k)=cf b k:=w64 (by omega)
  have w6:IntKind.i64.wrap (q*cf b k)=q*cf b k:=w64 (by omega)
  have w7:IntKind.i64.wrap (cf cur (i+k)-q*cf b k)=cf cur (i+k)-q*cf b k:=w64 (by omega)
  have hin:=yb (n:=cf cur (i+k)-q*cf b k) hp;have w9:IntKind.i64.wrap ((cf cur (i+k)-q*cf b k).tmod p+p)=(cf cur (i+k)-q*cf b k).tmod p+p:=w64 (by omega)
  have w10:((cf cur (i+k)-q*cf b k).tmod p+p).tmod p=(cf cur (i+k)-q*cf b k)%p:=wk hp;have hlin:0≤(cf cur (i+k)-q*cf b k)%p∧(cf cur (i+k)-q*cf b k)%p<p:=⟨co _ (by omega),cd _ hp⟩
  have w11:IntKind.u8.wrap ((cf cur (i+k)-q*cf b k)%p)=(cf cur (i+k)-q*cf b k)%p:=w8 (by omega)
  have w4:IntKind.i64.wrap ((k:Int)+1)=((k+1:Nat):Int):=(w64 (x:=(k:Int)+1) (by omega)).trans (by omega)
  have t1:(0:Int)≤(i:Int)+k:=by omega
  have t2:((i:Int)+k).toNat=i+k:=by omega
  have hcan':Can p (cur.set (i+k) ((cf cur (i+k)-q*cf b k)%p)):=by
   intro x hx;rcases di hx with h | h
   ·exact hcan x h
   ·subst h; exact hlin
  refine bb ?_ (Ou hq hb hbl hn h0 m (k+1) (cur.set (i+k) ((cf cur (i+k)-q*cf b k)%p)) (by omega) (by simpa using hc) hcan')
  simp -implicitDefEqProofs [Z2x_L0,af,h1,hq0,w1,w2,hik,hikc,hkb,hk64,hx,hy,w3,w5,w6,w7,w9,w10,w11,w4,hp0,t1,t2]
theorem O8 {O:ah} {p by_:Int} [IsP p] {b:List Int} {bl:Nat} {z z':List Int} (hby:0≤by_∧by_<p) (hb:Can p b) (hbl:b.length=64) (h0:0<bl):∀(c:Nat) (cur quo:List Int),c+bl≤65→cur.length=64→quo.length=64→Can p cur →
 dn O 0 (.loop Z2x_L1) ⟨[(0,(.d (.int .i64 p))),(4,.ptr 0 []),(5,.ptr 1 []),(6,.ptr 2 []),(7,.ptr 3 []),(8,.ptr 4 []),(9,(.d (.int .i64 ((bl:Int)-1)))),(10,(.d (.int .i64 by_))),(11,(.d (.int .i64 ((c:Int)+bl-2))))],[.box false (D.arr 64 .leaf (ak .u8 cur)),.box false (D.arr 64 .leaf (ak .u8 b)),.box false (D.arr 64 .leaf (ak .u8 z)),.box false (D.arr 64 .leaf (ak .u8 z')),.box false (D.arr 64 .leaf (ak .u8 quo))]⟩ =
  some (.exit 0,⟨[(0,(.d (.int .i64 p))),(4,.ptr 0 []),(5,.ptr 1 []),(6,.ptr 2 []),(7,.ptr 3 []),(8,.ptr 4 []),(9,(.d (.int .i64 ((bl:Int)-1)))),(10,(.d (.int .i64 by_))),(11,(.d (.int .i64 ((bl:Int)-2)))),(27,(.d (.bool false)))],[.box false (D.arr 64 .leaf (ak .u8 ((dv p by_ (b.take bl) c (cur,quo)).1))),.box false (D.arr 64 .leaf (ak .u8 b)),.box false (D.arr 64 .leaf (ak .u8 z)),.box false (D.arr 64 .leaf (ak .u8 z')),.box false (D.arr 64 .leaf (ak .u8 ((dv p by_ (b.take bl) c (cur,quo)).2)))]⟩)
 | 0,cur,quo,_,hc,hqo,hcan=>by
  have h1:¬ (bl:Int)-1≤(bl:Int)-2:=by omega
  have t0:((0:Nat):Int)+bl-2=(bl:Int)-2:=by omega
  rw [t0];exact bo (by simp -implicitDefEqProofs [Z2x_L1,af,h1,dv])
 | c+1,cur,quo,hcb,hc,hqo,hcan=>by
  have hp:=IsP.pos (p:=p);have hp7:=IsP.le (p:=p);have hp0:p≠0:=by omega
  have hbt:(b.take bl).length=bl:=by rw [bp]; omega
  have t0:((c+1:Nat):Int)+bl-2=(c:Int)+bl-1:=by omega
  rw [t0];have h1:(bl:Int)-1≤(c:Int)+bl-1:=by omega
  have hi64:c+bl-1<64:=by omega
  have hic:c+bl-1<cur.length:=by omega
  have t1:(0:Int)≤(c:Int)+bl-1:=by omega
  have t2:((c:Int)+bl-1).toNat=c+bl-1:=by omega
  have t3:(1:Int)≤(c:Int)+bl:=by omega
  have hx:cur[c+bl-1]=cf cur (c+bl-1):=(dt hic).symm;have gc:=hcan.le hp (c+bl-1);have gm:=gz (x:=cf cur (c+bl-1)) (y:=by_) (b:=10) (c:=10) (by omega) (by omega) (by omega)
  have w1:IntKind.i64.wrap (cf cur (c+bl-1))=cf cur (c+bl-1):=w64 (by omega)
  have w2:IntKind.i64.wrap (cf cur (c+bl-1)*by_)=cf cur (c+bl-1)*by_:=w64 (by omega)
  have w3:(cf cur (c+bl-1)*by_).tmod p=cf cur (c+bl-1)*by_%p:=c8 (dy gc.1 hby.1);have hq:0≤cf cur (c+bl-1)*by_%p∧cf cur (c+bl-1)*by_%p<p:=⟨co _ hp0,cd _ hp⟩;have w4:IntKind.i64.wrap ((c:Int)+bl-1-(bl-1))=c:=(w64 (x:=(c:Int)+bl-1-(bl-1)) (by omega)).trans (by omega)
  have w5:IntKind.u8.wrap (cf cur (c+bl-1)*by_%p)=cf cur (c+bl-1)*by_%p:=w8 (by omega)
  have hc64:c<64:=by omega
  have hcq:c<quo.length:=by omega
  have w6:IntKind.i64.wrap ((c:Int)+bl-1-1)=(c:Int)+bl-2:=(w64 (x:=(c:Int)+bl-1-1) (by omega)).trans (by omega)
  have ed:dv p by_ (b.take bl) (c+1) (cur,quo)=dv p by_ (b.take bl) c (Hp p (cf cur (c+bl-1)*by_%p) b c bl cur,quo.set c (cf cur (c+bl-1)*by_%p)):=by
   rw [dv,hbt,G7 hcan (by omega)]
   have es:∀(m k:Nat) (x:List Int),k+m≤bl→k8 p (cf cur (c+bl-1)*by_%p) (b.take bl) c m k x=k8 p (cf cur (c+bl-1)*by_%p) b c m k x:=by
    intro m
    induction m with
    | zero=>intro k x _; rfl
    | succ m ih=>
     intro k x hk;have e:cf (b.take bl) k=cf b k:=by rw [dt (by omega),dt (by omega),o7]
     rw [k8,k8,e,ih _ _ (by omega)]
   rw [es bl 0 cur (by omega)]
  rw [ed];have hcan':Can p (Hp p (cf cur (c+bl-1)*by_%p) b c bl cur):=by rw [G7 hcan (by omega)]; exact zk hp (by omega) hcan
  have hlen':(Hp p (cf cur (c+bl-1)*by_%p) b c bl cur).length=64:=by rw [G7 hcan (by omega),jt,hc]
  have ih:=O8 (O:=O) (z:=z) (z':=z') hby hb hbl h0 c (Hp p (cf cur (c+bl-1)*by_%p) b c bl cur) (quo.set c (cf cur (c+bl-1)*by_%p)) (by omega) hlen' (by simpa using hqo) hcan'
  refine bb ?_ ih;generalize cf cur (c+bl-1)*by_%p=q at *
  have l0:∃k:Int,dn O 0 (.loop Z2x_L0) ⟨[(0,(.d (.int .i64 p))),(4,.ptr 0 []),(5,.ptr 1 []),(6,.ptr 2 []),(7,.ptr 3 []),(8,.ptr 4 []),(9,(.d (.int .i64 ((bl:Int)-1)))),(10,(.d (.int .i64 by_))),(11,(.d (.int .i64 ((c:Int)+bl-1)))),(12,(.d (.int .i64 q))),(13,(.d (.int .i64 0)))],[.box false (D.arr 64 .leaf (ak .u8 cur)),.box false (D.arr 64 .leaf (ak .u8 b)),.box false (D.arr 64 .leaf (ak .u8 z)),.box false (D.arr 64 .leaf (ak .u8 z')),.box false (D.arr 64 .leaf (ak .u8 (quo.set c q)))]⟩ =
   some (.exit 2,⟨[(0,(.d (.int .i64 p))),(4,.ptr 0 []),(5,.ptr 1 []),(6,.ptr 2 []),(7,.ptr 3 []),(8,.ptr 4 []),(9,(.d (.int .i64 ((bl:Int)-1)))),(10,(.d (.int .i64 by_))),(11,(.d (.int .i64 ((c:Int)+bl-1)))),(12,(.d (.int .i64 q))),(13,(.d (.int .i64 k))),(50,(.d (.bool false)))],[.box false (D.arr 64 .leaf (ak .u8 (Hp p q b c bl cur))),.box false (D.arr 64 .leaf (ak .u8 b)),.box false (D.arr 64 .leaf (ak .u8 z)),.box false (D.arr 64 .leaf (ak .u8 z')),.box false (D.arr 64 .leaf (ak .u8 (quo.set c q)))]⟩):=by
   by_cases hq0:q=0
   ·subst hq0
    refine ⟨0,?_⟩;have e:Hp p 0 b c bl cur=cur:=if_pos rfl;rw [e];have h2:(1:Int)≤(bl:Int):=by omega
    exact bo (by simp -implicitDefEqProofs [Z2x_L0,af,h2])
   ·refine ⟨bl,?_⟩
    have e:Hp p q b c bl cur=k8 p q b c bl 0 cur:=if_neg hq0;rw [e];have:=Ou (O:=O) (by_:=by_) (quo:=quo.set c q) (z:=z) (z':=z') (i:=c) (bl:=bl) ⟨by omega,hq.2⟩ hb hbl (by omega) h0 bl 0 cur (bf _) hc hcan
    exact this
  obtain ⟨k,l0⟩:=l0;simp -implicitDefEqProofs [Z2x_L1,af,h1,hi64,hic,t2,t3,hx,w1,w2,w3,w4,w5,w6,hc64,hcq,hp0,l0]
def jg (O:ah):Prop:=∀(p:Int) [IsP p] (a b:Fp p),b≠0→a.len≤64→b.len≤64 →
 ask O F2x [(D.int .i64 p),(D.arr 64 .leaf (ak .u8 (pad (row a)))),(D.arr 64 .leaf (ak .u8 (pad (row b))))]=some (.tup [(D.arr 64 .leaf (ak .u8 (pad (row (a/b))))),(D.arr 64 .leaf (ak .u8 (pad (row (a%b)))))])
theorem S6 {p:Int} {b:Fp p} (h:b.len≤64):(pad (row b)).take b.len=row b:=by
 apply m9
 ·rw [bp,bq,bg]; omega
 ·intro i h1 h2
  rw [o7,←dt,kw h,←f7,dt h2]
theorem Qd (hT:T F2x=some Z2x) (hd:ja (den T A)) (hinv:ou (den T A)):jg (den T A):=by
 intro p i a b hb hal hbl;have hp:=IsP.ge (p:=p);have hp7:=IsP.le (p:=p);have hb0:=Pol.len_pos hb;have e1:=hd p b hbl;have e2:=hd p a hal;have hr:=kg b.ld;have hld:rep b.ld≠0:=fun h0=>Pol.ld_ne hb (fw.1 h0)
 have e3:=hinv p (rep b.ld) (by omega) hr.2
 have hin:=v6 p (rep b.ld);have w1:IntKind.i64.wrap (inv p (rep b.ld))=inv p (rep b.ld):=w64 (by omega)
 have hbx:(pad (row b))[b.len-1]? = some (rep b.ld):=by rw [o3 _ _ (by omega),f7]; rfl
 have hbx':((b.len:Int)-1).toNat=b.len-1:=by omega
 have hbx2:(1:Int)≤(b.len:Int):=by omega
 have hbx3:b.len-1<64:=by omega
 have hz:∀j,cf (pad []) j=0:=fun j=>by rw [uk (by simp),ko (by simp)]
 have hcanz:Can p (pad []):=fun x hx=>by
  obtain ⟨j,_,rfl⟩:=cb.1 hx;rw [ko (by simp)]; omega
 have sp:=Gg b hb (a.len+1-b.len) (pad (row a)) (pad []) (by rw [bq]; omega) (by rw [bq]; omega) (tf a) (fun j _=>hz j) (fun j hj=>by
  rw [kw hal,a.lt_len j (by omega),rep_zero]) hcanz
 have hl1:∀(B:List Int) (c:Nat) (x y:List Int),(dv p (inv p (rep b.ld)) B c (x,y)).1.length=x.length∧(dv p (inv p (rep b.ld)) B c (x,y)).2.length=y.length:=by
  intro B c
  induction c with
  | zero=>exact fun x y=>⟨rfl,rfl⟩
  | succ c ih=>
   intro x y;rw [dv];obtain ⟨i1,i2⟩:=ih (k8 p (cf x (c+B.length-1)*inv p (rep b.ld)%p) B c B.length 0 x) (y.set c (cf x (c+B.length-1)*inv p (rep b.ld)%p));exact ⟨by rw [i1,jt],by rw [i2,cg]⟩
 obtain ⟨g1,g2⟩:=hl1 (row b) (a.len+1-b.len) (pad (row a)) (pad []);rw [bq] at g1 g2;have l1:=O8 (O:=den T A) (b:=pad (row b)) (bl:=b.len) (z:=pad []) (z':=pad []) hin (tf b) (bq _) hb0 (a.len+1-b.len) (pad (row a)) (pad []) (by omega) (bq _) (bq _) (tf a)
 rw [S6 hbl] at l1;generalize dv p (inv p (rep b.ld)) (row b) (a.len+1-b.len) (pad (row a),pad [])=r at *;obtain ⟨s1,s2,s3,s4⟩:=sp;have z0:dl p (pad [])=0:=Pol.ext fun j=>by rw [fc,hz]; rfl
 rw [z0,Gq.zero_mul,Gq.add_zero,jj hal,Gq.add_comm] at s1
 have hrl:(dl p r.1).len<b.len:=by
  have:(dl p r.1).lt (b.len-1):=fun i hi=>by rw [fc,s2 i hi]; rfl
  have:=Pol.len_le this;omega
 obtain ⟨h1,h2⟩:=Pol.div_mod_eq s1.symm hrl;rw [h1,h2,←Cf s3 g1,←Cf s4 g2]
 have lz:∃n:Int,dn (den T A) 0 (.loop Z2x_L1) ⟨[(0,(.d (.int .i64 p))),(4,.ptr 0 []),(5,.ptr 1 []),(6,.ptr 2 []),(7,.ptr 3 []),(8,.ptr 4 []),(9,(.d (.int .i64 ((b.len:Int)-1)))),(10,(.d (.int .i64 (inv p (rep b.ld))))),(11,(.d (.int .i64 ((a.len:Int)-1))))],[.box false (D.arr 64 .leaf (ak .u8 (pad (row a)))),.box false (D.arr 64 .leaf (ak .u8 (pad (row b)))),.box false (D.arr 64 .leaf (ak .u8 (pad []))),.box false (D.arr 64 .leaf (ak .u8 (pad []))),.box false (D.arr 64 .leaf (ak .u8 (pad [])))]⟩ =
  some (.exit 0,⟨[(0,(.d (.int .i64 p))),(4,.ptr 0 []),(5,.ptr 1 []),(6,.ptr 2 []),(7,.ptr 3 []),(8,.ptr 4 []),(9,(.d (.int .i64 ((b.len:Int)-1)))),(10,(.d (.int .i64 (inv p (rep b.ld))))),(11,(.d (.int .i64 n))),(27,(.d (.bool false)))],[.box false (D.arr 64 .leaf (ak .u8 r.1)),.box false (D.arr 64 .leaf (ak .u8 (pad (row b)))),.box false (D.arr 64 .leaf (ak .u8 (pad []))),.box false (D.arr 64 .leaf (ak .u8 (pad []))),.box false (D.arr 64 .leaf (ak .u8 r.2))]⟩):=by
  by_cases hlt:b.len≤a.len
  ·rw [show ((a.len+1-b.len:Nat):Int)+b.len-2=(a.len:Int)-1 by omega] at l1
   exact ⟨_,l1⟩
  ·rw [show a.len+1-b.len=0 by omega] at l1
   have h3:¬ (b.len:Int)-1≤(b.len:Int)-2:=by omega
   have h4:¬ (b.len:Int)-1≤(a.len:Int)-1:=by omega
   have st:=bo (O:=den T A) (np:=0) (c:=Z2x_L1) (s:=⟨[(0,(.d (.int .i64 p))),(4,.ptr 0 []),(5,.ptr 1 []),(6,.ptr 2 []),(7,.ptr 3 []),(8,.ptr 4 []),(9,(.d (.int .i64 ((b.len:Int)-1)))),(10,(.d (.int .i64 (inv p (rep b.ld))))),(11,(.d (.int .i64 (((0:Nat):Int)+b.len-2))))],[.box false (D.arr 64 .leaf (ak .u8 (pad (row a)))),.box false (D.arr 64 .leaf (ak .u8 (pad (row b)))),.box false (D.arr 64 .leaf (ak .u8 (pad []))),.box false (D.arr 64 .leaf (ak .u8 (pad []))),.box false (D.arr 64 .leaf (ak .u8 (pad [])))]⟩) (s1:=⟨[(0,(.d (.int .i64 p))),(4,.ptr 0 []),(5,.ptr 1 []),(6,.ptr 2 []),(7,.ptr 3 []),(8,.ptr 4 []),(9,(.d (.int .i64 ((b.len:Int)-1)))),(10,(.d (.int .i64 (inv p (rep b.ld))))),(11,(.d (.int .i64 (((0:Nat):Int)+b.len-2)))),(27,(.d (.bool false)))],[.box false (D.arr 64 .leaf (ak .u8 (pad (row a)))),.box false (D.arr 64 .leaf (ak .u8 (pad (row b)))),.box false (D.arr 64 .leaf (ak .u8 (pad []))),.box false (D.arr 64 .leaf (ak .u8 (pad []))),.box false (D.arr 64 .leaf (ak .u8 (pad [])))]⟩) (id:=0) (by
    have h3':¬ (b.len:Int)-1≤((0:Nat):Int)+b.len-2:=by omega
    simp -implicitDefEqProofs only [Int.natCast_zero,Int.zero_add] at h3' ⊢;simp -implicitDefEqProofs [Z2x_L1,af,h3'])
   rw [st] at l1;have l2:=av l1;injection l2 with _ l3
   injection l3 with _ l4
   injection l4 with l5 l6
   injection l6 with _ l7
   injection l7 with _ l8
   injection l8 with _ l9
   injection l9 with l10 _
   have e5:(D.arr 64 .leaf (ak .u8 (pad (row a))))=(D.arr 64 .leaf (ak .u8 r.1)):=by injection l5
   have e6:(D.arr 64 .leaf (ak .u8 (pad [])))=(D.arr 64 .leaf (ak .u8 r.2)):=by injection l10
   rw [←e5,←e6];exact ⟨(a.len:Int)-1,bo (by simp -implicitDefEqProofs [Z2x_L1,af,h4])⟩
 obtain ⟨n,lz⟩:=lz;refine bc hT rfl ?_;obtain ⟨r1,r2⟩:=r;simp only at lz ⊢;generalize pad (row a)=PA at *;generalize pad (row b)=PB at *;simp -implicitDefEqProofs [Z2x,Z2x_B,e1,e2,e3,w1,hbx,hbx',hbx2,hbx3,lz]
end Pe

namespace Pe
open Go Gq
variable {T:Nat→Option Fn} {A:ah}
def zf (O:ah):Prop:=∀(p:Int) [IsP p] (a b:Fp p),b≠0→a.len≤64→b.len≤64 →
 ask O F37 [(D.int .i64 p),(D.arr 64 .leaf (ak .u8 (pad (row a)))),(D.arr 64 .leaf (ak .u8 (pad (row b))))]=some (D.arr 64 .leaf (ak .u8 (pad (row (a%b)))))
theorem Yw (hT:T F37=some Z37) (hd:jg (den T A)):zf (den T A):=by
 intro p i a b hb h1 h2;have e:=hd p a b hb h1 h2;refine bc hT rfl ?_;simp -implicitDefEqProofs [Z37,Z37_B,e]
theorem Vb (f:Nat→Int) (m i:Nat) (l:List Int) (j:Nat):cf (upd f m i l) j=if i≤j∧j<i+m∧j<l.length then f j else cf l j:=by
 unfold cf;rw [bt,bt,Bb]
 split <;> rfl
theorem V6 {O:ah} {p:Int} {a:List Int} {mm z:List Int} {n:Nat} {top:Int} (hal:a.length=64) (hn:n<64):∀(k i:Nat) (cur:List Int),i+k=n→1≤i→cur.length=64 →
 dn O 0 (.loop Z3j_L0) ⟨[(0,(.d (.int .i64 p))),(4,.ptr 0 []),(5,.ptr 1 []),(6,.ptr 2 []),(7,(.d (.int .i64 n))),(8,(.d (.int .i64 top))),(9,.ptr 3 []),(10,(.d (.int .i64 i)))],[.box false (D.arr 64 .leaf (ak .u8 a)),.box false (D.arr 64 .leaf (ak .u8 mm)),.box false (D.arr 64 .leaf (ak .u8 z)),.box false (D.arr 64 .leaf (ak .u8 cur))]⟩ =
  some (.exit 0,⟨[(0,(.d (.int .i64 p))),(4,.ptr 0 []),(5,.ptr 1 []),(6,.ptr 2 []),(7,(.d (.int .i64 n))),(8,(.d (.int .i64 top))),(9,.ptr 3 []),(10,(.d (.int .i64 n))),(26,(.d (.bool false)))],[.box false (D.arr 64 .leaf (ak .u8 a)),.box false (D.arr 64 .leaf (ak .u8 mm)),.box false (D.arr 64 .leaf (ak .u8 z)),.box false (D.arr 64 .leaf (ak .u8 (upd (fun j=>cf a (j-1)) k i cur)))]⟩)
 | 0,i,cur,hi,h1,hc=>by
  obtain rfl:i=n:=by omega
  exact bo (by simp -implicitDefEqProofs [Z3j_L0,af,upd])
 | k+1,i,cur,hi,h1,hc=>by
  have hlt:i<n:=by omega
  have hi1:i-1<a.length:=by omega
  have hi2:i-1<64:=by omega
  have hi64:i<64:=by omega
  have hic:i<cur.length:=by omega
  have hx:a[i-1]=cf a (i-1):=(dt hi1).symm;have w1:IntKind.i64.wrap ((i:Int)-1)=((i-1:Nat):Int):=(w64 (x:=(i:Int)-1) (by omega)).trans (by omega)
  have w4:IntKind.i64.wrap ((i:Int)+1)=((i+1:Nat):Int):=(w64 (x:=(i:Int)+1) (by omega)).trans (by omega)
  refine bb ?_ (V6 hal hn k (i+1) (cur.set i (cf a (i-1))) (by omega) (by omega) (by simpa using hc))
  simp -implicitDefEqProofs [Z3j_L0,af,hlt,hi1,hi2,hi64,hic,hx,w1,w4]
theorem Th {O:ah} {p q:Int} [IsP p] {b z out:List Int} {n:Nat} {hol:Blk} (hh:hol=.hole) (hb:Can p b) (hbl:b.length=64) (hq:0≤q∧q<p) (hn:n<64) (ho:Can p out):∀(k i:Nat) (cur:List Int),i+k=n→cur.length=64→(∀j,i≤j→cf cur j=cf out j) →
 dn O 0 (.loop Z3j_L1) ⟨[(0,(.d (.int .i64 p))),(5,.ptr 1 []),(6,.ptr 2 []),(7,(.d (.int .i64 n))),(9,.ptr 3 []),(11,(.d (.int .i64 q))),(12,(.d (.int .i64 i)))],[hol,.box false (D.arr 64 .leaf (ak .u8 b)),.box false (D.arr 64 .leaf (ak .u8 z)),.box false (D.arr 64 .leaf (ak .u8 cur))]⟩ =
  some (.exit 2,⟨[(0,(.d (.int .i64 p))),(5,.ptr 1 []),(6,.ptr 2 []),(7,(.d (.int .i64 n))),(9,.ptr 3 []),(11,(.d (.int .i64 q))),(12,(.d (.int .i64 n))),(47,(.d (.bool false)))],[hol,.box false (D.arr 64 .leaf (ak .u8 b)),.box false (D.arr 64 .leaf (ak .u8 z)),.box false (D.arr 64 .leaf (ak .u8 (upd (fun j=>(cf out j-q*cf b j)%p) k i cur)))]⟩)
 | 0,i,cur,hi,hc,hs=>by
  subst hh;obtain rfl:i=n:=by omega
  exact bo (by simp -implicitDefEqProofs [Z3j_L1,af,upd])
 | k+1,i,cur,hi,hc,hs=>by
  have hp:=IsP.pos (p:=p);have hp7:=IsP.le (p:=p);have hp0:p≠0:=by omega
  have hlt:i<n:=by omega
  have hi64:i<64:=by omega
  have hic:i<cur.length:=by omega
  have hib:i<b.length:=by omega
  have hx:cur[i]=cf out i:=by rw [←dt hic]; exact hs i (az i)
  have hy:b[i]=cf b i:=(dt hib).symm;have gc:=ho.le hp i;have gb:=hb.le hp i;have gm:=gz (x:=q) (y:=cf b i) (b:=10) (c:=10) (by omega) (by omega) (by omega)
  have w3:IntKind.i64.wrap (cf out i)=cf out i:=w64 (by omega)
  have w5:IntKind.i64.wrap (cf b i)=cf b i:=w64 (by omega)
  have w6:IntKind.i64.wrap (q*cf b i)=q*cf b i:=w64 (by omega)
  have w7:IntKind.i64.wrap (cf out i-q*cf b i)=cf out i-q*cf b i:=w64 (by omega)
  have hin:=yb (n:=cf out i-q*cf b i) hp;have w9:IntKind.i64.wrap ((cf out i-q*cf b i).tmod p+p)=(cf out i-q*cf b i).tmod p+p:=w64 (by omega)
  have w10:((cf out i-q*cf b i).tmod p+p).tmod p=(cf out i-q*cf b i)%p:=wk hp;have hlin:0≤(cf out i-q*cf b i)%p∧(cf out i-q*cf b i)%p<p:=⟨co _ (by omega),cd _ hp⟩
  have w11:IntKind.u8.wrap ((cf out i-q*cf b i)%p)=(cf out i-q*cf b i)%p:=w8 (by omega)
  have w4:IntKind.i64.wrap ((i:Int)+1)=((i+1:Nat):Int):=(w64 (x:=(i:Int)+1) (by omega)).trans (by omega)
  refine bb ?_ (Th hh hb hbl hq hn ho k (i+1) (cur.set i ((cf out i-q*cf b i)%p)) (by omega) (by simpa using hc) (fun j hj=>by rw [po,if_neg (by omega)]; exact hs j (by omega)))
  subst hh;simp -implicitDefEqProofs [Z3j_L1,af,hlt,hi64,hic,hib,hx,hy,w3,w5,w6,w7,w9,w10,w11,w4,hp0]
def O7 (O:ah):Prop:=∀(p:Int) [IsP p] (a m:Fp p),m≠0→a.len<m.len→m.len≤64 →
 ask O F3j [(D.int .i64 p),(D.arr 64 .leaf (ak .u8 (pad (row a)))),(D.arr 64 .leaf (ak .u8 (pad (row m))))]=some (D.arr 64 .leaf (ak .u8 (pad (row (Pol.X*a%m)))))
theorem a2j (hT:T F3j=some Z3j) (hd:ja (den T A)) (hinv:ou (den T A)):O7 (den T A):=by
 intro p i a m hm hal hml;have hp:=IsP.ge (p:=p);have hp7:=IsP.le (p:=p);have e1:=hd p m hml;refine bc hT rfl ?_
 by_cases h1:m.len=1
 ·have ha:a=0:=Pol.len_zero_iff.1 (by omega)
  subst ha;rw [Gq.mul_zero,Pol.zero_mod hm,dd];rw [h1] at e1;simp -implicitDefEqProofs [Z3j,Z3j_B,af,e1]
 ·have hm0:=Pol.len_pos hm
  obtain ⟨n,hn⟩:∃n,m.len=n+2:=⟨m.len-2,by omega⟩
  have e1':ask (den T A) F2w [(D.arr 64 .leaf (ak .u8 (pad (row m))))]=some (D.int .i64 ((n+1:Nat))):=by rw [e1,hn]; congr 2; omega
  have hr:=kg m.ld;have hld:rep m.ld≠0:=fun h0=>Pol.ld_ne hm (fw.1 h0)
  have e3:=hinv p (rep m.ld) (by omega) hr.2
  have hin:=v6 p (rep m.ld);have hpa:a.len≤64:=by omega
  have hax:(pad (row a))[n]? = some (rep (a.c n)):=by rw [o3 _ _ (by omega),f7]
  have hmx:(pad (row m))[n+1]? = some (rep m.ld):=by
   rw [o3 _ _ (by omega),f7]
   unfold Pol.ld;rw [hn]; rfl
  have ha0:=kg (a.c n);have w0:IntKind.i64.wrap ((n:Int)+1-1)=(n:Int):=(w64 (x:=(n:Int)+1-1) (by omega)).trans (by omega)
  have w0':IntKind.i64.wrap (n:Int)=(n:Int):=w64 (by omega)
  have w1:IntKind.i64.wrap (rep (a.c n))=rep (a.c n):=w64 (by omega)
  have w2:IntKind.i64.wrap (inv p (rep m.ld))=inv p (rep m.ld):=w64 (by omega)
  have gm:=gz (x:=rep (a.c n)) (y:=inv p (rep m.ld)) (b:=10) (c:=10) (by omega) (by omega) (by omega)
  have w3:IntKind.i64.wrap (rep (a.c n)*inv p (rep m.ld))=rep (a.c n)*inv p (rep m.ld):=w64 (by omega)
  have w4:(rep (a.c n)*inv p (rep m.ld)).tmod p=rep (a.c n)*inv p (rep m.ld)%p:=c8 (dy ha0.1 hin.1);have hq:0≤rep (a.c n)*inv p (rep m.ld)%p∧rep (a.c n)*inv p (rep m.ld)%p<p:=⟨co _ (by omega),cd _ (by omega)⟩
  have hqz:zp p (rep (a.c n)*inv p (rep m.ld)%p)=a.c n*Fd.inv m.ld:=by
   rw [t6,xn,jk,se _ (Pol.ld_ne hm)]
  generalize rep (a.c n)*inv p (rep m.ld)%p=q at *;have l0:=V6 (O:=den T A) (p:=p) (a:=pad (row a)) (mm:=pad (row m)) (z:=pad []) (n:=n+1) (top:=rep (a.c n)) (bq _) (by omega) n 1 (pad []) (by omega) (az 1) (bq _)
  have hz:∀j,cf (pad []) j=0:=fun j=>by rw [uk (by simp),ko (by simp)]
  have c0:∀j,cf (upd (fun j=>cf (pad (row a)) (j-1)) n 1 (pad [])) j=if 1≤j∧j<n+1 then rep (a.c (j-1)) else 0:=fun j=>by
   rw [Vb,hz,bq]
   by_cases h:1≤j∧j<n+1
   ·rw [if_pos (by omega),if_pos h,kw hpa]
   ·rw [if_neg (by omega),if_neg h]
  have hlen0:(upd (fun j=>cf (pad (row a)) (j-1)) n 1 (pad [])).length=64:=by rw [sz,bq]
  generalize upd (fun j=>cf (pad (row a)) (j-1)) n 1 (pad [])=out at *
  have hcan0:Can p out:=Can.of_cf fun j _=>by rw [c0]; split; exact kg _; omega
  have l1:=Th (O:=den T A) (p:=p) (q:=q) (b:=pad (row m)) (z:=pad []) (out:=out) (n:=n+1) rfl (tf m) (bq _) hq (by omega) hcan0 (n+1) 0 out (by omega) hlen0 (fun _ _=>rfl)
  have hres:upd (fun j=>(cf out j-q*cf (pad (row m)) j)%p) (n+1) 0 out=pad (row (Pol.X*a%m)):=by
   have hlenR:(upd (fun j=>(cf out j-q*cf (pad (row m)) j)%p) (n+1) 0 out).length=64:=by rw [sz,hlen0]
   have hcR:∀j,cf (upd (fun j=>(cf out j-q*cf (pad (row m)) j)%p) (n+1) 0 out) j=if j<n+1 then (cf out j-q*rep (m.c j))%p else 0:=fun j=>by
    rw [Vb,hlen0]
    by_cases h:j<n+1
    ·rw [if_pos (by omega),if_pos h,kw hml]
    ·rw [if_neg (by omega),if_neg h,c0,if_neg (by omega)]
   have hcanR:Can p (upd (fun j=>(cf out j-q*cf (pad (row m)) j)%p) (n+1) 0 out):=Can.of_cf fun j _=>by
    rw [hcR]; split
    ·exact ⟨co _ (by omega),cd _ (by omega)⟩
    ·omega
   rw [Cf hcanR hlenR]
   congr 2
   symm
   refine (Pol.div_mod_eq (q:=Pol.C (zp p q)) ?_ ?_).2
   ·refine Pol.ext fun j=>?_
    rw [Pol.c_add,Pol.c_Cmul,Pol.c_Xmul,fc,hcR];rcases kl j (n+1) with h | h | h
    ·rw [if_pos h,t6,Tt,xn,jk,c0]
     by_cases hj:j=0
     ·subst hj
      rw [if_pos rfl,if_neg (by omega),td]
      exact c6 [zp p q,m.c 0] rfl
     ·rw [if_neg hj,if_pos (by omega),jk]
      exact c6 [zp p q,m.c j,a.c (j-1)] rfl
    ·subst h
     rw [if_neg (by omega),if_neg (by omega),td,Gq.add_zero,hqz]
     have e:m.c (n+1)=m.ld:=by unfold Pol.ld; rw [hn]; rfl
     rw [e,Gq.mul_assoc,Gq.mul_comm (Fd.inv m.ld),Fd.mul_inv _ (Pol.ld_ne hm),Gq.mul_one]; rfl
    ·rw [if_neg (by omega),if_neg (by omega),td,m.lt_len j (by omega),Gq.mul_zero,Gq.add_zero,a.lt_len (j-1) (by omega)]
   ·have:(dl p (upd (fun j=>(cf out j-q*cf (pad (row m)) j)%p) (n+1) 0 out)).lt (n+1):=fun j hj=>by
     rw [fc,hcR,if_neg (by omega)]; rfl
    have:=Pol.len_le this;omega
  rw [hres] at l1;have e0:((0:Nat):Int)=0:=rfl;have e11:((1:Nat):Int)=1:=rfl;have en:((n+1:Nat):Int)=(n:Int)+1:=by omega
  rw [e0,en] at l1;rw [e11,en] at l0;rw [en] at e1';have hp0:p≠0:=by omega
  have hn64:n<64:=by omega
  have hn65:n+1<64:=by omega
  have t1:¬ (n:Int)+1=0:=by omega
  have t2:(0:Int)≤(n:Int)+1:=by omega
  have t3:((n:Int)+1).toNat=n+1:=by omega
  generalize pad (row (Pol.X*a%m))=R at *;generalize pad (row a)=PA at *;generalize pad (row m)=PM at *;simp -implicitDefEqProofs [Z3j,Z3j_B,af,e1',e3,hax,hmx,w0',w1,w2,w3,w4,l0,l1,hn64,hn65,t1,t2,t3,hp0]
def o8 {p:Int} (b:Fp p) (i:Nat):Fp p:=⟨fun j=>b.c (i+j),b.len,fun j hj=>b.lt_len _ (by omega)⟩
theorem Mk {p:Int} (b:Fp p):o8 b 0=b:=Pol.ext fun j=>by show b.c (0+j)=b.c j; rw [bf]
theorem P4 {p:Int} (b:Fp p):o8 b b.len=0:=Pol.ext fun j=>b.lt_len _ (by omega)
theorem Mw {p:Int} (b:Fp p) (i:Nat):o8 b i=Pol.X*o8 b (i+1)+Pol.C (b.c i):=Pol.ext fun j=>by
 rw [Pol.c_add,Pol.c_Xmul,Pol.c_C];show b.c (i+j)=(if j=0 then 0 else b.c (i+1+(j-1)))+if j=0 then b.c i else 0
 by_cases h:j=0
 ·subst h; rw [if_pos rfl,if_pos rfl,Gq.zero_add]; rfl
 ·rw [if_neg h,if_neg h,Gq.add_zero,show i+1+(j-1)=i+j by omega]
theorem Dx {O:ah} (hu:O7 O) (ha:rk O) (hmo:zf O) {p:Int} [IsP p] {a b m:Fp p} {z:List Int} (hm:m≠0) (hml:m.len≤64) (hal:a.len≤64) (hbl:b.len≤64):∀(n:Nat),n≤b.len →
 dn O 0 (.loop Z39_L0) ⟨[(0,(.d (.int .i64 p))),(5,.ptr 0 []),(6,.ptr 1 []),(7,.ptr 2 []),(8,.ptr 3 []),(9,.ptr 4 []),(10,(.d (.int .i64 ((n:Int)-1))))],[.box false (D.arr 64 .leaf (ak .u8 (pad (row a)))),.box false (D.arr 64 .leaf (ak .u8 (pad (row b)))),.box false (D.arr 64 .leaf (ak .u8 (pad (row m)))),.box false (D.arr 64 .leaf (ak .u8 z)),.box false (D.arr 64 .leaf (ak .u8 (pad (row (a*o8 b n%m)))))]⟩ =
  some (.exit 0,⟨[(0,(.d (.int .i64 p))),(5,.ptr 0 []),(6,.ptr 1 []),(7,.ptr 2 []),(8,.ptr 3 []),(9,.ptr 4 []),(10,(.d (.int .i64 (-1)))),(15,(.d (.bool false)))],[.box false (D.arr 64 .leaf (ak .u8 (pad (row a)))),.box false (D.arr 64 .leaf (ak .u8 (pad (row b)))),.box false (D.arr 64 .leaf (ak .u8 (pad (row m)))),.box false (D.arr 64 .leaf (ak .u8 z)),.box false (D.arr 64 .leaf (ak .u8 (pad (row (a*b%m)))))]⟩)
 | 0,_=>by
  rw [Mk];exact bo (by simp -implicitDefEqProofs [Z39_L0,af])
 | n+1,hn=>by
  have hp:=IsP.pos (p:=p);have hp7:=IsP.le (p:=p);have hlr:=Pol.len_mod (a*o8 b (n+1)) hm;have hr:=kg (b.c n);have e1:=hu p (a*o8 b (n+1)%m) m hm hlr hml;have hl2:=Pol.len_mod (Pol.X*(a*o8 b (n+1)%m)) hm;have e2:=ha p (rep (b.c n)) (Pol.X*(a*o8 b (n+1)%m)%m) a (by omega) (by omega) (by omega) hal
  rw [jk] at e2;have hl3:=Pol.len_add_le (a:=Pol.X*(a*o8 b (n+1)%m)%m) (b:=Pol.C (b.c n)*a) (n:=64) (by omega) (iq (Pol.len_le (Pol.lt_Cmul _ a.lt_len)) hal)
  have e3:=hmo p (Pol.X*(a*o8 b (n+1)%m)%m+Pol.C (b.c n)*a) m hm hl3 hml
  have e4:(Pol.X*(a*o8 b (n+1)%m)%m+Pol.C (b.c n)*a)%m=a*o8 b n%m:=by
   rw [Mw b n,Pol.mod_eq_iff hm,Quo.mk_add,Pol.mk_mod,Quo.mk_mul,Pol.mk_mod,←Quo.mk_mul,←Quo.mk_add]
   congr 1
   exact c6 [Pol.X,a,o8 b (n+1),Pol.C (b.c n)] rfl
  rw [e4] at e3;have t0:(((n+1:Nat):Int)-1)=(n:Int):=by omega
  rw [t0];have hn64:n<64:=by omega
  have hx:(pad (row b))[n]? = some (rep (b.c n)):=by rw [o3 _ _ hn64,f7]
  have w1:IntKind.i64.wrap (rep (b.c n))=rep (b.c n):=w64 (by omega)
  have w2:IntKind.i64.wrap ((n:Int)-1)=(n:Int)-1:=w64 (by omega)
  refine bb ?_ (Dx hu ha hmo hm hml hal hbl n (by omega))
  generalize pad (row (a*o8 b n%m))=R at *;generalize pad (row (a*o8 b (n+1)%m))=R1 at *;generalize pad (row (Pol.X*(a*o8 b (n+1)%m)%m+Pol.C (b.c n)*a))=R2 at *;generalize pad (row (Pol.X*(a*o8 b (n+1)%m)%m))=R3 at *;generalize pad (row a)=PA at *;generalize pad (row b)=PB at *;generalize pad (row m)=PM at *;simp -implicitDefEqProofs [Z39_L0,af,e1,e2,e3,hn64,hx,w1,w2]
def vv (O:ah):Prop:=∀(p:Int) [IsP p] (a b m:Fp p),m≠0→m.len≤64→a.len≤64→b.len≤64 →
 ask O F39 [(D.int .i64 p),(D.arr 64 .leaf (ak .u8 (pad (row a)))),(D.arr 64 .leaf (ak .u8 (pad (row b)))),(D.arr 64 .leaf (ak .u8 (pad (row m))))]=some (D.arr 64 .leaf (ak .u8 (pad (row (a*b%m)))))
theorem P6 (hT:T F39=some Z39) (hd:ja (den T A)) (hu:O7 (den T A)) (ha:rk (den T A)) (hmo:zf (den T A)):vv (den T A):=by
 intro p i a b m hm hml hal hbl;have e1:=hd p b hbl;have e2:=Dx (O:=den T A) (z:=pad []) hu ha hmo hm hml hal hbl b.len (az _);rw [P4,Gq.mul_zero,Pol.zero_mod hm,dd] at e2;refine bc hT rfl ?_;generalize pad (row (a*b%m))=R at *;generalize pad (row a)=PA at *;generalize pad (row b)=PB at *;generalize pad (row m)=PM at *;simp -implicitDefEqProofs [Z39,Z39_B,e1,e2]
theorem Ye {O:ah} (hmm:vv O) {p:Int} [IsP p] {m:Fp p} {z:List Int} {hol:Blk} (hh:hol=.hole) (hm:m≠0) (hml:m.len≤64):∀(n:Nat) (k:Int) (out base:Fp p),0≤k→k.toNat<2^n→k<4611686018427387904→out.len<m.len→base.len<m.len→∃base':List Int,
 dn O 0 (.loop Z3f_L0) ⟨[(0,(.d (.int .i64 p))),(2,(.d (.int .i64 k))),(7,.ptr 1 []),(8,.ptr 2 []),(9,.ptr 3 []),(10,.ptr 4 [])],[hol,.box false (D.arr 64 .leaf (ak .u8 (pad (row m)))),.box false (D.arr 64 .leaf (ak .u8 z)),.box false (D.arr 64 .leaf (ak .u8 (pad (row out)))),.box false (D.arr 64 .leaf (ak .u8 (pad (row base))))]⟩ =
  some (.exit 0,⟨[(0,(.d (.int .i64 p))),(2,(.d (.int .i64 0))),(7,.ptr 1 []),(8,.ptr 2 []),(9,.ptr 3 []),(10,.ptr 4 []),(20,(.d (.bool false)))],[hol,.box false (D.arr 64 .leaf (ak .u8 (pad (row m)))),.box false (D.arr 64 .leaf (ak .u8 z)),.box false (D.arr 64 .leaf (ak .u8 (pad (row (out*pw base k.toNat%m))))),.box false (D.arr 64 .leaf (ak .u8 base'))]⟩):=by
 intro n
 induction n with
 | zero=>
  intro k out base hk hn _ ho hb;obtain rfl:k=0:=by simp at hn; omega
  refine ⟨pad (row base),?_⟩
  have e:out*pw base (0:Int).toNat%m=out:=by
   show out*1%m=out;rw [Gq.mul_one,Pol.mod_small ho]
  rw [e];subst hh;exact bo (by simp -implicitDefEqProofs [Z3f_L0,af])
 | succ n ih=>
  intro k out base hk hn hkm ho hb
  by_cases h0:k=0
  ·subst h0
   refine ⟨pad (row base),?_⟩
   have e:out*pw base (0:Int).toNat%m=out:=by
    show out*1%m=out;rw [Gq.mul_one,Pol.mod_small ho]
   rw [e];subst hh;exact bo (by simp -implicitDefEqProofs [Z3f_L0,af])
  ·have hkp:0<k:=by omega
   have t1:=hmm p out base m hm hml (by omega) (by omega)
   have t2:=hmm p base base m hm hml (by omega) (by omega)
   have s:=Pol.bin_step (out:=out) (base:=base) hm k.toNat (by omega)
   have hdiv:(k/2).toNat=k.toNat/2:=by omega
   obtain ⟨b',e⟩:=ih (k/2) (if k.toNat%2=1 then out*base%m else out) (base*base%m) (by omega) (by rw [o5] at hn; omega) (by omega) (by split; exact Pol.len_mod _ hm; exact ho) (Pol.len_mod _ hm)
   rw [hdiv,s] at e;refine ⟨b',bb ?_ e⟩;subst hh;have w1:IntKind.i64.wrap (k.tdiv 2)=k/2:=by rw [dx hk,w64 (by omega)]
   have w2:k.tmod 2=k%2:=c8 hk
   by_cases hodd:k%2=1
   ·rw [if_pos (show k.toNat%2=1 by omega)]
    generalize pad (row (out*base%m))=R1 at *;generalize pad (row (base*base%m))=R2 at *;generalize pad (row out)=R3 at *;generalize pad (row base)=R4 at *;generalize pad (row m)=R5 at *;simp -implicitDefEqProofs [Z3f_L0,af,hkp,t1,t2,w1,w2,hodd]
   ·rw [if_neg (show ¬ k.toNat%2=1 by omega)]
    generalize pad (row (base*base%m))=R2 at *;generalize pad (row out)=R3 at *;generalize pad (row base)=R4 at *;generalize pad (row m)=R5 at *;simp -implicitDefEqProofs [Z3f_L0,af,hkp,t2,w1,w2,hodd]
def wj (O:ah):Prop:=∀(p:Int) [IsP p] (a:Fp p) (k:Int) (m:Fp p),m≠0→a.len≤64→m.len≤64→0≤k→k<4611686018427387904 →
 ask O F3f [(D.int .i64 p),(D.arr 64 .leaf (ak .u8 (pad (row a)))),(D.int .i64 k),(D.arr 64 .leaf (ak .u8 (pad (row m))))]=some (D.arr 64 .leaf (ak .u8 (pad (row (pw a k.toNat%m)))))
theorem Rc (hT:T F3f=some Z3f) (h1:H1 (den T A)) (hmo:zf (den T A)) (hmm:vv (den T A)):wj (den T A):=by
 intro p i a k m hm hal hml hk hkm;have e1:=h1 p;have e2:=hmo p 1 m hm (by rw [Pol.len_one]; omega) hml
 have e3:=hmo p a m hm hal hml;obtain ⟨b',e⟩:=Ye (O:=den T A) hmm (z:=pad []) (hol:=.hole) rfl hm hml 62 k (1%m) (a%m) hk (by omega) hkm (Pol.len_mod _ hm) (Pol.len_mod _ hm)
 have e4:1%m*pw (a%m) k.toNat%m=pw a k.toNat%m:=by
  rw [Pol.mul_mod_left _ _ hm,Gq.one_mul,Pol.pow_mod _ hm]
 rw [e4] at e;refine bc hT rfl ?_;generalize pad (row (pw a k.toNat%m))=R at *;generalize pad (row (1%m))=R1 at *;generalize pad (row (a%m))=R2 at *;generalize pad (row (1:Fp p))=R3 at *;generalize pad (row a)=PA at *;generalize pad (row m)=PM at *;simp -implicitDefEqProofs [Z3f,Z3f_B,e1,e2,e3,e]
end Pe

namespace Pe
open Go Gq
section
variable {p:Int} [IsP p]
noncomputable def frW (m:Fp p) (k:Nat):Fp p:=pw Pol.X (p.toNat^k)%m-Pol.X
theorem Tj {m q:Fp p} (_hm:m≠0) (hq:Dv q m) (k:Nat):Dv q (frW m k)↔Dv q (frT p k):=by
 have h1:frT p k=frW m k+pw Pol.X (p.toNat^k)/m*m:=by
  have h:=Pol.div_mod (pw Pol.X (p.toNat^k)) m;show pw Pol.X (p.toNat^k)-Pol.X=pw Pol.X (p.toNat^k)%m-Pol.X+pw Pol.X (p.toNat^k)/m*m;generalize pw Pol.X (p.toNat^k)%m=R at *;generalize pw Pol.X (p.toNat^k)/m=Q at *;rw [h];exact c6 [Q,m,R,Pol.X] rfl
 have h2:Dv q (pw Pol.X (p.toNat^k)/m*m):=hq.mul_left _;constructor
 ·intro h; rw [h1]; exact h.add h2
 ·intro h
  have:=h.sub h2;rw [h1] at this;have e:frW m k+pw Pol.X (p.toNat^k)/m*m-pw Pol.X (p.toNat^k)/m*m=frW m k:=c6 [frW m k,pw Pol.X (p.toNat^k)/m,m] rfl
  rwa [e] at this
theorem U8 {m:Fp p} (h2:2≤m.len) (h13:m.len≤13):(∀k,1≤k→2*k≤m.len-1→(Pol.gcd m (frW m k)).len=1)↔Irr m:=by
 have hm:m≠0:=fun h=>by rw [h,Pol.len_zero] at h2; omega
 have small:∀d,d≤12→p^d<1000000000000:=fun d hd=>by
  have h1:=jh (p:=p) (by have:=IsP.pos (p:=p); omega) hd
  have h7:=mj (p:=p) (n:=12) (by omega)
  omega
 constructor
 ·intro h
  refine rf (n:=(m.len-1)/2+1) (fun q hq hd=>?_) h2 (by omega)
  rcases ct ((m.len-1)/2+1) q.len with g | g
  ·omega
  ·exfalso
   have hl:=hq.len;have h1:=h (q.len-1) (by omega) (by omega)
   have h3:Dv q (frT p (q.len-1)):=Ay hq (by omega) (small _ (by omega))
   have h4:=Pol.dv_gcd (.inl hm) hd ((Tj hm hd _).2 h3);have h5:=h4.len (fun h0=>by rw [h0,Pol.len_zero] at h1; omega)
   omega
 ·intro hi k hk hk2
  by_cases hd:Dv m (frW m k)
  ·have h3:=(Tj hm (Dv.refl m) k).1 hd
   have:=x8 hi (d:=m.len-1) (by omega) (small _ (by omega)) hk h3
   omega
  ·obtain ⟨u,v,e⟩:=hi.coprime hd
   have h1:=Pol.gcd_dv_left (a:=m) (b:=frW m k) (.inl hm);have h3:=Pol.gcd_dv_right (a:=m) (b:=frW m k) (.inl hm)
   have h4:Dv (Pol.gcd m (frW m k)) 1:=by
    rw [←e];exact (h1.mul_left u).add (h3.mul_left v)
   have h5:=h4.len Pol.one_ne;rw [Pol.len_one] at h5;have h6:=Pol.len_pos (Pol.gcd_monic (a:=m) (b:=frW m k) (.inl hm)).2;omega
theorem X9 {m:Fp p} (hi:Irr m) (hm:Monic m):IsFac m [(m,1)] where
 ok:=⟨fun x hx=>by simp only [bu] at hx; subst hx; exact ⟨hi,hm,az 1⟩,f4 _ _⟩
 sorted:=f4 _ _
 eq:=by
  rw [hm.1,Pol.C_one,Gq.one_mul];show m=pw m 1*1;rw [tw,Gq.mul_one]
theorem X5 {m:Fp p} {L:ej p} (hm:Monic m) (h:IsFac m L):(∃q,L=[(q,1)])↔Irr m:=by
 constructor
 ·rintro ⟨q,rfl⟩
  have e:=h.eq;rw [hm.1,Pol.C_one,Gq.one_mul] at e
  have e2:dz [(q,1)]=q:=by
   show pw q 1*1=q;rw [tw,Gq.mul_one]
  rw [e2] at e;rw [e];exact (h.ok.irr (q,1) (by simp)).1
 ·intro hi
  exact ⟨m,h.unique hm.2 (X9 hi hm)⟩
end
end Pe

namespace Pe
open Go Gq
variable {T:Nat→Option Fn} {A:ah}
section
variable {p:Int}
def At (a:Fp p) (i:Nat):Fp p:=⟨fun n=>if n<i then a.c n else 0,i,fun n hn=>if_neg (by omega)⟩
theorem Gk (a:Fp p) (i n:Nat):(At a i).c n=if n<i then a.c n else 0:=rfl
theorem Ei (a:Fp p):At a 0=0:=Pol.ext fun n=>by rw [Gk,if_neg (by omega)]; rfl
theorem Ji (a:Fp p):At a a.len=a:=Pol.ext fun n=>by
 rw [Gk]
 split
 ·rfl
 ·rename_i h; exact (a.lt_len n (by omega)).symm
end
section
variable {p:Int} [IsP p]
theorem Vh (k:Zp p) (n i:Nat):(Pol.mo k n).c i=if i=n then k else 0:=rfl
theorem zd (a:Fp p) (i:Nat):At a (i+1)=At a i+Pol.mo (a.c i) i:=Pol.ext fun n=>by
 rw [Pol.c_add,Gk,Gk,Vh]
 by_cases h:n=i
 ·subst h; rw [if_pos (by omega),if_neg (by omega),if_pos rfl,Gq.zero_add]
 ·rw [if_neg h,Gq.add_zero]
  by_cases h2:n<i
  ·rw [if_pos (by omega),if_pos h2]
  ·rw [if_neg (by omega),if_neg h2]
theorem Vl (n:Nat):(Pol.mo 0 n:Fp p)=0:=Pol.ext fun i=>by rw [Vh]; split <;> rfl
theorem a25 (k l:Zp p) (n m:Nat):(Pol.mo k n*Pol.mo l m:Fp p)=Pol.mo (k*l) (n+m):=Pol.ext fun i=>by
 rw [Ir,Vh,Vh]
 by_cases h:n≤i
 ·rw [if_pos h]
  by_cases h2:i-n=m
  ·rw [if_pos h2,if_pos (by omega)]
  ·rw [if_neg h2,if_neg (by omega),Gq.mul_zero]
 ·rw [if_neg h,if_neg (by omega)]
theorem Dp {cur:List Int} {k:Nat} (h:k<cur.length) (t:Int):dl p (cur.set k ((cf cur k+t)%p))=dl p cur+Pol.mo (zp p t) k:=Pol.ext fun j=>by
 rw [Pol.c_add,fc,fc,po,Vh]
 by_cases h1:j=k
 ·subst h1
  rw [if_pos ⟨rfl,h⟩,if_pos rfl,t6,Mi]
 ·rw [if_neg (by omega),if_neg h1,Gq.add_zero]
end
theorem Sf {O:ah} {p:Int} [IsP p] {a b:Fp p} {z:List Int} {n i:Nat} (hn:n<64) (hi:i<a.len) (hal:a.len≤64) (hbl:b.len≤64) (hab:a.len+b.len≤65) (hb1:0<b.len) (hai:a.c i≠0) {P:Fp p} {vn:V} (hvn:vn.refs=[]):∀(m j:Nat) (cur:List Int),j+m=b.len→cur.length=64→Can p cur→dl p cur=P+Pol.mo (a.c i) i*At b j→∃cur':List Int,cur'.length=64∧Can p cur'∧dl p cur'=P+Pol.mo (a.c i) i*b ∧
 dn O 0 (.loop Z3i_L0) ⟨[(0,(.d (.int .i64 p))),(4,.ptr 0 []),(5,.ptr 1 []),(6,.ptr 2 []),(8,vn),(9,(.d (.int .i64 (((b.len-1:Nat):Int))))),(10,.ptr 3 []),(11,(.d (.int .i64 i))),(12,(.d (.int .i64 j)))],[.box false (D.arr 64 .leaf (ak .u8 (pad (row a)))),.box false (D.arr 64 .leaf (ak .u8 (pad (row b)))),.box false (D.arr 64 .leaf (ak .u8 z)),.box false (D.arr 64 .leaf (ak .u8 cur))]⟩ =
  some (.exit 2,⟨[(0,(.d (.int .i64 p))),(4,.ptr 0 []),(5,.ptr 1 []),(6,.ptr 2 []),(8,vn),(9,(.d (.int .i64 (((b.len-1:Nat):Int))))),(10,.ptr 3 []),(11,(.d (.int .i64 i))),(12,(.d (.int .i64 b.len))),(43,(.d (.bool false)))],[.box false (D.arr 64 .leaf (ak .u8 (pad (row a)))),.box false (D.arr 64 .leaf (ak .u8 (pad (row b)))),.box false (D.arr 64 .leaf (ak .u8 z)),.box false (D.arr 64 .leaf (ak .u8 cur'))]⟩)
 | 0,j,cur,hj,hc,hcan,he=>by
  obtain rfl:j=b.len:=by omega
  rw [Ji] at he;have hlt:¬ (b.len:Int)≤((b.len-1:Nat):Int):=by omega
  refine ⟨cur,hc,hcan,he,bo ?_⟩;generalize ((b.len-1:Nat):Int)=m1 at *;generalize pad (row a)=PA at *;generalize pad (row b)=PB at *;simp -implicitDefEqProofs [Z3i_L0,af,hlt,hvn]
 | m+1,j,cur,hj,hc,hcan,he=>by
  have hp:=IsP.pos (p:=p);have hp7:=IsP.le (p:=p);have hp0:p≠0:=by omega
  have hlt:(j:Int)≤((b.len-1:Nat):Int):=by omega
  have hi64:i<64:=by omega
  have hj64:j<64:=by omega
  have hij:i+j<64:=by omega
  have hs0:(0:Int)≤(i:Int)+j:=by omega
  have hs1:((i:Int)+j).toNat=i+j:=by omega
  have hx:(pad (row a))[i]? = some (rep (a.c i)):=by rw [o3 _ _ hi64,f7]
  have hy:(pad (row b))[j]? = some (rep (b.c j)):=by rw [o3 _ _ hj64,f7]
  have hx0:rep (a.c i)≠0:=fun h=>hai (fw.1 h)
  have hr1:=kg (a.c i);have hr2:=kg (b.c j);have hkc:i+j<cur.length:=by omega
  have hw:cur[i+j]=cf cur (i+j):=(dt hkc).symm;have gc:=hcan.le hp (i+j);have gm:=gz (x:=rep (a.c i)) (y:=rep (b.c j)) (b:=10) (c:=10) (by omega) (by omega) (by omega)
  have gm0:=dy hr1.1 hr2.1;have w0:IntKind.i64.wrap ((i:Int)+j)=((i+j:Nat):Int):=(w64 (x:=(i:Int)+j) (by omega)).trans (by omega)
  have w1:IntKind.i64.wrap (rep (a.c i))=rep (a.c i):=w64 (by omega)
  have w2:IntKind.i64.wrap (rep (b.c j))=rep (b.c j):=w64 (by omega)
  have w3:IntKind.i64.wrap (cf cur (i+j))=cf cur (i+j):=w64 (by omega)
  have w4:IntKind.i64.wrap (rep (a.c i)*rep (b.c j))=rep (a.c i)*rep (b.c j):=w64 (by omega)
  have w5:IntKind.i64.wrap (cf cur (i+j)+rep (a.c i)*rep (b.c j))=cf cur (i+j)+rep (a.c i)*rep (b.c j):=w64 (by omega)
  have w6:(cf cur (i+j)+rep (a.c i)*rep (b.c j)).tmod p=(cf cur (i+j)+rep (a.c i)*rep (b.c j))%p:=c8 (by omega)
  have hin:=co (cf cur (i+j)+rep (a.c i)*rep (b.c j)) hp0;have hin2:=cd (cf cur (i+j)+rep (a.c i)*rep (b.c j)) hp;have w7:IntKind.u8.wrap ((cf cur (i+j)+rep (a.c i)*rep (b.c j))%p)=(cf cur (i+j)+rep (a.c i)*rep (b.c j))%p:=w8 (by omega)
  have w8':IntKind.i64.wrap ((j:Int)+1)=((j+1:Nat):Int):=(w64 (x:=(j:Int)+1) (by omega)).trans (by omega)
  have hnew:dl p (cur.set (i+j) ((cf cur (i+j)+rep (a.c i)*rep (b.c j))%p))=P+Pol.mo (a.c i) i*At b (j+1):=by
   rw [Dp hkc,he,xn,jk,jk,zd,Gq.mul_add,a25,Gq.add_assoc]
  have hcan':Can p (cur.set (i+j) ((cf cur (i+j)+rep (a.c i)*rep (b.c j))%p)):=fun x hx=>by
   rcases di hx with h | rfl
   ·exact hcan x h
   ·exact ⟨hin,hin2⟩
  obtain ⟨cur',g1,g2,g3,g4⟩:=Sf (O:=O) (z:=z) hn hi hal hbl hab hb1 hai hvn m (j+1) (cur.set (i+j) ((cf cur (i+j)+rep (a.c i)*rep (b.c j))%p)) (by omega) (by rw [cg]; exact hc) hcan' hnew
  have hs:ak .u8 (cur.set (i+j) ((cf cur (i+j)+rep (a.c i)*rep (b.c j))%p))=(ak .u8 cur).set (i+j) (D.int .u8 ((cf cur (i+j)+rep (a.c i)*rep (b.c j))%p)):=by unfold ak; rw [List.map_set]
  rw [hs] at g4;refine ⟨cur',g1,g2,g3,bb ?_ g4⟩;generalize (cf cur (i+j)+rep (a.c i)*rep (b.c j))%p=W at *;generalize ((b.len-1:Nat):Int)=m1 at *;generalize pad (row a)=PA at *;generalize pad (row b)=PB at *;simp -implicitDefEqProofs [Z3i_L0,af,hlt,hi64,hj64,hij,hs0,hs1,hx,hy,hx0,hc,hw,w0,w1,w2,w3,w4,w5,w6,w7,w8',hp0,hvn]
theorem Mg {O:ah} {p:Int} [IsP p] {a b:Fp p} {z:List Int} (hal:a.len≤64) (hbl:b.len≤64) (hab:a.len+b.len≤65) (ha1:0<a.len) (hb1:0<b.len):∀(m i:Nat) (cur:List Int),i+m=a.len→cur.length=64→Can p cur→dl p cur=At a i*b→∃cur':List Int,cur'.length=64∧Can p cur'∧dl p cur'=a*b ∧
 dn O 0 (.loop Z3i_L1) ⟨[(0,(.d (.int .i64 p))),(4,.ptr 0 []),(5,.ptr 1 []),(6,.ptr 2 []),(8,(.d (.int .i64 (((a.len-1:Nat):Int))))),(9,(.d (.int .i64 (((b.len-1:Nat):Int))))),(10,.ptr 3 []),(11,(.d (.int .i64 i)))],[.box false (D.arr 64 .leaf (ak .u8 (pad (row a)))),.box false (D.arr 64 .leaf (ak .u8 (pad (row b)))),.box false (D.arr 64 .leaf (ak .u8 z)),.box false (D.arr 64 .leaf (ak .u8 cur))]⟩ =
  some (.exit 0,⟨[(0,(.d (.int .i64 p))),(4,.ptr 0 []),(5,.ptr 1 []),(6,.ptr 2 []),(8,(.d (.int .i64 (((a.len-1:Nat):Int))))),(9,(.d (.int .i64 (((b.len-1:Nat):Int))))),(10,.ptr 3 []),(11,(.d (.int .i64 a.len))),(32,(.d (.bool false)))],[.box false (D.arr 64 .leaf (ak .u8 (pad (row a)))),.box false (D.arr 64 .leaf (ak .u8 (pad (row b)))),.box false (D.arr 64 .leaf (ak .u8 z)),.box false (D.arr 64 .leaf (ak .u8 cur'))]⟩)
 | 0,i,cur,hi,hc,hcan,he=>by
  obtain rfl:i=a.len:=by omega
  rw [Ji] at he;have hlt:¬ (a.len:Int)≤((a.len-1:Nat):Int):=by omega
  refine ⟨cur,hc,hcan,he,bo ?_⟩;generalize ((b.len-1:Nat):Int)=m1 at *;generalize ((a.len-1:Nat):Int)=n1 at *;generalize pad (row a)=PA at *;generalize pad (row b)=PB at *;simp -implicitDefEqProofs [Z3i_L1,af,hlt]
 | m+1,i,cur,hi,hc,hcan,he=>by
  have hlt:(i:Int)≤((a.len-1:Nat):Int):=by omega
  have hi64:i<64:=by omega
  have w8':IntKind.i64.wrap ((i:Int)+1)=((i+1:Nat):Int):=(w64 (x:=(i:Int)+1) (by omega)).trans (by omega)
  have hx:(pad (row a))[i]? = some (rep (a.c i)):=by rw [o3 _ _ hi64,f7]
  by_cases hai:a.c i=0
  ·have hr:rep (a.c i)=0:=fw.2 hai
   have he':dl p cur=At a (i+1)*b:=by rw [zd,hai,Vl,Gq.add_zero]; exact he
   obtain ⟨cur',g1,g2,g3,g4⟩:=Mg (O:=O) (z:=z) hal hbl hab ha1 hb1 m (i+1) cur (by omega) hc hcan he'
   rw [hr] at hx
   have hin:dn O 0 (.loop Z3i_L0) ⟨[(0,(.d (.int .i64 p))),(4,.ptr 0 []),(5,.ptr 1 []),(6,.ptr 2 []),(8,(.d (.int .i64 (((a.len-1:Nat):Int))))),(9,(.d (.int .i64 (((b.len-1:Nat):Int))))),(10,.ptr 3 []),(11,(.d (.int .i64 i))),(12,(.d (.int .i64 0)))],[.box false (D.arr 64 .leaf (ak .u8 (pad (row a)))),.box false (D.arr 64 .leaf (ak .u8 (pad (row b)))),.box false (D.arr 64 .leaf (ak .u8 z)),.box false (D.arr 64 .leaf (ak .u8 cur))]⟩ =
    some (.exit 2,⟨[(0,(.d (.int .i64 p))),(4,.ptr 0 []),(5,.ptr 1 []),(6,.ptr 2 []),(8,(.d (.int .i64 (((a.len-1:Nat):Int))))),(9,(.d (.int .i64 (((b.len-1:Nat):Int))))),(10,.ptr 3 []),(11,(.d (.int .i64 i))),(12,(.d (.int .i64 0))),(43,(.d (.bool false)))],[.box false (D.arr 64 .leaf (ak .u8 (pad (row a)))),.box false (D.arr 64 .leaf (ak .u8 (pad (row b)))),.box false (D.arr 64 .leaf (ak .u8 z)),.box false (D.arr 64 .leaf (ak .u8 cur))]⟩):=by
    refine bo ?_;generalize b.len-1=m1 at *;generalize ((a.len-1:Nat):Int)=n1 at *;generalize pad (row a)=PA at *;generalize pad (row b)=PB at *;simp -implicitDefEqProofs [Z3i_L0,af,hi64,hx]
   refine ⟨cur',g1,g2,g3,bb ?_ g4⟩;generalize ((b.len-1:Nat):Int)=m1 at *;generalize ((a.len-1:Nat):Int)=n1 at *;generalize pad (row a)=PA at *;generalize pad (row b)=PB at *;simp -implicitDefEqProofs [Z3i_L1,af,hlt,hin,w8']
  ·obtain ⟨cur1,k1,k2,k3,k4⟩:=Sf (O:=O) (z:=z) (n:=0) (i:=i) (by omega) (by omega) hal hbl hab hb1 hai (P:=At a i*b) (vn:=(.d (.int .i64 (((a.len-1:Nat):Int))))) rfl b.len 0 cur (bf _) hc hcan (by rw [Ei,Gq.mul_zero,Gq.add_zero]; exact he)
   have e00:((0:Nat):Int)=0:=rfl;rw [e00] at k4
   have he':dl p cur1=At a (i+1)*b:=by
    rw [k3,zd];exact c6 [At a i,b,Pol.mo (a.c i) i] rfl
   obtain ⟨cur',g1,g2,g3,g4⟩:=Mg (O:=O) (z:=z) hal hbl hab ha1 hb1 m (i+1) cur1 (by omega) k1 k2 he'
   refine ⟨cur',g1,g2,g3,bb ?_ g4⟩;generalize ((b.len-1:Nat):Int)=m1 at *;generalize ((a.len-1:Nat):Int)=n1 at *;generalize pad (row a)=PA at *;generalize pad (row b)=PB at *;simp -implicitDefEqProofs [Z3i_L1,af,hlt,k4,w8']
def pc (O:ah):Prop:=∀(p:Int) [IsP p] (a b:Fp p),a.len≤64→b.len≤64→(a*b).len≤64 →
 ask O F3i [(D.int .i64 p),(D.arr 64 .leaf (ak .u8 (pad (row a)))),(D.arr 64 .leaf (ak .u8 (pad (row b))))]=some (.tup [(D.arr 64 .leaf (ak .u8 (pad (row (a*b))))),(D.bool true)])
theorem S7 (hT:T F3i=some Z3i) (hd:ja (den T A)):pc (den T A):=by
 intro p i a b hal hbl hab;have e1:=hd p a hal;have e2:=hd p b hbl;refine bc hT rfl ?_
 by_cases ha:a=0
 ·subst ha
  rw [Gq.zero_mul,dd];rw [Pol.len_zero,dd] at e1;generalize pad (row b)=PB at *;simp -implicitDefEqProofs [Z3i,Z3i_B,af,e1,e2,List.replicate]
 ·have ha1:=Pol.len_pos ha
  by_cases hb:b=0
  ·subst hb
   rw [Gq.mul_zero,dd];rw [Pol.len_zero,dd] at e2;have ha2:¬ ((a.len:Int)-1<0):=by omega
   generalize pad (row a)=PA at *;simp -implicitDefEqProofs [Z3i,Z3i_B,af,e1,e2,ha2,List.replicate]
  ·have hb1:=Pol.len_pos hb
   have hm:=Pol.len_mul ha hb;rw [show ((a.len:Int)-1)=((a.len-1:Nat):Int) by omega] at e1
   rw [show ((b.len:Int)-1)=((b.len-1:Nat):Int) by omega] at e2
   have w1:IntKind.i64.wrap (((a.len-1:Nat):Int)+((b.len-1:Nat):Int))=((a.len-1+(b.len-1):Nat):Int):=(w64 (by omega)).trans (by omega)
   have w2:¬ ((63:Int)<((a.len-1+(b.len-1):Nat):Int)):=by omega
   obtain ⟨cur',g1,g2,g3,g4⟩:=Mg (O:=den T A) (z:=pad []) hal hbl (by omega) ha1 hb1 a.len 0 (pad []) (bf _) (bq _) (by
    have:=tf (0:Fp p); rwa [dd] at this) (by
    rw [Ei,Gq.zero_mul];have:=jj (p:=p) (a:=0) (by rw [Pol.len_zero]; omega)
    rwa [dd] at this)
   have e00:((0:Nat):Int)=0:=rfl;rw [e00] at g4;have hcur:cur'=pad (row (a*b)):=by rw [Cf g2 g1,g3]
   rw [hcur] at g4;have n1:¬ (((a.len-1:Nat):Int)<0):=by omega
   have n2:¬ (((b.len-1:Nat):Int)<0):=by omega
   generalize ((a.len-1+(b.len-1):Nat):Int)=s1 at *;generalize ((b.len-1:Nat):Int)=m1 at *;generalize ((a.len-1:Nat):Int)=k1 at *;generalize pad (row (a*b))=PR at *;generalize pad (row a)=PA at *;generalize pad (row b)=PB at *;simp -implicitDefEqProofs [Z3i,Z3i_B,af,e1,e2,w1,w2,n1,n2,g4,List.replicate]
structure BzS {p:Int} [IsP p] (A B a b u x v y:Fp p):Prop where
 i:Pol.BzI A B a b u x v y
 la:a.len≤64
 lb:b.len≤64
 lu:u.len≤64
 lv:v.len≤64
 ne:a≠0
theorem BzS.step {p:Int} [IsP p] {A B a b u x v y:Fp p} (h:BzS A B a b u x v y) (hA:A.len≤64) (hB:B.len≤64) (hb:b≠0) :
 BzS A B b (a%b) x (u-a/b*x) y (v-a/b*y)∧x.len≤64∧y.len≤64∧(a/b).len≤64∧(a/b*x).len≤64∧(a/b*y).len≤64∧(a%b).len≤64:=by
 have h1:=h.i.lx;have h2:=h.i.ly;have h3:=Pol.len_pos h.ne;have h4:=Pol.len_pos hb;have h5:=Pol.len_div_le a hb;have h6:=Pol.len_mod_le a hb;obtain ⟨h7,h8⟩:=h.i.qlen hb;have h9:=h.la;have hx:x.len≤64:=by omega
 have hy:y.len≤64:=by omega
 exact ⟨⟨h.i.step hb,h.lb,by omega,hx,hy,hb⟩,hx,hy,by omega,by omega,by omega,by omega⟩
theorem Sg {O:ah} (hdg:ja O) (hd:jg O) (ht:pc O) (ha:rk O) {p:Int} [IsP p] {z:List Int} {a b u x v y:Fp p} (h0:b≠0) (ha':a.len≤64) (hb:b.len≤64) (hu:u.len≤64) (hv:v.len≤64) (s1:x.len≤64) (s2:y.len≤64) (s3:(a/b).len≤64) (s4:(a/b*x).len≤64) (s5:(a/b*y).len≤64) :
 dn O 0 Z2t_L0 ⟨[(0,(.d (.int .i64 p))),(4,.ptr 0 []),(5,.ptr 1 []),(6,.ptr 2 []),(7,.ptr 3 []),(8,.ptr 4 []),(9,.ptr 5 []),(10,.ptr 6 []),(11,.ptr 7 []),(12,.ptr 8 [])],[.box false (D.arr 64 .leaf (ak .u8 (pad (row a)))),.box false (D.arr 64 .leaf (ak .u8 (pad (row b)))),.box false (D.arr 64 .leaf (ak .u8 z)),.box false (D.arr 64 .leaf (ak .u8 z)),.box false (D.arr 64 .leaf (ak .u8 z)),.box false (D.arr 64 .leaf (ak .u8 (pad (row u)))),.box false (D.arr 64 .leaf (ak .u8 (pad (row x)))),.box false (D.arr 64 .leaf (ak .u8 (pad (row v)))),.box false (D.arr 64 .leaf (ak .u8 (pad (row y)))),.hole,.hole,.hole,.hole,.hole,.hole]⟩ =
  some (.normal,⟨[(0,(.d (.int .i64 p))),(4,.ptr 0 []),(5,.ptr 1 []),(6,.ptr 2 []),(7,.ptr 3 []),(8,.ptr 4 []),(9,.ptr 5 []),(10,.ptr 6 []),(11,.ptr 7 []),(12,.ptr 8 [])],[.box false (D.arr 64 .leaf (ak .u8 (pad (row b)))),.box false (D.arr 64 .leaf (ak .u8 (pad (row (a%b))))),.box false (D.arr 64 .leaf (ak .u8 z)),.box false (D.arr 64 .leaf (ak .u8 z)),.box false (D.arr 64 .leaf (ak .u8 z)),.box false (D.arr 64 .leaf (ak .u8 (pad (row x)))),.box false (D.arr 64 .leaf (ak .u8 (pad (row (u-a/b*x))))),.box false (D.arr 64 .leaf (ak .u8 (pad (row y)))),.box false (D.arr 64 .leaf (ak .u8 (pad (row (v-a/b*y))))),.hole,.hole,.hole,.hole,.hole,.hole]⟩):=by
 have hp:=Pol.len_pos h0;have e0:=hdg p b hb;have e1:=hd p a b h0 ha' hb;have e2:=ht p (a/b) x s3 s1 s4;have e3:=ha p (-1) u (a/b*x) (by omega) (by omega) hu s4
 have e4:=ht p (a/b) y s3 s2 s5;have e5:=ha p (-1) v (a/b*y) (by omega) (by omega) hv s5
 rw [Bt] at e3 e5;have hge:¬ ((b.len:Int)-1<0):=by omega
 have hge2:(0:Int)≤(b.len:Int)-1:=by omega
 have hge3:(1:Int)≤(b.len:Int):=by omega
 generalize pad (row (u-a/b*x))=Pux at *;generalize pad (row (v-a/b*y))=Pvy at *;generalize pad (row (a/b*x))=Pqx at *;generalize pad (row (a/b*y))=Pqy at *;generalize pad (row (a/b))=Pq at *;generalize pad (row (a%b))=Pr at *;generalize pad (row a)=Pa at *;generalize pad (row b)=Pb at *;generalize pad (row u)=Pu at *;generalize pad (row x)=Px at *;generalize pad (row v)=Pv at *;generalize pad (row y)=Py at *;simp -implicitDefEqProofs [Z2t_L0,af,hge3,e0,e1,e2,e3,e4,e5]
theorem Tu {O:ah} (hdg:ja O) (hd:jg O) (ht:pc O) (ha:rk O) {p:Int} [IsP p] {A B:Fp p} {z:List Int} (hA:A.len≤64) (hB:B.len≤64):∀(n:Nat) (a b u x v y:Fp p),b.len≤n→BzS A B a b u x v y→∃x' y':List Int,(Pol.bz n a b u x v y).1≠0∧(Pol.bz n a b u x v y).1.len≤64∧(Pol.bz n a b u x v y).2.1.len≤64∧(Pol.bz n a b u x v y).2.2.len≤64 ∧
 dn O 0 (.loop Z2t_L0) ⟨[(0,(.d (.int .i64 p))),(4,.ptr 0 []),(5,.ptr 1 []),(6,.ptr 2 []),(7,.ptr 3 []),(8,.ptr 4 []),(9,.ptr 5 []),(10,.ptr 6 []),(11,.ptr 7 []),(12,.ptr 8 [])],[.box false (D.arr 64 .leaf (ak .u8 (pad (row a)))),.box false (D.arr 64 .leaf (ak .u8 (pad (row b)))),.box false (D.arr 64 .leaf (ak .u8 z)),.box false (D.arr 64 .leaf (ak .u8 z)),.box false (D.arr 64 .leaf (ak .u8 z)),.box false (D.arr 64 .leaf (ak .u8 (pad (row u)))),.box false (D.arr 64 .leaf (ak .u8 (pad (row x)))),.box false (D.arr 64 .leaf (ak .u8 (pad (row v)))),.box false (D.arr 64 .leaf (ak .u8 (pad (row y)))),.hole,.hole,.hole,.hole,.hole,.hole]⟩ =
  some (.exit 0,⟨[(0,(.d (.int .i64 p))),(4,.ptr 0 []),(5,.ptr 1 []),(6,.ptr 2 []),(7,.ptr 3 []),(8,.ptr 4 []),(9,.ptr 5 []),(10,.ptr 6 []),(11,.ptr 7 []),(12,.ptr 8 []),(28,(.d (.bool false)))],[.box false (D.arr 64 .leaf (ak .u8 (pad (row (Pol.bz n a b u x v y).1)))),.box false (D.arr 64 .leaf (ak .u8 (pad []))),.box false (D.arr 64 .leaf (ak .u8 z)),.box false (D.arr 64 .leaf (ak .u8 z)),.box false (D.arr 64 .leaf (ak .u8 z)),.box false (D.arr 64 .leaf (ak .u8 (pad (row (Pol.bz n a b u x v y).2.1)))),.box false (D.arr 64 .leaf (ak .u8 x')),.box false (D.arr 64 .leaf (ak .u8 (pad (row (Pol.bz n a b u x v y).2.2)))),.box false (D.arr 64 .leaf (ak .u8 y')),.hole,.hole,.hole,.hole,.hole,.hole]⟩):=by
 intro n
 have stop:∀(a u x v y:Fp p),dn O 0 (.loop Z2t_L0) ⟨[(0,(.d (.int .i64 p))),(4,.ptr 0 []),(5,.ptr 1 []),(6,.ptr 2 []),(7,.ptr 3 []),(8,.ptr 4 []),(9,.ptr 5 []),(10,.ptr 6 []),(11,.ptr 7 []),(12,.ptr 8 [])],[.box false (D.arr 64 .leaf (ak .u8 (pad (row a)))),.box false (D.arr 64 .leaf (ak .u8 (pad (row (0:Fp p))))),.box false (D.arr 64 .leaf (ak .u8 z)),.box false (D.arr 64 .leaf (ak .u8 z)),.box false (D.arr 64 .leaf (ak .u8 z)),.box false (D.arr 64 .leaf (ak .u8 (pad (row u)))),.box false (D.arr 64 .leaf (ak .u8 (pad (row x)))),.box false (D.arr 64 .leaf (ak .u8 (pad (row v)))),.box false (D.arr 64 .leaf (ak .u8 (pad (row y)))),.hole,.hole,.hole,.hole,.hole,.hole]⟩ =
  some (.exit 0,⟨[(0,(.d (.int .i64 p))),(4,.ptr 0 []),(5,.ptr 1 []),(6,.ptr 2 []),(7,.ptr 3 []),(8,.ptr 4 []),(9,.ptr 5 []),(10,.ptr 6 []),(11,.ptr 7 []),(12,.ptr 8 []),(28,(.d (.bool false)))],[.box false (D.arr 64 .leaf (ak .u8 (pad (row a)))),.box false (D.arr 64 .leaf (ak .u8 (pad []))),.box false (D.arr 64 .leaf (ak .u8 z)),.box false (D.arr 64 .leaf (ak .u8 z)),.box false (D.arr 64 .leaf (ak .u8 z)),.box false (D.arr 64 .leaf (ak .u8 (pad (row u)))),.box false (D.arr 64 .leaf (ak .u8 (pad (row x)))),.box false (D.arr 64 .leaf (ak .u8 (pad (row v)))),.box false (D.arr 64 .leaf (ak .u8 (pad (row y)))),.hole,.hole,.hole,.hole,.hole,.hole]⟩):=by
  intro a u x v y;have e:=hdg p 0 (by rw [Pol.len_zero]; omega)
  rw [dd,Pol.len_zero] at e;rw [dd];refine bo ?_;generalize pad (row a)=Pa;generalize pad (row u)=Pu;generalize pad (row x)=Px;generalize pad (row v)=Pv;generalize pad (row y)=Py;simp -implicitDefEqProofs [Z2t_L0,af,e]
 induction n with
 | zero=>
  intro a b u x v y hn hs;obtain rfl:=Pol.len_zero_iff.1 (show b.len=0 by omega)
  exact ⟨_,_,hs.ne,hs.la,hs.lu,hs.lv,stop a u x v y⟩
 | succ n ih=>
  intro a b u x v y hn hs;unfold Pol.bz
  by_cases h0:b=0
  ·subst h0
   rw [if_pos rfl];exact ⟨_,_,hs.ne,hs.la,hs.lu,hs.lv,stop a u x v y⟩
  ·rw [if_neg h0]
   obtain ⟨s0,s1,s2,s3,s4,s5,s6⟩:=hs.step hA hB h0;have hl:=Pol.len_mod a h0;have hp:=Pol.len_pos h0;obtain ⟨x',y',g1,g2,g3,g4,e⟩:=ih b (a%b) x (u-a/b*x) y (v-a/b*y) (by omega) s0
   exact ⟨x',y',g1,g2,g3,g4,bb (Sg hdg hd ht ha h0 hs.la hs.lb hs.lu hs.lv s1 s2 s3 s4 s5) e⟩
theorem Wb {O:ah} (hdg:ja O) (hd:jg O) (ht:pc O) (ha:rk O) {p:Int} [IsP p] {a b:Fp p} {z:List Int} (h:a≠0∨b≠0) (hal:a.len≤64) (hbl:b.len≤64):∃x' y':List Int,(Pol.bz b.len a b 1 0 0 1).1≠0∧(Pol.bz b.len a b 1 0 0 1).1.len≤64∧(Pol.bz b.len a b 1 0 0 1).2.1.len≤64∧(Pol.bz b.len a b 1 0 0 1).2.2.len≤64 ∧
 dn O 0 (.loop Z2t_L0) ⟨[(0,(.d (.int .i64 p))),(4,.ptr 0 []),(5,.ptr 1 []),(6,.ptr 2 []),(7,.ptr 3 []),(8,.ptr 4 []),(9,.ptr 5 []),(10,.ptr 6 []),(11,.ptr 7 []),(12,.ptr 8 [])],[.box false (D.arr 64 .leaf (ak .u8 (pad (row a)))),.box false (D.arr 64 .leaf (ak .u8 (pad (row b)))),.box false (D.arr 64 .leaf (ak .u8 z)),.box false (D.arr 64 .leaf (ak .u8 z)),.box false (D.arr 64 .leaf (ak .u8 z)),.box false (D.arr 64 .leaf (ak .u8 (pad (row (1:Fp p))))),.box false (D.arr 64 .leaf (ak .u8 (pad (row (0:Fp p))))),.box false (D.arr 64 .leaf (ak .u8 (pad (row (0:Fp p))))),.box false (D.arr 64 .leaf (ak .u8 (pad (row (1:Fp p))))),.hole,.hole,.hole,.hole,.hole,.hole]⟩ =
  some (.exit 0,⟨[(0,(.d (.int .i64 p))),(4,.ptr 0 []),(5,.ptr 1 []),(6,.ptr 2 []),(7,.ptr 3 []),(8,.ptr 4 []),(9,.ptr 5 []),(10,.ptr 6 []),(11,.ptr 7 []),(12,.ptr 8 []),(28,(.d (.bool false)))],[.box false (D.arr 64 .leaf (ak .u8 (pad (row (Pol.bz b.len a b 1 0 0 1).1)))),.box false (D.arr 64 .leaf (ak .u8 (pad []))),.box false (D.arr 64 .leaf (ak .u8 z)),.box false (D.arr 64 .leaf (ak .u8 z)),.box false (D.arr 64 .leaf (ak .u8 z)),.box false (D.arr 64 .leaf (ak .u8 (pad (row (Pol.bz b.len a b 1 0 0 1).2.1)))),.box false (D.arr 64 .leaf (ak .u8 x')),.box false (D.arr 64 .leaf (ak .u8 (pad (row (Pol.bz b.len a b 1 0 0 1).2.2)))),.box false (D.arr 64 .leaf (ak .u8 y')),.hole,.hole,.hole,.hole,.hole,.hole]⟩):=by
 by_cases h0:a=0
 ·subst h0
  have hb:=h.resolve_left (fun h=>h rfl)
  have hp:=Pol.len_pos hb;obtain ⟨k,hk⟩:∃k,b.len=k+1:=⟨b.len-1,by omega⟩
  have h1:(1:Fp p).len=1:=Pol.len_one;have hz:(0:Fp p).len=0:=Pol.len_zero;have hq:(0:Fp p)/b=0:=(Pol.div_mod_eq (a:=(0:Fp p)) (b:=b) (q:=0) (r:=0) (by rw [Gq.zero_mul,Gq.zero_add]) (by omega)).1
  have hs0:∀c:Fp p,c-0=c:=fun c=>by rw [Gq.sub_eq,Gq.neg_zero,Gq.add_zero]
  have hr:(0:Fp p)%b=0:=Pol.zero_mod hb;have e:=Sg (z:=z) hdg hd ht ha (a:=0) (b:=b) (u:=1) (x:=0) (v:=0) (y:=1) hb (by omega) hbl (by omega) (by omega) (by omega) (by omega) (by rw [hq]; omega) (by rw [hq,Gq.zero_mul]; omega) (by rw [hq,Gq.zero_mul]; omega)
  rw [hk];unfold Pol.bz;rw [if_neg hb];rw [hq,hr,Gq.zero_mul,Gq.zero_mul,hs0,hs0] at e ⊢;have hi:Pol.BzI (0:Fp p) b b 0 0 1 1 0:=⟨by rw [Gq.zero_mul,Gq.zero_add,Gq.one_mul],by rw [Gq.mul_zero,Gq.zero_mul,Gq.add_zero],.inr (by omega),.inl hz,.inl hz,.inr (by omega),.inl hb⟩
  obtain ⟨x',y',g1,g2,g3,g4,e2⟩:=Tu (O:=O) (z:=z) hdg hd ht ha (A:=0) (B:=b) (by omega) hbl k b 0 0 1 1 0 (by omega) ⟨hi,hbl,by omega,by omega,by omega,hb⟩
  exact ⟨x',y',g1,g2,g3,g4,bb e e2⟩
 ·exact Tu (O:=O) (z:=z) hdg hd ht ha hal hbl b.len a b 1 0 0 1 (az _) ⟨Pol.BzI.init (.inl h0),hal,hbl,by rw [Pol.len_one]; omega,by rw [Pol.len_zero]; omega,h0⟩
def zw (O:ah):Prop:=∀(p:Int) [IsP p] (a b:Fp p),a≠0∨b≠0→a.len≤64→b.len≤64 →
 ask O F2t [(D.int .i64 p),(D.arr 64 .leaf (ak .u8 (pad (row a)))),(D.arr 64 .leaf (ak .u8 (pad (row b))))]=some (.tup [(D.arr 64 .leaf (ak .u8 (pad (row (Pol.bezout a b).1)))),(D.arr 64 .leaf (ak .u8 (pad (row (Pol.bezout a b).2.1)))),(D.arr 64 .leaf (ak .u8 (pad (row (Pol.bezout a b).2.2))))])
theorem Rb (hT:T F2t=some Z2t) (h1:H1 (den T A)) (hdg:ja (den T A)) (hd:jg (den T A)) (ht:pc (den T A)) (ha:rk (den T A)) (hinv:ou (den T A)):zw (den T A):=by
 intro p i a b h0 hal hbl;have hp:=IsP.ge (p:=p);have hp7:=IsP.le (p:=p);have e1:=h1 p;obtain ⟨x',y',g1,g2,g3,g4,e2⟩:=Wb (O:=den T A) (z:=pad []) hdg hd ht ha h0 hal hbl;unfold Pol.bezout;have heu:Pol.eu a b=Pol.bz b.len a b 1 0 0 1:=rfl;rw [heu];generalize Pol.bz b.len a b 1 0 0 1=R at *;obtain ⟨d,u,v⟩:=R;simp only at g1 g2 g3 g4 e2 ⊢;rw [dd] at e2;have hd1:=Pol.len_pos g1;have e3:=hdg p d g2;rw [show ((d.len:Int)-1)=((d.len-1:Nat):Int) by omega] at e3
 have hi64:d.len-1<64:=by omega
 have hx:(pad (row d))[d.len-1]? = some (rep d.ld):=by rw [o3 _ _ hi64,f7]; rfl
 have hr:=kg d.ld;have hr0:rep d.ld≠0:=fun h=>Pol.ld_ne g1 (fw.1 h)
 have hin:=v6 p (rep d.ld);have e4:=hinv p (rep d.ld) (by omega) hr.2
 have w1:IntKind.i64.wrap (inv p (rep d.ld))=inv p (rep d.ld):=w64 (by omega)
 have z0:(0:Fp p).len≤64:=by rw [Pol.len_zero]; omega
 have e5:=ha p (inv p (rep d.ld)) 0 d (by omega) (by omega) z0 g2
 have e6:=ha p (inv p (rep d.ld)) 0 u (by omega) (by omega) z0 g3
 have e7:=ha p (inv p (rep d.ld)) 0 v (by omega) (by omega) z0 g4
 rw [se _ (Pol.ld_ne g1),Gq.zero_add,dd] at e5 e6 e7;refine bc hT rfl ?_;generalize pad (row (Pol.C (Fd.inv d.ld)*d))=P1 at *;generalize pad (row (Pol.C (Fd.inv d.ld)*u))=P2 at *;generalize pad (row (Pol.C (Fd.inv d.ld)*v))=P3 at *;generalize pad (row d)=Pd at *;generalize pad (row u)=Pu at *;generalize pad (row v)=Pv at *;generalize pad (row a)=Pa at *;generalize pad (row b)=Pb at *;generalize pad (row (1:Fp p))=P0 at *;generalize d.len-1=n1 at *;simp -implicitDefEqProofs [Z2t,Z2t_B,e1,e2,e3,e4,e5,e6,e7,hi64,hx,w1,List.replicate]
def Ge (O:ah):Prop:=∀(p:Int) [IsP p] (a b:Fp p),a≠0→a.len≤64→b.len≤64 →
 ask O F32 [(D.int .i64 p),(D.arr 64 .leaf (ak .u8 (pad (row a)))),(D.arr 64 .leaf (ak .u8 (pad (row b))))]=some (D.arr 64 .leaf (ak .u8 (pad (row (Pol.gcd a b)))))
theorem Y1 (hT:T F32=some Z32) (hdg:ja (den T A)) (hb:zw (den T A)):Ge (den T A):=by
 intro p i a b h0 hal hbl;have e1:=hdg p a hal;have e2:=hb p a b (.inl h0) hal hbl;have hp:=Pol.len_pos h0;have hge:¬ ((a.len:Int)-1<0):=by omega
 refine bc hT rfl ?_;unfold Pol.gcd;generalize pad (row (Pol.bezout a b).1)=P1 at *;generalize pad (row (Pol.bezout a b).2.1)=P2 at *;generalize pad (row (Pol.bezout a b).2.2)=P3 at *;generalize pad (row a)=Pa at *;generalize pad (row b)=Pb at *;generalize (a.len:Int)-1=n1 at *;simp -implicitDefEqProofs [Z32,Z32_B,af,e1,e2,hge,List.replicate]
def T4 (O:ah):Prop:=∀(p:Int) [IsP p],ask O F3h []=some (D.arr 64 .leaf (ak .u8 (pad (row (Pol.X:Fp p)))))
theorem a7l (hT:T F3h=some Z3h):T4 (den T A):=by
 intro p i;have e:((pad []).set 0 0).set 1 1=pad [0,1]:=by decide +kernel
 have h0:(pad [])[0]? = some 0:=by decide +kernel
 have h1:(pad [])[1]? = some 0:=by decide +kernel
 rw [Xq];refine bc hT rfl ?_;simp -implicitDefEqProofs [Z3h,Z3h_B,e,h0,h1]
open Classical in
theorem Sw {O:ah} (hdg:ja O) (hpw:wj O) (hg:Ge O) (ha:rk O) (ht:T4 O) {p:Int} [IsP p] {m:Fp p} (hm:m≠0) (hml:m.len≤13) {n:Nat} (hn:n+1=m.len):∀(f k:Nat),1≤k→k+f=n/2+1→∃P':List Int,
 dn O 0 (.loop Z35_L0) ⟨[(0,(.d (.int .i64 p))),(3,.ptr 0 []),(5,(.d (.int .i64 n))),(6,.ptr 1 []),(7,(.d (.int .i64 k)))],[.box false (D.arr 64 .leaf (ak .u8 (pad (row m)))),.box false (D.arr 64 .leaf (ak .u8 (pad (row (pw Pol.X (p.toNat^(k-1))%m)))))]⟩ =
  if ∀k',k≤k'→2*k'≤n→(Pol.gcd m (frW m k')).len=1 then some (.exit 0,⟨[(0,(.d (.int .i64 p))),(3,.ptr 0 []),(5,(.d (.int .i64 n))),(6,.ptr 1 []),(7,(.d (.int .i64 (((n/2+1:Nat):Int))))),(19,(.d (.bool false)))],[.box false (D.arr 64 .leaf (ak .u8 (pad (row m)))),.box false (D.arr 64 .leaf (ak .u8 P'))]⟩)
  else some (.ret,⟨[(4,(.d (.bool false)))],[.hole,.hole]⟩)
 | 0,k,hk,hf=>by
  obtain rfl:k=n/2+1:=by omega
  refine ⟨pad (row (pw Pol.X (p.toNat^(n/2+1-1))%m)),?_⟩;rw [if_pos (fun k' h1 h2=>by omega)]
  have w1:IntKind.i64.wrap (2*((n/2+1:Nat):Int))=2*((n/2+1:Nat):Int):=w64 (by omega)
  have hlt:¬ (2*((n/2+1:Nat):Int)≤n):=by omega
  refine bo ?_;generalize ((n/2+1:Nat):Int)=k1 at *;generalize pad (row (pw Pol.X (p.toNat^(n/2+1-1))%m))=P1 at *;generalize pad (row m)=Pm at *;simp -implicitDefEqProofs [Z35_L0,af,w1,hlt]
 | f+1,k,hk,hf=>by
  have hp:=IsP.pos (p:=p);have hp7:=IsP.le (p:=p);have w1:IntKind.i64.wrap (2*(k:Int))=2*(k:Int):=w64 (by omega)
  have hlt:2*(k:Int)≤n:=by omega
  have w4:IntKind.i64.wrap ((k:Int)+1)=((k+1:Nat):Int):=(w64 (x:=(k:Int)+1) (by omega)).trans (by omega)
  have hl1:=Pol.len_mod (pw Pol.X (p.toNat^(k-1))) hm;have hl2:=Pol.len_mod (pw Pol.X (p.toNat^k)) hm;have e1:=hpw p (pw Pol.X (p.toNat^(k-1))%m) p m hm (by omega) (by omega) (by omega) (by omega)
  have e2:pw (pw Pol.X (p.toNat^(k-1))%m) p.toNat%m=pw Pol.X (p.toNat^k)%m:=by
   rw [Pol.pow_mod _ hm,tu,←o5,show (k-1).succ=k by omega]
  rw [e2] at e1;have e3:=ht p;have hX:(Pol.X:Fp p).len≤64:=by rw [Pol.len_X]; omega
  have e4:=ha p (-1) (pw Pol.X (p.toNat^k)%m) Pol.X (by omega) (by omega) (by omega) hX
  rw [Bt] at e4;have e4':pw Pol.X (p.toNat^k)%m-Pol.X=frW m k:=rfl;rw [e4'] at e4;have hl3:(frW m k).len≤64:=Pol.len_sub_le (by omega) hX
  have e5:=hg p m (frW m k) hm (by omega) hl3
  have hgm:=Pol.gcd_monic (a:=m) (b:=frW m k) (.inl hm);have hgl:=(Pol.gcd_dv_left (a:=m) (b:=frW m k) (.inl hm)).len hm;have e6:=hdg p (Pol.gcd m (frW m k)) (by omega)
  have hg1:=Pol.len_pos hgm.2
  by_cases hc:(Pol.gcd m (frW m k)).len=1
  ·obtain ⟨P',ih⟩:=Sw hdg hpw hg ha ht hm hml hn f (k+1) (by omega) (by omega)
   rw [show k+1-1=k by omega] at ih
   refine ⟨P',?_⟩
   have hiff:(∀k',k≤k'→2*k'≤n→(Pol.gcd m (frW m k')).len=1)↔∀k',k+1≤k'→2*k'≤n→(Pol.gcd m (frW m k')).len=1:=by
    constructor
    ·intro h k' h1 h2; exact h k' (by omega) h2
    ·intro h k' h1 h2
     by_cases hkk:k'=k
     ·rw [hkk]; exact hc
     ·exact h k' (by omega) h2
   rw [propext hiff];refine bb ?_ ih;rw [hc] at e6;have e7:((1:Nat):Int)-1=0:=rfl;rw [e7] at e6;generalize pad (row (Pol.gcd m (frW m k)))=Pg at *;generalize pad (row (frW m k))=Pw at *;generalize pad (row (pw Pol.X (p.toNat^k)%m))=P2 at *;generalize pad (row (pw Pol.X (p.toNat^(k-1))%m))=P1 at *;generalize pad (row (Pol.X:Fp p))=PX at *;generalize pad (row m)=Pm at *;simp -implicitDefEqProofs [Z35_L0,af,w1,hlt,e1,e3,e4,e5,e6,w4]
  ·refine ⟨pad [],?_⟩
   rw [if_neg (fun h=>hc (h k (az k) (by omega)))]
   have hne:¬ (((Pol.gcd m (frW m k)).len:Int)-1=0):=by omega
   refine ki ?_;generalize ((Pol.gcd m (frW m k)).len:Int)-1=g1 at *;generalize pad (row (Pol.gcd m (frW m k)))=Pg at *;generalize pad (row (frW m k))=Pw at *;generalize pad (row (pw Pol.X (p.toNat^k)%m))=P2 at *;generalize pad (row (pw Pol.X (p.toNat^(k-1))%m))=P1 at *;generalize pad (row (Pol.X:Fp p))=PX at *;generalize pad (row m)=Pm at *;simp -implicitDefEqProofs [Z35_L0,af,w1,hlt,e1,e3,e4,e5,e6,hne]
open Classical in
def xg (O:ah):Prop:=∀(p:Int) [IsP p] (m:Fp p),m≠0→m.len≤13→ask O F35 [(D.int .i64 p),(D.arr 64 .leaf (ak .u8 (pad (row m))))]=some (D.bool (decide (Irr m)))
open Classical in
theorem Y8 (hT:T F35=some Z35) (hdg:ja (den T A)) (hmo:zf (den T A)) (hpw:wj (den T A)) (hg:Ge (den T A)) (ha:rk (den T A)) (ht:T4 (den T A)):xg (den T A):=by
 intro p i m hm hml;have e1:=hdg p m (by omega)
 have e2:=ht p;have e3:=hmo p Pol.X m hm (by rw [Pol.len_X]; omega) (by omega)
 have h1:=Pol.len_pos hm;refine bc hT rfl ?_
 by_cases h2:2≤m.len
 ·obtain ⟨P',e4⟩:=Sw (O:=den T A) hdg hpw hg ha ht hm hml (n:=m.len-1) (by omega) ((m.len-1)/2) 1 (az 1) (by omega)
  have e5:pw (Pol.X:Fp p) (p.toNat^(1-1))=Pol.X:=by rw [tn,qb,tw]
  rw [e5,U8 h2 hml] at e4;rw [show ((m.len:Int)-1)=((m.len-1:Nat):Int) by omega] at e1
  have hlt:¬ (((m.len-1:Nat):Int)<1):=by omega
  have e01:((1:Nat):Int)=1:=rfl;rw [e01] at e4
  by_cases hi:Irr m
  ·rw [if_pos hi] at e4
   rw [decide_eq_true hi];generalize (((m.len-1)/2+1:Nat):Int)=k1 at *;generalize ((m.len-1:Nat):Int)=n1 at *;generalize pad (row (Pol.X%m))=P1 at *;generalize pad (row (Pol.X:Fp p))=PX at *;generalize pad (row m)=Pm at *;simp -implicitDefEqProofs [Z35,Z35_B,af,e1,e2,e3,e4,hlt,List.replicate]
  ·rw [if_neg hi] at e4
   rw [decide_eq_false hi];generalize ((m.len-1:Nat):Int)=n1 at *;generalize pad (row (Pol.X%m))=P1 at *;generalize pad (row (Pol.X:Fp p))=PX at *;generalize pad (row m)=Pm at *;simp -implicitDefEqProofs [Z35,Z35_B,af,e1,e2,e3,e4,hlt,List.replicate]
 ·have hl:m.len=1:=by omega
  rw [hl] at e1;have e7:((1:Nat):Int)-1=0:=rfl;rw [e7] at e1;rw [decide_eq_false (fun h:Irr m=>h2 h.len)]
  generalize pad (row (Pol.X%m))=P1 at *;generalize pad (row (Pol.X:Fp p))=PX at *;generalize pad (row m)=Pm at *;simp -implicitDefEqProofs [Z35,Z35_B,af,e1,e2,e3,List.replicate]
end Pe

namespace Pe
open Go Gq
variable {T:Nat→Option Fn} {A:ah}
def Dl:List Int→Nat→List Int→List Int
 | [],_,cur=>cur
 | d::ds,i,cur=>Dl ds (i+1) (cur.set i d)
theorem Ae:∀(ds:List Int) (i:Nat) (cur:List Int),(Dl ds i cur).length=cur.length
 | [],_,_=>rfl
 | d::ds,i,cur=>by rw [Dl,Ae,cg]
theorem Od:∀(ds:List Int) (i:Nat) (cur:List Int) (j:Nat),i+ds.length≤cur.length→cf (Dl ds i cur) j=if i≤j∧j<i+ds.length then cf ds (j-i) else cf cur j
 | [],i,cur,j,_=>by rw [Dl,if_neg (by rintro ⟨h1,h2⟩; rw [mn] at h2; omega)]
 | d::ds,i,cur,j,h=>by
  simp at h;rw [Dl,Od ds (i+1) _ j (by rw [cg]; omega),po,cl]
  by_cases h1:j=i
  ·subst h1
   rw [if_neg (by omega),if_pos ⟨rfl,by omega⟩,if_pos (by omega),tn]; rfl
  ·by_cases h2:i+1≤j∧j<i+1+ds.length
   ·rw [if_pos h2,if_pos (by omega)]
    obtain ⟨k,hk⟩:∃k,j-i=k+1:=⟨j-i-1,by omega⟩
    rw [hk,show j-(i+1)=k by omega]
    simp [cf]
   ·rw [if_neg h2,if_neg (by omega),if_neg (by omega)]
theorem Rp {ds:List Int} (h:ds.length≤64):Dl ds 0 (pad [])=pad ds:=by
 symm
 apply Gn (by rw [Ae,bq])
 intro i hi;rw [Od _ _ _ _ (by rw [bq]; omega)]
 by_cases h1:i<ds.length
 ·rw [if_pos (by omega),Nat.sub_zero]
 ·rw [if_neg (by omega),uk (by simp),ko (by omega),ko (by simp)]
theorem Xv {O:ah} {p:Int} [IsP p] {z:List Int}:∀(f:Nat) (n:Int) (i:Nat) (cur:List Int),0≤n→n<2^f→n<9223372036854775807→i+f≤64→cur.length=64→∃i':Nat,
 dn O 0 (.loop Z3c_L0) ⟨[(0,(.d (.int .i64 p))),(1,(.d (.int .i64 n))),(4,.ptr 0 []),(5,.ptr 1 []),(6,(.d (.int .i64 i)))],[.box false (D.arr 64 .leaf (ak .u8 z)),.box false (D.arr 64 .leaf (ak .u8 cur))]⟩ =
  some (.exit 0,⟨[(0,(.d (.int .i64 p))),(1,(.d (.int .i64 0))),(4,.ptr 0 []),(5,.ptr 1 []),(6,(.d (.int .i64 i'))),(9,(.d (.bool false)))],[.box false (D.arr 64 .leaf (ak .u8 z)),.box false (D.arr 64 .leaf (ak .u8 (Dl (dgs p f n) i cur)))]⟩)
 | 0,n,i,cur,h0,hn,hm,hi,hc=>by
  obtain rfl:n=0:=by simp at hn; omega
  exact ⟨i,bo (by simp -implicitDefEqProofs [Z3c_L0,af,dgs,Dl])⟩
 | f+1,n,i,cur,h0,hn,hm,hi,hc=>by
  have hp:=IsP.ge (p:=p);have hp7:=IsP.le (p:=p)
  by_cases hz:n=0
  ·subst hz
   refine ⟨i,?_⟩;rw [dgs,if_pos (lf 0),Dl];exact bo (by simp -implicitDefEqProofs [Z3c_L0,af])
  ·have hd:n/p<2^f:=by
    apply fd (by omega)
    have:(2:Int)^(f+1)=2^f*2:=cu _ _;have h2:(2:Int)^f*2≤2^f*p:=bm hp (lc (by omega))
    omega
   have hdn:0≤n/p:=il (by omega) (by omega)
   have hdl:n/p≤n:=Int.ediv_le_self _ h0;obtain ⟨i',e⟩:=Xv (O:=O) (p:=p) (z:=z) f (n/p) (i+1) (cur.set i (n%p)) hdn hd (by omega) (by omega) (by simpa using hc)
   have hpos:0<n:=by omega
   have hr:0≤n%p∧n%p<p:=⟨co _ (by omega),cd _ (by omega)⟩
   have w1:IntKind.i64.wrap (n.tdiv p)=n/p:=by rw [dx h0,w64 (by omega)]
   have w2:n.tmod p=n%p:=c8 h0;have w3:IntKind.u8.wrap (n%p)=n%p:=w8 (by omega)
   have w4:IntKind.i64.wrap ((i:Int)+1)=((i+1:Nat):Int):=(w64 (x:=(i:Int)+1) (by omega)).trans (by omega)
   have hp0:p≠0:=by omega
   have hi64:i<64:=by omega
   have hic:i<cur.length:=by omega
   refine ⟨i',?_⟩;rw [dgs,if_neg (by omega),Dl]
   refine bb ?_ e;simp -implicitDefEqProofs [Z3c_L0,af,hpos,w1,w2,w3,w4,hp0,hi64,hic]
def D3 (O:ah):Prop:=∀(p:Int) [IsP p] (n:Int),0≤n→n<4611686018427387904→ask O F3c [(D.int .i64 p),(D.int .i64 n)]=some (D.arr 64 .leaf (ak .u8 (pad (row (du p n)))))
theorem a3m (hT:T F3c=some Z3c):D3 (den T A):=by
 intro p i n h0 hn;obtain ⟨i',e⟩:=Xv (O:=den T A) (p:=p) (z:=pad []) 64 n 0 (pad []) h0 (by omega) (by omega) (by omega) (bq _)
 rw [Rp (Va p 64 n),←Bh (by omega)] at e
 have e0:((0:Nat):Int)=0:=rfl;rw [e0] at e;refine bc hT rfl ?_;generalize pad (row (du p n))=R at *;simp -implicitDefEqProofs [Z3c,Z3c_B,e]
theorem E9 (k:IntKind):∀{l m:List Int},l.length=m.length→D.beqs .int (ak k l) (ak k m)=some (decide (l=m))
 | [],[],_=>by simp [D.beqs,ak]
 | x::l,y::m,h=>by
  have e:D.beqs .int (ak k (x::l)) (ak k (y::m))=(D.beq .int (.int k x) (.int k y)).bind fun b=>if b then D.beqs .int (ak k l) (ak k m) else some false:=rfl
  rw [e];have e2:D.beq .int (.int k x) (.int k y)=some (decide (x=y)):=by simp [D.beq]
  rw [e2,ac,E9 k (by simpa using h)]
  by_cases h1:x=y
  ·subst h1; simp
  ·simp [h1]
theorem Ns {l m:List Int} (hl:l.length=64) (hm:m.length=64):D.beq (.arr 64 .leaf .int) (D.arr 64 .leaf (ak .u8 l)) (D.arr 64 .leaf (ak .u8 m))=some (decide (l=m)):=by
 have e:D.beq (.arr 64 .leaf .int) (D.arr 64 .leaf (ak .u8 l)) (D.arr 64 .leaf (ak .u8 m))=if 64=64∧64=64∧Sh.beq .leaf .leaf∧Sh.beq .leaf .leaf then D.beqs .int (ak .u8 l) (ak .u8 m) else none:=rfl
 rw [e,if_pos ⟨rfl,rfl,rfl,rfl⟩,E9 _ (by omega)]
theorem A7 {p:Int} {a b:Fp p} (ha:a.len≤64) (hb:b.len≤64):pad (row a)=pad (row b)↔a=b:=by
 constructor
 ·intro h
  rw [←jj ha,h,jj hb]
 ·rintro rfl; rfl
theorem Jf {p:Int} {a b:Fp p} (_ha:a.len≤64) (_hb:b.len≤64):D.beq (.arr 64 .leaf .int) (D.arr 64 .leaf (ak .u8 (pad (row a)))) (D.arr 64 .leaf (ak .u8 (pad (row b))))=some (decide (pad (row a)=pad (row b))):=Ns (bq _) (bq _)
section
variable {p:Int} [IsP p]
structure SInv (a0:Fp p) (k:Int) (a:Fp p) (out:ej p):Prop where
 ne:a≠0
 eq:a0=a*dz out
 ok:FacOk out
 so:out.Pairwise fun x y=>dm x.1<dm y.1
 lt:∀x∈out,dm x.1<k
 ge:∀q,Irr q→Monic q→Dv q a→k≤dm q
 ln:out.length+a.len≤13
structure SEnd (a0 a:Fp p) (out:ej p):Prop where
 ne:a≠0
 eq:a0=a*dz out
 ok:FacOk out
 so:out.Pairwise fun x y=>dm x.1<dm y.1
 irr:2≤a.len→Irr a∧∀x∈out,dm x.1<dm (mon a)
 ln:out.length+a.len≤13
theorem Jv {q a:Fp p} (hq:Irr q) (h:Dv q a):Dv (mon q) a:=(u9 hq.ne).2 h
theorem SInv.small {a0 a:Fp p} {n:Nat} {k:Int} {out:ej p} (h:SInv a0 k a out) (_hn:n≤12) (hk:p^n≤k):vf n a:=by
 intro q hq hd;have h1:=h.ge _ hq.mon (oo hq.ne) (Jv hq hd);have h2:=ym (mon q);rw [vd hq.ne] at h2;apply ck;intro hx;have:=jh (p:=p) (by have:=IsP.pos (p:=p); omega) (show q.len≤n by omega)
 omega
theorem SInv.end' {a0 a:Fp p} {n:Nat} {k:Int} {out:ej p} (h:SInv a0 k a out) (hn:n≤12) (hk:p^n≤k) (hs:a.len<2*n+1):SEnd a0 a out:=
 ⟨h.ne,h.eq,h.ok,h.so,fun hl=>by
  have hi:=rf (h.small hn hk) hl hs;have h1:=h.ge _ hi.mon (oo hi.ne) ((u9 hi.ne).2 (.refl a));exact ⟨hi,fun x hx=>by have:=h.lt x hx; omega⟩,h.ln⟩
theorem SInv.step {a0 a:Fp p} {n:Nat} {k:Int} {out:ej p} (h:SInv a0 k a out) (hn1:1≤n) (hn:n≤12) (hk:p^n≤k) (hk2:k<2*p^n) {j:Nat} {r:Fp p} (h1:a=r*pw (du p k) j) (h2:¬ Dv (du p k) r) :
 SInv a0 (k+1) r (if j=0 then out else out++[(du p k,j)]):=by
 obtain ⟨m1,m2⟩:=ox hn hk hk2;have hb:=mj (p:=p) hn;have hpos:=i7 (p:=p) n;have hnum:dm (du p k)=k:=tk ⟨by omega,by omega⟩
 have hr0:r≠0:=fun h0=>h.ne (by rw [h1,h0,Gq.zero_mul])
 have ge':∀q,Irr q→Monic q→Dv q r→k+1≤dm q:=by
  intro q hq hm hd;have g1:=h.ge q hq hm (by rw [h1]; exact hd.mul_right _)
  have g2:dm q≠k:=fun e=>by
   have:q=du p k:=Ej (by rw [e,hnum])
   exact h2 (this▸hd)
  omega
 by_cases hj:j=0
 ·subst hj
  rw [if_pos rfl];rw [pw,Gq.mul_one] at h1;subst h1;exact ⟨h.ne,h.eq,h.ok,h.so,fun x hx=>by have:=h.lt x hx; omega,ge',h.ln⟩
 ·rw [if_neg hj]
  have hda:Dv (du p k) a:=by
   obtain ⟨i,rfl⟩:∃i,j=i+1:=⟨j-1,by omega⟩
   rw [h1,pw];exact ((Dv.refl _).mul_left _).mul_left _
  have hi:Irr (du p k):=by
   refine Irr.of_dv (by omega) fun u hu=>?_
   have hul:=hu.len m1.2
   have hu0:u≠0:=fun h0=>by
    obtain ⟨c,hc⟩:=hu;exact m1.2 (by rw [hc,h0,Gq.zero_mul])
   have hup:=Pol.len_pos hu0
   by_cases hu1:u.len=1
   ·exact .inl hu1
   ·right
    obtain ⟨q,q1,q2,q3⟩:=xv u.len u (az _) (by omega)
    have g1:=h.ge q q1 q2 ((q3.trans hu).trans hda);have g2:=q3.len hu0;apply ck;intro hx;have g3:=qj (a:=q) (b:=du p k) (by omega)
    omega
  have hlt:r.len<a.len:=by
   obtain ⟨i,rfl⟩:∃i,j=i+1:=⟨j-1,by omega⟩
   have hi0:=By hi.ne i;have l1:=Pol.len_mul hi0 hi.ne;have l2:=Pol.len_mul hr0 (Pol.mul_ne hi0 hi.ne);have l3:=Pol.len_pos hi0;rw [h1,pw]; omega
  refine ⟨hr0,?_,h.ok.snoc hi m1 (by omega) fun x hx e=>?_,?_,?_,ge',?_⟩
  ·rw [h.eq,rl]
   conv=>lhs; rw [h1]
   exact c6 [r,pw (du p k) j,dz out] rfl
  ·have:=h.lt x hx
   rw [e,hnum] at this; omega
  ·rw [f0]
   refine ⟨h.so,f4 _ _,fun x hx y hy=>?_⟩
   simp at hy; subst hy;have:=h.lt x hx;rw [hnum]; exact this
  ·intro x hx
   rcases ba.1 hx with hx | hx
   ·have:=h.lt x hx; omega
   ·simp at hx; subst hx; rw [hnum]; omega
  ·have:=h.ln
   simp; omega
theorem SInv.next {a0 a:Fp p} {n:Nat} {out:ej p} (h:SInv a0 (2*p^n) a out) (hn:n≤11):SInv a0 (p^(n+1)) a out:=by
 refine ⟨h.ne,h.eq,h.ok,h.so,fun x hx=>?_,fun q hq hm hd=>?_,h.ln⟩
 ·have:=h.lt x hx
  have:=Eg (p:=p) n;omega
 ·have h1:=h.ge q hq hm hd
  have hq0:=Pol.len_pos hm.2;rcases ct (n+1) q.len with h2 | h2
  ·obtain ⟨d,hd'⟩:∃d,q.len=d+1:=⟨q.len-1,by omega⟩
   have hl:=hd.len h.ne;have hln:=h.ln;have h3:=kz (n:=d) (by omega) hm hd'
   have:=jh (p:=p) (by have:=IsP.pos (p:=p); omega) (show n+1≤d by omega)
   omega
  ·exfalso
   obtain ⟨d,hd'⟩:∃d,q.len=d+1:=⟨q.len-1,by omega⟩
   have h3:=kz (n:=d) (by omega) hm hd'
   have:=jh (p:=p) (by have:=IsP.pos (p:=p); omega) (show d≤n by omega)
   omega
theorem SInv.init {a:Fp p} (ha:a≠0) (hl:a.len≤13):SInv a (p^1) a []:=
 ⟨ha,(Gq.mul_one a).symm,⟨by simp,.nil⟩,.nil,by simp,fun q hq hm _=>by
  have h1:=hq.len;obtain ⟨d,hd'⟩:∃d,q.len=d+1:=⟨q.len-1,by omega⟩
  by_cases hd12:d≤12
  ·have h3:=kz (n:=d) hd12 hm hd'
   have:=jh (p:=p) (by have:=IsP.pos (p:=p); omega) (show 1≤d by omega)
   omega
  ·have h4:=qj (a:=du p (p^1)) (b:=q) (by
    have:=(ox (p:=p) (n:=1) (by omega) (lf _) (by have:=i7 (p:=p) 1; omega)).2
    omega)
   have h5:dm (du p (p^1))=p^1:=tk ⟨Int.le_of_lt (i7 1),by have:=mj (p:=p) (n:=1) (by omega); omega⟩
   omega,by simpa using hl⟩
theorem SEnd.fac {a0 a:Fp p} {out:ej p} (h:SEnd a0 a out) (h0:a0≠0):Pe.fac a0=if 2≤a.len then out++[(mon a,1)] else out:=by
 apply T8 h0;have hP:=rt h.ok;have hld:a0.ld=a.ld:=by rw [h.eq,Pol.ld_mul h.ne hP.2,hP.1,Gq.mul_one]
 split
 ·rename_i hl
  obtain ⟨hi,hx⟩:=h.irr hl;refine ⟨h.ok.snoc hi.mon (oo h.ne) (az 1) fun x hx' e=>?_,?_,?_⟩
  ·have:=hx x hx'
   rw [e] at this; omega
  ·rw [f0]
   refine ⟨h.so,f4 _ _,fun x hx' y hy=>?_⟩
   simp at hy; subst hy; exact hx x hx'
  ·rw [rl,hld]
   show a0=Pol.C a.ld*(dz out*pw (mon a) 1);rw [tw,h.eq]
   conv=>lhs; rw [Uj h.ne]
   exact c6 [Pol.C a.ld,mon a,dz out] rfl
 ·rename_i hl
  have hp:=Pol.len_pos h.ne;obtain ⟨c,hc,rfl⟩:=km (show a.len=1 by omega)
  refine ⟨h.ok,h.so,?_⟩;rw [hld,Pol.ld_C hc]; exact h.eq
end
end Pe

namespace Pe
open Go Gq
variable {T:Nat→Option Fn} {A:ah}
abbrev dc:Sh:=.st [.arr 64 .leaf,.leaf]
noncomputable abbrev cz {p:Int} (x:Fp p×Nat):D:=.st [.arr 64 .leaf,.leaf] [(D.arr 64 .leaf (ak .u8 (pad (row x.1)))),(D.int .i64 x.2)]
section
variable {p:Int} [IsP p]
theorem Ur {O:ah} (hdv:jg O) (hdg:ja O) {m:Fp p} {n:Nat} (hm:m≠0) (hml:m.len=n+1) (hn1:1≤n) (hn:n≤12) {st kv:V} {ob:Blk} (hst:st.refs=[1]) (hkv:kv.refs=[]):∀(f:Nat) (a:Fp p) (i:Nat),a.len≤f→a≠0→a.len≤13→i+f≤1000→∃(j:Nat) (r:Fp p),a=r*pw m j∧¬ Dv m r ∧
 ((dn O 0 (.loop Z3n_L0) ⟨[(0,(.d (.int .i64 p))),(3,.ptr 0 []),(5,st),(6,(.d (.int .i64 n))),(7,kv),(8,.ptr 2 []),(9,(.d (.int .i64 i)))],[.box false (D.arr 64 .leaf (ak .u8 (pad (row a)))),ob,.box false (D.arr 64 .leaf (ak .u8 (pad (row m)))),.hole,.hole,.hole,.hole,.hole,.hole,.hole]⟩ =
   some (.exit 4,⟨[(0,(.d (.int .i64 p))),(3,.ptr 0 []),(5,st),(6,(.d (.int .i64 n))),(7,kv),(8,.ptr 2 []),(9,(.d (.int .i64 ((i+j:Nat))))),(47,(.d (.bool false)))],[.box false (D.arr 64 .leaf (ak .u8 (pad (row r)))),ob,.box false (D.arr 64 .leaf (ak .u8 (pad (row m)))),.hole,.hole,.hole,.hole,.hole,.hole,.hole]⟩)) ∨
 (∃q:List Int,dn O 0 (.loop Z3n_L0) ⟨[(0,(.d (.int .i64 p))),(3,.ptr 0 []),(5,st),(6,(.d (.int .i64 n))),(7,kv),(8,.ptr 2 []),(9,(.d (.int .i64 i)))],[.box false (D.arr 64 .leaf (ak .u8 (pad (row a)))),ob,.box false (D.arr 64 .leaf (ak .u8 (pad (row m)))),.hole,.hole,.hole,.hole,.hole,.hole,.hole]⟩ =
  some (.exit 4,⟨[(0,(.d (.int .i64 p))),(3,.ptr 0 []),(5,st),(6,(.d (.int .i64 n))),(7,kv),(8,.ptr 2 []),(9,(.d (.int .i64 ((i+j:Nat))))),(10,.ptr 3 []),(57,(.d (.bool true)))],[.box false (D.arr 64 .leaf (ak .u8 (pad (row r)))),ob,.box false (D.arr 64 .leaf (ak .u8 (pad (row m)))),.box false (D.arr 64 .leaf (ak .u8 q)),.hole,.hole,.hole,.hole,.hole,.hole]⟩)))
 | 0,a,i,hf,ha,_,_=>absurd (Pol.len_zero_iff.1 (by omega)) ha
 | f+1,a,i,hf,ha,hl13,hi=>by
  have e1:=hdg p a (by omega)
  have hap:=Pol.len_pos ha
  by_cases hlt:a.len<n+1
  ·refine ⟨0,a,(Gq.mul_one a).symm,fun h=>by have:=h.len ha; omega,.inl (bo ?_)⟩
   have h1:¬ (n:Int)≤(a.len:Int)-1:=by omega
   simp -implicitDefEqProofs [Z3n_L0,af,e1,h1,hst,hkv]
  ·have h1:(n:Int)≤(a.len:Int)-1:=by omega
   have e2:=hdv p a m hm (by omega) (by omega)
   have hml2:m.len≤64:=by omega
   have hlr:=Pol.len_mod a hm;have e3:=Jf (p:=p) (a:=a%m) (b:=0) (by omega) (by rw [Pol.len_zero]; omega)
   rw [dd] at e3
   have e4:pad (row (a%m))=pad []↔a%m=0:=by
    have:=A7 (p:=p) (a:=a%m) (b:=0) (by omega) (by rw [Pol.len_zero]; omega)
    rwa [dd] at this
   by_cases h0:a%m=0
   ·have hd:=Pol.div_mod a m
    rw [h0,Gq.add_zero] at hd;have hq:a/m≠0:=fun h=>ha (by rw [hd,h,Gq.zero_mul])
    have hl:=Pol.len_mul hq hm;rw [←hd] at hl;rw [decide_eq_true (e4.2 h0)] at e3;obtain ⟨j,r,g1,g2,g3⟩:=Ur (ob:=ob) hdv hdg hm hml hn1 hn hst hkv f (a/m) (i+1) (by omega) hq (by omega) (by omega)
    have w1:IntKind.i64.wrap ((i:Int)+1)=((i+1:Nat):Int):=(w64 (x:=(i:Int)+1) (by omega)).trans (by omega)
    have body:dn O 0 Z3n_L0 ⟨[(0,(.d (.int .i64 p))),(3,.ptr 0 []),(5,st),(6,(.d (.int .i64 n))),(7,kv),(8,.ptr 2 []),(9,(.d (.int .i64 i)))],[.box false (D.arr 64 .leaf (ak .u8 (pad (row a)))),ob,.box false (D.arr 64 .leaf (ak .u8 (pad (row m)))),.hole,.hole,.hole,.hole,.hole,.hole,.hole]⟩ =
     some (.normal,⟨[(0,(.d (.int .i64 p))),(3,.ptr 0 []),(5,st),(6,(.d (.int .i64 n))),(7,kv),(8,.ptr 2 []),(9,(.d (.int .i64 ((i+1:Nat)))))],[.box false (D.arr 64 .leaf (ak .u8 (pad (row (a/m))))),ob,.box false (D.arr 64 .leaf (ak .u8 (pad (row m)))),.hole,.hole,.hole,.hole,.hole,.hole,.hole]⟩):=by
     generalize pad (row (a/m))=R1 at *;generalize pad (row (a%m))=R2 at *;generalize pad (row a)=PA at *;generalize pad (row m)=PM at *;simp -implicitDefEqProofs [Z3n_L0,af,e1,h1,e2,e3,w1,hst,hkv]
    refine ⟨j+1,r,by rw [pw,←Gq.mul_assoc,←g1]; exact hd,g2,?_⟩
    rw [show i+(j+1)=i+1+j by omega]
    rcases g3 with g3 | ⟨q,g3⟩
    ·exact .inl (bb body g3)
    ·exact .inr ⟨q,bb body g3⟩
   ·rw [decide_eq_false (mt e4.1 h0)] at e3
    refine ⟨0,a,(Gq.mul_one a).symm,fun hdv'=>h0 ((t8 hm).1 hdv'),.inr ⟨pad (row (a/m)),bo ?_⟩⟩
    generalize pad (row (a/m))=R1 at *;generalize pad (row (a%m))=R2 at *;generalize pad (row a)=PA at *;generalize pad (row m)=PM at *;simp -implicitDefEqProofs [Z3n_L0,af,e1,h1,e2,e3,hst,hkv]
theorem Md {O:ah} (hdv:jg O) (hdg:ja O) (hcn:p9 O) (hof:D3 O) {a0:Fp p} {n:Nat} (hn1:1≤n) (hn:n≤12):∀(f:Nat) (k:Int) (a:Fp p) (out:ej p) (cp:Option Nat),p^n≤k→k≤2*p^n→(2*p^n-k).toNat≤f→SInv a0 k a out→∃(k':Int) (a':Fp p) (out':ej p) (cp':Option Nat),SInv a0 k' a' out'∧p^n≤k'∧k'≤2*p^n∧(k'=2*p^n∨a'.len<2*n+1) ∧
 dn O 0 (.loop Z3n_L1) ⟨[(0,(.d (.int .i64 p))),(3,.ptr 0 []),(5,.sl 1 [] 0 out.length cp),(6,(.d (.int .i64 n))),(7,(.d (.int .i64 k)))],[.box false (D.arr 64 .leaf (ak .u8 (pad (row a)))),.sl false dc (out.map cz),.hole,.hole,.hole,.hole,.hole,.hole,.hole,.hole]⟩ =
  some (.exit 2,⟨[(0,(.d (.int .i64 p))),(3,.ptr 0 []),(5,.sl 1 [] 0 out'.length cp'),(6,(.d (.int .i64 n))),(7,(.d (.int .i64 k'))),(38,(.d (.bool false)))],[.box false (D.arr 64 .leaf (ak .u8 (pad (row a')))),.sl false dc (out'.map cz),.hole,.hole,.hole,.hole,.hole,.hole,.hole,.hole]⟩)
 | f,k,a,out,cp,hk1,hk2,hf,h=>by
  have hb:=mj (p:=p) hn;have hpos:=i7 (p:=p) n;have hln:=h.ln;have hap:=Pol.len_pos h.ne;have e1:=wh hcn p n hn;have e2:=hdg p a (by omega)
  have w1:IntKind.i64.wrap (2*p^n)=2*p^n:=w64 (by omega)
  have w2:IntKind.i64.wrap (2*(n:Int))=2*(n:Int):=w64 (by omega)
  by_cases hke:k=2*p^n
  ·refine ⟨k,a,out,cp,h,hk1,hk2,.inl hke,bo ?_⟩
   have h1:¬ k<2*p^n:=by omega
   generalize p^n=N at *;generalize pad (row a)=PA at *;generalize out.map cz=LD at *;simp -implicitDefEqProofs [Z3n_L1,af,e1,w1,h1]
  ·have h1:k<2*p^n:=by omega
   by_cases hs:a.len<2*n+1
   ·refine ⟨k,a,out,cp,h,hk1,hk2,.inr hs,bo ?_⟩
    have h2:¬ 2*(n:Int)≤(a.len:Int)-1:=by omega
    generalize p^n=N at *;generalize pad (row a)=PA at *;generalize out.map cz=LD at *;simp -implicitDefEqProofs [Z3n_L1,af,e1,e2,w1,w2,h1,h2]
   ·cases f with
    | zero=>omega
    | succ f=>
     have h2:2*(n:Int)≤(a.len:Int)-1:=by omega
     obtain ⟨m1,m2⟩:=ox hn hk1 h1;have e3:=hof p k (by omega) (by omega)
     obtain ⟨j,r,g1,g2,g3⟩:=Ur hdv hdg (m:=du p k) m1.2 m2 hn1 hn (st:=.sl 1 [] 0 out.length cp) (kv:=(.d (.int .i64 k))) (ob:=.sl false dc (out.map cz)) rfl rfl a.len a 0 (az _) h.ne (by omega) (by omega)
     have hstep:=h.step hn1 hn hk1 h1 g1 g2;have w3:IntKind.i64.wrap (k+1)=k+1:=w64 (by omega)
     have e0:((0:Nat):Int)=0:=rfl;have h8:(out.length+1)*72≤1099511627776:=by omega
     have ht:(out.map cz).take out.length=out.map cz:=aw (by simp)
     have hL:(out.map cz).length=out.length:=by simp
     rw [e0,bf] at g3
     by_cases hj:j=0
     ·subst hj
      rw [if_pos rfl] at hstep;obtain ⟨k',a',out',cp',i1,i2,i3,i4,e⟩:=Md hdv hdg hcn hof hn1 hn f (k+1) r out cp (by omega) (by omega) (by omega) hstep
      refine ⟨k',a',out',cp',i1,i2,i3,i4,bb ?_ e⟩;rw [e0] at g3;generalize p^n=N at *;generalize pad (row a)=PA at *;generalize pad (row r)=PR at *;generalize pad (row (du p k))=PM at *;generalize out.map cz=LD at *;rcases g3 with g3 | ⟨q,g3⟩
      ·simp -implicitDefEqProofs [Z3n_L1,af,e1,e2,e3,w1,w2,w3,h1,h2,g3]
      ·simp -implicitDefEqProofs [Z3n_L1,af,e1,e2,e3,w1,w2,w3,h1,h2,g3]
     ·rw [if_neg hj] at hstep
      obtain ⟨k',a',out',cp',i1,i2,i3,i4,e⟩:=Md hdv hdg hcn hof hn1 hn f (k+1) r (out++[(du p k,j)]) none (by omega) (by omega) (by omega) hstep
      refine ⟨k',a',out',cp',i1,i2,i3,i4,bb ?_ e⟩;have o1:(out++[(du p k,j)]).map cz=out.map cz++[cz (du p k,j)]:=by simp
      have o2:(out++[(du p k,j)]).length=out.length+1:=by simp
      have hj0:0<j:=by omega
      rw [o1,o2];simp only [cz];have hfp:(out.map fun x:Fp p×Nat=>D.st [.arr 64 .leaf,.leaf] [(D.arr 64 .leaf (ak .u8 (pad (row x.1)))),(D.int .i64 x.2)])=out.map cz:=rfl
      rw [hfp];generalize p^n=N at *;generalize pad (row a)=PA at *;generalize pad (row r)=PR at *;generalize pad (row (du p k))=PM at *;generalize out.map cz=LD at *;rcases g3 with g3 | ⟨q,g3⟩
      ·simp -implicitDefEqProofs [Z3n_L1,af,e1,e2,e3,w1,w2,w3,h1,h2,g3,hj0,h8,ht,hL,List.replicate]
      ·simp -implicitDefEqProofs [Z3n_L1,af,e1,e2,e3,w1,w2,w3,h1,h2,g3,hj0,h8,ht,hL,List.replicate]
end
end Pe


namespace Pe
open Go Gq
variable {T:Nat→Option Fn} {A:ah}
section
variable {p:Int} [IsP p]
theorem Tg {O:ah} (hdv:jg O) (hdg:ja O) (hcn:p9 O) (hof:D3 O) {a0:Fp p}:∀(f n:Nat) (a:Fp p) (out:ej p) (cp:Option Nat),1≤n→n+f=9→(SInv a0 (p^n) a out∨(SEnd a0 a out∧a.len<2*n+1))→∃(n':Int) (a':Fp p) (out':ej p) (cp':Option Nat),SEnd a0 a' out' ∧
 dn O 0 (.loop Z3n_L2) ⟨[(0,(.d (.int .i64 p))),(3,.ptr 0 []),(5,.sl 1 [] 0 out.length cp),(6,(.d (.int .i64 n)))],[.box false (D.arr 64 .leaf (ak .u8 (pad (row a)))),.sl false dc (out.map cz),.hole,.hole,.hole,.hole,.hole,.hole,.hole,.hole]⟩ =
  some (.exit 0,⟨[(0,(.d (.int .i64 p))),(3,.ptr 0 []),(5,.sl 1 [] 0 out'.length cp'),(6,(.d (.int .i64 n'))),(20,(.d (.bool false)))],[.box false (D.arr 64 .leaf (ak .u8 (pad (row a')))),.sl false dc (out'.map cz),.hole,.hole,.hole,.hole,.hole,.hole,.hole,.hole]⟩)
 | f,n,a,out,cp,hn1,hf,h=>by
  have hln:out.length+a.len≤13:=by
   rcases h with h | h
   ·exact h.ln
   ·exact h.1.ln
  have hne:a≠0:=by
   rcases h with h | h
   ·exact h.ne
   ·exact h.1.ne
  have e2:=hdg p a (by omega)
  have w2:IntKind.i64.wrap (2*(n:Int))=2*(n:Int):=w64 (by omega)
  by_cases hs:a.len<2*n+1
  ·have hE:SEnd a0 a out:=by
    rcases h with h | h
    ·exact h.end' (by omega) (lf _) hs
    ·exact h.1
   refine ⟨n,a,out,cp,hE,bo ?_⟩;have h2:¬ 2*(n:Int)≤(a.len:Int)-1:=by omega
   generalize pad (row a)=PA at *;generalize out.map cz=LD at *;simp -implicitDefEqProofs [Z3n_L2,af,e2,w2,h2]
  ·have hI:SInv a0 (p^n) a out:=by
    rcases h with h | h
    ·exact h
    ·exact absurd h.2 hs
   cases f with
   | zero=>omega
   | succ f=>
    have hpos:=i7 (p:=p) n;have h2:2*(n:Int)≤(a.len:Int)-1:=by omega
    have e1:=wh hcn p n (by omega)
    obtain ⟨k',a',out',cp',i1,i2,i3,i4,i5⟩:=Md hdv hdg hcn hof hn1 (by omega) (2*p^n-p^n).toNat (p^n) a out cp (lf _) (by omega) (az _) hI
    have hnext:SInv a0 (p^(n+1)) a' out'∨(SEnd a0 a' out'∧a'.len<2*(n+1)+1):=by
     rcases i4 with i4 | i4
     ·rw [i4] at i1
      exact .inl (i1.next (by omega))
     ·exact .inr ⟨i1.end' (by omega) i2 i4,by omega⟩
    obtain ⟨n',a2,out2,cp2,j1,j2⟩:=Tg hdv hdg hcn hof f (n+1) a' out' cp' (by omega) (by omega) hnext
    have w3:IntKind.i64.wrap ((n:Int)+1)=((n+1:Nat):Int):=(w64 (x:=(n:Int)+1) (by omega)).trans (by omega)
    refine ⟨n',a2,out2,cp2,j1,bb ?_ j2⟩;generalize pad (row a)=PA at *;generalize pad (row a')=PA' at *;generalize out.map cz=LD at *;generalize out'.map cz=LD' at *;simp -implicitDefEqProofs [Z3n_L2,af,e1,e2,w2,w3,h2,i5]
end
def yy (O:ah):Prop:=∀(p:Int) [IsP p] (a:Fp p),a≠0→a.len≤13→ask O F3n [(D.int .i64 p),(D.arr 64 .leaf (ak .u8 (pad (row a))))]=some (.sl dc ((fac a).map cz))
theorem Sa (hT:T F3n=some Z3n) (hdv:jg (den T A)) (hdg:ja (den T A)) (hcn:p9 (den T A)) (hof:D3 (den T A)) (hinv:ou (den T A)) (had:rk (den T A)):yy (den T A):=by
 intro p i a0 h0 hl0;have hp7:=IsP.le (p:=p);obtain ⟨n',a,out,cp,hE,e⟩:=Tg hdv hdg hcn hof 8 1 a0 [] (some 0) (az 1) rfl (.inl (SInv.init h0 hl0));have hf:=hE.fac h0;have hln:=hE.ln;have hap:=Pol.len_pos hE.ne;have e1:=hdg p a (by omega)
 have e00:(([]:ej p).length:Nat)=0:=rfl;have e01:((1:Nat):Int)=1:=rfl;rw [e00,e01,iu] at e;rw [hf];refine bc hT rfl ?_
 by_cases hl:2≤a.len
 ·rw [if_pos hl]
  obtain ⟨hirr,hlt⟩:=hE.irr hl;have hr:=kg a.ld;have hld:rep a.ld≠0:=fun h0=>Pol.ld_ne hE.ne (fw.1 h0)
  have e3:=hinv p (rep a.ld) (by omega) hr.2
  have hin:=v6 p (rep a.ld);have w1:IntKind.i64.wrap (inv p (rep a.ld))=inv p (rep a.ld):=w64 (by omega)
  have hbx:(pad (row a))[a.len-1]? = some (rep a.ld):=by rw [o3 _ _ (by omega),f7]; rfl
  have hbx':((a.len:Int)-1).toNat=a.len-1:=by omega
  have hbx2:(1:Int)≤(a.len:Int):=by omega
  have hbx4:(1:Int)<(a.len:Int):=by omega
  have hbx3:a.len-1<64:=by omega
  have e4:=had p (inv p (rep a.ld)) 0 a (by omega) (by omega) (by rw [Pol.len_zero]; omega) (by omega)
  rw [se _ (Pol.ld_ne hE.ne),Gq.zero_add,dd] at e4;have e4':ask (den T A) F2r [(D.int .i64 p),(D.arr 64 .leaf (ak .u8 (pad []))),(D.arr 64 .leaf (ak .u8 (pad (row a)))),(D.int .i64 (inv p (rep a.ld)))]=some (D.arr 64 .leaf (ak .u8 (pad (row (mon a))))):=e4;have h8:(out.length+1)*72≤1099511627776:=by omega
  have ht:(out.map cz).take out.length=out.map cz:=aw (by simp)
  have hL:(out.map cz).length=out.length:=by simp
  have o1:(out++[(mon a,1)]).map cz=out.map cz++[cz (mon a,1)]:=by simp
  have w2:IntKind.i64.wrap ((out.length:Int)-1)=(out.length:Int)-1:=w64 (by omega)
  have wm:IntKind.i64.wrap (-1)=-1:=w64 (by omega)
  rw [o1];have ht2:(out.map cz++[cz (mon a,1)]).take (out.length+1)=out.map cz++[cz (mon a,1)]:=aw (by simp)
  have hL2:(out.map cz++[cz (mon a,1)]).length=out.length+1:=by simp
  by_cases ho:out=[]
  ·subst ho
   simp only [cz] at *;generalize pad (row a)=PA at *;generalize pad (row (mon a))=PM at *;simp -implicitDefEqProofs [Z3n,Z3n_B,af,e,e1,e3,e4',w1,hbx,hbx',hbx2,hbx3,hbx4,wm,List.replicate]
  ·have hpo:0<out.length:=jd.2 ho
   obtain ⟨x,hxe⟩:∃x,out[out.length-1]? = some x:=⟨_,ao (by omega)⟩
   have hx:(out.map cz)[out.length-1]? = some (cz x):=by rw [d8,hxe]; rfl
   have hmem:x∈out:=fy hxe
   have hne:x.1≠mon a:=fun h=>by
    have:=hlt _ hmem;rw [h] at this; omega
   have hxl:x.1.len≤13:=by
    have h1:Dv x.1 a0:=by
     obtain ⟨r,h2,_⟩:=qi hE.ok (show (x.1,x.2)∈out from hmem);obtain ⟨k,hk⟩:∃k,x.2=k+1:=⟨x.2-1,by have:=(hE.ok.irr _ hmem).2.2; omega⟩
     rw [hE.eq,h2,hk,pw];exact (((Dv.refl _).mul_left _).mul_right _).mul_left _
    have:=h1.len h0;omega
   have e6:=Jf (p:=p) (a:=x.1) (b:=mon a) (by omega) (by rw [vd hE.ne]; omega)
   rw [decide_eq_false (mt (A7 (p:=p) (by omega) (by rw [vd hE.ne]; omega)).1 hne)] at e6
   have t1:(1:Int)≤(out.length:Int):=by omega
   have t2:((out.length:Int)-1).toNat=out.length-1:=by omega
   have t3:out.length-1<out.length:=by omega
   simp only [cz] at hx ht2 ⊢;generalize pad (row a)=PA at *;generalize pad (row (mon a))=PM at *;generalize pad (row x.1)=PO at *;clear hxe hmem hxl hne hlt o1 hf hE;generalize out.map cz=LD at *;have h9:out.length-1<LD.length:=by omega
   have hx':=av ((ao h9).symm.trans hx);simp -implicitDefEqProofs [Z3n,Z3n_B,af,hx',e,e1,e3,e4',e6,w1,w2,hbx,hbx',hbx2,hbx3,hbx4,h8,ht,hL,t1,t2,t3,List.replicate];exact ht2
 ·rw [if_neg hl]
  have h1:¬ (1:Int)<(a.len:Int):=by omega
  have ht:(out.map cz).take out.length=out.map cz:=aw (by simp)
  have hL:(out.map cz).length=out.length:=by simp
  generalize pad (row a)=PA at *;generalize out.map cz=LD at *;simp -implicitDefEqProofs [Z3n,Z3n_B,af,e,e1,h1,ht,hL]
section
variable {p:Int} [IsP p]
end
end Pe

namespace Pe
open Go Gq
variable {T:Nat→Option Fn} {A:ah}
theorem Ig {p:Int} [IsP p]:∀(n:Nat) (out:Int),0<out→(ru p 343 n out≤343↔out*p^n≤343)
 | 0,out,h0=>by rw [fa,ix]; exact wo
 | n+1,out,h0=>by
  have hp:=IsP.pos (p:=p);have e:out*p^(n+1)=out*p*p^n:=by rw [cu,kf,eg p]
  unfold ru
  split
  ·rename_i h
   have h1:1≤p^(n+1):=i7 (n+1);have h2:out*1≤out*p^(n+1):=bm h1 (by omega)
   omega
  ·rw [e]
   exact Ig n (out*p) (ph h0 hp)
end Pe

namespace Pe
open Go Gq
variable {T:Nat→Option Fn} {A:ah}
end Pe



namespace Pe
open Go Gq
variable {T:Nat→Option Fn} {A:ah}
open Classical in
def B1 (O:ah):Prop:=∀(p:Int) [IsP p] (a:Fp p),a.len≤13→ask O F14 [(D.int .i64 p),(D.sl .leaf (ak .i64 (row a)))]=some (D.bool (decide (Monic a∧Irr a)))
open Classical in
theorem Ww (hT:T F14=some Z14) (hld:ul (den T A)) (hdg:kq (den T A)) (hf:Ak (den T A)):B1 (den T A):=by
 intro p i a hal;have e1:=hld (row a) (by rw [bg]; omega)
 rw [Bf] at e1;have e2:=hdg (row a) (by rw [bg]; omega)
 rw [bg] at e2;refine bc hT rfl ?_
 by_cases h1:a.ld=1
 ·have h1':=(tz a.ld).2 h1
  have hM:=(Ef a).2 h1;rw [h1'] at e1
  by_cases h2:2≤a.len
  ·obtain ⟨f1,f2,e3⟩:=hf p a hM.2 hal
   have hiff:=X5 hM f1;have hlt:¬ ((a.len:Int)-1<1):=by omega
   have hlt2:¬ ((a.len:Int)<2):=by omega
   have hlt3:(2:Int)≤a.len:=by omega
   have key:(∃q,fac a=[(q,1)])↔(Monic a∧Irr a):=⟨fun h=>⟨hM,hiff.1 h⟩,fun h=>hiff.2 h.2⟩
   generalize fac a=L at *;cases L with
   | nil=>
    rw [decide_eq_false (fun h0=>by obtain ⟨q,h⟩:=key.2 h0; cases h)]
    simp -implicitDefEqProofs [Z14,Z14_B,af,e1,e2,e3,hlt]
   | cons x L=>
    cases L with
    | nil=>
     obtain ⟨q,k⟩:=x
     by_cases hk:k=1
     ·subst hk
      rw [decide_eq_true (key.1 ⟨q,rfl⟩)];simp -implicitDefEqProofs [Z14,Z14_B,af,e1,e2,e3,hlt,fo]
     ·rw [decide_eq_false (fun h0=>by obtain ⟨q',h⟩:=key.2 h0; simp at h; exact hk h.2)]
      have hk':¬ ((k:Int)=1):=by omega
      simp -implicitDefEqProofs [Z14,Z14_B,af,e1,e2,e3,hlt,fo,hk']
    | cons y L=>
     rw [decide_eq_false (fun h0=>by obtain ⟨q',h⟩:=key.2 h0; simp at h)]
     have hk':¬ (((L.length:Int)+1+1)=1):=by omega
     simp -implicitDefEqProofs [Z14,Z14_B,af,e1,e2,e3,hlt,hk']
  ·have hlt:((a.len:Int)-1<1):=by omega
   have hlt2:((a.len:Int)<2):=by omega
   rw [decide_eq_false (fun h=>h2 h.2.len)]
   simp -implicitDefEqProofs [Z14,Z14_B,af,e1,e2,hlt]
 ·have h1':=mt (tz a.ld).1 h1
  rw [decide_eq_false (fun h=>h1 h.1.1)]
  simp -implicitDefEqProofs [Z14,Z14_B,af,e1,h1']
structure Fld {p:Int} [IsP p] (m:Fp p):Prop where
 mon:Monic m
 two:2≤m.len
 five:m.len≤5
 irr:Irr m
end Pe



namespace Pe
open Go Gq
variable {T:Nat→Option Fn} {A:ah}
end Pe

namespace Pe
open Go Gq
variable {T:Nat→Option Fn} {A:ah}
section
variable {p:Int} [IsP p]
end
end Pe

namespace Pe
open Go Gq
variable {T:Nat→Option Fn} {A:ah}
section
variable {p:Int} [IsP p]
end
end Pe



namespace Pe
open Go Gq
variable {T:Nat→Option Fn} {A:ah}
end Pe


namespace Pe
open Go Gq
variable {T:Nat→Option Fn} {A:ah}
end Pe

namespace Pe
open Go Gq
variable {T:Nat→Option Fn} {A:ah}
section
variable {p:Int} [IsP p]
end
section
variable {p:Int}
end
end Pe


namespace Pe
open Go Gq
variable {T:Nat→Option Fn} {A:ah}
end Pe

namespace Pe
open Go Gq
variable {T:Nat→Option Fn} {A:ah}
end Pe

namespace Pe
open Go Gq
variable {T:Nat→Option Fn} {A:ah}
section
variable {p:Int}
end
section
variable {p:Int} [IsP p]
end
end Pe

namespace Pe
open Go Gq
variable {T:Nat→Option Fn} {A:ah}
end Pe

namespace Pe
open Go Gq
variable {T:Nat→Option Fn} {A:ah}
section
variable {p:Int}
end
section
variable {p:Int} [IsP p]
end
end Pe

namespace Pe
open Go Gq
variable {T:Nat→Option Fn} {A:ah}
end Pe

namespace Pe
open Go Gq
variable {T:Nat→Option Fn} {A:ah}
end Pe

namespace Pe
open Go Gq
variable {T:Nat→Option Fn} {A:ah}
section
variable {p:Int}
end
section
variable {p:Int} [IsP p]
end
section
variable {p:Int}
end
section
variable {p:Int} [IsP p]
end
end Pe

namespace Pe
open Go Gq
variable {T:Nat→Option Fn} {A:ah}
section
variable {p:Int} [IsP p]
end
end Pe



namespace Pe
open Go Gq
variable {T:Nat→Option Fn} {A:ah}
abbrev z6:List Int:=List.replicate 6 0
section
variable {p:Int} [IsP p]
noncomputable def mono (p:Int) (i:Nat):Fp p:=du p (p^i)
end
end Pe

namespace Pe
open Go Gq
variable {T:Nat→Option Fn} {A:ah}
section
variable {O:ah} {g:Nat} {first caps:List D}
structure CmpRow (O:ah) (g:Nat) (first caps:List D) (f:D→Int) (s:Sh) (cs:List D):Prop where
 nf:tq first
 nc:tq caps
 nx:tq cs
 sh:ud s cs
 ask:∀x∈cs,∀y∈cs,∃v:Int,ask O g (first++[x,y]++caps)=some (D.int .i64 v)∧(v<0↔f x<f y)
theorem CmpRow.perm {f:D→Int} {s:Sh} {cs ds:List D} (h:CmpRow O g first caps f s cs) (p:ds.Perm cs):CmpRow O g first caps f s ds:=
 ⟨h.nf,h.nc,fun x hx=>h.nx x (p.subset hx),fun x hx=>h.sh x (p.subset hx),fun x hx y hy=>h.ask x (p.subset hx) y (p.subset hy)⟩
theorem CmpRow.call {f:D→Int} {s:Sh} {cs:List D} (h:CmpRow O g first caps f s cs) {hp:Heap} {np:Nat} {news:List Nat} {x y:D} (hx:x∈cs) (hy:y∈cs) :
 ∃v:Int,yn O np hp .flat news (g,first.map .d,caps.map .d) [.d x,.d y]=some (.d (D.int .i64 v),hp)∧(v<0↔f x<f y):=by
 have e:ll hp (first.map .d++[.d x,.d y]++caps.map .d)=some (first++[x,y]++caps):=
  re hp (re hp (jx hp h.nf) (jx hp (ds:=[x,y]) (by intro z hz; simp at hz; rcases hz with rfl | rfl; exact h.nx _ hx; exact h.nx _ hy))) (jx hp h.nc)
 obtain ⟨v,e1,e2⟩:=h.ask x hx y hy;refine ⟨v,?_,e2⟩;rw [xu,e,ac,Db,e1,ac,A1,show (D.int IntKind.i64 v).flat=true from rfl,if_pos rfl]
end
end Pe

namespace Pe
open Go Gq
variable {T:Nat→Option Fn} {A:ah}
section
variable {p:Int}
noncomputable def elim (a b:Fp p):Fp p:=b+Pol.C (-(b.c (a.len-1)))*a
noncomputable abbrev jr (a:Fp p):D:=(D.sl .leaf (ak .i64 (row a)))
end
section
variable {p:Int} [IsP p]
structure Desc (N:Nat) (L:List (Fp p)):Prop where
 pw:L.Pairwise fun x y=>y.len<x.len
 mon:∀b∈L,Monic b
 le:∀b∈L,b.len≤N
theorem Desc.nil (N:Nat):Desc N ([]:List (Fp p)):=⟨List.Pairwise.nil,(fun _ h=>by cases h),(fun _ h=>by cases h)⟩
theorem Desc.tail {N:Nat} {b:Fp p} {L:List (Fp p)} (h:Desc N (b::L)):Desc N L∧∀c∈L,c.len<b.len:=
 ⟨⟨h.pw.tail,fun c hc=>h.mon c (by simp [hc]),fun c hc=>h.le c (by simp [hc])⟩,(db.1 h.pw).1⟩
theorem Desc.length:∀{N:Nat} {L:List (Fp p)},Desc N L→L.length≤N
 | N,[],_=>jn _
 | N,b::L,h=>by
  obtain ⟨h1,h2⟩:=h.tail;have hb:=Pol.len_pos (h.mon b (by simp)).2
  have hle:=h.le b (by simp)
  have:=Desc.length (N:=b.len-1) ⟨h1.pw,h1.mon,fun c hc=>by have:=h2 c hc; omega⟩
  rw [cl]; omega
end
section
variable {p:Int}
end
end Pe

namespace Pe
open Go Gq
variable {T:Nat→Option Fn} {A:ah}
section
variable {p:Int} [IsP p]
end
end Pe



namespace Pe
open Go Gq
variable {T:Nat→Option Fn} {A:ah}
noncomputable abbrev mw {p:Int} (a:Fp p):D:=(D.arr 64 .leaf (ak .u8 (pad (row a))))
section
variable {p:Int} [IsP p]
theorem Nf {O:ah} (hpo:zg O) {xs:List (Fp p)} (hl:xs.length<2000000) (hx:∀x∈xs,x.len≤64):∀(r i:Nat) (cp:Option Nat),i+r=xs.length→∃cp':Option Nat,
 dn O 0 (.loop Zu_L0) ⟨[(3,.sl 0 [] 0 i cp),(6,.d (.sl .leaf (xs.map jr))),(7,(.d (.int .i64 xs.length))),(8,(.d (.int .i64 i)))],[.sl false (.arr 64 .leaf) ((xs.take i).map mw),.hole,.hole]⟩ =
  some (.exit 0,⟨[(3,.sl 0 [] 0 xs.length cp'),(6,.d (.sl .leaf (xs.map jr))),(7,(.d (.int .i64 xs.length))),(8,(.d (.int .i64 xs.length))),(9,(.d (.bool false)))],[.sl false (.arr 64 .leaf) (xs.map mw),.hole,.hole]⟩)
 | 0,i,cp,hi=>by
  obtain rfl:i=xs.length:=by omega
  rw [m6];refine ⟨cp,bo ?_⟩;generalize xs.map mw=XD at *;generalize xs.map jr=RD at *;simp -implicitDefEqProofs [Zu_L0,af]
 | r+1,i,cp,hi=>by
  have hlt:i<xs.length:=by omega
  have hm:=ce hlt;have e1:=hpo p xs[i] (hx _ hm);have hXD:(xs.map jr).length=xs.length:=c7 ..;have hxi:∀h:i<(xs.map jr).length,(xs.map jr)[i]'h=(D.sl .leaf (ak .i64 (row xs[i]))):=fun h=>by rw [m7]
  have w4:IntKind.i64.wrap ((i:Int)+1)=((i+1:Nat):Int):=(w64 (x:=(i:Int)+1) (by omega)).trans (by omega)
  have h24:(i+1)*64≤1099511627776:=by omega
  have htk:(xs.take (i+1)).map mw=(xs.take i).map mw++[(D.arr 64 .leaf (ak .u8 (pad (row xs[i]))))]:=by rw [List.take_succ_eq_append_getElem hlt,gq]; rfl
  have hL:((xs.take i).map mw).length=i:=by rw [c7,bp]; omega
  have htt:((xs.take i).map mw).take i=(xs.take i).map mw:=aw (by omega)
  obtain ⟨cp',ih⟩:=Nf hpo hl hx r (i+1) none (by omega)
  refine ⟨cp',bb ?_ ih⟩;rw [htk];generalize pad (row xs[i])=Pi at *;generalize row xs[i]=Ri at *;generalize (xs.take i).map mw=TD at *;generalize xs.map jr=XD at *;simp -implicitDefEqProofs [Zu_L0,af,hlt,hXD,hxi,e1,h24,hL,htt,w4,List.replicate]
def Gl (O:ah):Prop:=∀(p:Int) [IsP p] (xs:List (Fp p)),xs.length<2000000→(∀x∈xs,x.len≤64)→ask O Fu [.sl .leaf (xs.map jr)]=some (.sl (.arr 64 .leaf) (xs.map mw))
end
theorem Wa (hT:T Fu=some Zu) (hpo:zg (den T A)):Gl (den T A):=by
 intro p ip xs hl hx;obtain ⟨cp,e⟩:=Nf (O:=den T A) hpo hl hx xs.length 0 (some 0) (bf _);have e00:((0:Nat):Int)=0:=rfl;rw [e00,g7,iu] at e;have h1:(xs.map mw).length=xs.length:=c7 ..;have h2:(xs.map jr).length=xs.length:=c7 ..;have htk:(xs.map mw).take xs.length=xs.map mw:=aw (by omega)
 refine bc hT rfl ?_;generalize xs.map mw=XD at *;generalize xs.map jr=RD at *;simp -implicitDefEqProofs [Zu,Zu_B,h1,h2,htk,e]
end Pe

namespace Pe
open Go Gq
variable {T:Nat→Option Fn} {A:ah}
abbrev Li (code:List Int) (at_:Nat) (h:Int):Blk:=.box false (.st [.leaf,.leaf,.leaf] [.sl .leaf (ak .u8 code),.int .i64 at_,.int .u64 h])
def Src (b:Blk):Prop:=∃(code:List Int) (at_:Nat) (h:Int),b=Li code at_ h∧at_≤code.length∧code.length≤1099511627776∧ft code
theorem U6 {n:Nat} (h:n≤16777215):IntKind.u64.wrap (n:Int)=n:=by
 simp [IntKind.wrap,IntKind.bits,IntKind.signed]; omega
theorem Wp (x:Int):0≤Qz .u64 x 16777215∧Qz .u64 x 16777215≤16777215:=by
 have h1:(BitVec.ofInt 64 x &&& BitVec.ofInt 64 16777215).toNat≤16777215:=by
  rw [BitVec.toNat_and];exact Nat.and_le_right
 have h2:Qz .u64 x 16777215=((BitVec.ofInt 64 x &&& BitVec.ofInt 64 16777215).toNat:Int):=U6 h1;rw [h2];omega
theorem Xi:(2:Int)^min 33 IntKind.u64.bits=8589934592:=rfl
def om (O:ah) (F:Nat):Prop:=∀(b:Blk) (n:Int),Src b→n≤4611686018427387904→∃(x:Int) (b':Blk),O F [.ptr 0 [],(.d (.int .i64 n))] [b]=some ((.d (.int .i64 x)),[b'],[])∧Src b'∧0≤x∧(x<n∨x=0)
theorem a07 (hT:T F3b=some Z3b):om (den T A) F3b:=by
 rintro b n ⟨code,k,h,rfl,hk,hc,hb⟩ hn
 by_cases h1:n<1
 ·refine ⟨0,_,jb hT rfl ?_,⟨code,k,h,rfl,hk,hc,hb⟩,lf _,.inr rfl⟩
  simp -implicitDefEqProofs [Z3b,Z3b_B,af,h1]
 ·obtain ⟨hh,hhh⟩:∃hh:Int,IntKind.u64.wrap (IntKind.u64.wrap (h*6364136223846793005)+1442695040888963407)=hh:=⟨_,rfl⟩
  have hx:=Wp (hh.fdiv 8589934592);obtain ⟨x,hX⟩:∃x:Int,Qz .u64 (hh.fdiv 8589934592) 16777215=x:=⟨_,rfl⟩;rw [hX] at hx;have w0:IntKind.i64.wrap x=x:=w64 (by omega)
  have hn0:¬ n=0:=by omega
  have tm:∀y:Int,0≤y→0≤y.tmod n∧y.tmod n<n:=fun y hy=>by
   rw [c8 hy];exact ⟨co _ hn0,cd _ (by omega)⟩
  by_cases h2:k<code.length
  ·have hbk:=hb _ (ce h2)
   have h2':(k:Int)<code.length:=by omega
   have w1:IntKind.i64.wrap code[k]=code[k]:=w64 (by omega)
   have w2:IntKind.i64.wrap (x+code[k])=x+code[k]:=w64 (by omega)
   have w3:IntKind.i64.wrap ((k:Int)+1)=((k+1:Nat):Int):=(w64 (x:=(k:Int)+1) (by omega)).trans (by omega)
   obtain ⟨t1,t2⟩:=tm (x+code[k]) (by omega)
   refine ⟨(x+code[k]).tmod n,Li code (k+1) hh,jb hT rfl ?_,⟨code,k+1,hh,rfl,by omega,hc,hb⟩,t1,.inl t2⟩
   simp -implicitDefEqProofs [Z3b,Z3b_B,af,t5,Xi,h1,hn0,h2,h2',hhh,hX,w0,w1,w2,w3]
  ·have h2':¬ (k:Int)<code.length:=by omega
   obtain ⟨t1,t2⟩:=tm x (by omega)
   refine ⟨x.tmod n,Li code k hh,jb hT rfl ?_,⟨code,k,hh,rfl,hk,hc,hb⟩,t1,.inl t2⟩;simp -implicitDefEqProofs [Z3b,Z3b_B,af,t5,Xi,h1,hn0,h2',hhh,hX,w0]
theorem Ue {O:ah} {code:List Int} (hc:code.length≤4096) (hb:ft code):∀(r i:Nat) (h:Int),i+r=code.length→∃h':Int,
 dn O 0 (.loop Z31_L0) ⟨[(0,.d (.sl .leaf (ak .u8 code))),(3,.ptr 0 []),(4,(.d (.int .i64 i)))],[Li code 0 h]⟩ =
  some (.exit 0,⟨[(0,.d (.sl .leaf (ak .u8 code))),(3,.ptr 0 []),(4,(.d (.int .i64 code.length))),(19,(.d (.bool false)))],[Li code 0 h']⟩)
 | 0,i,h,hi=>by
  obtain rfl:i=code.length:=by omega
  refine ⟨h,bo ?_⟩;simp -implicitDefEqProofs [Z31_L0,af]
 | r+1,i,h,hi=>by
  have hlt:i<code.length:=by omega
  have hlt':(i:Int)<code.length:=by omega
  have hq:(i:Int)<4096:=by omega
  have hbk:=hb _ (ce hlt);have w4:IntKind.i64.wrap ((i:Int)+1)=((i+1:Nat):Int):=(w64 (x:=(i:Int)+1) (by omega)).trans (by omega)
  obtain ⟨h2,hh2⟩:∃h2:Int,IntKind.u64.wrap (IntKind.u64.wrap (IntKind.u64.wrap (h*1099511628211)+IntKind.u64.wrap code[i])+61)=h2:=⟨_,rfl⟩;obtain ⟨h',ih⟩:=Ue hc hb r (i+1) h2 (by omega)
  refine ⟨h',bb ?_ ih⟩;simp -implicitDefEqProofs [Z31_L0,af,hlt,hlt',hq,w4,hh2]
def A0 (O:ah):Prop:=∀code:List Int,ft code→code.length≤4096→∃b:Blk,O F31 [.d (.sl .leaf (ak .u8 code))] []=some (.ptr 0 [],[],[b])∧Src b
theorem Y3 (hT:T F31=some Z31):A0 (den T A):=by
 intro code hb hc;obtain ⟨h0,hh0⟩:∃h0:Int,IntKind.u64.wrap (12251+IntKind.u64.wrap (code.length:Int))=h0:=⟨_,rfl⟩;obtain ⟨h',e⟩:=Ue (O:=den T A) hc hb code.length 0 h0 (bf _);rw [show ((0:Nat):Int)=0 from rfl,show Li code 0 h0=.box false (.st [.leaf,.leaf,.leaf] [.sl .leaf (ak .u8 code),.int .i64 0,.int .u64 h0]) from rfl] at e;refine ⟨Li code 0 h',jb hT rfl ?_,⟨code,0,h',rfl,jn _,by omega,hb⟩⟩
 simp -implicitDefEqProofs [Z31,Z31_B,hh0,e,List.idxOf,List.findIdx,List.findIdx.go]
def uq (O:ah):Prop:=∀(b:Blk) (l:List Int) (n:Nat) (cp:Option Nat),Src b→l.length=n→0<n→n≤100→∃(x:Int) (b':Blk),O F3e [.ptr 0 [],.sl 1 [] 0 n cp] [b,.sl false .leaf (ak .i64 l)]=some ((.d (.int .i64 x)),[b',.sl false .leaf (ak .i64 l)],[])∧Src b'∧x∈l
theorem a0q (hT:T F3e=some Z3e) (hn:om (den T A) F3b):uq (den T A):=by
 rintro b l n cp hs hl hpos hm
 obtain ⟨x,b',e,hs',h0,h1⟩:=hn b n hs (by omega)
 obtain ⟨k,rfl⟩:∃k:Nat,x=k:=⟨x.toNat,by omega⟩
 have hk:k<n:=by omega
 have hkl:k<l.length:=by omega
 obtain ⟨c,a,h,rfl,_⟩:=id hs;obtain ⟨c',a',h',rfl,_⟩:=id hs';refine ⟨l[k],_,jb hT rfl ?_,hs',ce hkl⟩;simp -implicitDefEqProofs [Z3e,Z3e_B,e,hk,hl,List.idxOf,List.findIdx,List.findIdx.go]
end Pe
