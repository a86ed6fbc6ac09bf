/-
  A part of the proof: an evaluator for a small form of the code, its soundness, and contracts of functions over it.
-/
import Derived.Test.YtcefdljcmgjpeaaGreatW1
import Derived.Test.YtcefdljcmgjpeaaGreatW2
import Derived.Test.YtcefdljcmgjpeaaGreatW3
import Derived.Test.YtcefdljcmgjpeaaGreatW4

namespace Pe
open Go Gq
variable {T:Nat→Option Fn} {A:ap}
def na (O:ap):Prop:=∀(p:Int) [IsP p] (x:Int),0<x→x<p→ask O F3q [(D.int .i64 p),.int .u8 x]=some (.int .u8 (inv p x))
theorem jx {F:Nat} {fn:Fn} (hT:T F=some fn) {ds:List D} {d:D} {n:Nat} (h:run (fun _ _ _=>none) n fn (ds.map .d) []=some (.d d,[],[])):ask (den T A) F ds=some d:=by
 have h2:=P8 (A:=A) hT (n:=n) (vs:=ds.map .d) (bs:=[]) (ans:=(.d d,[],[])) (by
  obtain ⟨qs,h3,h4⟩:=Bo h;cases qs with
  | nil=>exact h4 _ (by intro q hq; simp at hq)
  | cons q qs=>exact absurd (h3 q (by simp)) (by simp))
 unfold ask;rw [h2];simp
theorem Vr (hT:T F3q=some Z3q):na (den T A):=by
 intro p ip x h0 h1;rcases ip.h with rfl | rfl | rfl | rfl
 ·obtain rfl:x=1:=by omega
  exact jx hT (n:=10) (by kernel_rfl)
 ·have:x=1∨x=2:=by omega
  rcases this with rfl | rfl
  ·exact jx hT (n:=10) (by kernel_rfl)
  ·exact jx hT (n:=10) (by kernel_rfl)
 ·have:x=1∨x=2∨x=3∨x=4:=by omega
  rcases this with rfl | rfl | rfl | rfl
  ·exact jx hT (n:=10) (by kernel_rfl)
  ·exact jx hT (n:=10) (by kernel_rfl)
  ·exact jx hT (n:=10) (by kernel_rfl)
  ·exact jx hT (n:=10) (by kernel_rfl)
 ·have:x=1∨x=2∨x=3∨x=4∨x=5∨x=6:=by omega
  rcases this with rfl | rfl | rfl | rfl | rfl | rfl
  ·exact jx hT (n:=10) (by kernel_rfl)
  ·exact jx hT (n:=10) (by kernel_rfl)
  ·exact jx hT (n:=10) (by kernel_rfl)
  ·exact jx hT (n:=10) (by kernel_rfl)
  ·exact jx hT (n:=10) (by kernel_rfl)
  ·exact jx hT (n:=10) (by kernel_rfl)
theorem L8 {p:Int} [IsP p] {l:List Int} (h:Can p l) (hl:l.length=64):l=pad (row (fe p l)):=by
 rw [←re h]
 symm
 apply Jh hl;intro i hi;rw [re h,ft,jy,O0 (h.le IsP.pos i)]
theorem yq {p:Int} [IsP p] (a:Fp p):Can p (pad (row a)):=fun x hx=>by
 obtain ⟨i,_,rfl⟩:=ch.1 hx;exact (ll a).le IsP.pos i
theorem jn {p:Int} {a:Fp p} (hl:a.len≤64):fe p (pad (row a))=a:=Pol.ext fun i=>by rw [jy,Am (by rw [bi]; exact hl),ft,jq]
theorem p9 {p:Int} {a:Fp p} (hl:a.len≤64) (i:Nat):cf (pad (row a)) i=rep (a.c i):=by rw [Am (by rw [bi]; exact hl),ft]
theorem a4w {O:ap} {p k:Int} [IsP p] {a b z:List Int} (ha:Can p a) (hb:Can p b) (hbl:b.length=64) (hk:-1000000≤k∧k≤1000000):∀(m i:Nat) (cur:List Int),i+m=64→cur.length=64→(∀j,i≤j→cf cur j=cf a j) →
 dn O 0 (.loop Z3e_L0) ⟨[(0,(.d (.int .i64 p))),(3,(.d (.int .i64 k))),(5,.ptr 0 []),(6,.ptr 1 []),(8,.ptr 2 []),(9,(.d (.int .i64 i)))],[.box false (D.arr 64 .leaf (af .u8 cur)),.box false (D.arr 64 .leaf (af .u8 b)),.box false (D.arr 64 .leaf (af .u8 z))]⟩ =
  some (.exit 0,⟨[(0,(.d (.int .i64 p))),(3,(.d (.int .i64 k))),(5,.ptr 0 []),(6,.ptr 1 []),(8,.ptr 2 []),(9,(.d (.int .i64 64))),(11,(.d (.bool false)))],[.box false (D.arr 64 .leaf (af .u8 (upd (lin p a b k) m i cur))),.box false (D.arr 64 .leaf (af .u8 b)),.box false (D.arr 64 .leaf (af .u8 z))]⟩)
 | 0,i,cur,hi,hc,hs=>by
  obtain rfl:i=64:=by omega
  exact cm (by simp -implicitDefEqProofs [Z3e_L0,aw,upd])
 | m+1,i,cur,hi,hc,hs=>by
  have hp:=IsP.pos (p:=p);have hp7:=IsP.le (p:=p);have hp0:p≠0:=by omega
  have hlt:i<cur.length:=by omega
  have hlb:i<b.length:=by omega
  have hi64:i<64:=by omega
  have hi64':(i:Int)<64:=by omega
  have hx:cur[i]=cf a i:=by rw [←gu hlt]; exact hs i (bh i)
  have hy:b[i]=cf b i:=(gu hlb).symm;have ga:=ha.le hp i;have gb:=hb.le hp i;have gm:=m7 (x:=k) (y:=cf b i) (b:=1000000) (c:=10) hk (by omega) (by omega)
  have w1:IntKind.i64.wrap (cf a i)=cf a i:=w64 (by omega)
  have w2:IntKind.i64.wrap (cf b i)=cf b i:=w64 (by omega)
  have w3:IntKind.i64.wrap (k*cf b i)=k*cf b i:=w64 (by omega)
  have w5:IntKind.i64.wrap (cf a i+k*cf b i)=cf a i+k*cf b i:=w64 (by omega)
  have hin:=Ej (n:=cf a i+k*cf b i) hp;have w6:IntKind.i64.wrap ((cf a i+k*cf b i).tmod p+p)=(cf a i+k*cf b i).tmod p+p:=w64 (by omega)
  have w7:((cf a i+k*cf b i).tmod p+p).tmod p=lin p a b k i:=Bm hp;have hlin:0≤lin p a b k i∧lin p a b k i<p:=⟨ep _ (by omega),dl _ hp⟩
  have w8':IntKind.u8.wrap (lin p a b k i)=lin p a b k i:=w8 (by omega)
  have w4:IntKind.i64.wrap ((i:Int)+1)=((i+1:Nat):Int):=(w64 (x:=(i:Int)+1) (by omega)).trans (by omega)
  refine cg ?_ (a4w ha hb hbl hk m (i+1) (cur.set i (lin p a b k i)) (by omega) (by simpa using hc) (fun j hj=>by rw [t8,if_neg (by omega)]; exact hs j (by omega)))
  simp -implicitDefEqProofs [Z3e_L0,aw,hlt,hlb,hi64,hi64',hx,hy,w1,w2,w3,w5,w6,w7,w8',w4,hp0]
def mf (O:ap):Prop:=∀(p:Int) [IsP p] (k:Int) (a b:Fp p),-1000000≤k→k≤1000000→a.len≤64→b.len≤64 →
 ask O F3e [(D.int .i64 p),(D.arr 64 .leaf (af .u8 (pad (row a)))),(D.arr 64 .leaf (af .u8 (pad (row b)))),(D.int .i64 k)]=some (D.arr 64 .leaf (af .u8 (pad (row (a+Pol.C (zp p k)*b)))))
theorem aca (hT:T F3e=some Z3e):mf (den T A):=by
 intro p i k a b hk hk' hal hbl;have e:=a4w (O:=den T A) (z:=pad []) (yq a) (yq b) (c8 _) ⟨hk,hk'⟩ 64 0 (pad (row a)) (by omega) (c8 _) (fun _ _=>rfl)
 have e0:((0:Nat):Int)=0:=rfl;rw [e0,Nz _ _ _ (c8 _)] at e
 have e2:(List.range 64).map (lin p (pad (row a)) (pad (row b)) k)=pad (row (a+Pol.C (zp p k)*b)):=by
  unfold pad
  congr 1
  funext j
  rw [ft,Pol.c_add,Pol.c_Cmul];show (cf (pad (row a)) j+k*cf (pad (row b)) j)%p=_;rw [p9 hal,p9 hbl,←Jk,W2,B5,jq,jq]
 rw [e2] at e;refine c9 hT rfl ?_;generalize pad (row (a+Pol.C (zp p k)*b))=R at *;simp -implicitDefEqProofs [Z3e,Z3e_B,e]
def Jd (O:ap):Prop:=∀(p:Int) [IsP p],ask O F3y []=some (D.arr 64 .leaf (af .u8 (pad (row (1:Fp p)))))
theorem abt (hT:T F3y=some Z3y):Jd (den T A):=by
 intro p i;have e:(pad []).set 0 1=pad [1]:=by decide +kernel
 have h0:(0:Nat)<(pad []).length:=by rw [c8]; omega
 rw [tf];refine c9 hT rfl ?_;simp -implicitDefEqProofs [Z3y,Z3y_B,e,h0]
def Nl (p q:Int) (b:List Int) (i:Nat) (m:Nat) (cur:List Int):List Int:=if q=0 then cur else ov p q b i m 0 cur
theorem Ox {p q:Int} [IsP p] {b cur:List Int} {i m:Nat} (hc:Can p cur) (hl:i+m≤cur.length):Nl p q b i m cur=ov p q b i m 0 cur:=by
 unfold Nl
 split
 ·rename_i h
  subst h;apply qb
  ·rw [oh]
  ·intro j h1 h2
   rw [←gu h1,←gu h2,A4 _ _ _ _ _ _ _ _ (by omega)]
   have:=hc.le IsP.pos j
   split
   ·rw [Int.zero_mul,Int.sub_zero,n6 this.1 this.2]
   ·rfl
 ·rfl
theorem Wr {O:ap} {p q by_:Int} [IsP p] {b quo z z':List Int} {i bl:Nat} (hq:0<q∧q<p) (hb:Can p b) (hbl:b.length=64) (hn:i+bl≤64) (h0:0<bl):∀(m k:Nat) (cur:List Int),k+m=bl→cur.length=64→Can p cur →
 dn O 0 (.loop Z3j_L0) ⟨[(0,(.d (.int .i64 p))),(4,.ptr 0 []),(5,.ptr 1 []),(6,.ptr 2 []),(7,.ptr 3 []),(8,.ptr 4 []),(9,(.d (.int .i64 ((bl:Int)-1)))),(10,(.d (.int .i64 by_))),(11,(.d (.int .i64 ((i:Int)+bl-1)))),(12,(.d (.int .i64 q))),(13,(.d (.int .i64 k)))],[.box false (D.arr 64 .leaf (af .u8 cur)),.box false (D.arr 64 .leaf (af .u8 b)),.box false (D.arr 64 .leaf (af .u8 z)),.box false (D.arr 64 .leaf (af .u8 z')),.box false (D.arr 64 .leaf (af .u8 quo))]⟩ =
  some (.exit 2,⟨[(0,(.d (.int .i64 p))),(4,.ptr 0 []),(5,.ptr 1 []),(6,.ptr 2 []),(7,.ptr 3 []),(8,.ptr 4 []),(9,(.d (.int .i64 ((bl:Int)-1)))),(10,(.d (.int .i64 by_))),(11,(.d (.int .i64 ((i:Int)+bl-1)))),(12,(.d (.int .i64 q))),(13,(.d (.int .i64 bl))),(50,(.d (.bool false)))],[.box false (D.arr 64 .leaf (af .u8 (ov p q b i m k cur))),.box false (D.arr 64 .leaf (af .u8 b)),.box false (D.arr 64 .leaf (af .u8 z)),.box false (D.arr 64 .leaf (af .u8 z')),.box false (D.arr 64 .leaf (af .u8 quo))]⟩)
 | 0,k,cur,hk,hc,hcan=>by
  obtain rfl:k=bl:=by omega
  have h1:¬ (k:Int)≤(k:Int)-1:=by omega
  exact cm (by simp -implicitDefEqProofs [Z3j_L0,aw,ov,h1])
 | m+1,k,cur,hk,hc,hcan=>by
  have hp:=IsP.pos (p:=p);have hp7:=IsP.le (p:=p);have hp0:p≠0:=by omega
  have hq0:q≠0:=by omega
  have h1:(k:Int)≤(bl:Int)-1:=by omega
  have w1:IntKind.i64.wrap ((i:Int)+bl-1-(bl-1))=i:=(w64 (x:=(i:Int)+bl-1-(bl-1)) (by omega)).trans (by omega)
  have w2:IntKind.i64.wrap ((i:Int)+k)=((i+k:Nat):Int):=(w64 (x:=(i:Int)+k) (by omega)).trans (by omega)
  have hik:i+k<64:=by omega
  have hikc:i+k<cur.length:=by omega
  have hkb:k<b.length:=by omega
  have hk64:k<64:=by omega
  have hx:cur[i+k]=cf cur (i+k):=(gu hikc).symm;have hy:b[k]=cf b k:=(gu hkb).symm;have gc:=hcan.le hp (i+k);have gb:=hb.le hp k;have gm:=m7 (x:=q) (y:=cf b k) (b:=10) (c:=10) (by omega) (by omega) (by omega)
  have w3:IntKind.i64.wrap (cf cur (i+k))=cf cur (i+k):=w64 (by omega)
  have w5:IntKind.i64.wrap (cf b k)=cf b k:=w64 (by omega)
  have w6:IntKind.i64.wrap (q*cf b k)=q*cf b k:=w64 (by omega)
  have w7:IntKind.i64.wrap (cf cur (i+k)-q*cf b k)=cf cur (i+k)-q*cf b k:=w64 (by omega)
  have hin:=Ej (n:=cf cur (i+k)-q*cf b k) hp;have w9:IntKind.i64.wrap ((cf cur (i+k)-q*cf b k).tmod p+p)=(cf cur (i+k)-q*cf b k).tmod p+p:=w64 (by omega)
  have w10:((cf cur (i+k)-q*cf b k).tmod p+p).tmod p=(cf cur (i+k)-q*cf b k)%p:=Bm hp;have hlin:0≤(cf cur (i+k)-q*cf b k)%p∧(cf cur (i+k)-q*cf b k)%p<p:=⟨ep _ (by omega),dl _ hp⟩
  have w11:IntKind.u8.wrap ((cf cur (i+k)-q*cf b k)%p)=(cf cur (i+k)-q*cf b k)%p:=w8 (by omega)
  have w4:IntKind.i64.wrap ((k:Int)+1)=((k+1:Nat):Int):=(w64 (x:=(k:Int)+1) (by omega)).trans (by omega)
  have t1:(0:Int)≤(i:Int)+k:=by omega
  have t2:((i:Int)+k).toNat=i+k:=by omega
  have hcan':Can p (cur.set (i+k) ((cf cur (i+k)-q*cf b k)%p)):=by
   intro x hx;rcases fk hx with h | h
   ·exact hcan x h
   ·subst h; exact hlin
  refine cg ?_ (Wr hq hb hbl hn h0 m (k+1) (cur.set (i+k) ((cf cur (i+k)-q*cf b k)%p)) (by omega) (by simpa using hc) hcan')
  simp -implicitDefEqProofs [Z3j_L0,aw,h1,hq0,w1,w2,hik,hikc,hkb,hk64,hx,hy,w3,w5,w6,w7,w9,w10,w11,w4,hp0,t1,t2]
theorem Xt {O:ap} {p by_:Int} [IsP p] {b:List Int} {bl:Nat} {z z':List Int} (hby:0≤by_∧by_<p) (hb:Can p b) (hbl:b.length=64) (h0:0<bl):∀(c:Nat) (cur quo:List Int),c+bl≤65→cur.length=64→quo.length=64→Can p cur →
 dn O 0 (.loop Z3j_L1) ⟨[(0,(.d (.int .i64 p))),(4,.ptr 0 []),(5,.ptr 1 []),(6,.ptr 2 []),(7,.ptr 3 []),(8,.ptr 4 []),(9,(.d (.int .i64 ((bl:Int)-1)))),(10,(.d (.int .i64 by_))),(11,(.d (.int .i64 ((c:Int)+bl-2))))],[.box false (D.arr 64 .leaf (af .u8 cur)),.box false (D.arr 64 .leaf (af .u8 b)),.box false (D.arr 64 .leaf (af .u8 z)),.box false (D.arr 64 .leaf (af .u8 z')),.box false (D.arr 64 .leaf (af .u8 quo))]⟩ =
  some (.exit 0,⟨[(0,(.d (.int .i64 p))),(4,.ptr 0 []),(5,.ptr 1 []),(6,.ptr 2 []),(7,.ptr 3 []),(8,.ptr 4 []),(9,(.d (.int .i64 ((bl:Int)-1)))),(10,(.d (.int .i64 by_))),(11,(.d (.int .i64 ((bl:Int)-2)))),(27,(.d (.bool false)))],[.box false (D.arr 64 .leaf (af .u8 ((dv p by_ (b.take bl) c (cur,quo)).1))),.box false (D.arr 64 .leaf (af .u8 b)),.box false (D.arr 64 .leaf (af .u8 z)),.box false (D.arr 64 .leaf (af .u8 z')),.box false (D.arr 64 .leaf (af .u8 ((dv p by_ (b.take bl) c (cur,quo)).2)))]⟩)
 | 0,cur,quo,_,hc,hqo,hcan=>by
  have h1:¬ (bl:Int)-1≤(bl:Int)-2:=by omega
  have t0:((0:Nat):Int)+bl-2=(bl:Int)-2:=by omega
  rw [t0];exact cm (by simp -implicitDefEqProofs [Z3j_L1,aw,h1,dv])
 | c+1,cur,quo,hcb,hc,hqo,hcan=>by
  have hp:=IsP.pos (p:=p);have hp7:=IsP.le (p:=p);have hp0:p≠0:=by omega
  have hbt:(b.take bl).length=bl:=by rw [bv]; omega
  have t0:((c+1:Nat):Int)+bl-2=(c:Int)+bl-1:=by omega
  rw [t0];have h1:(bl:Int)-1≤(c:Int)+bl-1:=by omega
  have hi64:c+bl-1<64:=by omega
  have hic:c+bl-1<cur.length:=by omega
  have t1:(0:Int)≤(c:Int)+bl-1:=by omega
  have t2:((c:Int)+bl-1).toNat=c+bl-1:=by omega
  have t3:(1:Int)≤(c:Int)+bl:=by omega
  have hx:cur[c+bl-1]=cf cur (c+bl-1):=(gu hic).symm;have gc:=hcan.le hp (c+bl-1);have gm:=m7 (x:=cf cur (c+bl-1)) (y:=by_) (b:=10) (c:=10) (by omega) (by omega) (by omega)
  have w1:IntKind.i64.wrap (cf cur (c+bl-1))=cf cur (c+bl-1):=w64 (by omega)
  have w2:IntKind.i64.wrap (cf cur (c+bl-1)*by_)=cf cur (c+bl-1)*by_:=w64 (by omega)
  have w3:(cf cur (c+bl-1)*by_).tmod p=cf cur (c+bl-1)*by_%p:=ee (fw gc.1 hby.1);have hq:0≤cf cur (c+bl-1)*by_%p∧cf cur (c+bl-1)*by_%p<p:=⟨ep _ hp0,dl _ hp⟩;have w4:IntKind.i64.wrap ((c:Int)+bl-1-(bl-1))=c:=(w64 (x:=(c:Int)+bl-1-(bl-1)) (by omega)).trans (by omega)
  have w5:IntKind.u8.wrap (cf cur (c+bl-1)*by_%p)=cf cur (c+bl-1)*by_%p:=w8 (by omega)
  have hc64:c<64:=by omega
  have hcq:c<quo.length:=by omega
  have w6:IntKind.i64.wrap ((c:Int)+bl-1-1)=(c:Int)+bl-2:=(w64 (x:=(c:Int)+bl-1-1) (by omega)).trans (by omega)
  have ed:dv p by_ (b.take bl) (c+1) (cur,quo)=dv p by_ (b.take bl) c (Nl p (cf cur (c+bl-1)*by_%p) b c bl cur,quo.set c (cf cur (c+bl-1)*by_%p)):=by
   rw [dv,hbt,Ox hcan (by omega)]
   have es:∀(m k:Nat) (x:List Int),k+m≤bl→ov p (cf cur (c+bl-1)*by_%p) (b.take bl) c m k x=ov p (cf cur (c+bl-1)*by_%p) b c m k x:=by
    intro m
    induction m with
    | zero=>intro k x _; rfl
    | succ m ih=>
     intro k x hk;have e:cf (b.take bl) k=cf b k:=by rw [gu (by omega),gu (by omega),sj]
     rw [ov,ov,e,ih _ _ (by omega)]
   rw [es bl 0 cur (by omega)]
  rw [ed];have hcan':Can p (Nl p (cf cur (c+bl-1)*by_%p) b c bl cur):=by rw [Ox hcan (by omega)]; exact Ez hp (by omega) hcan
  have hlen':(Nl p (cf cur (c+bl-1)*by_%p) b c bl cur).length=64:=by rw [Ox hcan (by omega),oh,hc]
  have ih:=Xt (O:=O) (z:=z) (z':=z') hby hb hbl h0 c (Nl p (cf cur (c+bl-1)*by_%p) b c bl cur) (quo.set c (cf cur (c+bl-1)*by_%p)) (by omega) hlen' (by simpa using hqo) hcan'
  refine cg ?_ ih;generalize cf cur (c+bl-1)*by_%p=q at *
  have l0:∃k:Int,dn O 0 (.loop Z3j_L0) ⟨[(0,(.d (.int .i64 p))),(4,.ptr 0 []),(5,.ptr 1 []),(6,.ptr 2 []),(7,.ptr 3 []),(8,.ptr 4 []),(9,(.d (.int .i64 ((bl:Int)-1)))),(10,(.d (.int .i64 by_))),(11,(.d (.int .i64 ((c:Int)+bl-1)))),(12,(.d (.int .i64 q))),(13,(.d (.int .i64 0)))],[.box false (D.arr 64 .leaf (af .u8 cur)),.box false (D.arr 64 .leaf (af .u8 b)),.box false (D.arr 64 .leaf (af .u8 z)),.box false (D.arr 64 .leaf (af .u8 z')),.box false (D.arr 64 .leaf (af .u8 (quo.set c q)))]⟩ =
   some (.exit 2,⟨[(0,(.d (.int .i64 p))),(4,.ptr 0 []),(5,.ptr 1 []),(6,.ptr 2 []),(7,.ptr 3 []),(8,.ptr 4 []),(9,(.d (.int .i64 ((bl:Int)-1)))),(10,(.d (.int .i64 by_))),(11,(.d (.int .i64 ((c:Int)+bl-1)))),(12,(.d (.int .i64 q))),(13,(.d (.int .i64 k))),(50,(.d (.bool false)))],[.box false (D.arr 64 .leaf (af .u8 (Nl p q b c bl cur))),.box false (D.arr 64 .leaf (af .u8 b)),.box false (D.arr 64 .leaf (af .u8 z)),.box false (D.arr 64 .leaf (af .u8 z')),.box false (D.arr 64 .leaf (af .u8 (quo.set c q)))]⟩):=by
   by_cases hq0:q=0
   ·subst hq0
    refine ⟨0,?_⟩;have e:Nl p 0 b c bl cur=cur:=if_pos rfl;rw [e];have h2:(1:Int)≤(bl:Int):=by omega
    exact cm (by simp -implicitDefEqProofs [Z3j_L0,aw,h2])
   ·refine ⟨bl,?_⟩
    have e:Nl p q b c bl cur=ov p q b c bl 0 cur:=if_neg hq0;rw [e];have:=Wr (O:=O) (by_:=by_) (quo:=quo.set c q) (z:=z) (z':=z') (i:=c) (bl:=bl) ⟨by omega,hq.2⟩ hb hbl (by omega) h0 bl 0 cur (cd _) hc hcan
    exact this
  obtain ⟨k,l0⟩:=l0;simp -implicitDefEqProofs [Z3j_L1,aw,h1,hi64,hic,t2,t3,hx,w1,w2,w3,w4,w5,w6,hc64,hcq,hp0,l0]
def rj (O:ap):Prop:=∀(p:Int) [IsP p] (a b:Fp p),b≠0→a.len≤64→b.len≤64 →
 ask O F3j [(D.int .i64 p),(D.arr 64 .leaf (af .u8 (pad (row a)))),(D.arr 64 .leaf (af .u8 (pad (row b))))]=some (.tup [(D.arr 64 .leaf (af .u8 (pad (row (a/b))))),(D.arr 64 .leaf (af .u8 (pad (row (a%b)))))])
theorem a5r {p:Int} {b:Fp p} (h:b.len≤64):(pad (row b)).take b.len=row b:=by
 apply qb
 ·rw [bv,c8,bi]; omega
 ·intro i h1 h2
  rw [sj,←gu,p9 h,←ft,gu h2]
theorem a0z (hT:T F3j=some Z3j) (hd:iu (den T A)) (hinv:na (den T A)):rj (den T A):=by
 intro p i a b hb hal hbl;have hp:=IsP.ge (p:=p);have hp7:=IsP.le (p:=p);have hb0:=Pol.len_pos hb;have e1:=hd p b hbl;have e2:=hd p a hal;have hr:=gr b.ld;have hld:rep b.ld≠0:=fun h0=>Pol.ld_ne hb (k9.1 h0)
 have e3:=hinv p (rep b.ld) (by omega) hr.2
 have hin:=vd p (rep b.ld);have w1:IntKind.i64.wrap (inv p (rep b.ld))=inv p (rep b.ld):=w64 (by omega)
 have hbx:(pad (row b))[b.len-1]? = some (rep b.ld):=by rw [ml _ _ (by omega),ft]; rfl
 have hbx':((b.len:Int)-1).toNat=b.len-1:=by omega
 have hbx2:(1:Int)≤(b.len:Int):=by omega
 have hbx3:b.len-1<64:=by omega
 have hz:∀j,cf (pad []) j=0:=fun j=>by rw [Am (by simp),pc (by simp)]
 have hcanz:Can p (pad []):=fun x hx=>by
  obtain ⟨j,_,rfl⟩:=ch.1 hx;rw [pc (by simp)]; omega
 have sp:=Ns b hb (a.len+1-b.len) (pad (row a)) (pad []) (by rw [c8]; omega) (by rw [c8]; omega) (yq a) (fun j _=>hz j) (fun j hj=>by
  rw [p9 hal,a.lt_len j (by omega),rep_zero]) hcanz
 have hl1:∀(B:List Int) (c:Nat) (x y:List Int),(dv p (inv p (rep b.ld)) B c (x,y)).1.length=x.length∧(dv p (inv p (rep b.ld)) B c (x,y)).2.length=y.length:=by
  intro B c
  induction c with
  | zero=>exact fun x y=>⟨rfl,rfl⟩
  | succ c ih=>
   intro x y;rw [dv];obtain ⟨i1,i2⟩:=ih (ov p (cf x (c+B.length-1)*inv p (rep b.ld)%p) B c B.length 0 x) (y.set c (cf x (c+B.length-1)*inv p (rep b.ld)%p));exact ⟨by rw [i1,oh],by rw [i2,cx]⟩
 obtain ⟨g1,g2⟩:=hl1 (row b) (a.len+1-b.len) (pad (row a)) (pad []);rw [c8] at g1 g2;have l1:=Xt (O:=den T A) (b:=pad (row b)) (bl:=b.len) (z:=pad []) (z':=pad []) hin (yq b) (c8 _) hb0 (a.len+1-b.len) (pad (row a)) (pad []) (by omega) (c8 _) (c8 _) (yq a)
 rw [a5r hbl] at l1;generalize dv p (inv p (rep b.ld)) (row b) (a.len+1-b.len) (pad (row a),pad [])=r at *;obtain ⟨s1,s2,s3,s4⟩:=sp;have z0:fe p (pad [])=0:=Pol.ext fun j=>by rw [jy,hz]; rfl
 rw [z0,Gq.zero_mul,Gq.add_zero,jn hal,Gq.add_comm] at s1
 have hrl:(fe p r.1).len<b.len:=by
  have:(fe p r.1).lt (b.len-1):=fun i hi=>by rw [jy,s2 i hi]; rfl
  have:=Pol.len_le this;omega
 obtain ⟨h1,h2⟩:=Pol.div_mod_eq s1.symm hrl;rw [h1,h2,←L8 s3 g1,←L8 s4 g2]
 have lz:∃n:Int,dn (den T A) 0 (.loop Z3j_L1) ⟨[(0,(.d (.int .i64 p))),(4,.ptr 0 []),(5,.ptr 1 []),(6,.ptr 2 []),(7,.ptr 3 []),(8,.ptr 4 []),(9,(.d (.int .i64 ((b.len:Int)-1)))),(10,(.d (.int .i64 (inv p (rep b.ld))))),(11,(.d (.int .i64 ((a.len:Int)-1))))],[.box false (D.arr 64 .leaf (af .u8 (pad (row a)))),.box false (D.arr 64 .leaf (af .u8 (pad (row b)))),.box false (D.arr 64 .leaf (af .u8 (pad []))),.box false (D.arr 64 .leaf (af .u8 (pad []))),.box false (D.arr 64 .leaf (af .u8 (pad [])))]⟩ =
  some (.exit 0,⟨[(0,(.d (.int .i64 p))),(4,.ptr 0 []),(5,.ptr 1 []),(6,.ptr 2 []),(7,.ptr 3 []),(8,.ptr 4 []),(9,(.d (.int .i64 ((b.len:Int)-1)))),(10,(.d (.int .i64 (inv p (rep b.ld))))),(11,(.d (.int .i64 n))),(27,(.d (.bool false)))],[.box false (D.arr 64 .leaf (af .u8 r.1)),.box false (D.arr 64 .leaf (af .u8 (pad (row b)))),.box false (D.arr 64 .leaf (af .u8 (pad []))),.box false (D.arr 64 .leaf (af .u8 (pad []))),.box false (D.arr 64 .leaf (af .u8 r.2))]⟩):=by
  by_cases hlt:b.len≤a.len
  ·rw [show ((a.len+1-b.len:Nat):Int)+b.len-2=(a.len:Int)-1 by omega] at l1
   exact ⟨_,l1⟩
  ·rw [show a.len+1-b.len=0 by omega] at l1
   have h3:¬ (b.len:Int)-1≤(b.len:Int)-2:=by omega
   have h4:¬ (b.len:Int)-1≤(a.len:Int)-1:=by omega
   have st:=cm (O:=den T A) (np:=0) (c:=Z3j_L1) (s:=⟨[(0,(.d (.int .i64 p))),(4,.ptr 0 []),(5,.ptr 1 []),(6,.ptr 2 []),(7,.ptr 3 []),(8,.ptr 4 []),(9,(.d (.int .i64 ((b.len:Int)-1)))),(10,(.d (.int .i64 (inv p (rep b.ld))))),(11,(.d (.int .i64 (((0:Nat):Int)+b.len-2))))],[.box false (D.arr 64 .leaf (af .u8 (pad (row a)))),.box false (D.arr 64 .leaf (af .u8 (pad (row b)))),.box false (D.arr 64 .leaf (af .u8 (pad []))),.box false (D.arr 64 .leaf (af .u8 (pad []))),.box false (D.arr 64 .leaf (af .u8 (pad [])))]⟩) (s1:=⟨[(0,(.d (.int .i64 p))),(4,.ptr 0 []),(5,.ptr 1 []),(6,.ptr 2 []),(7,.ptr 3 []),(8,.ptr 4 []),(9,(.d (.int .i64 ((b.len:Int)-1)))),(10,(.d (.int .i64 (inv p (rep b.ld))))),(11,(.d (.int .i64 (((0:Nat):Int)+b.len-2)))),(27,(.d (.bool false)))],[.box false (D.arr 64 .leaf (af .u8 (pad (row a)))),.box false (D.arr 64 .leaf (af .u8 (pad (row b)))),.box false (D.arr 64 .leaf (af .u8 (pad []))),.box false (D.arr 64 .leaf (af .u8 (pad []))),.box false (D.arr 64 .leaf (af .u8 (pad [])))]⟩) (id:=0) (by
    have h3':¬ (b.len:Int)-1≤((0:Nat):Int)+b.len-2:=by omega
    simp -implicitDefEqProofs only [Int.natCast_zero,Int.zero_add] at h3' ⊢;simp -implicitDefEqProofs [Z3j_L1,aw,h3'])
   rw [st] at l1;have l2:=au l1;injection l2 with _ l3
   injection l3 with _ l4
   injection l4 with l5 l6
   injection l6 with _ l7
   injection l7 with _ l8
   injection l8 with _ l9
   injection l9 with l10 _
   have e5:(D.arr 64 .leaf (af .u8 (pad (row a))))=(D.arr 64 .leaf (af .u8 r.1)):=by injection l5
   have e6:(D.arr 64 .leaf (af .u8 (pad [])))=(D.arr 64 .leaf (af .u8 r.2)):=by injection l10
   rw [←e5,←e6];exact ⟨(a.len:Int)-1,cm (by simp -implicitDefEqProofs [Z3j_L1,aw,h4])⟩
 obtain ⟨n,lz⟩:=lz;refine c9 hT rfl ?_;obtain ⟨r1,r2⟩:=r;simp only at lz ⊢;generalize pad (row a)=PA at *;generalize pad (row b)=PB at *;simp -implicitDefEqProofs [Z3j,Z3j_B,e1,e2,e3,w1,hbx,hbx',hbx2,hbx3,lz]
def xb (O:ap):Prop:=∀(p:Int) [IsP p] (a b:Fp p),b≠0→a.len≤64→b.len≤64 →
 ask O F3t [(D.int .i64 p),(D.arr 64 .leaf (af .u8 (pad (row a)))),(D.arr 64 .leaf (af .u8 (pad (row b))))]=some (D.arr 64 .leaf (af .u8 (pad (row (a%b)))))
theorem abv (hT:T F3t=some Z3t) (hd:rj (den T A)):xb (den T A):=by
 intro p i a b hb h1 h2;have e:=hd p a b hb h1 h2;refine c9 hT rfl ?_;simp -implicitDefEqProofs [Z3t,Z3t_B,e]
theorem a3t (f:Nat→Int) (m i:Nat) (l:List Int) (j:Nat):cf (upd f m i l) j=if i≤j∧j<i+m∧j<l.length then f j else cf l j:=by
 unfold cf;rw [df,df,Ic]
 split <;> rfl
theorem a2e {O:ap} {p:Int} {a:List Int} {mm z:List Int} {n:Nat} {top:Int} (hal:a.length=64) (hn:n<64):∀(k i:Nat) (cur:List Int),i+k=n→1≤i→cur.length=64 →
 dn O 0 (.loop Z44_L0) ⟨[(0,(.d (.int .i64 p))),(4,.ptr 0 []),(5,.ptr 1 []),(6,.ptr 2 []),(7,(.d (.int .i64 n))),(8,(.d (.int .i64 top))),(9,.ptr 3 []),(10,(.d (.int .i64 i)))],[.box false (D.arr 64 .leaf (af .u8 a)),.box false (D.arr 64 .leaf (af .u8 mm)),.box false (D.arr 64 .leaf (af .u8 z)),.box false (D.arr 64 .leaf (af .u8 cur))]⟩ =
  some (.exit 0,⟨[(0,(.d (.int .i64 p))),(4,.ptr 0 []),(5,.ptr 1 []),(6,.ptr 2 []),(7,(.d (.int .i64 n))),(8,(.d (.int .i64 top))),(9,.ptr 3 []),(10,(.d (.int .i64 n))),(26,(.d (.bool false)))],[.box false (D.arr 64 .leaf (af .u8 a)),.box false (D.arr 64 .leaf (af .u8 mm)),.box false (D.arr 64 .leaf (af .u8 z)),.box false (D.arr 64 .leaf (af .u8 (upd (fun j=>cf a (j-1)) k i cur)))]⟩)
 | 0,i,cur,hi,h1,hc=>by
  obtain rfl:i=n:=by omega
  exact cm (by simp -implicitDefEqProofs [Z44_L0,aw,upd])
 | k+1,i,cur,hi,h1,hc=>by
  have hlt:i<n:=by omega
  have hi1:i-1<a.length:=by omega
  have hi2:i-1<64:=by omega
  have hi64:i<64:=by omega
  have hic:i<cur.length:=by omega
  have hx:a[i-1]=cf a (i-1):=(gu hi1).symm;have w1:IntKind.i64.wrap ((i:Int)-1)=((i-1:Nat):Int):=(w64 (x:=(i:Int)-1) (by omega)).trans (by omega)
  have w4:IntKind.i64.wrap ((i:Int)+1)=((i+1:Nat):Int):=(w64 (x:=(i:Int)+1) (by omega)).trans (by omega)
  refine cg ?_ (a2e hal hn k (i+1) (cur.set i (cf a (i-1))) (by omega) (by omega) (by simpa using hc))
  simp -implicitDefEqProofs [Z44_L0,aw,hlt,hi1,hi2,hi64,hic,hx,w1,w4]
theorem a4g {O:ap} {p q:Int} [IsP p] {b z out:List Int} {n:Nat} {hol:Blk} (hh:hol=.hole) (hb:Can p b) (hbl:b.length=64) (hq:0≤q∧q<p) (hn:n<64) (ho:Can p out):∀(k i:Nat) (cur:List Int),i+k=n→cur.length=64→(∀j,i≤j→cf cur j=cf out j) →
 dn O 0 (.loop Z44_L1) ⟨[(0,(.d (.int .i64 p))),(5,.ptr 1 []),(6,.ptr 2 []),(7,(.d (.int .i64 n))),(9,.ptr 3 []),(11,(.d (.int .i64 q))),(12,(.d (.int .i64 i)))],[hol,.box false (D.arr 64 .leaf (af .u8 b)),.box false (D.arr 64 .leaf (af .u8 z)),.box false (D.arr 64 .leaf (af .u8 cur))]⟩ =
  some (.exit 2,⟨[(0,(.d (.int .i64 p))),(5,.ptr 1 []),(6,.ptr 2 []),(7,(.d (.int .i64 n))),(9,.ptr 3 []),(11,(.d (.int .i64 q))),(12,(.d (.int .i64 n))),(47,(.d (.bool false)))],[hol,.box false (D.arr 64 .leaf (af .u8 b)),.box false (D.arr 64 .leaf (af .u8 z)),.box false (D.arr 64 .leaf (af .u8 (upd (fun j=>(cf out j-q*cf b j)%p) k i cur)))]⟩)
 | 0,i,cur,hi,hc,hs=>by
  subst hh;obtain rfl:i=n:=by omega
  exact cm (by simp -implicitDefEqProofs [Z44_L1,aw,upd])
 | k+1,i,cur,hi,hc,hs=>by
  have hp:=IsP.pos (p:=p);have hp7:=IsP.le (p:=p);have hp0:p≠0:=by omega
  have hlt:i<n:=by omega
  have hi64:i<64:=by omega
  have hic:i<cur.length:=by omega
  have hib:i<b.length:=by omega
  have hx:cur[i]=cf out i:=by rw [←gu hic]; exact hs i (bh i)
  have hy:b[i]=cf b i:=(gu hib).symm;have gc:=ho.le hp i;have gb:=hb.le hp i;have gm:=m7 (x:=q) (y:=cf b i) (b:=10) (c:=10) (by omega) (by omega) (by omega)
  have w3:IntKind.i64.wrap (cf out i)=cf out i:=w64 (by omega)
  have w5:IntKind.i64.wrap (cf b i)=cf b i:=w64 (by omega)
  have w6:IntKind.i64.wrap (q*cf b i)=q*cf b i:=w64 (by omega)
  have w7:IntKind.i64.wrap (cf out i-q*cf b i)=cf out i-q*cf b i:=w64 (by omega)
  have hin:=Ej (n:=cf out i-q*cf b i) hp;have w9:IntKind.i64.wrap ((cf out i-q*cf b i).tmod p+p)=(cf out i-q*cf b i).tmod p+p:=w64 (by omega)
  have w10:((cf out i-q*cf b i).tmod p+p).tmod p=(cf out i-q*cf b i)%p:=Bm hp;have hlin:0≤(cf out i-q*cf b i)%p∧(cf out i-q*cf b i)%p<p:=⟨ep _ (by omega),dl _ hp⟩
  have w11:IntKind.u8.wrap ((cf out i-q*cf b i)%p)=(cf out i-q*cf b i)%p:=w8 (by omega)
  have w4:IntKind.i64.wrap ((i:Int)+1)=((i+1:Nat):Int):=(w64 (x:=(i:Int)+1) (by omega)).trans (by omega)
  refine cg ?_ (a4g hh hb hbl hq hn ho k (i+1) (cur.set i ((cf out i-q*cf b i)%p)) (by omega) (by simpa using hc) (fun j hj=>by rw [t8,if_neg (by omega)]; exact hs j (by omega)))
  subst hh;simp -implicitDefEqProofs [Z44_L1,aw,hlt,hi64,hic,hib,hx,hy,w3,w5,w6,w7,w9,w10,w11,w4,hp0]
def Wu (O:ap):Prop:=∀(p:Int) [IsP p] (a m:Fp p),m≠0→a.len<m.len→m.len≤64 →
 ask O F44 [(D.int .i64 p),(D.arr 64 .leaf (af .u8 (pad (row a)))),(D.arr 64 .leaf (af .u8 (pad (row m))))]=some (D.arr 64 .leaf (af .u8 (pad (row (Pol.X*a%m)))))
theorem afk (hT:T F44=some Z44) (hd:iu (den T A)) (hinv:na (den T A)):Wu (den T A):=by
 intro p i a m hm hal hml;have hp:=IsP.ge (p:=p);have hp7:=IsP.le (p:=p);have e1:=hd p m hml;refine c9 hT rfl ?_
 by_cases h1:m.len=1
 ·have ha:a=0:=Pol.len_zero_iff.1 (by omega)
  subst ha;rw [Gq.mul_zero,Pol.zero_mod hm,dt];rw [h1] at e1;simp -implicitDefEqProofs [Z44,Z44_B,aw,e1]
 ·have hm0:=Pol.len_pos hm
  obtain ⟨n,hn⟩:∃n,m.len=n+2:=⟨m.len-2,by omega⟩
  have e1':ask (den T A) F3i [(D.arr 64 .leaf (af .u8 (pad (row m))))]=some (D.int .i64 ((n+1:Nat))):=by rw [e1,hn]; congr 2; omega
  have hr:=gr m.ld;have hld:rep m.ld≠0:=fun h0=>Pol.ld_ne hm (k9.1 h0)
  have e3:=hinv p (rep m.ld) (by omega) hr.2
  have hin:=vd p (rep m.ld);have hpa:a.len≤64:=by omega
  have hax:(pad (row a))[n]? = some (rep (a.c n)):=by rw [ml _ _ (by omega),ft]
  have hmx:(pad (row m))[n+1]? = some (rep m.ld):=by
   rw [ml _ _ (by omega),ft]
   unfold Pol.ld;rw [hn]; rfl
  have ha0:=gr (a.c n);have w0:IntKind.i64.wrap ((n:Int)+1-1)=(n:Int):=(w64 (x:=(n:Int)+1-1) (by omega)).trans (by omega)
  have w0':IntKind.i64.wrap (n:Int)=(n:Int):=w64 (by omega)
  have w1:IntKind.i64.wrap (rep (a.c n))=rep (a.c n):=w64 (by omega)
  have w2:IntKind.i64.wrap (inv p (rep m.ld))=inv p (rep m.ld):=w64 (by omega)
  have gm:=m7 (x:=rep (a.c n)) (y:=inv p (rep m.ld)) (b:=10) (c:=10) (by omega) (by omega) (by omega)
  have w3:IntKind.i64.wrap (rep (a.c n)*inv p (rep m.ld))=rep (a.c n)*inv p (rep m.ld):=w64 (by omega)
  have w4:(rep (a.c n)*inv p (rep m.ld)).tmod p=rep (a.c n)*inv p (rep m.ld)%p:=ee (fw ha0.1 hin.1);have hq:0≤rep (a.c n)*inv p (rep m.ld)%p∧rep (a.c n)*inv p (rep m.ld)%p<p:=⟨ep _ (by omega),dl _ (by omega)⟩
  have hqz:zp p (rep (a.c n)*inv p (rep m.ld)%p)=a.c n*Fd.inv m.ld:=by
   rw [zg,B5,jq,ry _ (Pol.ld_ne hm)]
  generalize rep (a.c n)*inv p (rep m.ld)%p=q at *;have l0:=a2e (O:=den T A) (p:=p) (a:=pad (row a)) (mm:=pad (row m)) (z:=pad []) (n:=n+1) (top:=rep (a.c n)) (c8 _) (by omega) n 1 (pad []) (by omega) (bh 1) (c8 _)
  have hz:∀j,cf (pad []) j=0:=fun j=>by rw [Am (by simp),pc (by simp)]
  have c0:∀j,cf (upd (fun j=>cf (pad (row a)) (j-1)) n 1 (pad [])) j=if 1≤j∧j<n+1 then rep (a.c (j-1)) else 0:=fun j=>by
   rw [a3t,hz,c8]
   by_cases h:1≤j∧j<n+1
   ·rw [if_pos (by omega),if_pos h,p9 hpa]
   ·rw [if_neg (by omega),if_neg h]
  have hlen0:(upd (fun j=>cf (pad (row a)) (j-1)) n 1 (pad [])).length=64:=by rw [yj,c8]
  generalize upd (fun j=>cf (pad (row a)) (j-1)) n 1 (pad [])=out at *
  have hcan0:Can p out:=Can.of_cf fun j _=>by rw [c0]; split; exact gr _; omega
  have l1:=a4g (O:=den T A) (p:=p) (q:=q) (b:=pad (row m)) (z:=pad []) (out:=out) (n:=n+1) rfl (yq m) (c8 _) hq (by omega) hcan0 (n+1) 0 out (by omega) hlen0 (fun _ _=>rfl)
  have hres:upd (fun j=>(cf out j-q*cf (pad (row m)) j)%p) (n+1) 0 out=pad (row (Pol.X*a%m)):=by
   have hlenR:(upd (fun j=>(cf out j-q*cf (pad (row m)) j)%p) (n+1) 0 out).length=64:=by rw [yj,hlen0]
   have hcR:∀j,cf (upd (fun j=>(cf out j-q*cf (pad (row m)) j)%p) (n+1) 0 out) j=if j<n+1 then (cf out j-q*rep (m.c j))%p else 0:=fun j=>by
    rw [a3t,hlen0]
    by_cases h:j<n+1
    ·rw [if_pos (by omega),if_pos h,p9 hml]
    ·rw [if_neg (by omega),if_neg h,c0,if_neg (by omega)]
   have hcanR:Can p (upd (fun j=>(cf out j-q*cf (pad (row m)) j)%p) (n+1) 0 out):=Can.of_cf fun j _=>by
    rw [hcR]; split
    ·exact ⟨ep _ (by omega),dl _ (by omega)⟩
    ·omega
   rw [L8 hcanR hlenR]
   congr 2
   symm
   refine (Pol.div_mod_eq (q:=Pol.C (zp p q)) ?_ ?_).2
   ·refine Pol.ext fun j=>?_
    rw [Pol.c_add,Pol.c_Cmul,Pol.c_Xmul,jy,hcR];rcases km j (n+1) with h | h | h
    ·rw [if_pos h,zg,a4x,B5,jq,c0]
     by_cases hj:j=0
     ·subst hj
      rw [if_pos rfl,if_neg (by omega),Bw]
      exact bj [zp p q,m.c 0] rfl
     ·rw [if_neg hj,if_pos (by omega),jq]
      exact bj [zp p q,m.c j,a.c (j-1)] rfl
    ·subst h
     rw [if_neg (by omega),if_neg (by omega),Bw,Gq.add_zero,hqz]
     have e:m.c (n+1)=m.ld:=by unfold Pol.ld; rw [hn]; rfl
     rw [e,Gq.mul_assoc,Gq.mul_comm (Fd.inv m.ld),Fd.mul_inv _ (Pol.ld_ne hm),Gq.mul_one]; rfl
    ·rw [if_neg (by omega),if_neg (by omega),Bw,m.lt_len j (by omega),Gq.mul_zero,Gq.add_zero,a.lt_len (j-1) (by omega)]
   ·have:(fe p (upd (fun j=>(cf out j-q*cf (pad (row m)) j)%p) (n+1) 0 out)).lt (n+1):=fun j hj=>by
     rw [jy,hcR,if_neg (by omega)]; rfl
    have:=Pol.len_le this;omega
  rw [hres] at l1;have e0:((0:Nat):Int)=0:=rfl;have e11:((1:Nat):Int)=1:=rfl;have en:((n+1:Nat):Int)=(n:Int)+1:=by omega
  rw [e0,en] at l1;rw [e11,en] at l0;rw [en] at e1';have hp0:p≠0:=by omega
  have hn64:n<64:=by omega
  have hn65:n+1<64:=by omega
  have t1:¬ (n:Int)+1=0:=by omega
  have t2:(0:Int)≤(n:Int)+1:=by omega
  have t3:((n:Int)+1).toNat=n+1:=by omega
  generalize pad (row (Pol.X*a%m))=R at *;generalize pad (row a)=PA at *;generalize pad (row m)=PM at *;simp -implicitDefEqProofs [Z44,Z44_B,aw,e1',e3,hax,hmx,w0',w1,w2,w3,w4,l0,l1,hn64,hn65,t1,t2,t3,hp0]
def sk {p:Int} (b:Fp p) (i:Nat):Fp p:=⟨fun j=>b.c (i+j),b.len,fun j hj=>b.lt_len _ (by omega)⟩
theorem Wk {p:Int} (b:Fp p):sk b 0=b:=Pol.ext fun j=>by show b.c (0+j)=b.c j; rw [cd]
theorem a1d {p:Int} (b:Fp p):sk b b.len=0:=Pol.ext fun j=>b.lt_len _ (by omega)
theorem Ul {p:Int} (b:Fp p) (i:Nat):sk b i=Pol.X*sk b (i+1)+Pol.C (b.c i):=Pol.ext fun j=>by
 rw [Pol.c_add,Pol.c_Xmul,Pol.c_C];show b.c (i+j)=(if j=0 then 0 else b.c (i+1+(j-1)))+if j=0 then b.c i else 0
 by_cases h:j=0
 ·subst h; rw [if_pos rfl,if_pos rfl,Gq.zero_add]; rfl
 ·rw [if_neg h,if_neg h,Gq.add_zero,show i+1+(j-1)=i+j by omega]
theorem M2 {O:ap} (hu:Wu O) (ha:mf O) (hmo:xb O) {p:Int} [IsP p] {a b m:Fp p} {z:List Int} (hm:m≠0) (hml:m.len≤64) (hal:a.len≤64) (hbl:b.len≤64):∀(n:Nat),n≤b.len →
 dn O 0 (.loop Z3v_L0) ⟨[(0,(.d (.int .i64 p))),(5,.ptr 0 []),(6,.ptr 1 []),(7,.ptr 2 []),(8,.ptr 3 []),(9,.ptr 4 []),(10,(.d (.int .i64 ((n:Int)-1))))],[.box false (D.arr 64 .leaf (af .u8 (pad (row a)))),.box false (D.arr 64 .leaf (af .u8 (pad (row b)))),.box false (D.arr 64 .leaf (af .u8 (pad (row m)))),.box false (D.arr 64 .leaf (af .u8 z)),.box false (D.arr 64 .leaf (af .u8 (pad (row (a*sk b n%m)))))]⟩ =
  some (.exit 0,⟨[(0,(.d (.int .i64 p))),(5,.ptr 0 []),(6,.ptr 1 []),(7,.ptr 2 []),(8,.ptr 3 []),(9,.ptr 4 []),(10,(.d (.int .i64 (-1)))),(15,(.d (.bool false)))],[.box false (D.arr 64 .leaf (af .u8 (pad (row a)))),.box false (D.arr 64 .leaf (af .u8 (pad (row b)))),.box false (D.arr 64 .leaf (af .u8 (pad (row m)))),.box false (D.arr 64 .leaf (af .u8 z)),.box false (D.arr 64 .leaf (af .u8 (pad (row (a*b%m)))))]⟩)
 | 0,_=>by
  rw [Wk];exact cm (by simp -implicitDefEqProofs [Z3v_L0,aw])
 | n+1,hn=>by
  have hp:=IsP.pos (p:=p);have hp7:=IsP.le (p:=p);have hlr:=Pol.len_mod (a*sk b (n+1)) hm;have hr:=gr (b.c n);have e1:=hu p (a*sk b (n+1)%m) m hm hlr hml;have hl2:=Pol.len_mod (Pol.X*(a*sk b (n+1)%m)) hm;have e2:=ha p (rep (b.c n)) (Pol.X*(a*sk b (n+1)%m)%m) a (by omega) (by omega) (by omega) hal
  rw [jq] at e2;have hl3:=Pol.len_add_le (a:=Pol.X*(a*sk b (n+1)%m)%m) (b:=Pol.C (b.c n)*a) (n:=64) (by omega) (du (Pol.len_le (Pol.lt_Cmul _ a.lt_len)) hal)
  have e3:=hmo p (Pol.X*(a*sk b (n+1)%m)%m+Pol.C (b.c n)*a) m hm hl3 hml
  have e4:(Pol.X*(a*sk b (n+1)%m)%m+Pol.C (b.c n)*a)%m=a*sk b n%m:=by
   rw [Ul b n,Pol.mod_eq_iff hm,Quo.mk_add,Pol.mk_mod,Quo.mk_mul,Pol.mk_mod,←Quo.mk_mul,←Quo.mk_add]
   congr 1
   exact bj [Pol.X,a,sk b (n+1),Pol.C (b.c n)] rfl
  rw [e4] at e3;have t0:(((n+1:Nat):Int)-1)=(n:Int):=by omega
  rw [t0];have hn64:n<64:=by omega
  have hx:(pad (row b))[n]? = some (rep (b.c n)):=by rw [ml _ _ hn64,ft]
  have w1:IntKind.i64.wrap (rep (b.c n))=rep (b.c n):=w64 (by omega)
  have w2:IntKind.i64.wrap ((n:Int)-1)=(n:Int)-1:=w64 (by omega)
  refine cg ?_ (M2 hu ha hmo hm hml hal hbl n (by omega))
  generalize pad (row (a*sk b n%m))=R at *;generalize pad (row (a*sk b (n+1)%m))=R1 at *;generalize pad (row (Pol.X*(a*sk b (n+1)%m)%m+Pol.C (b.c n)*a))=R2 at *;generalize pad (row (Pol.X*(a*sk b (n+1)%m)%m))=R3 at *;generalize pad (row a)=PA at *;generalize pad (row b)=PB at *;generalize pad (row m)=PM at *;simp -implicitDefEqProofs [Z3v_L0,aw,e1,e2,e3,hn64,hx,w1,w2]
def xj (O:ap):Prop:=∀(p:Int) [IsP p] (a b m:Fp p),m≠0→m.len≤64→a.len≤64→b.len≤64 →
 ask O F3v [(D.int .i64 p),(D.arr 64 .leaf (af .u8 (pad (row a)))),(D.arr 64 .leaf (af .u8 (pad (row b)))),(D.arr 64 .leaf (af .u8 (pad (row m))))]=some (D.arr 64 .leaf (af .u8 (pad (row (a*b%m)))))
theorem a08 (hT:T F3v=some Z3v) (hd:iu (den T A)) (hu:Wu (den T A)) (ha:mf (den T A)) (hmo:xb (den T A)):xj (den T A):=by
 intro p i a b m hm hml hal hbl;have e1:=hd p b hbl;have e2:=M2 (O:=den T A) (z:=pad []) hu ha hmo hm hml hal hbl b.len (bh _);rw [a1d,Gq.mul_zero,Pol.zero_mod hm,dt] at e2;refine c9 hT rfl ?_;generalize pad (row (a*b%m))=R at *;generalize pad (row a)=PA at *;generalize pad (row b)=PB at *;generalize pad (row m)=PM at *;simp -implicitDefEqProofs [Z3v,Z3v_B,e1,e2]
theorem aah {O:ap} (hmm:xj O) {p:Int} [IsP p] {m:Fp p} {z:List Int} {hol:Blk} (hh:hol=.hole) (hm:m≠0) (hml:m.len≤64):∀(n:Nat) (k:Int) (out base:Fp p),0≤k→k.toNat<2^n→k<4611686018427387904→out.len<m.len→base.len<m.len→∃base':List Int,
 dn O 0 (.loop Z40_L0) ⟨[(0,(.d (.int .i64 p))),(2,(.d (.int .i64 k))),(7,.ptr 1 []),(8,.ptr 2 []),(9,.ptr 3 []),(10,.ptr 4 [])],[hol,.box false (D.arr 64 .leaf (af .u8 (pad (row m)))),.box false (D.arr 64 .leaf (af .u8 z)),.box false (D.arr 64 .leaf (af .u8 (pad (row out)))),.box false (D.arr 64 .leaf (af .u8 (pad (row base))))]⟩ =
  some (.exit 0,⟨[(0,(.d (.int .i64 p))),(2,(.d (.int .i64 0))),(7,.ptr 1 []),(8,.ptr 2 []),(9,.ptr 3 []),(10,.ptr 4 []),(20,(.d (.bool false)))],[hol,.box false (D.arr 64 .leaf (af .u8 (pad (row m)))),.box false (D.arr 64 .leaf (af .u8 z)),.box false (D.arr 64 .leaf (af .u8 (pad (row (out*pw base k.toNat%m))))),.box false (D.arr 64 .leaf (af .u8 base'))]⟩):=by
 intro n
 induction n with
 | zero=>
  intro k out base hk hn _ ho hb;obtain rfl:k=0:=by simp at hn; omega
  refine ⟨pad (row base),?_⟩
  have e:out*pw base (0:Int).toNat%m=out:=by
   show out*1%m=out;rw [Gq.mul_one,Pol.mod_small ho]
  rw [e];subst hh;exact cm (by simp -implicitDefEqProofs [Z40_L0,aw])
 | succ n ih=>
  intro k out base hk hn hkm ho hb
  by_cases h0:k=0
  ·subst h0
   refine ⟨pad (row base),?_⟩
   have e:out*pw base (0:Int).toNat%m=out:=by
    show out*1%m=out;rw [Gq.mul_one,Pol.mod_small ho]
   rw [e];subst hh;exact cm (by simp -implicitDefEqProofs [Z40_L0,aw])
  ·have hkp:0<k:=by omega
   have t1:=hmm p out base m hm hml (by omega) (by omega)
   have t2:=hmm p base base m hm hml (by omega) (by omega)
   have s:=Pol.bin_step (out:=out) (base:=base) hm k.toNat (by omega)
   have hdiv:(k/2).toNat=k.toNat/2:=by omega
   obtain ⟨b',e⟩:=ih (k/2) (if k.toNat%2=1 then out*base%m else out) (base*base%m) (by omega) (by rw [mz] at hn; omega) (by omega) (by split; exact Pol.len_mod _ hm; exact ho) (Pol.len_mod _ hm)
   rw [hdiv,s] at e;refine ⟨b',cg ?_ e⟩;subst hh;have w1:IntKind.i64.wrap (k.tdiv 2)=k/2:=by rw [pk hk,w64 (by omega)]
   have w2:k.tmod 2=k%2:=ee hk
   by_cases hodd:k%2=1
   ·rw [if_pos (show k.toNat%2=1 by omega)]
    generalize pad (row (out*base%m))=R1 at *;generalize pad (row (base*base%m))=R2 at *;generalize pad (row out)=R3 at *;generalize pad (row base)=R4 at *;generalize pad (row m)=R5 at *;simp -implicitDefEqProofs [Z40_L0,aw,hkp,t1,t2,w1,w2,hodd]
   ·rw [if_neg (show ¬ k.toNat%2=1 by omega)]
    generalize pad (row (base*base%m))=R2 at *;generalize pad (row out)=R3 at *;generalize pad (row base)=R4 at *;generalize pad (row m)=R5 at *;simp -implicitDefEqProofs [Z40_L0,aw,hkp,t2,w1,w2,hodd]
def xz (O:ap):Prop:=∀(p:Int) [IsP p] (a:Fp p) (k:Int) (m:Fp p),m≠0→a.len≤64→m.len≤64→0≤k→k<4611686018427387904 →
 ask O F40 [(D.int .i64 p),(D.arr 64 .leaf (af .u8 (pad (row a)))),(D.int .i64 k),(D.arr 64 .leaf (af .u8 (pad (row m))))]=some (D.arr 64 .leaf (af .u8 (pad (row (pw a k.toNat%m)))))
theorem a1l (hT:T F40=some Z40) (h1:Jd (den T A)) (hmo:xb (den T A)) (hmm:xj (den T A)):xz (den T A):=by
 intro p i a k m hm hal hml hk hkm;have e1:=h1 p;have e2:=hmo p 1 m hm (by rw [Pol.len_one]; omega) hml
 have e3:=hmo p a m hm hal hml;obtain ⟨b',e⟩:=aah (O:=den T A) hmm (z:=pad []) (hol:=.hole) rfl hm hml 62 k (1%m) (a%m) hk (by omega) hkm (Pol.len_mod _ hm) (Pol.len_mod _ hm)
 have e4:1%m*pw (a%m) k.toNat%m=pw a k.toNat%m:=by
  rw [Pol.mul_mod_left _ _ hm,Gq.one_mul,Pol.pow_mod _ hm]
 rw [e4] at e;refine c9 hT rfl ?_;generalize pad (row (pw a k.toNat%m))=R at *;generalize pad (row (1%m))=R1 at *;generalize pad (row (a%m))=R2 at *;generalize pad (row (1:Fp p))=R3 at *;generalize pad (row a)=PA at *;generalize pad (row m)=PM at *;simp -implicitDefEqProofs [Z40,Z40_B,e1,e2,e3,e]
end Pe
namespace Pe
open Go Gq
section
variable {p:Int} [IsP p]
noncomputable def frW (m:Fp p) (k:Nat):Fp p:=pw Pol.X (p.toNat^k)%m-Pol.X
theorem a2p {m q:Fp p} (_hm:m≠0) (hq:Dv q m) (k:Nat):Dv q (frW m k)↔Dv q (frT p k):=by
 have h1:frT p k=frW m k+pw Pol.X (p.toNat^k)/m*m:=by
  have h:=Pol.div_mod (pw Pol.X (p.toNat^k)) m;show pw Pol.X (p.toNat^k)-Pol.X=pw Pol.X (p.toNat^k)%m-Pol.X+pw Pol.X (p.toNat^k)/m*m;generalize pw Pol.X (p.toNat^k)%m=R at *;generalize pw Pol.X (p.toNat^k)/m=Q at *;rw [h];exact bj [Q,m,R,Pol.X] rfl
 have h2:Dv q (pw Pol.X (p.toNat^k)/m*m):=hq.mul_left _;constructor
 ·intro h; rw [h1]; exact h.add h2
 ·intro h
  have:=h.sub h2;rw [h1] at this;have e:frW m k+pw Pol.X (p.toNat^k)/m*m-pw Pol.X (p.toNat^k)/m*m=frW m k:=bj [frW m k,pw Pol.X (p.toNat^k)/m,m] rfl
  rwa [e] at this
theorem a62 {m:Fp p} (h2:2≤m.len) (h13:m.len≤13):(∀k,1≤k→2*k≤m.len-1→(Pol.gcd m (frW m k)).len=1)↔Irr m:=by
 have hm:m≠0:=fun h=>by rw [h,Pol.len_zero] at h2; omega
 have small:∀d,d≤12→p^d<1000000000000:=fun d hd=>by
  have h1:=pq (p:=p) (by have:=IsP.pos (p:=p); omega) hd
  have h7:=tc (p:=p) (n:=12) (by omega)
  omega
 constructor
 ·intro h
  refine Aw (n:=(m.len-1)/2+1) (fun q hq hd=>?_) h2 (by omega)
  rcases ek ((m.len-1)/2+1) q.len with g | g
  ·omega
  ·exfalso
   have hl:=hq.len;have h1:=h (q.len-1) (by omega) (by omega)
   have h3:Dv q (frT p (q.len-1)):=X8 hq (by omega) (small _ (by omega))
   have h4:=Pol.dv_gcd (.inl hm) hd ((a2p hm hd _).2 h3);have h5:=h4.len (fun h0=>by rw [h0,Pol.len_zero] at h1; omega)
   omega
 ·intro hi k hk hk2
  by_cases hd:Dv m (frW m k)
  ·have h3:=(a2p hm (Dv.refl m) k).1 hd
   have:=D4 hi (d:=m.len-1) (by omega) (small _ (by omega)) hk h3
   omega
  ·obtain ⟨u,v,e⟩:=hi.coprime hd
   have h1:=Pol.gcd_dv_left (a:=m) (b:=frW m k) (.inl hm);have h3:=Pol.gcd_dv_right (a:=m) (b:=frW m k) (.inl hm)
   have h4:Dv (Pol.gcd m (frW m k)) 1:=by
    rw [←e];exact (h1.mul_left u).add (h3.mul_left v)
   have h5:=h4.len Pol.one_ne;rw [Pol.len_one] at h5;have h6:=Pol.len_pos (Pol.gcd_monic (a:=m) (b:=frW m k) (.inl hm)).2;omega
theorem a8p {m:Fp p} (hi:Irr m) (hm:Monic m):IsFac m [(m,1)] where
 ok:=⟨fun x hx=>by simp only [bf] at hx; subst hx; exact ⟨hi,hm,bh 1⟩,f9 _ _⟩
 sorted:=f9 _ _
 eq:=by
  rw [hm.1,Pol.C_one,Gq.one_mul];show m=pw m 1*1;rw [zt,Gq.mul_one]
theorem a80 {m:Fp p} {L:o9 p} (hm:Monic m) (h:IsFac m L):(∃q,L=[(q,1)])↔Irr m:=by
 constructor
 ·rintro ⟨q,rfl⟩
  have e:=h.eq;rw [hm.1,Pol.C_one,Gq.one_mul] at e
  have e2:nw [(q,1)]=q:=by
   show pw q 1*1=q;rw [zt,Gq.mul_one]
  rw [e2] at e;rw [e];exact (h.ok.irr (q,1) (by simp)).1
 ·intro hi
  exact ⟨m,h.unique hm.2 (a8p hi hm)⟩
end
end Pe
namespace Pe
open Go Gq
variable {T:Nat→Option Fn} {A:ap}
section
variable {p:Int}
def Hh (a:Fp p) (i:Nat):Fp p:=⟨fun n=>if n<i then a.c n else 0,i,fun n hn=>if_neg (by omega)⟩
theorem Nt (a:Fp p) (i n:Nat):(Hh a i).c n=if n<i then a.c n else 0:=rfl
theorem Ng (a:Fp p):Hh a 0=0:=Pol.ext fun n=>by rw [Nt,if_neg (by omega)]; rfl
theorem Rs (a:Fp p):Hh a a.len=a:=Pol.ext fun n=>by
 rw [Nt]
 split
 ·rfl
 ·rename_i h; exact (a.lt_len n (by omega)).symm
end
section
variable {p:Int} [IsP p]
theorem a2f (k:Zp p) (n i:Nat):(Pol.mo k n).c i=if i=n then k else 0:=rfl
theorem Eq (a:Fp p) (i:Nat):Hh a (i+1)=Hh a i+Pol.mo (a.c i) i:=Pol.ext fun n=>by
 rw [Pol.c_add,Nt,Nt,a2f]
 by_cases h:n=i
 ·subst h; rw [if_pos (by omega),if_neg (by omega),if_pos rfl,Gq.zero_add]
 ·rw [if_neg h,Gq.add_zero]
  by_cases h2:n<i
  ·rw [if_pos (by omega),if_pos h2]
  ·rw [if_neg (by omega),if_neg h2]
theorem a7m (n:Nat):(Pol.mo 0 n:Fp p)=0:=Pol.ext fun i=>by rw [a2f]; split <;> rfl
theorem aek (k l:Zp p) (n m:Nat):(Pol.mo k n*Pol.mo l m:Fp p)=Pol.mo (k*l) (n+m):=Pol.ext fun i=>by
 rw [Su,a2f,a2f]
 by_cases h:n≤i
 ·rw [if_pos h]
  by_cases h2:i-n=m
  ·rw [if_pos h2,if_pos (by omega)]
  ·rw [if_neg h2,if_neg (by omega),Gq.mul_zero]
 ·rw [if_neg h,if_neg (by omega)]
theorem Lq {cur:List Int} {k:Nat} (h:k<cur.length) (t:Int):fe p (cur.set k ((cf cur k+t)%p))=fe p cur+Pol.mo (zp p t) k:=Pol.ext fun j=>by
 rw [Pol.c_add,jy,jy,t8,a2f]
 by_cases h1:j=k
 ·subst h1
  rw [if_pos ⟨rfl,h⟩,if_pos rfl,zg,W2]
 ·rw [if_neg (by omega),if_neg h1,Gq.add_zero]
end
theorem a33 {O:ap} {p:Int} [IsP p] {a b:Fp p} {z:List Int} {n i:Nat} (hn:n<64) (hi:i<a.len) (hal:a.len≤64) (hbl:b.len≤64) (hab:a.len+b.len≤65) (hb1:0<b.len) (hai:a.c i≠0) {P:Fp p} {vn:V} (hvn:vn.refs=[]):∀(m j:Nat) (cur:List Int),j+m=b.len→cur.length=64→Can p cur→fe p cur=P+Pol.mo (a.c i) i*Hh b j→∃cur':List Int,cur'.length=64∧Can p cur'∧fe p cur'=P+Pol.mo (a.c i) i*b ∧
 dn O 0 (.loop Z43_L0) ⟨[(0,(.d (.int .i64 p))),(4,.ptr 0 []),(5,.ptr 1 []),(6,.ptr 2 []),(8,vn),(9,(.d (.int .i64 (((b.len-1:Nat):Int))))),(10,.ptr 3 []),(11,(.d (.int .i64 i))),(12,(.d (.int .i64 j)))],[.box false (D.arr 64 .leaf (af .u8 (pad (row a)))),.box false (D.arr 64 .leaf (af .u8 (pad (row b)))),.box false (D.arr 64 .leaf (af .u8 z)),.box false (D.arr 64 .leaf (af .u8 cur))]⟩ =
  some (.exit 2,⟨[(0,(.d (.int .i64 p))),(4,.ptr 0 []),(5,.ptr 1 []),(6,.ptr 2 []),(8,vn),(9,(.d (.int .i64 (((b.len-1:Nat):Int))))),(10,.ptr 3 []),(11,(.d (.int .i64 i))),(12,(.d (.int .i64 b.len))),(43,(.d (.bool false)))],[.box false (D.arr 64 .leaf (af .u8 (pad (row a)))),.box false (D.arr 64 .leaf (af .u8 (pad (row b)))),.box false (D.arr 64 .leaf (af .u8 z)),.box false (D.arr 64 .leaf (af .u8 cur'))]⟩)
 | 0,j,cur,hj,hc,hcan,he=>by
  obtain rfl:j=b.len:=by omega
  rw [Rs] at he;have hlt:¬ (b.len:Int)≤((b.len-1:Nat):Int):=by omega
  refine ⟨cur,hc,hcan,he,cm ?_⟩;generalize ((b.len-1:Nat):Int)=m1 at *;generalize pad (row a)=PA at *;generalize pad (row b)=PB at *;simp -implicitDefEqProofs [Z43_L0,aw,hlt,hvn]
 | m+1,j,cur,hj,hc,hcan,he=>by
  have hp:=IsP.pos (p:=p);have hp7:=IsP.le (p:=p);have hp0:p≠0:=by omega
  have hlt:(j:Int)≤((b.len-1:Nat):Int):=by omega
  have hi64:i<64:=by omega
  have hj64:j<64:=by omega
  have hij:i+j<64:=by omega
  have hs0:(0:Int)≤(i:Int)+j:=by omega
  have hs1:((i:Int)+j).toNat=i+j:=by omega
  have hx:(pad (row a))[i]? = some (rep (a.c i)):=by rw [ml _ _ hi64,ft]
  have hy:(pad (row b))[j]? = some (rep (b.c j)):=by rw [ml _ _ hj64,ft]
  have hx0:rep (a.c i)≠0:=fun h=>hai (k9.1 h)
  have hr1:=gr (a.c i);have hr2:=gr (b.c j);have hkc:i+j<cur.length:=by omega
  have hw:cur[i+j]=cf cur (i+j):=(gu hkc).symm;have gc:=hcan.le hp (i+j);have gm:=m7 (x:=rep (a.c i)) (y:=rep (b.c j)) (b:=10) (c:=10) (by omega) (by omega) (by omega)
  have gm0:=fw hr1.1 hr2.1;have w0:IntKind.i64.wrap ((i:Int)+j)=((i+j:Nat):Int):=(w64 (x:=(i:Int)+j) (by omega)).trans (by omega)
  have w1:IntKind.i64.wrap (rep (a.c i))=rep (a.c i):=w64 (by omega)
  have w2:IntKind.i64.wrap (rep (b.c j))=rep (b.c j):=w64 (by omega)
  have w3:IntKind.i64.wrap (cf cur (i+j))=cf cur (i+j):=w64 (by omega)
  have w4:IntKind.i64.wrap (rep (a.c i)*rep (b.c j))=rep (a.c i)*rep (b.c j):=w64 (by omega)
  have w5:IntKind.i64.wrap (cf cur (i+j)+rep (a.c i)*rep (b.c j))=cf cur (i+j)+rep (a.c i)*rep (b.c j):=w64 (by omega)
  have w6:(cf cur (i+j)+rep (a.c i)*rep (b.c j)).tmod p=(cf cur (i+j)+rep (a.c i)*rep (b.c j))%p:=ee (by omega)
  have hin:=ep (cf cur (i+j)+rep (a.c i)*rep (b.c j)) hp0;have hin2:=dl (cf cur (i+j)+rep (a.c i)*rep (b.c j)) hp;have w7:IntKind.u8.wrap ((cf cur (i+j)+rep (a.c i)*rep (b.c j))%p)=(cf cur (i+j)+rep (a.c i)*rep (b.c j))%p:=w8 (by omega)
  have w8':IntKind.i64.wrap ((j:Int)+1)=((j+1:Nat):Int):=(w64 (x:=(j:Int)+1) (by omega)).trans (by omega)
  have hnew:fe p (cur.set (i+j) ((cf cur (i+j)+rep (a.c i)*rep (b.c j))%p))=P+Pol.mo (a.c i) i*Hh b (j+1):=by
   rw [Lq hkc,he,B5,jq,jq,Eq,Gq.mul_add,aek,Gq.add_assoc]
  have hcan':Can p (cur.set (i+j) ((cf cur (i+j)+rep (a.c i)*rep (b.c j))%p)):=fun x hx=>by
   rcases fk hx with h | rfl
   ·exact hcan x h
   ·exact ⟨hin,hin2⟩
  obtain ⟨cur',g1,g2,g3,g4⟩:=a33 (O:=O) (z:=z) hn hi hal hbl hab hb1 hai hvn m (j+1) (cur.set (i+j) ((cf cur (i+j)+rep (a.c i)*rep (b.c j))%p)) (by omega) (by rw [cx]; exact hc) hcan' hnew
  have hs:af .u8 (cur.set (i+j) ((cf cur (i+j)+rep (a.c i)*rep (b.c j))%p))=(af .u8 cur).set (i+j) (D.int .u8 ((cf cur (i+j)+rep (a.c i)*rep (b.c j))%p)):=by unfold af; rw [List.map_set]
  rw [hs] at g4;refine ⟨cur',g1,g2,g3,cg ?_ g4⟩;generalize (cf cur (i+j)+rep (a.c i)*rep (b.c j))%p=W at *;generalize ((b.len-1:Nat):Int)=m1 at *;generalize pad (row a)=PA at *;generalize pad (row b)=PB at *;simp -implicitDefEqProofs [Z43_L0,aw,hlt,hi64,hj64,hij,hs0,hs1,hx,hy,hx0,hc,hw,w0,w1,w2,w3,w4,w5,w6,w7,w8',hp0,hvn]
theorem V3 {O:ap} {p:Int} [IsP p] {a b:Fp p} {z:List Int} (hal:a.len≤64) (hbl:b.len≤64) (hab:a.len+b.len≤65) (ha1:0<a.len) (hb1:0<b.len):∀(m i:Nat) (cur:List Int),i+m=a.len→cur.length=64→Can p cur→fe p cur=Hh a i*b→∃cur':List Int,cur'.length=64∧Can p cur'∧fe p cur'=a*b ∧
 dn O 0 (.loop Z43_L1) ⟨[(0,(.d (.int .i64 p))),(4,.ptr 0 []),(5,.ptr 1 []),(6,.ptr 2 []),(8,(.d (.int .i64 (((a.len-1:Nat):Int))))),(9,(.d (.int .i64 (((b.len-1:Nat):Int))))),(10,.ptr 3 []),(11,(.d (.int .i64 i)))],[.box false (D.arr 64 .leaf (af .u8 (pad (row a)))),.box false (D.arr 64 .leaf (af .u8 (pad (row b)))),.box false (D.arr 64 .leaf (af .u8 z)),.box false (D.arr 64 .leaf (af .u8 cur))]⟩ =
  some (.exit 0,⟨[(0,(.d (.int .i64 p))),(4,.ptr 0 []),(5,.ptr 1 []),(6,.ptr 2 []),(8,(.d (.int .i64 (((a.len-1:Nat):Int))))),(9,(.d (.int .i64 (((b.len-1:Nat):Int))))),(10,.ptr 3 []),(11,(.d (.int .i64 a.len))),(32,(.d (.bool false)))],[.box false (D.arr 64 .leaf (af .u8 (pad (row a)))),.box false (D.arr 64 .leaf (af .u8 (pad (row b)))),.box false (D.arr 64 .leaf (af .u8 z)),.box false (D.arr 64 .leaf (af .u8 cur'))]⟩)
 | 0,i,cur,hi,hc,hcan,he=>by
  obtain rfl:i=a.len:=by omega
  rw [Rs] at he;have hlt:¬ (a.len:Int)≤((a.len-1:Nat):Int):=by omega
  refine ⟨cur,hc,hcan,he,cm ?_⟩;generalize ((b.len-1:Nat):Int)=m1 at *;generalize ((a.len-1:Nat):Int)=n1 at *;generalize pad (row a)=PA at *;generalize pad (row b)=PB at *;simp -implicitDefEqProofs [Z43_L1,aw,hlt]
 | m+1,i,cur,hi,hc,hcan,he=>by
  have hlt:(i:Int)≤((a.len-1:Nat):Int):=by omega
  have hi64:i<64:=by omega
  have w8':IntKind.i64.wrap ((i:Int)+1)=((i+1:Nat):Int):=(w64 (x:=(i:Int)+1) (by omega)).trans (by omega)
  have hx:(pad (row a))[i]? = some (rep (a.c i)):=by rw [ml _ _ hi64,ft]
  by_cases hai:a.c i=0
  ·have hr:rep (a.c i)=0:=k9.2 hai
   have he':fe p cur=Hh a (i+1)*b:=by rw [Eq,hai,a7m,Gq.add_zero]; exact he
   obtain ⟨cur',g1,g2,g3,g4⟩:=V3 (O:=O) (z:=z) hal hbl hab ha1 hb1 m (i+1) cur (by omega) hc hcan he'
   rw [hr] at hx
   have hin:dn O 0 (.loop Z43_L0) ⟨[(0,(.d (.int .i64 p))),(4,.ptr 0 []),(5,.ptr 1 []),(6,.ptr 2 []),(8,(.d (.int .i64 (((a.len-1:Nat):Int))))),(9,(.d (.int .i64 (((b.len-1:Nat):Int))))),(10,.ptr 3 []),(11,(.d (.int .i64 i))),(12,(.d (.int .i64 0)))],[.box false (D.arr 64 .leaf (af .u8 (pad (row a)))),.box false (D.arr 64 .leaf (af .u8 (pad (row b)))),.box false (D.arr 64 .leaf (af .u8 z)),.box false (D.arr 64 .leaf (af .u8 cur))]⟩ =
    some (.exit 2,⟨[(0,(.d (.int .i64 p))),(4,.ptr 0 []),(5,.ptr 1 []),(6,.ptr 2 []),(8,(.d (.int .i64 (((a.len-1:Nat):Int))))),(9,(.d (.int .i64 (((b.len-1:Nat):Int))))),(10,.ptr 3 []),(11,(.d (.int .i64 i))),(12,(.d (.int .i64 0))),(43,(.d (.bool false)))],[.box false (D.arr 64 .leaf (af .u8 (pad (row a)))),.box false (D.arr 64 .leaf (af .u8 (pad (row b)))),.box false (D.arr 64 .leaf (af .u8 z)),.box false (D.arr 64 .leaf (af .u8 cur))]⟩):=by
    refine cm ?_;generalize b.len-1=m1 at *;generalize ((a.len-1:Nat):Int)=n1 at *;generalize pad (row a)=PA at *;generalize pad (row b)=PB at *;simp -implicitDefEqProofs [Z43_L0,aw,hi64,hx]
   refine ⟨cur',g1,g2,g3,cg ?_ g4⟩;generalize ((b.len-1:Nat):Int)=m1 at *;generalize ((a.len-1:Nat):Int)=n1 at *;generalize pad (row a)=PA at *;generalize pad (row b)=PB at *;simp -implicitDefEqProofs [Z43_L1,aw,hlt,hin,w8']
  ·obtain ⟨cur1,k1,k2,k3,k4⟩:=a33 (O:=O) (z:=z) (n:=0) (i:=i) (by omega) (by omega) hal hbl hab hb1 hai (P:=Hh a i*b) (vn:=(.d (.int .i64 (((a.len-1:Nat):Int))))) rfl b.len 0 cur (cd _) hc hcan (by rw [Ng,Gq.mul_zero,Gq.add_zero]; exact he)
   have e00:((0:Nat):Int)=0:=rfl;rw [e00] at k4
   have he':fe p cur1=Hh a (i+1)*b:=by
    rw [k3,Eq];exact bj [Hh a i,b,Pol.mo (a.c i) i] rfl
   obtain ⟨cur',g1,g2,g3,g4⟩:=V3 (O:=O) (z:=z) hal hbl hab ha1 hb1 m (i+1) cur1 (by omega) k1 k2 he'
   refine ⟨cur',g1,g2,g3,cg ?_ g4⟩;generalize ((b.len-1:Nat):Int)=m1 at *;generalize ((a.len-1:Nat):Int)=n1 at *;generalize pad (row a)=PA at *;generalize pad (row b)=PB at *;simp -implicitDefEqProofs [Z43_L1,aw,hlt,k4,w8']
def vw (O:ap):Prop:=∀(p:Int) [IsP p] (a b:Fp p),a.len≤64→b.len≤64→(a*b).len≤64 →
 ask O F43 [(D.int .i64 p),(D.arr 64 .leaf (af .u8 (pad (row a)))),(D.arr 64 .leaf (af .u8 (pad (row b))))]=some (.tup [(D.arr 64 .leaf (af .u8 (pad (row (a*b))))),(D.bool true)])
theorem a3g (hT:T F43=some Z43) (hd:iu (den T A)):vw (den T A):=by
 intro p i a b hal hbl hab;have e1:=hd p a hal;have e2:=hd p b hbl;refine c9 hT rfl ?_
 by_cases ha:a=0
 ·subst ha
  rw [Gq.zero_mul,dt];rw [Pol.len_zero,dt] at e1;generalize pad (row b)=PB at *;simp -implicitDefEqProofs [Z43,Z43_B,aw,e1,e2,List.replicate]
 ·have ha1:=Pol.len_pos ha
  by_cases hb:b=0
  ·subst hb
   rw [Gq.mul_zero,dt];rw [Pol.len_zero,dt] at e2;have ha2:¬ ((a.len:Int)-1<0):=by omega
   generalize pad (row a)=PA at *;simp -implicitDefEqProofs [Z43,Z43_B,aw,e1,e2,ha2,List.replicate]
  ·have hb1:=Pol.len_pos hb
   have hm:=Pol.len_mul ha hb;rw [show ((a.len:Int)-1)=((a.len-1:Nat):Int) by omega] at e1
   rw [show ((b.len:Int)-1)=((b.len-1:Nat):Int) by omega] at e2
   have w1:IntKind.i64.wrap (((a.len-1:Nat):Int)+((b.len-1:Nat):Int))=((a.len-1+(b.len-1):Nat):Int):=(w64 (by omega)).trans (by omega)
   have w2:¬ ((63:Int)<((a.len-1+(b.len-1):Nat):Int)):=by omega
   obtain ⟨cur',g1,g2,g3,g4⟩:=V3 (O:=den T A) (z:=pad []) hal hbl (by omega) ha1 hb1 a.len 0 (pad []) (cd _) (c8 _) (by
    have:=yq (0:Fp p); rwa [dt] at this) (by
    rw [Ng,Gq.zero_mul];have:=jn (p:=p) (a:=0) (by rw [Pol.len_zero]; omega)
    rwa [dt] at this)
   have e00:((0:Nat):Int)=0:=rfl;rw [e00] at g4;have hcur:cur'=pad (row (a*b)):=by rw [L8 g2 g1,g3]
   rw [hcur] at g4;have n1:¬ (((a.len-1:Nat):Int)<0):=by omega
   have n2:¬ (((b.len-1:Nat):Int)<0):=by omega
   generalize ((a.len-1+(b.len-1):Nat):Int)=s1 at *;generalize ((b.len-1:Nat):Int)=m1 at *;generalize ((a.len-1:Nat):Int)=k1 at *;generalize pad (row (a*b))=PR at *;generalize pad (row a)=PA at *;generalize pad (row b)=PB at *;simp -implicitDefEqProofs [Z43,Z43_B,aw,e1,e2,w1,w2,n1,n2,g4,List.replicate]
structure BzS {p:Int} [IsP p] (A B a b u x v y:Fp p):Prop where
 i:Pol.BzI A B a b u x v y
 la:a.len≤64
 lb:b.len≤64
 lu:u.len≤64
 lv:v.len≤64
 ne:a≠0
theorem BzS.step {p:Int} [IsP p] {A B a b u x v y:Fp p} (h:BzS A B a b u x v y) (hA:A.len≤64) (hB:B.len≤64) (hb:b≠0) :
 BzS A B b (a%b) x (u-a/b*x) y (v-a/b*y)∧x.len≤64∧y.len≤64∧(a/b).len≤64∧(a/b*x).len≤64∧(a/b*y).len≤64∧(a%b).len≤64:=by
 have h1:=h.i.lx;have h2:=h.i.ly;have h3:=Pol.len_pos h.ne;have h4:=Pol.len_pos hb;have h5:=Pol.len_div_le a hb;have h6:=Pol.len_mod_le a hb;obtain ⟨h7,h8⟩:=h.i.qlen hb;have h9:=h.la;have hx:x.len≤64:=by omega
 have hy:y.len≤64:=by omega
 exact ⟨⟨h.i.step hb,h.lb,by omega,hx,hy,hb⟩,hx,hy,by omega,by omega,by omega,by omega⟩
theorem a21 {O:ap} (hdg:iu O) (hd:rj O) (ht:vw O) (ha:mf O) {p:Int} [IsP p] {z:List Int} {a b u x v y:Fp p} (h0:b≠0) (ha':a.len≤64) (hb:b.len≤64) (hu:u.len≤64) (hv:v.len≤64) (s1:x.len≤64) (s2:y.len≤64) (s3:(a/b).len≤64) (s4:(a/b*x).len≤64) (s5:(a/b*y).len≤64) :
 dn O 0 Z3g_L0 ⟨[(0,(.d (.int .i64 p))),(4,.ptr 0 []),(5,.ptr 1 []),(6,.ptr 2 []),(7,.ptr 3 []),(8,.ptr 4 []),(9,.ptr 5 []),(10,.ptr 6 []),(11,.ptr 7 []),(12,.ptr 8 [])],[.box false (D.arr 64 .leaf (af .u8 (pad (row a)))),.box false (D.arr 64 .leaf (af .u8 (pad (row b)))),.box false (D.arr 64 .leaf (af .u8 z)),.box false (D.arr 64 .leaf (af .u8 z)),.box false (D.arr 64 .leaf (af .u8 z)),.box false (D.arr 64 .leaf (af .u8 (pad (row u)))),.box false (D.arr 64 .leaf (af .u8 (pad (row x)))),.box false (D.arr 64 .leaf (af .u8 (pad (row v)))),.box false (D.arr 64 .leaf (af .u8 (pad (row y)))),.hole,.hole,.hole,.hole,.hole,.hole]⟩ =
  some (.normal,⟨[(0,(.d (.int .i64 p))),(4,.ptr 0 []),(5,.ptr 1 []),(6,.ptr 2 []),(7,.ptr 3 []),(8,.ptr 4 []),(9,.ptr 5 []),(10,.ptr 6 []),(11,.ptr 7 []),(12,.ptr 8 [])],[.box false (D.arr 64 .leaf (af .u8 (pad (row b)))),.box false (D.arr 64 .leaf (af .u8 (pad (row (a%b))))),.box false (D.arr 64 .leaf (af .u8 z)),.box false (D.arr 64 .leaf (af .u8 z)),.box false (D.arr 64 .leaf (af .u8 z)),.box false (D.arr 64 .leaf (af .u8 (pad (row x)))),.box false (D.arr 64 .leaf (af .u8 (pad (row (u-a/b*x))))),.box false (D.arr 64 .leaf (af .u8 (pad (row y)))),.box false (D.arr 64 .leaf (af .u8 (pad (row (v-a/b*y))))),.hole,.hole,.hole,.hole,.hole,.hole]⟩):=by
 have hp:=Pol.len_pos h0;have e0:=hdg p b hb;have e1:=hd p a b h0 ha' hb;have e2:=ht p (a/b) x s3 s1 s4;have e3:=ha p (-1) u (a/b*x) (by omega) (by omega) hu s4
 have e4:=ht p (a/b) y s3 s2 s5;have e5:=ha p (-1) v (a/b*y) (by omega) (by omega) hv s5
 rw [Au] at e3 e5;have hge:¬ ((b.len:Int)-1<0):=by omega
 have hge2:(0:Int)≤(b.len:Int)-1:=by omega
 have hge3:(1:Int)≤(b.len:Int):=by omega
 generalize pad (row (u-a/b*x))=Pux at *;generalize pad (row (v-a/b*y))=Pvy at *;generalize pad (row (a/b*x))=Pqx at *;generalize pad (row (a/b*y))=Pqy at *;generalize pad (row (a/b))=Pq at *;generalize pad (row (a%b))=Pr at *;generalize pad (row a)=Pa at *;generalize pad (row b)=Pb at *;generalize pad (row u)=Pu at *;generalize pad (row x)=Px at *;generalize pad (row v)=Pv at *;generalize pad (row y)=Py at *;simp -implicitDefEqProofs [Z3g_L0,aw,hge3,e0,e1,e2,e3,e4,e5]
theorem a29 {O:ap} (hdg:iu O) (hd:rj O) (ht:vw O) (ha:mf O) {p:Int} [IsP p] {A B:Fp p} {z:List Int} (hA:A.len≤64) (hB:B.len≤64):∀(n:Nat) (a b u x v y:Fp p),b.len≤n→BzS A B a b u x v y→∃x' y':List Int,(Pol.bz n a b u x v y).1≠0∧(Pol.bz n a b u x v y).1.len≤64∧(Pol.bz n a b u x v y).2.1.len≤64∧(Pol.bz n a b u x v y).2.2.len≤64 ∧
 dn O 0 (.loop Z3g_L0) ⟨[(0,(.d (.int .i64 p))),(4,.ptr 0 []),(5,.ptr 1 []),(6,.ptr 2 []),(7,.ptr 3 []),(8,.ptr 4 []),(9,.ptr 5 []),(10,.ptr 6 []),(11,.ptr 7 []),(12,.ptr 8 [])],[.box false (D.arr 64 .leaf (af .u8 (pad (row a)))),.box false (D.arr 64 .leaf (af .u8 (pad (row b)))),.box false (D.arr 64 .leaf (af .u8 z)),.box false (D.arr 64 .leaf (af .u8 z)),.box false (D.arr 64 .leaf (af .u8 z)),.box false (D.arr 64 .leaf (af .u8 (pad (row u)))),.box false (D.arr 64 .leaf (af .u8 (pad (row x)))),.box false (D.arr 64 .leaf (af .u8 (pad (row v)))),.box false (D.arr 64 .leaf (af .u8 (pad (row y)))),.hole,.hole,.hole,.hole,.hole,.hole]⟩ =
  some (.exit 0,⟨[(0,(.d (.int .i64 p))),(4,.ptr 0 []),(5,.ptr 1 []),(6,.ptr 2 []),(7,.ptr 3 []),(8,.ptr 4 []),(9,.ptr 5 []),(10,.ptr 6 []),(11,.ptr 7 []),(12,.ptr 8 []),(28,(.d (.bool false)))],[.box false (D.arr 64 .leaf (af .u8 (pad (row (Pol.bz n a b u x v y).1)))),.box false (D.arr 64 .leaf (af .u8 (pad []))),.box false (D.arr 64 .leaf (af .u8 z)),.box false (D.arr 64 .leaf (af .u8 z)),.box false (D.arr 64 .leaf (af .u8 z)),.box false (D.arr 64 .leaf (af .u8 (pad (row (Pol.bz n a b u x v y).2.1)))),.box false (D.arr 64 .leaf (af .u8 x')),.box false (D.arr 64 .leaf (af .u8 (pad (row (Pol.bz n a b u x v y).2.2)))),.box false (D.arr 64 .leaf (af .u8 y')),.hole,.hole,.hole,.hole,.hole,.hole]⟩):=by
 intro n
 have stop:∀(a u x v y:Fp p),dn O 0 (.loop Z3g_L0) ⟨[(0,(.d (.int .i64 p))),(4,.ptr 0 []),(5,.ptr 1 []),(6,.ptr 2 []),(7,.ptr 3 []),(8,.ptr 4 []),(9,.ptr 5 []),(10,.ptr 6 []),(11,.ptr 7 []),(12,.ptr 8 [])],[.box false (D.arr 64 .leaf (af .u8 (pad (row a)))),.box false (D.arr 64 .leaf (af .u8 (pad (row (0:Fp p))))),.box false (D.arr 64 .leaf (af .u8 z)),.box false (D.arr 64 .leaf (af .u8 z)),.box false (D.arr 64 .leaf (af .u8 z)),.box false (D.arr 64 .leaf (af .u8 (pad (row u)))),.box false (D.arr 64 .leaf (af .u8 (pad (row x)))),.box false (D.arr 64 .leaf (af .u8 (pad (row v)))),.box false (D.arr 64 .leaf (af .u8 (pad (row y)))),.hole,.hole,.hole,.hole,.hole,.hole]⟩ =
  some (.exit 0,⟨[(0,(.d (.int .i64 p))),(4,.ptr 0 []),(5,.ptr 1 []),(6,.ptr 2 []),(7,.ptr 3 []),(8,.ptr 4 []),(9,.ptr 5 []),(10,.ptr 6 []),(11,.ptr 7 []),(12,.ptr 8 []),(28,(.d (.bool false)))],[.box false (D.arr 64 .leaf (af .u8 (pad (row a)))),.box false (D.arr 64 .leaf (af .u8 (pad []))),.box false (D.arr 64 .leaf (af .u8 z)),.box false (D.arr 64 .leaf (af .u8 z)),.box false (D.arr 64 .leaf (af .u8 z)),.box false (D.arr 64 .leaf (af .u8 (pad (row u)))),.box false (D.arr 64 .leaf (af .u8 (pad (row x)))),.box false (D.arr 64 .leaf (af .u8 (pad (row v)))),.box false (D.arr 64 .leaf (af .u8 (pad (row y)))),.hole,.hole,.hole,.hole,.hole,.hole]⟩):=by
  intro a u x v y;have e:=hdg p 0 (by rw [Pol.len_zero]; omega)
  rw [dt,Pol.len_zero] at e;rw [dt];refine cm ?_;generalize pad (row a)=Pa;generalize pad (row u)=Pu;generalize pad (row x)=Px;generalize pad (row v)=Pv;generalize pad (row y)=Py;simp -implicitDefEqProofs [Z3g_L0,aw,e]
 induction n with
 | zero=>
  intro a b u x v y hn hs;obtain rfl:=Pol.len_zero_iff.1 (show b.len=0 by omega)
  exact ⟨_,_,hs.ne,hs.la,hs.lu,hs.lv,stop a u x v y⟩
 | succ n ih=>
  intro a b u x v y hn hs;unfold Pol.bz
  by_cases h0:b=0
  ·subst h0
   rw [if_pos rfl];exact ⟨_,_,hs.ne,hs.la,hs.lu,hs.lv,stop a u x v y⟩
  ·rw [if_neg h0]
   obtain ⟨s0,s1,s2,s3,s4,s5,s6⟩:=hs.step hA hB h0;have hl:=Pol.len_mod a h0;have hp:=Pol.len_pos h0;obtain ⟨x',y',g1,g2,g3,g4,e⟩:=ih b (a%b) x (u-a/b*x) y (v-a/b*y) (by omega) s0
   exact ⟨x',y',g1,g2,g3,g4,cg (a21 hdg hd ht ha h0 hs.la hs.lb hs.lu hs.lv s1 s2 s3 s4 s5) e⟩
theorem a93 {O:ap} (hdg:iu O) (hd:rj O) (ht:vw O) (ha:mf O) {p:Int} [IsP p] {a b:Fp p} {z:List Int} (h:a≠0∨b≠0) (hal:a.len≤64) (hbl:b.len≤64):∃x' y':List Int,(Pol.bz b.len a b 1 0 0 1).1≠0∧(Pol.bz b.len a b 1 0 0 1).1.len≤64∧(Pol.bz b.len a b 1 0 0 1).2.1.len≤64∧(Pol.bz b.len a b 1 0 0 1).2.2.len≤64 ∧
 dn O 0 (.loop Z3g_L0) ⟨[(0,(.d (.int .i64 p))),(4,.ptr 0 []),(5,.ptr 1 []),(6,.ptr 2 []),(7,.ptr 3 []),(8,.ptr 4 []),(9,.ptr 5 []),(10,.ptr 6 []),(11,.ptr 7 []),(12,.ptr 8 [])],[.box false (D.arr 64 .leaf (af .u8 (pad (row a)))),.box false (D.arr 64 .leaf (af .u8 (pad (row b)))),.box false (D.arr 64 .leaf (af .u8 z)),.box false (D.arr 64 .leaf (af .u8 z)),.box false (D.arr 64 .leaf (af .u8 z)),.box false (D.arr 64 .leaf (af .u8 (pad (row (1:Fp p))))),.box false (D.arr 64 .leaf (af .u8 (pad (row (0:Fp p))))),.box false (D.arr 64 .leaf (af .u8 (pad (row (0:Fp p))))),.box false (D.arr 64 .leaf (af .u8 (pad (row (1:Fp p))))),.hole,.hole,.hole,.hole,.hole,.hole]⟩ =
  some (.exit 0,⟨[(0,(.d (.int .i64 p))),(4,.ptr 0 []),(5,.ptr 1 []),(6,.ptr 2 []),(7,.ptr 3 []),(8,.ptr 4 []),(9,.ptr 5 []),(10,.ptr 6 []),(11,.ptr 7 []),(12,.ptr 8 []),(28,(.d (.bool false)))],[.box false (D.arr 64 .leaf (af .u8 (pad (row (Pol.bz b.len a b 1 0 0 1).1)))),.box false (D.arr 64 .leaf (af .u8 (pad []))),.box false (D.arr 64 .leaf (af .u8 z)),.box false (D.arr 64 .leaf (af .u8 z)),.box false (D.arr 64 .leaf (af .u8 z)),.box false (D.arr 64 .leaf (af .u8 (pad (row (Pol.bz b.len a b 1 0 0 1).2.1)))),.box false (D.arr 64 .leaf (af .u8 x')),.box false (D.arr 64 .leaf (af .u8 (pad (row (Pol.bz b.len a b 1 0 0 1).2.2)))),.box false (D.arr 64 .leaf (af .u8 y')),.hole,.hole,.hole,.hole,.hole,.hole]⟩):=by
 by_cases h0:a=0
 ·subst h0
  have hb:=h.resolve_left (fun h=>h rfl)
  have hp:=Pol.len_pos hb;obtain ⟨k,hk⟩:∃k,b.len=k+1:=⟨b.len-1,by omega⟩
  have h1:(1:Fp p).len=1:=Pol.len_one;have hz:(0:Fp p).len=0:=Pol.len_zero;have hq:(0:Fp p)/b=0:=(Pol.div_mod_eq (a:=(0:Fp p)) (b:=b) (q:=0) (r:=0) (by rw [Gq.zero_mul,Gq.zero_add]) (by omega)).1
  have hs0:∀c:Fp p,c-0=c:=fun c=>by rw [Gq.sub_eq,ve,Gq.add_zero]
  have hr:(0:Fp p)%b=0:=Pol.zero_mod hb;have e:=a21 (z:=z) hdg hd ht ha (a:=0) (b:=b) (u:=1) (x:=0) (v:=0) (y:=1) hb (by omega) hbl (by omega) (by omega) (by omega) (by omega) (by rw [hq]; omega) (by rw [hq,Gq.zero_mul]; omega) (by rw [hq,Gq.zero_mul]; omega)
  rw [hk];unfold Pol.bz;rw [if_neg hb];rw [hq,hr,Gq.zero_mul,Gq.zero_mul,hs0,hs0] at e ⊢;have hi:Pol.BzI (0:Fp p) b b 0 0 1 1 0:=⟨by rw [Gq.zero_mul,Gq.zero_add,Gq.one_mul],by rw [Gq.mul_zero,Gq.zero_mul,Gq.add_zero],.inr (by omega),.inl hz,.inl hz,.inr (by omega),.inl hb⟩
  obtain ⟨x',y',g1,g2,g3,g4,e2⟩:=a29 (O:=O) (z:=z) hdg hd ht ha (A:=0) (B:=b) (by omega) hbl k b 0 0 1 1 0 (by omega) ⟨hi,hbl,by omega,by omega,by omega,hb⟩
  exact ⟨x',y',g1,g2,g3,g4,cg e e2⟩
 ·exact a29 (O:=O) (z:=z) hdg hd ht ha hal hbl b.len a b 1 0 0 1 (bh _) ⟨Pol.BzI.init (.inl h0),hal,hbl,by rw [Pol.len_one]; omega,by rw [Pol.len_zero]; omega,h0⟩
def G8 (O:ap):Prop:=∀(p:Int) [IsP p] (a b:Fp p),a≠0∨b≠0→a.len≤64→b.len≤64 →
 ask O F3g [(D.int .i64 p),(D.arr 64 .leaf (af .u8 (pad (row a)))),(D.arr 64 .leaf (af .u8 (pad (row b))))]=some (.tup [(D.arr 64 .leaf (af .u8 (pad (row (Pol.bezout a b).1)))),(D.arr 64 .leaf (af .u8 (pad (row (Pol.bezout a b).2.1)))),(D.arr 64 .leaf (af .u8 (pad (row (Pol.bezout a b).2.2))))])
theorem a1a (hT:T F3g=some Z3g) (h1:Jd (den T A)) (hdg:iu (den T A)) (hd:rj (den T A)) (ht:vw (den T A)) (ha:mf (den T A)) (hinv:na (den T A)):G8 (den T A):=by
 intro p i a b h0 hal hbl;have hp:=IsP.ge (p:=p);have hp7:=IsP.le (p:=p);have e1:=h1 p;obtain ⟨x',y',g1,g2,g3,g4,e2⟩:=a93 (O:=den T A) (z:=pad []) hdg hd ht ha h0 hal hbl;unfold Pol.bezout;have heu:Pol.eu a b=Pol.bz b.len a b 1 0 0 1:=rfl;rw [heu];generalize Pol.bz b.len a b 1 0 0 1=R at *;obtain ⟨d,u,v⟩:=R;simp only at g1 g2 g3 g4 e2 ⊢;rw [dt] at e2;have hd1:=Pol.len_pos g1;have e3:=hdg p d g2;rw [show ((d.len:Int)-1)=((d.len-1:Nat):Int) by omega] at e3
 have hi64:d.len-1<64:=by omega
 have hx:(pad (row d))[d.len-1]? = some (rep d.ld):=by rw [ml _ _ hi64,ft]; rfl
 have hr:=gr d.ld;have hr0:rep d.ld≠0:=fun h=>Pol.ld_ne g1 (k9.1 h)
 have hin:=vd p (rep d.ld);have e4:=hinv p (rep d.ld) (by omega) hr.2
 have w1:IntKind.i64.wrap (inv p (rep d.ld))=inv p (rep d.ld):=w64 (by omega)
 have z0:(0:Fp p).len≤64:=by rw [Pol.len_zero]; omega
 have e5:=ha p (inv p (rep d.ld)) 0 d (by omega) (by omega) z0 g2
 have e6:=ha p (inv p (rep d.ld)) 0 u (by omega) (by omega) z0 g3
 have e7:=ha p (inv p (rep d.ld)) 0 v (by omega) (by omega) z0 g4
 rw [ry _ (Pol.ld_ne g1),Gq.zero_add,dt] at e5 e6 e7;refine c9 hT rfl ?_;generalize pad (row (Pol.C (Fd.inv d.ld)*d))=P1 at *;generalize pad (row (Pol.C (Fd.inv d.ld)*u))=P2 at *;generalize pad (row (Pol.C (Fd.inv d.ld)*v))=P3 at *;generalize pad (row d)=Pd at *;generalize pad (row u)=Pu at *;generalize pad (row v)=Pv at *;generalize pad (row a)=Pa at *;generalize pad (row b)=Pb at *;generalize pad (row (1:Fp p))=P0 at *;generalize d.len-1=n1 at *;simp -implicitDefEqProofs [Z3g,Z3g_B,e1,e2,e3,e4,e5,e6,e7,hi64,hx,w1,List.replicate]
def Ny (O:ap):Prop:=∀(p:Int) [IsP p] (a b:Fp p),a≠0→a.len≤64→b.len≤64 →
 ask O F3o [(D.int .i64 p),(D.arr 64 .leaf (af .u8 (pad (row a)))),(D.arr 64 .leaf (af .u8 (pad (row b))))]=some (D.arr 64 .leaf (af .u8 (pad (row (Pol.gcd a b)))))
theorem abn (hT:T F3o=some Z3o) (hdg:iu (den T A)) (hb:G8 (den T A)):Ny (den T A):=by
 intro p i a b h0 hal hbl;have e1:=hdg p a hal;have e2:=hb p a b (.inl h0) hal hbl;have hp:=Pol.len_pos h0;have hge:¬ ((a.len:Int)-1<0):=by omega
 refine c9 hT rfl ?_;unfold Pol.gcd;generalize pad (row (Pol.bezout a b).1)=P1 at *;generalize pad (row (Pol.bezout a b).2.1)=P2 at *;generalize pad (row (Pol.bezout a b).2.2)=P3 at *;generalize pad (row a)=Pa at *;generalize pad (row b)=Pb at *;generalize (a.len:Int)-1=n1 at *;simp -implicitDefEqProofs [Z3o,Z3o_B,aw,e1,e2,hge,List.replicate]
def a17 (O:ap):Prop:=∀(p:Int) [IsP p],ask O F42 []=some (D.arr 64 .leaf (af .u8 (pad (row (Pol.X:Fp p)))))
theorem aj5 (hT:T F42=some Z42):a17 (den T A):=by
 intro p i;have e:((pad []).set 0 0).set 1 1=pad [0,1]:=by decide +kernel
 have h0:(pad [])[0]? = some 0:=by decide +kernel
 have h1:(pad [])[1]? = some 0:=by decide +kernel
 rw [a3b];refine c9 hT rfl ?_;simp -implicitDefEqProofs [Z42,Z42_B,e,h0,h1]
open Classical in
theorem a3r {O:ap} (hdg:iu O) (hpw:xz O) (hg:Ny O) (ha:mf O) (ht:a17 O) {p:Int} [IsP p] {m:Fp p} (hm:m≠0) (hml:m.len≤13) {n:Nat} (hn:n+1=m.len):∀(f k:Nat),1≤k→k+f=n/2+1→∃P':List Int,
 dn O 0 (.loop Z3r_L0) ⟨[(0,(.d (.int .i64 p))),(3,.ptr 0 []),(5,(.d (.int .i64 n))),(6,.ptr 1 []),(7,(.d (.int .i64 k)))],[.box false (D.arr 64 .leaf (af .u8 (pad (row m)))),.box false (D.arr 64 .leaf (af .u8 (pad (row (pw Pol.X (p.toNat^(k-1))%m)))))]⟩ =
  if ∀k',k≤k'→2*k'≤n→(Pol.gcd m (frW m k')).len=1 then some (.exit 0,⟨[(0,(.d (.int .i64 p))),(3,.ptr 0 []),(5,(.d (.int .i64 n))),(6,.ptr 1 []),(7,(.d (.int .i64 (((n/2+1:Nat):Int))))),(19,(.d (.bool false)))],[.box false (D.arr 64 .leaf (af .u8 (pad (row m)))),.box false (D.arr 64 .leaf (af .u8 P'))]⟩)
  else some (.ret,⟨[(4,(.d (.bool false)))],[.hole,.hole]⟩)
 | 0,k,hk,hf=>by
  obtain rfl:k=n/2+1:=by omega
  refine ⟨pad (row (pw Pol.X (p.toNat^(n/2+1-1))%m)),?_⟩;rw [if_pos (fun k' h1 h2=>by omega)]
  have w1:IntKind.i64.wrap (2*((n/2+1:Nat):Int))=2*((n/2+1:Nat):Int):=w64 (by omega)
  have hlt:¬ (2*((n/2+1:Nat):Int)≤n):=by omega
  refine cm ?_;generalize ((n/2+1:Nat):Int)=k1 at *;generalize pad (row (pw Pol.X (p.toNat^(n/2+1-1))%m))=P1 at *;generalize pad (row m)=Pm at *;simp -implicitDefEqProofs [Z3r_L0,aw,w1,hlt]
 | f+1,k,hk,hf=>by
  have hp:=IsP.pos (p:=p);have hp7:=IsP.le (p:=p);have w1:IntKind.i64.wrap (2*(k:Int))=2*(k:Int):=w64 (by omega)
  have hlt:2*(k:Int)≤n:=by omega
  have w4:IntKind.i64.wrap ((k:Int)+1)=((k+1:Nat):Int):=(w64 (x:=(k:Int)+1) (by omega)).trans (by omega)
  have hl1:=Pol.len_mod (pw Pol.X (p.toNat^(k-1))) hm;have hl2:=Pol.len_mod (pw Pol.X (p.toNat^k)) hm;have e1:=hpw p (pw Pol.X (p.toNat^(k-1))%m) p m hm (by omega) (by omega) (by omega) (by omega)
  have e2:pw (pw Pol.X (p.toNat^(k-1))%m) p.toNat%m=pw Pol.X (p.toNat^k)%m:=by
   rw [Pol.pow_mod _ hm,wj,←mz,show (k-1).succ=k by omega]
  rw [e2] at e1;have e3:=ht p;have hX:(Pol.X:Fp p).len≤64:=by rw [Pol.len_X]; omega
  have e4:=ha p (-1) (pw Pol.X (p.toNat^k)%m) Pol.X (by omega) (by omega) (by omega) hX
  rw [Au] at e4;have e4':pw Pol.X (p.toNat^k)%m-Pol.X=frW m k:=rfl;rw [e4'] at e4;have hl3:(frW m k).len≤64:=Pol.len_sub_le (by omega) hX
  have e5:=hg p m (frW m k) hm (by omega) hl3
  have hgm:=Pol.gcd_monic (a:=m) (b:=frW m k) (.inl hm);have hgl:=(Pol.gcd_dv_left (a:=m) (b:=frW m k) (.inl hm)).len hm;have e6:=hdg p (Pol.gcd m (frW m k)) (by omega)
  have hg1:=Pol.len_pos hgm.2
  by_cases hc:(Pol.gcd m (frW m k)).len=1
  ·obtain ⟨P',ih⟩:=a3r hdg hpw hg ha ht hm hml hn f (k+1) (by omega) (by omega)
   rw [show k+1-1=k by omega] at ih
   refine ⟨P',?_⟩
   have hiff:(∀k',k≤k'→2*k'≤n→(Pol.gcd m (frW m k')).len=1)↔∀k',k+1≤k'→2*k'≤n→(Pol.gcd m (frW m k')).len=1:=by
    constructor
    ·intro h k' h1 h2; exact h k' (by omega) h2
    ·intro h k' h1 h2
     by_cases hkk:k'=k
     ·rw [hkk]; exact hc
     ·exact h k' (by omega) h2
   rw [propext hiff];refine cg ?_ ih;rw [hc] at e6;have e7:((1:Nat):Int)-1=0:=rfl;rw [e7] at e6;generalize pad (row (Pol.gcd m (frW m k)))=Pg at *;generalize pad (row (frW m k))=Pw at *;generalize pad (row (pw Pol.X (p.toNat^k)%m))=P2 at *;generalize pad (row (pw Pol.X (p.toNat^(k-1))%m))=P1 at *;generalize pad (row (Pol.X:Fp p))=PX at *;generalize pad (row m)=Pm at *;simp -implicitDefEqProofs [Z3r_L0,aw,w1,hlt,e1,e3,e4,e5,e6,w4]
  ·refine ⟨pad [],?_⟩
   rw [if_neg (fun h=>hc (h k (bh k) (by omega)))]
   have hne:¬ (((Pol.gcd m (frW m k)).len:Int)-1=0):=by omega
   refine lq ?_;generalize ((Pol.gcd m (frW m k)).len:Int)-1=g1 at *;generalize pad (row (Pol.gcd m (frW m k)))=Pg at *;generalize pad (row (frW m k))=Pw at *;generalize pad (row (pw Pol.X (p.toNat^k)%m))=P2 at *;generalize pad (row (pw Pol.X (p.toNat^(k-1))%m))=P1 at *;generalize pad (row (Pol.X:Fp p))=PX at *;generalize pad (row m)=Pm at *;simp -implicitDefEqProofs [Z3r_L0,aw,w1,hlt,e1,e3,e4,e5,e6,hne]
open Classical in
def Ju (O:ap):Prop:=∀(p:Int) [IsP p] (m:Fp p),m≠0→m.len≤13→ask O F3r [(D.int .i64 p),(D.arr 64 .leaf (af .u8 (pad (row m))))]=some (D.bool (decide (Irr m)))
open Classical in
theorem abi (hT:T F3r=some Z3r) (hdg:iu (den T A)) (hmo:xb (den T A)) (hpw:xz (den T A)) (hg:Ny (den T A)) (ha:mf (den T A)) (ht:a17 (den T A)):Ju (den T A):=by
 intro p i m hm hml;have e1:=hdg p m (by omega)
 have e2:=ht p;have e3:=hmo p Pol.X m hm (by rw [Pol.len_X]; omega) (by omega)
 have h1:=Pol.len_pos hm;refine c9 hT rfl ?_
 by_cases h2:2≤m.len
 ·obtain ⟨P',e4⟩:=a3r (O:=den T A) hdg hpw hg ha ht hm hml (n:=m.len-1) (by omega) ((m.len-1)/2) 1 (bh 1) (by omega)
  have e5:pw (Pol.X:Fp p) (p.toNat^(1-1))=Pol.X:=by rw [io,n5,zt]
  rw [e5,a62 h2 hml] at e4;rw [show ((m.len:Int)-1)=((m.len-1:Nat):Int) by omega] at e1
  have hlt:¬ (((m.len-1:Nat):Int)<1):=by omega
  have e01:((1:Nat):Int)=1:=rfl;rw [e01] at e4
  by_cases hi:Irr m
  ·rw [if_pos hi] at e4
   rw [decide_eq_true hi];generalize (((m.len-1)/2+1:Nat):Int)=k1 at *;generalize ((m.len-1:Nat):Int)=n1 at *;generalize pad (row (Pol.X%m))=P1 at *;generalize pad (row (Pol.X:Fp p))=PX at *;generalize pad (row m)=Pm at *;simp -implicitDefEqProofs [Z3r,Z3r_B,aw,e1,e2,e3,e4,hlt,List.replicate]
  ·rw [if_neg hi] at e4
   rw [decide_eq_false hi];generalize ((m.len-1:Nat):Int)=n1 at *;generalize pad (row (Pol.X%m))=P1 at *;generalize pad (row (Pol.X:Fp p))=PX at *;generalize pad (row m)=Pm at *;simp -implicitDefEqProofs [Z3r,Z3r_B,aw,e1,e2,e3,e4,hlt,List.replicate]
 ·have hl:m.len=1:=by omega
  rw [hl] at e1;have e7:((1:Nat):Int)-1=0:=rfl;rw [e7] at e1;rw [decide_eq_false (fun h:Irr m=>h2 h.len)]
  generalize pad (row (Pol.X%m))=P1 at *;generalize pad (row (Pol.X:Fp p))=PX at *;generalize pad (row m)=Pm at *;simp -implicitDefEqProofs [Z3r,Z3r_B,aw,e1,e2,e3,List.replicate]
end Pe
namespace Pe
open Go Gq
variable {T:Nat→Option Fn} {A:ap}
def L9:List Int→Nat→List Int→List Int
 | [],_,cur=>cur
 | d::ds,i,cur=>L9 ds (i+1) (cur.set i d)
theorem Gr:∀(ds:List Int) (i:Nat) (cur:List Int),(L9 ds i cur).length=cur.length
 | [],_,_=>rfl
 | d::ds,i,cur=>by rw [L9,Gr,cx]
theorem Yk:∀(ds:List Int) (i:Nat) (cur:List Int) (j:Nat),i+ds.length≤cur.length→cf (L9 ds i cur) j=if i≤j∧j<i+ds.length then cf ds (j-i) else cf cur j
 | [],i,cur,j,_=>by rw [L9,if_neg (by rintro ⟨h1,h2⟩; rw [dw] at h2; omega)]
 | d::ds,i,cur,j,h=>by
  simp at h;rw [L9,Yk ds (i+1) _ j (by rw [cx]; omega),t8,c7]
  by_cases h1:j=i
  ·subst h1
   rw [if_neg (by omega),if_pos ⟨rfl,by omega⟩,if_pos (by omega),io]; rfl
  ·by_cases h2:i+1≤j∧j<i+1+ds.length
   ·rw [if_pos h2,if_pos (by omega)]
    obtain ⟨k,hk⟩:∃k,j-i=k+1:=⟨j-i-1,by omega⟩
    rw [hk,show j-(i+1)=k by omega]
    simp [cf]
   ·rw [if_neg h2,if_neg (by omega),if_neg (by omega)]
theorem a2d {ds:List Int} (h:ds.length≤64):L9 ds 0 (pad [])=pad ds:=by
 symm
 apply Jh (by rw [Gr,c8])
 intro i hi;rw [Yk _ _ _ _ (by rw [c8]; omega)]
 by_cases h1:i<ds.length
 ·rw [if_pos (by omega),Nat.sub_zero]
 ·rw [if_neg (by omega),Am (by simp),pc (by omega),pc (by simp)]
theorem a9z {O:ap} {p:Int} [IsP p] {z:List Int}:∀(f:Nat) (n:Int) (i:Nat) (cur:List Int),0≤n→n<2^f→n<9223372036854775807→i+f≤64→cur.length=64→∃i':Nat,
 dn O 0 (.loop Z3x_L0) ⟨[(0,(.d (.int .i64 p))),(1,(.d (.int .i64 n))),(4,.ptr 0 []),(5,.ptr 1 []),(6,(.d (.int .i64 i)))],[.box false (D.arr 64 .leaf (af .u8 z)),.box false (D.arr 64 .leaf (af .u8 cur))]⟩ =
  some (.exit 0,⟨[(0,(.d (.int .i64 p))),(1,(.d (.int .i64 0))),(4,.ptr 0 []),(5,.ptr 1 []),(6,(.d (.int .i64 i'))),(9,(.d (.bool false)))],[.box false (D.arr 64 .leaf (af .u8 z)),.box false (D.arr 64 .leaf (af .u8 (L9 (dgs p f n) i cur)))]⟩)
 | 0,n,i,cur,h0,hn,hm,hi,hc=>by
  obtain rfl:n=0:=by simp at hn; omega
  exact ⟨i,cm (by simp -implicitDefEqProofs [Z3x_L0,aw,dgs,L9])⟩
 | f+1,n,i,cur,h0,hn,hm,hi,hc=>by
  have hp:=IsP.ge (p:=p);have hp7:=IsP.le (p:=p)
  by_cases hz:n=0
  ·subst hz
   refine ⟨i,?_⟩;rw [dgs,if_pos (u6 0),L9];exact cm (by simp -implicitDefEqProofs [Z3x_L0,aw])
  ·have hd:n/p<2^f:=by
    apply ju (by omega)
    have:(2:Int)^(f+1)=2^f*2:=gn _ _;have h2:(2:Int)^f*2≤2^f*p:=cw hp (pj (by omega))
    omega
   have hdn:0≤n/p:=ow (by omega) (by omega)
   have hdl:n/p≤n:=Int.ediv_le_self _ h0;obtain ⟨i',e⟩:=a9z (O:=O) (p:=p) (z:=z) f (n/p) (i+1) (cur.set i (n%p)) hdn hd (by omega) (by omega) (by simpa using hc)
   have hpos:0<n:=by omega
   have hr:0≤n%p∧n%p<p:=⟨ep _ (by omega),dl _ (by omega)⟩
   have w1:IntKind.i64.wrap (n.tdiv p)=n/p:=by rw [pk h0,w64 (by omega)]
   have w2:n.tmod p=n%p:=ee h0;have w3:IntKind.u8.wrap (n%p)=n%p:=w8 (by omega)
   have w4:IntKind.i64.wrap ((i:Int)+1)=((i+1:Nat):Int):=(w64 (x:=(i:Int)+1) (by omega)).trans (by omega)
   have hp0:p≠0:=by omega
   have hi64:i<64:=by omega
   have hic:i<cur.length:=by omega
   refine ⟨i',?_⟩;rw [dgs,if_neg (by omega),L9]
   refine cg ?_ e;simp -implicitDefEqProofs [Z3x_L0,aw,hpos,w1,w2,w3,w4,hp0,hi64,hic]
def Xd (O:ap):Prop:=∀(p:Int) [IsP p] (n:Int),0≤n→n<4611686018427387904→ask O F3x [(D.int .i64 p),(D.int .i64 n)]=some (D.arr 64 .leaf (af .u8 (pad (row (fu p n)))))
theorem ag3 (hT:T F3x=some Z3x):Xd (den T A):=by
 intro p i n h0 hn;obtain ⟨i',e⟩:=a9z (O:=den T A) (p:=p) (z:=pad []) 64 n 0 (pad []) h0 (by omega) (by omega) (by omega) (c8 _)
 rw [a2d (a54 p 64 n),←Jv (by omega)] at e
 have e0:((0:Nat):Int)=0:=rfl;rw [e0] at e;refine c9 hT rfl ?_;generalize pad (row (fu p n))=R at *;simp -implicitDefEqProofs [Z3x,Z3x_B,e]
theorem My (k:IntKind):∀{l m:List Int},l.length=m.length→D.beqs .int (af k l) (af k m)=some (decide (l=m))
 | [],[],_=>by simp [D.beqs,af]
 | x::l,y::m,h=>by
  have e:D.beqs .int (af k (x::l)) (af k (y::m))=(D.beq .int (.int k x) (.int k y)).bind fun b=>if b then D.beqs .int (af k l) (af k m) else some false:=rfl
  rw [e];have e2:D.beq .int (.int k x) (.int k y)=some (decide (x=y)):=by simp [D.beq]
  rw [e2,ae,My k (by simpa using h)]
  by_cases h1:x=y
  ·subst h1; simp
  ·simp [h1]
theorem Xl {l m:List Int} (hl:l.length=64) (hm:m.length=64):D.beq (.arr 64 .leaf .int) (D.arr 64 .leaf (af .u8 l)) (D.arr 64 .leaf (af .u8 m))=some (decide (l=m)):=by
 have e:D.beq (.arr 64 .leaf .int) (D.arr 64 .leaf (af .u8 l)) (D.arr 64 .leaf (af .u8 m))=if 64=64∧64=64∧Sh.beq .leaf .leaf∧Sh.beq .leaf .leaf then D.beqs .int (af .u8 l) (af .u8 m) else none:=rfl
 rw [e,if_pos ⟨rfl,rfl,rfl,rfl⟩,My _ (by omega)]
theorem Hb {p:Int} {a b:Fp p} (ha:a.len≤64) (hb:b.len≤64):pad (row a)=pad (row b)↔a=b:=by
 constructor
 ·intro h
  rw [←jn ha,h,jn hb]
 ·rintro rfl; rfl
section
variable {p:Int} [IsP p]
structure SInv (a0:Fp p) (k:Int) (a:Fp p) (out:o9 p):Prop where
 ne:a≠0
 eq:a0=a*nw out
 ok:FacOk out
 so:out.Pairwise fun x y=>gt x.1<gt y.1
 lt:∀x∈out,gt x.1<k
 ge:∀q,Irr q→Monic q→Dv q a→k≤gt q
 ln:out.length+a.len≤13
structure SEnd (a0 a:Fp p) (out:o9 p):Prop where
 ne:a≠0
 eq:a0=a*nw out
 ok:FacOk out
 so:out.Pairwise fun x y=>gt x.1<gt y.1
 irr:2≤a.len→Irr a∧∀x∈out,gt x.1<gt (mon a)
 ln:out.length+a.len≤13
theorem Wg {q a:Fp p} (hq:Irr q) (h:Dv q a):Dv (mon q) a:=(D5 hq.ne).2 h
theorem SInv.small {a0 a:Fp p} {n:Nat} {k:Int} {out:o9 p} (h:SInv a0 k a out) (_hn:n≤12) (hk:p^n≤k):Bs n a:=by
 intro q hq hd;have h1:=h.ge _ hq.mon (rh hq.ne) (Wg hq hd);have h2:=E8 (mon q);rw [wo hq.ne] at h2;apply dj;intro hx;have:=pq (p:=p) (by have:=IsP.pos (p:=p); omega) (show q.len≤n by omega)
 omega
theorem SInv.step {a0 a:Fp p} {n:Nat} {k:Int} {out:o9 p} (h:SInv a0 k a out) (hn1:1≤n) (hn:n≤12) (hk:p^n≤k) (hk2:k<2*p^n) {j:Nat} {r:Fp p} (h1:a=r*pw (fu p k) j) (h2:¬ Dv (fu p k) r) :
 SInv a0 (k+1) r (if j=0 then out else out++[(fu p k,j)]):=by
 obtain ⟨m1,m2⟩:=Db hn hk hk2;have hb:=tc (p:=p) hn;have hpos:=mw (p:=p) n;have hnum:gt (fu p k)=k:=yr ⟨by omega,by omega⟩
 have hr0:r≠0:=fun h0=>h.ne (by rw [h1,h0,Gq.zero_mul])
 have ge':∀q,Irr q→Monic q→Dv q r→k+1≤gt q:=by
  intro q hq hm hd;have g1:=h.ge q hq hm (by rw [h1]; exact hd.mul_right _)
  have g2:gt q≠k:=fun e=>by
   have:q=fu p k:=Me (by rw [e,hnum])
   exact h2 (this▸hd)
  omega
 by_cases hj:j=0
 ·subst hj
  rw [if_pos rfl];rw [pw,Gq.mul_one] at h1;subst h1;exact ⟨h.ne,h.eq,h.ok,h.so,fun x hx=>by have:=h.lt x hx; omega,ge',h.ln⟩
 ·rw [if_neg hj]
  have hda:Dv (fu p k) a:=by
   obtain ⟨i,rfl⟩:∃i,j=i+1:=⟨j-1,by omega⟩
   rw [h1,pw];exact ((Dv.refl _).mul_left _).mul_left _
  have hi:Irr (fu p k):=by
   refine Irr.of_dv (by omega) fun u hu=>?_
   have hul:=hu.len m1.2
   have hu0:u≠0:=fun h0=>by
    obtain ⟨c,hc⟩:=hu;exact m1.2 (by rw [hc,h0,Gq.zero_mul])
   have hup:=Pol.len_pos hu0
   by_cases hu1:u.len=1
   ·exact .inl hu1
   ·right
    obtain ⟨q,q1,q2,q3⟩:=Da u.len u (bh _) (by omega)
    have g1:=h.ge q q1 q2 ((q3.trans hu).trans hda);have g2:=q3.len hu0;apply dj;intro hx;have g3:=ur (a:=q) (b:=fu p k) (by omega)
    omega
  have hlt:r.len<a.len:=by
   obtain ⟨i,rfl⟩:∃i,j=i+1:=⟨j-1,by omega⟩
   have hi0:=Iu hi.ne i;have l1:=Pol.len_mul hi0 hi.ne;have l2:=Pol.len_mul hr0 (Pol.mul_ne hi0 hi.ne);have l3:=Pol.len_pos hi0;rw [h1,pw]; omega
  refine ⟨hr0,?_,h.ok.snoc hi m1 (by omega) fun x hx e=>?_,?_,?_,ge',?_⟩
  ·rw [h.eq,yy]
   conv=>lhs; rw [h1]
   exact bj [r,pw (fu p k) j,nw out] rfl
  ·have:=h.lt x hx
   rw [e,hnum] at this; omega
  ·rw [fo]
   refine ⟨h.so,f9 _ _,fun x hx y hy=>?_⟩
   simp at hy; subst hy;have:=h.lt x hx;rw [hnum]; exact this
  ·intro x hx
   rcases bn.1 hx with hx | hx
   ·have:=h.lt x hx; omega
   ·simp at hx; subst hx; rw [hnum]; omega
  ·have:=h.ln
   simp; omega
theorem SInv.next {a0 a:Fp p} {n:Nat} {out:o9 p} (h:SInv a0 (2*p^n) a out) (hn:n≤11):SInv a0 (p^(n+1)) a out:=by
 refine ⟨h.ne,h.eq,h.ok,h.so,fun x hx=>?_,fun q hq hm hd=>?_,h.ln⟩
 ·have:=h.lt x hx
  have:=Ge (p:=p) n;omega
 ·have h1:=h.ge q hq hm hd
  have hq0:=Pol.len_pos hm.2;rcases ek (n+1) q.len with h2 | h2
  ·obtain ⟨d,hd'⟩:∃d,q.len=d+1:=⟨q.len-1,by omega⟩
   have hl:=hd.len h.ne;have hln:=h.ln;have h3:=tr (n:=d) (by omega) hm hd'
   have:=pq (p:=p) (by have:=IsP.pos (p:=p); omega) (show n+1≤d by omega)
   omega
  ·exfalso
   obtain ⟨d,hd'⟩:∃d,q.len=d+1:=⟨q.len-1,by omega⟩
   have h3:=tr (n:=d) (by omega) hm hd'
   have:=pq (p:=p) (by have:=IsP.pos (p:=p); omega) (show d≤n by omega)
   omega
theorem SInv.init {a:Fp p} (ha:a≠0) (hl:a.len≤13):SInv a (p^1) a []:=
 ⟨ha,(Gq.mul_one a).symm,⟨by simp,.nil⟩,.nil,by simp,fun q hq hm _=>by
  have h1:=hq.len;obtain ⟨d,hd'⟩:∃d,q.len=d+1:=⟨q.len-1,by omega⟩
  by_cases hd12:d≤12
  ·have h3:=tr (n:=d) hd12 hm hd'
   have:=pq (p:=p) (by have:=IsP.pos (p:=p); omega) (show 1≤d by omega)
   omega
  ·have h4:=ur (a:=fu p (p^1)) (b:=q) (by
    have:=(Db (p:=p) (n:=1) (by omega) (u6 _) (by have:=mw (p:=p) 1; omega)).2
    omega)
   have h5:gt (fu p (p^1))=p^1:=yr ⟨Int.le_of_lt (mw 1),by have:=tc (p:=p) (n:=1) (by omega); omega⟩
   omega,by simpa using hl⟩
theorem SEnd.fac {a0 a:Fp p} {out:o9 p} (h:SEnd a0 a out) (h0:a0≠0):Pe.fac a0=if 2≤a.len then out++[(mon a,1)] else out:=by
 apply a5d h0;have hP:=A3 h.ok;have hld:a0.ld=a.ld:=by rw [h.eq,Pol.ld_mul h.ne hP.2,hP.1,Gq.mul_one]
 split
 ·rename_i hl
  obtain ⟨hi,hx⟩:=h.irr hl;refine ⟨h.ok.snoc hi.mon (rh h.ne) (bh 1) fun x hx' e=>?_,?_,?_⟩
  ·have:=hx x hx'
   rw [e] at this; omega
  ·rw [fo]
   refine ⟨h.so,f9 _ _,fun x hx' y hy=>?_⟩
   simp at hy; subst hy; exact hx x hx'
  ·rw [yy,hld]
   show a0=Pol.C a.ld*(nw out*pw (mon a) 1);rw [zt,h.eq]
   conv=>lhs; rw [Vw h.ne]
   exact bj [Pol.C a.ld,mon a,nw out] rfl
 ·rename_i hl
  have hp:=Pol.len_pos h.ne;obtain ⟨c,hc,rfl⟩:=ph (show a.len=1 by omega)
  refine ⟨h.ok,h.so,?_⟩;rw [hld,Pol.ld_C hc]; exact h.eq
end
section
variable {p:Int} [IsP p]
end
section
variable {p:Int} [IsP p]
end
section
variable {p:Int} [IsP p]
end
end Pe
namespace Pe
open Go Gq
variable {T:Nat→Option Fn} {A:ap}
open Classical in
def Hw (O:ap):Prop:=∀(p:Int) [IsP p] (a:Fp p),a.len≤13→ask O F18 [(D.int .i64 p),(D.sl .leaf (af .i64 (row a)))]=some (D.bool (decide (Monic a∧Irr a)))
open Classical in
theorem a88 (hT:T F18=some Z18) (hld:lk (den T A)) (hdg:lg (den T A)) (hf:a2v (den T A)):Hw (den T A):=by
 intro p i a hal;have e1:=hld (row a) (by rw [bi]; omega)
 rw [ua] at e1;have e2:=hdg (row a) (by rw [bi]; omega)
 rw [bi] at e2;refine c9 hT rfl ?_
 by_cases h1:a.ld=1
 ·have h1':=(rl a.ld).2 h1
  have hM:=(uy a).2 h1;rw [h1'] at e1
  by_cases h2:2≤a.len
  ·obtain ⟨f1,f2,e3⟩:=hf p a hM.2 hal
   have hiff:=a80 hM f1;have hlt:¬ ((a.len:Int)-1<1):=by omega
   have hlt2:¬ ((a.len:Int)<2):=by omega
   have hlt3:(2:Int)≤a.len:=by omega
   have key:(∃q,fac a=[(q,1)])↔(Monic a∧Irr a):=⟨fun h=>⟨hM,hiff.1 h⟩,fun h=>hiff.2 h.2⟩
   generalize fac a=L at *;cases L with
   | nil=>
    rw [decide_eq_false (fun h0=>by obtain ⟨q,h⟩:=key.2 h0; cases h)]
    simp -implicitDefEqProofs [Z18,Z18_B,aw,e1,e2,e3,hlt]
   | cons x L=>
    cases L with
    | nil=>
     obtain ⟨q,k⟩:=x
     by_cases hk:k=1
     ·subst hk
      rw [decide_eq_true (key.1 ⟨q,rfl⟩)];simp -implicitDefEqProofs [Z18,Z18_B,aw,e1,e2,e3,hlt,pz]
     ·rw [decide_eq_false (fun h0=>by obtain ⟨q',h⟩:=key.2 h0; simp at h; exact hk h.2)]
      have hk':¬ ((k:Int)=1):=by omega
      simp -implicitDefEqProofs [Z18,Z18_B,aw,e1,e2,e3,hlt,pz,hk']
    | cons y L=>
     rw [decide_eq_false (fun h0=>by obtain ⟨q',h⟩:=key.2 h0; simp at h)]
     have hk':¬ (((L.length:Int)+1+1)=1):=by omega
     simp -implicitDefEqProofs [Z18,Z18_B,aw,e1,e2,e3,hlt,hk']
  ·have hlt:((a.len:Int)-1<1):=by omega
   have hlt2:((a.len:Int)<2):=by omega
   rw [decide_eq_false (fun h=>h2 h.2.len)]
   simp -implicitDefEqProofs [Z18,Z18_B,aw,e1,e2,hlt]
 ·have h1':=mt (rl a.ld).1 h1
  rw [decide_eq_false (fun h=>h1 h.1.1)]
  simp -implicitDefEqProofs [Z18,Z18_B,aw,e1,h1']
structure Fld {p:Int} [IsP p] (m:Fp p):Prop where
 mon:Monic m
 two:2≤m.len
 five:m.len≤5
 irr:Irr m
end Pe
namespace Pe
open Go Gq
variable {T:Nat→Option Fn} {A:ap}
section
variable {p:Int} [IsP p]
noncomputable def oo (m:Fp p):Nat→Fp p→Fp p
 | 0,a=>a
 | k+1,a=>oo m k (pw a p.toNat%m)
theorem xw {m:Fp p} (hm:m≠0):∀(k:Nat) (a:Fp p),a.len<m.len→(oo m k a).len<m.len
 | 0,_,h=>h
 | k+1,_a,_=>xw hm k _ (Pol.len_mod _ hm)
theorem Q2 {m:Fp p}:∀(k:Nat) (a:Fp p),Quo.mk m (oo m k a)=pw (Quo.mk m a) (p.toNat^k)
 | 0,a=>by rw [n5,zt]; rfl
 | k+1,a=>by
  show Quo.mk m (oo m k (pw a p.toNat%m))=_;rw [Q2 k,Pol.mk_mod,Quo.mk_pow,wj,mz,qa]
theorem E5 {m:Fp p} (hm:Fld m) (k:Nat) {a:Fp p} (ha:a.len<m.len):oo m (k%(m.len-1)) a=oo m k a:=by
 have h2:=hm.two;have h5:=hm.five
 have small:p^(m.len-1)<1000000000000:=by
  have h1:=pq (p:=p) (by have:=IsP.pos (p:=p); omega) (show m.len-1≤12 by omega)
  have h7:=tc (p:=p) (n:=12) (by omega)
  omega
 have hd:∀x:Quo m,pw x (p.toNat^(m.len-1))=x:=Cm hm.irr (by omega) small
 have hq:∀(q:Nat) (x:Quo m),pw x (p.toNat^((m.len-1)*q))=x:=by
  intro q
  induction q with
  | zero=>intro x; rw [Nat.mul_zero,n5,zt]
  | succ q ih=>intro x; rw [Nat.mul_succ,Nat.pow_add,←wj,ih,hd]
 have h0:m≠0:=hm.mon.2
 have e:Quo.mk m (oo m (k%(m.len-1)) a)=Quo.mk m (oo m k a):=by
  rw [Q2,Q2];have hk:k=(m.len-1)*(k/(m.len-1))+k%(m.len-1):=(Nat.div_add_mod k (m.len-1)).symm;have:p.toNat^k=p.toNat^((m.len-1)*(k/(m.len-1)))*p.toNat^(k%(m.len-1)):=by rw [←Nat.pow_add,←hk]
  rw [this,←wj,hq]
 have e2:=(Pol.mod_eq_iff h0).2 e
 rwa [Pol.mod_small (xw h0 _ _ ha),Pol.mod_small (xw h0 _ _ ha)] at e2
noncomputable def Ae (m a:Fp p):Fp p:=(Pol.bezout a m).2.1%m
theorem Od {m a:Fp p} (hm:Fld m) (ha:a≠0) (hal:a.len<m.len):Quo.mk m (Ae m a)*Quo.mk m a=1:=by
 have h0:m≠0:=hm.mon.2;have e:=Pol.bezout_eq (a:=a) (b:=m) (.inl ha)
 have hg:Pol.gcd a m=1:=by
  have h1:=Pol.gcd_monic (a:=a) (b:=m) (.inl ha);have h2:=Pol.gcd_dv_left (a:=a) (b:=m) (.inl ha);have h3:=Pol.gcd_dv_right (a:=a) (b:=m) (.inl ha);refine h1.eq_one ?_;rcases hm.irr.dv h3 with h | h
  ·exact h
  ·have:=h2.len ha
   omega
 rw [hg] at e;unfold Ae;rw [Pol.mk_mod];have:Quo.mk m ((Pol.bezout a m).2.1*a+(Pol.bezout a m).2.2*m)=Quo.mk m 1:=by rw [e]
 rw [Quo.mk_add,Quo.mk_mul,Quo.mk_mul] at this;have hm0:Quo.mk m m=0:=nv.1 (Dv.refl m);rw [hm0,Gq.mul_zero,Gq.add_zero] at this;exact this
end
section
variable {p:Int} [IsP p]
theorem Ua {m:Fp p} (h2:2≤m.len):(1:Quo m)≠0:=fun h=>by
 have:Dv m 1:=nv.2 h;have:=this.len Pol.one_ne;rw [Pol.len_one] at this;omega
theorem ab0 {m c:Fp p} (hm:Fld m) (hc:c≠0) (hcl:c.len<m.len) (k:Nat):pw c k%m≠0∧(pw c k%m).len<m.len:=by
 have h0:m≠0:=hm.mon.2;refine ⟨fun h=>?_,Pol.len_mod _ h0⟩
 have h1:Quo.mk m (pw c k)=0:=by rw [←Pol.mk_mod,h]; rfl
 rw [Quo.mk_pow] at h1;have h2:=Od hm hc hcl;have h3:pw (Quo.mk m (Ae m c)*Quo.mk m c) k=0:=by rw [qx,h1,Gq.mul_zero]
 rw [h2,Ap] at h3;exact Ua hm.two h3
end
section
variable {p:Int} [IsP p]
noncomputable def svI (m x:Fp p):Nat→List (Fp p)→Fp p→Fp p
 | _,[],out=>out
 | i,c::cs,out=>svI m x (i+1) cs (out+c*oo m (i%(m.len-1)) x%m)
theorem Xy {m x:Fp p} (hm:m≠0):∀(i:Nat) (a:List (Fp p)) (out:Fp p),out.len<m.len→(svI m x i a out).len<m.len
 | _,[],_,h=>h
 | i,c::cs,out,h=>Xy hm (i+1) cs _ (by
  have h1:=Pol.len_mod (c*oo m (i%(m.len-1)) x) hm;have:=Pol.len_add_le (a:=out) (b:=c*oo m (i%(m.len-1)) x%m) (n:=m.len-1) (by omega) (by omega)
  omega)
noncomputable def sv6 (m g d x:Fp p):Fp p:=Pol.X%m*x%m+g*oo m 1 x%m+d*oo m 2 x%m
noncomputable def dvL (m g d:Fp p):List (Zp p)→Fp p→Fp p→Fp p
 | [],out,_=>out
 | c::cs,out,now=>dvL m g d cs (out+Pol.C c*now) (sv6 m g d now)
end
section
variable {p:Int}
end
section
variable {p:Int}
open Classical in
noncomputable def stl (S:List (Fp p)):Nat→Nat
 | 0=>0
 | n+1=>if S[n]? = some 0 then stl S n else n+1
noncomputable def rr (S:List (Fp p)):List (Fp p):=S.take (stl S S.length)
theorem U7 (S:List (Fp p)):∀n,stl S n≤n
 | 0=>bh 0
 | n+1=>by
  unfold stl
  split
  ·have:=U7 S n; omega
  ·omega
theorem Lj (S:List (Fp p)):∀n j,stl S n≤j→j<n→S[j]? = some 0
 | 0,j,_,h=>by omega
 | n+1,j,h1,h2=>by
  unfold stl at h1
  split at h1
  ·rename_i h0
   by_cases hj:j=n
   ·rw [hj]; exact h0
   ·exact Lj S n j h1 (by omega)
  ·omega
end
section
variable {p:Int} [IsP p]
theorem Mk {m x:Fp p} (hm:m≠0):∀(i:Nat) (S:List (Fp p)) (out:Fp p),(∀a∈S,a=0)→svI m x i S out=out
 | _,[],_,_=>rfl
 | i,c::cs,out,h=>by
  have hc:=h c (by simp)
  subst hc;show svI m x (i+1) cs (out+0*oo m (i%(m.len-1)) x%m)=out;rw [Gq.zero_mul,Pol.zero_mod hm,Gq.add_zero];exact Mk hm (i+1) cs out fun a ha=>h a (by simp [ha])
theorem L1 {m x:Fp p}:∀(i:Nat) (S R:List (Fp p)) (out:Fp p),svI m x i (S++R) out=svI m x (i+S.length) R (svI m x i S out)
 | _,[],_,_=>rfl
 | i,c::cs,R,out=>by
  show svI m x (i+1) (cs++R) _=svI m x (i+(cs.length+1)) R (svI m x (i+1) cs _);rw [L1 (i+1) cs R,show i+(cs.length+1)=i+1+cs.length by omega]
theorem a6h {m x:Fp p} (hm:m≠0) (S:List (Fp p)):svI m x 0 (rr S) 0=svI m x 0 S 0:=by
 have e:=L1 (m:=m) (x:=x) 0 (S.take (stl S S.length)) (S.drop (stl S S.length)) 0;rw [gh] at e
 have hz:∀a∈S.drop (stl S S.length),a=0:=by
  intro a ha;obtain ⟨j,hj,rfl⟩:=lj ha;rw [ej] at hj;have:=Lj S S.length (stl S S.length+j) (by omega) (by omega)
  rw [List.getElem_drop];rw [b8 (by omega)] at this
  exact au this
 rw [e,Mk hm _ _ _ hz];rfl
end
section
variable {p:Int}
noncomputable def rg (Q:List (Fp p)) (n:Nat) (v:Fp p):List (Fp p):=Q.set n ((Q[n]?).getD 0+v)
theorem Ec (Q:List (Fp p)) (n:Nat) (v:Fp p):(rg Q n v).length=Q.length:=by unfold rg; rw [cx]
end
section
variable {p:Int} [IsP p]
noncomputable def xc (m x:Fp p) (i:Nat):Nat→List (Fp p)→List (Fp p)→List (Fp p)
 | _,[],Q=>Q
 | k,y::ys,Q=>xc m x i (k+1) ys (rg Q (i+k) (x*oo m (i%(m.len-1)) y%m))
noncomputable def Aa (m:Fp p) (b:List (Fp p)):Nat→List (Fp p)→List (Fp p)→List (Fp p)
 | _,[],Q=>Q
 | i,x::xs,Q=>Aa m b (i+1) xs (xc m x i 0 b Q)
theorem tt (m x:Fp p) (i:Nat):∀(k:Nat) (b Q:List (Fp p)),(xc m x i k b Q).length=Q.length
 | _,[],_=>rfl
 | k,y::ys,Q=>by
  show (xc m x i (k+1) ys (rg Q (i+k) _)).length=_;rw [tt,Ec]
theorem pv (m:Fp p) (b:List (Fp p)):∀(i:Nat) (a Q:List (Fp p)),(Aa m b i a Q).length=Q.length
 | _,[],_=>rfl
 | i,x::xs,Q=>by
  show (Aa m b (i+1) xs (xc m x i 0 b Q)).length=_;rw [pv,tt]
end
noncomputable def Ds {p:Int} [IsP p] (m:Fp p) (a b:List (Fp p)):List (Fp p):=Aa m b 0 a (List.replicate (a.length+b.length-1) 0)
section
variable {p:Int}
theorem Q8 {Q:List (Fp p)} {n j:Nat} {v:Fp p} (h:n≠j):(rg Q n v)[j]? = Q[j]?:=by
 unfold rg; rw [br h]
end
section
variable {p:Int} [IsP p]
theorem we {m x:Fp p} {i n:Nat}:∀(k:Nat) (b Q:List (Fp p)),i+k+b.length≤n→(xc m x i k b Q)[n]? = Q[n]?
 | _,[],_,_=>rfl
 | k,y::ys,Q,h=>by
  rw [c7] at h;show (xc m x i (k+1) ys (rg Q (i+k) _))[n]? = _;rw [we (k+1) ys _ (by omega),Q8 (by omega)]
theorem za {m:Fp p} {b:List (Fp p)} {n:Nat}:∀(i:Nat) (a Q:List (Fp p)),i+a.length+b.length≤n+1→(Aa m b i a Q)[n]? = Q[n]?
 | _,[],_,_=>rfl
 | i,x::xs,Q,h=>by
  rw [c7] at h;show (Aa m b (i+1) xs (xc m x i 0 b Q))[n]? = _;rw [za (i+1) xs _ (by omega),we 0 b Q (by omega)]
theorem El {m x y:Fp p} {i:Nat}:∀(k:Nat) (b Q:List (Fp p)),xc m x i k (b++[y]) Q=rg (xc m x i k b Q) (i+(k+b.length)) (x*oo m (i%(m.len-1)) y%m)
 | _,[],_=>rfl
 | k,z::zs,Q=>by
  show xc m x i (k+1) (zs++[y]) (rg Q (i+k) _)=rg (xc m x i (k+1) zs (rg Q (i+k) _)) _ _;rw [El (k+1) zs,c7,show i+(k+1+zs.length)=i+(k+(zs.length+1)) by omega]
theorem Cp {m x:Fp p} {b:List (Fp p)}:∀(i:Nat) (a Q:List (Fp p)),Aa m b i (a++[x]) Q=xc m x (i+a.length) 0 b (Aa m b i a Q)
 | _,[],_=>rfl
 | i,z::zs,Q=>by
  show Aa m b (i+1) (zs++[x]) (xc m z i 0 b Q)=xc m x _ 0 b (Aa m b (i+1) zs (xc m z i 0 b Q));rw [Cp (i+1) zs,c7,show i+1+zs.length=i+(zs.length+1) by omega]
theorem W6 {m x y:Fp p} (hi:Irr m) (hx:x≠0) (hxl:x.len<m.len) (hy:y≠0) (hyl:y.len<m.len):x*y%m≠0:=fun h=>by
 rcases hi.prime ((qw hi.ne).2 h) with h | h
 ·have:=Dv.len h hx; omega
 ·have:=Dv.len h hy; omega
theorem Hu {m:Fp p} (hm:Fld m):∀(k:Nat) (y:Fp p),y≠0→y.len<m.len→oo m k y≠0
 | 0,_,h,_=>h
 | k+1,y,h,hl=>by
  obtain ⟨h1,h2⟩:=ab0 hm h hl p.toNat;exact Hu hm k _ h1 h2
end
section
variable {p:Int}
theorem Qf {S:List (Fp p)}:∀(n k:Nat),stl S n=k+1→S[k]? ≠ some 0
 | 0,k,h=>by cases h
 | n+1,k,h=>by
  unfold stl at h
  split at h
  ·exact Qf n k h
  ·rename_i h0
   obtain rfl:n=k:=by omega
   exact h0
theorem a9a {S:List (Fp p)} {n:Nat} (h:S[n]? ≠ some 0):stl S (n+1)=n+1:=by
 unfold stl; rw [if_neg h]
theorem Ur {S:List (Fp p)} (h:(rr S).length≠0):∃a x,rr S=a++[x]∧x≠0:=by
 have hle:=U7 S S.length;have hl:(rr S).length=stl S S.length:=by unfold rr; rw [bv]; omega
 obtain ⟨k,hk⟩:∃k,stl S S.length=k+1:=⟨stl S S.length-1,by omega⟩
 have h1:=Qf _ _ hk;have hlt:k<S.length:=by omega
 rw [b8 hlt] at h1;refine ⟨S.take k,S[k],?_,fun h=>h1 (by rw [h])⟩
 unfold rr;rw [hk,gq hlt]
theorem a04 {S:List (Fp p)} {n:Nat} (hl:S.length=n+1) (h:S[n]? ≠ some 0):rr S=S:=by
 unfold rr;rw [hl,a9a h,←hl,ta]
end
section
variable {p:Int} [IsP p]
theorem a5s {m x y:Fp p} (hm:Fld m) {a b:List (Fp p)} (hx:x≠0) (hxl:x.len<m.len) (hy:y≠0) (hyl:y.len<m.len):rr (Ds m (a++[x]) (b++[y]))=Ds m (a++[x]) (b++[y]):=by
 have hl:(Ds m (a++[x]) (b++[y])).length=a.length+b.length+1:=by
  unfold Ds;rw [pv,d9,bu,bu];simp only [c7,dw]; omega
 refine a04 hl ?_;have hfy:oo m (a.length%(m.len-1)) y≠0:=Hu hm _ y hy hyl;have hfl:=xw hm.mon.2 (a.length%(m.len-1)) y hyl;have hne:=W6 hm.irr hx hxl hfy hfl;unfold Ds;rw [Cp,El];unfold rg;rw [we _ _ _ (by omega),za _ _ _ (by rw [bu,c7,dw]; omega)]
 have hN:0+a.length+(0+b.length)=a.length+b.length:=by omega
 rw [hN,bo (by rw [tt,pv,d9,bu,bu]; simp only [c7,dw]; omega)]
 rw [kj,if_pos (by rw [bu,bu]; simp only [c7,dw]; omega)]
 show some ((0:Fp p)+_)≠some 0;rw [Gq.zero_add,show 0+a.length=a.length by omega]
 exact fun h=>hne (au h)
noncomputable def qe (m:Fp p) (a b:List (Fp p)):List (Fp p):=if a.length=0∨b.length=0 then [] else rr (Ds m a b)
end
section
variable {p:Int} [IsP p]
theorem Vp {N n:Nat} {Q:List (Fp p)} {v:Fp p} (hQ:∀c∈Q,c.len≤N) (hv:v.len≤N):∀c∈rg Q n v,c.len≤N:=fun c hc=>by
 unfold rg at hc;rcases fk hc with h | rfl
 ·exact hQ c h
 ·refine Pol.len_add_le ?_ hv
  cases he:Q[n]? with
  | none=>show (0:Fp p).len≤N; rw [Pol.len_zero]; omega
  | some w=>exact hQ w (ke he)
end
abbrev z6:List Int:=List.replicate 6 0
section
variable {p:Int} [IsP p]
noncomputable def mono (p:Int) (i:Nat):Fp p:=fu p (p^i)
end
section
variable {O:ap} {g:Nat} {first caps:List D}
structure CmpRow (O:ap) (g:Nat) (first caps:List D) (f:D→Int) (s:Sh) (cs:List D):Prop where
 nf:zn first
 nc:zn caps
 nx:zn cs
 sh:Dy s cs
 ask:∀x∈cs,∀y∈cs,∃v:Int,ask O g (first++[x,y]++caps)=some (D.int .i64 v)∧(v<0↔f x<f y)
theorem CmpRow.perm {f:D→Int} {s:Sh} {cs ds:List D} (h:CmpRow O g first caps f s cs) (p:ds.Perm cs):CmpRow O g first caps f s ds:=
 ⟨h.nf,h.nc,fun x hx=>h.nx x (p.subset hx),fun x hx=>h.sh x (p.subset hx),fun x hx y hy=>h.ask x (p.subset hx) y (p.subset hy)⟩
theorem CmpRow.call {f:D→Int} {s:Sh} {cs:List D} (h:CmpRow O g first caps f s cs) {hp:Heap} {np:Nat} {news:List Nat} {x y:D} (hx:x∈cs) (hy:y∈cs) :
 ∃v:Int,Ei O np hp .flat news (g,first.map .d,caps.map .d) [.d x,.d y]=some (.d (D.int .i64 v),hp)∧(v<0↔f x<f y):=by
 have e:q9 hp (first.map .d++[.d x,.d y]++caps.map .d)=some (first++[x,y]++caps):=
  vr hp (vr hp (ot hp h.nf) (ot hp (ds:=[x,y]) (by intro z hz; simp at hz; rcases hz with rfl | rfl; exact h.nx _ hx; exact h.nx _ hy))) (ot hp h.nc)
 obtain ⟨v,e1,e2⟩:=h.ask x hx y hy;refine ⟨v,?_,e2⟩;rw [Cq,e,ae,Jj,e1,ae,Gn,show (D.int IntKind.i64 v).flat=true from rfl,if_pos rfl]
theorem a2i {f:D→Int} {n:Nat} {cp:Option Nat} (hn:n≤1000) {i:Nat}:∀(L:List D) (x:D) (R:List D),(L.reverse++x::R).length=n→CmpRow O g first caps f .leaf (L.reverse++x::R)→∃j:Int,
 dn O 1 (.loop ir_slices_insertionSortCmpFunc_impl_row_L0) ⟨[(0,.sl 0 [] 0 n cp),(1,(.d (.int .i64 0))),(2,(.d (.int .i64 n))),(3,.d (.fn g first caps)),(8,(.d (.int .i64 i))),(9,(.d (.int .i64 L.length)))],[.sl false .leaf (L.reverse++x::R)]⟩ =
  some (.exit 2,⟨[(0,.sl 0 [] 0 n cp),(1,(.d (.int .i64 0))),(2,(.d (.int .i64 n))),(3,.d (.fn g first caps)),(8,(.d (.int .i64 i))),(9,(.d (.int .i64 j))),(34,(.d (.bool false)))],[.sl false .leaf (x7 f L x R)]⟩)
 | [],x,R,hl,ok=>by
  refine ⟨0,cm ?_⟩;simp -implicitDefEqProofs [ir_slices_insertionSortCmpFunc_impl_row_L0,aw,x7]
 | y::L,x,R,hl,ok=>by
  have hj:(y::L).length=L.length+1:=rfl;have hlen:((y::L).reverse++x::R).length=L.length+1+(R.length+1):=by simp; omega
  have e1:((y::L).reverse++x::R)[L.length+1]? = some x:=by
   rw [bq (by simp)]; simp
  have e2:((y::L).reverse++x::R)[L.length]? = some y:=by
   rw [bt (by simp)]; simp
  have m1:x∈(y::L).reverse++x::R:=by simp
  have m2:y∈(y::L).reverse++x::R:=by simp
  obtain ⟨cv,c,cneg⟩:=ok.call (hp:=[.sl false .leaf ((y::L).reverse++x::R)]) (np:=1) (news:=[]) m1 m2;have s1:=ok.sh x m1;have s2:=ok.sh y m2;have n1:=ok.nx x m1;have n2:=ok.nx y m2
  have e3:(((y::L).reverse++x::R).set (L.length+1) y).set L.length x=L.reverse++x::y::R:=by
   rw [sm _ _ (by simp),List.set_append_left _ _ (by simp)]
   simp
  have hp:((y::L).reverse++x::R).Perm (L.reverse++x::y::R):=by
   simp;exact (List.Perm.swap x y R).append_left _
  have w1:IntKind.i64.wrap (L.length:Int)=L.length:=w64 (by omega)
  have h0:(0:Int)<(L.length:Int)+1:=by omega
  have h00:(0:Int)≤(L.length:Int)+1:=by omega
  have h1:L.length+1<n:=by omega
  have h2:L.length<n:=by omega
  have h3:L.length<((y::L).reverse++x::R).length:=by omega
  have h4:L.length+1<((y::L).reverse++x::R).length:=by omega
  have e4:(((y::L).reverse++x::R).set (L.length+1) y)[L.length]? = some y:=by
   rw [br (by omega),e2]
  unfold x7;rw [hj,show ((L.length+1:Nat):Int)=(L.length:Int)+1 by omega]
  generalize (y::L).reverse++x::R=cs at *;have e1':cs[L.length+1]=x:=by rw [b8 h4] at e1; exact au e1
  have e2':cs[L.length]=y:=by rw [b8 h3] at e2; exact au e2
  by_cases hlt:f x<f y
  ·rw [if_pos hlt]
   obtain ⟨j,e⟩:=a2i hn L x (y::R) (by rw [←hp.length_eq]; omega) (ok.perm hp.symm)
   have hc:=cneg.2 hlt;refine ⟨j,cg ?_ e⟩;simp -implicitDefEqProofs [ir_slices_insertionSortCmpFunc_impl_row_L0,aw,h0,h00,h1,h2,h3,h4,e1',e2',c,s1,s2,n1,n2,w1,hc,e3]
  ·rw [if_neg hlt]
   have hc:=mt cneg.1 hlt;refine ⟨(L.length:Int)+1,cm ?_⟩;simp -implicitDefEqProofs [ir_slices_insertionSortCmpFunc_impl_row_L0,aw,h0,h00,h1,h2,h3,h4,e1',e2',c,s1,s2,w1,hc]
end
theorem a6g {O:ap} {g:Nat} {first caps:List D} {f:D→Int} {n:Nat} {cp:Option Nat} (hn:n≤1000):∀(r P:List D),P.length+r.length=n→0<P.length→CmpRow O g first caps f .leaf (P++r) →
 dn O 1 (.loop ir_slices_insertionSortCmpFunc_impl_row_L1) ⟨[(0,.sl 0 [] 0 n cp),(1,(.d (.int .i64 0))),(2,(.d (.int .i64 n))),(3,.d (.fn g first caps)),(8,(.d (.int .i64 P.length)))],[.sl false .leaf (P++r)]⟩ =
  some (.exit 0,⟨[(0,.sl 0 [] 0 n cp),(1,(.d (.int .i64 0))),(2,(.d (.int .i64 n))),(3,.d (.fn g first caps)),(8,(.d (.int .i64 n))),(14,(.d (.bool false)))],[.sl false .leaf (Ea f P r)]⟩)
 | [],P,hl,hP,ok=>by
  have hl':P.length=n:=by simpa using hl
  refine cm ?_;simp -implicitDefEqProofs [ir_slices_insertionSortCmpFunc_impl_row_L1,aw,Ea,hl']
 | x::r,P,hl,hP,ok=>by
  simp at hl;have e0:P.reverse.reverse++x::r=P++x::r:=by simp
  obtain ⟨j,e⟩:=a2i (O:=O) (g:=g) (first:=first) (caps:=caps) (f:=f) (n:=n) (cp:=cp) hn (i:=P.length) P.reverse x r (by simp; omega) (by rw [e0]; exact ok)
  rw [e0,qk,←fb r,J7,fb] at e;have hlen:=S6 f P.reverse x [];rw [qk,dw,ew] at hlen
  have hperm:(x7 f P.reverse x []++r).Perm (P++x::r):=by
   refine (List.Perm.append_right r (xm f P.reverse x [])).trans ?_;simp;exact List.perm_middle.symm
  have ih:=a6g (O:=O) (g:=g) (first:=first) (caps:=caps) (f:=f) (cp:=cp) hn r (x7 f P.reverse x []) (by rw [hlen]; omega) (by omega) (ok.perm hperm)
  have hlt:P.length<n:=by omega
  have w1:IntKind.i64.wrap ((P.length:Int)+1)=((P.length+1:Nat):Int):=(w64 (x:=(P.length:Int)+1) (by omega)).trans (by omega)
  rw [hlen] at ih;unfold Ea;refine cg ?_ ih;simp -implicitDefEqProofs [ir_slices_insertionSortCmpFunc_impl_row_L1,aw,hlt,e,w1]
def a6v (O:ap) (F:Nat) (args:V→List V→List V):Prop:=∀(g:Nat) (first caps:List D) (f:D→Int) (cs:List D) (cp:Option Nat),cs.length≤12→CmpRow O g first caps f .leaf cs →
 ∃ds:List D,ds.Perm cs∧Asc f ds∧O F (args (.sl 0 [] 0 cs.length cp) [(.d (.int .i64 cs.length)),.d (.fn g first caps)]) [.sl false .leaf cs]=some (.tup [],[.sl false .leaf ds],[])
def E2 (O:ap):Prop:=a6v O F2j fun s l=>[s,(.d (.int .i64 0))]++l
theorem a2g (hT:T F2j=some Z2j):E2 (den T A):=by
 intro g first caps f cs cp hl ok;cases cs with
 | nil=>
  refine ⟨[],.refl _,List.Pairwise.nil,iw hT rfl ?_⟩;have st:=cm (O:=den T A) (np:=1) (c:=ir_slices_insertionSortCmpFunc_impl_row_L1) (s:=⟨[(0,.sl 0 [] 0 0 cp),(1,(.d (.int .i64 0))),(2,(.d (.int .i64 0))),(3,.d (.fn g first caps)),(8,(.d (.int .i64 1)))],[.sl false .leaf []]⟩) (s1:=⟨[(0,.sl 0 [] 0 0 cp),(1,(.d (.int .i64 0))),(2,(.d (.int .i64 0))),(3,.d (.fn g first caps)),(8,(.d (.int .i64 1))),(14,(.d (.bool false)))],[.sl false .leaf []]⟩) (id:=0) (by simp -implicitDefEqProofs [ir_slices_insertionSortCmpFunc_impl_row_L1,aw])
  have w1:IntKind.i64.wrap 1=1:=w64 (by omega)
  simp -implicitDefEqProofs [Z2j,ir_slices_insertionSortCmpFunc_impl_row_B,st,w1]
 | cons x r=>
  have e:=a6g (O:=den T A) (g:=g) (first:=first) (caps:=caps) (f:=f) (n:=(x::r).length) (cp:=cp) (by omega) r [x] (by simp; omega) (by simp) ok
  have e1:(([x]:List D).length:Int)=1:=rfl;rw [e1] at e;refine ⟨Ea f [x] r,G6 f r [x],Jc f r [x] (f9 _ _),iw hT rfl ?_⟩;have w1:IntKind.i64.wrap 1=1:=w64 (by omega)
  rw [List.singleton_append] at e;generalize x::r=cs at *;simp -implicitDefEqProofs [Z2j,ir_slices_insertionSortCmpFunc_impl_row_B,e,w1]
theorem a22 (hT:T F2y=some Z2y) (hi:E2 (den T A)):∀(g:Nat) (first caps:List D) (f:D→Int) (cs:List D) (cp:Option Nat) (v:Int),cs.length≤12→CmpRow (den T A) g first caps f .leaf cs →
 ∃ds:List D,ds.Perm cs∧Asc f ds∧den T A F2y [.sl 0 [] 0 cs.length cp,(.d (.int .i64 0)),(.d (.int .i64 cs.length)),(.d (.int .i64 v)),.d (.fn g first caps)] [.sl false .leaf cs]=some (.tup [],[.sl false .leaf ds],[]):=by
 intro g first caps f cs cp v hl ok;obtain ⟨ds,h1,h2,e⟩:=hi g first caps f cs cp hl ok;refine ⟨ds,h1,h2,iw hT rfl ?_⟩;have w1:IntKind.i64.wrap (cs.length:Int)=cs.length:=w64 (by omega)
 have h12:(cs.length:Int)≤12:=by omega
 have lp:=lq (O:=den T A) (np:=1) (c:=ir_slices_pdqsortCmpFunc_impl_row_L0) (s:=⟨[(0,.sl 0 [] 0 cs.length cp),(1,(.d (.int .i64 0))),(2,(.d (.int .i64 cs.length))),(3,(.d (.int .i64 v))),(4,.d (.fn g first caps)),(10,(.d (.bool true))),(11,(.d (.bool true)))],[.sl false .leaf cs]⟩) (s1:=⟨[],[.sl false .leaf ds]⟩) (by
  simp at e;simp -implicitDefEqProofs [ir_slices_pdqsortCmpFunc_impl_row_L0,aw,w1,h12,e,List.idxOf,List.findIdx,List.findIdx.go])
 simp -implicitDefEqProofs [Z2y,ir_slices_pdqsortCmpFunc_impl_row_B,lp]
def Bg (O:ap):Prop:=∀(g:Nat) (first caps:List D) (f:D→Int) (cs:List D) (cp:Option Nat),cs.length≤12→CmpRow O g first caps f .leaf cs →
 ∃ds:List D,ds.Perm cs∧Asc f ds∧O F2b [.sl 0 [] 0 cs.length cp,.d (.fn g first caps)] [.sl false .leaf cs]=some (.tup [],[.sl false .leaf ds],[])
theorem a0c (hT:T F2b=some Z2b) (hTp:T F2y=some Z2y) (hi:E2 (den T A)) (hl:yo (den T A) F1z):Bg (den T A):=by
 intro g first caps f cs cp hl12 ok;obtain ⟨v,ev⟩:=hl cs.length hl12;obtain ⟨ds,h1,h2,e⟩:=a22 hTp hi g first caps f cs cp v hl12 ok;refine ⟨ds,h1,h2,iw hT rfl ?_⟩
 have w1:IntKind.u64.wrap (cs.length:Int)=cs.length:=by
  simp [IntKind.wrap,IntKind.bits,IntKind.signed]; omega
 simp -implicitDefEqProofs [Z2b,ir_slices_SortFunc_impl_row_impl_row_B,w1,ev,e,List.idxOf,List.findIdx,List.findIdx.go]
section
variable {p:Int}
noncomputable def elim (a b:Fp p):Fp p:=b+Pol.C (-(b.c (a.len-1)))*a
noncomputable def fq:List (Fp p)→Fp p→Fp p
 | [],a=>a
 | b::bs,a=>fq bs (elim b a)
noncomputable def zu (a:Fp p):List (Fp p)→List (Fp p)
 | []=>[a]
 | b::bs=>if b.len<a.len then a::(b::bs).map (elim a) else elim a b::zu a bs
theorem uu (a:Fp p):∀L:List (Fp p),(zu a L).Perm (L.map (elim a)++[a])
 | []=>.refl _
 | b::bs=>by
  unfold zu
  split
  ·exact (List.perm_append_singleton a ((b::bs).map (elim a))).symm
  ·exact (uu a bs).cons _
theorem a8q {a:Fp p} {n:Nat} (h:a.len≤n):a.c n=0:=a.lt_len n h
theorem Ux (a b:Fp p) (n:Nat):(elim a b).c n=b.c n + -(b.c (a.len-1))*a.c n:=by
 unfold elim; rw [Pol.c_add,Pol.c_Cmul]
theorem A0 {a c:Fp p}:∀{L:List (Fp p)},c∈zu a L→c=a∨∃b∈L,c=elim a b:=fun {L} h=>by
 have:=(uu a L).subset h;rcases bn.1 this with h | h
 ·obtain ⟨b,hb,rfl⟩:=ch.1 h; exact .inr ⟨b,hb,rfl⟩
 ·exact .inl (by simpa using h)
noncomputable abbrev cj (a:Fp p):D:=(D.sl .leaf (af .i64 (row a)))
def a2x:D→Int
 | .sl _ cs=>-(cs.length:Int)
 | _=>0
theorem Dl (a:Fp p):a2x (cj a)=-(a.len:Int):=by
 show -((af .i64 (row a)).length:Int)=_;rw [Hc,bi]
theorem a1n {L M:List (Fp p)} (hp:M.Perm L) (hL:L.Pairwise fun x y=>y.len<x.len) (hM:M.Pairwise fun x y=>y.len≤x.len):M=L:=by
 refine List.Perm.eq_of_pairwise (le:=fun x y:Fp p=>y.len≤x.len) (fun a b ha hb h1 h2=>?_) hM (hL.imp fun h=>by omega) hp
 have ha':=hp.subset ha;have e:a.len=b.len:=Nat.le_antisymm h2 h1;clear h1 h2 hM
 induction L generalizing M with
 | nil=>cases hb
 | cons c L ih=>
  obtain ⟨g1,g2⟩:=dh.1 hL;rcases cn.1 ha' with rfl | ha1
  ·rcases cn.1 hb with rfl | hb1
   ·rfl
   ·have:=g1 b hb1; omega
  ·rcases cn.1 hb with rfl | hb1
   ·have:=g1 a ha1; omega
   ·exact ih (M:=L) (.refl _) g2 ha1 hb1 ha1
theorem Ms {n:Nat}:∀{L:List (Fp p)} {a:Fp p},(∀b∈L,b.len≤n)→(fq L a).c n=a.c n
 | [],_,_=>rfl
 | b::L,a,h=>by
  show (fq L (elim b a)).c n=_;rw [Ms (L:=L) (fun c hc=>h c (by simp [hc])),Ux,a8q (a:=b) (h b (by simp)),Gq.mul_zero,Gq.add_zero]
end
section
variable {p:Int} [IsP p]
structure Desc (N:Nat) (L:List (Fp p)):Prop where
 pw:L.Pairwise fun x y=>y.len<x.len
 mon:∀b∈L,Monic b
 le:∀b∈L,b.len≤N
theorem Desc.nil (N:Nat):Desc N ([]:List (Fp p)):=⟨List.Pairwise.nil,(fun _ h=>by cases h),(fun _ h=>by cases h)⟩
theorem Desc.tail {N:Nat} {b:Fp p} {L:List (Fp p)} (h:Desc N (b::L)):Desc N L∧∀c∈L,c.len<b.len:=
 ⟨⟨h.pw.tail,fun c hc=>h.mon c (by simp [hc]),fun c hc=>h.le c (by simp [hc])⟩,(dh.1 h.pw).1⟩
theorem Desc.length:∀{N:Nat} {L:List (Fp p)},Desc N L→L.length≤N
 | N,[],_=>kf _
 | N,b::L,h=>by
  obtain ⟨h1,h2⟩:=h.tail;have hb:=Pol.len_pos (h.mon b (by simp)).2
  have hle:=h.le b (by simp)
  have:=Desc.length (N:=b.len-1) ⟨h1.pw,h1.mon,fun c hc=>by have:=h2 c hc; omega⟩
  rw [c7]; omega
theorem yg {N:Nat} {a b:Fp p} (ha:a.len≤N) (hb:b.len≤N):(elim a b).len≤N:=by
 unfold elim;refine Pol.len_add_le hb (Pol.len_le fun i hi=>?_)
 rw [Pol.c_Cmul,a8q (a:=a) (by omega),Gq.mul_zero]
theorem a8z {a:Fp p} (ha:Monic a) (b:Fp p):(elim a b).c (a.len-1)=0:=by
 rw [Ux,show a.c (a.len-1)=1 from ha.1,Gq.mul_one];exact Gq.add_neg _
theorem Ht {N:Nat}:∀{L:List (Fp p)} {a:Fp p},(∀b∈L,b.len≤N)→a.len≤N→(fq L a).len≤N
 | [],_,_,ha=>ha
 | b::L,a,h,ha=>Ht (L:=L) (fun c hc=>h c (by simp [hc])) (yg (h b (by simp)) ha)
theorem Mg {N:Nat}:∀{L:List (Fp p)} {a:Fp p},Desc N L→∀b∈L,(fq L a).c (b.len-1)=0
 | b::L,a,h,c,hc=>by
  obtain ⟨h1,h2⟩:=h.tail;show (fq L (elim b a)).c _=0;rcases cn.1 hc with rfl | hc
  ·rw [Ms (L:=L) (fun d hd=>by have:=h2 d hd; omega),a8z (h.mon c (by simp))]
  ·exact Mg h1 c hc
theorem Wv {N:Nat} {L:List (Fp p)} {a:Fp p} (h:Desc N L) (h0:fq L a≠0):∀b∈L,b.len≠(fq L a).len:=fun b hb e=>by
 have h1:=Mg (a:=a) h b hb;rw [e] at h1;exact Pol.ld_ne h0 h1
theorem a57 {a b:Fp p} (hb:Monic b) (hne:b.len≠a.len):Monic (elim a b)∧(elim a b).len=b.len:=by
 have hbp:=Pol.len_pos hb.2;rcases ek b.len a.len with h | h
 ·have:elim a b=b:=by
   unfold elim;rw [a8q (by omega),ve,Pol.C_zero,Gq.zero_mul,Gq.add_zero]
  rw [this]; exact ⟨hb,rfl⟩
 ·have hc:(elim a b).c (b.len-1)=1:=by
   rw [Ux,a8q (a:=a) (by omega),Gq.mul_zero,Gq.add_zero]; exact hb.1
  have hl:(elim a b).len=b.len:=by
   have h1:(elim a b).len=(b.len-1)+1:=Pol.len_eq (Pol.lt_iff.2 (by
    rw [Nat.sub_add_cancel hbp]; exact yg h (bh _))) (by rw [hc]; exact Fd.one_ne)
   omega
  refine ⟨⟨by unfold Pol.ld; rw [hl]; exact hc,fun h0=>?_⟩,hl⟩
  rw [h0,Pol.len_zero] at hl;omega
theorem Gf {N:Nat} {a:Fp p} (ha:Monic a) (hal:a.len≤N):∀{L:List (Fp p)},Desc N L→(∀b∈L,b.len≠a.len)→Desc N (zu a L)
 | [],_,_=>⟨f9 _ _,fun b hb=>by simp [zu] at hb; rw [hb]; exact ha,fun b hb=>by simp [zu] at hb; rw [hb]; exact hal⟩
 | b::L,h,hne=>by
  obtain ⟨h1,h2⟩:=h.tail;have hall:∀c∈b::L,Monic (elim a c)∧(elim a c).len=c.len:=fun c hc=>a57 (h.mon c hc) (hne c hc)
  refine ⟨?_,fun c hc=>?_,fun c hc=>?_⟩
  ·unfold zu
   split
   ·rename_i hlt
    refine dh.2 ⟨fun c hc=>?_,?_⟩
    ·obtain ⟨d,hd,rfl⟩:=ch.1 hc
     rw [(hall d hd).2];rcases cn.1 hd with rfl | hd
     ·exact hlt
     ·have:=h2 d hd; omega
    ·rw [jm]
     refine h.pw.imp_of_mem fun {x y} hx hy hxy=>?_
     rw [(hall x hx).2,(hall y hy).2]; exact hxy
   ·rename_i hge
    refine dh.2 ⟨fun c hc=>?_,(Gf ha hal h1 fun c hc=>hne c (by simp [hc])).pw⟩
    rw [(hall b (by simp)).2]
    rcases A0 hc with rfl | ⟨d,hd,rfl⟩
    ·have:=hne b (by simp); omega
    ·rw [(hall d (by simp [hd])).2]; exact h2 d hd
  ·rcases A0 hc with rfl | ⟨d,hd,rfl⟩
   ·exact ha
   ·exact (hall d hd).1
  ·rcases A0 hc with rfl | ⟨d,hd,rfl⟩
   ·exact hal
   ·rw [(hall d hd).2]; exact h.le d hd
noncomputable def Ab (L:List (Fp p)) (x:Fp p):List (Fp p):=by
 classical exact if fq L x=0 then L else zu (Gq.mon (fq L x)) L
theorem xh {L:List (Fp p)} {x:Fp p} (h:fq L x=0):Ab L x=L:=by unfold Ab; rw [if_pos h]
theorem yl {L:List (Fp p)} {x:Fp p} (h:fq L x≠0):Ab L x=zu (Gq.mon (fq L x)) L:=by unfold Ab; rw [if_neg h]
noncomputable def lc:List (Fp p)→List (Fp p)→List (Fp p)
 | [],L=>L
 | x::xs,L=>lc xs (Ab L x)
theorem M8 {N:Nat} {L:List (Fp p)} {x:Fp p} (h:Desc N L) (hx:x.len≤N):Desc N (Ab L x):=by
 by_cases h0:fq L x=0
 ·rw [xh h0]; exact h
 ·rw [yl h0]
  exact Gf (rh h0) (by rw [wo h0]; exact Ht h.le hx) h fun b hb=>by rw [wo h0]; exact Wv h h0 b hb
theorem Cs {N:Nat}:∀{xs L:List (Fp p)},Desc N L→(∀x∈xs,x.len≤N)→Desc N (lc xs L)
 | [],_,h,_=>h
 | x::xs,L,h,hx=>Cs (xs:=xs) (M8 h (hx x (by simp))) fun y hy=>hx y (by simp [hy])
end
section
variable {p:Int}
theorem a2z {a:Fp p} {L:List (Fp p)} {ds:List D} (hd:(zu a L).Pairwise fun x y=>y.len<x.len) (hp:ds.Perm ((L.map (elim a)++[a]).map cj)) (hs:Asc a2x ds):ds=(zu a L).map cj:=by
 obtain ⟨M,p1,p2⟩:=H6 cj hp.symm (L.map (elim a)++[a]) rfl;subst p2
 have:M=zu a L:=a1n (p1.trans (uu a L).symm) hd (by
  unfold Asc at hs;rw [jm] at hs;exact hs.imp fun h=>by rw [Dl,Dl] at h; omega)
 rw [this]
end
end Pe
namespace Pe
open Go Gq
section
variable {p:Int}
inductive Spn (L:List (Fp p)):Fp p→Prop
 | zero:Spn L 0
 | step {a b:Fp p} (k:Zp p) (ha:a∈L) (hb:Spn L b):Spn L (Pol.C k*a+b)
theorem Spn.mem {L:List (Fp p)} {a:Fp p} (h:a∈L):Spn L a:=by
 have:=Spn.step (1:Zp p) h .zero
 rwa [Pol.C_one,Gq.one_mul,Gq.add_zero] at this
theorem Spn.add {L:List (Fp p)} {a b:Fp p} (ha:Spn L a) (hb:Spn L b):Spn L (a+b):=by
 induction ha with
 | zero=>rw [Gq.zero_add]; exact hb
 | step k h1 h2 ih=>rw [Gq.add_assoc]; exact .step k h1 ih
theorem Spn.smul {L:List (Fp p)} {a:Fp p} (k:Zp p) (ha:Spn L a):Spn L (Pol.C k*a):=by
 induction ha with
 | zero=>rw [Gq.mul_zero]; exact .zero
 | step c h1 h2 ih=>rw [Gq.mul_add,←Gq.mul_assoc,←Pol.C_mul]; exact .step _ h1 ih
theorem Spn.neg [IsP p] {L:List (Fp p)} {a:Fp p} (ha:Spn L a):Spn L (-a):=by
 have:=ha.smul (-1)
 rwa [Pol.C_neg,Pol.C_one,Gq.neg_mul,Gq.one_mul] at this
theorem Spn.sub [IsP p] {L:List (Fp p)} {a b:Fp p} (ha:Spn L a) (hb:Spn L b):Spn L (a-b):=by rw [Gq.sub_eq]; exact ha.add hb.neg
theorem Spn.inside {L:List (Fp p)} {S:Fp p→Prop} (h0:S 0) (hs:∀(k:Zp p) a b,S a→S b→S (Pol.C k*a+b)) (h:∀a∈L,S a) {a:Fp p} (ha:Spn L a):S a:=by
 induction ha with
 | zero=>exact h0
 | step k h1 _ ih=>exact hs k _ _ (h _ h1) ih
theorem Spn.sup [IsP p] {L M:List (Fp p)} (h:∀a∈L,Spn M a) {a:Fp p} (ha:Spn L a):Spn M a:=
 ha.inside .zero (fun k _ _ h1 h2=>(h1.smul k).add h2) h
theorem J6 [IsP p]:∀(L:List (Fp p)) (x:Fp p),Spn L (x-fq L x)
 | [],x=>by
  show Spn [] (x-x);rw [Gq.sub_self]; exact .zero
 | b::L,x=>by
  show Spn (b::L) (x-fq L (elim b x));have h1:Spn (b::L) (elim b x-fq L (elim b x)):=(J6 L (elim b x)).sup fun a ha=>.mem (by simp [ha])
  have h2:=Spn.step (L:=b::L) (x.c (b.len-1)) (show b∈b::L by simp) h1
  have e:Pol.C (x.c (b.len-1))*b+(elim b x-fq L (elim b x))=x-fq L (elim b x):=by
   generalize hr:fq L (elim b x)=r;unfold elim;rw [Pol.C_neg];exact bj [Pol.C (x.c (b.len-1)),b,x,r] rfl
  rwa [e] at h2
def Rdc (L:List (Fp p)):Prop:=∀b∈L,∀c∈L,b≠c→b.c (c.len-1)=0
theorem Rdc.nil:Rdc ([]:List (Fp p)):=fun _ h=>by cases h
theorem L5 {a:Fp p} {L:List (Fp p)} {b:Fp p} (h:b=a∨∃c∈L,b=elim a c):b∈zu a L:=
 (uu a L).symm.subset (by
  rcases h with rfl | ⟨c,hc,rfl⟩
  ·simp
  ·exact c6 _ (List.mem_map_of_mem hc))
theorem Ru [IsP p] {L:List (Fp p)} {x y:Fp p}:(Spn L y→Spn (Ab L x) y)∧Spn (Ab L x) x:=by
 have key:∀b∈L,Spn (Ab L x) b:=fun b hb=>by
  by_cases h0:fq L x=0
  ·rw [xh h0]; exact .mem hb
  ·rw [yl h0]
   have h1:Spn (zu (Gq.mon (fq L x)) L) (elim (Gq.mon (fq L x)) b):=.mem (L5 (.inr ⟨b,hb,rfl⟩));have h2:=Spn.step (b.c ((Gq.mon (fq L x)).len-1)) (L5 (L:=L) (.inl rfl:Gq.mon (fq L x)=Gq.mon (fq L x)∨_)) h1
   have e:Pol.C (b.c ((Gq.mon (fq L x)).len-1))*Gq.mon (fq L x)+elim (Gq.mon (fq L x)) b=b:=by
    generalize Gq.mon (fq L x)=a;unfold elim;rw [Pol.C_neg];exact bj [Pol.C (b.c (a.len-1)),a,b] rfl
   rwa [e] at h2
 refine ⟨fun h=>h.sup key,?_⟩
 have h1:Spn (Ab L x) (x-fq L x):=(J6 L x).sup key
 have h2:Spn (Ab L x) (fq L x):=by
  by_cases h0:fq L x=0
  ·rw [h0]; exact .zero
  ·have h3:Spn (Ab L x) (Gq.mon (fq L x)):=by rw [yl h0]; exact .mem (L5 (.inl rfl))
   have h4:=h3.smul (fq L x).ld
   rwa [←Vw h0] at h4
 have h3:=h1.add h2
 rwa [show x-fq L x+fq L x=x from bj [x,fq L x] rfl] at h3
theorem a89 [IsP p] {L:List (Fp p)} {x:Fp p} {S:Fp p→Prop} (h0:S 0) (hs:∀(k:Zp p) a b,S a→S b→S (Pol.C k*a+b)) (hL:∀a∈L,S a) (hx:S x):∀a∈Ab L x,S a:=by
 have hsub:∀a b,S a→S b→S (a-b):=fun a b ha hb=>by
  have:=hs (-1) b a hb ha
  rwa [Pol.C_neg,Pol.C_one,show -1*b+a=a-b from bj [a,b] rfl] at this
 have hm:∀(k:Zp p) a,S a→S (Pol.C k*a):=fun k a ha=>by
  have:=hs k a 0 ha h0
  rwa [Gq.add_zero] at this
 intro a ha
 by_cases hr:fq L x=0
 ·rw [xh hr] at ha; exact hL a ha
 ·rw [yl hr] at ha
  have h1:S (x-fq L x):=(J6 L x).inside h0 hs hL
  have h2:S (fq L x):=by
   have:=hsub x _ hx h1
   rwa [show x-(x-fq L x)=fq L x from bj [x,fq L x] rfl] at this
  have h3:S (Gq.mon (fq L x)):=hm _ _ h2;rcases A0 ha with rfl | ⟨b,hb,rfl⟩
  ·exact h3
  ·unfold elim
   rw [Gq.add_comm];exact hs _ _ _ h3 (hL b hb)
theorem Sr [IsP p] {S:Fp p→Prop} (h0:S 0) (hs:∀(k:Zp p) a b,S a→S b→S (Pol.C k*a+b)):∀{xs L:List (Fp p)},(∀a∈L,S a)→(∀x∈xs,S x)→∀a∈lc xs L,S a
 | [],_,hL,_=>hL
 | x::xs,L,hL,hx=>Sr h0 hs (xs:=xs) (a89 h0 hs hL (hx x (by simp))) fun y hy=>hx y (by simp [hy])
theorem Mj [IsP p]:∀{xs L:List (Fp p)},(∀y,Spn L y→Spn (lc xs L) y)∧∀x∈xs,Spn (lc xs L) x
 | [],L=>⟨fun _ h=>h,fun _ h=>by cases h⟩
 | x::xs,L=>by
  obtain ⟨h1,h2⟩:=Mj (xs:=xs) (L:=Ab L x);refine ⟨fun y hy=>h1 y (Ru.1 hy),fun y hy=>?_⟩
  rcases cn.1 hy with rfl | hy
  ·exact h1 y (Ru (y:=y)).2
  ·exact h2 y hy
end
section
variable {p:Int}
noncomputable def cS (A:List (Fp p)) (i:Nat):Fp p:=(A[i]?).getD 0
theorem Qg {A:List (Fp p)} {i:Nat} (h:A.length≤i):cS A i=0:=by unfold cS; rw [cl h]; rfl
theorem Th {A:List (Fp p)} {i:Nat} (h:i<A.length):A[i]=cS A i:=by unfold cS; rw [b8 h]; rfl
def wy (A:List (Fp p)):Prop:=∀n,A.length=n+1→cS A n≠0
theorem O7 (S:List (Fp p)) (i:Nat):cS (rr S) i=cS S i:=by
 unfold cS rr;have hle:=U7 S S.length
 by_cases h:i<stl S S.length
 ·rw [dx,if_pos h]
 ·rw [dx,if_neg h]
  by_cases h2:i<S.length
  ·rw [Lj S S.length i (by omega) h2]; rfl
  ·rw [cl (by omega)]
theorem Ag (S:List (Fp p)):wy (rr S):=fun n hn=>by
 obtain ⟨a,x,e,hx⟩:=Ur (S:=S) (by omega)
 rw [e] at hn ⊢;rw [bu,gi] at hn;unfold cS;rw [bq (by omega),show n-a.length=0 by omega]
 exact hx
theorem Gy {X:List (Fp p)} {n:Nat} (h:∀i,n≤i→cS X i=0):(rr X).length≤n:=by
 rcases ek n (rr X).length with g | g
 ·have:=Ag X ((rr X).length-1) (by omega)
  rw [O7] at this;exact absurd (h _ (by omega)) this
 ·exact g
theorem Lh:wy ([]:List (Fp p)):=fun n h=>by cases h
theorem ab7 {A:List (Fp p)} {N:Nat} (h:∀i,(cS A i).len≤N):∀c∈A,c.len≤N:=fun c hc=>by
 obtain ⟨i,hi,rfl⟩:=lj hc;rw [Th hi]; exact h i
theorem aak {A:List (Fp p)} {N:Nat} (h:∀c∈A,c.len≤N) (i:Nat):(cS A i).len≤N:=by
 by_cases hi:i<A.length
 ·rw [←Th hi]; exact h _ (ci hi)
 ·rw [Qg (by omega),Pol.len_zero]; omega
theorem Tp {n:Nat} {f:Nat→Fp p} (i:Nat):cS ((List.range n).map f) i=if i<n then f i else 0:=by
 unfold cS;rw [fm]
 by_cases h:i<n
 ·rw [i8 h,if_pos h]; rfl
 ·rw [cl (by simpa using h),if_neg h]; rfl
noncomputable def zm (k:Int) (A B:List (Fp p)):List (Fp p):=rr ((List.range (max A.length B.length)).map fun i=>cS A i+Pol.C (zp p k)*cS B i)
theorem X9 (k:Int) (A B:List (Fp p)) (i:Nat):cS (zm k A B) i=cS A i+Pol.C (zp p k)*cS B i:=by
 unfold zm;rw [O7,Tp]
 split
 ·rfl
 ·rw [Qg (A:=A) (by omega),Qg (A:=B) (by omega),Gq.mul_zero,Gq.add_zero]
theorem T2 (k:Int) (A B:List (Fp p)):wy (zm k A B):=Ag _
theorem a6f (k:Int) (A B:List (Fp p)):(zm k A B).length≤max A.length B.length:=Gy fun i hi=>by
 rw [Tp,if_neg (by omega)]
noncomputable def xv (c:Fp p) (k:Nat):List (Fp p):=List.replicate k 0++[c]
theorem s9 (c:Fp p) (k:Nat):(xv c k).length=k+1:=by unfold xv; rw [bu,d9]; rfl
theorem Hs (c:Fp p) (k i:Nat):cS (xv c k) i=if i=k then c else 0:=by
 unfold cS xv;rcases km i k with h | h | h
 ·rw [bt (by rw [d9]; exact h),kj,if_pos h,if_neg (by omega)]; rfl
 ·rw [bq (by rw [d9]; omega),d9,h,io,if_pos rfl]; rfl
 ·rw [cl (by rw [bu,d9,gi]; omega),if_neg (by omega)]; rfl
theorem H1 {c:Fp p} (h:c≠0) (k:Nat):wy (xv c k):=fun n hn=>by
 rw [s9] at hn;rw [Hs,if_pos (by omega)]; exact h
theorem Pn (S:List (Fp p)):(rr S).length≤S.length:=by
 unfold rr; rw [bv]; omega
theorem I5 {B:List (Fp p)} (h:1≤B.length):∃b,B=b++[cS B (B.length-1)]∧b.length=B.length-1:=by
 have hlt:B.length-1<B.length:=by omega
 refine ⟨B.take (B.length-1),?_,by rw [bv]; omega⟩
 rw [←Th hlt,←gq hlt,show B.length-1+1=B.length by omega,ta]
end
section
variable {p:Int} [IsP p]
theorem Lc {m x:Fp p} {i N:Nat} (hm:m≠0) (hN:m.len≤N+1):∀(k:Nat) (b Q:List (Fp p)),(∀c∈Q,c.len≤N)→∀c∈xc m x i k b Q,c.len≤N
 | _,[],_,h=>h
 | k,y::ys,Q,h=>Lc hm hN (k+1) ys _ (Vp h (by have:=Pol.len_mod (x*oo m (i%(m.len-1)) y) hm; omega))
theorem Gt {m:Fp p} {b:List (Fp p)} {N:Nat} (hm:m≠0) (hN:m.len≤N+1):∀(i:Nat) (a Q:List (Fp p)),(∀c∈Q,c.len≤N)→∀c∈Aa m b i a Q,c.len≤N
 | _,[],_,h=>h
 | i,_x::xs,Q,h=>Gt hm hN (i+1) xs _ (Lc hm hN 0 b Q h)
theorem wn {m:Fp p} {a b:List (Fp p)} {N:Nat} (hm:m≠0) (hN:m.len≤N+1):∀c∈qe m a b,c.len≤N:=fun c hc=>by
 unfold qe at hc
 split at hc
 ·cases hc
 ·have h1:c∈Ds m a b:=gy hc
  exact Gt hm hN 0 a _ (fun c hc=>by rw [List.eq_of_mem_replicate hc,Pol.len_zero]; omega) c h1
theorem wl (m:Fp p) (a b:List (Fp p)):wy (qe m a b):=by
 unfold qe
 split
 ·exact Lh
 ·exact Ag _
theorem A7 {m:Fp p} {a b:List (Fp p)}:(qe m a b).length≤a.length+b.length-1:=by
 unfold qe
 split
 ·exact kf _
 ·have:=Pn (Ds m a b)
  have hl:(Ds m a b).length=a.length+b.length-1:=by unfold Ds; rw [pv,d9]
  omega
theorem a50 {m x y:Fp p} {a b:List (Fp p)}:cS (Ds m (a++[x]) (b++[y])) (a.length+b.length)=x*oo m (a.length%(m.len-1)) y%m:=by
 unfold Ds;rw [Cp,El];unfold rg;rw [we _ _ _ (by omega),za _ _ _ (by rw [bu,c7,dw]; omega)]
 have hN:0+a.length+(0+b.length)=a.length+b.length:=by omega
 rw [hN];unfold cS;rw [bo (by rw [tt,pv,d9,bu,bu]; simp only [c7,dw]; omega)]
 rw [kj,if_pos (by rw [bu,bu]; simp only [c7,dw]; omega)]
 show (0:Fp p)+_=_;rw [Gq.zero_add,show 0+a.length=a.length by omega]
theorem Sl {m:Fp p} {A B:List (Fp p)} (ha:1≤A.length) (hb:1≤B.length):cS (qe m A B) (A.length-1+(B.length-1))=cS A (A.length-1)*oo m ((A.length-1)%(m.len-1)) (cS B (B.length-1))%m:=by
 obtain ⟨a,ea,la⟩:=I5 ha;obtain ⟨b,eb,lb⟩:=I5 hb;have h:=a50 (m:=m) (x:=cS A (A.length-1)) (y:=cS B (B.length-1)) (a:=a) (b:=b);rw [←ea,←eb,la,lb] at h;unfold qe;rw [if_neg (by omega),O7]
 exact h
theorem Sa {m x y:Fp p} (hm:Fld m) (hx:x.len<m.len) (hy:y≠0) (hyl:y.len<m.len):(x*Ae m y%m)*y%m=x∧y*(x*Ae m y%m)%m=x:=by
 have h0:m≠0:=hm.mon.2;have e:=Od hm hy hyl
 have key:Quo.mk m ((x*Ae m y%m)*y)=Quo.mk m x:=by
  rw [Quo.mk_mul,Pol.mk_mod,Quo.mk_mul,Gq.mul_assoc,e,Gq.mul_one]
 have h1:=(Pol.mod_eq_iff h0).2 key;rw [Pol.mod_small hx] at h1;exact ⟨h1,by rw [Gq.mul_comm]; exact h1⟩
theorem Sq {m:Fp p}:∀(b a:Nat) (x:Fp p),oo m (a+b) x=oo m a (oo m b x)
 | 0,_,_=>rfl
 | b+1,a,x=>by
  show oo m (a+b) (pw x p.toNat%m)=oo m a (oo m b (pw x p.toNat%m));exact Sq b a _
theorem Vh {m:Fp p} (hm:Fld m) (j:Nat) {z:Fp p} (hz:z.len<m.len):oo m (j%(m.len-1)) (oo m ((m.len-1-j%(m.len-1))%(m.len-1)) z)=z:=by
 have h2:=hm.two;have hlt:=Nat.mod_lt j (show 0<m.len-1 by omega)
 rw [E5 hm _ hz,←Sq,show j%(m.len-1)+(m.len-1-j%(m.len-1))=m.len-1 by omega,←E5 hm _ hz,Nat.mod_self]
 rfl
noncomputable def qc (left:Bool) (m:Fp p) (A B:List (Fp p)):Fp p:=
 if left then oo m ((m.len-1-(B.length-1)%(m.len-1))%(m.len-1)) (cS A (A.length-1)*Ae m (cS B (B.length-1))%m)
 else cS A (A.length-1)*Ae m (oo m ((A.length-B.length)%(m.len-1)) (cS B (B.length-1)))%m
noncomputable def qT (left:Bool) (m:Fp p) (A B:List (Fp p)):List (Fp p):=xv (qc left m A B) (A.length-B.length)
noncomputable def qP (left:Bool) (m:Fp p) (A B:List (Fp p)):List (Fp p):=if left then qe m B (qT left m A B) else qe m (qT left m A B) B
end
section
variable {p:Int}
structure Sk (m:Fp p) (A:List (Fp p)):Prop where
 trim:wy A
 eight:A.length≤8
 res:∀c∈A,c.len<m.len
theorem Sk.cs {m:Fp p} {A:List (Fp p)} (h:Sk m A) (hm:m≠0) (i:Nat):(cS A i).len<m.len:=by
 have:=aak (N:=m.len-1) (fun c hc=>by have:=h.res c hc; omega) i
 have:=Pol.len_pos hm;omega
theorem Sk.top {m:Fp p} {A:List (Fp p)} (h:Sk m A) (h1:1≤A.length):cS A (A.length-1)≠0:=h.trim _ (by omega)
theorem Sk.nil (m:Fp p):Sk m []:=⟨Lh,by simp,fun c h=>by cases h⟩
end
section
variable {p:Int} [IsP p]
theorem jt {p:Int} {a:Fp p} {n:Nat} (h:a.len≤n):a.c n=0:=a.lt_len n h
theorem Sk.plus {m:Fp p} {A B:List (Fp p)} (hm:m≠0) (hA:Sk m A) (hB:Sk m B) (k:Int):Sk m (zm k A B):=by
 have h1:=Pol.len_pos hm;refine ⟨T2 k A B,by have:=a6f k A B; have:=hA.eight; have:=hB.eight; omega,fun c hc=>?_⟩
 have:=ab7 (A:=zm k A B) (N:=m.len-1) (fun i=>by
  rw [X9];have a1:=hA.cs hm i;have a2:=hB.cs hm i;exact Pol.len_add_le (by omega) (Pol.len_le fun j hj=>by rw [Pol.c_Cmul,jt (by omega),Gq.mul_zero])) c hc
 omega
theorem a79 (left:Bool) {m:Fp p} (hm:Fld m) {A B:List (Fp p)} (hA:Sk m A) (hB:Sk m B) (h1:1≤B.length) (hle:B.length≤A.length) :
 qc left m A B≠0∧(qc left m A B).len<m.len∧Sk m (qT left m A B)∧Sk m (qP left m A B)∧(zm (-1) A (qP left m A B)).length<A.length∧Sk m (zm (-1) A (qP left m A B)):=by
 have h0:m≠0:=hm.mon.2;have hx:=hA.top (by omega)
 have hxl:=hA.cs h0 (A.length-1);have hy:=hB.top h1;have hyl:=hB.cs h0 (B.length-1);have hfy:oo m ((A.length-B.length)%(m.len-1)) (cS B (B.length-1))≠0:=Hu hm _ _ hy hyl;have hfl:=xw h0 ((A.length-B.length)%(m.len-1)) (cS B (B.length-1)) hyl;have hb1:=Sa hm hxl hfy hfl;have hb2:=Sa hm hxl hy hyl;have hzl:(cS A (A.length-1)*Ae m (cS B (B.length-1))%m).len<m.len:=Pol.len_mod _ h0
 have hz0:cS A (A.length-1)*Ae m (cS B (B.length-1))%m≠0:=fun h=>by
  have:=hb2.1;rw [h,Gq.zero_mul,Pol.zero_mod h0] at this;exact hx this.symm
 have hc0:qc left m A B≠0:=by
  unfold qc;cases left with
  | true=>simp only [if_true]; exact Hu hm _ _ hz0 hzl
  | false=>
   simp only [b9,if_false];intro h;have:=hb1.1;rw [h,Gq.zero_mul,Pol.zero_mod h0] at this;exact hx this.symm
 have hcl:(qc left m A B).len<m.len:=by
  unfold qc;cases left with
  | true=>simp only [if_true]; exact xw h0 _ _ hzl
  | false=>simp only [b9,if_false]; exact Pol.len_mod _ h0
 have hTl:(qT left m A B).length=A.length-B.length+1:=s9 _ _;have h8:=hA.eight
 have hT:Sk m (qT left m A B):=⟨H1 hc0 _,by omega,fun c hc=>by
  unfold qT xv at hc;rcases bn.1 hc with h | h
  ·rw [List.eq_of_mem_replicate h,Pol.len_zero]; exact Pol.len_pos h0
  ·rw [bf.1 h]; exact hcl⟩
 have hPl:(qP left m A B).length≤A.length:=by
  unfold qP;cases left with
  | true=>have:=A7 (m:=m) (a:=B) (b:=qT true m A B); simp only [if_true]; omega
  | false=>have:=A7 (m:=m) (a:=qT false m A B) (b:=B); simp only [b9,if_false]; omega
 have hP:Sk m (qP left m A B):=by
  have hm1:=Pol.len_pos h0;refine ⟨?_,by omega,?_⟩
  ·unfold qP
   cases left with
   | true=>exact wl _ _ _
   | false=>exact wl _ _ _
  ·intro c hc
   have:c.len≤m.len-1:=by
    unfold qP at hc;cases left with
    | true=>exact wn h0 (by omega) c hc
    | false=>exact wn h0 (by omega) c hc
   omega
 have htop:cS (qP left m A B) (A.length-1)=cS A (A.length-1):=by
  unfold qP;cases left with
  | true=>
   simp only [if_true];have h:=Sl (m:=m) (A:=B) (B:=qT true m A B) h1 (by omega)
   rw [hTl,show B.length-1+(A.length-B.length+1-1)=A.length-1 by omega,show A.length-B.length+1-1=A.length-B.length by omega] at h
   rw [h];unfold qT;rw [Hs,if_pos rfl];unfold qc;simp only [if_true];rw [Vh hm (B.length-1) hzl];exact hb2.2
  | false=>
   simp only [b9,if_false];have h:=Sl (m:=m) (A:=qT false m A B) (B:=B) (by omega) h1
   rw [hTl,show A.length-B.length+1-1+(B.length-1)=A.length-1 by omega,show A.length-B.length+1-1=A.length-B.length by omega] at h
   rw [h];unfold qT;rw [Hs,if_pos rfl];unfold qc;simp only [b9,if_false];exact hb1.1
 have hneg:∀x:Fp p,x+Pol.C (zp p (-1))*x=0:=fun x=>by
  rw [A8,Ci,Pol.C_neg,Pol.C_one];exact bj [x] rfl
 refine ⟨hc0,hcl,hT,hP,?_,hA.plus h0 hP (-1)⟩
 have hlt:(zm (-1) A (qP left m A B)).length≤A.length-1:=Gy fun i hi=>by
  rw [Tp]
  split
  ·rcases ek i A.length with g | g
   ·rw [show i=A.length-1 by omega,htop,hneg]
   ·rw [Qg g,Qg (A:=qP left m A B) (by omega),Gq.mul_zero,Gq.add_zero]
  ·rfl
 omega
def Zto (Q A B:List (Fp p)):Prop:=∀j,j+B.length≤A.length→cS Q j=0
theorem Zto.step {left:Bool} {m:Fp p} (hm:Fld m) {Q A B:List (Fp p)} (hA:Sk m A) (hB:Sk m B) (h1:1≤B.length) (hle:B.length≤A.length) (hz:Zto Q A B):Zto (zm 1 Q (qT left m A B)) (zm (-1) A (qP left m A B)) B:=fun j hj=>by
 obtain ⟨_,_,_,_,h,_⟩:=a79 left hm hA hB h1 hle;unfold qT;rw [X9,hz j (by omega),Hs,if_neg (by omega),Gq.mul_zero,Gq.add_zero]
end
end Pe
namespace Pe
open Go Gq
variable {T:Nat→Option Fn} {A:ap}
section
variable {p:Int} [IsP p]
theorem Gl (x:Zp p):0≤rep x∧rep x≤7:=by
 have h1:=gr x;have h2:=IsP.le (p:=p);omega
theorem a2n {O:ap} (hc:fl O) {a b:Fp p} (ha:a.len≤64) (hb:b.len≤64):ask O F12 [(D.int .i64 p),(D.sl .leaf (af .i64 (row b))),(D.sl .leaf (af .i64 (row a))),(D.int .i64 (-rep (b.c (a.len-1))))]=some (D.sl .leaf (af .i64 (row (elim a b)))):=by
 have h:=Gl (b.c (a.len-1));have:=hc p (-rep (b.c (a.len-1))) b a (by omega) (by omega) (by omega) (by omega)
 rw [A8,jq] at this;exact this
theorem a5x {O:ap} (hat:y9 O) (hc:fl O) {L:List (Fp p)} {N:Nat} (hN:N≤12) (hL:Desc N L) {xs:List D} {nx i:Int} {n:Nat} (hn:L.length=n) {cp cp2:Option Nat}:∀(r j:Nat) (a:Fp p),j+r=n→a.len≤N →
 dn O 0 (.loop Z1e_L0) ⟨[(0,(.d (.int .i64 p))),(5,.sl 0 [] 0 n cp),(7,(.d (.sl .leaf (af .i64 (row a))))),(12,.d (.sl .leaf xs)),(13,(.d (.int .i64 nx))),(14,(.d (.int .i64 i))),(18,.sl 0 [] 0 n cp2),(19,(.d (.int .i64 n))),(20,(.d (.int .i64 j)))],[.sl false .leaf (L.map cj),.hole,.hole]⟩ =
  some (.exit 2,⟨[(0,(.d (.int .i64 p))),(5,.sl 0 [] 0 n cp),(7,(.d (.sl .leaf (af .i64 (row (fq (L.drop j) a)))))),(12,.d (.sl .leaf xs)),(13,(.d (.int .i64 nx))),(14,(.d (.int .i64 i))),(18,.sl 0 [] 0 n cp2),(19,(.d (.int .i64 n))),(20,(.d (.int .i64 n))),(21,(.d (.bool false)))],[.sl false .leaf (L.map cj),.hole,.hole]⟩)
 | 0,j,a,hj,ha=>by
  obtain rfl:j=n:=by omega
  rw [cz (by omega)]
  refine cm ?_;show _=some (_,(⟨[_,_,(7,(.d (.sl .leaf (af .i64 (row a))))),_,_,_,_,_,_,_],_⟩:St));generalize L.map cj=LD at *;simp -implicitDefEqProofs [Z1e_L0,aw]
 | r+1,j,a,hj,ha=>by
  have hlt:j<L.length:=by omega
  have hll:=hL.length;have hjn:j<n:=by omega
  have hm:=ci hlt;have hbl:=hL.le _ hm;have hbp:=Pol.len_pos (hL.mon _ hm).2;have e1:=hat (row a) (L[j].len-1) (by omega)
  rw [ft] at e1;have e2:=a2n (O:=O) hc (a:=L[j]) (b:=a) (by omega) (by omega)
  have w1:IntKind.i64.wrap (((row L[j]).length:Int)-1)=((L[j].len-1:Nat):Int):=by rw [bi]; exact (w64 (by omega)).trans (by omega)
  have hr:=Gl (a.c (L[j].len-1));have w2':IntKind.i64.wrap (-rep (a.c (L[j].len-1)))=-rep (a.c (L[j].len-1)):=w64 (by omega)
  have w4:IntKind.i64.wrap ((j:Int)+1)=((j+1:Nat):Int):=(w64 (x:=(j:Int)+1) (by omega)).trans (by omega)
  have hx:∀h:j<(L.map cj).length,(L.map cj)[j]'h=(D.sl .leaf (af .i64 (row L[j]))):=fun h=>by rw [f8]
  have hLD:(L.map cj).length=n:=by rw [ba]; exact hn
  have hd:fq (L.drop j) a=fq (L.drop (j+1)) (elim L[j] a):=by rw [bx hlt]; rfl
  have hjl:(j:Int)<n:=by omega
  rw [hd];refine cg ?_ (a5x hat hc hN hL hn r (j+1) (elim L[j] a) (by omega) (yg hbl ha))
  generalize rep (a.c (L[j].len-1))=k at *;generalize row (elim L[j] a)=R1 at *;generalize row a=R2 at *;generalize row L[j]=R3 at *;generalize L[j].len-1=d at *;generalize L.map cj=LD at *;simp -implicitDefEqProofs [Z1e_L0,aw,hjl,hjn,hLD,hx,e1,e2,w1,w2',w4]
theorem a53 {O:ap} (hat:y9 O) (hc:fl O) {a:Fp p} (ha:a≠0) (hal:a.len≤12) {xs:List D} {nx i:Int} {n:Nat} {cp cp2:Option Nat}:∀(r j:Nat) (Q:List (Fp p)),j+r=n→Q.length=n→(∀b∈Q,b.len≤12)→n≤12 →
 dn O 0 (.loop Z1e_L1) ⟨[(0,(.d (.int .i64 p))),(5,.sl 0 [] 0 n cp),(7,(.d (.sl .leaf (af .i64 (row a))))),(12,.d (.sl .leaf xs)),(13,(.d (.int .i64 nx))),(14,(.d (.int .i64 i))),(45,.sl 0 [] 0 n cp2),(46,(.d (.int .i64 n))),(47,(.d (.int .i64 j)))],[.sl false .leaf (Q.map cj),.hole,.hole]⟩ =
  some (.exit 4,⟨[(0,(.d (.int .i64 p))),(5,.sl 0 [] 0 n cp),(7,(.d (.sl .leaf (af .i64 (row a))))),(12,.d (.sl .leaf xs)),(13,(.d (.int .i64 nx))),(14,(.d (.int .i64 i))),(45,.sl 0 [] 0 n cp2),(46,(.d (.int .i64 n))),(47,(.d (.int .i64 n))),(48,(.d (.bool false)))],[.sl false .leaf ((Q.take j++(Q.drop j).map (elim a)).map cj),.hole,.hole]⟩)
 | 0,j,Q,hj,hq,hQ,hn=>by
  obtain rfl:j=n:=by omega
  have:Q.take j++(Q.drop j).map (elim a)=Q:=by rw [cz (by omega),bg (by omega)]; simp
  rw [this];refine cm ?_;generalize Q.map cj=LD at *;simp -implicitDefEqProofs [Z1e_L1,aw]
 | r+1,j,Q,hj,hq,hQ,hn=>by
  have hlt:j<Q.length:=by omega
  have hjn:j<n:=by omega
  have hm:=ci hlt;have hbl:=hQ _ hm;have hap:=Pol.len_pos ha;have e1:=hat (row Q[j]) (a.len-1) (by omega)
  rw [ft] at e1;have e2:=a2n (O:=O) hc (a:=a) (b:=Q[j]) (by omega) (by omega)
  have w1:IntKind.i64.wrap (((row a).length:Int)-1)=((a.len-1:Nat):Int):=by rw [bi]; exact (w64 (by omega)).trans (by omega)
  have hr:=Gl (Q[j].c (a.len-1));have w2':IntKind.i64.wrap (-rep (Q[j].c (a.len-1)))=-rep (Q[j].c (a.len-1)):=w64 (by omega)
  have w4:IntKind.i64.wrap ((j:Int)+1)=((j+1:Nat):Int):=(w64 (x:=(j:Int)+1) (by omega)).trans (by omega)
  have hx:∀h:j<(Q.map cj).length,(Q.map cj)[j]'h=(D.sl .leaf (af .i64 (row Q[j]))):=fun h=>by rw [f8]
  have hLD:(Q.map cj).length=n:=by rw [ba]; exact hq
  have hset:(Q.set j (elim a Q[j])).take (j+1)++((Q.set j (elim a Q[j])).drop (j+1)).map (elim a)=Q.take j++(Q.drop j).map (elim a):=by
   rw [List.drop_set_of_lt (by omega),gq (by rw [cx]; exact hlt),List.getElem_set_self,List.take_set,List.set_eq_of_length_le (by rw [bv]; omega),bx hlt,db,ig]
   rfl
  rw [←hset]
  refine cg ?_ (a53 hat hc ha hal r (j+1) (Q.set j (elim a Q[j])) (by omega) (by rw [cx]; exact hq) (fun b hb=>by
   rcases fk hb with h | rfl
   ·exact hQ b h
   ·exact yg hal hbl) hn)
  have hms:(Q.set j (elim a Q[j])).map cj=(Q.map cj).set j (D.sl .leaf (af .i64 (row (elim a Q[j])))):=List.map_set;rw [hms];have hjl:(j:Int)<n:=by omega
  generalize rep (Q[j].c (a.len-1))=k at *;generalize row (elim a Q[j])=R1 at *;generalize row Q[j]=R2 at *;generalize row a=R3 at *;generalize a.len-1=d at *;generalize Q.map cj=LD at *;simp -implicitDefEqProofs [Z1e_L1,aw,hjl,hjn,hLD,hx,e1,e2,w1,w2',w4]
theorem Vn {O:ap} (hat:y9 O) (hc:fl O) (hld:lk O) (hinv:g8 O) (hsc:wi O) (hsort:Bg O) (hcmp:∀L:List (Fp p),(∀x∈L,x.len≤1000)→CmpRow O F1f [] [] a2x .leaf (L.map cj)) {xs:List (Fp p)} {N:Nat} (hN:N≤11) (hxs:∀x∈xs,x.len≤N) (hxl:xs.length<2000000):∀(r i:Nat) (L:List (Fp p)) (cp:Option Nat),i+r=xs.length→Desc N L→∃cp':Option Nat,
 dn O 0 (.loop Z1e_L2) ⟨[(0,(.d (.int .i64 p))),(5,.sl 0 [] 0 L.length cp),(12,.d (.sl .leaf (xs.map cj))),(13,(.d (.int .i64 xs.length))),(14,(.d (.int .i64 i)))],[.sl false .leaf (L.map cj),.hole,.hole]⟩ =
  some (.exit 0,⟨[(0,(.d (.int .i64 p))),(5,.sl 0 [] 0 (lc (xs.drop i) L).length cp'),(12,.d (.sl .leaf (xs.map cj))),(13,(.d (.int .i64 xs.length))),(14,(.d (.int .i64 xs.length))),(15,(.d (.bool false)))],[.sl false .leaf ((lc (xs.drop i) L).map cj),.hole,.hole]⟩)
 | 0,i,L,cp,hi,hL=>by
  obtain rfl:i=xs.length:=by omega
  rw [o8];refine ⟨cp,cm ?_⟩;show _=some (_,(⟨[_,(5,.sl 0 [] 0 L.length cp),_,_,_,_],[.sl false .leaf (L.map cj),_,_]⟩:St));generalize L.map cj=LD at *;generalize xs.map cj=XD at *;simp -implicitDefEqProofs [Z1e_L2,aw]
 | r+1,i,L,cp,hi,hL=>by
  have hlt:i<xs.length:=by omega
  have hm:=ci hlt;have hxi:=hxs _ hm;have hll:=hL.length;have hd:lc (xs.drop i) L=lc (xs.drop (i+1)) (Ab L xs[i]):=by rw [bx hlt]; rfl
  have hx:∀h:i<(xs.map cj).length,(xs.map cj)[i]'h=(D.sl .leaf (af .i64 (row xs[i]))):=fun h=>by rw [f8]
  have hXD:(xs.map cj).length=xs.length:=ba ..;have hLD:(L.map cj).length=L.length:=ba ..;have w4:IntKind.i64.wrap ((i:Int)+1)=((i+1:Nat):Int):=(w64 (x:=(i:Int)+1) (by omega)).trans (by omega)
  have e0:=a5x (O:=O) hat hc (by omega) hL (xs:=xs.map cj) (nx:=xs.length) (i:=i) rfl (cp:=cp) (cp2:=cp) L.length 0 xs[i] (cd _) hxi
  have e00:((0:Nat):Int)=0:=rfl;rw [e00,ef] at e0;have hrl:=Ht (L:=L) hL.le hxi;rw [hd]
  by_cases h0:fq L xs[i]=0
  ·rw [xh h0]
   obtain ⟨cp',ih⟩:=Vn hat hc hld hinv hsc hsort hcmp hN hxs hxl r (i+1) L cp (by omega) hL
   refine ⟨cp',cg ?_ ih⟩;rw [h0,dt] at e0;generalize row xs[i]=R1 at *;generalize L.map cj=LD at *;generalize xs.map cj=XD at *;simp -implicitDefEqProofs [Z1e_L2,aw,hlt,hXD,hx,e0,w4,jf]
  ·have hap:=Pol.len_pos h0
   have hml:=wo h0;have hmm:=rh h0;have hld0:=Pol.ld_ne h0;have hri:=gr (fq L xs[i]).ld;have hp7:=IsP.le (p:=p);have hp2:=IsP.ge (p:=p);have hr0:rep (fq L xs[i]).ld≠0:=fun h=>hld0 (k9.1 h)
   have e2:=hld (row (fq L xs[i])) (by rw [bi]; omega)
   rw [ua] at e2;have e3:=hinv p (rep (fq L xs[i]).ld) (by omega) (by omega) (by omega) (by omega)
   have hin:=vd (p:=p) (rep (fq L xs[i]).ld);have e4:=hsc p (inv p (rep (fq L xs[i]).ld)) (fq L xs[i]) (by omega) (by omega) (by omega)
   rw [ry _ hld0,show Pol.C (Fd.inv (fq L xs[i]).ld)*fq L xs[i]=Gq.mon (fq L xs[i]) from rfl] at e4;have e5:=a53 (O:=O) hat hc hmm.2 (by omega) (xs:=xs.map cj) (nx:=xs.length) (i:=i) (n:=L.length) (cp:=cp) (cp2:=cp) L.length 0 L (cd _) rfl (fun b hb=>by have:=hL.le b hb; omega) (by omega)
   rw [e00,il,fb,ef] at e5;have hne:∀b∈L,b.len≠(Gq.mon (fq L xs[i])).len:=fun b hb=>by rw [hml]; exact Wv hL h0 b hb
   have hins:=Gf hmm (by omega) hL hne
   obtain ⟨ds,s1,s2,s3⟩:=hsort F1f [] [] a2x ((L.map (elim (Gq.mon (fq L xs[i])))++[Gq.mon (fq L xs[i])]).map cj) none (by rw [ba,bu,ba,gi]; omega) (hcmp _ fun x hx=>by
    rcases bn.1 hx with h | h
    ·obtain ⟨b,hb,rfl⟩:=ch.1 h
     have:=yg (N:=N) (a:=Gq.mon (fq L xs[i])) (by omega) (hL.le b hb)
     omega
    ·obtain rfl:x=_:=by simpa using h
     omega)
   rw [a2z hins.pw s1 s2] at s3;have hpl:=(uu (Gq.mon (fq L xs[i])) L).length_eq;rw [bu,ba,gi] at hpl;rw [yl h0];obtain ⟨cp',ih⟩:=Vn hat hc hld hinv hsc hsort hcmp hN hxs hxl r (i+1) (zu (Gq.mon (fq L xs[i])) L) none (by omega) hins
   refine ⟨cp',cg ?_ ih⟩;rw [hpl];have hsl:((L.map (elim (Gq.mon (fq L xs[i])))++[Gq.mon (fq L xs[i])]).map cj).length=L.length+1:=by rw [ba,bu,ba,gi]
   rw [hsl] at s3;have hmap:(L.map (elim (Gq.mon (fq L xs[i])))++[Gq.mon (fq L xs[i])]).map cj=(L.map (elim (Gq.mon (fq L xs[i])))).map cj++[(D.sl .leaf (af .i64 (row (Gq.mon (fq L xs[i])))))]:=by rw [di]; rfl
   rw [hmap] at s3;have hLE:((L.map (elim (Gq.mon (fq L xs[i])))).map cj).length=L.length:=by rw [ba,ba]
   have h24:(L.length+1)*24≤1099511627776:=by omega
   have hrl0:(row (fq L xs[i])).length≠0:=by rw [bi]; omega
   have htk:((L.map (elim (Gq.mon (fq L xs[i])))).map cj).take L.length=(L.map (elim (Gq.mon (fq L xs[i])))).map cj:=bg (by omega)
   generalize (zu (Gq.mon (fq L xs[i])) L).map cj=LI at *;generalize (L.map (elim (Gq.mon (fq L xs[i])))).map cj=LE at *;generalize inv p (rep (fq L xs[i]).ld)=k1 at *;generalize rep (fq L xs[i]).ld=k2 at *;generalize row (Gq.mon (fq L xs[i]))=R2 at *;generalize row (fq L xs[i])=R3 at *;generalize row xs[i]=R1 at *;generalize L.map cj=LD at *;generalize xs.map cj=XD at *;simp -implicitDefEqProofs [Z1e_L2,aw,hlt,hXD,hx,e0,e2,e3,e4,e5,s3,w4,hrl0,hLE,h24,htk,List.replicate,List.idxOf,List.findIdx,List.findIdx.go]
def G7 (O:ap):Prop:=∀(p:Int) [IsP p] (xs:List (Fp p)),(∀x∈xs,x.len≤11)→xs.length<2000000→ask O F1e [(D.int .i64 p),.sl .leaf (xs.map cj)]=some (.sl .leaf ((lc xs []).map cj))
end
theorem a8f {p:Int} (hT:T F1f=some Z1f) {L:List (Fp p)} (hl:∀x∈L,x.len≤1000):CmpRow (den T A) F1f [] [] a2x .leaf (L.map cj):=by
 refine ⟨fun x hx=>by simp at hx,fun x hx=>by simp at hx,fun x hx=>?_,fun x hx=>?_,fun x hx y hy=>?_⟩
 ·obtain ⟨a,_,rfl⟩:=ch.1 hx; rfl
 ·obtain ⟨a,_,rfl⟩:=ch.1 hx; rfl
 ·obtain ⟨a,ha,rfl⟩:=ch.1 hx
  obtain ⟨b,hb,rfl⟩:=ch.1 hy;have h1:=hl a ha;have h2:=hl b hb;have w1:IntKind.i64.wrap ((b.len:Int)-a.len)=(b.len:Int)-a.len:=w64 (by omega)
  refine ⟨(b.len:Int)-a.len,c9 hT rfl ?_,by rw [Dl,Dl]; omega⟩
  simp -implicitDefEqProofs [Z1f,Z1f_B,w1]
theorem a14 (hT:T F1e=some Z1e) (hT1:T F1f=some Z1f) (hat:y9 (den T A)) (hc:fl (den T A)) (hld:lk (den T A)) (hinv:g8 (den T A)) (hsc:wi (den T A)) (hsort:Bg (den T A)):G7 (den T A):=by
 intro p ip xs hxs hxl;obtain ⟨cp,e⟩:=Vn (O:=den T A) hat hc hld hinv hsc hsort (fun L hl=>a8f hT1 hl) (bh 11) hxs hxl xs.length 0 [] (some 0) (cd _) (Desc.nil 11)
 have e00:((0:Nat):Int)=0:=rfl;rw [e00,ef,fc,dw] at e;have hL:((lc xs []).map cj).length=(lc xs []).length:=ba ..;have hX:(xs.map cj).length=xs.length:=ba ..;have htk:((lc xs []).map cj).take (lc xs []).length=(lc xs []).map cj:=bg (by omega)
 refine c9 hT rfl ?_;generalize (lc xs []).map cj=LD at *;generalize xs.map cj=XD at *;simp -implicitDefEqProofs [Z1e,Z1e_B,hX,hL,htk,e]
noncomputable abbrev eo {p:Int} (a:Fp p):D:=(D.arr 64 .leaf (af .u8 (pad (row a))))
section
variable {p:Int} [IsP p]
end
section
variable {p:Int}
end
section
variable {p:Int} [IsP p]
end
section
variable {p:Int} [IsP p]
end
section
variable {p:Int} [IsP p]
end
section
variable {α:Type}
end
section
variable {p:Int} [IsP p]
noncomputable def af3 (m:Fp p) (X:List (Fp p)):List (Fp p):=qe m (xv (Ae m (cS X (X.length-1))) 0) X
theorem Sk.mon {m:Fp p} {X:List (Fp p)} (hm:m≠0) (hX:Sk m X):Sk m (af3 m X):=by
 have h1:=Pol.len_pos hm;have hl:=A7 (m:=m) (a:=xv (Ae m (cS X (X.length-1))) 0) (b:=X);rw [s9] at hl;have h8:=hX.eight;exact ⟨wl _ _ _,by unfold af3; omega,fun c hc=>by have:=wn (N:=m.len-1) hm (by omega) c hc; omega⟩
end
section
variable {p:Int}
end
section
variable {p:Int} [IsP p]
theorem a1r {m:Fp p} (hm:Fld m) {X Y:List (Fp p)} (hX:wy X) (hY:wy Y) (hXl:∀c∈X,c.len<m.len) (hYl:∀c∈Y,c.len<m.len) (h1:1≤X.length) (h2:1≤Y.length):(qe m X Y).length=X.length+Y.length-1:=by
 obtain ⟨a,ea,la⟩:=I5 h1;obtain ⟨b,eb,lb⟩:=I5 h2;have hx:=hX (X.length-1) (by omega)
 have hy:=hY (Y.length-1) (by omega)
 have ht:=a5s hm (a:=a) (b:=b) hx (hXl _ (by rw [←Th (show X.length-1<X.length by omega)]; exact ci _)) hy (hYl _ (by rw [←Th (show Y.length-1<Y.length by omega)]; exact ci _))
 rw [←ea,←eb] at ht;unfold qe;rw [if_neg (by omega),ht]
 unfold Ds;rw [pv,d9]
theorem Xz:(1:Fp p)≠0:=fun h=>by
 have e:(1:Fp p).len=1:=Pol.len_one;rw [h,Pol.len_zero] at e;cases e
theorem a3y {m:Fp p} (hm:Fld m):Sk m (xv (1:Fp p) 0):=⟨H1 Xz 0,by rw [s9]; omega,fun c hc=>by
 unfold xv at hc;rw [List.replicate_zero,fb] at hc;rw [bf.1 hc];have:=hm.two;have:(1:Fp p).len=1:=Pol.len_one;omega⟩
end
section
variable {p:Int} [IsP p]
end
end Pe
namespace Pe
open Go Gq
section
variable {p:Int}
noncomputable def sg {m:Fp p}:Nat→Quo m→Quo m
 | 0,x=>x
 | k+1,x=>sg k (pw x p.toNat)
theorem Ye [IsP p] {m:Fp p}:∀(k:Nat) (a:Fp p),Quo.mk m (oo m k a)=sg k (Quo.mk m a)
 | 0,_=>rfl
 | k+1,a=>by
  show Quo.mk m (oo m k (pw a p.toNat%m))=sg k (pw (Quo.mk m a) p.toNat);rw [Ye k,Pol.mk_mod,Quo.mk_pow]
theorem Ql [IsP p] {m:Fp p}:pw (0:Quo m) p.toNat=0:=by
 have h:=IsP.pos (p:=p);have:p.toNat=(p.toNat-1)+1:=by omega
 rw [this];show pw (0:Quo m) (p.toNat-1)*0=0;exact Gq.mul_zero _
theorem Ib [IsP p] {m:Fp p}:∀k,sg k (0:Quo m)=0
 | 0=>rfl
 | k+1=>by
  show sg k (pw (0:Quo m) p.toNat)=0;rw [Ql,Ib k]
section
variable {m:Fp p}
noncomputable def Rop (t0 t1 t2:Quo m) (X:Nat→Quo m):Nat→Quo m
 | 0=>X 0*t0
 | 1=>X 1*sg 1 t0+X 0*t1
 | n+2=>X (n+2)*sg (n+2) t0+X (n+1)*sg (n+1) t1+X n*sg n t2
noncomputable def e0:Nat→Quo m
 | 0=>1
 | _+1=>0
theorem akf (t0 t1 t2 a b c d e f g h i s u v:Quo m):t0*(a*s+b*u+c*v)+t1*(d*s+e*u+f*v)+t2*(g*s+h*u+i*v)=(t0*a+t1*d+t2*g)*s+(t0*b+t1*e+t2*h)*u+(t0*c+t1*f+t2*i)*v:=by
 have l:∀t a b c:Quo m,t*(a*s+b*u+c*v)=t*a*s+t*b*u+t*c*v:=fun t a b c=>bj [t,a,b,c,s,u,v] rfl
 have q:∀x y z w:Quo m,(x+y+z)*w=x*w+y*w+z*w:=fun x y z w=>bj [x,y,z,w] rfl
 have z:∀p1 p2 p3 q1 q2 q3 r1 r2 r3:Quo m,(p1+p2+p3)+(q1+q2+q3)+(r1+r2+r3)=(p1+q1+r1)+(p2+q2+r2)+(p3+q3+r3):=fun p1 p2 p3 q1 q2 q3 r1 r2 r3=>bj [p1,p2,p3,q1,q2,q3,r1,r2,r3] rfl
 rw [l,l,l,q,q,q,z]
theorem eight [IsP p] (t0 t1 t2 a b c d e f g h s u v:Quo m):t0*(a*s+b*u+c*v)+t1*(d*s+e*u+f*v)+t2*(g*s+h*u)=(t0*a+t1*d+t2*g)*s+(t0*b+t1*e+t2*h)*u+(t0*c+t1*f)*v:=by
 have:=akf t0 t1 t2 a b c d e f g h 0 s u v;simp only [Gq.zero_mul,Gq.mul_zero,Gq.add_zero] at this;exact this
noncomputable def Rk (t0 t1 t2:Quo m):Nat→Nat→Quo m
 | 0=>e0
 | k+1=>Rop t0 t1 t2 (Rk t0 t1 t2 k)
noncomputable def aax (t0 t1 t2:Quo m):(Nat→Quo m)→Nat→Nat→Nat→Quo m
 | _,_,0,_=>0
 | c,k,n+1,i=>c 0*Rk t0 t1 t2 k i+aax t0 t1 t2 (fun j=>c (j+1)) (k+1) n i
end
noncomputable def af9 [IsP p] (m t0 t1 t2 a:Fp p) (n:Nat):Nat→List (Fp p)
 | 0=>[]
 | j+1=>zm 1 (qe m (af9 m t0 t1 t2 a n j) [t0,t1,t2]) (xv (Pol.C (a.c (n-1-j))) 0)
theorem a01 (c:Zp p):(Pol.C c).len≤1:=Pol.len_le fun i hi=>by
 cases i with
 | zero=>omega
 | succ i=>rfl
noncomputable def nmS [IsP p] (m x:Fp p):Nat→Fp p
 | 0=>1
 | i+1=>nmS m x i*oo m i x%m
end
end Pe
namespace Pe
open Go Gq
variable {T:Nat→Option Fn} {A:ap}
section
variable {p:Int}
noncomputable def frK [IsP p] (m d:Fp p):Int:=if (m.len-1)%2=1 then -inv p (rep ((nmS m d (m.len-1)).c 0)) else inv p (rep ((nmS m d (m.len-1)).c 0))
noncomputable def frB [IsP p] (m d:Fp p):Fp p:=Pol.C (zp p (frK m d))*m
noncomputable def frA [IsP p] (m g d:Fp p):Fp p:=cS (af9 m (Pol.X%m) g d (frB m d) (frB m d).len (frB m d).len) (m.len-1)
end
end Pe
namespace Pe
open Go Gq
section
variable {K:Type} [CR K]
theorem vi (f:Nat→K):∀n,dz f (n+1)=f 0+dz (fun i=>f (i+1)) n
 | 0=>by show 0+f 0=f 0+0; rw [Gq.add_zero,Gq.zero_add]
 | n+1=>by
  rw [dz,vi f n,dz];exact Gq.add_assoc _ _ _
theorem ku {f g:Nat→K}:∀{n:Nat},(∀i,i<n→f i=g i)→dz f n=dz g n
 | 0,_=>rfl
 | n+1,h=>by rw [dz,dz,ku fun i hi=>h i (by omega),h n (by omega)]
end
section
variable {p:Int} {m:Fp p}
theorem ag7 [IsP p]:sg 1 (0:Quo m)=0:=Ib 1
variable {t0 t1 t2:Quo m}
noncomputable def ac0 [IsP p] (f:Pol (Quo m)):Pol (Quo m):=⟨fun i=>sg 1 (f.c i),by
 obtain ⟨n,h⟩:=f.fin;exact ⟨n,fun i hi=>by rw [h i hi,ag7]⟩⟩
noncomputable def PQ [IsP p] (u v:Pol (Quo m)):Nat→Pol (Quo m)×Pol (Quo m)
 | 0=>(1,0)
 | j+1=>(u*ac0 (PQ u v j).2,ac0 (PQ u v j).1+v*ac0 (PQ u v j).2)
end
section
variable {p:Int}
theorem Pp [IsP p] {m:Fp p}:∀(k:Nat) (x y:Quo m),sg k (x+y)=sg k x+sg k y
 | 0,_,_=>rfl
 | k+1,x,y=>by
  show sg k (pw (x+y) p.toNat)=sg k (pw x p.toNat)+sg k (pw y p.toNat);rw [vk,Pp k]
theorem O5 {m:Fp p}:∀(k:Nat) (x y:Quo m),sg k (x*y)=sg k x*sg k y
 | 0,_,_=>rfl
 | k+1,x,y=>by
  show sg k (pw (x*y) p.toNat)=sg k (pw x p.toNat)*sg k (pw y p.toNat);rw [qx,O5 k]
theorem Mi [IsP p] {m:Fp p} (c:Zp p):∀k,sg k (Quo.mk m (Pol.C c))=Quo.mk m (Pol.C c)
 | 0=>rfl
 | k+1=>by
  show sg k (pw (Quo.mk m (Pol.C c)) p.toNat)=_;rw [←Quo.mk_pow,←a27,ye,Mi c k]
theorem Yd {m:Fp p} (i:Nat):∀(j:Nat) (x:Quo m),sg i (sg j x)=sg (i+j) x
 | 0,_=>rfl
 | j+1,x=>by
  show sg i (sg j (pw x p.toNat))=sg (i+j) (pw x p.toNat);exact Yd i j _
noncomputable def vq {m:Fp p} (X:Quo m):Nat→List (Fp p)→Quo m
 | _,[]=>0
 | i,c::cs=>Quo.mk m c*sg i X+vq X (i+1) cs
theorem a9o [IsP p] {m x:Fp p} (hm:Fld m) (hx:x.len<m.len):∀(i:Nat) (A:List (Fp p)) (out:Fp p),Quo.mk m (svI m x i A out)=Quo.mk m out+vq (Quo.mk m x) i A
 | i,[],out=>(Gq.add_zero _).symm
 | i,c::cs,out=>by
  show Quo.mk m (svI m x (i+1) cs (out+c*oo m (i%(m.len-1)) x%m))=_;rw [a9o hm hx (i+1) cs,Quo.mk_add,Pol.mk_mod,Quo.mk_mul,E5 hm i hx,Ye];exact Gq.add_assoc _ _ _
noncomputable def tq [IsP p] (m:Fp p) (A:List (Fp p)) (x:Fp p):Quo m:=Quo.mk m (svI m x 0 A 0)
theorem Av [IsP p] {m x:Fp p} (hm:Fld m) (hx:x.len<m.len) (A:List (Fp p)):tq m A x=vq (Quo.mk m x) 0 A:=by
 unfold tq;rw [a9o hm hx,Quo.mk_zero,Gq.zero_add]
theorem a4q [IsP p] {m:Fp p} (X Y:Quo m):∀(A:List (Fp p)) (i:Nat),vq (X+Y) i A=vq X i A+vq Y i A
 | [],_=>(Gq.add_zero _).symm
 | c::cs,i=>by
  show Quo.mk m c*sg i (X+Y)+vq (X+Y) (i+1) cs=(Quo.mk m c*sg i X+vq X (i+1) cs)+(Quo.mk m c*sg i Y+vq Y (i+1) cs);rw [Pp,a4q X Y cs];exact bj [Quo.mk m c,sg i X,sg i Y,vq X (i+1) cs,vq Y (i+1) cs] rfl
theorem Id [IsP p] {m:Fp p} (k:Zp p) (X:Quo m):∀(A:List (Fp p)) (i:Nat),vq (Quo.mk m (Pol.C k)*X) i A=Quo.mk m (Pol.C k)*vq X i A
 | [],_=>(Gq.mul_zero _).symm
 | c::cs,i=>by
  show Quo.mk m c*sg i (Quo.mk m (Pol.C k)*X)+vq (Quo.mk m (Pol.C k)*X) (i+1) cs=Quo.mk m (Pol.C k)*(Quo.mk m c*sg i X+vq X (i+1) cs);rw [O5,Mi,Id k X cs];exact bj [Quo.mk m c,Quo.mk m (Pol.C k),sg i X,vq X (i+1) cs] rfl
theorem a37 {m:Fp p} (X:Quo m) (v:Fp p):∀(Q:List (Fp p)) (i j:Nat),j<Q.length→vq X i (rg Q j v)=vq X i Q+Quo.mk m v*sg (i+j) X
 | [],_,_,h=>by simp at h
 | c::cs,i,0,_=>by
  show Quo.mk m (c+v)*sg i X+vq X (i+1) cs=Quo.mk m c*sg i X+vq X (i+1) cs+Quo.mk m v*sg (i+0) X;rw [Quo.mk_add,ew];exact bj [Quo.mk m c,Quo.mk m v,sg i X,vq X (i+1) cs] rfl
 | c::cs,i,j+1,h=>by
  have e:rg (c::cs) (j+1) v=c::rg cs j v:=rfl;rw [e];show Quo.mk m c*sg i X+vq X (i+1) (rg cs j v)=Quo.mk m c*sg i X+vq X (i+1) cs+Quo.mk m v*sg (i+(j+1)) X;rw [a37 X v cs (i+1) j (by simpa using h),show i+1+j=i+(j+1) by omega]
  exact (Gq.add_assoc _ _ _).symm
theorem Qn {m:Fp p} (X:Quo m):∀(n i:Nat),vq X i (List.replicate n (0:Fp p))=0
 | 0,_=>rfl
 | n+1,i=>by
  show Quo.mk m 0*sg i X+vq X (i+1) (List.replicate n 0)=0;rw [Qn X n,Quo.mk_zero,Gq.zero_mul,Gq.add_zero]
theorem Vc [IsP p] {m c:Fp p} (hm:Fld m) (X:Quo m) {i:Nat}:∀(b:List (Fp p)) (k:Nat) (Q:List (Fp p)),(∀y∈b,y.len<m.len)→i+k+b.length≤Q.length→vq X 0 (xc m c i k b Q)=vq X 0 Q+Quo.mk m c*sg i (vq X k b)
 | [],_,Q,_,_=>by
  show vq X 0 Q=vq X 0 Q+Quo.mk m c*sg i 0;rw [Ib,Gq.mul_zero,Gq.add_zero]
 | y::ys,k,Q,hb,h=>by
  rw [c7] at h;show vq X 0 (xc m c i (k+1) ys (rg Q (i+k) _))=vq X 0 Q+Quo.mk m c*sg i (Quo.mk m y*sg k X+vq X (k+1) ys);rw [Vc hm X ys (k+1) _ (fun z hz=>hb z (by simp [hz])) (by rw [Ec]; omega),a37 X _ Q 0 (i+k) (by omega),Pol.mk_mod,Quo.mk_mul,E5 hm i (hb y (by simp)),Ye,cd,Pp,O5,Yd]
  exact bj [vq X 0 Q,Quo.mk m c,sg i (Quo.mk m y),sg (i+k) X,sg i (vq X (k+1) ys)] rfl
theorem a39 [IsP p] {m c0 x:Fp p} (hm:Fld m) {A:List (Fp p)} (hA:∀y∈A,y.len<m.len) (hx:x.len<m.len) (h1:1≤A.length):tq m (qe m [c0,1] A) x=Quo.mk m c0*tq m A x+sg 1 (tq m A x):=by
 have h0:=hm.mon.2
 have e1:tq m (qe m [c0,1] A) x=tq m (Ds m [c0,1] A) x:=by
  unfold qe tq;rw [if_neg (by simp only [c7]; omega),a6h h0]
 rw [e1,Av hm hx,Av hm hx];show vq _ 0 (xc m 1 1 0 A (xc m c0 0 0 A (List.replicate ([c0,1].length+A.length-1) 0)))=_;have hl:(List.replicate ([c0,(1:Fp p)].length+A.length-1) (0:Fp p)).length=A.length+1:=by rw [d9]; simp only [c7,dw]; omega
 rw [Vc hm _ A 0 _ hA (by rw [tt]; omega),Vc hm _ A 0 _ hA (by omega),Qn,Gq.zero_add,Quo.mk_one,Gq.one_mul]
 rfl
theorem T3 [IsP p] {m:Fp p} (hm:Fld m) {A:List (Fp p)} {a b:Fp p} (ha:a.len<m.len) (hb:b.len<m.len) (hk:tq m A b=0):tq m A (elim b a)=tq m A a:=by
 have hl:(elim b a).len≤m.len-1:=yg (by omega) (by omega)
 rw [Av hm (by omega),Av hm ha]
 rw [Av hm hb] at hk;unfold elim;rw [Quo.mk_add,Quo.mk_mul,a4q,Id,hk,Gq.mul_zero,Gq.add_zero]
theorem Og [IsP p] {m:Fp p} (hm:Fld m) {A:List (Fp p)}:∀(L:List (Fp p)) (x:Fp p),(∀b∈L,b.len<m.len∧tq m A b=0)→x.len<m.len→tq m A (fq L x)=tq m A x
 | [],_,_,_=>rfl
 | b::bs,x,h,hx=>by
  have hb:=h b (by simp)
  have hl:(elim b x).len≤m.len-1:=yg (by omega) (by omega)
  show tq m A (fq bs (elim b x))=_;rw [Og hm bs (elim b x) (fun c hc=>h c (by simp [hc])) (by omega),T3 hm hx hb.1 hb.2]
theorem T0 [IsP p] {m:Fp p} (hm:Fld m) {A:List (Fp p)} {x:Fp p} (hx:x.len<m.len) (k:Zp p) (hk:tq m A x=0):tq m A (Pol.C k*x)=0:=by
 have hl:(Pol.C k*x).len<m.len:=by
  have h2:=hm.two;have:(Pol.C k*x).len≤m.len-1:=Pol.len_le fun j hj=>by rw [Pol.c_Cmul,jt (by omega),Gq.mul_zero]
  omega
 rw [Av hm hl,Quo.mk_mul,Id,←Av hm hx,hk,Gq.mul_zero]
theorem Sc (a:Fp p) (L:List (Fp p)):(zu a L).length=L.length+1:=by
 rw [(uu a L).length_eq,bu,ba]; rfl
noncomputable def lsC [IsP p] (m v:Fp p):Fp p:=Pol.C (zp p (-1))*(oo m 1 v*Ae m v%m)
noncomputable def lsN [IsP p] (m:Fp p) (A:List (Fp p)) (x:Fp p):List (Fp p):=if (svI m x 0 A 0).len=0 then A else qe m [lsC m (svI m x 0 A 0),1] A
noncomputable def lsS [IsP p] (m:Fp p):List (Fp p)→List (Fp p)→List (Fp p)
 | [],A=>A
 | x::xs,A=>lsS m xs (lsN m A x)
theorem a8e [IsP p] {m v:Fp p} (hm:Fld m):(lsC m v).len<m.len:=by
 have h1:=Pol.len_mod (oo m 1 v*Ae m v) hm.mon.2;have:(lsC m v).len≤m.len-1:=Pol.len_le fun j hj=>by unfold lsC; rw [Pol.c_Cmul,jt (by omega),Gq.mul_zero]
 omega
theorem aff [IsP p] {m v:Fp p} (hm:Fld m) (hv:v≠0) (hvl:v.len<m.len):Quo.mk m (lsC m v)*Quo.mk m v+sg 1 (Quo.mk m v)=0:=by
 have hi:=Od hm hv hvl;unfold lsC;rw [Quo.mk_mul,Pol.mk_mod,Quo.mk_mul,Ye,A8,Ci,Pol.C_neg,Pol.C_one,Quo.mk_neg,Quo.mk_one];have e:-1*(sg 1 (Quo.mk m v)*Quo.mk m (Ae m v))*Quo.mk m v+sg 1 (Quo.mk m v)=sg 1 (Quo.mk m v)*(1-Quo.mk m (Ae m v)*Quo.mk m v):=bj [sg 1 (Quo.mk m v),Quo.mk m (Ae m v),Quo.mk m v] rfl;rw [e,hi];exact bj [sg 1 (Quo.mk m v)] rfl
structure LsI [IsP p] (m:Fp p) (A:List (Fp p)):Prop where
 trim:wy A
 res:∀c∈A,c.len<m.len
 ex:∃L:List (Fp p),Desc (m.len-1) L∧(∀b∈L,tq m A b=0)∧A.length=L.length+1
theorem LsI.len [IsP p] {m:Fp p} {A:List (Fp p)} (hm:Fld m) (h:LsI m A):1≤A.length∧A.length≤5:=by
 obtain ⟨L,h1,_,h3⟩:=h.ex;have:=h1.length;have h5:=hm.five;have h2:=hm.two;omega
theorem LsI.one [IsP p] {m:Fp p} (hm:Fld m):LsI m (xv (1:Fp p) 0):=⟨(a3y hm).trim,(a3y hm).res,[],Desc.nil _,(fun b hb=>by cases hb),by rw [s9]; rfl⟩
theorem a4z [IsP p] (c:Fp p):wy [c,(1:Fp p)]:=fun n hn=>by
 have:n=1:=by simp at hn; omega
 subst this;exact Xz
theorem a87 [IsP p] {m c:Fp p} (hm:Fld m) (hc:c.len<m.len):∀y∈[c,(1:Fp p)],y.len<m.len:=fun y hy=>by
 have h2:=hm.two;have:(1:Fp p).len=1:=Pol.len_one;simp at hy;rcases hy with rfl | rfl <;> omega
theorem LsI.next [IsP p] {m x:Fp p} {A:List (Fp p)} (hm:Fld m) (h:LsI m A) (hx:x.len<m.len):LsI m (lsN m A x):=by
 have h0:=hm.mon.2;have h2:=hm.two;unfold lsN
 by_cases hv:(svI m x 0 A 0).len=0
 ·rw [if_pos hv]; exact h
 ·rw [if_neg hv]
  obtain ⟨L,hL,hK,hlen⟩:=h.ex;have hvl:(svI m x 0 A 0).len<m.len:=Xy h0 0 A 0 (by rw [Pol.len_zero]; omega)
  have hv0:svI m x 0 A 0≠0:=fun h=>hv (by rw [h,Pol.len_zero])
  have hcl:=a8e (v:=svI m x 0 A 0) hm;have hLl:∀b∈L,b.len<m.len:=fun b hb=>by have:=hL.le b hb; omega
  have step:∀y:Fp p,y.len<m.len→tq m (qe m [lsC m (svI m x 0 A 0),1] A) y=Quo.mk m (lsC m (svI m x 0 A 0))*tq m A y+sg 1 (tq m A y):=fun y hy=>a39 hm h.res hy (by omega)
  have kill:∀y:Fp p,y.len<m.len→tq m A y=0→tq m (qe m [lsC m (svI m x 0 A 0),1] A) y=0:=fun y hy hk=>by
   rw [step y hy,hk,Gq.mul_zero,Ib,Gq.add_zero]
  have killx:tq m (qe m [lsC m (svI m x 0 A 0),1] A) x=0:=by
   rw [step x hx];exact aff hm hv0 hvl
  have hr:fq L x≠0:=fun hz=>by
   have e:=Og (A:=A) hm L x (fun b hb=>⟨hLl b hb,hK b hb⟩) hx
   rw [hz] at e
   have e2:tq m A (0:Fp p)=0:=by
    have:=T0 (A:=A) hm (x:=0) (by rw [Pol.len_zero]; omega)
    rw [Av hm (by rw [Pol.len_zero]; omega)]
    have h3:=Id (m:=m) (0:Zp p) (0:Quo m) A 0;rw [Gq.mul_zero] at h3;rw [Quo.mk_zero,h3];have:Quo.mk m (Pol.C (0:Zp p))=0:=by rw [Pol.C_zero]; rfl
    rw [this,Gq.zero_mul]
   rw [e2] at e;have e3:=(Pol.mod_eq_iff h0).2 (show Quo.mk m (svI m x 0 A 0)=Quo.mk m 0 from e.symm);rw [Pol.mod_small hvl,Pol.zero_mod h0] at e3;exact hv0 e3
  have hrl:(fq L x).len≤m.len-1:=Ht hL.le (by omega)
  have hml:=wo hr
  have killr:tq m (qe m [lsC m (svI m x 0 A 0),1] A) (Gq.mon (fq L x))=0:=by
   refine T0 hm (by omega) _ ?_
   rw [Og hm L x (fun b hb=>⟨hLl b hb,kill b (hLl b hb) (hK b hb)⟩) hx]
   exact killx
  refine ⟨wl _ _ _,fun c hc=>by have:=wn (N:=m.len-1) h0 (by omega) c hc; omega,Ab L x,M8 hL (by omega),fun b hb=>?_,?_⟩
  ·rw [yl hr] at hb
   rcases A0 hb with rfl | ⟨c,hc,rfl⟩
   ·exact killr
   ·have hcl':=hLl c hc
    rw [T3 hm hcl' (by omega) killr]
    exact kill c hcl' (hK c hc)
  ·rw [yl hr,Sc,a1r hm (a4z _) h.trim (a87 hm hcl) h.res (by simp) (by omega)]
   simp only [c7,dw];omega
theorem LsI.all [IsP p] {m:Fp p} (hm:Fld m):∀(xs A:List (Fp p)),LsI m A→(∀x∈xs,x.len<m.len)→LsI m (lsS m xs A)
 | [],_,h,_=>h
 | x::xs,A,h,hx=>LsI.all hm xs _ (h.next hm (hx x (by simp))) fun y hy=>hx y (by simp [hy])
end
end Pe
namespace Pe
open Go Gq
variable {T:Nat→Option Fn} {A:ap}
end Pe


/-
 Functions of the laws in the small form,printed by a program.
-/
namespace Pe
open Go
abbrev Ff:Nat:=1122
end Pe
namespace Pe
open Go Gq
variable {T:Nat→Option Fn} {A:ap}
section
variable {p:Int} [IsP p]
end
section
variable {p:Int} [IsP p]
end
section
variable {p:Int} [IsP p]
end
end Pe

namespace Gq
section
variable {K:Type} [CR K]
abbrev Rw (K:Type):=Nat→K
def tlR (r:Rw K):Rw K:=fun k=>r (k+1)
def adR (u:Rw K) (c:K) (v:Rw K):Rw K:=fun k=>u k+c*v k
@[simp] theorem ajm (u:Rw K) (c:K) (v:Rw K):tlR (adR u c v)=adR (tlR u) c (tlR v):=rfl
end
end Gq

namespace Pe
open Go Gq
variable {T:Nat→Option Fn} {A:ap}
section
variable {p:Int} [IsP p]
theorem jg (k:Zp p) (a:Fp p):(Pol.C k*a).len≤a.len:=by
 by_cases h:k=0
 ·rw [h,show Pol.C (0:Zp p)=(0:Fp p) from Pol.ext fun i=>by cases i <;> rfl,show (0:Fp p)*a=0 from bj [a] rfl,Pol.len_zero]; omega
 ·rw [Pol.len_Cmul h]; exact bh _
end
section
variable {p:Int}
end
section
variable {p:Int} [IsP p]
end
section
variable {p:Int}
end
section
variable {p:Int} [IsP p]
end
section
variable {p:Int}
end
section
variable {p:Int} [IsP p]
end
section
variable {p:Int}
end
section
variable {p:Int} [IsP p]
end
end Pe
namespace Pe
open Go Gq
section
variable {p:Int}
structure Lin (f:Fp p→Fp p):Prop where
 add:∀x y,f (x+y)=f x+f y
 mul:∀(k:Zp p) x,f (Pol.C k*x)=Pol.C k*f x
theorem Lin.zero {f:Fp p→Fp p} (h:Lin f):f 0=0:=by
 have:=h.mul 0 0
 rwa [Pol.C_zero,Gq.zero_mul,Gq.zero_mul] at this
theorem Lin.neg {f:Fp p→Fp p} (h:Lin f) (x:Fp p):f (-x)=-f x:=by
 have e:=h.mul (-1) x;have e1:Pol.C (-1:Zp p)=-1:=by rw [Pol.C_neg]; rfl
 rw [e1,show (-1:Fp p)*x=-x from bj [x] rfl,show (-1:Fp p)*f x=-f x from bj [f x] rfl] at e;exact e
theorem Lin.sub {f:Fp p→Fp p} (h:Lin f) (x y:Fp p):f (x-y)=f x-f y:=by
 rw [Gq.sub_eq,h.add,h.neg,←Gq.sub_eq]
variable [IsP p]
structure MinR (ev:Fp p→Fp p) (f:Fp p):Prop where
 mon:Monic f
 zero:ev f=0
 least:∀g:Fp p,g.len<f.len→ev g=0→g=0
theorem MinR.one {ev:Fp p→Fp p} (hl:Lin ev) {f g:Fp p} (hf:MinR ev f) (hg:MinR ev g):f=g:=by
 have h1:¬ f.len<g.len:=fun h=>hf.mon.2 (hg.least f h hf.zero)
 have h2:¬ g.len<f.len:=fun h=>hg.mon.2 (hf.least g h hg.zero)
 have e:f.len=g.len:=by omega
 have hp:=Pol.len_pos hf.mon.2
 have hd:f-g=0:=hf.least (f-g) (by
  have hle:(f-g).len≤f.len-1:=Pol.len_le fun i hi=>by
   rw [Pol.c_sub]
   by_cases hi':i=f.len-1
   ·have e1:f.c i=1:=by rw [hi']; exact hf.mon.1
    have e2:g.c i=1:=by rw [hi',e]; exact hg.mon.1
    rw [e1,e2]; exact Gq.sub_self _
   ·rw [jt (by omega),jt (by omega)]; exact Gq.sub_self _
  omega) (by rw [hl.sub,hf.zero,hg.zero]; exact Gq.sub_self _)
 have:f=f-g+g:=bj [f,g] rfl;rw [this,hd,Gq.zero_add]
end
section
variable {p:Int} [IsP p]
noncomputable def rlC (v b:Fp p):Int:=-rep (v.c (b.len-1))*inv p (rep b.ld)
noncomputable def rlS (v o b t:Fp p):Fp p×Fp p:=(v+Pol.C (zp p (rlC v b))*b,o+Pol.C (zp p (rlC v b))*t)
noncomputable def rlL:List (Fp p)→List (Fp p)→Fp p→Fp p→Fp p×Fp p
 | b::ks,t::ts,v,o=>rlL ks ts (rlS v o b t).1 (rlS v o b t).2
 | _,_,v,o=>(v,o)
theorem a6a {v b:Fp p} (hb:b≠0):(v+Pol.C (zp p (rlC v b))*b).c (b.len-1)=0:=by
 rw [Pol.c_add,Pol.c_Cmul];show v.c (b.len-1)+zp p (rlC v b)*b.ld=0;have hl:=Pol.ld_ne hb
 have e:zp p (rlC v b)=-v.c (b.len-1)*Fd.inv b.ld:=by
  unfold rlC;rw [B5,ry _ hl,A8,jq]
 rw [e,Gq.mul_assoc,Gq.mul_comm (Fd.inv b.ld),Fd.mul_inv _ hl];exact bj [v.c (b.len-1)] rfl
theorem Jz (v b:Fp p):-1000≤rlC v b∧rlC v b≤1000:=by
 have hp:=IsP.le (p:=p);have h1:=gr (v.c (b.len-1));have h2:=vd p (rep b.ld);unfold rlC;have h3:rep (v.c (b.len-1))*inv p (rep b.ld)≤7*7:=Int.mul_le_mul (by omega) (by omega) (by omega) (by omega)
 have h4:0≤rep (v.c (b.len-1))*inv p (rep b.ld):=fw (by omega) (by omega)
 rw [Int.neg_mul];omega
structure RelI (ev:Fp p→Fp p) (d k:Nat) (ks ts:List (Fp p)):Prop where
 src:ks=ts.map ev
 dec:ks.Pairwise fun a b=>b.len<a.len
 nz:∀b∈ks,b≠0∧b.len≤d
 tl:∀t∈ts,t.len≤k
 sp:∀h:Fp p,h.len≤k→Spn ks (ev h)
 ind:∀h:Fp p,h.len≤k→ev h=0→h=0
 cnt:ks.length=k
end
section
variable {p:Int}
theorem RelI.nil {ev:Fp p→Fp p} (hl:Lin ev) (d:Nat):RelI ev d 0 [] [] where
 src:=rfl
 dec:=.nil
 nz:=fun b hb=>(List.not_mem_nil hb).elim
 tl:=fun b hb=>(List.not_mem_nil hb).elim
 sp:=fun h hh=>by rw [Pol.len_zero_iff.1 (Nat.le_zero.1 hh),hl.zero]; exact .zero
 ind:=fun h hh _=>Pol.len_zero_iff.1 (by omega)
 cnt:=rfl
end
section
variable {p:Int} [IsP p]
end
section
variable {p:Int}
theorem Eu:∀{d:Nat} {ks:List (Fp p)},ks.Pairwise (fun a b=>b.len<a.len)→(∀b∈ks,b≠0∧b.len≤d)→ks.length≤d
 | _,[],_,_=>kf _
 | d,b::ks,hd,hn=>by
  obtain ⟨h1,h2⟩:=dh.1 hd;obtain ⟨h3,h4⟩:=hn b (by simp)
  have hp:=Pol.len_pos h3;have:=Eu (d:=b.len-1) h2 fun c hc=>⟨(hn c (by simp [hc])).1,by have:=h1 c hc; omega⟩
  rw [c7]; omega
end
section
variable {p:Int} [IsP p]
theorem Q6 {ev:Fp p→Fp p} (hl:Lin ev) {d k:Nat}:∀(ts:List (Fp p)) (v o:Fp p),((ts.map ev).Pairwise fun a b=>b.len<a.len)→(∀b∈ts.map ev,b≠0∧b.len≤d)→(∀t∈ts,t.len≤k)→v.len≤d→o.len≤k+1→o.c k=1→ev o=v →
 let r:=rlL (ts.map ev) ts v o
 r.1.len≤d∧r.2.len≤k+1∧r.2.c k=1∧ev r.2=r.1∧(∀b∈ts.map ev,r.1.c (b.len-1)=0)∧(∀i,(∀b∈ts.map ev,b.len≤i)→r.1.c i=v.c i)
 | [],v,o,_,_,_,h1,h2,h3,h4=>⟨h1,h2,h3,h4,fun b hb=>(List.not_mem_nil hb).elim,fun _ _=>rfl⟩
 | t::ts,v,o,hd,hn,ht,h1,h2,h3,h4=>by
  rw [db] at hd hn;obtain ⟨d1,d2⟩:=dh.1 hd;obtain ⟨n1,n2⟩:=hn (ev t) (by simp)
  have tk:=ht t (by simp)
  have hz:=a6a (v:=v) n1
  have ih:=Q6 hl ts (v+Pol.C (zp p (rlC v (ev t)))*ev t) (o+Pol.C (zp p (rlC v (ev t)))*t) d2 (fun b hb=>hn b (by simp [hb])) (fun s hs=>ht s (by simp [hs]))
   (Pol.len_add_le h1 (du (jg _ _) n2)) (Pol.len_add_le h2 (du (jg _ _) (by omega)))
   (by rw [Pol.c_add,Pol.c_Cmul,jt tk,Gq.mul_zero,Gq.add_zero]; exact h3) (by rw [hl.add,hl.mul,h4])
  obtain ⟨i1,i2,i3,i4,i5,i6⟩:=ih;refine ⟨i1,i2,i3,i4,fun b hb=>?_,fun i hi=>?_⟩
  ·rw [db] at hb
   rcases cn.1 hb with rfl | hb
   ·have hp:=Pol.len_pos n1
    have:=i6 ((ev t).len-1) fun c hc=>by have:=d1 c hc; omega
    exact this.trans hz
   ·exact i5 b hb
  ·rw [db] at hi
   have e1:=i6 i fun c hc=>hi c (by simp [hc])
   refine e1.trans ?_;rw [Pol.c_add,Pol.c_Cmul,jt (hi (ev t) (by simp)),Gq.mul_zero,Gq.add_zero]
theorem Tc:∀{ks:List (Fp p)} {y:Fp p},ks.Pairwise (fun a b=>b.len<a.len)→(∀b∈ks,b≠0)→Spn ks y→(∀b∈ks,y.c (b.len-1)=0)→y=0
 | [],y,_,_,hs,_=>by
  refine Spn.inside (S:=fun y=>y=0) rfl (fun k a b ha hb=>by rw [ha,hb,Gq.mul_zero,Gq.add_zero]) (fun a ha=>by cases ha) hs
 | b::ks,y,hd,hn,hs,hz=>by
  obtain ⟨d1,d2⟩:=dh.1 hd;have hb0:=hn b (by simp)
  have hbp:=Pol.len_pos hb0
  obtain ⟨k,z,hz1,rfl⟩:∃(k:Zp p) (z:Fp p),Spn ks z∧y=Pol.C k*b+z:=by
   refine Spn.inside (S:=fun y=>∃(k:Zp p) (z:Fp p),Spn ks z∧y=Pol.C k*b+z) ⟨0,0,.zero,by rw [Pol.C_zero,Gq.zero_mul,Gq.zero_add]⟩ ?_ ?_ hs
   ·rintro k _ _ ⟨k1,z1,s1,rfl⟩ ⟨k2,z2,s2,rfl⟩
    refine ⟨k*k1+k2,Pol.C k*z1+z2,(s1.smul k).add s2,?_⟩;rw [Pol.C_add,Pol.C_mul];exact bj [Pol.C k,Pol.C k1,Pol.C k2,b,z1,z2] rfl
   ·intro a ha
    rcases cn.1 ha with rfl | ha
    ·exact ⟨1,0,.zero,by rw [show Pol.C (1:Zp p)=1 from rfl,Gq.one_mul,Gq.add_zero]⟩
    ·exact ⟨0,a,.mem ha,by rw [Pol.C_zero,Gq.zero_mul,Gq.zero_add]⟩
  have hzl:z.len≤b.len-1:=by
   refine Spn.inside (S:=fun y=>y.len≤b.len-1) (by rw [Pol.len_zero]; omega) (fun k x w hx hw=>Pol.len_add_le (du (jg _ _) hx) hw) (fun a ha=>by have:=d1 a ha; omega) hz1
  have hk:k=0:=by
   have e:=hz b (by simp)
   rw [Pol.c_add,Pol.c_Cmul,jt hzl,Gq.add_zero] at e;rcases Fd.zero_or e with h | h
   ·exact h
   ·exact absurd h (Pol.ld_ne hb0)
  subst hk;rw [Pol.C_zero,Gq.zero_mul,Gq.zero_add] at hz ⊢;exact Tc d2 (fun c hc=>hn c (by simp [hc])) hz1 fun c hc=>hz c (by simp [hc])
theorem RelI.found {ev:Fp p→Fp p} {d k:Nat} {ks ts:List (Fp p)} (h:RelI ev d k ks ts) {o:Fp p} (h1:o.len≤k+1) (h2:o.c k=1) (h3:ev o=0):MinR ev o∧o.len=k+1:=by
 have hne:o.c k≠0:=by rw [h2]; exact Fd.one_ne
 have hlen:o.len=k+1:=by
  have:¬ o.len≤k:=fun g=>hne (jt g)
  omega
 have hon:o≠0:=fun g=>hne (by rw [g]; rfl)
 exact ⟨⟨⟨by unfold Pol.ld; rw [hlen,Nat.add_sub_cancel]; exact h2,hon⟩,h3,fun g hg hz=>h.ind g (by omega) hz⟩,hlen⟩
theorem RelI.next {ev:Fp p→Fp p} (hl:Lin ev) {d k:Nat} {ks ts:List (Fp p)} (h:RelI ev d k ks ts) {v o:Fp p} (h1:o.len≤k+1) (h2:o.c k=1) (h3:ev o=v) (hv:v≠0) (hvl:v.len≤d) (hz:∀b∈ks,v.c (b.len-1)=0) {n:Nat} (hn:n≤k)
 (ha:∀b∈ks.take n,¬ b.len<v.len) (hb:∀b∈ks.drop n,b.len<v.len):RelI ev d (k+1) (ks.take n++v::ks.drop n) (ts.take n++o::ts.drop n):=by
 have hmem:∀b,b∈ks.take n++v::ks.drop n↔b=v∨b∈ks:=fun b=>by
  rw [bn,cn];constructor
  ·rintro (g | g | g)
   ·exact .inr (gy g)
   ·exact .inl g
   ·exact .inr (List.mem_of_mem_drop g)
  ·rintro (g | g)
   ·exact .inr (.inl g)
   ·rw [←gh n ks,bn] at g
    rcases g with g | g
    ·exact .inl g
    ·exact .inr (.inr g)
 have hne:∀b∈ks,b.len≠v.len:=fun b hbm e=>by
  have:=hz b hbm;rw [e] at this;exact Pol.ld_ne hv this
 have hsp:∀g:Fp p,g.len≤k+1→∃(c:Zp p) (g':Fp p),g'.len≤k∧g=Pol.C c*o+g':=fun g hg=>by
  refine ⟨g.c k,g-Pol.C (g.c k)*o,Pol.len_le fun i hi=>?_,?_⟩
  ·rw [Pol.c_sub,Pol.c_Cmul]
   by_cases hik:i=k
   ·rw [hik,h2,Gq.mul_one]; exact Gq.sub_self _
   ·rw [jt (show g.len≤i by omega),jt (show o.len≤i by omega),Gq.mul_zero]; exact Gq.sub_self _
  ·exact bj [g,Pol.C (g.c k),o] rfl
 have sup:∀{y},Spn ks y→Spn (ks.take n++v::ks.drop n) y:=fun hy=>Spn.sup (fun a ha=>.mem ((hmem a).2 (.inr ha))) hy
 refine ⟨?_,?_,fun b hbm=>?_,fun t ht=>?_,fun g hg=>?_,fun g hg h0=>?_,?_⟩
 ·rw [di,db,h3,List.map_take,List.map_drop,←h.src]
 ·have hd:=h.dec
  rw [←gh n ks,fo] at hd;obtain ⟨p1,p2,p3⟩:=hd;rw [fo,dh];refine ⟨p1,⟨fun b hbm=>hb b hbm,p2⟩,fun a ham b hbm=>?_⟩
  rcases cn.1 hbm with rfl | hbm
  ·have:=ha a ham
   have:=hne a (gy ham);omega
  ·exact p3 a ham b hbm
 ·rcases (hmem b).1 hbm with rfl | hbm
  ·exact ⟨hv,hvl⟩
  ·exact h.nz b hbm
 ·rcases bn.1 ht with g | g
  ·have:=h.tl t (gy g); omega
  ·rcases cn.1 g with rfl | g
   ·exact h1
   ·have:=h.tl t (List.mem_of_mem_drop g); omega
 ·obtain ⟨c,g',hg',rfl⟩:=hsp g hg
  rw [hl.add,hl.mul,h3];exact ((Spn.mem ((hmem v).2 (.inl rfl))).smul c).add (sup (h.sp g' hg'))
 ·obtain ⟨c,g',hg',rfl⟩:=hsp g hg
  rw [hl.add,hl.mul,h3] at h0
  have hc:c=0:=by
   refine dj fun hc=>hv ?_
   have e:v=Pol.C (Fd.inv c) * -ev g':=by
    have e1:-ev g'=Pol.C c*v:=by
     have:-ev g'=Pol.C c*v-(Pol.C c*v+ev g'):=bj [ev g',Pol.C c*v] rfl;rw [this,h0];exact bj [Pol.C c*v] rfl
    rw [e1,←Gq.mul_assoc,←Pol.C_mul,Gq.mul_comm (Fd.inv c),Fd.mul_inv _ hc,show Pol.C (1:Zp p)=1 from rfl,Gq.one_mul]
   refine Tc h.dec (fun b hbm=>(h.nz b hbm).1) ?_ hz
   rw [e];exact (h.sp g' hg').neg.smul _
  subst hc;rw [Pol.C_zero,Gq.zero_mul,Gq.zero_add] at h0 ⊢;exact h.ind g' hg' h0
 ·rw [bu,c7,bv,ej,h.cnt]; omega
end
end Pe
namespace Pe
open Go Gq
variable {T:Nat→Option Fn} {A:ap}
abbrev Wi (code:List Int) (at_:Nat) (h:Int):Blk:=.box false (.st [.leaf,.leaf,.leaf] [.sl .leaf (af .u8 code),.int .i64 at_,.int .u64 h])
def Src (b:Blk):Prop:=∃(code:List Int) (at_:Nat) (h:Int),b=Wi code at_ h∧at_≤code.length∧code.length≤1099511627776∧gw code
theorem a4n {n:Nat} (h:n≤16777215):IntKind.u64.wrap (n:Int)=n:=by
 simp [IntKind.wrap,IntKind.bits,IntKind.signed]; omega
theorem a73 (x:Int):0≤a15 .u64 x 16777215∧a15 .u64 x 16777215≤16777215:=by
 have h1:(BitVec.ofInt 64 x &&& BitVec.ofInt 64 16777215).toNat≤16777215:=by
  rw [BitVec.toNat_and];exact Nat.and_le_right
 have h2:a15 .u64 x 16777215=((BitVec.ofInt 64 x &&& BitVec.ofInt 64 16777215).toNat:Int):=a4n h1;rw [h2];omega
theorem a9e:(2:Int)^min 33 IntKind.u64.bits=8589934592:=rfl
def uc (O:ap) (F:Nat):Prop:=∀(b:Blk) (n:Int),Src b→n≤4611686018427387904→∃(x:Int) (b':Blk),O F [.ptr 0 [],(.d (.int .i64 n))] [b]=some ((.d (.int .i64 x)),[b'],[])∧Src b'∧0≤x∧(x<n∨x=0)
theorem abb (hT:T F3w=some Z3w):uc (den T A) F3w:=by
 rintro b n ⟨code,k,h,rfl,hk,hc,hb⟩ hn
 by_cases h1:n<1
 ·refine ⟨0,_,iw hT rfl ?_,⟨code,k,h,rfl,hk,hc,hb⟩,u6 _,.inr rfl⟩
  simp -implicitDefEqProofs [Z3w,Z3w_B,aw,h1]
 ·obtain ⟨hh,hhh⟩:∃hh:Int,IntKind.u64.wrap (IntKind.u64.wrap (h*6364136223846793005)+1442695040888963407)=hh:=⟨_,rfl⟩
  have hx:=a73 (hh.fdiv 8589934592);obtain ⟨x,hX⟩:∃x:Int,a15 .u64 (hh.fdiv 8589934592) 16777215=x:=⟨_,rfl⟩;rw [hX] at hx;have w0:IntKind.i64.wrap x=x:=w64 (by omega)
  have hn0:¬ n=0:=by omega
  have tm:∀y:Int,0≤y→0≤y.tmod n∧y.tmod n<n:=fun y hy=>by
   rw [ee hy];exact ⟨ep _ hn0,dl _ (by omega)⟩
  by_cases h2:k<code.length
  ·have hbk:=hb _ (ci h2)
   have h2':(k:Int)<code.length:=by omega
   have w1:IntKind.i64.wrap code[k]=code[k]:=w64 (by omega)
   have w2:IntKind.i64.wrap (x+code[k])=x+code[k]:=w64 (by omega)
   have w3:IntKind.i64.wrap ((k:Int)+1)=((k+1:Nat):Int):=(w64 (x:=(k:Int)+1) (by omega)).trans (by omega)
   obtain ⟨t1,t2⟩:=tm (x+code[k]) (by omega)
   refine ⟨(x+code[k]).tmod n,Wi code (k+1) hh,iw hT rfl ?_,⟨code,k+1,hh,rfl,by omega,hc,hb⟩,t1,.inl t2⟩
   simp -implicitDefEqProofs [Z3w,Z3w_B,aw,yd,a9e,h1,hn0,h2,h2',hhh,hX,w0,w1,w2,w3]
  ·have h2':¬ (k:Int)<code.length:=by omega
   obtain ⟨t1,t2⟩:=tm x (by omega)
   refine ⟨x.tmod n,Wi code k hh,iw hT rfl ?_,⟨code,k,hh,rfl,hk,hc,hb⟩,t1,.inl t2⟩;simp -implicitDefEqProofs [Z3w,Z3w_B,aw,yd,a9e,h1,hn0,h2',hhh,hX,w0]
theorem a2s {O:ap} {code:List Int} (hc:code.length≤4096) (hb:gw code):∀(r i:Nat) (h:Int),i+r=code.length→∃h':Int,
 dn O 0 (.loop Z3n_L0) ⟨[(0,.d (.sl .leaf (af .u8 code))),(3,.ptr 0 []),(4,(.d (.int .i64 i)))],[Wi code 0 h]⟩ =
  some (.exit 0,⟨[(0,.d (.sl .leaf (af .u8 code))),(3,.ptr 0 []),(4,(.d (.int .i64 code.length))),(19,(.d (.bool false)))],[Wi code 0 h']⟩)
 | 0,i,h,hi=>by
  obtain rfl:i=code.length:=by omega
  refine ⟨h,cm ?_⟩;simp -implicitDefEqProofs [Z3n_L0,aw]
 | r+1,i,h,hi=>by
  have hlt:i<code.length:=by omega
  have hlt':(i:Int)<code.length:=by omega
  have hq:(i:Int)<4096:=by omega
  have hbk:=hb _ (ci hlt);have w4:IntKind.i64.wrap ((i:Int)+1)=((i+1:Nat):Int):=(w64 (x:=(i:Int)+1) (by omega)).trans (by omega)
  obtain ⟨h2,hh2⟩:∃h2:Int,IntKind.u64.wrap (IntKind.u64.wrap (IntKind.u64.wrap (h*1099511628211)+IntKind.u64.wrap code[i])+61)=h2:=⟨_,rfl⟩;obtain ⟨h',ih⟩:=a2s hc hb r (i+1) h2 (by omega)
  refine ⟨h',cg ?_ ih⟩;simp -implicitDefEqProofs [Z3n_L0,aw,hlt,hlt',hq,w4,hh2]
def Jm (O:ap):Prop:=∀code:List Int,gw code→code.length≤4096→∃b:Blk,O F3n [.d (.sl .leaf (af .u8 code))] []=some (.ptr 0 [],[],[b])∧Src b
theorem aa6 (hT:T F3n=some Z3n):Jm (den T A):=by
 intro code hb hc;obtain ⟨h0,hh0⟩:∃h0:Int,IntKind.u64.wrap (12251+IntKind.u64.wrap (code.length:Int))=h0:=⟨_,rfl⟩;obtain ⟨h',e⟩:=a2s (O:=den T A) hc hb code.length 0 h0 (cd _);rw [show ((0:Nat):Int)=0 from rfl,show Wi code 0 h0=.box false (.st [.leaf,.leaf,.leaf] [.sl .leaf (af .u8 code),.int .i64 0,.int .u64 h0]) from rfl] at e;refine ⟨Wi code 0 h',iw hT rfl ?_,⟨code,0,h',rfl,kf _,by omega,hb⟩⟩
 simp -implicitDefEqProofs [Z3n,Z3n_B,hh0,e,List.idxOf,List.findIdx,List.findIdx.go]
def Iz (O:ap):Prop:=∀(b:Blk) (l:List Int) (n:Nat) (cp:Option Nat),Src b→l.length=n→0<n→n≤100→∃(x:Int) (b':Blk),O F3z [.ptr 0 [],.sl 1 [] 0 n cp] [b,.sl false .leaf (af .i64 l)]=some ((.d (.int .i64 x)),[b',.sl false .leaf (af .i64 l)],[])∧Src b'∧x∈l
theorem aa4 (hT:T F3z=some Z3z) (hn:uc (den T A) F3w):Iz (den T A):=by
 rintro b l n cp hs hl hpos hm
 obtain ⟨x,b',e,hs',h0,h1⟩:=hn b n hs (by omega)
 obtain ⟨k,rfl⟩:∃k:Nat,x=k:=⟨x.toNat,by omega⟩
 have hk:k<n:=by omega
 have hkl:k<l.length:=by omega
 obtain ⟨c,a,h,rfl,_⟩:=id hs;obtain ⟨c',a',h',rfl,_⟩:=id hs';refine ⟨l[k],_,iw hT rfl ?_,hs',ci hkl⟩;simp -implicitDefEqProofs [Z3z,Z3z_B,e,hk,hl,List.idxOf,List.findIdx,List.findIdx.go]
def zz (O:ap):Prop:=∀b:Blk,Src b→∃(p:Int) (b':Blk),O F3m [.ptr 0 []] [b]=some ((.d (.int .i64 p)),[b'],[])∧Src b'∧IsP p
theorem Qk (hT:T F3m=some Z3m) (hp:Iz (den T A)):zz (den T A):=by
 intro b hs;obtain ⟨x,b',e,hs',hx⟩:=hp b [2,2,3,3,5,7] 6 (some 6) hs rfl (by omega) (by omega)
 rw [show af .i64 [2,2,3,3,5,7]=[.int .i64 2,.int .i64 2,.int .i64 3,.int .i64 3,.int .i64 5,.int .i64 7] from rfl] at e;obtain ⟨c,a,h,rfl,_⟩:=id hs;obtain ⟨c',a',h',rfl,_⟩:=id hs';refine ⟨x,_,iw hT rfl ?_,hs',⟨by simp at hx; omega⟩⟩
 simp -implicitDefEqProofs [Z3m,Z3m_B,e,List.replicate,List.idxOf,List.findIdx,List.findIdx.go]
structure DrI (p:Int) (Q:List Int) (n:Nat):Prop where
 l:Q.length=64
 c:Can p Q
 z:∀j,n≤j→cf Q j=0
theorem DrI.set {p:Int} {Q:List Int} {n k:Nat} {x:Int} (h:DrI p Q n) (h0:0≤x) (h1:x<p) (hk:k<n):DrI p (Q.set k x) n:=
 ⟨by rw [cx]; exact h.l,fun y hy=>by
  rcases fk hy with g | rfl
  ·exact h.c y g
  ·exact ⟨h0,h1⟩,fun j hj=>by rw [t8,if_neg (by omega)]; exact h.z j hj⟩
section
variable {p:Int} [IsP p]
theorem DrI.pol {Q:List Int} {n:Nat} (h:DrI p Q n):Q=pad (row (fe p Q))∧(fe p Q).len≤n:=
 ⟨L8 h.c h.l,Pol.len_le fun j hj=>by rw [jy,h.z j hj]; rfl⟩
theorem U2 {O:ap} (hn:uc O F3w) {b1:Blk} {n:Nat} (hn64:n≤64):∀(k:Nat) (b:Blk) (Q:List Int),k≤n→Src b→DrI p Q n→∃(b':Blk) (Q':List Int),Src b'∧DrI p Q' n ∧
 dn O 1 (.loop ir_spec_l01Draw_L0) ⟨[(0,.ptr 0 []),(1,(.d (.int .i64 p))),(6,.ptr 1 []),(7,.ptr 2 []),(8,(.d (.int .i64 ((k:Int)-1))))],[b,b1,.box false (D.arr 64 .leaf (af .u8 Q))]⟩ =
  some (.exit 0,⟨[(0,.ptr 0 []),(1,(.d (.int .i64 p))),(6,.ptr 1 []),(7,.ptr 2 []),(8,(.d (.int .i64 (-1)))),(16,(.d (.bool false)))],[b',b1,.box false (D.arr 64 .leaf (af .u8 Q'))]⟩)
 | 0,b,Q,hk,hs,hQ=>by
  refine ⟨b,Q,hs,hQ,cm ?_⟩;obtain ⟨c,a,h,rfl,_⟩:=hs;simp -implicitDefEqProofs [ir_spec_l01Draw_L0,aw]
 | k+1,b,Q,hk,hs,hQ=>by
  have hp:=IsP.ge (p:=p);have hp7:=IsP.le (p:=p);obtain ⟨x,b2,e1,hs2,x0,x1⟩:=hn b 3 hs (by omega)
  have w1:IntKind.i64.wrap ((((k+1:Nat):Int)-1)-1)=(k:Int)-1:=(w64 (by omega)).trans (by omega)
  have hk1:((k+1:Nat):Int)-1=(k:Int):=by omega
  rw [hk1] at w1 ⊢;have hge:(0:Int)≤k:=by omega
  have hkQ:k<Q.length:=by rw [hQ.l]; omega
  have hk64:k<64:=by omega
  by_cases hx:0<x
  ·obtain ⟨y,b3,e2,hs3,y0,y1⟩:=hn b2 p hs2 (by omega)
   have w2:IntKind.u8.wrap y=y:=w8 (by omega)
   obtain ⟨b',Q',hs',hQ',ih⟩:=U2 hn (b1:=b1) hn64 k b3 (Q.set k y) (by omega) hs3 (hQ.set y0 (by omega) (by omega))
   refine ⟨b',Q',hs',hQ',cg ?_ ih⟩;obtain ⟨c,a,h,rfl,_⟩:=hs;obtain ⟨c2,a2,h2,rfl,_⟩:=hs2;obtain ⟨c3,a3,h3,rfl,_⟩:=hs3;simp -implicitDefEqProofs [ir_spec_l01Draw_L0,aw,hge,e1,e2,hx,w1,w2,hkQ,hk64,List.idxOf,List.findIdx,List.findIdx.go]
  ·obtain ⟨b',Q',hs',hQ',ih⟩:=U2 hn (b1:=b1) hn64 k b2 Q (by omega) hs2 hQ
   refine ⟨b',Q',hs',hQ',cg ?_ ih⟩;obtain ⟨c,a,h,rfl,_⟩:=hs;obtain ⟨c2,a2,h2,rfl,_⟩:=hs2;simp -implicitDefEqProofs [ir_spec_l01Draw_L0,aw,hge,e1,hx,w1,List.idxOf,List.findIdx,List.findIdx.go]
end
theorem DrI.zero (p:Int) [IsP p] (n:Nat):DrI p (pad []) n:=
 ⟨c8 _,fun x hx=>by
  have hp:=IsP.ge (p:=p)
  have:x=0:=by
   unfold pad at hx;obtain ⟨a,_,rfl⟩:∃a,a<64∧cf [] a=x:=by simpa using hx
   exact pc (kf _)
  omega,fun j _=>(Am (l:=[]) (by simp) j).trans (pc (kf _))⟩
def Up (O:ap):Prop:=∀(p:Int) [IsP p] (b:Blk) (n:Nat),Src b→n≤63→∃(a:Fp p) (b':Blk),O F3k [.ptr 0 [],(.d (.int .i64 p)),(.d (.int .i64 ((n:Int))))] [b]=some (.d (D.arr 64 .leaf (af .u8 (pad (row a)))),[b'],[])∧Src b'∧a.len≤n+1
theorem abm (hT:T F3k=some Z3k) (hn:uc (den T A) F3w):Up (den T A):=by
 intro p ip b n hs h63;obtain ⟨x,b2,e1,hs2,x0,x1⟩:=hn b ((n:Int)+2) hs (by omega)
 obtain ⟨k,rfl⟩:∃k:Nat,x=k:=⟨x.toNat,by omega⟩
 have w0:IntKind.i64.wrap ((n:Int)+2)=(n:Int)+2:=w64 (by omega)
 have w1:IntKind.i64.wrap ((k:Int)-1)=(k:Int)-1:=w64 (by omega)
 obtain ⟨b',Q,hs',hQ,e2⟩:=U2 (p:=p) hn (b1:=.box false (D.arr 64 .leaf (af .u8 (pad [])))) (n:=n+1) (by omega) k b2 (pad []) (by omega) hs2 (.zero p _)
 obtain ⟨q1,q2⟩:=hQ.pol;refine ⟨fe p Q,b',iw hT rfl ?_,hs',q2⟩;rw [←q1];obtain ⟨c,a,h,rfl,_⟩:=hs;obtain ⟨c2,a2,h2,rfl,_⟩:=hs2;obtain ⟨c',a',h',rfl,_⟩:=hs';simp -implicitDefEqProofs [Z3k,ir_spec_l01Draw_B,w0,e1,w1,e2,List.replicate,List.idxOf,List.findIdx,List.findIdx.go]
theorem a4e {O:ap} (hn:uc O F3w) {p:Int} [IsP p] {b1:Blk} {n:Nat} {most k:Int} (hn62:n≤62):∀(r i:Nat) (b:Blk) (Q:List Int),i+r=n→Src b→DrI p Q n→∃(b':Blk) (Q':List Int),Src b'∧DrI p Q' n ∧
 dn O 1 (.loop Z3l_L0) ⟨[(0,.ptr 0 []),(1,(.d (.int .i64 p))),(2,(.d (.int .i64 most))),(6,.ptr 1 []),(7,.ptr 2 []),(8,(.d (.int .i64 k))),(9,(.d (.int .i64 n))),(10,(.d (.int .i64 i)))],[b,b1,.box false (D.arr 64 .leaf (af .u8 Q))]⟩ =
  some (.exit 2,⟨[(0,.ptr 0 []),(1,(.d (.int .i64 p))),(2,(.d (.int .i64 most))),(6,.ptr 1 []),(7,.ptr 2 []),(8,(.d (.int .i64 k))),(9,(.d (.int .i64 n))),(10,(.d (.int .i64 n))),(23,(.d (.bool false)))],[b',b1,.box false (D.arr 64 .leaf (af .u8 Q'))]⟩)
 | 0,i,b,Q,hi,hs,hQ=>by
  obtain rfl:i=n:=by omega
  refine ⟨b,Q,hs,hQ,cm ?_⟩;obtain ⟨c,a,h,rfl,_⟩:=hs;simp -implicitDefEqProofs [Z3l_L0,aw]
 | r+1,i,b,Q,hi,hs,hQ=>by
  have hp:=IsP.ge (p:=p);have hp7:=IsP.le (p:=p);obtain ⟨y,b3,e2,hs3,y0,y1⟩:=hn b p hs (by omega)
  have w2:IntKind.u8.wrap y=y:=w8 (by omega)
  have w4:IntKind.i64.wrap ((i:Int)+1)=((i+1:Nat):Int):=(w64 (x:=(i:Int)+1) (by omega)).trans (by omega)
  have hlt:i<n:=by omega
  have hiQ:i<Q.length:=by rw [hQ.l]; omega
  have hi64:i<64:=by omega
  obtain ⟨b',Q',hs',hQ',ih⟩:=a4e hn (b1:=b1) (most:=most) (k:=k) hn62 r (i+1) b3 (Q.set i y) (by omega) hs3 (hQ.set y0 (by omega) hlt)
  refine ⟨b',Q',hs',hQ',cg ?_ ih⟩;obtain ⟨c,a,h,rfl,_⟩:=hs;obtain ⟨c3,a3,h3,rfl,_⟩:=hs3;simp -implicitDefEqProofs [Z3l_L0,aw,hlt,e2,w2,w4,hiQ,hi64,List.idxOf,List.findIdx,List.findIdx.go]
theorem DrI.up {p:Int} {Q:List Int} {n m:Nat} (h:DrI p Q n) (hm:n≤m):DrI p Q m:=⟨h.l,h.c,fun j hj=>h.z j (by omega)⟩
theorem DrI.mod {p:Int} [IsP p] {Q:List Int} {n:Nat} (h:DrI p Q n) (hn:n≤62):∃a:Fp p,Q.set n 1=pad (row a)∧a.len=n+1∧Monic a:=by
 have hp:=IsP.ge (p:=p);have h1:DrI p (Q.set n 1) (n+1):=(h.up (Nat.le_succ n)).set (by omega) (by omega) (Nat.lt_succ_self n)
 obtain ⟨q1,q2⟩:=h1.pol
 have hc:(fe p (Q.set n 1)).c n=1:=by
  rw [jy,t8,if_pos ⟨rfl,by rw [h.l]; omega⟩,Ci]
 have hne:(fe p (Q.set n 1)).c n≠0:=by
  rw [hc]; exact Fd.one_ne
 have hl:(fe p (Q.set n 1)).len=n+1:=Pol.len_eq (Pol.lt_iff.2 q2) hne;have h0:fe p (Q.set n 1)≠0:=fun h=>by rw [h,Pol.len_zero] at hl; omega
 exact ⟨fe p (Q.set n 1),q1,hl,⟨by unfold Pol.ld; rw [hl]; exact hc,h0⟩⟩
open Classical in
theorem a4s {O:ap} (hn:uc O F3w) (hir:Ju O) {p:Int} [IsP p] {z:List Int} {most:Int} (hm1:1≤most) (hm2:most≤12):∀(r k:Nat) (b:Blk) (a:Fp p),k+r=4→Src b→2≤a.len→a.len≤most+1→Monic a→∃(b':Blk) (a':Fp p),Src b'∧2≤a'.len∧a'.len≤most+1∧Monic a' ∧
 (dn O 1 (.loop Z3l_L1) ⟨[(0,.ptr 0 []),(1,(.d (.int .i64 p))),(2,(.d (.int .i64 most))),(6,.ptr 1 []),(7,.ptr 2 []),(8,(.d (.int .i64 k)))],[b,.box false (D.arr 64 .leaf (af .u8 z)),.box false (D.arr 64 .leaf (af .u8 (pad (row a))))]⟩ =
  some (.exit 0,⟨[(0,.ptr 0 []),(1,(.d (.int .i64 p))),(2,(.d (.int .i64 most))),(6,.ptr 1 []),(7,.ptr 2 []),(8,(.d (.int .i64 4))),(13,(.d (.bool false)))],[b',.box false (D.arr 64 .leaf (af .u8 z)),.box false (D.arr 64 .leaf (af .u8 (pad (row a'))))]⟩) ∨
 dn O 1 (.loop Z3l_L1) ⟨[(0,.ptr 0 []),(1,(.d (.int .i64 p))),(2,(.d (.int .i64 most))),(6,.ptr 1 []),(7,.ptr 2 []),(8,(.d (.int .i64 k)))],[b,.box false (D.arr 64 .leaf (af .u8 z)),.box false (D.arr 64 .leaf (af .u8 (pad (row a))))]⟩ =
  some (.ret,⟨[(6,.ptr 1 [])],[b',.box false (D.arr 64 .leaf (af .u8 (pad (row a')))),.hole]⟩))
 | 0,k,b,a,hk,hs,h2,hl,hm=>by
  obtain rfl:k=4:=by omega
  refine ⟨b,a,hs,h2,hl,hm,.inl (cm ?_)⟩;obtain ⟨c,a,h,rfl,_⟩:=hs;simp -implicitDefEqProofs [Z3l_L1,aw]
 | r+1,k,b,a,hk,hs,h2,hl,hm=>by
  have hk4:(k:Int)<4:=by omega
  obtain ⟨x,b2,e1,hs2,x0,x1⟩:=hn b most hs (by omega)
  obtain ⟨n,hn1⟩:∃n:Nat,1+x=n:=⟨(1+x).toNat,by omega⟩
  have w1:IntKind.i64.wrap (1+x)=n:=(w64 (by omega)).trans hn1
  obtain ⟨b3,Q,hs3,hQ,st⟩:=a4e hn (p:=p) (b1:=.box false (D.arr 64 .leaf (af .u8 z))) (n:=n) (most:=most) (k:=k) (by omega) n 0 b2 (pad []) (cd _) hs2 (.zero p _)
  rw [show ((0:Nat):Int)=0 from rfl] at st;obtain ⟨a',q1,q2,q3⟩:=hQ.mod (by omega)
  have hnQ:n<Q.length:=by rw [hQ.l]; omega
  have hn64:n<64:=by omega
  obtain ⟨y,b4,e2,hs4,y0,y1⟩:=hn b3 3 hs3 (by omega)
  have w4:IntKind.i64.wrap ((k:Int)+1)=((k+1:Nat):Int):=(w64 (x:=(k:Int)+1) (by omega)).trans (by omega)
  have e3:=hir p a' q3.2 (by omega)
  obtain ⟨b',a2,g1,g2,g3,g4,ih⟩:=a4s hn hir (z:=z) hm1 hm2 r (k+1) b4 a' (by omega) hs4 (by omega) (by omega) q3
  by_cases hy:y=0
  ·refine ⟨b4,a',hs4,by omega,by omega,q3,.inr (lq ?_)⟩
   obtain ⟨c,a0,h,rfl,_⟩:=hs;obtain ⟨c2,a2,h2,rfl,_⟩:=hs2;obtain ⟨c3,a3,h3,rfl,_⟩:=hs3;obtain ⟨c4,a4,h4,rfl,_⟩:=hs4;generalize pad (row a)=Pa at *;generalize hPQ:Q.set n 1=PQ at *;generalize pad (row a')=Pb at *;subst q1;simp -implicitDefEqProofs [Z3l_L1,aw,hk4,e1,w1,st,hnQ,hn64,hPQ,e2,hy,List.idxOf,List.findIdx,List.findIdx.go]
  ·by_cases hI:Irr a'
   ·refine ⟨b4,a',hs4,by omega,by omega,q3,.inr (lq ?_)⟩
    rw [decide_eq_true hI] at e3;obtain ⟨c,a0,h,rfl,_⟩:=hs;obtain ⟨c2,a2,h2,rfl,_⟩:=hs2;obtain ⟨c3,a3,h3,rfl,_⟩:=hs3;obtain ⟨c4,a4,h4,rfl,_⟩:=hs4;generalize pad (row a)=Pa at *;generalize hPQ:Q.set n 1=PQ at *;generalize pad (row a')=Pb at *;subst q1;simp -implicitDefEqProofs [Z3l_L1,aw,hk4,e1,w1,st,hnQ,hn64,hPQ,e2,e3,hy,List.idxOf,List.findIdx,List.findIdx.go]
   ·rw [decide_eq_false hI] at e3
    have key:dn O 1 Z3l_L1 ⟨[(0,.ptr 0 []),(1,(.d (.int .i64 p))),(2,(.d (.int .i64 most))),(6,.ptr 1 []),(7,.ptr 2 []),(8,(.d (.int .i64 k)))],[b,.box false (D.arr 64 .leaf (af .u8 z)),.box false (D.arr 64 .leaf (af .u8 (pad (row a))))]⟩=some (.normal,⟨[(0,.ptr 0 []),(1,(.d (.int .i64 p))),(2,(.d (.int .i64 most))),(6,.ptr 1 []),(7,.ptr 2 []),(8,(.d (.int .i64 (((k+1:Nat):Int)))))],[b4,.box false (D.arr 64 .leaf (af .u8 z)),.box false (D.arr 64 .leaf (af .u8 (pad (row a'))))]⟩):=by
     obtain ⟨c,a0,h,rfl,_⟩:=hs;obtain ⟨c2,a2,h2,rfl,_⟩:=hs2;obtain ⟨c3,a3,h3,rfl,_⟩:=hs3;obtain ⟨c4,a4,h4,rfl,_⟩:=hs4;generalize pad (row a)=Pa at *;generalize hPQ:Q.set n 1=PQ at *;generalize pad (row a')=Pb at *;subst q1;simp -implicitDefEqProofs [Z3l_L1,aw,hk4,e1,w1,st,hnQ,hn64,hPQ,e2,e3,hy,w4,List.idxOf,List.findIdx,List.findIdx.go]
    exact ⟨b',a2,g1,g2,g3,g4,ih.imp (cg key) (cg key)⟩
def Bl (O:ap):Prop:=∀(p:Int) [IsP p] (b:Blk) (most:Int),Src b→1≤most→most≤12→∃(a:Fp p) (b':Blk),O F3l [.ptr 0 [],(.d (.int .i64 p)),(.d (.int .i64 most))] [b]=some (.d (D.arr 64 .leaf (af .u8 (pad (row a)))),[b'],[])∧Src b'∧2≤a.len∧a.len≤most+1∧Monic a
theorem a0s (hT:T F3l=some Z3l) (hn:uc (den T A) F3w) (ht:a17 (den T A)) (hir:Ju (den T A)):Bl (den T A):=by
 intro p ip b most hs hm1 hm2;have e0:=ht p;have hX:(Pol.X:Fp p).len=2:=Pol.len_X;obtain ⟨b',a',g1,g2,g3,g4,e | e⟩:=a4s (O:=den T A) hn hir (z:=pad []) hm1 hm2 4 0 b (Pol.X:Fp p) rfl hs (by omega) (by omega) ⟨by unfold Pol.ld; rw [Pol.len_X]; rfl,Pol.X_ne⟩
 ·refine ⟨a',b',iw hT rfl ?_,g1,g2,g3,g4⟩
  rw [show ((0:Nat):Int)=0 from rfl] at e;obtain ⟨c,a0,h,rfl,_⟩:=hs;obtain ⟨c2,a2,h2,rfl,_⟩:=g1;generalize pad (row a')=Pb at *;generalize pad (row (Pol.X:Fp p))=Pt at *;simp -implicitDefEqProofs [Z3l,Z3l_B,e0,e,List.replicate,List.idxOf,List.findIdx]
 ·refine ⟨a',b',iw hT rfl ?_,g1,g2,g3,g4⟩
  rw [show ((0:Nat):Int)=0 from rfl] at e;obtain ⟨c,a0,h,rfl,_⟩:=hs;obtain ⟨c2,a2,h2,rfl,_⟩:=g1;generalize pad (row a')=Pb at *;generalize pad (row (Pol.X:Fp p))=Pt at *;simp -implicitDefEqProofs [Z3l,Z3l_B,e0,e,List.replicate,List.idxOf,List.findIdx]
def a26 (O:ap):Prop:=∀(b:Blk) (p:Int) (l:List Int),Src b→0≤p→p<256→l.length=64→gw l→∃(l':List Int) (b':Blk),O F3f [.ptr 0 [],(.d (.int .i64 p)),.d (D.arr 64 .leaf (af .u8 l))] [b]=some (.d (D.arr 64 .leaf (af .u8 l')),[b'],[])∧Src b'∧l'.length=64∧gw l'
theorem af8 (hT:T F3f=some Z3f) (hn:uc (den T A) F3w) (hp:Iz (den T A)):a26 (den T A):=by
 intro b p l hs p0 p1 hl hb;obtain ⟨x,b2,e1,hs2,x0,x1⟩:=hn b 40 hs (by omega)
 by_cases hx:x=0
 ·obtain ⟨y,b3,e2,hs3,y0,y1⟩:=hn b2 64 hs2 (by omega)
  obtain ⟨k,rfl⟩:∃k:Nat,y=k:=⟨y.toNat,by omega⟩
  obtain ⟨v,b4,e3,hs4,hv⟩:=hp b3 [p,7,255,1] 4 (some 4) hs3 rfl (by omega) (by omega)
  rw [show af .i64 [p,7,255,1]=[.int .i64 p,.int .i64 7,.int .i64 255,.int .i64 1] from rfl] at e3;have hv2:0≤v∧v<256:=by simp at hv; omega
  have w1:IntKind.u8.wrap v=v:=w8 hv2;have hk:k<64:=by omega
  refine ⟨l.set k v,b4,iw hT rfl ?_,hs4,by rw [cx]; exact hl,fun z hz=>by
   rcases fk hz with g | rfl
   ·exact hb z g
   ·exact hv2⟩
  subst hx;obtain ⟨c,a0,h,rfl,_⟩:=hs;obtain ⟨c2,a2,h2,rfl,_⟩:=hs2;obtain ⟨c3,a3,h3,rfl,_⟩:=hs3;obtain ⟨c4,a4,h4,rfl,_⟩:=hs4;simp -implicitDefEqProofs [Z3f,Z3f_B,aw,e1,e2,e3,w1,hk,hl,List.replicate,List.idxOf,List.findIdx,List.findIdx.go]
 ·refine ⟨l,b2,iw hT rfl ?_,hs2,hl,hb⟩
  obtain ⟨c,a0,h,rfl,_⟩:=hs;obtain ⟨c2,a2,h2,rfl,_⟩:=hs2;simp -implicitDefEqProofs [Z3f,Z3f_B,aw,e1,hx,List.replicate,List.idxOf,List.findIdx,List.findIdx.go]
end Pe
namespace Pe
open Go Gq
variable {T:Nat→Option Fn} {A:ap}
def Arr (l:List Int):Prop:=l.length=64∧gw l
theorem z5 {p:Int} [IsP p] (a:Fp p):Arr (pad (row a)):=⟨c8 _,mi a⟩
def y8 (O:ap):Prop:=∀b:Blk,Src b→∃(p:Int) (l m:List Int) (b':Blk),O F45 [.ptr 0 []] [b]=some (.tup [(.d (.int .i64 p)),.d (D.arr 64 .leaf (af .u8 l)),.d (D.arr 64 .leaf (af .u8 m))],[b'],[])∧Src b'∧0≤p∧p<256∧Arr l∧Arr m
theorem a07 (hT:T F45=some Z45) (hn:uc (den T A) F3w) (hp:Iz (den T A)) (hpr:zz (den T A)) (hd:Up (den T A)) (hm:Bl (den T A)) (hb:a26 (den T A)):y8 (den T A):=by
 intro b hs;obtain ⟨p,b1,e1,hs1,ip⟩:=hpr b hs;have hp2:=IsP.ge (p:=p);have hp7:=IsP.le (p:=p);obtain ⟨x,b2,e2,hs2,hx⟩:=hp b1 [2,4,8] 3 (some 3) hs1 rfl (by omega) (by omega)
 rw [show af .i64 [2,4,8]=[.int .i64 2,.int .i64 4,.int .i64 8] from rfl] at e2;obtain ⟨n,rfl⟩:∃n:Nat,x=n:=⟨x.toNat,by simp at hx; omega⟩
 obtain ⟨a,b3,e3,hs3,-⟩:=hd p b2 n hs2 (by simp at hx; omega)
 obtain ⟨y,b4,e4,hs4,hy⟩:=hp b3 [2,3,4,5] 4 (some 4) hs3 rfl (by omega) (by omega)
 rw [show af .i64 [2,3,4,5]=[.int .i64 2,.int .i64 3,.int .i64 4,.int .i64 5] from rfl] at e4;obtain ⟨m,b5,e5,hs5,-⟩:=hm p b4 y hs4 (by simp at hy; omega) (by simp at hy; omega)
 obtain ⟨k,b6,e6,hs6,k0,k1⟩:=hn b5 40 hs5 (by omega)
 obtain ⟨hal,hab⟩:=z5 a;obtain ⟨hml,hmb⟩:=z5 m
 by_cases c0:k=0
 ·obtain ⟨q,b7,e7,hs7,hq⟩:=hp b6 [0,1,4,11] 4 (some 4) hs6 rfl (by omega) (by omega)
  rw [show af .i64 [0,1,4,11]=[.int .i64 0,.int .i64 1,.int .i64 4,.int .i64 11] from rfl] at e7;refine ⟨q,pad (row a),pad (row m),b7,iw hT rfl ?_,hs7,by simp at hq; omega,by simp at hq; omega,⟨hal,hab⟩,⟨hml,hmb⟩⟩
  obtain ⟨c,a0,h,rfl,_⟩:=hs;obtain ⟨_,_,_,rfl,_⟩:=hs1;obtain ⟨_,_,_,rfl,_⟩:=hs2;obtain ⟨_,_,_,rfl,_⟩:=hs3;obtain ⟨_,_,_,rfl,_⟩:=hs4;obtain ⟨_,_,_,rfl,_⟩:=hs5;obtain ⟨_,_,_,rfl,_⟩:=hs6;obtain ⟨_,_,_,rfl,_⟩:=hs7;generalize pad (row a)=Pa at *;generalize pad (row m)=Pm at *;simp -implicitDefEqProofs [Z45,ir_spec_l02Draw_B,aw,e1,e2,e3,e4,e5,e6,e7,c0,List.replicate,List.idxOf,List.findIdx,List.findIdx.go]
 ·by_cases c1:k=1
  ·obtain ⟨m2,b7,e7,hs7,-⟩:=hd p b6 7 hs6 (by omega)
   rw [show ((7:Nat):Int)=7 from rfl] at e7;refine ⟨p,pad (row a),pad (row m2),b7,iw hT rfl ?_,hs7,by omega,by omega,⟨hal,hab⟩,z5 m2⟩
   obtain ⟨c,a0,h,rfl,_⟩:=hs;obtain ⟨_,_,_,rfl,_⟩:=hs1;obtain ⟨_,_,_,rfl,_⟩:=hs2;obtain ⟨_,_,_,rfl,_⟩:=hs3;obtain ⟨_,_,_,rfl,_⟩:=hs4;obtain ⟨_,_,_,rfl,_⟩:=hs5;obtain ⟨_,_,_,rfl,_⟩:=hs6;obtain ⟨_,_,_,rfl,_⟩:=hs7;generalize pad (row a)=Pa at *;generalize pad (row m)=Pm at *;generalize pad (row m2)=Pm2 at *;simp -implicitDefEqProofs [Z45,ir_spec_l02Draw_B,aw,e1,e2,e3,e4,e5,e6,e7,c1,List.replicate,List.idxOf,List.findIdx,List.findIdx.go]
  ·by_cases c2:k=2
   ·obtain ⟨l2,b7,e7,hs7,g1,g2⟩:=hb b6 p (pad (row a)) hs6 (by omega) (by omega) hal hab
    refine ⟨p,l2,pad (row m),b7,iw hT rfl ?_,hs7,by omega,by omega,⟨g1,g2⟩,⟨hml,hmb⟩⟩
    obtain ⟨c,a0,h,rfl,_⟩:=hs;obtain ⟨_,_,_,rfl,_⟩:=hs1;obtain ⟨_,_,_,rfl,_⟩:=hs2;obtain ⟨_,_,_,rfl,_⟩:=hs3;obtain ⟨_,_,_,rfl,_⟩:=hs4;obtain ⟨_,_,_,rfl,_⟩:=hs5;obtain ⟨_,_,_,rfl,_⟩:=hs6;obtain ⟨_,_,_,rfl,_⟩:=hs7;generalize pad (row a)=Pa at *;generalize pad (row m)=Pm at *;simp -implicitDefEqProofs [Z45,ir_spec_l02Draw_B,aw,e1,e2,e3,e4,e5,e6,e7,c2,List.replicate,List.idxOf,List.findIdx,List.findIdx.go]
   ·refine ⟨p,pad (row a),pad (row m),b6,iw hT rfl ?_,hs6,by omega,by omega,⟨hal,hab⟩,⟨hml,hmb⟩⟩
    obtain ⟨c,a0,h,rfl,_⟩:=hs;obtain ⟨_,_,_,rfl,_⟩:=hs1;obtain ⟨_,_,_,rfl,_⟩:=hs2;obtain ⟨_,_,_,rfl,_⟩:=hs3;obtain ⟨_,_,_,rfl,_⟩:=hs4;obtain ⟨_,_,_,rfl,_⟩:=hs5;obtain ⟨_,_,_,rfl,_⟩:=hs6;generalize pad (row a)=Pa at *;generalize pad (row m)=Pm at *;simp -implicitDefEqProofs [Z45,ir_spec_l02Draw_B,aw,e1,e2,e3,e4,e5,e6,c0,c1,c2,List.replicate,List.idxOf,List.findIdx,List.findIdx.go]
end Pe

namespace Gq
def Pr (l:Nat):Prop:=2≤l∧∀d,d∣l→d=1∨d=l
theorem Pr.coprime {l n:Nat} (h:Pr l) (hn:¬ l∣n):Nat.Coprime l n:=by
 rcases h.2 _ (Nat.gcd_dvd_left l n) with h1 | h1
 ·exact h1
 ·exact absurd (h1▸Nat.gcd_dvd_right l n) hn
theorem a9t:∀(n:Nat),2≤n→∃l,Pr l∧l∣n:=by
 intro n
 induction n using Nat.strongRecOn with
 | ind n ih=>
  intro hn
  by_cases h:Pr n
  ·exact ⟨n,h,Nat.dvd_refl n⟩
  ·have:∃d,d∣n∧d≠1∧d≠n:=by
    apply dj;intro hno;refine h ⟨hn,fun d hd=>?_⟩
    apply dj;intro h2;exact hno ⟨d,hd,fun e=>h2 (.inl e),fun e=>h2 (.inr e)⟩
   obtain ⟨d,hd,h1,h2⟩:=this;have hle:=tj (by omega) hd
   have h0:d≠0:=fun e=>by
    rw [e] at hd;have:=Nat.eq_zero_of_zero_dvd hd;omega
   obtain ⟨l,hl,hld⟩:=ih d (by omega) (by omega)
   exact ⟨l,hl,jz hld hd⟩
theorem Pr.dvd_mul {l a b:Nat} (h:Pr l) (hd:l∣a*b):l∣a∨l∣b:=by
 by_cases ha:l∣a
 ·exact .inl ha
 ·exact .inr ((h.coprime ha).dvd_of_dvd_mul_left hd)
theorem Pr.dvd_pr {l q:Nat} (h:Pr l) (hq:Pr q) (hd:l∣q):l=q:=by
 rcases hq.2 l hd with h1 | h1
 ·have:=h.1; omega
 ·exact h1
theorem a4y {n:Nat} (h0:1≤n) (h:∀l,Pr l→¬ l∣n):n=1:=by
 apply dj;intro h1;obtain ⟨l,hl,hd⟩:=a9t n (by omega)
 exact h l hl hd
section
variable {R:Type} [CR R]
theorem Qb {x:R} {n k:Nat} (h:pw x n=1) (hd:n∣k):pw x k=1:=by
 obtain ⟨c,rfl⟩:=hd;rw [←wj,h,Ap]
def Ord (x:R) (n:Nat):Prop:=∀k,pw x k=1↔n∣k
theorem Ord.self {x:R} {n:Nat} (h:Ord x n):pw x n=1:=(h n).2 (Nat.dvd_refl n)
theorem Ord.unique {x:R} {n m:Nat} (h:Ord x n) (h':Ord x m):n=m:=Nat.dvd_antisymm ((h m).1 h'.self) ((h' n).1 h.self)
theorem Ord.mul {a b:R} {m n:Nat} (ha:Ord a m) (hb:Ord b n) (h:Nat.Coprime m n):Ord (a*b) (m*n):=fun k=>by
 constructor
 ·intro hk
  have h1:m∣k:=by
   have e:pw a (k*n)=1:=by
    have e1:pw (a*b) (k*n)=1:=by rw [←wj,hk,Ap]
    rw [qx,Qb hb.self (m8 n k),mul_one] at e1;exact e1
   exact h.dvd_of_dvd_mul_right ((ha _).1 e)
  have h2:n∣k:=by
   have e:pw b (k*m)=1:=by
    have e1:pw (a*b) (k*m)=1:=by rw [←wj,hk,Ap]
    rw [qx,Qb ha.self (m8 m k),one_mul] at e1;exact e1
   exact h.symm.dvd_of_dvd_mul_right ((hb _).1 e)
  exact h.mul_dvd_of_dvd_of_dvd h1 h2
 ·intro hd
  rw [qx,Qb ha.self (jz (sf m n) hd),Qb hb.self (jz (m8 n m) hd),mul_one]
end
structure OrdI (n q rest order:Nat) (fin:Bool):Prop where
 dv:n∣order
 pos:1≤order
 low:∀l,Pr l→l<q→¬ l*n∣order∧¬ l∣rest
 rel:∃c,order=rest*c∧(∀l,Pr l→q<l→¬ l∣c)∧(fin=false→Pr q→¬ q∣c)
 fin:fin=true→¬ q*n∣order
theorem OrdI.rest_pos {n q rest order:Nat} {f:Bool} (h:OrdI n q rest order f):1≤rest:=by
 obtain ⟨c,e,-⟩:=h.rel;have:=h.pos;rcases mb rest with h0 | h0
 ·rw [h0,jk] at e; omega
 ·exact h0
theorem OrdI.init {n N:Nat} (hN:1≤N) (h:n∣N):OrdI n 2 N N false where
 dv:=h
 pos:=hN
 low:=fun l hl h2=>by have:=hl.1; omega
 rel:=⟨1,(Nat.mul_one N).symm,fun l hl _ hd=>by have:=hl.1; have:=tj (by omega) hd; omega,fun _ hq hd=>by have:=hq.1; have:=tj (by omega) hd; omega⟩
 fin:=fun h=>by cases h
theorem OrdI.prime {n q rest order:Nat} {f:Bool} (h:OrdI n q rest order f) (h2:2≤q) (hd:q∣rest):Pr q:=by
 obtain ⟨l,hl,hlq⟩:=a9t q h2;rcases ek l q with h1 | h1
 ·exact absurd (jz hlq hd) (h.low l hl h1).2
 ·have:=tj (by omega) hlq
  obtain rfl:l=q:=by omega
  exact hl
theorem OrdI.yes {n q r c':Nat} {f:Bool} (h:OrdI n q (q*r) (q*c') f) (h2:2≤q) (hd:n∣c'):OrdI n q r c' f where
 dv:=hd
 pos:=by
  have:=h.pos;rcases mb c' with h0 | h0
  ·rw [h0,Nat.mul_zero] at this; omega
  ·exact h0
 low:=fun l hl h1=>by
  obtain ⟨a,b⟩:=h.low l hl h1;exact ⟨fun e=>a (jz e (m8 c' q)),fun e=>b (jz e (m8 r q))⟩
 rel:=by
  obtain ⟨c,e,h3,h4⟩:=h.rel;refine ⟨c,?_,h3,h4⟩;rw [Nat.mul_assoc] at e;exact Nat.eq_of_mul_eq_mul_left (by omega) e
 fin:=fun hf e=>h.fin hf (jz e (m8 c' q))
theorem OrdI.no {n q r c':Nat} {f:Bool} (h:OrdI n q (q*r) (q*c') f) (h2:2≤q) (hd:¬ n∣c'):OrdI n q r (q*c') true where
 dv:=h.dv
 pos:=h.pos
 low:=fun l hl h1=>by
  obtain ⟨a,b⟩:=h.low l hl h1;exact ⟨a,fun e=>b (jz e (m8 r q))⟩
 rel:=by
  have hq:=h.prime h2 (sf q r);obtain ⟨c,e,h3,_⟩:=h.rel;refine ⟨q*c,by rw [e,Nat.mul_assoc,Nat.mul_left_comm],fun l hl h4 hl2=>?_,fun hf=>by cases hf⟩
  rcases hl.dvd_mul hl2 with h5 | h5
  ·have:=hl.dvd_pr hq h5; omega
  ·exact h3 l hl h4 h5
 fin:=fun _ e=>hd (Nat.dvd_of_mul_dvd_mul_left (by omega) e)
theorem OrdI.next {n q rest order:Nat} {f:Bool} (h:OrdI n q rest order f) (h2:2≤q) (hd:¬ q∣rest):OrdI n (q+1) rest order false where
 dv:=h.dv
 pos:=h.pos
 low:=fun l hl h1=>by
  rcases ek l q with h3 | h3
  ·exact h.low l hl h3
  ·obtain rfl:l=q:=by omega
   refine ⟨fun e=>?_,hd⟩
   cases f with
   | true=>exact h.fin rfl e
   | false=>
    obtain ⟨c,e1,_,h5⟩:=h.rel;have:l∣rest*c:=e1▸jz (sf l n) e;rcases hl.dvd_mul this with h6 | h6
    ·exact hd h6
    ·exact h5 rfl hl h6
 rel:=by
  obtain ⟨c,e1,h4,_⟩:=h.rel;exact ⟨c,e1,fun l hl h5=>h4 l hl (by omega),fun _ hq=>h4 _ hq (by omega)⟩
 fin:=fun hf=>by cases hf
theorem OrdI.done {n q rest order:Nat} (h:OrdI n q rest order false) (hq:rest<q):order=n:=by
 have hr:rest=1:=a4y h.rest_pos fun l hl hd=>by
  have:=tj h.rest_pos hd;exact (h.low l hl (by omega)).2 hd
 obtain ⟨c,e1,h4,h5⟩:=h.rel;rw [hr,Nat.one_mul] at e1;obtain ⟨k,hk⟩:=h.dv
 have hk1:k=1:=a4y (by
  have:=h.pos;rcases mb k with h0 | h0
  ·rw [h0,Nat.mul_zero] at hk; omega
  ·exact h0) fun l hl hd=>by
  have hln:l*n∣order:=by
   rw [hk,qa l n]; exact Nat.mul_dvd_mul_left n hd
  rcases ek l q with h6 | h6
  ·exact (h.low l hl h6).1 hln
  ·have hlc:l∣c:=e1▸jz (sf l n) hln
   rcases ek q l with h7 | h7
   ·exact h4 l hl h7 hlc
   ·obtain rfl:l=q:=by omega
    exact h5 rfl hl hlc
 rw [hk,hk1,Nat.mul_one]
end Gq

namespace Pe
open Gq
section
variable {p:Int}
def IsPrim (m:Fp p) (k:Nat):Prop:=1≤k∧(k:Int)<p^(m.len-1)∧Ord (Quo.mk m (fu p k)) (p.toNat^(m.len-1)-1)∧∀j:Nat,1≤j→j<k→¬ Ord (Quo.mk m (fu p j)) (p.toNat^(m.len-1)-1)
theorem IsPrim.unique {m:Fp p} {j k:Nat} (hj:IsPrim m j) (hk:IsPrim m k):j=k:=by
 rcases ek j k with h | h
 ·exact absurd hj.2.2.1 (hk.2.2.2 j hj.1 h)
 ·rcases ek k j with h2 | h2
  ·exact absurd hk.2.2.1 (hj.2.2.2 k hk.1 h2)
  ·omega
noncomputable def dgF:o9 p→Nat
 | []=>0
 | x::L=>x.2*(x.1.len-1)+dgF L
theorem a5v [IsP p] {q:Fp p} (h:Monic q):∀k,(pw q k).len=k*(q.len-1)+1
 | 0=>by rw [jk]; exact Pol.len_one
 | k+1=>by
  have h1:=Pol.len_mul (Monic.pw h k).2 h.2;have h2:=a5v h k;have h3:=Pol.len_pos h.2;show (pw q k*q).len=_;rw [fg]; omega
theorem Ww [IsP p]:∀{L:o9 p},FacOk L→(nw L).len=dgF L+1
 | [],_=>Pol.len_one
 | x::L,h=>by
  have hm:=(h.irr x (by simp)).2.1
  have ht:FacOk L:=⟨fun y hy=>h.irr y (by simp [hy]),h.dis.tail⟩
  have h1:=Ww ht;have h2:=Pol.len_mul (Monic.pw hm x.2).2 (A3 ht).2;rw [a5v hm] at h2;rw [sr,dgF]; omega
end
end Pe
namespace Pe
open Go Gq
variable {T:Nat→Option Fn} {A:ap}
section
variable {p:Int} [IsP p]
end
section
variable {p:Int} [IsP p]
end
section
variable {p:Int} [IsP p]
end
def a9m (p:Int) (l:List Int):Prop:=∃(_:IsP p) (m:Fp p),l=pad (row m)∧Monic m∧2≤m.len∧m.len≤6
theorem Mw {p:Int} [IsP p] {m:Fp p} (hm:m.len≤64):a9m p (pad (row m))↔Monic m∧2≤m.len∧m.len≤6:=by
 constructor
 ·rintro ⟨_,a,e,h1,h2,h3⟩
  obtain rfl:=(Hb hm (by omega)).1 e
  exact ⟨h1,h2,h3⟩
 ·rintro ⟨h1,h2,h3⟩; exact ⟨_,m,rfl,h1,h2,h3⟩
open Classical in
noncomputable def lh (p:Int) (l:List Int) (ls:List (List Int)):Int:=if k8 p (ls++[l])≠0 then 1 else if a9m p l then 0 else 2
open Classical in
def wt (O:ap):Prop:=∀(p:Int) [IsP p] (m:Fp p),m.len≤64→ask O Fq [(D.arr 64 .leaf (af .u8 (pad (row m))))]=some (D.bool (decide (m.ld=1∧2≤m.len∧m.len≤6)))
open Classical in
theorem Qw (hT:T Fq=some Zq) (hro:od (den T A)) (hld:lk (den T A)) (hdg:lg (den T A)) (hwi:B4 (den T A)):wt (den T A):=by
 intro p ip a hal;have e2:=hro p a hal;have e3:=hld (row a) (by rw [bi]; omega)
 rw [ua] at e3;have e4:=hdg (row a) (by rw [bi]; omega)
 rw [bi] at e4;have e5:=hwi ((a.len:Int)-1) 1 5;have h1:=rl a.ld;refine c9 hT rfl ?_
 by_cases h0:a.ld=1
 ·have h0':=h1.2 h0
  have h3:decide ((1:Int)≤(a.len:Int)-1∧(a.len:Int)-1≤5)=decide (a.ld=1∧2≤a.len∧a.len≤6):=decide_eq_decide.2 ⟨fun h=>⟨h0,by omega,by omega⟩,fun h=>by omega⟩
  rw [h3] at e5;rw [h0'] at e3;generalize decide (a.ld=1∧2≤a.len∧a.len≤6)=b at *;generalize row a=Ra at *;generalize (a.len:Int)-1=n at *;simp -implicitDefEqProofs [Zq,Zq_B,e2,e3,e4,e5]
 ·have h0':=mt h1.1 h0
  rw [decide_eq_false (fun h:a.ld=1∧2≤a.len∧a.len≤6=>h0 h.1)]
  generalize rep a.ld=x at *;generalize row a=Ra at *;simp -implicitDefEqProofs [Zq,Zq_B,e2,e3,h0']
theorem Ai {p:Int} {l:List Int} {ls:List (List Int)} (h:k8 p (ls++[l])≠0):lh p l ls=1:=by unfold lh; rw [if_pos h]
theorem wb (p:Int) (ls:List (List Int)):k8 p ls=0∨k8 p ls=1:=by
 unfold k8; split
 ·exact .inl rfl
 ·exact .inr rfl
theorem va {p:Int} {l:List Int} {ls:List (List Int)} (h:k8 p (ls++[l])=0):k8 p ls=0∧k8 p [l]=0:=by
 unfold k8 at h
 split at h
 ·rename_i g
  have g2:=g.2;rw [List.all_append,az] at g2;exact ⟨by unfold k8; rw [if_pos ⟨g.1,g2.1⟩],by unfold k8; rw [if_pos ⟨g.1,g2.2⟩]⟩
 ·cases h
open Classical in
theorem Bx {p:Int} [IsP p] {m:Fp p} {ls:List (List Int)} (hm:m.len≤64) (h:k8 p (ls++[pad (row m)])=0):lh p (pad (row m)) ls=if Monic m∧2≤m.len∧m.len≤6 then 0 else 2:=by
 unfold lh;rw [if_neg (by simpa using h)]
 by_cases h2:Monic m∧2≤m.len∧m.len≤6
 ·rw [if_pos h2,if_pos ((Mw hm).2 h2)]
 ·rw [if_neg h2,if_neg fun g=>h2 ((Mw hm).1 g)]
def yu (O:ap):Prop:=∀(p:Int) (l:List Int),gw l→l.length=64→O Fv [(.d (.int .i64 p)),(.d (.arr 64 .leaf (af .u8 l))),.d (.nils (.arr 64 .leaf))] []=some ((.d (.int .i64 (lh p l []))),[],[])
def xu (O:ap):Prop:=∀(p:Int) (l:List Int) (ls:List (List Int)),gw l→l.length=64→Tg ls→1≤ls.length→ls.length<1000→O Fv [(.d (.int .i64 p)),(.d (.arr 64 .leaf (af .u8 l))),.sl 0 [] 0 ls.length (some ls.length)] [.sl false (.arr 64 .leaf) (ls.map p7)]=some ((.d (.int .i64 (lh p l ls))),[.sl false (.arr 64 .leaf) (ls.map p7)],[])
theorem oa {p:Int} {l:List Int} (hb:gw l) (hl:l.length=64) (h:k8 p [l]=0):∃(_:IsP p) (a:Fp p),a.len≤64∧l=pad (row a):=by
 rcases aka p hb hl with ⟨h1,h2⟩ | ⟨ip,a,hal,e⟩
 ·rw [h1] at h; cases h
 ·exact ⟨ip,a,hal,e⟩
open Classical in
theorem U5 (hT:T Fv=some Zv) (hpc:mu (den T A)) (him:wt (den T A)):yu (den T A):=by
 intro p l hb hl;have e1:=hpc p [l] (by intro x hx; simp at hx; subst hx; exact ⟨hl,hb⟩) (by simp)
 rw [show List.map p7 [l]=[(D.arr 64 .leaf (af .u8 l))] from rfl] at e1;rcases wb p [l] with hc | hc
 ·obtain ⟨ip,a,hal,rfl⟩:=oa hb hl hc
  rw [Bx hal (by simpa using hc)]
  rw [hc] at e1;have e2:=him p a hal;refine iw hT rfl ?_
  by_cases h:Monic a∧2≤a.len∧a.len≤6
  ·rw [decide_eq_true ⟨h.1.1,h.2⟩] at e2
   rw [if_pos h];generalize pad (row a)=Pa at *;simp -implicitDefEqProofs [Zv,Zv_B,aw,e1,e2,List.replicate]
  ·rw [decide_eq_false (fun g=>h ⟨(uy a).2 g.1,g.2⟩)] at e2
   rw [if_neg h];generalize pad (row a)=Pa at *;simp -implicitDefEqProofs [Zv,Zv_B,aw,e1,e2,List.replicate]
 ·rw [Ai (by simpa using fun h=>by rw [hc] at h; cases h)]
  rw [hc] at e1;refine iw hT rfl ?_;simp -implicitDefEqProofs [Zv,Zv_B,aw,e1,List.replicate]
open Classical in
theorem a1j (hT:T Fv=some Zv) (hpc:mu (den T A)) (him:wt (den T A)):xu (den T A):=by
 intro p l ls hb hl ha h1 h2
 have e1:=hpc p (ls++[l]) (by
  intro x hx;rcases bn.1 hx with hx | hx
  ·exact ha x hx
  ·simp at hx; subst hx; exact ⟨hl,hb⟩) (by rw [bu,gi]; omega)
 rw [di,show List.map p7 [l]=[(D.arr 64 .leaf (af .u8 l))] from rfl] at e1;have hL:(ls.map p7).length=ls.length:=ba ..;have ht:(ls.map p7).take ls.length=ls.map p7:=bg (by omega)
 have h64:(ls.length+1)*64≤1099511627776:=by omega
 have hap:(ls.map p7++[(D.arr 64 .leaf (af .u8 l))]).take (ls.length+1)=ls.map p7++[(D.arr 64 .leaf (af .u8 l))]:=bg (by rw [bu,hL]; exact bh _)
 rcases wb p (ls++[l]) with hc | hc
 ·obtain ⟨ip,a,hal,rfl⟩:=oa hb hl (va hc).2
  rw [Bx hal hc];rw [hc] at e1;have e2:=him p a hal;refine iw hT rfl ?_
  by_cases h:Monic a∧2≤a.len∧a.len≤6
  ·rw [decide_eq_true ⟨h.1.1,h.2⟩] at e2
   rw [if_pos h];generalize pad (row a)=Pa at *;generalize ls.map p7=LD at *;generalize ls.length=n at *;simp -implicitDefEqProofs [Zv,Zv_B,aw,e1,e2,hL,ht,hap,h64,List.replicate]
  ·rw [decide_eq_false (fun g=>h ⟨(uy a).2 g.1,g.2⟩)] at e2
   rw [if_neg h];generalize pad (row a)=Pa at *;generalize ls.map p7=LD at *;generalize ls.length=n at *;simp -implicitDefEqProofs [Zv,Zv_B,aw,e1,e2,hL,ht,hap,h64,List.replicate]
 ·rw [Ai (fun h=>by rw [hc] at h; cases h)]
  rw [hc] at e1;refine iw hT rfl ?_;generalize ls.map p7=LD at *;generalize ls.length=n at *;simp -implicitDefEqProofs [Zv,Zv_B,aw,e1,hL,ht,hap,h64,List.replicate]
def t5 (O:ap):Prop:=∀(p:Int) (l:List Int) (ls:List (List Int)),gw l→l.length=64→Tg ls→ls.length<1000→ask O F46 [(D.int .i64 p),(D.arr 64 .leaf (af .u8 l)),.sl (.arr 64 .leaf) (ls.map p7)]=some (D.int .i64 (lh p l ls))
theorem a0h {p:Int} {l:List Int} {ls:List (List Int)} (h1:k8 p ls=0) (h2:k8 p [l]=0):k8 p (ls++[l])=0:=by
 unfold k8 at h1 h2
 split at h1
 ·split at h2
  ·rename_i g1 g2
   unfold k8;rw [if_pos ⟨g1.1,by rw [List.all_append,az]; exact ⟨g1.2,g2.2⟩⟩]
  ·cases h2
 ·cases h1
open Classical in
theorem Vu (hT:T F46=some Z46) (hc:Ia (den T A)) (hmo:E7 (den T A)) (hdg:iu (den T A)) (hin:Xk (den T A)):t5 (den T A):=by
 intro p l ls hb hl ha hn;have e1:=hc p [l] (by intro x hx; simp at hx; subst hx; exact ⟨hl,hb⟩) (by simp)
 rw [show List.map p7 [l]=[(D.arr 64 .leaf (af .u8 l))] from rfl] at e1;have e2:=hc p ls ha (by omega)
 refine c9 hT rfl ?_;rcases wb p [l] with h1 | h1
 ·rw [h1] at e1
  rcases wb p ls with h2 | h2
  ·rw [h2] at e2
   obtain ⟨ip,a,hal,rfl⟩:=oa hb hl h1;rw [Bx hal (a0h h2 h1)];have e3:=hmo p a hal;have e4:=hdg p a hal;have e5:=hin ((a.len:Int)-1) 1 5
   by_cases hM:Monic a
   ·rw [decide_eq_true hM] at e3
    by_cases h:2≤a.len∧a.len≤6
    ·rw [decide_eq_true (show (1:Int)≤(a.len:Int)-1∧(a.len:Int)-1≤5 by omega)] at e5
     rw [if_pos ⟨hM,h⟩];generalize pad (row a)=Pa at *;generalize ls.map p7=LD at *;generalize (a.len:Int)-1=d at *;simp -implicitDefEqProofs [Z46,Z46_B,aw,e1,e2,e3,e4,e5,List.replicate]
    ·rw [decide_eq_false (show ¬ ((1:Int)≤(a.len:Int)-1∧(a.len:Int)-1≤5) by omega)] at e5
     rw [if_neg fun g=>h g.2]
     generalize pad (row a)=Pa at *;generalize ls.map p7=LD at *;generalize (a.len:Int)-1=d at *;simp -implicitDefEqProofs [Z46,Z46_B,aw,e1,e2,e3,e4,e5,List.replicate]
   ·rw [decide_eq_false hM] at e3
    rw [if_neg fun g=>hM g.1]
    generalize pad (row a)=Pa at *;generalize ls.map p7=LD at *;simp -implicitDefEqProofs [Z46,Z46_B,aw,e1,e2,e3,List.replicate]
  ·rw [Ai (fun h=>by rw [(va h).1] at h2; cases h2)]
   rw [h2] at e2;generalize ls.map p7=LD at *;simp -implicitDefEqProofs [Z46,Z46_B,aw,e1,e2,List.replicate]
 ·rw [Ai (fun h=>by rw [(va h).2] at h1; cases h1)]
  rw [h1] at e1;generalize ls.map p7=LD at *;simp -implicitDefEqProofs [Z46,Z46_B,aw,e1,List.replicate]
end Pe
namespace Pe
open Go Gq
variable {T:Nat→Option Fn} {A:ap}
section
variable {p:Int} [IsP p]
theorem IsFac.small {m:Fp p} (hm:m≠0) (hl:m.len≤13) {L:o9 p} (h:IsFac m L):(∀x∈L,2≤x.1.len∧x.1.len≤13∧1≤x.2∧x.2≤12)∧dgF L+1=m.len:=by
 refine ⟨fun x hx=>?_,?_⟩
 ·obtain ⟨q1,q2,q3,_⟩:=h.len hm hx
  exact ⟨q1,by omega,(h.ok.irr x hx).2.2,by omega⟩
 ·rw [←Ww h.ok]
  conv=>rhs; rw [h.eq]
  exact (Pol.len_Cmul (Pol.ld_ne hm) _).symm
end
section
variable {p:Int} [IsP p]
end
theorem xq {p:Int} {l:List Int} {ls:List (List Int)} (h:lh p l ls=0):∃(_:IsP p) (m:Fp p),l=pad (row m)∧Monic m∧2≤m.len∧m.len≤6:=by
 unfold lh at h
 split at h
 ·cases h
 ·split at h
  ·assumption
  ·cases h
section
variable {p:Int} [IsP p]
end
end Pe
namespace Pe
open Go Gq
section
variable {p:Int}
end
section
variable {p:Int} [IsP p]
end
end Pe
namespace Pe
open Go Gq
variable {T:Nat→Option Fn} {A:ap}
section
variable {p:Int} [IsP p]
end
section
variable {p:Int} [ip:IsP p] {M X:Fp p}
end
noncomputable def dgC (p:Int) (a:List Int) (lo hi:Int):Int:=if k8 p [a]≠0 then 1 else if lo≤((fe p a).len:Int)-1∧((fe p a).len:Int)-1≤hi then 0 else 2
def yv (O:ap) (F:Nat):Prop:=∀(p:Int) (a:List Int) (lo hi:Int),gw a→a.length=64→ask O F [(D.int .i64 p),(D.arr 64 .leaf (af .u8 a)),(D.int .i64 lo),(D.int .i64 hi)]=some (D.int .i64 (dgC p a lo hi))
theorem Oa (hT:T Fo=some Zo) (hpc:mu (den T A)) (hro:od (den T A)) (hdg:lg (den T A)) (hw:B4 (den T A)):yv (den T A) Fo:=by
 intro p a lo hi ha gl;have e1:=hpc p [a] (fun x hx=>by simp at hx; subst hx; exact ⟨gl,ha⟩) (by simp)
 rw [show [a].map p7=[(D.arr 64 .leaf (af .u8 a))] from rfl] at e1;unfold dgC;rcases wb p [a] with hc | hc
 ·rw [if_neg (by rw [hc]; omega)]
  rw [hc] at e1;obtain ⟨ip,X,hX,rfl⟩:=oa ha gl hc;have e2:=hro p X hX;have e3:=hdg (row X) (by rw [bi]; omega)
  rw [bi] at e3;have e4:=hw ((X.len:Int)-1) lo hi;rw [jn hX];refine c9 hT rfl ?_;generalize (X.len:Int)-1=d at *;generalize pad (row X)=Px at *;generalize row X=Rx at *
  by_cases h:lo≤d∧d≤hi
  ·rw [decide_eq_true h] at e4
   rw [if_pos h];simp -implicitDefEqProofs [Zo,Zo_B,aw,e1,e2,e3,e4,List.replicate]
  ·rw [decide_eq_false h] at e4
   rw [if_neg h];simp -implicitDefEqProofs [Zo,Zo_B,aw,e1,e2,e3,e4,List.replicate]
 ·rw [if_pos (by rw [hc]; omega)]
  rw [hc] at e1;refine c9 hT rfl ?_;simp -implicitDefEqProofs [Zo,Zo_B,aw,e1,List.replicate]
theorem a2u {p:Int} {a:List Int} {lo hi:Int} (ha:gw a) (gl:a.length=64) (h:dgC p a lo hi=0):∃(_:IsP p) (X:Fp p),a=pad (row X)∧lo≤(X.len:Int)-1∧(X.len:Int)-1≤hi∧X.len≤64:=by
 unfold dgC at h
 split at h
 ·cases h
 ·rename_i hc
  split at h
  ·rename_i h1
   obtain ⟨ip,X,hX,rfl⟩:=oa ha gl (by simpa using hc)
   rw [jn hX] at h1;exact ⟨ip,X,rfl,h1.1,h1.2,hX⟩
  ·cases h
def a63 (O:ap):Prop:=∀L:List D,ask O F1y [.sl .leaf L]=some (D.bool (decide ((4096:Int)<L.length)))
theorem Qq {p:Int} [IsP p] (a b:Fp p):k8 p [pad (row a),pad (row b)]=0:=yz [a,b]
def wz (O:ap):Prop:=∀(p:Int) [IsP p] (X M:Fp p),X.len≤64→M≠0→M.len≤64→ask O Fb [(D.int .i64 p),(D.arr 64 .leaf (af .u8 (pad (row X)))),(D.arr 64 .leaf (af .u8 (pad (row M))))]=some (.tup [(D.arr 64 .leaf (af .u8 (pad (row (X/M))))),(D.arr 64 .leaf (af .u8 (pad (row (X%M))))),(D.int .i64 0)])
theorem Lu (hT:T Fb=some Zb) (hpc:mu (den T A)) (hro:od (den T A)) (hdv:qq (den T A)) (hpo:Wj (den T A)):wz (den T A):=by
 intro p ip X M hX hM hl
 have e1:=hpc p [pad (row X),pad (row M)] (fun x hx=>by
  simp at hx;rcases hx with rfl | rfl
  ·exact ⟨c8 _,mi X⟩
  ·exact ⟨c8 _,mi M⟩) (by simp)
 rw [Qq,show [pad (row X),pad (row M)].map p7=[(D.arr 64 .leaf (af .u8 (pad (row X)))),(D.arr 64 .leaf (af .u8 (pad (row M))))] from rfl] at e1
 have e3:D.beq (.arr 64 .leaf .int) (D.arr 64 .leaf (af .u8 (pad (row M)))) (D.arr 64 .leaf (af .u8 (pad [])))=some false:=by
  rw [Xl (c8 _) (c8 _),decide_eq_false];intro h;rw [←dt (p:=p)] at h;exact hM ((Hb hl (by rw [Pol.len_zero]; omega)).1 h)
 have e4:=hro p X hX;have e5:=hro p M hl;have e6:=hdv p X M hM (by omega) (by omega)
 have hml:=Pol.len_mod X hM;have hdl:=Pol.len_div_le X hM;have e7:=hpo p (X/M) (by omega)
 have e8:=hpo p (X%M) (by omega)
 refine c9 hT rfl ?_;generalize pad (row (X/M))=Pq at *;generalize row (X/M)=Rq at *;generalize pad (row (X%M))=Pr at *;generalize row (X%M)=Rr at *;generalize pad (row X)=Px at *;generalize row X=Rx at *;generalize pad (row M)=Pm at *;generalize row M=Rm at *;simp -implicitDefEqProofs [Zb,Zb_B,aw,e1,e3,e4,e5,e6,e7,e8,List.replicate]
theorem agp (hT:T F1y=some Z1y):a63 (den T A):=by
 intro L;refine c9 hT rfl ?_;simp -implicitDefEqProofs [Z1y,Z1y_B]
theorem C9 {a m:List Int} (ha:gw a) (gl:a.length=64) (hm:gw m) (glm:m.length=64):Tg [a,m]:=fun x hx=>by
 simp at hx;rcases hx with rfl | rfl
 ·exact ⟨gl,ha⟩
 ·exact ⟨glm,hm⟩
def Cu (O:ap):Prop:=∀(p:Int) [IsP p] (a:Fp p),a.len≤64→ask O Fa [(D.int .i64 p),(D.arr 64 .leaf (af .u8 (pad (row a))))]=some (.tup [(D.int .i64 ((a.len:Int)-1)),(D.int .i64 0)])
theorem Vz (hT:T Fa=some Za) (hpc:mu (den T A)) (hro:od (den T A)) (hdg:lg (den T A)):Cu (den T A):=by
 intro p ip a hl;have e1:=hpc p [pad (row a)] (fun x hx=>by simp at hx; subst hx; exact ⟨c8 _,mi a⟩) (by simp)
 rw [M4,show [pad (row a)].map p7=[(D.arr 64 .leaf (af .u8 (pad (row a))))] from rfl] at e1;have e2:=hro p a hl;have e3:=hdg (row a) (by rw [bi]; omega)
 rw [bi] at e3;refine c9 hT rfl ?_;generalize (a.len:Int)-1=n at *;generalize pad (row a)=Px at *;generalize row a=Rx at *;simp -implicitDefEqProofs [Za,Za_B,aw,e1,e2,e3,List.replicate]
section
variable {p:Int}
end
section
variable {p:Int} [ip:IsP p] {M N X Y:Fp p}
end
theorem Or {p:Int} [IsP p] {a b:Fp p} {x y:Nat} (ha:a.len≤x) (hb:b.len≤y):(a*b).len≤x+y:=by
 by_cases h0:a=0
 ·rw [h0,Gq.zero_mul,Pol.len_zero]; omega
 ·by_cases h1:b=0
  ·rw [h1,Gq.mul_zero,Pol.len_zero]; omega
  ·have:=Pol.len_mul h0 h1
   omega
end Pe
namespace Pe
open Go Gq
section
variable {p:Int} [ip:IsP p]
variable {q:Fp p}
end
section
variable {p:Int}
variable {q:Fp p}
end
section
variable {p:Int} [ip:IsP p]
variable {q:Fp p}
end
section
variable {p:Int}
variable {q:Fp p}
end
section
variable {p:Int} [ip:IsP p]
variable {q:Fp p}
end
section
variable {K S:Type} [CR K] [CR S]
structure Hom (f:K→S):Prop where
 add:∀x y,f (x+y)=f x+f y
 mul:∀x y,f (x*y)=f x*f y
 one:f 1=1
theorem Hom.zero {f:K→S} (h:Hom f):f 0=0:=by
 have e:=h.add 0 0;rw [Gq.add_zero] at e;have e2:f 0+f 0-f 0=f 0:=bj [f 0] rfl;rw [←e,Gq.sub_self] at e2;exact e2.symm
noncomputable def evP (f:K→S) (z:S) (a:Pol K):S:=dz (fun i=>f (a.c i)*pw z i) a.len
variable {f:K→S} {z:S}
theorem Hom.pw {g:K→S} (h:Hom g) (a:K):∀n,g (Gq.pw a n)=Gq.pw (g a) n
 | 0=>h.one
 | n+1=>by rw [Gq.pw,Gq.pw,h.mul,Hom.pw h a n]
end
section
variable {S:Type} [CR S]
end
section
variable {p:Int} [IsP p]
end
section
variable {p:Int} [IsP p]
noncomputable def stp (m x:Fp p):Fp p:=(Pol.X*x+pw x p.toNat%m)%m
noncomputable def stI (m:Fp p):Nat→Fp p→Fp p
 | 0,x=>x
 | k+1,x=>stp m (stI m k x)
theorem Dm (m:Fp p):∀(k:Nat) (x:Fp p),stI m (k+1) x=stI m k (stp m x)
 | 0,_=>rfl
 | k+1,x=>by show stp m (stI m (k+1) x)=stp m (stI m k (stp m x)); rw [Dm m k x]
noncomputable def av (m x f:Fp p):Fp p:=dz (fun i=>Pol.C (f.c i)*stI m i x) f.len
theorem H4 {m x f:Fp p} {N:Nat} (h:f.len≤N):av m x f=dz (fun i=>Pol.C (f.c i)*stI m i x) N:=by
 obtain ⟨k,rfl⟩:=gv h;exact (N5 _ _ (fun i hi=>by rw [jt hi,Pol.C_zero,Gq.zero_mul]) k).symm
theorem o4 (m x:Fp p):Lin (av m x) where
 add f g:=by
  have h1:=ox f.len g.len;have h2:=m9 f.len g.len;rw [H4 h1,H4 h2,H4 (Pol.len_add_le h1 h2),←u5];exact ku fun i _=>by rw [Pol.c_add,Pol.C_add,Gq.add_mul]
 mul k f:=by
  rw [H4 (bh f.len),H4 (jg k f),←tu];exact ku fun i _=>by rw [Pol.c_Cmul,Pol.C_mul,Gq.mul_assoc]
theorem a7c (m x:Fp p) (c:Zp p):av m x (Pol.C c)=Pol.C c*x:=by
 rw [H4 (N:=1) (Pol.len_le fun i hi=>by rw [Pol.c_C,if_neg (by omega)])]
 show 0+Pol.C ((Pol.C c:Fp p).c 0)*x=_;rw [Gq.zero_add,Pol.c_C,if_pos rfl]
theorem aap (m x f:Fp p):av m x (Pol.X*f)=av m (stp m x) f:=by
 have hl:(Pol.X*f).len≤f.len+1:=Pol.len_le fun i hi=>by
  obtain ⟨j,rfl⟩:∃j,i=j+1:=⟨i-1,by omega⟩
  rw [Pol.c_Xmul,if_neg (by omega)]; exact jt (by omega)
 rw [H4 hl,vi,H4 (bh f.len)];rw [Pol.c_Xmul,if_pos rfl,Pol.C_zero,Gq.zero_mul,Gq.zero_add];exact ku fun i _=>by rw [Pol.c_Xmul,if_neg (by omega),Dm]; rfl
variable {m:Fp p}
theorem yx (hm:m≠0) (x:Fp p):(stp m x).len<m.len:=Pol.len_mod _ hm
theorem yw (hm:m≠0) {x:Fp p} (hx:x.len<m.len):∀k,(stI m k x).len<m.len
 | 0=>hx
 | _+1=>yx hm _
theorem ub (hm:m≠0) {x:Fp p} (hx:x.len<m.len) (f:Fp p):(av m x f).len<m.len:=by
 have:∀n,(dz (fun i=>Pol.C (f.c i)*stI m i x) n).len<m.len:=fun n=>by
  induction n with
  | zero=>show (0:Fp p).len<_; rw [Pol.len_zero]; exact Pol.len_pos hm
  | succ n ih=>
   have h1:=yw hm hx n;have h2:=jg (f.c n) (stI m n x);have:=Pol.len_add_le (a:=dz (fun i=>Pol.C (f.c i)*stI m i x) n) (b:=Pol.C (f.c n)*stI m n x) (n:=m.len-1) (by omega) (by omega)
   exact Nat.lt_of_le_of_lt this (by omega)
 exact this _
theorem Ek (hm:m≠0) (a:Fp p):Quo.mk m (a%m)=Quo.mk m a:=(Pol.mod_eq_iff hm).1 (Pol.mod_mod a hm)
theorem D3 (hm:m≠0) (x:Fp p):Quo.mk m (stp m x)=Quo.mk m Pol.X*Quo.mk m x+pw (Quo.mk m x) p.toNat:=by
 unfold stp;rw [Ek hm,Quo.mk_add,Quo.mk_mul,Ek hm,Quo.mk_pow]
theorem Q3 (hm:m≠0) {a b:Fp p} (ha:a.len<m.len) (hb:b.len<m.len) (h:Quo.mk m a=Quo.mk m b):a=b:=by
 have e:=(Pol.mod_eq_iff hm).2 h
 rwa [Pol.mod_small ha,Pol.mod_small hb] at e
theorem Xc (hm:m≠0) (x y:Fp p):stp m (x+y)=stp m x+stp m y:=by
 have h1:=yx hm x;have h2:=yx hm y;refine Q3 hm (yx hm _) (Nat.lt_of_le_of_lt (Pol.len_add_le (n:=m.len-1) (by omega) (by omega)) (by omega)) ?_
 rw [Quo.mk_add,D3 hm,D3 hm,D3 hm,Quo.mk_add,vk];exact bj [Quo.mk m Pol.X,Quo.mk m x,Quo.mk m y,pw (Quo.mk m x) p.toNat,pw (Quo.mk m y) p.toNat] rfl
theorem a5l (hm:m≠0) (k:Zp p) (x:Fp p):stp m (Pol.C k*x)=Pol.C k*stp m x:=by
 have h1:=yx hm x;have h2:=jg k (stp m x);refine Q3 hm (yx hm _) (by omega) ?_
 rw [Quo.mk_mul,D3 hm,D3 hm,Quo.mk_mul,qx];have e:pw (Quo.mk m (Pol.C k)) p.toNat=Quo.mk m (Pol.C k):=by rw [←Quo.mk_pow,←a27,ye]
 rw [e];exact bj [Quo.mk m Pol.X,Quo.mk m x,Quo.mk m (Pol.C k),pw (Quo.mk m x) p.toNat] rfl
theorem a47 (hm:m≠0):stp m 0=0:=by
 have:=a5l hm 0 0
 rwa [Pol.C_zero,Gq.zero_mul,Gq.zero_mul] at this
theorem Yj (hm:m≠0) (x y:Fp p):∀k,stI m k (x+y)=stI m k x+stI m k y
 | 0=>rfl
 | k+1=>by rw [stI,Yj hm x y k,Xc hm]; rfl
theorem a9y (hm:m≠0) (c:Zp p) (x:Fp p):∀k,stI m k (Pol.C c*x)=Pol.C c*stI m k x
 | 0=>rfl
 | k+1=>by rw [stI,a9y hm c x k,a5l hm]; rfl
theorem a4c (hm:m≠0) (x y f:Fp p):av m (x+y) f=av m x f+av m y f:=by
 unfold av;rw [←u5];exact ku fun i _=>by rw [Yj hm,Gq.mul_add]
theorem Nj (hm:m≠0) (k:Zp p) (x f:Fp p):av m (Pol.C k*x) f=Pol.C k*av m x f:=by
 unfold av;rw [←tu]
 exact ku fun i _=>by
  rw [a9y hm];exact bj [Pol.C k,Pol.C (f.c i),stI m i x] rfl
theorem abu (hm:m≠0) (x f:Fp p):stp m (av m x f)=av m (stp m x) f:=by
 have:∀n,stp m (dz (fun i=>Pol.C (f.c i)*stI m i x) n)=dz (fun i=>Pol.C (f.c i)*stI m i (stp m x)) n:=fun n=>by
  induction n with
  | zero=>exact a47 hm
  | succ n ih=>rw [dz,Xc hm,ih,a5l hm,dz,←Dm]; rfl
 exact this _
theorem Cz (hm:m≠0) (b:Fp p):∀(a x:Fp p),av m x (a*b)=av m (av m x b) a:=by
 have key:∀(n:Nat) (a:Fp p),a.lt n→∀x,av m x (a*b)=av m (av m x b) a:=fun n a ha=>Ou (P:=fun a=>∀x,av m x (a*b)=av m (av m x b) a)
  (fun x=>by rw [Gq.zero_mul,(o4 m x).zero,(o4 m _).zero])
  (fun c a ih x=>by
   have e:(Pol.C c+Pol.X*a)*b=Pol.C c*b+Pol.X*(a*b):=bj [Pol.C c,Pol.X,a,b] rfl;rw [e,(o4 m x).add,(o4 m x).mul,aap,ih,(o4 m _).add,a7c,aap,abu hm]) n a ha
 intro a x;obtain ⟨n,hn⟩:=a.fin;exact key n a hn x
theorem zi (hm:m≠0) (f:Fp p):av m 0 f=0:=by
 have:=Nj hm 0 0 f
 rwa [Pol.C_zero,Gq.zero_mul,Gq.zero_mul] at this
theorem MinR.dv (hm:m≠0) {x f a:Fp p} (h:MinR (av m x) a) (hf:av m x f=0):Dv a f:=by
 have e:=Pol.div_mod f a
 have h0:av m x (f%a)=0:=by
  have e1:f%a=f-f/a*a:=by
   have:f%a=f/a*a+f%a-f/a*a:=bj [f%a,f/a*a] rfl
   rwa [←e] at this
  rw [e1,(o4 m x).sub,hf,Cz hm,h.zero,zi hm];exact Gq.sub_self _
 have h1:=h.least _ (Pol.len_mod f h.mon.2) h0;exact (qw h.mon.2).2 h1
end
end Pe
namespace Pe
open Go Gq
variable {T:Nat→Option Fn} {A:ap}
def a6p (p d:Int):Prop:=0≤d∧d≤8∧p^d.toNat≤343
instance (p d:Int):Decidable (a6p p d):=by unfold a6p; infer_instance
theorem T5 {O:ap} {g:Nat} {first caps cs:List D} {P:D→Bool} (hF:u9 O g first caps cs P) (hs:Dy .leaf cs) (hl:cs.length<2000000):∀(m i:Nat),i+m=cs.length →
 dn O 0 (.loop ir_slices_IndexFunc_impl_row_impl_row_L0) ⟨[(0,.d (.sl .leaf cs)),(1,.d (.fn g first caps)),(7,(.d (.int .i64 cs.length))),(8,(.d (.int .i64 i)))],[]⟩ =
  if (cs.drop i).any P then some (.ret,⟨[(4,(.d (.int .i64 (nk P (cs.drop i) i))))],[]⟩) else some (.exit 0,⟨[(0,.d (.sl .leaf cs)),(1,.d (.fn g first caps)),(7,(.d (.int .i64 cs.length))),(8,(.d (.int .i64 cs.length))),(9,(.d (.bool false)))],[]⟩)
 | 0,i,hi=>by
  have:i=cs.length:=by omega
  subst this;rw [o8];exact cm (by simp -implicitDefEqProofs [ir_slices_IndexFunc_impl_row_impl_row_L0,aw])
 | m+1,i,hi=>by
  have hlt:i<cs.length:=by omega
  have h1:(i:Int)<cs.length:=by omega
  have hx:cs[i]? = some cs[i]:=b8 hlt;have hm:cs[i]∈cs:=ci hlt;have hc:=E3 (O:=O) (np:=0) (h:=[]) (news:=[]) hF.1 hF.2.1 (hF.2.2.1 _ hm) (hF.2.2.2 _ hm) rfl;have hsh:=hs _ hm;have w4:IntKind.i64.wrap ((i:Int)+1)=((i+1:Nat):Int):=(w64 (x:=(i:Int)+1) (by omega)).trans (by omega)
  rw [bx hlt];cases hp:P cs[i]
  ·rw [hp] at hc
   refine cg (s1:=⟨[(0,.d (.sl .leaf cs)),(1,.d (.fn g first caps)),(7,(.d (.int .i64 cs.length))),(8,(.d (.int .i64 ((i+1:Nat)))))],[]⟩) ?_ ?_
   ·simp -implicitDefEqProofs [ir_slices_IndexFunc_impl_row_impl_row_L0,aw,h1,hx,hsh,hc,w4]
   ·rw [T5 hF hs hl m (i+1) (by omega)]
    simp only [p5,hp,Bool.false_or,nk,b9,if_false]
  ·rw [hp] at hc
   have e:nk P (cs[i]::cs.drop (i+1)) i=i:=by simp [nk,hp]
   rw [e];simp only [p5,hp,Bool.true_or,if_true];exact lq (by simp -implicitDefEqProofs [ir_slices_IndexFunc_impl_row_impl_row_L0,aw,h1,hx,hsh,hc])
theorem a3f (hT:T F27=some Z27):jc (den T A) F27 .leaf:=by
 intro g first caps cs P hF hs hl;have h:=T5 hF hs hl cs.length 0 (cd _);rw [ef] at h;have e0:((0:Nat):Int)=0:=rfl;rw [e0] at h;refine c9 hT rfl ?_
 by_cases ha:cs.any P=true
 ·rw [if_pos ha] at h
  simp -implicitDefEqProofs [Z27,ir_slices_IndexFunc_impl_row_impl_row_B,h]
 ·rw [if_neg ha] at h
  have hn:nk P cs 0=-1:=by
   have hi:∀(ds:List D) (i:Nat),ds.any P=false→nk P ds i=-1:=by
    intro ds
    induction ds with
    | nil=>intro i _; rfl
    | cons d ds ih=>intro i hd; simp at hd; rw [nk,hd.1]; simpa using ih (i+1) (by simpa using hd.2)
   exact hi cs 0 (by simpa using ha)
  simp -implicitDefEqProofs [Z27,ir_slices_IndexFunc_impl_row_impl_row_B,h,hn]
section
variable {p:Int} [IsP p]
open Classical in
noncomputable def irB (a:Fp p):Bool:=decide (Monic a∧Irr a)
end
end Pe
