/-
  A part of the proof: an evaluator for a small form of the code, its soundness, and contracts of functions over it.
-/
import GoSem.Core.View
import Derived.Test.YtjanjcnncilddabGreatW1
import Derived.Test.YtjanjcnncilddabGreatW2

namespace Pe
open Go
variable {T:Nat→Option Fn} {A:ah}
theorem A5 {n p:Int} (hp:0<p):-p<n.tmod p∧n.tmod p<p:=by
 have hp0:p≠0:=by omega
 have e:=Int.tmod_eq_emod (a:=n) (b:=p);have g1:=dt n hp0;have g2:=cz n hp;refine ⟨?_,Int.tmod_lt_of_pos n hp⟩;rw [e]
 split
 ·omega
 ·rename_i hx
  have hx':n%p≠0:=fun h0=>hx (.inr (Int.dvd_of_emod_eq_zero h0))
  omega
theorem vj {n p:Int} (hp:0<p):(n.tmod p+p).tmod p=n%p:=by
 have e0:=A5 (n:=n) hp;rw [ct (by omega),Int.add_emod_right,Int.tmod_eq_emod]
 split
 ·simp
 ·rw [show ((p.natAbs:Nat):Int)=p by omega,Int.sub_emod,Int.emod_self,Int.sub_zero,m9 _ (Int.dvd_refl p),m9 _ (Int.dvd_refl p)]
def wx (O:ah):Prop:=∀p n:Int,0<p→p<1000000→-9000000000000000000≤n→n≤9000000000000000000→ask O F1l [(D.int .i64 p),(D.int .i64 n)]=some ((D.int .i64 (n%p)))
theorem a56 (hT:T F1l=some Z1l):wx (den T A):=by
 intro p n hp hp' hn hn';have hp0:p≠0:=by omega
 have e0:=A5 (n:=n) hp;have h1:IntKind.i64.wrap (n.tmod p+p)=n.tmod p+p:=w64 (by omega)
 refine bi hT rfl ?_;simp -implicitDefEqProofs [Z1l,Z1l_B,hp0,h1,vj hp]
def cf (l:List Int) (i:Nat):Int:=l.getD i 0
theorem fj {l:List Int} {i:Nat} (h:i<l.length):cf l i=l[i]:=by simp [cf,h]
theorem nj {l:List Int} {i:Nat} (h:l.length≤i):cf l i=0:=by simp [cf,h]
def Ux (O:ah):Prop:=∀(l:List Int) (i:Nat),i<9000000000000000000→ask O F1v [(D.sl .leaf (ab .i64 l)),(D.int .i64 i)]=some ((D.int .i64 (cf l i)))
theorem amp (hT:T F1v=some Z1v):Ux (den T A):=by
 intro l i hi;refine bi hT rfl ?_
 by_cases h:i<l.length
 ·have h1:l[i]? = some l[i]:=au h
  have h2:(i:Int)<(l.length:Int):=by omega
  simp -implicitDefEqProofs [Z1v,Z1v_B,h1,h2,ac,fj h]
 ·have h2:¬ (i:Int)<(l.length:Int):=by omega
  simp -implicitDefEqProofs [Z1v,Z1v_B,h2,ac,nj (Nat.le_of_not_lt h)]
def jz (l:List Int):Nat→Nat
 | 0=>0
 | n+1=>if cf l n=0 then jz l n else n+1
def trim (l:List Int):List Int:=l.take (jz l l.length)
theorem Ab (l:List Int):∀n,jz l n≤n
 | 0=>ba 0
 | n+1=>by
  simp only [jz]
  split
  ·have:=Ab l n; omega
  ·exact ba _
theorem Pz {O:ah} {l:List Int} (hl:l.length<1000000):∀(n:Nat),n≤l.length →
 dn O 0 (.loop Z20_L0) ⟨[(0,(.d (.sl .leaf (ab .i64 l)))),(3,(.d (.int .i64 n)))],[]⟩=some (.exit 0,⟨[(0,(.d (.sl .leaf (ab .i64 l)))),(3,(.d (.int .i64 (jz l n)))),(15,(.d (.bool false)))],[]⟩)
 | 0,_=>bt (by simp -implicitDefEqProofs [Z20_L0,ac,jz])
 | n+1,hn=>by
  have hlt:n<l.length:=by omega
  have h1:l[n]? = some l[n]:=au hlt;have h2:IntKind.i64.wrap (n:Int)=n:=w64 (by omega)
  have h3:(0:Int)<(n:Int)+1:=by omega
  by_cases h0:l[n]=0
  ·have e:jz l (n+1)=jz l n:=by simp [jz,fj hlt,h0]
   rw [e];exact bm (by simp -implicitDefEqProofs [Z20_L0,ac,h1,h2,h3,h0]) (Pz hl n (by omega))
  ·have e:jz l (n+1)=n+1:=by simp [jz,fj hlt,h0]
   rw [e];exact bt (by simp -implicitDefEqProofs [Z20_L0,ac,h1,h2,h3,h0])
def vz (O:ah):Prop:=∀l:List Int,l.length<1000000→ask O F20 [(D.sl .leaf (ab .i64 l))]=some ((D.sl .leaf (ab .i64 (trim l))))
theorem a2c (hT:T F20=some Z20):vz (den T A):=by
 intro l hl;refine bi hT rfl ?_;have ht:=Ab l l.length;simp -implicitDefEqProofs [Z20,Z20_B,Pz hl l.length (ba _),ht,trim]
def upd (f:Nat→Int):Nat→Nat→List Int→List Int
 | 0,_,l=>l
 | m+1,i,l=>upd f m (i+1) (l.set i (f i))
theorem zr (f:Nat→Int):∀(m i:Nat) (l:List Int),(upd f m i l).length=l.length
 | 0,_,_=>rfl
 | m+1,i,l=>by rw [upd,zr f m]; simp
theorem L0 (f:Nat→Int):∀(m i:Nat) (l:List Int) (j:Nat),(upd f m i l)[j]? = if i≤j∧j<i+m∧j<l.length then some (f j) else l[j]?
 | 0,i,l,j=>by rw [upd,if_neg (by omega)]
 | m+1,i,l,j=>by
  rw [upd,L0 f m,cr]
  by_cases h1:i+1≤j∧j<i+1+m∧j<l.length
  ·rw [if_pos h1,if_pos (by omega)]
  ·rw [if_neg h1]
   by_cases h2:j=i
   ·subst h2
    by_cases h3:j<l.length
    ·rw [if_pos (by omega),c9 h3]
    ·rw [if_neg (by omega),cb (by simpa using h3),cb (by omega)]
   ·rw [ce (jo h2),if_neg (by omega)]
theorem L6 (f:Nat→Int) (n:Nat) (l:List Int) (hl:l.length=n):upd f n 0 l=(List.range n).map f:=by
 apply fh;intro j;rw [L0,gi]
 by_cases hj:j<n
 ·rw [if_pos (by omega),gt hj]; rfl
 ·rw [if_neg (by omega),cb (by omega),cb (by simpa using hj)]; rfl
def Small (b:Int) (l:List Int):Prop:=∀x∈l,-b≤x∧x≤b
theorem Small.le {b:Int} {l:List Int} (h:Small b l) (hb:0≤b) (i:Nat):-b≤cf l i∧cf l i≤b:=by
 rw [Pe.cf,cx];cases hq:l[i]? with
 | none=>simp; omega
 | some x=>exact h x (jk hq)
def lin (p:Int) (a b:List Int) (k:Int) (i:Nat):Int:=(cf a i+k*cf b i)%p
def aay (p:Int) (a b:List Int) (k:Int):List Int:=trim ((List.range (max a.length b.length)).map (lin p a b k))
theorem il {x y b c:Int} (hx:-b≤x∧x≤b) (hy:-c≤y∧y≤c) (_hb:0≤b):-(b*c)≤x*y∧x*y≤b*c:=by
 have hc:0≤c:=by omega
 have h1:0≤(b-x)*(c+y):=fm (by omega) (by omega)
 have h2:0≤(b+x)*(c-y):=fm (by omega) (by omega)
 have h3:0≤(b-x)*(c-y):=fm (by omega) (by omega)
 have h4:0≤(b+x)*(c+y):=fm (by omega) (by omega)
 have e1:(b-x)*(c+y)=b*c+b*y-x*c-x*y:=by simp only [Int.sub_mul,uj]; omega
 have e2:(b+x)*(c-y)=b*c-b*y+x*c-x*y:=by simp only [Int.add_mul,Int.mul_sub]; omega
 have e3:(b-x)*(c-y)=b*c-b*y-x*c+x*y:=by simp only [Int.sub_mul,Int.mul_sub]; omega
 have e4:(b+x)*(c+y)=b*c+b*y+x*c+x*y:=by simp only [Int.add_mul,uj]; omega
 constructor <;> omega
theorem Q4 {O:ah} (hat:Ux O) (hred:wx O) {p k:Int} {a b:List Int} (hp:0<p∧p<1000000) (ha:Small 1000000 a) (hb:Small 1000000 b) (hk:-1000000≤k∧k≤1000000) {n:Nat} (hn:n<1000000) :
 ∀(m i:Nat) (cur:List Int),i+m=n→cur.length=n →
 dn O 0 (.loop Z1b_L0) ⟨[(0,(.d (.int .i64 p))),(1,(.d (.sl .leaf (ab .i64 a)))),(2,(.d (.sl .leaf (ab .i64 b)))),(3,(.d (.int .i64 k))),(9,.sl 0 [] 0 n (some n)),(18,(.d (.int .i64 n))),(19,(.d (.int .i64 i)))],[.sl false .leaf (ab .i64 cur)]⟩ =
  some (.exit 0,⟨[(0,(.d (.int .i64 p))),(1,(.d (.sl .leaf (ab .i64 a)))),(2,(.d (.sl .leaf (ab .i64 b)))),(3,(.d (.int .i64 k))),(9,.sl 0 [] 0 n (some n)),(18,(.d (.int .i64 n))),(19,(.d (.int .i64 n))),(20,(.d (.bool false)))],[.sl false .leaf (ab .i64 (upd (lin p a b k) m i cur))]⟩)
 | 0,i,cur,hi,hc=>by
  have:i=n:=by omega
  subst this;exact bt (by simp -implicitDefEqProofs [Z1b_L0,ac,upd])
 | m+1,i,cur,hi,hc=>by
  have h1:(i:Int)<(n:Int):=by omega
  have hin:i<n:=by omega
  have e1:=hat a i (by omega)
  have e2:=hat b i (by omega)
  have ga:=ha.le (by omega) i
  have gb:=hb.le (by omega) i
  have gm:=il hk gb (by omega)
  have w1:IntKind.i64.wrap (k*cf b i)=k*cf b i:=w64 (by omega)
  have w2:IntKind.i64.wrap (cf a i+k*cf b i)=cf a i+k*cf b i:=w64 (by omega)
  have e3:=hred p (cf a i+k*cf b i) hp.1 hp.2 (by omega) (by omega)
  have w3:IntKind.i64.wrap ((i:Int)+1)=((i+1:Nat):Int):=by rw [w64 (by omega)]; omega
  have hcur:cur[i]? = some cur[i]:=au (by omega)
  refine bm ?_ (Q4 hat hred hp ha hb hk hn m (i+1) (cur.set i (lin p a b k i)) (by omega) (by simpa using hc))
  simp -implicitDefEqProofs [Z1b_L0,ac,h1,hin,e1,e2,w1,w2,e3,w3,hcur,lin]
def By (O:ah):Prop:=∀(p k:Int) (a b:List Int),0<p→p<1000000→Small 1000000 a→Small 1000000 b→-1000000≤k→k≤1000000→a.length<1000000→b.length<1000000 →
 ask O F1b [(D.int .i64 p),(D.sl .leaf (ab .i64 a)),(D.sl .leaf (ab .i64 b)),(D.int .i64 k)]=some ((D.sl .leaf (ab .i64 (aay p a b k))))
theorem a3t (hT:T F1b=some Z1b) (hat:Ux (den T A)) (hred:wx (den T A)) (htr:vz (den T A)):By (den T A):=by
 intro p k a b hp hp' ha hb hk hk' hla hlb;have hl:=Q4 hat hred ⟨hp,hp'⟩ ha hb ⟨hk,hk'⟩ (n:=max a.length b.length) (by omega) (max a.length b.length) 0 (List.replicate (max a.length b.length) 0) (by omega) (by simp)
 rw [L6 _ _ _ (by simp)] at hl
 have e1:=htr ((List.range (max a.length b.length)).map (lin p a b k)) (by simp; omega)
 have emax:(if a.length<b.length then (b.length:Int) else (a.length:Int))=((max a.length b.length:Nat):Int):=by
  split <;> omega
 have h64:max a.length b.length*8≤1099511627776:=by omega
 refine bi hT rfl ?_;unfold aay;generalize max a.length b.length=n at *;rw [show ((0:Nat):Int)=0 from rfl] at hl;have htk:((List.range n).map (lin p a b k)).take n=(List.range n).map (lin p a b k):=bb (by simp)
 simp -implicitDefEqProofs [Z1b,Z1b_B,emax,h64,hl,e1,htk]
end Pe

namespace Pe
open Go
variable {T:Nat→Option Fn} {A:ah}
def wj (x:Int) (b:List Int) (i:Nat):Nat→Nat→List Int→List Int
 | 0,_,cur=>cur
 | m+1,k,cur=>wj x b i m (k+1) (cur.set (i+k) (cf cur (i+k)+x*cf b k))
theorem va (x:Int) (b:List Int) (i:Nat):∀(m k:Nat) (cur:List Int),(wj x b i m k cur).length=cur.length
 | 0,_,_=>rfl
 | m+1,k,cur=>by rw [wj,va]; simp
theorem tk (l:List Int) (i:Nat) (x:Int) (j:Nat):cf (l.set i x) j=if j=i∧i<l.length then x else cf l j:=by
 unfold cf;rw [cx,cx,List.getElem?_set]
 by_cases h:i=j
 ·subst h
  by_cases h2:i<l.length
  ·simp [h2]
  ·simp [h2]
 ·rw [if_neg h,if_neg (by omega)]
theorem Mb (x:Int) (b:List Int) (i:Nat):∀(m k:Nat) (cur:List Int) (j:Nat),i+k+m≤cur.length→cf (wj x b i m k cur) j=cf cur j+if i+k≤j∧j<i+k+m then x*cf b (j-i) else 0
 | 0,k,cur,j,_=>by rw [wj,if_neg (by omega)]; omega
 | m+1,k,cur,j,h=>by
  rw [wj,Mb x b i m (k+1) _ j (by rw [cr]; omega),tk]
  by_cases hj:j=i+k
  ·subst hj
   rw [if_pos ⟨rfl,by omega⟩,if_neg (by omega),if_pos (by omega),show i+k-i=k by omega]
   omega
  ·rw [if_neg (by omega)]
   by_cases h2:i+k+1≤j∧j<i+k+1+m
   ·rw [if_pos (by omega),if_pos (by omega)]
   ·rw [if_neg (by omega),if_neg (by omega)]
theorem Small.of_cf {B:Int} (_hB:0≤B) {l:List Int} (h:∀j,-B≤cf l j∧cf l j≤B):Small B l:=by
 intro x hx;obtain ⟨j,hj,rfl⟩:=im hx;have:=h j
 rwa [fj hj] at this
theorem Us {O:ah} {p x:Int} {b:List Int} {i la nb:Nat} {a:List Int} (hx:-1000≤x∧x≤1000) (hb:Small 1000 b) (hi:i<10000) (hbl:b.length<10000) {n:Nat} (hn:i+b.length≤n) (hn':n<1000000) :
 ∀(m k:Nat) (cur:List Int),k+m=b.length→cur.length=n→(∀j,i+k≤j→-9000000000000≤cf cur j∧cf cur j≤9000000000000) →
 dn O 0 (.loop Z1r_L0) ⟨[(0,(.d (.int .i64 p))),(2,(.d (.sl .leaf (ab .i64 b)))),(7,.sl 0 [] 0 n (some n)),(8,(.d (.int .i64 i))),(9,(.d (.int .i64 x))),(29,(.d (.sl .leaf (ab .i64 a)))),(30,(.d (.int .i64 la))),(31,(.d (.int .i64 nb))),(36,(.d (.sl .leaf (ab .i64 b)))),(37,(.d (.int .i64 b.length))),(38,(.d (.int .i64 k)))],[.sl false .leaf (ab .i64 cur)]⟩ =
  some (.exit 2,⟨[(0,(.d (.int .i64 p))),(2,(.d (.sl .leaf (ab .i64 b)))),(7,.sl 0 [] 0 n (some n)),(8,(.d (.int .i64 i))),(9,(.d (.int .i64 x))),(29,(.d (.sl .leaf (ab .i64 a)))),(30,(.d (.int .i64 la))),(31,(.d (.int .i64 nb))),(36,(.d (.sl .leaf (ab .i64 b)))),(37,(.d (.int .i64 b.length))),(38,(.d (.int .i64 b.length))),(39,(.d (.bool false)))],[.sl false .leaf (ab .i64 (wj x b i m k cur))]⟩)
 | 0,k,cur,hk,hc,hs=>by
  have:k=b.length:=by omega
  subst this;exact bt (by simp -implicitDefEqProofs [Z1r_L0,ac,wj])
 | m+1,k,cur,hk,hc,hs=>by
  have h1:(k:Int)<(b.length:Int):=by omega
  have hkl:k<b.length:=by omega
  have hbk:b[k]=cf b k:=(fj hkl).symm;have w1:IntKind.i64.wrap ((i:Int)+(k:Int))=((i+k:Nat):Int):=by rw [w64 (by omega)]; omega
  have hik:i+k<n:=by omega
  have t1:(0:Int)≤(i:Int)+(k:Int):=by omega
  have t2:((i:Int)+(k:Int)).toNat=i+k:=by omega
  have hikc:i+k<cur.length:=by omega
  have hck:cur[i+k]=cf cur (i+k):=(fj hikc).symm;have gb:=hb.le (by omega) k
  have gc:=hs (i+k) (by omega)
  have gm:=il hx gb (by omega)
  have w2:IntKind.i64.wrap (x*cf b k)=x*cf b k:=w64 (by omega)
  have w3:IntKind.i64.wrap (cf cur (i+k)+x*cf b k)=cf cur (i+k)+x*cf b k:=w64 (by omega)
  have w4:IntKind.i64.wrap ((k:Int)+1)=((k+1:Nat):Int):=by rw [w64 (by omega)]; omega
  refine bm ?_ (Us hx hb hi hbl hn hn' m (k+1) (cur.set (i+k) (cf cur (i+k)+x*cf b k)) (by omega) (by simpa using hc) (fun j hj=>by rw [tk,if_neg (by omega)]; exact hs j (by omega)))
  simp -implicitDefEqProofs [Z1r_L0,ac,hkl,hbk,w1,t1,t2,hik,hikc,hck,w2,w3,w4]
def Ak (a b:List Int):Nat→Nat→List Int→List Int
 | 0,_,cur=>cur
 | m+1,i,cur=>Ak a b m (i+1) (wj (cf a i) b i b.length 0 cur)
theorem Gt (a b:List Int):∀(m i:Nat) (cur:List Int),(Ak a b m i cur).length=cur.length
 | 0,_,_=>rfl
 | m+1,i,cur=>by rw [Ak,Gt,va]
theorem Vf {x:Int} {b:List Int} {i:Nat} {cur:List Int} {M:Int} (hx:-1000≤x∧x≤1000) (hb:Small 1000 b) (hl:i+b.length≤cur.length) (h:∀j,-M≤cf cur j∧cf cur j≤M) (j:Nat) :
 -(M+1000000)≤cf (wj x b i b.length 0 cur) j∧cf (wj x b i b.length 0 cur) j≤M+1000000:=by
 rw [Mb _ _ _ _ _ _ _ (by omega)]
 have h1:=h j;have h2:=il hx (hb.le (by omega) (j-i)) (by omega)
 split <;> omega
theorem a76 {O:ah} {p:Int} {a b:List Int} (ha:Small 1000 a) (hb:Small 1000 b) (hal:a.length<10000) (hbl:b.length<10000) (hb0:0<b.length) {n:Nat} (hn:n=a.length+b.length-1) :
 ∀(m i:Nat) (cur:List Int),i+m=a.length→cur.length=n→(∀j,-((i:Int)*1000000)≤cf cur j∧cf cur j≤(i:Int)*1000000) →
 dn O 0 (.loop Z1r_L1) ⟨[(0,(.d (.int .i64 p))),(2,(.d (.sl .leaf (ab .i64 b)))),(7,.sl 0 [] 0 n (some n)),(29,(.d (.sl .leaf (ab .i64 a)))),(30,(.d (.int .i64 a.length))),(31,(.d (.int .i64 i)))],[.sl false .leaf (ab .i64 cur)]⟩ =
  some (.exit 0,⟨[(0,(.d (.int .i64 p))),(2,(.d (.sl .leaf (ab .i64 b)))),(7,.sl 0 [] 0 n (some n)),(29,(.d (.sl .leaf (ab .i64 a)))),(30,(.d (.int .i64 a.length))),(31,(.d (.int .i64 a.length))),(32,(.d (.bool false)))],[.sl false .leaf (ab .i64 (Ak a b m i cur))]⟩):=by
 intro m
 induction m with
 | zero=>
  intro i cur hi hc hs;have:i=a.length:=by omega
  subst this;exact bt (by simp -implicitDefEqProofs [Z1r_L1,ac,Ak])
 | succ m ih=>
  intro i cur hi hc hs;have hil:i<a.length:=by omega
  have hai:a[i]=cf a i:=(fj hil).symm;have gx:=ha.le (by omega) i
  have q1:i<10000:=by omega
  have q2:i+b.length≤n:=by omega
  have q3:n<1000000:=by omega
  have q4:∀j,i+0≤j→-9000000000000≤cf cur j∧cf cur j≤9000000000000:=fun j _=>by
   have h9:=hs j;omega
  have h0:=Us (O:=O) (p:=p) (a:=a) (la:=a.length) (nb:=i) gx hb q1 hbl q2 q3 b.length 0 cur (bn _) hc q4;have e0:((0:Nat):Int)=0:=rfl;rw [e0] at h0;have w4:IntKind.i64.wrap ((i:Int)+1)=((i+1:Nat):Int):=(w64 (x:=(i:Int)+1) (by omega)).trans (by omega)
  have hnew:∀j,-(((i+1:Nat):Int)*1000000)≤cf (wj (cf a i) b i b.length 0 cur) j∧cf (wj (cf a i) b i b.length 0 cur) j≤((i+1:Nat):Int)*1000000:=by
   intro j;have:=Vf (x:=cf a i) (b:=b) (i:=i) (cur:=cur) gx hb (by omega) hs j
   omega
  refine bm ?_ (ih (i+1) (wj (cf a i) b i b.length 0 cur) (by omega) (by rw [va]; exact hc) hnew)
  simp -implicitDefEqProofs [Z1r_L1,ac,hil,hai,h0,w4]
theorem Tg {O:ah} {p:Int} {out:List Int} (hp:0<p) {n:Nat} (hn:n<1000000) (hout:out.length=n) (hpos:∀j,-9000000000000000≤cf out j∧cf out j≤9000000000000000) :
 ∀(m i:Nat) (cur:List Int),i+m=n→cur.length=n→(∀j,i≤j→cf cur j=cf out j) →
 dn O 0 (.loop Z1r_L2) ⟨[(0,(.d (.int .i64 p))),(7,.sl 0 [] 0 n (some n)),(56,.sl 0 [] 0 n (some n)),(57,(.d (.int .i64 n))),(58,(.d (.int .i64 i)))],[.sl false .leaf (ab .i64 cur)]⟩ =
  some (.exit 4,⟨[(0,(.d (.int .i64 p))),(7,.sl 0 [] 0 n (some n)),(56,.sl 0 [] 0 n (some n)),(57,(.d (.int .i64 n))),(58,(.d (.int .i64 n))),(59,(.d (.bool false)))],[.sl false .leaf (ab .i64 (upd (fun j=>(cf out j).tmod p) m i cur))]⟩)
 | 0,i,cur,hi,hc,hs=>by
  have:i=n:=by omega
  subst this;exact bt (by simp -implicitDefEqProofs [Z1r_L2,ac,upd])
 | m+1,i,cur,hi,hc,hs=>by
  have hp0:p≠0:=by omega
  have hin:i<n:=by omega
  have hic:i<cur.length:=by omega
  have hci:cur[i]=cf out i:=by rw [←fj hic]; exact hs i (by omega)
  have w4:IntKind.i64.wrap ((i:Int)+1)=((i+1:Nat):Int):=by rw [w64 (by omega)]; omega
  refine bm ?_ (Tg hp hn hout hpos m (i+1) (cur.set i ((cf out i).tmod p)) (by omega) (by simpa using hc) (fun j hj=>by rw [tk,if_neg (by omega)]; exact hs j (by omega)))
  simp -implicitDefEqProofs [Z1r_L2,ac,hin,hic,hci,hp0,w4]
def conv (a b:List Int):Nat→Nat→Int
 | 0,_=>0
 | m+1,j=>conv a b m j+if m≤j then cf a m*cf b (j-m) else 0
theorem M2 (a b:List Int):∀(m i:Nat) (cur:List Int) (j:Nat),i+m=a.length→a.length+b.length≤cur.length+1→0<b.length→(cf cur j=conv a b i j)→(∀j',cf cur j'=conv a b i j')→cf (Ak a b m i cur) j=conv a b (i+m) j
 | 0,i,cur,j,_,_,_,h,_=>h
 | m+1,i,cur,j,hi,hl,hb,h,hall=>by
  have step:∀j',cf (wj (cf a i) b i b.length 0 cur) j'=conv a b (i+1) j':=by
   intro j';rw [Mb _ _ _ _ _ _ _ (by omega),hall j',conv]
   by_cases h1:i+0≤j'∧j'<i+0+b.length
   ·rw [if_pos h1,if_pos (by omega)]
   ·rw [if_neg h1]
    by_cases h2:i≤j'
    ·rw [if_pos h2,nj (l:=b) (by omega),Int.mul_zero]
    ·rw [if_neg h2]
  rw [Ak,show i+(m+1)=(i+1)+m by omega]
  exact M2 a b m (i+1) _ j (by omega) (by rw [va]; exact hl) hb (step j) step
def Can (p:Int) (l:List Int):Prop:=∀x∈l,0≤x∧x<p
theorem Can.small {p:Int} {l:List Int} (h:Can p l) {b:Int} (hp:p≤b):Small b l:=fun x hx=>by have:=h x hx; omega
theorem Can.le {p:Int} {l:List Int} (h:Can p l) (hp:0<p) (i:Nat):0≤cf l i∧cf l i<p:=by
 by_cases hi:i<l.length
 ·rw [fj hi]; exact h _ (bj hi)
 ·rw [nj (by omega)]; omega
theorem Br {p:Int} {a b:List Int} (hp:0<p) (ha:Can p a) (hb:Can p b):∀m j,0≤conv a b m j
 | 0,j=>by simp [conv]
 | m+1,j=>by
  have:=Br hp ha hb m j;rw [conv]
  split
  ·have:=fm (ha.le hp m).1 (hb.le hp (j-m)).1
   omega
  ·omega
def mul (p:Int) (a b:List Int):List Int:=trim ((List.range (a.length+b.length-1)).map fun j=>conv a b a.length j%p)
theorem Hr {l:List Int}:∀n,(∀j,j<n→cf l j=0)→jz l n=0
 | 0,_=>rfl
 | n+1,h=>by
  rw [jz,if_pos (h n (by omega))]
  exact Hr n fun j hj=>h j (by omega)
theorem Vi (a:List Int):∀m j,conv a [] m j=0
 | 0,_=>rfl
 | m+1,j=>by rw [conv,Vi a m j,nj (l:=[]) (by simp)]; simp
theorem pt (f:Nat→Int) (n j:Nat) (hj:j<n):cf ((List.range n).map f) j=f j:=by
 rw [fj (by simpa using hj)]; simp
theorem S0 (p:Int) (b:List Int):mul p [] b=[]:=by
 unfold mul trim;rw [Hr,ff];intro j hj;rw [pt _ _ _ (by simpa using hj)]
 simp [conv]
theorem O7 (p:Int) (a:List Int):mul p a []=[]:=by
 unfold mul trim;rw [Hr,ff];intro j hj;rw [pt _ _ _ (by simpa using hj),Vi]
 simp
def Rq (O:ah):Prop:=∀(p:Int) (a b:List Int),0<p→p<1000→Can p a→Can p b→a.length<10000→b.length<10000 →
 ask O F1r [(D.int .i64 p),(D.sl .leaf (ab .i64 a)),(D.sl .leaf (ab .i64 b))]=some ((D.sl .leaf (ab .i64 (mul p a b))))
theorem ab7 (hT:T F1r=some Z1r) (htr:vz (den T A)):Rq (den T A):=by
 intro p a b hp hp' ha hb hal hbl;refine bi hT rfl ?_
 by_cases h1:a=[]
 ·subst h1
  rw [S0];simp -implicitDefEqProofs [Z1r,Z1r_B,ac,gy]
 ·by_cases h2:b=[]
  ·subst h2
   have hal0:a.length≠0:=by simpa using h1
   rw [O7];simp -implicitDefEqProofs [Z1r,Z1r_B,ac,gy,h1]
  ·have g1:0<a.length:=qe.2 h1
   have g2:0<b.length:=qe.2 h2
   have l1:=a76 (O:=den T A) (p:=p) (ha.small (b:=1000) (by omega)) (hb.small (b:=1000) (by omega)) hal hbl g2 rfl a.length 0 (List.replicate (a.length+b.length-1) 0) (bn _) (by simp) (fun j=>by
    have:cf (List.replicate (a.length+b.length-1) 0) j=0:=by
     by_cases hj:j<a.length+b.length-1
     ·rw [fj (by simpa using hj)]; simp
     ·exact nj (by simp; omega)
    rw [this]; simp)
   have hz:∀j,cf (List.replicate (a.length+b.length-1) (0:Int)) j=0:=fun j=>by
    by_cases hj:j<a.length+b.length-1
    ·rw [fj (by simpa using hj)]; simp
    ·exact nj (by simp; omega)
   have hrl:(Ak a b a.length 0 (List.replicate (a.length+b.length-1) 0)).length=a.length+b.length-1:=by rw [Gt]; simp
   have hrc:∀j,cf (Ak a b a.length 0 (List.replicate (a.length+b.length-1) 0)) j=conv a b a.length j:=fun j=>by
    have:=M2 a b a.length 0 (List.replicate (a.length+b.length-1) 0) j (bn _) (by simp; omega) g2 (by rw [hz]; rfl) (fun j'=>by rw [hz]; rfl)
    rwa [bn] at this
   have hcb:∀m j,conv a b m j≤(m:Int)*1000000:=by
    intro m
    induction m with
    | zero=>intro j; simp [conv]
    | succ m ih=>
     intro j;have h3:=ih j;have h4:=il ((ha.small (b:=1000) (by omega)).le (by omega) m) ((hb.small (b:=1000) (by omega)).le (by omega) (j-m)) (by omega)
     rw [conv]
     split <;> omega
   have l2:=Tg (O:=den T A) (p:=p) (out:=Ak a b a.length 0 (List.replicate (a.length+b.length-1) 0)) hp (n:=a.length+b.length-1) (by omega) hrl (fun j=>by
    rw [hrc];have h3:=Br hp ha hb a.length j;have h4:=hcb a.length j;omega) (a.length+b.length-1) 0 (Ak a b a.length 0 (List.replicate (a.length+b.length-1) 0)) (bn _) hrl (fun _ _=>rfl)
   rw [L6 _ _ _ hrl] at l2
   have hfun:(fun j=>(cf (Ak a b a.length 0 (List.replicate (a.length+b.length-1) 0)) j).tmod p)=fun j=>conv a b a.length j%p:=by
    funext j
    rw [hrc,ct (Br hp ha hb a.length j)]
   rw [hfun] at l2;have e0:((0:Nat):Int)=0:=rfl;rw [e0] at l1 l2;have e1:=htr ((List.range (a.length+b.length-1)).map fun j=>conv a b a.length j%p) (by simp; omega)
   have n1:a.length≠0:=by omega
   have n2:b.length≠0:=by omega
   have w1:IntKind.i64.wrap ((a.length:Int)+(b.length:Int))=(a.length:Int)+(b.length:Int):=w64 (by omega)
   have w2:IntKind.i64.wrap ((a.length:Int)+(b.length:Int)-1)=((a.length+b.length-1:Nat):Int):=(w64 (x:=(a.length:Int)+(b.length:Int)-1) (by omega)).trans (by omega)
   have h8:(a.length+b.length-1)*8≤1099511627776:=by omega
   unfold mul;generalize a.length+b.length-1=n at *;have htk:((List.range n).map fun j=>conv a b a.length j%p).take n=(List.range n).map fun j=>conv a b a.length j%p:=bb (by simp)
   simp -implicitDefEqProofs [Z1r,Z1r_B,ac,h1,h2,w1,w2,h8,l1,l2,e1,htk]
end Pe

namespace Pe
open Go
variable {T:Nat→Option Fn} {A:ah}
def H5 (p n:Int):Nat→Int
 | 0=>1
 | m+1=>H5 p n m*n%p
def inv (p n:Int):Int:=H5 p n (p-2).toNat
theorem Ss {p n:Int} (hp:1<p):∀m,0≤H5 p n m∧H5 p n m<p
 | 0=>by simp [H5]; omega
 | m+1=>⟨dt _ (by omega),cz _ (by omega)⟩
theorem Ph {O:ah} {p n:Int} (hp:1<p) (hp':p<1000) (hn:0≤n∧n<p) {k:Nat} (hk:(k:Int)=p-2):∀(m i:Nat),i+m=k →
 dn O 0 (.loop Z1g_L0) ⟨[(0,(.d (.int .i64 p))),(1,(.d (.int .i64 n))),(5,(.d (.int .i64 (H5 p n i)))),(7,(.d (.int .i64 k))),(8,(.d (.int .i64 i)))],[]⟩=some (.exit 0,⟨[(0,(.d (.int .i64 p))),(1,(.d (.int .i64 n))),(5,(.d (.int .i64 (H5 p n k)))),(7,(.d (.int .i64 k))),(8,(.d (.int .i64 k))),(9,(.d (.bool false)))],[]⟩)
 | 0,i,hi=>by
  have:i=k:=by omega
  subst this;exact bt (by simp -implicitDefEqProofs [Z1g_L0,ac])
 | m+1,i,hi=>by
  have hik:i<k:=by omega
  have g:=Ss (n:=n) hp i;have hp0:p≠0:=by omega
  have gm:=il (x:=H5 p n i) (y:=n) (b:=1000) (c:=1000) (by omega) (by omega) (by omega)
  have w1:IntKind.i64.wrap (H5 p n i*n)=H5 p n i*n:=w64 (by omega)
  have w2:(H5 p n i*n).tmod p=H5 p n (i+1):=ct (fm g.1 hn.1);have w4:IntKind.i64.wrap ((i:Int)+1)=((i+1:Nat):Int):=(w64 (x:=(i:Int)+1) (by omega)).trans (by omega)
  refine bm ?_ (Ph hp hp' hn hk m (i+1) (by omega))
  simp -implicitDefEqProofs [Z1g_L0,ac,hik,hp0,w1,w2,w4]
def py (O:ah):Prop:=∀p n:Int,1<p→p<1000→0≤n→n<p→ask O F1g [(D.int .i64 p),(D.int .i64 n)]=some ((D.int .i64 (inv p n)))
theorem a3w (hT:T F1g=some Z1g):py (den T A):=by
 intro p n hp hp' hn hn';have hk:(((p-2).toNat:Nat):Int)=p-2:=by omega
 have hl:=Ph (O:=den T A) hp hp' ⟨hn,hn'⟩ hk (p-2).toNat 0 (by omega)
 have w1:IntKind.i64.wrap (p-2)=(((p-2).toNat:Nat):Int):=(w64 (x:=p-2) (by omega)).trans (by omega)
 have e0:((0:Nat):Int)=0:=rfl;rw [e0] at hl;have e1:H5 p n 0=1:=rfl;rw [e1] at hl;refine bi hT rfl ?_;unfold inv;generalize (p-2).toNat=k at *;simp -implicitDefEqProofs [Z1g,Z1g_B,w1,hl]
def o7 (O:ah):Prop:=∀l:List Int,l.length<1000000→ask O F1w [(D.sl .leaf (ab .i64 l))]=some ((D.int .i64 ((l.length:Int)-1)))
theorem a7p (hT:T F1w=some Z1w):o7 (den T A):=by
 intro l hl;have w1:IntKind.i64.wrap ((l.length:Int)-1)=(l.length:Int)-1:=w64 (by omega)
 refine bi hT rfl ?_;simp -implicitDefEqProofs [Z1w,Z1w_B,w1]
def Jg (l:List Int):Int:=cf l (l.length-1)
def xw (O:ah):Prop:=∀l:List Int,l.length<1000000→ask O F1y [(D.sl .leaf (ab .i64 l))]=some ((D.int .i64 (Jg l)))
theorem acz (hT:T F1y=some Z1y):xw (den T A):=by
 intro l hl;refine bi hT rfl ?_
 by_cases h:l=[]
 ·subst h
  simp -implicitDefEqProofs [Z1y,Z1y_B,ac,gy,Jg,cf]
 ·have h1:0<l.length:=qe.2 h
  have w1:IntKind.i64.wrap ((l.length:Int)-1)=((l.length-1:Nat):Int):=(w64 (x:=(l.length:Int)-1) (by omega)).trans (by omega)
  have h2:l.length-1<l.length:=by omega
  have h3:l[l.length-1]? = some (Jg l):=by
   rw [au h2]; exact congrArg some (fj h2).symm
  have h4:(l.length:Int)≠0:=by omega
  simp -implicitDefEqProofs [Z1y,Z1y_B,ac,h,w1,h3]
def Ma (O:ah):Prop:=∀n a b:Int,ask O F2a [(D.int .i64 n),(D.int .i64 a),(D.int .i64 b)]=some ((D.bool (decide (a≤n∧n≤b))))
theorem a89 (hT:T F2a=some Z2a):Ma (den T A):=by
 intro n a b;refine bi hT rfl ?_
 by_cases h:a≤n <;> simp -implicitDefEqProofs [Z2a,Z2a_B,h]
def isP (p:Int):Bool:=decide (p=2∨p=3∨p=5∨p=7)
def Hg (O:ah):Prop:=∀p:Int,ask O F17 [(D.int .i64 p)]=some ((D.bool (isP p)))
theorem a1r (hT:T F17=some Z17):Hg (den T A):=by
 intro p;refine bi hT rfl ?_
 by_cases h2:p=2
 ·simp -implicitDefEqProofs [Z17,Z17_B,h2,isP]
 ·by_cases h3:p=3
  ·simp -implicitDefEqProofs [Z17,Z17_B,h3,isP]
  ·by_cases h5:p=5
   ·simp -implicitDefEqProofs [Z17,Z17_B,h5,isP]
   ·simp -implicitDefEqProofs [Z17,Z17_B,h2,h3,h5,isP]
def Sv (O:ah):Prop:=∀(p k:Int) (a:List Int),0<p→p<1000000→Small 1000000 a→-1000000≤k→k≤1000000→a.length<1000000 →
 ask O F1p [(D.int .i64 p),(D.sl .leaf (ab .i64 a)),(D.int .i64 k)]=some ((D.sl .leaf (ab .i64 (aay p [] a k))))
theorem a9j (hT:T F1p=some Z1p) (hc:By (den T A)):Sv (den T A):=by
 intro p k a hp hp' ha hk hk' hl;have e1:=hc p k [] a hp hp' (by intro x hx; simp at hx) ha hk hk' (by simp) hl
 rw [gy] at e1;refine bi hT rfl ?_;simp -implicitDefEqProofs [Z1p,Z1p_B,e1]
def Et (O:ah):Prop:=ask O F18 []=some ((D.sl .leaf (ab .i64 ([0,1]))))
theorem a64 (hT:T F18=some Z18):Et (den T A):=by
 refine bi hT rfl ?_;simp -implicitDefEqProofs [Z18,Z18_B,ab,List.replicate]
end Pe

namespace Pe
open Go
variable {T:Nat→Option Fn} {A:ah}
def o6 (p q:Int) (b:List Int) (i:Nat):Nat→Nat→List Int→List Int
 | 0,_,cur=>cur
 | m+1,k,cur=>o6 p q b i m (k+1) (cur.set (i+k) ((cf cur (i+k)-q*cf b k)%p))
theorem nm (p q:Int) (b:List Int) (i:Nat):∀(m k:Nat) (cur:List Int),(o6 p q b i m k cur).length=cur.length
 | 0,_,_=>rfl
 | m+1,k,cur=>by rw [o6,nm]; simp
theorem B6 (p q:Int) (b:List Int) (i:Nat):∀(m k:Nat) (cur:List Int) (j:Nat),i+k+m≤cur.length→cf (o6 p q b i m k cur) j=if i+k≤j∧j<i+k+m then (cf cur j-q*cf b (j-i))%p else cf cur j
 | 0,k,cur,j,_=>by rw [o6,if_neg (by omega)]
 | m+1,k,cur,j,h=>by
  rw [o6,B6 p q b i m (k+1) _ j (by rw [cr]; omega),tk]
  by_cases hj:j=i+k
  ·subst hj
   rw [if_neg (by omega),if_pos ⟨rfl,by omega⟩,if_pos (by omega),show i+k-i=k by omega]
  ·have e:(if j=i+k∧i+k<cur.length then (cf cur (i+k)-q*cf b k)%p else cf cur j)=cf cur j:=if_neg fun h=>hj h.1
   rw [e]
   by_cases h2:i+k+1≤j∧j<i+k+1+m
   ·rw [if_pos (by omega),if_pos (by omega)]
   ·rw [if_neg (by omega),if_neg (by omega)]
theorem Can.of_cf {p:Int} {l:List Int} (h:∀j,j<l.length→0≤cf l j∧cf l j<p):Can p l:=by
 intro x hx;obtain ⟨j,hj,rfl⟩:=im hx;have:=h j hj
 rwa [fj hj] at this
theorem H1 {p q:Int} {b:List Int} {i:Nat} (hp:0<p) {m k:Nat} {cur:List Int} (hl:i+k+m≤cur.length) (hc:Can p cur):Can p (o6 p q b i m k cur):=by
 apply Can.of_cf;intro j hj;rw [B6 _ _ _ _ _ _ _ _ hl]
 split
 ·exact ⟨dt _ (by omega),cz _ hp⟩
 ·exact hc.le hp j
theorem a26 {O:ah} (hred:wx O) {p q by_:Int} {b quo:List Int} {i la nq:Nat} {cp:Option Nat} (hp:0<p) (hp':p<1000) (hq:0≤q∧q<p) (hb:Can p b) (hi:i<10000) (hbl:b.length<10000) (hn:i+b.length≤la) (hn':la<1000000) :
 ∀(m k:Nat) (cur:List Int),k+m=b.length→cur.length=la→Can p cur →
 dn O 0 (.loop Z1c_L0) ⟨[(0,(.d (.int .i64 p))),(2,(.d (.sl .leaf (ab .i64 b)))),(8,.sl 0 [] 0 la cp),(9,.sl 1 [] 0 nq (some nq)),(10,(.d (.int .i64 by_))),(11,(.d (.int .i64 i))),(12,(.d (.int .i64 q))),(57,(.d (.sl .leaf (ab .i64 b)))),(58,(.d (.int .i64 b.length))),(59,(.d (.int .i64 k)))],[.sl false .leaf (ab .i64 cur),.sl false .leaf (ab .i64 quo)]⟩ =
  some (.exit 2,⟨[(0,(.d (.int .i64 p))),(2,(.d (.sl .leaf (ab .i64 b)))),(8,.sl 0 [] 0 la cp),(9,.sl 1 [] 0 nq (some nq)),(10,(.d (.int .i64 by_))),(11,(.d (.int .i64 i))),(12,(.d (.int .i64 q))),(57,(.d (.sl .leaf (ab .i64 b)))),(58,(.d (.int .i64 b.length))),(59,(.d (.int .i64 b.length))),(60,(.d (.bool false)))],[.sl false .leaf (ab .i64 (o6 p q b i m k cur)),.sl false .leaf (ab .i64 quo)]⟩):=by
 intro m
 induction m with
 | zero=>
  intro k cur hk hc hcan;have:k=b.length:=by omega
  subst this;exact bt (by simp -implicitDefEqProofs [Z1c_L0,ac,o6])
 | succ m ih=>
  intro k cur hk hc hcan;have hkl:k<b.length:=by omega
  have hbk:b[k]=cf b k:=(fj hkl).symm;have hik:i+k<la:=by omega
  have hikc:i+k<cur.length:=by omega
  have hck:cur[i+k]=cf cur (i+k):=(fj hikc).symm;have t1:(0:Int)≤(i:Int)+(k:Int):=by omega
  have t2:((i:Int)+(k:Int)).toNat=i+k:=by omega
  have w1:IntKind.i64.wrap ((i:Int)+(k:Int))=((i+k:Nat):Int):=(w64 (x:=(i:Int)+(k:Int)) (by omega)).trans (by omega)
  have gb:=hb.le hp k;have gc:=hcan.le hp (i+k);have gm:=il (x:=q) (y:=cf b k) (b:=1000) (c:=1000) (by omega) (by omega) (by omega)
  have w2:IntKind.i64.wrap (q*cf b k)=q*cf b k:=w64 (by omega)
  have w3:IntKind.i64.wrap (cf cur (i+k)-q*cf b k)=cf cur (i+k)-q*cf b k:=w64 (by omega)
  have w4:IntKind.i64.wrap ((k:Int)+1)=((k+1:Nat):Int):=(w64 (x:=(k:Int)+1) (by omega)).trans (by omega)
  have e3:=hred p (cf cur (i+k)-q*cf b k) hp (by omega) (by omega) (by omega)
  have hcan':Can p (cur.set (i+k) ((cf cur (i+k)-q*cf b k)%p)):=by
   intro x hx;rcases dh hx with h | h
   ·exact hcan x h
   ·subst h; exact ⟨dt _ (by omega),cz _ hp⟩
  refine bm ?_ (ih (k+1) (cur.set (i+k) ((cf cur (i+k)-q*cf b k)%p)) (by omega) (by simpa using hc) hcan')
  simp -implicitDefEqProofs [Z1c_L0,ac,hkl,hbk,w1,t1,t2,hik,hikc,hck,w2,w3,w4,e3]
def dv (p by_:Int) (b:List Int):Nat→List Int×List Int→List Int×List Int
 | 0,r=>r
 | c+1,(cur,quo)=>
  let q:=cf cur (c+b.length-1)*by_%p
  dv p by_ b c (o6 p q b c b.length 0 cur,quo.set c q)
theorem a2t {O:ah} (hred:wx O) {p by_:Int} {b:List Int} {la nq:Nat} {cp:Option Nat} (hp:0<p) (hp':p<1000) (hby:0≤by_∧by_<p) (hb:Can p b) (hb0:0<b.length) (hn:nq+b.length=la+1) (hn':la<10000) :
 ∀(c:Nat) (cur quo:List Int),c≤nq→cur.length=la→quo.length=nq→Can p cur →
 dn O 0 (.loop Z1c_L1) ⟨[(0,(.d (.int .i64 p))),(2,(.d (.sl .leaf (ab .i64 b)))),(8,.sl 0 [] 0 la cp),(9,.sl 1 [] 0 nq (some nq)),(10,(.d (.int .i64 by_))),(11,(.d (.int .i64 ((c:Int)-1))))],[.sl false .leaf (ab .i64 cur),.sl false .leaf (ab .i64 quo)]⟩ =
  some (.exit 0,⟨[(0,(.d (.int .i64 p))),(2,(.d (.sl .leaf (ab .i64 b)))),(8,.sl 0 [] 0 la cp),(9,.sl 1 [] 0 nq (some nq)),(10,(.d (.int .i64 by_))),(11,(.d (.int .i64 (-1)))),(38,(.d (.bool false)))],[.sl false .leaf (ab .i64 (dv p by_ b c (cur,quo)).1),.sl false .leaf (ab .i64 (dv p by_ b c (cur,quo)).2)]⟩):=by
 intro c
 induction c with
 | zero=>
  intro cur quo hc h1 h2 hcan;exact bt (by simp -implicitDefEqProofs [Z1c_L1,ac,dv])
 | succ c ih=>
  intro cur quo hc h1 h2 hcan;have hp0:p≠0:=by omega
  have t0:(((c+1:Nat):Int)-1)=(c:Int):=by omega
  rw [t0];have hil:c+b.length-1<cur.length:=by omega
  have hil2:c+b.length-1<la:=by omega
  have hci:cur[c+b.length-1]=cf cur (c+b.length-1):=(fj hil).symm;have gc:=hcan.le hp (c+b.length-1);have w1:IntKind.i64.wrap ((c:Int)+(b.length:Int))=(c:Int)+(b.length:Int):=w64 (by omega)
  have w2:IntKind.i64.wrap ((c:Int)+(b.length:Int)-1)=((c+b.length-1:Nat):Int):=(w64 (x:=(c:Int)+(b.length:Int)-1) (by omega)).trans (by omega)
  have gm:=il (x:=cf cur (c+b.length-1)) (y:=by_) (b:=1000) (c:=1000) (by omega) (by omega) (by omega)
  have w3:IntKind.i64.wrap (cf cur (c+b.length-1)*by_)=cf cur (c+b.length-1)*by_:=w64 (by omega)
  have w4:(cf cur (c+b.length-1)*by_).tmod p=cf cur (c+b.length-1)*by_%p:=ct (fm gc.1 hby.1);have w5:IntKind.i64.wrap ((c:Int)-1)=(c:Int)-1:=w64 (by omega)
  have hcq:c<quo.length:=by omega
  have hcn:c<nq:=by omega
  have hq:0≤cf cur (c+b.length-1)*by_%p∧cf cur (c+b.length-1)*by_%p<p:=⟨dt _ hp0,cz _ hp⟩;have l0:=a26 (by_:=by_) (quo:=quo.set c (cf cur (c+b.length-1)*by_%p)) (nq:=nq) (cp:=cp) hred hp hp' hq hb (i:=c) (by omega) (by omega) (la:=la) (by omega) (by omega) b.length 0 cur (bn _) h1 hcan
  have e0:((0:Nat):Int)=0:=rfl;rw [e0] at l0;have ih':=ih (o6 p (cf cur (c+b.length-1)*by_%p) b c b.length 0 cur) (quo.set c (cf cur (c+b.length-1)*by_%p)) (by omega) (by rw [nm]; exact h1) (by simpa using h2) (H1 hp (by omega) hcan)
  refine bm ?_ ih';simp -implicitDefEqProofs [Z1c_L1,ac,hp0,w1,w2,hil,hil2,hci,w3,w4,w5,hcq,hcn,l0]
end Pe

namespace Gq
class CR (α:Type) extends Zero α,One α,Add α,Mul α,Neg α,Sub α where
 add_zero:∀a:α,a+0=a
 add_comm:∀a b:α,a+b=b+a
 add_assoc:∀a b c:α,a+b+c=a+(b+c)
 mul_one:∀a:α,a*1=a
 mul_comm:∀a b:α,a*b=b*a
 mul_assoc:∀a b c:α,a*b*c=a*(b*c)
 mul_add:∀a b c:α,a*(b+c)=a*b+a*c
 add_neg:∀a:α,a + -a=0
 sub_eq:∀a b:α,a-b=a + -b
section
variable {α:Type} [CR α]
theorem add_zero (a:α):a+0=a:=CR.add_zero a
theorem add_comm (a b:α):a+b=b+a:=CR.add_comm a b
theorem add_assoc (a b c:α):a+b+c=a+(b+c):=CR.add_assoc a b c
theorem mul_one (a:α):a*1=a:=CR.mul_one a
theorem mul_comm (a b:α):a*b=b*a:=CR.mul_comm a b
theorem mul_assoc (a b c:α):a*b*c=a*(b*c):=CR.mul_assoc a b c
theorem mul_add (a b c:α):a*(b+c)=a*b+a*c:=CR.mul_add a b c
theorem add_neg (a:α):a + -a=0:=CR.add_neg a
theorem sub_eq (a b:α):a-b=a + -b:=CR.sub_eq a b
end
instance:CR Int where
 add_zero:=Int.add_zero
 add_comm:=Int.add_comm
 add_assoc:=Int.add_assoc
 mul_one:=sb
 mul_comm:=kc
 mul_assoc:=ye
 mul_add:=uj
 add_neg:=Int.add_right_neg
 sub_eq:=fun _ _=>Int.sub_eq_add_neg
section
variable {α:Type} [CR α]
def pw (a:α):Nat→α
 | 0=>1
 | n+1=>pw a n*a
instance (priority:=100):HPow α Nat α:=⟨pw⟩
theorem pow_zero (a:α):a^0=1:=rfl
theorem pow_succ (a:α) (n:Nat):a^(n+1)=a^n*a:=rfl
theorem zero_add (a:α):0+a=a:=by rw [add_comm,add_zero]
theorem a0s (a:α):-a+a=0:=by rw [add_comm,add_neg]
theorem one_mul (a:α):1*a=a:=by rw [mul_comm,mul_one]
theorem add_mul (a b c:α):(a+b)*c=a*c+b*c:=by rw [mul_comm,mul_add,mul_comm c,mul_comm c]
theorem u6 (a b c:α):a+(b+c)=b+(a+c):=by rw [←add_assoc,add_comm a,add_assoc]
theorem mul_left_comm (a b c:α):a*(b*c)=b*(a*c):=by rw [←mul_assoc,mul_comm a,mul_assoc]
theorem Nw {a b c:α} (h:a+b=a+c):b=c:=by
 have:-a+(a+b)=-a+(a+c):=by rw [h]
 rwa [←add_assoc,←add_assoc,a0s,zero_add,zero_add] at this
theorem mul_zero (a:α):a*0=0:=by
 apply Nw (a:=a*0);rw [←mul_add,add_zero,add_zero]
theorem zero_mul (a:α):0*a=0:=by rw [mul_comm,mul_zero]
theorem Hc {a b:α} (h:a+b=0):b=-a:=Nw (a:=a) (by rw [h,add_neg])
theorem neg_mul (a b:α):-a*b=-(a*b):=Hc (by rw [←add_mul,add_neg,zero_mul])
theorem a0w (a:α):- -a=a:=(Hc (a0s a)).symm
theorem qj:-(0:α)=0:=(Hc (add_zero 0)).symm
theorem xg (a b:α):-(a+b)=-a + -b:=by
 apply (Hc _).symm;rw [add_assoc,u6 b,←add_assoc,add_neg,zero_add,add_neg]
def nc:Nat→α
 | 0=>0
 | n+1=>nc n+1
theorem E7 (m n:Nat):nc (m+n)=(nc m+nc n:α):=by
 induction n with
 | zero=>exact (add_zero _).symm
 | succ n ih=>rw [←jf,nc,nc,ih,add_assoc]
theorem Rw (m n:Nat):nc (m*n)=(nc m*nc n:α):=by
 induction n with
 | zero=>exact (mul_zero _).symm
 | succ n ih=>rw [Nat.mul_succ,E7,nc,ih,mul_add,mul_one]
def ic:Int→α
 | .ofNat n=>nc n
 | .negSucc n=>-nc (n+1)
theorem Sx:ic 0=(0:α):=rfl
theorem Y2:ic 1=(1:α):=zero_add 1
theorem I4 (m n:Nat):ic ((m:Int)-n)=(nc m + -nc n:α):=by
 by_cases h:n≤m
 ·obtain ⟨k,rfl⟩:=ia h
  have:((n+k:Nat):Int)-n=(k:Nat):=by omega
  rw [this];show nc k=_;rw [E7,add_comm (nc n),add_assoc,add_neg,add_zero]
 ·obtain ⟨k,rfl⟩:=ia (show m+1≤n by omega)
  have:(m:Int)-((m+1+k:Nat):Int)=Int.negSucc k:=by omega
  rw [this];show -nc (k+1)=_;rw [show m+1+k=m+(k+1) by omega,E7 m,xg,←add_assoc,add_neg,zero_add]
theorem Jy (j:Int):∃m n:Nat,j=(m:Int)-n:=by
 cases j with
 | ofNat m=>exact ⟨m,0,by simp⟩
 | negSucc n=>exact ⟨0,n+1,by omega⟩
theorem W6 (j k:Int):ic (j+k)=(ic j+ic k:α):=by
 obtain ⟨a,b,rfl⟩:=Jy j;obtain ⟨c,d,rfl⟩:=Jy k;rw [show ((a:Int)-b)+((c:Int)-d)=((a+c:Nat):Int)-((b+d:Nat):Int) by omega,I4,I4,I4,E7,E7,xg,add_assoc,add_assoc,u6 (nc c)]
theorem aej (j:Int):ic (-j)=(-ic j:α):=Hc (by rw [←W6,Int.add_right_neg]; rfl)
theorem adt (j k:Int):ic (j*k)=(ic j*ic k:α):=by
 obtain ⟨a,b,rfl⟩:=Jy j;obtain ⟨c,d,rfl⟩:=Jy k
 have e:((a:Int)-b)*((c:Int)-d)=((a*c+b*d:Nat):Int)-((a*d+b*c:Nat):Int):=by
  simp only [Int.sub_mul,Int.mul_sub,Int.natCast_add,Int.natCast_mul]; omega
 rw [e,I4,I4,I4,E7,E7,Rw,Rw,Rw,Rw,add_mul,mul_add,mul_add,neg_mul,neg_mul,mul_comm (nc a) (-nc d),neg_mul,mul_comm (nc b) (-nc d),neg_mul,a0w,xg,mul_comm (nc d) (nc a),mul_comm (nc d) (nc b)];simp only [add_assoc,u6,add_comm]
inductive RE where
 | zero | one
 | i (k:Int)
 | v (n:Nat)
 | add (a b:RE) | mul (a b:RE) | sub (a b:RE)
 | neg (a:RE)
 | pow (a:RE) (n:Nat)
def RE.ev (env:List α):RE→α
 | .zero=>0
 | .one=>1
 | .i k=>ic k
 | .v n=>(env[n]?).getD 0
 | .add a b=>a.ev env+b.ev env
 | .mul a b=>a.ev env*b.ev env
 | .sub a b=>a.ev env-b.ev env
 | .neg a=>-a.ev env
 | .pow a n=>pw (a.ev env) n
abbrev Mon:=List Nat
def aak (n:Nat):Mon→Mon
 | []=>[n]
 | m::r=>if Nat.ble n m then n::m::r else m::aak n r
def aaa:Mon→Mon→Mon
 | [],b=>b
 | n::a,b=>aak n (aaa a b)
def ltM:Mon→Mon→Bool
 | [],[]=>false
 | [],_::_=>true
 | _::_,[]=>false
 | a::r,b::s=>if Nat.beq a b then ltM r s else Nat.blt a b
def eqM:Mon→Mon→Bool
 | [],[]=>true
 | a::r,b::s=>Nat.beq a b&&eqM r s
 | _,_=>false
abbrev Pl:=List (Mon×Int)
def Wu (m:Mon) (k:Int):Pl→Pl
 | []=>if k=0 then [] else [(m,k)]
 | (m',k')::r=>if eqM m m' then (if k+k'=0 then r else (m,k+k')::r) else if ltM m m' then (if k=0 then (m',k')::r else (m,k)::(m',k')::r) else (m',k')::Wu m k r
def a3u:Pl→Pl→Pl
 | [],b=>b
 | (m,k)::a,b=>Wu m k (a3u a b)
def Yg (m:Mon) (k:Int):Pl→Pl
 | []=>[]
 | (m',k')::r=>Wu (aaa m m') (k*k') (Yg m k r)
def a68:Pl→Pl→Pl
 | [],_=>[]
 | (m,k)::a,b=>a3u (Yg m k b) (a68 a b)
def a92 (a:Pl):Nat→Pl
 | 0=>[([],1)]
 | n+1=>a68 (a92 a n) a
def RE.nf:RE→Pl
 | .zero=>[]
 | .one=>[([],1)]
 | .i k=>Wu [] k []
 | .v n=>[([n],1)]
 | .add a b=>a3u a.nf b.nf
 | .mul a b=>a68 a.nf b.nf
 | .sub a b=>a3u a.nf (Yg [] (-1) b.nf)
 | .neg a=>Yg [] (-1) a.nf
 | .pow a n=>a92 a.nf n
def eqP:Pl→Pl→Bool
 | [],[]=>true
 | (m,k)::a,(m',k')::b=>eqM m m'&&decide (k=k')&&eqP a b
 | _,_=>false
def evM (env:List α):Mon→α
 | []=>1
 | n::m=>(env[n]?).getD 0*evM env m
def evP (env:List α):Pl→α
 | []=>0
 | (m,k)::r=>ic k*evM env m+evP env r
theorem Y8:∀{a b:Mon},eqM a b=true→a=b
 | [],[],_=>rfl
 | x::a,y::b,h=>by
  simp only [eqM,av] at h;rw [Nat.eq_of_beq_eq_true h.1,Y8 h.2]
theorem a4h:∀{a b:Pl},eqP a b=true→a=b
 | [],[],_=>rfl
 | (m,k)::a,(m',k')::b,h=>by
  simp only [eqP,av,decide_eq_true_eq] at h;rw [Y8 h.1.1,h.1.2,a4h h.2]
theorem Yw (env:List α) (n:Nat):∀m,evM env (aak n m)=(env[n]?).getD 0*evM env m
 | []=>rfl
 | m::r=>by
  unfold aak
  split
  ·rfl
  ·rw [evM,evM,Yw env n r,mul_left_comm]
theorem a13 (env:List α):∀a b,evM env (aaa a b)=evM env a*evM env b
 | [],b=>(one_mul _).symm
 | n::a,b=>by rw [aaa,Yw,a13 env a b,evM,mul_assoc]
theorem Js (env:List α) (m:Mon) (k:Int):∀r,evP env (Wu m k r)=ic k*evM env m+evP env r
 | []=>by
  unfold Wu
  split
  ·rename_i h; rw [h,Sx,zero_mul,zero_add]
  ·rfl
 | (m',k')::r=>by
  unfold Wu
  split
  ·rename_i h
   obtain rfl:=Y8 h
   split
   ·rename_i h2
    rw [evP,←add_assoc,←add_mul,←W6,h2,Sx,zero_mul,zero_add]
   ·rw [evP,evP,W6,add_mul,add_assoc]
  ·split
   ·split
    ·rename_i h; rw [h,Sx,zero_mul,zero_add]
    ·rfl
   ·rw [evP,Js env m k r,evP,u6]
theorem Jz (env:List α):∀a b,evP env (a3u a b)=evP env a+evP env b
 | [],b=>(zero_add _).symm
 | (m,k)::a,b=>by rw [a3u,Js,Jz env a b,evP,add_assoc]
theorem Ry (env:List α) (m:Mon) (k:Int):∀r,evP env (Yg m k r)=ic k*evM env m*evP env r
 | []=>(mul_zero _).symm
 | (m',k')::r=>by
  rw [Yg,Js,Ry env m k r,evP,mul_add,a13,adt,mul_assoc,mul_assoc,mul_left_comm (ic k')];simp only [mul_assoc]
theorem Sb (env:List α):∀a b,evP env (a68 a b)=evP env a*evP env b
 | [],b=>(zero_mul _).symm
 | (m,k)::a,b=>by rw [a68,Jz,Ry,Sb env a b,evP,add_mul]
theorem a5z (env:List α):evP env [([],1)]=1:=by simp only [evP,evM,Y2,mul_one,add_zero]
theorem Yn (env:List α) (a:Pl):∀n,evP env (a92 a n)=pw (evP env a) n
 | 0=>a5z env
 | n+1=>by rw [a92,Sb,Yn env a n]; rfl
theorem a9t (a b:α):a * -b=-(a*b):=by rw [mul_comm,neg_mul,mul_comm]
theorem a6s (env:List α) (a:Pl):evP env (Yg [] (-1) a)=-evP env a:=by
 rw [Ry,evM,mul_one,aej,Y2,neg_mul,one_mul]
theorem Dd (env:List α):∀e:RE,evP env e.nf=e.ev env
 | .zero=>rfl
 | .one=>a5z env
 | .i k=>by rw [RE.nf,Js,evM,mul_one,evP,add_zero]; rfl
 | .v n=>by simp only [RE.nf,evP,evM,Y2,one_mul,mul_one,add_zero]; rfl
 | .add a b=>by rw [RE.nf,Jz,Dd env a,Dd env b]; rfl
 | .mul a b=>by rw [RE.nf,Sb,Dd env a,Dd env b]; rfl
 | .sub a b=>by rw [RE.nf,Jz,a6s,Dd env a,Dd env b,←sub_eq]; rfl
 | .neg a=>by rw [RE.nf,a6s,Dd env a]; rfl
 | .pow a n=>by rw [RE.nf,Yn,Dd env a]; rfl
class Ix {α:Type} (env:List α) (x:α) (n:outParam Nat):Prop where
 h:env[n]? = some x
instance (priority:=1000) {l:List α} {x:α}:Ix (x::l) x 0:=⟨rfl⟩
instance (priority:=500) {l:List α} {x y:α} {n:Nat} [h:Ix l x n]:Ix (y::l) x (n+1):=⟨by simpa using h.h⟩
class Rf (env:List α) (x:α) (e:outParam RE):Prop where
 h:e.ev env=x
variable {env:List α} {x y:α} {a b:RE}
instance:Rf env (0:α) .zero:=⟨rfl⟩
instance:Rf env (1:α) .one:=⟨rfl⟩
instance {k:Int}:Rf env (ic k:α) (.i k):=⟨rfl⟩
instance [h:Rf env x a] [h':Rf env y b]:Rf env (x+y) (.add a b):=⟨by rw [RE.ev,h.h,h'.h]⟩
instance [h:Rf env x a] [h':Rf env y b]:Rf env (x*y) (.mul a b):=⟨by rw [RE.ev,h.h,h'.h]⟩
instance [h:Rf env x a] [h':Rf env y b]:Rf env (x-y) (.sub a b):=⟨by rw [RE.ev,h.h,h'.h]⟩
instance [h:Rf env x a]:Rf env (-x) (.neg a):=⟨by rw [RE.ev,h.h]⟩
instance {n:Nat} [h:Rf env x a]:Rf env (x^n) (.pow a n):=⟨by rw [RE.ev,h.h]; rfl⟩
instance (priority:=10) {n:Nat} [h:Ix env x n]:Rf env x (.v n):=⟨by rw [RE.ev,h.h]; rfl⟩
theorem bo (env:List α) {x y:α} {a b:RE} [h:Rf env x a] [h':Rf env y b] (e:eqP a.nf b.nf=true):x=y:=by
 rw [←h.h,←h'.h,←Dd,←Dd,a4h e]
end
end Gq

namespace Gq
section
variable {R:Type} [CR R]
def ad0 (m:R):Setoid R where
 r a b:=∃c,a=b+m*c
 iseqv:={
  refl:=fun a=>⟨0,by rw [mul_zero,add_zero]⟩
  symm:=fun {a b} ⟨c,h⟩=>⟨-c,by rw [h]; exact bo [b,m,c] rfl⟩
  trans:=fun {a b c} ⟨u,h⟩ ⟨v,h'⟩=>⟨u+v,by rw [h,h']; exact bo [c,m,u,v] rfl⟩ }
def Quo (m:R):Type:=Quotient (ad0 m)
variable {m:R}
def Quo.mk (m:R) (a:R):Quo m:=Quotient.mk (ad0 m) a
theorem Quo.eq {a b:R}:Quo.mk m a=Quo.mk m b↔∃c,a=b+m*c:=⟨fun h=>Quotient.exact h,fun h=>Quotient.sound h⟩
theorem Quo.ind {P:Quo m→Prop} (h:∀a,P (Quo.mk m a)) (x:Quo m):P x:=Quotient.ind h x
instance:Zero (Quo m):=⟨Quo.mk m 0⟩
instance:One (Quo m):=⟨Quo.mk m 1⟩
instance:Add (Quo m):=⟨Quotient.lift₂ (fun a b=>Quo.mk m (a+b)) (fun a b a' b' ⟨c,h⟩ ⟨d,h'⟩=>Quo.eq.2 ⟨c+d,by rw [h,h']; exact bo [a',b',c,d,m] rfl⟩)⟩
instance:Mul (Quo m):=⟨Quotient.lift₂ (fun a b=>Quo.mk m (a*b)) (fun a b a' b' ⟨c,h⟩ ⟨d,h'⟩=>Quo.eq.2 ⟨c*b'+a'*d+m*c*d,by rw [h,h']; exact bo [a',b',c,d,m] rfl⟩)⟩
instance:Neg (Quo m):=⟨Quotient.lift (fun a=>Quo.mk m (-a)) (fun a a' ⟨c,h⟩=>Quo.eq.2 ⟨-c,by rw [h]; exact bo [a',c,m] rfl⟩)⟩
instance:Sub (Quo m):=⟨fun a b=>a + -b⟩
theorem Quo.mk_add (a b:R):Quo.mk m (a+b)=Quo.mk m a+Quo.mk m b:=rfl
theorem Quo.mk_mul (a b:R):Quo.mk m (a*b)=Quo.mk m a*Quo.mk m b:=rfl
theorem Quo.mk_neg (a:R):Quo.mk m (-a)=-Quo.mk m a:=rfl
theorem Quo.mk_zero:Quo.mk m 0=0:=rfl
theorem Quo.mk_one:Quo.mk m 1=1:=rfl
instance:CR (Quo m) where
 add_zero:=Quo.ind fun a=>congrArg (Quo.mk m) (add_zero a)
 add_comm:=Quo.ind fun a=>Quo.ind fun b=>congrArg (Quo.mk m) (add_comm a b)
 add_assoc:=Quo.ind fun a=>Quo.ind fun b=>Quo.ind fun c=>congrArg (Quo.mk m) (add_assoc a b c)
 mul_one:=Quo.ind fun a=>congrArg (Quo.mk m) (mul_one a)
 mul_comm:=Quo.ind fun a=>Quo.ind fun b=>congrArg (Quo.mk m) (mul_comm a b)
 mul_assoc:=Quo.ind fun a=>Quo.ind fun b=>Quo.ind fun c=>congrArg (Quo.mk m) (mul_assoc a b c)
 mul_add:=Quo.ind fun a=>Quo.ind fun b=>Quo.ind fun c=>congrArg (Quo.mk m) (mul_add a b c)
 add_neg:=Quo.ind fun a=>congrArg (Quo.mk m) (add_neg a)
 sub_eq:=fun _ _=>rfl
theorem Quo.mk_sub (a b:R):Quo.mk m (a-b)=Quo.mk m a-Quo.mk m b:=by rw [sub_eq,mk_add,mk_neg,←sub_eq]
theorem Quo.mk_pow (a:R):∀n,Quo.mk m (pw a n)=pw (Quo.mk m a) n
 | 0=>rfl
 | n+1=>by rw [pw,pw,mk_mul,mk_pow a n]
end
theorem sub_self {α:Type} [CR α] (a:α):a-a=0:=by rw [sub_eq,add_neg]
theorem ru {α:Type} [CR α] {a b:α} (h:a-b=0):a=b:=by
 have:a=(a-b)+b:=bo [a,b] rfl;rw [this,h,zero_add]
class Fd (K:Type) extends CR K where
 one_ne:(1:K)≠0
 inv:K→K
 mul_inv:∀a:K,a≠0→a*inv a=1
theorem Fd.mul_ne {K:Type} [Fd K] {a b:K} (ha:a≠0) (hb:b≠0):a*b≠0:=fun h=>by
 have:(inv a*inv b)*(a*b)=1:=by
  rw [show (inv a*inv b)*(a*b)=(a*inv a)*(b*inv b) from bo [a,b,inv a,inv b] rfl,Fd.mul_inv a ha,Fd.mul_inv b hb,mul_one]
 rw [h,mul_zero] at this;exact Fd.one_ne this.symm
theorem Fd.zero_or {K:Type} [Fd K] {a b:K} (h:a*b=0):a=0∨b=0:=by
 by_cases ha:a=0
 ·exact .inl ha
 ·by_cases hb:b=0
  ·exact .inr hb
  ·exact absurd h (Fd.mul_ne ha hb)
theorem Fd.inv_ne {K:Type} [Fd K] {a:K} (ha:a≠0):inv a≠0:=fun h=>by
 have:=Fd.mul_inv a ha;rw [h,mul_zero] at this;exact Fd.one_ne this.symm
class IsP (p:Int):Prop where
 h:p=2∨p=3∨p=5∨p=7
theorem IsP.pos {p:Int} [h:IsP p]:0<p:=by have:=h.h; omega
theorem IsP.le {p:Int} [h:IsP p]:p≤7:=by have:=h.h; omega
theorem IsP.ge {p:Int} [h:IsP p]:2≤p:=by have:=h.h; omega
abbrev Zp (p:Int):Type:=Quo p
abbrev zp (p:Int) (n:Int):Zp p:=Quo.mk p n
theorem Lt {p a b:Int}:zp p a=zp p b↔a%p=b%p:=by
 rw [Quo.eq];constructor
 ·rintro ⟨c,rfl⟩
  rw [pj]
 ·intro h
  obtain ⟨c,hc⟩:=Int.dvd_of_emod_eq_zero (Int.emod_eq_emod_iff_emod_sub_eq_zero.1 h);exact ⟨c,by omega⟩
theorem A3 (p a:Int):zp p (a%p)=zp p a:=Lt.2 (m9 _ (Int.dvd_refl p))
theorem Wf (p a b:Int):zp p (a+b)=zp p a+zp p b:=rfl
theorem B4 (p a b:Int):zp p (a*b)=zp p a*zp p b:=rfl
theorem Bp (p a:Int):zp p (-a)=-zp p a:=rfl
theorem a5c (p a b:Int):zp p (a-b)=zp p a-zp p b:=rfl
theorem Cu (p:Int):zp p 0=0:=rfl
theorem t9 (p:Int):zp p 1=1:=rfl
def rep {p:Int}:Zp p→Int:=Quotient.lift (fun a:Int=>a%p) fun a b h=>by
 have:=Lt.1 (Quotient.sound (s:=ad0 p) h);exact this
theorem Mp (p a:Int):rep (zp p a)=a%p:=rfl
theorem kq {p:Int}:∀x:Zp p,zp p (rep x)=x:=Quo.ind fun a=>A3 p a
theorem kl {p:Int} [IsP p] (x:Zp p):0≤rep x∧rep x<p:=by
 rw [←kq x,Mp];have:=IsP.pos (p:=p);exact ⟨dt _ (by omega),cz _ (by omega)⟩
theorem a0k {p:Int} {x y:Zp p} (h:rep x=rep y):x=y:=by rw [←kq x,←kq y,h]
theorem Ta {p a:Int} (h:0≤a∧a<p):rep (zp p a)=a:=by rw [Mp,m6 h.1 h.2]
theorem qk {p:Int}:rep (0:Zp p)=0:=by show (0:Int)%p=0; simp
theorem g7 {p:Int} {x:Zp p}:rep x=0↔x=0:=⟨fun h=>a0k (by rw [h,qk]),fun h=>by rw [h,qk]⟩
theorem zt {p:Int} [IsP p]:rep (1:Zp p)=1:=by
 have:=IsP.ge (p:=p);exact Ta (a:=1) (by omega)
def aaq (p a:Int):Int:=(a^(p-2).toNat)%p
theorem aao (p:Int) [h:IsP p] (a:Int) (h0:0<a) (h1:a<p):a*aaq p a%p=1:=by
 rcases h.h with rfl | rfl | rfl | rfl
 ·obtain rfl:a=1:=by omega
  decide
 ·have:a=1∨a=2:=by omega
  rcases this with rfl | rfl <;> decide
 ·have:a=1∨a=2∨a=3∨a=4:=by omega
  rcases this with rfl | rfl | rfl | rfl <;> decide
 ·have:a=1∨a=2∨a=3∨a=4∨a=5∨a=6:=by omega
  rcases this with rfl | rfl | rfl | rfl | rfl | rfl <;> decide
instance {p:Int} [IsP p]:Fd (Zp p) where
 one_ne:=fun h=>by
  have:=congrArg rep h;rw [zt,qk] at this;omega
 inv:=fun x=>zp p (aaq p (rep x))
 mul_inv:=fun x hx=>by
  have h0:=kl x;have h1:rep x≠0:=fun h=>hx (g7.1 h)
  have h2:zp p (rep x*aaq p (rep x))=1:=by
   rw [←A3,aao p _ (by omega) h0.2]; rfl
  have h3:zp p (rep x)*zp p (aaq p (rep x))=1:=h2
  rwa [kq] at h3
section
variable {K:Type} [CR K]
def cv:Nat→(Nat→K)→(Nat→K)→K
 | 0,f,g=>f 0*g 0
 | n+1,f,g=>f 0*g (n+1)+cv n (fun i=>f (i+1)) g
theorem V9:∀(n:Nat) (f g:Nat→K),cv (n+1) f g=cv n f (fun i=>g (i+1))+f (n+1)*g 0
 | 0,f,g=>rfl
 | n+1,f,g=>by rw [cv,V9 n,cv]; simp only [add_assoc]
theorem Co:∀(n:Nat) (f g:Nat→K),cv n f g=cv n g f
 | 0,f,g=>mul_comm _ _
 | n+1,f,g=>by rw [cv,V9,Co n,add_comm,mul_comm (f 0)]
theorem Wc:∀(n:Nat) (f f' g:Nat→K),cv n (fun i=>f i+f' i) g=cv n f g+cv n f' g
 | 0,f,f',g=>add_mul _ _ _
 | n+1,f,f',g=>by rw [cv,Wc n,cv,cv,add_mul]; exact bo [f 0*g (n+1),f' 0*g (n+1),cv n (fun i=>f (i+1)) g,cv n (fun i=>f' (i+1)) g] rfl
theorem a1b (k:K):∀(n:Nat) (f g:Nat→K),cv n (fun i=>k*f i) g=k*cv n f g
 | 0,f,g=>mul_assoc _ _ _
 | n+1,f,g=>by rw [cv,a1b k n,cv,mul_add,mul_assoc]
theorem R9 (n:Nat) (f g g':Nat→K):cv n f (fun i=>g i+g' i)=cv n f g+cv n f g':=by rw [Co,Wc,Co n g,Co n g']
theorem cv_assoc:∀(n:Nat) (f g h:Nat→K),cv n (fun i=>cv i f g) h=cv n f (fun i=>cv i g h)
 | 0,f,g,h=>mul_assoc _ _ _
 | n+1,f,g,h=>by
  rw [cv,cv];show f 0*g 0*h (n+1)+cv n (fun i=>f 0*g (i+1)+cv i (fun i=>f (i+1)) g) h=f 0*cv (n+1) g h+cv n (fun i=>f (i+1)) (fun i=>cv i g h)
  rw [Wc,a1b,cv_assoc n,cv,mul_add,mul_assoc,add_assoc]
theorem Cn {g:Nat→K}:∀(n:Nat) {f:Nat→K},(∀i,f i=0)→cv n f g=0
 | 0,f,h=>by rw [cv,h,zero_mul]
 | n+1,f,h=>by rw [cv,h,zero_mul,Cn n (fun i=>h _),add_zero]
theorem Y6 {g:Nat→K} {b:Nat} (hg:∀i,b≤i→g i=0):∀(a n:Nat) {f:Nat→K},(∀i,a≤i→f i=0)→a+b≤n+1→cv n f g=0
 | 0,n,f,hf,_=>Cn n fun i=>hf i (kg i)
 | a+1,0,f,hf,h=>by
  have:b=0:=by omega
  subst this;rw [cv,hg 0 (ba _),mul_zero]
 | a+1,n+1,f,hf,h=>by rw [cv,hg (n+1) (by omega),mul_zero,Y6 hg a n (fun i hi=>hf _ (by omega)) (by omega),add_zero]
structure Pol (K:Type) [CR K] where
 c:Nat→K
 fin:∃n,∀i,n≤i→c i=0
theorem Pol.ext {a b:Pol K} (h:∀i,a.c i=b.c i):a=b:=by
 obtain ⟨f,hf⟩:=a;obtain ⟨g,hg⟩:=b;have:f=g:=funext h;subst this;rfl
def a3q:Nat→K:=fun i=>if i=0 then 1 else 0
instance:Zero (Pol K):=⟨⟨fun _=>0,0,fun _ _=>rfl⟩⟩
instance:One (Pol K):=⟨⟨a3q,1,fun i hi=>if_neg (by omega)⟩⟩
instance:Add (Pol K):=⟨fun a b=>⟨fun i=>a.c i+b.c i,by
 obtain ⟨n,hn⟩:=a.fin;obtain ⟨m,hm⟩:=b.fin;exact ⟨max n m,fun i hi=>by rw [hn i (by omega),hm i (by omega),add_zero]⟩⟩⟩
instance:Neg (Pol K):=⟨fun a=>⟨fun i=>-a.c i,by
 obtain ⟨n,hn⟩:=a.fin;exact ⟨n,fun i hi=>by rw [hn i hi,qj]⟩⟩⟩
instance:Sub (Pol K):=⟨fun a b=>a + -b⟩
instance:Mul (Pol K):=⟨fun a b=>⟨fun i=>cv i a.c b.c,by
 obtain ⟨n,hn⟩:=a.fin;obtain ⟨m,hm⟩:=b.fin;exact ⟨n+m,fun i hi=>Y6 hm n i hn (by omega)⟩⟩⟩
theorem Pol.c_zero (i:Nat):(0:Pol K).c i=0:=rfl
theorem Pol.c_one (i:Nat):(1:Pol K).c i=if i=0 then 1 else 0:=rfl
theorem Pol.c_add (a b:Pol K) (i:Nat):(a+b).c i=a.c i+b.c i:=rfl
theorem Pol.c_neg (a:Pol K) (i:Nat):(-a).c i=-a.c i:=rfl
theorem Pol.c_mul (a b:Pol K) (i:Nat):(a*b).c i=cv i a.c b.c:=rfl
theorem cv_one (n:Nat) (f:Nat→K):cv n a3q f=f n:=by
 cases n with
 | zero=>exact one_mul _
 | succ n=>
  have e:cv n (fun i=>a3q (i+1)) f=0:=Cn n (f:=fun i=>a3q (i+1)) (fun i=>if_neg (Nat.succ_ne_zero i))
  rw [cv,e,add_zero];exact one_mul _
instance:CR (Pol K) where
 add_zero:=fun a=>Pol.ext fun i=>add_zero _
 add_comm:=fun a b=>Pol.ext fun i=>add_comm _ _
 add_assoc:=fun a b c=>Pol.ext fun i=>add_assoc _ _ _
 mul_one:=fun a=>Pol.ext fun i=>by rw [Pol.c_mul,Co]; exact cv_one i a.c
 mul_comm:=fun a b=>Pol.ext fun i=>Co _ _ _
 mul_assoc:=fun a b c=>Pol.ext fun i=>cv_assoc _ _ _ _
 mul_add:=fun a b c=>Pol.ext fun i=>R9 _ _ _ _
 add_neg:=fun a=>Pol.ext fun i=>add_neg _
 sub_eq:=fun _ _=>rfl
theorem Pol.c_sub (a b:Pol K) (i:Nat):(a-b).c i=a.c i-b.c i:=by rw [sub_eq,c_add,c_neg,←sub_eq]
def Pol.C (k:K):Pol K:=⟨fun i=>if i=0 then k else 0,1,fun i hi=>if_neg (by omega)⟩
def Pol.X:Pol K:=⟨fun i=>if i=1 then 1 else 0,2,fun i hi=>if_neg (by omega)⟩
theorem Pol.c_C (k:K) (i:Nat):(Pol.C k).c i=if i=0 then k else 0:=rfl
theorem Pol.c_X (i:Nat):(Pol.X:Pol K).c i=if i=1 then 1 else 0:=rfl
theorem Pol.c_Cmul (k:K) (a:Pol K) (i:Nat):(Pol.C k*a).c i=k*a.c i:=by
 rw [c_mul];cases i with
 | zero=>rfl
 | succ n=>
  have e:cv n (fun i=>(Pol.C k).c (i+1)) a.c=0:=Cn n (f:=fun i=>(Pol.C k).c (i+1)) (fun i=>by rw [c_C,if_neg (Nat.succ_ne_zero i)])
  rw [cv,e,add_zero]; rfl
theorem Pol.c_Xmul (a:Pol K) (i:Nat):(Pol.X*a).c i=if i=0 then 0 else a.c (i-1):=by
 rw [c_mul];cases i with
 | zero=>exact zero_mul _
 | succ n=>
  have e:(fun i=>(Pol.X:Pol K).c (i+1))=a3q:=funext fun i=>by
   rw [c_X]; unfold a3q
   by_cases h:i=0
   ·rw [if_pos h,if_pos (by omega)]
   ·rw [if_neg h,if_neg (by omega)]
  rw [cv,e,cv_one,c_X,if_neg (by omega),zero_mul,zero_add,if_neg (by omega)]; rfl
theorem Pol.C_zero:Pol.C (0:K)=0:=Pol.ext fun i=>by rw [c_C,c_zero]; split <;> rfl
theorem Pol.C_one:Pol.C (1:K)=1:=rfl
theorem Pol.C_add (a b:K):Pol.C (a+b)=Pol.C a+Pol.C b:=Pol.ext fun i=>by
 rw [c_add,c_C,c_C,c_C]; split
 ·rfl
 ·rw [add_zero]
theorem Pol.C_mul (a b:K):Pol.C (a*b)=Pol.C a*Pol.C b:=Pol.ext fun i=>by
 rw [c_Cmul,c_C,c_C]; split
 ·rfl
 ·rw [mul_zero]
theorem Pol.C_neg (a:K):Pol.C (-a)=-Pol.C a:=Hc (by rw [←C_add,add_neg,C_zero])
def Pol.lt (a:Pol K) (n:Nat):Prop:=∀i,n≤i→a.c i=0
theorem Pol.lt.mono {a:Pol K} {n m:Nat} (h:a.lt n) (hnm:n≤m):a.lt m:=fun i hi=>h i (by omega)
theorem Pol.lt_zero {a:Pol K}:a.lt 0↔a=0:=⟨fun h=>Pol.ext fun i=>h i (kg i),fun h=>by rw [h]; exact fun _ _=>rfl⟩
theorem Pol.lt_add {a b:Pol K} {n:Nat} (ha:a.lt n) (hb:b.lt n):(a+b).lt n:=fun i hi=>by rw [c_add,ha i hi,hb i hi,add_zero]
theorem Pol.lt_neg {a:Pol K} {n:Nat} (ha:a.lt n):(-a).lt n:=fun i hi=>by rw [c_neg,ha i hi,qj]
theorem Pol.lt_sub {a b:Pol K} {n:Nat} (ha:a.lt n) (hb:b.lt n):(a-b).lt n:=by rw [sub_eq]; exact lt_add ha (lt_neg hb)
theorem Pol.lt_mul {a b:Pol K} {n m:Nat} (ha:a.lt n) (hb:b.lt m):(a*b).lt (n+m-1):=fun i hi=>Y6 hb n i ha (by omega)
theorem Pol.lt_Cmul {a:Pol K} {n:Nat} (k:K) (ha:a.lt n):(C k*a).lt n:=fun i hi=>by rw [c_Cmul,ha i hi,mul_zero]
theorem Pol.lt_one:(1:Pol K).lt 1:=fun i hi=>if_neg (by omega)
theorem Pol.lt_C (k:K):(C k).lt 1:=fun i hi=>if_neg (by omega)
theorem Pol.lt_X:(X:Pol K).lt 2:=fun i hi=>if_neg (by omega)
theorem Pol.eq_C {a:Pol K} (h:a.lt 1):a=C (a.c 0):=Pol.ext fun i=>by
 rw [c_C]; split
 ·rename_i h0; rw [h0]
 ·exact h i (by omega)
theorem Pol.len_ex (a:Pol K):∃n,a.lt n∧∀m,a.lt m→n≤m:=by
 obtain ⟨n,hn⟩:=a.fin
 have h:∀k,∀n,n≤k→a.lt n→∃n,a.lt n∧∀m,a.lt m→n≤m:=by
  intro k
  induction k with
  | zero=>exact fun n hk hn=>⟨n,hn,fun m _=>by omega⟩
  | succ k ih=>
   intro n hk hn
   by_cases h:∃m,m<n∧a.lt m
   ·obtain ⟨m,h1,h2⟩:=h
    exact ih m (by omega) h2
   ·exact ⟨n,hn,fun m hm=>by
     rcases dm m n with h1 | h1
     ·exact absurd ⟨m,h1,hm⟩ h
     ·exact h1⟩
 exact h n n (ba n) hn
noncomputable def Pol.len (a:Pol K):Nat:=Classical.choose a.len_ex
theorem Pol.lt_len (a:Pol K):a.lt a.len:=(dw a.len_ex).1
theorem Pol.len_le {a:Pol K} {n:Nat} (h:a.lt n):a.len≤n:=(dw a.len_ex).2 n h
theorem Pol.lt_iff {a:Pol K} {n:Nat}:a.lt n↔a.len≤n:=⟨len_le,fun h=>a.lt_len.mono h⟩
theorem Pol.len_zero_iff {a:Pol K}:a.len=0↔a=0:=by rw [←lt_zero,lt_iff]; omega
theorem Pol.len_zero:(0:Pol K).len=0:=len_zero_iff.2 rfl
theorem Pol.len_pos {a:Pol K} (h:a≠0):0<a.len:=by
 have:a.len≠0:=fun h'=>h (len_zero_iff.1 h')
 omega
noncomputable def Pol.ld (a:Pol K):K:=a.c (a.len-1)
theorem Pol.ld_ne {a:Pol K} (h:a≠0):a.ld≠0:=fun h0=>by
 have hp:=len_pos h
 have:a.lt (a.len-1):=fun i hi=>by
  rcases dm i a.len with h1 | h1
  ·rw [show i=a.len-1 by omega]; exact h0
  ·exact a.lt_len i h1
 have:=len_le this;omega
theorem Pol.len_eq {a:Pol K} {n:Nat} (h:a.lt (n+1)) (h':a.c n≠0):a.len=n+1:=by
 have h1:=len_le h;rcases dm n a.len with h2 | h2
 ·omega
 ·exact absurd (a.lt_len n h2) h'
theorem Pol.len_neg (a:Pol K):(-a).len=a.len:=by
 apply Nat.le_antisymm
 ·exact len_le (lt_neg a.lt_len)
 ·have:=len_le (lt_neg (-a).lt_len)
  rwa [a0w] at this
theorem Wz {g:Nat→K} {b:Nat} (hg:∀i,b+1≤i→g i=0):∀(a:Nat) {f:Nat→K},(∀i,a+1≤i→f i=0)→cv (a+b) f g=f a*g b
 | 0,f,hf=>by
  rw [bn];cases b with
  | zero=>rfl
  | succ b=>rw [cv,Cn b (fun i=>hf _ (by omega)),add_zero]
 | a+1,f,hf=>by
  rw [show a+1+b=(a+b)+1 by omega,cv,hg (a+b+1) (by omega),mul_zero,zero_add,Wz hg a (fun i hi=>hf _ (by omega))]
end
section
variable {K:Type} [Fd K]
theorem Pol.len_mul {a b:Pol K} (ha:a≠0) (hb:b≠0):(a*b).len+1=a.len+b.len:=by
 have h1:=len_pos ha;have h2:=len_pos hb
 have e:(a*b).c ((a.len-1)+(b.len-1))=a.ld*b.ld:=by
  rw [c_mul];exact Wz (f:=a.c) (fun i hi=>b.lt_len i (by omega)) _ (fun i hi=>a.lt_len i (by omega))
 have l:=len_eq (a:=a*b) (n:=(a.len-1)+(b.len-1)) ((lt_mul a.lt_len b.lt_len).mono (by omega)) (by rw [e]; exact Fd.mul_ne (ld_ne ha) (ld_ne hb))
 omega
theorem Pol.ld_mul {a b:Pol K} (ha:a≠0) (hb:b≠0):(a*b).ld=a.ld*b.ld:=by
 have h1:=len_pos ha;have h2:=len_pos hb
 have e:(a*b).c ((a.len-1)+(b.len-1))=a.ld*b.ld:=by
  rw [c_mul];exact Wz (f:=a.c) (fun i hi=>b.lt_len i (by omega)) _ (fun i hi=>a.lt_len i (by omega))
 have l:=len_mul ha hb;unfold ld at *;rw [←e]; congr 1; omega
theorem Pol.mul_ne {a b:Pol K} (ha:a≠0) (hb:b≠0):a*b≠0:=fun h=>by
 have l:=len_mul ha hb;have h1:=len_pos ha;have h2:=len_pos hb;rw [h,len_zero] at l;omega
theorem Pol.zero_or {a b:Pol K} (h:a*b=0):a=0∨b=0:=by
 by_cases ha:a=0
 ·exact .inl ha
 ·by_cases hb:b=0
  ·exact .inr hb
  ·exact absurd h (mul_ne ha hb)
theorem Pol.mul_cancel {a b c:Pol K} (ha:a≠0) (h:a*b=a*c):b=c:=by
 have:a*(b-c)=0:=by
  rw [show a*(b-c)=a*b-a*c from bo [a,b,c] rfl,h,sub_self]
 exact ru ((zero_or this).resolve_left ha)
theorem Pol.one_ne:(1:Pol K)≠0:=fun h=>Fd.one_ne (K:=K) (congrArg (fun f=>Pol.c f 0) h)
theorem Pol.len_one:(1:Pol K).len=1:=len_eq lt_one Fd.one_ne
theorem Pol.ld_one:(1:Pol K).ld=1:=by unfold ld; rw [len_one]; rfl
theorem Pol.len_X:(X:Pol K).len=2:=len_eq lt_X Fd.one_ne
theorem Pol.X_ne:(X:Pol K)≠0:=fun h=>by have:=len_X (K:=K); rw [h,len_zero] at this; omega
theorem Pol.len_C {k:K} (h:k≠0):(C k).len=1:=len_eq (lt_C k) h
theorem Pol.C_ne {k:K} (h:k≠0):C k≠0:=fun h'=>by have:=len_C h; rw [h',len_zero] at this; omega
theorem Pol.len_Cmul {k:K} (h:k≠0) (a:Pol K):(C k*a).len=a.len:=by
 by_cases ha:a=0
 ·rw [ha,mul_zero]
 ·have:=len_mul (C_ne h) ha
  rw [len_C h] at this;omega
def Pol.mo (k:K) (n:Nat):Pol K:=⟨fun i=>if i=n then k else 0,n+1,fun i hi=>if_neg (by omega)⟩
theorem abv (k:K) (g:Nat→K):∀(n j:Nat),cv (n+j) (fun i=>if i=n then k else 0) g=k*g j
 | 0,0=>rfl
 | 0,j+1=>by
  rw [bn,cv,Cn j (fun i=>if_neg (by omega)),add_zero]; rfl
 | n+1,j=>by
  have e:(fun i=>if i+1=n+1 then k else 0)=(fun i=>if i=n then k else 0):=funext fun i=>by
   by_cases h:i=n
   ·rw [if_pos h,if_pos (by omega)]
   ·rw [if_neg h,if_neg (by omega)]
  rw [show n+1+j=(n+j)+1 by omega,cv,if_neg (by omega),zero_mul,zero_add,e,abv k g n j]
theorem Pol.c_momul (k:K) (n:Nat) (a:Pol K) (i:Nat) (h:n≤i):(mo k n*a).c i=k*a.c (i-n):=by
 obtain ⟨j,rfl⟩:=ia h;rw [c_mul,Nat.add_sub_cancel_left];exact abv k a.c n j
theorem Pol.div_ex (b:Pol K) (hb:b≠0):∀(n:Nat) (a:Pol K),a.lt n→∃q r:Pol K,a=q*b+r∧r.len<b.len
 | 0,a,h=>⟨0,0,by rw [lt_zero.1 h,zero_mul,add_zero],by rw [len_zero]; exact len_pos hb⟩
 | n+1,a,h=>by
  rcases dm n (b.len-1) with h1 | h1
  ·exact ⟨0,a,by rw [zero_mul,zero_add],by have:=len_le h; omega⟩
  ·have hp:=len_pos hb
   have key:(a-mo (a.c n*Fd.inv b.ld) (n-(b.len-1))*b).lt n:=fun i hi=>by
    rw [c_sub,c_momul _ _ _ _ (by omega)]
    by_cases h2:i=n
    ·subst h2
     rw [show i-(i-(b.len-1))=b.len-1 by omega]
     have:=Fd.mul_inv b.ld (ld_ne hb);show a.c i-a.c i*Fd.inv b.ld*b.ld=0;rw [mul_assoc,mul_comm (Fd.inv b.ld),this,mul_one,sub_self]
    ·rw [h i (by omega),b.lt_len _ (by omega),mul_zero,sub_self]
   obtain ⟨q,r,h2,h3⟩:=div_ex b hb n _ key;refine ⟨mo (a.c n*Fd.inv b.ld) (n-(b.len-1))+q,r,?_,h3⟩
   revert h2
   generalize mo (a.c n*Fd.inv b.ld) (n-(b.len-1))=t;intro h2;have:a=(a-t*b)+t*b:=bo [a,t,b] rfl;rw [this,h2];exact bo [q,b,r,t] rfl
theorem Pol.div_unique {b q r q' r':Pol K} (h:q*b+r=q'*b+r') (hr:r.len<b.len) (hr':r'.len<b.len):q=q'∧r=r':=by
 have e:(q-q')*b=r'-r:=by
  have:(q-q')*b=(q*b+r)-(q'*b+r):=bo [q,q',b,r] rfl;rw [this,h];exact bo [q',b,r,r'] rfl
 have hb:b≠0:=fun h0=>by rw [h0,len_zero] at hr; omega
 by_cases hq:q-q'=0
 ·have hq':=ru hq
  rw [hq,zero_mul] at e;exact ⟨hq',(ru e.symm).symm⟩
 ·have l:=len_mul hq hb
  rw [e] at l;have h1:=len_le (lt_sub (Pol.lt_iff.2 (show r'.len≤b.len-1 by omega)) (Pol.lt_iff.2 (show r.len≤b.len-1 by omega)))
  have:=len_pos hq;omega
open Classical in
noncomputable def Pol.qr (a b:Pol K):Pol K×Pol K:=
 if hb:b=0 then (0,a) else ((Classical.choose (div_ex b hb a.len a a.lt_len)),Classical.choose (dw (div_ex b hb a.len a a.lt_len)))
noncomputable instance:Div (Pol K):=⟨fun a b=>(Pol.qr a b).1⟩
noncomputable instance:Mod (Pol K):=⟨fun a b=>(Pol.qr a b).2⟩
theorem Pol.div_mod (a b:Pol K):a=(a/b)*b+a%b:=by
 show a=(qr a b).1*b+(qr a b).2;unfold qr
 split
 ·rename_i h; rw [h,mul_zero,zero_add]
 ·rename_i h; exact (dw (dw (div_ex b h a.len a a.lt_len))).1
theorem Pol.len_mod (a:Pol K) {b:Pol K} (h:b≠0):(a%b).len<b.len:=by
 show (qr a b).2.len<_;unfold qr;rw [dif_neg h];exact (dw (dw (div_ex b h a.len a a.lt_len))).2
theorem Pol.div_mod_eq {a b q r:Pol K} (h:a=q*b+r) (hr:r.len<b.len):a/b=q∧a%b=r:=by
 have hb:b≠0:=fun h0=>by rw [h0,len_zero] at hr; omega
 exact div_unique ((div_mod a b).symm.trans h) (len_mod a hb) hr
end
end Gq

namespace Pe
open Go Gq
abbrev Fp (p:Int):Type:=Pol (Zp p)
noncomputable def row {p:Int} (a:Fp p):List Int:=(List.range a.len).map fun i=>rep (a.c i)
def pad (l:List Int):List Int:=(List.range 64).map (cf l)
section
variable {p:Int}
@[simp] theorem cg (a:Fp p):(row a).length=a.len:=by simp [row]
theorem gz (a:Fp p) (i:Nat):cf (row a) i=rep (a.c i):=by
 rcases dm i a.len with h | h
 ·exact pt _ _ _ h
 ·rw [nj (by rw [cg]; exact h),a.lt_len i h,qk]
theorem k9 [IsP p] (a:Fp p):Can p (row a):=Can.of_cf fun j _=>by rw [gz]; exact kl _
theorem Hy [IsP p] (a:Fp p) {b:Int} (hb:7≤b):Small b (row a):=(k9 a).small (by have:=IsP.le (p:=p); omega)
theorem dq:row (0:Fp p)=[]:=by
 apply uk;rw [cg,Pol.len_zero]
theorem a9o {a:Fp p}:row a=[]↔a=0:=by rw [←d8,cg,Pol.len_zero_iff]
theorem Pf (l:List Int):∀n,(∀i,jz l n≤i→i<n→cf l i=0)∧(jz l n=0∨cf l (jz l n-1)≠0)
 | 0=>⟨fun i _ h=>absurd h (Nat.not_lt_zero i),.inl rfl⟩
 | n+1=>by
  have ih:=Pf l n;unfold jz
  by_cases h:cf l n=0
  ·rw [if_pos h]
   refine ⟨fun i h1 h2=>?_,ih.2⟩
   by_cases hi:i=n
   ·rw [hi,h]
   ·exact ih.1 i h1 (by omega)
  ·rw [if_neg h]
   exact ⟨fun i h1 h2=>by omega,.inr h⟩
theorem Bv {l:List Int} {f:Fp p} (h:∀i,cf l i=rep (f.c i)):trim l=row f:=by
 have ht:=Pf l l.length;have hl:=Ab l l.length
 have e:jz l l.length=f.len:=by
  apply Nat.le_antisymm
  ·rcases ht.2 with h0 | h0
   ·omega
   ·rw [h] at h0
    rcases dm (jz l l.length-1) f.len with h1 | h1
    ·omega
    ·exact absurd (by rw [f.lt_len _ h1,qk]) h0
  ·apply Pol.len_le
   intro i hi;apply g7.1;rw [←h];rcases dm i l.length with h1 | h1
   ·exact ht.1 i hi h1
   ·exact nj h1
 apply n9
 ·rw [cg,←e]; unfold trim; rw [bq]; omega
 ·intro i h1 h2
  have e1:(trim l)[i]=cf l i:=by
   unfold trim at h1 ⊢;rw [ma,fj]
  have e2:(row f)[i]=cf (row f) i:=(fj h2).symm;rw [e1,e2,gz,h]
def ew (p:Int) (l:List Int):Fp p:=⟨fun i=>zp p (cf l i),l.length,fun i hi=>by rw [nj hi]; rfl⟩
theorem iu (l:List Int) (i:Nat):(ew p l).c i=zp p (cf l i):=rfl
theorem Tz (l:List Int):(ew p l).lt l.length:=fun i hi=>by rw [iu,nj hi]; rfl
theorem yz (a:Fp p):ew p (row a)=a:=Pol.ext fun i=>by rw [iu,gz,kq]
theorem rf [IsP p] {l:List Int} (h:Can p l):trim l=row (ew p l):=Bv fun i=>by
 have h1:=h.le IsP.pos i;rw [iu,Ta h1]
theorem a9v {a b:Fp p} (h:row a=row b):a=b:=by rw [←yz a,←yz b,h]
theorem aai:pad []=List.replicate 64 0:=by decide +kernel
@[simp] theorem adf:z64=ab .u8 (pad []):=by rw [aai]; unfold ab z64; rw [fu]
theorem ck (l:List Int):(pad l).length=64:=by simp [pad]
theorem Bn {l:List Int} (h:l.length≤64) (i:Nat):cf (pad l) i=cf l i:=by
 rcases dm i 64 with h1 | h1
 ·exact pt _ _ _ h1
 ·rw [nj (by rw [ck]; exact h1),nj (by omega)]
theorem qt (l:List Int) (i:Nat) (h:i<64):(pad l)[i]? = some (cf l i):=by
 rw [pad,gi,gt h]; rfl
theorem X8 {l m:List Int} (hl:m.length=64) (h:∀i,i<64→cf l i=cf m i):pad l=m:=by
 apply n9
 ·rw [ck,hl]
 ·intro i h1 h2
  rw [←fj h2,←h i (by omega)]
  simp [pad]
theorem Va [IsP p] (a b:Fp p) (k:Int):aay p (row a) (row b) k=row (a+Pol.C (zp p k)*b):=by
 apply Bv;intro i
 have e:rep ((a+Pol.C (zp p k)*b).c i)=(rep (a.c i)+k*rep (b.c i))%p:=by
  rw [Pol.c_add,Pol.c_Cmul,←Mp]
  congr 1
  rw [Wf,B4,kq,kq]
 rw [e];rcases dm i (max a.len b.len) with h | h
 ·rw [pt _ _ _ (by simpa using h)]
  unfold lin;rw [gz,gz]
 ·rw [nj (by simpa using h),a.lt_len i (by omega),b.lt_len i (by omega)]
  simp [qk]
def cvs {K:Type} [CR K] (f g:Nat→K):Nat→Nat→K
 | 0,_=>0
 | m+1,j=>cvs f g m j+if m≤j then f m*g (j-m) else 0
theorem Lq {K:Type} [CR K] (f g:Nat→K):∀m j,cvs f g (m+1) j=f 0*g j+if j=0 then 0 else cvs (fun i=>f (i+1)) g m (j-1)
 | 0,j=>by
  show 0+(if 0≤j then f 0*g (j-0) else 0)=_
  rw [if_pos (kg j),Nat.sub_zero,Gq.zero_add]
  split <;> exact (Gq.add_zero _).symm
 | m+1,j=>by
  rw [cvs,Lq f g m j]
  by_cases h:j=0
  ·subst h
   rw [if_pos rfl,if_neg (by omega),if_pos rfl,Gq.add_zero]
  ·rw [if_neg h,if_neg h,cvs]
   rw [Gq.add_assoc]
   congr 2
   by_cases h2:m+1≤j
   ·rw [if_pos h2,if_pos (by omega),show j-(m+1)=j-1-m by omega]
   ·rw [if_neg h2,if_neg (by omega)]
theorem a4n {K:Type} [CR K] (g:Nat→K):∀(j m:Nat) (f:Nat→K),j<m→cvs f g m j=cv j f g
 | 0,0,f,h=>by omega
 | 0,m+1,f,_=>by rw [Lq,if_pos rfl,Gq.add_zero]; rfl
 | j+1,0,f,h=>by omega
 | j+1,m+1,f,h=>by rw [Lq,if_neg (by omega),cv,Nat.add_sub_cancel,a4n g j m _ (by omega)]
theorem U8 {K:Type} [CR K] (f g:Nat→K) {m:Nat} (h:∀i,m≤i→f i=0) (j:Nat):∀k,cvs f g (m+k) j=cvs f g m j
 | 0=>rfl
 | k+1=>by
  rw [←jf,cvs,U8 f g h j k,h (m+k) (by omega),Gq.zero_mul]
  split <;> exact Gq.add_zero _
theorem Yp (l m:List Int):∀n j,zp p (conv l m n j)=cvs (ew p l).c (ew p m).c n j
 | 0,j=>rfl
 | n+1,j=>by
  rw [conv,cvs,←Yp l m n j]
  split
  ·rfl
  ·rfl
theorem aa4 [IsP p] (a b:Fp p):mul p (row a) (row b)=row (a*b):=by
 apply Bv;intro i
 have e:∀i,conv (row a) (row b) (row a).length i%p=rep ((a*b).c i):=fun i=>by
  rw [←Mp,Yp,yz,yz,cg,Pol.c_mul]
  congr 1
  rw [←U8 a.c b.c a.lt_len i (i+1),a4n];omega
 rcases dm i (a.len+b.len-1) with h | h
 ·rw [pt _ _ _ (by simpa using h),e]
 ·rw [nj (by simpa using h),Pol.lt_mul a.lt_len b.lt_len i h,qk]
end
end Pe

namespace Pe
open Go Gq
variable {T:Nat→Option Fn} {A:ah}
theorem a48 (p:Int) [h:IsP p] (a:Int) (h0:0<a) (h1:a<p):a*inv p a%p=1:=by
 rcases h.h with rfl | rfl | rfl | rfl
 ·obtain rfl:a=1:=by omega
  decide
 ·have:a=1∨a=2:=by omega
  rcases this with rfl | rfl <;> decide
 ·have:a=1∨a=2∨a=3∨a=4:=by omega
  rcases this with rfl | rfl | rfl | rfl <;> decide
 ·have:a=1∨a=2∨a=3∨a=4∨a=5∨a=6:=by omega
  rcases this with rfl | rfl | rfl | rfl | rfl | rfl <;> decide
theorem y9 (p:Int) [IsP p] (a:Int):0≤inv p a∧inv p a<p:=by
 have:=IsP.ge (p:=p);exact Ss (by omega) _
@[simp] theorem a47 {p:Int} (a:Fp p):(row a).take a.len=row a:=bb (by simp)
def mg (O:ah):Prop:=∀(p:Int) [IsP p] (k:Int) (a b:Fp p),-1000000≤k→k≤1000000→a.len<1000000→b.len<1000000 →
 ask O F1b [(D.int .i64 p),(D.sl .leaf (ab .i64 (row a))),(D.sl .leaf (ab .i64 (row b))),(D.int .i64 k)]=some (D.sl .leaf (ab .i64 (row (a+Pol.C (zp p k)*b))))
theorem a3m {O:ah} (h:By O):mg O:=fun p i k a b h1 h2 h3 h4=>by
 have h5:=IsP.pos (p:=p);have h6:=IsP.le (p:=p);rw [h p k (row a) (row b) h5 (by omega) (Hy a (by omega)) (Hy b (by omega)) h1 h2 (by simpa using h3) (by simpa using h4),Va]
def Ac (O:ah):Prop:=∀(p:Int) [IsP p] (a b:Fp p),a.len<10000→b.len<10000 →
 ask O F1r [(D.int .i64 p),(D.sl .leaf (ab .i64 (row a))),(D.sl .leaf (ab .i64 (row b)))]=some (D.sl .leaf (ab .i64 (row (a*b))))
theorem a9d {O:ah} (h:Rq O):Ac O:=fun p i a b h1 h2=>by
 have h5:=IsP.pos (p:=p);have h6:=IsP.le (p:=p);rw [h p (row a) (row b) h5 (by omega) (k9 a) (k9 b) (by simpa using h1) (by simpa using h2),aa4]
def u4 (O:ah):Prop:=∀(p:Int) [IsP p] (k:Int) (a:Fp p),-1000000≤k→k≤1000000→a.len<1000000 →
 ask O F1p [(D.int .i64 p),(D.sl .leaf (ab .i64 (row a))),(D.int .i64 k)]=some (D.sl .leaf (ab .i64 (row (Pol.C (zp p k)*a))))
theorem a9s {O:ah} (h:Sv O):u4 O:=fun p i k a h1 h2 h3=>by
 have h5:=IsP.pos (p:=p);have h6:=IsP.le (p:=p);have e:=Va (0:Fp p) a k;rw [dq,Gq.zero_add] at e;rw [h p k (row a) h5 (by omega) (Hy a (by omega)) h1 h2 (by simpa using h3),e]
theorem a8x {K:Type} [CR K] {g:Nat→K}:∀{i:Nat} {f:Nat→K},(∀j,j≤i→f j=0)→cv i f g=0
 | 0,f,h=>by rw [cv,h 0 (ba 0),Gq.zero_mul]
 | i+1,f,h=>by rw [cv,h 0 (kg _),Gq.zero_mul,a8x (fun j hj=>h (j+1) (by omega)),Gq.add_zero]
theorem W3 {K:Type} [Fd K] (k:K) (n:Nat) (a:Pol K) (i:Nat):(Pol.mo k n*a).c i=if n≤i then k*a.c (i-n) else 0:=by
 split
 ·rename_i h; exact Pol.c_momul k n a i h
 ·rename_i h
  rw [Pol.c_mul];exact a8x fun j hj=>if_neg (by omega)
section
variable {p:Int} [IsP p]
theorem Uf (q:Int) (b:Fp p) (c:Nat) (cur:List Int) (h:c+b.len≤cur.length):ew p (o6 p q (row b) c b.len 0 cur)=ew p cur-Pol.mo (zp p q) c*b:=Pol.ext fun j=>by
 rw [Pol.c_sub,W3,iu,iu,B6 _ _ _ _ _ _ _ _ (by omega)]
 by_cases h1:c+0≤j∧j<c+0+b.len
 ·rw [if_pos h1,if_pos (by omega),A3,a5c,B4,gz,kq]
 ·rw [if_neg h1]
  split
  ·rw [b.lt_len _ (by omega),Gq.mul_zero,sub_eq,qj,Gq.add_zero]
  ·rw [sub_eq,qj,Gq.add_zero]
theorem a33 (q:Int) (c:Nat) (quo:List Int) (h:c<quo.length) (h0:cf quo c=0):ew p (quo.set c q)=ew p quo+Pol.mo (zp p q) c:=Pol.ext fun j=>by
 rw [Pol.c_add,iu,iu,tk];show _=_+(if j=c then zp p q else 0)
 by_cases h1:j=c
 ·subst h1
  rw [if_pos ⟨rfl,h⟩,if_pos rfl,h0,Cu,Gq.zero_add]
 ·rw [if_neg (by omega),if_neg h1,Gq.add_zero]
theorem Qv (b:Fp p) (hb:b≠0):∀(c:Nat) (cur quo:List Int),c+b.len≤cur.length+1→c≤quo.length→Can p cur→(∀j,j<c→cf quo j=0)→(∀j,c+b.len-1≤j→cf cur j=0)→Can p quo →
 let r:=dv p (inv p (rep b.ld)) (row b) c (cur,quo)
 ew p r.1+ew p r.2*b=ew p cur+ew p quo*b∧(∀j,b.len-1≤j→cf r.1 j=0)∧Can p r.1∧Can p r.2
 | 0,cur,quo,_,_,hcan,_,h,hq=>⟨rfl,fun j hj=>h j (by omega),hcan,hq⟩
 | c+1,cur,quo,hl,hlq,hcan,hq0,h,hq=>by
  have hp:=IsP.pos (p:=p);have hbl:=Pol.len_pos hb;have hr:=kl b.ld;have hld:rep b.ld≠0:=fun h0=>Pol.ld_ne hb (g7.1 h0)
  generalize hqd:cf cur (c+b.len-1)*inv p (rep b.ld)%p=q;have hqin:0≤q∧q<p:=by subst hqd; exact ⟨dt _ (by omega),cz _ hp⟩
  have hlen:c+b.len≤cur.length:=by omega
  have e:dv p (inv p (rep b.ld)) (row b) (c+1) (cur,quo)=dv p (inv p (rep b.ld)) (row b) c (o6 p q (row b) c b.len 0 cur,quo.set c q):=by
   rw [dv]; simp only [cg,hqd]
  rw [e]
  have key:(cf cur (c+b.len-1)-q*rep b.ld)%p=0:=by
   have h1:=a48 p (rep b.ld) (by omega) hr.2
   have h2:q*rep b.ld%p=cf cur (c+b.len-1)%p:=by
    subst hqd;rw [Int.mul_emod,m9 _ (Int.dvd_refl p),←Int.mul_emod,ye,kc (inv p _),Int.mul_emod,h1,sb,m9 _ (Int.dvd_refl p)]
   rw [Int.sub_emod,h2,←Int.sub_emod,Int.sub_self,Int.zero_emod]
  have ih:=Qv b hb c (o6 p q (row b) c b.len 0 cur) (quo.set c q) (by rw [nm]; omega) (by simp; omega) (H1 hp (by omega) hcan)
   (fun j hj=>by rw [tk,if_neg (by omega)]; exact hq0 j (by omega))
   (fun j hj=>by
    rw [B6 _ _ _ _ _ _ _ _ (by omega)]
    by_cases hj2:j=c+b.len-1
    ·subst hj2
     rw [if_pos (by omega),gz,show c+b.len-1-c=b.len-1 by omega]; exact key
    ·rw [if_neg (by omega)]; exact h j (by omega))
   (fun x hx=>by
    rcases dh hx with h1 | h1
    ·exact hq x h1
    ·subst h1; exact hqin)
  refine ⟨?_,ih.2⟩;rw [ih.1,Uf q b c cur hlen,a33 q c quo (by omega) (hq0 c (by omega))]
  exact bo [ew p cur,Pol.mo (zp p q) c,b,ew p quo] rfl
def a1c (O:ah):Prop:=∀l:List Int,l.length<1000000→O F2h [(.d (.sl .leaf (ab .i64 l)))] []=some (.sl 0 [] 0 l.length none,[],[.sl false .leaf (ab .i64 l)])
def wy (O:ah):Prop:=∀(p:Int) [IsP p] (a b:Fp p),b≠0→a.len<5000→b.len<5000 →
 ask O F1c [(D.int .i64 p),(D.sl .leaf (ab .i64 (row a))),(D.sl .leaf (ab .i64 (row b)))]=some (.tup [(D.sl .leaf (ab .i64 (row (a/b)))),(D.sl .leaf (ab .i64 (row (a%b))))])
end
section
variable {p:Int}
theorem H7 (b:Fp p):Jg (row b)=rep b.ld:=by unfold Jg Pol.ld; rw [gz,cg]
end
section
variable {p:Int} [IsP p]
theorem a7e (hT:T F1c=some Z1c) (hcl:a1c (den T A)) (htr:vz (den T A)) (hld:xw (den T A)) (hinv:py (den T A)) (hred:wx (den T A)):wy (den T A):=by
 intro p ip a b hb ha hbl;have hp:=IsP.ge (p:=p);have hp7:=IsP.le (p:=p);have e1:=hcl (row a) (by simpa using (show a.len<1000000 by omega))
 rw [cg] at e1;have hb0:=Pol.len_pos hb;refine bi hT rfl ?_
 by_cases hlt:a.len<b.len
 ·obtain ⟨h1,h2⟩:=Pol.div_mod_eq (a:=a) (b:=b) (q:=0) (r:=a) (by rw [Gq.zero_mul,Gq.zero_add]) hlt
  rw [h1,h2,dq];have h3:(a.len:Int)<(b.len:Int):=by omega
  simp -implicitDefEqProofs [Z1c,Z1c_B,ac,e1,h3,gy,a47]
 ·have h3:¬ (a.len:Int)<(b.len:Int):=by omega
  have hr:=kl b.ld;have e2:=hld (row b) (by simpa using (show b.len<1000000 by omega))
  rw [H7] at e2;have e3:=hinv p (rep b.ld) (by omega) (by omega) hr.1 hr.2
  have w1:IntKind.i64.wrap ((a.len:Int)-b.len)=(a.len:Int)-b.len:=w64 (by omega)
  have w2:IntKind.i64.wrap ((a.len:Int)-b.len+1)=((a.len-b.len+1:Nat):Int):=(w64 (x:=(a.len:Int)-b.len+1) (by omega)).trans (by omega)
  have w3:IntKind.i64.wrap (((a.len-b.len+1:Nat):Int)-1)=((a.len-b.len+1:Nat):Int)-1:=w64 (by omega)
  have h8:(a.len-b.len+1)*8≤1099511627776:=by omega
  have l1:=a2t (O:=den T A) (by_:=inv p (rep b.ld)) (b:=row b) (la:=a.len) (nq:=a.len-b.len+1) (cp:=none) hred (by omega) (by omega) (y9 p _) (k9 b) (by rw [cg]; omega) (by rw [cg]; omega) (by omega)
   (a.len-b.len+1) (row a) (List.replicate (a.len-b.len+1) 0) (ba _) (cg a) (by simp) (k9 a)
  have hz:∀n j,cf (List.replicate n (0:Int)) j=0:=fun n j=>by
   by_cases hj:j<n
   ·rw [fj (by simpa using hj)]; simp
   ·exact nj (by simp; omega)
  have sp:=Qv b hb (a.len-b.len+1) (row a) (List.replicate (a.len-b.len+1) 0) (by rw [cg]; omega) (by simp) (k9 a) (fun j _=>hz _ j) (fun j hj=>by rw [nj]; rw [cg]; omega) (fun x hx=>by
   obtain rfl:=(List.mem_replicate.1 hx).2; omega)
  have hl1:∀(c:Nat) (x y:List Int),(dv p (inv p (rep b.ld)) (row b) c (x,y)).1.length=x.length∧(dv p (inv p (rep b.ld)) (row b) c (x,y)).2.length=y.length:=by
   intro c
   induction c with
   | zero=>exact fun x y=>⟨rfl,rfl⟩
   | succ c ih=>
    intro x y;rw [dv];obtain ⟨i1,i2⟩:=ih (o6 p (cf x (c+(row b).length-1)*inv p (rep b.ld)%p) (row b) c (row b).length 0 x) (y.set c (cf x (c+(row b).length-1)*inv p (rep b.ld)%p));exact ⟨by rw [i1,nm],by rw [i2,cr]⟩
  obtain ⟨l2,l3⟩:=hl1 (a.len-b.len+1) (row a) (List.replicate (a.len-b.len+1) 0);generalize dv p (inv p (rep b.ld)) (row b) (a.len-b.len+1) (row a,List.replicate (a.len-b.len+1) 0)=r at *;obtain ⟨s1,s2,s3,s4⟩:=sp;have z0:ew p (List.replicate (a.len-b.len+1) 0)=0:=Pol.ext fun j=>by rw [iu,hz]; rfl
  rw [z0,Gq.zero_mul,Gq.add_zero,yz,Gq.add_comm] at s1
  have hrl:(ew p r.1).len<b.len:=by
   have:(ew p r.1).lt (b.len-1):=fun i hi=>by rw [iu,s2 i hi]; rfl
   have:=Pol.len_le this;omega
  obtain ⟨h1,h2⟩:=Pol.div_mod_eq s1.symm hrl;rw [h1,h2,←rf s3,←rf s4];have t1:=htr r.1 (by rw [l2,cg]; omega)
  have t2:=htr r.2 (by rw [l3,ch]; omega)
  have k1:r.1.take a.len=r.1:=bb (by rw [l2,cg]; omega)
  have k2:r.2.take (a.len-b.len+1)=r.2:=bb (by rw [l3,ch]; omega)
  rw [ch] at l3;rw [cg] at l2;generalize a.len-b.len+1=n at *;simp -implicitDefEqProofs [Z1c,Z1c_B,ac,e1,h3,w1,w2,w3,h8,e2,e3,l1,t1,t2,l2,l3,k1,k2]
end
end Pe

/-
 Functions of the program in the small form,printed by a program.
-/
namespace Pe
open Go
def Z2m_L0:Cd:=
 .seq (.region [Ll 9 (.bin .lss (.t 8) (.t 7))] [0,1,7,8,9])
 (.seq (.cond (.t 9)
 (.skip)
 (.exit 0))
 (.seq (.block 1 (.seq (.region [Lw 10 8,
 Lw 5 10] [0,1,5,7,8])
 (.seq (.region [Lw 11 1,
 Lw 12 0,
 Lw 13 5,
 Ll 14 (.idxA none Sx6 (.t 12) (.t 13)),
 Ipx 15 14,
 Ll 16 (.call .flat [] (.t 11) [(.t 15)])] [0,1,5,7,8,16])
 (.cond (.t 16)
 (.seq (.region [Lw 17 5,
 Lw 4 17] [4])
 (.ret))
 (.skip)))))
 (.region [Ll 18 (.bin .add (.t 8) (Acx 1)),
 Lw 8 18] [0,1,7,8])))
def Z2m_B:Cd:=
 .seq (.region [Ll 4 (.mv (Acx 0))] [0,1])
 (.seq (.seq (.region [Lw 6 0,
 Ll 7 (.len false (.t 6)),
 Ll 8 (.mv (Acx 0))] [0,1,7,8])
 (.block 0 (.loop (Z2m_L0))))
 (.seq (.region [Ll 4 (.mv (Acx (-1)))] [4])
 (.ret)))
def Z2m:Fn:=
 { nparams:=2,nblk:=0,results:=[.tmp 4],body:=Z2m_B }
def Z2j_B:Cd:=
 .seq (.region [Ll 4 (.mv (.c (.bool false)))] [0,1])
 (.seq (.region [Lw 5 0,
 Lw 6 1,
 Ll 7 (Ofx F2m [(.t 5),(.t 6)]),
 Ll 8 (.bin .geq (.t 7) (Acx 0)),
 Lw 4 8] [4])
 (.ret))
def Z2j:Fn:=
 { nparams:=2,nblk:=0,results:=[.tmp 4],body:=Z2j_B }
def Z2l_L0:Cd:=
 .seq (.region [Ll 9 (.bin .lss (.t 8) (.t 7))] [0,1,7,8,9])
 (.seq (.cond (.t 9)
 (.skip)
 (.exit 0))
 (.seq (.block 1 (.seq (.region [Lw 10 8,
 Lw 5 10] [0,1,5,7,8])
 (.seq (.region [Lw 11 1,
 Lw 12 0,
 Lw 13 5,
 Ll 14 (.idxA none .leaf (.t 12) (.t 13)),
 Ilx 15 14,
 Ll 16 (.call .flat [] (.t 11) [(.t 15)])] [0,1,5,7,8,16])
 (.cond (.t 16)
 (.seq (.region [Lw 17 5,
 Lw 4 17] [4])
 (.ret))
 (.skip)))))
 (.region [Ll 18 (.bin .add (.t 8) (Acx 1)),
 Lw 8 18] [0,1,7,8])))
def Z2l_B:Cd:=
 .seq (.region [Ll 4 (.mv (Acx 0))] [0,1])
 (.seq (.seq (.region [Lw 6 0,
 Ll 7 (.len false (.t 6)),
 Ll 8 (.mv (Acx 0))] [0,1,7,8])
 (.block 0 (.loop (Z2l_L0))))
 (.seq (.region [Ll 4 (.mv (Acx (-1)))] [4])
 (.ret)))
def Z2l:Fn:=
 { nparams:=2,nblk:=0,results:=[.tmp 4],body:=Z2l_B }
def Z2i_B:Cd:=
 .seq (.region [Ll 4 (.mv (.c (.bool false)))] [0,1])
 (.seq (.region [Lw 5 0,
 Lw 6 1,
 Ll 7 (Ofx F2l [(.t 5),(.t 6)]),
 Ll 8 (.bin .geq (.t 7) (Acx 0)),
 Lw 4 8] [4])
 (.ret))
def Z2i:Fn:=
 { nparams:=2,nblk:=0,results:=[.tmp 4],body:=Z2i_B }
def Z2w_L0:Cd:=
 .seq (.seq (.region [Lw 18 9,
 Lw 19 1,
 Ll 20 (.bin .gtr (.t 18) (.t 19)),
 Lw 21 20,
 Lx 22 3 21 true,
 Lx 23 0 21 true,
 Lx 24 9 21 true,
 Lg 25 (.idxA none (.st [.leaf,.leaf]) (.t 23) (.t 24)) 21 true,
 Lg 26 (.load (.st [.leaf,.leaf]) (.t 25)) 21 true,
 Lx 27 0 21 true,
 Lx 28 9 21 true,
 Lg 29 (.bin .sub (.t 28) (Acx 1)) 21 true,
 Lg 30 (.idxA none (.st [.leaf,.leaf]) (.t 27) (.t 29)) 21 true,
 Lg 31 (.load (.st [.leaf,.leaf]) (.t 30)) 21 true,
 Lg 32 (.call .flat [] (.t 22) [(.t 26),(.t 31)]) 21 true,
 Lg 33 (.bin .lss (.t 32) (Acx 0)) 21 true,
 Ll 34 (.pick (.t 21) (.t 33) (.c (.bool false)))] [0,1,2,3,8,9,34])
 (.cond (.t 34)
 (.skip)
 (.exit 2)))
 (.seq (.block 3 (.region [Lw 37 0,
 Lw 38 9,
 Lw 39 0,
 Lw 40 9,
 Ll 41 (.bin .sub (.t 40) (Acx 1)),
 Lw 42 0,
 Lw 43 9,
 Ll 44 (.bin .sub (.t 43) (Acx 1)),
 Ll 45 (.idxA none (.st [.leaf,.leaf]) (.t 42) (.t 44)),
 Ll 46 (.load (.st [.leaf,.leaf]) (.t 45)),
 Lw 47 0,
 Lw 48 9,
 Ll 49 (.idxA none (.st [.leaf,.leaf]) (.t 47) (.t 48)),
 Ll 50 (.load (.st [.leaf,.leaf]) (.t 49)),
 Ll 51 (.idxA none (.st [.leaf,.leaf]) (.t 37) (.t 38)),
 Ls (.store false (.st [.leaf,.leaf]) (.t 51) (.t 46)),
 Ll 52 (.idxA none (.st [.leaf,.leaf]) (.t 39) (.t 41)),
 Ls (.store false (.st [.leaf,.leaf]) (.t 52) (.t 50))] [0,1,2,3,8,9]))
 (.region [Lw 35 9,
 Ll 36 (.bin .sub (.t 35) (Acx 1)),
 Lw 9 36] [0,1,2,3,8,9]))
def Z2w_L1:Cd:=
 .seq (.seq (.region [Lw 12 8,
 Lw 13 2,
 Ll 14 (.bin .lss (.t 12) (.t 13))] [0,1,2,3,8,14])
 (.cond (.t 14)
 (.skip)
 (.exit 0)))
 (.seq (.block 1 (.seq (.region [Lw 17 8,
 Lw 9 17] [0,1,2,3,8,9])
 (.block 2 (.loop (Z2w_L0)))))
 (.region [Lw 15 8,
 Ll 16 (.bin .add (.t 15) (Acx 1)),
 Lw 8 16] [0,1,2,3,8]))
def Z2w_B:Cd:=
 .seq (.region [Lw 10 1,
 Ll 11 (.bin .add (.t 10) (Acx 1)),
 Lw 8 11] [0,1,2,3,8])
 (.block 0 (.loop (Z2w_L1)))
def Z2w:Fn:=
 { nparams:=4,nblk:=0,results:=[],body:=Z2w_B }
def Z2g_B:Cd:=
 .seq (.region [Ll 2 (.mv (Acx 0))] [0,2])
 (.seq (.seq (.region [Lw 3 0,
 Ll 4 (.bin .geq (.t 3) (.c (.int .u64 4294967296)))] [0,2,4])
 (.cond (.t 4)
 (.seq (.region [Lw 5 0,
 Ll 6 (.bin .shr (.t 5) (.c (.int .u64 32))),
 Lw 0 6] [0])
 (.region [Ll 2 (.mv (Acx 32))] [0,2]))
 (.skip)))
 (.seq (.seq (.region [Lw 7 0,
 Ll 8 (.bin .geq (.t 7) (.c (.int .u64 65536)))] [0,2,8])
 (.cond (.t 8)
 (.seq (.region [Lw 9 0,
 Ll 10 (.bin .shr (.t 9) (.c (.int .u64 16))),
 Lw 0 10] [0,2])
 (.region [Lw 11 2,
 Ll 12 (.bin .add (.t 11) (Acx 16)),
 Lw 2 12] [0,2]))
 (.skip)))
 (.seq (.seq (.region [Lw 13 0,
 Ll 14 (.bin .geq (.t 13) (.c (.int .u64 256)))] [0,2,14])
 (.cond (.t 14)
 (.seq (.region [Lw 15 0,
 Ll 16 (.bin .shr (.t 15) (.c (.int .u64 8))),
 Lw 0 16] [0,2])
 (.region [Lw 17 2,
 Ll 18 (.bin .add (.t 17) (Acx 8)),
 Lw 2 18] [0,2]))
 (.skip)))
 (.seq (.region [Lw 19 2,
 Lw 20 0,
 Ll 21 (.conv .u8 (.t 20)),
 Ll 22 (.idx none .leaf (.c (.str (ByteArray.mk #[0,1,2,2,3,3,3,3,4,4,4,4,4,4,4,4,5,5,5,5,5,5,5,5,5,5,5,5,5,5,5,5,6,6,6,6,6,6,6,6,6,6,6,6,6,6,6,6,6,6,6,6,6,6,6,6,6,6,6,6,6,6,6,6,7,7,7,7,7,7,7,7,7,7,7,7,7,7,7,7,7,7,7,7,7,7,7,7,7,7,7,7,7,7,7,7,7,7,7,7,7,7,7,7,7,7,7,7,7,7,7,7,7,7,7,7,7,7,7,7,7,7,7,7,7,7,7,7,8,8,8,8,8,8,8,8,8,8,8,8,8,8,8,8,8,8,8,8,8,8,8,8,8,8,8,8,8,8,8,8,8,8,8,8,8,8,8,8,8,8,8,8,8,8,8,8,8,8,8,8,8,8,8,8,8,8,8,8,8,8,8,8,8,8,8,8,8,8,8,8,8,8,8,8,8,8,8,8,8,8,8,8,8,8,8,8,8,8,8,8,8,8,8,8,8,8,8,8,8,8,8,8,8,8,8,8,8,8,8,8,8,8,8,8,8,8,8,8,8,8,8,8,8,8,8,8]))) (.t 21)),
 Ll 23 (.conv .i64 (.t 22)),
 Ll 24 (.bin .add (.t 19) (.t 23)),
 Lw 2 24] [2])
 (.ret)))))
def Z2g:Fn:=
 { nparams:=1,nblk:=0,results:=[.tmp 2],body:=Z2g_B }
def Z2e_B:Cd:=
 .seq (.region [Ll 2 (.mv (Acx 0))] [0])
 (.seq (.cond (.c (.bool false))
 (.seq (.region [Lw 3 0,
 Ll 4 (.conv .u32 (.t 3)),
 Ll 5 (Ofx F2f [(.t 4)]),
 Lw 2 5] [2])
 (.ret))
 (.skip))
 (.seq (.region [Lw 6 0,
 Ll 7 (Ofx F2g [(.t 6)]),
 Lw 2 7] [2])
 (.ret)))
def Z2e:Fn:=
 { nparams:=1,nblk:=0,results:=[.tmp 2],body:=Z2e_B }
def Z3b_L0:Cd:=
 .block 1 (.seq (.region [Lw 21 2,
 Lw 22 1,
 Ll 23 (.bin .sub (.t 21) (.t 22)),
 Lw 12 23] [0,1,2,3,4,10,11,12])
 (.seq (.seq (.region [Lw 24 12,
 Ll 25 (.bin .leq (.t 24) (Acx 12))] [0,1,2,3,4,10,11,12,25])
 (.cond (.t 25)
 (.seq (.region [Lw 26 0,
 Lw 27 1,
 Lw 28 2,
 Lw 29 4,
 Ll 30 (.call .heap [] (.f F2w) [(.t 26),(.t 27),(.t 28),(.t 29)])] [])
 (.ret))
 (.skip)))
 (.seq (.seq (.region [Lw 31 3,
 Ll 32 (.bin .eql (.t 31) (Acx 0))] [0,1,2,3,4,10,11,12,32])
 (.cond (.t 32)
 (.seq (.region [Lw 33 0,
 Lw 34 1,
 Lw 35 2,
 Lw 36 4,
 Ll 37 (.call .heap [] (.f F2u) [(.t 33),(.t 34),(.t 35),(.t 36)])] [])
 (.ret))
 (.skip)))
 (.seq (.seq (.region [Lw 38 10,
 Ll 39 (.un .not (.t 38))] [0,1,2,3,4,10,11,12,39])
 (.cond (.t 39)
 (.seq (.region [Lw 40 0,
 Lw 41 1,
 Lw 42 2,
 Lw 43 4,
 Ll 44 (.call .heap [] (.f F2q) [(.t 40),(.t 41),(.t 42),(.t 43)])] [0,1,2,3,4,10,11,12])
 (.region [Lw 45 3,
 Ll 46 (.bin .sub (.t 45) (Acx 1)),
 Lw 3 46] [0,1,2,3,4,10,11,12]))
 (.skip)))
 (.seq (.region [Lw 48 0,
 Lw 49 1,
 Lw 50 2,
 Lw 51 4,
 Ll 52 (Ofx F2s [(.t 48),(.t 49),(.t 50),(.t 51)]),
 Lw 47 52,
 Iex 53 47 0,
 Iex 54 47 1,
 Lw 13 53,
 Lw 14 54] [0,1,2,3,4,10,11,12,13,14])
 (.seq (.seq (.region [Lw 55 14,
 Ll 56 (.bin .eql (.t 55) (Acx 2))] [0,1,2,3,4,10,11,12,13,14,56])
 (.cond (.t 56)
 (.seq (.region [Lw 57 0,
 Lw 58 1,
 Lw 59 2,
 Lw 60 4,
 Ll 61 (.call .heap [] (.f F3d) [(.t 57),(.t 58),(.t 59),(.t 60)])] [0,1,2,3,4,10,11,12,13])
 (.seq (.region [Lw 62 2,
 Ll 63 (.bin .sub (.t 62) (Acx 1)),
 Lw 64 13,
 Lw 65 1,
 Ll 66 (.bin .sub (.t 64) (.t 65)),
 Ll 67 (.bin .sub (.t 63) (.t 66)),
 Lw 13 67] [0,1,2,3,4,10,11,12,13])
 (.region [Ll 14 (.mv (Acx 1))] [0,1,2,3,4,10,11,12,13,14])))
 (.skip)))
 (.seq (.seq (.region [Lw 68 10,
 Lw 69 68,
 Lx 70 11 69 true,
 Ll 71 (.pick (.t 69) (.t 70) (.c (.bool false))),
 Lw 72 71,
 Lx 73 14 72 true,
 Lg 74 (.bin .eql (.t 73) (Acx 1)) 72 true,
 Ll 75 (.pick (.t 72) (.t 74) (.c (.bool false)))] [0,1,2,3,4,10,11,12,13,75])
 (.cond (.t 75)
 (.seq (.region [Lw 76 0,
 Lw 77 1,
 Lw 78 2,
 Lw 79 4,
 Ll 80 (.call .heap [] (.f F35) [(.t 76),(.t 77),(.t 78),(.t 79)])] [0,1,2,3,4,10,11,12,13,80])
 (.cond (.t 80)
 (.ret)
 (.skip)))
 (.skip)))
 (.seq (.seq (.region [Lw 81 1,
 Ll 82 (.bin .gtr (.t 81) (Acx 0)),
 Lw 83 82,
 Lx 84 4 83 true,
 Lx 85 0 83 true,
 Lx 86 1 83 true,
 Lg 87 (.bin .sub (.t 86) (Acx 1)) 83 true,
 Lg 88 (.idxA none (.st [.leaf,.leaf]) (.t 85) (.t 87)) 83 true,
 Lg 89 (.load (.st [.leaf,.leaf]) (.t 88)) 83 true,
 Lx 90 0 83 true,
 Lx 91 13 83 true,
 Lg 92 (.idxA none (.st [.leaf,.leaf]) (.t 90) (.t 91)) 83 true,
 Lg 93 (.load (.st [.leaf,.leaf]) (.t 92)) 83 true,
 Lg 94 (.call .flat [] (.t 84) [(.t 89),(.t 93)]) 83 true,
 Lg 95 (.bin .lss (.t 94) (Acx 0)) 83 true,
 Lg 96 (.un .not (.t 95)) 83 true,
 Ll 97 (.pick (.t 83) (.t 96) (.c (.bool false)))] [0,1,2,3,4,10,11,12,13,97])
 (.cond (.t 97)
 (.seq (.region [Lw 98 0,
 Lw 99 1,
 Lw 100 2,
 Lw 101 13,
 Lw 102 4,
 Ll 103 (.call .heap [] (.f F39) [(.t 98),(.t 99),(.t 100),(.t 101),(.t 102)]),
 Lw 15 103] [0,2,3,4,10,11,15])
 (.seq (.region [Lw 104 15,
 Lw 1 104] [0,1,2,3,4,10,11])
 (.exit 1)))
 (.skip)))
 (.seq (.region [Lw 106 0,
 Lw 107 1,
 Lw 108 2,
 Lw 109 13,
 Lw 110 4,
 Ll 111 (.call .heap [] (.f F37) [(.t 106),(.t 107),(.t 108),(.t 109),(.t 110)]),
 Lw 105 111,
 Iex 112 105 0,
 Iex 113 105 1,
 Lw 16 112,
 Lw 17 113] [0,1,2,3,4,12,16,17])
 (.seq (.region [Lw 114 17,
 Lw 11 114] [0,1,2,3,4,11,12,16])
 (.seq (.region [Lw 115 16,
 Lw 116 1,
 Ll 117 (.bin .sub (.t 115) (.t 116)),
 Lw 118 2,
 Lw 119 16,
 Ll 120 (.bin .sub (.t 118) (.t 119)),
 Lw 18 117,
 Lw 19 120] [0,1,2,3,4,11,12,16,18,19])
 (.seq (.region [Lw 121 12,
 Ll 122 (.bin .quo (.t 121) (Acx 8)),
 Lw 20 122] [0,1,2,3,4,11,16,18,19,20])
 (.seq (.region [Lw 123 18,
 Lw 124 19,
 Ll 125 (.bin .lss (.t 123) (.t 124))] [0,1,2,3,4,11,16,18,19,20,125])
 (.cond (.t 125)
 (.seq (.region [Lw 126 18,
 Lw 127 20,
 Ll 128 (.bin .geq (.t 126) (.t 127)),
 Lw 10 128] [0,1,2,3,4,10,11,16])
 (.seq (.region [Lw 129 0,
 Lw 130 1,
 Lw 131 16,
 Lw 132 3,
 Lw 133 4,
 Ll 134 (.call .heap [] (.f F3b) [(.t 129),(.t 130),(.t 131),(.t 132),(.t 133)])] [0,2,3,4,10,11,16])
 (.region [Lw 135 16,
 Ll 136 (.bin .add (.t 135) (Acx 1)),
 Lw 1 136] [0,1,2,3,4,10,11])))
 (.seq (.region [Lw 137 19,
 Lw 138 20,
 Ll 139 (.bin .geq (.t 137) (.t 138)),
 Lw 10 139] [0,1,2,3,4,10,11,16])
 (.seq (.region [Lw 140 0,
 Lw 141 16,
 Ll 142 (.bin .add (.t 141) (Acx 1)),
 Lw 143 2,
 Lw 144 3,
 Lw 145 4,
 Ll 146 (.call .heap [] (.f F3b) [(.t 140),(.t 142),(.t 143),(.t 144),(.t 145)])] [0,1,3,4,10,11,16])
 (.region [Lw 147 16,
 Lw 2 147] [0,1,2,3,4,10,11])))))))))))))))))
def Z3b_B:Cd:=
 .seq (.region [Ll 10 (.mv (.c (.bool true)))] [0,1,2,3,4,10])
 (.seq (.region [Ll 11 (.mv (.c (.bool true)))] [0,1,2,3,4,10,11])
 (.block 0 (.loop (Z3b_L0))))
def Z3b:Fn:=
 { nparams:=5,nblk:=0,results:=[],body:=Z3b_B }
def Z2o_B:Cd:=
 .seq (.region [Lw 5 0,
 Ll 6 (.len false (.t 5)),
 Lw 4 6] [0,1,4])
 (.region [Lw 7 0,
 Lw 8 4,
 Lw 9 4,
 Ll 10 (.conv .u64 (.t 9)),
 Ll 11 (Ofx F2e [(.t 10)]),
 Lw 12 1,
 Ll 13 (.call .heap [] (.f F3b) [(.t 7),(Acx 0),(.t 8),(.t 11),(.t 12)])] [])
def Z2o:Fn:=
 { nparams:=2,nblk:=0,results:=[],body:=Z2o_B }
def Z2_B:Cd:=
 .seq (.region [Ll 2 (.mv (.c (.bool false)))] [0])
 (.seq (.region [Lw 3 0,
 Lw 4 0,
 Ll 5 (.bin .neq (.t 3) (.t 4)),
 Lw 2 5] [2])
 (.ret))
def Z2:Fn:=
 { nparams:=1,nblk:=0,results:=[.tmp 2],body:=Z2_B }
def Z0_B:Cd:=
 .seq (.region [Ll 4 (.mv (Acx 0))] [0,1])
 (.seq (.region [Lw 7 0,
 Ll 8 (Ofx F2 [(.t 7)]),
 Lw 5 8] [0,1,5])
 (.seq (.region [Lw 9 1,
 Ll 10 (Ofx F2 [(.t 9)]),
 Lw 6 10] [0,1,5,6])
 (.seq (.seq (.region [Lw 11 5] [0,1,6,11])
 (.cond (.t 11)
 (.seq (.seq (.region [Lw 12 6] [12])
 (.cond (.t 12)
 (.seq (.region [Ll 4 (.mv (Acx 0))] [4])
 (.ret))
 (.skip)))
 (.seq (.region [Ll 4 (.mv (Acx (-1)))] [4])
 (.ret)))
 (.skip)))
 (.seq (.seq (.region [Lw 13 6] [0,1,13])
 (.cond (.t 13)
 (.seq (.region [Ll 4 (.mv (Acx 1))] [4])
 (.ret))
 (.skip)))
 (.seq (.seq (.region [Lw 14 0,
 Lw 15 1,
 Ll 16 (.bin .lss (.t 14) (.t 15))] [0,1,16])
 (.cond (.t 16)
 (.seq (.region [Ll 4 (.mv (Acx (-1)))] [4])
 (.ret))
 (.skip)))
 (.seq (.seq (.region [Lw 17 0,
 Lw 18 1,
 Ll 19 (.bin .gtr (.t 17) (.t 18))] [19])
 (.cond (.t 19)
 (.seq (.region [Ll 4 (.mv (Acx 1))] [4])
 (.ret))
 (.skip)))
 (.seq (.region [Ll 4 (.mv (Acx 0))] [4])
 (.ret))))))))
def Z0:Fn:=
 { nparams:=2,nblk:=0,results:=[.tmp 4],body:=Z0_B }
def Z3_B:Cd:=
 .seq (.region [Ll 2 (.mv (.c (.bool false)))] [0])
 (.seq (.region [Lw 3 0,
 Lw 4 0,
 Ll 5 (.bin .neq (.t 3) (.t 4)),
 Lw 2 5] [2])
 (.ret))
def Z3:Fn:=
 { nparams:=1,nblk:=0,results:=[.tmp 2],body:=Z3_B }
def Z1_B:Cd:=
 .seq (.region [Ll 4 (.mv (Acx 0))] [0,1])
 (.seq (.region [Lw 7 0,
 Ll 8 (Ofx F3 [(.t 7)]),
 Lw 5 8] [0,1,5])
 (.seq (.region [Lw 9 1,
 Ll 10 (Ofx F3 [(.t 9)]),
 Lw 6 10] [0,1,5,6])
 (.seq (.seq (.region [Lw 11 5] [0,1,6,11])
 (.cond (.t 11)
 (.seq (.seq (.region [Lw 12 6] [12])
 (.cond (.t 12)
 (.seq (.region [Ll 4 (.mv (Acx 0))] [4])
 (.ret))
 (.skip)))
 (.seq (.region [Ll 4 (.mv (Acx (-1)))] [4])
 (.ret)))
 (.skip)))
 (.seq (.seq (.region [Lw 13 6] [0,1,13])
 (.cond (.t 13)
 (.seq (.region [Ll 4 (.mv (Acx 1))] [4])
 (.ret))
 (.skip)))
 (.seq (.seq (.region [Lw 14 0,
 Lw 15 1,
 Ll 16 (.bin .lss (.t 14) (.t 15))] [0,1,16])
 (.cond (.t 16)
 (.seq (.region [Ll 4 (.mv (Acx (-1)))] [4])
 (.ret))
 (.skip)))
 (.seq (.seq (.region [Lw 17 0,
 Lw 18 1,
 Ll 19 (.bin .gtr (.t 17) (.t 18))] [19])
 (.cond (.t 19)
 (.seq (.region [Ll 4 (.mv (Acx 1))] [4])
 (.ret))
 (.skip)))
 (.seq (.region [Ll 4 (.mv (Acx 0))] [4])
 (.ret))))))))
def Z1:Fn:=
 { nparams:=2,nblk:=0,results:=[.tmp 4],body:=Z1_B }
def ir_slices_IndexFunc_impl_Skew_impl_Skew_L0:Cd:=
 .seq (.region [Ll 9 (.bin .lss (.t 8) (.t 7))] [0,1,7,8,9])
 (.seq (.cond (.t 9)
 (.skip)
 (.exit 0))
 (.seq (.block 1 (.seq (.region [Lw 10 8,
 Lw 5 10] [0,1,5,7,8])
 (.seq (.region [Lw 11 1,
 Lw 12 0,
 Lw 13 5,
 Ll 14 (.idxA none Sx8 (.t 12) (.t 13)),
 Isx 15 14,
 Ll 16 (.call .flat [] (.t 11) [(.t 15)])] [0,1,5,7,8,16])
 (.cond (.t 16)
 (.seq (.region [Lw 17 5,
 Lw 4 17] [4])
 (.ret))
 (.skip)))))
 (.region [Ll 18 (.bin .add (.t 8) (Acx 1)),
 Lw 8 18] [0,1,7,8])))
def ir_slices_IndexFunc_impl_Skew_impl_Skew_B:Cd:=
 .seq (.region [Ll 4 (.mv (Acx 0))] [0,1])
 (.seq (.seq (.region [Lw 6 0,
 Ll 7 (.len false (.t 6)),
 Ll 8 (.mv (Acx 0))] [0,1,7,8])
 (.block 0 (.loop (ir_slices_IndexFunc_impl_Skew_impl_Skew_L0))))
 (.seq (.region [Ll 4 (.mv (Acx (-1)))] [4])
 (.ret)))
def Z2n:Fn:=
 { nparams:=2,nblk:=0,results:=[.tmp 4],body:=ir_slices_IndexFunc_impl_Skew_impl_Skew_B }
def ir_slices_ContainsFunc_impl_Skew_impl_Skew_B:Cd:=
 .seq (.region [Ll 4 (.mv (.c (.bool false)))] [0,1])
 (.seq (.region [Lw 5 0,
 Lw 6 1,
 Ll 7 (Ofx F2n [(.t 5),(.t 6)]),
 Ll 8 (.bin .geq (.t 7) (Acx 0)),
 Lw 4 8] [4])
 (.ret))
def Z2k:Fn:=
 { nparams:=2,nblk:=0,results:=[.tmp 4],body:=ir_slices_ContainsFunc_impl_Skew_impl_Skew_B }
def ir_slices_insertionSortCmpFunc_impl_row_L0:Cd:=
 .seq (.seq (.region [Lw 18 9,
 Lw 19 1,
 Ll 20 (.bin .gtr (.t 18) (.t 19)),
 Lw 21 20,
 Lx 22 3 21 true,
 Lx 23 0 21 true,
 Lx 24 9 21 true,
 Lg 25 (.idxA none .leaf (.t 23) (.t 24)) 21 true,
 Lg 26 (.load .leaf (.t 25)) 21 true,
 Lx 27 0 21 true,
 Lx 28 9 21 true,
 Lg 29 (.bin .sub (.t 28) (Acx 1)) 21 true,
 Lg 30 (.idxA none .leaf (.t 27) (.t 29)) 21 true,
 Lg 31 (.load .leaf (.t 30)) 21 true,
 Lg 32 (.call .flat [] (.t 22) [(.t 26),(.t 31)]) 21 true,
 Lg 33 (.bin .lss (.t 32) (Acx 0)) 21 true,
 Ll 34 (.pick (.t 21) (.t 33) (.c (.bool false)))] [0,1,2,3,8,9,34])
 (.cond (.t 34)
 (.skip)
 (.exit 2)))
 (.seq (.block 3 (.region [Lw 37 0,
 Lw 38 9,
 Lw 39 0,
 Lw 40 9,
 Ll 41 (.bin .sub (.t 40) (Acx 1)),
 Lw 42 0,
 Lw 43 9,
 Ll 44 (.bin .sub (.t 43) (Acx 1)),
 Ll 45 (.idxA none .leaf (.t 42) (.t 44)),
 Ilx 46 45,
 Lw 47 0,
 Lw 48 9,
 Ll 49 (.idxA none .leaf (.t 47) (.t 48)),
 Ilx 50 49,
 Ll 51 (.idxA none .leaf (.t 37) (.t 38)),
 Ls (.store false .leaf (.t 51) (.t 46)),
 Ll 52 (.idxA none .leaf (.t 39) (.t 41)),
 Ls (.store false .leaf (.t 52) (.t 50))] [0,1,2,3,8,9]))
 (.region [Lw 35 9,
 Ll 36 (.bin .sub (.t 35) (Acx 1)),
 Lw 9 36] [0,1,2,3,8,9]))
def ir_slices_insertionSortCmpFunc_impl_row_L1:Cd:=
 .seq (.seq (.region [Lw 12 8,
 Lw 13 2,
 Ll 14 (.bin .lss (.t 12) (.t 13))] [0,1,2,3,8,14])
 (.cond (.t 14)
 (.skip)
 (.exit 0)))
 (.seq (.block 1 (.seq (.region [Lw 17 8,
 Lw 9 17] [0,1,2,3,8,9])
 (.block 2 (.loop (ir_slices_insertionSortCmpFunc_impl_row_L0)))))
 (.region [Lw 15 8,
 Ll 16 (.bin .add (.t 15) (Acx 1)),
 Lw 8 16] [0,1,2,3,8]))
def ir_slices_insertionSortCmpFunc_impl_row_B:Cd:=
 .seq (.region [Lw 10 1,
 Ll 11 (.bin .add (.t 10) (Acx 1)),
 Lw 8 11] [0,1,2,3,8])
 (.block 0 (.loop (ir_slices_insertionSortCmpFunc_impl_row_L1)))
def Z2x:Fn:=
 { nparams:=4,nblk:=0,results:=[],body:=ir_slices_insertionSortCmpFunc_impl_row_B }
def ir_slices_pdqsortCmpFunc_impl_row_L0:Cd:=
 .block 1 (.seq (.region [Lw 21 2,
 Lw 22 1,
 Ll 23 (.bin .sub (.t 21) (.t 22)),
 Lw 12 23] [0,1,2,3,4,10,11,12])
 (.seq (.seq (.region [Lw 24 12,
 Ll 25 (.bin .leq (.t 24) (Acx 12))] [0,1,2,3,4,10,11,12,25])
 (.cond (.t 25)
 (.seq (.region [Lw 26 0,
 Lw 27 1,
 Lw 28 2,
 Lw 29 4,
 Ll 30 (.call .heap [] (.f F2x) [(.t 26),(.t 27),(.t 28),(.t 29)])] [])
 (.ret))
 (.skip)))
 (.seq (.seq (.region [Lw 31 3,
 Ll 32 (.bin .eql (.t 31) (Acx 0))] [0,1,2,3,4,10,11,12,32])
 (.cond (.t 32)
 (.seq (.region [Lw 33 0,
 Lw 34 1,
 Lw 35 2,
 Lw 36 4,
 Ll 37 (.call .heap [] (.f F2v) [(.t 33),(.t 34),(.t 35),(.t 36)])] [])
 (.ret))
 (.skip)))
 (.seq (.seq (.region [Lw 38 10,
 Ll 39 (.un .not (.t 38))] [0,1,2,3,4,10,11,12,39])
 (.cond (.t 39)
 (.seq (.region [Lw 40 0,
 Lw 41 1,
 Lw 42 2,
 Lw 43 4,
 Ll 44 (.call .heap [] (.f F2r) [(.t 40),(.t 41),(.t 42),(.t 43)])] [0,1,2,3,4,10,11,12])
 (.region [Lw 45 3,
 Ll 46 (.bin .sub (.t 45) (Acx 1)),
 Lw 3 46] [0,1,2,3,4,10,11,12]))
 (.skip)))
 (.seq (.region [Lw 48 0,
 Lw 49 1,
 Lw 50 2,
 Lw 51 4,
 Ll 52 (Ofx F2t [(.t 48),(.t 49),(.t 50),(.t 51)]),
 Lw 47 52,
 Iex 53 47 0,
 Iex 54 47 1,
 Lw 13 53,
 Lw 14 54] [0,1,2,3,4,10,11,12,13,14])
 (.seq (.seq (.region [Lw 55 14,
 Ll 56 (.bin .eql (.t 55) (Acx 2))] [0,1,2,3,4,10,11,12,13,14,56])
 (.cond (.t 56)
 (.seq (.region [Lw 57 0,
 Lw 58 1,
 Lw 59 2,
 Lw 60 4,
 Ll 61 (.call .heap [] (.f F3e) [(.t 57),(.t 58),(.t 59),(.t 60)])] [0,1,2,3,4,10,11,12,13])
 (.seq (.region [Lw 62 2,
 Ll 63 (.bin .sub (.t 62) (Acx 1)),
 Lw 64 13,
 Lw 65 1,
 Ll 66 (.bin .sub (.t 64) (.t 65)),
 Ll 67 (.bin .sub (.t 63) (.t 66)),
 Lw 13 67] [0,1,2,3,4,10,11,12,13])
 (.region [Ll 14 (.mv (Acx 1))] [0,1,2,3,4,10,11,12,13,14])))
 (.skip)))
 (.seq (.seq (.region [Lw 68 10,
 Lw 69 68,
 Lx 70 11 69 true,
 Ll 71 (.pick (.t 69) (.t 70) (.c (.bool false))),
 Lw 72 71,
 Lx 73 14 72 true,
 Lg 74 (.bin .eql (.t 73) (Acx 1)) 72 true,
 Ll 75 (.pick (.t 72) (.t 74) (.c (.bool false)))] [0,1,2,3,4,10,11,12,13,75])
 (.cond (.t 75)
 (.seq (.region [Lw 76 0,
 Lw 77 1,
 Lw 78 2,
 Lw 79 4,
 Ll 80 (.call .heap [] (.f F36) [(.t 76),(.t 77),(.t 78),(.t 79)])] [0,1,2,3,4,10,11,12,13,80])
 (.cond (.t 80)
 (.ret)
 (.skip)))
 (.skip)))
 (.seq (.seq (.region [Lw 81 1,
 Ll 82 (.bin .gtr (.t 81) (Acx 0)),
 Lw 83 82,
 Lx 84 4 83 true,
 Lx 85 0 83 true,
 Lx 86 1 83 true,
 Lg 87 (.bin .sub (.t 86) (Acx 1)) 83 true,
 Lg 88 (.idxA none .leaf (.t 85) (.t 87)) 83 true,
 Lg 89 (.load .leaf (.t 88)) 83 true,
 Lx 90 0 83 true,
 Lx 91 13 83 true,
 Lg 92 (.idxA none .leaf (.t 90) (.t 91)) 83 true,
 Lg 93 (.load .leaf (.t 92)) 83 true,
 Lg 94 (.call .flat [] (.t 84) [(.t 89),(.t 93)]) 83 true,
 Lg 95 (.bin .lss (.t 94) (Acx 0)) 83 true,
 Lg 96 (.un .not (.t 95)) 83 true,
 Ll 97 (.pick (.t 83) (.t 96) (.c (.bool false)))] [0,1,2,3,4,10,11,12,13,97])
 (.cond (.t 97)
 (.seq (.region [Lw 98 0,
 Lw 99 1,
 Lw 100 2,
 Lw 101 13,
 Lw 102 4,
 Ll 103 (.call .heap [] (.f F3a) [(.t 98),(.t 99),(.t 100),(.t 101),(.t 102)]),
 Lw 15 103] [0,2,3,4,10,11,15])
 (.seq (.region [Lw 104 15,
 Lw 1 104] [0,1,2,3,4,10,11])
 (.exit 1)))
 (.skip)))
 (.seq (.region [Lw 106 0,
 Lw 107 1,
 Lw 108 2,
 Lw 109 13,
 Lw 110 4,
 Ll 111 (.call .heap [] (.f F38) [(.t 106),(.t 107),(.t 108),(.t 109),(.t 110)]),
 Lw 105 111,
 Iex 112 105 0,
 Iex 113 105 1,
 Lw 16 112,
 Lw 17 113] [0,1,2,3,4,12,16,17])
 (.seq (.region [Lw 114 17,
 Lw 11 114] [0,1,2,3,4,11,12,16])
 (.seq (.region [Lw 115 16,
 Lw 116 1,
 Ll 117 (.bin .sub (.t 115) (.t 116)),
 Lw 118 2,
 Lw 119 16,
 Ll 120 (.bin .sub (.t 118) (.t 119)),
 Lw 18 117,
 Lw 19 120] [0,1,2,3,4,11,12,16,18,19])
 (.seq (.region [Lw 121 12,
 Ll 122 (.bin .quo (.t 121) (Acx 8)),
 Lw 20 122] [0,1,2,3,4,11,16,18,19,20])
 (.seq (.region [Lw 123 18,
 Lw 124 19,
 Ll 125 (.bin .lss (.t 123) (.t 124))] [0,1,2,3,4,11,16,18,19,20,125])
 (.cond (.t 125)
 (.seq (.region [Lw 126 18,
 Lw 127 20,
 Ll 128 (.bin .geq (.t 126) (.t 127)),
 Lw 10 128] [0,1,2,3,4,10,11,16])
 (.seq (.region [Lw 129 0,
 Lw 130 1,
 Lw 131 16,
 Lw 132 3,
 Lw 133 4,
 Ll 134 (.call .heap [] (.f F3c) [(.t 129),(.t 130),(.t 131),(.t 132),(.t 133)])] [0,2,3,4,10,11,16])
 (.region [Lw 135 16,
 Ll 136 (.bin .add (.t 135) (Acx 1)),
 Lw 1 136] [0,1,2,3,4,10,11])))
 (.seq (.region [Lw 137 19,
 Lw 138 20,
 Ll 139 (.bin .geq (.t 137) (.t 138)),
 Lw 10 139] [0,1,2,3,4,10,11,16])
 (.seq (.region [Lw 140 0,
 Lw 141 16,
 Ll 142 (.bin .add (.t 141) (Acx 1)),
 Lw 143 2,
 Lw 144 3,
 Lw 145 4,
 Ll 146 (.call .heap [] (.f F3c) [(.t 140),(.t 142),(.t 143),(.t 144),(.t 145)])] [0,1,3,4,10,11,16])
 (.region [Lw 147 16,
 Lw 2 147] [0,1,2,3,4,10,11])))))))))))))))))
def ir_slices_pdqsortCmpFunc_impl_row_B:Cd:=
 .seq (.region [Ll 10 (.mv (.c (.bool true)))] [0,1,2,3,4,10])
 (.seq (.region [Ll 11 (.mv (.c (.bool true)))] [0,1,2,3,4,10,11])
 (.block 0 (.loop (ir_slices_pdqsortCmpFunc_impl_row_L0))))
def Z3c:Fn:=
 { nparams:=5,nblk:=0,results:=[],body:=ir_slices_pdqsortCmpFunc_impl_row_B }
def ir_slices_SortFunc_impl_row_impl_row_B:Cd:=
 .seq (.region [Lw 5 0,
 Ll 6 (.len false (.t 5)),
 Lw 4 6] [0,1,4])
 (.region [Lw 7 0,
 Lw 8 4,
 Lw 9 4,
 Ll 10 (.conv .u64 (.t 9)),
 Ll 11 (Ofx F2e [(.t 10)]),
 Lw 12 1,
 Ll 13 (.call .heap [] (.f F3c) [(.t 7),(Acx 0),(.t 8),(.t 11),(.t 12)])] [])
def Z2p:Fn:=
 { nparams:=2,nblk:=0,results:=[],body:=ir_slices_SortFunc_impl_row_impl_row_B }
end Pe

namespace Pe
open Go Gq
variable {T:Nat→Option Fn} {A:ah}
def Aj (ds:List D):Prop:=∀x∈ds,x.isTup=false
theorem oa (h:Heap):∀{ds:List D},Aj ds→pq h (ds.map .d)=some ds
 | [],_=>rfl
 | d::ds,hn=>by
  have h1:d.isTup=false:=hn d (by simp)
  have h2:=oa h (ds:=ds) fun x hx=>hn x (by simp [hx])
  simp [h1,h2]
theorem xd (h:Heap):∀{a b:List V} {x y:List D},pq h a=some x→pq h b=some y→pq h (a++b)=some (x++y)
 | [],b,x,y,h1,h2=>by simp at h1; subst h1; simpa using h2
 | v::a,b,x,y,h1,h2=>by
  simp only [a3j] at h1;obtain ⟨d,hd,h1⟩:=a5.1 h1;simp only [adm] at h1
  split at h1
  ·cases h1
  ·rename_i hn
   obtain ⟨z,hz,rfl⟩:=a9.1 h1;have:=xd h hz h2;simp [hd,hn,this]
theorem Cc {O:ah} {np:Nat} {h:Heap} {news:List Nat} {g:Nat} {first caps:List D} {x r:D} (h1:Aj first) (h2:Aj caps) (hx:x.isTup=false) (ha:ask O g (first++[x]++caps)=some r) (hr:r.flat=true) :
 Ef O np h .flat news (g,first.map .d,caps.map .d) [.d x]=some (.d r,h):=by
 have e:pq h (first.map .d++[.d x]++caps.map .d)=some (first++[x]++caps):=
  xd h (xd h (oa h h1) (oa h (ds:=[x]) (by intro y hy; simp at hy; subst hy; exact hx))) (oa h h2)
 rw [E2,e,ae,Ng,ha,ae,Hd,hr,if_pos rfl]
def si (P:D→Bool):List D→Nat→Int
 | [],_=>-1
 | d::ds,i=>if P d then i else si P ds (i+1)
theorem Ju (P:D→Bool):∀(ds:List D) (i:Nat),(0≤si P ds i)↔ds.any P=true
 | [],i=>by simp [si]
 | d::ds,i=>by
  rw [si];cases h:P d
  ·simp [h,Ju P ds (i+1)]
  ·simp [h]
def qy (O:ah) (g:Nat) (first caps cs:List D) (P:D→Bool):Prop:=Aj first∧Aj caps∧Aj cs∧∀x∈cs,ask O g (first++[x]++caps)=some (D.bool (P x))
def D0 (s:Sh) (cs:List D):Prop:=∀x∈cs,x.sh=s
theorem U4 {O:ah} {g:Nat} {first caps cs:List D} {P:D→Bool} (hF:qy O g first caps cs P) (hs:D0 .leaf cs) (hl:cs.length<2000000):∀(m i:Nat),i+m=cs.length →
 dn O 0 (.loop Z2l_L0) ⟨[(0,.d (.sl .leaf cs)),(1,.d (.fn g first caps)),(7,(.d (.int .i64 cs.length))),(8,(.d (.int .i64 i)))],[]⟩ =
  if (cs.drop i).any P then some (.ret,⟨[(4,(.d (.int .i64 (si P (cs.drop i) i))))],[]⟩) else some (.exit 0,⟨[(0,.d (.sl .leaf cs)),(1,.d (.fn g first caps)),(7,(.d (.int .i64 cs.length))),(8,(.d (.int .i64 cs.length))),(9,(.d (.bool false)))],[]⟩)
 | 0,i,hi=>by
  have:i=cs.length:=by omega
  subst this;rw [ez];exact bt (by simp -implicitDefEqProofs [Z2l_L0,ac])
 | m+1,i,hi=>by
  have hlt:i<cs.length:=by omega
  have h1:(i:Int)<cs.length:=by omega
  have hx:cs[i]? = some cs[i]:=au hlt;have hm:cs[i]∈cs:=bj hlt;have hc:=Cc (O:=O) (np:=0) (h:=[]) (news:=[]) hF.1 hF.2.1 (hF.2.2.1 _ hm) (hF.2.2.2 _ hm) rfl;have hsh:=hs _ hm;have w4:IntKind.i64.wrap ((i:Int)+1)=((i+1:Nat):Int):=(w64 (x:=(i:Int)+1) (by omega)).trans (by omega)
  rw [bu hlt];cases hp:P cs[i]
  ·rw [hp] at hc
   refine bm (s1:=⟨[(0,.d (.sl .leaf cs)),(1,.d (.fn g first caps)),(7,(.d (.int .i64 cs.length))),(8,(.d (.int .i64 ((i+1:Nat)))))],[]⟩) ?_ ?_
   ·simp -implicitDefEqProofs [Z2l_L0,ac,h1,hx,hsh,hc,w4]
   ·rw [U4 hF hs hl m (i+1) (by omega)]
    simp only [ol,hp,Bool.false_or,si,b9,if_false]
  ·rw [hp] at hc
   have e:si P (cs[i]::cs.drop (i+1)) i=i:=by simp [si,hp]
   rw [e];simp only [ol,hp,Bool.true_or,if_true];exact lq (by simp -implicitDefEqProofs [Z2l_L0,ac,h1,hx,hsh,hc])
theorem Vv {O:ah} {g:Nat} {first caps cs:List D} {P:D→Bool} (hF:qy O g first caps cs P) (hs:D0 (.arr 64 .leaf) cs) (hl:cs.length<2000000):∀(m i:Nat),i+m=cs.length →
 dn O 0 (.loop Z2m_L0) ⟨[(0,.d (.sl (.arr 64 .leaf) cs)),(1,.d (.fn g first caps)),(7,(.d (.int .i64 cs.length))),(8,(.d (.int .i64 i)))],[]⟩ =
  if (cs.drop i).any P then some (.ret,⟨[(4,(.d (.int .i64 (si P (cs.drop i) i))))],[]⟩) else some (.exit 0,⟨[(0,.d (.sl (.arr 64 .leaf) cs)),(1,.d (.fn g first caps)),(7,(.d (.int .i64 cs.length))),(8,(.d (.int .i64 cs.length))),(9,(.d (.bool false)))],[]⟩)
 | 0,i,hi=>by
  have:i=cs.length:=by omega
  subst this;rw [ez];exact bt (by simp -implicitDefEqProofs [Z2m_L0,ac])
 | m+1,i,hi=>by
  have hlt:i<cs.length:=by omega
  have h1:(i:Int)<cs.length:=by omega
  have hx:cs[i]? = some cs[i]:=au hlt;have hm:cs[i]∈cs:=bj hlt;have hc:=Cc (O:=O) (np:=0) (h:=[]) (news:=[]) hF.1 hF.2.1 (hF.2.2.1 _ hm) (hF.2.2.2 _ hm) rfl;have hsh:=hs _ hm;have w4:IntKind.i64.wrap ((i:Int)+1)=((i+1:Nat):Int):=(w64 (x:=(i:Int)+1) (by omega)).trans (by omega)
  rw [bu hlt];cases hp:P cs[i]
  ·rw [hp] at hc
   refine bm (s1:=⟨[(0,.d (.sl (.arr 64 .leaf) cs)),(1,.d (.fn g first caps)),(7,(.d (.int .i64 cs.length))),(8,(.d (.int .i64 ((i+1:Nat)))))],[]⟩) ?_ ?_
   ·simp -implicitDefEqProofs [Z2m_L0,ac,h1,hx,hsh,hc,w4]
   ·rw [Vv hF hs hl m (i+1) (by omega)]
    simp only [ol,hp,Bool.false_or,si,b9,if_false]
  ·rw [hp] at hc
   have e:si P (cs[i]::cs.drop (i+1)) i=i:=by simp [si,hp]
   rw [e];simp only [ol,hp,Bool.true_or,if_true];exact lq (by simp -implicitDefEqProofs [Z2m_L0,ac,h1,hx,hsh,hc])
def pm (O:ah) (F:Nat) (s:Sh):Prop:=∀(g:Nat) (first caps cs:List D) (P:D→Bool),qy O g first caps cs P→D0 s cs→cs.length<2000000 →
 ask O F [.sl s cs,.fn g first caps]=some (D.int .i64 (si P cs 0))
theorem a8t (hT:T F2l=some Z2l):pm (den T A) F2l .leaf:=by
 intro g first caps cs P hF hs hl;have h:=U4 hF hs hl cs.length 0 (bn _);rw [dc] at h;have e0:((0:Nat):Int)=0:=rfl;rw [e0] at h;refine bi hT rfl ?_
 by_cases ha:cs.any P=true
 ·rw [if_pos ha] at h
  simp -implicitDefEqProofs [Z2l,Z2l_B,h]
 ·rw [if_neg ha] at h
  have hn:si P cs 0=-1:=by
   have hi:∀(ds:List D) (i:Nat),ds.any P=false→si P ds i=-1:=by
    intro ds
    induction ds with
    | nil=>intro i _; rfl
    | cons d ds ih=>intro i hd; simp at hd; rw [si,hd.1]; simpa using ih (i+1) (by simpa using hd.2)
   exact hi cs 0 (by simpa using ha)
  simp -implicitDefEqProofs [Z2l,Z2l_B,h,hn]
theorem a8w (hT:T F2m=some Z2m):pm (den T A) F2m (.arr 64 .leaf):=by
 intro g first caps cs P hF hs hl;have h:=Vv hF hs hl cs.length 0 (bn _);rw [dc] at h;have e0:((0:Nat):Int)=0:=rfl;rw [e0] at h;refine bi hT rfl ?_
 by_cases ha:cs.any P=true
 ·rw [if_pos ha] at h
  simp -implicitDefEqProofs [Z2m,Z2m_B,h]
 ·rw [if_neg ha] at h
  have hn:si P cs 0=-1:=by
   have hi:∀(ds:List D) (i:Nat),ds.any P=false→si P ds i=-1:=by
    intro ds
    induction ds with
    | nil=>intro i _; rfl
    | cons d ds ih=>intro i hd; simp at hd; rw [si,hd.1]; simpa using ih (i+1) (by simpa using hd.2)
   exact hi cs 0 (by simpa using ha)
  simp -implicitDefEqProofs [Z2m,Z2m_B,h,hn]
def vb (O:ah) (F:Nat) (s:Sh):Prop:=∀(g:Nat) (first caps cs:List D) (P:D→Bool),qy O g first caps cs P→D0 s cs→cs.length<2000000 →
 ask O F [.sl s cs,.fn g first caps]=some (D.bool (cs.any P))
theorem Tj (hT:T F2i=some Z2i) (hi:pm (den T A) F2l .leaf):vb (den T A) F2i .leaf:=by
 intro g first caps cs P hF hs hl;have h:=hi g first caps cs P hF hs hl;have e:decide (0≤si P cs 0)=cs.any P:=by rw [uq]; simpa using Ju P cs 0
 refine bi hT rfl ?_;simp -implicitDefEqProofs [Z2i,Z2i_B,h,e]
theorem Vh (hT:T F2j=some Z2j) (hi:pm (den T A) F2m (.arr 64 .leaf)):vb (den T A) F2j (.arr 64 .leaf):=by
 intro g first caps cs P hF hs hl;have h:=hi g first caps cs P hF hs hl;have e:decide (0≤si P cs 0)=cs.any P:=by rw [uq]; simpa using Ju P cs 0
 refine bi hT rfl ?_;simp -implicitDefEqProofs [Z2j,Z2j_B,h,e]
end Pe

namespace Pe
open Go Gq
variable {T:Nat→Option Fn} {A:ah}
def D.num:D→Int
 | .int _ n=>n
 | _=>0
def g9 (l:List Int):Prop:=∀x∈l,0≤x∧x<256
abbrev aw (l:List Int):D:=(D.arr 64 .leaf (ab .u8 l))
def tr (O:ah) (F:Nat) (s:Sh):Prop:=∀(g:Nat) (first caps cs:List D) (P:D→Bool),qy O g first caps cs P→D0 s cs→cs.length<2000000 →
 ask O F [.sl s cs,.fn g first caps]=some (D.bool (cs.all P))
theorem Qq (P:D→Bool) (cs:List D):(!cs.any fun x=>!P x)=cs.all P:=by
 induction cs with
 | nil=>rfl
 | cons c cs ih=>simp [←ih]
theorem aeb {g:Nat} {first caps cs:List D} {P:D→Bool} (hT:T Fg=some Zg) (hF:qy (den T A) g first caps cs P):qy (den T A) Fg [] [.ip (.fn g first caps)] cs fun x=>!P x:=by
 refine ⟨fun x hx=>by simp at hx,fun x hx=>by simp at hx; subst hx; rfl,hF.2.2.1,fun x hx=>?_⟩
 have hc:=Cc (O:=den T A) (np:=0) (h:=[]) (news:=[]) hF.1 hF.2.1 (hF.2.2.1 _ hx) (hF.2.2.2 _ hx) rfl;refine bi hT rfl ?_;simp -implicitDefEqProofs [Zg,Zg_B,hc]
theorem a3x (hT:T Ff=some Zf) (hT1:T Fg=some Zg) (hc:vb (den T A) F2i .leaf):tr (den T A) Ff .leaf:=by
 intro g first caps cs P hF hs hl;have e:=hc _ _ _ _ _ (aeb hT1 hF) hs hl;have e2:=Qq P cs;have t1:=oa [.box false (.fn g first caps)] hF.1;have t2:=oa [.box false (.fn g first caps)] hF.2.1;rw [←e2];generalize (cs.any fun x=>!P x)=r at *
 refine bi hT rfl ?_;simp -implicitDefEqProofs [Zf,Zf_B,e]
theorem adk {g:Nat} {first caps cs:List D} {P:D→Bool} (hT:T Fi=some Zi) (hs:D0 (.arr 64 .leaf) cs) (hF:qy (den T A) g first caps cs P):qy (den T A) Fi [] [.ip (.fn g first caps)] cs fun x=>!P x:=by
 refine ⟨fun x hx=>by simp at hx,fun x hx=>by simp at hx; subst hx; rfl,hF.2.2.1,fun x hx=>?_⟩
 have hc:=Cc (O:=den T A) (np:=0) (h:=[.box false x]) (news:=[]) hF.1 hF.2.1 (hF.2.2.1 _ hx) (hF.2.2.2 _ hx) rfl;have h1:=hF.2.2.1 _ hx;have h2:=hs _ hx;refine bi hT rfl ?_;simp -implicitDefEqProofs [Zi,Zi_B,hc,h1,h2]
theorem a2d (hT:T Fh=some Zh) (hT1:T Fi=some Zi) (hc:vb (den T A) F2j (.arr 64 .leaf)):tr (den T A) Fh (.arr 64 .leaf):=by
 intro g first caps cs P hF hs hl;have e:=hc _ _ _ _ _ (adk hT1 hs hF) hs hl;have e2:=Qq P cs;rw [←e2];generalize (cs.any fun x=>!P x)=r at *
 refine bi hT rfl ?_;simp -implicitDefEqProofs [Zh,Zh_B,e]
def xe (p:Int) (l:List Int):Bool:=l.all fun x=>decide (x<p)
def Ei (O:ah):Prop:=∀(p:Int) (l:List Int),g9 l→l.length=64→ask O F15 [(D.int .i64 p),(D.arr 64 .leaf (ab .u8 l))]=some (D.bool (xe p l))
theorem a62 (p:Int) (l:List Int):((ab .u8 l).all fun x=>decide (x.num<p))=xe p l:=by
 unfold ab xe;rw [List.all_map];rfl
theorem a71 (hT:T F15=some Z15) (hT1:T F16=some Z16) (ha:tr (den T A) Ff .leaf):Ei (den T A):=by
 intro p l hb hl
 have hF:qy (den T A) F16 [] [.ip (D.int .i64 p)] (ab .u8 l) fun x=>decide (x.num<p):=by
  refine ⟨fun x hx=>by simp at hx,fun x hx=>by simp at hx; subst hx; rfl,fun x hx=>?_,fun x hx=>?_⟩
  ·obtain ⟨n,_,rfl⟩:=cj.1 hx; rfl
  ·obtain ⟨n,hn,rfl⟩:=cj.1 hx
   have h1:=hb n hn;have w1:IntKind.i64.wrap n=n:=w64 (by omega)
   refine bi hT1 rfl ?_;simp -implicitDefEqProofs [Z16,Z16_B,w1,D.num];exact decide_eq_decide.2 Iff.rfl
 have e:=ha _ _ _ _ _ hF (fun x hx=>by obtain ⟨n,_,rfl⟩:=cj.1 hx; rfl) (by simp [hl])
 rw [a62] at e;have ht:l.take 64=l:=bb (by omega)
 refine bi hT rfl ?_;simp -implicitDefEqProofs [Z15,Z15_B,e,hl,ht]
def a6y (p:Int) (ls:List (List Int)):Int:=if isP p∧ls.all (xe p) then 0 else 1
def Ji (ls:List (List Int)):Prop:=∀l∈ls,l.length=64∧g9 l
def D.nums:D→List Int
 | .arr _ _ cs=>cs.map D.num
 | _=>[]
theorem He (l:List Int):(aw l).nums=l:=by
 simp only [D.nums,ab,sy];have:(D.num ∘ D.int .u8)=id:=rfl;rw [this,List.map_id]
end Pe

namespace Pe
open Go
theorem Q8:∀(xs:List D),(∀x∈xs,(Ty.int .u8).has x)→∃l:List Int,xs=ab .u8 l∧g9 l
 | [],_=>⟨[],rfl,fun _ h=>by cases h⟩
 | x::xs,h=>by
  obtain ⟨l,rfl,hb⟩:=Q8 xs fun y hy=>h y (List.mem_cons_of_mem _ hy)
  have h1:=h x (by simp)
  cases x <;> simp only [Ty.has] at h1
  obtain ⟨rfl,h1⟩:=h1;refine ⟨_::l,rfl,fun y hy=>?_⟩
  rcases dk.1 hy with rfl | hy
  ·have:=bounds_u8 h1; omega
  ·exact hb y hy
theorem Wt {xs:List D} (h:Ty.hasAll [] xs):xs=[]:=by
 cases xs <;> simp only [Ty.hasAll] at h; rfl
theorem Uv {T:Ty} {Ts:List Ty} {xs:List D} (h:Ty.hasAll (T::Ts) xs):∃x r,xs=x::r∧T.has x∧Ty.hasAll Ts r:=by
 cases xs <;> simp only [Ty.hasAll] at h; exact ⟨_,_,rfl,h⟩
def de (P:Program) (num:Nat→Nat) (g:Nat) (fn:Fn):Bool:=match P.funcs[g]? with
 | some x=>Jf P num fn x
 | none=>false
def ac8 (P:Program) (num:Nat→Nat):List (Nat×Fn)→Prop
 | []=>True
 | e::r=>de P num (num e.1) e.2=true∧ac8 P num r
theorem Ob {P:Program} {num:Nat→Nat}:∀{l:List (Nat×Fn)},ac8 P num l→∀f fn,l.lookup f=some fn→∃g,P.funcs[num f]? = some g∧Jf P num fn g=true
 | [],_,f,fn,h=>by cases h
 | (a,b)::r,⟨h1,h2⟩,f,fn,h=>by
  rw [List.lookup_cons] at h
  split at h
  ·rename_i e
   obtain rfl:=bc h;have:f=a:=by simpa using e
   subst this;unfold de at h1
   split at h1
   ·rename_i g hg; exact ⟨g,hg,h1⟩
   ·cases h1
  ·exact Ob h2 f fn h
end Pe

namespace Pe
open Go
variable {P:Program} {num:Nat→Nat}
theorem Xw {C:Cx} {φ:Loc} {s:St} {a:Act} {ops:Array Oper} {N np:Nat} {o:Oper} {j d:Nat} {v:V} {K:Act→World→Prop} {Q:Exit→Act→World→Prop}
 (hs:SR C φ s a.tmps) (hN:N≤a.tmps.size) (hd:o.dst=some d) (hdN:d<N) (hg:o.guard=none) (hj:ops[j]? = some o) (hop:OpWp P o a C φ s.h v s.h (fun _=>False))
 (hK:∀C' φ' u,Runs np C C' φ φ' s.h s.h→SR C' φ' ⟨(d,v)::s.e,s.h⟩ (a.put o.dst u).tmps→K (a.put o.dst u) C'.w):wpOp P ops Q j K a C.w:=by
 have hw:Region.wanted o (yielded ops a.tmps)=true:=by unfold Region.wanted; rw [hg]
 unfold wpOp;simp only [hj];rw [hw,if_pos rfl];left;refine hop K Q fun C' φ' u st hx k=>hK C' φ' u ⟨st,k.mono fun _ h=>h.elim⟩ ⟨st.hr,st.bd,fun n w hn=>?_⟩
 simp only [Env.get] at hn;rw [hd,T5 (o5 hdN hN)]
 by_cases hdn:d=n
 ·subst hdn
  simp only [if_true,a8] at hn;subst hn;refine ⟨u,if_pos rfl,?_⟩;rcases hx with hx | hx
  ·rw [hd] at hx; cases hx
  ·exact hx
 ·rw [if_neg hdn] at hn
  rw [if_neg (jo hdn)];obtain ⟨u0,h1,h2⟩:=hs.env n w hn;exact ⟨u0,h1,k w u0 (fun _ _ h=>h.elim) h2⟩
theorem a7u {C:Cx} {φ:Loc} {s:St} {a:Act} {o:Oper} (hs:SR C φ s a.tmps) {x:Arg} {x' y':Operand} {t yt e:TypeId} (ho:o.op=.binOp .eql t x' y' yt) (hx:ef C.num x x'=true) (ht:P.underlying t=some (.slice e)) (hy:a.eval y'=.slice none 0 0)
 {sh:Sh} {cs:List D} (hv:s.e.arg x=some (.d (.sl sh cs))):∃b,OpGood P o a C φ s.h (.d (.bool b)) s.h (fun _=>False):=by
 obtain ⟨ad,c,e1,_,_⟩:=Q5 (co hs hx hv);refine ⟨decide (ad=none),cu hs (u:=.bool (decide (ad=none))) ?_ (jt ..)⟩
 have hq:(Go.Op.equal t (.slice ad cs.length c) (.slice none 0 0)).run P C.w=.ok (decide (ad=none)) C.w:=by
  show (Go.Op.equalIn (9999+1) t (.slice ad cs.length c) (.slice none 0 0)).run P C.w=.ok (decide (ad=none)) C.w;generalize 9999=d;cases ad <;> simp [Go.Op.equalIn,Sem.run_bind,run_underlying ht,Result.andThen_ok,Sem.run_pure]
 have hb:binOp .eql t (.slice ad cs.length c) (.slice none 0 0)=(do pure (.bool (←Go.Op.equal t (.slice ad cs.length c) (.slice none 0 0)))):=rfl;simp [execOp,ho,e1,hy,eqGuard,hb,hq]
theorem a22 {x:Arg} {o:Oper} (h:a3b P num (.nilq false x) o=true):∃t x' y' yt e,o.op=.binOp .eql t x' y' yt∧ef num x x'=true∧p6 y'=true∧P.underlying t=some (.slice e):=by
 cases hq:o.op with
 | binOp op t x' y' yt=>
  simp only [a3b,hq,av,decide_eq_true_eq] at h;obtain ⟨⟨⟨h3,h4⟩,h5⟩,h6⟩:=h
  split at h6
  ·rename_i e he
   exact ⟨t,x',y',yt,e,by rw [h3]; rfl,h4,h5,he⟩
  ·cases h6
 | _=>simp only [a3b,hq,b9] at h
def Rg (s:Sh) (z:D) (bytes:Nat):Cd:=
 .seq (.region [⟨some 2,.nilOwn 0 s,none,[]⟩] [0])
 (.seq (.seq (.region [⟨some 3,.mv (.t 0),none,[]⟩,
  ⟨some 4,.nilq false (.t 3),none,[]⟩] [0,4])
  (.cond (.t 4)
   (.seq (.region [⟨some 2,.nilOwn 2 s,none,[]⟩] [2])
    (.ret))
   (.skip)))
  (.seq (.region [⟨some 5,.buildSl false 2 s z 0 [],none,[]⟩,
   ⟨some 6,.mv (.t 0),none,[]⟩,
   ⟨some 7,.append s 3 bytes (.t 5) (.t 6),none,[]⟩,
   ⟨some 2,.mv (.t 7),none,[]⟩] [2])
   (.ret)))
def xh (s:Sh) (z:D) (bytes:Nat):Fn:={ nparams:=1,nblk:=4,results:=[.tmp 2],body:=Rg s z bytes }
def th:Code→Bool
 | .seq _ (.seq (.seq (.region _ _ false) _) _)=>true
 | _=>false
theorem Dq {N:Nat} {a b:Cd} {x:Code} (h:ju P num N (.seq a b) x=true):∃y z,x=.seq y z∧ju P num N a y=true∧ju P num N b z=true:=by
 cases x <;> simp only [ju,b9,av] at h
 exact ⟨_,_,rfl,h⟩
def yw (s:Sh):St:=⟨[(2,.sl 2 [] 0 0 none)],[.hole,.hole,.sl false s [],.hole]⟩
theorem a0b:nu P num (fun _ _ _=>none):=fun f vs bs ans h=>by cases h
theorem Tl {s:Sh} {z:D} {bytes N:Nat} (hm:P.follows .mixedOrders=true) {x:Code} (hok:ju P num N (Rg s z bytes) x=true) (hshape:th x=true) (hbeq:Sh.beq s s=true)
 (C:Cx) (φ:Loc) (a:Act) (hC:C.num=num) (hs:SR C φ ⟨params 0 [.d (.sl s [])],[]++List.replicate 4 .hole⟩ a.tmps) (hN:N≤a.tmps.size)
 (Q:Exit→Act→World→Prop) (hQ:ab2 num 0 Q .ret C φ ([]++List.replicate 4 .hole) (yw s) a):x.wp P Q a C.w:=by
 obtain ⟨x1,x2,rfl,ok1,ok2⟩:=Dq hok;obtain ⟨x3,x4,rfl,ok3,ok4⟩:=Dq ok2;obtain ⟨x5,x6,rfl,ok5,ok6⟩:=Dq ok3;have nc:nu P num (fun _ _ _=>none):=a0b
 -- ahead
 refine wp_seq (wu (O:=fun _ _ _=>none) (np:=0) (N:=N) nc hm 1 _ _ ok1 C φ _ ⟨[(0,.d (.sl s []))],[.hole,.hole,.hole,.hole]⟩ a .normal hC hs hN rfl _ ?_)
 intro C1 φ1 a1 k1 r1 hs1 z1 d1;refine wp_seq (wp_seq ?_)
 -- the question
 cases x5 <;> simp only [ju,b9,av] at ok5
 rename_i id ops draw
 cases draw with
 | true=>simp [th] at hshape
 | false=>
 have hops:=ok5.1;obtain ⟨hl,hget⟩:=wz hops;have hl2:ops.size=2:=by simpa using hl.symm
 have g0:ops.toList[0]? = some ops[0]:=by simp [hl2]
 have g1:ops.toList[1]? = some ops[1]:=by simp [hl2]
 have i0:=hget 0 _ _ rfl g0;have i1:=hget 1 _ _ rfl g1;have N1:N≤a1.tmps.size:=by rw [z1]; exact hN
 refine wp_region ?_;rw [hl2];show wpOps P ops _ [0,1] a1 C1.w;rw [wpOps_cons];refine Hh (O:=fun _ _ _=>none) (np:=0) (k1▸nc) hs1 N1 (k1▸i0) (by simp) (s':=⟨[(3,.d (.sl s [])),(0,.d (.sl s []))],[.hole,.hole,.hole,.hole]⟩) rfl fun C2 φ2 u2 rn2 hs2=>?_
 have k2:C2.num=num:=rn2.st.le.num.trans k1;rw [wpOps_cons];unfold Pp at i1;simp only [av,decide_eq_true_eq] at i1;obtain ⟨⟨⟨hdst,hdN⟩,hop⟩,hguard⟩:=i1;have hdst':ops[1].dst=some 4:=hdst.symm;have hdN':4<N:=by simpa [hdst'] using hdN
 have hg:ops[1].guard=none:=by
  cases hq:ops[1].guard with
  | none=>rfl
  | some q=>rw [hq] at hguard; simp at hguard
 have N2:N≤(a1.put ops[0].dst u2).tmps.size:=by rw [ud]; exact N1
 have key:∃b,OpGood P ops[1] (a1.put ops[0].dst u2) C2 φ2 [.hole,.hole,.hole,.hole] (.d (.bool b)) [.hole,.hole,.hole,.hole] (fun _=>False):=by
  obtain ⟨t,x',y',yt,e,h1,h2,h3,h4⟩:=a22 hop;refine a7u hs2 h1 (k2▸h2) h4 ?_ (x:=.t 3) (sh:=s) (cs:=[]) rfl;unfold p6 at h3
  split at h3
  ·rfl
  ·cases h3
 obtain ⟨b,key⟩:=key;refine Xw (np:=0) hs2 N2 hdst' hdN' hg (by simp) key.wp fun C3 φ3 u3 rn3 hs3=>?_
 have k3:C3.num=num:=rn3.st.le.num.trans k2;show (Exit.then _ _) .normal _ _;obtain ⟨rn4,hs4⟩:=Ln 0 hs3 [0,4];have N4:N≤((a1.put ops[0].dst u2).put ops[1].dst u3).tmps.size:=by rw [ud]; exact N2
 have d4:((a1.put ops[0].dst u2).put ops[1].dst u3).defers=a.defers:=by
  rw [←d1];cases ops[0].dst <;> cases ops[1].dst <;> rfl
 have z4:((a1.put ops[0].dst u2).put ops[1].dst u3).tmps.size=a.tmps.size:=by rw [ud,ud,z1]
 have back:Runs 0 C C3 φ φ3 ([]++List.replicate 4 .hole) [.hole,.hole,.hole,.hole]:=(r1.trans (rn2.trans rn3)).trans rn4;generalize ((a1.put ops[0].dst u2).put ops[1].dst u3)=a3 at *;have hs5:SR C3 φ3 ⟨[(0,.d (.sl s [])),(4,.d (.bool b))],[.hole,.hole,.hole,.hole]⟩ a3.tmps:=hs4;cases b with
 | true=>
  have ev:et (fun _ _ _=>none) 0 1 (.cond (.t 4) (.seq (.region [⟨some 2,.nilOwn 2 s,none,[]⟩] [2]) (.ret)) (.skip)) ⟨[(0,.d (.sl s [])),(4,.d (.bool true))],[.hole,.hole,.hole,.hole]⟩=some (.ret,⟨[(2,.sl 2 [] 0 0 (some 0))],[.hole,.hole,.sl false s [],.hole]⟩):=rfl
  refine wu (O:=fun _ _ _=>none) (np:=0) (N:=N) nc hm 1 _ _ ok6 C3 φ3 _ _ a3 .ret k3 hs5 N4 ev _ ?_
  intro C6 φ6 a6 k6 r6 hs6 z6 d6;refine hQ C6 φ6 a6 k6 (back.trans r6) ⟨hs6.hr,hs6.bd,fun n v hn=>?_⟩ (z6.trans z4) (d6.trans d4)
  simp only [yw,Env.get] at hn
  split at hn
  ·rename_i h2
   subst h2;obtain rfl:=bc hn;obtain ⟨u,h5,h6⟩:=hs6.env 2 (.sl 2 [] 0 0 (some 0)) rfl;refine ⟨u,h5,?_⟩;simp only [RX] at h6 ⊢;obtain ⟨B,base,sh,m,ad,c,e1,e2,e3,e4,e5,e6,e7⟩:=h6;exact ⟨B,base,sh,m,ad,c,e1,e2,e3,e4,e5,(fun k hk=>by cases hk),e7⟩
  ·cases hn
 | false=>
  have ev:et (fun _ _ _=>none) 0 1 (.cond (.t 4) (.seq (.region [⟨some 2,.nilOwn 2 s,none,[]⟩] [2]) (.ret)) (.skip)) ⟨[(0,.d (.sl s [])),(4,.d (.bool false))],[.hole,.hole,.hole,.hole]⟩=some (.normal,⟨[(0,.d (.sl s [])),(4,.d (.bool false))],[.hole,.hole,.hole,.hole]⟩):=rfl
  refine wu (O:=fun _ _ _=>none) (np:=0) (N:=N) nc hm 1 _ _ ok6 C3 φ3 _ _ a3 .normal k3 hs5 N4 ev _ ?_
  intro C6 φ6 a6 k6 r6 hs6 z6 d6
  have ev2:et (fun _ _ _=>none) 0 1 (.seq (.region [⟨some 5,.buildSl false 2 s z 0 [],none,[]⟩,⟨some 6,.mv (.t 0),none,[]⟩,⟨some 7,.append s 3 bytes (.t 5) (.t 6),none,[]⟩,⟨some 2,.mv (.t 7),none,[]⟩] [2]) (.ret)) ⟨[(0,.d (.sl s [])),(4,.d (.bool false))],[.hole,.hole,.hole,.hole]⟩=some (.ret,yw s):=by
   simp [et,i7,se,nv,Ins.side,Ins.on,bh,jr,rr,freezeIf,fa,ix,Env.arg,Env.get,Env.putO,Env.kill,Op.kill,toD,hbeq,Env.keep,ug,Env.refd,V.refs,yw,Env.clear]
  refine wu (O:=fun _ _ _=>none) (np:=0) (N:=N) nc hm 1 _ _ ok4 C6 φ6 _ _ a6 .ret k6 hs6 (by rw [z6]; exact N4) ev2 _ ?_
  intro C7 φ7 a7 k7 r7 hs7 z7 d7;exact hQ C7 φ7 a7 k7 ((back.trans r6).trans r7) hs7 (z7.trans (z6.trans z4)) (d7.trans (d6.trans d4))
theorem W4 {s:Sh} {z:D} {bytes:Nat} (hm:P.follows .mixedOrders=true) {f:Nat} {g:Func} (hg:P.funcs[num f]? = some g) (hok:Jf P num (xh s z bytes) g=true) (hshape:(match g.body with | some x=>th x | none=>false)=true) (hbeq:Sh.beq s s=true)
 {cs:List D} (hl:cs.length*bytes≤1099511627776) {C:Cx} {φ:Loc} {us:List Value} (hC:C.num=num) (hr:HR C φ []) (hb:∀b,C.I b→b<C.w.heap.size) (hv:RXs C φ [] [.d (.sl s cs)] us) :
 Xx P (num f) us C φ [] [.sl false s cs] (.sl 0 [] 0 cs.length none):=by
 cases cs with
 | cons c cs=>
  have hl':(cs.length+1)*bytes≤1099511627776:=hl
  have hrun:run (fun _ _ _=>none) 1 (xh s z bytes) [.d (.sl s (c::cs))] []=some (.sl 0 [] 0 (c::cs).length none,[],[.sl false s (c::cs)]):=by
   simp [hl',run,xh,Rg,et,i7,se,nv,Ins.side,Ins.on,bh,jr,rr,freezeIf,fa,ix,Env.arg,Env.get,Env.putO,Env.kill,Op.kill,toD,hbeq,Env.keep,ug,Env.refd,V.refs,Env.clear,params,Al,X1,mz,uo,Heap.pick,V.ren,List.idxOf,List.findIdx,List.findIdx.go]
  exact (Ov a0b hm hg hok hrun hC hr hb hv).2
 | nil=>
  unfold Jf at hok;simp only [av,bne_iff_ne,ne_eq,decide_eq_true_eq] at hok;obtain ⟨⟨⟨hname,hnp⟩,hres⟩,hbody⟩:=hok;cases hcode:g.body with
  | none=>rw [hcode] at hbody; cases hbody
  | some code=>
   rw [hcode] at hbody hshape;simp only at hbody hshape;refine (a4m (xh s z bytes) hg hname hnp hres hcode (vs:=[.d (.sl s [])]) (bs:=[]) (ans:=(.sl 0 [] 0 0 none,[],[.sl false s []])) .ret (yw s) rfl ?_ (fun C φ a hC hs hN Q hQ=>Tl hm hbody hshape hbeq C φ a hC hs hN Q hQ) hC hr hb hv).2
   simp [xh,yw,Al,X1,Env.get,mz,uo,V.refs,Heap.pick,V.ren,List.idxOf,List.findIdx,List.findIdx.go]
def I9 (ids:Nat→Option (Sh×D×Nat)):ah:=fun f vs bs=>
 match ids f with
 | some (s,_,bytes)=>match vs with
  | [.d (.sl t cs)]=>match bs with
   | []=>if Sh.beq t s=true∧cs.length*bytes≤1099511627776 then some (.sl 0 [] 0 cs.length none,[],[.sl false t cs]) else none
   | _=>none
  | _=>none
 | none=>none
theorem a29 {ids:Nat→Option (Sh×D×Nat)} {f:Nat} {s:Sh} {z:D} {bytes:Nat} {cs:List D} (h1:ids f=some (s,z,bytes)) (h0:Sh.beq s s=true) (h2:cs.length*bytes≤1099511627776) :
 I9 ids f [.d (.sl s cs)] []=some (.sl 0 [] 0 cs.length none,[],[.sl false s cs]):=by
 simp [I9,h1,h0,h2]
theorem Qu {ids:Nat→Option (Sh×D×Nat)} (hm:P.follows .mixedOrders=true)
 (hids:∀f s z bytes,ids f=some (s,z,bytes)→Sh.beq s s=true∧∃g,P.funcs[num f]? = some g∧Jf P num (xh s z bytes) g=true∧(match g.body with | some x=>th x | none=>false)=true):nu P num (I9 ids):=by
 intro f vs bs ans h C φ us hC hr hb hv;unfold I9 at h
 split at h
 ·rename_i s z bytes hi
  split at h
  ·rename_i t cs
   split at h
   ·split at h
    ·rename_i hc
     obtain rfl:=bc h;obtain ⟨hbeq,g,hg,hok,hshape⟩:=hids f s z bytes hi;obtain rfl:=Sh.beq_eq _ _ hc.1;exact ⟨rfl,W4 hm hg hok hshape hbeq hc.2 hC hr hb hv⟩
    ·cases h
   ·cases h
  ·cases h
 ·cases h
end Pe

/-
 Functions of the laws in the small form,printed by a program.
-/
namespace Pe
open Go
def Z2c_B:Cd:=
 .seq (.region [Ll 2 (.mv (.c (.bool false)))] [0])
 (.seq (.region [Lw 3 0,
 Ll 4 (.len false (.t 3)),
 Ll 5 (.bin .gtr (.t 4) (Acx 4096)),
 Lw 2 5] [2])
 (.ret))
def Z2c:Fn:=
 { nparams:=1,nblk:=0,results:=[.tmp 2],body:=Z2c_B }
end Pe

/-
 Functions of the laws in the small form,printed by a program.
-/
namespace Pe
open Go
def Z2d_L0:Cd:=
 .seq (.seq (.region [Lw 11 5,
 Lw 12 0,
 Ll 13 (.len false (.t 12)),
 Ll 14 (.bin .lss (.t 11) (.t 13))] [0,1,5,14])
 (.cond (.t 14)
 (.skip)
 (.exit 0)))
 (.seq (.block 1 (.seq (.region [Lw 17 0,
 Lw 18 5,
 Ll 19 (.idxA none Sx6 (.t 17) (.t 18)),
 Ipx 20 19,
 Lw 21 1,
 Lw 22 5,
 Ll 23 (.idxA none Sx6 (.t 21) (.t 22)),
 Ipx 24 23,
 Ll 25 (.eqv true (.arr 64 .leaf .int) (.t 20) (.t 24))] [0,1,5,25])
 (.cond (.t 25)
 (.seq (.region [Ll 4 (.mv (.c (.bool false)))] [4])
 (.ret))
 (.skip))))
 (.region [Lw 15 5,
 Ll 16 (.bin .add (.t 15) (Acx 1)),
 Lw 5 16] [0,1,5]))
def Z2d_B:Cd:=
 .seq (.region [Ll 4 (.mv (.c (.bool false)))] [0,1])
 (.seq (.seq (.region [Lw 6 0,
 Ll 7 (.len false (.t 6)),
 Lw 8 1,
 Ll 9 (.len false (.t 8)),
 Ll 10 (.bin .neq (.t 7) (.t 9))] [0,1,10])
 (.cond (.t 10)
 (.seq (.region [Ll 4 (.mv (.c (.bool false)))] [4])
 (.ret))
 (.skip)))
 (.seq (.seq (.region [Ll 5 (.mv (Acx 0))] [0,1,5])
 (.block 0 (.loop (Z2d_L0))))
 (.seq (.region [Ll 4 (.mv (.c (.bool true)))] [4])
 (.ret))))
def Z2d:Fn:=
 { nparams:=2,nblk:=0,results:=[.tmp 4],body:=Z2d_B }
def Z2b_L0:Cd:=
 .seq (.seq (.region [Lw 260 39,
 Lw 261 35,
 Ll 262 (.len false (.t 261)),
 Ll 263 (.bin .lss (.t 260) (.t 262))] [0,32,33,34,35,39,263])
 (.cond (.t 263)
 (.skip)
 (.exit 0)))
 (.seq (.block 1 (.seq (.region [Lw 267 32,
 Ipx 268 33,
 Isx 269 34,
 Lw 270 35,
 Lw 271 39,
 Ll 272 (.idxA none Sx6 (.t 270) (.t 271)),
 Ipx 273 272,
 Ll 274 (Ofx Fe [(.t 267),(.t 268),(.t 269),(.t 273)]),
 Lw 266 274,
 Iex 275 266 0,
 Iex 276 266 1,
 Ll 40 (.box false 15 (.c (.arr 64 .leaf z64))),
 Ls (.store false Sx6 (.t 40) (.t 275)),
 Lw 41 276] [0,32,33,34,35,39,40,41])
 (.seq (.region [Lw 277 41,
 Ll 278 (.bin .neq (.t 277) (Acx 0)),
 Lw 279 278,
 Lg 280 (.load Sx6 (.t 40)) 279 false,
 Lg 281 (.build false (.arr 64 .leaf z64) []) 279 false,
 Lg 282 (.eqv true (.arr 64 .leaf .int) (.t 280) (.t 281)) 279 false,
 Ll 283 (.pick (.t 279) (.c (.bool true)) (.t 282))] [0,32,33,34,35,39,283])
 (.cond (.t 283)
 (.seq (.region [Ll 2 (.mv (.c (.bool false)))] [2])
 (.ret))
 (.skip)))))
 (.region [Lw 264 39,
 Ll 265 (.bin .add (.t 264) (Acx 1)),
 Lw 39 265] [0,32,33,34,35,39]))
def Z2b_B:Cd:=
 .seq (.region [Ll 2 (.mv (.c (.bool false)))] [0])
 (.seq (.seq (.region [Lw 65 0,
 Ll 66 (Ofx F2c [(.t 65)])] [0,66])
 (.cond (.t 66)
 (.seq (.region [Ll 2 (.mv (.c (.bool true)))] [2])
 (.ret))
 (.skip)))
 (.seq (.region [Lw 68 0,
 Ll 69 (Ofx F3l [(.t 68)]),
 Lw 67 69,
 Iex 70 67 0,
 Iex 71 67 1,
 Iex 72 67 2,
 Iex 73 67 3,
 Ll 4 (.box false 0 (.c (.arr 64 .leaf z64))),
 Ll 5 (.box false 1 (.c (.arr 8 Sx6 z8))),
 Ll 6 (.box false 2 (.c (.arr 8 Sx6 z8))),
 Lw 3 70,
 Ls (.store false Sx6 (.t 4) (.t 71)),
 Ls (.store false Sx8 (.t 5) (.t 72)),
 Ls (.store false Sx8 (.t 6) (.t 73))] [0,3,4,5,6])
 (.seq (.region [Lw 75 3,
 Ipx 76 4,
 Isx 77 5,
 Isx 78 6,
 Ll 79 (Ofx F9 [(.t 75),(.t 76),(.t 77),(.t 78)]),
 Lw 74 79,
 Iex 80 74 0,
 Iex 81 74 1,
 Ll 7 (.box false 3 (.c (.arr 8 Sx6 z8))),
 Ls (.store false Sx8 (.t 7) (.t 80)),
 Lw 8 81] [0,3,4,5,6,7,8])
 (.seq (.region [Lw 83 3,
 Ipx 84 4,
 Isx 85 5,
 Isx 86 6,
 Ll 87 (Ofx F3q [(.t 83),(.t 84),(.t 85),(.t 86)]),
 Lw 82 87,
 Iex 88 82 0,
 Iex 89 82 1,
 Ll 9 (.box false 4 (.c (.arr 8 Sx6 z8))),
 Ls (.store false Sx8 (.t 9) (.t 88)),
 Lw 10 89] [0,3,4,5,6,7,8,9,10])
 (.seq (.region [Lw 91 3,
 Ipx 92 4,
 Isx 93 5,
 Isx 94 6,
 Ll 95 (Ofx Fa [(.t 91),(.t 92),(.t 93),(.t 94)]),
 Lw 90 95,
 Iex 96 90 0,
 Iex 97 90 1,
 Ll 11 (.box false 5 (.c (.arr 8 Sx6 z8))),
 Ls (.store false Sx8 (.t 11) (.t 96)),
 Lw 12 97] [0,3,4,5,6,7,8,9,10,11,12])
 (.seq (.region [Lw 99 3,
 Ipx 100 4,
 Isx 101 5,
 Isx 102 6,
 Ll 103 (Ofx F3r [(.t 99),(.t 100),(.t 101),(.t 102)]),
 Lw 98 103,
 Iex 104 98 0,
 Iex 105 98 1,
 Ll 13 (.box false 6 (.c (.arr 8 Sx6 z8))),
 Ls (.store false Sx8 (.t 13) (.t 104)),
 Lw 14 105] [0,3,4,5,6,7,8,9,10,11,12,13,14])
 (.seq (.seq (.region [Lw 106 8,
 Lw 107 10,
 Ll 108 (.bin .neq (.t 106) (.t 107)),
 Lw 109 108,
 Lg 110 (.load Sx8 (.t 7)) 109 false,
 Lg 111 (.load Sx8 (.t 9)) 109 false,
 Lg 112 (.eqv true (.arr 8 Sx6 (.arr 64 .leaf .int)) (.t 110) (.t 111)) 109 false,
 Ll 113 (.pick (.t 109) (.c (.bool true)) (.t 112)),
 Lw 114 113,
 Lx 115 12 114 false,
 Lx 116 14 114 false,
 Lg 117 (.bin .neq (.t 115) (.t 116)) 114 false,
 Ll 118 (.pick (.t 114) (.c (.bool true)) (.t 117)),
 Lw 119 118,
 Lg 120 (.load Sx8 (.t 11)) 119 false,
 Lg 121 (.load Sx8 (.t 13)) 119 false,
 Lg 122 (.eqv true (.arr 8 Sx6 (.arr 64 .leaf .int)) (.t 120) (.t 121)) 119 false,
 Ll 123 (.pick (.t 119) (.c (.bool true)) (.t 122))] [0,3,4,5,6,7,8,11,123])
 (.cond (.t 123)
 (.seq (.region [Ll 2 (.mv (.c (.bool false)))] [2])
 (.ret))
 (.skip)))
 (.seq (.seq (.region [Lw 124 8,
 Ll 125 (.bin .eql (.t 124) (Acx 0))] [0,3,4,5,6,7,11,125])
 (.cond (.t 125)
 (.seq (.region [Lw 127 3,
 Ipx 128 4,
 Isx 129 5,
 Ll 130 (Ofx Fb [(.t 127),(.t 128),(.t 129)]),
 Lw 126 130,
 Iex 131 126 0,
 Iex 132 126 1,
 Lw 15 131,
 Lw 16 132] [0,3,4,5,6,7,11,15,16])
 (.seq (.region [Lw 134 3,
 Ipx 135 4,
 Isx 136 6,
 Ll 137 (Ofx Fb [(.t 134),(.t 135),(.t 136)]),
 Lw 133 137,
 Iex 138 133 0,
 Iex 139 133 1,
 Lw 17 138,
 Lw 18 139] [0,3,4,5,6,7,11,15,16,17,18])
 (.seq (.region [Lw 141 3,
 Ipx 142 4,
 Isx 143 11,
 Ll 144 (Ofx Fb [(.t 141),(.t 142),(.t 143)]),
 Lw 140 144,
 Iex 145 140 0,
 Iex 146 140 1,
 Lw 19 145,
 Lw 20 146] [0,3,4,5,6,7,11,15,16,17,18,19,20])
 (.seq (.region [Lw 148 3,
 Ipx 149 4,
 Isx 150 7,
 Ll 151 (Ofx Fb [(.t 148),(.t 149),(.t 150)]),
 Lw 147 151,
 Iex 152 147 0,
 Iex 153 147 1,
 Lw 21 152,
 Lw 22 153] [0,3,4,5,6,7,11,15,16,17,18,19,20,21,22])
 (.seq (.region [Lw 155 3,
 Ipx 156 4,
 Isx 157 7,
 Isx 158 5,
 Ll 159 (Ofx F4 [(.t 155),(.t 156),(.t 157),(.t 158)]),
 Lw 154 159,
 Iex 160 154 0,
 Iex 161 154 1,
 Iex 162 154 2,
 Ll 23 (.box false 7 (.c (.arr 8 Sx6 z8))),
 Ll 24 (.box false 8 (.c (.arr 8 Sx6 z8))),
 Ls (.store false Sx8 (.t 23) (.t 160)),
 Ls (.store false Sx8 (.t 24) (.t 161)),
 Lw 25 162] [0,3,4,5,6,7,11,15,16,17,18,19,20,21,22,24,25])
 (.seq (.region [Lw 164 3,
 Ipx 165 4,
 Isx 166 7,
 Isx 167 6,
 Ll 168 (Ofx F4 [(.t 164),(.t 165),(.t 166),(.t 167)]),
 Lw 163 168,
 Iex 169 163 0,
 Iex 170 163 1,
 Iex 171 163 2,
 Ll 26 (.box false 9 (.c (.arr 8 Sx6 z8))),
 Ll 27 (.box false 10 (.c (.arr 8 Sx6 z8))),
 Ls (.store false Sx8 (.t 26) (.t 169)),
 Ls (.store false Sx8 (.t 27) (.t 170)),
 Lw 28 171] [0,3,4,5,11,15,16,17,18,19,20,21,22,24,25,27,28])
 (.seq (.region [Lw 173 3,
 Ipx 174 4,
 Isx 175 5,
 Isx 176 11,
 Ll 177 (Ofx F4 [(.t 173),(.t 174),(.t 175),(.t 176)]),
 Lw 172 177,
 Iex 178 172 0,
 Iex 179 172 1,
 Iex 180 172 2,
 Ll 29 (.box false 11 (.c (.arr 8 Sx6 z8))),
 Ll 30 (.box false 12 (.c (.arr 8 Sx6 z8))),
 Ls (.store false Sx8 (.t 29) (.t 178)),
 Ls (.store false Sx8 (.t 30) (.t 179)),
 Lw 31 180] [0,15,16,17,18,19,20,21,22,24,25,27,28,30,31])
 (.seq (.region [Lw 181 16,
 Ll 182 (.bin .neq (.t 181) (Acx 0)),
 Lw 183 182,
 Lx 184 18 183 false,
 Lg 185 (.bin .neq (.t 184) (Acx 0)) 183 false,
 Ll 186 (.pick (.t 183) (.c (.bool true)) (.t 185)),
 Lw 187 186,
 Lx 188 20 187 false,
 Lg 189 (.bin .neq (.t 188) (Acx 0)) 187 false,
 Ll 190 (.pick (.t 187) (.c (.bool true)) (.t 189)),
 Lw 191 190,
 Lx 192 22 191 false,
 Lg 193 (.bin .neq (.t 192) (Acx 0)) 191 false,
 Ll 194 (.pick (.t 191) (.c (.bool true)) (.t 193)),
 Lw 195 194,
 Lx 196 25 195 false,
 Lg 197 (.bin .neq (.t 196) (Acx 0)) 195 false,
 Ll 198 (.pick (.t 195) (.c (.bool true)) (.t 197)),
 Lw 199 198,
 Lx 200 28 199 false,
 Lg 201 (.bin .neq (.t 200) (Acx 0)) 199 false,
 Ll 202 (.pick (.t 199) (.c (.bool true)) (.t 201)),
 Lw 203 202,
 Lx 204 31 203 false,
 Lg 205 (.bin .neq (.t 204) (Acx 0)) 203 false,
 Ll 206 (.pick (.t 203) (.c (.bool true)) (.t 205)),
 Lw 207 206,
 Lx 208 15 207 false,
 Lx 209 17 207 false,
 Lg 210 (.bin .add (.t 208) (.t 209)) 207 false,
 Lx 211 19 207 false,
 Lx 212 21 207 false,
 Lg 213 (.bin .add (.t 211) (.t 212)) 207 false,
 Lg 214 (.bin .neq (.t 210) (.t 213)) 207 false,
 Ll 215 (.pick (.t 207) (.c (.bool true)) (.t 214)),
 Lw 216 215,
 Lg 217 (.load Sx8 (.t 24)) 216 false,
 Lg 218 (.build false (.arr 8 Sx6 z8) []) 216 false,
 Lg 219 (.eqv true (.arr 8 Sx6 (.arr 64 .leaf .int)) (.t 217) (.t 218)) 216 false,
 Ll 220 (.pick (.t 216) (.c (.bool true)) (.t 219)),
 Lw 221 220,
 Lg 222 (.load Sx8 (.t 27)) 221 false,
 Lg 223 (.build false (.arr 8 Sx6 z8) []) 221 false,
 Lg 224 (.eqv true (.arr 8 Sx6 (.arr 64 .leaf .int)) (.t 222) (.t 223)) 221 false,
 Ll 225 (.pick (.t 221) (.c (.bool true)) (.t 224)),
 Lw 226 225,
 Lg 227 (.load Sx8 (.t 30)) 226 false,
 Lg 228 (.build false (.arr 8 Sx6 z8) []) 226 false,
 Lg 229 (.eqv true (.arr 8 Sx6 (.arr 64 .leaf .int)) (.t 227) (.t 228)) 226 false,
 Ll 230 (.pick (.t 226) (.c (.bool true)) (.t 229))] [0,230])
 (.cond (.t 230)
 (.seq (.region [Ll 2 (.mv (.c (.bool false)))] [2])
 (.ret))
 (.skip))))))))))
 (.skip)))
 (.seq (.region [Lw 232 0,
 Ll 233 (Ofx F3j [(.t 232)]),
 Lw 231 233,
 Iex 234 231 0,
 Iex 235 231 1,
 Iex 236 231 2,
 Ll 33 (.box false 13 (.c (.arr 64 .leaf z64))),
 Ll 34 (.box false 14 (.c (.arr 8 Sx6 z8))),
 Lw 32 234,
 Ls (.store false Sx6 (.t 33) (.t 235)),
 Ls (.store false Sx8 (.t 34) (.t 236))] [0,32,33,34])
 (.seq (.region [Lw 238 32,
 Ipx 239 33,
 Isx 240 34,
 Ll 241 (Opx F7 [(.t 238),(.t 239),(.t 240)]),
 Lw 237 241,
 Iex 242 237 0,
 Iex 243 237 1,
 Lw 35 242,
 Lw 36 243] [0,32,33,34,35,36])
 (.seq (.region [Lw 245 32,
 Ipx 246 33,
 Isx 247 34,
 Ll 248 (Opx F3o [(.t 245),(.t 246),(.t 247)]),
 Lw 244 248,
 Iex 249 244 0,
 Iex 250 244 1,
 Lw 37 249,
 Lw 38 250] [0,32,33,34,35,36,37,38])
 (.seq (.seq (.region [Lw 251 36,
 Lw 252 38,
 Ll 253 (.bin .neq (.t 251) (.t 252)),
 Lw 254 253,
 Lx 255 35 254 false,
 Lx 256 37 254 false,
 Lg 257 (Ofx F2d [(.t 255),(.t 256)]) 254 false,
 Lg 258 (.un .not (.t 257)) 254 false,
 Ll 259 (.pick (.t 254) (.c (.bool true)) (.t 258))] [0,32,33,34,35,259])
 (.cond (.t 259)
 (.seq (.region [Ll 2 (.mv (.c (.bool false)))] [2])
 (.ret))
 (.skip)))
 (.seq (.seq (.region [Ll 39 (.mv (Acx 0))] [0,32,33,34,35,39])
 (.block 0 (.loop (Z2b_L0))))
 (.seq (.region [Lw 285 0,
 Ll 286 (Opx F3k [(.t 285)]),
 Lw 284 286,
 Iex 287 284 0,
 Iex 288 284 1,
 Iex 289 284 2,
 Ll 43 (.box false 16 (.c (.arr 64 .leaf z64))),
 Lw 42 287,
 Ls (.store false Sx6 (.t 43) (.t 288)),
 Lw 44 289] [0,42,43,44])
 (.seq (.region [Lw 291 42,
 Ipx 292 43,
 Lw 293 44,
 Ll 294 (Ofx F8 [(.t 291),(.t 292),(.t 293)]),
 Lw 290 294,
 Iex 295 290 0,
 Iex 296 290 1,
 Ll 45 (.box false 17 (.c (.arr 8 Sx6 z8))),
 Ls (.store false Sx8 (.t 45) (.t 295)),
 Lw 46 296] [0,42,43,44,45,46])
 (.seq (.region [Lw 298 42,
 Ipx 299 43,
 Lw 300 44,
 Ll 301 (Ofx F3p [(.t 298),(.t 299),(.t 300)]),
 Lw 297 301,
 Iex 302 297 0,
 Iex 303 297 1,
 Ll 47 (.box false 18 (.c (.arr 8 Sx6 z8))),
 Ls (.store false Sx8 (.t 47) (.t 302)),
 Lw 48 303] [0,42,43,44,45,46,47,48])
 (.seq (.seq (.region [Lw 304 46,
 Lw 305 48,
 Ll 306 (.bin .neq (.t 304) (.t 305)),
 Lw 307 306,
 Lg 308 (.load Sx8 (.t 45)) 307 false,
 Lg 309 (.load Sx8 (.t 47)) 307 false,
 Lg 310 (.eqv true (.arr 8 Sx6 (.arr 64 .leaf .int)) (.t 308) (.t 309)) 307 false,
 Ll 311 (.pick (.t 307) (.c (.bool true)) (.t 310))] [0,42,43,44,45,46,311])
 (.cond (.t 311)
 (.seq (.region [Ll 2 (.mv (.c (.bool false)))] [2])
 (.ret))
 (.skip)))
 (.seq (.seq (.region [Lw 312 46,
 Ll 313 (.bin .eql (.t 312) (Acx 0))] [0,42,43,44,45,313])
 (.cond (.t 313)
 (.seq (.region [Lw 315 42,
 Ipx 316 43,
 Lw 317 44,
 Ll 318 (Opx Fc [(.t 315),(.t 316),(.t 317)]),
 Lw 314 318,
 Iex 319 314 0,
 Iex 320 314 1,
 Lw 49 319,
 Lw 50 320] [0,42,43,45,49,50])
 (.seq (.region [Lw 322 42,
 Ipx 323 43,
 Isx 324 45,
 Ll 325 (Ofx Fb [(.t 322),(.t 323),(.t 324)]),
 Lw 321 325,
 Iex 326 321 0,
 Iex 327 321 1,
 Lw 51 326,
 Lw 52 327] [0,42,43,45,49,50,51,52])
 (.seq (.region [Lw 329 42,
 Ipx 330 43,
 Isx 331 45,
 Ll 332 (Opx F7 [(.t 329),(.t 330),(.t 331)]),
 Lw 328 332,
 Iex 333 328 0,
 Iex 334 328 1,
 Lw 53 333,
 Lw 54 334] [0,49,50,51,52,53,54])
 (.seq (.region [Lw 335 50,
 Ll 336 (.bin .neq (.t 335) (Acx 0)),
 Lw 337 336,
 Lx 338 52 337 false,
 Lg 339 (.bin .neq (.t 338) (Acx 0)) 337 false,
 Ll 340 (.pick (.t 337) (.c (.bool true)) (.t 339)),
 Lw 341 340,
 Lx 342 54 341 false,
 Lg 343 (.bin .neq (.t 342) (Acx 0)) 341 false,
 Ll 344 (.pick (.t 341) (.c (.bool true)) (.t 343)),
 Lw 345 344,
 Lx 346 51 345 false,
 Lx 347 49 345 false,
 Lg 348 (.len false (.t 347)) 345 false,
 Lg 349 (.bin .neq (.t 346) (.t 348)) 345 false,
 Ll 350 (.pick (.t 345) (.c (.bool true)) (.t 349)),
 Lw 351 350,
 Lx 352 53 351 false,
 Lx 353 49 351 false,
 Lg 354 (Ofx F2d [(.t 352),(.t 353)]) 351 false,
 Lg 355 (.un .not (.t 354)) 351 false,
 Ll 356 (.pick (.t 351) (.c (.bool true)) (.t 355))] [0,356])
 (.cond (.t 356)
 (.seq (.region [Ll 2 (.mv (.c (.bool false)))] [2])
 (.ret))
 (.skip))))))
 (.skip)))
 (.seq (.region [Lw 358 0,
 Ll 359 (Ofx F3m [(.t 358)]),
 Lw 357 359,
 Iex 360 357 0,
 Iex 361 357 1,
 Iex 362 357 2,
 Iex 363 357 3,
 Ll 56 (.box false 19 (.c (.arr 64 .leaf z64))),
 Ll 57 (.box false 20 (.c (.arr 8 Sx6 z8))),
 Ll 58 (.box false 21 (.c (.arr 64 .leaf z64))),
 Lw 55 360,
 Ls (.store false Sx6 (.t 56) (.t 361)),
 Ls (.store false Sx8 (.t 57) (.t 362)),
 Ls (.store false Sx6 (.t 58) (.t 363))] [0,55,56,57,58])
 (.seq (.region [Lw 365 55,
 Ipx 366 56,
 Isx 367 57,
 Ipx 368 58,
 Ll 369 (Ofx Fe [(.t 365),(.t 366),(.t 367),(.t 368)]),
 Lw 364 369,
 Iex 370 364 0,
 Iex 371 364 1,
 Ll 59 (.box false 22 (.c (.arr 64 .leaf z64))),
 Ls (.store false Sx6 (.t 59) (.t 370)),
 Lw 60 371] [0,55,56,57,58,59,60])
 (.seq (.region [Lw 373 55,
 Ipx 374 56,
 Isx 375 57,
 Ipx 376 58,
 Ll 377 (Ofx F3s [(.t 373),(.t 374),(.t 375),(.t 376)]),
 Lw 372 377,
 Iex 378 372 0,
 Iex 379 372 1,
 Ll 61 (.box false 23 (.c (.arr 64 .leaf z64))),
 Ls (.store false Sx6 (.t 61) (.t 378)),
 Lw 62 379] [0,59,60,61,62])
 (.seq (.region [Lw 381 0,
 Ll 382 (Ofx F3i [(.t 381)]),
 Lw 380 382,
 Iex 383 380 0,
 Iex 384 380 1,
 Ll 64 (.box false 24 (.c (.arr 64 .leaf z64))),
 Lw 63 383,
 Ls (.store false Sx6 (.t 64) (.t 384))] [59,60,61,62,63,64])
 (.seq (.region [Lw 385 60,
 Lw 386 62,
 Ll 387 (.bin .eql (.t 385) (.t 386)),
 Lw 388 387,
 Lg 389 (.load Sx6 (.t 59)) 388 true,
 Lg 390 (.load Sx6 (.t 61)) 388 true,
 Lg 391 (.eqv false (.arr 64 .leaf .int) (.t 389) (.t 390)) 388 true,
 Ll 392 (.pick (.t 388) (.t 391) (.c (.bool false))),
 Lw 393 392,
 Lx 394 63 393 true,
 Lg 395 (.load Sx6 (.t 64)) 393 true,
 Lg 396 (Ofx F5 [(.t 394),(.t 395)]) 393 true,
 Lx 397 63 393 true,
 Lg 398 (.load Sx6 (.t 64)) 393 true,
 Lg 399 (Ofx F3n [(.t 397),(.t 398)]) 393 true,
 Lg 400 (.eqv false .bool (.t 396) (.t 399)) 393 true,
 Ll 401 (.pick (.t 393) (.t 400) (.c (.bool false))),
 Lw 2 401] [2])
 (.ret))))))))))))))))))))))))
def Z2b:Fn:=
 { nparams:=1,nblk:=25,results:=[.tmp 2],body:=Z2b_B }
end Pe

/-
 Functions of the program in the small form,printed by a program.
-/
namespace Pe
open Go
def Zu_B:Cd:=
 .seq (.region [Ll 2 (.box false 0 (.t 0)),
 Ll 3 (.box false 1 (.t 1)),
 Ll 4 (.mv (.c (.bool false)))] [2,3])
 (.seq (.region [Ll 5 (.fldA [.leaf,.leaf] (.t 2) 0),
 Ilx 6 5,
 Ipx 7 3,
 Ll 8 (Ofx F15 [(.t 6),(.t 7)]),
 Lw 9 8,
 Lg 10 (.load Sx6 (.t 3)) 9 true,
 Lg 11 (Opx F1u [(.t 10)]) 9 true,
 Lg 12 (Ofx F1w [(.t 11)]) 9 true,
 Lg 13 (.fldA [.leaf,.leaf] (.t 2) 1) 9 true,
 Lg 14 (.load .leaf (.t 13)) 9 true,
 Lg 15 (Ofx F1w [(.t 14)]) 9 true,
 Lg 16 (.bin .lss (.t 12) (.t 15)) 9 true,
 Ll 17 (.pick (.t 9) (.t 16) (.c (.bool false))),
 Lw 4 17] [4])
 (.ret))
def Zu:Fn:=
 { nparams:=2,nblk:=2,results:=[.tmp 4],body:=Zu_B }
def Zo_B:Cd:=
 .seq (.region [Ll 3 (.box false 0 (.t 1)),
 Ll 4 (.box false 1 (.c (.st [.leaf,.leaf] [(.int .i64 0),(.sl .leaf [])])))] [0,3,4])
 (.seq (.region [Lw 5 0,
 Ipx 6 3,
 Ll 7 (Opx F1u [(.t 6)]),
 Ll 8 (.build false (.st [.leaf,.leaf] [(.int .i64 0),(.sl .leaf [])]) [(0,(.t 5)),(1,(.t 7))]),
 Ls (.store false (.st [.leaf,.leaf]) (.t 4) (.t 8))] [4])
 (.ret))
def Zo:Fn:=
 { nparams:=2,nblk:=2,results:=[.cell 4 (.st [.leaf,.leaf])],body:=Zo_B }
def Z14_B:Cd:=
 .seq (.region [Ll 3 (.box false 0 (.t 1)),
 Ll 4 (.mv (.c (.bool false)))] [0,3])
 (.seq (.region [Ipx 6 3,
 Ll 7 (Opx F1u [(.t 6)]),
 Lw 5 7] [0,3,5])
 (.seq (.region [Lw 8 0,
 Ipx 9 3,
 Ll 10 (Ofx F6 [(.t 8),(.t 9)]),
 Lw 11 10,
 Lx 12 5 11 true,
 Lg 13 (Ofx F1w [(.t 12)]) 11 true,
 Lg 14 (Ofx F2a [(.t 13),(Acx 1),(Acx 4)]) 11 true,
 Ll 15 (.pick (.t 11) (.t 14) (.c (.bool false))),
 Lw 16 15,
 Lx 17 0 16 true,
 Lx 18 5 16 true,
 Lg 19 (Ofx F1h [(.t 17),(.t 18)]) 16 true,
 Ll 20 (.pick (.t 16) (.t 19) (.c (.bool false))),
 Lw 4 20] [4])
 (.ret)))
def Z14:Fn:=
 { nparams:=2,nblk:=1,results:=[.tmp 4],body:=Z14_B }
def Z11_B:Cd:=
 .seq (.region [Ll 3 (.box false 0 (.t 0)),
 Ll 6 (.mv (.c (.sl .leaf [])))] [1,2,3])
 (.seq (.region [Ll 7 (.fldA [.leaf,.leaf] (.t 3) 0),
 Ilx 8 7,
 Ll 9 (.fldA [.leaf,.leaf] (.t 3) 0),
 Ilx 10 9,
 Lw 11 1,
 Lw 12 2,
 Ll 13 (Opx F1r [(.t 10),(.t 11),(.t 12)]),
 Ll 14 (.fldA [.leaf,.leaf] (.t 3) 1),
 Ilx 15 14,
 Ll 16 (Opx F1o [(.t 8),(.t 13),(.t 15)]),
 Lw 6 16] [6])
 (.ret))
def Z11:Fn:=
 { nparams:=3,nblk:=1,results:=[.tmp 6],body:=Z11_B }
def Zt_B:Cd:=
 .seq (.region [Ll 2 (.box false 0 (.t 0)),
 Ll 4 (.mv (.c (.sl .leaf [])))] [1,2])
 (.seq (.region [Ll 9 (.fldA [.leaf,.leaf] (.t 2) 0),
 Ilx 10 9,
 Lw 11 1,
 Ll 12 (.fldA [.leaf,.leaf] (.t 2) 1),
 Ilx 13 12,
 Ll 14 (Opx F1a [(.t 10),(.t 11),(.t 13)]),
 Lw 8 14,
 Iex 15 8 0,
 Iex 16 8 1,
 Iex 17 8 2,
 Lw 5 15,
 Lw 6 16,
 Lw 7 17] [2,6])
 (.seq (.region [Ll 18 (.fldA [.leaf,.leaf] (.t 2) 0),
 Ilx 19 18,
 Lw 20 6,
 Ll 21 (.fldA [.leaf,.leaf] (.t 2) 1),
 Ilx 22 21,
 Ll 23 (Opx F1o [(.t 19),(.t 20),(.t 22)]),
 Lw 4 23] [4])
 (.ret)))
def Zt:Fn:=
 { nparams:=2,nblk:=1,results:=[.tmp 4],body:=Zt_B }
def Zs_L0:Cd:=
 .seq (.region [Ll 13 (.bin .lss (.t 12) (.t 11))] [1,3,11,12,13])
 (.seq (.cond (.t 13)
 (.skip)
 (.exit 0))
 (.seq (.block 1 (.region [Ll 14 (.fldA [.leaf,.leaf] (.t 3) 0),
 Ilx 15 14,
 Lw 16 1,
 Ll 17 (.fldA [.leaf,.leaf] (.t 3) 0),
 Ilx 18 17,
 Ll 19 (.fldA [.leaf,.leaf] (.t 3) 1),
 Ilx 20 19,
 Ll 21 (Opx F1k [(.t 15),(.t 16),(.t 18),(.t 20)]),
 Lw 1 21] [1,3,11,12]))
 (.region [Ll 22 (.bin .add (.t 12) (Acx 1)),
 Lw 12 22] [1,3,11,12])))
def Zs_B:Cd:=
 .seq (.region [Ll 3 (.box false 0 (.t 0)),
 Ll 6 (.mv (.c (.sl .leaf [])))] [1,2,3])
 (.seq (.seq (.region [Lw 7 2,
 Ll 8 (.fldA [.leaf,.leaf] (.t 3) 1),
 Ilx 9 8,
 Ll 10 (Ofx F1w [(.t 9)]),
 Ll 11 (.bin .rem (.t 7) (.t 10)),
 Ll 12 (.mv (Acx 0))] [1,3,11,12])
 (.block 0 (.loop (Zs_L0))))
 (.seq (.region [Lw 23 1,
 Lw 6 23] [6])
 (.ret)))
def Zs:Fn:=
 { nparams:=3,nblk:=1,results:=[.tmp 6],body:=Zs_B }
def Z13_L0:Cd:=
 .seq (.region [Ll 13 (.bin .lss (.t 12) (.t 11))] [2,3,7,10,11,12,13])
 (.seq (.cond (.t 13)
 (.skip)
 (.exit 0))
 (.seq (.block 1 (.seq (.region [Lw 14 12,
 Ll 15 (.idxA none .leaf (.t 10) (.t 12)),
 Ilx 16 15,
 Lw 8 14,
 Lw 9 16] [2,3,7,8,9,10,11,12])
 (.region [Ll 17 (.fldA [.leaf,.leaf] (.t 3) 0),
 Ilx 18 17,
 Lw 19 7,
 Ll 20 (.load (.st [.leaf,.leaf]) (.t 3)),
 Lw 21 9,
 Ll 22 (.load (.st [.leaf,.leaf]) (.t 3)),
 Lw 23 2,
 Lw 24 8,
 Ll 25 (Opx Fs [(.t 22),(.t 23),(.t 24)]),
 Ll 26 (Opx F11 [(.t 20),(.t 21),(.t 25)]),
 Ll 27 (Opx F1b [(.t 18),(.t 19),(.t 26),(Acx 1)]),
 Lw 7 27] [2,3,7,10,11,12])))
 (.region [Ll 28 (.bin .add (.t 12) (Acx 1)),
 Lw 12 28] [2,3,7,10,11,12])))
def Z13_B:Cd:=
 .seq (.region [Ll 3 (.box false 0 (.t 0)),
 Ll 6 (.mv (.c (.sl .leaf [])))] [1,2,3])
 (.seq (.region [Ll 7 (.mv (.c (.sl .leaf [])))] [1,2,3,7])
 (.seq (.seq (.region [Lw 10 1,
 Ll 11 (.len false (.t 10)),
 Ll 12 (.mv (Acx 0))] [2,3,7,10,11,12])
 (.block 0 (.loop (Z13_L0))))
 (.seq (.region [Lw 29 7,
 Lw 6 29] [6])
 (.ret))))
def Z13:Fn:=
 { nparams:=3,nblk:=1,results:=[.tmp 6],body:=Z13_B }
def ir_impl_field_isSkew_B:Cd:=
 .seq (.region [Ll 2 (.box false 0 (.t 0)),
 Ll 3 (.box false 1 (.t 1)),
 Ll 4 (.mv (.c (.bool false)))] [2,3])
 (.seq (.region [Ll 5 (.cut (some 8) Sx6 (.t 3) none none none),
 Ll 6 (.load (.st [.leaf,.leaf]) (.t 2)),
 Ll 7 (.mkFn Fu [(.t 6)] []),
 Ll 8 (Ofx Fh [(.t 5),(.t 7)]),
 Lw 4 8] [4])
 (.ret))
def Zv:Fn:=
 { nparams:=2,nblk:=2,results:=[.tmp 4],body:=ir_impl_field_isSkew_B }
def Z27_B:Cd:=
 .seq (.region [Ll 4 (.box false 0 (.t 1)),
 Ll 6 (.mv (Acx 0))] [0,2,4])
 (.seq (.seq (.region [Lw 7 0,
 Ipx 8 4,
 Ll 9 (Ofx F14 [(.t 7),(.t 8)]),
 Ll 10 (.un .not (.t 9)),
 Lw 11 10,
 Lx 12 2 11 false,
 Lx 13 0 11 false,
 Lg 14 (.load Sx6 (.t 4)) 11 false,
 Lg 15 (Opx Fo [(.t 13),(.t 14)]) 11 false,
 Lg 16 (.mkFn Fv [(.t 15)] []) 11 false,
 Lg 17 (Ofx Fj [(.t 12),(.t 16)]) 11 false,
 Lg 18 (.un .not (.t 17)) 11 false,
 Ll 19 (.pick (.t 11) (.c (.bool true)) (.t 18))] [19])
 (.cond (.t 19)
 (.seq (.region [Ll 6 (.mv (Acx 1))] [6])
 (.ret))
 (.skip)))
 (.seq (.region [Ll 6 (.mv (Acx 0))] [6])
 (.ret)))
def Z27:Fn:=
 { nparams:=3,nblk:=1,results:=[.tmp 6],body:=Z27_B }
def Z1t_B:Cd:=
 .seq (.region [Ll 4 (.box false 0 (.t 1)),
 Ll 6 (.mv (Acx 0))] [0,2,4])
 (.seq (.seq (.region [Lw 7 0,
 Ipx 8 4,
 Ll 9 (Ofx F14 [(.t 7),(.t 8)]),
 Ll 10 (.un .not (.t 9)),
 Lw 11 10,
 Lx 12 2 11 false,
 Lx 13 0 11 false,
 Lg 14 (.load Sx6 (.t 4)) 11 false,
 Lg 15 (Opx Fo [(.t 13),(.t 14)]) 11 false,
 Lg 16 (.mkFn Fu [(.t 15)] []) 11 false,
 Lg 17 (Ofx Fh [(.t 12),(.t 16)]) 11 false,
 Lg 18 (.un .not (.t 17)) 11 false,
 Ll 19 (.pick (.t 11) (.c (.bool true)) (.t 18))] [19])
 (.cond (.t 19)
 (.seq (.region [Ll 6 (.mv (Acx 1))] [6])
 (.ret))
 (.skip)))
 (.seq (.region [Ll 6 (.mv (Acx 0))] [6])
 (.ret)))
def Z1t:Fn:=
 { nparams:=3,nblk:=1,results:=[.tmp 6],body:=Z1t_B }
def Z26_L0:Cd:=
 .seq (.seq (.region [Lw 6 3,
 Ll 7 (.bin .gtr (.t 6) (Acx 0)),
 Lw 8 7,
 Lx 9 0 8 true,
 Lx 10 3 8 true,
 Lg 11 (.bin .sub (.t 10) (Acx 1)) 8 true,
 Lg 12 (.idxA none .leaf (.t 9) (.t 11)) 8 true,
 Lg 13 (.load .leaf (.t 12)) 8 true,
 Lg 14 (.len false (.t 13)) 8 true,
 Lg 15 (.bin .eql (.t 14) (Acx 0)) 8 true,
 Ll 16 (.pick (.t 8) (.t 15) (.c (.bool false)))] [0,3,16])
 (.cond (.t 16)
 (.skip)
 (.exit 0)))
 (.block 1 (.region [Lw 17 3,
 Ll 18 (.bin .sub (.t 17) (Acx 1)),
 Lw 3 18] [0,3]))
def Z26_B:Cd:=
 .seq (.region [Ll 2 (.mv (.c (.sl .leaf [])))] [0])
 (.seq (.region [Lw 4 0,
 Ll 5 (.len false (.t 4)),
 Lw 3 5] [0,3])
 (.seq (.block 0 (.loop (Z26_L0)))
 (.seq (.region [Lw 19 0,
 Lw 20 3,
 Lw 21 3,
 Ll 22 (.cut none .leaf (.t 19) none (some (.t 20)) (some (.t 21))),
 Lw 2 22] [2])
 (.ret))))
def Z26:Fn:=
 { nparams:=1,nblk:=0,results:=[.tmp 2],body:=Z26_B }
def Z23_L0:Cd:=
 .seq (.region [Ll 8 (.bin .lss (.t 7) (Acx 8))] [3,6,7,8])
 (.seq (.cond (.t 8)
 (.skip)
 (.exit 0))
 (.seq (.block 1 (.seq (.region [Ll 9 (.idx (some 8) Sx6 (.t 6) (.t 7)),
 Ll 5 (.box false 2 (.c (.arr 64 .leaf z64))),
 Ls (.store false Sx6 (.t 5) (.t 9))] [3,5,6,7])
 (.region [Lw 10 3,
 Ipx 11 5,
 Ll 12 (Opx F1u [(.t 11)]),
 Ll 13 (.buildSl false 3 .leaf (.sl .leaf []) 1 [(0,(.t 12))]),
 Ll 14 (.append .leaf 4 24 (.t 10) (.t 13)),
 Lw 3 14] [3,6,7])))
 (.region [Ll 15 (.bin .add (.t 7) (Acx 1)),
 Lw 7 15] [3,6,7])))
def Z23_B:Cd:=
 .seq (.region [Ll 1 (.box false 0 (.t 0)),
 Ll 2 (.mv (.c (.sl .leaf [])))] [1])
 (.seq (.region [Ll 3 (.nilOwn 1 .leaf)] [1,3])
 (.seq (.seq (.region [Isx 6 1,
 Ll 7 (.mv (Acx 0))] [3,6,7])
 (.block 0 (.loop (Z23_L0))))
 (.seq (.region [Lw 16 3,
 Ll 17 (.call .data [] (.f F26) [(.t 16)]),
 Lw 2 17] [2])
 (.ret))))
def Z23:Fn:=
 { nparams:=1,nblk:=5,results:=[.tmp 2],body:=Z23_B }
def ir_impl_ValueOfSkew_B:Cd:=
 .seq (.region [Ll 5 (.box false 0 (.t 1)),
 Ll 6 (.box false 1 (.t 2)),
 Ll 7 (.box false 2 (.t 3)),
 Ll 8 (.box false 3 (.c (.arr 64 .leaf z64))),
 Ll 9 (.mv (Acx 0))] [0,5,6,7,8])
 (.seq (.seq (.region [Lw 10 0,
 Ipx 11 5,
 Isx 12 6,
 Ll 13 (.buildSl false 4 Sx8 (.arr 8 Sx6 z8) 1 [(0,(.t 12))]),
 Ll 14 (Ofx F27 [(.t 10),(.t 11),(.t 13)]),
 Ll 15 (.bin .neq (.t 14) (Acx 0)),
 Lw 16 15,
 Lx 17 0 16 false,
 Lg 18 (.load Sx6 (.t 5)) 16 false,
 Lg 19 (.load Sx6 (.t 7)) 16 false,
 Lg 20 (.buildSl false 5 Sx6 (.arr 64 .leaf z64) 1 [(0,(.t 19))]) 16 false,
 Lg 21 (Ofx F1t [(.t 17),(.t 18),(.t 20)]) 16 false,
 Lg 22 (.bin .neq (.t 21) (Acx 0)) 16 false,
 Ll 23 (.pick (.t 16) (.c (.bool true)) (.t 22))] [0,5,6,7,8,23])
 (.cond (.t 23)
 (.seq (.region [Ll 24 (.build false (.arr 64 .leaf z64) []),
 Ls (.store false Sx6 (.t 8) (.t 24)),
 Ll 9 (.mv (Acx 1))] [8,9])
 (.ret))
 (.skip)))
 (.seq (.region [Lw 25 0,
 Ipx 26 5,
 Ll 27 (Opx Fo [(.t 25),(.t 26)]),
 Isx 28 6,
 Ll 29 (Opx F23 [(.t 28)]),
 Ipx 30 7,
 Ll 31 (Opx F1u [(.t 30)]),
 Ll 32 (Opx F13 [(.t 27),(.t 29),(.t 31)]),
 Ll 33 (Ofx F28 [(.t 32)]),
 Iex 34 33 0,
 Iex 35 33 1,
 Ls (.store false Sx6 (.t 8) (.t 34)),
 Lw 9 35] [8,9])
 (.ret)))
def Ze:Fn:=
 { nparams:=4,nblk:=6,results:=[.cell 8 Sx6,.tmp 9],body:=ir_impl_ValueOfSkew_B }
def Z1n_B:Cd:=
 .seq (.region [Ll 4 (.mv (Acx 0))] [0,1])
 (.seq (.region [Lw 5 1,
 Ll 6 (.len false (.t 5)),
 Lw 7 0,
 Ll 8 (.len false (.t 7)),
 Ll 9 (.bin .sub (.t 6) (.t 8)),
 Lw 4 9] [4])
 (.ret))
def Z1n:Fn:=
 { nparams:=2,nblk:=0,results:=[.tmp 4],body:=Z1n_B }
def Z1m_L0:Cd:=
 .seq (.region [Ll 21 (.bin .lss (.t 20) (.t 19))] [0,5,7,12,13,14,18,19,20,21])
 (.seq (.cond (.t 21)
 (.skip)
 (.exit 2))
 (.seq (.block 3 (.seq (.region [Ll 22 (.idxA none .leaf (.t 18) (.t 20)),
 Ilx 23 22,
 Lw 9 23] [0,5,7,9,12,13,14,18,19,20])
 (.region [Lw 24 0,
 Lw 25 7,
 Lw 26 9,
 Lw 27 7,
 Lw 28 9,
 Ll 29 (.len false (.t 28)),
 Ll 30 (.bin .sub (.t 29) (Acx 1)),
 Ll 31 (Ofx F1v [(.t 27),(.t 30)]),
 Ll 32 (.un .neg (.t 31)),
 Ll 33 (Opx F1b [(.t 24),(.t 25),(.t 26),(.t 32)]),
 Lw 7 33] [0,5,7,12,13,14,18,19,20])))
 (.region [Ll 34 (.bin .add (.t 20) (Acx 1)),
 Lw 20 34] [0,5,7,12,13,14,18,19,20])))
def Z1m_L1:Cd:=
 .seq (.region [Ll 48 (.bin .lss (.t 47) (.t 46))] [0,5,7,12,13,14,45,46,47,48])
 (.seq (.cond (.t 48)
 (.skip)
 (.exit 4))
 (.seq (.block 5 (.seq (.region [Lw 49 47,
 Ll 50 (.idxA none .leaf (.t 45) (.t 47)),
 Ilx 51 50,
 Lw 10 49,
 Lw 11 51] [0,5,7,10,11,12,13,14,45,46,47])
 (.region [Lw 52 5,
 Lw 53 10,
 Lw 54 0,
 Lw 55 11,
 Lw 56 7,
 Lw 57 11,
 Lw 58 7,
 Ll 59 (.len false (.t 58)),
 Ll 60 (.bin .sub (.t 59) (Acx 1)),
 Ll 61 (Ofx F1v [(.t 57),(.t 60)]),
 Ll 62 (.un .neg (.t 61)),
 Ll 63 (Opx F1b [(.t 54),(.t 55),(.t 56),(.t 62)]),
 Ll 64 (.idxA none .leaf (.t 52) (.t 53)),
 Ls (.store false .leaf (.t 64) (.t 63))] [0,5,7,12,13,14,45,46,47])))
 (.region [Ll 65 (.bin .add (.t 47) (Acx 1)),
 Lw 47 65] [0,5,7,12,13,14,45,46,47])))
def Z1m_L2:Cd:=
 .seq (.region [Ll 15 (.bin .lss (.t 14) (.t 13))] [0,5,12,13,14,15])
 (.seq (.cond (.t 15)
 (.skip)
 (.exit 0))
 (.seq (.block 1 (.seq (.region [Ll 16 (.idxA none .leaf (.t 12) (.t 14)),
 Ilx 17 16,
 Lw 7 17] [0,5,7,12,13,14])
 (.seq (.seq (.region [Lw 18 5,
 Ll 19 (.len false (.t 18)),
 Ll 20 (.mv (Acx 0))] [0,5,7,12,13,14,18,19,20])
 (.block 2 (.loop (Z1m_L0))))
 (.seq (.seq (.region [Lw 35 7,
 Ll 36 (.len false (.t 35)),
 Ll 37 (.bin .eql (.t 36) (Acx 0))] [0,5,7,12,13,14,37])
 (.cond (.t 37)
 (.exit 1)
 (.skip)))
 (.seq (.region [Lw 38 0,
 Lw 39 7,
 Lw 40 0,
 Lw 41 7,
 Ll 42 (Ofx F1y [(.t 41)]),
 Ll 43 (Ofx F1g [(.t 40),(.t 42)]),
 Ll 44 (Opx F1p [(.t 38),(.t 39),(.t 43)]),
 Lw 7 44] [0,5,7,12,13,14])
 (.seq (.seq (.region [Lw 45 5,
 Ll 46 (.len false (.t 45)),
 Ll 47 (.mv (Acx 0))] [0,5,7,12,13,14,45,46,47])
 (.block 4 (.loop (Z1m_L1))))
 (.seq (.region [Lw 66 5,
 Lw 67 7,
 Ll 68 (.buildSl false 1 .leaf (.sl .leaf []) 1 [(0,(.t 67))]),
 Ll 69 (.append .leaf 2 24 (.t 66) (.t 68)),
 Lw 5 69] [0,5,12,13,14])
 (.region [Lw 70 5,
 Ll 71 (.call .heap [] (.f F2p) [(.t 70),(.f F1n)])] [0,5,12,13,14]))))))))
 (.region [Ll 72 (.bin .add (.t 14) (Acx 1)),
 Lw 14 72] [0,5,12,13,14])))
def Z1m_B:Cd:=
 .seq (.region [Ll 4 (.mv (.c (.sl .leaf [])))] [0,1])
 (.seq (.region [Ll 5 (.nilOwn 0 .leaf)] [0,1,5])
 (.seq (.seq (.region [Lw 12 1,
 Ll 13 (.len false (.t 12)),
 Ll 14 (.mv (Acx 0))] [0,5,12,13,14])
 (.block 0 (.loop (Z1m_L2))))
 (.seq (.region [Lw 73 5,
 Lw 4 73] [4])
 (.ret))))
def Z1m:Fn:=
 { nparams:=2,nblk:=3,results:=[.tmp 4],body:=Z1m_B }
def Z25_B:Cd:=
 .seq (.region [Ll 2 (.mv (Acx 0))] [0])
 (.seq (.region [Lw 3 0,
 Ll 4 (.len false (.t 3)),
 Ll 5 (.bin .sub (.t 4) (Acx 1)),
 Lw 2 5] [2])
 (.ret))
def Z25:Fn:=
 { nparams:=1,nblk:=0,results:=[.tmp 2],body:=Z25_B }
def ir_impl_toldSkew_L0:Cd:=
 .seq (.region [Ll 14 (.bin .lss (.t 13) (.t 12))] [2,4,11,12,13,14])
 (.seq (.cond (.t 14)
 (.skip)
 (.exit 0))
 (.seq (.block 1 (.seq (.region [Lw 15 13,
 Ll 16 (.idxA none .leaf (.t 11) (.t 13)),
 Ilx 17 16,
 Lw 5 15,
 Lw 6 17] [2,4,5,6,11,12,13])
 (.region [Lw 18 5,
 Lw 19 6,
 Ll 20 (Ofx F1z [(.t 19)]),
 Ll 21 (.idxA (some 8) Sx6 (.t 4) (.t 18)),
 Ls (.store false Sx6 (.t 21) (.t 20))] [2,4,11,12,13])))
 (.region [Ll 22 (.bin .add (.t 13) (Acx 1)),
 Lw 13 22] [2,4,11,12,13])))
def ir_impl_toldSkew_B:Cd:=
 .seq (.region [Ll 2 (.box false 0 (.c (.arr 8 Sx6 z8))),
 Ll 3 (.mv (Acx 0))] [0,2])
 (.seq (.region [Ll 4 (.box false 1 (.c (.arr 8 Sx6 z8)))] [0,2,4])
 (.seq (.seq (.region [Lw 7 0,
 Ll 8 (Ofx F25 [(.t 7)]),
 Ll 9 (.bin .gtr (.t 8) (Acx 7))] [0,2,4,9])
 (.cond (.t 9)
 (.seq (.region [Isx 10 4,
 Ls (.store false Sx8 (.t 2) (.t 10)),
 Ll 3 (.mv (Acx 3))] [2,3])
 (.ret))
 (.skip)))
 (.seq (.seq (.region [Lw 11 0,
 Ll 12 (.len false (.t 11)),
 Ll 13 (.mv (Acx 0))] [2,4,11,12,13])
 (.block 0 (.loop (ir_impl_toldSkew_L0))))
 (.seq (.region [Isx 23 4,
 Ls (.store false Sx8 (.t 2) (.t 23)),
 Ll 3 (.mv (Acx 0))] [2,3])
 (.ret)))))
def Z29:Fn:=
 { nparams:=1,nblk:=2,results:=[.cell 2 Sx8,.tmp 3],body:=ir_impl_toldSkew_B }
def Zq_L0:Cd:=
 .seq (.region [Ll 37 (.bin .lss (.t 36) (.t 35))] [2,3,7,8,9,27,28,29,34,35,36,37])
 (.seq (.cond (.t 37)
 (.skip)
 (.exit 2))
 (.seq (.block 3 (.seq (.region [Lw 38 36,
 Ll 39 (.idxA none .leaf (.t 34) (.t 36)),
 Ilx 40 39,
 Lw 10 38,
 Lw 11 40] [2,3,7,8,9,10,11,27,28,29,34,35,36])
 (.region [Lw 41 7,
 Lw 42 8,
 Lw 43 10,
 Ll 44 (.bin .add (.t 42) (.t 43)),
 Ll 45 (.fldA [.leaf,.leaf] (.t 3) 0),
 Ilx 46 45,
 Lw 47 7,
 Lw 48 8,
 Lw 49 10,
 Ll 50 (.bin .add (.t 48) (.t 49)),
 Ll 51 (.idxA none .leaf (.t 47) (.t 50)),
 Ilx 52 51,
 Ll 53 (.load (.st [.leaf,.leaf]) (.t 3)),
 Lw 54 9,
 Ll 55 (.load (.st [.leaf,.leaf]) (.t 3)),
 Lw 56 11,
 Lw 57 8,
 Ll 58 (Opx Fs [(.t 55),(.t 56),(.t 57)]),
 Ll 59 (Opx F11 [(.t 53),(.t 54),(.t 58)]),
 Ll 60 (Opx F1b [(.t 46),(.t 52),(.t 59),(Acx 1)]),
 Ll 61 (.idxA none .leaf (.t 41) (.t 44)),
 Ls (.store false .leaf (.t 61) (.t 60))] [2,3,7,8,9,27,28,29,34,35,36])))
 (.region [Ll 62 (.bin .add (.t 36) (Acx 1)),
 Lw 36 62] [2,3,7,8,9,27,28,29,34,35,36])))
def Zq_L1:Cd:=
 .seq (.region [Ll 30 (.bin .lss (.t 29) (.t 28))] [2,3,7,27,28,29,30])
 (.seq (.cond (.t 30)
 (.skip)
 (.exit 0))
 (.seq (.block 1 (.seq (.region [Lw 31 29,
 Ll 32 (.idxA none .leaf (.t 27) (.t 29)),
 Ilx 33 32,
 Lw 8 31,
 Lw 9 33] [2,3,7,8,9,27,28,29])
 (.seq (.region [Lw 34 2,
 Ll 35 (.len false (.t 34)),
 Ll 36 (.mv (Acx 0))] [2,3,7,8,9,27,28,29,34,35,36])
 (.block 2 (.loop (Zq_L0))))))
 (.region [Ll 63 (.bin .add (.t 29) (Acx 1)),
 Lw 29 63] [2,3,7,27,28,29])))
def Zq_B:Cd:=
 .seq (.region [Ll 3 (.box false 0 (.t 0)),
 Ll 6 (.mv (.c (.sl .leaf [])))] [1,2,3])
 (.seq (.seq (.region [Lw 12 1,
 Ll 13 (.len false (.t 12)),
 Ll 14 (.bin .eql (.t 13) (Acx 0)),
 Lw 15 14,
 Lx 16 2 15 false,
 Lg 17 (.len false (.t 16)) 15 false,
 Lg 18 (.bin .eql (.t 17) (Acx 0)) 15 false,
 Ll 19 (.pick (.t 15) (.c (.bool true)) (.t 18))] [1,2,3,19])
 (.cond (.t 19)
 (.seq (.region [Ll 6 (.mv (.c (.sl .leaf [])))] [6])
 (.ret))
 (.skip)))
 (.seq (.region [Lw 20 1,
 Ll 21 (.len false (.t 20)),
 Lw 22 2,
 Ll 23 (.len false (.t 22)),
 Ll 24 (.bin .add (.t 21) (.t 23)),
 Ll 25 (.bin .sub (.t 24) (Acx 1)),
 Ll 26 (.mkSl 1 .leaf (.sl .leaf []) 24 (.t 25) (.t 25)),
 Lw 7 26] [1,2,3,7])
 (.seq (.seq (.region [Lw 27 1,
 Ll 28 (.len false (.t 27)),
 Ll 29 (.mv (Acx 0))] [2,3,7,27,28,29])
 (.block 0 (.loop (Zq_L1))))
 (.seq (.region [Lw 64 7,
 Ll 65 (.call .data [] (.f F26) [(.t 64)]),
 Lw 6 65] [6])
 (.ret)))))
def Zq:Fn:=
 { nparams:=3,nblk:=2,results:=[.tmp 6],body:=Zq_B }
def Z22_B:Cd:=
 .seq (.region [Ll 4 (.mv (.c (.sl .leaf [])))] [0,1])
 (.seq (.region [Lw 6 1,
 Ll 7 (.bin .add (.t 6) (Acx 1)),
 Ll 8 (.mkSl 0 .leaf (.sl .leaf []) 24 (.t 7) (.t 7)),
 Lw 5 8] [0,1,5])
 (.seq (.region [Lw 9 5,
 Lw 10 1,
 Lw 11 0,
 Ll 12 (.idxA none .leaf (.t 9) (.t 10)),
 Ls (.store false .leaf (.t 12) (.t 11))] [5])
 (.seq (.region [Lw 13 5,
 Lw 4 13] [4])
 (.ret))))
def Z22:Fn:=
 { nparams:=2,nblk:=1,results:=[.tmp 4],body:=Z22_B }
def Z24_B:Cd:=
 .seq (.region [Ll 4 (.mv (.c (.sl .leaf [])))] [0,1])
 (.seq (.seq (.region [Lw 5 1,
 Lw 6 0,
 Ll 7 (.len false (.t 6)),
 Ll 8 (.bin .lss (.t 5) (.t 7))] [0,1,8])
 (.cond (.t 8)
 (.seq (.region [Lw 9 0,
 Lw 10 1,
 Ll 11 (.idxA none .leaf (.t 9) (.t 10)),
 Ilx 12 11,
 Lw 4 12] [4])
 (.ret))
 (.skip)))
 (.seq (.region [Ll 4 (.mv (.c (.sl .leaf [])))] [4])
 (.ret)))
def Z24:Fn:=
 { nparams:=2,nblk:=0,results:=[.tmp 4],body:=Z24_B }
def Z10_L0:Cd:=
 .seq (.region [Ll 20 (.bin .lss (.t 19) (.t 18))] [1,2,3,4,9,18,19,20])
 (.seq (.cond (.t 20)
 (.skip)
 (.exit 0))
 (.seq (.block 1 (.seq (.region [Lw 21 19,
 Lw 10 21] [1,2,3,4,9,10,18,19])
 (.region [Lw 22 9,
 Lw 23 10,
 Ll 24 (.fldA [.leaf,.leaf] (.t 4) 0),
 Ilx 25 24,
 Lw 26 1,
 Lw 27 10,
 Ll 28 (Opx F24 [(.t 26),(.t 27)]),
 Lw 29 2,
 Lw 30 10,
 Ll 31 (Opx F24 [(.t 29),(.t 30)]),
 Lw 32 3,
 Ll 33 (Opx F1b [(.t 25),(.t 28),(.t 31),(.t 32)]),
 Ll 34 (.idxA none .leaf (.t 22) (.t 23)),
 Ls (.store false .leaf (.t 34) (.t 33))] [1,2,3,4,9,18,19])))
 (.region [Ll 35 (.bin .add (.t 19) (Acx 1)),
 Lw 19 35] [1,2,3,4,9,18,19])))
def Z10_B:Cd:=
 .seq (.region [Ll 4 (.box false 0 (.t 0)),
 Ll 8 (.mv (.c (.sl .leaf [])))] [1,2,3,4])
 (.seq (.region [Lw 11 1,
 Ll 12 (.len false (.t 11)),
 Lw 13 2,
 Ll 14 (.len false (.t 13)),
 Ll 15 (.maxI (.t 12) (.t 14)),
 Ll 16 (.mkSl 1 .leaf (.sl .leaf []) 24 (.t 15) (.t 15)),
 Lw 9 16] [1,2,3,4,9])
 (.seq (.seq (.region [Lw 17 9,
 Ll 18 (.len false (.t 17)),
 Ll 19 (.mv (Acx 0))] [1,2,3,4,9,18,19])
 (.block 0 (.loop (Z10_L0))))
 (.seq (.region [Lw 36 9,
 Ll 37 (.call .data [] (.f F26) [(.t 36)]),
 Lw 8 37] [8])
 (.ret))))
def Z10:Fn:=
 { nparams:=4,nblk:=2,results:=[.tmp 8],body:=Z10_B }
def Zw_L0:Cd:=
 .seq (.region [Ll 15 (.bin .lss (.t 14) (.t 13))] [2,5,12,13,14,15])
 (.seq (.cond (.t 15)
 (.skip)
 (.exit 0))
 (.seq (.block 1 (.seq (.region [Ll 16 (.idxA none .leaf (.t 12) (.t 14)),
 Ilx 17 16,
 Lw 7 17] [2,5,7,12,13,14])
 (.seq (.region [Ll 18 (.load (.st [.leaf,.leaf]) (.t 2)),
 Lw 19 5,
 Lw 20 7,
 Ll 21 (Opx F13 [(.t 18),(.t 19),(.t 20)]),
 Lw 8 21] [2,5,8,12,13,14])
 (.seq (.region [Lw 22 8,
 Ll 23 (.len false (.t 22)),
 Ll 24 (.bin .gtr (.t 23) (Acx 0))] [2,5,8,12,13,14,24])
 (.cond (.t 24)
 (.seq (.region [Ll 25 (.load (.st [.leaf,.leaf]) (.t 2)),
 Ll 26 (.load (.st [.leaf,.leaf]) (.t 2)),
 Lw 27 8,
 Ll 28 (Opx Fs [(.t 26),(.t 27),(Acx 1)]),
 Ll 29 (.load (.st [.leaf,.leaf]) (.t 2)),
 Lw 30 8,
 Ll 31 (Opx Ft [(.t 29),(.t 30)]),
 Ll 32 (Opx F11 [(.t 25),(.t 28),(.t 31)]),
 Lw 9 32] [2,5,9,12,13,14])
 (.region [Ll 33 (.load (.st [.leaf,.leaf]) (.t 2)),
 Ll 34 (.fldA [.leaf,.leaf] (.t 2) 0),
 Ilx 35 34,
 Lw 36 9,
 Ll 37 (Opx F1p [(.t 35),(.t 36),(Acx (-1))]),
 Ll 38 (.buildSl false 2 .leaf (.int .i64 0) 1 [(0,(Acx 1))]),
 ⟨some 39,.buildSl true 3 .leaf (.sl .leaf []) 2 [(0,(.t 37)),(1,(.t 38))],none,[2]⟩,
 Lw 40 5,
 Ll 41 (.call .data [] (.f Fq) [(.t 33),(.t 39),(.t 40)]),
 Lw 5 41] [2,5,12,13,14]))
 (.skip))))))
 (.region [Ll 42 (.bin .add (.t 14) (Acx 1)),
 Lw 14 42] [2,5,12,13,14])))
def Zw_B:Cd:=
 .seq (.region [Ll 2 (.box false 0 (.t 0)),
 Ll 4 (.mv (.c (.sl .leaf [])))] [1,2])
 (.seq (.region [Ll 10 (.buildSl false 1 .leaf (.int .i64 0) 1 [(0,(Acx 1))]),
 Ll 11 (.call .data [] (.f F22) [(.t 10),(Acx 0)]),
 Lw 5 11] [1,2,5])
 (.seq (.seq (.region [Lw 12 1,
 Ll 13 (.len false (.t 12)),
 Ll 14 (.mv (Acx 0))] [2,5,12,13,14])
 (.block 0 (.loop (Zw_L0))))
 (.seq (.region [Lw 43 5,
 Lw 4 43] [4])
 (.ret))))
def Zw:Fn:=
 { nparams:=2,nblk:=4,results:=[.tmp 4],body:=Zw_B }
def ir_impl_LeastSkew_L0:Cd:=
 .seq (.region [Ll 23 (.bin .lss (.t 22) (.t 21))] [0,4,6,9,20,21,22,23])
 (.seq (.cond (.t 23)
 (.skip)
 (.exit 0))
 (.seq (.block 1 (.seq (.region [Ll 24 (.idxA none Sx6 (.t 20) (.t 22)),
 Ipx 25 24,
 Ll 11 (.box false 3 (.c (.arr 64 .leaf z64))),
 Ls (.store false Sx6 (.t 11) (.t 25))] [0,4,6,9,11,20,21,22])
 (.region [Lw 26 9,
 Ipx 27 11,
 Ll 28 (Opx F1u [(.t 27)]),
 Ll 29 (.buildSl false 4 .leaf (.sl .leaf []) 1 [(0,(.t 28))]),
 Ll 30 (.append .leaf 5 24 (.t 26) (.t 29)),
 Lw 9 30] [0,4,6,9,20,21,22])))
 (.region [Ll 31 (.bin .add (.t 22) (Acx 1)),
 Lw 22 31] [0,4,6,9,20,21,22])))
def ir_impl_LeastSkew_B:Cd:=
 .seq (.region [Ll 4 (.box false 0 (.t 1)),
 Ll 6 (.box false 1 (.c (.arr 8 Sx6 z8))),
 Ll 7 (.mv (Acx 0))] [0,2,4,6])
 (.seq (.seq (.region [Lw 12 0,
 Ipx 13 4,
 Lw 14 2,
 Ll 15 (Ofx F1t [(.t 12),(.t 13),(.t 14)]),
 Lw 8 15] [0,2,4,6,8])
 (.seq (.region [Lw 16 8,
 Ll 17 (.bin .neq (.t 16) (Acx 0))] [0,2,4,6,8,17])
 (.cond (.t 17)
 (.seq (.region [Ll 18 (.build false (.arr 8 Sx6 z8) []),
 Lw 19 8,
 Ls (.store false Sx8 (.t 6) (.t 18)),
 Lw 7 19] [6,7])
 (.ret))
 (.skip))))
 (.seq (.region [Ll 9 (.nilOwn 2 .leaf)] [0,2,4,6,9])
 (.seq (.seq (.region [Lw 20 2,
 Ll 21 (.len false (.t 20)),
 Ll 22 (.mv (Acx 0))] [0,4,6,9,20,21,22])
 (.block 0 (.loop (ir_impl_LeastSkew_L0))))
 (.seq (.region [Lw 32 0,
 Ipx 33 4,
 Ll 34 (Opx Fo [(.t 32),(.t 33)]),
 Lw 35 9,
 Ll 36 (.call .data [] (.f Fw) [(.t 34),(.t 35)]),
 Ll 37 (Ofx F29 [(.t 36)]),
 Iex 38 37 0,
 Iex 39 37 1,
 Ls (.store false Sx8 (.t 6) (.t 38)),
 Lw 7 39] [6,7])
 (.ret)))))
def Z8:Fn:=
 { nparams:=3,nblk:=6,results:=[.cell 6 Sx8,.tmp 7],body:=ir_impl_LeastSkew_B }
def ir_impl_KernelOfSkew_L0:Cd:=
 .seq (.region [Ll 34 (.bin .lss (.t 33) (.t 32))] [9,10,11,32,33,34])
 (.seq (.cond (.t 34)
 (.skip)
 (.exit 0))
 (.seq (.block 1 (.seq (.region [Lw 35 33,
 Lw 12 35] [9,10,11,12,32,33])
 (.seq (.region [Ll 36 (.fldA [.leaf,.leaf] (.t 9) 0),
 Ilx 37 36,
 Lw 38 12,
 Ll 39 (Opx F1j [(.t 37),(.t 38)]),
 Lw 13 39] [9,10,11,13,32,33])
 (.seq (.region [Ll 40 (.load (.st [.leaf,.leaf]) (.t 9)),
 Lw 41 10,
 Lw 42 13,
 Ll 43 (Opx F13 [(.t 40),(.t 41),(.t 42)]),
 Ll 44 (.len false (.t 43)),
 Ll 45 (.bin .eql (.t 44) (Acx 0))] [9,10,11,13,32,33,45])
 (.cond (.t 45)
 (.region [Lw 46 11,
 Lw 47 13,
 Ll 48 (.buildSl false 5 .leaf (.sl .leaf []) 1 [(0,(.t 47))]),
 Ll 49 (.append .leaf 6 24 (.t 46) (.t 48)),
 Lw 11 49] [9,10,11,32,33])
 (.skip))))))
 (.region [Ll 50 (.bin .add (.t 33) (Acx 1)),
 Lw 33 50] [9,10,11,32,33])))
def ir_impl_KernelOfSkew_B:Cd:=
 .seq (.region [Ll 4 (.box false 0 (.t 1)),
 Ll 5 (.box false 1 (.t 2)),
 Ll 6 (.mv (.c (.sl Sx6 []))),
 Ll 7 (.mv (Acx 0))] [0,4,5])
 (.seq (.seq (.region [Lw 14 0,
 Ipx 15 4,
 Isx 16 5,
 Ll 17 (.buildSl false 2 Sx8 (.arr 8 Sx6 z8) 1 [(0,(.t 16))]),
 Ll 18 (Ofx F27 [(.t 14),(.t 15),(.t 17)]),
 Lw 8 18] [0,4,5,8])
 (.seq (.region [Lw 19 8,
 Ll 20 (.bin .neq (.t 19) (Acx 0))] [0,4,5,8,20])
 (.cond (.t 20)
 (.seq (.region [Lw 21 8,
 Ll 6 (.mv (.c (.sl Sx6 []))),
 Lw 7 21] [6,7])
 (.ret))
 (.skip))))
 (.seq (.region [Lw 22 0,
 Ipx 23 4,
 Ll 24 (Opx Fo [(.t 22),(.t 23)]),
 Isx 25 5,
 Ll 26 (Opx F23 [(.t 25)]),
 Ll 9 (.box false 3 (.c (.st [.leaf,.leaf] [(.int .i64 0),(.sl .leaf [])]))),
 Ls (.store false (.st [.leaf,.leaf]) (.t 9) (.t 24)),
 Lw 10 26] [9,10])
 (.seq (.region [Ll 11 (.nilOwn 4 .leaf)] [9,10,11])
 (.seq (.seq (.region [Ll 27 (.fldA [.leaf,.leaf] (.t 9) 0),
 Ilx 28 27,
 Ll 29 (.fldA [.leaf,.leaf] (.t 9) 1),
 Ilx 30 29,
 Ll 31 (Ofx F1w [(.t 30)]),
 Ll 32 (Ofx F1i [(.t 28),(.t 31),(Acx 1099511627776)]),
 Ll 33 (.mv (Acx 0))] [9,10,11,32,33])
 (.block 0 (.loop (ir_impl_KernelOfSkew_L0))))
 (.seq (.region [Ll 51 (.fldA [.leaf,.leaf] (.t 9) 0),
 Ilx 52 51,
 Lw 53 11,
 Ll 54 (.call .data [] (.f F1m) [(.t 52),(.t 53)]),
 Ll 55 (Opx F19 [(.t 54)]),
 Lw 6 55,
 Ll 7 (.mv (Acx 0))] [6,7])
 (.ret))))))
def Z7:Fn:=
 { nparams:=3,nblk:=7,results:=[.tmp 6,.tmp 7],body:=ir_impl_KernelOfSkew_B }
def Zm_B:Cd:=
 .seq (.region [Ll 6 (.box false 0 (.t 1)),
 Ll 7 (.box false 1 (.t 2)),
 Ll 8 (.box false 2 (.t 3)),
 Ll 10 (.box false 3 (.c (.arr 8 Sx6 z8))),
 Ll 11 (.box false 4 (.c (.arr 8 Sx6 z8))),
 Ll 12 (.mv (Acx 0))] [0,4,6,7,8,10,11])
 (.seq (.seq (.region [Lw 20 0,
 Ipx 21 6,
 Isx 22 7,
 Isx 23 8,
 Ll 24 (.buildSl false 5 Sx8 (.arr 8 Sx6 z8) 2 [(0,(.t 22)),(1,(.t 23))]),
 Ll 25 (Ofx F27 [(.t 20),(.t 21),(.t 24)]),
 Lw 13 25] [0,4,6,7,8,10,11,13])
 (.seq (.region [Lw 26 13,
 Ll 27 (.bin .neq (.t 26) (Acx 0))] [0,4,6,7,8,10,11,13,27])
 (.cond (.t 27)
 (.seq (.region [Ll 28 (.build false (.arr 8 Sx6 z8) []),
 Ll 29 (.build false (.arr 8 Sx6 z8) []),
 Lw 30 13,
 Ls (.store false Sx8 (.t 10) (.t 28)),
 Ls (.store false Sx8 (.t 11) (.t 29)),
 Lw 12 30] [10,11,12])
 (.ret))
 (.skip))))
 (.seq (.seq (.region [Isx 31 8,
 Ll 32 (.build false (.arr 8 Sx6 z8) []),
 Ll 33 (.eqv false (.arr 8 Sx6 (.arr 64 .leaf .int)) (.t 31) (.t 32))] [0,4,6,7,8,10,11,33])
 (.cond (.t 33)
 (.seq (.region [Ll 34 (.build false (.arr 8 Sx6 z8) []),
 Ll 35 (.build false (.arr 8 Sx6 z8) []),
 Ls (.store false Sx8 (.t 10) (.t 34)),
 Ls (.store false Sx8 (.t 11) (.t 35)),
 Ll 12 (.mv (Acx 5))] [10,11,12])
 (.ret))
 (.skip)))
 (.seq (.region [Lw 37 4,
 Lw 38 0,
 Ipx 39 6,
 Ll 40 (Opx Fo [(.t 38),(.t 39)]),
 Isx 41 7,
 Ll 42 (Opx F23 [(.t 41)]),
 Isx 43 8,
 Ll 44 (Opx F23 [(.t 43)]),
 Ll 45 (.call .plain [] (.t 37) [(.t 40),(.t 42),(.t 44)]),
 Lw 36 45,
 Iex 46 36 0,
 Iex 47 36 1,
 Lw 14 46,
 Lw 15 47] [10,11,14,15])
 (.seq (.region [Lw 49 14,
 Ll 50 (Ofx F29 [(.t 49)]),
 Lw 48 50,
 Iex 51 48 0,
 Iex 52 48 1,
 Ll 16 (.box false 6 (.c (.arr 8 Sx6 z8))),
 Ls (.store false Sx8 (.t 16) (.t 51)),
 Lw 17 52] [10,11,15,16])
 (.seq (.region [Lw 54 15,
 Ll 55 (Ofx F29 [(.t 54)]),
 Lw 53 55,
 Iex 56 53 0,
 Iex 57 53 1,
 Ll 18 (.box false 7 (.c (.arr 8 Sx6 z8))),
 Ls (.store false Sx8 (.t 18) (.t 56)),
 Lw 19 57] [10,11,16,18])
 (.seq (.region [Isx 58 16,
 Isx 59 18,
 ⟨none,.store false Sx8 (.t 10) (.t 58),none,[18]⟩,
 Ls (.store false Sx8 (.t 11) (.t 59)),
 Ll 12 (.mv (Acx 0))] [10,11,12])
 (.ret)))))))
def Zm:Fn:=
 { nparams:=5,nblk:=8,results:=[.cell 10 Sx8,.cell 11 Sx8,.tmp 12],body:=Zm_B }
def Zr_L0:Cd:=
 .seq (.seq (.region [Lw 12 1,
 Ll 13 (.len false (.t 12)),
 Lw 14 2,
 Ll 15 (.len false (.t 14)),
 Ll 16 (.bin .geq (.t 13) (.t 15))] [1,2,3,8,16])
 (.cond (.t 16)
 (.skip)
 (.exit 0)))
 (.block 1 (.seq (.region [Lw 17 1,
 Ll 18 (.len false (.t 17)),
 Lw 19 2,
 Ll 20 (.len false (.t 19)),
 Ll 21 (.bin .sub (.t 18) (.t 20)),
 Lw 9 21] [1,2,3,8,9])
 (.seq (.region [Ll 22 (.load (.st [.leaf,.leaf]) (.t 3)),
 Lw 23 2,
 Lw 24 2,
 Ll 25 (.len false (.t 24)),
 Ll 26 (.bin .sub (.t 25) (Acx 1)),
 Ll 27 (.idxA none .leaf (.t 23) (.t 26)),
 Ilx 28 27,
 Lw 29 9,
 Ll 30 (Opx Fs [(.t 22),(.t 28),(.t 29)]),
 Lw 10 30] [1,2,3,8,9,10])
 (.seq (.region [Ll 31 (.load (.st [.leaf,.leaf]) (.t 3)),
 Lw 32 1,
 Lw 33 1,
 Ll 34 (.len false (.t 33)),
 Ll 35 (.bin .sub (.t 34) (Acx 1)),
 Ll 36 (.idxA none .leaf (.t 32) (.t 35)),
 Ilx 37 36,
 Ll 38 (.load (.st [.leaf,.leaf]) (.t 3)),
 Lw 39 10,
 Ll 40 (Opx Ft [(.t 38),(.t 39)]),
 Ll 41 (Opx F11 [(.t 31),(.t 37),(.t 40)]),
 Lw 42 9,
 Ll 43 (Opx F22 [(.t 41),(.t 42)]),
 Lw 11 43] [1,2,3,8,11])
 (.seq (.region [Ll 44 (.load (.st [.leaf,.leaf]) (.t 3)),
 Lw 45 8,
 Lw 46 11,
 Ll 47 (Opx F10 [(.t 44),(.t 45),(.t 46),(Acx 1)]),
 Lw 8 47] [1,2,3,8,11])
 (.region [Ll 48 (.load (.st [.leaf,.leaf]) (.t 3)),
 Lw 49 1,
 Ll 50 (.load (.st [.leaf,.leaf]) (.t 3)),
 Lw 51 11,
 Lw 52 2,
 Ll 53 (Opx Fq [(.t 50),(.t 51),(.t 52)]),
 Ll 54 (Opx F10 [(.t 48),(.t 49),(.t 53),(Acx (-1))]),
 Lw 1 54] [1,2,3,8]))))))
def Zr_B:Cd:=
 .seq (.region [Ll 3 (.box false 0 (.t 0)),
 Ll 6 (.mv (.c (.sl .leaf []))),
 Ll 7 (.mv (.c (.sl .leaf [])))] [1,2,3])
 (.seq (.region [Ll 8 (.mv (.c (.sl .leaf [])))] [1,2,3,8])
 (.seq (.block 0 (.loop (Zr_L0)))
 (.seq (.region [Lw 55 8,
 Lw 56 1,
 Lw 6 55,
 Lw 7 56] [6,7])
 (.ret))))
def Zr:Fn:=
 { nparams:=3,nblk:=1,results:=[.tmp 6,.tmp 7],body:=Zr_B }
def Z4_B:Cd:=
 .seq (.region [Ll 5 (.box false 0 (.t 1)),
 Ll 6 (.box false 1 (.t 2)),
 Ll 7 (.box false 2 (.t 3)),
 Ll 8 (.box false 3 (.c (.arr 8 Sx6 z8))),
 Ll 9 (.box false 4 (.c (.arr 8 Sx6 z8))),
 Ll 10 (.mv (Acx 0))] [0,5,6,7,8,9])
 (.seq (.region [Lw 11 0,
 Ipx 12 5,
 Isx 13 6,
 Isx 14 7,
 Ll 15 (Ofx Fm [(.t 11),(.t 12),(.t 13),(.t 14),(.f Fr)]),
 Iex 16 15 0,
 Iex 17 15 1,
 Iex 18 15 2,
 Ls (.store false Sx8 (.t 8) (.t 16)),
 Ls (.store false Sx8 (.t 9) (.t 17)),
 Lw 10 18] [8,9,10])
 (.ret))
def Z4:Fn:=
 { nparams:=4,nblk:=5,results:=[.cell 8 Sx8,.cell 9 Sx8,.tmp 10],body:=Z4_B }
def Zy_B:Cd:=
 .seq (.region [Ll 2 (.box false 0 (.t 0)),
 Ll 4 (.mv (.c (.sl .leaf [])))] [1,2])
 (.seq (.region [Ll 5 (.load (.st [.leaf,.leaf]) (.t 2)),
 Ll 6 (.load (.st [.leaf,.leaf]) (.t 2)),
 Lw 7 1,
 Lw 8 1,
 Ll 9 (.len false (.t 8)),
 Ll 10 (.bin .sub (.t 9) (Acx 1)),
 Ll 11 (.idxA none .leaf (.t 7) (.t 10)),
 Ilx 12 11,
 Ll 13 (Opx Ft [(.t 6),(.t 12)]),
 Ll 14 (Opx F22 [(.t 13),(Acx 0)]),
 Lw 15 1,
 Ll 16 (Opx Fq [(.t 5),(.t 14),(.t 15)]),
 Lw 4 16] [4])
 (.ret))
def Zy:Fn:=
 { nparams:=2,nblk:=1,results:=[.tmp 4],body:=Zy_B }
def Z12_L0:Cd:=
 .seq (.seq (.region [Lw 9 2,
 Ll 10 (.len false (.t 9)),
 Ll 11 (.bin .gtr (.t 10) (Acx 0))] [1,2,3,11])
 (.cond (.t 11)
 (.skip)
 (.exit 0)))
 (.block 1 (.seq (.region [Ll 13 (.load (.st [.leaf,.leaf]) (.t 3)),
 Lw 14 1,
 Lw 15 2,
 Ll 16 (Opx Fr [(.t 13),(.t 14),(.t 15)]),
 Lw 12 16,
 Iex 17 12 0,
 Iex 18 12 1,
 Lw 7 17,
 Lw 8 18] [2,3,8])
 (.region [Lw 19 2,
 Lw 20 8,
 Lw 1 19,
 Lw 2 20] [1,2,3])))
def Z12_B:Cd:=
 .seq (.region [Ll 3 (.box false 0 (.t 0)),
 Ll 6 (.mv (.c (.sl .leaf [])))] [1,2,3])
 (.seq (.block 0 (.loop (Z12_L0)))
 (.seq (.region [Ll 21 (.load (.st [.leaf,.leaf]) (.t 3)),
 Lw 22 1,
 Ll 23 (Opx Fy [(.t 21),(.t 22)]),
 Lw 6 23] [6])
 (.ret)))
def Z12:Fn:=
 { nparams:=3,nblk:=1,results:=[.tmp 6],body:=Z12_B }
def Za_B:Cd:=
 .seq (.region [Ll 5 (.box false 0 (.t 1)),
 Ll 6 (.box false 1 (.t 2)),
 Ll 7 (.box false 2 (.t 3)),
 Ll 8 (.box false 3 (.c (.arr 8 Sx6 z8))),
 Ll 9 (.mv (Acx 0))] [0,5,6,7,8])
 (.seq (.seq (.region [Lw 11 0,
 Ipx 12 5,
 Isx 13 6,
 Isx 14 7,
 Ll 15 (.buildSl false 4 Sx8 (.arr 8 Sx6 z8) 2 [(0,(.t 13)),(1,(.t 14))]),
 Ll 16 (Ofx F27 [(.t 11),(.t 12),(.t 15)]),
 Lw 10 16] [0,5,6,7,8,10])
 (.seq (.region [Lw 17 10,
 Ll 18 (.bin .neq (.t 17) (Acx 0))] [0,5,6,7,8,10,18])
 (.cond (.t 18)
 (.seq (.region [Ll 19 (.build false (.arr 8 Sx6 z8) []),
 Lw 20 10,
 Ls (.store false Sx8 (.t 8) (.t 19)),
 Lw 9 20] [8,9])
 (.ret))
 (.skip))))
 (.seq (.seq (.region [Isx 21 6,
 Ll 22 (.build false (.arr 8 Sx6 z8) []),
 Ll 23 (.eqv false (.arr 8 Sx6 (.arr 64 .leaf .int)) (.t 21) (.t 22)),
 Lw 24 23,
 Lg 25 (.load Sx8 (.t 7)) 24 true,
 Lg 26 (.build false (.arr 8 Sx6 z8) []) 24 true,
 Lg 27 (.eqv false (.arr 8 Sx6 (.arr 64 .leaf .int)) (.t 25) (.t 26)) 24 true,
 Ll 28 (.pick (.t 24) (.t 27) (.c (.bool false)))] [0,5,6,7,8,28])
 (.cond (.t 28)
 (.seq (.region [Ll 29 (.build false (.arr 8 Sx6 z8) []),
 Ls (.store false Sx8 (.t 8) (.t 29)),
 Ll 9 (.mv (Acx 5))] [8,9])
 (.ret))
 (.skip)))
 (.seq (.region [Lw 30 0,
 Ipx 31 5,
 Ll 32 (Opx Fo [(.t 30),(.t 31)]),
 Isx 33 6,
 Ll 34 (Opx F23 [(.t 33)]),
 Isx 35 7,
 Ll 36 (Opx F23 [(.t 35)]),
 Ll 37 (Opx F12 [(.t 32),(.t 34),(.t 36)]),
 Ll 38 (Ofx F29 [(.t 37)]),
 Iex 39 38 0,
 Iex 40 38 1,
 Ls (.store false Sx8 (.t 8) (.t 39)),
 Lw 9 40] [8,9])
 (.ret))))
def Za:Fn:=
 { nparams:=4,nblk:=5,results:=[.cell 8 Sx8,.tmp 9],body:=Za_B }
def Zx_L0:Cd:=
 .seq (.seq (.region [Lw 15 2,
 Ll 16 (.len false (.t 15)),
 Ll 17 (.bin .gtr (.t 16) (Acx 0))] [1,2,3,7,8,9,17])
 (.cond (.t 17)
 (.skip)
 (.exit 0)))
 (.block 1 (.seq (.region [Ll 19 (.load (.st [.leaf,.leaf]) (.t 3)),
 Lw 20 1,
 Lw 21 2,
 Ll 22 (Opx Fr [(.t 19),(.t 20),(.t 21)]),
 Lw 18 22,
 Iex 23 18 0,
 Iex 24 18 1,
 Lw 10 23,
 Lw 11 24] [2,3,7,8,9,10,11])
 (.seq (.region [Lw 25 2,
 Lw 26 11,
 Lw 1 25,
 Lw 2 26] [1,2,3,7,8,9,10])
 (.region [Lw 27 9,
 Ll 28 (.load (.st [.leaf,.leaf]) (.t 3)),
 Lw 29 8,
 Ll 30 (.load (.st [.leaf,.leaf]) (.t 3)),
 Lw 31 10,
 Lw 32 9,
 Ll 33 (Opx Fq [(.t 30),(.t 31),(.t 32)]),
 Ll 34 (Opx F10 [(.t 28),(.t 29),(.t 33),(Acx (-1))]),
 Lw 8 27,
 Lw 9 34] [1,2,3,7,8,9]))))
def Zx_B:Cd:=
 .seq (.region [Ll 3 (.box false 0 (.t 0)),
 Ll 6 (.mv (.c (.sl .leaf [])))] [1,2,3])
 (.seq (.region [Lw 12 1,
 Lw 7 12] [1,2,3,7])
 (.seq (.region [Ll 13 (.buildSl false 1 .leaf (.int .i64 0) 1 [(0,(Acx 1))]),
 Ll 14 (.call .data [] (.f F22) [(.t 13),(Acx 0)]),
 Lw 8 14,
 Ll 9 (.mv (.c (.sl .leaf [])))] [1,2,3,7,8,9])
 (.seq (.block 0 (.loop (Zx_L0)))
 (.seq (.region [Ll 35 (.load (.st [.leaf,.leaf]) (.t 3)),
 Ll 36 (.load (.st [.leaf,.leaf]) (.t 3)),
 Lw 37 9,
 Lw 38 7,
 Ll 39 (Opx Fq [(.t 36),(.t 37),(.t 38)]),
 Ll 40 (Opx Fy [(.t 35),(.t 39)]),
 Lw 6 40] [6])
 (.ret)))))
def Zx:Fn:=
 { nparams:=3,nblk:=2,results:=[.tmp 6],body:=Zx_B }
def Z9_B:Cd:=
 .seq (.region [Ll 5 (.box false 0 (.t 1)),
 Ll 6 (.box false 1 (.t 2)),
 Ll 7 (.box false 2 (.t 3)),
 Ll 8 (.box false 3 (.c (.arr 8 Sx6 z8))),
 Ll 9 (.mv (Acx 0))] [0,5,6,7,8])
 (.seq (.seq (.region [Lw 11 0,
 Ipx 12 5,
 Isx 13 6,
 Isx 14 7,
 Ll 15 (.buildSl false 4 Sx8 (.arr 8 Sx6 z8) 2 [(0,(.t 13)),(1,(.t 14))]),
 Ll 16 (Ofx F27 [(.t 11),(.t 12),(.t 15)]),
 Lw 10 16] [0,5,6,7,8,10])
 (.seq (.region [Lw 17 10,
 Ll 18 (.bin .neq (.t 17) (Acx 0))] [0,5,6,7,8,10,18])
 (.cond (.t 18)
 (.seq (.region [Ll 19 (.build false (.arr 8 Sx6 z8) []),
 Lw 20 10,
 Ls (.store false Sx8 (.t 8) (.t 19)),
 Lw 9 20] [8,9])
 (.ret))
 (.skip))))
 (.seq (.seq (.region [Isx 21 6,
 Ll 22 (.build false (.arr 8 Sx6 z8) []),
 Ll 23 (.eqv false (.arr 8 Sx6 (.arr 64 .leaf .int)) (.t 21) (.t 22)),
 Lw 24 23,
 Lg 25 (.load Sx8 (.t 7)) 24 false,
 Lg 26 (.build false (.arr 8 Sx6 z8) []) 24 false,
 Lg 27 (.eqv false (.arr 8 Sx6 (.arr 64 .leaf .int)) (.t 25) (.t 26)) 24 false,
 Ll 28 (.pick (.t 24) (.c (.bool true)) (.t 27))] [0,5,6,7,8,28])
 (.cond (.t 28)
 (.seq (.region [Ll 29 (.build false (.arr 8 Sx6 z8) []),
 Ls (.store false Sx8 (.t 8) (.t 29)),
 Ll 9 (.mv (Acx 5))] [8,9])
 (.ret))
 (.skip)))
 (.seq (.region [Lw 30 0,
 Ipx 31 5,
 Ll 32 (Opx Fo [(.t 30),(.t 31)]),
 Isx 33 6,
 Ll 34 (Opx F23 [(.t 33)]),
 Isx 35 7,
 Ll 36 (Opx F23 [(.t 35)]),
 Ll 37 (Opx Fx [(.t 32),(.t 34),(.t 36)]),
 Ll 38 (Ofx F29 [(.t 37)]),
 Iex 39 38 0,
 Iex 40 38 1,
 Ls (.store false Sx8 (.t 8) (.t 39)),
 Lw 9 40] [8,9])
 (.ret))))
def Z9:Fn:=
 { nparams:=4,nblk:=5,results:=[.cell 8 Sx8,.tmp 9],body:=Z9_B }
def Zb_B:Cd:=
 .seq (.region [Ll 4 (.box false 0 (.t 1)),
 Ll 5 (.box false 1 (.t 2)),
 Ll 6 (.mv (Acx 0)),
 Ll 7 (.mv (Acx 0))] [0,4,5])
 (.seq (.seq (.region [Lw 9 0,
 Ipx 10 4,
 Isx 11 5,
 Ll 12 (.buildSl false 2 Sx8 (.arr 8 Sx6 z8) 1 [(0,(.t 11))]),
 Ll 13 (Ofx F27 [(.t 9),(.t 10),(.t 12)]),
 Lw 8 13] [5,8])
 (.seq (.region [Lw 14 8,
 Ll 15 (.bin .neq (.t 14) (Acx 0))] [5,8,15])
 (.cond (.t 15)
 (.seq (.region [Lw 16 8,
 Ll 6 (.mv (Acx 0)),
 Lw 7 16] [6,7])
 (.ret))
 (.skip))))
 (.seq (.region [Isx 17 5,
 Ll 18 (Opx F23 [(.t 17)]),
 Ll 19 (Ofx F25 [(.t 18)]),
 Lw 6 19,
 Ll 7 (.mv (Acx 0))] [6,7])
 (.ret)))
def Zb:Fn:=
 { nparams:=3,nblk:=3,results:=[.tmp 6,.tmp 7],body:=Zb_B }
def Z5_B:Cd:=
 .seq (.region [Ll 3 (.box false 0 (.t 1)),
 Ll 4 (.mv (.c (.bool false)))] [0,3])
 (.seq (.region [Lw 5 0,
 Ipx 6 3,
 Ll 7 (Ofx F14 [(.t 5),(.t 6)]),
 Lw 4 7] [4])
 (.ret))
def Z5:Fn:=
 { nparams:=2,nblk:=1,results:=[.tmp 4],body:=Z5_B }
end Pe

/-
 Functions of the program in the small form,printed by a program.
-/
namespace Pe
open Go
def Z21_L0:Cd:=
 .seq (.region [Ll 9 (.bin .lss (.t 8) (.t 7))] [3,6,7,8,9])
 (.seq (.cond (.t 9)
 (.skip)
 (.exit 0))
 (.seq (.block 1 (.seq (.region [Ll 10 (.idxA none Sx6 (.t 6) (.t 8)),
 Ipx 11 10,
 Ll 5 (.box false 1 (.c (.arr 64 .leaf z64))),
 Ls (.store false Sx6 (.t 5) (.t 11))] [3,5,6,7,8])
 (.region [Lw 12 3,
 Ipx 13 5,
 Ll 14 (Opx F1u [(.t 13)]),
 Ll 15 (.buildSl false 2 .leaf (.sl .leaf []) 1 [(0,(.t 14))]),
 Ll 16 (.append .leaf 3 24 (.t 12) (.t 15)),
 Lw 3 16] [3,6,7,8])))
 (.region [Ll 17 (.bin .add (.t 8) (Acx 1)),
 Lw 8 17] [3,6,7,8])))
def Z21_B:Cd:=
 .seq (.region [Ll 2 (.mv (.c (.sl .leaf [])))] [0])
 (.seq (.region [Ll 3 (.nilOwn 0 .leaf)] [0,3])
 (.seq (.seq (.region [Lw 6 0,
 Ll 7 (.len false (.t 6)),
 Ll 8 (.mv (Acx 0))] [3,6,7,8])
 (.block 0 (.loop (Z21_L0))))
 (.seq (.region [Lw 18 3,
 Lw 2 18] [2])
 (.ret))))
def Z21:Fn:=
 { nparams:=1,nblk:=4,results:=[.tmp 2],body:=Z21_B }
end Pe

/-
 Functions of the program in the small form,printed by a program.
-/
namespace Pe
open Go
def Zc_B:Cd:=
 .seq (.region [Ll 4 (.box false 0 (.t 1)),
 Ll 6 (.mv (.c (.sl Sx6 []))),
 Ll 7 (.mv (Acx 0))] [0,2,4])
 (.seq (.seq (.region [Lw 9 0,
 Ipx 10 4,
 Lw 11 2,
 Ll 12 (Ofx F1t [(.t 9),(.t 10),(.t 11)]),
 Lw 8 12] [0,2,8])
 (.seq (.region [Lw 13 8,
 Ll 14 (.bin .neq (.t 13) (Acx 0))] [0,2,8,14])
 (.cond (.t 14)
 (.seq (.region [Lw 15 8,
 Ll 6 (.mv (.c (.sl Sx6 []))),
 Lw 7 15] [6,7])
 (.ret))
 (.skip))))
 (.seq (.region [Lw 16 0,
 Lw 17 2,
 Ll 18 (Opx F21 [(.t 17)]),
 Ll 19 (Opx F1m [(.t 16),(.t 18)]),
 Ll 20 (Opx F19 [(.t 19)]),
 Lw 6 20,
 Ll 7 (.mv (Acx 0))] [6,7])
 (.ret)))
def Zc:Fn:=
 { nparams:=3,nblk:=1,results:=[.tmp 6,.tmp 7],body:=Zc_B }
end Pe

/-
 Functions of the program in the small form,printed by a program.
-/
namespace Pe
open Go
def Z3w_L0:Cd:=
 .seq (.seq (.region [Lw 4 3,
 Ll 5 (.bin .geq (.t 4) (Acx 0)),
 Lw 6 5,
 Lx 7 3 6 true,
 Lg 8 (.idxA (some 64) .leaf (.t 1) (.t 7)) 6 true,
 Lg 9 (.load .leaf (.t 8)) 6 true,
 Lg 10 (.bin .eql (.t 9) (.c (.int .u8 0))) 6 true,
 Ll 11 (.pick (.t 6) (.t 10) (.c (.bool false)))] [1,3,11])
 (.cond (.t 11)
 (.skip)
 (.exit 0)))
 (.block 1 (.region [Lw 12 3,
 Ll 13 (.bin .sub (.t 12) (Acx 1)),
 Lw 3 13] [1,3]))
def Z3w_B:Cd:=
 .seq (.region [Ll 1 (.box false 0 (.t 0)),
 Ll 2 (.mv (Acx 0))] [1])
 (.seq (.region [Ll 3 (.mv (Acx 63))] [1,3])
 (.seq (.block 0 (.loop (Z3w_L0)))
 (.seq (.region [Lw 14 3,
 Lw 2 14] [2])
 (.ret))))
def Z3w:Fn:=
 { nparams:=1,nblk:=1,results:=[.tmp 2],body:=Z3w_B }
def Z43_B:Cd:=
 .seq (.region [Ll 6 (.mv (.c (.bool false)))] [0,1,2])
 (.seq (.region [Lw 7 0,
 Lw 8 1,
 Ll 9 (.bin .geq (.t 7) (.t 8)),
 Lw 10 9,
 Lx 11 0 10 true,
 Lx 12 2 10 true,
 Lg 13 (.bin .leq (.t 11) (.t 12)) 10 true,
 Ll 14 (.pick (.t 10) (.t 13) (.c (.bool false))),
 Lw 6 14] [6])
 (.ret))
def Z43:Fn:=
 { nparams:=3,nblk:=0,results:=[.tmp 6],body:=Z43_B }
def Z4e_B:Cd:=
 .seq (.region [Ll 2 (.mv (.c (.bool false)))] [0])
 (.seq (.region [Lw 3 0,
 Ll 4 (.bin .eql (.t 3) (Acx 2)),
 Lw 5 4,
 Lx 6 0 5 false,
 Lg 7 (.bin .eql (.t 6) (Acx 3)) 5 false,
 Ll 8 (.pick (.t 5) (.c (.bool true)) (.t 7)),
 Lw 9 8,
 Lx 10 0 9 false,
 Lg 11 (.bin .eql (.t 10) (Acx 5)) 9 false,
 Ll 12 (.pick (.t 9) (.c (.bool true)) (.t 11)),
 Lw 13 12,
 Lx 14 0 13 false,
 Lg 15 (.bin .eql (.t 14) (Acx 7)) 13 false,
 Ll 16 (.pick (.t 13) (.c (.bool true)) (.t 15)),
 Lw 2 16] [2])
 (.ret))
def Z4e:Fn:=
 { nparams:=1,nblk:=0,results:=[.tmp 2],body:=Z4e_B }
def Z46_L0:Cd:=
 .seq (.seq (.region [Lw 6 5,
 Ll 7 (.bin .lss (.t 6) (Acx 64))] [0,3,5,7])
 (.cond (.t 7)
 (.skip)
 (.exit 0)))
 (.seq (.block 1 (.seq (.region [Lw 10 5,
 Ll 11 (.idxA (some 64) .leaf (.t 3) (.t 10)),
 Ilx 12 11,
 Ll 13 (.conv .i64 (.t 12)),
 Lw 14 0,
 Ll 15 (.bin .geq (.t 13) (.t 14))] [0,3,5,15])
 (.cond (.t 15)
 (.seq (.region [Ll 4 (.mv (.c (.bool false)))] [4])
 (.ret))
 (.skip))))
 (.region [Lw 8 5,
 Ll 9 (.bin .add (.t 8) (Acx 1)),
 Lw 5 9] [0,3,5]))
def Z46_B:Cd:=
 .seq (.region [Ll 3 (.box false 0 (.t 1)),
 Ll 4 (.mv (.c (.bool false)))] [0,3])
 (.seq (.seq (.region [Ll 5 (.mv (Acx 0))] [0,3,5])
 (.block 0 (.loop (Z46_L0))))
 (.seq (.region [Lw 16 0,
 Ll 17 (Ofx F4e [(.t 16)]),
 Lw 4 17] [4])
 (.ret)))
def Z46:Fn:=
 { nparams:=2,nblk:=1,results:=[.tmp 4],body:=Z46_B }
def Z48_B:Cd:=
 .seq (.region [Ll 1 (.box false 0 (.t 0)),
 Ll 2 (.mv (.c (.bool false)))] [1])
 (.seq (.region [Ipx 4 1,
 Ll 5 (Ofx F3w [(.t 4)]),
 Lw 3 5] [1,3])
 (.seq (.region [Lw 6 3,
 Ll 7 (.bin .geq (.t 6) (Acx 0)),
 Lw 8 7,
 Lx 9 3 8 true,
 Lg 10 (.idxA (some 64) .leaf (.t 1) (.t 9)) 8 true,
 Lg 11 (.load .leaf (.t 10)) 8 true,
 Lg 12 (.bin .eql (.t 11) (.c (.int .u8 1))) 8 true,
 Ll 13 (.pick (.t 8) (.t 12) (.c (.bool false))),
 Lw 2 13] [2])
 (.ret)))
def Z48:Fn:=
 { nparams:=1,nblk:=1,results:=[.tmp 2],body:=Z48_B }
def Z44_L0:Cd:=
 .seq (.seq (.region [Lw 6 5,
 Lw 7 0,
 Ll 8 (.bin .lss (.t 6) (.t 7))] [0,1,5,8])
 (.cond (.t 8)
 (.skip)
 (.exit 0)))
 (.seq (.block 1 (.seq (.region [Lw 11 5,
 Lw 12 1,
 Ll 13 (.conv .i64 (.t 12)),
 Ll 14 (.bin .mul (.t 11) (.t 13)),
 Lw 15 0,
 Ll 16 (.bin .rem (.t 14) (.t 15)),
 Ll 17 (.bin .eql (.t 16) (Acx 1))] [0,1,5,17])
 (.cond (.t 17)
 (.seq (.region [Lw 18 5,
 Ll 19 (.conv .u8 (.t 18)),
 Lw 4 19] [4])
 (.ret))
 (.skip))))
 (.region [Lw 9 5,
 Ll 10 (.bin .add (.t 9) (Acx 1)),
 Lw 5 10] [0,1,5]))
def Z44_B:Cd:=
 .seq (.region [Ll 4 (.mv (.c (.int .u8 0)))] [0,1])
 (.seq (.seq (.region [Ll 5 (.mv (Acx 1))] [0,1,5])
 (.block 0 (.loop (Z44_L0))))
 (.seq (.region [Ll 4 (.mv (.c (.int .u8 0)))] [4])
 (.ret)))
def Z44:Fn:=
 { nparams:=2,nblk:=0,results:=[.tmp 4],body:=Z44_B }
def Z3x_L0:Cd:=
 .seq (.seq (.region [Lw 44 13,
 Lw 45 9,
 Ll 46 (.bin .leq (.t 44) (.t 45)),
 Lw 47 46,
 Lx 48 12 47 true,
 Lg 49 (.bin .neq (.t 48) (Acx 0)) 47 true,
 Ll 50 (.pick (.t 47) (.t 49) (.c (.bool false)))] [0,4,5,6,7,8,9,10,11,12,13,50])
 (.cond (.t 50)
 (.skip)
 (.exit 2)))
 (.seq (.block 3 (.region [Lw 53 11,
 Lw 54 9,
 Ll 55 (.bin .sub (.t 53) (.t 54)),
 Lw 56 13,
 Ll 57 (.bin .add (.t 55) (.t 56)),
 Lw 58 11,
 Lw 59 9,
 Ll 60 (.bin .sub (.t 58) (.t 59)),
 Lw 61 13,
 Ll 62 (.bin .add (.t 60) (.t 61)),
 Ll 63 (.idxA (some 64) .leaf (.t 4) (.t 62)),
 Ilx 64 63,
 Ll 65 (.conv .i64 (.t 64)),
 Lw 66 12,
 Lw 67 13,
 Ll 68 (.idxA (some 64) .leaf (.t 5) (.t 67)),
 Ilx 69 68,
 Ll 70 (.conv .i64 (.t 69)),
 Ll 71 (.bin .mul (.t 66) (.t 70)),
 Ll 72 (.bin .sub (.t 65) (.t 71)),
 Lw 73 0,
 Ll 74 (.bin .rem (.t 72) (.t 73)),
 Lw 75 0,
 Ll 76 (.bin .add (.t 74) (.t 75)),
 Lw 77 0,
 Ll 78 (.bin .rem (.t 76) (.t 77)),
 Ll 79 (.conv .u8 (.t 78)),
 Ll 80 (.idxA (some 64) .leaf (.t 4) (.t 57)),
 Ls (.store false .leaf (.t 80) (.t 79))] [0,4,5,6,7,8,9,10,11,12,13]))
 (.region [Lw 51 13,
 Ll 52 (.bin .add (.t 51) (Acx 1)),
 Lw 13 52] [0,4,5,6,7,8,9,10,11,12,13]))
def Z3x_L1:Cd:=
 .seq (.seq (.region [Lw 25 11,
 Lw 26 9,
 Ll 27 (.bin .geq (.t 25) (.t 26))] [0,4,5,6,7,8,9,10,11,27])
 (.cond (.t 27)
 (.skip)
 (.exit 0)))
 (.seq (.block 1 (.seq (.region [Lw 30 11,
 Ll 31 (.idxA (some 64) .leaf (.t 4) (.t 30)),
 Ilx 32 31,
 Ll 33 (.conv .i64 (.t 32)),
 Lw 34 10,
 Ll 35 (.bin .mul (.t 33) (.t 34)),
 Lw 36 0,
 Ll 37 (.bin .rem (.t 35) (.t 36)),
 Lw 12 37] [0,4,5,6,7,8,9,10,11,12])
 (.seq (.region [Lw 38 11,
 Lw 39 9,
 Ll 40 (.bin .sub (.t 38) (.t 39)),
 Lw 41 12,
 Ll 42 (.conv .u8 (.t 41)),
 Ll 43 (.idxA (some 64) .leaf (.t 8) (.t 40)),
 Ls (.store false .leaf (.t 43) (.t 42))] [0,4,5,6,7,8,9,10,11,12])
 (.seq (.region [Ll 13 (.mv (Acx 0))] [0,4,5,6,7,8,9,10,11,12,13])
 (.block 2 (.loop (Z3x_L0)))))))
 (.region [Lw 28 11,
 Ll 29 (.bin .sub (.t 28) (Acx 1)),
 Lw 11 29] [0,4,5,6,7,8,9,10,11]))
def Z3x_B:Cd:=
 .seq (.region [Ll 4 (.box false 0 (.t 1)),
 Ll 5 (.box false 1 (.t 2)),
 Ll 6 (.box false 2 (.c (.arr 64 .leaf z64))),
 Ll 7 (.box false 3 (.c (.arr 64 .leaf z64)))] [0,4,5,6,7])
 (.seq (.region [Ll 14 (.build false (.arr 64 .leaf z64) []),
 Ipx 15 5,
 Ll 16 (Ofx F3w [(.t 15)]),
 Ll 8 (.box false 4 (.c (.arr 64 .leaf z64))),
 Ls (.store false Sx6 (.t 8) (.t 14)),
 Lw 9 16] [0,4,5,6,7,8,9])
 (.seq (.region [Lw 17 0,
 Lw 18 9,
 Ll 19 (.idxA (some 64) .leaf (.t 5) (.t 18)),
 Ilx 20 19,
 Ll 21 (Ofx F44 [(.t 17),(.t 20)]),
 Ll 22 (.conv .i64 (.t 21)),
 Lw 10 22] [0,4,5,6,7,8,9,10])
 (.seq (.seq (.region [Ipx 23 4,
 Ll 24 (Ofx F3w [(.t 23)]),
 Lw 11 24] [0,4,5,6,7,8,9,10,11])
 (.block 0 (.loop (Z3x_L1))))
 (.seq (.region [Ipx 81 8,
 Ipx 82 4,
 ⟨none,.store false Sx6 (.t 6) (.t 81),none,[4]⟩,
 Ls (.store false Sx6 (.t 7) (.t 82))] [6,7])
 (.ret)))))
def Z3x:Fn:=
 { nparams:=3,nblk:=5,results:=[.cell 6 Sx6,.cell 7 Sx6],body:=Z3x_B }
def Z47_B:Cd:=
 .seq (.region [Ll 4 (.box false 0 (.t 1)),
 Ll 5 (.box false 1 (.t 2)),
 Ll 6 (.box false 2 (.c (.arr 64 .leaf z64)))] [0,4,5,6])
 (.seq (.region [Lw 10 0,
 Ipx 11 4,
 Ipx 12 5,
 Ll 13 (Ofx F3x [(.t 10),(.t 11),(.t 12)]),
 Lw 9 13,
 Iex 14 9 0,
 Iex 15 9 1,
 Ll 7 (.box false 3 (.c (.arr 64 .leaf z64))),
 Ll 8 (.box false 4 (.c (.arr 64 .leaf z64))),
 Ls (.store false Sx6 (.t 7) (.t 14)),
 Ls (.store false Sx6 (.t 8) (.t 15))] [6,8])
 (.seq (.region [Ipx 16 8,
 Ls (.store false Sx6 (.t 6) (.t 16))] [6])
 (.ret)))
def Z47:Fn:=
 { nparams:=3,nblk:=5,results:=[.cell 6 Sx6],body:=Z47_B }
def Z4b_B:Cd:=
 .seq (.region [Ll 0 (.box false 0 (.c (.arr 64 .leaf z64)))] [0])
 (.seq (.region [Ll 1 (.build false (.arr 64 .leaf z64) [(0,(.c (.int .u8 1)))]),
 Ls (.store false Sx6 (.t 0) (.t 1))] [0])
 (.ret))
def Z4b:Fn:=
 { nparams:=0,nblk:=1,results:=[.cell 0 Sx6],body:=Z4b_B }
def Z3t_L0:Cd:=
 .seq (.seq (.region [Lw 10 9,
 Ll 11 (.bin .lss (.t 10) (Acx 64))] [0,3,5,6,8,9,11])
 (.cond (.t 11)
 (.skip)
 (.exit 0)))
 (.seq (.block 1 (.region [Lw 14 9,
 Lw 15 9,
 Ll 16 (.idxA (some 64) .leaf (.t 5) (.t 15)),
 Ilx 17 16,
 Ll 18 (.conv .i64 (.t 17)),
 Lw 19 3,
 Lw 20 9,
 Ll 21 (.idxA (some 64) .leaf (.t 6) (.t 20)),
 Ilx 22 21,
 Ll 23 (.conv .i64 (.t 22)),
 Ll 24 (.bin .mul (.t 19) (.t 23)),
 Ll 25 (.bin .add (.t 18) (.t 24)),
 Lw 26 0,
 Ll 27 (.bin .rem (.t 25) (.t 26)),
 Lw 28 0,
 Ll 29 (.bin .add (.t 27) (.t 28)),
 Lw 30 0,
 Ll 31 (.bin .rem (.t 29) (.t 30)),
 Ll 32 (.conv .u8 (.t 31)),
 Ll 33 (.idxA (some 64) .leaf (.t 5) (.t 14)),
 Ls (.store false .leaf (.t 33) (.t 32))] [0,3,5,6,8,9]))
 (.region [Lw 12 9,
 Ll 13 (.bin .add (.t 12) (Acx 1)),
 Lw 9 13] [0,3,5,6,8,9]))
def Z3t_B:Cd:=
 .seq (.region [Ll 5 (.box false 0 (.t 1)),
 Ll 6 (.box false 1 (.t 2)),
 Ll 8 (.box false 2 (.c (.arr 64 .leaf z64)))] [0,3,5,6,8])
 (.seq (.seq (.region [Ll 9 (.mv (Acx 0))] [0,3,5,6,8,9])
 (.block 0 (.loop (Z3t_L0))))
 (.seq (.region [Ipx 34 5,
 Ls (.store false Sx6 (.t 8) (.t 34))] [8])
 (.ret)))
def Z3t:Fn:=
 { nparams:=4,nblk:=3,results:=[.cell 8 Sx6],body:=Z3t_B }
def Z4h_L0:Cd:=
 .seq (.seq (.region [Lw 24 10,
 Lw 25 7,
 Ll 26 (.bin .lss (.t 24) (.t 25))] [0,4,5,6,7,8,9,10,26])
 (.cond (.t 26)
 (.skip)
 (.exit 0)))
 (.seq (.block 1 (.region [Lw 29 10,
 Lw 30 10,
 Ll 31 (.bin .sub (.t 30) (Acx 1)),
 Ll 32 (.idxA (some 64) .leaf (.t 4) (.t 31)),
 Ilx 33 32,
 Ll 34 (.idxA (some 64) .leaf (.t 9) (.t 29)),
 Ls (.store false .leaf (.t 34) (.t 33))] [0,4,5,6,7,8,9,10]))
 (.region [Lw 27 10,
 Ll 28 (.bin .add (.t 27) (Acx 1)),
 Lw 10 28] [0,4,5,6,7,8,9,10]))
def Z4h_L1:Cd:=
 .seq (.seq (.region [Lw 45 12,
 Lw 46 7,
 Ll 47 (.bin .lss (.t 45) (.t 46))] [0,5,6,7,9,11,12,47])
 (.cond (.t 47)
 (.skip)
 (.exit 2)))
 (.seq (.block 3 (.region [Lw 50 12,
 Lw 51 12,
 Ll 52 (.idxA (some 64) .leaf (.t 9) (.t 51)),
 Ilx 53 52,
 Ll 54 (.conv .i64 (.t 53)),
 Lw 55 11,
 Lw 56 12,
 Ll 57 (.idxA (some 64) .leaf (.t 5) (.t 56)),
 Ilx 58 57,
 Ll 59 (.conv .i64 (.t 58)),
 Ll 60 (.bin .mul (.t 55) (.t 59)),
 Ll 61 (.bin .sub (.t 54) (.t 60)),
 Lw 62 0,
 Ll 63 (.bin .rem (.t 61) (.t 62)),
 Lw 64 0,
 Ll 65 (.bin .add (.t 63) (.t 64)),
 Lw 66 0,
 Ll 67 (.bin .rem (.t 65) (.t 66)),
 Ll 68 (.conv .u8 (.t 67)),
 Ll 69 (.idxA (some 64) .leaf (.t 9) (.t 50)),
 Ls (.store false .leaf (.t 69) (.t 68))] [0,5,6,7,9,11,12]))
 (.region [Lw 48 12,
 Ll 49 (.bin .add (.t 48) (Acx 1)),
 Lw 12 49] [0,5,6,7,9,11,12]))
def Z4h_B:Cd:=
 .seq (.region [Ll 4 (.box false 0 (.t 1)),
 Ll 5 (.box false 1 (.t 2)),
 Ll 6 (.box false 2 (.c (.arr 64 .leaf z64)))] [0,4,5,6])
 (.seq (.region [Ipx 13 5,
 Ll 14 (Ofx F3w [(.t 13)]),
 Lw 7 14] [0,4,5,6,7])
 (.seq (.seq (.region [Lw 15 7,
 Ll 16 (.bin .eql (.t 15) (Acx 0))] [0,4,5,6,7,16])
 (.cond (.t 16)
 (.seq (.region [Ll 17 (.build false (.arr 64 .leaf z64) []),
 Ls (.store false Sx6 (.t 6) (.t 17))] [6])
 (.ret))
 (.skip)))
 (.seq (.region [Lw 18 7,
 Ll 19 (.bin .sub (.t 18) (Acx 1)),
 Ll 20 (.idxA (some 64) .leaf (.t 4) (.t 19)),
 Ilx 21 20,
 Ll 22 (.conv .i64 (.t 21)),
 Ll 23 (.build false (.arr 64 .leaf z64) []),
 Ll 9 (.box false 3 (.c (.arr 64 .leaf z64))),
 Lw 8 22,
 Ls (.store false Sx6 (.t 9) (.t 23))] [0,4,5,6,7,8,9])
 (.seq (.seq (.region [Ll 10 (.mv (Acx 1))] [0,4,5,6,7,8,9,10])
 (.block 0 (.loop (Z4h_L0))))
 (.seq (.region [Lw 35 8,
 Lw 36 0,
 Lw 37 7,
 Ll 38 (.idxA (some 64) .leaf (.t 5) (.t 37)),
 Ilx 39 38,
 Ll 40 (Ofx F44 [(.t 36),(.t 39)]),
 Ll 41 (.conv .i64 (.t 40)),
 Ll 42 (.bin .mul (.t 35) (.t 41)),
 Lw 43 0,
 Ll 44 (.bin .rem (.t 42) (.t 43)),
 Lw 11 44] [0,5,6,7,9,11])
 (.seq (.seq (.region [Ll 12 (.mv (Acx 0))] [0,5,6,7,9,11,12])
 (.block 2 (.loop (Z4h_L1))))
 (.seq (.region [Ipx 70 9,
 Ls (.store false Sx6 (.t 6) (.t 70))] [6])
 (.ret))))))))
def Z4h:Fn:=
 { nparams:=3,nblk:=4,results:=[.cell 6 Sx6],body:=Z4h_B }
def Z49_L0:Cd:=
 .seq (.seq (.region [Lw 14 10,
 Ll 15 (.bin .geq (.t 14) (Acx 0))] [0,5,6,7,8,9,10,15])
 (.cond (.t 15)
 (.skip)
 (.exit 0)))
 (.seq (.block 1 (.seq (.region [Lw 18 0,
 Ipx 19 9,
 Ipx 20 7,
 Ll 21 (Ofx F4h [(.t 18),(.t 19),(.t 20)]),
 Ls (.store false Sx6 (.t 9) (.t 21))] [0,5,6,7,8,9,10])
 (.region [Lw 22 0,
 Lw 23 0,
 Ipx 24 9,
 Ipx 25 5,
 Lw 26 10,
 Ll 27 (.idxA (some 64) .leaf (.t 6) (.t 26)),
 Ilx 28 27,
 Ll 29 (.conv .i64 (.t 28)),
 Ll 30 (Ofx F3t [(.t 23),(.t 24),(.t 25),(.t 29)]),
 Ipx 31 7,
 Ll 32 (Ofx F47 [(.t 22),(.t 30),(.t 31)]),
 Ls (.store false Sx6 (.t 9) (.t 32))] [0,5,6,7,8,9,10])))
 (.region [Lw 16 10,
 Ll 17 (.bin .sub (.t 16) (Acx 1)),
 Lw 10 17] [0,5,6,7,8,9,10]))
def Z49_B:Cd:=
 .seq (.region [Ll 5 (.box false 0 (.t 1)),
 Ll 6 (.box false 1 (.t 2)),
 Ll 7 (.box false 2 (.t 3)),
 Ll 8 (.box false 3 (.c (.arr 64 .leaf z64)))] [0,5,6,7,8])
 (.seq (.region [Ll 11 (.build false (.arr 64 .leaf z64) []),
 Ll 9 (.box false 4 (.c (.arr 64 .leaf z64))),
 Ls (.store false Sx6 (.t 9) (.t 11))] [0,5,6,7,8,9])
 (.seq (.seq (.region [Ipx 12 6,
 Ll 13 (Ofx F3w [(.t 12)]),
 Lw 10 13] [0,5,6,7,8,9,10])
 (.block 0 (.loop (Z49_L0))))
 (.seq (.region [Ipx 33 9,
 Ls (.store false Sx6 (.t 8) (.t 33))] [8])
 (.ret))))
def Z49:Fn:=
 { nparams:=4,nblk:=5,results:=[.cell 8 Sx6],body:=Z49_B }
def Z4d_L0:Cd:=
 .seq (.seq (.region [Lw 19 2,
 Ll 20 (.bin .gtr (.t 19) (Acx 0))] [0,2,7,8,9,10,20])
 (.cond (.t 20)
 (.skip)
 (.exit 0)))
 (.seq (.block 1 (.seq (.seq (.region [Lw 23 2,
 Ll 24 (.bin .rem (.t 23) (Acx 2)),
 Ll 25 (.bin .eql (.t 24) (Acx 1))] [0,2,7,8,9,10,25])
 (.cond (.t 25)
 (.region [Lw 26 0,
 Ipx 27 9,
 Ipx 28 10,
 Ipx 29 7,
 Ll 30 (Ofx F49 [(.t 26),(.t 27),(.t 28),(.t 29)]),
 Ls (.store false Sx6 (.t 9) (.t 30))] [0,2,7,8,9,10])
 (.skip)))
 (.region [Lw 31 0,
 Ipx 32 10,
 Ipx 33 10,
 Ipx 34 7,
 Ll 35 (Ofx F49 [(.t 31),(.t 32),(.t 33),(.t 34)]),
 Ls (.store false Sx6 (.t 10) (.t 35))] [0,2,7,8,9,10])))
 (.region [Lw 21 2,
 Ll 22 (.bin .quo (.t 21) (Acx 2)),
 Lw 2 22] [0,2,7,8,9,10]))
def Z4d_B:Cd:=
 .seq (.region [Ll 5 (.box false 0 (.t 1)),
 Ll 7 (.box false 1 (.t 3)),
 Ll 8 (.box false 2 (.c (.arr 64 .leaf z64)))] [0,2,5,7,8])
 (.seq (.region [Lw 11 0,
 Ll 12 (Ofx F4b []),
 Ipx 13 7,
 Ll 14 (Ofx F47 [(.t 11),(.t 12),(.t 13)]),
 Lw 15 0,
 Ipx 16 5,
 Ipx 17 7,
 Ll 18 (Ofx F47 [(.t 15),(.t 16),(.t 17)]),
 Ll 9 (.box false 3 (.c (.arr 64 .leaf z64))),
 Ll 10 (.box false 4 (.c (.arr 64 .leaf z64))),
 Ls (.store false Sx6 (.t 9) (.t 14)),
 Ls (.store false Sx6 (.t 10) (.t 18))] [0,2,7,8,9,10])
 (.seq (.block 0 (.loop (Z4d_L0)))
 (.seq (.region [Ipx 36 9,
 Ls (.store false Sx6 (.t 8) (.t 36))] [8])
 (.ret))))
def Z4d:Fn:=
 { nparams:=4,nblk:=5,results:=[.cell 8 Sx6],body:=Z4d_B }
def Z4g_L0:Cd:=
 .seq (.seq (.region [Lw 35 12,
 Lw 36 9,
 Ll 37 (.bin .leq (.t 35) (.t 36)),
 Lw 38 37,
 Lx 39 11 38 true,
 Lg 40 (.idxA (some 64) .leaf (.t 4) (.t 39)) 38 true,
 Lg 41 (.load .leaf (.t 40)) 38 true,
 Lg 42 (.bin .neq (.t 41) (.c (.int .u8 0))) 38 true,
 Ll 43 (.pick (.t 38) (.t 42) (.c (.bool false)))] [0,4,5,6,8,9,10,11,12,43])
 (.cond (.t 43)
 (.skip)
 (.exit 2)))
 (.seq (.block 3 (.region [Lw 46 11,
 Lw 47 12,
 Ll 48 (.bin .add (.t 46) (.t 47)),
 Lw 49 11,
 Lw 50 12,
 Ll 51 (.bin .add (.t 49) (.t 50)),
 Ll 52 (.idxA (some 64) .leaf (.t 10) (.t 51)),
 Ilx 53 52,
 Ll 54 (.conv .i64 (.t 53)),
 Lw 55 11,
 Ll 56 (.idxA (some 64) .leaf (.t 4) (.t 55)),
 Ilx 57 56,
 Ll 58 (.conv .i64 (.t 57)),
 Lw 59 12,
 Ll 60 (.idxA (some 64) .leaf (.t 5) (.t 59)),
 Ilx 61 60,
 Ll 62 (.conv .i64 (.t 61)),
 Ll 63 (.bin .mul (.t 58) (.t 62)),
 Ll 64 (.bin .add (.t 54) (.t 63)),
 Lw 65 0,
 Ll 66 (.bin .rem (.t 64) (.t 65)),
 Ll 67 (.conv .u8 (.t 66)),
 Ll 68 (.idxA (some 64) .leaf (.t 10) (.t 48)),
 Ls (.store false .leaf (.t 68) (.t 67))] [0,4,5,6,8,9,10,11,12]))
 (.region [Lw 44 12,
 Ll 45 (.bin .add (.t 44) (Acx 1)),
 Lw 12 45] [0,4,5,6,8,9,10,11,12]))
def Z4g_L1:Cd:=
 .seq (.seq (.region [Lw 30 11,
 Lw 31 8,
 Ll 32 (.bin .leq (.t 30) (.t 31))] [0,4,5,6,8,9,10,11,32])
 (.cond (.t 32)
 (.skip)
 (.exit 0)))
 (.seq (.block 1 (.seq (.region [Ll 12 (.mv (Acx 0))] [0,4,5,6,8,9,10,11,12])
 (.block 2 (.loop (Z4g_L0)))))
 (.region [Lw 33 11,
 Ll 34 (.bin .add (.t 33) (Acx 1)),
 Lw 11 34] [0,4,5,6,8,9,10,11]))
def Z4g_B:Cd:=
 .seq (.region [Ll 4 (.box false 0 (.t 1)),
 Ll 5 (.box false 1 (.t 2)),
 Ll 6 (.box false 2 (.c (.arr 64 .leaf z64))),
 Ll 7 (.mv (.c (.bool false)))] [0,4,5,6])
 (.seq (.region [Ipx 13 4,
 Ll 14 (Ofx F3w [(.t 13)]),
 Ipx 15 5,
 Ll 16 (Ofx F3w [(.t 15)]),
 Ll 17 (.build false (.arr 64 .leaf z64) []),
 Ll 10 (.box false 3 (.c (.arr 64 .leaf z64))),
 Lw 8 14,
 Lw 9 16,
 Ls (.store false Sx6 (.t 10) (.t 17))] [0,4,5,6,8,9,10])
 (.seq (.seq (.region [Lw 18 8,
 Ll 19 (.bin .lss (.t 18) (Acx 0)),
 Lw 20 19,
 Lx 21 9 20 false,
 Lg 22 (.bin .lss (.t 21) (Acx 0)) 20 false,
 Ll 23 (.pick (.t 20) (.c (.bool true)) (.t 22))] [0,4,5,6,8,9,10,23])
 (.cond (.t 23)
 (.seq (.region [Ipx 24 10,
 Ls (.store false Sx6 (.t 6) (.t 24)),
 Ll 7 (.mv (.c (.bool true)))] [6,7])
 (.ret))
 (.skip)))
 (.seq (.seq (.region [Lw 25 8,
 Lw 26 9,
 Ll 27 (.bin .add (.t 25) (.t 26)),
 Ll 28 (.bin .gtr (.t 27) (Acx 63))] [0,4,5,6,8,9,10,28])
 (.cond (.t 28)
 (.seq (.region [Ipx 29 10,
 Ls (.store false Sx6 (.t 6) (.t 29)),
 Ll 7 (.mv (.c (.bool false)))] [6,7])
 (.ret))
 (.skip)))
 (.seq (.seq (.region [Ll 11 (.mv (Acx 0))] [0,4,5,6,8,9,10,11])
 (.block 0 (.loop (Z4g_L1))))
 (.seq (.region [Ipx 69 10,
 Ls (.store false Sx6 (.t 6) (.t 69)),
 Ll 7 (.mv (.c (.bool true)))] [6,7])
 (.ret))))))
def Z4g:Fn:=
 { nparams:=3,nblk:=4,results:=[.cell 6 Sx6,.tmp 7],body:=Z4g_B }
def Z3v_L0:Cd:=
 .seq (.seq (.region [Ipx 26 5,
 Ll 27 (Ofx F3w [(.t 26)]),
 Ll 28 (.bin .geq (.t 27) (Acx 0))] [0,4,5,6,7,8,9,10,11,12,28])
 (.cond (.t 28)
 (.skip)
 (.exit 0)))
 (.block 1 (.seq (.region [Lw 30 0,
 Ipx 31 4,
 Ipx 32 5,
 Ll 33 (Ofx F3x [(.t 30),(.t 31),(.t 32)]),
 Lw 29 33,
 Iex 34 29 0,
 Iex 35 29 1,
 Ll 13 (.box false 9 (.c (.arr 64 .leaf z64))),
 Ll 14 (.box false 10 (.c (.arr 64 .leaf z64))),
 Ls (.store false Sx6 (.t 13) (.t 34)),
 Ls (.store false Sx6 (.t 14) (.t 35))] [0,4,5,6,7,8,9,10,11,12,13,14])
 (.seq (.region [Lw 37 0,
 Ipx 38 13,
 Ipx 39 10,
 Ll 40 (Ofx F4g [(.t 37),(.t 38),(.t 39)]),
 Lw 36 40,
 Iex 41 36 0,
 Iex 42 36 1,
 Ll 15 (.box false 11 (.c (.arr 64 .leaf z64))),
 Ls (.store false Sx6 (.t 15) (.t 41)),
 Lw 16 42] [0,4,5,6,7,8,9,10,11,12,13,14,15])
 (.seq (.region [Lw 44 0,
 Ipx 45 13,
 Ipx 46 12,
 Ll 47 (Ofx F4g [(.t 44),(.t 45),(.t 46)]),
 Lw 43 47,
 Iex 48 43 0,
 Iex 49 43 1,
 Ll 17 (.box false 12 (.c (.arr 64 .leaf z64))),
 Ls (.store false Sx6 (.t 17) (.t 48)),
 Lw 18 49] [0,4,5,6,7,8,9,10,11,12,14,15,17])
 (.seq (.region [Lw 50 0,
 Ipx 51 9,
 Ipx 52 15,
 Ll 53 (Ofx F3t [(.t 50),(.t 51),(.t 52),(Acx (-1))]),
 Lw 54 0,
 Ipx 55 11,
 Ipx 56 17,
 Ll 57 (Ofx F3t [(.t 54),(.t 55),(.t 56),(Acx (-1))]),
 Ll 19 (.box false 13 (.c (.arr 64 .leaf z64))),
 Ll 20 (.box false 14 (.c (.arr 64 .leaf z64))),
 Ls (.store false Sx6 (.t 19) (.t 53)),
 Ls (.store false Sx6 (.t 20) (.t 57))] [0,4,5,6,7,8,9,10,11,12,14,19,20])
 (.seq (.region [Ipx 58 5,
 Ls (.store false Sx6 (.t 4) (.t 58))] [0,4,5,6,7,8,9,10,11,12,14,19,20])
 (.seq (.region [Ipx 59 14,
 Ls (.store false Sx6 (.t 5) (.t 59))] [0,4,5,6,7,8,9,10,11,12,19,20])
 (.seq (.region [Ipx 60 10,
 Ls (.store false Sx6 (.t 9) (.t 60))] [0,4,5,6,7,8,9,10,11,12,19,20])
 (.seq (.region [Ipx 61 12,
 Ls (.store false Sx6 (.t 11) (.t 61))] [0,4,5,6,7,8,9,10,11,12,19,20])
 (.seq (.region [Ipx 62 19,
 Ls (.store false Sx6 (.t 10) (.t 62))] [0,4,5,6,7,8,9,10,11,12,20])
 (.region [Ipx 63 20,
 Ls (.store false Sx6 (.t 12) (.t 63))] [0,4,5,6,7,8,9,10,11,12])))))))))))
def Z3v_B:Cd:=
 .seq (.region [Ll 4 (.box false 0 (.t 1)),
 Ll 5 (.box false 1 (.t 2)),
 Ll 6 (.box false 2 (.c (.arr 64 .leaf z64))),
 Ll 7 (.box false 3 (.c (.arr 64 .leaf z64))),
 Ll 8 (.box false 4 (.c (.arr 64 .leaf z64)))] [0,4,5,6,7,8])
 (.seq (.region [Ll 22 (Ofx F4b []),
 Ll 23 (.build false (.arr 64 .leaf z64) []),
 Ll 24 (.build false (.arr 64 .leaf z64) []),
 Ll 25 (Ofx F4b []),
 Ll 9 (.box false 5 (.c (.arr 64 .leaf z64))),
 Ll 10 (.box false 6 (.c (.arr 64 .leaf z64))),
 Ll 11 (.box false 7 (.c (.arr 64 .leaf z64))),
 Ll 12 (.box false 8 (.c (.arr 64 .leaf z64))),
 Ls (.store false Sx6 (.t 9) (.t 22)),
 Ls (.store false Sx6 (.t 10) (.t 23)),
 Ls (.store false Sx6 (.t 11) (.t 24)),
 Ls (.store false Sx6 (.t 12) (.t 25))] [0,4,5,6,7,8,9,10,11,12])
 (.seq (.block 0 (.loop (Z3v_L0)))
 (.seq (.region [Lw 64 0,
 Ipx 65 4,
 Ll 66 (Ofx F3w [(.t 65)]),
 Ll 67 (.idxA (some 64) .leaf (.t 4) (.t 66)),
 Ilx 68 67,
 Ll 69 (Ofx F44 [(.t 64),(.t 68)]),
 Ll 70 (.conv .i64 (.t 69)),
 Lw 21 70] [0,4,6,7,8,9,11,21])
 (.seq (.region [Lw 71 0,
 Ll 72 (.build false (.arr 64 .leaf z64) []),
 Ipx 73 4,
 Lw 74 21,
 Ll 75 (Ofx F3t [(.t 71),(.t 72),(.t 73),(.t 74)]),
 Lw 76 0,
 Ll 77 (.build false (.arr 64 .leaf z64) []),
 Ipx 78 9,
 Lw 79 21,
 Ll 80 (Ofx F3t [(.t 76),(.t 77),(.t 78),(.t 79)]),
 Lw 81 0,
 Ll 82 (.build false (.arr 64 .leaf z64) []),
 Ipx 83 11,
 Lw 84 21,
 Ll 85 (Ofx F3t [(.t 81),(.t 82),(.t 83),(.t 84)]),
 Ls (.store false Sx6 (.t 6) (.t 75)),
 Ls (.store false Sx6 (.t 7) (.t 80)),
 Ls (.store false Sx6 (.t 8) (.t 85))] [6,7,8])
 (.ret)))))
def Z3v:Fn:=
 { nparams:=3,nblk:=15,results:=[.cell 6 Sx6,.cell 7 Sx6,.cell 8 Sx6],body:=Z3v_B }
def Z42_B:Cd:=
 .seq (.region [Ll 4 (.box false 0 (.t 1)),
 Ll 5 (.box false 1 (.t 2)),
 Ll 6 (.box false 2 (.c (.arr 64 .leaf z64)))] [0,4,5,6])
 (.seq (.seq (.region [Ipx 10 4,
 Ll 11 (Ofx F3w [(.t 10)]),
 Ll 12 (.bin .lss (.t 11) (Acx 0)),
 Lw 13 12,
 Lg 14 (.load Sx6 (.t 5)) 13 true,
 Lg 15 (Ofx F3w [(.t 14)]) 13 true,
 Lg 16 (.bin .lss (.t 15) (Acx 0)) 13 true,
 Ll 17 (.pick (.t 13) (.t 16) (.c (.bool false)))] [0,4,5,6,17])
 (.cond (.t 17)
 (.seq (.region [Ll 18 (.build false (.arr 64 .leaf z64) []),
 Ls (.store false Sx6 (.t 6) (.t 18))] [6])
 (.ret))
 (.skip)))
 (.seq (.region [Lw 20 0,
 Ipx 21 4,
 Ipx 22 5,
 Ll 23 (Ofx F3v [(.t 20),(.t 21),(.t 22)]),
 Lw 19 23,
 Iex 24 19 0,
 Iex 25 19 1,
 Iex 26 19 2,
 Ll 7 (.box false 3 (.c (.arr 64 .leaf z64))),
 Ll 8 (.box false 4 (.c (.arr 64 .leaf z64))),
 Ll 9 (.box false 5 (.c (.arr 64 .leaf z64))),
 Ls (.store false Sx6 (.t 7) (.t 24)),
 Ls (.store false Sx6 (.t 8) (.t 25)),
 Ls (.store false Sx6 (.t 9) (.t 26))] [6,7])
 (.seq (.region [Ipx 27 7,
 Ls (.store false Sx6 (.t 6) (.t 27))] [6])
 (.ret))))
def Z42:Fn:=
 { nparams:=3,nblk:=6,results:=[.cell 6 Sx6],body:=Z42_B }
def Z4f_B:Cd:=
 .seq (.region [Ll 0 (.box false 0 (.c (.arr 64 .leaf z64)))] [0])
 (.seq (.region [Ll 1 (.build false (.arr 64 .leaf z64) [(0,(.c (.int .u8 0))),(1,(.c (.int .u8 1)))]),
 Ls (.store false Sx6 (.t 0) (.t 1))] [0])
 (.ret))
def Z4f:Fn:=
 { nparams:=0,nblk:=1,results:=[.cell 0 Sx6],body:=Z4f_B }
def Z45_L0:Cd:=
 .seq (.seq (.region [Lw 16 7,
 Ll 17 (.bin .mul (Acx 2) (.t 16)),
 Lw 18 5,
 Ll 19 (.bin .leq (.t 17) (.t 18))] [0,3,5,6,7,19])
 (.cond (.t 19)
 (.skip)
 (.exit 0)))
 (.seq (.block 1 (.seq (.region [Lw 22 0,
 Ipx 23 6,
 Lw 24 0,
 Ipx 25 3,
 Ll 26 (Ofx F4d [(.t 22),(.t 23),(.t 24),(.t 25)]),
 Ls (.store false Sx6 (.t 6) (.t 26))] [0,3,5,6,7])
 (.seq (.region [Lw 27 0,
 Ipx 28 3,
 Lw 29 0,
 Ipx 30 6,
 Ll 31 (Ofx F4f []),
 Ll 32 (Ofx F3t [(.t 29),(.t 30),(.t 31),(Acx (-1))]),
 Ll 33 (Ofx F42 [(.t 27),(.t 28),(.t 32)]),
 Ll 34 (Ofx F3w [(.t 33)]),
 Ll 35 (.bin .neq (.t 34) (Acx 0))] [0,3,5,6,7,35])
 (.cond (.t 35)
 (.seq (.region [Ll 4 (.mv (.c (.bool false)))] [4])
 (.ret))
 (.skip)))))
 (.region [Lw 20 7,
 Ll 21 (.bin .add (.t 20) (Acx 1)),
 Lw 7 21] [0,3,5,6,7]))
def Z45_B:Cd:=
 .seq (.region [Ll 3 (.box false 0 (.t 1)),
 Ll 4 (.mv (.c (.bool false)))] [0,3])
 (.seq (.region [Ipx 8 3,
 Ll 9 (Ofx F3w [(.t 8)]),
 Lw 10 0,
 Ll 11 (Ofx F4f []),
 Ipx 12 3,
 Ll 13 (Ofx F47 [(.t 10),(.t 11),(.t 12)]),
 Ll 6 (.box false 1 (.c (.arr 64 .leaf z64))),
 Lw 5 9,
 Ls (.store false Sx6 (.t 6) (.t 13))] [0,3,5,6])
 (.seq (.seq (.region [Lw 14 5,
 Ll 15 (.bin .lss (.t 14) (Acx 1))] [0,3,5,6,15])
 (.cond (.t 15)
 (.seq (.region [Ll 4 (.mv (.c (.bool false)))] [4])
 (.ret))
 (.skip)))
 (.seq (.seq (.region [Ll 7 (.mv (Acx 1))] [0,3,5,6,7])
 (.block 0 (.loop (Z45_L0))))
 (.seq (.region [Ll 4 (.mv (.c (.bool true)))] [4])
 (.ret)))))
def Z45:Fn:=
 { nparams:=2,nblk:=2,results:=[.tmp 4],body:=Z45_B }
def Z41_L0:Cd:=
 .seq (.seq (.region [Lw 12 4,
 Lw 13 0,
 Ll 14 (.len false (.t 13)),
 Ll 15 (.bin .lss (.t 12) (.t 14)),
 Lw 16 15,
 Lx 17 4 16 true,
 Lg 18 (.bin .lss (.t 17) (Acx 4096)) 16 true,
 Ll 19 (.pick (.t 16) (.t 18) (.c (.bool false)))] [0,3,4,19])
 (.cond (.t 19)
 (.skip)
 (.exit 0)))
 (.seq (.block 1 (.region [Lw 22 3,
 Lw 23 3,
 Ll 24 (.chk (.t 23)),
 Ll 25 (.fldA [.leaf,.leaf,.leaf] (.t 24) 2),
 Ilx 26 25,
 Ll 27 (.bin .mul (.t 26) (.c (.int .u64 1099511628211))),
 Lw 28 0,
 Lw 29 4,
 Ll 30 (.idxA none .leaf (.t 28) (.t 29)),
 Ilx 31 30,
 Ll 32 (.conv .u64 (.t 31)),
 Ll 33 (.bin .add (.t 27) (.t 32)),
 Ll 34 (.bin .add (.t 33) (.c (.int .u64 61))),
 Ll 35 (.chk (.t 22)),
 Ll 36 (.fldA [.leaf,.leaf,.leaf] (.t 35) 2),
 Ls (.store false .leaf (.t 36) (.t 34))] [0,3,4]))
 (.region [Lw 20 4,
 Ll 21 (.bin .add (.t 20) (Acx 1)),
 Lw 4 21] [0,3,4]))
def Z41_B:Cd:=
 .seq (.region [Ll 2 (.mv (.c .nilp))] [0])
 (.seq (.region [Lw 5 0,
 Lw 6 0,
 Ll 7 (.len false (.t 6)),
 Ll 8 (.conv .u64 (.t 7)),
 Ll 9 (.bin .add (.c (.int .u64 12251)) (.t 8)),
 Ll 10 (.build true (.st [.leaf,.leaf,.leaf] [(.sl .leaf []),(.int .i64 0),(.int .u64 0)]) [(0,(.t 5)),(2,(.t 9))]),
 Ll 11 (.box false 0 (.t 10)),
 Lw 3 11] [0,3])
 (.seq (.seq (.region [Ll 4 (.mv (Acx 0))] [0,3,4])
 (.block 0 (.loop (Z41_L0))))
 (.seq (.region [Lw 37 3,
 Lw 2 37] [2])
 (.ret))))
def Z41:Fn:=
 { nparams:=1,nblk:=1,results:=[.tmp 2],body:=Z41_B }
def Z4a_B:Cd:=
 .seq (.region [Ll 4 (.mv (Acx 0))] [0,1])
 (.seq (.seq (.region [Lw 6 1,
 Ll 7 (.bin .lss (.t 6) (Acx 1))] [0,1,7])
 (.cond (.t 7)
 (.seq (.region [Ll 4 (.mv (Acx 0))] [4])
 (.ret))
 (.skip)))
 (.seq (.region [Lw 8 0,
 Lw 9 0,
 Ll 10 (.chk (.t 9)),
 Ll 11 (.fldA [.leaf,.leaf,.leaf] (.t 10) 2),
 Ilx 12 11,
 Ll 13 (.bin .mul (.t 12) (.c (.int .u64 6364136223846793005))),
 Ll 14 (.bin .add (.t 13) (.c (.int .u64 1442695040888963407))),
 Ll 15 (.chk (.t 8)),
 Ll 16 (.fldA [.leaf,.leaf,.leaf] (.t 15) 2),
 Ls (.store false .leaf (.t 16) (.t 14))] [0,1])
 (.seq (.region [Lw 17 0,
 Ll 18 (.chk (.t 17)),
 Ll 19 (.fldA [.leaf,.leaf,.leaf] (.t 18) 2),
 Ilx 20 19,
 Ll 21 (.bin .shr (.t 20) (.c (.int .u64 33))),
 Ll 22 (.bin .and (.t 21) (.c (.int .u64 16777215))),
 Ll 23 (.conv .i64 (.t 22)),
 Lw 5 23] [0,1,5])
 (.seq (.seq (.region [Lw 24 0,
 Ll 25 (.chk (.t 24)),
 Ll 26 (.fldA [.leaf,.leaf,.leaf] (.t 25) 1),
 Ilx 27 26,
 Lw 28 0,
 Ll 29 (.chk (.t 28)),
 Ll 30 (.fldA [.leaf,.leaf,.leaf] (.t 29) 0),
 Ilx 31 30,
 Ll 32 (.len false (.t 31)),
 Ll 33 (.bin .lss (.t 27) (.t 32))] [0,1,5,33])
 (.cond (.t 33)
 (.seq (.region [Lw 34 5,
 Lw 35 0,
 Ll 36 (.chk (.t 35)),
 Ll 37 (.fldA [.leaf,.leaf,.leaf] (.t 36) 0),
 Ilx 38 37,
 Lw 39 0,
 Ll 40 (.chk (.t 39)),
 Ll 41 (.fldA [.leaf,.leaf,.leaf] (.t 40) 1),
 Ilx 42 41,
 Ll 43 (.idxA none .leaf (.t 38) (.t 42)),
 Ilx 44 43,
 Ll 45 (.conv .i64 (.t 44)),
 Ll 46 (.bin .add (.t 34) (.t 45)),
 Lw 5 46] [0,1,5])
 (.region [Lw 47 0,
 Lw 48 0,
 Ll 49 (.chk (.t 48)),
 Ll 50 (.fldA [.leaf,.leaf,.leaf] (.t 49) 1),
 Ilx 51 50,
 Ll 52 (.bin .add (.t 51) (Acx 1)),
 Ll 53 (.chk (.t 47)),
 Ll 54 (.fldA [.leaf,.leaf,.leaf] (.t 53) 1),
 Ls (.store false .leaf (.t 54) (.t 52))] [1,5]))
 (.skip)))
 (.seq (.region [Lw 55 5,
 Lw 56 1,
 Ll 57 (.bin .rem (.t 55) (.t 56)),
 Lw 4 57] [4])
 (.ret))))))
def Z4a:Fn:=
 { nparams:=2,nblk:=0,results:=[.tmp 4],body:=Z4a_B }
def Z3z_L0:Cd:=
 .seq (.seq (.region [Lw 21 10,
 Lw 22 9,
 Ll 23 (.bin .lss (.t 21) (.t 22))] [0,1,2,6,7,8,9,10,23])
 (.cond (.t 23)
 (.skip)
 (.exit 2)))
 (.seq (.block 3 (.region [Lw 26 10,
 Lw 27 0,
 Lw 28 1,
 Ll 29 (.call .heap [] (.f F4a) [(.t 27),(.t 28)]),
 Ll 30 (.conv .u8 (.t 29)),
 Ll 31 (.idxA (some 64) .leaf (.t 7) (.t 26)),
 Ls (.store false .leaf (.t 31) (.t 30))] [0,1,2,6,7,8,9,10]))
 (.region [Lw 24 10,
 Ll 25 (.bin .add (.t 24) (Acx 1)),
 Lw 10 25] [0,1,2,6,7,8,9,10]))
def Z3z_L1:Cd:=
 .seq (.seq (.region [Lw 12 8,
 Ll 13 (.bin .lss (.t 12) (Acx 4))] [0,1,2,6,7,8,13])
 (.cond (.t 13)
 (.skip)
 (.exit 0)))
 (.seq (.block 1 (.seq (.region [Lw 16 0,
 Lw 17 2,
 Ll 18 (.call .heap [] (.f F4a) [(.t 16),(.t 17)]),
 Ll 19 (.bin .add (Acx 1) (.t 18)),
 Lw 9 19] [0,1,2,6,7,8,9])
 (.seq (.region [Ll 20 (.build false (.arr 64 .leaf z64) []),
 Ls (.store false Sx6 (.t 7) (.t 20))] [0,1,2,6,7,8,9])
 (.seq (.seq (.region [Ll 10 (.mv (Acx 0))] [0,1,2,6,7,8,9,10])
 (.block 2 (.loop (Z3z_L0))))
 (.seq (.region [Lw 32 9,
 Ll 33 (.idxA (some 64) .leaf (.t 7) (.t 32)),
 Ls (.store false .leaf (.t 33) (.c (.int .u8 1)))] [0,1,2,6,7,8])
 (.seq (.region [Lw 34 0,
 Ll 35 (.call .heap [] (.f F4a) [(.t 34),(Acx 3)]),
 Ll 36 (.bin .eql (.t 35) (Acx 0)),
 Lw 37 36,
 Lx 38 1 37 false,
 Lg 39 (.load Sx6 (.t 7)) 37 false,
 Lg 40 (Ofx F45 [(.t 38),(.t 39)]) 37 false,
 Ll 41 (.pick (.t 37) (.c (.bool true)) (.t 40))] [0,1,2,6,7,8,41])
 (.cond (.t 41)
 (.seq (.region [Ipx 42 7,
 Ls (.store false Sx6 (.t 6) (.t 42))] [6])
 (.ret))
 (.skip))))))))
 (.region [Lw 14 8,
 Ll 15 (.bin .add (.t 14) (Acx 1)),
 Lw 8 15] [0,1,2,6,7,8]))
def Z3z_B:Cd:=
 .seq (.region [Ll 6 (.box false 0 (.c (.arr 64 .leaf z64)))] [0,1,2,6])
 (.seq (.region [Ll 11 (Ofx F4f []),
 Ll 7 (.box false 1 (.c (.arr 64 .leaf z64))),
 Ls (.store false Sx6 (.t 7) (.t 11))] [0,1,2,6,7])
 (.seq (.seq (.region [Ll 8 (.mv (Acx 0))] [0,1,2,6,7,8])
 (.block 0 (.loop (Z3z_L1))))
 (.seq (.region [Ipx 43 7,
 Ls (.store false Sx6 (.t 6) (.t 43))] [6])
 (.ret))))
def Z3z:Fn:=
 { nparams:=3,nblk:=2,results:=[.cell 6 Sx6],body:=Z3z_B }
def ir_spec_l01Draw_L0:Cd:=
 .seq (.seq (.region [Lw 15 8,
 Ll 16 (.bin .geq (.t 15) (Acx 0))] [0,1,6,7,8,16])
 (.cond (.t 16)
 (.skip)
 (.exit 0)))
 (.seq (.block 1 (.seq (.region [Lw 19 0,
 Ll 20 (.call .heap [] (.f F4a) [(.t 19),(Acx 3)]),
 Ll 21 (.bin .gtr (.t 20) (Acx 0))] [0,1,6,7,8,21])
 (.cond (.t 21)
 (.region [Lw 22 8,
 Lw 23 0,
 Lw 24 1,
 Ll 25 (.call .heap [] (.f F4a) [(.t 23),(.t 24)]),
 Ll 26 (.conv .u8 (.t 25)),
 Ll 27 (.idxA (some 64) .leaf (.t 7) (.t 22)),
 Ls (.store false .leaf (.t 27) (.t 26))] [0,1,6,7,8])
 (.skip))))
 (.region [Lw 17 8,
 Ll 18 (.bin .sub (.t 17) (Acx 1)),
 Lw 8 18] [0,1,6,7,8]))
def ir_spec_l01Draw_B:Cd:=
 .seq (.region [Ll 6 (.box false 0 (.c (.arr 64 .leaf z64)))] [0,1,2,6])
 (.seq (.region [Ll 9 (.build false (.arr 64 .leaf z64) []),
 Ll 7 (.box false 1 (.c (.arr 64 .leaf z64))),
 Ls (.store false Sx6 (.t 7) (.t 9))] [0,1,2,6,7])
 (.seq (.seq (.region [Lw 10 0,
 Lw 11 2,
 Ll 12 (.bin .add (.t 11) (Acx 2)),
 Ll 13 (.call .heap [] (.f F4a) [(.t 10),(.t 12)]),
 Ll 14 (.bin .sub (.t 13) (Acx 1)),
 Lw 8 14] [0,1,6,7,8])
 (.block 0 (.loop (ir_spec_l01Draw_L0))))
 (.seq (.region [Ipx 28 7,
 Ls (.store false Sx6 (.t 6) (.t 28))] [6])
 (.ret))))
def Z3y:Fn:=
 { nparams:=3,nblk:=2,results:=[.cell 6 Sx6],body:=ir_spec_l01Draw_B }
def Z4c_B:Cd:=
 .seq (.region [Ll 4 (.mv (Acx 0))] [0,1])
 (.seq (.region [Lw 5 1,
 Lw 6 0,
 Lw 7 1,
 Ll 8 (.len false (.t 7)),
 Ll 9 (.call .heap [] (.f F4a) [(.t 6),(.t 8)]),
 Ll 10 (.idxA none .leaf (.t 5) (.t 9)),
 Ilx 11 10,
 Lw 4 11] [4])
 (.ret))
def Z4c:Fn:=
 { nparams:=2,nblk:=0,results:=[.tmp 4],body:=Z4c_B }
def Z40_B:Cd:=
 .seq (.region [Ll 2 (.mv (Acx 0))] [0])
 (.seq (.region [Lw 3 0,
 Ll 4 (.buildSl false 0 .leaf (.int .i64 0) 6 [(0,(Acx 2)),(1,(Acx 2)),(2,(Acx 3)),(3,(Acx 3)),(4,(Acx 5)),(5,(Acx 7))]),
 Ll 5 (.call .heap [] (.f F4c) [(.t 3),(.t 4)]),
 Lw 2 5] [2])
 (.ret))
def Z40:Fn:=
 { nparams:=1,nblk:=1,results:=[.tmp 2],body:=Z40_B }
def Z3u_B:Cd:=
 .seq (.region [Ll 5 (.box false 0 (.t 2)),
 Ll 6 (.box false 1 (.c (.arr 64 .leaf z64)))] [0,1,5,6])
 (.seq (.seq (.region [Lw 7 0,
 Ll 8 (.call .heap [] (.f F4a) [(.t 7),(Acx 40)]),
 Ll 9 (.bin .eql (.t 8) (Acx 0))] [0,1,5,6,9])
 (.cond (.t 9)
 (.region [Lw 10 0,
 Ll 11 (.call .heap [] (.f F4a) [(.t 10),(Acx 64)]),
 Lw 12 0,
 Lw 13 1,
 Ll 14 (.buildSl false 2 .leaf (.int .i64 0) 4 [(0,(.t 13)),(1,(Acx 7)),(2,(Acx 255)),(3,(Acx 1))]),
 Ll 15 (.call .heap [] (.f F4c) [(.t 12),(.t 14)]),
 Ll 16 (.conv .u8 (.t 15)),
 Ll 17 (.idxA (some 64) .leaf (.t 5) (.t 11)),
 Ls (.store false .leaf (.t 17) (.t 16))] [5,6])
 (.skip)))
 (.seq (.region [Ipx 18 5,
 Ls (.store false Sx6 (.t 6) (.t 18))] [6])
 (.ret)))
def Z3u:Fn:=
 { nparams:=3,nblk:=3,results:=[.cell 6 Sx6],body:=Z3u_B }
end Pe
