/-
  A part of the proof: an evaluator for a small form of the code, its soundness, and contracts of functions over it.
-/
import Derived.Test.YtngaenaglaiblaaGreatW1
import Derived.Test.YtngaenaglaiblaaGreatW2
import Derived.Test.YtngaenaglaiblaaGreatW3
import Derived.Test.YtngaenaglaiblaaGreatW4
import Derived.Test.YtngaenaglaiblaaGreatW5

namespace Pe
open Go Gq
variable {T:Nat→Option Fn} {A:am}
def Ei (O:am):Prop:=∀(p:Int) [IsP p] (c:Fp p) (k:Nat),k<10000→ask O F1t [(D.sl .leaf (aq .i64 (row c))),(D.int .i64 k)]=some (skD (kg c k))
theorem a2p {p:Int} (c:Fp p) (k:Nat):(List.replicate (k+1) (D.sl .leaf [])).set k (D.sl .leaf (aq .i64 (row c)))=(kg c k).map bf:=by
 unfold kg;rw [cj,ew,show bf (0:Fp p)=.sl .leaf [] by show (D.sl .leaf (aq .i64 (row (0:Fp p))))=_; rw [dj,i6],List.replicate_succ',p7 _ _ (by rw [bt]; omega),bt,lh]
 rfl
theorem a8a (hT:T F1t=some Z1t):Ei (den T A):=by
 intro p ip c k hk;have w1:=wi k;have h24:(k+1)*24≤1099511627776:=by omega
 have hn:(0:Int)≤((k+1:Nat):Int):=by omega
 have hlt:k<k+1:=by omega
 have hsk:skD (kg c k)=.sl .leaf ((kg c k).map bf):=rfl;have htm:=a2p c k;have hTL:((kg c k).map bf).length=k+1:=by rw [af,i9]
 have htk:((kg c k).map bf).take (k+1)=(kg c k).map bf:=aw (by omega)
 rw [hsk];refine c9 hT rfl ?_;have hRL:(List.replicate (k+1) (D.sl .leaf [])).length=k+1:=bt ..;have hRg:∀h:k<(List.replicate (k+1) (D.sl .leaf [])).length,(List.replicate (k+1) (D.sl .leaf []))[k]'h=D.sl .leaf []:=fun h=>List.getElem_replicate h
 generalize row c=Rc,(kg c k).map bf=TD at *;generalize hRR:List.replicate (k+1) (D.sl .leaf [])=RR at *;generalize k+1=k1 at *;simp -implicitDefEqProofs [Z1t,Z1t_B,w1,h24,hlt,hRR,hRL,hRg,htm,hTL,htk]
def Re (O:am):Prop:=∀(p:Int) [IsP p] (A:List (Fp p)) (i:Nat),ask O F1u [skD A,(D.int .i64 i)]=some (D.sl .leaf (aq .i64 (row (cS A i))))
theorem afh (hT:T F1u=some Z1u):Re (den T A):=by
 intro p ip S i;have hsk:skD S=.sl .leaf (S.map bf):=rfl;have hL:(S.map bf).length=S.length:=af ..;rw [hsk];refine c9 hT rfl ?_
 by_cases h:i<S.length
 ·have hx:∀h:i<(S.map bf).length,(S.map bf)[i]'h=(D.sl .leaf (aq .i64 (row (cS S i)))):=fun h'=>by rw [bb,uh h]
  generalize S.map bf=SD,row (cS S i)=Rc at *;simp -implicitDefEqProofs [Z1u,Z1u_B,ap,h,hL,hx]
 ·rw [Ho (by omega),dj]
  generalize S.map bf=SD at *;simp -implicitDefEqProofs [Z1u,Z1u_B,ap,h,hL,i6]
theorem a6y {O:am} (hat:Re O) (hco:o5 O) {p:Int} [IsP p] {m:Fp p} {X Y:List (Fp p)} {k:Int} (hk:-1000≤k∧k≤1000) (hX:∀c∈X,c.len≤64) (hY:∀c∈Y,c.len≤64) {n:Nat} (hn:n<100000) {cp cq:Option Nat}:∀(r i:Nat) (Q:List D),i+r=n→Q.length=n→(∀d∈Q,d.sh.beq .leaf=true)→Q.take i=((List.range n).map fun i=>bf (cS X i+Pol.C (zp p k)*cS Y i)).take i →
 dn O 0 (.loop Zl_L0) ⟨[(1,.d (skD X)),(2,.d (skD Y)),(3,(.d (.int .i64 k))),(4,.ptr 0 []),(9,.sl 1 [] 0 n cp),(18,(.d (.int .i64 n))),(19,(.d (.int .i64 i)))],[.box false (fw m),.sl false .leaf Q]⟩ =
  some (.exit 0,⟨[(1,.d (skD X)),(2,.d (skD Y)),(3,(.d (.int .i64 k))),(4,.ptr 0 []),(9,.sl 1 [] 0 n cp),(18,(.d (.int .i64 n))),(19,(.d (.int .i64 n))),(20,(.d (.bool false)))],[.box false (fw m),.sl false .leaf ((List.range n).map fun i=>bf (cS X i+Pol.C (zp p k)*cS Y i))]⟩)
 | 0,i,Q,hi,hq,hQ,ht=>by
  obtain rfl:i=n:=by omega
  rw [aw (by omega),aw (by rw [af,d8]; omega)] at ht
  subst ht;refine bu ?_;generalize (List.range i).map (fun i=>bf (cS X i+Pol.C (zp p k)*cS Y i))=LQ at *
  simp -implicitDefEqProofs [Zl_L0,ap]
 | r+1,i,Q,hi,hq,hQ,ht=>by
  have hlt:i<n:=by omega
  have hltq:i<Q.length:=by omega
  have hsh:∀h:i<Q.length,(Q[i]'h).sh.beq .leaf=true:=fun h=>hQ _ (az h)
  have e1:=hat p X i;have e2:=hat p Y i;have a1:=Ln hX i;have a2:=Ln hY i;have e3:=hco p k (cS X i) (cS Y i) (by omega) (by omega) (by omega) (by omega)
  have w4:=wi i;have hLn:((List.range n).map fun i=>bf (cS X i+Pol.C (zp p k)*cS Y i)).length=n:=by rw [af,d8]
  refine bn ?_ (a6y hat hco (m:=m) hk hX hY hn (cp:=cp) (cq:=cq) r (i+1) (Q.set i (D.sl .leaf (aq .i64 (row (cS X i+Pol.C (zp p k)*cS Y i))))) (by omega) (by rw [bx]; exact hq) (fun d hd=>by
   rcases ce hd with h1 | rfl
   ·exact hQ d h1
   ·rfl) (by
   rw [br (by rw [bx]; exact hltq),mi,u9,jv (by rw [b8]; omega),ht,br (by omega),bb,List.getElem_range]))
  have hfd:fw m=.st [.leaf,.leaf] [(D.int .i64 p),(D.sl .leaf (aq .i64 (row m)))]:=rfl;have hsX:skD X=.sl .leaf (X.map bf):=rfl;have hsY:skD Y=.sl .leaf (Y.map bf):=rfl;rw [hfd];rw [hsX] at e1 ⊢;rw [hsY] at e2 ⊢;generalize row m=Rm,Y.map bf=YD,X.map bf=XD,row (cS Y i)=R2,row (cS X i)=R1,row (cS X i+Pol.C (zp p k)*cS Y i)=R3 at *;simp -implicitDefEqProofs [Zl_L0,ap,hlt,hq,hsh,e1,e2,e3,w4]
def Q4 (O:am):Prop:=∀(p:Int) [IsP p] (m:Fp p) (X Y:List (Fp p)) (k:Int),-1000≤k→k≤1000→X.length<10000→Y.length<10000→(∀c∈X,c.len≤64)→(∀c∈Y,c.len≤64)→ask O Fl [fw m,skD X,skD Y,(D.int .i64 k)]=some (skD (ia k X Y))
theorem afn (hT:T Fl=some Zl) (hat:Re (den T A)) (hco:o5 (den T A)) (htr:A4 (den T A)):Q4 (den T A):=by
 intro p ip m X Y k hk1 hk2 hXl hYl hX hY;have e1:=a6y (O:=den T A) hat hco (m:=m) ⟨hk1,hk2⟩ hX hY (n:=max X.length Y.length) (by omega) (cp:=some (max X.length Y.length)) (cq:=none) (max X.length Y.length) 0 (List.replicate (max X.length Y.length) (.sl .leaf [])) (b9 _) (bt ..) (fun d hd=>by rw [fg hd]; rfl) (by rw [cx,cx])
 have e00:((0:Nat):Int)=0:=rfl;have e2:=htr p ((List.range (max X.length Y.length)).map fun i=>cS X i+Pol.C (zp p k)*cS Y i) (by rw [af,d8]; omega)
 have a57:skD ((List.range (max X.length Y.length)).map fun i=>cS X i+Pol.C (zp p k)*cS Y i)=.sl .leaf ((List.range (max X.length Y.length)).map fun i=>bf (cS X i+Pol.C (zp p k)*cS Y i)):=by
  show D.sl .leaf (List.map _ (List.map _ _))=_;rw [uy]; rfl
 rw [a57,show fl ((List.range (max X.length Y.length)).map fun i=>cS X i+Pol.C (zp p k)*cS Y i)=ia k X Y from rfl] at e2
 rw [e00] at e1;have hsX:skD X=.sl .leaf (X.map bf):=rfl;have hsY:skD Y=.sl .leaf (Y.map bf):=rfl;have hsP:skD (ia k X Y)=.sl .leaf ((ia k X Y).map bf):=rfl;have hX1:(X.map bf).length=X.length:=af ..;have hY1:(Y.map bf).length=Y.length:=af ..;have hmx:(if X.length<Y.length then ((Y.length:Nat):Int) else ((X.length:Nat):Int))=((max X.length Y.length:Nat):Int):=by split <;> omega
 have h24:max X.length Y.length*24≤1099511627776:=by omega
 have hLn:((List.range (max X.length Y.length)).map fun i=>bf (cS X i+Pol.C (zp p k)*cS Y i)).length=max X.length Y.length:=by rw [af,d8]
 have htk:((List.range (max X.length Y.length)).map fun i=>bf (cS X i+Pol.C (zp p k)*cS Y i)).take (max X.length Y.length)=((List.range (max X.length Y.length)).map fun i=>bf (cS X i+Pol.C (zp p k)*cS Y i)):=aw (by omega)
 rw [hsP] at e2 ⊢;rw [hsX,hsY] at e1 ⊢;refine c9 hT rfl ?_;generalize (ia k X Y).map bf=PD,Y.map bf=YD,X.map bf=XD,((List.range (max X.length Y.length)).map fun i=>bf (cS X i+Pol.C (zp p k)*cS Y i))=LQ at *
 generalize hmm:max X.length Y.length=n at *;simp -implicitDefEqProofs [Zl,Zl_B,hX1,hY1,hmx,h24,e1,e2,hLn,htk]
def a09 (O:am):Prop:=∀(p:Int) [IsP p] (m:Fp p) (a b:List (Fp p)),2≤m.len→m.len≤64→(∀c∈a,c.len≤64)→(∀c∈b,c.len≤64)→a.length<10000→b.length<10000→ask O Ff [fw m,skD a,skD b]=some (skD (ke m a b))
theorem aiw {O:am} (h:afj O):a09 O:=by
 intro p ip m a b h2 hml ha hb hal hbl;rw [h p m a b h2 hml ha hb hal hbl];unfold ke
 split <;> rfl
def a6j (O:am) (F:Nat) (left:Bool):Prop:=∀(p:Int) [IsP p] (m:Fp p) (X B:List (Fp p)),Fld m→Sk m X→Sk m B→1≤B.length→ask O F [fw m,skD X,skD B]=some (.tup [skD (pc left m B X.length [] X).1,skD (pc left m B X.length [] X).2])
section
variable {p:Int} [IsP p]
theorem vf (x:Zp p):0≤rep x∧rep x≤7:=by
 have h1:=o7 x;have h2:=IsP.le (p:=p);omega
theorem a4p {O:am} (hc:o5 O) {a b:Fp p} (ha:a.len≤64) (hb:b.len≤64):ask O F11 [(D.int .i64 p),(D.sl .leaf (aq .i64 (row b))),(D.sl .leaf (aq .i64 (row a))),(D.int .i64 (-rep (b.c (a.len-1))))]=some (D.sl .leaf (aq .i64 (row (elim a b)))):=by
 have h:=vf (b.c (a.len-1));have:=hc p (-rep (b.c (a.len-1))) b a (by omega) (by omega) (by omega) (by omega)
 rw [Jp,mw] at this;exact this
theorem a69 {O:am} (hat:Uy O) (hc:o5 O) {L:List (Fp p)} {N:Nat} (hN:N≤12) (hL:Desc N L) {xs:List D} {nx i:Int} {n:Nat} (hn:L.length=n) {cp cp2:Option Nat}:∀(r j:Nat) (a:Fp p),j+r=n→a.len≤N →
 dn O 0 (.loop Z1e_L0) ⟨[(0,(.d (.int .i64 p))),(5,.sl 0 [] 0 n cp),(7,(.d (.sl .leaf (aq .i64 (row a))))),(12,.d (.sl .leaf xs)),(13,(.d (.int .i64 nx))),(14,(.d (.int .i64 i))),(18,.sl 0 [] 0 n cp2),(19,(.d (.int .i64 n))),(20,(.d (.int .i64 j)))],[.sl false .leaf (L.map bf),.hole,.hole]⟩ =
  some (.exit 2,⟨[(0,(.d (.int .i64 p))),(5,.sl 0 [] 0 n cp),(7,(.d (.sl .leaf (aq .i64 (row (fd (L.drop j) a)))))),(12,.d (.sl .leaf xs)),(13,(.d (.int .i64 nx))),(14,(.d (.int .i64 i))),(18,.sl 0 [] 0 n cp2),(19,(.d (.int .i64 n))),(20,(.d (.int .i64 n))),(21,(.d (.bool false)))],[.sl false .leaf (L.map bf),.hole,.hole]⟩)
 | 0,j,a,hj,ha=>by
  obtain rfl:j=n:=by omega
  rw [gt (by omega)]
  refine bu ?_;show _=some (_,(⟨[_,_,(7,(.d (.sl .leaf (aq .i64 (row a))))),_,_,_,_,_,_,_],_⟩:St));generalize L.map bf=LD at *;simp -implicitDefEqProofs [Z1e_L0,ap]
 | r+1,j,a,hj,ha=>by
  have hlt:j<L.length:=by omega
  have hll:=hL.length;have hjn:j<n:=by omega
  have hm:=az hlt;have hbl:=hL.le _ hm;have hbp:=Pol.len_pos (hL.mon _ hm).2;have e1:=hat (row a) (L[j].len-1) (by omega)
  rw [ja] at e1;have e2:=a4p (O:=O) hc (a:=L[j]) (b:=a) (by omega) (by omega)
  have w1:IntKind.i64.wrap (((row L[j]).length:Int)-1)=((L[j].len-1:Nat):Int):=by rw [ca]; exact (w64 (by omega)).trans (by omega)
  have hr:=vf (a.c (L[j].len-1));have w2':IntKind.i64.wrap (-rep (a.c (L[j].len-1)))=-rep (a.c (L[j].len-1)):=wt;have w4:=wi j;have hx:∀h:j<(L.map bf).length,(L.map bf)[j]'h=(D.sl .leaf (aq .i64 (row L[j]))):=fun h=>by rw [bb]
  have hLD:(L.map bf).length=n:=by rw [af]; exact hn
  have hd:fd (L.drop j) a=fd (L.drop (j+1)) (elim L[j] a):=by rw [c8 hlt]; rfl
  have hjl:(j:Int)<n:=by omega
  rw [hd];refine bn ?_ (a69 hat hc hN hL hn r (j+1) (elim L[j] a) (by omega) (xg hbl ha))
  generalize rep (a.c (L[j].len-1))=k at *;generalize row (elim L[j] a)=R1 at *;generalize row a=R2 at *;generalize row L[j]=R3 at *;generalize L[j].len-1=d at *;generalize L.map bf=LD at *;simp -implicitDefEqProofs [Z1e_L0,ap,hjl,hjn,hLD,hx,e1,e2,w1,w2',w4]
theorem a8u {O:am} (hat:Uy O) (hc:o5 O) {a:Fp p} (ha:a≠0) (hal:a.len≤12) {xs:List D} {nx i:Int} {n:Nat} {cp cp2:Option Nat}:∀(r j:Nat) (Q:List (Fp p)),j+r=n→Q.length=n→(∀b∈Q,b.len≤12)→n≤12 →
 dn O 0 (.loop Z1e_L1) ⟨[(0,(.d (.int .i64 p))),(5,.sl 0 [] 0 n cp),(7,(.d (.sl .leaf (aq .i64 (row a))))),(12,.d (.sl .leaf xs)),(13,(.d (.int .i64 nx))),(14,(.d (.int .i64 i))),(45,.sl 0 [] 0 n cp2),(46,(.d (.int .i64 n))),(47,(.d (.int .i64 j)))],[.sl false .leaf (Q.map bf),.hole,.hole]⟩ =
  some (.exit 4,⟨[(0,(.d (.int .i64 p))),(5,.sl 0 [] 0 n cp),(7,(.d (.sl .leaf (aq .i64 (row a))))),(12,.d (.sl .leaf xs)),(13,(.d (.int .i64 nx))),(14,(.d (.int .i64 i))),(45,.sl 0 [] 0 n cp2),(46,(.d (.int .i64 n))),(47,(.d (.int .i64 n))),(48,(.d (.bool false)))],[.sl false .leaf ((Q.take j++(Q.drop j).map (elim a)).map bf),.hole,.hole]⟩)
 | 0,j,Q,hj,hq,hQ,hn=>by
  obtain rfl:j=n:=by omega
  have:Q.take j++(Q.drop j).map (elim a)=Q:=by rw [gt (by omega),aw (by omega)]; simp
  rw [this];refine bu ?_;generalize Q.map bf=LD at *;simp -implicitDefEqProofs [Z1e_L1,ap]
 | r+1,j,Q,hj,hq,hQ,hn=>by
  have hlt:j<Q.length:=by omega
  have hjn:j<n:=by omega
  have hm:=az hlt;have hbl:=hQ _ hm;have hap:=Pol.len_pos ha;have e1:=hat (row Q[j]) (a.len-1) (by omega)
  rw [ja] at e1;have e2:=a4p (O:=O) hc (a:=a) (b:=Q[j]) (by omega) (by omega)
  have w1:IntKind.i64.wrap (((row a).length:Int)-1)=((a.len-1:Nat):Int):=by rw [ca]; exact (w64 (by omega)).trans (by omega)
  have hr:=vf (Q[j].c (a.len-1));have w2':IntKind.i64.wrap (-rep (Q[j].c (a.len-1)))=-rep (Q[j].c (a.len-1)):=wt;have w4:=wi j;have hx:∀h:j<(Q.map bf).length,(Q.map bf)[j]'h=(D.sl .leaf (aq .i64 (row Q[j]))):=fun h=>by rw [bb]
  have hLD:(Q.map bf).length=n:=by rw [af]; exact hq
  have hset:(Q.set j (elim a Q[j])).take (j+1)++((Q.set j (elim a Q[j])).drop (j+1)).map (elim a)=Q.take j++(Q.drop j).map (elim a):=by
   rw [List.drop_set_of_lt (by omega),br (by rw [bx]; exact hlt),mi,u9,jv (by rw [b8]; omega),c8 hlt,gq,ek]
   rfl
  rw [←hset]
  refine bn ?_ (a8u hat hc ha hal r (j+1) (Q.set j (elim a Q[j])) (by omega) (by rw [bx]; exact hq) (fun b hb=>by
   rcases ce hb with h | rfl
   ·exact hQ b h
   ·exact xg hal hbl) hn)
  have hms:(Q.set j (elim a Q[j])).map bf=(Q.map bf).set j (D.sl .leaf (aq .i64 (row (elim a Q[j])))):=dy;rw [hms];have hjl:(j:Int)<n:=by omega
  generalize rep (Q[j].c (a.len-1))=k at *;generalize row (elim a Q[j])=R1 at *;generalize row Q[j]=R2 at *;generalize Q.map bf=LD,a.len-1=d,row a=R3 at *;simp -implicitDefEqProofs [Z1e_L1,ap,hjl,hjn,hLD,hx,e1,e2,w1,w2',w4]
theorem Xp {O:am} (hat:Uy O) (hc:o5 O) (hld:xq O) (hinv:qb O) (hsc:sy O) (hsort:Bb O) (hcmp:∀L:List (Fp p),(∀x∈L,x.len≤1000)→CmpRow O F1f [] [] a8d .leaf (L.map bf)) {xs:List (Fp p)} {N:Nat} (hN:N≤11) (hxs:∀x∈xs,x.len≤N) (hxl:xs.length<2000000):∀(r i:Nat) (L:List (Fp p)) (cp:Option Nat),i+r=xs.length→Desc N L→∃cp':Option Nat,
 dn O 0 (.loop Z1e_L2) ⟨[(0,(.d (.int .i64 p))),(5,.sl 0 [] 0 L.length cp),(12,.d (.sl .leaf (xs.map bf))),(13,(.d (.int .i64 xs.length))),(14,(.d (.int .i64 i)))],[.sl false .leaf (L.map bf),.hole,.hole]⟩ =
  some (.exit 0,⟨[(0,(.d (.int .i64 p))),(5,.sl 0 [] 0 (gd (xs.drop i) L).length cp'),(12,.d (.sl .leaf (xs.map bf))),(13,(.d (.int .i64 xs.length))),(14,(.d (.int .i64 xs.length))),(15,(.d (.bool false)))],[.sl false .leaf ((gd (xs.drop i) L).map bf),.hole,.hole]⟩)
 | 0,i,L,cp,hi,hL=>by
  obtain rfl:i=xs.length:=by omega
  rw [fj];refine ⟨cp,bu ?_⟩;show _=some (_,(⟨[_,(5,.sl 0 [] 0 L.length cp),_,_,_,_],[.sl false .leaf (L.map bf),_,_]⟩:St));generalize xs.map bf=XD,L.map bf=LD at *;simp -implicitDefEqProofs [Z1e_L2,ap]
 | r+1,i,L,cp,hi,hL=>by
  have hlt:i<xs.length:=by omega
  have hm:=az hlt;have hxi:=hxs _ hm;have hll:=hL.length;have hd:gd (xs.drop i) L=gd (xs.drop (i+1)) (Az L xs[i]):=by rw [c8 hlt]; rfl
  have hx:∀h:i<(xs.map bf).length,(xs.map bf)[i]'h=(D.sl .leaf (aq .i64 (row xs[i]))):=fun h=>by rw [bb]
  have hXD:(xs.map bf).length=xs.length:=af ..;have hLD:(L.map bf).length=L.length:=af ..;have w4:=wi i;have e0:=a69 (O:=O) hat hc (by omega) hL (xs:=xs.map bf) (nx:=xs.length) (i:=i) rfl (cp:=cp) (cp2:=cp) L.length 0 xs[i] (b9 _) hxi
  have e00:((0:Nat):Int)=0:=rfl;rw [e00,dh] at e0;have hrl:=Eu (L:=L) hL.le hxi;rw [hd]
  by_cases h0:fd L xs[i]=0
  ·rw [Cg h0]
   obtain ⟨cp',ih⟩:=Xp hat hc hld hinv hsc hsort hcmp hN hxs hxl r (i+1) L cp (by omega) hL
   refine ⟨cp',bn ?_ ih⟩;rw [h0,dj] at e0;generalize row xs[i]=R1 at *;generalize xs.map bf=XD,L.map bf=LD at *;simp -implicitDefEqProofs [Z1e_L2,ap,hlt,hXD,hx,e0,w4,i6]
  ·have hap:=Pol.len_pos h0
   have hml:=uu h0;have hmm:=px h0;have hld0:=Pol.ld_ne h0;have hri:=o7 (fd L xs[i]).ld;have hp7:=IsP.le (p:=p);have hp2:=IsP.ge (p:=p);have hr0:rep (fd L xs[i]).ld≠0:=fun h=>hld0 (io.1 h)
   have e2:=hld (row (fd L xs[i])) (by rw [ca]; omega)
   rw [H0] at e2;have e3:=hinv p (rep (fd L xs[i]).ld) (by omega) (by omega) (by omega) (by omega)
   have hin:=zq (p:=p) (rep (fd L xs[i]).ld);have e4:=hsc p (inv p (rep (fd L xs[i]).ld)) (fd L xs[i]) (by omega) (by omega) (by omega)
   rw [vw _ hld0,show Pol.C (Fd.inv (fd L xs[i]).ld)*fd L xs[i]=Gq.mon (fd L xs[i]) from rfl] at e4;have e5:=a8u (O:=O) hat hc hmm.2 (by omega) (xs:=xs.map bf) (nx:=xs.length) (i:=i) (n:=L.length) (cp:=cp) (cp2:=cp) L.length 0 L (b9 _) rfl (fun b hb=>by have:=hL.le b hb; omega) (by omega)
   rw [e00,cx,cw,dh] at e5;have hne:∀b∈L,b.len≠(Gq.mon (fd L xs[i])).len:=fun b hb=>by rw [hml]; exact a17 hL h0 b hb
   have hins:=Gi hmm (by omega) hL hne
   obtain ⟨ds,s1,s2,s3⟩:=hsort F1f [] [] a8d ((L.map (elim (Gq.mon (fd L xs[i])))++[Gq.mon (fd L xs[i])]).map bf) none (by rw [af,bg,af,jk]; omega) (hcmp _ fun x hx=>by
    rcases bp.1 hx with h | h
    ·obtain ⟨b,hb,rfl⟩:=cn.1 h
     have:=xg (N:=N) (a:=Gq.mon (fd L xs[i])) (by omega) (hL.le b hb)
     omega
    ·obtain rfl:x=_:=by simpa using h
     omega)
   rw [a7r hins.pw s1 s2] at s3;have hpl:=(vg (Gq.mon (fd L xs[i])) L).length_eq;rw [bg,af,jk] at hpl;rw [Bv h0];obtain ⟨cp',ih⟩:=Xp hat hc hld hinv hsc hsort hcmp hN hxs hxl r (i+1) (yn (Gq.mon (fd L xs[i])) L) none (by omega) hins
   refine ⟨cp',bn ?_ ih⟩;rw [hpl];have hsl:((L.map (elim (Gq.mon (fd L xs[i])))++[Gq.mon (fd L xs[i])]).map bf).length=L.length+1:=by rw [af,bg,af,jk]
   rw [hsl] at s3;have hmap:(L.map (elim (Gq.mon (fd L xs[i])))++[Gq.mon (fd L xs[i])]).map bf=(L.map (elim (Gq.mon (fd L xs[i])))).map bf++[(D.sl .leaf (aq .i64 (row (Gq.mon (fd L xs[i])))))]:=by rw [cj]; rfl
   rw [hmap] at s3;have hLE:((L.map (elim (Gq.mon (fd L xs[i])))).map bf).length=L.length:=by rw [af,af]
   have h24:(L.length+1)*24≤1099511627776:=by omega
   have hrl0:(row (fd L xs[i])).length≠0:=by rw [ca]; omega
   have htk:((L.map (elim (Gq.mon (fd L xs[i])))).map bf).take L.length=(L.map (elim (Gq.mon (fd L xs[i])))).map bf:=aw (by omega)
   generalize (yn (Gq.mon (fd L xs[i])) L).map bf=LI at *;generalize (L.map (elim (Gq.mon (fd L xs[i])))).map bf=LE at *;generalize inv p (rep (fd L xs[i]).ld)=k1 at *;generalize rep (fd L xs[i]).ld=k2 at *;generalize row (Gq.mon (fd L xs[i]))=R2 at *;generalize row (fd L xs[i])=R3 at *;generalize row xs[i]=R1 at *;generalize xs.map bf=XD,L.map bf=LD at *;simp -implicitDefEqProofs [Z1e_L2,ap,hlt,hXD,hx,e0,e2,e3,e4,e5,s3,w4,hrl0,hLE,h24,htk,List.replicate,List.idxOf,List.findIdx,List.findIdx.go]
def H2 (O:am):Prop:=∀(p:Int) [IsP p] (xs:List (Fp p)),(∀x∈xs,x.len≤11)→xs.length<2000000→ask O F1e [(D.int .i64 p),.sl .leaf (xs.map bf)]=some (.sl .leaf ((gd xs []).map bf))
end
theorem aab {p:Int} (hT:T F1f=some Z1f) {L:List (Fp p)} (hl:∀x∈L,x.len≤1000):CmpRow (den T A) F1f [] [] a8d .leaf (L.map bf):=by
 refine ⟨fun x hx=>by simp at hx,fun x hx=>by simp at hx,fun x hx=>?_,fun x hx=>?_,fun x hx y hy=>?_⟩
 ·obtain ⟨a,_,rfl⟩:=cn.1 hx; rfl
 ·obtain ⟨a,_,rfl⟩:=cn.1 hx; rfl
 ·obtain ⟨a,ha,rfl⟩:=cn.1 hx
  obtain ⟨b,hb,rfl⟩:=cn.1 hy;have h1:=hl a ha;have h2:=hl b hb;have w1:IntKind.i64.wrap ((b.len:Int)-a.len)=(b.len:Int)-a.len:=wt;refine ⟨(b.len:Int)-a.len,c9 hT rfl ?_,by rw [Ga,Ga]; omega⟩
  simp -implicitDefEqProofs [Z1f,Z1f_B,w1]
theorem a2x (hT:T F1e=some Z1e) (hT1:T F1f=some Z1f) (hat:Uy (den T A)) (hc:o5 (den T A)) (hld:xq (den T A)) (hinv:qb (den T A)) (hsc:sy (den T A)) (hsort:Bb (den T A)):H2 (den T A):=by
 intro p ip xs hxs hxl;obtain ⟨cp,e⟩:=Xp (O:=den T A) hat hc hld hinv hsc hsort (fun L hl=>aab hT1 hl) (ba 11) hxs hxl xs.length 0 [] (some 0) (b9 _) (Desc.nil 11)
 have e00:((0:Nat):Int)=0:=rfl;rw [e00,dh,fa,da] at e;have hL:((gd xs []).map bf).length=(gd xs []).length:=af ..;have hX:(xs.map bf).length=xs.length:=af ..;have htk:((gd xs []).map bf).take (gd xs []).length=(gd xs []).map bf:=aw (by omega)
 refine c9 hT rfl ?_;generalize xs.map bf=XD,(gd xs []).map bf=LD at *;simp -implicitDefEqProofs [Z1e,Z1e_B,hX,hL,htk,e]
noncomputable abbrev bo {p:Int} (a:Fp p):D:=(D.arr 64 .leaf (aq .u8 (pad (row a))))
theorem qy {p:Int} (xs:List (Fp p)):(skP xs).map bh=xs.map bo:=by unfold skP; rw [uy]; rfl
section
variable {p:Int} [IsP p]
theorem a4u {O:am} (hro:zd O) {xs:List (Fp p)} (hl:xs.length<2000000) (hx:∀x∈xs,x.len≤64):∀(r i:Nat) (cp:Option Nat),i+r=xs.length→∃cp':Option Nat,
 dn O 0 (.loop Z1s_L0) ⟨[(3,.sl 0 [] 0 i cp),(6,.d (.sl (.arr 64 .leaf) (xs.map bo))),(7,(.d (.int .i64 xs.length))),(8,(.d (.int .i64 i)))],[.sl false .leaf ((xs.take i).map bf),.hole,.hole,.hole]⟩ =
  some (.exit 0,⟨[(3,.sl 0 [] 0 xs.length cp'),(6,.d (.sl (.arr 64 .leaf) (xs.map bo))),(7,(.d (.int .i64 xs.length))),(8,(.d (.int .i64 xs.length))),(9,(.d (.bool false)))],[.sl false .leaf (xs.map bf),.hole,.hole,.hole]⟩)
 | 0,i,cp,hi=>by
  obtain rfl:i=xs.length:=by omega
  rw [iq];refine ⟨cp,bu ?_⟩;generalize xs.map bf=RD,xs.map bo=XD at *;simp -implicitDefEqProofs [Z1s_L0,ap]
 | r+1,i,cp,hi=>by
  have hlt:i<xs.length:=by omega
  have hm:=az hlt;have e1:=hro p xs[i] (hx _ hm);have hXD:(xs.map bo).length=xs.length:=af ..;have hxi:∀h:i<(xs.map bo).length,(xs.map bo)[i]'h=(D.arr 64 .leaf (aq .u8 (pad (row xs[i])))):=fun h=>by rw [bb]
  have w4:=wi i;have h24:(i+1)*24≤1099511627776:=by omega
  have htk:(xs.take (i+1)).map bf=(xs.take i).map bf++[(D.sl .leaf (aq .i64 (row xs[i])))]:=by rw [br hlt,cj]; rfl
  have hL:((xs.take i).map bf).length=i:=by rw [af,b8]; omega
  have htt:((xs.take i).map bf).take i=(xs.take i).map bf:=aw (by omega)
  obtain ⟨cp',ih⟩:=a4u hro hl hx r (i+1) none (by omega)
  refine ⟨cp',bn ?_ ih⟩;rw [htk];generalize pad (row xs[i])=Pi at *;generalize row xs[i]=Ri at *;generalize xs.map bo=XD,(xs.take i).map bf=TD at *;simp -implicitDefEqProofs [Z1s_L0,ap,hlt,hXD,hxi,e1,h24,hL,htt,w4,List.replicate]
def Qe (O:am):Prop:=∀(p:Int) [IsP p] (xs:List (Fp p)),xs.length<2000000→(∀x∈xs,x.len≤64)→ask O F1s [.sl (.arr 64 .leaf) (xs.map bo)]=some (.sl .leaf (xs.map bf))
theorem Yc {O:am} (hpo:Rj O) {xs:List (Fp p)} (hl:xs.length<2000000) (hx:∀x∈xs,x.len≤64):∀(r i:Nat) (cp:Option Nat),i+r=xs.length→∃cp':Option Nat,
 dn O 0 (.loop Zz_L0) ⟨[(3,.sl 0 [] 0 i cp),(6,.d (.sl .leaf (xs.map bf))),(7,(.d (.int .i64 xs.length))),(8,(.d (.int .i64 i)))],[.sl false (.arr 64 .leaf) ((xs.take i).map bo),.hole,.hole]⟩ =
  some (.exit 0,⟨[(3,.sl 0 [] 0 xs.length cp'),(6,.d (.sl .leaf (xs.map bf))),(7,(.d (.int .i64 xs.length))),(8,(.d (.int .i64 xs.length))),(9,(.d (.bool false)))],[.sl false (.arr 64 .leaf) (xs.map bo),.hole,.hole]⟩)
 | 0,i,cp,hi=>by
  obtain rfl:i=xs.length:=by omega
  rw [iq];refine ⟨cp,bu ?_⟩;generalize xs.map bf=RD,xs.map bo=XD at *;simp -implicitDefEqProofs [Zz_L0,ap]
 | r+1,i,cp,hi=>by
  have hlt:i<xs.length:=by omega
  have hm:=az hlt;have e1:=hpo p xs[i] (hx _ hm);have hXD:(xs.map bf).length=xs.length:=af ..;have hxi:∀h:i<(xs.map bf).length,(xs.map bf)[i]'h=(D.sl .leaf (aq .i64 (row xs[i]))):=fun h=>by rw [bb]
  have w4:=wi i;have h24:(i+1)*64≤1099511627776:=by omega
  have htk:(xs.take (i+1)).map bo=(xs.take i).map bo++[(D.arr 64 .leaf (aq .u8 (pad (row xs[i]))))]:=by rw [br hlt,cj]; rfl
  have hL:((xs.take i).map bo).length=i:=by rw [af,b8]; omega
  have htt:((xs.take i).map bo).take i=(xs.take i).map bo:=aw (by omega)
  obtain ⟨cp',ih⟩:=Yc hpo hl hx r (i+1) none (by omega)
  refine ⟨cp',bn ?_ ih⟩;rw [htk];generalize pad (row xs[i])=Pi at *;generalize row xs[i]=Ri at *;generalize xs.map bf=XD,(xs.take i).map bo=TD at *;simp -implicitDefEqProofs [Zz_L0,ap,hlt,hXD,hxi,e1,h24,hL,htt,w4,List.replicate]
def It (O:am):Prop:=∀(p:Int) [IsP p] (xs:List (Fp p)),xs.length<2000000→(∀x∈xs,x.len≤64)→ask O Fz [.sl .leaf (xs.map bf)]=some (.sl (.arr 64 .leaf) (xs.map bo))
end
theorem adm (hT:T F1s=some Z1s) (hro:zd (den T A)):Qe (den T A):=by
 intro p ip xs hl hx;obtain ⟨cp,e⟩:=a4u (O:=den T A) hro hl hx xs.length 0 (some 0) (b9 _);have e00:((0:Nat):Int)=0:=rfl;rw [e00,cx,fa] at e;have h1:(xs.map bf).length=xs.length:=af ..;have h2:(xs.map bo).length=xs.length:=af ..;have htk:(xs.map bf).take xs.length=xs.map bf:=aw (by omega)
 refine c9 hT rfl ?_;generalize xs.map bf=RD,xs.map bo=XD at *;simp -implicitDefEqProofs [Z1s,Z1s_B,h1,h2,htk,e]
theorem abb (hT:T Fz=some Zz) (hpo:Rj (den T A)):It (den T A):=by
 intro p ip xs hl hx;obtain ⟨cp,e⟩:=Yc (O:=den T A) hpo hl hx xs.length 0 (some 0) (b9 _);have e00:((0:Nat):Int)=0:=rfl;rw [e00,cx,fa] at e;have h1:(xs.map bo).length=xs.length:=af ..;have h2:(xs.map bf).length=xs.length:=af ..;have htk:(xs.map bo).take xs.length=xs.map bo:=aw (by omega)
 refine c9 hT rfl ?_;generalize xs.map bf=RD,xs.map bo=XD at *;simp -implicitDefEqProofs [Zz,Zz_B,h1,h2,htk,e]
def Qd (O:am):Prop:=∀(p:Int) [IsP p] (xs:List (Fp p)),(∀x∈xs,x.len≤11)→xs.length<2000000→ask O F1c [(D.int .i64 p),.sl .leaf (xs.map bf)]=some (D.int .i64 ((gd xs []).length))
theorem af7 (hT:T F1c=some Z1c) (hr:H2 (den T A)):Qd (den T A):=by
 intro p ip xs hx hl;have e:=hr p xs hx hl;have h1:((gd xs []).map bf).length=(gd xs []).length:=af ..;refine c9 hT rfl ?_;generalize xs.map bf=RD,(gd xs []).map bf=SD at *;simp -implicitDefEqProofs [Z1c,Z1c_B,e,h1]
def D9 (p:Int) (l:List Int) (ls:List (List Int)):Prop:=∃(_:IsP p) (m:Fp p),l=pad (row m)∧Fld m∧Mz m ls
theorem Mi {p:Int} {l:List Int} {ls:List (List Int)}:Gy p l ls=0↔D9 p l ls:=by
 unfold Gy;constructor
 ·intro h1
  split at h1
  ·rename_i g; exact g
  ·cases h1
 ·intro h; exact if_pos h
section
variable {p:Int}
theorem Dk {a:Fp p} (ha:a.len≤64) {n:Nat}:∀h:n<(pad (row a)).length,(pad (row a))[n]'h=rep (a.c n):=fun h=>by
 rw [←ft h,ro ha]
end
section
variable {p:Int} [IsP p]
theorem a0q {O:am} (hadd:m8 O) {a b:Fp p} (ha:a.len≤64) (hb:b.len≤64):ask O F3c [(D.int .i64 p),(D.arr 64 .leaf (aq .u8 (pad (row b)))),(D.arr 64 .leaf (aq .u8 (pad (row a)))),(D.int .i64 (-rep (b.c (a.len-1))))]=some (D.arr 64 .leaf (aq .u8 (pad (row (elim a b))))):=by
 have h:=vf (b.c (a.len-1));have:=hadd p (-rep (b.c (a.len-1))) b a (by omega) (by omega) hb ha
 rw [Jp,mw] at this;exact this
theorem a50 {O:am} (hdg:jw O) (hadd:m8 O) {L:List (Fp p)} {N:Nat} (hN:N≤11) (hL:Desc N L):∀(r i:Nat) (a:Fp p),i+r=L.length→a.len≤N →
 dn O 0 (.loop Z40_L0) ⟨[(0,(.d (.int .i64 p))),(1,.d (.sl (.arr 64 .leaf) (L.map bo))),(5,.ptr 0 []),(7,(.d (.int .i64 i)))],[.box false (D.arr 64 .leaf (aq .u8 (pad (row a)))),.hole,.hole,.hole,.hole,.hole,.hole,.hole]⟩ =
  some (.exit 0,⟨[(0,(.d (.int .i64 p))),(1,.d (.sl (.arr 64 .leaf) (L.map bo))),(5,.ptr 0 []),(7,(.d (.int .i64 L.length))),(16,(.d (.bool false)))],[.box false (D.arr 64 .leaf (aq .u8 (pad (row (fd (L.drop i) a))))),.hole,.hole,.hole,.hole,.hole,.hole,.hole]⟩)
 | 0,i,a,hi,ha=>by
  obtain rfl:i=L.length:=by omega
  have hLD:(L.map bo).length=L.length:=af ..;rw [fj];refine bu ?_;show _=some (_,(⟨_,[.box false (D.arr 64 .leaf (aq .u8 (pad (row a)))),_,_,_,_,_,_,_]⟩:St));generalize L.map bo=LD,pad (row a)=Pa at *;simp -implicitDefEqProofs [Z40_L0,ap,hLD]
 | r+1,i,a,hi,ha=>by
  have hlt:i<L.length:=by omega
  have hm:=az hlt;have hbl:=hL.le _ hm;have hbp:=Pol.len_pos (hL.mon _ hm).2;have hll:=hL.length;have hLD:(L.map bo).length=L.length:=af ..;have hx:∀h:i<(L.map bo).length,(L.map bo)[i]'h=(D.arr 64 .leaf (aq .u8 (pad (row L[i])))):=fun h=>by rw [bb]
  have e1:=hdg p L[i] (by omega)
  rw [show (L[i].len:Int)-1=((L[i].len-1:Nat):Int) by omega] at e1
  have e2:=a0q hadd (a:=L[i]) (b:=a) (by omega) (by omega)
  have hat:=Dk (a:=a) (by omega) (n:=L[i].len-1)
  have hPl:=di (row a);have hd64:L[i].len-1<64:=by omega
  have hr:=vf (a.c (L[i].len-1));have w1:IntKind.i64.wrap (rep (a.c (L[i].len-1)))=rep (a.c (L[i].len-1)):=wt;have w2:IntKind.i64.wrap (-rep (a.c (L[i].len-1)))=-rep (a.c (L[i].len-1)):=wt;have w4:=wi i;have hd:fd (L.drop i) a=fd (L.drop (i+1)) (elim L[i] a):=by rw [c8 hlt]; rfl
  rw [hd];refine bn ?_ (a50 hdg hadd hN hL r (i+1) (elim L[i] a) (by omega) (xg hbl ha))
  by_cases h0:rep (a.c (L[i].len-1))=0
  ·have hz:elim L[i] a=a:=by
    unfold elim;rw [io.1 h0,ud,Pol.C_zero,Gq.zero_mul,Gq.add_zero]
   rw [hz];rw [h0] at hat;generalize pad (row a)=Pa at *;generalize pad (row L[i])=Pi at *;generalize L[i].len-1=d at *;generalize L.map bo=LD at *;simp -implicitDefEqProofs [Z40_L0,ap,hlt,hLD,hx,e1,hat,hPl,hd64,w4]
  ·generalize rep (a.c (L[i].len-1))=k at *
   generalize pad (row (elim L[i] a))=Pe at *;generalize pad (row a)=Pa at *;generalize pad (row L[i])=Pi at *;generalize L[i].len-1=d at *;generalize L.map bo=LD at *;simp -implicitDefEqProofs [Z40_L0,ap,hlt,hLD,hx,e1,e2,hat,hPl,hd64,h0,w1,w2,w4]
theorem adr {O:am} {p:Int} {Pa:List Int} {d ql n:Nat} {LD QD:List D} {cp:Option Nat} {b:Bool} (hLD:LD.length=n) :
 dn O 0 Z40_L1 ⟨[(0,(.d (.int .i64 p))),(1,.d (.sl (.arr 64 .leaf) LD)),(5,.ptr 0 []),(9,(.d (.int .i64 ((d:Int))))),(10,.sl 1 [] 0 ql cp),(11,(.d (.bool b))),(12,(.d (.int .i64 n)))],[.box false (D.arr 64 .leaf (aq .u8 Pa)),.sl false (.arr 64 .leaf) QD,.hole,.hole,.hole,.hole,.hole,.hole]⟩=some (.exit 2,⟨[(0,(.d (.int .i64 p))),(1,.d (.sl (.arr 64 .leaf) LD)),(5,.ptr 0 []),(9,(.d (.int .i64 ((d:Int))))),(10,.sl 1 [] 0 ql cp),(11,(.d (.bool b))),(12,(.d (.int .i64 n))),(59,(.d (.bool false)))],[.box false (D.arr 64 .leaf (aq .u8 Pa)),.sl false (.arr 64 .leaf) QD,.hole,.hole,.hole,.hole,.hole,.hole]⟩):=by
 simp -implicitDefEqProofs [Z40_L1,ap,hLD]
theorem aep {O:am} {p k:Int} {Pa Pi Pe:List Int} {d ql i n:Nat} {LD QD:List D} {cp:Option Nat} (hlt:i<n) (hLD:LD.length=n) (hx:∀h:i<LD.length,LD[i]'h=(D.arr 64 .leaf (aq .u8 Pi))) (e2:ask O F3c [(D.int .i64 p),(D.arr 64 .leaf (aq .u8 Pi)),(D.arr 64 .leaf (aq .u8 Pa)),(D.int .i64 (-k))]=some (D.arr 64 .leaf (aq .u8 Pe)))
 (hat:∀h:d<Pi.length,Pi[d]'h=k) (hPl:Pi.length=64) (hd64:d<64) (hQD:QD.length=ql) (htq:QD.take ql=QD) (h64:(ql+1)*64≤1099511627776) (w1:IntKind.i64.wrap k=k) (w2:IntKind.i64.wrap (-k)=-k) (w4:IntKind.i64.wrap ((i:Int)+1)=((i+1:Nat):Int)) :
 dn O 0 Z40_L1 ⟨[(0,(.d (.int .i64 p))),(1,.d (.sl (.arr 64 .leaf) LD)),(5,.ptr 0 []),(9,(.d (.int .i64 ((d:Int))))),(10,.sl 1 [] 0 ql cp),(11,(.d (.bool true))),(12,(.d (.int .i64 i)))],[.box false (D.arr 64 .leaf (aq .u8 Pa)),.sl false (.arr 64 .leaf) QD,.hole,.hole,.hole,.hole,.hole,.hole]⟩=some (.normal,⟨[(0,(.d (.int .i64 p))),(1,.d (.sl (.arr 64 .leaf) LD)),(5,.ptr 0 []),(9,(.d (.int .i64 ((d:Int))))),(10,.sl 1 [] 0 (ql+1) none),(11,(.d (.bool true))),(12,(.d (.int .i64 (((i+1:Nat):Int)))))],[.box false (D.arr 64 .leaf (aq .u8 Pa)),.sl false (.arr 64 .leaf) (QD++[(D.arr 64 .leaf (aq .u8 Pe))]),.hole,.hole,.hole,.hole,.hole,.hole]⟩):=by
 simp -implicitDefEqProofs [Z40_L1,ap,hlt,hLD,hx,e2,hat,hPl,hd64,hQD,htq,h64,w1,w2,w4,List.replicate]
theorem a3n {α:Type} {QD:List α} {ql:Nat} (h:QD.length=ql) (z:α):(QD++[z]).take (ql+1)=QD++[z]:=aw (by rw [bg,h]; exact ba _)
theorem adp {O:am} {p k:Int} {Pa Pi Pe:List Int} {d d2 ql i n:Nat} {LD QD:List D} {cp:Option Nat} (hlt:i<n) (hLD:LD.length=n) (hx:∀h:i<LD.length,LD[i]'h=(D.arr 64 .leaf (aq .u8 Pi))) (e1:ask O F3e [(D.arr 64 .leaf (aq .u8 Pi))]=some (D.int .i64 ((d2:Int)))) (e2:ask O F3c [(D.int .i64 p),(D.arr 64 .leaf (aq .u8 Pi)),(D.arr 64 .leaf (aq .u8 Pa)),(D.int .i64 (-k))]=some (D.arr 64 .leaf (aq .u8 Pe)))
 (hat:∀h:d<Pi.length,Pi[d]'h=k) (hPl:Pi.length=64) (hd64:d<64) (hQD:QD.length=ql) (htq:QD.take ql=QD) (h64:(ql+1)*64≤1099511627776) (h64':(ql+1+1)*64≤1099511627776) (w1:IntKind.i64.wrap k=k) (w2:IntKind.i64.wrap (-k)=-k) (w4:IntKind.i64.wrap ((i:Int)+1)=((i+1:Nat):Int)) (hdl:d2<d) :
 dn O 0 Z40_L1 ⟨[(0,(.d (.int .i64 p))),(1,.d (.sl (.arr 64 .leaf) LD)),(5,.ptr 0 []),(9,(.d (.int .i64 ((d:Int))))),(10,.sl 1 [] 0 ql cp),(11,(.d (.bool false))),(12,(.d (.int .i64 i)))],[.box false (D.arr 64 .leaf (aq .u8 Pa)),.sl false (.arr 64 .leaf) QD,.hole,.hole,.hole,.hole,.hole,.hole]⟩=some (.normal,⟨[(0,(.d (.int .i64 p))),(1,.d (.sl (.arr 64 .leaf) LD)),(5,.ptr 0 []),(9,(.d (.int .i64 ((d:Int))))),(10,.sl 1 [] 0 (ql+2) none),(11,(.d (.bool true))),(12,(.d (.int .i64 (((i+1:Nat):Int)))))],[.box false (D.arr 64 .leaf (aq .u8 Pa)),.sl false (.arr 64 .leaf) (QD++[(D.arr 64 .leaf (aq .u8 Pa)),(D.arr 64 .leaf (aq .u8 Pe))]),.hole,.hole,.hole,.hole,.hole,.hole]⟩):=by
 have htq2:=fun z:D=>a3n hQD z
 simp -implicitDefEqProofs [Z40_L1,ap,hlt,hLD,hx,e1,e2,hat,hPl,hd64,hdl,hQD,htq,htq2,h64,h64',w1,w2,w4,List.replicate]
theorem afc {O:am} {p k:Int} {Pa Pi Pe:List Int} {d d2 ql i n:Nat} {LD QD:List D} {cp:Option Nat} (hlt:i<n) (hLD:LD.length=n) (hx:∀h:i<LD.length,LD[i]'h=(D.arr 64 .leaf (aq .u8 Pi))) (e1:ask O F3e [(D.arr 64 .leaf (aq .u8 Pi))]=some (D.int .i64 ((d2:Int)))) (e2:ask O F3c [(D.int .i64 p),(D.arr 64 .leaf (aq .u8 Pi)),(D.arr 64 .leaf (aq .u8 Pa)),(D.int .i64 (-k))]=some (D.arr 64 .leaf (aq .u8 Pe)))
 (hat:∀h:d<Pi.length,Pi[d]'h=k) (hPl:Pi.length=64) (hd64:d<64) (hQD:QD.length=ql) (htq:QD.take ql=QD) (h64:(ql+1)*64≤1099511627776) (w1:IntKind.i64.wrap k=k) (w2:IntKind.i64.wrap (-k)=-k) (w4:IntKind.i64.wrap ((i:Int)+1)=((i+1:Nat):Int)) (hdl:¬ d2<d) :
 dn O 0 Z40_L1 ⟨[(0,(.d (.int .i64 p))),(1,.d (.sl (.arr 64 .leaf) LD)),(5,.ptr 0 []),(9,(.d (.int .i64 ((d:Int))))),(10,.sl 1 [] 0 ql cp),(11,(.d (.bool false))),(12,(.d (.int .i64 i)))],[.box false (D.arr 64 .leaf (aq .u8 Pa)),.sl false (.arr 64 .leaf) QD,.hole,.hole,.hole,.hole,.hole,.hole]⟩=some (.normal,⟨[(0,(.d (.int .i64 p))),(1,.d (.sl (.arr 64 .leaf) LD)),(5,.ptr 0 []),(9,(.d (.int .i64 ((d:Int))))),(10,.sl 1 [] 0 (ql+1) none),(11,(.d (.bool false))),(12,(.d (.int .i64 (((i+1:Nat):Int)))))],[.box false (D.arr 64 .leaf (aq .u8 Pa)),.sl false (.arr 64 .leaf) (QD++[(D.arr 64 .leaf (aq .u8 Pe))]),.hole,.hole,.hole,.hole,.hole,.hole]⟩):=by
 simp -implicitDefEqProofs [Z40_L1,ap,hlt,hLD,hx,e1,e2,hat,hPl,hd64,hdl,hQD,htq,h64,w1,w2,w4,List.replicate]
theorem Gp {O:am} (hdg:jw O) (hadd:m8 O) {L:List (Fp p)} {N:Nat} (hN:N≤11) (hL:Desc N L) {a:Fp p} (ha:a≠0) (hal:a.len≤N) {i:Nat} (hlt:i<L.length) :
 (∀h:i<(L.map bo).length,(L.map bo)[i]'h=(D.arr 64 .leaf (aq .u8 (pad (row L[i])))))∧ask O F3e [(D.arr 64 .leaf (aq .u8 (pad (row L[i]))))]=some (D.int .i64 (((L[i].len-1:Nat):Int))) ∧
 ask O F3c [(D.int .i64 p),(D.arr 64 .leaf (aq .u8 (pad (row L[i])))),(D.arr 64 .leaf (aq .u8 (pad (row a)))),(D.int .i64 (-rep (L[i].c (a.len-1))))]=some (D.arr 64 .leaf (aq .u8 (pad (row (elim a L[i]))))) ∧
 (∀h:a.len-1<(pad (row L[i])).length,(pad (row L[i]))[a.len-1]'h=rep (L[i].c (a.len-1)))∧(pad (row L[i])).length=64 ∧
 IntKind.i64.wrap (rep (L[i].c (a.len-1)))=rep (L[i].c (a.len-1))∧IntKind.i64.wrap (-rep (L[i].c (a.len-1)))=-rep (L[i].c (a.len-1)) ∧
 IntKind.i64.wrap ((i:Int)+1)=((i+1:Nat):Int)∧a.len-1<64:=by
 have hm:=az hlt;have hbl:=hL.le _ hm;have hbp:=Pol.len_pos (hL.mon _ hm).2;have hap:=Pol.len_pos ha;have hll:=hL.length;have e1:=hdg p L[i] (by omega)
 rw [show (L[i].len:Int)-1=((L[i].len-1:Nat):Int) by omega] at e1
 have hr:=vf (L[i].c (a.len-1));exact ⟨fun h=>by rw [bb],e1,a0q hadd (a:=a) (b:=L[i]) (by omega) (by omega),Dk (a:=L[i]) (by omega) (n:=a.len-1),di _,w64 (by omega),w64 (by omega),(w64 (x:=(i:Int)+1) (by omega)).trans (by omega),by omega⟩
theorem Rn {O:am} (hdg:jw O) (hadd:m8 O) {L:List (Fp p)} {N:Nat} (hN:N≤11) (hL:Desc N L) {a:Fp p} (ha:a≠0) (hal:a.len≤N):∀(r i:Nat) (Q:List (Fp p)) (b:Bool) (cp:Option Nat),i+r=L.length→Q.length≤i+b.toNat→∃(Q':List (Fp p)) (b':Bool) (cp':Option Nat),
 dn O 0 (.loop Z40_L1) ⟨[(0,(.d (.int .i64 p))),(1,.d (.sl (.arr 64 .leaf) (L.map bo))),(5,.ptr 0 []),(9,(.d (.int .i64 (((a.len-1:Nat):Int))))),(10,.sl 1 [] 0 Q.length cp),(11,(.d (.bool b))),(12,(.d (.int .i64 i)))],[.box false (D.arr 64 .leaf (aq .u8 (pad (row a)))),.sl false (.arr 64 .leaf) (Q.map bo),.hole,.hole,.hole,.hole,.hole,.hole]⟩ =
  some (.exit 2,⟨[(0,(.d (.int .i64 p))),(1,.d (.sl (.arr 64 .leaf) (L.map bo))),(5,.ptr 0 []),(9,(.d (.int .i64 (((a.len-1:Nat):Int))))),(10,.sl 1 [] 0 Q'.length cp'),(11,(.d (.bool b'))),(12,(.d (.int .i64 L.length))),(59,(.d (.bool false)))],[.box false (D.arr 64 .leaf (aq .u8 (pad (row a)))),.sl false (.arr 64 .leaf) (Q'.map bo),.hole,.hole,.hole,.hole,.hole,.hole]⟩) ∧
  (if b' then Q' else Q'++[a])=Q++(if b then (L.drop i).map (elim a) else yn a (L.drop i))∧Q'.length≤L.length+1
 | 0,i,Q,b,cp,hi,hq=>by
  obtain rfl:i=L.length:=by omega
  have hLD:(L.map bo).length=L.length:=af ..;refine ⟨Q,b,cp,bu ?_,?_,by have:=Bool.toNat_le b; omega⟩
  ·exact adr hLD
  ·rw [fj]
   cases b <;> simp [yn]
 | r+1,i,Q,b,cp,hi,hq=>by
  have hlt:i<L.length:=by omega
  have hll:=hL.length;have hbt:=Bool.toNat_le b;have hir:i+1+r=L.length:=by omega
  have hQl:Q.length≤12:=by omega
  have h64:(Q.length+1)*64≤1099511627776:=ju (ff 64 (Nat.succ_le_succ hQl)) (by decide)
  have h64':(Q.length+1+1)*64≤1099511627776:=ju (ff 64 (Nat.succ_le_succ (Nat.succ_le_succ hQl))) (by decide)
  have hLD:(L.map bo).length=L.length:=af ..;have hd:L.drop i=L[i]::L.drop (i+1):=c8 hlt;have hQD:(Q.map bo).length=Q.length:=af ..;have htq:(Q.map bo).take Q.length=Q.map bo:=aw (by omega)
  have hq1:∀x:Fp p,(Q++[x]).map bo=Q.map bo++[(D.arr 64 .leaf (aq .u8 (pad (row x))))]:=fun x=>by rw [cj]; rfl
  have hl1:∀x:Fp p,(Q++[x]).length=Q.length+1:=fun x=>by rw [bg]; rfl
  have hq2:∀x y:Fp p,(Q++[x,y]).map bo=Q.map bo++[(D.arr 64 .leaf (aq .u8 (pad (row x)))),(D.arr 64 .leaf (aq .u8 (pad (row y))))]:=fun x y=>by rw [cj]; rfl
  have hl2:∀x y:Fp p,(Q++[x,y]).length=Q.length+2:=fun x y=>by rw [bg]; rfl
  have hap:=Pol.len_pos ha;have hbp:=Pol.len_pos (hL.mon _ (az hlt)).2;cases b with
  | true=>
   obtain ⟨Q',b',cp',g1,g2,g3⟩:=Rn hdg hadd hN hL ha hal r (i+1) (Q++[elim a L[i]]) true none hir (by rw [hl1]; simp only [Bool.toNat_true] at hq ⊢; omega)
   refine ⟨Q',b',cp',bn ?_ g1,?_,g3⟩
   ·obtain ⟨hx,e1,e2,hat,hPl,w1,w2,w4,hd64⟩:=Gp hdg hadd hN hL ha hal hlt
    rw [hq1,hl1]; exact aep hlt hLD hx e2 hat hPl hd64 hQD htq h64 w1 w2 w4
   ·rw [g2,hd]; simp only [if_true,gq,ek,cz,cw]
  | false=>
   by_cases hlen:L[i].len<a.len
   ·have hdl:L[i].len-1<a.len-1:=by omega
    obtain ⟨Q',b',cp',g1,g2,g3⟩:=Rn hdg hadd hN hL ha hal r (i+1) (Q++[a,elim a L[i]]) true none hir (by rw [hl2]; simp only [Bool.toNat_true,Bool.toNat_false] at hq ⊢; omega)
    refine ⟨Q',b',cp',bn ?_ g1,?_,g3⟩
    ·obtain ⟨hx,e1,e2,hat,hPl,w1,w2,w4,hd64⟩:=Gp hdg hadd hN hL ha hal hlt
     rw [hq2,hl2]; exact adp hlt hLD hx e1 e2 hat hPl hd64 hQD htq h64 h64' w1 w2 w4 hdl
    ·rw [g2,hd]
     show _=Q++(if L[i].len<a.len then a::(L[i]::L.drop (i+1)).map (elim a) else elim a L[i]::yn a (L.drop (i+1)))
     rw [if_pos hlen]; simp only [if_true,gq,ek,cz,cw]
   ·have hdl:¬ (L[i].len-1<a.len-1):=by omega
    obtain ⟨Q',b',cp',g1,g2,g3⟩:=Rn hdg hadd hN hL ha hal r (i+1) (Q++[elim a L[i]]) false none hir (by rw [hl1]; simp only [Bool.toNat_false] at hq ⊢; omega)
    refine ⟨Q',b',cp',bn ?_ g1,?_,g3⟩
    ·obtain ⟨hx,e1,e2,hat,hPl,w1,w2,w4,hd64⟩:=Gp hdg hadd hN hL ha hal hlt
     rw [hq1,hl1]; exact afc hlt hLD hx e1 e2 hat hPl hd64 hQD htq h64 w1 w2 w4 hdl
    ·rw [g2,hd]
     show _=Q++(if L[i].len<a.len then a::(L[i]::L.drop (i+1)).map (elim a) else elim a L[i]::yn a (L.drop (i+1)))
     rw [if_neg hlen]; simp
end
def Qo (O:am):Prop:=∀(p:Int) [IsP p] (L:List (Fp p)) (x:Fp p),Desc 11 L→x.len≤11→ask O F40 [(D.int .i64 p),.sl (.arr 64 .leaf) (L.map bo),(D.arr 64 .leaf (aq .u8 (pad (row x))))]=some (.sl (.arr 64 .leaf) ((Az L x).map bo))
theorem af9 (hT:T F40=some Z40) (hdg:jw (den T A)) (hinv:tc (den T A)) (hadd:m8 (den T A)):Qo (den T A):=by
 intro p ip L x hL hx;have e0:=a50 (O:=den T A) hdg hadd (ba 11) hL L.length 0 x (b9 _) hx;have e00:((0:Nat):Int)=0:=rfl;rw [e00,dh] at e0;have hrl:=Eu (L:=L) hL.le hx;have e1:=hdg p (fd L x) (by omega)
 refine c9 hT rfl ?_
 by_cases h0:fd L x=0
 ·rw [Cg h0]
  rw [h0,dj,Pol.len_zero] at e1;rw [h0,dj] at e0;generalize L.map bo=LD,pad (row x)=Px at *;simp -implicitDefEqProofs [Z40,Z40_B,ap,e0,e1]
 ·rw [Bv h0]
  have hap:=Pol.len_pos h0;have hml:=uu h0;have hmm:=px h0;have hld0:=Pol.ld_ne h0;have hri:=o7 (fd L x).ld;have hr0:rep (fd L x).ld≠0:=fun h=>hld0 (io.1 h)
  rw [show ((fd L x).len:Int)-1=(((fd L x).len-1:Nat):Int) by omega] at e1
  have hat:=Dk (a:=fd L x) (by omega) (n:=(fd L x).len-1)
  rw [show (fd L x).c ((fd L x).len-1)=(fd L x).ld from rfl] at hat;have hPl:=di (row (fd L x));have hd64:(fd L x).len-1<64:=by omega
  have e2:=hinv p (rep (fd L x).ld) (by omega) (by omega)
  have hin:=zq (p:=p) (rep (fd L x).ld);have hp7:=IsP.le (p:=p);have e3:=hadd p (inv p (rep (fd L x).ld)) 0 (fd L x) (by omega) (by omega) (by rw [Pol.len_zero]; omega) (by omega)
  rw [vw _ hld0,Gq.zero_add,show Pol.C (Fd.inv (fd L x).ld)*fd L x=Gq.mon (fd L x) from rfl,dj] at e3;have w1:IntKind.i64.wrap (inv p (rep (fd L x).ld))=inv p (rep (fd L x).ld):=wt;obtain ⟨Q',b',cp',g1,g2,g3⟩:=Rn (O:=den T A) hdg hadd (ba 11) hL hmm.2 (by omega) L.length 0 [] false (some 0) (b9 _) (by simp)
  rw [e00,fa,da,hml] at g1;simp only [dh,cw,b5,if_false] at g2;have hn0:¬ (((fd L x).len-1:Nat):Int)<0:=by omega
  have hll:=hL.length;have hQD:(Q'.map bo).length=Q'.length:=af ..;have htq:(Q'.map bo).take Q'.length=Q'.map bo:=aw (by omega)
  have h64:(Q'.length+1)*64≤1099511627776:=by omega
  cases b' with
  | true=>
   simp only [if_true] at g2;rw [←g2];generalize Q'.length=ql,Q'.map bo=QD,L.map bo=LD,(fd L x).len-1=d,pad (row x)=Px,pad (row (fd L x))=P1,pad (row (Gq.mon (fd L x)))=P2,rep (fd L x).ld=k2,inv p (rep (fd L x).ld)=k1 at *;simp -implicitDefEqProofs [Z40,Z40_B,ap,e0,e1,e2,e3,g1,hat,hPl,hd64,hn0,hQD,htq,w1]
  | false=>
   simp only [b5,if_false] at g2;rw [←g2,show (Q'++[Gq.mon (fd L x)]).map bo=Q'.map bo++[(D.arr 64 .leaf (aq .u8 (pad (row (Gq.mon (fd L x))))))] by rw [cj]; rfl]
   have htq2:∀z:D,(Q'.map bo++[z]).take (Q'.length+1)=Q'.map bo++[z]:=fun z=>aw (by rw [bg,hQD]; exact ba _)
   generalize Q'.length=ql,Q'.map bo=QD,L.map bo=LD,(fd L x).len-1=d,pad (row x)=Px,pad (row (fd L x))=P1,pad (row (Gq.mon (fd L x)))=P2,rep (fd L x).ld=k2,inv p (rep (fd L x).ld)=k1 at *;simp -implicitDefEqProofs [Z40,Z40_B,ap,e0,e1,e2,e3,g1,hat,hPl,hd64,hn0,hQD,htq,htq2,h64,w1,List.replicate]
end Pe
namespace Pe
open Go Gq
variable {T:Nat→Option Fn} {A:am}
open Classical in
theorem ad2 {O:am} (hr:R9 O) {p:Int} [IsP p] {m:Fp p} (hm:m.len≤64) {ls:List (List Int)} (h:wq ls) (hl:ls.length<2000000):∀(k i:Nat),i+k=ls.length →
 dn O 0 (.loop Z42_L0) ⟨[(0,(.d (.int .i64 p))),(2,.d (.sl (.arr 64 .leaf) (ls.map bh))),(4,.ptr 0 []),(7,(.d (.int .i64 i)))],[.box false (D.arr 64 .leaf (aq .u8 (pad (row m))))]⟩ =
  if Mz m (ls.drop i) then some (.exit 0,⟨[(0,(.d (.int .i64 p))),(2,.d (.sl (.arr 64 .leaf) (ls.map bh))),(4,.ptr 0 []),(7,(.d (.int .i64 ls.length))),(15,(.d (.bool false)))],[.box false (D.arr 64 .leaf (aq .u8 (pad (row m))))]⟩) else some (.ret,⟨[(6,(.d (.int .i64 1)))],[.hole]⟩)
 | 0,i,hi=>by
  obtain rfl:i=ls.length:=by omega
  rw [if_pos (by rw [fj]; exact a7z m)]
  have hL:(ls.map bh).length=ls.length:=af ..;refine bu ?_;generalize ls.map bh=LD,pad (row m)=Pm at *;simp -implicitDefEqProofs [Z42_L0,ap,hL]
 | k+1,i,hi=>by
  have hlt:i<ls.length:=by omega
  have hm1:=az hlt;have e1:=hr p m ls[i] hm (h _ hm1).2 (h _ hm1).1;have hL:(ls.map bh).length=ls.length:=af ..;have w4:=wi i;have hx2:∀h:i<(ls.map bh).length,(ls.map bh)[i]'h=(D.arr 64 .leaf (aq .u8 (ls[i]))):=fun h=>by rw [bb]
  have hd:ls.drop i=ls[i]::ls.drop (i+1):=c8 hlt;have ih:=ad2 hr hm h hl k (i+1) (by omega)
  rw [hd]
  by_cases hres:ui m ls[i]
  ·rw [decide_eq_true hres] at e1
   have hiff:Mz m (ls[i]::ls.drop (i+1))↔Mz m (ls.drop (i+1)):=⟨fun h=>(Bd.1 h).2,fun h=>Bd.2 ⟨hres,h⟩⟩
   rw [propext hiff];refine bn ?_ ih;generalize ls[i]=li at *;generalize ls.map bh=LD,pad (row m)=Pm at *;simp -implicitDefEqProofs [Z42_L0,ap,hlt,hx2,hL,e1,w4]
  ·rw [decide_eq_false hres] at e1
   rw [if_neg (fun h=>hres (Bd.1 h).1)]
   refine u5 ?_;generalize ls[i]=li at *;generalize ls.map bh=LD,pad (row m)=Pm at *;simp -implicitDefEqProofs [Z42_L0,ap,hlt,hx2,hL,e1]
open Classical in
theorem a2c (hT:T F42=some Z42) (hf:Mp (den T A)) (hi:R9 (den T A)):uz (den T A) F42:=by
 intro p l ls hb hl h hlen;have e1:=hf p l hb hl;refine c9 hT rfl ?_;unfold Gy
 by_cases hfl:I7 p l
 ·rw [decide_eq_true hfl] at e1
  obtain ⟨ip,m,rfl,hm⟩:=hfl;have h5:=hm.five;have e2:=ad2 (O:=den T A) hi (m:=m) (by omega) h hlen ls.length 0 (b9 _)
  have e00:((0:Nat):Int)=0:=rfl;rw [e00,dh] at e2;have hc:=V0 hm (Q:=fun ip m'=>∀x∈ls,@ui p ip m' x)
  by_cases hs:Mz m ls
  ·rw [if_pos hs] at e2
   rw [if_pos (hc.2 hs)];generalize ls.map bh=LD,pad (row m)=Pm at *;simp -implicitDefEqProofs [Z42,Z42_B,ap,e1,e2]
  ·rw [if_neg hs] at e2
   rw [if_neg (fun h=>hs (hc.1 h))]
   generalize ls.map bh=LD,pad (row m)=Pm at *;simp -implicitDefEqProofs [Z42,Z42_B,ap,e1,e2]
 ·rw [decide_eq_false hfl] at e1
  rw [if_neg (fun ⟨ip,m,e,hm,_⟩=>hfl ⟨ip,m,e,hm⟩)]
  generalize ls.map bh=LD at *;simp -implicitDefEqProofs [Z42,Z42_B,ap,e1]
theorem a0p {O:am} (hp:Qo O) {p:Int} [IsP p] {xs:List (Fp p)} (hx:∀x∈xs,x.len≤11) (hl:xs.length<2000000):∀(k i:Nat) (L:List (Fp p)),i+k=xs.length→Desc 11 L →
 dn O 0 (.loop Z4c_L0) ⟨[(0,(.d (.int .i64 p))),(1,.d (.sl (.arr 64 .leaf) (xs.map bo))),(5,.d (.sl (.arr 64 .leaf) (L.map bo))),(6,(.d (.int .i64 i)))],[.hole]⟩ =
  some (.exit 0,⟨[(0,(.d (.int .i64 p))),(1,.d (.sl (.arr 64 .leaf) (xs.map bo))),(5,.d (.sl (.arr 64 .leaf) ((gd (xs.drop i) L).map bo))),(6,(.d (.int .i64 xs.length))),(11,(.d (.bool false)))],[.hole]⟩)
 | 0,i,L,hi,hL=>by
  obtain rfl:i=xs.length:=by omega
  rw [fj];have hX:(xs.map bo).length=xs.length:=af ..;refine bu ?_;show _=some (_,(⟨[_,_,(5,.d (.sl (.arr 64 .leaf) (L.map bo))),_,_],_⟩:St));generalize xs.map bo=XD,L.map bo=LD at *;simp -implicitDefEqProofs [Z4c_L0,ap,hX]
 | k+1,i,L,hi,hL=>by
  have hlt:i<xs.length:=by omega
  have hm1:=az hlt;have e1:=hp p L xs[i] hL (hx _ hm1);have hX:(xs.map bo).length=xs.length:=af ..;have w4:=wi i;have hx2:∀h:i<(xs.map bo).length,(xs.map bo)[i]'h=(D.arr 64 .leaf (aq .u8 (pad (row xs[i])))):=fun h=>by rw [bb]
  have hd:gd (xs.drop i) L=gd (xs.drop (i+1)) (Az L xs[i]):=by rw [c8 hlt]; rfl
  rw [hd];refine bn ?_ (a0p hp hx hl k (i+1) (Az L xs[i]) (by omega) (Gr hL (hx _ hm1)))
  generalize pad (row xs[i])=Pi at *;generalize (Az L xs[i]).map bo=PD at *;generalize xs.map bo=XD,L.map bo=LD at *;simp -implicitDefEqProofs [Z4c_L0,ap,hlt,hX,hx2,e1,w4]
def Ip (O:am):Prop:=∀(p:Int) [IsP p] (xs:List (Fp p)),(∀x∈xs,x.len≤11)→xs.length<2000000→ask O F4c [(D.int .i64 p),.sl (.arr 64 .leaf) (xs.map bo)]=some (.sl (.arr 64 .leaf) ((gd xs []).map bo))
theorem aaj (hT:T F4c=some Z4c) (hp:Qo (den T A)):Ip (den T A):=by
 intro p ip xs hx hl;cases xs with
 | nil=>
  have st:=bu (O:=den T A) (np:=0) (c:=Z4c_L0) (s:=⟨[(0,(.d (.int .i64 p))),(1,.d (.sl (.arr 64 .leaf) [])),(5,.sl 0 [] 0 0 (some 0)),(6,(.d (.int .i64 0)))],[.sl false (.arr 64 .leaf) []]⟩) (s1:=⟨[(0,(.d (.int .i64 p))),(1,.d (.sl (.arr 64 .leaf) [])),(5,.sl 0 [] 0 0 (some 0)),(6,(.d (.int .i64 0))),(11,(.d (.bool false)))],[.sl false (.arr 64 .leaf) []]⟩) (id:=0) (by simp -implicitDefEqProofs [Z4c_L0,ap])
  refine c9 hT rfl ?_;simp -implicitDefEqProofs [Z4c,Z4c_B,st,gd]
 | cons x xs=>
  have e1:=hp p [] x (Desc.nil 11) (hx x (by simp))
  have e2:=a0p (O:=den T A) hp hx hl xs.length 1 (Az [] x) (by rw [bv]; omega) (Gr (Desc.nil 11) (hx x (by simp)))
  have e01:((1:Nat):Int)=1:=rfl;rw [e01,show (x::xs).drop 1=xs from rfl,show gd xs (Az [] x)=gd (x::xs) [] from rfl] at e2;have hX:((x::xs).map bo).length=(x::xs).length:=af ..;have hx2:∀h:0<((x::xs).map bo).length,((x::xs).map bo)[0]'h=(D.arr 64 .leaf (aq .u8 (pad (row x)))):=fun h=>rfl
  have hpos:(0:Int)<((x::xs).length:Int):=by rw [bv]; omega
  have hpos2:0<(x::xs).length:=by rw [bv]; omega
  have w1:IntKind.i64.wrap 1=1:=wt;rw [fa] at e1;generalize (x::xs).length=n,(x::xs).map bo=XD,pad (row x)=Px,(gd (x::xs) []).map bo=SD,(Az [] x).map bo=PD at *
  have st:=bn (O:=den T A) (np:=0) (c:=Z4c_L0) (s:=⟨[(0,(.d (.int .i64 p))),(1,.d (.sl (.arr 64 .leaf) XD)),(5,.sl 0 [] 0 0 (some 0)),(6,(.d (.int .i64 0)))],[.sl false (.arr 64 .leaf) []]⟩) (by
   simp -implicitDefEqProofs [Z4c_L0,ap,hX,hx2,hpos2,e1,w1]) e2
  refine c9 hT rfl ?_;simp -implicitDefEqProofs [Z4c,Z4c_B,st]
theorem a76 {O:am} (hp:wj O) {ls:List (List Int)} (h:wq ls) (hl:ls.length<2000000):∀(k i:Nat) (Q:List D),i+k=ls.length→Q.length=ls.length→(∀d∈Q,d.sh.beq (.arr 64 .leaf)=true)→Q.take i=(ls.map bh).take i →
 dn O 0 (.loop Z25_L0) ⟨[(0,.d (.sl (.arr 64 .leaf) (ls.map bh))),(3,.sl 0 [] 0 ls.length (some ls.length)),(4,(.d (.int .i64 i)))],[.sl false (.arr 64 .leaf) Q]⟩ =
  some (.exit 0,⟨[(0,.d (.sl (.arr 64 .leaf) (ls.map bh))),(3,.sl 0 [] 0 ls.length (some ls.length)),(4,(.d (.int .i64 ls.length))),(11,(.d (.bool false)))],[.sl false (.arr 64 .leaf) (ls.map bh)]⟩)
 | 0,i,Q,hi,hq,hQ,ht=>by
  obtain rfl:i=ls.length:=by omega
  have hL:(ls.map bh).length=ls.length:=af ..;rw [aw (by omega),aw (by omega)] at ht
  subst ht;refine bu ?_;generalize ls.map bh=LD at *;simp -implicitDefEqProofs [Z25_L0,ap,hL]
 | k+1,i,Q,hi,hq,hQ,ht=>by
  have hlt:i<ls.length:=by omega
  have hm1:=az hlt;have hsh:∀h:i<Q.length,(Q[i]'h).sh.beq (.arr 64 .leaf)=true:=fun h=>hQ _ (az h)
  have e1:=hp ls[i] (h _ hm1).2 (h _ hm1).1;have hL:(ls.map bh).length=ls.length:=af ..;have hx2:∀h:i<(ls.map bh).length,(ls.map bh)[i]'h=(D.arr 64 .leaf (aq .u8 (ls[i]))):=fun h=>by rw [bb]
  have w4:=wi i
  refine bn ?_ (a76 hp h hl k (i+1) (Q.set i (D.arr 64 .leaf (aq .u8 (ls[i])))) (by omega) (by rw [bx]; exact hq) (fun d hd=>by
   rcases ce hd with h1 | rfl
   ·exact hQ d h1
   ·rfl) (by
   rw [br (show i<(ls.map bh).length by omega),br (by rw [bx]; omega),mi,u9,jv (by rw [b8]; omega),ht,hx2]))
  generalize ls[i]=li at *;generalize ls.map bh=LD at *;simp -implicitDefEqProofs [Z25_L0,ap,hlt,hL,hx2,hq,hsh,e1,w4]
def Wp (O:am):Prop:=∀ls:List (List Int),wq ls→ls.length<2000000→ask O F25 [.sl (.arr 64 .leaf) (ls.map bh)]=some (.sl (.arr 64 .leaf) (ls.map bh))
theorem afd (hT:T F25=some Z25) (hp:wj (den T A)):Wp (den T A):=by
 intro ls h hl;have e:=a76 (O:=den T A) hp h hl ls.length 0 (List.replicate ls.length (D.arr 64 .leaf (aq .u8 (pad [])))) (b9 _) (bt ..) (fun d hd=>by rw [fg hd]; rfl) (by rw [cx,cx])
 have e00:((0:Nat):Int)=0:=rfl;rw [e00] at e;have hL:(ls.map bh).length=ls.length:=af ..;have htk:(ls.map bh).take ls.length=ls.map bh:=aw (by omega)
 have h64:ls.length*64≤1099511627776:=by omega
 refine c9 hT rfl ?_;generalize ls.length=n,ls.map bh=LD at *;simp -implicitDefEqProofs [Z25,Z25_B,e,hL,htk,h64]
theorem a7v {O:am} (he:Em O) {ls:List (List Int)} (h:∀l∈ls,l.length=64) (hl:ls.length<2000000):∀(k i:Nat),i+k=ls.length →
 dn O 0 (.loop Z20_L0) ⟨[(0,.d (.sl (.arr 64 .leaf) (ls.map bh))),(1,.d (.sl (.arr 64 .leaf) (ls.map bh))),(5,(.d (.int .i64 i)))],[]⟩ =
  some (.exit 0,⟨[(0,.d (.sl (.arr 64 .leaf) (ls.map bh))),(1,.d (.sl (.arr 64 .leaf) (ls.map bh))),(5,(.d (.int .i64 ls.length))),(14,(.d (.bool false)))],[]⟩)
 | 0,i,hi=>by
  obtain rfl:i=ls.length:=by omega
  have hL:(ls.map bh).length=ls.length:=af ..;refine bu ?_;generalize ls.map bh=LD at *;simp -implicitDefEqProofs [Z20_L0,ap,hL]
 | k+1,i,hi=>by
  have hlt:i<ls.length:=by omega
  have e1:=he ls[i] (h _ (az hlt));have hL:(ls.map bh).length=ls.length:=af ..;have hx2:∀h:i<(ls.map bh).length,(ls.map bh)[i]'h=(D.arr 64 .leaf (aq .u8 (ls[i]))):=fun h=>by rw [bb]
  have w4:=wi i;refine bn ?_ (a7v he h hl k (i+1) (by omega))
  generalize ls[i]=li at *;generalize ls.map bh=LD at *;simp -implicitDefEqProofs [Z20_L0,ap,hlt,hL,hx2,e1,w4]
def Y8 (O:am):Prop:=∀ls:List (List Int),(∀l∈ls,l.length=64)→ls.length<2000000→ask O F20 [.sl (.arr 64 .leaf) (ls.map bh),.sl (.arr 64 .leaf) (ls.map bh)]=some (D.bool true)
theorem ada (hT:T F20=some Z20) (he:Em (den T A)):Y8 (den T A):=by
 intro ls h hl;have e:=a7v (O:=den T A) he h hl ls.length 0 (b9 _);have e00:((0:Nat):Int)=0:=rfl;rw [e00] at e;refine c9 hT rfl ?_;generalize ls.map bh=LD at *;simp -implicitDefEqProofs [Z20,Z20_B,ap,e]
def Xt (O:am):Prop:=∀(L:List D) (left:Int),0≤left→left≤2000000→L.length≤9223372036854775807→ask O F23 [.sl (.arr 64 .leaf) L,(D.int .i64 left)]=some (D.int .i64 (if left<L.length then -1 else left-L.length))
theorem aey (hT:T F23=some Z23):Xt (den T A):=by
 intro L left h0 h1 hl;have w1:IntKind.i64.wrap (left-L.length)=left-L.length:=wt;refine c9 hT rfl ?_
 by_cases h:left<L.length
 ·rw [if_pos h]
  have hn:left-(L.length:Int)<0:=by omega
  simp -implicitDefEqProofs [Z23,Z23_B,ap,w1,hn]
 ·rw [if_neg h]
  have hn:¬ left-(L.length:Int)<0:=by omega
  simp -implicitDefEqProofs [Z23,Z23_B,ap,w1,hn]
end Pe
namespace Pe
open Go Gq
variable {T:Nat→Option Fn} {A:am}
theorem a0x {O:am} (hp:wj O) {ls:List (List Int)} (h:wq ls) (hl:ls.length<2000000):∀(k i:Nat) (Q:List D),i+k=ls.length→Q.length=ls.length→(∀d∈Q,d.sh.beq (.arr 64 .leaf)=true)→Q.take i=(ls.map bh).take i →
 dn O 0 (.loop Z26_L0) ⟨[(0,.d (.sl (.arr 64 .leaf) (ls.map bh))),(3,.sl 1 [] 0 ls.length (some ls.length)),(4,(.d (.int .i64 i)))],[.hole,.sl false (.arr 64 .leaf) Q]⟩ =
  some (.exit 0,⟨[(0,.d (.sl (.arr 64 .leaf) (ls.map bh))),(3,.sl 1 [] 0 ls.length (some ls.length)),(4,(.d (.int .i64 ls.length))),(11,(.d (.bool false)))],[.hole,.sl false (.arr 64 .leaf) (ls.map bh)]⟩)
 | 0,i,Q,hi,hq,hQ,ht=>by
  obtain rfl:i=ls.length:=by omega
  have hL:(ls.map bh).length=ls.length:=af ..;rw [aw (by omega),aw (by omega)] at ht
  subst ht;refine bu ?_;generalize ls.map bh=LD at *;simp -implicitDefEqProofs [Z26_L0,ap,hL]
 | k+1,i,Q,hi,hq,hQ,ht=>by
  have hlt:i<ls.length:=by omega
  have hm1:=az hlt;have hsh:∀h:i<Q.length,(Q[i]'h).sh.beq (.arr 64 .leaf)=true:=fun h=>hQ _ (az h)
  have e1:=hp ls[i] (h _ hm1).2 (h _ hm1).1;have hL:(ls.map bh).length=ls.length:=af ..;have hx2:∀h:i<(ls.map bh).length,(ls.map bh)[i]'h=(D.arr 64 .leaf (aq .u8 (ls[i]))):=fun h=>by rw [bb]
  have w4:=wi i
  refine bn ?_ (a0x hp h hl k (i+1) (Q.set i (D.arr 64 .leaf (aq .u8 (ls[i])))) (by omega) (by rw [bx]; exact hq) (fun d hd=>by
   rcases ce hd with h1 | rfl
   ·exact hQ d h1
   ·rfl) (by
   rw [br (show i<(ls.map bh).length by omega),br (by rw [bx]; omega),mi,u9,jv (by rw [b8]; omega),ht,hx2]))
  generalize ls[i]=li at *;generalize ls.map bh=LD at *;simp -implicitDefEqProofs [Z26_L0,ap,hlt,hL,hx2,hq,hsh,e1,w4]
def Y3 (O:am):Prop:=∀ls:List (List Int),wq ls→ls.length<2000000→O F26 [.d (.sl (.arr 64 .leaf) (ls.map bh))] []=some (.sl 0 [] 0 ls.length (some ls.length),[],[.sl false (.arr 64 .leaf) (ls.map bh)])
theorem af3 (hT:T F26=some Z26) (hp:wj (den T A)):Y3 (den T A):=by
 intro ls h hl;have e:=a0x (O:=den T A) hp h hl ls.length 0 (List.replicate ls.length (D.arr 64 .leaf (aq .u8 (pad [])))) (b9 _) (bt ..) (fun d hd=>by rw [fg hd]; rfl) (by rw [cx,cx])
 have e00:((0:Nat):Int)=0:=rfl;rw [e00] at e;have hL:(ls.map bh).length=ls.length:=af ..;have h64:ls.length*64≤1099511627776:=by omega
 refine pm hT rfl ?_;generalize ls.length=n,ls.map bh=LD at *;simp -implicitDefEqProofs [Z26,Z26_B,e,hL,h64,List.idxOf,List.findIdx,List.findIdx.go]
def mk8 (k:Nat):Int:=((k%256:Nat):Int)
theorem ack (k:Nat):IntKind.u8.wrap (k:Int)=mk8 k:=by
 unfold mk8;simp [IntKind.wrap,IntKind.bits,IntKind.signed]
def D0 (s i:Nat):List Int:=(List.range 64).map fun j=>mk8 (s+64*i+j)
def o9 (s n:Nat):List (List Int):=(List.range n).map (D0 s)
theorem Hm (s i:Nat):(D0 s i).length=64:=by unfold D0; rw [af,d8]
theorem ur (s n:Nat):(o9 s n).length=n:=by unfold o9; rw [af,d8]
theorem Sm (f:Nat→List Int):∀(m i:Nat) (l:List (List Int)) (j:Nat),(a32 f m i l)[j]? = if i≤j∧j<i+m∧j<l.length then some (f j) else l[j]?
 | 0,i,l,j=>by rw [a32,if_neg (by omega)]
 | m+1,i,l,j=>by
  rw [a32,Sm f m,bx]
  by_cases h1:i+1≤j∧j<i+1+m∧j<l.length
  ·rw [if_pos h1,if_pos (by omega)]
  ·rw [if_neg h1]
   by_cases h2:j=i
   ·subst h2
    by_cases h3:j<l.length
    ·rw [if_pos (by omega),b4 h3]
    ·rw [if_neg (by omega),bq (by simpa using h3),bq (by omega)]
   ·rw [b7 (f9 h2),if_neg (by omega)]
theorem a5r (f:Nat→List Int) (n:Nat) (l:List (List Int)) (hl:l.length=n):a32 f n 0 l=(List.range n).map f:=by
 apply ci;intro j;rw [Sm,cb]
 by_cases hj:j<n
 ·rw [if_pos (by omega),db hj]; rfl
 ·rw [if_neg (by omega),bq (by omega),bq (by simpa using hj)]; rfl
theorem a0a {O:am} {n s i:Nat} {cp:Option Nat} {LR:List D} (hn:n<2000000) (hs:s<1000000000000) (hi:i<n) (hLR:LR.length=n):∀(r j:Nat) (cur:List Int),j+r=64→cur.length=64 →
 dn O 1 (.loop Z22_L0) ⟨[(0,.sl 0 [] 0 n cp),(1,(.d (.int .i64 (((s+64*i+j:Nat):Int))))),(5,(.d (.int .i64 i))),(6,(.d (.int .i64 j)))],[.sl false (.arr 64 .leaf) (LR.set i (D.arr 64 .leaf (aq .u8 cur)))]⟩ =
  some (.exit 2,⟨[(0,.sl 0 [] 0 n cp),(1,(.d (.int .i64 (((s+64*i+64:Nat):Int))))),(5,(.d (.int .i64 i))),(6,(.d (.int .i64 64))),(14,(.d (.bool false)))],[.sl false (.arr 64 .leaf) (LR.set i (D.arr 64 .leaf (aq .u8 (upd (fun j=>mk8 (s+64*i+j)) r j cur))))]⟩)
 | 0,j,cur,hj,hc=>by
  have:j=64:=by omega
  subst this;refine bu ?_;show _=some (_,(⟨_,[.sl false (.arr 64 .leaf) (LR.set i (D.arr 64 .leaf (aq .u8 cur)))]⟩:St));generalize ((s+64*i+64:Nat):Int)=k,LR.set i (D.arr 64 .leaf (aq .u8 cur))=LQ at *;simp -implicitDefEqProofs [Z22_L0,ap]
 | r+1,j,cur,hj,hc=>by
  have hj64:j<64:=by omega
  have hj64':(j:Int)<64:=by omega
  have w1:=ack (s+64*i+j);have w2:IntKind.i64.wrap (((s+64*i+j:Nat):Int)+1)=((s+64*i+(j+1):Nat):Int):=wt;have w4:=wi j;have hcur:cur[j]? = some (cf cur j):=by rw [ac (by omega),ft]
  refine bn ?_ (a0a hn hs hi hLR r (j+1) (cur.set j (mk8 (s+64*i+j))) (by omega) (by rw [bx]; exact hc))
  generalize ((s+64*i+(j+1):Nat):Int)=k2,((s+64*i+j:Nat):Int)=k,mk8 (s+64*i+j)=mv at *;simp -implicitDefEqProofs [Z22_L0,ap,hj64,hj64',hi,hLR,hcur,w1,w2,w4]
theorem a0c {O:am} {n s:Nat} {cp:Option Nat} (hn:n<2000000) (hs:s<1000000000000):∀(r i:Nat) (L:List (List Int)),i+r=n→L.length=n→(∀l∈L,l.length=64) →
 dn O 1 (.loop Z22_L1) ⟨[(0,.sl 0 [] 0 n cp),(1,(.d (.int .i64 (((s+64*i:Nat):Int))))),(5,(.d (.int .i64 i)))],[.sl false (.arr 64 .leaf) (L.map bh)]⟩ =
  some (.exit 0,⟨[(0,.sl 0 [] 0 n cp),(1,(.d (.int .i64 (((s+64*n:Nat):Int))))),(5,(.d (.int .i64 n))),(10,(.d (.bool false)))],[.sl false (.arr 64 .leaf) ((a32 (D0 s) r i L).map bh)]⟩)
 | 0,i,L,hi,hL,h64=>by
  obtain rfl:i=n:=by omega
  refine bu ?_;show _=some (_,(⟨_,[.sl false (.arr 64 .leaf) (L.map bh)]⟩:St));generalize ((s+64*i:Nat):Int)=k,L.map bh=LQ at *;simp -implicitDefEqProofs [Z22_L1,ap]
 | r+1,i,L,hi,hL,h64=>by
  have hlt:i<n:=by omega
  have hltL:i<L.length:=by omega
  have hLD:(L.map bh).length=n:=by rw [af]; exact hL
  have w4:=wi i;have e:=a0a (O:=O) (cp:=cp) hn hs hlt hLD 64 0 L[i] rfl (h64 _ (az hltL))
  have hs0:(L.map bh).set i (D.arr 64 .leaf (aq .u8 (L[i])))=L.map bh:=by
   have:(D.arr 64 .leaf (aq .u8 (L[i])))=(L.map bh)[i]'(by omega):=by rw [bb]
   rw [this,List.set_getElem_self]
  have e00:((0:Nat):Int)=0:=rfl;rw [hs0,Jg _ _ _ (h64 _ (az hltL)),dd,e00,show (List.range 64).map (fun j=>mk8 (s+64*i+j))=D0 s i from rfl] at e
  have hset:(L.set i (D0 s i)).map bh=(L.map bh).set i (D.arr 64 .leaf (aq .u8 (D0 s i))):=dy
  have ih:=a0c (O:=O) (cp:=cp) hn hs r (i+1) (L.set i (D0 s i)) (by omega) (by rw [bx]; exact hL) (fun l hl=>by
   rcases ce hl with h1 | rfl
   ·exact h64 l h1
   ·exact Hm s i)
  rw [hset,show s+64*(i+1)=s+64*i+64 by omega] at ih
  refine bn ?_ ih;have hli:(i:Int)<n:=by omega
  generalize L.map bh=LQ,((s+64*i:Nat):Int)=k,((s+64*i+64:Nat):Int)=k2,D0 s i=mr at *;simp -implicitDefEqProofs [Z22_L1,ap,hli,e,w4]
def Js (O:am):Prop:=∀(ls:List (List Int)) (cp:Option Nat) (s:Nat),ls.length<2000000→s<1000000000000→(∀l∈ls,l.length=64) →
 O F22 [.sl 0 [] 0 ls.length cp,(.d (.int .i64 s))] [.sl false (.arr 64 .leaf) (ls.map bh)]=some ((.d (.int .i64 (((s+64*ls.length:Nat):Int)))),[.sl false (.arr 64 .leaf) ((o9 s ls.length).map bh)],[])
theorem a5d (hT:T F22=some Z22):Js (den T A):=by
 intro ls cp s hl hs h64;have e:=a0c (O:=den T A) (cp:=cp) hl hs ls.length 0 ls (b9 _) rfl h64;have e00:((0:Nat):Int)=0:=rfl;rw [e00,zz,dd,a5r _ _ _ rfl,show (List.range ls.length).map (D0 s)=o9 s ls.length from rfl] at e;refine pm hT rfl ?_;generalize ((s+64*ls.length:Nat):Int)=k,o9 s ls.length=MR at *;simp -implicitDefEqProofs [Z22,Z22_B,e,List.idxOf,List.findIdx]
theorem a1i {O:am} {n s i:Nat} (hn:n<2000000) (hs:s<1000000000000) (hi:i<n):∀(r j:Nat),j+r=64 →
 dn O 0 (.loop Z21_L0) ⟨[(0,.d (.sl (.arr 64 .leaf) ((o9 s n).map bh))),(1,(.d (.int .i64 (((s+64*i+j:Nat):Int))))),(5,(.d (.int .i64 i))),(6,(.d (.int .i64 j)))],[]⟩ =
  some (.exit 2,⟨[(0,.d (.sl (.arr 64 .leaf) ((o9 s n).map bh))),(1,(.d (.int .i64 (((s+64*i+64:Nat):Int))))),(5,(.d (.int .i64 i))),(6,(.d (.int .i64 64))),(14,(.d (.bool false)))],[]⟩)
 | 0,j,hj=>by
  have:j=64:=by omega
  subst this;refine bu ?_;generalize ((s+64*i+64:Nat):Int)=k,(o9 s n).map bh=LQ at *;simp -implicitDefEqProofs [Z21_L0,ap]
 | r+1,j,hj=>by
  have hj64:j<64:=by omega
  have hj64':(j:Int)<64:=by omega
  have w1:=ack (s+64*i+j);have w2:IntKind.i64.wrap (((s+64*i+j:Nat):Int)+1)=((s+64*i+(j+1):Nat):Int):=wt;have w4:=wi j;have hML:((o9 s n).map bh).length=n:=by rw [af,ur]
  have hx:∀h:i<((o9 s n).map bh).length,((o9 s n).map bh)[i]'h=(D.arr 64 .leaf (aq .u8 (D0 s i))):=fun h=>by
   rw [bb];unfold o9;rw [bb,List.getElem_range]
  have hml:=Hm s i;have hv:∀h:j<(D0 s i).length,(D0 s i)[j]'h=mk8 (s+64*i+j):=fun h=>by simp [D0]
  refine bn ?_ (a1i hn hs hi r (j+1) (by omega))
  generalize ((s+64*i+(j+1):Nat):Int)=k2,((s+64*i+j:Nat):Int)=k,mk8 (s+64*i+j)=mv,D0 s i=mr,(o9 s n).map bh=LQ at *;simp -implicitDefEqProofs [Z21_L0,ap,hj64,hj64',hi,hML,hx,hml,hv,w1,w2,w4]
theorem Ye {O:am} {n s:Nat} (hn:n<2000000) (hs:s<1000000000000):∀(r i:Nat),i+r=n →
 dn O 0 (.loop Z21_L1) ⟨[(0,.d (.sl (.arr 64 .leaf) ((o9 s n).map bh))),(1,(.d (.int .i64 (((s+64*i:Nat):Int))))),(5,(.d (.int .i64 i)))],[]⟩ =
  some (.exit 0,⟨[(0,.d (.sl (.arr 64 .leaf) ((o9 s n).map bh))),(1,(.d (.int .i64 (((s+64*n:Nat):Int))))),(5,(.d (.int .i64 n))),(10,(.d (.bool false)))],[]⟩)
 | 0,i,hi=>by
  obtain rfl:i=n:=by omega
  have hML:((o9 s i).map bh).length=i:=by rw [af,ur]
  refine bu ?_;generalize ((s+64*i:Nat):Int)=k,(o9 s i).map bh=LQ at *;simp -implicitDefEqProofs [Z21_L1,ap,hML]
 | r+1,i,hi=>by
  have hlt:i<n:=by omega
  have hML:((o9 s n).map bh).length=n:=by rw [af,ur]
  have w4:=wi i;have e:=a1i (O:=O) hn hs hlt 64 0 rfl;have e00:((0:Nat):Int)=0:=rfl;rw [dd,e00] at e;have ih:=Ye (O:=O) hn hs r (i+1) (by omega)
  rw [show s+64*(i+1)=s+64*i+64 by omega] at ih
  refine bn ?_ ih;generalize (o9 s n).map bh=LQ,((s+64*i:Nat):Int)=k,((s+64*i+64:Nat):Int)=k2 at *;simp -implicitDefEqProofs [Z21_L1,ap,hlt,hML,e,w4]
def Lm (O:am):Prop:=∀s n:Nat,n<2000000→s<1000000000000→ask O F21 [.sl (.arr 64 .leaf) ((o9 s n).map bh),(D.int .i64 s)]=some (D.int .i64 (((s+64*n:Nat):Int)))
theorem a5j (hT:T F21=some Z21):Lm (den T A):=by
 intro s n hn hs;have e:=Ye (O:=den T A) hn hs n 0 (b9 _);have e00:((0:Nat):Int)=0:=rfl;rw [e00,zz,dd] at e;refine c9 hT rfl ?_;generalize ((s+64*n:Nat):Int)=k,(o9 s n).map bh=LQ at *;simp -implicitDefEqProofs [Z21,Z21_B,e]
section
variable {p:Int} [IsP p]
theorem a0j {O:am} (hro:zd O) {xs:List (Fp p)} (hl:xs.length<2000000) (hx:∀x∈xs,x.len≤64) {cq:Option Nat}:∀(r i:Nat) (cp:Option Nat),i+r=xs.length→∃cp':Option Nat,
 dn O 1 (.loop Z1s_L0) ⟨[(3,.sl 1 [] 0 i cp),(6,.sl 0 [] 0 xs.length cq),(7,(.d (.int .i64 xs.length))),(8,(.d (.int .i64 i)))],[.sl false (.arr 64 .leaf) (xs.map bo),.sl false .leaf ((xs.take i).map bf),.hole,.hole,.hole]⟩ =
  some (.exit 0,⟨[(3,.sl 1 [] 0 xs.length cp'),(6,.sl 0 [] 0 xs.length cq),(7,(.d (.int .i64 xs.length))),(8,(.d (.int .i64 xs.length))),(9,(.d (.bool false)))],[.sl false (.arr 64 .leaf) (xs.map bo),.sl false .leaf (xs.map bf),.hole,.hole,.hole]⟩)
 | 0,i,cp,hi=>by
  obtain rfl:i=xs.length:=by omega
  rw [iq];refine ⟨cp,bu ?_⟩;generalize xs.map bf=RD,xs.map bo=XD at *;simp -implicitDefEqProofs [Z1s_L0,ap]
 | r+1,i,cp,hi=>by
  have hlt:i<xs.length:=by omega
  have hm:=az hlt;have e1:=hro p xs[i] (hx _ hm);have hXD:(xs.map bo).length=xs.length:=af ..;have hxi:∀h:i<(xs.map bo).length,(xs.map bo)[i]'h=(D.arr 64 .leaf (aq .u8 (pad (row xs[i])))):=fun h=>by rw [bb]
  have w4:=wi i;have h24:(i+1)*24≤1099511627776:=by omega
  have htk:(xs.take (i+1)).map bf=(xs.take i).map bf++[(D.sl .leaf (aq .i64 (row xs[i])))]:=by rw [br hlt,cj]; rfl
  have hL:((xs.take i).map bf).length=i:=by rw [af,b8]; omega
  have htt:((xs.take i).map bf).take i=(xs.take i).map bf:=aw (by omega)
  obtain ⟨cp',ih⟩:=a0j hro hl hx (cq:=cq) r (i+1) none (by omega)
  refine ⟨cp',bn ?_ ih⟩;rw [htk];generalize pad (row xs[i])=Pi at *;generalize row xs[i]=Ri at *;generalize xs.map bo=XD,(xs.take i).map bf=TD at *;simp -implicitDefEqProofs [Z1s_L0,ap,hlt,hXD,hxi,e1,h24,hL,htt,w4,List.replicate]
def Xv (O:am):Prop:=∀(p:Int) [IsP p] (xs:List (Fp p)) (cq:Option Nat),xs.length<2000000→(∀x∈xs,x.len≤64)→∃cp:Option Nat,
 O F1s [.sl 0 [] 0 xs.length cq] [.sl false (.arr 64 .leaf) (xs.map bo)]=some (.sl 1 [] 0 xs.length cp,[.sl false (.arr 64 .leaf) (xs.map bo)],[.sl false .leaf (xs.map bf)])
end
theorem aex (hT:T F1s=some Z1s) (hro:zd (den T A)):Xv (den T A):=by
 intro p ip xs cq hl hx;obtain ⟨cp,e⟩:=a0j (O:=den T A) hro hl hx (cq:=cq) xs.length 0 (some 0) (b9 _);have e00:((0:Nat):Int)=0:=rfl;rw [e00,cx,fa] at e;refine ⟨cp,pm hT rfl ?_⟩;generalize xs.map bf=RD,xs.map bo=XD at *;simp -implicitDefEqProofs [Z1s,Z1s_B,e,List.idxOf,List.findIdx,List.findIdx.go]
section
variable {p:Int} [IsP p]
end
section
variable {α:Type}
def a3e (f:Nat→α):Nat→Nat→List α→List α
 | 0,_,l=>l
 | m+1,i,l=>a3e f m (i+1) (l.set i (f i))
theorem Tc (f:Nat→α):∀(m i:Nat) (l:List α) (j:Nat),(a3e f m i l)[j]? = if i≤j∧j<i+m∧j<l.length then some (f j) else l[j]?
 | 0,i,l,j=>by rw [a3e,if_neg (by omega)]
 | m+1,i,l,j=>by
  rw [a3e,Tc f m,bx]
  by_cases h1:i+1≤j∧j<i+1+m∧j<l.length
  ·rw [if_pos h1,if_pos (by omega)]
  ·rw [if_neg h1]
   by_cases h2:j=i
   ·subst h2
    by_cases h3:j<l.length
    ·rw [if_pos (by omega),b4 h3]
    ·rw [if_neg (by omega),bq (by simpa using h3),bq (by omega)]
   ·rw [b7 (f9 h2),if_neg (by omega)]
theorem a7s (f:Nat→α) (n:Nat) (l:List α) (hl:l.length=n):a3e f n 0 l=(List.range n).map f:=by
 apply ci;intro j;rw [Tc,cb]
 by_cases hj:j<n
 ·rw [if_pos (by omega),db hj]; rfl
 ·rw [if_neg (by omega),bq (by omega),bq (by simpa using hj)]; rfl
end
theorem a6d {O:am} (hfr:sk O) (hin:rx O) (hdg:Iv O) (hpr:jl O) (hsi:Ei O) (hpl:Q4 O) (hby:a09 O) {p:Int} [IsP p] {m:Fp p} (hm:Fld m) {B:List (Fp p)} (hB:Sk m B) (h1:1≤B.length):∀(r:Nat) (Q X:List (Fp p)),X.length≤r→Sk m Q→Sk m X →
 dn O 0 (.loop Zh_L0) ⟨[(1,.d (skD X)),(2,.d (skD B)),(3,.ptr 0 []),(8,.d (skD Q)),(9,(.d (.int .i64 (((m.len-1:Nat):Int)))))],[.box false (fw m)]⟩ =
  some (.exit 0,⟨[(1,.d (skD (pc true m B r Q X).2)),(2,.d (skD B)),(3,.ptr 0 []),(8,.d (skD (pc true m B r Q X).1)),(9,(.d (.int .i64 (((m.len-1:Nat):Int))))),(20,(.d (.bool false)))],[.box false (fw m)]⟩)
 | 0,Q,X,hr,hQ,hX=>by
  have hlt:¬ B.length≤X.length:=by omega
  have hsX:skD X=.sl .leaf (X.map bf):=rfl;have hsB:skD B=.sl .leaf (B.map bf):=rfl;have hX1:(X.map bf).length=X.length:=af ..;have hB1:(B.map bf).length=B.length:=af ..;refine bu ?_;show _=some (_,(⟨[(1,.d (skD X)),_,_,(8,.d (skD Q)),_,_],_⟩:St));rw [hsX,hsB];generalize B.map bf=BD,X.map bf=XD at *;simp -implicitDefEqProofs [Zh_L0,ap,hX1,hB1,hlt]
 | r+1,Q,X,hr,hQ,hX=>by
  have hsX:skD X=.sl .leaf (X.map bf):=rfl;have hsB:skD B=.sl .leaf (B.map bf):=rfl;have hsQ:skD Q=.sl .leaf (Q.map bf):=rfl;have hX1:(X.map bf).length=X.length:=af ..;have hB1:(B.map bf).length=B.length:=af ..
  by_cases hlt:X.length<B.length
  ·have hg:pc true m B (r+1) Q X=(Q,X):=by unfold pc; rw [if_pos hlt]
   have hlt':¬ B.length≤X.length:=by omega
   rw [hg];refine bu ?_;rw [hsX,hsB];generalize B.map bf=BD,X.map bf=XD at *;simp -implicitDefEqProofs [Zh_L0,ap,hX1,hB1,hlt']
  ·have hg:pc true m B (r+1) Q X=pc true m B r (ia 1 Q (qT true m X B)) (ia (-1) X (qP true m X B)):=by
    conv=>lhs; unfold pc
    rw [if_neg hlt]
   have hle:B.length≤X.length:=by omega
   obtain ⟨s1,s2,s3,s4,s5,s6⟩:=J6 true hm hX hB h1 hle;have h2:=hm.two;have h5:=hm.five;have h8:=hX.eight;have hB8:=hB.eight;have hm0:=hm.mon.2;have ih:=a6d hfr hin hdg hpr hsi hpl hby hm hB h1 r (ia 1 Q (qT true m X B)) (ia (-1) X (qP true m X B)) (by omega) (hQ.plus hm0 s3 1) s6
   rw [←hg] at ih;have hyl:=hB.cs hm0 (B.length-1);have hxl:=hX.cs hm0 (X.length-1);have e1:=hin p m (cS B (B.length-1)) hm0 (by omega) (by omega)
   have hil:=T2 hm0 (cS B (B.length-1));have e2:=hpr p m (cS X (X.length-1)) (jp m (cS B (B.length-1))) hm0 (by omega) (by omega) (by omega)
   have hzl:=Pol.len_mod (cS X (X.length-1)*jp m (cS B (B.length-1))) hm0;have hmd:=Nat.mod_lt (B.length-1) (show 0<m.len-1 by omega)
   have e3:=hfr p m (cS X (X.length-1)*jp m (cS B (B.length-1))%m) (m.len-1-(B.length-1)%(m.len-1)) h2 (by omega) (by omega) (by omega)
   rw [show ef m ((m.len-1-(B.length-1)%(m.len-1))%(m.len-1)) (cS X (X.length-1)*jp m (cS B (B.length-1))%m)=qc true m X B from rfl] at e3;have e8:=hdg p B (by omega)
   have w5:((B.length:Int)-1).tmod ((m.len-1:Nat):Int)=(((B.length-1)%(m.len-1):Nat):Int):=by
    rw [show (B.length:Int)-1=((B.length-1:Nat):Int) by omega,d9 (by omega)]; rfl
   have w6:IntKind.i64.wrap (((m.len-1:Nat):Int)-(((B.length-1)%(m.len-1):Nat):Int))=((m.len-1-(B.length-1)%(m.len-1):Nat):Int):=wt;have hd0:((m.len-1:Nat):Int)≠0:=by omega
   have e4:=hsi p (qc true m X B) (X.length-B.length) (by omega)
   rw [show kg (qc true m X B) (X.length-B.length)=qT true m X B from rfl] at e4;have e5:=hpl p m Q (qT true m X B) 1 (by omega) (by omega) (by have:=hQ.eight; omega) (by have:=s3.eight; omega) (fun c hc=>by have:=hQ.res c hc; omega) (fun c hc=>by have:=s3.res c hc; omega)
   have e6:=hby p m B (qT true m X B) h2 (by omega) (fun c hc=>by have:=hB.res c hc; omega) (fun c hc=>by have:=s3.res c hc; omega) (by omega) (by have:=s3.eight; omega)
   rw [show ke m B (qT true m X B)=qP true m X B from rfl] at e6;have e7:=hpl p m X (qP true m X B) (-1) (by omega) (by omega) (by omega) (by have:=s4.eight; omega) (fun c hc=>by have:=hX.res c hc; omega) (fun c hc=>by have:=s4.res c hc; omega)
   have w1:IntKind.i64.wrap ((X.length:Int)-B.length)=((X.length-B.length:Nat):Int):=wt;have w2:IntKind.i64.wrap ((X.length:Int)-1)=((X.length-1:Nat):Int):=wt;have w3:IntKind.i64.wrap ((B.length:Int)-1)=((B.length-1:Nat):Int):=wt;have hx1:∀h:X.length-1<(X.map bf).length,(X.map bf)[X.length-1]'h=(D.sl .leaf (aq .i64 (row (cS X (X.length-1))))):=fun h=>by rw [bb,uh (by omega)]
   have hx2:∀h:B.length-1<(B.map bf).length,(B.map bf)[B.length-1]'h=(D.sl .leaf (aq .i64 (row (cS B (B.length-1))))):=fun h=>by rw [bb,uh (by omega)]
   have hb1:X.length-1<X.length:=by omega
   have hb2:B.length-1<B.length:=by omega
   have hfd:fw m=.st [.leaf,.leaf] [(D.int .i64 p),(D.sl .leaf (aq .i64 (row m)))]:=rfl;refine bn ?_ ih;rw [show skD (ia 1 Q (qT true m X B))=.sl .leaf ((ia 1 Q (qT true m X B)).map bf) from rfl] at e5 ⊢;rw [show skD (ia (-1) X (qP true m X B))=.sl .leaf ((ia (-1) X (qP true m X B)).map bf) from rfl] at e7 ⊢;rw [show skD (qT true m X B)=.sl .leaf ((qT true m X B).map bf) from rfl] at e4 e5 e6;rw [show skD (qP true m X B)=.sl .leaf ((qP true m X B).map bf) from rfl] at e6 e7;rw [hsX] at e7 ⊢;rw [hsB] at e6 e8 ⊢;rw [hsQ] at e5 ⊢;rw [hfd] at e1 e2 e3 e5 e6 e7 ⊢;generalize B.length-1=b1,((m.len-1:Nat):Int)=kd,(((B.length-1)%(m.len-1):Nat):Int)=kr,m.len-1-(B.length-1)%(m.len-1)=kf,X.length-1=x1,X.length-B.length=xb,row m=Rm,Q.map bf=QD,B.map bf=BD,X.map bf=XD,row (cS B (B.length-1))=R5,row (cS X (X.length-1))=R4,row (jp m (cS B (B.length-1)))=R3,row (cS X (X.length-1)*jp m (cS B (B.length-1))%m)=R2,row (qc true m X B)=R1,(qP true m X B).map bf=D4,(qT true m X B).map bf=D3,(ia (-1) X (qP true m X B)).map bf=D2,(ia 1 Q (qT true m X B)).map bf=D1 at *;simp -implicitDefEqProofs [Zh_L0,ap,hX1,hB1,hle,hb1,hb2,hx1,hx2,w1,w2,w3,w5,w6,hd0,e1,e2,e3,e4,e5,e6,e7,e8]
theorem ad8 (hT:T Fh=some Zh) (hfr:sk (den T A)) (hin:rx (den T A)) (hdg:po (den T A)) (hsd:Iv (den T A)) (hpr:jl (den T A)) (hsi:Ei (den T A)) (hpl:Q4 (den T A)) (hby:a09 (den T A)):a6j (den T A) Fh true:=by
 intro p ip m X B hm hX hB h1;have e:=a6d (O:=den T A) hfr hin hsd hpr hsi hpl hby hm hB h1 X.length [] X (ba _) (Sk.nil m) hX;rw [show skD ([]:List (Fp p))=.sl .leaf [] from rfl] at e;have h2:=hm.two;have h5:=hm.five;have e2:=hdg (row m) (by rw [ca]; omega)
 rw [ca,show (m.len:Int)-1=((m.len-1:Nat):Int) by omega] at e2
 have hfd:fw m=.st [.leaf,.leaf] [(D.int .i64 p),(D.sl .leaf (aq .i64 (row m)))]:=rfl;rw [hfd] at e ⊢;rw [show skD (pc true m B X.length [] X).1=.sl .leaf ((pc true m B X.length [] X).1.map bf) from rfl,show skD (pc true m B X.length [] X).2=.sl .leaf ((pc true m B X.length [] X).2.map bf) from rfl] at e ⊢;rw [show skD X=.sl .leaf (X.map bf) from rfl,show skD B=.sl .leaf (B.map bf) from rfl] at e ⊢;refine c9 hT rfl ?_;generalize row m=Rm,((m.len-1:Nat):Int)=kd,B.map bf=BD,X.map bf=XD,(pc true m B X.length [] X).2.map bf=D2,(pc true m B X.length [] X).1.map bf=D1 at *;simp -implicitDefEqProofs [Zh,Zh_B,e,e2]
def zj (O:am):Prop:=∀(p:Int) [IsP p] (m a:Fp p),m≠0→m.len≤63→a≠0→a.len<m.len→ask O F3y [(D.int .i64 p),(D.arr 64 .leaf (aq .u8 (pad (row a)))),(D.arr 64 .leaf (aq .u8 (pad (row m))))]=some (D.arr 64 .leaf (aq .u8 (pad (row (jp m a)))))
theorem abp (hT:T F3y=some Z3y) (hmo:Da (den T A)) (hb:Cb (den T A)):zj (den T A):=by
 intro p ip m a hm hml ha hal;have e2:=hb p a m (.inl ha) (by omega) (by omega)
 have e3:=hmo p (Pol.bezout a m).2.1 m hm (ae5 ha hml) (by omega)
 have e4:(Pol.bezout a m).2.1%m=jp m a:=rfl;rw [e4] at e3;refine c9 hT rfl ?_;generalize pad (row m)=Pm,pad (row a)=Pa,pad (row (Pol.bezout a m).2.2)=R3,pad (row (Pol.bezout a m).2.1)=R2,pad (row (Pol.bezout a m).1)=R1,pad (row (jp m a))=R at *;simp -implicitDefEqProofs [Z3y,Z3y_B,e2,e3,List.replicate]
noncomputable abbrev eS {p:Int} (X:List (Fp p)):D:=Ck (skP (pd8 X))
theorem nr {p:Int} (X:List (Fp p)):eS X=.arr 8 (.arr 64 .leaf) ((skP (pd8 X)).map bh):=rfl
theorem Xg {p:Int} {X:List (Fp p)} {i:Nat} (hX:X.length≤8) (hi:i<8):∀h:i<((skP (pd8 X)).map bh).length,((skP (pd8 X)).map bh)[i]'h=(D.arr 64 .leaf (aq .u8 (pad (row (cS X i))))):=fun h=>by
 rw [bb,bb,uh (by rw [fx hX]; exact hi),wn]
theorem Jk {p:Int} {X:List (Fp p)} (hX:X.length≤8):((skP (pd8 X)).map bh).length=8:=by rw [af,af,fx hX]
def Iz (O:am):Prop:=∀(p:Int) [IsP p] (c:Fp p) (k:Nat),k<8→ask O F43 [(D.arr 64 .leaf (aq .u8 (pad (row c)))),(D.int .i64 k)]=some (eS (kg c k))
theorem a8f {p:Int} (c:Fp p) {k:Nat} (hk:k<8):pd8 (kg c k)=zs8.set k c:=by
 have hz:pd8 ([]:List (Fp p))=zs8:=rfl;have h:=Yj (Q:=([]:List (Fp p))) (k:=k) (c:=c) (by simp) hk rfl
 rw [hz] at h;rw [h];refine C0 (fx (by rw [i9]; omega)) (fx (by have:=Aa 1 ([]:List (Fp p)) (kg c k); rw [i9] at this; simp at this; omega)) fun i _=>?_
 rw [wn,wn,E2,adt,Af,Pol.C_one,Gq.one_mul,Gq.zero_add]
theorem ab8 (hT:T F43=some Z43):Iz (den T A):=by
 intro p ip c k hk;rw [nr,a8f c hk,show (skP ((zs8 (p:=p)).set k c)).map bh=z8.set k (D.arr 64 .leaf (aq .u8 (pad (row c)))) by unfold skP; rw [dy,dy,show ((zs8 (p:=p)).map fun a=>pad (row a)).map bh=z8 from a00]]
 have hz8:z8=List.replicate 8 (D.arr 64 .leaf (aq .u8 (pad []))):=rfl;have hlz:z8.length=8:=rfl;have hsz:∀h:k<z8.length,(z8[k]'h).sh.beq (.arr 64 .leaf)=true:=fun h=>by simp only [hz8,List.getElem_replicate]; rfl
 refine c9 hT rfl ?_;generalize pad (row c)=Pc at *;generalize hzz:z8=ZZ at *;simp -implicitDefEqProofs [Z43,Z43_B,hk,hzz,hlz,hsz]
theorem a11 {O:am} (had:m8 O) {p:Int} [IsP p] {X Y:List (Fp p)} {k:Int} {b:Blk} (hk:-1000≤k∧k≤1000) (hX8:X.length≤8) (hY8:Y.length≤8) (hX:∀c∈X,c.len≤64) (hY:∀c∈Y,c.len≤64):∀(r i:Nat) (Q:List (Fp p)),i+r=8→Q.length=8→(∀j,i≤j→cS Q j=cS X j) →
 dn O 0 (.loop Z3u_L0) ⟨[(0,(.d (.int .i64 p))),(3,(.d (.int .i64 k))),(5,.ptr 0 []),(6,.ptr 1 []),(8,.ptr 2 []),(9,(.d (.int .i64 i)))],[.box false (.arr 8 (.arr 64 .leaf) ((skP Q).map bh)),.box false (.arr 8 (.arr 64 .leaf) ((skP (pd8 Y)).map bh)),b]⟩ =
  some (.exit 0,⟨[(0,(.d (.int .i64 p))),(3,(.d (.int .i64 k))),(5,.ptr 0 []),(6,.ptr 1 []),(8,.ptr 2 []),(9,(.d (.int .i64 8))),(11,(.d (.bool false)))],[.box false (.arr 8 (.arr 64 .leaf) ((skP (a3e (fun i=>cS X i+Pol.C (zp p k)*cS Y i) r i Q)).map bh)),.box false (.arr 8 (.arr 64 .leaf) ((skP (pd8 Y)).map bh)),b]⟩)
 | 0,i,Q,hi,hq,hQ=>by
  obtain rfl:i=8:=by omega
  refine bu ?_;show _=some (_,(⟨_,[.box false (.arr 8 (.arr 64 .leaf) ((skP Q).map bh)),_,_]⟩:St));generalize (skP (pd8 Y)).map bh=YD,(skP Q).map bh=QD at *;simp -implicitDefEqProofs [Z3u_L0,ap]
 | r+1,i,Q,hi,hq,hQ=>by
  have hi8:i<8:=by omega
  have hi8':(i:Int)<8:=by omega
  have hltq:i<Q.length:=by omega
  have a1:=Ln hX i;have a2:=Ln hY i;have e1:=had p k (cS X i) (cS Y i) (by omega) (by omega) a1 a2
  have w4:=wi i
  have hx1:∀h:i<((skP Q).map bh).length,((skP Q).map bh)[i]'h=(D.arr 64 .leaf (aq .u8 (pad (row (cS X i))))):=fun h=>by
   rw [bb,bb,uh hltq,hQ i (ba _)]
  have hx2:=Xg hY8 hi8;have hQL:((skP Q).map bh).length=8:=by rw [af,af]; exact hq
  have hYL:=Jk hY8;refine bn ?_ (a11 had (b:=b) hk hX8 hY8 hX hY r (i+1) (Q.set i (cS X i+Pol.C (zp p k)*cS Y i)) (by omega) (by rw [bx]; exact hq) (fun j hj=>by rw [a5x hltq,if_neg (by omega),hQ j (by omega)]))
  rw [show (skP (Q.set i (cS X i+Pol.C (zp p k)*cS Y i))).map bh=((skP Q).map bh).set i (D.arr 64 .leaf (aq .u8 (pad (row (cS X i+Pol.C (zp p k)*cS Y i))))) by unfold skP; rw [dy,dy]]
  generalize (skP (pd8 Y)).map bh=YD,(skP Q).map bh=QD,pad (row (cS Y i))=P3,pad (row (cS X i))=P2,pad (row (cS X i+Pol.C (zp p k)*cS Y i))=P1 at *;simp -implicitDefEqProofs [Z3u_L0,ap,hi8,hi8',hQL,hYL,hx1,hx2,e1,w4]
def J8 (O:am):Prop:=∀(p:Int) [IsP p] (X Y:List (Fp p)) (k:Int),-1000≤k→k≤1000→X.length≤8→Y.length≤8→(∀c∈X,c.len≤64)→(∀c∈Y,c.len≤64)→ask O F3u [(D.int .i64 p),eS X,eS Y,(D.int .i64 k)]=some (eS (ia k X Y))
theorem aay (hT:T F3u=some Z3u) (had:m8 (den T A)):J8 (den T A):=by
 intro p ip X Y k hk1 hk2 hX8 hY8 hX hY;have e:=a11 (O:=den T A) had (b:=.box false (.arr 8 (.arr 64 .leaf) z8)) ⟨hk1,hk2⟩ hX8 hY8 hX hY 8 0 (pd8 X) rfl (fx hX8) (fun j _=>wn j)
 have e00:((0:Nat):Int)=0:=rfl;have hpl:=Aa k X Y;rw [e00,a7s _ _ _ (fx hX8),show (List.range 8).map (fun i=>cS X i+Pol.C (zp p k)*cS Y i)=pd8 (ia k X Y) from C0 (by rw [af,d8]) (fx (by omega)) fun i hi=>by rw [Ql,if_pos hi,wn,E2]] at e
 rw [nr,nr,nr];refine c9 hT rfl ?_;generalize (skP (pd8 (ia k X Y))).map bh=PD,(skP (pd8 Y)).map bh=YD,(skP (pd8 X)).map bh=XD at *;simp -implicitDefEqProofs [Z3u,Z3u_B,e,List.replicate]
def Cj (O:am):Prop:=∀(p:Int) [IsP p] (m:Fp p) (X Y:List (Fp p)),Fld m→Sk m X→Sk m Y→X.length+Y.length≤9→ask O F44 [(D.int .i64 p),(D.arr 64 .leaf (aq .u8 (pad (row m)))),eS X,eS Y]=some (.tup [eS (ke m X Y),(D.bool true)])
theorem Iy {p:Int} {m:Fp p} {X:List (Fp p)} (hm:m≠0) (hX:∀c∈X,c.len<m.len):∀c∈pd8 X,c.len<m.len:=fun c hc=>by
 unfold pd8 at hc;rcases bp.1 hc with h | h
 ·exact hX c h
 ·rw [fg h,Pol.len_zero]; exact Pol.len_pos hm
theorem a21 {O:am} (h:Gj O):Cj O:=by
 intro p ip m X Y hm hX hY h9;have h5:=hm.five;have e:=h p m (pd8 X) (pd8 Y) hm.two (by omega) (fx hX.eight) (fx hY.eight) (Iy hm.mon.2 hX.res) (Iy hm.mon.2 hY.res)
 rw [a3h hX.trim hY.trim h9 hX.res hY.res hm] at e;exact e
def Ec (O:am):Prop:=∀(p:Int) [IsP p] (m:Fp p) (X:List (Fp p)),m≠0→m.len≤64→Sk m X→ask O F3v [eS X]=some (D.int .i64 ((X.length:Int)-1))
theorem aak {O:am} (h:Eg O):Ec O:=by
 intro p ip m X hm hml hX;have e:=h p (pd8 X) (fx hX.eight) (fun c hc=>by have:=Iy hm hX.res c hc; omega)
 rw [←Dg (fx hX.eight),Lo hX.trim] at e;exact e
theorem a0n {O:am} (hfr:p8 O) (hin:zj O) (hmm:im O) (hte:Iz O) (hti:Cj O) (had:J8 O) (hdg:Ec O) {p:Int} [IsP p] {m:Fp p} {z z2:List D} (hm:Fld m) {B:List (Fp p)} (hB:Sk m B) (h1:1≤B.length):∀(r:Nat) (Q X:List (Fp p)),X.length≤r→Sk m Q→Sk m X→Zto Q X B →
 dn O 0 (.loop Z3z_L0) ⟨[(0,(.d (.int .i64 p))),(5,.ptr 0 []),(6,.ptr 1 []),(7,.ptr 2 []),(8,.ptr 3 []),(9,.ptr 4 []),(10,.ptr 5 []),(11,(.d (.int .i64 (((B.length-1:Nat):Int))))),(12,(.d (.int .i64 (((m.len-1:Nat):Int))))),(13,(.d (.int .i64 ((X.length:Int)-1))))],[.box false (D.arr 64 .leaf (aq .u8 (pad (row m)))),.box false (.arr 8 (.arr 64 .leaf) ((skP (pd8 X)).map bh)),.box false (.arr 8 (.arr 64 .leaf) ((skP (pd8 B)).map bh)),.box false (.arr 8 (.arr 64 .leaf) z),.box false (.arr 8 (.arr 64 .leaf) z2),.box false (.arr 8 (.arr 64 .leaf) ((skP (pd8 Q)).map bh)),.hole,.hole]⟩ =
  some (.exit 0,⟨[(0,(.d (.int .i64 p))),(5,.ptr 0 []),(6,.ptr 1 []),(7,.ptr 2 []),(8,.ptr 3 []),(9,.ptr 4 []),(10,.ptr 5 []),(11,(.d (.int .i64 (((B.length-1:Nat):Int))))),(12,(.d (.int .i64 (((m.len-1:Nat):Int))))),(13,(.d (.int .i64 (((pc true m B r Q X).2.length:Int)-1)))),(26,(.d (.bool false)))],[.box false (D.arr 64 .leaf (aq .u8 (pad (row m)))),.box false (.arr 8 (.arr 64 .leaf) ((skP (pd8 (pc true m B r Q X).2)).map bh)),.box false (.arr 8 (.arr 64 .leaf) ((skP (pd8 B)).map bh)),.box false (.arr 8 (.arr 64 .leaf) z),.box false (.arr 8 (.arr 64 .leaf) z2),.box false (.arr 8 (.arr 64 .leaf) ((skP (pd8 (pc true m B r Q X).1)).map bh)),.hole,.hole]⟩)
 | 0,Q,X,hr,hQ,hX,hz=>by
  have hlt:¬ ((B.length-1:Nat):Int)≤(X.length:Int)-1:=by omega
  refine bu ?_;show _=some (_,(⟨[_,_,_,_,_,_,_,_,_,(13,(.d (.int .i64 ((X.length:Int)-1)))),_],[_,.box false (.arr 8 (.arr 64 .leaf) ((skP (pd8 X)).map bh)),_,_,_,.box false (.arr 8 (.arr 64 .leaf) ((skP (pd8 Q)).map bh)),_,_]⟩:St));generalize pad (row m)=Pm,(skP (pd8 Q)).map bh=QD,(skP (pd8 B)).map bh=BD,(skP (pd8 X)).map bh=XD,((B.length-1:Nat):Int)=b1,(X.length:Int)-1=x1 at *;simp -implicitDefEqProofs [Z3z_L0,ap,hlt]
 | r+1,Q,X,hr,hQ,hX,hz=>by
  by_cases hlt:X.length<B.length
  ·have hg:pc true m B (r+1) Q X=(Q,X):=by unfold pc; rw [if_pos hlt]
   have hlt':¬ ((B.length-1:Nat):Int)≤(X.length:Int)-1:=by omega
   rw [hg];refine bu ?_;generalize pad (row m)=Pm,(skP (pd8 Q)).map bh=QD,(skP (pd8 B)).map bh=BD,(skP (pd8 X)).map bh=XD,((B.length-1:Nat):Int)=b1,(X.length:Int)-1=x1 at *;simp -implicitDefEqProofs [Z3z_L0,ap,hlt']
  ·have hg:pc true m B (r+1) Q X=pc true m B r (ia 1 Q (qT true m X B)) (ia (-1) X (qP true m X B)):=by
    conv=>lhs; unfold pc
    rw [if_neg hlt]
   have hle:B.length≤X.length:=by omega
   obtain ⟨s1,s2,s3,s4,s5,s6⟩:=J6 true hm hX hB h1 hle;have h2:=hm.two;have h5:=hm.five;have h8:=hX.eight;have hB8:=hB.eight;have hQ8:=hQ.eight;have hm0:=hm.mon.2;have hTl:(qT true m X B).length=X.length-B.length+1:=i9 _ _;have hk8:X.length-B.length<8:=by omega
   have ih:=a0n hfr hin hmm hte hti had hdg (z:=z) (z2:=z2) hm hB h1 r (ia 1 Q (qT true m X B)) (ia (-1) X (qP true m X B)) (by omega) (hQ.plus hm0 s3 1) s6 (hz.step hm hX hB h1 hle)
   rw [←hg] at ih;have hset:=Yj (c:=qc true m X B) hQ8 hk8 (hz _ (by omega))
   rw [show kg (qc true m X B) (X.length-B.length)=qT true m X B from rfl] at hset
   have hset2:(skP (pd8 (ia 1 Q (qT true m X B)))).map bh=((skP (pd8 Q)).map bh).set (X.length-B.length) (D.arr 64 .leaf (aq .u8 (pad (row (qc true m X B))))):=by
    rw [←hset]; unfold skP; rw [dy,dy]
   rw [hset2] at ih;have hxl:=hX.cs hm0 (X.length-1);have e1:=hin p m (cS B (B.length-1)) hm0 (by omega) (hB.top h1) (hB.cs hm0 _)
   have hil:=T2 hm0 (cS B (B.length-1));have e2:=hmm p (cS X (X.length-1)) (jp m (cS B (B.length-1))) m hm0 (by omega) (by omega) (by omega)
   have hzl:=Pol.len_mod (cS X (X.length-1)*jp m (cS B (B.length-1))) hm0;have hmd:=Nat.mod_lt (B.length-1) (show 0<m.len-1 by omega)
   have e3:=hfr p m (cS X (X.length-1)*jp m (cS B (B.length-1))%m) (m.len-1-(B.length-1)%(m.len-1)) h2 (by omega) (by omega) (by omega)
   rw [show ef m ((m.len-1-(B.length-1)%(m.len-1))%(m.len-1)) (cS X (X.length-1)*jp m (cS B (B.length-1))%m)=qc true m X B from rfl] at e3;have w5:(((B.length-1:Nat):Int)).tmod ((m.len-1:Nat):Int)=(((B.length-1)%(m.len-1):Nat):Int):=by rw [d9 (by omega)]; rfl
   have w6:IntKind.i64.wrap (((m.len-1:Nat):Int)-(((B.length-1)%(m.len-1):Nat):Int))=((m.len-1-(B.length-1)%(m.len-1):Nat):Int):=wt;have hd0:((m.len-1:Nat):Int)≠0:=by omega
   have e4:=hte p (qc true m X B) (X.length-B.length) hk8;rw [show kg (qc true m X B) (X.length-B.length)=qT true m X B from rfl] at e4;have e5:=hti p m B (qT true m X B) hm hB s3 (by have:=hTl; omega)
   rw [show ke m B (qT true m X B)=qP true m X B from rfl] at e5;have e6:=had p X (qP true m X B) (-1) (by omega) (by omega) h8 s4.eight (fun c hc=>by have:=hX.res c hc; omega) (fun c hc=>by have:=s4.res c hc; omega)
   have e7:=hdg p m (ia (-1) X (qP true m X B)) hm0 (by omega) s6
   have hge:((B.length-1:Nat):Int)≤((X.length-1:Nat):Int):=by omega
   have hgeN:B.length-1≤X.length-1:=by omega
   have hx0:(X.length:Int)-1=((X.length-1:Nat):Int):=by omega
   have w1:IntKind.i64.wrap (((X.length-1:Nat):Int)-((B.length-1:Nat):Int))=((X.length-B.length:Nat):Int):=wt;have hx1:=Xg (X:=X) h8 (i:=X.length-1) (by omega)
   have hx2:=Xg (X:=B) hB8 (i:=B.length-1) (by omega)
   have hb1:X.length-1<8:=by omega
   have hb2:B.length-1<8:=by omega
   have hXL:=Jk h8;have hBL:=Jk hB8;have hQL:=Jk hQ8;have hQs:∀h:X.length-B.length<((skP (pd8 Q)).map bh).length,(((skP (pd8 Q)).map bh)[X.length-B.length]'h).sh.beq (.arr 64 .leaf)=true:=fun h=>by rw [bb]; rfl
   have hfT:=md (skP (pd8 (qT true m X B)));have hfP:=md (skP (pd8 (qP true m X B)));have hfA:=md (skP (pd8 (ia (-1) X (qP true m X B))));rw [nr] at e4 e7;rw [nr,nr,nr] at e5 e6;rw [hx0];refine bn ?_ ih;generalize B.length-1=b1,X.length-1=x1,((m.len-1:Nat):Int)=kd,(((B.length-1)%(m.len-1):Nat):Int)=kr,m.len-1-(B.length-1)%(m.len-1)=kf,X.length-B.length=xb,pad (row m)=Pm,(skP (pd8 Q)).map bh=QD,(skP (pd8 B)).map bh=BD,(skP (pd8 X)).map bh=XD,pad (row (cS B (B.length-1)))=R5,pad (row (cS X (X.length-1)))=R4,pad (row (jp m (cS B (B.length-1))))=R3,pad (row (cS X (X.length-1)*jp m (cS B (B.length-1))%m))=R2,pad (row (qc true m X B))=R1,(skP (pd8 (ia (-1) X (qP true m X B)))).map bh=D3,(skP (pd8 (qP true m X B))).map bh=D2,(skP (pd8 (qT true m X B))).map bh=D1,((ia (-1) X (qP true m X B)).length:Int)-1=xn at *;simp -implicitDefEqProofs [Z3z_L0,ap,hge,hb1,hb2,hk8,hXL,hBL,hQL,hQs,hx1,hx2,w1,w5,w6,hd0,e1,e2,e3,e4,e5,e6,e7,hfT,hfP,hfA]
def Wf (O:am) (F:Nat) (left:Bool):Prop:=∀(p:Int) [IsP p] (m:Fp p) (X B:List (Fp p)),Fld m→Sk m X→Sk m B→1≤B.length→ask O F [(D.int .i64 p),(D.arr 64 .leaf (aq .u8 (pad (row m)))),eS X,eS B]=some (.tup [eS (pc left m B X.length [] X).1,eS (pc left m B X.length [] X).2])
theorem a9x (hT:T F3z=some Z3z) (hmd:jw (den T A)) (hfr:p8 (den T A)) (hin:zj (den T A)) (hmm:im (den T A)) (hte:Iz (den T A)) (hti:Cj (den T A)) (had:J8 (den T A)) (hdg:Ec (den T A)):Wf (den T A) F3z true:=by
 intro p ip m X B hm hX hB h1;have h2:=hm.two;have h5:=hm.five;have e:=a0n (O:=den T A) hfr hin hmm hte hti had hdg (z:=z8) (z2:=z8) hm hB h1 X.length [] X (ba _) (Sk.nil m) hX (fun j _=>rfl)
 have e1:=hdg p m X hm.mon.2 (by omega) hX
 have e2:=hdg p m B hm.mon.2 (by omega) hB
 rw [show (B.length:Int)-1=((B.length-1:Nat):Int) by omega] at e2
 rw [←ahr] at e;have e3:=hmd p m (by omega)
 rw [show (m.len:Int)-1=((m.len-1:Nat):Int) by omega] at e3
 rw [nr] at e1 e2;rw [nr,nr,nr,nr];refine c9 hT rfl ?_;generalize ((m.len-1:Nat):Int)=kd,((B.length-1:Nat):Int)=b1,(X.length:Int)-1=x1,pad (row m)=Pm,(skP (pd8 B)).map bh=BD,(skP (pd8 X)).map bh=XD,(skP (pd8 (pc true m B X.length [] X).2)).map bh=D2,(skP (pd8 (pc true m B X.length [] X).1)).map bh=D1,((pc true m B X.length [] X).2.length:Int)-1=rn at *;simp -implicitDefEqProofs [Z3z,Z3z_B,e,e1,e2,e3,List.replicate]
section
variable {p:Int} [IsP p]
noncomputable def aju (m:Fp p) (X:List (Fp p)):List (Fp p):=ke m (kg (jp m (cS X (X.length-1))) 0) X
theorem Sk.mon {m:Fp p} {X:List (Fp p)} (hm:m≠0) (hX:Sk m X):Sk m (aju m X):=by
 have h1:=Pol.len_pos hm;have hl:=Am (m:=m) (a:=kg (jp m (cS X (X.length-1))) 0) (b:=X);rw [i9] at hl;have h8:=hX.eight;exact ⟨rz _ _ _,by unfold aju; omega,fun c hc=>by have:=sb (N:=m.len-1) hm (by omega) c hc; omega⟩
end
section
variable {p:Int}
end
section
variable {p:Int} [IsP p]
theorem Om {m:Fp p} (hm:Fld m) {X Y:List (Fp p)} (hX:qu X) (hY:qu Y) (hXl:∀c∈X,c.len<m.len) (hYl:∀c∈Y,c.len<m.len) (h1:1≤X.length) (h2:1≤Y.length):(ke m X Y).length=X.length+Y.length-1:=by
 obtain ⟨a,ea,la⟩:=Bs h1;obtain ⟨b,eb,lb⟩:=Bs h2;have hx:=hX (X.length-1) (by omega)
 have hy:=hY (Y.length-1) (by omega)
 have ht:=Sf hm (a:=a) (b:=b) hx (hXl _ (by rw [←uh (show X.length-1<X.length by omega)]; exact az _)) hy (hYl _ (by rw [←uh (show Y.length-1<Y.length by omega)]; exact az _))
 rw [←ea,←eb] at ht;unfold ke;rw [if_neg (by omega),ht]
 unfold sw;rw [kz,bt]
theorem a0v:(1:Fp p)≠0:=fun h=>by
 have e:(1:Fp p).len=1:=Pol.len_one;rw [h,Pol.len_zero] at e;cases e
theorem Xh {m:Fp p} (hm:Fld m):Sk m (kg (1:Fp p) 0):=⟨Ia a0v 0,by rw [i9]; omega,fun c hc=>by
 unfold kg at hc;rw [List.replicate_zero,cw] at hc;rw [c7.1 hc];have:=hm.two;have:(1:Fp p).len=1:=Pol.len_one;omega⟩
end
section
variable {p:Int} [IsP p]
end
end Pe
namespace Pe
open Go Gq
section
variable {p:Int}
noncomputable def sg {m:Fp p}:Nat→Quo m→Quo m
 | 0,x=>x
 | k+1,x=>sg k (pw x p.toNat)
theorem a0z [IsP p] {m:Fp p}:∀(k:Nat) (a:Fp p),Quo.mk m (ef m k a)=sg k (Quo.mk m a)
 | 0,_=>rfl
 | k+1,a=>by
  show Quo.mk m (ef m k (pw a p.toNat%m))=sg k (pw (Quo.mk m a) p.toNat);rw [a0z k,Pol.mk_mod,Quo.mk_pow]
theorem Ui [IsP p] {m:Fp p}:pw (0:Quo m) p.toNat=0:=by
 have h:=IsP.pos (p:=p);have:p.toNat=(p.toNat-1)+1:=by omega
 rw [this];show pw (0:Quo m) (p.toNat-1)*0=0;exact Gq.mul_zero _
theorem Rd [IsP p] {m:Fp p}:∀k,sg k (0:Quo m)=0
 | 0=>rfl
 | k+1=>by
  show sg k (pw (0:Quo m) p.toNat)=0;rw [Ui,Rd k]
section
variable {m:Fp p}
noncomputable def Rop (t0 t1 t2:Quo m) (X:Nat→Quo m):Nat→Quo m
 | 0=>X 0*t0
 | 1=>X 1*sg 1 t0+X 0*t1
 | n+2=>X (n+2)*sg (n+2) t0+X (n+1)*sg (n+1) t1+X n*sg n t2
noncomputable def e0:Nat→Quo m
 | 0=>1
 | _+1=>0
theorem anw (t0 t1 t2 a b c d e f g h i s u v:Quo m):t0*(a*s+b*u+c*v)+t1*(d*s+e*u+f*v)+t2*(g*s+h*u+i*v)=(t0*a+t1*d+t2*g)*s+(t0*b+t1*e+t2*h)*u+(t0*c+t1*f+t2*i)*v:=by
 have l:∀t a b c:Quo m,t*(a*s+b*u+c*v)=t*a*s+t*b*u+t*c*v:=fun t a b c=>cu [t,a,b,c,s,u,v] rfl
 have q:∀x y z w:Quo m,(x+y+z)*w=x*w+y*w+z*w:=fun x y z w=>cu [x,y,z,w] rfl
 have z:∀p1 p2 p3 q1 q2 q3 r1 r2 r3:Quo m,(p1+p2+p3)+(q1+q2+q3)+(r1+r2+r3)=(p1+q1+r1)+(p2+q2+r2)+(p3+q3+r3):=fun p1 p2 p3 q1 q2 q3 r1 r2 r3=>cu [p1,p2,p3,q1,q2,q3,r1,r2,r3] rfl
 rw [l,l,l,q,q,q,z]
theorem eight [IsP p] (t0 t1 t2 a b c d e f g h s u v:Quo m):t0*(a*s+b*u+c*v)+t1*(d*s+e*u+f*v)+t2*(g*s+h*u)=(t0*a+t1*d+t2*g)*s+(t0*b+t1*e+t2*h)*u+(t0*c+t1*f)*v:=by
 have:=anw t0 t1 t2 a b c d e f g h 0 s u v;simp only [Gq.zero_mul,Gq.mul_zero,Gq.add_zero] at this;exact this
noncomputable def Rk (t0 t1 t2:Quo m):Nat→Nat→Quo m
 | 0=>e0
 | k+1=>Rop t0 t1 t2 (Rk t0 t1 t2 k)
noncomputable def a57 (t0 t1 t2:Quo m):(Nat→Quo m)→Nat→Nat→Nat→Quo m
 | _,_,0,_=>0
 | c,k,n+1,i=>c 0*Rk t0 t1 t2 k i+a57 t0 t1 t2 (fun j=>c (j+1)) (k+1) n i
end
end
section
variable {p:Int}
theorem Q6 [IsP p] {m:Fp p}:∀(k:Nat) (x y:Quo m),sg k (x+y)=sg k x+sg k y
 | 0,_,_=>rfl
 | k+1,x,y=>by
  show sg k (pw (x+y) p.toNat)=sg k (pw x p.toNat)+sg k (pw y p.toNat);rw [Tj,Q6 k]
theorem R7 {m:Fp p}:∀(k:Nat) (x y:Quo m),sg k (x*y)=sg k x*sg k y
 | 0,_,_=>rfl
 | k+1,x,y=>by
  show sg k (pw (x*y) p.toNat)=sg k (pw x p.toNat)*sg k (pw y p.toNat);rw [Ax,R7 k]
theorem Ou [IsP p] {m:Fp p} (c:Zp p):∀k,sg k (Quo.mk m (Pol.C c))=Quo.mk m (Pol.C c)
 | 0=>rfl
 | k+1=>by
  show sg k (pw (Quo.mk m (Pol.C c)) p.toNat)=_;rw [←Quo.mk_pow,←ads,M7,Ou c k]
theorem a1o {m:Fp p} (i:Nat):∀(j:Nat) (x:Quo m),sg i (sg j x)=sg (i+j) x
 | 0,_=>rfl
 | j+1,x=>by
  show sg i (sg j (pw x p.toNat))=sg (i+j) (pw x p.toNat);exact a1o i j _
noncomputable def vq {m:Fp p} (X:Quo m):Nat→List (Fp p)→Quo m
 | _,[]=>0
 | i,c::cs=>Quo.mk m c*sg i X+vq X (i+1) cs
theorem acw [IsP p] {m x:Fp p} (hm:Fld m) (hx:x.len<m.len):∀(i:Nat) (A:List (Fp p)) (out:Fp p),Quo.mk m (svI m x i A out)=Quo.mk m out+vq (Quo.mk m x) i A
 | i,[],out=>(Gq.add_zero _).symm
 | i,c::cs,out=>by
  show Quo.mk m (svI m x (i+1) cs (out+c*ef m (i%(m.len-1)) x%m))=_;rw [acw hm hx (i+1) cs,Quo.mk_add,Pol.mk_mod,Quo.mk_mul,G1 hm i hx,a0z];exact Gq.add_assoc _ _ _
noncomputable def ue [IsP p] (m:Fp p) (A:List (Fp p)) (x:Fp p):Quo m:=Quo.mk m (svI m x 0 A 0)
theorem Ah [IsP p] {m x:Fp p} (hm:Fld m) (hx:x.len<m.len) (A:List (Fp p)):ue m A x=vq (Quo.mk m x) 0 A:=by
 unfold ue;rw [acw hm hx,Quo.mk_zero,Gq.zero_add]
theorem a6l [IsP p] {m:Fp p} (X Y:Quo m):∀(A:List (Fp p)) (i:Nat),vq (X+Y) i A=vq X i A+vq Y i A
 | [],_=>(Gq.add_zero _).symm
 | c::cs,i=>by
  show Quo.mk m c*sg i (X+Y)+vq (X+Y) (i+1) cs=(Quo.mk m c*sg i X+vq X (i+1) cs)+(Quo.mk m c*sg i Y+vq Y (i+1) cs);rw [Q6,a6l X Y cs];exact cu [Quo.mk m c,sg i X,sg i Y,vq X (i+1) cs,vq Y (i+1) cs] rfl
theorem Io [IsP p] {m:Fp p} (k:Zp p) (X:Quo m):∀(A:List (Fp p)) (i:Nat),vq (Quo.mk m (Pol.C k)*X) i A=Quo.mk m (Pol.C k)*vq X i A
 | [],_=>(Gq.mul_zero _).symm
 | c::cs,i=>by
  show Quo.mk m c*sg i (Quo.mk m (Pol.C k)*X)+vq (Quo.mk m (Pol.C k)*X) (i+1) cs=Quo.mk m (Pol.C k)*(Quo.mk m c*sg i X+vq X (i+1) cs);rw [R7,Ou,Io k X cs];exact cu [Quo.mk m c,Quo.mk m (Pol.C k),sg i X,vq X (i+1) cs] rfl
theorem a8c {m:Fp p} (X:Quo m) (v:Fp p):∀(Q:List (Fp p)) (i j:Nat),j<Q.length→vq X i (jj Q j v)=vq X i Q+Quo.mk m v*sg (i+j) X
 | [],_,_,h=>by simp at h
 | c::cs,i,0,_=>by
  show Quo.mk m (c+v)*sg i X+vq X (i+1) cs=Quo.mk m c*sg i X+vq X (i+1) cs+Quo.mk m v*sg (i+0) X;rw [Quo.mk_add,dd];exact cu [Quo.mk m c,Quo.mk m v,sg i X,vq X (i+1) cs] rfl
 | c::cs,i,j+1,h=>by
  have e:jj (c::cs) (j+1) v=c::jj cs j v:=rfl;rw [e];show Quo.mk m c*sg i X+vq X (i+1) (jj cs j v)=Quo.mk m c*sg i X+vq X (i+1) cs+Quo.mk m v*sg (i+(j+1)) X;rw [a8c X v cs (i+1) j (by simpa using h),show i+1+j=i+(j+1) by omega]
  exact (Gq.add_assoc _ _ _).symm
theorem V7 {m:Fp p} (X:Quo m):∀(n i:Nat),vq X i (List.replicate n (0:Fp p))=0
 | 0,_=>rfl
 | n+1,i=>by
  show Quo.mk m 0*sg i X+vq X (i+1) (List.replicate n 0)=0;rw [V7 X n,Quo.mk_zero,Gq.zero_mul,Gq.add_zero]
theorem Wt [IsP p] {m c:Fp p} (hm:Fld m) (X:Quo m) {i:Nat}:∀(b:List (Fp p)) (k:Nat) (Q:List (Fp p)),(∀y∈b,y.len<m.len)→i+k+b.length≤Q.length→vq X 0 (o8 m c i k b Q)=vq X 0 Q+Quo.mk m c*sg i (vq X k b)
 | [],_,Q,_,_=>by
  show vq X 0 Q=vq X 0 Q+Quo.mk m c*sg i 0;rw [Rd,Gq.mul_zero,Gq.add_zero]
 | y::ys,k,Q,hb,h=>by
  rw [bv] at h;show vq X 0 (o8 m c i (k+1) ys (jj Q (i+k) _))=vq X 0 Q+Quo.mk m c*sg i (Quo.mk m y*sg k X+vq X (k+1) ys);rw [Wt hm X ys (k+1) _ (fun z hz=>hb z (by simp [hz])) (by rw [sr]; omega),a8c X _ Q 0 (i+k) (by omega),Pol.mk_mod,Quo.mk_mul,G1 hm i (hb y (by simp)),a0z,b9,Q6,R7,a1o]
  exact cu [vq X 0 Q,Quo.mk m c,sg i (Quo.mk m y),sg (i+k) X,sg i (vq X (k+1) ys)] rfl
theorem a86 [IsP p] {m c0 x:Fp p} (hm:Fld m) {A:List (Fp p)} (hA:∀y∈A,y.len<m.len) (hx:x.len<m.len) (h1:1≤A.length):ue m (ke m [c0,1] A) x=Quo.mk m c0*ue m A x+sg 1 (ue m A x):=by
 have h0:=hm.mon.2
 have e1:ue m (ke m [c0,1] A) x=ue m (sw m [c0,1] A) x:=by
  unfold ke ue;rw [if_neg (by simp only [bv]; omega),Un h0]
 rw [e1,Ah hm hx,Ah hm hx];show vq _ 0 (o8 m 1 1 0 A (o8 m c0 0 0 A (List.replicate ([c0,1].length+A.length-1) 0)))=_;have hl:(List.replicate ([c0,(1:Fp p)].length+A.length-1) (0:Fp p)).length=A.length+1:=by rw [bt]; simp only [bv,da]; omega
 rw [Wt hm _ A 0 _ hA (by rw [oe]; omega),Wt hm _ A 0 _ hA (by omega),V7,Gq.zero_add,Quo.mk_one,Gq.one_mul]
 rfl
theorem Sg [IsP p] {m:Fp p} (hm:Fld m) {A:List (Fp p)} {a b:Fp p} (ha:a.len<m.len) (hb:b.len<m.len) (hk:ue m A b=0):ue m A (elim b a)=ue m A a:=by
 have hl:(elim b a).len≤m.len-1:=xg (by omega) (by omega)
 rw [Ah hm (by omega),Ah hm ha]
 rw [Ah hm hb] at hk;unfold elim;rw [Quo.mk_add,Quo.mk_mul,a6l,Io,hk,Gq.mul_zero,Gq.add_zero]
theorem Qu [IsP p] {m:Fp p} (hm:Fld m) {A:List (Fp p)}:∀(L:List (Fp p)) (x:Fp p),(∀b∈L,b.len<m.len∧ue m A b=0)→x.len<m.len→ue m A (fd L x)=ue m A x
 | [],_,_,_=>rfl
 | b::bs,x,h,hx=>by
  have hb:=h b (by simp)
  have hl:(elim b x).len≤m.len-1:=xg (by omega) (by omega)
  show ue m A (fd bs (elim b x))=_;rw [Qu hm bs (elim b x) (fun c hc=>h c (by simp [hc])) (by omega),Sg hm hx hb.1 hb.2]
theorem Th [IsP p] {m:Fp p} (hm:Fld m) {A:List (Fp p)} {x:Fp p} (hx:x.len<m.len) (k:Zp p) (hk:ue m A x=0):ue m A (Pol.C k*x)=0:=by
 have hl:(Pol.C k*x).len<m.len:=by
  have h2:=hm.two;have:(Pol.C k*x).len≤m.len-1:=Pol.len_le fun j hj=>by rw [Pol.c_Cmul,a5m (by omega),Gq.mul_zero]
  omega
 rw [Ah hm hl,Quo.mk_mul,Io,←Ah hm hx,hk,Gq.mul_zero]
theorem Us (a:Fp p) (L:List (Fp p)):(yn a L).length=L.length+1:=by
 rw [(vg a L).length_eq,bg,af]; rfl
noncomputable def lsC [IsP p] (m v:Fp p):Fp p:=Pol.C (zp p (-1))*(ef m 1 v*jp m v%m)
noncomputable def lsN [IsP p] (m:Fp p) (A:List (Fp p)) (x:Fp p):List (Fp p):=if (svI m x 0 A 0).len=0 then A else ke m [lsC m (svI m x 0 A 0),1] A
noncomputable def lsS [IsP p] (m:Fp p):List (Fp p)→List (Fp p)→List (Fp p)
 | [],A=>A
 | x::xs,A=>lsS m xs (lsN m A x)
theorem a16 [IsP p] {m v:Fp p} (hm:Fld m):(lsC m v).len<m.len:=by
 have h1:=Pol.len_mod (ef m 1 v*jp m v) hm.mon.2;have:(lsC m v).len≤m.len-1:=Pol.len_le fun j hj=>by unfold lsC; rw [Pol.c_Cmul,a5m (by omega),Gq.mul_zero]
 omega
theorem ail [IsP p] {m v:Fp p} (hm:Fld m) (hv:v≠0) (hvl:v.len<m.len):Quo.mk m (lsC m v)*Quo.mk m v+sg 1 (Quo.mk m v)=0:=by
 have hi:=Qt hm hv hvl;unfold lsC;rw [Quo.mk_mul,Pol.mk_mod,Quo.mk_mul,a0z,Jp,Af,Pol.C_neg,Pol.C_one,Quo.mk_neg,Quo.mk_one];have e:-1*(sg 1 (Quo.mk m v)*Quo.mk m (jp m v))*Quo.mk m v+sg 1 (Quo.mk m v)=sg 1 (Quo.mk m v)*(1-Quo.mk m (jp m v)*Quo.mk m v):=cu [sg 1 (Quo.mk m v),Quo.mk m (jp m v),Quo.mk m v] rfl;rw [e,hi];exact cu [sg 1 (Quo.mk m v)] rfl
structure LsI [IsP p] (m:Fp p) (A:List (Fp p)):Prop where
 trim:qu A
 res:∀c∈A,c.len<m.len
 ex:∃L:List (Fp p),Desc (m.len-1) L∧(∀b∈L,ue m A b=0)∧A.length=L.length+1
theorem LsI.len [IsP p] {m:Fp p} {A:List (Fp p)} (hm:Fld m) (h:LsI m A):1≤A.length∧A.length≤5:=by
 obtain ⟨L,h1,_,h3⟩:=h.ex;have:=h1.length;have h5:=hm.five;have h2:=hm.two;omega
theorem LsI.one [IsP p] {m:Fp p} (hm:Fld m):LsI m (kg (1:Fp p) 0):=⟨(Xh hm).trim,(Xh hm).res,[],Desc.nil _,(fun b hb=>by cases hb),by rw [i9]; rfl⟩
theorem U7 [IsP p] (c:Fp p):qu [c,(1:Fp p)]:=fun n hn=>by
 have:n=1:=by simp at hn; omega
 subst this;exact a0v
theorem Yo [IsP p] {m c:Fp p} (hm:Fld m) (hc:c.len<m.len):∀y∈[c,(1:Fp p)],y.len<m.len:=fun y hy=>by
 have h2:=hm.two;have:(1:Fp p).len=1:=Pol.len_one;simp at hy;rcases hy with rfl | rfl <;> omega
theorem LsI.next [IsP p] {m x:Fp p} {A:List (Fp p)} (hm:Fld m) (h:LsI m A) (hx:x.len<m.len):LsI m (lsN m A x):=by
 have h0:=hm.mon.2;have h2:=hm.two;unfold lsN
 by_cases hv:(svI m x 0 A 0).len=0
 ·rw [if_pos hv]; exact h
 ·rw [if_neg hv]
  obtain ⟨L,hL,hK,hlen⟩:=h.ex;have hvl:(svI m x 0 A 0).len<m.len:=Qz h0 0 A 0 (by rw [Pol.len_zero]; omega)
  have hv0:svI m x 0 A 0≠0:=fun h=>hv (by rw [h,Pol.len_zero])
  have hcl:=a16 (v:=svI m x 0 A 0) hm;have hLl:∀b∈L,b.len<m.len:=fun b hb=>by have:=hL.le b hb; omega
  have step:∀y:Fp p,y.len<m.len→ue m (ke m [lsC m (svI m x 0 A 0),1] A) y=Quo.mk m (lsC m (svI m x 0 A 0))*ue m A y+sg 1 (ue m A y):=fun y hy=>a86 hm h.res hy (by omega)
  have kill:∀y:Fp p,y.len<m.len→ue m A y=0→ue m (ke m [lsC m (svI m x 0 A 0),1] A) y=0:=fun y hy hk=>by
   rw [step y hy,hk,Gq.mul_zero,Rd,Gq.add_zero]
  have killx:ue m (ke m [lsC m (svI m x 0 A 0),1] A) x=0:=by
   rw [step x hx];exact ail hm hv0 hvl
  have hr:fd L x≠0:=fun hz=>by
   have e:=Qu (A:=A) hm L x (fun b hb=>⟨hLl b hb,hK b hb⟩) hx
   rw [hz] at e
   have e2:ue m A (0:Fp p)=0:=by
    have:=Th (A:=A) hm (x:=0) (by rw [Pol.len_zero]; omega)
    rw [Ah hm (by rw [Pol.len_zero]; omega)]
    have h3:=Io (m:=m) (0:Zp p) (0:Quo m) A 0;rw [Gq.mul_zero] at h3;rw [Quo.mk_zero,h3];have:Quo.mk m (Pol.C (0:Zp p))=0:=by rw [Pol.C_zero]; rfl
    rw [this,Gq.zero_mul]
   rw [e2] at e;have e3:=(Pol.mod_eq_iff h0).2 (show Quo.mk m (svI m x 0 A 0)=Quo.mk m 0 from e.symm);rw [Pol.mod_small hvl,Pol.zero_mod h0] at e3;exact hv0 e3
  have hrl:(fd L x).len≤m.len-1:=Eu hL.le (by omega)
  have hml:=uu hr
  have killr:ue m (ke m [lsC m (svI m x 0 A 0),1] A) (Gq.mon (fd L x))=0:=by
   refine Th hm (by omega) _ ?_
   rw [Qu hm L x (fun b hb=>⟨hLl b hb,kill b (hLl b hb) (hK b hb)⟩) hx]
   exact killx
  refine ⟨rz _ _ _,fun c hc=>by have:=sb (N:=m.len-1) h0 (by omega) c hc; omega,Az L x,Gr hL (by omega),fun b hb=>?_,?_⟩
  ·rw [Bv hr] at hb
   rcases Ey hb with rfl | ⟨c,hc,rfl⟩
   ·exact killr
   ·have hcl':=hLl c hc
    rw [Sg hm hcl' (by omega) killr]
    exact kill c hcl' (hK c hc)
  ·rw [Bv hr,Us,Om hm (U7 _) h.trim (Yo hm hcl) h.res (by simp) (by omega)]
   simp only [bv,da];omega
theorem LsI.all [IsP p] {m:Fp p} (hm:Fld m):∀(xs A:List (Fp p)),LsI m A→(∀x∈xs,x.len<m.len)→LsI m (lsS m xs A)
 | [],_,h,_=>h
 | x::xs,A,h,hx=>LsI.all hm xs _ (h.next hm (hx x (by simp))) fun y hy=>hx y (by simp [hy])
end
end Pe
namespace Pe
open Go Gq
variable {T:Nat→Option Fn} {A:am}
section
variable {p:Int}
end
end Pe


/-
 Functions of the laws in the small form,printed by a program.
-/
namespace Pe
open Go
abbrev F7:Nat:=1122
end Pe
namespace Pe
open Go Gq
variable {T:Nat→Option Fn} {A:am}
section
variable {p:Int} [IsP p]
end
section
variable {p:Int} [IsP p]
end
section
variable {p:Int} [IsP p]
end
section
variable {p:Int} [IsP p]
end
end Pe

namespace Gq
section
variable {K:Type} [CR K]
abbrev Rw (K:Type):=Nat→K
def tlR (r:Rw K):Rw K:=fun k=>r (k+1)
def adR (u:Rw K) (c:K) (v:Rw K):Rw K:=fun k=>u k+c*v k
@[simp] theorem ana (u:Rw K) (c:K) (v:Rw K):tlR (adR u c v)=adR (tlR u) c (tlR v):=rfl
end
end Gq

namespace Pe
open Go Gq
variable {T:Nat→Option Fn} {A:am}
section
variable {p:Int} [IsP p]
abbrev Tab (p:Int) [IsP p]:=List (List (Fp p))
def Sq (m:Fp p) (n:Nat) (M:Tab p):Prop:=M.length=n∧∀r∈M,r.length=n∧∀x∈r,x.len<m.len
noncomputable def rwQ (m:Fp p) (r:List (Fp p)):Rw (Quo m):=fun k=>Quo.mk m (r.getD k 0)
end
section
variable {p:Int}
end
section
variable {p:Int} [IsP p]
end
section
variable {p:Int}
end
section
variable {p:Int} [IsP p]
end
section
variable {p:Int}
end
section
variable {p:Int} [IsP p]
end
section
variable {p:Int}
end
section
variable {p:Int} [IsP p]
end
end Pe
namespace Pe
open Go Gq
variable {T:Nat→Option Fn} {A:am}
def a5p (O:am):Prop:=∀n:Nat,n<10000000→O F2e [.d (.nils (.arr 64 .leaf)),(.d (.int .i64 n))] []=some (.sl 0 [] 0 0 none,[],[.sl false (.arr 64 .leaf) (List.replicate n (.arr 64 .leaf z64))])
def Mq (O:am):Prop:=∀X Y:List D,X.length<2000000→Y.length<2000000→ask O F2b [.sl .leaf [.sl (.arr 64 .leaf) X,.sl (.arr 64 .leaf) Y]]=some (.sl (.arr 64 .leaf) (X++Y))
theorem a5a (hT:T F2b=some Z2b) (hg:a5p (den T A)):Mq (den T A):=by
 intro X Y hX hY;have eg:=hg (X.length+Y.length) (by omega)
 obtain ⟨x,hx⟩:∃x:Int,(X.length:Int)=x:=⟨_,rfl⟩;obtain ⟨y,hy⟩:∃y:Int,((X.length+Y.length:Nat):Int)=y:=⟨_,rfl⟩;rw [hy] at eg;have w0:IntKind.i64.wrap x=x:=wt;have a57:x+(Y.length:Int)=y:=by omega
 have w1:IntKind.i64.wrap y=y:=wt;have w2:IntKind.i64.wrap 1=1:=wt;have w3:IntKind.i64.wrap 2=2:=wt;have n1:¬ x<0:=by omega
 have n2:¬ y<0:=by omega
 have b1:X.length*64≤1099511627776:=by omega
 have b2:(X.length+Y.length)*64≤1099511627776:=by omega
 have hXY:(X++Y).length=X.length+Y.length:=bg;generalize List.replicate (X.length+Y.length) (D.arr 64 .leaf z64)=ZZ at *
 have st:=bn (O:=den T A) (np:=0) (c:=Z2b_L0) (s:=⟨[(0,.d (.sl .leaf [.sl (.arr 64 .leaf) X,.sl (.arr 64 .leaf) Y])),(3,(.d (.int .i64 0))),(9,.d (.sl .leaf [.sl (.arr 64 .leaf) X,.sl (.arr 64 .leaf) Y])),(10,(.d (.int .i64 2))),(11,(.d (.int .i64 0)))],[.hole,.hole]⟩)
  (s1:=⟨[(0,.d (.sl .leaf [.sl (.arr 64 .leaf) X,.sl (.arr 64 .leaf) Y])),(3,(.d (.int .i64 x))),(9,.d (.sl .leaf [.sl (.arr 64 .leaf) X,.sl (.arr 64 .leaf) Y])),(10,(.d (.int .i64 2))),(11,(.d (.int .i64 1)))],[.hole,.hole]⟩) (by
   simp -implicitDefEqProofs [Z2b_L0,ap,hx,w0,w2,n1])
  (bn (s1:=⟨[(0,.d (.sl .leaf [.sl (.arr 64 .leaf) X,.sl (.arr 64 .leaf) Y])),(3,(.d (.int .i64 y))),(9,.d (.sl .leaf [.sl (.arr 64 .leaf) X,.sl (.arr 64 .leaf) Y])),(10,(.d (.int .i64 2))),(11,(.d (.int .i64 2)))],[.hole,.hole]⟩) (by
   simp -implicitDefEqProofs [Z2b_L0,ap,a57,w1,w3,n2])
  (bu (id:=0) (s1:=⟨[(0,.d (.sl .leaf [.sl (.arr 64 .leaf) X,.sl (.arr 64 .leaf) Y])),(3,(.d (.int .i64 y))),(9,.d (.sl .leaf [.sl (.arr 64 .leaf) X,.sl (.arr 64 .leaf) Y])),(10,(.d (.int .i64 2))),(11,(.d (.int .i64 2))),(12,(.d (.bool false)))],[.hole,.hole]⟩) (by
   simp -implicitDefEqProofs [Z2b_L0,ap])))
 have sx:=bn (O:=den T A) (np:=0) (c:=Z2b_L1) (s:=⟨[(6,.sl 0 [] 0 0 none),(25,.d (.sl .leaf [.sl (.arr 64 .leaf) X,.sl (.arr 64 .leaf) Y])),(26,(.d (.int .i64 2))),(27,(.d (.int .i64 0)))],[.sl false (.arr 64 .leaf) ZZ,.hole]⟩)
  (s1:=⟨[(6,.sl 0 [] 0 X.length none),(25,.d (.sl .leaf [.sl (.arr 64 .leaf) X,.sl (.arr 64 .leaf) Y])),(26,(.d (.int .i64 2))),(27,(.d (.int .i64 1)))],[.sl false (.arr 64 .leaf) X,.hole]⟩) (by
   simp -implicitDefEqProofs [Z2b_L1,ap,w2,b1])
  (bn (s1:=⟨[(6,.sl 0 [] 0 (X.length+Y.length) none),(25,.d (.sl .leaf [.sl (.arr 64 .leaf) X,.sl (.arr 64 .leaf) Y])),(26,(.d (.int .i64 2))),(27,(.d (.int .i64 2)))],[.sl false (.arr 64 .leaf) (X++Y),.hole]⟩) (by
   simp -implicitDefEqProofs [Z2b_L1,ap,w3,b2])
  (bu (id:=2) (s1:=⟨[(6,.sl 0 [] 0 (X.length+Y.length) none),(25,.d (.sl .leaf [.sl (.arr 64 .leaf) X,.sl (.arr 64 .leaf) Y])),(26,(.d (.int .i64 2))),(27,(.d (.int .i64 2))),(28,(.d (.bool false)))],[.sl false (.arr 64 .leaf) (X++Y),.hole]⟩) (by
   simp -implicitDefEqProofs [Z2b_L1,ap])))
 refine c9 hT rfl ?_;have htk:(X++Y).take (X.length+Y.length)=X++Y:=aw (by omega)
 generalize X.length+Y.length=n,X++Y=XY at *;simp -implicitDefEqProofs [Z2b,Z2b_B,st,sx,eg,hXY,htk,List.idxOf,List.findIdx,List.findIdx.go]
section
variable {p:Int}
noncomputable def dif (xs ys:List (Fp p)):List (Fp p):=List.zipWith (fun a b=>a-b) xs ys
theorem pe {xs ys:List (Fp p)} (h:xs.length=ys.length):(dif xs ys).length=xs.length:=by unfold dif; rw [List.length_zipWith]; omega
theorem a0e {xs ys:List (Fp p)} {i:Nat} (h1:i<xs.length) (h2:i<ys.length):∀h:i<(dif xs ys).length,(dif xs ys)[i]'h=xs[i]-ys[i]:=fun _=>List.getElem_zipWith
theorem a0u [IsP p] {xs ys:List (Fp p)} (hx:∀x∈xs,x.len≤11) (hy:∀x∈ys,x.len≤11):∀x∈dif xs ys,x.len≤11:=by
 intro x hm;unfold dif at hm;obtain ⟨i,hi,rfl⟩:=je hm;rw [List.getElem_zipWith];rw [List.length_zipWith] at hi;have h1:=hx _ (az (show i<xs.length by omega))
 have h2:=hy _ (az (show i<ys.length by omega))
 exact Pol.len_sub_le h1 h2
variable [IsP p]
theorem a59 {O:am} (hc:jn O) {xs ys:List (Fp p)} (hl:xs.length=ys.length) (hn:xs.length<2000000) (hx:∀x∈xs,x.len≤11) (hy:∀x∈ys,x.len≤11):∀(r i:Nat) (cp:Option Nat),i+r=xs.length→∃cp':Option Nat,
 dn O 0 (.loop Z12_L0) ⟨[(0,(.d (.int .i64 p))),(2,.d (.sl .leaf (ys.map bf))),(7,.sl 0 [] 0 i cp),(10,.d (.sl .leaf (xs.map bf))),(11,(.d (.int .i64 xs.length))),(12,(.d (.int .i64 i)))],[.sl false .leaf (((dif xs ys).take i).map bf),.hole,.hole]⟩ =
  some (.exit 0,⟨[(0,(.d (.int .i64 p))),(2,.d (.sl .leaf (ys.map bf))),(7,.sl 0 [] 0 xs.length cp'),(10,.d (.sl .leaf (xs.map bf))),(11,(.d (.int .i64 xs.length))),(12,(.d (.int .i64 xs.length))),(13,(.d (.bool false)))],[.sl false .leaf ((dif xs ys).map bf),.hole,.hole]⟩)
 | 0,i,cp,hi=>by
  obtain rfl:i=xs.length:=by omega
  rw [aw (by rw [pe hl]; exact ba _)]
  refine ⟨cp,bu ?_⟩;generalize (dif xs ys).map bf=RD,ys.map bf=YD,xs.map bf=XD at *;simp -implicitDefEqProofs [Z12_L0,ap]
 | r+1,i,cp,hi=>by
  have hlt:i<xs.length:=by omega
  have hlt2:i<ys.length:=by omega
  have hlt3:i<(dif xs ys).length:=by rw [pe hl]; exact hlt
  have h1:=hx _ (az hlt);have h2:=hy _ (az hlt2);have e1:=hc p xs[i] ys[i] (by omega) (by omega)
  have hXD:(xs.map bf).length=xs.length:=af ..;have hYD:(ys.map bf).length=xs.length:=(af ..).trans hl.symm;have hxi:∀h:i<(xs.map bf).length,(xs.map bf)[i]'h=(D.sl .leaf (aq .i64 (row xs[i]))):=fun h=>by rw [bb]
  have hyi:∀h:i<(ys.map bf).length,(ys.map bf)[i]'h=(D.sl .leaf (aq .i64 (row ys[i]))):=fun h=>by rw [bb]
  have w4:=wi i;have h24:(i+1)*24≤1099511627776:=by omega
  have htk:((dif xs ys).take (i+1)).map bf=((dif xs ys).take i).map bf++[(D.sl .leaf (aq .i64 (row (xs[i]-ys[i]))))]:=by rw [br hlt3,cj,a0e hlt hlt2]; rfl
  have hL:(((dif xs ys).take i).map bf).length=i:=by rw [af,b8]; omega
  have htt:(((dif xs ys).take i).map bf).take i=((dif xs ys).take i).map bf:=aw (by omega)
  obtain ⟨cp',ih⟩:=a59 hc hl hn hx hy r (i+1) none (by omega)
  refine ⟨cp',bn ?_ ih⟩;rw [htk];generalize row (xs[i]-ys[i])=Qi at *;generalize row xs[i]=Ri at *;generalize row ys[i]=Si at *;generalize ys.map bf=YD,xs.map bf=XD,((dif xs ys).take i).map bf=TD at *;simp -implicitDefEqProofs [Z12_L0,ap,hlt,hXD,hYD,hxi,hyi,e1,h24,hL,htt,w4,List.replicate]
end
def Df (O:am):Prop:=∀(p:Int) [IsP p] (xs ys:List (Fp p)),xs.length=ys.length→xs.length<2000000→(∀x∈xs,x.len≤11)→(∀x∈ys,x.len≤11)→ask O F12 [(D.int .i64 p),.sl .leaf (xs.map bf),.sl .leaf (ys.map bf)]=some (D.int .i64 ((gd (dif xs ys) []).length))
theorem W4 (hT:T F12=some Z12) (hc:jn (den T A)) (hr:Qd (den T A)):Df (den T A):=by
 intro p ip xs ys hl hn hx hy;obtain ⟨cp,e⟩:=a59 (O:=den T A) hc hl hn hx hy xs.length 0 (some 0) (b9 _);have e1:=hr p (dif xs ys) (a0u hx hy) (by rw [pe hl]; exact hn)
 have e00:((0:Nat):Int)=0:=rfl;rw [e00,cx,fa] at e;have h1:(xs.map bf).length=xs.length:=af ..;have h2:((dif xs ys).map bf).length=xs.length:=(af ..).trans (pe hl);have htk:((dif xs ys).map bf).take xs.length=(dif xs ys).map bf:=aw (by omega)
 refine c9 hT rfl ?_;generalize ys.map bf=YD,xs.map bf=XD,(dif xs ys).map bf=QD,(gd (dif xs ys) []).length=s at *;simp -implicitDefEqProofs [Z12,Z12_B,h1,h2,htk,e,e1]
theorem Av {p:Int} {l:List Int} {ls ms:List (List Int)}:D9 p l (ls++ms)↔D9 p l ls∧D9 p l ms:=by
 constructor
 ·rintro ⟨ip,m,e,hm,hs⟩
  exact ⟨⟨ip,m,e,hm,fun x hx=>hs x (by simp [hx])⟩,⟨ip,m,e,hm,fun x hx=>hs x (by simp [hx])⟩⟩
 ·rintro ⟨⟨ip,m,rfl,hm,hs⟩,⟨ip',m',e',hm',hs'⟩⟩
  have h5:=hm.five;have h6:=hm'.five;obtain rfl:=(s9 (by omega) (by omega)).1 e'
  refine ⟨ip,m,rfl,hm,fun x hx=>?_⟩
  rcases bp.1 hx with h | h
  ·exact hs x h
  ·exact hs' x h
theorem Dj {p:Int} {l:List Int} {ls:List (List Int)} (h:¬ D9 p l ls):Gy p l ls=1:=if_neg h
open Classical in
noncomputable def fp (p:Int) (l:List Int) (ls ms:List (List Int)) (c:Prop):Int:=
 if h:D9 p l (ls++ms) then
  haveI:IsP p:=h.choose
  if ¬ (1≤ls.length∧ls.length≤4∧c) then 2 else if (gd (ls.map (gw p)) []).length<ls.length then 5 else 0
 else 1
def Gb (O:am):Prop:=∀(p:Int) (l:List Int) (ls ms:List (List Int)) (b:Bool),m9 l→l.length=64→wq ls→wq ms→ls.length+ms.length<2000000→ask O Fy [(D.int .i64 p),(D.arr 64 .leaf (aq .u8 l)),.sl (.arr 64 .leaf) (ls.map bh),.sl (.arr 64 .leaf) (ms.map bh),(D.bool b)]=some (D.int .i64 (fp p l ls ms (b=true)))
theorem a6k (hT:T Fy=some Zy) (hcc:Mq (den T A)) (hr:uz (den T A) F1l) (hro:Qe (den T A)) (hra:Qd (den T A)):Gb (den T A):=by
 intro p l ls ms b bl gl ha hb hl;have e0:=hcc (ls.map bh) (ms.map bh) (by rw [af]; omega) (by rw [af]; omega)
 rw [←cj] at e0
 have e1:=hr p l (ls++ms) bl gl (fun x hx=>by
  rcases bp.1 hx with h | h
  ·exact ha x h
  ·exact hb x h) (by rw [bg]; omega)
 have hL:(ls.map bh).length=ls.length:=af ..;unfold fp
 by_cases h:D9 p l (ls++ms)
 ·rw [Mi.2 h] at e1
  rw [dif_pos h];obtain ⟨ip,m,rfl,hm,hs⟩:=h;obtain ⟨S,hS0,hS⟩:=Uo (m:=m) (ls:=ls) (fun x hx=>hs x (by simp [hx]))
  have h5:=hm.five;have hSl:ls.length=S.length:=by rw [hS0,af]
  have e2:=hro p S (by omega) (fun x hx=>by have:=hS x hx; omega)
  have e3:=hra p S (fun x hx=>by have:=hS x hx; omega) (by omega)
  have hmp:ls.map (gw p)=S:=by rw [hS0]; exact Bz (S:=S) (fun a ha=>by have:=hS a ha; omega)
  have hmd:ls.map bh=S.map bo:=by rw [hS0]; exact qy S
  rw [hmp];rw [←hmd] at e2;refine c9 hT rfl ?_;obtain ⟨k,hk⟩:∃k:Int,(ls.length:Int)=k:=⟨_,rfl⟩;have hLk:((ls.map bh).length:Int)=k:=by rw [hL]; exact hk
  by_cases c1:k<1
  ·rw [if_pos (by omega)]
   generalize pad (row m)=Pm,(ls++ms).map bh=LM,ms.map bh=MD,ls.map bh=LD at *;simp -implicitDefEqProofs [Zy,Zy_B,ap,e0,e1,hLk,c1]
  ·by_cases c2:4<k
   ·rw [if_pos (by omega)]
    generalize pad (row m)=Pm,(ls++ms).map bh=LM,ms.map bh=MD,ls.map bh=LD at *;simp -implicitDefEqProofs [Zy,Zy_B,ap,e0,e1,hLk,c1,c2]
   ·cases b with
    | false=>
     rw [if_pos (by simp)]
     generalize pad (row m)=Pm,(ls++ms).map bh=LM,ms.map bh=MD,ls.map bh=LD at *;simp -implicitDefEqProofs [Zy,Zy_B,ap,e0,e1,hLk,c1,c2]
    | true=>
     rw [if_neg (fun h=>h ⟨by omega,by omega,rfl⟩)]
     obtain ⟨r,hr⟩:∃r:Int,((gd S []).length:Int)=r:=⟨_,rfl⟩;rw [hr] at e3
     by_cases c3:r<k
     ·rw [if_pos (by omega)]
      generalize S.map bf=SR,pad (row m)=Pm,(ls++ms).map bh=LM,ms.map bh=MD,ls.map bh=LD at *;simp -implicitDefEqProofs [Zy,Zy_B,ap,e0,e1,e2,e3,hLk,c1,c2,c3]
     ·rw [if_neg (by omega)]
      generalize S.map bf=SR,pad (row m)=Pm,(ls++ms).map bh=LM,ms.map bh=MD,ls.map bh=LD at *;simp -implicitDefEqProofs [Zy,Zy_B,ap,e0,e1,e2,e3,hLk,c1,c2,c3]
 ·rw [Dj h] at e1
  rw [dif_neg h];refine c9 hT rfl ?_;generalize (ls++ms).map bh=LM,ms.map bh=MD,ls.map bh=LD at *;simp -implicitDefEqProofs [Zy,Zy_B,ap,e0,e1]
theorem sm {p:Int} {l:List Int} {ls ms ns:List (List Int)} {c d:Prop} (h:D9 p l (ls++ms)↔D9 p l (ls++ns)) (hc:c↔d):fp p l ls ms c=fp p l ls ns d:=by
 unfold fp;rw [propext hc]
 by_cases g:D9 p l (ls++ms)
 ·rw [dif_pos g,dif_pos (h.1 g)]
 ·rw [dif_neg g,dif_neg (fun g'=>g (h.2 g'))]
theorem Oy {p:Int} {l:List Int} {ls ms:List (List Int)} {c:Prop} (h:fp p l ls ms c=0):D9 p l (ls++ms)∧1≤ls.length∧ls.length≤4∧c:=by
 unfold fp at h
 split at h
 ·rename_i g
  split at h
  ·cases h
  ·rename_i h1
   exact ⟨g,Classical.not_not.1 h1⟩
 ·cases h
end Pe
namespace Pe
open Go Gq
variable {T:Nat→Option Fn} {A:am}
section
variable {p:Int} [IsP p]
theorem aan (L:List (Fp p)) (x:Fp p):(Az L x).length≤L.length+1:=by
 by_cases h:fd L x=0
 ·rw [Cg h]; omega
 ·rw [Bv h,(vg _ L).length_eq,bg,af]; exact ba _
theorem U6:∀(xs L:List (Fp p)),(gd xs L).length≤xs.length+L.length
 | [],L=>by unfold gd; simp
 | x::xs,L=>by
  have h1:=aan L x;have h2:=U6 xs (Az L x);rw [gd,bv];omega
end
def si (O:am):Prop:=∀(p:Int) [IsP p] (a b:Fp p),a.len≤64→b.len≤64→ask O F3c [(D.int .i64 p),(D.arr 64 .leaf (aq .u8 (pad (row a)))),(D.arr 64 .leaf (aq .u8 (pad (row b)))),(D.int .i64 (-1))]=some (D.arr 64 .leaf (aq .u8 (pad (row (a-b)))))
theorem afl {O:am} (h:m8 O):si O:=fun p i a b h1 h2=>by
 rw [h p (-1) a b (by omega) (by omega) h1 h2,Ao]
section
variable {p:Int} [IsP p]
theorem a0b {O:am} (hc:si O) {xs ys:List (Fp p)} (hl:xs.length=ys.length) (hn:xs.length<2000000) (hx:∀x∈xs,x.len≤11) (hy:∀x∈ys,x.len≤11):∀(r i:Nat) (cp:Option Nat),i+r=xs.length→∃cp':Option Nat,
 dn O 0 (.loop Z48_L0) ⟨[(0,(.d (.int .i64 p))),(1,.d (.sl (.arr 64 .leaf) (xs.map bo))),(2,.d (.sl (.arr 64 .leaf) (ys.map bo))),(7,.sl 0 [] 0 i cp),(8,(.d (.int .i64 i)))],[.sl false (.arr 64 .leaf) (((dif xs ys).take i).map bo),.hole,.hole]⟩ =
  some (.exit 0,⟨[(0,(.d (.int .i64 p))),(1,.d (.sl (.arr 64 .leaf) (xs.map bo))),(2,.d (.sl (.arr 64 .leaf) (ys.map bo))),(7,.sl 0 [] 0 xs.length cp'),(8,(.d (.int .i64 xs.length))),(13,(.d (.bool false)))],[.sl false (.arr 64 .leaf) ((dif xs ys).map bo),.hole,.hole]⟩)
 | 0,i,cp,hi=>by
  obtain rfl:i=xs.length:=by omega
  rw [aw (by rw [pe hl]; exact ba _)]
  have hXD:(xs.map bo).length=xs.length:=af ..;refine ⟨cp,bu ?_⟩;generalize (dif xs ys).map bo=RD,ys.map bo=YD,xs.map bo=XD at *;simp -implicitDefEqProofs [Z48_L0,ap,hXD]
 | r+1,i,cp,hi=>by
  have hlt:i<xs.length:=by omega
  have hlt2:i<ys.length:=by omega
  have hlt3:i<(dif xs ys).length:=by rw [pe hl]; exact hlt
  have h1:=hx _ (az hlt);have h2:=hy _ (az hlt2);have e1:=hc p xs[i] ys[i] (by omega) (by omega)
  have hXD:(xs.map bo).length=xs.length:=af ..;have hYD:(ys.map bo).length=xs.length:=(af ..).trans hl.symm;have hxi:∀h:i<(xs.map bo).length,(xs.map bo)[i]'h=(D.arr 64 .leaf (aq .u8 (pad (row xs[i])))):=fun h=>by rw [bb]
  have hyi:∀h:i<(ys.map bo).length,(ys.map bo)[i]'h=(D.arr 64 .leaf (aq .u8 (pad (row ys[i])))):=fun h=>by rw [bb]
  have w4:=wi i;have h24:(i+1)*64≤1099511627776:=by omega
  have htk:((dif xs ys).take (i+1)).map bo=((dif xs ys).take i).map bo++[(D.arr 64 .leaf (aq .u8 (pad (row (xs[i]-ys[i])))))]:=by rw [br hlt3,cj,a0e hlt hlt2]; rfl
  have hL:(((dif xs ys).take i).map bo).length=i:=by rw [af,b8]; omega
  have htt:(((dif xs ys).take i).map bo).take i=((dif xs ys).take i).map bo:=aw (by omega)
  obtain ⟨cp',ih⟩:=a0b hc hl hn hx hy r (i+1) none (by omega)
  refine ⟨cp',bn ?_ ih⟩;rw [htk];generalize pad (row (xs[i]-ys[i]))=Qi at *;generalize pad (row xs[i])=Ri at *;generalize pad (row ys[i])=Si at *;generalize ys.map bo=YD,xs.map bo=XD,((dif xs ys).take i).map bo=TD at *;simp -implicitDefEqProofs [Z48_L0,ap,hlt,hXD,hYD,hxi,hyi,e1,h24,hL,htt,w4,List.replicate]
end
def Ai (O:am):Prop:=∀(p:Int) [IsP p] (xs ys:List (Fp p)),xs.length=ys.length→xs.length<2000000→(∀x∈xs,x.len≤11)→(∀x∈ys,x.len≤11)→ask O F48 [(D.int .i64 p),.sl (.arr 64 .leaf) (xs.map bo),.sl (.arr 64 .leaf) (ys.map bo)]=some (D.int .i64 ((gd (dif xs ys) []).length))
theorem Sd (hT:T F48=some Z48) (hc:si (den T A)) (hr:Ip (den T A)):Ai (den T A):=by
 intro p ip xs ys hl hn hx hy;obtain ⟨cp,e⟩:=a0b (O:=den T A) hc hl hn hx hy xs.length 0 (some 0) (b9 _);have e1:=hr p (dif xs ys) (a0u hx hy) (by rw [pe hl]; exact hn)
 have e00:((0:Nat):Int)=0:=rfl;rw [e00,cx,fa] at e;have h1:(xs.map bo).length=xs.length:=af ..;have h2:((dif xs ys).map bo).length=xs.length:=(af ..).trans (pe hl);have htk:((dif xs ys).map bo).take xs.length=(dif xs ys).map bo:=aw (by omega)
 have h3:((gd (dif xs ys) []).map bo).length=(gd (dif xs ys) []).length:=af ..;refine c9 hT rfl ?_;generalize ys.map bo=YD,xs.map bo=XD,(dif xs ys).map bo=QD,(gd (dif xs ys) []).length=s,(gd (dif xs ys) []).map bo=SD at *;simp -implicitDefEqProofs [Z48,Z48_B,h2,h3,htk,e,e1]
def Xl (O:am):Prop:=∀(p:Int) (l:List Int) (ls ms:List (List Int)) (lo hi:Int),m9 l→l.length=64→wq ls→wq ms→ls.length<2000000→ms.length<2000000→ask O F46 [(D.int .i64 p),(D.arr 64 .leaf (aq .u8 l)),.sl (.arr 64 .leaf) (ls.map bh),.sl (.arr 64 .leaf) (ms.map bh),(D.int .i64 lo),(D.int .i64 hi)]=some (D.int .i64 (fp p l ls ms (lo≤ms.length∧ms.length≤hi)))
theorem aeg (hT:T F46=some Z46) (hr:uz (den T A) F42) (hsp:Ip (den T A)):Xl (den T A):=by
 intro p l ls ms lo hi bl gl ha hb hl hl';have e0:=hr p l ls bl gl ha (by omega)
 have e1:=hr p l ms bl gl hb (by omega)
 unfold fp
 by_cases h1:D9 p l ls
 ·rw [Mi.2 h1] at e0
  by_cases h2:D9 p l ms
  ·rw [Mi.2 h2] at e1
   have h:=Av.2 ⟨h1,h2⟩;rw [dif_pos h];obtain ⟨ip,m,rfl,hm,hs⟩:=h;obtain ⟨S,hS0,hS⟩:=Uo (m:=m) (ls:=ls) (fun x hx=>hs x (by simp [hx]))
   have h5:=hm.five;have hSl:ls.length=S.length:=by rw [hS0,af]
   have e3:=hsp p S (fun x hx=>by have:=hS x hx; omega) (by omega)
   have hmp:ls.map (gw p)=S:=by rw [hS0]; exact Bz (S:=S) (fun a ha=>by have:=hS a ha; omega)
   have hmd:ls.map bh=S.map bo:=by rw [hS0]; exact qy S
   have hle:=U6 S [];rw [da,dd] at hle;rw [hmp];rw [←hmd] at e3;refine c9 hT rfl ?_;obtain ⟨k,hk⟩:∃k:Int,(ls.length:Int)=k:=⟨_,rfl⟩;obtain ⟨j,hj⟩:∃j:Int,(ms.length:Int)=j:=⟨_,rfl⟩;have hLk:((ls.map bh).length:Int)=k:=by rw [af]; exact hk
   have hMj:((ms.map bh).length:Int)=j:=by rw [af]; exact hj
   obtain ⟨r,hr⟩:∃r:Int,((gd S []).length:Int)=r:=⟨_,rfl⟩;have hRr:(((gd S []).map bo).length:Int)=r:=by rw [af]; exact hr
   rw [hj]
   by_cases c1:k<1
   ·rw [if_pos (by omega)]
    generalize pad (row m)=Pm,ms.map bh=MD,ls.map bh=LD,(gd S []).map bo=RD at *;simp -implicitDefEqProofs [Z46,Z46_B,ap,e0,e1,hLk,c1]
   ·by_cases c2:4<k
    ·rw [if_pos (by omega)]
     generalize pad (row m)=Pm,ms.map bh=MD,ls.map bh=LD,(gd S []).map bo=RD at *;simp -implicitDefEqProofs [Z46,Z46_B,ap,e0,e1,hLk,c1,c2]
    ·by_cases c3:j<lo
     ·rw [if_pos (by omega)]
      generalize pad (row m)=Pm,ms.map bh=MD,ls.map bh=LD,(gd S []).map bo=RD at *;simp -implicitDefEqProofs [Z46,Z46_B,ap,e0,e1,hLk,hMj,c1,c2,c3]
     ·by_cases c4:hi<j
      ·rw [if_pos (by omega)]
       generalize pad (row m)=Pm,ms.map bh=MD,ls.map bh=LD,(gd S []).map bo=RD at *;simp -implicitDefEqProofs [Z46,Z46_B,ap,e0,e1,hLk,hMj,c1,c2,c3,c4]
      ·rw [if_neg (by omega)]
       by_cases c5:r=k
       ·rw [if_neg (by omega)]
        generalize pad (row m)=Pm,ms.map bh=MD,ls.map bh=LD,(gd S []).map bo=RD at *;simp -implicitDefEqProofs [Z46,Z46_B,ap,e0,e1,e3,hLk,hMj,hRr,c1,c2,c3,c4,c5]
       ·rw [if_pos (by omega)]
        generalize pad (row m)=Pm,ms.map bh=MD,ls.map bh=LD,(gd S []).map bo=RD at *;simp -implicitDefEqProofs [Z46,Z46_B,ap,e0,e1,e3,hLk,hMj,hRr,c1,c2,c3,c4,c5]
  ·rw [Dj h2] at e1
   rw [dif_neg (fun h=>h2 (Av.1 h).2)]
   refine c9 hT rfl ?_;generalize ms.map bh=MD,ls.map bh=LD at *;simp -implicitDefEqProofs [Z46,Z46_B,ap,e0,e1]
 ·rw [Dj h1] at e0
  rw [dif_neg (fun h=>h1 (Av.1 h).1)]
  refine c9 hT rfl ?_;generalize ms.map bh=MD,ls.map bh=LD at *;simp -implicitDefEqProofs [Z46,Z46_B,ap,e0]
theorem Ve {p:Int} {l:List Int} {ls ms:List (List Int)} {b c:Prop} (hc:¬ c) (h:fp p l ls ms b=0∨fp p l ls ms b=5):fp p l ls ms (c∧b)=2:=by
 unfold fp at h ⊢
 by_cases g:D9 p l (ls++ms)
 ·rw [dif_pos g,if_pos (fun h=>hc h.2.2.1)]
 ·rw [dif_neg g] at h
  rcases h with h | h <;> cases h
theorem I4 {p:Int} {l:List Int} {ls ms:List (List Int)} {b c:Prop} (h:c∨¬ (fp p l ls ms b=0∨fp p l ls ms b=5)):fp p l ls ms (c∧b)=fp p l ls ms b:=by
 by_cases hc:c
 ·exact sm mh ⟨fun h=>h.2,fun h=>⟨hc,h⟩⟩
 ·have h1:=h.resolve_left hc
  unfold fp at h1 ⊢
  by_cases g:D9 p l (ls++ms)
  ·rw [dif_pos g] at h1 ⊢
   rw [dif_pos g,if_pos (fun h=>hc h.2.2.1)]
   by_cases g2:1≤ls.length∧ls.length≤4∧b
   ·rw [if_neg (fun h=>h g2)] at h1
    exfalso;apply h1
    split
    ·exact .inr rfl
    ·exact .inl rfl
   ·rw [if_pos g2]
  ·rw [dif_neg g,dif_neg g]
def M2 (O:am):Prop:=∀(p:Int) (l:List Int) (ls ms:List (List Int)) (k:Int),m9 l→l.length=64→wq ls→wq ms→ls.length<2000000→ms.length<2000000→ask O F4a [(D.int .i64 p),(D.arr 64 .leaf (aq .u8 l)),.sl (.arr 64 .leaf) (ls.map bh),(D.int .i64 k),.sl (.arr 64 .leaf) (ms.map bh)]=some (D.int .i64 (fp p l ls ms ((1≤k∧k≤ls.length)∧ms.length=ls.length)))
theorem a7h (hT:T F4a=some Z4a) (hc:Xl (den T A)) (hi:a1p (den T A)):M2 (den T A):=by
 intro p l ls ms k bl gl ha hb hl hl';have e0:=hc p l ls ms ls.length ls.length bl gl ha hb hl hl';rw [sm (ns:=ms) (d:=ms.length=ls.length) mh (by omega)] at e0
 have e1:=hi k 1 ls.length;have hL:(ls.map bh).length=ls.length:=af ..;refine c9 hT rfl ?_
 by_cases h1:1≤k∧k≤(ls.length:Int)
 ·rw [I4 (.inl h1)]
  rw [decide_eq_true h1] at e1;generalize ls.length=n,ms.map bh=MD,ls.map bh=LD,fp p l ls ms (ms.length=ls.length)=c at *
  by_cases c0:c=0
  ·subst c0
   simp -implicitDefEqProofs [Z4a,Z4a_B,ap,e0,e1,hL]
  ·by_cases c5:c=5
   ·subst c5
    simp -implicitDefEqProofs [Z4a,Z4a_B,ap,e0,e1,hL]
   ·simp -implicitDefEqProofs [Z4a,Z4a_B,ap,e0,hL,c0,c5]
 ·rw [decide_eq_false h1] at e1
  by_cases h2:fp p l ls ms (ms.length=ls.length)=0∨fp p l ls ms (ms.length=ls.length)=5
  ·rw [Ve h1 h2]
   generalize ls.length=n,ms.map bh=MD,ls.map bh=LD,fp p l ls ms (ms.length=ls.length)=c at *;rcases h2 with rfl | rfl
   ·simp -implicitDefEqProofs [Z4a,Z4a_B,ap,e0,e1,hL]
   ·simp -implicitDefEqProofs [Z4a,Z4a_B,ap,e0,e1,hL]
  ·rw [I4 (.inr h2)]
   generalize fp p l ls ms (ms.length=ls.length)=c at *;have c0:¬ c=0:=fun h=>h2 (.inl h)
   have c5:¬ c=5:=fun h=>h2 (.inr h)
   generalize ls.length=n,ms.map bh=MD,ls.map bh=LD at *;simp -implicitDefEqProofs [Z4a,Z4a_B,ap,e0,hL,c0,c5]
section
variable {p:Int} [IsP p]
end
section
variable {p:Int} [IsP p]
noncomputable def elG (m f:Fp p) (a:List (Fp p)) (c k:Nat) (Q:List (Fp p)):List (Fp p):=Q.mapIdx fun j x=>if c≤j∧j<k then x-f*a.getD j 0%m else x
theorem yz (m f:Fp p) (a:List (Fp p)) (c k:Nat) (Q:List (Fp p)):(elG m f a c k Q).length=Q.length:=List.length_mapIdx
theorem E3 (m f:Fp p) (a:List (Fp p)) (c k:Nat) (Q:List (Fp p)) (j:Nat):(elG m f a c k Q)[j]? = (Q[j]?).map fun x=>if c≤j∧j<k then x-f*a.getD j 0%m else x:=List.getElem?_mapIdx
theorem Nu (m f:Fp p) (a:List (Fp p)) (c:Nat) (Q:List (Fp p)):elG m f a c c Q=Q:=by
 apply ci;intro j;rw [E3];cases Q[j]? with
 | none=>rfl
 | some x=>rw [bc,if_neg (by omega)]
theorem a4i {m f:Fp p} {a:List (Fp p)} {c k:Nat} {Q:List (Fp p)} (hk:k<Q.length):(elG m f a c k Q)[k]? = some Q[k]:=by
 rw [E3,ac hk,bc,if_neg (by omega)]
theorem Tp {m f:Fp p} {a:List (Fp p)} {c k:Nat} {Q:List (Fp p)} (hc:c≤k) (hk:k<Q.length) (ha:k<a.length):(elG m f a c k Q).set k (Q[k]-f*a[k]%m)=elG m f a c (k+1) Q:=by
 apply ci;intro j;rw [E3]
 by_cases hj:k=j
 ·subst hj
  rw [b4 (by rw [yz]; exact hk),ac hk,bc,if_pos (by omega),List.getD_eq_getElem?_getD,ac ha]; rfl
 ·rw [b7 hj,E3]
  cases Q[j]? with
  | none=>rfl
  | some x=>
   rw [bc,bc]
   by_cases h1:c≤j∧j<k
   ·rw [if_pos h1,if_pos (by omega)]
   ·rw [if_neg h1,if_neg (by omega)]
theorem aa7 {m f:Fp p} (hm:m≠0) {a:List (Fp p)} {c k:Nat} {Q:List (Fp p)} (hQ:∀x∈Q,x.len<m.len):∀x∈elG m f a c k Q,x.len<m.len:=by
 intro x hx;obtain ⟨j,hj⟩:=List.mem_iff_getElem?.1 hx;rw [E3] at hj;obtain ⟨y,hy,rfl⟩:=ae.1 hj;have h1:=hQ y (dl hy)
 split
 ·have h2:=Pol.len_mod (f*a.getD j 0) hm
  have h3:=Pol.len_sub_le (a:=y) (b:=f*a.getD j 0%m) (n:=m.len-1) (by omega) (by omega)
  omega
 ·exact h1
structure TbI (IX:List Nat) (RR:List (List D)) (N:Tab p):Prop where
 len:IX.length=N.length
 inj:∀(j k r:Nat),IX[j]? = some r→IX[k]? = some r→j=k
 get:∀(k:Nat) Q,N[k]? = some Q→∃r,IX[k]? = some r∧RR[r]? = some (Q.map bo)
theorem TbI.set {IX:List Nat} {RR:List (List D)} {N:Tab p} (h:TbI IX RR N) {i r:Nat} (hi:i<N.length) (hr:IX[i]? = some r) (Q:List (Fp p)):TbI IX (RR.set r (Q.map bo)) (N.set i Q):=by
 refine ⟨by rw [bx]; exact h.len,h.inj,fun k P hk=>?_⟩
 by_cases hik:i=k
 ·subst hik
  rw [b4 hi] at hk;obtain rfl:=au hk;obtain ⟨r2,h1,h2⟩:=h.get i _ (ac hi);obtain rfl:r=r2:=au (hr.symm.trans h1);exact ⟨r,hr,b4 (ao.1 h2).1⟩
 ·rw [b7 hik] at hk
  obtain ⟨r2,h1,h2⟩:=h.get k P hk;have hne:r≠r2:=fun e=>hik (h.inj i k r hr (e▸h1))
  exact ⟨r2,h1,by rw [b7 hne]; exact h2⟩
end
end Pe
namespace Pe
open Go Gq
section
variable {p:Int} [IsP p]
noncomputable def aip (m:Fp p) (c:Nat) (N:Tab p):List (Rw (Quo m)):=(N.drop c).map fun Q=>rwQ m (Q.drop c)
end
section
variable {p:Int}
end
section
variable {p:Int} [IsP p]
end
section
variable {p:Int}
end
section
variable {p:Int} [IsP p]
def swp (N:Tab p) (c b:Nat) (hc:c<N.length) (hb:b<N.length):Tab p:=(N.set b N[c]).set c N[b]
theorem pj (N:Tab p) (c b:Nat) (hc:c<N.length) (hb:b<N.length):(swp N c b hc hb).length=N.length:=by unfold swp; rw [bx,bx]
end
end Pe
namespace Pe
open Go Gq
variable {T:Nat→Option Fn} {A:am}
section
variable {p:Int} [IsP p]
open Classical in
noncomputable def pvF (N:Tab p) (c:Nat):Nat→Nat→Nat
 | 0,b=>b
 | q+1,b=>if ((N[b]?).getD []).getD c 0=0 then pvF N c q (b+1) else b
theorem Jv (N:Tab p) (c:Nat):∀(q b:Nat),b+q=N.length→b≤pvF N c q b∧pvF N c q b≤N.length∧(∀k (h:k<N.length),b≤k→k<pvF N c q b→N[k].getD c 0=0)∧∀h:pvF N c q b<N.length,(N[pvF N c q b]).getD c 0≠0
 | 0,b,hb=>by
  have e:pvF N c 0 b=b:=rfl;exact ⟨ba _,by rw [e]; omega,fun k h h1 h2=>by rw [e] at h2; omega,fun h=>by rw [e] at h; omega⟩
 | q+1,b,hb=>by
  have hlt:b<N.length:=by omega
  have hg:(N[b]?).getD []=N[b]:=by rw [ac hlt]; rfl
  by_cases h:(N[b]).getD c 0=0
  ·have e:pvF N c (q+1) b=pvF N c q (b+1):=by rw [pvF,hg,if_pos h]
   obtain ⟨h1,h2,h3,h4⟩:=Jv N c q (b+1) (by omega)
   rw [e];refine ⟨by omega,h2,fun k hk hbk hkp=>?_,h4⟩
   by_cases hkb:k=b
   ·subst hkb; exact h
   ·exact h3 k hk (by omega) hkp
  ·have e:pvF N c (q+1) b=b:=by rw [pvF,hg,if_neg h]
   exact ⟨by omega,by omega,fun k hk h1 h2=>by omega,fun _=>by simp only [e]; exact h⟩
theorem TbI.swap {IX:List Nat} {RR:List (List D)} {N:Tab p} (h:TbI IX RR N) {c b rc rb:Nat} (hc:c<N.length) (hb:b<N.length) (_hcb:c≠b) (h1:IX[c]? = some rc) (h2:IX[b]? = some rb):TbI ((IX.set b rc).set c rb) RR (swp N c b hc hb):=by
 have hlen:=h.len
 have key:∀k,((IX.set b rc).set c rb)[k]? = if k=c then IX[b]? else if k=b then IX[c]? else IX[k]?:=by
  intro k
  by_cases hk:c=k
  ·subst hk
   rw [b4 (by rw [bx]; omega),if_pos rfl,h2]
  ·rw [b7 hk,if_neg (f9 hk)]
   by_cases hk2:b=k
   ·subst hk2
    rw [b4 (by omega),if_pos rfl,h1]
   ·rw [b7 hk2,if_neg (f9 hk2)]
 refine ⟨by rw [bx,bx,pj]; exact hlen,fun j k r hj hk=>?_,fun k Q hk=>?_⟩
 ·rw [key] at hj hk
  by_cases j1:j=c <;> by_cases k1:k=c
  ·omega
  ·rw [if_pos j1] at hj
   rw [if_neg k1] at hk
   by_cases k2:k=b
   ·rw [if_pos k2] at hk
    have:=h.inj b c r hj hk; omega
   ·rw [if_neg k2] at hk
    have:=h.inj b k r hj hk; omega
  ·rw [if_pos k1] at hk
   rw [if_neg j1] at hj
   by_cases j2:j=b
   ·rw [if_pos j2] at hj
    have:=h.inj c b r hj hk; omega
   ·rw [if_neg j2] at hj
    have:=h.inj j b r hj hk; omega
  ·rw [if_neg j1] at hj
   rw [if_neg k1] at hk
   by_cases j2:j=b <;> by_cases k2:k=b
   ·omega
   ·rw [if_pos j2] at hj
    rw [if_neg k2] at hk;have:=h.inj c k r hj hk; omega
   ·rw [if_neg j2] at hj
    rw [if_pos k2] at hk;have:=h.inj j c r hj hk; omega
   ·rw [if_neg j2] at hj
    rw [if_neg k2] at hk;exact h.inj j k r hj hk
 ·rw [key]
  unfold swp at hk
  by_cases k1:c=k
  ·subst k1
   rw [b4 (by rw [bx]; exact hc)] at hk
   rw [if_pos rfl];exact h.get b Q (by rw [ac hb]; exact hk)
  ·rw [b7 k1] at hk
   rw [if_neg (f9 k1)]
   by_cases k2:b=k
   ·subst k2
    rw [b4 hb] at hk;rw [if_pos rfl];exact h.get c Q (by rw [ac hc]; exact hk)
   ·rw [b7 k2] at hk
    rw [if_neg (f9 k2)];exact h.get k Q hk
theorem Sq.swap {m:Fp p} {n:Nat} {N:Tab p} (h:Sq m n N) {c b:Nat} (hc:c<N.length) (hb:b<N.length):Sq m n (swp N c b hc hb):=by
 refine ⟨by rw [pj]; exact h.1,fun r hr=>h.2 r ?_⟩
 unfold swp at hr;rcases ce hr with h1 | rfl
 ·rcases ce h1 with h2 | rfl
  ·exact h2
  ·exact az hc
 ·exact az hb
end
section
variable {p:Int} [IsP p]
theorem sub_zero {m:Fp p} {N:Tab p}:aip m 0 N=N.map (rwQ m):=by
 unfold aip;rw [dh];exact List.map_congr_left fun Q _=>by rw [dh]
end
end Pe

namespace Gq
def Pr (l:Nat):Prop:=2≤l∧∀d,d∣l→d=1∨d=l
theorem Pr.coprime {l n:Nat} (h:Pr l) (hn:¬ l∣n):Nat.Coprime l n:=by
 rcases h.2 _ (Nat.gcd_dvd_left l n) with h1 | h1
 ·exact h1
 ·exact absurd (h1▸Nat.gcd_dvd_right l n) hn
theorem ac7:∀(n:Nat),2≤n→∃l,Pr l∧l∣n:=by
 intro n
 induction n using Nat.strongRecOn with
 | ind n ih=>
  intro hn
  by_cases h:Pr n
  ·exact ⟨n,h,Nat.dvd_refl n⟩
  ·have:∃d,d∣n∧d≠1∧d≠n:=by
    apply f7;intro hno;refine h ⟨hn,fun d hd=>?_⟩
    apply f7;intro h2;exact hno ⟨d,hd,fun e=>h2 (.inl e),fun e=>h2 (.inr e)⟩
   obtain ⟨d,hd,h1,h2⟩:=this;have hle:=u7 (by omega) hd
   have h0:d≠0:=fun e=>by
    rw [e] at hd;have:=Nat.eq_zero_of_zero_dvd hd;omega
   obtain ⟨l,hl,hld⟩:=ih d (by omega) (by omega)
   exact ⟨l,hl,p5 hld hd⟩
theorem Pr.dvd_mul {l a b:Nat} (h:Pr l) (hd:l∣a*b):l∣a∨l∣b:=by
 by_cases ha:l∣a
 ·exact .inl ha
 ·exact .inr ((h.coprime ha).dvd_of_dvd_mul_left hd)
theorem Pr.dvd_pr {l q:Nat} (h:Pr l) (hq:Pr q) (hd:l∣q):l=q:=by
 rcases hq.2 l hd with h1 | h1
 ·have:=h.1; omega
 ·exact h1
theorem a5w {n:Nat} (h0:1≤n) (h:∀l,Pr l→¬ l∣n):n=1:=by
 apply f7;intro h1;obtain ⟨l,hl,hd⟩:=ac7 n (by omega)
 exact h l hl hd
section
variable {R:Type} [CR R]
theorem Rs {x:R} {n k:Nat} (h:pw x n=1) (hd:n∣k):pw x k=1:=by
 obtain ⟨c,rfl⟩:=hd;rw [←xw,h,Mr]
def Ord (x:R) (n:Nat):Prop:=∀k,pw x k=1↔n∣k
theorem Ord.self {x:R} {n:Nat} (h:Ord x n):pw x n=1:=(h n).2 (Nat.dvd_refl n)
theorem Ord.unique {x:R} {n m:Nat} (h:Ord x n) (h':Ord x m):n=m:=Nat.dvd_antisymm ((h m).1 h'.self) ((h' n).1 h.self)
theorem Ord.mul {a b:R} {m n:Nat} (ha:Ord a m) (hb:Ord b n) (h:Nat.Coprime m n):Ord (a*b) (m*n):=fun k=>by
 constructor
 ·intro hk
  have h1:m∣k:=by
   have e:pw a (k*n)=1:=by
    have e1:pw (a*b) (k*n)=1:=by rw [←xw,hk,Mr]
    rw [Ax,Rs hb.self (tt n k),mul_one] at e1;exact e1
   exact h.dvd_of_dvd_mul_right ((ha _).1 e)
  have h2:n∣k:=by
   have e:pw b (k*m)=1:=by
    have e1:pw (a*b) (k*m)=1:=by rw [←xw,hk,Mr]
    rw [Ax,Rs ha.self (tt m k),one_mul] at e1;exact e1
   exact h.symm.dvd_of_dvd_mul_right ((hb _).1 e)
  exact h.mul_dvd_of_dvd_of_dvd h1 h2
 ·intro hd
  rw [Ax,Rs ha.self (p5 (t5 m n) hd),Rs hb.self (p5 (tt n m) hd),mul_one]
end
structure OrdI (n q rest order:Nat) (fin:Bool):Prop where
 dv:n∣order
 pos:1≤order
 low:∀l,Pr l→l<q→¬ l*n∣order∧¬ l∣rest
 rel:∃c,order=rest*c∧(∀l,Pr l→q<l→¬ l∣c)∧(fin=false→Pr q→¬ q∣c)
 fin:fin=true→¬ q*n∣order
theorem OrdI.rest_pos {n q rest order:Nat} {f:Bool} (h:OrdI n q rest order f):1≤rest:=by
 obtain ⟨c,e,-⟩:=h.rel;have:=h.pos;rcases mf rest with h0 | h0
 ·rw [h0,lj] at e; omega
 ·exact h0
theorem OrdI.init {n N:Nat} (hN:1≤N) (h:n∣N):OrdI n 2 N N false where
 dv:=h
 pos:=hN
 low:=fun l hl h2=>by have:=hl.1; omega
 rel:=⟨1,(Nat.mul_one N).symm,fun l hl _ hd=>by have:=hl.1; have:=u7 (by omega) hd; omega,fun _ hq hd=>by have:=hq.1; have:=u7 (by omega) hd; omega⟩
 fin:=fun h=>by cases h
theorem OrdI.prime {n q rest order:Nat} {f:Bool} (h:OrdI n q rest order f) (h2:2≤q) (hd:q∣rest):Pr q:=by
 obtain ⟨l,hl,hlq⟩:=ac7 q h2;rcases dx l q with h1 | h1
 ·exact absurd (p5 hlq hd) (h.low l hl h1).2
 ·have:=u7 (by omega) hlq
  obtain rfl:l=q:=by omega
  exact hl
theorem OrdI.no {n q r c':Nat} {f:Bool} (h:OrdI n q (q*r) (q*c') f) (h2:2≤q) (hd:¬ n∣c'):OrdI n q r (q*c') true where
 dv:=h.dv
 pos:=h.pos
 low:=fun l hl h1=>by
  obtain ⟨a,b⟩:=h.low l hl h1;exact ⟨a,fun e=>b (p5 e (tt r q))⟩
 rel:=by
  have hq:=h.prime h2 (t5 q r);obtain ⟨c,e,h3,_⟩:=h.rel;refine ⟨q*c,by rw [e,Nat.mul_assoc,Nat.mul_left_comm],fun l hl h4 hl2=>?_,fun hf=>by cases hf⟩
  rcases hl.dvd_mul hl2 with h5 | h5
  ·have:=hl.dvd_pr hq h5; omega
  ·exact h3 l hl h4 h5
 fin:=fun _ e=>hd (Nat.dvd_of_mul_dvd_mul_left (by omega) e)
theorem OrdI.next {n q rest order:Nat} {f:Bool} (h:OrdI n q rest order f) (h2:2≤q) (hd:¬ q∣rest):OrdI n (q+1) rest order false where
 dv:=h.dv
 pos:=h.pos
 low:=fun l hl h1=>by
  rcases dx l q with h3 | h3
  ·exact h.low l hl h3
  ·obtain rfl:l=q:=by omega
   refine ⟨fun e=>?_,hd⟩
   cases f with
   | true=>exact h.fin rfl e
   | false=>
    obtain ⟨c,e1,_,h5⟩:=h.rel;have:l∣rest*c:=e1▸p5 (t5 l n) e;rcases hl.dvd_mul this with h6 | h6
    ·exact hd h6
    ·exact h5 rfl hl h6
 rel:=by
  obtain ⟨c,e1,h4,_⟩:=h.rel;exact ⟨c,e1,fun l hl h5=>h4 l hl (by omega),fun _ hq=>h4 _ hq (by omega)⟩
 fin:=fun hf=>by cases hf
theorem OrdI.done {n q rest order:Nat} (h:OrdI n q rest order false) (hq:rest<q):order=n:=by
 have hr:rest=1:=a5w h.rest_pos fun l hl hd=>by
  have:=u7 h.rest_pos hd;exact (h.low l hl (by omega)).2 hd
 obtain ⟨c,e1,h4,h5⟩:=h.rel;rw [hr,Nat.one_mul] at e1;obtain ⟨k,hk⟩:=h.dv
 have hk1:k=1:=a5w (by
  have:=h.pos;rcases mf k with h0 | h0
  ·rw [h0,zz] at hk; omega
  ·exact h0) fun l hl hd=>by
  have hln:l*n∣order:=by
   rw [hk,zy l n]; exact Nat.mul_dvd_mul_left n hd
  rcases dx l q with h6 | h6
  ·exact (h.low l hl h6).1 hln
  ·have hlc:l∣c:=e1▸p5 (t5 l n) hln
   rcases dx q l with h7 | h7
   ·exact h4 l hl h7 hlc
   ·obtain rfl:l=q:=by omega
    exact h5 rfl hl hlc
 rw [hk,hk1,Nat.mul_one]
end Gq

namespace Pe
open Gq
section
variable {p:Int}
def IsPrim (m:Fp p) (k:Nat):Prop:=1≤k∧(k:Int)<p^(m.len-1)∧Ord (Quo.mk m (pb p k)) (p.toNat^(m.len-1)-1)∧∀j:Nat,1≤j→j<k→¬ Ord (Quo.mk m (pb p j)) (p.toNat^(m.len-1)-1)
theorem IsPrim.unique {m:Fp p} {j k:Nat} (hj:IsPrim m j) (hk:IsPrim m k):j=k:=by
 rcases dx j k with h | h
 ·exact absurd hj.2.2.1 (hk.2.2.2 j hj.1 h)
 ·rcases dx k j with h2 | h2
  ·exact absurd hk.2.2.1 (hj.2.2.2 k hk.1 h2)
  ·omega
noncomputable def dgF:od p→Nat
 | []=>0
 | x::L=>x.2*(x.1.len-1)+dgF L
theorem a8s [IsP p] {q:Fp p} (h:Monic q):∀k,(pw q k).len=k*(q.len-1)+1
 | 0=>by rw [lj]; exact Pol.len_one
 | k+1=>by
  have h1:=Pol.len_mul (Monic.pw h k).2 h.2;have h2:=a8s h k;have h3:=Pol.len_pos h.2;show (pw q k*q).len=_;rw [fq]; omega
theorem Ym [IsP p]:∀{L:od p},FacOk L→(oa L).len=dgF L+1
 | [],_=>Pol.len_one
 | x::L,h=>by
  have hm:=(h.irr x (by simp)).2.1
  have ht:FacOk L:=⟨fun y hy=>h.irr y (by simp [hy]),h.dis.tail⟩
  have h1:=Ym ht;have h2:=Pol.len_mul (Monic.pw hm x.2).2 (A5 ht).2;rw [a8s hm] at h2;rw [tg,dgF]; omega
end
end Pe
namespace Pe
open Go Gq
variable {T:Nat→Option Fn} {A:am}
section
variable {p:Int} [IsP p]
end
section
variable {p:Int} [IsP p]
end
section
variable {p:Int} [IsP p]
end
end Pe
namespace Pe
open Gq
section
variable {p:Int} [IsP p]
end
end Pe
namespace Pe
open Go Gq
variable {T:Nat→Option Fn} {A:am}
abbrev am8 (code:List Int) (at_:Nat) (h:Int):Blk:=.box false (.st [.leaf,.leaf,.leaf] [.sl .leaf (aq .u8 code),.int .i64 at_,.int .u64 h])
def Src (b:Blk):Prop:=∃(code:List Int) (at_:Nat) (h:Int),b=am8 code at_ h∧at_≤code.length∧code.length≤1099511627776∧m9 code
structure DrI (p:Int) (Q:List Int) (n:Nat):Prop where
 l:Q.length=64
 c:Can p Q
 z:∀j,n≤j→cf Q j=0
theorem DrI.set {p:Int} {Q:List Int} {n k:Nat} {x:Int} (h:DrI p Q n) (h0:0≤x) (h1:x<p) (hk:k<n):DrI p (Q.set k x) n:=
 ⟨by rw [bx]; exact h.l,fun y hy=>by
  rcases ce hy with g | rfl
  ·exact h.c y g
  ·exact ⟨h0,h1⟩,fun j hj=>by rw [xr,if_neg (by omega)]; exact h.z j hj⟩
section
variable {p:Int} [IsP p]
end
theorem DrI.zero (p:Int) [IsP p] (n:Nat):DrI p (pad []) n:=
 ⟨di _,fun x hx=>by
  have hp:=IsP.ge (p:=p)
  have:x=0:=by
   unfold pad at hx;obtain ⟨a,_,rfl⟩:∃a,a<64∧cf [] a=x:=by simpa using hx
   exact rf (fh _)
  omega,fun j _=>(D6 (l:=[]) (by simp) j).trans (rf (fh _))⟩
theorem DrI.up {p:Int} {Q:List Int} {n m:Nat} (h:DrI p Q n) (hm:n≤m):DrI p Q m:=⟨h.l,h.c,fun j hj=>h.z j (by omega)⟩
section
variable {p:Int} [IsP p]
theorem IsFac.small {m:Fp p} (hm:m≠0) (hl:m.len≤13) {L:od p} (h:IsFac m L):(∀x∈L,2≤x.1.len∧x.1.len≤13∧1≤x.2∧x.2≤12)∧dgF L+1=m.len:=by
 refine ⟨fun x hx=>?_,?_⟩
 ·obtain ⟨q1,q2,q3,_⟩:=h.len hm hx
  exact ⟨q1,by omega,(h.ok.irr x hx).2.2,by omega⟩
 ·rw [←Ym h.ok]
  conv=>rhs; rw [h.eq]
  exact (Pol.len_Cmul (Pol.ld_ne hm) _).symm
end
section
variable {p:Int} [IsP p]
end
section
variable {p:Int} [IsP p]
end
end Pe
namespace Pe
open Go Gq
section
variable {p:Int}
end
section
variable {p:Int} [IsP p]
end
end Pe
namespace Pe
open Go Gq
variable {T:Nat→Option Fn} {A:am}
section
variable {p:Int} [IsP p]
end
section
variable {p:Int} [ip:IsP p] {M X:Fp p}
end
theorem Ii {a m:List Int} (ha:m9 a) (gl:a.length=64) (hm:m9 m) (glm:m.length=64):wq [a,m]:=fun x hx=>by
 simp at hx;rcases hx with rfl | rfl
 ·exact ⟨gl,ha⟩
 ·exact ⟨glm,hm⟩
section
variable {p:Int}
end
def a6n (p d:Int):Prop:=0≤d∧d≤8∧p^d.toNat≤343
instance (p d:Int):Decidable (a6n p d):=by unfold a6n; infer_instance
def u8s (l:List Int):List UInt8:=l.map fun n=>UInt8.ofNat n.toNat
@[simp] theorem U3:∀l:List Int,vu (aq .u8 l)=some (u8s l)
 | []=>rfl
 | x::l=>by
  show (vu (aq .u8 l)).map _=_;rw [U3 l]; rfl
theorem X4 (a b:ByteArray):(a == b)=decide (a=b):=by
 rw [A3,decide_eq_true_eq];exact Go.MapKept.bytes_beq a b
theorem a0k (a b:MK):a.same b=true↔a=b:=by
 cases a <;> cases b <;> simp [MK.same,X4]
instance:DecidableEq MK:=fun a b=>decidable_of_iff (a.same b=true) (a0k a b)
theorem Ue {str:Bool} {k:MK} (hk:k.isS=str) (v:Int):∀{es:List (MK×Int)},gr str es=true→gr str (nv k v es)=true
 | [],_=>by simp [nv,gr,hk]
 | (j,u)::es,h=>by
  have h':j.isS=str∧gr str es=true:=by simpa [gr] using h
  unfold nv
  split
  ·simpa [gr,hk] using h'.2
  ·have:=Ue hk v h'.2
   unfold gr at this ⊢;rw [List.all_cons,this,h'.1];simp
def esN (f:Nat→ByteArray):Nat→List (MK×Int)
 | 0=>[]
 | n+1=>nv (.s (f n)) ((ml (.s (f n)) (esN f n)).getD 0+1) (esN f n)
@[simp] theorem a96 (f:Nat→ByteArray):∀n,gr true (esN f n)=true
 | 0=>rfl
 | n+1=>Ue rfl _ (a96 f n)
end Pe
namespace Pe
open Go Gq
section
variable {p:Int} [IsP p]
def RM (m:Fp p) (n w:Nat) (N:Tab p):Prop:=N.length=n∧∀Q∈N,Q.length=w∧∀x∈Q,x.len<m.len
theorem RM.swap {m:Fp p} {n w:Nat} {N:Tab p} (h:RM m n w N) {c b:Nat} (hc:c<N.length) (hb:b<N.length):RM m n w (swp N c b hc hb):=by
 refine ⟨by rw [pj]; exact h.1,fun r hr=>h.2 r ?_⟩
 unfold swp at hr;rcases ce hr with h1 | rfl
 ·rcases ce h1 with h2 | rfl
  ·exact h2
  ·exact az hc
 ·exact az hb
theorem RM.set {m:Fp p} {n w:Nat} {N:Tab p} (h:RM m n w N) {i:Nat} {Q:List (Fp p)} (hQ:Q.length=w) (hx:∀x∈Q,x.len<m.len):RM m n w (N.set i Q):=by
 refine ⟨by rw [bx]; exact h.1,fun r hr=>?_⟩
 rcases ce hr with h1 | rfl
 ·exact h.2 r h1
 ·exact ⟨hQ,hx⟩
noncomputable def scG (m f:Fp p) (k:Nat) (Q:List (Fp p)):List (Fp p):=Q.mapIdx fun j x=>if j<k then x*f%m else x
theorem tm (m f:Fp p) (k:Nat) (Q:List (Fp p)):(scG m f k Q).length=Q.length:=List.length_mapIdx
theorem Dy (m f:Fp p) (k:Nat) (Q:List (Fp p)) (j:Nat):(scG m f k Q)[j]? = (Q[j]?).map fun x=>if j<k then x*f%m else x:=List.getElem?_mapIdx
theorem Su (m f:Fp p) (Q:List (Fp p)):scG m f 0 Q=Q:=by
 apply ci;intro j;rw [Dy];cases Q[j]? with
 | none=>rfl
 | some x=>rw [bc,if_neg (by omega)]
theorem a9j {m f:Fp p} {k:Nat} {Q:List (Fp p)} (hk:k<Q.length):(scG m f k Q)[k]? = some Q[k]:=by
 rw [Dy,ac hk,bc,if_neg (by omega)]
theorem U4 {m f:Fp p} {k:Nat} {Q:List (Fp p)} (hk:k<Q.length):(scG m f k Q).set k (Q[k]*f%m)=scG m f (k+1) Q:=by
 apply ci;intro j;rw [Dy]
 by_cases hj:k=j
 ·subst hj
  rw [b4 (by rw [tm]; exact hk),ac hk,bc,if_pos (by omega)]
 ·rw [b7 hj,Dy]
  cases Q[j]? with
  | none=>rfl
  | some x=>
   rw [bc,bc]
   by_cases h1:j<k
   ·rw [if_pos h1,if_pos (by omega)]
   ·rw [if_neg h1,if_neg (by omega)]
theorem Oz {m f:Fp p} (hm:m≠0) {k:Nat} {Q:List (Fp p)} (hQ:∀x∈Q,x.len<m.len):∀x∈scG m f k Q,x.len<m.len:=by
 intro x hx;obtain ⟨j,hj⟩:=List.mem_iff_getElem?.1 hx;rw [Dy] at hj;obtain ⟨y,hy,rfl⟩:=ae.1 hj;have h1:=hQ y (dl hy)
 split
 ·exact Pol.len_mod _ hm
 ·exact h1
noncomputable def elR (m:Fp p) (a:List (Fp p)) (c w r i:Nat) (N:Tab p):Tab p:=N.mapIdx fun j Q=>if j<i∧j≠r then elG m (Q.getD c 0) a 0 w Q else Q
theorem ti (m:Fp p) (a:List (Fp p)) (c w r i:Nat) (N:Tab p):(elR m a c w r i N).length=N.length:=List.length_mapIdx
theorem xf (m:Fp p) (a:List (Fp p)) (c w r i:Nat) (N:Tab p) (j:Nat):(elR m a c w r i N)[j]? = (N[j]?).map fun Q=>if j<i∧j≠r then elG m (Q.getD c 0) a 0 w Q else Q:=List.getElem?_mapIdx
theorem T6 (m:Fp p) (a:List (Fp p)) (c w r:Nat) (N:Tab p):elR m a c w r 0 N=N:=by
 apply ci;intro j;rw [xf];cases N[j]? with
 | none=>rfl
 | some x=>rw [bc,if_neg (by omega)]
theorem a4r {m:Fp p} {a:List (Fp p)} {c w r i:Nat} {N:Tab p} (hi:i<N.length):(elR m a c w r i N)[i]? = some N[i]:=by
 rw [xf,ac hi,bc,if_neg (by omega)]
theorem ac8 {m:Fp p} {a:List (Fp p)} {c w r i:Nat} {N:Tab p} (hr:r<N.length):(elR m a c w r i N)[r]? = some N[r]:=by
 rw [xf,ac hr,bc,if_neg (by omega)]
theorem Tf {m:Fp p} {a:List (Fp p)} {c w r i:Nat} {N:Tab p} (hi:i<N.length) (hir:i≠r):(elR m a c w r i N).set i (elG m (N[i].getD c 0) a 0 w N[i])=elR m a c w r (i+1) N:=by
 apply ci;intro j;rw [xf]
 by_cases hj:i=j
 ·subst hj
  rw [b4 (by rw [ti]; exact hi),ac hi,bc,if_pos ⟨by omega,hir⟩]
 ·rw [b7 hj,xf]
  cases N[j]? with
  | none=>rfl
  | some x=>
   rw [bc,bc]
   by_cases h1:j<i∧j≠r
   ·rw [if_pos h1,if_pos ⟨by omega,h1.2⟩]
   ·rw [if_neg h1,if_neg (fun h=>h1 ⟨by omega,h.2⟩)]
theorem Sj {m:Fp p} {a:List (Fp p)} {c w r:Nat} {N:Tab p}:elR m a c w r r N=elR m a c w r (r+1) N:=by
 apply ci;intro j;rw [xf,xf];cases N[j]? with
 | none=>rfl
 | some x=>
  rw [bc,bc]
  by_cases h1:j<r∧j≠r
  ·rw [if_pos h1,if_pos ⟨by omega,h1.2⟩]
  ·rw [if_neg h1,if_neg (fun h=>h1 ⟨by omega,h.2⟩)]
theorem RM.elR {m:Fp p} (hm:m≠0) {a:List (Fp p)} {c r i n w w':Nat} {N:Tab p} (h:RM m n w N):RM m n w (elR m a c w' r i N):=by
 refine ⟨by rw [ti]; exact h.1,fun Q hQ=>?_⟩
 obtain ⟨j,hj⟩:=List.mem_iff_getElem?.1 hQ;rw [xf] at hj;obtain ⟨P,hP,rfl⟩:=ae.1 hj;obtain ⟨h1,h2⟩:=h.2 P (dl hP)
 split
 ·exact ⟨by rw [yz]; exact h1,aa7 hm h2⟩
 ·exact ⟨h1,h2⟩
noncomputable def pivS (m:Fp p) (c w r b:Nat) (N:Tab p):Tab p:=
 if h:r<N.length∧b<N.length then
  elR m (scG m (jp m (N[b].getD c 0)) w N[b]) c w r N.length ((swp N r b h.1 h.2).set r (scG m (jp m (N[b].getD c 0)) w N[b]))
 else N
noncomputable def gau (m:Fp p) (w:Nat):Nat→Nat→Tab p→List Nat→Tab p×List Nat
 | 0,_,N,L=>(N,L)
 | q+1,c,N,L=>
  if L.length<N.length then
   (if pvF N c (N.length-L.length) L.length<N.length then
    gau m w q (c+1) (pivS m c w L.length (pvF N c (N.length-L.length) L.length) N) (L++[c])
   else gau m w q (c+1) N L)
  else (N,L)
theorem RM.pivS {m:Fp p} (hm:m≠0) {n w c r b:Nat} {N:Tab p} (h:RM m n w N):RM m n w (pivS m c w r b N):=by
 unfold Pe.pivS
 split
 ·rename_i hh
  obtain ⟨h1,h2⟩:=h.2 N[b] (az hh.2);exact RM.elR hm ((h.swap hh.1 hh.2).set (by rw [tm]; exact h1) (Oz hm h2))
 ·exact h
def frL:Nat→List Nat→Nat
 | k,[]=>k
 | k,c::L=>if c=k then frL (k+1) L else k
def plL (j:Nat):List Nat→Option Nat
 | []=>none
 | c::L=>if c=j then some 0 else (plL j L).map (· + 1)
noncomputable def Cu (w:Nat) (N:Tab p) (L:List Nat):List (Fp p):=
 if frL 0 L=w then List.replicate w 0 else
 (List.range w).map fun j=>match plL j L with
  | some i=>0-(N.getD i []).getD (frL 0 L) 0
  | none=>if j=frL 0 L then 1 else 0
end
structure TbJ {p:Int} [IsP p] (d:Fp p→D) (IX:List Nat) (RR:List (List D)) (N:Tab p):Prop where
 len:IX.length=N.length
 inj:∀(j k r:Nat),IX[j]? = some r→IX[k]? = some r→j=k
 get:∀(k:Nat) Q,N[k]? = some Q→∃r,IX[k]? = some r∧RR[r]? = some (Q.map d)
section
variable {p:Int} [IsP p] {d:Fp p→D}
theorem TbJ.set {IX:List Nat} {RR:List (List D)} {N:Tab p} (h:TbJ d IX RR N) {i r:Nat} (hi:i<N.length) (hr:IX[i]? = some r) (Q:List (Fp p)):TbJ d IX (RR.set r (Q.map d)) (N.set i Q):=by
 refine ⟨by rw [bx]; exact h.len,h.inj,fun k P hk=>?_⟩
 by_cases hik:i=k
 ·subst hik
  rw [b4 hi] at hk;obtain rfl:=au hk;obtain ⟨r2,h1,h2⟩:=h.get i _ (ac hi);obtain rfl:r=r2:=au (hr.symm.trans h1);exact ⟨r,hr,b4 (ao.1 h2).1⟩
 ·rw [b7 hik] at hk
  obtain ⟨r2,h1,h2⟩:=h.get k P hk;have hne:r≠r2:=fun e=>hik (h.inj i k r hr (e▸h1))
  exact ⟨r2,h1,by rw [b7 hne]; exact h2⟩
theorem TbJ.swap {IX:List Nat} {RR:List (List D)} {N:Tab p} (h:TbJ d IX RR N) {c b rc rb:Nat} (hc:c<N.length) (hb:b<N.length) (h1:IX[c]? = some rc) (h2:IX[b]? = some rb):TbJ d ((IX.set b rc).set c rb) RR (swp N c b hc hb):=by
 have hlen:=h.len
 have key:∀k,((IX.set b rc).set c rb)[k]? = if k=c then IX[b]? else if k=b then IX[c]? else IX[k]?:=by
  intro k
  by_cases hk:c=k
  ·subst hk
   rw [b4 (by rw [bx]; omega),if_pos rfl,h2]
  ·rw [b7 hk,if_neg (f9 hk)]
   by_cases hk2:b=k
   ·subst hk2
    rw [b4 (by omega),if_pos rfl,h1]
   ·rw [b7 hk2,if_neg (f9 hk2)]
 refine ⟨by rw [bx,bx,pj]; exact hlen,fun j k r hj hk=>?_,fun k Q hk=>?_⟩
 ·rw [key] at hj hk
  by_cases j1:j=c <;> by_cases k1:k=c
  ·omega
  ·rw [if_pos j1] at hj
   rw [if_neg k1] at hk
   by_cases k2:k=b
   ·rw [if_pos k2] at hk
    have:=h.inj b c r hj hk; omega
   ·rw [if_neg k2] at hk
    have:=h.inj b k r hj hk; omega
  ·rw [if_pos k1] at hk
   rw [if_neg j1] at hj
   by_cases j2:j=b
   ·rw [if_pos j2] at hj
    have:=h.inj c b r hj hk; omega
   ·rw [if_neg j2] at hj
    have:=h.inj j b r hj hk; omega
  ·rw [if_neg j1] at hj
   rw [if_neg k1] at hk
   by_cases j2:j=b <;> by_cases k2:k=b
   ·omega
   ·rw [if_pos j2] at hj
    rw [if_neg k2] at hk;have:=h.inj c k r hj hk; omega
   ·rw [if_neg j2] at hj
    rw [if_pos k2] at hk;have:=h.inj j c r hj hk; omega
   ·rw [if_neg j2] at hj
    rw [if_neg k2] at hk;exact h.inj j k r hj hk
 ·rw [key]
  unfold swp at hk
  by_cases k1:c=k
  ·subst k1
   rw [b4 (by rw [bx]; exact hc)] at hk
   rw [if_pos rfl];exact h.get b Q (by rw [ac hb]; exact hk)
  ·rw [b7 k1] at hk
   rw [if_neg (f9 k1)]
   by_cases k2:b=k
   ·subst k2
    rw [b4 hb] at hk;rw [if_pos rfl];exact h.get c Q (by rw [ac hc]; exact hk)
   ·rw [b7 k2] at hk
    rw [if_neg (f9 k2)];exact h.get k Q hk
end
end Pe
namespace Pe
open Go Gq
variable {T:Nat→Option Fn} {A:am}
section
variable {p:Int} [IsP p]
theorem a8z {O:am} (hd:jw O) {m:Fp p} (hml:m.len≤64) {n w c:Nat} (hn:n<1000000) (hc:c<w) {N:Tab p} (hN:RM m n w N) {IX:List Nat} {RR:List (List D)} (hT:TbJ bo IX RR N) {cp cl:Option Nat} {l r:Nat} {Pm:List Int} {LL:List D}:∀(q b:Nat),b+q=n →
 dn O 1 (.loop ir_spec_l09Nullt_L0) ⟨[(0,(.d (.int .i64 p))),(2,.sl 0 [0] 0 n cp),(3,(.d (.int .i64 w))),(5,.ptr 1 []),(9,.sl 2 [] 0 l cl),(10,(.d (.int .i64 r))),(11,(.d (.int .i64 c))),(12,(.d (.int .i64 b)))],[.tb false (.arr 64 .leaf) IX RR,.box false (D.arr 64 .leaf (aq .u8 Pm)),.sl false .leaf LL,.hole,.hole,.hole,.hole,.hole]⟩ =
  some (.exit 2,⟨[(0,(.d (.int .i64 p))),(2,.sl 0 [0] 0 n cp),(3,(.d (.int .i64 w))),(5,.ptr 1 []),(9,.sl 2 [] 0 l cl),(10,(.d (.int .i64 r))),(11,(.d (.int .i64 c))),(12,(.d (.int .i64 (pvF N c q b)))),(50,(.d (.bool false)))],[.tb false (.arr 64 .leaf) IX RR,.box false (D.arr 64 .leaf (aq .u8 Pm)),.sl false .leaf LL,.hole,.hole,.hole,.hole,.hole]⟩)
 | 0,b,hb=>by
  obtain rfl:b=n:=by omega
  refine bu ?_;show _=some (_,(⟨[_,_,_,_,_,_,_,(12,(.d (.int .i64 b))),_],_⟩:St));simp -implicitDefEqProofs [ir_spec_l09Nullt_L0,ap]
 | q+1,b,hb=>by
  have hNl:=hN.1;have hlt:b<n:=by omega
  have hbN:b<N.length:=by omega
  obtain ⟨hQ1,hQ2⟩:=hN.2 N[b] (az hbN);obtain ⟨r',hr,hR⟩:=hT.get b _ (ac hbN);have hIl:IX.length=n:=by rw [hT.len]; exact hNl
  have hri:∀h:b<IX.length,IX[b]'h=r':=fun h=>au ((ac h).symm.trans hr)
  have hcQ:c<N[b].length:=by omega
  have hgd:N[b].getD c 0=N[b][c]:=by rw [List.getD_eq_getElem?_getD,ac hcQ]; rfl
  have e1:=hd p N[b][c] (by have:=hQ2 _ (az hcQ); omega)
  have hQL:(N[b].map bo).length=w:=by rw [af]; exact hQ1
  have hxc:∀h:c<(N[b].map bo).length,(N[b].map bo)[c]'h=(D.arr 64 .leaf (aq .u8 (pad (row N[b][c])))):=fun h=>by rw [bb]
  have w4:=wi b;have hli:(b:Int)<n:=by omega
  have hg:(N[b]?).getD []=N[b]:=by rw [ac hbN]; rfl
  by_cases h:(N[b]).getD c 0=0
  ·have e:pvF N c (q+1) b=pvF N c q (b+1):=by rw [pvF,hg,if_pos h]
   rw [hgd] at h;have hl0:(N[b][c]).len=0:=by rw [h]; exact Pol.len_zero
   have hneg:((N[b][c]).len:Int)-1<0:=by omega
   rw [e];refine bn ?_ (a8z hd hml hn hc hN hT q (b+1) (by omega))
   generalize pad (row N[b][c])=Pc at *;generalize ((N[b][c]).len:Int)-1=dg at *;generalize N[b].map bo=QD at *;simp -implicitDefEqProofs [ir_spec_l09Nullt_L0,ap,hlt,hli,hc,hIl,hri,hR,hQL,hxc,e1,hneg,w4]
  ·have e:pvF N c (q+1) b=b:=by rw [pvF,hg,if_neg h]
   rw [hgd] at h;have hl0:(N[b][c]).len≠0:=fun hh=>h (Pol.len_zero_iff.1 hh)
   have hneg:¬ ((N[b][c]).len:Int)-1<0:=by omega
   rw [e];refine bu ?_;generalize pad (row N[b][c])=Pc at *;generalize ((N[b][c]).len:Int)-1=dg at *;generalize N[b].map bo=QD at *;simp -implicitDefEqProofs [ir_spec_l09Nullt_L0,ap,hlt,hli,hc,hIl,hri,hR,hQL,hxc,e1,hneg]
theorem acm {O:am} (hmm:im O) {m f:Fp p} (hm:m≠0) (hml:m.len≤64) (hf:f.len<m.len) {n w c l r rr:Nat} (hw:w<1000000) {a:List (Fp p)} (hal:a.length=w) (ha:∀x∈a,x.len<m.len) {IX:List Nat} {RR:List (List D)} (hrr:rr<RR.length) {cp cl:Option Nat} {LL:List D}:∀(q k:Nat),k+q=w →
 dn O 1 (.loop ir_spec_l09Nullt_L1) ⟨[(0,(.d (.int .i64 p))),(2,.sl 0 [0] 0 n cp),(3,(.d (.int .i64 w))),(5,.ptr 1 []),(9,.sl 2 [] 0 l cl),(10,(.d (.int .i64 r))),(11,(.d (.int .i64 c))),(13,.sl 0 [rr+1] 0 w none),(14,.ptr 3 []),(15,(.d (.int .i64 k)))],[.tb false (.arr 64 .leaf) IX (RR.set rr ((scG m f k a).map bo)),.box false (D.arr 64 .leaf (aq .u8 (pad (row m)))),.sl false .leaf LL,.box false (D.arr 64 .leaf (aq .u8 (pad (row f)))),.hole,.hole,.hole,.hole]⟩ =
  some (.exit 4,⟨[(0,(.d (.int .i64 p))),(2,.sl 0 [0] 0 n cp),(3,(.d (.int .i64 w))),(5,.ptr 1 []),(9,.sl 2 [] 0 l cl),(10,(.d (.int .i64 r))),(11,(.d (.int .i64 c))),(13,.sl 0 [rr+1] 0 w none),(14,.ptr 3 []),(15,(.d (.int .i64 w))),(81,(.d (.bool false)))],[.tb false (.arr 64 .leaf) IX (RR.set rr ((scG m f w a).map bo)),.box false (D.arr 64 .leaf (aq .u8 (pad (row m)))),.sl false .leaf LL,.box false (D.arr 64 .leaf (aq .u8 (pad (row f)))),.hole,.hole,.hole,.hole]⟩)
 | 0,k,hk=>by
  obtain rfl:k=w:=by omega
  refine bu ?_;show _=some (_,(⟨_,[.tb false (.arr 64 .leaf) IX (RR.set rr ((scG m f k a).map bo)),_,_,_,_,_,_,_]⟩:St));generalize pad (row f)=Pf,pad (row m)=Pm,RR.set rr ((scG m f k a).map bo)=LQ at *;simp -implicitDefEqProofs [ir_spec_l09Nullt_L1,ap]
 | q+1,k,hk=>by
  have hlt:k<w:=by omega
  have hka:k<a.length:=by omega
  have hak:=ha _ (az hka);have e1:=hmm p a[k] f m hm hml (by omega) (by omega)
  have hEL:((scG m f k a).map bo).length=w:=by rw [af,tm]; exact hal
  have hEg:∀h:k<((scG m f k a).map bo).length,((scG m f k a).map bo)[k]'h=(D.arr 64 .leaf (aq .u8 (pad (row a[k])))):=fun h=>au ((ac h).symm.trans (by rw [cb,a9j hka]; rfl))
  have hset:((scG m f k a).map bo).set k (D.arr 64 .leaf (aq .u8 (pad (row (a[k]*f%m)))))=(scG m f (k+1) a).map bo:=by
   rw [←U4 hka,dy]
  have w4:=wi k;have ih:=acm hmm hm hml hf hw hal ha hrr (n:=n) (c:=c) (l:=l) (r:=r) (cp:=cp) (cl:=cl) (IX:=IX) (LL:=LL) q (k+1) (by omega)
  refine bn ?_ ih;rw [←hset];have hli:(k:Int)<w:=by omega
  generalize pad (row (a[k]*f%m))=P2 at *;generalize pad (row a[k])=P1 at *;generalize pad (row f)=Pf,pad (row m)=Pm,(scG m f k a).map bo=EQ at *;simp -implicitDefEqProofs [ir_spec_l09Nullt_L1,ap,hlt,hli,hrr,hEL,hEg,e1,w4]
theorem ad3 {O:am} (hs:si O) (hmm:im O) {m f:Fp p} (hm:m≠0) (hml:m.len≤64) (hf:f.len<m.len) {a:List (Fp p)} (ha:∀x∈a,x.len<m.len) {n w c l r i rr r':Nat} (hw:w<1000000) (hal:a.length=w) {IX:List Nat} {RR:List (List D)} (hrr:RR[rr]? = some (a.map bo)) (hr':r'<RR.length) (hne:r'≠rr) (hir:(i:Int)≠r) {cp cl:Option Nat} {LL:List D} {Q:List (Fp p)} (hQ:Q.length=w) (hQl:∀x∈Q,x.len<m.len):∀(q k:Nat),k+q=w →
 dn O 1 (.loop ir_spec_l09Nullt_L2) ⟨[(0,(.d (.int .i64 p))),(2,.sl 0 [0] 0 n cp),(3,(.d (.int .i64 w))),(5,.ptr 1 []),(9,.sl 2 [] 0 l cl),(10,(.d (.int .i64 r))),(11,(.d (.int .i64 c))),(13,.sl 0 [rr+1] 0 w none),(16,(.d (.int .i64 i))),(17,.ptr 4 []),(18,.sl 0 [r'+1] 0 w none),(19,(.d (.int .i64 k)))],[.tb false (.arr 64 .leaf) IX (RR.set r' ((elG m f a 0 k Q).map bo)),.box false (D.arr 64 .leaf (aq .u8 (pad (row m)))),.sl false .leaf LL,.hole,.box false (D.arr 64 .leaf (aq .u8 (pad (row f)))),.hole,.hole,.hole]⟩ =
  some (.exit 8,⟨[(0,(.d (.int .i64 p))),(2,.sl 0 [0] 0 n cp),(3,(.d (.int .i64 w))),(5,.ptr 1 []),(9,.sl 2 [] 0 l cl),(10,(.d (.int .i64 r))),(11,(.d (.int .i64 c))),(13,.sl 0 [rr+1] 0 w none),(16,(.d (.int .i64 i))),(17,.ptr 4 []),(18,.sl 0 [r'+1] 0 w none),(19,(.d (.int .i64 w))),(119,(.d (.bool false)))],[.tb false (.arr 64 .leaf) IX (RR.set r' ((elG m f a 0 w Q).map bo)),.box false (D.arr 64 .leaf (aq .u8 (pad (row m)))),.sl false .leaf LL,.hole,.box false (D.arr 64 .leaf (aq .u8 (pad (row f)))),.hole,.hole,.hole]⟩)
 | 0,k,hk=>by
  obtain rfl:k=w:=by omega
  refine bu ?_;show _=some (_,(⟨_,[.tb false (.arr 64 .leaf) IX (RR.set r' ((elG m f a 0 k Q).map bo)),_,_,_,_,_,_,_]⟩:St));generalize pad (row f)=Pf,pad (row m)=Pm,RR.set r' ((elG m f a 0 k Q).map bo)=LQ at *;simp -implicitDefEqProofs [ir_spec_l09Nullt_L2,ap]
 | q+1,k,hk=>by
  have hlt:k<w:=by omega
  have hka:k<a.length:=by omega
  have hkQ:k<Q.length:=by omega
  have hak:=ha _ (az hka);have hQk:=hQl _ (az hkQ);have e1:=hmm p f a[k] m hm hml (by omega) (by omega)
  have hmod:=Pol.len_mod (f*a[k]) hm;have e2:=hs p Q[k] (f*a[k]%m) (by omega) (by omega)
  have hEL:((elG m f a 0 k Q).map bo).length=w:=by rw [af,yz]; exact hQ
  have hEg:∀h:k<((elG m f a 0 k Q).map bo).length,((elG m f a 0 k Q).map bo)[k]'h=(D.arr 64 .leaf (aq .u8 (pad (row Q[k])))):=fun h=>au ((ac h).symm.trans (by rw [cb,a4i hkQ]; rfl))
  have hAg:∀h:k<(a.map bo).length,(a.map bo)[k]'h=(D.arr 64 .leaf (aq .u8 (pad (row a[k])))):=fun h=>by rw [bb]
  have hAL:(a.map bo).length=w:=by rw [af]; exact hal
  have hset:((elG m f a 0 k Q).map bo).set k (D.arr 64 .leaf (aq .u8 (pad (row (Q[k]-f*a[k]%m)))))=(elG m f a 0 (k+1) Q).map bo:=by
   rw [←Tp (fh k) hkQ hka,dy]
  have w4:=wi k;have ih:=ad3 hs hmm hm hml hf ha hw hal hrr hr' hne hir (n:=n) (c:=c) (l:=l) (cp:=cp) (cl:=cl) (IX:=IX) (LL:=LL) hQ hQl q (k+1) (by omega)
  refine bn ?_ ih;rw [←hset];have hli:(k:Int)<w:=by omega
  generalize pad (row (Q[k]-f*a[k]%m))=P3 at *;generalize pad (row (f*a[k]%m))=P2 at *;generalize pad (row Q[k])=P1 at *;generalize pad (row a[k])=P0 at *;generalize pad (row f)=Pf,pad (row m)=Pm,a.map bo=AD,(elG m f a 0 k Q).map bo=EQ at *;simp -implicitDefEqProofs [ir_spec_l09Nullt_L2,ap,hlt,hli,hrr,hr',hne,hir,hEL,hEg,hAg,hAL,e1,e2,w4]
theorem X5 {O:am} (hs:si O) (hmm:im O) {m:Fp p} (hm:m≠0) (hml:m.len≤64) {n w c l r rr:Nat} (hn:n<1000000) (hw:w<1000000) {N:Tab p} (hN:RM m n w N) {a:List (Fp p)} (hc:c<w) (hrn:r<n) (hca:N[r]? = some a) {IX:List Nat} (hr:IX[r]? = some rr) {cp cl:Option Nat} {LL:List D}:∀(q i:Nat) (RR:List (List D)),i+q=n→TbJ bo IX RR (elR m a c w r i N)→∃RR',TbJ bo IX RR' (elR m a c w r n N) ∧
 dn O 1 (.loop ir_spec_l09Nullt_L3) ⟨[(0,(.d (.int .i64 p))),(2,.sl 0 [0] 0 n cp),(3,(.d (.int .i64 w))),(5,.ptr 1 []),(9,.sl 2 [] 0 l cl),(10,(.d (.int .i64 r))),(11,(.d (.int .i64 c))),(13,.sl 0 [rr+1] 0 w none),(16,(.d (.int .i64 i)))],[.tb false (.arr 64 .leaf) IX RR,.box false (D.arr 64 .leaf (aq .u8 (pad (row m)))),.sl false .leaf LL,.hole,.hole,.hole,.hole,.hole]⟩ =
  some (.exit 6,⟨[(0,(.d (.int .i64 p))),(2,.sl 0 [0] 0 n cp),(3,(.d (.int .i64 w))),(5,.ptr 1 []),(9,.sl 2 [] 0 l cl),(10,(.d (.int .i64 r))),(11,(.d (.int .i64 c))),(13,.sl 0 [rr+1] 0 w none),(16,(.d (.int .i64 n))),(98,(.d (.bool false)))],[.tb false (.arr 64 .leaf) IX RR',.box false (D.arr 64 .leaf (aq .u8 (pad (row m)))),.sl false .leaf LL,.hole,.hole,.hole,.hole,.hole]⟩)
 | 0,i,RR,hi,hT=>by
  obtain rfl:i=n:=by omega
  refine ⟨RR,hT,bu ?_⟩;generalize pad (row m)=Pm at *;simp -implicitDefEqProofs [ir_spec_l09Nullt_L3,ap]
 | q+1,i,RR,hi,hT=>by
  have hNl:=hN.1;have hiN:i<N.length:=by omega
  have hlt:i<n:=by omega
  obtain ⟨hQ1,hQ2⟩:=hN.2 N[i] (az hiN);obtain ⟨ha1,ha2⟩:=hN.2 a (dl hca);obtain ⟨r',hr',hR'⟩:=hT.get i _ (a4r hiN);have hrN:r<N.length:=by omega
  have hNr:N[r]=a:=au ((ac hrN).symm.trans hca);obtain ⟨r2,hr2,hR⟩:=hT.get r a (by rw [ac8 hrN,hNr])
  obtain rfl:rr=r2:=au (hr.symm.trans hr2);have hrl':r'<RR.length:=(ao.1 hR').1;have hcQ:c<N[i].length:=by omega
  have hQc:=hQ2 _ (az hcQ);have hgd:N[i].getD c 0=N[i][c]:=by rw [List.getD_eq_getElem?_getD,ac hcQ]; rfl
  have hQL:(N[i].map bo).length=w:=by rw [af]; exact hQ1
  have hxc:∀h:c<(N[i].map bo).length,(N[i].map bo)[c]'h=(D.arr 64 .leaf (aq .u8 (pad (row N[i][c])))):=fun h=>by rw [bb]
  have hIl:IX.length=n:=by rw [hT.len,ti]; exact hNl
  have hri:∀h:i<IX.length,IX[i]'h=r':=fun h=>au ((ac h).symm.trans hr')
  have w4:=wi i;have hli:(i:Int)<n:=by omega
  by_cases hir:i=r
  ·subst hir
   rw [Sj] at hT;obtain ⟨RR',hT',ih⟩:=X5 hs hmm hm hml hn hw hN hc hrn hca hr (l:=l) (cp:=cp) (cl:=cl) (LL:=LL) q (i+1) RR (by omega) hT
   refine ⟨RR',hT',bn ?_ ih⟩
   have e2:∀(Pf:List Int),dn O 1 (.loop ir_spec_l09Nullt_L2) ⟨[(0,(.d (.int .i64 p))),(2,.sl 0 [0] 0 n cp),(3,(.d (.int .i64 w))),(5,.ptr 1 []),(9,.sl 2 [] 0 l cl),(10,(.d (.int .i64 i))),(11,(.d (.int .i64 c))),(13,.sl 0 [rr+1] 0 w none),(16,(.d (.int .i64 i))),(17,.ptr 4 []),(18,.sl 0 [r'+1] 0 w none),(19,(.d (.int .i64 0)))],[.tb false (.arr 64 .leaf) IX RR,.box false (D.arr 64 .leaf (aq .u8 (pad (row m)))),.sl false .leaf LL,.hole,.box false (D.arr 64 .leaf (aq .u8 Pf)),.hole,.hole,.hole]⟩ =
    some (.exit 8,⟨[(0,(.d (.int .i64 p))),(2,.sl 0 [0] 0 n cp),(3,(.d (.int .i64 w))),(5,.ptr 1 []),(9,.sl 2 [] 0 l cl),(10,(.d (.int .i64 i))),(11,(.d (.int .i64 c))),(13,.sl 0 [rr+1] 0 w none),(16,(.d (.int .i64 i))),(17,.ptr 4 []),(18,.sl 0 [r'+1] 0 w none),(19,(.d (.int .i64 0))),(119,(.d (.bool false)))],[.tb false (.arr 64 .leaf) IX RR,.box false (D.arr 64 .leaf (aq .u8 (pad (row m)))),.sl false .leaf LL,.hole,.box false (D.arr 64 .leaf (aq .u8 Pf)),.hole,.hole,.hole]⟩):=by
    intro Pf;refine bu ?_;have hw0:0<w:=by omega
    generalize pad (row m)=Pm at *;simp -implicitDefEqProofs [ir_spec_l09Nullt_L2,ap,hw0]
   generalize pad (row N[i][c])=Pc at *;generalize N[i].map bo=QD at *;generalize pad (row m)=Pm at *;simp -implicitDefEqProofs [ir_spec_l09Nullt_L3,ap,hlt,hli,hc,hIl,hri,hR',hQL,hxc,e2,w4]
  ·have hne:r'≠rr:=fun e=>hir (hT.inj i r r' hr' (by rw [e]; exact hr))
   have hiri:(i:Int)≠r:=by omega
   have e2:=ad3 (O:=O) hs hmm hm hml hQc ha2 (n:=n) (c:=c) (l:=l) (r:=r) (i:=i) (cp:=cp) (cl:=cl) (IX:=IX) (LL:=LL) hw ha1 hR hrl' hne hiri hQ1 hQ2 w 0 (b9 _)
   have hself:RR.set r' (N[i].map bo)=RR:=by
    obtain ⟨h1,h2⟩:=ao.1 hR';rw [←h2,List.set_getElem_self]
   have e00:((0:Nat):Int)=0:=rfl;rw [Nu,hself,e00] at e2;have hT2:=hT.set (by rw [ti]; exact hiN) hr' (elG m N[i][c] a 0 w N[i])
   rw [←hgd,Tf hiN hir,hgd] at hT2;obtain ⟨RR',hT',ih⟩:=X5 hs hmm hm hml hn hw hN hc hrn hca hr (l:=l) (cp:=cp) (cl:=cl) (LL:=LL) q (i+1) _ (by omega) hT2
   refine ⟨RR',hT',bn ?_ ih⟩;generalize RR.set r' ((elG m N[i][c] a 0 w N[i]).map bo)=R2 at *;generalize pad (row N[i][c])=Pc at *;generalize N[i].map bo=QD at *;generalize pad (row m)=Pm at *;simp -implicitDefEqProofs [ir_spec_l09Nullt_L3,ap,hlt,hli,hc,hIl,hri,hR',hQL,hxc,e2,w4]
end
abbrev ldD (L:List Nat):List D:=aq .i64 (L.map fun c:Nat=>(c:Int))
theorem vj (L:List Nat):(ldD L).length=L.length:=by simp [ldD]
theorem ac1 (L:List Nat) (c:Nat):ldD (L++[c])=ldD L++[.int .i64 c]:=by simp [ldD,aq]
theorem a1r {L:List Nat} {i:Nat} (hi:i<L.length):∀h:i<(ldD L).length,(ldD L)[i]'h=.int .i64 (L[i]:Nat):=fun h=>by simp [ldD,aq]
section
variable {p:Int} [IsP p]
theorem Yz {m:Fp p} {c w r b:Nat} {N:Tab p} (hr:r<N.length) (hb:b<N.length):pivS m c w r b N=elR m (scG m (jp m (N[b].getD c 0)) w N[b]) c w r N.length ((swp N r b hr hb).set r (scG m (jp m (N[b].getD c 0)) w N[b])):=by
 unfold pivS; rw [dif_pos ⟨hr,hb⟩]
theorem a9u {O:am} (_hd:jw O) (hs:si O) (hmm:im O) (hin:zj O) {m:Fp p} (hm:Fld m) {n w c b:Nat} (hn:n<1000000) (hw:w<1000000) {N:Tab p} (hN:RM m n w N) (hc:c<w) {L:List Nat} (hL:L.length<n) (hb:b<n) (hx0:∀h:b<N.length,(N[b]).getD c 0≠0) {IX:List Nat} {RR:List (List D)} (hT:TbJ bo IX RR N) {cp cl:Option Nat}
 (hpv:dn O 1 (.loop ir_spec_l09Nullt_L0) ⟨[(0,(.d (.int .i64 p))),(2,.sl 0 [0] 0 n cp),(3,(.d (.int .i64 w))),(5,.ptr 1 []),(9,.sl 2 [] 0 L.length cl),(10,(.d (.int .i64 L.length))),(11,(.d (.int .i64 c))),(12,(.d (.int .i64 L.length)))],[.tb false (.arr 64 .leaf) IX RR,.box false (D.arr 64 .leaf (aq .u8 (pad (row m)))),.sl false .leaf (ldD L),.hole,.hole,.hole,.hole,.hole]⟩ =
  some (.exit 2,⟨[(0,(.d (.int .i64 p))),(2,.sl 0 [0] 0 n cp),(3,(.d (.int .i64 w))),(5,.ptr 1 []),(9,.sl 2 [] 0 L.length cl),(10,(.d (.int .i64 L.length))),(11,(.d (.int .i64 c))),(12,(.d (.int .i64 b))),(50,(.d (.bool false)))],[.tb false (.arr 64 .leaf) IX RR,.box false (D.arr 64 .leaf (aq .u8 (pad (row m)))),.sl false .leaf (ldD L),.hole,.hole,.hole,.hole,.hole]⟩)):∃IX' RR',TbJ bo IX' RR' (pivS m c w L.length b N) ∧
 dn O 1 ir_spec_l09Nullt_L4 ⟨[(0,(.d (.int .i64 p))),(2,.sl 0 [0] 0 n cp),(3,(.d (.int .i64 w))),(5,.ptr 1 []),(9,.sl 2 [] 0 L.length cl),(10,(.d (.int .i64 L.length))),(11,(.d (.int .i64 c)))],[.tb false (.arr 64 .leaf) IX RR,.box false (D.arr 64 .leaf (aq .u8 (pad (row m)))),.sl false .leaf (ldD L),.hole,.hole,.hole,.hole,.hole]⟩ =
  some (.normal,⟨[(0,(.d (.int .i64 p))),(2,.sl 0 [0] 0 n cp),(3,(.d (.int .i64 w))),(5,.ptr 1 []),(9,.sl 2 [] 0 (L.length+1) none),(10,(.d (.int .i64 (((L.length+1:Nat):Int))))),(11,(.d (.int .i64 (((c+1:Nat):Int)))))],[.tb false (.arr 64 .leaf) IX' RR',.box false (D.arr 64 .leaf (aq .u8 (pad (row m)))),.sl false .leaf (ldD L++[.int .i64 c]),.hole,.hole,.hole,.hole,.hole]⟩):=by
 have hml:=hm.five;have hm0:=hm.mon.2;have hNl:=hN.1;have hbN:b<N.length:=by omega
 have hrN:L.length<N.length:=by omega
 obtain ⟨hQ1,hQ2⟩:=hN.2 N[b] (az hbN);have hcQ:c<N[b].length:=by omega
 have hgd:N[b].getD c 0=N[b][c]:=by rw [List.getD_eq_getElem?_getD,ac hcQ]; rfl
 have hx0':N[b][c]≠0:=by rw [←hgd]; exact hx0 hbN
 have hxl:=hQ2 _ (az hcQ);have e3:=hin p m N[b][c] hm0 (by omega) hx0' hxl
 have hivl:(jp m N[b][c]).len<m.len:=Pol.len_mod _ hm0;obtain ⟨rb,hrb,hRb⟩:=hT.get b _ (ac hbN);obtain ⟨rc,hrc,hRc⟩:=hT.get L.length _ (ac hrN);have hsw:=hT.swap hrN hbN hrc hrb;have hSw:=hN.swap hrN hbN;have hIl:IX.length=n:=by rw [hT.len]; exact hNl
 have hIX':((IX.set b rc).set L.length rb)[L.length]? = some rb:=b4 (by rw [bx]; omega)
 have hrl:rb<RR.length:=(ao.1 hRb).1;have e4:=acm (O:=O) hmm hm0 (by omega) hivl (n:=n) (c:=c) (l:=L.length) (r:=L.length) (cp:=cp) (cl:=cl) (IX:=(IX.set b rc).set L.length rb) (LL:=ldD L) hw hQ1 hQ2 hrl w 0 (b9 _)
 have hself:RR.set rb (N[b].map bo)=RR:=by
  obtain ⟨h1,h2⟩:=ao.1 hRb;rw [←h2,List.set_getElem_self]
 have e00:((0:Nat):Int)=0:=rfl;rw [Su,hself,e00] at e4;have hT2:=hsw.set (by rw [pj]; exact hrN) hIX' (scG m (jp m N[b][c]) w N[b])
 have hN2:=hSw.set (i:=L.length) (by rw [tm]; exact hQ1) (Oz (f:=jp m N[b][c]) (k:=w) hm0 hQ2)
 have hca:((swp N L.length b hrN hbN).set L.length (scG m (jp m N[b][c]) w N[b]))[L.length]? = some (scG m (jp m N[b][c]) w N[b]):=b4 (by rw [pj]; exact hrN)
 obtain ⟨RR',hT3,e5⟩:=X5 (O:=O) hs hmm hm0 (by omega) hn hw hN2 hc hL hca hIX' (l:=L.length) (cp:=cp) (cl:=cl) (LL:=ldD L) n 0 _ (b9 _) (by rw [T6]; exact hT2)
 rw [e00] at e5;refine ⟨_,RR',by rw [Yz hrN hbN,hgd,hNl]; exact hT3,?_⟩
 have w4:=wi c;have w5:=wi L.length;have hli:(c:Int)<w:=by omega
 have hLi:(L.length:Int)<n:=by omega
 have hbz:¬ (b:Int)=n:=by omega
 have hrib:∀h:b<IX.length,IX[b]'h=rb:=fun h=>au ((ac h).symm.trans hrb)
 have hric:∀h:L.length<IX.length,IX[L.length]'h=rc:=fun h=>au ((ac h).symm.trans hrc)
 have hQL:(N[b].map bo).length=w:=by rw [af]; exact hQ1
 have hxc:∀h:c<(N[b].map bo).length,(N[b].map bo)[c]'h=(D.arr 64 .leaf (aq .u8 (pad (row N[b][c])))):=fun h=>by rw [bb]
 have hRcL:(N[L.length].map bo).length=w:=by rw [af]; exact (hN.2 N[L.length] (az hrN)).1
 have hlL:=vj L;have htk:(ldD L).take L.length=ldD L:=aw (by rw [hlL]; exact ba _)
 have h24:(L.length+1)*8≤1099511627776:=by omega
 have hw0:0<w:=by omega
 generalize ((L.length+1:Nat):Int)=z2,((c+1:Nat):Int)=z1 at *;generalize hlg:ldD L=LD at *;generalize hll:L.length=ll at *;generalize RR.set rb ((scG m (jp m N[b][c]) w N[b]).map bo)=R2 at *;generalize pad (row (jp m N[b][c]))=Pi at *;generalize pad (row N[b][c])=Pc at *;generalize N[b].map bo=QD at *;generalize N[ll].map bo=QC at *;generalize pad (row m)=Pm at *;simp -implicitDefEqProofs [ir_spec_l09Nullt_L4,ap,hL,hb,hc,hli,hLi,hbz,hIl,hrib,hric,hRb,hRc,hQL,hRcL,hxc,hpv,e3,e4,e5,w4,w5,hlL,htk,h24,hw0,List.replicate]
end
section
variable {p:Int} [IsP p]
def Inc (c:Nat) (L:List Nat):Prop:=L.Pairwise (· < ·)∧∀x∈L,x<c
theorem Inc.nil (c:Nat):Inc c []:=⟨List.Pairwise.nil,by simp⟩
theorem Inc.up {c:Nat} {L:List Nat} (h:Inc c L):Inc (c+1) L:=⟨h.1,fun x hx=>Nat.lt_succ_of_lt (h.2 x hx)⟩
theorem Inc.app {c:Nat} {L:List Nat} (h:Inc c L):Inc (c+1) (L++[c]):=by
 refine ⟨iu.2 ⟨h.1,by simp,fun a ha b hb=>?_⟩,fun x hx=>?_⟩
 ·simp only [c7] at hb
  subst hb; exact h.2 a ha
 ·simp only [bp,c7] at hx
  rcases hx with hx | rfl
  ·exact Nat.lt_succ_of_lt (h.2 x hx)
  ·exact Nat.lt_succ_self _
theorem Inc.mono {c d:Nat} {L:List Nat} (h:Inc c L) (hd:c≤d):Inc d L:=⟨h.1,fun x hx=>ep (h.2 x hx) hd⟩
theorem Inc.nodup {c:Nat} {L:List Nat} (h:Inc c L):L.Nodup:=h.1.imp fun h=>by omega
theorem Inc.ge {c:Nat} {L:List Nat} (h:Inc c L):∀(i:Nat) (hi:i<L.length),i≤L[i]
 | 0,_=>fh _
 | i+1,hi=>by
  have h1:=Inc.ge h i (by omega)
  have h2:=List.pairwise_iff_getElem.1 h.1 i (i+1) (by omega) hi (by omega)
  omega
theorem Inc.len {c:Nat} {L:List Nat} (h:Inc c L):L.length≤c:=by
 rcases mf L.length with h0 | h0
 ·omega
 ·have h1:=h.ge (L.length-1) (by omega)
  have h2:=h.2 _ (az (l:=L) (n:=L.length-1) (by omega))
  omega
theorem Ev (m:Fp p) (hm:m≠0) {n w:Nat}:∀(q c:Nat) (N:Tab p) (L:List Nat),RM m n w N→Inc c L→L.length≤n→RM m n w (gau m w q c N L).1∧Inc (c+q) (gau m w q c N L).2∧(gau m w q c N L).2.length≤n
 | 0,c,N,L,hN,hL,hl=>⟨hN,hL,hl⟩
 | q+1,c,N,L,hN,hL,hl=>by
  have hNl:=hN.1;rw [gau]
  split
  ·split
   ·have:=Ev m hm q (c+1) _ _ (hN.pivS hm (c:=c) (r:=L.length) (b:=pvF N c (N.length-L.length) L.length)) hL.app (by simp; omega)
    rwa [show c+1+q=c+(q+1) by omega] at this
   ·have:=Ev m hm q (c+1) _ _ hN hL.up hl
    rwa [show c+1+q=c+(q+1) by omega] at this
  ·exact ⟨hN,hL.mono (by omega),hl⟩
theorem a1g:∀(k:Nat) (L:List Nat),k≤frL k L∧frL k L≤k+L.length
 | k,[]=>⟨ba _,ba _⟩
 | k,c::L=>by
  have:=a1g (k+1) L;rw [frL]
  split
  ·simp only [bv]; omega
  ·simp only [bv]; omega
theorem a8b:∀(k:Nat) (L:List Nat) (j:Nat),k≤j→j<frL k L→L[j-k]? = some j
 | k,[],j,h1,h2=>by rw [frL] at h2; omega
 | k,c::L,j,h1,h2=>by
  rw [frL] at h2
  split at h2
  ·rename_i hc
   by_cases hj:j=k
   ·subst hj; rw [lh,ct,hc]
   ·rw [show j-k=(j-(k+1))+1 by omega,iw]
    exact a8b (k+1) L j (by omega) h2
  ·omega
theorem a97:∀(k:Nat) (L:List Nat),L[frL k L-k]? ≠ some (frL k L)
 | k,[]=>by simp
 | k,c::L=>by
  rw [frL]
  split
  ·have h1:=(a1g (k+1) L).1
   rw [show frL (k+1) L-k=(frL (k+1) L-(k+1))+1 by omega,iw]
   exact a97 (k+1) L
  ·rename_i hc
   rw [lh,ct]
   simpa using hc
theorem a94 {c:Nat} {L:List Nat} (h:Inc c L):frL 0 L ∉ L:=by
 intro hm;obtain ⟨i,hi,e⟩:=List.mem_iff_getElem.1 hm;have h1:=a8b 0 L;have h2:=a97 0 L;rw [Nat.sub_zero] at h2
 by_cases hlt:i<frL 0 L
 ·have:=h1 i (fh _) hlt
  rw [Nat.sub_zero,ac hi] at this;have:=au this;omega
 ·have h3:=h.ge i hi
  have:i=frL 0 L:=by omega
  rw [←this,ac hi] at h2;exact h2 (by rw [e,←this])
theorem Es {j:Nat}:∀{L:List Nat},plL j L=none↔j ∉ L
 | []=>by simp [plL]
 | c::L=>by
  rw [plL]
  by_cases h:c=j
  ·rw [if_pos h]; simp [h]
  ·rw [if_neg h,Option.map_eq_none_iff,Es (L:=L)]
   simp [f9 h]
theorem Qf {j i:Nat}:∀{L:List Nat},plL j L=some i→L[i]? = some j
 | [],h=>by simp [plL] at h
 | c::L,h=>by
  rw [plL] at h
  by_cases hc:c=j
  ·rw [if_pos hc] at h
   obtain rfl:=au h;rw [ct,hc]
  ·rw [if_neg hc] at h
   obtain ⟨k,hk,rfl⟩:=ae.1 h;rw [iw]; exact Qf hk
theorem Wl (j c:Nat):∀(L:List Nat),plL j (L++[c])=(plL j L).or (if c=j then some L.length else none)
 | []=>by simp [plL]
 | d::L=>by
  rw [cz,plL,plL,Wl j c L]
  by_cases h:d=j
  ·simp [h]
  ·rw [if_neg h,if_neg h]
   cases plL j L with
   | some k=>rfl
   | none=>by_cases hc:c=j <;> simp [hc]
theorem W2 {O:am} (hd:jw O) (hs:si O) (hmm:im O) (hin:zj O) {m:Fp p} (hm:Fld m) {n w:Nat} (hn:n<1000000) (hw:w<1000000) {cp:Option Nat}:∀(q c:Nat) (N:Tab p) (L:List Nat) (IX:List Nat) (RR:List (List D)) (cl:Option Nat),c+q=w→RM m n w N→TbJ bo IX RR N→L.length≤n→∃(IX':List Nat) (RR':List (List D)) (cl':Option Nat) (c':Nat),TbJ bo IX' RR' (gau m w q c N L).1 ∧
 dn O 1 (.loop ir_spec_l09Nullt_L4) ⟨[(0,(.d (.int .i64 p))),(2,.sl 0 [0] 0 n cp),(3,(.d (.int .i64 w))),(5,.ptr 1 []),(9,.sl 2 [] 0 L.length cl),(10,(.d (.int .i64 L.length))),(11,(.d (.int .i64 c)))],[.tb false (.arr 64 .leaf) IX RR,.box false (D.arr 64 .leaf (aq .u8 (pad (row m)))),.sl false .leaf (ldD L),.hole,.hole,.hole,.hole,.hole]⟩ =
  some (.exit 0,⟨[(0,(.d (.int .i64 p))),(2,.sl 0 [0] 0 n cp),(3,(.d (.int .i64 w))),(5,.ptr 1 []),(9,.sl 2 [] 0 (gau m w q c N L).2.length cl'),(10,(.d (.int .i64 ((gau m w q c N L).2.length)))),(11,(.d (.int .i64 c'))),(32,(.d (.bool false)))],[.tb false (.arr 64 .leaf) IX' RR',.box false (D.arr 64 .leaf (aq .u8 (pad (row m)))),.sl false .leaf (ldD (gau m w q c N L).2),.hole,.hole,.hole,.hole,.hole]⟩)
 | 0,c,N,L,IX,RR,cl,hc,hN,hT,hL=>by
  obtain rfl:c=w:=by omega
  refine ⟨IX,RR,cl,c,hT,bu ?_⟩;show _=some (_,(⟨[_,_,_,_,(9,.sl 2 [] 0 L.length cl),(10,(.d (.int .i64 L.length))),_,_],[_,_,.sl false .leaf (ldD L),_,_,_,_,_]⟩:St));generalize pad (row m)=Pm,ldD L=LD at *;simp -implicitDefEqProofs [ir_spec_l09Nullt_L4,ap]
 | q+1,c,N,L,IX,RR,cl,hc,hN,hT,hL=>by
  have hml:=hm.five;have hNl:=hN.1;have hlt:c<w:=by omega
  have hli:(c:Int)<w:=by omega
  by_cases hLn:L.length<n
  ·have hLi:(L.length:Int)<n:=by omega
   obtain ⟨q1,q2,q3,q4⟩:=Jv N c (n-L.length) L.length (by omega)
   have e1:=a8z (O:=O) hd (m:=m) (by omega) hn hlt hN hT (cp:=cp) (cl:=cl) (l:=L.length) (r:=L.length) (Pm:=pad (row m)) (LL:=ldD L) (n-L.length) L.length (by omega)
   by_cases hb:pvF N c (N.length-L.length) L.length<N.length
   ·have hg:gau m w (q+1) c N L=gau m w q (c+1) (pivS m c w L.length (pvF N c (N.length-L.length) L.length) N) (L++[c]):=by
     rw [gau,if_pos (by omega),if_pos hb]
    rw [hg];rw [hNl] at hb ⊢;generalize pvF N c (n-L.length) L.length=b at *;obtain ⟨IX1,RR1,hT1,e2⟩:=a9u hd hs hmm hin hm hn hw hN hlt hLn hb (fun h=>q4 h) hT e1
    rw [←ac1] at e2;have hl1:(L++[c]).length=L.length+1:=by simp
    obtain ⟨IX2,RR2,cl2,c2,hT2,ih⟩:=W2 hd hs hmm hin hm hn hw (cp:=cp) q (c+1) _ (L++[c]) IX1 RR1 none (by omega) (hN.pivS hm.mon.2) hT1 (by omega)
    rw [hl1] at ih;exact ⟨IX2,RR2,cl2,c2,hT2,bn e2 ih⟩
   ·have hg:gau m w (q+1) c N L=gau m w q (c+1) N L:=by
     rw [gau,if_pos (by omega),if_neg hb]
    rw [hg];rw [hNl] at hb q2;have hbe:pvF N c (n-L.length) L.length=n:=by omega
    rw [hbe] at e1;obtain ⟨IX2,RR2,cl2,c2,hT2,ih⟩:=W2 hd hs hmm hin hm hn hw (cp:=cp) q (c+1) N L IX RR cl (by omega) hN hT hL
    refine ⟨IX2,RR2,cl2,c2,hT2,bn ?_ ih⟩;have w4:=wi c;generalize pad (row m)=Pm,L.length=ll,ldD L=LD,((c+1:Nat):Int)=z1 at *;simp -implicitDefEqProofs [ir_spec_l09Nullt_L4,ap,hli,hLi,e1,w4]
  ·have hLe:L.length=n:=by omega
   have hg:gau m w (q+1) c N L=(N,L):=by rw [gau,if_neg (by omega)]
   rw [hg];refine ⟨IX,RR,cl,c,hT,bu ?_⟩;show _=some (_,(⟨[_,_,_,_,(9,.sl 2 [] 0 L.length cl),(10,(.d (.int .i64 L.length))),_,_],[_,_,.sl false .leaf (ldD L),_,_,_,_,_]⟩:St));generalize ldD L=LD at *;rw [hLe];generalize pad (row m)=Pm at *;simp -implicitDefEqProofs [ir_spec_l09Nullt_L4,ap,hli]
end
section
variable {p:Int}
theorem acs {O:am} {L:List Nat} (hL:L.length<1000000) {n w:Nat} {cp cl:Option Nat} {B OB:Blk}:∀(q k:Nat),k+q=L.length →
 dn O 1 (.loop ir_spec_l09Nullt_L5) ⟨[(0,(.d (.int .i64 p))),(2,.sl 0 [0] 0 n cp),(3,(.d (.int .i64 w))),(9,.sl 2 [] 0 L.length cl),(20,.sl 7 [] 0 w (some w)),(21,(.d (.int .i64 k)))],[B,.hole,.sl false .leaf (ldD L),.hole,.hole,.hole,.hole,OB]⟩ =
  some (.exit 10,⟨[(0,(.d (.int .i64 p))),(2,.sl 0 [0] 0 n cp),(3,(.d (.int .i64 w))),(9,.sl 2 [] 0 L.length cl),(20,.sl 7 [] 0 w (some w)),(21,(.d (.int .i64 (frL k (L.drop k))))),(158,(.d (.bool false)))],[B,.hole,.sl false .leaf (ldD L),.hole,.hole,.hole,.hole,OB]⟩)
 | 0,k,hk=>by
  obtain rfl:k=L.length:=by omega
  rw [fj];refine bu ?_;show _=some (_,(⟨[_,_,_,_,_,(21,(.d (.int .i64 L.length))),_],_⟩:St));have hlL:=vj L;generalize L.length=ll,ldD L=LD at *;simp -implicitDefEqProofs [ir_spec_l09Nullt_L5,ap]
 | q+1,k,hk=>by
  have hkl:k<L.length:=by omega
  have hki:(k:Int)<L.length:=by omega
  have hlL:=vj L;have hge:=a1r hkl;have w4:=wi k;rw [c8 hkl,frL]
  by_cases h:L[k]=k
  ·rw [if_pos h]
   refine bn ?_ (acs hL q (k+1) (by omega))
   rw [h] at hge;clear h;generalize L.length=ll,ldD L=LD at *;simp -implicitDefEqProofs [ir_spec_l09Nullt_L5,ap,hkl,hki,hlL,hge,w4]
  ·rw [if_neg h]
   refine bu ?_;have hn:¬ ((L[k]:Nat):Int)=k:=by omega
   clear h;generalize ((L[k]:Nat):Int)=lk at *;generalize L.length=ll,ldD L=LD at *;simp -implicitDefEqProofs [ir_spec_l09Nullt_L5,ap,hkl,hki,hlL,hge,hn]
end
section
variable {p:Int} [IsP p]
noncomputable def yb (w:Nat) (N:Tab p) (L:List Nat) (fr i:Nat):List (Fp p):=(List.range w).map fun j=>match plL j (L.take i) with
 | some k=>0-(N.getD k []).getD fr 0
 | none=>if j=fr then 1 else 0
theorem Uv (w:Nat) (N:Tab p) (L:List Nat) (fr i:Nat):(yb w N L fr i).length=w:=by unfold yb; rw [af,d8]
theorem a20 {w:Nat} {N:Tab p} {L:List Nat} {fr i:Nat} (hL:L.Nodup) (hi:i<L.length):(yb w N L fr i).set L[i] (0-(N.getD i []).getD fr 0)=yb w N L fr (i+1):=by
 have ht:L.take (i+1)=L.take i++[L[i]]:=br hi
 have hnm:L[i] ∉ L.take i:=by
  intro hm;obtain ⟨j,hj,e⟩:=List.mem_iff_getElem.1 hm;rw [ki] at e;have hji:j<i:=by simp at hj; omega
  exact List.pairwise_iff_getElem.1 hL j i (by omega) hi hji e
 have hlt:(L.take i).length=i:=by rw [b8]; omega
 apply ci;intro j;unfold yb;rw [List.getElem?_set]
 by_cases hj:L[i]=j
 ·rw [if_pos hj]
  subst hj;rw [af,d8]
  by_cases hw:L[i]<w
  ·rw [if_pos hw,cb,db hw,bc,ht,Wl,Es.2 hnm,hlt]
   simp
  ·rw [if_neg hw,cb,bq (by simpa using hw)]; rfl
 ·rw [if_neg hj,cb,cb]
  by_cases hw:j<w
  ·rw [db hw,bc,bc,ht,Wl,if_neg hj,Option.or_none]
  ·rw [bq (by simpa using hw)]; rfl
theorem a3b {w:Nat} {N:Tab p} {L:List Nat} {fr:Nat}:yb w N L fr 0=(List.replicate w (0:Fp p)).set fr 1:=by
 apply ci;intro j;unfold yb;rw [List.getElem?_set,cb,bt,gi]
 by_cases hw:j<w
 ·rw [db hw,bc,cx]
  by_cases hj:fr=j
  ·subst hj; simp [plL,hw]
  ·simp [plL,hj,f9 hj,hw]
 ·rw [bq (by simpa using hw)]
  by_cases hj:fr=j
  ·subst hj; simp [hw]
  ·simp [hj,hw]
theorem a68 {w:Nat} {N:Tab p} {L:List Nat} (h:frL 0 L≠w):yb w N L (frL 0 L) L.length=Cu w N L:=by
 unfold yb Cu;rw [if_neg h,iq]
 try exact List.map_congr_left fun j _=>by cases plL j L <;> rfl
theorem a5z {O:am} (hs:si O) {m:Fp p} (hml:m.len≤64) {n w:Nat} (hn:n<1000000) (hw:w<1000000) {N:Tab p} (hN:RM m n w N) {IX:List Nat} {RR:List (List D)} (hT:TbJ bo IX RR N) {L:List Nat} (hL:Inc w L) (hLn:L.length≤n) {fr:Nat} (hfr:fr<w) {cp cl:Option Nat}:∀(q i:Nat),i+q=L.length →
 dn O 1 (.loop ir_spec_l09Nullt_L6) ⟨[(0,(.d (.int .i64 p))),(2,.sl 0 [0] 0 n cp),(9,.sl 2 [] 0 L.length cl),(20,.sl 7 [] 0 w (some w)),(21,(.d (.int .i64 fr))),(22,(.d (.int .i64 i)))],[.tb false (.arr 64 .leaf) IX RR,.hole,.sl false .leaf (ldD L),.hole,.hole,.hole,.hole,.sl false (.arr 64 .leaf) ((yb w N L fr i).map bo)]⟩ =
  some (.exit 12,⟨[(0,(.d (.int .i64 p))),(2,.sl 0 [0] 0 n cp),(9,.sl 2 [] 0 L.length cl),(20,.sl 7 [] 0 w (some w)),(21,(.d (.int .i64 fr))),(22,(.d (.int .i64 L.length))),(172,(.d (.bool false)))],[.tb false (.arr 64 .leaf) IX RR,.hole,.sl false .leaf (ldD L),.hole,.hole,.hole,.hole,.sl false (.arr 64 .leaf) ((yb w N L fr L.length).map bo)]⟩)
 | 0,i,hi=>by
  obtain rfl:i=L.length:=by omega
  refine bu ?_;have hlL:=vj L;generalize L.length=ll,ldD L=LD,(yb w N L fr L.length).map bo=OP at *;simp -implicitDefEqProofs [ir_spec_l09Nullt_L6,ap]
 | q+1,i,hi=>by
  have hiL:i<L.length:=by omega
  have hil:(i:Int)<L.length:=by omega
  have hNl:=hN.1;have hiN:i<N.length:=by omega
  have hin:i<n:=by omega
  obtain ⟨hQ1,hQ2⟩:=hN.2 N[i] (az hiN);obtain ⟨r',hr',hR'⟩:=hT.get i _ (ac hiN);have hcQ:fr<N[i].length:=by omega
  have hxl:=hQ2 _ (az hcQ)
  have hgd:(N.getD i []).getD fr 0=N[i][fr]:=by
   rw [List.getD_eq_getElem?_getD (l:=N),ac hiN,Option.getD_some,List.getD_eq_getElem?_getD,ac hcQ]; rfl
  have e1:=hs p 0 N[i][fr] (by rw [Pol.len_zero]; omega) (by omega)
  rw [dj] at e1;have hst:=a20 (N:=N) (w:=w) (fr:=fr) hL.nodup hiL;rw [hgd] at hst;have hlw:=hL.2 _ (az hiL);have hlL:=vj L;have hge:=a1r hiL;have hIl:IX.length=n:=by rw [hT.len]; exact hNl
  have hri:∀h:i<IX.length,IX[i]'h=r':=fun h=>au ((ac h).symm.trans hr')
  have hQL:(N[i].map bo).length=w:=by rw [af]; exact hQ1
  have hxc:∀h:fr<(N[i].map bo).length,(N[i].map bo)[fr]'h=(D.arr 64 .leaf (aq .u8 (pad (row N[i][fr])))):=fun h=>by rw [bb]
  have hOL:((yb w N L fr i).map bo).length=w:=by rw [af,Uv]
  have hOi:L[i]<((yb w N L fr i).map bo).length:=by rw [hOL]; exact hlw
  have hsh:∀h:L[i]<((yb w N L fr i).map bo).length,(((yb w N L fr i).map bo)[L[i]]'h).sh=.arr 64 .leaf:=fun h=>by rw [bb]; rfl
  have w4:=wi i;refine bn ?_ (a5z hs hml hn hw hN hT hL hLn hfr q (i+1) (by omega))
  have hset:((yb w N L fr i).map bo).set L[i] (D.arr 64 .leaf (aq .u8 (pad (row (0-N[i][fr])))))=(yb w N L fr (i+1)).map bo:=by rw [←hst,dy]
  rw [←hset];clear hset;generalize ldD L=LD,(yb w N L fr i).map bo=OP at *;generalize pad (row (0-N[i][fr]))=P2 at *;generalize pad (row N[i][fr])=P1 at *;generalize N[i].map bo=QD at *;clear hst hL hi hLn hil;have hil:(i:Int)<L.length:=by omega
  have hl0:(0:Int)≤(L[i]:Nat):=by omega
  generalize L[i]=li at *;simp -implicitDefEqProofs [ir_spec_l09Nullt_L6,ap,hiL,hil,hin,hlL,hge,hIl,hri,hR',hQL,hxc,hfr,hOL,hlw,hsh,e1,w4]
end
noncomputable def G5 {p:Int} [IsP p] (m:Fp p) (w:Nat) (N:Tab p):List (Fp p):=Cu w (gau m w w 0 N []).1 (gau m w w 0 N []).2
def Rx (O:am):Prop:=∀(p:Int) [IsP p] (m:Fp p) (n w:Nat) (N:Tab p) (cp:Option Nat) (IX:List Nat) (RR:List (List D)),Fld m→n<1000000→w<1000000→RM m n w N→TbJ bo IX RR N→∃(IX':List Nat) (RR':List (List D)),
 O F49 [(.d (.int .i64 p)),.d (D.arr 64 .leaf (aq .u8 (pad (row m)))),.sl 0 [0] 0 n cp,(.d (.int .i64 w))] [.tb false (.arr 64 .leaf) IX RR]=some (.sl 1 [] 0 w (some w),[.tb false (.arr 64 .leaf) IX' RR'],[.sl false (.arr 64 .leaf) ((G5 m w N).map bo)])
theorem ab4 (hT:T F49=some ir_spec_l09Nullt) (hd:jw (den T A)) (hs:si (den T A)) (hmm:im (den T A)) (hin:zj (den T A)) (ho:Ma (den T A)):Rx (den T A):=by
 intro p ip m n w N cp IX RR hm hn hw hN hTb;have hml:=hm.five;obtain ⟨g1,g2,g3⟩:=Ev m hm.mon.2 w 0 N [] hN (Inc.nil 0) (fh _);rw [b9] at g2;obtain ⟨IX',RR',cl,c',hT',e1⟩:=W2 (O:=den T A) hd hs hmm hin hm hn hw (cp:=cp) w 0 N [] IX RR (some 0) (b9 _) hN hTb (fh _);have e00:((0:Nat):Int)=0:=rfl;have hl0:ldD []=[]:=rfl;rw [da,e00,hl0] at e1;refine ⟨IX',RR',pm hT rfl ?_⟩;unfold G5;generalize (gau m w w 0 N []).2=L,(gau m w w 0 N []).1=N' at *;have hLl:=g2.len;have hfl:=(a1g 0 L).2;rw [b9] at hfl;have e2:=acs (p:=p) (O:=den T A) (L:=L) (by omega) (n:=n) (w:=w) (cp:=cp) (cl:=cl) (B:=.tb false (.arr 64 .leaf) IX' RR') (OB:=.sl false (.arr 64 .leaf) (List.replicate w (D.arr 64 .leaf (aq .u8 (pad []))))) L.length 0 (b9 _)
 rw [dh,e00] at e2;have h64:w*64≤1099511627776:=by omega
 by_cases hf:frL 0 L=w
 ·have hov:(Cu w N' L).map bo=List.replicate w (D.arr 64 .leaf (aq .u8 (pad []))):=by
   unfold Cu; rw [if_pos hf,ew];show List.replicate w (D.arr 64 .leaf (aq .u8 (pad (row (0:Fp p)))))=_;rw [dj]
  rw [hov];rw [hf] at e2;generalize hz:List.replicate w (D.arr 64 .leaf (aq .u8 (pad [])))=OP at *;generalize pad (row m)=Pm,L.length=ll,ldD L=LD at *;simp -implicitDefEqProofs [ir_spec_l09Nullt,ir_spec_l09Nullt_B,ap,e1,e2,h64,hz]
 ·have e3:=a5z (O:=den T A) hs (m:=m) (by omega) hn hw g1 hT' g2 g3 (fr:=frL 0 L) (by omega) (cp:=cp) (cl:=cl) L.length 0 (b9 _)
  have e4:=ho p
  have hout:(yb w N' L (frL 0 L) 0).map bo=(List.replicate w (D.arr 64 .leaf (aq .u8 (pad [])))).set (frL 0 L) (D.arr 64 .leaf (aq .u8 (pad (row (1:Fp p))))):=by
   rw [a3b,dy,ew];show (List.replicate w (D.arr 64 .leaf (aq .u8 (pad (row (0:Fp p)))))).set _ _=_;rw [dj]
  rw [a68 hf,hout,e00] at e3;have hfw:frL 0 L<w:=by omega
  have hfi:(frL 0 L:Int)<w:=by omega
  have hfn:¬ (frL 0 L:Int)=w:=by omega
  have hOL:(List.replicate w (D.arr 64 .leaf (aq .u8 (pad [])))).length=w:=bt;have hsh:∀h:frL 0 L<(List.replicate w (D.arr 64 .leaf (aq .u8 (pad [])))).length,((List.replicate w (D.arr 64 .leaf (aq .u8 (pad []))))[frL 0 L]'h).sh=.arr 64 .leaf:=fun h=>by rw [List.getElem_replicate]; rfl
  generalize (Cu w N' L).map bo=OV at *;generalize hz:List.replicate w (D.arr 64 .leaf (aq .u8 (pad [])))=OP at *;generalize pad (row m)=Pm,pad (row (1:Fp p))=P1,L.length=ll,frL 0 L=fr,ldD L=LD at *;simp -implicitDefEqProofs [ir_spec_l09Nullt,ir_spec_l09Nullt_B,ap,e1,e2,e3,e4,h64,hfw,hfn,hOL,hsh,hz]
section
variable {p:Int} [IsP p]
theorem a82 {O:am} {m:Fp p} {n w c:Nat} (hn:n<1000000) (hc:c<w) {N:Tab p} (hN:RM m n w N) {IX:List Nat} {RR:List (List D)} (hT:TbJ bf IX RR N) {cp:Option Nat} {r:Nat} {F:D} {es:List (MK×Int)}:∀(q b:Nat),b+q=n →
 dn O 1 (.loop ir_impl_field_solutiont_L0) ⟨[(1,.sl 0 [0] 0 n cp),(2,.ptr 1 []),(5,(.d (.int .i64 w))),(6,.mp 2),(7,(.d (.int .i64 r))),(8,(.d (.int .i64 c))),(9,(.d (.int .i64 b)))],[.tb false .leaf IX RR,.box false F,.mp false es,.hole,.hole]⟩ =
  some (.exit 2,⟨[(1,.sl 0 [0] 0 n cp),(2,.ptr 1 []),(5,(.d (.int .i64 w))),(6,.mp 2),(7,(.d (.int .i64 r))),(8,(.d (.int .i64 c))),(9,(.d (.int .i64 (pvF N c q b)))),(52,(.d (.bool false)))],[.tb false .leaf IX RR,.box false F,.mp false es,.hole,.hole]⟩)
 | 0,b,hb=>by
  obtain rfl:b=n:=by omega
  refine bu ?_;show _=some (_,(⟨[_,_,_,_,_,_,(9,(.d (.int .i64 b))),_],_⟩:St));simp -implicitDefEqProofs [ir_impl_field_solutiont_L0,ap]
 | q+1,b,hb=>by
  have hNl:=hN.1;have hlt:b<n:=by omega
  have hbN:b<N.length:=by omega
  obtain ⟨hQ1,hQ2⟩:=hN.2 N[b] (az hbN);obtain ⟨r',hr,hR⟩:=hT.get b _ (ac hbN);have hIl:IX.length=n:=by rw [hT.len]; exact hNl
  have hri:∀h:b<IX.length,IX[b]'h=r':=fun h=>au ((ac h).symm.trans hr)
  have hcQ:c<N[b].length:=by omega
  have hgd:N[b].getD c 0=N[b][c]:=by rw [List.getD_eq_getElem?_getD,ac hcQ]; rfl
  have hQL:(N[b].map bf).length=w:=by rw [af]; exact hQ1
  have hxc:∀h:c<(N[b].map bf).length,(N[b].map bf)[c]'h=(D.sl .leaf (aq .i64 (row N[b][c]))):=fun h=>by rw [bb]
  have w4:=wi b;have hli:(b:Int)<n:=by omega
  have hg:(N[b]?).getD []=N[b]:=by rw [ac hbN]; rfl
  have hrl:=ca N[b][c]
  by_cases h:(N[b]).getD c 0=0
  ·have e:pvF N c (q+1) b=pvF N c q (b+1):=by rw [pvF,hg,if_pos h]
   rw [hgd] at h;have hl0:(N[b][c]).len=0:=by rw [h]; exact Pol.len_zero
   rw [hl0] at hrl;rw [e];refine bn ?_ (a82 hn hc hN hT q (b+1) (by omega))
   generalize row N[b][c]=Pc at *;generalize N[b].map bf=QD at *;simp -implicitDefEqProofs [ir_impl_field_solutiont_L0,ap,hlt,hli,hc,hIl,hri,hR,hQL,hxc,hrl,w4]
  ·have e:pvF N c (q+1) b=b:=by rw [pvF,hg,if_neg h]
   rw [hgd] at h;have hl0:(N[b][c]).len≠0:=fun hh=>h (Pol.len_zero_iff.1 hh)
   have hneg:¬ row N[b][c]=[]:=fun hh=>by rw [hh] at hrl; exact hl0 hrl.symm
   clear hrl;rw [e];refine bu ?_;generalize row N[b][c]=Pc at *;generalize N[b].map bf=QD at *;simp -implicitDefEqProofs [ir_impl_field_solutiont_L0,ap,hlt,hli,hc,hIl,hri,hR,hQL,hxc,hneg]
theorem acx {O:am} (hpr:jl O) {m f:Fp p} (hm:m≠0) (hml:m.len≤64) (hf:f.len<m.len) {n w c r rr:Nat} (hn:n<1000000) (hrn:r<n) (hw:w<1000000) {a:List (Fp p)} (hal:a.length=w) (ha:∀x∈a,x.len<m.len) {IX:List Nat} (hIl:IX.length=n) (hIr:IX[r]? = some rr) {RR:List (List D)} (hrr:rr<RR.length) {cp:Option Nat} {es:List (MK×Int)}:∀(q k:Nat),k+q=w →
 dn O 1 (.loop ir_impl_field_solutiont_L1) ⟨[(1,.sl 0 [0] 0 n cp),(2,.ptr 1 []),(5,(.d (.int .i64 w))),(6,.mp 2),(7,(.d (.int .i64 r))),(8,(.d (.int .i64 c))),(10,.d (D.sl .leaf (aq .i64 (row f)))),(82,(.d (.int .i64 w))),(83,(.d (.int .i64 k)))],[.tb false .leaf IX (RR.set rr ((scG m f k a).map bf)),.box false (fw m),.mp false es,.hole,.hole]⟩ =
  some (.exit 4,⟨[(1,.sl 0 [0] 0 n cp),(2,.ptr 1 []),(5,(.d (.int .i64 w))),(6,.mp 2),(7,(.d (.int .i64 r))),(8,(.d (.int .i64 c))),(10,.d (D.sl .leaf (aq .i64 (row f)))),(82,(.d (.int .i64 w))),(83,(.d (.int .i64 w))),(84,(.d (.bool false)))],[.tb false .leaf IX (RR.set rr ((scG m f w a).map bf)),.box false (fw m),.mp false es,.hole,.hole]⟩)
 | 0,k,hk=>by
  obtain rfl:k=w:=by omega
  refine bu ?_;show _=some (_,(⟨_,[.tb false .leaf IX (RR.set rr ((scG m f k a).map bf)),_,_,_,_]⟩:St));generalize row f=Pf,row m=Pm,RR.set rr ((scG m f k a).map bf)=LQ at *;simp -implicitDefEqProofs [ir_impl_field_solutiont_L1,ap]
 | q+1,k,hk=>by
  have hlt:k<w:=by omega
  have hka:k<a.length:=by omega
  have hak:=ha _ (az hka);have e1:=hpr p m a[k] f hm hml (by omega) (by omega)
  have hri:∀h:r<IX.length,IX[r]'h=rr:=fun h=>au ((ac h).symm.trans hIr)
  have hEL:((scG m f k a).map bf).length=w:=by rw [af,tm]; exact hal
  have hEg:∀h:k<((scG m f k a).map bf).length,((scG m f k a).map bf)[k]'h=(D.sl .leaf (aq .i64 (row a[k]))):=fun h=>au ((ac h).symm.trans (by rw [cb,a9j hka]; rfl))
  have hset:((scG m f k a).map bf).set k (D.sl .leaf (aq .i64 (row (a[k]*f%m))))=(scG m f (k+1) a).map bf:=by
   rw [←U4 hka,dy]
  have w4:=wi k;have ih:=acx hpr hm hml hf hn hrn hw hal ha hIl hIr hrr (c:=c) (cp:=cp) (es:=es) q (k+1) (by omega)
  refine bn ?_ ih;rw [←hset];have hli:(k:Int)<w:=by omega
  generalize row (a[k]*f%m)=P2 at *;generalize row a[k]=P1 at *;generalize row f=Pf,row m=Pm,(scG m f k a).map bf=EQ at *;simp -implicitDefEqProofs [ir_impl_field_solutiont_L1,ap,hlt,hli,hrn,hIl,hri,hrr,hEL,hEg,e1,w4]
theorem acf {O:am} (hco:jn O) (hpr:jl O) {m f:Fp p} (hm:m≠0) (hml:m.len≤64) (hf:f.len<m.len) {a:List (Fp p)} (ha:∀x∈a,x.len<m.len) {n w c r i rr r':Nat} (hn:n<1000000) (hrn:r<n) (hin:i<n) (hw:w<1000000) (hal:a.length=w) {IX:List Nat} (hIl:IX.length=n) (hIr:IX[r]? = some rr) (hIi:IX[i]? = some r') {RR:List (List D)} (hrr:RR[rr]? = some (a.map bf)) (hr':r'<RR.length) (hne:r'≠rr) (hir:(i:Int)≠r) {cp:Option Nat} {es:List (MK×Int)} {Q:List (Fp p)} (hQ:Q.length=w) (hQl:∀x∈Q,x.len<m.len):∀(q k:Nat),k+q=w →
 dn O 1 (.loop ir_impl_field_solutiont_L2) ⟨[(1,.sl 0 [0] 0 n cp),(2,.ptr 1 []),(5,(.d (.int .i64 w))),(6,.mp 2),(7,(.d (.int .i64 r))),(8,(.d (.int .i64 c))),(12,(.d (.int .i64 i))),(13,.d (D.sl .leaf (aq .i64 (row f)))),(104,(.d (.int .i64 n))),(105,(.d (.int .i64 i))),(115,(.d (.int .i64 w))),(116,(.d (.int .i64 k)))],[.tb false .leaf IX (RR.set r' ((elG m f a 0 k Q).map bf)),.box false (fw m),.mp false es,.hole,.hole]⟩ =
  some (.exit 8,⟨[(1,.sl 0 [0] 0 n cp),(2,.ptr 1 []),(5,(.d (.int .i64 w))),(6,.mp 2),(7,(.d (.int .i64 r))),(8,(.d (.int .i64 c))),(12,(.d (.int .i64 i))),(13,.d (D.sl .leaf (aq .i64 (row f)))),(104,(.d (.int .i64 n))),(105,(.d (.int .i64 i))),(115,(.d (.int .i64 w))),(116,(.d (.int .i64 w))),(117,(.d (.bool false)))],[.tb false .leaf IX (RR.set r' ((elG m f a 0 w Q).map bf)),.box false (fw m),.mp false es,.hole,.hole]⟩)
 | 0,k,hk=>by
  obtain rfl:k=w:=by omega
  refine bu ?_;show _=some (_,(⟨_,[.tb false .leaf IX (RR.set r' ((elG m f a 0 k Q).map bf)),_,_,_,_]⟩:St));generalize row f=Pf,row m=Pm,RR.set r' ((elG m f a 0 k Q).map bf)=LQ at *;simp -implicitDefEqProofs [ir_impl_field_solutiont_L2,ap]
 | q+1,k,hk=>by
  have hlt:k<w:=by omega
  have hka:k<a.length:=by omega
  have hkQ:k<Q.length:=by omega
  have hak:=ha _ (az hka);have hQk:=hQl _ (az hkQ);have e1:=hpr p m f a[k] hm hml (by omega) (by omega)
  have hmod:=Pol.len_mod (f*a[k]) hm;have e2:=hco p Q[k] (f*a[k]%m) (by omega) (by omega)
  have hri:∀h:r<IX.length,IX[r]'h=rr:=fun h=>au ((ac h).symm.trans hIr)
  have hii:∀h:i<IX.length,IX[i]'h=r':=fun h=>au ((ac h).symm.trans hIi)
  have hEL:((elG m f a 0 k Q).map bf).length=w:=by rw [af,yz]; exact hQ
  have hEg:∀h:k<((elG m f a 0 k Q).map bf).length,((elG m f a 0 k Q).map bf)[k]'h=(D.sl .leaf (aq .i64 (row Q[k]))):=fun h=>au ((ac h).symm.trans (by rw [cb,a4i hkQ]; rfl))
  have hAg:∀h:k<(a.map bf).length,(a.map bf)[k]'h=(D.sl .leaf (aq .i64 (row a[k]))):=fun h=>by rw [bb]
  have hAL:(a.map bf).length=w:=by rw [af]; exact hal
  have hset:((elG m f a 0 k Q).map bf).set k (D.sl .leaf (aq .i64 (row (Q[k]-f*a[k]%m))))=(elG m f a 0 (k+1) Q).map bf:=by
   rw [←Tp (fh k) hkQ hka,dy]
  have w4:=wi k;have ih:=acf hco hpr hm hml hf ha hn hrn hin hw hal hIl hIr hIi hrr hr' hne hir (c:=c) (cp:=cp) (es:=es) hQ hQl q (k+1) (by omega)
  refine bn ?_ ih;rw [←hset];have hli:(k:Int)<w:=by omega
  generalize row (Q[k]-f*a[k]%m)=P3 at *;generalize row (f*a[k]%m)=P2 at *;generalize row Q[k]=P1 at *;generalize row a[k]=P0 at *;generalize row f=Pf,row m=Pm,a.map bf=AD,(elG m f a 0 k Q).map bf=EQ at *;simp -implicitDefEqProofs [ir_impl_field_solutiont_L2,ap,hlt,hli,hrn,hin,hIl,hri,hii,hrr,hr',hne,hir,hEL,hEg,hAg,hAL,e1,e2,w4]
end
section
variable {p:Int}
theorem a4n {O:am} {n w c i:Nat} (hw:w<1000000) {f m:Fp p} {B:Blk} {cp:Option Nat} {es:List (MK×Int)}:∀(q k:Nat),k+q=w →
 dn O 1 (.loop ir_impl_field_solutiont_L2) ⟨[(1,.sl 0 [0] 0 n cp),(2,.ptr 1 []),(5,(.d (.int .i64 w))),(6,.mp 2),(7,(.d (.int .i64 i))),(8,(.d (.int .i64 c))),(12,(.d (.int .i64 i))),(13,.d (D.sl .leaf (aq .i64 (row f)))),(104,(.d (.int .i64 n))),(105,(.d (.int .i64 i))),(115,(.d (.int .i64 w))),(116,(.d (.int .i64 k)))],[B,.box false (fw m),.mp false es,.hole,.hole]⟩ =
  some (.exit 8,⟨[(1,.sl 0 [0] 0 n cp),(2,.ptr 1 []),(5,(.d (.int .i64 w))),(6,.mp 2),(7,(.d (.int .i64 i))),(8,(.d (.int .i64 c))),(12,(.d (.int .i64 i))),(13,.d (D.sl .leaf (aq .i64 (row f)))),(104,(.d (.int .i64 n))),(105,(.d (.int .i64 i))),(115,(.d (.int .i64 w))),(116,(.d (.int .i64 w))),(117,(.d (.bool false)))],[B,.box false (fw m),.mp false es,.hole,.hole]⟩)
 | 0,k,hk=>by
  obtain rfl:k=w:=by omega
  refine bu ?_;generalize row f=Pf,row m=Pm at *;simp -implicitDefEqProofs [ir_impl_field_solutiont_L2,ap]
 | q+1,k,hk=>by
  have hli:(k:Int)<w:=by omega
  have w4:=wi k;refine bn ?_ (a4n hw q (k+1) (by omega))
  generalize row f=Pf,row m=Pm at *;simp -implicitDefEqProofs [ir_impl_field_solutiont_L2,ap,hli,w4]
end
section
variable {p:Int} [IsP p]
theorem Xx {O:am} (hco:jn O) (hpr:jl O) {m:Fp p} (hm:m≠0) (hml:m.len≤64) {n w c r rr:Nat} (hn:n<1000000) (hw:w<1000000) {N:Tab p} (hN:RM m n w N) {a:List (Fp p)} (hc:c<w) (hrn:r<n) (hca:N[r]? = some a) {IX:List Nat} (hr:IX[r]? = some rr) {cp:Option Nat} {es:List (MK×Int)}:∀(q i:Nat) (RR:List (List D)),i+q=n→TbJ bf IX RR (elR m a c w r i N)→∃RR',TbJ bf IX RR' (elR m a c w r n N) ∧
 dn O 1 (.loop ir_impl_field_solutiont_L3) ⟨[(1,.sl 0 [0] 0 n cp),(2,.ptr 1 []),(5,(.d (.int .i64 w))),(6,.mp 2),(7,(.d (.int .i64 r))),(8,(.d (.int .i64 c))),(104,(.d (.int .i64 n))),(105,(.d (.int .i64 i)))],[.tb false .leaf IX RR,.box false (fw m),.mp false es,.hole,.hole]⟩ =
  some (.exit 6,⟨[(1,.sl 0 [0] 0 n cp),(2,.ptr 1 []),(5,(.d (.int .i64 w))),(6,.mp 2),(7,(.d (.int .i64 r))),(8,(.d (.int .i64 c))),(104,(.d (.int .i64 n))),(105,(.d (.int .i64 n))),(106,(.d (.bool false)))],[.tb false .leaf IX RR',.box false (fw m),.mp false es,.hole,.hole]⟩)
 | 0,i,RR,hi,hT=>by
  obtain rfl:i=n:=by omega
  refine ⟨RR,hT,bu ?_⟩;generalize row m=Pm at *;simp -implicitDefEqProofs [ir_impl_field_solutiont_L3,ap]
 | q+1,i,RR,hi,hT=>by
  have hNl:=hN.1;have hiN:i<N.length:=by omega
  have hlt:i<n:=by omega
  obtain ⟨hQ1,hQ2⟩:=hN.2 N[i] (az hiN);obtain ⟨ha1,ha2⟩:=hN.2 a (dl hca);obtain ⟨r',hr',hR'⟩:=hT.get i _ (a4r hiN);have hrN:r<N.length:=by omega
  have hNr:N[r]=a:=au ((ac hrN).symm.trans hca);obtain ⟨r2,hr2,hR⟩:=hT.get r a (by rw [ac8 hrN,hNr])
  obtain rfl:rr=r2:=au (hr.symm.trans hr2);have hrl':r'<RR.length:=(ao.1 hR').1;have hcQ:c<N[i].length:=by omega
  have hQc:=hQ2 _ (az hcQ);have hgd:N[i].getD c 0=N[i][c]:=by rw [List.getD_eq_getElem?_getD,ac hcQ]; rfl
  have hQL:(N[i].map bf).length=w:=by rw [af]; exact hQ1
  have hxc:∀h:c<(N[i].map bf).length,(N[i].map bf)[c]'h=(D.sl .leaf (aq .i64 (row N[i][c]))):=fun h=>by rw [bb]
  have hIl:IX.length=n:=by rw [hT.len,ti]; exact hNl
  have hri:∀h:i<IX.length,IX[i]'h=r':=fun h=>au ((ac h).symm.trans hr')
  have w4:=wi i;have hli:(i:Int)<n:=by omega
  have e00:((0:Nat):Int)=0:=rfl
  by_cases hir:i=r
  ·subst hir
   rw [Sj] at hT;obtain ⟨RR',hT',ih⟩:=Xx hco hpr hm hml hn hw hN hc hrn hca hr (cp:=cp) (es:=es) q (i+1) RR (by omega) hT
   refine ⟨RR',hT',bn ?_ ih⟩;have e2:=a4n (O:=O) (n:=n) (c:=c) (i:=i) (f:=N[i][c]) (m:=m) (B:=.tb false .leaf IX RR) (cp:=cp) (es:=es) hw w 0 (b9 _);rw [e00] at e2;generalize row N[i][c]=Pc at *;generalize N[i].map bf=QD at *;generalize row m=Pm at *;simp -implicitDefEqProofs [ir_impl_field_solutiont_L3,ap,hlt,hli,hc,hIl,hri,hR',hQL,hxc,e2,w4]
  ·have hne:r'≠rr:=fun e=>hir (hT.inj i r r' hr' (by rw [e]; exact hr))
   have hiri:(i:Int)≠r:=by omega
   have e2:=acf (O:=O) hco hpr hm hml hQc ha2 (n:=n) (c:=c) (r:=r) (i:=i) (cp:=cp) (IX:=IX) (es:=es) hn hrn hlt hw ha1 hIl hr hr' hR hrl' hne hiri hQ1 hQ2 w 0 (b9 _)
   have hself:RR.set r' (N[i].map bf)=RR:=by
    obtain ⟨h1,h2⟩:=ao.1 hR';rw [←h2,List.set_getElem_self]
   rw [Nu,hself,e00] at e2;have hT2:=hT.set (by rw [ti]; exact hiN) hr' (elG m N[i][c] a 0 w N[i])
   rw [←hgd,Tf hiN hir,hgd] at hT2;obtain ⟨RR',hT',ih⟩:=Xx hco hpr hm hml hn hw hN hc hrn hca hr (cp:=cp) (es:=es) q (i+1) _ (by omega) hT2
   refine ⟨RR',hT',bn ?_ ih⟩;generalize RR.set r' ((elG m N[i][c] a 0 w N[i]).map bf)=R2 at *;generalize row N[i][c]=Pc at *;generalize N[i].map bf=QD at *;generalize row m=Pm at *;simp -implicitDefEqProofs [ir_impl_field_solutiont_L3,ap,hlt,hli,hc,hIl,hri,hR',hQL,hxc,e2,w4]
end
def pvE:Nat→List Nat→List (MK×Int)
 | _,[]=>[]
 | s,c::L=>(.i (c:Int),(s:Int))::pvE (s+1) L
theorem a0m:∀(s:Nat) (L:List Nat) (c:Nat),pvE s (L++[c])=pvE s L++[(.i (c:Int),((s+L.length:Nat):Int))]
 | s,[],c=>rfl
 | s,d::L,c=>by
  rw [cz,pvE,a0m (s+1) L c,pvE,bv,show s+1+L.length=s+(L.length+1) by omega]; rfl
theorem Ed:∀(s:Nat) (L:List Nat),gr false (pvE s L)=true
 | _,[]=>rfl
 | s,c::L=>by
  have:=Ed (s+1) L;unfold gr at this ⊢;rw [pvE,List.all_cons,this]; rfl
theorem Vl (k:Nat):∀(s:Nat) (L:List Nat),ml (.i (k:Int)) (pvE s L)=(plL k L).map fun i=>((s+i:Nat):Int)
 | _,[]=>rfl
 | s,c::L=>by
  have hs:MK.same (.i (k:Int)) (.i (c:Int))=decide (c=k):=by
   simp only [MK.same];exact decide_eq_decide.2 ⟨fun h=>by omega,fun h=>by omega⟩
  rw [pvE,ml,hs,plL,Vl k (s+1) L]
  by_cases h:c=k
  ·simp [h]
  ·simp only [h,decide_false,b5,if_false]
   cases plL k L with
   | none=>rfl
   | some i=>simp only [bc]; congr 2; omega
theorem Yv {k:Nat} (v:Int):∀{s:Nat} {L:List Nat},k ∉ L→nv (.i (k:Int)) v (pvE s L)=pvE s L++[(.i (k:Int),v)]
 | _,[],_=>rfl
 | s,c::L,h=>by
  have hs:MK.same (.i (k:Int)) (.i (c:Int))=false:=by
   simp only [MK.same,decide_eq_false_iff_not];intro e;exact h (by simp; left; omega)
  rw [pvE,nv,hs,Yv v (fun hm=>h (by simp [hm]))]
  rfl
theorem a02 {x:MK×Int}:∀{s:Nat} {L:List Nat},x∈pvE s L→∃(i:Nat) (h:i<L.length),x=(.i ((L[i]:Nat):Int),((s+i:Nat):Int))
 | _,[],h=>by simp [pvE] at h
 | s,c::L,h=>by
  rw [pvE,dp] at h;rcases h with rfl | h
  ·exact ⟨0,by simp,rfl⟩
  ·obtain ⟨i,hi,rfl⟩:=a02 h
   exact ⟨i+1,by simpa using hi,by simp only [List.getElem_cons_succ]; rw [show s+1+i=s+(i+1) by omega]⟩
theorem Mx:∀(s:Nat) (L:List Nat),(pvE s L).map (·.1)=L.map fun c:Nat=>MK.i (c:Int)
 | _,[]=>rfl
 | s,c::L=>by rw [pvE,gq,Mx (s+1) L]; rfl
theorem a2d {s:Nat} {L:List Nat} (h:L.Nodup):((pvE s L).map (·.1)).Nodup:=by
 rw [Mx];refine List.Pairwise.map _ (fun a b hab e=>hab ?_) h
 simp only [MK.i.injEq] at e;omega
def Jx (O:am):Prop:=∀(p:Int) [IsP p] (a:Fp p),a.len<1000000→ask O F1h [(D.int .i64 p),(D.sl .leaf (aq .i64 (row a))),(D.int .i64 (-1))]=some (D.sl .leaf (aq .i64 (row (0-a))))
theorem acz {O:am} (h:sy O):Jx O:=fun p i a ha=>by
 rw [h p (-1) a (by omega) (by omega) ha]
 have e:Pol.C (zp p (-1))*a=0-a:=by
  rw [←Ao 0 a];exact cu [Pol.C (zp p (-1)),a] rfl
 rw [e]
section
variable {p:Int} [IsP p]
theorem ac2 {O:am} (hco:jn O) (hpr:jl O) (hin:rx O) {m:Fp p} (hm:Fld m) {n w c b:Nat} (hn:n<1000000) (hw:w<1000000) {N:Tab p} (hN:RM m n w N) (hc:c<w) {L:List Nat} (hcL:c ∉ L) (hL:L.length<n) (hb:b<n) {IX:List Nat} {RR:List (List D)} (hT:TbJ bf IX RR N) {cp:Option Nat}
 (hpv:dn O 1 (.loop ir_impl_field_solutiont_L0) ⟨[(1,.sl 0 [0] 0 n cp),(2,.ptr 1 []),(5,(.d (.int .i64 w))),(6,.mp 2),(7,(.d (.int .i64 L.length))),(8,(.d (.int .i64 c))),(9,(.d (.int .i64 L.length)))],[.tb false .leaf IX RR,.box false (fw m),.mp false (pvE 0 L),.hole,.hole]⟩ =
  some (.exit 2,⟨[(1,.sl 0 [0] 0 n cp),(2,.ptr 1 []),(5,(.d (.int .i64 w))),(6,.mp 2),(7,(.d (.int .i64 L.length))),(8,(.d (.int .i64 c))),(9,(.d (.int .i64 b))),(52,(.d (.bool false)))],[.tb false .leaf IX RR,.box false (fw m),.mp false (pvE 0 L),.hole,.hole]⟩)):∃IX' RR',TbJ bf IX' RR' (pivS m c w L.length b N) ∧
 dn O 1 ir_impl_field_solutiont_L4 ⟨[(1,.sl 0 [0] 0 n cp),(2,.ptr 1 []),(5,(.d (.int .i64 w))),(6,.mp 2),(7,(.d (.int .i64 L.length))),(8,(.d (.int .i64 c)))],[.tb false .leaf IX RR,.box false (fw m),.mp false (pvE 0 L),.hole,.hole]⟩ =
  some (.normal,⟨[(1,.sl 0 [0] 0 n cp),(2,.ptr 1 []),(5,(.d (.int .i64 w))),(6,.mp 2),(7,(.d (.int .i64 (((L.length+1:Nat):Int))))),(8,(.d (.int .i64 (((c+1:Nat):Int)))))],[.tb false .leaf IX' RR',.box false (fw m),.mp false (pvE 0 L++[(.i (c:Int),(L.length:Int))]),.hole,.hole]⟩):=by
 have hml:=hm.five;have hm0:=hm.mon.2;have hNl:=hN.1;have hbN:b<N.length:=by omega
 have hrN:L.length<N.length:=by omega
 obtain ⟨hQ1,hQ2⟩:=hN.2 N[b] (az hbN);have hcQ:c<N[b].length:=by omega
 have hgd:N[b].getD c 0=N[b][c]:=by rw [List.getD_eq_getElem?_getD,ac hcQ]; rfl
 have hxl:=hQ2 _ (az hcQ);have e3:=hin p m N[b][c] hm0 (by omega) (by omega)
 have hivl:(jp m N[b][c]).len<m.len:=Pol.len_mod _ hm0;obtain ⟨rb,hrb,hRb⟩:=hT.get b _ (ac hbN);obtain ⟨rc,hrc,hRc⟩:=hT.get L.length _ (ac hrN);have hsw:=hT.swap hrN hbN hrc hrb;have hSw:=hN.swap hrN hbN;have hIl:IX.length=n:=by rw [hT.len]; exact hNl
 have hsc:(IX.set L.length rb).set b rc=(IX.set b rc).set L.length rb:=by
  by_cases hbr:L.length=b
  ·subst hbr
   obtain rfl:rb=rc:=au (hrb.symm.trans hrc);rfl
  ·exact List.set_comm _ _ hbr
 rw [←hsc] at hsw
 have hIX':((IX.set L.length rb).set b rc)[L.length]? = some rb:=by
  rw [hsc]; exact b4 (by rw [bx]; omega)
 have hIl':((IX.set L.length rb).set b rc).length=n:=by rw [bx,bx]; exact hIl
 have hrl:rb<RR.length:=(ao.1 hRb).1;have e4:=acx (O:=O) hpr hm0 (by omega) hivl (c:=c) (cp:=cp) (es:=pvE 0 L) hn hL hw hQ1 hQ2 hIl' hIX' hrl w 0 (b9 _)
 have hself:RR.set rb (N[b].map bf)=RR:=by
  obtain ⟨h1,h2⟩:=ao.1 hRb;rw [←h2,List.set_getElem_self]
 have e00:((0:Nat):Int)=0:=rfl;rw [Su,hself,e00] at e4;have hT2:=hsw.set (by rw [pj]; exact hrN) hIX' (scG m (jp m N[b][c]) w N[b])
 have hN2:=hSw.set (i:=L.length) (by rw [tm]; exact hQ1) (Oz (f:=jp m N[b][c]) (k:=w) hm0 hQ2)
 have hca:((swp N L.length b hrN hbN).set L.length (scG m (jp m N[b][c]) w N[b]))[L.length]? = some (scG m (jp m N[b][c]) w N[b]):=b4 (by rw [pj]; exact hrN)
 obtain ⟨RR',hT3,e5⟩:=Xx (O:=O) hco hpr hm0 (by omega) hn hw hN2 hc hL hca hIX' (cp:=cp) (es:=pvE 0 L) n 0 _ (b9 _) (by rw [T6]; exact hT2)
 rw [e00] at e5;refine ⟨_,RR',by rw [Yz hrN hbN,hgd,hNl]; exact hT3,?_⟩
 have w4:=wi c;have w5:=wi L.length;have hli:(c:Int)<w:=by omega
 have hLi:(L.length:Int)<n:=by omega
 have hbz:¬ (b:Int)=n:=by omega
 have hrib:∀h:b<IX.length,IX[b]'h=rb:=fun h=>au ((ac h).symm.trans hrb)
 have hric:∀h:L.length<IX.length,IX[L.length]'h=rc:=fun h=>au ((ac h).symm.trans hrc)
 have hrir:∀h:L.length<((IX.set L.length rb).set b rc).length,((IX.set L.length rb).set b rc)[L.length]'h=rb:=fun h=>au ((ac h).symm.trans hIX')
 have hQL:(N[b].map bf).length=w:=by rw [af]; exact hQ1
 have hxc:∀h:c<(N[b].map bf).length,(N[b].map bf)[c]'h=(D.sl .leaf (aq .i64 (row N[b][c]))):=fun h=>by rw [bb]
 have hRcL:(N[L.length].map bf).length=w:=by rw [af]; exact (hN.2 N[L.length] (az hrN)).1
 have hput:=Yv (k:=c) (L.length:Int) (s:=0) hcL;have hkd:=Ed 0 L;have hw0:0<w:=by omega
 generalize pvE 0 L=E0,pvE 0 L++[(MK.i (c:Int),(L.length:Int))]=E1,((L.length+1:Nat):Int)=z2,((c+1:Nat):Int)=z1 at *;clear hcL;generalize hll:L.length=ll at *;generalize RR.set rb ((scG m (jp m N[b][c]) w N[b]).map bf)=R2 at *;generalize row (jp m N[b][c])=Pi at *;generalize row N[b][c]=Pc at *;generalize N[b].map bf=QD at *;generalize N[ll].map bf=QC at *;have hf:∀a:Fp p,fw a=.st [.leaf,.leaf] [.int .i64 p,(D.sl .leaf (aq .i64 (row a)))]:=fun _=>rfl
 generalize row m=Pm at *;simp -implicitDefEqProofs [ir_impl_field_solutiont_L4,ap,hL,hb,hc,hli,hLi,hbz,hIl,hIl',hrib,hric,hrir,hRb,hRc,hQL,hRcL,hxc,hpv,e3,e4,e5,w4,w5,hw0,hput,hkd]
end
section
variable {p:Int} [IsP p]
theorem We {O:am} (hco:jn O) (hpr:jl O) (hin:rx O) {m:Fp p} (hm:Fld m) {n w:Nat} (hn:n<1000000) (hw:w<1000000) {cp:Option Nat}:∀(q c:Nat) (N:Tab p) (L:List Nat) (IX:List Nat) (RR:List (List D)),c+q=w→RM m n w N→TbJ bf IX RR N→Inc c L→L.length≤n→∃(IX':List Nat) (RR':List (List D)) (c':Nat),TbJ bf IX' RR' (gau m w q c N L).1 ∧
 dn O 1 (.loop ir_impl_field_solutiont_L4) ⟨[(1,.sl 0 [0] 0 n cp),(2,.ptr 1 []),(5,(.d (.int .i64 w))),(6,.mp 2),(7,(.d (.int .i64 L.length))),(8,(.d (.int .i64 c)))],[.tb false .leaf IX RR,.box false (fw m),.mp false (pvE 0 L),.hole,.hole]⟩ =
  some (.exit 0,⟨[(1,.sl 0 [0] 0 n cp),(2,.ptr 1 []),(5,(.d (.int .i64 w))),(6,.mp 2),(7,(.d (.int .i64 ((gau m w q c N L).2.length)))),(8,(.d (.int .i64 c'))),(34,(.d (.bool false)))],[.tb false .leaf IX' RR',.box false (fw m),.mp false (pvE 0 (gau m w q c N L).2),.hole,.hole]⟩)
 | 0,c,N,L,IX,RR,hc,hN,hT,hI,hL=>by
  obtain rfl:c=w:=by omega
  refine ⟨IX,RR,c,hT,bu ?_⟩;show _=some (_,(⟨[_,_,_,_,(7,(.d (.int .i64 L.length))),_,_],[_,_,.mp false (pvE 0 L),_,_]⟩:St));generalize pvE 0 L=E0 at *;have hf:∀a:Fp p,fw a=.st [.leaf,.leaf] [.int .i64 p,(D.sl .leaf (aq .i64 (row a)))]:=fun _=>rfl
  generalize row m=Pm at *;simp -implicitDefEqProofs [ir_impl_field_solutiont_L4,ap]
 | q+1,c,N,L,IX,RR,hc,hN,hT,hI,hL=>by
  have hml:=hm.five;have hNl:=hN.1;have hlt:c<w:=by omega
  have hli:(c:Int)<w:=by omega
  by_cases hLn:L.length<n
  ·have hLi:(L.length:Int)<n:=by omega
   obtain ⟨q1,q2,q3,q4⟩:=Jv N c (n-L.length) L.length (by omega)
   have e1:=a82 (O:=O) (m:=m) hn hlt hN hT (cp:=cp) (r:=L.length) (F:=fw m) (es:=pvE 0 L) (n-L.length) L.length (by omega)
   by_cases hb:pvF N c (N.length-L.length) L.length<N.length
   ·have hg:gau m w (q+1) c N L=gau m w q (c+1) (pivS m c w L.length (pvF N c (N.length-L.length) L.length) N) (L++[c]):=by
     rw [gau,if_pos (by omega),if_pos hb]
    rw [hg];rw [hNl] at hb ⊢;generalize pvF N c (n-L.length) L.length=b at *;have hcL:c ∉ L:=fun h=>Nat.lt_irrefl _ (hI.2 c h)
    obtain ⟨IX1,RR1,hT1,e2⟩:=ac2 hco hpr hin hm hn hw hN hlt hcL hLn hb hT e1;have hap:=a0m 0 L c;rw [b9] at hap;rw [←hap] at e2;have hl1:(L++[c]).length=L.length+1:=by simp
    obtain ⟨IX2,RR2,c2,hT2,ih⟩:=We hco hpr hin hm hn hw (cp:=cp) q (c+1) _ (L++[c]) IX1 RR1 (by omega) (hN.pivS hm.mon.2) hT1 hI.app (by omega)
    rw [hl1] at ih;exact ⟨IX2,RR2,c2,hT2,bn e2 ih⟩
   ·have hg:gau m w (q+1) c N L=gau m w q (c+1) N L:=by
     rw [gau,if_pos (by omega),if_neg hb]
    rw [hg];rw [hNl] at hb q2;have hbe:pvF N c (n-L.length) L.length=n:=by omega
    rw [hbe] at e1;obtain ⟨IX2,RR2,c2,hT2,ih⟩:=We hco hpr hin hm hn hw (cp:=cp) q (c+1) N L IX RR (by omega) hN hT hI.up hL
    refine ⟨IX2,RR2,c2,hT2,bn ?_ ih⟩;have w4:=wi c;generalize L.length=ll,pvE 0 L=E0,((c+1:Nat):Int)=z1 at *;have hf:∀a:Fp p,fw a=.st [.leaf,.leaf] [.int .i64 p,(D.sl .leaf (aq .i64 (row a)))]:=fun _=>rfl
    generalize row m=Pm at *;simp -implicitDefEqProofs [ir_impl_field_solutiont_L4,ap,hli,hLi,e1,w4]
  ·have hLe:L.length=n:=by omega
   have hg:gau m w (q+1) c N L=(N,L):=by rw [gau,if_neg (by omega)]
   rw [hg];refine ⟨IX,RR,c,hT,bu ?_⟩;show _=some (_,(⟨[_,_,_,_,(7,(.d (.int .i64 L.length))),_,_],[_,_,.mp false (pvE 0 L),_,_]⟩:St));generalize pvE 0 L=E0 at *;rw [hLe];generalize row m=Pm at *;simp -implicitDefEqProofs [ir_impl_field_solutiont_L4,ap,hli]
noncomputable def yh (w:Nat) (N:Tab p) (L:List Nat) (fr:Nat) (rem:List (MK×Int)):List (Fp p):=(List.range w).map fun j=>match plL j L with
 | some k=>if (rem.any fun x=>x.1.same (.i (j:Int)))=true then 0 else 0-(N.getD k []).getD fr 0
 | none=>if j=fr then 1 else 0
theorem U8 (w:Nat) (N:Tab p) (L:List Nat) (fr:Nat) (rem:List (MK×Int)):(yh w N L fr rem).length=w:=by unfold yh; rw [af,d8]
theorem a4b {w:Nat} {N:Tab p} {L:List Nat} (h:frL 0 L≠w):yh w N L (frL 0 L) []=Cu w N L:=by
 unfold yh Cu;rw [if_neg h]
 try exact List.map_congr_left fun j _=>by cases plL j L <;> rfl
theorem a4f {w:Nat} {N:Tab p} {L:List Nat} {fr:Nat} (hf:fr ∉ L):yh w N L fr (pvE 0 L)=(List.replicate w (0:Fp p)).set fr 1:=by
 apply ci;intro j;unfold yh;rw [List.getElem?_set,cb,bt,gi]
 by_cases hw:j<w
 ·rw [db hw,bc]
  cases hp:plL j L with
  | none=>
   by_cases hj:fr=j
   ·subst hj; simp [hw]
   ·simp [hj,f9 hj,hw]
  | some k=>
   have hk:=Qf hp;have hjL:=dl hk;have hj:fr≠j:=fun e=>hf (e▸hjL)
   have hany:((pvE 0 L).any fun x=>x.1.same (.i (j:Int)))=true:=by
    rw [List.any_eq_true];have hm:MK.i (j:Int)∈(pvE 0 L).map (·.1):=by rw [Mx]; exact gu hjL
    obtain ⟨x,hx,e⟩:=cn.1 hm;exact ⟨x,hx,by rw [e]; simp [MK.same]⟩
   simp [hany,hj,hw]
 ·rw [bq (by simpa using hw)]
  by_cases hj:fr=j
  ·subst hj; simp [hw]
  ·simp [hj,hw]
theorem a43 {w:Nat} {N:Tab p} {L:List Nat} {fr i:Nat} (hL:L.Nodup) (hi:i<L.length) {l r:List (MK×Int)} {v:Int} (hnd:((l++(MK.i (L[i]:Int),v)::r).map (·.1)).Nodup):(yh w N L fr (l++(MK.i (L[i]:Int),v)::r)).set L[i] (0-(N.getD i []).getD fr 0)=yh w N L fr (l++r):=by
 have hpi:plL L[i] L=some i:=by
  cases hp:plL L[i] L with
  | none=>exact absurd (az hi) (Es.1 hp)
  | some k=>
   have hk:=Qf hp;have hkl:=(ao.1 hk).1;have hke:=(ao.1 hk).2
   congr 1
   rcases jd k i with h | h | h
   ·exact absurd hke (List.pairwise_iff_getElem.1 hL k i hkl hi h)
   ·exact h
   ·exact absurd hke.symm (List.pairwise_iff_getElem.1 hL i k hi hkl h)
 have hne:∀x∈l++r,x.1≠MK.i (L[i]:Int):=by
  intro x hx e;rw [cj,gq,List.nodup_append] at hnd;obtain ⟨_,h2,h3⟩:=hnd;rcases bp.1 hx with hx | hx
  ·exact h3 x.1 (gu hx) _ (by simp) e
  ·have hm:=gu (f:=fun x:MK×Int=>x.1) hx
   have hm2:MK.i (L[i]:Int)∈r.map fun x:MK×Int=>x.1:=by rw [←e]; exact hm
   exact (jh.1 h2).1 hm2
 apply ci;intro j;unfold yh;rw [List.getElem?_set,af,d8]
 by_cases hj:L[i]=j
 ·rw [if_pos hj]
  subst hj
  by_cases hw:L[i]<w
  ·have hany:((l++r).any fun x=>x.1.same (.i ((L[i]:Nat):Int)))=false:=by
    rw [List.any_eq_false];intro x hx e;exact hne x hx ((a0k _ _).1 e)
   rw [if_pos hw,cb,db hw,bc,hpi];simp [hany]
  ·rw [if_neg hw,cb,bq (by simpa using hw)]; rfl
 ·rw [if_neg hj,cb,cb]
  by_cases hw:j<w
  ·have hs:MK.same (.i ((L[i]:Nat):Int)) (.i (j:Int))=false:=by
    simp only [MK.same,decide_eq_false_iff_not];omega
   rw [db hw,bc,bc]
   congr 1
   cases plL j L with
   | none=>rfl
   | some k=>
    have ha:((l++(MK.i (L[i]:Int),v)::r).any fun x=>x.1.same (.i (j:Int)))=((l++r).any fun x=>x.1.same (.i (j:Int))):=by
     rw [List.any_append,oz,List.any_append,hs,Bool.false_or]
    simp only [ha]
  ·rw [bq (by simpa using hw)]; rfl
noncomputable abbrev V1 (n w:Nat) (cp:Option Nat) (fr:Nat) (IX:List Nat) (RR:List (List D)) (m:Fp p) (O:List (Fp p)):St:=
 ⟨[(1,.sl 0 [0] 0 n cp),(2,.ptr 1 []),(15,.sl 3 [] 0 w (some w)),(16,(.d (.int .i64 fr)))],[.tb false .leaf IX RR,.box false (fw m),.hole,.sl false .leaf (O.map bf),.hole]⟩
theorem a2y {O:am} (hng:Jx O) {m:Fp p} (hml:m.len≤64) {n w:Nat} {N:Tab p} (hN:RM m n w N) {IX:List Nat} {RR:List (List D)} (hT:TbJ bf IX RR N) {L:List Nat} (hL:Inc w L) (hLn:L.length≤n) {fr:Nat} (hfr:fr<w) {cp:Option Nat} {i:Nat} (hi:i<L.length) {l r:List (MK×Int)} (hnd:((l++(MK.i (L[i]:Int),(i:Int))::r).map (·.1)).Nodup) {rg:Rng} (hks:rg.ks=[1,2,15,16]) (hk2:rg.ks2=[1,2,15,16,19,20]) (hkd:rg.kd=19) (hvd:rg.vd=20) :
 om rg (dn O 1 ir_impl_field_solutiont_L5) (MK.i (L[i]:Int),(i:Int)) (V1 n w cp fr IX RR m (yh w N L fr (l++(MK.i (L[i]:Int),(i:Int))::r)))=some (V1 n w cp fr IX RR m (yh w N L fr (l++r))):=by
 have hNl:=hN.1;have hiN:i<N.length:=by omega
 have hin:i<n:=by omega
 obtain ⟨hQ1,hQ2⟩:=hN.2 N[i] (az hiN);obtain ⟨r',hr',hR'⟩:=hT.get i _ (ac hiN);have hcQ:fr<N[i].length:=by omega
 have hxl:=hQ2 _ (az hcQ)
 have hgd:(N.getD i []).getD fr 0=N[i][fr]:=by
  rw [List.getD_eq_getElem?_getD (l:=N),ac hiN,Option.getD_some,List.getD_eq_getElem?_getD,ac hcQ]; rfl
 have e1:=hng p N[i][fr] (by omega)
 have hst:=a43 (N:=N) (w:=w) (fr:=fr) hL.nodup hi hnd;rw [hgd] at hst;have hlw:=hL.2 _ (az hi);have hIl:IX.length=n:=by rw [hT.len]; exact hNl
 have hri:∀h:i<IX.length,IX[i]'h=r':=fun h=>au ((ac h).symm.trans hr')
 have hQL:(N[i].map bf).length=w:=by rw [af]; exact hQ1
 have hxc:∀h:fr<(N[i].map bf).length,(N[i].map bf)[fr]'h=(D.sl .leaf (aq .i64 (row N[i][fr]))):=fun h=>by rw [bb]
 generalize hOQ:yh w N L fr (l++(MK.i (L[i]:Int),(i:Int))::r)=OQ at *;have hOL:(OQ.map bf).length=w:=by rw [af,←hOQ,U8]
 have hOi:L[i]<(OQ.map bf).length:=by rw [hOL]; exact hlw
 have hsh:∀h:L[i]<(OQ.map bf).length,((OQ.map bf)[L[i]]'h).sh=.leaf:=fun h=>by rw [bb]; rfl
 have hset:(OQ.map bf).set L[i] (D.sl .leaf (aq .i64 (row (0-N[i][fr]))))=(yh w N L fr (l++r)).map bf:=by rw [←hst,dy]
 unfold om V1;rw [←hset,hks,hk2,hkd,hvd];clear hset hst hOQ hnd hgd;have hl0:(0:Int)≤(L[i]:Nat):=by omega
 generalize OQ.map bf=OD at *;generalize L[i]=li at *;generalize row (0-N[i][fr])=P2 at *;generalize row N[i][fr]=P1 at *;generalize N[i].map bf=QD at *;have hf:∀a:Fp p,fw a=.st [.leaf,.leaf] [.int .i64 p,(D.sl .leaf (aq .i64 (row a)))]:=fun _=>rfl
 generalize row m=Pm at *;simp -implicitDefEqProofs [MK.d,ir_impl_field_solutiont_L5,hin,hIl,hri,hR',hQL,hxc,hfr,hOL,hlw,hsh,e1]
theorem ahk {O:am} (hng:Jx O) {m:Fp p} (hml:m.len≤64) {n w:Nat} {N:Tab p} (hN:RM m n w N) {IX:List Nat} {RR:List (List D)} (hT:TbJ bf IX RR N) {L:List Nat} (hL:Inc w L) (hLn:L.length≤n) {fr:Nat} (hfr:fr<w) {cp:Option Nat} :
 dn O 1 (.range ⟨(.t 6),172,173,174,175,176,177,178,19,20,[1,2,15,16],[1,2,15,16,19,20]⟩ ir_impl_field_solutiont_L5) ⟨[(1,.sl 0 [0] 0 n cp),(2,.ptr 1 []),(6,.mp 2),(15,.sl 3 [] 0 w (some w)),(16,(.d (.int .i64 fr)))],[.tb false .leaf IX RR,.box false (fw m),.mp false (pvE 0 L),.sl false .leaf ((yh w N L fr (pvE 0 L)).map bf),.hole]⟩ =
  some (.normal,V1 n w cp fr IX RR m (yh w N L fr [])):=by
 refine a5f (j:=2) (es:=pvE 0 L) (by simp [a6v,Env.arg,Env.get]) ?_
 have key:=RangeTo.by (f:=om ⟨(.t 6),172,173,174,175,176,177,178,19,20,[1,2,15,16],[1,2,15,16,19,20]⟩ (dn O 1 ir_impl_field_solutiont_L5)) (fun rem=>V1 n w cp fr IX RR m (yh w N L fr rem)) (pvE 0 L) (fun l e r h1 h2 h3=>by
  obtain ⟨i,hi,rfl⟩:=a02 (h1 e (by simp))
  rw [b9] at h3 ⊢;exact a2y hng hml hN hT hL hLn hfr hi h3 rfl rfl rfl rfl) (pvE 0 L).length (pvE 0 L) rfl (fun x h=>h) (ba _) (a2d hL.nodup)
 have e:(⟨Env.keep [(1,.sl 0 [0] 0 n cp),(2,.ptr 1 []),(6,.mp 2),(15,.sl 3 [] 0 w (some w)),(16,(.d (.int .i64 fr)))] [1,2,15,16],ma (Env.keep [(1,.sl 0 [0] 0 n cp),(2,.ptr 1 []),(6,.mp 2),(15,.sl 3 [] 0 w (some w)),(16,(.d (.int .i64 fr)))] [1,2,15,16]) 1 0 (freeze [.tb false .leaf IX RR,.box false (fw m),.mp false (pvE 0 L),.sl false .leaf ((yh w N L fr (pvE 0 L)).map bf),.hole] [2])⟩:St)=V1 n w cp fr IX RR m (yh w N L fr (pvE 0 L)):=by
  unfold V1;generalize (yh w N L fr (pvE 0 L)).map bf=OD;generalize pvE 0 L=PE;simp
 rw [←e] at key;exact key
theorem a1q {O:am} (hng:Jx O) {m:Fp p} (hml:m.len≤64) {n w:Nat} (hw:w<1000000) {N:Tab p} (hN:RM m n w N) {IX:List Nat} {RR:List (List D)} (hT:TbJ bf IX RR N) {L:List Nat} (hL:Inc w L) (hLn:L.length≤n) {cp:Option Nat}:∀(q k:Nat),k+q=frL 0 L→frL 0 L≤w →
 ∃(e:Env) (B4:Blk) (B1 B2:Blk),e.get 15=some (.sl 3 [] 0 w (some w)) ∧
 dn O 1 (.loop ir_impl_field_solutiont_L6) ⟨[(1,.sl 0 [0] 0 n cp),(2,.ptr 1 []),(6,.mp 2),(15,.sl 3 [] 0 w (some w)),(157,(.d (.int .i64 w))),(158,(.d (.int .i64 k)))],[.tb false .leaf IX RR,.box false (fw m),.mp false (pvE 0 L),.sl false .leaf (List.replicate w (D.sl .leaf (aq .i64 ([])))),.hole]⟩ =
  some (.exit 10,⟨e,[.tb false .leaf IX RR,B1,B2,.sl false .leaf ((Cu w N L).map bf),B4]⟩)
 | 0,k,hk,hf=>by
  obtain rfl:k=frL 0 L:=by omega
  by_cases hfw:frL 0 L=w
  ·have hov:(Cu w N L).map bf=List.replicate w (D.sl .leaf (aq .i64 ([]))):=by
    unfold Cu; rw [if_pos hfw,ew];show List.replicate w (D.sl .leaf (aq .i64 (row (0:Fp p))))=_;rw [dj]
   rw [hov,hfw];refine ⟨[(1,.sl 0 [0] 0 n cp),(2,.ptr 1 []),(6,.mp 2),(15,.sl 3 [] 0 w (some w)),(157,(.d (.int .i64 w))),(158,(.d (.int .i64 w))),(159,(.d (.bool false)))],.hole,.box false (fw m),.mp false (pvE 0 L),by simp [Env.get],bu ?_⟩
   generalize pvE 0 L=PE,List.replicate w (D.sl .leaf (aq .i64 ([])))=OP at *;have hf:∀a:Fp p,fw a=.st [.leaf,.leaf] [.int .i64 p,(D.sl .leaf (aq .i64 (row a)))]:=fun _=>rfl
   generalize row m=Pm at *;simp -implicitDefEqProofs [ir_impl_field_solutiont_L6,ap]
  ·have hlt:frL 0 L<w:=by omega
   have hli:(frL 0 L:Int)<w:=by omega
   have e1:=ahk (O:=O) hng hml hN hT hL hLn hlt (cp:=cp);have hall:=a4f (N:=N) (w:=w) (a94 hL);have hp:plL (frL 0 L) L=none:=Es.2 (a94 hL);have hat:=Vl (frL 0 L) 0 L;rw [hp] at hat;simp only [Option.map_none] at hat;have hkd:=Ed 0 L
   have hout:(yh w N L (frL 0 L) (pvE 0 L)).map bf=(List.replicate w (D.sl .leaf (aq .i64 ([])))).set (frL 0 L) (.sl .leaf [.int .i64 1]):=by
    rw [hall,dy,ew];show (List.replicate w (D.sl .leaf (aq .i64 (row (0:Fp p))))).set _ (D.sl .leaf (aq .i64 (row (1:Fp p))))=_;rw [dj,yq]; rfl
   rw [hout,a4b hfw] at e1;have hOL:(List.replicate w (D.sl .leaf (aq .i64 ([])))).length=w:=bt;have hsh:∀h:frL 0 L<(List.replicate w (D.sl .leaf (aq .i64 ([])))).length,((List.replicate w (D.sl .leaf (aq .i64 ([]))))[frL 0 L]'h).sh=.leaf:=fun h=>by rw [List.getElem_replicate]; rfl
   refine ⟨[(1,.sl 0 [0] 0 n cp),(2,.ptr 1 []),(15,.sl 3 [] 0 w (some w)),(16,(.d (.int .i64 (frL 0 L))))],.hole,.box false (fw m),.hole,by simp [Env.get],bu ?_⟩
   unfold V1 at e1;generalize frL 0 L=fr,pvE 0 L=PE,List.replicate w (D.sl .leaf (aq .i64 ([])))=OP,(Cu w N L).map bf=OV at *;have hf:∀a:Fp p,fw a=.st [.leaf,.leaf] [.int .i64 p,(D.sl .leaf (aq .i64 (row a)))]:=fun _=>rfl
   generalize row m=Pm at *;simp -implicitDefEqProofs [ir_impl_field_solutiont_L6,ap,hlt,hli,hat,hkd,hOL,hsh,e1,List.replicate]
 | q+1,k,hk,hf=>by
  have hkf:k<frL 0 L:=by omega
  have hlt:k<w:=by omega
  have hli:(k:Int)<w:=by omega
  have hkL:=a8b 0 L k (fh _) hkf;rw [Nat.sub_zero] at hkL;have hmem:=dl hkL;have hat:=Vl k 0 L;have hkd:=Ed 0 L;obtain ⟨e,B4,B1,B2,h1,h2⟩:=a1q hng hml hw hN hT hL hLn (cp:=cp) q (k+1) (by omega) hf
  refine ⟨e,B4,B1,B2,h1,bn ?_ h2⟩;have w4:=wi k
  obtain ⟨i,hp⟩:∃i,plL k L=some i:=by
   cases hp:plL k L with
   | none=>exact absurd hmem (Es.1 hp)
   | some i=>exact ⟨i,rfl⟩
  rw [hp,bc] at hat;generalize pvE 0 L=PE,List.replicate w (D.sl .leaf (aq .i64 ([])))=OP,((0+i:Nat):Int)=iv at *;have hf:∀a:Fp p,fw a=.st [.leaf,.leaf] [.int .i64 p,(D.sl .leaf (aq .i64 (row a)))]:=fun _=>rfl
  generalize row m=Pm at *;simp -implicitDefEqProofs [ir_impl_field_solutiont_L6,ap,hli,hat,hkd,w4]
end
def Cv (O:am):Prop:=∀(p:Int) [IsP p] (m:Fp p) (n w:Nat) (N:Tab p) (cp:Option Nat) (IX:List Nat) (RR:List (List D)),Fld m→0<n→n<1000000→w<1000000→RM m n w N→TbJ bf IX RR N→∃(IX':List Nat) (RR':List (List D)),
 O Fo [.d (fw m),.sl 0 [0] 0 n cp] [.tb false .leaf IX RR]=some (.sl 1 [] 0 w (some w),[.tb false .leaf IX' RR'],[.sl false .leaf ((G5 m w N).map bf)])
theorem Ya (hT:T Fo=some ir_impl_field_solutiont) (hco:jn (den T A)) (hpr:jl (den T A)) (hin:rx (den T A)) (hsc:sy (den T A)):Cv (den T A):=by
 intro p ip m n w N cp IX RR hm hn0 hn hw hN hTb;have hml:=hm.five;have hng:=acz hsc;obtain ⟨g1,g2,g3⟩:=Ev m hm.mon.2 w 0 N [] hN (Inc.nil 0) (fh _);rw [b9] at g2;obtain ⟨IX',RR',c',hT',e1⟩:=We (O:=den T A) hco hpr hin hm hn hw (cp:=cp) w 0 N [] IX RR (b9 _) hN hTb (Inc.nil 0) (fh _);have e00:((0:Nat):Int)=0:=rfl;have hl0:pvE 0 []=[]:=rfl;rw [da,e00,hl0] at e1;refine ⟨IX',RR',pm hT rfl ?_⟩;have hNl:=hN.1;obtain ⟨r0,hr0,hR0⟩:=hTb.get 0 _ (ac (show 0<N.length by omega))
 have hIl:IX.length=n:=by rw [hTb.len]; exact hNl
 have hri:∀h:0<IX.length,IX[0]'h=r0:=fun h=>au ((ac h).symm.trans hr0)
 have hQL:(N[0].map bf).length=w:=by rw [af]; exact (hN.2 N[0] (az _)).1
 unfold G5;generalize (gau m w w 0 N []).2=L,(gau m w w 0 N []).1=N' at *;have hLl:=g2.len;have hfl:=(a1g 0 L).2;rw [b9] at hfl;obtain ⟨e,B4,B1,B2,h1,e2⟩:=a1q (O:=den T A) hng (m:=m) (by omega) hw g1 hT' g2 g3 (cp:=cp) (frL 0 L) 0 (b9 _) (by omega)
 rw [e00] at e2;have h24:w*24≤1099511627776:=by omega
 generalize (Cu w N' L).map bf=OV at *;generalize hz:List.replicate w (D.sl .leaf (aq .i64 ([])))=OP at *;generalize pvE 0 L=PE at *;generalize N[0].map bf=QD at *;have hz2:List.replicate w (D.sl .leaf [])=OP:=hz;have hf:∀a:Fp p,fw a=.st [.leaf,.leaf] [.int .i64 p,(D.sl .leaf (aq .i64 (row a)))]:=fun _=>rfl
 generalize row m=Pm at *;simp -implicitDefEqProofs [ir_impl_field_solutiont,ir_impl_field_solutiont_B,hn0,hIl,hri,hR0,hQL,e1,e2,h1,h24,hz2,List.replicate]
section
variable {p:Int}
noncomputable def kq [IsP p] (m:Fp p) (a xs:List (Fp p)):List (Fp p):=xs.map fun x=>svI m x 0 a 0
theorem k9 [IsP p] (m:Fp p) (a xs:List (Fp p)):(kq m a xs).length=xs.length:=af ..
theorem Uh [IsP p] {m:Fp p} (hm:m≠0) (a xs:List (Fp p)):∀y∈kq m a xs,y.len<m.len:=by
 intro y hy;obtain ⟨x,_,rfl⟩:=cn.1 hy;exact Qz hm 0 a 0 (by rw [Pol.len_zero]; exact Pol.len_pos hm)
theorem O6 [IsP p] {m:Fp p} {a xs:List (Fp p)} {i:Nat} (h:i<xs.length):(kq m a xs).take (i+1)=(kq m a xs).take i++[svI m xs[i] 0 a 0]:=by
 rw [br (by rw [k9]; exact h)]
 congr 2
 unfold kq;rw [bb]
theorem Nj [IsP p] {m:Fp p} (hm:m≠0) (a xs:List (Fp p)):kq m (fl a) xs=kq m a xs:=List.map_congr_left fun _x _=>Un hm a
theorem V5 [IsP p] {O:am} (hv:Jd O) {m:Fp p} {a xs:List (Fp p)} (h2:2≤m.len) (hml:m.len≤64) (ha:a.length<100000) (hal:∀c∈a,c.len≤1000) (hn:xs.length<2000000) (hx:∀x∈xs,x.len≤1000):∀(r i:Nat) (cp:Option Nat),i+r=xs.length→∃cp':Option Nat,
 dn O 0 (.loop Zr_L0) ⟨[(1,.d (skD a)),(3,.ptr 0 []),(7,.sl 1 [] 0 i cp),(10,.d (.sl .leaf (xs.map bf))),(11,(.d (.int .i64 xs.length))),(12,(.d (.int .i64 i)))],[.box false (fw m),.sl false .leaf (((kq m a xs).take i).map bf),.hole,.hole]⟩ =
  some (.exit 0,⟨[(1,.d (skD a)),(3,.ptr 0 []),(7,.sl 1 [] 0 xs.length cp'),(10,.d (.sl .leaf (xs.map bf))),(11,(.d (.int .i64 xs.length))),(12,(.d (.int .i64 xs.length))),(13,(.d (.bool false)))],[.box false (fw m),.sl false .leaf ((kq m a xs).map bf),.hole,.hole]⟩)
 | 0,i,cp,hi=>by
  obtain rfl:i=xs.length:=by omega
  rw [aw (by rw [k9]; exact ba _)]
  refine ⟨cp,bu ?_⟩;generalize a.map bf=AD,(kq m a xs).map bf=RD,xs.map bf=XD at *;simp -implicitDefEqProofs [Zr_L0,ap]
 | r+1,i,cp,hi=>by
  have hlt:i<xs.length:=by omega
  have e1:=hv p m xs[i] a h2 hml (hx _ (az hlt)) ha hal;have hXD:(xs.map bf).length=xs.length:=af ..;have hxi:∀h:i<(xs.map bf).length,(xs.map bf)[i]'h=(D.sl .leaf (aq .i64 (row xs[i]))):=fun h=>by rw [bb]
  have w4:=wi i;have h24:(i+1)*24≤1099511627776:=by omega
  have htk:((kq m a xs).take (i+1)).map bf=((kq m a xs).take i).map bf++[(D.sl .leaf (aq .i64 (row (svI m xs[i] 0 a 0))))]:=by rw [O6 hlt,cj]; rfl
  have hL:(((kq m a xs).take i).map bf).length=i:=by rw [af,b8,k9]; omega
  have htt:(((kq m a xs).take i).map bf).take i=((kq m a xs).take i).map bf:=aw (by omega)
  obtain ⟨cp',ih⟩:=V5 hv h2 hml ha hal hn hx r (i+1) none (by omega)
  refine ⟨cp',bn ?_ ih⟩;rw [htk];generalize row (svI m xs[i] 0 a 0)=Qi at *;generalize row xs[i]=Ri at *;generalize a.map bf=AD,xs.map bf=XD,((kq m a xs).take i).map bf=TD at *;simp -implicitDefEqProofs [Zr_L0,ap,hlt,hXD,hxi,e1,h24,hL,htt,w4,List.replicate]
end
def Mg (O:am):Prop:=∀(p:Int) [IsP p] (m:Fp p) (a xs:List (Fp p)),2≤m.len→m.len≤64→a.length<100000→(∀c∈a,c.len≤1000)→xs.length<2000000→(∀x∈xs,x.len≤1000)→ask O Fr [fw m,skD a,.sl .leaf (xs.map bf)]=some (.sl .leaf ((kq m a xs).map bf))
theorem a4j (hT:T Fr=some Zr) (hv:Jd (den T A)):Mg (den T A):=by
 intro p ip m a xs h2 hml ha hal hn hx;obtain ⟨cp,e⟩:=V5 (O:=den T A) hv h2 hml ha hal hn hx xs.length 0 (some 0) (b9 _);have e00:((0:Nat):Int)=0:=rfl;rw [e00,cx,fa] at e;have h1:(xs.map bf).length=xs.length:=af ..;have h3:((kq m a xs).map bf).length=xs.length:=(af ..).trans (k9 m a xs);have htk:((kq m a xs).map bf).take xs.length=(kq m a xs).map bf:=aw (by omega)
 refine c9 hT rfl ?_;generalize a.map bf=AD,xs.map bf=XD,(kq m a xs).map bf=QD at *;simp -implicitDefEqProofs [Zr,Zr_B,h1,h3,htk,e]
section
variable {p:Int}
theorem O2 [IsP p] {O:am} (hv:E5 O) {m:Fp p} {a xs:List (Fp p)} (h2:2≤m.len) (hml:m.len≤64) (ha:a.length=8) (hal:∀c∈a,c.len<m.len) (hn:xs.length<2000000) (hx:∀x∈xs,x.len<m.len):∀(r i:Nat) (cp:Option Nat),i+r=xs.length→∃cp':Option Nat,
 dn O 0 (.loop Z4d_L0) ⟨[(0,(.d (.int .i64 p))),(3,.d (.sl (.arr 64 .leaf) (xs.map bo))),(5,.ptr 0 []),(6,.ptr 1 []),(9,.sl 2 [] 0 i cp),(10,(.d (.int .i64 i)))],[.box false (D.arr 64 .leaf (aq .u8 (pad (row m)))),.box false (.arr 8 (.arr 64 .leaf) ((skP a).map bh)),.sl false (.arr 64 .leaf) (((kq m a xs).take i).map bo),.hole,.hole]⟩ =
  some (.exit 0,⟨[(0,(.d (.int .i64 p))),(3,.d (.sl (.arr 64 .leaf) (xs.map bo))),(5,.ptr 0 []),(6,.ptr 1 []),(9,.sl 2 [] 0 xs.length cp'),(10,(.d (.int .i64 xs.length))),(15,(.d (.bool false)))],[.box false (D.arr 64 .leaf (aq .u8 (pad (row m)))),.box false (.arr 8 (.arr 64 .leaf) ((skP a).map bh)),.sl false (.arr 64 .leaf) ((kq m a xs).map bo),.hole,.hole]⟩)
 | 0,i,cp,hi=>by
  obtain rfl:i=xs.length:=by omega
  rw [aw (by rw [k9]; exact ba _)]
  have hXD:(xs.map bo).length=xs.length:=af ..;refine ⟨cp,bu ?_⟩;generalize pad (row m)=Pm,(skP a).map bh=AD,(kq m a xs).map bo=RD,xs.map bo=XD at *;simp -implicitDefEqProofs [Z4d_L0,ap,hXD]
 | r+1,i,cp,hi=>by
  have hlt:i<xs.length:=by omega
  have e1:=hv p m xs[i] a h2 hml (hx _ (az hlt)) ha hal;have hXD:(xs.map bo).length=xs.length:=af ..;have hxi:∀h:i<(xs.map bo).length,(xs.map bo)[i]'h=(D.arr 64 .leaf (aq .u8 (pad (row xs[i])))):=fun h=>by rw [bb]
  have w4:=wi i;have h24:(i+1)*64≤1099511627776:=by omega
  have htk:((kq m a xs).take (i+1)).map bo=((kq m a xs).take i).map bo++[(D.arr 64 .leaf (aq .u8 (pad (row (svI m xs[i] 0 a 0)))))]:=by rw [O6 hlt,cj]; rfl
  have hL:(((kq m a xs).take i).map bo).length=i:=by rw [af,b8,k9]; omega
  have htt:(((kq m a xs).take i).map bo).take i=((kq m a xs).take i).map bo:=aw (by omega)
  obtain ⟨cp',ih⟩:=O2 hv h2 hml ha hal hn hx r (i+1) none (by omega)
  have hsk:Ck (skP a)=.arr 8 (.arr 64 .leaf) ((skP a).map bh):=rfl;rw [hsk] at e1;refine ⟨cp',bn ?_ ih⟩;rw [htk];generalize pad (row (svI m xs[i] 0 a 0))=Qi at *;generalize pad (row xs[i])=Ri at *;generalize pad (row m)=Pm,(skP a).map bh=AD,xs.map bo=XD,((kq m a xs).take i).map bo=TD at *;simp -implicitDefEqProofs [Z4d_L0,ap,hlt,hXD,hxi,e1,h24,hL,htt,w4,List.replicate]
end
def He (O:am):Prop:=∀(p:Int) [IsP p] (m:Fp p) (a xs:List (Fp p)),2≤m.len→m.len≤64→a.length=8→(∀c∈a,c.len<m.len)→xs.length<2000000→(∀x∈xs,x.len<m.len)→ask O F4d [(D.int .i64 p),(D.arr 64 .leaf (aq .u8 (pad (row m)))),.arr 8 (.arr 64 .leaf) ((skP a).map bh),.sl (.arr 64 .leaf) (xs.map bo)]=some (.sl (.arr 64 .leaf) ((kq m a xs).map bo))
theorem a22 (hT:T F4d=some Z4d) (hv:E5 (den T A)):He (den T A):=by
 intro p ip m a xs h2 hml ha hal hn hx;obtain ⟨cp,e⟩:=O2 (O:=den T A) hv h2 hml ha hal hn hx xs.length 0 (some 0) (b9 _);have e00:((0:Nat):Int)=0:=rfl;rw [e00,cx,fa] at e;have h1:(xs.map bo).length=xs.length:=af ..;have h3:((kq m a xs).map bo).length=xs.length:=(af ..).trans (k9 m a xs);have htk:((kq m a xs).map bo).take xs.length=(kq m a xs).map bo:=aw (by omega)
 refine c9 hT rfl ?_;generalize pad (row m)=Pm,(skP a).map bh=AD,xs.map bo=XD,(kq m a xs).map bo=QD at *;simp -implicitDefEqProofs [Z4d,Z4d_B,h3,htk,e]
section
variable {p:Int}
theorem a4s {S:List (Fp p)} {i:Nat} (hi:i<S.length) (h8:S.length≤8):pd8 (S.take (i+1))=(pd8 (S.take i)).set i S[i]:=by
 unfold pd8;rw [br hi,bg,b8,Nat.min_eq_left (by omega),jk,ek,p7 _ _ (by rw [b8]; omega),b8,Nat.min_eq_left (by omega),lh]
 congr 1
 obtain ⟨k,hk⟩:∃k,8-i=k+1:=⟨8-i-1,by omega⟩
 rw [hk,show 8-(i+1)=k by omega,List.replicate_succ]
 rfl
theorem Yg [IsP p] {O:am} {S:List (Fp p)} (h8:S.length≤8) {b0:Blk}:∀(r i:Nat),i+r=S.length →
 dn O 0 (.loop ir_spec_l09Skew_L0) ⟨[(0,.d (.sl (.arr 64 .leaf) (S.map bo))),(2,.ptr 0 []),(3,.ptr 1 []),(4,(.d (.int .i64 i)))],[b0,.box false (.arr 8 (.arr 64 .leaf) ((skP (pd8 (S.take i))).map bh))]⟩ =
  some (.exit 0,⟨[(0,.d (.sl (.arr 64 .leaf) (S.map bo))),(2,.ptr 0 []),(3,.ptr 1 []),(4,(.d (.int .i64 S.length))),(13,(.d (.bool false)))],[b0,.box false (.arr 8 (.arr 64 .leaf) ((skP (pd8 S)).map bh))]⟩)
 | 0,i,hi=>by
  obtain rfl:i=S.length:=by omega
  rw [iq];have hX:(S.map bo).length=S.length:=af ..;refine bu ?_;generalize (skP (pd8 S)).map bh=AD,S.map bo=XD at *;simp -implicitDefEqProofs [ir_spec_l09Skew_L0,ap,hX]
 | r+1,i,hi=>by
  have hlt:i<S.length:=by omega
  have hlt8:(i:Int)<8:=by omega
  have hltn:i<8:=by omega
  have hX:(S.map bo).length=S.length:=af ..;have hxi:∀h:i<(S.map bo).length,(S.map bo)[i]'h=(D.arr 64 .leaf (aq .u8 (pad (row S[i])))):=fun h=>by rw [bb]
  have w4:=wi i
  have hst:(skP (pd8 (S.take (i+1)))).map bh=((skP (pd8 (S.take i))).map bh).set i (D.arr 64 .leaf (aq .u8 (pad (row S[i])))):=by
   rw [a4s hlt h8];unfold skP;rw [dy,dy]
  have h8l:((skP (pd8 (S.take i))).map bh).length=8:=by
   unfold skP;rw [af,af,fx (by rw [b8]; omega)]
  have hsh:∀h:i<((skP (pd8 (S.take i))).map bh).length,(((skP (pd8 (S.take i))).map bh)[i]'h).sh.beq (.arr 64 .leaf)=true:=fun h=>by
   rw [bb]; rfl
  refine bn ?_ (Yg h8 r (i+1) (by omega))
  rw [hst];generalize pad (row S[i])=Pi at *;generalize (skP (pd8 (S.take i))).map bh=AD,S.map bo=XD at *;simp -implicitDefEqProofs [ir_spec_l09Skew_L0,ap,hlt,hlt8,hltn,hX,hxi,h8l,hsh,w4]
end
def Q5 (O:am):Prop:=∀(p:Int) [IsP p] (S:List (Fp p)),S.length≤8→ask O F4b [.sl (.arr 64 .leaf) (S.map bo)]=some (.arr 8 (.arr 64 .leaf) ((skP (pd8 S)).map bh))
theorem abe (hT:T F4b=some Z4b):Q5 (den T A):=by
 intro p ip S h8;have e:=Yg (O:=den T A) (b0:=.box false (.arr 8 (.arr 64 .leaf) z8)) h8 S.length 0 (b9 _);have e00:((0:Nat):Int)=0:=rfl
 have hz:(skP (pd8 (S.take 0))).map bh=z8:=by
  rw [cx];exact a00 (p:=p)
 rw [e00,hz] at e;refine c9 hT rfl ?_;generalize S.map bo=XD,(skP (pd8 S)).map bh=AD at *;simp -implicitDefEqProofs [Z4b,ir_spec_l09Skew_B,e]
section
variable {p:Int}
noncomputable def inC [IsP p] (m:Fp p) (Z B:List (Fp p)) (x y:Fp p):Fp p:=(y-svI m x 0 B 0)*jp m (svI m x 0 Z 0)%m
noncomputable def inO [IsP p] (m:Fp p) (Z B:List (Fp p)) (x y:Fp p):List (Fp p):=ia 1 B (ke m (kg (inC m Z B x y) 0) Z)
noncomputable def inZ [IsP p] (m:Fp p) (Z:List (Fp p)) (x:Fp p):List (Fp p):=ke m [lsC m (svI m x 0 Z 0),1] Z
noncomputable def inS [IsP p] (m:Fp p):List (Fp p)→List (Fp p)→List (Fp p)→List (Fp p)→List (Fp p)
 | x::xs,y::ys,Z,B=>inS m xs ys (inZ m Z x) (inO m Z B x y)
 | _,_,_,B=>B
structure InI (m:Fp p) (Z B:List (Fp p)) (n:Nat):Prop where
 z:Sk m Z
 zl:Z.length=n+1
 b:Sk m B
 bl:B.length≤n
theorem Cp [IsP p] {m:Fp p} (c:Fp p) (Z:List (Fp p)):(ke m (kg c 0) Z).length≤Z.length:=by
 unfold ke
 split
 ·simp
 ·refine ju (lf _) ?_
  unfold sw;rw [kz,bt,i9]; omega
theorem InI.next [IsP p] {m:Fp p} (hm:Fld m) {Z B:List (Fp p)} {n:Nat} (h:InI m Z B n) (hn:n≤6) {x y:Fp p}:InI m (inZ m Z x) (inO m Z B x y) (n+1):=by
 have h0:=hm.mon.2;have h2:=hm.two;have hcl:=a16 (v:=svI m x 0 Z 0) hm;have hzl:=h.zl;have hbl:=h.bl
 have hl:(inZ m Z x).length=n+1+1:=by
  unfold inZ;rw [Om hm (U7 _) h.z.trim (Yo hm hcl) h.z.res (by simp) (by omega)]
  simp only [bv,da];omega
 have hp:Sk m (ke m (kg (inC m Z B x y) 0) Z):=⟨rz _ _ _,by have:=Cp (m:=m) (inC m Z B x y) Z; omega,fun c hc=>by have:=sb (N:=m.len-1) h0 (by omega) c hc; omega⟩
 refine ⟨⟨rz _ _ _,by omega,fun c hc=>by have:=sb (N:=m.len-1) h0 (by omega) c hc; omega⟩,hl,h.b.plus h0 hp 1,?_⟩
 have h1:=Aa 1 B (ke m (kg (inC m Z B x y) 0) Z);have h3:=Cp (m:=m) (inC m Z B x y) Z;unfold inO;omega
theorem InI.all [IsP p] {m:Fp p} (hm:Fld m):∀(xs ys Z B:List (Fp p)) (n:Nat),InI m Z B n→n+xs.length≤7→Sk m (inS m xs ys Z B)
 | [],ys,Z,B,n,h,_=>by unfold inS; exact h.b
 | x::xs,[],Z,B,n,h,_=>by unfold inS; exact h.b
 | x::xs,y::ys,Z,B,n,h,hn=>by
  rw [bv] at hn;exact InI.all hm xs ys _ _ (n+1) (h.next hm (by omega)) (by omega)
theorem InI.one [IsP p] {m:Fp p} (hm:Fld m):InI m (kg (1:Fp p) 0) [] 0:=⟨Xh hm,by rw [i9],Sk.nil m,ba _⟩
end
section
variable {p:Int} [IsP p]
end
theorem ajr {p:Int} {l:List Int} {ls ms:List (List Int)} {c:Prop} (h:fp p l ls ms c=0):∃(_:IsP p) (m:Fp p) (S R:List (Fp p)),l=pad (row m)∧Fld m∧ls=skP S∧ms=skP R∧(∀a∈S,a.len<m.len)∧(∀a∈R,a.len<m.len)∧S.length≤4∧c:=by
 obtain ⟨⟨ip,m,e,hm,hs⟩,h1,h4,h2⟩:=Oy h;obtain ⟨S,hS0,hS⟩:=Uo (m:=m) (ls:=ls) (fun x hx=>hs x (by simp [hx]))
 obtain ⟨R,hR0,hR⟩:=Uo (m:=m) (ls:=ms) (fun x hx=>hs x (by simp [hx]))
 have hSl:ls.length=S.length:=by rw [hS0,af]
 exact ⟨ip,m,S,R,e,hm,hS0,hR0,hS,hR,by omega,h2⟩
def iwP (ls ms:List (List Int)) (k:Int):Prop:=(1≤k∧k≤ls.length)∧ms.length=ls.length
open Classical in
def G7 (O:am):Prop:=∀(ls ms:List (List Int)) (k:Int),ls.length<2000000→ms.length<2000000→ask O Fs [.sl (.arr 64 .leaf) (ls.map bh),(D.int .i64 k),.sl (.arr 64 .leaf) (ms.map bh)]=some (D.bool (decide (iwP ls ms k)))
open Classical in
theorem a4t (hT:T Fs=some Zs) (hw:E4 (den T A)):G7 (den T A):=by
 intro ls ms k hl hm;have e1:=hw k 1 ls.length;obtain ⟨n,hn⟩:∃n:Int,(ls.length:Int)=n:=⟨_,rfl⟩;obtain ⟨j,hj⟩:∃j:Int,(ms.length:Int)=j:=⟨_,rfl⟩;have hLk:((ls.map bh).length:Int)=n:=by rw [af]; exact hn
 have hMj:((ms.map bh).length:Int)=j:=by rw [af]; exact hj
 have hiff:iwP ls ms k↔(1≤k∧k≤n)∧j=n:=by unfold iwP; omega
 rw [hn] at e1;refine c9 hT rfl ?_
 by_cases h1:1≤k∧k≤n
 ·rw [decide_eq_true h1] at e1
  by_cases h2:j=n
  ·rw [decide_eq_true (hiff.2 ⟨h1,h2⟩)]
   generalize ms.map bh=MD,ls.map bh=LD at *;simp -implicitDefEqProofs [Zs,Zs_B,e1,hLk,hMj,h2]
  ·rw [decide_eq_false (fun h=>h2 (hiff.1 h).2)]
   generalize ms.map bh=MD,ls.map bh=LD at *;simp -implicitDefEqProofs [Zs,Zs_B,e1,hLk,hMj,h2]
 ·rw [decide_eq_false h1] at e1
  rw [decide_eq_false (fun h=>h1 (hiff.1 h).1)]
  generalize ms.map bh=MD,ls.map bh=LD at *;simp -implicitDefEqProofs [Zs,Zs_B,e1,hLk]
end Pe
