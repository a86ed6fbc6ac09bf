/-
  A part of the proof: an evaluator for a small form of the code, its soundness, and contracts of functions over it.
-/
import Derived.Test.YtjccdlpphbjckaaGreatW1
import Derived.Test.YtjccdlpphbjckaaGreatW2
import Derived.Test.YtjccdlpphbjckaaGreatW3
import Derived.Test.YtjccdlpphbjckaaGreatW4
import Derived.Test.YtjccdlpphbjckaaGreatW5
import Derived.Test.YtjccdlpphbjckaaGreatW6

namespace Pe
open Go Gq
variable {T:Nat→Option Fn} {A:ap}
def sb (O:ap):Prop:=∀b:Blk,Src b→∃(p:Int) (m:List Int) (b':Blk),O F49 [.ptr 0 []] [b]=some (.tup [(.d (.int .i64 p)),.d (D.arr 64 .leaf (aq .u8 m))],[b'],[])∧Src b'∧IsP p∧Arr m∧jn m 64≤5
theorem J1 (hT:T F49=some Z49) (hpr:Ao (den T A)) (hn:px (den T A) F40) (hm:Bh (den T A)) (hir:D3 (den T A)) (ht:a46 (den T A)):sb (den T A):=by
 intro b hs;obtain ⟨p,b1,e1,hs1,ip⟩:=hpr b hs;have e0:=ht p;obtain ⟨b',hs',st⟩:=adc (O:=den T A) hn hm hir (p:=p) (z:=pad []) 6 0 b1 rfl hs1;rw [show ((0:Nat):Int)=0 from rfl] at st;rcases st with st | ⟨m,⟨am,bm⟩,st⟩
 ·have hX:(Pol.X:Fp p).len≤5:=by rw [Pol.len_X]; omega
  refine ⟨p,pad (row (Pol.X:Fp p)),b',i4 hT rfl ?_,hs',ip,E7 _,Q8 hX 64⟩;obtain ⟨_,_,_,rfl,_⟩:=hs;obtain ⟨_,_,_,rfl,_⟩:=hs1;obtain ⟨_,_,_,rfl,_⟩:=hs';generalize pad (row (Pol.X:Fp p))=PX at *;simp -implicitDefEqProofs [Z49,Z49_B,e0,e1,st,List.replicate,List.idxOf,List.findIdx,List.findIdx.go]
 ·refine ⟨p,m,b',i4 hT rfl ?_,hs',ip,am,bm⟩
  obtain ⟨_,_,_,rfl,_⟩:=hs;obtain ⟨_,_,_,rfl,_⟩:=hs1;obtain ⟨_,_,_,rfl,_⟩:=hs';simp -implicitDefEqProofs [Z49,Z49_B,e1,st,List.replicate,List.idxOf,List.findIdx,List.findIdx.go]
theorem a75 {O:ap} (hdg:Dl O) (hf:sb O) {z:List Int}:∀(r k:Nat) (b:Blk) (p:Int) (m:List Int),k+r=4→Src b→IsP p→Arr m→jn m 64≤5→∃(k':Nat) (b':Blk) (p':Int) (m':List Int),Src b'∧IsP p'∧Arr m'∧jn m' 64≤5 ∧
 dn O 1 (.loop Z4o_L0) ⟨[(0,.ptr 0 []),(3,.ptr 1 []),(4,(.d (.int .i64 p))),(5,.ptr 2 []),(6,(.d (.int .i64 k)))],[b,.box false (D.arr 64 .leaf (aq .u8 z)),.box false (D.arr 64 .leaf (aq .u8 m))]⟩ =
  some (.exit 0,⟨[(0,.ptr 0 []),(3,.ptr 1 []),(4,(.d (.int .i64 p'))),(5,.ptr 2 []),(6,(.d (.int .i64 k'))),(18,(.d (.bool false)))],[b',.box false (D.arr 64 .leaf (aq .u8 z)),.box false (D.arr 64 .leaf (aq .u8 m'))]⟩)
 | 0,k,b,p,m,hk,hs,ip,am,bm=>by
  obtain rfl:k=4:=by omega
  refine ⟨4,b,p,m,hs,ip,am,bm,cg ?_⟩;obtain ⟨_,_,_,rfl,_⟩:=hs;simp -implicitDefEqProofs [Z4o_L0,au]
 | r+1,k,b,p,m,hk,hs,ip,am,bm=>by
  have hk4:(k:Int)<4:=by omega
  have e1:=hdg m am.1
  by_cases hd:(jn m 64:Int)-1<3
  ·obtain ⟨q,n,b1,e2,hs1,iq,an,bn⟩:=hf b hs
   obtain ⟨k',b',p',m',g1,g2,g3,g4,ih⟩:=a75 hdg hf (z:=z) r (k+1) b1 q n (by omega) hs1 iq an bn
   have w4:IntKind.i64.wrap ((k:Int)+1)=((k+1:Nat):Int):=(w64 (x:=(k:Int)+1) (by omega)).trans (by omega)
   refine ⟨k',b',p',m',g1,g2,g3,g4,bq ?_ ih⟩;obtain ⟨_,_,_,rfl,_⟩:=hs;obtain ⟨_,_,_,rfl,_⟩:=hs1;generalize (jn m 64:Int)-1=dg at *;simp -implicitDefEqProofs [Z4o_L0,au,hk4,hd,e1,e2,w4,List.idxOf,List.findIdx,List.findIdx.go]
  ·refine ⟨k,b,p,m,hs,ip,am,bm,cg ?_⟩
   obtain ⟨_,_,_,rfl,_⟩:=hs;generalize (jn m 64:Int)-1=dg at *;simp -implicitDefEqProofs [Z4o_L0,au,hk4,hd,e1]
def sm (O:ap):Prop:=∀b:Blk,Src b→∃(p:Int) (m:List Int) (b':Blk),O F4o [.ptr 0 []] [b]=some (.tup [(.d (.int .i64 p)),.d (D.arr 64 .leaf (aq .u8 m))],[b'],[])∧Src b'∧IsP p∧Arr m∧jn m 64≤5
theorem Y9 (hT:T F4o=some Z4o) (hdg:Dl (den T A)) (hf:sb (den T A)):sm (den T A):=by
 intro b hs;obtain ⟨p,m,b1,e1,hs1,ip,am,bm⟩:=hf b hs;obtain ⟨k',b',p',m',g1,g2,g3,g4,st⟩:=a75 (O:=den T A) hdg hf (z:=pad []) 4 0 b1 p m rfl hs1 ip am bm;rw [show ((0:Nat):Int)=0 from rfl] at st;refine ⟨p',m',b',i4 hT rfl ?_,g1,g2,g3,g4⟩;obtain ⟨_,_,_,rfl,_⟩:=hs;obtain ⟨_,_,_,rfl,_⟩:=hs1;obtain ⟨_,_,_,rfl,_⟩:=g1;simp -implicitDefEqProofs [Z4o,Z4o_B,e1,st,List.replicate,List.idxOf,List.findIdx,List.findIdx.go]
theorem Q5 {O:ap} (hr:jr O) {p:Int} [IsP p] {m:List Int} (am:Arr m):∀(r:Nat) (b:Blk) (Q:List (List Int)) (cp:Option Nat),Src b→v6 Q→Q.length+r≤1000→∃(b':Blk) (Q':List (List Int)) (cp':Option Nat),Src b'∧v6 Q'∧Q'.length=Q.length+r ∧
 dn O 1 (.loop Z4u_L0) ⟨[(0,.ptr 0 []),(1,(.d (.int .i64 p))),(3,(.d (.int .i64 ((r:Int))))),(6,.ptr 1 []),(9,.sl 2 [] 0 Q.length cp)],[b,.box false (D.arr 64 .leaf (aq .u8 m)),.sl false (.arr 64 .leaf) (Q.map ce),.hole,.hole]⟩ =
  some (.exit 0,⟨[(0,.ptr 0 []),(1,(.d (.int .i64 p))),(3,(.d (.int .i64 0))),(6,.ptr 1 []),(9,.sl 2 [] 0 Q'.length cp'),(12,(.d (.bool false)))],[b',.box false (D.arr 64 .leaf (aq .u8 m)),.sl false (.arr 64 .leaf) (Q'.map ce),.hole,.hole]⟩)
 | 0,b,Q,cp,hs,hQ,hl=>by
  refine ⟨b,Q,cp,hs,hQ,by omega,cg ?_⟩
  obtain ⟨_,_,_,rfl,_⟩:=hs;generalize Q.map ce=QD at *;simp -implicitDefEqProofs [Z4u_L0,au]
 | r+1,b,Q,cp,hs,hQ,hl=>by
  have hk0:(0:Int)<((r+1:Nat):Int):=by omega
  have w4:IntKind.i64.wrap (((r+1:Nat):Int)-1)=(r:Int):=(w64 (by omega)).trans (by omega)
  obtain ⟨a,b2,e1,hs2,aa⟩:=hr p m b hs am;have hQD:(Q.map ce).length=Q.length:=ab ..;have htq:(Q.map ce).take Q.length=Q.map ce:=b7 (by omega)
  have h200:(Q.length+1)*64≤1099511627776:=by omega
  obtain ⟨b',Q',cp',g1,g2,g3,ih⟩:=Q5 hr (p:=p) am r b2 (Q++[a]) none hs2 (fun l hl=>by
   rcases bi.1 hl with h | h
   ·exact hQ l h
   ·rw [cj.1 h]; exact aa) (by rw [b8,ez]; omega)
  refine ⟨b',Q',cp',g1,g2,by rw [g3,b8,ez]; omega,bq ?_ ih⟩
  rw [b8,ez,show (Q++[a]).map ce=Q.map ce++[(D.arr 64 .leaf (aq .u8 a))] by rw [cn]; rfl]
  obtain ⟨_,_,_,rfl,_⟩:=hs;obtain ⟨_,_,_,rfl,_⟩:=hs2;generalize ((r+1:Nat):Int)=r1 at *;generalize Q.map ce=QD at *;generalize Q.length=ql at *;simp -implicitDefEqProofs [Z4u_L0,au,hk0,e1,hQD,htq,h200,w4,List.replicate,List.idxOf,List.findIdx,List.findIdx.go]
def vu (O:ap):Prop:=∀(p:Int) [IsP p] (m:List Int) (b:Blk) (n:Nat),Src b→Arr m→n≤1000→∃(Q:List (List Int)) (cp:Option Nat) (b':Blk),O F4u [.ptr 0 [],(.d (.int .i64 p)),.d (D.arr 64 .leaf (aq .u8 m)),(.d (.int .i64 ((n:Int))))] [b]=some (.sl 1 [] 0 Q.length cp,[b'],[.sl false (.arr 64 .leaf) (Q.map ce)])∧Src b'∧v6 Q∧Q.length=n
theorem a3a (hT:T F4u=some Z4u) (hr:jr (den T A)):vu (den T A):=by
 intro p ip m b n hs am hn;obtain ⟨b',Q,cp,hs',hQ,hQl,st⟩:=Q5 (O:=den T A) hr (p:=p) am n b [] (some 0) hs (fun l hl=>by cases hl) (by simp; omega)
 rw [show ([]:List (List Int)).length=0 from rfl,show ([]:List (List Int)).map ce=[] from rfl] at st;refine ⟨Q,cp,b',i4 hT rfl ?_,hs',hQ,by rw [hQl]; exact br n⟩
 obtain ⟨_,_,_,rfl,_⟩:=hs;obtain ⟨_,_,_,rfl,_⟩:=hs';generalize Q.map ce=QD at *;generalize Q.length=ql at *;simp -implicitDefEqProofs [Z4u,Z4u_B,st,List.replicate,List.idxOf,List.findIdx,List.findIdx.go]
theorem Uc {O:ap} (hp:zk O) {p:Int} [IsP p] {xs:List (Fp p)} (hx:∀x∈xs,x.len≤11) (hl:xs.length<2000000) {cp:Option Nat}:∀(k i:Nat) (L:List (Fp p)),i+k=xs.length→Desc 11 L →
 dn O 1 (.loop Z4t_L0) ⟨[(0,(.d (.int .i64 p))),(1,.sl 0 [] 0 xs.length cp),(5,.d (.sl (.arr 64 .leaf) (L.map bv))),(6,(.d (.int .i64 i)))],[.sl false (.arr 64 .leaf) (xs.map bv),.hole]⟩ =
  some (.exit 0,⟨[(0,(.d (.int .i64 p))),(1,.sl 0 [] 0 xs.length cp),(5,.d (.sl (.arr 64 .leaf) ((di (xs.drop i) L).map bv))),(6,(.d (.int .i64 xs.length))),(11,(.d (.bool false)))],[.sl false (.arr 64 .leaf) (xs.map bv),.hole]⟩)
 | 0,i,L,hi,hL=>by
  obtain rfl:i=xs.length:=by omega
  rw [fw];refine cg ?_;show _=some (_,(⟨[_,_,(5,.d (.sl (.arr 64 .leaf) (L.map bv))),_,_],_⟩:St));generalize L.map bv=LD at *;generalize xs.map bv=XD at *;simp -implicitDefEqProofs [Z4t_L0,au]
 | k+1,i,L,hi,hL=>by
  have hlt:i<xs.length:=by omega
  have hm1:=bb hlt;have e1:=hp p L xs[i] hL (hx _ hm1);have hX:(xs.map bv).length=xs.length:=ab ..;have w4:IntKind.i64.wrap ((i:Int)+1)=((i+1:Nat):Int):=(w64 (x:=(i:Int)+1) (by omega)).trans (by omega)
  have hx2:∀h:i<(xs.map bv).length,(xs.map bv)[i]'h=(D.arr 64 .leaf (aq .u8 (pad (row xs[i])))):=fun h=>by rw [ci]
  have hd:di (xs.drop i) L=di (xs.drop (i+1)) (ki L xs[i]):=by rw [cd hlt]; rfl
  rw [hd];refine bq ?_ (Uc hp hx hl k (i+1) (ki L xs[i]) (by omega) (re hL (hx _ hm1)))
  generalize pad (row xs[i])=Pi at *;generalize (ki L xs[i]).map bv=PD at *;generalize L.map bv=LD at *;generalize xs.map bv=XD at *;simp -implicitDefEqProofs [Z4t_L0,au,hlt,hX,hx2,e1,w4]
def Gf (O:ap):Prop:=∀(p:Int) [IsP p] (xs:List (Fp p)) (cp:Option Nat),(∀x∈xs,x.len≤11)→xs.length<2000000→0<xs.length →
 O F4t [(.d (.int .i64 p)),.sl 0 [] 0 xs.length cp] [.sl false (.arr 64 .leaf) (xs.map bv)]=some (.d (.sl (.arr 64 .leaf) ((di xs []).map bv)),[.sl false (.arr 64 .leaf) (xs.map bv)],[])
theorem acb (hT:T F4t=some Z4t) (hp:zk (den T A)):Gf (den T A):=by
 intro p ip xs cp hx hl h0;cases xs with
 | nil=>cases h0
 | cons x xs=>
  have e1:=hp p [] x (Desc.nil 11) (hx x (by simp))
  have e2:=Uc (O:=den T A) hp hx hl (cp:=cp) xs.length 1 (ki [] x) (by rw [b9]; omega) (re (Desc.nil 11) (hx x (by simp)))
  have e01:((1:Nat):Int)=1:=rfl;rw [e01,show di ((x::xs).drop 1) (ki [] x)=di (x::xs) [] from rfl] at e2;have hX:((x::xs).map bv).length=(x::xs).length:=ab ..;have hx2:∀h:0<((x::xs).map bv).length,((x::xs).map bv)[0]'h=(D.arr 64 .leaf (aq .u8 (pad (row x)))):=fun h=>rfl
  have hpos:(0:Int)<((x::xs).length:Int):=by omega
  have e3:dn (den T A) 1 Z4t_L0 ⟨[(0,(.d (.int .i64 p))),(1,.sl 0 [] 0 (x::xs).length cp),(5,.sl 1 [] 0 0 (some 0)),(6,(.d (.int .i64 0)))],[.sl false (.arr 64 .leaf) ((x::xs).map bv),.sl false (.arr 64 .leaf) []]⟩ =
   some (.normal,⟨[(0,(.d (.int .i64 p))),(1,.sl 0 [] 0 (x::xs).length cp),(5,.d (.sl (.arr 64 .leaf) ((ki [] x).map bv))),(6,(.d (.int .i64 1)))],[.sl false (.arr 64 .leaf) ((x::xs).map bv),.hole]⟩):=by
   have e1':ask (den T A) F4h [(D.int .i64 p),.sl (.arr 64 .leaf) [],(D.arr 64 .leaf (aq .u8 (pad (row x))))]=some (.sl (.arr 64 .leaf) ((ki [] x).map bv)):=e1;generalize pad (row x)=Px at *;generalize (ki [] x).map bv=QD at *;generalize (x::xs).map bv=XD at *;generalize (x::xs).length=xl at *;simp -implicitDefEqProofs [Z4t_L0,au,h0,hX,hx2,e1',w64]
  have e4:=bq e3 e2;refine i4 hT rfl ?_;generalize (di (x::xs) []).map bv=SD at *;generalize (x::xs).map bv=XD at *;generalize (x::xs).length=xl at *;simp -implicitDefEqProofs [Z4t,Z4t_B,e4,List.replicate]
def B9 (O:ap):Prop:=∀(p:Int) [IsP p] (cp:Option Nat),O F4t [(.d (.int .i64 p)),.sl 0 [] 0 0 cp] [.sl false (.arr 64 .leaf) []]=some (.sl 1 [] 0 0 (some 0),[.sl false (.arr 64 .leaf) []],[.sl false (.arr 64 .leaf) []])
theorem a4z (hT:T F4t=some Z4t):B9 (den T A):=by
 intro p ip cp;have st:=cg (O:=den T A) (np:=1) (c:=Z4t_L0) (s:=⟨[(0,(.d (.int .i64 p))),(1,.sl 0 [] 0 0 cp),(5,.sl 1 [] 0 0 (some 0)),(6,(.d (.int .i64 0)))],[.sl false (.arr 64 .leaf) [],.sl false (.arr 64 .leaf) []]⟩) (s1:=⟨[(0,(.d (.int .i64 p))),(1,.sl 0 [] 0 0 cp),(5,.sl 1 [] 0 0 (some 0)),(6,(.d (.int .i64 0))),(11,(.d (.bool false)))],[.sl false (.arr 64 .leaf) [],.sl false (.arr 64 .leaf) []]⟩) (id:=0) (by simp -implicitDefEqProofs [Z4t_L0,au])
 refine i4 hT rfl ?_;simp -implicitDefEqProofs [Z4t,Z4t_B,st,List.replicate]
theorem a8q {O:ap} (hd:Hp O) (hsp:Gf O) (hs0:B9 O) (hpu:zk O) {p:Int} [IsP p] {m:List Int} {n:Nat} (hn:n≤10) {kk:Int}:∀(r t:Nat) (b:Blk) (S:List (Fp p)) (cp:Option Nat),t+r=4→Src b→(∀x∈S,x.len≤11)→S.length≤1000→∃(b':Blk) (S':List (Fp p)) (cp':Option Nat),Src b'∧(∀x∈S',x.len≤11)∧S'.length≤S.length+1 ∧
 (dn O 1 (.loop Z4s_L0) ⟨[(0,.ptr 0 []),(1,(.d (.int .i64 p))),(5,.ptr 1 []),(7,.sl 2 [] 0 S.length cp),(8,(.d (.int .i64 (((n+1:Nat):Int))))),(9,(.d (.int .i64 kk))),(10,(.d (.int .i64 t)))],[b,.box false (D.arr 64 .leaf (aq .u8 m)),.sl false (.arr 64 .leaf) (S.map bv),.hole,.hole,.hole,.hole,.hole,.hole,.hole,.hole]⟩ =
  some (.exit 2,⟨[(0,.ptr 0 []),(1,(.d (.int .i64 p))),(5,.ptr 1 []),(7,.sl 2 [] 0 S'.length cp'),(8,(.d (.int .i64 (((n+1:Nat):Int))))),(9,(.d (.int .i64 kk))),(10,(.d (.int .i64 4))),(33,(.d (.bool false)))],[b',.box false (D.arr 64 .leaf (aq .u8 m)),.sl false (.arr 64 .leaf) (S'.map bv),.hole,.hole,.hole,.hole,.hole,.hole,.hole,.hole]⟩) ∨
 dn O 1 (.loop Z4s_L0) ⟨[(0,.ptr 0 []),(1,(.d (.int .i64 p))),(5,.ptr 1 []),(7,.sl 2 [] 0 S.length cp),(8,(.d (.int .i64 (((n+1:Nat):Int))))),(9,(.d (.int .i64 kk))),(10,(.d (.int .i64 t)))],[b,.box false (D.arr 64 .leaf (aq .u8 m)),.sl false (.arr 64 .leaf) (S.map bv),.hole,.hole,.hole,.hole,.hole,.hole,.hole,.hole]⟩ =
  some (.exit 2,⟨[(0,.ptr 0 []),(1,(.d (.int .i64 p))),(5,.ptr 1 []),(7,.sl 2 [] 0 S'.length cp'),(8,(.d (.int .i64 (((n+1:Nat):Int))))),(9,(.d (.int .i64 kk)))],[b',.box false (D.arr 64 .leaf (aq .u8 m)),.sl false (.arr 64 .leaf) (S'.map bv),.hole,.hole,.hole,.hole,.hole,.hole,.hole,.hole]⟩))
 | 0,t,b,S,cp,ht,hs,hS,hl=>by
  obtain rfl:t=4:=by omega
  refine ⟨b,S,cp,hs,hS,by omega,.inl (cg ?_)⟩
  obtain ⟨_,_,_,rfl,_⟩:=hs;generalize S.map bv=SD at *;generalize ((n+1:Nat):Int)=n1 at *;simp -implicitDefEqProofs [Z4s_L0,au]
 | r+1,t,b,S,cp,ht,hs,hS,hl=>by
  have ht4:(t:Int)<4:=by omega
  obtain ⟨a,b1,e1,hs1,ha⟩:=hd p b n hs (by omega)
  have e2:0<S.length∧O F4t [(.d (.int .i64 p)),.sl 0 [] 0 S.length cp] [.sl false (.arr 64 .leaf) (S.map bv)]=some (.d (.sl (.arr 64 .leaf) ((di S []).map bv)),[.sl false (.arr 64 .leaf) (S.map bv)],[]) ∨
   S=[]∧O F4t [(.d (.int .i64 p)),.sl 0 [] 0 0 cp] [.sl false (.arr 64 .leaf) []]=some (.sl 1 [] 0 0 (some 0),[.sl false (.arr 64 .leaf) []],[.sl false (.arr 64 .leaf) []]):=by
   cases S with
   | nil=>exact .inr ⟨rfl,hs0 p cp⟩
   | cons x S=>exact .inl ⟨by rw [b9]; omega,hsp p (x::S) cp hS (by omega) (by rw [b9]; omega)⟩
  have hD:Desc 11 (di S []):=sr (Desc.nil 11) hS;have e3:=hpu p (di S []) a hD (by omega)
  have w1:IntKind.i64.wrap (((n+1:Nat):Int)-1)=(n:Int):=(w64 (by omega)).trans (by omega)
  have w4:IntKind.i64.wrap ((t:Int)+1)=((t+1:Nat):Int):=(w64 (x:=(t:Int)+1) (by omega)).trans (by omega)
  have hSL:(S.map bv).length=S.length:=ab ..;have hSt:(S.map bv).take S.length=S.map bv:=b7 (by omega)
  have h1L:((di S []).map bv).length=(di S []).length:=ab ..;have h2L:((ki (di S []) a).map bv).length=(ki (di S []) a).length:=ab ..;have h200:(S.length+1)*64≤1099511627776:=by omega
  by_cases hgt:(di S []).length<(ki (di S []) a).length
  ·refine ⟨b1,S++[a],none,hs1,fun x hx=>?_,by rw [b8,ez]; omega,.inr (cg ?_)⟩
   ·rcases bi.1 hx with h | h
    ·exact hS x h
    ·rw [cj.1 h]; omega
   ·rw [b8,ez,show (S++[a]).map bv=S.map bv++[(D.arr 64 .leaf (aq .u8 (pad (row a))))] by rw [cn]; rfl]
    obtain ⟨_,_,_,rfl,_⟩:=hs;obtain ⟨_,_,_,rfl,_⟩:=hs1;rcases e2 with ⟨-,e2⟩ | ⟨rfl,e2⟩
    ·generalize S.map bv=SD at *
     generalize (di S []).map bv=S1 at *;generalize (ki (di S []) a).map bv=S2 at *;generalize (di S []).length=l1 at *;generalize (ki (di S []) a).length=l2 at *;generalize S.length=sl at *;generalize pad (row a)=Pa at *;generalize ((n+1:Nat):Int)=n1 at *;simp -implicitDefEqProofs [Z4s_L0,au,ht4,e1,e2,e3,w1,hSL,hSt,h1L,h2L,h200,hgt,List.replicate,List.idxOf,List.findIdx,List.findIdx.go]
    ·rw [show di ([]:List (Fp p)) []=[] from rfl] at *
     simp only [fi,cb] at *;generalize (ki [] a).map bv=S2 at *;generalize (ki [] a).length=l2 at *;generalize pad (row a)=Pa at *;generalize ((n+1:Nat):Int)=n1 at *;simp -implicitDefEqProofs [Z4s_L0,au,ht4,e1,e2,e3,w1,h2L,hgt,List.replicate,List.idxOf,List.findIdx,List.findIdx.go]
  ·obtain ⟨b',S',cp',g1,g2,g3,ih⟩:=a8q hd hsp hs0 hpu (p:=p) (m:=m) hn (kk:=kk) r (t+1) b1 S cp (by omega) hs1 hS hl
   have key:dn O 1 Z4s_L0 ⟨[(0,.ptr 0 []),(1,(.d (.int .i64 p))),(5,.ptr 1 []),(7,.sl 2 [] 0 S.length cp),(8,(.d (.int .i64 (((n+1:Nat):Int))))),(9,(.d (.int .i64 kk))),(10,(.d (.int .i64 t)))],[b,.box false (D.arr 64 .leaf (aq .u8 m)),.sl false (.arr 64 .leaf) (S.map bv),.hole,.hole,.hole,.hole,.hole,.hole,.hole,.hole]⟩ =
    some (.normal,⟨[(0,.ptr 0 []),(1,(.d (.int .i64 p))),(5,.ptr 1 []),(7,.sl 2 [] 0 S.length cp),(8,(.d (.int .i64 (((n+1:Nat):Int))))),(9,(.d (.int .i64 kk))),(10,(.d (.int .i64 (((t+1:Nat):Int)))))],[b1,.box false (D.arr 64 .leaf (aq .u8 m)),.sl false (.arr 64 .leaf) (S.map bv),.hole,.hole,.hole,.hole,.hole,.hole,.hole,.hole]⟩):=by
    obtain ⟨_,_,_,rfl,_⟩:=hs;obtain ⟨_,_,_,rfl,_⟩:=hs1;rcases e2 with ⟨-,e2⟩ | ⟨rfl,e2⟩
    ·generalize S.map bv=SD at *
     generalize (di S []).map bv=S1 at *;generalize (ki (di S []) a).map bv=S2 at *;generalize (di S []).length=l1 at *;generalize (ki (di S []) a).length=l2 at *;generalize S.length=sl at *;generalize pad (row a)=Pa at *;generalize ((n+1:Nat):Int)=n1 at *;generalize ((t+1:Nat):Int)=t1 at *;simp -implicitDefEqProofs [Z4s_L0,au,ht4,e1,e2,e3,w1,w4,h1L,h2L,hgt,List.idxOf,List.findIdx,List.findIdx.go]
    ·rw [show di ([]:List (Fp p)) []=[] from rfl] at *
     simp only [fi,cb] at *;generalize (ki [] a).map bv=S2 at *;generalize (ki [] a).length=l2 at *;generalize pad (row a)=Pa at *;generalize ((n+1:Nat):Int)=n1 at *;generalize ((t+1:Nat):Int)=t1 at *;simp -implicitDefEqProofs [Z4s_L0,au,ht4,e1,e2,e3,w1,w4,h2L,hgt,List.idxOf,List.findIdx,List.findIdx.go]
   exact ⟨b',S',cp',g1,g2,g3,ih.imp (bq key) (bq key)⟩
theorem a04 {O:ap} (hd:Hp O) (hsp:Gf O) (hs0:B9 O) (hpu:zk O) {p:Int} [IsP p] {m:List Int} {n:Nat} (hn:n≤10):∀(k:Nat) (b:Blk) (S:List (Fp p)) (cp:Option Nat),Src b→(∀x∈S,x.len≤11)→S.length+k≤900→∃(b':Blk) (S':List (Fp p)) (cp':Option Nat),Src b'∧(∀x∈S',x.len≤11)∧S'.length≤S.length+k ∧
 dn O 1 (.loop Z4s_L1) ⟨[(0,.ptr 0 []),(1,(.d (.int .i64 p))),(5,.ptr 1 []),(7,.sl 2 [] 0 S.length cp),(8,(.d (.int .i64 (((n+1:Nat):Int))))),(9,(.d (.int .i64 ((k:Int)))))],[b,.box false (D.arr 64 .leaf (aq .u8 m)),.sl false (.arr 64 .leaf) (S.map bv),.hole,.hole,.hole,.hole,.hole,.hole,.hole,.hole]⟩ =
  some (.exit 0,⟨[(0,.ptr 0 []),(1,(.d (.int .i64 p))),(5,.ptr 1 []),(7,.sl 2 [] 0 S'.length cp'),(8,(.d (.int .i64 (((n+1:Nat):Int))))),(9,(.d (.int .i64 0))),(29,(.d (.bool false)))],[b',.box false (D.arr 64 .leaf (aq .u8 m)),.sl false (.arr 64 .leaf) (S'.map bv),.hole,.hole,.hole,.hole,.hole,.hole,.hole,.hole]⟩)
 | 0,b,S,cp,hs,hS,hl=>by
  refine ⟨b,S,cp,hs,hS,by omega,cg ?_⟩
  obtain ⟨_,_,_,rfl,_⟩:=hs;generalize S.map bv=SD at *;generalize ((n+1:Nat):Int)=n1 at *;simp -implicitDefEqProofs [Z4s_L1,au]
 | k+1,b,S,cp,hs,hS,hl=>by
  have hk0:(0:Int)<((k+1:Nat):Int):=by omega
  have w4:IntKind.i64.wrap (((k+1:Nat):Int)-1)=(k:Int):=(w64 (by omega)).trans (by omega)
  obtain ⟨b1,S1,cp1,g1,g2,g3,e1⟩:=a8q hd hsp hs0 hpu (p:=p) (m:=m) hn (kk:=((k+1:Nat):Int)) 4 0 b S cp rfl hs hS (by omega)
  rw [show ((0:Nat):Int)=0 from rfl] at e1;obtain ⟨b',S',cp',i1,i2,i3,ih⟩:=a04 hd hsp hs0 hpu (p:=p) (m:=m) hn k b1 S1 cp1 g1 g2 (by omega)
  refine ⟨b',S',cp',i1,i2,by omega,bq ?_ ih⟩
  obtain ⟨_,_,_,rfl,_⟩:=hs;obtain ⟨_,_,_,rfl,_⟩:=g1;generalize S.map bv=SD at *;generalize S1.map bv=SD1 at *;generalize S.length=sl at *;generalize S1.length=sl1 at *;generalize ((n+1:Nat):Int)=n1 at *;generalize ((k+1:Nat):Int)=k1 at *;rcases e1 with e1 | e1
  ·simp -implicitDefEqProofs [Z4s_L1,au,hk0,e1,w4]
  ·simp -implicitDefEqProofs [Z4s_L1,au,hk0,e1,w4]
def B8 (O:ap):Prop:=∀(p:Int) [IsP p] (m:List Int) (b:Blk),Src b→Arr m→jn m 64≤5→∃(Q:List (List Int)) (cp:Option Nat) (b':Blk),O F4s [.ptr 0 [],(.d (.int .i64 p)),.d (D.arr 64 .leaf (aq .u8 m))] [b]=some (.sl 1 [] 0 Q.length cp,[b'],[.sl false (.arr 64 .leaf) (Q.map ce)])∧Src b'∧v6 Q∧Q.length≤1000
theorem Ux (hT:T F4s=some Z4s) (hdg:Dl (den T A)) (hn:px (den T A) F40) (hli:Hx (den T A)) (hd:Hp (den T A)) (hsp:Gf (den T A)) (hs0:B9 (den T A)) (hpu:zk (den T A)) (hr:jr (den T A)):B8 (den T A):=by
 intro p ip m b hs am bm;have e1:=hdg m am.1
 obtain ⟨n,hn4,hnd⟩:∃n:Nat,n≤4∧(if (jn m 64:Int)-1<1 then (1:Int) else (jn m 64:Int)-1)=((n+1:Nat):Int):=by
  split
  ·exact ⟨0,by omega,rfl⟩
  ·exact ⟨jn m 64-2,by omega,by omega⟩
 obtain ⟨x,b1,e2,hs1,x0,x1⟩:=hn b 6 hs (by omega)
 by_cases hx:x=0
 ·obtain ⟨Q,cp,b2,e3,hs2,hQ,hQl⟩:=hli p m b1 hs1 am
  refine ⟨Q,cp,b2,i4 hT rfl ?_,hs2,hQ,hQl⟩;obtain ⟨_,_,_,rfl,_⟩:=hs;obtain ⟨_,_,_,rfl,_⟩:=hs1;obtain ⟨_,_,_,rfl,_⟩:=hs2;generalize Q.map ce=QD at *;generalize Q.length=ql at *;generalize (jn m 64:Int)-1=dg at *;simp -implicitDefEqProofs [Z4s,Z4s_B,au,e1,e2,e3,hx,List.replicate,List.idxOf,List.findIdx,List.findIdx.go]
 ·obtain ⟨lim,hlim⟩:∃lim:Int,lim=if (4:Int)<((n+1:Nat):Int) then 4 else ((n+1:Nat):Int):=⟨_,rfl⟩
  have hl4:lim≤4:=by rw [hlim]; split <;> omega
  obtain ⟨y,b2,e3,hs2,y0,y1⟩:=hn b1 lim hs1 (by omega)
  obtain ⟨k,hk⟩:∃k:Nat,(k:Int)=1+y:=⟨(1+y).toNat,by omega⟩
  have w1:IntKind.i64.wrap (1+y)=(k:Int):=(w64 (by omega)).trans hk.symm
  obtain ⟨b3,S,cp,hs3,hS,hSl,st⟩:=a04 (O:=den T A) hd hsp hs0 hpu (p:=p) (m:=m) (n:=n) (by omega) k b2 [] (some 0) hs2 (fun x hx=>by cases hx) (by simp; omega)
  rw [show ([]:List (Fp p)).length=0 from rfl,show ([]:List (Fp p)).map bv=[] from rfl] at st;obtain ⟨v,b4,e4,hs4,-,-⟩:=hn b3 30 hs3 (by omega)
  have hSD:(S.map bv).length=S.length:=ab ..;have htq:(S.map bv).take S.length=S.map bv:=b7 (by omega)
  rw [show ([]:List (Fp p)).length=0 from rfl] at hSl;have hmd:(S.map fun a=>pad (row a)).map ce=S.map bv:=ia S
  by_cases hv:v=0
  ·obtain ⟨a,b5,e5,hs5,aa⟩:=hr p m b4 hs4 am
   have h200:(S.length+1)*64≤1099511627776:=by omega
   refine ⟨(S.map fun a=>pad (row a))++[a],none,b5,i4 hT rfl ?_,hs5,fun l hl=>?_,by rw [b8,ab,ez]; omega⟩
   ·rw [b8,ab,ez,cn,hmd,show [a].map ce=[(D.arr 64 .leaf (aq .u8 a))] from rfl]
    obtain ⟨_,_,_,rfl,_⟩:=hs;obtain ⟨_,_,_,rfl,_⟩:=hs1;obtain ⟨_,_,_,rfl,_⟩:=hs2;obtain ⟨_,_,_,rfl,_⟩:=hs3;obtain ⟨_,_,_,rfl,_⟩:=hs4;obtain ⟨_,_,_,rfl,_⟩:=hs5;generalize S.map bv=SD at *;generalize S.length=sl at *;generalize ((n+1:Nat):Int)=n1 at *;generalize (jn m 64:Int)-1=dg at *;subst hnd;rw [hlim] at e3;simp -implicitDefEqProofs [Z4s,Z4s_B,au,e1,e2,e3,e4,e5,st,w1,hx,hv,hSD,htq,h200,List.replicate,List.idxOf,List.findIdx,List.findIdx.go]
   ·rcases bi.1 hl with h | h
    ·obtain ⟨s,_,rfl⟩:=ct.1 h
     exact E7 s
    ·rw [cj.1 h]; exact aa
  ·refine ⟨S.map fun a=>pad (row a),cp,b4,i4 hT rfl ?_,hs4,fun l hl=>?_,by rw [ab]; omega⟩
   ·rw [ab,hmd]
    obtain ⟨_,_,_,rfl,_⟩:=hs;obtain ⟨_,_,_,rfl,_⟩:=hs1;obtain ⟨_,_,_,rfl,_⟩:=hs2;obtain ⟨_,_,_,rfl,_⟩:=hs3;obtain ⟨_,_,_,rfl,_⟩:=hs4;generalize S.map bv=SD at *;generalize S.length=sl at *;generalize ((n+1:Nat):Int)=n1 at *;generalize (jn m 64:Int)-1=dg at *;subst hnd;rw [hlim] at e3;simp -implicitDefEqProofs [Z4s,Z4s_B,au,e1,e2,e3,e4,st,w1,hx,hv,List.replicate,List.idxOf,List.findIdx,List.findIdx.go]
   ·obtain ⟨s,_,rfl⟩:=ct.1 hl
    exact E7 s
def p8 (O:ap) (F:Nat):Prop:=∀code:List Int,je code→code.length≤4096→∃(p:Int) (m:List Int) (ls:List (List Int)),ask O F [(.sl .leaf (aq .u8 code))]=some (.tup [(D.int .i64 p),(D.arr 64 .leaf (aq .u8 m)),.sl (.arr 64 .leaf) (ls.map ce)])∧Arr m∧v6 ls∧ls.length≤1000
theorem Nv (hT:T F3b=some Z3b) (hf:D8 (den T A)) (hfi:sm (den T A)) (hpl:B8 (den T A)):p8 (den T A) F3b:=by
 intro code hb hcl;obtain ⟨b0,e0,hs0⟩:=hf code hb hcl;obtain ⟨p,m,b1,e1,hs1,ip,am,bm⟩:=hfi b0 hs0;obtain ⟨Q,cp,b2,e2,hs2,hQ,hQl⟩:=hpl p m b1 hs1 am bm;refine ⟨p,m,Q,ch hT rfl ?_,am,hQ,hQl⟩;have hQD:(Q.map ce).length=Q.length:=ab ..;have htq:(Q.map ce).take Q.length=Q.map ce:=b7 (by omega)
 obtain ⟨_,_,_,rfl,_⟩:=hs0;obtain ⟨_,_,_,rfl,_⟩:=hs1;obtain ⟨_,_,_,rfl,_⟩:=hs2;generalize Q.map ce=QD at *;generalize Q.length=ql at *;simp -implicitDefEqProofs [Z3b,Z3b_B,e0,e1,e2,hQD,htq,List.replicate,List.idxOf,List.findIdx,List.findIdx.go]
theorem Qx (hT:T F3e=some Z3e) (hf:D8 (den T A)) (hfi:sm (den T A)) (hn:px (den T A) F40) (hw:vu (den T A)):p8 (den T A) F3e:=by
 intro code hb hcl;obtain ⟨b0,e0,hs0⟩:=hf code hb hcl;obtain ⟨p,m,b1,e1,hs1,ip,am,bm⟩:=hfi b0 hs0;obtain ⟨x,b2,e2,hs2,x0,x1⟩:=hn b1 7 hs1 (by omega)
 obtain ⟨n,rfl⟩:∃n:Nat,x=n:=⟨x.toNat,by omega⟩
 obtain ⟨Q,cp,b3,e3,hs3,hQ,hQl⟩:=hw p m b2 n hs2 am (by omega)
 refine ⟨p,m,Q,ch hT rfl ?_,am,hQ,by omega⟩
 have hQD:(Q.map ce).length=Q.length:=ab ..;have htq:(Q.map ce).take Q.length=Q.map ce:=b7 (by omega)
 obtain ⟨_,_,_,rfl,_⟩:=hs0;obtain ⟨_,_,_,rfl,_⟩:=hs1;obtain ⟨_,_,_,rfl,_⟩:=hs2;obtain ⟨_,_,_,rfl,_⟩:=hs3;generalize Q.map ce=QD at *;generalize Q.length=ql at *;simp -implicitDefEqProofs [Z3e,Z3e_B,e0,e1,e2,e3,hQD,htq,List.replicate,List.idxOf,List.findIdx,List.findIdx.go]
theorem Iw (hT:T F3a=some Z3a) (hf:D8 (den T A)) (hfi:sm (den T A)) (hn:px (den T A) F40) (hw:vu (den T A)):p8 (den T A) F3a:=by
 intro code hb hcl;obtain ⟨b0,e0,hs0⟩:=hf code hb hcl;obtain ⟨p,m,b1,e1,hs1,ip,am,bm⟩:=hfi b0 hs0;obtain ⟨x,b2,e2,hs2,x0,x1⟩:=hn b1 5 hs1 (by omega)
 obtain ⟨n,rfl⟩:∃n:Nat,x=n:=⟨x.toNat,by omega⟩
 obtain ⟨Q,cp,b3,e3,hs3,hQ,hQl⟩:=hw p m b2 n hs2 am (by omega)
 refine ⟨p,m,Q,ch hT rfl ?_,am,hQ,by omega⟩
 have hQD:(Q.map ce).length=Q.length:=ab ..;have htq:(Q.map ce).take Q.length=Q.map ce:=b7 (by omega)
 obtain ⟨_,_,_,rfl,_⟩:=hs0;obtain ⟨_,_,_,rfl,_⟩:=hs1;obtain ⟨_,_,_,rfl,_⟩:=hs2;obtain ⟨_,_,_,rfl,_⟩:=hs3;generalize Q.map ce=QD at *;generalize Q.length=ql at *;simp -implicitDefEqProofs [Z3a,Z3a_B,e0,e1,e2,e3,hQD,htq,List.replicate,List.idxOf,List.findIdx,List.findIdx.go]
theorem H6 (hT:T F3d=some Z3d) (hf:D8 (den T A)) (hfi:sm (den T A)) (hn:px (den T A) F40) (hw:vu (den T A)):p8 (den T A) F3d:=by
 intro code hb hcl;obtain ⟨b0,e0,hs0⟩:=hf code hb hcl;obtain ⟨p,m,b1,e1,hs1,ip,am,bm⟩:=hfi b0 hs0;obtain ⟨x,b2,e2,hs2,x0,x1⟩:=hn b1 6 hs1 (by omega)
 obtain ⟨n,rfl⟩:∃n:Nat,x=n:=⟨x.toNat,by omega⟩
 obtain ⟨Q,cp,b3,e3,hs3,hQ,hQl⟩:=hw p m b2 n hs2 am (by omega)
 refine ⟨p,m,Q,ch hT rfl ?_,am,hQ,by omega⟩
 have hQD:(Q.map ce).length=Q.length:=ab ..;have htq:(Q.map ce).take Q.length=Q.map ce:=b7 (by omega)
 obtain ⟨_,_,_,rfl,_⟩:=hs0;obtain ⟨_,_,_,rfl,_⟩:=hs1;obtain ⟨_,_,_,rfl,_⟩:=hs2;obtain ⟨_,_,_,rfl,_⟩:=hs3;generalize Q.map ce=QD at *;generalize Q.length=ql at *;simp -implicitDefEqProofs [Z3d,Z3d_B,e0,e1,e2,e3,hQD,htq,List.replicate,List.idxOf,List.findIdx,List.findIdx.go]
def sj (O:ap):Prop:=∀code:List Int,je code→code.length≤4096→∃(p:Int) (m:List Int) (vs ws:List (List Int)),ask O F3c [(.sl .leaf (aq .u8 code))]=some (.tup [(D.int .i64 p),(D.arr 64 .leaf (aq .u8 m)),.sl (.arr 64 .leaf) (vs.map ce),.sl (.arr 64 .leaf) (ws.map ce)])∧Arr m∧v6 vs∧v6 ws∧vs.length+ws.length≤1000
theorem Da (hT:T F3c=some Z3c) (hf:D8 (den T A)) (hfi:sm (den T A)) (hn:px (den T A) F40) (hw:vu (den T A)):sj (den T A):=by
 intro code hb hcl;obtain ⟨b0,e0,hs0⟩:=hf code hb hcl;obtain ⟨p,m,b1,e1,hs1,ip,am,bm⟩:=hfi b0 hs0;obtain ⟨x,b2,e2,hs2,x0,x1⟩:=hn b1 4 hs1 (by omega)
 obtain ⟨n,hnx⟩:∃n:Nat,(n:Int)=1+x:=⟨(1+x).toNat,by omega⟩
 have w1:IntKind.i64.wrap (1+x)=(n:Int):=(w64 (by omega)).trans hnx.symm
 obtain ⟨Q,cq,b3,e3,hs3,hQ,hQl⟩:=hw p m b2 n hs2 am (by omega)
 obtain ⟨R,cr,b4,e4,hs4,hR,hRl⟩:=hw p m b3 n hs3 am (by omega)
 obtain ⟨y,b5,e5,hs5,y0,y1⟩:=hn b4 12 hs4 (by omega)
 have hQD:(Q.map ce).length=Q.length:=ab ..;have htq:(Q.map ce).take Q.length=Q.map ce:=b7 (by omega)
 have hRD:(R.map ce).length=R.length:=ab ..;have htr:(R.map ce).take R.length=R.map ce:=b7 (by omega)
 obtain ⟨_,_,_,rfl,_⟩:=hs0;obtain ⟨_,_,_,rfl,_⟩:=hs1;obtain ⟨_,_,_,rfl,_⟩:=hs2;obtain ⟨_,_,_,rfl,_⟩:=hs3;obtain ⟨_,_,_,rfl,_⟩:=hs4;obtain ⟨_,_,_,rfl,_⟩:=hs5
 by_cases h0:y=0
 ·refine ⟨p,m,Q,Q,ch hT rfl ?_,am,hQ,hQ,by omega⟩
  generalize Q.map ce=QD at *;generalize Q.length=ql at *;generalize R.map ce=RD at *;generalize R.length=rl at *;simp -implicitDefEqProofs [Z3c,Z3c_B,au,e0,e1,e2,e3,e4,e5,h0,w1,hQD,htq,List.replicate,List.idxOf,List.findIdx,List.findIdx.go]
 ·by_cases h1:y=1
  ·refine ⟨p,m,Q,R.tail,ch hT rfl ?_,am,hQ,fun l hl=>hR l (List.mem_of_mem_tail hl),by rw [List.length_tail]; omega⟩
   have hR1:1≤R.length:=by omega
   have htl:(R.map ce).tail.take (R.length-1)=R.tail.map ce:=by
    rw [←List.map_tail,b7 (by rw [ab,List.length_tail]; exact bp _)]
   generalize R.tail.map ce=TD at *;generalize Q.map ce=QD at *;generalize Q.length=ql at *;generalize R.map ce=RD at *;generalize R.length=rl at *;simp -implicitDefEqProofs [Z3c,Z3c_B,au,e0,e1,e2,e3,e4,e5,h1,w1,hQD,htq,hRD,htl,hR1,List.replicate,List.idxOf,List.findIdx,List.findIdx.go]
  ·refine ⟨p,m,Q,R,ch hT rfl ?_,am,hQ,hR,by omega⟩
   generalize Q.map ce=QD at *;generalize Q.length=ql at *;generalize R.map ce=RD at *;generalize R.length=rl at *;simp -implicitDefEqProofs [Z3c,Z3c_B,au,e0,e1,e2,e3,e4,e5,h0,h1,w1,hQD,htq,hRD,htr,List.replicate,List.idxOf,List.findIdx,List.findIdx.go]
end Pe
namespace Pe
open Go Gq
section
variable {p:Int} {m:Fp p}
theorem Ms (f g:Nat→Quo m):∀n,jg (fun i=>f i+g i) n=jg f n+jg g n
 | 0=>(Gq.add_zero _).symm
 | n+1=>by
  show jg (fun i=>f i+g i) n+(f n+g n)=(jg f n+f n)+(jg g n+g n)
  rw [Ms f g n];exact bo [jg f n,jg g n,f n,g n] rfl
theorem H3 (c:Quo m) (f:Nat→Quo m):∀n,jg (fun i=>c*f i) n=c*jg f n
 | 0=>(Gq.mul_zero _).symm
 | n+1=>by
  show jg (fun i=>c*f i) n+c*f n=c*(jg f n+f n)
  rw [H3 c f n,Gq.mul_add]
theorem Oz (c:Quo m) (f:Nat→Quo m):∀n,jg (fun i=>f i*c) n=jg f n*c
 | 0=>(Gq.zero_mul _).symm
 | n+1=>by
  show jg (fun i=>f i*c) n+f n*c=(jg f n+f n)*c
  rw [Oz c f n,Gq.add_mul]
theorem a0r [IsP p] (k:Nat) (f:Nat→Quo m):∀n,sg k (jg f n)=jg (fun i=>sg k (f i)) n
 | 0=>vj k
 | n+1=>by
  show sg k (jg f n+f n)=jg (fun i=>sg k (f i)) n+sg k (f n)
  rw [Jb,a0r k f n]
theorem W0 (f:Nat→Nat→Quo m):∀n,jg (fun j=>jg (fun i=>f i (j-i)) (j+1)) n=jg (fun i=>jg (fun k=>f i k) (n-i)) n
 | 0=>rfl
 | n+1=>by
  show jg (fun j=>jg (fun i=>f i (j-i)) (j+1)) n+jg (fun i=>f i (n-i)) (n+1)=jg (fun i=>jg (fun k=>f i k) (n+1-i)) n+jg (fun k=>f n k) (n+1-n)
  have e:jg (fun i=>jg (fun k=>f i k) (n+1-i)) n=jg (fun i=>jg (fun k=>f i k) (n-i)+f i (n-i)) n:=qi n fun i hi=>by
   rw [show n+1-i=(n-i)+1 by omega]; rfl
  have e2:jg (fun k=>f n k) (n+1-n)=0+f n 0:=by rw [show n+1-n=0+1 by omega]; rfl
  have e3:jg (fun i=>f i (n-i)) (n+1)=jg (fun i=>f i (n-i)) n+f n 0:=by
   show _+f n (n-n)=_;rw [jh]
  rw [e,e2,e3,Ms,W0 f n];exact bo [jg (fun i=>jg (fun k=>f i k) (n-i)) n,jg (fun i=>f i (n-i)) n,f n 0] rfl
theorem cv_assoc [IsP p] (X Y Z:Nat→Quo m) (n:Nat):cv (cv X Y) Z n=cv X (cv Y Z) n:=by
 have e1:cv (cv X Y) Z n=jg (fun j=>jg (fun i=>(fun i k=>X i*sg i (Y k)*sg (i+k) (Z (n-i-k))) i (j-i)) (j+1)) (n+1):=qi _ fun j hj=>by
  show jg (fun i=>X i*sg i (Y (j-i))) (j+1)*sg j (Z (n-j))=_
  rw [←Oz]
  exact qi _ fun i hi=>by
   show _=X i*sg i (Y (j-i))*sg (i+(j-i)) (Z (n-i-(j-i)));rw [show i+(j-i)=j by omega,show n-i-(j-i)=n-j by omega]
 have e2:cv X (cv Y Z) n=jg (fun i=>jg (fun k=>(fun i k=>X i*sg i (Y k)*sg (i+k) (Z (n-i-k))) i k) (n+1-i)) (n+1):=qi _ fun i hi=>by
  show X i*sg i (jg (fun k=>Y k*sg k (Z (n-i-k))) (n-i+1))=_
  rw [a0r,←H3,show n+1-i=n-i+1 by omega]
  exact qi _ fun k hk=>by
   show X i*sg i (Y k*sg k (Z (n-i-k)))=X i*sg i (Y k)*sg (i+k) (Z (n-i-k));rw [ui,Gg,Gq.mul_assoc]
 rw [e1,e2];exact W0 (fun i k=>X i*sg i (Y k)*sg (i+k) (Z (n-i-k))) (n+1)
theorem aai [IsP p] (X X' Y:Nat→Quo m) (n:Nat):cv (fun i=>X i+X' i) Y n=cv X Y n+cv X' Y n:=by
 unfold cv;rw [←Ms];exact qi _ fun i _=>Gq.add_mul _ _ _
theorem a9k (Y:Nat→Quo m) (n:Nat):cv (fun _=>0) Y n=0:=Bt _ fun _i _=>Gq.zero_mul _
variable [IsP p]
end
section
variable {p:Int} {m:Fp p}
end
section
variable {p:Int} {m:Fp p}
variable [IsP p]
end
section
variable {p:Int} {m:Fp p}
def Dvr (D A:Nat→Quo m):Prop:=∃q:Nat→Quo m,(∃N,∀i,N≤i→q i=0)∧∀n,A n=cv q D n
theorem cv_one (X:Nat→Quo m) (n:Nat):cv e0 X n=X n:=by
 unfold cv;rw [Mj];have h:jg (fun i=>(e0:Nat→Quo m) (i+1)*sg (i+1) (X (n-(i+1)))) n=0:=Bt n fun i _=>Gq.zero_mul _
 rw [h,Gq.add_zero];exact Gq.one_mul _
theorem Dvr.self (D:Nat→Quo m):Dvr D D:=⟨e0,⟨1,fun i hi=>by obtain ⟨k,rfl⟩:∃k,i=k+1:=⟨i-1,by omega⟩; rfl⟩,fun n=>(cv_one D n).symm⟩
theorem Dvr.zero {D A:Nat→Quo m} (h:∀n,A n=0):Dvr D A:=⟨fun _=>0,⟨0,fun _ _=>rfl⟩,fun n=>(h n).trans (a9k D n).symm⟩
theorem Dvr.congr {D A B:Nat→Quo m} (h:Dvr D A) (e:∀n,B n=A n):Dvr D B:=by
 obtain ⟨q,hq,hA⟩:=h;exact ⟨q,hq,fun n=>(e n).trans (hA n)⟩
theorem Dvr.smul {D A:Nat→Quo m} (c:Quo m) (hA:Dvr D A):Dvr D fun n=>c*A n:=by
 obtain ⟨q,⟨N,hN⟩,h1⟩:=hA;refine ⟨fun i=>c*q i,⟨N,fun i hi=>by show c*q i=0; rw [hN i hi,Gq.mul_zero]⟩,fun n=>?_⟩
 show c*A n=_;rw [h1];unfold cv;rw [←H3];exact qi _ fun i _=>(Gq.mul_assoc _ _ _).symm
end
section
variable {p:Int} [IsP p] {m:Fp p}
theorem Dvr.add {D A B:Nat→Quo m} (hA:Dvr D A) (hB:Dvr D B):Dvr D fun n=>A n+B n:=by
 obtain ⟨q,⟨N,hN⟩,h1⟩:=hA;obtain ⟨r,⟨M,hM⟩,h2⟩:=hB;refine ⟨fun i=>q i+r i,⟨N+M,fun i hi=>by show q i+r i=0; rw [hN i (by omega),hM i (by omega),Gq.add_zero]⟩,fun n=>?_⟩
 show A n+B n=_;rw [aai,h1,h2]
theorem Dvr.left {D A:Nat→Quo m} {s:Nat→Quo m} (hs:∃N,∀i,N≤i→s i=0) (hA:Dvr D A):Dvr D (cv s A):=by
 obtain ⟨q,⟨N,hN⟩,h1⟩:=hA;obtain ⟨M,hM⟩:=hs;refine ⟨cv s q,⟨N+M,fun n hn=>Bt _ fun i _=>?_⟩,fun n=>?_⟩
 ·by_cases h:M≤i
  ·rw [hM i h,Gq.zero_mul]
  ·rw [hN (n-i) (by omega),vj,Gq.mul_zero]
 ·rw [cv_assoc,show A=cv q D from funext h1]
theorem ai9 (hm:Fld m) (X:List (Fp p)) (n:Nat):qcf m (a6o m X) n=Quo.mk m (jx m (cS X (X.length-1)))*qcf m X n:=by
 unfold qcf a6o;rw [a8m hm.mon.2,Pol.mk_mod,Quo.mk_mul]
theorem Dvr.mon (hm:Fld m) {D:Nat→Quo m} {X:List (Fp p)} (h:Dvr D (qcf m X)):Dvr D (qcf m (a6o m X)):=(h.smul _).congr fun n=>ai9 hm X n
end
section
variable {p:Int}
inductive Spn (L:List (Fp p)):Fp p→Prop
 | zero:Spn L 0
 | step {a b:Fp p} (k:Zp p) (ha:a∈L) (hb:Spn L b):Spn L (Pol.C k*a+b)
theorem Spn.mem {L:List (Fp p)} {a:Fp p} (h:a∈L):Spn L a:=by
 have:=Spn.step (1:Zp p) h .zero
 rwa [Pol.C_one,Gq.one_mul,Gq.add_zero] at this
theorem Spn.add {L:List (Fp p)} {a b:Fp p} (ha:Spn L a) (hb:Spn L b):Spn L (a+b):=by
 induction ha with
 | zero=>rw [Gq.zero_add]; exact hb
 | step k h1 h2 ih=>rw [Gq.add_assoc]; exact .step k h1 ih
theorem Spn.smul {L:List (Fp p)} {a:Fp p} (k:Zp p) (ha:Spn L a):Spn L (Pol.C k*a):=by
 induction ha with
 | zero=>rw [Gq.mul_zero]; exact .zero
 | step c h1 h2 ih=>rw [Gq.mul_add,←Gq.mul_assoc,←Pol.C_mul]; exact .step _ h1 ih
theorem Spn.neg [IsP p] {L:List (Fp p)} {a:Fp p} (ha:Spn L a):Spn L (-a):=by
 have:=ha.smul (-1)
 rwa [Pol.C_neg,Pol.C_one,xk,Gq.one_mul] at this
theorem Spn.sub [IsP p] {L:List (Fp p)} {a b:Fp p} (ha:Spn L a) (hb:Spn L b):Spn L (a-b):=by rw [Gq.sub_eq]; exact ha.add hb.neg
theorem Spn.inside {L:List (Fp p)} {S:Fp p→Prop} (h0:S 0) (hs:∀(k:Zp p) a b,S a→S b→S (Pol.C k*a+b)) (h:∀a∈L,S a) {a:Fp p} (ha:Spn L a):S a:=by
 induction ha with
 | zero=>exact h0
 | step k h1 _ ih=>exact hs k _ _ (h _ h1) ih
theorem Spn.sup [IsP p] {L M:List (Fp p)} (h:∀a∈L,Spn M a) {a:Fp p} (ha:Spn L a):Spn M a:=
 ha.inside .zero (fun k _ _ h1 h2=>(h1.smul k).add h2) h
theorem a8n (a x y:Fp p):elim a (x+y)=elim a x+elim a y:=by
 unfold elim;rw [Pol.c_add,xm,Pol.C_add];exact bo [x,y,a,Pol.C (-(x.c (a.len-1))),Pol.C (-(y.c (a.len-1)))] rfl
theorem a6l (a x:Fp p) (k:Zp p):elim a (Pol.C k*x)=Pol.C k*elim a x:=by
 unfold elim;rw [Pol.c_Cmul,show -(k*x.c (a.len-1))=k * -(x.c (a.len-1)) from bo [k,x.c (a.len-1)] rfl,Pol.C_mul];exact bo [Pol.C k,x,a,Pol.C (-(x.c (a.len-1)))] rfl
theorem L2 [IsP p]:∀(L:List (Fp p)) (x y:Fp p),dl L (x+y)=dl L x+dl L y
 | [],_,_=>rfl
 | b::L,x,y=>by
  show dl L (elim b (x+y))=_;rw [a8n,L2 L]; rfl
theorem La [IsP p]:∀(L:List (Fp p)) (k:Zp p) (x:Fp p),dl L (Pol.C k*x)=Pol.C k*dl L x
 | [],_,_=>rfl
 | b::L,k,x=>by
  show dl L (elim b (Pol.C k*x))=_;rw [a6l,La L]; rfl
theorem a7n [IsP p] (L:List (Fp p)):dl L 0=0:=by
 have:=La L 0 0
 rwa [Pol.C_zero,Gq.zero_mul,Gq.zero_mul] at this
theorem Hj {a x:Fp p} (h:x.c (a.len-1)=0):elim a x=x:=by
 unfold elim; rw [h,th,Pol.C_zero,Gq.zero_mul,Gq.add_zero]
theorem a28 [IsP p]:∀{L:List (Fp p)} {x:Fp p},(∀b∈L,x.c (b.len-1)=0)→dl L x=x
 | [],_,_=>rfl
 | b::L,x,h=>by
  show dl L (elim b x)=x;rw [Hj (h b (by simp)),a28 fun c hc=>h c (by simp [hc])]
theorem G7 [IsP p]:∀(L:List (Fp p)) (x:Fp p),Spn L (x-dl L x)
 | [],x=>by
  show Spn [] (x-x);rw [Gq.sub_self]; exact .zero
 | b::L,x=>by
  show Spn (b::L) (x-dl L (elim b x));have h1:Spn (b::L) (elim b x-dl L (elim b x)):=(G7 L (elim b x)).sup fun a ha=>.mem (by simp [ha])
  have h2:=Spn.step (L:=b::L) (x.c (b.len-1)) (show b∈b::L by simp) h1
  have e:Pol.C (x.c (b.len-1))*b+(elim b x-dl L (elim b x))=x-dl L (elim b x):=by
   generalize hr:dl L (elim b x)=r;unfold elim;rw [Pol.C_neg];exact bo [Pol.C (x.c (b.len-1)),b,x,r] rfl
  rwa [e] at h2
theorem Mw [IsP p] {N:Nat}:∀{L:List (Fp p)} {x:Fp p},Desc N L→x∈L→dl L x=0
 | b::L,x,h,hx=>by
  obtain ⟨h1,h2⟩:=h.tail;show dl L (elim b x)=0;rcases dt.1 hx with rfl | hx
  ·have hm:=h.mon x (by simp)
   have:elim x x=0:=by
    unfold elim;rw [show x.c (x.len-1)=1 from hm.1,Pol.C_neg,Pol.C_one,xk,Gq.one_mul,Gq.add_neg]
   rw [this,a7n]
  ·rw [Hj (Xm (by have:=h2 x hx; omega)),Mw h1 hx]
theorem Eh [IsP p] {N:Nat} {L:List (Fp p)} (h:Desc N L) (x:Fp p):dl L x=0↔Spn L x:=by
 constructor
 ·intro h0
  have:=G7 L x
  rwa [h0,show x-0=x from bo [x] rfl] at this
 ·intro hs
  exact hs.inside (S:=fun x=>dl L x=0) (a7n L) (fun k a b h1 h2=>by rw [L2,La,h1,h2,Gq.mul_zero,Gq.add_zero]) fun a ha=>Mw h ha
def Rdc (L:List (Fp p)):Prop:=∀b∈L,∀c∈L,b≠c→b.c (c.len-1)=0
theorem Rdc.nil:Rdc ([]:List (Fp p)):=fun _ h=>by cases h
theorem Ec [IsP p] {N:Nat}:∀{L:List (Fp p)},Desc N L→∀{b c:Fp p},b∈L→c∈L→b.len=c.len→b=c
 | a::L,h,b,c,hb,hc,e=>by
  obtain ⟨h1,h2⟩:=h.tail;rcases dt.1 hb with eb | hb <;> rcases dt.1 hc with ec | hc
  ·rw [eb,ec]
  ·have:=h2 c hc; rw [eb] at e; omega
  ·have:=h2 b hb; rw [ec] at e; omega
  ·exact Ec h1 hb hc e
theorem Us [IsP p] {N:Nat} {L:List (Fp p)} {x:Fp p} (h:Desc N L) (hr:Rdc L):Rdc (ki L x):=by
 by_cases h0:dl L x=0
 ·rw [qt h0]; exact hr
 ·rw [sc h0]
  have ha:=pf h0;have hal:=uj h0
  have hz:∀b∈L,(Gq.mon (dl L x)).c (b.len-1)=0:=fun b hb=>by
   unfold Gq.mon;rw [Pol.c_Cmul,H4 h b hb,Gq.mul_zero]
  have hne:∀b∈L,b.len≠(Gq.mon (dl L x)).len:=fun b hb=>by rw [hal]; exact Qy h h0 b hb
  generalize Gq.mon (dl L x)=a at *;intro b hb c hc hbc;rcases xd hb with rfl | ⟨b',hb',rfl⟩ <;> rcases xd hc with rfl | ⟨c',hc',rfl⟩
  ·exact absurd rfl hbc
  ·rw [(Mx (h.mon c' hc') (hne c' hc')).2]; exact hz c' hc'
  ·exact a27 ha b'
  ·rw [(Mx (h.mon c' hc') (hne c' hc')).2,M3,hz c' hc',Gq.mul_zero,Gq.add_zero]
   exact hr b' hb' c' hc' fun e=>hbc (by rw [e])
theorem Hm [IsP p] {N:Nat}:∀{xs L:List (Fp p)},Desc N L→Rdc L→(∀x∈xs,x.len≤N)→Rdc (di xs L)
 | [],_,_,h,_=>h
 | x::xs,L,h,hr,hx=>Hm (xs:=xs) (re h (hx x (by simp))) (Us h hr) fun y hy=>hx y (by simp [hy])
theorem Nz {a:Fp p} {L:List (Fp p)} {b:Fp p} (h:b=a∨∃c∈L,b=elim a c):b∈xj a L:=
 (ug a L).symm.subset (by
  rcases h with rfl | ⟨c,hc,rfl⟩
  ·simp
  ·exact cm _ (vb hc))
theorem yf [IsP p] {L:List (Fp p)} {x y:Fp p}:(Spn L y→Spn (ki L x) y)∧Spn (ki L x) x:=by
 have key:∀b∈L,Spn (ki L x) b:=fun b hb=>by
  by_cases h0:dl L x=0
  ·rw [qt h0]; exact .mem hb
  ·rw [sc h0]
   have h1:Spn (xj (Gq.mon (dl L x)) L) (elim (Gq.mon (dl L x)) b):=.mem (Nz (.inr ⟨b,hb,rfl⟩));have h2:=Spn.step (b.c ((Gq.mon (dl L x)).len-1)) (Nz (L:=L) (.inl rfl:Gq.mon (dl L x)=Gq.mon (dl L x)∨_)) h1
   have e:Pol.C (b.c ((Gq.mon (dl L x)).len-1))*Gq.mon (dl L x)+elim (Gq.mon (dl L x)) b=b:=by
    generalize Gq.mon (dl L x)=a;unfold elim;rw [Pol.C_neg];exact bo [Pol.C (b.c (a.len-1)),a,b] rfl
   rwa [e] at h2
 refine ⟨fun h=>h.sup key,?_⟩
 have h1:Spn (ki L x) (x-dl L x):=(G7 L x).sup key
 have h2:Spn (ki L x) (dl L x):=by
  by_cases h0:dl L x=0
  ·rw [h0]; exact .zero
  ·have h3:Spn (ki L x) (Gq.mon (dl L x)):=by rw [sc h0]; exact .mem (Nz (.inl rfl))
   have h4:=h3.smul (dl L x).ld
   rwa [←Wx h0] at h4
 have h3:=h1.add h2
 rwa [show x-dl L x+dl L x=x from bo [x,dl L x] rfl] at h3
theorem Sd [IsP p] {L:List (Fp p)} {x:Fp p} {S:Fp p→Prop} (h0:S 0) (hs:∀(k:Zp p) a b,S a→S b→S (Pol.C k*a+b)) (hL:∀a∈L,S a) (hx:S x):∀a∈ki L x,S a:=by
 have hsub:∀a b,S a→S b→S (a-b):=fun a b ha hb=>by
  have:=hs (-1) b a hb ha
  rwa [Pol.C_neg,Pol.C_one,show -1*b+a=a-b from bo [a,b] rfl] at this
 have hm:∀(k:Zp p) a,S a→S (Pol.C k*a):=fun k a ha=>by
  have:=hs k a 0 ha h0
  rwa [Gq.add_zero] at this
 intro a ha
 by_cases hr:dl L x=0
 ·rw [qt hr] at ha; exact hL a ha
 ·rw [sc hr] at ha
  have h1:S (x-dl L x):=(G7 L x).inside h0 hs hL
  have h2:S (dl L x):=by
   have:=hsub x _ hx h1
   rwa [show x-(x-dl L x)=dl L x from bo [x,dl L x] rfl] at this
  have h3:S (Gq.mon (dl L x)):=hm _ _ h2;rcases xd ha with rfl | ⟨b,hb,rfl⟩
  ·exact h3
  ·unfold elim
   rw [Gq.add_comm];exact hs _ _ _ h3 (hL b hb)
theorem Lt [IsP p] {S:Fp p→Prop} (h0:S 0) (hs:∀(k:Zp p) a b,S a→S b→S (Pol.C k*a+b)):∀{xs L:List (Fp p)},(∀a∈L,S a)→(∀x∈xs,S x)→∀a∈di xs L,S a
 | [],_,hL,_=>hL
 | x::xs,L,hL,hx=>Lt h0 hs (xs:=xs) (Sd h0 hs hL (hx x (by simp))) fun y hy=>hx y (by simp [hy])
theorem Bu [IsP p]:∀{xs L:List (Fp p)},(∀y,Spn L y→Spn (di xs L) y)∧∀x∈xs,Spn (di xs L) x
 | [],L=>⟨fun _ h=>h,fun _ h=>by cases h⟩
 | x::xs,L=>by
  obtain ⟨h1,h2⟩:=Bu (xs:=xs) (L:=ki L x);refine ⟨fun y hy=>h1 y (yf.1 hy),fun y hy=>?_⟩
  rcases dt.1 hy with rfl | hy
  ·exact h1 y (yf (y:=y)).2
  ·exact h2 y hy
theorem Jy [IsP p] {N:Nat} {L:List (Fp p)} (_h:Desc N L) {x:Fp p} (hx:x≠0) (hs:dl L x=0):∃b∈L,b.len=x.len:=by
 apply fa;intro hno;have hne:∀b∈L,b.len≠x.len:=fun b hb e=>hno ⟨b,hb,e⟩
 have key:∀(L:List (Fp p)),(∀b∈L,b.len≠x.len)→∀y:Fp p,y.len=x.len→y.c (x.len-1)=x.c (x.len-1)→(dl L y).c (x.len-1)=x.c (x.len-1):=by
  intro L
  induction L with
  | nil=>intro _ y _ h; exact h
  | cons b L ih=>
   intro hb y hy hc;have hbl:=hb b (by simp)
   show (dl L (elim b y)).c _=_;have hxp:=Pol.len_pos hx
   have e:(elim b y).len=x.len∧(elim b y).c (x.len-1)=x.c (x.len-1):=by
    rcases f7 y.len b.len with h1 | h1
    ·rw [Hj (Xm (by omega))]; exact ⟨hy,hc⟩
    ·have hc2:(elim b y).c (x.len-1)=x.c (x.len-1):=by
      rw [M3,Xm (a:=b) (by omega),Gq.mul_zero,Gq.add_zero,hc]
     refine ⟨?_,hc2⟩
     have h3:(elim b y).len=(x.len-1)+1:=Pol.len_eq (Pol.lt_iff.2 (by
      rw [Nat.sub_add_cancel hxp,←hy]; exact ve h1 (bp _))) (by rw [hc2]; exact Pol.ld_ne hx)
     omega
   exact ih (fun c hc=>hb c (by simp [hc])) _ e.1 e.2
 have:=key L hne x rfl rfl;rw [hs] at this;exact Pol.ld_ne hx this.symm
theorem Ih [IsP p] {N M:Nat} {L K:List (Fp p)} (hL:Desc N L) (hK:Desc M K) (rL:Rdc L) (rK:Rdc K) (h1:∀b∈L,dl K b=0) (h2:∀b∈K,dl L b=0):∀b∈L,b∈K:=by
 intro b hb;have hbm:=hL.mon b hb;obtain ⟨c,hc,hcl⟩:=Jy hK hbm.2 (h1 b hb);have hcm:=hK.mon c hc
 have hd:dl K (b-c)=0:=by
  have e:=L2 K (b-c) c;rw [show b-c+c=b from bo [b,c] rfl,h1 b hb,Mw hK hc,Gq.add_zero] at e;exact e.symm
 have hz:∀d∈K,(b-c).c (d.len-1)=0:=fun d hdK=>by
  rw [Pol.c_sub]
  by_cases hdc:c=d
  ·rw [←hdc,show c.c (c.len-1)=1 from hcm.1,hcl,show b.c (b.len-1)=1 from hbm.1,Gq.sub_self]
  ·obtain ⟨e,he,hel⟩:=Jy hL (hK.mon d hdK).2 (h2 d hdK)
   have hbe:b≠e:=fun h=>hdc (Ec hK hc hdK (by rw [hcl,h,hel]))
   have z1:=rL b hb e he hbe;rw [hel] at z1;rw [z1,rK c hc d hdK hdc,Gq.sub_self]
 rw [a28 hz] at hd;rw [t6 hd]; exact hc
theorem Vi [IsP p] {N M:Nat} {L K:List (Fp p)} (hL:Desc N L) (hK:Desc M K) (rL:Rdc L) (rK:Rdc K) (h1:∀b∈L,dl K b=0) (h2:∀b∈K,dl L b=0):L=K:=
 Gp (fun x:Fp p=>-(x.len:Int)) (hL.pw.imp fun h=>by omega) (hK.pw.imp fun h=>by omega) fun x=>
  ⟨Ih hL hK rL rK h1 h2 x,Ih hK hL rK rL h2 h1 x⟩
end
section
variable {p:Int} {m:Fp p}
theorem Uj [IsP p] (hm:m≠0) (k:Zp p):∀(j:Nat) {x y:Fp p},x.len<m.len→y.len<m.len→ep m j (Pol.C k*x+y)=Pol.C k*ep m j x+ep m j y
 | 0,_,_,_,_=>rfl
 | j+1,x,y,hx,hy=>by
  have e:pw (Pol.C k*x+y) p.toNat%m=Pol.C k*(pw x p.toNat%m)+pw y p.toNat%m:=by
   rw [←Pol.mod_Cmul k _ hm,←Pol.mod_add_small hm];refine (Pol.mod_eq_iff hm).2 ?_;rw [Quo.mk_add,Quo.mk_mul,Quo.mk_pow,Quo.mk_add,Quo.mk_mul,Quo.mk_pow,Quo.mk_pow,Jz,zj]
   congr 2
   rw [←Quo.mk_pow,←aba,Dd]
  show ep m j (pw (Pol.C k*x+y) p.toNat%m)=Pol.C k*ep m j (pw x p.toNat%m)+ep m j (pw y p.toNat%m);rw [e,Uj hm k j (Pol.len_mod _ hm) (Pol.len_mod _ hm)]
theorem a18 [IsP p] (hm:m≠0) (k:Zp p) {x y:Fp p} (hx:x.len<m.len) (hy:y.len<m.len):∀(a:List (Fp p)) (i:Nat) (u v:Fp p),svI m (Pol.C k*x+y) i a (Pol.C k*u+v)=Pol.C k*svI m x i a u+svI m y i a v
 | [],_,_,_=>rfl
 | c::a,i,u,v=>by
  show svI m (Pol.C k*x+y) (i+1) a (Pol.C k*u+v+c*ep m (i%(m.len-1)) (Pol.C k*x+y)%m)=Pol.C k*svI m x (i+1) a (u+c*ep m (i%(m.len-1)) x%m)+svI m y (i+1) a (v+c*ep m (i%(m.len-1)) y%m);rw [←a18 hm k hx hy a]
  congr 1
  rw [Uj hm k _ hx hy]
  have e:(c*(Pol.C k*ep m (i%(m.len-1)) x+ep m (i%(m.len-1)) y))%m=Pol.C k*(c*ep m (i%(m.len-1)) x%m)+c*ep m (i%(m.len-1)) y%m:=by
   rw [←Pol.mod_Cmul k _ hm,←Pol.mod_add_small hm]
   congr 1
   exact bo [c,Pol.C k,ep m (i%(m.len-1)) x,ep m (i%(m.len-1)) y] rfl
  rw [e];exact bo [Pol.C k,u,v,c*ep m (i%(m.len-1)) x%m,c*ep m (i%(m.len-1)) y%m] rfl
noncomputable def sev [IsP p] (m:Fp p) (S:List (Fp p)) (x:Fp p):Fp p:=svI m x 0 S 0
theorem Cr [IsP p] (hm:m≠0) (S:List (Fp p)) (k:Zp p) {x y:Fp p} (hx:x.len<m.len) (hy:y.len<m.len):sev m S (Pol.C k*x+y)=Pol.C k*sev m S x+sev m S y:=by
 have:=a18 hm k hx hy S 0 0 0
 rwa [show Pol.C k*(0:Fp p)+0=0 from bo [Pol.C k] rfl] at this
theorem Jf [IsP p] (hm:m≠0) (S:List (Fp p)) (x:Fp p):(sev m S x).len<m.len:=By hm 0 S 0 (by rw [Pol.len_zero]; exact Pol.len_pos hm)
theorem Eu {n:Nat} (k:Zp p) {x y:Fp p} (hx:x.len<n) (hy:y.len<n):(Pol.C k*x+y).len<n:=by
 have h1:(Pol.C k*x).lt (n-1):=Pol.lt_Cmul k (Pol.lt_iff.2 (by omega))
 have h2:y.lt (n-1):=Pol.lt_iff.2 (by omega)
 have:=Pol.len_le (Pol.lt_add h1 h2);omega
theorem Vg [IsP p] (hm:m≠0) (S:List (Fp p)):sev m S 0=0:=by
 have h0:(0:Fp p).len<m.len:=by rw [Pol.len_zero]; exact Pol.len_pos hm
 have:=Cr hm S 0 (x:=0) (y:=0) h0 h0;rw [Pol.C_zero,Gq.zero_mul,Gq.zero_add,Gq.zero_mul,Gq.zero_add] at this;have h2:=congrArg (fun z=>z-sev m S 0) this
 apply fa;intro hne;have e:sev m S (0*0+0)=sev m S 0:=by rw [Gq.zero_mul,Gq.zero_add]
 have h3:=Cr hm S (-1) (x:=0) (y:=0) h0 h0;rw [Gq.mul_zero,Gq.zero_add,Pol.C_neg,Pol.C_one] at h3;exact hne (h3.trans (bo [sev m S 0] rfl))
abbrev p9 (p:Int):=Fp p×Fp p
noncomputable def kst [IsP p] (v s:Fp p) (yx:p9 p):p9 p:=(yx.1+Pol.C (-(yx.1.c (v.len-1))*Fd.inv v.ld)*v,yx.2+Pol.C (-(yx.1.c (v.len-1))*Fd.inv v.ld)*s)
noncomputable def Ai [IsP p]:List (p9 p)→p9 p→p9 p
 | [],yx=>yx
 | (v,s)::r,yx=>Ai r (kst v s yx)
structure KVals [IsP p] (m:Fp p) (S:List (Fp p)) (ps:List (p9 p)):Prop where
 ok:∀q∈ps,q.1≠0∧q.1.len<m.len∧q.2.len<m.len∧sev m S q.2=q.1
 tri:ps.Pairwise fun a b=>b.1.c (a.1.len-1)=0
theorem KVals.tail [IsP p] {S:List (Fp p)} {q:p9 p} {ps:List (p9 p)} (h:KVals m S (q::ps)):KVals m S ps∧∀b∈ps,b.1.c (q.1.len-1)=0:=
 ⟨⟨fun b hb=>h.ok b (by simp [hb]),h.tri.tail⟩,(fl.1 h.tri).1⟩
theorem adr [IsP p] {v s:Fp p} (hv:v≠0) (yx:p9 p):(kst v s yx).1.c (v.len-1)=0:=by
 show (yx.1+Pol.C (-(yx.1.c (v.len-1))*Fd.inv v.ld)*v).c (v.len-1)=0;rw [Pol.c_add,Pol.c_Cmul];have h:=Fd.mul_inv v.ld (Pol.ld_ne hv);rw [show v.c (v.len-1)=v.ld from rfl,show -(yx.1.c (v.len-1))*Fd.inv v.ld*v.ld=-(yx.1.c (v.len-1))*(v.ld*Fd.inv v.ld) from bo [yx.1.c (v.len-1),Fd.inv v.ld,v.ld] rfl,h,Gq.mul_one,Gq.add_neg]
theorem Oc [IsP p] {n:Nat}:∀{ps:List (p9 p)} {yx:p9 p},(∀b∈ps,b.1.c n=0)→(Ai ps yx).1.c n=yx.1.c n
 | [],_,_=>rfl
 | (v,s)::r,yx,h=>by
  show (Ai r (kst v s yx)).1.c n=_;rw [Oc fun b hb=>h b (by simp [hb])]
  show (yx.1+Pol.C (-(yx.1.c (v.len-1))*Fd.inv v.ld)*v).c n=_;rw [Pol.c_add,Pol.c_Cmul,h (v,s) (by simp),Gq.mul_zero,Gq.add_zero]
theorem P9 [IsP p] {S:List (Fp p)}:∀{ps:List (p9 p)} {yx:p9 p},KVals m S ps→∀b∈ps,(Ai ps yx).1.c (b.1.len-1)=0
 | (v,s)::r,yx,h,b,hb=>by
  obtain ⟨h1,h2⟩:=h.tail;show (Ai r (kst v s yx)).1.c _=0;rcases dt.1 hb with e | hb
  ·subst e
   rw [Oc h2];exact adr (h.ok (v,s) (by simp)).1 yx
  ·exact P9 h1 b hb
theorem a23 [IsP p] {S:List (Fp p)} (hm:m≠0):∀{ps:List (p9 p)} {yx:p9 p},KVals m S ps→yx.1.len<m.len→yx.2.len<m.len→sev m S yx.2=yx.1 →
 (Ai ps yx).1.len<m.len∧(Ai ps yx).2.len<m.len∧sev m S (Ai ps yx).2=(Ai ps yx).1∧Spn (ps.map Prod.snd) ((Ai ps yx).2-yx.2)
 | [],yx,_,h1,h2,h3=>⟨h1,h2,h3,by
  show Spn [] (yx.2-yx.2);rw [Gq.sub_self]; exact .zero⟩
 | (v,s)::r,yx,h,h1,h2,h3=>by
  obtain ⟨t1,t2⟩:=h.tail;obtain ⟨o1,o2,o3,o4⟩:=h.ok (v,s) (by simp)
  generalize hk:-(yx.1.c (v.len-1))*Fd.inv v.ld=k
  have e1:kst v s yx=(Pol.C k*v+yx.1,Pol.C k*s+yx.2):=by
   unfold kst;rw [hk,Gq.add_comm yx.1,Gq.add_comm yx.2]
  obtain ⟨g1,g2,g3,g4⟩:=a23 hm (yx:=kst v s yx) t1 (by rw [e1]; exact Eu k o2 h1) (by rw [e1]; exact Eu k o3 h2) (by
   rw [e1];show sev m S (Pol.C k*s+yx.2)=Pol.C k*v+yx.1;rw [Cr hm S k o3 h2,o4,h3])
  refine ⟨g1,g2,g3,?_⟩;show Spn (s::r.map Prod.snd) ((Ai r (kst v s yx)).2-yx.2);have g5:Spn (s::r.map Prod.snd) ((Ai r (kst v s yx)).2-(kst v s yx).2):=g4.sup fun a ha=>.mem (by simp [ha])
  have g6:=Spn.step (L:=s::r.map Prod.snd) k (show s∈s::r.map Prod.snd by simp) g5
  have e2:Pol.C k*s+((Ai r (kst v s yx)).2-(kst v s yx).2)=(Ai r (kst v s yx)).2-yx.2:=by
   rw [e1];show Pol.C k*s+((Ai r (Pol.C k*v+yx.1,Pol.C k*s+yx.2)).2-(Pol.C k*s+yx.2))=_;generalize (Ai r (Pol.C k*v+yx.1,Pol.C k*s+yx.2)).2=z;exact bo [Pol.C k,s,z,yx.2] rfl
  rwa [e2] at g6
theorem KVals.snoc [IsP p] {S:List (Fp p)} {ps:List (p9 p)} {q:p9 p} (h:KVals m S ps) (h1:q.1≠0) (h2:q.1.len<m.len) (h3:q.2.len<m.len) (h4:sev m S q.2=q.1) (hz:∀b∈ps,q.1.c (b.1.len-1)=0):KVals m S (ps++[q]) where
 ok:=fun b hb=>by
  rcases bi.1 hb with hb | hb
  ·exact h.ok b hb
  ·obtain rfl:=cj.1 hb
   exact ⟨h1,h2,h3,h4⟩
 tri:=ix.2 ⟨h.tri,gd _ _,fun a ha b hb=>by
  obtain rfl:=cj.1 hb;exact hz a ha⟩
structure KInv [IsP p] (m:Fp p) (S:List (Fp p)) (i:Nat) (ps:List (p9 p)) (L:List (Fp p)):Prop where
 vals:KVals m S ps
 desc:Desc 11 L
 rdc:Rdc L
 ker:∀b∈L,b.len<m.len∧sev m S b=0
 gen:∀x:Fp p,x.len≤i→Spn (L++ps.map Prod.snd) x
theorem KInv.init [IsP p] (S:List (Fp p)):KInv m S 0 [] [] where
 vals:=⟨(fun _ h=>by cases h),List.Pairwise.nil⟩
 desc:=Desc.nil 11
 rdc:=Rdc.nil
 ker:=fun _ h=>by cases h
 gen:=fun x hx=>by
  obtain rfl:x=0:=Pol.len_zero_iff.1 (by omega)
  exact .zero
noncomputable def Ed [IsP p] (i:Nat):Fp p:=Pol.mo 1 i
theorem a7q [IsP p] (i:Nat):(Ed i:Fp p).len=i+1:=Pol.len_eq (fun j hj=>if_neg (by omega)) (by
 show (if i=i then (1:Zp p) else 0)≠0
 rw [if_pos rfl]; exact Fd.one_ne)
noncomputable def kpr [IsP p] (m:Fp p) (S:List (Fp p)) (ps:List (p9 p)) (i:Nat):p9 p:=Ai ps (sev m S (Ed i),Ed i)
open Classical in
noncomputable def a09 [IsP p] (m:Fp p) (S:List (Fp p)) (i:Nat) (st:List (p9 p)×List (Fp p)):List (p9 p)×List (Fp p):=
 if (kpr m S st.1 i).1=0 then (st.1,ki st.2 (kpr m S st.1 i).2) else (st.1++[kpr m S st.1 i],st.2)
theorem KInv.pair [IsP p] (hm:m≠0) {S:List (Fp p)} {i:Nat} {ps:List (p9 p)} {L:List (Fp p)} (h:KInv m S i ps L) (hi:i+1<m.len) :
 (kpr m S ps i).1.len<m.len∧(kpr m S ps i).2.len<m.len∧sev m S (kpr m S ps i).2=(kpr m S ps i).1∧Spn (ps.map Prod.snd) ((kpr m S ps i).2-Ed i):=
 a23 hm (yx:=(sev m S (Ed i),Ed i)) h.vals (Jf hm S _) (by rw [a7q]; exact hi) rfl
theorem KInv.step [IsP p] (hm:m≠0) (h12:m.len≤12) {S:List (Fp p)} {i:Nat} {ps:List (p9 p)} {L:List (Fp p)} (h:KInv m S i ps L) (hi:i+1<m.len) :
 KInv m S (i+1) (a09 m S i (ps,L)).1 (a09 m S i (ps,L)).2:=by
 obtain ⟨h1,h2,h3,h4⟩:=h.pair hm hi;have h0:=Pol.len_pos hm
 have gen':∀K:List (Fp p),(∀y,Spn (L++ps.map Prod.snd) y→Spn K y)→Spn K (kpr m S ps i).2→∀x:Fp p,x.len≤i+1→Spn K x:=fun K hK hk x hx=>by
  have ht:Spn K (Ed i):=by
   have:=hk.sub (hK _ (h4.sup fun a ha=>.mem (m7 _ ha)))
   rwa [show (kpr m S ps i).2-((kpr m S ps i).2-Ed i)=Ed i from bo [(kpr m S ps i).2,Ed i] rfl] at this
  have hx2:Spn K (x-Pol.C (x.c i)*Ed i):=hK _ (h.gen _ (Pol.len_le fun j hj=>by
   rw [Pol.c_sub,Pol.c_Cmul];show x.c j-x.c i*(if j=i then 1 else 0)=0
   by_cases hji:j=i
   ·rw [if_pos hji,Gq.mul_one,hji,Gq.sub_self]
   ·rw [if_neg hji,Gq.mul_zero,x.lt_len j (by omega),Gq.sub_self]))
  have:=(ht.smul (x.c i)).add hx2
  rwa [show Pol.C (x.c i)*Ed i+(x-Pol.C (x.c i)*Ed i)=x from bo [Pol.C (x.c i),Ed i,x] rfl] at this
 unfold a09
 by_cases hy:(kpr m S ps i).1=0
 ·rw [if_pos hy]
  refine ⟨h.vals,re h.desc (show (kpr m S ps i).2.len≤11 by omega),Us h.desc h.rdc,?_,?_⟩
  ·exact Sd (S:=fun b=>b.len<m.len∧sev m S b=0) ⟨by rw [Pol.len_zero]; exact h0,Vg hm S⟩ (fun k a b ha hb=>⟨Eu k ha.1 hb.1,by rw [Cr hm S k ha.1 hb.1,ha.2,hb.2,Gq.mul_zero,Gq.add_zero]⟩) h.ker ⟨h2,by rw [h3,hy]⟩
  ·refine gen' _ (fun y hy=>?_) ?_
   ·refine hy.sup fun a ha=>?_
    rcases bi.1 ha with ha | ha
    ·exact ((yf (x:=(kpr m S ps i).2)).1 (.mem ha)).sup fun b hb=>.mem (cm _ hb)
    ·exact .mem (m7 _ ha)
   ·exact (yf (y:=0)).2.sup fun b hb=>.mem (cm _ hb)
 ·rw [if_neg hy]
  refine ⟨h.vals.snoc hy h1 h2 h3 fun b hb=>P9 h.vals b hb,h.desc,h.rdc,h.ker,?_⟩
  show ∀x:Fp p,x.len≤i+1→Spn (L++(ps++[kpr m S ps i]).map Prod.snd) x;rw [cn];refine gen' _ (fun y hy=>hy.sup fun a ha=>?_) (.mem (by simp))
  rcases bi.1 ha with ha | ha
  ·exact .mem (cm _ ha)
  ·exact .mem (m7 _ (cm _ ha))
noncomputable def adl [IsP p] (m:Fp p) (S:List (Fp p)):Nat→List (p9 p)×List (Fp p)
 | 0=>([],[])
 | i+1=>a09 m S i (adl m S i)
noncomputable def ao1 [IsP p] (m:Fp p) (S:List (Fp p)):List (Fp p):=(adl m S (m.len-1)).2
end
end Pe
namespace Pe
open Go Gq
variable {T:Nat→Option Fn} {A:ap}
section
variable {p:Int} [IsP p]
end
section
variable {p:Int} [IsP p]
end
open Classical in
noncomputable def kL (p:Int) (l:List Int) (ls:List (List Int)):List (List Int):=
 if h:anz p l ls then
  haveI:IsP p:=h.choose
  skP (ao1 (fc p l) (ls.map (fc p)))
 else []
end Pe
namespace Pe
open Go Gq
variable {T:Nat→Option Fn} {A:ap}
section
variable {p:Int}
end
section
variable {p:Int} [ip:IsP p] {M N X Y:Fp p}
end
end Pe
namespace Pe
open Go Gq
section
variable {p:Int} [ip:IsP p]
variable {q:Fp p}
end
section
variable {p:Int}
variable {q:Fp p}
theorem a2p {r:Fp p} (h:r.len≤1):r=Pol.C (r.c 0):=Pol.ext fun i=>by
 rw [Pol.c_C]
 split
 ·rename_i h0; rw [h0]
 ·exact Pol.lt_len r i (by omega)
end
section
variable {p:Int} [ip:IsP p]
variable {q:Fp p}
end
section
variable {p:Int}
variable {q:Fp p}
end
section
variable {p:Int} [ip:IsP p]
variable {q:Fp p}
end
section
variable {K S:Type} [CR K] [CR S]
structure Hom (f:K→S):Prop where
 add:∀x y,f (x+y)=f x+f y
 mul:∀x y,f (x*y)=f x*f y
 one:f 1=1
theorem Hom.zero {f:K→S} (h:Hom f):f 0=0:=by
 have e:=h.add 0 0;rw [Gq.add_zero] at e;have e2:f 0+f 0-f 0=f 0:=bo [f 0] rfl;rw [←e,Gq.sub_self] at e2;exact e2.symm
noncomputable def evP (f:K→S) (z:S) (a:Pol K):S:=jv (fun i=>f (a.c i)*pw z i) a.len
variable {f:K→S} {z:S}
theorem Hom.pw {g:K→S} (h:Hom g) (a:K):∀n,g (Gq.pw a n)=Gq.pw (g a) n
 | 0=>h.one
 | n+1=>by rw [Gq.pw,Gq.pw,h.mul,Hom.pw h a n]
end
section
variable {S:Type} [CR S]
end
section
variable {p:Int} [IsP p]
end
section
variable {K L S:Type} [CR K] [CR L] [CR S]
end
section
variable {p:Int} [IsP p] {q:Fp p}
theorem Hom.sub {K S:Type} [CR K] [CR S] {f:K→S} (h:Hom f) (x y:K):f (x-y)=f x-f y:=by
 have e:f (x-y)+f y=f x:=by rw [←h.add]; congr 1; exact bo [x,y] rfl
 rw [←e];exact bo [f (x-y),f y] rfl
theorem W3 (hi:Irr q) (x:Quo q) (h:pw x p.toNat=x):∃c:Zp p,x=Quo.mk q (Pol.C c):=by
 obtain ⟨a,rfl⟩:=Quo.ex x;have e:Quo.mk q (a%q)=Quo.mk q a:=Pol.mk_mod _ _;have hl:=acq (a:=a%q) hi.len hi (Pol.len_mod _ hi.ne) (by rw [e]; exact h)
 exact ⟨(a%q).c 0,by rw [←a2p hl,e]⟩
end
section
variable {p:Int} {q:Fp p}
end
section
variable {p:Int} [IsP p] {q:Fp p}
end
section
variable {p:Int} [IsP p] {m:Fp p}
theorem Ev (hm:Fld m) {S:List (Fp p)} {x:Fp p}:Quo.mk m (sev m S x)=0↔sev m S x=0:=by
 constructor
 ·intro h
  have e:=(Pol.mod_eq_iff hm.mon.2).2 (h.trans Quo.mk_zero.symm)
  rwa [Pol.mod_small (Jf hm.mon.2 S x),Pol.zero_mod hm.mon.2] at e
 ·intro h
  rw [h,Quo.mk_zero]
structure LkI (m:Fp p) (A L:List (Fp p)):Prop where
 trim:m9 A
 res:∀c∈A,c.len<m.len
 desc:Desc (m.len-1) L
 len:A.length=L.length+1
 ker:∀z:Fp p,z.len<m.len→(sev m A z=0↔Spn L z)
theorem LkI.one (hm:Fld m):LkI m (f8 (1:Fp p) 0) [] where
 trim:=(Gn hm).trim
 res:=(Gn hm).res
 desc:=Desc.nil _
 len:=by rw [jy]; rfl
 ker:=fun z hz=>by
  have e:sev m (f8 (1:Fp p) 0) z=0+1*ep m (0%(m.len-1)) z%m:=rfl;rw [e,Nat.zero_mod,Gq.zero_add,Gq.one_mul,show ep m 0 z=z from rfl,Pol.mod_small hz];constructor
  ·rintro rfl; exact .zero
  ·intro h
   exact h.inside (S:=fun b=>b=0) rfl (fun k a b ha hb=>by rw [ha,hb,Gq.mul_zero,Gq.add_zero]) (fun a ha=>by cases ha)
theorem a7c (hm:Fld m) {A:List (Fp p)} {c z:Fp p} (hA:∀y∈A,y.len<m.len) (h1:1≤A.length) (hz:z.len<m.len):Quo.mk m (sev m (gh m [c,1] A) z)=Quo.mk m c*Quo.mk m (sev m A z)+sg 1 (Quo.mk m (sev m A z)):=Ln hm hA hz h1
theorem LkI.next (hm:Fld m) {A L:List (Fp p)} (h:LkI m A L) {x:Fp p} (hx:x.len<m.len):LkI m (lsN m A x) (ki L x):=by
 have h0:=hm.mon.2;have h2:=hm.two;have hl:=h.len
 have hv:(svI m x 0 A 0).len=0↔dl L x=0:=by
  rw [Eh h.desc,←h.ker x hx];exact Pol.len_zero_iff
 unfold lsN
 by_cases hr:dl L x=0
 ·rw [if_pos (hv.2 hr),qt hr]
  exact h
 ·have hv':¬ (svI m x 0 A 0).len=0:=fun g=>hr (hv.1 g)
  rw [if_neg hv'];have hvl:(sev m A x).len<m.len:=Jf h0 A x;have hv0:sev m A x≠0:=fun g=>hv' (Pol.len_zero_iff.2 g)
  have hcl:=Gc (v:=sev m A x) hm;have hcq:=a66 hm hv0 hvl;have step:=fun z hz=>a7c hm (c:=lsC m (sev m A x)) (z:=z) h.res (by omega) hz
  have lin:∀(k:Zp p) (a b:Fp p),(a.len<m.len∧sev m (gh m [lsC m (sev m A x),1] A) a=0)→(b.len<m.len∧sev m (gh m [lsC m (sev m A x),1] A) b=0)→((Pol.C k*a+b).len<m.len∧sev m (gh m [lsC m (sev m A x),1] A) (Pol.C k*a+b)=0):=fun k a b ha hb=>
   ⟨Eu k ha.1 hb.1,by rw [Cr h0 _ k ha.1 hb.1,ha.2,hb.2,Gq.mul_zero,Gq.add_zero]⟩
  have kz:(0:Fp p).len<m.len∧sev m (gh m [lsC m (sev m A x),1] A) 0=0:=⟨by rw [Pol.len_zero]; omega,Vg h0 _⟩
  have kill:∀y:Fp p,y.len<m.len→Quo.mk m (lsC m (sev m A x))*Quo.mk m (sev m A y)+sg 1 (Quo.mk m (sev m A y))=0→sev m (gh m [lsC m (sev m A x),1] A) y=0:=fun y hy e=>(Ev hm).1 (by rw [step y hy,e])
  have kL:∀a∈L,a.len<m.len∧sev m (gh m [lsC m (sev m A x),1] A) a=0:=fun a ha=>by
   have hal:a.len<m.len:=by have:=h.desc.le a ha; omega
   refine ⟨hal,kill a hal ?_⟩;rw [(h.ker a hal).2 (.mem ha),Quo.mk_zero,Gq.mul_zero,vj,Gq.add_zero]
  have kx:x.len<m.len∧sev m (gh m [lsC m (sev m A x),1] A) x=0:=⟨hx,kill x hx hcq⟩;have hput:=Sd (L:=L) (x:=x) (S:=fun y=>y.len<m.len∧sev m (gh m [lsC m (sev m A x),1] A) y=0) kz lin kL kx
  obtain ⟨_,sx⟩:=yf (L:=L) (x:=x) (y:=x);refine ⟨sz _ _ _,fun c hc=>by have:=t8 (N:=m.len-1) h0 (by omega) c hc; omega,re h.desc (by omega),?_,fun z hz=>⟨fun hk=>?_,fun hs=>?_⟩⟩
  ·rw [sc hr,B6]
   show (gh m [lsC m (sev m A x),1] A).length=_;rw [Hv hm (Ei _) h.trim (Gk hm hcl) h.res (by simp) (by omega)]
   simp only [b9,cb];omega
  ·have e1:Quo.mk m (lsC m (sev m A x))*Quo.mk m (sev m A z)+sg 1 (Quo.mk m (sev m A z))=0:=by
    rw [←step z hz];show Quo.mk m (sev m (gh m [lsC m (sev m A x),1] A) z)=0;have hk':sev m (gh m [lsC m (sev m A x),1] A) z=0:=hk;rw [hk',Quo.mk_zero]
   have hvq:Quo.mk m (sev m A x)≠0:=fun g=>hv0 ((Ev hm).1 g)
   obtain ⟨v',hv1⟩:=hm.irr.quo_inv hvq;have hs1:sg 1 (Quo.mk m (sev m A x))*sg 1 v'=1:=by rw [←ui,hv1]; exact a5r 1
   have zl:=Jf h0 A z
   -- the quotient is fixed
   have fx:pw (Quo.mk m (sev m A z)*v') p.toNat=Quo.mk m (sev m A z)*v':=by
    show sg 1 (Quo.mk m (sev m A z)*v')=_;rw [ui];generalize Quo.mk m (lsC m (sev m A x))=C at *;generalize Quo.mk m (sev m A z)=w at *;generalize Quo.mk m (sev m A x)=v at *;generalize sg 1 v'=v2 at *
    have w1:sg 1 w=-(C*w):=by
     have:sg 1 w=(C*w+sg 1 w)-C*w:=bo [C,w,sg 1 w] rfl;rw [this,e1];exact bo [C,w] rfl
    have w2:sg 1 v=-(C*v):=by
     have:sg 1 v=(C*v+sg 1 v)-C*v:=bo [C,v,sg 1 v] rfl;rw [this,hcq];exact bo [C,v] rfl
    rw [w2] at hs1;have e3:-(C*w)*v2=w*v'*(-(C*v)*v2)+(-(C*w)*v2)*(1-v*v'):=bo [C,w,v,v',v2] rfl;rw [w1,e3,hs1,hv1];exact bo [C,w,v',v2] rfl
   obtain ⟨k,hk2⟩:=W3 hm.irr _ fx
   have hw:Quo.mk m (sev m A z)=Quo.mk m (Pol.C k)*Quo.mk m (sev m A x):=by
    have:Quo.mk m (sev m A z)=Quo.mk m (sev m A z)*v'*Quo.mk m (sev m A x)+Quo.mk m (sev m A z)*(1-Quo.mk m (sev m A x)*v'):=bo [Quo.mk m (sev m A z),v',Quo.mk m (sev m A x)] rfl;rw [this,hk2,hv1];exact bo [Quo.mk m (Pol.C k),Quo.mk m (sev m A x),Quo.mk m (sev m A z)] rfl
   have hd:sev m A (Pol.C (-k)*x+z)=0:=by
    refine (Ev hm).1 ?_;rw [Cr h0 A (-k) hx hz,Quo.mk_add,Quo.mk_mul,hw,Pol.C_neg,Quo.mk_neg];exact bo [Quo.mk m (Pol.C k),Quo.mk m (sev m A x)] rfl
   have s1:Spn L (Pol.C (-k)*x+z):=(h.ker _ (Eu (-k) hx hz)).1 hd;have s2:Spn (ki L x) (Pol.C (-k)*x+z):=(yf (L:=L) (x:=x) (y:=Pol.C (-k)*x+z)).1 s1;have s3:=(sx.smul k).add s2
   have e4:Pol.C k*x+(Pol.C (-k)*x+z)=z:=by
    rw [Pol.C_neg];exact bo [Pol.C k,x,z] rfl
   rwa [e4] at s3
  ·exact (hs.inside (S:=fun y=>y.len<m.len∧sev m (gh m [lsC m (sev m A x),1] A) y=0) kz lin hput).2
theorem LkI.all (hm:Fld m):∀(xs A L:List (Fp p)),LkI m A L→(∀x∈xs,x.len<m.len)→LkI m (lsS m xs A) (di xs L)
 | [],_,_,h,_=>h
 | x::xs,A,L,h,hx=>LkI.all hm xs _ _ (h.next hm (hx x (by simp))) fun y hy=>hx y (by simp [hy])
end
section
variable {K:Type} [CR K] {I:Type}
theorem a0x {f f':I→Rw K} {d:List (Rw K)→K} (hd:∀L:List I,d (L.map fun i=>tlR (f i))=d (L.map fun i=>tlR (f' i))) (h0:∀i,f i 0=f' i 0):∀(C P:List I),exD d (P.map f) (C.map f)=exD d (P.map f') (C.map f')
 | [],_=>rfl
 | c::C,P=>by
  have e1:(P.map f++C.map f).map tlR=(P++C).map fun i=>tlR (f i):=by rw [←cn,k8]; rfl
  have e2:(P.map f'++C.map f').map tlR=(P++C).map fun i=>tlR (f' i):=by rw [←cn,k8]; rfl
  have e3:=a0x hd h0 C (P++[c]);rw [cn,cn] at e3;rw [fu,fu,exD,exD,e1,e2,hd,h0];exact congrArg (fun z=>f' c 0*d ((P++C).map fun i=>tlR (f' i))-z) e3
theorem Rj:∀(n:Nat) (f f':I→Rw K),(∀i k,k<n→f i k=f' i k)→∀L:List I,det n (L.map f)=det n (L.map f')
 | 0,_,_,_,_=>rfl
 | n+1,f,f',h,L=>a0x (fun L=>Rj n (fun i=>tlR (f i)) (fun i=>tlR (f' i)) (fun i k hk=>h i (k+1) (by omega)) L) (fun i=>h i 0 (by omega)) L []
end
section
variable {p:Int} {m:Fp p}
noncomputable def moW (X:Nat→Quo m) (i:Nat):Rw (Quo m):=fun k=>sg i (X k)
noncomputable def moQ (n:Nat) (X:Nat→Quo m):Quo m:=det n ((List.range n).map (moW X))
theorem a4v {n:Nat} {X Y:Nat→Quo m} (h:∀k,k<n→X k=Y k):moQ n X=moQ n Y:=Rj n _ _ (fun i k hk=>by unfold moW; rw [h k hk]) _
noncomputable def moC (X:Nat→Quo m):Nat→List (Fp p)→Rw (Quo m)
 | _,[]=>fun _=>0
 | i,a::A=>adR (moC X (i+1) A) (Quo.mk m a) (moW X i)
theorem Tb (X:Nat→Quo m) (k:Nat):∀(A:List (Fp p)) (i:Nat),moC X i A k=vq (X k) i A
 | [],_=>rfl
 | a::A,i=>by
  show moC X (i+1) A k+Quo.mk m a*sg i (X k)=Quo.mk m a*sg i (X k)+vq (X k) (i+1) A;rw [Tb X k A,Gq.add_comm]
theorem a06 {n:Nat} (X:Nat→Quo m):∀(A:List (Fp p)) (i:Nat),i+A.length=n+1→A≠[]→det (n+1) ((List.range n).map (moW X)++[moC X i A])=Quo.mk m (A.getLastD 0)*moQ (n+1) X
 | [],_,_,h=>absurd rfl h
 | [a],i,hi,_=>by
  obtain rfl:i=n:=by simpa using hi
  have e1:=xo (i+1) ((List.range i).map (moW X)) (fun _=>0) (Quo.mk m a) (moW X i) [] (by simp)
  have e2:=Lj i ((List.range i).map (moW X)) (fun _=>(0:Quo m)) (by simp) (fun _ _=>rfl)
  rw [e2] at e1;show det (i+1) ((List.range i).map (moW X)++[adR (fun _=>0) (Quo.mk m a) (moW X i)])=Quo.mk m a*det (i+1) ((List.range (i+1)).map (moW X))
  rw [e1,List.range_succ,cn,List.map_singleton];exact bo [det i ((List.range i).map (moW X)),Quo.mk m a,det (i+1) ((List.range i).map (moW X)++[moW X i])] rfl
 | a::b::A,i,hi,_=>by
  simp only [b9] at hi;have ih:=a06 (n:=n) X (b::A) (i+1) (by simp only [b9]; omega) (by simp)
  have e1:=xo (n+1) ((List.range n).map (moW X)) (moC X (i+1) (b::A)) (Quo.mk m a) (moW X i) [] (by simp)
  have e2:(List.range n).map (moW X)=(List.range i).map (moW X)++moW X i::((List.range' (i+1) (n-i-1)).map (moW X)):=by
   rw [show n=i+(1+(n-i-1)) by omega,List.range_eq_range',List.range'_append_1.symm,cn,br,Nat.add_comm 1,List.range'_succ,fu,List.range_eq_range',show i+(n-i-1+1)-i-1=n-i-1 by omega]
  have e3:=a19 (n:=n+1) ((List.range i).map (moW X)) ((List.range' (i+1) (n-i-1)).map (moW X)) (moW X i) [] (by simp only [ab,ji,List.length_range',cb]; omega)
  have e4:(List.range n).map (moW X)++[moW X i]=(List.range i).map (moW X)++moW X i::((List.range' (i+1) (n-i-1)).map (moW X)++moW X i::[]):=by
   rw [e2,ee]; rfl
  rw [←e4] at e3;show det (n+1) ((List.range n).map (moW X)++[adR (moC X (i+1) (b::A)) (Quo.mk m a) (moW X i)])=_;rw [e1,ih,e3];show Quo.mk m ((b::A).getLastD 0)*moQ (n+1) X+Quo.mk m a*0=Quo.mk m ((b::A).getLastD 0)*moQ (n+1) X;exact bo [Quo.mk m ((b::A).getLastD 0)*moQ (n+1) X,Quo.mk m a] rfl
theorem a9b {n:Nat} (X:Nat→Quo m) {A:List (Fp p)} (hA:A.length=n+1) (h0:∀k,k<n→vq (X k) 0 A=0):Quo.mk m (A.getLastD 0)*moQ (n+1) X=vq (X n) 0 A*moQ n X:=by
 rw [←a06 X A 0 (by omega) (by rintro rfl; simp at hA),Lj n _ _ (by simp) (fun k hk=>by rw [Tb]; exact h0 k hk),Tb]; rfl
end
section
variable {p:Int} [IsP p] {m:Fp p}
noncomputable def moX (m:Fp p) (xs:List (Fp p)) (k:Nat):Quo m:=Quo.mk m (xs.getD k 0)
theorem ae0 (hm:Fld m) {xs:List (Fp p)} (hx:∀x∈xs,x.len<m.len):Quo.mk m (dtP m xs.length (moK m xs xs.length))=moQ xs.length (moX m xs):=by
 rw [Ws];unfold moK;rw [k8];refine Rj _ _ _ (fun i k hk=>?_) _
 show Quo.mk m ((moR m xs i).getD k 0)=sg i (Quo.mk m (xs.getD k 0));unfold moR;rw [ca,ca,fe,af hk];show Quo.mk m (ep m (i%(m.len-1)) xs[k])=sg i (Quo.mk m xs[k]);rw [yg hm i (hx _ (bb hk)),P8]
theorem acr (hm:Fld m) {A:List (Fp p)} (h:m9 A) (hr:∀c∈A,c.len<m.len) {n:Nat} (hn:A.length=n+1):Quo.mk m (A.getLastD 0)≠0:=by
 have h1:=h n hn
 have e:A.getLastD 0=cS A n:=by
  rw [List.getLastD_eq_getLast?,List.getLast?_eq_getElem?,hn]; rfl
 have hlt:n<A.length:=by omega
 have hl:(cS A n).len<m.len:=by rw [←Ab hlt]; exact hr _ (bb _)
 rw [e];intro h2;exact h1 (Yt hm hl (by rw [Pol.len_zero]; exact Pol.len_pos hm.mon.2) h2)
theorem aa7 (hm:Fld m):∀xs:List (Fp p),(∀x∈xs,x.len<m.len)→∃A:List (Fp p),m9 A∧(∀c∈A,c.len<m.len)∧A.length=xs.length+1∧∀x∈xs,pq m A x=0
 | [],_=>⟨f8 1 0,(Gn hm).trim,(Gn hm).res,by rw [jy]; rfl,fun x hx=>by cases hx⟩
 | x::xs,hx=>by
  obtain ⟨A,h1,h2,h3,h4⟩:=aa7 hm xs fun y hy=>hx y (by simp [hy])
  have hxl:=hx x (by simp)
  have step:∀(c y:Fp p),c.len<m.len→y.len<m.len→pq m (gh m [c,1] A) y=Quo.mk m c*pq m A y+sg 1 (pq m A y):=fun c y _ hy=>Ln hm h2 hy (by omega)
  obtain ⟨c,hc,hcv⟩:∃c:Fp p,c.len<m.len∧pq m (gh m [c,1] A) x=0:=by
   by_cases hv:svI m x 0 A 0=0
   ·refine ⟨0,by rw [Pol.len_zero]; exact Pol.len_pos hm.mon.2,?_⟩
    rw [step 0 x (by rw [Pol.len_zero]; exact Pol.len_pos hm.mon.2) hxl]
    unfold pq;rw [hv,Quo.mk_zero,vj,Gq.mul_zero,Gq.add_zero]
   ·have hvl:(svI m x 0 A 0).len<m.len:=By hm.mon.2 0 A 0 (by rw [Pol.len_zero]; exact Pol.len_pos hm.mon.2)
    have hcl:=Gc (v:=svI m x 0 A 0) hm;refine ⟨_,hcl,?_⟩;rw [step _ x hcl hxl];exact a66 hm hv hvl
  have hl:=Hv hm (Ei c) h1 (Gk hm hc) h2 (by simp) (by omega)
  have hlen:(gh m [c,1] A).length=(x::xs).length+1:=by
   rw [hl,h3]; simp only [b9,cb]; omega
  refine ⟨gh m [c,1] A,sz _ _ _,fun y hy=>?_,hlen,fun y hy=>?_⟩
  ·have:=t8 (a:=[c,1]) (b:=A) hm.mon.2 (N:=m.len-1) (by have:=hm.two; omega) y hy
   have:=hm.two; omega
  ·rcases dt.1 hy with rfl | hy
   ·exact hcv
   ·rw [step c y hc (hx y (by simp [hy])),h4 y hy,Gq.mul_zero,vj,Gq.add_zero]
theorem Oq:∀(xs:List (Fp p)) (x:Fp p) (L:List (Fp p)),di (xs++[x]) L=ki (di xs L) x
 | [],_,_=>rfl
 | y::xs,x,L=>Oq xs x (ki L y)
theorem Yk (hm:Fld m) {a b c:Quo m} (ha:a≠0) (h:a*b=c):b=0↔c=0:=by
 constructor
 ·rintro rfl; rw [←h,Gq.mul_zero]
 ·rintro rfl
  exact (hm.irr.quo_zero h).resolve_left ha
theorem Qa (hm:Fld m):∀(n:Nat) (xs:List (Fp p)),xs.length=n→(∀x∈xs,x.len<m.len)→(moQ n (moX m xs)=0↔(di xs []).length≠n)
 | 0,xs,hl,_=>by
  obtain rfl:=fb.1 hl;refine ⟨fun h=>?_,fun h=>absurd rfl h⟩
  exact absurd h (Nr hm.two)
 | n+1,xs,hl,hx=>by
  obtain ⟨ys,x,rfl⟩:∃ys x,xs=ys++[x]:=⟨xs.dropLast,xs.getLast (by rintro rfl; simp at hl),(List.dropLast_concat_getLast (by rintro rfl; simp at hl)).symm⟩
  have hyl:ys.length=n:=by simpa using hl
  have hys:∀y∈ys,y.len<m.len:=fun y hy=>hx y (by simp [hy])
  have hxl:=hx x (by simp)
  have ih:=Qa hm n ys hyl hys
  have hX:∀k,k<n→moX m (ys++[x]) k=moX m ys k:=fun k hk=>by
   unfold moX;rw [ca,ca,bu (by omega)]
  have hXn:moX m (ys++[x]) n=Quo.mk m x:=by
   unfold moX;rw [ca,bx (by omega),hyl,jh]; rfl
  have hXk:∀k (hk:k<n),moX m (ys++[x]) k=Quo.mk m (ys[k]'(by omega)):=fun k hk=>by
   rw [hX k hk];unfold moX;rw [ca,af (by omega)]; rfl
  have hdesc:Desc 11 (di ys []):=sr (Desc.nil 11) fun y hy=>by have:=hys y hy; have:=hm.five; omega
  have hle:=M7 ys [];rw [cb] at hle;rw [Oq]
  have main:∀A:List (Fp p),m9 A→(∀c∈A,c.len<m.len)→A.length=n+1→(∀y∈ys,pq m A y=0)→(moQ (n+1) (moX m (ys++[x]))=0↔pq m A x*moQ n (moX m ys)=0):=fun A h1 hr h2 h3=>by
   have e:=a9b (moX m (ys++[x])) h2 (fun k hk=>by rw [hXk k hk,←xx hm (hys _ (bb _))]; exact h3 _ (bb _))
   rw [hXn,←xx hm hxl,a4v hX] at e;exact Yk hm (acr hm h1 hr h2) e
  by_cases hfull:(di ys []).length=n
  ·have hI:=LkI.all hm ys _ _ (.one hm) hys
   have hd0:moQ n (moX m ys)≠0:=fun h=>ih.1 h hfull
   have hker:∀y∈ys,pq m (lsS m ys (f8 1 0)) y=0:=fun y hy=>(Ev hm).2 ((hI.ker y (hys y hy)).2 (Bu.2 y hy))
   rw [main _ hI.trim hI.res (by rw [hI.len,hfull]) hker]
   have hv:pq m (lsS m ys (f8 1 0)) x=0↔Spn (di ys []) x:=(Ev hm).trans (hI.ker x hxl);rw [←Eh hdesc] at hv;constructor
   ·intro h
    rcases hm.irr.quo_zero h with h | h
    ·rw [qt (hv.1 h),hfull]; omega
    ·exact absurd h hd0
   ·intro h
    by_cases hr:dl (di ys []) x=0
    ·rw [hv.2 hr,Gq.zero_mul]
    ·rw [sc hr,B6,hfull] at h
     exact absurd rfl h
  ·have hd0:moQ n (moX m ys)=0:=ih.2 hfull
   obtain ⟨A,h1,h2,h3,h4⟩:=aa7 hm ys hys;rw [main A h1 h2 (by rw [h3,hyl]) h4,hd0,Gq.mul_zero]
   have:=a1c (di ys []) x;exact ⟨fun _=>by omega,fun _=>rfl⟩
theorem X0 (hm:Fld m) {xs:List (Fp p)} (hx:∀x∈xs,x.len<m.len):dtP m xs.length (moK m xs xs.length)=0↔(di xs []).length≠xs.length:=by
 rw [←Qa hm xs.length xs rfl hx,←ae0 hm hx];have hl:=Ea hm.mon.2 hm.two xs.length (moK m xs xs.length);exact ⟨fun h=>by rw [h,Quo.mk_zero],fun h=>Yt hm hl (by rw [Pol.len_zero]; exact Pol.len_pos hm.mon.2) h⟩
theorem ac2 {xs ys:List (Fp p)} (hx:∀x∈xs,x.len≤11) (hy:∀y∈ys,y.len≤11) (h1:∀x∈xs,Spn (di ys []) x) (h2:∀y∈ys,Spn (di xs []) y):di xs []=di ys []:=by
 have dx:Desc 11 (di xs []):=sr (Desc.nil 11) hx;have dy:Desc 11 (di ys []):=sr (Desc.nil 11) hy;refine Vi dx dy (Hm (Desc.nil 11) Rdc.nil hx) (Hm (Desc.nil 11) Rdc.nil hy) (fun b hb=>?_) fun b hb=>?_
 ·exact (Eh dy b).2 (Lt (S:=Spn (di ys [])) .zero (fun k a b ha hb=>(ha.smul k).add hb) (fun a ha=>by cases ha) h1 b hb)
 ·exact (Eh dx b).2 (Lt (S:=Spn (di xs [])) .zero (fun k a b ha hb=>(ha.smul k).add hb) (fun a ha=>by cases ha) h2 b hb)
end
section
variable {p:Int}
theorem Ue:∀(xs ys:List (Fp p)),dif ys xs=(dif xs ys).map fun a=>-a
 | [],[]=>rfl
 | [],_::_=>rfl
 | _::_,[]=>rfl
 | x::xs,y::ys=>by
  show (y-x)::dif ys xs=-(x-y)::(dif xs ys).map fun a=>-a
  rw [Ue xs ys,show y-x=-(x-y) from bo [x,y] rfl]
end
section
variable {p:Int} [IsP p]
theorem a9x {xs ys:List (Fp p)} (h:∀x∈dif xs ys,x.len≤11):di (dif ys xs) []=di (dif xs ys) []:=by
 rw [Ue xs ys];refine ac2 (fun x hx=>?_) h (fun x hx=>?_) fun y hy=>?_
 ·obtain ⟨a,ha,rfl⟩:=ct.1 hx
  rw [Pol.len_neg]; exact h a ha
 ·obtain ⟨a,ha,rfl⟩:=ct.1 hx
  exact (Bu.2 a ha).neg
 ·have:=(Bu (L:=[])).2 (-y) (ct.2 ⟨y,hy,rfl⟩)
  have h2:=this.neg
  rwa [show - -y=y from bo [y] rfl] at h2
end
abbrev moH:List Blk:=[.hole,.hole,.hole,.hole,.hole,.hole,.hole,.hole]
theorem apc:Z22_B=Ad 8 Z22_B (lc 8 Z22_B):=by
 rw [Z22_B]; rfl
theorem akq:lc 8 Z22_B=Ad 1 (lc 8 Z22_B) (lc 9 Z22_B):=by
 rw [Z22_B]; rfl
theorem aia:lc 9 Z22_B=Ad 2 (lc 9 Z22_B) (lc 11 Z22_B):=by
 rw [Z22_B]; rfl
theorem aiz:lc 11 Z22_B=Ad 4 (lc 11 Z22_B) (lc 15 Z22_B):=by
 rw [Z22_B]; rfl
theorem aod {O:ap} (t:Cd) {code m det:List Int} {p one three:Int} {ls td:List D}
 (e0:ask O F23 [.sl .leaf (aq .u8 code)]=some (D.bool false))
 (d1:ask O F3b [.sl .leaf (aq .u8 code)]=some (.tup [(D.int .i64 p),(D.arr 64 .leaf (aq .u8 m)),.sl (.arr 64 .leaf) ls]))
 (a1:ask O F7 [(D.int .i64 p),(D.arr 64 .leaf (aq .u8 m)),.sl (.arr 64 .leaf) ls]=some (.tup [(D.arr 64 .leaf (aq .u8 det)),(D.int .i64 one)]))
 (a2:ask O F3f [(D.int .i64 p),(D.arr 64 .leaf (aq .u8 m)),.sl (.arr 64 .leaf) ls]=some (.tup [(D.arr 64 .leaf (aq .u8 det)),(D.int .i64 one)]))
 (b1:ask O F8 [(D.int .i64 p),(D.arr 64 .leaf (aq .u8 m)),.sl (.arr 64 .leaf) ls]=some (.tup [.sl .leaf td,(D.int .i64 three)]))
 (b2:ask O F3g [(D.int .i64 p),(D.arr 64 .leaf (aq .u8 m)),.sl (.arr 64 .leaf) ls]=some (.tup [.sl .leaf td,(D.int .i64 three)]))
 (q1:D.beq (.arr 64 .leaf .int) (D.arr 64 .leaf (aq .u8 det)) (D.arr 64 .leaf (aq .u8 det))=some true) :
 dn O 0 (Ad 8 Z22_B t) ⟨[(0,.d (.sl .leaf (aq .u8 code)))],moH⟩ =
  dn O 0 t ⟨[(0,.d (.sl .leaf (aq .u8 code))),(3,(.d (.int .i64 p))),(4,.ptr 0 []),(5,.d (.sl (.arr 64 .leaf) ls)),(6,.ptr 1 []),(7,(.d (.int .i64 one))),(10,.d (.sl .leaf td)),(12,.d (.sl .leaf td)),(110,(.d (.bool false)))],[.box false (D.arr 64 .leaf (aq .u8 m)),.box false (D.arr 64 .leaf (aq .u8 det)),.hole,.hole,.hole,.hole,.hole,.hole]⟩:=by
 simp -implicitDefEqProofs [Z22_B,Dr,E0,au,e0,d1,a1,a2,b1,b2,q1]
theorem ad0 {O:ap} {code m det:List Int} {p one:Int} {ls td:List D} (hl:td.length<1000) (hs:∀d∈td,Sh.beq d.sh .leaf=true∧d.isTup=false) (hq:∀d∈td,ask O F24 [d,d]=some (D.bool true)):∀(k i:Nat),i+k=td.length →
 dn O 0 (.loop Z22_L0) ⟨[(0,.d (.sl .leaf (aq .u8 code))),(3,(.d (.int .i64 p))),(4,.ptr 0 []),(5,.d (.sl (.arr 64 .leaf) ls)),(6,.ptr 1 []),(7,(.d (.int .i64 one))),(10,.d (.sl .leaf td)),(12,.d (.sl .leaf td)),(14,(.d (.int .i64 i)))],[.box false (D.arr 64 .leaf (aq .u8 m)),.box false (D.arr 64 .leaf (aq .u8 det)),.hole,.hole,.hole,.hole,.hole,.hole]⟩ =
  some (.exit 0,⟨[(0,.d (.sl .leaf (aq .u8 code))),(3,(.d (.int .i64 p))),(4,.ptr 0 []),(5,.d (.sl (.arr 64 .leaf) ls)),(6,.ptr 1 []),(7,(.d (.int .i64 one))),(10,.d (.sl .leaf td)),(12,.d (.sl .leaf td)),(14,(.d (.int .i64 td.length))),(114,(.d (.bool false)))],[.box false (D.arr 64 .leaf (aq .u8 m)),.box false (D.arr 64 .leaf (aq .u8 det)),.hole,.hole,.hole,.hole,.hole,.hole]⟩)
 | 0,i,hi=>by
  obtain rfl:i=td.length:=by omega
  refine cg ?_;simp -implicitDefEqProofs [Z22_L0,au]
 | k+1,i,hi=>by
  have hlt:i<td.length:=by omega
  have e1:=hq _ (bb hlt);obtain ⟨e2,e3⟩:=hs _ (bb hlt);have w4:IntKind.i64.wrap ((i:Int)+1)=((i+1:Nat):Int):=(w64 (x:=(i:Int)+1) (by omega)).trans (by omega)
  refine bq ?_ (ad0 hl hs hq k (i+1) (by omega))
  simp -implicitDefEqProofs [Z22_L0,au,hlt,e1,e2,e3,w4]
theorem anb {O:ap} (t:Cd) {code m det:List Int} {p one:Int} {ls td:List D} (hl:td.length<1000) (hs:∀d∈td,Sh.beq d.sh .leaf=true∧d.isTup=false) (hq:∀d∈td,ask O F24 [d,d]=some (D.bool true)) :
 dn O 0 (Ad 1 (lc 8 Z22_B) t) ⟨[(0,.d (.sl .leaf (aq .u8 code))),(3,(.d (.int .i64 p))),(4,.ptr 0 []),(5,.d (.sl (.arr 64 .leaf) ls)),(6,.ptr 1 []),(7,(.d (.int .i64 one))),(10,.d (.sl .leaf td)),(12,.d (.sl .leaf td)),(110,(.d (.bool false)))],[.box false (D.arr 64 .leaf (aq .u8 m)),.box false (D.arr 64 .leaf (aq .u8 det)),.hole,.hole,.hole,.hole,.hole,.hole]⟩ =
  dn O 0 t ⟨[(0,.d (.sl .leaf (aq .u8 code))),(3,(.d (.int .i64 p))),(4,.ptr 0 []),(5,.d (.sl (.arr 64 .leaf) ls)),(6,.ptr 1 []),(7,(.d (.int .i64 one))),(10,.d (.sl .leaf td)),(12,.d (.sl .leaf td)),(14,(.d (.int .i64 td.length))),(114,(.d (.bool false)))],[.box false (D.arr 64 .leaf (aq .u8 m)),.box false (D.arr 64 .leaf (aq .u8 det)),.hole,.hole,.hole,.hole,.hole,.hole]⟩:=by
 have e:=ad0 (O:=O) (code:=code) (m:=m) (det:=det) (p:=p) (one:=one) (ls:=ls) hl hs hq td.length 0 (br _);rw [show ((0:Nat):Int)=0 from rfl] at e;rw [Z22_B];simp -implicitDefEqProofs [lc,Dr,E0,e]
theorem acu {O:ap} {code:List Int} {dk lst:List D} (hl:dk.length≤8) (h8:lst.length=8) (hs:∀d∈dk,Sh.beq d.sh (.arr 64 .leaf)=true) (hs2:∀d∈lst,Sh.beq d.sh (.arr 64 .leaf)=true) (hq:∀(i:Nat) (h1:i<dk.length) (h2:i<lst.length),D.beq (.arr 64 .leaf .int) dk[i] lst[i]=some true):∀(k i:Nat),i+k=dk.length →
 dn O 0 (.loop Z22_L1) ⟨[(0,.d (.sl .leaf (aq .u8 code))),(17,.d (.sl (.arr 64 .leaf) dk)),(19,.ptr 3 []),(23,(.d (.int .i64 i)))],[.hole,.hole,.hole,.box false (.arr 8 (.arr 64 .leaf) lst),.hole,.hole,.hole,.hole]⟩ =
  some (.exit 2,⟨[(0,.d (.sl .leaf (aq .u8 code))),(17,.d (.sl (.arr 64 .leaf) dk)),(19,.ptr 3 []),(23,(.d (.int .i64 dk.length))),(199,(.d (.bool false)))],[.hole,.hole,.hole,.box false (.arr 8 (.arr 64 .leaf) lst),.hole,.hole,.hole,.hole]⟩)
 | 0,i,hi=>by
  obtain rfl:i=dk.length:=by omega
  refine cg ?_;simp -implicitDefEqProofs [Z22_L1,au]
 | k+1,i,hi=>by
  have hlt:i<dk.length:=by omega
  have hlt8:i<8:=by omega
  have e1:=hq i hlt (by omega)
  have w4:IntKind.i64.wrap ((i:Int)+1)=((i+1:Nat):Int):=(w64 (x:=(i:Int)+1) (by omega)).trans (by omega)
  have e2:=hs _ (bb hlt);have e3:=hs2 lst[i] (bb (by omega))
  refine bq ?_ (acu hl h8 hs hs2 hq k (i+1) (by omega))
  simp -implicitDefEqProofs [Z22_L1,au,hlt,hlt8,h8,e1,e2,e3,w4]
def Y1 (O:ap) (p:Int) (m det:List Int) (ls:List D):Prop:=∃(sp dk lst:List D),
 ask O Fc [(D.int .i64 p),(D.arr 64 .leaf (aq .u8 m)),.sl (.arr 64 .leaf) ls]=some (.tup [.sl (.arr 64 .leaf) sp,(D.int .i64 0)])∧ask O F4 [(D.int .i64 p),(D.arr 64 .leaf (aq .u8 m)),.sl (.arr 64 .leaf) ls]=some (.tup [.sl (.arr 64 .leaf) dk,(D.int .i64 0)]) ∧
 ask O F6 [(D.int .i64 p),(D.arr 64 .leaf (aq .u8 m)),.sl (.arr 64 .leaf) ls]=some (.tup [.arr 8 (.arr 64 .leaf) lst,(D.int .i64 0)])∧D.flats lst=true∧ask O Fb [(D.int .i64 p),(D.arr 64 .leaf (aq .u8 m)),.sl (.arr 64 .leaf) ls]=some (.tup [(D.int .i64 sp.length),(D.int .i64 0)]) ∧
 D.beq (.arr 64 .leaf .int) (D.arr 64 .leaf (aq .u8 det)) (D.arr 64 .leaf (aq .u8 (pad [])))=some (!decide (sp.length=ls.length))∧dk.length=sp.length+1∧sp.length≤7∧lst.length=8∧(∀d∈dk,Sh.beq d.sh (.arr 64 .leaf)=true)∧(∀d∈lst,Sh.beq d.sh (.arr 64 .leaf)=true)∧∀(i:Nat) (h1:i<dk.length) (h2:i<lst.length),D.beq (.arr 64 .leaf .int) dk[i] lst[i]=some true
theorem aol {O:ap} (t:Cd) {code m det n:List Int} {p one q:Int} {tl:Nat} {ls td vs ws:List D} (h:one≠0∨one=0∧Y1 O p m det ls)
 (d1:ask O F3c [.sl .leaf (aq .u8 code)]=some (.tup [(D.int .i64 q),(D.arr 64 .leaf (aq .u8 n)),.sl (.arr 64 .leaf) vs,.sl (.arr 64 .leaf) ws])) :
 dn O 0 (Ad 2 (lc 9 Z22_B) t) ⟨[(0,.d (.sl .leaf (aq .u8 code))),(3,(.d (.int .i64 p))),(4,.ptr 0 []),(5,.d (.sl (.arr 64 .leaf) ls)),(6,.ptr 1 []),(7,(.d (.int .i64 one))),(10,.d (.sl .leaf td)),(12,.d (.sl .leaf td)),(14,(.d (.int .i64 tl))),(114,(.d (.bool false)))],[.box false (D.arr 64 .leaf (aq .u8 m)),.box false (D.arr 64 .leaf (aq .u8 det)),.hole,.hole,.hole,.hole,.hole,.hole]⟩ =
  dn O 0 t ⟨[(0,.d (.sl .leaf (aq .u8 code))),(24,(.d (.int .i64 q))),(25,.ptr 4 []),(26,.d (.sl (.arr 64 .leaf) vs)),(27,.d (.sl (.arr 64 .leaf) ws))],[.hole,.hole,.hole,.hole,.box false (D.arr 64 .leaf (aq .u8 n)),.hole,.hole,.hole]⟩:=by
 rcases h with h | ⟨rfl,sp,dk,lst,c1,c2,c3,cf,c4,c5,c6,c7,c8,s1,s2,c9⟩
 ·rw [Z22_B]
  simp -implicitDefEqProofs [lc,Dr,E0,au,h,d1]
 ·have e:=acu (O:=O) (code:=code) (dk:=dk) (lst:=lst) (by omega) c8 s1 s2 c9 dk.length 0 (br _)
  rw [show ((0:Nat):Int)=0 from rfl] at e;have w1:IntKind.i64.wrap ((sp.length:Int)+1)=(dk.length:Int):=(w64 (by omega)).trans (by omega)
  have bt:D.beq .bool (.bool true) (.bool true)=some true:=rfl;have bf:D.beq .bool (.bool false) (.bool false)=some true:=rfl;rw [Z22_B]
  by_cases g:sp.length=ls.length
  ·rw [decide_eq_true g,Bool.not_true] at c5
   have g':(sp.length:Int)=ls.length:=by omega
   rw [g'] at w1;simp -implicitDefEqProofs [lc,Dr,E0,au,c1,c2,c3,cf,c4,c5,bt,g',w1,e,d1]
  ·rw [decide_eq_false g,Bool.not_false] at c5
   have g':¬ (sp.length:Int)=ls.length:=by omega
   simp -implicitDefEqProofs [lc,Dr,E0,au,c1,c2,c3,cf,c4,c5,bf,g',w1,e,d1]
theorem ao5 {O:ap} (t:Cd) {code n:List Int} {q d k d' k':Int} {vs ws:List D}
 (a1:ask O Fa [(D.int .i64 q),(D.arr 64 .leaf (aq .u8 n)),.sl (.arr 64 .leaf) vs,.sl (.arr 64 .leaf) ws]=some (.tup [(D.int .i64 d),(D.int .i64 k)])) (a2:ask O F3h [(D.int .i64 q),(D.arr 64 .leaf (aq .u8 n)),.sl (.arr 64 .leaf) vs,.sl (.arr 64 .leaf) ws]=some (.tup [(D.int .i64 d),(D.int .i64 k)]))
 (a3:ask O Fa [(D.int .i64 q),(D.arr 64 .leaf (aq .u8 n)),.sl (.arr 64 .leaf) ws,.sl (.arr 64 .leaf) vs]=some (.tup [(D.int .i64 d'),(D.int .i64 k')])) (h:k≠0∨k=0∧k'=0∧d'=d) :
 dn O 0 (Ad 4 (lc 11 Z22_B) t) ⟨[(0,.d (.sl .leaf (aq .u8 code))),(24,(.d (.int .i64 q))),(25,.ptr 4 []),(26,.d (.sl (.arr 64 .leaf) vs)),(27,.d (.sl (.arr 64 .leaf) ws))],[.hole,.hole,.hole,.hole,.box false (D.arr 64 .leaf (aq .u8 n)),.hole,.hole,.hole]⟩ =
  dn O 0 t ⟨[(0,.d (.sl .leaf (aq .u8 code))),(261,(.d (.bool false)))],moH⟩:=by
 rcases h with h | ⟨rfl,rfl,rfl⟩
 ·rw [Z22_B]
  simp -implicitDefEqProofs [lc,Dr,E0,au,a1,a2,a3,h]
 ·rw [Z22_B]
  simp -implicitDefEqProofs [lc,Dr,E0,au,a1,a2,a3]
theorem anc {O:ap} {code o kk lw:List Int} {r s tt c1 c2 rk c3:Int} {so few wd sp dk:List D}
 (d1:ask O F3e [.sl .leaf (aq .u8 code)]=some (.tup [(D.int .i64 r),(D.arr 64 .leaf (aq .u8 o)),.sl (.arr 64 .leaf) so]))
 (a1:ask O Fc [(D.int .i64 r),(D.arr 64 .leaf (aq .u8 o)),.sl (.arr 64 .leaf) so]=some (.tup [.sl (.arr 64 .leaf) sp,(D.int .i64 c1)])) (a2:ask O F3j [(D.int .i64 r),(D.arr 64 .leaf (aq .u8 o)),.sl (.arr 64 .leaf) so]=some (.tup [.sl (.arr 64 .leaf) sp,(D.int .i64 c1)]))
 (d2:ask O F3a [.sl .leaf (aq .u8 code)]=some (.tup [(D.int .i64 s),(D.arr 64 .leaf (aq .u8 kk)),.sl (.arr 64 .leaf) few]))
 (b1:ask O F4 [(D.int .i64 s),(D.arr 64 .leaf (aq .u8 kk)),.sl (.arr 64 .leaf) few]=some (.tup [.sl (.arr 64 .leaf) dk,(D.int .i64 c2)])) (b2:ask O F39 [(D.int .i64 s),(D.arr 64 .leaf (aq .u8 kk)),.sl (.arr 64 .leaf) few]=some (.tup [.sl (.arr 64 .leaf) dk,(D.int .i64 c2)]))
 (d3:ask O F3d [.sl .leaf (aq .u8 code)]=some (.tup [(D.int .i64 tt),(D.arr 64 .leaf (aq .u8 lw)),.sl (.arr 64 .leaf) wd]))
 (f1:ask O Fb [(D.int .i64 tt),(D.arr 64 .leaf (aq .u8 lw)),.sl (.arr 64 .leaf) wd]=some (.tup [(D.int .i64 rk),(D.int .i64 c3)])) (f2:ask O F3i [(D.int .i64 tt),(D.arr 64 .leaf (aq .u8 lw)),.sl (.arr 64 .leaf) wd]=some (.tup [(D.int .i64 rk),(D.int .i64 c3)]))
 (p1:ask O F24 [.sl (.arr 64 .leaf) sp,.sl (.arr 64 .leaf) sp]=some (D.bool true)) (p2:ask O F24 [.sl (.arr 64 .leaf) dk,.sl (.arr 64 .leaf) dk]=some (D.bool true)) :
 dn O 0 (lc 15 Z22_B) ⟨[(0,.d (.sl .leaf (aq .u8 code))),(261,(.d (.bool false)))],moH⟩=some (.ret,⟨[(2,(.d (.bool true)))],moH⟩):=by
 rw [Z22_B];simp -implicitDefEqProofs [lc,d1,a1,a2,d2,b1,b2,d3,f1,f2,p1,p2]
end Pe
namespace Pe
open Go Gq
variable {T:Nat→Option Fn} {A:ap}
theorem abr (p:Int) (l:List Int) (ls ms:List (List Int)):∃(d k d' k':Int),Ns p l ls ms=.tup [(D.int .i64 d),(D.int .i64 k)]∧Ns p l ms ls=.tup [(D.int .i64 d'),(D.int .i64 k')]∧(k≠0∨k=0∧k'=0∧d'=d):=by
 have hsw:∀(as bs:List (List Int)),qd p l (as++bs)→qd p l (bs++as):=fun as bs h=>by
  obtain ⟨ip,m,rfl,hm,hs⟩:=h
  exact ⟨ip,m,rfl,hm,fun x hx=>hs x (by
   rcases bi.1 hx with g | g
   ·exact bi.2 (.inr g)
   ·exact bi.2 (.inl g))⟩
 by_cases h:qd p l (ls++ms)
 ·have h':=hsw ls ms h
  by_cases hb:4<ls.length∨ms.length≠ls.length
  ·have hb':4<ms.length∨ls.length≠ms.length:=by omega
   refine ⟨0,2,0,2,?_,?_,.inl (by omega)⟩
   ·unfold Ns; rw [dif_pos h,if_pos hb]
   ·unfold Ns; rw [dif_pos h',if_pos hb']
  ·have hb':¬ (4<ms.length∨ls.length≠ms.length):=by omega
   haveI:IsP p:=h.choose
   have key:di (dif (ms.map (fc p)) (ls.map (fc p))) []=di (dif (ls.map (fc p)) (ms.map (fc p))) []:=by
    refine a9x fun x hx=>?_
    obtain ⟨ip,m,rfl,hm,hs⟩:=id h;obtain ⟨S,e,hS⟩:=rz hs;have h5:=hm.five
    have hall:∀a∈ls++ms,(fc p a).len<m.len:=fun a ha=>by
     rw [e] at ha;obtain ⟨s,hs,rfl⟩:=ct.1 ha;have:=hS s hs;rw [pe (by omega)]; exact this
    unfold dif at hx;obtain ⟨i,hi,rfl⟩:=List.mem_iff_getElem.1 hx;rw [List.getElem_zipWith,ci,ci];have h1:=hall (ls[i]'(by simp at hi; omega)) (bi.2 (.inl (bb _)))
    have h2:=hall (ms[i]'(by simp at hi; omega)) (bi.2 (.inr (bb _)))
    have:=Pol.len_sub_le (n:=m.len-1) (a:=fc p (ls[i]'(by simp at hi; omega))) (b:=fc p (ms[i]'(by simp at hi; omega))) (by omega) (by omega)
    omega
   refine ⟨(di (dif (ls.map (fc p)) (ms.map (fc p))) []).length,0,(di (dif (ls.map (fc p)) (ms.map (fc p))) []).length,0,?_,?_,.inr ⟨rfl,rfl,rfl⟩⟩
   ·unfold Ns; rw [dif_pos h,if_neg hb]
   ·unfold Ns; rw [dif_pos h',if_neg hb']
    exact congrArg (fun L:List (Fp p)=>D.tup [(D.int .i64 ((L.length:Int))),(D.int .i64 0)]) key
 ·refine ⟨0,1,0,1,?_,?_,.inl (by omega)⟩
  ·unfold Ns; rw [dif_neg h]
  ·unfold Ns; rw [dif_neg fun g=>h (hsw ms ls g)]
theorem abh (hsp:wj (den T A) Fc) (hdk:pv (den T A) F4) (hle:xp (den T A) F6) (hrk:oq (den T A) Fb) {p:Int} {l:List Int} {ls:List (List Int)} (al:Arr l) (as:v6 ls) (hl:ls.length≤1000) (h:kw p l ls 0 4=0):Y1 (den T A) p l (mdL p l ls) (ls.map ce):=by
 have e1:=hsp p l ls al.2 al.1 as (by omega)
 have e2:=hdk p l ls al.2 al.1 as (by omega)
 have e3:=hle p l ls al.2 al.1 as (by omega)
 have e4:=hrk p l ls al.2 al.1 as (by omega)
 obtain ⟨h',h4⟩:=Ic.1 h;have hc:=nm.2 h';obtain ⟨ip,m,rfl,hm,hs⟩:=id h';obtain ⟨S,rfl,hS⟩:=rz hs;have h5:=hm.five;have hSl:S.length≤4:=by rwa [ab] at h4
 have hS64:∀a∈S,a.len≤64:=fun a ha=>by have:=hS a ha; omega
 have hI:=LsI.all hm S _ (.one hm) hS;have hK:=LkI.all hm S _ _ (.one hm) hS;have hI8:=hI.len hm;have hle:=M7 S [];rw [cb] at hle;have rA:=G6 hm.mon.2 hI.res;unfold spD at e1;unfold dkD at e2;rw [show spL p (pad (row m)) (S.map fun a=>pad (row a))=skP (di S []) from Ej h' hS64,hc] at e1
 rw [show dkL p (pad (row m)) (S.map fun a=>pad (row a))=skP (lsS m S (f8 1 0)) from Eo h' (by omega) hS64,hc] at e2
 rw [show lkD p (pad (row m)) (S.map fun a=>pad (row a))=_ from Vc h' (by omega) hS64] at e3
 unfold rwD at e4;rw [dif_pos h,show (S.map fun a=>pad (row a)).map (fc p)=S from mc hS64] at e4
 have hlen:((skP (di S [])).map ce).length=(di S []).length:=by rw [ab]; unfold skP; rw [ab]
 have hlen2:((skP (lsS m S (f8 1 0))).map ce).length=(lsS m S (f8 1 0)).length:=by rw [ab]; unfold skP; rw [ab]
 have hlen3:((S.map fun a=>pad (row a)).map ce).length=S.length:=by rw [ab,ab]
 have hlen4:((skP (pd8 (lsS m S (f8 1 0)))).map ce).length=8:=by rw [ab]; unfold skP; rw [ab,oe (by omega)]
 have hsh:∀(Q:List (List Int)),(∀l∈Q,l.length=64)→∀d∈Q.map ce,Sh.beq d.sh (.arr 64 .leaf)=true:=fun Q hQ d hd=>by
  obtain ⟨l,_,rfl⟩:=ct.1 hd;rfl
 refine ⟨_,_,_,e1,e2,e3,su _,?_,?_,?_,?_,hlen4,?_,?_,?_⟩
 ·rw [hlen]; exact e4
 ·rw [show mdL p (pad (row m)) (S.map fun a=>pad (row a))=_ from Ni h' hSl (by omega) hS64,Ov (dc _) (dc _),hlen,hlen3]
  have hdl:=Ea hm.mon.2 hm.two S.length (moK m S S.length)
  have hz:pad (row (dtP m S.length (moK m S S.length)))=pad []↔(di S []).length≠S.length:=by
   rw [←X0 hm hS,show ([]:List Int)=row (0:Fp p) from row_zero.symm];exact qa (by omega) (by rw [Pol.len_zero]; omega)
  by_cases g:(di S []).length=S.length
  ·rw [decide_eq_true g,decide_eq_false fun e=>hz.1 e g]; rfl
  ·rw [decide_eq_false g,decide_eq_true (hz.2 g)]; rfl
 ·rw [hlen2,hlen,hK.len]
 ·rw [hlen]; omega
 ·exact hsh _ fun l hl=>by obtain ⟨a,_,rfl⟩:=ct.1 hl; exact dc _
 ·exact hsh _ fun l hl=>by obtain ⟨a,_,rfl⟩:=ct.1 hl; exact dc _
 ·intro i h1 h2
  rw [hlen2] at h1
  have e:((skP (pd8 (lsS m S (f8 1 0)))).map ce)[i]=((skP (lsS m S (f8 1 0))).map ce)[i]'(by rw [hlen2]; exact h1):=by
   simp only [ci,skP]
   congr 2
   have a1:=Xs (A:=lsS m S (f8 1 0)) i;unfold cS at a1;rw [af (by rw [oe (by omega)]; omega),af h1] at a1
   exact congrArg (fun z=>row z) a1
  rw [e];simp only [ci,skP];exact (Ov (dc _) (dc _)).trans (by rw [decide_eq_true rfl])
def Sf (O:ap):Prop:=∀code:List Int,je code→code.length≤9223372036854775807→ask O F22 [.sl .leaf (aq .u8 code)]=some (D.bool true)
theorem a36 (hT:T F22=some Z22) (hbig:a9w (den T A)) (hdm:p8 (den T A) F3b) (hdr:sj (den T A)) (hds:p8 (den T A) F3e) (hdd:p8 (den T A) F3a) (hdw:p8 (den T A) F3d)
 (hde:ua (den T A) F7) (hdes:ua (den T A) F3f) (hmm:pb (den T A) F8) (hmms:pb (den T A) F3g) (hpo:Mp (den T A))
 (hsp:wj (den T A) Fc) (hsps:wj (den T A) F3j) (hdk:pv (den T A) F4) (hdks:pv (den T A) F39) (hle:xp (den T A) F6) (hrk:oq (den T A) Fb) (hrks:oq (den T A) F3i)
 (hrd:nv (den T A) Fa) (hrds:nv (den T A) F3h):Sf (den T A):=by
 intro code hb hl;have e0:=hbig (aq .u8 code)
 by_cases hc:(4096:Int)<(aq .u8 code).length
 ·rw [decide_eq_true hc] at e0
  refine ch hT rfl ?_;simp -implicitDefEqProofs [Z22,Z22_B,au,e0]
 rw [decide_eq_false hc] at e0
 have hc4:code.length≤4096:=by
  rw [Id] at hc;omega
 obtain ⟨p,m,ls,d1,am,als,hls⟩:=hdm code hb hc4;obtain ⟨q,n,vs,ws,d2,an,avs,aws,hvw⟩:=hdr code hb hc4;obtain ⟨r,o,so,d3,ao,aso,hso⟩:=hds code hb hc4;obtain ⟨s,kk,few,d4,ak,afe,hfe⟩:=hdd code hb hc4;obtain ⟨tt,lw,wd,d5,aw,awd,hwd⟩:=hdw code hb hc4;have a1:=hde p m ls am.2 am.1 als (by omega)
 have a2:=hdes p m ls am.2 am.1 als (by omega)
 have b1:=hmm p m ls am.2 am.1 als (by omega)
 have b2:=hmms p m ls am.2 am.1 als (by omega)
 obtain ⟨s1,s2⟩:=aee p m ls;unfold a2o at b1 b2
 have hq:∀d∈(mmT p m ls).map fun r=>D.sl (.arr 64 .leaf) (r.map ce),ask (den T A) F24 [d,d]=some (D.bool true):=fun d hd=>by
  obtain ⟨r,hr,rfl⟩:=ct.1 hd;obtain ⟨r1,r2⟩:=s2 r hr;exact hpo r r2 (by omega)
 have hsh:∀d∈(mmT p m ls).map fun r=>D.sl (.arr 64 .leaf) (r.map ce),Sh.beq d.sh .leaf=true∧d.isTup=false:=fun d hd=>by
  obtain ⟨r,_,rfl⟩:=ct.1 hd;exact ⟨rfl,rfl⟩
 have htl:((mmT p m ls).map fun r=>D.sl (.arr 64 .leaf) (r.map ce)).length<1000:=by rw [ab]; omega
 have said:kw p m ls 0 4≠0∨kw p m ls 0 4=0∧Y1 (den T A) p m (mdL p m ls) (ls.map ce):=by
  by_cases h:kw p m ls 0 4=0
  ·exact .inr ⟨h,abh hsp hdk hle hrk am als hls h⟩
  ·exact .inl h
 have c1:=hrd q n vs ws an.2 an.1 avs aws (by omega)
 have c2:=hrds q n vs ws an.2 an.1 avs aws (by omega)
 have c3:=hrd q n ws vs an.2 an.1 aws avs (by omega)
 obtain ⟨dd,k,dd',k',g1,g2,g3⟩:=abr q n vs ws;rw [g1] at c1 c2;rw [g2] at c3;have f1:=hsp r o so ao.2 ao.1 aso (by omega)
 have f2:=hsps r o so ao.2 ao.1 aso (by omega)
 have h1:=hdk s kk few ak.2 ak.1 afe (by omega)
 have h2:=hdks s kk few ak.2 ak.1 afe (by omega)
 have i1:=hrk tt lw wd aw.2 aw.1 awd (by omega)
 have i2:=hrks tt lw wd aw.2 aw.1 awd (by omega)
 obtain ⟨rk,c,ej⟩:∃rk c:Int,rwD tt lw wd=.tup [(D.int .i64 rk),(D.int .i64 c)]:=by
  unfold rwD
  split
  ·exact ⟨_,_,rfl⟩
  ·exact ⟨_,_,rfl⟩
 rw [ej] at i1 i2;obtain ⟨u1,u2⟩:=aeq r o so;obtain ⟨v1,v2⟩:=aey s kk few;have p1:=aod (O:=den T A) (Ad 1 (lc 8 Z22_B) (Ad 2 (lc 9 Z22_B) (Ad 4 (lc 11 Z22_B) (lc 15 Z22_B)))) e0 d1 a1 a2 b1 b2 (by rw [Ov (a0d ..) (a0d ..),decide_eq_true rfl])
 have p2:=anb (O:=den T A) (Ad 2 (lc 9 Z22_B) (Ad 4 (lc 11 Z22_B) (lc 15 Z22_B))) (code:=code) (m:=m) (det:=mdL p m ls) (p:=p) (one:=kw p m ls 0 4) (ls:=ls.map ce) htl hsh hq;have p3:=aol (O:=den T A) (Ad 4 (lc 11 Z22_B) (lc 15 Z22_B)) (tl:=((mmT p m ls).map fun r=>D.sl (.arr 64 .leaf) (r.map ce)).length) (td:=(mmT p m ls).map fun r=>D.sl (.arr 64 .leaf) (r.map ce)) said d2
 have p4:=ao5 (O:=den T A) (lc 15 Z22_B) (code:=code) c1 c2 c3 g3;have p5:=anc (O:=den T A) d3 f1 f2 d4 h1 h2 d5 i1 i2 (hpo _ u1 (by omega)) (hpo _ v1 (by omega))
 have all:=p1.trans (p2.trans (p3.trans (p4.trans p5)));rw [←aiz,←aia,←akq,←apc] at all;refine ch hT rfl ?_;simp -implicitDefEqProofs [Z22,all,List.replicate]
end Pe
namespace Pe
open Go Gq
abbrev tyB:Ty:=.sl (.int .u8)
theorem ak3 {d:D} (h:tyB.has d):∃l:List Int,d=.sl .leaf (aq .u8 l)∧je l∧l.length≤9223372036854775807:=by
 cases d <;> simp only [Ty.has] at h
 obtain ⟨rfl,h1,h2⟩:=h;obtain ⟨l,rfl,hb⟩:=Ph _ h2;exact ⟨l,rfl,hb,by simpa [aq] using h1⟩
end Pe
