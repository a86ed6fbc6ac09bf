/-
  A part of the proof: an evaluator for a small form of the code, its soundness, and contracts of functions over it.
-/
import Derived.Test.YtlnmecnmlnegcaaGreatW1
import Derived.Test.YtlnmecnmlnegcaaGreatW2
import Derived.Test.YtlnmecnmlnegcaaGreatW3
import Derived.Test.YtlnmecnmlnegcaaGreatW4

namespace Pe
open Go Gq
variable {T:Nat→Option Fn} {A:ah}
def rr (O:ah):Prop:=∀b:Blk,Src b→∃(p:Int) (b':Blk),O F30 [.ptr 0 []] [b]=some ((.d (.int .i64 p)),[b'],[])∧Src b'∧IsP p
theorem Ih (hT:T F30=some Z30) (hp:uq (den T A)):rr (den T A):=by
 intro b hs;obtain ⟨x,b',e,hs',hx⟩:=hp b [2,2,3,3,5,7] 6 (some 6) hs rfl (by omega) (by omega)
 rw [show ak .i64 [2,2,3,3,5,7]=[.int .i64 2,.int .i64 2,.int .i64 3,.int .i64 3,.int .i64 5,.int .i64 7] from rfl] at e;obtain ⟨c,a,h,rfl,_⟩:=id hs;obtain ⟨c',a',h',rfl,_⟩:=id hs';refine ⟨x,_,jb hT rfl ?_,hs',⟨by simp at hx; omega⟩⟩
 simp -implicitDefEqProofs [Z30,Z30_B,e,List.replicate,List.idxOf,List.findIdx,List.findIdx.go]
structure DrI (p:Int) (Q:List Int) (n:Nat):Prop where
 l:Q.length=64
 c:Can p Q
 z:∀j,n≤j→cf Q j=0
theorem DrI.set {p:Int} {Q:List Int} {n k:Nat} {x:Int} (h:DrI p Q n) (h0:0≤x) (h1:x<p) (hk:k<n):DrI p (Q.set k x) n:=
 ⟨by rw [cg]; exact h.l,fun y hy=>by
  rcases di hy with g | rfl
  ·exact h.c y g
  ·exact ⟨h0,h1⟩,fun j hj=>by rw [po,if_neg (by omega)]; exact h.z j hj⟩
section
variable {p:Int} [IsP p]
theorem DrI.pol {Q:List Int} {n:Nat} (h:DrI p Q n):Q=pad (row (dl p Q))∧(dl p Q).len≤n:=
 ⟨Cf h.c h.l,Pol.len_le fun j hj=>by rw [fc,h.z j hj]; rfl⟩
theorem N8 {O:ah} (hn:om O F3b) {b1:Blk} {n:Nat} (hn64:n≤64):∀(k:Nat) (b:Blk) (Q:List Int),k≤n→Src b→DrI p Q n→∃(b':Blk) (Q':List Int),Src b'∧DrI p Q' n ∧
 dn O 1 (.loop ir_spec_l01Draw_L0) ⟨[(0,.ptr 0 []),(1,(.d (.int .i64 p))),(6,.ptr 1 []),(7,.ptr 2 []),(8,(.d (.int .i64 ((k:Int)-1))))],[b,b1,.box false (D.arr 64 .leaf (ak .u8 Q))]⟩ =
  some (.exit 0,⟨[(0,.ptr 0 []),(1,(.d (.int .i64 p))),(6,.ptr 1 []),(7,.ptr 2 []),(8,(.d (.int .i64 (-1)))),(16,(.d (.bool false)))],[b',b1,.box false (D.arr 64 .leaf (ak .u8 Q'))]⟩)
 | 0,b,Q,hk,hs,hQ=>by
  refine ⟨b,Q,hs,hQ,bo ?_⟩;obtain ⟨c,a,h,rfl,_⟩:=hs;simp -implicitDefEqProofs [ir_spec_l01Draw_L0,af]
 | k+1,b,Q,hk,hs,hQ=>by
  have hp:=IsP.ge (p:=p);have hp7:=IsP.le (p:=p);obtain ⟨x,b2,e1,hs2,x0,x1⟩:=hn b 3 hs (by omega)
  have w1:IntKind.i64.wrap ((((k+1:Nat):Int)-1)-1)=(k:Int)-1:=(w64 (by omega)).trans (by omega)
  have hk1:((k+1:Nat):Int)-1=(k:Int):=by omega
  rw [hk1] at w1 ⊢;have hge:(0:Int)≤k:=by omega
  have hkQ:k<Q.length:=by rw [hQ.l]; omega
  have hk64:k<64:=by omega
  by_cases hx:0<x
  ·obtain ⟨y,b3,e2,hs3,y0,y1⟩:=hn b2 p hs2 (by omega)
   have w2:IntKind.u8.wrap y=y:=w8 (by omega)
   obtain ⟨b',Q',hs',hQ',ih⟩:=N8 hn (b1:=b1) hn64 k b3 (Q.set k y) (by omega) hs3 (hQ.set y0 (by omega) (by omega))
   refine ⟨b',Q',hs',hQ',bb ?_ ih⟩;obtain ⟨c,a,h,rfl,_⟩:=hs;obtain ⟨c2,a2,h2,rfl,_⟩:=hs2;obtain ⟨c3,a3,h3,rfl,_⟩:=hs3;simp -implicitDefEqProofs [ir_spec_l01Draw_L0,af,hge,e1,e2,hx,w1,w2,hkQ,hk64,List.idxOf,List.findIdx,List.findIdx.go]
  ·obtain ⟨b',Q',hs',hQ',ih⟩:=N8 hn (b1:=b1) hn64 k b2 Q (by omega) hs2 hQ
   refine ⟨b',Q',hs',hQ',bb ?_ ih⟩;obtain ⟨c,a,h,rfl,_⟩:=hs;obtain ⟨c2,a2,h2,rfl,_⟩:=hs2;simp -implicitDefEqProofs [ir_spec_l01Draw_L0,af,hge,e1,hx,w1,List.idxOf,List.findIdx,List.findIdx.go]
end
theorem DrI.zero (p:Int) [IsP p] (n:Nat):DrI p (pad []) n:=
 ⟨bq _,fun x hx=>by
  have hp:=IsP.ge (p:=p)
  have:x=0:=by
   unfold pad at hx;obtain ⟨a,_,rfl⟩:∃a,a<64∧cf [] a=x:=by simpa using hx
   exact ko (jn _)
  omega,fun j _=>(uk (l:=[]) (by simp) j).trans (ko (jn _))⟩
def Lj (O:ah):Prop:=∀(p:Int) [IsP p] (b:Blk) (n:Nat),Src b→n≤63→∃(a:Fp p) (b':Blk),O F2y [.ptr 0 [],(.d (.int .i64 p)),(.d (.int .i64 ((n:Int))))] [b]=some (.d (D.arr 64 .leaf (ak .u8 (pad (row a)))),[b'],[])∧Src b'∧a.len≤n+1
theorem Y4 (hT:T F2y=some Z2y) (hn:om (den T A) F3b):Lj (den T A):=by
 intro p ip b n hs h63;obtain ⟨x,b2,e1,hs2,x0,x1⟩:=hn b ((n:Int)+2) hs (by omega)
 obtain ⟨k,rfl⟩:∃k:Nat,x=k:=⟨x.toNat,by omega⟩
 have w0:IntKind.i64.wrap ((n:Int)+2)=(n:Int)+2:=w64 (by omega)
 have w1:IntKind.i64.wrap ((k:Int)-1)=(k:Int)-1:=w64 (by omega)
 obtain ⟨b',Q,hs',hQ,e2⟩:=N8 (p:=p) hn (b1:=.box false (D.arr 64 .leaf (ak .u8 (pad [])))) (n:=n+1) (by omega) k b2 (pad []) (by omega) hs2 (.zero p _)
 obtain ⟨q1,q2⟩:=hQ.pol;refine ⟨dl p Q,b',jb hT rfl ?_,hs',q2⟩;rw [←q1];obtain ⟨c,a,h,rfl,_⟩:=hs;obtain ⟨c2,a2,h2,rfl,_⟩:=hs2;obtain ⟨c',a',h',rfl,_⟩:=hs';simp -implicitDefEqProofs [Z2y,ir_spec_l01Draw_B,w0,e1,w1,e2,List.replicate,List.idxOf,List.findIdx,List.findIdx.go]
theorem U0 {O:ah} (hn:om O F3b) {p:Int} [IsP p] {b1:Blk} {n:Nat} {most k:Int} (hn62:n≤62):∀(r i:Nat) (b:Blk) (Q:List Int),i+r=n→Src b→DrI p Q n→∃(b':Blk) (Q':List Int),Src b'∧DrI p Q' n ∧
 dn O 1 (.loop Z2z_L0) ⟨[(0,.ptr 0 []),(1,(.d (.int .i64 p))),(2,(.d (.int .i64 most))),(6,.ptr 1 []),(7,.ptr 2 []),(8,(.d (.int .i64 k))),(9,(.d (.int .i64 n))),(10,(.d (.int .i64 i)))],[b,b1,.box false (D.arr 64 .leaf (ak .u8 Q))]⟩ =
  some (.exit 2,⟨[(0,.ptr 0 []),(1,(.d (.int .i64 p))),(2,(.d (.int .i64 most))),(6,.ptr 1 []),(7,.ptr 2 []),(8,(.d (.int .i64 k))),(9,(.d (.int .i64 n))),(10,(.d (.int .i64 n))),(23,(.d (.bool false)))],[b',b1,.box false (D.arr 64 .leaf (ak .u8 Q'))]⟩)
 | 0,i,b,Q,hi,hs,hQ=>by
  obtain rfl:i=n:=by omega
  refine ⟨b,Q,hs,hQ,bo ?_⟩;obtain ⟨c,a,h,rfl,_⟩:=hs;simp -implicitDefEqProofs [Z2z_L0,af]
 | r+1,i,b,Q,hi,hs,hQ=>by
  have hp:=IsP.ge (p:=p);have hp7:=IsP.le (p:=p);obtain ⟨y,b3,e2,hs3,y0,y1⟩:=hn b p hs (by omega)
  have w2:IntKind.u8.wrap y=y:=w8 (by omega)
  have w4:IntKind.i64.wrap ((i:Int)+1)=((i+1:Nat):Int):=(w64 (x:=(i:Int)+1) (by omega)).trans (by omega)
  have hlt:i<n:=by omega
  have hiQ:i<Q.length:=by rw [hQ.l]; omega
  have hi64:i<64:=by omega
  obtain ⟨b',Q',hs',hQ',ih⟩:=U0 hn (b1:=b1) (most:=most) (k:=k) hn62 r (i+1) b3 (Q.set i y) (by omega) hs3 (hQ.set y0 (by omega) hlt)
  refine ⟨b',Q',hs',hQ',bb ?_ ih⟩;obtain ⟨c,a,h,rfl,_⟩:=hs;obtain ⟨c3,a3,h3,rfl,_⟩:=hs3;simp -implicitDefEqProofs [Z2z_L0,af,hlt,e2,w2,w4,hiQ,hi64,List.idxOf,List.findIdx,List.findIdx.go]
theorem DrI.up {p:Int} {Q:List Int} {n m:Nat} (h:DrI p Q n) (hm:n≤m):DrI p Q m:=⟨h.l,h.c,fun j hj=>h.z j (by omega)⟩
theorem DrI.mod {p:Int} [IsP p] {Q:List Int} {n:Nat} (h:DrI p Q n) (hn:n≤62):∃a:Fp p,Q.set n 1=pad (row a)∧a.len=n+1∧Monic a:=by
 have hp:=IsP.ge (p:=p);have h1:DrI p (Q.set n 1) (n+1):=(h.up (Nat.le_succ n)).set (by omega) (by omega) (Nat.lt_succ_self n)
 obtain ⟨q1,q2⟩:=h1.pol
 have hc:(dl p (Q.set n 1)).c n=1:=by
  rw [fc,po,if_pos ⟨rfl,by rw [h.l]; omega⟩,Mb]
 have hne:(dl p (Q.set n 1)).c n≠0:=by
  rw [hc]; exact Fd.one_ne
 have hl:(dl p (Q.set n 1)).len=n+1:=Pol.len_eq (Pol.lt_iff.2 q2) hne;have h0:dl p (Q.set n 1)≠0:=fun h=>by rw [h,Pol.len_zero] at hl; omega
 exact ⟨dl p (Q.set n 1),q1,hl,⟨by unfold Pol.ld; rw [hl]; exact hc,h0⟩⟩
open Classical in
theorem V7 {O:ah} (hn:om O F3b) (hir:xg O) {p:Int} [IsP p] {z:List Int} {most:Int} (hm1:1≤most) (hm2:most≤12):∀(r k:Nat) (b:Blk) (a:Fp p),k+r=4→Src b→2≤a.len→a.len≤most+1→Monic a→∃(b':Blk) (a':Fp p),Src b'∧2≤a'.len∧a'.len≤most+1∧Monic a' ∧
 (dn O 1 (.loop Z2z_L1) ⟨[(0,.ptr 0 []),(1,(.d (.int .i64 p))),(2,(.d (.int .i64 most))),(6,.ptr 1 []),(7,.ptr 2 []),(8,(.d (.int .i64 k)))],[b,.box false (D.arr 64 .leaf (ak .u8 z)),.box false (D.arr 64 .leaf (ak .u8 (pad (row a))))]⟩ =
  some (.exit 0,⟨[(0,.ptr 0 []),(1,(.d (.int .i64 p))),(2,(.d (.int .i64 most))),(6,.ptr 1 []),(7,.ptr 2 []),(8,(.d (.int .i64 4))),(13,(.d (.bool false)))],[b',.box false (D.arr 64 .leaf (ak .u8 z)),.box false (D.arr 64 .leaf (ak .u8 (pad (row a'))))]⟩) ∨
 dn O 1 (.loop Z2z_L1) ⟨[(0,.ptr 0 []),(1,(.d (.int .i64 p))),(2,(.d (.int .i64 most))),(6,.ptr 1 []),(7,.ptr 2 []),(8,(.d (.int .i64 k)))],[b,.box false (D.arr 64 .leaf (ak .u8 z)),.box false (D.arr 64 .leaf (ak .u8 (pad (row a))))]⟩ =
  some (.ret,⟨[(6,.ptr 1 [])],[b',.box false (D.arr 64 .leaf (ak .u8 (pad (row a')))),.hole]⟩))
 | 0,k,b,a,hk,hs,h2,hl,hm=>by
  obtain rfl:k=4:=by omega
  refine ⟨b,a,hs,h2,hl,hm,.inl (bo ?_)⟩;obtain ⟨c,a,h,rfl,_⟩:=hs;simp -implicitDefEqProofs [Z2z_L1,af]
 | r+1,k,b,a,hk,hs,h2,hl,hm=>by
  have hk4:(k:Int)<4:=by omega
  obtain ⟨x,b2,e1,hs2,x0,x1⟩:=hn b most hs (by omega)
  obtain ⟨n,hn1⟩:∃n:Nat,1+x=n:=⟨(1+x).toNat,by omega⟩
  have w1:IntKind.i64.wrap (1+x)=n:=(w64 (by omega)).trans hn1
  obtain ⟨b3,Q,hs3,hQ,st⟩:=U0 hn (p:=p) (b1:=.box false (D.arr 64 .leaf (ak .u8 z))) (n:=n) (most:=most) (k:=k) (by omega) n 0 b2 (pad []) (bf _) hs2 (.zero p _)
  rw [show ((0:Nat):Int)=0 from rfl] at st;obtain ⟨a',q1,q2,q3⟩:=hQ.mod (by omega)
  have hnQ:n<Q.length:=by rw [hQ.l]; omega
  have hn64:n<64:=by omega
  obtain ⟨y,b4,e2,hs4,y0,y1⟩:=hn b3 3 hs3 (by omega)
  have w4:IntKind.i64.wrap ((k:Int)+1)=((k+1:Nat):Int):=(w64 (x:=(k:Int)+1) (by omega)).trans (by omega)
  have e3:=hir p a' q3.2 (by omega)
  obtain ⟨b',a2,g1,g2,g3,g4,ih⟩:=V7 hn hir (z:=z) hm1 hm2 r (k+1) b4 a' (by omega) hs4 (by omega) (by omega) q3
  by_cases hy:y=0
  ·refine ⟨b4,a',hs4,by omega,by omega,q3,.inr (ki ?_)⟩
   obtain ⟨c,a0,h,rfl,_⟩:=hs;obtain ⟨c2,a2,h2,rfl,_⟩:=hs2;obtain ⟨c3,a3,h3,rfl,_⟩:=hs3;obtain ⟨c4,a4,h4,rfl,_⟩:=hs4;generalize pad (row a)=Pa at *;generalize hPQ:Q.set n 1=PQ at *;generalize pad (row a')=Pb at *;subst q1;simp -implicitDefEqProofs [Z2z_L1,af,hk4,e1,w1,st,hnQ,hn64,hPQ,e2,hy,List.idxOf,List.findIdx,List.findIdx.go]
  ·by_cases hI:Irr a'
   ·refine ⟨b4,a',hs4,by omega,by omega,q3,.inr (ki ?_)⟩
    rw [decide_eq_true hI] at e3;obtain ⟨c,a0,h,rfl,_⟩:=hs;obtain ⟨c2,a2,h2,rfl,_⟩:=hs2;obtain ⟨c3,a3,h3,rfl,_⟩:=hs3;obtain ⟨c4,a4,h4,rfl,_⟩:=hs4;generalize pad (row a)=Pa at *;generalize hPQ:Q.set n 1=PQ at *;generalize pad (row a')=Pb at *;subst q1;simp -implicitDefEqProofs [Z2z_L1,af,hk4,e1,w1,st,hnQ,hn64,hPQ,e2,e3,hy,List.idxOf,List.findIdx,List.findIdx.go]
   ·rw [decide_eq_false hI] at e3
    have key:dn O 1 Z2z_L1 ⟨[(0,.ptr 0 []),(1,(.d (.int .i64 p))),(2,(.d (.int .i64 most))),(6,.ptr 1 []),(7,.ptr 2 []),(8,(.d (.int .i64 k)))],[b,.box false (D.arr 64 .leaf (ak .u8 z)),.box false (D.arr 64 .leaf (ak .u8 (pad (row a))))]⟩=some (.normal,⟨[(0,.ptr 0 []),(1,(.d (.int .i64 p))),(2,(.d (.int .i64 most))),(6,.ptr 1 []),(7,.ptr 2 []),(8,(.d (.int .i64 (((k+1:Nat):Int)))))],[b4,.box false (D.arr 64 .leaf (ak .u8 z)),.box false (D.arr 64 .leaf (ak .u8 (pad (row a'))))]⟩):=by
     obtain ⟨c,a0,h,rfl,_⟩:=hs;obtain ⟨c2,a2,h2,rfl,_⟩:=hs2;obtain ⟨c3,a3,h3,rfl,_⟩:=hs3;obtain ⟨c4,a4,h4,rfl,_⟩:=hs4;generalize pad (row a)=Pa at *;generalize hPQ:Q.set n 1=PQ at *;generalize pad (row a')=Pb at *;subst q1;simp -implicitDefEqProofs [Z2z_L1,af,hk4,e1,w1,st,hnQ,hn64,hPQ,e2,e3,hy,w4,List.idxOf,List.findIdx,List.findIdx.go]
    exact ⟨b',a2,g1,g2,g3,g4,ih.imp (bb key) (bb key)⟩
def sw (O:ah):Prop:=∀(p:Int) [IsP p] (b:Blk) (most:Int),Src b→1≤most→most≤12→∃(a:Fp p) (b':Blk),O F2z [.ptr 0 [],(.d (.int .i64 p)),(.d (.int .i64 most))] [b]=some (.d (D.arr 64 .leaf (ak .u8 (pad (row a)))),[b'],[])∧Src b'∧2≤a.len∧a.len≤most+1∧Monic a
theorem Qs (hT:T F2z=some Z2z) (hn:om (den T A) F3b) (ht:T4 (den T A)) (hir:xg (den T A)):sw (den T A):=by
 intro p ip b most hs hm1 hm2;have e0:=ht p;have hX:(Pol.X:Fp p).len=2:=Pol.len_X;obtain ⟨b',a',g1,g2,g3,g4,e | e⟩:=V7 (O:=den T A) hn hir (z:=pad []) hm1 hm2 4 0 b (Pol.X:Fp p) rfl hs (by omega) (by omega) ⟨by unfold Pol.ld; rw [Pol.len_X]; rfl,Pol.X_ne⟩
 ·refine ⟨a',b',jb hT rfl ?_,g1,g2,g3,g4⟩
  rw [show ((0:Nat):Int)=0 from rfl] at e;obtain ⟨c,a0,h,rfl,_⟩:=hs;obtain ⟨c2,a2,h2,rfl,_⟩:=g1;generalize pad (row a')=Pb at *;generalize pad (row (Pol.X:Fp p))=Pt at *;simp -implicitDefEqProofs [Z2z,Z2z_B,e0,e,List.replicate,List.idxOf,List.findIdx]
 ·refine ⟨a',b',jb hT rfl ?_,g1,g2,g3,g4⟩
  rw [show ((0:Nat):Int)=0 from rfl] at e;obtain ⟨c,a0,h,rfl,_⟩:=hs;obtain ⟨c2,a2,h2,rfl,_⟩:=g1;generalize pad (row a')=Pb at *;generalize pad (row (Pol.X:Fp p))=Pt at *;simp -implicitDefEqProofs [Z2z,Z2z_B,e0,e,List.replicate,List.idxOf,List.findIdx]
def Vf (O:ah):Prop:=∀(b:Blk) (p:Int) (l:List Int),Src b→0≤p→p<256→l.length=64→ft l→∃(l':List Int) (b':Blk),O F2s [.ptr 0 [],(.d (.int .i64 p)),.d (D.arr 64 .leaf (ak .u8 l))] [b]=some (.d (D.arr 64 .leaf (ak .u8 l')),[b'],[])∧Src b'∧l'.length=64∧ft l'
theorem a2l (hT:T F2s=some Z2s) (hn:om (den T A) F3b) (hp:uq (den T A)):Vf (den T A):=by
 intro b p l hs p0 p1 hl hb;obtain ⟨x,b2,e1,hs2,x0,x1⟩:=hn b 40 hs (by omega)
 by_cases hx:x=0
 ·obtain ⟨y,b3,e2,hs3,y0,y1⟩:=hn b2 64 hs2 (by omega)
  obtain ⟨k,rfl⟩:∃k:Nat,y=k:=⟨y.toNat,by omega⟩
  obtain ⟨v,b4,e3,hs4,hv⟩:=hp b3 [p,7,255,1] 4 (some 4) hs3 rfl (by omega) (by omega)
  rw [show ak .i64 [p,7,255,1]=[.int .i64 p,.int .i64 7,.int .i64 255,.int .i64 1] from rfl] at e3;have hv2:0≤v∧v<256:=by simp at hv; omega
  have w1:IntKind.u8.wrap v=v:=w8 hv2;have hk:k<64:=by omega
  refine ⟨l.set k v,b4,jb hT rfl ?_,hs4,by rw [cg]; exact hl,fun z hz=>by
   rcases di hz with g | rfl
   ·exact hb z g
   ·exact hv2⟩
  subst hx;obtain ⟨c,a0,h,rfl,_⟩:=hs;obtain ⟨c2,a2,h2,rfl,_⟩:=hs2;obtain ⟨c3,a3,h3,rfl,_⟩:=hs3;obtain ⟨c4,a4,h4,rfl,_⟩:=hs4;simp -implicitDefEqProofs [Z2s,Z2s_B,af,e1,e2,e3,w1,hk,hl,List.replicate,List.idxOf,List.findIdx,List.findIdx.go]
 ·refine ⟨l,b2,jb hT rfl ?_,hs2,hl,hb⟩
  obtain ⟨c,a0,h,rfl,_⟩:=hs;obtain ⟨c2,a2,h2,rfl,_⟩:=hs2;simp -implicitDefEqProofs [Z2s,Z2s_B,af,e1,hx,List.replicate,List.idxOf,List.findIdx,List.findIdx.go]
end Pe

namespace Pe
open Go Gq
variable {T:Nat→Option Fn} {A:ah}
def Arr (l:List Int):Prop:=l.length=64∧ft l
theorem H7 {p:Int} [IsP p] (a:Fp p):Arr (pad (row a)):=⟨bq _,ot a⟩
end Pe

namespace Gq
def Pr (l:Nat):Prop:=2≤l∧∀d,d∣l→d=1∨d=l
theorem Pr.coprime {l n:Nat} (h:Pr l) (hn:¬ l∣n):Nat.Coprime l n:=by
 rcases h.2 _ (Nat.gcd_dvd_left l n) with h1 | h1
 ·exact h1
 ·exact absurd (h1▸Nat.gcd_dvd_right l n) hn
theorem Xn:∀(n:Nat),2≤n→∃l,Pr l∧l∣n:=by
 intro n
 induction n using Nat.strongRecOn with
 | ind n ih=>
  intro hn
  by_cases h:Pr n
  ·exact ⟨n,h,Nat.dvd_refl n⟩
  ·have:∃d,d∣n∧d≠1∧d≠n:=by
    apply ck;intro hno;refine h ⟨hn,fun d hd=>?_⟩
    apply ck;intro h2;exact hno ⟨d,hd,fun e=>h2 (.inl e),fun e=>h2 (.inr e)⟩
   obtain ⟨d,hd,h1,h2⟩:=this;have hle:=mi (by omega) hd
   have h0:d≠0:=fun e=>by
    rw [e] at hd;have:=Nat.eq_zero_of_zero_dvd hd;omega
   obtain ⟨l,hl,hld⟩:=ih d (by omega) (by omega)
   exact ⟨l,hl,fl hld hd⟩
theorem Pr.dvd_mul {l a b:Nat} (h:Pr l) (hd:l∣a*b):l∣a∨l∣b:=by
 by_cases ha:l∣a
 ·exact .inl ha
 ·exact .inr ((h.coprime ha).dvd_of_dvd_mul_left hd)
theorem Pr.dvd_pr {l q:Nat} (h:Pr l) (hq:Pr q) (hd:l∣q):l=q:=by
 rcases hq.2 l hd with h1 | h1
 ·have:=h.1; omega
 ·exact h1
theorem V4 {n:Nat} (h0:1≤n) (h:∀l,Pr l→¬ l∣n):n=1:=by
 apply ck;intro h1;obtain ⟨l,hl,hd⟩:=Xn n (by omega)
 exact h l hl hd
section
variable {R:Type} [CR R]
theorem G8 {x:R} {n k:Nat} (h:pw x n=1) (hd:n∣k):pw x k=1:=by
 obtain ⟨c,rfl⟩:=hd;rw [←tu,h,G2]
def Ord (x:R) (n:Nat):Prop:=∀k,pw x k=1↔n∣k
theorem Ord.self {x:R} {n:Nat} (h:Ord x n):pw x n=1:=(h n).2 (Nat.dvd_refl n)
theorem Ord.unique {x:R} {n m:Nat} (h:Ord x n) (h':Ord x m):n=m:=Nat.dvd_antisymm ((h m).1 h'.self) ((h' n).1 h.self)
theorem Ord.mul {a b:R} {m n:Nat} (ha:Ord a m) (hb:Ord b n) (h:Nat.Coprime m n):Ord (a*b) (m*n):=fun k=>by
 constructor
 ·intro hk
  have h1:m∣k:=by
   have e:pw a (k*n)=1:=by
    have e1:pw (a*b) (k*n)=1:=by rw [←tu,hk,G2]
    rw [zi,G8 hb.self (i6 n k),mul_one] at e1;exact e1
   exact h.dvd_of_dvd_mul_right ((ha _).1 e)
  have h2:n∣k:=by
   have e:pw b (k*m)=1:=by
    have e1:pw (a*b) (k*m)=1:=by rw [←tu,hk,G2]
    rw [zi,G8 ha.self (i6 m k),one_mul] at e1;exact e1
   exact h.symm.dvd_of_dvd_mul_right ((hb _).1 e)
  exact h.mul_dvd_of_dvd_of_dvd h1 h2
 ·intro hd
  rw [zi,G8 ha.self (fl (o6 m n) hd),G8 hb.self (fl (i6 n m) hd),mul_one]
end
structure OrdI (n q rest order:Nat) (fin:Bool):Prop where
 dv:n∣order
 pos:1≤order
 low:∀l,Pr l→l<q→¬ l*n∣order∧¬ l∣rest
 rel:∃c,order=rest*c∧(∀l,Pr l→q<l→¬ l∣c)∧(fin=false→Pr q→¬ q∣c)
 fin:fin=true→¬ q*n∣order
theorem OrdI.rest_pos {n q rest order:Nat} {f:Bool} (h:OrdI n q rest order f):1≤rest:=by
 obtain ⟨c,e,-⟩:=h.rel;have:=h.pos;rcases ia rest with h0 | h0
 ·rw [h0,m8] at e; omega
 ·exact h0
theorem OrdI.init {n N:Nat} (hN:1≤N) (h:n∣N):OrdI n 2 N N false where
 dv:=h
 pos:=hN
 low:=fun l hl h2=>by have:=hl.1; omega
 rel:=⟨1,(Nat.mul_one N).symm,fun l hl _ hd=>by have:=hl.1; have:=mi (by omega) hd; omega,fun _ hq hd=>by have:=hq.1; have:=mi (by omega) hd; omega⟩
 fin:=fun h=>by cases h
theorem OrdI.prime {n q rest order:Nat} {f:Bool} (h:OrdI n q rest order f) (h2:2≤q) (hd:q∣rest):Pr q:=by
 obtain ⟨l,hl,hlq⟩:=Xn q h2;rcases ct l q with h1 | h1
 ·exact absurd (fl hlq hd) (h.low l hl h1).2
 ·have:=mi (by omega) hlq
  obtain rfl:l=q:=by omega
  exact hl
theorem OrdI.yes {n q r c':Nat} {f:Bool} (h:OrdI n q (q*r) (q*c') f) (h2:2≤q) (hd:n∣c'):OrdI n q r c' f where
 dv:=hd
 pos:=by
  have:=h.pos;rcases ia c' with h0 | h0
  ·rw [h0,Nat.mul_zero] at this; omega
  ·exact h0
 low:=fun l hl h1=>by
  obtain ⟨a,b⟩:=h.low l hl h1;exact ⟨fun e=>a (fl e (i6 c' q)),fun e=>b (fl e (i6 r q))⟩
 rel:=by
  obtain ⟨c,e,h3,h4⟩:=h.rel;refine ⟨c,?_,h3,h4⟩;rw [Nat.mul_assoc] at e;exact Nat.eq_of_mul_eq_mul_left (by omega) e
 fin:=fun hf e=>h.fin hf (fl e (i6 c' q))
theorem OrdI.no {n q r c':Nat} {f:Bool} (h:OrdI n q (q*r) (q*c') f) (h2:2≤q) (hd:¬ n∣c'):OrdI n q r (q*c') true where
 dv:=h.dv
 pos:=h.pos
 low:=fun l hl h1=>by
  obtain ⟨a,b⟩:=h.low l hl h1;exact ⟨a,fun e=>b (fl e (i6 r q))⟩
 rel:=by
  have hq:=h.prime h2 (o6 q r);obtain ⟨c,e,h3,_⟩:=h.rel;refine ⟨q*c,by rw [e,Nat.mul_assoc,Nat.mul_left_comm],fun l hl h4 hl2=>?_,fun hf=>by cases hf⟩
  rcases hl.dvd_mul hl2 with h5 | h5
  ·have:=hl.dvd_pr hq h5; omega
  ·exact h3 l hl h4 h5
 fin:=fun _ e=>hd (Nat.dvd_of_mul_dvd_mul_left (by omega) e)
theorem OrdI.next {n q rest order:Nat} {f:Bool} (h:OrdI n q rest order f) (h2:2≤q) (hd:¬ q∣rest):OrdI n (q+1) rest order false where
 dv:=h.dv
 pos:=h.pos
 low:=fun l hl h1=>by
  rcases ct l q with h3 | h3
  ·exact h.low l hl h3
  ·obtain rfl:l=q:=by omega
   refine ⟨fun e=>?_,hd⟩
   cases f with
   | true=>exact h.fin rfl e
   | false=>
    obtain ⟨c,e1,_,h5⟩:=h.rel;have:l∣rest*c:=e1▸fl (o6 l n) e;rcases hl.dvd_mul this with h6 | h6
    ·exact hd h6
    ·exact h5 rfl hl h6
 rel:=by
  obtain ⟨c,e1,h4,_⟩:=h.rel;exact ⟨c,e1,fun l hl h5=>h4 l hl (by omega),fun _ hq=>h4 _ hq (by omega)⟩
 fin:=fun hf=>by cases hf
theorem OrdI.done {n q rest order:Nat} (h:OrdI n q rest order false) (hq:rest<q):order=n:=by
 have hr:rest=1:=V4 h.rest_pos fun l hl hd=>by
  have:=mi h.rest_pos hd;exact (h.low l hl (by omega)).2 hd
 obtain ⟨c,e1,h4,h5⟩:=h.rel;rw [hr,Nat.one_mul] at e1;obtain ⟨k,hk⟩:=h.dv
 have hk1:k=1:=V4 (by
  have:=h.pos;rcases ia k with h0 | h0
  ·rw [h0,Nat.mul_zero] at hk; omega
  ·exact h0) fun l hl hd=>by
  have hln:l*n∣order:=by
   rw [hk,Nat.mul_comm l n]; exact Nat.mul_dvd_mul_left n hd
  rcases ct l q with h6 | h6
  ·exact (h.low l hl h6).1 hln
  ·have hlc:l∣c:=e1▸fl (o6 l n) hln
   rcases ct q l with h7 | h7
   ·exact h4 l hl h7 hlc
   ·obtain rfl:l=q:=by omega
    exact h5 rfl hl hlc
 rw [hk,hk1,Nat.mul_one]
end Gq

namespace Pe
open Gq
section
variable {p:Int}
def IsPrim (m:Fp p) (k:Nat):Prop:=1≤k∧(k:Int)<p^(m.len-1)∧Ord (Quo.mk m (du p k)) (p.toNat^(m.len-1)-1)∧∀j:Nat,1≤j→j<k→¬ Ord (Quo.mk m (du p j)) (p.toNat^(m.len-1)-1)
theorem IsPrim.unique {m:Fp p} {j k:Nat} (hj:IsPrim m j) (hk:IsPrim m k):j=k:=by
 rcases ct j k with h | h
 ·exact absurd hj.2.2.1 (hk.2.2.2 j hj.1 h)
 ·rcases ct k j with h2 | h2
  ·exact absurd hk.2.2.1 (hj.2.2.2 k hk.1 h2)
  ·omega
noncomputable def dgF:ej p→Nat
 | []=>0
 | x::L=>x.2*(x.1.len-1)+dgF L
theorem Ha [IsP p] {q:Fp p} (h:Monic q):∀k,(pw q k).len=k*(q.len-1)+1
 | 0=>by rw [m8]; exact Pol.len_one
 | k+1=>by
  have h1:=Pol.len_mul (Monic.pw h k).2 h.2;have h2:=Ha h k;have h3:=Pol.len_pos h.2;show (pw q k*q).len=_;rw [dk]; omega
theorem wb [IsP p]:∀{L:ej p},FacOk L→(dz L).len=dgF L+1
 | [],_=>Pol.len_one
 | x::L,h=>by
  have hm:=(h.irr x (by simp)).2.1
  have ht:FacOk L:=⟨fun y hy=>h.irr y (by simp [hy]),h.dis.tail⟩
  have h1:=wb ht;have h2:=Pol.len_mul (Monic.pw hm x.2).2 (rt ht).2;rw [Ha hm] at h2;rw [n6,dgF]; omega
end
end Pe


namespace Pe
open Go Gq
variable {T:Nat→Option Fn} {A:ah}
section
variable {p:Int} [IsP p]
end
section
variable {p:Int} [IsP p]
end
section
variable {p:Int} [IsP p]
end
end Pe

namespace Pe
open Go Gq
variable {T:Nat→Option Fn} {A:ah}
theorem Ib (p:Int) (ls:List (List Int)):pq p ls=0∨pq p ls=1:=by
 unfold pq; split
 ·exact .inl rfl
 ·exact .inr rfl
theorem ui {p:Int} {l:List Int} (hb:ft l) (hl:l.length=64) (h:pq p [l]=0):∃(_:IsP p) (a:Fp p),a.len≤64∧l=pad (row a):=by
 rcases a7h p hb hl with ⟨h1,h2⟩ | ⟨ip,a,hal,e⟩
 ·rw [h1] at h; cases h
 ·exact ⟨ip,a,hal,e⟩
end Pe

namespace Pe
open Go Gq
variable {T:Nat→Option Fn} {A:ah}
section
variable {p:Int} [IsP p]
theorem a2y {a b:Nat} (h:a≤b):p^a≤p^b:=jh (p:=p) (by have:=IsP.pos (p:=p); omega) h
theorem IsFac.small {m:Fp p} (hm:m≠0) (hl:m.len≤13) {L:ej p} (h:IsFac m L):(∀x∈L,2≤x.1.len∧x.1.len≤13∧1≤x.2∧x.2≤12)∧dgF L+1=m.len:=by
 refine ⟨fun x hx=>?_,?_⟩
 ·obtain ⟨q1,q2,q3,_⟩:=h.len hm hx
  exact ⟨q1,by omega,(h.ok.irr x hx).2.2,by omega⟩
 ·rw [←wb h.ok]
  conv=>rhs; rw [h.eq]
  exact (Pol.len_Cmul (Pol.ld_ne hm) _).symm
end
section
variable {p:Int} [IsP p]
end
end Pe

namespace Pe
open Go Gq
variable {T:Nat→Option Fn} {A:ah}
section
variable {p:Int} [IsP p]
end
end Pe

namespace Pe
open Go Gq
variable {T:Nat→Option Fn} {A:ah}
theorem Br {O:ah} (hm:sw O) (ht:pc O) (hdg:ja O) {p:Int} [IsP p] {z:List Int}:∀(k:Nat) (b:Blk) (a:Fp p),k≤1000→Src b→a.len≤10→∃(b':Blk) (a':Fp p),Src b'∧a'.len≤10 ∧
 dn O 0 (.loop Z3o_L0) ⟨[(3,.ptr 0 []),(4,.ptr 1 []),(5,(.d (.int .i64 p))),(6,.ptr 3 []),(7,(.d (.int .i64 ((k:Int)))))],[.box false (D.arr 64 .leaf (ak .u8 z)),b,.hole,.box false (D.arr 64 .leaf (ak .u8 (pad (row a)))),.hole]⟩ =
  some (.exit 0,⟨[(3,.ptr 0 []),(4,.ptr 1 []),(5,(.d (.int .i64 p))),(6,.ptr 3 []),(7,(.d (.int .i64 0))),(23,(.d (.bool false)))],[.box false (D.arr 64 .leaf (ak .u8 z)),b',.hole,.box false (D.arr 64 .leaf (ak .u8 (pad (row a')))),.hole]⟩)
 | 0,b,a,_,hs,ha=>by
  refine ⟨b,a,hs,ha,bo ?_⟩;obtain ⟨_,_,_,rfl,_⟩:=hs;generalize pad (row a)=Pa at *;simp -implicitDefEqProofs [Z3o_L0,af]
 | k+1,b,a,hk,hs,ha=>by
  obtain ⟨m,b2,e1,hs2,m2,m3,hM⟩:=hm p b 2 hs (by omega) (by omega)
  have hml:(a*m).len≤a.len+m.len:=by
   by_cases h0:a=0
   ·rw [h0,Gq.zero_mul,Pol.len_zero]; omega
   ·have:=Pol.len_mul h0 hM.2
    omega
  have e2:=ht p a m (by omega) (by omega) (by omega)
  have e3:=hdg p (a*m) (by omega)
  have hk0:(0:Int)<((k+1:Nat):Int):=by omega
  obtain ⟨kk,hkk⟩:∃kk:Int,((k+1:Nat):Int)=kk:=⟨_,rfl⟩;have w1:IntKind.i64.wrap (kk-1)=k:=(w64 (by omega)).trans (by omega)
  rw [hkk] at hk0 ⊢
  by_cases hc:(a*m).len≤10
  ·obtain ⟨b',a',hs',ha',ih⟩:=Br hm ht hdg (z:=z) k b2 (a*m) (by omega) hs2 hc
   refine ⟨b',a',hs',ha',bb ?_ ih⟩;obtain ⟨_,_,_,rfl,_⟩:=hs;obtain ⟨_,_,_,rfl,_⟩:=hs2;have hd9:((a*m).len:Int)-1≤9:=by omega
   generalize pad (row (a*m))=Pn at *;generalize ((a*m).len:Int)-1=dg at *;generalize pad (row a)=Pa at *;generalize pad (row m)=Pm at *;simp -implicitDefEqProofs [Z3o_L0,af,hk0,e1,e2,e3,hd9,w1,List.idxOf,List.findIdx,List.findIdx.go]
  ·obtain ⟨b',a',hs',ha',ih⟩:=Br hm ht hdg (z:=z) k b2 a (by omega) hs2 ha
   refine ⟨b',a',hs',ha',bb ?_ ih⟩;obtain ⟨_,_,_,rfl,_⟩:=hs;obtain ⟨_,_,_,rfl,_⟩:=hs2;have hd9:¬ ((a*m).len:Int)-1≤9:=by omega
   generalize pad (row (a*m))=Pn at *;generalize ((a*m).len:Int)-1=dg at *;generalize pad (row a)=Pa at *;generalize pad (row m)=Pm at *;simp -implicitDefEqProofs [Z3o_L0,af,hk0,e1,e2,e3,hd9,w1,List.idxOf,List.findIdx,List.findIdx.go]
def ye (O:ah):Prop:=∀code:List Int,ft code→code.length≤4096→∃(p:Int) (m:List Int),ask O F3o [.sl .leaf (ak .u8 code)]=some (.tup [(D.int .i64 p),(D.arr 64 .leaf (ak .u8 m))])∧0≤p∧p<256∧Arr m
theorem Td (hT:T F3o=some Z3o) (hf:A0 (den T A)) (hn:om (den T A) F3b) (hpk:uq (den T A)) (hpr:rr (den T A)) (hd:Lj (den T A)) (hm:sw (den T A)) (hb:Vf (den T A)) (ht:pc (den T A)) (hdg:ja (den T A)):ye (den T A):=by
 intro code hbc hc;obtain ⟨b,e1,hs⟩:=hf code hbc hc;obtain ⟨p,b1,e2,hs1,ip⟩:=hpr b hs;have hp2:=IsP.ge (p:=p);have hp7:=IsP.le (p:=p);obtain ⟨x,b2,e3,hs2,hx⟩:=hpk b1 [4,6,8] 3 (some 3) hs1 rfl (by omega) (by omega)
 rw [show ak .i64 [4,6,8]=[.int .i64 4,.int .i64 6,.int .i64 8] from rfl] at e3;obtain ⟨n,rfl⟩:∃n:Nat,x=n:=⟨x.toNat,by simp at hx; omega⟩
 have hn8:n≤8:=by simp at hx; omega
 obtain ⟨a,b3,e4,hs3,ha⟩:=hd p b2 n hs2 (by omega)
 obtain ⟨k,b4,e5,hs4,k0,k1⟩:=hn b3 3 hs3 (by omega)
 obtain ⟨k,rfl⟩:∃j:Nat,k=j:=⟨k.toNat,by omega⟩
 obtain ⟨b5,a5,hs5,ha5,e6⟩:=Br (O:=den T A) hm ht hdg (z:=pad []) k b4 a (by omega) hs4 (by omega)
 obtain ⟨y,b6,e7,hs6,y0,y1⟩:=hn b5 24 hs5 (by omega)
 by_cases hy:y=0
 ·obtain ⟨a7,b7,e8,hs7,-⟩:=hd p b6 20 hs6 (by omega)
  rw [show ((20:Nat):Int)=20 from rfl] at e8;obtain ⟨hal,hab⟩:=H7 a7;obtain ⟨l,b8,e9,hs8,g1,g2⟩:=hb b7 p (pad (row a7)) hs7 (by omega) (by omega) hal hab
  refine ⟨p,l,bc hT rfl ?_,by omega,by omega,g1,g2⟩
  obtain ⟨_,_,_,rfl,_⟩:=hs;obtain ⟨_,_,_,rfl,_⟩:=hs1;obtain ⟨_,_,_,rfl,_⟩:=hs2;obtain ⟨_,_,_,rfl,_⟩:=hs3;obtain ⟨_,_,_,rfl,_⟩:=hs4;obtain ⟨_,_,_,rfl,_⟩:=hs5;obtain ⟨_,_,_,rfl,_⟩:=hs6;obtain ⟨_,_,_,rfl,_⟩:=hs7;obtain ⟨_,_,_,rfl,_⟩:=hs8;generalize pad (row a)=Pa at *;generalize pad (row a5)=Pa5 at *;generalize pad (row a7)=Pa7 at *;simp -implicitDefEqProofs [Z3o,Z3o_B,af,e1,e2,e3,e4,e5,e6,e7,e8,e9,hy,List.replicate,List.idxOf,List.findIdx,List.findIdx.go]
 ·obtain ⟨hal,hab⟩:=H7 a5
  obtain ⟨l,b8,e9,hs8,g1,g2⟩:=hb b6 p (pad (row a5)) hs6 (by omega) (by omega) hal hab
  refine ⟨p,l,bc hT rfl ?_,by omega,by omega,g1,g2⟩
  obtain ⟨_,_,_,rfl,_⟩:=hs;obtain ⟨_,_,_,rfl,_⟩:=hs1;obtain ⟨_,_,_,rfl,_⟩:=hs2;obtain ⟨_,_,_,rfl,_⟩:=hs3;obtain ⟨_,_,_,rfl,_⟩:=hs4;obtain ⟨_,_,_,rfl,_⟩:=hs5;obtain ⟨_,_,_,rfl,_⟩:=hs6;obtain ⟨_,_,_,rfl,_⟩:=hs8;generalize pad (row a)=Pa at *;generalize pad (row a5)=Pa5 at *;simp -implicitDefEqProofs [Z3o,Z3o_B,af,e1,e2,e3,e4,e5,e6,e7,e9,hy,List.replicate,List.idxOf,List.findIdx,List.findIdx.go]
end Pe

namespace Pe
open Go Gq
section
variable {p:Int}
theorem Oq {q a:Fp p} (h:∃u v:Fp p,u*q+v*a=1):∀n,∃u v:Fp p,u*pw q n+v*a=1
 | 0=>⟨1,0,by
  show 1*(1:Fp p)+0*a=1;rw [Gq.one_mul,Gq.zero_mul,Gq.add_zero]⟩
 | n+1=>by
  obtain ⟨u,v,e⟩:=h;obtain ⟨s,t,e2⟩:=Oq ⟨u,v,e⟩ n;refine ⟨s*u,s*pw q n*v+t*u*q+t*v*a,?_⟩;have e3:(s*pw q n+t*a)*(u*q+v*a)=1:=by rw [e,e2,Gq.one_mul]
  rw [←e3];show s*u*(pw q n*q)+(s*pw q n*v+t*u*q+t*v*a)*a=_;exact c6 [s,u,v,t,q,a,pw q n] rfl
end
section
variable {p:Int} [IsP p]
theorem Yv {b a y:Fp p} (h:∃u v:Fp p,u*b+v*a=1) (h1:Dv b y) (h2:Dv a y):Dv (b*a) y:=by
 obtain ⟨u,v,e⟩:=h;obtain ⟨s,hs⟩:=h1;obtain ⟨t,ht⟩:=h2;refine ⟨u*t+v*s,?_⟩;have e1:y=y*(u*b)+y*(v*a):=by rw [←Gq.mul_add,e,Gq.mul_one]
 rw [e1]
 conv=>lhs; lhs; rw [ht]
 conv=>lhs; rhs; rw [hs]
 exact c6 [u,v,s,t,a,b] rfl
theorem Q7 {d:Nat} (hd:d≤12):p^d<1000000000000:=by
 have h1:=jh (p:=p) (by have:=IsP.pos (p:=p); omega) hd
 have h2:p^12<1000000000000:=by rcases IsP.h (p:=p) with h | h | h | h <;> (subst h; decide)
 omega
theorem Nr {y:Fp p}:∀{L:ej p},FacOk L→(∀x∈L,Dv (pw x.1 x.2) y)→Dv (dz L) y
 | [],_,_=>⟨y,(Gq.one_mul y).symm⟩
 | x::L,ok,h=>by
  have hx:=ok.irr x (by simp)
  have ht:FacOk L:=⟨fun y hy=>ok.irr y (by simp [hy]),ok.dis.tail⟩
  rw [n6];refine Yv (Oq (hx.1.coprime fun hd=>?_) x.2) (h x (by simp)) (Nr ht fun z hz=>h z (by simp [hz]))
  obtain ⟨k,hz⟩:=B6 hx.1 hx.2.1 ht hd;exact (db.1 ok.dis).1 _ hz rfl
end
end Pe

namespace Pe
open Go Gq
variable {T:Nat→Option Fn} {A:ah}
section
variable {p:Int} [IsP p]
end
end Pe

namespace Pe
open Go Gq
variable {T:Nat→Option Fn} {A:ah}
section
variable {p:Int} [ip:IsP p] {M X:Fp p}
end
end Pe

namespace Pe
open Go Gq
variable {T:Nat→Option Fn} {A:ah}
end Pe

namespace Pe
open Go Gq
variable {T:Nat→Option Fn} {A:ah}
noncomputable def dgC (p:Int) (a:List Int) (lo hi:Int):Int:=if pq p [a]≠0 then 1 else if lo≤((dl p a).len:Int)-1∧((dl p a).len:Int)-1≤hi then 0 else 2
def fi (O:ah) (F:Nat):Prop:=∀(p:Int) (a:List Int) (lo hi:Int),ft a→a.length=64→ask O F [(D.int .i64 p),(D.arr 64 .leaf (ak .u8 a)),(D.int .i64 lo),(D.int .i64 hi)]=some (D.int .i64 (dgC p a lo hi))
theorem Gd (hT:T Fl=some Zl) (hpc:n7 (den T A)) (hro:pv (den T A)) (hdg:kq (den T A)) (hw:u7 (den T A)):fi (den T A) Fl:=by
 intro p a lo hi ha gl;have e1:=hpc p [a] (fun x hx=>by simp at hx; subst hx; exact ⟨gl,ha⟩) (by simp)
 rw [show [a].map nw=[(D.arr 64 .leaf (ak .u8 a))] from rfl] at e1;unfold dgC;rcases Ib p [a] with hc | hc
 ·rw [if_neg (by rw [hc]; omega)]
  rw [hc] at e1;obtain ⟨ip,X,hX,rfl⟩:=ui ha gl hc;have e2:=hro p X hX;have e3:=hdg (row X) (by rw [bg]; omega)
  rw [bg] at e3;have e4:=hw ((X.len:Int)-1) lo hi;rw [jj hX];refine bc hT rfl ?_;generalize (X.len:Int)-1=d at *;generalize pad (row X)=Px at *;generalize row X=Rx at *
  by_cases h:lo≤d∧d≤hi
  ·rw [decide_eq_true h] at e4
   rw [if_pos h];simp -implicitDefEqProofs [Zl,Zl_B,af,e1,e2,e3,e4,List.replicate]
  ·rw [decide_eq_false h] at e4
   rw [if_neg h];simp -implicitDefEqProofs [Zl,Zl_B,af,e1,e2,e3,e4,List.replicate]
 ·rw [if_pos (by rw [hc]; omega)]
  rw [hc] at e1;refine bc hT rfl ?_;simp -implicitDefEqProofs [Zl,Zl_B,af,e1,List.replicate]
theorem Q2 (hT:T F3k=some Z3k) (hpc:Hm (den T A)) (hdg:ja (den T A)) (hw:Jd (den T A)):fi (den T A) F3k:=by
 intro p a lo hi ha gl;have e1:=hpc p [a] (fun x hx=>by simp at hx; subst hx; exact ⟨gl,ha⟩) (by simp)
 rw [show [a].map nw=[(D.arr 64 .leaf (ak .u8 a))] from rfl] at e1;unfold dgC;rcases Ib p [a] with hc | hc
 ·rw [if_neg (by rw [hc]; omega)]
  rw [hc] at e1;obtain ⟨ip,X,hX,rfl⟩:=ui ha gl hc;have e3:=hdg p X hX;have e4:=hw ((X.len:Int)-1) lo hi;rw [jj hX];refine bc hT rfl ?_;generalize (X.len:Int)-1=d at *;generalize pad (row X)=Px at *
  by_cases h:lo≤d∧d≤hi
  ·rw [decide_eq_true h] at e4
   rw [if_pos h];simp -implicitDefEqProofs [Z3k,Z3k_B,af,e1,e3,e4,List.replicate]
  ·rw [decide_eq_false h] at e4
   rw [if_neg h];simp -implicitDefEqProofs [Z3k,Z3k_B,af,e1,e3,e4,List.replicate]
 ·rw [if_pos (by rw [hc]; omega)]
  rw [hc] at e1;refine bc hT rfl ?_;simp -implicitDefEqProofs [Z3k,Z3k_B,af,e1,List.replicate]
theorem rj {p:Int} {a:List Int} {lo hi:Int} (ha:ft a) (gl:a.length=64) (h:dgC p a lo hi=0):∃(_:IsP p) (X:Fp p),a=pad (row X)∧lo≤(X.len:Int)-1∧(X.len:Int)-1≤hi∧X.len≤64:=by
 unfold dgC at h
 split at h
 ·cases h
 ·rename_i hc
  split at h
  ·rename_i h1
   obtain ⟨ip,X,hX,rfl⟩:=ui ha gl (by simpa using hc)
   rw [jj hX] at h1;exact ⟨ip,X,rfl,h1.1,h1.2,hX⟩
  ·cases h
end Pe

namespace Pe
open Go Gq
variable {T:Nat→Option Fn} {A:ah}
def Tm (O:ah):Prop:=∀L:List D,ask O F1p [.sl .leaf L]=some (D.bool (decide ((4096:Int)<L.length)))
def ti (O:ah):Prop:=∀k:Int,ask O Fm [(D.int .i64 k)]=some (D.bool (decide (0≤k∧k≤1000000000000)))
theorem Mz (hT:T Fm=some Zm) (hw:u7 (den T A)):ti (den T A):=by
 intro k;have e:=hw k 0 1000000000000;refine bc hT rfl ?_;generalize decide (0≤k∧k≤1000000000000)=b at *;simp -implicitDefEqProofs [Zm,Zm_B,e]
theorem Sr {p:Int} [IsP p] (a b:Fp p):pq p [pad (row a),pad (row b)]=0:=Cn [a,b]
theorem a2x (hT:T F1p=some Z1p):Tm (den T A):=by
 intro L;refine bc hT rfl ?_;simp -implicitDefEqProofs [Z1p,Z1p_B]
end Pe


namespace Pe
open Go Gq
variable {T:Nat→Option Fn} {A:ah}
end Pe

namespace Pe
open Go Gq
variable {T:Nat→Option Fn} {A:ah}
theorem Qi {a m:List Int} (ha:ft a) (gl:a.length=64) (hm:ft m) (glm:m.length=64):Ti [a,m]:=fun x hx=>by
 simp at hx;rcases hx with rfl | rfl
 ·exact ⟨gl,ha⟩
 ·exact ⟨glm,hm⟩
def th (O:ah):Prop:=∀(p:Int) [IsP p] (a:Fp p),a.len≤64→ask O F6 [(D.int .i64 p),(D.arr 64 .leaf (ak .u8 (pad (row a))))]=some (.tup [(D.int .i64 ((a.len:Int)-1)),(D.int .i64 0)])
theorem Lh (hT:T F6=some Z6) (hpc:n7 (den T A)) (hro:pv (den T A)) (hdg:kq (den T A)):th (den T A):=by
 intro p ip a hl;have e1:=hpc p [pad (row a)] (fun x hx=>by simp at hx; subst hx; exact ⟨bq _,ot a⟩) (by simp)
 rw [zc,show [pad (row a)].map nw=[(D.arr 64 .leaf (ak .u8 (pad (row a))))] from rfl] at e1;have e2:=hro p a hl;have e3:=hdg (row a) (by rw [bg]; omega)
 rw [bg] at e3;refine bc hT rfl ?_;generalize (a.len:Int)-1=n at *;generalize pad (row a)=Px at *;generalize row a=Rx at *;simp -implicitDefEqProofs [Z6,Z6_B,af,e1,e2,e3,List.replicate]
def jz (O:ah):Prop:=∀(p:Int) [IsP p] (a b:Fp p),a.len≤64→b.len≤64→ask O Fc [(D.int .i64 p),(D.arr 64 .leaf (ak .u8 (pad (row a)))),(D.arr 64 .leaf (ak .u8 (pad (row b))))]=some (if (a*b).len≤64 then .tup [(D.arr 64 .leaf (ak .u8 (pad (row (a*b))))),(D.int .i64 0)] else .tup [(D.arr 64 .leaf (ak .u8 (pad []))),(D.int .i64 3)])
theorem Au (hT:T Fc=some Zc) (hpc:n7 (den T A)) (hro:pv (den T A)) (hti:pz (den T A)) (hto:Bm (den T A)):jz (den T A):=by
 intro p ip X M hX hM;have e1:=hpc p [pad (row X),pad (row M)] (Qi (ot X) (bq _) (ot M) (bq _)) (by simp)
 rw [Sr,show [pad (row X),pad (row M)].map nw=[(D.arr 64 .leaf (ak .u8 (pad (row X)))),(D.arr 64 .leaf (ak .u8 (pad (row M))))] from rfl] at e1;have e2:=hro p X hX;have e3:=hro p M hM;have e4:=hti p X M (by omega) (by omega)
 have hl:(X*M).len<1000000:=by
  by_cases h0:X=0
  ·rw [h0,Gq.zero_mul,Pol.len_zero]; omega
  ·by_cases h1:M=0
   ·rw [h1,Gq.mul_zero,Pol.len_zero]; omega
   ·have:=Pol.len_mul h0 h1
    omega
 have e5:=hto (row (X*M)) (vk _) (by rw [bg]; exact hl)
 unfold Ik at e5;rw [bg] at e5;refine bc hT rfl ?_;generalize pad (row (X*M))=Pr at *;generalize row (X*M)=Rr at *;generalize pad (row X)=Px at *;generalize row X=Rx at *;generalize pad (row M)=Pm at *;generalize row M=Rm at *
 by_cases h:(X*M).len≤64
 ·rw [if_pos h] at e5 ⊢
  simp -implicitDefEqProofs [Zc,Zc_B,af,e1,e2,e3,e4,e5,List.replicate]
 ·rw [if_neg h] at e5 ⊢
  simp -implicitDefEqProofs [Zc,Zc_B,af,e1,e2,e3,e4,e5,List.replicate]
end Pe


namespace Pe
open Go Gq
variable {T:Nat→Option Fn} {A:ah}
def Ma (O:ah):Prop:=∀(b:Blk) (most:Int),Src b→0≤most→most≤1000000→∃(x:Int) (b':Blk),O F3a [.ptr 0 [],(.d (.int .i64 most))] [b]=some ((.d (.int .i64 x)),[b'],[])∧Src b'
theorem Y2 (hT:T F3a=some Z3a) (hn:om (den T A) F3b) (hp:uq (den T A)):Ma (den T A):=by
 intro b most hs m0 m1;obtain ⟨k,b1,e1,hs1,k0,k1⟩:=hn b 14 hs (by omega)
 have w1:IntKind.i64.wrap (most+1)=most+1:=w64 (by omega)
 by_cases c0:k=0
 ·obtain ⟨x,b2,e2,hs2,hx⟩:=hp b1 [-1,most+1,1099511627776,-4611686018427387904] 4 (some 4) hs1 rfl (by omega) (by omega)
  rw [show ak .i64 [-1,most+1,1099511627776,-4611686018427387904]=[.int .i64 (-1),.int .i64 (most+1),.int .i64 1099511627776,.int .i64 (-4611686018427387904)] from rfl] at e2;refine ⟨x,b2,jb hT rfl ?_,hs2⟩;obtain ⟨_,_,_,rfl,_⟩:=hs;obtain ⟨_,_,_,rfl,_⟩:=hs1;obtain ⟨_,_,_,rfl,_⟩:=hs2;simp -implicitDefEqProofs [Z3a,Z3a_B,af,e1,e2,c0,w1,List.replicate,List.idxOf,List.findIdx,List.findIdx.go]
 ·obtain ⟨x,b2,e2,hs2,-,-⟩:=hn b1 (most+1) hs1 (by omega)
  refine ⟨x,b2,jb hT rfl ?_,hs2⟩;obtain ⟨_,_,_,rfl,_⟩:=hs;obtain ⟨_,_,_,rfl,_⟩:=hs1;obtain ⟨_,_,_,rfl,_⟩:=hs2;simp -implicitDefEqProofs [Z3a,Z3a_B,af,e1,e2,c0,w1,List.replicate,List.idxOf,List.findIdx,List.findIdx.go]
end Pe

namespace Pe
open Go Gq
variable {T:Nat→Option Fn} {A:ah}
def Sz (p d:Int):Prop:=0≤d∧d≤8∧p^d.toNat≤343
instance (p d:Int):Decidable (Sz p d):=by unfold Sz; infer_instance
end Pe

namespace Pe
open Go Gq
variable {T:Nat→Option Fn} {A:ah}
open Classical in
noncomputable def fcO (p:Int) (a:List Int):D:=
 if dgC p a 0 12=0 then (if h:IsP p then haveI:=h; .tup [.sl dc ((fac (dl p a)).map cz),(D.int .i64 0)] else .tup [.sl dc [],(D.int .i64 0)]) else .tup [.sl dc [],(D.int .i64 (dgC p a 0 12))]
theorem Cs {p:Int} [ip:IsP p] {X:Fp p} (h:dgC p (pad (row X)) 0 12=0) (hX:X.len≤64):fcO p (pad (row X))=.tup [.sl dc ((fac X).map cz),(D.int .i64 0)]:=by
 unfold fcO;rw [if_pos h,dif_pos ip,jj hX]
theorem Hb {p:Int} {a:List Int} (h:¬ dgC p a 0 12=0):fcO p a=.tup [.sl dc [],(D.int .i64 (dgC p a 0 12))]:=by unfold fcO; rw [if_neg h]
def ni (O:ah) (F:Nat):Prop:=∀(p:Int) (a:List Int),ft a→a.length=64→ask O F [(D.int .i64 p),(D.arr 64 .leaf (ak .u8 a))]=some (fcO p a)
theorem H3 (hT:T F2n=some Z2n) (hdc:fi (den T A) F3k) (hsp:yy (den T A)):ni (den T A) F2n:=by
 intro p a ha gl;have e1:=hdc p a 0 12 ha gl
 by_cases h:dgC p a 0 12=0
 ·have h':=h
  rw [h] at e1;obtain ⟨ip,X,rfl,h1,h2,hX⟩:=rj ha gl h;rw [Cs h' hX];have e2:=hsp p X (fun h0=>by rw [h0,Pol.len_zero] at h1; omega) (by omega)
  refine bc hT rfl ?_;generalize (fac X).map cz=LD at *;generalize pad (row X)=Px at *;simp -implicitDefEqProofs [Z2n,Z2n_B,af,e1,e2]
 ·rw [Hb h]
  refine bc hT rfl ?_;generalize dgC p a 0 12=c at *;simp -implicitDefEqProofs [Z2n,Z2n_B,af,e1,h]
theorem S9 {O:ah} (hpo:zg O) {p:Int} [IsP p] {L:ej p} (hL:∀x∈L,x.1.len≤64) (hl:L.length≤12):∀(r i:Nat) (cp:Option Nat),i+r=L.length→∃cp':Option Nat,
 dn O 0 (.loop Z7_L0) ⟨[(7,.sl 1 [] 0 i cp),(19,.d (.sl fx (L.map fo))),(20,(.d (.int .i64 L.length))),(21,(.d (.int .i64 i)))],[.hole,.sl false dc ((L.take i).map cz),.hole,.hole,.hole]⟩ =
  some (.exit 0,⟨[(7,.sl 1 [] 0 L.length cp'),(19,.d (.sl fx (L.map fo))),(20,(.d (.int .i64 L.length))),(21,(.d (.int .i64 L.length))),(22,(.d (.bool false)))],[.hole,.sl false dc (L.map cz),.hole,.hole,.hole]⟩)
 | 0,i,cp,hi=>by
  obtain rfl:i=L.length:=by omega
  rw [m6];refine ⟨cp,bo ?_⟩;generalize L.map fo=LD at *;simp -implicitDefEqProofs [Z7_L0,af]
 | r+1,i,cp,hi=>by
  have hlt:i<L.length:=by omega
  obtain ⟨cp',ih⟩:=S9 (O:=O) hpo hL hl r (i+1) none (by omega)
  have e1:=hpo p L[i].1 (hL _ (ce hlt));have w4:IntKind.i64.wrap ((i:Int)+1)=((i+1:Nat):Int):=(w64 (x:=(i:Int)+1) (by omega)).trans (by omega)
  have o1:(L.take (i+1)).map cz=(L.take i).map cz++[.st [.arr 64 .leaf,.leaf] [(D.arr 64 .leaf (ak .u8 (pad (row L[i].1)))),(D.int .i64 (L[i].2))]]:=by
   rw [List.take_add_one,ao hlt,Option.toList_some,gq];rfl
  have hx:(L.map fo)[i]? = some (.st [.leaf,.leaf] [(D.sl .leaf (ak .i64 (row L[i].1))),(D.int .i64 (L[i].2))]):=by rw [d8,ao hlt]; rfl
  have hLl:((L.take i).map cz).length=i:=by rw [c7,bp]; omega
  have ht:((L.take i).map cz).take i=(L.take i).map cz:=aw (by omega)
  have h8:(i+1)*72≤1099511627776:=by omega
  refine ⟨cp',bb ?_ ih⟩;rw [o1];generalize (L.take i).map cz=LP at *;generalize L.map fo=LD at *;generalize pad (row L[i].1)=Pq at *;generalize row L[i].1=Rq at *;generalize (L[i].2:Int)=Eq at *;generalize L.length=n at *;simp -implicitDefEqProofs [Z7_L0,af,hlt,e1,w4,hx,hLl,ht,h8,List.replicate]
theorem Ia (hT:T F7=some Z7) (hdc:fi (den T A) Fl) (hro:pv (den T A)) (hf:Ak (den T A)) (hpo:zg (den T A)):ni (den T A) F7:=by
 intro p a ha gl;have e1:=hdc p a 0 12 ha gl
 by_cases h:dgC p a 0 12=0
 ·have h':=h
  rw [h] at e1;obtain ⟨ip,X,rfl,h1,h2,hX⟩:=rj ha gl h;rw [Cs h' hX];have hX0:X≠0:=fun h0=>by rw [h0,Pol.len_zero] at h1; omega
  have e2:=hro p X hX;obtain ⟨hF,hl,e3⟩:=hf p X hX0 (by omega)
  obtain ⟨cp,e4⟩:=S9 (O:=den T A) hpo (L:=fac X) (fun x hx=>by have:=hF.len hX0 hx; omega) hl (fac X).length 0 (some 0) (bf _)
  have z0:((0:Nat):Int)=0:=rfl;rw [z0,g7,iu] at e4;have hLl:((fac X).map fo).length=(fac X).length:=by simp
  have hLp:((fac X).map cz).length=(fac X).length:=by simp
  have ht:((fac X).map cz).take (fac X).length=(fac X).map cz:=aw (by simp)
  refine bc hT rfl ?_;generalize (fac X).map cz=LP at *;generalize (fac X).map fo=LD at *;generalize (fac X).length=n at *;generalize pad (row X)=Px at *;generalize row X=Rx at *;simp -implicitDefEqProofs [Z7,Z7_B,af,e1,e2,e3,e4,hLl,hLp,ht,List.replicate]
 ·rw [Hb h]
  refine bc hT rfl ?_;generalize dgC p a 0 12=c at *;simp -implicitDefEqProofs [Z7,Z7_B,af,e1,h]
def mbL {p:Int}:ej p→Int→Int
 | [],out=>out
 | x::L,out=>if 1<x.2 then 0 else mbL L (-out)
open Classical in
noncomputable def mbO (p:Int) (a:List Int):D:=
 if dgC p a 0 12=0 then (if h:IsP p then haveI:=h; .tup [(D.int .i64 (mbL (fac (dl p a)) 1)),(D.int .i64 0)] else .tup [(D.int .i64 0),(D.int .i64 0)]) else .tup [(D.int .i64 0),(D.int .i64 (dgC p a 0 12))]
theorem C8 {p:Int} [ip:IsP p] {X:Fp p} (h:dgC p (pad (row X)) 0 12=0) (hX:X.len≤64):mbO p (pad (row X))=.tup [(D.int .i64 (mbL (fac X) 1)),(D.int .i64 0)]:=by
 unfold mbO;rw [if_pos h,dif_pos ip,jj hX]
theorem G9 {p:Int} {a:List Int} (h:¬ dgC p a 0 12=0):mbO p a=.tup [(D.int .i64 0),(D.int .i64 (dgC p a 0 12))]:=by unfold mbO; rw [if_neg h]
def n9 (O:ah) (F:Nat):Prop:=∀(p:Int) (a:List Int),ft a→a.length=64→ask O F [(D.int .i64 p),(D.arr 64 .leaf (ak .u8 a))]=some (mbO p a)
theorem Xf {O:ah} {p:Int} {L:ej p} (hl:L.length≤12):∀(r i:Nat) (out:Int),i+r=L.length→-1≤out∧out≤1 →
 (∃b:Int,dn O 0 (.loop Zb_L0) ⟨[(7,(.d (.int .i64 out))),(19,.d (.sl fx (L.map fo))),(20,(.d (.int .i64 L.length))),(21,(.d (.int .i64 i)))],[.hole,.hole]⟩ =
  some (.exit 0,⟨[(7,(.d (.int .i64 (mbL (L.drop i) out)))),(19,.d (.sl fx (L.map fo))),(20,(.d (.int .i64 L.length))),(21,(.d (.int .i64 b))),(22,(.d (.bool false)))],[.hole,.hole]⟩)) ∨
 (mbL (L.drop i) out=0∧dn O 0 (.loop Zb_L0) ⟨[(7,(.d (.int .i64 out))),(19,.d (.sl fx (L.map fo))),(20,(.d (.int .i64 L.length))),(21,(.d (.int .i64 i)))],[.hole,.hole]⟩=some (.ret,⟨[(4,(.d (.int .i64 0))),(5,(.d (.int .i64 0)))],[.hole,.hole]⟩))
 | 0,i,out,hi,ho=>by
  obtain rfl:i=L.length:=by omega
  rw [ew];have z:mbL ([]:ej p) out=out:=rfl;rw [z];refine .inl ⟨(L.length:Int),bo ?_⟩;generalize L.map fo=LD at *;simp -implicitDefEqProofs [Zb_L0,af]
 | r+1,i,out,hi,ho=>by
  have hlt:i<L.length:=by omega
  have hd:L.drop i=L[i]::L.drop (i+1):=bv hlt;have w4:IntKind.i64.wrap ((i:Int)+1)=((i+1:Nat):Int):=(w64 (x:=(i:Int)+1) (by omega)).trans (by omega)
  have w5:IntKind.i64.wrap (0-out)=-out:=(w64 (by omega)).trans (by omega)
  have w6:IntKind.i64.wrap (-out)=-out:=w64 (by omega)
  have hx:(L.map fo)[i]? = some (.st [.leaf,.leaf] [(D.sl .leaf (ak .i64 (row L[i].1))),(D.int .i64 (L[i].2))]):=by rw [d8,ao hlt]; rfl
  have hm:mbL (L[i]::L.drop (i+1)) out=if 1<L[i].2 then 0 else mbL (L.drop (i+1)) (-out):=rfl
  rw [hd,hm];clear hd hm;generalize L[i]=q at *
  by_cases h1:1<q.2
  ·rw [if_pos h1]
   refine .inr ⟨rfl,ki ?_⟩;have h1':(1:Int)<(q.2:Int):=by omega
   generalize L.map fo=LD at *;generalize row q.1=Rq at *;generalize (q.2:Int)=Eq at *;generalize L.length=n at *;simp -implicitDefEqProofs [Zb_L0,af,hlt,hx,h1']
  ·rw [if_neg h1]
   have h1':¬ (1:Int)<(q.2:Int):=by omega
   have step:dn O 0 Zb_L0 ⟨[(7,(.d (.int .i64 out))),(19,.d (.sl fx (L.map fo))),(20,(.d (.int .i64 L.length))),(21,(.d (.int .i64 i)))],[.hole,.hole]⟩=some (.normal,⟨[(7,(.d (.int .i64 (-out)))),(19,.d (.sl fx (L.map fo))),(20,(.d (.int .i64 L.length))),(21,(.d (.int .i64 (((i+1:Nat):Int)))))],[.hole,.hole]⟩):=by
    generalize L.map fo=LD at *;generalize row q.1=Rq at *;generalize (q.2:Int)=Eq at *;generalize L.length=n at *;simp -implicitDefEqProofs [Zb_L0,af,hlt,hx,h1',w4,w6]
   rcases Xf (O:=O) hl r (i+1) (-out) (by omega) (by omega) with ⟨b,ih⟩ | ⟨h0,ih⟩
   ·exact .inl ⟨b,bb step ih⟩
   ·exact .inr ⟨h0,bb step ih⟩
theorem Iq (hT:T Fb=some Zb) (hdc:fi (den T A) Fl) (hro:pv (den T A)) (hf:Ak (den T A)):n9 (den T A) Fb:=by
 intro p a ha gl;have e1:=hdc p a 0 12 ha gl
 by_cases h:dgC p a 0 12=0
 ·have h':=h
  rw [h] at e1;obtain ⟨ip,X,rfl,h1,h2,hX⟩:=rj ha gl h;rw [C8 h' hX];have hX0:X≠0:=fun h0=>by rw [h0,Pol.len_zero] at h1; omega
  have e2:=hro p X hX;obtain ⟨hF,hl,e3⟩:=hf p X hX0 (by omega)
  have hLl:((fac X).map fo).length=(fac X).length:=by simp
  have z0:((0:Nat):Int)=0:=rfl;rcases Xf (O:=den T A) (L:=fac X) hl (fac X).length 0 1 (bf _) (by omega) with ⟨b,e4⟩ | ⟨h0,e4⟩
  ·rw [z0,de] at e4
   refine bc hT rfl ?_;generalize mbL (fac X) 1=MB at *;generalize (fac X).map fo=LD at *;generalize (fac X).length=n at *;generalize pad (row X)=Px at *;generalize row X=Rx at *;simp -implicitDefEqProofs [Zb,Zb_B,af,e1,e2,e3,e4,hLl,List.replicate]
  ·rw [z0] at e4
   rw [de] at h0;rw [h0];refine bc hT rfl ?_;generalize (fac X).map fo=LD at *;generalize (fac X).length=n at *;generalize pad (row X)=Px at *;generalize row X=Rx at *;simp -implicitDefEqProofs [Zb,Zb_B,af,e1,e2,e3,e4,hLl,List.replicate]
 ·rw [G9 h]
  refine bc hT rfl ?_;generalize dgC p a 0 12=c at *;simp -implicitDefEqProofs [Zb,Zb_B,af,e1,h]
theorem U1 {O:ah} {p:Int} {L:ej p} (hl:L.length≤12):∀(r i:Nat) (out:Int),i+r=L.length→-1≤out∧out≤1 →
 (∃b:Int,dn O 0 (.loop Z2q_L0) ⟨[(7,.d (.sl dc (L.map cz))),(8,(.d (.int .i64 out))),(9,(.d (.int .i64 i)))],[.hole]⟩ =
  some (.exit 0,⟨[(7,.d (.sl dc (L.map cz))),(8,(.d (.int .i64 (mbL (L.drop i) out)))),(9,(.d (.int .i64 b))),(22,(.d (.bool false)))],[.hole]⟩)) ∨
 (mbL (L.drop i) out=0∧dn O 0 (.loop Z2q_L0) ⟨[(7,.d (.sl dc (L.map cz))),(8,(.d (.int .i64 out))),(9,(.d (.int .i64 i)))],[.hole]⟩=some (.ret,⟨[(4,(.d (.int .i64 0))),(5,(.d (.int .i64 0)))],[.hole]⟩))
 | 0,i,out,hi,ho=>by
  obtain rfl:i=L.length:=by omega
  rw [ew];have z:mbL ([]:ej p) out=out:=rfl;rw [z];refine .inl ⟨(L.length:Int),bo ?_⟩;have hLl:(L.map cz).length=L.length:=by simp
  generalize L.map cz=LD at *;generalize L.length=n at *;simp -implicitDefEqProofs [Z2q_L0,af,hLl]
 | r+1,i,out,hi,ho=>by
  have hlt:i<L.length:=by omega
  have hd:L.drop i=L[i]::L.drop (i+1):=bv hlt;have w4:IntKind.i64.wrap ((i:Int)+1)=((i+1:Nat):Int):=(w64 (x:=(i:Int)+1) (by omega)).trans (by omega)
  have w5:IntKind.i64.wrap (0-out)=-out:=(w64 (by omega)).trans (by omega)
  have w6:IntKind.i64.wrap (-out)=-out:=w64 (by omega)
  have hx:∀h:i<(L.map cz).length,(L.map cz)[i]'h=.st [.arr 64 .leaf,.leaf] [(D.arr 64 .leaf (ak .u8 (pad (row L[i].1)))),(D.int .i64 (L[i].2))]:=fun h=>by rw [m7]
  have hLl:(L.map cz).length=L.length:=by simp
  have hm:mbL (L[i]::L.drop (i+1)) out=if 1<L[i].2 then 0 else mbL (L.drop (i+1)) (-out):=rfl
  rw [hd,hm];clear hd hm;generalize L[i]=q at *
  by_cases h1:1<q.2
  ·rw [if_pos h1]
   refine .inr ⟨rfl,ki ?_⟩;have h1':(1:Int)<(q.2:Int):=by omega
   generalize L.map cz=LD at *;generalize pad (row q.1)=Rq at *;generalize (q.2:Int)=Eq at *;generalize L.length=n at *;simp -implicitDefEqProofs [Z2q_L0,af,hlt,hx,hLl,h1']
  ·rw [if_neg h1]
   have h1':¬ (1:Int)<(q.2:Int):=by omega
   have step:dn O 0 Z2q_L0 ⟨[(7,.d (.sl dc (L.map cz))),(8,(.d (.int .i64 out))),(9,(.d (.int .i64 i)))],[.hole]⟩=some (.normal,⟨[(7,.d (.sl dc (L.map cz))),(8,(.d (.int .i64 (-out)))),(9,(.d (.int .i64 (((i+1:Nat):Int)))))],[.hole]⟩):=by
    generalize L.map cz=LD at *;generalize pad (row q.1)=Rq at *;generalize (q.2:Int)=Eq at *;generalize L.length=n at *;simp -implicitDefEqProofs [Z2q_L0,af,hlt,hx,hLl,h1',w4,w6]
   rcases U1 (O:=O) hl r (i+1) (-out) (by omega) (by omega) with ⟨b,ih⟩ | ⟨h0,ih⟩
   ·exact .inl ⟨b,bb step ih⟩
   ·exact .inr ⟨h0,bb step ih⟩
theorem Hf (hT:T F2q=some Z2q) (hdc:fi (den T A) F3k) (hsp:yy (den T A)) (hf:Ak (den T A)):n9 (den T A) F2q:=by
 intro p a ha gl;have e1:=hdc p a 0 12 ha gl
 by_cases h:dgC p a 0 12=0
 ·have h':=h
  rw [h] at e1;obtain ⟨ip,X,rfl,h1,h2,hX⟩:=rj ha gl h;rw [C8 h' hX];have hX0:X≠0:=fun h0=>by rw [h0,Pol.len_zero] at h1; omega
  obtain ⟨hF,hl,-⟩:=hf p X hX0 (by omega)
  have e2:=hsp p X hX0 (by omega)
  have z0:((0:Nat):Int)=0:=rfl;rcases U1 (O:=den T A) (L:=fac X) hl (fac X).length 0 1 (bf _) (by omega) with ⟨b,e4⟩ | ⟨h0,e4⟩
  ·rw [z0,de] at e4
   refine bc hT rfl ?_;generalize mbL (fac X) 1=MB at *;generalize (fac X).map cz=LD at *;generalize pad (row X)=Px at *;simp -implicitDefEqProofs [Z2q,Z2q_B,af,e1,e2,e4]
  ·rw [z0] at e4
   rw [de] at h0;rw [h0];refine bc hT rfl ?_;generalize (fac X).map cz=LD at *;generalize pad (row X)=Px at *;simp -implicitDefEqProofs [Z2q,Z2q_B,af,e1,e2,e4]
 ·rw [G9 h]
  refine bc hT rfl ?_;generalize dgC p a 0 12=c at *;simp -implicitDefEqProofs [Z2q,Z2q_B,af,e1,h]
theorem Tz {O:ah} {p:Int} {L:ej p} (hl:L.length<1000):∀(k i:Nat),i+k=L.length →
 dn O 0 (.loop Z1q_L0) ⟨[(0,.d (.sl dc (L.map cz))),(1,.d (.sl dc (L.map cz))),(5,(.d (.int .i64 i)))],[]⟩ =
  some (.exit 0,⟨[(0,.d (.sl dc (L.map cz))),(1,.d (.sl dc (L.map cz))),(5,(.d (.int .i64 L.length))),(14,(.d (.bool false)))],[]⟩)
 | 0,i,hi=>by
  obtain rfl:i=L.length:=by omega
  have hLl:(L.map cz).length=L.length:=by simp
  refine bo ?_;generalize L.map cz=LD at *;generalize L.length=n at *;simp -implicitDefEqProofs [Z1q_L0,af,hLl]
 | k+1,i,hi=>by
  have hlt:i<L.length:=by omega
  have w4:IntKind.i64.wrap ((i:Int)+1)=((i+1:Nat):Int):=(w64 (x:=(i:Int)+1) (by omega)).trans (by omega)
  have hx:∀h:i<(L.map cz).length,(L.map cz)[i]'h=.st [.arr 64 .leaf,.leaf] [(D.arr 64 .leaf (ak .u8 (pad (row L[i].1)))),(D.int .i64 (L[i].2))]:=fun h=>by rw [m7]
  have hLl:(L.map cz).length=L.length:=by simp
  have e1:=Ns (l:=pad (row L[i].1)) (m:=pad (row L[i].1)) (bq _) (bq _);rw [decide_eq_true rfl] at e1
  have e2:D.beq (.st [.arr 64 .leaf,.leaf] [.arr 64 .leaf .int,.int]) (.st [.arr 64 .leaf,.leaf] [(D.arr 64 .leaf (ak .u8 (pad (row L[i].1)))),(D.int .i64 (L[i].2))]) (.st [.arr 64 .leaf,.leaf] [(D.arr 64 .leaf (ak .u8 (pad (row L[i].1)))),(D.int .i64 (L[i].2))])=some true:=by
   rw [D.beq,if_pos ⟨by decide,by decide⟩,D.beqf,e1]
   simp [D.beq,D.beqf]
  refine bb ?_ (Tz hl k (i+1) (by omega))
  generalize L.map cz=LD at *;generalize pad (row L[i].1)=Rq at *;generalize (L[i].2:Int)=Eq at *;simp -implicitDefEqProofs [Z1q_L0,af,hlt,hx,hLl,e2,w4]
def x9 (O:ah):Prop:=∀(p:Int) (L:ej p),L.length<1000→ask O F1q [.sl dc (L.map cz),.sl dc (L.map cz)]=some (D.bool true)
theorem Jq (hT:T F1q=some Z1q):x9 (den T A):=by
 intro p L hl;have e:=Tz (O:=den T A) (L:=L) hl L.length 0 (bf _);have z0:((0:Nat):Int)=0:=rfl;rw [z0] at e;refine bc hT rfl ?_;generalize L.map cz=LD at *;simp -implicitDefEqProofs [Z1q,Z1q_B,af,e]
end Pe

namespace Pe
open Go Gq
variable {T:Nat→Option Fn} {A:ah}
theorem Id {O:ah} {g:Nat} {first caps cs:List D} {P:D→Bool} (hF:oc O g first caps cs P) (hs:ud .leaf cs) (hl:cs.length<2000000):∀(m i:Nat),i+m=cs.length →
 dn O 0 (.loop ir_slices_IndexFunc_impl_row_impl_row_L0) ⟨[(0,.d (.sl .leaf cs)),(1,.d (.fn g first caps)),(7,(.d (.int .i64 cs.length))),(8,(.d (.int .i64 i)))],[]⟩ =
  if (cs.drop i).any P then some (.ret,⟨[(4,(.d (.int .i64 (lq P (cs.drop i) i))))],[]⟩) else some (.exit 0,⟨[(0,.d (.sl .leaf cs)),(1,.d (.fn g first caps)),(7,(.d (.int .i64 cs.length))),(8,(.d (.int .i64 cs.length))),(9,(.d (.bool false)))],[]⟩)
 | 0,i,hi=>by
  have:i=cs.length:=by omega
  subst this;rw [ew];exact bo (by simp -implicitDefEqProofs [ir_slices_IndexFunc_impl_row_impl_row_L0,af])
 | m+1,i,hi=>by
  have hlt:i<cs.length:=by omega
  have h1:(i:Int)<cs.length:=by omega
  have hx:cs[i]? = some cs[i]:=ao hlt;have hm:cs[i]∈cs:=ce hlt;have hc:=xy (O:=O) (np:=0) (h:=[]) (news:=[]) hF.1 hF.2.1 (hF.2.2.1 _ hm) (hF.2.2.2 _ hm) rfl;have hsh:=hs _ hm;have w4:IntKind.i64.wrap ((i:Int)+1)=((i+1:Nat):Int):=(w64 (x:=(i:Int)+1) (by omega)).trans (by omega)
  rw [bv hlt];cases hp:P cs[i]
  ·rw [hp] at hc
   refine bb (s1:=⟨[(0,.d (.sl .leaf cs)),(1,.d (.fn g first caps)),(7,(.d (.int .i64 cs.length))),(8,(.d (.int .i64 ((i+1:Nat)))))],[]⟩) ?_ ?_
   ·simp -implicitDefEqProofs [ir_slices_IndexFunc_impl_row_impl_row_L0,af,h1,hx,hsh,hc,w4]
   ·rw [Id hF hs hl m (i+1) (by omega)]
    simp only [ke,hp,Bool.false_or,lq,au,if_false]
  ·rw [hp] at hc
   have e:lq P (cs[i]::cs.drop (i+1)) i=i:=by simp [lq,hp]
   rw [e];simp only [ke,hp,Bool.true_or,if_true];exact ki (by simp -implicitDefEqProofs [ir_slices_IndexFunc_impl_row_impl_row_L0,af,h1,hx,hsh,hc])
theorem Tk (hT:T F21=some Z21):lr (den T A) F21 .leaf:=by
 intro g first caps cs P hF hs hl;have h:=Id hF hs hl cs.length 0 (bf _);rw [de] at h;have e0:((0:Nat):Int)=0:=rfl;rw [e0] at h;refine bc hT rfl ?_
 by_cases ha:cs.any P=true
 ·rw [if_pos ha] at h
  simp -implicitDefEqProofs [Z21,ir_slices_IndexFunc_impl_row_impl_row_B,h]
 ·rw [if_neg ha] at h
  have hn:lq P cs 0=-1:=by
   have hi:∀(ds:List D) (i:Nat),ds.any P=false→lq P ds i=-1:=by
    intro ds
    induction ds with
    | nil=>intro i _; rfl
    | cons d ds ih=>intro i hd; simp at hd; rw [lq,hd.1]; simpa using ih (i+1) (by simpa using hd.2)
   exact hi cs 0 (by simpa using ha)
  simp -implicitDefEqProofs [Z21,ir_slices_IndexFunc_impl_row_impl_row_B,h,hn]
section
variable {p:Int} [IsP p]
open Classical in
noncomputable def irB (a:Fp p):Bool:=decide (Monic a∧Irr a)
theorem Ed (P:D→Bool) (R:Fp p→D):∀(L:List (Fp p)) (i:Nat),(∀a∈L,P (R a) = !irB a)→(lq P (L.map R) i=-1∧L.filter irB=L)∨∃k,lq P (L.map R) i=((i+k:Nat):Int)∧k<L.length∧L.filter irB=L.take k++(L.drop (k+1)).filter irB
 | [],i,_=>.inl ⟨rfl,rfl⟩
 | a::L,i,hP=>by
  rw [fj];have hPa:=hP a (by simp)
  by_cases h:irB a=true
  ·have hp:P (R a)=false:=by rw [hPa,h]; rfl
   have e:lq P (R a::L.map R) i=lq P (L.map R) (i+1):=by rw [lq,hp]; rfl
   rw [e];rcases Ed P R L (i+1) fun b hb=>hP b (by simp [hb]) with ⟨h1,h2⟩ | ⟨k,h1,h2,h3⟩
   ·exact .inl ⟨h1,by rw [List.filter_cons_of_pos h,h2]⟩
   ·refine .inr ⟨k+1,by rw [h1]; congr 1; omega,by simpa using h2,?_⟩
    rw [List.filter_cons_of_pos h,h3,ee,List.drop_succ_cons];rfl
  ·have h':irB a=false:=by simpa using h
   have hp:P (R a)=true:=by rw [hPa,h']; rfl
   refine .inr ⟨0,by rw [lq,hp]; rfl,by simp,?_⟩
   rw [List.filter_cons_of_neg h];rfl
end
def Hn (O:ah):Prop:=∀(p:Int) [IsP p] (a:Fp p),a.len≤13→ask O F9 [(D.sl .leaf (ak .i64 (row a))),.ip (D.int .i64 p)]=some (D.bool (!irB a))
theorem Yq (hT:T F9=some Z9) (hir:B1 (den T A)):Hn (den T A):=by
 intro p ip a ha;have e:=hir p a ha;have e2:ask (den T A) F14 [(D.int .i64 p),(D.sl .leaf (ak .i64 (row a)))]=some (D.bool (irB a)):=e;refine bc hT rfl ?_;generalize irB a=b at *;simp -implicitDefEqProofs [Z9,Z9_B,e2]
theorem Uu {O:ah} (h1:Hn O) {p:Int} [IsP p] {L:List (Fp p)} (hL:∀a∈L,a.len≤13) (hl:L.length<10000) {cp:Option Nat}:∀(r j i:Nat) (cur:List D),j+r=L.length→i≤j→cur.length=L.length→ud .leaf cur→cur.drop j=(L.drop j).map jr→∃cur':List D,
 dn O 2 (.loop ir_slices_DeleteFunc_impl_row_impl_row_L0) ⟨[(0,.sl 0 [] 0 L.length cp),(1,.fn F9 [] [.ptr 1 []]),(5,(.d (.int .i64 i))),(6,(.d (.int .i64 j)))],[.sl false .leaf cur,.box false (D.int .i64 p)]⟩ =
  some (.exit 0,⟨[(0,.sl 0 [] 0 L.length cp),(1,.fn F9 [] [.ptr 1 []]),(5,(.d (.int .i64 (((i+((L.drop j).filter irB).length:Nat):Int))))),(6,(.d (.int .i64 L.length))),(19,(.d (.bool false)))],[.sl false .leaf cur',.box false (D.int .i64 p)]⟩) ∧
  cur'.length=L.length∧cur'.take (i+((L.drop j).filter irB).length)=cur.take i++((L.drop j).filter irB).map jr
 | 0,j,i,cur,hj,hij,hc,hsh,hd=>by
  obtain rfl:j=L.length:=by omega
  rw [ew];refine ⟨cur,bo ?_,hc,by simp⟩
  generalize L.length=n at *;simp -implicitDefEqProofs [ir_slices_DeleteFunc_impl_row_impl_row_L0,af]
 | r+1,j,i,cur,hj,hij,hc,hsh,hd=>by
  have hlt:j<L.length:=by omega
  have hltc:j<cur.length:=by omega
  have hdL:L.drop j=L[j]::L.drop (j+1):=bv hlt;have hdc:cur.drop j=cur[j]::cur.drop (j+1):=bv hltc;rw [hdL,hdc,fj,List.cons.injEq] at hd;obtain ⟨hd1,hd2⟩:=hd;have hx:cur[j]=(D.sl .leaf (ak .i64 (row L[j]))):=hd1;have e1:=h1 p L[j] (hL _ (ce hlt));have w4:IntKind.i64.wrap ((j:Int)+1)=((j+1:Nat):Int):=(w64 (x:=(j:Int)+1) (by omega)).trans (by omega)
  have w5:IntKind.i64.wrap ((i:Int)+1)=((i+1:Nat):Int):=(w64 (x:=(i:Int)+1) (by omega)).trans (by omega)
  have hil:i<cur.length:=by omega
  have hil':i<L.length:=by omega
  have hsi:=hsh _ (ce hil);have hll:Sh.beq .leaf .leaf=true:=rfl;have hl64:L.length≤cur.length:=by omega
  rw [hdL]
  by_cases hb:irB L[j]=true
  ·rw [List.filter_cons_of_pos hb]
   rw [hb] at e1;obtain ⟨cur',ih,g1,g2⟩:=Uu (O:=O) h1 hL hl (cp:=cp) r (j+1) (i+1) (cur.set i (D.sl .leaf (ak .i64 (row L[j])))) (by omega) (by omega) (by rw [cg]; exact hc) (fun x hx=>(di hx).elim (hsh x) fun e=>by rw [e]; rfl) (by rw [List.drop_set_of_lt (by omega)]; exact hd2)
   have t1:i+(L[j]::(L.drop (j+1)).filter irB).length=i+1+((L.drop (j+1)).filter irB).length:=by rw [cl]; omega
   rw [t1];refine ⟨cur',bb ?_ ih,g1,?_⟩
   ·generalize row L[j]=Rj at *
    simp -implicitDefEqProofs [ir_slices_DeleteFunc_impl_row_impl_row_L0,af,hlt,hltc,hil,hil',hx,e1,w4,w5,hsi,hll]
   ·rw [g2,List.take_add_one,b9 hil,Option.toList_some,List.take_set_of_le (by omega),fj,f9]
    rfl
  ·have hb':irB L[j]=false:=by simpa using hb
   rw [List.filter_cons_of_neg hb];rw [hb'] at e1;obtain ⟨cur',ih,g1,g2⟩:=Uu (O:=O) h1 hL hl (cp:=cp) r (j+1) i cur (by omega) (by omega) hc hsh hd2
   refine ⟨cur',bb ?_ ih,g1,g2⟩;generalize row L[j]=Rj at *;simp -implicitDefEqProofs [ir_slices_DeleteFunc_impl_row_impl_row_L0,af,hlt,hltc,hx,e1,w4]
def D0 (O:ah):Prop:=∀(p:Int) [IsP p] (L:List (Fp p)) (cp:Option Nat),(∀a∈L,a.len≤13)→L.length<10000→∃(cp':Option Nat) (rest:List D),
 O F1y [.sl 0 [] 0 L.length cp,.fn F9 [] [.ptr 1 []]] [.sl false .leaf (L.map jr),.box false (D.int .i64 p)] =
  some (.sl 0 [] 0 (L.filter irB).length cp',[.sl false .leaf ((L.filter irB).map jr++rest),.box false (D.int .i64 p)],[])
theorem T1 (hT:T F1y=some Z1y) (hi:lr (den T A) F21 .leaf) (h1:Hn (den T A)):D0 (den T A):=by
 intro p ip L cp hL hl
 let P:D→Bool:=fun d=>match ask (den T A) F9 [d,.ip (D.int .i64 p)] with | some (.bool b)=>b | _=>false
 have hPr:∀a,a.len≤13→ask (den T A) F9 [jr a,.ip (D.int .i64 p)]=some (D.bool (P (jr a)))∧P (jr a) = !irB a:=fun a ha=>by
  have e:=h1 p a ha
  have e2:P (jr a) = !irB a:=by
   show (match ask (den T A) F9 [jr a,.ip (D.int .i64 p)] with | some (.bool b)=>b | _=>false)=_
   rw [show ask (den T A) F9 [jr a,.ip (D.int .i64 p)]=some (D.bool (!irB a)) from e]
  exact ⟨by rw [e2]; exact e,e2⟩
 have hFn:oc (den T A) F9 [] [.ip (D.int .i64 p)] (L.map jr) P:=by
  refine ⟨fun x hx=>(by cases hx),fun x hx=>(by simp at hx; subst hx; rfl),fun x hx=>?_,fun x hx=>?_⟩
  ·obtain ⟨a,_,rfl⟩:=cb.1 hx
   rfl
  ·obtain ⟨a,ha,rfl⟩:=cb.1 hx
   exact (hPr a (hL a ha)).1
 have hSh:ud .leaf (L.map jr):=fun x hx=>by
  obtain ⟨a,_,rfl⟩:=cb.1 hx;rfl
 have hLl:(L.map jr).length=L.length:=c7 ..;have e0:=hi F9 [] [.ip (D.int .i64 p)] (L.map jr) P hFn hSh (by omega)
 have ht:(L.map jr).take L.length=L.map jr:=aw (by omega)
 rcases Ed P jr L 0 (fun a ha=>(hPr a (hL a ha)).2) with ⟨g1,g2⟩ | ⟨k,g1,g2,g3⟩
 ·rw [g1] at e0
  rw [g2];refine ⟨cp,[],jb hT rfl ?_⟩;rw [dp];clear hPr hFn
  clear_value P
  generalize L.map jr=LD at *;generalize L.length=n at *;simp -implicitDefEqProofs [Z1y,ir_slices_DeleteFunc_impl_row_impl_row_B,af,e0,hLl,ht,List.idxOf,List.findIdx]
 ·rw [g1,bf] at e0
  obtain ⟨cur',e1,q1,q2⟩:=Uu (O:=den T A) h1 hL hl (cp:=cp) (L.length-(k+1)) (k+1) k (L.map jr) (by omega) (by omega) hLl hSh (by rw [List.map_drop])
  have hn:k+((L.drop (k+1)).filter irB).length=(L.filter irB).length:=by
   rw [g3,ch,bp,Nat.min_eq_left (by omega)]
  have hK:cur'.take (L.filter irB).length=(L.filter irB).map jr:=by
   rw [←hn,q2,g3,gq,List.map_take]
  rw [hn] at e1;have hle:(L.filter irB).length≤L.length:=List.length_filter_le ..;have w4:IntKind.i64.wrap ((k:Int)+1)=((k+1:Nat):Int):=(w64 (x:=(k:Int)+1) (by omega)).trans (by omega)
  have hk1:¬ (k:Int)=-1:=by omega
  refine ⟨cp.map (· - 0),List.replicate (L.length-(L.filter irB).length) (.sl .leaf [])++cur'.drop ((L.filter irB).length+(L.length-(L.filter irB).length)),jb hT rfl ?_⟩
  rw [←hK];clear hPr hFn hK q2 hn g3
  clear_value P
  generalize (L.filter irB).length=m at *;generalize L.map jr=LD at *;generalize L.length=n at *;have hmn:m+(n-m)≤cur'.length:=by omega
  have hsum:m+(n-m)=n:=by omega
  generalize ((k+1:Nat):Int)=K1 at *;simp -implicitDefEqProofs [Z1y,ir_slices_DeleteFunc_impl_row_impl_row_B,af,e0,e1,hLl,ht,w4,hk1,hle,q1,List.idxOf,List.findIdx]
end Pe

namespace Pe
open Go Gq
variable {T:Nat→Option Fn} {A:ah}
theorem E3 {O:ah} (hn:n4 O) {p:Int} [IsP p] {many:Nat} (hmany:many<100000):∀(m i:Nat) (cp:Option Nat),i+m=many→∃cp',
 dn O 0 (.loop Z15_L0) ⟨[(0,(.d (.int .i64 p))),(5,(.d (.int .i64 many))),(6,.sl 1 [] 0 i cp),(11,(.d (.int .i64 many))),(12,(.d (.int .i64 i)))],[.hole,.sl false .leaf ((List.range i).map fun (k:Nat)=>(D.sl .leaf (ak .i64 (row (du p ((many:Int)+k)))))),.hole,.hole]⟩ =
  some (.exit 0,⟨[(0,(.d (.int .i64 p))),(5,(.d (.int .i64 many))),(6,.sl 1 [] 0 many cp'),(11,(.d (.int .i64 many))),(12,(.d (.int .i64 many))),(13,(.d (.bool false)))],[.hole,.sl false .leaf ((List.range many).map fun (k:Nat)=>(D.sl .leaf (ak .i64 (row (du p ((many:Int)+k)))))),.hole,.hole]⟩)
 | 0,i,cp,hi=>by
  obtain rfl:i=many:=by omega
  exact ⟨cp,bo (by simp -implicitDefEqProofs [Z15_L0,af])⟩
 | m+1,i,cp,hi=>by
  obtain ⟨cp',e⟩:=E3 hn (p:=p) hmany m (i+1) none (by omega)
  have hlt:i<many:=by omega
  have w1:IntKind.i64.wrap ((many:Int)+i)=(many:Int)+i:=w64 (by omega)
  have w4:IntKind.i64.wrap ((i:Int)+1)=((i+1:Nat):Int):=(w64 (x:=(i:Int)+1) (by omega)).trans (by omega)
  have e1:=hn p ((many:Int)+i) (by omega) (by omega)
  have h8:(i+1)*24≤1099511627776:=by omega
  have ht:((List.range i).map fun (k:Nat)=>(D.sl .leaf (ak .i64 (row (du p ((many:Int)+k)))))).take i=(List.range i).map fun (k:Nat)=>(D.sl .leaf (ak .i64 (row (du p ((many:Int)+k))))):=aw (by simp)
  have o1:=L8 i fun (k:Nat)=>(D.sl .leaf (ak .i64 (row (du p ((many:Int)+k)))))
  refine ⟨cp',bb ?_ e⟩;have hL:((List.range i).map fun (k:Nat)=>(D.sl .leaf (ak .i64 (row (du p ((many:Int)+k)))))).length=i:=by simp
  rw [←o1];generalize (List.range i).map (fun (k:Nat)=>(D.sl .leaf (ak .i64 (row (du p ((many:Int)+k))))))=L at *
  simp -implicitDefEqProofs [Z15_L0,af,hlt,w1,w4,e1,h8,ht,hL,List.replicate]
noncomputable def sa (p:Int) (n:Nat):List (Fp p):=(List.range (p.toNat^n)).map fun (k:Nat)=>du p (p^n+k)
noncomputable def irL (p:Int) [IsP p] (n:Nat):List (Fp p):=(sa p n).filter irB
theorem Bs {p:Int} [IsP p] {n:Nat} (hn:n≤12) {a:Fp p} (h:a∈sa p n):Monic a∧a.len=n+1:=by
 obtain ⟨k,hk,rfl⟩:=cb.1 h;have:=ef.1 hk;have hN:=jo (p:=p) n;exact ox hn (by omega) (by omega)
def Cq (O:ah):Prop:=∀(p:Int) [IsP p] (n:Nat),p^n≤343→n≤12→∃cp:Option Nat,O F15 [.d (D.int .i64 p),.d (D.int .i64 n)] []=some (.sl 0 [] 0 (sa p n).length cp,[],[.sl false .leaf ((sa p n).map jr)])
theorem Rn (hT:T F15=some Z15) (hno:xf (den T A)) (hnu:n4 (den T A)):Cq (den T A):=by
 intro p i n hp343 hn;have hN:=jo (p:=p) n;have e1:=hno p n 343 (by omega) (by omega)
 rw [yd n 1 (by omega) (by omega),g8,←hN] at e1
 have hml:(sa p n).length=p.toNat^n:=by simp [sa]
 have hmm:(sa p n).map jr=(List.range (p.toNat^n)).map fun (k:Nat)=>(D.sl .leaf (ak .i64 (row (du p (((p.toNat^n:Nat):Int)+k))))):=by
  unfold sa;rw [tp,hN];rfl
 rw [hml,hmm];have hNb:p.toNat^n≤343:=by omega
 generalize p.toNat^n=many at *;obtain ⟨cp',e⟩:=E3 hnu (p:=p) (many:=many) (by omega) many 0 (some 0) (bf _)
 have e0:((0:Nat):Int)=0:=rfl;rw [e0,List.range_zero,iu] at e;refine ⟨cp',jb hT rfl ?_⟩;generalize (List.range many).map (fun (k:Nat)=>(D.sl .leaf (ak .i64 (row (du p ((many:Int)+k))))))=L at *
 simp -implicitDefEqProofs [Z15,Z15_B,e1,e,List.idxOf,List.findIdx,List.findIdx.go]
noncomputable def irO (p:Int) (n:Nat):D:=
 if h:isP p=true then
  haveI:IsP p:=xi h
  if 1≤n∧p^n≤343 then .tup [.sl (.arr 64 .leaf) ((irL p n).map mw),(D.int .i64 0)] else .tup [.sl (.arr 64 .leaf) [],(D.int .i64 2)]
 else .tup [.sl (.arr 64 .leaf) [],(D.int .i64 1)]
theorem H9 {p:Int} {n:Nat} (h:isP p=false):irO p n=.tup [.sl (.arr 64 .leaf) [],(D.int .i64 1)]:=by
 unfold irO;rw [dif_neg (by rw [h]; simp)]
theorem y7 {p:Int} [IsP p] {n:Nat} (h:¬ (1≤n∧p^n≤343)):irO p n=.tup [.sl (.arr 64 .leaf) [],(D.int .i64 2)]:=by
 unfold irO;rw [dif_pos yr,if_neg h]
theorem C9 {p:Int} [IsP p] {n:Nat} (h:1≤n∧p^n≤343):irO p n=.tup [.sl (.arr 64 .leaf) ((irL p n).map mw),(D.int .i64 0)]:=by
 unfold irO;rw [dif_pos yr,if_pos h]
def gy (O:ah) (F:Nat):Prop:=∀(p:Int) (n:Nat),n≤8→ask O F [(D.int .i64 p),(D.int .i64 n)]=some (irO p n)
theorem zr (hT:T F8=some Z8) (hip:qd (den T A)) (hno:xf (den T A)) (hm:Cq (den T A)) (hd:D0 (den T A)) (hpo:Gl (den T A)):gy (den T A) F8:=by
 intro p n hn;have e1:=hip p
 by_cases hp:isP p=true
 ·haveI:IsP p:=xi hp
  rw [hp] at e1
  by_cases h1:1≤n
  ·have e2:=hno p n 343 (by omega) (by omega)
   have hle:=Ig (p:=p) n 1 (by omega)
   rw [g8] at hle;have h1':¬ (n:Int)<1:=by omega
   by_cases h2:p^n≤343
   ·rw [C9 ⟨h1,h2⟩]
    have h3:¬ 343<ru p 343 n 1:=by have:=hle.2 h2; omega
    obtain ⟨cp,e3⟩:=hm p n h2 (by omega)
    have hN:=jo (p:=p) n;have hml:(sa p n).length=p.toNat^n:=by simp [sa]
    obtain ⟨cp2,rest,e4⟩:=hd p (sa p n) cp (fun a ha=>by have:=(Bs (by omega) ha).2; omega) (by omega)
    have hfl:(irL p n).length≤(sa p n).length:=List.length_filter_le ..
    have e5:=hpo p (irL p n) (by omega) (fun a ha=>by
     have:=(Bs (by omega) (List.mem_filter.1 (show a∈(sa p n).filter irB from ha)).1).2
     omega)
    have hir:(sa p n).filter irB=irL p n:=rfl;rw [hir] at e4;have hrl:((irL p n).map jr).length=(irL p n).length:=c7 ..;have ht:((irL p n).map jr++rest).take (irL p n).length=(irL p n).map jr:=List.take_left' hrl;have hle2:(irL p n).length≤((irL p n).map jr++rest).length:=by rw [ch]; omega
    refine bc hT rfl ?_;clear hir hfl hml;generalize (irL p n).map mw=PD at *;generalize (irL p n).map jr=RD at *;generalize (irL p n).length=m at *;generalize (sa p n).map jr=MD at *;generalize (sa p n).length=m0 at *;generalize ru p 343 n 1=NL at *;generalize hRR:RD++rest=RR at *;simp -implicitDefEqProofs [Z8,Z8_B,af,e1,e2,e3,e4,e5,h1',h3,ht,hle2,List.replicate,List.idxOf,List.findIdx,List.findIdx.go]
   ·rw [y7 fun h=>h2 h.2]
    have h3:343<ru p 343 n 1:=by
     apply ck;intro hx;exact h2 (hle.1 (by omega))
    refine bc hT rfl ?_;generalize ru p 343 n 1=NL at *;simp -implicitDefEqProofs [Z8,Z8_B,af,e1,e2,h1',h3,List.replicate]
  ·rw [y7 fun h=>h1 h.1]
   have h1':(n:Int)<1:=by omega
   refine bc hT rfl ?_;generalize (n:Int)=N at *;simp -implicitDefEqProofs [Z8,Z8_B,af,e1,h1',List.replicate]
 ·rw [jl] at hp
  rw [H9 hp];rw [hp] at e1;refine bc hT rfl ?_;simp -implicitDefEqProofs [Z8,Z8_B,af,e1,List.replicate]
noncomputable def irK (p:Int) [IsP p] (n j:Nat):List (Fp p):=((List.range j).map fun (k:Nat)=>du p (p^n+k)).filter irB
theorem Jl {p:Int} [IsP p] (n j:Nat):irK p n (j+1)=irK p n j++if irB (du p (p^n+(j:Int)))=true then [du p (p^n+(j:Int))] else []:=by
 unfold irK;rw [List.range_succ,gq,List.filter_append,fj,iu]
 congr 1
 by_cases h:irB (du p (p^n+(j:Int)))=true
 ·rw [if_pos h,List.filter_cons_of_pos h]; rfl
 ·rw [if_neg h,List.filter_cons_of_neg h]; rfl
theorem N5 {O:ah} (hct:p9 O) (hof:D3 O) (hir:xg O) {p:Int} [IsP p] {n:Nat} (hn:n≤8) (hp343:p^n≤343):∀(r j:Nat) (cp:Option Nat),j+r=p.toNat^n→∃cp':Option Nat,
 dn O 0 (.loop Z2o_L0) ⟨[(0,(.d (.int .i64 p))),(1,(.d (.int .i64 n))),(6,.sl 0 [] 0 (irK p n j).length cp),(7,(.d (.int .i64 (p^n+(j:Int)))))],[.sl false (.arr 64 .leaf) ((irK p n j).map mw),.hole,.hole,.hole]⟩ =
  some (.exit 1,⟨[(0,(.d (.int .i64 p))),(1,(.d (.int .i64 n))),(6,.sl 0 [] 0 (irL p n).length cp'),(7,(.d (.int .i64 (2*p^n)))),(32,(.d (.bool false)))],[.sl false (.arr 64 .leaf) ((irL p n).map mw),.hole,.hole,.hole]⟩)
 | r,j,cp,hj=>by
  classical
  have hN:=jo (p:=p) n;have hpos:=i7 (p:=p) n;have e1:=wh hct p n (by omega)
  have w1:IntKind.i64.wrap (2*p^n)=2*p^n:=w64 (by omega)
  cases r with
  | zero=>
   obtain rfl:j=p.toNat^n:=by omega
   have hir:irK p n (p.toNat^n)=irL p n:=rfl;have hk:p^n+((p.toNat^n:Nat):Int)=2*p^n:=by omega
   rw [hir,hk];refine ⟨cp,bo ?_⟩;generalize (irL p n).map mw=PD at *;generalize p^n=Q at *;simp -implicitDefEqProofs [Z2o_L0,af,e1,w1]
  | succ r=>
   have hlt:p^n+(j:Int)<2*p^n:=by omega
   have e2:=hof p (p^n+(j:Int)) (by omega) (by omega)
   obtain ⟨hmo,hl⟩:=ox (p:=p) (n:=n) (by omega) (k:=p^n+(j:Int)) (by omega) (by omega)
   have e3:=hir p (du p (p^n+(j:Int))) hmo.2 (by omega)
   have hB:decide (Irr (du p (p^n+(j:Int))))=irB (du p (p^n+(j:Int))):=decide_eq_decide.2 ⟨fun h=>⟨hmo,h⟩,fun h=>h.2⟩
   rw [hB] at e3;have w4:IntKind.i64.wrap (p^n+(j:Int)+1)=p^n+((j+1:Nat):Int):=(w64 (x:=p^n+(j:Int)+1) (by omega)).trans (by omega)
   have hkl:(irK p n j).length≤343:=by
    have:(irK p n j).length≤((List.range j).map fun (k:Nat)=>du p (p^n+(k:Int))).length:=List.length_filter_le ..
    rw [c7,kj] at this;omega
   by_cases hb:irB (du p (p^n+(j:Int)))=true
   ·rw [hb] at e3
    have ek:irK p n (j+1)=irK p n j++[du p (p^n+(j:Int))]:=by rw [Jl,if_pos hb]
    have hml:((irK p n j).map mw).length=(irK p n j).length:=c7 ..;have ht:((irK p n j).map mw).take (irK p n j).length=(irK p n j).map mw:=aw (by omega)
    obtain ⟨cp',ih⟩:=N5 (O:=O) hct hof hir hn hp343 r (j+1) none (by omega)
    rw [ek,ch,gq,List.length_singleton,fj,iu] at ih;have h8:((irK p n j).length+1)*64≤1099511627776:=by omega
    refine ⟨cp',bb ?_ ih⟩;have hpd:mw (du p (p^n+(j:Int)))=(D.arr 64 .leaf (ak .u8 (pad (row (du p (p^n+(j:Int))))))):=rfl;rw [hpd];generalize pad (row (du p (p^n+(j:Int))))=Pj at *;generalize p^n+((j+1:Nat):Int)=KN at *;generalize p^n+(j:Int)=KJ at *;generalize (irK p n j).map mw=PD at *;generalize (irK p n j).length=m at *;generalize p^n=Q at *;simp -implicitDefEqProofs [Z2o_L0,af,hlt,e1,e2,e3,w1,w4,hml,ht,h8,List.replicate]
   ·have hb':irB (du p (p^n+(j:Int)))=false:=by simpa using hb
    rw [hb'] at e3;have ek:irK p n (j+1)=irK p n j:=by rw [Jl,if_neg hb,dp]
    obtain ⟨cp',ih⟩:=N5 (O:=O) hct hof hir hn hp343 r (j+1) cp (by omega)
    rw [ek] at ih;refine ⟨cp',bb ?_ ih⟩;generalize pad (row (du p (p^n+(j:Int))))=Pj at *;generalize p^n+((j+1:Nat):Int)=KN at *;generalize p^n+(j:Int)=KJ at *;generalize (irK p n j).map mw=PD at *;generalize (irK p n j).length=m at *;generalize p^n=Q at *;simp -implicitDefEqProofs [Z2o_L0,af,hlt,e1,e2,e3,w1,w4,List.replicate]
theorem z3 (hT:T F2o=some Z2o) (hip:sn (den T A)) (hin:Jd (den T A)) (hct:p9 (den T A)) (hof:D3 (den T A)) (hir:xg (den T A)):gy (den T A) F2o:=by
 intro p n hn;have e1:=hip p
 by_cases hp:isP p=true
 ·haveI:IsP p:=xi hp
  rw [hp] at e1;have e2:=hin (n:Int) 1 8;have e3:=wh hct p n (by omega)
  by_cases h1:1≤n
  ·rw [decide_eq_true (by omega)] at e2
   by_cases h2:p^n≤343
   ·rw [C9 ⟨h1,h2⟩]
    have h3:¬ 343<p^n:=by omega
    obtain ⟨cp,e4⟩:=N5 (O:=den T A) hct hof hir hn h2 (p.toNat^n) 0 (some 0) (bf _);have z1:irK p n 0=[]:=rfl;rw [z1,show p^n+((0:Nat):Int)=p^n by omega,iu,mn] at e4
    have hml:((irL p n).map mw).length=(irL p n).length:=c7 ..;have ht:((irL p n).map mw).take (irL p n).length=(irL p n).map mw:=aw (by omega)
    refine bc hT rfl ?_;generalize (irL p n).map mw=PD at *;generalize (irL p n).length=m at *;generalize p^n=Q at *;simp -implicitDefEqProofs [Z2o,Z2o_B,af,e1,e2,e3,e4,h3,hml,ht,List.replicate]
   ·rw [y7 fun h=>h2 h.2]
    have h3:343<p^n:=by omega
    refine bc hT rfl ?_;generalize p^n=Q at *;simp -implicitDefEqProofs [Z2o,Z2o_B,af,e1,e2,e3,h3,List.replicate]
  ·rw [y7 fun h=>h1 h.1]
   rw [decide_eq_false (by omega)] at e2
   refine bc hT rfl ?_;simp -implicitDefEqProofs [Z2o,Z2o_B,af,e1,e2,List.replicate]
 ·rw [jl] at hp
  rw [H9 hp];rw [hp] at e1;refine bc hT rfl ?_;simp -implicitDefEqProofs [Z2o,Z2o_B,af,e1,List.replicate]
end Pe

namespace Pe
open Go Gq
variable {T:Nat→Option Fn} {A:ah}
def sf (n:Nat):Int:=([0,1,-1,-1,0,-1,1,-1,0,0,1,-1,0,-1,1,1,0,-1,0,-1,0]:List Int).getD n 0
theorem Wn (n:Nat):-1≤sf n∧sf n≤1:=by
 by_cases h:n≤20
 ·have:n=0∨n=1∨n=2∨n=3∨n=4∨n=5∨n=6∨n=7∨n=8∨n=9∨n=10∨n=11∨n=12∨n=13∨n=14∨n=15∨n=16∨n=17∨n=18∨n=19∨n=20:=by omega
  rcases this with rfl | rfl | rfl | rfl | rfl | rfl | rfl | rfl | rfl | rfl | rfl | rfl | rfl | rfl | rfl | rfl | rfl | rfl | rfl | rfl | rfl <;> decide
 ·unfold sf
  rw [bt,c5 (by simp; omega)]
  simp
def uc (O:ah) (F:Nat):Prop:=∀n:Nat,1≤n→n≤20→ask O F [(D.int .i64 n)]=some (D.int .i64 (sf n))
theorem a0a (hT:T Ft=some Zt):uc (den T A) Ft:=by
 intro n h1 h2;have:n=1∨n=2∨n=3∨n=4∨n=5∨n=6∨n=7∨n=8∨n=9∨n=10∨n=11∨n=12∨n=13∨n=14∨n=15∨n=16∨n=17∨n=18∨n=19∨n=20:=by omega
 rcases this with rfl | rfl | rfl | rfl | rfl | rfl | rfl | rfl | rfl | rfl | rfl | rfl | rfl | rfl | rfl | rfl | rfl | rfl | rfl | rfl
 ·exact bj hT (n:=60) (by kernel_rfl)
 ·exact bj hT (n:=60) (by kernel_rfl)
 ·exact bj hT (n:=60) (by kernel_rfl)
 ·exact bj hT (n:=60) (by kernel_rfl)
 ·exact bj hT (n:=60) (by kernel_rfl)
 ·exact bj hT (n:=60) (by kernel_rfl)
 ·exact bj hT (n:=60) (by kernel_rfl)
 ·exact bj hT (n:=60) (by kernel_rfl)
 ·exact bj hT (n:=60) (by kernel_rfl)
 ·exact bj hT (n:=60) (by kernel_rfl)
 ·exact bj hT (n:=60) (by kernel_rfl)
 ·exact bj hT (n:=60) (by kernel_rfl)
 ·exact bj hT (n:=60) (by kernel_rfl)
 ·exact bj hT (n:=60) (by kernel_rfl)
 ·exact bj hT (n:=60) (by kernel_rfl)
 ·exact bj hT (n:=60) (by kernel_rfl)
 ·exact bj hT (n:=60) (by kernel_rfl)
 ·exact bj hT (n:=60) (by kernel_rfl)
 ·exact bj hT (n:=60) (by kernel_rfl)
 ·exact bj hT (n:=60) (by kernel_rfl)
theorem Wl (hT:T F3l=some Z3l):uc (den T A) F3l:=by
 intro n h1 h2;have:n=1∨n=2∨n=3∨n=4∨n=5∨n=6∨n=7∨n=8∨n=9∨n=10∨n=11∨n=12∨n=13∨n=14∨n=15∨n=16∨n=17∨n=18∨n=19∨n=20:=by omega
 rcases this with rfl | rfl | rfl | rfl | rfl | rfl | rfl | rfl | rfl | rfl | rfl | rfl | rfl | rfl | rfl | rfl | rfl | rfl | rfl | rfl
 ·exact bj hT (n:=60) (by kernel_rfl)
 ·exact bj hT (n:=60) (by kernel_rfl)
 ·exact bj hT (n:=60) (by kernel_rfl)
 ·exact bj hT (n:=60) (by kernel_rfl)
 ·exact bj hT (n:=60) (by kernel_rfl)
 ·exact bj hT (n:=60) (by kernel_rfl)
 ·exact bj hT (n:=60) (by kernel_rfl)
 ·exact bj hT (n:=60) (by kernel_rfl)
 ·exact bj hT (n:=60) (by kernel_rfl)
 ·exact bj hT (n:=60) (by kernel_rfl)
 ·exact bj hT (n:=60) (by kernel_rfl)
 ·exact bj hT (n:=60) (by kernel_rfl)
 ·exact bj hT (n:=60) (by kernel_rfl)
 ·exact bj hT (n:=60) (by kernel_rfl)
 ·exact bj hT (n:=60) (by kernel_rfl)
 ·exact bj hT (n:=60) (by kernel_rfl)
 ·exact bj hT (n:=60) (by kernel_rfl)
 ·exact bj hT (n:=60) (by kernel_rfl)
 ·exact bj hT (n:=60) (by kernel_rfl)
 ·exact bj hT (n:=60) (by kernel_rfl)
section
variable {p:Int} [IsP p]
theorem p20 {n:Nat} (hn:n≤20):1≤p^n∧p^n≤79792266297612001:=by
 have h1:=a2y (p:=p) hn;have h2:p^20≤79792266297612001:=by rcases IsP.h (p:=p) with h | h | h | h <;> subst h <;> decide
 exact ⟨v8 (IsP.pos (p:=p)),by omega⟩
end
theorem a2d (q:Nat) (h:q≤20):IntKind.i64.wrap (q:Int)=q:=w64 (by omega)
theorem Nv {S k B:Int} (h1:-B≤S) (h2:S≤B) (hk:0<k):-B≤S.tdiv k∧S.tdiv k≤B:=by
 have key:∀x:Int,0≤x→0≤x.tdiv k∧x.tdiv k≤x:=fun x hx=>by
  rw [dx hx];exact ⟨il hx (by omega),Int.ediv_le_self k hx⟩
 by_cases hS:0≤S
 ·have:=key S hS
  omega
 ·have e:S.tdiv k=-((-S).tdiv k):=by rw [Int.neg_tdiv,Int.neg_neg]
  have:=key (-S) (by omega)
  rw [e];omega
def Dn (p:Int) (n:Nat) (d:Nat):Int:=if n%d=0 then sf d*p^(n/d) else 0
def io (p:Int) (n:Nat):Nat→Int
 | 0=>0
 | d+1=>io p n d+Dn p n (d+1)
theorem Gf {p:Int} [IsP p] {n:Nat} (hn:n≤20) (d:Nat):-79792266297612001≤Dn p n d∧Dn p n d≤79792266297612001:=by
 unfold Dn
 split
 ·have h1:=Wn d
  obtain ⟨h2,h3⟩:=p20 (p:=p) (n:=n/d) (iq (Nat.div_le_self _ _) hn);have:sf d=-1∨sf d=0∨sf d=1:=by omega
  rcases this with h | h | h <;> rw [h] <;> omega
 ·omega
theorem xx {p:Int} [IsP p] {n:Nat} (hn:n≤20):∀d:Nat,-((d:Int)*79792266297612001)≤io p n d∧io p n d≤(d:Int)*79792266297612001
 | 0=>by simp [io]
 | d+1=>by
  have ih:=xx (p:=p) hn d;have h:=Gf (p:=p) hn (d+1);unfold io;rw [Int.natCast_add];omega
noncomputable def ciO (p n:Int):D:=
 if isP p=true then (if 1≤n∧n≤20 then .tup [(D.int .i64 ((io p n.toNat n.toNat).tdiv n)),(D.int .i64 0)] else .tup [(D.int .i64 0),(D.int .i64 2)]) else .tup [(D.int .i64 0),(D.int .i64 1)]
def oq (O:ah) (F:Nat):Prop:=∀p n:Int,ask O F [(D.int .i64 p),(D.int .i64 n)]=some (ciO p n)
def B9 (O:ah):Prop:=∀(b:Int) (n:Nat),1≤b→n<100000→b^n≤1000000000000000000→ask O F3m [(D.int .i64 b),(D.int .i64 n)]=some (D.int .i64 (b^n))
theorem Nh {O:ah} {b:Int} (hb:1≤b):∀(n:Nat) (out:Int),n<100000→0<out→out*b^n≤1000000000000000000 →
 dn O 0 (.loop Z3m_L0) ⟨[(0,(.d (.int .i64 b))),(1,(.d (.int .i64 n))),(5,(.d (.int .i64 out)))],[]⟩ =
  some (.exit 0,⟨[(0,(.d (.int .i64 b))),(1,(.d (.int .i64 0))),(5,(.d (.int .i64 (out*b^n)))),(7,(.d (.bool false)))],[]⟩)
 | 0,out,_,h1,h2=>by
  rw [fa,ix];exact bo (by simp -implicitDefEqProofs [Z3m_L0,af])
 | n+1,out,hn,h1,h2=>by
  have e:out*b^(n+1)=out*b*b^n:=by rw [cu,kf,eg b]
  have h3:1≤b^n:=v8 hb;have h4:0<out*b:=ph h1 hb;have h5:out*b*1≤out*b*b^n:=bm h3 (by omega)
  rw [e] at h2 ⊢;have h0:(0:Int)<(n:Int)+1:=by omega
  have w1:IntKind.i64.wrap (out*b)=out*b:=w64 (by omega)
  have w2:IntKind.i64.wrap (n:Int)=n:=w64 (by omega)
  refine bb ?_ (Nh hb n (out*b) (by omega) h4 h2)
  simp -implicitDefEqProofs [Z3m_L0,af,h0,w1,w2]
theorem W1 (hT:T F3m=some Z3m):B9 (den T A):=by
 intro b n hb hn h;have e:=Nh (O:=den T A) hb n 1 hn (by omega) (by omega)
 rw [g8] at e;refine bc hT rfl ?_;simp -implicitDefEqProofs [Z3m,Z3m_B,e]
theorem Xj {O:ah} (hmb:uc O Ft) (hno:xf O) {p:Int} [IsP p] {n:Nat} (hn:n≤20):∀(r d:Nat),d+r=n →
 dn O 0 (.loop Z5_L0) ⟨[(0,(.d (.int .i64 p))),(1,(.d (.int .i64 n))),(6,(.d (.int .i64 (io p n d)))),(7,(.d (.int .i64 (((d+1:Nat):Int)))))],[]⟩ =
  some (.exit 1,⟨[(0,(.d (.int .i64 p))),(1,(.d (.int .i64 n))),(6,(.d (.int .i64 (io p n n)))),(7,(.d (.int .i64 (((n+1:Nat):Int))))),(18,(.d (.bool false)))],[]⟩)
 | 0,d,hd=>by
  obtain rfl:d=n:=by omega
  have hlt:¬ ((d+1:Nat):Int)≤(d:Int):=by omega
  refine bo ?_;generalize ((d+1:Nat):Int)=D1 at *;simp -implicitDefEqProofs [Z5_L0,af,hlt]
 | r+1,d,hd=>by
  have hle:((d+1:Nat):Int)≤(n:Int):=by omega
  have hd0:¬ ((d+1:Nat):Int)=0:=by omega
  have hr:(n:Int).tmod ((d+1:Nat):Int)=((n%(d+1):Nat):Int):=by rw [c8 (by omega)]; rfl
  have w4:IntKind.i64.wrap (((d+1:Nat):Int)+1)=((d+1+1:Nat):Int):=(w64 (x:=((d+1:Nat):Int)+1) (by omega)).trans (by omega)
  have ih:=Xj (O:=O) hmb hno hn (p:=p) r (d+1) (by omega)
  have hS:io p n (d+1)=io p n d+Dn p n (d+1):=rfl
  by_cases hm:n%(d+1)=0
  ·have hm':((n%(d+1):Nat):Int)=0:=by omega
   have hq:(n:Int).tdiv ((d+1:Nat):Int)=((n/(d+1):Nat):Int):=by rw [dx (by omega)]; rfl
   have hql:n/(d+1)≤20:=iq (Nat.div_le_self _ _) hn;have wq:=a2d (n/(d+1)) hql;obtain ⟨g1,g2⟩:=p20 (p:=p) hql;have e1:=hmb (d+1) (by omega) (by omega)
   have e2:=hno p (n/(d+1)) 1152921504606846976 (by omega) (by omega)
   rw [yd _ _ (by omega) (by omega),g8] at e2
   have hTd:Dn p n (d+1)=sf (d+1)*p^(n/(d+1)):=if_pos hm;have hTi:=Gf (p:=p) hn (d+1);have hSi:=xx (p:=p) hn d;have hdn:(d:Int)*79792266297612001≤20*79792266297612001:=ff (by omega) (by omega)
   rw [hTd] at hTi hS;have w1:IntKind.i64.wrap (sf (d+1)*p^(n/(d+1)))=sf (d+1)*p^(n/(d+1)):=w64 (by omega)
   have w2:IntKind.i64.wrap (io p n d+sf (d+1)*p^(n/(d+1)))=io p n d+sf (d+1)*p^(n/(d+1)):=w64 (by omega)
   rw [hS] at ih;rw [hm'] at hr;refine bb ?_ ih;generalize ((d+1+1:Nat):Int)=D2 at *;generalize ((d+1:Nat):Int)=D1 at *;generalize ((n/(d+1):Nat):Int)=Q at *;generalize p^(n/(d+1))=PQ at *;generalize sf (d+1)=M at *;generalize io p n d=S at *;simp -implicitDefEqProofs [Z5_L0,af,hle,hd0,hr,hq,wq,e1,e2,w1,w2,w4]
  ·have hm':¬ ((n%(d+1):Nat):Int)=0:=by omega
   have hTd:Dn p n (d+1)=0:=if_neg hm;rw [hTd,Int.add_zero] at hS;rw [hS] at ih;refine bb ?_ ih;generalize ((n%(d+1):Nat):Int)=R at *;generalize ((d+1+1:Nat):Int)=D2 at *;generalize ((d+1:Nat):Int)=D1 at *;generalize io p n d=S at *;simp -implicitDefEqProofs [Z5_L0,af,hle,hd0,hr,hm',w4]
theorem Sn {O:ah} (hmb:uc O F3l) (hno:B9 O) {p:Int} [IsP p] {n:Nat} (hn:n≤20):∀(r d:Nat),d+r=n →
 dn O 0 (.loop Z2i_L0) ⟨[(0,(.d (.int .i64 p))),(1,(.d (.int .i64 n))),(6,(.d (.int .i64 (io p n d)))),(7,(.d (.int .i64 (((d+1:Nat):Int)))))],[]⟩ =
  some (.exit 1,⟨[(0,(.d (.int .i64 p))),(1,(.d (.int .i64 n))),(6,(.d (.int .i64 (io p n n)))),(7,(.d (.int .i64 (((n+1:Nat):Int))))),(18,(.d (.bool false)))],[]⟩)
 | 0,d,hd=>by
  obtain rfl:d=n:=by omega
  have hlt:¬ ((d+1:Nat):Int)≤(d:Int):=by omega
  refine bo ?_;generalize ((d+1:Nat):Int)=D1 at *;simp -implicitDefEqProofs [Z2i_L0,af,hlt]
 | r+1,d,hd=>by
  have hle:((d+1:Nat):Int)≤(n:Int):=by omega
  have hd0:¬ ((d+1:Nat):Int)=0:=by omega
  have hr:(n:Int).tmod ((d+1:Nat):Int)=((n%(d+1):Nat):Int):=by rw [c8 (by omega)]; rfl
  have w4:IntKind.i64.wrap (((d+1:Nat):Int)+1)=((d+1+1:Nat):Int):=(w64 (x:=((d+1:Nat):Int)+1) (by omega)).trans (by omega)
  have ih:=Sn (O:=O) hmb hno hn (p:=p) r (d+1) (by omega)
  have hS:io p n (d+1)=io p n d+Dn p n (d+1):=rfl
  by_cases hm:n%(d+1)=0
  ·have hm':((n%(d+1):Nat):Int)=0:=by omega
   have hq:(n:Int).tdiv ((d+1:Nat):Int)=((n/(d+1):Nat):Int):=by rw [dx (by omega)]; rfl
   have hql:n/(d+1)≤20:=iq (Nat.div_le_self _ _) hn;have wq:=a2d (n/(d+1)) hql;obtain ⟨g1,g2⟩:=p20 (p:=p) hql;have e1:=hmb (d+1) (by omega) (by omega)
   have e2:=hno p (n/(d+1)) (by have:=IsP.ge (p:=p); omega) (by omega) (by omega)
   have hTd:Dn p n (d+1)=sf (d+1)*p^(n/(d+1)):=if_pos hm;have hTi:=Gf (p:=p) hn (d+1);have hSi:=xx (p:=p) hn d;have hdn:(d:Int)*79792266297612001≤20*79792266297612001:=ff (by omega) (by omega)
   rw [hTd] at hTi hS;have w1:IntKind.i64.wrap (sf (d+1)*p^(n/(d+1)))=sf (d+1)*p^(n/(d+1)):=w64 (by omega)
   have w2:IntKind.i64.wrap (io p n d+sf (d+1)*p^(n/(d+1)))=io p n d+sf (d+1)*p^(n/(d+1)):=w64 (by omega)
   rw [hS] at ih;rw [hm'] at hr;refine bb ?_ ih;generalize ((d+1+1:Nat):Int)=D2 at *;generalize ((d+1:Nat):Int)=D1 at *;generalize ((n/(d+1):Nat):Int)=Q at *;generalize p^(n/(d+1))=PQ at *;generalize sf (d+1)=M at *;generalize io p n d=S at *;simp -implicitDefEqProofs [Z2i_L0,af,hle,hd0,hr,hq,wq,e1,e2,w1,w2,w4]
  ·have hm':¬ ((n%(d+1):Nat):Int)=0:=by omega
   have hTd:Dn p n (d+1)=0:=if_neg hm;rw [hTd,Int.add_zero] at hS;rw [hS] at ih;refine bb ?_ ih;generalize ((n%(d+1):Nat):Int)=R at *;generalize ((d+1+1:Nat):Int)=D2 at *;generalize ((d+1:Nat):Int)=D1 at *;generalize io p n d=S at *;simp -implicitDefEqProofs [Z2i_L0,af,hle,hd0,hr,hm',w4]
theorem Jt (hT:T F5=some Z5) (hip:qd (den T A)) (hin:u7 (den T A)) (hmb:uc (den T A) Ft) (hno:xf (den T A)):oq (den T A) F5:=by
 intro p n;have e1:=hip p;unfold ciO
 by_cases hp:isP p=true
 ·haveI:IsP p:=xi hp
  rw [if_pos hp];rw [hp] at e1;have e2:=hin n 1 20
  by_cases h:1≤n∧n≤20
  ·rw [if_pos h]
   rw [decide_eq_true h] at e2;obtain ⟨k,rfl⟩:∃k:Nat,n=k:=⟨n.toNat,by omega⟩
   have e3:=Xj (O:=den T A) hmb hno (p:=p) (n:=k) (by omega) k 0 (bf _)
   have z1:io p k 0=0:=rfl;have z2:((0+1:Nat):Int)=1:=rfl;rw [z1,z2] at e3;have hk:((k:Int)).toNat=k:=by omega
   rw [hk];have hk0:¬ (k:Int)=0:=by omega
   have hSi:=xx (p:=p) (n:=k) (by omega) k
   have hkk:(k:Int)*79792266297612001≤20*79792266297612001:=ff (by omega) (by omega)
   have hq:-(20*79792266297612001)≤(io p k k).tdiv k∧(io p k k).tdiv k≤20*79792266297612001:=by
    exact Nv (by omega) (by omega) (by omega)
   have w1:IntKind.i64.wrap ((io p k k).tdiv k)=(io p k k).tdiv k:=w64 (by omega)
   refine bc hT rfl ?_;clear hSi hq;generalize io p k k=S at *;generalize ((k+1:Nat):Int)=K1 at *;generalize (k:Int)=K at *;simp -implicitDefEqProofs [Z5,Z5_B,af,e1,e2,e3,hk0,w1]
  ·rw [if_neg h]
   rw [decide_eq_false h] at e2;refine bc hT rfl ?_;simp -implicitDefEqProofs [Z5,Z5_B,af,e1,e2]
 ·rw [if_neg hp]
  rw [jl] at hp;rw [hp] at e1;refine bc hT rfl ?_;simp -implicitDefEqProofs [Z5,Z5_B,af,e1]
theorem Ij (hT:T F2i=some Z2i) (hip:sn (den T A)) (hin:Jd (den T A)) (hmb:uc (den T A) F3l) (hno:B9 (den T A)):oq (den T A) F2i:=by
 intro p n;have e1:=hip p;unfold ciO
 by_cases hp:isP p=true
 ·haveI:IsP p:=xi hp
  rw [if_pos hp];rw [hp] at e1;have e2:=hin n 1 20
  by_cases h:1≤n∧n≤20
  ·rw [if_pos h]
   rw [decide_eq_true h] at e2;obtain ⟨k,rfl⟩:∃k:Nat,n=k:=⟨n.toNat,by omega⟩
   have e3:=Sn (O:=den T A) hmb hno (p:=p) (n:=k) (by omega) k 0 (bf _)
   have z1:io p k 0=0:=rfl;have z2:((0+1:Nat):Int)=1:=rfl;rw [z1,z2] at e3;have hk:((k:Int)).toNat=k:=by omega
   rw [hk];have hk0:¬ (k:Int)=0:=by omega
   have hSi:=xx (p:=p) (n:=k) (by omega) k
   have hkk:(k:Int)*79792266297612001≤20*79792266297612001:=ff (by omega) (by omega)
   have hq:-(20*79792266297612001)≤(io p k k).tdiv k∧(io p k k).tdiv k≤20*79792266297612001:=by
    exact Nv (by omega) (by omega) (by omega)
   have w1:IntKind.i64.wrap ((io p k k).tdiv k)=(io p k k).tdiv k:=w64 (by omega)
   refine bc hT rfl ?_;clear hSi hq;generalize io p k k=S at *;generalize ((k+1:Nat):Int)=K1 at *;generalize (k:Int)=K at *;simp -implicitDefEqProofs [Z2i,Z2i_B,af,e1,e2,e3,hk0,w1]
  ·rw [if_neg h]
   rw [decide_eq_false h] at e2;refine bc hT rfl ?_;simp -implicitDefEqProofs [Z2i,Z2i_B,af,e1,e2]
 ·rw [if_neg hp]
  rw [jl] at hp;rw [hp] at e1;refine bc hT rfl ?_;simp -implicitDefEqProofs [Z2i,Z2i_B,af,e1]
open Classical in
noncomputable def iiO (p:Int) (a:List Int):D:=
 if dgC p a (-1) 12=0 then (if h:IsP p then haveI:=h; .tup [(D.bool (irB (dl p a))),(D.int .i64 0)] else .tup [(D.bool false),(D.int .i64 0)]) else .tup [(D.bool false),(D.int .i64 (dgC p a (-1) 12))]
theorem Bn {p:Int} [ip:IsP p] {X:Fp p} (h:dgC p (pad (row X)) (-1) 12=0) (hX:X.len≤64):iiO p (pad (row X))=.tup [(D.bool (irB X)),(D.int .i64 0)]:=by
 unfold iiO;rw [if_pos h,dif_pos ip,jj hX]
theorem Nk {p:Int} {a:List Int} (h:¬ dgC p a (-1) 12=0):iiO p a=.tup [(D.bool false),(D.int .i64 (dgC p a (-1) 12))]:=by unfold iiO; rw [if_neg h]
def p8 (O:ah) (F:Nat):Prop:=∀(p:Int) (a:List Int),ft a→a.length=64→ask O F [(D.int .i64 p),(D.arr 64 .leaf (ak .u8 a))]=some (iiO p a)
theorem Tf (hT:T Fa=some Za) (hdc:fi (den T A) Fl) (hro:pv (den T A)) (hir:B1 (den T A)):p8 (den T A) Fa:=by
 intro p a ha gl;have e1:=hdc p a (-1) 12 ha gl
 by_cases h:dgC p a (-1) 12=0
 ·have h':=h
  rw [h] at e1;obtain ⟨ip,X,rfl,h1,h2,hX⟩:=rj ha gl h;rw [Bn h' hX];have e2:=hro p X hX;have e3:ask (den T A) F14 [(D.int .i64 p),(D.sl .leaf (ak .i64 (row X)))]=some (D.bool (irB X)):=hir p X (by omega)
  refine bc hT rfl ?_;generalize irB X=b at *;generalize pad (row X)=Px at *;generalize row X=Rx at *;simp -implicitDefEqProofs [Za,Za_B,af,e1,e2,e3]
 ·rw [Nk h]
  refine bc hT rfl ?_;generalize dgC p a (-1) 12=c at *;simp -implicitDefEqProofs [Za,Za_B,af,e1,h]
theorem Qx (hT:T F2p=some Z2p) (hdc:fi (den T A) F3k) (hmo:D5 (den T A)) (hir:xg (den T A)):p8 (den T A) F2p:=by
 classical
 intro p a ha gl;have e1:=hdc p a (-1) 12 ha gl
 by_cases h:dgC p a (-1) 12=0
 ·have h':=h
  rw [h] at e1;obtain ⟨ip,X,rfl,h1,h2,hX⟩:=rj ha gl h;rw [Bn h' hX];have e2:=hmo p X hX
  by_cases hM:Monic X
  ·rw [decide_eq_true hM] at e2
   have e3:=hir p X hM.2 (by omega)
   have hB:decide (Irr X)=irB X:=decide_eq_decide.2 ⟨fun h=>⟨hM,h⟩,fun h=>h.2⟩
   rw [hB] at e3;refine bc hT rfl ?_;generalize irB X=b at *;generalize pad (row X)=Px at *;simp -implicitDefEqProofs [Z2p,Z2p_B,af,e1,e2,e3]
  ·rw [decide_eq_false hM] at e2
   have hB:irB X=false:=decide_eq_false fun h=>hM h.1
   rw [hB];refine bc hT rfl ?_;generalize pad (row X)=Px at *;simp -implicitDefEqProofs [Z2p,Z2p_B,af,e1,e2]
 ·rw [Nk h]
  refine bc hT rfl ?_;generalize dgC p a (-1) 12=c at *;simp -implicitDefEqProofs [Z2p,Z2p_B,af,e1,h]
end Pe

namespace Pe
open Go Gq
variable {T:Nat→Option Fn} {A:ah}
theorem T0 {p:Int} [IsP p]:du p 1=1:=Pol.ext fun i=>by
 have hp:=IsP.ge (p:=p);rw [Cu ⟨by omega,by omega⟩,←Pol.C_one,Pol.c_C]
 split
 ·rename_i h
  rw [h,fa,Int.ediv_one,Mb]
 ·rename_i h
  have h1:p^1≤p^i:=jh (by omega) (by omega)
  rw [cu,fa,g8] at h1;rw [jw (by omega) (by omega),td]
def vz (O:ah):Prop:=∀(p:Int) [IsP p],ask O Fe [(D.int .i64 p),(D.int .i64 1)]=some (.tup [(D.arr 64 .leaf (ak .u8 (pad (row (1:Fp p))))),(D.int .i64 0)])
theorem Pz (hT:T Fe=some Ze) (hip:qd (den T A)) (hnm:ti (den T A)) (hnu:n4 (den T A)) (hto:Bm (den T A)):vz (den T A):=by
 intro p ip;have e1:=hip p;rw [yr] at e1;have e2:=hnm 1;rw [decide_eq_true (by omega)] at e2
 have e3:=hnu p 1 (by omega) (by omega)
 rw [T0] at e3;have e4:=hto (row (1:Fp p)) (vk _) (by rw [bg,Pol.len_one]; omega)
 unfold Ik at e4;rw [bg,Pol.len_one,if_pos (by omega)] at e4
 refine bc hT rfl ?_;generalize pad (row (1:Fp p))=P1 at *;generalize row (1:Fp p)=R1 at *;simp -implicitDefEqProofs [Ze,Ze_B,af,e1,e2,e3,e4]
theorem So {p:Int} [IsP p]:row (1:Fp p)=[1]:=by
 have h:Can p [1]:=fun x hx=>by
  have:=IsP.ge (p:=p);simp at hx;omega
 have e:(1:Fp p)=dl p [1]:=Pol.ext fun i=>by
  rw [fc,←Pol.C_one,Pol.c_C];cases i with
  | zero=>rfl
  | succ i=>rfl
 rw [e];exact A6 h (.inr (by simp [cf]))
theorem Xh {O:ah} (hti:pz O) (hfi:Bx O) {p:Int} [IsP p] {q:Fp p} {e:Nat} (hq:q.len≤64) (he:e≤64) (hlen:∀i,i≤e→(pw q i).len≤64) {z:List Int} {hh:List Blk} (hhh:hh=[.hole,.box false (D.arr 64 .leaf (ak .u8 z)),.hole,.hole,.hole]):∀(r i:Nat),i+r=e →
 dn O 0 (.loop Zf_L0) ⟨[(0,(.d (.int .i64 p))),(6,.ptr 1 []),(9,(.d (.sl .leaf (ak .i64 (row q))))),(10,(.d (.sl .leaf (ak .i64 (row (pw q i)))))),(48,(.d (.int .i64 e))),(49,(.d (.int .i64 i)))],hh⟩ =
  some (.exit 1,⟨[(0,(.d (.int .i64 p))),(6,.ptr 1 []),(9,(.d (.sl .leaf (ak .i64 (row q))))),(10,(.d (.sl .leaf (ak .i64 (row (pw q e)))))),(48,(.d (.int .i64 e))),(49,(.d (.int .i64 e))),(50,(.d (.bool false)))],hh⟩)
 | 0,i,hi=>by
  obtain rfl:i=e:=by omega
  subst hhh;exact bo (by simp -implicitDefEqProofs [Zf_L0,af])
 | r+1,i,hi=>by
  have hlt:i<e:=by omega
  have l1:=hlen i (by omega)
  have l2:=hlen (i+1) (by omega)
  have e1:=hti p (pw q i) q (by omega) (by omega)
  have hp:pw q i*q=pw q (i+1):=rfl;rw [hp] at e1;have e2:=hfi (row (pw q (i+1))) (by rw [bg]; omega)
  rw [bg,decide_eq_true l2] at e2;have w4:IntKind.i64.wrap ((i:Int)+1)=((i+1:Nat):Int):=(w64 (x:=(i:Int)+1) (by omega)).trans (by omega)
  refine bb ?_ (Xh hti hfi hq he hlen hhh r (i+1) (by omega))
  subst hhh;generalize row (pw q (i+1))=R1 at *;generalize row (pw q i)=R0 at *;generalize row q=Rq at *;simp -implicitDefEqProofs [Zf_L0,af,hlt,e1,e2,w4]
def sd (O:ah):Prop:=∀(p:Int) [IsP p] (q:Fp p) (e:Nat),2≤q.len→q.len≤64→1≤e→e≤63→(∀i,i≤e→(pw q i).len≤64)→ask O Ff [(D.int .i64 p),(D.arr 64 .leaf (ak .u8 (pad (row q)))),(D.int .i64 e)]=some (.tup [(D.arr 64 .leaf (ak .u8 (pad (row (pw q e))))),(D.int .i64 0)])
theorem Q5 (hT:T Ff=some Zf) (hpc:n7 (den T A)) (hro:pv (den T A)) (hnm:ti (den T A)) (hdg:kq (den T A)) (hti:pz (den T A)) (hfi:Bx (den T A)) (hto:Bm (den T A)):sd (den T A):=by
 intro p ip q e h2 hq he1 he hlen;have e1:=hpc p [pad (row q)] (fun x hx=>by simp at hx; subst hx; exact ⟨bq _,ot q⟩) (by simp)
 rw [zc,show [pad (row q)].map nw=[(D.arr 64 .leaf (ak .u8 (pad (row q))))] from rfl] at e1;have e2:=hro p q hq;have e3:=hnm (e:Int);rw [decide_eq_true (by omega)] at e3
 have e4:=hdg (row q) (by rw [bg]; omega)
 rw [bg] at e4;have c1:(0:Int)<(q.len:Int)-1:=by omega
 have c2:¬ (63:Int)<(e:Int):=by omega
 have c3:¬ (q.len:Int)-1≤0:=by omega
 -- the first round
 have a1:=hti p 1 q (by rw [Pol.len_one]; omega) (by omega)
 rw [Gq.one_mul,So] at a1;have hp1:pw q 1=q:=tw q;have l1:=hlen 1 (by omega)
 rw [hp1] at l1;have a2:=hfi (row q) (by rw [bg]; omega)
 rw [bg,decide_eq_true l1] at a2;have e5:=Xh (O:=den T A) hti hfi hq (e:=e) (by omega) hlen (z:=pad []) rfl (e-1) 1 (by omega)
 rw [hp1] at e5;have hlt:0<e:=by omega
 have o1:ak .i64 [1]=[D.int .i64 1]:=rfl;have w1:IntKind.i64.wrap 1=1:=w64 (by omega)
 have z1:((1:Nat):Int)=1:=rfl;rw [z1] at e5;rw [o1] at a1
 have e6:dn (den T A) 0 (.loop Zf_L0) ⟨[(0,(.d (.int .i64 p))),(6,.ptr 1 []),(9,(.d (.sl .leaf (ak .i64 (row q))))),(10,.sl 4 [] 0 1 (some 1)),(48,(.d (.int .i64 e))),(49,(.d (.int .i64 0)))],[.hole,.box false (D.arr 64 .leaf (ak .u8 (pad []))),.hole,.hole,.sl false .leaf [.int .i64 1]]⟩ =
  some (.exit 1,⟨[(0,(.d (.int .i64 p))),(6,.ptr 1 []),(9,(.d (.sl .leaf (ak .i64 (row q))))),(10,(.d (.sl .leaf (ak .i64 (row (pw q e)))))),(48,(.d (.int .i64 e))),(49,(.d (.int .i64 e))),(50,(.d (.bool false)))],[.hole,.box false (D.arr 64 .leaf (ak .u8 (pad []))),.hole,.hole,.hole]⟩):=by
  refine bb ?_ e5;generalize row q=Rq at *;simp -implicitDefEqProofs [Zf_L0,af,hlt,a1,a2,w1]
 have le:=hlen e (az _);have e7:=hto (row (pw q e)) (vk _) (by rw [bg]; omega)
 unfold Ik at e7;rw [bg,if_pos le] at e7;refine bc hT rfl ?_;generalize pad (row (pw q e))=Pe at *;generalize row (pw q e)=Re at *;generalize pad (row q)=Pq at *;generalize row q=Rq at *;generalize (q.len:Int)-1=dg at *;simp -implicitDefEqProofs [Zf,Zf_B,af,e1,e2,e3,e4,c1,c2,c3,e6,e7,List.replicate]
def pm (O:ah):Prop:=∀code:List Int,ft code→code.length≤4096→∃(p:Int) (m:List Int),ask O F2k [.sl .leaf (ak .u8 code)]=some (.tup [(D.int .i64 p),(D.arr 64 .leaf (ak .u8 m))])∧0≤p∧p<256∧Arr m
theorem Ao (hT:T F2k=some Z2k) (h:ye (den T A)):pm (den T A):=by
 intro code hb hc;obtain ⟨p,m,e,p0,p1,hm⟩:=h code hb hc;refine ⟨p,m,bc hT rfl ?_,p0,p1,hm⟩;simp -implicitDefEqProofs [Z2k,Z2k_B,e]
def kn (O:ah):Prop:=∀code:List Int,ft code→code.length≤4096→∃(p:Int) (n:Nat),ask O F2l [.sl .leaf (ak .u8 code)]=some (.tup [(D.int .i64 p),(D.int .i64 n)])∧n≤5
theorem ug (hT:T F2l=some Z2l) (hf:A0 (den T A)) (hp:uq (den T A)) (hn:om (den T A) F3b):kn (den T A):=by
 intro code hbc hc;obtain ⟨b,e1,hs⟩:=hf code hbc hc;obtain ⟨p,b1,e2,hs1,hx⟩:=hp b [2,3,5,7,4] 5 (some 5) hs rfl (by omega) (by omega)
 rw [show ak .i64 [2,3,5,7,4]=[.int .i64 2,.int .i64 3,.int .i64 5,.int .i64 7,.int .i64 4] from rfl] at e2;obtain ⟨x,b2,e3,hs2,h0,h1⟩:=hn b1 6 hs1 (by omega)
 obtain ⟨n,rfl⟩:∃n:Nat,x=n:=⟨x.toNat,by omega⟩
 refine ⟨p,n,bc hT rfl ?_,by omega⟩
 obtain ⟨_,_,_,rfl,_⟩:=hs;obtain ⟨_,_,_,rfl,_⟩:=hs1;obtain ⟨_,_,_,rfl,_⟩:=hs2;simp -implicitDefEqProofs [Z2l,Z2l_B,e1,e2,e3,List.replicate,List.idxOf,List.findIdx,List.findIdx.go]
def ri (O:ah):Prop:=∀code:List Int,ft code→code.length≤4096→∃p n:Int,ask O F2j [.sl .leaf (ak .u8 code)]=some (.tup [(D.int .i64 p),(D.int .i64 n)])
theorem Cl (hT:T F2j=some Z2j) (hf:A0 (den T A)) (hp:uq (den T A)) (hnr:Ma (den T A)):ri (den T A):=by
 intro code hbc hc;obtain ⟨b,e1,hs⟩:=hf code hbc hc;obtain ⟨p,b1,e2,hs1,hx⟩:=hp b [2,3,5,7,4] 5 (some 5) hs rfl (by omega) (by omega)
 rw [show ak .i64 [2,3,5,7,4]=[.int .i64 2,.int .i64 3,.int .i64 5,.int .i64 7,.int .i64 4] from rfl] at e2;obtain ⟨n,b2,e3,hs2⟩:=hnr b1 20 hs1 (by omega) (by omega)
 refine ⟨p,n,bc hT rfl ?_⟩;obtain ⟨_,_,_,rfl,_⟩:=hs;obtain ⟨_,_,_,rfl,_⟩:=hs1;obtain ⟨_,_,_,rfl,_⟩:=hs2;simp -implicitDefEqProofs [Z2j,Z2j_B,e1,e2,e3,List.replicate,List.idxOf,List.findIdx,List.findIdx.go]
def uy (O:ah):Prop:=∀code:List Int,ft code→code.length≤4096→∃(p:Int) (m:List Int),ask O F2m [.sl .leaf (ak .u8 code)]=some (.tup [(D.int .i64 p),(D.arr 64 .leaf (ak .u8 m))])∧Arr m
theorem Iw (hT:T F2m=some Z2m) (hf:A0 (den T A)) (hn:om (den T A) F3b) (hpr:rr (den T A)) (hm:sw (den T A)) (hsp:ye (den T A)):uy (den T A):=by
 intro code hbc hc;obtain ⟨b,e1,hs⟩:=hf code hbc hc;obtain ⟨x,b1,e2,hs1,-,-⟩:=hn b 2 hs (by omega)
 by_cases h0:x=0
 ·subst h0
  obtain ⟨p,b2,e3,hs2,ip⟩:=hpr b1 hs1;obtain ⟨a,b3,e4,hs3,-,-,-⟩:=hm p b2 8 hs2 (by omega) (by omega)
  refine ⟨p,pad (row a),bc hT rfl ?_,H7 a⟩;obtain ⟨_,_,_,rfl,_⟩:=hs;obtain ⟨_,_,_,rfl,_⟩:=hs1;obtain ⟨_,_,_,rfl,_⟩:=hs2;obtain ⟨_,_,_,rfl,_⟩:=hs3;generalize pad (row a)=Pa at *;simp -implicitDefEqProofs [Z2m,Z2m_B,af,e1,e2,e3,e4,List.replicate,List.idxOf,List.findIdx,List.findIdx.go]
 ·obtain ⟨p,m,e3,p0,p1,hm⟩:=hsp code hbc hc
  refine ⟨p,m,bc hT rfl ?_,hm⟩;obtain ⟨_,_,_,rfl,_⟩:=hs;obtain ⟨_,_,_,rfl,_⟩:=hs1;simp -implicitDefEqProofs [Z2m,Z2m_B,af,e1,e2,e3,h0,List.replicate,List.idxOf,List.findIdx,List.findIdx.go]
end Pe

namespace Pe
open Go Gq
theorem py {p:Int}:∀(L K:ej p),dgF (L++K)=dgF L+dgF K
 | [],K=>by simp [dgF]
 | x::L,K=>by
  show x.2*(x.1.len-1)+dgF (L++K)=x.2*(x.1.len-1)+dgF L+dgF K;rw [py L K]; omega
theorem Nt {p:Int} {d:Nat}:∀(L:List (Fp p)),(∀q∈L,q.len=d+1)→dgF (L.map fun q=>(q,1))=d*L.length
 | [],_=>rfl
 | q::L,h=>by
  show 1*(q.len-1)+dgF (L.map fun q=>(q,1))=d*(L.length+1)
  rw [Nt L fun r hr=>h r (by simp [hr]),h q (by simp),Nat.mul_succ]; omega
section
variable {p:Int} [IsP p]
theorem De {R:Type} [CR R] {x:R} {P d:Nat} (h:pw x (P^d)=x):∀k,pw x (P^(d*k))=x
 | 0=>by rw [Nat.mul_zero,qb,tw]
 | k+1=>by rw [Nat.mul_succ,Nat.pow_add,←tu,De h k,h]
theorem Vp {q:Fp p} (hi:Irr q) {d n:Nat} (hq:q.len=d+1) (hd:p^d<1000000000000) (h:Dv q (frT p n)):n%d=0:=by
 have hd0:0<d:=by have:=hi.len; omega
 apply ck;intro hr;have h1:=tj.1 (Ay hi hq hd);have h2:=tj.1 h;have h3:=De h1 (n/d);have e:p.toNat^n=p.toNat^(d*(n/d))*p.toNat^(n%d):=by rw [←Nat.pow_add,Nat.div_add_mod]
 rw [e,←tu,h3] at h2;have:=x8 hi hq hd (k:=n%d) (by omega) (tj.2 h2)
 have:=Nat.mod_lt n hd0;omega
theorem Wz {q:Fp p} (hi:Irr q) {d n:Nat} (hq:q.len=d+1) (hd:p^d<1000000000000) (h:n%d=0):Dv q (frT p n):=by
 have h1:=tj.1 (Ay hi hq hd);have h3:=De h1 (n/d);have e:d*(n/d)=n:=by have:=Nat.div_add_mod n d; omega
 rw [e] at h3;exact tj.2 h3
theorem Tw {q:Fp p} (hi:Irr q) {d k:Nat} (hq:d+1≤q.len) (hd:p^d<1000000000000) (hk:0<k) (h:Dv q (frT p k)):d≤k:=by
 classical
 have hfix:=Cv k (tj.1 h);have hone:(1:Quo q)≠0:=(Us hi).one_ne;have hP:2≤p.toNat:=by have:=IsP.ge (p:=p); omega
 have hne1:1<p.toNat^k:=Nat.one_lt_pow (by omega) hP
 have hnd:((List.range (p.toNat^d)).map fun (n:Nat)=>Quo.mk q (du p n)).Nodup:=by
  unfold List.Nodup;rw [iz];refine List.Pairwise.imp_of_mem ?_ (List.pairwise_lt_range (n:=p.toNat^d));intro a b ha hb hab e;rw [ef] at ha hb;have hc:=jo (p:=p) d;have h1:ut (a:Int):=⟨by omega,by omega⟩
  have h2:ut (b:Int):=⟨by omega,by omega⟩
  have hq0:q≠0:=fun h0=>by rw [h0,Pol.len_zero] at hq; omega
  have l1:=Pol.len_le (vm (p:=p) h1 (d:=d) (by omega))
  have l2:=Pol.len_le (vm (p:=p) h2 (d:=d) (by omega))
  rw [←Pol.mod_eq_iff hq0,Pol.mod_small (by omega),Pol.mod_small (by omega)] at e
  have:=yj h1 h2 e;omega
 have r:=Bv (fun x y e=>hi.quo_zero e) (p.toNat^k) (fun i=>(if i=p.toNat^k then (1:Quo q) else 0)-(if i=1 then 1 else 0)) ((List.range (p.toNat^d)).map fun (n:Nat)=>Quo.mk q (du p n))
  (by rw [if_pos rfl,if_neg (by omega),Gq.sub_eq,Gq.neg_zero,Gq.add_zero]; exact hone)
  hnd
  (fun y _=>by
   have e:(fun i=>((if i=p.toNat^k then (1:Quo q) else 0)-(if i=1 then 1 else 0))*pw y i)=fun i=>(if i=p.toNat^k then (1:Quo q) else 0)*pw y i+(if i=1 then 1 else 0) * -pw y i:=by
    funext i
    exact c6 [(if i=p.toNat^k then (1:Quo q) else 0),(if i=1 then (1:Quo q) else 0),pw y i] rfl
   rw [e,xz,v4,v4 _ (fun i=>-pw y i),if_pos (by omega),if_pos (by omega),hfix,tw,Gq.add_neg])
 rw [c7,kj] at r;exact (Nat.pow_le_pow_iff_right (by omega)).1 r
theorem Ud {q:Fp p} (hi:Irr q) {n:Nat} (hn:1≤n):¬ Dv (q*q) (frT p n):=fun h=>by
 have hfix:=Cv n (tj.1 h) (Quo.mk (q*q) q);have hP:2≤p.toNat:=by have:=IsP.ge (p:=p); omega
 have hN:2≤p.toNat^n:=by
  have:=Nat.pow_le_pow_right (show 0<p.toNat by omega) hn
  rw [Nat.pow_one] at this;omega
 obtain ⟨m,hm⟩:∃m,p.toNat^n=1+1+m:=⟨p.toNat^n-2,by omega⟩
 rw [hm,uf,uf,tw,←Quo.mk_mul,lm.1 (Dv.refl (q*q)),Gq.zero_mul] at hfix;have hd:=lm.2 hfix.symm;have h1:=hd.len hi.ne;have h2:=Pol.len_mul hi.ne hi.ne;have h3:=hi.len;omega
theorem W5 {n:Nat} (hn:1≤n):(frT p n).len=p.toNat^n+1:=by
 have hP:2≤p.toNat:=by have:=IsP.ge (p:=p); omega
 have hN:2≤p.toNat^n:=by
  have:=Nat.pow_le_pow_right (show 0<p.toNat by omega) hn
  rw [Nat.pow_one] at this;omega
 have hX:Monic (Pol.X:Fp p):=⟨by rw [Pol.ld,Pol.len_X]; rfl,Pol.X_ne⟩
 have hl:=Ha hX (p.toNat^n);rw [Pol.len_X,show 2-1=1 from rfl,Nat.mul_one] at hl;have hm:=(Monic.pw hX (p.toNat^n)).1;unfold Pol.ld at hm;rw [hl,Nat.add_sub_cancel] at hm;refine Pol.len_eq (fun i hi=>?_) ?_
 ·unfold frT
  rw [Pol.c_sub,Pol.lt_len _ i (by omega),Pol.c_X,if_neg (by omega),Gq.sub_eq,Gq.neg_zero,Gq.add_zero]
 ·unfold frT
  rw [Pol.c_sub,hm,Pol.c_X,if_neg (by omega),Gq.sub_eq,Gq.neg_zero,Gq.add_zero]
  exact Fd.one_ne
theorem B7 {d:Nat} (hd:d≤12) {q:Fp p}:q∈irL p d↔Irr q∧Monic q∧q.len=d+1:=by
 classical
 have hN:=jo (p:=p) d;refine ⟨fun h=>?_,fun ⟨h1,h2,h3⟩=>?_⟩
 ·obtain ⟨g1,g2⟩:=List.mem_filter.1 (show q∈(sa p d).filter irB from h)
  have g3:Monic q∧Irr q:=of_decide_eq_true g2;exact ⟨g3.2,g3.1,(Bs hd g1).2⟩
 ·refine List.mem_filter.2 ⟨cb.2 ⟨(dm q-p^d).toNat,?_,?_⟩,decide_eq_true ⟨h2,h1⟩⟩
  ·have:=kz hd h2 h3
   exact ef.2 (by omega)
  ·have:=kz hd h2 h3
   have e:p^d+((dm q-p^d).toNat:Int)=dm q:=by omega
   rw [e];exact uj hd h2 h3
theorem P5 {d:Nat} (hd:d≤12):(irL p d).Pairwise fun a b=>a≠b:=by
 have hN:=jo (p:=p) d;have hb:=mj (p:=p) hd;refine List.Pairwise.filter _ ?_;unfold sa;rw [iz];refine List.Pairwise.imp_of_mem ?_ (List.pairwise_lt_range (n:=p.toNat^d));intro a b ha hb2 hab h;have h1:=ef.1 ha;have h2:=ef.1 hb2;have:=yj (p:=p) ⟨by omega,by omega⟩ ⟨by omega,by omega⟩ h
 omega
noncomputable def gL (p:Int) [IsP p] (n:Nat):Nat→ej p
 | 0=>[]
 | d+1=>gL p n d++if n%(d+1)=0 then (irL p (d+1)).map fun q=>(q,1) else []
theorem Ca {n:Nat}:∀(m:Nat),m≤12→∀x:Fp p×Nat,x∈gL p n m↔x.2=1∧Irr x.1∧Monic x.1∧x.1.len-1≤m∧n%(x.1.len-1)=0
 | 0,_,x=>by
  refine ⟨fun h=>(by cases h),fun ⟨_,h1,_,h2,_⟩=>?_⟩
  have:=h1.len;omega
 | m+1,hm,x=>by
  unfold gL;rw [ba,Ca m (by omega) x]
  refine ⟨fun h=>?_,fun ⟨h1,h2,h3,h4,h5⟩=>?_⟩
  ·rcases h with ⟨h1,h2,h3,h4,h5⟩ | h
   ·exact ⟨h1,h2,h3,by omega,h5⟩
   ·split at h
    ·rename_i hn
     obtain ⟨q,hq,rfl⟩:=cb.1 h;obtain ⟨g1,g2,g3⟩:=(B7 (by omega)).1 hq
     refine ⟨rfl,g1,g2,by simp only; omega,?_⟩
     simp only [g3,Nat.add_sub_cancel];exact hn
    ·cases h
  ·by_cases hl:x.1.len-1≤m
   ·exact .inl ⟨h1,h2,h3,hl,h5⟩
   ·right
    have h6:x.1.len-1=m+1:=by omega
    rw [h6] at h5;rw [if_pos h5];refine cb.2 ⟨x.1,(B7 (by omega)).2 ⟨h2,h3,by omega⟩,?_⟩
    rw [←h1]
theorem a2v {n m:Nat} (hm:m≤12):FacOk (gL p n m):=by
 refine ⟨fun x hx=>?_,?_⟩
 ·obtain ⟨h1,h2,h3,_⟩:=(Ca m hm x).1 hx
  exact ⟨h2,h3,by omega⟩
 ·induction m with
  | zero=>exact List.Pairwise.nil
  | succ m ih=>
   unfold gL;rw [f0];refine ⟨ih (by omega),?_,fun x hx y hy=>?_⟩
   ·split
    ·rw [iz]
     exact (P5 (by omega)).imp fun h=>h
    ·exact List.Pairwise.nil
   ·split at hy
    ·obtain ⟨q,hq,rfl⟩:=cb.1 hy
     obtain ⟨g1,g2,g3⟩:=(B7 (by omega)).1 hq
     obtain ⟨_,_,_,h4,_⟩:=(Ca m (by omega) x).1 hx
     intro e;simp only at e;rw [e] at h4;omega
    ·cases hy
theorem El {n:Nat} (h1:1≤n) (hn':n≤11):p.toNat^n=dgF (gL p n n):=by
 have hn:n≤12:=by omega
 have hok:=a2v (p:=p) (n:=n) hn;have hpow:∀d,d≤12→p^d<1000000000000:=fun d hd=>Q7 hd
 obtain ⟨h,hf⟩:Dv (dz (gL p n n)) (frT p n):=Nr hok fun x hx=>by
  obtain ⟨g1,g2,g3,g4,g5⟩:=(Ca n hn x).1 hx;rw [g1,tw];have:=g2.len;exact Wz g2 (d:=x.1.len-1) (by omega) (hpow _ (by omega)) g5
 have hfl:=W5 (p:=p) h1;have hf0:frT p n≠0:=fun e=>by rw [e,Pol.len_zero] at hfl; omega
 have hg0:dz (gL p n n)≠0:=(rt hok).2;have hh0:h≠0:=fun e=>hf0 (by rw [hf,e,Gq.mul_zero])
 have hl:=Pol.len_mul hg0 hh0;rw [←hf,hfl,wb hok] at hl;have hhp:=Pol.len_pos hh0
 by_cases h2:2≤h.len
 ·exfalso
  obtain ⟨q,q1,q2,q3⟩:=xv h.len h (az _) h2;have q4:Dv q (frT p n):=q3.trans ⟨dz (gL p n n),by rw [hf,Gq.mul_comm]⟩
  have q5:=q1.len
  -- a bound of the degree
  by_cases hb:q.len-1≤12
  ·have q6:=Vp q1 (d:=q.len-1) (by omega) (hpow _ hb) q4
   have q7:q.len-1≤n:=mi (by omega) (Nat.dvd_of_mod_eq_zero q6)
   have q8:((q,1):Fp p×Nat)∈gL p n n:=(Ca n hn _).2 ⟨rfl,q1,q2,q7,q6⟩;obtain ⟨r,hr,-⟩:=qi hok q8;obtain ⟨s,hs⟩:=q3;refine Ud q1 h1 ⟨r*s,?_⟩;rw [hf,hr,hs,tw];exact c6 [q,r,s] rfl
  ·have:=Tw q1 (d:=12) (k:=n) (by omega) (hpow 12 (az _)) h1 q4
   omega
 ·omega
theorem a0g {n:Nat} (h1:1≤n) (h5:n≤5):(io p n n).tdiv n=((irL p n).length:Int):=by
 have key:∀d,d≤12→dgF ((irL p d).map fun q=>(q,1))=d*(irL p d).length:=fun d hd=>Nt _ fun q hq=>((B7 hd).1 hq).2.2
 have a1:=El (p:=p) (n:=1) (by omega) (by omega)
 have e1:gL p 1 1=(irL p 1).map fun q=>(q,1):=rfl
 rw [e1,key 1 (by omega),Nat.pow_one] at a1
 have hp:((p.toNat:Nat):Int)=p:=by have:=IsP.pos (p:=p); omega
 have:n=1∨n=2∨n=3∨n=4∨n=5:=by omega
 rcases this with rfl | rfl | rfl | rfl | rfl
 ·have hc:io p 1 1=0+1*p^1:=rfl
  rw [hc,cu,fa,g8,Int.zero_add,g8];rw [show ((1:Nat):Int)=1 from rfl,Int.tdiv_one];omega
 ·have a2:=El (p:=p) (n:=2) (by omega) (by omega)
  have e2:gL p 2 2=((irL p 1).map fun q=>(q,1))++(irL p 2).map fun q=>(q,1):=rfl
  rw [e2,py,key 1 (by omega),key 2 (by omega)] at a2
  have hc:io p 2 2=0+1*p^2 + -1*p^1:=rfl;have hN:=jo (p:=p) 2;have:io p 2 2=2*((irL p 2).length:Int):=by rw [hc,cu p 0,fa,g8]; omega
  rw [this];exact Int.mul_tdiv_cancel_left _ (by omega)
 ·have a2:=El (p:=p) (n:=3) (by omega) (by omega)
  have e2:gL p 3 3=((irL p 1).map fun q=>(q,1))++[]++(irL p 3).map fun q=>(q,1):=rfl
  rw [e2,dp,py,key 1 (by omega),key 3 (by omega)] at a2
  have hc:io p 3 3=0+1*p^3+0 + -1*p^1:=rfl;have hN:=jo (p:=p) 3;have:io p 3 3=3*((irL p 3).length:Int):=by rw [hc,cu p 0,fa,g8]; omega
  rw [this];exact Int.mul_tdiv_cancel_left _ (by omega)
 ·have a2:=El (p:=p) (n:=2) (by omega) (by omega)
  have e2:gL p 2 2=((irL p 1).map fun q=>(q,1))++(irL p 2).map fun q=>(q,1):=rfl
  rw [e2,py,key 1 (by omega),key 2 (by omega)] at a2
  have a4:=El (p:=p) (n:=4) (by omega) (by omega)
  have e4:gL p 4 4=((irL p 1).map fun q=>(q,1))++((irL p 2).map fun q=>(q,1))++[]++(irL p 4).map fun q=>(q,1):=rfl
  rw [e4,dp,py,py,key 1 (by omega),key 2 (by omega),key 4 (by omega)] at a4
  have hc:io p 4 4=0+1*p^4 + -1*p^2+0+0*p^1:=rfl;have hN:=jo (p:=p) 2;have hN4:=jo (p:=p) 4;have:io p 4 4=4*((irL p 4).length:Int):=by rw [hc,Int.zero_mul]; omega
  rw [this];exact Int.mul_tdiv_cancel_left _ (by omega)
 ·have a2:=El (p:=p) (n:=5) (by omega) (by omega)
  have e2:gL p 5 5=((irL p 1).map fun q=>(q,1))++[]++[]++[]++(irL p 5).map fun q=>(q,1):=rfl
  rw [e2,dp,dp,dp,py,key 1 (by omega),key 5 (by omega)] at a2
  have hc:io p 5 5=0+1*p^5+0+0+0 + -1*p^1:=rfl;have hN:=jo (p:=p) 5;have:io p 5 5=5*((irL p 5).length:Int):=by rw [hc,cu p 0,fa,g8]; omega
  rw [this];exact Int.mul_tdiv_cancel_left _ (by omega)
end
end Pe

namespace Pe
open Go Gq
variable {T:Nat→Option Fn} {A:ah}
def Ja:Nat→Cd→Cd→Cd
 | 0,_,t=>t
 | n+1,.seq a b,t=>.seq a (Ja n b t)
 | _+1,c,_=>c
def qv:Nat→Cd→Cd
 | 0,c=>c
 | n+1,.seq _ b=>qv n b
 | _+1,c=>c
theorem M5 (c t:Cd):Ja 0 c t=t:=rfl
theorem Lt (n:Nat) (a b t:Cd):Ja (n+1) (.seq a b) t=.seq a (Ja n b t):=rfl
end Pe

namespace Pe
open Go Gq
variable {T:Nat→Option Fn} {A:ah}
theorem Uh {O:ah} {ls:List (List Int)} (h:∀l∈ls,l.length=64) (hl:ls.length<2000000):∀(k i:Nat),i+k=ls.length →
 dn O 0 (.loop Z1r_L0) ⟨[(0,.d (.sl (.arr 64 .leaf) (ls.map nw))),(1,.d (.sl (.arr 64 .leaf) (ls.map nw))),(5,(.d (.int .i64 i)))],[]⟩ =
  some (.exit 0,⟨[(0,.d (.sl (.arr 64 .leaf) (ls.map nw))),(1,.d (.sl (.arr 64 .leaf) (ls.map nw))),(5,(.d (.int .i64 ls.length))),(14,(.d (.bool false)))],[]⟩)
 | 0,i,hi=>by
  obtain rfl:i=ls.length:=by omega
  have hL:(ls.map nw).length=ls.length:=c7 ..;refine bo ?_;generalize ls.map nw=LD at *;simp -implicitDefEqProofs [Z1r_L0,af,hL]
 | k+1,i,hi=>by
  have hlt:i<ls.length:=by omega
  have hx:=h _ (ce hlt);have e1:D.beq (.arr 64 .leaf .int) (D.arr 64 .leaf (ak .u8 (ls[i]))) (D.arr 64 .leaf (ak .u8 (ls[i])))=some true:=by rw [Ns hx hx,decide_eq_true rfl]
  have hL:(ls.map nw).length=ls.length:=c7 ..;have hx2:∀h:i<(ls.map nw).length,(ls.map nw)[i]'h=(D.arr 64 .leaf (ak .u8 (ls[i]))):=fun h=>by rw [m7]
  have w4:IntKind.i64.wrap ((i:Int)+1)=((i+1:Nat):Int):=(w64 (x:=(i:Int)+1) (by omega)).trans (by omega)
  refine bb ?_ (Uh h hl k (i+1) (by omega))
  generalize ls[i]=li at *;generalize ls.map nw=LD at *;simp -implicitDefEqProofs [Z1r_L0,af,hlt,hL,hx2,e1,w4]
def M8 (O:ah):Prop:=∀ls:List (List Int),(∀l∈ls,l.length=64)→ls.length<2000000→ask O F1r [.sl (.arr 64 .leaf) (ls.map nw),.sl (.arr 64 .leaf) (ls.map nw)]=some (D.bool true)
theorem a02 (hT:T F1r=some Z1r):M8 (den T A):=by
 intro ls h hl;have e:=Uh (O:=den T A) h hl ls.length 0 (bf _);rw [show ((0:Nat):Int)=0 from rfl] at e;refine bc hT rfl ?_;generalize ls.map nw=LD at *;simp -implicitDefEqProofs [Z1r,Z1r_B,af,e]
theorem a74:Z1o_B=Ja 16 Z1o_B (qv 16 Z1o_B):=by
 rw [Z1o_B]; rfl
theorem a2f:qv 16 Z1o_B=Ja 1 (qv 16 Z1o_B) (qv 17 Z1o_B):=by
 rw [Z1o_B]; rfl
theorem a68 {O:ah} (t:Cd) {code a m:List Int} {p one mb two q n three r k cnt four s five:Int} {yes:Bool} {FL PL:List D}
 (e0:ask O F1p [.sl .leaf (ak .u8 code)]=some (D.bool false))
 (d1:ask O F2k [.sl .leaf (ak .u8 code)]=some (.tup [(D.int .i64 p),(D.arr 64 .leaf (ak .u8 a))]))
 (a1:ask O F7 [(D.int .i64 p),(D.arr 64 .leaf (ak .u8 a))]=some (.tup [.sl dc FL,(D.int .i64 one)])) (a2:ask O F2n [(D.int .i64 p),(D.arr 64 .leaf (ak .u8 a))]=some (.tup [.sl dc FL,(D.int .i64 one)]))
 (q1:ask O F1q [.sl dc FL,.sl dc FL]=some (D.bool true))
 (b1:ask O Fb [(D.int .i64 p),(D.arr 64 .leaf (ak .u8 a))]=some (.tup [(D.int .i64 mb),(D.int .i64 two)])) (b2:ask O F2q [(D.int .i64 p),(D.arr 64 .leaf (ak .u8 a))]=some (.tup [(D.int .i64 mb),(D.int .i64 two)]))
 (d2:ask O F2l [.sl .leaf (ak .u8 code)]=some (.tup [(D.int .i64 q),(D.int .i64 n)]))
 (c1:ask O F8 [(D.int .i64 q),(D.int .i64 n)]=some (.tup [.sl (.arr 64 .leaf) PL,(D.int .i64 three)])) (c2:ask O F2o [(D.int .i64 q),(D.int .i64 n)]=some (.tup [.sl (.arr 64 .leaf) PL,(D.int .i64 three)]))
 (q2:ask O F1r [.sl (.arr 64 .leaf) PL,.sl (.arr 64 .leaf) PL]=some (D.bool true))
 (d3:ask O F2j [.sl .leaf (ak .u8 code)]=some (.tup [(D.int .i64 r),(D.int .i64 k)]))
 (f1:ask O F5 [(D.int .i64 r),(D.int .i64 k)]=some (.tup [(D.int .i64 cnt),(D.int .i64 four)])) (f2:ask O F2i [(D.int .i64 r),(D.int .i64 k)]=some (.tup [(D.int .i64 cnt),(D.int .i64 four)]))
 (d4:ask O F2m [.sl .leaf (ak .u8 code)]=some (.tup [(D.int .i64 s),(D.arr 64 .leaf (ak .u8 m))]))
 (g1:ask O Fa [(D.int .i64 s),(D.arr 64 .leaf (ak .u8 m))]=some (.tup [(D.bool yes),(D.int .i64 five)])) (g2:ask O F2p [(D.int .i64 s),(D.arr 64 .leaf (ak .u8 m))]=some (.tup [(D.bool yes),(D.int .i64 five)])) :
 dn O 0 (Ja 16 Z1o_B t) ⟨[(0,.d (.sl .leaf (ak .u8 code)))],[.hole,.hole,.hole,.hole,.hole,.hole,.hole]⟩ =
  dn O 0 t ⟨[(3,(.d (.int .i64 p))),(4,.ptr 0 []),(5,.d (.sl dc FL)),(6,(.d (.int .i64 one))),(9,(.d (.int .i64 mb))),(13,(.d (.int .i64 q))),(14,(.d (.int .i64 n))),(15,.d (.sl (.arr 64 .leaf) PL)),(16,(.d (.int .i64 three))),(171,(.d (.bool false)))],[.box false (D.arr 64 .leaf (ak .u8 a)),.hole,.hole,.hole,.hole,.hole,.hole]⟩:=by
 have q3:D.beq .bool (D.bool yes) (D.bool yes)=some true:=by cases yes <;> rfl
 simp -implicitDefEqProofs [Z1o_B,M5,Lt,af,e0,d1,a1,a2,q1,b1,b2,d2,c1,c2,q2,d3,f1,f2,d4,g1,g2,q3]
theorem a6i {O:ah} (t:Cd) {a:List Int} {p one mb q n three:Int} {FL PL:List D}
 (h:three=0→ask O F5 [(D.int .i64 q),(D.int .i64 n)]=some (.tup [(D.int .i64 PL.length),(D.int .i64 0)])) :
 ∃x:Env,dn O 0 (Ja 1 (qv 16 Z1o_B) t) ⟨[(3,(.d (.int .i64 p))),(4,.ptr 0 []),(5,.d (.sl dc FL)),(6,(.d (.int .i64 one))),(9,(.d (.int .i64 mb))),(13,(.d (.int .i64 q))),(14,(.d (.int .i64 n))),(15,.d (.sl (.arr 64 .leaf) PL)),(16,(.d (.int .i64 three))),(171,(.d (.bool false)))],[.box false (D.arr 64 .leaf (ak .u8 a)),.hole,.hole,.hole,.hole,.hole,.hole]⟩ =
  dn O 0 t ⟨(3,(.d (.int .i64 p)))::(4,.ptr 0 [])::(5,.d (.sl dc FL))::(6,(.d (.int .i64 one)))::(9,(.d (.int .i64 mb)))::x,[.box false (D.arr 64 .leaf (ak .u8 a)),.hole,.hole,.hole,.hole,.hole,.hole]⟩:=by
 by_cases h3:three=0
 ·have e:=h h3
  refine ⟨[(187,(.d (.bool false)))],?_⟩;rw [Z1o_B];simp -implicitDefEqProofs [qv,M5,Lt,af,h3,e]
 ·refine ⟨[(13,(.d (.int .i64 q))),(14,(.d (.int .i64 n))),(15,.d (.sl (.arr 64 .leaf) PL)),(173,(.d (.bool false)))],?_⟩
  rw [Z1o_B];simp -implicitDefEqProofs [qv,M5,Lt,af,h3]
theorem a6g {O:ah} {a:List Int} {p one mb:Int} (h:one≠0) {x:Env} :
 ∃bs:List Blk,bs.length=7∧dn O 0 (qv 17 Z1o_B) ⟨(3,(.d (.int .i64 p)))::(4,.ptr 0 [])::(5,.d (.sl dc []))::(6,(.d (.int .i64 one)))::(9,(.d (.int .i64 mb)))::x,[.box false (D.arr 64 .leaf (ak .u8 a)),.hole,.hole,.hole,.hole,.hole,.hole]⟩=some (.ret,⟨[(2,(.d (.bool true)))],bs⟩):=by
 refine ⟨[.hole,.hole,.hole,.hole,.hole,.hole,.hole],rfl,?_⟩;rw [Z1o_B];simp -implicitDefEqProofs [qv,af,h]
def sgL {p:Int}:ej p→Int→Int
 | [],s=>s
 | x::L,s=>sgL L (-(if 1<x.2 then 0 else s))
theorem Jm {p:Int}:∀L:ej p,sgL L 0=0
 | []=>rfl
 | x::L=>by
  show sgL L (-(if 1<x.2 then 0 else 0))=0
  rw [ite_self,Int.neg_zero];exact Jm L
theorem Nq {p:Int}:∀(L:ej p) (s:Int),sgL L s=mbL L s
 | [],_=>rfl
 | x::L,s=>by
  show sgL L (-(if 1<x.2 then 0 else s))=if 1<x.2 then 0 else mbL L (-s)
  by_cases h:1<x.2
  ·rw [if_pos h,if_pos h,Int.neg_zero]
   exact Jm L
  ·rw [if_neg h,if_neg h]
   exact Nq L (-s)
open Classical in
theorem W6 {p:Int} [IsP p] {a:Fp p} (h1:Monic a) (h2:Irr a):irB a=true:=decide_eq_true ⟨h1,h2⟩
theorem Yp {O:ah} (hii:p8 O Fa) (hpw:sd O) (hmu:jz O) {p:Int} [IsP p] {L:ej p} (hL:FacOk L) (hd:dgF L≤12) {a:List Int} {mb:Int} (hl:L.length<1000):∀(k i:Nat) (s:Int),i+k=L.length→-1≤s∧s≤1 →
 dn O 0 (.loop Z1o_L0) ⟨[(3,(.d (.int .i64 p))),(4,.ptr 0 []),(5,.d (.sl dc (L.map cz))),(9,(.d (.int .i64 mb))),(33,.ptr 2 []),(35,(.d (.int .i64 s))),(36,(.d (.int .i64 i)))],[.box false (D.arr 64 .leaf (ak .u8 a)),.hole,.box false (D.arr 64 .leaf (ak .u8 (pad (row (dz (L.take i)))))),.hole,.hole,.hole,.hole]⟩ =
  some (.exit 0,⟨[(3,(.d (.int .i64 p))),(4,.ptr 0 []),(5,.d (.sl dc (L.map cz))),(9,(.d (.int .i64 mb))),(33,.ptr 2 []),(35,(.d (.int .i64 (sgL (L.drop i) s)))),(36,(.d (.int .i64 L.length))),(203,(.d (.bool false)))],[.box false (D.arr 64 .leaf (ak .u8 a)),.hole,.box false (D.arr 64 .leaf (ak .u8 (pad (row (dz L))))),.hole,.hole,.hole,.hole]⟩)
 | 0,i,s,hi,hs=>by
  obtain rfl:i=L.length:=by omega
  rw [m6,ew];have z:sgL ([]:ej p) s=s:=rfl;rw [z];have hLl:(L.map cz).length=L.length:=c7 ..;refine bo ?_;generalize pad (row (dz L))=PL at *;generalize L.map cz=LD at *;generalize L.length=n at *;simp -implicitDefEqProofs [Z1o_L0,af,hLl]
 | k+1,i,s,hi,hs=>by
  have hlt:i<L.length:=by omega
  have hmem:=ce hlt;obtain ⟨q1,q2,q3⟩:=hL.irr _ hmem;have hsub:∀j,FacOk (L.take j):=fun j=>⟨fun x hx=>hL.irr x (List.mem_of_mem_take hx),hL.dis.sublist (List.take_sublist j L)⟩
  have hdj:∀j,dgF (L.take j)≤dgF L:=fun j=>by
   have e:L=L.take j++L.drop j:=(fe j L).symm;have:=py (L.take j) (L.drop j);rw [←e] at this;omega
  have ht:L.take (i+1)=L.take i++[L[i]]:=by rw [List.take_add_one,ao hlt,Option.toList_some]
  have hds:dgF (L.take (i+1))=dgF (L.take i)+(L[i].2*(L[i].1.len-1)+0):=by
   rw [ht,py]; rfl
  have h2:=q1.len;have hde:=hdj (i+1);have hge:L[i].1.len-1≤L[i].2*(L[i].1.len-1):=Nat.le_mul_of_pos_left _ q3;have hge2:L[i].2*1≤L[i].2*(L[i].1.len-1):=mf _ (by omega)
  have l1:=wb (hsub i);have l2:=wb (hsub (i+1))
  have dg0:dgC p (pad (row L[i].1)) (-1) 12=0:=by
   unfold dgC;rw [if_neg (by rw [zc]; simp),jj (by omega),if_pos (by omega)]
  have e1:=hii p (pad (row L[i].1)) (ot _) (bq _);rw [Bn dg0 (by omega),W6 q2 q1] at e1
  have hpl:∀j,j≤L[i].2→(pw L[i].1 j).len≤64:=fun j hj=>by
   rw [Ha q2];have:j*(L[i].1.len-1)≤L[i].2*(L[i].1.len-1):=ep _ hj;omega
  have e2:=hpw p L[i].1 L[i].2 h2 (by omega) q3 (by omega) hpl
  have e3:=hmu p (dz (L.take i)) (pw L[i].1 L[i].2) (by omega) (hpl _ (az _))
  have hprod:dz (L.take i)*pw L[i].1 L[i].2=dz (L.take (i+1)):=by rw [ht,rl]
  rw [hprod,if_pos (by omega)] at e3
  have hdL:L.drop i=L[i]::L.drop (i+1):=bv hlt;have hsg:sgL (L.drop i) s=sgL (L.drop (i+1)) (-(if 1<L[i].2 then 0 else s)):=by rw [hdL]; rfl
  rw [hsg];have w4:IntKind.i64.wrap ((i:Int)+1)=((i+1:Nat):Int):=(w64 (x:=(i:Int)+1) (by omega)).trans (by omega)
  have hLl:(L.map cz).length=L.length:=c7 ..;have hx:∀h:i<(L.map cz).length,(L.map cz)[i]'h=.st [.arr 64 .leaf,.leaf] [(D.arr 64 .leaf (ak .u8 (pad (row L[i].1)))),(D.int .i64 (L[i].2))]:=fun h=>by rw [m7]
  clear hdL hsg hdj hsub hds ht hprod hpl dg0 l1 l2 hde hge hge2
  by_cases h1:1<L[i].2
  ·rw [if_pos h1]
   have ih:=Yp (O:=O) hii hpw hmu hL hd (a:=a) (mb:=mb) hl k (i+1) (-0) (by omega) (by omega)
   refine bb ?_ ih;have h1':(1:Int)<(L[i].2:Int):=by omega
   have w0:IntKind.i64.wrap 0=0:=w64 (by omega)
   generalize pad (row (dz (L.take i)))=P0 at *;generalize pad (row (dz (L.take (i+1))))=P1 at *;generalize pad (row (pw L[i].1 L[i].2))=Pw at *;generalize pad (row L[i].1)=Pq at *;generalize (L[i].2:Int)=Eq at *;generalize L.map cz=LD at *;simp -implicitDefEqProofs [Z1o_L0,af,hlt,hLl,hx,e1,e2,e3,h1',w4,w0]
  ·rw [if_neg h1]
   have ih:=Yp (O:=O) hii hpw hmu hL hd (a:=a) (mb:=mb) hl k (i+1) (-s) (by omega) (by omega)
   refine bb ?_ ih;have h1':¬ (1:Int)<(L[i].2:Int):=by omega
   have w5:IntKind.i64.wrap (0-s)=-s:=(w64 (by omega)).trans (by omega)
   have w6:IntKind.i64.wrap (-s)=-s:=w64 (by omega)
   generalize pad (row (dz (L.take i)))=P0 at *;generalize pad (row (dz (L.take (i+1))))=P1 at *;generalize pad (row (pw L[i].1 L[i].2))=Pw at *;generalize pad (row L[i].1)=Pq at *;generalize (L[i].2:Int)=Eq at *;generalize L.map cz=LD at *;simp -implicitDefEqProofs [Z1o_L0,af,hlt,hLl,hx,e1,e2,e3,h1',w4,w6]
theorem Ru {p:Int} [IsP p] (c:Zp p):(pad []).set 0 (rep c)=pad (row (Pol.C c:Fp p)):=by
 have hl:(Pol.C c:Fp p).len≤64:=iq (Pol.len_le (Pol.lt_C c)) (by omega)
 have h0:pad []=List.replicate 64 0:=by decide +kernel
 apply m9
 ·rw [cg,bq,bq]
 ·intro i h1 h2
  rw [cg,bq] at h1;rw [←dt h2,kw hl,Pol.c_C,List.getElem_set]
  by_cases hi:i=0
  ·subst hi; rw [if_pos rfl,if_pos rfl]
  ·rw [if_neg (fun h=>hi h.symm),if_neg hi]
   simp only [h0,List.getElem_replicate];exact rep_zero.symm
theorem a6r {O:ah} (hii:p8 O Fa) (hpw:sd O) (hmu:jz O) (hpo:vz O) (hdg:th O) {p:Int} [IsP p] {X:Fp p} (hX:X≠0) (h13:X.len≤13) (hF:IsFac X (fac X)) (hl:(fac X).length≤12) {x:Env} :
 ∃bs:List Blk,bs.length=7∧dn O 0 (qv 17 Z1o_B) ⟨(3,(.d (.int .i64 p)))::(4,.ptr 0 [])::(5,.d (.sl dc ((fac X).map cz)))::(6,(.d (.int .i64 0)))::(9,(.d (.int .i64 (mbL (fac X) 1))))::x,[.box false (D.arr 64 .leaf (ak .u8 (pad (row X)))),.hole,.hole,.hole,.hole,.hole,.hole]⟩=some (.ret,⟨[(2,(.d (.bool true)))],bs⟩):=by
 have hXp:=Pol.len_pos hX;have hld:X.ld≠0:=Pol.ld_ne hX;have hdl:=wb hF.ok
 have hlen:(dz (fac X)).len=X.len:=by
  have:=congrArg Pol.len hF.eq;rw [Pol.len_Cmul hld] at this;exact this.symm
 have e1:=hpo p;have e2:=Yp (O:=O) hii hpw hmu hF.ok (by omega) (a:=pad (row X)) (mb:=mbL (fac X) 1) (by omega) (fac X).length 0 1 (bf _) (by omega)
 have z0:dz ((fac X).take 0)=1:=rfl;have z1:((0:Nat):Int)=0:=rfl;rw [z0,z1,de,Nq] at e2;have e3:=hdg p X (by omega)
 have hC:(Pol.C X.ld:Fp p).len≤1:=Pol.len_le (Pol.lt_C _);have e4:=hmu p (dz (fac X)) (Pol.C X.ld) (by omega) (by omega)
 have hw:dz (fac X)*Pol.C X.ld=X:=by rw [Gq.mul_comm]; exact hF.eq.symm
 rw [hw,if_pos (by omega),←Ru] at e4
 have hge:(pad (row X)).length=64:=bq _;have hdi:(X.len:Int)-1=((X.len-1:Nat):Int):=by omega
 rw [hdi] at e3;have hn64:X.len-1<64:=by omega
 have hn64':X.len-1<(pad (row X)).length:=by rw [bq]; omega
 have hcx:(pad (row X))[X.len-1]'hn64'=rep X.ld:=by rw [←dt,kw (by omega)]; rfl
 have e5:D.beq (.arr 64 .leaf .int) (D.arr 64 .leaf (ak .u8 (pad (row X)))) (D.arr 64 .leaf (ak .u8 (pad (row X))))=some true:=by rw [Ns (bq _) (bq _),decide_eq_true rfl]
 have g0:(pad [])[0]? = some 0:=by decide +kernel
 refine ⟨[.hole,.hole,.hole,.hole,.hole,.hole,.hole],rfl,?_⟩;rw [Z1o_B];generalize (fac X).map cz=FL at *;generalize ((fac X).length:Int)=nF at *;generalize mbL (fac X) 1=MB at *;generalize pad (row (dz (fac X)))=PF at *;generalize pad (row (1:Fp p))=P1 at *;generalize pad (row X)=PX at *;generalize X.len-1=dg at *;generalize rep X.ld=ld at *;simp -implicitDefEqProofs [qv,af,e1,e2,e3,e4,e5,hge,hn64,hcx,g0]
def rg (O:ah):Prop:=∀code:List Int,ft code→code.length≤9223372036854775807→ask O F1o [.sl .leaf (ak .u8 code)]=some (D.bool true)
theorem U9 {O:ah} (hfa:Ak O) {p:Int} {a:List Int} (ha:Arr a):(∃(_:IsP p) (X:Fp p),a=pad (row X)∧X≠0∧X.len≤13∧fcO p a=.tup [.sl dc ((fac X).map cz),(D.int .i64 0)]∧mbO p a=.tup [(D.int .i64 (mbL (fac X) 1)),(D.int .i64 0)]∧IsFac X (fac X)∧(fac X).length≤12) ∨
 ∃c:Int,c≠0∧fcO p a=.tup [.sl dc [],(D.int .i64 c)]∧mbO p a=.tup [(D.int .i64 0),(D.int .i64 c)]:=by
 by_cases h:dgC p a 0 12=0
 ·obtain ⟨ip,X,rfl,h1,h2,hX⟩:=rj ha.2 ha.1 h
  have hX0:X≠0:=fun h0=>by rw [h0,Pol.len_zero] at h1; omega
  obtain ⟨hF,hl,-⟩:=hfa p X hX0 (by omega)
  exact .inl ⟨ip,X,rfl,hX0,by omega,Cs h hX,C8 h hX,hF,hl⟩
 ·exact .inr ⟨_,h,Hb h,G9 h⟩
theorem T7 (p:Int) (a:List Int):∃(b:Bool) (c:Int),iiO p a=.tup [(D.bool b),(D.int .i64 c)]:=by
 unfold iiO
 split
 ·split
  ·exact ⟨_,_,rfl⟩
  ·exact ⟨_,_,rfl⟩
 ·exact ⟨_,_,rfl⟩
theorem V2 (p n:Int):∃b c:Int,ciO p n=.tup [(D.int .i64 b),(D.int .i64 c)]:=by
 unfold ciO
 split
 ·split
  ·exact ⟨_,_,rfl⟩
  ·exact ⟨_,_,rfl⟩
 ·exact ⟨_,_,rfl⟩
theorem Oz {p:Int} (L:List (Fp p)):L.map mw=(L.map fun a=>pad (row a)).map nw:=by
 rw [tp];rfl
theorem Rw (p:Int) {n:Nat} (hn:n≤5):∃(PL:List (List Int)) (c:Int),irO p n=.tup [.sl (.arr 64 .leaf) (PL.map nw),(D.int .i64 c)]∧(∀l∈PL,l.length=64)∧PL.length<2000000∧(c=0→ciO p n=.tup [(D.int .i64 ((PL.map nw).length)),(D.int .i64 0)]):=by
 by_cases hp:isP p=true
 ·haveI:IsP p:=xi hp
  by_cases h:1≤n∧p^n≤343
  ·have hN:=jo (p:=p) n
   refine ⟨(irL p n).map fun a=>pad (row a),0,by rw [C9 h,Oz],fun l hl=>?_,?_,fun _=>?_⟩
   ·obtain ⟨a,_,rfl⟩:=cb.1 hl
    exact bq _
   ·have h1:(irL p n).length≤(sa p n).length:=List.length_filter_le ..
    have h2:(sa p n).length=p.toNat^n:=by simp [sa]
    rw [c7];omega
   ·unfold ciO
    rw [if_pos hp,if_pos (by omega),c7,c7]
    have hk:((n:Int)).toNat=n:=by omega
    rw [hk,a0g h.1 hn]
  ·exact ⟨[],2,y7 h,by simp,by simp,by omega⟩
 ·rw [jl] at hp
  exact ⟨[],1,H9 hp,by simp,by simp,by omega⟩
theorem zq (hT:T F1o=some Z1o) (hbig:Tm (den T A)) (hd1:pm (den T A)) (hd2:kn (den T A)) (hd3:ri (den T A)) (hd4:uy (den T A))
 (hfo:ni (den T A) F7) (hfos:ni (den T A) F2n) (hf9:x9 (den T A)) (hmb:n9 (den T A) Fb) (hmbs:n9 (den T A) F2q)
 (hir:gy (den T A) F8) (hirs:gy (den T A) F2o) (hp9:M8 (den T A)) (hci:oq (den T A) F5) (hcis:oq (den T A) F2i)
 (hii:p8 (den T A) Fa) (hiis:p8 (den T A) F2p) (hpw:sd (den T A)) (hmu:jz (den T A)) (hpo:vz (den T A)) (hdg:th (den T A)) (hfa:Ak (den T A)):rg (den T A):=by
 intro code hb hl;have e0:=hbig (ak .u8 code)
 by_cases hc:(4096:Int)<(ak .u8 code).length
 ·rw [decide_eq_true hc] at e0
  refine bc hT rfl ?_;simp -implicitDefEqProofs [Z1o,Z1o_B,af,e0]
 rw [decide_eq_false hc] at e0
 have hc4:code.length≤4096:=by
  rw [In] at hc;omega
 obtain ⟨p,a,d1,-,-,aa⟩:=hd1 code hb hc4;obtain ⟨q,n,d2,hn5⟩:=hd2 code hb hc4;obtain ⟨r,k,d3⟩:=hd3 code hb hc4;obtain ⟨s,m,d4,am⟩:=hd4 code hb hc4;obtain ⟨PL,three,i1,i2,i3,i4⟩:=Rw q hn5;have c1:=hir q n (by omega)
 have c2:=hirs q n (by omega)
 rw [i1] at c1 c2;have q2:=hp9 PL i2 i3;obtain ⟨cnt,four,j1⟩:=V2 r k;have f1:=hci r k;have f2:=hcis r k;rw [j1] at f1 f2;obtain ⟨yes,five,k1⟩:=T7 s m;have g1:=hii s m am.2 am.1;have g2:=hiis s m am.2 am.1;rw [k1] at g1 g2;have a1:=hfo p a aa.2 aa.1;have a2:=hfos p a aa.2 aa.1;have b1:=hmb p a aa.2 aa.1;have b2:=hmbs p a aa.2 aa.1
 have hcn:three=0→ask (den T A) F5 [(D.int .i64 q),(D.int .i64 n)]=some (.tup [(D.int .i64 ((PL.map nw).length)),(D.int .i64 0)]):=fun h=>by
  rw [hci q n,i4 h]
 have key:∀(one mb two:Int) (FL:List D),ask (den T A) F7 [(D.int .i64 p),(D.arr 64 .leaf (ak .u8 a))]=some (.tup [.sl dc FL,(D.int .i64 one)])→ask (den T A) F2n [(D.int .i64 p),(D.arr 64 .leaf (ak .u8 a))]=some (.tup [.sl dc FL,(D.int .i64 one)])→ask (den T A) F1q [.sl dc FL,.sl dc FL]=some (D.bool true) →
  ask (den T A) Fb [(D.int .i64 p),(D.arr 64 .leaf (ak .u8 a))]=some (.tup [(D.int .i64 mb),(D.int .i64 two)])→ask (den T A) F2q [(D.int .i64 p),(D.arr 64 .leaf (ak .u8 a))]=some (.tup [(D.int .i64 mb),(D.int .i64 two)]) →
  (∀x:Env,∃bs:List Blk,bs.length=7∧dn (den T A) 0 (qv 17 Z1o_B) ⟨(3,(.d (.int .i64 p)))::(4,.ptr 0 [])::(5,.d (.sl dc FL))::(6,(.d (.int .i64 one)))::(9,(.d (.int .i64 mb)))::x,[.box false (D.arr 64 .leaf (ak .u8 a)),.hole,.hole,.hole,.hole,.hole,.hole]⟩=some (.ret,⟨[(2,(.d (.bool true)))],bs⟩)) →
  ask (den T A) F1o [.sl .leaf (ak .u8 code)]=some (D.bool true):=fun one mb two FL h1 h2 h3 h4 h5 h6=>by
  have s1:=a68 (qv 16 Z1o_B) e0 d1 h1 h2 h3 h4 h5 d2 c1 c2 q2 d3 f1 f2 d4 g1 g2;obtain ⟨x,s2⟩:=a6i (O:=den T A) (qv 17 Z1o_B) (a:=a) (p:=p) (one:=one) (mb:=mb) (FL:=FL) hcn;obtain ⟨bs,hbs,s3⟩:=h6 x;rw [←a74,a2f,s2,s3] at s1;refine bc hT rfl ?_;simp -implicitDefEqProofs [Z1o,s1,hbs,List.replicate]
 rcases U9 hfa (p:=p) aa with ⟨ip,X,rfl,hX0,h13,hfc,hmc,hF,hl12⟩ | ⟨c,hc0,hfc,hmc⟩
 ·rw [hfc] at a1 a2
  rw [hmc] at b1 b2;exact key 0 _ _ _ a1 a2 (hf9 p (fac X) (by omega)) b1 b2 fun x=>a6r hii hpw hmu hpo hdg hX0 h13 hF hl12
 ·rw [hfc] at a1 a2
  rw [hmc] at b1 b2;exact key c _ _ _ a1 a2 (hf9 p [] (by simp)) b1 b2 fun x=>a6g hc0
end Pe

namespace Pe
open Go Gq
abbrev tyB:Ty:=.sl (.int .u8)
theorem a46 {d:D} (h:tyB.has d):∃l:List Int,d=.sl .leaf (ak .u8 l)∧ft l∧l.length≤9223372036854775807:=by
 cases d <;> simp only [Ty.has] at h
 obtain ⟨rfl,h1,h2⟩:=h;obtain ⟨l,rfl,hb⟩:=Eu _ h2;exact ⟨l,rfl,hb,by simpa [ak] using h1⟩
end Pe
