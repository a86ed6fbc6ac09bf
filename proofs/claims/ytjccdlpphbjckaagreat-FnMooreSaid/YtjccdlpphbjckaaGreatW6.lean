/-
  A part of the proof: an evaluator for a small form of the code, its soundness, and contracts of functions over it.
-/
import Derived.Test.YtjccdlpphbjckaaGreatW1
import Derived.Test.YtjccdlpphbjckaaGreatW2
import Derived.Test.YtjccdlpphbjckaaGreatW3
import Derived.Test.YtjccdlpphbjckaaGreatW4
import Derived.Test.YtjccdlpphbjckaaGreatW5

namespace Pe
open Go Gq
variable {T:Nat→Option Fn} {A:ap}
section
variable {p:Int}
theorem Dz {a:Fp p} (ha:a.len≤64) {n:Nat}:∀h:n<(pad (row a)).length,(pad (row a))[n]'h=rep (a.c n):=fun h=>by
 rw [←gu h,sf ha]
end
section
variable {p:Int} [IsP p]
theorem a1w {O:ap} (hadd:lk O) {a b:Fp p} (ha:a.len≤64) (hb:b.len≤64):ask O F3k [(D.int .i64 p),(D.arr 64 .leaf (aq .u8 (pad (row b)))),(D.arr 64 .leaf (aq .u8 (pad (row a)))),(D.int .i64 (-rep (b.c (a.len-1))))]=some (D.arr 64 .leaf (aq .u8 (pad (row (elim a b))))):=by
 have h:=wb (b.c (a.len-1));have:=hadd p (-rep (b.c (a.len-1))) b a (by omega) (by omega) hb ha
 rw [Hd,m8] at this;exact this
theorem a6i {O:ap} (hdg:kb O) (hadd:lk O) {L:List (Fp p)} {N:Nat} (hN:N≤11) (hL:Desc N L):∀(r i:Nat) (a:Fp p),i+r=L.length→a.len≤N →
 dn O 0 (.loop Z4h_L0) ⟨[(0,(.d (.int .i64 p))),(1,.d (.sl (.arr 64 .leaf) (L.map bv))),(5,.ptr 0 []),(7,(.d (.int .i64 i)))],[.box false (D.arr 64 .leaf (aq .u8 (pad (row a)))),.hole,.hole,.hole,.hole,.hole,.hole,.hole]⟩ =
  some (.exit 0,⟨[(0,(.d (.int .i64 p))),(1,.d (.sl (.arr 64 .leaf) (L.map bv))),(5,.ptr 0 []),(7,(.d (.int .i64 L.length))),(16,(.d (.bool false)))],[.box false (D.arr 64 .leaf (aq .u8 (pad (row (dl (L.drop i) a))))),.hole,.hole,.hole,.hole,.hole,.hole,.hole]⟩)
 | 0,i,a,hi,ha=>by
  obtain rfl:i=L.length:=by omega
  have hLD:(L.map bv).length=L.length:=ab ..;rw [fw];refine cg ?_;show _=some (_,(⟨_,[.box false (D.arr 64 .leaf (aq .u8 (pad (row a)))),_,_,_,_,_,_,_]⟩:St));generalize pad (row a)=Pa at *;generalize L.map bv=LD at *;simp -implicitDefEqProofs [Z4h_L0,au,hLD]
 | r+1,i,a,hi,ha=>by
  have hlt:i<L.length:=by omega
  have hm:=bb hlt;have hbl:=hL.le _ hm;have hbp:=Pol.len_pos (hL.mon _ hm).2;have hll:=hL.length;have hLD:(L.map bv).length=L.length:=ab ..;have hx:∀h:i<(L.map bv).length,(L.map bv)[i]'h=(D.arr 64 .leaf (aq .u8 (pad (row L[i])))):=fun h=>by rw [ci]
  have e1:=hdg p L[i] (by omega)
  rw [show (L[i].len:Int)-1=((L[i].len-1:Nat):Int) by omega] at e1
  have e2:=a1w hadd (a:=L[i]) (b:=a) (by omega) (by omega)
  have hat:=Dz (a:=a) (by omega) (n:=L[i].len-1)
  have hPl:=dc (row a);have hd64:L[i].len-1<64:=by omega
  have hr:=wb (a.c (L[i].len-1));have w1:IntKind.i64.wrap (rep (a.c (L[i].len-1)))=rep (a.c (L[i].len-1)):=w64 (by omega)
  have w2:IntKind.i64.wrap (-rep (a.c (L[i].len-1)))=-rep (a.c (L[i].len-1)):=w64 (by omega)
  have w4:IntKind.i64.wrap ((i:Int)+1)=((i+1:Nat):Int):=(w64 (x:=(i:Int)+1) (by omega)).trans (by omega)
  have hd:dl (L.drop i) a=dl (L.drop (i+1)) (elim L[i] a):=by rw [cd hlt]; rfl
  rw [hd];refine bq ?_ (a6i hdg hadd hN hL r (i+1) (elim L[i] a) (by omega) (ve hbl ha))
  by_cases h0:rep (a.c (L[i].len-1))=0
  ·have hz:elim L[i] a=a:=by
    unfold elim;rw [im.1 h0,th,Pol.C_zero,Gq.zero_mul,Gq.add_zero]
   rw [hz];rw [h0] at hat;generalize pad (row a)=Pa at *;generalize pad (row L[i])=Pi at *;generalize L[i].len-1=d at *;generalize L.map bv=LD at *;simp -implicitDefEqProofs [Z4h_L0,au,hlt,hLD,hx,e1,hat,hPl,hd64,w4]
  ·generalize rep (a.c (L[i].len-1))=k at *
   generalize pad (row (elim L[i] a))=Pe at *;generalize pad (row a)=Pa at *;generalize pad (row L[i])=Pi at *;generalize L[i].len-1=d at *;generalize L.map bv=LD at *;simp -implicitDefEqProofs [Z4h_L0,au,hlt,hLD,hx,e1,e2,hat,hPl,hd64,h0,w1,w2,w4]
theorem afx {O:ap} {p:Int} {Pa:List Int} {d ql n:Nat} {LD QD:List D} {cp:Option Nat} {b:Bool} (hLD:LD.length=n) :
 dn O 0 Z4h_L1 ⟨[(0,(.d (.int .i64 p))),(1,.d (.sl (.arr 64 .leaf) LD)),(5,.ptr 0 []),(9,(.d (.int .i64 ((d:Int))))),(10,.sl 1 [] 0 ql cp),(11,(.d (.bool b))),(12,(.d (.int .i64 n)))],[.box false (D.arr 64 .leaf (aq .u8 Pa)),.sl false (.arr 64 .leaf) QD,.hole,.hole,.hole,.hole,.hole,.hole]⟩=some (.exit 2,⟨[(0,(.d (.int .i64 p))),(1,.d (.sl (.arr 64 .leaf) LD)),(5,.ptr 0 []),(9,(.d (.int .i64 ((d:Int))))),(10,.sl 1 [] 0 ql cp),(11,(.d (.bool b))),(12,(.d (.int .i64 n))),(59,(.d (.bool false)))],[.box false (D.arr 64 .leaf (aq .u8 Pa)),.sl false (.arr 64 .leaf) QD,.hole,.hole,.hole,.hole,.hole,.hole]⟩):=by
 simp -implicitDefEqProofs [Z4h_L1,au,hLD]
theorem afh {O:ap} {p k:Int} {Pa Pi Pe:List Int} {d ql i n:Nat} {LD QD:List D} {cp:Option Nat} (hlt:i<n) (hLD:LD.length=n) (hx:∀h:i<LD.length,LD[i]'h=(D.arr 64 .leaf (aq .u8 Pi))) (e2:ask O F3k [(D.int .i64 p),(D.arr 64 .leaf (aq .u8 Pi)),(D.arr 64 .leaf (aq .u8 Pa)),(D.int .i64 (-k))]=some (D.arr 64 .leaf (aq .u8 Pe)))
 (hat:∀h:d<Pi.length,Pi[d]'h=k) (hPl:Pi.length=64) (hd64:d<64) (hQD:QD.length=ql) (htq:QD.take ql=QD) (h64:(ql+1)*64≤1099511627776) (w1:IntKind.i64.wrap k=k) (w2:IntKind.i64.wrap (-k)=-k) (w4:IntKind.i64.wrap ((i:Int)+1)=((i+1:Nat):Int)) :
 dn O 0 Z4h_L1 ⟨[(0,(.d (.int .i64 p))),(1,.d (.sl (.arr 64 .leaf) LD)),(5,.ptr 0 []),(9,(.d (.int .i64 ((d:Int))))),(10,.sl 1 [] 0 ql cp),(11,(.d (.bool true))),(12,(.d (.int .i64 i)))],[.box false (D.arr 64 .leaf (aq .u8 Pa)),.sl false (.arr 64 .leaf) QD,.hole,.hole,.hole,.hole,.hole,.hole]⟩=some (.normal,⟨[(0,(.d (.int .i64 p))),(1,.d (.sl (.arr 64 .leaf) LD)),(5,.ptr 0 []),(9,(.d (.int .i64 ((d:Int))))),(10,.sl 1 [] 0 (ql+1) none),(11,(.d (.bool true))),(12,(.d (.int .i64 (((i+1:Nat):Int)))))],[.box false (D.arr 64 .leaf (aq .u8 Pa)),.sl false (.arr 64 .leaf) (QD++[(D.arr 64 .leaf (aq .u8 Pe))]),.hole,.hole,.hole,.hole,.hole,.hole]⟩):=by
 simp -implicitDefEqProofs [Z4h_L1,au,hlt,hLD,hx,e2,hat,hPl,hd64,hQD,htq,h64,w1,w2,w4,List.replicate]
theorem a3r {α:Type} {QD:List α} {ql:Nat} (h:QD.length=ql) (z:α):(QD++[z]).take (ql+1)=QD++[z]:=b7 (by rw [b8,h]; exact bp _)
theorem afg {O:ap} {p k:Int} {Pa Pi Pe:List Int} {d d2 ql i n:Nat} {LD QD:List D} {cp:Option Nat} (hlt:i<n) (hLD:LD.length=n) (hx:∀h:i<LD.length,LD[i]'h=(D.arr 64 .leaf (aq .u8 Pi))) (e1:ask O F3m [(D.arr 64 .leaf (aq .u8 Pi))]=some (D.int .i64 ((d2:Int)))) (e2:ask O F3k [(D.int .i64 p),(D.arr 64 .leaf (aq .u8 Pi)),(D.arr 64 .leaf (aq .u8 Pa)),(D.int .i64 (-k))]=some (D.arr 64 .leaf (aq .u8 Pe)))
 (hat:∀h:d<Pi.length,Pi[d]'h=k) (hPl:Pi.length=64) (hd64:d<64) (hQD:QD.length=ql) (htq:QD.take ql=QD) (h64:(ql+1)*64≤1099511627776) (h64':(ql+1+1)*64≤1099511627776) (w1:IntKind.i64.wrap k=k) (w2:IntKind.i64.wrap (-k)=-k) (w4:IntKind.i64.wrap ((i:Int)+1)=((i+1:Nat):Int)) (hdl:d2<d) :
 dn O 0 Z4h_L1 ⟨[(0,(.d (.int .i64 p))),(1,.d (.sl (.arr 64 .leaf) LD)),(5,.ptr 0 []),(9,(.d (.int .i64 ((d:Int))))),(10,.sl 1 [] 0 ql cp),(11,(.d (.bool false))),(12,(.d (.int .i64 i)))],[.box false (D.arr 64 .leaf (aq .u8 Pa)),.sl false (.arr 64 .leaf) QD,.hole,.hole,.hole,.hole,.hole,.hole]⟩=some (.normal,⟨[(0,(.d (.int .i64 p))),(1,.d (.sl (.arr 64 .leaf) LD)),(5,.ptr 0 []),(9,(.d (.int .i64 ((d:Int))))),(10,.sl 1 [] 0 (ql+2) none),(11,(.d (.bool true))),(12,(.d (.int .i64 (((i+1:Nat):Int)))))],[.box false (D.arr 64 .leaf (aq .u8 Pa)),.sl false (.arr 64 .leaf) (QD++[(D.arr 64 .leaf (aq .u8 Pa)),(D.arr 64 .leaf (aq .u8 Pe))]),.hole,.hole,.hole,.hole,.hole,.hole]⟩):=by
 have htq2:=fun z:D=>a3r hQD z
 simp -implicitDefEqProofs [Z4h_L1,au,hlt,hLD,hx,e1,e2,hat,hPl,hd64,hdl,hQD,htq,htq2,h64,h64',w1,w2,w4,List.replicate]
theorem agc {O:ap} {p k:Int} {Pa Pi Pe:List Int} {d d2 ql i n:Nat} {LD QD:List D} {cp:Option Nat} (hlt:i<n) (hLD:LD.length=n) (hx:∀h:i<LD.length,LD[i]'h=(D.arr 64 .leaf (aq .u8 Pi))) (e1:ask O F3m [(D.arr 64 .leaf (aq .u8 Pi))]=some (D.int .i64 ((d2:Int)))) (e2:ask O F3k [(D.int .i64 p),(D.arr 64 .leaf (aq .u8 Pi)),(D.arr 64 .leaf (aq .u8 Pa)),(D.int .i64 (-k))]=some (D.arr 64 .leaf (aq .u8 Pe)))
 (hat:∀h:d<Pi.length,Pi[d]'h=k) (hPl:Pi.length=64) (hd64:d<64) (hQD:QD.length=ql) (htq:QD.take ql=QD) (h64:(ql+1)*64≤1099511627776) (w1:IntKind.i64.wrap k=k) (w2:IntKind.i64.wrap (-k)=-k) (w4:IntKind.i64.wrap ((i:Int)+1)=((i+1:Nat):Int)) (hdl:¬ d2<d) :
 dn O 0 Z4h_L1 ⟨[(0,(.d (.int .i64 p))),(1,.d (.sl (.arr 64 .leaf) LD)),(5,.ptr 0 []),(9,(.d (.int .i64 ((d:Int))))),(10,.sl 1 [] 0 ql cp),(11,(.d (.bool false))),(12,(.d (.int .i64 i)))],[.box false (D.arr 64 .leaf (aq .u8 Pa)),.sl false (.arr 64 .leaf) QD,.hole,.hole,.hole,.hole,.hole,.hole]⟩=some (.normal,⟨[(0,(.d (.int .i64 p))),(1,.d (.sl (.arr 64 .leaf) LD)),(5,.ptr 0 []),(9,(.d (.int .i64 ((d:Int))))),(10,.sl 1 [] 0 (ql+1) none),(11,(.d (.bool false))),(12,(.d (.int .i64 (((i+1:Nat):Int)))))],[.box false (D.arr 64 .leaf (aq .u8 Pa)),.sl false (.arr 64 .leaf) (QD++[(D.arr 64 .leaf (aq .u8 Pe))]),.hole,.hole,.hole,.hole,.hole,.hole]⟩):=by
 simp -implicitDefEqProofs [Z4h_L1,au,hlt,hLD,hx,e1,e2,hat,hPl,hd64,hdl,hQD,htq,h64,w1,w2,w4,List.replicate]
theorem Hu {O:ap} (hdg:kb O) (hadd:lk O) {L:List (Fp p)} {N:Nat} (hN:N≤11) (hL:Desc N L) {a:Fp p} (ha:a≠0) (hal:a.len≤N) {i:Nat} (hlt:i<L.length) :
 (∀h:i<(L.map bv).length,(L.map bv)[i]'h=(D.arr 64 .leaf (aq .u8 (pad (row L[i])))))∧ask O F3m [(D.arr 64 .leaf (aq .u8 (pad (row L[i]))))]=some (D.int .i64 (((L[i].len-1:Nat):Int))) ∧
 ask O F3k [(D.int .i64 p),(D.arr 64 .leaf (aq .u8 (pad (row L[i])))),(D.arr 64 .leaf (aq .u8 (pad (row a)))),(D.int .i64 (-rep (L[i].c (a.len-1))))]=some (D.arr 64 .leaf (aq .u8 (pad (row (elim a L[i]))))) ∧
 (∀h:a.len-1<(pad (row L[i])).length,(pad (row L[i]))[a.len-1]'h=rep (L[i].c (a.len-1)))∧(pad (row L[i])).length=64 ∧
 IntKind.i64.wrap (rep (L[i].c (a.len-1)))=rep (L[i].c (a.len-1))∧IntKind.i64.wrap (-rep (L[i].c (a.len-1)))=-rep (L[i].c (a.len-1)) ∧
 IntKind.i64.wrap ((i:Int)+1)=((i+1:Nat):Int)∧a.len-1<64:=by
 have hm:=bb hlt;have hbl:=hL.le _ hm;have hbp:=Pol.len_pos (hL.mon _ hm).2;have hap:=Pol.len_pos ha;have hll:=hL.length;have e1:=hdg p L[i] (by omega)
 rw [show (L[i].len:Int)-1=((L[i].len-1:Nat):Int) by omega] at e1
 have hr:=wb (L[i].c (a.len-1));exact ⟨fun h=>by rw [ci],e1,a1w hadd (a:=a) (b:=L[i]) (by omega) (by omega),Dz (a:=L[i]) (by omega) (n:=a.len-1),dc _,w64 (by omega),w64 (by omega),(w64 (x:=(i:Int)+1) (by omega)).trans (by omega),by omega⟩
theorem Sw {O:ap} (hdg:kb O) (hadd:lk O) {L:List (Fp p)} {N:Nat} (hN:N≤11) (hL:Desc N L) {a:Fp p} (ha:a≠0) (hal:a.len≤N):∀(r i:Nat) (Q:List (Fp p)) (b:Bool) (cp:Option Nat),i+r=L.length→Q.length≤i+b.toNat→∃(Q':List (Fp p)) (b':Bool) (cp':Option Nat),
 dn O 0 (.loop Z4h_L1) ⟨[(0,(.d (.int .i64 p))),(1,.d (.sl (.arr 64 .leaf) (L.map bv))),(5,.ptr 0 []),(9,(.d (.int .i64 (((a.len-1:Nat):Int))))),(10,.sl 1 [] 0 Q.length cp),(11,(.d (.bool b))),(12,(.d (.int .i64 i)))],[.box false (D.arr 64 .leaf (aq .u8 (pad (row a)))),.sl false (.arr 64 .leaf) (Q.map bv),.hole,.hole,.hole,.hole,.hole,.hole]⟩ =
  some (.exit 2,⟨[(0,(.d (.int .i64 p))),(1,.d (.sl (.arr 64 .leaf) (L.map bv))),(5,.ptr 0 []),(9,(.d (.int .i64 (((a.len-1:Nat):Int))))),(10,.sl 1 [] 0 Q'.length cp'),(11,(.d (.bool b'))),(12,(.d (.int .i64 L.length))),(59,(.d (.bool false)))],[.box false (D.arr 64 .leaf (aq .u8 (pad (row a)))),.sl false (.arr 64 .leaf) (Q'.map bv),.hole,.hole,.hole,.hole,.hole,.hole]⟩) ∧
  (if b' then Q' else Q'++[a])=Q++(if b then (L.drop i).map (elim a) else xj a (L.drop i))∧Q'.length≤L.length+1
 | 0,i,Q,b,cp,hi,hq=>by
  obtain rfl:i=L.length:=by omega
  have hLD:(L.map bv).length=L.length:=ab ..;refine ⟨Q,b,cp,cg ?_,?_,by have:=Bool.toNat_le b; omega⟩
  ·exact afx hLD
  ·rw [fw]
   cases b <;> simp [xj]
 | r+1,i,Q,b,cp,hi,hq=>by
  have hlt:i<L.length:=by omega
  have hll:=hL.length;have hbt:=Bool.toNat_le b;have hir:i+1+r=L.length:=by omega
  have hQl:Q.length≤12:=by omega
  have h64:(Q.length+1)*64≤1099511627776:=ot (gi 64 (Nat.succ_le_succ hQl)) (by decide)
  have h64':(Q.length+1+1)*64≤1099511627776:=ot (gi 64 (Nat.succ_le_succ (Nat.succ_le_succ hQl))) (by decide)
  have hLD:(L.map bv).length=L.length:=ab ..;have hd:L.drop i=L[i]::L.drop (i+1):=cd hlt;have hQD:(Q.map bv).length=Q.length:=ab ..;have htq:(Q.map bv).take Q.length=Q.map bv:=b7 (by omega)
  have hq1:∀x:Fp p,(Q++[x]).map bv=Q.map bv++[(D.arr 64 .leaf (aq .u8 (pad (row x))))]:=fun x=>by rw [cn]; rfl
  have hl1:∀x:Fp p,(Q++[x]).length=Q.length+1:=fun x=>by rw [b8]; rfl
  have hq2:∀x y:Fp p,(Q++[x,y]).map bv=Q.map bv++[(D.arr 64 .leaf (aq .u8 (pad (row x)))),(D.arr 64 .leaf (aq .u8 (pad (row y))))]:=fun x y=>by rw [cn]; rfl
  have hl2:∀x y:Fp p,(Q++[x,y]).length=Q.length+2:=fun x y=>by rw [b8]; rfl
  have hap:=Pol.len_pos ha;have hbp:=Pol.len_pos (hL.mon _ (bb hlt)).2;cases b with
  | true=>
   obtain ⟨Q',b',cp',g1,g2,g3⟩:=Sw hdg hadd hN hL ha hal r (i+1) (Q++[elim a L[i]]) true none hir (by rw [hl1]; simp only [Bool.toNat_true] at hq ⊢; omega)
   refine ⟨Q',b',cp',bq ?_ g1,?_,g3⟩
   ·obtain ⟨hx,e1,e2,hat,hPl,w1,w2,w4,hd64⟩:=Hu hdg hadd hN hL ha hal hlt
    rw [hq1,hl1]; exact afh hlt hLD hx e2 hat hPl hd64 hQD htq h64 w1 w2 w4
   ·rw [g2,hd]; simp only [if_true,fu,ee,df,d9]
  | false=>
   by_cases hlen:L[i].len<a.len
   ·have hdl:L[i].len-1<a.len-1:=by omega
    obtain ⟨Q',b',cp',g1,g2,g3⟩:=Sw hdg hadd hN hL ha hal r (i+1) (Q++[a,elim a L[i]]) true none hir (by rw [hl2]; simp only [Bool.toNat_true,Bool.toNat_false] at hq ⊢; omega)
    refine ⟨Q',b',cp',bq ?_ g1,?_,g3⟩
    ·obtain ⟨hx,e1,e2,hat,hPl,w1,w2,w4,hd64⟩:=Hu hdg hadd hN hL ha hal hlt
     rw [hq2,hl2]; exact afg hlt hLD hx e1 e2 hat hPl hd64 hQD htq h64 h64' w1 w2 w4 hdl
    ·rw [g2,hd]
     show _=Q++(if L[i].len<a.len then a::(L[i]::L.drop (i+1)).map (elim a) else elim a L[i]::xj a (L.drop (i+1)))
     rw [if_pos hlen]; simp only [if_true,fu,ee,df,d9]
   ·have hdl:¬ (L[i].len-1<a.len-1):=by omega
    obtain ⟨Q',b',cp',g1,g2,g3⟩:=Sw hdg hadd hN hL ha hal r (i+1) (Q++[elim a L[i]]) false none hir (by rw [hl1]; simp only [Bool.toNat_false] at hq ⊢; omega)
    refine ⟨Q',b',cp',bq ?_ g1,?_,g3⟩
    ·obtain ⟨hx,e1,e2,hat,hPl,w1,w2,w4,hd64⟩:=Hu hdg hadd hN hL ha hal hlt
     rw [hq1,hl1]; exact agc hlt hLD hx e1 e2 hat hPl hd64 hQD htq h64 w1 w2 w4 hdl
    ·rw [g2,hd]
     show _=Q++(if L[i].len<a.len then a::(L[i]::L.drop (i+1)).map (elim a) else elim a L[i]::xj a (L.drop (i+1)))
     rw [if_neg hlen]; simp
end
def zk (O:ap):Prop:=∀(p:Int) [IsP p] (L:List (Fp p)) (x:Fp p),Desc 11 L→x.len≤11→ask O F4h [(D.int .i64 p),.sl (.arr 64 .leaf) (L.map bv),(D.arr 64 .leaf (aq .u8 (pad (row x))))]=some (.sl (.arr 64 .leaf) ((ki L x).map bv))
theorem af9 (hT:T F4h=some Z4h) (hdg:kb (den T A)) (hinv:u9 (den T A)) (hadd:lk (den T A)):zk (den T A):=by
 intro p ip L x hL hx;have e0:=a6i (O:=den T A) hdg hadd (bp 11) hL L.length 0 x (br _) hx;have e00:((0:Nat):Int)=0:=rfl;rw [e00,dm] at e0;have hrl:=E5 (L:=L) hL.le hx;have e1:=hdg p (dl L x) (by omega)
 refine ch hT rfl ?_
 by_cases h0:dl L x=0
 ·rw [qt h0]
  rw [h0,row_zero,Pol.len_zero] at e1;rw [h0,row_zero] at e0;generalize pad (row x)=Px at *;generalize L.map bv=LD at *;simp -implicitDefEqProofs [Z4h,Z4h_B,au,e0,e1]
 ·rw [sc h0]
  have hap:=Pol.len_pos h0;have hml:=uj h0;have hmm:=pf h0;have hld0:=Pol.ld_ne h0;have hri:=nu (dl L x).ld;have hr0:rep (dl L x).ld≠0:=fun h=>hld0 (im.1 h)
  rw [show ((dl L x).len:Int)-1=(((dl L x).len-1:Nat):Int) by omega] at e1
  have hat:=Dz (a:=dl L x) (by omega) (n:=(dl L x).len-1)
  rw [show (dl L x).c ((dl L x).len-1)=(dl L x).ld from rfl] at hat;have hPl:=dc (row (dl L x));have hd64:(dl L x).len-1<64:=by omega
  have e2:=hinv p (rep (dl L x).ld) (by omega) (by omega)
  have hin:=A2 (p:=p) (rep (dl L x).ld);have hp7:=IsP.le (p:=p);have e3:=hadd p (inv p (rep (dl L x).ld)) 0 (dl L x) (by omega) (by omega) (by rw [Pol.len_zero]; omega) (by omega)
  rw [wg _ hld0,Gq.zero_add,show Pol.C (Fd.inv (dl L x).ld)*dl L x=Gq.mon (dl L x) from rfl,row_zero] at e3;have w1:IntKind.i64.wrap (inv p (rep (dl L x).ld))=inv p (rep (dl L x).ld):=w64 (by omega)
  obtain ⟨Q',b',cp',g1,g2,g3⟩:=Sw (O:=den T A) hdg hadd (bp 11) hL hmm.2 (by omega) L.length 0 [] false (some 0) (br _) (by simp)
  rw [e00,fi,cb,hml] at g1;simp only [dm,d9,ba,if_false] at g2;have hn0:¬ (((dl L x).len-1:Nat):Int)<0:=by omega
  have hll:=hL.length;have hQD:(Q'.map bv).length=Q'.length:=ab ..;have htq:(Q'.map bv).take Q'.length=Q'.map bv:=b7 (by omega)
  have h64:(Q'.length+1)*64≤1099511627776:=by omega
  cases b' with
  | true=>
   simp only [if_true] at g2;rw [←g2];generalize inv p (rep (dl L x).ld)=k1 at *;generalize rep (dl L x).ld=k2 at *;generalize pad (row (Gq.mon (dl L x)))=P2 at *;generalize pad (row (dl L x))=P1 at *;generalize pad (row x)=Px at *;generalize (dl L x).len-1=d at *;generalize L.map bv=LD at *;generalize Q'.map bv=QD at *;generalize Q'.length=ql at *;simp -implicitDefEqProofs [Z4h,Z4h_B,au,e0,e1,e2,e3,g1,hat,hPl,hd64,hn0,hQD,htq,w1]
  | false=>
   simp only [ba,if_false] at g2;rw [←g2,show (Q'++[Gq.mon (dl L x)]).map bv=Q'.map bv++[(D.arr 64 .leaf (aq .u8 (pad (row (Gq.mon (dl L x))))))] by rw [cn]; rfl]
   have htq2:∀z:D,(Q'.map bv++[z]).take (Q'.length+1)=Q'.map bv++[z]:=fun z=>b7 (by rw [b8,hQD]; exact bp _)
   generalize inv p (rep (dl L x).ld)=k1 at *;generalize rep (dl L x).ld=k2 at *;generalize pad (row (Gq.mon (dl L x)))=P2 at *;generalize pad (row (dl L x))=P1 at *;generalize pad (row x)=Px at *;generalize (dl L x).len-1=d at *;generalize L.map bv=LD at *;generalize Q'.map bv=QD at *;generalize Q'.length=ql at *;simp -implicitDefEqProofs [Z4h,Z4h_B,au,e0,e1,e2,e3,g1,hat,hPl,hd64,hn0,hQD,htq,htq2,h64,w1,List.replicate]
end Pe
namespace Pe
open Go Gq
variable {T:Nat→Option Fn} {A:ap}
open Classical in
theorem adh {O:ap} (hr:S0 O) {p:Int} [IsP p] {m:Fp p} (hm:m.len≤64) {ls:List (List Int)} (h:v6 ls) (hl:ls.length<2000000):∀(k i:Nat),i+k=ls.length →
 dn O 0 (.loop Z4j_L0) ⟨[(0,(.d (.int .i64 p))),(2,.d (.sl (.arr 64 .leaf) (ls.map ce))),(4,.ptr 0 []),(7,(.d (.int .i64 i)))],[.box false (D.arr 64 .leaf (aq .u8 (pad (row m))))]⟩ =
  if O0 m (ls.drop i) then some (.exit 0,⟨[(0,(.d (.int .i64 p))),(2,.d (.sl (.arr 64 .leaf) (ls.map ce))),(4,.ptr 0 []),(7,(.d (.int .i64 ls.length))),(15,(.d (.bool false)))],[.box false (D.arr 64 .leaf (aq .u8 (pad (row m))))]⟩) else some (.ret,⟨[(6,(.d (.int .i64 1)))],[.hole]⟩)
 | 0,i,hi=>by
  obtain rfl:i=ls.length:=by omega
  rw [if_pos (by rw [fw]; exact a59 m)]
  have hL:(ls.map ce).length=ls.length:=ab ..;refine cg ?_;generalize pad (row m)=Pm at *;generalize ls.map ce=LD at *;simp -implicitDefEqProofs [Z4j_L0,au,hL]
 | k+1,i,hi=>by
  have hlt:i<ls.length:=by omega
  have hm1:=bb hlt;have e1:=hr p m ls[i] hm (h _ hm1).2 (h _ hm1).1;have hL:(ls.map ce).length=ls.length:=ab ..;have w4:IntKind.i64.wrap ((i:Int)+1)=((i+1:Nat):Int):=(w64 (x:=(i:Int)+1) (by omega)).trans (by omega)
  have hx2:∀h:i<(ls.map ce).length,(ls.map ce)[i]'h=(D.arr 64 .leaf (aq .u8 (ls[i]))):=fun h=>by rw [ci]
  have hd:ls.drop i=ls[i]::ls.drop (i+1):=cd hlt;have ih:=adh hr hm h hl k (i+1) (by omega)
  rw [hd]
  by_cases hres:va m ls[i]
  ·rw [decide_eq_true hres] at e1
   have hiff:O0 m (ls[i]::ls.drop (i+1))↔O0 m (ls.drop (i+1)):=⟨fun h=>(Ca.1 h).2,fun h=>Ca.2 ⟨hres,h⟩⟩
   rw [propext hiff];refine bq ?_ ih;generalize ls[i]=li at *;generalize pad (row m)=Pm at *;generalize ls.map ce=LD at *;simp -implicitDefEqProofs [Z4j_L0,au,hlt,hx2,hL,e1,w4]
  ·rw [decide_eq_false hres] at e1
   rw [if_neg (fun h=>hres (Ca.1 h).1)]
   refine mj ?_;generalize ls[i]=li at *;generalize pad (row m)=Pm at *;generalize ls.map ce=LD at *;simp -implicitDefEqProofs [Z4j_L0,au,hlt,hx2,hL,e1]
open Classical in
theorem a2u (hT:T F4j=some Z4j) (hf:L8 (den T A)) (hi:S0 (den T A)):lg (den T A) F4j:=by
 intro p l ls hb hl h hlen;have e1:=hf p l hb hl;refine ch hT rfl ?_;unfold oo
 by_cases hfl:Ii p l
 ·rw [decide_eq_true hfl] at e1
  obtain ⟨ip,m,rfl,hm⟩:=hfl;have h5:=hm.five;have e2:=adh (O:=den T A) hi (m:=m) (by omega) h hlen ls.length 0 (br _)
  have e00:((0:Nat):Int)=0:=rfl;rw [e00,dm] at e2;have hc:=Vs hm (Q:=fun ip m'=>∀x∈ls,@va p ip m' x)
  by_cases hs:O0 m ls
  ·rw [if_pos hs] at e2
   rw [if_pos (hc.2 hs)];generalize pad (row m)=Pm at *;generalize ls.map ce=LD at *;simp -implicitDefEqProofs [Z4j,Z4j_B,au,e1,e2]
  ·rw [if_neg hs] at e2
   rw [if_neg (fun h=>hs (hc.1 h))]
   generalize pad (row m)=Pm at *;generalize ls.map ce=LD at *;simp -implicitDefEqProofs [Z4j,Z4j_B,au,e1,e2]
 ·rw [decide_eq_false hfl] at e1
  rw [if_neg (fun ⟨ip,m,e,hm,_⟩=>hfl ⟨ip,m,e,hm⟩)]
  generalize ls.map ce=LD at *;simp -implicitDefEqProofs [Z4j,Z4j_B,au,e1]
def yl (O:ap):Prop:=∀(p:Int) (l:List Int) (ls:List (List Int)) (hi:Int),je l→l.length=64→v6 ls→ls.length<2000000→ask O F4p [(D.int .i64 p),(D.arr 64 .leaf (aq .u8 l)),.sl (.arr 64 .leaf) (ls.map ce),(D.int .i64 hi)]=some (D.int .i64 (kw p l ls 0 hi))
theorem a2s (hT:T F4p=some Z4p) (hr:lg (den T A) F4j):yl (den T A):=by
 intro p l ls hi bl gl ha hl;have e:=hr p l ls bl gl ha hl;have h1:(ls.map ce).length=ls.length:=ab ..;unfold kw;refine ch hT rfl ?_;generalize ls.map ce=LD at *
 by_cases h0:oo p l ls=0
 ·rw [h0] at e
  rw [if_neg (by simpa using h0)]
  by_cases h3:hi<(ls.length:Int)
  ·rw [if_pos (.inr h3)]
   simp -implicitDefEqProofs [Z4p,Z4p_B,au,e,h1,h3]
  ·rw [if_neg (by omega)]
   simp -implicitDefEqProofs [Z4p,Z4p_B,au,e,h1,h3]
 ·rw [if_pos h0]
  generalize oo p l ls=k at *;simp -implicitDefEqProofs [Z4p,Z4p_B,au,e,h0]
theorem a11 {O:ap} (hp:zk O) {p:Int} [IsP p] {xs:List (Fp p)} (hx:∀x∈xs,x.len≤11) (hl:xs.length<2000000):∀(k i:Nat) (L:List (Fp p)),i+k=xs.length→Desc 11 L →
 dn O 0 (.loop Z4t_L0) ⟨[(0,(.d (.int .i64 p))),(1,.d (.sl (.arr 64 .leaf) (xs.map bv))),(5,.d (.sl (.arr 64 .leaf) (L.map bv))),(6,(.d (.int .i64 i)))],[.hole]⟩ =
  some (.exit 0,⟨[(0,(.d (.int .i64 p))),(1,.d (.sl (.arr 64 .leaf) (xs.map bv))),(5,.d (.sl (.arr 64 .leaf) ((di (xs.drop i) L).map bv))),(6,(.d (.int .i64 xs.length))),(11,(.d (.bool false)))],[.hole]⟩)
 | 0,i,L,hi,hL=>by
  obtain rfl:i=xs.length:=by omega
  rw [fw];have hX:(xs.map bv).length=xs.length:=ab ..;refine cg ?_;show _=some (_,(⟨[_,_,(5,.d (.sl (.arr 64 .leaf) (L.map bv))),_,_],_⟩:St));generalize L.map bv=LD at *;generalize xs.map bv=XD at *;simp -implicitDefEqProofs [Z4t_L0,au,hX]
 | k+1,i,L,hi,hL=>by
  have hlt:i<xs.length:=by omega
  have hm1:=bb hlt;have e1:=hp p L xs[i] hL (hx _ hm1);have hX:(xs.map bv).length=xs.length:=ab ..;have w4:IntKind.i64.wrap ((i:Int)+1)=((i+1:Nat):Int):=(w64 (x:=(i:Int)+1) (by omega)).trans (by omega)
  have hx2:∀h:i<(xs.map bv).length,(xs.map bv)[i]'h=(D.arr 64 .leaf (aq .u8 (pad (row xs[i])))):=fun h=>by rw [ci]
  have hd:di (xs.drop i) L=di (xs.drop (i+1)) (ki L xs[i]):=by rw [cd hlt]; rfl
  rw [hd];refine bq ?_ (a11 hp hx hl k (i+1) (ki L xs[i]) (by omega) (re hL (hx _ hm1)))
  generalize pad (row xs[i])=Pi at *;generalize (ki L xs[i]).map bv=PD at *;generalize L.map bv=LD at *;generalize xs.map bv=XD at *;simp -implicitDefEqProofs [Z4t_L0,au,hlt,hX,hx2,e1,w4]
def Ey (O:ap):Prop:=∀(p:Int) [IsP p] (xs:List (Fp p)),(∀x∈xs,x.len≤11)→xs.length<2000000→ask O F4t [(D.int .i64 p),.sl (.arr 64 .leaf) (xs.map bv)]=some (.sl (.arr 64 .leaf) ((di xs []).map bv))
theorem ack (hT:T F4t=some Z4t) (hp:zk (den T A)):Ey (den T A):=by
 intro p ip xs hx hl;cases xs with
 | nil=>
  have st:=cg (O:=den T A) (np:=0) (c:=Z4t_L0) (s:=⟨[(0,(.d (.int .i64 p))),(1,.d (.sl (.arr 64 .leaf) [])),(5,.sl 0 [] 0 0 (some 0)),(6,(.d (.int .i64 0)))],[.sl false (.arr 64 .leaf) []]⟩) (s1:=⟨[(0,(.d (.int .i64 p))),(1,.d (.sl (.arr 64 .leaf) [])),(5,.sl 0 [] 0 0 (some 0)),(6,(.d (.int .i64 0))),(11,(.d (.bool false)))],[.sl false (.arr 64 .leaf) []]⟩) (id:=0) (by simp -implicitDefEqProofs [Z4t_L0,au])
  refine ch hT rfl ?_;simp -implicitDefEqProofs [Z4t,Z4t_B,st,di]
 | cons x xs=>
  have e1:=hp p [] x (Desc.nil 11) (hx x (by simp))
  have e2:=a11 (O:=den T A) hp hx hl xs.length 1 (ki [] x) (by rw [b9]; omega) (re (Desc.nil 11) (hx x (by simp)))
  have e01:((1:Nat):Int)=1:=rfl;rw [e01,show (x::xs).drop 1=xs from rfl,show di xs (ki [] x)=di (x::xs) [] from rfl] at e2;have hX:((x::xs).map bv).length=(x::xs).length:=ab ..;have hx2:∀h:0<((x::xs).map bv).length,((x::xs).map bv)[0]'h=(D.arr 64 .leaf (aq .u8 (pad (row x)))):=fun h=>rfl
  have hpos:(0:Int)<((x::xs).length:Int):=by rw [b9]; omega
  have hpos2:0<(x::xs).length:=by rw [b9]; omega
  have w1:IntKind.i64.wrap 1=1:=w64 (by omega)
  rw [fi] at e1;generalize (ki [] x).map bv=PD at *;generalize (di (x::xs) []).map bv=SD at *;generalize pad (row x)=Px at *;generalize (x::xs).map bv=XD at *;generalize (x::xs).length=n at *
  have st:=bq (O:=den T A) (np:=0) (c:=Z4t_L0) (s:=⟨[(0,(.d (.int .i64 p))),(1,.d (.sl (.arr 64 .leaf) XD)),(5,.sl 0 [] 0 0 (some 0)),(6,(.d (.int .i64 0)))],[.sl false (.arr 64 .leaf) []]⟩) (by
   simp -implicitDefEqProofs [Z4t_L0,au,hX,hx2,hpos2,e1,w1]) e2
  refine ch hT rfl ?_;simp -implicitDefEqProofs [Z4t,Z4t_B,st]
theorem O7 (hT:T F3i=some Z3i) (hc:yl (den T A)) (hsp:Ey (den T A)):oq (den T A) F3i:=by
 intro p l ls bl gl ha hl;have e1:=hc p l ls 4 bl gl ha hl;unfold rwD
 by_cases h:kw p l ls 0 4=0
 ·rw [h] at e1
  rw [dif_pos h];obtain ⟨⟨ip,m,rfl,hm,hs⟩,_,_⟩:=De h;obtain ⟨S,rfl,hS⟩:=rz hs;have h5:=hm.five;have hSl:S.length<2000000:=by rwa [ab] at hl
  have e3:=hsp p S (fun x hx=>by have:=hS x hx; omega) hSl
  have hmp:(S.map fun a=>pad (row a)).map (fc p)=S:=mc (S:=S) (fun a ha=>by have:=hS a ha; omega)
  have hmd:(S.map fun a=>pad (row a)).map ce=S.map bv:=ia S
  have hsl:((di S []).map bv).length=(di S []).length:=ab ..;rw [hmp,hmd];rw [hmd] at e1;refine ch hT rfl ?_;generalize (di S []).map bv=RD at *;generalize S.map bv=SD at *;generalize pad (row m)=Pm at *;simp -implicitDefEqProofs [Z3i,Z3i_B,au,e1,e3,hsl]
 ·rw [dif_neg h]
  refine ch hT rfl ?_;generalize kw p l ls 0 4=k at *;generalize ls.map ce=LD at *;simp -implicitDefEqProofs [Z3i,Z3i_B,au,e1,h]
end Pe
namespace Pe
open Go Gq
variable {T:Nat→Option Fn} {A:ap}
section
variable {p:Int} [IsP p]
end
open Classical in
noncomputable def spL (p:Int) (l:List Int) (ls:List (List Int)):List (List Int):=
 if h:qd p l ls then
  haveI:IsP p:=h.choose
  skP (di (ls.map (fc p)) [])
 else []
theorem Ej {p:Int} [IsP p] {m:Fp p} {S:List (Fp p)} (h:qd p (pad (row m)) (skP S)) (hS:∀a∈S,a.len≤64):spL p (pad (row m)) (skP S)=skP (di S []):=by
 unfold spL;rw [dif_pos h,mc hS]
theorem T0 {p:Int} {l:List Int} {ls:List (List Int)} (h:¬ qd p l ls):spL p l ls=[]:=by unfold spL; rw [dif_neg h]
theorem aeq (p:Int) (l:List Int) (ls:List (List Int)):(∀x∈spL p l ls,x.length=64)∧(spL p l ls).length≤11:=by
 by_cases h:qd p l ls
 ·have h':=h
  obtain ⟨ip,m,rfl,hm,hs⟩:=h;obtain ⟨S,rfl,hS⟩:=rz hs;have h5:=hm.five;rw [Ej h' (fun a ha=>by have:=hS a ha; omega)]
  refine ⟨fun x hx=>by obtain ⟨a,_,rfl⟩:=ct.1 hx; exact dc _,?_⟩
  have:=(sr (N:=11) (xs:=S) (Desc.nil 11) (fun a ha=>by have:=hS a ha; omega)).length
  rw [ab]; exact this
 ·rw [T0 h]; exact ⟨fun x hx=>by simp at hx,by simp⟩
noncomputable def spD (p:Int) (l:List Int) (ls:List (List Int)):D:=.tup [.sl (.arr 64 .leaf) ((spL p l ls).map ce),(D.int .i64 (oo p l ls))]
theorem xf {p:Int} {l:List Int} {ls:List (List Int)} (h:¬ qd p l ls):oo p l ls=1:=by
 rcases a2q p l ls with c | c
 ·exact absurd (nm.1 c) h
 ·exact c
def wj (O:ap) (F:Nat):Prop:=∀(p:Int) (l:List Int) (ls:List (List Int)),je l→l.length=64→v6 ls→ls.length<2000000→ask O F [(D.int .i64 p),(D.arr 64 .leaf (aq .u8 l)),.sl (.arr 64 .leaf) (ls.map ce)]=some (spD p l ls)
theorem a76 (hT:T Fc=some Zc) (hc:lg (den T A) F1n) (hro:Aj (den T A)) (hre:Bq (den T A)) (hpo:Co (den T A)):wj (den T A) Fc:=by
 intro p l ls bl gl ha hl;have e1:=hc p l ls bl gl ha hl;unfold spD
 by_cases h:qd p l ls
 ·have h':=h
  rw [nm.2 h] at e1 ⊢;obtain ⟨ip,m,rfl,hm,hs⟩:=h;obtain ⟨S,rfl,hS⟩:=rz hs;have h5:=hm.five;have hSl:S.length<2000000:=by rwa [ab] at hl
  have hd:=sr (N:=11) (xs:=S) (Desc.nil 11) (fun a ha=>by have:=hS a ha; omega)
  have hdl:=hd.length;have e2:=hro p S hSl (fun x hx=>by have:=hS x hx; omega)
  have e3:=hre p S (fun x hx=>by have:=hS x hx; omega) hSl
  have e4:=hpo p (di S []) (by omega) (fun x hx=>by have:=hd.le x hx; omega)
  have hmd:(S.map fun a=>pad (row a)).map ce=S.map bv:=ia S
  rw [Ej h' (fun a ha=>by have:=hS a ha; omega),hmd,show (skP (di S [])).map ce=(di S []).map bv from ia _]
  rw [hmd] at e1;refine ch hT rfl ?_;generalize (di S []).map bv=R1 at *;generalize (di S []).map cz=R2 at *;generalize S.map bv=SD at *;generalize S.map cz=RD at *;generalize pad (row m)=Pm at *;simp -implicitDefEqProofs [Zc,Zc_B,au,e1,e2,e3,e4]
 ·rw [xf h] at e1 ⊢
  rw [T0 h,fi];refine ch hT rfl ?_;generalize ls.map ce=LD at *;simp -implicitDefEqProofs [Zc,Zc_B,au,e1]
theorem a2m (hT:T F3j=some Z3j) (hc:lg (den T A) F4j) (hsp:Ey (den T A)):wj (den T A) F3j:=by
 intro p l ls bl gl ha hl;have e1:=hc p l ls bl gl ha hl;unfold spD
 by_cases h:qd p l ls
 ·have h':=h
  rw [nm.2 h] at e1 ⊢;obtain ⟨ip,m,rfl,hm,hs⟩:=h;obtain ⟨S,rfl,hS⟩:=rz hs;have h5:=hm.five;have hSl:S.length<2000000:=by rwa [ab] at hl
  have e3:=hsp p S (fun x hx=>by have:=hS x hx; omega) hSl
  have hmd:(S.map fun a=>pad (row a)).map ce=S.map bv:=ia S
  rw [Ej h' (fun a ha=>by have:=hS a ha; omega),hmd,show (skP (di S [])).map ce=(di S []).map bv from ia _]
  rw [hmd] at e1;refine ch hT rfl ?_;generalize (di S []).map bv=R1 at *;generalize S.map bv=SD at *;generalize pad (row m)=Pm at *;simp -implicitDefEqProofs [Z3j,Z3j_B,au,e1,e3]
 ·rw [xf h] at e1 ⊢
  rw [T0 h,fi];refine ch hT rfl ?_;generalize ls.map ce=LD at *;simp -implicitDefEqProofs [Z3j,Z3j_B,au,e1]
end Pe
namespace Pe
open Go Gq
variable {T:Nat→Option Fn} {A:ap}
section
variable {p:Int} [IsP p]
end
section
variable {α:Type}
end
def Jn (O:ap):Prop:=∀(p:Int) [IsP p] (m a:Fp p),m≠0→m.len≤63→a≠0→a.len<m.len→ask O F4d [(D.int .i64 p),(D.arr 64 .leaf (aq .u8 (pad (row a)))),(D.arr 64 .leaf (aq .u8 (pad (row m))))]=some (D.arr 64 .leaf (aq .u8 (pad (row (jx m a)))))
theorem ac3 (hT:T F4d=some Z4d) (hmo:Ap (den T A)) (hb:Bw (den T A)):Jn (den T A):=by
 intro p ip m a hm hml ha hal;have e2:=hb p a m (.inl ha) (by omega) (by omega)
 have e3:=hmo p (Pol.bezout a m).2.1 m hm (afu ha hml) (by omega)
 have e4:(Pol.bezout a m).2.1%m=jx m a:=rfl;rw [e4] at e3;refine ch hT rfl ?_;generalize pad (row (jx m a))=R at *;generalize pad (row (Pol.bezout a m).1)=R1 at *;generalize pad (row (Pol.bezout a m).2.1)=R2 at *;generalize pad (row (Pol.bezout a m).2.2)=R3 at *;generalize pad (row a)=Pa at *;generalize pad (row m)=Pm at *;simp -implicitDefEqProofs [Z4d,Z4d_B,e2,e3,List.replicate]
noncomputable abbrev eS {p:Int} (X:List (Fp p)):D:=vg (skP (pd8 X))
theorem zd {p:Int} (X:List (Fp p)):eS X=.arr 8 (.arr 64 .leaf) ((skP (pd8 X)).map ce):=rfl
theorem aeo {p:Int} {X:List (Fp p)} {i:Nat} (hX:X.length≤8) (hi:i<8):∀h:i<((skP (pd8 X)).map ce).length,((skP (pd8 X)).map ce)[i]'h=(D.arr 64 .leaf (aq .u8 (pad (row (cS X i))))):=fun h=>by
 rw [ci,ci,Ab (by rw [oe hX]; exact hi),Xs]
theorem afc {p:Int} {X:List (Fp p)} (hX:X.length≤8):((skP (pd8 X)).map ce).length=8:=by rw [ab,ab,oe hX]
def Bz (O:ap):Prop:=∀(p:Int) [IsP p] (m:Fp p) (X Y:List (Fp p)),Fld m→Sk m X→Sk m Y→X.length+Y.length≤9→ask O F4k [(D.int .i64 p),(D.arr 64 .leaf (aq .u8 (pad (row m)))),eS X,eS Y]=some (.tup [eS (gh m X Y),(D.bool true)])
theorem G6 {p:Int} {m:Fp p} {X:List (Fp p)} (hm:m≠0) (hX:∀c∈X,c.len<m.len):∀c∈pd8 X,c.len<m.len:=fun c hc=>by
 unfold pd8 at hc;rcases bi.1 hc with h | h
 ·exact hX c h
 ·rw [k9 h,Pol.len_zero]; exact Pol.len_pos hm
theorem a2v {O:ap} (h:Gt O):Bz O:=by
 intro p ip m X Y hm hX hY h9;have h5:=hm.five;have e:=h p m (pd8 X) (pd8 Y) hm.two (by omega) (oe hX.eight) (oe hY.eight) (G6 hm.mon.2 hX.res) (G6 hm.mon.2 hY.res)
 rw [a2i hX.trim hY.trim h9 hX.res hY.res hm] at e;exact e
def Jh (O:ap):Prop:=∀(p:Int) [IsP p] (m:Fp p) (X:List (Fp p)),m≠0→m.len≤64→Sk m X→ask O F48 [eS X]=some (D.int .i64 ((X.length:Int)-1))
theorem acm {O:ap} (h:E9 O):Jh O:=by
 intro p ip m X hm hml hX;have e:=h p (pd8 X) (oe hX.eight) (fun c hc=>by have:=G6 hm hX.res c hc; omega)
 rw [←E2 (oe hX.eight),Eb hX.trim] at e;exact e
section
variable {p:Int} [IsP p]
theorem a2b {m x:Fp p} {i n:Nat}:∀(k:Nat) (b Q:List (Fp p)),i+k+b.length≤Q.length→cS (mg m x i k b Q) n=if i+k≤n∧n<i+k+b.length then cS Q n+x*ep m (i%(m.len-1)) (cS b (n-(i+k)))%m else cS Q n
 | k,[],Q,_=>by rw [if_neg (by rw [cb]; omega)]; rfl
 | k,y::ys,Q,h=>by
  rw [b9] at h;show cS (mg m x i (k+1) ys (jd Q (i+k) _)) n=_;rw [a2b (k+1) ys _ (by rw [qv]; omega)]
  have hadd:∀v:Fp p,cS (jd Q (i+k) v) n=if n=i+k then cS Q n+v else cS Q n:=fun v=>by
   unfold jd;rw [afv (by omega)]
   split
   ·rename_i h; rw [h]; rfl
   ·rfl
  rw [hadd]
  by_cases h1:n=i+k
  ·subst h1
   rw [if_neg (by omega),if_pos rfl,if_pos (by rw [b9]; omega),jh]
   rfl
  ·rw [if_neg h1]
   by_cases h2:i+k≤n∧n<i+k+(y::ys).length
   ·rw [b9] at h2
    rw [if_pos (by omega),if_pos (by rw [b9]; omega)]
    have:cS (y::ys) (n-(i+k))=cS ys (n-(i+(k+1))):=by
     unfold cS;rw [show n-(i+k)=(n-(i+(k+1)))+1 by omega,iz]
    rw [this]
   ·rw [if_neg h2,if_neg (by rw [b9] at h2; omega)]
theorem a8m {m x:Fp p} (hm:m≠0) (X:List (Fp p)) (i:Nat):cS (gh m (f8 x 0) X) i=x*cS X i%m:=by
 unfold gh;have hz:x*0%m=0:=by rw [Gq.mul_zero,Pol.zero_mod hm]
 by_cases h0:X.length=0
 ·rw [if_pos (.inr h0),a8i,Cu (by omega),hz]
 ·rw [if_neg (by rw [jy]; omega),zo]
  show cS (mg m x 0 0 X (List.replicate ((f8 x 0).length+X.length-1) 0)) i=_;rw [jy,a2b 0 X _ (by rw [cw]; omega),Nat.zero_mod]
  have hr:cS (List.replicate (0+1+X.length-1) (0:Fp p)) i=0:=by
   unfold cS;rw [iw]
   split <;> rfl
  rw [hr]
  split
  ·rw [Gq.zero_add]; rfl
  ·rw [Cu (A:=X) (by omega),hz]
noncomputable def a6o (m:Fp p) (X:List (Fp p)):List (Fp p):=gh m (f8 (jx m (cS X (X.length-1))) 0) X
theorem Sk.mon {m:Fp p} {X:List (Fp p)} (hm:m≠0) (hX:Sk m X):Sk m (a6o m X):=by
 have h1:=Pol.len_pos hm;have hl:=Bb (m:=m) (a:=f8 (jx m (cS X (X.length-1))) 0) (b:=X);rw [jy] at hl;have h8:=hX.eight;exact ⟨sz _ _ _,by unfold a6o; omega,fun c hc=>by have:=t8 (N:=m.len-1) hm (by omega) c hc; omega⟩
end
section
variable {p:Int}
end
section
variable {p:Int} [IsP p]
theorem Hv {m:Fp p} (hm:Fld m) {X Y:List (Fp p)} (hX:m9 X) (hY:m9 Y) (hXl:∀c∈X,c.len<m.len) (hYl:∀c∈Y,c.len<m.len) (h1:1≤X.length) (h2:1≤Y.length):(gh m X Y).length=X.length+Y.length-1:=by
 obtain ⟨a,ea,la⟩:=Bv h1;obtain ⟨b,eb,lb⟩:=Bv h2;have hx:=hX (X.length-1) (by omega)
 have hy:=hY (Y.length-1) (by omega)
 have ht:=Tp hm (a:=a) (b:=b) hx (hXl _ (by rw [←Ab (show X.length-1<X.length by omega)]; exact bb _)) hy (hYl _ (by rw [←Ab (show Y.length-1<Y.length by omega)]; exact bb _))
 rw [←ea,←eb] at ht;unfold gh;rw [if_neg (by omega),ht]
 unfold tw;rw [mi,cw]
theorem a26:(1:Fp p)≠0:=fun h=>by
 have e:(1:Fp p).len=1:=Pol.len_one;rw [h,Pol.len_zero] at e;cases e
theorem Gn {m:Fp p} (hm:Fld m):Sk m (f8 (1:Fp p) 0):=⟨Ir a26 0,by rw [jy]; omega,fun c hc=>by
 unfold f8 at hc;rw [List.replicate_zero,d9] at hc;rw [cj.1 hc];have:=hm.two;have:(1:Fp p).len=1:=Pol.len_one;omega⟩
end
def Rr (O:ap):Prop:=∀(p:Int) [IsP p],ask O F4g []=some (eS (f8 (1:Fp p) 0))
theorem ace (hT:T F4g=some Z4g) (h1:A4 (den T A)):Rr (den T A):=by
 intro p ip;have e1:=h1 p
 have e2:skP (pd8 (f8 (1:Fp p) 0))=pad (row (1:Fp p))::List.replicate 7 (pad []):=by
  show pad (row (1:Fp p))::(List.replicate 7 (0:Fp p)).map (fun a=>pad (row a))=_
  rw [gz,row_zero]
 have e3:(pad (row (1:Fp p))::List.replicate 7 (pad [])).map ce=z8.set 0 (D.arr 64 .leaf (aq .u8 (pad (row (1:Fp p))))):=rfl;rw [zd,e2,e3];refine ch hT rfl ?_;generalize pad (row (1:Fp p))=P1 at *;simp -implicitDefEqProofs [Z4g,Z4g_B,e1,z8,List.replicate]
section
variable {p:Int} [IsP p]
end
end Pe
namespace Pe
open Go Gq
section
variable {p:Int}
noncomputable def sg {m:Fp p}:Nat→Quo m→Quo m
 | 0,x=>x
 | k+1,x=>sg k (pw x p.toNat)
theorem P8 [IsP p] {m:Fp p}:∀(k:Nat) (a:Fp p),Quo.mk m (ep m k a)=sg k (Quo.mk m a)
 | 0,_=>rfl
 | k+1,a=>by
  show Quo.mk m (ep m k (pw a p.toNat%m))=sg k (pw (Quo.mk m a) p.toNat);rw [P8 k,Pol.mk_mod,Quo.mk_pow]
theorem Vw [IsP p] {m:Fp p}:pw (0:Quo m) p.toNat=0:=by
 have h:=IsP.pos (p:=p);have:p.toNat=(p.toNat-1)+1:=by omega
 rw [this];show pw (0:Quo m) (p.toNat-1)*0=0;exact Gq.mul_zero _
theorem vj [IsP p] {m:Fp p}:∀k,sg k (0:Quo m)=0
 | 0=>rfl
 | k+1=>by
  show sg k (pw (0:Quo m) p.toNat)=0;rw [Vw,vj k]
theorem a5r {m:Fp p}:∀k,sg k (1:Quo m)=1
 | 0=>rfl
 | k+1=>by
  show sg k (pw (1:Quo m) p.toNat)=1;rw [Hq,a5r k]
section
variable {m:Fp p}
noncomputable def Rop (t0 t1 t2:Quo m) (X:Nat→Quo m):Nat→Quo m
 | 0=>X 0*t0
 | 1=>X 1*sg 1 t0+X 0*t1
 | n+2=>X (n+2)*sg (n+2) t0+X (n+1)*sg (n+1) t1+X n*sg n t2
noncomputable def e0:Nat→Quo m
 | 0=>1
 | _+1=>0
theorem anv (t0 t1 t2 a b c d e f g h i s u v:Quo m):t0*(a*s+b*u+c*v)+t1*(d*s+e*u+f*v)+t2*(g*s+h*u+i*v)=(t0*a+t1*d+t2*g)*s+(t0*b+t1*e+t2*h)*u+(t0*c+t1*f+t2*i)*v:=by
 have l:∀t a b c:Quo m,t*(a*s+b*u+c*v)=t*a*s+t*b*u+t*c*v:=fun t a b c=>bo [t,a,b,c,s,u,v] rfl
 have q:∀x y z w:Quo m,(x+y+z)*w=x*w+y*w+z*w:=fun x y z w=>bo [x,y,z,w] rfl
 have z:∀p1 p2 p3 q1 q2 q3 r1 r2 r3:Quo m,(p1+p2+p3)+(q1+q2+q3)+(r1+r2+r3)=(p1+q1+r1)+(p2+q2+r2)+(p3+q3+r3):=fun p1 p2 p3 q1 q2 q3 r1 r2 r3=>bo [p1,p2,p3,q1,q2,q3,r1,r2,r3] rfl
 rw [l,l,l,q,q,q,z]
theorem eight [IsP p] (t0 t1 t2 a b c d e f g h s u v:Quo m):t0*(a*s+b*u+c*v)+t1*(d*s+e*u+f*v)+t2*(g*s+h*u)=(t0*a+t1*d+t2*g)*s+(t0*b+t1*e+t2*h)*u+(t0*c+t1*f)*v:=by
 have:=anv t0 t1 t2 a b c d e f g h 0 s u v;simp only [Gq.zero_mul,Gq.mul_zero,Gq.add_zero] at this;exact this
noncomputable def Rk (t0 t1 t2:Quo m):Nat→Nat→Quo m
 | 0=>e0
 | k+1=>Rop t0 t1 t2 (Rk t0 t1 t2 k)
noncomputable def agh (t0 t1 t2:Quo m):(Nat→Quo m)→Nat→Nat→Nat→Quo m
 | _,_,0,_=>0
 | c,k,n+1,i=>c 0*Rk t0 t1 t2 k i+agh t0 t1 t2 (fun j=>c (j+1)) (k+1) n i
end
noncomputable def qcf (m:Fp p) (A:List (Fp p)) (n:Nat):Quo m:=Quo.mk m (cS A n)
noncomputable def ajn [IsP p] (m t0 t1 t2 a:Fp p) (n:Nat):Nat→List (Fp p)
 | 0=>[]
 | j+1=>wk 1 (gh m (ajn m t0 t1 t2 a n j) [t0,t1,t2]) (f8 (Pol.C (a.c (n-1-j))) 0)
noncomputable def nmS [IsP p] (m x:Fp p):Nat→Fp p
 | 0=>1
 | i+1=>nmS m x i*ep m i x%m
theorem a1t [IsP p] {m a:Fp p} (hm:Irr m):∀l:List (Fp p),Dv m (l.foldr (fun c r=>(a-c)*r) 1)→∃c∈l,Dv m (a-c)
 | [],h=>by
  have h0:Dv m 1:=h;have h1:=h0.len Pol.one_ne;have:=hm.len;rw [Pol.len_one] at h1;omega
 | c::l,h=>by
  rcases hm.prime (show Dv m ((a-c)*_) from h) with h1 | h1
  ·exact ⟨c,by simp,h1⟩
  ·obtain ⟨d,hd,h2⟩:=a1t hm l h1
   exact ⟨d,by simp [hd],h2⟩
theorem Sr {m:Fp p} {n:Int} (h:p=n):(ic n:Quo m)=0:=by
 subst h;exact ahz
theorem acq [IsP p] {m a:Fp p} (h2:2≤m.len) (hi:Irr m) (hal:a.len<m.len) (h:pw (Quo.mk m a) p.toNat=Quo.mk m a):a.len≤1:=by
 have main:∀l:List (Fp p),(∀c∈l,c.len≤1)→l.foldr (fun c r=>(Quo.mk m a-Quo.mk m c)*r) (1:Quo m)=0→a.len≤1:=by
  intro l hl hz
  have e:∀l:List (Fp p),Quo.mk m (l.foldr (fun c r=>(a-c)*r) 1)=l.foldr (fun c r=>(Quo.mk m a-Quo.mk m c)*r) (1:Quo m):=by
   intro l
   induction l with
   | nil=>rfl
   | cons c l ih=>
    show Quo.mk m ((a-c)*_)=(Quo.mk m a-Quo.mk m c)*_;rw [Quo.mk_mul,Quo.mk_sub,ih]
  obtain ⟨c,hc,hd⟩:=a1t (a:=a) hi l (pa.2 ((e l).trans hz));have hcl:=hl c hc
  have hz:a-c=0:=by
   rcases Classical.em (a-c=0) with h0 | h0
   ·exact h0
   ·have:=hd.len h0
    have:(a-c).len≤m.len-1:=by
     rw [Gq.sub_eq];exact Pol.len_add_le (by omega) (by rw [Pol.len_neg]; omega)
    omega
  have:a=c:=by
   have h3:a=(a-c)+c:=bo [a,c] rfl;rw [h3,hz,Gq.zero_add]
  rw [this]; exact hcl
 have c0:(0:Fp p).len≤1:=by rw [Pol.len_zero]; omega
 have c1:(1:Fp p).len≤1:=by rw [Pol.len_one]; omega
 have cs:∀c:Fp p,c.len≤1→(c+1).len≤1:=fun c hc=>Pol.len_add_le hc c1
 have k0:∀c:Fp p,c=0→c.len≤1:=fun c hc=>by rw [hc]; exact c0
 rcases IsP.h (p:=p) with hp | hp | hp | hp
 ·have hn:p.toNat=2:=by omega
  rw [hn] at h;refine main [0,1] (by intro c hc; simp at hc; rcases hc with rfl | rfl <;> assumption) ?_
  have h':Quo.mk m a^2=Quo.mk m a:=h;show (Quo.mk m a-0)*((Quo.mk m a-1)*1)=0;generalize Quo.mk m a=y at h';have e:(y-0)*((y-1)*1)=y^2-y:=bo [y] rfl;rw [e,h'];exact bo [y] rfl
 ·have hn:p.toNat=3:=by omega
  have hz:=Sr (m:=m) hp;rw [hn] at h;refine main [0,1,1+1] (by intro c hc; simp at hc; rcases hc with rfl | rfl | rfl <;> first | exact c0 | exact c1 | exact cs _ c1 | exact cs _ (cs _ c1) | exact cs _ (cs _ (cs _ c1)) | exact cs _ (cs _ (cs _ (cs _ c1))) | exact cs _ (cs _ (cs _ (cs _ (cs _ c1))))) ?_
  have h':Quo.mk m a^3=Quo.mk m a:=h;show (Quo.mk m a-0)*((Quo.mk m a-1)*((Quo.mk m a-(1+1))*1))=0;generalize Quo.mk m a=y at h';have e:(y-0)*((y-1)*((y-(1+1))*1))=y^3-y+ic 3*(y-y^2):=bo [y] rfl;rw [e,h',hz];exact bo [y] rfl
 ·have hn:p.toNat=5:=by omega
  have hz:=Sr (m:=m) hp;rw [hn] at h;refine main [0,1,1+1,1+1+1,1+1+1+1] (by intro c hc; simp at hc; rcases hc with rfl | rfl | rfl | rfl | rfl <;> first | exact c0 | exact c1 | exact cs _ c1 | exact cs _ (cs _ c1) | exact cs _ (cs _ (cs _ c1)) | exact cs _ (cs _ (cs _ (cs _ c1))) | exact cs _ (cs _ (cs _ (cs _ (cs _ c1))))) ?_
  have h':Quo.mk m a^5=Quo.mk m a:=h;show (Quo.mk m a-0)*((Quo.mk m a-1)*((Quo.mk m a-(1+1))*((Quo.mk m a-(1+1+1))*((Quo.mk m a-(1+1+1+1))*1))))=0;generalize Quo.mk m a=y at h';have e:(y-0)*((y-1)*((y-(1+1))*((y-(1+1+1))*((y-(1+1+1+1))*1))))=y^5-y+ic 5*(ic 7*y^3+ic 5*y-ic 2*y^4-ic 10*y^2):=bo [y] rfl;rw [e,h',hz];exact bo [y] rfl
 ·have hn:p.toNat=7:=by omega
  have hz:=Sr (m:=m) hp;rw [hn] at h;refine main [0,1,1+1,1+1+1,1+1+1+1,1+1+1+1+1,1+1+1+1+1+1] (by intro c hc; simp at hc; rcases hc with rfl | rfl | rfl | rfl | rfl | rfl | rfl <;> first | exact c0 | exact c1 | exact cs _ c1 | exact cs _ (cs _ c1) | exact cs _ (cs _ (cs _ c1)) | exact cs _ (cs _ (cs _ (cs _ c1))) | exact cs _ (cs _ (cs _ (cs _ (cs _ c1))))) ?_
  have h':Quo.mk m a^7=Quo.mk m a:=h;show (Quo.mk m a-0)*((Quo.mk m a-1)*((Quo.mk m a-(1+1))*((Quo.mk m a-(1+1+1))*((Quo.mk m a-(1+1+1+1))*((Quo.mk m a-(1+1+1+1+1))*((Quo.mk m a-(1+1+1+1+1+1))*1))))))=0;generalize Quo.mk m a=y at h';have e:(y-0)*((y-1)*((y-(1+1))*((y-(1+1+1))*((y-(1+1+1+1))*((y-(1+1+1+1+1))*((y-(1+1+1+1+1+1))*1))))))=y^7-y+ic 7*(ic 25*y^5+ic 232*y^3+ic 103*y-ic 3*y^6-ic 105*y^4-ic 252*y^2):=bo [y] rfl;rw [e,h',hz];exact bo [y] rfl
end
section
variable {p:Int}
theorem Jb [IsP p] {m:Fp p}:∀(k:Nat) (x y:Quo m),sg k (x+y)=sg k x+sg k y
 | 0,_,_=>rfl
 | k+1,x,y=>by
  show sg k (pw (x+y) p.toNat)=sg k (pw x p.toNat)+sg k (pw y p.toNat);rw [Jz,Jb k]
theorem ui {m:Fp p}:∀(k:Nat) (x y:Quo m),sg k (x*y)=sg k x*sg k y
 | 0,_,_=>rfl
 | k+1,x,y=>by
  show sg k (pw (x*y) p.toNat)=sg k (pw x p.toNat)*sg k (pw y p.toNat);rw [zj,ui k]
theorem Q3 [IsP p] {m:Fp p} (c:Zp p):∀k,sg k (Quo.mk m (Pol.C c))=Quo.mk m (Pol.C c)
 | 0=>rfl
 | k+1=>by
  show sg k (pw (Quo.mk m (Pol.C c)) p.toNat)=_;rw [←Quo.mk_pow,←aba,Dd,Q3 c k]
theorem Gg {m:Fp p} (i:Nat):∀(j:Nat) (x:Quo m),sg i (sg j x)=sg (i+j) x
 | 0,_=>rfl
 | j+1,x=>by
  show sg i (sg j (pw x p.toNat))=sg (i+j) (pw x p.toNat);exact Gg i j _
noncomputable def vq {m:Fp p} (X:Quo m):Nat→List (Fp p)→Quo m
 | _,[]=>0
 | i,c::cs=>Quo.mk m c*sg i X+vq X (i+1) cs
theorem acz [IsP p] {m x:Fp p} (hm:Fld m) (hx:x.len<m.len):∀(i:Nat) (A:List (Fp p)) (out:Fp p),Quo.mk m (svI m x i A out)=Quo.mk m out+vq (Quo.mk m x) i A
 | i,[],out=>(Gq.add_zero _).symm
 | i,c::cs,out=>by
  show Quo.mk m (svI m x (i+1) cs (out+c*ep m (i%(m.len-1)) x%m))=_;rw [acz hm hx (i+1) cs,Quo.mk_add,Pol.mk_mod,Quo.mk_mul,yg hm i hx,P8];exact Gq.add_assoc _ _ _
noncomputable def pq [IsP p] (m:Fp p) (A:List (Fp p)) (x:Fp p):Quo m:=Quo.mk m (svI m x 0 A 0)
theorem xx [IsP p] {m x:Fp p} (hm:Fld m) (hx:x.len<m.len) (A:List (Fp p)):pq m A x=vq (Quo.mk m x) 0 A:=by
 unfold pq;rw [acz hm hx,Quo.mk_zero,Gq.zero_add]
theorem a7z [IsP p] {m:Fp p} (X Y:Quo m):∀(A:List (Fp p)) (i:Nat),vq (X+Y) i A=vq X i A+vq Y i A
 | [],_=>(Gq.add_zero _).symm
 | c::cs,i=>by
  show Quo.mk m c*sg i (X+Y)+vq (X+Y) (i+1) cs=(Quo.mk m c*sg i X+vq X (i+1) cs)+(Quo.mk m c*sg i Y+vq Y (i+1) cs);rw [Jb,a7z X Y cs];exact bo [Quo.mk m c,sg i X,sg i Y,vq X (i+1) cs,vq Y (i+1) cs] rfl
theorem J8 [IsP p] {m:Fp p} (k:Zp p) (X:Quo m):∀(A:List (Fp p)) (i:Nat),vq (Quo.mk m (Pol.C k)*X) i A=Quo.mk m (Pol.C k)*vq X i A
 | [],_=>(Gq.mul_zero _).symm
 | c::cs,i=>by
  show Quo.mk m c*sg i (Quo.mk m (Pol.C k)*X)+vq (Quo.mk m (Pol.C k)*X) (i+1) cs=Quo.mk m (Pol.C k)*(Quo.mk m c*sg i X+vq X (i+1) cs);rw [ui,Q3,J8 k X cs];exact bo [Quo.mk m c,Quo.mk m (Pol.C k),sg i X,vq X (i+1) cs] rfl
theorem a8c {m:Fp p} (X:Quo m) (v:Fp p):∀(Q:List (Fp p)) (i j:Nat),j<Q.length→vq X i (jd Q j v)=vq X i Q+Quo.mk m v*sg (i+j) X
 | [],_,_,h=>by simp at h
 | c::cs,i,0,_=>by
  show Quo.mk m (c+v)*sg i X+vq X (i+1) cs=Quo.mk m c*sg i X+vq X (i+1) cs+Quo.mk m v*sg (i+0) X;rw [Quo.mk_add,fj];exact bo [Quo.mk m c,Quo.mk m v,sg i X,vq X (i+1) cs] rfl
 | c::cs,i,j+1,h=>by
  have e:jd (c::cs) (j+1) v=c::jd cs j v:=rfl;rw [e];show Quo.mk m c*sg i X+vq X (i+1) (jd cs j v)=Quo.mk m c*sg i X+vq X (i+1) cs+Quo.mk m v*sg (i+(j+1)) X;rw [a8c X v cs (i+1) j (by simpa using h),show i+1+j=i+(j+1) by omega]
  exact (Gq.add_assoc _ _ _).symm
theorem Th {m:Fp p} (X:Quo m):∀(n i:Nat),vq X i (List.replicate n (0:Fp p))=0
 | 0,_=>rfl
 | n+1,i=>by
  show Quo.mk m 0*sg i X+vq X (i+1) (List.replicate n 0)=0;rw [Th X n,Quo.mk_zero,Gq.zero_mul,Gq.add_zero]
theorem Xu [IsP p] {m c:Fp p} (hm:Fld m) (X:Quo m) {i:Nat}:∀(b:List (Fp p)) (k:Nat) (Q:List (Fp p)),(∀y∈b,y.len<m.len)→i+k+b.length≤Q.length→vq X 0 (mg m c i k b Q)=vq X 0 Q+Quo.mk m c*sg i (vq X k b)
 | [],_,Q,_,_=>by
  show vq X 0 Q=vq X 0 Q+Quo.mk m c*sg i 0;rw [vj,Gq.mul_zero,Gq.add_zero]
 | y::ys,k,Q,hb,h=>by
  rw [b9] at h;show vq X 0 (mg m c i (k+1) ys (jd Q (i+k) _))=vq X 0 Q+Quo.mk m c*sg i (Quo.mk m y*sg k X+vq X (k+1) ys);rw [Xu hm X ys (k+1) _ (fun z hz=>hb z (by simp [hz])) (by rw [qv]; omega),a8c X _ Q 0 (i+k) (by omega),Pol.mk_mod,Quo.mk_mul,yg hm i (hb y (by simp)),P8,br,Jb,ui,Gg]
  exact bo [vq X 0 Q,Quo.mk m c,sg i (Quo.mk m y),sg (i+k) X,sg i (vq X (k+1) ys)] rfl
theorem Ln [IsP p] {m c0 x:Fp p} (hm:Fld m) {A:List (Fp p)} (hA:∀y∈A,y.len<m.len) (hx:x.len<m.len) (h1:1≤A.length):pq m (gh m [c0,1] A) x=Quo.mk m c0*pq m A x+sg 1 (pq m A x):=by
 have h0:=hm.mon.2
 have e1:pq m (gh m [c0,1] A) x=pq m (tw m [c0,1] A) x:=by
  unfold gh pq;rw [if_neg (by simp only [b9]; omega),Ve h0]
 rw [e1,xx hm hx,xx hm hx];show vq _ 0 (mg m 1 1 0 A (mg m c0 0 0 A (List.replicate ([c0,1].length+A.length-1) 0)))=_;have hl:(List.replicate ([c0,(1:Fp p)].length+A.length-1) (0:Fp p)).length=A.length+1:=by rw [cw]; simp only [b9,cb]; omega
 rw [Xu hm _ A 0 _ hA (by rw [oa]; omega),Xu hm _ A 0 _ hA (by omega),Th,Gq.zero_add,Quo.mk_one,Gq.one_mul]
 rfl
theorem U9 [IsP p] {m:Fp p} (hm:Fld m) {A:List (Fp p)} {a b:Fp p} (ha:a.len<m.len) (hb:b.len<m.len) (hk:pq m A b=0):pq m A (elim b a)=pq m A a:=by
 have hl:(elim b a).len≤m.len-1:=ve (by omega) (by omega)
 rw [xx hm (by omega),xx hm ha]
 rw [xx hm hb] at hk;unfold elim;rw [Quo.mk_add,Quo.mk_mul,a7z,J8,hk,Gq.mul_zero,Gq.add_zero]
theorem R9 [IsP p] {m:Fp p} (hm:Fld m) {A:List (Fp p)}:∀(L:List (Fp p)) (x:Fp p),(∀b∈L,b.len<m.len∧pq m A b=0)→x.len<m.len→pq m A (dl L x)=pq m A x
 | [],_,_,_=>rfl
 | b::bs,x,h,hx=>by
  have hb:=h b (by simp)
  have hl:(elim b x).len≤m.len-1:=ve (by omega) (by omega)
  show pq m A (dl bs (elim b x))=_;rw [R9 hm bs (elim b x) (fun c hc=>h c (by simp [hc])) (by omega),U9 hm hx hb.1 hb.2]
theorem Uv [IsP p] {m:Fp p} (hm:Fld m) {A:List (Fp p)} {x:Fp p} (hx:x.len<m.len) (k:Zp p) (hk:pq m A x=0):pq m A (Pol.C k*x)=0:=by
 have hl:(Pol.C k*x).len<m.len:=by
  have h2:=hm.two;have:(Pol.C k*x).len≤m.len-1:=Pol.len_le fun j hj=>by rw [Pol.c_Cmul,a8y (by omega),Gq.mul_zero]
  omega
 rw [xx hm hl,Quo.mk_mul,J8,←xx hm hx,hk,Gq.mul_zero]
theorem B6 (a:Fp p) (L:List (Fp p)):(xj a L).length=L.length+1:=by
 rw [(ug a L).length_eq,b8,ab]; rfl
noncomputable def lsC [IsP p] (m v:Fp p):Fp p:=Pol.C (zp p (-1))*(ep m 1 v*jx m v%m)
noncomputable def lsN [IsP p] (m:Fp p) (A:List (Fp p)) (x:Fp p):List (Fp p):=if (svI m x 0 A 0).len=0 then A else gh m [lsC m (svI m x 0 A 0),1] A
noncomputable def lsS [IsP p] (m:Fp p):List (Fp p)→List (Fp p)→List (Fp p)
 | [],A=>A
 | x::xs,A=>lsS m xs (lsN m A x)
theorem Gc [IsP p] {m v:Fp p} (hm:Fld m):(lsC m v).len<m.len:=by
 have h1:=Pol.len_mod (ep m 1 v*jx m v) hm.mon.2;have:(lsC m v).len≤m.len-1:=Pol.len_le fun j hj=>by unfold lsC; rw [Pol.c_Cmul,a8y (by omega),Gq.mul_zero]
 omega
theorem a66 [IsP p] {m v:Fp p} (hm:Fld m) (hv:v≠0) (hvl:v.len<m.len):Quo.mk m (lsC m v)*Quo.mk m v+sg 1 (Quo.mk m v)=0:=by
 have hi:=Ga hm hv hvl;unfold lsC;rw [Quo.mk_mul,Pol.mk_mod,Quo.mk_mul,P8,Hd,Bg,Pol.C_neg,Pol.C_one,Quo.mk_neg,Quo.mk_one];have e:-1*(sg 1 (Quo.mk m v)*Quo.mk m (jx m v))*Quo.mk m v+sg 1 (Quo.mk m v)=sg 1 (Quo.mk m v)*(1-Quo.mk m (jx m v)*Quo.mk m v):=bo [sg 1 (Quo.mk m v),Quo.mk m (jx m v),Quo.mk m v] rfl;rw [e,hi];exact bo [sg 1 (Quo.mk m v)] rfl
theorem ag2 [IsP p] {m v:Fp p} (hm:Fld m) (hv:v≠0) (hvl:v.len<m.len):ep m 1 v*jx m v%m=pw v (p-1).toNat%m:=by
 have hp:=IsP.pos (p:=p);have h0:=hm.mon.2;have hi:=Ga hm hv hvl;refine (Pol.mod_eq_iff h0).2 ?_;rw [Quo.mk_mul,P8,Quo.mk_pow];show pw (Quo.mk m v) p.toNat*_=_;rw [show p.toNat=(p-1).toNat+1 by omega]
 show pw (Quo.mk m v) (p-1).toNat*Quo.mk m v*Quo.mk m (jx m v)=_;rw [Gq.mul_assoc,Gq.mul_comm (Quo.mk m v),hi,Gq.mul_one]
structure LsI [IsP p] (m:Fp p) (A:List (Fp p)):Prop where
 trim:m9 A
 res:∀c∈A,c.len<m.len
 ex:∃L:List (Fp p),Desc (m.len-1) L∧(∀b∈L,pq m A b=0)∧A.length=L.length+1
theorem LsI.len [IsP p] {m:Fp p} {A:List (Fp p)} (hm:Fld m) (h:LsI m A):1≤A.length∧A.length≤5:=by
 obtain ⟨L,h1,_,h3⟩:=h.ex;have:=h1.length;have h5:=hm.five;have h2:=hm.two;omega
theorem LsI.sk [IsP p] {m:Fp p} {A:List (Fp p)} (hm:Fld m) (h:LsI m A):Sk m A:=⟨h.trim,by have:=h.len hm; omega,h.res⟩
theorem LsI.one [IsP p] {m:Fp p} (hm:Fld m):LsI m (f8 (1:Fp p) 0):=⟨(Gn hm).trim,(Gn hm).res,[],Desc.nil _,(fun b hb=>by cases hb),by rw [jy]; rfl⟩
theorem Ei [IsP p] (c:Fp p):m9 [c,(1:Fp p)]:=fun n hn=>by
 have:n=1:=by simp at hn; omega
 subst this;exact a26
theorem Gk [IsP p] {m c:Fp p} (hm:Fld m) (hc:c.len<m.len):∀y∈[c,(1:Fp p)],y.len<m.len:=fun y hy=>by
 have h2:=hm.two;have:(1:Fp p).len=1:=Pol.len_one;simp at hy;rcases hy with rfl | rfl <;> omega
theorem LsI.next [IsP p] {m x:Fp p} {A:List (Fp p)} (hm:Fld m) (h:LsI m A) (hx:x.len<m.len):LsI m (lsN m A x):=by
 have h0:=hm.mon.2;have h2:=hm.two;unfold lsN
 by_cases hv:(svI m x 0 A 0).len=0
 ·rw [if_pos hv]; exact h
 ·rw [if_neg hv]
  obtain ⟨L,hL,hK,hlen⟩:=h.ex;have hvl:(svI m x 0 A 0).len<m.len:=By h0 0 A 0 (by rw [Pol.len_zero]; omega)
  have hv0:svI m x 0 A 0≠0:=fun h=>hv (by rw [h,Pol.len_zero])
  have hcl:=Gc (v:=svI m x 0 A 0) hm;have hLl:∀b∈L,b.len<m.len:=fun b hb=>by have:=hL.le b hb; omega
  have step:∀y:Fp p,y.len<m.len→pq m (gh m [lsC m (svI m x 0 A 0),1] A) y=Quo.mk m (lsC m (svI m x 0 A 0))*pq m A y+sg 1 (pq m A y):=fun y hy=>Ln hm h.res hy (by omega)
  have kill:∀y:Fp p,y.len<m.len→pq m A y=0→pq m (gh m [lsC m (svI m x 0 A 0),1] A) y=0:=fun y hy hk=>by
   rw [step y hy,hk,Gq.mul_zero,vj,Gq.add_zero]
  have killx:pq m (gh m [lsC m (svI m x 0 A 0),1] A) x=0:=by
   rw [step x hx];exact a66 hm hv0 hvl
  have hr:dl L x≠0:=fun hz=>by
   have e:=R9 (A:=A) hm L x (fun b hb=>⟨hLl b hb,hK b hb⟩) hx
   rw [hz] at e
   have e2:pq m A (0:Fp p)=0:=by
    have:=Uv (A:=A) hm (x:=0) (by rw [Pol.len_zero]; omega)
    rw [xx hm (by rw [Pol.len_zero]; omega)]
    have h3:=J8 (m:=m) (0:Zp p) (0:Quo m) A 0;rw [Gq.mul_zero] at h3;rw [Quo.mk_zero,h3];have:Quo.mk m (Pol.C (0:Zp p))=0:=by rw [Pol.C_zero]; rfl
    rw [this,Gq.zero_mul]
   rw [e2] at e;have e3:=(Pol.mod_eq_iff h0).2 (show Quo.mk m (svI m x 0 A 0)=Quo.mk m 0 from e.symm);rw [Pol.mod_small hvl,Pol.zero_mod h0] at e3;exact hv0 e3
  have hrl:(dl L x).len≤m.len-1:=E5 hL.le (by omega)
  have hml:=uj hr
  have killr:pq m (gh m [lsC m (svI m x 0 A 0),1] A) (Gq.mon (dl L x))=0:=by
   refine Uv hm (by omega) _ ?_
   rw [R9 hm L x (fun b hb=>⟨hLl b hb,kill b (hLl b hb) (hK b hb)⟩) hx]
   exact killx
  refine ⟨sz _ _ _,fun c hc=>by have:=t8 (N:=m.len-1) h0 (by omega) c hc; omega,ki L x,re hL (by omega),fun b hb=>?_,?_⟩
  ·rw [sc hr] at hb
   rcases xd hb with rfl | ⟨c,hc,rfl⟩
   ·exact killr
   ·have hcl':=hLl c hc
    rw [U9 hm hcl' (by omega) killr]
    exact kill c hcl' (hK c hc)
  ·rw [sc hr,B6,Hv hm (Ei _) h.trim (Gk hm hcl) h.res (by simp) (by omega)]
   simp only [b9,cb];omega
theorem LsI.all [IsP p] {m:Fp p} (hm:Fld m):∀(xs A:List (Fp p)),LsI m A→(∀x∈xs,x.len<m.len)→LsI m (lsS m xs A)
 | [],_,h,_=>h
 | x::xs,A,h,hx=>LsI.all hm xs _ (h.next hm (hx x (by simp))) fun y hy=>hx y (by simp [hy])
end
end Pe
namespace Pe
open Go Gq
variable {T:Nat→Option Fn} {A:ap}
section
variable {p:Int}
noncomputable def frK [IsP p] (m d:Fp p):Int:=if (m.len-1)%2=1 then -inv p (rep ((nmS m d (m.len-1)).c 0)) else inv p (rep ((nmS m d (m.len-1)).c 0))
noncomputable def frB [IsP p] (m d:Fp p):Fp p:=Pol.C (zp p (frK m d))*m
noncomputable def frA [IsP p] (m g d:Fp p):Fp p:=cS (ajn m (Pol.X%m) g d (frB m d) (frB m d).len (frB m d).len) (m.len-1)
end
theorem a1f {O:ap} (hva:Jm O) (hfr:v8 O) (hin:zx O) (hpr:nk O) (hsc:uq O) (hby:a0w O) {p:Int} [IsP p] {m:Fp p} (hm:Fld m) {xs:List (Fp p)} (hxs:∀x∈xs,x.len<m.len) (hl:xs.length<2000000):∀(r i:Nat) (B:List (Fp p)),i+r=xs.length→LsI m B →
 dn O 0 (.loop Zr_L0) ⟨[(2,.ptr 0 []),(5,.d (skD B)),(12,.d (.sl .leaf (xs.map cz))),(13,(.d (.int .i64 xs.length))),(14,(.d (.int .i64 i)))],[.box false (qf m),.hole,.hole,.hole]⟩ =
  some (.exit 0,⟨[(2,.ptr 0 []),(5,.d (skD (lsS m (xs.drop i) B))),(12,.d (.sl .leaf (xs.map cz))),(13,(.d (.int .i64 xs.length))),(14,(.d (.int .i64 xs.length))),(15,(.d (.bool false)))],[.box false (qf m),.hole,.hole,.hole]⟩)
 | 0,i,B,hi,hB=>by
  obtain rfl:i=xs.length:=by omega
  rw [fw];refine cg ?_;show _=some (_,(⟨[_,(5,.d (skD B)),_,_,_,_],_⟩:St));generalize skD B=BD at *;generalize xs.map cz=XD at *;simp -implicitDefEqProofs [Zr_L0,au]
 | r+1,i,B,hi,hB=>by
  have h5:=hm.five;have h2:=hm.two;have h0:=hm.mon.2;have hlt:i<xs.length:=by omega
  have hx1:=hxs _ (bb hlt);have hBl:=hB.len hm;have hXL:(xs.map cz).length=xs.length:=ab ..;have hxi:∀h:i<(xs.map cz).length,(xs.map cz)[i]'h=(D.sl .leaf (aq .i64 (row xs[i]))):=fun h=>by rw [ci]
  have e1:=hva p m xs[i] B h2 (by omega) (by omega) (by omega) (fun c hc=>by have:=hB.res c hc; omega)
  have hvl:(svI m xs[i] 0 B 0).len<m.len:=By h0 0 B 0 (by rw [Pol.len_zero]; omega)
  have hvL:(row (svI m xs[i] 0 B 0)).length=(svI m xs[i] 0 B 0).len:=cu _;have w4:IntKind.i64.wrap ((i:Int)+1)=((i+1:Nat):Int):=(w64 (x:=(i:Int)+1) (by omega)).trans (by omega)
  have hlt':(i:Int)<xs.length:=by omega
  have ih:=a1f hva hfr hin hpr hsc hby hm hxs hl r (i+1) (lsN m B xs[i]) (by omega) (hB.next hm hx1)
  have hdr:lsS m (xs.drop i) B=lsS m (xs.drop (i+1)) (lsN m B xs[i]):=by rw [cd hlt]; rfl
  rw [hdr];have hfd:qf m=.st [.leaf,.leaf] [(D.int .i64 p),(D.sl .leaf (aq .i64 (row m)))]:=rfl
  by_cases hv:(svI m xs[i] 0 B 0).len=0
  ·have hn:lsN m B xs[i]=B:=by unfold lsN; rw [if_pos hv]
   rw [hn] at ih ⊢;refine bq ?_ ih;rw [show skD B=.sl .leaf (B.map cz) from rfl,hfd] at e1 ⊢;rw [hv] at hvL;generalize B.map cz=BD at *;generalize row (svI m xs[i] 0 B 0)=R1 at *;generalize row xs[i]=R2 at *;generalize xs.map cz=XD at *;generalize row m=Rm at *;simp -implicitDefEqProofs [Zr_L0,au,hlt,hlt',hXL,hxi,e1,hvL,w4]
  ·have hn:lsN m B xs[i]=gh m [lsC m (svI m xs[i] 0 B 0),1] B:=by unfold lsN; rw [if_neg hv]
   rw [hn] at ih ⊢;have e2:=hfr p m (svI m xs[i] 0 B 0) 1 h2 (by omega) (by omega) (by omega)
   rw [yg hm 1 hvl,show ((1:Nat):Int)=1 from rfl] at e2;have f1:=ox h0 1 _ hvl;have e3:=hin p m (svI m xs[i] 0 B 0) h0 (by omega) (by omega)
   have f2:=aa1 h0 (svI m xs[i] 0 B 0);have e4:=hpr p m (ep m 1 (svI m xs[i] 0 B 0)) (jx m (svI m xs[i] 0 B 0)) h0 (by omega) (by omega) (by omega)
   have f3:=Pol.len_mod (ep m 1 (svI m xs[i] 0 B 0)*jx m (svI m xs[i] 0 B 0)) h0;have e5:=hsc p (-1) (ep m 1 (svI m xs[i] 0 B 0)*jx m (svI m xs[i] 0 B 0)%m) (by omega) (by omega) (by omega)
   rw [show Pol.C (zp p (-1))*(ep m 1 (svI m xs[i] 0 B 0)*jx m (svI m xs[i] 0 B 0)%m)=lsC m (svI m xs[i] 0 B 0) from rfl] at e5;have hcl:=Gc (v:=svI m xs[i] 0 B 0) hm;have e6:=hby p m [lsC m (svI m xs[i] 0 B 0),1] B h2 (by omega) (fun c hc=>by have:=Gk hm hcl c hc; omega) (fun c hc=>by have:=hB.res c hc; omega) (by simp) (by omega)
   rw [show skD [lsC m (svI m xs[i] 0 B 0),(1:Fp p)]=.sl .leaf [(D.sl .leaf (aq .i64 (row (lsC m (svI m xs[i] 0 B 0))))),(D.sl .leaf (aq .i64 (row (1:Fp p))))] from rfl,vm,show aq .i64 [1]=[.int .i64 1] from rfl] at e6;have hpos:0<(svI m xs[i] 0 B 0).len:=by omega
   refine bq ?_ ih;rw [show skD (gh m [lsC m (svI m xs[i] 0 B 0),1] B)=.sl .leaf ((gh m [lsC m (svI m xs[i] 0 B 0),1] B).map cz) from rfl] at e6 ⊢;rw [show skD B=.sl .leaf (B.map cz) from rfl,hfd] at e1 e6 ⊢;rw [hfd] at e2 e3 e4;generalize (gh m [lsC m (svI m xs[i] 0 B 0),1] B).map cz=ND at *;generalize row (lsC m (svI m xs[i] 0 B 0))=R3 at *;generalize row (ep m 1 (svI m xs[i] 0 B 0)*jx m (svI m xs[i] 0 B 0)%m)=R4 at *;generalize row (ep m 1 (svI m xs[i] 0 B 0))=R5 at *;generalize row (jx m (svI m xs[i] 0 B 0))=R6 at *;generalize row (svI m xs[i] 0 B 0)=R1 at *;generalize (svI m xs[i] 0 B 0).len=vl at *;generalize B.map cz=BD at *;generalize row xs[i]=R2 at *;generalize xs.map cz=XD at *;generalize row m=Rm at *;simp -implicitDefEqProofs [Zr_L0,au,hlt,hlt',hXL,hxi,e1,hvL,hpos,e2,e3,e4,e5,e6,w4]
def Jj (O:ap):Prop:=∀(p:Int) [IsP p] (m:Fp p) (xs:List (Fp p)),Fld m→(∀x∈xs,x.len<m.len)→xs.length<2000000→ask O Fr [qf m,.sl .leaf (xs.map cz)]=some (skD (lsS m xs (f8 1 0)))
theorem aag (hT:T Fr=some Zr) (hsi:M1 (den T A)) (hva:Jm (den T A)) (hfr:v8 (den T A)) (hin:zx (den T A)) (hpr:nk (den T A)) (hsc:uq (den T A)) (hby:a0w (den T A)):Jj (den T A):=by
 intro p ip m xs hm hxs hl;have e0:=hsi p (1:Fp p) 0 (by omega)
 rw [vm,show aq .i64 [1]=[.int .i64 1] from rfl,show ((0:Nat):Int)=0 from rfl] at e0;have e1:=a1f (O:=den T A) hva hfr hin hpr hsc hby hm hxs hl xs.length 0 (f8 1 0) (br _) (.one hm);rw [dm,show ((0:Nat):Int)=0 from rfl] at e1;have hXL:(xs.map cz).length=xs.length:=ab ..;have hfd:qf m=.st [.leaf,.leaf] [(D.int .i64 p),(D.sl .leaf (aq .i64 (row m)))]:=rfl;rw [show skD (lsS m xs (f8 1 0))=.sl .leaf ((lsS m xs (f8 1 0)).map cz) from rfl,hfd] at e1 ⊢;rw [show skD (f8 (1:Fp p) 0)=.sl .leaf ((f8 (1:Fp p) 0).map cz) from rfl] at e0 e1;refine ch hT rfl ?_;generalize (lsS m xs (f8 1 0)).map cz=ND at *;generalize (f8 (1:Fp p) 0).map cz=OD at *;generalize xs.map cz=XD at *;generalize row m=Rm at *;simp -implicitDefEqProofs [Zr,Zr_B,e0,e1,hXL]
theorem aed {p:Int} [IsP p] (c d:Fp p):(skP (pd8 [c,d])).map ce=(z8.set 0 (D.arr 64 .leaf (aq .u8 (pad (row c))))).set 1 (D.arr 64 .leaf (aq .u8 (pad (row d)))):=by
 have e2:skP (pd8 [c,d])=pad (row c)::pad (row d)::List.replicate 6 (pad []):=by
  show pad (row c)::pad (row d)::(List.replicate 6 (0:Fp p)).map (fun a=>pad (row a))=_
  rw [gz,row_zero]
 rw [e2];rfl
theorem Tl {O:ap} (hva:Gb O) (hdg:kb O) (hpm:tc O) (had:lk O) (h1:A4 O) (hti:Bz O) {p:Int} [IsP p] {m:Fp p} (hm:Fld m) {xs:List (Fp p)} (hxs:∀x∈xs,x.len<m.len) (hl:xs.length<2000000) {z:List D}:∀(r i:Nat) (B:List (Fp p)),i+r=xs.length→LsI m B →
 dn O 0 (.loop Z4e_L0) ⟨[(0,(.d (.int .i64 p))),(2,.d (.sl (.arr 64 .leaf) (xs.map bv))),(4,.ptr 0 []),(6,.ptr 1 []),(7,.ptr 2 []),(8,(.d (.int .i64 i)))],[.box false (D.arr 64 .leaf (aq .u8 (pad (row m)))),.box false (.arr 8 (.arr 64 .leaf) z),.box false (.arr 8 (.arr 64 .leaf) ((skP (pd8 B)).map ce)),.hole,.hole,.hole]⟩ =
  some (.exit 0,⟨[(0,(.d (.int .i64 p))),(2,.d (.sl (.arr 64 .leaf) (xs.map bv))),(4,.ptr 0 []),(6,.ptr 1 []),(7,.ptr 2 []),(8,(.d (.int .i64 xs.length))),(17,(.d (.bool false)))],[.box false (D.arr 64 .leaf (aq .u8 (pad (row m)))),.box false (.arr 8 (.arr 64 .leaf) z),.box false (.arr 8 (.arr 64 .leaf) ((skP (pd8 (lsS m (xs.drop i) B))).map ce)),.hole,.hole,.hole]⟩)
 | 0,i,B,hi,hB=>by
  obtain rfl:i=xs.length:=by omega
  rw [fw];refine cg ?_;show _=some (_,(⟨_,[_,_,.box false (.arr 8 (.arr 64 .leaf) ((skP (pd8 B)).map ce)),_,_,_]⟩:St));have hXL:(xs.map bv).length=xs.length:=ab ..;generalize (skP (pd8 B)).map ce=BD at *;generalize xs.map bv=XD at *;generalize pad (row m)=Pm at *;simp -implicitDefEqProofs [Z4e_L0,au,hXL]
 | r+1,i,B,hi,hB=>by
  have h5:=hm.five;have h2:=hm.two;have h0:=hm.mon.2;have hp:2≤p:=by rcases IsP.h (p:=p) with h | h | h | h <;> omega
  have h7:=IsP.le (p:=p);have hlt:i<xs.length:=by omega
  have hx1:=hxs _ (bb hlt);have hBl:=hB.len hm;have hXL:(xs.map bv).length=xs.length:=ab ..;have hxi:∀h:i<(xs.map bv).length,(xs.map bv)[i]'h=(D.arr 64 .leaf (aq .u8 (pad (row xs[i])))):=fun h=>by rw [ci]
  have e1:=hva p m xs[i] (pd8 B) h2 (by omega) hx1 (oe (by omega)) (G6 h0 hB.res)
  rw [←Ve h0,Eb hB.trim,show vg (skP (pd8 B))=.arr 8 (.arr 64 .leaf) ((skP (pd8 B)).map ce) from rfl] at e1;have hvl:(svI m xs[i] 0 B 0).len<m.len:=By h0 0 B 0 (by rw [Pol.len_zero]; omega)
  have e2:=hdg p (svI m xs[i] 0 B 0) (by omega)
  have w4:IntKind.i64.wrap ((i:Int)+1)=((i+1:Nat):Int):=(w64 (x:=(i:Int)+1) (by omega)).trans (by omega)
  have hlt':(i:Int)<xs.length:=by omega
  have ih:=Tl hva hdg hpm had h1 hti hm hxs hl (z:=z) r (i+1) (lsN m B xs[i]) (by omega) (hB.next hm hx1)
  have hdr:lsS m (xs.drop i) B=lsS m (xs.drop (i+1)) (lsN m B xs[i]):=by rw [cd hlt]; rfl
  rw [hdr]
  by_cases hv:(svI m xs[i] 0 B 0).len=0
  ·have hn:lsN m B xs[i]=B:=by unfold lsN; rw [if_pos hv]
   rw [hn] at ih ⊢;rw [hv] at e2;refine bq ?_ ih;generalize (skP (pd8 B)).map ce=BD at *;generalize pad (row (svI m xs[i] 0 B 0))=P1 at *;generalize pad (row xs[i])=P2 at *;generalize xs.map bv=XD at *;generalize pad (row m)=Pm at *;simp -implicitDefEqProofs [Z4e_L0,au,hlt,hlt',hXL,hxi,e1,e2,w4]
  ·have hn:lsN m B xs[i]=gh m [lsC m (svI m xs[i] 0 B 0),1] B:=by unfold lsN; rw [if_neg hv]
   rw [hn] at ih ⊢;have hv0:svI m xs[i] 0 B 0≠0:=fun h=>hv (by rw [h,Pol.len_zero])
   have hneg:¬ ((svI m xs[i] 0 B 0).len:Int)-1<0:=by omega
   have e3:=hpm p (svI m xs[i] 0 B 0) (p-1) m h0 (by omega) (by omega) (by omega) (by omega)
   rw [←ag2 hm hv0 hvl] at e3;have f3:=Pol.len_mod (ep m 1 (svI m xs[i] 0 B 0)*jx m (svI m xs[i] 0 B 0)) h0;have e4:=had p (-1) 0 (ep m 1 (svI m xs[i] 0 B 0)*jx m (svI m xs[i] 0 B 0)%m) (by omega) (by omega) (by rw [Pol.len_zero]; omega) (by omega)
   rw [Gq.zero_add,show Pol.C (zp p (-1))*(ep m 1 (svI m xs[i] 0 B 0)*jx m (svI m xs[i] 0 B 0)%m)=lsC m (svI m xs[i] 0 B 0) from rfl,row_zero] at e4;have e5:=h1 p;have hcl:=Gc (v:=svI m xs[i] 0 B 0) hm;have e6:=hti p m [lsC m (svI m xs[i] 0 B 0),1] B hm ⟨Ei _,by simp,Gk hm hcl⟩ (hB.sk hm) (by simp only [b9,cb]; omega)
   rw [zd,zd,zd,aed] at e6;have w1:IntKind.i64.wrap (p-1)=p-1:=w64 (by omega)
   have hf1:=su (skP (pd8 (gh m [lsC m (svI m xs[i] 0 B 0),1] B)));refine bq ?_ ih;generalize (skP (pd8 (gh m [lsC m (svI m xs[i] 0 B 0),1] B))).map ce=ND at *;generalize (skP (pd8 B)).map ce=BD at *;generalize pad (row (lsC m (svI m xs[i] 0 B 0)))=P3 at *;generalize pad (row (ep m 1 (svI m xs[i] 0 B 0)*jx m (svI m xs[i] 0 B 0)%m))=P4 at *;generalize pad (row (svI m xs[i] 0 B 0))=P1 at *;generalize ((svI m xs[i] 0 B 0).len:Int)-1=n1 at *;generalize pad (row (1:Fp p))=P5 at *;generalize pad (row xs[i])=P2 at *;generalize xs.map bv=XD at *;generalize pad (row m)=Pm at *;simp [z8,ae5] at e6;simp -implicitDefEqProofs [Z4e_L0,au,hlt,hlt',hXL,hxi,e1,e2,hneg,e3,e4,e5,e6,w1,w4,hf1,z8,List.replicate]
def Gr (O:ap):Prop:=∀(p:Int) [IsP p] (m:Fp p) (xs:List (Fp p)),Fld m→(∀x∈xs,x.len<m.len)→xs.length<2000000→ask O F4e [(D.int .i64 p),(D.arr 64 .leaf (aq .u8 (pad (row m)))),.sl (.arr 64 .leaf) (xs.map bv)]=some (eS (lsS m xs (f8 1 0)))
theorem a4h (hT:T F4e=some Z4e) (hon:Rr (den T A)) (hva:Gb (den T A)) (hdg:kb (den T A)) (hpm:tc (den T A)) (had:lk (den T A)) (h1:A4 (den T A)) (hti:Bz (den T A)):Gr (den T A):=by
 intro p ip m xs hm hxs hl;have e0:=hon p;have e1:=Tl (O:=den T A) hva hdg hpm had h1 hti hm hxs hl (z:=z8) xs.length 0 (f8 1 0) (br _) (.one hm);rw [dm,show ((0:Nat):Int)=0 from rfl] at e1;have hf1:=su (skP (pd8 (f8 (1:Fp p) 0)));have hf2:=su (skP (pd8 (lsS m xs (f8 1 0))));rw [zd] at e0 ⊢;refine ch hT rfl ?_;generalize (skP (pd8 (lsS m xs (f8 1 0)))).map ce=ND at *;generalize (skP (pd8 (f8 (1:Fp p) 0))).map ce=OD at *;generalize xs.map bv=XD at *;generalize pad (row m)=Pm at *;simp -implicitDefEqProofs [Z4e,Z4e_B,e0,e1,hf1,List.replicate]
open Classical in
noncomputable def lkD (p:Int) (l:List Int) (ls:List (List Int)):D:=
 if h:qd p l ls then
  haveI:IsP p:=h.choose
  .tup [eS (lsS (fc p l) (ls.map (fc p)) (f8 1 0)),(D.int .i64 0)]
 else .tup [vg (List.replicate 8 (pad [])),(D.int .i64 1)]
theorem aap {p:Int} {l:List Int} {ls:List (List Int)} (h:¬ qd p l ls):lkD p l ls=.tup [vg (List.replicate 8 (pad [])),(D.int .i64 1)]:=by unfold lkD; rw [dif_neg h]
theorem Vc {p:Int} [IsP p] {m:Fp p} {S:List (Fp p)} (h:qd p (pad (row m)) (skP S)) (hm:m.len≤64) (hS:∀a∈S,a.len≤64):lkD p (pad (row m)) (skP S)=.tup [eS (lsS m S (f8 1 0)),(D.int .i64 0)]:=by
 unfold lkD;rw [dif_pos h,pe hm,mc hS]
def xp (O:ap) (F:Nat):Prop:=∀(p:Int) (l:List Int) (ls:List (List Int)),je l→l.length=64→v6 ls→ls.length<2000000→ask O F [(D.int .i64 p),(D.arr 64 .leaf (aq .u8 l)),.sl (.arr 64 .leaf) (ls.map ce)]=some (lkD p l ls)
theorem U8 {O:ap} (hro:za O) {p q:Int} [IsP p] {l:List Int} {z:List D} {xs:List (Fp p)} (hl:xs.length<2000000) (hx:∀x∈xs,x.len≤64):∀(r i:Nat) (cp:Option Nat),i+r=xs.length→∃cp':Option Nat,
 dn O 0 (.loop ir_impl_LeastSkew_L0) ⟨[(0,(.d (.int .i64 q))),(4,.ptr 0 []),(6,.ptr 1 []),(9,.sl 2 [] 0 i cp),(20,.d (.sl (.arr 64 .leaf) (xs.map bv))),(21,(.d (.int .i64 xs.length))),(22,(.d (.int .i64 i)))],[.box false (D.arr 64 .leaf (aq .u8 l)),.box false (.arr 8 (.arr 64 .leaf) z),.sl false .leaf ((xs.take i).map cz),.hole,.hole,.hole]⟩ =
  some (.exit 0,⟨[(0,(.d (.int .i64 q))),(4,.ptr 0 []),(6,.ptr 1 []),(9,.sl 2 [] 0 xs.length cp'),(20,.d (.sl (.arr 64 .leaf) (xs.map bv))),(21,(.d (.int .i64 xs.length))),(22,(.d (.int .i64 xs.length))),(23,(.d (.bool false)))],[.box false (D.arr 64 .leaf (aq .u8 l)),.box false (.arr 8 (.arr 64 .leaf) z),.sl false .leaf (xs.map cz),.hole,.hole,.hole]⟩)
 | 0,i,cp,hi=>by
  obtain rfl:i=xs.length:=by omega
  rw [gq];refine ⟨cp,cg ?_⟩;generalize xs.map bv=XD at *;generalize xs.map cz=RD at *;simp -implicitDefEqProofs [ir_impl_LeastSkew_L0,au]
 | r+1,i,cp,hi=>by
  have hlt:i<xs.length:=by omega
  have hm:=bb hlt;have e1:=hro p xs[i] (hx _ hm);have hXD:(xs.map bv).length=xs.length:=ab ..;have hxi:∀h:i<(xs.map bv).length,(xs.map bv)[i]'h=(D.arr 64 .leaf (aq .u8 (pad (row xs[i])))):=fun h=>by rw [ci]
  have w4:IntKind.i64.wrap ((i:Int)+1)=((i+1:Nat):Int):=(w64 (x:=(i:Int)+1) (by omega)).trans (by omega)
  have h24:(i+1)*24≤1099511627776:=by omega
  have htk:(xs.take (i+1)).map cz=(xs.take i).map cz++[(D.sl .leaf (aq .i64 (row xs[i])))]:=by rw [d8 hlt,cn]; rfl
  have hL:((xs.take i).map cz).length=i:=by rw [ab,bj]; omega
  have htt:((xs.take i).map cz).take i=(xs.take i).map cz:=b7 (by omega)
  obtain ⟨cp',ih⟩:=U8 hro (q:=q) (l:=l) (z:=z) hl hx r (i+1) none (by omega)
  refine ⟨cp',bq ?_ ih⟩;rw [htk];generalize pad (row xs[i])=Pi at *;generalize row xs[i]=Ri at *;generalize (xs.take i).map cz=TD at *;generalize xs.map bv=XD at *;simp -implicitDefEqProofs [ir_impl_LeastSkew_L0,au,hlt,hXD,hxi,e1,h24,hL,htt,w4,List.replicate]
theorem Tw (hT:T F6=some Z6) (hc:lg (den T A) F1n) (hro:za (den T A)) (hfo:u5 (den T A)) (hle:Jj (den T A)) (hto:N9 (den T A)):xp (den T A) F6:=by
 intro p l ls bl gl ha hl;have e1:=hc p l ls bl gl ha hl
 by_cases h:qd p l ls
 ·have h':=h
  rw [nm.2 h] at e1;obtain ⟨ip,m,rfl,hm,hs⟩:=h;obtain ⟨S,rfl,hS⟩:=rz hs;have h5:=hm.five;have hSl:S.length<2000000:=by rwa [ab] at hl
  have hI:=LsI.all hm S _ (.one hm) hS;have hIl:=hI.len hm;obtain ⟨cp,e2⟩:=U8 (O:=den T A) hro (q:=p) (l:=pad (row m)) (z:=z8) hSl (fun a ha=>by have:=hS a ha; omega) S.length 0 (some 0) (br _)
  rw [show ((0:Nat):Int)=0 from rfl,fd,fi] at e2;have e3:=hfo p m (by omega)
  have e4:=hle p m S hm hS hSl;have e5:=hto p (lsS m S (f8 1 0)) (by omega) (fun a ha=>by have:=hI.res a ha; omega)
  unfold T1 at e5;rw [if_pos (by omega)] at e5
  have hmd:(S.map fun a=>pad (row a)).map ce=S.map bv:=ia S
  have hf1:=su (skP (pd8 (lsS m S (f8 1 0))));have hXL:(S.map bv).length=S.length:=ab ..;have hRL:(S.map cz).take S.length=S.map cz:=b7 (by rw [ab]; omega)
  have hRl2:(S.map cz).length=S.length:=ab ..;rw [show lkD p (pad (row m)) (S.map fun a=>pad (row a))=.tup [eS (lsS m S (f8 1 0)),(D.int .i64 0)] from Vc h' (by omega) (fun a ha=>by have:=hS a ha; omega),hmd,zd]
  rw [hmd] at e1;rw [show vg (skP (pd8 (lsS m S (f8 1 0))))=.arr 8 (.arr 64 .leaf) ((skP (pd8 (lsS m S (f8 1 0)))).map ce) from rfl] at e5;rw [show skD (lsS m S (f8 1 0))=.sl .leaf ((lsS m S (f8 1 0)).map cz) from rfl] at e4 e5;have hfd:qf m=.st [.leaf,.leaf] [(D.int .i64 p),(D.sl .leaf (aq .i64 (row m)))]:=rfl;rw [hfd] at e3 e4;refine ch hT rfl ?_;generalize (skP (pd8 (lsS m S (f8 1 0)))).map ce=ND at *;generalize (lsS m S (f8 1 0)).map cz=N2 at *;generalize S.map bv=SD at *;generalize S.map cz=RD at *;generalize pad (row m)=Pm at *;generalize row m=Rm at *;simp -implicitDefEqProofs [Z6,ir_impl_LeastSkew_B,au,e1,e2,e3,e4,e5,hXL,hRL,hRl2,hf1,List.replicate]
 ·rw [xf h] at e1
  rw [aap h,af6];refine ch hT rfl ?_;have hfz:D.flats z8=true:=rfl;generalize ls.map ce=LD at *;simp -implicitDefEqProofs [Z6,ir_impl_LeastSkew_B,au,e1,List.replicate]
end Pe
namespace Pe
open Go Gq
variable {T:Nat→Option Fn} {A:ap}
theorem a0y {O:ap} (hdg:Jh O) {p:Int} [IsP p] {m:Fp p} (hm:Fld m) {B:List (Fp p)} (hB:Sk m B):∀(r i:Nat) (cp:Option Nat),i+r=B.length→∃cp':Option Nat,
 dn O 0 (.loop Z39_L0) ⟨[(9,.ptr 2 []),(10,.sl 1 [] 0 i cp),(11,(.d (.int .i64 i)))],[.hole,.sl false (.arr 64 .leaf) ((B.take i).map bv),.box false (.arr 8 (.arr 64 .leaf) ((skP (pd8 B)).map ce)),.hole,.hole]⟩ =
  some (.exit 0,⟨[(9,.ptr 2 []),(10,.sl 1 [] 0 B.length cp'),(11,(.d (.int .i64 B.length))),(27,(.d (.bool false)))],[.hole,.sl false (.arr 64 .leaf) (B.map bv),.box false (.arr 8 (.arr 64 .leaf) ((skP (pd8 B)).map ce)),.hole,.hole]⟩)
 | 0,i,cp,hi=>by
  have h5:=hm.five;obtain rfl:i=B.length:=by omega
  rw [gq];have e1:=hdg p m B hm.mon.2 (by omega) hB
  rw [zd] at e1;have hn:¬ ((B.length:Nat):Int)≤(B.length:Int)-1:=by omega
  refine ⟨cp,cg ?_⟩;generalize (B.length:Int)-1=n1 at *;generalize (skP (pd8 B)).map ce=BD at *;generalize B.map bv=XD at *;simp -implicitDefEqProofs [Z39_L0,au,e1,hn]
 | r+1,i,cp,hi=>by
  have h5:=hm.five;have h8:=hB.eight;have hlt:i<B.length:=by omega
  have hi8:i<8:=by omega
  have e1:=hdg p m B hm.mon.2 (by omega) hB
  rw [zd] at e1;have hle:(i:Int)≤(B.length:Int)-1:=by omega
  have hx1:=aeo (X:=B) h8 hi8;have hBL:=afc h8;have w4:IntKind.i64.wrap ((i:Int)+1)=((i+1:Nat):Int):=(w64 (x:=(i:Int)+1) (by omega)).trans (by omega)
  have h64:(i+1)*64≤1099511627776:=by omega
  have htk:(B.take (i+1)).map bv=(B.take i).map bv++[(D.arr 64 .leaf (aq .u8 (pad (row (cS B i)))))]:=by rw [d8 hlt,cn,Ab hlt]; rfl
  have hL:((B.take i).map bv).length=i:=by rw [ab,bj]; omega
  have htt:((B.take i).map bv).take i=(B.take i).map bv:=b7 (by omega)
  obtain ⟨cp',ih⟩:=a0y hdg hm hB r (i+1) none (by omega)
  refine ⟨cp',bq ?_ ih⟩;rw [htk];generalize (B.length:Int)-1=n1 at *;generalize pad (row (cS B i))=Pi at *;generalize (B.take i).map bv=TD at *;generalize (skP (pd8 B)).map ce=BD at *;simp -implicitDefEqProofs [Z39_L0,au,hle,hi8,hx1,hBL,e1,h64,hL,htt,w4,List.replicate]
open Classical in
noncomputable def dkL (p:Int) (l:List Int) (ls:List (List Int)):List (List Int):=
 if h:qd p l ls then
  haveI:IsP p:=h.choose
  skP (lsS (fc p l) (ls.map (fc p)) (f8 1 0))
 else []
theorem Eo {p:Int} [IsP p] {m:Fp p} {S:List (Fp p)} (h:qd p (pad (row m)) (skP S)) (hm:m.len≤64) (hS:∀a∈S,a.len≤64):dkL p (pad (row m)) (skP S)=skP (lsS m S (f8 1 0)):=by
 unfold dkL;rw [dif_pos h,pe hm,mc hS]
theorem R8 {p:Int} {l:List Int} {ls:List (List Int)} (h:¬ qd p l ls):dkL p l ls=[]:=by unfold dkL; rw [dif_neg h]
theorem aey (p:Int) (l:List Int) (ls:List (List Int)):(∀x∈dkL p l ls,x.length=64)∧(dkL p l ls).length≤11:=by
 by_cases h:qd p l ls
 ·have h':=h
  obtain ⟨ip,m,rfl,hm,hs⟩:=h;obtain ⟨S,rfl,hS⟩:=rz hs;have h5:=hm.five;rw [Eo h' (by omega) (fun a ha=>by have:=hS a ha; omega)]
  refine ⟨fun x hx=>by obtain ⟨a,_,rfl⟩:=ct.1 hx; exact dc _,?_⟩
  have:=(LsI.all hm S _ (.one hm) hS).len hm;rw [ab]; omega
 ·rw [R8 h]; exact ⟨fun x hx=>by simp at hx,by simp⟩
noncomputable def dkD (p:Int) (l:List Int) (ls:List (List Int)):D:=.tup [.sl (.arr 64 .leaf) ((dkL p l ls).map ce),(D.int .i64 (oo p l ls))]
def pv (O:ap) (F:Nat):Prop:=∀(p:Int) (l:List Int) (ls:List (List Int)),je l→l.length=64→v6 ls→ls.length<2000000→ask O F [(D.int .i64 p),(D.arr 64 .leaf (aq .u8 l)),.sl (.arr 64 .leaf) (ls.map ce)]=some (dkD p l ls)
theorem Um (hT:T F4=some Z4) (hc:lg (den T A) F1n) (hro:Aj (den T A)) (hfo:u5 (den T A)) (hre:Jj (den T A)) (hpo:Co (den T A)):pv (den T A) F4:=by
 intro p l ls bl gl ha hl;have e1:=hc p l ls bl gl ha hl;unfold dkD
 by_cases h:qd p l ls
 ·have h':=h
  rw [nm.2 h] at e1 ⊢;obtain ⟨ip,m,rfl,hm,hs⟩:=h;obtain ⟨S,rfl,hS⟩:=rz hs;have h5:=hm.five;have hSl:S.length<2000000:=by rwa [ab] at hl
  have hI:=LsI.all hm S _ (.one hm) hS;have hdl:=hI.len hm;have e2:=hro p S hSl (fun x hx=>by have:=hS x hx; omega)
  have e3:=hre p m S hm hS hSl;have e3f:=hfo p m (by omega)
  have e4:=hpo p (lsS m S (f8 1 0)) (by omega) (fun x hx=>by have:=hI.res x hx; omega)
  have hfd:qf m=.st [.leaf,.leaf] [(D.int .i64 p),(D.sl .leaf (aq .i64 (row m)))]:=rfl;rw [show skD (lsS m S (f8 1 0))=.sl .leaf ((lsS m S (f8 1 0)).map cz) from rfl,hfd] at e3;rw [hfd] at e3f;have hmd:(S.map fun a=>pad (row a)).map ce=S.map bv:=ia S
  rw [Eo h' (by omega) (fun a ha=>by have:=hS a ha; omega),hmd,show (skP (lsS m S (f8 1 0))).map ce=(lsS m S (f8 1 0)).map bv from ia _]
  rw [hmd] at e1;refine ch hT rfl ?_;generalize (lsS m S (f8 1 0)).map bv=R1 at *;generalize (lsS m S (f8 1 0)).map cz=R2 at *;generalize S.map bv=SD at *;generalize S.map cz=RD at *;generalize pad (row m)=Pm at *;generalize row m=Rm at *;simp -implicitDefEqProofs [Z4,Z4_B,au,e1,e2,e3,e3f,e4]
 ·rw [xf h] at e1 ⊢
  rw [R8 h,fi];refine ch hT rfl ?_;generalize ls.map ce=LD at *;simp -implicitDefEqProofs [Z4,Z4_B,au,e1]
theorem Rp (hT:T F39=some Z39) (hc:lg (den T A) F4j) (hdg:Jh (den T A)) (hsp:Gr (den T A)):pv (den T A) F39:=by
 intro p l ls bl gl ha hl;have e1:=hc p l ls bl gl ha hl;unfold dkD
 by_cases h:qd p l ls
 ·have h':=h
  rw [nm.2 h] at e1 ⊢;obtain ⟨ip,m,rfl,hm,hs⟩:=h;obtain ⟨S,rfl,hS⟩:=rz hs;have h5:=hm.five;have hSl:S.length<2000000:=by rwa [ab] at hl
  have e3:=hsp p m S hm hS hSl;have hI:=LsI.all hm S _ (.one hm) hS;have hIs:=hI.sk hm;obtain ⟨cp,e4⟩:=a0y (O:=den T A) hdg hm hIs (lsS m S (f8 1 0)).length 0 (some 0) (br _);rw [show ((0:Nat):Int)=0 from rfl,fd,fi] at e4;rw [zd] at e3;have hf1:=su (skP (pd8 (lsS m S (f8 1 0))));have hNL:((lsS m S (f8 1 0)).map bv).length=(lsS m S (f8 1 0)).length:=ab ..;have hNt:((lsS m S (f8 1 0)).map bv).take (lsS m S (f8 1 0)).length=(lsS m S (f8 1 0)).map bv:=b7 (by omega)
  have hmd:(S.map fun a=>pad (row a)).map ce=S.map bv:=ia S
  rw [Eo h' (by omega) (fun a ha=>by have:=hS a ha; omega),hmd,show (skP (lsS m S (f8 1 0))).map ce=(lsS m S (f8 1 0)).map bv from ia _]
  rw [hmd] at e1;refine ch hT rfl ?_;generalize (lsS m S (f8 1 0)).map bv=R1 at *;generalize (skP (pd8 (lsS m S (f8 1 0)))).map ce=R2 at *;generalize (lsS m S (f8 1 0)).length=nl at *;generalize S.map bv=SD at *;generalize pad (row m)=Pm at *;simp -implicitDefEqProofs [Z39,Z39_B,au,e1,e3,e4,hf1,hNL,hNt,List.replicate]
 ·rw [xf h] at e1 ⊢
  rw [R8 h,fi];refine ch hT rfl ?_;generalize ls.map ce=LD at *;simp -implicitDefEqProofs [Z39,Z39_B,au,e1]
end Pe
namespace Pe
open Go Gq
variable {T:Nat→Option Fn} {A:ap}
section
variable {p:Int} [IsP p]
noncomputable def moR (m:Fp p) (xs:List (Fp p)) (i:Nat):List (Fp p):=xs.map (ep m (i%(m.len-1)))
noncomputable def moK (m:Fp p) (xs:List (Fp p)) (k:Nat):List (List (Fp p)):=(List.range k).map (moR m xs)
noncomputable abbrev o6 (r:List (Fp p)):D:=.sl .leaf (r.map cz)
noncomputable abbrev lj (r:List (Fp p)):D:=.sl (.arr 64 .leaf) (r.map bv)
theorem jt (m:Fp p) (xs:List (Fp p)) (i:Nat):(moR m xs i).length=xs.length:=ab ..
theorem od (m:Fp p) (xs:List (Fp p)) (k:Nat):(moK m xs k).length=k:=by unfold moK; rw [ab,ji]
theorem Nu (m:Fp p) (xs:List (Fp p)) (k:Nat):moK m xs (k+1)=moK m xs k++[moR m xs k]:=by unfold moK; rw [List.range_succ,cn]; rfl
theorem a1g {m:Fp p} (hm:m≠0) {xs:List (Fp p)} (hx:∀x∈xs,x.len<m.len) {i:Nat}:∀y∈moR m xs i,y.len<m.len:=fun y hy=>by
 obtain ⟨x,h1,rfl⟩:=ct.1 hy;exact ox hm _ _ (hx x h1)
theorem Mt {m:Fp p} {xs:List (Fp p)} {i k:Nat} (h:k<xs.length):(moR m xs i).take (k+1)=(moR m xs i).take k++[ep m (i%(m.len-1)) xs[k]]:=by
 unfold moR;rw [←List.map_take,←List.map_take,d8 h,cn]; rfl
theorem ad8 {O:ap} (hf:v8 O) {m:Fp p} {xs:List (Fp p)} (h2:2≤m.len) (hml:m.len≤64) (hl:xs.length<1000000) (hx:∀x∈xs,x.len≤64) {i:Nat} (hi:i<1000000) {co:Option Nat} (OD:List D):∀(r k:Nat) (cp:Option Nat),k+r=xs.length→∃cp':Option Nat,
 dn O 0 (.loop Zs_L0) ⟨[(1,.d (.sl .leaf (xs.map cz))),(2,.ptr 0 []),(5,.sl 1 [] 0 i co),(6,(.d (.int .i64 i))),(7,.sl 2 [] 0 k cp),(11,(.d (.int .i64 xs.length))),(12,(.d (.int .i64 i))),(15,.d (.sl .leaf (xs.map cz))),(16,(.d (.int .i64 xs.length))),(17,(.d (.int .i64 k)))],[.box false (qf m),.sl false .leaf OD,.sl false .leaf (((moR m xs i).take k).map cz),.hole,.hole,.hole,.hole]⟩ =
  some (.exit 2,⟨[(1,.d (.sl .leaf (xs.map cz))),(2,.ptr 0 []),(5,.sl 1 [] 0 i co),(6,(.d (.int .i64 i))),(7,.sl 2 [] 0 xs.length cp'),(11,(.d (.int .i64 xs.length))),(12,(.d (.int .i64 i))),(15,.d (.sl .leaf (xs.map cz))),(16,(.d (.int .i64 xs.length))),(17,(.d (.int .i64 xs.length))),(18,(.d (.bool false)))],[.box false (qf m),.sl false .leaf OD,.sl false .leaf ((moR m xs i).map cz),.hole,.hole,.hole,.hole]⟩)
 | 0,k,cp,hk=>by
  obtain rfl:k=xs.length:=by omega
  rw [b7 (by rw [jt]; exact bp _)]
  refine ⟨cp,cg ?_⟩;generalize xs.map cz=XD at *;generalize (moR m xs i).map cz=RD at *;simp -implicitDefEqProofs [Zs_L0,au]
 | r+1,k,cp,hk=>by
  have hlt:k<xs.length:=by omega
  have e1:=hf p m xs[k] i h2 hml (by have:=hx _ (bb hlt); omega) hi
  have hXD:(xs.map cz).length=xs.length:=ab ..;have hxi:∀h:k<(xs.map cz).length,(xs.map cz)[k]'h=(D.sl .leaf (aq .i64 (row xs[k]))):=fun h=>by rw [ci]
  have w4:IntKind.i64.wrap ((k:Int)+1)=((k+1:Nat):Int):=(w64 (x:=(k:Int)+1) (by omega)).trans (by omega)
  have h24:(k+1)*24≤1099511627776:=by omega
  have htk:((moR m xs i).take (k+1)).map cz=((moR m xs i).take k).map cz++[(D.sl .leaf (aq .i64 (row (ep m (i%(m.len-1)) xs[k]))))]:=by rw [Mt hlt,cn]; rfl
  have hL:(((moR m xs i).take k).map cz).length=k:=by rw [ab,bj,jt]; omega
  have htt:(((moR m xs i).take k).map cz).take k=((moR m xs i).take k).map cz:=b7 (by omega)
  obtain ⟨cp',ih⟩:=ad8 hf h2 hml hl hx hi OD r (k+1) none (by omega)
  refine ⟨cp',bq ?_ ih⟩;rw [htk];generalize row (ep m (i%(m.len-1)) xs[k])=Qi at *;generalize row xs[k]=Ri at *;generalize ((moR m xs i).take k).map cz=TD at *;generalize xs.map cz=XD at *;simp -implicitDefEqProofs [Zs_L0,au,hlt,hXD,hxi,e1,h24,hL,htt,w4,List.replicate]
theorem aab {O:ap} (hf:v8 O) {m:Fp p} {xs:List (Fp p)} (h2:2≤m.len) (hml:m.len≤64) (hl:xs.length<1000000) (hx:∀x∈xs,x.len≤64):∀(r i:Nat) (co:Option Nat),i+r=xs.length→∃co':Option Nat,
 dn O 0 (.loop Zs_L1) ⟨[(1,.d (.sl .leaf (xs.map cz))),(2,.ptr 0 []),(5,.sl 1 [] 0 i co),(11,(.d (.int .i64 xs.length))),(12,(.d (.int .i64 i)))],[.box false (qf m),.sl false .leaf ((moK m xs i).map o6),.hole,.hole,.hole,.hole,.hole]⟩ =
  some (.exit 0,⟨[(1,.d (.sl .leaf (xs.map cz))),(2,.ptr 0 []),(5,.sl 1 [] 0 xs.length co'),(11,(.d (.int .i64 xs.length))),(12,(.d (.int .i64 xs.length))),(13,(.d (.bool false)))],[.box false (qf m),.sl false .leaf ((moK m xs xs.length).map o6),.hole,.hole,.hole,.hole,.hole]⟩)
 | 0,i,co,hi=>by
  obtain rfl:i=xs.length:=by omega
  refine ⟨co,cg ?_⟩;generalize (moK m xs xs.length).map o6=RD at *;generalize xs.map cz=XD at *;simp -implicitDefEqProofs [Zs_L1,au]
 | r+1,i,co,hi=>by
  have hlt:i<xs.length:=by omega
  obtain ⟨cp,e1⟩:=ad8 hf h2 hml hl hx (i:=i) (by omega) (co:=co) ((moK m xs i).map o6) xs.length 0 (some 0) (br _)
  rw [show ((0:Nat):Int)=0 from rfl,fd,fi] at e1;have hXD:(xs.map cz).length=xs.length:=ab ..;have w4:IntKind.i64.wrap ((i:Int)+1)=((i+1:Nat):Int):=(w64 (x:=(i:Int)+1) (by omega)).trans (by omega)
  have h24:(i+1)*24≤1099511627776:=by omega
  have hL:((moK m xs i).map o6).length=i:=by rw [ab,od]
  have htt:((moK m xs i).map o6).take i=(moK m xs i).map o6:=b7 (by omega)
  have hRL:((moR m xs i).map cz).length=xs.length:=by rw [ab,jt]
  have hRt:((moR m xs i).map cz).take xs.length=(moR m xs i).map cz:=b7 (by omega)
  have htk:(moK m xs (i+1)).map o6=(moK m xs i).map o6++[.sl .leaf ((moR m xs i).map cz)]:=by rw [Nu,cn]; rfl
  obtain ⟨co',ih⟩:=aab hf h2 hml hl hx r (i+1) none (by omega)
  refine ⟨co',bq ?_ ih⟩;rw [htk];generalize (moK m xs i).map o6=TD at *;generalize (moR m xs i).map cz=QD at *;generalize xs.map cz=XD at *;simp -implicitDefEqProofs [Zs_L1,au,hlt,hXD,e1,h24,hL,htt,hRL,hRt,w4,List.replicate]
end
def J7 (O:ap):Prop:=∀(p:Int) [IsP p] (m:Fp p) (xs:List (Fp p)),2≤m.len→m.len≤64→xs.length<1000000→(∀x∈xs,x.len≤64)→ask O Fs [qf m,.sl .leaf (xs.map cz)]=some (.sl .leaf ((moK m xs xs.length).map o6))
theorem acl (hT:T Fs=some Zs) (hf:v8 (den T A)):J7 (den T A):=by
 intro p ip m xs h2 hml hl hx;obtain ⟨co,e⟩:=aab (O:=den T A) hf h2 hml hl hx xs.length 0 (some 0) (br _);rw [show ((0:Nat):Int)=0 from rfl,show (moK m xs 0).map o6=[] from rfl] at e;have h1:(xs.map cz).length=xs.length:=ab ..;have h3:((moK m xs xs.length).map o6).length=xs.length:=by rw [ab,od]
 have htk:((moK m xs xs.length).map o6).take xs.length=(moK m xs xs.length).map o6:=b7 (by omega)
 refine ch hT rfl ?_;generalize (moK m xs xs.length).map o6=QD at *;generalize xs.map cz=XD at *;simp -implicitDefEqProofs [Zs,Zs_B,h1,h3,htk,e]
section
variable {p:Int} [IsP p]
theorem ade {O:ap} (hf:pn O) {m:Fp p} {xs:List (Fp p)} (h2:2≤m.len) (hml:m.len≤64) (hl:xs.length<1000000) (hx:∀x∈xs,x.len≤64) {i:Nat} (hi:i<1000000) {co:Option Nat} (OD:List D):∀(r k:Nat) (cp:Option Nat),k+r=xs.length→∃cp':Option Nat,
 dn O 0 (.loop Z4q_L0) ⟨[(0,(.d (.int .i64 p))),(2,.d (.sl (.arr 64 .leaf) (xs.map bv))),(4,.ptr 0 []),(7,.sl 1 [] 0 i co),(8,(.d (.int .i64 i))),(9,.sl 2 [] 0 k cp),(10,(.d (.int .i64 k)))],[.box false (D.arr 64 .leaf (aq .u8 (pad (row m)))),.sl false .leaf OD,.sl false (.arr 64 .leaf) (((moR m xs i).take k).map bv),.hole,.hole,.hole,.hole]⟩ =
  some (.exit 2,⟨[(0,(.d (.int .i64 p))),(2,.d (.sl (.arr 64 .leaf) (xs.map bv))),(4,.ptr 0 []),(7,.sl 1 [] 0 i co),(8,(.d (.int .i64 i))),(9,.sl 2 [] 0 xs.length cp'),(10,(.d (.int .i64 xs.length))),(22,(.d (.bool false)))],[.box false (D.arr 64 .leaf (aq .u8 (pad (row m)))),.sl false .leaf OD,.sl false (.arr 64 .leaf) ((moR m xs i).map bv),.hole,.hole,.hole,.hole]⟩)
 | 0,k,cp,hk=>by
  obtain rfl:k=xs.length:=by omega
  rw [b7 (by rw [jt]; exact bp _)]
  have hXD:(xs.map bv).length=xs.length:=ab ..;refine ⟨cp,cg ?_⟩;generalize xs.map bv=XD at *;generalize (moR m xs i).map bv=RD at *;generalize pad (row m)=Pm at *;simp -implicitDefEqProofs [Z4q_L0,au,hXD]
 | r+1,k,cp,hk=>by
  have hlt:k<xs.length:=by omega
  have e1:=hf p m xs[k] i h2 hml (hx _ (bb hlt)) hi;have hXD:(xs.map bv).length=xs.length:=ab ..;have hxi:∀h:k<(xs.map bv).length,(xs.map bv)[k]'h=(D.arr 64 .leaf (aq .u8 (pad (row xs[k])))):=fun h=>by rw [ci]
  have w4:IntKind.i64.wrap ((k:Int)+1)=((k+1:Nat):Int):=(w64 (x:=(k:Int)+1) (by omega)).trans (by omega)
  have h24:(k+1)*64≤1099511627776:=by omega
  have htk:((moR m xs i).take (k+1)).map bv=((moR m xs i).take k).map bv++[(D.arr 64 .leaf (aq .u8 (pad (row (ep m (i%(m.len-1)) xs[k])))))]:=by rw [Mt hlt,cn]; rfl
  have hL:(((moR m xs i).take k).map bv).length=k:=by rw [ab,bj,jt]; omega
  have htt:(((moR m xs i).take k).map bv).take k=((moR m xs i).take k).map bv:=b7 (by omega)
  obtain ⟨cp',ih⟩:=ade hf h2 hml hl hx hi OD r (k+1) none (by omega)
  refine ⟨cp',bq ?_ ih⟩;rw [htk];generalize pad (row (ep m (i%(m.len-1)) xs[k]))=Qi at *;generalize pad (row xs[k])=Ri at *;generalize ((moR m xs i).take k).map bv=TD at *;generalize xs.map bv=XD at *;generalize pad (row m)=Pm at *;simp -implicitDefEqProofs [Z4q_L0,au,hlt,hXD,hxi,e1,h24,hL,htt,w4,List.replicate]
theorem a5f {O:ap} (hf:pn O) {m:Fp p} {xs:List (Fp p)} (h2:2≤m.len) (hml:m.len≤64) (hl:xs.length<1000000) (hx:∀x∈xs,x.len≤64):∀(r i:Nat) (co:Option Nat),i+r=xs.length→∃co':Option Nat,
 dn O 0 (.loop Z4q_L1) ⟨[(0,(.d (.int .i64 p))),(2,.d (.sl (.arr 64 .leaf) (xs.map bv))),(4,.ptr 0 []),(7,.sl 1 [] 0 i co),(8,(.d (.int .i64 i)))],[.box false (D.arr 64 .leaf (aq .u8 (pad (row m)))),.sl false .leaf ((moK m xs i).map lj),.hole,.hole,.hole,.hole,.hole]⟩ =
  some (.exit 0,⟨[(0,(.d (.int .i64 p))),(2,.d (.sl (.arr 64 .leaf) (xs.map bv))),(4,.ptr 0 []),(7,.sl 1 [] 0 xs.length co'),(8,(.d (.int .i64 xs.length))),(15,(.d (.bool false)))],[.box false (D.arr 64 .leaf (aq .u8 (pad (row m)))),.sl false .leaf ((moK m xs xs.length).map lj),.hole,.hole,.hole,.hole,.hole]⟩)
 | 0,i,co,hi=>by
  obtain rfl:i=xs.length:=by omega
  have hXD:(xs.map bv).length=xs.length:=ab ..;refine ⟨co,cg ?_⟩;generalize (moK m xs xs.length).map lj=RD at *;generalize xs.map bv=XD at *;generalize pad (row m)=Pm at *;simp -implicitDefEqProofs [Z4q_L1,au,hXD]
 | r+1,i,co,hi=>by
  have hlt:i<xs.length:=by omega
  obtain ⟨cp,e1⟩:=ade hf h2 hml hl hx (i:=i) (by omega) (co:=co) ((moK m xs i).map lj) xs.length 0 (some 0) (br _)
  rw [show ((0:Nat):Int)=0 from rfl,fd,fi] at e1;have hXD:(xs.map bv).length=xs.length:=ab ..;have w4:IntKind.i64.wrap ((i:Int)+1)=((i+1:Nat):Int):=(w64 (x:=(i:Int)+1) (by omega)).trans (by omega)
  have h24:(i+1)*24≤1099511627776:=by omega
  have hL:((moK m xs i).map lj).length=i:=by rw [ab,od]
  have htt:((moK m xs i).map lj).take i=(moK m xs i).map lj:=b7 (by omega)
  have hRL:((moR m xs i).map bv).length=xs.length:=by rw [ab,jt]
  have hRt:((moR m xs i).map bv).take xs.length=(moR m xs i).map bv:=b7 (by omega)
  have htk:(moK m xs (i+1)).map lj=(moK m xs i).map lj++[.sl (.arr 64 .leaf) ((moR m xs i).map bv)]:=by rw [Nu,cn]; rfl
  obtain ⟨co',ih⟩:=a5f hf h2 hml hl hx r (i+1) none (by omega)
  refine ⟨co',bq ?_ ih⟩;rw [htk];generalize (moK m xs i).map lj=TD at *;generalize (moR m xs i).map bv=QD at *;generalize xs.map bv=XD at *;generalize pad (row m)=Pm at *;simp -implicitDefEqProofs [Z4q_L1,au,hlt,hXD,e1,h24,hL,htt,hRL,hRt,w4,List.replicate]
end
def Mn (O:ap):Prop:=∀(p:Int) [IsP p] (m:Fp p) (xs:List (Fp p)),2≤m.len→m.len≤64→xs.length<1000000→(∀x∈xs,x.len≤64)→ask O F4q [(D.int .i64 p),(D.arr 64 .leaf (aq .u8 (pad (row m)))),.sl (.arr 64 .leaf) (xs.map bv)]=some (.sl .leaf ((moK m xs xs.length).map lj))
theorem a8l (hT:T F4q=some Z4q) (hf:pn (den T A)):Mn (den T A):=by
 intro p ip m xs h2 hml hl hx;obtain ⟨co,e⟩:=a5f (O:=den T A) hf h2 hml hl hx xs.length 0 (some 0) (br _);rw [show ((0:Nat):Int)=0 from rfl,show (moK m xs 0).map lj=[] from rfl] at e;have h3:((moK m xs xs.length).map lj).length=xs.length:=by rw [ab,od]
 have htk:((moK m xs xs.length).map lj).take xs.length=(moK m xs xs.length).map lj:=b7 (by omega)
 refine ch hT rfl ?_;generalize (moK m xs xs.length).map lj=QD at *;generalize xs.map bv=XD at *;generalize pad (row m)=Pm at *;simp -implicitDefEqProofs [Z4q,Z4q_B,h3,htk,e]
open Classical in
noncomputable def mmT (p:Int) (l:List Int) (ls:List (List Int)):List (List (List Int)):=
 if h:qd p l ls∧ls.length≤4 then
  haveI:IsP p:=h.1.choose
  (moK (fc p l) (ls.map (fc p)) ls.length).map skP
 else []
theorem No {p:Int} [IsP p] {m:Fp p} {S:List (Fp p)} (h:qd p (pad (row m)) (skP S)) (hn:S.length≤4) (hm:m.len≤64) (hS:∀a∈S,a.len≤64):mmT p (pad (row m)) (skP S)=(moK m S S.length).map skP:=by
 unfold mmT;have hl:(skP S).length=S.length:=ab ..;rw [dif_pos ⟨h,by omega⟩,pe hm,mc hS]
 exact congrArg (fun k=>(moK m S k).map skP) hl
theorem Ic {p:Int} {l:List Int} {ls:List (List Int)}:kw p l ls 0 4=0↔qd p l ls∧ls.length≤4:=by
 unfold kw
 by_cases h:oo p l ls=0
 ·rw [if_neg (by simpa using h)]
  have:=nm.1 h
  by_cases h2:ls.length≤4
  ·rw [if_neg (by omega)]; exact ⟨fun _=>⟨this,h2⟩,fun _=>rfl⟩
  ·rw [if_pos (by omega)]; exact ⟨fun e=>by omega,fun e=>absurd e.2 h2⟩
 ·rw [if_pos h]
  exact ⟨fun e=>absurd e h,fun e=>nm.2 e.1⟩
theorem T6 {p:Int} {l:List Int} {ls:List (List Int)} (h:kw p l ls 0 4≠0):mmT p l ls=[]:=by
 unfold mmT;rw [dif_neg fun g=>h (Ic.2 g)]
def a2o (ts:List (List (List Int))):D:=.sl .leaf (ts.map fun r=>.sl (.arr 64 .leaf) (r.map ce))
theorem a12 {p:Int} [IsP p] (ks:List (List (Fp p))):a2o (ks.map skP)=.sl .leaf (ks.map lj):=by
 unfold a2o;rw [k8]
 congr 1
 refine List.map_congr_left fun r _=>?_
 show D.sl _ ((skP r).map ce)=_;rw [ia]
def pb (O:ap) (F:Nat):Prop:=∀(p:Int) (l:List Int) (ls:List (List Int)),je l→l.length=64→v6 ls→ls.length<2000000→ask O F [(D.int .i64 p),(D.arr 64 .leaf (aq .u8 l)),.sl (.arr 64 .leaf) (ls.map ce)]=some (.tup [a2o (mmT p l ls),(D.int .i64 (kw p l ls 0 4))])
section
variable {p:Int} [IsP p]
theorem al2 {O:ap} (hp:Co O) {ks:List (List (Fp p))} (hl:ks.length<1000000) (hk:∀r∈ks,r.length<1000000∧∀x∈r,x.len≤64):∀(r i:Nat) (co:Option Nat),i+r=ks.length→∃co':Option Nat,
 dn O 0 (.loop Z8_L0) ⟨[(9,.sl 1 [] 0 i co),(24,.d (.sl .leaf (ks.map o6))),(25,(.d (.int .i64 ks.length))),(26,(.d (.int .i64 i)))],[.hole,.sl false .leaf ((ks.take i).map lj),.hole,.hole]⟩ =
  some (.exit 0,⟨[(9,.sl 1 [] 0 ks.length co'),(24,.d (.sl .leaf (ks.map o6))),(25,(.d (.int .i64 ks.length))),(26,(.d (.int .i64 ks.length))),(27,(.d (.bool false)))],[.hole,.sl false .leaf (ks.map lj),.hole,.hole]⟩)
 | 0,i,co,hi=>by
  obtain rfl:i=ks.length:=by omega
  rw [gq];refine ⟨co,cg ?_⟩;generalize ks.map lj=RD at *;generalize ks.map o6=XD at *;simp -implicitDefEqProofs [Z8_L0,au]
 | r+1,i,co,hi=>by
  have hlt:i<ks.length:=by omega
  obtain ⟨k1,k2⟩:=hk _ (bb hlt);have e1:=hp p ks[i] (by omega) k2
  have hXD:(ks.map o6).length=ks.length:=ab ..;have hxi:∀h:i<(ks.map o6).length,(ks.map o6)[i]'h=.sl .leaf (ks[i].map cz):=fun h=>by rw [ci]
  have w4:IntKind.i64.wrap ((i:Int)+1)=((i+1:Nat):Int):=(w64 (x:=(i:Int)+1) (by omega)).trans (by omega)
  have h24:(i+1)*24≤1099511627776:=by omega
  have htk:(ks.take (i+1)).map lj=(ks.take i).map lj++[.sl (.arr 64 .leaf) (ks[i].map bv)]:=by rw [d8 hlt,cn]; rfl
  have hL:((ks.take i).map lj).length=i:=by rw [ab,bj]; omega
  have htt:((ks.take i).map lj).take i=(ks.take i).map lj:=b7 (by omega)
  obtain ⟨co',ih⟩:=al2 hp hl hk r (i+1) none (by omega)
  refine ⟨co',bq ?_ ih⟩;rw [htk];generalize (ks.take i).map lj=TD at *;generalize ks[i].map bv=QD at *;generalize ks[i].map cz=QR at *;generalize ks.map o6=XD at *;simp -implicitDefEqProofs [Z8_L0,au,hlt,hXD,hxi,e1,h24,hL,htt,w4,List.replicate]
end
theorem a8s {p:Int} [IsP p] {m:Fp p} (hm:m≠0) (hml:m.len≤64) {xs:List (Fp p)} (hl:xs.length<1000000) (hx:∀x∈xs,x.len<m.len) {k:Nat}:∀r∈moK m xs k,r.length<1000000∧∀x∈r,x.len≤64:=fun r hr=>by
 obtain ⟨i,_,rfl⟩:=ct.1 hr;exact ⟨by rw [jt]; exact hl,fun y hy=>by have:=a1g hm hx y hy; omega⟩
theorem O3 (hT:T F8=some Z8) (hc:wh (den T A)) (hfo:u5 (den T A)) (hro:Aj (den T A)) (hmo:J7 (den T A)) (hpo:Co (den T A)):pb (den T A) F8:=by
 intro p l ls bl gl ha hl;have e1:=hc p l ls 0 4 bl gl ha hl
 by_cases h:kw p l ls 0 4=0
 ·rw [h] at e1 ⊢
  obtain ⟨h',h4⟩:=Ic.1 h;obtain ⟨ip,m,rfl,hm,hs⟩:=id h';obtain ⟨S,rfl,hS⟩:=rz hs;have h5:=hm.five;have hSl:S.length≤4:=by rwa [ab] at h4
  have hS64:∀a∈S,a.len≤64:=fun a ha=>by have:=hS a ha; omega
  have e2:=hfo p m (by omega)
  have e3:=hro p S (by omega) hS64
  have e4:=hmo p m S hm.two (by omega) (by omega) hS64
  have hmd:(S.map fun a=>pad (row a)).map ce=S.map bv:=ia S
  have hk:=a8s hm.mon.2 (by omega) (show S.length<1000000 by omega) hS (k:=S.length)
  have hKl:=od m S S.length;obtain ⟨co,e5⟩:=al2 (O:=den T A) hpo (ks:=moK m S S.length) (by omega) hk S.length 0 (some 0) (by omega)
  rw [show ((0:Nat):Int)=0 from rfl,fd,fi] at e5;rw [No h' hSl (by omega) hS64,a12]
  have hL1:((moK m S S.length).map o6).length=S.length:=by rw [ab,hKl]
  have hL2:((moK m S S.length).map lj).length=S.length:=by rw [ab,hKl]
  have htk:((moK m S S.length).map lj).take S.length=(moK m S S.length).map lj:=b7 (by omega)
  rw [hmd] at e1 ⊢;rw [hKl] at e5;refine ch hT rfl ?_;generalize (moK m S S.length).map lj=R1 at *;generalize (moK m S S.length).map o6=R2 at *;generalize S.map bv=SD at *;generalize S.map cz=SR at *;generalize S.length=sn at *;generalize pad (row m)=Pm at *;simp -implicitDefEqProofs [Z8,Z8_B,au,e1,e2,e3,e4,e5,hL1,hL2,htk,List.replicate]
 ·rw [T6 h]
  refine ch hT rfl ?_;generalize kw p l ls 0 4=cc at *;generalize ls.map ce=LD at *;simp -implicitDefEqProofs [Z8,Z8_B,au,e1,h,a2o]
theorem Li (hT:T F3g=some Z3g) (hc:yl (den T A)) (hmo:Mn (den T A)):pb (den T A) F3g:=by
 intro p l ls bl gl ha hl;have e1:=hc p l ls 4 bl gl ha hl
 by_cases h:kw p l ls 0 4=0
 ·rw [h] at e1 ⊢
  obtain ⟨h',h4⟩:=Ic.1 h;obtain ⟨ip,m,rfl,hm,hs⟩:=id h';obtain ⟨S,rfl,hS⟩:=rz hs;have h5:=hm.five;have hSl:S.length≤4:=by rwa [ab] at h4
  have hS64:∀a∈S,a.len≤64:=fun a ha=>by have:=hS a ha; omega
  have e4:=hmo p m S hm.two (by omega) (by omega) hS64
  have hmd:(S.map fun a=>pad (row a)).map ce=S.map bv:=ia S
  rw [No h' hSl (by omega) hS64,a12]
  rw [hmd] at e1 ⊢;refine ch hT rfl ?_;generalize (moK m S S.length).map lj=R1 at *;generalize S.map bv=SD at *;generalize pad (row m)=Pm at *;simp -implicitDefEqProofs [Z3g,Z3g_B,au,e1,e4]
 ·rw [T6 h]
  refine ch hT rfl ?_;generalize kw p l ls 0 4=cc at *;generalize ls.map ce=LD at *;simp -implicitDefEqProofs [Z3g,Z3g_B,au,e1,h,a2o]
end Pe

namespace Gq
section
variable {K:Type} [CR K]
abbrev Rw (K:Type):=Nat→K
def tlR (r:Rw K):Rw K:=fun k=>r (k+1)
def exD (d:List (Rw K)→K):List (Rw K)→List (Rw K)→K
 | _,[]=>0
 | pre,r::rest=>r 0*d ((pre++rest).map tlR)-exD d (pre++[r]) rest
def det:Nat→List (Rw K)→K
 | 0,_=>1
 | n+1,M=>exD (det n) [] M
def adR (u:Rw K) (c:K) (v:Rw K):Rw K:=fun k=>u k+c*v k
@[simp] theorem ant (u:Rw K) (c:K) (v:Rw K):tlR (adR u c v)=adR (tlR u) c (tlR v):=rfl
theorem Uk {d:List (Rw K)→K} {n:Nat} (hd:∀A x C,A.length+C.length+2=n→d (A++x::x::C)=0):∀(C P Q:List (Rw K)) (x:Rw K),P.length+Q.length+C.length+1=n→exD d (P++x::x::Q) C=0
 | [],_,_,_,_=>rfl
 | r::C,P,Q,x,hl=>by
  simp only [b9] at hl
  have e1:d (((P++x::x::Q)++C).map tlR)=0:=by
   have:=hd (P.map tlR) (tlR x) ((Q++C).map tlR) (by simp only [ab,b8]; omega)
   simpa [ee] using this
  have e2:=Uk hd C P (Q++[r]) x (by simp only [b8,b9,cb]; omega)
  rw [exD,e1,show P++x::x::Q++[r]=P++x::x::(Q++[r]) by simp,e2]
  exact bo [r 0] rfl
theorem yv:∀(n:Nat) (A:List (Rw K)) (x:Rw K) (C:List (Rw K)),A.length+C.length+2=n→det n (A++x::x::C)=0
 | 0,_,_,_,h=>by omega
 | n+1,A,x,C,h=>by
  have key:∀(A P:List (Rw K)),P.length+A.length+C.length+2=n+1→exD (det n) P (A++x::x::C)=0:=by
   intro A
   induction A with
   | nil=>
    intro P hl;simp only [cb] at hl;have e1:=Uk (d:=det n) (n:=n) (yv n) C P [] x (by simp only [cb]; omega)
    simp only [d9,exD];rw [show P++[x]++[x]=P++x::x::[] by simp,e1,show P++x::C=P++[x]++C by simp]
    exact bo [x 0,det n ((P++[x]++C).map tlR)] rfl
   | cons a A ih=>
    intro P hl;simp only [b9] at hl
    have e1:det n ((P++(A++x::x::C)).map tlR)=0:=by
     have:=yv n ((P++A).map tlR) (tlR x) (C.map tlR) (by simp only [ab,b8]; omega)
     simpa [ee] using this
    have e2:=ih (P++[a]) (by simp only [b8,b9,cb]; omega)
    rw [df,exD,e1,e2];exact bo [a 0] rfl
  have:=key A [] (by simp only [cb]; omega)
  simpa [det] using this
theorem Ti {d:List (Rw K)→K} {n:Nat} (hd:∀A u c v C,A.length+C.length+1=n→d (A++adR u c v::C)=d (A++u::C)+c*d (A++v::C)):∀(C P Q:List (Rw K)) (u:Rw K) (c:K) (v:Rw K),P.length+Q.length+C.length=n →
 exD d (P++adR u c v::Q) C=exD d (P++u::Q) C+c*exD d (P++v::Q) C
 | [],_,_,_,c,_,_=>by
  simp only [exD];exact bo [c] rfl
 | r::C,P,Q,u,c,v,hl=>by
  simp only [b9] at hl
  have e1:d (((P++adR u c v::Q)++C).map tlR)=d (((P++u::Q)++C).map tlR)+c*d (((P++v::Q)++C).map tlR):=by
   have:=hd (P.map tlR) (tlR u) c (tlR v) ((Q++C).map tlR) (by simp only [ab,b8]; omega)
   simpa [ee] using this
  have e2:=Ti hd C P (Q++[r]) u c v (by simp only [b8,b9,cb]; omega)
  have s:∀w:Rw K,P++w::Q++[r]=P++w::(Q++[r]):=fun w=>by simp
  rw [exD,exD,exD,e1,s,s,s,e2];exact bo [r 0,d (((P++u::Q)++C).map tlR),d (((P++v::Q)++C).map tlR),c,exD d (P++u::(Q++[r])) C,exD d (P++v::(Q++[r])) C] rfl
theorem xo:∀(n:Nat) (A:List (Rw K)) (u:Rw K) (c:K) (v:Rw K) (C:List (Rw K)),A.length+C.length+1=n→det n (A++adR u c v::C)=det n (A++u::C)+c*det n (A++v::C)
 | 0,_,_,_,_,_,h=>by omega
 | n+1,A,u,c,v,C,h=>by
  have key:∀(A P:List (Rw K)),P.length+A.length+C.length=n→exD (det n) P (A++adR u c v::C)=exD (det n) P (A++u::C)+c*exD (det n) P (A++v::C):=by
   intro A
   induction A with
   | nil=>
    intro P hl;simp only [cb] at hl;have e1:=Ti (d:=det n) (n:=n) (xo n) C P [] u c v (by simp only [cb]; omega)
    simp only [d9,exD];rw [e1];show (u 0+c*v 0)*_-_=_;exact bo [u 0,c,v 0,det n ((P++C).map tlR),exD (det n) (P++[u]) C,exD (det n) (P++[v]) C] rfl
   | cons a A ih=>
    intro P hl;simp only [b9] at hl
    have e1:det n ((P++(A++adR u c v::C)).map tlR)=det n ((P++(A++u::C)).map tlR)+c*det n ((P++(A++v::C)).map tlR):=by
     have:=xo n ((P++A).map tlR) (tlR u) c (tlR v) (C.map tlR) (by simp only [ab,b8]; omega)
     simpa [ee] using this
    have e2:=ih (P++[a]) (by simp only [b8,b9,cb]; omega)
    simp only [df,exD];rw [e1,e2];exact bo [a 0,c,det n ((P++(A++u::C)).map tlR),det n ((P++(A++v::C)).map tlR),exD (det n) (P++[a]) (A++u::C),exD (det n) (P++[a]) (A++v::C)] rfl
  have:=key A [] (by simp only [cb]; omega)
  simpa [det] using this
theorem a1d {n:Nat} (A:List (Rw K)) (x y:Rw K) (C:List (Rw K)) (h:A.length+C.length+2=n):det n (A++x::y::C)=-det n (A++y::x::C):=by
 have e0:=yv n A (adR x 1 y) C h;rw [xo n A x 1 y (adR x 1 y::C) (by simp only [b9]; omega)] at e0
 have a:∀z:Rw K,A++z::adR x 1 y::C=(A++[z])++adR x 1 y::C:=fun z=>by simp
 have b:∀z w:Rw K,(A++[z])++w::C=A++z::w::C:=fun z w=>by simp
 rw [a x,a y,xo n (A++[x]) x 1 y C (by simp only [b8,b9,cb]; omega),xo n (A++[y]) x 1 y C (by simp only [b8,b9,cb]; omega),
  b,b,b,b,yv n A x C h,yv n A y C h] at e0
 have e1:det n (A++x::y::C)+det n (A++y::x::C)=0:=by
  rw [←e0];exact bo [det n (A++x::y::C),det n (A++y::x::C)] rfl
 have e2:det n (A++x::y::C)=det n (A++x::y::C)+det n (A++y::x::C) + -det n (A++y::x::C):=bo [det n (A++x::y::C),det n (A++y::x::C)] rfl;rw [e2,e1];exact bo [det n (A++y::x::C)] rfl
def sgn:Nat→K
 | 0=>1
 | k+1=>-sgn k
theorem E3 {n:Nat}:∀(B A:List (Rw K)) (x:Rw K) (C:List (Rw K)),A.length+B.length+C.length+1=n→det n (A++x::(B++C))=sgn B.length*det n (A++B++x::C)
 | [],A,x,C,_=>by
  simp only [d9,me,cb,sgn];exact bo [det n (A++x::C)] rfl
 | b::B,A,x,C,h=>by
  simp only [b9] at h;rw [df,a1d (n:=n) A x b (B++C) (by rw [b8]; omega)]
  have ih:=E3 (n:=n) B (A++[b]) x C (by simp only [b8,b9,cb]; omega)
  rw [show A++b::x::(B++C)=A++[b]++x::(B++C) by simp,ih,show A++[b]++B++x::C=A++(b::B)++x::C by simp]
  show _=-sgn B.length*_;exact bo [sgn B.length,det n (A++(b::B)++x::C)] rfl
theorem a19 {n:Nat} (A B:List (Rw K)) (x:Rw K) (C:List (Rw K)) (h:A.length+B.length+C.length+2=n):det n (A++x::(B++x::C))=0:=by
 have e:=E3 (n:=n) B A x (x::C) (by rw [b9]; omega)
 rw [e,yv n (A++B) x C (by rw [b8]; omega)]
 exact bo [(sgn B.length:K)] rfl
theorem a4x {n:Nat} (B:List (Rw K)) (x y:Rw K) (C:List (Rw K)) (h:B.length+C.length+2=n):det n (x::(B++y::C))=-det n (y::(B++x::C)):=by
 have e1:=E3 (n:=n) B [] x (y::C) (by simp only [b9,cb]; omega)
 have e2:=E3 (n:=n) B [] y (x::C) (by simp only [b9,cb]; omega)
 simp only [d9] at e1 e2;rw [e1,e2,a1d B x y C h];exact bo [(sgn B.length:K),det n (B++y::x::C)] rfl
theorem Ub {n:Nat} (x:Rw K) (f:Rw K→K):∀(R A:List (Rw K)),A.length+R.length+1=n→det n (x::(A++R.map fun y=>adR y (f y) x))=det n (x::(A++R))
 | [],_,_=>rfl
 | y::R,A,h=>by
  simp only [b9] at h;have ih:=Ub (n:=n) x f R (A++[adR y (f y) x]) (by simp only [b8,b9,cb]; omega)
  simp only [ee,df,d9] at ih;rw [fu,ih,←df,xo n (x::A) y (f y) x R (by simp only [b9]; omega)]
  have e:=a19 (n:=n) [] A x R (by rw [cb]; omega)
  simp only [d9] at e;rw [show x::A++x::R=x::(A++x::R) from rfl,e];show det n (x::(A++y::R))+f y*0=det n (x::(A++y::R));exact bo [f y,det n (x::(A++y::R))] rfl
theorem Jx {d:List (Rw K)→K}:∀(R P:List (Rw K)),(∀r∈R,r 0=0)→exD d P R=0
 | [],_,_=>rfl
 | r::R,P,h=>by
  rw [exD,h r (by simp),Jx R (P++[r]) fun q hq=>h q (by simp [hq])]
  exact bo [d ((P++R).map tlR)] rfl
theorem a2y {n:Nat} (x:Rw K) (R:List (Rw K)) (h:∀r∈R,r 0=0):det (n+1) (x::R)=x 0*det n (R.map tlR):=by
 show exD (det n) [] (x::R)=_;rw [exD,Jx R _ h,d9];exact bo [x 0,det n (R.map tlR)] rfl
theorem a7v {n:Nat} (R:List (Rw K)) (h:∀r∈R,r 0=0):det (n+1) R=0:=Jx R [] h
theorem Lj:∀(n:Nat) (R:List (Rw K)) (w:Rw K),R.length=n→(∀k,k<n→w k=0)→det (n+1) (R++[w])=w n*det n R
 | 0,R,w,hl,_=>by
  obtain rfl:=fb.1 hl;show exD (det 0) [] [w]=w 0*1;simp only [exD,det];exact bo [w 0] rfl
 | n+1,R,w,hl,hw=>by
  have key:∀(R P:List (Rw K)),P.length+R.length=n+1→exD (det (n+1)) P (R++[w])=w (n+1)*exD (det n) P R:=by
   intro R
   induction R with
   | nil=>
    intro P hP;simp only [d9,exD];rw [hw 0 (by omega)]
    exact bo [w (n+1),det (n+1) ((P++[]).map tlR)] rfl
   | cons r R ih=>
    intro P hP;simp only [b9] at hP;have e1:=Lj n ((P++R).map tlR) (tlR w) (by simp only [ab,b8]; omega) (fun k hk=>hw (k+1) (by omega))
    have e2:(P++(R++[w])).map tlR=(P++R).map tlR++[tlR w]:=by simp
    rw [df,exD,exD,e2,e1,ih (P++[r]) (by simp only [b8,b9,cb]; omega)]
    show r 0*(w (n+1)*_)-_=_;exact bo [r 0,w (n+1),det n ((P++R).map tlR),exD (det n) (P++[r]) R] rfl
  exact key R [] (by simpa using hl)
end
end Gq

namespace Pe
open Go Gq
variable {T:Nat→Option Fn} {A:ap}
section
variable {p:Int} [IsP p]
abbrev Tab (p:Int) [IsP p]:=List (List (Fp p))
noncomputable def dtL (m:Fp p) (d:Tab p→Fp p):Fp p→Nat→Tab p→Tab p→Fp p
 | acc,_,_,[]=>acc
 | acc,i,pre,r::rest=>dtL m d (acc+Pol.C (zp p (1-2*((i%2:Nat):Int)))*(r.headD 0*d ((pre++rest).map List.tail)%m)) (i+1) (pre++[r]) rest
noncomputable def dtP (m:Fp p):Nat→Tab p→Fp p
 | 0,_=>1
 | n+1,M=>dtL m (dtP m n) 0 0 [] M
def Sq (m:Fp p) (n:Nat) (M:Tab p):Prop:=M.length=n∧∀r∈M,r.length=n∧∀x∈r,x.len<m.len
theorem Sq.minor {m:Fp p} {n:Nat} {pre:Tab p} {r:List (Fp p)} {rest:Tab p} (h:Sq m (n+1) (pre++r::rest)):Sq m n ((pre++rest).map List.tail):=by
 obtain ⟨h1,h2⟩:=h;refine ⟨?_,fun q hq=>?_⟩
 ·simp only [b8,b9] at h1
  simp only [ab,b8]; omega
 ·obtain ⟨q,hq',rfl⟩:=ct.1 hq
  have hm:q∈pre++r::rest:=by
   rcases bi.1 hq' with g | g
   ·exact bi.2 (.inl g)
   ·exact bi.2 (.inr (by simp [g]))
  obtain ⟨g1,g2⟩:=h2 q hm;exact ⟨by rw [List.length_tail]; omega,fun x hx=>g2 x (List.mem_of_mem_tail hx)⟩
theorem a84 (k:Zp p) (a:Fp p):(Pol.C k*a).len≤a.len:=by
 by_cases h:k=0
 ·rw [h,show Pol.C (0:Zp p)=(0:Fp p) from Pol.ext fun i=>by cases i <;> rfl,show (0:Fp p)*a=0 from bo [a] rfl,Pol.len_zero]; omega
 ·rw [Pol.len_Cmul h]; exact bp _
theorem a0i {m:Fp p} (hm:m≠0) (hm1:2≤m.len) {d:Tab p→Fp p}:∀(R:Tab p) (acc:Fp p) (i:Nat) (pre:Tab p),acc.len<m.len→(dtL m d acc i pre R).len<m.len
 | [],acc,_,_,h=>h
 | r::R,acc,i,pre,h=>by
  rw [dtL];refine a0i hm hm1 R _ _ _ ?_;have h1:=Pol.len_mod (r.headD 0*d ((pre++R).map List.tail)) hm;have h2:=a84 (zp p (1-2*((i%2:Nat):Int))) (r.headD 0*d ((pre++R).map List.tail)%m);have h3:=Pol.len_add_le (a:=acc) (b:=Pol.C (zp p (1-2*((i%2:Nat):Int)))*(r.headD 0*d ((pre++R).map List.tail)%m)) (n:=m.len-1) (by omega) (by omega)
  omega
theorem Ea {m:Fp p} (hm:m≠0) (hm1:2≤m.len) (n:Nat) (M:Tab p):(dtP m n M).len<m.len:=by
 cases n with
 | zero=>
  show (1:Fp p).len<m.len;have:(1:Fp p).len=1:=Pol.len_one;omega
 | succ n=>
  refine a0i hm hm1 M 0 0 [] ?_;have:(0:Fp p).len=0:=Pol.len_zero;omega
noncomputable def rwQ (m:Fp p) (r:List (Fp p)):Rw (Quo m):=fun k=>Quo.mk m (r.getD k 0)
end
section
variable {p:Int}
theorem a7t (m:Fp p) (r:List (Fp p)):tlR (rwQ m r)=rwQ m r.tail:=by
 funext k
 cases r with
 | nil=>rfl
 | cons x r=>rfl
end
section
variable {p:Int} [IsP p]
end
section
variable {p:Int}
theorem aje (m:Fp p) (r:List (Fp p)):rwQ m r 0=Quo.mk m (r.headD 0):=by cases r <;> rfl
end
section
variable {p:Int} [IsP p]
noncomputable def sQ (m:Fp p) (i:Nat):Quo m:=Quo.mk m (Pol.C (zp p (1-2*((i%2:Nat):Int))))
end
section
variable {p:Int}
theorem ap6 (m:Fp p):sQ m 0=1:=rfl
end
section
variable {p:Int} [IsP p]
end
section
variable {p:Int}
theorem aco (m:Fp p) (i:Nat):sQ m (i+1)=-sQ m i:=by
 unfold sQ;rcases Nat.mod_two_eq_zero_or_one i with h | h
 ·rw [h,show (i+1)%2=1 by omega]
  show Quo.mk m (Pol.C (-zp p 1))=-Quo.mk m (Pol.C (zp p 1));rw [Pol.C_neg]; rfl
 ·rw [h,show (i+1)%2=0 by omega]
  show Quo.mk m (Pol.C (zp p 1))=-Quo.mk m (Pol.C (-zp p 1));rw [Pol.C_neg,show Quo.mk m (-Pol.C (zp p 1))=-Quo.mk m (Pol.C (zp p 1)) from rfl];exact bo [Quo.mk m (Pol.C (zp p 1))] rfl
end
section
variable {p:Int} [IsP p]
theorem a8f {m:Fp p} {d:Tab p→Fp p} {dq:List (Rw (Quo m))→Quo m} (hd:∀N,Quo.mk m (d N)=dq (N.map (rwQ m))):∀(R:Tab p) (acc:Fp p) (i:Nat) (pre:Tab p),
 Quo.mk m (dtL m d acc i pre R)=Quo.mk m acc+sQ m i*exD dq (pre.map (rwQ m)) (R.map (rwQ m))
 | [],acc,i,pre=>by
  show Quo.mk m acc=Quo.mk m acc+sQ m i*0;exact bo [Quo.mk m acc,sQ m i] rfl
 | r::R,acc,i,pre=>by
  have e1:(pre++R).map (tlR ∘ rwQ m)=((pre++R).map List.tail).map (rwQ m):=by
   rw [k8];exact List.map_congr_left fun q _=>a7t m q
  have e3:exD dq (pre.map (rwQ m)) (rwQ m r::R.map (rwQ m))=Quo.mk m (r.headD 0)*Quo.mk m (d ((pre++R).map List.tail))-exD dq (pre.map (rwQ m)++[rwQ m r]) (R.map (rwQ m)):=by
   rw [exD,←cn,k8,e1,←hd,aje]
  have e2:Quo.mk m (acc+Pol.C (zp p (1-2*((i%2:Nat):Int)))*(r.headD 0*d ((pre++R).map List.tail)%m)) =
   Quo.mk m acc+sQ m i*(Quo.mk m (r.headD 0)*Quo.mk m (d ((pre++R).map List.tail))):=by
   show Quo.mk m acc+Quo.mk m (Pol.C (zp p (1-2*((i%2:Nat):Int))))*Quo.mk m (r.headD 0*d ((pre++R).map List.tail)%m)=_;rw [Pol.mk_mod]; rfl
  rw [dtL,a8f hd R,fu,e3,aco,e2,show (pre++[r]).map (rwQ m)=pre.map (rwQ m)++[rwQ m r] by rw [cn]; rfl]
  exact bo [Quo.mk m acc,sQ m i,Quo.mk m (r.headD 0),Quo.mk m (d ((pre++R).map List.tail)),exD dq (pre.map (rwQ m)++[rwQ m r]) (R.map (rwQ m))] rfl
theorem Ws (m:Fp p):∀(n:Nat) (M:Tab p),Quo.mk m (dtP m n M)=det n (M.map (rwQ m))
 | 0,_=>rfl
 | n+1,M=>by
  rw [dtP,a8f (Ws m n) M 0 0 []];show Quo.mk m 0+sQ m 0*exD (det n) [] (M.map (rwQ m))=_;rw [ap6,Quo.mk_zero];show 0+1*exD (det n) [] (M.map (rwQ m))=exD (det n) [] (M.map (rwQ m));exact bo [exD (det n) [] (M.map (rwQ m))] rfl
end
end Pe
namespace Pe
open Go Gq
variable {T:Nat→Option Fn} {A:ap}
section
variable {p:Int} [IsP p]
noncomputable abbrev tbD (M:Tab p):List D:=M.map fun r=>D.sl .leaf (r.map cz)
def mnr (M:Tab p) (i k:Nat):Tab p:=M.take (min k i)++(M.take k).drop (i+1)
theorem a9u (M:Tab p) (i:Nat):mnr M i (i+1)=mnr M i i:=by
 unfold mnr;rw [show min (i+1) i=min i i by omega,List.drop_of_length_le (by rw [bj]; omega),List.drop_of_length_le (by rw [bj]; omega)]
theorem a8z {M:Tab p} {i k:Nat} (hk:k<M.length) (h:k≠i):mnr M i (k+1)=mnr M i k++[M[k]]:=by
 unfold mnr
 by_cases hki:k<i
 ·rw [show min (k+1) i=k+1 by omega,show min k i=k by omega,d8 hk,List.drop_of_length_le (by rw [b8,bj,b9,cb]; omega),List.drop_of_length_le (by rw [bj]; omega)]
  simp
 ·rw [show min (k+1) i=i by omega,show min k i=i by omega,d8 hk,List.drop_append_of_le_length (by rw [bj]; omega),ee]
theorem abo {M pre:Tab p} {r:List (Fp p)} {rest:Tab p} (h:M=pre++r::rest):mnr M pre.length M.length=pre++rest:=by
 subst h;unfold mnr;rw [gq,show min (pre++r::rest).length pre.length=pre.length by rw [b8]; omega,o8]
 congr 1
 rw [show pre.length+1=(pre++[r]).length by simp,show pre++r::rest=(pre++[r])++rest by simp,jj]
theorem Wy {O:ap} {m:Fp p} {M:Tab p} {n i:Nat} (hn:M.length=n) (hb:n<1000000) (hM:∀r∈M,0<r.length) (hi:i<n) {acc:List Int} {LD:D}:∀(q k:Nat) (cp:Option Nat),k+q=n→∃cp':Option Nat,
 dn O 0 (.loop Zl_L0) ⟨[(1,.d (.sl .leaf (tbD M))),(2,.ptr 0 []),(5,(.d (.sl .leaf (aq .i64 acc)))),(6,(.d (.int .i64 i))),(7,.d LD),(8,.sl 2 [] 0 (mnr M i k).length cp),(16,.d (.sl .leaf (tbD M))),(17,(.d (.int .i64 n))),(18,(.d (.int .i64 i))),(23,.d (.sl .leaf (tbD M))),(24,(.d (.int .i64 n))),(25,(.d (.int .i64 k)))],[.box false (qf m),.hole,.sl false .leaf (tbD ((mnr M i k).map List.tail)),.hole,.hole]⟩ =
  some (.exit 2,⟨[(1,.d (.sl .leaf (tbD M))),(2,.ptr 0 []),(5,(.d (.sl .leaf (aq .i64 acc)))),(6,(.d (.int .i64 i))),(7,.d LD),(8,.sl 2 [] 0 (mnr M i n).length cp'),(16,.d (.sl .leaf (tbD M))),(17,(.d (.int .i64 n))),(18,(.d (.int .i64 i))),(23,.d (.sl .leaf (tbD M))),(24,(.d (.int .i64 n))),(25,(.d (.int .i64 n))),(26,(.d (.bool false)))],[.box false (qf m),.hole,.sl false .leaf (tbD ((mnr M i n).map List.tail)),.hole,.hole]⟩)
 | 0,k,cp,hk=>by
  obtain rfl:k=n:=by omega
  refine ⟨cp,cg ?_⟩;show _=some (_,(⟨_,[_,_,.sl false .leaf (tbD ((mnr M i k).map List.tail)),_,_]⟩:St));generalize (tbD ((mnr M i k).map List.tail))=RD at *;generalize (mnr M i k).length=ml at *;generalize tbD M=XD at *;simp -implicitDefEqProofs [Zl_L0,au]
 | q+1,k,cp,hk=>by
  have hlt:k<n:=by omega
  have hltM:k<M.length:=by omega
  have hXD:(tbD M).length=n:=by rw [ab]; exact hn
  have hxk:∀h:k<(tbD M).length,(tbD M)[k]'h=.sl .leaf (M[k].map cz):=fun h=>by rw [ci]
  have w4:IntKind.i64.wrap ((k:Int)+1)=((k+1:Nat):Int):=(w64 (x:=(k:Int)+1) (by omega)).trans (by omega)
  by_cases hki:k=i
  ·subst hki
   obtain ⟨cp',ih⟩:=Wy (O:=O) (m:=m) hn hb hM hi (acc:=acc) (LD:=LD) q (k+1) cp (by omega)
   rw [a9u] at ih;refine ⟨cp',bq ?_ ih⟩;generalize (tbD ((mnr M k k).map List.tail))=RD at *;generalize (mnr M k k).length=ml at *;generalize M[k].map cz=KD at *;generalize tbD M=XD at *;simp -implicitDefEqProofs [Zl_L0,au,hlt,hXD,hxk,w4]
  ·have hpos:=hM _ (bb hltM)
   obtain ⟨cp',ih⟩:=Wy (O:=O) (m:=m) hn hb hM hi (acc:=acc) (LD:=LD) q (k+1) none (by omega)
   have hs:=a8z hltM hki;have hml:(mnr M i (k+1)).length=(mnr M i k).length+1:=by rw [hs,b8]; rfl
   have htb:tbD ((mnr M i (k+1)).map List.tail)=tbD ((mnr M i k).map List.tail)++[.sl .leaf (M[k].map cz).tail]:=by
    rw [hs,cn,tbD,cn]
    congr 1
    show [D.sl Sh.leaf ((M[k]).tail.map cz)]=_;rw [List.map_tail]
   have hmk:(mnr M i k).length≤k:=by
    unfold mnr;rw [b8,bj,fo,bj]; omega
   have h24:((mnr M i k).length+1)*24≤1099511627776:=by omega
   have hL:(tbD ((mnr M i k).map List.tail)).length=(mnr M i k).length:=by rw [ab,ab]
   have htt:(tbD ((mnr M i k).map List.tail)).take (mnr M i k).length=tbD ((mnr M i k).map List.tail):=b7 (by omega)
   have hKl:(M[k].map cz).length=M[k].length:=ab ..;have hdt:(M[k].map cz).tail.take (M[k].length-1)=(M[k].map cz).tail:=b7 (by rw [List.length_tail,hKl]; exact bp _)
   have h1:1≤M[k].length:=hpos;have hne:¬ (k:Int)=i:=by omega
   rw [hml,htb] at ih;refine ⟨cp',bq ?_ ih⟩;generalize (tbD ((mnr M i k).map List.tail))=RD at *;generalize (mnr M i k).length=ml at *;generalize M[k].map cz=KD at *;generalize M[k].length=kl at *;generalize tbD M=XD at *;simp -implicitDefEqProofs [Zl_L0,au,hlt,hXD,hxk,hL,htt,hKl,hdt,h1,h24,hne,w4,List.replicate]
theorem T7 (M:Tab p):(tbD M).length=M.length:=ab ..
theorem a0e {O:ap} (hc:o5 O) (hpr:nk O) {m:Fp p} (hm:m≠0) (hm1:2≤m.len) (hml:m.len≤64) {n:Nat} (hb:n+1<1000000) {M:Tab p} (hS:Sq m (n+1) M)
 (hd:∀N:Tab p,Sq m n N→ask O Fl [qf m,.sl .leaf (tbD N)]=some (D.sl .leaf (aq .i64 (row (dtP m n N))))):∀(rest pre:Tab p) (acc:Fp p),M=pre++rest→acc.len<m.len →
 dn O 0 (.loop Zl_L1) ⟨[(1,.d (.sl .leaf (tbD M))),(2,.ptr 0 []),(5,(.d (.sl .leaf (aq .i64 (row acc))))),(16,.d (.sl .leaf (tbD M))),(17,(.d (.int .i64 (((n+1:Nat):Int))))),(18,(.d (.int .i64 pre.length)))],[.box false (qf m),.hole,.hole,.hole,.hole]⟩ =
  some (.exit 0,⟨[(1,.d (.sl .leaf (tbD M))),(2,.ptr 0 []),(5,(.d (.sl .leaf (aq .i64 (row (dtL m (dtP m n) acc pre.length pre rest)))))),(16,.d (.sl .leaf (tbD M))),(17,(.d (.int .i64 (((n+1:Nat):Int))))),(18,(.d (.int .i64 (((n+1:Nat):Int))))),(19,(.d (.bool false)))],[.box false (qf m),.hole,.hole,.hole,.hole]⟩)
 | [],pre,acc,h,ha=>by
  rw [me] at h;have hl:pre.length=n+1:=by rw [←h]; exact hS.1
  rw [hl];refine cg ?_;show _=some (_,(⟨[_,_,(5,(.d (.sl .leaf (aq .i64 (row acc))))),_,_,_,_],_⟩:St));generalize ((n+1:Nat):Int)=k at *;generalize row acc=ra at *;generalize tbD M=XD at *;simp -implicitDefEqProofs [Zl_L1,au]
 | r::rest,pre,acc,h,ha=>by
  have hMl:=hS.1;have hlt:pre.length<n+1:=by rw [←hMl,h,b8,b9]; omega
  have hSm:Sq m n ((pre++rest).map List.tail):=Sq.minor (h▸hS);have hr:=hS.2 r (by rw [h]; simp)
  obtain ⟨x,r',rfl⟩:∃x r',r=x::r':=by
   cases r with
   | nil=>simp at hr
   | cons x r'=>exact ⟨x,r',rfl⟩
  have hx:=hr.2 x (by simp)
  have e1:=hd _ hSm;have hdl:=Ea hm hm1 n ((pre++rest).map List.tail);have e2:=hpr p m x (dtP m n ((pre++rest).map List.tail)) hm hml (by omega) (by omega)
  have hpl:=Pol.len_mod (x*dtP m n ((pre++rest).map List.tail)) hm;have e3:=hc p (1-2*((pre.length%2:Nat):Int)) acc (x*dtP m n ((pre++rest).map List.tail)%m) (by omega) (by omega) (by omega) (by omega)
  obtain ⟨cp,e4⟩:=Wy (O:=O) (m:=m) hMl hb (fun r hr=>by have:=(hS.2 r hr).1; omega) hlt (acc:=row acc) (LD:=.sl .leaf ((x::r').map cz)) (n+1) 0 (some 0) (br _)
  have hall:=abo h;rw [hMl] at hall
  have hml2:(pre++rest).length=n:=by
   have:=hSm.1
   rwa [ab] at this
  rw [show ((0:Nat):Int)=0 from rfl,show (mnr M pre.length 0).length=0 by simp [mnr],show tbD ((mnr M pre.length 0).map List.tail)=[] by simp [mnr],hall,hml2] at e4
  have hXD:(tbD M).length=n+1:=by rw [T7]; exact hMl
  have hxi:∀h:pre.length<(tbD M).length,(tbD M)[pre.length]'h=.sl .leaf ((x::r').map cz):=fun hh=>by
   rw [ci]
   congr 2
   subst h;rw [List.getElem_append_right (bp _)];simp
  have hNL:(tbD ((pre++rest).map List.tail)).length=n:=by rw [T7]; exact hSm.1
  have hNt:(tbD ((pre++rest).map List.tail)).take n=tbD ((pre++rest).map List.tail):=b7 (by omega)
  have w4:IntKind.i64.wrap ((pre.length:Int)+1)=((pre.length+1:Nat):Int):=(w64 (x:=(pre.length:Int)+1) (by omega)).trans (by omega)
  have ht:Int.tmod (pre.length:Int) 2=((pre.length%2:Nat):Int):=by rw [dj (by omega)]; omega
  have w5:IntKind.i64.wrap (2*((pre.length%2:Nat):Int))=2*((pre.length%2:Nat):Int):=w64 (by omega)
  have w6:IntKind.i64.wrap (1-2*((pre.length%2:Nat):Int))=1-2*((pre.length%2:Nat):Int):=w64 (by omega)
  have hacc:(acc+Pol.C (zp p (1-2*((pre.length%2:Nat):Int)))*(x*dtP m n ((pre++rest).map List.tail)%m)).len<m.len:=by
   have h2:=a84 (zp p (1-2*((pre.length%2:Nat):Int))) (x*dtP m n ((pre++rest).map List.tail)%m);have h3:=Pol.len_add_le (a:=acc) (b:=Pol.C (zp p (1-2*((pre.length%2:Nat):Int)))*(x*dtP m n ((pre++rest).map List.tail)%m)) (n:=m.len-1) (by omega) (by omega)
   omega
  have ih:=a0e hc hpr hm hm1 hml hb hS hd rest (pre++[x::r']) _ (by rw [h]; simp) hacc
  rw [show (pre++[x::r']).length=pre.length+1 by simp] at ih
  refine bq ?_ ih;rw [fu,show cz x=(D.sl .leaf (aq .i64 (row x))) from rfl] at e4 hxi;have hli:(pre.length:Int)<((n+1:Nat):Int):=by omega
  rw [←hXD] at e4 ih hlt hli ⊢;generalize row (acc+Pol.C (zp p (1-2*((pre.length%2:Nat):Int)))*(x*dtP m n ((pre++rest).map List.tail)%m))=R3 at *;generalize row (x*dtP m n ((pre++rest).map List.tail)%m)=R2 at *;generalize row (dtP m n ((pre++rest).map List.tail))=R1 at *;generalize tbD ((pre++rest).map List.tail)=ND at *;generalize row acc=ra at *;generalize tbD M=XD at *;generalize r'.map cz=RD at *;generalize row x=rx at *;generalize ((pre.length%2:Nat):Int)=par at *;generalize ((pre.length+1:Nat):Int)=k2 at *;generalize pre.length=pl at *;simp -implicitDefEqProofs [Zl_L1,au,hlt,hli,hxi,hNL,hNt,e1,e2,e3,e4,ht,w4,w5,w6]
end
def a9t (O:ap):Prop:=∀(p:Int) [IsP p] (m:Fp p),m≠0→2≤m.len→m.len≤64→∀(n:Nat),n<1000→∀M:Tab p,Sq m n M→ask O Fl [qf m,.sl .leaf (tbD M)]=some (D.sl .leaf (aq .i64 (row (dtP m n M))))
theorem aj3 (hT:T Fl=some Zl) (hc:o5 (den T A)) (hpr:nk (den T A)):a9t (den T A):=by
 intro p ip m hm hm1 hml n
 induction n with
 | zero=>
  intro _ M hS;obtain rfl:M=[]:=fb.1 hS.1;refine ch hT rfl ?_;show _=some (D.sl .leaf (aq .i64 (row (1:Fp p))));rw [vm,show tbD ([]:Tab p)=[] from rfl];generalize row m=rm at *;simp -implicitDefEqProofs [Zl,Zl_B,au,aq,List.replicate]
 | succ n ih=>
  intro hn M hS;have e:=a0e (O:=den T A) hc hpr hm hm1 hml (n:=n) (by omega) hS (fun N hN=>ih (by omega) N hN) M [] 0 rfl (by have:(0:Fp p).len=0:=Pol.len_zero; omega)
  have hXD:(tbD M).length=n+1:=by rw [T7]; exact hS.1
  rw [show ([]:Tab p).length=0 from rfl,show ((0:Nat):Int)=0 from rfl,show row (0:Fp p)=[] from row_zero,show aq IntKind.i64 []=[] from rfl,show dtL m (dtP m n) 0 0 [] M=dtP m (n+1) M from rfl] at e;refine ch hT rfl ?_;generalize row (dtP m (n+1) M)=R1 at *;generalize tbD M=XD at *;have hnz:¬ XD=[]:=by rintro rfl; simp at hXD
  rw [←hXD] at e;simp -implicitDefEqProofs [Zl,Zl_B,au,hnz,e,List.replicate]
section
variable {p:Int} [IsP p]
noncomputable abbrev Dw (r:List (Fp p)):List D:=r.map bv
end
theorem aee (p:Int) (l:List Int) (ls:List (List Int)):(mmT p l ls).length≤4∧∀r∈mmT p l ls,r.length=(mmT p l ls).length∧∀x∈r,x.length=64:=by
 by_cases h:kw p l ls 0 4=0
 ·obtain ⟨h',h4⟩:=Ic.1 h
  obtain ⟨ip,m,rfl,hm,hs⟩:=id h';obtain ⟨S,rfl,hS⟩:=rz hs;have h5:=hm.five;have hSl:S.length≤4:=by rwa [ab] at h4
  have e:=No h' hSl (by omega) (fun a ha=>by have:=hS a ha; omega)
  have hl:((moK m S S.length).map skP).length=S.length:=by rw [ab,od]
  show (mmT p (pad (row m)) (skP S)).length≤4∧∀r∈mmT p (pad (row m)) (skP S),r.length=(mmT p (pad (row m)) (skP S)).length∧_;rw [e,hl];refine ⟨hSl,fun r hr=>?_⟩
  obtain ⟨q,hq,rfl⟩:=ct.1 hr;obtain ⟨i,_,rfl⟩:=ct.1 hq;refine ⟨by unfold skP; rw [ab,jt],fun x hx=>?_⟩
  obtain ⟨y,_,rfl⟩:=ct.1 hx;exact dc _
 ·rw [T6 h]; simp
def a9c (O:ap):Prop:=∀n:Nat,n<10000000→O F2c [.d (.nils (.arr 64 .leaf)),(.d (.int .i64 n))] []=some (.sl 0 [] 0 0 none,[],[.sl false (.arr 64 .leaf) (List.replicate n (.arr 64 .leaf z64))])
def M8 (O:ap):Prop:=∀X Y:List D,X.length<2000000→Y.length<2000000→ask O F29 [.sl .leaf [.sl (.arr 64 .leaf) X,.sl (.arr 64 .leaf) Y]]=some (.sl (.arr 64 .leaf) (X++Y))
theorem a88 (hT:T F29=some Z29) (hg:a9c (den T A)):M8 (den T A):=by
 intro X Y hX hY;have eg:=hg (X.length+Y.length) (by omega)
 obtain ⟨x,hx⟩:∃x:Int,(X.length:Int)=x:=⟨_,rfl⟩;obtain ⟨y,hy⟩:∃y:Int,((X.length+Y.length:Nat):Int)=y:=⟨_,rfl⟩;rw [hy] at eg;have w0:IntKind.i64.wrap x=x:=w64 (by omega)
 have agh:x+(Y.length:Int)=y:=by omega
 have w1:IntKind.i64.wrap y=y:=w64 (by omega)
 have w2:IntKind.i64.wrap 1=1:=w64 (by omega)
 have w3:IntKind.i64.wrap 2=2:=w64 (by omega)
 have n1:¬ x<0:=by omega
 have n2:¬ y<0:=by omega
 have b1:X.length*64≤1099511627776:=by omega
 have b2:(X.length+Y.length)*64≤1099511627776:=by omega
 have hXY:(X++Y).length=X.length+Y.length:=b8;generalize List.replicate (X.length+Y.length) (D.arr 64 .leaf z64)=ZZ at *
 have st:=bq (O:=den T A) (np:=0) (c:=Z29_L0) (s:=⟨[(0,.d (.sl .leaf [.sl (.arr 64 .leaf) X,.sl (.arr 64 .leaf) Y])),(3,(.d (.int .i64 0))),(9,.d (.sl .leaf [.sl (.arr 64 .leaf) X,.sl (.arr 64 .leaf) Y])),(10,(.d (.int .i64 2))),(11,(.d (.int .i64 0)))],[.hole,.hole]⟩)
  (s1:=⟨[(0,.d (.sl .leaf [.sl (.arr 64 .leaf) X,.sl (.arr 64 .leaf) Y])),(3,(.d (.int .i64 x))),(9,.d (.sl .leaf [.sl (.arr 64 .leaf) X,.sl (.arr 64 .leaf) Y])),(10,(.d (.int .i64 2))),(11,(.d (.int .i64 1)))],[.hole,.hole]⟩) (by
   simp -implicitDefEqProofs [Z29_L0,au,hx,w0,w2,n1])
  (bq (s1:=⟨[(0,.d (.sl .leaf [.sl (.arr 64 .leaf) X,.sl (.arr 64 .leaf) Y])),(3,(.d (.int .i64 y))),(9,.d (.sl .leaf [.sl (.arr 64 .leaf) X,.sl (.arr 64 .leaf) Y])),(10,(.d (.int .i64 2))),(11,(.d (.int .i64 2)))],[.hole,.hole]⟩) (by
   simp -implicitDefEqProofs [Z29_L0,au,agh,w1,w3,n2])
  (cg (id:=0) (s1:=⟨[(0,.d (.sl .leaf [.sl (.arr 64 .leaf) X,.sl (.arr 64 .leaf) Y])),(3,(.d (.int .i64 y))),(9,.d (.sl .leaf [.sl (.arr 64 .leaf) X,.sl (.arr 64 .leaf) Y])),(10,(.d (.int .i64 2))),(11,(.d (.int .i64 2))),(12,(.d (.bool false)))],[.hole,.hole]⟩) (by
   simp -implicitDefEqProofs [Z29_L0,au])))
 have sx:=bq (O:=den T A) (np:=0) (c:=Z29_L1) (s:=⟨[(6,.sl 0 [] 0 0 none),(25,.d (.sl .leaf [.sl (.arr 64 .leaf) X,.sl (.arr 64 .leaf) Y])),(26,(.d (.int .i64 2))),(27,(.d (.int .i64 0)))],[.sl false (.arr 64 .leaf) ZZ,.hole]⟩)
  (s1:=⟨[(6,.sl 0 [] 0 X.length none),(25,.d (.sl .leaf [.sl (.arr 64 .leaf) X,.sl (.arr 64 .leaf) Y])),(26,(.d (.int .i64 2))),(27,(.d (.int .i64 1)))],[.sl false (.arr 64 .leaf) X,.hole]⟩) (by
   simp -implicitDefEqProofs [Z29_L1,au,w2,b1])
  (bq (s1:=⟨[(6,.sl 0 [] 0 (X.length+Y.length) none),(25,.d (.sl .leaf [.sl (.arr 64 .leaf) X,.sl (.arr 64 .leaf) Y])),(26,(.d (.int .i64 2))),(27,(.d (.int .i64 2)))],[.sl false (.arr 64 .leaf) (X++Y),.hole]⟩) (by
   simp -implicitDefEqProofs [Z29_L1,au,w3,b2])
  (cg (id:=2) (s1:=⟨[(6,.sl 0 [] 0 (X.length+Y.length) none),(25,.d (.sl .leaf [.sl (.arr 64 .leaf) X,.sl (.arr 64 .leaf) Y])),(26,(.d (.int .i64 2))),(27,(.d (.int .i64 2))),(28,(.d (.bool false)))],[.sl false (.arr 64 .leaf) (X++Y),.hole]⟩) (by
   simp -implicitDefEqProofs [Z29_L1,au])))
 refine ch hT rfl ?_;have htk:(X++Y).take (X.length+Y.length)=X++Y:=b7 (by omega)
 generalize X++Y=XY at *;generalize X.length+Y.length=n at *;simp -implicitDefEqProofs [Z29,Z29_B,st,sx,eg,hXY,htk,List.idxOf,List.findIdx,List.findIdx.go]
section
variable {p:Int}
noncomputable def dif (xs ys:List (Fp p)):List (Fp p):=List.zipWith (fun a b=>a-b) xs ys
theorem qb {xs ys:List (Fp p)} (h:xs.length=ys.length):(dif xs ys).length=xs.length:=by unfold dif; rw [List.length_zipWith]; omega
theorem a05 {xs ys:List (Fp p)} {i:Nat} (h1:i<xs.length) (h2:i<ys.length):∀h:i<(dif xs ys).length,(dif xs ys)[i]'h=xs[i]-ys[i]:=fun _=>List.getElem_zipWith
theorem a20 [IsP p] {xs ys:List (Fp p)} (hx:∀x∈xs,x.len≤11) (hy:∀x∈ys,x.len≤11):∀x∈dif xs ys,x.len≤11:=by
 intro x hm;unfold dif at hm;obtain ⟨i,hi,rfl⟩:=jk hm;rw [List.getElem_zipWith];rw [List.length_zipWith] at hi;have h1:=hx _ (bb (show i<xs.length by omega))
 have h2:=hy _ (bb (show i<ys.length by omega))
 exact Pol.len_sub_le h1 h2
variable [IsP p]
theorem a6w {O:ap} (hc:pz O) {xs ys:List (Fp p)} (hl:xs.length=ys.length) (hn:xs.length<2000000) (hx:∀x∈xs,x.len≤11) (hy:∀x∈ys,x.len≤11):∀(r i:Nat) (cp:Option Nat),i+r=xs.length→∃cp':Option Nat,
 dn O 0 (.loop Z14_L0) ⟨[(0,(.d (.int .i64 p))),(2,.d (.sl .leaf (ys.map cz))),(7,.sl 0 [] 0 i cp),(10,.d (.sl .leaf (xs.map cz))),(11,(.d (.int .i64 xs.length))),(12,(.d (.int .i64 i)))],[.sl false .leaf (((dif xs ys).take i).map cz),.hole,.hole]⟩ =
  some (.exit 0,⟨[(0,(.d (.int .i64 p))),(2,.d (.sl .leaf (ys.map cz))),(7,.sl 0 [] 0 xs.length cp'),(10,.d (.sl .leaf (xs.map cz))),(11,(.d (.int .i64 xs.length))),(12,(.d (.int .i64 xs.length))),(13,(.d (.bool false)))],[.sl false .leaf ((dif xs ys).map cz),.hole,.hole]⟩)
 | 0,i,cp,hi=>by
  obtain rfl:i=xs.length:=by omega
  rw [b7 (by rw [qb hl]; exact bp _)]
  refine ⟨cp,cg ?_⟩;generalize xs.map cz=XD at *;generalize ys.map cz=YD at *;generalize (dif xs ys).map cz=RD at *;simp -implicitDefEqProofs [Z14_L0,au]
 | r+1,i,cp,hi=>by
  have hlt:i<xs.length:=by omega
  have hlt2:i<ys.length:=by omega
  have hlt3:i<(dif xs ys).length:=by rw [qb hl]; exact hlt
  have h1:=hx _ (bb hlt);have h2:=hy _ (bb hlt2);have e1:=hc p xs[i] ys[i] (by omega) (by omega)
  have hXD:(xs.map cz).length=xs.length:=ab ..;have hYD:(ys.map cz).length=xs.length:=(ab ..).trans hl.symm;have hxi:∀h:i<(xs.map cz).length,(xs.map cz)[i]'h=(D.sl .leaf (aq .i64 (row xs[i]))):=fun h=>by rw [ci]
  have hyi:∀h:i<(ys.map cz).length,(ys.map cz)[i]'h=(D.sl .leaf (aq .i64 (row ys[i]))):=fun h=>by rw [ci]
  have w4:IntKind.i64.wrap ((i:Int)+1)=((i+1:Nat):Int):=(w64 (x:=(i:Int)+1) (by omega)).trans (by omega)
  have h24:(i+1)*24≤1099511627776:=by omega
  have htk:((dif xs ys).take (i+1)).map cz=((dif xs ys).take i).map cz++[(D.sl .leaf (aq .i64 (row (xs[i]-ys[i]))))]:=by rw [d8 hlt3,cn,a05 hlt hlt2]; rfl
  have hL:(((dif xs ys).take i).map cz).length=i:=by rw [ab,bj]; omega
  have htt:(((dif xs ys).take i).map cz).take i=((dif xs ys).take i).map cz:=b7 (by omega)
  obtain ⟨cp',ih⟩:=a6w hc hl hn hx hy r (i+1) none (by omega)
  refine ⟨cp',bq ?_ ih⟩;rw [htk];generalize row (xs[i]-ys[i])=Qi at *;generalize row xs[i]=Ri at *;generalize row ys[i]=Si at *;generalize ((dif xs ys).take i).map cz=TD at *;generalize xs.map cz=XD at *;generalize ys.map cz=YD at *;simp -implicitDefEqProofs [Z14_L0,au,hlt,hXD,hYD,hxi,hyi,e1,h24,hL,htt,w4,List.replicate]
end
def Dc (O:ap):Prop:=∀(p:Int) [IsP p] (xs ys:List (Fp p)),xs.length=ys.length→xs.length<2000000→(∀x∈xs,x.len≤11)→(∀x∈ys,x.len≤11)→ask O F14 [(D.int .i64 p),.sl .leaf (xs.map cz),.sl .leaf (ys.map cz)]=some (D.int .i64 ((di (dif xs ys) []).length))
theorem X8 (hT:T F14=some Z14) (hc:pz (den T A)) (hr:Qq (den T A)):Dc (den T A):=by
 intro p ip xs ys hl hn hx hy;obtain ⟨cp,e⟩:=a6w (O:=den T A) hc hl hn hx hy xs.length 0 (some 0) (br _);have e1:=hr p (dif xs ys) (a20 hx hy) (by rw [qb hl]; exact hn)
 have e00:((0:Nat):Int)=0:=rfl;rw [e00,fd,fi] at e;have h1:(xs.map cz).length=xs.length:=ab ..;have h2:((dif xs ys).map cz).length=xs.length:=(ab ..).trans (qb hl);have htk:((dif xs ys).map cz).take xs.length=(dif xs ys).map cz:=b7 (by omega)
 refine ch hT rfl ?_;generalize (di (dif xs ys) []).length=s at *;generalize (dif xs ys).map cz=QD at *;generalize xs.map cz=XD at *;generalize ys.map cz=YD at *;simp -implicitDefEqProofs [Z14,Z14_B,h1,h2,htk,e,e1]
theorem Bf {p:Int} {l:List Int} {ls ms:List (List Int)}:qd p l (ls++ms)↔qd p l ls∧qd p l ms:=by
 constructor
 ·rintro ⟨ip,m,e,hm,hs⟩
  exact ⟨⟨ip,m,e,hm,fun x hx=>hs x (by simp [hx])⟩,⟨ip,m,e,hm,fun x hx=>hs x (by simp [hx])⟩⟩
 ·rintro ⟨⟨ip,m,rfl,hm,hs⟩,⟨ip',m',e',hm',hs'⟩⟩
  have h5:=hm.five;have h6:=hm'.five;obtain rfl:=(qa (by omega) (by omega)).1 e'
  refine ⟨ip,m,rfl,hm,fun x hx=>?_⟩
  rcases bi.1 hx with h | h
  ·exact hs x h
  ·exact hs' x h
theorem Dy {p:Int} {l:List Int} {ls:List (List Int)} (h:¬ qd p l ls):oo p l ls=1:=if_neg h
open Classical in
noncomputable def Ns (p:Int) (l:List Int) (ls ms:List (List Int)):D:=
 if h:qd p l (ls++ms) then
  haveI:IsP p:=h.choose
  if 4<ls.length∨ms.length≠ls.length then .tup [(D.int .i64 0),(D.int .i64 2)] else .tup [(D.int .i64 ((di (dif (ls.map (fc p)) (ms.map (fc p))) []).length)),(D.int .i64 0)]
 else .tup [(D.int .i64 0),(D.int .i64 1)]
def nv (O:ap) (F:Nat):Prop:=∀(p:Int) (l:List Int) (ls ms:List (List Int)),je l→l.length=64→v6 ls→v6 ms→ls.length+ms.length<2000000→ask O F [(D.int .i64 p),(D.arr 64 .leaf (aq .u8 l)),.sl (.arr 64 .leaf) (ls.map ce),.sl (.arr 64 .leaf) (ms.map ce)]=some (Ns p l ls ms)
theorem Lq (hT:T Fa=some Za) (hcc:M8 (den T A)) (hr:lg (den T A) F1n) (hro:Aj (den T A)) (hd:Dc (den T A)):nv (den T A) Fa:=by
 intro p l ls ms bl gl ha hb hl;have e0:=hcc (ls.map ce) (ms.map ce) (by rw [ab]; omega) (by rw [ab]; omega)
 rw [←cn] at e0
 have e1:=hr p l (ls++ms) bl gl (fun x hx=>by
  rcases bi.1 hx with h | h
  ·exact ha x h
  ·exact hb x h) (by rw [b8]; omega)
 unfold Ns
 by_cases h:qd p l (ls++ms)
 ·rw [nm.2 h] at e1
  rw [dif_pos h];obtain ⟨ip,m,rfl,hm,hs⟩:=h;obtain ⟨S,hS0,hS⟩:=rz (m:=m) (ls:=ls) (fun x hx=>hs x (by simp [hx]))
  obtain ⟨R,hR0,hR⟩:=rz (m:=m) (ls:=ms) (fun x hx=>hs x (by simp [hx]))
  have h5:=hm.five;have hSl:ls.length=S.length:=by rw [hS0,ab]
  have hRl:ms.length=R.length:=by rw [hR0,ab]
  have e2:=hro p S (by omega) (fun x hx=>by have:=hS x hx; omega)
  have e3:=hro p R (by omega) (fun x hx=>by have:=hR x hx; omega)
  have hmp:ls.map (fc p)=S:=by rw [hS0]; exact mc (S:=S) (fun a ha=>by have:=hS a ha; omega)
  have hmq:ms.map (fc p)=R:=by rw [hR0]; exact mc (S:=R) (fun a ha=>by have:=hR a ha; omega)
  have hmd:ls.map ce=S.map bv:=by rw [hS0]; exact ia S
  have hme:ms.map ce=R.map bv:=by rw [hR0]; exact ia R
  rw [hmp,hmq];rw [←hmd] at e2;rw [←hme] at e3;refine ch hT rfl ?_;obtain ⟨k,hk⟩:∃k:Int,(ls.length:Int)=k:=⟨_,rfl⟩;obtain ⟨j,hj⟩:∃j:Int,(ms.length:Int)=j:=⟨_,rfl⟩;have hLk:((ls.map ce).length:Int)=k:=by rw [ab]; exact hk
  have hMj:((ms.map ce).length:Int)=j:=by rw [ab]; exact hj
  by_cases c2:4<k
  ·rw [if_pos (.inl (by omega))]
   generalize ls.map ce=LD at *;generalize ms.map ce=MD at *;generalize (ls++ms).map ce=LM at *;generalize pad (row m)=Pm at *;simp -implicitDefEqProofs [Za,Za_B,au,e0,e1,hLk,c2]
  ·by_cases c3:j=k
   ·rw [if_neg (by omega)]
    have e4:=hd p S R (by omega) (by omega) (fun x hx=>by have:=hS x hx; omega) (fun x hx=>by have:=hR x hx; omega)
    generalize (di (dif S R) []).length=s at *;generalize ls.map ce=LD at *;generalize ms.map ce=MD at *;generalize (ls++ms).map ce=LM at *;generalize pad (row m)=Pm at *;generalize S.map cz=SR at *;generalize R.map cz=RR at *;simp -implicitDefEqProofs [Za,Za_B,au,e0,e1,e2,e3,e4,hLk,hMj,c2,c3]
   ·rw [if_pos (.inr (by omega))]
    generalize ls.map ce=LD at *;generalize ms.map ce=MD at *;generalize (ls++ms).map ce=LM at *;generalize pad (row m)=Pm at *;simp -implicitDefEqProofs [Za,Za_B,au,e0,e1,hLk,hMj,c2,c3]
 ·rw [Dy h] at e1
  rw [dif_neg h];refine ch hT rfl ?_;generalize ls.map ce=LD at *;generalize ms.map ce=MD at *;generalize (ls++ms).map ce=LM at *;simp -implicitDefEqProofs [Za,Za_B,au,e0,e1]
end Pe
namespace Pe
open Go Gq
variable {T:Nat→Option Fn} {A:ap}
section
variable {p:Int} [IsP p]
theorem a1c (L:List (Fp p)) (x:Fp p):(ki L x).length≤L.length+1:=by
 by_cases h:dl L x=0
 ·rw [qt h]; omega
 ·rw [sc h,(ug _ L).length_eq,b8,ab]; exact bp _
theorem M7:∀(xs L:List (Fp p)),(di xs L).length≤xs.length+L.length
 | [],L=>by unfold di; simp
 | x::xs,L=>by
  have h1:=a1c L x;have h2:=M7 xs (ki L x);rw [di,b9];omega
end
def Aw (O:ap):Prop:=∀(p:Int) [IsP p] (a b:Fp p),a.len≤64→b.len≤64→ask O F3k [(D.int .i64 p),(D.arr 64 .leaf (aq .u8 (pad (row a)))),(D.arr 64 .leaf (aq .u8 (pad (row b)))),(D.int .i64 (-1))]=some (D.arr 64 .leaf (aq .u8 (pad (row (a-b)))))
theorem ae7 {O:ap} (h:lk O):Aw O:=fun p i a b h1 h2=>by
 rw [h p (-1) a b (by omega) (by omega) h1 h2,Gd]
section
variable {p:Int} [IsP p]
theorem a0q {O:ap} (hc:Aw O) {xs ys:List (Fp p)} (hl:xs.length=ys.length) (hn:xs.length<2000000) (hx:∀x∈xs,x.len≤11) (hy:∀x∈ys,x.len≤11):∀(r i:Nat) (cp:Option Nat),i+r=xs.length→∃cp':Option Nat,
 dn O 0 (.loop Z4n_L0) ⟨[(0,(.d (.int .i64 p))),(1,.d (.sl (.arr 64 .leaf) (xs.map bv))),(2,.d (.sl (.arr 64 .leaf) (ys.map bv))),(7,.sl 0 [] 0 i cp),(8,(.d (.int .i64 i)))],[.sl false (.arr 64 .leaf) (((dif xs ys).take i).map bv),.hole,.hole]⟩ =
  some (.exit 0,⟨[(0,(.d (.int .i64 p))),(1,.d (.sl (.arr 64 .leaf) (xs.map bv))),(2,.d (.sl (.arr 64 .leaf) (ys.map bv))),(7,.sl 0 [] 0 xs.length cp'),(8,(.d (.int .i64 xs.length))),(13,(.d (.bool false)))],[.sl false (.arr 64 .leaf) ((dif xs ys).map bv),.hole,.hole]⟩)
 | 0,i,cp,hi=>by
  obtain rfl:i=xs.length:=by omega
  rw [b7 (by rw [qb hl]; exact bp _)]
  have hXD:(xs.map bv).length=xs.length:=ab ..;refine ⟨cp,cg ?_⟩;generalize xs.map bv=XD at *;generalize ys.map bv=YD at *;generalize (dif xs ys).map bv=RD at *;simp -implicitDefEqProofs [Z4n_L0,au,hXD]
 | r+1,i,cp,hi=>by
  have hlt:i<xs.length:=by omega
  have hlt2:i<ys.length:=by omega
  have hlt3:i<(dif xs ys).length:=by rw [qb hl]; exact hlt
  have h1:=hx _ (bb hlt);have h2:=hy _ (bb hlt2);have e1:=hc p xs[i] ys[i] (by omega) (by omega)
  have hXD:(xs.map bv).length=xs.length:=ab ..;have hYD:(ys.map bv).length=xs.length:=(ab ..).trans hl.symm;have hxi:∀h:i<(xs.map bv).length,(xs.map bv)[i]'h=(D.arr 64 .leaf (aq .u8 (pad (row xs[i])))):=fun h=>by rw [ci]
  have hyi:∀h:i<(ys.map bv).length,(ys.map bv)[i]'h=(D.arr 64 .leaf (aq .u8 (pad (row ys[i])))):=fun h=>by rw [ci]
  have w4:IntKind.i64.wrap ((i:Int)+1)=((i+1:Nat):Int):=(w64 (x:=(i:Int)+1) (by omega)).trans (by omega)
  have h24:(i+1)*64≤1099511627776:=by omega
  have htk:((dif xs ys).take (i+1)).map bv=((dif xs ys).take i).map bv++[(D.arr 64 .leaf (aq .u8 (pad (row (xs[i]-ys[i])))))]:=by rw [d8 hlt3,cn,a05 hlt hlt2]; rfl
  have hL:(((dif xs ys).take i).map bv).length=i:=by rw [ab,bj]; omega
  have htt:(((dif xs ys).take i).map bv).take i=((dif xs ys).take i).map bv:=b7 (by omega)
  obtain ⟨cp',ih⟩:=a0q hc hl hn hx hy r (i+1) none (by omega)
  refine ⟨cp',bq ?_ ih⟩;rw [htk];generalize pad (row (xs[i]-ys[i]))=Qi at *;generalize pad (row xs[i])=Ri at *;generalize pad (row ys[i])=Si at *;generalize ((dif xs ys).take i).map bv=TD at *;generalize xs.map bv=XD at *;generalize ys.map bv=YD at *;simp -implicitDefEqProofs [Z4n_L0,au,hlt,hXD,hYD,hxi,hyi,e1,h24,hL,htt,w4,List.replicate]
end
def Az (O:ap):Prop:=∀(p:Int) [IsP p] (xs ys:List (Fp p)),xs.length=ys.length→xs.length<2000000→(∀x∈xs,x.len≤11)→(∀x∈ys,x.len≤11)→ask O F4n [(D.int .i64 p),.sl (.arr 64 .leaf) (xs.map bv),.sl (.arr 64 .leaf) (ys.map bv)]=some (D.int .i64 ((di (dif xs ys) []).length))
theorem Vj (hT:T F4n=some Z4n) (hc:Aw (den T A)) (hr:Ey (den T A)):Az (den T A):=by
 intro p ip xs ys hl hn hx hy;obtain ⟨cp,e⟩:=a0q (O:=den T A) hc hl hn hx hy xs.length 0 (some 0) (br _);have e1:=hr p (dif xs ys) (a20 hx hy) (by rw [qb hl]; exact hn)
 have e00:((0:Nat):Int)=0:=rfl;rw [e00,fd,fi] at e;have h1:(xs.map bv).length=xs.length:=ab ..;have h2:((dif xs ys).map bv).length=xs.length:=(ab ..).trans (qb hl);have htk:((dif xs ys).map bv).take xs.length=(dif xs ys).map bv:=b7 (by omega)
 have h3:((di (dif xs ys) []).map bv).length=(di (dif xs ys) []).length:=ab ..;refine ch hT rfl ?_;generalize (di (dif xs ys) []).map bv=SD at *;generalize (di (dif xs ys) []).length=s at *;generalize (dif xs ys).map bv=QD at *;generalize xs.map bv=XD at *;generalize ys.map bv=YD at *;simp -implicitDefEqProofs [Z4n,Z4n_B,h2,h3,htk,e,e1]
theorem J0 (hT:T F3h=some Z3h) (hr:lg (den T A) F4j) (hd:Az (den T A)):nv (den T A) F3h:=by
 intro p l ls ms bl gl ha hb hl;have e0:=hr p l ls bl gl ha (by omega)
 have e1:=hr p l ms bl gl hb (by omega)
 have w1:IntKind.i64.wrap 1=1:=w64 (by omega)
 have w2:IntKind.i64.wrap 2=2:=w64 (by omega)
 have hLL:(ls.map ce).length=ls.length:=ab ..;have hMM:(ms.map ce).length=ms.length:=ab ..;unfold Ns
 by_cases h1:qd p l ls
 ·rw [nm.2 h1] at e0
  by_cases h2:qd p l ms
  ·rw [nm.2 h2] at e1
   have st:=bq (O:=den T A) (np:=0) (c:=Z3h_L0) (s:=⟨[(0,(.d (.int .i64 p))),(2,.d (.sl (.arr 64 .leaf) (ls.map ce))),(3,.d (.sl (.arr 64 .leaf) (ms.map ce))),(5,.ptr 0 []),(10,(.d (.int .i64 0)))],[.box false (D.arr 64 .leaf (aq .u8 l))]⟩)
    (s1:=⟨[(0,(.d (.int .i64 p))),(2,.d (.sl (.arr 64 .leaf) (ls.map ce))),(3,.d (.sl (.arr 64 .leaf) (ms.map ce))),(5,.ptr 0 []),(10,(.d (.int .i64 1)))],[.box false (D.arr 64 .leaf (aq .u8 l))]⟩) (by
     generalize ls.map ce=LD at *;generalize ms.map ce=MD at *;simp -implicitDefEqProofs [Z3h_L0,au,e0,w1])
    (bq (s1:=⟨[(0,(.d (.int .i64 p))),(2,.d (.sl (.arr 64 .leaf) (ls.map ce))),(3,.d (.sl (.arr 64 .leaf) (ms.map ce))),(5,.ptr 0 []),(10,(.d (.int .i64 2)))],[.box false (D.arr 64 .leaf (aq .u8 l))]⟩) (by
     generalize ls.map ce=LD at *;generalize ms.map ce=MD at *;simp -implicitDefEqProofs [Z3h_L0,au,e1,w2])
    (cg (id:=0) (s1:=⟨[(0,(.d (.int .i64 p))),(2,.d (.sl (.arr 64 .leaf) (ls.map ce))),(3,.d (.sl (.arr 64 .leaf) (ms.map ce))),(5,.ptr 0 []),(10,(.d (.int .i64 2))),(14,(.d (.bool false)))],[.box false (D.arr 64 .leaf (aq .u8 l))]⟩) (by
     generalize ls.map ce=LD at *;generalize ms.map ce=MD at *;simp -implicitDefEqProofs [Z3h_L0,au])))
   have h:=Bf.2 ⟨h1,h2⟩;rw [dif_pos h];obtain ⟨ip,m,rfl,hm,hs⟩:=h;obtain ⟨S,hS0,hS⟩:=rz (m:=m) (ls:=ls) (fun x hx=>hs x (by simp [hx]))
   obtain ⟨R,hR0,hR⟩:=rz (m:=m) (ls:=ms) (fun x hx=>hs x (by simp [hx]))
   have h5:=hm.five;have hSl:ls.length=S.length:=by rw [hS0,ab]
   have hRl:ms.length=R.length:=by rw [hR0,ab]
   have hmp:ls.map (fc p)=S:=by rw [hS0]; exact mc (S:=S) (fun a ha=>by have:=hS a ha; omega)
   have hmq:ms.map (fc p)=R:=by rw [hR0]; exact mc (S:=R) (fun a ha=>by have:=hR a ha; omega)
   have hmd:ls.map ce=S.map bv:=by rw [hS0]; exact ia S
   have hme:ms.map ce=R.map bv:=by rw [hR0]; exact ia R
   rw [hmp,hmq];refine ch hT rfl ?_;obtain ⟨k,hk⟩:∃k:Int,(ls.length:Int)=k:=⟨_,rfl⟩;obtain ⟨j,hj⟩:∃j:Int,(ms.length:Int)=j:=⟨_,rfl⟩;have hLk:((ls.map ce).length:Int)=k:=by rw [ab]; exact hk
   have hMj:((ms.map ce).length:Int)=j:=by rw [ab]; exact hj
   by_cases c2:4<k
   ·rw [if_pos (.inl (by omega))]
    generalize ls.map ce=LD at *;generalize ms.map ce=MD at *;generalize pad (row m)=Pm at *;simp -implicitDefEqProofs [Z3h,Z3h_B,au,st,hLk,c2]
   ·by_cases c3:j=k
    ·rw [if_neg (by omega)]
     have e4:=hd p S R (by omega) (by omega) (fun x hx=>by have:=hS x hx; omega) (fun x hx=>by have:=hR x hx; omega)
     rw [←hmd,←hme] at e4;generalize (di (dif S R) []).length=s at *;generalize ls.map ce=LD at *;generalize ms.map ce=MD at *;generalize pad (row m)=Pm at *;simp -implicitDefEqProofs [Z3h,Z3h_B,au,st,e4,hLk,hMj,c2,c3]
    ·rw [if_pos (.inr (by omega))]
     generalize ls.map ce=LD at *;generalize ms.map ce=MD at *;generalize pad (row m)=Pm at *;simp -implicitDefEqProofs [Z3h,Z3h_B,au,st,hLk,hMj,c2,c3]
  ·rw [Dy h2] at e1
   rw [dif_neg (fun h=>h2 (Bf.1 h).2)]
   generalize ls.map ce=LD at *;generalize ms.map ce=MD at *
   have st:=bq (O:=den T A) (np:=0) (c:=Z3h_L0) (s:=⟨[(0,(.d (.int .i64 p))),(2,.d (.sl (.arr 64 .leaf) LD)),(3,.d (.sl (.arr 64 .leaf) MD)),(5,.ptr 0 []),(10,(.d (.int .i64 0)))],[.box false (D.arr 64 .leaf (aq .u8 l))]⟩)
    (s1:=⟨[(0,(.d (.int .i64 p))),(2,.d (.sl (.arr 64 .leaf) LD)),(3,.d (.sl (.arr 64 .leaf) MD)),(5,.ptr 0 []),(10,(.d (.int .i64 1)))],[.box false (D.arr 64 .leaf (aq .u8 l))]⟩) (by
     simp -implicitDefEqProofs [Z3h_L0,au,e0,w1])
    (mj (s1:=⟨[(8,(.d (.int .i64 0))),(9,(.d (.int .i64 1)))],[.hole]⟩) (by
     simp -implicitDefEqProofs [Z3h_L0,au,e1]))
   refine ch hT rfl ?_;simp -implicitDefEqProofs [Z3h,Z3h_B,st]
 ·rw [Dy h1] at e0
  rw [dif_neg (fun h=>h1 (Bf.1 h).1)]
  generalize ls.map ce=LD at *;generalize ms.map ce=MD at *
  have st:=mj (O:=den T A) (np:=0) (c:=Z3h_L0) (s:=⟨[(0,(.d (.int .i64 p))),(2,.d (.sl (.arr 64 .leaf) LD)),(3,.d (.sl (.arr 64 .leaf) MD)),(5,.ptr 0 []),(10,(.d (.int .i64 0)))],[.box false (D.arr 64 .leaf (aq .u8 l))]⟩)
   (s1:=⟨[(8,(.d (.int .i64 0))),(9,(.d (.int .i64 1)))],[.hole]⟩) (by
    simp -implicitDefEqProofs [Z3h_L0,au,e0])
  refine ch hT rfl ?_;simp -implicitDefEqProofs [Z3h,Z3h_B,st]
section
variable {p:Int} [IsP p]
theorem a80 {O:ap} (hf:pn O) {m:Fp p} {xs:List (Fp p)} (h2:2≤m.len) (hml:m.len≤64) (hl:xs.length<1000000) (hx:∀x∈xs,x.len≤64) {i:Nat} (hi:i<1000000) {vo:V} {BO:Blk} (hv:vo.refs=[2]):∀(r k:Nat) (cp:Option Nat),k+r=xs.length→∃cp':Option Nat,
 dn O 0 (.loop ir_spec_l09Moore_ht_L0) ⟨[(0,(.d (.int .i64 p))),(2,.d (.sl (.arr 64 .leaf) (xs.map bv))),(4,.ptr 0 []),(7,vo),(8,(.d (.int .i64 i))),(9,.sl 3 [] 0 k cp),(10,(.d (.int .i64 k)))],[.box false (D.arr 64 .leaf (aq .u8 (pad (row m)))),.hole,BO,.sl false (.arr 64 .leaf) (((moR m xs i).take k).map bv),.hole,.hole,.hole]⟩ =
  some (.exit 2,⟨[(0,(.d (.int .i64 p))),(2,.d (.sl (.arr 64 .leaf) (xs.map bv))),(4,.ptr 0 []),(7,vo),(8,(.d (.int .i64 i))),(9,.sl 3 [] 0 xs.length cp'),(10,(.d (.int .i64 xs.length))),(22,(.d (.bool false)))],[.box false (D.arr 64 .leaf (aq .u8 (pad (row m)))),.hole,BO,.sl false (.arr 64 .leaf) ((moR m xs i).map bv),.hole,.hole,.hole]⟩)
 | 0,k,cp,hk=>by
  obtain rfl:k=xs.length:=by omega
  rw [b7 (by rw [jt]; exact bp _)]
  have hXD:(xs.map bv).length=xs.length:=ab ..;refine ⟨cp,cg ?_⟩;generalize xs.map bv=XD at *;generalize (moR m xs i).map bv=RD at *;generalize pad (row m)=Pm at *;simp -implicitDefEqProofs [ir_spec_l09Moore_ht_L0,au,hXD,hv]
 | r+1,k,cp,hk=>by
  have hlt:k<xs.length:=by omega
  have e1:=hf p m xs[k] i h2 hml (hx _ (bb hlt)) hi;have hXD:(xs.map bv).length=xs.length:=ab ..;have hxi:∀h:k<(xs.map bv).length,(xs.map bv)[k]'h=(D.arr 64 .leaf (aq .u8 (pad (row xs[k])))):=fun h=>by rw [ci]
  have w4:IntKind.i64.wrap ((k:Int)+1)=((k+1:Nat):Int):=(w64 (x:=(k:Int)+1) (by omega)).trans (by omega)
  have h24:(k+1)*64≤1099511627776:=by omega
  have htk:((moR m xs i).take (k+1)).map bv=((moR m xs i).take k).map bv++[(D.arr 64 .leaf (aq .u8 (pad (row (ep m (i%(m.len-1)) xs[k])))))]:=by rw [Mt hlt,cn]; rfl
  have hL:(((moR m xs i).take k).map bv).length=k:=by rw [ab,bj,jt]; omega
  have htt:(((moR m xs i).take k).map bv).take k=((moR m xs i).take k).map bv:=b7 (by omega)
  obtain ⟨cp',ih⟩:=a80 hf h2 hml hl hx hi hv r (k+1) none (by omega)
  refine ⟨cp',bq ?_ ih⟩;rw [htk];generalize pad (row (ep m (i%(m.len-1)) xs[k]))=Qi at *;generalize pad (row xs[k])=Ri at *;generalize ((moR m xs i).take k).map bv=TD at *;generalize xs.map bv=XD at *;generalize pad (row m)=Pm at *;simp -implicitDefEqProofs [ir_spec_l09Moore_ht_L0,au,hlt,hXD,hxi,e1,h24,hL,htt,w4,hv,List.replicate]
theorem a8o {O:ap} (hf:pn O) {m:Fp p} {xs:List (Fp p)} (h2:2≤m.len) (hml:m.len≤64) (hl:xs.length<1000000) (hx:∀x∈xs,x.len≤64):∀(r i:Nat) (co:Option Nat),i+1+r=xs.length→∃co':Option Nat,
 dn O 0 (.loop ir_spec_l09Moore_ht_L1) ⟨[(0,(.d (.int .i64 p))),(2,.d (.sl (.arr 64 .leaf) (xs.map bv))),(4,.ptr 0 []),(7,.sl 2 [0] 0 (i+1) co),(8,(.d (.int .i64 (((i+1:Nat):Int)))))],[.box false (D.arr 64 .leaf (aq .u8 (pad (row m)))),.hole,.tb false (.arr 64 .leaf) (List.range (i+1)) ((moK m xs (i+1)).map Dw),.hole,.hole,.hole,.hole]⟩ =
  some (.exit 0,⟨[(0,(.d (.int .i64 p))),(2,.d (.sl (.arr 64 .leaf) (xs.map bv))),(4,.ptr 0 []),(7,.sl 2 [0] 0 xs.length co'),(8,(.d (.int .i64 xs.length))),(15,(.d (.bool false)))],[.box false (D.arr 64 .leaf (aq .u8 (pad (row m)))),.hole,.tb false (.arr 64 .leaf) (List.range xs.length) ((moK m xs xs.length).map Dw),.hole,.hole,.hole,.hole]⟩)
 | 0,i,co,hi=>by
  rw [show i+1=xs.length by omega]
  have hXD:(xs.map bv).length=xs.length:=ab ..;refine ⟨co,cg ?_⟩;generalize (moK m xs xs.length).map Dw=RD at *;generalize List.range xs.length=IX at *;generalize xs.map bv=XD at *;generalize pad (row m)=Pm at *;simp -implicitDefEqProofs [ir_spec_l09Moore_ht_L1,au,hXD]
 | r+1,i,co,hi=>by
  have hlt:i+1<xs.length:=by omega
  obtain ⟨cp,e1⟩:=a80 hf h2 hml hl hx (i:=i+1) (by omega) (vo:=.sl 2 [0] 0 (i+1) co) (BO:=.tb false (.arr 64 .leaf) (List.range (i+1)) ((moK m xs (i+1)).map Dw)) rfl xs.length 0 (some 0) (br _)
  rw [show ((0:Nat):Int)=0 from rfl,fd,fi] at e1;have hXD:(xs.map bv).length=xs.length:=ab ..;have w4:IntKind.i64.wrap (((i+1:Nat):Int)+1)=((i+1+1:Nat):Int):=(w64 (x:=((i+1:Nat):Int)+1) (by omega)).trans (by omega)
  have h24:(i+1+1)*24≤1099511627776:=by omega
  have hL:((moK m xs (i+1)).map Dw).length=i+1:=by rw [ab,od]
  have hRL:((moR m xs (i+1)).map bv).length=xs.length:=by rw [ab,jt]
  have hRg:List.range (i+1+1)=List.range (i+1)++[i+1]:=List.range_succ;have hRl:(List.range (i+1)).length=i+1:=ji;have htk:(moK m xs (i+1+1)).map Dw=(moK m xs (i+1)).map Dw++[(moR m xs (i+1)).map bv]:=by rw [Nu,cn]; rfl
  obtain ⟨co',ih⟩:=a8o hf h2 hml hl hx r (i+1) none (by omega)
  refine ⟨co',bq ?_ ih⟩;rw [htk,hRg];have hlt':((i+1:Nat):Int)<xs.length:=by omega
  have hpos:0<xs.length:=by omega
  generalize (moK m xs (i+1)).map Dw=TD at *;generalize (moR m xs (i+1)).map bv=QD at *;generalize xs.map bv=XD at *;generalize xs.length=xl at *;generalize List.range (i+1)=IX at *;generalize pad (row m)=Pm at *;generalize ((i+1+1:Nat):Int)=z2 at *;generalize ((i+1:Nat):Int)=z1 at *;generalize i+1=i1 at *;simp -implicitDefEqProofs [ir_spec_l09Moore_ht_L1,au,hlt',hpos,hXD,e1,h24,hL,hRL,hRl,w4,List.replicate]
theorem ac4 {O:ap} (hf:pn O) {m:Fp p} {xs:List (Fp p)} (h2:2≤m.len) (hml:m.len≤64) (hl:xs.length<1000000) (hx:∀x∈xs,x.len≤64) (hpos:0<xs.length):∃co':Option Nat,
 dn O 0 (.loop ir_spec_l09Moore_ht_L1) ⟨[(0,(.d (.int .i64 p))),(2,.d (.sl (.arr 64 .leaf) (xs.map bv))),(4,.ptr 0 []),(7,.sl 2 [] 0 0 (some 0)),(8,(.d (.int .i64 0)))],[.box false (D.arr 64 .leaf (aq .u8 (pad (row m)))),.hole,.sl false .leaf [],.hole,.hole,.hole,.hole]⟩ =
  some (.exit 0,⟨[(0,(.d (.int .i64 p))),(2,.d (.sl (.arr 64 .leaf) (xs.map bv))),(4,.ptr 0 []),(7,.sl 2 [0] 0 xs.length co'),(8,(.d (.int .i64 xs.length))),(15,(.d (.bool false)))],[.box false (D.arr 64 .leaf (aq .u8 (pad (row m)))),.hole,.tb false (.arr 64 .leaf) (List.range xs.length) ((moK m xs xs.length).map Dw),.hole,.hole,.hole,.hole]⟩):=by
 obtain ⟨cp,e1⟩:=a80 hf h2 hml hl hx (i:=0) (by omega) (vo:=.sl 2 [] 0 0 (some 0)) (BO:=.sl false .leaf []) rfl xs.length 0 (some 0) (br _)
 rw [show ((0:Nat):Int)=0 from rfl,fd,fi] at e1;have hXD:(xs.map bv).length=xs.length:=ab ..;have hRL:((moR m xs 0).map bv).length=xs.length:=by rw [ab,jt]
 obtain ⟨co',ih⟩:=a8o hf h2 hml hl hx (xs.length-1) 0 none (by omega)
 rw [show (moK m xs (0+1)).map Dw=[(moR m xs 0).map bv] from rfl] at ih;refine ⟨co',bq ?_ ih⟩;have hlt':(0:Int)<xs.length:=by omega
 generalize (moR m xs 0).map bv=QD at *;generalize xs.map bv=XD at *;generalize xs.length=xl at *;generalize pad (row m)=Pm at *;simp -implicitDefEqProofs [ir_spec_l09Moore_ht_L1,au,hpos,hXD,e1,hRL,w64,List.replicate]
end
def L7 (O:ap):Prop:=∀(p:Int) [IsP p] (m:Fp p) (xs:List (Fp p)),2≤m.len→m.len≤64→xs.length<1000000→(∀x∈xs,x.len≤64)→0<xs.length→∃co:Option Nat,
 O F4r [(.d (.int .i64 p)),.d (D.arr 64 .leaf (aq .u8 (pad (row m)))),.d (.sl (.arr 64 .leaf) (xs.map bv))] []=some (.sl 0 [0] 0 xs.length co,[],[.tb false (.arr 64 .leaf) (List.range xs.length) ((moK m xs xs.length).map Dw)])
def H9 (O:ap):Prop:=∀(p:Int) [IsP p] (m:Fp p),O F4r [(.d (.int .i64 p)),.d (D.arr 64 .leaf (aq .u8 (pad (row m)))),.d (.sl (.arr 64 .leaf) [])] []=some (.sl 0 [] 0 0 (some 0),[],[.sl false .leaf []])
theorem a72 (hT:T F4r=some ir_spec_l09Moore_ht) (hf:pn (den T A)):L7 (den T A):=by
 intro p ip m xs h2 hml hl hx hpos;obtain ⟨co,e⟩:=ac4 (O:=den T A) hf h2 hml hl hx hpos;refine ⟨co,i4 hT rfl ?_⟩;generalize (moK m xs xs.length).map Dw=QD at *;generalize List.range xs.length=IX at *;generalize xs.map bv=XD at *;generalize pad (row m)=Pm at *;simp -implicitDefEqProofs [ir_spec_l09Moore_ht,ir_spec_l09Moore_ht_B,e]
theorem a3o (hT:T F4r=some ir_spec_l09Moore_ht):H9 (den T A):=by
 intro p ip m
 have e:dn (den T A) 0 (.loop ir_spec_l09Moore_ht_L1) ⟨[(0,(.d (.int .i64 p))),(2,.d (.sl (.arr 64 .leaf) [])),(4,.ptr 0 []),(7,.sl 2 [] 0 0 (some 0)),(8,(.d (.int .i64 0)))],[.box false (D.arr 64 .leaf (aq .u8 (pad (row m)))),.hole,.sl false .leaf [],.hole,.hole,.hole,.hole]⟩ =
  some (.exit 0,⟨[(0,(.d (.int .i64 p))),(2,.d (.sl (.arr 64 .leaf) [])),(4,.ptr 0 []),(7,.sl 2 [] 0 0 (some 0)),(8,(.d (.int .i64 0))),(15,(.d (.bool false)))],[.box false (D.arr 64 .leaf (aq .u8 (pad (row m)))),.hole,.sl false .leaf [],.hole,.hole,.hole,.hole]⟩):=by
  refine cg ?_;generalize pad (row m)=Pm at *;simp -implicitDefEqProofs [ir_spec_l09Moore_ht_L1,au]
 refine i4 hT rfl ?_;generalize pad (row m)=Pm at *;simp -implicitDefEqProofs [ir_spec_l09Moore_ht,ir_spec_l09Moore_ht_B,e]
section
variable {p:Int} [IsP p]
noncomputable def elG (m f:Fp p) (a:List (Fp p)) (c k:Nat) (Q:List (Fp p)):List (Fp p):=Q.mapIdx fun j x=>if c≤j∧j<k then x-f*a.getD j 0%m else x
theorem Do (m f:Fp p) (a:List (Fp p)) (c k:Nat) (Q:List (Fp p)):(elG m f a c k Q).length=Q.length:=List.length_mapIdx
theorem Bs (m f:Fp p) (a:List (Fp p)) (c k:Nat) (Q:List (Fp p)) (j:Nat):(elG m f a c k Q)[j]? = (Q[j]?).map fun x=>if c≤j∧j<k then x-f*a.getD j 0%m else x:=List.getElem?_mapIdx
theorem a2w (m f:Fp p) (a:List (Fp p)) (c:Nat) (Q:List (Fp p)):elG m f a c c Q=Q:=by
 apply eo;intro j;rw [Bs];cases Q[j]? with
 | none=>rfl
 | some x=>rw [ck,if_neg (by omega)]
theorem aek {m f:Fp p} {a:List (Fp p)} {c k:Nat} {Q:List (Fp p)} (hk:k<Q.length):(elG m f a c k Q)[k]? = some Q[k]:=by
 rw [Bs,af hk,ck,if_neg (by omega)]
theorem a9g {m f:Fp p} {a:List (Fp p)} {c k:Nat} {Q:List (Fp p)} (hc:c≤k) (hk:k<Q.length) (ha:k<a.length):(elG m f a c k Q).set k (Q[k]-f*a[k]%m)=elG m f a c (k+1) Q:=by
 apply eo;intro j;rw [Bs]
 by_cases hj:k=j
 ·subst hj
  rw [bg (by rw [Do]; exact hk),af hk,ck,if_pos (by omega),ca,af ha]; rfl
 ·rw [bh hj,Bs]
  cases Q[j]? with
  | none=>rfl
  | some x=>
   rw [ck,ck]
   by_cases h1:c≤j∧j<k
   ·rw [if_pos h1,if_pos (by omega)]
   ·rw [if_neg h1,if_neg (by omega)]
theorem abc {m f:Fp p} (hm:m≠0) {a:List (Fp p)} {c k:Nat} {Q:List (Fp p)} (hQ:∀x∈Q,x.len<m.len):∀x∈elG m f a c k Q,x.len<m.len:=by
 intro x hx;obtain ⟨j,hj⟩:=List.mem_iff_getElem?.1 hx;rw [Bs] at hj;obtain ⟨y,hy,rfl⟩:=ac.1 hj;have h1:=hQ y (ft hy)
 split
 ·have h2:=Pol.len_mod (f*a.getD j 0) hm
  have h3:=Pol.len_sub_le (a:=y) (b:=f*a.getD j 0%m) (n:=m.len-1) (by omega) (by omega)
  omega
 ·exact h1
theorem ado {O:ap} (hs:Aw O) (hmm:lf O) {m f:Fp p} (hm:m≠0) (hml:m.len≤64) (hf:f.len<m.len) {a:List (Fp p)} (ha:∀x∈a,x.len<m.len) {n c i r r':Nat} (hn:n<1000000) (hal:a.length=n) {IX:List Nat} {RR:List (List D)} (hr:RR[r]? = some (a.map bv)) (hr':r'<RR.length) (hne:r'≠r) {cp:Option Nat} {z o iv:D} {Q:List (Fp p)} (hQ:Q.length=n) (hQl:∀x∈Q,x.len<m.len):∀(q k:Nat),c≤k→k+q=n →
 dn O 1 (.loop ir_spec_l09Determinantt_L1) ⟨[(0,(.d (.int .i64 p))),(2,.sl 0 [0] 0 n cp),(4,.ptr 1 []),(6,.ptr 2 []),(7,.ptr 3 []),(8,(.d (.int .i64 c))),(10,.sl 0 [r+1] 0 n none),(11,.ptr 4 []),(12,(.d (.int .i64 i))),(13,.ptr 5 []),(14,.sl 0 [r'+1] 0 n none),(15,(.d (.int .i64 k)))],[.tb false (.arr 64 .leaf) IX (RR.set r' ((elG m f a c k Q).map bv)),.box false (D.arr 64 .leaf (aq .u8 (pad (row m)))),.box false z,.box false o,.box false iv,.box false (D.arr 64 .leaf (aq .u8 (pad (row f))))]⟩ =
  some (.exit 6,⟨[(0,(.d (.int .i64 p))),(2,.sl 0 [0] 0 n cp),(4,.ptr 1 []),(6,.ptr 2 []),(7,.ptr 3 []),(8,(.d (.int .i64 c))),(10,.sl 0 [r+1] 0 n none),(11,.ptr 4 []),(12,(.d (.int .i64 i))),(13,.ptr 5 []),(14,.sl 0 [r'+1] 0 n none),(15,(.d (.int .i64 n))),(110,(.d (.bool false)))],[.tb false (.arr 64 .leaf) IX (RR.set r' ((elG m f a c n Q).map bv)),.box false (D.arr 64 .leaf (aq .u8 (pad (row m)))),.box false z,.box false o,.box false iv,.box false (D.arr 64 .leaf (aq .u8 (pad (row f))))]⟩)
 | 0,k,hck,hk=>by
  obtain rfl:k=n:=by omega
  refine cg ?_;show _=some (_,(⟨_,[.tb false (.arr 64 .leaf) IX (RR.set r' ((elG m f a c k Q).map bv)),_,_,_,_,_]⟩:St));generalize RR.set r' ((elG m f a c k Q).map bv)=LQ at *;generalize pad (row m)=Pm at *;generalize pad (row f)=Pf at *;simp -implicitDefEqProofs [ir_spec_l09Determinantt_L1,au]
 | q+1,k,hck,hk=>by
  have hlt:k<n:=by omega
  have hka:k<a.length:=by omega
  have hkQ:k<Q.length:=by omega
  have hak:=ha _ (bb hka);have hQk:=hQl _ (bb hkQ);have e1:=hmm p f a[k] m hm hml (by omega) (by omega)
  have hmod:=Pol.len_mod (f*a[k]) hm;have e2:=hs p Q[k] (f*a[k]%m) (by omega) (by omega)
  have hEL:((elG m f a c k Q).map bv).length=n:=by rw [ab,Do]; exact hQ
  have hEg:∀h:k<((elG m f a c k Q).map bv).length,((elG m f a c k Q).map bv)[k]'h=(D.arr 64 .leaf (aq .u8 (pad (row Q[k])))):=fun h=>b6 ((af h).symm.trans (by rw [fe,aek hkQ]; rfl))
  have hAg:∀h:k<(a.map bv).length,(a.map bv)[k]'h=(D.arr 64 .leaf (aq .u8 (pad (row a[k])))):=fun h=>by rw [ci]
  have hAL:(a.map bv).length=n:=by rw [ab]; exact hal
  have hset:((elG m f a c k Q).map bv).set k (D.arr 64 .leaf (aq .u8 (pad (row (Q[k]-f*a[k]%m)))))=(elG m f a c (k+1) Q).map bv:=by
   rw [←a9g hck hkQ hka,mn]
  have w4:IntKind.i64.wrap ((k:Int)+1)=((k+1:Nat):Int):=(w64 (x:=(k:Int)+1) (by omega)).trans (by omega)
  have ih:=ado hs hmm hm hml hf ha hn hal hr hr' hne (c:=c) (cp:=cp) (IX:=IX) (i:=i) (z:=z) (o:=o) (iv:=iv) hQ hQl q (k+1) (by omega) (by omega)
  refine bq ?_ ih;rw [←hset];have hli:(k:Int)<n:=by omega
  generalize pad (row (Q[k]-f*a[k]%m))=P3 at *;generalize pad (row (f*a[k]%m))=P2 at *;generalize pad (row Q[k])=P1 at *;generalize pad (row a[k])=P0 at *;generalize (elG m f a c k Q).map bv=EQ at *;generalize a.map bv=AD at *;generalize pad (row m)=Pm at *;generalize pad (row f)=Pf at *;simp -implicitDefEqProofs [ir_spec_l09Determinantt_L1,au,hlt,hli,hr,hr',hne,hEL,hEg,hAg,hAL,e1,e2,w4]
structure TbI (IX:List Nat) (RR:List (List D)) (N:Tab p):Prop where
 len:IX.length=N.length
 inj:∀(j k r:Nat),IX[j]? = some r→IX[k]? = some r→j=k
 get:∀(k:Nat) Q,N[k]? = some Q→∃r,IX[k]? = some r∧RR[r]? = some (Q.map bv)
theorem TbI.set {IX:List Nat} {RR:List (List D)} {N:Tab p} (h:TbI IX RR N) {i r:Nat} (hi:i<N.length) (hr:IX[i]? = some r) (Q:List (Fp p)):TbI IX (RR.set r (Q.map bv)) (N.set i Q):=by
 refine ⟨by rw [db]; exact h.len,h.inj,fun k P hk=>?_⟩
 by_cases hik:i=k
 ·subst hik
  rw [bg hi] at hk;obtain rfl:=b6 hk;obtain ⟨r2,h1,h2⟩:=h.get i _ (af hi);obtain rfl:r=r2:=b6 (hr.symm.trans h1);exact ⟨r,hr,bg (av.1 h2).1⟩
 ·rw [bh hik] at hk
  obtain ⟨r2,h1,h2⟩:=h.get k P hk;have hne:r≠r2:=fun e=>hik (h.inj i k r hr (e▸h1))
  exact ⟨r2,h1,by rw [bh hne]; exact h2⟩
noncomputable def elM (m iv:Fp p) (a:List (Fp p)) (c n i:Nat) (N:Tab p):Tab p:=N.mapIdx fun j Q=>if c<j∧j<i then elG m (Q.getD c 0*iv%m) a c n Q else Q
theorem zg (m iv:Fp p) (a:List (Fp p)) (c n i:Nat) (N:Tab p):(elM m iv a c n i N).length=N.length:=List.length_mapIdx
theorem zt (m iv:Fp p) (a:List (Fp p)) (c n i:Nat) (N:Tab p) (j:Nat):(elM m iv a c n i N)[j]? = (N[j]?).map fun Q=>if c<j∧j<i then elG m (Q.getD c 0*iv%m) a c n Q else Q:=List.getElem?_mapIdx
theorem Pk (m iv:Fp p) (a:List (Fp p)) (c n:Nat) (N:Tab p):elM m iv a c n (c+1) N=N:=by
 apply eo;intro j;rw [zt];cases N[j]? with
 | none=>rfl
 | some x=>rw [ck,if_neg (by omega)]
theorem adt {m iv:Fp p} {a:List (Fp p)} {c n i:Nat} {N:Tab p} (hi:i<N.length):(elM m iv a c n i N)[i]? = some N[i]:=by
 rw [zt,af hi,ck,if_neg (by omega)]
theorem ai7 {m iv:Fp p} {a:List (Fp p)} {c n i:Nat} {N:Tab p} (hc:c<N.length):(elM m iv a c n i N)[c]? = some N[c]:=by
 rw [zt,af hc,ck,if_neg (by omega)]
theorem a7a {m iv:Fp p} {a:List (Fp p)} {c n i:Nat} {N:Tab p} (hc:c<i) (hi:i<N.length):(elM m iv a c n i N).set i (elG m (N[i].getD c 0*iv%m) a c n N[i])=elM m iv a c n (i+1) N:=by
 apply eo;intro j;rw [zt]
 by_cases hj:i=j
 ·subst hj
  rw [bg (by rw [zg]; exact hi),af hi,ck,if_pos (by omega)]
 ·rw [bh hj,zt]
  cases N[j]? with
  | none=>rfl
  | some x=>
   rw [ck,ck]
   by_cases h1:c<j∧j<i
   ·rw [if_pos h1,if_pos (by omega)]
   ·rw [if_neg h1,if_neg (by omega)]
theorem Sq.elM {m iv:Fp p} (hm:m≠0) {a:List (Fp p)} {c n i:Nat} {N:Tab p} (h:Sq m n N):Sq m n (elM m iv a c n i N):=by
 refine ⟨by rw [zg]; exact h.1,fun Q hQ=>?_⟩
 obtain ⟨j,hj⟩:=List.mem_iff_getElem?.1 hQ;rw [zt] at hj;obtain ⟨P,hP,rfl⟩:=ac.1 hj;obtain ⟨h1,h2⟩:=h.2 P (ft hP)
 split
 ·exact ⟨by rw [Do]; exact h1,abc hm h2⟩
 ·exact ⟨h1,h2⟩
theorem aa0 {O:ap} (hs:Aw O) (hmm:lf O) {m iv:Fp p} (hm:m≠0) (hml:m.len≤64) (hiv:iv.len<m.len) {n c r:Nat} (hn:n<1000000) {N:Tab p} (hN:Sq m n N) {a:List (Fp p)} (hc:c<n) (hca:N[c]? = some a) {IX:List Nat} (hr:IX[c]? = some r) {cp:Option Nat} {z o:D}:∀(q i:Nat) (RR:List (List D)),c<i→i+q=n→TbI IX RR (elM m iv a c n i N)→∃RR':List (List D),TbI IX RR' (elM m iv a c n n N) ∧
 dn O 1 (.loop ir_spec_l09Determinantt_L2) ⟨[(0,(.d (.int .i64 p))),(2,.sl 0 [0] 0 n cp),(4,.ptr 1 []),(6,.ptr 2 []),(7,.ptr 3 []),(8,(.d (.int .i64 c))),(10,.sl 0 [r+1] 0 n none),(11,.ptr 4 []),(12,(.d (.int .i64 i)))],[.tb false (.arr 64 .leaf) IX RR,.box false (D.arr 64 .leaf (aq .u8 (pad (row m)))),.box false z,.box false o,.box false (D.arr 64 .leaf (aq .u8 (pad (row iv)))),.hole]⟩ =
  some (.exit 4,⟨[(0,(.d (.int .i64 p))),(2,.sl 0 [0] 0 n cp),(4,.ptr 1 []),(6,.ptr 2 []),(7,.ptr 3 []),(8,(.d (.int .i64 c))),(10,.sl 0 [r+1] 0 n none),(11,.ptr 4 []),(12,(.d (.int .i64 n))),(88,(.d (.bool false)))],[.tb false (.arr 64 .leaf) IX RR',.box false (D.arr 64 .leaf (aq .u8 (pad (row m)))),.box false z,.box false o,.box false (D.arr 64 .leaf (aq .u8 (pad (row iv)))),.hole]⟩)
 | 0,i,RR,hci,hi,hT=>by
  obtain rfl:i=n:=by omega
  refine ⟨RR,hT,cg ?_⟩;generalize pad (row m)=Pm at *;generalize pad (row iv)=Pv at *;simp -implicitDefEqProofs [ir_spec_l09Determinantt_L2,au]
 | q+1,i,RR,hci,hi,hT=>by
  have hNl:=hN.1;have hiN:i<N.length:=by omega
  have hlt:i<n:=by omega
  obtain ⟨hQ1,hQ2⟩:=hN.2 N[i] (bb hiN);obtain ⟨ha1,ha2⟩:=hN.2 a (ft hca);obtain ⟨r',hr',hR'⟩:=hT.get i _ (adt hiN);have hcN:c<N.length:=by omega
  have hNc:N[c]=a:=b6 ((af hcN).symm.trans hca);obtain ⟨r2,hr2,hR⟩:=hT.get c a (by rw [ai7 hcN,hNc])
  obtain rfl:r=r2:=b6 (hr.symm.trans hr2)
  have hne:r'≠r:=fun e=>by
   have:=hT.inj i c r' hr' (by rw [e]; exact hr)
   omega
  have hrl':r'<RR.length:=(av.1 hR').1;have hcQ:c<N[i].length:=by omega
  have hQc:=hQ2 _ (bb hcQ);have hgd:N[i].getD c 0=N[i][c]:=by rw [ca,af hcQ]; rfl
  have e1:=hmm p N[i][c] iv m hm hml (by omega) (by omega)
  have hfl:=Pol.len_mod (N[i][c]*iv) hm;have e2:=ado (O:=O) hs hmm hm hml hfl ha2 (c:=c) (i:=i) (IX:=IX) (cp:=cp) (z:=z) (o:=o) (iv:=(D.arr 64 .leaf (aq .u8 (pad (row iv))))) hn ha1 hR hrl' hne hQ1 hQ2 (n-c) c (bp c) (by omega)
  have hself:RR.set r' (N[i].map bv)=RR:=by
   obtain ⟨h1,h2⟩:=av.1 hR';rw [←h2,List.set_getElem_self]
  rw [a2w,hself] at e2;have hT2:=hT.set (by rw [zg]; exact hiN) hr' (elG m (N[i][c]*iv%m) a c n N[i])
  rw [←hgd,a7a hci hiN,hgd] at hT2;obtain ⟨RR',hT',ih⟩:=aa0 hs hmm hm hml hiv hn hN hc hca hr (cp:=cp) (z:=z) (o:=o) q (i+1) _ (by omega) (by omega) hT2
  refine ⟨RR',hT',bq ?_ ih⟩;have hQL:(N[i].map bv).length=n:=by rw [ab]; exact hQ1
  have hxc:∀h:c<(N[i].map bv).length,(N[i].map bv)[c]'h=(D.arr 64 .leaf (aq .u8 (pad (row N[i][c])))):=fun h=>by rw [ci]
  have hIl:IX.length=n:=by rw [hT.len,zg]; exact hNl
  have hri:∀h:i<IX.length,IX[i]'h=r':=fun h=>b6 ((af h).symm.trans hr')
  have w4:IntKind.i64.wrap ((i:Int)+1)=((i+1:Nat):Int):=(w64 (x:=(i:Int)+1) (by omega)).trans (by omega)
  have hli:(i:Int)<n:=by omega
  generalize RR.set r' ((elG m (N[i][c]*iv%m) a c n N[i]).map bv)=R2 at *;generalize pad (row (N[i][c]*iv%m))=Pf at *;generalize pad (row N[i][c])=Pc at *;generalize N[i].map bv=QD at *;generalize pad (row m)=Pm at *;generalize pad (row iv)=Pv at *;simp -implicitDefEqProofs [ir_spec_l09Determinantt_L2,au,hlt,hli,hc,hIl,hri,hR',hQL,hxc,e1,e2,w4]
end
end Pe
namespace Pe
open Go Gq
section
variable {p:Int} [IsP p]
noncomputable def A6 (m:Fp p) (c:Nat) (N:Tab p):List (Rw (Quo m)):=(N.drop c).map fun Q=>rwQ m (Q.drop c)
end
section
variable {p:Int}
theorem Cm (m:Fp p) (Q:List (Fp p)) (c:Nat):rwQ m (Q.drop c) 0=Quo.mk m (Q.getD c 0):=by
 show Quo.mk m ((Q.drop c).getD 0 0)=_;rw [ca,fg,fj,←ca]
end
section
variable {p:Int} [IsP p]
end
section
variable {p:Int}
theorem a4f (m:Fp p) (Q:List (Fp p)) (c:Nat):tlR (rwQ m (Q.drop c))=rwQ m (Q.drop (c+1)):=by
 rw [a7t,List.tail_drop]
end
section
variable {p:Int} [IsP p]
theorem a6x {m:Fp p} {c r:Nat} {N:Tab p} (h:∀Q∈N.drop c,Q.getD c 0=0):det (r+1) (A6 m c N)=0:=by
 refine a7v _ fun q hq=>?_
 obtain ⟨Q,hQ,rfl⟩:=ct.1 hq;rw [Cm,h Q hQ]; rfl
def swp (N:Tab p) (c b:Nat) (hc:c<N.length) (hb:b<N.length):Tab p:=(N.set b N[c]).set c N[b]
theorem Nw (N:Tab p) (c b:Nat) (hc:c<N.length) (hb:b<N.length):(swp N c b hc hb).length=N.length:=by unfold swp; rw [db,db]
theorem a52 {m:Fp p} {c b:Nat} {N:Tab p} (hcb:c<b) (hb:b<N.length) {r:Nat} (hr:c+r=N.length):det r (A6 m c (swp N c b (by omega) hb))=-det r (A6 m c N):=by
 have hc:c<N.length:=by omega
 have e1:N.drop c=N[c]::((N.drop (c+1)).take (b-c-1)++N[b]::N.drop (b+1)):=by
  rw [cd hc]
  congr 1
  have:=i9 (b-c-1) (N.drop (c+1));rw [ik,show c+1+(b-c-1)=b by omega,cd hb] at this
  exact this.symm
 have e2:(swp N c b hc hb).drop c=N[b]::((N.drop (c+1)).take (b-c-1)++N[c]::N.drop (b+1)):=by
  apply eo;intro j;rw [fg];unfold swp
  by_cases hj:j=0
  ·subst hj
   rw [fj,bg (by rw [db]; exact hc)]; rfl
  ·rw [bh (by omega)]
   obtain ⟨j,rfl⟩:∃i,j=i+1:=⟨j-1,by omega⟩
   rw [iz];have hl:((N.drop (c+1)).take (b-c-1)).length=b-c-1:=by rw [bj,fo]; omega
   by_cases h1:j<b-c-1
   ·rw [bh (by omega),bu (by omega),fp,if_pos h1,fg]
    congr 1; omega
   ·rw [bx (by omega),hl]
    by_cases h2:j=b-c-1
    ·subst h2
     rw [show c+(b-c-1+1)=b by omega,bg hb,jh]; rfl
    ·rw [bh (by omega)]
     obtain ⟨i,hi⟩:∃i,j-(b-c-1)=i+1:=⟨j-(b-c-1)-1,by omega⟩
     rw [hi,iz,fg]
     congr 1; omega
 unfold A6;rw [e1,e2,fu,fu,cn,cn,fu,fu];refine a4x _ _ _ _ ?_;simp only [ab,bj,fo];omega
theorem ae6 {m f:Fp p} {a Q:List (Fp p)} {c n:Nat} (ha:a.length=n) (hQ:Q.length=n):rwQ m ((elG m f a c n Q).drop c)=adR (rwQ m (Q.drop c)) (-Quo.mk m f) (rwQ m (a.drop c)):=by
 funext k
 show Quo.mk m (((elG m f a c n Q).drop c).getD k 0)=Quo.mk m ((Q.drop c).getD k 0) + -Quo.mk m f*Quo.mk m ((a.drop c).getD k 0);simp only [ca,fg,Bs]
 by_cases h:c+k<n
 ·rw [af (show c+k<Q.length by omega),af (show c+k<a.length by omega),ck,if_pos (by omega)]
  show Quo.mk m Q[c+k]-Quo.mk m (f*a[c+k]%m)=Quo.mk m Q[c+k] + -Quo.mk m f*Quo.mk m a[c+k];rw [Pol.mk_mod,show Quo.mk m (f*a[c+k])=Quo.mk m f*Quo.mk m a[c+k] from rfl];exact bo [Quo.mk m Q[c+k],Quo.mk m f,Quo.mk m a[c+k]] rfl
 ·rw [cx (show Q.length≤c+k by omega),cx (show a.length≤c+k by omega)]
  show (Quo.mk m 0:Quo m)=Quo.mk m 0 + -Quo.mk m f*Quo.mk m 0;rw [Quo.mk_zero];exact bo [Quo.mk m f] rfl
theorem U7 {m:Fp p} (hm:Fld m) {c n r:Nat} (hr:c+(r+1)=n) {N:Tab p} (hN:Sq m n N) {a:List (Fp p)} (hca:N[c]? = some a) (h0:a.getD c 0≠0) :
 det (r+1) (A6 m c N)=Quo.mk m (a.getD c 0)*det r (A6 m (c+1) (elM m (jx m (a.getD c 0)) a c n n N)):=by
 have hcN:c<N.length:=(av.1 hca).1;have hNl:=hN.1;obtain ⟨ha1,ha2⟩:=hN.2 a (ft hca)
 have hal:(a.getD c 0).len<m.len:=by
  rw [ca,af (show c<a.length by omega)]
  exact ha2 _ (bb _)
 have hiv:=Ga hm h0 hal
 have e1:N.drop c=a::N.drop (c+1):=by
  rw [cd hcN]
  congr 1
  exact b6 ((af hcN).symm.trans hca)
 let F:Rw (Quo m)→Quo m:=fun y=>-(y 0*Quo.mk m (jx m (a.getD c 0)))
 have e2:((elM m (jx m (a.getD c 0)) a c n n N).drop (c+1)).map (fun Q=>rwQ m (Q.drop c))=((N.drop (c+1)).map fun Q=>rwQ m (Q.drop c)).map fun y=>adR y (F y) (rwQ m (a.drop c)):=by
  apply eo;intro j;rw [fe,fg,zt,fe,fe,fg];cases hj:N[c+1+j]? with
  | none=>rfl
  | some Q=>
   have hjl:=(av.1 hj).1;obtain ⟨hQ1,hQ2⟩:=hN.2 Q (ft hj);simp only [ck];rw [if_pos (by omega),ae6 ha1 hQ1]
   congr 2
   show -Quo.mk m (Q.getD c 0*jx m (a.getD c 0)%m)=-(rwQ m (Q.drop c) 0*Quo.mk m (jx m (a.getD c 0)));rw [Cm,Pol.mk_mod]; rfl
 have e3:(A6 m (c+1) (elM m (jx m (a.getD c 0)) a c n n N))=(((N.drop (c+1)).map fun Q=>rwQ m (Q.drop c)).map fun y=>adR y (F y) (rwQ m (a.drop c))).map tlR:=by
  rw [←e2,k8];unfold A6;exact List.map_congr_left fun Q _=>(a4f m Q c).symm
 have e4:=Ub (n:=r+1) (rwQ m (a.drop c)) F ((N.drop (c+1)).map fun Q=>rwQ m (Q.drop c)) [] (by simp only [cb,ab,fo]; omega)
 simp only [d9] at e4;have e5:A6 m c N=rwQ m (a.drop c)::(N.drop (c+1)).map fun Q=>rwQ m (Q.drop c):=by unfold A6; rw [e1]; rfl
 rw [e5,←e4,e3,a2y]
 ·rw [Cm]
 ·intro q hq
  obtain ⟨y,_,rfl⟩:=ct.1 hq;show y 0 + -(y 0*Quo.mk m (jx m (a.getD c 0)))*rwQ m (a.drop c) 0=0;rw [Cm];have:y 0 + -(y 0*Quo.mk m (jx m (a.getD c 0)))*Quo.mk m (a.getD c 0)=y 0 + -(y 0*(Quo.mk m (jx m (a.getD c 0))*Quo.mk m (a.getD c 0))):=bo [y 0,Quo.mk m (jx m (a.getD c 0)),Quo.mk m (a.getD c 0)] rfl;rw [this,hiv];exact bo [y 0] rfl
end
end Pe
namespace Pe
open Go Gq
variable {T:Nat→Option Fn} {A:ap}
section
variable {p:Int} [IsP p]
open Classical in
noncomputable def pvF (N:Tab p) (c:Nat):Nat→Nat→Nat
 | 0,b=>b
 | q+1,b=>if ((N[b]?).getD []).getD c 0=0 then pvF N c q (b+1) else b
theorem Vu (N:Tab p) (c:Nat):∀(q b:Nat),b+q=N.length→b≤pvF N c q b∧pvF N c q b≤N.length∧(∀k (h:k<N.length),b≤k→k<pvF N c q b→N[k].getD c 0=0)∧∀h:pvF N c q b<N.length,(N[pvF N c q b]).getD c 0≠0
 | 0,b,hb=>by
  have e:pvF N c 0 b=b:=rfl;exact ⟨bp _,by rw [e]; omega,fun k h h1 h2=>by rw [e] at h2; omega,fun h=>by rw [e] at h; omega⟩
 | q+1,b,hb=>by
  have hlt:b<N.length:=by omega
  have hg:(N[b]?).getD []=N[b]:=by rw [af hlt]; rfl
  by_cases h:(N[b]).getD c 0=0
  ·have e:pvF N c (q+1) b=pvF N c q (b+1):=by rw [pvF,hg,if_pos h]
   obtain ⟨h1,h2,h3,h4⟩:=Vu N c q (b+1) (by omega)
   rw [e];refine ⟨by omega,h2,fun k hk hbk hkp=>?_,h4⟩
   by_cases hkb:k=b
   ·subst hkb; exact h
   ·exact h3 k hk (by omega) hkp
  ·have e:pvF N c (q+1) b=b:=by rw [pvF,hg,if_neg h]
   exact ⟨by omega,by omega,fun k hk h1 h2=>by omega,fun _=>by simp only [e]; exact h⟩
theorem ad1 {O:ap} (hd:kb O) {m:Fp p} (hml:m.len≤64) {n c:Nat} (hn:n<1000000) (hc:c<n) {N:Tab p} (hN:Sq m n N) {IX:List Nat} {RR:List (List D)} (hT:TbI IX RR N) {cp:Option Nat} {z o:D} {Pm:List Int}:∀(q b:Nat),b+q=n →
 dn O 1 (.loop ir_spec_l09Determinantt_L0) ⟨[(0,(.d (.int .i64 p))),(2,.sl 0 [0] 0 n cp),(4,.ptr 1 []),(6,.ptr 2 []),(7,.ptr 3 []),(8,(.d (.int .i64 c))),(9,(.d (.int .i64 b)))],[.tb false (.arr 64 .leaf) IX RR,.box false (D.arr 64 .leaf (aq .u8 Pm)),.box false z,.box false o,.hole,.hole]⟩ =
  some (.exit 2,⟨[(0,(.d (.int .i64 p))),(2,.sl 0 [0] 0 n cp),(4,.ptr 1 []),(6,.ptr 2 []),(7,.ptr 3 []),(8,(.d (.int .i64 c))),(9,(.d (.int .i64 (pvF N c q b)))),(38,(.d (.bool false)))],[.tb false (.arr 64 .leaf) IX RR,.box false (D.arr 64 .leaf (aq .u8 Pm)),.box false z,.box false o,.hole,.hole]⟩)
 | 0,b,hb=>by
  obtain rfl:b=n:=by omega
  refine cg ?_;show _=some (_,(⟨[_,_,_,_,_,_,(9,(.d (.int .i64 b))),_],_⟩:St));simp -implicitDefEqProofs [ir_spec_l09Determinantt_L0,au]
 | q+1,b,hb=>by
  have hNl:=hN.1;have hlt:b<n:=by omega
  have hbN:b<N.length:=by omega
  obtain ⟨hQ1,hQ2⟩:=hN.2 N[b] (bb hbN);obtain ⟨r,hr,hR⟩:=hT.get b _ (af hbN);have hIl:IX.length=n:=by rw [hT.len]; exact hNl
  have hri:∀h:b<IX.length,IX[b]'h=r:=fun h=>b6 ((af h).symm.trans hr)
  have hcQ:c<N[b].length:=by omega
  have hgd:N[b].getD c 0=N[b][c]:=by rw [ca,af hcQ]; rfl
  have e1:=hd p N[b][c] (by have:=hQ2 _ (bb hcQ); omega)
  have hQL:(N[b].map bv).length=n:=by rw [ab]; exact hQ1
  have hxc:∀h:c<(N[b].map bv).length,(N[b].map bv)[c]'h=(D.arr 64 .leaf (aq .u8 (pad (row N[b][c])))):=fun h=>by rw [ci]
  have w4:IntKind.i64.wrap ((b:Int)+1)=((b+1:Nat):Int):=(w64 (x:=(b:Int)+1) (by omega)).trans (by omega)
  have hli:(b:Int)<n:=by omega
  have hg:(N[b]?).getD []=N[b]:=by rw [af hbN]; rfl
  by_cases h:(N[b]).getD c 0=0
  ·have e:pvF N c (q+1) b=pvF N c q (b+1):=by rw [pvF,hg,if_pos h]
   rw [hgd] at h;have hl0:(N[b][c]).len=0:=by rw [h]; exact Pol.len_zero
   have hneg:((N[b][c]).len:Int)-1<0:=by omega
   rw [e];refine bq ?_ (ad1 hd hml hn hc hN hT q (b+1) (by omega))
   generalize pad (row N[b][c])=Pc at *;generalize ((N[b][c]).len:Int)-1=dg at *;generalize N[b].map bv=QD at *;simp -implicitDefEqProofs [ir_spec_l09Determinantt_L0,au,hlt,hli,hc,hIl,hri,hR,hQL,hxc,e1,hneg,w4]
  ·have e:pvF N c (q+1) b=b:=by rw [pvF,hg,if_neg h]
   rw [hgd] at h;have hl0:(N[b][c]).len≠0:=fun hh=>h (Pol.len_zero_iff.1 hh)
   have hneg:¬ ((N[b][c]).len:Int)-1<0:=by omega
   rw [e];refine cg ?_;generalize pad (row N[b][c])=Pc at *;generalize ((N[b][c]).len:Int)-1=dg at *;generalize N[b].map bv=QD at *;simp -implicitDefEqProofs [ir_spec_l09Determinantt_L0,au,hlt,hli,hc,hIl,hri,hR,hQL,hxc,e1,hneg]
theorem TbI.swap {IX:List Nat} {RR:List (List D)} {N:Tab p} (h:TbI IX RR N) {c b rc rb:Nat} (hc:c<N.length) (hb:b<N.length) (_hcb:c≠b) (h1:IX[c]? = some rc) (h2:IX[b]? = some rb):TbI ((IX.set b rc).set c rb) RR (swp N c b hc hb):=by
 have hlen:=h.len
 have key:∀k,((IX.set b rc).set c rb)[k]? = if k=c then IX[b]? else if k=b then IX[c]? else IX[k]?:=by
  intro k
  by_cases hk:c=k
  ·subst hk
   rw [bg (by rw [db]; omega),if_pos rfl,h2]
  ·rw [bh hk,if_neg (gv hk)]
   by_cases hk2:b=k
   ·subst hk2
    rw [bg (by omega),if_pos rfl,h1]
   ·rw [bh hk2,if_neg (gv hk2)]
 refine ⟨by rw [db,db,Nw]; exact hlen,fun j k r hj hk=>?_,fun k Q hk=>?_⟩
 ·rw [key] at hj hk
  by_cases j1:j=c <;> by_cases k1:k=c
  ·omega
  ·rw [if_pos j1] at hj
   rw [if_neg k1] at hk
   by_cases k2:k=b
   ·rw [if_pos k2] at hk
    have:=h.inj b c r hj hk; omega
   ·rw [if_neg k2] at hk
    have:=h.inj b k r hj hk; omega
  ·rw [if_pos k1] at hk
   rw [if_neg j1] at hj
   by_cases j2:j=b
   ·rw [if_pos j2] at hj
    have:=h.inj c b r hj hk; omega
   ·rw [if_neg j2] at hj
    have:=h.inj j b r hj hk; omega
  ·rw [if_neg j1] at hj
   rw [if_neg k1] at hk
   by_cases j2:j=b <;> by_cases k2:k=b
   ·omega
   ·rw [if_pos j2] at hj
    rw [if_neg k2] at hk;have:=h.inj c k r hj hk; omega
   ·rw [if_neg j2] at hj
    rw [if_pos k2] at hk;have:=h.inj j c r hj hk; omega
   ·rw [if_neg j2] at hj
    rw [if_neg k2] at hk;exact h.inj j k r hj hk
 ·rw [key]
  unfold swp at hk
  by_cases k1:c=k
  ·subst k1
   rw [bg (by rw [db]; exact hc)] at hk
   rw [if_pos rfl];exact h.get b Q (by rw [af hb]; exact hk)
  ·rw [bh k1] at hk
   rw [if_neg (gv k1)]
   by_cases k2:b=k
   ·subst k2
    rw [bg hb] at hk;rw [if_pos rfl];exact h.get c Q (by rw [af hc]; exact hk)
   ·rw [bh k2] at hk
    rw [if_neg (gv k2)];exact h.get k Q hk
theorem Sq.swap {m:Fp p} {n:Nat} {N:Tab p} (h:Sq m n N) {c b:Nat} (hc:c<N.length) (hb:b<N.length):Sq m n (swp N c b hc hb):=by
 refine ⟨by rw [Nw]; exact h.1,fun r hr=>h.2 r ?_⟩
 unfold swp at hr;rcases ef hr with h1 | rfl
 ·rcases ef h1 with h2 | rfl
  ·exact h2
  ·exact bb hc
 ·exact bb hb
end
section
variable {p:Int} [IsP p]
theorem aci {m:Fp p} {c:Nat} {N:Tab p} (h:N.length≤c):A6 m c N=[]:=by
 unfold A6;rw [List.drop_of_length_le h]; rfl
theorem sub_zero {m:Fp p} {N:Tab p}:A6 m 0 N=N.map (rwQ m):=by
 unfold A6;rw [dm];exact List.map_congr_left fun Q _=>by rw [dm]
noncomputable abbrev Hi (p:Int) (n:Nat) (cp:Option Nat) (c:Nat) (IX:List Nat) (RR:List (List D)) (m o:Fp p) (l:List (Nat×V)):St:=
 ⟨[(0,(.d (.int .i64 p))),(2,.sl 0 [0] 0 n cp),(4,.ptr 1 []),(6,.ptr 2 []),(7,.ptr 3 []),(8,(.d (.int .i64 c)))]++l,[.tb false (.arr 64 .leaf) IX RR,.box false (D.arr 64 .leaf (aq .u8 (pad (row m)))),.box false (D.arr 64 .leaf (aq .u8 (pad []))),.box false (D.arr 64 .leaf (aq .u8 (pad (row o)))),.hole,.hole]⟩
theorem aa6 {O:ap} (hd:kb O) (hs:Aw O) (hmm:lf O) (hin:Jn O) {m:Fp p} (hm:Fld m) {n:Nat} (hn:n<1000000) {cp:Option Nat}:∀(r c:Nat) (N:Tab p) (IX:List Nat) (RR:List (List D)) (out:Fp p),c+r=n→Sq m n N→TbI IX RR N→out.len<m.len →
 ∃o:Fp p,o.len<m.len∧Quo.mk m o=Quo.mk m out*det r (A6 m c N)∧∃(IX':List Nat) (RR':List (List D)),
  dn O 1 (.loop ir_spec_l09Determinantt_L3) (Hi p n cp c IX RR m out [])=some (.exit 0,Hi p n cp n IX' RR' m o [(20,(.d (.bool false)))]) ∨
  (o=0∧dn O 1 (.loop ir_spec_l09Determinantt_L3) (Hi p n cp c IX RR m out [])=some (.ret,⟨[(6,.ptr 2 [])],[.tb false (.arr 64 .leaf) IX' RR',.hole,.box false (D.arr 64 .leaf (aq .u8 (pad []))),.hole,.hole,.hole]⟩))
 | 0,c,N,IX,RR,out,hc,hN,hT,ho=>by
  obtain rfl:c=n:=by omega
  refine ⟨out,ho,?_,IX,RR,.inl (cg ?_)⟩
  ·rw [aci (by rw [hN.1]; exact bp _)]
   show Quo.mk m out=Quo.mk m out*1;exact bo [Quo.mk m out] rfl
  ·simp only [Hi,df,d9]
   generalize pad (row m)=Pm at *;generalize pad (row out)=Po at *;simp -implicitDefEqProofs [ir_spec_l09Determinantt_L3,au]
 | r+1,c,N,IX,RR,out,hc,hN,hT,ho=>by
  have hml:=hm.five;have hm0:=hm.mon.2;have hNl:=hN.1;have hlt:c<n:=by omega
  have hli:(c:Int)<n:=by omega
  have hcN:c<N.length:=by omega
  obtain ⟨q1,q2,q3,q4⟩:=Vu N c (n-c) c (by omega)
  have e1:=ad1 (O:=O) hd (m:=m) (by omega) hn hlt hN hT (cp:=cp) (z:=(D.arr 64 .leaf (aq .u8 (pad [])))) (o:=(D.arr 64 .leaf (aq .u8 (pad (row out))))) (Pm:=pad (row m)) (n-c) c (by omega)
  generalize pvF N c (n-c) c=b at *
  by_cases hb:b=N.length
  ·have hbn:b=n:=by omega
   refine ⟨0,by have:=hm.two; rw [Pol.len_zero]; omega,?_,IX,RR,.inr ⟨rfl,?_⟩⟩
   ·rw [a6x,Quo.mk_zero]
    ·exact bo [Quo.mk m out] rfl
    ·intro Q hQ
     obtain ⟨j,hj⟩:=List.mem_iff_getElem?.1 hQ;rw [fg] at hj;obtain ⟨h1,h2⟩:=av.1 hj;rw [←h2];exact q3 _ h1 (by omega) (by omega)
   ·refine mj ?_
    rw [hbn] at e1;simp only [Hi,df,d9];generalize pad (row m)=Pm at *;generalize pad (row out)=Po at *;simp -implicitDefEqProofs [ir_spec_l09Determinantt_L3,au,hli,e1]
  ·have hbN:b<N.length:=by omega
   have hbl:b<n:=by omega
   obtain ⟨rb,hrb,hRb⟩:=hT.get b _ (af hbN);obtain ⟨rc,hrc,hRc⟩:=hT.get c _ (af hcN);obtain ⟨hQ1,hQ2⟩:=hN.2 N[b] (bb hbN);have hcQ:c<N[b].length:=by omega
   have hxl:=hQ2 _ (bb hcQ);have hgd:N[b].getD c 0=N[b][c]:=by rw [ca,af hcQ]; rfl
   have hx0:N[b][c]≠0:=by rw [←hgd]; exact q4 hbN
   have hIl:IX.length=n:=by rw [hT.len]; exact hNl
   have hrib:∀h:b<IX.length,IX[b]'h=rb:=fun h=>b6 ((af h).symm.trans hrb)
   have hric:∀h:c<IX.length,IX[c]'h=rc:=fun h=>b6 ((af h).symm.trans hrc)
   have hQL:(N[b].map bv).length=n:=by rw [ab]; exact hQ1
   have hxc:∀h:c<(N[b].map bv).length,(N[b].map bv)[c]'h=(D.arr 64 .leaf (aq .u8 (pad (row N[b][c])))):=fun h=>by rw [ci]
   have e3:=hin p m N[b][c] hm0 (by omega) hx0 hxl
   have hivl:(jx m N[b][c]).len<m.len:=Pol.len_mod _ hm0;have w4:IntKind.i64.wrap ((c:Int)+1)=((c+1:Nat):Int):=(w64 (x:=(c:Int)+1) (by omega)).trans (by omega)
   have hlb:(b:Int)<n:=by omega
   have hbz:¬ (b:Int)=n:=by omega
   have hRcL:(N[c].map bv).length=n:=by rw [ab]; exact (hN.2 N[c] (bb hcN)).1
   by_cases hbc:b=c
   ·subst hbc
    have e2:=hmm p out N[b][b] m hm0 (by omega) (by omega) (by omega)
    have hol:=Pol.len_mod (out*N[b][b]) hm0;have hel:Sq m n (elM m (jx m N[b][b]) N[b] b n n N):=hN.elM hm0;obtain ⟨RR',hT',e4⟩:=aa0 (O:=O) hs hmm hm0 (by omega) hivl hn hN hlt (af hbN) hrb (cp:=cp) (z:=(D.arr 64 .leaf (aq .u8 (pad [])))) (o:=(D.arr 64 .leaf (aq .u8 (pad (row (out*N[b][b]%m)))))) (n-(b+1)) (b+1) RR (by omega) (by omega) (by rw [Pk]; exact hT)
    obtain ⟨o,ho1,ho2,IX2,RR2,ih⟩:=aa6 hd hs hmm hin hm hn (cp:=cp) r (b+1) _ IX RR' (out*N[b][b]%m) (by omega) hel hT' hol
    refine ⟨o,ho1,?_,IX2,RR2,?_⟩
    ·rw [ho2,U7 hm (r:=r) (by omega) hN (af hbN) (by rw [hgd]; exact hx0),hgd,Pol.mk_mod]
     show Quo.mk m out*Quo.mk m N[b][b]*_=_;rw [Gq.mul_assoc]
    ·have key:dn O 1 ir_spec_l09Determinantt_L3 (Hi p n cp b IX RR m out [])=some (.normal,Hi p n cp (b+1) IX RR' m (out*N[b][b]%m) []):=by
      simp only [Hi,df,d9];generalize ((b+1:Nat):Int)=z1 at *;generalize pad (row (out*N[b][b]%m))=Pn at *;generalize pad (row (jx m N[b][b]))=Pi at *;generalize pad (row N[b][b])=Pc at *;generalize N[b].map bv=QD at *;generalize pad (row m)=Pm at *;generalize pad (row out)=Po at *;simp -implicitDefEqProofs [ir_spec_l09Determinantt_L3,au,hlt,hli,e1,e2,e3,e4,hbz,hIl,hrib,hRb,hQL,hxc,w4]
     rcases ih with ih | ⟨h0,ih⟩
     ·exact .inl (bq key ih)
     ·exact .inr ⟨h0,bq key ih⟩
   ·have hcb:c<b:=by omega
    have hsw:=hT.swap hcN hbN (gv hbc) hrc hrb;have hSw:=hN.swap hcN hbN;have hcs:(swp N c b hcN hbN)[c]? = some N[b]:=by unfold swp; rw [bg (by rw [db]; exact hcN)]
    have hrs:((IX.set b rc).set c rb)[c]? = some rb:=by rw [bg (by rw [db]; omega)]
    have hol0:=Pol.len_sub_le (a:=(0:Fp p)) (b:=out) (n:=m.len-1) (by rw [Pol.len_zero]; omega) (by omega)
    have hml2:=hm.two;have e0:=hs p 0 out (by rw [Pol.len_zero]; omega) (by omega)
    rw [row_zero] at e0;have e2:=hmm p (0-out) N[b][c] m hm0 (by omega) (by omega) (by omega)
    have hol:=Pol.len_mod ((0-out)*N[b][c]) hm0;have hel:Sq m n (elM m (jx m N[b][c]) N[b] c n n (swp N c b hcN hbN)):=hSw.elM hm0;obtain ⟨RR',hT',e4⟩:=aa0 (O:=O) hs hmm hm0 (by omega) hivl hn hSw hlt hcs hrs (cp:=cp) (z:=(D.arr 64 .leaf (aq .u8 (pad [])))) (o:=(D.arr 64 .leaf (aq .u8 (pad (row ((0-out)*N[b][c]%m)))))) (n-(c+1)) (c+1) RR (by omega) (by omega) (by rw [Pk]; exact hsw)
    obtain ⟨o,ho1,ho2,IX2,RR2,ih⟩:=aa6 hd hs hmm hin hm hn (cp:=cp) r (c+1) _ _ RR' ((0-out)*N[b][c]%m) (by omega) hel hT' hol
    refine ⟨o,ho1,?_,IX2,RR2,?_⟩
    ·have hsd:=a52 (m:=m) hcb hbN (r:=r+1) (by omega)
     have hse:=U7 hm (r:=r) (by omega) hSw hcs (by rw [hgd]; exact hx0)
     rw [hgd] at hse;rw [ho2,Pol.mk_mod]
     have h1:det (r+1) (A6 m c N)=-(Quo.mk m N[b][c]*det r (A6 m (c+1) (elM m (jx m N[b][c]) N[b] c n n (swp N c b hcN hbN)))):=by
      rw [←hse,hsd];exact bo [det (r+1) (A6 m c N)] rfl
     rw [h1];show (Quo.mk m 0-Quo.mk m out)*Quo.mk m N[b][c]*_=_;rw [Quo.mk_zero];exact bo [Quo.mk m out,Quo.mk m N[b][c],det r (A6 m (c+1) (elM m (jx m N[b][c]) N[b] c n n (swp N c b hcN hbN)))] rfl
    ·have hbi:¬ (b:Int)=c:=by omega
     have hn0:0<n:=by omega
     have key:dn O 1 ir_spec_l09Determinantt_L3 (Hi p n cp c IX RR m out [])=some (.normal,Hi p n cp (c+1) ((IX.set b rc).set c rb) RR' m ((0-out)*N[b][c]%m) []):=by
      simp only [Hi,df,d9];generalize ((c+1:Nat):Int)=z1 at *;generalize pad (row ((0-out)*N[b][c]%m))=Pn at *;generalize pad (row (0-out))=P0 at *;generalize pad (row (jx m N[b][c]))=Pi at *;generalize pad (row N[b][c])=Pc at *;generalize N[b].map bv=QD at *;generalize N[c].map bv=QC at *;generalize pad (row m)=Pm at *;generalize pad (row out)=Po at *;simp -implicitDefEqProofs [ir_spec_l09Determinantt_L3,au,hlt,hli,hbl,hbi,hn0,e0,e1,e2,e3,e4,hbz,hIl,hrib,hric,hRb,hRc,hRcL,hQL,hxc,w4]
     rcases ih with ih | ⟨h0,ih⟩
     ·exact .inl (bq key ih)
     ·exact .inr ⟨h0,bq key ih⟩
end
def Y7 (O:ap):Prop:=∀(p:Int) [IsP p] (m:Fp p),Fld m→∀(n:Nat),0<n→n<1000000→∀(N:Tab p) (cp:Option Nat) (IX:List Nat) (RR:List (List D)),Sq m n N→TbI IX RR N→∃o:Fp p,o.len<m.len∧Quo.mk m o=det n (N.map (rwQ m))∧∃(IX':List Nat) (RR':List (List D)),
 O F4m [(.d (.int .i64 p)),.d (D.arr 64 .leaf (aq .u8 (pad (row m)))),.sl 0 [0] 0 n cp] [.tb false (.arr 64 .leaf) IX RR]=some (.d (D.arr 64 .leaf (aq .u8 (pad (row o)))),[.tb false (.arr 64 .leaf) IX' RR'],[])
theorem ag9 (hT:T F4m=some ir_spec_l09Determinantt) (h1:A4 (den T A)) (hd:kb (den T A)) (hs:Aw (den T A)) (hmm:lf (den T A)) (hin:Jn (den T A)):Y7 (den T A):=by
 intro p ip m hm n hp hn N cp IX RR hN hT0;have hone:(1:Fp p).len=1:=Pol.len_one;have hm2:=hm.two;obtain ⟨o,ho1,ho2,IX',RR',e⟩:=aa6 (O:=den T A) hd hs hmm hin hm hn (cp:=cp) n 0 N IX RR 1 (by omega) hN hT0 (by omega)
 have e1:=h1 p;refine ⟨o,ho1,?_,IX',RR',i4 hT rfl ?_⟩
 ·rw [ho2,sub_zero]
  show 1*det n (N.map (rwQ m))=_;exact bo [det n (N.map (rwQ m))] rfl
 ·rcases e with e | ⟨h0,e⟩
  ·simp only [Hi,df,d9] at e
   rw [show ((0:Nat):Int)=0 from rfl] at e;generalize pad (row (1:Fp p))=P1 at *;generalize pad (row o)=Po at *;generalize pad (row m)=Pm at *;simp -implicitDefEqProofs [ir_spec_l09Determinantt,ir_spec_l09Determinantt_B,e,e1]
  ·subst h0
   simp only [Hi,df,d9] at e;rw [show ((0:Nat):Int)=0 from rfl] at e;rw [row_zero];generalize pad (row (1:Fp p))=P1 at *;generalize pad (row m)=Pm at *;simp -implicitDefEqProofs [ir_spec_l09Determinantt,ir_spec_l09Determinantt_B,e,e1]
def T9 (O:ap):Prop:=∀(p:Int) [IsP p] (m:Fp p),
 O F4m [(.d (.int .i64 p)),.d (D.arr 64 .leaf (aq .u8 (pad (row m)))),.sl 0 [] 0 0 (some 0)] [.sl false .leaf []]=some (.d (D.arr 64 .leaf (aq .u8 (pad (row (1:Fp p))))),[.sl false .leaf []],[])
theorem abn (hT:T F4m=some ir_spec_l09Determinantt) (h1:A4 (den T A)):T9 (den T A):=by
 intro p ip m;have e1:=h1 p
 have e:dn (den T A) 1 (.loop ir_spec_l09Determinantt_L3) ⟨[(0,(.d (.int .i64 p))),(2,.sl 0 [] 0 0 (some 0)),(4,.ptr 1 []),(6,.ptr 2 []),(7,.ptr 3 []),(8,(.d (.int .i64 0)))],[.sl false .leaf [],.box false (D.arr 64 .leaf (aq .u8 (pad (row m)))),.box false (D.arr 64 .leaf (aq .u8 (pad []))),.box false (D.arr 64 .leaf (aq .u8 (pad (row (1:Fp p))))),.hole,.hole]⟩ =
  some (.exit 0,⟨[(0,(.d (.int .i64 p))),(2,.sl 0 [] 0 0 (some 0)),(4,.ptr 1 []),(6,.ptr 2 []),(7,.ptr 3 []),(8,(.d (.int .i64 0))),(20,(.d (.bool false)))],[.sl false .leaf [],.box false (D.arr 64 .leaf (aq .u8 (pad (row m)))),.box false (D.arr 64 .leaf (aq .u8 (pad []))),.box false (D.arr 64 .leaf (aq .u8 (pad (row (1:Fp p))))),.hole,.hole]⟩):=by
  refine cg ?_;generalize pad (row (1:Fp p))=P1 at *;generalize pad (row m)=Pm at *;simp -implicitDefEqProofs [ir_spec_l09Determinantt_L3,au]
 refine i4 hT rfl ?_;generalize pad (row (1:Fp p))=P1 at *;generalize pad (row m)=Pm at *;simp -implicitDefEqProofs [ir_spec_l09Determinantt,ir_spec_l09Determinantt_B,e,e1]
abbrev X6 (code:List Int) (at_:Nat) (h:Int):Blk:=.box false (.st [.leaf,.leaf,.leaf] [.sl .leaf (aq .u8 code),.int .i64 at_,.int .u64 h])
def Src (b:Blk):Prop:=∃(code:List Int) (at_:Nat) (h:Int),b=X6 code at_ h∧at_≤code.length∧code.length≤1099511627776∧je code
theorem a6a {n:Nat} (h:n≤16777215):IntKind.u64.wrap (n:Int)=n:=by
 simp [IntKind.wrap,IntKind.bits,IntKind.signed]; omega
theorem aaq (x:Int):0≤a3l .u64 x 16777215∧a3l .u64 x 16777215≤16777215:=by
 have h1:(BitVec.ofInt 64 x &&& BitVec.ofInt 64 16777215).toNat≤16777215:=by
  rw [BitVec.toNat_and];exact Nat.and_le_right
 have h2:a3l .u64 x 16777215=((BitVec.ofInt 64 x &&& BitVec.ofInt 64 16777215).toNat:Int):=a6a h1;rw [h2];omega
theorem adf:(2:Int)^min 33 IntKind.u64.bits=8589934592:=rfl
def px (O:ap) (F:Nat):Prop:=∀(b:Blk) (n:Int),Src b→n≤4611686018427387904→∃(x:Int) (b':Blk),O F [.ptr 0 [],(.d (.int .i64 n))] [b]=some ((.d (.int .i64 x)),[b'],[])∧Src b'∧0≤x∧(x<n∨x=0)
theorem aei (hT:T F40=some Z40):px (den T A) F40:=by
 rintro b n ⟨code,k,h,rfl,hk,hc,hb⟩ hn
 by_cases h1:n<1
 ·refine ⟨0,_,i4 hT rfl ?_,⟨code,k,h,rfl,hk,hc,hb⟩,xu _,.inr rfl⟩
  simp -implicitDefEqProofs [Z40,Z40_B,au,h1]
 ·obtain ⟨hh,hhh⟩:∃hh:Int,IntKind.u64.wrap (IntKind.u64.wrap (h*6364136223846793005)+1442695040888963407)=hh:=⟨_,rfl⟩
  have hx:=aaq (hh.fdiv 8589934592);obtain ⟨x,hX⟩:∃x:Int,a3l .u64 (hh.fdiv 8589934592) 16777215=x:=⟨_,rfl⟩;rw [hX] at hx;have w0:IntKind.i64.wrap x=x:=w64 (by omega)
  have hn0:¬ n=0:=by omega
  have tm:∀y:Int,0≤y→0≤y.tmod n∧y.tmod n<n:=fun y hy=>by
   rw [dj hy];exact ⟨fm _ hn0,eh _ (by omega)⟩
  by_cases h2:k<code.length
  ·have hbk:=hb _ (bb h2)
   have h2':(k:Int)<code.length:=by omega
   have w1:IntKind.i64.wrap code[k]=code[k]:=w64 (by omega)
   have w2:IntKind.i64.wrap (x+code[k])=x+code[k]:=w64 (by omega)
   have w3:IntKind.i64.wrap ((k:Int)+1)=((k+1:Nat):Int):=(w64 (x:=(k:Int)+1) (by omega)).trans (by omega)
   obtain ⟨t1,t2⟩:=tm (x+code[k]) (by omega)
   refine ⟨(x+code[k]).tmod n,X6 code (k+1) hh,i4 hT rfl ?_,⟨code,k+1,hh,rfl,by omega,hc,hb⟩,t1,.inl t2⟩
   simp -implicitDefEqProofs [Z40,Z40_B,au,A0,adf,h1,hn0,h2,h2',hhh,hX,w0,w1,w2,w3]
  ·have h2':¬ (k:Int)<code.length:=by omega
   obtain ⟨t1,t2⟩:=tm x (by omega)
   refine ⟨x.tmod n,X6 code k hh,i4 hT rfl ?_,⟨code,k,hh,rfl,hk,hc,hb⟩,t1,.inl t2⟩;simp -implicitDefEqProofs [Z40,Z40_B,au,A0,adf,h1,hn0,h2',hhh,hX,w0]
theorem a51 {O:ap} {code:List Int} (hc:code.length≤4096) (hb:je code):∀(r i:Nat) (h:Int),i+r=code.length→∃h':Int,
 dn O 0 (.loop Z3r_L0) ⟨[(0,.d (.sl .leaf (aq .u8 code))),(3,.ptr 0 []),(4,(.d (.int .i64 i)))],[X6 code 0 h]⟩ =
  some (.exit 0,⟨[(0,.d (.sl .leaf (aq .u8 code))),(3,.ptr 0 []),(4,(.d (.int .i64 code.length))),(19,(.d (.bool false)))],[X6 code 0 h']⟩)
 | 0,i,h,hi=>by
  obtain rfl:i=code.length:=by omega
  refine ⟨h,cg ?_⟩;simp -implicitDefEqProofs [Z3r_L0,au]
 | r+1,i,h,hi=>by
  have hlt:i<code.length:=by omega
  have hlt':(i:Int)<code.length:=by omega
  have hq:(i:Int)<4096:=by omega
  have hbk:=hb _ (bb hlt);have w4:IntKind.i64.wrap ((i:Int)+1)=((i+1:Nat):Int):=(w64 (x:=(i:Int)+1) (by omega)).trans (by omega)
  obtain ⟨h2,hh2⟩:∃h2:Int,IntKind.u64.wrap (IntKind.u64.wrap (IntKind.u64.wrap (h*1099511628211)+IntKind.u64.wrap code[i])+61)=h2:=⟨_,rfl⟩;obtain ⟨h',ih⟩:=a51 hc hb r (i+1) h2 (by omega)
  refine ⟨h',bq ?_ ih⟩;simp -implicitDefEqProofs [Z3r_L0,au,hlt,hlt',hq,w4,hh2]
def D8 (O:ap):Prop:=∀code:List Int,je code→code.length≤4096→∃b:Blk,O F3r [.d (.sl .leaf (aq .u8 code))] []=some (.ptr 0 [],[],[b])∧Src b
theorem aex (hT:T F3r=some Z3r):D8 (den T A):=by
 intro code hb hc;obtain ⟨h0,hh0⟩:∃h0:Int,IntKind.u64.wrap (12251+IntKind.u64.wrap (code.length:Int))=h0:=⟨_,rfl⟩;obtain ⟨h',e⟩:=a51 (O:=den T A) hc hb code.length 0 h0 (br _);rw [show ((0:Nat):Int)=0 from rfl,show X6 code 0 h0=.box false (.st [.leaf,.leaf,.leaf] [.sl .leaf (aq .u8 code),.int .i64 0,.int .u64 h0]) from rfl] at e;refine ⟨X6 code 0 h',i4 hT rfl ?_,⟨code,0,h',rfl,mu _,by omega,hb⟩⟩
 simp -implicitDefEqProofs [Z3r,Z3r_B,hh0,e,List.idxOf,List.findIdx,List.findIdx.go]
def Xl (O:ap):Prop:=∀(b:Blk) (l:List Int) (n:Nat) (cp:Option Nat),Src b→l.length=n→0<n→n≤100→∃(x:Int) (b':Blk),O F42 [.ptr 0 [],.sl 1 [] 0 n cp] [b,.sl false .leaf (aq .i64 l)]=some ((.d (.int .i64 x)),[b',.sl false .leaf (aq .i64 l)],[])∧Src b'∧x∈l
theorem ag3 (hT:T F42=some Z42) (hn:px (den T A) F40):Xl (den T A):=by
 rintro b l n cp hs hl hpos hm
 obtain ⟨x,b',e,hs',h0,h1⟩:=hn b n hs (by omega)
 obtain ⟨k,rfl⟩:∃k:Nat,x=k:=⟨x.toNat,by omega⟩
 have hk:k<n:=by omega
 have hkl:k<l.length:=by omega
 obtain ⟨c,a,h,rfl,_⟩:=id hs;obtain ⟨c',a',h',rfl,_⟩:=id hs';refine ⟨l[k],_,i4 hT rfl ?_,hs',bb hkl⟩;simp -implicitDefEqProofs [Z42,Z42_B,e,hk,hl,List.idxOf,List.findIdx,List.findIdx.go]
def Ao (O:ap):Prop:=∀b:Blk,Src b→∃(p:Int) (b':Blk),O F3q [.ptr 0 []] [b]=some ((.d (.int .i64 p)),[b'],[])∧Src b'∧IsP p
theorem Up (hT:T F3q=some Z3q) (hp:Xl (den T A)):Ao (den T A):=by
 intro b hs;obtain ⟨x,b',e,hs',hx⟩:=hp b [2,2,3,3,5,7] 6 (some 6) hs rfl (by omega) (by omega)
 rw [show aq .i64 [2,2,3,3,5,7]=[.int .i64 2,.int .i64 2,.int .i64 3,.int .i64 3,.int .i64 5,.int .i64 7] from rfl] at e;obtain ⟨c,a,h,rfl,_⟩:=id hs;obtain ⟨c',a',h',rfl,_⟩:=id hs';refine ⟨x,_,i4 hT rfl ?_,hs',⟨by simp at hx; omega⟩⟩
 simp -implicitDefEqProofs [Z3q,Z3q_B,e,List.replicate,List.idxOf,List.findIdx,List.findIdx.go]
structure DrI (p:Int) (Q:List Int) (n:Nat):Prop where
 l:Q.length=64
 c:Can p Q
 z:∀j,n≤j→cf Q j=0
theorem DrI.set {p:Int} {Q:List Int} {n k:Nat} {x:Int} (h:DrI p Q n) (h0:0≤x) (h1:x<p) (hk:k<n):DrI p (Q.set k x) n:=
 ⟨by rw [db]; exact h.l,fun y hy=>by
  rcases ef hy with g | rfl
  ·exact h.c y g
  ·exact ⟨h0,h1⟩,fun j hj=>by rw [v7,if_neg (by omega)]; exact h.z j hj⟩
section
variable {p:Int} [IsP p]
theorem DrI.pol {Q:List Int} {n:Nat} (h:DrI p Q n):Q=pad (row (fc p Q))∧(fc p Q).len≤n:=
 ⟨Mu h.c h.l,Pol.len_le fun j hj=>by rw [jw,h.z j hj]; rfl⟩
theorem Y3 {O:ap} (hn:px O F40) {b1:Blk} {n:Nat} (hn64:n≤64):∀(k:Nat) (b:Blk) (Q:List Int),k≤n→Src b→DrI p Q n→∃(b':Blk) (Q':List Int),Src b'∧DrI p Q' n ∧
 dn O 1 (.loop ir_spec_l01Draw_L0) ⟨[(0,.ptr 0 []),(1,(.d (.int .i64 p))),(6,.ptr 1 []),(7,.ptr 2 []),(8,(.d (.int .i64 ((k:Int)-1))))],[b,b1,.box false (D.arr 64 .leaf (aq .u8 Q))]⟩ =
  some (.exit 0,⟨[(0,.ptr 0 []),(1,(.d (.int .i64 p))),(6,.ptr 1 []),(7,.ptr 2 []),(8,(.d (.int .i64 (-1)))),(16,(.d (.bool false)))],[b',b1,.box false (D.arr 64 .leaf (aq .u8 Q'))]⟩)
 | 0,b,Q,hk,hs,hQ=>by
  refine ⟨b,Q,hs,hQ,cg ?_⟩;obtain ⟨c,a,h,rfl,_⟩:=hs;simp -implicitDefEqProofs [ir_spec_l01Draw_L0,au]
 | k+1,b,Q,hk,hs,hQ=>by
  have hp:=IsP.ge (p:=p);have hp7:=IsP.le (p:=p);obtain ⟨x,b2,e1,hs2,x0,x1⟩:=hn b 3 hs (by omega)
  have w1:IntKind.i64.wrap ((((k+1:Nat):Int)-1)-1)=(k:Int)-1:=(w64 (by omega)).trans (by omega)
  have hk1:((k+1:Nat):Int)-1=(k:Int):=by omega
  rw [hk1] at w1 ⊢;have hge:(0:Int)≤k:=by omega
  have hkQ:k<Q.length:=by rw [hQ.l]; omega
  have hk64:k<64:=by omega
  by_cases hx:0<x
  ·obtain ⟨y,b3,e2,hs3,y0,y1⟩:=hn b2 p hs2 (by omega)
   have w2:IntKind.u8.wrap y=y:=w8 (by omega)
   obtain ⟨b',Q',hs',hQ',ih⟩:=Y3 hn (b1:=b1) hn64 k b3 (Q.set k y) (by omega) hs3 (hQ.set y0 (by omega) (by omega))
   refine ⟨b',Q',hs',hQ',bq ?_ ih⟩;obtain ⟨c,a,h,rfl,_⟩:=hs;obtain ⟨c2,a2,h2,rfl,_⟩:=hs2;obtain ⟨c3,a3,h3,rfl,_⟩:=hs3;simp -implicitDefEqProofs [ir_spec_l01Draw_L0,au,hge,e1,e2,hx,w1,w2,hkQ,hk64,List.idxOf,List.findIdx,List.findIdx.go]
  ·obtain ⟨b',Q',hs',hQ',ih⟩:=Y3 hn (b1:=b1) hn64 k b2 Q (by omega) hs2 hQ
   refine ⟨b',Q',hs',hQ',bq ?_ ih⟩;obtain ⟨c,a,h,rfl,_⟩:=hs;obtain ⟨c2,a2,h2,rfl,_⟩:=hs2;simp -implicitDefEqProofs [ir_spec_l01Draw_L0,au,hge,e1,hx,w1,List.idxOf,List.findIdx,List.findIdx.go]
end
theorem DrI.zero (p:Int) [IsP p] (n:Nat):DrI p (pad []) n:=
 ⟨dc _,fun x hx=>by
  have hp:=IsP.ge (p:=p)
  have:x=0:=by
   unfold pad at hx;obtain ⟨a,_,rfl⟩:∃a,a<64∧cf [] a=x:=by simpa using hx
   exact p7 (mu _)
  omega,fun j _=>(zu (l:=[]) (by simp) j).trans (p7 (mu _))⟩
def Hp (O:ap):Prop:=∀(p:Int) [IsP p] (b:Blk) (n:Nat),Src b→n≤63→∃(a:Fp p) (b':Blk),O F3o [.ptr 0 [],(.d (.int .i64 p)),(.d (.int .i64 ((n:Int))))] [b]=some (.d (D.arr 64 .leaf (aq .u8 (pad (row a)))),[b'],[])∧Src b'∧a.len≤n+1
theorem aes (hT:T F3o=some Z3o) (hn:px (den T A) F40):Hp (den T A):=by
 intro p ip b n hs h63;obtain ⟨x,b2,e1,hs2,x0,x1⟩:=hn b ((n:Int)+2) hs (by omega)
 obtain ⟨k,rfl⟩:∃k:Nat,x=k:=⟨x.toNat,by omega⟩
 have w0:IntKind.i64.wrap ((n:Int)+2)=(n:Int)+2:=w64 (by omega)
 have w1:IntKind.i64.wrap ((k:Int)-1)=(k:Int)-1:=w64 (by omega)
 obtain ⟨b',Q,hs',hQ,e2⟩:=Y3 (p:=p) hn (b1:=.box false (D.arr 64 .leaf (aq .u8 (pad [])))) (n:=n+1) (by omega) k b2 (pad []) (by omega) hs2 (.zero p _)
 obtain ⟨q1,q2⟩:=hQ.pol;refine ⟨fc p Q,b',i4 hT rfl ?_,hs',q2⟩;rw [←q1];obtain ⟨c,a,h,rfl,_⟩:=hs;obtain ⟨c2,a2,h2,rfl,_⟩:=hs2;obtain ⟨c',a',h',rfl,_⟩:=hs';simp -implicitDefEqProofs [Z3o,ir_spec_l01Draw_B,w0,e1,w1,e2,List.replicate,List.idxOf,List.findIdx,List.findIdx.go]
theorem a8k {O:ap} (hn:px O F40) {p:Int} [IsP p] {b1:Blk} {n:Nat} {most k:Int} (hn62:n≤62):∀(r i:Nat) (b:Blk) (Q:List Int),i+r=n→Src b→DrI p Q n→∃(b':Blk) (Q':List Int),Src b'∧DrI p Q' n ∧
 dn O 1 (.loop Z3p_L0) ⟨[(0,.ptr 0 []),(1,(.d (.int .i64 p))),(2,(.d (.int .i64 most))),(6,.ptr 1 []),(7,.ptr 2 []),(8,(.d (.int .i64 k))),(9,(.d (.int .i64 n))),(10,(.d (.int .i64 i)))],[b,b1,.box false (D.arr 64 .leaf (aq .u8 Q))]⟩ =
  some (.exit 2,⟨[(0,.ptr 0 []),(1,(.d (.int .i64 p))),(2,(.d (.int .i64 most))),(6,.ptr 1 []),(7,.ptr 2 []),(8,(.d (.int .i64 k))),(9,(.d (.int .i64 n))),(10,(.d (.int .i64 n))),(23,(.d (.bool false)))],[b',b1,.box false (D.arr 64 .leaf (aq .u8 Q'))]⟩)
 | 0,i,b,Q,hi,hs,hQ=>by
  obtain rfl:i=n:=by omega
  refine ⟨b,Q,hs,hQ,cg ?_⟩;obtain ⟨c,a,h,rfl,_⟩:=hs;simp -implicitDefEqProofs [Z3p_L0,au]
 | r+1,i,b,Q,hi,hs,hQ=>by
  have hp:=IsP.ge (p:=p);have hp7:=IsP.le (p:=p);obtain ⟨y,b3,e2,hs3,y0,y1⟩:=hn b p hs (by omega)
  have w2:IntKind.u8.wrap y=y:=w8 (by omega)
  have w4:IntKind.i64.wrap ((i:Int)+1)=((i+1:Nat):Int):=(w64 (x:=(i:Int)+1) (by omega)).trans (by omega)
  have hlt:i<n:=by omega
  have hiQ:i<Q.length:=by rw [hQ.l]; omega
  have hi64:i<64:=by omega
  obtain ⟨b',Q',hs',hQ',ih⟩:=a8k hn (b1:=b1) (most:=most) (k:=k) hn62 r (i+1) b3 (Q.set i y) (by omega) hs3 (hQ.set y0 (by omega) hlt)
  refine ⟨b',Q',hs',hQ',bq ?_ ih⟩;obtain ⟨c,a,h,rfl,_⟩:=hs;obtain ⟨c3,a3,h3,rfl,_⟩:=hs3;simp -implicitDefEqProofs [Z3p_L0,au,hlt,e2,w2,w4,hiQ,hi64,List.idxOf,List.findIdx,List.findIdx.go]
theorem DrI.up {p:Int} {Q:List Int} {n m:Nat} (h:DrI p Q n) (hm:n≤m):DrI p Q m:=⟨h.l,h.c,fun j hj=>h.z j (by omega)⟩
theorem DrI.mod {p:Int} [IsP p] {Q:List Int} {n:Nat} (h:DrI p Q n) (hn:n≤62):∃a:Fp p,Q.set n 1=pad (row a)∧a.len=n+1∧Monic a:=by
 have hp:=IsP.ge (p:=p);have h1:DrI p (Q.set n 1) (n+1):=(h.up (Nat.le_succ n)).set (by omega) (by omega) (Nat.lt_succ_self n)
 obtain ⟨q1,q2⟩:=h1.pol
 have hc:(fc p (Q.set n 1)).c n=1:=by
  rw [jw,v7,if_pos ⟨rfl,by rw [h.l]; omega⟩,Bg]
 have hne:(fc p (Q.set n 1)).c n≠0:=by
  rw [hc]; exact Fd.one_ne
 have hl:(fc p (Q.set n 1)).len=n+1:=Pol.len_eq (Pol.lt_iff.2 q2) hne;have h0:fc p (Q.set n 1)≠0:=fun h=>by rw [h,Pol.len_zero] at hl; omega
 exact ⟨fc p (Q.set n 1),q1,hl,⟨by unfold Pol.ld; rw [hl]; exact hc,h0⟩⟩
open Classical in
theorem a7r {O:ap} (hn:px O F40) (hir:D3 O) {p:Int} [IsP p] {z:List Int} {most:Int} (hm1:1≤most) (hm2:most≤12):∀(r k:Nat) (b:Blk) (a:Fp p),k+r=4→Src b→2≤a.len→a.len≤most+1→Monic a→∃(b':Blk) (a':Fp p),Src b'∧2≤a'.len∧a'.len≤most+1∧Monic a' ∧
 (dn O 1 (.loop Z3p_L1) ⟨[(0,.ptr 0 []),(1,(.d (.int .i64 p))),(2,(.d (.int .i64 most))),(6,.ptr 1 []),(7,.ptr 2 []),(8,(.d (.int .i64 k)))],[b,.box false (D.arr 64 .leaf (aq .u8 z)),.box false (D.arr 64 .leaf (aq .u8 (pad (row a))))]⟩ =
  some (.exit 0,⟨[(0,.ptr 0 []),(1,(.d (.int .i64 p))),(2,(.d (.int .i64 most))),(6,.ptr 1 []),(7,.ptr 2 []),(8,(.d (.int .i64 4))),(13,(.d (.bool false)))],[b',.box false (D.arr 64 .leaf (aq .u8 z)),.box false (D.arr 64 .leaf (aq .u8 (pad (row a'))))]⟩) ∨
 dn O 1 (.loop Z3p_L1) ⟨[(0,.ptr 0 []),(1,(.d (.int .i64 p))),(2,(.d (.int .i64 most))),(6,.ptr 1 []),(7,.ptr 2 []),(8,(.d (.int .i64 k)))],[b,.box false (D.arr 64 .leaf (aq .u8 z)),.box false (D.arr 64 .leaf (aq .u8 (pad (row a))))]⟩ =
  some (.ret,⟨[(6,.ptr 1 [])],[b',.box false (D.arr 64 .leaf (aq .u8 (pad (row a')))),.hole]⟩))
 | 0,k,b,a,hk,hs,h2,hl,hm=>by
  obtain rfl:k=4:=by omega
  refine ⟨b,a,hs,h2,hl,hm,.inl (cg ?_)⟩;obtain ⟨c,a,h,rfl,_⟩:=hs;simp -implicitDefEqProofs [Z3p_L1,au]
 | r+1,k,b,a,hk,hs,h2,hl,hm=>by
  have hk4:(k:Int)<4:=by omega
  obtain ⟨x,b2,e1,hs2,x0,x1⟩:=hn b most hs (by omega)
  obtain ⟨n,hn1⟩:∃n:Nat,1+x=n:=⟨(1+x).toNat,by omega⟩
  have w1:IntKind.i64.wrap (1+x)=n:=(w64 (by omega)).trans hn1
  obtain ⟨b3,Q,hs3,hQ,st⟩:=a8k hn (p:=p) (b1:=.box false (D.arr 64 .leaf (aq .u8 z))) (n:=n) (most:=most) (k:=k) (by omega) n 0 b2 (pad []) (br _) hs2 (.zero p _)
  rw [show ((0:Nat):Int)=0 from rfl] at st;obtain ⟨a',q1,q2,q3⟩:=hQ.mod (by omega)
  have hnQ:n<Q.length:=by rw [hQ.l]; omega
  have hn64:n<64:=by omega
  obtain ⟨y,b4,e2,hs4,y0,y1⟩:=hn b3 3 hs3 (by omega)
  have w4:IntKind.i64.wrap ((k:Int)+1)=((k+1:Nat):Int):=(w64 (x:=(k:Int)+1) (by omega)).trans (by omega)
  have e3:=hir p a' q3.2 (by omega)
  obtain ⟨b',a2,g1,g2,g3,g4,ih⟩:=a7r hn hir (z:=z) hm1 hm2 r (k+1) b4 a' (by omega) hs4 (by omega) (by omega) q3
  by_cases hy:y=0
  ·refine ⟨b4,a',hs4,by omega,by omega,q3,.inr (mj ?_)⟩
   obtain ⟨c,a0,h,rfl,_⟩:=hs;obtain ⟨c2,a2,h2,rfl,_⟩:=hs2;obtain ⟨c3,a3,h3,rfl,_⟩:=hs3;obtain ⟨c4,a4,h4,rfl,_⟩:=hs4;generalize pad (row a)=Pa at *;generalize hPQ:Q.set n 1=PQ at *;generalize pad (row a')=Pb at *;subst q1;simp -implicitDefEqProofs [Z3p_L1,au,hk4,e1,w1,st,hnQ,hn64,hPQ,e2,hy,List.idxOf,List.findIdx,List.findIdx.go]
  ·by_cases hI:Irr a'
   ·refine ⟨b4,a',hs4,by omega,by omega,q3,.inr (mj ?_)⟩
    rw [decide_eq_true hI] at e3;obtain ⟨c,a0,h,rfl,_⟩:=hs;obtain ⟨c2,a2,h2,rfl,_⟩:=hs2;obtain ⟨c3,a3,h3,rfl,_⟩:=hs3;obtain ⟨c4,a4,h4,rfl,_⟩:=hs4;generalize pad (row a)=Pa at *;generalize hPQ:Q.set n 1=PQ at *;generalize pad (row a')=Pb at *;subst q1;simp -implicitDefEqProofs [Z3p_L1,au,hk4,e1,w1,st,hnQ,hn64,hPQ,e2,e3,hy,List.idxOf,List.findIdx,List.findIdx.go]
   ·rw [decide_eq_false hI] at e3
    have key:dn O 1 Z3p_L1 ⟨[(0,.ptr 0 []),(1,(.d (.int .i64 p))),(2,(.d (.int .i64 most))),(6,.ptr 1 []),(7,.ptr 2 []),(8,(.d (.int .i64 k)))],[b,.box false (D.arr 64 .leaf (aq .u8 z)),.box false (D.arr 64 .leaf (aq .u8 (pad (row a))))]⟩=some (.normal,⟨[(0,.ptr 0 []),(1,(.d (.int .i64 p))),(2,(.d (.int .i64 most))),(6,.ptr 1 []),(7,.ptr 2 []),(8,(.d (.int .i64 (((k+1:Nat):Int)))))],[b4,.box false (D.arr 64 .leaf (aq .u8 z)),.box false (D.arr 64 .leaf (aq .u8 (pad (row a'))))]⟩):=by
     obtain ⟨c,a0,h,rfl,_⟩:=hs;obtain ⟨c2,a2,h2,rfl,_⟩:=hs2;obtain ⟨c3,a3,h3,rfl,_⟩:=hs3;obtain ⟨c4,a4,h4,rfl,_⟩:=hs4;generalize pad (row a)=Pa at *;generalize hPQ:Q.set n 1=PQ at *;generalize pad (row a')=Pb at *;subst q1;simp -implicitDefEqProofs [Z3p_L1,au,hk4,e1,w1,st,hnQ,hn64,hPQ,e2,e3,hy,w4,List.idxOf,List.findIdx,List.findIdx.go]
    exact ⟨b',a2,g1,g2,g3,g4,ih.imp (bq key) (bq key)⟩
def Bh (O:ap):Prop:=∀(p:Int) [IsP p] (b:Blk) (most:Int),Src b→1≤most→most≤12→∃(a:Fp p) (b':Blk),O F3p [.ptr 0 [],(.d (.int .i64 p)),(.d (.int .i64 most))] [b]=some (.d (D.arr 64 .leaf (aq .u8 (pad (row a)))),[b'],[])∧Src b'∧2≤a.len∧a.len≤most+1∧Monic a
theorem a3q (hT:T F3p=some Z3p) (hn:px (den T A) F40) (ht:a46 (den T A)) (hir:D3 (den T A)):Bh (den T A):=by
 intro p ip b most hs hm1 hm2;have e0:=ht p;have hX:(Pol.X:Fp p).len=2:=Pol.len_X;obtain ⟨b',a',g1,g2,g3,g4,e | e⟩:=a7r (O:=den T A) hn hir (z:=pad []) hm1 hm2 4 0 b (Pol.X:Fp p) rfl hs (by omega) (by omega) ⟨by unfold Pol.ld; rw [Pol.len_X]; rfl,Pol.X_ne⟩
 ·refine ⟨a',b',i4 hT rfl ?_,g1,g2,g3,g4⟩
  rw [show ((0:Nat):Int)=0 from rfl] at e;obtain ⟨c,a0,h,rfl,_⟩:=hs;obtain ⟨c2,a2,h2,rfl,_⟩:=g1;generalize pad (row a')=Pb at *;generalize pad (row (Pol.X:Fp p))=Pt at *;simp -implicitDefEqProofs [Z3p,Z3p_B,e0,e,List.replicate,List.idxOf,List.findIdx]
 ·refine ⟨a',b',i4 hT rfl ?_,g1,g2,g3,g4⟩
  rw [show ((0:Nat):Int)=0 from rfl] at e;obtain ⟨c,a0,h,rfl,_⟩:=hs;obtain ⟨c2,a2,h2,rfl,_⟩:=g1;generalize pad (row a')=Pb at *;generalize pad (row (Pol.X:Fp p))=Pt at *;simp -implicitDefEqProofs [Z3p,Z3p_B,e0,e,List.replicate,List.idxOf,List.findIdx]
end Pe
namespace Pe
open Go Gq
variable {T:Nat→Option Fn} {A:ap}
def Arr (l:List Int):Prop:=l.length=64∧je l
theorem E7 {p:Int} [IsP p] (a:Fp p):Arr (pad (row a)):=⟨dc _,Qb a⟩
end Pe

namespace Gq
def Pr (l:Nat):Prop:=2≤l∧∀d,d∣l→d=1∨d=l
theorem Pr.coprime {l n:Nat} (h:Pr l) (hn:¬ l∣n):Nat.Coprime l n:=by
 rcases h.2 _ (Nat.gcd_dvd_left l n) with h1 | h1
 ·exact h1
 ·exact absurd (h1▸Nat.gcd_dvd_right l n) hn
theorem adi:∀(n:Nat),2≤n→∃l,Pr l∧l∣n:=by
 intro n
 induction n using Nat.strongRecOn with
 | ind n ih=>
  intro hn
  by_cases h:Pr n
  ·exact ⟨n,h,Nat.dvd_refl n⟩
  ·have:∃d,d∣n∧d≠1∧d≠n:=by
    apply fa;intro hno;refine h ⟨hn,fun d hd=>?_⟩
    apply fa;intro h2;exact hno ⟨d,hd,fun e=>h2 (.inl e),fun e=>h2 (.inr e)⟩
   obtain ⟨d,hd,h1,h2⟩:=this;have hle:=ut (by omega) hd
   have h0:d≠0:=fun e=>by
    rw [e] at hd;have:=Nat.eq_zero_of_zero_dvd hd;omega
   obtain ⟨l,hl,hld⟩:=ih d (by omega) (by omega)
   exact ⟨l,hl,pj hld hd⟩
theorem Pr.dvd_mul {l a b:Nat} (h:Pr l) (hd:l∣a*b):l∣a∨l∣b:=by
 by_cases ha:l∣a
 ·exact .inl ha
 ·exact .inr ((h.coprime ha).dvd_of_dvd_mul_left hd)
theorem Pr.dvd_pr {l q:Nat} (h:Pr l) (hq:Pr q) (hd:l∣q):l=q:=by
 rcases hq.2 l hd with h1 | h1
 ·have:=h.1; omega
 ·exact h1
theorem a5c {n:Nat} (h0:1≤n) (h:∀l,Pr l→¬ l∣n):n=1:=by
 apply fa;intro h1;obtain ⟨l,hl,hd⟩:=adi n (by omega)
 exact h l hl hd
section
variable {R:Type} [CR R]
theorem Sm {x:R} {n k:Nat} (h:pw x n=1) (hd:n∣k):pw x k=1:=by
 obtain ⟨c,rfl⟩:=hd;rw [←yn,h,Hq]
def Ord (x:R) (n:Nat):Prop:=∀k,pw x k=1↔n∣k
theorem Ord.self {x:R} {n:Nat} (h:Ord x n):pw x n=1:=(h n).2 (Nat.dvd_refl n)
theorem Ord.unique {x:R} {n m:Nat} (h:Ord x n) (h':Ord x m):n=m:=Nat.dvd_antisymm ((h m).1 h'.self) ((h' n).1 h.self)
theorem Ord.mul {a b:R} {m n:Nat} (ha:Ord a m) (hb:Ord b n) (h:Nat.Coprime m n):Ord (a*b) (m*n):=fun k=>by
 constructor
 ·intro hk
  have h1:m∣k:=by
   have e:pw a (k*n)=1:=by
    have e1:pw (a*b) (k*n)=1:=by rw [←yn,hk,Hq]
    rw [zj,Sm hb.self (uh n k),mul_one] at e1;exact e1
   exact h.dvd_of_dvd_mul_right ((ha _).1 e)
  have h2:n∣k:=by
   have e:pw b (k*m)=1:=by
    have e1:pw (a*b) (k*m)=1:=by rw [←yn,hk,Hq]
    rw [zj,Sm ha.self (uh m k),one_mul] at e1;exact e1
   exact h.symm.dvd_of_dvd_mul_right ((hb _).1 e)
  exact h.mul_dvd_of_dvd_of_dvd h1 h2
 ·intro hd
  rw [zj,Sm ha.self (pj (tu m n) hd),Sm hb.self (pj (uh n m) hd),mul_one]
end
structure OrdI (n q rest order:Nat) (fin:Bool):Prop where
 dv:n∣order
 pos:1≤order
 low:∀l,Pr l→l<q→¬ l*n∣order∧¬ l∣rest
 rel:∃c,order=rest*c∧(∀l,Pr l→q<l→¬ l∣c)∧(fin=false→Pr q→¬ q∣c)
 fin:fin=true→¬ q*n∣order
theorem OrdI.rest_pos {n q rest order:Nat} {f:Bool} (h:OrdI n q rest order f):1≤rest:=by
 obtain ⟨c,e,-⟩:=h.rel;have:=h.pos;rcases ou rest with h0 | h0
 ·rw [h0,kr] at e; omega
 ·exact h0
theorem OrdI.init {n N:Nat} (hN:1≤N) (h:n∣N):OrdI n 2 N N false where
 dv:=h
 pos:=hN
 low:=fun l hl h2=>by have:=hl.1; omega
 rel:=⟨1,(Nat.mul_one N).symm,fun l hl _ hd=>by have:=hl.1; have:=ut (by omega) hd; omega,fun _ hq hd=>by have:=hq.1; have:=ut (by omega) hd; omega⟩
 fin:=fun h=>by cases h
theorem OrdI.prime {n q rest order:Nat} {f:Bool} (h:OrdI n q rest order f) (h2:2≤q) (hd:q∣rest):Pr q:=by
 obtain ⟨l,hl,hlq⟩:=adi q h2;rcases f7 l q with h1 | h1
 ·exact absurd (pj hlq hd) (h.low l hl h1).2
 ·have:=ut (by omega) hlq
  obtain rfl:l=q:=by omega
  exact hl
theorem OrdI.no {n q r c':Nat} {f:Bool} (h:OrdI n q (q*r) (q*c') f) (h2:2≤q) (hd:¬ n∣c'):OrdI n q r (q*c') true where
 dv:=h.dv
 pos:=h.pos
 low:=fun l hl h1=>by
  obtain ⟨a,b⟩:=h.low l hl h1;exact ⟨a,fun e=>b (pj e (uh r q))⟩
 rel:=by
  have hq:=h.prime h2 (tu q r);obtain ⟨c,e,h3,_⟩:=h.rel;refine ⟨q*c,by rw [e,Nat.mul_assoc,Nat.mul_left_comm],fun l hl h4 hl2=>?_,fun hf=>by cases hf⟩
  rcases hl.dvd_mul hl2 with h5 | h5
  ·have:=hl.dvd_pr hq h5; omega
  ·exact h3 l hl h4 h5
 fin:=fun _ e=>hd (Nat.dvd_of_mul_dvd_mul_left (by omega) e)
theorem OrdI.next {n q rest order:Nat} {f:Bool} (h:OrdI n q rest order f) (h2:2≤q) (hd:¬ q∣rest):OrdI n (q+1) rest order false where
 dv:=h.dv
 pos:=h.pos
 low:=fun l hl h1=>by
  rcases f7 l q with h3 | h3
  ·exact h.low l hl h3
  ·obtain rfl:l=q:=by omega
   refine ⟨fun e=>?_,hd⟩
   cases f with
   | true=>exact h.fin rfl e
   | false=>
    obtain ⟨c,e1,_,h5⟩:=h.rel;have:l∣rest*c:=e1▸pj (tu l n) e;rcases hl.dvd_mul this with h6 | h6
    ·exact hd h6
    ·exact h5 rfl hl h6
 rel:=by
  obtain ⟨c,e1,h4,_⟩:=h.rel;exact ⟨c,e1,fun l hl h5=>h4 l hl (by omega),fun _ hq=>h4 _ hq (by omega)⟩
 fin:=fun hf=>by cases hf
theorem OrdI.done {n q rest order:Nat} (h:OrdI n q rest order false) (hq:rest<q):order=n:=by
 have hr:rest=1:=a5c h.rest_pos fun l hl hd=>by
  have:=ut h.rest_pos hd;exact (h.low l hl (by omega)).2 hd
 obtain ⟨c,e1,h4,h5⟩:=h.rel;rw [hr,Nat.one_mul] at e1;obtain ⟨k,hk⟩:=h.dv
 have hk1:k=1:=a5c (by
  have:=h.pos;rcases ou k with h0 | h0
  ·rw [h0,Nat.mul_zero] at hk; omega
  ·exact h0) fun l hl hd=>by
  have hln:l*n∣order:=by
   rw [hk,A8 l n]; exact Nat.mul_dvd_mul_left n hd
  rcases f7 l q with h6 | h6
  ·exact (h.low l hl h6).1 hln
  ·have hlc:l∣c:=e1▸pj (tu l n) hln
   rcases f7 q l with h7 | h7
   ·exact h4 l hl h7 hlc
   ·obtain rfl:l=q:=by omega
    exact h5 rfl hl hlc
 rw [hk,hk1,Nat.mul_one]
end Gq

namespace Pe
open Gq
section
variable {p:Int}
def IsPrim (m:Fp p) (k:Nat):Prop:=1≤k∧(k:Int)<p^(m.len-1)∧Ord (Quo.mk m (pr p k)) (p.toNat^(m.len-1)-1)∧∀j:Nat,1≤j→j<k→¬ Ord (Quo.mk m (pr p j)) (p.toNat^(m.len-1)-1)
theorem IsPrim.unique {m:Fp p} {j k:Nat} (hj:IsPrim m j) (hk:IsPrim m k):j=k:=by
 rcases f7 j k with h | h
 ·exact absurd hj.2.2.1 (hk.2.2.2 j hj.1 h)
 ·rcases f7 k j with h2 | h2
  ·exact absurd hk.2.2.1 (hj.2.2.2 k hk.1 h2)
  ·omega
noncomputable def dgF:o9 p→Nat
 | []=>0
 | x::L=>x.2*(x.1.len-1)+dgF L
theorem a5x [IsP p] {q:Fp p} (h:Monic q):∀k,(pw q k).len=k*(q.len-1)+1
 | 0=>by rw [kr]; exact Pol.len_one
 | k+1=>by
  have h1:=Pol.len_mul (Monic.pw h k).2 h.2;have h2:=a5x h k;have h3:=Pol.len_pos h.2;show (pw q k*q).len=_;rw [gn]; omega
theorem a1x [IsP p]:∀{L:o9 p},FacOk L→(nw L).len=dgF L+1
 | [],_=>Pol.len_one
 | x::L,h=>by
  have hm:=(h.irr x (by simp)).2.1
  have ht:FacOk L:=⟨fun y hy=>h.irr y (by simp [hy]),h.dis.tail⟩
  have h1:=a1x ht;have h2:=Pol.len_mul (Monic.pw hm x.2).2 (Au ht).2;rw [a5x hm] at h2;rw [ue,dgF]; omega
end
end Pe
namespace Pe
open Go Gq
variable {T:Nat→Option Fn} {A:ap}
section
variable {p:Int} [IsP p]
end
section
variable {p:Int} [IsP p]
end
section
variable {p:Int} [IsP p]
end
section
variable {p:Int} [IsP p]
theorem IsFac.small {m:Fp p} (hm:m≠0) (hl:m.len≤13) {L:o9 p} (h:IsFac m L):(∀x∈L,2≤x.1.len∧x.1.len≤13∧1≤x.2∧x.2≤12)∧dgF L+1=m.len:=by
 refine ⟨fun x hx=>?_,?_⟩
 ·obtain ⟨q1,q2,q3,_⟩:=h.len hm hx
  exact ⟨q1,by omega,(h.ok.irr x hx).2.2,by omega⟩
 ·rw [←a1x h.ok]
  conv=>rhs; rw [h.eq]
  exact (Pol.len_Cmul (Pol.ld_ne hm) _).symm
end
section
variable {p:Int} [IsP p]
end
section
variable {p:Int} [IsP p]
end
end Pe
namespace Pe
open Go Gq
section
variable {p:Int}
end
section
variable {p:Int} [IsP p]
end
end Pe
namespace Pe
open Go Gq
variable {T:Nat→Option Fn} {A:ap}
section
variable {p:Int} [IsP p]
end
section
variable {p:Int} [ip:IsP p] {M X:Fp p}
end
def a9w (O:ap):Prop:=∀L:List D,ask O F23 [.sl .leaf L]=some (D.bool (decide ((4096:Int)<L.length)))
theorem al1 (hT:T F23=some Z23):a9w (den T A):=by
 intro L;refine ch hT rfl ?_;simp -implicitDefEqProofs [Z23,Z23_B]
theorem M2 {a m:List Int} (ha:je a) (gl:a.length=64) (hm:je m) (glm:m.length=64):v6 [a,m]:=fun x hx=>by
 simp at hx;rcases hx with rfl | rfl
 ·exact ⟨gl,ha⟩
 ·exact ⟨glm,hm⟩
section
variable {p:Int}
end
theorem a1a {l:List Int} (h:Arr l) {x:Int} (h0:0≤x) (h1:x<256) (i:Nat):Arr (l.set i x):=
 ⟨by rw [db]; exact h.1,fun z hz=>by
  rcases ef hz with g | rfl
  ·exact h.2 z g
  ·exact ⟨h0,h1⟩⟩
end Pe
namespace Pe
open Go Gq
section
variable {K:Type} [CR K]
end
section
variable {p:Int} {m:Fp p}
theorem aj0 [IsP p]:sg 1 (0:Quo m)=0:=vj 1
variable {t0 t1 t2:Quo m}
noncomputable def aet [IsP p] (f:Pol (Quo m)):Pol (Quo m):=⟨fun i=>sg 1 (f.c i),by
 obtain ⟨n,h⟩:=f.fin;exact ⟨n,fun i hi=>by rw [h i hi,aj0]⟩⟩
noncomputable def PQ [IsP p] (u v:Pol (Quo m)):Nat→Pol (Quo m)×Pol (Quo m)
 | 0=>(1,0)
 | j+1=>(u*aet (PQ u v j).2,aet (PQ u v j).1+v*aet (PQ u v j).2)
end
section
variable {p:Int} {m:Fp p}
end
structure FrobSaid {p:Int} [IsP p] (m g d:Fp p):Prop where
 lt:(frA m g d).lt ((m.len-1)/2+1)
 eq:∀n,(if n=2*(m.len-1) then 1 else 0)-(if n<m.len-1 then 0 else jv (fun i=>Quo.mk m (Pol.C ((frA m g d).c i))*Rk (Quo.mk m Pol.X) (Quo.mk m g) (Quo.mk m d) i (n-(m.len-1))) ((m.len-1)/2+1))+jv (fun i=>Quo.mk m (Pol.C ((frB m d).c i))*Rk (Quo.mk m Pol.X) (Quo.mk m g) (Quo.mk m d) i n) m.len=0
section
variable {p:Int} {m g d:Fp p}
end
end Pe
namespace Pe
open Go Gq
variable {T:Nat→Option Fn} {A:ap}
section
variable {p:Int}
end
end Pe
namespace Pe
open Go Gq
section
variable {K:Type} [CR K]
end
section
variable {p:Int} [ip:IsP p] {m:Fp p}
end
section
variable {p:Int} {m:Fp p}
end
section
variable {p:Int} [ip:IsP p] {m:Fp p}
end
section
variable {p:Int} {m:Fp p}
end
section
variable {p:Int} [ip:IsP p] {m:Fp p}
end
section
variable {p:Int} {m:Fp p}
end
section
variable {p:Int} [ip:IsP p] {m:Fp p}
end
end Pe
namespace Pe
open Go Gq
variable {T:Nat→Option Fn} {A:ap}
section
end
section
variable {p:Int} [IsP p]
end
def Ad:Nat→Cd→Cd→Cd
 | 0,_,t=>t
 | n+1,.seq a b,t=>.seq a (Ad n b t)
 | _+1,c,_=>c
def lc:Nat→Cd→Cd
 | 0,c=>c
 | n+1,.seq _ b=>lc n b
 | _+1,c=>c
theorem Dr (c t:Cd):Ad 0 c t=t:=rfl
theorem E0 (n:Nat) (a b t:Cd):Ad (n+1) (.seq a b) t=.seq a (Ad n b t):=rfl
section
variable {p:Int} [IsP p] {m:Fp p}
end
end Pe
namespace Pe
open Go Gq
section
variable {p:Int}
noncomputable def jg {m:Fp p} (f:Nat→Quo m):Nat→Quo m
 | 0=>0
 | n+1=>jg f n+f n
theorem qi {m:Fp p} {f g:Nat→Quo m}:∀n,(∀i,i<n→f i=g i)→jg f n=jg g n
 | 0,_=>rfl
 | n+1,h=>by
  show jg f n+f n=jg g n+g n;rw [qi n fun i hi=>h i (by omega),h n (by omega)]
theorem Mj {m:Fp p} (f:Nat→Quo m):∀n,jg f (n+1)=f 0+jg (fun i=>f (i+1)) n
 | 0=>by
  show 0+f 0=f 0+0;rw [Gq.zero_add,Gq.add_zero]
 | n+1=>by
  show jg f (n+1)+f (n+1)=f 0+(jg (fun i=>f (i+1)) n+f (n+1))
  rw [Mj f n,Gq.add_assoc]
theorem Bt {m:Fp p} {f:Nat→Quo m}:∀n,(∀i,i<n→f i=0)→jg f n=0
 | 0,_=>rfl
 | n+1,h=>by
  show jg f n+f n=0;rw [Bt n fun i hi=>h i (by omega),h n (by omega),Gq.add_zero]
noncomputable def cv {m:Fp p} (X Y:Nat→Quo m) (n:Nat):Quo m:=jg (fun i=>X i*sg i (Y (n-i))) (n+1)
end
end Pe
namespace Pe
open Go Gq
variable {T:Nat→Option Fn} {A:ap}
theorem plus_nil {p:Int} [IsP p] {A B:List (Fp p)} (hA:m9 A) (hB:m9 B):(wk (-1) A B).length=0↔A=B:=by
 have hc:∀i,cS (wk (-1) A B) i=cS A i-cS B i:=fun i=>by
  rw [Qp,show zp p (-1)=-1 from by rw [Hd,Bg]]
  have:Pol.C (-1:Zp p)=-1:=by rw [Pol.C_neg,Pol.C_one]
  rw [this];exact bo [cS A i,cS B i] rfl
 constructor
 ·intro h
  refine Gj hA hB fun i=>?_
  have h1:=hc i;rw [Cu (by omega)] at h1
  have h2:cS A i=(cS A i-cS B i)+cS B i:=bo [cS A i,cS B i] rfl;rw [h2,←h1,Gq.zero_add]
 ·rintro rfl
  have:wk (-1) A A=[]:=Gj (I6 _ _ _) (fun n hn=>by cases hn) fun i=>by
   rw [hc,a8i];exact bo [cS A i] rfl
  rw [this]; rfl
section
variable {p:Int} [IsP p]
end
section
variable {p:Int} [IsP p]
end
end Pe
namespace Pe
open Go Gq
section
variable {K:Type} [CR K]
end
section
variable {p:Int} {m:Fp p}
end
section
variable {p:Int} [ip:IsP p] {m:Fp p}
structure Tws (m:Fp p) (C V G D G' D':Quo m):Prop where
 cv:C*V=1
 g:V*G'=sg 1 V*G
 d:V*D'=sg 2 V*D
 dp:D'=pw V (p*p-1).toNat*D
 gp:G'=pw V (p-1).toNat*G
end
section
variable {p:Int} {m:Fp p}
theorem Tws.rk {C V G D G' D':Quo m} (h:Tws m C V G D G' D') (t:Quo m):∀k n,V*Rk t G' D' k n=Rk t G D k n*sg n V
 | 0,0=>Gq.mul_comm _ _
 | 0,n+1=>by
  show V*0=0*sg (n+1) V;rw [Gq.mul_zero,Gq.zero_mul]
 | k+1,0=>by
  show V*(Rk t G' D' k 0*t)=Rk t G D k 0*t*sg 0 V;have e:=h.rk t k 0;rw [←Gq.mul_assoc,e];exact bo [Rk t G D k 0,sg 0 V,t] rfl
 | k+1,1=>by
  show V*(Rk t G' D' k 1*sg 1 t+Rk t G' D' k 0*G')=(Rk t G D k 1*sg 1 t+Rk t G D k 0*G)*sg 1 V;have e1:=h.rk t k 1;have e0:V*Rk t G' D' k 0=Rk t G D k 0*V:=h.rk t k 0;have x1:V*(Rk t G' D' k 1*sg 1 t+Rk t G' D' k 0*G')=(V*Rk t G' D' k 1)*sg 1 t+(V*Rk t G' D' k 0)*G':=bo [V,Rk t G' D' k 1,sg 1 t,Rk t G' D' k 0,G'] rfl;rw [x1,e1,e0,Gq.mul_assoc (Rk t G D k 0) V G',h.g];exact bo [Rk t G D k 1,sg 1 V,sg 1 t,Rk t G D k 0,G] rfl
 | k+1,n+2=>by
  show V*(Rk t G' D' k (n+2)*sg (n+2) t+Rk t G' D' k (n+1)*sg (n+1) G'+Rk t G' D' k n*sg n D')=(Rk t G D k (n+2)*sg (n+2) t+Rk t G D k (n+1)*sg (n+1) G+Rk t G D k n*sg n D)*sg (n+2) V;have e2:=h.rk t k (n+2);have e1:=h.rk t k (n+1);have e0:=h.rk t k n;have g1:sg (n+1) V*sg (n+1) G'=sg (n+2) V*sg (n+1) G:=by rw [←ui,h.g,ui,Gg]
  have d1:sg n V*sg n D'=sg (n+2) V*sg n D:=by rw [←ui,h.d,ui,Gg]
  have x1:V*(Rk t G' D' k (n+2)*sg (n+2) t+Rk t G' D' k (n+1)*sg (n+1) G'+Rk t G' D' k n*sg n D')=(V*Rk t G' D' k (n+2))*sg (n+2) t+(V*Rk t G' D' k (n+1))*sg (n+1) G'+(V*Rk t G' D' k n)*sg n D':=bo [V,Rk t G' D' k (n+2),sg (n+2) t,Rk t G' D' k (n+1),sg (n+1) G',Rk t G' D' k n,sg n D'] rfl;rw [x1,e2,e1,e0,Gq.mul_assoc (Rk t G D k (n+1)),g1,Gq.mul_assoc (Rk t G D k n),d1];exact bo [Rk t G D k (n+2),sg (n+2) V,sg (n+2) t,Rk t G D k (n+1),sg (n+1) G,Rk t G D k n,sg n D] rfl
end
section
variable {p:Int} [ip:IsP p] {m:Fp p}
theorem Yt (hm:Fld m) {a b:Fp p} (ha:a.len<m.len) (hb:b.len<m.len) (h:Quo.mk m a=Quo.mk m b):a=b:=by
 have e:=(Pol.mod_eq_iff hm.mon.2).2 h
 rwa [Pol.mod_small ha,Pol.mod_small hb] at e
end
section
variable {p:Int} {m:Fp p}
end
section
variable {p:Int} [ip:IsP p] {m:Fp p}
end
end Pe
namespace Pe
open Go Gq
variable {T:Nat→Option Fn} {A:ap}
section
variable {p:Int} [IsP p]
theorem a8g {m:Fp p} (hm:m≠0) {xs:List (Fp p)} (hx:∀x∈xs,x.len<m.len):Sq m xs.length (moK m xs xs.length):=⟨od ..,fun r hr=>by
 obtain ⟨i,_,rfl⟩:=ct.1 hr;exact ⟨jt ..,a1g hm hx⟩⟩
theorem a2x (N:Tab p):TbI (List.range N.length) (N.map Dw) N:=by
 refine ⟨ji,fun j k r hj hk=>?_,fun k Q hk=>?_⟩
 ·obtain ⟨h1,h2⟩:=av.1 hj
  obtain ⟨h3,h4⟩:=av.1 hk;rw [List.getElem_range] at h2 h4;omega
 ·obtain ⟨h1,h2⟩:=av.1 hk
  exact ⟨k,by rw [af (by rw [ji]; exact h1),List.getElem_range],by rw [fe,hk]; rfl⟩
end
open Classical in
noncomputable def mdL (p:Int) (l:List Int) (ls:List (List Int)):List Int:=
 if h:qd p l ls∧ls.length≤4 then
  haveI:IsP p:=h.1.choose
  pad (row (dtP (fc p l) ls.length (moK (fc p l) (ls.map (fc p)) ls.length)))
 else pad []
theorem Ni {p:Int} [IsP p] {m:Fp p} {S:List (Fp p)} (h:qd p (pad (row m)) (skP S)) (hn:S.length≤4) (hm:m.len≤64) (hS:∀a∈S,a.len≤64):mdL p (pad (row m)) (skP S)=pad (row (dtP m S.length (moK m S S.length))):=by
 unfold mdL;have hl:(skP S).length=S.length:=ab ..;rw [dif_pos ⟨h,by omega⟩,pe hm,mc hS]
 exact congrArg (fun k=>pad (row (dtP m k (moK m S k)))) hl
theorem a07 {p:Int} {l:List Int} {ls:List (List Int)} (h:kw p l ls 0 4≠0):mdL p l ls=pad []:=by
 unfold mdL;rw [dif_neg fun g=>h (Ic.2 g)]
theorem a0d (p:Int) (l:List Int) (ls:List (List Int)):(mdL p l ls).length=64:=by
 unfold mdL
 split <;> exact dc _
def ua (O:ap) (F:Nat):Prop:=∀(p:Int) (l:List Int) (ls:List (List Int)),je l→l.length=64→v6 ls→ls.length<2000000→ask O F [(D.int .i64 p),(D.arr 64 .leaf (aq .u8 l)),.sl (.arr 64 .leaf) (ls.map ce)]=some (.tup [(D.arr 64 .leaf (aq .u8 (mdL p l ls))),(D.int .i64 (kw p l ls 0 4))])
theorem X2 (hT:T F7=some Z7) (hc:wh (den T A)) (hfo:u5 (den T A)) (hro:Aj (den T A)) (hmo:J7 (den T A)) (hde:a9t (den T A)) (hto:a00 (den T A)):ua (den T A) F7:=by
 intro p l ls bl gl ha hl;have e1:=hc p l ls 0 4 bl gl ha hl
 by_cases h:kw p l ls 0 4=0
 ·rw [h] at e1 ⊢
  obtain ⟨h',h4⟩:=Ic.1 h;obtain ⟨ip,m,rfl,hm,hs⟩:=id h';obtain ⟨S,rfl,hS⟩:=rz hs;have h5:=hm.five;have hSl:S.length≤4:=by rwa [ab] at h4
  have hS64:∀a∈S,a.len≤64:=fun a ha=>by have:=hS a ha; omega
  have e2:=hfo p m (by omega)
  have e3:=hro p S (by omega) hS64
  have e4:=hmo p m S hm.two (by omega) (by omega) hS64
  have hmd:(S.map fun a=>pad (row a)).map ce=S.map bv:=ia S
  have e5:=hde p m hm.mon.2 hm.two (by omega) S.length (by omega) (moK m S S.length) (a8g hm.mon.2 hS)
  have hdl:=Ea hm.mon.2 hm.two S.length (moK m S S.length);have hrl:(row (dtP m S.length (moK m S S.length))).length≤64:=by rw [cu]; omega
  have e6:=hto (row (dtP m S.length (moK m S S.length))) (Q7 _) (by omega)
  unfold a7o at e6;rw [if_pos hrl] at e6;rw [show tbD (moK m S S.length)=(moK m S S.length).map o6 from rfl] at e5;rw [Ni h' hSl (by omega) hS64]
  rw [hmd] at e1 ⊢;refine ch hT rfl ?_;generalize row (dtP m S.length (moK m S S.length))=R0 at *;generalize (moK m S S.length).map o6=R2 at *;generalize S.map bv=SD at *;generalize S.map cz=SR at *;generalize S.length=sn at *;generalize pad (row m)=Pm at *;simp -implicitDefEqProofs [Z7,Z7_B,au,e1,e2,e3,e4,e5,e6,List.replicate]
 ·rw [a07 h]
  refine ch hT rfl ?_;generalize kw p l ls 0 4=cc at *;generalize ls.map ce=LD at *;simp -implicitDefEqProofs [Z7,Z7_B,au,e1,h]
theorem Vv (hT:T F3f=some ir_spec_MooreDeterminantt) (hc:yl (den T A)) (hmo:L7 (den T A)) (hmo0:H9 (den T A)) (hde:Y7 (den T A)) (hde0:T9 (den T A)) (hmd':Ap (den T A)):ua (den T A) F3f:=by
 intro p l ls bl gl ha hl;have e1:=hc p l ls 4 bl gl ha hl
 by_cases h:kw p l ls 0 4=0
 ·rw [h] at e1 ⊢
  obtain ⟨h',h4⟩:=Ic.1 h;obtain ⟨ip,m,rfl,hm,hs⟩:=id h';obtain ⟨S,rfl,hS⟩:=rz hs;have h5:=hm.five;have h2:=hm.two;have hSl:S.length≤4:=by rwa [ab] at h4
  have hS64:∀a∈S,a.len≤64:=fun a ha=>by have:=hS a ha; omega
  have hmd:(S.map fun a=>pad (row a)).map ce=S.map bv:=ia S
  rw [Ni h' hSl (by omega) hS64]
  rw [hmd] at e1 ⊢
  by_cases h0:S.length=0
  ·obtain rfl:S=[]:=fb.1 h0
   have hone:(1:Fp p).len=1:=Pol.len_one;have e2:=hmo0 p m;have e3:=hde0 p m;have e4:=hmd' p 1 m hm.mon.2 (by omega) (by omega)
   rw [Pol.mod_small (show (1:Fp p).len<m.len by omega)] at e4
   rw [show dtP m ([]:List (Fp p)).length (moK m [] ([]:List (Fp p)).length)=1 from rfl];refine ch hT rfl ?_;simp only [fi] at e1 ⊢;generalize pad (row (1:Fp p))=P1 at *;generalize pad (row m)=Pm at *;simp -implicitDefEqProofs [ir_spec_MooreDeterminantt,ir_spec_MooreDeterminantt_B,au,e1,e2,e3,e4,List.replicate,List.idxOf,List.findIdx,List.findIdx.go]
  ·obtain ⟨co,e2⟩:=hmo p m S h2 (by omega) (by omega) hS64 (by omega)
   have hTI:TbI (List.range S.length) ((moK m S S.length).map Dw) (moK m S S.length):=by
    have:=a2x (moK m S S.length)
    rwa [od] at this
   have hsq:=a8g hm.mon.2 hS;obtain ⟨o,ho1,ho2,IX',RR',e3⟩:=hde p m hm S.length (by omega) (by omega) (moK m S S.length) co _ _ hsq hTI
   have e4:=hmd' p o m hm.mon.2 (by omega) (by omega)
   rw [Pol.mod_small ho1] at e4;have hoe:o=dtP m S.length (moK m S S.length):=Yt hm ho1 (Ea hm.mon.2 h2 _ _) (by rw [ho2,Ws])
   rw [←hoe];refine ch hT rfl ?_;generalize pad (row o)=Po at *;generalize (moK m S S.length).map Dw=R2 at *;generalize List.range S.length=IX at *;generalize S.map bv=SD at *;generalize S.length=sn at *;generalize pad (row m)=Pm at *;simp -implicitDefEqProofs [ir_spec_MooreDeterminantt,ir_spec_MooreDeterminantt_B,au,e1,e2,e3,e4,List.replicate,List.idxOf,List.findIdx,List.findIdx.go]
 ·rw [a07 h]
  refine ch hT rfl ?_;generalize kw p l ls 0 4=cc at *;generalize ls.map ce=LD at *;simp -implicitDefEqProofs [ir_spec_MooreDeterminantt,ir_spec_MooreDeterminantt_B,au,e1,h]
end Pe
namespace Pe
open Go Gq
variable {T:Nat→Option Fn} {A:ap}
def BB (l:List Int):Prop:=∀i,0≤cf l i∧cf l i≤255
theorem BB.set {l:List Int} (h:BB l) {x:Int} (h0:0≤x) (h1:x≤255) (i:Nat):BB (l.set i x):=fun j=>by
 rw [v7]
 split
 ·exact ⟨h0,h1⟩
 ·exact h j
theorem Nn {l:List Int} {k:Nat} (h:∀i,k≤i→cf l i=0) (n:Nat):jn l n≤k:=by
 rcases (H8 l n).2 with h1 | h1
 ·omega
 ·by_cases h2:jn l n≤k
  ·exact h2
  ·exact absurd (h _ (by omega)) h1
theorem Q8 {p:Int} [IsP p] {m:Fp p} {k:Nat} (hm:m.len≤k) (n:Nat):jn (pad (row m)) n≤k:=Nn (fun i hi=>by
 by_cases h64:(row m).length≤64
 ·rw [zu h64]
  exact p7 (by rw [cu]; omega)
 ·rw [cu] at h64
  exact p7 (by rw [dc]; omega)) n
theorem a3s {p:Int} [IsP p] {m:Fp p} {k j:Nat} {v:Int} (hm:m.len≤k) (hj:j<k) (n:Nat):jn ((pad (row m)).set j v) n≤k:=Nn (fun i hi=>by
 have h0:cf (pad (row m)) i=0:=by
  by_cases h64:(row m).length≤64
  ·rw [zu h64]
   exact p7 (by rw [cu]; omega)
  ·rw [cu] at h64
   exact p7 (by rw [dc]; omega)
 unfold cf at h0 ⊢;rw [ca] at h0 ⊢;rw [bh (by omega)]
 exact h0) n
open Classical in
theorem adc {O:ap} (hn:px O F40) (hm:Bh O) (hir:D3 O) {p:Int} [IsP p] {z:List Int}:∀(r k:Nat) (b:Blk),k+r=6→Src b→∃b':Blk,Src b' ∧
 (dn O 1 (.loop Z49_L0) ⟨[(0,.ptr 0 []),(3,.ptr 1 []),(4,(.d (.int .i64 p))),(5,(.d (.int .i64 k)))],[b,.box false (D.arr 64 .leaf (aq .u8 z)),.hole]⟩ =
  some (.exit 0,⟨[(0,.ptr 0 []),(3,.ptr 1 []),(4,(.d (.int .i64 p))),(5,(.d (.int .i64 6))),(10,(.d (.bool false)))],[b',.box false (D.arr 64 .leaf (aq .u8 z)),.hole]⟩) ∨
 ∃m:List Int,(Arr m∧jn m 64≤5)∧dn O 1 (.loop Z49_L0) ⟨[(0,.ptr 0 []),(3,.ptr 1 []),(4,(.d (.int .i64 p))),(5,(.d (.int .i64 k)))],[b,.box false (D.arr 64 .leaf (aq .u8 z)),.hole]⟩ =
  some (.ret,⟨[(2,(.d (.int .i64 p))),(3,.ptr 1 [])],[b',.box false (D.arr 64 .leaf (aq .u8 m)),.hole]⟩))
 | 0,k,b,hk,hs=>by
  obtain rfl:k=6:=by omega
  refine ⟨b,hs,.inl (cg ?_)⟩;obtain ⟨c,a,h,rfl,_⟩:=hs;simp -implicitDefEqProofs [Z49_L0,au]
 | r+1,k,b,hk,hs=>by
  have hk6:(k:Int)<6:=by omega
  obtain ⟨m,b1,e1,hs1,m2,m5,mm⟩:=hm p b 4 hs (by omega) (by omega)
  have e2:=hir p m mm.2 (by omega)
  have w4:IntKind.i64.wrap ((k:Int)+1)=((k+1:Nat):Int):=(w64 (x:=(k:Int)+1) (by omega)).trans (by omega)
  by_cases hI:Irr m
  ·rw [decide_eq_true hI] at e2
   obtain ⟨x,b2,e3,hs2,-,-⟩:=hn b1 40 hs1 (by omega)
   have am:=E7 m
   by_cases hx:x=0
   ·obtain ⟨y,b3,e4,hs3,y0,y1⟩:=hn b2 5 hs2 (by omega)
    obtain ⟨j,rfl⟩:∃j:Nat,y=j:=⟨y.toNat,by omega⟩
    obtain ⟨v,b4,e5,hs4,v0,v1⟩:=hn b3 8 hs3 (by omega)
    have w1:IntKind.u8.wrap v=v:=w8 (by omega)
    have hj64:j<64:=by omega
    have hml:=am.1;refine ⟨b4,hs4,.inr ⟨(pad (row m)).set j v,⟨a1a am (by omega) (by omega) j,a3s (by omega) (by omega) 64⟩,mj ?_⟩⟩
    obtain ⟨_,_,_,rfl,_⟩:=hs;obtain ⟨_,_,_,rfl,_⟩:=hs1;obtain ⟨_,_,_,rfl,_⟩:=hs2;obtain ⟨_,_,_,rfl,_⟩:=hs3;obtain ⟨_,_,_,rfl,_⟩:=hs4;generalize pad (row m)=Pm at *;simp -implicitDefEqProofs [Z49_L0,au,hk6,e1,e2,e3,e4,e5,hx,w1,hj64,hml,List.idxOf,List.findIdx,List.findIdx.go]
   ·refine ⟨b2,hs2,.inr ⟨pad (row m),⟨am,Q8 (by omega) 64⟩,mj ?_⟩⟩
    obtain ⟨_,_,_,rfl,_⟩:=hs;obtain ⟨_,_,_,rfl,_⟩:=hs1;obtain ⟨_,_,_,rfl,_⟩:=hs2;generalize pad (row m)=Pm at *;simp -implicitDefEqProofs [Z49_L0,au,hk6,e1,e2,e3,hx,List.idxOf,List.findIdx,List.findIdx.go]
  ·rw [decide_eq_false hI] at e2
   obtain ⟨b',hs',ih⟩:=adc hn hm hir (p:=p) (z:=z) r (k+1) b1 (by omega) hs1
   have key:dn O 1 Z49_L0 ⟨[(0,.ptr 0 []),(3,.ptr 1 []),(4,(.d (.int .i64 p))),(5,(.d (.int .i64 k)))],[b,.box false (D.arr 64 .leaf (aq .u8 z)),.hole]⟩=some (.normal,⟨[(0,.ptr 0 []),(3,.ptr 1 []),(4,(.d (.int .i64 p))),(5,(.d (.int .i64 (((k+1:Nat):Int)))))],[b1,.box false (D.arr 64 .leaf (aq .u8 z)),.hole]⟩):=by
    obtain ⟨_,_,_,rfl,_⟩:=hs;obtain ⟨_,_,_,rfl,_⟩:=hs1;generalize pad (row m)=Pm at *;simp -implicitDefEqProofs [Z49_L0,au,hk6,e1,e2,w4,List.idxOf,List.findIdx,List.findIdx.go]
   exact ⟨b',hs',ih.imp (bq key) (fun ⟨m,h1,h2⟩=>⟨m,h1,bq key h2⟩)⟩
def jr (O:ap):Prop:=∀(p:Int) [IsP p] (m:List Int) (b:Blk),Src b→Arr m→∃(a:List Int) (b':Blk),O F4a [.ptr 0 [],(.d (.int .i64 p)),.d (D.arr 64 .leaf (aq .u8 m))] [b]=some (.d (D.arr 64 .leaf (aq .u8 a)),[b'],[])∧Src b'∧Arr a
theorem Ht (hT:T F4a=some Z4a) (hdr:Dl (den T A)) (hd:Hp (den T A)) (hn:px (den T A) F40):jr (den T A):=by
 intro p ip m b hs am;have e1:=hdr m am.1;have htl:jn m 64≤64:=E8 m 64;have w1:IntKind.i64.wrap ((jn m 64:Int)-1-1)=(jn m 64:Int)-1-1:=w64 (by omega)
 obtain ⟨n,hn2,hn62⟩:∃n:Nat,(n:Int)=(if (jn m 64:Int)-1-1<0 then 0 else (jn m 64:Int)-1-1)∧n≤62:=by
  split
  ·exact ⟨0,rfl,by omega⟩
  ·exact ⟨jn m 64-2,by omega,by omega⟩
 obtain ⟨a,b1,e2,hs1,-⟩:=hd p b n hs (by omega)
 rw [hn2] at e2;obtain ⟨x,b2,e3,hs2,-,-⟩:=hn b1 60 hs1 (by omega)
 have aa:=E7 a
 by_cases hx:x=0
 ·obtain ⟨y,b3,e4,hs3,y0,y1⟩:=hn b2 8 hs2 (by omega)
  obtain ⟨j,rfl⟩:∃j:Nat,y=j:=⟨y.toNat,by omega⟩
  obtain ⟨v,b4,e5,hs4,v0,v1⟩:=hn b3 7 hs3 (by omega)
  have w2:IntKind.u8.wrap v=v:=w8 (by omega)
  have hj64:j<64:=by omega
  have hal:=aa.1;refine ⟨(pad (row a)).set j v,b4,i4 hT rfl ?_,hs4,a1a aa (by omega) (by omega) j⟩
  obtain ⟨_,_,_,rfl,_⟩:=hs;obtain ⟨_,_,_,rfl,_⟩:=hs1;obtain ⟨_,_,_,rfl,_⟩:=hs2;obtain ⟨_,_,_,rfl,_⟩:=hs3;obtain ⟨_,_,_,rfl,_⟩:=hs4;generalize pad (row a)=Pa at *;generalize (jn m 64:Int)-1=tm at *
  by_cases hneg:tm-1<0
  ·rw [if_pos hneg] at e2
   simp -implicitDefEqProofs [Z4a,Z4a_B,au,e1,e2,e3,e4,e5,w1,w2,hx,hneg,hj64,hal,List.replicate,List.idxOf,List.findIdx,List.findIdx.go]
  ·rw [if_neg hneg] at e2
   simp -implicitDefEqProofs [Z4a,Z4a_B,au,e1,e2,e3,e4,e5,w1,w2,hx,hneg,hj64,hal,List.replicate,List.idxOf,List.findIdx,List.findIdx.go]
 ·refine ⟨pad (row a),b2,i4 hT rfl ?_,hs2,aa⟩
  obtain ⟨_,_,_,rfl,_⟩:=hs;obtain ⟨_,_,_,rfl,_⟩:=hs1;obtain ⟨_,_,_,rfl,_⟩:=hs2;generalize pad (row a)=Pa at *;generalize (jn m 64:Int)-1=tm at *
  by_cases hneg:tm-1<0
  ·rw [if_pos hneg] at e2
   simp -implicitDefEqProofs [Z4a,Z4a_B,au,e1,e2,e3,w1,hx,hneg,List.replicate,List.idxOf,List.findIdx,List.findIdx.go]
  ·rw [if_neg hneg] at e2
   simp -implicitDefEqProofs [Z4a,Z4a_B,au,e1,e2,e3,w1,hx,hneg,List.replicate,List.idxOf,List.findIdx,List.findIdx.go]
end Pe
namespace Pe
open Go Gq
variable {T:Nat→Option Fn} {A:ap}
theorem Tx {O:ap} {ls:List (List Int)} (h:∀l∈ls,l.length=64) (hl:ls.length<2000000):∀(k i:Nat),i+k=ls.length →
 dn O 0 (.loop Z24_L0) ⟨[(0,.d (.sl (.arr 64 .leaf) (ls.map ce))),(1,.d (.sl (.arr 64 .leaf) (ls.map ce))),(5,(.d (.int .i64 i)))],[]⟩ =
  some (.exit 0,⟨[(0,.d (.sl (.arr 64 .leaf) (ls.map ce))),(1,.d (.sl (.arr 64 .leaf) (ls.map ce))),(5,(.d (.int .i64 ls.length))),(14,(.d (.bool false)))],[]⟩)
 | 0,i,hi=>by
  obtain rfl:i=ls.length:=by omega
  have hL:(ls.map ce).length=ls.length:=ab ..;refine cg ?_;generalize ls.map ce=LD at *;simp -implicitDefEqProofs [Z24_L0,au,hL]
 | k+1,i,hi=>by
  have hlt:i<ls.length:=by omega
  have hx:=h _ (bb hlt);have e1:D.beq (.arr 64 .leaf .int) (D.arr 64 .leaf (aq .u8 (ls[i]))) (D.arr 64 .leaf (aq .u8 (ls[i])))=some true:=by rw [Ov hx hx,decide_eq_true rfl]
  have hL:(ls.map ce).length=ls.length:=ab ..;have hx2:∀h:i<(ls.map ce).length,(ls.map ce)[i]'h=(D.arr 64 .leaf (aq .u8 (ls[i]))):=fun h=>by rw [ci]
  have w4:IntKind.i64.wrap ((i:Int)+1)=((i+1:Nat):Int):=(w64 (x:=(i:Int)+1) (by omega)).trans (by omega)
  refine bq ?_ (Tx h hl k (i+1) (by omega))
  generalize ls[i]=li at *;generalize ls.map ce=LD at *;simp -implicitDefEqProofs [Z24_L0,au,hlt,hL,hx2,e1,w4]
def Mp (O:ap):Prop:=∀ls:List (List Int),(∀l∈ls,l.length=64)→ls.length<2000000→ask O F24 [.sl (.arr 64 .leaf) (ls.map ce),.sl (.arr 64 .leaf) (ls.map ce)]=some (D.bool true)
theorem a5g (hT:T F24=some Z24):Mp (den T A):=by
 intro ls h hl;have e:=Tx (O:=den T A) h hl ls.length 0 (br _);rw [show ((0:Nat):Int)=0 from rfl] at e;refine ch hT rfl ?_;generalize ls.map ce=LD at *;simp -implicitDefEqProofs [Z24,Z24_B,au,e]
theorem Qk {O:ap} (hr:jr O) {p:Int} [IsP p] {m:List Int} (am:Arr m):∀(r:Nat) (b:Blk) (Q:List (List Int)) (cp:Option Nat),Src b→v6 Q→r≤100→Q.length+r≤1000→∃(b':Blk) (Q':List (List Int)) (cp':Option Nat),Src b'∧v6 Q'∧Q'.length≤1000 ∧
 dn O 1 (.loop Z4f_L0) ⟨[(0,.ptr 0 []),(1,(.d (.int .i64 p))),(5,.ptr 1 []),(7,.sl 2 [] 0 Q.length cp),(8,(.d (.int .i64 ((r:Int)))))],[b,.box false (D.arr 64 .leaf (aq .u8 m)),.sl false (.arr 64 .leaf) (Q.map ce),.hole,.hole]⟩ =
  some (.exit 0,⟨[(0,.ptr 0 []),(1,(.d (.int .i64 p))),(5,.ptr 1 []),(7,.sl 2 [] 0 Q'.length cp'),(8,(.d (.int .i64 0))),(13,(.d (.bool false)))],[b',.box false (D.arr 64 .leaf (aq .u8 m)),.sl false (.arr 64 .leaf) (Q'.map ce),.hole,.hole]⟩)
 | 0,b,Q,cp,hs,hQ,h100,hl=>by
  refine ⟨b,Q,cp,hs,hQ,by omega,cg ?_⟩
  obtain ⟨_,_,_,rfl,_⟩:=hs;generalize Q.map ce=QD at *;simp -implicitDefEqProofs [Z4f_L0,au]
 | r+1,b,Q,cp,hs,hQ,h100,hl=>by
  have hk0:(0:Int)<((r+1:Nat):Int):=by omega
  have w4:IntKind.i64.wrap (((r+1:Nat):Int)-1)=(r:Int):=(w64 (by omega)).trans (by omega)
  obtain ⟨a,b2,e1,hs2,aa⟩:=hr p m b hs am;have hQD:(Q.map ce).length=Q.length:=ab ..;have htq:(Q.map ce).take Q.length=Q.map ce:=b7 (by omega)
  have h200:(Q.length+1)*64≤1099511627776:=by omega
  obtain ⟨b',Q',cp',g1,g2,g3,ih⟩:=Qk hr (p:=p) am r b2 (Q++[a]) none hs2 (fun l hl=>by
   rcases bi.1 hl with h | h
   ·exact hQ l h
   ·rw [cj.1 h]; exact aa) (by omega) (by rw [b8,ez]; omega)
  refine ⟨b',Q',cp',g1,g2,g3,bq ?_ ih⟩;rw [b8,ez,show (Q++[a]).map ce=Q.map ce++[(D.arr 64 .leaf (aq .u8 a))] by rw [cn]; rfl]
  obtain ⟨_,_,_,rfl,_⟩:=hs;obtain ⟨_,_,_,rfl,_⟩:=hs2;generalize ((r+1:Nat):Int)=r1 at *;generalize Q.map ce=QD at *;generalize Q.length=ql at *;simp -implicitDefEqProofs [Z4f_L0,au,hk0,e1,hQD,htq,h200,w4,List.replicate,List.idxOf,List.findIdx,List.findIdx.go]
def Hx (O:ap):Prop:=∀(p:Int) [IsP p] (m:List Int) (b:Blk),Src b→Arr m→∃(Q:List (List Int)) (cp:Option Nat) (b':Blk),O F4f [.ptr 0 [],(.d (.int .i64 p)),.d (D.arr 64 .leaf (aq .u8 m))] [b]=some (.sl 1 [] 0 Q.length cp,[b'],[.sl false (.arr 64 .leaf) (Q.map ce)])∧Src b'∧v6 Q∧Q.length≤1000
theorem a3u (hT:T F4f=some Z4f) (hn:px (den T A) F40) (hr:jr (den T A)):Hx (den T A):=by
 intro p ip m b hs am;obtain ⟨x,b1,e1,hs1,x0,x1⟩:=hn b 5 hs (by omega)
 obtain ⟨r,rfl⟩:∃r:Nat,x=r:=⟨x.toNat,by omega⟩
 obtain ⟨b',Q,cp,hs',hQ,hQl,st⟩:=Qk (O:=den T A) hr (p:=p) am r b1 [] (some 0) hs1 (fun l hl=>by cases hl) (by omega) (by simp; omega)
 rw [show ([]:List (List Int)).length=0 from rfl,show ([]:List (List Int)).map ce=[] from rfl] at st;refine ⟨Q,cp,b',i4 hT rfl ?_,hs',hQ,hQl⟩;obtain ⟨_,_,_,rfl,_⟩:=hs;obtain ⟨_,_,_,rfl,_⟩:=hs1;obtain ⟨_,_,_,rfl,_⟩:=hs';generalize Q.map ce=QD at *;generalize Q.length=ql at *;simp -implicitDefEqProofs [Z4f,Z4f_B,e1,st,List.replicate,List.idxOf,List.findIdx,List.findIdx.go]
end Pe
