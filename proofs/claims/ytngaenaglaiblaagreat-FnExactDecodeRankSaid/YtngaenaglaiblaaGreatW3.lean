/-
  A part of the proof: an evaluator for a small form of the code, its soundness, and contracts of functions over it.
-/
import Derived.IntWalk
import Derived.Carry
import Derived.OpenShut
import GoSem.Core.View
import Derived.Test.YtngaenaglaiblaaGreatW1
import Derived.Test.YtngaenaglaiblaaGreatW2

namespace Pe
open Go
open Go.ChangeMaps (setBlock)
variable {P:Program} {num:Nat→Nat}
def a1l (P:Program) (d:Nat) (o:Oper):Bool:=
 match o.op with
 | .range t (.tmp x)=>x == d&&(match P.underlying t with | some (.map _ _)=>true | _=>false)
 | _=>false
def a91 (d:Nat) (o:Oper):Bool:=
 match o.op with
 | .next (.tmp x) false=>x == d
 | _=>false
def a1s (d:Nat) (o:Oper):Bool:=
 match o.op with
 | .entry (.tmp x)=>x == d
 | _=>false
def Rng.is0 (r:Rng):List Ins:=[⟨some r.d1,.mv r.x,none,[]⟩,⟨some r.it,.fail,none,[]⟩]
def Rng.is1 (r:Rng):List Ins:=[⟨some r.nd,.fail,none,[]⟩,⟨some r.q,.ext (.t r.nd) 0,none,[]⟩]
def Rng.is2 (r:Rng):List Ins:=[⟨some r.ed,.fail,none,[]⟩,⟨some r.k1,.ext (.t r.ed) 0,none,[]⟩,⟨some r.v1,.ext (.t r.ed) 1,none,[]⟩,⟨some r.kd,.mv (.t r.k1),none,[]⟩,⟨some r.vd,.mv (.t r.v1),none,[]⟩]
def Rng.own (r:Rng):List Nat:=[r.nd,r.q,r.ed,r.k1,r.v1,r.it,r.d1]
def Rng.ok (r:Rng):Bool:=r.k1 != r.ed&&r.v1 != r.k1&&r.kd != r.v1&&(!r.own.any (r.ks.contains ·) && !r.own.any (r.ks2.contains ·))
def jb (T:List Nat):Code→Bool
 | .skip | .exit _ | .ret=>true
 | .region _ ops _=>ops.toList.all (p6 T)
 | .seq a b | .cond _ a b=>jb T a&&jb T b
 | .block _ c | .loop c=>jb T c
 | _=>false
def mn (T:List Nat) (c:Code):Bool:=T.isEmpty||jb T c
theorem Vm (c:Code):mn [] c=true:=rfl
theorem tr {T:List Nat} {a b:Code} (h:mn T (.seq a b)=true):mn T a=true∧mn T b=true:=by
 unfold mn at h ⊢; cases T <;> simp_all [jb]
theorem Hr {T:List Nat} {q:Operand} {a b:Code} (h:mn T (.cond q a b)=true):mn T a=true∧mn T b=true:=by
 unfold mn at h ⊢; cases T <;> simp_all [jb]
theorem zu {T:List Nat} {i:Nat} {a:Code} (h:mn T (.block i a)=true):mn T a=true:=by
 unfold mn at h ⊢; cases T <;> simp_all [jb]
theorem Hx {T:List Nat} {a:Code} (h:mn T (.loop a)=true):mn T a=true:=by
 unfold mn at h ⊢; cases T <;> simp_all [jb]
theorem a6p (o:Oper):p6 [] o=true:=by unfold p6; split <;> rfl
theorem tv {T:List Nat} {i:Nat} {ops:Array Oper} {d:Bool} (h:mn T (.region i ops d)=true):ops.toList.all (p6 T)=true:=by
 unfold mn at h;cases T with
 | nil=>exact df.2 fun o _=>a6p o
 | cons t T=>simpa [jb] using h
def Ys (P:Program) (num:Nat→Nat) (N:Nat) (r:Rng) (ops0:Array Oper) (b:Nat) (ops1:Array Oper) (q b':Nat) (ops2:Array Oper) (y:Code):Bool:=
 r.ok&&qp P num ops0 N r.is0 ops0.toList&&qp P num ops1 N r.is1 ops1.toList&&qp P num ops2 N r.is2 ops2.toList&&b == b'&&q == r.q &&
 (ops0[1]?).any (a1l P r.d1)&&(ops1[0]?).any (a91 r.it)&&(ops2[0]?).any (a1s r.it)&&ops1.toList.all (p6 [r.it])&&ops2.toList.all (p6 [r.it])&&jb [r.it] y
def gn (P:Program) (num:Nat→Nat) (N:Nat):Cd→Code→Bool
 | .skip,.skip=>true
 | .region is _,.region _ ops draw=>qp P num ops N is ops.toList&&(if draw then Y1 ops.toList is else true)
 | .seq a b,.seq x y=>gn P num N a x&&gn P num N b y
 | .cond c a b,.cond c' x y=>ck num c c'&&gn P num N a x&&gn P num N b y
 | .block i c,.block j x=>i == j&&gn P num N c x
 | .loop c,.loop x=>gn P num N c x
 | .exit i,.exit j=>i == j
 | .ret,.ret=>true
 | .range r c,.seq (.region _ ops0 false) (.block b (.loop (.seq (.region _ ops1 false) (.seq (.cond (.tmp q) .skip (.exit b')) (.block _ (.seq (.region _ ops2 false) y))))))=>
  Ys P num N r ops0 b ops1 q b' ops2 y&&gn P num N c y
 | _,_=>false
def Out.exit':Out→Exit
 | .normal=>.normal
 | .exit id=>.exit id
 | .ret=>.ret
def Tq (T:List Nat) (num:Nat→Nat) (np:Nat) (Q:Exit→Act→World→Prop) (o:Out) (C:Cx) (φ:Loc) (h:Heap) (s':St) (a:Act):Prop:=
 ∀C' φ' a',C'.num=num→Runs np C C' φ φ' h s'.h→SR C' φ' s' a'.tmps→a'.tmps.size=a.tmps.size→Keep T a a'→Q o.exit' a' C'.w
def Fits (num:Nat→Nat) (np:Nat) (Q:Exit→Act→World→Prop) (o:Out) (C:Cx) (φ:Loc) (h:Heap) (s':St) (a:Act):Prop:=
 ∀C' φ' a',C'.num=num→Runs np C C' φ φ' h s'.h→SR C' φ' s' a'.tmps→a'.tmps.size=a.tmps.size→a'.defers=a.defers→Q o.exit' a' C'.w
theorem Fits.T {num:Nat→Nat} {np:Nat} {Q:Exit→Act→World→Prop} {o:Out} {C:Cx} {φ:Loc} {h:Heap} {s':St} {a:Act} (g:Fits num np Q o C φ h s' a):Tq [] num np Q o C φ h s' a:=
 fun C' φ' a' h1 h2 h3 h4 h5=>g C' φ' a' h1 h2 h3 h4 h5.1
theorem Rl {O:am} {np N:Nat} (hO:km P num O) (hm:P.follows .mixedOrders=true) {T:List Nat} {is:List Ins} {ks:List Nat} {id:Nat} {ops:Array Oper} {draw:Bool} (hok:gn P num N (.region is ks) (.region id ops draw)=true)
 {C:Cx} {φ:Loc} {s s1:St} {a:Act} (hC:C.num=num) (hs:SR C φ s a.tmps) (hN:N≤a.tmps.size) (he:fy O np is s=some s1) {Q:Exit→Act→World→Prop}
 (hT:ops.toList.all (p6 T)=true) (hQ:Tq T num np Q .normal C φ s.h ⟨s1.e.keep ks,ma (s1.e.keep ks) np 0 s1.h⟩ a):(Code.region id ops draw).wp P Q a C.w:=by
 simp only [gn,av] at hok;obtain ⟨hok,hdr⟩:=hok;have hlen:=(jm hok).1
 have hend:∀C' φ' a',C'.num=num→Runs np C C' φ φ' s.h s1.h→SR C' φ' s1 a'.tmps→a'.tmps.size=a.tmps.size→Keep T a a'→Q .normal a' C'.w:=by
  intro C' φ' a' h1 h2 h3 h4 h5;obtain ⟨r1,r2⟩:=Dw np h3 ks;exact hQ C' φ' a' h1 (h2.trans r1) r2 h4 h5
 cases draw with
 | false=>
  refine wp_region ?_;have:=Gd (Q:=Q) hok hO T hT is.length 0 (by omega) C φ s s1 a hC hs hN (by simpa using he) hend
  rw [hlen] at this;rw [List.range_eq_range']
  simpa using this
 | true=>
  simp only [if_true] at hdr;refine wp_region_any hm ?_;obtain ⟨st,k⟩:=Oh (w':={ C.w with drawn:=C.w.drawn+1 }) hs.hr hs.bd ⟨rfl,rfl,rfl,rfl⟩
  have hs':SR { C with w:={ C.w with drawn:=C.w.drawn+1 } } φ s a.tmps:=⟨st.hr,st.bd,fun n v hn=>by
   obtain ⟨u,h1,h2⟩:=hs.env n v hn;exact ⟨u,h1,k v u (by simp) h2⟩⟩
  obtain ⟨L,g1,g2,g3⟩:=a9i he
  have hLl:L.length=ops.size:=by
   have:L.length=is.length:=by rw [←g1]; simp
   rw [this,hlen]; simp
  refine a26 (s0:=s) (s':=s1) hok hdr hO T hT g1 g2 g3 ops.size (Array.replicate ops.size false) (List.range ops.size) { C with w:={ C.w with drawn:=C.w.drawn+1 } } φ s a (by simp) List.pairwise_lt_range (by simp) ?_ ?_ hC hs' hN ?_ ?_
  ·intro j
   rw [pt,Array.getElem?_replicate]
   split <;> simp_all
  ·intro k o hk hkl
   rw [Array.getElem?_replicate] at hkl
   split at hkl <;> simp at hkl
  ·have:(List.range ops.size).map (fun k=>L.getD k t0)=L:=by
    apply ci;intro i;rw [cb]
    by_cases hi:i<ops.size
    ·rw [db hi,bc,ac (by omega)]
     rw [getD_some (ac (by omega))]
    ·rw [bq (by simpa using hi),bq (by omega)]; rfl
   rw [this];exact g3.chain
  ·intro C' φ' a' h1 h2 h3 h4 h5
   exact hend C' φ' a' h1 (Runs.trans ⟨st,k.mono (by simp)⟩ h2) h3 h4 h5
theorem Yr {p:Nat→Prop}:∀{m:Nat},p m→∃m,p m∧∀k,p k→m≤k:=by
 intro m
 induction m using Nat.strongRecOn with
 | _ m ih=>
  intro h
  by_cases hx:∃k,k<m∧p k
  ·obtain ⟨k,hk,hp⟩:=hx
   exact ih k hk hp
  ·exact ⟨m,h,fun k hk=>Nat.le_of_not_lt fun hl=>hx ⟨k,hl,hk⟩⟩
theorem Od {c:Code} {Q:Exit→Act→World→Prop} (R:Nat→Act→World→Prop) (round:∀m a w,R m a w→c.wp P (Exit.then (fun a' w'=>∃m',m'<m∧R m' a' w') Q) a w) {m:Nat} {a:Act} {w:World} (h0:R m a w) :
 (Code.loop c).wp P Q a w:=by
 have hl:∀a w,(∃m,R m a w)→∃m,R m a w∧∀k,R k a w→m≤k:=fun a w ⟨m,h⟩=>Yr (p:=fun m=>R m a w) h
 let μ:Act→World→Nat:=fun a w=>by
  classical
  exact if h:∃m,R m a w then Classical.choose (hl a w h) else 0
 have hμ:∀a w,(∃m,R m a w)→R (μ a w) a w∧∀k,R k a w→μ a w≤k:=by
  intro a w h;have:=dc (hl a w h);simp only [μ,h,dite_true];exact this
 refine wp_loop (fun a w=>∃m,R m a w) μ ⟨m,h0⟩ fun a w hI=>?_
 refine wp_mono (round (μ a w) a w (hμ a w hI).1) fun e a' w' hq=>?_
 cases e with
 | normal=>
  obtain ⟨m',hm',hR⟩:=hq;exact ⟨⟨m',hR⟩,Nat.lt_of_le_of_lt ((hμ a' w' ⟨m',hR⟩).2 m' hR) hm'⟩
 | _=>exact hq
theorem Hl {step:MK×Int→St→Option St} {es:List (MK×Int)} {s s':St} (h:Gs step es s=some s'):RangeTo step es.length es s s':=by
 unfold Gs at h
 split at h
 ·rename_i hx
  obtain rfl:=au h;exact dc hx
 ·cases h
theorem yd {a:Act} {n:Nat} {v:Value} (h:a.tmps[n]? = some v):a.eval (.tmp n)=v:=by
 simp [Act.eval,h]
theorem Q7 {N:Nat} {r:Rng} {c:Cd} {x:Code} (h:gn P num N (.range r c) x=true):∃i0 ops0 b i1 ops1 q b' b2 i2 ops2 y,
 x=.seq (.region i0 ops0 false) (.block b (.loop (.seq (.region i1 ops1 false) (.seq (.cond (.tmp q) .skip (.exit b')) (.block b2 (.seq (.region i2 ops2 false) y))))))∧Ys P num N r ops0 b ops1 q b' ops2 y=true∧gn P num N c y=true:=by
 unfold gn at h
 split at h
 case h_9 e1=>
  cases e1;rw [av] at h;exact ⟨_,_,_,_,_,_,_,_,_,_,_,rfl,h⟩
 all_goals (first | (rename_i e1 _; cases e1; done) | (rename_i e1; cases e1; done) | (cases h; done))
theorem T5 {g:St→Option (Out×St)} {np N:Nat} {y:Code} {r:Rng}
 (hbody:∀(T:List Nat),mn T y=true→∀(C:Cx) (φ:Loc) (s s':St) (a:Act) (o:Out),C.num=num→SR C φ s a.tmps→N≤a.tmps.size→g s=some (o,s')→∀(Q:Exit→Act→World→Prop),Tq T num np Q o C φ s.h s' a→y.wp P Q a C.w)
 {i0 i1 i2 b b' b2 q:Nat} {ops0 ops1 ops2:Array Oper} (hok:Ys P num N r ops0 b ops1 q b' ops2 y=true)
 {T:List Nat} (hT:mn T (.seq (.region i0 ops0 false) (.block b (.loop (.seq (.region i1 ops1 false) (.seq (.cond (.tmp q) .skip (.exit b')) (.block b2 (.seq (.region i2 ops2 false) y)))))))=true)
 {C:Cx} {φ:Loc} {s s':St} {a:Act} (hC:C.num=num) (hs:SR C φ s a.tmps) (hN:N≤a.tmps.size) {j:Nat} {es:List (MK×Int)} (hm:a6v r s=some (j,es))
 (hr:Gs (om r g) es ⟨s.e.keep r.ks,ma (s.e.keep r.ks) np 0 (freeze s.h [j])⟩=some s') {Q:Exit→Act→World→Prop} (hQ:Tq T num np Q .normal C φ s.h s' a) :
 (Code.seq (.region i0 ops0 false) (.block b (.loop (.seq (.region i1 ops1 false) (.seq (.cond (.tmp q) .skip (.exit b')) (.block b2 (.seq (.region i2 ops2 false) y))))))).wp P Q a C.w:=by
 unfold Ys at hok;simp only [av] at hok;obtain ⟨⟨⟨⟨⟨⟨⟨⟨⟨⟨⟨hrok,hi0⟩,hi1⟩,hi2⟩,hbb⟩,hqq⟩,hrg⟩,hnx⟩,hen⟩,hf1⟩,hf2⟩,hfy⟩:=hok;have hbb:b=b':=by simpa using hbb
 have hqq:q=r.q:=by simpa using hqq
 subst hbb; subst hqq;obtain ⟨hT0,hT1⟩:=tr hT;have hT0:=tv hT0;obtain ⟨hTa,hT1⟩:=tr (Hx (zu hT1));have hTa:=tv hTa;obtain ⟨-,hT1⟩:=tr hT1;obtain ⟨hTb,hTy⟩:=tr (zu hT1);have hTb:=tv hTb
 -- names
 unfold Rng.ok Rng.own at hrok;simp only [av,kh,oz,List.any_nil,Bool.or_false,Bool.or_eq_false_iff,List.contains_eq_mem,decide_eq_false_iff_not,bne_iff_ne,ne_eq] at hrok;obtain ⟨⟨⟨hn1,hn2⟩,hn3⟩,⟨k1,k2,k3,k4,k5,k6,k7⟩,⟨m1,m2,m3,m4,m5,m6,m7⟩⟩:=hrok
 -- the map
 unfold a6v at hm
 split at hm
 case h_2=>cases hm
 rename_i j' hxe
 split at hm
 case h_2=>cases hm
 rename_i fr es' hj
 simp only [ab,al] at hm;obtain ⟨rfl,rfl⟩:=hm
 -- the range line
 obtain ⟨o00,ho00,hl00⟩:=Eq hi0 (j:=0) rfl;obtain ⟨o01,ho01,hl01⟩:=Eq hi0 (j:=1) rfl;obtain ⟨d01,n01,g01⟩:=Gv hl01
 have hl0:ops0.size=2:=by
  have:=(jm hi0).1
  simpa [Rng.is0] using this.symm
 have hl1:ops1.size=2:=by
  have:=(jm hi1).1
  simpa [Rng.is1] using this.symm
 have hl2:ops2.size=5:=by
  have:=(jm hi2).1
  simpa [Rng.is2] using this.symm
 have hmemo:∀{ops:Array Oper} {T':List Nat} {i:Nat} {o:Oper},ops.toList.all (p6 T')=true→ops[i]? = some o→p6 T' o=true:=fun h e=>
  df.1 h _ (Array.mem_toList_iff.2 (Array.mem_of_getElem? e))
 refine wp_seq (wp_region ?_);rw [hl0];show wpOps P ops0 _ [0,1] a C.w;rw [wpOps_cons]
 have ev0:gv (fun _ _ _=>none) np s ⟨some r.d1,.mv r.x,none,[]⟩=some ⟨(r.d1,.mp j')::s.e,s.h⟩:=by
  simp [gv,Ins.on,b6,hxe,Op.kill,Env.kill,Env.putO]
 refine t9 (O:=fun _ _ _=>none) (np:=np) (fun f vs bs ans h=>by cases h) hs hN (hC▸hl00) ho00 ev0 fun C1 φ1 u1 rn1 hs1=>?_
 have kp1:Keep T a (a.put o00.dst u1):=Keep.put (hmemo hT0 ho00) a u1;have z1:(a.put o00.dst u1).tmps.size=a.tmps.size:=jx ..;generalize a.put o00.dst u1=a1 at hs1 kp1 z1 ⊢;rw [wpOps_cons];have hC1:C1.num=num:=rn1.st.le.num.trans hC;rw [ho01] at hrg;simp only [Option.any_some] at hrg;unfold a1l at hrg
 split at hrg
 case h_2=>cases hrg
 rename_i t xd hop01
 simp only [av,beq_iff_eq] at hrg;obtain ⟨rfl,hty⟩:=hrg
 split at hty
 case h_2=>cases hty
 rename_i kt et hty'
 clear hty;have hty:=hty';obtain ⟨um,hum,hxm⟩:=hs1.env r.d1 (.mp j') (by simp [Env.get])
 simp only [RX] at hxm;obtain ⟨B,bm,off,qq,hB,hφ,-,rfl⟩:=hxm;obtain rfl:B=_:=au (hB.symm.trans hj);have hrb:=hs1.hr.blk j' _ hj;simp only [RB] at hrb;obtain ⟨b1,o1,e1,hI1,arr,clock,hmp,hes,hbc,hnd⟩:=hrb;obtain ⟨rfl,rfl⟩:bm=b1∧off=o1:=by simpa using hφ.symm.trans e1
 have hrun1:=run_range_map (P:=P) C1.w t kt et bm arr clock hty hmp;refine Bh ho01 g01 (w':=C1.w.alloc (.mapIter (some bm) clock #[] clock)) (u:=.pointer (some ⟨C1.w.heap.size,0,none⟩)) (by simp [execOp,hop01,yd hum,hrun1]) ?_
 simp only [wpOps,d01]
 -- behind the range line
 have hbmlt:bm<C1.w.heap.size:=(ch.1 hmp).1;have hallo:∀b,b<C1.w.heap.size→(C1.w.alloc (.mapIter (some bm) clock #[] clock)).heap[b]? = C1.w.heap[b]?:=fun b hb=>heap_alloc_old _ _ hb
 obtain ⟨rn2,hs2⟩:=Of rn1 hs1 (r:=C1.w.heap.size) rn1.st.size (fun h=>absurd (OwnB.lt hs1.hr h) (by omega)) (fun h=>absurd (hs1.bd _ h) (by omega))
  (w':=C1.w.alloc (.mapIter (some bm) clock #[] clock)) (fun b hb _=>hallo b hb) (by simp) rfl rfl rfl (fun _ _ _ h=>by simp at h)
 obtain ⟨C3,st3,kk3,le3,w3,num3⟩:=ox (s:=⟨s.e,s.h⟩) (C:={ C1 with w:=C1.w.alloc (.mapIter (some bm) clock #[] clock) }) (φ:=φ1) hs2.hr hs2.bd (fz:=true) (is:=[j']) (h':=freeze s.h [j']) (by simp [freezeIf])
 have rn3:Runs np C C3 φ φ1 s.h (freeze s.h [j']):=rn2.trans ⟨st3,kk3.mono (by simp)⟩
 have hC3:C3.num=num:=num3.trans hC1
 have hjf:(freeze s.h [j'])[j']? = some (.mp true es'):=by
  rw [jo]; simp [hj,Blk.freeze]
 have hrb3:=st3.hr.blk j' _ hjf;simp only [RB] at hrb3;obtain ⟨b3,o3,e3,hI3,-⟩:=hrb3;obtain ⟨rfl,rfl⟩:bm=b3∧off=o3:=by simpa using hφ.symm.trans e3
 have hIb:C3.I bm:=hI3.2 trivial;have hw3:C3.w=C1.w.alloc (.mapIter (some bm) clock #[] clock):=w3
 -- the loop's pointer
 generalize hR:C1.w.heap.size=R at *;have hasz:(C1.w.alloc (.mapIter (some bm) clock #[] clock)).heap.size=R+1:=by rw [←hR]; simp
 have hRsz:R<C3.w.heap.size:=by rw [hw3]; simp [hR]
 have hRI:¬ C3.I R:=by
  intro h;rcases st3.fresh R h with h | h | h
  ·have:=hs1.bd _ h; omega
  ·
   have h':(C1.w.alloc (.mapIter (some bm) clock #[] clock)).heap.size≤R:=h;rw [hasz] at h';omega
  ·have:=OwnB.lt hs1.hr h; omega
 have hRO:¬ OwnB φ1 (freeze s.h [j']) R:=by
  intro h;rcases st3.own R h with h | h
  ·have:=OwnB.lt hs1.hr h; omega
  ·
   have h':(C1.w.alloc (.mapIter (some bm) clock #[] clock)).heap.size≤R:=h;rw [hasz] at h';omega
 have hRm:C3.w.heap[R]? = some (.mapIter (some bm) clock #[] clock):=by rw [hw3,←hR]; exact heap_alloc_new _ _
 have hbm3:C3.w.heap[bm]? = some (.map arr clock):=by rw [hw3,hallo bm (hR▸hbmlt)]; exact hmp
 have hitl:r.it<a1.tmps.size:=by rw [z1]; exact ep n01 hN
 have hs30:SR C3 φ1 ⟨s.e.keep r.ks,freeze s.h [j']⟩ (a1.put (some r.it) (.pointer (some ⟨R,0,none⟩))).tmps:=by
  refine ⟨st3.hr,st3.bd,fun n v hn=>?_⟩
  have h1:=xy hn;have h2:=yl hn;have hne1:n≠r.it:=by rintro rfl; exact k6 h2
  have hne2:r.d1≠n:=by rintro rfl; exact k7 h2
  obtain ⟨u,h3,h4⟩:=hs2.env n v (by simp only [Env.get,if_neg hne2]; exact h1)
  refine ⟨u,?_,kk3 v u (by simp) h4⟩
  rw [uw hitl,if_neg hne1]; exact h3
 obtain ⟨rn4',hs3⟩:=a8h np hs30
 replace rn3:Runs np C C3 φ φ1 s.h (ma (s.e.keep r.ks) np 0 (freeze s.h [j'])):=rn3.trans rn4'
 replace hRO:¬ OwnB φ1 (ma (s.e.keep r.ks) np 0 (freeze s.h [j'])) R:=by
  intro h;rcases rn4'.st.own R h with h | h
  ·exact hRO h
  ·omega
 have kp3:Keep T a (a1.put (some r.it) (.pointer (some ⟨R,0,none⟩))):=by
  refine kp1.trans ?_;have:=Keep.put (hmemo hT0 ho01) a1 (.pointer (some ⟨R,0,none⟩))
  rwa [d01] at this
 have z3:(a1.put (some r.it) (.pointer (some ⟨R,0,none⟩))).tmps.size=a.tmps.size:=(jx ..).trans z1;have hit3:(a1.put (some r.it) (.pointer (some ⟨R,0,none⟩))).tmps[r.it]? = some (.pointer (some ⟨R,0,none⟩)):=by rw [uw hitl,if_pos rfl]
 generalize a1.put (some r.it) (.pointer (some ⟨R,0,none⟩))=a3 at hs3 kp3 z3 hit3 ⊢;have hgo:=Hl hr;have hRC:C.w.heap.size≤R:=by rw [←hR]; exact rn1.st.size
 rw [show C1.w.alloc (.mapIter (some bm) clock #[] clock)=C3.w from hw3.symm];show (Code.block b _).wp P Q a3 C3.w
 refine wp_block (Od (fun m a4 w=>∃C4 φ4 s4 rem seen c0,C4.w=w∧C4.num=num∧Runs np C C4 φ φ4 s.h s4.h∧SR C4 φ4 s4 a4.tmps∧a4.tmps.size=a.tmps.size∧Keep T a a4 ∧
  a4.tmps[r.it]? = some (.pointer (some ⟨R,0,none⟩))∧w.heap[R]? = some (.mapIter (some bm) clock seen c0)∧clock≤c0∧w.heap[bm]? = some (.map arr clock)∧C4.I bm∧¬ C4.I R∧¬ OwnB φ4 s4.h R ∧
  (leftOf arr seen).toList.map (fun e=>(e.key,e.val))=rem.map (fun q=>(q.1.v,Value.int .i64 q.2))∧RangeTo (om r g) m rem s4 s'∧∀n v,s4.e.get n=some v→n∈r.ks) ?_ (m:=es'.length)
  ⟨C3,φ1,_,es',#[],clock,rfl,hC3,rn3,hs3,z3,kp3,hit3,hRm,ba _,hbm3,hIb,hRI,hRO,?_,hgo,fun n v h=>yl h⟩)
 rotate_left
 ·rw [←hes]
  congr 1
  simp [leftOf]
 rintro m a4 w ⟨C4,φ4,s4,rem,seen,c0,rfl,k4,rn4,hs4,z4,kp4,hit4,hR4,hc0,hb4,hI4,hRI4,hRO4,hrem,hto,hkey⟩
 obtain ⟨o10,ho10,hl10⟩:=Eq hi1 (j:=0) rfl;obtain ⟨d10,n10,g10⟩:=Gv hl10;obtain ⟨o11,ho11,hl11⟩:=Eq hi1 (j:=1) rfl;rw [ho10] at hnx;simp only [Option.any_some] at hnx;unfold a91 at hnx
 split at hnx
 case h_2=>cases hnx
 rename_i xd hop10
 have hxd:xd=r.it:=by simpa using hnx
 subst hxd;have hf10:=wz (hmemo hf1 ho10) (hmemo hTa ho10);have hf11:=wz (hmemo hf1 ho11) (hmemo hTa ho11);refine wp_seq (wp_region ?_);rw [hl1];show wpOps P ops1 _ [0,1] a4 C4.w;rw [wpOps_cons];have hndl:r.nd<a4.tmps.size:=by rw [z4]; exact ep n10 hN
 have hRl4:R<C4.w.heap.size:=(ch.1 hR4).1;rcases run_next_at (P:=P) C4.w o10.type R bm clock c0 seen arr clock hR4 hb4 hbc hc0 with ⟨hz,hrun⟩ | ⟨e,he,w1,hw1,hrun⟩
 ·-- nothing is left
  have hnil:rem=[]:=by
   have:((leftOf arr seen).toList.map (fun e=>(e.key,e.val))).length=0:=by simpa using hz
   rw [hrem] at this
   simpa using this
  subst hnil
  have hss:m=0∧s4=s':=by
   cases m with
   | zero=>exact ⟨rfl,hto.2⟩
   | succ m=>have:=hto.1; simp at this
  obtain ⟨-,rfl⟩:=hss;refine Bh ho10 g10 (w':=C4.w) (u:=.tuple #[.bool false]) (by simp [execOp,hop10,yd hit4,hrun]) ?_
  rw [d10]
  have hs5:SR C4 φ4 ⟨(r.nd,.d (.tup [.bool false]))::s4.e,s4.h⟩ (a4.put (some r.nd) (.tuple #[.bool false])).tmps:=by
   refine ⟨hs4.hr,hs4.bd,fun n v hn=>?_⟩
   rw [uw hndl];simp only [Env.get] at hn
   by_cases h:r.nd=n
   ·subst h
    simp only [if_true,ab] at hn;subst hn;refine ⟨_,if_pos rfl,?_⟩;simp only [RX,RV,RVs];exact ⟨#[.bool false],rfl,.bool false,[],rfl,rfl,by simp [RD,Value.cells],rfl⟩
   ·rw [if_neg h] at hn
    rw [if_neg (f9 h)];exact hs4.env n v hn
  have kp5:=kp4.trans (d10▸Keep.put (hmemo hTa ho10) a4 (.tuple #[.bool false]));have z5:(a4.put (some r.nd) (.tuple #[.bool false])).tmps.size=a.tmps.size:=(jx ..).trans z4;generalize a4.put (some r.nd) (.tuple #[.bool false])=a5 at hs5 kp5 z5 ⊢;rw [wpOps_cons]
  have ev1:gv (fun _ _ _=>none) np ⟨(r.nd,.d (.tup [.bool false]))::s4.e,s4.h⟩ ⟨some r.q,.ext (.t r.nd) 0,none,[]⟩=some ⟨(r.q,.d (.bool false))::(r.nd,.d (.tup [.bool false]))::s4.e,s4.h⟩:=by
   simp [gv,Ins.on,b6,Env.arg,Env.get,Op.kill,Env.kill,Env.putO]
  refine t9 (O:=fun _ _ _=>none) (np:=np) (fun f vs bs ans h=>by cases h) hs5 (by rw [z5]; exact hN) (k4▸hl11) ho11 ev1 fun C6 φ6 u6 rn6 hs6=>?_
  have kp6:=kp5.trans (Keep.put (hmemo hTa ho11) a5 u6);have z6:(a5.put o11.dst u6).tmps.size=a.tmps.size:=(jx ..).trans z5;generalize a5.put o11.dst u6=a6 at hs6 kp6 z6 ⊢;simp only [wpOps];obtain ⟨uq,huq,hxq⟩:=hs6.env r.q (.d (.bool false)) (by simp [Env.get])
  have hbq:=ze (s:=⟨[],s4.h⟩) hxq;subst hbq;refine wp_seq (wp_cond_false (yd huq) (wp_exit ?_));simp only [Exit.then,Exit.inBlock,if_true];refine hQ C6 φ6 a6 (rn6.st.le.num.trans k4) (rn4.trans rn6) ?_ z6 kp6;refine hs6.sub fun n v hn=>⟨?_,rfl⟩
  have hmem:=hkey n v hn;have hne1:r.nd≠n:=by rintro rfl; exact k1 hmem
  have hne2:r.q≠n:=by rintro rfl; exact k2 hmem
  simp only [Env.get,if_neg hne1,if_neg hne2];exact hn
 ·-- one entry
  obtain ⟨l,rr,hlr⟩:=List.append_of_mem he
  have hspl:∃rl k v rr',rem=rl++(k,v)::rr'∧l.map (fun e=>(e.key,e.val))=rl.map (fun q=>(q.1.v,Value.int .i64 q.2))∧e.key=k.v∧e.val=.int .i64 v∧rr.map (fun e=>(e.key,e.val))=rr'.map (fun q=>(q.1.v,Value.int .i64 q.2)):=by
   rw [hlr,cj,gq] at hrem;obtain ⟨rl,rt,e1,e2,e3⟩:=List.append_eq_map_iff.1 hrem;obtain ⟨q,rr',e4,e5,e6⟩:=List.map_eq_cons_iff.1 e3;simp only [al] at e5;exact ⟨rl,q.1,q.2,rr',by rw [e1,e4],e2.symm,e5.1.symm,e5.2.symm,e6.symm⟩
  obtain ⟨rl,k,v,rr',rfl,hl',hek,hev,hrr'⟩:=hspl;cases m with
  | zero=>exact absurd hto.1 (by simp)
  | succ m=>
  obtain ⟨-,hto⟩:=hto;obtain ⟨s5,hst,hto⟩:=hto rl (k,v) rr' rfl;unfold om at hst;obtain ⟨⟨og,s6⟩,hg,hst⟩:=aa.1 hst;cases og with
  | exit id=>cases hst
  | ret=>cases hst
  | normal=>
  obtain rfl:=au hst
  -- the iterator steps
  generalize hw5:setBlock w1 R (.mapIter (some bm) clock (seen.push e.born) clock)=w5 at hrun
  have hw5R:w5.heap[R]? = some (.mapIter (some bm) clock (seen.push e.born) clock):=by
   rw [←hw5];have:R<w1.heap.size:=by rcases hw1 with rfl | rfl <;> exact hRl4
   simp [setBlock,this]
  have hw5o:∀b,b≠R→w5.heap[b]? = C4.w.heap[b]?:=by
   intro b hb;rw [←hw5];simp only [setBlock,fu,if_neg (f9 hb)];rcases hw1 with rfl | rfl <;> rfl
  have hw5s:w5.heap.size=C4.w.heap.size:=by
   rw [←hw5]; simp only [setBlock,Array.size_setIfInBounds];rcases hw1 with rfl | rfl <;> rfl
  have hw5q:w5.os=C4.w.os∧w5.output=C4.w.output∧w5.tape=C4.w.tape:=by
   rw [←hw5];rcases hw1 with rfl | rfl <;> exact ⟨rfl,rfl,rfl⟩
  have hbmR:bm≠R:=by rintro rfl; rw [hR4] at hb4; cases hb4
  obtain ⟨rn5,hs5⟩:=Of rn4 hs4 hRC hRO4 hRI4 (w':=w5) (fun b _ hb=>hw5o b hb) (Nat.le_of_eq hw5s.symm) hw5q.1 hw5q.2.1 hw5q.2.2 (fun a el fz h=>by rw [hR4] at h; cases h)
  have hb5:w5.heap[bm]? = some (.map arr clock):=(hw5o bm hbmR).trans hb4;refine Bh ho10 g10 (w':=w5) (u:=.tuple #[.bool true,e.key,e.val]) (by simp [execOp,hop10,yd hit4,hrun]) ?_
  rw [d10];have hkd:∀Cx,RD Cx k.d k.v.cells.toList:=by intro Cx; cases k <;> simp [MK.d,MK.v,RD,Value.cells]
  have hka:Pe.isAgg k.v=k.d.isAgg:=by cases k <;> rfl
  have hs7:SR { C4 with w:=w5 } φ4 ⟨(r.nd,.d (.tup [.bool true,k.d,.int .i64 v]))::s4.e,s4.h⟩ (a4.put (some r.nd) (.tuple #[.bool true,e.key,e.val])).tmps:=by
   refine ⟨hs5.hr,hs5.bd,fun n x hn=>?_⟩
   rw [uw hndl];simp only [Env.get] at hn
   by_cases h:r.nd=n
   ·subst h
    simp only [if_true,ab] at hn;subst hn;refine ⟨_,if_pos rfl,?_⟩;simp only [RX,RV,RVs];exact ⟨#[.bool true,e.key,e.val],rfl,.bool true,[e.key,e.val],rfl,rfl,by simp [RD,Value.cells],e.key,[e.val],rfl,hek▸hka,hek▸hkd _,e.val,[],rfl,by rw [hev]; rfl,by rw [hev]; simp [RD,Value.cells],rfl⟩
   ·rw [if_neg h] at hn
    rw [if_neg (f9 h)];exact hs5.env n x hn
  have kq7:Keep (r.it::T) a4 (a4.put (some r.nd) (.tuple #[.bool true,e.key,e.val])):=d10▸Keep.put hf10 a4 (.tuple #[.bool true,e.key,e.val]);have z7:(a4.put (some r.nd) (.tuple #[.bool true,e.key,e.val])).tmps.size=a.tmps.size:=(jx ..).trans z4;generalize a4.put (some r.nd) (.tuple #[.bool true,e.key,e.val])=a7 at hs7 kq7 z7 ⊢;rw [wpOps_cons]
  have ev1:gv (fun _ _ _=>none) np ⟨(r.nd,.d (.tup [.bool true,k.d,.int .i64 v]))::s4.e,s4.h⟩ ⟨some r.q,.ext (.t r.nd) 0,none,[]⟩=some ⟨(r.q,.d (.bool true))::(r.nd,.d (.tup [.bool true,k.d,.int .i64 v]))::s4.e,s4.h⟩:=by
   simp [gv,Ins.on,b6,Env.arg,Env.get,Op.kill,Env.kill,Env.putO]
  refine t9 (O:=fun _ _ _=>none) (np:=np) (C:={ C4 with w:=w5 }) (fun f vs bs ans h=>by cases h) hs7 (by rw [z7]; exact hN) (k4▸hl11) ho11 ev1 fun C8 φ8 u8 rn8 hs8=>?_
  have kq8:=kq7.trans (Keep.put hf11 a7 u8);have z8:(a7.put o11.dst u8).tmps.size=a.tmps.size:=(jx ..).trans z7;generalize a7.put o11.dst u8=a8 at hs8 kq8 z8 ⊢;simp only [wpOps];have k8:C8.num=num:=rn8.st.le.num.trans k4;obtain ⟨uq,huq,hxq⟩:=hs8.env r.q (.d (.bool true)) (by simp [Env.get])
  have hbq:=ze (s:=⟨[],s4.h⟩) hxq;subst hbq;refine wp_seq (wp_cond_true (yd huq) (wp_skip ?_));show (Code.block b2 _).wp P _ a8 C8.w;refine wp_block (wp_seq (wp_region ?_))
  -- what the body begins with
  obtain ⟨o20,ho20,hl20⟩:=Eq hi2 (j:=0) rfl;obtain ⟨d20,n20,g20⟩:=Gv hl20;rw [ho20] at hen;simp only [Option.any_some] at hen;unfold a1s at hen
  split at hen
  case h_2=>cases hen
  rename_i xd hop20
  have hxd:xd=r.it:=by simpa using hen
  subst hxd;have hall2:ops2.toList.all (p6 (r.it::T))=true:=df.2 fun o ho=>wz (df.1 hf2 o ho) (df.1 hTb o ho)
  have hit8:a8.tmps[r.it]? = some (.pointer (some ⟨R,0,none⟩)):=(kq8.2 r.it (by simp)).trans hit4
  have hRl5:R<w5.heap.size:=by rw [hw5s]; exact hRl4
  have hRO8:¬ OwnB φ8 s4.h R:=by
   intro h;rcases rn8.st.own R h with h | h
   ·exact hRO4 h
   ·have h':w5.heap.size≤R:=h
    omega
  have hRI8:¬ C8.I R:=by
   intro h;rcases rn8.st.fresh R h with h | h | h
   ·exact hRI4 h
   ·have h':w5.heap.size≤R:=h
    omega
   ·exact hRO4 h
  have hR8:C8.w.heap[R]? = some (.mapIter (some bm) clock (seen.push e.born) clock):=(rn8.st.kept R hRl5 hRO4).trans hw5R;have hb8:C8.w.heap[bm]? = some (.map arr clock):=(rn8.st.le.w bm hI4).trans hb5;have hRl8:R<C8.w.heap.size:=(ch.1 hR8).1
  have hearr:e∈arr.toList:=by
   unfold leftOf at he;simp at he
   simpa using he.1
  have hrun2:=run_entry_at (P:=P) C8.w R bm clock seen arr clock e hR8 hb8 hearr hnd;rw [hl2];show wpOps P ops2 _ (0::List.range' 1 4) a8 C8.w;rw [wpOps_cons];refine Bh ho20 g20 (w':=C8.w) (u:=.tuple #[e.key,e.val]) (by simp [execOp,hop20,yd hit8,hrun2]) ?_
  rw [d20];have hedl:r.ed<a8.tmps.size:=by rw [z8]; exact ep n20 hN
  have hs9:SR C8 φ8 ⟨(r.ed,.d (.tup [k.d,.int .i64 v]))::(r.q,.d (.bool true))::(r.nd,.d (.tup [.bool true,k.d,.int .i64 v]))::s4.e,s4.h⟩ (a8.put (some r.ed) (.tuple #[e.key,e.val])).tmps:=by
   refine ⟨hs8.hr,hs8.bd,fun n x hn=>?_⟩
   rw [uw hedl];simp only [Env.get] at hn
   by_cases h:r.ed=n
   ·subst h
    simp only [if_true,ab] at hn;subst hn;refine ⟨_,if_pos rfl,?_⟩;simp only [RX,RV,RVs];exact ⟨#[e.key,e.val],rfl,e.key,[e.val],rfl,hek▸hka,hek▸hkd _,e.val,[],rfl,by rw [hev]; rfl,by rw [hev]; simp [RD,Value.cells],rfl⟩
   ·rw [if_neg h] at hn
    rw [if_neg (f9 h)];exact hs8.env n x (by simpa only [Env.get] using hn)
  have kq9:Keep (r.it::T) a4 (a8.put (some r.ed) (.tuple #[e.key,e.val])):=kq8.trans (d20▸Keep.put (hmemo hall2 ho20) a8 (.tuple #[e.key,e.val]));have z9:(a8.put (some r.ed) (.tuple #[e.key,e.val])).tmps.size=a.tmps.size:=(jx ..).trans z8;generalize a8.put (some r.ed) (.tuple #[e.key,e.val])=a9 at hs9 kq9 z9 ⊢
  have ev2:fy (fun _ _ _=>none) np (r.is2.drop 1) ⟨(r.ed,.d (.tup [k.d,.int .i64 v]))::(r.q,.d (.bool true))::(r.nd,.d (.tup [.bool true,k.d,.int .i64 v]))::s4.e,s4.h⟩ =
   some ⟨(r.vd,.d (.int .i64 v))::(r.kd,.d k.d)::(r.v1,.d (.int .i64 v))::(r.k1,.d k.d)::(r.ed,.d (.tup [k.d,.int .i64 v]))::(r.q,.d (.bool true))::(r.nd,.d (.tup [.bool true,k.d,.int .i64 v]))::s4.e,s4.h⟩:=by
   simp [Rng.is2,fy,n8,Ins.side,gv,Ins.on,b6,Env.arg,Env.get,Op.kill,Env.kill,Env.putO,hn1,hn2,hn3]
  refine Gd (O:=fun _ _ _=>none) hi2 (fun f vs bs ans h=>by cases h) (r.it::T) hall2 4 1 rfl C8 φ8 _ _ a9 k8 hs9 (by rw [z9]; exact hN) ev2 fun C10 φ10 a10 k10 rn10 hs10 z10 kq10=>?_
  have hsb:SR C10 φ10 ⟨Env.keep ((r.vd,.d (.int .i64 v))::(r.kd,.d k.d)::s4.e) r.ks2,s4.h⟩ a10.tmps:=by
   refine hs10.sub fun n x hn=>⟨?_,rfl⟩
   have h1:=xy hn;have h2:=yl hn;have e1:r.nd≠n:=by rintro rfl; exact m1 h2
   have e2:r.q≠n:=by rintro rfl; exact m2 h2
   have e3:r.ed≠n:=by rintro rfl; exact m3 h2
   have e4:r.k1≠n:=by rintro rfl; exact m4 h2
   have e5:r.v1≠n:=by rintro rfl; exact m5 h2
   simp only [Env.get] at h1 ⊢;simp only [if_neg e1,if_neg e2,if_neg e3,if_neg e4,if_neg e5];exact h1
  have kq11:Keep (r.it::T) a4 a10:=kq9.trans kq10;have z11:a10.tmps.size=a.tmps.size:=z10.trans z9;show y.wp P _ a10 C10.w
  have hyT:mn (r.it::T) y=true:=by
   unfold mn at hTy ⊢
   have key:∀c:Code,jb [r.it] c=true→jb T c=true→jb (r.it::T) c=true:=by
    intro c
    induction c with
    | region i ops d=>
     intro h1 h2;simp only [jb] at h1 h2 ⊢;exact df.2 fun o ho=>wz (df.1 h1 o ho) (df.1 h2 o ho)
    | seq a b iha ihb=>intro h1 h2; simp only [jb,av] at h1 h2 ⊢; exact ⟨iha h1.1 h2.1,ihb h1.2 h2.2⟩
    | cond q a b iha ihb=>intro h1 h2; simp only [jb,av] at h1 h2 ⊢; exact ⟨iha h1.1 h2.1,ihb h1.2 h2.2⟩
    | block i a iha=>intro h1 h2; simp only [jb] at h1 h2 ⊢; exact iha h1 h2
    | loop a iha=>intro h1 h2; simp only [jb] at h1 h2 ⊢; exact iha h1 h2
    | skip=>intro _ _; rfl
    | exit _=>intro _ _; rfl
    | ret=>intro _ _; rfl
    | _=>intro h1 h2; simp [jb] at h1
   simp only [Bool.or_eq_true] at hTy ⊢;right;rcases hTy with h | h
   ·cases T with
    | nil=>exact hfy
    | cons=>cases h
   ·exact key y hfy h
  have rn11:Runs np C C10 φ φ10 s.h s4.h:=(rn5.trans rn8).trans rn10
  have hRO10:¬ OwnB φ10 s4.h R:=by
   intro h;rcases rn10.st.own R h with h | h
   ·exact hRO8 h
   ·omega
  have hRI10:¬ C10.I R:=by
   intro h;rcases rn10.st.fresh R h with h | h | h
   ·exact hRI8 h
   ·omega
   ·exact hRO8 h
  have hR10:=(rn10.st.kept R hRl8 hRO8).trans hR8;have hI10:C10.I bm:=rn10.st.le.I bm (rn8.st.le.I bm hI4);have hb10:=(rn10.st.le.w bm (rn8.st.le.I bm hI4)).trans hb8;have hRl10:R<C10.w.heap.size:=(ch.1 hR10).1;refine hbody (r.it::T) hyT C10 φ10 _ s6 a10 .normal k10 hsb (by rw [z11]; exact hN) hg _ fun C12 φ12 a12 k12 rn12 hs12 z12 kq12=>?_
  simp only [Out.exit',Exit.inBlock,Exit.then]
  have hRO12:¬ OwnB φ12 s6.h R:=by
   intro h;rcases rn12.st.own R h with h | h
   ·exact hRO10 h
   ·omega
  have hRI12:¬ C12.I R:=by
   intro h;rcases rn12.st.fresh R h with h | h | h
   ·exact hRI10 h
   ·omega
   ·exact hRO10 h
  refine ⟨m,Nat.lt_succ_self m,C12,φ12,⟨s6.e.keep r.ks,s6.h⟩,rl++rr',seen.push e.born,clock,rfl,k12,rn11.trans rn12,hs12.sub fun n x hn=>⟨xy hn,rfl⟩,z12.trans z11,kp4.trans ((kq11.trans kq12).sub fun t ht=>ka _ ht),((kq11.trans kq12).2 r.it (by simp)).trans hit4,(rn12.st.kept R hRl10 hRO10).trans hR10,ba _,
   (rn12.st.le.w bm hI10).trans hb10,rn12.st.le.I bm hI10,hRI12,hRO12,?_,hto,fun n x h=>yl h⟩
  rw [a29 hnd hlr,cj,cj,hl',hrr']
theorem Ug {O:am} {np N:Nat} (hO:km P num O) (hm:P.follows .mixedOrders=true) (n:Nat):∀(c:Cd) (x:Code),gn P num N c x=true→∀(T:List Nat),mn T x=true→∀(C:Cx) (φ:Loc) (s s':St) (a:Act) (o:Out),C.num=num→SR C φ s a.tmps→N≤a.tmps.size →
 dm O np n c s=some (o,s')→∀(Q:Exit→Act→World→Prop),Tq T num np Q o C φ s.h s' a→x.wp P Q a C.w:=by
 intro c
 induction c with
 | skip=>
  intro x hok T hT C φ s s' a o hC hs hN he Q hQ;cases x <;> simp only [gn,b5] at hok
  simp only [dm,ab,al] at he;obtain ⟨rfl,rfl⟩:=he;exact wp_skip (hQ C φ a hC (.refl np hs.hr hs.bd) hs rfl (.refl T a))
 | ret=>
  intro x hok T hT C φ s s' a o hC hs hN he Q hQ;cases x <;> simp only [gn,b5] at hok
  simp only [dm,ab,al] at he;obtain ⟨rfl,rfl⟩:=he;exact wp_ret (hQ C φ a hC (.refl np hs.hr hs.bd) hs rfl (.refl T a))
 | exit id=>
  intro x hok T hT C φ s s' a o hC hs hN he Q hQ;cases x <;> simp only [gn,b5] at hok
  rename_i j
  have:id=j:=by simpa using hok
  subst this;simp only [dm,ab,al] at he;obtain ⟨rfl,rfl⟩:=he;exact wp_exit (hQ C φ a hC (.refl np hs.hr hs.bd) hs rfl (.refl T a))
 | region is ks=>
  intro x hok T hT C φ s s' a o hC hs hN he Q hQ;cases x <;> simp only [gn,b5] at hok
  simp only [dm] at he;obtain ⟨s1,h1,e⟩:=ae.1 he;simp only [al] at e;obtain ⟨rfl,rfl⟩:=e;exact Rl hO hm (by simpa only [gn] using hok) hC hs hN h1 (tv hT) hQ
 | seq c d ihc ihd=>
  intro x hok T hT C φ s s' a o hC hs hN he Q hQ;cases x <;> simp only [gn,b5,av] at hok
  simp only [dm] at he;obtain ⟨⟨o1,s1⟩,h1,he⟩:=aa.1 he;refine wp_seq (ihc _ hok.1 T (tr hT).1 C φ s s1 a o1 hC hs hN h1 _ ?_);intro C1 φ1 a1 k1 r1 hs1 z1 d1;cases o1 with
  | normal=>
   simp only at he;refine ihd _ hok.2 T (tr hT).2 C1 φ1 s1 s' a1 o k1 hs1 (by rw [z1]; exact hN) he Q ?_
   intro C2 φ2 a2 k2 r2 hs2 z2 d2;exact hQ C2 φ2 a2 k2 (r1.trans r2) hs2 (z2.trans z1) (d1.trans d2)
  | exit id=>
   simp only [ab,al] at he;obtain ⟨rfl,rfl⟩:=he;exact hQ C1 φ1 a1 k1 r1 hs1 z1 d1
  | ret=>
   simp only [ab,al] at he;obtain ⟨rfl,rfl⟩:=he;exact hQ C1 φ1 a1 k1 r1 hs1 z1 d1
 | cond q c d ihc ihd=>
  intro x hok T hT C φ s s' a o hC hs hN he Q hQ;cases x <;> simp only [gn,b5,av] at hok
  simp only [dm] at he
  split at he
  ·rename_i t ht
   have hb:=ze (c6 hs (hC▸hok.1.1) ht);cases t with
   | true=>exact wp_cond_true hb (ihc _ hok.1.2 T (Hr hT).1 C φ s s' a o hC hs hN (by simpa using he) Q hQ)
   | false=>exact wp_cond_false hb (ihd _ hok.2 T (Hr hT).2 C φ s s' a o hC hs hN (by simpa using he) Q hQ)
  ·cases he
 | block id c ihc=>
  intro x hok T hT C φ s s' a o hC hs hN he Q hQ;cases x <;> simp only [gn,b5,av] at hok
  rename_i j d
  obtain ⟨hij,hok⟩:=hok;have:id=j:=by simpa using hij
  subst this;simp only [dm] at he;obtain ⟨⟨o1,s1⟩,h1,he⟩:=ae.1 he;refine wp_block (ihc _ hok T (zu hT) C φ s s1 a o1 hC hs hN h1 _ ?_);intro C1 φ1 a1 k1 r1 hs1 z1 d1;cases o1 with
  | normal=>
   simp only [al] at he;obtain ⟨rfl,rfl⟩:=he;exact hQ C1 φ1 a1 k1 r1 hs1 z1 d1
  | exit i=>
   simp only at he;simp only [Out.exit',Exit.inBlock]
   split at he
   ·rename_i hi
    rw [if_pos hi];simp only [al] at he;obtain ⟨rfl,rfl⟩:=he;exact hQ C1 φ1 a1 k1 r1 hs1 z1 d1
   ·rename_i hi
    rw [if_neg hi];simp only [al] at he;obtain ⟨rfl,rfl⟩:=he;exact hQ C1 φ1 a1 k1 r1 hs1 z1 d1
  | ret=>
   simp only [al] at he;obtain ⟨rfl,rfl⟩:=he;exact hQ C1 φ1 a1 k1 r1 hs1 z1 d1
 | loop c ihc=>
  intro x hok T hT C φ s s' a o hC hs hN he Q hQ;cases x <;> simp only [gn,b5] at hok
  rename_i d
  simp only [dm] at he;refine Od (fun m a1 w=>∃C1 φ1 s1,C1.w=w∧C1.num=num∧Runs np C C1 φ φ1 s.h s1.h∧SR C1 φ1 s1 a1.tmps∧a1.tmps.size=a.tmps.size∧Keep T a a1∧zm (dm O np n c) m s1=some (o,s')) ?_ (m:=n) ⟨C,φ,s,rfl,hC,.refl np hs.hr hs.bd,hs,rfl,.refl T a,he⟩
  rintro m a1 w ⟨C1,φ1,s1,rfl,k1,r1,hs1,z1,d1,hit⟩
  cases m with
  | zero=>simp [zm] at hit
  | succ m=>
   simp only [zm] at hit;obtain ⟨⟨o2,s2⟩,h2,hit⟩:=aa.1 hit;refine ihc _ hok T (Hx hT) C1 φ1 s1 s2 a1 o2 k1 hs1 (by rw [z1]; exact hN) h2 _ ?_
   intro C2 φ2 a2 k2 r2 hs2 z2 d2;cases o2 with
   | normal=>exact ⟨m,Nat.lt_succ_self m,C2,φ2,s2,rfl,k2,r1.trans r2,hs2,z2.trans z1,d1.trans d2,hit⟩
   | exit id=>
    simp only [ab,al] at hit;obtain ⟨rfl,rfl⟩:=hit;exact hQ C2 φ2 a2 k2 (r1.trans r2) hs2 (z2.trans z1) (d1.trans d2)
   | ret=>
    simp only [ab,al] at hit;obtain ⟨rfl,rfl⟩:=hit;exact hQ C2 φ2 a2 k2 (r1.trans r2) hs2 (z2.trans z1) (d1.trans d2)
 | range r c ihc=>
  intro x hok T hT C φ s s' a o hC hs hN he Q hQ;obtain ⟨i0,ops0,b,i1,ops1,q,b',b2,i2,ops2,y,rfl,h1,h2⟩:=Q7 hok;simp only [dm] at he;obtain ⟨⟨j,es⟩,hm,he⟩:=aa.1 he;obtain ⟨s2,hr,e⟩:=ae.1 he;simp only [al] at e;obtain ⟨rfl,rfl⟩:=e;exact T5 (fun T hT C φ s s' a o k1 k2 k3 k4 Q k5=>ihc y h2 T hT C φ s s' a o k1 k2 k3 k4 Q k5) h1 hT hC hs hN hm hr hQ
theorem mc {O:am} {np N:Nat} (hO:km P num O) (hm:P.follows .mixedOrders=true) (n:Nat) (c:Cd) (x:Code) (hok:gn P num N c x=true) (C:Cx) (φ:Loc) (s s':St) (a:Act) (o:Out) (hC:C.num=num) (hs:SR C φ s a.tmps) (hN:N≤a.tmps.size)
 (he:dm O np n c s=some (o,s')) (Q:Exit→Act→World→Prop) (hQ:Fits num np Q o C φ s.h s' a):x.wp P Q a C.w:=
 Ug hO hm n c x hok [] (Vm x) C φ s s' a o hC hs hN he Q hQ.T
end Pe
namespace Pe
open Go
variable {P:Program} {num:Nat→Nat}
def a1w (P:Program):Res→ResultVar→Bool
 | .tmp n,.tmp m=>n == m
 | .cell n s,.cell m t=>n == m&&nj P t s
 | _,_=>false
def Dh (P:Program):List Res→List ResultVar→Bool
 | [],[]=>true
 | r::rs,v::vs=>a1w P r v&&Dh P rs vs
 | _,_=>false
def Lq (tmps:Array Value):ResultVar→Sem Value
 | .tmp t=>pure (tmps.getD t undef)
 | .cell a t=>do loadVar t (←asAddr (tmps.getD a undef))
theorem Y4 (fn:Func) (tmps:Array Value):Go.results fn tmps=(do
 let vs ←fn.results.mapM (Lq tmps)
 pure (if h:vs.size=1 then vs[0] else .tuple vs)):=rfl
theorem a2z {C:Cx} {φ:Loc} {s:St} {tmps:Array Value} (hs:SR C φ s tmps) {r:Res} {rv:ResultVar} (hok:a1w P r rv=true) {v:V} (hv:Sr s r=some v) :
 ∃u,(Lq tmps rv).run P C.w=.ok u C.w∧RX C φ s.h v u:=by
 cases r with
 | tmp n=>
  cases rv <;> simp only [a1w,b5] at hok
  rename_i m
  have hnm:n=m:=by simpa using hok
  subst hnm;simp only [Sr] at hv;obtain ⟨u,hu,h⟩:=hs.env n v hv;exact ⟨u,by simp [Lq,hu],h⟩
 | cell n sh=>
  cases rv <;> simp only [a1w,b5,av] at hok
  rename_i m t
  have hnm:n=m:=by simpa using hok.1
  subst hnm;simp only [Sr] at hv
  split at hv
  ·rename_i i p hp
   obtain ⟨d,hd,hv⟩:=aa.1 hv;obtain ⟨B,hB,hg⟩:=aa.1 hd
   split at hv
   ·rename_i hsh
    obtain rfl:=au hv;obtain rfl:=Sh.beq_eq _ _ hsh;obtain ⟨u,hu,hx⟩:=hs.env n _ hp;simp only [RX] at hx;obtain ⟨B',b,off,q,hB',hφ,hq,e⟩:=hx;obtain rfl:B=B':=au (hB.symm.trans hB');obtain ⟨b',o',off',cs,hφ',ho',hx,hc⟩:=zo (hs.hr.blk i B hB) hg;obtain ⟨rfl,rfl⟩:b=b'∧off=o':=by simpa using hφ.symm.trans hφ'
    have e2:=hq.symm.trans ho';simp only [ab] at e2;subst e2;obtain ⟨u',hrun,hu'⟩:=Me (P:=P) hok.2 hc hx;refine ⟨u',?_,by simpa only [RX] using hu'⟩
    simp [Instr.loadAt,Instr.sureAddr] at hrun;simp [Lq,hu,e,asAddr,hrun]
   ·cases hv
  ·cases hv
theorem Mj {C:Cx} {φ:Loc} {s:St} {tmps:Array Value} (hs:SR C φ s tmps):∀{rs:List Res} {rvs:List ResultVar},Dh P rs rvs=true→∀{vs:List V},xx s rs=some vs →
 ∃us,(rvs.mapM (Lq tmps)).run P C.w=.ok us C.w∧RXs C φ s.h vs us
 | [],[],_,vs,hv=>by
  simp only [xx,ab] at hv; subst hv;exact ⟨[],by simp,by simp [RXs]⟩
 | r::rs,rv::rvs,hok,vs,hv=>by
  simp only [Dh,av] at hok;simp only [xx] at hv;obtain ⟨v,h1,hv⟩:=aa.1 hv;obtain ⟨vs',h2,rfl⟩:=ae.1 hv;obtain ⟨u,g1,g2⟩:=a2z hs hok.1 h1;obtain ⟨us,g3,g4⟩:=Mj hs hok.2 h2;exact ⟨u::us,by simp [g1,g3],by simp only [RXs]; exact ⟨u,us,rfl,g2,g4⟩⟩
 | [],_::_,hok,_,_=>by simp [Dh] at hok
 | _::_,[],hok,_,_=>by simp [Dh] at hok
def B6 (P:Program) (num:Nat→Nat) (fn:Fn) (g:Func):Bool:=
 g.name != "runtime.NumGoroutine" && decide (fn.nparams ≤ g.ntmps) && Dh P fn.results g.results.toList &&
 (match g.body with
  | some c=>gn P num g.ntmps fn.body c
  | none=>false)
theorem D8 {C:Cx} {φ:Loc} {h:Heap}:∀{vs:List V} {us:List Value},RXs C φ h vs us→us.length=vs.length
 | [],us,g=>by simp only [RXs] at g; subst g; rfl
 | v::vs,us,g=>by
  simp only [RXs] at g;obtain ⟨u,r,rfl,_,g2⟩:=g;simp [D8 g2]
theorem a0d {C:Cx} {φ:Loc} {h:Heap}:∀{vs:List V} {us:List Value} {k:Nat} {v:V},RXs C φ h vs us→vs[k]? = some v→∃u,us[k]? = some u∧RX C φ h v u
 | [],us,k,v,_,hk=>by simp at hk
 | x::vs,us,k,v,g,hk=>by
  simp only [RXs] at g;obtain ⟨u,r,rfl,g1,g2⟩:=g;cases k with
  | zero=>simp at hk; subst hk; exact ⟨u,rfl,g1⟩
  | succ k=>simpa using a0d g2 (by simpa using hk)
theorem Jo:∀{vs:List V} {n k:Nat} {v:V},(params n vs).get k=some v→n≤k∧vs[k-n]? = some v
 | [],n,k,v,h=>by simp [params,Env.get] at h
 | x::vs,n,k,v,h=>by
  simp only [params,Env.get] at h
  by_cases hk:n=k
  ·subst hk
   simp only [if_true,ab] at h;subst h;simp
  ·rw [if_neg hk] at h
   obtain ⟨h1,h2⟩:=Jo h;refine ⟨by omega,?_⟩
   rw [show k-n=(k-(n+1))+1 by omega]
   simpa using h2
theorem W6 (fn : Fn) {f : Nat} {g : Func} (hg : P.funcs[num f]? = some g) (hname : g.name ≠ "runtime.NumGoroutine") (hnp : fn.nparams ≤ g.ntmps) (hres : Dh P fn.results g.results.toList = true) {code : Code} (hcode : g.body = some code) {vs : List V} {bs : Heap} {ans : Ans} (o : Out) (s' : St)
 (hlen:vs.length=fn.nparams)
 (hrun:(match o with
  | .exit _=>none
  | _=>if s'.h.length=bs.length+fn.nblk then (xx s' fn.results).bind fun rs=>
   let v:=nm rs
   let own:=(t7 v.refs).filter (bs.length≤·)
   (s'.h.pick own).map fun nb=>
    (v.ren (fun i=>if i<bs.length then i else bs.length+own.idxOf i),s'.h.take bs.length,nb)
   else none)=some ans)
 (hw:∀(C:Cx) (φ:Loc) (a:Act),C.num=num→SR C φ ⟨params 0 vs,bs++List.replicate fn.nblk .hole⟩ a.tmps→g.ntmps≤a.tmps.size→∀(Q:Exit→Act→World→Prop),Fits num bs.length Q o C φ (bs++List.replicate fn.nblk .hole) s' a→code.wp P Q a C.w)
 {C:Cx} {φ:Loc} {us:List Value} (hC:C.num=num) (hr:HR C φ bs) (hb:∀b,C.I b→b<C.w.heap.size) (hv:RXs C φ bs vs us) :
 ans.2.1.length=bs.length∧To P (num f) us C φ bs (ans.2.1++ans.2.2) ans.1:=by
 have hul:=D8 hv
 -- what the function begins with
 have hh0:∀i:Nat,i<bs.length→(bs++List.replicate fn.nblk Blk.hole)[i]? = bs[i]?:=fun i hi=>bi hi
 have hh1:∀(i:Nat) (B:Blk),bs.length≤i→(bs++List.replicate fn.nblk Blk.hole)[i]? = some B→B=.hole:=by
  intro i B hi hB;rw [bj hi,gi] at hB
  split at hB
  ·exact (au hB).symm
  ·cases hB
 have hr0:HR C φ (bs++List.replicate fn.nblk .hole):=by
  refine ⟨fun i B hB=>?_,fun i j k l Bi Bj b oi oj hij hi hj hoi hoj hk hl hφi hφj=>?_⟩
  ·by_cases hi:i<bs.length
   ·rw [hh0 i hi] at hB; exact hr.blk i B hB
   ·obtain rfl:=hh1 i B (by omega) hB
    trivial
  ·by_cases hi':i<bs.length
   ·by_cases hj':j<bs.length
    ·rw [hh0 i hi'] at hi
     rw [hh0 j hj'] at hj;exact hr.inj i j k l Bi Bj b oi oj hij hi hj hoi hoj hk hl hφi hφj
    ·obtain rfl:=hh1 j Bj (by omega) hj
     simp [Blk.own] at hoj
   ·obtain rfl:=hh1 i Bi (by omega) hi
    simp [Blk.own] at hoi
 have hold:∀v u,RX C φ bs v u→RX C φ (bs++List.replicate fn.nblk .hole) v u:=by
  intro v u gx;refine RX.congr (.refl C) v u (fun i hi B hB=>⟨B,?_,.refl B⟩) (fun _ _=>rfl) (fun _=>.of_eq rfl) gx
  rw [hh0 i (ao.1 hB).1]; exact hB
 have hsize:us.toArray.size=fn.nparams:=by simp [hul,hlen]
 have hs0:SR C φ ⟨params 0 vs,bs++List.replicate fn.nblk .hole⟩ (us.toArray++Array.replicate (g.ntmps-us.toArray.size) undef):=by
  refine ⟨hr0,hb,fun n v hn=>?_⟩
  obtain ⟨_,h2⟩:=Jo hn;obtain ⟨u,h3,h4⟩:=a0d hv h2;refine ⟨u,?_,hold v u h4⟩
  have hnl:n<us.toArray.size:=by
   have:=(ao.1 h3).1
   simpa using this
  rw [me hnl]
  simpa using h3
 have hN:g.ntmps≤(us.toArray++Array.replicate (g.ntmps-us.toArray.size) undef).size:=by
  rw [Array.size_append,Array.size_replicate]; omega
 have hHB:Yw P (num f):=⟨g,hg,hname,by simp [hcode]⟩
 -- the nm
 have hlast:(∃id,o=.exit id)∨(s'.h.length=bs.length+fn.nblk∧∃rs nb,xx s' fn.results=some rs∧s'.h.pick ((t7 (nm rs).refs).filter (bs.length≤·))=some nb ∧
  ans=((nm rs).ren (fun i=>if i<bs.length then i else bs.length+((t7 (nm rs).refs).filter (bs.length≤·)).idxOf i),s'.h.take bs.length,nb)):=by
  cases o with
  | exit id=>exact .inl ⟨id,rfl⟩
  | normal | ret=>
   right;simp only at hrun
   split at hrun
   ·rename_i hl
    obtain ⟨rs,h1,hrun⟩:=aa.1 hrun;obtain ⟨nb,h2,h3⟩:=ae.1 hrun;exact ⟨hl,rs,nb,h1,h2,h3.symm⟩
   ·cases hrun
 rcases hlast with ⟨id,rfl⟩ | ⟨hl,rs,nb,h1,h2,rfl⟩
 ·simp at hrun
 generalize hown:(t7 (nm rs).refs).filter (bs.length≤·)=own at *
 have hownn:own.Nodup:=by rw [←hown]; exact (Dn _).filter _
 have hownm:∀i,i∈own↔i∈(nm rs).refs∧bs.length≤i:=by
  intro i;rw [←hown,List.mem_filter,Aq];simp
 obtain ⟨pl,pg⟩:=L1 h2;have htl:(s'.h.take bs.length).length=bs.length:=by rw [b8]; omega
 refine ⟨htl,hHB,?_⟩;refine calls_of_wp hg hcode ?_;refine hw C φ _ hC hs0 hN _ ?_;intro C' φ' a' hC' rn hs' _ hdef
 have hfin:∃v,(results g a'.tmps).run P C'.w=.ok v C'.w∧RX C' φ' s'.h (nm rs) v:=by
  obtain ⟨us',g1,g2⟩:=Mj hs' hres h1;have hl2:=D8 g2;rw [Y4];refine ⟨if h:us'.toArray.size=1 then us'.toArray[0] else .tuple us'.toArray,?_,?_⟩
  ·simp only [Array.mapM_eq_mapM_toList,Sem.run_bind,Sem.run_map,g1]
   simp
  ·unfold nm
   split
   ·rename_i v
    cases us' with
    | nil=>simp at hl2
    | cons u us'=>
     cases us' with
     | nil=>
      simp only [RXs] at g2;obtain ⟨u0,r,e,g3,g4⟩:=g2;simp only [List.cons.injEq] at e;obtain ⟨rfl,rfl⟩:=e
      simpa using g3
     | cons _ _=>simp at hl2
   ·rename_i hne
    have h1':¬ us'.toArray.size=1:=by
     intro h;have:rs.length=1:=by rw [←hl2]; simpa using h
     match rs,this with
     | [v],_=>exact hne v rfl
    rw [dif_neg h1'];simp only [RX];exact ⟨us'.toArray,rfl,by simpa using g2⟩
 obtain ⟨v,hvr,hvx⟩:=hfin
 -- the blocks that are handed back
 let φ3:Loc:=fun i=>if i<bs.length then φ' i else φ' (own.getD (i-bs.length) 0)
 have src:∀i B,(s'.h.take bs.length++nb)[i]? = some B→∃j,s'.h[j]? = some B∧φ3 i=φ' j∧((i<bs.length∧j=i)∨(bs.length≤i∧own[i-bs.length]? = some j)):=by
  intro i B hB
  by_cases hi:i<bs.length
  ·rw [bi (by omega),eh,if_pos hi] at hB
   exact ⟨i,hB,by simp [φ3,hi],.inl ⟨hi,rfl⟩⟩
  ·rw [bj (by omega),htl] at hB
   have hil:i-bs.length<own.length:=by rw [←pl]; exact (ao.1 hB).1
   have ho:own[i-bs.length]? = some own[i-bs.length]:=ac hil;obtain ⟨B',g1,g2,_⟩:=pg _ _ ho;obtain rfl:B'=B:=au (g2.symm.trans hB);refine ⟨_,g1,?_,.inr ⟨by omega,ho⟩⟩
   simp only [φ3,if_neg hi,getD_some ho]
 have srcinj:∀i i' j,((i<bs.length∧j=i)∨(bs.length≤i∧own[i-bs.length]? = some j))→((i'<bs.length∧j=i')∨(bs.length≤i'∧own[i'-bs.length]? = some j))→i=i':=by
  intro i i' j hi hi';have hge:∀k,own[k]? = some j→bs.length≤j:=fun k hk=>((hownm j).1 (dl hk)).2
  rcases hi with ⟨p1,p2⟩ | ⟨p1,p2⟩ <;> rcases hi' with ⟨q1,q2⟩ | ⟨q1,q2⟩
  ·omega
  ·have:=hge _ q2; omega
  ·have:=hge _ p2; omega
  ·have e1:=td hownn p2
   have e2:=td hownn q2;omega
 have hown0:∀b,OwnB φ (bs++List.replicate fn.nblk .hole) b→OwnB φ bs b:=by
  rintro b ⟨i,k,B,o',hB,ho,hk,hφ⟩
  by_cases hi:i<bs.length
  ·exact ⟨i,k,B,o',by rw [←hh0 i hi]; exact hB,ho,hk,hφ⟩
  ·obtain rfl:=hh1 i B (by omega) hB
   simp [Blk.own] at ho
 have hown1:∀b,OwnB φ bs b→OwnB φ (bs++List.replicate fn.nblk .hole) b:=by
  rintro b ⟨i,k,B,o',hB,ho,hk,hφ⟩
  exact ⟨i,k,B,o',by rw [hh0 i (ao.1 hB).1]; exact hB,ho,hk,hφ⟩
 have post:∃u C2 φ2,Ending.returned v=.returned u∧C2.w=C'.w∧Step C C2 φ φ2 bs (s'.h.take bs.length++nb)∧Keeps C C2 φ φ2 bs (s'.h.take bs.length++nb) (fun _=>False) ∧
  RX C2 φ2 (s'.h.take bs.length++nb) ((nm rs).ren (fun i=>if i<bs.length then i else bs.length+own.idxOf i)) u:=by
  refine ⟨v,C',φ3,rfl,rfl,⟨rn.st.le,fun b hbl hn=>rn.st.kept b hbl fun h=>hn (hown0 b h),fun b h=>?_,?_,rn.st.size,rn.st.os,rn.st.out,rn.st.tape,⟨?_,?_⟩,rn.st.bd,rn.st.wide⟩,?_,?_⟩
  ·rcases rn.st.fresh b h with h | h | h
   ·exact .inl h
   ·exact .inr (.inl h)
   ·exact .inr (.inr (hown0 b h))
  ·rintro b ⟨i,k,B,o',hB,ho,hk,hφ⟩
   obtain ⟨j,g1,g2,_⟩:=src i B hB;exact (rn.st.own b ⟨j,k,B,o',g1,ho,hk,g2▸hφ⟩).imp (hown0 b) id
  ·intro i B hB
   obtain ⟨j,g1,g2,_⟩:=src i B hB;rw [g2]; exact rn.st.hr.blk j B g1
  ·intro i i' k l Bi Bj b oi oj hij hi hj hoi hoj hk hl hφi hφj
   obtain ⟨j,g1,g2,g3⟩:=src i Bi hi;obtain ⟨j',g1',g2',g3'⟩:=src i' Bj hj;exact rn.st.hr.inj j j' k l Bi Bj b oi oj (hij.imp (fun q e=>q (srcinj i i' j g3 (e▸g3'))) id) g1 g1' hoi hoj hk hl (g2▸hφi) (g2'▸hφj)
  ·intro x u _ hx
   have hlt:∀i∈x.refs,i<bs.length:=fun i hi=>by
    obtain ⟨B,hB,_⟩:=RX.refs x u hx i hi;exact (ao.1 hB).1
   have q:=rn.kp x u (fun i hi hge=>by have:=hlt i hi; omega) (hold x u hx)
   have:=RX.lift (C':=C') (φ':=φ3) (h':=s'.h.take bs.length++nb) (f:=id) (.refl C') x u (Moves.one fun i hi B hB _=>by
    have hi':=hlt i hi;refine ⟨⟨B,?_,.refl B⟩,by simp [φ3,hi'],fun _=>.of_eq rfl⟩
    simp only [id];rw [bi (by omega),eh,if_pos hi']; exact hB) q
   rwa [V.ren_id (f:=id) x (fun _ _=>rfl)] at this
  ·refine RX.lift (.refl C') (nm rs) v (Moves.one fun i hi B hB hn=>?_) hvx
   by_cases hi':i<bs.length
   ·rw [if_pos hi']
    refine ⟨⟨B,?_,.refl B⟩,by simp [φ3,hi'],fun _=>.of_eq rfl⟩
    rw [bi (by omega),eh,if_pos hi']; exact hB
   ·rw [if_neg hi']
    have him:i∈own:=(hownm i).2 ⟨hi,by omega⟩
    have ho:=ow him;obtain ⟨B',g1,g2,_⟩:=pg _ _ ho;obtain rfl:B'=B:=au (g1.symm.trans hB);refine ⟨⟨B',?_,.refl B'⟩,?_,fun _=>.of_eq rfl⟩
    ·rw [bj (by omega),htl,show bs.length+own.idxOf i-bs.length=own.idxOf i by omega]; exact g2
    ·have:¬ bs.length+own.idxOf i<bs.length:=by omega
     simp only [φ3,if_neg this,show bs.length+own.idxOf i-bs.length=own.idxOf i by omega,getD_some ho]
 cases o with
 | exit id=>simp at hrun
 | normal=>exact ⟨by rw [hdef],v,hvr,post⟩
 | ret=>exact ⟨by rw [hdef],v,hvr,post⟩
theorem Or {O:am} (hO:km P num O) (hm:P.follows .mixedOrders=true) {fn:Fn} {f:Nat} {g:Func} (hg:P.funcs[num f]? = some g) (hok:B6 P num fn g=true) {k:Nat} {vs:List V} {bs:Heap} {ans:Ans}
 (hrun:run O k fn vs bs=some ans) {C:Cx} {φ:Loc} {us:List Value} (hC:C.num=num) (hr:HR C φ bs) (hb:∀b,C.I b→b<C.w.heap.size) (hv:RXs C φ bs vs us) :
 ans.2.1.length=bs.length∧To P (num f) us C φ bs (ans.2.1++ans.2.2) ans.1:=by
 unfold B6 at hok;simp only [av,bne_iff_ne,ne_eq,decide_eq_true_eq] at hok;obtain ⟨⟨⟨hname,hnp⟩,hres⟩,hbody⟩:=hok;cases hcode:g.body with
 | none=>rw [hcode] at hbody; cases hbody
 | some code=>
 rw [hcode] at hbody;simp only at hbody;unfold run at hrun
 split at hrun
 case isFalse=>cases hrun
 rename_i hlen
 obtain ⟨⟨o,s'⟩,hev,hrun⟩:=aa.1 hrun;exact W6 fn hg hname hnp hres hcode o s' hlen hrun (fun C φ a hC hs hN Q hQ=>mc (N:=g.ntmps) hO hm k fn.body code hbody C φ _ s' a o hC hs hN hev Q hQ) hC hr hb hv
theorem Ic {T:Nat→Option Fn} {A:am} (hT:∀f fn,T f=some fn→∃g,P.funcs[num f]? = some g∧B6 P num fn g=true) (hA:km P num A) (hm:P.follows .mixedOrders=true):∀k,km P num (uj T A k)
 | 0=>by intro f vs bs ans h; simp [uj] at h
 | k+1=>by
  intro f vs bs ans h C φ us hC hr hb hv;simp only [uj] at h
  split at h
  ·rename_i fn hfn
   obtain ⟨g,hg,hok⟩:=hT f fn hfn;exact Or (Ic hT hA hm k) hm hg hok h hC hr hb hv
  ·exact hA f vs bs ans h C φ us hC hr hb hv
end Pe
namespace Pe
open Go
abbrev Mf:=Nat×List V×Heap×Ans
def Gives (O:am) (qs:List Mf):Prop:=∀q∈qs,O q.1 q.2.1 q.2.2.1=some q.2.2.2
theorem Gives.app {O:am} {qs rs:List Mf}:Gives O (qs++rs)↔Gives O qs∧Gives O rs:=by
 unfold Gives;constructor
 ·exact fun h=>⟨fun q hq=>h q (by simp [hq]),fun q hq=>h q (by simp [hq])⟩
 ·rintro ⟨h1,h2⟩ q hq
  rcases bp.1 hq with hq | hq
  ·exact h1 q hq
  ·exact h2 q hq
def Rests {α:Type} (O:am) (g:am→Option α) (r:α):Prop:=∃qs,Gives O qs∧∀O',Gives O' qs→g O'=some r
theorem Rests.const {α:Type} {O:am} {x:Option α} {r:α} (h:x=some r):Rests O (fun _=>x) r:=⟨[],by simp [Gives],fun _ _=>h⟩
theorem Rests.bind {α β:Type} {O:am} {g:am→Option α} {k:α→am→Option β} {r:α} {r':β} (h:Rests O g r) (h':Rests O (k r) r'):Rests O (fun O'=>(g O').bind fun x=>k x O') r':=by
 obtain ⟨q1,a1,b1⟩:=h;obtain ⟨q2,a2,b2⟩:=h';refine ⟨q1++q2,Gives.app.2 ⟨a1,a2⟩,fun O' hO'=>?_⟩
 obtain ⟨c1,c2⟩:=Gives.app.1 hO'
 dsimp only
 rw [b1 O' c1];exact b2 O' c2
theorem a4z {O:am} {np:Nat} {e:Env} {h:Heap} {p:Op} {r:V×Heap} (he:b6 O np e h p=some r):Rests O (fun O'=>b6 O' np e h p) r:=by
 cases p with
 | call m news f xs=>
  simp only [b6] at he;obtain ⟨fv,hf,he⟩:=aa.1 he;obtain ⟨g,hg,he⟩:=aa.1 he;obtain ⟨vs,hv,he⟩:=aa.1 he
  have pure:∀m,jy O m h g.1 (g.2.1++vs++g.2.2)=some r→∃q:Mf,O q.1 q.2.1 q.2.2.1=some q.2.2.2∧∀O':am,O' q.1 q.2.1 q.2.2.1=some q.2.2.2→jy O' m h g.1 (g.2.1++vs++g.2.2)=some r:=by
   intro m he;unfold jy at he;obtain ⟨ds,hds,he⟩:=aa.1 he;obtain ⟨ans,hans,he⟩:=aa.1 he;refine ⟨(g.1,ds.map .d,[],ans),hans,fun O' hO'=>?_⟩
   unfold jy;rw [hds,ah];simp only at hO';rw [hO',ah];exact he
  have heap:oq O np news h g.1 (g.2.1++vs++g.2.2)=some r→∃q:Mf,O q.1 q.2.1 q.2.2.1=some q.2.2.2∧∀O':am,O' q.1 q.2.1 q.2.2.1=some q.2.2.2→oq O' np news h g.1 (g.2.1++vs++g.2.2)=some r:=by
   intro he;unfold oq at he;simp only at he;obtain ⟨bs,hbs,he⟩:=aa.1 he;obtain ⟨ans,hans,he⟩:=aa.1 he;refine ⟨(g.1,_,bs,ans),hans,fun O' hO'=>?_⟩
   unfold oq;simp only;rw [hbs,ah];simp only at hO';rw [hO',ah];exact he
  have fin:∀(c:am→Option (V×Heap)),(∃q:Mf,O q.1 q.2.1 q.2.2.1=some q.2.2.2∧∀O':am,O' q.1 q.2.1 q.2.2.1=some q.2.2.2→c O'=some r)→(∀O',b6 O' np e h (.call m news f xs)=c O')→Rests O (fun O'=>b6 O' np e h (.call m news f xs)) r:=by
   rintro c ⟨q,h1,h2⟩ hc
   refine ⟨[q],fun q' hq'=>?_,fun O' hO'=>?_⟩
   ·simp only [c7] at hq'
    subst hq'; exact h1
   ·dsimp only; rw [hc]; exact h2 O' (hO' q (by simp))
  cases m with
  | heap=>
   simp only at he;exact fin _ (heap he) fun O'=>by simp only [b6,hf,hg,hv,ah]
  | flat=>
   simp only at he;exact fin _ (pure .flat he) fun O'=>by simp only [b6,hf,hg,hv,ah]
  | data=>
   simp only at he;exact fin _ (pure .data he) fun O'=>by simp only [b6,hf,hg,hv,ah]
  | plain=>
   simp only at he;exact fin _ (pure .plain he) fun O'=>by simp only [b6,hf,hg,hv,ah]
 | cut ar s x lo hi mx=>exact ⟨[],by simp [Gives],fun O' _=>by cases ar <;> exact he⟩
 | idxA ar s x j=>exact ⟨[],by simp [Gives],fun O' _=>by cases ar <;> exact he⟩
 | idx ar s x j=>exact ⟨[],by simp [Gives],fun O' _=>by cases ar <;> exact he⟩
 | len str x=>exact ⟨[],by simp [Gives],fun O' _=>by cases str <;> exact he⟩
 | _=>exact ⟨[],by simp [Gives],fun O' _=>he⟩
theorem a3f {O:am} {np:Nat} {s s':St} {i:Ins} (he:n8 O np s i=some s'):Rests O (fun O'=>n8 O' np s i) s':=by
 unfold n8 gv at he ⊢
 split at he
 ·rename_i hside
  simp only [hside,if_true]
  split at he
  ·rename_i hon
   obtain ⟨r,hr,e⟩:=ae.1 he;obtain ⟨qs,h1,h2⟩:=a4z hr;refine ⟨qs,h1,fun O' hO'=>?_⟩
   have q:=h2 O' hO'
   dsimp only at q ⊢
   rw [q,bc,e]
  ·exact Rests.const he
  ·cases he
 ·cases he
theorem Ml {O:am} {np:Nat}:∀{is:List Ins} {s s':St},fy O np is s=some s'→Rests O (fun O'=>fy O' np is s) s'
 | [],s,s',he=>Rests.const he
 | i::is,s,s',he=>by
  simp only [fy] at he ⊢;obtain ⟨s1,h1,h2⟩:=aa.1 he;exact (a3f h1).bind (k:=fun x O'=>fy O' np is x) (Ml h2)
theorem Jw {O:am} {g:am→St→Option (Out×St)} (hg:∀s r,g O s=some r→Rests O (fun O'=>g O' s) r):∀{n:Nat} {s:St} {r:Out×St},zm (g O) n s=some r→Rests O (fun O'=>zm (g O') n s) r
 | 0,s,r,he=>by simp [zm] at he
 | n+1,s,r,he=>by
  simp only [zm] at he ⊢;obtain ⟨⟨o,s1⟩,h1,h2⟩:=aa.1 he;refine (hg s _ h1).bind (k:=fun x O'=>match x.1 with | .normal=>zm (g O') n x.2 | o=>some (o,x.2)) ?_
  cases o with
  | normal=>exact Jw hg h2
  | exit id=>exact Rests.const h2
  | ret=>exact Rests.const h2
theorem Ab {α ε:Type} (bot:α) (join:α→α→α):∀{es:List ε} {Q:List ε→ε→List ε→α→Prop},(∀l e r a b,Q l e r a→Q l e r (join a b))→(∀l e r a b,Q l e r b→Q l e r (join a b)) →
 (∀l e r,es=l++e::r→∃a,Q l e r a)→∃a,∀l e r,es=l++e::r→Q l e r a
 | [],Q,_,_,_=>⟨bot,fun l e r h=>by simp at h⟩
 | x::xs,Q,hl,hr,h=>by
  obtain ⟨a,ha⟩:=h [] x xs rfl;obtain ⟨b,hb⟩:=Ab bot join (es:=xs) (Q:=fun l e r c=>Q (x::l) e r c) (fun l e r a b g=>hl _ e r a b g) (fun l e r a b g=>hr _ e r a b g) (fun l e r g=>h (x::l) e r (by rw [g]; rfl))
  refine ⟨join a b,fun l e r g=>?_⟩
  cases l with
  | nil=>
   simp only [cw,List.cons.injEq] at g;obtain ⟨rfl,rfl⟩:=g;exact hl _ _ _ a b ha
  | cons y l=>
   simp only [cz,List.cons.injEq] at g;obtain ⟨rfl,g⟩:=g;exact hr _ _ _ a b (hb l e r g)
theorem RangeTo.mono {f f':MK×Int→St→Option St} (hf:∀e s s',f e s=some s'→f' e s=some s'):∀{n:Nat} {es:List (MK×Int)} {s s':St},RangeTo f n es s s'→RangeTo f' n es s s'
 | 0,_,_,_,h=>h
 | n+1,es,s,s',h=>⟨h.1,fun l e r g=>by
  obtain ⟨s1,h1,h2⟩:=h.2 l e r g;exact ⟨s1,hf _ _ _ h1,h2.mono hf⟩⟩
theorem RangeTo.one {f:MK×Int→St→Option St}:∀{n:Nat} {es:List (MK×Int)} {s a b:St},RangeTo f n es s a→RangeTo f n es s b→a=b
 | 0,_,_,_,_,h,g=>h.2.symm.trans g.2
 | n+1,[],s,a,b,h,_=>absurd h.1 (by simp)
 | n+1,e::es,s,a,b,h,g=>by
  obtain ⟨s1,h1,h2⟩:=h.2 [] e es rfl;obtain ⟨s2,g1,g2⟩:=g.2 [] e es rfl;obtain rfl:=au (h1.symm.trans g1);exact h2.one g2
theorem wg {step:MK×Int→St→Option St} {es:List (MK×Int)} {s s':St}:Gs step es s=some s'↔RangeTo step es.length es s s':=by
 refine ⟨Hl,fun h=>?_⟩
 unfold Gs;have hx:∃s',RangeTo step es.length es s s':=⟨s',h⟩;rw [dif_pos hx];exact congrArg some ((dc hx).one h)
theorem tp {r:Rng} {g g':St→Option (Out×St)} (hg:∀s o,g s=some o→g' s=some o) (e:MK×Int) (s s':St) (h:om r g e s=some s'):om r g' e s=some s':=by
 unfold om at h ⊢;obtain ⟨o,h1,h2⟩:=aa.1 h;rw [hg _ _ h1,ah];exact h2
theorem Hk {O:am} {r:Rng} {g:am→St→Option (Out×St)} (hg:∀s o,g O s=some o→Rests O (fun O'=>g O' s) o):∀{n:Nat} {es:List (MK×Int)} {s s':St},RangeTo (om r (g O)) n es s s' →
 ∃qs,Gives O qs∧∀O',Gives O' qs→RangeTo (om r (g O')) n es s s'
 | 0,es,s,s',h=>⟨[],by simp [Gives],fun _ _=>h⟩
 | n+1,es,s,s',h=>by
  have hall:∀l e rr,es=l++e::rr→∃qs,Gives O qs∧∀O',Gives O' qs→∃s1,om r (g O') e s=some s1∧RangeTo (om r (g O')) n (l++rr) s1 s':=by
   intro l e rr he;obtain ⟨s1,h1,h2⟩:=h.2 l e rr he;obtain ⟨q2,a2,b2⟩:=Hk hg h2;unfold om at h1;obtain ⟨o,h3,h4⟩:=aa.1 h1;obtain ⟨q1,a1,b1⟩:=hg _ _ h3;refine ⟨q1++q2,Gives.app.2 ⟨a1,a2⟩,fun O' hO'=>?_⟩
   obtain ⟨c1,c2⟩:=Gives.app.1 hO';refine ⟨s1,?_,b2 O' c2⟩;unfold om;have:=b1 O' c1
   dsimp only at this
   rw [this,ah];exact h4
  obtain ⟨⟨qs,hqs⟩,hq⟩:=Ab (es:=es) (α:={ qs:List Mf // Gives O qs }) ⟨[],by simp [Gives]⟩ (fun a b=>⟨a.1++b.1,Gives.app.2 ⟨a.2,b.2⟩⟩)
   (Q:=fun l e rr qs=>∀O',Gives O' qs.1→∃s1,om r (g O') e s=some s1∧RangeTo (om r (g O')) n (l++rr) s1 s')
   (fun l e rr a b k O' hO'=>k O' (Gives.app.1 hO').1) (fun l e rr a b k O' hO'=>k O' (Gives.app.1 hO').2)
   (fun l e rr he=>by obtain ⟨qs,k1,k2⟩:=hall l e rr he; exact ⟨⟨qs,k1⟩,k2⟩)
  exact ⟨qs,hqs,fun O' hO'=>⟨h.1,fun l e rr he=>hq l e rr he O' hO'⟩⟩
theorem Y0 {O:am} {np n:Nat}:∀{c:Cd} {s:St} {r:Out×St},dm O np n c s=some r→Rests O (fun O'=>dm O' np n c s) r:=by
 intro c
 induction c with
 | skip=>intro s r he; exact Rests.const (by simpa only [dm] using he)
 | exit id=>intro s r he; exact Rests.const (by simpa only [dm] using he)
 | ret=>intro s r he; exact Rests.const (by simpa only [dm] using he)
 | region is ks=>
  intro s r he;simp only [dm] at he ⊢;obtain ⟨s1,h1,e⟩:=ae.1 he;obtain ⟨qs,g1,g2⟩:=Ml h1;refine ⟨qs,g1,fun O' hO'=>?_⟩
  have q:=g2 O' hO'
  dsimp only at q ⊢
  rw [q,bc,e]
 | seq a b iha ihb=>
  intro s r he;simp only [dm] at he ⊢;obtain ⟨⟨o,s1⟩,h1,h2⟩:=aa.1 he;refine (iha h1).bind (k:=fun x O'=>match x.1 with | .normal=>dm O' np n b x.2 | o=>some (o,x.2)) ?_
  cases o with
  | normal=>exact ihb h2
  | exit id=>exact Rests.const h2
  | ret=>exact Rests.const h2
 | cond q a b iha ihb=>
  intro s r he;simp only [dm] at he ⊢
  split at he
  ·rename_i t ht
   cases t with
   | true=>
    obtain ⟨qs,g1,g2⟩:=iha (s:=s) (r:=r) (by simpa using he)
    refine ⟨qs,g1,fun O' hO'=>?_⟩
    have q:=g2 O' hO'
    dsimp only at q ⊢
    simp only [if_true];exact q
   | false=>
    obtain ⟨qs,g1,g2⟩:=ihb (s:=s) (r:=r) (by simpa using he)
    refine ⟨qs,g1,fun O' hO'=>?_⟩
    have q:=g2 O' hO'
    dsimp only at q ⊢
    simp only [b5,if_false];exact q
  ·cases he
 | block id c ihc=>
  intro s r he;simp only [dm] at he ⊢;obtain ⟨r1,h1,e⟩:=ae.1 he;obtain ⟨qs,g1,g2⟩:=ihc h1;refine ⟨qs,g1,fun O' hO'=>?_⟩
  have q:=g2 O' hO'
  dsimp only at q ⊢
  rw [q,bc,e]
 | loop c ihc=>
  intro s r he;simp only [dm] at he ⊢;exact Jw (g:=fun O'=>dm O' np n c) (fun s r h=>ihc h) he
 | range rg c ihc=>
  intro s r he;simp only [dm] at he ⊢;obtain ⟨m,h1,he⟩:=aa.1 he;obtain ⟨s2,h2,e⟩:=ae.1 he;obtain ⟨qs,g1,g2⟩:=Hk (g:=fun O'=>dm O' np n c) (fun s r h=>ihc h) (wg.1 h2)
  refine ⟨qs,g1,fun O' hO'=>?_⟩
  dsimp only
  rw [h1,ah,wg.2 (g2 O' hO'),bc,e]
theorem Bp {O:am} {n:Nat} {fn:Fn} {vs:List V} {bs:Heap} {ans:Ans} (he:run O n fn vs bs=some ans):Rests O (fun O'=>run O' n fn vs bs) ans:=by
 unfold run at he ⊢
 split at he
 ·rename_i hl
  simp only [hl,if_true];obtain ⟨r,h1,h2⟩:=aa.1 he;exact (Y0 h1).bind (k:=fun r _=>match r.1 with
  | .exit _=>none
  | _=>if r.2.h.length=bs.length+fn.nblk then (xx r.2 fn.results).bind fun rs=>
   let v:=nm rs
   let own:=(t7 v.refs).filter (bs.length≤·)
   (r.2.h.pick own).map fun nb=>
    (v.ren (fun i=>if i<bs.length then i else bs.length+own.idxOf i),r.2.h.take bs.length,nb)
   else none) (Rests.const h2)
 ·cases he
theorem Bg {g g':St→Option (Out×St)} (hg:∀s r,g s=some r→g' s=some r):∀{n n':Nat} {s:St} {r:Out×St},n≤n'→zm g n s=some r→zm g' n' s=some r
 | 0,n',s,r,_,he=>by simp [zm] at he
 | n+1,0,s,r,hl,he=>by omega
 | n+1,n'+1,s,r,hl,he=>by
  simp only [zm] at he ⊢;obtain ⟨⟨o,s1⟩,h1,h2⟩:=aa.1 he;rw [hg s _ h1,ah];cases o with
  | normal=>exact Bg hg (by omega) h2
  | exit id=>exact h2
  | ret=>exact h2
theorem jq {O:am} {np n n':Nat} (hn:n≤n'):∀{c:Cd} {s:St} {r:Out×St},dm O np n c s=some r→dm O np n' c s=some r:=by
 intro c
 induction c with
 | skip=>intro s r he; simpa only [dm] using he
 | exit id=>intro s r he; simpa only [dm] using he
 | ret=>intro s r he; simpa only [dm] using he
 | region is ks=>intro s r he; simpa only [dm] using he
 | seq a b iha ihb=>
  intro s r he;simp only [dm] at he ⊢;obtain ⟨⟨o,s1⟩,h1,h2⟩:=aa.1 he;rw [iha h1,ah];cases o with
  | normal=>exact ihb h2
  | exit id=>exact h2
  | ret=>exact h2
 | cond q a b iha ihb=>
  intro s r he;simp only [dm] at he ⊢
  split at he
  ·rename_i t ht
   cases t with
   | true=>simpa using iha (s:=s) (r:=r) (by simpa using he)
   | false=>simpa using ihb (s:=s) (r:=r) (by simpa using he)
  ·cases he
 | block id c ihc=>
  intro s r he;simp only [dm] at he ⊢;obtain ⟨r1,h1,e⟩:=ae.1 he;rw [ihc h1,bc,e]
 | loop c ihc=>
  intro s r he;simp only [dm] at he ⊢;exact Bg (fun s r h=>ihc h) hn he
 | range rg c ihc=>
  intro s r he;simp only [dm] at he ⊢;obtain ⟨m,h1,he⟩:=aa.1 he;obtain ⟨s2,h2,e⟩:=ae.1 he;rw [h1,ah,wg.2 ((wg.1 h2).mono (tp fun s r h=>ihc h)),bc,e]
theorem Tx {O:am} {n n':Nat} (hn:n≤n') {fn:Fn} {vs:List V} {bs:Heap} {ans:Ans} (he:run O n fn vs bs=some ans):run O n' fn vs bs=some ans:=by
 unfold run at he ⊢
 split at he
 ·rename_i hl
  simp only [hl,if_true];obtain ⟨r,h1,h2⟩:=aa.1 he;rw [jq hn h1,ah];exact h2
 ·cases he
section
variable {T:Nat→Option Fn} {A:am}
theorem Lj:∀{k:Nat} {f:Nat} {vs:List V} {bs:Heap} {ans:Ans},uj T A k f vs bs=some ans→uj T A (k+1) f vs bs=some ans
 | 0,f,vs,bs,ans,h=>by simp [uj] at h
 | k+1,f,vs,bs,ans,h=>by
  rw [uj] at h ⊢
  dsimp only at h ⊢
  split at h
  ·rename_i fn hfn
   obtain ⟨qs,h1,h2⟩:=Bp h;exact Tx (Nat.le_succ k) (h2 _ fun q hq=>Lj (h1 q hq))
  ·exact h
theorem vi {k k':Nat} (hk:k≤k') {f:Nat} {vs:List V} {bs:Heap} {ans:Ans} (h:uj T A k f vs bs=some ans):uj T A k' f vs bs=some ans:=by
 induction hk with
 | refl=>exact h
 | step _ ih=>exact Lj ih
noncomputable def den (T:Nat→Option Fn) (A:am):am:=fun f vs bs=>by
 classical
 exact if h:∃ans,∃k,uj T A k f vs bs=some ans then some (Classical.choose h) else none
theorem J7 {f:Nat} {vs:List V} {bs:Heap} {ans:Ans}:den T A f vs bs=some ans↔∃k,uj T A k f vs bs=some ans:=by
 unfold den;constructor
 ·intro h
  split at h
  ·rename_i hx
   obtain rfl:=au h;exact dc hx
  ·cases h
 ·rintro ⟨k,hk⟩
  have hx:∃ans,∃k,uj T A k f vs bs=some ans:=⟨ans,k,hk⟩;rw [dif_pos hx];obtain ⟨k',hk'⟩:=dc hx;have h1:=vi (ko k k') hk;have h2:=vi (iz k k') hk';rw [h1] at h2;exact h2.symm
theorem Tl {qs:List Mf} (h:Gives (den T A) qs):∃k,Gives (uj T A k) qs:=by
 induction qs with
 | nil=>exact ⟨0,by simp [Gives]⟩
 | cons q qs ih=>
  obtain ⟨k,hk⟩:=ih fun q' hq'=>h q' (by simp [hq'])
  obtain ⟨k',hk'⟩:=J7.1 (h q (by simp))
  refine ⟨max k k',fun q' hq'=>?_⟩
  rcases dp.1 hq' with rfl | hq'
  ·exact vi (iz k k') hk'
  ·exact vi (ko k k') (hk q' hq')
theorem Q3 {f:Nat} {fn:Fn} (hT:T f=some fn) {n:Nat} {vs:List V} {bs:Heap} {ans:Ans} (h:run (den T A) n fn vs bs=some ans):den T A f vs bs=some ans:=by
 obtain ⟨qs,h1,h2⟩:=Bp h;obtain ⟨k,hk⟩:=Tl h1;refine J7.2 ⟨max k n+1,?_⟩;simp only [uj,hT];exact Tx (iz k n) (h2 _ fun q hq=>vi (ko k n) (hk q hq))
theorem Sc {f:Nat} (hT:T f=none) {vs:List V} {bs:Heap} {ans:Ans} (h:A f vs bs=some ans):den T A f vs bs=some ans:=
 J7.2 ⟨1,by simp only [uj,hT]; exact h⟩
theorem a38 {P:Program} {num:Nat→Nat} (hT:∀f fn,T f=some fn→∃g,P.funcs[num f]? = some g∧B6 P num fn g=true) (hA:km P num A) (hm:P.follows .mixedOrders=true):km P num (den T A):=by
 intro f vs bs ans h;obtain ⟨k,hk⟩:=J7.1 h;exact Ic hT hA hm k f vs bs ans hk
end
noncomputable def dn (O:am) (np:Nat) (c:Cd) (s:St):Option (Out×St):=by
 classical
 exact if h:∃r,∃n,dm O np n c s=some r then some (Classical.choose h) else none
theorem my {O:am} {np:Nat} {c:Cd} {s:St} {r:Out×St}:dn O np c s=some r↔∃n,dm O np n c s=some r:=by
 unfold dn;constructor
 ·intro h
  split at h
  ·rename_i hx
   obtain rfl:=au h;exact dc hx
  ·cases h
 ·rintro ⟨k,hk⟩
  have hx:∃r,∃n,dm O np n c s=some r:=⟨r,k,hk⟩;rw [dif_pos hx];obtain ⟨k',hk'⟩:=dc hx;have h1:=jq (ko k k') hk;have h2:=jq (iz k k') hk';rw [h1] at h2;exact h2.symm
section
variable {O:am} {np:Nat} {s:St}
theorem M0 {α:Type} {x y:Option α} (h:∀r,x=some r↔y=some r):x=y:=by
 cases x with
 | none=>
  cases y with
  | none=>rfl
  | some b=>exact absurd ((h b).2 rfl) (by simp)
 | some a=>exact ((h a).1 rfl).symm
theorem abv:dn O np .skip s=some (.normal,s):=my.2 ⟨0,rfl⟩
theorem ae6:dn O np .ret s=some (.ret,s):=my.2 ⟨0,rfl⟩
theorem abf (id:Nat):dn O np (.exit id) s=some (.exit id,s):=my.2 ⟨0,rfl⟩
theorem a3l (is:List Ins) (ks:List Nat):dn O np (.region is ks) s=(fy O np is s).map fun s'=>(.normal,⟨s'.e.keep ks,ma (s'.e.keep ks) np 0 s'.h⟩):=by
 refine M0 fun r=>?_
 rw [my];simp only [dm];exact ⟨fun ⟨_,h⟩=>h,fun h=>⟨0,h⟩⟩
def andThen (k:St→Option (Out×St)) (r:Out×St):Option (Out×St):=
 match r.1 with
 | .normal=>k r.2
 | o=>some (o,r.2)
theorem adb (a b:Cd):dn O np (.seq a b) s=(dn O np a s).bind (andThen (dn O np b)):=by
 refine M0 fun r=>?_
 rw [my];simp only [dm];constructor
 ·rintro ⟨n,h⟩
  obtain ⟨⟨o,s1⟩,h1,h2⟩:=aa.1 h;rw [my.2 ⟨n,h1⟩,ah];cases o with
  | normal=>exact my.2 ⟨n,h2⟩
  | exit id=>exact h2
  | ret=>exact h2
 ·intro h
  obtain ⟨⟨o,s1⟩,h1,h2⟩:=aa.1 h;obtain ⟨n,h1⟩:=my.1 h1;cases o with
  | normal=>
   obtain ⟨m,h2⟩:=my.1 h2;refine ⟨max n m,?_⟩;rw [jq (ko n m) h1,ah];exact jq (iz n m) h2
  | exit id=>exact ⟨n,by rw [h1,ah]; exact h2⟩
  | ret=>exact ⟨n,by rw [h1,ah]; exact h2⟩
theorem ap {q:Arg} (a b:Cd) {t:Bool} (h:s.e.arg q=some (.d (.bool t))):dn O np (.cond q a b) s=if t then dn O np a s else dn O np b s:=by
 refine M0 fun r=>?_
 rw [my];simp only [dm,h];cases t <;> simp [my]
def a0i (id:Nat) (r:Out×St):Out×St:=
 match r.1 with
 | .exit i=>if i=id then (.normal,r.2) else r
 | _=>r
theorem a93 (id:Nat) (c:Cd):dn O np (.block id c) s=(dn O np c s).map (a0i id):=by
 refine M0 fun r=>?_
 rw [my];simp only [dm];constructor
 ·rintro ⟨n,h⟩
  obtain ⟨r1,h1,e⟩:=ae.1 h;rw [my.2 ⟨n,h1⟩,bc];exact congrArg some e
 ·intro h
  obtain ⟨r1,h1,e⟩:=ae.1 h;obtain ⟨n,h1⟩:=my.1 h1;exact ⟨n,by rw [h1,bc]; exact congrArg some e⟩
theorem Qc (c:Cd):dn O np (.loop c) s=(dn O np c s).bind (andThen (dn O np (.loop c))):=by
 refine M0 fun r=>?_
 rw [my];simp only [dm];constructor
 ·rintro ⟨n,h⟩
  cases n with
  | zero=>simp [zm] at h
  | succ n=>
   simp only [zm] at h;obtain ⟨⟨o,s1⟩,h1,h2⟩:=aa.1 h;rw [my.2 ⟨n+1,h1⟩,ah];cases o with
   | normal=>
    refine my.2 ⟨n+1,?_⟩;simp only [dm];exact Bg (fun _ _ g=>g) (Nat.le_succ n) h2
   | exit id=>exact h2
   | ret=>exact h2
 ·intro h
  obtain ⟨⟨o,s1⟩,h1,h2⟩:=aa.1 h;obtain ⟨n,h1⟩:=my.1 h1;cases o with
  | normal=>
   obtain ⟨m,h2⟩:=my.1 h2;simp only [dm] at h2;refine ⟨max n m+1,?_⟩;simp only [zm];rw [jq (show n≤max n m+1 by omega) h1,ah]
   exact Bg (fun _ _ g=>jq (show m≤max n m+1 by omega) g) (iz n m) h2
  | exit id=>exact ⟨n+1,by simp only [zm]; rw [jq (Nat.le_succ n) h1,ah]; exact h2⟩
  | ret=>exact ⟨n+1,by simp only [zm]; rw [jq (Nat.le_succ n) h1,ah]; exact h2⟩
theorem Lk {r:Rng} {c:Cd}:∀{n:Nat} {es:List (MK×Int)} {s s':St},RangeTo (om r (dn O np c)) n es s s'→∃m,RangeTo (om r (dm O np m c)) n es s s'
 | 0,es,s,s',h=>⟨0,h⟩
 | n+1,es,s,s',h=>by
  obtain ⟨m,hm⟩:=Ab (es:=es) 0 max (Q:=fun l e rr m=>∃s1,om r (dm O np m c) e s=some s1∧RangeTo (om r (dm O np m c)) n (l++rr) s1 s')
   (fun l e rr a b ⟨s1,k1,k2⟩=>⟨s1,tp (fun _ _ g=>jq (ko a b) g) _ _ _ k1,k2.mono (tp fun _ _ g=>jq (ko a b) g)⟩)
   (fun l e rr a b ⟨s1,k1,k2⟩=>⟨s1,tp (fun _ _ g=>jq (iz a b) g) _ _ _ k1,k2.mono (tp fun _ _ g=>jq (iz a b) g)⟩)
   (fun l e rr he=>by
    obtain ⟨s1,k1,k2⟩:=h.2 l e rr he;obtain ⟨m2,k2⟩:=Lk k2;unfold om at k1;obtain ⟨o,k3,k4⟩:=aa.1 k1;obtain ⟨m1,k3⟩:=my.1 k3;refine ⟨max m1 m2,s1,?_,k2.mono (tp fun _ _ g=>jq (iz m1 m2) g)⟩
    unfold om;rw [jq (ko m1 m2) k3,ah];exact k4)
  exact ⟨m,h.1,hm⟩
theorem a5f {r:Rng} {c:Cd} {j:Nat} {es:List (MK×Int)} {s':St} (hm:a6v r s=some (j,es)) (h:RangeTo (om r (dn O np c)) es.length es ⟨s.e.keep r.ks,ma (s.e.keep r.ks) np 0 (freeze s.h [j])⟩ s'):dn O np (.range r c) s=some (.normal,s'):=by
 obtain ⟨m,hm'⟩:=Lk h;refine my.2 ⟨m,?_⟩;simp only [dm];rw [hm,ah,wg.2 hm',bc]
theorem RangeTo.by {f:MK×Int→St→Option St} (G:List (MK×Int)→St) (es0:List (MK×Int)) (hG:∀l e r,(∀x∈l++e::r,x∈es0)→(l++e::r).length≤es0.length→((l++e::r).map (·.1)).Nodup→f e (G (l++e::r))=some (G (l++r))) :
 ∀(n:Nat) (es:List (MK×Int)),es.length=n→(∀x∈es,x∈es0)→es.length≤es0.length→(es.map (·.1)).Nodup→RangeTo f n es (G es) (G [])
 | 0,es,h,_,_,_=>by
  obtain rfl:=ej.1 h;exact ⟨rfl,rfl⟩
 | n+1,es,h,h1,h2,h3=>⟨h,fun l e r g=>by
  subst g;refine ⟨_,hG l e r h1 h2 h3,RangeTo.by G es0 hG n (l++r) (by simp at h ⊢; omega) (fun x hx=>h1 x ?_) (by simp at h2 ⊢; omega) ?_⟩
  ·simp only [bp,dp] at hx ⊢
   exact hx.imp id .inr
  ·exact h3.sublist (List.Sublist.map _ (List.Sublist.append (List.Sublist.refl _) (List.sublist_cons_self _ _)))⟩
end
def fin (fn:Fn) (np:Nat) (r:Out×St):Option Ans:=
 match r.1 with
 | .exit _=>none
 | _=>if r.2.h.length=np+fn.nblk then (xx r.2 fn.results).bind fun rs=>
  let v:=nm rs
  let own:=(t7 v.refs).filter (np≤·)
  (r.2.h.pick own).map fun nb=>
   (v.ren (fun i=>if i<np then i else np+own.idxOf i),r.2.h.take np,nb)
  else none
theorem pm {T:Nat→Option Fn} {A:am} {f:Nat} {fn:Fn} (hT:T f=some fn) {vs:List V} {bs:Heap} {ans:Ans} (hl:vs.length=fn.nparams)
 (h:(dn (den T A) bs.length fn.body ⟨params 0 vs,bs++List.replicate fn.nblk .hole⟩).bind (fin fn bs.length)=some ans):den T A f vs bs=some ans:=by
 obtain ⟨r,h1,h2⟩:=aa.1 h;obtain ⟨n,h1⟩:=my.1 h1;refine Q3 hT (n:=n) ?_;unfold run;rw [if_pos hl,h1,ah];exact h2
def ahy (np:Nat) (ks:List Nat) (s:St):Out×St:=(.normal,⟨s.e.keep ks,ma (s.e.keep ks) np 0 s.h⟩)
@[simp] theorem aku (np:Nat) (ks:List Nat) (e:Env) (h:Heap):ahy np ks ⟨e,h⟩=(.normal,⟨e.keep ks,ma (e.keep ks) np 0 h⟩):=rfl
@[simp] theorem anf {O:am} {np:Nat} {s:St} (is:List Ins) (ks:List Nat):dn O np (.region is ks) s=(fy O np is s).map (ahy np ks):=a3l is ks
def ajm (e:Env) (i:Ins) (r:V×Heap):St:=⟨(e.kill (i.op.kill e r.1)).putO i.dst r.1,r.2⟩
@[simp] theorem alk (e:Env) (i:Ins) (v:V) (h:Heap):ajm e i (v,h)=⟨(e.kill (i.op.kill e v)).putO i.dst v,h⟩:=rfl
def ac9 (O:am) (np:Nat) (s:St) (i:Ins):Option Bool→Option St
 | some true=>(b6 O np s.e s.h i.op).map (ajm s.e i)
 | some false=>some ⟨s.e.putO i.dst (.tup []),s.h⟩
 | none=>none
@[simp] theorem adh (O:am) (np:Nat) (s:St) (i:Ins):gv O np s i=ac9 O np s i (i.on s.e):=rfl
section
variable {O:am} {np:Nat} {e:Env} {h:Heap}
def kNt (x:D):Option D:=if x.isTup then none else some x
def kEl (p:List Nat) (b:Blk):Option (Sh×List D):=b.elems p
def Ig (p:List Nat) (b:Blk):Option D:=b.get p
def slD (off len:Nat):Option (Sh×List D)→Option D
 | some (s,cs)=>if off+len≤cs.length then some (.sl s ((cs.drop off).take len)) else none
 | none=>none
@[simp] theorem amt (x:D):kNt x=if x.isTup then none else some x:=rfl
@[simp] theorem amv (p:List Nat) (b:Blk):kEl p b=b.elems p:=rfl
@[simp] theorem aky (p:List Nat) (b:Blk):Ig p b=b.get p:=rfl
@[simp] theorem ah0 (off len:Nat) (s:Sh) (cs:List D):slD off len (some (s,cs))=if off+len≤cs.length then some (.sl s ((cs.drop off).take len)) else none:=rfl
@[simp] theorem alc (v:V):B7 h v=(toD h v).bind kNt:=rfl
@[simp] theorem aoi (x:D):toD h (.d x)=some x:=by simp [toD]
def aea (p:List Nat) (b:Blk):Option (Sh×List D):=b.dels p
@[simp] theorem alb (p:List Nat) (b:Blk):aea p b=b.dels p:=rfl
@[simp] theorem alx (fr:Bool) (s:Sh) (cs:List D) (p:List Nat):(Blk.sl fr s cs).dels p=(Blk.sl fr s cs).elems p:=rfl
@[simp] theorem ai5 (fr:Bool) (d:D) (p:List Nat):(Blk.box fr d).dels p=(Blk.box fr d).elems p:=rfl
@[simp] theorem aie (fr:Bool) (s:Sh) (idx:List Nat) (rows:List (List D)):(Blk.tb fr s idx rows).dels [0]=(H7 s rows idx).map (Prod.mk .leaf):=rfl
@[simp] theorem aj2 (fr:Bool) (s:Sh) (idx:List Nat) (rows:List (List D)) (r:Nat):(Blk.tb fr s idx rows).dels [r+1]=(rows[r]?).map (Prod.mk s):=rfl
@[simp] theorem amj (i:Nat) (p:List Nat) (off len:Nat) (cap:Option Nat):toD h (.sl i p off len cap)=slD off len ((h[i]?).bind (aea p)):=by
 have:(aea p)=(Blk.dels · p):=rfl
 rw [this];simp only [toD];cases (h[i]?).bind (Blk.dels · p) <;> rfl
@[simp] theorem aog (x:D):toE h (.d x)=some x:=rfl
@[simp] theorem am2 (i:Nat) (p:List Nat) (off len:Nat) (cap:Option Nat):toE h (.sl i p off len cap)=slD off len ((h[i]?).bind (kEl p)):=by
 have:(kEl p)=(Blk.elems · p):=rfl
 rw [this];simp only [toE];cases (h[i]?).bind (Blk.elems · p) <;> rfl
@[simp] theorem aka (i:Nat) (p:List Nat):toD h (.ptr i p)=((h[i]?).bind (Ig p)).map .ip:=by simp only [toD]; rfl
def kFn (h:Heap) (f:Nat) (caps:List V) (a:List D):Option D:=(py h caps).map (.fn f a)
@[simp] theorem ams (f:Nat) (caps:List V) (a:List D):kFn h f caps a=(py h caps).map (.fn f a):=rfl
@[simp] theorem anm (f:Nat) (first caps:List V):toD h (.fn f first caps)=(py h first).bind (kFn h f caps):=by simp only [toD]; rfl
@[simp] theorem akl (vs:List V):toD h (.tup vs)=(py h vs).map .tup:=by simp only [toD]
def kDs (h:Heap) (vs:List V) (x:D):Option (List D):=if x.isTup then none else (py h vs).map (List.cons x)
@[simp] theorem ad6 (vs:List V) (x:D):kDs h vs x=if x.isTup then none else (py h vs).map (List.cons x):=rfl
@[simp] theorem ait:py h []=some []:=by simp [py]
@[simp] theorem a3q (v:V) (vs:List V):py h (v::vs)=(toD h v).bind (kDs h vs):=by simp only [py]; rfl
def act (e:Env) (as:List Arg) (v:V):Option (List V):=(e.args as).map (List.cons v)
@[simp] theorem aj4 (as:List Arg) (v:V):act e as v=(e.args as).map (List.cons v):=rfl
@[simp] theorem ah1:e.args []=some []:=rfl
@[simp] theorem agh (a:Arg) (as:List Arg):e.args (a::as)=(e.arg a).bind (act e as):=rfl
def kMv (h:Heap) (v:V):V×Heap:=(v,h)
@[simp] theorem ao7 (v:V):kMv h v=(v,h):=rfl
@[simp] theorem aoe (x:Arg):b6 O np e h (.mv x)=(e.arg x).map (kMv h):=rfl
def ael (h:Heap):V→Option (V×Heap)
 | .d (.ip y)=>some (.d (.ip y),h)
 | .ptr i p=>some (.ptr i p,h)
 | _=>none
@[simp] theorem amn (y:D):ael h (.d (.ip y))=some (.d (.ip y),h):=rfl
@[simp] theorem am9 (i:Nat) (p:List Nat):ael h (.ptr i p)=some (.ptr i p,h):=rfl
@[simp] theorem ank (x:Arg):b6 O np e h (.chk x)=(e.arg x).bind (ael h):=by
 simp only [b6];cases e.arg x with
 | none=>rfl
 | some v=>cases v <;> try rfl
           rename_i d; cases d <;> rfl
def acq (e:Env) (h:Heap) (a b:Arg):V→Option (V×Heap)
 | .d (.bool t)=>(e.arg (if t then a else b)).map (kMv h)
 | _=>none
@[simp] theorem al9 (a b:Arg) (t:Bool):acq e h a b (.d (.bool t))=(e.arg (if t then a else b)).map (kMv h):=rfl
@[simp] theorem ak0 (c a b:Arg):b6 O np e h (.pick c a b)=(e.arg c).bind (acq e h a b):=by
 simp only [b6];cases e.arg c with
 | none=>rfl
 | some v=>cases v <;> try rfl
           rename_i d; cases d <;> rfl
def a5u (i:Nat) (d:D) (h:Heap):Option (V×Heap):=(i8 h i (.box false d)).map (Prod.mk (.ptr i []))
@[simp] theorem ajf (i:Nat) (d:D):a5u i d h=(i8 h i (.box false d)).map (Prod.mk (.ptr i [])):=rfl
def a87 (np:Nat) (h:Heap) (fz:Bool) (i:Nat) (rs:List Nat) (d:D):Option (V×Heap):=(freezeIf fz h rs).bind (a5u (np+i) d)
@[simp] theorem ahg (fz:Bool) (i:Nat) (rs:List Nat) (d:D):a87 np h fz i rs d=(freezeIf fz h rs).bind (a5u (np+i) d):=rfl
def ajj (np:Nat) (h:Heap) (fz:Bool) (i:Nat) (v:V):Option (V×Heap):=(B7 h v).bind (a87 np h fz i v.refs)
@[simp] theorem ak6 (fz:Bool) (i:Nat) (v:V):ajj np h fz i v=(B7 h v).bind (a87 np h fz i v.refs):=rfl
@[simp] theorem amk (fz:Bool) (i:Nat) (x:Arg):b6 O np e h (.box fz i x)=(e.arg x).bind (ajj np h fz i):=rfl
def Ly (h:Heap) (s:Sh) (x:D):Option (V×Heap):=if Sh.beq x.sh s then some (.d x,h) else none
@[simp] theorem ag3 (s:Sh) (x:D):Ly h s x=if Sh.beq x.sh s then some (.d x,h) else none:=rfl
def a6x (h:Heap) (s:Sh):V→Option (V×Heap)
 | .d (.ip x)=>Ly h s x
 | .ptr i p=>((h[i]?).bind (Ig p)).bind (Ly h s)
 | _=>none
@[simp] theorem akf (s:Sh) (x:D):a6x h s (.d (.ip x))=Ly h s x:=rfl
@[simp] theorem akb (s:Sh) (i:Nat) (p:List Nat):a6x h s (.ptr i p)=((h[i]?).bind (Ig p)).bind (Ly h s):=rfl
@[simp] theorem akr (s:Sh) (x:Arg):b6 O np e h (.load s x)=(e.arg x).bind (a6x h s):=by
 simp only [b6];cases e.arg x with
 | none=>rfl
 | some v=>cases v <;> try rfl
           rename_i d; cases d <;> rfl
def abg (h:Heap) (o:BinOp):V→V→Option (V×Heap)
 | .d a,.d b=>(ut o a b).map fun r=>(.d r,h)
 | _,_=>none
def kD (h:Heap) (r:D):V×Heap:=(.d r,h)
@[simp] theorem aod (r:D):kD h r=(.d r,h):=rfl
@[simp] theorem ao5 (o:BinOp) (a b:D):abg h o (.d a) (.d b)=(ut o a b).map (kD h):=rfl
def a18 (e:Env) (h:Heap) (o:BinOp) (y:Arg) (v:V):Option (V×Heap):=(e.arg y).bind (abg h o v)
@[simp] theorem ahf (o:BinOp) (y:Arg) (v:V):a18 e h o y v=(e.arg y).bind (abg h o v):=rfl
@[simp] theorem ao9 (o:BinOp) (x y:Arg):b6 O np e h (.bin o x y)=(e.arg x).bind (a18 e h o y):=by
 simp only [b6];cases e.arg x with
 | none=>rfl
 | some v=>
  cases hy:e.arg y with
  | none=>cases v <;> simp [a18,hy]
  | some w=>cases v <;> cases w <;> simp [a18,hy,abg]
theorem two {α:Type} {x y:Option V} {f:V→V→Option α} {g:Option α} (h1:∀v w,x=some v→y=some w→g=f v w) (h2:x=none∨y=none→g=none):g=x.bind fun v=>y.bind (f v):=by
 cases hx:x with
 | none=>exact h2 (.inl hx)
 | some v=>
  cases hy:y with
  | none=>exact h2 (.inr hy)
  | some w=>exact h1 v w hx hy
def kUn (h:Heap) (o:UnOp):V→Option (V×Heap)
 | .d a=>(unD o a).map (kD h)
 | _=>none
@[simp] theorem aoc (o:UnOp) (a:D):kUn h o (.d a)=(unD o a).map (kD h):=rfl
@[simp] theorem aoj (o:UnOp) (x:Arg):b6 O np e h (.un o x)=(e.arg x).bind (kUn h o):=by
 simp only [b6];cases e.arg x with
 | none=>rfl
 | some v=>cases v <;> rfl
def ad0 (h:Heap) (k:IntKind):V→Option (V×Heap)
 | .d (.int _ n)=>some (.d (.int k (k.wrap n)),h)
 | _=>none
@[simp] theorem akv (k q:IntKind) (n:Int):ad0 h k (.d (.int q n))=some (.d (.int k (k.wrap n)),h):=rfl
@[simp] theorem akc (k:IntKind) (x:Arg):b6 O np e h (.conv k x)=(e.arg x).bind (ad0 h k):=by
 simp only [b6];cases e.arg x with
 | none=>rfl
 | some v=>cases v <;> try rfl
           rename_i d; cases d <;> rfl
def aiy (h:Heap) (ss:List Sh) (j:Nat):V→Option (V×Heap)
 | .d (.st ts cs)=>if Sh.beqs ts ss then (cs[j]?).map (kD h) else none
 | _=>none
@[simp] theorem amf (ss ts:List Sh) (j:Nat) (cs:List D):aiy h ss j (.d (.st ts cs))=if Sh.beqs ts ss then (cs[j]?).map (kD h) else none:=rfl
@[simp] theorem amp (ss:List Sh) (x:Arg) (j:Nat):b6 O np e h (.fld ss x j)=(e.arg x).bind (aiy h ss j):=by
 simp only [b6];cases e.arg x with
 | none=>rfl
 | some v=>cases v <;> try rfl
           rename_i d; cases d <;> rfl
def kIp (h:Heap) (c:D):V×Heap:=(.d (.ip c),h)
@[simp] theorem am0 (c:D):kIp h c=(.d (.ip c),h):=rfl
def Wo (h:Heap) (ss:List Sh) (i:Nat) (p:List Nat) (y:D):Option (V×Heap):=if Sh.beq y.sh (.st ss) then some (.ptr i p,h) else none
@[simp] theorem afx (ss:List Sh) (i:Nat) (p:List Nat) (y:D):Wo h ss i p y=if Sh.beq y.sh (.st ss) then some (.ptr i p,h) else none:=rfl
def a55 (h:Heap) (ss:List Sh) (j:Nat):V→Option (V×Heap)
 | .ptr i p=>((h[i]?).bind (Ig p)).bind (Wo h ss i (p++[j]))
 | .d (.ip (.st ts cs))=>if Sh.beqs ts ss then (cs[j]?).map (kIp h) else none
 | _=>none
@[simp] theorem akw (ss:List Sh) (j i:Nat) (p:List Nat):a55 h ss j (.ptr i p)=((h[i]?).bind (Ig p)).bind (Wo h ss i (p++[j])):=rfl
@[simp] theorem ak7 (ss ts:List Sh) (j:Nat) (cs:List D):a55 h ss j (.d (.ip (.st ts cs)))=if Sh.beqs ts ss then (cs[j]?).map (kIp h) else none:=rfl
@[simp] theorem al0 (ss:List Sh) (x:Arg) (j:Nat):b6 O np e h (.fldA ss x j)=(e.arg x).bind (a55 h ss j):=by
 simp only [b6];cases e.arg x with
 | none=>rfl
 | some v=>cases v <;> try rfl
           rename_i d; cases d <;> try rfl
           rename_i d; cases d <;> rfl
def afa (h:Heap) (j:Nat):V→Option (V×Heap)
 | .d (.tup vs)=>(vs[j]?).map (kD h)
 | .tup vs=>(vs[j]?).map (kMv h)
 | _=>none
@[simp] theorem anh (j:Nat) (vs:List D):afa h j (.d (.tup vs))=(vs[j]?).map (kD h):=rfl
@[simp] theorem amc (j:Nat) (vs:List V):afa h j (.tup vs)=(vs[j]?).map (kMv h):=rfl
@[simp] theorem amq (x:Arg) (j:Nat):b6 O np e h (.ext x j)=(e.arg x).bind (afa h j):=by
 simp only [b6];cases e.arg x with
 | none=>rfl
 | some v=>cases v <;> try rfl
           rename_i d; cases d <;> rfl
def aau (h:Heap):Bool→V→Option (V×Heap)
 | false,.d (.sl _ cs)=>some (.d (.int .i64 cs.length),h)
 | false,.sl _ _ _ n _=>some (.d (.int .i64 n),h)
 | true,.d (.str b)=>some (.d (.int .i64 b.size),h)
 | _,_=>none
@[simp] theorem an0 (s:Sh) (cs:List D):aau h false (.d (.sl s cs))=some (.d (.int .i64 cs.length),h):=rfl
@[simp] theorem am7 (i:Nat) (p:List Nat) (off n:Nat) (cap:Option Nat):aau h false (.sl i p off n cap)=some (.d (.int .i64 n),h):=rfl
@[simp] theorem am1 (b:ByteArray):aau h true (.d (.str b))=some (.d (.int .i64 b.size),h):=rfl
@[simp] theorem anc (str:Bool) (x:Arg):b6 O np e h (.len str x)=(e.arg x).bind (aau h str):=by
 cases str <;> simp only [b6]
 ·cases e.arg x with
  | none=>rfl
  | some v=>cases v <;> try rfl
            rename_i d; cases d <;> rfl
 ·cases e.arg x with
  | none=>rfl
  | some v=>cases v <;> try rfl
            rename_i d; cases d <;> rfl
def El (O:am) (np:Nat) (h:Heap) (m:Mode) (news:List Nat) (g:Nat×List V×List V) (vs:List V):Option (V×Heap):=
 match m with
 | .heap=>oq O np news h g.1 (g.2.1++vs++g.2.2)
 | _=>jy O m h g.1 (g.2.1++vs++g.2.2)
def Qb (O:am) (np:Nat) (e:Env) (h:Heap) (m:Mode) (news:List Nat) (as:List Arg) (g:Nat×List V×List V):Option (V×Heap):=(e.args as).bind (El O np h m news g)
@[simp] theorem ag2 (m:Mode) (news:List Nat) (as:List Arg) (g:Nat×List V×List V):Qb O np e h m news as g=(e.args as).bind (El O np h m news g):=rfl
def Xz (O:am) (np:Nat) (e:Env) (h:Heap) (m:Mode) (news:List Nat) (as:List Arg) (fv:V):Option (V×Heap):=(callee fv).bind (Qb O np e h m news as)
@[simp] theorem aga (m:Mode) (news:List Nat) (as:List Arg) (fv:V):Xz O np e h m news as fv=(callee fv).bind (Qb O np e h m news as):=rfl
@[simp] theorem alf (m:Mode) (news:List Nat) (f:Arg) (as:List Arg):b6 O np e h (.call m news f as)=(e.arg f).bind (Xz O np e h m news as):=by
 simp only [b6];cases e.arg f with
 | none=>rfl
 | some fv=>
  simp only [ah,Xz];cases callee fv with
  | none=>rfl
  | some g=>
   simp only [ah,Qb];cases e.args as with
   | none=>rfl
   | some vs=>cases m <;> rfl
def a3d (m:Mode) (h:Heap) (rs:List Nat) (x:D):Option (V×Heap):=
 match m with
 | .flat=>if x.flat then some (.d x,h) else none
 | .plain=>if rs.isEmpty then some (.d x,h) else none
 | _=>some (.d x,freeze h rs)
@[simp] theorem Gz (rs:List Nat) (x:D):a3d .flat h rs x=if x.flat then some (.d x,h) else none:=rfl
@[simp] theorem aeh (rs:List Nat) (x:D):a3d .plain h rs x=if rs.isEmpty then some (.d x,h) else none:=rfl
@[simp] theorem agq (rs:List Nat) (x:D):a3d .data h rs x=some (.d x,freeze h rs):=rfl
def aec (m:Mode) (h:Heap) (rs:List Nat):Ans→Option (V×Heap)
 | (v,_,nb)=>(toD nb v).bind (a3d m h rs)
@[simp] theorem akp (m:Mode) (rs:List Nat) (v:V) (bs nb:Heap):aec m h rs (v,bs,nb)=(toD nb v).bind (a3d m h rs):=rfl
def W0 (O:am) (m:Mode) (h:Heap) (f:Nat) (rs:List Nat) (ds:List D):Option (V×Heap):=(O f (ds.map .d) []).bind (aec m h rs)
def aem:Ans→Option D
 | (v,_,nb)=>toD nb v
@[simp] theorem ald (v:V) (bs nb:Heap):aem (v,bs,nb)=toD nb v:=rfl
def ask (O:am) (f:Nat) (ds:List D):Option D:=(O f (ds.map .d) []).bind aem
@[simp] theorem L3 (m:Mode) (f:Nat) (rs:List Nat) (ds:List D):W0 O m h f rs ds=(ask O f ds).bind (a3d m h rs):=by
 unfold W0 ask;cases O f (ds.map .d) [] with
 | none=>rfl
 | some r=>obtain ⟨v,bs,nb⟩:=r; rfl
theorem A7 (m:Mode) (f:Nat) (vs:List V):jy O m h f vs=(py h vs).bind (W0 O m h f (V.refss vs)):=by
 unfold jy;cases py h vs with
 | none=>rfl
 | some ds=>
  simp only [ah,W0];cases O f (ds.map .d) [] with
  | none=>rfl
  | some r=>
   obtain ⟨v,bs,nb⟩:=r;simp only [ah,aec];cases toD nb v with
   | none=>rfl
   | some x=>cases m <;> rfl
@[simp] theorem Cz (news:List Nat) (f:Nat) (a c vs:List V):El O np h .flat news (f,a,c) vs=(py h (a++vs++c)).bind (W0 O .flat h f (V.refss (a++vs++c))):=by
 show jy O .flat h f (a++vs++c)=_;exact A7 _ _ _
@[simp] theorem acy (news:List Nat) (f:Nat) (a c vs:List V):El O np h .plain news (f,a,c) vs=(py h (a++vs++c)).bind (W0 O .plain h f (V.refss (a++vs++c))):=by
 show jy O .plain h f (a++vs++c)=_;exact A7 _ _ _
@[simp] theorem adc (news:List Nat) (f:Nat) (a c vs:List V):El O np h .data news (f,a,c) vs=(py h (a++vs++c)).bind (W0 O .data h f (V.refss (a++vs++c))):=by
 show jy O .data h f (a++vs++c)=_;exact A7 _ _ _
@[simp] theorem aer (news:List Nat) (f:Nat) (a c vs:List V):El O np h .heap news (f,a,c) vs=oq O np news h f (a++vs++c):=rfl
def afi (h:Heap) (i:Nat) (b:Blk):V×Heap:=(.tup [],h.set i b)
@[simp] theorem als (i:Nat) (b:Blk):afi h i b=(.tup [],h.set i b):=rfl
def ae9 (h:Heap) (i:Nat) (p:List Nat) (d:D) (b:Blk):Option (V×Heap):=(b.set p d).map (afi h i)
@[simp] theorem al2 (i:Nat) (p:List Nat) (d:D) (b:Blk):ae9 h i p d b=(b.set p d).map (afi h i):=rfl
def Pt (s:Sh) (d:D) (h:Heap):V→Option (V×Heap)
 | .ptr i p=>if Sh.beq d.sh s then (h[i]?).bind (ae9 h i p d) else none
 | _=>none
@[simp] theorem agr (s:Sh) (d:D) (i:Nat) (p:List Nat):Pt s d h (.ptr i p)=if Sh.beq d.sh s then (h[i]?).bind (ae9 h i p d) else none:=rfl
def Je (e:Env) (s:Sh) (p:Arg) (d:D) (h:Heap):Option (V×Heap):=(e.arg p).bind (Pt s d h)
@[simp] theorem aeu (s:Sh) (p:Arg) (d:D):Je e s p d h=(e.arg p).bind (Pt s d h):=rfl
def J1 (e:Env) (h:Heap) (fz:Bool) (s:Sh) (p:Arg) (rs:List Nat) (d:D):Option (V×Heap):=(freezeIf fz h rs).bind (Je e s p d)
@[simp] theorem af1 (fz:Bool) (s:Sh) (p:Arg) (rs:List Nat) (d:D):J1 e h fz s p rs d=(freezeIf fz h rs).bind (Je e s p d):=rfl
def Xf (e:Env) (h:Heap) (fz:Bool) (s:Sh) (p:Arg) (v:V):Option (V×Heap):=(B7 h v).bind (J1 e h fz s p v.refs)
@[simp] theorem ag1 (fz:Bool) (s:Sh) (p:Arg) (v:V):Xf e h fz s p v=(B7 h v).bind (J1 e h fz s p v.refs):=rfl
@[simp] theorem ahx (fz:Bool) (s:Sh) (p x:Arg):b6 O np e h (.store fz s p x)=(e.arg x).bind (Xf e h fz s p):=by
 simp only [b6];cases e.arg x with
 | none=>rfl
 | some v=>
  simp only [ah,Xf];cases B7 h v with
  | none=>rfl
  | some d=>
   simp only [ah,J1];cases freezeIf fz h v.refs with
   | none=>rfl
   | some h'=>
    simp only [ah,Je];cases e.arg p with
    | none=>rfl
    | some w=>cases w <;> rfl
def Wh (h:Heap) (s:Sh) (n:Nat) (i:Nat) (_p:List Nat) (k:Nat) (pp:List Nat) (q:Sh×List D):Option (V×Heap):=if Sh.beq q.1 s∧k<n then some (.ptr i pp,h) else none
@[simp] theorem afo (s:Sh) (n i:Nat) (p:List Nat) (k:Nat) (pp:List Nat) (t:Sh) (cs:List D):Wh h s n i p k pp (t,cs)=if Sh.beq t s∧k<n then some (.ptr i pp,h) else none:=rfl
def a08 (h:Heap) (s:Sh):V→Nat→Option (V×Heap)
 | .sl i p off n _,k=>((h[i]?).bind (kEl p)).bind (Wh h s n i p k (p++[off+k]))
 | .d (.sl t cs),k=>if Sh.beq t s then (cs[k]?).map (kIp h) else none
 | _,_=>none
@[simp] theorem ak9 (s:Sh) (i:Nat) (p:List Nat) (off n:Nat) (cap:Option Nat) (k:Nat):a08 h s (.sl i p off n cap) k=((h[i]?).bind (kEl p)).bind (Wh h s n i p k (p++[off+k])):=rfl
@[simp] theorem ala (s t:Sh) (cs:List D) (k:Nat):a08 h s (.d (.sl t cs)) k=if Sh.beq t s then (cs[k]?).map (kIp h) else none:=rfl
def Wg (e:Env) (h:Heap) (s:Sh) (j:Arg) (v:V):Option (V×Heap):=((e.arg j).bind V.nat?).bind (a08 h s v)
@[simp] theorem agi (s:Sh) (j:Arg) (v:V):Wg e h s j v=((e.arg j).bind V.nat?).bind (a08 h s v):=rfl
@[simp] theorem alu (s:Sh) (x j:Arg):b6 O np e h (.idxA none s x j)=(e.arg x).bind (Wg e h s j):=by
 simp only [b6];cases e.arg x with
 | none=>rfl
 | some v=>
  simp only [ah,Wg];cases (e.arg j).bind V.nat? with
  | none=>cases v <;> try rfl
          rename_i d; cases d <;> rfl
  | some k=>cases v <;> try rfl
            rename_i d; cases d <;> rfl
@[simp] theorem aa5 (s:St):fy O np [] s=some s:=rfl
@[simp] theorem a9q (i:Ins) (is:List Ins) (s:St):fy O np (i::is) s=(n8 O np s i).bind (fy O np is):=rfl
@[simp] theorem ag0 (i:Nat) (s:Sh):b6 O np e h (.nilOwn i s)=(i8 h (np+i) (.sl false s [])).map (Prod.mk (.sl (np+i) [] 0 0 (some 0))):=rfl
@[simp] theorem ak1:b6 O np e h .fail=none:=rfl
def Vd (h:Heap) (f:Nat) (us vs:List V):V×Heap:=(.fn f us vs,h)
@[simp] theorem ag9 (f:Nat) (us vs:List V):Vd h f us vs=(.fn f us vs,h):=rfl
def ach (e:Env) (h:Heap) (f:Nat) (cs:List Arg) (us:List V):Option (V×Heap):=(e.args cs).map (Vd h f us)
@[simp] theorem ahi (f:Nat) (cs:List Arg) (us:List V):ach e h f cs us=(e.args cs).map (Vd h f us):=rfl
@[simp] theorem akd (f:Nat) (as cs:List Arg):b6 O np e h (.mkFn f as cs)=(e.args as).bind (ach e h f cs):=rfl
def a6b (h:Heap):V→V→Option (V×Heap)
 | .d (.int k a),.d (.int k' b)=>if k=k' then some (.d (.int k (if a<b then b else a)),h) else none
 | _,_=>none
@[simp] theorem alj (k k':IntKind) (a b:Int):a6b h (.d (.int k a)) (.d (.int k' b))=if k=k' then some (.d (.int k (if a<b then b else a)),h) else none:=rfl
def ae4 (e:Env) (h:Heap) (y:Arg) (v:V):Option (V×Heap):=(e.arg y).bind (a6b h v)
@[simp] theorem akh (y:Arg) (v:V):ae4 e h y v=(e.arg y).bind (a6b h v):=rfl
@[simp] theorem al5 (x y:Arg):b6 O np e h (.maxI x y)=(e.arg x).bind (ae4 e h y):=by
 simp only [b6];cases e.arg x with
 | none=>rfl
 | some v=>
  simp only [ah,ae4];cases e.arg y with
  | none=>cases v <;> try rfl
          rename_i d; cases d <;> rfl
  | some w=>cases v <;> try rfl
            rename_i d; cases d <;> try rfl
            cases w <;> try rfl
            rename_i d; cases d <;> rfl
def a4c (h:Heap):V→V→Option (V×Heap)
 | .d (.int k a),.d (.int k' b)=>if k=k' then some (.d (.int k (if b<a then b else a)),h) else none
 | _,_=>none
@[simp] theorem al7 (k k':IntKind) (a b:Int):a4c h (.d (.int k a)) (.d (.int k' b))=if k=k' then some (.d (.int k (if b<a then b else a)),h) else none:=rfl
def afg (e:Env) (h:Heap) (y:Arg) (v:V):Option (V×Heap):=(e.arg y).bind (a4c h v)
@[simp] theorem ak8 (y:Arg) (v:V):afg e h y v=(e.arg y).bind (a4c h v):=rfl
@[simp] theorem alp (x y:Arg):b6 O np e h (.minI x y)=(e.arg x).bind (afg e h y):=by
 simp only [b6];cases e.arg x with
 | none=>rfl
 | some v=>
  simp only [ah,afg];cases e.arg y with
  | none=>cases v <;> try rfl
          rename_i d; cases d <;> rfl
  | some w=>cases v <;> try rfl
            rename_i d; cases d <;> try rfl
            cases w <;> try rfl
            rename_i d; cases d <;> rfl
def a9d (h:Heap) (neg:Bool):V→Option (V×Heap)
 | .d (.sl _ (_::_))=>some (.d (.bool neg),h)
 | .sl _ _ _ (_+1) _=>some (.d (.bool neg),h)
 | _=>none
@[simp] theorem alq (neg:Bool) (s:Sh) (c:D) (cs:List D):a9d h neg (.d (.sl s (c::cs)))=some (.d (.bool neg),h):=rfl
@[simp] theorem akq (neg:Bool) (i:Nat) (p:List Nat) (off n:Nat) (cap:Option Nat):a9d h neg (.sl i p off (n+1) cap)=some (.d (.bool neg),h):=rfl
def Vf (np:Nat) (h:Heap) (i:Nat) (s:Sh) (z:D) (bytes n m:Nat):Option (V×Heap):=
 if n≤m∧m*bytes≤1099511627776 then (i8 h (np+i) (.sl false s (List.replicate n z))).map (Prod.mk (.sl (np+i) [] 0 n (if n=m then some n else none))) else none
@[simp] theorem agl (i:Nat) (s:Sh) (z:D) (bytes n m:Nat):Vf np h i s z bytes n m =
 if n≤m∧m*bytes≤1099511627776 then (i8 h (np+i) (.sl false s (List.replicate n z))).map (Prod.mk (.sl (np+i) [] 0 n (if n=m then some n else none))) else none:=rfl
def a70 (np:Nat) (e:Env) (h:Heap) (i:Nat) (s:Sh) (z:D) (bytes:Nat) (c:Arg) (n:Nat):Option (V×Heap):=((e.arg c).bind V.nat?).bind (Vf np h i s z bytes n)
@[simp] theorem agy (i:Nat) (s:Sh) (z:D) (bytes:Nat) (c:Arg) (n:Nat):a70 np e h i s z bytes c n=((e.arg c).bind V.nat?).bind (Vf np h i s z bytes n):=rfl
@[simp] theorem ajz (i:Nat) (s:Sh) (z:D) (bytes:Nat) (l c:Arg):b6 O np e h (.mkSl i s z bytes l c)=((e.arg l).bind V.nat?).bind (a70 np e h i s z bytes c):=by
 simp only [b6];cases (e.arg l).bind V.nat? with
 | none=>rfl
 | some n=>
  simp only [ah,a70];cases (e.arg c).bind V.nat? with
  | none=>rfl
  | some m=>rfl
@[simp] theorem al8 (neg:Bool) (x:Arg):b6 O np e h (.nilq neg x)=(e.arg x).bind (a9d h neg):=by
 simp only [b6];cases e.arg x with
 | none=>rfl
 | some v=>
  cases v with
  | d d=>cases d <;> try rfl
         rename_i s cs; cases cs <;> rfl
  | sl i p off n cap=>cases n <;> rfl
  | _=>rfl
def a88 (h:Heap):D→Option (V×Heap)
 | .sl .leaf cs=>(vu cs).map fun bs=>(.d (.str ⟨bs.toArray⟩),h)
 | _=>none
@[simp] theorem alg (cs:List D):a88 h (.sl .leaf cs)=(vu cs).map fun bs=>(.d (.str ⟨bs.toArray⟩),h):=rfl
def aid (h:Heap) (v:V):Option (V×Heap):=(toE h v).bind (a88 h)
@[simp] theorem akj (v:V):aid h v=(toE h v).bind (a88 h):=rfl
@[simp] theorem ajv (x:Arg):b6 O np e h (.toStr x)=(e.arg x).bind (aid h):=rfl
def Ru (h:Heap) (s:Sh) (z:D) (j off n:Nat):Blk→Option (V×Heap)
 | .sl false t' cs=>if Sh.beq t' s∧off+n≤cs.length then some (.tup [],h.set j (.sl false t' (cs.take off++List.replicate n z++cs.drop (off+n)))) else none
 | _=>none
@[simp] theorem ag6 (s:Sh) (z:D) (j off n:Nat) (t':Sh) (cs:List D):Ru h s z j off n (.sl false t' cs)=if Sh.beq t' s∧off+n≤cs.length then some (.tup [],h.set j (.sl false t' (cs.take off++List.replicate n z++cs.drop (off+n)))) else none:=rfl
def W3 (h:Heap) (s:Sh) (z:D):V→Option (V×Heap)
 | .sl j [] off n _=>(h[j]?).bind (Ru h s z j off n)
 | _=>none
@[simp] theorem ahn (s:Sh) (z:D) (j off n:Nat) (cap:Option Nat):W3 h s z (.sl j [] off n cap)=(h[j]?).bind (Ru h s z j off n):=rfl
@[simp] theorem aj1 (s:Sh) (z:D) (x:Arg):b6 O np e h (.clear s z x)=(e.arg x).bind (W3 h s z):=by
 simp only [b6];cases e.arg x with
 | none=>rfl
 | some v=>
  cases v <;> try rfl
  rename_i j p off n cap
  cases p <;> try rfl
  simp only [ah,W3];cases h[j]? with
  | none=>rfl
  | some b=>
   cases b <;> try rfl
   rename_i fr t cs
   cases fr <;> rfl
def a8g (np:Nat) (h:Heap) (i j n:Nat):Blk→Option (V×Heap)
 | .sl false s cs=>if n=cs.length∧0<n∧np≤j then (i8 (h.set j (Blk.toGone (.sl false s cs))) (np+i) (.tb false s [0] [cs])).map (Prod.mk (.sl (np+i) [0] 0 1 (some 1))) else none
 | _=>none
@[simp] theorem ali (i j n:Nat) (s:Sh) (cs:List D):a8g np h i j n (.sl false s cs)=if n=cs.length∧0<n∧np≤j then (i8 (h.set j (Blk.toGone (.sl false s cs))) (np+i) (.tb false s [0] [cs])).map (Prod.mk (.sl (np+i) [0] 0 1 (some 1))) else none:=rfl
def ado (np:Nat) (h:Heap) (i:Nat):V→Option (V×Heap)
 | .sl j [] 0 n _=>(h[j]?).bind (a8g np h i j n)
 | _=>none
@[simp] theorem amx (i j n:Nat) (cap:Option Nat):ado np h i (.sl j [] 0 n cap)=(h[j]?).bind (a8g np h i j n):=rfl
@[simp] theorem ajq (i:Nat) (x:Arg):b6 O np e h (.tbOne i x)=(e.arg x).bind (ado np h i):=by
 simp only [b6];cases e.arg x with
 | none=>rfl
 | some v=>
  cases v <;> try rfl
  rename_i j p off n cap
  cases p <;> try rfl
  cases off <;> try rfl
  simp only [ah,ado];cases h[j]? with
  | none=>rfl
  | some b=>
   cases b <;> try rfl
   rename_i fr t cs
   cases fr <;> rfl
def Xw (np:Nat) (h:Heap) (bytes j n k:Nat) (s:Sh) (cs:List D) (q:List Nat×List (List D)):Option (V×Heap):=
 if n=q.1.length∧j≠k∧np≤j∧np≤k∧(n+1)*bytes≤1099511627776 then
  some (.sl j [0] 0 (n+1) none,(h.set k (Blk.toGone (.tb false s [0] [cs]))).set j (.tb false s (q.1++[q.2.length]) (q.2++[cs]))) else none
@[simp] theorem ago (bytes j n k:Nat) (s:Sh) (cs:List D) (idx:List Nat) (rows:List (List D)):Xw np h bytes j n k s cs (idx,rows) =
 if n=idx.length∧j≠k∧np≤j∧np≤k∧(n+1)*bytes≤1099511627776 then
  some (.sl j [0] 0 (n+1) none,(h.set k (Blk.toGone (.tb false s [0] [cs]))).set j (.tb false s (idx++[rows.length]) (rows++[cs]))) else none:=rfl
def Qn (np:Nat) (h:Heap) (bytes j:Nat) (p:List Nat) (n:Nat) (cap:Option Nat) (k:Nat) (B:Blk):Blk→Option (V×Heap)
 | .tb false s [0] [cs]=>(Blk.asTb s p cap B).bind (Xw np h bytes j n k s cs)
 | _=>none
@[simp] theorem ai2 (bytes j:Nat) (p:List Nat) (n:Nat) (cap:Option Nat) (k:Nat) (B:Blk) (s:Sh) (cs:List D):Qn np h bytes j p n cap k B (.tb false s [0] [cs])=(Blk.asTb s p cap B).bind (Xw np h bytes j n k s cs):=rfl
@[simp] theorem aho (s:Sh):Blk.asTb s [] (some 0) (.sl false .leaf [])=some ([],[]):=rfl
@[simp] theorem alm (s s':Sh) (cap:Option Nat) (idx:List Nat) (rows:List (List D)):Blk.asTb s [0] cap (.tb false s' idx rows)=if Sh.beq s' s then some (idx,rows) else none:=rfl
def Rv (np:Nat) (h:Heap) (bytes j:Nat) (p:List Nat) (n:Nat) (cap:Option Nat) (k:Nat) (B:Blk):Option (V×Heap):=(h[k]?).bind (Qn np h bytes j p n cap k B)
@[simp] theorem afs (bytes j:Nat) (p:List Nat) (n:Nat) (cap:Option Nat) (k:Nat) (B:Blk):Rv np h bytes j p n cap k B=(h[k]?).bind (Qn np h bytes j p n cap k B):=rfl
def a0r (np:Nat) (h:Heap) (bytes:Nat):V→V→Option (V×Heap)
 | .sl j p 0 n cap,.sl k [0] 0 1 _=>(h[j]?).bind (Rv np h bytes j p n cap k)
 | _,_=>none
@[simp] theorem alr (bytes j:Nat) (p:List Nat) (n:Nat) (cap:Option Nat) (k:Nat) (cap':Option Nat):a0r np h bytes (.sl j p 0 n cap) (.sl k [0] 0 1 cap')=(h[j]?).bind (Rv np h bytes j p n cap k):=rfl
def Xy (np:Nat) (e:Env) (h:Heap) (bytes:Nat) (y:Arg) (v:V):Option (V×Heap):=(e.arg y).bind (a0r np h bytes v)
@[simp] theorem agt (bytes:Nat) (y:Arg) (v:V):Xy np e h bytes y v=(e.arg y).bind (a0r np h bytes v):=rfl
@[simp] theorem aig (bytes:Nat) (x y:Arg):b6 O np e h (.tbApp bytes x y)=(e.arg x).bind (Xy np e h bytes y):=by
 simp only [b6];cases e.arg x with
 | none=>rfl
 | some v=>
  simp only [ah,Xy];cases e.arg y with
  | none=>split <;> simp_all
  | some w=>
   simp only [ah];unfold a0r
   split
   ·rename_i j p n cap k cap' h1 h2
    simp only [ab] at h1 h2;subst h1; subst h2;simp only;cases hj:h[j]? with
    | none=>rfl
    | some B=>
     simp only [ah,Rv];cases hk:h[k]? with
     | none=>rfl
     | some B2=>
      simp only [ah];unfold Qn
      split
      ·rename_i s cs h1 h2
       simp only [ab] at h1 h2;subst h1; subst h2;rfl
      ·rename_i hne
       split
       ·exact absurd rfl (hne _ _ _ rfl)
       ·rfl
   ·rename_i hne
    split
    ·rename_i h1 h2
     exact absurd rfl (hne _ _ _ _ _ _ rfl)
    ·rfl
def a8r (h:Heap) (i off n k:Nat):Blk→Option (V×Heap)
 | .tb _ _ idx _=>if k<n∧off+n≤idx.length then some (.ptr i [0,off+k],h) else none
 | _=>none
@[simp] theorem al1 (i off n k:Nat) (fr:Bool) (s:Sh) (idx:List Nat) (rows:List (List D)):a8r h i off n k (.tb fr s idx rows)=if k<n∧off+n≤idx.length then some (.ptr i [0,off+k],h) else none:=rfl
def a1n (h:Heap):V→Nat→Option (V×Heap)
 | .sl i [0] off n _,k=>(h[i]?).bind (a8r h i off n k)
 | _,_=>none
@[simp] theorem alv (i off n:Nat) (cap:Option Nat) (k:Nat):a1n h (.sl i [0] off n cap) k=(h[i]?).bind (a8r h i off n k):=rfl
def aek (e:Env) (h:Heap) (j:Arg) (v:V):Option (V×Heap):=((e.arg j).bind V.nat?).bind (a1n h v)
@[simp] theorem ak3 (j:Arg) (v:V):aek e h j v=((e.arg j).bind V.nat?).bind (a1n h v):=rfl
@[simp] theorem ao2 (x j:Arg):b6 O np e h (.tbA x j)=(e.arg x).bind (aek e h j):=by
 simp only [b6];cases e.arg x with
 | none=>rfl
 | some v=>
  simp only [ah,aek];cases (e.arg j).bind V.nat? with
  | none=>split <;> simp_all
  | some k=>
   simp only [ah];unfold a1n
   split
   ·rename_i i off n cap k' h1 h2
    simp only [ab] at h1 h2;subst h1; subst h2;simp only;cases h[i]? with
    | none=>rfl
    | some b=>cases b <;> rfl
   ·rename_i hne
    split
    ·exact absurd rfl (hne _ _ _ _ _ rfl)
    ·rfl
def a64 (h:Heap) (i r:Nat) (cs:List D):V×Heap:=(.sl i [r+1] 0 cs.length none,h)
@[simp] theorem aha (i r:Nat) (cs:List D):a64 h i r cs=(.sl i [r+1] 0 cs.length none,h):=rfl
def a6z (h:Heap) (i:Nat) (rows:List (List D)) (r:Nat):Option (V×Heap):=(rows[r]?).map (a64 h i r)
@[simp] theorem ahe (i:Nat) (rows:List (List D)) (r:Nat):a6z h i rows r=(rows[r]?).map (a64 h i r):=rfl
def a5s (h:Heap) (i k:Nat):Blk→Option (V×Heap)
 | .tb _ _ idx rows=>(idx[k]?).bind (a6z h i rows)
 | _=>none
@[simp] theorem akt (i k:Nat) (fr:Bool) (s:Sh) (idx:List Nat) (rows:List (List D)):a5s h i k (.tb fr s idx rows)=(idx[k]?).bind (a6z h i rows):=rfl
def ae1 (h:Heap):V→Option (V×Heap)
 | .ptr i [0,k]=>(h[i]?).bind (a5s h i k)
 | _=>none
@[simp] theorem an8 (i k:Nat):ae1 h (.ptr i [0,k])=(h[i]?).bind (a5s h i k):=rfl
@[simp] theorem ags (x:Arg):b6 O np e h (.tbLoad x)=(e.arg x).bind (ae1 h):=by
 simp only [b6];cases e.arg x with
 | none=>rfl
 | some v=>
  simp only [ah];unfold ae1
  split
  ·rename_i i k h1
   simp only [ab] at h1;subst h1;simp only;cases h[i]? with
   | none=>rfl
   | some b=>cases b <;> rfl
  ·rename_i hne
   split
   ·exact absurd rfl (hne _ _)
   ·rfl
def a8m (h:Heap) (i k i' r n:Nat):Blk→Option (V×Heap)
 | .tb false s idx rows=>if i=i'∧k<idx.length∧0<n∧(rows[r]?).map List.length=some n then some (.tup [],h.set i (.tb false s (idx.set k r) rows)) else none
 | _=>none
@[simp] theorem al4 (i k i' r n:Nat) (s:Sh) (idx:List Nat) (rows:List (List D)):a8m h i k i' r n (.tb false s idx rows) =
 if i=i'∧k<idx.length∧0<n∧(rows[r]?).map List.length=some n then some (.tup [],h.set i (.tb false s (idx.set k r) rows)) else none:=rfl
def aa4 (h:Heap):V→V→Option (V×Heap)
 | .ptr i [0,k],.sl i' [r+1] 0 n _=>(h[i]?).bind (a8m h i k i' r n)
 | _,_=>none
@[simp] theorem am6 (i k i' r n:Nat) (cap:Option Nat):aa4 h (.ptr i [0,k]) (.sl i' [r+1] 0 n cap)=(h[i]?).bind (a8m h i k i' r n):=rfl
def a8i (e:Env) (h:Heap) (y:Arg) (v:V):Option (V×Heap):=(e.arg y).bind (aa4 h v)
@[simp] theorem aib (y:Arg) (v:V):a8i e h y v=(e.arg y).bind (aa4 h v):=rfl
@[simp] theorem ad4 (x y:Arg):b6 O np e h (.tbStore x y)=(e.arg x).bind (a8i e h y):=by
 simp only [b6];cases e.arg x with
 | none=>rfl
 | some v=>
  simp only [ah,a8i];cases e.arg y with
  | none=>split <;> simp_all
  | some w=>
   simp only [ah];unfold aa4
   split
   ·rename_i i k i' r n cap h1 h2
    simp only [ab] at h1 h2;subst h1; subst h2;simp only;cases h[i]? with
    | none=>rfl
    | some b=>
     cases b <;> try rfl
     rename_i fr s idx rows
     cases fr <;> rfl
   ·rename_i hne
    split
    ·exact absurd rfl (hne _ _ _ _ _ _ rfl)
    ·rfl
@[simp] theorem aj0 (i:Nat):b6 O np e h (.mkMap i)=(i8 h (np+i) (.mp false [])).map (Prod.mk (.mp (np+i))):=rfl
@[simp] theorem aol (b:ByteArray):V.mk? true (.d (.str b))=some (.s b):=rfl
@[simp] theorem aob (n:Int):V.mk? false (.d (.int .i64 n))=some (.i n):=rfl
def aco (str:Bool) (h:Heap) (_:Nat) (k:MK):Blk→Option (V×Heap)
 | .mp _ es=>if gr str es then some (.d (.int .i64 ((ml k es).getD 0)),h) else none
 | _=>none
@[simp] theorem aki (str:Bool) (j:Nat) (k:MK) (fr:Bool) (es:List (MK×Int)):aco str h j k (.mp fr es)=if gr str es then some (.d (.int .i64 ((ml k es).getD 0)),h) else none:=rfl
def ahc (str:Bool) (h:Heap) (_:Nat) (k:MK):Blk→Option (V×Heap)
 | .mp _ es=>if gr str es then some (.d (.tup [.int .i64 ((ml k es).getD 0),.bool (ml k es).isSome]),h) else none
 | _=>none
@[simp] theorem anx (str:Bool) (j:Nat) (k:MK) (fr:Bool) (es:List (MK×Int)):ahc str h j k (.mp fr es)=if gr str es then some (.d (.tup [.int .i64 ((ml k es).getD 0),.bool (ml k es).isSome]),h) else none:=rfl
def Sy (str:Bool) (h:Heap):V→Nat→MK→Blk→Option (V×Heap)
 | .d (.int .i64 n),j,k,.mp false es=>if gr str es then some (.tup [],h.set j (.mp false (nv k n es))) else none
 | _,_,_,_=>none
@[simp] theorem alw (str:Bool) (j:Nat) (k:MK) (n:Int) (es:List (MK×Int)):Sy str h (.d (.int .i64 n)) j k (.mp false es)=if gr str es then some (.tup [],h.set j (.mp false (nv k n es))) else none:=rfl
def a1z (h:Heap) (F:Nat→MK→Blk→Option (V×Heap)):V→Option MK→Option (V×Heap)
 | .mp j,some k=>(h[j]?).bind (F j k)
 | _,_=>none
@[simp] theorem amh (F:Nat→MK→Blk→Option (V×Heap)) (j:Nat) (k:MK):a1z h F (.mp j) (some k)=(h[j]?).bind (F j k):=rfl
def kMx (e:Env) (h:Heap) (F:Nat→MK→Blk→Option (V×Heap)) (str:Bool) (k:Arg) (v:V):Option (V×Heap):=a1z h F v ((e.arg k).bind (V.mk? str))
@[simp] theorem an5 (F:Nat→MK→Blk→Option (V×Heap)) (str:Bool) (k:Arg) (v:V):kMx e h F str k v=a1z h F v ((e.arg k).bind (V.mk? str)):=rfl
@[simp] theorem agk (str:Bool) (x k:Arg):b6 O np e h (.mapGet str x k)=(e.arg x).bind (kMx e h (aco str h) str k):=by
 simp only [b6];cases e.arg x with
 | none=>rfl
 | some v=>
  simp only [ah,kMx];cases (e.arg k).bind (V.mk? str) with
  | none=>cases v <;> rfl
  | some w=>
   cases v <;> try rfl
   simp only [a1z]
   rename_i j
   cases h[j]? with
   | none=>rfl
   | some b=>cases b <;> rfl
@[simp] theorem aj6 (str:Bool) (x k:Arg):b6 O np e h (.mapOk str x k)=(e.arg x).bind (kMx e h (ahc str h) str k):=by
 simp only [b6];cases e.arg x with
 | none=>rfl
 | some v=>
  simp only [ah,kMx];cases (e.arg k).bind (V.mk? str) with
  | none=>cases v <;> rfl
  | some w=>
   cases v <;> try rfl
   simp only [a1z]
   rename_i j
   cases h[j]? with
   | none=>rfl
   | some b=>cases b <;> rfl
def aaz (e:Env) (h:Heap) (str:Bool) (k:Arg) (v w:V):Option (V×Heap):=kMx e h (Sy str h w) str k v
@[simp] theorem akm (str:Bool) (k:Arg) (v w:V):aaz e h str k v w=kMx e h (Sy str h w) str k v:=rfl
def af4 (e:Env) (h:Heap) (str:Bool) (k y:Arg) (v:V):Option (V×Heap):=(e.arg y).bind (aaz e h str k v)
@[simp] theorem ak5 (str:Bool) (k y:Arg) (v:V):af4 e h str k y v=(e.arg y).bind (aaz e h str k v):=rfl
@[simp] theorem afp (str:Bool) (x k y:Arg):b6 O np e h (.mapSet str x k y)=(e.arg x).bind (af4 e h str k y):=by
 simp only [b6];cases e.arg x with
 | none=>rfl
 | some v=>
  simp only [ah,af4];cases e.arg y with
  | none=>cases v <;> cases (e.arg k).bind (V.mk? str) <;> rfl
  | some w=>
   simp only [ah,aaz,kMx];cases (e.arg k).bind (V.mk? str) with
   | none=>cases v <;> rfl
   | some kk=>
    cases v <;> try rfl
    rename_i j
    simp only [a1z]
    have hk:∀w,(∀b,Sy str h w j kk b=none)→none=(h[j]?).bind (Sy str h w j kk):=by
     intro w hw;cases h[j]? with
     | none=>rfl
     | some b=>exact (hw b).symm
    cases w with
    | d x=>cases x with
     | int ik n=>cases ik with
      | i64=>
       show (match h[j]? with | some (.mp false es)=>(if gr str es then some (V.tup [],h.set j (.mp false (nv kk n es))) else none) | _=>none)=_
       cases h[j]? with
       | none=>rfl
       | some b=>cases b with
        | mp fr es=>cases fr <;> rfl
        | _=>rfl
      | _=>exact hk _ fun b=>by cases b with
       | mp fr es=>cases fr <;> rfl
       | _=>rfl
     | _=>exact hk _ fun b=>by cases b with
      | mp fr es=>cases fr <;> rfl
      | _=>rfl
    | _=>exact hk _ fun b=>by cases b with
     | mp fr es=>cases fr <;> rfl
     | _=>rfl
def af0 (h:Heap) (s t:Sh) (ys:List D) (j off n:Nat):Blk→Option (V×Heap)
 | .sl false t' cs=>if Sh.beq t s∧Sh.beq t' s∧off+n≤cs.length then some (.d (.int .i64 (min ys.length n:Nat)),h.set j (.sl false t' (cs.take off++(ys.take n)++cs.drop (off+min ys.length n)))) else none
 | _=>none
@[simp] theorem ami (s t:Sh) (ys:List D) (j off n:Nat) (t':Sh) (cs:List D):af0 h s t ys j off n (.sl false t' cs)=if Sh.beq t s∧Sh.beq t' s∧off+n≤cs.length then some (.d (.int .i64 (min ys.length n:Nat)),h.set j (.sl false t' (cs.take off++(ys.take n)++cs.drop (off+min ys.length n)))) else none:=rfl
def aa0 (h:Heap) (s:Sh):D→V→Option (V×Heap)
 | .sl t ys,.sl j [] off n _=>(h[j]?).bind (af0 h s t ys j off n)
 | _,_=>none
@[simp] theorem ao3 (s t:Sh) (ys:List D) (j off n:Nat) (cap:Option Nat):aa0 h s (.sl t ys) (.sl j [] off n cap)=(h[j]?).bind (af0 h s t ys j off n):=rfl
def abx (e:Env) (h:Heap) (s:Sh) (x:Arg) (d:D):Option (V×Heap):=(e.arg x).bind (aa0 h s d)
@[simp] theorem akn (s:Sh) (x:Arg) (d:D):abx e h s x d=(e.arg x).bind (aa0 h s d):=rfl
def kCp (e:Env) (h:Heap) (s:Sh) (x:Arg) (w:V):Option (V×Heap):=(toE h w).bind (abx e h s x)
@[simp] theorem an2 (s:Sh) (x:Arg) (w:V):kCp e h s x w=(toE h w).bind (abx e h s x):=rfl
@[simp] theorem alh (s:Sh) (x y:Arg):b6 O np e h (.copy s x y)=(e.arg y).bind (kCp e h s x):=by
 simp only [b6];cases e.arg y with
 | none=>rfl
 | some w=>
  simp only [ah,kCp];cases toE h w with
  | none=>rfl
  | some d=>
   simp only [ah,abx];cases e.arg x with
   | none=>cases d <;> rfl
   | some v=>
    simp only [ah];cases d <;> try rfl
    cases v <;> try rfl
    rename_i t ys j p off n cap
    cases p with
    | cons=>rfl
    | nil=>
     simp only [aa0];cases h[j]? with
     | none=>rfl
     | some b=>
      cases b <;> try rfl
      rename_i fr t' cs
      cases fr <;> rfl
def a7q (np:Nat) (h:Heap) (s:Sh) (i bytes:Nat) (t:Sh) (ys:List D) (j off n:Nat) (cap:Option Nat):Blk→Option (V×Heap)
 | .sl fr t' cs=>if Sh.beq t s∧Sh.beq t' s∧off+n≤cs.length∧(n+ys.length)*bytes≤1099511627776 then
  (if fr=false∧np≤j then some (.sl j [] 0 (n+ys.length) none,h.set j (.sl false s ((cs.drop off).take n++ys)))
  else if cap=some n∧ys≠[] then (i8 h (np+i) (.sl false s ((cs.drop off).take n++ys))).map (Prod.mk (.sl (np+i) [] 0 (n+ys.length) none))
  else none) else none
 | _=>none
@[simp] theorem ahv (s:Sh) (i bytes:Nat) (t:Sh) (ys:List D) (j off n:Nat) (cap:Option Nat) (fr:Bool) (t':Sh) (cs:List D):a7q np h s i bytes t ys j off n cap (.sl fr t' cs) =
 if Sh.beq t s∧Sh.beq t' s∧off+n≤cs.length∧(n+ys.length)*bytes≤1099511627776 then
  (if fr=false∧np≤j then some (.sl j [] 0 (n+ys.length) none,h.set j (.sl false s ((cs.drop off).take n++ys)))
  else if cap=some n∧ys≠[] then (i8 h (np+i) (.sl false s ((cs.drop off).take n++ys))).map (Prod.mk (.sl (np+i) [] 0 (n+ys.length) none))
  else none) else none:=rfl
def a0t (np:Nat) (h:Heap) (s:Sh) (i bytes:Nat):D→V→Option (V×Heap)
 | .sl t ys,.sl j [] off n cap=>(h[j]?).bind (a7q np h s i bytes t ys j off n cap)
 | .sl t (y::ys),.d (.nils t')=>if Sh.beq t s∧Sh.beq t' s∧(ys.length+1)*bytes≤1099511627776 then
  (i8 h (np+i) (.sl false s (y::ys))).map (Prod.mk (.sl (np+i) [] 0 (ys.length+1) none)) else none
 | _,_=>none
@[simp] theorem abj (s:Sh) (i bytes:Nat) (t:Sh) (ys:List D) (j off n:Nat) (cap:Option Nat):a0t np h s i bytes (.sl t ys) (.sl j [] off n cap)=(h[j]?).bind (a7q np h s i bytes t ys j off n cap):=by
 cases ys <;> rfl
@[simp] theorem aln (s:Sh) (i bytes:Nat) (t t':Sh) (y:D) (ys:List D):a0t np h s i bytes (.sl t (y::ys)) (.d (.nils t'))=if Sh.beq t s∧Sh.beq t' s∧(ys.length+1)*bytes≤1099511627776 then
 (i8 h (np+i) (.sl false s (y::ys))).map (Prod.mk (.sl (np+i) [] 0 (ys.length+1) none)) else none:=rfl
def a0s (np:Nat) (e:Env) (h:Heap) (s:Sh) (i bytes:Nat) (x:Arg) (d:D):Option (V×Heap):=(e.arg x).bind (a0t np h s i bytes d)
@[simp] theorem aiz (s:Sh) (i bytes:Nat) (x:Arg) (d:D):a0s np e h s i bytes x d=(e.arg x).bind (a0t np h s i bytes d):=rfl
def adn (np:Nat) (e:Env) (h:Heap) (s:Sh) (i bytes:Nat) (x:Arg) (w:V):Option (V×Heap):=(toE h w).bind (a0s np e h s i bytes x)
@[simp] theorem akx (s:Sh) (i bytes:Nat) (x:Arg) (w:V):adn np e h s i bytes x w=(toE h w).bind (a0s np e h s i bytes x):=rfl
@[simp] theorem aft (s:Sh) (i bytes:Nat) (x y:Arg):b6 O np e h (.append s i bytes x y)=(e.arg y).bind (adn np e h s i bytes x):=by
 simp only [b6];cases e.arg y with
 | none=>rfl
 | some w=>
  simp only [ah,adn];cases toE h w with
  | none=>rfl
  | some d=>
   simp only [ah,a0s];cases e.arg x with
   | none=>cases d <;> try rfl
   | some v=>
    cases d <;> try (cases v <;> rfl)
    rename_i t ys
    cases v with
    | sl j p off n cap=>
     cases p with
     | nil=>
      simp only [ah,abj];cases h[j]? with
      | none=>rfl
      | some b=>cases b <;> rfl
     | cons _ _=>cases ys <;> rfl
    | d d=>cases ys <;> cases d <;> rfl
    | _=>cases ys <;> rfl
def Yn (h:Heap):Option Nat→Sh→V→Nat→Option (V×Heap)
 | some n,s,.d (.arr n' t cs),k=>if n'=n∧Sh.beq t s then (cs[k]?).map (kD h) else none
 | none,_,.d (.str b),k=>(b[k]?).map fun c=>(.d (.int .u8 c.toNat),h)
 | _,_,_,_=>none
@[simp] theorem akg (n n':Nat) (s t:Sh) (cs:List D) (k:Nat):Yn h (some n) s (.d (.arr n' t cs)) k=if n'=n∧Sh.beq t s then (cs[k]?).map (kD h) else none:=rfl
@[simp] theorem alo (s:Sh) (b:ByteArray) (k:Nat):Yn h none s (.d (.str b)) k=(b[k]?).map fun c=>(.d (.int .u8 c.toNat),h):=rfl
def abu (e:Env) (h:Heap) (ar:Option Nat) (s:Sh) (j:Arg) (v:V):Option (V×Heap):=((e.arg j).bind V.nat?).bind (Yn h ar s v)
@[simp] theorem ak4 (ar:Option Nat) (s:Sh) (j:Arg) (v:V):abu e h ar s j v=((e.arg j).bind V.nat?).bind (Yn h ar s v):=rfl
@[simp] theorem ann (ar:Option Nat) (s:Sh) (x j:Arg):b6 O np e h (.idx ar s x j)=(e.arg x).bind (abu e h ar s j):=by
 cases ar <;> simp only [b6]
 ·cases e.arg x with
  | none=>rfl
  | some v=>
   simp only [ah,abu];cases (e.arg j).bind V.nat? with
   | none=>cases v <;> try rfl
           rename_i d; cases d <;> rfl
   | some k=>cases v <;> try rfl
             rename_i d; cases d <;> rfl
 ·cases e.arg x with
  | none=>rfl
  | some v=>
   simp only [ah,abu];cases (e.arg j).bind V.nat? with
   | none=>cases v <;> try rfl
           rename_i d; cases d <;> rfl
   | some k=>cases v <;> try rfl
             rename_i d; cases d <;> rfl
def Xi (h:Heap) (n:Nat) (s:Sh) (i:Nat) (p:List Nat) (k:Nat):D→Option (V×Heap)
 | .arr n' t _=>if n'=n∧Sh.beq t s∧k<n then some (.ptr i (p++[k]),h) else none
 | _=>none
@[simp] theorem ahb (n n':Nat) (s t:Sh) (i:Nat) (p:List Nat) (k:Nat) (cs:List D):Xi h n s i p k (.arr n' t cs)=if n'=n∧Sh.beq t s∧k<n then some (.ptr i (p++[k]),h) else none:=rfl
def a1c (h:Heap) (n:Nat) (s:Sh):V→Nat→Option (V×Heap)
 | .ptr i p,k=>((h[i]?).bind (Ig p)).bind (Xi h n s i p k)
 | .d (.ip (.arr n' t cs)),k=>if n'=n∧Sh.beq t s then (cs[k]?).map (kIp h) else none
 | _,_=>none
@[simp] theorem aao (n:Nat) (s:Sh) (i:Nat) (p:List Nat) (k:Nat):a1c h n s (.ptr i p) k=((h[i]?).bind (Ig p)).bind (Xi h n s i p k):=rfl
@[simp] theorem aks (n n':Nat) (s t:Sh) (cs:List D) (k:Nat):a1c h n s (.d (.ip (.arr n' t cs))) k=if n'=n∧Sh.beq t s then (cs[k]?).map (kIp h) else none:=rfl
def Wu (e:Env) (h:Heap) (n:Nat) (s:Sh) (j:Arg) (v:V):Option (V×Heap):=((e.arg j).bind V.nat?).bind (a1c h n s v)
@[simp] theorem afq (n:Nat) (s:Sh) (j:Arg) (v:V):Wu e h n s j v=((e.arg j).bind V.nat?).bind (a1c h n s v):=rfl
@[simp] theorem alt (n:Nat) (s:Sh) (x j:Arg):b6 O np e h (.idxA (some n) s x j)=(e.arg x).bind (Wu e h n s j):=by
 simp only [b6];cases e.arg x with
 | none=>rfl
 | some v=>
  simp only [ah,Wu];cases (e.arg j).bind V.nat? with
  | none=>cases v <;> try rfl
          rename_i d; cases d <;> try rfl
          rename_i d; cases d <;> rfl
  | some k=>
   cases v with
   | ptr i p=>
    simp only [aao,ah];show ((h[i]?).bind (Ig p)).bind _=_
    congr 1
   | d d=>cases d <;> try rfl
          rename_i d; cases d <;> rfl
   | _=>rfl
def aet (h:Heap) (neg:Bool) (q:Q):V→V→Option (V×Heap)
 | .d a,.d b=>(D.beq q a b).map fun r=>(.d (.bool (if neg then !r else r)),h)
 | _,_=>none
@[simp] theorem amd (neg:Bool) (q:Q) (a b:D):aet h neg q (.d a) (.d b)=(D.beq q a b).map fun r=>(.d (.bool (if neg then !r else r)),h):=rfl
def a9l (e:Env) (h:Heap) (neg:Bool) (q:Q) (y:Arg) (v:V):Option (V×Heap):=(e.arg y).bind (aet h neg q v)
@[simp] theorem ahp (neg:Bool) (q:Q) (y:Arg) (v:V):a9l e h neg q y v=(e.arg y).bind (aet h neg q v):=rfl
@[simp] theorem an7 (neg:Bool) (q:Q) (x y:Arg):b6 O np e h (.eqv neg q x y)=(e.arg x).bind (a9l e h neg q y):=by
 simp only [b6];cases e.arg x with
 | none=>rfl
 | some v=>
  simp only [ah,a9l];cases e.arg y with
  | none=>cases v <;> rfl
  | some w=>cases v <;> cases w <;> rfl
def Vp (h:Heap) (s t:Sh) (cs:List D) (m b a:Nat):Option (V×Heap):=if Sh.beq t s∧a≤b∧b≤m∧m≤cs.length then some (.d (.sl t ((cs.drop a).take (b-a))),h) else none
@[simp] theorem afr (s t:Sh) (cs:List D) (m b a:Nat):Vp h s t cs m b a=if Sh.beq t s∧a≤b∧b≤m∧m≤cs.length then some (.d (.sl t ((cs.drop a).take (b-a))),h) else none:=rfl
def Vy (e:Env) (h:Heap) (s t:Sh) (cs:List D) (lo:Option Arg) (m b:Nat):Option (V×Heap):=(ee e lo 0).bind (Vp h s t cs m b)
@[simp] theorem agp (s t:Sh) (cs:List D) (lo:Option Arg) (m b:Nat):Vy e h s t cs lo m b=(ee e lo 0).bind (Vp h s t cs m b):=rfl
def X3 (e:Env) (h:Heap) (s t:Sh) (cs:List D) (lo hi:Option Arg) (m:Nat):Option (V×Heap):=(ee e hi cs.length).bind (Vy e h s t cs lo m)
@[simp] theorem agj (s t:Sh) (cs:List D) (lo hi:Option Arg) (m:Nat):X3 e h s t cs lo hi m=(ee e hi cs.length).bind (Vy e h s t cs lo m):=rfl
def Xu (h:Heap) (s t:Sh) (i:Nat) (p:List Nat) (off n:Nat) (cap:Option Nat) (ismx:Bool) (m b a:Nat):Option (V×Heap):=if Sh.beq t s∧a≤b∧b≤m∧m≤n then some (.sl i p (off+a) (b-a) (if ismx then some (m-a) else cap.map (· - a)),h) else none
@[simp] theorem age (s t:Sh) (i:Nat) (p:List Nat) (off n:Nat) (cap:Option Nat) (ismx:Bool) (m b a:Nat):Xu h s t i p off n cap ismx m b a=if Sh.beq t s∧a≤b∧b≤m∧m≤n then some (.sl i p (off+a) (b-a) (if ismx then some (m-a) else cap.map (· - a)),h) else none:=rfl
def Vv (e:Env) (h:Heap) (s t:Sh) (i:Nat) (p:List Nat) (off n:Nat) (cap:Option Nat) (ismx:Bool) (lo:Option Arg) (m b:Nat):Option (V×Heap):=(ee e lo 0).bind (Xu h s t i p off n cap ismx m b)
@[simp] theorem agc (s t:Sh) (i:Nat) (p:List Nat) (off n:Nat) (cap:Option Nat) (ismx:Bool) (lo:Option Arg) (m b:Nat):Vv e h s t i p off n cap ismx lo m b=(ee e lo 0).bind (Xu h s t i p off n cap ismx m b):=rfl
def Vk (e:Env) (h:Heap) (s t:Sh) (i:Nat) (p:List Nat) (off n:Nat) (cap:Option Nat) (ismx:Bool) (lo hi:Option Arg) (m:Nat):Option (V×Heap):=(ee e hi n).bind (Vv e h s t i p off n cap ismx lo m)
@[simp] theorem ag4 (s t:Sh) (i:Nat) (p:List Nat) (off n:Nat) (cap:Option Nat) (ismx:Bool) (lo hi:Option Arg) (m:Nat):Vk e h s t i p off n cap ismx lo hi m=(ee e hi n).bind (Vv e h s t i p off n cap ismx lo m):=rfl
def Ww (e:Env) (h:Heap) (s:Sh) (i:Nat) (p:List Nat) (off n:Nat) (cap:Option Nat) (mx lo hi:Option Arg):Sh×List D→Option (V×Heap)
 | (t,_)=>(ee e mx n).bind (Vk e h s t i p off n cap mx.isSome lo hi)
@[simp] theorem agm (s:Sh) (i:Nat) (p:List Nat) (off n:Nat) (cap:Option Nat) (mx lo hi:Option Arg) (t:Sh) (cs:List D):Ww e h s i p off n cap mx lo hi (t,cs)=(ee e mx n).bind (Vk e h s t i p off n cap mx.isSome lo hi):=rfl
def aed (e:Env) (h:Heap) (s:Sh) (lo hi mx:Option Arg):V→Option (V×Heap)
 | .d (.sl t cs)=>(ee e mx cs.length).bind (X3 e h s t cs lo hi)
 | .sl i p off n cap=>((h[i]?).bind (kEl p)).bind (Ww e h s i p off n cap mx lo hi)
 | _=>none
@[simp] theorem amw (s t:Sh) (cs:List D) (lo hi mx:Option Arg):aed e h s lo hi mx (.d (.sl t cs))=(ee e mx cs.length).bind (X3 e h s t cs lo hi):=rfl
@[simp] theorem af5 (s:Sh) (i:Nat) (p:List Nat) (off n:Nat) (cap:Option Nat) (lo hi mx:Option Arg):aed e h s lo hi mx (.sl i p off n cap)=((h[i]?).bind (kEl p)).bind (Ww e h s i p off n cap mx lo hi):=rfl
@[simp] theorem an1 (s:Sh) (x:Arg) (lo hi mx:Option Arg):b6 O np e h (.cut none s x lo hi mx)=(e.arg x).bind (aed e h s lo hi mx):=by
 simp only [b6];cases e.arg x with
 | none=>rfl
 | some v=>
  cases v with
  | d d=>cases d <;> rfl
  | sl i p off n cap=>
   simp only [ah,af5];show ((h[i]?).bind (kEl p)).bind _=_
   congr 1
   funext q
   obtain ⟨t,cs⟩:=q;cases mx <;> rfl
  | _=>rfl
def R8 (h:Heap) (n:Nat) (i:Nat) (p:List Nat) (m b a:Nat):Option (V×Heap):=if a≤b∧b≤m∧m≤n then some (.sl i p a (b-a) (some (m-a)),h) else none
@[simp] theorem agu (n i:Nat) (p:List Nat) (m b a:Nat):R8 h n i p m b a=if a≤b∧b≤m∧m≤n then some (.sl i p a (b-a) (some (m-a)),h) else none:=rfl
def Qp (e:Env) (h:Heap) (n:Nat) (i:Nat) (p:List Nat) (lo:Option Arg) (m b:Nat):Option (V×Heap):=(ee e lo 0).bind (R8 h n i p m b)
@[simp] theorem afz (n i:Nat) (p:List Nat) (lo:Option Arg) (m b:Nat):Qp e h n i p lo m b=(ee e lo 0).bind (R8 h n i p m b):=rfl
def P8 (e:Env) (h:Heap) (n:Nat) (i:Nat) (p:List Nat) (lo hi:Option Arg) (m:Nat):Option (V×Heap):=(ee e hi n).bind (Qp e h n i p lo m)
@[simp] theorem ag8 (n i:Nat) (p:List Nat) (lo hi:Option Arg) (m:Nat):P8 e h n i p lo hi m=(ee e hi n).bind (Qp e h n i p lo m):=rfl
def Qa (e:Env) (h:Heap) (n:Nat) (s:Sh) (i:Nat) (p:List Nat) (lo hi mx:Option Arg):D→Option (V×Heap)
 | .arr n' t _=>if n'=n∧Sh.beq t s then (ee e mx n).bind (P8 e h n i p lo hi) else none
 | _=>none
@[simp] theorem ai4 (n n':Nat) (s t:Sh) (cs:List D) (i:Nat) (p:List Nat) (lo hi mx:Option Arg):Qa e h n s i p lo hi mx (.arr n' t cs)=if n'=n∧Sh.beq t s then (ee e mx n).bind (P8 e h n i p lo hi) else none:=rfl
def acr (e:Env) (h:Heap) (n:Nat) (s:Sh) (lo hi mx:Option Arg):V→Option (V×Heap)
 | .ptr i p=>((h[i]?).bind (Ig p)).bind (Qa e h n s i p lo hi mx)
 | .d (.ip (.arr n' t cs))=>(ee e mx n).bind fun m=>(ee e hi n).bind fun b=>(ee e lo 0).bind fun a=>
  if n'=n∧Sh.beq t s∧a≤b∧b≤m∧m≤n then some (.d (.sl t ((cs.drop a).take (b-a))),h) else none
 | _=>none
@[simp] theorem aam (n:Nat) (s:Sh) (lo hi mx:Option Arg) (i:Nat) (p:List Nat):acr e h n s lo hi mx (.ptr i p)=((h[i]?).bind (Ig p)).bind (Qa e h n s i p lo hi mx):=rfl
@[simp] theorem aly (n:Nat) (s:Sh) (x:Arg) (lo hi mx:Option Arg):b6 O np e h (.cut (some n) s x lo hi mx)=(e.arg x).bind (acr e h n s lo hi mx):=by
 simp only [b6];cases e.arg x with
 | none=>rfl
 | some v=>
 cases v with
 | d d=>cases d <;> try rfl
        rename_i d; cases d <;> rfl
 | ptr i p=>
 simp only [ah,aam];show ((h[i]?).bind (Ig p)).bind _=_
 congr 1
 funext y
 cases y <;> try rfl
 rename_i n' t cs
 simp only [Qa]
 by_cases hc:n'=n∧Sh.beq t s=true
 ·rw [if_pos hc]
  cases ee e mx n with
  | none=>rfl
  | some m=>
   simp only [ah,P8];cases ee e hi n with
   | none=>rfl
   | some b=>
    simp only [ah,Qp];cases ee e lo 0 with
    | none=>rfl
    | some a=>simp only [ah,R8,hc,true_and]
 ·rw [if_neg hc]
  cases ee e mx n with
  | none=>rfl
  | some m=>
   simp only [ah];cases ee e hi n with
   | none=>rfl
   | some b=>
    simp only [ah];cases ee e lo 0 with
    | none=>rfl
    | some a=>
     simp only [ah];rw [if_neg]
     rintro ⟨h1,h2,_⟩
     exact hc ⟨h1,h2⟩
 | _=>rfl
def aes (h:Heap) (n:Nat) (s:Sh) (cs:List D):V×Heap:=(.d (.arr n s cs),h)
@[simp] theorem al3 (n:Nat) (s:Sh) (cs:List D):aes h n s cs=(.d (.arr n s cs),h):=rfl
def kSt (h:Heap) (ss:List Sh) (cs:List D):V×Heap:=(.d (.st ss cs),h)
@[simp] theorem ano (ss:List Sh) (cs:List D):kSt h ss cs=(.d (.st ss cs),h):=rfl
def J4 (xs:List (Nat×D)):D→Heap→Option (V×Heap)
 | .arr n s cs,h=>(ry cs xs).map (aes h n s)
 | .st ss cs,h=>(ry cs xs).map (kSt h ss)
 | _,_=>none
@[simp] theorem agb (xs:List (Nat×D)) (n:Nat) (s:Sh) (cs:List D):J4 xs (.arr n s cs) h=(ry cs xs).map (aes h n s):=rfl
@[simp] theorem agf (xs:List (Nat×D)) (ss:List Sh) (cs:List D):J4 xs (.st ss cs) h=(ry cs xs).map (kSt h ss):=rfl
def X9 (h:Heap) (fz:Bool) (z:D) (rs:List Nat) (xs:List (Nat×D)):Option (V×Heap):=(freezeIf fz h rs).bind (J4 xs z)
@[simp] theorem ag7 (fz:Bool) (z:D) (rs:List Nat) (xs:List (Nat×D)):X9 h fz z rs xs=(freezeIf fz h rs).bind (J4 xs z):=rfl
@[simp] theorem ahw (fz:Bool) (z:D) (ps:List (Nat×Arg)):b6 O np e h (.build fz z ps)=(kj e h ps).bind (X9 h fz z (fe e ps)):=by
 simp only [b6];cases kj e h ps with
 | none=>rfl
 | some xs=>
  simp only [ah,X9];cases freezeIf fz h (fe e ps) with
  | none=>rfl
  | some h'=>cases z <;> rfl
def a7p (id n:Nat) (s:Sh) (cs:List D) (h:Heap):Option (V×Heap):=(i8 h id (.sl false s cs)).map (Prod.mk (.sl id [] 0 n (some n)))
@[simp] theorem aiv (id n:Nat) (s:Sh) (cs:List D):a7p id n s cs h=(i8 h id (.sl false s cs)).map (Prod.mk (.sl id [] 0 n (some n))):=rfl
def a5q (h:Heap) (fz:Bool) (id n:Nat) (s:Sh) (rs:List Nat) (cs:List D):Option (V×Heap):=(freezeIf fz h rs).bind (a7p id n s cs)
@[simp] theorem ah4 (fz:Bool) (id n:Nat) (s:Sh) (rs:List Nat) (cs:List D):a5q h fz id n s rs cs=(freezeIf fz h rs).bind (a7p id n s cs):=rfl
def acu (h:Heap) (fz:Bool) (id n:Nat) (s:Sh) (z:D) (rs:List Nat) (xs:List (Nat×D)):Option (V×Heap):=(ry (List.replicate n z) xs).bind (a5q h fz id n s rs)
@[simp] theorem aik (fz:Bool) (id n:Nat) (s:Sh) (z:D) (rs:List Nat) (xs:List (Nat×D)):acu h fz id n s z rs xs=(ry (List.replicate n z) xs).bind (a5q h fz id n s rs):=rfl
@[simp] theorem adi (fz:Bool) (i:Nat) (s:Sh) (z:D) (n:Nat) (ps:List (Nat×Arg)):b6 O np e h (.buildSl fz i s z n ps)=(kj e h ps).bind (acu h fz (np+i) n s z (fe e ps)):=rfl
end
@[simp] theorem agd (k:IntKind) (n:Int):(D.int k n).isTup=false:=rfl
@[simp] theorem ane (k:IntKind) (n:Int):(D.int k n).sh=.leaf:=rfl
@[simp] theorem ad7 (b:Bool):(D.bool b).isTup=false:=rfl
@[simp] theorem ako (b:Bool):(D.bool b).sh=.leaf:=rfl
@[simp] theorem afw (s:ByteArray):(D.str s).isTup=false:=rfl
@[simp] theorem amb (s:ByteArray):(D.str s).sh=.leaf:=rfl
@[simp] theorem ag5 (n:Nat) (s:Sh) (cs:List D):(D.arr n s cs).isTup=false:=rfl
@[simp] theorem am5 (n:Nat) (s:Sh) (cs:List D):(D.arr n s cs).sh=.arr n s:=rfl
@[simp] theorem ajt (ss:List Sh) (cs:List D):(D.st ss cs).isTup=false:=rfl
@[simp] theorem aof (ss:List Sh) (cs:List D):(D.st ss cs).sh=.st ss:=rfl
@[simp] theorem air (s:Sh) (cs:List D):(D.sl s cs).isTup=false:=rfl
@[simp] theorem aoh (s:Sh) (cs:List D):(D.sl s cs).sh=.leaf:=rfl
@[simp] theorem afv (cs:List D):(D.tup cs).isTup=true:=rfl
@[simp] theorem ao0 (cs:List D):(D.tup cs).sh=.leaf:=rfl
@[simp] theorem aj5 (d:D):(D.ip d).isTup=false:=rfl
@[simp] theorem aok (d:D):(D.ip d).sh=.leaf:=rfl
@[simp] theorem ae2  : D.nilp.isTup=false:=rfl
@[simp] theorem ake  : D.nilp.sh=.leaf:=rfl
@[simp] theorem aej (s:Sh):(D.nils s).isTup=false:=rfl
@[simp] theorem akk (s:Sh):(D.nils s).sh=.leaf:=rfl
@[simp] theorem aiu (f:Nat) (a b:List D):(D.fn f a b).isTup=false:=rfl
@[simp] theorem aoa (f:Nat) (a b:List D):(D.fn f a b).sh=.leaf:=rfl
@[simp] theorem adz  : D.nilf.isTup=false:=rfl
@[simp] theorem akz  : D.nilf.sh=.leaf:=rfl
@[simp] theorem ace (n:Nat) (d:D):(D.iface n d).isTup=false:=rfl
@[simp] theorem ajn (n:Nat) (d:D):(D.iface n d).sh=.leaf:=rfl
@[simp] theorem ae3  : D.nili.isTup=false:=rfl
@[simp] theorem al6  : D.nili.sh=.leaf:=rfl
def ai1 (k:IntKind) (x y:Int):Int:=k.wrap (BitVec.ofInt k.bits x &&& BitVec.ofInt k.bits y).toNat
def orI (k:IntKind) (x y:Int):Int:=k.wrap (BitVec.ofInt k.bits x ||| BitVec.ofInt k.bits y).toNat
def anl (k:IntKind) (x y:Int):Int:=k.wrap (BitVec.ofInt k.bits x ^^^ BitVec.ofInt k.bits y).toNat
section
variable (k:IntKind) (x y:Int)
@[simp] theorem ajd:wv .add k x y=some (.int k (k.wrap (x+y))):=rfl
@[simp] theorem aii:wv .sub k x y=some (.int k (k.wrap (x-y))):=rfl
@[simp] theorem ah9:wv .mul k x y=some (.int k (k.wrap (x*y))):=rfl
@[simp] theorem ajb:wv .quo k x y=if y=0 then none else some (.int k (k.wrap (x.tdiv y))):=rfl
@[simp] theorem aj9:wv .rem k x y=if y=0 then none else some (.int k (x.tmod y)):=rfl
@[simp] theorem agz:wv .and k x y=some (.int k (ai1 k x y)):=rfl
@[simp] theorem ale:wv .or k x y=some (.int k (orI k x y)):=rfl
@[simp] theorem ajs:wv .xor k x y=some (.int k (anl k x y)):=rfl
@[simp] theorem agv:wv .eql k x y=some (.bool (decide (x=y))):=rfl
@[simp] theorem aht:wv .neq k x y=some (.bool (!decide (x=y))):=rfl
@[simp] theorem aj3:wv .lss k x y=some (.bool (decide (x<y))):=rfl
@[simp] theorem ais:wv .leq k x y=some (.bool (decide (x≤y))):=rfl
@[simp] theorem ai3:wv .gtr k x y=some (.bool (decide (y<x))):=rfl
@[simp] theorem ai0:wv .geq k x y=some (.bool (decide (y≤x))):=rfl
end
def vm (o:BinOp) (k k':IntKind) (a b:Int):Option D:=if k=k' then wv o k a b else none
@[simp] theorem ahj (o:BinOp) (k:IntKind) (a b:Int):vm o k k a b=wv o k a b:=if_pos rfl
section
variable (k k':IntKind) (a b:Int)
@[simp] theorem ah8:ut .shl (.int k a) (.int k' b)=Dt .shl k a b:=rfl
@[simp] theorem ah7:ut .shr (.int k a) (.int k' b)=Dt .shr k a b:=rfl
@[simp] theorem aim:ut .add (.int k a) (.int k' b)=vm .add k k' a b:=rfl
@[simp] theorem ahq:ut .sub (.int k a) (.int k' b)=vm .sub k k' a b:=rfl
@[simp] theorem ai6:ut .mul (.int k a) (.int k' b)=vm .mul k k' a b:=rfl
@[simp] theorem agw:ut .quo (.int k a) (.int k' b)=vm .quo k k' a b:=rfl
@[simp] theorem ah2:ut .rem (.int k a) (.int k' b)=vm .rem k k' a b:=rfl
@[simp] theorem ai8:ut .and (.int k a) (.int k' b)=vm .and k k' a b:=rfl
@[simp] theorem ak2:ut .or (.int k a) (.int k' b)=vm .or k k' a b:=rfl
@[simp] theorem aic:ut .xor (.int k a) (.int k' b)=vm .xor k k' a b:=rfl
@[simp] theorem aj7:ut .eql (.int k a) (.int k' b)=vm .eql k k' a b:=rfl
@[simp] theorem aij:ut .neq (.int k a) (.int k' b)=vm .neq k k' a b:=rfl
@[simp] theorem aj8:ut .lss (.int k a) (.int k' b)=vm .lss k k' a b:=rfl
@[simp] theorem ai7:ut .leq (.int k a) (.int k' b)=vm .leq k k' a b:=rfl
@[simp] theorem ajy:ut .gtr (.int k a) (.int k' b)=vm .gtr k k' a b:=rfl
@[simp] theorem ahl:ut .geq (.int k a) (.int k' b)=vm .geq k k' a b:=rfl
end
@[simp] theorem ai9 (o:BinOp) (a b:ByteArray):ut o (.str a) (.str b)=(match o with | .shl | .shr=>none | o=>aae o a b):=by cases o <;> rfl
attribute [simp] oq
attribute [simp] Env.clear abv ae6 abf adb a93 andThen a0i fin n8 ac9 Ins.side Ins.on Env.arg Env.get Env.keep Env.kill Op.kill Env.putO Env.refsOf Op.temps Arg.temps A6 xm wd
 V.refs V.refss Sh.beq Sh.beqs Blk.get Blk.set Blk.elems D.get D.set D.arrOf freezeIf freeze Blk.freeze i8 ry kj fe ee V.nat? unD callee t7 Heap.pick Heap.put putNews Blk.isHole V.ren V.rens xx Sr nm params D.flat D.flats ma Env.refd Env.free
theorem c9 {T:Nat→Option Fn} {A:am} {f:Nat} {fn:Fn} (hT:T f=some fn) {ds:List D} {d:D} (hl:ds.length=fn.nparams)
 (h:((dn (den T A) 0 fn.body ⟨params 0 (ds.map .d),List.replicate fn.nblk .hole⟩).bind (fin fn 0)).bind aem=some d):ask (den T A) f ds=some d:=by
 obtain ⟨r,h1,h2⟩:=aa.1 h;unfold ask;rw [pm hT (vs:=ds.map .d) (bs:=[]) (by rw [af]; exact hl) h1]
 exact h2
theorem bn {O:am} {np:Nat} {c:Cd} {s s1:St} {r:Option (Out×St)} (h:dn O np c s=some (.normal,s1)) (h2:dn O np (.loop c) s1=r):dn O np (.loop c) s=r:=by
 rw [Qc,h]; exact h2
theorem bu {O:am} {np:Nat} {c:Cd} {s s1:St} {id:Nat} (h:dn O np c s=some (.exit id,s1)):dn O np (.loop c) s=some (.exit id,s1):=by
 rw [Qc,h]; rfl
theorem u5 {O:am} {np:Nat} {c:Cd} {s s1:St} (h:dn O np c s=some (.ret,s1)):dn O np (.loop c) s=some (.ret,s1):=by
 rw [Qc,h]; rfl
def aq (k:IntKind) (l:List Int):List D:=l.map (.int k)
@[simp] theorem Sl (k:IntKind) (l:List Int):(aq k l).length=l.length:=by simp [aq]
@[simp] theorem ahz (k:IntKind) (l:List Int) (i:Nat):(aq k l)[i]? = (l[i]?).map (.int k):=by simp [aq]
@[simp] theorem aa9 (k:IntKind) (l:List Int) (i:Nat) (h:i<(aq k l).length):(aq k l)[i]=.int k (l[i]'(by simpa using h)):=by simp [aq]
@[simp] theorem afu (k:IntKind) (l:List Int) (n:Nat):(aq k l).take n=aq k (l.take n):=by simp [aq]
@[simp] theorem agn (k:IntKind) (l:List Int) (n:Nat):(aq k l).drop n=aq k (l.drop n):=by simp [aq]
@[simp] theorem aja (k:IntKind) (l:List Int) (n:Nat) (x:Int):(aq k l).set n (.int k x)=aq k (l.set n x):=by simp [aq,dy]
@[simp] theorem I8 (k:IntKind) (l m:List Int):aq k l++aq k m=aq k (l++m):=by simp [aq]
@[simp] theorem a6c (k:IntKind) (n:Nat) (x:Int):List.replicate n (D.int k x)=aq k (List.replicate n x):=by simp [aq]
@[simp] theorem Mb (k:IntKind):∀l:List Int,D.flats (aq k l)=true
 | []=>rfl
 | x::l=>by show (D.flat (.int k x)&&D.flats (aq k l))=true; rw [Mb k l]; rfl
theorem i6 (k:IntKind):aq k []=[]:=rfl
@[simp] theorem ajg (n:Nat):List.replicate (n+1) Blk.hole=.hole::List.replicate n .hole:=rfl
@[simp] theorem afy:List.replicate 0 Blk.hole=[]:=rfl
theorem w64 {x:Int} (h:-9223372036854775808≤x∧x≤9223372036854775807):IntKind.i64.wrap x=x:=IntWalk.i64_in x h
theorem wt {x y:Int} (h:-9223372036854775808≤x∧x≤9223372036854775807∧x=y:=by omega):IntKind.i64.wrap x=y:=(w64 ⟨h.1,h.2.1⟩).trans h.2.2
theorem wi (i:Nat) (h:(i:Int)<9223372036854775807:=by omega):IntKind.i64.wrap ((i:Int)+1)=((i+1:Nat):Int):=wt
theorem w8 {x:Int} (h:0≤x∧x<256):IntKind.u8.wrap x=x:=by
 simp only [IntKind.wrap,IntKind.bits,IntKind.signed];simp;omega
end Pe
namespace Pe
open Go Go.ChangeShapes
inductive Ty where
 | int (k:IntKind)
 | bool
 | str
 | arr (n:Nat) (T:Ty)
 | st (Ts:List Ty)
 | sl (T:Ty)
mutual
def Ty.sh:Ty→Sh
 | .arr n T=>.arr n T.sh
 | .st Ts=>.st (Ty.shs Ts)
 | .int _ | .bool | .str | .sl _=>.leaf
def Ty.shs:List Ty→List Sh
 | []=>[]
 | T::Ts=>T.sh::Ty.shs Ts
end
mutual
def y0 (P:Program):TypeId→Ty→Bool
 | t,.int k=>(match P.underlying t with | some (.int k')=>k' == k | _=>false)&&P.cellsOf t == 1
 | t,.bool=>(match P.underlying t with | some .bool=>true | _=>false)&&P.cellsOf t == 1
 | t,.str=>(match P.underlying t with | some .string=>true | _=>false)&&P.cellsOf t == 1
 | t,.arr n T=>(match P.underlying t with | some (.array m e)=>m == n&&y0 P e T | _=>false)&&P.cellsOf t == n*T.sh.size
 | t,.st Ts=>(match P.underlying t with | some (.struct fs)=>Bu P fs.toList 0 Ts | _=>false)&&P.cellsOf t == Sh.sizes (Ty.shs Ts)
 | t,.sl T=>(match P.underlying t with | some (.slice e)=>y0 P e T&&decide (0<T.sh.size) | _=>false)&&P.cellsOf t == 1
def Bu (P:Program):List Field→Nat→List Ty→Bool
 | [],_,[]=>true
 | f::fs,o,T::Ts=>f.offset == o&&y0 P f.type T&&Bu P fs (o+T.sh.size) Ts
 | _,_,_=>false
end
mutual
def Ty.has:Ty→D→Prop
 | .int k,.int k' n=>k'=k∧(Lit.int k n).wf=true
 | .bool,.bool _=>True
 | .str,.str s=>s.size≤maxLen
 | .arr n T,.arr m s xs=>m=n∧s=T.sh∧xs.length=n∧∀x∈xs,T.has x
 | .st Ts,.st ss xs=>ss=Ty.shs Ts∧Ty.hasAll Ts xs
 | .sl T,.sl s xs=>s=T.sh∧xs.length≤9223372036854775807∧∀x∈xs,T.has x
 | _,_=>False
def Ty.hasAll:List Ty→List D→Prop
 | [],[]=>True
 | T::Ts,x::xs=>T.has x∧Ty.hasAll Ts xs
 | _,_=>False
end
theorem yj {P:Program} {t:TypeId} {T:Ty} (h:y0 P t T=true):P.cellsOf t=T.sh.size:=by
 cases T <;> simp only [y0,av,beq_iff_eq] at h <;> simp only [Ty.sh,Sh.size] <;> exact h.2
mutual
theorem X2:∀(T:Ty) (d:D),T.has d→d.sh=T.sh
 | .int _,d,h | .bool,d,h | .str,d,h=>by cases d <;> simp [Ty.has] at h <;> rfl
 | .arr n T,d,h=>by
  cases d <;> simp only [Ty.has] at h
  obtain ⟨rfl,rfl,-⟩:=h;rfl
 | .st Ts,d,h=>by
  cases d <;> simp only [Ty.has] at h
  obtain ⟨rfl,-⟩:=h;rfl
 | .sl T,d,h=>by cases d <;> simp only [Ty.has] at h; rfl
end
section
variable {H:Type} {enc:TypeId×Value→H} {P:Program} {C:Cx} {base:Nat} {sp:Nat→Bool} {held:Bool}
theorem Cs {s:Sh} {Q:D→Prop} (hs:∀d,Q d→d.sh=s):∀(n:Nat) (cs:List Value),cs.length=n*s.size→(∀i,i<n→∃d,Q d∧RD C d ((cs.drop (i*s.size)).take s.size)) →
 ∃ds:List D,ds.length=n∧(∀d∈ds,Q d)∧RDs C s ds cs
 | 0,cs,hl,_=>⟨[],rfl,by simp,by simp only [RDs]; exact ej.1 (by simpa using hl)⟩
 | n+1,cs,hl,h=>by
  obtain ⟨d,hq,hd⟩:=h 0 (by omega)
  obtain ⟨ds,h1,h2,h3⟩:=Cs hs n (cs.drop s.size) (by rw [ec,hl,fq]; omega) (fun i hi=>by
   obtain ⟨d,hq,hd⟩:=h (i+1) (by omega)
   refine ⟨d,hq,?_⟩;rw [jc,show s.size+i*s.size=(i+1)*s.size by rw [fq]; omega]
   exact hd)
  refine ⟨d::ds,by simp [h1],by simpa using ⟨hq,h2⟩,?_⟩
  simp only [RDs];rw [lj,dh] at hd;exact ⟨cs.take s.size,cs.drop s.size,(i4 _ _).symm,hs d hq,hd,h3⟩
theorem a2o {w:World} {a:Addr} {v:Value} (h:w.cell? a=some v):a.spot=none∧∃c el fz,w.heap[a.block]? = some (.cells c el fz)∧c[a.off]? = some v:=by
 unfold World.cell? at h
 split at h
 ·rename_i c el fz hc
  split at h
  ·cases h
  ·rename_i hs
   exact ⟨by simpa using hs,c,el,fz,hc,h⟩
 ·cases h
theorem a8o {w:World} {a:Addr} {n:Nat} {cs:List Value} (hn:0<n) (h:w.cells? base a n=some cs):a.spot=none∧cs.length=n∧CellsAt w a.block a.off cs:=by
 obtain ⟨h1,h2,h3⟩:=World.cells?_some h;have h0:=h3 0 hn;rw [ac (by omega),Addr.add,if_pos rfl] at h0
 obtain ⟨hsp,c,el,fz,hc,_⟩:=a2o h0;refine ⟨hsp,h2,c,el,fz,hc,fun j u hu=>?_⟩
 have hj:j<n:=by
  have:=(ao.1 hu).1;omega
 have h4:=h3 j hj;rw [hu] at h4;unfold World.cell? at h4
 have hb:(a.add j).block=a.block∧(a.add j).off=a.off+j∧(a.add j).spot=none:=by
  unfold Addr.add
  split
  ·rename_i h; subst h; exact ⟨rfl,rfl,hsp⟩
  ·exact ⟨rfl,rfl,rfl⟩
 rw [hb.1,hc,hb.2.1,hb.2.2] at h4
 simpa using h4
theorem Ep {s:Sh} {Q:D→Prop} (hs:∀d,Q d→d.sh=s) (hk:0<s.size) {b:Nat}:∀(n o:Nat),0<n→(∀i,i<n→∃d cs,Q d∧RD C d cs∧cs.length=s.size∧CellsAt C.w b (o+i*s.size) cs) →
 ∃(ds:List D) (us:List Value),ds.length=n∧(∀d∈ds,Q d)∧RDs C s ds us∧us.length=n*s.size∧CellsAt C.w b o us
 | 0,o,h0,h=>absurd h0 (by omega)
 | n+1,o,_,h=>by
  obtain ⟨d,cs,hq,hd,hl,hc⟩:=h 0 (by omega)
  rw [lj,dd] at hc;rcases mf n with hn | hn
  ·subst hn
   exact ⟨[d],cs,rfl,by simpa using hq,by simp only [RDs]; exact ⟨cs,[],by simp,hs d hq,hd,rfl⟩,by omega,hc⟩
  ·obtain ⟨ds,us,h1,h2,h3,h4,h5⟩:=Ep hs hk n (o+s.size) hn (fun i hi=>by
    obtain ⟨d,cs,hq,hd,hl,hc⟩:=h (i+1) (by omega)
    refine ⟨d,cs,hq,hd,hl,?_⟩;rw [show o+s.size+i*s.size=o+(i+1)*s.size by rw [fq]; omega]
    exact hc)
   refine ⟨d::ds,cs++us,by simp [h1],by simpa using ⟨hq,h2⟩,by simp only [RDs]; exact ⟨cs,us,rfl,hs d hq,hd,h3⟩,by rw [bg,hl,h4,fq]; omega,?_⟩
   obtain ⟨a,el,fz,ha,hc⟩:=hc;obtain ⟨a',el',fz',ha',hc'⟩:=h5;obtain ⟨rfl,rfl,rfl⟩:a=a'∧el=el'∧fz=fz':=by rw [ha] at ha'; simpa using ha'
   refine ⟨a,el,fz,ha,fun j u hu=>?_⟩
   by_cases hj:j<cs.length
   ·rw [bi hj] at hu; exact hc j u hu
   ·rw [bj (by omega)] at hu
    have:=hc' _ u hu
    rwa [show o+s.size+(j-cs.length)=o+j by omega] at this
mutual
theorem zn (hI:∀b,b<C.w.heap.size→C.I b):∀(T:Ty) (t:TypeId) (fuel:Nat) (cs:List Value) (x:DataW H×List MemPlace),y0 P t T=true→DataW.trod enc P C.w base sp held fuel t cs=some x→∃d,T.has d∧RD C d cs
 | .int k,t,fuel,cs,x,hf,h=>by
  simp only [y0,av] at hf
  replace hf:=hf.1
  split at hf <;> simp at hf
  rename_i k' hu
  subst hf;obtain ⟨n,rfl,-,hw⟩:=DataW.trod_int hu h;exact ⟨.int k' n,⟨rfl,hw⟩,rfl⟩
 | .bool,t,fuel,cs,x,hf,h=>by
  simp only [y0,av] at hf
  replace hf:=hf.1
  split at hf <;> simp at hf
  rename_i hu
  obtain ⟨b,rfl,-⟩:=DataW.trod_bool hu h;exact ⟨.bool b,trivial,rfl⟩
 | .str,t,fuel,cs,x,hf,h=>by
  simp only [y0,av] at hf
  replace hf:=hf.1
  split at hf <;> simp at hf
  rename_i hu
  obtain ⟨s,rfl,-,hw⟩:=DataW.trod_string hu h;exact ⟨.str s,hw,rfl⟩
 | .arr n T,t,fuel,cs,x,hf,h=>by
  have hsz:=yj hf;simp only [y0,av] at hf
  replace hf:=hf.1
  split at hf <;> simp at hf
  rename_i m e hu
  obtain ⟨rfl,hfe⟩:=hf;have hse:=yj hfe;obtain ⟨xs,k,-,-,hl,hxl,hx⟩:=DataW.trod_array hu h
  obtain ⟨ds,h1,h2,h3⟩:=Cs (C:=C) (s:=T.sh) (Q:=T.has) (X2 T) m cs (by rw [hl,hsz]; rfl) (fun i hi=>by
   have h4:=hx i hi;rw [ac (by omega),hse] at h4
   exact zn hI T e k _ _ hfe h4)
  exact ⟨.arr m T.sh ds,⟨rfl,rfl,h1,h2⟩,by simp only [RD]; exact ⟨h1,h3⟩⟩
 | .st Ts,t,fuel,cs,x,hf,h=>by
  have hsz:=yj hf;simp only [y0,av] at hf
  replace hf:=hf.1
  split at hf
  case h_2=>cases hf
  rename_i fs hu
  obtain ⟨xs,k,-,-,hl,hxl,hx⟩:=DataW.trod_struct hu h
  obtain ⟨ds,h1,h2⟩:=Cm hI Ts fs.toList 0 k cs hf (by rw [hl,hsz]; simp [Ty.sh,Sh.size]) (fun f hfm=>by
   obtain ⟨i,hi,rfl⟩:=je hfm;have h4:=hx i fs.toList[i] (by rw [←i5]; exact ac hi)
   rw [ac (by rw [hxl,←qv]; exact hi)] at h4
   exact ⟨_,h4⟩)
  exact ⟨.st (Ty.shs Ts) ds,⟨rfl,h1⟩,by simp only [RD]; exact h2⟩
 | .sl T,t,fuel,cs,x,hf,h=>by
  simp only [y0,av] at hf
  replace hf:=hf.1
  split at hf <;> simp at hf
  rename_i e hu
  obtain ⟨hfe,hk⟩:=hf;have hse:=yj hfe;rcases DataW.trod_slice hu h with ⟨rfl,-⟩ | ⟨a,len,cap,elems,rest,n,-,rfl,-,hb,hle,hcap,hel,hx,-⟩
  ·exact ⟨.sl T.sh [],⟨rfl,by simp,by simp⟩,by simp only [RD]; exact ⟨none,0,rfl,ba _,.inl trivial⟩⟩
  ·rcases mf len with h0 | h0
   ·subst h0
    exact ⟨.sl T.sh [],⟨rfl,by simp,by simp⟩,by simp only [RD]; exact ⟨_,cap,rfl,hle,.inl trivial⟩⟩
   ·have hcell:∀i,i<len→∃d cs,T.has d∧RD C d cs∧cs.length=T.sh.size∧(a.add (i*T.sh.size)).spot=none∧CellsAt C.w a.block (a.off+i*T.sh.size) cs:=fun i hi=>by
     have h4:=hx i hi;rw [ac (by omega),hse] at h4
     obtain ⟨cs,hc,hy⟩:=aa.1 h4;obtain ⟨h5,h6,h7⟩:=a8o hk hc;obtain ⟨d,hd1,hd2⟩:=zn hI T e n _ _ hfe hy
     have hbl:(a.add (i*T.sh.size)).block=a.block∧(a.add (i*T.sh.size)).off=a.off+i*T.sh.size:=by
      unfold Addr.add
      split
      ·rename_i h; rw [h]; exact ⟨rfl,rfl⟩
      ·exact ⟨rfl,rfl⟩
     rw [hbl.1,hbl.2] at h7;exact ⟨d,cs,hd1,hd2,h6,h5,h7⟩
    obtain ⟨ds,us,h1,h2,h3,h4,h5⟩:=Ep (C:=C) (s:=T.sh) (Q:=T.has) (X2 T) hk len a.off h0 (fun i hi=>by
     obtain ⟨d,cs,g1,g2,g3,-,g4⟩:=hcell i hi;exact ⟨d,cs,g1,g2,g3,g4⟩)
    have hsp:a.spot=none:=by
     obtain ⟨_,_,_,_,_,g,_⟩:=hcell 0 h0;rw [lj,Addr.add,if_pos rfl] at g;exact g
    have hlt:a.block<C.w.heap.size:=by
     obtain ⟨c,el,fz,hc,-⟩:=h5;exact (ch.1 hc).1
    refine ⟨.sl T.sh ds,⟨rfl,by rw [h1]; unfold maxLen at hcap; omega,h2⟩,?_⟩
    simp only [RD];refine ⟨some a,cap,by rw [h1],by omega,.inr ⟨a.block,a.off,us,?_,hI _ hlt,h3,h5⟩⟩
    cases a;simp only at hsp;rw [hsp]
theorem Cm (hI:∀b,b<C.w.heap.size→C.I b):∀(Ts:List Ty) (fs:List Field) (o fuel:Nat) (cs:List Value),Bu P fs o Ts=true→cs.length=o+Sh.sizes (Ty.shs Ts) →
 (∀f∈fs,∃x,DataW.trod enc P C.w base sp held fuel f.type ((cs.drop f.offset).take (P.cellsOf f.type))=some x)→∃ds,Ty.hasAll Ts ds∧RDst C (Ty.shs Ts) ds (cs.drop o)
 | [],[],o,fuel,cs,_,hl,_=>⟨[],trivial,by simp only [Ty.shs,RDst]; rw [List.drop_eq_nil_iff]; simp [Ty.shs,Sh.sizes] at hl; omega⟩
 | [],_::_,o,fuel,cs,hf,_,_=>by simp [Bu] at hf
 | _::_,[],o,fuel,cs,hf,_,_=>by simp [Bu] at hf
 | T::Ts,f::fs,o,fuel,cs,hf,hl,h=>by
  simp only [Bu,av,beq_iff_eq] at hf;obtain ⟨⟨ho,hft⟩,hfs⟩:=hf;have hse:=yj hft;simp only [Ty.shs,Sh.sizes] at hl;obtain ⟨x,hx⟩:=h f (by simp)
  obtain ⟨d,hd1,hd2⟩:=zn hI T f.type fuel _ x hft hx;obtain ⟨ds,h1,h2⟩:=Cm hI Ts fs (o+T.sh.size) fuel cs hfs (by omega) (fun g hg=>h g (ka _ hg))
  refine ⟨d::ds,⟨hd1,h1⟩,?_⟩;simp only [Ty.shs,RDst];rw [hse,ho] at hd2;refine ⟨_,_,?_,X2 T d hd1,hd2,h2⟩;rw [←jc,i4]
end
theorem aaf {W:World} {r:Reach} {T:Ty} {t:TypeId} {v:Value} {d:D} (hf:y0 P t T=true) (hd:T.has d) (h:Value.okWide P W r base t v):isAgg v=d.isAgg:=by
 unfold Value.okWide at h;cases T with
 | int k=>
  simp only [y0,av] at hf
  replace hf:=hf.1
  split at hf <;> simp at hf
  rename_i k' hu
  rw [hu] at h;cases d <;> simp only [Ty.has] at hd
  cases v <;> first | rfl | (simp [Cell.okWide,Cell.ok,hu] at h; done)
 | bool=>
  simp only [y0,av] at hf
  replace hf:=hf.1
  split at hf <;> simp at hf
  rename_i hu
  rw [hu] at h;cases d <;> simp only [Ty.has] at hd
  cases v <;> first | rfl | (simp [Cell.okWide,Cell.ok,hu] at h; done)
 | str=>
  simp only [y0,av] at hf
  replace hf:=hf.1
  split at hf <;> simp at hf
  rename_i hu
  rw [hu] at h;cases d <;> simp only [Ty.has] at hd
  cases v <;> first | rfl | (simp [Cell.okWide,Cell.ok,hu] at h; done)
 | sl T=>
  simp only [y0,av] at hf
  replace hf:=hf.1
  split at hf <;> simp at hf
  rename_i e hu
  rw [hu] at h;cases d <;> simp only [Ty.has] at hd
  cases v <;> first | rfl | (simp [Cell.okWide,Cell.ok,hu] at h; done)
 | arr n T=>
  simp only [y0,av] at hf
  replace hf:=hf.1
  split at hf
  case h_2=>cases hf
  rename_i hu
  rw [hu] at h;obtain ⟨cs,rfl,-⟩:=h;cases d <;> simp only [Ty.has] at hd
  rfl
 | st Ts=>
  simp only [y0,av] at hf
  replace hf:=hf.1
  split at hf
  case h_2=>cases hf
  rename_i hu
  rw [hu] at h;obtain ⟨cs,rfl,-⟩:=h;cases d <;> simp only [Ty.has] at hd
  rfl
def At (P:Program):List TypeId→List Ty→Bool
 | [],[]=>true
 | t::ts,T::Ts=>y0 P t T&&P.readableRec t&&decide (t<P.types.size)&&At P ts Ts
 | _,_=>false
theorem Ob (hI:∀b,b<C.w.heap.size→C.I b) {r:Reach} {b0:Nat}:∀(ts:List TypeId) (Ts:List Ty) (vs:List Value) (ds:List (DataW H)) (ps:List MemPlace),At P ts Ts=true→DataW.TrodAll enc P C.w base sp held ts vs ds ps →
 (∀(j:Nat) t v,ts[j]? = some t→vs[j]? = some v→Value.okWide P C.w r b0 t v)→∃xs,Ty.hasAll Ts xs∧RVs C xs vs
 | [],[],vs,ds,ps,_,h,_=>by
  obtain ⟨rfl,-,-⟩:=trodAll_nil h;exact ⟨[],trivial,by simp only [RVs]⟩
 | [],_::_,vs,ds,ps,hf,_,_=>by simp [At] at hf
 | _::_,[],vs,ds,ps,hf,_,_=>by simp [At] at hf
 | t::ts,T::Ts,vs,ds,ps,hf,h,hv=>by
  simp only [At,av] at hf;obtain ⟨⟨⟨hf1,-⟩,-⟩,hf2⟩:=hf;obtain ⟨v,vs',d,ds',p,q,rfl,rfl,rfl,⟨fuel,hd⟩,hr⟩:=trodAll_cons h;obtain ⟨x,hx1,hx2⟩:=zn hI T t fuel _ _ hf1 hd;obtain ⟨xs,h1,h2⟩:=Ob hI ts Ts vs' ds' q hf2 hr (fun j t' v' hj hv'=>hv (j+1) t' v' (by simpa using hj) (by simpa using hv'))
  refine ⟨x::xs,⟨hx1,h1⟩,?_⟩;simp only [RVs];exact ⟨v,vs',rfl,aaf hf1 hx1 (hv 0 t v rfl rfl),hx2,h2⟩
theorem Og {W W':World} (hl:laidOutB P=true) (hb:RowKit.Below W.heap.size W W'):∀(ts:List TypeId) (Ts:List Ty) (vs:List Value) (ds:List (DataW H)) (ps:List MemPlace),At P ts Ts=true→DataW.TrodAll enc P W 0 (fun _=>true) true ts vs ds ps →
 (∀x∈ps,x.block<W.heap.size)→DataW.TrodAll enc P W' 0 (fun b=>decide (b<W.heap.size)) true ts vs ds ps
 | [],[],vs,ds,ps,_,h,_=>by
  obtain ⟨rfl,rfl,rfl⟩:=trodAll_nil h;rfl
 | [],_::_,vs,ds,ps,hf,_,_=>by simp [At] at hf
 | _::_,[],vs,ds,ps,hf,_,_=>by simp [At] at hf
 | t::ts,T::Ts,vs,ds,ps,hf,h,hp=>by
  simp only [At,av,decide_eq_true_eq] at hf;obtain ⟨⟨⟨-,hf1⟩,hf3⟩,hf2⟩:=hf;obtain ⟨v,vs',d,ds',p,q,rfl,rfl,rfl,hd,hr⟩:=trodAll_cons h;exact ⟨p,q,RowKit.Below.trod hl hf1 hf3 hd hb (fun x hx=>hp x (cd _ hx)),Og hl hb ts Ts vs' ds' q hf2 hr (fun x hx=>hp x (List.mem_append_right _ hx)),rfl⟩
def Et (P:Program) (f:Func):Bool:=match f.resultTypes.toList with
 | [t]=>match P.underlying t with
  | some .bool=>true
  | _=>false
 | _=>false
theorem N8 {f:Func} (h:Et P f=true):∃tb,f.resultTypes = #[tb]∧P.underlying tb=some .bool:=by
 unfold Et at h
 split at h
 ·rename_i t ht
  split at h
  ·rename_i hu
   exact ⟨t,by rw [←Array.toList_inj,ht],hu⟩
  ·cases h
 ·cases h
theorem a46 {f:Func} {s:ChangeSpec} {apart fresh:Bool} {W W':World} {args:Array Value} {ds gs:List (DataW H)} {before:List MemPlace} {Ts:List Ty}
 (hW:DataW.Whole enc P f.params.toList s.vars apart W args.toList ds gs before) (hvars:s.vars=[]) (hs:s.fn H (ds++gs) = { results:=[.lit (.bool true)],args:=ds })
 (hr:Et P f=true) (hl:laidOutB P=true) (hf:At P f.params.toList Ts=true) (hb:RowKit.Below W.heap.size W W') :
 s.post enc P f apart fresh false false W args (.bool true) W':=by
 have hW0:=hW;obtain ⟨p,q,hA,hV,rfl,hz,hn⟩:=hW;have hlt:=DataW.TrodAll.lt hA;obtain ⟨tb,hr,htb⟩:=N8 hr;rw [hvars] at hV;obtain ⟨rfl,rfl⟩:=trodVars_none hV;refine ⟨ds,[],_,[],p,[],hW0,?_,?_,?_,hb.frame _,fun h=>by cases h⟩
 ·rw [hs,hr]
  exact ⟨[],[],⟨1,by simp [DataW.trod,Value.cells,htb]⟩,rfl,rfl⟩
 ·rw [hs]
  exact Og hl hb _ _ _ _ _ hf hA hlt
 ·rw [hs,hvars]
  rfl
end
theorem Xr {P:Program} {num:Nat→Nat} {O:am} (hO:km P num O) {F:Nat} {xs:List D} (h:ask O F xs=some (.bool true)) {W:World} {vs:List Value} (hv:RVs ⟨W,fun b=>b<W.heap.size,num⟩ xs vs) :
 Calls P (num F) vs.toArray W fun e W'=>e=.returned (.bool true)∧RowKit.Below W.heap.size W W':=by
 unfold ask at h;obtain ⟨⟨v,bs,nb⟩,h1,h2⟩:=aa.1 h;obtain ⟨hl,-,hcall⟩:=hO F (xs.map .d) [] _ h1 ⟨W,fun b=>b<W.heap.size,num⟩ (fun _ _=>none) vs rfl ⟨by simp,by simp⟩ (fun b hb=>hb) (wm hv)
 refine Calls.mono hcall ?_
 rintro e w' ⟨u,C2,φ2,rfl,rfl,st,-,hu⟩
 have hno:∀b,¬ OwnB (fun _ _=>none) [] b:=by rintro b ⟨i,k,B,o,hB,_⟩; simp at hB
 have hbs:bs=[]:=ej.1 hl;subst hbs;have hx:RV _ (.bool true) u:=v5 st.hr v _ u h2 hu;refine ⟨?_,st.os,st.tape,st.out,st.size,fun k hk=>st.kept k hk (hno k)⟩
 simp only [RV,RD,D.isAgg] at hx;obtain ⟨h3,h4⟩:=hx;cases u <;> simp [Value.cells,isAgg] at h3 h4
 rw [h4]
end Pe

/-
 The numbers of the functions.
-/
namespace Pe
abbrev F1y:Nat:=45
abbrev F24:Nat:=57
abbrev F1z:Nat:=65
abbrev F23:Nat:=93
abbrev F25:Nat:=95
abbrev F20:Nat:=97
abbrev F22:Nat:=103
abbrev F21:Nat:=104
abbrev F3b:Nat:=237
abbrev F4:Nat:=238
abbrev Fk:Nat:=313
abbrev F1m:Nat:=315
abbrev F1g:Nat:=318
abbrev F11:Nat:=319
abbrev Fq:Nat:=320
abbrev F41:Nat:=323
abbrev F45:Nat:=324
abbrev F1l:Nat:=326
abbrev Fe:Nat:=327
abbrev F3e:Nat:=331
abbrev F1o:Nat:=336
abbrev F1a:Nat:=341
abbrev F19:Nat:=342
abbrev Fw:Nat:=344
abbrev F18:Nat:=347
abbrev Fz:Nat:=348
abbrev F3q:Nat:=349
abbrev F3h:Nat:=350
abbrev F3j:Nat:=351
abbrev F16:Nat:=360
abbrev F14:Nat:=363
abbrev F1j:Nat:=364
abbrev F4c:Nat:=367
abbrev F1c:Nat:=369
abbrev F1s:Nat:=370
abbrev F44:Nat:=371
abbrev Ff:Nat:=373
abbrev F42:Nat:=374
abbrev F1e:Nat:=375
abbrev Ft:Nat:=378
abbrev F48:Nat:=381
abbrev F2b:Nat:=382
abbrev F12:Nat:=383
abbrev F3v:Nat:=384
abbrev F3p:Nat:=386
abbrev F1x:Nat:=387
abbrev F1t:Nat:=388
abbrev F1v:Nat:=389
abbrev F4a:Nat:=390
abbrev Fy:Nat:=391
abbrev F3l:Nat:=395
abbrev F1q:Nat:=400
abbrev Fa:Nat:=413
abbrev F1w:Nat:=414
abbrev Fl:Nat:=415
abbrev F3c:Nat:=416
abbrev F3o:Nat:=417
abbrev F3i:Nat:=418
abbrev F1h:Nat:=419
abbrev F17:Nat:=420
abbrev F1p:Nat:=421
abbrev F3z:Nat:=431
abbrev Fh:Nat:=432
abbrev F46:Nat:=437
abbrev F4d:Nat:=438
abbrev F4b:Nat:=439
abbrev Fr:Nat:=440
abbrev F3m:Nat:=448
abbrev F10:Nat:=453
abbrev F3g:Nat:=454
abbrev F3n:Nat:=455
abbrev F3s:Nat:=457
abbrev F13:Nat:=458
abbrev Fs:Nat:=461
abbrev F1b:Nat:=469
abbrev F3w:Nat:=493
abbrev F3u:Nat:=495
abbrev F3f:Nat:=501
abbrev F47:Nat:=502
abbrev Fg:Nat:=503
abbrev Fm:Nat:=508
abbrev Fj:Nat:=509
abbrev F1r:Nat:=521
abbrev F6:Nat:=530
abbrev F1d:Nat:=531
abbrev F3k:Nat:=532
abbrev Fu:Nat:=534
abbrev F3r:Nat:=556
abbrev Fx:Nat:=557
abbrev F1n:Nat:=558
abbrev Fi:Nat:=559
abbrev F3x:Nat:=560
abbrev F1k:Nat:=567
abbrev F1i:Nat:=568
abbrev F2h:Nat:=569
abbrev F15:Nat:=570
abbrev Fc:Nat:=571
abbrev F40:Nat:=572
abbrev F2i:Nat:=573
abbrev F1f:Nat:=574
abbrev F1u:Nat:=576
abbrev F3y:Nat:=577
abbrev F2d:Nat:=590
abbrev Fb:Nat:=591
abbrev F43:Nat:=592
abbrev F3d:Nat:=595
abbrev F3t:Nat:=596
abbrev F49:Nat:=605
abbrev Fo:Nat:=606
abbrev F8:Nat:=619
abbrev Fv:Nat:=620
abbrev F34:Nat:=644
abbrev F27:Nat:=645
abbrev F0:Nat:=646
abbrev F1:Nat:=647
abbrev F35:Nat:=648
abbrev F2g:Nat:=653
abbrev F2c:Nat:=658
abbrev F9:Nat:=659
abbrev F2p:Nat:=694
abbrev F2n:Nat:=695
abbrev F2j:Nat:=696
abbrev F2l:Nat:=697
abbrev F36:Nat:=698
abbrev F2y:Nat:=699
abbrev F32:Nat:=700
abbrev F30:Nat:=701
abbrev F28:Nat:=702
abbrev F29:Nat:=703
abbrev F2:Nat:=704
abbrev F3:Nat:=705
abbrev F2q:Nat:=706
abbrev F2o:Nat:=707
abbrev F2k:Nat:=708
abbrev F2m:Nat:=709
abbrev F37:Nat:=710
abbrev F2z:Nat:=711
abbrev F33:Nat:=712
abbrev F31:Nat:=713
abbrev F2f:Nat:=717
abbrev F38:Nat:=762
abbrev F2v:Nat:=763
abbrev F3a:Nat:=764
abbrev F2r:Nat:=765
abbrev F2t:Nat:=766
abbrev F39:Nat:=767
abbrev F2s:Nat:=768
abbrev F2u:Nat:=769
abbrev F2w:Nat:=798
abbrev F2x:Nat:=799
abbrev F26:Nat:=1095
abbrev F5:Nat:=1238
abbrev F2e:Nat:=1575
abbrev F2a:Nat:=1597
def z64:List D:=List.replicate 64 (.int .u8 0)
def z8:List D:=List.replicate 8 (.arr 64 .leaf z64)
abbrev Lw (d s:Nat):Ins:=⟨some d,.mv (.t s),none,[]⟩
abbrev Ll (d:Nat) (o:Op):Ins:=⟨some d,o,none,[]⟩
abbrev Ls (o:Op):Ins:=⟨none,o,none,[]⟩
abbrev Lx (d s g:Nat) (b:Bool):Ins:=⟨some d,.mv (.t s),some (g,b),[]⟩
abbrev Lg (d:Nat) (o:Op) (g:Nat) (b:Bool):Ins:=⟨some d,o,some (g,b),[]⟩
abbrev Sx6:Sh:=.arr 64 .leaf
abbrev Sx8:Sh:=.arr 8 Sx6
abbrev Sx4:List Sh:=[.leaf,Sx6,Sx6,Sx6]
abbrev Acx (n:Int):Arg:=.c (.int .i64 n)
abbrev Ofx (f:Nat) (l:List Arg):Op:=.call .flat [] (.f f) l
abbrev Opx (f:Nat) (l:List Arg):Op:=.call .plain [] (.f f) l
abbrev Ipx (d s:Nat):Ins:=Ll d (.load Sx6 (.t s))
abbrev Ilx (d s:Nat):Ins:=Ll d (.load .leaf (.t s))
abbrev Isx (d s:Nat):Ins:=Ll d (.load Sx8 (.t s))
abbrev Iex (d s k:Nat):Ins:=Ll d (.ext (.t s) k)
abbrev Ibn (d:Nat) (o:Go.BinOp) (a b:Nat):Ins:=Ll d (.bin o (.t a) (.t b))
abbrev Ibc (d:Nat) (o:Go.BinOp) (a:Nat) (b:Int):Ins:=Ll d (.bin o (.t a) (Acx b))
abbrev Imc (d:Nat) (b:Int):Ins:=Ll d (.mv (Acx b))
abbrev Ien (d a:Nat):Ins:=Ll d (.len false (.t a))
abbrev Ibx (d i a:Nat):Ins:=Ll d (.box false i (.t a))
abbrev Ibz (d i:Nat):Ins:=Ll d (.box false i (.c (.arr 64 .leaf z64)))
abbrev Iz6 (d:Nat):Ins:=Ll d (.build false (.arr 64 .leaf z64) [])
abbrev Iia (d:Nat) (s:Sh) (a b:Nat):Ins:=Ll d (.idxA none s (.t a) (.t b))
abbrev Iis (d n:Nat) (s:Sh) (a b:Nat):Ins:=Ll d (.idxA (some n) s (.t a) (.t b))
abbrev Ian (d a b:Nat):Ins:=Ll d (.pick (.t a) (.t b) (.c (.bool false)))
abbrev Ior (d a b:Nat):Ins:=Ll d (.pick (.t a) (.c (.bool true)) (.t b))
abbrev Icv (d:Nat) (k:Go.IntKind) (a:Nat):Ins:=Ll d (.conv k (.t a))
abbrev Irg (a:List Ins) (k:List Nat) (c:Cd):Cd:=.seq (.region a k) c
abbrev Icd (a:Nat) (c d:Cd):Cd:=.cond (.t a) c d
end Pe

/-
 Functions of the program in the small form,printed by a program.
-/
namespace Pe
open Go
def Z1r_L0:Cd:=
 .seq (Irg [Lw 6 3,
 Ibc 7 .gtr 6 0,
 Lw 8 7,
 Lx 9 0 8 true,
 Lx 10 3 8 true,
 Lg 11 (.bin .sub (.t 10) (Acx 1)) 8 true,
 Lg 12 (.idxA none .leaf (.t 9) (.t 11)) 8 true,
 Lg 13 (.load .leaf (.t 12)) 8 true,
 Lg 14 (.bin .eql (.t 13) (Acx 0)) 8 true,
 Ian 15 8 14] [0,3,15]
 (Icd 15
 (.skip)
 (.exit 0)))
 (.block 1 (.region [Lw 16 3,
 Ibc 17 .sub 16 1,
 Lw 3 17] [0,3]))
def Z1r_B:Cd:=
 Irg [Ll 2 (.mv (.c (.sl .leaf [])))] [0]
 (Irg [Lw 4 0,
 Ien 5 4,
 Lw 3 5] [0,3]
 (.seq (.block 0 (.loop (Z1r_L0)))
 (Irg [Lw 18 0,
 Lw 19 3,
 Lw 20 3,
 Ll 21 (.cut none .leaf (.t 18) none (some (.t 19)) (some (.t 20))),
 Lw 2 21] [2]
 (.ret))))
def Z1r:Fn:=
 { nparams:=1,nblk:=0,results:=[.tmp 2],body:=Z1r_B }
def Z1m_L0:Cd:=
 Irg [Ibc 8 .lss 7 64] [3,6,7,8]
 (.seq (Icd 8
 (.skip)
 (.exit 0))
 (.seq (.block 1 (Irg [Ll 9 (.idx (some 64) .leaf (.t 6) (.t 7)),
 Lw 5 9] [3,5,6,7]
 (.region [Lw 10 3,
 Lw 11 5,
 Icv 12 .i64 11,
 Ll 13 (.buildSl false 2 .leaf (.int .i64 0) 1 [(0,(.t 12))]),
 Ll 14 (.append .leaf 3 8 (.t 10) (.t 13)),
 Lw 3 14] [3,6,7])))
 (.region [Ibc 15 .add 7 1,
 Lw 7 15] [3,6,7])))
def Z1m_B:Cd:=
 Irg [Ibx 1 0 0,
 Ll 2 (.mv (.c (.sl .leaf [])))] [1]
 (Irg [Ll 3 (.nilOwn 1 .leaf)] [1,3]
 (.seq (Irg [Ipx 6 1,
 Imc 7 0] [3,6,7]
 (.block 0 (.loop (Z1m_L0))))
 (Irg [Lw 16 3,
 Ll 17 (.call .data [] (.f F1r) [(.t 16)]),
 Lw 2 17] [2]
 (.ret))))
def Z1m:Fn:=
 { nparams:=1,nblk:=4,results:=[.tmp 2],body:=Z1m_B }
def Z1o_B:Cd:=
 Irg [Imc 2 0] [0]
 (Irg [Lw 3 0,
 Ien 4 3,
 Ibc 5 .sub 4 1,
 Lw 2 5] [2]
 (.ret))
def Z1o:Fn:=
 { nparams:=1,nblk:=0,results:=[.tmp 2],body:=Z1o_B }
def Zw_B:Cd:=
 Irg [Ll 2 (.mv (.c (.bool false)))] [0]
 (Irg [Lw 3 0,
 Ibc 4 .eql 3 2,
 Lw 5 4,
 Lx 6 0 5 false,
 Lg 7 (.bin .eql (.t 6) (Acx 3)) 5 false,
 Ior 8 5 7,
 Lw 9 8,
 Lx 10 0 9 false,
 Lg 11 (.bin .eql (.t 10) (Acx 5)) 9 false,
 Ior 12 9 11,
 Lw 13 12,
 Lx 14 0 13 false,
 Lg 15 (.bin .eql (.t 14) (Acx 7)) 13 false,
 Ior 16 13 15,
 Lw 2 16] [2]
 (.ret))
def Zw:Fn:=
 { nparams:=1,nblk:=0,results:=[.tmp 2],body:=Zw_B }
def Zb_B:Cd:=
 Irg [Ibx 2 0 0,
 Ll 3 (.mv (.c (.bool false)))] [1,2]
 (Irg [Ilx 4 1,
 Ipx 5 2,
 Ll 6 (.call .flat [] (.t 4) [(.t 5)]),
 Ll 7 (.un .not (.t 6)),
 Lw 3 7] [3]
 (.ret))
def Zb:Fn:=
 { nparams:=2,nblk:=1,results:=[.tmp 3],body:=Zb_B }
def Za_B:Cd:=
 Irg [Ibx 3 0 1,
 Ll 4 (.mv (.c (.bool false)))] [0,3]
 (Irg [Lw 5 0,
 Ll 6 (.mkFn Fb [] [(.t 3)]),
 Ll 7 (Ofx F2d [(.t 5),(.t 6)]),
 Ll 8 (.un .not (.t 7)),
 Lw 4 8] [4]
 (.ret))
def Za:Fn:=
 { nparams:=2,nblk:=1,results:=[.tmp 4],body:=Za_B }
def Z9_B:Cd:=
 Irg [Ll 3 (.mv (.c (.bool false)))] [0,1]
 (Irg [Ilx 4 1,
 Lw 5 0,
 Ll 6 (.call .flat [] (.t 4) [(.t 5)]),
 Ll 7 (.un .not (.t 6)),
 Lw 3 7] [3]
 (.ret))
def Z9:Fn:=
 { nparams:=2,nblk:=0,results:=[.tmp 3],body:=Z9_B }
def Z8_B:Cd:=
 Irg [Ibx 3 0 1,
 Ll 4 (.mv (.c (.bool false)))] [0,3]
 (Irg [Lw 5 0,
 Ll 6 (.mkFn F9 [] [(.t 3)]),
 Ll 7 (Ofx F2c [(.t 5),(.t 6)]),
 Ll 8 (.un .not (.t 7)),
 Lw 4 8] [4]
 (.ret))
def Z8:Fn:=
 { nparams:=2,nblk:=1,results:=[.tmp 4],body:=Z8_B }
def Zv_B:Cd:=
 Irg [Ll 3 (.mv (.c (.bool false)))] [0,1]
 (Irg [Lw 4 0,
 Icv 5 .i64 4,
 Ilx 6 1,
 Ibn 7 .lss 5 6,
 Lw 3 7] [3]
 (.ret))
def Zv:Fn:=
 { nparams:=2,nblk:=0,results:=[.tmp 3],body:=Zv_B }
def Zu_B:Cd:=
 Irg [Ibx 2 0 0,
 Ibx 3 1 1,
 Ll 4 (.mv (.c (.bool false)))] [2,3]
 (Irg [Ll 5 (.cut (some 64) .leaf (.t 3) none none none),
 Ll 6 (.mkFn Fv [] [(.t 2)]),
 Ll 7 (Ofx F8 [(.t 5),(.t 6)]),
 Lw 4 7] [4]
 (.ret))
def Zu:Fn:=
 { nparams:=2,nblk:=2,results:=[.tmp 4],body:=Zu_B }
def Z1x_B:Cd:=
 Irg [Ll 6 (.mv (.c (.bool false)))] [0,1,2]
 (Irg [Lw 7 1,
 Lw 8 0,
 Ibn 9 .leq 7 8,
 Lw 10 9,
 Lx 11 0 10 true,
 Lx 12 2 10 true,
 Lg 13 (.bin .leq (.t 11) (.t 12)) 10 true,
 Ian 14 10 13,
 Lw 6 14] [6]
 (.ret))
def Z1x:Fn:=
 { nparams:=3,nblk:=0,results:=[.tmp 6],body:=Z1x_B }
def Z1p_B:Cd:=
 Irg [Imc 2 0] [0]
 (.seq (Irg [Lw 3 0,
 Ien 4 3,
 Ibc 5 .eql 4 0] [0,5]
 (Icd 5
 (Irg [Imc 2 0] [2]
 (.ret))
 (.skip)))
 (Irg [Lw 6 0,
 Lw 7 0,
 Ien 8 7,
 Ibc 9 .sub 8 1,
 Iia 10 .leaf 6 9,
 Ilx 11 10,
 Lw 2 11] [2]
 (.ret)))
def Z1p:Fn:=
 { nparams:=1,nblk:=0,results:=[.tmp 2],body:=Z1p_B }
def Z19_L0:Cd:=
 Irg [Ibn 10 .lss 9 8] [0,2,7,8,9,10]
 (.seq (Icd 10
 (.skip)
 (.exit 0))
 (.seq (.block 1 (.seq (Irg [Lw 11 7,
 Lw 12 2,
 Ibn 13 .gtr 11 12] [0,2,7,8,9,13]
 (Icd 13
 (.exit 0)
 (.skip)))
 (.region [Lw 14 7,
 Lw 15 0,
 Ibn 16 .mul 14 15,
 Lw 7 16] [0,2,7,8,9])))
 (.region [Ibc 17 .add 9 1,
 Lw 9 17] [0,2,7,8,9])))
def Z19_B:Cd:=
 Irg [Imc 6 0] [0,1,2]
 (Irg [Imc 7 1] [0,1,2,7]
 (.seq (Irg [Lw 8 1,
 Imc 9 0] [0,2,7,8,9]
 (.block 0 (.loop (Z19_L0))))
 (Irg [Lw 18 7,
 Lw 6 18] [6]
 (.ret))))
def Z19:Fn:=
 { nparams:=3,nblk:=0,results:=[.tmp 6],body:=Z19_B }
def Z1a_L0:Cd:=
 .seq (Irg [Lw 6 1,
 Ibc 7 .gtr 6 0] [0,1,5,7]
 (Icd 7
 (.skip)
 (.exit 0)))
 (.seq (.block 1 (.region [Lw 11 5,
 Lw 12 1,
 Lw 13 0,
 Ibn 14 .rem 12 13,
 Ll 15 (.buildSl false 1 .leaf (.int .i64 0) 1 [(0,(.t 14))]),
 Ll 16 (.append .leaf 2 8 (.t 11) (.t 15)),
 Lw 5 16] [0,1,5]))
 (.region [Lw 8 1,
 Lw 9 0,
 Ibn 10 .quo 8 9,
 Lw 1 10] [0,1,5]))
def Z1a_B:Cd:=
 Irg [Ll 4 (.mv (.c (.sl .leaf [])))] [0,1]
 (Irg [Ll 5 (.nilOwn 0 .leaf)] [0,1,5]
 (.seq (.block 0 (.loop (Z1a_L0)))
 (Irg [Lw 17 5,
 Lw 4 17] [4]
 (.ret))))
def Z1a:Fn:=
 { nparams:=2,nblk:=3,results:=[.tmp 4],body:=Z1a_B }
def Z1d_B:Cd:=
 Irg [Imc 4 0] [0,1]
 (Irg [Lw 5 1,
 Lw 6 0,
 Ibn 7 .rem 5 6,
 Lw 8 0,
 Ibn 9 .add 7 8,
 Lw 10 0,
 Ibn 11 .rem 9 10,
 Lw 4 11] [4]
 (.ret))
def Z1d:Fn:=
 { nparams:=2,nblk:=0,results:=[.tmp 4],body:=Z1d_B }
def Z1n_B:Cd:=
 Irg [Imc 4 0] [0,1]
 (.seq (Irg [Lw 5 1,
 Lw 6 0,
 Ien 7 6,
 Ibn 8 .lss 5 7] [0,1,8]
 (Icd 8
 (Irg [Lw 9 0,
 Lw 10 1,
 Iia 11 .leaf 9 10,
 Ilx 12 11,
 Lw 4 12] [4]
 (.ret))
 (.skip)))
 (Irg [Imc 4 0] [4]
 (.ret)))
def Z1n:Fn:=
 { nparams:=2,nblk:=0,results:=[.tmp 4],body:=Z1n_B }
def Z11_L0:Cd:=
 Irg [Ibn 20 .lss 19 18] [0,1,2,3,9,18,19,20]
 (.seq (Icd 20
 (.skip)
 (.exit 0))
 (.seq (.block 1 (Irg [Lw 21 19,
 Lw 10 21] [0,1,2,3,9,10,18,19]
 (.region [Lw 22 9,
 Lw 23 10,
 Lw 24 0,
 Lw 25 1,
 Lw 26 10,
 Ll 27 (Ofx F1n [(.t 25),(.t 26)]),
 Lw 28 3,
 Lw 29 2,
 Lw 30 10,
 Ll 31 (Ofx F1n [(.t 29),(.t 30)]),
 Ibn 32 .mul 28 31,
 Ibn 33 .add 27 32,
 Ll 34 (Ofx F1d [(.t 24),(.t 33)]),
 Iia 35 .leaf 22 23,
 Ls (.store false .leaf (.t 35) (.t 34))] [0,1,2,3,9,18,19])))
 (.region [Ibc 36 .add 19 1,
 Lw 19 36] [0,1,2,3,9,18,19])))
def Z11_B:Cd:=
 Irg [Ll 8 (.mv (.c (.sl .leaf [])))] [0,1,2,3]
 (Irg [Lw 11 1,
 Ien 12 11,
 Lw 13 2,
 Ien 14 13,
 Ll 15 (.maxI (.t 12) (.t 14)),
 Ll 16 (.mkSl 0 .leaf (.int .i64 0) 8 (.t 15) (.t 15)),
 Lw 9 16] [0,1,2,3,9]
 (.seq (Irg [Lw 17 9,
 Ien 18 17,
 Imc 19 0] [0,1,2,3,9,18,19]
 (.block 0 (.loop (Z11_L0))))
 (Irg [Lw 37 9,
 Ll 38 (.call .data [] (.f F1r) [(.t 37)]),
 Lw 8 38] [8]
 (.ret))))
def Z11:Fn:=
 { nparams:=4,nblk:=1,results:=[.tmp 8],body:=Z11_B }
def Z1j_L0:Cd:=
 Irg [Ibn 39 .lss 38 37] [0,2,7,8,9,29,30,31,36,37,38,39]
 (.seq (Icd 39
 (.skip)
 (.exit 2))
 (.seq (.block 3 (Irg [Lw 40 38,
 Iia 41 .leaf 36 38,
 Ilx 42 41,
 Lw 10 40,
 Lw 11 42] [0,2,7,8,9,10,11,29,30,31,36,37,38]
 (.region [Lw 43 7,
 Lw 44 8,
 Lw 45 10,
 Ibn 46 .add 44 45,
 Iia 47 .leaf 43 46,
 Ilx 48 47,
 Lw 49 9,
 Lw 50 11,
 Ibn 51 .mul 49 50,
 Ibn 52 .add 48 51,
 Iia 53 .leaf 43 46,
 Ls (.store false .leaf (.t 53) (.t 52))] [0,2,7,8,9,29,30,31,36,37,38])))
 (.region [Ibc 54 .add 38 1,
 Lw 38 54] [0,2,7,8,9,29,30,31,36,37,38])))
def Z1j_L1:Cd:=
 Irg [Ibn 32 .lss 31 30] [0,2,7,29,30,31,32]
 (.seq (Icd 32
 (.skip)
 (.exit 0))
 (.seq (.block 1 (Irg [Lw 33 31,
 Iia 34 .leaf 29 31,
 Ilx 35 34,
 Lw 8 33,
 Lw 9 35] [0,2,7,8,9,29,30,31]
 (Irg [Lw 36 2,
 Ien 37 36,
 Imc 38 0] [0,2,7,8,9,29,30,31,36,37,38]
 (.block 2 (.loop (Z1j_L0))))))
 (.region [Ibc 55 .add 31 1,
 Lw 31 55] [0,2,7,29,30,31])))
def Z1j_L2:Cd:=
 Irg [Ibn 59 .lss 58 57] [0,7,56,57,58,59]
 (.seq (Icd 59
 (.skip)
 (.exit 4))
 (.seq (.block 5 (Irg [Lw 60 58,
 Iia 61 .leaf 56 58,
 Ilx 62 61,
 Lw 12 60,
 Lw 13 62] [0,7,12,13,56,57,58]
 (.region [Lw 63 7,
 Lw 64 12,
 Lw 65 13,
 Lw 66 0,
 Ibn 67 .rem 65 66,
 Iia 68 .leaf 63 64,
 Ls (.store false .leaf (.t 68) (.t 67))] [0,7,56,57,58])))
 (.region [Ibc 69 .add 58 1,
 Lw 58 69] [0,7,56,57,58])))
def Z1j_B:Cd:=
 Irg [Ll 6 (.mv (.c (.sl .leaf [])))] [0,1,2]
 (.seq (Irg [Lw 14 1,
 Ien 15 14,
 Ibc 16 .eql 15 0,
 Lw 17 16,
 Lx 18 2 17 false,
 Lg 19 (.len false (.t 18)) 17 false,
 Lg 20 (.bin .eql (.t 19) (Acx 0)) 17 false,
 Ior 21 17 20] [0,1,2,21]
 (Icd 21
 (Irg [Ll 6 (.mv (.c (.sl .leaf [])))] [6]
 (.ret))
 (.skip)))
 (Irg [Lw 22 1,
 Ien 23 22,
 Lw 24 2,
 Ien 25 24,
 Ibn 26 .add 23 25,
 Ibc 27 .sub 26 1,
 Ll 28 (.mkSl 0 .leaf (.int .i64 0) 8 (.t 27) (.t 27)),
 Lw 7 28] [0,1,2,7]
 (.seq (Irg [Lw 29 1,
 Ien 30 29,
 Imc 31 0] [0,2,7,29,30,31]
 (.block 0 (.loop (Z1j_L1))))
 (.seq (Irg [Lw 56 7,
 Ien 57 56,
 Imc 58 0] [0,7,56,57,58]
 (.block 4 (.loop (Z1j_L2))))
 (Irg [Lw 70 7,
 Ll 71 (.call .data [] (.f F1r) [(.t 70)]),
 Lw 6 71] [6]
 (.ret))))))
def Z1j:Fn:=
 { nparams:=3,nblk:=1,results:=[.tmp 6],body:=Z1j_B }
def Z1h_B:Cd:=
 Irg [Ll 6 (.mv (.c (.sl .leaf [])))] [0,1,2]
 (Irg [Lw 7 0,
 Lw 8 1,
 Lw 9 2,
 Ll 10 (Opx F11 [(.t 7),(.c (.sl .leaf [])),(.t 8),(.t 9)]),
 Lw 6 10] [6]
 (.ret))
def Z1h:Fn:=
 { nparams:=3,nblk:=0,results:=[.tmp 6],body:=Z1h_B }
def Z17_L0:Cd:=
 Irg [Ibn 9 .lss 8 7] [0,1,5,7,8,9]
 (.seq (Icd 9
 (.skip)
 (.exit 0))
 (.seq (.block 1 (.region [Lw 10 5,
 Lw 11 1,
 Ibn 12 .mul 10 11,
 Lw 13 0,
 Ibn 14 .rem 12 13,
 Lw 5 14] [0,1,5,7,8]))
 (.region [Ibc 15 .add 8 1,
 Lw 8 15] [0,1,5,7,8])))
def Z17_B:Cd:=
 Irg [Imc 4 0] [0,1]
 (Irg [Imc 5 1] [0,1,5]
 (.seq (Irg [Lw 6 0,
 Ibc 7 .sub 6 2,
 Imc 8 0] [0,1,5,7,8]
 (.block 0 (.loop (Z17_L0))))
 (Irg [Lw 16 5,
 Lw 4 16] [4]
 (.ret))))
def Z17:Fn:=
 { nparams:=2,nblk:=0,results:=[.tmp 4],body:=Z17_B }
def Z13_L0:Cd:=
 Irg [Ibn 60 .lss 59 58] [0,2,8,9,10,11,12,57,58,59,60]
 (.seq (Icd 60
 (.skip)
 (.exit 2))
 (.seq (.block 3 (Irg [Lw 61 59,
 Iia 62 .leaf 57 59,
 Ilx 63 62,
 Lw 13 61,
 Lw 14 63] [0,2,8,9,10,11,12,13,14,57,58,59]
 (.region [Lw 64 8,
 Lw 65 11,
 Lw 66 13,
 Ibn 67 .add 65 66,
 Lw 68 0,
 Lw 69 8,
 Lw 70 11,
 Lw 71 13,
 Ibn 72 .add 70 71,
 Iia 73 .leaf 69 72,
 Ilx 74 73,
 Lw 75 12,
 Lw 76 14,
 Ibn 77 .mul 75 76,
 Ibn 78 .sub 74 77,
 Ll 79 (Ofx F1d [(.t 68),(.t 78)]),
 Iia 80 .leaf 64 67,
 Ls (.store false .leaf (.t 80) (.t 79))] [0,2,8,9,10,11,12,57,58,59])))
 (.region [Ibc 81 .add 59 1,
 Lw 59 81] [0,2,8,9,10,11,12,57,58,59])))
def Z13_L1:Cd:=
 .seq (Irg [Lw 37 11,
 Ibc 38 .geq 37 0] [0,2,8,9,10,11,38]
 (Icd 38
 (.skip)
 (.exit 0)))
 (.seq (.block 1 (Irg [Lw 41 8,
 Lw 42 11,
 Lw 43 2,
 Ien 44 43,
 Ibn 45 .add 42 44,
 Ibc 46 .sub 45 1,
 Iia 47 .leaf 41 46,
 Ilx 48 47,
 Lw 49 10,
 Ibn 50 .mul 48 49,
 Lw 51 0,
 Ibn 52 .rem 50 51,
 Lw 12 52] [0,2,8,9,10,11,12]
 (Irg [Lw 53 9,
 Lw 54 11,
 Lw 55 12,
 Iia 56 .leaf 53 54,
 Ls (.store false .leaf (.t 56) (.t 55))] [0,2,8,9,10,11,12]
 (Irg [Lw 57 2,
 Ien 58 57,
 Imc 59 0] [0,2,8,9,10,11,12,57,58,59]
 (.block 2 (.loop (Z13_L0)))))))
 (.region [Lw 39 11,
 Ibc 40 .sub 39 1,
 Lw 11 40] [0,2,8,9,10,11]))
def Z13_B:Cd:=
 Irg [Ll 6 (.mv (.c (.sl .leaf []))),
 Ll 7 (.mv (.c (.sl .leaf [])))] [0,1,2]
 (Irg [Lw 15 1,
 Ll 16 (.call .heap [0] (.f F2a) [(.t 15)]),
 Lw 8 16] [0,1,2,8]
 (.seq (Irg [Lw 17 1,
 Ien 18 17,
 Lw 19 2,
 Ien 20 19,
 Ibn 21 .lss 18 20] [0,1,2,8,21]
 (Icd 21
 (Irg [Lw 22 8,
 Ll 6 (.mv (.c (.sl .leaf []))),
 Lw 7 22] [6,7]
 (.ret))
 (.skip)))
 (Irg [Lw 23 1,
 Ien 24 23,
 Lw 25 2,
 Ien 26 25,
 Ibn 27 .sub 24 26,
 Ibc 28 .add 27 1,
 Ll 29 (.mkSl 1 .leaf (.int .i64 0) 8 (.t 28) (.t 28)),
 Lw 9 29] [0,2,8,9]
 (Irg [Lw 30 0,
 Lw 31 2,
 Ll 32 (Ofx F1p [(.t 31)]),
 Ll 33 (Ofx F17 [(.t 30),(.t 32)]),
 Lw 10 33] [0,2,8,9,10]
 (.seq (Irg [Lw 34 9,
 Ien 35 34,
 Ibc 36 .sub 35 1,
 Lw 11 36] [0,2,8,9,10,11]
 (.block 0 (.loop (Z13_L1))))
 (Irg [Lw 82 9,
 Ll 83 (.call .data [] (.f F1r) [(.t 82)]),
 Lw 84 8,
 Ll 85 (.call .data [] (.f F1r) [(.t 84)]),
 Lw 6 83,
 Lw 7 85] [6,7]
 (.ret)))))))
def Z13:Fn:=
 { nparams:=3,nblk:=2,results:=[.tmp 6,.tmp 7],body:=Z13_B }
def Z10_L0:Cd:=
 .seq (Irg [Lw 18 2,
 Ien 19 18,
 Ibc 20 .gtr 19 0] [0,1,2,9,10,11,12,20]
 (Icd 20
 (.skip)
 (.exit 0)))
 (.block 1 (Irg [Lw 22 0,
 Lw 23 1,
 Lw 24 2,
 Ll 25 (Opx F13 [(.t 22),(.t 23),(.t 24)]),
 Lw 21 25,
 Iex 26 21 0,
 Iex 27 21 1,
 Lw 13 26,
 Lw 14 27] [0,2,9,10,11,12,13,14]
 (Irg [Lw 28 2,
 Lw 29 14,
 Lw 1 28,
 Lw 2 29] [0,1,2,9,10,11,12,13]
 (Irg [Lw 30 11,
 Lw 31 0,
 Lw 32 9,
 Lw 33 0,
 Lw 34 13,
 Lw 35 11,
 Ll 36 (Opx F1j [(.t 33),(.t 34),(.t 35)]),
 Ll 37 (.call .data [] (.f F11) [(.t 31),(.t 32),(.t 36),(Acx (-1))]),
 Lw 9 30,
 Lw 11 37] [0,1,2,9,10,11,12,13]
 (.region [Lw 38 12,
 Lw 39 0,
 Lw 40 10,
 Lw 41 0,
 Lw 42 13,
 Lw 43 12,
 Ll 44 (.call .data [] (.f F1j) [(.t 41),(.t 42),(.t 43)]),
 Ll 45 (.call .data [] (.f F11) [(.t 39),(.t 40),(.t 44),(Acx (-1))]),
 Lw 10 38,
 Lw 12 45] [0,1,2,9,10,11,12])))))
def Z10_B:Cd:=
 Irg [Ll 6 (.mv (.c (.sl .leaf []))),
 Ll 7 (.mv (.c (.sl .leaf []))),
 Ll 8 (.mv (.c (.sl .leaf [])))] [0,1,2]
 (Irg [Ll 16 (.buildSl false 0 .leaf (.int .i64 0) 1 [(0,(Acx 1))]),
 Lw 9 16,
 Ll 10 (.mv (.c (.sl .leaf [])))] [0,1,2,9,10]
 (Irg [Ll 17 (.buildSl false 1 .leaf (.int .i64 0) 1 [(0,(Acx 1))]),
 Ll 11 (.mv (.c (.sl .leaf []))),
 Lw 12 17] [0,1,2,9,10,11,12]
 (.seq (.block 0 (.loop (Z10_L0)))
 (Irg [Lw 46 0,
 Lw 47 1,
 Ll 48 (Ofx F1p [(.t 47)]),
 Ll 49 (Ofx F17 [(.t 46),(.t 48)]),
 Lw 15 49] [0,1,9,10,15]
 (Irg [Lw 50 0,
 Lw 51 1,
 Lw 52 15,
 Ll 53 (Opx F1h [(.t 50),(.t 51),(.t 52)]),
 Lw 54 0,
 Lw 55 9,
 Lw 56 15,
 Ll 57 (.call .data [] (.f F1h) [(.t 54),(.t 55),(.t 56)]),
 Lw 58 0,
 Lw 59 10,
 Lw 60 15,
 Ll 61 (.call .data [] (.f F1h) [(.t 58),(.t 59),(.t 60)]),
 Lw 6 53,
 Lw 7 57,
 Lw 8 61] [6,7,8]
 (.ret))))))
def Z10:Fn:=
 { nparams:=3,nblk:=2,results:=[.tmp 6,.tmp 7,.tmp 8],body:=Z10_B }
def Z16_B:Cd:=
 Irg [Ll 6 (.mv (.c (.sl .leaf [])))] [0,1,2]
 (Irg [Lw 11 0,
 Lw 12 1,
 Lw 13 2,
 Ll 14 (Opx F10 [(.t 11),(.t 12),(.t 13)]),
 Lw 10 14,
 Iex 15 10 0,
 Iex 16 10 1,
 Iex 17 10 2,
 Lw 7 15,
 Lw 8 16,
 Lw 9 17] [7]
 (Irg [Lw 18 7,
 Lw 6 18] [6]
 (.ret)))
def Z16:Fn:=
 { nparams:=3,nblk:=0,results:=[.tmp 6],body:=Z16_B }
def Z1g_B:Cd:=
 Irg [Ll 6 (.mv (.c (.sl .leaf [])))] [0,1,2]
 (Irg [Lw 10 0,
 Lw 11 1,
 Lw 12 2,
 Ll 13 (Opx F13 [(.t 10),(.t 11),(.t 12)]),
 Lw 9 13,
 Iex 14 9 0,
 Iex 15 9 1,
 Lw 7 14,
 Lw 8 15] [8]
 (Irg [Lw 16 8,
 Lw 6 16] [6]
 (.ret)))
def Z1g:Fn:=
 { nparams:=3,nblk:=0,results:=[.tmp 6],body:=Z1g_B }
def Z1b_L0:Cd:=
 .seq (Irg [Lw 19 2,
 Ibc 20 .gtr 19 0] [0,2,3,9,10,20]
 (Icd 20
 (.skip)
 (.exit 0)))
 (.seq (.block 1 (.seq (Irg [Lw 23 2,
 Ibc 24 .and 23 1,
 Ibc 25 .eql 24 1] [0,2,3,9,10,25]
 (Icd 25
 (.region [Lw 26 0,
 Lw 27 0,
 Lw 28 9,
 Lw 29 10,
 Ll 30 (Opx F1j [(.t 27),(.t 28),(.t 29)]),
 Lw 31 3,
 Ll 32 (Opx F1g [(.t 26),(.t 30),(.t 31)]),
 Lw 9 32] [0,2,3,9,10])
 (.skip)))
 (.region [Lw 33 0,
 Lw 34 0,
 Lw 35 10,
 Lw 36 10,
 Ll 37 (Opx F1j [(.t 34),(.t 35),(.t 36)]),
 Lw 38 3,
 Ll 39 (Opx F1g [(.t 33),(.t 37),(.t 38)]),
 Lw 10 39] [0,2,3,9,10])))
 (.region [Lw 21 2,
 Ll 22 (.bin .shr (.t 21) (.c (.int .u64 1))),
 Lw 2 22] [0,2,3,9,10]))
def Z1b_B:Cd:=
 Irg [Ll 8 (.mv (.c (.sl .leaf [])))] [0,1,2,3]
 (Irg [Lw 11 0,
 Ll 12 (.buildSl false 0 .leaf (.int .i64 0) 1 [(0,(Acx 1))]),
 Lw 13 3,
 Ll 14 (.call .data [] (.f F1g) [(.t 11),(.t 12),(.t 13)]),
 Lw 15 0,
 Lw 16 1,
 Lw 17 3,
 Ll 18 (Opx F1g [(.t 15),(.t 16),(.t 17)]),
 Lw 9 14,
 Lw 10 18] [0,2,3,9,10]
 (.seq (.block 0 (.loop (Z1b_L0)))
 (Irg [Lw 40 9,
 Lw 8 40] [8]
 (.ret))))
def Z1b:Fn:=
 { nparams:=4,nblk:=1,results:=[.tmp 8],body:=Z1b_B }
def Z6_B:Cd:=
 Irg [Ibx 3 0 1,
 Ll 4 (.mv (.c (.bool false)))] [0,3]
 (Irg [Lw 5 0,
 Ll 6 (Ofx Fw [(.t 5)]),
 Lw 7 6,
 Lx 8 0 7 true,
 Lg 9 (.load Sx6 (.t 3)) 7 true,
 Lg 10 (Ofx Fu [(.t 8),(.t 9)]) 7 true,
 Ian 11 7 10,
 Lw 4 11] [4]
 (.ret))
def Z6:Fn:=
 { nparams:=2,nblk:=1,results:=[.tmp 4],body:=Z6_B }
def Z1q_L0:Cd:=
 Irg [Ibn 9 .lss 8 7] [2,3,6,7,8,9]
 (.seq (Icd 9
 (.skip)
 (.exit 0))
 (.seq (.block 1 (Irg [Lw 10 8,
 Iia 11 .leaf 6 8,
 Ilx 12 11,
 Lw 4 10,
 Lw 5 12] [2,3,4,5,6,7,8]
 (.region [Lw 13 4,
 Lw 14 5,
 Icv 15 .u8 14,
 Iis 16 64 .leaf 3 13,
 Ls (.store false .leaf (.t 16) (.t 15))] [2,3,6,7,8])))
 (.region [Ibc 17 .add 8 1,
 Lw 8 17] [2,3,6,7,8])))
def Z1q_B:Cd:=
 Irg [Ibz 2 0] [0,2]
 (Irg [Ibz 3 1] [0,2,3]
 (.seq (Irg [Lw 6 0,
 Ien 7 6,
 Imc 8 0] [2,3,6,7,8]
 (.block 0 (.loop (Z1q_L0))))
 (Irg [Ipx 18 3,
 Ls (.store false Sx6 (.t 2) (.t 18))] [2]
 (.ret))))
def Z1q:Fn:=
 { nparams:=1,nblk:=2,results:=[.cell 2 Sx6],body:=Z1q_B }
def Zz_L0:Cd:=
 Irg [Ibn 9 .lss 8 7] [3,6,7,8,9]
 (.seq (Icd 9
 (.skip)
 (.exit 0))
 (.seq (.block 1 (Irg [Iia 10 .leaf 6 8,
 Ilx 11 10,
 Lw 5 11] [3,5,6,7,8]
 (.region [Lw 12 3,
 Lw 13 5,
 Ll 14 (Ofx F1q [(.t 13)]),
 Ll 15 (.buildSl false 1 Sx6 (.arr 64 .leaf z64) 1 [(0,(.t 14))]),
 Ll 16 (.append Sx6 2 64 (.t 12) (.t 15)),
 Lw 3 16] [3,6,7,8])))
 (.region [Ibc 17 .add 8 1,
 Lw 8 17] [3,6,7,8])))
def Zz_B:Cd:=
 Irg [Ll 2 (.mv (.c (.sl Sx6 [])))] [0]
 (Irg [Ll 3 (.nilOwn 0 Sx6)] [0,3]
 (.seq (Irg [Lw 6 0,
 Ien 7 6,
 Imc 8 0] [3,6,7,8]
 (.block 0 (.loop (Zz_L0))))
 (Irg [Lw 18 3,
 Lw 2 18] [2]
 (.ret))))
def Zz:Fn:=
 { nparams:=1,nblk:=3,results:=[.tmp 2],body:=Zz_B }
end Pe

/-
 Functions of the program in the small form,printed by a program.
-/
namespace Pe
open Go
def Zx_B:Cd:=
 Irg [Ll 0 (.mv (.c (.sl .leaf [])))] []
 (Irg [Ll 1 (.buildSl false 0 .leaf (.int .i64 0) 2 [(0,(Acx 0)),(1,(Acx 1))]),
 Lw 0 1] [0]
 (.ret))
def Zx:Fn:=
 { nparams:=0,nblk:=1,results:=[.tmp 0],body:=Zx_B }
def Z1k_L0:Cd:=
 .seq (Irg [Lw 25 8,
 Lw 26 7,
 Ll 27 (.bin .mul (Acx 2) (.t 26)),
 Ibn 28 .lss 25 27] [0,1,7,8,28]
 (Icd 28
 (.skip)
 (.exit 0)))
 (.seq (.block 1 (Irg [Lw 31 0,
 Lw 32 8,
 Ll 33 (Opx F1a [(.t 31),(.t 32)]),
 Lw 9 33] [0,1,7,8,9]
 (Irg [Lw 34 0,
 Lw 35 1,
 Lw 36 9,
 Ll 37 (Opx F1g [(.t 34),(.t 35),(.t 36)]),
 Ien 38 37,
 Ibc 39 .eql 38 0] [0,1,7,8,9,39]
 (Icd 39
 (Irg [Lw 40 9,
 Lw 6 40] [6]
 (.ret))
 (.skip)))))
 (.region [Lw 29 8,
 Ibc 30 .add 29 1,
 Lw 8 30] [0,1,7,8]))
def Z1k_B:Cd:=
 Irg [Ll 6 (.mv (.c (.sl .leaf [])))] [0,1,2]
 (.seq (Irg [Lw 10 1,
 Ll 11 (Ofx F1o [(.t 10)]),
 Lw 12 2,
 Ibn 13 .eql 11 12] [0,1,2,13]
 (Icd 13
 (Irg [Lw 14 0,
 Lw 15 1,
 Lw 16 0,
 Lw 17 1,
 Ll 18 (Ofx F1p [(.t 17)]),
 Ll 19 (Ofx F17 [(.t 16),(.t 18)]),
 Ll 20 (Opx F1h [(.t 14),(.t 15),(.t 19)]),
 Lw 6 20] [6]
 (.ret))
 (.skip)))
 (Irg [Lw 21 0,
 Lw 22 2,
 Ll 23 (Ofx F19 [(.t 21),(.t 22),(Acx 1099511627776)]),
 Lw 7 23] [0,1,7]
 (.seq (Irg [Lw 24 7,
 Lw 8 24] [0,1,7,8]
 (.block 0 (.loop (Z1k_L0))))
 (Irg [Lw 41 1,
 Lw 6 41] [6]
 (.ret)))))
def Z1k:Fn:=
 { nparams:=3,nblk:=0,results:=[.tmp 6],body:=Z1k_B }
def Z1i_L0:Cd:=
 .block 1 (Irg [Lw 12 0,
 Lw 13 1,
 Lw 14 2,
 Ll 15 (Opx F13 [(.t 12),(.t 13),(.t 14)]),
 Lw 11 15,
 Iex 16 11 0,
 Iex 17 11 1,
 Lw 9 16,
 Lw 10 17] [0,1,2,8,9,10]
 (.seq (Irg [Lw 18 10,
 Ien 19 18,
 Ibc 20 .gtr 19 0] [0,1,2,8,9,20]
 (Icd 20
 (Irg [Lw 21 1,
 Lw 22 8,
 Lw 6 21,
 Lw 7 22] [6,7]
 (.ret))
 (.skip)))
 (Irg [Lw 23 9,
 Lw 1 23] [0,1,2,8]
 (.region [Lw 24 8,
 Ibc 25 .add 24 1,
 Lw 8 25] [0,1,2,8]))))
def Z1i_B:Cd:=
 Irg [Ll 6 (.mv (.c (.sl .leaf []))),
 Imc 7 0] [0,1,2]
 (Irg [Imc 8 0] [0,1,2,8]
 (.block 0 (.loop (Z1i_L0))))
def Z1i:Fn:=
 { nparams:=3,nblk:=0,results:=[.tmp 6,.tmp 7],body:=Z1i_B }
def Zc_L0:Cd:=
 .seq (Irg [Lw 19 6,
 Ibc 20 .geq 19 0] [0,1,6,20]
 (Icd 20
 (.skip)
 (.exit 0)))
 (.seq (.block 1 (Irg [Lw 23 0,
 Lw 24 6,
 Iia 25 .leaf 23 24,
 Ilx 26 25,
 Lw 27 1,
 Lw 28 6,
 Iia 29 .leaf 27 28,
 Ilx 30 29,
 Ll 31 (Ofx F1 [(.t 26),(.t 30)]),
 Lw 7 31] [0,1,6,7]
 (Irg [Lw 32 7,
 Ibc 33 .neq 32 0] [0,1,6,7,33]
 (Icd 33
 (Irg [Lw 34 7,
 Lw 4 34] [4]
 (.ret))
 (.skip)))))
 (.region [Lw 21 6,
 Ibc 22 .sub 21 1,
 Lw 6 22] [0,1,6]))
def Zc_B:Cd:=
 Irg [Imc 4 0] [0,1]
 (.seq (Irg [Lw 8 0,
 Ien 9 8,
 Lw 10 1,
 Ien 11 10,
 Ll 12 (Ofx F0 [(.t 9),(.t 11)]),
 Lw 5 12] [0,1,5]
 (Irg [Lw 13 5,
 Ibc 14 .neq 13 0] [0,1,5,14]
 (Icd 14
 (Irg [Lw 15 5,
 Lw 4 15] [4]
 (.ret))
 (.skip))))
 (.seq (Irg [Lw 16 0,
 Ien 17 16,
 Ibc 18 .sub 17 1,
 Lw 6 18] [0,1,6]
 (.block 0 (.loop (Zc_L0))))
 (Irg [Imc 4 0] [4]
 (.ret))))
def Zc:Fn:=
 { nparams:=2,nblk:=0,results:=[.tmp 4],body:=Zc_B }
def Z15_B:Cd:=
 Irg [Ibx 2 0 0,
 Ibx 3 1 1,
 Imc 4 0] [2,3]
 (Irg [Ll 5 (.fldA [.leaf,.leaf] (.t 2) 0),
 Ilx 6 5,
 Ll 7 (.fldA [.leaf,.leaf] (.t 3) 0),
 Ilx 8 7,
 Ll 9 (Ofx Fc [(.t 6),(.t 8)]),
 Lw 4 9] [4]
 (.ret))
def Z15:Fn:=
 { nparams:=2,nblk:=2,results:=[.tmp 4],body:=Z15_B }
def Z14_L0:Cd:=
 Irg [Ibn 36 .lss 35 34] [0,1,5,6,7,34,35,36]
 (.seq (Icd 36
 (.skip)
 (.exit 2))
 (.seq (.block 3 (.region [Lw 37 0,
 Lw 38 7,
 Lw 39 0,
 Lw 40 1,
 Ll 41 (Opx F1b [(.t 37),(.t 38),(.t 39),(.t 40)]),
 Lw 7 41] [0,1,5,6,7,34,35]))
 (.region [Ibc 42 .add 35 1,
 Lw 35 42] [0,1,5,6,7,34,35])))
def Z14_L1:Cd:=
 .seq (Irg [Lw 50 8,
 Ll 51 (Ofx F1o [(.t 50)]),
 Ibc 52 .gtr 51 0] [0,1,5,6,8,52]
 (Icd 52
 (.skip)
 (.exit 4)))
 (.block 5 (Irg [Lw 53 0,
 Lw 54 8,
 Lw 55 6,
 Ll 56 (Opx F1k [(.t 53),(.t 54),(.t 55)]),
 Lw 9 56] [0,1,5,6,8,9]
 (Irg [Lw 58 0,
 Lw 59 1,
 Lw 60 9,
 Ll 61 (Opx F1i [(.t 58),(.t 59),(.t 60)]),
 Lw 57 61,
 Iex 62 57 0,
 Iex 63 57 1,
 Lw 10 62,
 Lw 11 63] [0,5,6,8,9,10,11]
 (Irg [Lw 64 10,
 Lw 1 64] [0,1,5,6,8,9,11]
 (Irg [Lw 66 0,
 Lw 67 8,
 Lw 68 9,
 Ll 69 (Opx F1i [(.t 66),(.t 67),(.t 68)]),
 Lw 65 69,
 Iex 70 65 0,
 Iex 71 65 1,
 Lw 8 70] [0,1,5,6,8,9,11]
 (.region [Lw 72 5,
 Lw 73 9,
 Lw 74 11,
 Ll 75 (.build false (.st [.leaf,.leaf] [(.sl .leaf []),(.int .i64 0)]) [(0,(.t 73)),(1,(.t 74))]),
 Ll 76 (.buildSl false 3 (.st [.leaf,.leaf]) (.st [.leaf,.leaf] [(.sl .leaf []),(.int .i64 0)]) 1 [(0,(.t 75))]),
 Ll 77 (.append (.st [.leaf,.leaf]) 4 32 (.t 72) (.t 76)),
 Lw 5 77] [0,1,5,6,8]))))))
def Z14_L2:Cd:=
 .seq (Irg [Lw 12 1,
 Ll 13 (Ofx F1o [(.t 12)]),
 Ibc 14 .gtr 13 0] [0,1,5,6,14]
 (Icd 14
 (.skip)
 (.exit 0)))
 (.seq (.block 1 (.seq (Irg [Lw 17 6,
 Ll 18 (.bin .mul (Acx 2) (.t 17)),
 Lw 19 1,
 Ll 20 (Ofx F1o [(.t 19)]),
 Ibn 21 .gtr 18 20] [0,1,5,6,21]
 (Icd 21
 (Irg [Lw 22 5,
 Lw 23 0,
 Lw 24 1,
 Lw 25 0,
 Lw 26 1,
 Ll 27 (Ofx F1p [(.t 26)]),
 Ll 28 (Ofx F17 [(.t 25),(.t 27)]),
 Ll 29 (Opx F1h [(.t 23),(.t 24),(.t 28)]),
 Ll 30 (.build false (.st [.leaf,.leaf] [(.sl .leaf []),(.int .i64 0)]) [(0,(.t 29)),(1,(Acx 1))]),
 Ll 31 (.buildSl false 1 (.st [.leaf,.leaf]) (.st [.leaf,.leaf] [(.sl .leaf []),(.int .i64 0)]) 1 [(0,(.t 30))]),
 Ll 32 (.append (.st [.leaf,.leaf]) 2 32 (.t 22) (.t 31)),
 Lw 5 32] [5]
 (.exit 0))
 (.skip)))
 (Irg [Ll 33 (Opx Fx []),
 Lw 7 33] [0,1,5,6,7]
 (.seq (Irg [Lw 34 6,
 Imc 35 0] [0,1,5,6,7,34,35]
 (.block 2 (.loop (Z14_L0))))
 (Irg [Lw 43 0,
 Lw 44 0,
 Lw 45 7,
 Ll 46 (Opx Fx []),
 Ll 47 (Opx F11 [(.t 44),(.t 45),(.t 46),(Acx (-1))]),
 Lw 48 1,
 Ll 49 (Opx F16 [(.t 43),(.t 47),(.t 48)]),
 Lw 8 49] [0,1,5,6,8]
 (.block 4 (.loop (Z14_L1))))))))
 (.region [Lw 15 6,
 Ibc 16 .add 15 1,
 Lw 6 16] [0,1,5,6]))
def Z14_B:Cd:=
 Irg [Ll 4 (.mv (.c (.sl (.st [.leaf,.leaf]) [])))] [0,1]
 (Irg [Ll 5 (.nilOwn 0 (.st [.leaf,.leaf]))] [0,1,5]
 (.seq (Irg [Imc 6 1] [0,1,5,6]
 (.block 0 (.loop (Z14_L2))))
 (Irg [Lw 78 5,
 Ll 79 (.call .heap [] (.f F2h) [(.t 78),(.f F15)])] [5]
 (Irg [Lw 80 5,
 Lw 4 80] [4]
 (.ret)))))
def Z14:Fn:=
 { nparams:=2,nblk:=5,results:=[.tmp 4],body:=Z14_B }
def Z18_B:Cd:=
 Irg [Ll 4 (.mv (.c (.bool false)))] [0,1]
 (.seq (Irg [Lw 6 1,
 Ll 7 (Ofx F1p [(.t 6)]),
 Ibc 8 .neq 7 1,
 Lw 9 8,
 Lx 10 1 9 false,
 Lg 11 (Ofx F1o [(.t 10)]) 9 false,
 Lg 12 (.bin .lss (.t 11) (Acx 1)) 9 false,
 Ior 13 9 12] [0,1,13]
 (Icd 13
 (Irg [Ll 4 (.mv (.c (.bool false)))] [4]
 (.ret))
 (.skip)))
 (Irg [Lw 14 0,
 Lw 15 1,
 Ll 16 (Opx F14 [(.t 14),(.t 15)]),
 Lw 5 16] [5]
 (Irg [Lw 17 5,
 Ien 18 17,
 Ibc 19 .eql 18 1,
 Lw 20 19,
 Lx 21 5 20 true,
 Lg 22 (.idxA none (.st [.leaf,.leaf]) (.t 21) (Acx 0)) 20 true,
 Lg 23 (.fldA [.leaf,.leaf] (.t 22) 1) 20 true,
 Lg 24 (.load .leaf (.t 23)) 20 true,
 Lg 25 (.bin .eql (.t 24) (Acx 1)) 20 true,
 Ian 26 20 25,
 Lw 4 26] [4]
 (.ret))))
def Z18:Fn:=
 { nparams:=2,nblk:=0,results:=[.tmp 4],body:=Z18_B }
end Pe
namespace Pe
open Go
variable {T:Nat→Option Fn} {A:am}
theorem G4 {n p:Int} (hp:0<p):-p<n.tmod p∧n.tmod p<p:=by
 have hp0:p≠0:=by omega
 have e:=Int.tmod_eq_emod (a:=n) (b:=p);have g1:=eo n hp0;have g2:=du n hp;refine ⟨?_,Int.tmod_lt_of_pos n hp⟩;rw [e]
 split
 ·omega
 ·rename_i hx
  have hx':n%p≠0:=fun h0=>hx (.inr (Int.dvd_of_emod_eq_zero h0))
  omega
theorem Ce {n p:Int} (hp:0<p):(n.tmod p+p).tmod p=n%p:=by
 have e0:=G4 (n:=n) hp;rw [d9 (by omega),Int.add_emod_right,Int.tmod_eq_emod]
 split
 ·simp
 ·rw [show ((p.natAbs:Nat):Int)=p by omega,Int.sub_emod,Int.emod_self,Int.sub_zero,ni _ (Int.dvd_refl p),ni _ (Int.dvd_refl p)]
def wb (O:am):Prop:=∀p n:Int,0<p→p<1000000→-9000000000000000000≤n→n≤9000000000000000000→ask O F1d [(D.int .i64 p),(D.int .i64 n)]=some ((D.int .i64 (n%p)))
theorem a4k (hT:T F1d=some Z1d):wb (den T A):=by
 intro p n hp hp' hn hn';have hp0:p≠0:=by omega
 have e0:=G4 (n:=n) hp;have h1:IntKind.i64.wrap (n.tmod p+p)=n.tmod p+p:=wt;refine c9 hT rfl ?_;simp -implicitDefEqProofs [Z1d,Z1d_B,hp0,h1,Ce hp]
def cf (l:List Int) (i:Nat):Int:=l.getD i 0
theorem ft {l:List Int} {i:Nat} (h:i<l.length):cf l i=l[i]:=by simp [cf,h]
theorem rf {l:List Int} {i:Nat} (h:l.length≤i):cf l i=0:=by simp [cf,h]
def Uy (O:am):Prop:=∀(l:List Int) (i:Nat),i<9000000000000000000→ask O F1n [(D.sl .leaf (aq .i64 l)),(D.int .i64 i)]=some ((D.int .i64 (cf l i)))
theorem am3 (hT:T F1n=some Z1n):Uy (den T A):=by
 intro l i hi;refine c9 hT rfl ?_
 by_cases h:i<l.length
 ·have h1:l[i]? = some l[i]:=ac h
  have h2:(i:Int)<(l.length:Int):=by omega
  simp -implicitDefEqProofs [Z1n,Z1n_B,h1,h2,ap,ft h]
 ·have h2:¬ (i:Int)<(l.length:Int):=by omega
  simp -implicitDefEqProofs [Z1n,Z1n_B,h2,ap,rf (Nat.le_of_not_lt h)]
def sf (l:List Int):Nat→Nat
 | 0=>0
 | n+1=>if cf l n=0 then sf l n else n+1
def trim (l:List Int):List Int:=l.take (sf l l.length)
theorem Im (l:List Int):∀n,sf l n≤n
 | 0=>ba 0
 | n+1=>by
  simp only [sf]
  split
  ·have:=Im l n; omega
  ·exact ba _
theorem Nt {O:am} {l:List Int} (hl:l.length<1000000):∀(n:Nat),n≤l.length →
 dn O 0 (.loop Z1r_L0) ⟨[(0,(.d (.sl .leaf (aq .i64 l)))),(3,(.d (.int .i64 n)))],[]⟩=some (.exit 0,⟨[(0,(.d (.sl .leaf (aq .i64 l)))),(3,(.d (.int .i64 (sf l n)))),(15,(.d (.bool false)))],[]⟩)
 | 0,_=>bu (by simp -implicitDefEqProofs [Z1r_L0,ap,sf])
 | n+1,hn=>by
  have hlt:n<l.length:=by omega
  have h1:l[n]? = some l[n]:=ac hlt;have h2:IntKind.i64.wrap (n:Int)=n:=w64 (by omega)
  have h3:(0:Int)<(n:Int)+1:=by omega
  by_cases h0:l[n]=0
  ·have e:sf l (n+1)=sf l n:=by simp [sf,ft hlt,h0]
   rw [e];exact bn (by simp -implicitDefEqProofs [Z1r_L0,ap,h1,h2,h3,h0]) (Nt hl n (by omega))
  ·have e:sf l (n+1)=n+1:=by simp [sf,ft hlt,h0]
   rw [e];exact bu (by simp -implicitDefEqProofs [Z1r_L0,ap,h1,h2,h3,h0])
def vb (O:am):Prop:=∀l:List Int,l.length<1000000→ask O F1r [(D.sl .leaf (aq .i64 l))]=some ((D.sl .leaf (aq .i64 (trim l))))
theorem a3a (hT:T F1r=some Z1r):vb (den T A):=by
 intro l hl;refine c9 hT rfl ?_;have ht:=Im l l.length;simp -implicitDefEqProofs [Z1r,Z1r_B,Nt hl l.length (ba _),ht,trim]
def upd (f:Nat→Int):Nat→Nat→List Int→List Int
 | 0,_,l=>l
 | m+1,i,l=>upd f m (i+1) (l.set i (f i))
theorem yy (f:Nat→Int):∀(m i:Nat) (l:List Int),(upd f m i l).length=l.length
 | 0,_,_=>rfl
 | m+1,i,l=>by rw [upd,yy f m]; simp
theorem Jc (f:Nat→Int):∀(m i:Nat) (l:List Int) (j:Nat),(upd f m i l)[j]? = if i≤j∧j<i+m∧j<l.length then some (f j) else l[j]?
 | 0,i,l,j=>by rw [upd,if_neg (by omega)]
 | m+1,i,l,j=>by
  rw [upd,Jc f m,bx]
  by_cases h1:i+1≤j∧j<i+1+m∧j<l.length
  ·rw [if_pos h1,if_pos (by omega)]
  ·rw [if_neg h1]
   by_cases h2:j=i
   ·subst h2
    by_cases h3:j<l.length
    ·rw [if_pos (by omega),b4 h3]
    ·rw [if_neg (by omega),bq (by simpa using h3),bq (by omega)]
   ·rw [b7 (f9 h2),if_neg (by omega)]
theorem Jg (f:Nat→Int) (n:Nat) (l:List Int) (hl:l.length=n):upd f n 0 l=(List.range n).map f:=by
 apply ci;intro j;rw [Jc,cb]
 by_cases hj:j<n
 ·rw [if_pos (by omega),db hj]; rfl
 ·rw [if_neg (by omega),bq (by omega),bq (by simpa using hj)]; rfl
def Small (b:Int) (l:List Int):Prop:=∀x∈l,-b≤x∧x≤b
theorem Small.le {b:Int} {l:List Int} (h:Small b l) (hb:0≤b) (i:Nat):-b≤cf l i∧cf l i≤b:=by
 rw [Pe.cf,List.getD_eq_getElem?_getD];cases hq:l[i]? with
 | none=>simp; omega
 | some x=>exact h x (dl hq)
def lin (p:Int) (a b:List Int) (k:Int) (i:Nat):Int:=(cf a i+k*cf b i)%p
def aap (p:Int) (a b:List Int) (k:Int):List Int:=trim ((List.range (max a.length b.length)).map (lin p a b k))
theorem lw {x y b c:Int} (hx:-b≤x∧x≤b) (hy:-c≤y∧y≤c) (_hb:0≤b):-(b*c)≤x*y∧x*y≤b*c:=by
 have hc:0≤c:=by omega
 have h1:0≤(b-x)*(c+y):=gp (by omega) (by omega)
 have h2:0≤(b+x)*(c-y):=gp (by omega) (by omega)
 have h3:0≤(b-x)*(c-y):=gp (by omega) (by omega)
 have h4:0≤(b+x)*(c+y):=gp (by omega) (by omega)
 have e1:(b-x)*(c+y)=b*c+b*y-x*c-x*y:=by simp only [Int.sub_mul,uf]; omega
 have e2:(b+x)*(c-y)=b*c-b*y+x*c-x*y:=by simp only [Int.add_mul,Int.mul_sub]; omega
 have e3:(b-x)*(c-y)=b*c-b*y-x*c+x*y:=by simp only [Int.sub_mul,Int.mul_sub]; omega
 have e4:(b+x)*(c+y)=b*c+b*y+x*c+x*y:=by simp only [Int.add_mul,uf]; omega
 constructor <;> omega
theorem Nr {O:am} (hat:Uy O) (hred:wb O) {p k:Int} {a b:List Int} (hp:0<p∧p<1000000) (ha:Small 1000000 a) (hb:Small 1000000 b) (hk:-1000000≤k∧k≤1000000) {n:Nat} (hn:n<1000000) :
 ∀(m i:Nat) (cur:List Int),i+m=n→cur.length=n →
 dn O 0 (.loop Z11_L0) ⟨[(0,(.d (.int .i64 p))),(1,(.d (.sl .leaf (aq .i64 a)))),(2,(.d (.sl .leaf (aq .i64 b)))),(3,(.d (.int .i64 k))),(9,.sl 0 [] 0 n (some n)),(18,(.d (.int .i64 n))),(19,(.d (.int .i64 i)))],[.sl false .leaf (aq .i64 cur)]⟩ =
  some (.exit 0,⟨[(0,(.d (.int .i64 p))),(1,(.d (.sl .leaf (aq .i64 a)))),(2,(.d (.sl .leaf (aq .i64 b)))),(3,(.d (.int .i64 k))),(9,.sl 0 [] 0 n (some n)),(18,(.d (.int .i64 n))),(19,(.d (.int .i64 n))),(20,(.d (.bool false)))],[.sl false .leaf (aq .i64 (upd (lin p a b k) m i cur))]⟩)
 | 0,i,cur,hi,hc=>by
  have:i=n:=by omega
  subst this;exact bu (by simp -implicitDefEqProofs [Z11_L0,ap,upd])
 | m+1,i,cur,hi,hc=>by
  have h1:(i:Int)<(n:Int):=by omega
  have hin:i<n:=by omega
  have e1:=hat a i (by omega)
  have e2:=hat b i (by omega)
  have ga:=ha.le (by omega) i
  have gb:=hb.le (by omega) i
  have gm:=lw hk gb (by omega)
  have w1:IntKind.i64.wrap (k*cf b i)=k*cf b i:=wt;have w2:IntKind.i64.wrap (cf a i+k*cf b i)=cf a i+k*cf b i:=wt;have e3:=hred p (cf a i+k*cf b i) hp.1 hp.2 (by omega) (by omega)
  have w3:IntKind.i64.wrap ((i:Int)+1)=((i+1:Nat):Int):=by rw [w64 (by omega)]; omega
  have hcur:cur[i]? = some cur[i]:=ac (by omega)
  refine bn ?_ (Nr hat hred hp ha hb hk hn m (i+1) (cur.set i (lin p a b k i)) (by omega) (by simpa using hc))
  simp -implicitDefEqProofs [Z11_L0,ap,h1,hin,e1,e2,w1,w2,e3,w3,hcur,lin]
def Bf (O:am):Prop:=∀(p k:Int) (a b:List Int),0<p→p<1000000→Small 1000000 a→Small 1000000 b→-1000000≤k→k≤1000000→a.length<1000000→b.length<1000000 →
 ask O F11 [(D.int .i64 p),(D.sl .leaf (aq .i64 a)),(D.sl .leaf (aq .i64 b)),(D.int .i64 k)]=some ((D.sl .leaf (aq .i64 (aap p a b k))))
theorem a2n (hT:T F11=some Z11) (hat:Uy (den T A)) (hred:wb (den T A)) (htr:vb (den T A)):Bf (den T A):=by
 intro p k a b hp hp' ha hb hk hk' hla hlb;have hl:=Nr hat hred ⟨hp,hp'⟩ ha hb ⟨hk,hk'⟩ (n:=max a.length b.length) (by omega) (max a.length b.length) 0 (List.replicate (max a.length b.length) 0) (by omega) (by simp)
 rw [Jg _ _ _ (by simp)] at hl
 have e1:=htr ((List.range (max a.length b.length)).map (lin p a b k)) (by simp; omega)
 have emax:(if a.length<b.length then (b.length:Int) else (a.length:Int))=((max a.length b.length:Nat):Int):=by
  split <;> omega
 have h64:max a.length b.length*8≤1099511627776:=by omega
 refine c9 hT rfl ?_;unfold aap;generalize max a.length b.length=n at *;rw [show ((0:Nat):Int)=0 from rfl] at hl;have htk:((List.range n).map (lin p a b k)).take n=(List.range n).map (lin p a b k):=aw (by simp)
 simp -implicitDefEqProofs [Z11,Z11_B,emax,h64,hl,e1,htk]
def vr (x:Int) (b:List Int) (i:Nat):Nat→Nat→List Int→List Int
 | 0,_,cur=>cur
 | m+1,k,cur=>vr x b i m (k+1) (cur.set (i+k) (cf cur (i+k)+x*cf b k))
theorem ul (x:Int) (b:List Int) (i:Nat):∀(m k:Nat) (cur:List Int),(vr x b i m k cur).length=cur.length
 | 0,_,_=>rfl
 | m+1,k,cur=>by rw [vr,ul]; simp
theorem xr (l:List Int) (i:Nat) (x:Int) (j:Nat):cf (l.set i x) j=if j=i∧i<l.length then x else cf l j:=by
 unfold cf;rw [List.getD_eq_getElem?_getD,List.getD_eq_getElem?_getD,List.getElem?_set]
 by_cases h:i=j
 ·subst h
  by_cases h2:i<l.length
  ·simp [h2]
  ·simp [h2]
 ·rw [if_neg h,if_neg (by omega)]
theorem Ld (x:Int) (b:List Int) (i:Nat):∀(m k:Nat) (cur:List Int) (j:Nat),i+k+m≤cur.length→cf (vr x b i m k cur) j=cf cur j+if i+k≤j∧j<i+k+m then x*cf b (j-i) else 0
 | 0,k,cur,j,_=>by rw [vr,if_neg (by omega)]; omega
 | m+1,k,cur,j,h=>by
  rw [vr,Ld x b i m (k+1) _ j (by rw [bx]; omega),xr]
  by_cases hj:j=i+k
  ·subst hj
   rw [if_pos ⟨rfl,by omega⟩,if_neg (by omega),if_pos (by omega),show i+k-i=k by omega]
   omega
  ·rw [if_neg (by omega)]
   by_cases h2:i+k+1≤j∧j<i+k+1+m
   ·rw [if_pos (by omega),if_pos (by omega)]
   ·rw [if_neg (by omega),if_neg (by omega)]
theorem Small.of_cf {B:Int} (_hB:0≤B) {l:List Int} (h:∀j,-B≤cf l j∧cf l j≤B):Small B l:=by
 intro x hx;obtain ⟨j,hj,rfl⟩:=je hx;have:=h j
 rwa [ft hj] at this
theorem Uj {O:am} {p x:Int} {b:List Int} {i la nb:Nat} {a:List Int} (hx:-1000≤x∧x≤1000) (hb:Small 1000 b) (hi:i<10000) (hbl:b.length<10000) {n:Nat} (hn:i+b.length≤n) (hn':n<1000000) :
 ∀(m k:Nat) (cur:List Int),k+m=b.length→cur.length=n→(∀j,i+k≤j→-9000000000000≤cf cur j∧cf cur j≤9000000000000) →
 dn O 0 (.loop Z1j_L0) ⟨[(0,(.d (.int .i64 p))),(2,(.d (.sl .leaf (aq .i64 b)))),(7,.sl 0 [] 0 n (some n)),(8,(.d (.int .i64 i))),(9,(.d (.int .i64 x))),(29,(.d (.sl .leaf (aq .i64 a)))),(30,(.d (.int .i64 la))),(31,(.d (.int .i64 nb))),(36,(.d (.sl .leaf (aq .i64 b)))),(37,(.d (.int .i64 b.length))),(38,(.d (.int .i64 k)))],[.sl false .leaf (aq .i64 cur)]⟩ =
  some (.exit 2,⟨[(0,(.d (.int .i64 p))),(2,(.d (.sl .leaf (aq .i64 b)))),(7,.sl 0 [] 0 n (some n)),(8,(.d (.int .i64 i))),(9,(.d (.int .i64 x))),(29,(.d (.sl .leaf (aq .i64 a)))),(30,(.d (.int .i64 la))),(31,(.d (.int .i64 nb))),(36,(.d (.sl .leaf (aq .i64 b)))),(37,(.d (.int .i64 b.length))),(38,(.d (.int .i64 b.length))),(39,(.d (.bool false)))],[.sl false .leaf (aq .i64 (vr x b i m k cur))]⟩)
 | 0,k,cur,hk,hc,hs=>by
  have:k=b.length:=by omega
  subst this;exact bu (by simp -implicitDefEqProofs [Z1j_L0,ap,vr])
 | m+1,k,cur,hk,hc,hs=>by
  have h1:(k:Int)<(b.length:Int):=by omega
  have hkl:k<b.length:=by omega
  have hbk:b[k]=cf b k:=(ft hkl).symm;have w1:IntKind.i64.wrap ((i:Int)+(k:Int))=((i+k:Nat):Int):=by rw [w64 (by omega)]; omega
  have hik:i+k<n:=by omega
  have t1:(0:Int)≤(i:Int)+(k:Int):=by omega
  have t2:((i:Int)+(k:Int)).toNat=i+k:=by omega
  have hikc:i+k<cur.length:=by omega
  have hck:cur[i+k]=cf cur (i+k):=(ft hikc).symm;have gb:=hb.le (by omega) k
  have gc:=hs (i+k) (by omega)
  have gm:=lw hx gb (by omega)
  have w2:IntKind.i64.wrap (x*cf b k)=x*cf b k:=wt;have w3:IntKind.i64.wrap (cf cur (i+k)+x*cf b k)=cf cur (i+k)+x*cf b k:=wt;have w4:IntKind.i64.wrap ((k:Int)+1)=((k+1:Nat):Int):=by rw [w64 (by omega)]; omega
  refine bn ?_ (Uj hx hb hi hbl hn hn' m (k+1) (cur.set (i+k) (cf cur (i+k)+x*cf b k)) (by omega) (by simpa using hc) (fun j hj=>by rw [xr,if_neg (by omega)]; exact hs j (by omega)))
  simp -implicitDefEqProofs [Z1j_L0,ap,hkl,hbk,w1,t1,t2,hik,hikc,hck,w2,w3,w4]
def A0 (a b:List Int):Nat→Nat→List Int→List Int
 | 0,_,cur=>cur
 | m+1,i,cur=>A0 a b m (i+1) (vr (cf a i) b i b.length 0 cur)
theorem Eo (a b:List Int):∀(m i:Nat) (cur:List Int),(A0 a b m i cur).length=cur.length
 | 0,_,_=>rfl
 | m+1,i,cur=>by rw [A0,Eo,ul]
theorem Te {x:Int} {b:List Int} {i:Nat} {cur:List Int} {M:Int} (hx:-1000≤x∧x≤1000) (hb:Small 1000 b) (hl:i+b.length≤cur.length) (h:∀j,-M≤cf cur j∧cf cur j≤M) (j:Nat) :
 -(M+1000000)≤cf (vr x b i b.length 0 cur) j∧cf (vr x b i b.length 0 cur) j≤M+1000000:=by
 rw [Ld _ _ _ _ _ _ _ (by omega)]
 have h1:=h j;have h2:=lw hx (hb.le (by omega) (j-i)) (by omega)
 split <;> omega
theorem a9g {O:am} {p:Int} {a b:List Int} (ha:Small 1000 a) (hb:Small 1000 b) (hal:a.length<10000) (hbl:b.length<10000) (hb0:0<b.length) {n:Nat} (hn:n=a.length+b.length-1) :
 ∀(m i:Nat) (cur:List Int),i+m=a.length→cur.length=n→(∀j,-((i:Int)*1000000)≤cf cur j∧cf cur j≤(i:Int)*1000000) →
 dn O 0 (.loop Z1j_L1) ⟨[(0,(.d (.int .i64 p))),(2,(.d (.sl .leaf (aq .i64 b)))),(7,.sl 0 [] 0 n (some n)),(29,(.d (.sl .leaf (aq .i64 a)))),(30,(.d (.int .i64 a.length))),(31,(.d (.int .i64 i)))],[.sl false .leaf (aq .i64 cur)]⟩ =
  some (.exit 0,⟨[(0,(.d (.int .i64 p))),(2,(.d (.sl .leaf (aq .i64 b)))),(7,.sl 0 [] 0 n (some n)),(29,(.d (.sl .leaf (aq .i64 a)))),(30,(.d (.int .i64 a.length))),(31,(.d (.int .i64 a.length))),(32,(.d (.bool false)))],[.sl false .leaf (aq .i64 (A0 a b m i cur))]⟩):=by
 intro m
 induction m with
 | zero=>
  intro i cur hi hc hs;have:i=a.length:=by omega
  subst this;exact bu (by simp -implicitDefEqProofs [Z1j_L1,ap,A0])
 | succ m ih=>
  intro i cur hi hc hs;have hil:i<a.length:=by omega
  have hai:a[i]=cf a i:=(ft hil).symm;have gx:=ha.le (by omega) i
  have q1:i<10000:=by omega
  have q2:i+b.length≤n:=by omega
  have q3:n<1000000:=by omega
  have q4:∀j,i+0≤j→-9000000000000≤cf cur j∧cf cur j≤9000000000000:=fun j _=>by
   have h9:=hs j;omega
  have h0:=Uj (O:=O) (p:=p) (a:=a) (la:=a.length) (nb:=i) gx hb q1 hbl q2 q3 b.length 0 cur (b9 _) hc q4;have e0:((0:Nat):Int)=0:=rfl;rw [e0] at h0;have w4:=wi i
  have hnew:∀j,-(((i+1:Nat):Int)*1000000)≤cf (vr (cf a i) b i b.length 0 cur) j∧cf (vr (cf a i) b i b.length 0 cur) j≤((i+1:Nat):Int)*1000000:=by
   intro j;have:=Te (x:=cf a i) (b:=b) (i:=i) (cur:=cur) gx hb (by omega) hs j
   omega
  refine bn ?_ (ih (i+1) (vr (cf a i) b i b.length 0 cur) (by omega) (by rw [ul]; exact hc) hnew)
  simp -implicitDefEqProofs [Z1j_L1,ap,hil,hai,h0,w4]
theorem V6 {O:am} {p:Int} {out:List Int} (hp:0<p) {n:Nat} (hn:n<1000000) (hout:out.length=n) (hpos:∀j,-9000000000000000≤cf out j∧cf out j≤9000000000000000) :
 ∀(m i:Nat) (cur:List Int),i+m=n→cur.length=n→(∀j,i≤j→cf cur j=cf out j) →
 dn O 0 (.loop Z1j_L2) ⟨[(0,(.d (.int .i64 p))),(7,.sl 0 [] 0 n (some n)),(56,.sl 0 [] 0 n (some n)),(57,(.d (.int .i64 n))),(58,(.d (.int .i64 i)))],[.sl false .leaf (aq .i64 cur)]⟩ =
  some (.exit 4,⟨[(0,(.d (.int .i64 p))),(7,.sl 0 [] 0 n (some n)),(56,.sl 0 [] 0 n (some n)),(57,(.d (.int .i64 n))),(58,(.d (.int .i64 n))),(59,(.d (.bool false)))],[.sl false .leaf (aq .i64 (upd (fun j=>(cf out j).tmod p) m i cur))]⟩)
 | 0,i,cur,hi,hc,hs=>by
  have:i=n:=by omega
  subst this;exact bu (by simp -implicitDefEqProofs [Z1j_L2,ap,upd])
 | m+1,i,cur,hi,hc,hs=>by
  have hp0:p≠0:=by omega
  have hin:i<n:=by omega
  have hic:i<cur.length:=by omega
  have hci:cur[i]=cf out i:=by rw [←ft hic]; exact hs i (by omega)
  have w4:IntKind.i64.wrap ((i:Int)+1)=((i+1:Nat):Int):=by rw [w64 (by omega)]; omega
  refine bn ?_ (V6 hp hn hout hpos m (i+1) (cur.set i ((cf out i).tmod p)) (by omega) (by simpa using hc) (fun j hj=>by rw [xr,if_neg (by omega)]; exact hs j (by omega)))
  simp -implicitDefEqProofs [Z1j_L2,ap,hin,hic,hci,hp0,w4]
def conv (a b:List Int):Nat→Nat→Int
 | 0,_=>0
 | m+1,j=>conv a b m j+if m≤j then cf a m*cf b (j-m) else 0
theorem L8 (a b:List Int):∀(m i:Nat) (cur:List Int) (j:Nat),i+m=a.length→a.length+b.length≤cur.length+1→0<b.length→(cf cur j=conv a b i j)→(∀j',cf cur j'=conv a b i j')→cf (A0 a b m i cur) j=conv a b (i+m) j
 | 0,i,cur,j,_,_,_,h,_=>h
 | m+1,i,cur,j,hi,hl,hb,h,hall=>by
  have step:∀j',cf (vr (cf a i) b i b.length 0 cur) j'=conv a b (i+1) j':=by
   intro j';rw [Ld _ _ _ _ _ _ _ (by omega),hall j',conv]
   by_cases h1:i+0≤j'∧j'<i+0+b.length
   ·rw [if_pos h1,if_pos (by omega)]
   ·rw [if_neg h1]
    by_cases h2:i≤j'
    ·rw [if_pos h2,rf (l:=b) (by omega),Int.mul_zero]
    ·rw [if_neg h2]
  rw [A0,show i+(m+1)=(i+1)+m by omega]
  exact L8 a b m (i+1) _ j (by omega) (by rw [ul]; exact hl) hb (step j) step
def Can (p:Int) (l:List Int):Prop:=∀x∈l,0≤x∧x<p
theorem Can.small {p:Int} {l:List Int} (h:Can p l) {b:Int} (hp:p≤b):Small b l:=fun x hx=>by have:=h x hx; omega
theorem Can.le {p:Int} {l:List Int} (h:Can p l) (hp:0<p) (i:Nat):0≤cf l i∧cf l i<p:=by
 by_cases hi:i<l.length
 ·rw [ft hi]; exact h _ (az hi)
 ·rw [rf (by omega)]; omega
theorem Ay {p:Int} {a b:List Int} (hp:0<p) (ha:Can p a) (hb:Can p b):∀m j,0≤conv a b m j
 | 0,j=>by simp [conv]
 | m+1,j=>by
  have:=Ay hp ha hb m j;rw [conv]
  split
  ·have:=gp (ha.le hp m).1 (hb.le hp (j-m)).1
   omega
  ·omega
def mul (p:Int) (a b:List Int):List Int:=trim ((List.range (a.length+b.length-1)).map fun j=>conv a b a.length j%p)
theorem Gf {l:List Int}:∀n,(∀j,j<n→cf l j=0)→sf l n=0
 | 0,_=>rfl
 | n+1,h=>by
  rw [sf,if_pos (h n (by omega))]
  exact Gf n fun j hj=>h j (by omega)
theorem Up (a:List Int):∀m j,conv a [] m j=0
 | 0,_=>rfl
 | m+1,j=>by rw [conv,Up a m j,rf (l:=[]) (by simp)]; simp
theorem qa (f:Nat→Int) (n j:Nat) (hj:j<n):cf ((List.range n).map f) j=f j:=by
 rw [ft (by simpa using hj)]; simp
theorem Rz (p:Int) (b:List Int):mul p [] b=[]:=by
 unfold mul trim;rw [Gf,cx];intro j hj;rw [qa _ _ _ (by simpa using hj)]
 simp [conv]
theorem N7 (p:Int) (a:List Int):mul p a []=[]:=by
 unfold mul trim;rw [Gf,cx];intro j hj;rw [qa _ _ _ (by simpa using hj),Up]
 simp
def S6 (O:am):Prop:=∀(p:Int) (a b:List Int),0<p→p<1000→Can p a→Can p b→a.length<10000→b.length<10000 →
 ask O F1j [(D.int .i64 p),(D.sl .leaf (aq .i64 a)),(D.sl .leaf (aq .i64 b))]=some ((D.sl .leaf (aq .i64 (mul p a b))))
theorem ab5 (hT:T F1j=some Z1j) (htr:vb (den T A)):S6 (den T A):=by
 intro p a b hp hp' ha hb hal hbl;refine c9 hT rfl ?_
 by_cases h1:a=[]
 ·subst h1
  rw [Rz];simp -implicitDefEqProofs [Z1j,Z1j_B,ap,i6]
 ·by_cases h2:b=[]
  ·subst h2
   have hal0:a.length≠0:=by simpa using h1
   rw [N7];simp -implicitDefEqProofs [Z1j,Z1j_B,ap,i6,h1]
  ·have g1:0<a.length:=kv.2 h1
   have g2:0<b.length:=kv.2 h2
   have l1:=a9g (O:=den T A) (p:=p) (ha.small (b:=1000) (by omega)) (hb.small (b:=1000) (by omega)) hal hbl g2 rfl a.length 0 (List.replicate (a.length+b.length-1) 0) (b9 _) (by simp) (fun j=>by
    have:cf (List.replicate (a.length+b.length-1) 0) j=0:=by
     by_cases hj:j<a.length+b.length-1
     ·rw [ft (by simpa using hj)]; simp
     ·exact rf (by simp; omega)
    rw [this]; simp)
   have hz:∀j,cf (List.replicate (a.length+b.length-1) (0:Int)) j=0:=fun j=>by
    by_cases hj:j<a.length+b.length-1
    ·rw [ft (by simpa using hj)]; simp
    ·exact rf (by simp; omega)
   have hrl:(A0 a b a.length 0 (List.replicate (a.length+b.length-1) 0)).length=a.length+b.length-1:=by rw [Eo]; simp
   have hrc:∀j,cf (A0 a b a.length 0 (List.replicate (a.length+b.length-1) 0)) j=conv a b a.length j:=fun j=>by
    have:=L8 a b a.length 0 (List.replicate (a.length+b.length-1) 0) j (b9 _) (by simp; omega) g2 (by rw [hz]; rfl) (fun j'=>by rw [hz]; rfl)
    rwa [b9] at this
   have hcb:∀m j,conv a b m j≤(m:Int)*1000000:=by
    intro m
    induction m with
    | zero=>intro j; simp [conv]
    | succ m ih=>
     intro j;have h3:=ih j;have h4:=lw ((ha.small (b:=1000) (by omega)).le (by omega) m) ((hb.small (b:=1000) (by omega)).le (by omega) (j-m)) (by omega)
     rw [conv]
     split <;> omega
   have l2:=V6 (O:=den T A) (p:=p) (out:=A0 a b a.length 0 (List.replicate (a.length+b.length-1) 0)) hp (n:=a.length+b.length-1) (by omega) hrl (fun j=>by
    rw [hrc];have h3:=Ay hp ha hb a.length j;have h4:=hcb a.length j;omega) (a.length+b.length-1) 0 (A0 a b a.length 0 (List.replicate (a.length+b.length-1) 0)) (b9 _) hrl (fun _ _=>rfl)
   rw [Jg _ _ _ hrl] at l2
   have hfun:(fun j=>(cf (A0 a b a.length 0 (List.replicate (a.length+b.length-1) 0)) j).tmod p)=fun j=>conv a b a.length j%p:=by
    funext j
    rw [hrc,d9 (Ay hp ha hb a.length j)]
   rw [hfun] at l2;have e0:((0:Nat):Int)=0:=rfl;rw [e0] at l1 l2;have e1:=htr ((List.range (a.length+b.length-1)).map fun j=>conv a b a.length j%p) (by simp; omega)
   have n1:a.length≠0:=by omega
   have n2:b.length≠0:=by omega
   have w1:IntKind.i64.wrap ((a.length:Int)+(b.length:Int))=(a.length:Int)+(b.length:Int):=wt;have w2:IntKind.i64.wrap ((a.length:Int)+(b.length:Int)-1)=((a.length+b.length-1:Nat):Int):=wt;have h8:(a.length+b.length-1)*8≤1099511627776:=by omega
   unfold mul;generalize a.length+b.length-1=n at *;have htk:((List.range n).map fun j=>conv a b a.length j%p).take n=(List.range n).map fun j=>conv a b a.length j%p:=aw (by simp)
   simp -implicitDefEqProofs [Z1j,Z1j_B,ap,h1,h2,w1,w2,h8,l1,l2,e1,htk]
def Ha (p n:Int):Nat→Int
 | 0=>1
 | m+1=>Ha p n m*n%p
def inv (p n:Int):Int:=Ha p n (p-2).toNat
theorem Yy {p n:Int} (hp:1<p):∀m,0≤Ha p n m∧Ha p n m<p
 | 0=>by simp [Ha]; omega
 | m+1=>⟨eo _ (by omega),du _ (by omega)⟩
theorem O8 {O:am} {p n:Int} (hp:1<p) (hp':p<1000) (hn:0≤n∧n<p) {k:Nat} (hk:(k:Int)=p-2):∀(m i:Nat),i+m=k →
 dn O 0 (.loop Z17_L0) ⟨[(0,(.d (.int .i64 p))),(1,(.d (.int .i64 n))),(5,(.d (.int .i64 (Ha p n i)))),(7,(.d (.int .i64 k))),(8,(.d (.int .i64 i)))],[]⟩=some (.exit 0,⟨[(0,(.d (.int .i64 p))),(1,(.d (.int .i64 n))),(5,(.d (.int .i64 (Ha p n k)))),(7,(.d (.int .i64 k))),(8,(.d (.int .i64 k))),(9,(.d (.bool false)))],[]⟩)
 | 0,i,hi=>by
  have:i=k:=by omega
  subst this;exact bu (by simp -implicitDefEqProofs [Z17_L0,ap])
 | m+1,i,hi=>by
  have hik:i<k:=by omega
  have g:=Yy (n:=n) hp i;have hp0:p≠0:=by omega
  have gm:=lw (x:=Ha p n i) (y:=n) (b:=1000) (c:=1000) (by omega) (by omega) (by omega)
  have w1:IntKind.i64.wrap (Ha p n i*n)=Ha p n i*n:=wt;have w2:(Ha p n i*n).tmod p=Ha p n (i+1):=d9 (gp g.1 hn.1);have w4:=wi i;refine bn ?_ (O8 hp hp' hn hk m (i+1) (by omega))
  simp -implicitDefEqProofs [Z17_L0,ap,hik,hp0,w1,w2,w4]
def qb (O:am):Prop:=∀p n:Int,1<p→p<1000→0≤n→n<p→ask O F17 [(D.int .i64 p),(D.int .i64 n)]=some ((D.int .i64 (inv p n)))
theorem a3v (hT:T F17=some Z17):qb (den T A):=by
 intro p n hp hp' hn hn';have hk:(((p-2).toNat:Nat):Int)=p-2:=by omega
 have hl:=O8 (O:=den T A) hp hp' ⟨hn,hn'⟩ hk (p-2).toNat 0 (by omega)
 have w1:IntKind.i64.wrap (p-2)=(((p-2).toNat:Nat):Int):=wt;have e0:((0:Nat):Int)=0:=rfl;rw [e0] at hl;have e1:Ha p n 0=1:=rfl;rw [e1] at hl;refine c9 hT rfl ?_;unfold inv;generalize (p-2).toNat=k at *;simp -implicitDefEqProofs [Z17,Z17_B,w1,hl]
def po (O:am):Prop:=∀l:List Int,l.length<1000000→ask O F1o [(D.sl .leaf (aq .i64 l))]=some ((D.int .i64 ((l.length:Int)-1)))
theorem a9m (hT:T F1o=some Z1o):po (den T A):=by
 intro l hl;have w1:IntKind.i64.wrap ((l.length:Int)-1)=(l.length:Int)-1:=wt;refine c9 hT rfl ?_;simp -implicitDefEqProofs [Z1o,Z1o_B,w1]
def D5 (l:List Int):Int:=cf l (l.length-1)
def xq (O:am):Prop:=∀l:List Int,l.length<1000000→ask O F1p [(D.sl .leaf (aq .i64 l))]=some ((D.int .i64 (D5 l)))
theorem aev (hT:T F1p=some Z1p):xq (den T A):=by
 intro l hl;refine c9 hT rfl ?_
 by_cases h:l=[]
 ·subst h
  simp -implicitDefEqProofs [Z1p,Z1p_B,ap,i6,D5,cf]
 ·have h1:0<l.length:=kv.2 h
  have w1:IntKind.i64.wrap ((l.length:Int)-1)=((l.length-1:Nat):Int):=wt;have h2:l.length-1<l.length:=by omega
  have h3:l[l.length-1]? = some (D5 l):=by
   rw [ac h2]; exact congrArg some (ft h2).symm
  have h4:(l.length:Int)≠0:=by omega
  simp -implicitDefEqProofs [Z1p,Z1p_B,ap,h,w1,h3]
def E4 (O:am):Prop:=∀n a b:Int,ask O F1x [(D.int .i64 n),(D.int .i64 a),(D.int .i64 b)]=some ((D.bool (decide (a≤n∧n≤b))))
theorem a56 (hT:T F1x=some Z1x):E4 (den T A):=by
 intro n a b;refine c9 hT rfl ?_
 by_cases h:a≤n <;> simp -implicitDefEqProofs [Z1x,Z1x_B,h]
def isP (p:Int):Bool:=decide (p=2∨p=3∨p=5∨p=7)
def Gh (O:am):Prop:=∀p:Int,ask O Fw [(D.int .i64 p)]=some ((D.bool (isP p)))
theorem a3y (hT:T Fw=some Zw):Gh (den T A):=by
 intro p;refine c9 hT rfl ?_
 by_cases h2:p=2
 ·simp -implicitDefEqProofs [Zw,Zw_B,h2,isP]
 ·by_cases h3:p=3
  ·simp -implicitDefEqProofs [Zw,Zw_B,h3,isP]
  ·by_cases h5:p=5
   ·simp -implicitDefEqProofs [Zw,Zw_B,h5,isP]
   ·simp -implicitDefEqProofs [Zw,Zw_B,h2,h3,h5,isP]
def Ps (O:am):Prop:=∀(p k:Int) (a:List Int),0<p→p<1000000→Small 1000000 a→-1000000≤k→k≤1000000→a.length<1000000 →
 ask O F1h [(D.int .i64 p),(D.sl .leaf (aq .i64 a)),(D.int .i64 k)]=some ((D.sl .leaf (aq .i64 (aap p [] a k))))
theorem aad (hT:T F1h=some Z1h) (hc:Bf (den T A)):Ps (den T A):=by
 intro p k a hp hp' ha hk hk' hl;have e1:=hc p k [] a hp hp' (by intro x hx; simp at hx) ha hk hk' (by simp) hl
 rw [i6] at e1;refine c9 hT rfl ?_;simp -implicitDefEqProofs [Z1h,Z1h_B,e1]
def G6 (O:am):Prop:=ask O Fx []=some ((D.sl .leaf (aq .i64 ([0,1]))))
theorem a51 (hT:T Fx=some Zx):G6 (den T A):=by
 refine c9 hT rfl ?_;simp -implicitDefEqProofs [Zx,Zx_B,aq,List.replicate]
def ou (p q:Int) (b:List Int) (i:Nat):Nat→Nat→List Int→List Int
 | 0,_,cur=>cur
 | m+1,k,cur=>ou p q b i m (k+1) (cur.set (i+k) ((cf cur (i+k)-q*cf b k)%p))
theorem ol (p q:Int) (b:List Int) (i:Nat):∀(m k:Nat) (cur:List Int),(ou p q b i m k cur).length=cur.length
 | 0,_,_=>rfl
 | m+1,k,cur=>by rw [ou,ol]; simp
theorem Ar (p q:Int) (b:List Int) (i:Nat):∀(m k:Nat) (cur:List Int) (j:Nat),i+k+m≤cur.length→cf (ou p q b i m k cur) j=if i+k≤j∧j<i+k+m then (cf cur j-q*cf b (j-i))%p else cf cur j
 | 0,k,cur,j,_=>by rw [ou,if_neg (by omega)]
 | m+1,k,cur,j,h=>by
  rw [ou,Ar p q b i m (k+1) _ j (by rw [bx]; omega),xr]
  by_cases hj:j=i+k
  ·subst hj
   rw [if_neg (by omega),if_pos ⟨rfl,by omega⟩,if_pos (by omega),show i+k-i=k by omega]
  ·have e:(if j=i+k∧i+k<cur.length then (cf cur (i+k)-q*cf b k)%p else cf cur j)=cf cur j:=if_neg fun h=>hj h.1
   rw [e]
   by_cases h2:i+k+1≤j∧j<i+k+1+m
   ·rw [if_pos (by omega),if_pos (by omega)]
   ·rw [if_neg (by omega),if_neg (by omega)]
theorem Can.of_cf {p:Int} {l:List Int} (h:∀j,j<l.length→0≤cf l j∧cf l j<p):Can p l:=by
 intro x hx;obtain ⟨j,hj,rfl⟩:=je hx;have:=h j hj
 rwa [ft hj] at this
theorem Gx {p q:Int} {b:List Int} {i:Nat} (hp:0<p) {m k:Nat} {cur:List Int} (hl:i+k+m≤cur.length) (hc:Can p cur):Can p (ou p q b i m k cur):=by
 apply Can.of_cf;intro j hj;rw [Ar _ _ _ _ _ _ _ _ hl]
 split
 ·exact ⟨eo _ (by omega),du _ hp⟩
 ·exact hc.le hp j
theorem a27 {O:am} (hred:wb O) {p q by_:Int} {b quo:List Int} {i la nq:Nat} {cp:Option Nat} (hp:0<p) (hp':p<1000) (hq:0≤q∧q<p) (hb:Can p b) (hi:i<10000) (hbl:b.length<10000) (hn:i+b.length≤la) (hn':la<1000000) :
 ∀(m k:Nat) (cur:List Int),k+m=b.length→cur.length=la→Can p cur →
 dn O 0 (.loop Z13_L0) ⟨[(0,(.d (.int .i64 p))),(2,(.d (.sl .leaf (aq .i64 b)))),(8,.sl 0 [] 0 la cp),(9,.sl 1 [] 0 nq (some nq)),(10,(.d (.int .i64 by_))),(11,(.d (.int .i64 i))),(12,(.d (.int .i64 q))),(57,(.d (.sl .leaf (aq .i64 b)))),(58,(.d (.int .i64 b.length))),(59,(.d (.int .i64 k)))],[.sl false .leaf (aq .i64 cur),.sl false .leaf (aq .i64 quo)]⟩ =
  some (.exit 2,⟨[(0,(.d (.int .i64 p))),(2,(.d (.sl .leaf (aq .i64 b)))),(8,.sl 0 [] 0 la cp),(9,.sl 1 [] 0 nq (some nq)),(10,(.d (.int .i64 by_))),(11,(.d (.int .i64 i))),(12,(.d (.int .i64 q))),(57,(.d (.sl .leaf (aq .i64 b)))),(58,(.d (.int .i64 b.length))),(59,(.d (.int .i64 b.length))),(60,(.d (.bool false)))],[.sl false .leaf (aq .i64 (ou p q b i m k cur)),.sl false .leaf (aq .i64 quo)]⟩):=by
 intro m
 induction m with
 | zero=>
  intro k cur hk hc hcan;have:k=b.length:=by omega
  subst this;exact bu (by simp -implicitDefEqProofs [Z13_L0,ap,ou])
 | succ m ih=>
  intro k cur hk hc hcan;have hkl:k<b.length:=by omega
  have hbk:b[k]=cf b k:=(ft hkl).symm;have hik:i+k<la:=by omega
  have hikc:i+k<cur.length:=by omega
  have hck:cur[i+k]=cf cur (i+k):=(ft hikc).symm;have t1:(0:Int)≤(i:Int)+(k:Int):=by omega
  have t2:((i:Int)+(k:Int)).toNat=i+k:=by omega
  have w1:IntKind.i64.wrap ((i:Int)+(k:Int))=((i+k:Nat):Int):=wt;have gb:=hb.le hp k;have gc:=hcan.le hp (i+k);have gm:=lw (x:=q) (y:=cf b k) (b:=1000) (c:=1000) (by omega) (by omega) (by omega)
  have w2:IntKind.i64.wrap (q*cf b k)=q*cf b k:=wt;have w3:IntKind.i64.wrap (cf cur (i+k)-q*cf b k)=cf cur (i+k)-q*cf b k:=wt;have w4:=wi k;have e3:=hred p (cf cur (i+k)-q*cf b k) hp (by omega) (by omega) (by omega)
  have hcan':Can p (cur.set (i+k) ((cf cur (i+k)-q*cf b k)%p)):=by
   intro x hx;rcases ce hx with h | h
   ·exact hcan x h
   ·subst h; exact ⟨eo _ (by omega),du _ hp⟩
  refine bn ?_ (ih (k+1) (cur.set (i+k) ((cf cur (i+k)-q*cf b k)%p)) (by omega) (by simpa using hc) hcan')
  simp -implicitDefEqProofs [Z13_L0,ap,hkl,hbk,w1,t1,t2,hik,hikc,hck,w2,w3,w4,e3]
def dv (p by_:Int) (b:List Int):Nat→List Int×List Int→List Int×List Int
 | 0,r=>r
 | c+1,(cur,quo)=>
  let q:=cf cur (c+b.length-1)*by_%p
  dv p by_ b c (ou p q b c b.length 0 cur,quo.set c q)
theorem a42 {O:am} (hred:wb O) {p by_:Int} {b:List Int} {la nq:Nat} {cp:Option Nat} (hp:0<p) (hp':p<1000) (hby:0≤by_∧by_<p) (hb:Can p b) (hb0:0<b.length) (hn:nq+b.length=la+1) (hn':la<10000) :
 ∀(c:Nat) (cur quo:List Int),c≤nq→cur.length=la→quo.length=nq→Can p cur →
 dn O 0 (.loop Z13_L1) ⟨[(0,(.d (.int .i64 p))),(2,(.d (.sl .leaf (aq .i64 b)))),(8,.sl 0 [] 0 la cp),(9,.sl 1 [] 0 nq (some nq)),(10,(.d (.int .i64 by_))),(11,(.d (.int .i64 ((c:Int)-1))))],[.sl false .leaf (aq .i64 cur),.sl false .leaf (aq .i64 quo)]⟩ =
  some (.exit 0,⟨[(0,(.d (.int .i64 p))),(2,(.d (.sl .leaf (aq .i64 b)))),(8,.sl 0 [] 0 la cp),(9,.sl 1 [] 0 nq (some nq)),(10,(.d (.int .i64 by_))),(11,(.d (.int .i64 (-1)))),(38,(.d (.bool false)))],[.sl false .leaf (aq .i64 (dv p by_ b c (cur,quo)).1),.sl false .leaf (aq .i64 (dv p by_ b c (cur,quo)).2)]⟩):=by
 intro c
 induction c with
 | zero=>
  intro cur quo hc h1 h2 hcan;exact bu (by simp -implicitDefEqProofs [Z13_L1,ap,dv])
 | succ c ih=>
  intro cur quo hc h1 h2 hcan;have hp0:p≠0:=by omega
  have t0:(((c+1:Nat):Int)-1)=(c:Int):=by omega
  rw [t0];have hil:c+b.length-1<cur.length:=by omega
  have hil2:c+b.length-1<la:=by omega
  have hci:cur[c+b.length-1]=cf cur (c+b.length-1):=(ft hil).symm;have gc:=hcan.le hp (c+b.length-1);have w1:IntKind.i64.wrap ((c:Int)+(b.length:Int))=(c:Int)+(b.length:Int):=wt;have w2:IntKind.i64.wrap ((c:Int)+(b.length:Int)-1)=((c+b.length-1:Nat):Int):=wt;have gm:=lw (x:=cf cur (c+b.length-1)) (y:=by_) (b:=1000) (c:=1000) (by omega) (by omega) (by omega)
  have w3:IntKind.i64.wrap (cf cur (c+b.length-1)*by_)=cf cur (c+b.length-1)*by_:=wt;have w4:(cf cur (c+b.length-1)*by_).tmod p=cf cur (c+b.length-1)*by_%p:=d9 (gp gc.1 hby.1);have w5:IntKind.i64.wrap ((c:Int)-1)=(c:Int)-1:=wt;have hcq:c<quo.length:=by omega
  have hcn:c<nq:=by omega
  have hq:0≤cf cur (c+b.length-1)*by_%p∧cf cur (c+b.length-1)*by_%p<p:=⟨eo _ hp0,du _ hp⟩;have l0:=a27 (by_:=by_) (quo:=quo.set c (cf cur (c+b.length-1)*by_%p)) (nq:=nq) (cp:=cp) hred hp hp' hq hb (i:=c) (by omega) (by omega) (la:=la) (by omega) (by omega) b.length 0 cur (b9 _) h1 hcan
  have e0:((0:Nat):Int)=0:=rfl;rw [e0] at l0;have ih':=ih (ou p (cf cur (c+b.length-1)*by_%p) b c b.length 0 cur) (quo.set c (cf cur (c+b.length-1)*by_%p)) (by omega) (by rw [ol]; exact h1) (by simpa using h2) (Gx hp (by omega) hcan)
  refine bn ?_ ih';simp -implicitDefEqProofs [Z13_L1,ap,hp0,w1,w2,hil,hil2,hci,w3,w4,w5,hcq,hcn,l0]
end Pe

namespace Gq
class CR (α:Type) extends Zero α,One α,Add α,Mul α,Neg α,Sub α where
 add_zero:∀a:α,a+0=a
 add_comm:∀a b:α,a+b=b+a
 add_assoc:∀a b c:α,a+b+c=a+(b+c)
 mul_one:∀a:α,a*1=a
 mul_comm:∀a b:α,a*b=b*a
 mul_assoc:∀a b c:α,a*b*c=a*(b*c)
 mul_add:∀a b c:α,a*(b+c)=a*b+a*c
 add_neg:∀a:α,a + -a=0
 sub_eq:∀a b:α,a-b=a + -b
section
variable {α:Type} [CR α]
theorem add_zero (a:α):a+0=a:=CR.add_zero a
theorem add_comm (a b:α):a+b=b+a:=CR.add_comm a b
theorem add_assoc (a b c:α):a+b+c=a+(b+c):=CR.add_assoc a b c
theorem mul_one (a:α):a*1=a:=CR.mul_one a
theorem mul_comm (a b:α):a*b=b*a:=CR.mul_comm a b
theorem mul_assoc (a b c:α):a*b*c=a*(b*c):=CR.mul_assoc a b c
theorem mul_add (a b c:α):a*(b+c)=a*b+a*c:=CR.mul_add a b c
theorem add_neg (a:α):a + -a=0:=CR.add_neg a
theorem sub_eq (a b:α):a-b=a + -b:=CR.sub_eq a b
end
instance:CR Int where
 add_zero:=Int.add_zero
 add_comm:=Int.add_comm
 add_assoc:=Int.add_assoc
 mul_one:=se
 mul_comm:=lm
 mul_assoc:=xu
 mul_add:=uf
 add_neg:=Int.add_right_neg
 sub_eq:=fun _ _=>Int.sub_eq_add_neg
section
variable {α:Type} [CR α]
def pw (a:α):Nat→α
 | 0=>1
 | n+1=>pw a n*a
instance (priority:=100):HPow α Nat α:=⟨pw⟩
theorem pow_zero (a:α):a^0=1:=rfl
theorem pow_succ (a:α) (n:Nat):a^(n+1)=a^n*a:=rfl
theorem zero_add (a:α):0+a=a:=by rw [add_comm,add_zero]
theorem a1d (a:α):-a+a=0:=by rw [add_comm,add_neg]
theorem one_mul (a:α):1*a=a:=by rw [mul_comm,mul_one]
theorem add_mul (a b c:α):(a+b)*c=a*c+b*c:=by rw [mul_comm,mul_add,mul_comm c,mul_comm c]
theorem tw (a b c:α):a+(b+c)=b+(a+c):=by rw [←add_assoc,add_comm a,add_assoc]
theorem mul_left_comm (a b c:α):a*(b*c)=b*(a*c):=by rw [←mul_assoc,mul_comm a,mul_assoc]
theorem Jn {a b c:α} (h:a+b=a+c):b=c:=by
 have:-a+(a+b)=-a+(a+c):=by rw [h]
 rwa [←add_assoc,←add_assoc,a1d,zero_add,zero_add] at this
theorem mul_zero (a:α):a*0=0:=by
 apply Jn (a:=a*0);rw [←mul_add,add_zero,add_zero]
theorem zero_mul (a:α):0*a=0:=by rw [mul_comm,mul_zero]
theorem Gg {a b:α} (h:a+b=0):b=-a:=Jn (a:=a) (by rw [h,add_neg])
theorem Bw (a b:α):-a*b=-(a*b):=Gg (by rw [←add_mul,add_neg,zero_mul])
theorem abd (a:α):- -a=a:=(Gg (a1d a)).symm
theorem ud:-(0:α)=0:=(Gg (add_zero 0)).symm
theorem Ad (a b:α):-(a+b)=-a + -b:=by
 apply (Gg _).symm;rw [add_assoc,tw b,←add_assoc,add_neg,zero_add,add_neg]
def nc:Nat→α
 | 0=>0
 | n+1=>nc n+1
theorem Do (m n:Nat):nc (m+n)=(nc m+nc n:α):=by
 induction n with
 | zero=>exact (add_zero _).symm
 | succ n ih=>rw [←fm,nc,nc,ih,add_assoc]
theorem Ro (m n:Nat):nc (m*n)=(nc m*nc n:α):=by
 induction n with
 | zero=>exact (mul_zero _).symm
 | succ n ih=>rw [Nat.mul_succ,Do,nc,ih,mul_add,mul_one]
def ic:Int→α
 | .ofNat n=>nc n
 | .negSucc n=>-nc (n+1)
theorem Ry:ic 0=(0:α):=rfl
theorem Wn:ic 1=(1:α):=zero_add 1
theorem Gk (m n:Nat):ic ((m:Int)-n)=(nc m + -nc n:α):=by
 by_cases h:n≤m
 ·obtain ⟨k,rfl⟩:=ix h
  have:((n+k:Nat):Int)-n=(k:Nat):=by omega
  rw [this];show nc k=_;rw [Do,add_comm (nc n),add_assoc,add_neg,add_zero]
 ·obtain ⟨k,rfl⟩:=ix (show m+1≤n by omega)
  have:(m:Int)-((m+1+k:Nat):Int)=Int.negSucc k:=by omega
  rw [this];show -nc (k+1)=_;rw [show m+1+k=m+(k+1) by omega,Do m,Ad,←add_assoc,add_neg,zero_add]
theorem Il (j:Int):∃m n:Nat,j=(m:Int)-n:=by
 cases j with
 | ofNat m=>exact ⟨m,0,by simp⟩
 | negSucc n=>exact ⟨0,n+1,by omega⟩
theorem Wk (j k:Int):ic (j+k)=(ic j+ic k:α):=by
 obtain ⟨a,b,rfl⟩:=Il j;obtain ⟨c,d,rfl⟩:=Il k;rw [show ((a:Int)-b)+((c:Int)-d)=((a+c:Nat):Int)-((b+d:Nat):Int) by omega,Gk,Gk,Gk,Do,Do,Ad,add_assoc,add_assoc,tw (nc c)]
theorem aeo (j:Int):ic (-j)=(-ic j:α):=Gg (by rw [←Wk,Int.add_right_neg]; rfl)
theorem ade (j k:Int):ic (j*k)=(ic j*ic k:α):=by
 obtain ⟨a,b,rfl⟩:=Il j;obtain ⟨c,d,rfl⟩:=Il k
 have e:((a:Int)-b)*((c:Int)-d)=((a*c+b*d:Nat):Int)-((a*d+b*c:Nat):Int):=by
  simp only [Int.sub_mul,Int.mul_sub,Int.natCast_add,Int.natCast_mul]; omega
 rw [e,Gk,Gk,Gk,Do,Do,Ro,Ro,Ro,Ro,add_mul,mul_add,mul_add,Bw,Bw,mul_comm (nc a) (-nc d),Bw,mul_comm (nc b) (-nc d),Bw,abd,Ad,mul_comm (nc d) (nc a),mul_comm (nc d) (nc b)];simp only [add_assoc,tw,add_comm]
inductive RE where
 | zero | one
 | i (k:Int)
 | v (n:Nat)
 | add (a b:RE) | mul (a b:RE) | sub (a b:RE)
 | neg (a:RE)
 | pow (a:RE) (n:Nat)
def RE.ev (env:List α):RE→α
 | .zero=>0
 | .one=>1
 | .i k=>ic k
 | .v n=>(env[n]?).getD 0
 | .add a b=>a.ev env+b.ev env
 | .mul a b=>a.ev env*b.ev env
 | .sub a b=>a.ev env-b.ev env
 | .neg a=>-a.ev env
 | .pow a n=>pw (a.ev env) n
abbrev Mon:=List Nat
def ac4 (n:Nat):Mon→Mon
 | []=>[n]
 | m::r=>if Nat.ble n m then n::m::r else m::ac4 n r
def ab1:Mon→Mon→Mon
 | [],b=>b
 | n::a,b=>ac4 n (ab1 a b)
def ltM:Mon→Mon→Bool
 | [],[]=>false
 | [],_::_=>true
 | _::_,[]=>false
 | a::r,b::s=>if Nat.beq a b then ltM r s else Nat.blt a b
def eqM:Mon→Mon→Bool
 | [],[]=>true
 | a::r,b::s=>Nat.beq a b&&eqM r s
 | _,_=>false
abbrev Pl:=List (Mon×Int)
def Wb (m:Mon) (k:Int):Pl→Pl
 | []=>if k=0 then [] else [(m,k)]
 | (m',k')::r=>if eqM m m' then (if k+k'=0 then r else (m,k+k')::r) else if ltM m m' then (if k=0 then (m',k')::r else (m,k)::(m',k')::r) else (m',k')::Wb m k r
def a2m:Pl→Pl→Pl
 | [],b=>b
 | (m,k)::a,b=>Wb m k (a2m a b)
def Xk (m:Mon) (k:Int):Pl→Pl
 | []=>[]
 | (m',k')::r=>Wb (ab1 m m') (k*k') (Xk m k r)
def a61:Pl→Pl→Pl
 | [],_=>[]
 | (m,k)::a,b=>a2m (Xk m k b) (a61 a b)
def aba (a:Pl):Nat→Pl
 | 0=>[([],1)]
 | n+1=>a61 (aba a n) a
def RE.nf:RE→Pl
 | .zero=>[]
 | .one=>[([],1)]
 | .i k=>Wb [] k []
 | .v n=>[([n],1)]
 | .add a b=>a2m a.nf b.nf
 | .mul a b=>a61 a.nf b.nf
 | .sub a b=>a2m a.nf (Xk [] (-1) b.nf)
 | .neg a=>Xk [] (-1) a.nf
 | .pow a n=>aba a.nf n
def eqP:Pl→Pl→Bool
 | [],[]=>true
 | (m,k)::a,(m',k')::b=>eqM m m'&&decide (k=k')&&eqP a b
 | _,_=>false
def evM (env:List α):Mon→α
 | []=>1
 | n::m=>(env[n]?).getD 0*evM env m
def evP (env:List α):Pl→α
 | []=>0
 | (m,k)::r=>ic k*evM env m+evP env r
theorem Wc:∀{a b:Mon},eqM a b=true→a=b
 | [],[],_=>rfl
 | x::a,y::b,h=>by
  simp only [eqM,av] at h;rw [Nat.eq_of_beq_eq_true h.1,Wc h.2]
theorem a6g:∀{a b:Pl},eqP a b=true→a=b
 | [],[],_=>rfl
 | (m,k)::a,(m',k')::b,h=>by
  simp only [eqP,av,decide_eq_true_eq] at h;rw [Wc h.1.1,h.1.2,a6g h.2]
theorem a03 (env:List α) (n:Nat):∀m,evM env (ac4 n m)=(env[n]?).getD 0*evM env m
 | []=>rfl
 | m::r=>by
  unfold ac4
  split
  ·rfl
  ·rw [evM,evM,a03 env n r,mul_left_comm]
theorem a1u (env:List α):∀a b,evM env (ab1 a b)=evM env a*evM env b
 | [],b=>(one_mul _).symm
 | n::a,b=>by rw [ab1,a03,a1u env a b,evM,mul_assoc]
theorem Ik (env:List α) (m:Mon) (k:Int):∀r,evP env (Wb m k r)=ic k*evM env m+evP env r
 | []=>by
  unfold Wb
  split
  ·rename_i h; rw [h,Ry,zero_mul,zero_add]
  ·rfl
 | (m',k')::r=>by
  unfold Wb
  split
  ·rename_i h
   obtain rfl:=Wc h
   split
   ·rename_i h2
    rw [evP,←add_assoc,←add_mul,←Wk,h2,Ry,zero_mul,zero_add]
   ·rw [evP,evP,Wk,add_mul,add_assoc]
  ·split
   ·split
    ·rename_i h; rw [h,Ry,zero_mul,zero_add]
    ·rfl
   ·rw [evP,Ik env m k r,evP,tw]
theorem Iu (env:List α):∀a b,evP env (a2m a b)=evP env a+evP env b
 | [],b=>(zero_add _).symm
 | (m,k)::a,b=>by rw [a2m,Ik,Iu env a b,evP,add_assoc]
theorem Ra (env:List α) (m:Mon) (k:Int):∀r,evP env (Xk m k r)=ic k*evM env m*evP env r
 | []=>(mul_zero _).symm
 | (m',k')::r=>by
  rw [Xk,Ik,Ra env m k r,evP,mul_add,a1u,ade,mul_assoc,mul_assoc,mul_left_comm (ic k')];simp only [mul_assoc]
theorem S4 (env:List α):∀a b,evP env (a61 a b)=evP env a*evP env b
 | [],b=>(zero_mul _).symm
 | (m,k)::a,b=>by rw [a61,Iu,Ra,S4 env a b,evP,add_mul]
theorem a5g (env:List α):evP env [([],1)]=1:=by simp only [evP,evM,Wn,mul_one,add_zero]
theorem a1a (env:List α) (a:Pl):∀n,evP env (aba a n)=pw (evP env a) n
 | 0=>a5g env
 | n+1=>by rw [aba,S4,a1a env a n]; rfl
theorem aa2 (a b:α):a * -b=-(a*b):=by rw [mul_comm,Bw,mul_comm]
theorem a5h (env:List α) (a:Pl):evP env (Xk [] (-1) a)=-evP env a:=by
 rw [Ra,evM,mul_one,aeo,Wn,Bw,one_mul]
theorem Cn (env:List α):∀e:RE,evP env e.nf=e.ev env
 | .zero=>rfl
 | .one=>a5g env
 | .i k=>by rw [RE.nf,Ik,evM,mul_one,evP,add_zero]; rfl
 | .v n=>by simp only [RE.nf,evP,evM,Wn,one_mul,mul_one,add_zero]; rfl
 | .add a b=>by rw [RE.nf,Iu,Cn env a,Cn env b]; rfl
 | .mul a b=>by rw [RE.nf,S4,Cn env a,Cn env b]; rfl
 | .sub a b=>by rw [RE.nf,Iu,a5h,Cn env a,Cn env b,←sub_eq]; rfl
 | .neg a=>by rw [RE.nf,a5h,Cn env a]; rfl
 | .pow a n=>by rw [RE.nf,a1a,Cn env a]; rfl
class Ix {α:Type} (env:List α) (x:α) (n:outParam Nat):Prop where
 h:env[n]? = some x
instance (priority:=1000) {l:List α} {x:α}:Ix (x::l) x 0:=⟨rfl⟩
instance (priority:=500) {l:List α} {x y:α} {n:Nat} [h:Ix l x n]:Ix (y::l) x (n+1):=⟨by simpa using h.h⟩
class Rf (env:List α) (x:α) (e:outParam RE):Prop where
 h:e.ev env=x
variable {env:List α} {x y:α} {a b:RE}
instance:Rf env (0:α) .zero:=⟨rfl⟩
instance:Rf env (1:α) .one:=⟨rfl⟩
instance {k:Int}:Rf env (ic k:α) (.i k):=⟨rfl⟩
instance [h:Rf env x a] [h':Rf env y b]:Rf env (x+y) (.add a b):=⟨by rw [RE.ev,h.h,h'.h]⟩
instance [h:Rf env x a] [h':Rf env y b]:Rf env (x*y) (.mul a b):=⟨by rw [RE.ev,h.h,h'.h]⟩
instance [h:Rf env x a] [h':Rf env y b]:Rf env (x-y) (.sub a b):=⟨by rw [RE.ev,h.h,h'.h]⟩
instance [h:Rf env x a]:Rf env (-x) (.neg a):=⟨by rw [RE.ev,h.h]⟩
instance {n:Nat} [h:Rf env x a]:Rf env (x^n) (.pow a n):=⟨by rw [RE.ev,h.h]; rfl⟩
instance (priority:=10) {n:Nat} [h:Ix env x n]:Rf env x (.v n):=⟨by rw [RE.ev,h.h]; rfl⟩
theorem cu (env:List α) {x y:α} {a b:RE} [h:Rf env x a] [h':Rf env y b] (e:eqP a.nf b.nf=true):x=y:=by
 rw [←h.h,←h'.h,←Cn,←Cn,a6g e]
end
end Gq

namespace Gq
section
variable {R:Type} [CR R]
def aew (m:R):Setoid R where
 r a b:=∃c,a=b+m*c
 iseqv:={
  refl:=fun a=>⟨0,by rw [mul_zero,add_zero]⟩
  symm:=fun {a b} ⟨c,h⟩=>⟨-c,by rw [h]; exact cu [b,m,c] rfl⟩
  trans:=fun {a b c} ⟨u,h⟩ ⟨v,h'⟩=>⟨u+v,by rw [h,h']; exact cu [c,m,u,v] rfl⟩ }
def Quo (m:R):Type:=Quotient (aew m)
variable {m:R}
def Quo.mk (m:R) (a:R):Quo m:=Quotient.mk (aew m) a
theorem Quo.eq {a b:R}:Quo.mk m a=Quo.mk m b↔∃c,a=b+m*c:=⟨fun h=>Quotient.exact h,fun h=>Quotient.sound h⟩
theorem Quo.ind {P:Quo m→Prop} (h:∀a,P (Quo.mk m a)) (x:Quo m):P x:=Quotient.ind h x
instance:Zero (Quo m):=⟨Quo.mk m 0⟩
instance:One (Quo m):=⟨Quo.mk m 1⟩
instance:Add (Quo m):=⟨Quotient.lift₂ (fun a b=>Quo.mk m (a+b)) (fun a b a' b' ⟨c,h⟩ ⟨d,h'⟩=>Quo.eq.2 ⟨c+d,by rw [h,h']; exact cu [a',b',c,d,m] rfl⟩)⟩
instance:Mul (Quo m):=⟨Quotient.lift₂ (fun a b=>Quo.mk m (a*b)) (fun a b a' b' ⟨c,h⟩ ⟨d,h'⟩=>Quo.eq.2 ⟨c*b'+a'*d+m*c*d,by rw [h,h']; exact cu [a',b',c,d,m] rfl⟩)⟩
instance:Neg (Quo m):=⟨Quotient.lift (fun a=>Quo.mk m (-a)) (fun a a' ⟨c,h⟩=>Quo.eq.2 ⟨-c,by rw [h]; exact cu [a',c,m] rfl⟩)⟩
instance:Sub (Quo m):=⟨fun a b=>a + -b⟩
theorem Quo.mk_add (a b:R):Quo.mk m (a+b)=Quo.mk m a+Quo.mk m b:=rfl
theorem Quo.mk_mul (a b:R):Quo.mk m (a*b)=Quo.mk m a*Quo.mk m b:=rfl
theorem Quo.mk_neg (a:R):Quo.mk m (-a)=-Quo.mk m a:=rfl
theorem Quo.mk_zero:Quo.mk m 0=0:=rfl
theorem Quo.mk_one:Quo.mk m 1=1:=rfl
instance:CR (Quo m) where
 add_zero:=Quo.ind fun a=>congrArg (Quo.mk m) (add_zero a)
 add_comm:=Quo.ind fun a=>Quo.ind fun b=>congrArg (Quo.mk m) (add_comm a b)
 add_assoc:=Quo.ind fun a=>Quo.ind fun b=>Quo.ind fun c=>congrArg (Quo.mk m) (add_assoc a b c)
 mul_one:=Quo.ind fun a=>congrArg (Quo.mk m) (mul_one a)
 mul_comm:=Quo.ind fun a=>Quo.ind fun b=>congrArg (Quo.mk m) (mul_comm a b)
 mul_assoc:=Quo.ind fun a=>Quo.ind fun b=>Quo.ind fun c=>congrArg (Quo.mk m) (mul_assoc a b c)
 mul_add:=Quo.ind fun a=>Quo.ind fun b=>Quo.ind fun c=>congrArg (Quo.mk m) (mul_add a b c)
 add_neg:=Quo.ind fun a=>congrArg (Quo.mk m) (add_neg a)
 sub_eq:=fun _ _=>rfl
theorem Quo.mk_sub (a b:R):Quo.mk m (a-b)=Quo.mk m a-Quo.mk m b:=by rw [sub_eq,mk_add,mk_neg,←sub_eq]
theorem Quo.mk_pow (a:R):∀n,Quo.mk m (pw a n)=pw (Quo.mk m a) n
 | 0=>rfl
 | n+1=>by rw [pw,pw,mk_mul,mk_pow a n]
end
theorem sub_self {α:Type} [CR α] (a:α):a-a=0:=by rw [sub_eq,add_neg]
theorem tl {α:Type} [CR α] {a b:α} (h:a-b=0):a=b:=by
 have:a=(a-b)+b:=cu [a,b] rfl;rw [this,h,zero_add]
class Fd (K:Type) extends CR K where
 one_ne:(1:K)≠0
 inv:K→K
 mul_inv:∀a:K,a≠0→a*inv a=1
theorem Fd.mul_ne {K:Type} [Fd K] {a b:K} (ha:a≠0) (hb:b≠0):a*b≠0:=fun h=>by
 have:(inv a*inv b)*(a*b)=1:=by
  rw [show (inv a*inv b)*(a*b)=(a*inv a)*(b*inv b) from cu [a,b,inv a,inv b] rfl,Fd.mul_inv a ha,Fd.mul_inv b hb,mul_one]
 rw [h,mul_zero] at this;exact Fd.one_ne this.symm
theorem Fd.zero_or {K:Type} [Fd K] {a b:K} (h:a*b=0):a=0∨b=0:=by
 by_cases ha:a=0
 ·exact .inl ha
 ·by_cases hb:b=0
  ·exact .inr hb
  ·exact absurd h (Fd.mul_ne ha hb)
theorem Fd.inv_ne {K:Type} [Fd K] {a:K} (ha:a≠0):inv a≠0:=fun h=>by
 have:=Fd.mul_inv a ha;rw [h,mul_zero] at this;exact Fd.one_ne this.symm
class IsP (p:Int):Prop where
 h:p=2∨p=3∨p=5∨p=7
theorem IsP.pos {p:Int} [h:IsP p]:0<p:=by have:=h.h; omega
theorem IsP.le {p:Int} [h:IsP p]:p≤7:=by have:=h.h; omega
theorem IsP.ge {p:Int} [h:IsP p]:2≤p:=by have:=h.h; omega
abbrev Zp (p:Int):Type:=Quo p
abbrev zp (p:Int) (n:Int):Zp p:=Quo.mk p n
theorem M6 {p a b:Int}:zp p a=zp p b↔a%p=b%p:=by
 rw [Quo.eq];constructor
 ·rintro ⟨c,rfl⟩
  rw [pu]
 ·intro h
  obtain ⟨c,hc⟩:=Int.dvd_of_emod_eq_zero (Int.emod_eq_emod_iff_emod_sub_eq_zero.1 h);exact ⟨c,by omega⟩
theorem zr (p a:Int):zp p (a%p)=zp p a:=M6.2 (ni _ (Int.dvd_refl p))
theorem Wz (p a b:Int):zp p (a+b)=zp p a+zp p b:=rfl
theorem Dl (p a b:Int):zp p (a*b)=zp p a*zp p b:=rfl
theorem Jp (p a:Int):zp p (-a)=-zp p a:=rfl
theorem a81 (p a b:Int):zp p (a-b)=zp p a-zp p b:=rfl
theorem C9 (p:Int):zp p 0=0:=rfl
theorem Af (p:Int):zp p 1=1:=rfl
def rep {p:Int}:Zp p→Int:=Quotient.lift (fun a:Int=>a%p) fun a b h=>by
 have:=M6.1 (Quotient.sound (s:=aew p) h);exact this
theorem M8 (p a:Int):rep (zp p a)=a%p:=rfl
theorem mw {p:Int}:∀x:Zp p,zp p (rep x)=x:=Quo.ind fun a=>zr p a
theorem o7 {p:Int} [IsP p] (x:Zp p):0≤rep x∧rep x<p:=by
 rw [←mw x,M8];have:=IsP.pos (p:=p);exact ⟨eo _ (by omega),du _ (by omega)⟩
theorem a1b {p:Int} {x y:Zp p} (h:rep x=rep y):x=y:=by rw [←mw x,←mw y,h]
theorem Q1 {p a:Int} (h:0≤a∧a<p):rep (zp p a)=a:=by rw [M8,n9 h.1 h.2]
theorem sj {p:Int}:rep (0:Zp p)=0:=by show (0:Int)%p=0; simp
theorem io {p:Int} {x:Zp p}:rep x=0↔x=0:=⟨fun h=>a1b (by rw [h,sj]),fun h=>by rw [h,sj]⟩
theorem Ci {p:Int} [IsP p]:rep (1:Zp p)=1:=by
 have:=IsP.ge (p:=p);exact Q1 (a:=1) (by omega)
def aav (p a:Int):Int:=(a^(p-2).toNat)%p
theorem aac (p:Int) [h:IsP p] (a:Int) (h0:0<a) (h1:a<p):a*aav p a%p=1:=by
 rcases h.h with rfl | rfl | rfl | rfl
 ·obtain rfl:a=1:=by omega
  decide
 ·have:a=1∨a=2:=by omega
  rcases this with rfl | rfl <;> decide
 ·have:a=1∨a=2∨a=3∨a=4:=by omega
  rcases this with rfl | rfl | rfl | rfl <;> decide
 ·have:a=1∨a=2∨a=3∨a=4∨a=5∨a=6:=by omega
  rcases this with rfl | rfl | rfl | rfl | rfl | rfl <;> decide
instance {p:Int} [IsP p]:Fd (Zp p) where
 one_ne:=fun h=>by
  have:=congrArg rep h;rw [Ci,sj] at this;omega
 inv:=fun x=>zp p (aav p (rep x))
 mul_inv:=fun x hx=>by
  have h0:=o7 x;have h1:rep x≠0:=fun h=>hx (io.1 h)
  have h2:zp p (rep x*aav p (rep x))=1:=by
   rw [←zr,aac p _ (by omega) h0.2]; rfl
  have h3:zp p (rep x)*zp p (aav p (rep x))=1:=h2
  rwa [mw] at h3
section
variable {K:Type} [CR K]
def cv:Nat→(Nat→K)→(Nat→K)→K
 | 0,f,g=>f 0*g 0
 | n+1,f,g=>f 0*g (n+1)+cv n (fun i=>f (i+1)) g
theorem T4:∀(n:Nat) (f g:Nat→K),cv (n+1) f g=cv n f (fun i=>g (i+1))+f (n+1)*g 0
 | 0,f,g=>rfl
 | n+1,f,g=>by rw [cv,T4 n,cv]; simp only [add_assoc]
theorem Ba:∀(n:Nat) (f g:Nat→K),cv n f g=cv n g f
 | 0,f,g=>mul_comm _ _
 | n+1,f,g=>by rw [cv,T4,Ba n,add_comm,mul_comm (f 0)]
theorem Xm:∀(n:Nat) (f f' g:Nat→K),cv n (fun i=>f i+f' i) g=cv n f g+cv n f' g
 | 0,f,f',g=>add_mul _ _ _
 | n+1,f,f',g=>by rw [cv,Xm n,cv,cv,add_mul]; exact cu [f 0*g (n+1),f' 0*g (n+1),cv n (fun i=>f (i+1)) g,cv n (fun i=>f' (i+1)) g] rfl
theorem a0l (k:K):∀(n:Nat) (f g:Nat→K),cv n (fun i=>k*f i) g=k*cv n f g
 | 0,f,g=>mul_assoc _ _ _
 | n+1,f,g=>by rw [cv,a0l k n,cv,mul_add,mul_assoc]
theorem Qw (n:Nat) (f g g':Nat→K):cv n f (fun i=>g i+g' i)=cv n f g+cv n f g':=by rw [Ba,Xm,Ba n g,Ba n g']
theorem U9:∀(n:Nat) (f g h:Nat→K),cv n (fun i=>cv i f g) h=cv n f (fun i=>cv i g h)
 | 0,f,g,h=>mul_assoc _ _ _
 | n+1,f,g,h=>by
  rw [cv,cv];show f 0*g 0*h (n+1)+cv n (fun i=>f 0*g (i+1)+cv i (fun i=>f (i+1)) g) h=f 0*cv (n+1) g h+cv n (fun i=>f (i+1)) (fun i=>cv i g h)
  rw [Xm,a0l,U9 n,cv,mul_add,mul_assoc,add_assoc]
theorem Br {g:Nat→K}:∀(n:Nat) {f:Nat→K},(∀i,f i=0)→cv n f g=0
 | 0,f,h=>by rw [cv,h,zero_mul]
 | n+1,f,h=>by rw [cv,h,zero_mul,Br n (fun i=>h _),add_zero]
theorem Xj {g:Nat→K} {b:Nat} (hg:∀i,b≤i→g i=0):∀(a n:Nat) {f:Nat→K},(∀i,a≤i→f i=0)→a+b≤n+1→cv n f g=0
 | 0,n,f,hf,_=>Br n fun i=>hf i (fh i)
 | a+1,0,f,hf,h=>by
  have:b=0:=by omega
  subst this;rw [cv,hg 0 (ba _),mul_zero]
 | a+1,n+1,f,hf,h=>by rw [cv,hg (n+1) (by omega),mul_zero,Xj hg a n (fun i hi=>hf _ (by omega)) (by omega),add_zero]
structure Pol (K:Type) [CR K] where
 c:Nat→K
 fin:∃n,∀i,n≤i→c i=0
theorem Pol.ext {a b:Pol K} (h:∀i,a.c i=b.c i):a=b:=by
 obtain ⟨f,hf⟩:=a;obtain ⟨g,hg⟩:=b;have:f=g:=funext h;subst this;rfl
def a2t:Nat→K:=fun i=>if i=0 then 1 else 0
instance:Zero (Pol K):=⟨⟨fun _=>0,0,fun _ _=>rfl⟩⟩
instance:One (Pol K):=⟨⟨a2t,1,fun i hi=>if_neg (by omega)⟩⟩
instance:Add (Pol K):=⟨fun a b=>⟨fun i=>a.c i+b.c i,by
 obtain ⟨n,hn⟩:=a.fin;obtain ⟨m,hm⟩:=b.fin;exact ⟨max n m,fun i hi=>by rw [hn i (by omega),hm i (by omega),add_zero]⟩⟩⟩
instance:Neg (Pol K):=⟨fun a=>⟨fun i=>-a.c i,by
 obtain ⟨n,hn⟩:=a.fin;exact ⟨n,fun i hi=>by rw [hn i hi,ud]⟩⟩⟩
instance:Sub (Pol K):=⟨fun a b=>a + -b⟩
instance:Mul (Pol K):=⟨fun a b=>⟨fun i=>cv i a.c b.c,by
 obtain ⟨n,hn⟩:=a.fin;obtain ⟨m,hm⟩:=b.fin;exact ⟨n+m,fun i hi=>Xj hm n i hn (by omega)⟩⟩⟩
theorem Pol.c_zero (i:Nat):(0:Pol K).c i=0:=rfl
theorem Pol.c_add (a b:Pol K) (i:Nat):(a+b).c i=a.c i+b.c i:=rfl
theorem Pol.c_neg (a:Pol K) (i:Nat):(-a).c i=-a.c i:=rfl
theorem Pol.c_mul (a b:Pol K) (i:Nat):(a*b).c i=cv i a.c b.c:=rfl
theorem a60 (n:Nat) (f:Nat→K):cv n a2t f=f n:=by
 cases n with
 | zero=>exact one_mul _
 | succ n=>
  have e:cv n (fun i=>a2t (i+1)) f=0:=Br n (f:=fun i=>a2t (i+1)) (fun i=>if_neg (Nat.succ_ne_zero i))
  rw [cv,e,add_zero];exact one_mul _
instance:CR (Pol K) where
 add_zero:=fun a=>Pol.ext fun i=>add_zero _
 add_comm:=fun a b=>Pol.ext fun i=>add_comm _ _
 add_assoc:=fun a b c=>Pol.ext fun i=>add_assoc _ _ _
 mul_one:=fun a=>Pol.ext fun i=>by rw [Pol.c_mul,Ba]; exact a60 i a.c
 mul_comm:=fun a b=>Pol.ext fun i=>Ba _ _ _
 mul_assoc:=fun a b c=>Pol.ext fun i=>U9 _ _ _ _
 mul_add:=fun a b c=>Pol.ext fun i=>Qw _ _ _ _
 add_neg:=fun a=>Pol.ext fun i=>add_neg _
 sub_eq:=fun _ _=>rfl
theorem Pol.c_sub (a b:Pol K) (i:Nat):(a-b).c i=a.c i-b.c i:=by rw [sub_eq,c_add,c_neg,←sub_eq]
def Pol.C (k:K):Pol K:=⟨fun i=>if i=0 then k else 0,1,fun i hi=>if_neg (by omega)⟩
def Pol.X:Pol K:=⟨fun i=>if i=1 then 1 else 0,2,fun i hi=>if_neg (by omega)⟩
theorem Pol.c_C (k:K) (i:Nat):(Pol.C k).c i=if i=0 then k else 0:=rfl
theorem Pol.c_X (i:Nat):(Pol.X:Pol K).c i=if i=1 then 1 else 0:=rfl
theorem Pol.c_Cmul (k:K) (a:Pol K) (i:Nat):(Pol.C k*a).c i=k*a.c i:=by
 rw [c_mul];cases i with
 | zero=>rfl
 | succ n=>
  have e:cv n (fun i=>(Pol.C k).c (i+1)) a.c=0:=Br n (f:=fun i=>(Pol.C k).c (i+1)) (fun i=>by rw [c_C,if_neg (Nat.succ_ne_zero i)])
  rw [cv,e,add_zero]; rfl
theorem Pol.c_Xmul (a:Pol K) (i:Nat):(Pol.X*a).c i=if i=0 then 0 else a.c (i-1):=by
 rw [c_mul];cases i with
 | zero=>exact zero_mul _
 | succ n=>
  have e:(fun i=>(Pol.X:Pol K).c (i+1))=a2t:=funext fun i=>by
   rw [c_X]; unfold a2t
   by_cases h:i=0
   ·rw [if_pos h,if_pos (by omega)]
   ·rw [if_neg h,if_neg (by omega)]
  rw [cv,e,a60,c_X,if_neg (by omega),zero_mul,zero_add,if_neg (by omega)]; rfl
theorem Pol.C_zero:Pol.C (0:K)=0:=Pol.ext fun i=>by rw [c_C,c_zero]; split <;> rfl
theorem Pol.C_one:Pol.C (1:K)=1:=rfl
theorem Pol.C_add (a b:K):Pol.C (a+b)=Pol.C a+Pol.C b:=Pol.ext fun i=>by
 rw [c_add,c_C,c_C,c_C]; split
 ·rfl
 ·rw [add_zero]
theorem Pol.C_mul (a b:K):Pol.C (a*b)=Pol.C a*Pol.C b:=Pol.ext fun i=>by
 rw [c_Cmul,c_C,c_C]; split
 ·rfl
 ·rw [mul_zero]
theorem Pol.C_neg (a:K):Pol.C (-a)=-Pol.C a:=Gg (by rw [←C_add,add_neg,C_zero])
def Pol.lt (a:Pol K) (n:Nat):Prop:=∀i,n≤i→a.c i=0
theorem Pol.lt.mono {a:Pol K} {n m:Nat} (h:a.lt n) (hnm:n≤m):a.lt m:=fun i hi=>h i (by omega)
theorem Pol.lt_zero {a:Pol K}:a.lt 0↔a=0:=⟨fun h=>Pol.ext fun i=>h i (fh i),fun h=>by rw [h]; exact fun _ _=>rfl⟩
theorem Pol.lt_add {a b:Pol K} {n:Nat} (ha:a.lt n) (hb:b.lt n):(a+b).lt n:=fun i hi=>by rw [c_add,ha i hi,hb i hi,add_zero]
theorem Pol.lt_neg {a:Pol K} {n:Nat} (ha:a.lt n):(-a).lt n:=fun i hi=>by rw [c_neg,ha i hi,ud]
theorem Pol.lt_sub {a b:Pol K} {n:Nat} (ha:a.lt n) (hb:b.lt n):(a-b).lt n:=by rw [sub_eq]; exact lt_add ha (lt_neg hb)
theorem Pol.lt_mul {a b:Pol K} {n m:Nat} (ha:a.lt n) (hb:b.lt m):(a*b).lt (n+m-1):=fun i hi=>Xj hb n i ha (by omega)
theorem Pol.lt_Cmul {a:Pol K} {n:Nat} (k:K) (ha:a.lt n):(C k*a).lt n:=fun i hi=>by rw [c_Cmul,ha i hi,mul_zero]
theorem Pol.lt_one:(1:Pol K).lt 1:=fun i hi=>if_neg (by omega)
theorem Pol.lt_C (k:K):(C k).lt 1:=fun i hi=>if_neg (by omega)
theorem Pol.lt_X:(X:Pol K).lt 2:=fun i hi=>if_neg (by omega)
theorem Pol.eq_C {a:Pol K} (h:a.lt 1):a=C (a.c 0):=Pol.ext fun i=>by
 rw [c_C]; split
 ·rename_i h0; rw [h0]
 ·exact h i (by omega)
theorem Pol.len_ex (a:Pol K):∃n,a.lt n∧∀m,a.lt m→n≤m:=by
 obtain ⟨n,hn⟩:=a.fin
 have h:∀k,∀n,n≤k→a.lt n→∃n,a.lt n∧∀m,a.lt m→n≤m:=by
  intro k
  induction k with
  | zero=>exact fun n hk hn=>⟨n,hn,fun m _=>by omega⟩
  | succ k ih=>
   intro n hk hn
   by_cases h:∃m,m<n∧a.lt m
   ·obtain ⟨m,h1,h2⟩:=h
    exact ih m (by omega) h2
   ·exact ⟨n,hn,fun m hm=>by
     rcases dx m n with h1 | h1
     ·exact absurd ⟨m,h1,hm⟩ h
     ·exact h1⟩
 exact h n n (ba n) hn
noncomputable def Pol.len (a:Pol K):Nat:=Classical.choose a.len_ex
theorem Pol.lt_len (a:Pol K):a.lt a.len:=(dc a.len_ex).1
theorem Pol.len_le {a:Pol K} {n:Nat} (h:a.lt n):a.len≤n:=(dc a.len_ex).2 n h
theorem Pol.lt_iff {a:Pol K} {n:Nat}:a.lt n↔a.len≤n:=⟨len_le,fun h=>a.lt_len.mono h⟩
theorem Pol.len_zero_iff {a:Pol K}:a.len=0↔a=0:=by rw [←lt_zero,lt_iff]; omega
theorem Pol.len_zero:(0:Pol K).len=0:=len_zero_iff.2 rfl
theorem Pol.len_pos {a:Pol K} (h:a≠0):0<a.len:=by
 have:a.len≠0:=fun h'=>h (len_zero_iff.1 h')
 omega
noncomputable def Pol.ld (a:Pol K):K:=a.c (a.len-1)
theorem Pol.ld_ne {a:Pol K} (h:a≠0):a.ld≠0:=fun h0=>by
 have hp:=len_pos h
 have:a.lt (a.len-1):=fun i hi=>by
  rcases dx i a.len with h1 | h1
  ·rw [show i=a.len-1 by omega]; exact h0
  ·exact a.lt_len i h1
 have:=len_le this;omega
theorem Pol.len_eq {a:Pol K} {n:Nat} (h:a.lt (n+1)) (h':a.c n≠0):a.len=n+1:=by
 have h1:=len_le h;rcases dx n a.len with h2 | h2
 ·omega
 ·exact absurd (a.lt_len n h2) h'
theorem Wq {g:Nat→K} {b:Nat} (hg:∀i,b+1≤i→g i=0):∀(a:Nat) {f:Nat→K},(∀i,a+1≤i→f i=0)→cv (a+b) f g=f a*g b
 | 0,f,hf=>by
  rw [b9];cases b with
  | zero=>rfl
  | succ b=>rw [cv,Br b (fun i=>hf _ (by omega)),add_zero]
 | a+1,f,hf=>by
  rw [show a+1+b=(a+b)+1 by omega,cv,hg (a+b+1) (by omega),mul_zero,zero_add,Wq hg a (fun i hi=>hf _ (by omega))]
end
section
variable {K:Type} [Fd K]
theorem Pol.len_mul {a b:Pol K} (ha:a≠0) (hb:b≠0):(a*b).len+1=a.len+b.len:=by
 have h1:=len_pos ha;have h2:=len_pos hb
 have e:(a*b).c ((a.len-1)+(b.len-1))=a.ld*b.ld:=by
  rw [c_mul];exact Wq (f:=a.c) (fun i hi=>b.lt_len i (by omega)) _ (fun i hi=>a.lt_len i (by omega))
 have l:=len_eq (a:=a*b) (n:=(a.len-1)+(b.len-1)) ((lt_mul a.lt_len b.lt_len).mono (by omega)) (by rw [e]; exact Fd.mul_ne (ld_ne ha) (ld_ne hb))
 omega
theorem Pol.ld_mul {a b:Pol K} (ha:a≠0) (hb:b≠0):(a*b).ld=a.ld*b.ld:=by
 have h1:=len_pos ha;have h2:=len_pos hb
 have e:(a*b).c ((a.len-1)+(b.len-1))=a.ld*b.ld:=by
  rw [c_mul];exact Wq (f:=a.c) (fun i hi=>b.lt_len i (by omega)) _ (fun i hi=>a.lt_len i (by omega))
 have l:=len_mul ha hb;unfold ld at *;rw [←e]; congr 1; omega
theorem Pol.mul_ne {a b:Pol K} (ha:a≠0) (hb:b≠0):a*b≠0:=fun h=>by
 have l:=len_mul ha hb;have h1:=len_pos ha;have h2:=len_pos hb;rw [h,len_zero] at l;omega
theorem Pol.zero_or {a b:Pol K} (h:a*b=0):a=0∨b=0:=by
 by_cases ha:a=0
 ·exact .inl ha
 ·by_cases hb:b=0
  ·exact .inr hb
  ·exact absurd h (mul_ne ha hb)
theorem Pol.mul_cancel {a b c:Pol K} (ha:a≠0) (h:a*b=a*c):b=c:=by
 have:a*(b-c)=0:=by
  rw [show a*(b-c)=a*b-a*c from cu [a,b,c] rfl,h,sub_self]
 exact tl ((zero_or this).resolve_left ha)
theorem Pol.one_ne:(1:Pol K)≠0:=fun h=>Fd.one_ne (K:=K) (congrArg (fun f=>Pol.c f 0) h)
theorem Pol.len_one:(1:Pol K).len=1:=len_eq lt_one Fd.one_ne
theorem Pol.ld_one:(1:Pol K).ld=1:=by unfold ld; rw [len_one]; rfl
theorem Pol.len_X:(X:Pol K).len=2:=len_eq lt_X Fd.one_ne
theorem Pol.len_C {k:K} (h:k≠0):(C k).len=1:=len_eq (lt_C k) h
theorem Pol.C_ne {k:K} (h:k≠0):C k≠0:=fun h'=>by have:=len_C h; rw [h',len_zero] at this; omega
theorem Pol.len_Cmul {k:K} (h:k≠0) (a:Pol K):(C k*a).len=a.len:=by
 by_cases ha:a=0
 ·rw [ha,mul_zero]
 ·have:=len_mul (C_ne h) ha
  rw [len_C h] at this;omega
def Pol.mo (k:K) (n:Nat):Pol K:=⟨fun i=>if i=n then k else 0,n+1,fun i hi=>if_neg (by omega)⟩
theorem aca (k:K) (g:Nat→K):∀(n j:Nat),cv (n+j) (fun i=>if i=n then k else 0) g=k*g j
 | 0,0=>rfl
 | 0,j+1=>by
  rw [b9,cv,Br j (fun i=>if_neg (by omega)),add_zero]; rfl
 | n+1,j=>by
  have e:(fun i=>if i+1=n+1 then k else 0)=(fun i=>if i=n then k else 0):=funext fun i=>by
   by_cases h:i=n
   ·rw [if_pos h,if_pos (by omega)]
   ·rw [if_neg h,if_neg (by omega)]
  rw [show n+1+j=(n+j)+1 by omega,cv,if_neg (by omega),zero_mul,zero_add,e,aca k g n j]
theorem Pol.c_momul (k:K) (n:Nat) (a:Pol K) (i:Nat) (h:n≤i):(mo k n*a).c i=k*a.c (i-n):=by
 obtain ⟨j,rfl⟩:=ix h;rw [c_mul,Nat.add_sub_cancel_left];exact aca k a.c n j
theorem Pol.div_ex (b:Pol K) (hb:b≠0):∀(n:Nat) (a:Pol K),a.lt n→∃q r:Pol K,a=q*b+r∧r.len<b.len
 | 0,a,h=>⟨0,0,by rw [lt_zero.1 h,zero_mul,add_zero],by rw [len_zero]; exact len_pos hb⟩
 | n+1,a,h=>by
  rcases dx n (b.len-1) with h1 | h1
  ·exact ⟨0,a,by rw [zero_mul,zero_add],by have:=len_le h; omega⟩
  ·have hp:=len_pos hb
   have key:(a-mo (a.c n*Fd.inv b.ld) (n-(b.len-1))*b).lt n:=fun i hi=>by
    rw [c_sub,c_momul _ _ _ _ (by omega)]
    by_cases h2:i=n
    ·subst h2
     rw [show i-(i-(b.len-1))=b.len-1 by omega]
     have:=Fd.mul_inv b.ld (ld_ne hb);show a.c i-a.c i*Fd.inv b.ld*b.ld=0;rw [mul_assoc,mul_comm (Fd.inv b.ld),this,mul_one,sub_self]
    ·rw [h i (by omega),b.lt_len _ (by omega),mul_zero,sub_self]
   obtain ⟨q,r,h2,h3⟩:=div_ex b hb n _ key;refine ⟨mo (a.c n*Fd.inv b.ld) (n-(b.len-1))+q,r,?_,h3⟩
   revert h2
   generalize mo (a.c n*Fd.inv b.ld) (n-(b.len-1))=t;intro h2;have:a=(a-t*b)+t*b:=cu [a,t,b] rfl;rw [this,h2];exact cu [q,b,r,t] rfl
theorem Pol.div_unique {b q r q' r':Pol K} (h:q*b+r=q'*b+r') (hr:r.len<b.len) (hr':r'.len<b.len):q=q'∧r=r':=by
 have e:(q-q')*b=r'-r:=by
  have:(q-q')*b=(q*b+r)-(q'*b+r):=cu [q,q',b,r] rfl;rw [this,h];exact cu [q',b,r,r'] rfl
 have hb:b≠0:=fun h0=>by rw [h0,len_zero] at hr; omega
 by_cases hq:q-q'=0
 ·have hq':=tl hq
  rw [hq,zero_mul] at e;exact ⟨hq',(tl e.symm).symm⟩
 ·have l:=len_mul hq hb
  rw [e] at l;have h1:=len_le (lt_sub (Pol.lt_iff.2 (show r'.len≤b.len-1 by omega)) (Pol.lt_iff.2 (show r.len≤b.len-1 by omega)))
  have:=len_pos hq;omega
open Classical in
noncomputable def Pol.qr (a b:Pol K):Pol K×Pol K:=
 if hb:b=0 then (0,a) else ((Classical.choose (div_ex b hb a.len a a.lt_len)),Classical.choose (dc (div_ex b hb a.len a a.lt_len)))
noncomputable instance:Div (Pol K):=⟨fun a b=>(Pol.qr a b).1⟩
noncomputable instance:Mod (Pol K):=⟨fun a b=>(Pol.qr a b).2⟩
theorem Pol.div_mod (a b:Pol K):a=(a/b)*b+a%b:=by
 show a=(qr a b).1*b+(qr a b).2;unfold qr
 split
 ·rename_i h; rw [h,mul_zero,zero_add]
 ·rename_i h; exact (dc (dc (div_ex b h a.len a a.lt_len))).1
theorem Pol.len_mod (a:Pol K) {b:Pol K} (h:b≠0):(a%b).len<b.len:=by
 show (qr a b).2.len<_;unfold qr;rw [dif_neg h];exact (dc (dc (div_ex b h a.len a a.lt_len))).2
theorem Pol.div_mod_eq {a b q r:Pol K} (h:a=q*b+r) (hr:r.len<b.len):a/b=q∧a%b=r:=by
 have hb:b≠0:=fun h0=>by rw [h0,len_zero] at hr; omega
 exact div_unique ((div_mod a b).symm.trans h) (len_mod a hb) hr
end
end Gq
