/-
  A part of the proof: an evaluator for a small form of the code, its soundness, and contracts of functions over it.
-/
import Derived.IntWalk
import Derived.Carry
import Derived.OpenShut
import Derived.Test.YtjanjcnncilddabGreatW1

namespace Pe
open Go
variable {P:Program} {num:Nat→Nat}
structure Runs (np:Nat) (C C':Cx) (φ φ':Loc) (h h':Heap):Prop where
 st:Step C C' φ φ' h h'
 kp:Keeps C C' φ φ' h h' (np≤·)
theorem Runs.trans {np:Nat} {C C' C'':Cx} {φ φ' φ'':Loc} {h h' h'':Heap} (a:Runs np C C' φ φ' h h') (b:Runs np C' C'' φ' φ'' h' h''):Runs np C C'' φ φ'' h h'':=
 ⟨a.st.trans b.st,a.kp.trans b.kp⟩
theorem Runs.refl (np:Nat) {C:Cx} {φ:Loc} {h:Heap} (hr:HR C φ h) (hb:∀b,C.I b→b<C.w.heap.size):Runs np C C φ φ h h:=⟨.refl hr hb,Keeps.refl _ _ _ _⟩
theorem a93 {O:ah} {np:Nat} {e:Env} {h h':Heap} {p:Op} {v:V} {j:Nat} (he:bh O np e h p=some (v,h')) (hk:p.kill e v=some j):np≤j:=by
 cases p <;> simp only [Op.kill,reduceCtorEq] at hk
 rename_i sh i bytes x y
 simp only [bh] at he;obtain ⟨w,hw,he⟩:=a5.1 he;obtain ⟨d,hd,he⟩:=a5.1 he
 split at he
 ·rename_i sh1 ys j' off n cap hxe
  rw [hxe] at hk
  split at he
  ·split at he
   ·split at he
    ·rename_i hfr
     simp only [a8,ak] at he;obtain ⟨rfl,rfl⟩:=he;simp at hk;omega
    ·split at he
     ·obtain ⟨h2,hpb,e⟩:=a9.1 he
      simp only [ak] at e;obtain ⟨rfl,rfl⟩:=e;simp at hk;omega
     ·cases he
   ·cases he
  ·cases he
 ·rename_i hxe
  rw [hxe] at hk;cases hk
 ·cases he
theorem Dy (p:Nat→Bool):∀(e:Env) (n:Nat),Env.get (e.filter fun q=>p q.1) n=if p n then e.get n else none
 | [],n=>by simp [Env.get]
 | (m,v)::e,n=>by
  have ih:=Dy p e n
  by_cases hm:p m=true
  ·rw [List.filter_cons_of_pos (by simpa using hm)]
   simp only [Env.get]
   by_cases hmn:m=n
   ·subst hmn; simp [hm]
   ·rw [if_neg hmn,if_neg hmn]; exact ih
  ·rw [List.filter_cons_of_neg (by simpa using hm),ih]
   simp only [Env.get]
   by_cases hmn:m=n
   ·subst hmn; simp [hm]
   ·rw [if_neg hmn]
theorem W2 {e:Env} {k:Option Nat} {n:Nat} {v:V} (h:(e.kill k).get n=some v):e.get n=some v∧∀j,k=some j→j ∉ v.refs:=by
 cases k with
 | none=>exact ⟨h,by simp⟩
 | some j=>
  simp only [Env.kill] at h;rw [Dy (e.clear j) e n] at h
  split at h
  ·rename_i hp
   unfold Env.clear at hp;rw [h] at hp;refine ⟨h,fun j' hj=>?_⟩
   simp only [a8] at hj;subst hj;intro hm;simp at hp;exact hp j hm rfl
  ·cases h
def Pp (P:Program) (num:Nat→Nat) (ops:Array Oper) (N:Nat) (i:Ins) (o:Oper):Bool:=
 decide (i.dst=o.dst)&&(match o.dst with | some d=>decide (d<N) | none=>true)&&a3b P num i.op o &&
 (match i.guard,o.guard with
  | none,none=>true
  | some (n,b),some (g,b')=>b == b'&&decide ((ops[g]?).bind (·.dst)=some n)
  | _,_=>false)
theorem T5 {a:Act} {d n:Nat} {v:Value} (hd:d<a.tmps.size):(a.put (some d) v).tmps[n]? = if n=d then some v else a.tmps[n]?:=by
 simp only [Act.put,jw]
 by_cases h:d=n
 ·subst h; simp [hd]
 ·rw [if_neg h,if_neg (jo h)]
theorem ud (a:Act) (d:Option Nat) (v:Value):(a.put d v).tmps.size=a.tmps.size:=by
 cases d <;> simp [Act.put]
theorem Qn {O:ah} {np:Nat} {s s':St} {i:Ins} (h:se O np s i=some s'):nv O np s i=some s':=by
 unfold se at h
 split at h
 ·exact h
 ·cases h
theorem Hh {O:ah} {C:Cx} {φ:Loc} {s s':St} {a:Act} {ops:Array Oper} {N np:Nat} {i:Ins} {o:Oper} {j:Nat} {K:Act→World→Prop} {Q:Exit→Act→World→Prop}
 (hO:nu P C.num O) (hs:SR C φ s a.tmps) (hN:N≤a.tmps.size) (hok:Pp P C.num ops N i o=true) (hj:ops[j]? = some o) (he:nv O np s i=some s')
 (hK:∀C' φ' u,Runs np C C' φ φ' s.h s'.h→SR C' φ' s' (a.put o.dst u).tmps→K (a.put o.dst u) C'.w):wpOp P ops Q j K a C.w:=by
 unfold Pp at hok;simp only [av,decide_eq_true_eq] at hok;obtain ⟨⟨⟨hdst,hdN⟩,hop⟩,hguard⟩:=hok
 have hdN':∀d,o.dst=some d→d<a.tmps.size:=by
  intro d hd;have h1:=hdN;simp [hd] at h1;exact o5 h1 hN
 -- the guard
 have hwant:∀t,i.on s.e=some t→Region.wanted o (yielded ops a.tmps)=t:=by
  intro t ht;unfold Ins.on at ht;unfold Region.wanted;cases hg:i.guard with
  | none=>
   rw [hg] at hguard ht;cases hg':o.guard with
   | none=>simpa using ht
   | some x=>rw [hg'] at hguard; cases hguard
  | some q=>
   obtain ⟨n,b⟩:=q;rw [hg] at hguard ht;cases hg':o.guard with
   | none=>rw [hg'] at hguard; cases hguard
   | some x=>
    obtain ⟨g,b'⟩:=x;rw [hg'] at hguard;simp only [av,beq_iff_eq,decide_eq_true_eq] at hguard;obtain ⟨rfl,hgn⟩:=hguard;simp only at ht ⊢
    split at ht
    ·rename_i t' hn
     obtain ⟨u,hu,hx⟩:=hs.env n _ hn;have hub:=T0 hx;subst hub
     have hy:yielded ops a.tmps g=some t':=by
      unfold yielded;rw [hgn];simp [hu]
     rw [hy];simp only [a8] at ht;rw [←ht];cases t' <;> cases b <;> rfl
    ·rename_i hn
     obtain ⟨u,hu,hx⟩:=hs.env n _ hn;simp only [RX,RXs] at hx;obtain ⟨us,rfl,-⟩:=hx
     have hy:yielded ops a.tmps g=none:=by
      unfold yielded;rw [hgn];simp [hu]
     rw [hy];simp only [a8] at ht;rw [←ht];rfl
    ·cases ht
 unfold nv at he;unfold wpOp;simp only [hj]
 split at he
 ·rename_i hg
  rw [hwant true hg,if_pos rfl]
  ·obtain ⟨⟨v,h'⟩,hev,rfl⟩:=a9.1 he
   left;refine a5r hO hs hop hev K Q fun C' φ' u st hx k=>hK C' φ' u ⟨st,k.mono fun i hi=>a93 hev hi⟩ ⟨st.hr,st.bd,fun n w hn=>?_⟩
   simp only at hn
   have old:∀w,((s.e.kill (i.op.kill s.e v)).get n=some w)→∃u0,a.tmps[n]? = some u0∧RX C' φ' h' w u0:=by
    intro w hw;obtain ⟨g1,g2⟩:=W2 hw;obtain ⟨u0,h1,h2⟩:=hs.env n w g1;exact ⟨u0,h1,k w u0 (fun j hj hk=>g2 j hk hj) h2⟩
   cases hd:o.dst with
   | none=>
    rw [hdst,hd] at hn;simp only [Env.putO] at hn;exact old w hn
   | some d=>
    rw [hdst,hd] at hn;simp only [Env.putO,Env.get] at hn;rw [T5 (hdN' d hd)]
    by_cases hdn:d=n
    ·subst hdn
     simp only [if_true,a8] at hn;subst hn;refine ⟨u,if_pos rfl,?_⟩;rcases hx with hx | hx
     ·rw [hd] at hx; cases hx
     ·exact hx
    ·rw [if_neg hdn] at hn
     rw [if_neg (jo hdn)];exact old w hn
 ·rename_i hg
  rw [hwant false hg,if_neg (by simp)]
  obtain rfl:=bc he;refine hK C φ undef (.refl np hs.hr hs.bd) ⟨hs.hr,hs.bd,fun n w hn=>?_⟩
  cases hd:o.dst with
  | none=>
   rw [hdst,hd] at hn;exact hs.env n w hn
  | some d=>
   rw [hdst,hd] at hn;simp only [Env.putO,Env.get] at hn;rw [T5 (hdN' d hd)]
   by_cases hdn:d=n
   ·subst hdn
    simp only [if_true,a8] at hn;subst hn;exact ⟨undef,if_pos rfl,by simp [RX,RXs,undef]⟩
   ·rw [if_neg hdn] at hn
    rw [if_neg (jo hdn)];exact hs.env n w hn
 ·cases he
theorem Ns {e:Env}:∀{ks:List Nat} {n:Nat} {v:V},(e.keep ks).get n=some v→e.get n=some v
 | [],n,v,h=>by simp [Env.keep,Env.get] at h
 | k::ks,n,v,h=>by
  simp only [Env.keep] at h
  split at h
  ·rename_i u hu
   simp only [Env.get] at h
   by_cases hk:k=n
   ·subst hk
    simp only [if_true,a8] at h;subst h; exact hu
   ·rw [if_neg hk] at h; exact Ns h
  ·exact Ns h
theorem Ci (e:Env) (np:Nat):∀(j:Nat) (h:Heap) (i:Nat),(ug e np j h)[i]? = (h[i]?).map fun b=>if j+i<np∨e.refd (j+i) then b else .hole
 | j,[],i=>by simp [ug]
 | j,b::bs,i=>by
  simp only [ug];cases i with
  | zero=>simp
  | succ i=>
   simp only [n7];rw [Ci e np (j+1) bs i];rw [show j+1+i=j+(i+1) by omega]
theorem a6e {e:Env} {n i:Nat} {v:V} (h:e.get n=some v) (hi:i∈v.refs):e.refd i=true:=by
 induction e with
 | nil=>simp [Env.get] at h
 | cons q e ih=>
  obtain ⟨m,u⟩:=q;simp only [Env.get] at h;simp only [Env.refd,ol,Bool.or_eq_true] at ih ⊢
  by_cases hm:m=n
  ·rw [if_pos hm,a8] at h
   subst h;left
   simpa using hi
  ·rw [if_neg hm] at h
   exact .inr (ih h)
theorem Ln {C:Cx} {φ:Loc} {s:St} {tmps:Array Value} (np:Nat) (hs:SR C φ s tmps) (ks:List Nat) :
 Runs np C C φ φ s.h (ug (s.e.keep ks) np 0 s.h)∧SR C φ ⟨s.e.keep ks,ug (s.e.keep ks) np 0 s.h⟩ tmps:=by
 obtain ⟨st,k⟩:=a32 (h':=ug (s.e.keep ks) np 0 s.h) hs.hr hs.bd (fun i B hB=>by
  rw [Ci] at hB;obtain ⟨b,hb,e⟩:=a9.1 hB
  split at e
  ·subst e; exact .inr hb
  ·exact .inl e.symm) (fun i B hB=>by
  rw [Ci,hB];refine ⟨_,rfl,?_⟩
  split
  ·exact .inr rfl
  ·exact .inl rfl)
 have hold:∀v u,RX C φ s.h v u→(∀i∈v.refs,i<np∨(s.e.keep ks).refd i=true)→RX C φ (ug (s.e.keep ks) np 0 s.h) v u:=by
  intro v u g hi;refine k v u (fun i hiv hh=>?_) g
  obtain ⟨B,hB,hn⟩:=RX.refs v u g i hiv;have hh:(ug (s.e.keep ks) np 0 s.h)[i]? = some Blk.hole:=hh;rw [Ci,hB,db,bn,if_pos (hi i hiv)] at hh;exact hn (bc hh)
 refine ⟨⟨st,fun v u hv g=>hold v u g fun i hi=>.inl (by have:=hv i hi; omega)⟩,⟨st.hr,st.bd,fun n v hn=>?_⟩⟩
 obtain ⟨u,h1,h2⟩:=hs.env n v (Ns hn);exact ⟨u,h1,hold v u h2 fun i hi=>.inr (a6e hn hi)⟩
def B7 (P:Program) (num:Nat→Nat) (ops:Array Oper) (N:Nat):List Ins→List Oper→Bool
 | [],[]=>true
 | i::is,o::os=>Pp P num ops N i o&&B7 P num ops N is os
 | _,_=>false
theorem wz {num:Nat→Nat} {ops:Array Oper} {N:Nat}:∀{is:List Ins} {os:List Oper},B7 P num ops N is os=true→is.length=os.length∧∀(k:Nat) i o,is[k]? = some i→os[k]? = some o→Pp P num ops N i o=true
 | [],[],_=>by simp
 | i::is,o::os,h=>by
  simp only [B7,av] at h;obtain ⟨h1,h2⟩:=wz h.2;refine ⟨by simp [h1],fun k i' o' hi ho=>?_⟩
  cases k with
  | zero=>
   simp only [gn,a8] at hi ho;subst hi; subst ho; exact h.1
  | succ k=>exact h2 k i' o' (by simpa using hi) (by simpa using ho)
 | [],_::_,h=>by simp [B7] at h
 | _::_,[],h=>by simp [B7] at h
theorem Oz {O:ah} {ops:Array Oper} {N np:Nat} {Q:Exit→Act→World→Prop} {is:List Ins} (hok:B7 P num ops N is ops.toList=true) (hO:nu P num O) :
 ∀(m k:Nat),k+m=is.length→∀(C:Cx) (φ:Loc) (s s':St) (a:Act),C.num=num→SR C φ s a.tmps→N≤a.tmps.size→i7 O np (is.drop k) s=some s' →
 (∀C' φ' a',C'.num=num→Runs np C C' φ φ' s.h s'.h→SR C' φ' s' a'.tmps→a'.tmps.size=a.tmps.size→a'.defers=a.defers→Q .normal a' C'.w)→wpOps P ops Q (List.range' k m) a C.w
 | 0,k,hk,C,φ,s,s',a,hC,hs,hN,he,hQ=>by
  rw [ft (by omega)] at he
  simp only [i7,a8] at he;subst he;simp only [List.range'_zero,wpOps];exact hQ C φ a hC (.refl np hs.hr hs.bd) hs rfl rfl
 | m+1,k,hk,C,φ,s,s',a,hC,hs,hN,he,hQ=>by
  obtain ⟨hl,hget⟩:=wz hok;have hkl:k<is.length:=by omega
  have hi:is[k]? = some is[k]:=au hkl;have hko:k<ops.toList.length:=by omega
  have ho:ops.toList[k]? = some ops.toList[k]:=au hko;rw [bu hkl] at he;simp only [i7] at he;obtain ⟨s1,h1,he⟩:=a5.1 he;rw [List.range'_succ,wpOps_cons];have ho':ops[k]? = some ops.toList[k]:=by simp
  refine Hh (hC▸hO) hs hN (hC▸hget k _ _ hi ho) ho' (Qn h1) fun C' φ' u rn hs'=>?_
  have hC':C'.num=num:=rn.st.le.num.trans hC;refine Oz hok hO m (k+1) (by omega) C' φ' s1 s' _ hC' hs' (by rw [ud]; exact hN) he fun C2 φ2 a2 h2 rn2 hs2 e2 d2=>?_
  refine hQ C2 φ2 a2 h2 (rn.trans rn2) hs2 (by rw [e2,ud]) ?_
  rw [d2];cases ops.toList[k].dst <;> rfl
end Pe

namespace Pe
open Go
def Le (ns:List Nat) (e e':Env):Prop:=∀n∈ns,∀v,e.get n=some v→e'.get n=some v
theorem Le.sub {ns ms:List Nat} {e e':Env} (h:Le ns e e') (hs:∀n∈ms,n∈ns):Le ms e e':=fun n hn v hv=>h n (hs n hn) v hv
theorem dz {e e':Env} {x:Arg} (h:Le x.temps e e') {v:V} (hv:e.arg x=some v):e'.arg x=some v:=by
 cases x with
 | t n=>exact h n (by simp [Arg.temps]) v hv
 | c d=>exact hv
 | f f=>exact hv
theorem Ck {e e':Env}:∀{xs:List Arg},Le (xv xs) e e'→∀{vs:List V},e.args xs=some vs→e'.args xs=some vs
 | [],_,vs,hv=>hv
 | x::xs,h,vs,hv=>by
  simp only [Env.args] at hv ⊢;obtain ⟨v,h1,hv⟩:=a5.1 hv;obtain ⟨r,h2,rfl⟩:=a9.1 hv;rw [dz (h.sub fun n hn=>by simp [xv,hn]) h1,ae,Ck (h.sub fun n hn=>by simp [xv,hn]) h2,db]
theorem Bg {e e':Env} {x:Arg} (h:Le x.temps e e') {k:Nat} (hv:(e.arg x).bind V.nat? = some k):(e'.arg x).bind V.nat? = some k:=by
 obtain ⟨v,h1,h2⟩:=a5.1 hv;rw [dz h h1,ae,h2]
theorem o8 {e e':Env} {x:Option Arg} (h:Le (Av x) e e') {m k:Nat} (hv:eo e x m=some k):eo e' x m=some k:=by
 cases x with
 | none=>exact hv
 | some a=>exact Bg h hv
theorem Dx {e e':Env} {h:Heap}:∀{ps:List (Nat×Arg)},Le (wb ps) e e'→∀{xs:List (Nat×D)},jr e h ps=some xs→jr e' h ps=some xs∧fa e' ps=fa e ps
 | [],_,xs,hv=>⟨hv,rfl⟩
 | (i,a)::r,hl,xs,hv=>by
  simp only [jr] at hv ⊢;obtain ⟨v,h1,hv⟩:=a5.1 hv;obtain ⟨x,h2,hv⟩:=a5.1 hv
  split at hv
  ·cases hv
  ·rename_i hx
   obtain ⟨ys,h3,rfl⟩:=a9.1 hv;have h1':=dz (hl.sub fun n hn=>by simp [wb,hn]) h1
   obtain ⟨g1,g2⟩:=Dx (hl.sub fun n hn=>by simp [wb,hn]) h3
   refine ⟨?_,by simp only [fa,h1',h1,g2]⟩
   rw [h1',ae,h2,ae,if_neg hx,g1,db]
theorem aa5 {O:ah} {np:Nat} {e e':Env} {h:Heap} {p:Op} {r:V×Heap} (hl:Le p.temps e e') (he:bh O np e h p=some r):bh O np e' h p=some r∧p.kill e' r.1=p.kill e r.1:=by
 cases p with
 | mv x=>
  simp only [bh] at he ⊢;obtain ⟨v,hv,e1⟩:=a9.1 he;rw [dz hl hv]; exact ⟨e1▸rfl,rfl⟩
 | chk x=>
  simp only [bh] at he ⊢
  split at he
  ·rename_i hx; rw [dz hl hx]; exact ⟨he,rfl⟩
  ·rename_i hx; rw [dz hl hx]; exact ⟨he,rfl⟩
  ·cases he
 | pick c a b=>
  simp only [bh] at he ⊢
  split at he
  ·rename_i t hc
   obtain ⟨v,hv,e1⟩:=a9.1 he;rw [dz (hl.sub fun n hn=>by simp [Op.temps,hn]) hc]
   simp only;have:e'.arg (if t then a else b)=some v:=dz (hl.sub fun n hn=>by cases t <;> simp_all [Op.temps]) hv
   rw [this]; exact ⟨e1▸rfl,rfl⟩
  ·cases he
 | nilOwn i s=>exact ⟨he,rfl⟩
 | box fz i x=>
  simp only [bh] at he ⊢;obtain ⟨v,hv,he⟩:=a5.1 he;rw [dz hl hv]; exact ⟨he,rfl⟩
 | build fz z ps=>
  simp only [bh] at he ⊢;obtain ⟨v,hv,he⟩:=a5.1 he;obtain ⟨g1,g2⟩:=Dx hl hv;rw [g1,g2]; exact ⟨he,rfl⟩
 | buildSl fz i s z n ps=>
  simp only [bh] at he ⊢;obtain ⟨v,hv,he⟩:=a5.1 he;obtain ⟨g1,g2⟩:=Dx hl hv;rw [g1,g2]; exact ⟨he,rfl⟩
 | mkSl i s z bytes x y=>
  simp only [bh] at he ⊢
  split at he
  ·rename_i n m hn hm
   rw [Bg (hl.sub fun n hn=>by simp [Op.temps,hn]) hn,Bg (hl.sub fun n hn=>by simp [Op.temps,hn]) hm]
   exact ⟨he,rfl⟩
  ·cases he
 | load s x=>
  simp only [bh] at he ⊢
  split at he
  ·rename_i hx; rw [dz hl hx]; exact ⟨he,rfl⟩
  ·rename_i hx; rw [dz hl hx]; exact ⟨he,rfl⟩
  ·cases he
 | store fz s x y=>
  simp only [bh] at he ⊢;obtain ⟨v,hv,he⟩:=a5.1 he;obtain ⟨d,hd,he⟩:=a5.1 he;obtain ⟨h1,hf,he⟩:=a5.1 he;rw [dz (hl.sub fun n hn=>by simp [Op.temps,hn]) hv,ae,hd,ae,hf,ae]
  split at he
  ·rename_i hx; rw [dz (hl.sub fun n hn=>by simp [Op.temps,hn]) hx]; exact ⟨he,rfl⟩
  ·cases he
 | bin o x y=>
  simp only [bh] at he ⊢
  split at he
  ·rename_i hx hy
   rw [dz (hl.sub fun n hn=>by simp [Op.temps,hn]) hx,dz (hl.sub fun n hn=>by simp [Op.temps,hn]) hy]
   exact ⟨he,rfl⟩
  ·cases he
 | eqv neg q x y=>
  simp only [bh] at he ⊢
  split at he
  ·rename_i hx hy
   rw [dz (hl.sub fun n hn=>by simp [Op.temps,hn]) hx,dz (hl.sub fun n hn=>by simp [Op.temps,hn]) hy]
   exact ⟨he,rfl⟩
  ·cases he
 | un o x=>
  simp only [bh] at he ⊢
  split at he
  ·rename_i hx; rw [dz hl hx]; exact ⟨he,rfl⟩
  ·cases he
 | conv k x=>
  simp only [bh] at he ⊢
  split at he
  ·rename_i hx; rw [dz hl hx]; exact ⟨he,rfl⟩
  ·cases he
 | cut ar s x lo hi mx=>
  have l1:Le x.temps e e':=hl.sub fun n hn=>by simp [Op.temps,hn]
  have l2:Le (Av lo) e e':=hl.sub fun n hn=>by simp [Op.temps,hn]
  have l3:Le (Av hi) e e':=hl.sub fun n hn=>by simp [Op.temps,hn]
  have l4:Le (Av mx) e e':=hl.sub fun n hn=>by simp [Op.temps,hn]
  cases ar with
  | none=>
   simp only [bh] at he ⊢
   split at he
   ·rename_i hx
    obtain ⟨m,hm,he⟩:=a5.1 he;obtain ⟨b,hb,he⟩:=a5.1 he;obtain ⟨a,ha,he⟩:=a5.1 he;simp only [dz l1 hx,o8 l4 hm,o8 l3 hb,o8 l2 ha,ae];exact ⟨he,rfl⟩
   ·rename_i hx
    obtain ⟨q,hq,he⟩:=a5.1 he;obtain ⟨m,hm,he⟩:=a5.1 he;obtain ⟨b,hb,he⟩:=a5.1 he;obtain ⟨a,ha,he⟩:=a5.1 he;simp only [dz l1 hx,hq,o8 l4 hm,o8 l3 hb,o8 l2 ha,ae];exact ⟨he,rfl⟩
   ·cases he
  | some n=>
   simp only [bh] at he ⊢
   split at he
   ·rename_i hx
    obtain ⟨q,hq,he⟩:=a5.1 he;rw [dz l1 hx];simp only [hq,ae]
    split at he
    ·obtain ⟨m,hm,he⟩:=a5.1 he
     obtain ⟨b,hb,he⟩:=a5.1 he;obtain ⟨a,ha,he⟩:=a5.1 he;simp only [o8 l4 hm,o8 l3 hb,o8 l2 ha,ae];exact ⟨he,rfl⟩
    ·cases he
   ·rename_i hx
    obtain ⟨m,hm,he⟩:=a5.1 he;obtain ⟨b,hb,he⟩:=a5.1 he;obtain ⟨a,ha,he⟩:=a5.1 he;simp only [dz l1 hx,o8 l4 hm,o8 l3 hb,o8 l2 ha,ae];exact ⟨he,rfl⟩
   ·cases he
 | fldA ss x j=>
  simp only [bh] at he ⊢
  split at he
  ·rename_i hx; rw [dz hl hx]; exact ⟨he,rfl⟩
  ·rename_i hx; rw [dz hl hx]; exact ⟨he,rfl⟩
  ·cases he
 | fld ss x j=>
  simp only [bh] at he ⊢
  split at he
  ·rename_i hx; rw [dz hl hx]; exact ⟨he,rfl⟩
  ·cases he
 | idxA ar s x j=>
  have l1:Le x.temps e e':=hl.sub fun n hn=>by simp [Op.temps,hn]
  have l2:Le j.temps e e':=hl.sub fun n hn=>by simp [Op.temps,hn]
  cases ar <;> simp only [bh] at he ⊢ <;> split at he <;> first
   | cases he; done
   | (rename_i hx hj; rw [dz l1 hx,Bg l2 hj]; exact ⟨he,rfl⟩)
 | idx ar s x j=>
  have l1:Le x.temps e e':=hl.sub fun n hn=>by simp [Op.temps,hn]
  have l2:Le j.temps e e':=hl.sub fun n hn=>by simp [Op.temps,hn]
  cases ar <;> simp only [bh] at he ⊢ <;> split at he <;> first
   | cases he; done
   | (rename_i hx hj; rw [dz l1 hx,Bg l2 hj]; exact ⟨he,rfl⟩)
 | ext x j=>
  simp only [bh] at he ⊢
  split at he
  ·rename_i hx; rw [dz hl hx]; exact ⟨he,rfl⟩
  ·rename_i hx; rw [dz hl hx]; exact ⟨he,rfl⟩
  ·cases he
 | mkFn f xs ys=>
  simp only [bh] at he ⊢;obtain ⟨us,hu,he⟩:=a5.1 he;obtain ⟨vs,hv,he⟩:=a9.1 he;rw [Ck (hl.sub fun n hn=>by simp [Op.temps,hn]) hu,Ck (hl.sub fun n hn=>by simp [Op.temps,hn]) hv]
  exact ⟨congrArg some he,rfl⟩
 | len str x=>
  cases str <;> simp only [bh] at he ⊢ <;> split at he <;> first
   | cases he; done
   | (rename_i hx; rw [dz hl hx]; exact ⟨he,rfl⟩)
 | maxI x y=>
  simp only [bh] at he ⊢
  split at he
  ·rename_i hx hy
   rw [dz (hl.sub fun n hn=>by simp [Op.temps,hn]) hx,dz (hl.sub fun n hn=>by simp [Op.temps,hn]) hy]
   exact ⟨he,rfl⟩
  ·cases he
 | minI x y=>
  simp only [bh] at he ⊢
  split at he
  ·rename_i hx hy
   rw [dz (hl.sub fun n hn=>by simp [Op.temps,hn]) hx,dz (hl.sub fun n hn=>by simp [Op.temps,hn]) hy]
   exact ⟨he,rfl⟩
  ·cases he
 | append s i bytes x y=>
  simp only [bh] at he ⊢;obtain ⟨w,hw,he⟩:=a5.1 he;obtain ⟨d,hd,he⟩:=a5.1 he;rw [dz (hl.sub fun n hn=>by simp [Op.temps,hn]) hw,ae,hd,ae]
  split at he
  ·rename_i hx
   have hx':=dz (hl.sub fun n hn=>by simp [Op.temps,hn]) hx
   simp only [hx',Op.kill,hx];exact ⟨he,trivial⟩
  ·rename_i hx
   have hx':=dz (hl.sub fun n hn=>by simp [Op.temps,hn]) hx
   simp only [hx',Op.kill,hx];exact ⟨he,trivial⟩
  ·cases he
 | copy s x y=>
  simp only [bh] at he ⊢;obtain ⟨w,hw,he⟩:=a5.1 he;obtain ⟨d,hd,he⟩:=a5.1 he;rw [dz (hl.sub fun n hn=>by simp [Op.temps,hn]) hw,ae,hd,ae]
  split at he
  ·rename_i hx
   have hx':=dz (hl.sub fun n hn=>by simp [Op.temps,hn]) hx
   simp only [hx'];exact ⟨he,rfl⟩
  ·cases he
 | call m news f xs=>
  simp only [bh] at he ⊢;obtain ⟨w,hw,he⟩:=a5.1 he;obtain ⟨g,hg,he⟩:=a5.1 he;obtain ⟨vs,hv,he⟩:=a5.1 he;rw [dz (hl.sub fun n hn=>by simp [Op.temps,hn]) hw,ae,hg,ae,Ck (hl.sub fun n hn=>by simp [Op.temps,hn]) hv,ae]
  exact ⟨he,rfl⟩
 | nilq neg x=>
  simp only [bh] at he ⊢
  split at he
  ·rename_i hx; rw [dz hl hx]; exact ⟨he,rfl⟩
  ·rename_i hx; rw [dz hl hx]; exact ⟨he,rfl⟩
  ·cases he
 | fail=>simp [bh] at he
mutual
theorem oh {h h2:Heap}:∀(v:V),(∀i∈v.refs,h2[i]? = h[i]?)→toD h2 v=toD h v
 | .d x,_=>by simp [toD]
 | .sl i p off len cap,g=>by simp only [toD]; rw [g i (by simp [V.refs])]
 | .ptr i p,g=>by simp only [toD]; rw [g i (by simp [V.refs])]
 | .fn f first caps,g=>by
  simp only [toD];rw [qz first fun i hi=>g i (by simp [V.refs,hi]),qz caps fun i hi=>g i (by simp [V.refs,hi])]
 | .tup vs,g=>by
  simp only [toD];rw [qz vs fun i hi=>g i (by simpa [V.refs] using hi)]
theorem qz {h h2:Heap}:∀(vs:List V),(∀i∈V.refss vs,h2[i]? = h[i]?)→pq h2 vs=pq h vs
 | [],_=>by simp [pq]
 | v::vs,g=>by
  simp only [pq];rw [oh v fun i hi=>g i (by simp [V.refss,hi]),qz vs fun i hi=>g i (by simp [V.refss,hi])]
end
inductive Cls where
 | z | r | a | s | w | x
 deriving DecidableEq
def Op.cls:Op→Cls
 | .mv _ | .chk _ | .pick _ _ _ | .bin _ _ _ | .eqv _ _ _ _ | .un _ _ | .conv _ _ | .fld _ _ _ | .idx _ _ _ _ | .ext _ _ | .mkFn _ _ _ | .len _ _ | .maxI _ _ | .minI _ _ | .nilq _ _ | .fail=>.z
 | .load _ _ | .cut _ _ _ _ _ _ | .fldA _ _ _ | .idxA _ _ _ _ | .build false _ _ | .call .flat _ _ _ | .call .plain _ _ _=>.r
 | .nilOwn _ _ | .box false _ _ | .buildSl false _ _ _ _ _ | .mkSl _ _ _ _ _ _=>.a
 | .store false _ _ _=>.s
 | .store true _ _ _ | .box true _ _ | .build true _ _ | .buildSl true _ _ _ _ _ | .copy _ _ _ | .call .data _ _ _ | .call .heap _ _ _ | .append _ _ _ _ _=>.w
theorem wk {e:Env} {ns:List Nat} {n i:Nat} {v:V} (hn:n∈ns) (hv:e.get n=some v) (hi:i∈v.refs):i∈e.refsOf ns:=by
 induction ns with
 | nil=>simp at hn
 | cons m ns ih=>
  simp only [Env.refsOf,bp];rcases dk.1 hn with rfl | hn
  ·left; simp [hv,hi]
  ·exact .inr (ih hn)
theorem Ed {e:Env} {ns:List Nat} {i:Nat} (h:i∈e.refsOf ns):∃n∈ns,∃v,e.get n=some v∧i∈v.refs:=by
 induction ns with
 | nil=>simp [Env.refsOf] at h
 | cons m ns ih=>
  simp only [Env.refsOf,bp] at h;rcases h with h | h
  ·split at h
   ·rename_i v hv; exact ⟨m,by simp,v,hv,h⟩
   ·simp at h
  ·obtain ⟨n,hn,q⟩:=ih h
   exact ⟨n,by simp [hn],q⟩
theorem X5 {e:Env} {ns ms:List Nat} (hs:∀n∈ns,n∈ms) {i:Nat} (h:i∈e.refsOf ns):i∈e.refsOf ms:=by
 obtain ⟨n,hn,v,hv,hi⟩:=Ed h;exact wk (hs n hn) hv hi
theorem i5 {e:Env} {x:Arg} {v:V} (hv:e.arg x=some v) {i:Nat} (hi:i∈v.refs):i∈e.refsOf x.temps:=by
 cases x with
 | t n=>exact wk (by simp [Arg.temps]) hv hi
 | c d=>simp only [Env.arg,a8] at hv; subst hv; simp [V.refs] at hi
 | f f=>simp only [Env.arg,a8] at hv; subst hv; simp [V.refs] at hi
theorem f6 (e:Env) (ns ms:List Nat):e.refsOf (ns++ms)=e.refsOf ns++e.refsOf ms:=by
 induction ns with
 | nil=>rfl
 | cons n ns ih=>simp [Env.refsOf,ih,gw]
theorem vi {e:Env}:∀{xs:List Arg} {vs:List V},e.args xs=some vs→∀{i:Nat},i∈V.refss vs→i∈e.refsOf (xv xs)
 | [],vs,hv,i,hi=>by simp only [Env.args,a8] at hv; subst hv; simp [V.refss] at hi
 | x::xs,vs,hv,i,hi=>by
  simp only [Env.args] at hv;obtain ⟨v,h1,hv⟩:=a5.1 hv;obtain ⟨r,h2,rfl⟩:=a9.1 hv;simp only [V.refss,bp] at hi;simp only [xv,f6,bp];rcases hi with hi | hi
  ·exact .inl (i5 h1 hi)
  ·exact .inr (vi h2 hi)
theorem ub {e:Env} {h h2:Heap}:∀{ps:List (Nat×Arg)},(∀i∈e.refsOf (wb ps),h2[i]? = h[i]?)→jr e h2 ps=jr e h ps
 | [],_=>rfl
 | (i,a)::r,g=>by
  simp only [jr];cases ha:e.arg a with
  | none=>rfl
  | some v=>
   simp only [ae];rw [oh v fun j hj=>g j (by simp only [wb,f6,bp]; exact .inl (i5 ha hj)),ub fun j hj=>g j (by simp only [wb,f6,bp]; exact .inr hj)]
end Pe

namespace Pe
open Go
theorem On:∀{vs:List V} {j:Nat} {v:V},vs[j]? = some v→∀i∈v.refs,i∈V.refss vs
 | [],j,v,h,i,_=>by simp at h
 | w::vs,0,v,h,i,hi=>by simp at h; subst h; simp [V.refss,hi]
 | w::vs,j+1,v,h,i,hi=>by
  simp only [V.refss,bp];exact .inr (On (by simpa using h) i hi)
theorem ahz {O:ah} {np:Nat} {e:Env} {h h':Heap} {p:Op} {v:V} (hc:p.cls=.z) (he:bh O np e h p=some (v,h')) :
 h'=h∧(∀h2,bh O np e h2 p=some (v,h2))∧∀i∈v.refs,i∈e.refsOf p.temps:=by
 cases p with
 | mv x=>
  simp only [bh] at he ⊢;obtain ⟨u,hu,e1⟩:=a9.1 he;simp only [ak] at e1;obtain ⟨rfl,rfl⟩:=e1;exact ⟨rfl,fun h2=>by rw [hu]; rfl,fun i hi=>i5 hu hi⟩
 | chk x=>
  simp only [bh] at he ⊢
  split at he
  ·rename_i hx
   simp only [a8,ak] at he;obtain ⟨rfl,rfl⟩:=he;exact ⟨rfl,fun h2=>rfl,fun i hi=>i5 hx hi⟩
  ·rename_i hx
   simp only [a8,ak] at he;obtain ⟨rfl,rfl⟩:=he;exact ⟨rfl,fun h2=>rfl,fun i hi=>i5 hx hi⟩
  ·cases he
 | pick c a b=>
  simp only [bh] at he ⊢
  split at he
  ·rename_i t hc
   obtain ⟨u,hu,e1⟩:=a9.1 he;simp only [ak] at e1;obtain ⟨rfl,rfl⟩:=e1;refine ⟨rfl,fun h2=>by rw [hu]; rfl,fun i hi=>?_⟩
   simp only [Op.temps,f6,bp];cases t
   ·exact .inr (i5 hu hi)
   ·exact .inl (.inr (i5 hu hi))
  ·cases he
 | bin o x y=>
  simp only [bh] at he ⊢
  split at he
  ·rename_i hx hy
   obtain ⟨u,hu,e1⟩:=a9.1 he;simp only [ak] at e1;obtain ⟨rfl,rfl⟩:=e1;exact ⟨rfl,fun h2=>by rw [hu]; rfl,fun i hi=>by simp [V.refs] at hi⟩
  ·cases he
 | eqv neg q x y=>
  simp only [bh] at he ⊢
  split at he
  ·rename_i hx hy
   obtain ⟨u,hu,e1⟩:=a9.1 he;simp only [ak] at e1;obtain ⟨rfl,rfl⟩:=e1;exact ⟨rfl,fun h2=>by rw [hu]; rfl,fun i hi=>by simp [V.refs] at hi⟩
  ·cases he
 | un o x=>
  simp only [bh] at he ⊢
  split at he
  ·obtain ⟨u,hu,e1⟩:=a9.1 he
   simp only [ak] at e1;obtain ⟨rfl,rfl⟩:=e1;exact ⟨rfl,fun h2=>by rw [hu]; rfl,fun i hi=>by simp [V.refs] at hi⟩
  ·cases he
 | conv k x=>
  simp only [bh] at he ⊢
  split at he
  ·simp only [a8,ak] at he
   obtain ⟨rfl,rfl⟩:=he;exact ⟨rfl,fun h2=>rfl,fun i hi=>by simp [V.refs] at hi⟩
  ·cases he
 | fld ss x j=>
  simp only [bh] at he ⊢
  split at he
  ·split at he
   ·rename_i hs
    obtain ⟨u,hu,e1⟩:=a9.1 he;simp only [ak] at e1;obtain ⟨rfl,rfl⟩:=e1;exact ⟨rfl,fun h2=>by rw [if_pos hs,hu]; rfl,fun i hi=>by simp [V.refs] at hi⟩
   ·cases he
  ·cases he
 | idx ar s x j=>
  cases ar with
  | none=>
   simp only [bh] at he ⊢
   split at he
   ·obtain ⟨u,hu,e1⟩:=a9.1 he
    simp only [ak] at e1;obtain ⟨rfl,rfl⟩:=e1;exact ⟨rfl,fun h2=>by rw [hu]; rfl,fun i hi=>by simp [V.refs] at hi⟩
   ·cases he
  | some n=>
   simp only [bh] at he ⊢
   split at he
   ·split at he
    ·rename_i hs
     obtain ⟨u,hu,e1⟩:=a9.1 he;simp only [ak] at e1;obtain ⟨rfl,rfl⟩:=e1;exact ⟨rfl,fun h2=>by rw [if_pos hs,hu]; rfl,fun i hi=>by simp [V.refs] at hi⟩
    ·cases he
   ·cases he
 | ext x j=>
  simp only [bh] at he ⊢
  split at he
  ·obtain ⟨u,hu,e1⟩:=a9.1 he
   simp only [ak] at e1;obtain ⟨rfl,rfl⟩:=e1;exact ⟨rfl,fun h2=>by rw [hu]; rfl,fun i hi=>by simp [V.refs] at hi⟩
  ·rename_i vs hx
   obtain ⟨u,hu,e1⟩:=a9.1 he;simp only [ak] at e1;obtain ⟨rfl,rfl⟩:=e1;exact ⟨rfl,fun h2=>by rw [hu]; rfl,fun i hi=>i5 hx (by simpa [V.refs] using On hu i hi)⟩
  ·cases he
 | mkFn f xs ys=>
  simp only [bh] at he ⊢;obtain ⟨us,hu,he⟩:=a5.1 he;obtain ⟨vs,hv,e1⟩:=a9.1 he;simp only [ak] at e1;obtain ⟨rfl,rfl⟩:=e1;refine ⟨rfl,fun h2=>by rw [hu,ae,hv]; rfl,fun i hi=>?_⟩
  simp only [V.refs,bp] at hi;simp only [Op.temps,f6,bp];exact hi.imp (vi hu) (vi hv)
 | len str x=>
  cases str <;> simp only [bh] at he ⊢ <;> split at he <;> first
   | cases he; done
   | (simp only [a8,ak] at he
      obtain ⟨rfl,rfl⟩:=he;exact ⟨rfl,fun h2=>rfl,fun i hi=>by simp [V.refs] at hi⟩)
 | maxI x y=>
  simp only [bh] at he ⊢
  split at he
  ·split at he
   ·rename_i hk
    simp only [a8,ak] at he;obtain ⟨rfl,rfl⟩:=he;exact ⟨rfl,fun h2=>by rw [if_pos hk],fun i hi=>by simp [V.refs] at hi⟩
   ·cases he
  ·cases he
 | minI x y=>
  simp only [bh] at he ⊢
  split at he
  ·split at he
   ·rename_i hk
    simp only [a8,ak] at he;obtain ⟨rfl,rfl⟩:=he;exact ⟨rfl,fun h2=>by rw [if_pos hk],fun i hi=>by simp [V.refs] at hi⟩
   ·cases he
  ·cases he
 | nilq neg x=>
  simp only [bh] at he ⊢
  split at he
  ·simp only [a8,ak] at he
   obtain ⟨rfl,rfl⟩:=he;exact ⟨rfl,fun h2=>rfl,fun i hi=>by simp [V.refs] at hi⟩
  ·simp only [a8,ak] at he
   obtain ⟨rfl,rfl⟩:=he;exact ⟨rfl,fun h2=>rfl,fun i hi=>by simp [V.refs] at hi⟩
  ·cases he
 | fail=>simp [bh] at he
 | call m news f xs=>cases m <;> simp [Op.cls] at hc
 | box fz i x=>cases fz <;> simp [Op.cls] at hc
 | build fz z ps=>cases fz <;> simp [Op.cls] at hc
 | buildSl fz i s z n ps=>cases fz <;> simp [Op.cls] at hc
 | store fz s x y=>cases fz <;> simp [Op.cls] at hc
 | nilOwn _ _=>simp [Op.cls] at hc
 | mkSl _ _ _ _ _ _=>simp [Op.cls] at hc
 | load _ _=>simp [Op.cls] at hc
 | cut _ _ _ _ _ _=>simp [Op.cls] at hc
 | fldA _ _ _=>simp [Op.cls] at hc
 | idxA _ _ _ _=>simp [Op.cls] at hc
 | append _ _ _ _ _=>simp [Op.cls] at hc
 | copy _ _ _=>simp [Op.cls] at hc
theorem rz {e:Env} {f:Arg} {fv:V} {g:Nat×List V×List V} (hf:e.arg f=some fv) (hg:callee fv=some g):∀i,i∈V.refss g.2.1∨i∈V.refss g.2.2→i∈e.refsOf f.temps:=by
 have hd:∀ds:List D,V.refss (ds.map .d)=[]:=by
  intro ds
  induction ds with
  | nil=>simp [V.refss]
  | cons d ds ih=>simp [V.refss,V.refs,ih]
 intro i hi;unfold callee at hg
 split at hg
 ·simp only [a8] at hg
  subst hg;simp only [hd] at hi;simp at hi
 ·simp only [a8] at hg
  subst hg;exact i5 hf (by simpa [V.refs] using hi)
 ·cases hg
theorem A2 (vs ws:List V):V.refss (vs++ws)=V.refss vs++V.refss ws:=by
 induction vs with
 | nil=>simp [V.refss]
 | cons v vs ih=>simp [V.refss,ih,gw]
theorem age {O:ah} {np:Nat} {e:Env} {h h':Heap} {p:Op} {v:V} (hc:p.cls=.r) (he:bh O np e h p=some (v,h')) :
 h'=h∧(∀h2,(∀i∈e.refsOf p.temps,h2[i]? = h[i]?)→bh O np e h2 p=some (v,h2))∧∀i∈v.refs,i∈e.refsOf p.temps:=by
 have one:∀{x:Arg} {u:V} {i:Nat} {ts:List Nat},e.arg x=some u→i∈u.refs→(∀n∈x.temps,n∈ts)→i∈e.refsOf ts:=fun hu hi hs=>X5 hs (i5 hu hi)
 cases p with
 | load s x=>
  simp only [bh] at he ⊢
  split at he
  ·split at he
   ·rename_i hs
    simp only [a8,ak] at he;obtain ⟨rfl,rfl⟩:=he;exact ⟨rfl,fun h2 _=>by rw [if_pos hs],fun i hi=>by simp [V.refs] at hi⟩
   ·cases he
  ·rename_i i p hx
   obtain ⟨d,hd,he⟩:=a5.1 he
   split at he
   ·rename_i hs
    simp only [a8,ak] at he;obtain ⟨rfl,rfl⟩:=he;exact ⟨rfl,fun h2 g=>by rw [g i (one hx (by simp [V.refs]) (fun n hn=>hn)),hd,ae,if_pos hs],fun i hi=>by simp [V.refs] at hi⟩
   ·cases he
  ·cases he
 | cut ar s x lo hi mx=>
  have hxs:∀n∈x.temps,n∈(Op.cut ar s x lo hi mx).temps:=fun n hn=>by simp [Op.temps,hn]
  cases ar with
  | none=>
   simp only [bh] at he ⊢
   split at he
   ·obtain ⟨m,hm,he⟩:=a5.1 he
    obtain ⟨b,hb,he⟩:=a5.1 he;obtain ⟨a,ha,he⟩:=a5.1 he
    split at he
    ·rename_i hcc
     simp only [a8,ak] at he;obtain ⟨rfl,rfl⟩:=he;exact ⟨rfl,fun h2 _=>by simp only [hm,hb,ha,ae]; rw [if_pos hcc],fun i hi=>by simp [V.refs] at hi⟩
    ·cases he
   ·rename_i i p off n cap hx
    obtain ⟨q,hq,he⟩:=a5.1 he;obtain ⟨m,hm,he⟩:=a5.1 he;obtain ⟨b,hb,he⟩:=a5.1 he;obtain ⟨a,ha,he⟩:=a5.1 he
    split at he
    ·rename_i hcc
     simp only [a8,ak] at he;obtain ⟨rfl,rfl⟩:=he;have hii:=one hx (i:=i) (by simp [V.refs]) hxs
     exact ⟨rfl,fun h2 g=>by simp only [g i hii,hq,hm,hb,ha,ae]; rw [if_pos hcc],fun j hj=>by simp only [V.refs,cl] at hj; subst hj; exact hii⟩
    ·cases he
   ·cases he
  | some n=>
   simp only [bh] at he ⊢
   split at he
   ·rename_i i p hx
    obtain ⟨q,hq,he⟩:=a5.1 he
    split at he
    ·obtain ⟨m,hm,he⟩:=a5.1 he
     obtain ⟨b,hb,he⟩:=a5.1 he;obtain ⟨a,ha,he⟩:=a5.1 he
     split at he
     ·rename_i hcc
      simp only [a8,ak] at he;obtain ⟨rfl,rfl⟩:=he;have hii:=one hx (i:=i) (by simp [V.refs]) hxs
      exact ⟨rfl,fun h2 g=>by simp only [g i hii,hq,hm,hb,ha,ae]; rw [if_pos hcc],fun j hj=>by simp only [V.refs,cl] at hj; subst hj; exact hii⟩
     ·cases he
    ·cases he
   ·obtain ⟨m,hm,he⟩:=a5.1 he
    obtain ⟨b,hb,he⟩:=a5.1 he;obtain ⟨a,ha,he⟩:=a5.1 he
    split at he
    ·rename_i hcc
     simp only [a8,ak] at he;obtain ⟨rfl,rfl⟩:=he;exact ⟨rfl,fun h2 _=>by simp only [hm,hb,ha,ae]; rw [if_pos hcc],fun i hi=>by simp [V.refs] at hi⟩
    ·cases he
   ·cases he
 | fldA ss x j=>
  simp only [bh] at he ⊢
  split at he
  ·rename_i i p hx
   obtain ⟨d,hd,he⟩:=a5.1 he;have hii:=one hx (i:=i) (ts:=x.temps) (by simp [V.refs]) (fun n hn=>hn)
   split at he
   ·rename_i hs
    simp only [a8,ak] at he;obtain ⟨rfl,rfl⟩:=he;exact ⟨rfl,fun h2 g=>by rw [g i hii,hd,ae,if_pos hs],fun j hj=>by simp only [V.refs,cl] at hj; subst hj; exact hii⟩
   ·cases he
  ·split at he
   ·rename_i hs
    obtain ⟨u,hu,e1⟩:=a9.1 he;simp only [ak] at e1;obtain ⟨rfl,rfl⟩:=e1;exact ⟨rfl,fun h2 _=>by rw [if_pos hs,hu]; rfl,fun i hi=>by simp [V.refs] at hi⟩
   ·cases he
  ·cases he
 | idxA ar s x j=>
  have hxs:∀n∈x.temps,n∈(Op.idxA ar s x j).temps:=fun n hn=>by simp [Op.temps,hn]
  cases ar with
  | none=>
   simp only [bh] at he ⊢
   split at he
   ·rename_i i p off n cap k hx hk
    obtain ⟨d,hd,he⟩:=a5.1 he;have hii:=one hx (i:=i) (by simp [V.refs]) hxs
    split at he
    ·rename_i hs
     simp only [a8,ak] at he;obtain ⟨rfl,rfl⟩:=he;exact ⟨rfl,fun h2 g=>by rw [g i hii,hd,ae,if_pos hs],fun j hj=>by simp only [V.refs,cl] at hj; subst hj; exact hii⟩
    ·cases he
   ·split at he
    ·rename_i hs
     obtain ⟨u,hu,e1⟩:=a9.1 he;simp only [ak] at e1;obtain ⟨rfl,rfl⟩:=e1;exact ⟨rfl,fun h2 _=>by rw [if_pos hs,hu]; rfl,fun i hi=>by simp [V.refs] at hi⟩
    ·cases he
   ·cases he
  | some n=>
   simp only [bh] at he ⊢
   split at he
   ·rename_i i p k hx hk
    obtain ⟨d,hd,he⟩:=a5.1 he;have hii:=one hx (i:=i) (by simp [V.refs]) hxs
    split at he
    ·split at he
     ·rename_i hs
      simp only [a8,ak] at he;obtain ⟨rfl,rfl⟩:=he;exact ⟨rfl,fun h2 g=>by rw [g i hii,hd]; simp only [ae]; rw [if_pos hs],fun j hj=>by simp only [V.refs,cl] at hj; subst hj; exact hii⟩
     ·cases he
    ·cases he
   ·split at he
    ·rename_i hs
     obtain ⟨u,hu,e1⟩:=a9.1 he;simp only [ak] at e1;obtain ⟨rfl,rfl⟩:=e1;exact ⟨rfl,fun h2 _=>by rw [if_pos hs,hu]; rfl,fun i hi=>by simp [V.refs] at hi⟩
    ·cases he
   ·cases he
 | build fz z ps=>
  cases fz with
  | true=>simp [Op.cls] at hc
  | false=>
   simp only [bh] at he ⊢;obtain ⟨xs,hx,he⟩:=a5.1 he;obtain ⟨h1,hf,he'⟩:=a5.1 he;clear he
   have hh:∀h2,freezeIf false h2 (fa e ps)=some h2:=by
    intro h2;unfold freezeIf at hf ⊢;simp only [b9,if_false] at hf ⊢
    split at hf
    ·rename_i hr; rw [if_pos hr]
    ·cases hf
   have heq:h1=h:=bc (hf.symm.trans (hh h));rw [heq] at he'
   split at he'
   ·obtain ⟨cs,hcs,e1⟩:=a9.1 he'
    simp only [ak] at e1;obtain ⟨rfl,rfl⟩:=e1;exact ⟨rfl,fun h2 g=>by rw [ub g,hx,ae,hh h2,ae]; simp only [hcs,db],fun i hi=>by simp [V.refs] at hi⟩
   ·obtain ⟨cs,hcs,e1⟩:=a9.1 he'
    simp only [ak] at e1;obtain ⟨rfl,rfl⟩:=e1;exact ⟨rfl,fun h2 g=>by rw [ub g,hx,ae,hh h2,ae]; simp only [hcs,db],fun i hi=>by simp [V.refs] at hi⟩
   ·cases he'
 | call m news f xs=>
  simp only [bh] at he ⊢;obtain ⟨fv,hf,he⟩:=a5.1 he;obtain ⟨g,hg,he⟩:=a5.1 he;obtain ⟨vs,hv,he⟩:=a5.1 he
  have hr:∀i∈V.refss (g.2.1++vs++g.2.2),i∈e.refsOf (Op.call m news f xs).temps:=by
   intro i hi;simp only [A2,bp] at hi;simp only [Op.temps,f6,bp];rcases hi with (hi | hi) | hi
   ·exact .inl (rz hf hg i (.inl hi))
   ·exact .inr (vi hv hi)
   ·exact .inl (rz hf hg i (.inr hi))
  cases m with
  | flat=>
   simp only [jj] at he ⊢;obtain ⟨ds,hds,he⟩:=a5.1 he;obtain ⟨ans,hans,he⟩:=a5.1 he;obtain ⟨x,hx,he⟩:=a5.1 he
   split at he
   ·rename_i hfl
    simp only [a8,ak] at he;obtain ⟨rfl,rfl⟩:=he;refine ⟨rfl,fun h2 gg=>?_,fun i hi=>by simp [V.refs] at hi⟩
    simp only [hf,hg,hv,ae];rw [qz _ fun i hi=>gg i (hr i hi),hds,ae,hans,ae,hx,ae,if_pos hfl]
   ·cases he
  | plain=>
   simp only [jj] at he ⊢;obtain ⟨ds,hds,he⟩:=a5.1 he;obtain ⟨ans,hans,he⟩:=a5.1 he;obtain ⟨x,hx,he⟩:=a5.1 he
   split at he
   ·rename_i hfl
    simp only [a8,ak] at he;obtain ⟨rfl,rfl⟩:=he;refine ⟨rfl,fun h2 gg=>?_,fun i hi=>by simp [V.refs] at hi⟩
    simp only [hf,hg,hv,ae];rw [qz _ fun i hi=>gg i (hr i hi),hds,ae,hans,ae,hx,ae,if_pos hfl]
   ·cases he
  | data=>simp [Op.cls] at hc
  | heap=>simp [Op.cls] at hc
 | box fz i x=>cases fz <;> simp [Op.cls] at hc
 | buildSl fz i s z n ps=>cases fz <;> simp [Op.cls] at hc
 | store fz s x y=>cases fz <;> simp [Op.cls] at hc
 | _=>simp [Op.cls] at hc
end Pe

namespace Pe
open Go
theorem sn {h h1:Heap} {is:List Nat} (hf:freezeIf false h is=some h1):is=[]∧h1=h:=by
 unfold freezeIf at hf;simp only [b9,if_false] at hf
 split at hf
 ·rename_i he
  exact ⟨by simpa using he,(bc hf).symm⟩
 ·cases hf
theorem xx {e:Env}:∀{ps:List (Nat×Arg)} {i:Nat},i∈fa e ps→i∈e.refsOf (wb ps)
 | [],i,h=>by simp [fa] at h
 | (k,a)::r,i,h=>by
  simp only [fa,bp] at h;simp only [wb,f6,bp];refine h.imp (fun h=>?_) xx
  split at h
  ·rename_i v hv; exact i5 hv h
  ·simp at h
theorem Qc {e:Env} {h h2:Heap}:∀{ps:List (Nat×Arg)},fa e ps=[]→jr e h2 ps=jr e h ps
 | [],_=>rfl
 | (k,a)::r,g=>by
  simp only [fa,List.append_eq_nil_iff] at g;simp only [jr];cases ha:e.arg a with
  | none=>rfl
  | some v=>
   have hv:v.refs=[]:=by simpa [ha] using g.1
   simp only [ae];rw [oh v (h:=h) (h2:=h2) (by simp [hv]),Qc g.2]
theorem ahw {O:ah} {np:Nat} {e:Env} {h h':Heap} {p:Op} {v:V} (hc:p.cls=.a) (he:bh O np e h p=some (v,h')) :
 ∃j b,p.news=[j]∧h[np+j]? = some .hole∧b≠Blk.hole∧h'=h.set (np+j) b∧(∀h2:Heap,h2[np+j]? = some .hole→bh O np e h2 p=some (v,h2.set (np+j) b))∧∀i∈v.refs,i=np+j:=by
 have put:∀{h2:Heap} {i:Nat} {b:Blk},h2[i]? = some .hole→ix h2 i b=some (h2.set i b):=fun hh=>by simp [ix,hh]
 cases p with
 | nilOwn i s=>
  simp only [bh] at he ⊢;obtain ⟨h1,hp,e1⟩:=a9.1 he;simp only [ak] at e1;obtain ⟨rfl,rfl⟩:=e1;obtain ⟨hi,rfl⟩:=ek hp;exact ⟨i,_,rfl,hi,by simp,rfl,fun h2 hh=>by rw [put hh]; rfl,fun j hj=>by simpa [V.refs] using hj⟩
 | mkSl i s z bytes x y=>
  simp only [bh] at he ⊢
  split at he
  ·split at he
   ·rename_i hcc
    obtain ⟨h1,hp,e1⟩:=a9.1 he;simp only [ak] at e1;obtain ⟨rfl,rfl⟩:=e1;obtain ⟨hi,rfl⟩:=ek hp;exact ⟨i,_,rfl,hi,by simp,rfl,fun h2 hh=>by rw [if_pos hcc,put hh]; rfl,fun j hj=>by simpa [V.refs] using hj⟩
   ·cases he
  ·cases he
 | box fz i x=>
  cases fz with
  | true=>simp [Op.cls] at hc
  | false=>
   simp only [bh] at he ⊢;obtain ⟨u,hu,he1⟩:=a5.1 he;obtain ⟨d,hd,he2⟩:=a5.1 he1;obtain ⟨h1,hf,he3⟩:=a5.1 he2;obtain ⟨h2,hp,e1⟩:=a9.1 he3;clear he he1 he2 he3;simp only [ak] at e1;obtain ⟨rfl,rfl⟩:=e1;obtain ⟨hr,rfl⟩:=sn hf;obtain ⟨hi,rfl⟩:=ek hp;refine ⟨i,_,rfl,hi,by simp,rfl,fun h2 hh=>?_,fun j hj=>by simpa [V.refs] using hj⟩
   have:Bs h2 u=some d:=by
    unfold Bs at hd ⊢;rw [oh u (h:=h1) (h2:=h2) (by simp [hr])]; exact hd
   rw [hu,ae,this,ae,hr];simp only [freezeIf,b9,if_false,List.isEmpty_nil,if_true,ae];rw [put hh]; rfl
 | buildSl fz i s z n ps=>
  cases fz with
  | true=>simp [Op.cls] at hc
  | false=>
   simp only [bh] at he ⊢;obtain ⟨xs,hx,he1⟩:=a5.1 he;obtain ⟨cs,hcs,he2⟩:=a5.1 he1;obtain ⟨h1,hf,he3⟩:=a5.1 he2;obtain ⟨h2,hp,e1⟩:=a9.1 he3;clear he he1 he2 he3;simp only [ak] at e1;obtain ⟨rfl,rfl⟩:=e1;obtain ⟨hr,rfl⟩:=sn hf;obtain ⟨hi,rfl⟩:=ek hp;refine ⟨i,_,rfl,hi,by simp,rfl,fun h2 hh=>?_,fun j hj=>by simpa [V.refs] using hj⟩
   rw [Qc (h:=h1) (h2:=h2) hr,hx,ae,hcs,ae,hr];simp only [freezeIf,b9,if_false,List.isEmpty_nil,if_true,ae];rw [put hh]; rfl
 | build fz _ _=>cases fz <;> simp [Op.cls] at hc
 | store fz _ _ _=>cases fz <;> simp [Op.cls] at hc
 | call m _ _ _=>cases m <;> simp [Op.cls] at hc
 | _=>simp [Op.cls] at hc
theorem Blk.set_nh {b b':Blk} {p:List Nat} {d:D} (h:b.set p d=some b'):b'≠.hole:=by
 cases b with
 | hole=>simp [Blk.set] at h
 | box fr x=>
  cases fr
  ·simp only [Blk.set] at h
   obtain ⟨y,_,rfl⟩:=a9.1 h;simp
  ·simp [Blk.set] at h
 | sl fr s cs=>
  cases fr
  ·cases p with
   | nil=>simp [Blk.set] at h
   | cons i p=>
    simp only [Blk.set] at h;obtain ⟨c,_,h⟩:=a5.1 h;obtain ⟨y,_,rfl⟩:=a9.1 h;simp
  ·cases p <;> simp [Blk.set] at h
theorem ah0 {O:ah} {np:Nat} {e:Env} {h h':Heap} {p:Op} {v:V} (hc:p.cls=.s) (he:bh O np e h p=some (v,h')) :
 ∃i b,i∈e.refsOf p.temps∧b≠Blk.hole∧h'=h.set i b∧(∀h2:Heap,(∀i∈e.refsOf p.temps,h2[i]? = h[i]?)→bh O np e h2 p=some (v,h2.set i b))∧v.refs=[]:=by
 cases p with
 | store fz s x y=>
  cases fz with
  | true=>simp [Op.cls] at hc
  | false=>
   simp only [bh] at he ⊢;obtain ⟨u,hu,he1⟩:=a5.1 he;obtain ⟨d,hd,he2⟩:=a5.1 he1;obtain ⟨h1,hf,he3⟩:=a5.1 he2;clear he he1 he2;obtain ⟨hr,rfl⟩:=sn hf
   split at he3
   ·rename_i i p hp
    split at he3
    ·rename_i hs
     obtain ⟨b,hb,he4⟩:=a5.1 he3;obtain ⟨b',hb',e1⟩:=a9.1 he4;simp only [ak] at e1;obtain ⟨rfl,rfl⟩:=e1
     have hi:i∈e.refsOf (Op.store false s x y).temps:=by
      simp only [Op.temps,f6,bp];exact .inl (i5 hp (by simp [V.refs]))
     refine ⟨i,b',hi,Blk.set_nh hb',rfl,fun h2 g=>?_,by simp [V.refs,V.refss]⟩
     have hd2:Bs h2 u=some d:=by
      unfold Bs at hd ⊢;rw [oh u (h:=h1) (h2:=h2) (by simp [hr])]; exact hd
     rw [hu,ae,hd2,ae,hr];simp only [freezeIf,b9,if_false,List.isEmpty_nil,if_true,ae];rw [g i hi,hb,ae,hb',if_pos hs]; rfl
    ·cases he3
   ·cases he3
 | box fz _ _=>cases fz <;> simp [Op.cls] at hc
 | buildSl fz _ _ _ _ _=>cases fz <;> simp [Op.cls] at hc
 | build fz _ _=>cases fz <;> simp [Op.cls] at hc
 | call m _ _ _=>cases m <;> simp [Op.cls] at hc
 | _=>simp [Op.cls] at hc
def Laid (h:Heap) (i:Nat):Prop:=∃B:Blk,h[i]? = some B∧B≠.hole
theorem Laid.set {h:Heap} {i j:Nat} {b:Blk} (hb:b≠.hole) (g:Laid h i):Laid (h.set j b) i:=by
 obtain ⟨B,hB,hn⟩:=g
 by_cases hij:j=i
 ·subst hij
  exact ⟨b,c9 (bg.1 hB).1,hb⟩
 ·exact ⟨B,by rw [ce hij]; exact hB,hn⟩
theorem Laid.new {h:Heap} {j:Nat} {b:Blk} (hb:b≠.hole) (g:h[j]? = some .hole):Laid (h.set j b) j:=
 ⟨b,c9 (bg.1 g).1,hb⟩
theorem Laid.freeze {h:Heap} {i:Nat} (is:List Nat) (g:Laid h i):Laid (freeze h is) i:=by
 obtain ⟨B,hB,hn⟩:=g
 by_cases hi:i∈is
 ·exact ⟨B.freeze,by rw [jv,if_pos hi,hB]; rfl,fun e=>hn (Blk.freeze_hole e)⟩
 ·exact ⟨B,by rw [jv,if_neg hi]; exact hB,hn⟩
theorem Laid.freezeIf {h h1:Heap} {i:Nat} {fz:Bool} {is:List Nat} (hf:freezeIf fz h is=some h1) (g:Laid h i):Laid h1 i:=by
 cases fz with
 | false=>rw [(sn hf).2]; exact g
 | true=>
  simp only [Pe.freezeIf,if_true,a8] at hf;subst hf; exact g.freeze is
theorem M0:∀{is:List Nat} {bs:Heap} {h h':Heap},h.put is bs=some h'→∀i,Laid h i→Laid h' i
 | [],[],h,h',e,i,g=>by simp only [Heap.put,a8] at e; subst e; exact g
 | j::is,b::bs,h,h',e,i,g=>by
  simp only [Heap.put] at e
  split at e
  ·cases e
  ·rename_i hb
   exact M0 e i (g.set (by rintro rfl; simp [Blk.isHole] at hb))
 | [],_::_,_,_,e,_,_=>by simp [Heap.put] at e
 | _::_,[],_,_,e,_,_=>by simp [Heap.put] at e
theorem zo:∀{is:List Nat} {bs:Heap} {h h':Heap},putNews h is bs=some h'→bs.length≤is.length∧(∀i,Laid h i→Laid h' i)∧∀(k j:Nat),k<bs.length→is[k]? = some j→Laid h' j
 | is,[],h,h',e=>by
  cases is <;> simp only [putNews,a8] at e <;> subst e <;> exact ⟨by simp,fun _ g=>g,fun k j hk=>by simp at hk⟩
 | j::is,b::bs,h,h',e=>by
  simp only [putNews] at e
  split at e
  ·cases e
  ·rename_i hb
   have hb':b≠.hole:=by rintro rfl; simp [Blk.isHole] at hb
   obtain ⟨h0,e0,e⟩:=a5.1 e;obtain ⟨hj,rfl⟩:=ek e0;obtain ⟨h1,h2,h3⟩:=zo e;refine ⟨by simpa using h1,fun i g=>h2 i (g.set hb'),fun k i hk hi=>?_⟩
   cases k with
   | zero=>
    simp only [gn,a8] at hi;subst hi;exact h2 _ (.new hb' hj)
   | succ k=>exact h3 k i (by simpa using hk) (by simpa using hi)
 | [],_::_,_,_,e=>by simp [putNews] at e
theorem Qh {O:ah} {np:Nat} {e:Env} {h h':Heap} {p:Op} {v:V} (hc:p.cls=.x∨p.cls=.w) (he:bh O np e h p=some (v,h')) (hp:∀i∈e.refsOf p.temps,Laid h i) :
 (∀i,Laid h i→Laid h' i)∧∀i∈v.refs,Laid h' i:=by
 cases p with
 | box fz i x=>
  simp only [bh] at he;obtain ⟨u,hu,he⟩:=a5.1 he;obtain ⟨d,hd,he⟩:=a5.1 he;obtain ⟨h1,hf,he⟩:=a5.1 he;obtain ⟨h2,hpb,e1⟩:=a9.1 he;simp only [ak] at e1;obtain ⟨rfl,rfl⟩:=e1;obtain ⟨hi,rfl⟩:=ek hpb;refine ⟨fun _ g=>(g.freezeIf hf).set (by simp),fun j hj=>?_⟩
  simp only [V.refs,cl] at hj;subst hj;exact .new (by simp) hi
 | build fz z ps=>
  simp only [bh] at he;obtain ⟨xs,hx,he⟩:=a5.1 he;obtain ⟨h1,hf,he⟩:=a5.1 he
  split at he
  ·obtain ⟨cs,hcs,e1⟩:=a9.1 he
   simp only [ak] at e1;obtain ⟨rfl,rfl⟩:=e1;exact ⟨fun _ g=>g.freezeIf hf,fun j hj=>by simp [V.refs] at hj⟩
  ·obtain ⟨cs,hcs,e1⟩:=a9.1 he
   simp only [ak] at e1;obtain ⟨rfl,rfl⟩:=e1;exact ⟨fun _ g=>g.freezeIf hf,fun j hj=>by simp [V.refs] at hj⟩
  ·cases he
 | buildSl fz i s z n ps=>
  simp only [bh] at he;obtain ⟨xs,hx,he⟩:=a5.1 he;obtain ⟨cs,hcs,he⟩:=a5.1 he;obtain ⟨h1,hf,he⟩:=a5.1 he;obtain ⟨h2,hpb,e1⟩:=a9.1 he;simp only [ak] at e1;obtain ⟨rfl,rfl⟩:=e1;obtain ⟨hi,rfl⟩:=ek hpb;refine ⟨fun _ g=>(g.freezeIf hf).set (by simp),fun j hj=>?_⟩
  simp only [V.refs,cl] at hj;subst hj;exact .new (by simp) hi
 | store fz s x y=>
  simp only [bh] at he;obtain ⟨u,hu,he⟩:=a5.1 he;obtain ⟨d,hd,he⟩:=a5.1 he;obtain ⟨h1,hf,he⟩:=a5.1 he
  split at he
  ·split at he
   ·obtain ⟨b,hb,he⟩:=a5.1 he
    obtain ⟨b',hb',e1⟩:=a9.1 he;simp only [ak] at e1;obtain ⟨rfl,rfl⟩:=e1;exact ⟨fun _ g=>(g.freezeIf hf).set (Blk.set_nh hb'),fun j hj=>by simp [V.refs,V.refss] at hj⟩
   ·cases he
  ·cases he
 | append s i bytes x y=>
  simp only [bh] at he;obtain ⟨w,hw,he⟩:=a5.1 he;obtain ⟨d,hd,he⟩:=a5.1 he
  split at he
  ·rename_i sh1 ys j off n cap hxe
   split at he
   ·rename_i fr sh2 cs hB
    split at he
    ·split at he
     ·simp only [a8,ak] at he
      obtain ⟨rfl,rfl⟩:=he;refine ⟨fun _ g=>g.set (by simp),fun k hk=>?_⟩
      simp only [V.refs,cl] at hk;subst hk;exact Laid.set (by simp) ⟨_,hB,by simp⟩
     ·split at he
      ·obtain ⟨h2,hpb,e1⟩:=a9.1 he
       simp only [ak] at e1;obtain ⟨rfl,rfl⟩:=e1;obtain ⟨hi,rfl⟩:=ek hpb;refine ⟨fun _ g=>g.set (by simp),fun k hk=>?_⟩
       simp only [V.refs,cl] at hk;subst hk;exact .new (by simp) hi
      ·cases he
    ·cases he
   ·cases he
  ·split at he
   ·obtain ⟨h2,hpb,e1⟩:=a9.1 he
    simp only [ak] at e1;obtain ⟨rfl,rfl⟩:=e1;obtain ⟨hi,rfl⟩:=ek hpb;refine ⟨fun _ g=>g.set (by simp),fun k hk=>?_⟩
    simp only [V.refs,cl] at hk;subst hk;exact .new (by simp) hi
   ·cases he
  ·cases he
 | copy s x y=>
  simp only [bh] at he;obtain ⟨w,hw,he⟩:=a5.1 he;obtain ⟨d,hd,he⟩:=a5.1 he
  split at he
  ·split at he
   ·split at he
    ·simp only [a8,ak] at he
     obtain ⟨rfl,rfl⟩:=he;exact ⟨fun _ g=>g.set (by simp),fun k hk=>by simp [V.refs] at hk⟩
    ·cases he
   ·cases he
  ·cases he
 | call m news f xs=>
  simp only [bh] at he;obtain ⟨fv,hf,he⟩:=a5.1 he;obtain ⟨g,hg,he⟩:=a5.1 he;obtain ⟨vs,hv,he⟩:=a5.1 he
  have hr:∀i∈V.refss (g.2.1++vs++g.2.2),Laid h i:=by
   intro i hi;apply hp;simp only [A2,bp] at hi;simp only [Op.temps,f6,bp];rcases hi with (hi | hi) | hi
   ·exact .inl (rz hf hg i (.inl hi))
   ·exact .inr (vi hv hi)
   ·exact .inl (rz hf hg i (.inr hi))
  cases m with
  | flat=>simp [Op.cls] at hc
  | plain=>simp [Op.cls] at hc
  | data=>
   simp only [jj] at he;obtain ⟨ds,hds,he⟩:=a5.1 he;obtain ⟨ans,hans,he⟩:=a5.1 he;obtain ⟨x,hx,he⟩:=a5.1 he;simp only [a8,ak] at he;obtain ⟨rfl,rfl⟩:=he;exact ⟨fun _ g=>g.freeze _,fun k hk=>by simp [V.refs] at hk⟩
  | heap=>
   simp only [oc] at he;obtain ⟨bs,hbs,he⟩:=a5.1 he;obtain ⟨ans,hans,he⟩:=a5.1 he;obtain ⟨h1,hh1,he⟩:=a5.1 he;obtain ⟨h2,hh2,he⟩:=a5.1 he
   split at he
   case isFalse=>cases he
   rename_i hall
   simp only [a8,ak] at he;obtain ⟨rfl,rfl⟩:=he;obtain ⟨n1,n2,n3⟩:=zo hh2;refine ⟨fun i g=>n2 i (M0 hh1 i g),fun i hi=>?_⟩
   rw [V.ren_refs,cj] at hi;obtain ⟨k,hk,rfl⟩:=hi;have hkl:=fe.1 hall k hk;simp only [decide_eq_true_eq] at hkl
   by_cases h0:k<(uo (V.refss (g.2.1++vs++g.2.2))).length
   ·rw [if_pos h0]
    have hm:(uo (V.refss (g.2.1++vs++g.2.2))).getD k 0∈uo (V.refss (g.2.1++vs++g.2.2)):=by
     rw [cx,au h0]; exact bj h0
    exact n2 _ (M0 hh1 _ (hr _ (Ar.1 hm)))
   ·rw [if_neg h0]
    have h2:k-(uo (V.refss (g.2.1++vs++g.2.2))).length<ans.2.2.length:=by omega
    refine n3 _ _ h2 ?_;rw [cx,au (by omega)]
    rfl
 | _=>simp [Op.cls] at hc
theorem abk {O:ah} {np:Nat} {e:Env} {h h':Heap} {p:Op} {v:V} (he:bh O np e h p=some (v,h')) (hp:∀i∈e.refsOf p.temps,Laid h i) :
 (∀i,Laid h i→Laid h' i)∧∀i∈v.refs,Laid h' i:=by
 cases hc:p.cls with
 | z=>
  obtain ⟨rfl,_,h3⟩:=ahz hc he;exact ⟨fun _ g=>g,fun i hi=>hp i (h3 i hi)⟩
 | r=>
  obtain ⟨rfl,_,h3⟩:=age hc he;exact ⟨fun _ g=>g,fun i hi=>hp i (h3 i hi)⟩
 | a=>
  obtain ⟨j,b,_,hj,hb,rfl,_,h3⟩:=ahw hc he;exact ⟨fun _ g=>g.set hb,fun i hi=>by rw [h3 i hi]; exact .new hb hj⟩
 | s=>
  obtain ⟨j,b,_,hb,rfl,_,h3⟩:=ah0 hc he;exact ⟨fun _ g=>g.set hb,fun i hi=>by rw [h3] at hi; simp at hi⟩
 | w=>exact Qh (.inr hc) he hp
 | x=>exact Qh (.inl hc) he hp
end Pe

namespace Pe
open Go
structure Par (W:List Nat) (h h2 g g2:Heap):Prop where
 on:∀i∈W,g2[i]? = g[i]?
 off1:∀i,i ∉ W→g[i]? = h[i]?
 off2:∀i,i ∉ W→g2[i]? = h2[i]?
 len:g.length=h.length
theorem Par.start {W:List Nat} {h h2:Heap} (a:∀i∈W,h2[i]? = h[i]?):Par W h h2 h h2:=⟨a,fun _ _=>rfl,fun _ _=>rfl,rfl⟩
theorem M1:∀(is:List Nat) (h:Heap),(freeze h is).length=h.length
 | [],_=>rfl
 | i::is,h=>by
  unfold freeze;rw [M1 is,List.length_modify]
theorem Par.freeze {W is:List Nat} {h h2 g g2:Heap} (p:Par W h h2 g g2) (hs:∀i∈is,i∈W):Par W h h2 (Pe.freeze g is) (Pe.freeze g2 is) where
 on i hi:=by rw [jv,jv,p.on i hi]
 off1 i hi:=by rw [jv,if_neg fun k=>hi (hs i k),p.off1 i hi]
 off2 i hi:=by rw [jv,if_neg fun k=>hi (hs i k),p.off2 i hi]
 len:=(M1 is g).trans p.len
theorem Qk {g g2:Heap} {j:Nat} (h:g2[j]? = g[j]?):j<g2.length↔j<g.length:=by
 have h1:=List.getElem?_eq_none_iff (l:=g) (i:=j);have h2:=List.getElem?_eq_none_iff (l:=g2) (i:=j);rw [h] at h2;have h3:=h1.symm.trans h2;omega
theorem Par.set {W:List Nat} {h h2 g g2:Heap} (p:Par W h h2 g g2) {j:Nat} (hj:j∈W) (b:Blk):Par W h h2 (g.set j b) (g2.set j b) where
 on i hi:=by
  by_cases hij:j=i
  ·subst hij
   have hl:=Qk (p.on j hj)
   by_cases hk:j<g.length
   ·rw [c9 hk,c9 (hl.2 hk)]
   ·rw [cb (by rw [cr]; omega),cb (by rw [cr]; omega)]
  ·rw [ce hij,ce hij,p.on i hi]
 off1 i hi:=by rw [ce (by rintro rfl; exact hi hj),p.off1 i hi]
 off2 i hi:=by rw [ce (by rintro rfl; exact hi hj),p.off2 i hi]
 len:=by rw [cr,p.len]
theorem ui {g:Heap} {i:Nat} {b:Blk} (hh:g[i]? = some .hole):ix g i b=some (g.set i b):=by simp [ix,hh]
theorem Par.put {W:List Nat} {h h2:Heap}:∀{is:List Nat} {bs g g2 g1:Heap},Par W h h2 g g2→(∀i∈is,i∈W)→g.put is bs=some g1→∃g3,g2.put is bs=some g3∧Par W h h2 g1 g3
 | [],[],g,g2,g1,p,_,e=>by
  simp only [Heap.put,a8] at e ⊢;subst e;exact ⟨_,rfl,p⟩
 | i::is,b::bs,g,g2,g1,p,hs,e=>by
  simp only [Heap.put] at e ⊢
  split at e
  ·cases e
  ·rename_i hb
   rw [if_neg hb];exact Par.put (p.set (hs i (by simp)) b) (fun j hj=>hs j (by simp [hj])) e
 | [],_::_,_,_,_,_,_,e=>by simp [Heap.put] at e
 | _::_,[],_,_,_,_,_,e=>by simp [Heap.put] at e
theorem Par.putNews {W:List Nat} {h h2:Heap}:∀{is:List Nat} {bs g g2 g1:Heap},Par W h h2 g g2→(∀i∈is.take bs.length,i∈W)→putNews g is bs=some g1→∃g3,putNews g2 is bs=some g3∧Par W h h2 g1 g3
 | is,[],g,g2,g1,p,_,e=>by
  cases is <;> simp only [Pe.putNews,a8] at e ⊢ <;> subst e <;> exact ⟨_,rfl,p⟩
 | i::is,b::bs,g,g2,g1,p,hs,e=>by
  simp only [Pe.putNews] at e ⊢
  split at e
  ·cases e
  ·rename_i hb
   rw [if_neg hb];obtain ⟨g0,e0,e⟩:=a5.1 e;obtain ⟨hj,rfl⟩:=ek e0;have hi:i∈W:=hs i (by simp)
   rw [ui ((p.on i hi).trans hj),ae];exact Par.putNews (p.set hi b) (fun j hj=>hs j (by simp [hj])) e
 | [],_::_,_,_,_,_,_,e=>by simp [Pe.putNews] at e
theorem Vu {g:Heap} {i j:Nat} {b:Blk} (hb:b≠.hole) (h:(g.set i b)[j]? = some .hole):g[j]? = some .hole:=by
 by_cases hij:i=j
 ·subst hij
  have hl:i<g.length:=by
   have:=(bg.1 h).1
   rwa [cr] at this
  rw [c9 hl] at h;exact absurd (bc h) hb
 ·rwa [ce hij] at h
theorem Un:∀{is:List Nat} {bs g g1:Heap},g.put is bs=some g1→∀j:Nat,g1[j]? = some Blk.hole→g[j]? = some Blk.hole
 | [],[],g,g1,e,j,h=>by simp only [Heap.put,a8] at e; subst e; exact h
 | i::is,b::bs,g,g1,e,j,h=>by
  simp only [Heap.put] at e
  split at e
  ·cases e
  ·rename_i hb
   exact Vu (by rintro rfl; simp [Blk.isHole] at hb) (Un e j h)
 | [],_::_,_,_,e,_,_=>by simp [Heap.put] at e
 | _::_,[],_,_,e,_,_=>by simp [Heap.put] at e
theorem Gh:∀{is:List Nat} {bs g g1:Heap},putNews g is bs=some g1→∀j∈is.take bs.length,g[j]? = some Blk.hole
 | is,[],_,_,_,j,h=>by simp at h
 | i::is,b::bs,g,g1,e,j,h=>by
  simp only [putNews] at e
  split at e
  ·cases e
  ·rename_i hb
   obtain ⟨g0,e0,e⟩:=a5.1 e;obtain ⟨hi,rfl⟩:=ek e0;rw [bv,io] at h;rcases dk.1 h with rfl | h
   ·exact hi
   ·exact Vu (by rintro rfl; simp [Blk.isHole] at hb) (Gh e j h)
 | [],_::_,_,_,e,_,_=>by simp [putNews] at e
theorem Iy {h:Heap} {is:List Nat} {j:Nat} (g:(freeze h is)[j]? = some .hole):h[j]? = some .hole:=by
 rw [jv] at g
 split at g
 ·obtain ⟨B,hB,e⟩:=a9.1 g
  rw [hB,Blk.freeze_hole e]
 ·exact g
theorem Nv {h h2:Heap}:∀{is:List Nat},(∀i∈is,h2[i]? = h[i]?)→h2.pick is=h.pick is
 | [],_=>rfl
 | i::is,a=>by
  simp only [Heap.pick];rw [a i (by simp),Nv fun j hj=>a j (by simp [hj])]
theorem u5 {h h1:Heap} {is:List Nat} (hf:freezeIf true h is=some h1):h1=freeze h is:=by
 simp only [freezeIf,if_true,a8] at hf;exact hf.symm
theorem Ms {h h2:Heap} (u:V) (g:∀i∈u.refs,h2[i]? = h[i]?):Bs h2 u=Bs h u:=by
 unfold Bs;rw [oh u g]
theorem am1 {O:ah} {np:Nat} {e:Env} {h h':Heap} {p:Op} {v:V} (hc:p.cls=.w) (he:bh O np e h p=some (v,h')) :
 ∃N:List Nat,(∀i∈N,h[i]? = some .hole∧Laid h' i)∧∀h2:Heap,(∀i∈e.refsOf p.temps++N,h2[i]? = h[i]?)→∃h3,bh O np e h2 p=some (v,h3)∧Par (e.refsOf p.temps++N) h h2 h' h3:=by
 cases p with
 | box fz i x=>
  cases fz with
  | false=>simp [Op.cls] at hc
  | true=>
   simp only [bh] at he ⊢;obtain ⟨u,hu,he1⟩:=a5.1 he;obtain ⟨d,hd,he2⟩:=a5.1 he1;obtain ⟨h1,hf,he3⟩:=a5.1 he2;obtain ⟨g,hp,e1⟩:=a9.1 he3;clear he he1 he2 he3;simp only [ak] at e1;obtain ⟨rfl,rfl⟩:=e1;obtain rfl:=u5 hf;obtain ⟨hi,rfl⟩:=ek hp;refine ⟨[np+i],fun j hj=>?_,fun h2 a=>?_⟩
   ·obtain rfl:=cl.1 hj
    exact ⟨Iy hi,.new (by simp) hi⟩
   ·have hs:∀j∈u.refs,j∈e.refsOf (Op.box true i x).temps++[np+i]:=fun j hj=>cn _ (i5 hu hj)
    have hn:np+i∈e.refsOf (Op.box true i x).temps++[np+i]:=by simp
    have p1:=(Par.start a).freeze hs;refine ⟨_,?_,p1.set hn _⟩;rw [hu,ae,Ms u fun j hj=>a j (hs j hj),hd,ae]
    simp only [freezeIf,if_true,ae];rw [ui ((p1.on _ hn).trans hi),db]
 | build fz z ps=>
  cases fz with
  | false=>simp [Op.cls] at hc
  | true=>
   simp only [bh] at he ⊢;obtain ⟨xs,hx,he1⟩:=a5.1 he;obtain ⟨h1,hf,he2⟩:=a5.1 he1;clear he he1;obtain rfl:=u5 hf;refine ⟨[],by simp,fun h2 a=>?_⟩
   have hs:∀j∈fa e ps,j∈e.refsOf (Op.build true z ps).temps++[]:=fun j hj=>cn _ (xx hj)
   have p1:=(Par.start a).freeze hs
   have hpc:jr e h2 ps=some xs:=by
    rw [ub fun j hj=>a j (cn _ hj)]; exact hx
   split at he2
   ·obtain ⟨cs,hcs,e1⟩:=a9.1 he2
    simp only [ak] at e1;obtain ⟨rfl,rfl⟩:=e1;refine ⟨_,?_,p1⟩;rw [hpc];simp only [freezeIf,if_true,ae,hcs,db]
   ·obtain ⟨cs,hcs,e1⟩:=a9.1 he2
    simp only [ak] at e1;obtain ⟨rfl,rfl⟩:=e1;refine ⟨_,?_,p1⟩;rw [hpc];simp only [freezeIf,if_true,ae,hcs,db]
   ·cases he2
 | buildSl fz i s z n ps=>
  cases fz with
  | false=>simp [Op.cls] at hc
  | true=>
   simp only [bh] at he ⊢;obtain ⟨xs,hx,he1⟩:=a5.1 he;obtain ⟨cs,hcs,he2⟩:=a5.1 he1;obtain ⟨h1,hf,he3⟩:=a5.1 he2;obtain ⟨g,hp,e1⟩:=a9.1 he3;clear he he1 he2 he3;simp only [ak] at e1;obtain ⟨rfl,rfl⟩:=e1;obtain rfl:=u5 hf;obtain ⟨hi,rfl⟩:=ek hp;refine ⟨[np+i],fun j hj=>?_,fun h2 a=>?_⟩
   ·obtain rfl:=cl.1 hj
    exact ⟨Iy hi,.new (by simp) hi⟩
   ·have hs:∀j∈fa e ps,j∈e.refsOf (Op.buildSl true i s z n ps).temps++[np+i]:=fun j hj=>cn _ (xx hj)
    have hn:np+i∈e.refsOf (Op.buildSl true i s z n ps).temps++[np+i]:=by simp
    have p1:=(Par.start a).freeze hs
    have hpc:jr e h2 ps=some xs:=by
     rw [ub fun j hj=>a j (cn _ hj)]; exact hx
    refine ⟨_,?_,p1.set hn _⟩;rw [hpc,ae,hcs,ae];simp only [freezeIf,if_true,ae];rw [ui ((p1.on _ hn).trans hi),db]
 | store fz s x y=>
  cases fz with
  | false=>simp [Op.cls] at hc
  | true=>
   simp only [bh] at he ⊢;obtain ⟨u,hu,he1⟩:=a5.1 he;obtain ⟨d,hd,he2⟩:=a5.1 he1;obtain ⟨h1,hf,he3⟩:=a5.1 he2;clear he he1 he2;obtain rfl:=u5 hf;refine ⟨[],by simp,fun h2 a=>?_⟩
   have hs:∀j∈u.refs,j∈e.refsOf (Op.store true s x y).temps++[]:=fun j hj=>cn _ (by
    simp only [Op.temps,f6,bp]; exact .inr (i5 hu hj))
   have p1:=(Par.start a).freeze hs
   split at he3
   ·rename_i i p hp
    split at he3
    ·rename_i hss
     obtain ⟨b,hb,he4⟩:=a5.1 he3;obtain ⟨b',hb',e1⟩:=a9.1 he4;simp only [ak] at e1;obtain ⟨rfl,rfl⟩:=e1
     have hi:i∈e.refsOf (Op.store true s x y).temps++[]:=cn _ (by
      simp only [Op.temps,f6,bp]; exact .inl (i5 hp (by simp [V.refs])))
     refine ⟨_,?_,p1.set hi _⟩;rw [hu,ae,Ms u fun j hj=>a j (hs j hj),hd,ae]
     simp only [freezeIf,if_true,ae];rw [if_pos hss,p1.on i hi,hb,ae,hb',db]
    ·cases he3
   ·cases he3
 | copy s x y=>
  simp only [bh] at he ⊢;obtain ⟨w,hw,he1⟩:=a5.1 he;obtain ⟨d,hd,he2⟩:=a5.1 he1;clear he he1;refine ⟨[],by simp,fun h2 a=>?_⟩
  have hs:∀j∈w.refs,j∈e.refsOf (Op.copy s x y).temps++[]:=fun j hj=>cn _ (by
   simp only [Op.temps,f6,bp]; exact .inr (i5 hw hj))
  have hd2:toD h2 w=some d:=by rw [oh w fun j hj=>a j (hs j hj)]; exact hd
  split at he2
  ·rename_i t ys j off n cap hx
   have hj:j∈e.refsOf (Op.copy s x y).temps++[]:=cn _ (by
    simp only [Op.temps,f6,bp]; exact .inl (i5 hx (by simp [V.refs])))
   split at he2
   ·rename_i t' cs hB
    split at he2
    ·rename_i hcc
     simp only [a8,ak] at he2;obtain ⟨rfl,rfl⟩:=he2;refine ⟨_,?_,(Par.start a).set hj _⟩;rw [hw,ae,hd2,ae];simp only [hx,a j hj,hB];rw [if_pos hcc]
    ·cases he2
   ·cases he2
  ·cases he2
 | call m news f xs=>
  simp only [bh] at he ⊢;obtain ⟨fv,hf,he1⟩:=a5.1 he;obtain ⟨g,hg,he2⟩:=a5.1 he1;obtain ⟨vs,hv,he3⟩:=a5.1 he2;clear he he1 he2
  have hr:∀i∈V.refss (g.2.1++vs++g.2.2),i∈e.refsOf (Op.call m news f xs).temps:=by
   intro i hi;simp only [A2,bp] at hi;simp only [Op.temps,f6,bp];rcases hi with (hi | hi) | hi
   ·exact .inl (rz hf hg i (.inl hi))
   ·exact .inr (vi hv hi)
   ·exact .inl (rz hf hg i (.inr hi))
  cases m with
  | flat=>simp [Op.cls] at hc
  | plain=>simp [Op.cls] at hc
  | data=>
   simp only [jj] at he3 ⊢;obtain ⟨ds,hds,he4⟩:=a5.1 he3;obtain ⟨ans,hans,he5⟩:=a5.1 he4;obtain ⟨x,hx,he6⟩:=a5.1 he5;clear he3 he4 he5;simp only [a8,ak] at he6;obtain ⟨rfl,rfl⟩:=he6;refine ⟨[],by simp,fun h2 a=>?_⟩
   have hs:∀i∈V.refss (g.2.1++vs++g.2.2),i∈e.refsOf (Op.call Mode.data news f xs).temps++[]:=fun i hi=>cn _ (hr i hi)
   refine ⟨_,?_,(Par.start a).freeze hs⟩;simp only [hf,hg,hv,ae];rw [qz _ fun i hi=>a i (hs i hi),hds,ae,hans,ae,hx,ae]
  | heap=>
   simp only [oc] at he3 ⊢;obtain ⟨bs,hbs,he4⟩:=a5.1 he3;obtain ⟨ans,hans,he5⟩:=a5.1 he4;obtain ⟨h1,hh1,he6⟩:=a5.1 he5;obtain ⟨h2',hh2,he7⟩:=a5.1 he6;clear he3 he4 he5 he6
   split at he7
   case isFalse=>cases he7
   rename_i hall
   simp only [a8,ak] at he7;obtain ⟨rfl,rfl⟩:=he7;obtain ⟨n1,n2,n3⟩:=zo hh2;refine ⟨(news.map (np + ·)).take ans.2.2.length,fun j hj=>⟨Un hh1 j (Gh hh2 j hj),?_⟩,fun h2 a=>?_⟩
   ·obtain ⟨k,hk,e1⟩:=im hj
    have hk':k<ans.2.2.length:=by rw [bq] at hk; omega
    refine n3 k j hk' ?_;rw [ma] at e1;rw [←e1];exact au (by rw [bq] at hk; omega)
   ·have hs:∀i∈uo (V.refss (g.2.1++vs++g.2.2)),i∈e.refsOf (Op.call Mode.heap news f xs).temps++(news.map (np + ·)).take ans.2.2.length:=fun i hi=>cn _ (hr i (Ar.1 hi))
    obtain ⟨g3,q1,q2⟩:=(Par.start a).put hs hh1;obtain ⟨g4,q3,q4⟩:=q2.putNews (fun i hi=>lc _ hi) hh2
    refine ⟨g4,?_,q4⟩;simp only [hf,hg,hv,ae];rw [Nv fun i hi=>a i (hs i hi),hbs,ae,hans,ae,q1,ae,q3,ae,if_pos hall]
 | append s i bytes x y=>
  simp only [bh] at he ⊢;obtain ⟨w,hw,he1⟩:=a5.1 he;obtain ⟨d,hd,he2⟩:=a5.1 he1;clear he he1
  have hwr:∀j∈w.refs,j∈e.refsOf (Op.append s i bytes x y).temps:=fun j hj=>by
   simp only [Op.temps,f6,bp];exact .inr (i5 hw hj)
  split at he2
  ·rename_i t ys j off n cap hx
   have hjr:j∈e.refsOf (Op.append s i bytes x y).temps:=by
    simp only [Op.temps,f6,bp];exact .inl (i5 hx (by simp [V.refs]))
   split at he2
   ·rename_i fr t' cs hj
    split at he2
    ·rename_i hC
     split at he2
     ·rename_i hF
      simp only [a8,ak] at he2;obtain ⟨rfl,rfl⟩:=he2;refine ⟨[],by simp,fun h2 a=>?_⟩
      have aj:=a j (cn _ hjr);refine ⟨_,?_,(Par.start a).set (cn _ hjr) _⟩;simp only [hw,ae,oh w fun j hj=>a j (cn _ (hwr j hj)),hd,hx,aj,hj]
      rw [if_pos hC,if_pos hF]
     ·rename_i hF
      split at he2
      ·rename_i hG
       obtain ⟨g,hp,e1⟩:=a9.1 he2;simp only [ak] at e1;obtain ⟨rfl,rfl⟩:=e1;obtain ⟨hi,rfl⟩:=ek hp;refine ⟨[np+i],fun j hj=>?_,fun h2 a=>?_⟩
       ·obtain rfl:=cl.1 hj
        exact ⟨hi,.new (by simp) hi⟩
       ·have aj:=a j (cn _ hjr)
        have ai:=a (np+i) (by simp)
        refine ⟨_,?_,(Par.start a).set (by simp) _⟩
        simp only [hw,ae,oh w fun j hj=>a j (cn _ (hwr j hj)),hd,hx,aj,hj]
        rw [if_pos hC,if_neg hF,if_pos hG,ui (ai.trans hi)];rfl
      ·cases he2
    ·cases he2
   ·cases he2
  ·rename_i t y' ys t' hx
   split at he2
   ·rename_i hC
    obtain ⟨g,hp,e1⟩:=a9.1 he2;simp only [ak] at e1;obtain ⟨rfl,rfl⟩:=e1;obtain ⟨hi,rfl⟩:=ek hp;refine ⟨[np+i],fun j hj=>?_,fun h2 a=>?_⟩
    ·obtain rfl:=cl.1 hj
     exact ⟨hi,.new (by simp) hi⟩
    ·have ai:=a (np+i) (by simp)
     refine ⟨_,?_,(Par.start a).set (by simp) _⟩
     simp only [hw,ae,oh w fun j hj=>a j (cn _ (hwr j hj)),hd,hx]
     rw [if_pos hC,ui (ai.trans hi)];rfl
   ·cases he2
  ·cases he2
 | _=>simp [Op.cls] at hc
end Pe

namespace Pe
open Go
def Ins.look (i:Ins):List Nat:=i.op.temps++(match i.guard with | some (n,_)=>[n] | none=>[])
def Op.isAppend:Op→Bool
 | .append _ _ _ _ _=>true
 | _=>false
inductive Kd where
 | off | z | r
 | a (j:Nat) (b:Blk)
 | s (j:Nat) (b:Blk)
 | w (W:List Nat) (h:Heap)
 | x (h:Heap)
def over (h h':Heap) (W:List Nat):Heap:=h.mapIdx fun i b=>if i∈W then (h'[i]?).getD b else b
structure Tr where
 i:Ins
 s:St
 k:Kd
 v:V
def Tr.T (t:Tr):List Nat:=t.s.e.refsOf t.i.op.temps
def Tr.hag (t:Tr) (h:Heap):Prop:=
 match t.k with
 | .off | .z=>True
 | .r | .s _ _=>∀i∈t.T,h[i]? = t.s.h[i]?
 | .a j _=>h[j]? = some .hole
 | .w W _=>∀i∈W,h[i]? = t.s.h[i]?
 | .x _=>h=t.s.h
def Tr.ag (t:Tr) (s:St):Prop:=Le t.i.look t.s.e s.e∧t.hag s.h
def Tr.heff (t:Tr) (h:Heap):Heap:=
 match t.k with
 | .off | .z | .r=>h
 | .a j b | .s j b=>h.set j b
 | .w W h'=>over h h' W
 | .x h'=>h'
def Tr.eeff (t:Tr) (e:Env):Env:=(e.kill (t.i.op.kill t.s.e t.v)).putO t.i.dst t.v
def Tr.eff (t:Tr) (s:St):St:=⟨t.eeff s.e,t.heff s.h⟩
def PI (s:St):Prop:=∀n v,s.e.get n=some v→∀i∈v.refs,Laid s.h i
structure Tr.Valid (O:ah) (np:Nat) (t:Tr):Prop where
 exec:∀s,t.ag s→nv O np s t.i=some (t.eff s)
 laid:∀s,t.ag s→PI s→PI (t.eff s)
 keep:∀s,t.ag s→PI s→∀i,Laid s.h i→Laid (t.heff s.h) i
 cls:match t.k with
  | .off=>True
  | .z=>t.i.op.cls=.z
  | .r=>t.i.op.cls=.r
  | .a _ b=>t.i.op.cls=.a∧b≠.hole
  | .s j b=>t.i.op.cls=.s∧b≠.hole∧j∈t.T
  | .w W h'=>t.i.op.cls=.w∧h'.length=t.s.h.length∧∃N:List Nat,W=t.T++N∧∀i∈N,t.s.h[i]? = some .hole∧Laid h' i
  | .x _=>t.i.op.cls=.x
theorem a1y {p:Op} (h:p.isAppend=false) (e:Env) (v:V):p.kill e v=none:=by
 cases p <;> simp_all [Op.isAppend,Op.kill]
theorem wa {e:Env} {d:Option Nat} {v:V} {n:Nat}:(e.putO d v).get n=if d=some n then some v else e.get n:=by
 cases d with
 | none=>simp [Env.putO]
 | some d=>
  simp only [Env.putO,Env.get,a8]
theorem PI.put {e:Env} {h h':Heap} {k:Option Nat} {d:Option Nat} {v:V} (hp:PI ⟨e,h⟩) (h1:∀i,Laid h i→Laid h' i) (h2:∀i∈v.refs,Laid h' i):PI ⟨(e.kill k).putO d v,h'⟩:=by
 intro n w hn i hi;simp only [wa] at hn
 split at hn
 ·obtain rfl:=bc hn
  exact h2 i hi
 ·exact h1 i (hp n w (W2 hn).1 i hi)
theorem PI.refsOf {s:St} (hp:PI s) {e:Env} {ns:List Nat} (hl:Le ns e s.e) {i:Nat} (hi:i∈e.refsOf ns):Laid s.h i:=by
 obtain ⟨n,hn,v,hv,h⟩:=Ed hi;exact hp n v (hl n hn v hv) i h
theorem a18 {i:Ins} {e e':Env} (hl:Le i.look e e') {b:Bool} (h:i.on e=some b):i.on e'=some b:=by
 unfold Ins.on at h ⊢;cases hg:i.guard with
 | none=>rw [hg] at h; exact h
 | some q=>
  obtain ⟨n,b'⟩:=q;rw [hg] at h;simp only at h ⊢
  split at h
  ·rename_i t hn
   rw [hl n (by simp [Ins.look,hg]) _ hn]; exact h
  ·rename_i hn
   rw [hl n (by simp [Ins.look,hg]) _ hn]; exact h
  ·cases h
theorem Le.refl (ns:List Nat) (e:Env):Le ns e e:=fun _ _ _ h=>h
theorem Lp (h h':Heap) (W:List Nat) (i:Nat):(over h h' W)[i]? = (h[i]?).map fun b=>if i∈W then (h'[i]?).getD b else b:=by
 unfold over;rw [List.getElem?_mapIdx]
theorem Yz {h h' k:Heap} {W:List Nat} {i:Nat} (hi:i∈W) (hl:h'.length=k.length) (ha:h[i]? = k[i]?):(over h h' W)[i]? = h'[i]?:=by
 rw [Lp,ha]
 by_cases hk:i<k.length
 ·rw [au hk,au (show i<h'.length by omega),db,if_pos hi]
  rfl
 ·rw [cb (by omega),cb (by omega)]
  rfl
theorem Vm {h h':Heap} {W:List Nat} {i:Nat} (hi:i ∉ W):(over h h' W)[i]? = h[i]?:=by
 rw [Lp];simp only [if_neg hi,Option.map_id']
theorem V7 {W:List Nat} {h h2 h' h3:Heap} (p:Par W h h2 h' h3) (a:∀i∈W,h2[i]? = h[i]?):h3=over h2 h' W:=by
 refine fh fun i=>?_
 by_cases hi:i∈W
 ·rw [Yz hi p.len (a i hi),p.on i hi]
 ·rw [Vm hi,p.off2 i hi]
theorem aiq {O:ah} {np:Nat} {s s':St} {i:Ins} (h:nv O np s i=some s'):∃t:Tr,t.i=i∧t.s=s∧t.ag s∧t.eff s=s'∧t.Valid O np:=by
 unfold nv at h
 split at h
 ·rename_i hon
  obtain ⟨⟨v,h'⟩,hev,rfl⟩:=a9.1 h
  -- what holds of all
  have common:∀(k:Kd),(∀s0:St,Le i.look s.e s0.e→(Tr.mk i s k v).hag s0.h→bh O np s.e s0.h i.op=some (v,(Tr.mk i s k v).heff s0.h)) →
   ∀s0,(Tr.mk i s k v).ag s0→nv O np s0 i=some ((Tr.mk i s k v).eff s0)∧(PI s0→PI ((Tr.mk i s k v).eff s0)∧∀j,Laid s0.h j→Laid ((Tr.mk i s k v).heff s0.h) j):=by
   intro k hx s0 ⟨g1,g3⟩;simp only at g1;have ht:Le i.op.temps s.e s0.e:=Le.sub g1 fun n hn=>by simp [Ins.look,hn]
   obtain ⟨m1,m2⟩:=aa5 ht (hx s0 g1 g3);refine ⟨?_,fun hp=>?_⟩
   ·unfold nv
    rw [a18 g1 hon];simp only [m1,db,Tr.eff,Tr.eeff,m2]
   ·obtain ⟨l1,l2⟩:=abk m1 fun j hj=>hp.refsOf (Le.refl _ _) hj
    simp only [Tr.eff,Tr.eeff];exact ⟨PI.put hp l1 l2,l1⟩
  cases hc:i.op.cls with
  | z=>
   obtain ⟨rfl,h2,_⟩:=ahz hc hev;have c:=common .z fun s0 _ _=>h2 s0.h
   refine ⟨⟨i,s,.z,v⟩,rfl,rfl,⟨Le.refl _ _,trivial⟩,?_,fun s0 g=>(c s0 g).1,fun s0 g hp=>((c s0 g).2 hp).1,fun s0 g hp=>((c s0 g).2 hp).2,hc⟩
   simp [Tr.eff,Tr.eeff,Tr.heff]
  | r=>
   obtain ⟨rfl,h2,_⟩:=age hc hev;have c:=common .r fun s0 _ g=>h2 s0.h g
   refine ⟨⟨i,s,.r,v⟩,rfl,rfl,⟨Le.refl _ _,fun _ _=>rfl⟩,?_,fun s0 g=>(c s0 g).1,fun s0 g hp=>((c s0 g).2 hp).1,fun s0 g hp=>((c s0 g).2 hp).2,hc⟩
   simp [Tr.eff,Tr.eeff,Tr.heff]
  | a=>
   obtain ⟨j,b,_,hj,hb,rfl,h2,_⟩:=ahw hc hev;have c:=common (.a (np+j) b) fun s0 _ g=>h2 s0.h g
   refine ⟨⟨i,s,.a (np+j) b,v⟩,rfl,rfl,⟨Le.refl _ _,hj⟩,?_,fun s0 g=>(c s0 g).1,fun s0 g hp=>((c s0 g).2 hp).1,fun s0 g hp=>((c s0 g).2 hp).2,hc,hb⟩
   simp [Tr.eff,Tr.eeff,Tr.heff]
  | s=>
   obtain ⟨j,b,hj,hb,rfl,h2,_⟩:=ah0 hc hev;have c:=common (.s j b) fun s0 _ g=>h2 s0.h g
   refine ⟨⟨i,s,.s j b,v⟩,rfl,rfl,⟨Le.refl _ _,fun _ _=>rfl⟩,?_,fun s0 g=>(c s0 g).1,fun s0 g hp=>((c s0 g).2 hp).1,fun s0 g hp=>((c s0 g).2 hp).2,hc,hb,hj⟩
   simp [Tr.eff,Tr.eeff,Tr.heff]
  | w=>
   obtain ⟨N,hN,h2⟩:=am1 hc hev
   have c:=common (.w (s.e.refsOf i.op.temps++N) h') fun s0 _ g=>by
    have g':∀j∈s.e.refsOf i.op.temps++N,s0.h[j]? = s.h[j]?:=g;obtain ⟨h3,q1,q2⟩:=h2 s0.h g';rw [q1,V7 q2 g'];rfl
   obtain ⟨h3,q1,q2⟩:=h2 s.h fun _ _=>rfl
   have e3:h3=h':=by
    have:=q1.symm.trans hev
    simpa using this
   subst e3;refine ⟨⟨i,s,.w (s.e.refsOf i.op.temps++N) h3,v⟩,rfl,rfl,⟨Le.refl _ _,fun _ _=>rfl⟩,?_,fun s0 g=>(c s0 g).1,fun s0 g hp=>((c s0 g).2 hp).1,fun s0 g hp=>((c s0 g).2 hp).2,hc,q2.len,N,rfl,hN⟩
   simp [Tr.eff,Tr.eeff,Tr.heff,←V7 q2 fun _ _=>rfl]
  | x=>
   have c:=common (.x h') fun s0 _ g=>by
    have g':s0.h=s.h:=g;rw [g']; exact hev
   refine ⟨⟨i,s,.x h',v⟩,rfl,rfl,⟨Le.refl _ _,rfl⟩,?_,fun s0 g=>(c s0 g).1,fun s0 g hp=>((c s0 g).2 hp).1,fun s0 g hp=>((c s0 g).2 hp).2,hc⟩
   simp [Tr.eff,Tr.eeff,Tr.heff]
 ·rename_i hon
  obtain rfl:=bc h
  have hk:i.op.kill s.e (.tup [])=none:=by
   cases i.op <;> try rfl
   simp only [Op.kill]
   split <;> simp_all
  refine ⟨⟨i,s,.off,.tup []⟩,rfl,rfl,⟨Le.refl _ _,trivial⟩,by simp [Tr.eff,Tr.eeff,Tr.heff,hk,Env.kill],fun s0 g=>?_,fun s0 _ hp=>?_,fun s0 _ _ i hi=>hi,trivial⟩
  ·unfold nv
   obtain ⟨g1,_⟩:=g;rw [a18 g1 hon];simp [Tr.eff,Tr.eeff,Tr.heff,hk,Env.kill]
  ·simp only [Tr.eff,Tr.eeff,Tr.heff,hk]
   exact PI.put hp (fun _ h=>h) (fun i hi=>by simp [V.refs,V.refss] at hi)
 ·cases h
structure Sim (s t:St):Prop where
 h:s.h=t.h
 e:∀n,s.e.get n=t.e.get n
theorem Sim.refl (s:St):Sim s s:=⟨rfl,fun _=>rfl⟩
theorem Sim.symm {s t:St} (h:Sim s t):Sim t s:=⟨h.h.symm,fun n=>(h.e n).symm⟩
theorem Sim.trans {s t u:St} (h:Sim s t) (g:Sim t u):Sim s u:=⟨h.h.trans g.h,fun n=>(h.e n).trans (g.e n)⟩
theorem xl (e:Env) (k:Option Nat) (n:Nat):(e.kill k).get n=match k with | some j=>if e.clear j n then e.get n else none | none=>e.get n:=by
 cases k with
 | none=>rfl
 | some j=>exact Dy (e.clear j) e n
theorem Sim.kill {e e':Env} (h:∀n,e.get n=e'.get n) (k:Option Nat) (n:Nat):(e.kill k).get n=(e'.kill k).get n:=by
 rw [xl,xl];cases k with
 | none=>exact h n
 | some j=>
  have hc:e.clear j n=e'.clear j n:=by unfold Env.clear; rw [h n]
  simp only [hc,h n]
theorem Sim.eff {s t:St} (h:Sim s t) (x:Tr):Sim (x.eff s) (x.eff t):=by
 refine ⟨by simp only [Tr.eff,h.h],fun n=>?_⟩
 simp only [Tr.eff,Tr.eeff,wa,Sim.kill h.e]
theorem Sim.ag {s t:St} (h:Sim s t) {x:Tr} (g:x.ag s):x.ag t:=by
 obtain ⟨g1,g3⟩:=g;exact ⟨fun n hn v hv=>by rw [←h.e n]; exact g1 n hn v hv,by rw [←h.h]; exact g3⟩
def Ins.free (d:Option Nat) (ns:List Nat):Bool:=
 match d with
 | some d=>!ns.contains d
 | none=>true
def a82:Option Nat→Option Nat→Bool
 | some a,some b=>a != b
 | _,_=>true
def nr:Cls→Cls→Option Bool
 | .z,_ | _,.z | .r,.r | .r,.a | .a,.r | .a,.a | .a,.s | .s,.a | .a,.w | .w,.a=>some false
 | .r,.s | .s,.r | .s,.s | .r,.w | .w,.r | .s,.w | .w,.s | .w,.w=>some true
 | _,_=>none
def Ins.isLoad (i:Ins):Bool:=match i.op,i.guard with
 | .load _ _,none=>true
 | _,_=>false
def Tf (y x:Ins):Bool:=Ins.free y.dst x.look&&Ins.free x.dst y.look&&a82 y.dst x.dst && !y.op.isAppend&&(!x.op.isAppend||y.isLoad)
theorem Uq {i:Ins} (h:i.isLoad=true):i.op.isAppend=false∧i.guard=none∧∃s x,i.op=.load s x:=by
 unfold Ins.isLoad at h
 split at h
 ·rename_i s x h1 h2
  exact ⟨by rw [h1]; rfl,h2,s,x,h1⟩
 ·cases h
theorem yu {d:Option Nat} {ns:List Nat} (h:Ins.free d ns=true) {n:Nat} (hn:n∈ns):d≠some n:=by
 rintro rfl
 simp [Ins.free,hn] at h
theorem Me {a b:Option Nat} (h:a82 a b=true) {n:Nat} (ha:a=some n):b≠some n:=by
 subst ha
 rintro rfl
 simp [a82] at h
theorem At {t:Tr} (ha:t.i.op.isAppend=false) (e:Env) (n:Nat):(t.eeff e).get n=if t.i.dst=some n then some t.v else e.get n:=by
 unfold Tr.eeff;rw [wa,a1y ha]; rfl
theorem Ep {t:Tr} (ha:t.i.op.isAppend=false) {e:Env} {n:Nat} (hn:t.i.dst≠some n):(t.eeff e).get n=e.get n:=by
 rw [At ha,if_neg hn]
theorem a4s {O:ah} {np:Nat} {t:Tr} (vt:t.Valid O np) {s:St} (g:t.ag s) (hl:t.i.isLoad=true) {n:Nat} (hn:t.i.dst=some n):∃d,t.v=.d d:=by
 obtain ⟨l1,l2,sh,x,l3⟩:=Uq hl;have h:=vt.exec s g;unfold nv Ins.on at h;rw [l2] at h;simp only [l3] at h;obtain ⟨⟨v,h'⟩,hev,heq⟩:=a9.1 h
 have e1:((t.eff s).e.get n)=some t.v:=by
  simp only [Tr.eff,Tr.eeff,wa,hn,if_true]
 rw [←heq] at e1;simp only [wa,hn,if_true,a8] at e1;subst e1;simp only [bh] at hev
 split at hev
 ·split at hev
  ·simp only [a8,ak] at hev; exact ⟨_,hev.1.symm⟩
  ·cases hev
 ·obtain ⟨q,_,hev⟩:=a5.1 hev
  split at hev
  ·simp only [a8,ak] at hev; exact ⟨_,hev.1.symm⟩
  ·cases hev
 ·cases hev
theorem Ho (t:Tr) (e:Env) (n:Nat):(t.eeff e).get n=if t.i.dst=some n then some t.v else (match t.i.op.kill t.s.e t.v with | some j=>if e.clear j n then e.get n else none | none=>e.get n):=by
 unfold Tr.eeff;rw [wa,xl]
theorem a17 {p:Op} {e:Env} {v:V} {j:Nat} (h:p.kill e v=some j):j∈e.refsOf p.temps:=by
 unfold Op.kill at h
 split at h
 ·split at h
  ·rename_i hx
   split at h
   ·obtain rfl:=bc h
    simp only [Op.temps,f6,bp];exact .inl (i5 hx (by simp [V.refs]))
   ·cases h
  ·cases h
 ·cases h
theorem Ha {e:Env} {j n:Nat} {v:V} (h:e.get n=some v):e.clear j n=true↔j ∉ v.refs:=by
 unfold Env.clear;rw [h];simp only [gh,List.any_eq_false,beq_iff_eq];exact ⟨fun h hj=>h j hj rfl,fun h x hx e=>h (e▸hx)⟩
def Kd.rd (T:List Nat):Kd→Nat→Prop
 | .off,_ | .z,_=>False
 | .r,i=>i∈T
 | .a j _,i=>i=j
 | .s _ _,i=>i∈T
 | .w W _,i=>i∈W
 | .x _,_=>True
def Kd.wr:Kd→Nat→Prop
 | .off,_ | .z,_ | .r,_=>False
 | .a j _,i | .s j _,i=>i=j
 | .w W _,i=>i∈W
 | .x _,_=>True
def Kd.isX:Kd→Bool
 | .x _=>true
 | _=>false
theorem yq {t:Tr} (hx:t.k.isX=false) {i:Nat} (hi:¬ t.k.wr i) (h:Heap):(t.heff h)[i]? = h[i]?:=by
 unfold Tr.heff;cases hk:t.k with
 | off | z | r=>rfl
 | a j b | s j b=>
  rw [hk] at hi;exact ce fun e=>hi e.symm
 | w W h'=>
  rw [hk] at hi;exact Vm hi
 | x h'=>rw [hk] at hx; cases hx
theorem Yy {t:Tr} (_hx:t.k.isX=false) {i:Nat} {h h2:Heap} (he:h2[i]? = h[i]?):(t.heff h2)[i]? = (t.heff h)[i]?:=by
 unfold Tr.heff;cases hk:t.k with
 | off | z | r=>exact he
 | a j b | s j b=>
  simp only
  by_cases hij:j=i
  ·subst hij
   have hl:=Qk he
   by_cases hk:j<h.length
   ·rw [c9 hk,c9 (hl.2 hk)]
   ·rw [cb (by rw [cr]; omega),cb (by rw [cr]; omega)]
  ·rw [ce hij,ce hij,he]
 | w W h'=>simp only [Lp,he]
 | x h'=>rfl
theorem a5y {t:Tr} (hx:t.k.isX=false) {h h2:Heap} (he:∀i,t.k.rd t.T i→h2[i]? = h[i]?) (g:t.hag h):t.hag h2:=by
 unfold Tr.hag at g ⊢;cases hk:t.k with
 | off | z=>trivial
 | r=>rw [hk] at g he; exact fun i hi=>(he i hi).trans (g i hi)
 | a j b=>rw [hk] at g he; exact (he j rfl).trans g
 | s j b=>rw [hk] at g he; exact fun i hi=>(he i hi).trans (g i hi)
 | w W h'=>rw [hk] at g he; exact fun i hi=>(he i hi).trans (g i hi)
 | x h'=>rw [hk] at hx; cases hx
theorem a40 {O:ah} {np:Nat} {t:Tr} (vt:t.Valid O np) (hx:t.k.isX=false) {h:Heap} (hg:t.hag h) {i:Nat} (hi:t.k.wr i) :
 (i∈t.T∧(t.i.op.cls=.s∨t.i.op.cls=.w))∨(h[i]? = some .hole∧Laid (t.heff h) i):=by
 have vc:=vt.cls;unfold Tr.hag at hg;unfold Tr.heff;cases hk:t.k with
 | off | z | r=>rw [hk] at hi; exact hi.elim
 | a j b=>
  rw [hk] at hi hg;simp only [hk] at vc;obtain rfl:i=j:=hi;exact .inr ⟨hg,.new vc.2 hg⟩
 | s j b=>
  rw [hk] at hi;simp only [hk] at vc;obtain rfl:i=j:=hi;exact .inl ⟨vc.2.2,.inl vc.1⟩
 | w W h'=>
  rw [hk] at hi hg;simp only [hk] at vc;obtain ⟨c1,c2,N,rfl,hN⟩:=vc;have hi':i∈t.T++N:=hi;rcases bp.1 hi' with hT | hn
  ·exact .inl ⟨hT,.inr c1⟩
  ·obtain ⟨q1,B,hB,hb⟩:=hN i hn
   exact .inr ⟨(hg i hi').trans q1,B,(Yz hi' c2 (hg i hi')).trans hB,hb⟩
 | x h'=>rw [hk] at hx; cases hx
theorem a0r {O:ah} {np:Nat} {t:Tr} (vt:t.Valid O np) (hx:t.k.isX=false) {h:Heap} (hg:t.hag h) {i:Nat} (hi:t.k.rd t.T i) :
 (i∈t.T∧(t.i.op.cls=.r∨t.i.op.cls=.s∨t.i.op.cls=.w))∨(h[i]? = some .hole∧t.k.wr i):=by
 have vc:=vt.cls;unfold Tr.hag at hg;cases hk:t.k with
 | off | z=>rw [hk] at hi; exact hi.elim
 | r=>
  rw [hk] at hi;simp only [hk] at vc;exact .inl ⟨hi,.inl vc⟩
 | a j b=>
  rw [hk] at hi hg;obtain rfl:i=j:=hi;exact .inr ⟨hg,rfl⟩
 | s j b=>
  rw [hk] at hi;simp only [hk] at vc;exact .inl ⟨hi,.inr (.inl vc.1)⟩
 | w W h'=>
  rw [hk] at hi hg;simp only [hk] at vc;obtain ⟨c1,c2,N,rfl,hN⟩:=vc;have hi':i∈t.T++N:=hi;rcases bp.1 hi' with hT | hn
  ·exact .inl ⟨hT,.inr (.inr c1)⟩
  ·exact .inr ⟨(hg i hi').trans (hN i hn).1,hi'⟩
 | x h'=>rw [hk] at hx; cases hx
theorem t8 {h:Heap} {i:Nat} (h1:h[i]? = some .hole) (h2:Laid h i):False:=by
 obtain ⟨B,hB,hn⟩:=h2;rw [hB] at h1;exact hn (bc h1)
theorem a4x {O:ah} {np:Nat} {y x:Tr} (vy:y.Valid O np) (vx:x.Valid O np) {b:Bool} (hc:nr y.i.op.cls x.i.op.cls=some b) (h:y.k.isX=true):x.k=.off∨x.k=.z:=by
 have vyc:=vy.cls;have vxc:=vx.cls;cases hky:y.k with
 | x hy=>
  simp only [hky] at vyc;rw [vyc] at hc;cases hkx:x.k with
  | off=>exact .inl rfl
  | z=>exact .inr rfl
  | r=>simp only [hkx] at vxc; rw [vxc] at hc; simp [nr] at hc
  | a j b=>simp only [hkx] at vxc; rw [vxc.1] at hc; simp [nr] at hc
  | s j b=>simp only [hkx] at vxc; rw [vxc.1] at hc; simp [nr] at hc
  | w W h'=>simp only [hkx] at vxc; rw [vxc.1] at hc; simp [nr] at hc
  | x h'=>simp only [hkx] at vxc; rw [vxc] at hc; simp [nr] at hc
 | _=>rw [hky] at h; cases h
theorem a1z {O:ah} {np:Nat} {y x:Tr} (vy:y.Valid O np) (vx:x.Valid O np) {b:Bool} (hc:nr y.i.op.cls x.i.op.cls=some b) (h:x.k.isX=true):y.k=.off∨y.k=.z:=by
 have vyc:=vy.cls;have vxc:=vx.cls;cases hkx:x.k with
 | x hx=>
  simp only [hkx] at vxc;rw [vxc] at hc;cases hky:y.k with
  | off=>exact .inl rfl
  | z=>exact .inr rfl
  | r=>simp only [hky] at vyc; rw [vyc] at hc; simp [nr] at hc
  | a j b=>simp only [hky] at vyc; rw [vyc.1] at hc; simp [nr] at hc
  | s j b=>simp only [hky] at vyc; rw [vyc.1] at hc; simp [nr] at hc
  | w W h'=>simp only [hky] at vyc; rw [vyc.1] at hc; simp [nr] at hc
  | x h'=>simp only [hky] at vyc; rw [vyc] at hc; simp [nr] at hc
 | _=>rw [hkx] at h; cases h
theorem swap {O:ah} {np:Nat} {y x:Tr} {s:St} (hp:PI s) (vy:y.Valid O np) (vx:x.Valid O np) (ay:y.ag s) (ax:x.ag (y.eff s)) (hd:Tf y.i x.i=true)
 {b:Bool} (hc:nr y.i.op.cls x.i.op.cls=some b) (hap:b=true→∀i∈y.T,i ∉ x.T):x.ag s∧y.ag (x.eff s)∧Sim (y.eff (x.eff s)) (x.eff (y.eff s)):=by
 have aya:=ay;have axa:=ax;unfold Tf at hd;simp only [av,gh,Bool.or_eq_true] at hd;obtain ⟨⟨⟨⟨d1,d2⟩,d3⟩,ny⟩,nx⟩:=hd;obtain ⟨ay1,ay3⟩:=ay;obtain ⟨ax1,ax3⟩:=ax
 -- variables
 have lx:Le x.i.look x.s.e s.e:=fun n hn v hv=>by
  have:=ax1 n hn v hv
  rwa [Tr.eff,Ep ny (yu d1 hn)] at this
 have ly:Le y.i.look y.s.e (x.eff s).e:=fun n hn v hv=>by
  have h1:=ay1 n hn v hv;rcases nx with nx | nx
  ·rw [Tr.eff,Ep nx (yu d2 hn)]
   exact h1
  ·simp only [Tr.eff,Tr.eeff,wa,if_neg (yu d2 hn),xl]
   cases hk:x.i.op.kill x.s.e x.v with
   | none=>exact h1
   | some j=>
    obtain ⟨l1,l2,sh,a,l3⟩:=Uq nx;have hj:=a17 hk
    have hnt:n∈y.i.op.temps:=by
     unfold Ins.look at hn;rw [l2] at hn
     simpa using hn
    have hb:b=true:=by
     have c1:y.i.op.cls=.r:=by rw [l3]; rfl
     have c2:x.i.op.cls=.w:=by
      cases hop:x.i.op <;> rw [hop] at hk <;> first | rfl | (simp only [Op.kill] at hk; cases hk)
     rw [c1,c2] at hc
     simpa [nr] using hc.symm
    have hcl:s.e.clear j n=true:=(Ha h1).2 fun hi=>hap hb j (wk hnt hv hi) hj
    simp only [hcl,if_true];exact h1
 have es:∀n,(y.eff (x.eff s)).e.get n=(x.eff (y.eff s)).e.get n:=by
  intro n;rcases nx with nx | nx
  ·simp only [Tr.eff,At ny,At nx]
   by_cases h1:y.i.dst=some n
   ·have h2:=Me d3 h1
    simp only [h1,h2,if_true,if_false]
   ·simp only [h1,if_false]
  ·show (y.eeff (x.eeff s.e)).get n=(x.eeff (y.eeff s.e)).get n
   rw [At ny,Ho x (y.eeff s.e),Ho x s.e]
   by_cases h1:y.i.dst=some n
   ·have h2:=Me d3 h1
    obtain ⟨d,hd⟩:=a4s vy aya nx h1;have hg:(y.eeff s.e).get n=some y.v:=by rw [At ny,if_pos h1]
    rw [if_pos h1,if_neg h2];cases hk:x.i.op.kill x.s.e x.v with
    | none=>exact hg.symm
    | some j=>
     have hcl:(y.eeff s.e).clear j n=true:=(Ha hg).2 (by rw [hd]; simp [V.refs])
     simp only [hcl,if_true];exact hg.symm
   ·rw [if_neg h1]
    by_cases h2:x.i.dst=some n
    ·rw [if_pos h2,if_pos h2]
    ·rw [if_neg h2,if_neg h2]
     have hg:(y.eeff s.e).get n=s.e.get n:=Ep ny h1;cases hk:x.i.op.kill x.s.e x.v with
     | none=>exact hg.symm
     | some j=>
      have hcl:(y.eeff s.e).clear j n=s.e.clear j n:=by unfold Env.clear; rw [hg]
      simp only [hcl,hg]
 -- what is laid
 have tx:∀i∈x.T,Laid s.h i:=fun i hi=>hp.refsOf (Le.sub lx fun n hn=>by simp [Ins.look,hn]) hi
 have ty:∀i∈y.T,Laid s.h i:=fun i hi=>hp.refsOf (Le.sub ay1 fun n hn=>by simp [Ins.look,hn]) hi
 have ky:∀i,Laid s.h i→Laid (y.heff s.h) i:=vy.keep s aya hp;have ax3':x.hag (y.heff s.h):=ax3
 have hm:x.hag s.h∧y.hag (x.heff s.h)∧y.heff (x.heff s.h)=x.heff (y.heff s.h):=by
  cases hyx:y.k.isX with
  | true=>
   rcases a4x vy vx hc hyx with hk | hk
   ·simp only [Tr.hag,Tr.heff,hk] at ay3 ⊢
    exact ⟨trivial,ay3,trivial⟩
   ·simp only [Tr.hag,Tr.heff,hk] at ay3 ⊢
    exact ⟨trivial,ay3,trivial⟩
  | false=>
   cases hxx:x.k.isX with
   | true=>
    rcases a1z vy vx hc hxx with hk | hk
    ·simp only [Tr.hag,Tr.heff,hk] at ax3' ⊢
     exact ⟨ax3',trivial,trivial⟩
    ·simp only [Tr.hag,Tr.heff,hk] at ax3' ⊢
     exact ⟨ax3',trivial,trivial⟩
   | false=>
    -- both reach the same place only if they are told to be apart
    have two:∀i,i∈y.T→i∈x.T→(y.i.op.cls=.s∨y.i.op.cls=.w∨(y.i.op.cls=.r∧(x.i.op.cls=.s∨x.i.op.cls=.w)))→(x.i.op.cls=.r∨x.i.op.cls=.s∨x.i.op.cls=.w)→False:=by
     intro i h1 h2 h3 h4
     have hb:b=true:=by
      rcases h3 with h3 | h3 | ⟨h3,h5⟩
      ·rcases h4 with h4 | h4 | h4 <;> rw [h3,h4] at hc <;> simpa [nr] using hc.symm
      ·rcases h4 with h4 | h4 | h4 <;> rw [h3,h4] at hc <;> simpa [nr] using hc.symm
      ·rcases h5 with h5 | h5 <;> rw [h3,h5] at hc <;> simpa [nr] using hc.symm
     exact hap hb i h1 h2
    have D1:∀i,y.k.wr i→¬ x.k.rd x.T i:=by
     intro i hw hr;rcases a40 vy hyx ay3 hw with ⟨w1,w2⟩ | ⟨w1,w2⟩
     ·rcases a0r vx hxx ax3' hr with ⟨r1,r2⟩ | ⟨r1,_⟩
      ·exact two i w1 r1 (w2.imp id .inl) r2
      ·exact t8 r1 (ky i (ty i w1))
     ·rcases a0r vx hxx ax3' hr with ⟨r1,r2⟩ | ⟨r1,_⟩
      ·exact t8 w1 (tx i r1)
      ·exact t8 r1 w2
    have D2:∀i,x.k.wr i→¬ y.k.rd y.T i:=by
     intro i hw hr;rcases a40 vx hxx ax3' hw with ⟨w1,w2⟩ | ⟨w1,w2⟩
     ·rcases a0r vy hyx ay3 hr with ⟨r1,r2⟩ | ⟨r1,_⟩
      ·refine two i r1 w1 ?_ (.inr w2)
       rcases r2 with r2 | r2 | r2
       ·exact .inr (.inr ⟨r2,w2⟩)
       ·exact .inl r2
       ·exact .inr (.inl r2)
      ·exact t8 r1 (tx i w1)
     ·rcases a0r vy hyx ay3 hr with ⟨r1,r2⟩ | ⟨r1,r2⟩
      ·exact t8 w1 (ky i (ty i r1))
      ·rcases a40 vy hyx ay3 r2 with ⟨q1,q2⟩ | ⟨q1,q2⟩
       ·exact t8 r1 (ty i q1)
       ·exact t8 w1 q2
    have rw_:∀{t:Tr},t.Valid O np→t.k.isX=false→∀i,t.k.wr i→t.k.rd t.T i:=by
     intro t vt ht i hi;have vc:=vt.cls;cases hk:t.k with
     | off | z | r=>rw [hk] at hi; exact hi.elim
     | a j b=>rw [hk] at hi; exact hi
     | s j b=>
      rw [hk] at hi;simp only [hk] at vc;obtain rfl:i=j:=hi;exact vc.2.2
     | w W h'=>rw [hk] at hi; exact hi
     | x h'=>rw [hk] at ht; cases ht
    refine ⟨a5y hxx (fun i hi=>(yq hyx (fun hw=>D1 i hw hi) s.h).symm) ax3',a5y hyx (fun i hi=>yq hxx (fun hw=>D2 i hw hi) s.h) ay3,fh fun i=>?_⟩
    by_cases hw:x.k.wr i
    ·have h1:¬ y.k.wr i:=fun h=>D1 i h (rw_ vx hxx i hw)
     rw [yq hyx h1,Yy hxx (yq hyx h1 s.h)]
    ·rw [yq hxx hw,Yy hyx (yq hxx hw s.h)]
 exact ⟨⟨lx,hm.1⟩,⟨ly,hm.2.1⟩,⟨hm.2.2,es⟩⟩
end Pe

namespace Pe
open Go
variable {P:Program} {num:Nat→Nat}
def Chain:List Tr→St→St→Prop
 | [],s,s'=>Sim s s'
 | t::L,s,s'=>t.ag s∧Chain L (t.eff s) s'
theorem Chain.sim:∀{L:List Tr} {s t s':St},Sim s t→Chain L s s'→Chain L t s'
 | [],_,_,_,h,g=>h.symm.trans g
 | x::_L,_s,_t,_s',h,g=>⟨h.ag g.1,Chain.sim (h.eff x) g.2⟩
def Ind (y x:Tr):Prop:=Tf y.i x.i=true∧∃b,nr y.i.op.cls x.i.op.cls=some b∧(b=true→∀i∈y.T,i ∉ x.T)
theorem abs {O:ah} {np:Nat} {x:Tr} {post:List Tr} {s':St} (vx:x.Valid O np):∀{pre:List Tr} {s:St},PI s→(∀t∈pre,t.Valid O np)→Chain (pre++x::post) s s'→(∀y∈pre,Ind y x)→x.ag s∧Chain (pre++post) (x.eff s) s'
 | [],s,_,_,hc,_=>hc
 | y::pre,s,hp,hv,hc,hi=>by
  have vy:=hv y (by simp)
  obtain ⟨ay,hc⟩:=hc;obtain ⟨ax,hc'⟩:=abs vx (pre:=pre) (vy.laid s ay hp) (fun t ht=>hv t (by simp [ht])) hc (fun z hz=>hi z (by simp [hz]))
  obtain ⟨i1,b,i2,i3⟩:=hi y (by simp)
  obtain ⟨g1,g2,g3⟩:=swap hp vy vx ay ax i1 i2 i3;exact ⟨g1,g2,Chain.sim g3.symm hc'⟩
def Seq:List Tr→St→St→Prop
 | [],s,s'=>s=s'
 | t::L,s,s'=>t.s=s∧t.ag s∧t.i.side s.e=true∧Seq L (t.eff s) s'
theorem Seq.chain:∀{L:List Tr} {s s':St},Seq L s s'→Chain L s s'
 | [],_,_,h=>h▸Sim.refl _
 | _::_,_,_,h=>⟨h.2.1,Seq.chain h.2.2.2⟩
theorem a86 {O:ah} {np:Nat}:∀{is:List Ins} {s s':St},i7 O np is s=some s'→∃L:List Tr,L.map (·.i)=is∧(∀t∈L,t.Valid O np)∧Seq L s s'
 | [],s,s',h=>by
  simp only [i7,a8] at h;exact ⟨[],rfl,by simp,h⟩
 | i::is,s,s',h=>by
  simp only [i7] at h;obtain ⟨s1,h1,h⟩:=a5.1 h;obtain ⟨L,g1,g2,g3⟩:=a86 h
  have hside:i.side s.e=true:=by
   unfold se at h1
   split at h1
   ·assumption
   ·cases h1
  obtain ⟨t,e1,e2,e3,e4,e5⟩:=aiq (Qn h1);exact ⟨t::L,by simp [e1,g1],by simpa using ⟨e5,g2⟩,e2,e3,by rw [e1]; exact hside,by rw [e4]; exact g3⟩
theorem Yc {i:Ins} {e:Env} (h:i.side e=true) {n:Nat} (hn:n∈i.apart) {v:V} (hv:e.get n=some v) {j:Nat} (hj:j∈v.refs):j ∉ e.refsOf i.op.temps:=by
 intro hx;have hmem:j∈e.refsOf i.apart:=wk hn hv hj;unfold Ins.side at h
 have hne:i.apart.isEmpty=false:=by
  cases hq:i.apart with
  | nil=>rw [hq] at hn; simp at hn
  | cons _ _=>rfl
 rw [hne] at h;simp only [Bool.false_or] at h;have h1:=fe.1 h j hmem;simp only [gh,List.any_eq_false,beq_iff_eq] at h1;exact h1 j hx rfl
theorem Seq.keeps {ns:List Nat}:∀{mid:List Tr} {x:Tr} {post:List Tr} {s s':St},Seq (mid++x::post) s s'→(∀z∈mid,(z.i.op.isAppend=false∨∀n∈ns,n∈z.i.apart)∧Ins.free z.i.dst ns=true)→x.s=x.s∧x.i.side x.s.e=true∧∀n∈ns,x.s.e.get n=s.e.get n
 | [],x,post,s,s',h,_=>by
  obtain ⟨rfl,_,h2,_⟩:=h;exact ⟨rfl,h2,fun _ _=>rfl⟩
 | z::mid,x,post,s,s',h,hm=>by
  obtain ⟨hzs,_,hside,h⟩:=h;obtain ⟨_,h2,h3⟩:=Seq.keeps h fun y hy=>hm y (by simp [hy])
  obtain ⟨m1,m2⟩:=hm z (by simp)
  refine ⟨rfl,h2,fun n hn=>(h3 n hn).trans ?_⟩
  rw [Tr.eff];rcases m1 with m1 | m1
  ·exact Ep m1 (yu m2 hn)
  ·show (z.eeff s.e).get n=s.e.get n
   rw [Ho,if_neg (yu m2 hn)];cases hk:z.i.op.kill z.s.e z.v with
   | none=>rfl
   | some j=>
    have hj:=a17 hk;rw [hzs] at hj;cases hv:s.e.get n with
    | none=>
     have hcl:s.e.clear j n=true:=by unfold Env.clear; rw [hv]
     simp only [hcl,if_true]
    | some v=>
     have hcl:s.e.clear j n=true:=(Ha hv).2 fun hi=>Yc hside (m1 n hn) hv hi hj
     simp only [hcl,if_true]
theorem Seq.apart:∀{pre:List Tr} {y x:Tr} {mid post:List Tr} {s s':St},Seq (pre++y::(mid++x::post)) s s'→(∀z∈y::mid,(z.i.op.isAppend=false∨∀n∈y.i.op.temps,n∈z.i.apart)∧Ins.free z.i.dst y.i.op.temps=true)→(∀n∈y.i.op.temps,n∈x.i.apart)→∀i∈y.T,i ∉ x.T
 | z::pre,y,x,mid,post,s,s',h,hm,ha=>Seq.apart (pre:=pre) h.2.2.2 hm ha
 | [],y,x,mid,post,s,s',h,hm,ha=>by
  intro i hi hx;have hys:y.s=s:=h.1;obtain ⟨_,hside,hk⟩:=Seq.keeps (ns:=y.i.op.temps) (mid:=y::mid) (s:=s) h hm;obtain ⟨n,hn,v,hv,hiv⟩:=Ed hi;have hn':=ha n hn;have hxv:x.s.e.get n=some v:=by rw [hk n hn,←hys]; exact hv
  have hmem:i∈x.s.e.refsOf x.i.apart:=wk hn' hxv hiv;unfold Ins.side at hside
  have hne:x.i.apart.isEmpty=false:=by
   cases hq:x.i.apart with
   | nil=>rw [hq] at hn'; simp at hn'
   | cons _ _=>rfl
  rw [hne] at hside;simp only [Bool.false_or] at hside;have h1:=fe.1 hside i hmem;simp only [gh,List.any_eq_false,beq_iff_eq] at h1;exact h1 i hx rfl
def ael (acc:List Nat) (o:Oper):Nat:=o.after.toList.foldr (fun e m=>if Region.binds .any e then m ||| (1 <<< e.on) ||| acc.getD e.on 0 else m) 0
def B9:List Oper→List Nat→List Nat
 | [],acc=>acc
 | o::os,acc=>B9 os (acc++[ael acc o])
def Xi (is:List Ins) (ky kx:Nat) (y x:Ins):Bool:=
 Tf y x&&match nr y.op.cls x.op.cls with
  | some false=>true
  | some true=>y.op.temps.all (x.apart.contains ·)&&((is.drop ky).take (kx-ky)).all fun z=>(!z.op.isAppend||y.op.temps.all (z.apart.contains ·))&&Ins.free z.dst y.op.temps
  | none=>false
def Y0 (ops:List Oper) (is:List Ins):Bool:=
 let ms:=B9 ops []
 (List.range is.length).all fun kx=>match ops[kx]?,is[kx]? with
  | some o,some x=>(o.after.toList.all fun e=>!Region.binds .any e||decide (e.on<kx)) &&
   (List.range kx).all fun ky=>(ms.getD kx 0).testBit ky||match is[ky]? with | some y=>Xi is ky kx y x | none=>false
  | _,_=>false
def Yb (ops:List Oper) (L:Nat→Prop):Prop:=∀(k:Nat) o,ops[k]? = some o→L k→∀e∈o.after.toList,Region.binds .any e=true→L e.on
def Gj (ops:List Oper) (acc:List Nat):Prop:=
 ∀(k m:Nat),acc[k]? = some m→∀o,ops[k]? = some o→∀L,Yb ops L→(∀e∈o.after.toList,Region.binds .any e=true→L e.on)→∀y,m.testBit y=true→L y
theorem Vj {ops:List Oper} {acc:List Nat} (hl:acc.length≤ops.length) (hg:Gj ops acc) {L:Nat→Prop} (hL:Yb ops L) (es:List Edge) (hes:∀e∈es,Region.binds .any e=true→L e.on) (y:Nat)
 (hy:(es.foldr (fun e m=>if Region.binds .any e then m ||| (1 <<< e.on) ||| acc.getD e.on 0 else m) 0).testBit y=true):L y:=by
 induction es with
 | nil=>simp at hy
 | cons e es ih=>
  have ih':=ih fun e' he'=>hes e' (by simp [he'])
  simp only [List.foldr_cons] at hy
  split at hy
  ·rename_i hb
   simp only [Nat.testBit_or,Bool.or_eq_true] at hy;have he:=hes e (by simp) hb
   rcases hy with (hy | hy) | hy
   ·exact ih' hy
   ·have:e.on=y:=by
     rw [Nat.shiftLeft_eq,Nat.one_mul,Nat.testBit_two_pow] at hy
     simpa using hy
    exact this▸he
   ·by_cases hk:e.on<acc.length
    ·have h1:acc[e.on]? = some acc[e.on]:=au hk
     have h2:acc.getD e.on 0=acc[e.on]:=by simp [cx,h1]
     have h3:ops[e.on]? = some ops[e.on]:=au (by omega)
     rw [h2] at hy;exact hg e.on _ h1 _ h3 L hL (fun e' he' hb'=>hL e.on _ h3 he e' he' hb') y hy
    ·have h1:acc[e.on]? = none:=cb (by omega)
     simp [cx,h1] at hy
  ·exact ih' hy
theorem Ir {ops:List Oper}:∀(os:List Oper) (acc:List Nat),(∃pre,ops=pre++os∧pre.length=acc.length)→Gj ops acc→Gj ops (B9 os acc)
 | [],acc,_,hg=>hg
 | o::os,acc,⟨pre,e,hl⟩,hg=>by
  refine Ir os _ ⟨pre++[o],by simp [e],by simp [hl]⟩ ?_
  intro k m hk o' ho' L hL hp y hy;rcases dm k acc.length with h | h
  ·rw [cd h] at hk
   exact hg k m hk o' ho' L hL hp y hy
  ·rw [ci h] at hk
   have hk0:k-acc.length=0:=by
    rcases kt (k-acc.length) with h0 | h0
    ·exact h0
    ·rw [cb (by simp only [bv,cw]; omega)] at hk; cases hk
   rw [hk0] at hk;simp only [gn,a8] at hk;subst hk;have hkl:k=pre.length:=by omega
   have:o'=o:=by
    rw [e,hkl,ci (ba _),nz] at ho'
    simpa using ho'.symm
   subst this;exact Vj (by rw [e]; simp; omega) hg hL _ hp y hy
theorem Wn (ops:List Oper):Gj ops (B9 ops []):=
 Ir ops [] ⟨[],rfl,rfl⟩ (by intro k m hk; simp at hk)
def t0:Tr:=⟨default,⟨[],[]⟩,.off,default⟩
theorem SR.pi {C:Cx} {φ:Loc} {s:St} {tmps:Array Value} (hs:SR C φ s tmps):PI s:=by
 intro n v hn i hi;obtain ⟨u,_,h⟩:=hs.env n v hn;exact RX.refs v u h i hi
theorem SR.sim {C:Cx} {φ:Loc} {s t:St} {tmps:Array Value} (hs:SR C φ s tmps) (h:Sim s t):SR C φ t tmps:=
 ⟨h.h▸hs.hr,hs.bd,fun n v hn=>by rw [←h.e n] at hn; rw [←h.h]; exact hs.env n v hn⟩
theorem getD_some {α:Type} {l:List α} {d:α} {k:Nat} {x:α} (h:l[k]? = some x):l.getD k d=x:=by
 rw [cx,h]; rfl
theorem a3i {O:ah} {ops:Array Oper} {N np:Nat} {Q:Exit→Act→World→Prop} {is:List Ins} (hok:B7 P num ops N is ops.toList=true) (hdr:Y0 ops.toList is=true) (hO:nu P num O)
 {L:List Tr} (hL:L.map (·.i)=is) (hV:∀t∈L,t.Valid O np) {s0 s':St} (hseq:Seq L s0 s') :
 ∀(fuel:Nat) (listed:Array Bool) (rem:List Nat) (C:Cx) (φ:Loc) (s:St) (a:Act),rem.length=fuel→rem.Pairwise (· < ·)→listed.size=ops.size→(∀j,j∈rem↔listed[j]? = some false) →
 Yb ops.toList (fun j=>listed[j]? = some true)→C.num=num→SR C φ s a.tmps→N≤a.tmps.size→Chain (rem.map fun k=>L.getD k t0) s s' →
 (∀C' φ' a',C'.num=num→Runs np C C' φ φ' s.h s'.h→SR C' φ' s' a'.tmps→a'.tmps.size=a.tmps.size→a'.defers=a.defers→Q .normal a' C'.w)→wpAny P .any ops Q fuel listed a C.w:=by
 obtain ⟨hlen,hget⟩:=wz hok;have hLlen:L.length=is.length:=by rw [←hL]; simp
 have hol:ops.toList.length=ops.size:=by simp
 intro fuel
 induction fuel with
 | zero=>
  intro listed rem C φ s a hrl _ _ hrem _ hC hs hN hch hQ;have:rem=[]:=d8.1 hrl;subst this;simp only [ij,Chain] at hch;refine ⟨?_,?_⟩
  ·apply List.eq_nil_iff_forall_not_mem.2
   intro j hj;have h1:=(mem_ready.1 hj).1
   have:listed[j]? = some false:=by
    cases hq:listed[j]? with
    | none=>rw [f5,hq] at h1; cases h1
    | some b=>rw [f5,hq] at h1; simpa using h1
   have:=(hrem j).2 this;simp at this
  ·refine hQ C φ a hC ?_ (hs.sim hch) rfl rfl
   rw [←hch.h];exact .refl np hs.hr hs.bd
 | succ fuel ih=>
  intro listed rem C φ s a hrl hsort hsz hrem hcl hC hs hN hch hQ
  have hlt:∀j,j∈rem→j<ops.size:=by
   intro j hj;have:=(hrem j).1 hj;rw [←hsz]; exact (fo.1 this).1
  -- a line's facts
  have hline:∀j,j<ops.size→∃t i o,L[j]? = some t∧is[j]? = some i∧t.i=i∧ops[j]? = some o∧t.Valid O np∧Pp P num ops N i o=true:=by
   intro j hj;have hjL:j<L.length:=by omega
   have e1:L[j]? = some L[j]:=au hjL;have e2:is[j]? = some L[j].i:=by rw [←hL,gi,e1]; rfl
   have e3:ops.toList[j]? = some ops.toList[j]:=au (by omega)
   exact ⟨L[j],L[j].i,ops.toList[j],e1,e2,rfl,by simp,hV _ (bj hjL),hget j _ _ e2 e3⟩
  have hdr':∀kx,kx<ops.size→∀o x,ops[kx]? = some o→is[kx]? = some x→(∀e∈o.after.toList,Region.binds .any e=true→e.on<kx)∧∀ky,ky<kx→((B9 ops.toList []).getD kx 0).testBit ky=true∨∃y,is[ky]? = some y∧Xi is ky kx y x=true:=by
   intro kx hkx o x ho hx;unfold Y0 at hdr;have h1:=fe.1 hdr kx (ph.2 (by omega))
   have ho':ops.toList[kx]? = some o:=by simpa using ho
   rw [ho',hx] at h1;simp only [av] at h1;refine ⟨fun e he hb=>?_,fun ky hky=>?_⟩
   ·have:=fe.1 h1.1 e he
    simpa [hb] using this
   ·have:=fe.1 h1.2 ky (ph.2 hky)
    simp only [Bool.or_eq_true] at this;refine this.imp id fun h=>?_
    split at h
    ·rename_i y hy; exact ⟨y,hy,h⟩
    ·cases h
  refine ⟨fun h0=>?_,fun i hi=>?_⟩
  ·-- the first line that is left is ready
   exfalso;cases rem with
   | nil=>simp at hrl
   | cons r rem=>
    have hr:r<ops.size:=hlt r (by simp)
    obtain ⟨t,ir,o,e1,e2,e3,e4,_⟩:=hline r hr
    have hmem:r∈Region.ready .any ops listed:=by
     rw [mem_ready];have h1:=(hrem r).1 (by simp)
     refine ⟨by rw [f5,h1]; rfl,o,e4,fun e he hb=>?_⟩
     have hon:=(hdr' r hr o ir e4 e2).1 e (by simpa using he) hb
     have hnot:e.on ∉ r::rem:=by
      intro hm;rcases dk.1 hm with rfl | hm
      ·omega
      ·have:=List.rel_of_pairwise_cons hsort hm
       omega
     have hin:e.on<listed.size:=by omega
     have h2:listed[e.on]? = some listed[e.on]:=lg hin;rw [f5,h2];cases hq:listed[e.on] with
     | true=>rfl
     | false=>exact absurd ((hrem e.on).2 (by rw [h2,hq])) hnot
    rw [h0] at hmem;simp at hmem
  ·obtain ⟨hun,o,ho,hpre⟩:=mem_ready.1 hi
   have hil:i<ops.size:=(fo.1 ho).1
   have hif:listed[i]? = some false:=by
    have h2:listed[i]? = some (listed[i]'(by omega)):=lg (by omega)
    rw [f5,h2] at hun;rw [h2]; exact congrArg some hun
   have hirem:=(hrem i).2 hif;obtain ⟨pre,post,rfl⟩:=List.append_of_mem hirem;obtain ⟨t,ii,o',e1,e2,e3,e4,e5,e6⟩:=hline i hil;obtain rfl:o'=o:=bc (e4.symm.trans ho)
   have hpreL:∀e∈o'.after.toList,Region.binds .any e=true→listed[e.on]? = some true:=by
    intro e he hb;have:=hpre e (by simpa using he) hb
    cases hq:listed[e.on]? with
    | none=>rw [f5,hq] at this; cases this
    | some b=>rw [f5,hq] at this; simpa using this
   have hsort':=i9.1 hsort
   have hind:∀y∈pre,Ind (L.getD y t0) (L.getD i t0):=by
    intro y hy;have hyi:y<i:=hsort'.2.2 y hy i (by simp)
    have hyrem:y∈pre++i::post:=by simp [hy]
    obtain ⟨ty,iy,oy,y1,y2,y3,y4,y5,y6⟩:=hline y (by omega)
    rcases (hdr' i hil o' ii ho e2).2 y hyi with h1 | ⟨y',h1,h2⟩
    ·exfalso
     have hm:(B9 ops.toList [])[i]? = some ((B9 ops.toList []).getD i 0):=by
      cases hq:(B9 ops.toList [])[i]? with
      | none=>rw [cx,hq] at h1; simp at h1
      | some m=>rw [getD_some hq]
     have:=Wn ops.toList i _ hm o' (by simpa using ho) _ hcl hpreL y h1
     rw [(hrem y).1 hyrem] at this;cases this
    ·obtain rfl:y'=iy:=bc (h1.symm.trans y2)
     rw [getD_some y1,getD_some e1];unfold Xi at h2;simp only [av] at h2;obtain ⟨p1,p2⟩:=h2;rw [←y3,←e3] at p1 p2;refine ⟨p1,?_⟩
     split at p2
     ·rename_i hc
      exact ⟨false,hc,by simp⟩
     ·rename_i hc
      refine ⟨true,hc,fun _=>?_⟩
      simp only [av] at p2;obtain ⟨q1,q2⟩:=p2
      -- the text between them
      have hyl:y<L.length:=by omega
      have hil':i<L.length:=by omega
      have split1:L=L.take y++L[y]::(((L.drop (y+1)).take (i-y-1))++L[i]::L.drop (i+1)):=by
       have s1:L.drop (y+1)=(L.drop (y+1)).take (i-y-1)++(L.drop (y+1)).drop (i-y-1):=(kw _ _).symm
       have s2:(L.drop (y+1)).drop (i-y-1)=L[i]::L.drop (i+1):=by
        rw [ik,show y+1+(i-y-1)=i by omega,bu hil']
       have s3:L.drop (y+1)=(L.drop (y+1)).take (i-y-1)++L[i]::L.drop (i+1):=s1.trans (by rw [s2])
       have s4:L=L.take y++L[y]::L.drop (y+1):=by rw [←bu hyl,kw]
       exact s4.trans (congrArg (fun q=>L.take y++L[y]::q) s3)
      have ey:L[y]=ty:=bc ((au hyl).symm.trans y1);have ei:L[i]=t:=bc ((au hil').symm.trans e1);rw [ey,ei] at split1;have hseq':=hseq;rw [split1] at hseq';refine Seq.apart hseq' ?_ ?_
      ·intro z hz
       have hz':z∈(L.drop y).take (i-y):=by
        rw [bu hyl,ey,show i-y=(i-y-1)+1 by omega,io]
        exact hz
       have hzi:z.i∈(is.drop y).take (i-y):=by
        rw [←hL,←List.map_drop,←List.map_take];exact jy hz'
       have:=fe.1 q2 z.i hzi
       simpa using this
      ·intro n hn
       have:=fe.1 q1 n hn
       simpa using this
     ·cases p2
   have hvp:∀t∈pre.map (fun k=>L.getD k t0),t.Valid O np:=by
    intro t ht;obtain ⟨y,hy,rfl⟩:=cj.1 ht;obtain ⟨ty,_,_,y1,_,_,_,y5,_⟩:=hline y (hlt y (by simp [hy]))
    rw [getD_some y1]; exact y5
   rw [fd,om] at hch
   obtain ⟨hag,hch'⟩:=abs (by rw [getD_some e1]; exact e5) hs.pi hvp hch (by
    intro t ht;obtain ⟨y,hy,rfl⟩:=cj.1 ht;exact hind y hy)
   rw [getD_some e1] at hag hch';have hex:=e5.exec s hag;rw [e3] at hex;refine Hh (hC▸hO) hs hN (hC▸e6) ho hex fun C' φ' u rn hs'=>?_
   have hC':C'.num=num:=rn.st.le.num.trans hC;have hnd:(pre++i::post).Nodup:=hsort.imp fun h=>by omega
   have hgetset:∀j:Nat,(listed.setIfInBounds i true)[j]? = if j=i then some true else listed[j]?:=by
    intro j;rw [jw]
    by_cases hij:i=j
    ·subst hij; simp [hsz,hil]
    ·rw [if_neg hij,if_neg (jo hij)]
   refine ih (listed.setIfInBounds i true) (pre++post) C' φ' _ _ (by simp at hrl ⊢; omega) ?_ (by simpa using hsz) ?_ ?_ hC' hs' (by rw [ud]; exact hN) (by rw [fd]; exact hch') ?_
   ·exact hsort.sublist (List.Sublist.append (List.Sublist.refl _) (List.sublist_cons_self _ _))
   ·intro j
    rw [hgetset]
    by_cases hij:j=i
    ·subst hij
     rw [if_pos rfl];refine ⟨fun h=>?_,fun h=>by cases h⟩
     have hn:=List.nodup_append.1 hnd;rcases bp.1 h with h | h
     ·exact absurd rfl (hn.2.2 j h j (by simp))
     ·exact absurd h (lj.1 hn.2.1).1
    ·rw [if_neg hij,←hrem j]
     simp [hij]
   ·intro k o2 hk hkl e he hb
    rw [hgetset] at hkl ⊢
    by_cases hei:e.on=i
    ·rw [if_pos hei]
    ·rw [if_neg hei]
     by_cases hki:k=i
     ·subst hki
      have:o2=o':=by
       have h2:ops[k]? = some o2:=by simpa using hk
       exact bc (h2.symm.trans ho)
      subst this;exact hpreL e he hb
     ·rw [if_neg hki] at hkl
      exact hcl k o2 hk hkl e he hb
   ·intro C2 φ2 a2 h2 rn2 hs2 z2 d2
    refine hQ C2 φ2 a2 h2 (rn.trans rn2) hs2 (by rw [z2,ud]) ?_
    rw [d2];cases o'.dst <;> rfl
end Pe

namespace Pe
open Go
variable {P:Program} {num:Nat→Nat}
def ju (P:Program) (num:Nat→Nat) (N:Nat):Cd→Code→Bool
 | .skip,.skip=>true
 | .region is _,.region _ ops draw=>B7 P num ops N is ops.toList&&(if draw then Y0 ops.toList is else true)
 | .seq a b,.seq x y=>ju P num N a x&&ju P num N b y
 | .cond c a b,.cond c' x y=>ef num c c'&&ju P num N a x&&ju P num N b y
 | .block i c,.block j x=>i == j&&ju P num N c x
 | .loop c,.loop x=>ju P num N c x
 | .exit i,.exit j=>i == j
 | .ret,.ret=>true
 | _,_=>false
def Out.exit':Out→Exit
 | .normal=>.normal
 | .exit id=>.exit id
 | .ret=>.ret
def ab2 (num:Nat→Nat) (np:Nat) (Q:Exit→Act→World→Prop) (o:Out) (C:Cx) (φ:Loc) (h:Heap) (s':St) (a:Act):Prop:=
 ∀C' φ' a',C'.num=num→Runs np C C' φ φ' h s'.h→SR C' φ' s' a'.tmps→a'.tmps.size=a.tmps.size→a'.defers=a.defers→Q o.exit' a' C'.w
theorem Qr {O:ah} {np N:Nat} (hO:nu P num O) (hm:P.follows .mixedOrders=true) {is:List Ins} {ks:List Nat} {id:Nat} {ops:Array Oper} {draw:Bool} (hok:ju P num N (.region is ks) (.region id ops draw)=true)
 {C:Cx} {φ:Loc} {s s1:St} {a:Act} (hC:C.num=num) (hs:SR C φ s a.tmps) (hN:N≤a.tmps.size) (he:i7 O np is s=some s1) {Q:Exit→Act→World→Prop}
 (hQ:ab2 num np Q .normal C φ s.h ⟨s1.e.keep ks,ug (s1.e.keep ks) np 0 s1.h⟩ a):(Code.region id ops draw).wp P Q a C.w:=by
 simp only [ju,av] at hok;obtain ⟨hok,hdr⟩:=hok;have hlen:=(wz hok).1
 have hend:∀C' φ' a',C'.num=num→Runs np C C' φ φ' s.h s1.h→SR C' φ' s1 a'.tmps→a'.tmps.size=a.tmps.size→a'.defers=a.defers→Q .normal a' C'.w:=by
  intro C' φ' a' h1 h2 h3 h4 h5;obtain ⟨r1,r2⟩:=Ln np h3 ks;exact hQ C' φ' a' h1 (h2.trans r1) r2 h4 h5
 cases draw with
 | false=>
  refine wp_region ?_;have:=Oz (Q:=Q) hok hO is.length 0 (by omega) C φ s s1 a hC hs hN (by simpa using he) hend
  rw [hlen] at this;rw [List.range_eq_range']
  simpa using this
 | true=>
  simp only [if_true] at hdr;refine wp_region_any hm ?_;obtain ⟨st,k⟩:=a37 (w':={ C.w with drawn:=C.w.drawn+1 }) hs.hr hs.bd ⟨rfl,rfl,rfl,rfl⟩
  have hs':SR { C with w:={ C.w with drawn:=C.w.drawn+1 } } φ s a.tmps:=⟨st.hr,st.bd,fun n v hn=>by
   obtain ⟨u,h1,h2⟩:=hs.env n v hn;exact ⟨u,h1,k v u (by simp) h2⟩⟩
  obtain ⟨L,g1,g2,g3⟩:=a86 he
  have hLl:L.length=ops.size:=by
   have:L.length=is.length:=by rw [←g1]; simp
   rw [this,hlen]; simp
  refine a3i (s0:=s) (s':=s1) hok hdr hO g1 g2 g3 ops.size (Array.replicate ops.size false) (List.range ops.size) { C with w:={ C.w with drawn:=C.w.drawn+1 } } φ s a (by simp) List.pairwise_lt_range (by simp) ?_ ?_ hC hs' hN ?_ ?_
  ·intro j
   rw [ph,Array.getElem?_replicate]
   split <;> simp_all
  ·intro k o hk hkl
   rw [Array.getElem?_replicate] at hkl
   split at hkl <;> simp at hkl
  ·have:(List.range ops.size).map (fun k=>L.getD k t0)=L:=by
    apply fh;intro i;rw [gi]
    by_cases hi:i<ops.size
    ·rw [gt hi,db,au (by omega)]
     rw [getD_some (au (by omega))]
    ·rw [cb (by simpa using hi),cb (by omega)]; rfl
   rw [this];exact g3.chain
  ·intro C' φ' a' h1 h2 h3 h4 h5
   exact hend C' φ' a' h1 (Runs.trans ⟨st,k.mono (by simp)⟩ h2) h3 h4 h5
theorem Ox {p:Nat→Prop}:∀{m:Nat},p m→∃m,p m∧∀k,p k→m≤k:=by
 intro m
 induction m using Nat.strongRecOn with
 | _ m ih=>
  intro h
  by_cases hx:∃k,k<m∧p k
  ·obtain ⟨k,hk,hp⟩:=hx
   exact ih k hk hp
  ·exact ⟨m,h,fun k hk=>Nat.le_of_not_lt fun hl=>hx ⟨k,hl,hk⟩⟩
theorem a1f {c:Code} {Q:Exit→Act→World→Prop} (R:Nat→Act→World→Prop) (round:∀m a w,R m a w→c.wp P (Exit.then (fun a' w'=>∃m',m'<m∧R m' a' w') Q) a w) {m:Nat} {a:Act} {w:World} (h0:R m a w) :
 (Code.loop c).wp P Q a w:=by
 have hl:∀a w,(∃m,R m a w)→∃m,R m a w∧∀k,R k a w→m≤k:=fun a w ⟨m,h⟩=>Ox (p:=fun m=>R m a w) h
 let μ:Act→World→Nat:=fun a w=>by
  classical
  exact if h:∃m,R m a w then Classical.choose (hl a w h) else 0
 have hμ:∀a w,(∃m,R m a w)→R (μ a w) a w∧∀k,R k a w→μ a w≤k:=by
  intro a w h;have:=dw (hl a w h);simp only [μ,h,dite_true];exact this
 refine wp_loop (fun a w=>∃m,R m a w) μ ⟨m,h0⟩ fun a w hI=>?_
 refine wp_mono (round (μ a w) a w (hμ a w hI).1) fun e a' w' hq=>?_
 cases e with
 | normal=>
  obtain ⟨m',hm',hR⟩:=hq;exact ⟨⟨m',hR⟩,Nat.lt_of_le_of_lt ((hμ a' w' ⟨m',hR⟩).2 m' hR) hm'⟩
 | _=>exact hq
theorem wu {O:ah} {np N:Nat} (hO:nu P num O) (hm:P.follows .mixedOrders=true) (n:Nat):∀(c:Cd) (x:Code),ju P num N c x=true→∀(C:Cx) (φ:Loc) (s s':St) (a:Act) (o:Out),C.num=num→SR C φ s a.tmps→N≤a.tmps.size →
 et O np n c s=some (o,s')→∀(Q:Exit→Act→World→Prop),ab2 num np Q o C φ s.h s' a→x.wp P Q a C.w:=by
 intro c
 induction c with
 | skip=>
  intro x hok C φ s s' a o hC hs hN he Q hQ;cases x <;> simp only [ju,b9] at hok
  simp only [et,a8,ak] at he;obtain ⟨rfl,rfl⟩:=he;exact wp_skip (hQ C φ a hC (.refl np hs.hr hs.bd) hs rfl rfl)
 | ret=>
  intro x hok C φ s s' a o hC hs hN he Q hQ;cases x <;> simp only [ju,b9] at hok
  simp only [et,a8,ak] at he;obtain ⟨rfl,rfl⟩:=he;exact wp_ret (hQ C φ a hC (.refl np hs.hr hs.bd) hs rfl rfl)
 | exit id=>
  intro x hok C φ s s' a o hC hs hN he Q hQ;cases x <;> simp only [ju,b9] at hok
  rename_i j
  have:id=j:=by simpa using hok
  subst this;simp only [et,a8,ak] at he;obtain ⟨rfl,rfl⟩:=he;exact wp_exit (hQ C φ a hC (.refl np hs.hr hs.bd) hs rfl rfl)
 | region is ks=>
  intro x hok C φ s s' a o hC hs hN he Q hQ;cases x <;> simp only [ju,b9] at hok
  simp only [et] at he;obtain ⟨s1,h1,e⟩:=a9.1 he;simp only [ak] at e;obtain ⟨rfl,rfl⟩:=e;exact Qr hO hm (by simpa only [ju] using hok) hC hs hN h1 hQ
 | seq c d ihc ihd=>
  intro x hok C φ s s' a o hC hs hN he Q hQ;cases x <;> simp only [ju,b9,av] at hok
  simp only [et] at he;obtain ⟨⟨o1,s1⟩,h1,he⟩:=a5.1 he;refine wp_seq (ihc _ hok.1 C φ s s1 a o1 hC hs hN h1 _ ?_);intro C1 φ1 a1 k1 r1 hs1 z1 d1;cases o1 with
  | normal=>
   simp only at he;refine ihd _ hok.2 C1 φ1 s1 s' a1 o k1 hs1 (by rw [z1]; exact hN) he Q ?_
   intro C2 φ2 a2 k2 r2 hs2 z2 d2;exact hQ C2 φ2 a2 k2 (r1.trans r2) hs2 (z2.trans z1) (d2.trans d1)
  | exit id=>
   simp only [a8,ak] at he;obtain ⟨rfl,rfl⟩:=he;exact hQ C1 φ1 a1 k1 r1 hs1 z1 d1
  | ret=>
   simp only [a8,ak] at he;obtain ⟨rfl,rfl⟩:=he;exact hQ C1 φ1 a1 k1 r1 hs1 z1 d1
 | cond q c d ihc ihd=>
  intro x hok C φ s s' a o hC hs hN he Q hQ;cases x <;> simp only [ju,b9,av] at hok
  simp only [et] at he
  split at he
  ·rename_i t ht
   have hb:=T0 (co hs (hC▸hok.1.1) ht);cases t with
   | true=>exact wp_cond_true hb (ihc _ hok.1.2 C φ s s' a o hC hs hN (by simpa using he) Q hQ)
   | false=>exact wp_cond_false hb (ihd _ hok.2 C φ s s' a o hC hs hN (by simpa using he) Q hQ)
  ·cases he
 | block id c ihc=>
  intro x hok C φ s s' a o hC hs hN he Q hQ;cases x <;> simp only [ju,b9,av] at hok
  rename_i j d
  obtain ⟨hij,hok⟩:=hok;have:id=j:=by simpa using hij
  subst this;simp only [et] at he;obtain ⟨⟨o1,s1⟩,h1,he⟩:=a9.1 he;refine wp_block (ihc _ hok C φ s s1 a o1 hC hs hN h1 _ ?_);intro C1 φ1 a1 k1 r1 hs1 z1 d1;cases o1 with
  | normal=>
   simp only [ak] at he;obtain ⟨rfl,rfl⟩:=he;exact hQ C1 φ1 a1 k1 r1 hs1 z1 d1
  | exit i=>
   simp only at he;simp only [Out.exit',Exit.inBlock]
   split at he
   ·rename_i hi
    rw [if_pos hi];simp only [ak] at he;obtain ⟨rfl,rfl⟩:=he;exact hQ C1 φ1 a1 k1 r1 hs1 z1 d1
   ·rename_i hi
    rw [if_neg hi];simp only [ak] at he;obtain ⟨rfl,rfl⟩:=he;exact hQ C1 φ1 a1 k1 r1 hs1 z1 d1
  | ret=>
   simp only [ak] at he;obtain ⟨rfl,rfl⟩:=he;exact hQ C1 φ1 a1 k1 r1 hs1 z1 d1
 | loop c ihc=>
  intro x hok C φ s s' a o hC hs hN he Q hQ;cases x <;> simp only [ju,b9] at hok
  rename_i d
  simp only [et] at he;refine a1f (fun m a1 w=>∃C1 φ1 s1,C1.w=w∧C1.num=num∧Runs np C C1 φ φ1 s.h s1.h∧SR C1 φ1 s1 a1.tmps∧a1.tmps.size=a.tmps.size∧a1.defers=a.defers∧Aa (et O np n c) m s1=some (o,s')) ?_ (m:=n) ⟨C,φ,s,rfl,hC,.refl np hs.hr hs.bd,hs,rfl,rfl,he⟩
  rintro m a1 w ⟨C1,φ1,s1,rfl,k1,r1,hs1,z1,d1,hit⟩
  cases m with
  | zero=>simp [Aa] at hit
  | succ m=>
   simp only [Aa] at hit;obtain ⟨⟨o2,s2⟩,h2,hit⟩:=a5.1 hit;refine ihc _ hok C1 φ1 s1 s2 a1 o2 k1 hs1 (by rw [z1]; exact hN) h2 _ ?_
   intro C2 φ2 a2 k2 r2 hs2 z2 d2;cases o2 with
   | normal=>exact ⟨m,Nat.lt_succ_self m,C2,φ2,s2,rfl,k2,r1.trans r2,hs2,z2.trans z1,d2.trans d1,hit⟩
   | exit id=>
    simp only [a8,ak] at hit;obtain ⟨rfl,rfl⟩:=hit;exact hQ C2 φ2 a2 k2 (r1.trans r2) hs2 (z2.trans z1) (d2.trans d1)
   | ret=>
    simp only [a8,ak] at hit;obtain ⟨rfl,rfl⟩:=hit;exact hQ C2 φ2 a2 k2 (r1.trans r2) hs2 (z2.trans z1) (d2.trans d1)
end Pe

namespace Pe
open Go
variable {P:Program} {num:Nat→Nat}
def a0p (P:Program):Res→ResultVar→Bool
 | .tmp n,.tmp m=>n == m
 | .cell n s,.cell m t=>n == m&&qi P t s
 | _,_=>false
def Dt (P:Program):List Res→List ResultVar→Bool
 | [],[]=>true
 | r::rs,v::vs=>a0p P r v&&Dt P rs vs
 | _,_=>false
def Mq (tmps:Array Value):ResultVar→Sem Value
 | .tmp t=>pure (tmps.getD t undef)
 | .cell a t=>do loadVar t (←asAddr (tmps.getD a undef))
theorem Xg (fn:Func) (tmps:Array Value):Go.results fn tmps=(do
 let vs ←fn.results.mapM (Mq tmps)
 pure (if h:vs.size=1 then vs[0] else .tuple vs)):=rfl
theorem a24 {C:Cx} {φ:Loc} {s:St} {tmps:Array Value} (hs:SR C φ s tmps) {r:Res} {rv:ResultVar} (hok:a0p P r rv=true) {v:V} (hv:X1 s r=some v) :
 ∃u,(Mq tmps rv).run P C.w=.ok u C.w∧RX C φ s.h v u:=by
 cases r with
 | tmp n=>
  cases rv <;> simp only [a0p,b9] at hok
  rename_i m
  have hnm:n=m:=by simpa using hok
  subst hnm;simp only [X1] at hv;obtain ⟨u,hu,h⟩:=hs.env n v hv;exact ⟨u,by simp [Mq,hu],h⟩
 | cell n sh=>
  cases rv <;> simp only [a0p,b9,av] at hok
  rename_i m t
  have hnm:n=m:=by simpa using hok.1
  subst hnm;simp only [X1] at hv
  split at hv
  ·rename_i i p hp
   obtain ⟨d,hd,hv⟩:=a5.1 hv;obtain ⟨B,hB,hg⟩:=a5.1 hd
   split at hv
   ·rename_i hsh
    obtain rfl:=bc hv;obtain rfl:=Sh.beq_eq _ _ hsh;obtain ⟨u,hu,hx⟩:=hs.env n _ hp;simp only [RX] at hx;obtain ⟨B',b,off,q,hB',hφ,hq,e⟩:=hx;obtain rfl:B=B':=bc (hB.symm.trans hB');obtain ⟨b',o',off',cs,hφ',ho',hx,hc⟩:=xo (hs.hr.blk i B hB) hg;obtain ⟨rfl,rfl⟩:b=b'∧off=o':=by simpa using hφ.symm.trans hφ'
    have e2:=hq.symm.trans ho';simp only [a8] at e2;subst e2;obtain ⟨u',hrun,hu'⟩:=Lk (P:=P) hok.2 hc hx;refine ⟨u',?_,by simpa only [RX] using hu'⟩
    simp [Instr.loadAt,Instr.sureAddr] at hrun;simp [Mq,hu,e,asAddr,hrun]
   ·cases hv
  ·cases hv
theorem Mi {C:Cx} {φ:Loc} {s:St} {tmps:Array Value} (hs:SR C φ s tmps):∀{rs:List Res} {rvs:List ResultVar},Dt P rs rvs=true→∀{vs:List V},Al s rs=some vs →
 ∃us,(rvs.mapM (Mq tmps)).run P C.w=.ok us C.w∧RXs C φ s.h vs us
 | [],[],_,vs,hv=>by
  simp only [Al,a8] at hv; subst hv;exact ⟨[],by simp,by simp [RXs]⟩
 | r::rs,rv::rvs,hok,vs,hv=>by
  simp only [Dt,av] at hok;simp only [Al] at hv;obtain ⟨v,h1,hv⟩:=a5.1 hv;obtain ⟨vs',h2,rfl⟩:=a9.1 hv;obtain ⟨u,g1,g2⟩:=a24 hs hok.1 h1;obtain ⟨us,g3,g4⟩:=Mi hs hok.2 h2;exact ⟨u::us,by simp [g1,g3],by simp only [RXs]; exact ⟨u,us,rfl,g2,g4⟩⟩
 | [],_::_,hok,_,_=>by simp [Dt] at hok
 | _::_,[],hok,_,_=>by simp [Dt] at hok
def Jf (P:Program) (num:Nat→Nat) (fn:Fn) (g:Func):Bool:=
 g.name != "runtime.NumGoroutine" && decide (fn.nparams ≤ g.ntmps) && Dt P fn.results g.results.toList &&
 (match g.body with
  | some c=>ju P num g.ntmps fn.body c
  | none=>false)
theorem Du {C:Cx} {φ:Loc} {h:Heap}:∀{vs:List V} {us:List Value},RXs C φ h vs us→us.length=vs.length
 | [],us,g=>by simp only [RXs] at g; subst g; rfl
 | v::vs,us,g=>by
  simp only [RXs] at g;obtain ⟨u,r,rfl,_,g2⟩:=g;simp [Du g2]
theorem a16 {C:Cx} {φ:Loc} {h:Heap}:∀{vs:List V} {us:List Value} {k:Nat} {v:V},RXs C φ h vs us→vs[k]? = some v→∃u,us[k]? = some u∧RX C φ h v u
 | [],us,k,v,_,hk=>by simp at hk
 | x::vs,us,k,v,g,hk=>by
  simp only [RXs] at g;obtain ⟨u,r,rfl,g1,g2⟩:=g;cases k with
  | zero=>simp at hk; subst hk; exact ⟨u,rfl,g1⟩
  | succ k=>simpa using a16 g2 (by simpa using hk)
theorem Nq:∀{vs:List V} {n k:Nat} {v:V},(params n vs).get k=some v→n≤k∧vs[k-n]? = some v
 | [],n,k,v,h=>by simp [params,Env.get] at h
 | x::vs,n,k,v,h=>by
  simp only [params,Env.get] at h
  by_cases hk:n=k
  ·subst hk
   simp only [if_true,a8] at h;subst h;simp
  ·rw [if_neg hk] at h
   obtain ⟨h1,h2⟩:=Nq h;refine ⟨by omega,?_⟩
   rw [show k-n=(k-(n+1))+1 by omega]
   simpa using h2
theorem a4m (fn : Fn) {f : Nat} {g : Func} (hg : P.funcs[num f]? = some g) (hname : g.name ≠ "runtime.NumGoroutine") (hnp : fn.nparams ≤ g.ntmps) (hres : Dt P fn.results g.results.toList = true) {code : Code} (hcode : g.body = some code) {vs : List V} {bs : Heap} {ans : Ans} (o : Out) (s' : St)
 (hlen:vs.length=fn.nparams)
 (hrun:(match o with
  | .exit _=>none
  | _=>if s'.h.length=bs.length+fn.nblk then (Al s' fn.results).bind fun rs=>
   let v:=mz rs
   let own:=(uo v.refs).filter (bs.length≤·)
   (s'.h.pick own).map fun nb=>
    (v.ren (fun i=>if i<bs.length then i else bs.length+own.idxOf i),s'.h.take bs.length,nb)
   else none)=some ans)
 (hw:∀(C:Cx) (φ:Loc) (a:Act),C.num=num→SR C φ ⟨params 0 vs,bs++List.replicate fn.nblk .hole⟩ a.tmps→g.ntmps≤a.tmps.size→∀(Q:Exit→Act→World→Prop),ab2 num bs.length Q o C φ (bs++List.replicate fn.nblk .hole) s' a→code.wp P Q a C.w)
 {C:Cx} {φ:Loc} {us:List Value} (hC:C.num=num) (hr:HR C φ bs) (hb:∀b,C.I b→b<C.w.heap.size) (hv:RXs C φ bs vs us) :
 ans.2.1.length=bs.length∧Xx P (num f) us C φ bs (ans.2.1++ans.2.2) ans.1:=by
 have hul:=Du hv
 -- what the function begins with
 have hh0:∀i:Nat,i<bs.length→(bs++List.replicate fn.nblk Blk.hole)[i]? = bs[i]?:=fun i hi=>cd hi
 have hh1:∀(i:Nat) (B:Blk),bs.length≤i→(bs++List.replicate fn.nblk Blk.hole)[i]? = some B→B=.hole:=by
  intro i B hi hB;rw [ci hi,gk] at hB
  split at hB
  ·exact (bc hB).symm
  ·cases hB
 have hr0:HR C φ (bs++List.replicate fn.nblk .hole):=by
  refine ⟨fun i B hB=>?_,fun i j Bi Bj b oi oj hij hi hj hoi hoj hφi hφj=>?_⟩
  ·by_cases hi:i<bs.length
   ·rw [hh0 i hi] at hB; exact hr.blk i B hB
   ·obtain rfl:=hh1 i B (by omega) hB
    trivial
  ·by_cases hi':i<bs.length
   ·by_cases hj':j<bs.length
    ·rw [hh0 i hi'] at hi
     rw [hh0 j hj'] at hj;exact hr.inj i j Bi Bj b oi oj hij hi hj hoi hoj hφi hφj
    ·obtain rfl:=hh1 j Bj (by omega) hj
     simp [Blk.own] at hoj
   ·obtain rfl:=hh1 i Bi (by omega) hi
    simp [Blk.own] at hoi
 have hold:∀v u,RX C φ bs v u→RX C φ (bs++List.replicate fn.nblk .hole) v u:=by
  intro v u gx;refine RX.congr (.refl C) v u (fun i hi B hB=>⟨B,?_,.refl B⟩) (fun _ _=>rfl) (fun _ _ _ _ _=>.of_eq rfl) gx
  rw [hh0 i (bg.1 hB).1]; exact hB
 have hsize:us.toArray.size=fn.nparams:=by simp [hul,hlen]
 have hs0:SR C φ ⟨params 0 vs,bs++List.replicate fn.nblk .hole⟩ (us.toArray++Array.replicate (g.ntmps-us.toArray.size) undef):=by
  refine ⟨hr0,hb,fun n v hn=>?_⟩
  obtain ⟨_,h2⟩:=Nq hn;obtain ⟨u,h3,h4⟩:=a16 hv h2;refine ⟨u,?_,hold v u h4⟩
  have hnl:n<us.toArray.size:=by
   have:=(bg.1 h3).1
   simpa using this
  rw [Array.getElem?_append_left hnl]
  simpa using h3
 have hN:g.ntmps≤(us.toArray++Array.replicate (g.ntmps-us.toArray.size) undef).size:=by
  rw [Array.size_append,Array.size_replicate]; omega
 have hHB:a0z P (num f):=⟨g,hg,hname,by simp [hcode]⟩
 -- the mz
 have hlast:(∃id,o=.exit id)∨(s'.h.length=bs.length+fn.nblk∧∃rs nb,Al s' fn.results=some rs∧s'.h.pick ((uo (mz rs).refs).filter (bs.length≤·))=some nb ∧
  ans=((mz rs).ren (fun i=>if i<bs.length then i else bs.length+((uo (mz rs).refs).filter (bs.length≤·)).idxOf i),s'.h.take bs.length,nb)):=by
  cases o with
  | exit id=>exact .inl ⟨id,rfl⟩
  | normal | ret=>
   right;simp only at hrun
   split at hrun
   ·rename_i hl
    obtain ⟨rs,h1,hrun⟩:=a5.1 hrun;obtain ⟨nb,h2,h3⟩:=a9.1 hrun;exact ⟨hl,rs,nb,h1,h2,h3.symm⟩
   ·cases hrun
 rcases hlast with ⟨id,rfl⟩ | ⟨hl,rs,nb,h1,h2,rfl⟩
 ·simp at hrun
 generalize hown:(uo (mz rs).refs).filter (bs.length≤·)=own at *
 have hownn:own.Nodup:=by rw [←hown]; exact (Di _).filter _
 have hownm:∀i,i∈own↔i∈(mz rs).refs∧bs.length≤i:=by
  intro i;rw [←hown,List.mem_filter,Ar];simp
 obtain ⟨pl,pg⟩:=O2 h2;have htl:(s'.h.take bs.length).length=bs.length:=by rw [bq]; omega
 refine ⟨htl,hHB,?_⟩;refine calls_of_wp hg hcode ?_;refine hw C φ _ hC hs0 hN _ ?_;intro C' φ' a' hC' rn hs' _ hdef
 have hfin:∃v,(results g a'.tmps).run P C'.w=.ok v C'.w∧RX C' φ' s'.h (mz rs) v:=by
  obtain ⟨us',g1,g2⟩:=Mi hs' hres h1;have hl2:=Du g2;rw [Xg];refine ⟨if h:us'.toArray.size=1 then us'.toArray[0] else .tuple us'.toArray,?_,?_⟩
  ·simp only [Array.mapM_eq_mapM_toList,Sem.run_bind,Sem.run_map,g1]
   simp
  ·unfold mz
   split
   ·rename_i v
    cases us' with
    | nil=>simp at hl2
    | cons u us'=>
     cases us' with
     | nil=>
      simp only [RXs] at g2;obtain ⟨u0,r,e,g3,g4⟩:=g2;simp only [List.cons.injEq] at e;obtain ⟨rfl,rfl⟩:=e
      simpa using g3
     | cons _ _=>simp at hl2
   ·rename_i hne
    have h1':¬ us'.toArray.size=1:=by
     intro h;have:rs.length=1:=by rw [←hl2]; simpa using h
     match rs,this with
     | [v],_=>exact hne v rfl
    rw [dif_neg h1'];simp only [RX];exact ⟨us'.toArray,rfl,by simpa using g2⟩
 obtain ⟨v,hvr,hvx⟩:=hfin
 -- the blocks that are handed back
 let φ3:Loc:=fun i=>if i<bs.length then φ' i else φ' (own.getD (i-bs.length) 0)
 have src:∀i B,(s'.h.take bs.length++nb)[i]? = some B→∃j,s'.h[j]? = some B∧φ3 i=φ' j∧((i<bs.length∧j=i)∨(bs.length≤i∧own[i-bs.length]? = some j)):=by
  intro i B hB
  by_cases hi:i<bs.length
  ·rw [cd (by omega),fi,if_pos hi] at hB
   exact ⟨i,hB,by simp [φ3,hi],.inl ⟨hi,rfl⟩⟩
  ·rw [ci (by omega),htl] at hB
   have hil:i-bs.length<own.length:=by rw [←pl]; exact (bg.1 hB).1
   have ho:own[i-bs.length]? = some own[i-bs.length]:=au hil;obtain ⟨B',g1,g2,_⟩:=pg _ _ ho;obtain rfl:B'=B:=bc (g2.symm.trans hB);refine ⟨_,g1,?_,.inr ⟨by omega,ho⟩⟩
   simp only [φ3,if_neg hi,getD_some ho]
 have srcinj:∀i i' j,((i<bs.length∧j=i)∨(bs.length≤i∧own[i-bs.length]? = some j))→((i'<bs.length∧j=i')∨(bs.length≤i'∧own[i'-bs.length]? = some j))→i=i':=by
  intro i i' j hi hi';have hge:∀k,own[k]? = some j→bs.length≤j:=fun k hk=>((hownm j).1 (jk hk)).2
  rcases hi with ⟨p1,p2⟩ | ⟨p1,p2⟩ <;> rcases hi' with ⟨q1,q2⟩ | ⟨q1,q2⟩
  ·omega
  ·have:=hge _ q2; omega
  ·have:=hge _ p2; omega
  ·have e1:=tn hownn p2
   have e2:=tn hownn q2;omega
 have hown0:∀b,OwnB φ (bs++List.replicate fn.nblk .hole) b→OwnB φ bs b:=by
  rintro b ⟨i,B,o',hB,ho,hφ⟩
  by_cases hi:i<bs.length
  ·exact ⟨i,B,o',by rw [←hh0 i hi]; exact hB,ho,hφ⟩
  ·obtain rfl:=hh1 i B (by omega) hB
   simp [Blk.own] at ho
 have hown1:∀b,OwnB φ bs b→OwnB φ (bs++List.replicate fn.nblk .hole) b:=by
  rintro b ⟨i,B,o',hB,ho,hφ⟩
  exact ⟨i,B,o',by rw [hh0 i (bg.1 hB).1]; exact hB,ho,hφ⟩
 have post:∃u C2 φ2,Ending.returned v=.returned u∧C2.w=C'.w∧Step C C2 φ φ2 bs (s'.h.take bs.length++nb)∧Keeps C C2 φ φ2 bs (s'.h.take bs.length++nb) (fun _=>False) ∧
  RX C2 φ2 (s'.h.take bs.length++nb) ((mz rs).ren (fun i=>if i<bs.length then i else bs.length+own.idxOf i)) u:=by
  refine ⟨v,C',φ3,rfl,rfl,⟨rn.st.le,fun b hbl hn=>rn.st.kept b hbl fun h=>hn (hown0 b h),fun b h=>?_,?_,rn.st.size,rn.st.os,rn.st.out,rn.st.tape,⟨?_,?_⟩,rn.st.bd⟩,?_,?_⟩
  ·rcases rn.st.fresh b h with h | h | h
   ·exact .inl h
   ·exact .inr (.inl h)
   ·exact .inr (.inr (hown0 b h))
  ·rintro b ⟨i,B,o',hB,ho,hφ⟩
   obtain ⟨j,g1,g2,_⟩:=src i B hB;exact (rn.st.own b ⟨j,B,o',g1,ho,g2.symm.trans hφ⟩).imp (hown0 b) id
  ·intro i B hB
   obtain ⟨j,g1,g2,_⟩:=src i B hB;rw [g2]; exact rn.st.hr.blk j B g1
  ·intro i i' Bi Bj b oi oj hij hi hj hoi hoj hφi hφj
   obtain ⟨j,g1,g2,g3⟩:=src i Bi hi;obtain ⟨j',g1',g2',g3'⟩:=src i' Bj hj;exact rn.st.hr.inj j j' Bi Bj b oi oj (fun e=>hij (srcinj i i' j g3 (e▸g3'))) g1 g1' hoi hoj (g2.symm.trans hφi) (g2'.symm.trans hφj)
  ·intro x u _ hx
   have hlt:∀i∈x.refs,i<bs.length:=fun i hi=>by
    obtain ⟨B,hB,_⟩:=RX.refs x u hx i hi;exact (bg.1 hB).1
   have q:=rn.kp x u (fun i hi hge=>by have:=hlt i hi; omega) (hold x u hx)
   have:=RX.lift (C':=C') (φ':=φ3) (h':=s'.h.take bs.length++nb) (f:=id) (.refl C') x u (Moves.one fun i hi B hB _=>by
    have hi':=hlt i hi;refine ⟨⟨B,?_,.refl B⟩,by simp [φ3,hi'],fun _ _ _=>.of_eq rfl⟩
    simp only [id];rw [cd (by omega),fi,if_pos hi']; exact hB) q
   rwa [V.ren_id (f:=id) x (fun _ _=>rfl)] at this
  ·refine RX.lift (.refl C') (mz rs) v (Moves.one fun i hi B hB hn=>?_) hvx
   by_cases hi':i<bs.length
   ·rw [if_pos hi']
    refine ⟨⟨B,?_,.refl B⟩,by simp [φ3,hi'],fun _ _ _=>.of_eq rfl⟩
    rw [cd (by omega),fi,if_pos hi']; exact hB
   ·rw [if_neg hi']
    have him:i∈own:=(hownm i).2 ⟨hi,by omega⟩
    have ho:=od him;obtain ⟨B',g1,g2,_⟩:=pg _ _ ho;obtain rfl:B'=B:=bc (g1.symm.trans hB);refine ⟨⟨B',?_,.refl B'⟩,?_,fun _ _ _=>.of_eq rfl⟩
    ·rw [ci (by omega),htl,show bs.length+own.idxOf i-bs.length=own.idxOf i by omega]; exact g2
    ·have:¬ bs.length+own.idxOf i<bs.length:=by omega
     simp only [φ3,if_neg this,show bs.length+own.idxOf i-bs.length=own.idxOf i by omega,getD_some ho]
 cases o with
 | exit id=>simp at hrun
 | normal=>exact ⟨by rw [hdef],v,hvr,post⟩
 | ret=>exact ⟨by rw [hdef],v,hvr,post⟩
theorem Ov {O:ah} (hO:nu P num O) (hm:P.follows .mixedOrders=true) {fn:Fn} {f:Nat} {g:Func} (hg:P.funcs[num f]? = some g) (hok:Jf P num fn g=true) {k:Nat} {vs:List V} {bs:Heap} {ans:Ans}
 (hrun:run O k fn vs bs=some ans) {C:Cx} {φ:Loc} {us:List Value} (hC:C.num=num) (hr:HR C φ bs) (hb:∀b,C.I b→b<C.w.heap.size) (hv:RXs C φ bs vs us) :
 ans.2.1.length=bs.length∧Xx P (num f) us C φ bs (ans.2.1++ans.2.2) ans.1:=by
 unfold Jf at hok;simp only [av,bne_iff_ne,ne_eq,decide_eq_true_eq] at hok;obtain ⟨⟨⟨hname,hnp⟩,hres⟩,hbody⟩:=hok;cases hcode:g.body with
 | none=>rw [hcode] at hbody; cases hbody
 | some code=>
 rw [hcode] at hbody;simp only at hbody;unfold run at hrun
 split at hrun
 case isFalse=>cases hrun
 rename_i hlen
 obtain ⟨⟨o,s'⟩,hev,hrun⟩:=a5.1 hrun;exact a4m fn hg hname hnp hres hcode o s' hlen hrun (fun C φ a hC hs hN Q hQ=>wu (N:=g.ntmps) hO hm k fn.body code hbody C φ _ s' a o hC hs hN hev Q hQ) hC hr hb hv
theorem J2 {T:Nat→Option Fn} {A:ah} (hT:∀f fn,T f=some fn→∃g,P.funcs[num f]? = some g∧Jf P num fn g=true) (hA:nu P num A) (hm:P.follows .mixedOrders=true):∀k,nu P num (ut T A k)
 | 0=>by intro f vs bs ans h; simp [ut] at h
 | k+1=>by
  intro f vs bs ans h C φ us hC hr hb hv;simp only [ut] at h
  split at h
  ·rename_i fn hfn
   obtain ⟨g,hg,hok⟩:=hT f fn hfn;exact Ov (J2 hT hA hm k) hm hg hok h hC hr hb hv
  ·exact hA f vs bs ans h C φ us hC hr hb hv
end Pe

namespace Pe
open Go
abbrev Q6:=Nat×List V×Heap×Ans
def Gives (O:ah) (qs:List Q6):Prop:=∀q∈qs,O q.1 q.2.1 q.2.2.1=some q.2.2.2
theorem Gives.app {O:ah} {qs rs:List Q6}:Gives O (qs++rs)↔Gives O qs∧Gives O rs:=by
 unfold Gives;constructor
 ·exact fun h=>⟨fun q hq=>h q (by simp [hq]),fun q hq=>h q (by simp [hq])⟩
 ·rintro ⟨h1,h2⟩ q hq
  rcases bp.1 hq with hq | hq
  ·exact h1 q hq
  ·exact h2 q hq
def Rests {α:Type} (O:ah) (g:ah→Option α) (r:α):Prop:=∃qs,Gives O qs∧∀O',Gives O' qs→g O'=some r
theorem Rests.const {α:Type} {O:ah} {x:Option α} {r:α} (h:x=some r):Rests O (fun _=>x) r:=⟨[],by simp [Gives],fun _ _=>h⟩
theorem Rests.bind {α β:Type} {O:ah} {g:ah→Option α} {k:α→ah→Option β} {r:α} {r':β} (h:Rests O g r) (h':Rests O (k r) r'):Rests O (fun O'=>(g O').bind fun x=>k x O') r':=by
 obtain ⟨q1,a1,b1⟩:=h;obtain ⟨q2,a2,b2⟩:=h';refine ⟨q1++q2,Gives.app.2 ⟨a1,a2⟩,fun O' hO'=>?_⟩
 obtain ⟨c1,c2⟩:=Gives.app.1 hO'
 dsimp only
 rw [b1 O' c1];exact b2 O' c2
theorem a6x {O:ah} {np:Nat} {e:Env} {h:Heap} {p:Op} {r:V×Heap} (he:bh O np e h p=some r):Rests O (fun O'=>bh O' np e h p) r:=by
 cases p with
 | call m news f xs=>
  simp only [bh] at he;obtain ⟨fv,hf,he⟩:=a5.1 he;obtain ⟨g,hg,he⟩:=a5.1 he;obtain ⟨vs,hv,he⟩:=a5.1 he
  have pure:∀m,jj O m h g.1 (g.2.1++vs++g.2.2)=some r→∃q:Q6,O q.1 q.2.1 q.2.2.1=some q.2.2.2∧∀O':ah,O' q.1 q.2.1 q.2.2.1=some q.2.2.2→jj O' m h g.1 (g.2.1++vs++g.2.2)=some r:=by
   intro m he;unfold jj at he;obtain ⟨ds,hds,he⟩:=a5.1 he;obtain ⟨ans,hans,he⟩:=a5.1 he;refine ⟨(g.1,ds.map .d,[],ans),hans,fun O' hO'=>?_⟩
   unfold jj;rw [hds,ae];simp only at hO';rw [hO',ae];exact he
  have heap:oc O np news h g.1 (g.2.1++vs++g.2.2)=some r→∃q:Q6,O q.1 q.2.1 q.2.2.1=some q.2.2.2∧∀O':ah,O' q.1 q.2.1 q.2.2.1=some q.2.2.2→oc O' np news h g.1 (g.2.1++vs++g.2.2)=some r:=by
   intro he;unfold oc at he;simp only at he;obtain ⟨bs,hbs,he⟩:=a5.1 he;obtain ⟨ans,hans,he⟩:=a5.1 he;refine ⟨(g.1,_,bs,ans),hans,fun O' hO'=>?_⟩
   unfold oc;simp only;rw [hbs,ae];simp only at hO';rw [hO',ae];exact he
  have fin:∀(c:ah→Option (V×Heap)),(∃q:Q6,O q.1 q.2.1 q.2.2.1=some q.2.2.2∧∀O':ah,O' q.1 q.2.1 q.2.2.1=some q.2.2.2→c O'=some r)→(∀O',bh O' np e h (.call m news f xs)=c O')→Rests O (fun O'=>bh O' np e h (.call m news f xs)) r:=by
   rintro c ⟨q,h1,h2⟩ hc
   refine ⟨[q],fun q' hq'=>?_,fun O' hO'=>?_⟩
   ·simp only [cl] at hq'
    subst hq'; exact h1
   ·dsimp only; rw [hc]; exact h2 O' (hO' q (by simp))
  cases m with
  | heap=>
   simp only at he;exact fin _ (heap he) fun O'=>by simp only [bh,hf,hg,hv,ae]
  | flat=>
   simp only at he;exact fin _ (pure .flat he) fun O'=>by simp only [bh,hf,hg,hv,ae]
  | data=>
   simp only at he;exact fin _ (pure .data he) fun O'=>by simp only [bh,hf,hg,hv,ae]
  | plain=>
   simp only at he;exact fin _ (pure .plain he) fun O'=>by simp only [bh,hf,hg,hv,ae]
 | cut ar s x lo hi mx=>exact ⟨[],by simp [Gives],fun O' _=>by cases ar <;> exact he⟩
 | idxA ar s x j=>exact ⟨[],by simp [Gives],fun O' _=>by cases ar <;> exact he⟩
 | idx ar s x j=>exact ⟨[],by simp [Gives],fun O' _=>by cases ar <;> exact he⟩
 | len str x=>exact ⟨[],by simp [Gives],fun O' _=>by cases str <;> exact he⟩
 | _=>exact ⟨[],by simp [Gives],fun O' _=>he⟩
theorem a2q {O:ah} {np:Nat} {s s':St} {i:Ins} (he:se O np s i=some s'):Rests O (fun O'=>se O' np s i) s':=by
 unfold se nv at he ⊢
 split at he
 ·rename_i hside
  simp only [hside,if_true]
  split at he
  ·rename_i hon
   obtain ⟨r,hr,e⟩:=a9.1 he;obtain ⟨qs,h1,h2⟩:=a6x hr;refine ⟨qs,h1,fun O' hO'=>?_⟩
   have q:=h2 O' hO'
   dsimp only at q ⊢
   rw [q,db,e]
  ·exact Rests.const he
  ·cases he
 ·cases he
theorem Lm {O:ah} {np:Nat}:∀{is:List Ins} {s s':St},i7 O np is s=some s'→Rests O (fun O'=>i7 O' np is s) s'
 | [],s,s',he=>Rests.const he
 | i::is,s,s',he=>by
  simp only [i7] at he ⊢;obtain ⟨s1,h1,h2⟩:=a5.1 he;exact (a2q h1).bind (k:=fun x O'=>i7 O' np is x) (Lm h2)
theorem Nm {O:ah} {g:ah→St→Option (Out×St)} (hg:∀s r,g O s=some r→Rests O (fun O'=>g O' s) r):∀{n:Nat} {s:St} {r:Out×St},Aa (g O) n s=some r→Rests O (fun O'=>Aa (g O') n s) r
 | 0,s,r,he=>by simp [Aa] at he
 | n+1,s,r,he=>by
  simp only [Aa] at he ⊢;obtain ⟨⟨o,s1⟩,h1,h2⟩:=a5.1 he;refine (hg s _ h1).bind (k:=fun x O'=>match x.1 with | .normal=>Aa (g O') n x.2 | o=>some (o,x.2)) ?_
  cases o with
  | normal=>exact Nm hg h2
  | exit id=>exact Rests.const h2
  | ret=>exact Rests.const h2
theorem X6 {O:ah} {np n:Nat}:∀{c:Cd} {s:St} {r:Out×St},et O np n c s=some r→Rests O (fun O'=>et O' np n c s) r:=by
 intro c
 induction c with
 | skip=>intro s r he; exact Rests.const (by simpa only [et] using he)
 | exit id=>intro s r he; exact Rests.const (by simpa only [et] using he)
 | ret=>intro s r he; exact Rests.const (by simpa only [et] using he)
 | region is ks=>
  intro s r he;simp only [et] at he ⊢;obtain ⟨s1,h1,e⟩:=a9.1 he;obtain ⟨qs,g1,g2⟩:=Lm h1;refine ⟨qs,g1,fun O' hO'=>?_⟩
  have q:=g2 O' hO'
  dsimp only at q ⊢
  rw [q,db,e]
 | seq a b iha ihb=>
  intro s r he;simp only [et] at he ⊢;obtain ⟨⟨o,s1⟩,h1,h2⟩:=a5.1 he;refine (iha h1).bind (k:=fun x O'=>match x.1 with | .normal=>et O' np n b x.2 | o=>some (o,x.2)) ?_
  cases o with
  | normal=>exact ihb h2
  | exit id=>exact Rests.const h2
  | ret=>exact Rests.const h2
 | cond q a b iha ihb=>
  intro s r he;simp only [et] at he ⊢
  split at he
  ·rename_i t ht
   cases t with
   | true=>
    obtain ⟨qs,g1,g2⟩:=iha (s:=s) (r:=r) (by simpa using he)
    refine ⟨qs,g1,fun O' hO'=>?_⟩
    have q:=g2 O' hO'
    dsimp only at q ⊢
    simp only [if_true];exact q
   | false=>
    obtain ⟨qs,g1,g2⟩:=ihb (s:=s) (r:=r) (by simpa using he)
    refine ⟨qs,g1,fun O' hO'=>?_⟩
    have q:=g2 O' hO'
    dsimp only at q ⊢
    simp only [b9,if_false];exact q
  ·cases he
 | block id c ihc=>
  intro s r he;simp only [et] at he ⊢;obtain ⟨r1,h1,e⟩:=a9.1 he;obtain ⟨qs,g1,g2⟩:=ihc h1;refine ⟨qs,g1,fun O' hO'=>?_⟩
  have q:=g2 O' hO'
  dsimp only at q ⊢
  rw [q,db,e]
 | loop c ihc=>
  intro s r he;simp only [et] at he ⊢;exact Nm (g:=fun O'=>et O' np n c) (fun s r h=>ihc h) he
theorem Cy {O:ah} {n:Nat} {fn:Fn} {vs:List V} {bs:Heap} {ans:Ans} (he:run O n fn vs bs=some ans):Rests O (fun O'=>run O' n fn vs bs) ans:=by
 unfold run at he ⊢
 split at he
 ·rename_i hl
  simp only [hl,if_true];obtain ⟨r,h1,h2⟩:=a5.1 he;exact (X6 h1).bind (k:=fun r _=>match r.1 with
  | .exit _=>none
  | _=>if r.2.h.length=bs.length+fn.nblk then (Al r.2 fn.results).bind fun rs=>
   let v:=mz rs
   let own:=(uo v.refs).filter (bs.length≤·)
   (r.2.h.pick own).map fun nb=>
    (v.ren (fun i=>if i<bs.length then i else bs.length+own.idxOf i),r.2.h.take bs.length,nb)
   else none) (Rests.const h2)
 ·cases he
theorem C5 {g g':St→Option (Out×St)} (hg:∀s r,g s=some r→g' s=some r):∀{n n':Nat} {s:St} {r:Out×St},n≤n'→Aa g n s=some r→Aa g' n' s=some r
 | 0,n',s,r,_,he=>by simp [Aa] at he
 | n+1,0,s,r,hl,he=>by omega
 | n+1,n'+1,s,r,hl,he=>by
  simp only [Aa] at he ⊢;obtain ⟨⟨o,s1⟩,h1,h2⟩:=a5.1 he;rw [hg s _ h1,ae];cases o with
  | normal=>exact C5 hg (by omega) h2
  | exit id=>exact h2
  | ret=>exact h2
theorem pu {O:ah} {np n n':Nat} (hn:n≤n'):∀{c:Cd} {s:St} {r:Out×St},et O np n c s=some r→et O np n' c s=some r:=by
 intro c
 induction c with
 | skip=>intro s r he; simpa only [et] using he
 | exit id=>intro s r he; simpa only [et] using he
 | ret=>intro s r he; simpa only [et] using he
 | region is ks=>intro s r he; simpa only [et] using he
 | seq a b iha ihb=>
  intro s r he;simp only [et] at he ⊢;obtain ⟨⟨o,s1⟩,h1,h2⟩:=a5.1 he;rw [iha h1,ae];cases o with
  | normal=>exact ihb h2
  | exit id=>exact h2
  | ret=>exact h2
 | cond q a b iha ihb=>
  intro s r he;simp only [et] at he ⊢
  split at he
  ·rename_i t ht
   cases t with
   | true=>simpa using iha (s:=s) (r:=r) (by simpa using he)
   | false=>simpa using ihb (s:=s) (r:=r) (by simpa using he)
  ·cases he
 | block id c ihc=>
  intro s r he;simp only [et] at he ⊢;obtain ⟨r1,h1,e⟩:=a9.1 he;rw [ihc h1,db,e]
 | loop c ihc=>
  intro s r he;simp only [et] at he ⊢;exact C5 (fun s r h=>ihc h) hn he
theorem Ur {O:ah} {n n':Nat} (hn:n≤n') {fn:Fn} {vs:List V} {bs:Heap} {ans:Ans} (he:run O n fn vs bs=some ans):run O n' fn vs bs=some ans:=by
 unfold run at he ⊢
 split at he
 ·rename_i hl
  simp only [hl,if_true];obtain ⟨r,h1,h2⟩:=a5.1 he;rw [pu hn h1,ae];exact h2
 ·cases he
section
variable {T:Nat→Option Fn} {A:ah}
theorem M4:∀{k:Nat} {f:Nat} {vs:List V} {bs:Heap} {ans:Ans},ut T A k f vs bs=some ans→ut T A (k+1) f vs bs=some ans
 | 0,f,vs,bs,ans,h=>by simp [ut] at h
 | k+1,f,vs,bs,ans,h=>by
  rw [ut] at h ⊢
  dsimp only at h ⊢
  split at h
  ·rename_i fn hfn
   obtain ⟨qs,h1,h2⟩:=Cy h;exact Ur (Nat.le_succ k) (h2 _ fun q hq=>M4 (h1 q hq))
  ·exact h
theorem ww {k k':Nat} (hk:k≤k') {f:Nat} {vs:List V} {bs:Heap} {ans:Ans} (h:ut T A k f vs bs=some ans):ut T A k' f vs bs=some ans:=by
 induction hk with
 | refl=>exact h
 | step _ ih=>exact M4 ih
noncomputable def den (T:Nat→Option Fn) (A:ah):ah:=fun f vs bs=>by
 classical
 exact if h:∃ans,∃k,ut T A k f vs bs=some ans then some (Classical.choose h) else none
theorem Lb {f:Nat} {vs:List V} {bs:Heap} {ans:Ans}:den T A f vs bs=some ans↔∃k,ut T A k f vs bs=some ans:=by
 unfold den;constructor
 ·intro h
  split at h
  ·rename_i hx
   obtain rfl:=bc h;exact dw hx
  ·cases h
 ·rintro ⟨k,hk⟩
  have hx:∃ans,∃k,ut T A k f vs bs=some ans:=⟨ans,k,hk⟩;rw [dif_pos hx];obtain ⟨k',hk'⟩:=dw hx;have h1:=ww (qx k k') hk;have h2:=ww (n8 k k') hk';rw [h1] at h2;exact h2.symm
theorem Vc {qs:List Q6} (h:Gives (den T A) qs):∃k,Gives (ut T A k) qs:=by
 induction qs with
 | nil=>exact ⟨0,by simp [Gives]⟩
 | cons q qs ih=>
  obtain ⟨k,hk⟩:=ih fun q' hq'=>h q' (by simp [hq'])
  obtain ⟨k',hk'⟩:=Lb.1 (h q (by simp))
  refine ⟨max k k',fun q' hq'=>?_⟩
  rcases dk.1 hq' with rfl | hq'
  ·exact ww (n8 k k') hk'
  ·exact ww (qx k k') (hk q' hq')
theorem T2 {f:Nat} {fn:Fn} (hT:T f=some fn) {n:Nat} {vs:List V} {bs:Heap} {ans:Ans} (h:run (den T A) n fn vs bs=some ans):den T A f vs bs=some ans:=by
 obtain ⟨qs,h1,h2⟩:=Cy h;obtain ⟨k,hk⟩:=Vc h1;refine Lb.2 ⟨max k n+1,?_⟩;simp only [ut,hT];exact Ur (n8 k n) (h2 _ fun q hq=>ww (qx k n) (hk q hq))
theorem a75 {f:Nat} (hT:T f=none) {vs:List V} {bs:Heap} {ans:Ans} (h:A f vs bs=some ans):den T A f vs bs=some ans:=
 Lb.2 ⟨1,by simp only [ut,hT]; exact h⟩
theorem a1n {P:Program} {num:Nat→Nat} (hT:∀f fn,T f=some fn→∃g,P.funcs[num f]? = some g∧Jf P num fn g=true) (hA:nu P num A) (hm:P.follows .mixedOrders=true):nu P num (den T A):=by
 intro f vs bs ans h;obtain ⟨k,hk⟩:=Lb.1 h;exact J2 hT hA hm k f vs bs ans hk
end
noncomputable def dn (O:ah) (np:Nat) (c:Cd) (s:St):Option (Out×St):=by
 classical
 exact if h:∃r,∃n,et O np n c s=some r then some (Classical.choose h) else none
theorem mn {O:ah} {np:Nat} {c:Cd} {s:St} {r:Out×St}:dn O np c s=some r↔∃n,et O np n c s=some r:=by
 unfold dn;constructor
 ·intro h
  split at h
  ·rename_i hx
   obtain rfl:=bc h;exact dw hx
  ·cases h
 ·rintro ⟨k,hk⟩
  have hx:∃r,∃n,et O np n c s=some r:=⟨r,k,hk⟩;rw [dif_pos hx];obtain ⟨k',hk'⟩:=dw hx;have h1:=pu (qx k k') hk;have h2:=pu (n8 k k') hk';rw [h1] at h2;exact h2.symm
section
variable {O:ah} {np:Nat} {s:St}
theorem N8 {α:Type} {x y:Option α} (h:∀r,x=some r↔y=some r):x=y:=by
 cases x with
 | none=>
  cases y with
  | none=>rfl
  | some b=>exact absurd ((h b).2 rfl) (by simp)
 | some a=>exact ((h a).1 rfl).symm
theorem abh:dn O np .skip s=some (.normal,s):=mn.2 ⟨0,rfl⟩
theorem ad1:dn O np .ret s=some (.ret,s):=mn.2 ⟨0,rfl⟩
theorem ab4 (id:Nat):dn O np (.exit id) s=some (.exit id,s):=mn.2 ⟨0,rfl⟩
theorem a2e (is:List Ins) (ks:List Nat):dn O np (.region is ks) s=(i7 O np is s).map fun s'=>(.normal,⟨s'.e.keep ks,ug (s'.e.keep ks) np 0 s'.h⟩):=by
 refine N8 fun r=>?_
 rw [mn];simp only [et];exact ⟨fun ⟨_,h⟩=>h,fun h=>⟨0,h⟩⟩
def Sj (k:St→Option (Out×St)) (r:Out×St):Option (Out×St):=
 match r.1 with
 | .normal=>k r.2
 | o=>some (o,r.2)
theorem aee (a b:Cd):dn O np (.seq a b) s=(dn O np a s).bind (Sj (dn O np b)):=by
 refine N8 fun r=>?_
 rw [mn];simp only [et];constructor
 ·rintro ⟨n,h⟩
  obtain ⟨⟨o,s1⟩,h1,h2⟩:=a5.1 h;rw [mn.2 ⟨n,h1⟩,ae];cases o with
  | normal=>exact mn.2 ⟨n,h2⟩
  | exit id=>exact h2
  | ret=>exact h2
 ·intro h
  obtain ⟨⟨o,s1⟩,h1,h2⟩:=a5.1 h;obtain ⟨n,h1⟩:=mn.1 h1;cases o with
  | normal=>
   obtain ⟨m,h2⟩:=mn.1 h2;refine ⟨max n m,?_⟩;rw [pu (qx n m) h1,ae];exact pu (n8 n m) h2
  | exit id=>exact ⟨n,by rw [h1,ae]; exact h2⟩
  | ret=>exact ⟨n,by rw [h1,ae]; exact h2⟩
theorem ac {q:Arg} (a b:Cd) {t:Bool} (h:s.e.arg q=some (.d (.bool t))):dn O np (.cond q a b) s=if t then dn O np a s else dn O np b s:=by
 refine N8 fun r=>?_
 rw [mn];simp only [et,h];cases t <;> simp [mn]
def a0i (id:Nat) (r:Out×St):Out×St:=
 match r.1 with
 | .exit i=>if i=id then (.normal,r.2) else r
 | _=>r
theorem a7g (id:Nat) (c:Cd):dn O np (.block id c) s=(dn O np c s).map (a0i id):=by
 refine N8 fun r=>?_
 rw [mn];simp only [et];constructor
 ·rintro ⟨n,h⟩
  obtain ⟨r1,h1,e⟩:=a9.1 h;rw [mn.2 ⟨n,h1⟩,db];exact congrArg some e
 ·intro h
  obtain ⟨r1,h1,e⟩:=a9.1 h;obtain ⟨n,h1⟩:=mn.1 h1;exact ⟨n,by rw [h1,db]; exact congrArg some e⟩
theorem Ra (c:Cd):dn O np (.loop c) s=(dn O np c s).bind (Sj (dn O np (.loop c))):=by
 refine N8 fun r=>?_
 rw [mn];simp only [et];constructor
 ·rintro ⟨n,h⟩
  cases n with
  | zero=>simp [Aa] at h
  | succ n=>
   simp only [Aa] at h;obtain ⟨⟨o,s1⟩,h1,h2⟩:=a5.1 h;rw [mn.2 ⟨n+1,h1⟩,ae];cases o with
   | normal=>
    refine mn.2 ⟨n+1,?_⟩;simp only [et];exact C5 (fun _ _ g=>g) (Nat.le_succ n) h2
   | exit id=>exact h2
   | ret=>exact h2
 ·intro h
  obtain ⟨⟨o,s1⟩,h1,h2⟩:=a5.1 h;obtain ⟨n,h1⟩:=mn.1 h1;cases o with
  | normal=>
   obtain ⟨m,h2⟩:=mn.1 h2;simp only [et] at h2;refine ⟨max n m+1,?_⟩;simp only [Aa];rw [pu (show n≤max n m+1 by omega) h1,ae]
   exact C5 (fun _ _ g=>pu (show m≤max n m+1 by omega) g) (n8 n m) h2
  | exit id=>exact ⟨n+1,by simp only [Aa]; rw [pu (Nat.le_succ n) h1,ae]; exact h2⟩
  | ret=>exact ⟨n+1,by simp only [Aa]; rw [pu (Nat.le_succ n) h1,ae]; exact h2⟩
end
def fin (fn:Fn) (np:Nat) (r:Out×St):Option Ans:=
 match r.1 with
 | .exit _=>none
 | _=>if r.2.h.length=np+fn.nblk then (Al r.2 fn.results).bind fun rs=>
  let v:=mz rs
  let own:=(uo v.refs).filter (np≤·)
  (r.2.h.pick own).map fun nb=>
   (v.ren (fun i=>if i<np then i else np+own.idxOf i),r.2.h.take np,nb)
  else none
theorem jh {T:Nat→Option Fn} {A:ah} {f:Nat} {fn:Fn} (hT:T f=some fn) {vs:List V} {bs:Heap} {ans:Ans} (hl:vs.length=fn.nparams)
 (h:(dn (den T A) bs.length fn.body ⟨params 0 vs,bs++List.replicate fn.nblk .hole⟩).bind (fin fn bs.length)=some ans):den T A f vs bs=some ans:=by
 obtain ⟨r,h1,h2⟩:=a5.1 h;obtain ⟨n,h1⟩:=mn.1 h1;refine T2 hT (n:=n) ?_;unfold run;rw [if_pos hl,h1,ae];exact h2
end Pe

namespace Pe
open Go
def ai8 (np:Nat) (ks:List Nat) (s:St):Out×St:=(.normal,⟨s.e.keep ks,ug (s.e.keep ks) np 0 s.h⟩)
@[simp] theorem ajd (np:Nat) (ks:List Nat) (e:Env) (h:Heap):ai8 np ks ⟨e,h⟩=(.normal,⟨e.keep ks,ug (e.keep ks) np 0 h⟩):=rfl
@[simp] theorem amj {O:ah} {np:Nat} {s:St} (is:List Ins) (ks:List Nat):dn O np (.region is ks) s=(i7 O np is s).map (ai8 np ks):=a2e is ks
def agl (e:Env) (i:Ins) (r:V×Heap):St:=⟨(e.kill (i.op.kill e r.1)).putO i.dst r.1,r.2⟩
@[simp] theorem ajp (e:Env) (i:Ins) (v:V) (h:Heap):agl e i (v,h)=⟨(e.kill (i.op.kill e v)).putO i.dst v,h⟩:=rfl
def abz (O:ah) (np:Nat) (s:St) (i:Ins):Option Bool→Option St
 | some true=>(bh O np s.e s.h i.op).map (agl s.e i)
 | some false=>some ⟨s.e.putO i.dst (.tup []),s.h⟩
 | none=>none
@[simp] theorem aec (O:ah) (np:Nat) (s:St) (i:Ins):nv O np s i=abz O np s i (i.on s.e):=rfl
section
variable {O:ah} {np:Nat} {e:Env} {h:Heap}
def kNt (x:D):Option D:=if x.isTup then none else some x
def kEl (p:List Nat) (b:Blk):Option (Sh×List D):=b.elems p
def Jd (p:List Nat) (b:Blk):Option D:=b.get p
def slD (off len:Nat):Option (Sh×List D)→Option D
 | some (s,cs)=>if off+len≤cs.length then some (.sl s ((cs.drop off).take len)) else none
 | none=>none
@[simp] theorem aky (x:D):kNt x=if x.isTup then none else some x:=rfl
@[simp] theorem an1 (p:List Nat) (b:Blk):kEl p b=b.elems p:=rfl
@[simp] theorem ajs (p:List Nat) (b:Blk):Jd p b=b.get p:=rfl
@[simp] theorem ah1 (off len:Nat) (s:Sh) (cs:List D):slD off len (some (s,cs))=if off+len≤cs.length then some (.sl s ((cs.drop off).take len)) else none:=rfl
@[simp] theorem ajv (v:V):Bs h v=(toD h v).bind kNt:=rfl
@[simp] theorem anf (x:D):toD h (.d x)=some x:=by simp [toD]
@[simp] theorem ama (i:Nat) (p:List Nat) (off len:Nat) (cap:Option Nat):toD h (.sl i p off len cap)=slD off len ((h[i]?).bind (kEl p)):=by
 have:(kEl p)=(Blk.elems · p):=rfl
 rw [this];simp only [toD];cases (h[i]?).bind (Blk.elems · p) <;> rfl
@[simp] theorem akr (i:Nat) (p:List Nat):toD h (.ptr i p)=((h[i]?).bind (Jd p)).map .ip:=by simp only [toD]; rfl
def kFn (h:Heap) (f:Nat) (caps:List V) (a:List D):Option D:=(pq h caps).map (.fn f a)
@[simp] theorem amt (f:Nat) (caps:List V) (a:List D):kFn h f caps a=(pq h caps).map (.fn f a):=rfl
@[simp] theorem amv (f:Nat) (first caps:List V):toD h (.fn f first caps)=(pq h first).bind (kFn h f caps):=by simp only [toD]; rfl
@[simp] theorem aka (vs:List V):toD h (.tup vs)=(pq h vs).map .tup:=by simp only [toD]
def kDs (h:Heap) (vs:List V) (x:D):Option (List D):=if x.isTup then none else (pq h vs).map (List.cons x)
@[simp] theorem adm (vs:List V) (x:D):kDs h vs x=if x.isTup then none else (pq h vs).map (List.cons x):=rfl
@[simp] theorem agk:pq h []=some []:=by simp [pq]
@[simp] theorem a3j (v:V) (vs:List V):pq h (v::vs)=(toD h v).bind (kDs h vs):=by simp only [pq]; rfl
def acf (e:Env) (as:List Arg) (v:V):Option (List V):=(e.args as).map (List.cons v)
@[simp] theorem aib (as:List Arg) (v:V):acf e as v=(e.args as).map (List.cons v):=rfl
@[simp] theorem ahj:e.args []=some []:=rfl
@[simp] theorem afk (a:Arg) (as:List Arg):e.args (a::as)=(e.arg a).bind (acf e as):=rfl
def kMv (h:Heap) (v:V):V×Heap:=(v,h)
@[simp] theorem akx (v:V):kMv h v=(v,h):=rfl
@[simp] theorem anh (x:Arg):bh O np e h (.mv x)=(e.arg x).map (kMv h):=rfl
def ad4 (h:Heap):V→Option (V×Heap)
 | .d (.ip y)=>some (.d (.ip y),h)
 | .ptr i p=>some (.ptr i p,h)
 | _=>none
@[simp] theorem ali (y:D):ad4 h (.d (.ip y))=some (.d (.ip y),h):=rfl
@[simp] theorem alg (i:Nat) (p:List Nat):ad4 h (.ptr i p)=some (.ptr i p,h):=rfl
@[simp] theorem amx (x:Arg):bh O np e h (.chk x)=(e.arg x).bind (ad4 h):=by
 simp only [bh];cases e.arg x with
 | none=>rfl
 | some v=>cases v <;> try rfl
           rename_i d; cases d <;> rfl
def acd (e:Env) (h:Heap) (a b:Arg):V→Option (V×Heap)
 | .d (.bool t)=>(e.arg (if t then a else b)).map (kMv h)
 | _=>none
@[simp] theorem akf (a b:Arg) (t:Bool):acd e h a b (.d (.bool t))=(e.arg (if t then a else b)).map (kMv h):=rfl
@[simp] theorem akb (c a b:Arg):bh O np e h (.pick c a b)=(e.arg c).bind (acd e h a b):=by
 simp only [bh];cases e.arg c with
 | none=>rfl
 | some v=>cases v <;> try rfl
           rename_i d; cases d <;> rfl
def a8j (i:Nat) (d:D) (h:Heap):Option (V×Heap):=(ix h i (.box false d)).map (Prod.mk (.ptr i []))
@[simp] theorem agx (i:Nat) (d:D):a8j i d h=(ix h i (.box false d)).map (Prod.mk (.ptr i [])):=rfl
def a7o (np:Nat) (h:Heap) (fz:Bool) (i:Nat) (rs:List Nat) (d:D):Option (V×Heap):=(freezeIf fz h rs).bind (a8j (np+i) d)
@[simp] theorem agd (fz:Bool) (i:Nat) (rs:List Nat) (d:D):a7o np h fz i rs d=(freezeIf fz h rs).bind (a8j (np+i) d):=rfl
def aj0 (np:Nat) (h:Heap) (fz:Bool) (i:Nat) (v:V):Option (V×Heap):=(Bs h v).bind (a7o np h fz i v.refs)
@[simp] theorem ak6 (fz:Bool) (i:Nat) (v:V):aj0 np h fz i v=(Bs h v).bind (a7o np h fz i v.refs):=rfl
@[simp] theorem an6 (fz:Bool) (i:Nat) (x:Arg):bh O np e h (.box fz i x)=(e.arg x).bind (aj0 np h fz i):=rfl
def Lo (h:Heap) (s:Sh) (x:D):Option (V×Heap):=if Sh.beq x.sh s then some (.d x,h) else none
@[simp] theorem ag2 (s:Sh) (x:D):Lo h s x=if Sh.beq x.sh s then some (.d x,h) else none:=rfl
def a7k (h:Heap) (s:Sh):V→Option (V×Heap)
 | .d (.ip x)=>Lo h s x
 | .ptr i p=>((h[i]?).bind (Jd p)).bind (Lo h s)
 | _=>none
@[simp] theorem ake (s:Sh) (x:D):a7k h s (.d (.ip x))=Lo h s x:=rfl
@[simp] theorem ajh (s:Sh) (i:Nat) (p:List Nat):a7k h s (.ptr i p)=((h[i]?).bind (Jd p)).bind (Lo h s):=rfl
@[simp] theorem akn (s:Sh) (x:Arg):bh O np e h (.load s x)=(e.arg x).bind (a7k h s):=by
 simp only [bh];cases e.arg x with
 | none=>rfl
 | some v=>cases v <;> try rfl
           rename_i d; cases d <;> rfl
def abe (h:Heap) (o:BinOp):V→V→Option (V×Heap)
 | .d a,.d b=>(yc o a b).map fun r=>(.d r,h)
 | _,_=>none
def kD (h:Heap) (r:D):V×Heap:=(.d r,h)
@[simp] theorem ana (r:D):kD h r=(.d r,h):=rfl
@[simp] theorem alc (o:BinOp) (a b:D):abe h o (.d a) (.d b)=(yc o a b).map (kD h):=rfl
def a01 (e:Env) (h:Heap) (o:BinOp) (y:Arg) (v:V):Option (V×Heap):=(e.arg y).bind (abe h o v)
@[simp] theorem ago (o:BinOp) (y:Arg) (v:V):a01 e h o y v=(e.arg y).bind (abe h o v):=rfl
@[simp] theorem amb (o:BinOp) (x y:Arg):bh O np e h (.bin o x y)=(e.arg x).bind (a01 e h o y):=by
 simp only [bh];cases e.arg x with
 | none=>rfl
 | some v=>
  cases hy:e.arg y with
  | none=>cases v <;> simp [a01,hy]
  | some w=>cases v <;> cases w <;> simp [a01,hy,abe]
theorem two {α:Type} {x y:Option V} {f:V→V→Option α} {g:Option α} (h1:∀v w,x=some v→y=some w→g=f v w) (h2:x=none∨y=none→g=none):g=x.bind fun v=>y.bind (f v):=by
 cases hx:x with
 | none=>exact h2 (.inl hx)
 | some v=>
  cases hy:y with
  | none=>exact h2 (.inr hy)
  | some w=>exact h1 v w hx hy
def kUn (h:Heap) (o:UnOp):V→Option (V×Heap)
 | .d a=>(unD o a).map (kD h)
 | _=>none
@[simp] theorem an9 (o:UnOp) (a:D):kUn h o (.d a)=(unD o a).map (kD h):=rfl
@[simp] theorem ane (o:UnOp) (x:Arg):bh O np e h (.un o x)=(e.arg x).bind (kUn h o):=by
 simp only [bh];cases e.arg x with
 | none=>rfl
 | some v=>cases v <;> rfl
def abo (h:Heap) (k:IntKind):V→Option (V×Heap)
 | .d (.int _ n)=>some (.d (.int k (k.wrap n)),h)
 | _=>none
@[simp] theorem akh (k q:IntKind) (n:Int):abo h k (.d (.int q n))=some (.d (.int k (k.wrap n)),h):=rfl
@[simp] theorem ak9 (k:IntKind) (x:Arg):bh O np e h (.conv k x)=(e.arg x).bind (abo h k):=by
 simp only [bh];cases e.arg x with
 | none=>rfl
 | some v=>cases v <;> try rfl
           rename_i d; cases d <;> rfl
def ahn (h:Heap) (ss:List Sh) (j:Nat):V→Option (V×Heap)
 | .d (.st ts cs)=>if Sh.beqs ts ss then (cs[j]?).map (kD h) else none
 | _=>none
@[simp] theorem am8 (ss ts:List Sh) (j:Nat) (cs:List D):ahn h ss j (.d (.st ts cs))=if Sh.beqs ts ss then (cs[j]?).map (kD h) else none:=rfl
@[simp] theorem amr (ss:List Sh) (x:Arg) (j:Nat):bh O np e h (.fld ss x j)=(e.arg x).bind (ahn h ss j):=by
 simp only [bh];cases e.arg x with
 | none=>rfl
 | some v=>cases v <;> try rfl
           rename_i d; cases d <;> rfl
def kIp (h:Heap) (c:D):V×Heap:=(.d (.ip c),h)
@[simp] theorem alk (c:D):kIp h c=(.d (.ip c),h):=rfl
def Y1 (h:Heap) (ss:List Sh) (i:Nat) (p:List Nat) (y:D):Option (V×Heap):=if Sh.beq y.sh (.st ss) then some (.ptr i p,h) else none
@[simp] theorem afz (ss:List Sh) (i:Nat) (p:List Nat) (y:D):Y1 h ss i p y=if Sh.beq y.sh (.st ss) then some (.ptr i p,h) else none:=rfl
def a6l (h:Heap) (ss:List Sh) (j:Nat):V→Option (V×Heap)
 | .ptr i p=>((h[i]?).bind (Jd p)).bind (Y1 h ss i (p++[j]))
 | .d (.ip (.st ts cs))=>if Sh.beqs ts ss then (cs[j]?).map (kIp h) else none
 | _=>none
@[simp] theorem ajf (ss:List Sh) (j i:Nat) (p:List Nat):a6l h ss j (.ptr i p)=((h[i]?).bind (Jd p)).bind (Y1 h ss i (p++[j])):=rfl
@[simp] theorem ajq (ss ts:List Sh) (j:Nat) (cs:List D):a6l h ss j (.d (.ip (.st ts cs)))=if Sh.beqs ts ss then (cs[j]?).map (kIp h) else none:=rfl
@[simp] theorem ajj (ss:List Sh) (x:Arg) (j:Nat):bh O np e h (.fldA ss x j)=(e.arg x).bind (a6l h ss j):=by
 simp only [bh];cases e.arg x with
 | none=>rfl
 | some v=>cases v <;> try rfl
           rename_i d; cases d <;> try rfl
           rename_i d; cases d <;> rfl
def afa (h:Heap) (j:Nat):V→Option (V×Heap)
 | .d (.tup vs)=>(vs[j]?).map (kD h)
 | .tup vs=>(vs[j]?).map (kMv h)
 | _=>none
@[simp] theorem an3 (j:Nat) (vs:List D):afa h j (.d (.tup vs))=(vs[j]?).map (kD h):=rfl
@[simp] theorem al1 (j:Nat) (vs:List V):afa h j (.tup vs)=(vs[j]?).map (kMv h):=rfl
@[simp] theorem amu (x:Arg) (j:Nat):bh O np e h (.ext x j)=(e.arg x).bind (afa h j):=by
 simp only [bh];cases e.arg x with
 | none=>rfl
 | some v=>cases v <;> try rfl
           rename_i d; cases d <;> rfl
def a9p (h:Heap):Bool→V→Option (V×Heap)
 | false,.d (.sl _ cs)=>some (.d (.int .i64 cs.length),h)
 | false,.sl _ _ _ n _=>some (.d (.int .i64 n),h)
 | true,.d (.str b)=>some (.d (.int .i64 b.size),h)
 | _,_=>none
@[simp] theorem amw (s:Sh) (cs:List D):a9p h false (.d (.sl s cs))=some (.d (.int .i64 cs.length),h):=rfl
@[simp] theorem amf (i:Nat) (p:List Nat) (off n:Nat) (cap:Option Nat):a9p h false (.sl i p off n cap)=some (.d (.int .i64 n),h):=rfl
@[simp] theorem alv (b:ByteArray):a9p h true (.d (.str b))=some (.d (.int .i64 b.size),h):=rfl
@[simp] theorem an7 (str:Bool) (x:Arg):bh O np e h (.len str x)=(e.arg x).bind (a9p h str):=by
 cases str <;> simp only [bh]
 ·cases e.arg x with
  | none=>rfl
  | some v=>cases v <;> try rfl
            rename_i d; cases d <;> rfl
 ·cases e.arg x with
  | none=>rfl
  | some v=>cases v <;> try rfl
            rename_i d; cases d <;> rfl
def Ef (O:ah) (np:Nat) (h:Heap) (m:Mode) (news:List Nat) (g:Nat×List V×List V) (vs:List V):Option (V×Heap):=
 match m with
 | .heap=>oc O np news h g.1 (g.2.1++vs++g.2.2)
 | _=>jj O m h g.1 (g.2.1++vs++g.2.2)
def Si (O:ah) (np:Nat) (e:Env) (h:Heap) (m:Mode) (news:List Nat) (as:List Arg) (g:Nat×List V×List V):Option (V×Heap):=(e.args as).bind (Ef O np h m news g)
@[simp] theorem afn (m:Mode) (news:List Nat) (as:List Arg) (g:Nat×List V×List V):Si O np e h m news as g=(e.args as).bind (Ef O np h m news g):=rfl
def Wy (O:ah) (np:Nat) (e:Env) (h:Heap) (m:Mode) (news:List Nat) (as:List Arg) (fv:V):Option (V×Heap):=(callee fv).bind (Si O np e h m news as)
@[simp] theorem aga (m:Mode) (news:List Nat) (as:List Arg) (fv:V):Wy O np e h m news as fv=(callee fv).bind (Si O np e h m news as):=rfl
@[simp] theorem ajy (m:Mode) (news:List Nat) (f:Arg) (as:List Arg):bh O np e h (.call m news f as)=(e.arg f).bind (Wy O np e h m news as):=by
 simp only [bh];cases e.arg f with
 | none=>rfl
 | some fv=>
  simp only [ae,Wy];cases callee fv with
  | none=>rfl
  | some g=>
   simp only [ae,Si];cases e.args as with
   | none=>rfl
   | some vs=>cases m <;> rfl
def a2y (m:Mode) (h:Heap) (rs:List Nat) (x:D):Option (V×Heap):=
 match m with
 | .flat=>if x.flat then some (.d x,h) else none
 | .plain=>if rs.isEmpty then some (.d x,h) else none
 | _=>some (.d x,freeze h rs)
@[simp] theorem Hd (rs:List Nat) (x:D):a2y .flat h rs x=if x.flat then some (.d x,h) else none:=rfl
@[simp] theorem acm (rs:List Nat) (x:D):a2y .plain h rs x=if rs.isEmpty then some (.d x,h) else none:=rfl
@[simp] theorem aff (rs:List Nat) (x:D):a2y .data h rs x=some (.d x,freeze h rs):=rfl
def acn (m:Mode) (h:Heap) (rs:List Nat):Ans→Option (V×Heap)
 | (v,_,nb)=>(toD nb v).bind (a2y m h rs)
@[simp] theorem ajn (m:Mode) (rs:List Nat) (v:V) (bs nb:Heap):acn m h rs (v,bs,nb)=(toD nb v).bind (a2y m h rs):=rfl
def Y4 (O:ah) (m:Mode) (h:Heap) (f:Nat) (rs:List Nat) (ds:List D):Option (V×Heap):=(O f (ds.map .d) []).bind (acn m h rs)
def aem:Ans→Option D
 | (v,_,nb)=>toD nb v
@[simp] theorem akl (v:V) (bs nb:Heap):aem (v,bs,nb)=toD nb v:=rfl
def ask (O:ah) (f:Nat) (ds:List D):Option D:=(O f (ds.map .d) []).bind aem
@[simp] theorem Ng (m:Mode) (f:Nat) (rs:List Nat) (ds:List D):Y4 O m h f rs ds=(ask O f ds).bind (a2y m h rs):=by
 unfold Y4 ask;cases O f (ds.map .d) [] with
 | none=>rfl
 | some r=>obtain ⟨v,bs,nb⟩:=r; rfl
theorem Bc (m:Mode) (f:Nat) (vs:List V):jj O m h f vs=(pq h vs).bind (Y4 O m h f (V.refss vs)):=by
 unfold jj;cases pq h vs with
 | none=>rfl
 | some ds=>
  simp only [ae,Y4];cases O f (ds.map .d) [] with
  | none=>rfl
  | some r=>
   obtain ⟨v,bs,nb⟩:=r;simp only [ae,acn];cases toD nb v with
   | none=>rfl
   | some x=>cases m <;> rfl
@[simp] theorem E2 (news:List Nat) (f:Nat) (a c vs:List V):Ef O np h .flat news (f,a,c) vs=(pq h (a++vs++c)).bind (Y4 O .flat h f (V.refss (a++vs++c))):=by
 show jj O .flat h f (a++vs++c)=_;exact Bc _ _ _
@[simp] theorem abw (news:List Nat) (f:Nat) (a c vs:List V):Ef O np h .plain news (f,a,c) vs=(pq h (a++vs++c)).bind (Y4 O .plain h f (V.refss (a++vs++c))):=by
 show jj O .plain h f (a++vs++c)=_;exact Bc _ _ _
@[simp] theorem acl (news:List Nat) (f:Nat) (a c vs:List V):Ef O np h .data news (f,a,c) vs=(pq h (a++vs++c)).bind (Y4 O .data h f (V.refss (a++vs++c))):=by
 show jj O .data h f (a++vs++c)=_;exact Bc _ _ _
@[simp] theorem aet (news:List Nat) (f:Nat) (a c vs:List V):Ef O np h .heap news (f,a,c) vs=oc O np news h f (a++vs++c):=rfl
def ack (h:Heap) (i:Nat) (b:Blk):V×Heap:=(.tup [],h.set i b)
@[simp] theorem aje (i:Nat) (b:Blk):ack h i b=(.tup [],h.set i b):=rfl
def adx (h:Heap) (i:Nat) (p:List Nat) (d:D) (b:Blk):Option (V×Heap):=(b.set p d).map (ack h i)
@[simp] theorem ak3 (i:Nat) (p:List Nat) (d:D) (b:Blk):adx h i p d b=(b.set p d).map (ack h i):=rfl
def T6 (s:Sh) (d:D) (h:Heap):V→Option (V×Heap)
 | .ptr i p=>if Sh.beq d.sh s then (h[i]?).bind (adx h i p d) else none
 | _=>none
@[simp] theorem ag5 (s:Sh) (d:D) (i:Nat) (p:List Nat):T6 s d h (.ptr i p)=if Sh.beq d.sh s then (h[i]?).bind (adx h i p d) else none:=rfl
def Jt (e:Env) (s:Sh) (p:Arg) (d:D) (h:Heap):Option (V×Heap):=(e.arg p).bind (T6 s d h)
@[simp] theorem acx (s:Sh) (p:Arg) (d:D):Jt e s p d h=(e.arg p).bind (T6 s d h):=rfl
def L5 (e:Env) (h:Heap) (fz:Bool) (s:Sh) (p:Arg) (rs:List Nat) (d:D):Option (V×Heap):=(freezeIf fz h rs).bind (Jt e s p d)
@[simp] theorem af7 (fz:Bool) (s:Sh) (p:Arg) (rs:List Nat) (d:D):L5 e h fz s p rs d=(freezeIf fz h rs).bind (Jt e s p d):=rfl
def Xu (e:Env) (h:Heap) (fz:Bool) (s:Sh) (p:Arg) (v:V):Option (V×Heap):=(Bs h v).bind (L5 e h fz s p v.refs)
@[simp] theorem ag9 (fz:Bool) (s:Sh) (p:Arg) (v:V):Xu e h fz s p v=(Bs h v).bind (L5 e h fz s p v.refs):=rfl
@[simp] theorem agt (fz:Bool) (s:Sh) (p x:Arg):bh O np e h (.store fz s p x)=(e.arg x).bind (Xu e h fz s p):=by
 simp only [bh];cases e.arg x with
 | none=>rfl
 | some v=>
  simp only [ae,Xu];cases Bs h v with
  | none=>rfl
  | some d=>
   simp only [ae,L5];cases freezeIf fz h v.refs with
   | none=>rfl
   | some h'=>
    simp only [ae,Jt];cases e.arg p with
    | none=>rfl
    | some w=>cases w <;> rfl
def Wq (h:Heap) (s:Sh) (n:Nat) (i:Nat) (_p:List Nat) (k:Nat) (pp:List Nat) (q:Sh×List D):Option (V×Heap):=if Sh.beq q.1 s∧k<n then some (.ptr i pp,h) else none
@[simp] theorem afr (s:Sh) (n i:Nat) (p:List Nat) (k:Nat) (pp:List Nat) (t:Sh) (cs:List D):Wq h s n i p k pp (t,cs)=if Sh.beq t s∧k<n then some (.ptr i pp,h) else none:=rfl
def a0o (h:Heap) (s:Sh):V→Nat→Option (V×Heap)
 | .sl i p off n _,k=>((h[i]?).bind (kEl p)).bind (Wq h s n i p k (p++[off+k]))
 | .d (.sl t cs),k=>if Sh.beq t s then (cs[k]?).map (kIp h) else none
 | _,_=>none
@[simp] theorem ak5 (s:Sh) (i:Nat) (p:List Nat) (off n:Nat) (cap:Option Nat) (k:Nat):a0o h s (.sl i p off n cap) k=((h[i]?).bind (kEl p)).bind (Wq h s n i p k (p++[off+k])):=rfl
@[simp] theorem ak1 (s t:Sh) (cs:List D) (k:Nat):a0o h s (.d (.sl t cs)) k=if Sh.beq t s then (cs[k]?).map (kIp h) else none:=rfl
def Xc (e:Env) (h:Heap) (s:Sh) (j:Arg) (v:V):Option (V×Heap):=((e.arg j).bind V.nat?).bind (a0o h s v)
@[simp] theorem afq (s:Sh) (j:Arg) (v:V):Xc e h s j v=((e.arg j).bind V.nat?).bind (a0o h s v):=rfl
@[simp] theorem ajg (s:Sh) (x j:Arg):bh O np e h (.idxA none s x j)=(e.arg x).bind (Xc e h s j):=by
 simp only [bh];cases e.arg x with
 | none=>rfl
 | some v=>
  simp only [ae,Xc];cases (e.arg j).bind V.nat? with
  | none=>cases v <;> try rfl
          rename_i d; cases d <;> rfl
  | some k=>cases v <;> try rfl
            rename_i d; cases d <;> rfl
@[simp] theorem aa1 (s:St):i7 O np [] s=some s:=rfl
@[simp] theorem a8y (i:Ins) (is:List Ins) (s:St):i7 O np (i::is) s=(se O np s i).bind (i7 O np is):=rfl
@[simp] theorem ag3 (i:Nat) (s:Sh):bh O np e h (.nilOwn i s)=(ix h (np+i) (.sl false s [])).map (Prod.mk (.sl (np+i) [] 0 0 (some 0))):=rfl
@[simp] theorem akd:bh O np e h .fail=none:=rfl
def Wx (h:Heap) (f:Nat) (us vs:List V):V×Heap:=(.fn f us vs,h)
@[simp] theorem afm (f:Nat) (us vs:List V):Wx h f us vs=(.fn f us vs,h):=rfl
def ac5 (e:Env) (h:Heap) (f:Nat) (cs:List Arg) (us:List V):Option (V×Heap):=(e.args cs).map (Wx h f us)
@[simp] theorem ai9 (f:Nat) (cs:List Arg) (us:List V):ac5 e h f cs us=(e.args cs).map (Wx h f us):=rfl
@[simp] theorem akj (f:Nat) (as cs:List Arg):bh O np e h (.mkFn f as cs)=(e.args as).bind (ac5 e h f cs):=rfl
def a6c (h:Heap):V→V→Option (V×Heap)
 | .d (.int k a),.d (.int k' b)=>if k=k' then some (.d (.int k (if a<b then b else a)),h) else none
 | _,_=>none
@[simp] theorem ajw (k k':IntKind) (a b:Int):a6c h (.d (.int k a)) (.d (.int k' b))=if k=k' then some (.d (.int k (if a<b then b else a)),h) else none:=rfl
def acp (e:Env) (h:Heap) (y:Arg) (v:V):Option (V×Heap):=(e.arg y).bind (a6c h v)
@[simp] theorem ak8 (y:Arg) (v:V):acp e h y v=(e.arg y).bind (a6c h v):=rfl
@[simp] theorem akp (x y:Arg):bh O np e h (.maxI x y)=(e.arg x).bind (acp e h y):=by
 simp only [bh];cases e.arg x with
 | none=>rfl
 | some v=>
  simp only [ae,acp];cases e.arg y with
  | none=>cases v <;> try rfl
          rename_i d; cases d <;> rfl
  | some w=>cases v <;> try rfl
            rename_i d; cases d <;> try rfl
            cases w <;> try rfl
            rename_i d; cases d <;> rfl
def a42 (h:Heap):V→V→Option (V×Heap)
 | .d (.int k a),.d (.int k' b)=>if k=k' then some (.d (.int k (if b<a then b else a)),h) else none
 | _,_=>none
@[simp] theorem ajx (k k':IntKind) (a b:Int):a42 h (.d (.int k a)) (.d (.int k' b))=if k=k' then some (.d (.int k (if b<a then b else a)),h) else none:=rfl
def ae9 (e:Env) (h:Heap) (y:Arg) (v:V):Option (V×Heap):=(e.arg y).bind (a42 h v)
@[simp] theorem aji (y:Arg) (v:V):ae9 e h y v=(e.arg y).bind (a42 h v):=rfl
@[simp] theorem akc (x y:Arg):bh O np e h (.minI x y)=(e.arg x).bind (ae9 e h y):=by
 simp only [bh];cases e.arg x with
 | none=>rfl
 | some v=>
  simp only [ae,ae9];cases e.arg y with
  | none=>cases v <;> try rfl
          rename_i d; cases d <;> rfl
  | some w=>cases v <;> try rfl
            rename_i d; cases d <;> try rfl
            cases w <;> try rfl
            rename_i d; cases d <;> rfl
def a77 (h:Heap) (neg:Bool):V→Option (V×Heap)
 | .d (.sl _ (_::_))=>some (.d (.bool neg),h)
 | .sl _ _ _ (_+1) _=>some (.d (.bool neg),h)
 | _=>none
@[simp] theorem ajc (neg:Bool) (s:Sh) (c:D) (cs:List D):a77 h neg (.d (.sl s (c::cs)))=some (.d (.bool neg),h):=rfl
@[simp] theorem ako (neg:Bool) (i:Nat) (p:List Nat) (off n:Nat) (cap:Option Nat):a77 h neg (.sl i p off (n+1) cap)=some (.d (.bool neg),h):=rfl
def Xn (np:Nat) (h:Heap) (i:Nat) (s:Sh) (z:D) (bytes n m:Nat):Option (V×Heap):=
 if n≤m∧m*bytes≤1099511627776 then (ix h (np+i) (.sl false s (List.replicate n z))).map (Prod.mk (.sl (np+i) [] 0 n (if n=m then some n else none))) else none
@[simp] theorem ag4 (i:Nat) (s:Sh) (z:D) (bytes n m:Nat):Xn np h i s z bytes n m =
 if n≤m∧m*bytes≤1099511627776 then (ix h (np+i) (.sl false s (List.replicate n z))).map (Prod.mk (.sl (np+i) [] 0 n (if n=m then some n else none))) else none:=rfl
def a8g (np:Nat) (e:Env) (h:Heap) (i:Nat) (s:Sh) (z:D) (bytes:Nat) (c:Arg) (n:Nat):Option (V×Heap):=((e.arg c).bind V.nat?).bind (Xn np h i s z bytes n)
@[simp] theorem aic (i:Nat) (s:Sh) (z:D) (bytes:Nat) (c:Arg) (n:Nat):a8g np e h i s z bytes c n=((e.arg c).bind V.nat?).bind (Xn np h i s z bytes n):=rfl
@[simp] theorem ak2 (i:Nat) (s:Sh) (z:D) (bytes:Nat) (l c:Arg):bh O np e h (.mkSl i s z bytes l c)=((e.arg l).bind V.nat?).bind (a8g np e h i s z bytes c):=by
 simp only [bh];cases (e.arg l).bind V.nat? with
 | none=>rfl
 | some n=>
  simp only [ae,a8g];cases (e.arg c).bind V.nat? with
  | none=>rfl
  | some m=>rfl
@[simp] theorem akg (neg:Bool) (x:Arg):bh O np e h (.nilq neg x)=(e.arg x).bind (a77 h neg):=by
 simp only [bh];cases e.arg x with
 | none=>rfl
 | some v=>
  cases v with
  | d d=>cases d <;> try rfl
         rename_i s cs; cases cs <;> rfl
  | sl i p off n cap=>cases n <;> rfl
  | _=>rfl
def a5w (np:Nat) (h:Heap) (s:Sh) (i bytes:Nat) (t:Sh) (ys:List D) (j off n:Nat) (cap:Option Nat):Blk→Option (V×Heap)
 | .sl fr t' cs=>if Sh.beq t s∧Sh.beq t' s∧off+n≤cs.length∧(n+ys.length)*bytes≤1099511627776 then
  (if fr=false∧np≤j then some (.sl j [] 0 (n+ys.length) none,h.set j (.sl false s ((cs.drop off).take n++ys)))
  else if cap=some n∧ys≠[] then (ix h (np+i) (.sl false s ((cs.drop off).take n++ys))).map (Prod.mk (.sl (np+i) [] 0 (n+ys.length) none))
  else none) else none
 | _=>none
@[simp] theorem aj1 (s:Sh) (i bytes:Nat) (t:Sh) (ys:List D) (j off n:Nat) (cap:Option Nat) (fr:Bool) (t':Sh) (cs:List D):a5w np h s i bytes t ys j off n cap (.sl fr t' cs) =
 if Sh.beq t s∧Sh.beq t' s∧off+n≤cs.length∧(n+ys.length)*bytes≤1099511627776 then
  (if fr=false∧np≤j then some (.sl j [] 0 (n+ys.length) none,h.set j (.sl false s ((cs.drop off).take n++ys)))
  else if cap=some n∧ys≠[] then (ix h (np+i) (.sl false s ((cs.drop off).take n++ys))).map (Prod.mk (.sl (np+i) [] 0 (n+ys.length) none))
  else none) else none:=rfl
def a0a (np:Nat) (h:Heap) (s:Sh) (i bytes:Nat):D→V→Option (V×Heap)
 | .sl t ys,.sl j [] off n cap=>(h[j]?).bind (a5w np h s i bytes t ys j off n cap)
 | .sl t (y::ys),.d (.nils t')=>if Sh.beq t s∧Sh.beq t' s∧(ys.length+1)*bytes≤1099511627776 then
  (ix h (np+i) (.sl false s (y::ys))).map (Prod.mk (.sl (np+i) [] 0 (ys.length+1) none)) else none
 | _,_=>none
@[simp] theorem aan (s:Sh) (i bytes:Nat) (t:Sh) (ys:List D) (j off n:Nat) (cap:Option Nat):a0a np h s i bytes (.sl t ys) (.sl j [] off n cap)=(h[j]?).bind (a5w np h s i bytes t ys j off n cap):=by
 cases ys <;> rfl
@[simp] theorem ak7 (s:Sh) (i bytes:Nat) (t t':Sh) (y:D) (ys:List D):a0a np h s i bytes (.sl t (y::ys)) (.d (.nils t'))=if Sh.beq t s∧Sh.beq t' s∧(ys.length+1)*bytes≤1099511627776 then
 (ix h (np+i) (.sl false s (y::ys))).map (Prod.mk (.sl (np+i) [] 0 (ys.length+1) none)) else none:=rfl
def a14 (np:Nat) (e:Env) (h:Heap) (s:Sh) (i bytes:Nat) (x:Arg) (d:D):Option (V×Heap):=(e.arg x).bind (a0a np h s i bytes d)
@[simp] theorem agp (s:Sh) (i bytes:Nat) (x:Arg) (d:D):a14 np e h s i bytes x d=(e.arg x).bind (a0a np h s i bytes d):=rfl
def adc (np:Nat) (e:Env) (h:Heap) (s:Sh) (i bytes:Nat) (x:Arg) (w:V):Option (V×Heap):=(toD h w).bind (a14 np e h s i bytes x)
@[simp] theorem ajz (s:Sh) (i bytes:Nat) (x:Arg) (w:V):adc np e h s i bytes x w=(toD h w).bind (a14 np e h s i bytes x):=rfl
@[simp] theorem ag8 (s:Sh) (i bytes:Nat) (x y:Arg):bh O np e h (.append s i bytes x y)=(e.arg y).bind (adc np e h s i bytes x):=by
 simp only [bh];cases e.arg y with
 | none=>rfl
 | some w=>
  simp only [ae,adc];cases toD h w with
  | none=>rfl
  | some d=>
   simp only [ae,a14];cases e.arg x with
   | none=>cases d <;> try rfl
   | some v=>
    cases d <;> try (cases v <;> rfl)
    rename_i t ys
    cases v with
    | sl j p off n cap=>
     cases p with
     | nil=>
      simp only [ae,aan];cases h[j]? with
      | none=>rfl
      | some b=>cases b <;> rfl
     | cons _ _=>cases ys <;> rfl
    | d d=>cases ys <;> cases d <;> rfl
    | _=>cases ys <;> rfl
def a05 (h:Heap):Option Nat→Sh→V→Nat→Option (V×Heap)
 | some n,s,.d (.arr n' t cs),k=>if n'=n∧Sh.beq t s then (cs[k]?).map (kD h) else none
 | none,_,.d (.str b),k=>(b[k]?).map fun c=>(.d (.int .u8 c.toNat),h)
 | _,_,_,_=>none
@[simp] theorem ajm (n n':Nat) (s t:Sh) (cs:List D) (k:Nat):a05 h (some n) s (.d (.arr n' t cs)) k=if n'=n∧Sh.beq t s then (cs[k]?).map (kD h) else none:=rfl
@[simp] theorem aks (s:Sh) (b:ByteArray) (k:Nat):a05 h none s (.d (.str b)) k=(b[k]?).map fun c=>(.d (.int .u8 c.toNat),h):=rfl
def a9q (e:Env) (h:Heap) (ar:Option Nat) (s:Sh) (j:Arg) (v:V):Option (V×Heap):=((e.arg j).bind V.nat?).bind (a05 h ar s v)
@[simp] theorem ajk (ar:Option Nat) (s:Sh) (j:Arg) (v:V):a9q e h ar s j v=((e.arg j).bind V.nat?).bind (a05 h ar s v):=rfl
@[simp] theorem al4 (ar:Option Nat) (s:Sh) (x j:Arg):bh O np e h (.idx ar s x j)=(e.arg x).bind (a9q e h ar s j):=by
 cases ar <;> simp only [bh]
 ·cases e.arg x with
  | none=>rfl
  | some v=>
   simp only [ae,a9q];cases (e.arg j).bind V.nat? with
   | none=>cases v <;> try rfl
           rename_i d; cases d <;> rfl
   | some k=>cases v <;> try rfl
             rename_i d; cases d <;> rfl
 ·cases e.arg x with
  | none=>rfl
  | some v=>
   simp only [ae,a9q];cases (e.arg j).bind V.nat? with
   | none=>cases v <;> try rfl
           rename_i d; cases d <;> rfl
   | some k=>cases v <;> try rfl
             rename_i d; cases d <;> rfl
def Yf (h:Heap) (n:Nat) (s:Sh) (i:Nat) (p:List Nat) (k:Nat):D→Option (V×Heap)
 | .arr n' t _=>if n'=n∧Sh.beq t s∧k<n then some (.ptr i (p++[k]),h) else none
 | _=>none
@[simp] theorem aik (n n':Nat) (s t:Sh) (i:Nat) (p:List Nat) (k:Nat) (cs:List D):Yf h n s i p k (.arr n' t cs)=if n'=n∧Sh.beq t s∧k<n then some (.ptr i (p++[k]),h) else none:=rfl
def a19 (h:Heap) (n:Nat) (s:Sh):V→Nat→Option (V×Heap)
 | .ptr i p,k=>((h[i]?).bind (Jd p)).bind (Yf h n s i p k)
 | .d (.ip (.arr n' t cs)),k=>if n'=n∧Sh.beq t s then (cs[k]?).map (kIp h) else none
 | _,_=>none
@[simp] theorem aae (n:Nat) (s:Sh) (i:Nat) (p:List Nat) (k:Nat):a19 h n s (.ptr i p) k=((h[i]?).bind (Jd p)).bind (Yf h n s i p k):=rfl
@[simp] theorem akk (n n':Nat) (s t:Sh) (cs:List D) (k:Nat):a19 h n s (.d (.ip (.arr n' t cs))) k=if n'=n∧Sh.beq t s then (cs[k]?).map (kIp h) else none:=rfl
def X9 (e:Env) (h:Heap) (n:Nat) (s:Sh) (j:Arg) (v:V):Option (V×Heap):=((e.arg j).bind V.nat?).bind (a19 h n s v)
@[simp] theorem afc (n:Nat) (s:Sh) (j:Arg) (v:V):X9 e h n s j v=((e.arg j).bind V.nat?).bind (a19 h n s v):=rfl
@[simp] theorem ajt (n:Nat) (s:Sh) (x j:Arg):bh O np e h (.idxA (some n) s x j)=(e.arg x).bind (X9 e h n s j):=by
 simp only [bh];cases e.arg x with
 | none=>rfl
 | some v=>
  simp only [ae,X9];cases (e.arg j).bind V.nat? with
  | none=>cases v <;> try rfl
          rename_i d; cases d <;> try rfl
          rename_i d; cases d <;> rfl
  | some k=>
   cases v with
   | ptr i p=>
    simp only [aae,ae];show ((h[i]?).bind (Jd p)).bind _=_
    congr 1
   | d d=>cases d <;> try rfl
          rename_i d; cases d <;> rfl
   | _=>rfl
def aey (h:Heap) (neg:Bool) (q:Q):V→V→Option (V×Heap)
 | .d a,.d b=>(D.beq q a b).map fun r=>(.d (.bool (if neg then !r else r)),h)
 | _,_=>none
@[simp] theorem amg (neg:Bool) (q:Q) (a b:D):aey h neg q (.d a) (.d b)=(D.beq q a b).map fun r=>(.d (.bool (if neg then !r else r)),h):=rfl
def a4l (e:Env) (h:Heap) (neg:Bool) (q:Q) (y:Arg) (v:V):Option (V×Heap):=(e.arg y).bind (aey h neg q v)
@[simp] theorem ah5 (neg:Bool) (q:Q) (y:Arg) (v:V):a4l e h neg q y v=(e.arg y).bind (aey h neg q v):=rfl
@[simp] theorem am3 (neg:Bool) (q:Q) (x y:Arg):bh O np e h (.eqv neg q x y)=(e.arg x).bind (a4l e h neg q y):=by
 simp only [bh];cases e.arg x with
 | none=>rfl
 | some v=>
  simp only [ae,a4l];cases e.arg y with
  | none=>cases v <;> rfl
  | some w=>cases v <;> cases w <;> rfl
def Y9 (h:Heap) (s t:Sh) (cs:List D) (m b a:Nat):Option (V×Heap):=if Sh.beq t s∧a≤b∧b≤m∧m≤cs.length then some (.d (.sl t ((cs.drop a).take (b-a))),h) else none
@[simp] theorem afs (s t:Sh) (cs:List D) (m b a:Nat):Y9 h s t cs m b a=if Sh.beq t s∧a≤b∧b≤m∧m≤cs.length then some (.d (.sl t ((cs.drop a).take (b-a))),h) else none:=rfl
def Wg (e:Env) (h:Heap) (s t:Sh) (cs:List D) (lo:Option Arg) (m b:Nat):Option (V×Heap):=(eo e lo 0).bind (Y9 h s t cs m b)
@[simp] theorem ag6 (s t:Sh) (cs:List D) (lo:Option Arg) (m b:Nat):Wg e h s t cs lo m b=(eo e lo 0).bind (Y9 h s t cs m b):=rfl
def Xo (e:Env) (h:Heap) (s t:Sh) (cs:List D) (lo hi:Option Arg) (m:Nat):Option (V×Heap):=(eo e hi cs.length).bind (Wg e h s t cs lo m)
@[simp] theorem aft (s t:Sh) (cs:List D) (lo hi:Option Arg) (m:Nat):Xo e h s t cs lo hi m=(eo e hi cs.length).bind (Wg e h s t cs lo m):=rfl
def Xb (h:Heap) (s t:Sh) (i:Nat) (p:List Nat) (off n:Nat) (cap:Option Nat) (ismx:Bool) (m b a:Nat):Option (V×Heap):=if Sh.beq t s∧a≤b∧b≤m∧m≤n then some (.sl i p (off+a) (b-a) (if ismx then some (m-a) else cap.map (· - a)),h) else none
@[simp] theorem afx (s t:Sh) (i:Nat) (p:List Nat) (off n:Nat) (cap:Option Nat) (ismx:Bool) (m b a:Nat):Xb h s t i p off n cap ismx m b a=if Sh.beq t s∧a≤b∧b≤m∧m≤n then some (.sl i p (off+a) (b-a) (if ismx then some (m-a) else cap.map (· - a)),h) else none:=rfl
def Wi (e:Env) (h:Heap) (s t:Sh) (i:Nat) (p:List Nat) (off n:Nat) (cap:Option Nat) (ismx:Bool) (lo:Option Arg) (m b:Nat):Option (V×Heap):=(eo e lo 0).bind (Xb h s t i p off n cap ismx m b)
@[simp] theorem afo (s t:Sh) (i:Nat) (p:List Nat) (off n:Nat) (cap:Option Nat) (ismx:Bool) (lo:Option Arg) (m b:Nat):Wi e h s t i p off n cap ismx lo m b=(eo e lo 0).bind (Xb h s t i p off n cap ismx m b):=rfl
def Xm (e:Env) (h:Heap) (s t:Sh) (i:Nat) (p:List Nat) (off n:Nat) (cap:Option Nat) (ismx:Bool) (lo hi:Option Arg) (m:Nat):Option (V×Heap):=(eo e hi n).bind (Wi e h s t i p off n cap ismx lo m)
@[simp] theorem afp (s t:Sh) (i:Nat) (p:List Nat) (off n:Nat) (cap:Option Nat) (ismx:Bool) (lo hi:Option Arg) (m:Nat):Xm e h s t i p off n cap ismx lo hi m=(eo e hi n).bind (Wi e h s t i p off n cap ismx lo m):=rfl
def Ye (e:Env) (h:Heap) (s:Sh) (i:Nat) (p:List Nat) (off n:Nat) (cap:Option Nat) (mx lo hi:Option Arg):Sh×List D→Option (V×Heap)
 | (t,_)=>(eo e mx n).bind (Xm e h s t i p off n cap mx.isSome lo hi)
@[simp] theorem afu (s:Sh) (i:Nat) (p:List Nat) (off n:Nat) (cap:Option Nat) (mx lo hi:Option Arg) (t:Sh) (cs:List D):Ye e h s i p off n cap mx lo hi (t,cs)=(eo e mx n).bind (Xm e h s t i p off n cap mx.isSome lo hi):=rfl
def ad3 (e:Env) (h:Heap) (s:Sh) (lo hi mx:Option Arg):V→Option (V×Heap)
 | .d (.sl t cs)=>(eo e mx cs.length).bind (Xo e h s t cs lo hi)
 | .sl i p off n cap=>((h[i]?).bind (kEl p)).bind (Ye e h s i p off n cap mx lo hi)
 | _=>none
@[simp] theorem alj (s t:Sh) (cs:List D) (lo hi mx:Option Arg):ad3 e h s lo hi mx (.d (.sl t cs))=(eo e mx cs.length).bind (Xo e h s t cs lo hi):=rfl
@[simp] theorem ae0 (s:Sh) (i:Nat) (p:List Nat) (off n:Nat) (cap:Option Nat) (lo hi mx:Option Arg):ad3 e h s lo hi mx (.sl i p off n cap)=((h[i]?).bind (kEl p)).bind (Ye e h s i p off n cap mx lo hi):=rfl
@[simp] theorem al3 (s:Sh) (x:Arg) (lo hi mx:Option Arg):bh O np e h (.cut none s x lo hi mx)=(e.arg x).bind (ad3 e h s lo hi mx):=by
 simp only [bh];cases e.arg x with
 | none=>rfl
 | some v=>
  cases v with
  | d d=>cases d <;> rfl
  | sl i p off n cap=>
   simp only [ae,ae0];show ((h[i]?).bind (kEl p)).bind _=_
   congr 1
   funext q
   obtain ⟨t,cs⟩:=q;cases mx <;> rfl
  | _=>rfl
def Qy (h:Heap) (n:Nat) (i:Nat) (p:List Nat) (m b a:Nat):Option (V×Heap):=if a≤b∧b≤m∧m≤n then some (.sl i p a (b-a) (some (m-a)),h) else none
@[simp] theorem afv (n i:Nat) (p:List Nat) (m b a:Nat):Qy h n i p m b a=if a≤b∧b≤m∧m≤n then some (.sl i p a (b-a) (some (m-a)),h) else none:=rfl
def Rb (e:Env) (h:Heap) (n:Nat) (i:Nat) (p:List Nat) (lo:Option Arg) (m b:Nat):Option (V×Heap):=(eo e lo 0).bind (Qy h n i p m b)
@[simp] theorem afj (n i:Nat) (p:List Nat) (lo:Option Arg) (m b:Nat):Rb e h n i p lo m b=(eo e lo 0).bind (Qy h n i p m b):=rfl
def S8 (e:Env) (h:Heap) (n:Nat) (i:Nat) (p:List Nat) (lo hi:Option Arg) (m:Nat):Option (V×Heap):=(eo e hi n).bind (Rb e h n i p lo m)
@[simp] theorem afl (n i:Nat) (p:List Nat) (lo hi:Option Arg) (m:Nat):S8 e h n i p lo hi m=(eo e hi n).bind (Rb e h n i p lo m):=rfl
def Sa (e:Env) (h:Heap) (n:Nat) (s:Sh) (i:Nat) (p:List Nat) (lo hi mx:Option Arg):D→Option (V×Heap)
 | .arr n' t _=>if n'=n∧Sh.beq t s then (eo e mx n).bind (S8 e h n i p lo hi) else none
 | _=>none
@[simp] theorem agc (n n':Nat) (s t:Sh) (cs:List D) (i:Nat) (p:List Nat) (lo hi mx:Option Arg):Sa e h n s i p lo hi mx (.arr n' t cs)=if n'=n∧Sh.beq t s then (eo e mx n).bind (S8 e h n i p lo hi) else none:=rfl
def acb (e:Env) (h:Heap) (n:Nat) (s:Sh) (lo hi mx:Option Arg):V→Option (V×Heap)
 | .ptr i p=>((h[i]?).bind (Jd p)).bind (Sa e h n s i p lo hi mx)
 | .d (.ip (.arr n' t cs))=>(eo e mx n).bind fun m=>(eo e hi n).bind fun b=>(eo e lo 0).bind fun a=>
  if n'=n∧Sh.beq t s∧a≤b∧b≤m∧m≤n then some (.d (.sl t ((cs.drop a).take (b-a))),h) else none
 | _=>none
@[simp] theorem abl (n:Nat) (s:Sh) (lo hi mx:Option Arg) (i:Nat) (p:List Nat):acb e h n s lo hi mx (.ptr i p)=((h[i]?).bind (Jd p)).bind (Sa e h n s i p lo hi mx):=rfl
@[simp] theorem ajo (n:Nat) (s:Sh) (x:Arg) (lo hi mx:Option Arg):bh O np e h (.cut (some n) s x lo hi mx)=(e.arg x).bind (acb e h n s lo hi mx):=by
 simp only [bh];cases e.arg x with
 | none=>rfl
 | some v=>
 cases v with
 | d d=>cases d <;> try rfl
        rename_i d; cases d <;> rfl
 | ptr i p=>
 simp only [ae,abl];show ((h[i]?).bind (Jd p)).bind _=_
 congr 1
 funext y
 cases y <;> try rfl
 rename_i n' t cs
 simp only [Sa]
 by_cases hc:n'=n∧Sh.beq t s=true
 ·rw [if_pos hc]
  cases eo e mx n with
  | none=>rfl
  | some m=>
   simp only [ae,S8];cases eo e hi n with
   | none=>rfl
   | some b=>
    simp only [ae,Rb];cases eo e lo 0 with
    | none=>rfl
    | some a=>simp only [ae,Qy,hc,true_and]
 ·rw [if_neg hc]
  cases eo e mx n with
  | none=>rfl
  | some m=>
   simp only [ae];cases eo e hi n with
   | none=>rfl
   | some b=>
    simp only [ae];cases eo e lo 0 with
    | none=>rfl
    | some a=>
     simp only [ae];rw [if_neg]
     rintro ⟨h1,h2,_⟩
     exact hc ⟨h1,h2⟩
 | _=>rfl
def acu (h:Heap) (n:Nat) (s:Sh) (cs:List D):V×Heap:=(.d (.arr n s cs),h)
@[simp] theorem aki (n:Nat) (s:Sh) (cs:List D):acu h n s cs=(.d (.arr n s cs),h):=rfl
def kSt (h:Heap) (ss:List Sh) (cs:List D):V×Heap:=(.d (.st ss cs),h)
@[simp] theorem al7 (ss:List Sh) (cs:List D):kSt h ss cs=(.d (.st ss cs),h):=rfl
def Jw (xs:List (Nat×D)):D→Heap→Option (V×Heap)
 | .arr n s cs,h=>(rr cs xs).map (acu h n s)
 | .st ss cs,h=>(rr cs xs).map (kSt h ss)
 | _,_=>none
@[simp] theorem ag1 (xs:List (Nat×D)) (n:Nat) (s:Sh) (cs:List D):Jw xs (.arr n s cs) h=(rr cs xs).map (acu h n s):=rfl
@[simp] theorem afi (xs:List (Nat×D)) (ss:List Sh) (cs:List D):Jw xs (.st ss cs) h=(rr cs xs).map (kSt h ss):=rfl
def Wl (h:Heap) (fz:Bool) (z:D) (rs:List Nat) (xs:List (Nat×D)):Option (V×Heap):=(freezeIf fz h rs).bind (Jw xs z)
@[simp] theorem afy (fz:Bool) (z:D) (rs:List Nat) (xs:List (Nat×D)):Wl h fz z rs xs=(freezeIf fz h rs).bind (Jw xs z):=rfl
@[simp] theorem aiw (fz:Bool) (z:D) (ps:List (Nat×Arg)):bh O np e h (.build fz z ps)=(jr e h ps).bind (Wl h fz z (fa e ps)):=by
 simp only [bh];cases jr e h ps with
 | none=>rfl
 | some xs=>
  simp only [ae,Wl];cases freezeIf fz h (fa e ps) with
  | none=>rfl
  | some h'=>cases z <;> rfl
def a55 (id n:Nat) (s:Sh) (cs:List D) (h:Heap):Option (V×Heap):=(ix h id (.sl false s cs)).map (Prod.mk (.sl id [] 0 n (some n)))
@[simp] theorem aip (id n:Nat) (s:Sh) (cs:List D):a55 id n s cs h=(ix h id (.sl false s cs)).map (Prod.mk (.sl id [] 0 n (some n))):=rfl
def a43 (h:Heap) (fz:Bool) (id n:Nat) (s:Sh) (rs:List Nat) (cs:List D):Option (V×Heap):=(freezeIf fz h rs).bind (a55 id n s cs)
@[simp] theorem ahb (fz:Bool) (id n:Nat) (s:Sh) (rs:List Nat) (cs:List D):a43 h fz id n s rs cs=(freezeIf fz h rs).bind (a55 id n s cs):=rfl
def ac0 (h:Heap) (fz:Bool) (id n:Nat) (s:Sh) (z:D) (rs:List Nat) (xs:List (Nat×D)):Option (V×Heap):=(rr (List.replicate n z) xs).bind (a43 h fz id n s rs)
@[simp] theorem ahx (fz:Bool) (id n:Nat) (s:Sh) (z:D) (rs:List Nat) (xs:List (Nat×D)):ac0 h fz id n s z rs xs=(rr (List.replicate n z) xs).bind (a43 h fz id n s rs):=rfl
@[simp] theorem ad9 (fz:Bool) (i:Nat) (s:Sh) (z:D) (n:Nat) (ps:List (Nat×Arg)):bh O np e h (.buildSl fz i s z n ps)=(jr e h ps).bind (ac0 h fz (np+i) n s z (fa e ps)):=rfl
end
@[simp] theorem afh (k:IntKind) (n:Int):(D.int k n).isTup=false:=rfl
@[simp] theorem an8 (k:IntKind) (n:Int):(D.int k n).sh=.leaf:=rfl
@[simp] theorem aez (b:Bool):(D.bool b).isTup=false:=rfl
@[simp] theorem aju (b:Bool):(D.bool b).sh=.leaf:=rfl
@[simp] theorem afw (s:ByteArray):(D.str s).isTup=false:=rfl
@[simp] theorem am9 (s:ByteArray):(D.str s).sh=.leaf:=rfl
@[simp] theorem afd (n:Nat) (s:Sh) (cs:List D):(D.arr n s cs).isTup=false:=rfl
@[simp] theorem an0 (n:Nat) (s:Sh) (cs:List D):(D.arr n s cs).sh=.arr n s:=rfl
@[simp] theorem aha (ss:List Sh) (cs:List D):(D.st ss cs).isTup=false:=rfl
@[simp] theorem ani (ss:List Sh) (cs:List D):(D.st ss cs).sh=.st ss:=rfl
@[simp] theorem aj6 (s:Sh) (cs:List D):(D.sl s cs).isTup=false:=rfl
@[simp] theorem anc (s:Sh) (cs:List D):(D.sl s cs).sh=.leaf:=rfl
@[simp] theorem ag0 (cs:List D):(D.tup cs).isTup=true:=rfl
@[simp] theorem akw (cs:List D):(D.tup cs).sh=.leaf:=rfl
@[simp] theorem ahm (d:D):(D.ip d).isTup=false:=rfl
@[simp] theorem ang (d:D):(D.ip d).sh=.leaf:=rfl
@[simp] theorem adh  : D.nilp.isTup=false:=rfl
@[simp] theorem ajr  : D.nilp.sh=.leaf:=rfl
@[simp] theorem aeh (s:Sh):(D.nils s).isTup=false:=rfl
@[simp] theorem ak4 (s:Sh):(D.nils s).sh=.leaf:=rfl
@[simp] theorem ahu (f:Nat) (a b:List D):(D.fn f a b).isTup=false:=rfl
@[simp] theorem anb (f:Nat) (a b:List D):(D.fn f a b).sh=.leaf:=rfl
@[simp] theorem aev  : D.nilf.isTup=false:=rfl
@[simp] theorem akq  : D.nilf.sh=.leaf:=rfl
@[simp] theorem abt (n:Nat) (d:D):(D.iface n d).isTup=false:=rfl
@[simp] theorem aj2 (n:Nat) (d:D):(D.iface n d).sh=.leaf:=rfl
@[simp] theorem aeq  : D.nili.isTup=false:=rfl
@[simp] theorem ajl  : D.nili.sh=.leaf:=rfl
def a1v (k:IntKind) (x y:Int):Int:=k.wrap (BitVec.ofInt k.bits x &&& BitVec.ofInt k.bits y).toNat
def orI (k:IntKind) (x y:Int):Int:=k.wrap (BitVec.ofInt k.bits x ||| BitVec.ofInt k.bits y).toNat
def alq (k:IntKind) (x y:Int):Int:=k.wrap (BitVec.ofInt k.bits x ^^^ BitVec.ofInt k.bits y).toNat
section
variable (k:IntKind) (x y:Int)
@[simp] theorem aj9:A4 .add k x y=some (.int k (k.wrap (x+y))):=rfl
@[simp] theorem ai1:A4 .sub k x y=some (.int k (k.wrap (x-y))):=rfl
@[simp] theorem ahd:A4 .mul k x y=some (.int k (k.wrap (x*y))):=rfl
@[simp] theorem agw:A4 .quo k x y=if y=0 then none else some (.int k (k.wrap (x.tdiv y))):=rfl
@[simp] theorem aiy:A4 .rem k x y=if y=0 then none else some (.int k (x.tmod y)):=rfl
@[simp] theorem agi:A4 .and k x y=some (.int k (a1v k x y)):=rfl
@[simp] theorem akm:A4 .or k x y=some (.int k (orI k x y)):=rfl
@[simp] theorem aht:A4 .xor k x y=some (.int k (alq k x y)):=rfl
@[simp] theorem ahc:A4 .eql k x y=some (.bool (decide (x=y))):=rfl
@[simp] theorem ahl:A4 .neq k x y=some (.bool (!decide (x=y))):=rfl
@[simp] theorem aj5:A4 .lss k x y=some (.bool (decide (x<y))):=rfl
@[simp] theorem ahe:A4 .leq k x y=some (.bool (decide (x≤y))):=rfl
@[simp] theorem agz:A4 .gtr k x y=some (.bool (decide (y<x))):=rfl
@[simp] theorem ahg:A4 .geq k x y=some (.bool (decide (y≤x))):=rfl
end
def wo (o:BinOp) (k k':IntKind) (a b:Int):Option D:=if k=k' then A4 o k a b else none
@[simp] theorem aii (o:BinOp) (k:IntKind) (a b:Int):wo o k k a b=A4 o k a b:=if_pos rfl
section
variable (k k':IntKind) (a b:Int)
@[simp] theorem ah6:yc .shl (.int k a) (.int k' b)=zm .shl k a b:=rfl
@[simp] theorem ajb:yc .shr (.int k a) (.int k' b)=zm .shr k a b:=rfl
@[simp] theorem ai2:yc .add (.int k a) (.int k' b)=wo .add k k' a b:=rfl
@[simp] theorem aj3:yc .sub (.int k a) (.int k' b)=wo .sub k k' a b:=rfl
@[simp] theorem aiu:yc .mul (.int k a) (.int k' b)=wo .mul k k' a b:=rfl
@[simp] theorem agq:yc .quo (.int k a) (.int k' b)=wo .quo k k' a b:=rfl
@[simp] theorem ai0:yc .rem (.int k a) (.int k' b)=wo .rem k k' a b:=rfl
@[simp] theorem ahf:yc .and (.int k a) (.int k' b)=wo .and k k' a b:=rfl
@[simp] theorem ak0:yc .or (.int k a) (.int k' b)=wo .or k k' a b:=rfl
@[simp] theorem aj7:yc .xor (.int k a) (.int k' b)=wo .xor k k' a b:=rfl
@[simp] theorem aia:yc .eql (.int k a) (.int k' b)=wo .eql k k' a b:=rfl
@[simp] theorem aig:yc .neq (.int k a) (.int k' b)=wo .neq k k' a b:=rfl
@[simp] theorem ahp:yc .lss (.int k a) (.int k' b)=wo .lss k k' a b:=rfl
@[simp] theorem agr:yc .leq (.int k a) (.int k' b)=wo .leq k k' a b:=rfl
@[simp] theorem ai7:yc .gtr (.int k a) (.int k' b)=wo .gtr k k' a b:=rfl
@[simp] theorem aie:yc .geq (.int k a) (.int k' b)=wo .geq k k' a b:=rfl
end
@[simp] theorem ai6 (o:BinOp) (a b:ByteArray):yc o (.str a) (.str b)=(match o with | .shl | .shr=>none | o=>a9w o a b):=by cases o <;> rfl
attribute [simp] oc
attribute [simp] Env.clear abh ad1 ab4 aee a7g Sj a0i fin se abz Ins.side Ins.on Env.arg Env.get Env.keep Env.kill Op.kill Env.putO Env.refsOf Op.temps Arg.temps Av xv wb
 V.refs V.refss Sh.beq Sh.beqs Blk.get Blk.set Blk.elems D.get D.set D.arrOf freezeIf freeze Blk.freeze ix rr jr fa eo V.nat? unD callee uo Heap.pick Heap.put putNews Blk.isHole V.ren V.rens Al X1 mz params D.flat D.flats ug Env.refd Env.free
theorem bi {T:Nat→Option Fn} {A:ah} {f:Nat} {fn:Fn} (hT:T f=some fn) {ds:List D} {d:D} (hl:ds.length=fn.nparams)
 (h:((dn (den T A) 0 fn.body ⟨params 0 (ds.map .d),List.replicate fn.nblk .hole⟩).bind (fin fn 0)).bind aem=some d):ask (den T A) f ds=some d:=by
 obtain ⟨r,h1,h2⟩:=a5.1 h;unfold ask;rw [jh hT (vs:=ds.map .d) (bs:=[]) (by rw [ap]; exact hl) h1]
 exact h2
theorem bm {O:ah} {np:Nat} {c:Cd} {s s1:St} {r:Option (Out×St)} (h:dn O np c s=some (.normal,s1)) (h2:dn O np (.loop c) s1=r):dn O np (.loop c) s=r:=by
 rw [Ra,h]; exact h2
theorem bt {O:ah} {np:Nat} {c:Cd} {s s1:St} {id:Nat} (h:dn O np c s=some (.exit id,s1)):dn O np (.loop c) s=some (.exit id,s1):=by
 rw [Ra,h]; rfl
theorem lq {O:ah} {np:Nat} {c:Cd} {s s1:St} (h:dn O np c s=some (.ret,s1)):dn O np (.loop c) s=some (.ret,s1):=by
 rw [Ra,h]; rfl
def ab (k:IntKind) (l:List Int):List D:=l.map (.int k)
@[simp] theorem Iq (k:IntKind) (l:List Int):(ab k l).length=l.length:=by simp [ab]
@[simp] theorem aho (k:IntKind) (l:List Int) (i:Nat):(ab k l)[i]? = (l[i]?).map (.int k):=by simp [ab]
@[simp] theorem aau (k:IntKind) (l:List Int) (i:Nat) (h:i<(ab k l).length):(ab k l)[i]=.int k (l[i]'(by simpa using h)):=by simp [ab]
@[simp] theorem ag7 (k:IntKind) (l:List Int) (n:Nat):(ab k l).take n=ab k (l.take n):=by simp [ab]
@[simp] theorem afg (k:IntKind) (l:List Int) (n:Nat):(ab k l).drop n=ab k (l.drop n):=by simp [ab]
@[simp] theorem ai5 (k:IntKind) (l:List Int) (n:Nat) (x:Int):(ab k l).set n (.int k x)=ab k (l.set n x):=by simp [ab,fg]
@[simp] theorem Io (k:IntKind) (l m:List Int):ab k l++ab k m=ab k (l++m):=by simp [ab]
@[simp] theorem a5x (k:IntKind) (n:Nat) (x:Int):List.replicate n (D.int k x)=ab k (List.replicate n x):=by simp [ab]
@[simp] theorem Nu (k:IntKind):∀l:List Int,D.flats (ab k l)=true
 | []=>rfl
 | x::l=>by show (D.flat (.int k x)&&D.flats (ab k l))=true; rw [Nu k l]; rfl
theorem gy (k:IntKind):ab k []=[]:=rfl
@[simp] theorem aio (n:Nat):List.replicate (n+1) Blk.hole=.hole::List.replicate n .hole:=rfl
@[simp] theorem afe:List.replicate 0 Blk.hole=[]:=rfl
theorem w64 {x:Int} (h:-9223372036854775808≤x∧x≤9223372036854775807):IntKind.i64.wrap x=x:=IntWalk.i64_in x h
theorem w8 {x:Int} (h:0≤x∧x<256):IntKind.u8.wrap x=x:=by
 simp only [IntKind.wrap,IntKind.bits,IntKind.signed];simp;omega
end Pe

namespace Pe
open Go Go.ChangeShapes
inductive Ty where
 | int (k:IntKind)
 | bool
 | str
 | arr (n:Nat) (T:Ty)
 | st (Ts:List Ty)
 | sl (T:Ty)
mutual
def Ty.sh:Ty→Sh
 | .arr n T=>.arr n T.sh
 | .st Ts=>.st (Ty.shs Ts)
 | .int _ | .bool | .str | .sl _=>.leaf
def Ty.shs:List Ty→List Sh
 | []=>[]
 | T::Ts=>T.sh::Ty.shs Ts
end
mutual
def yh (P:Program):TypeId→Ty→Bool
 | t,.int k=>(match P.underlying t with | some (.int k')=>k' == k | _=>false)&&P.cellsOf t == 1
 | t,.bool=>(match P.underlying t with | some .bool=>true | _=>false)&&P.cellsOf t == 1
 | t,.str=>(match P.underlying t with | some .string=>true | _=>false)&&P.cellsOf t == 1
 | t,.arr n T=>(match P.underlying t with | some (.array m e)=>m == n&&yh P e T | _=>false)&&P.cellsOf t == n*T.sh.size
 | t,.st Ts=>(match P.underlying t with | some (.struct fs)=>Cl P fs.toList 0 Ts | _=>false)&&P.cellsOf t == Sh.sizes (Ty.shs Ts)
 | t,.sl T=>(match P.underlying t with | some (.slice e)=>yh P e T&&decide (0<T.sh.size) | _=>false)&&P.cellsOf t == 1
def Cl (P:Program):List Field→Nat→List Ty→Bool
 | [],_,[]=>true
 | f::fs,o,T::Ts=>f.offset == o&&yh P f.type T&&Cl P fs (o+T.sh.size) Ts
 | _,_,_=>false
end
mutual
def Ty.has:Ty→D→Prop
 | .int k,.int k' n=>k'=k∧(Lit.int k n).wf=true
 | .bool,.bool _=>True
 | .str,.str s=>s.size≤maxLen
 | .arr n T,.arr m s xs=>m=n∧s=T.sh∧xs.length=n∧∀x∈xs,T.has x
 | .st Ts,.st ss xs=>ss=Ty.shs Ts∧Ty.hasAll Ts xs
 | .sl T,.sl s xs=>s=T.sh∧xs.length≤9223372036854775807∧∀x∈xs,T.has x
 | _,_=>False
def Ty.hasAll:List Ty→List D→Prop
 | [],[]=>True
 | T::Ts,x::xs=>T.has x∧Ty.hasAll Ts xs
 | _,_=>False
end
theorem yo {P:Program} {t:TypeId} {T:Ty} (h:yh P t T=true):P.cellsOf t=T.sh.size:=by
 cases T <;> simp only [yh,av,beq_iff_eq] at h <;> simp only [Ty.sh,Sh.size] <;> exact h.2
mutual
theorem Xy:∀(T:Ty) (d:D),T.has d→d.sh=T.sh
 | .int _,d,h | .bool,d,h | .str,d,h=>by cases d <;> simp [Ty.has] at h <;> rfl
 | .arr n T,d,h=>by
  cases d <;> simp only [Ty.has] at h
  obtain ⟨rfl,rfl,-⟩:=h;rfl
 | .st Ts,d,h=>by
  cases d <;> simp only [Ty.has] at h
  obtain ⟨rfl,-⟩:=h;rfl
 | .sl T,d,h=>by cases d <;> simp only [Ty.has] at h; rfl
end
section
variable {H:Type} {enc:TypeId×Value→H} {P:Program} {C:Cx} {base:Nat} {sp:Nat→Bool} {held:Bool}
theorem D9 {s:Sh} {Q:D→Prop} (hs:∀d,Q d→d.sh=s):∀(n:Nat) (cs:List Value),cs.length=n*s.size→(∀i,i<n→∃d,Q d∧RD C d ((cs.drop (i*s.size)).take s.size)) →
 ∃ds:List D,ds.length=n∧(∀d∈ds,Q d)∧RDs C s ds cs
 | 0,cs,hl,_=>⟨[],rfl,by simp,by simp only [RDs]; exact d8.1 (by simpa using hl)⟩
 | n+1,cs,hl,h=>by
  obtain ⟨d,hq,hd⟩:=h 0 (by omega)
  obtain ⟨ds,h1,h2,h3⟩:=D9 hs n (cs.drop s.size) (by rw [fy,hl,fq]; omega) (fun i hi=>by
   obtain ⟨d,hq,hd⟩:=h (i+1) (by omega)
   refine ⟨d,hq,?_⟩;rw [ik,show s.size+i*s.size=(i+1)*s.size by rw [fq]; omega]
   exact hd)
  refine ⟨d::ds,by simp [h1],by simpa using ⟨hq,h2⟩,?_⟩
  simp only [RDs];rw [pz,dc] at hd;exact ⟨cs.take s.size,cs.drop s.size,(kw _ _).symm,hs d hq,hd,h3⟩
theorem a1w {w:World} {a:Addr} {v:Value} (h:w.cell? a=some v):a.spot=none∧∃c el fz,w.heap[a.block]? = some (.cells c el fz)∧c[a.off]? = some v:=by
 unfold World.cell? at h
 split at h
 ·rename_i c el fz hc
  split at h
  ·cases h
  ·rename_i hs
   exact ⟨by simpa using hs,c,el,fz,hc,h⟩
 ·cases h
theorem a7f {w:World} {a:Addr} {n:Nat} {cs:List Value} (hn:0<n) (h:w.cells? base a n=some cs):a.spot=none∧cs.length=n∧CellsAt w a.block a.off cs:=by
 obtain ⟨h1,h2,h3⟩:=World.cells?_some h;have h0:=h3 0 hn;rw [au (by omega),Addr.add,if_pos rfl] at h0
 obtain ⟨hsp,c,el,fz,hc,_⟩:=a1w h0;refine ⟨hsp,h2,c,el,fz,hc,fun j u hu=>?_⟩
 have hj:j<n:=by
  have:=(bg.1 hu).1;omega
 have h4:=h3 j hj;rw [hu] at h4;unfold World.cell? at h4
 have hb:(a.add j).block=a.block∧(a.add j).off=a.off+j∧(a.add j).spot=none:=by
  unfold Addr.add
  split
  ·rename_i h; subst h; exact ⟨rfl,rfl,hsp⟩
  ·exact ⟨rfl,rfl,rfl⟩
 rw [hb.1,hc,hb.2.1,hb.2.2] at h4
 simpa using h4
theorem Gu {s:Sh} {Q:D→Prop} (hs:∀d,Q d→d.sh=s) (hk:0<s.size) {b:Nat}:∀(n o:Nat),0<n→(∀i,i<n→∃d cs,Q d∧RD C d cs∧cs.length=s.size∧CellsAt C.w b (o+i*s.size) cs) →
 ∃(ds:List D) (us:List Value),ds.length=n∧(∀d∈ds,Q d)∧RDs C s ds us∧us.length=n*s.size∧CellsAt C.w b o us
 | 0,o,h0,h=>absurd h0 (by omega)
 | n+1,o,_,h=>by
  obtain ⟨d,cs,hq,hd,hl,hc⟩:=h 0 (by omega)
  rw [pz,kb] at hc;rcases kt n with hn | hn
  ·subst hn
   exact ⟨[d],cs,rfl,by simpa using hq,by simp only [RDs]; exact ⟨cs,[],by simp,hs d hq,hd,rfl⟩,by omega,hc⟩
  ·obtain ⟨ds,us,h1,h2,h3,h4,h5⟩:=Gu hs hk n (o+s.size) hn (fun i hi=>by
    obtain ⟨d,cs,hq,hd,hl,hc⟩:=h (i+1) (by omega)
    refine ⟨d,cs,hq,hd,hl,?_⟩;rw [show o+s.size+i*s.size=o+(i+1)*s.size by rw [fq]; omega]
    exact hc)
   refine ⟨d::ds,cs++us,by simp [h1],by simpa using ⟨hq,h2⟩,by simp only [RDs]; exact ⟨cs,us,rfl,hs d hq,hd,h3⟩,by rw [bk,hl,h4,fq]; omega,?_⟩
   obtain ⟨a,el,fz,ha,hc⟩:=hc;obtain ⟨a',el',fz',ha',hc'⟩:=h5;obtain ⟨rfl,rfl,rfl⟩:a=a'∧el=el'∧fz=fz':=by rw [ha] at ha'; simpa using ha'
   refine ⟨a,el,fz,ha,fun j u hu=>?_⟩
   by_cases hj:j<cs.length
   ·rw [cd hj] at hu; exact hc j u hu
   ·rw [ci (by omega)] at hu
    have:=hc' _ u hu
    rwa [show o+s.size+(j-cs.length)=o+j by omega] at this
mutual
theorem zi (hI:∀b,b<C.w.heap.size→C.I b):∀(T:Ty) (t:TypeId) (fuel:Nat) (cs:List Value) (x:DataW H×List MemPlace),yh P t T=true→DataW.trod enc P C.w base sp held fuel t cs=some x→∃d,T.has d∧RD C d cs
 | .int k,t,fuel,cs,x,hf,h=>by
  simp only [yh,av] at hf
  replace hf:=hf.1
  split at hf <;> simp at hf
  rename_i k' hu
  subst hf;obtain ⟨n,rfl,-,hw⟩:=DataW.trod_int hu h;exact ⟨.int k' n,⟨rfl,hw⟩,rfl⟩
 | .bool,t,fuel,cs,x,hf,h=>by
  simp only [yh,av] at hf
  replace hf:=hf.1
  split at hf <;> simp at hf
  rename_i hu
  obtain ⟨b,rfl,-⟩:=DataW.trod_bool hu h;exact ⟨.bool b,trivial,rfl⟩
 | .str,t,fuel,cs,x,hf,h=>by
  simp only [yh,av] at hf
  replace hf:=hf.1
  split at hf <;> simp at hf
  rename_i hu
  obtain ⟨s,rfl,-,hw⟩:=DataW.trod_string hu h;exact ⟨.str s,hw,rfl⟩
 | .arr n T,t,fuel,cs,x,hf,h=>by
  have hsz:=yo hf;simp only [yh,av] at hf
  replace hf:=hf.1
  split at hf <;> simp at hf
  rename_i m e hu
  obtain ⟨rfl,hfe⟩:=hf;have hse:=yo hfe;obtain ⟨xs,k,-,-,hl,hxl,hx⟩:=DataW.trod_array hu h
  obtain ⟨ds,h1,h2,h3⟩:=D9 (C:=C) (s:=T.sh) (Q:=T.has) (Xy T) m cs (by rw [hl,hsz]; rfl) (fun i hi=>by
   have h4:=hx i hi;rw [au (by omega),hse] at h4
   exact zi hI T e k _ _ hfe h4)
  exact ⟨.arr m T.sh ds,⟨rfl,rfl,h1,h2⟩,by simp only [RD]; exact ⟨h1,h3⟩⟩
 | .st Ts,t,fuel,cs,x,hf,h=>by
  have hsz:=yo hf;simp only [yh,av] at hf
  replace hf:=hf.1
  split at hf
  case h_2=>cases hf
  rename_i fs hu
  obtain ⟨xs,k,-,-,hl,hxl,hx⟩:=DataW.trod_struct hu h
  obtain ⟨ds,h1,h2⟩:=Dc hI Ts fs.toList 0 k cs hf (by rw [hl,hsz]; simp [Ty.sh,Sh.size]) (fun f hfm=>by
   obtain ⟨i,hi,rfl⟩:=im hfm;have h4:=hx i fs.toList[i] (by rw [←t7]; exact au hi)
   rw [au (by rw [hxl,←uu]; exact hi)] at h4
   exact ⟨_,h4⟩)
  exact ⟨.st (Ty.shs Ts) ds,⟨rfl,h1⟩,by simp only [RD]; exact h2⟩
 | .sl T,t,fuel,cs,x,hf,h=>by
  simp only [yh,av] at hf
  replace hf:=hf.1
  split at hf <;> simp at hf
  rename_i e hu
  obtain ⟨hfe,hk⟩:=hf;have hse:=yo hfe;rcases DataW.trod_slice hu h with ⟨rfl,-⟩ | ⟨a,len,cap,elems,rest,n,-,rfl,-,hb,hle,hcap,hel,hx,-⟩
  ·exact ⟨.sl T.sh [],⟨rfl,by simp,by simp⟩,by simp only [RD]; exact ⟨none,0,rfl,ba _,.inl trivial⟩⟩
  ·rcases kt len with h0 | h0
   ·subst h0
    exact ⟨.sl T.sh [],⟨rfl,by simp,by simp⟩,by simp only [RD]; exact ⟨_,cap,rfl,hle,.inl trivial⟩⟩
   ·have hcell:∀i,i<len→∃d cs,T.has d∧RD C d cs∧cs.length=T.sh.size∧(a.add (i*T.sh.size)).spot=none∧CellsAt C.w a.block (a.off+i*T.sh.size) cs:=fun i hi=>by
     have h4:=hx i hi;rw [au (by omega),hse] at h4
     obtain ⟨cs,hc,hy⟩:=a5.1 h4;obtain ⟨h5,h6,h7⟩:=a7f hk hc;obtain ⟨d,hd1,hd2⟩:=zi hI T e n _ _ hfe hy
     have hbl:(a.add (i*T.sh.size)).block=a.block∧(a.add (i*T.sh.size)).off=a.off+i*T.sh.size:=by
      unfold Addr.add
      split
      ·rename_i h; rw [h]; exact ⟨rfl,rfl⟩
      ·exact ⟨rfl,rfl⟩
     rw [hbl.1,hbl.2] at h7;exact ⟨d,cs,hd1,hd2,h6,h5,h7⟩
    obtain ⟨ds,us,h1,h2,h3,h4,h5⟩:=Gu (C:=C) (s:=T.sh) (Q:=T.has) (Xy T) hk len a.off h0 (fun i hi=>by
     obtain ⟨d,cs,g1,g2,g3,-,g4⟩:=hcell i hi;exact ⟨d,cs,g1,g2,g3,g4⟩)
    have hsp:a.spot=none:=by
     obtain ⟨_,_,_,_,_,g,_⟩:=hcell 0 h0;rw [pz,Addr.add,if_pos rfl] at g;exact g
    have hlt:a.block<C.w.heap.size:=by
     obtain ⟨c,el,fz,hc,-⟩:=h5;exact (fo.1 hc).1
    refine ⟨.sl T.sh ds,⟨rfl,by rw [h1]; unfold maxLen at hcap; omega,h2⟩,?_⟩
    simp only [RD];refine ⟨some a,cap,by rw [h1],by omega,.inr ⟨a.block,a.off,us,?_,hI _ hlt,h3,h5⟩⟩
    cases a;simp only at hsp;rw [hsp]
theorem Dc (hI:∀b,b<C.w.heap.size→C.I b):∀(Ts:List Ty) (fs:List Field) (o fuel:Nat) (cs:List Value),Cl P fs o Ts=true→cs.length=o+Sh.sizes (Ty.shs Ts) →
 (∀f∈fs,∃x,DataW.trod enc P C.w base sp held fuel f.type ((cs.drop f.offset).take (P.cellsOf f.type))=some x)→∃ds,Ty.hasAll Ts ds∧RDst C (Ty.shs Ts) ds (cs.drop o)
 | [],[],o,fuel,cs,_,hl,_=>⟨[],trivial,by simp only [Ty.shs,RDst]; rw [List.drop_eq_nil_iff]; simp [Ty.shs,Sh.sizes] at hl; omega⟩
 | [],_::_,o,fuel,cs,hf,_,_=>by simp [Cl] at hf
 | _::_,[],o,fuel,cs,hf,_,_=>by simp [Cl] at hf
 | T::Ts,f::fs,o,fuel,cs,hf,hl,h=>by
  simp only [Cl,av,beq_iff_eq] at hf;obtain ⟨⟨ho,hft⟩,hfs⟩:=hf;have hse:=yo hft;simp only [Ty.shs,Sh.sizes] at hl;obtain ⟨x,hx⟩:=h f (by simp)
  obtain ⟨d,hd1,hd2⟩:=zi hI T f.type fuel _ x hft hx;obtain ⟨ds,h1,h2⟩:=Dc hI Ts fs (o+T.sh.size) fuel cs hfs (by omega) (fun g hg=>h g (List.mem_cons_of_mem _ hg))
  refine ⟨d::ds,⟨hd1,h1⟩,?_⟩;simp only [Ty.shs,RDst];rw [hse,ho] at hd2;refine ⟨_,_,?_,Xy T d hd1,hd2,h2⟩;rw [←ik,kw]
end
theorem aac {W:World} {r:Reach} {T:Ty} {t:TypeId} {v:Value} {d:D} (hf:yh P t T=true) (hd:T.has d) (h:Value.okWide P W r base t v):isAgg v=d.isAgg:=by
 unfold Value.okWide at h;cases T with
 | int k=>
  simp only [yh,av] at hf
  replace hf:=hf.1
  split at hf <;> simp at hf
  rename_i k' hu
  rw [hu] at h;cases d <;> simp only [Ty.has] at hd
  cases v <;> first | rfl | (simp [Cell.okWide,Cell.ok,hu] at h; done)
 | bool=>
  simp only [yh,av] at hf
  replace hf:=hf.1
  split at hf <;> simp at hf
  rename_i hu
  rw [hu] at h;cases d <;> simp only [Ty.has] at hd
  cases v <;> first | rfl | (simp [Cell.okWide,Cell.ok,hu] at h; done)
 | str=>
  simp only [yh,av] at hf
  replace hf:=hf.1
  split at hf <;> simp at hf
  rename_i hu
  rw [hu] at h;cases d <;> simp only [Ty.has] at hd
  cases v <;> first | rfl | (simp [Cell.okWide,Cell.ok,hu] at h; done)
 | sl T=>
  simp only [yh,av] at hf
  replace hf:=hf.1
  split at hf <;> simp at hf
  rename_i e hu
  rw [hu] at h;cases d <;> simp only [Ty.has] at hd
  cases v <;> first | rfl | (simp [Cell.okWide,Cell.ok,hu] at h; done)
 | arr n T=>
  simp only [yh,av] at hf
  replace hf:=hf.1
  split at hf
  case h_2=>cases hf
  rename_i hu
  rw [hu] at h;obtain ⟨cs,rfl,-⟩:=h;cases d <;> simp only [Ty.has] at hd
  rfl
 | st Ts=>
  simp only [yh,av] at hf
  replace hf:=hf.1
  split at hf
  case h_2=>cases hf
  rename_i hu
  rw [hu] at h;obtain ⟨cs,rfl,-⟩:=h;cases d <;> simp only [Ty.has] at hd
  rfl
def B5 (P:Program):List TypeId→List Ty→Bool
 | [],[]=>true
 | t::ts,T::Ts=>yh P t T&&P.readableRec t&&decide (t<P.types.size)&&B5 P ts Ts
 | _,_=>false
theorem Og (hI:∀b,b<C.w.heap.size→C.I b) {r:Reach} {b0:Nat}:∀(ts:List TypeId) (Ts:List Ty) (vs:List Value) (ds:List (DataW H)) (ps:List MemPlace),B5 P ts Ts=true→DataW.TrodAll enc P C.w base sp held ts vs ds ps →
 (∀(j:Nat) t v,ts[j]? = some t→vs[j]? = some v→Value.okWide P C.w r b0 t v)→∃xs,Ty.hasAll Ts xs∧RVs C xs vs
 | [],[],vs,ds,ps,_,h,_=>by
  obtain ⟨rfl,-,-⟩:=trodAll_nil h;exact ⟨[],trivial,by simp only [RVs]⟩
 | [],_::_,vs,ds,ps,hf,_,_=>by simp [B5] at hf
 | _::_,[],vs,ds,ps,hf,_,_=>by simp [B5] at hf
 | t::ts,T::Ts,vs,ds,ps,hf,h,hv=>by
  simp only [B5,av] at hf;obtain ⟨⟨⟨hf1,-⟩,-⟩,hf2⟩:=hf;obtain ⟨v,vs',d,ds',p,q,rfl,rfl,rfl,⟨fuel,hd⟩,hr⟩:=trodAll_cons h;obtain ⟨x,hx1,hx2⟩:=zi hI T t fuel _ _ hf1 hd;obtain ⟨xs,h1,h2⟩:=Og hI ts Ts vs' ds' q hf2 hr (fun j t' v' hj hv'=>hv (j+1) t' v' (by simpa using hj) (by simpa using hv'))
  refine ⟨x::xs,⟨hx1,h1⟩,?_⟩;simp only [RVs];exact ⟨v,vs',rfl,aac hf1 hx1 (hv 0 t v rfl rfl),hx2,h2⟩
theorem Q3 {W W':World} (hl:laidOutB P=true) (hb:RowKit.Below W.heap.size W W'):∀(ts:List TypeId) (Ts:List Ty) (vs:List Value) (ds:List (DataW H)) (ps:List MemPlace),B5 P ts Ts=true→DataW.TrodAll enc P W 0 (fun _=>true) true ts vs ds ps →
 (∀x∈ps,x.block<W.heap.size)→DataW.TrodAll enc P W' 0 (fun b=>decide (b<W.heap.size)) true ts vs ds ps
 | [],[],vs,ds,ps,_,h,_=>by
  obtain ⟨rfl,rfl,rfl⟩:=trodAll_nil h;rfl
 | [],_::_,vs,ds,ps,hf,_,_=>by simp [B5] at hf
 | _::_,[],vs,ds,ps,hf,_,_=>by simp [B5] at hf
 | t::ts,T::Ts,vs,ds,ps,hf,h,hp=>by
  simp only [B5,av,decide_eq_true_eq] at hf;obtain ⟨⟨⟨-,hf1⟩,hf3⟩,hf2⟩:=hf;obtain ⟨v,vs',d,ds',p,q,rfl,rfl,rfl,hd,hr⟩:=trodAll_cons h;exact ⟨p,q,RowKit.Below.trod hl hf1 hf3 hd hb (fun x hx=>hp x (cn _ hx)),Q3 hl hb ts Ts vs' ds' q hf2 hr (fun x hx=>hp x (lc _ hx)),rfl⟩
def Eh (P:Program) (f:Func):Bool:=match f.resultTypes.toList with
 | [t]=>match P.underlying t with
  | some .bool=>true
  | _=>false
 | _=>false
theorem O5 {f:Func} (h:Eh P f=true):∃tb,f.resultTypes = #[tb]∧P.underlying tb=some .bool:=by
 unfold Eh at h
 split at h
 ·rename_i t ht
  split at h
  ·rename_i hu
   exact ⟨t,by rw [←Array.toList_inj,ht],hu⟩
  ·cases h
 ·cases h
theorem a3e {f:Func} {s:ChangeSpec} {apart fresh:Bool} {W W':World} {args:Array Value} {ds gs:List (DataW H)} {before:List MemPlace} {Ts:List Ty}
 (hW:DataW.Whole enc P f.params.toList s.vars apart W args.toList ds gs before) (hvars:s.vars=[]) (hs:s.fn H (ds++gs) = { results:=[.lit (.bool true)],args:=ds })
 (hr:Eh P f=true) (hl:laidOutB P=true) (hf:B5 P f.params.toList Ts=true) (hb:RowKit.Below W.heap.size W W') :
 s.post enc P f apart fresh false false W args (.bool true) W':=by
 have hW0:=hW;obtain ⟨p,q,hA,hV,rfl,hz,hn⟩:=hW;have hlt:=DataW.TrodAll.lt hA;obtain ⟨tb,hr,htb⟩:=O5 hr;rw [hvars] at hV;obtain ⟨rfl,rfl⟩:=trodVars_none hV;refine ⟨ds,[],_,[],p,[],hW0,?_,?_,?_,hb.frame _,fun h=>by cases h⟩
 ·rw [hs,hr]
  exact ⟨[],[],⟨1,by simp [DataW.trod,Value.cells,htb]⟩,rfl,rfl⟩
 ·rw [hs]
  exact Q3 hl hb _ _ _ _ _ hf hA hlt
 ·rw [hs,hvars]
  rfl
end
theorem Ya {P:Program} {num:Nat→Nat} {O:ah} (hO:nu P num O) {F:Nat} {xs:List D} (h:ask O F xs=some (.bool true)) {W:World} {vs:List Value} (hv:RVs ⟨W,fun b=>b<W.heap.size,num⟩ xs vs) :
 Calls P (num F) vs.toArray W fun e W'=>e=.returned (.bool true)∧RowKit.Below W.heap.size W W':=by
 unfold ask at h;obtain ⟨⟨v,bs,nb⟩,h1,h2⟩:=a5.1 h;obtain ⟨hl,-,hcall⟩:=hO F (xs.map .d) [] _ h1 ⟨W,fun b=>b<W.heap.size,num⟩ (fun _=>none) vs rfl ⟨by simp,by simp⟩ (fun b hb=>hb) (wm hv)
 refine Calls.mono hcall ?_
 rintro e w' ⟨u,C2,φ2,rfl,rfl,st,-,hu⟩
 have hno:∀b,¬ OwnB (fun _=>none) [] b:=by rintro b ⟨i,B,o,hB,_⟩; simp at hB
 have hbs:bs=[]:=d8.1 hl;subst hbs;have hx:RV _ (.bool true) u:=vh st.hr v _ u h2 hu;refine ⟨?_,st.os,st.tape,st.out,st.size,fun k hk=>st.kept k hk (hno k)⟩
 simp only [RV,RD,D.isAgg] at hx;obtain ⟨h3,h4⟩:=hx;cases u <;> simp [Value.cells,isAgg] at h3 h4
 rw [h4]
end Pe

/-
 The numbers of the functions.
-/
namespace Pe
abbrev Lw (d s:Nat):Ins:=⟨some d,.mv (.t s),none,[]⟩
abbrev Ll (d:Nat) (o:Op):Ins:=⟨some d,o,none,[]⟩
abbrev Ls (o:Op):Ins:=⟨none,o,none,[]⟩
abbrev Lx (d s g:Nat) (b:Bool):Ins:=⟨some d,.mv (.t s),some (g,b),[]⟩
abbrev Lg (d:Nat) (o:Op) (g:Nat) (b:Bool):Ins:=⟨some d,o,some (g,b),[]⟩
abbrev Sx6:Sh:=.arr 64 .leaf
abbrev Sx8:Sh:=.arr 8 Sx6
abbrev Sx4:List Sh:=[.leaf,Sx6,Sx6,Sx6]
abbrev Acx (n:Int):Arg:=.c (.int .i64 n)
abbrev Ofx (f:Nat) (l:List Arg):Op:=.call .flat [] (.f f) l
abbrev Opx (f:Nat) (l:List Arg):Op:=.call .plain [] (.f f) l
abbrev Ipx (d s:Nat):Ins:=Ll d (.load Sx6 (.t s))
abbrev Ilx (d s:Nat):Ins:=Ll d (.load .leaf (.t s))
abbrev Isx (d s:Nat):Ins:=Ll d (.load Sx8 (.t s))
abbrev Iex (d s k:Nat):Ins:=Ll d (.ext (.t s) k)
abbrev F2b:Nat:=49
abbrev F3s:Nat:=66
abbrev Fe:Nat:=68
abbrev F2c:Nat:=77
abbrev Fc:Nat:=102
abbrev F3p:Nat:=130
abbrev F8:Nat:=131
abbrev F3o:Nat:=140
abbrev F7:Nat:=141
abbrev F4:Nat:=145
abbrev F3r:Nat:=148
abbrev Fa:Nat:=149
abbrev F3q:Nat:=150
abbrev F9:Nat:=151
abbrev Fb:Nat:=222
abbrev F2d:Nat:=257
abbrev F3l:Nat:=262
abbrev F3j:Nat:=263
abbrev F3k:Nat:=264
abbrev F3m:Nat:=265
abbrev F3i:Nat:=266
abbrev F5:Nat:=267
abbrev F3n:Nat:=268
abbrev Fu:Nat:=313
abbrev F1u:Nat:=315
abbrev F1o:Nat:=318
abbrev F1b:Nat:=319
abbrev F13:Nat:=320
abbrev F28:Nat:=321
abbrev F4k:Nat:=322
abbrev F51:Nat:=323
abbrev F56:Nat:=324
abbrev F27:Nat:=325
abbrev F1t:Nat:=326
abbrev Fo:Nat:=327
abbrev F23:Nat:=328
abbrev F3w:Nat:=331
abbrev F1w:Nat:=336
abbrev F1j:Nat:=341
abbrev F1i:Nat:=342
abbrev F17:Nat:=344
abbrev F1h:Nat:=347
abbrev F19:Nat:=348
abbrev F4e:Nat:=349
abbrev F43:Nat:=350
abbrev F45:Nat:=351
abbrev F1f:Nat:=360
abbrev F1d:Nat:=363
abbrev F1r:Nat:=364
abbrev F21:Nat:=370
abbrev F55:Nat:=371
abbrev F29:Nat:=372
abbrev Fq:Nat:=373
abbrev F52:Nat:=374
abbrev F1m:Nat:=375
abbrev F14:Nat:=378
abbrev F4l:Nat:=384
abbrev F4z:Nat:=385
abbrev F4d:Nat:=386
abbrev F2a:Nat:=387
abbrev F22:Nat:=388
abbrev F25:Nat:=389
abbrev F47:Nat:=395
abbrev F1z:Nat:=400
abbrev F4v:Nat:=406
abbrev Fw:Nat:=407
abbrev Fh:Nat:=413
abbrev F26:Nat:=414
abbrev F10:Nat:=415
abbrev F3t:Nat:=416
abbrev F4b:Nat:=417
abbrev F44:Nat:=418
abbrev F1p:Nat:=419
abbrev F1g:Nat:=420
abbrev F1y:Nat:=421
abbrev F4u:Nat:=426
abbrev F53:Nat:=428
abbrev Fm:Nat:=429
abbrev Fr:Nat:=430
abbrev F4m:Nat:=433
abbrev F12:Nat:=434
abbrev F4y:Nat:=435
abbrev Fx:Nat:=436
abbrev F4a:Nat:=445
abbrev F3z:Nat:=446
abbrev F48:Nat:=448
abbrev F3y:Nat:=451
abbrev F1a:Nat:=453
abbrev F42:Nat:=454
abbrev F49:Nat:=455
abbrev F4g:Nat:=457
abbrev F1c:Nat:=458
abbrev F1k:Nat:=469
abbrev F4c:Nat:=471
abbrev F40:Nat:=476
abbrev F1x:Nat:=477
abbrev F3u:Nat:=479
abbrev F4j:Nat:=491
abbrev Fv:Nat:=492
abbrev F4q:Nat:=493
abbrev F4t:Nat:=494
abbrev F4i:Nat:=495
abbrev F4o:Nat:=496
abbrev F4n:Nat:=497
abbrev F3x:Nat:=501
abbrev F11:Nat:=508
abbrev Ft:Nat:=509
abbrev F4w:Nat:=515
abbrev F4p:Nat:=516
abbrev F20:Nat:=521
abbrev F6:Nat:=530
abbrev F1l:Nat:=531
abbrev F46:Nat:=532
abbrev F15:Nat:=534
abbrev F4f:Nat:=556
abbrev F18:Nat:=557
abbrev F1v:Nat:=558
abbrev Fs:Nat:=559
abbrev F4r:Nat:=560
abbrev Fj:Nat:=561
abbrev F1s:Nat:=567
abbrev F1q:Nat:=568
abbrev F2o:Nat:=569
abbrev F1e:Nat:=570
abbrev Fl:Nat:=571
abbrev F50:Nat:=572
abbrev F2p:Nat:=573
abbrev F1n:Nat:=574
abbrev F24:Nat:=576
abbrev F4s:Nat:=577
abbrev F2j:Nat:=590
abbrev Fi:Nat:=591
abbrev F54:Nat:=592
abbrev F4x:Nat:=593
abbrev Fy:Nat:=594
abbrev F3v:Nat:=595
abbrev F4h:Nat:=596
abbrev Ff:Nat:=619
abbrev F16:Nat:=620
abbrev F2k:Nat:=640
abbrev Fk:Nat:=641
abbrev F3b:Nat:=644
abbrev F2e:Nat:=645
abbrev F0:Nat:=646
abbrev F1:Nat:=647
abbrev F3c:Nat:=648
abbrev F2m:Nat:=653
abbrev F2i:Nat:=658
abbrev Fg:Nat:=659
abbrev F2n:Nat:=691
abbrev F2w:Nat:=694
abbrev F2u:Nat:=695
abbrev F2q:Nat:=696
abbrev F2s:Nat:=697
abbrev F3d:Nat:=698
abbrev F35:Nat:=699
abbrev F39:Nat:=700
abbrev F37:Nat:=701
abbrev F2f:Nat:=702
abbrev F2g:Nat:=703
abbrev F2:Nat:=704
abbrev F3:Nat:=705
abbrev F2x:Nat:=706
abbrev F2v:Nat:=707
abbrev F2r:Nat:=708
abbrev F2t:Nat:=709
abbrev F3e:Nat:=710
abbrev F36:Nat:=711
abbrev F3a:Nat:=712
abbrev F38:Nat:=713
abbrev F2l:Nat:=717
abbrev F3f:Nat:=762
abbrev F32:Nat:=763
abbrev F3h:Nat:=764
abbrev F2y:Nat:=765
abbrev F30:Nat:=766
abbrev F3g:Nat:=767
abbrev F2z:Nat:=768
abbrev F31:Nat:=769
abbrev F33:Nat:=798
abbrev F34:Nat:=799
abbrev F41:Nat:=1443
abbrev F2h:Nat:=1597
def z64:List D:=List.replicate 64 (.int .u8 0)
def z8:List D:=List.replicate 8 (.arr 64 .leaf z64)
end Pe

/-
 Functions of the program in the small form,printed by a program.
-/
namespace Pe
open Go
def Z20_L0:Cd:=
 .seq (.seq (.region [Lw 6 3,
 Ll 7 (.bin .gtr (.t 6) (Acx 0)),
 Lw 8 7,
 Lx 9 0 8 true,
 Lx 10 3 8 true,
 Lg 11 (.bin .sub (.t 10) (Acx 1)) 8 true,
 Lg 12 (.idxA none .leaf (.t 9) (.t 11)) 8 true,
 Lg 13 (.load .leaf (.t 12)) 8 true,
 Lg 14 (.bin .eql (.t 13) (Acx 0)) 8 true,
 Ll 15 (.pick (.t 8) (.t 14) (.c (.bool false)))] [0,3,15])
 (.cond (.t 15)
 (.skip)
 (.exit 0)))
 (.block 1 (.region [Lw 16 3,
 Ll 17 (.bin .sub (.t 16) (Acx 1)),
 Lw 3 17] [0,3]))
def Z20_B:Cd:=
 .seq (.region [Ll 2 (.mv (.c (.sl .leaf [])))] [0])
 (.seq (.region [Lw 4 0,
 Ll 5 (.len false (.t 4)),
 Lw 3 5] [0,3])
 (.seq (.block 0 (.loop (Z20_L0)))
 (.seq (.region [Lw 18 0,
 Lw 19 3,
 Lw 20 3,
 Ll 21 (.cut none .leaf (.t 18) none (some (.t 19)) (some (.t 20))),
 Lw 2 21] [2])
 (.ret))))
def Z20:Fn:=
 { nparams:=1,nblk:=0,results:=[.tmp 2],body:=Z20_B }
def Z1u_L0:Cd:=
 .seq (.region [Ll 8 (.bin .lss (.t 7) (Acx 64))] [3,6,7,8])
 (.seq (.cond (.t 8)
 (.skip)
 (.exit 0))
 (.seq (.block 1 (.seq (.region [Ll 9 (.idx (some 64) .leaf (.t 6) (.t 7)),
 Lw 5 9] [3,5,6,7])
 (.region [Lw 10 3,
 Lw 11 5,
 Ll 12 (.conv .i64 (.t 11)),
 Ll 13 (.buildSl false 2 .leaf (.int .i64 0) 1 [(0,(.t 12))]),
 Ll 14 (.append .leaf 3 8 (.t 10) (.t 13)),
 Lw 3 14] [3,6,7])))
 (.region [Ll 15 (.bin .add (.t 7) (Acx 1)),
 Lw 7 15] [3,6,7])))
def Z1u_B:Cd:=
 .seq (.region [Ll 1 (.box false 0 (.t 0)),
 Ll 2 (.mv (.c (.sl .leaf [])))] [1])
 (.seq (.region [Ll 3 (.nilOwn 1 .leaf)] [1,3])
 (.seq (.seq (.region [Ipx 6 1,
 Ll 7 (.mv (Acx 0))] [3,6,7])
 (.block 0 (.loop (Z1u_L0))))
 (.seq (.region [Lw 16 3,
 Ll 17 (.call .data [] (.f F20) [(.t 16)]),
 Lw 2 17] [2])
 (.ret))))
def Z1u:Fn:=
 { nparams:=1,nblk:=4,results:=[.tmp 2],body:=Z1u_B }
def Z1w_B:Cd:=
 .seq (.region [Ll 2 (.mv (Acx 0))] [0])
 (.seq (.region [Lw 3 0,
 Ll 4 (.len false (.t 3)),
 Ll 5 (.bin .sub (.t 4) (Acx 1)),
 Lw 2 5] [2])
 (.ret))
def Z1w:Fn:=
 { nparams:=1,nblk:=0,results:=[.tmp 2],body:=Z1w_B }
def Z17_B:Cd:=
 .seq (.region [Ll 2 (.mv (.c (.bool false)))] [0])
 (.seq (.region [Lw 3 0,
 Ll 4 (.bin .eql (.t 3) (Acx 2)),
 Lw 5 4,
 Lx 6 0 5 false,
 Lg 7 (.bin .eql (.t 6) (Acx 3)) 5 false,
 Ll 8 (.pick (.t 5) (.c (.bool true)) (.t 7)),
 Lw 9 8,
 Lx 10 0 9 false,
 Lg 11 (.bin .eql (.t 10) (Acx 5)) 9 false,
 Ll 12 (.pick (.t 9) (.c (.bool true)) (.t 11)),
 Lw 13 12,
 Lx 14 0 13 false,
 Lg 15 (.bin .eql (.t 14) (Acx 7)) 13 false,
 Ll 16 (.pick (.t 13) (.c (.bool true)) (.t 15)),
 Lw 2 16] [2])
 (.ret))
def Z17:Fn:=
 { nparams:=1,nblk:=0,results:=[.tmp 2],body:=Z17_B }
def Zi_B:Cd:=
 .seq (.region [Ll 2 (.box false 0 (.t 0)),
 Ll 3 (.mv (.c (.bool false)))] [1,2])
 (.seq (.region [Ilx 4 1,
 Ipx 5 2,
 Ll 6 (.call .flat [] (.t 4) [(.t 5)]),
 Ll 7 (.un .not (.t 6)),
 Lw 3 7] [3])
 (.ret))
def Zi:Fn:=
 { nparams:=2,nblk:=1,results:=[.tmp 3],body:=Zi_B }
def Zh_B:Cd:=
 .seq (.region [Ll 3 (.box false 0 (.t 1)),
 Ll 4 (.mv (.c (.bool false)))] [0,3])
 (.seq (.region [Lw 5 0,
 Ll 6 (.mkFn Fi [] [(.t 3)]),
 Ll 7 (Ofx F2j [(.t 5),(.t 6)]),
 Ll 8 (.un .not (.t 7)),
 Lw 4 8] [4])
 (.ret))
def Zh:Fn:=
 { nparams:=2,nblk:=1,results:=[.tmp 4],body:=Zh_B }
def Zg_B:Cd:=
 .seq (.region [Ll 3 (.mv (.c (.bool false)))] [0,1])
 (.seq (.region [Ilx 4 1,
 Lw 5 0,
 Ll 6 (.call .flat [] (.t 4) [(.t 5)]),
 Ll 7 (.un .not (.t 6)),
 Lw 3 7] [3])
 (.ret))
def Zg:Fn:=
 { nparams:=2,nblk:=0,results:=[.tmp 3],body:=Zg_B }
def Zf_B:Cd:=
 .seq (.region [Ll 3 (.box false 0 (.t 1)),
 Ll 4 (.mv (.c (.bool false)))] [0,3])
 (.seq (.region [Lw 5 0,
 Ll 6 (.mkFn Fg [] [(.t 3)]),
 Ll 7 (Ofx F2i [(.t 5),(.t 6)]),
 Ll 8 (.un .not (.t 7)),
 Lw 4 8] [4])
 (.ret))
def Zf:Fn:=
 { nparams:=2,nblk:=1,results:=[.tmp 4],body:=Zf_B }
def Z16_B:Cd:=
 .seq (.region [Ll 3 (.mv (.c (.bool false)))] [0,1])
 (.seq (.region [Lw 4 0,
 Ll 5 (.conv .i64 (.t 4)),
 Ilx 6 1,
 Ll 7 (.bin .lss (.t 5) (.t 6)),
 Lw 3 7] [3])
 (.ret))
def Z16:Fn:=
 { nparams:=2,nblk:=0,results:=[.tmp 3],body:=Z16_B }
def Z15_B:Cd:=
 .seq (.region [Ll 2 (.box false 0 (.t 0)),
 Ll 3 (.box false 1 (.t 1)),
 Ll 4 (.mv (.c (.bool false)))] [2,3])
 (.seq (.region [Ll 5 (.cut (some 64) .leaf (.t 3) none none none),
 Ll 6 (.mkFn F16 [] [(.t 2)]),
 Ll 7 (Ofx Ff [(.t 5),(.t 6)]),
 Lw 4 7] [4])
 (.ret))
def Z15:Fn:=
 { nparams:=2,nblk:=2,results:=[.tmp 4],body:=Z15_B }
def Z2a_B:Cd:=
 .seq (.region [Ll 6 (.mv (.c (.bool false)))] [0,1,2])
 (.seq (.region [Lw 7 1,
 Lw 8 0,
 Ll 9 (.bin .leq (.t 7) (.t 8)),
 Lw 10 9,
 Lx 11 0 10 true,
 Lx 12 2 10 true,
 Lg 13 (.bin .leq (.t 11) (.t 12)) 10 true,
 Ll 14 (.pick (.t 10) (.t 13) (.c (.bool false))),
 Lw 6 14] [6])
 (.ret))
def Z2a:Fn:=
 { nparams:=3,nblk:=0,results:=[.tmp 6],body:=Z2a_B }
def Z1y_B:Cd:=
 .seq (.region [Ll 2 (.mv (Acx 0))] [0])
 (.seq (.seq (.region [Lw 3 0,
 Ll 4 (.len false (.t 3)),
 Ll 5 (.bin .eql (.t 4) (Acx 0))] [0,5])
 (.cond (.t 5)
 (.seq (.region [Ll 2 (.mv (Acx 0))] [2])
 (.ret))
 (.skip)))
 (.seq (.region [Lw 6 0,
 Lw 7 0,
 Ll 8 (.len false (.t 7)),
 Ll 9 (.bin .sub (.t 8) (Acx 1)),
 Ll 10 (.idxA none .leaf (.t 6) (.t 9)),
 Ilx 11 10,
 Lw 2 11] [2])
 (.ret)))
def Z1y:Fn:=
 { nparams:=1,nblk:=0,results:=[.tmp 2],body:=Z1y_B }
def Z1i_L0:Cd:=
 .seq (.region [Ll 10 (.bin .lss (.t 9) (.t 8))] [0,2,7,8,9,10])
 (.seq (.cond (.t 10)
 (.skip)
 (.exit 0))
 (.seq (.block 1 (.seq (.seq (.region [Lw 11 7,
 Lw 12 2,
 Ll 13 (.bin .gtr (.t 11) (.t 12))] [0,2,7,8,9,13])
 (.cond (.t 13)
 (.exit 0)
 (.skip)))
 (.region [Lw 14 7,
 Lw 15 0,
 Ll 16 (.bin .mul (.t 14) (.t 15)),
 Lw 7 16] [0,2,7,8,9])))
 (.region [Ll 17 (.bin .add (.t 9) (Acx 1)),
 Lw 9 17] [0,2,7,8,9])))
def Z1i_B:Cd:=
 .seq (.region [Ll 6 (.mv (Acx 0))] [0,1,2])
 (.seq (.region [Ll 7 (.mv (Acx 1))] [0,1,2,7])
 (.seq (.seq (.region [Lw 8 1,
 Ll 9 (.mv (Acx 0))] [0,2,7,8,9])
 (.block 0 (.loop (Z1i_L0))))
 (.seq (.region [Lw 18 7,
 Lw 6 18] [6])
 (.ret))))
def Z1i:Fn:=
 { nparams:=3,nblk:=0,results:=[.tmp 6],body:=Z1i_B }
def Z1j_L0:Cd:=
 .seq (.seq (.region [Lw 6 1,
 Ll 7 (.bin .gtr (.t 6) (Acx 0))] [0,1,5,7])
 (.cond (.t 7)
 (.skip)
 (.exit 0)))
 (.seq (.block 1 (.region [Lw 11 5,
 Lw 12 1,
 Lw 13 0,
 Ll 14 (.bin .rem (.t 12) (.t 13)),
 Ll 15 (.buildSl false 1 .leaf (.int .i64 0) 1 [(0,(.t 14))]),
 Ll 16 (.append .leaf 2 8 (.t 11) (.t 15)),
 Lw 5 16] [0,1,5]))
 (.region [Lw 8 1,
 Lw 9 0,
 Ll 10 (.bin .quo (.t 8) (.t 9)),
 Lw 1 10] [0,1,5]))
def Z1j_B:Cd:=
 .seq (.region [Ll 4 (.mv (.c (.sl .leaf [])))] [0,1])
 (.seq (.region [Ll 5 (.nilOwn 0 .leaf)] [0,1,5])
 (.seq (.block 0 (.loop (Z1j_L0)))
 (.seq (.region [Lw 17 5,
 Lw 4 17] [4])
 (.ret))))
def Z1j:Fn:=
 { nparams:=2,nblk:=3,results:=[.tmp 4],body:=Z1j_B }
def Z1l_B:Cd:=
 .seq (.region [Ll 4 (.mv (Acx 0))] [0,1])
 (.seq (.region [Lw 5 1,
 Lw 6 0,
 Ll 7 (.bin .rem (.t 5) (.t 6)),
 Lw 8 0,
 Ll 9 (.bin .add (.t 7) (.t 8)),
 Lw 10 0,
 Ll 11 (.bin .rem (.t 9) (.t 10)),
 Lw 4 11] [4])
 (.ret))
def Z1l:Fn:=
 { nparams:=2,nblk:=0,results:=[.tmp 4],body:=Z1l_B }
def Z1v_B:Cd:=
 .seq (.region [Ll 4 (.mv (Acx 0))] [0,1])
 (.seq (.seq (.region [Lw 5 1,
 Lw 6 0,
 Ll 7 (.len false (.t 6)),
 Ll 8 (.bin .lss (.t 5) (.t 7))] [0,1,8])
 (.cond (.t 8)
 (.seq (.region [Lw 9 0,
 Lw 10 1,
 Ll 11 (.idxA none .leaf (.t 9) (.t 10)),
 Ilx 12 11,
 Lw 4 12] [4])
 (.ret))
 (.skip)))
 (.seq (.region [Ll 4 (.mv (Acx 0))] [4])
 (.ret)))
def Z1v:Fn:=
 { nparams:=2,nblk:=0,results:=[.tmp 4],body:=Z1v_B }
def Z1b_L0:Cd:=
 .seq (.region [Ll 20 (.bin .lss (.t 19) (.t 18))] [0,1,2,3,9,18,19,20])
 (.seq (.cond (.t 20)
 (.skip)
 (.exit 0))
 (.seq (.block 1 (.seq (.region [Lw 21 19,
 Lw 10 21] [0,1,2,3,9,10,18,19])
 (.region [Lw 22 9,
 Lw 23 10,
 Lw 24 0,
 Lw 25 1,
 Lw 26 10,
 Ll 27 (Ofx F1v [(.t 25),(.t 26)]),
 Lw 28 3,
 Lw 29 2,
 Lw 30 10,
 Ll 31 (Ofx F1v [(.t 29),(.t 30)]),
 Ll 32 (.bin .mul (.t 28) (.t 31)),
 Ll 33 (.bin .add (.t 27) (.t 32)),
 Ll 34 (Ofx F1l [(.t 24),(.t 33)]),
 Ll 35 (.idxA none .leaf (.t 22) (.t 23)),
 Ls (.store false .leaf (.t 35) (.t 34))] [0,1,2,3,9,18,19])))
 (.region [Ll 36 (.bin .add (.t 19) (Acx 1)),
 Lw 19 36] [0,1,2,3,9,18,19])))
def Z1b_B:Cd:=
 .seq (.region [Ll 8 (.mv (.c (.sl .leaf [])))] [0,1,2,3])
 (.seq (.region [Lw 11 1,
 Ll 12 (.len false (.t 11)),
 Lw 13 2,
 Ll 14 (.len false (.t 13)),
 Ll 15 (.maxI (.t 12) (.t 14)),
 Ll 16 (.mkSl 0 .leaf (.int .i64 0) 8 (.t 15) (.t 15)),
 Lw 9 16] [0,1,2,3,9])
 (.seq (.seq (.region [Lw 17 9,
 Ll 18 (.len false (.t 17)),
 Ll 19 (.mv (Acx 0))] [0,1,2,3,9,18,19])
 (.block 0 (.loop (Z1b_L0))))
 (.seq (.region [Lw 37 9,
 Ll 38 (.call .data [] (.f F20) [(.t 37)]),
 Lw 8 38] [8])
 (.ret))))
def Z1b:Fn:=
 { nparams:=4,nblk:=1,results:=[.tmp 8],body:=Z1b_B }
def Z1r_L0:Cd:=
 .seq (.region [Ll 39 (.bin .lss (.t 38) (.t 37))] [0,2,7,8,9,29,30,31,36,37,38,39])
 (.seq (.cond (.t 39)
 (.skip)
 (.exit 2))
 (.seq (.block 3 (.seq (.region [Lw 40 38,
 Ll 41 (.idxA none .leaf (.t 36) (.t 38)),
 Ilx 42 41,
 Lw 10 40,
 Lw 11 42] [0,2,7,8,9,10,11,29,30,31,36,37,38])
 (.region [Lw 43 7,
 Lw 44 8,
 Lw 45 10,
 Ll 46 (.bin .add (.t 44) (.t 45)),
 Ll 47 (.idxA none .leaf (.t 43) (.t 46)),
 Ilx 48 47,
 Lw 49 9,
 Lw 50 11,
 Ll 51 (.bin .mul (.t 49) (.t 50)),
 Ll 52 (.bin .add (.t 48) (.t 51)),
 Ll 53 (.idxA none .leaf (.t 43) (.t 46)),
 Ls (.store false .leaf (.t 53) (.t 52))] [0,2,7,8,9,29,30,31,36,37,38])))
 (.region [Ll 54 (.bin .add (.t 38) (Acx 1)),
 Lw 38 54] [0,2,7,8,9,29,30,31,36,37,38])))
def Z1r_L1:Cd:=
 .seq (.region [Ll 32 (.bin .lss (.t 31) (.t 30))] [0,2,7,29,30,31,32])
 (.seq (.cond (.t 32)
 (.skip)
 (.exit 0))
 (.seq (.block 1 (.seq (.region [Lw 33 31,
 Ll 34 (.idxA none .leaf (.t 29) (.t 31)),
 Ilx 35 34,
 Lw 8 33,
 Lw 9 35] [0,2,7,8,9,29,30,31])
 (.seq (.region [Lw 36 2,
 Ll 37 (.len false (.t 36)),
 Ll 38 (.mv (Acx 0))] [0,2,7,8,9,29,30,31,36,37,38])
 (.block 2 (.loop (Z1r_L0))))))
 (.region [Ll 55 (.bin .add (.t 31) (Acx 1)),
 Lw 31 55] [0,2,7,29,30,31])))
def Z1r_L2:Cd:=
 .seq (.region [Ll 59 (.bin .lss (.t 58) (.t 57))] [0,7,56,57,58,59])
 (.seq (.cond (.t 59)
 (.skip)
 (.exit 4))
 (.seq (.block 5 (.seq (.region [Lw 60 58,
 Ll 61 (.idxA none .leaf (.t 56) (.t 58)),
 Ilx 62 61,
 Lw 12 60,
 Lw 13 62] [0,7,12,13,56,57,58])
 (.region [Lw 63 7,
 Lw 64 12,
 Lw 65 13,
 Lw 66 0,
 Ll 67 (.bin .rem (.t 65) (.t 66)),
 Ll 68 (.idxA none .leaf (.t 63) (.t 64)),
 Ls (.store false .leaf (.t 68) (.t 67))] [0,7,56,57,58])))
 (.region [Ll 69 (.bin .add (.t 58) (Acx 1)),
 Lw 58 69] [0,7,56,57,58])))
def Z1r_B:Cd:=
 .seq (.region [Ll 6 (.mv (.c (.sl .leaf [])))] [0,1,2])
 (.seq (.seq (.region [Lw 14 1,
 Ll 15 (.len false (.t 14)),
 Ll 16 (.bin .eql (.t 15) (Acx 0)),
 Lw 17 16,
 Lx 18 2 17 false,
 Lg 19 (.len false (.t 18)) 17 false,
 Lg 20 (.bin .eql (.t 19) (Acx 0)) 17 false,
 Ll 21 (.pick (.t 17) (.c (.bool true)) (.t 20))] [0,1,2,21])
 (.cond (.t 21)
 (.seq (.region [Ll 6 (.mv (.c (.sl .leaf [])))] [6])
 (.ret))
 (.skip)))
 (.seq (.region [Lw 22 1,
 Ll 23 (.len false (.t 22)),
 Lw 24 2,
 Ll 25 (.len false (.t 24)),
 Ll 26 (.bin .add (.t 23) (.t 25)),
 Ll 27 (.bin .sub (.t 26) (Acx 1)),
 Ll 28 (.mkSl 0 .leaf (.int .i64 0) 8 (.t 27) (.t 27)),
 Lw 7 28] [0,1,2,7])
 (.seq (.seq (.region [Lw 29 1,
 Ll 30 (.len false (.t 29)),
 Ll 31 (.mv (Acx 0))] [0,2,7,29,30,31])
 (.block 0 (.loop (Z1r_L1))))
 (.seq (.seq (.region [Lw 56 7,
 Ll 57 (.len false (.t 56)),
 Ll 58 (.mv (Acx 0))] [0,7,56,57,58])
 (.block 4 (.loop (Z1r_L2))))
 (.seq (.region [Lw 70 7,
 Ll 71 (.call .data [] (.f F20) [(.t 70)]),
 Lw 6 71] [6])
 (.ret))))))
def Z1r:Fn:=
 { nparams:=3,nblk:=1,results:=[.tmp 6],body:=Z1r_B }
def Z1p_B:Cd:=
 .seq (.region [Ll 6 (.mv (.c (.sl .leaf [])))] [0,1,2])
 (.seq (.region [Lw 7 0,
 Lw 8 1,
 Lw 9 2,
 Ll 10 (Opx F1b [(.t 7),(.c (.sl .leaf [])),(.t 8),(.t 9)]),
 Lw 6 10] [6])
 (.ret))
def Z1p:Fn:=
 { nparams:=3,nblk:=0,results:=[.tmp 6],body:=Z1p_B }
def Z1g_L0:Cd:=
 .seq (.region [Ll 9 (.bin .lss (.t 8) (.t 7))] [0,1,5,7,8,9])
 (.seq (.cond (.t 9)
 (.skip)
 (.exit 0))
 (.seq (.block 1 (.region [Lw 10 5,
 Lw 11 1,
 Ll 12 (.bin .mul (.t 10) (.t 11)),
 Lw 13 0,
 Ll 14 (.bin .rem (.t 12) (.t 13)),
 Lw 5 14] [0,1,5,7,8]))
 (.region [Ll 15 (.bin .add (.t 8) (Acx 1)),
 Lw 8 15] [0,1,5,7,8])))
def Z1g_B:Cd:=
 .seq (.region [Ll 4 (.mv (Acx 0))] [0,1])
 (.seq (.region [Ll 5 (.mv (Acx 1))] [0,1,5])
 (.seq (.seq (.region [Lw 6 0,
 Ll 7 (.bin .sub (.t 6) (Acx 2)),
 Ll 8 (.mv (Acx 0))] [0,1,5,7,8])
 (.block 0 (.loop (Z1g_L0))))
 (.seq (.region [Lw 16 5,
 Lw 4 16] [4])
 (.ret))))
def Z1g:Fn:=
 { nparams:=2,nblk:=0,results:=[.tmp 4],body:=Z1g_B }
def Z1c_L0:Cd:=
 .seq (.region [Ll 60 (.bin .lss (.t 59) (.t 58))] [0,2,8,9,10,11,12,57,58,59,60])
 (.seq (.cond (.t 60)
 (.skip)
 (.exit 2))
 (.seq (.block 3 (.seq (.region [Lw 61 59,
 Ll 62 (.idxA none .leaf (.t 57) (.t 59)),
 Ilx 63 62,
 Lw 13 61,
 Lw 14 63] [0,2,8,9,10,11,12,13,14,57,58,59])
 (.region [Lw 64 8,
 Lw 65 11,
 Lw 66 13,
 Ll 67 (.bin .add (.t 65) (.t 66)),
 Lw 68 0,
 Lw 69 8,
 Lw 70 11,
 Lw 71 13,
 Ll 72 (.bin .add (.t 70) (.t 71)),
 Ll 73 (.idxA none .leaf (.t 69) (.t 72)),
 Ilx 74 73,
 Lw 75 12,
 Lw 76 14,
 Ll 77 (.bin .mul (.t 75) (.t 76)),
 Ll 78 (.bin .sub (.t 74) (.t 77)),
 Ll 79 (Ofx F1l [(.t 68),(.t 78)]),
 Ll 80 (.idxA none .leaf (.t 64) (.t 67)),
 Ls (.store false .leaf (.t 80) (.t 79))] [0,2,8,9,10,11,12,57,58,59])))
 (.region [Ll 81 (.bin .add (.t 59) (Acx 1)),
 Lw 59 81] [0,2,8,9,10,11,12,57,58,59])))
def Z1c_L1:Cd:=
 .seq (.seq (.region [Lw 37 11,
 Ll 38 (.bin .geq (.t 37) (Acx 0))] [0,2,8,9,10,11,38])
 (.cond (.t 38)
 (.skip)
 (.exit 0)))
 (.seq (.block 1 (.seq (.region [Lw 41 8,
 Lw 42 11,
 Lw 43 2,
 Ll 44 (.len false (.t 43)),
 Ll 45 (.bin .add (.t 42) (.t 44)),
 Ll 46 (.bin .sub (.t 45) (Acx 1)),
 Ll 47 (.idxA none .leaf (.t 41) (.t 46)),
 Ilx 48 47,
 Lw 49 10,
 Ll 50 (.bin .mul (.t 48) (.t 49)),
 Lw 51 0,
 Ll 52 (.bin .rem (.t 50) (.t 51)),
 Lw 12 52] [0,2,8,9,10,11,12])
 (.seq (.region [Lw 53 9,
 Lw 54 11,
 Lw 55 12,
 Ll 56 (.idxA none .leaf (.t 53) (.t 54)),
 Ls (.store false .leaf (.t 56) (.t 55))] [0,2,8,9,10,11,12])
 (.seq (.region [Lw 57 2,
 Ll 58 (.len false (.t 57)),
 Ll 59 (.mv (Acx 0))] [0,2,8,9,10,11,12,57,58,59])
 (.block 2 (.loop (Z1c_L0)))))))
 (.region [Lw 39 11,
 Ll 40 (.bin .sub (.t 39) (Acx 1)),
 Lw 11 40] [0,2,8,9,10,11]))
def Z1c_B:Cd:=
 .seq (.region [Ll 6 (.mv (.c (.sl .leaf []))),
 Ll 7 (.mv (.c (.sl .leaf [])))] [0,1,2])
 (.seq (.region [Lw 15 1,
 Ll 16 (.call .heap [0] (.f F2h) [(.t 15)]),
 Lw 8 16] [0,1,2,8])
 (.seq (.seq (.region [Lw 17 1,
 Ll 18 (.len false (.t 17)),
 Lw 19 2,
 Ll 20 (.len false (.t 19)),
 Ll 21 (.bin .lss (.t 18) (.t 20))] [0,1,2,8,21])
 (.cond (.t 21)
 (.seq (.region [Lw 22 8,
 Ll 6 (.mv (.c (.sl .leaf []))),
 Lw 7 22] [6,7])
 (.ret))
 (.skip)))
 (.seq (.region [Lw 23 1,
 Ll 24 (.len false (.t 23)),
 Lw 25 2,
 Ll 26 (.len false (.t 25)),
 Ll 27 (.bin .sub (.t 24) (.t 26)),
 Ll 28 (.bin .add (.t 27) (Acx 1)),
 Ll 29 (.mkSl 1 .leaf (.int .i64 0) 8 (.t 28) (.t 28)),
 Lw 9 29] [0,2,8,9])
 (.seq (.region [Lw 30 0,
 Lw 31 2,
 Ll 32 (Ofx F1y [(.t 31)]),
 Ll 33 (Ofx F1g [(.t 30),(.t 32)]),
 Lw 10 33] [0,2,8,9,10])
 (.seq (.seq (.region [Lw 34 9,
 Ll 35 (.len false (.t 34)),
 Ll 36 (.bin .sub (.t 35) (Acx 1)),
 Lw 11 36] [0,2,8,9,10,11])
 (.block 0 (.loop (Z1c_L1))))
 (.seq (.region [Lw 82 9,
 Ll 83 (.call .data [] (.f F20) [(.t 82)]),
 Lw 84 8,
 Ll 85 (.call .data [] (.f F20) [(.t 84)]),
 Lw 6 83,
 Lw 7 85] [6,7])
 (.ret)))))))
def Z1c:Fn:=
 { nparams:=3,nblk:=2,results:=[.tmp 6,.tmp 7],body:=Z1c_B }
def Z1a_L0:Cd:=
 .seq (.seq (.region [Lw 18 2,
 Ll 19 (.len false (.t 18)),
 Ll 20 (.bin .gtr (.t 19) (Acx 0))] [0,1,2,9,10,11,12,20])
 (.cond (.t 20)
 (.skip)
 (.exit 0)))
 (.block 1 (.seq (.region [Lw 22 0,
 Lw 23 1,
 Lw 24 2,
 Ll 25 (Opx F1c [(.t 22),(.t 23),(.t 24)]),
 Lw 21 25,
 Iex 26 21 0,
 Iex 27 21 1,
 Lw 13 26,
 Lw 14 27] [0,2,9,10,11,12,13,14])
 (.seq (.region [Lw 28 2,
 Lw 29 14,
 Lw 1 28,
 Lw 2 29] [0,1,2,9,10,11,12,13])
 (.seq (.region [Lw 30 11,
 Lw 31 0,
 Lw 32 9,
 Lw 33 0,
 Lw 34 13,
 Lw 35 11,
 Ll 36 (Opx F1r [(.t 33),(.t 34),(.t 35)]),
 Ll 37 (.call .data [] (.f F1b) [(.t 31),(.t 32),(.t 36),(Acx (-1))]),
 Lw 9 30,
 Lw 11 37] [0,1,2,9,10,11,12,13])
 (.region [Lw 38 12,
 Lw 39 0,
 Lw 40 10,
 Lw 41 0,
 Lw 42 13,
 Lw 43 12,
 Ll 44 (.call .data [] (.f F1r) [(.t 41),(.t 42),(.t 43)]),
 Ll 45 (.call .data [] (.f F1b) [(.t 39),(.t 40),(.t 44),(Acx (-1))]),
 Lw 10 38,
 Lw 12 45] [0,1,2,9,10,11,12])))))
def Z1a_B:Cd:=
 .seq (.region [Ll 6 (.mv (.c (.sl .leaf []))),
 Ll 7 (.mv (.c (.sl .leaf []))),
 Ll 8 (.mv (.c (.sl .leaf [])))] [0,1,2])
 (.seq (.region [Ll 16 (.buildSl false 0 .leaf (.int .i64 0) 1 [(0,(Acx 1))]),
 Lw 9 16,
 Ll 10 (.mv (.c (.sl .leaf [])))] [0,1,2,9,10])
 (.seq (.region [Ll 17 (.buildSl false 1 .leaf (.int .i64 0) 1 [(0,(Acx 1))]),
 Ll 11 (.mv (.c (.sl .leaf []))),
 Lw 12 17] [0,1,2,9,10,11,12])
 (.seq (.block 0 (.loop (Z1a_L0)))
 (.seq (.region [Lw 46 0,
 Lw 47 1,
 Ll 48 (Ofx F1y [(.t 47)]),
 Ll 49 (Ofx F1g [(.t 46),(.t 48)]),
 Lw 15 49] [0,1,9,10,15])
 (.seq (.region [Lw 50 0,
 Lw 51 1,
 Lw 52 15,
 Ll 53 (Opx F1p [(.t 50),(.t 51),(.t 52)]),
 Lw 54 0,
 Lw 55 9,
 Lw 56 15,
 Ll 57 (.call .data [] (.f F1p) [(.t 54),(.t 55),(.t 56)]),
 Lw 58 0,
 Lw 59 10,
 Lw 60 15,
 Ll 61 (.call .data [] (.f F1p) [(.t 58),(.t 59),(.t 60)]),
 Lw 6 53,
 Lw 7 57,
 Lw 8 61] [6,7,8])
 (.ret))))))
def Z1a:Fn:=
 { nparams:=3,nblk:=2,results:=[.tmp 6,.tmp 7,.tmp 8],body:=Z1a_B }
def Z1f_B:Cd:=
 .seq (.region [Ll 6 (.mv (.c (.sl .leaf [])))] [0,1,2])
 (.seq (.region [Lw 11 0,
 Lw 12 1,
 Lw 13 2,
 Ll 14 (Opx F1a [(.t 11),(.t 12),(.t 13)]),
 Lw 10 14,
 Iex 15 10 0,
 Iex 16 10 1,
 Iex 17 10 2,
 Lw 7 15,
 Lw 8 16,
 Lw 9 17] [7])
 (.seq (.region [Lw 18 7,
 Lw 6 18] [6])
 (.ret)))
def Z1f:Fn:=
 { nparams:=3,nblk:=0,results:=[.tmp 6],body:=Z1f_B }
def Z1o_B:Cd:=
 .seq (.region [Ll 6 (.mv (.c (.sl .leaf [])))] [0,1,2])
 (.seq (.region [Lw 10 0,
 Lw 11 1,
 Lw 12 2,
 Ll 13 (Opx F1c [(.t 10),(.t 11),(.t 12)]),
 Lw 9 13,
 Iex 14 9 0,
 Iex 15 9 1,
 Lw 7 14,
 Lw 8 15] [8])
 (.seq (.region [Lw 16 8,
 Lw 6 16] [6])
 (.ret)))
def Z1o:Fn:=
 { nparams:=3,nblk:=0,results:=[.tmp 6],body:=Z1o_B }
def Z1k_L0:Cd:=
 .seq (.seq (.region [Lw 19 2,
 Ll 20 (.bin .gtr (.t 19) (Acx 0))] [0,2,3,9,10,20])
 (.cond (.t 20)
 (.skip)
 (.exit 0)))
 (.seq (.block 1 (.seq (.seq (.region [Lw 23 2,
 Ll 24 (.bin .and (.t 23) (Acx 1)),
 Ll 25 (.bin .eql (.t 24) (Acx 1))] [0,2,3,9,10,25])
 (.cond (.t 25)
 (.region [Lw 26 0,
 Lw 27 0,
 Lw 28 9,
 Lw 29 10,
 Ll 30 (Opx F1r [(.t 27),(.t 28),(.t 29)]),
 Lw 31 3,
 Ll 32 (Opx F1o [(.t 26),(.t 30),(.t 31)]),
 Lw 9 32] [0,2,3,9,10])
 (.skip)))
 (.region [Lw 33 0,
 Lw 34 0,
 Lw 35 10,
 Lw 36 10,
 Ll 37 (Opx F1r [(.t 34),(.t 35),(.t 36)]),
 Lw 38 3,
 Ll 39 (Opx F1o [(.t 33),(.t 37),(.t 38)]),
 Lw 10 39] [0,2,3,9,10])))
 (.region [Lw 21 2,
 Ll 22 (.bin .shr (.t 21) (.c (.int .u64 1))),
 Lw 2 22] [0,2,3,9,10]))
def Z1k_B:Cd:=
 .seq (.region [Ll 8 (.mv (.c (.sl .leaf [])))] [0,1,2,3])
 (.seq (.region [Lw 11 0,
 Ll 12 (.buildSl false 0 .leaf (.int .i64 0) 1 [(0,(Acx 1))]),
 Lw 13 3,
 Ll 14 (.call .data [] (.f F1o) [(.t 11),(.t 12),(.t 13)]),
 Lw 15 0,
 Lw 16 1,
 Lw 17 3,
 Ll 18 (Opx F1o [(.t 15),(.t 16),(.t 17)]),
 Lw 9 14,
 Lw 10 18] [0,2,3,9,10])
 (.seq (.block 0 (.loop (Z1k_L0)))
 (.seq (.region [Lw 40 9,
 Lw 8 40] [8])
 (.ret))))
def Z1k:Fn:=
 { nparams:=4,nblk:=1,results:=[.tmp 8],body:=Z1k_B }
def Z6_B:Cd:=
 .seq (.region [Ll 3 (.box false 0 (.t 1)),
 Ll 4 (.mv (.c (.bool false)))] [0,3])
 (.seq (.region [Lw 5 0,
 Ll 6 (Ofx F17 [(.t 5)]),
 Lw 7 6,
 Lx 8 0 7 true,
 Lg 9 (.load Sx6 (.t 3)) 7 true,
 Lg 10 (Ofx F15 [(.t 8),(.t 9)]) 7 true,
 Ll 11 (.pick (.t 7) (.t 10) (.c (.bool false))),
 Lw 4 11] [4])
 (.ret))
def Z6:Fn:=
 { nparams:=2,nblk:=1,results:=[.tmp 4],body:=Z6_B }
def Z1z_L0:Cd:=
 .seq (.region [Ll 9 (.bin .lss (.t 8) (.t 7))] [2,3,6,7,8,9])
 (.seq (.cond (.t 9)
 (.skip)
 (.exit 0))
 (.seq (.block 1 (.seq (.region [Lw 10 8,
 Ll 11 (.idxA none .leaf (.t 6) (.t 8)),
 Ilx 12 11,
 Lw 4 10,
 Lw 5 12] [2,3,4,5,6,7,8])
 (.region [Lw 13 4,
 Lw 14 5,
 Ll 15 (.conv .u8 (.t 14)),
 Ll 16 (.idxA (some 64) .leaf (.t 3) (.t 13)),
 Ls (.store false .leaf (.t 16) (.t 15))] [2,3,6,7,8])))
 (.region [Ll 17 (.bin .add (.t 8) (Acx 1)),
 Lw 8 17] [2,3,6,7,8])))
def Z1z_B:Cd:=
 .seq (.region [Ll 2 (.box false 0 (.c (.arr 64 .leaf z64)))] [0,2])
 (.seq (.region [Ll 3 (.box false 1 (.c (.arr 64 .leaf z64)))] [0,2,3])
 (.seq (.seq (.region [Lw 6 0,
 Ll 7 (.len false (.t 6)),
 Ll 8 (.mv (Acx 0))] [2,3,6,7,8])
 (.block 0 (.loop (Z1z_L0))))
 (.seq (.region [Ipx 18 3,
 Ls (.store false Sx6 (.t 2) (.t 18))] [2])
 (.ret))))
def Z1z:Fn:=
 { nparams:=1,nblk:=2,results:=[.cell 2 Sx6],body:=Z1z_B }
def Z1x_B:Cd:=
 .seq (.region [Ll 2 (.mv (.c (.bool false)))] [0])
 (.seq (.region [Lw 3 0,
 Ll 4 (Ofx F1w [(.t 3)]),
 Ll 5 (.bin .leq (.t 4) (Acx 63)),
 Lw 2 5] [2])
 (.ret))
def Z1x:Fn:=
 { nparams:=1,nblk:=0,results:=[.tmp 2],body:=Z1x_B }
def Z28_B:Cd:=
 .seq (.region [Ll 2 (.box false 0 (.c (.arr 64 .leaf z64))),
 Ll 3 (.mv (Acx 0))] [0,2])
 (.seq (.seq (.region [Lw 4 0,
 Ll 5 (Ofx F1x [(.t 4)]),
 Ll 6 (.un .not (.t 5))] [0,2,6])
 (.cond (.t 6)
 (.seq (.region [Ll 7 (.build false (.arr 64 .leaf z64) []),
 Ls (.store false Sx6 (.t 2) (.t 7)),
 Ll 3 (.mv (Acx 3))] [2,3])
 (.ret))
 (.skip)))
 (.seq (.region [Lw 8 0,
 Ll 9 (Ofx F1z [(.t 8)]),
 Ls (.store false Sx6 (.t 2) (.t 9)),
 Ll 3 (.mv (Acx 0))] [2,3])
 (.ret)))
def Z28:Fn:=
 { nparams:=1,nblk:=1,results:=[.cell 2 Sx6,.tmp 3],body:=Z28_B }
def Zk_B:Cd:=
 .seq (.region [Ll 2 (.box false 0 (.t 0)),
 Ll 3 (.mv (.c (.bool false)))] [1,2])
 (.seq (.region [Ilx 4 1,
 Isx 5 2,
 Ll 6 (.call .flat [] (.t 4) [(.t 5)]),
 Ll 7 (.un .not (.t 6)),
 Lw 3 7] [3])
 (.ret))
def Zk:Fn:=
 { nparams:=2,nblk:=1,results:=[.tmp 3],body:=Zk_B }
def ir_impl_areAll_impl_Skew_B:Cd:=
 .seq (.region [Ll 3 (.box false 0 (.t 1)),
 Ll 4 (.mv (.c (.bool false)))] [0,3])
 (.seq (.region [Lw 5 0,
 Ll 6 (.mkFn Fk [] [(.t 3)]),
 Ll 7 (Ofx F2k [(.t 5),(.t 6)]),
 Ll 8 (.un .not (.t 7)),
 Lw 4 8] [4])
 (.ret))
def Zj:Fn:=
 { nparams:=2,nblk:=1,results:=[.tmp 4],body:=ir_impl_areAll_impl_Skew_B }
def Z19_L0:Cd:=
 .seq (.region [Ll 9 (.bin .lss (.t 8) (.t 7))] [3,6,7,8,9])
 (.seq (.cond (.t 9)
 (.skip)
 (.exit 0))
 (.seq (.block 1 (.seq (.region [Ll 10 (.idxA none .leaf (.t 6) (.t 8)),
 Ilx 11 10,
 Lw 5 11] [3,5,6,7,8])
 (.region [Lw 12 3,
 Lw 13 5,
 Ll 14 (Ofx F1z [(.t 13)]),
 Ll 15 (.buildSl false 1 Sx6 (.arr 64 .leaf z64) 1 [(0,(.t 14))]),
 Ll 16 (.append Sx6 2 64 (.t 12) (.t 15)),
 Lw 3 16] [3,6,7,8])))
 (.region [Ll 17 (.bin .add (.t 8) (Acx 1)),
 Lw 8 17] [3,6,7,8])))
def Z19_B:Cd:=
 .seq (.region [Ll 2 (.mv (.c (.sl Sx6 [])))] [0])
 (.seq (.region [Ll 3 (.nilOwn 0 Sx6)] [0,3])
 (.seq (.seq (.region [Lw 6 0,
 Ll 7 (.len false (.t 6)),
 Ll 8 (.mv (Acx 0))] [3,6,7,8])
 (.block 0 (.loop (Z19_L0))))
 (.seq (.region [Lw 18 3,
 Lw 2 18] [2])
 (.ret))))
def Z19:Fn:=
 { nparams:=1,nblk:=3,results:=[.tmp 2],body:=Z19_B }
end Pe

/-
 Functions of the program in the small form,printed by a program.
-/
namespace Pe
open Go
def Z18_B:Cd:=
 .seq (.region [Ll 0 (.mv (.c (.sl .leaf [])))] [])
 (.seq (.region [Ll 1 (.buildSl false 0 .leaf (.int .i64 0) 2 [(0,(Acx 0)),(1,(Acx 1))]),
 Lw 0 1] [0])
 (.ret))
def Z18:Fn:=
 { nparams:=0,nblk:=1,results:=[.tmp 0],body:=Z18_B }
def Z1s_L0:Cd:=
 .seq (.seq (.region [Lw 25 8,
 Lw 26 7,
 Ll 27 (.bin .mul (Acx 2) (.t 26)),
 Ll 28 (.bin .lss (.t 25) (.t 27))] [0,1,7,8,28])
 (.cond (.t 28)
 (.skip)
 (.exit 0)))
 (.seq (.block 1 (.seq (.region [Lw 31 0,
 Lw 32 8,
 Ll 33 (Opx F1j [(.t 31),(.t 32)]),
 Lw 9 33] [0,1,7,8,9])
 (.seq (.region [Lw 34 0,
 Lw 35 1,
 Lw 36 9,
 Ll 37 (Opx F1o [(.t 34),(.t 35),(.t 36)]),
 Ll 38 (.len false (.t 37)),
 Ll 39 (.bin .eql (.t 38) (Acx 0))] [0,1,7,8,9,39])
 (.cond (.t 39)
 (.seq (.region [Lw 40 9,
 Lw 6 40] [6])
 (.ret))
 (.skip)))))
 (.region [Lw 29 8,
 Ll 30 (.bin .add (.t 29) (Acx 1)),
 Lw 8 30] [0,1,7,8]))
def Z1s_B:Cd:=
 .seq (.region [Ll 6 (.mv (.c (.sl .leaf [])))] [0,1,2])
 (.seq (.seq (.region [Lw 10 1,
 Ll 11 (Ofx F1w [(.t 10)]),
 Lw 12 2,
 Ll 13 (.bin .eql (.t 11) (.t 12))] [0,1,2,13])
 (.cond (.t 13)
 (.seq (.region [Lw 14 0,
 Lw 15 1,
 Lw 16 0,
 Lw 17 1,
 Ll 18 (Ofx F1y [(.t 17)]),
 Ll 19 (Ofx F1g [(.t 16),(.t 18)]),
 Ll 20 (Opx F1p [(.t 14),(.t 15),(.t 19)]),
 Lw 6 20] [6])
 (.ret))
 (.skip)))
 (.seq (.region [Lw 21 0,
 Lw 22 2,
 Ll 23 (Ofx F1i [(.t 21),(.t 22),(Acx 1099511627776)]),
 Lw 7 23] [0,1,7])
 (.seq (.seq (.region [Lw 24 7,
 Lw 8 24] [0,1,7,8])
 (.block 0 (.loop (Z1s_L0))))
 (.seq (.region [Lw 41 1,
 Lw 6 41] [6])
 (.ret)))))
def Z1s:Fn:=
 { nparams:=3,nblk:=0,results:=[.tmp 6],body:=Z1s_B }
def Z1q_L0:Cd:=
 .block 1 (.seq (.region [Lw 12 0,
 Lw 13 1,
 Lw 14 2,
 Ll 15 (Opx F1c [(.t 12),(.t 13),(.t 14)]),
 Lw 11 15,
 Iex 16 11 0,
 Iex 17 11 1,
 Lw 9 16,
 Lw 10 17] [0,1,2,8,9,10])
 (.seq (.seq (.region [Lw 18 10,
 Ll 19 (.len false (.t 18)),
 Ll 20 (.bin .gtr (.t 19) (Acx 0))] [0,1,2,8,9,20])
 (.cond (.t 20)
 (.seq (.region [Lw 21 1,
 Lw 22 8,
 Lw 6 21,
 Lw 7 22] [6,7])
 (.ret))
 (.skip)))
 (.seq (.region [Lw 23 9,
 Lw 1 23] [0,1,2,8])
 (.region [Lw 24 8,
 Ll 25 (.bin .add (.t 24) (Acx 1)),
 Lw 8 25] [0,1,2,8]))))
def Z1q_B:Cd:=
 .seq (.region [Ll 6 (.mv (.c (.sl .leaf []))),
 Ll 7 (.mv (Acx 0))] [0,1,2])
 (.seq (.region [Ll 8 (.mv (Acx 0))] [0,1,2,8])
 (.block 0 (.loop (Z1q_L0))))
def Z1q:Fn:=
 { nparams:=3,nblk:=0,results:=[.tmp 6,.tmp 7],body:=Z1q_B }
def Zl_L0:Cd:=
 .seq (.seq (.region [Lw 19 6,
 Ll 20 (.bin .geq (.t 19) (Acx 0))] [0,1,6,20])
 (.cond (.t 20)
 (.skip)
 (.exit 0)))
 (.seq (.block 1 (.seq (.region [Lw 23 0,
 Lw 24 6,
 Ll 25 (.idxA none .leaf (.t 23) (.t 24)),
 Ilx 26 25,
 Lw 27 1,
 Lw 28 6,
 Ll 29 (.idxA none .leaf (.t 27) (.t 28)),
 Ilx 30 29,
 Ll 31 (Ofx F1 [(.t 26),(.t 30)]),
 Lw 7 31] [0,1,6,7])
 (.seq (.region [Lw 32 7,
 Ll 33 (.bin .neq (.t 32) (Acx 0))] [0,1,6,7,33])
 (.cond (.t 33)
 (.seq (.region [Lw 34 7,
 Lw 4 34] [4])
 (.ret))
 (.skip)))))
 (.region [Lw 21 6,
 Ll 22 (.bin .sub (.t 21) (Acx 1)),
 Lw 6 22] [0,1,6]))
def Zl_B:Cd:=
 .seq (.region [Ll 4 (.mv (Acx 0))] [0,1])
 (.seq (.seq (.region [Lw 8 0,
 Ll 9 (.len false (.t 8)),
 Lw 10 1,
 Ll 11 (.len false (.t 10)),
 Ll 12 (Ofx F0 [(.t 9),(.t 11)]),
 Lw 5 12] [0,1,5])
 (.seq (.region [Lw 13 5,
 Ll 14 (.bin .neq (.t 13) (Acx 0))] [0,1,5,14])
 (.cond (.t 14)
 (.seq (.region [Lw 15 5,
 Lw 4 15] [4])
 (.ret))
 (.skip))))
 (.seq (.seq (.region [Lw 16 0,
 Ll 17 (.len false (.t 16)),
 Ll 18 (.bin .sub (.t 17) (Acx 1)),
 Lw 6 18] [0,1,6])
 (.block 0 (.loop (Zl_L0))))
 (.seq (.region [Ll 4 (.mv (Acx 0))] [4])
 (.ret))))
def Zl:Fn:=
 { nparams:=2,nblk:=0,results:=[.tmp 4],body:=Zl_B }
def Z1e_B:Cd:=
 .seq (.region [Ll 2 (.box false 0 (.t 0)),
 Ll 3 (.box false 1 (.t 1)),
 Ll 4 (.mv (Acx 0))] [2,3])
 (.seq (.region [Ll 5 (.fldA [.leaf,.leaf] (.t 2) 0),
 Ilx 6 5,
 Ll 7 (.fldA [.leaf,.leaf] (.t 3) 0),
 Ilx 8 7,
 Ll 9 (Ofx Fl [(.t 6),(.t 8)]),
 Lw 4 9] [4])
 (.ret))
def Z1e:Fn:=
 { nparams:=2,nblk:=2,results:=[.tmp 4],body:=Z1e_B }
def Z1d_L0:Cd:=
 .seq (.region [Ll 36 (.bin .lss (.t 35) (.t 34))] [0,1,5,6,7,34,35,36])
 (.seq (.cond (.t 36)
 (.skip)
 (.exit 2))
 (.seq (.block 3 (.region [Lw 37 0,
 Lw 38 7,
 Lw 39 0,
 Lw 40 1,
 Ll 41 (Opx F1k [(.t 37),(.t 38),(.t 39),(.t 40)]),
 Lw 7 41] [0,1,5,6,7,34,35]))
 (.region [Ll 42 (.bin .add (.t 35) (Acx 1)),
 Lw 35 42] [0,1,5,6,7,34,35])))
def Z1d_L1:Cd:=
 .seq (.seq (.region [Lw 50 8,
 Ll 51 (Ofx F1w [(.t 50)]),
 Ll 52 (.bin .gtr (.t 51) (Acx 0))] [0,1,5,6,8,52])
 (.cond (.t 52)
 (.skip)
 (.exit 4)))
 (.block 5 (.seq (.region [Lw 53 0,
 Lw 54 8,
 Lw 55 6,
 Ll 56 (Opx F1s [(.t 53),(.t 54),(.t 55)]),
 Lw 9 56] [0,1,5,6,8,9])
 (.seq (.region [Lw 58 0,
 Lw 59 1,
 Lw 60 9,
 Ll 61 (Opx F1q [(.t 58),(.t 59),(.t 60)]),
 Lw 57 61,
 Iex 62 57 0,
 Iex 63 57 1,
 Lw 10 62,
 Lw 11 63] [0,5,6,8,9,10,11])
 (.seq (.region [Lw 64 10,
 Lw 1 64] [0,1,5,6,8,9,11])
 (.seq (.region [Lw 66 0,
 Lw 67 8,
 Lw 68 9,
 Ll 69 (Opx F1q [(.t 66),(.t 67),(.t 68)]),
 Lw 65 69,
 Iex 70 65 0,
 Iex 71 65 1,
 Lw 8 70] [0,1,5,6,8,9,11])
 (.region [Lw 72 5,
 Lw 73 9,
 Lw 74 11,
 Ll 75 (.build false (.st [.leaf,.leaf] [(.sl .leaf []),(.int .i64 0)]) [(0,(.t 73)),(1,(.t 74))]),
 Ll 76 (.buildSl false 3 (.st [.leaf,.leaf]) (.st [.leaf,.leaf] [(.sl .leaf []),(.int .i64 0)]) 1 [(0,(.t 75))]),
 Ll 77 (.append (.st [.leaf,.leaf]) 4 32 (.t 72) (.t 76)),
 Lw 5 77] [0,1,5,6,8]))))))
def Z1d_L2:Cd:=
 .seq (.seq (.region [Lw 12 1,
 Ll 13 (Ofx F1w [(.t 12)]),
 Ll 14 (.bin .gtr (.t 13) (Acx 0))] [0,1,5,6,14])
 (.cond (.t 14)
 (.skip)
 (.exit 0)))
 (.seq (.block 1 (.seq (.seq (.region [Lw 17 6,
 Ll 18 (.bin .mul (Acx 2) (.t 17)),
 Lw 19 1,
 Ll 20 (Ofx F1w [(.t 19)]),
 Ll 21 (.bin .gtr (.t 18) (.t 20))] [0,1,5,6,21])
 (.cond (.t 21)
 (.seq (.region [Lw 22 5,
 Lw 23 0,
 Lw 24 1,
 Lw 25 0,
 Lw 26 1,
 Ll 27 (Ofx F1y [(.t 26)]),
 Ll 28 (Ofx F1g [(.t 25),(.t 27)]),
 Ll 29 (Opx F1p [(.t 23),(.t 24),(.t 28)]),
 Ll 30 (.build false (.st [.leaf,.leaf] [(.sl .leaf []),(.int .i64 0)]) [(0,(.t 29)),(1,(Acx 1))]),
 Ll 31 (.buildSl false 1 (.st [.leaf,.leaf]) (.st [.leaf,.leaf] [(.sl .leaf []),(.int .i64 0)]) 1 [(0,(.t 30))]),
 Ll 32 (.append (.st [.leaf,.leaf]) 2 32 (.t 22) (.t 31)),
 Lw 5 32] [5])
 (.exit 0))
 (.skip)))
 (.seq (.region [Ll 33 (Opx F18 []),
 Lw 7 33] [0,1,5,6,7])
 (.seq (.seq (.region [Lw 34 6,
 Ll 35 (.mv (Acx 0))] [0,1,5,6,7,34,35])
 (.block 2 (.loop (Z1d_L0))))
 (.seq (.region [Lw 43 0,
 Lw 44 0,
 Lw 45 7,
 Ll 46 (Opx F18 []),
 Ll 47 (Opx F1b [(.t 44),(.t 45),(.t 46),(Acx (-1))]),
 Lw 48 1,
 Ll 49 (Opx F1f [(.t 43),(.t 47),(.t 48)]),
 Lw 8 49] [0,1,5,6,8])
 (.block 4 (.loop (Z1d_L1))))))))
 (.region [Lw 15 6,
 Ll 16 (.bin .add (.t 15) (Acx 1)),
 Lw 6 16] [0,1,5,6]))
def Z1d_B:Cd:=
 .seq (.region [Ll 4 (.mv (.c (.sl (.st [.leaf,.leaf]) [])))] [0,1])
 (.seq (.region [Ll 5 (.nilOwn 0 (.st [.leaf,.leaf]))] [0,1,5])
 (.seq (.seq (.region [Ll 6 (.mv (Acx 1))] [0,1,5,6])
 (.block 0 (.loop (Z1d_L2))))
 (.seq (.region [Lw 78 5,
 Ll 79 (.call .heap [] (.f F2o) [(.t 78),(.f F1e)])] [5])
 (.seq (.region [Lw 80 5,
 Lw 4 80] [4])
 (.ret)))))
def Z1d:Fn:=
 { nparams:=2,nblk:=5,results:=[.tmp 4],body:=Z1d_B }
def Z1h_B:Cd:=
 .seq (.region [Ll 4 (.mv (.c (.bool false)))] [0,1])
 (.seq (.seq (.region [Lw 6 1,
 Ll 7 (Ofx F1y [(.t 6)]),
 Ll 8 (.bin .neq (.t 7) (Acx 1)),
 Lw 9 8,
 Lx 10 1 9 false,
 Lg 11 (Ofx F1w [(.t 10)]) 9 false,
 Lg 12 (.bin .lss (.t 11) (Acx 1)) 9 false,
 Ll 13 (.pick (.t 9) (.c (.bool true)) (.t 12))] [0,1,13])
 (.cond (.t 13)
 (.seq (.region [Ll 4 (.mv (.c (.bool false)))] [4])
 (.ret))
 (.skip)))
 (.seq (.region [Lw 14 0,
 Lw 15 1,
 Ll 16 (Opx F1d [(.t 14),(.t 15)]),
 Lw 5 16] [5])
 (.seq (.region [Lw 17 5,
 Ll 18 (.len false (.t 17)),
 Ll 19 (.bin .eql (.t 18) (Acx 1)),
 Lw 20 19,
 Lx 21 5 20 true,
 Lg 22 (.idxA none (.st [.leaf,.leaf]) (.t 21) (Acx 0)) 20 true,
 Lg 23 (.fldA [.leaf,.leaf] (.t 22) 1) 20 true,
 Lg 24 (.load .leaf (.t 23)) 20 true,
 Lg 25 (.bin .eql (.t 24) (Acx 1)) 20 true,
 Ll 26 (.pick (.t 20) (.t 25) (.c (.bool false))),
 Lw 4 26] [4])
 (.ret))))
def Z1h:Fn:=
 { nparams:=2,nblk:=0,results:=[.tmp 4],body:=Z1h_B }
end Pe
