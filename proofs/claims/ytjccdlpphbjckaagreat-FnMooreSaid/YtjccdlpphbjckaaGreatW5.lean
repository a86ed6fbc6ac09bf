/-
  A part of the proof: an evaluator for a small form of the code, its soundness, and contracts of functions over it.
-/
import Derived.Test.YtjccdlpphbjckaaGreatW1
import Derived.Test.YtjccdlpphbjckaaGreatW2
import Derived.Test.YtjccdlpphbjckaaGreatW3
import Derived.Test.YtjccdlpphbjckaaGreatW4

namespace Pe
open Go Gq
variable {T:Nat→Option Fn} {A:ap}
section
variable {p:Int} [IsP p]
theorem acy:row (Pol.X:Fp p)=[0,1]:=by
 unfold row;rw [Pol.len_X];show [rep ((Pol.X:Fp p).c 0),rep ((Pol.X:Fp p).c 1)]=[0,1];have e0:(Pol.X:Fp p).c 0=0:=rfl;have e1:(Pol.X:Fp p).c 1=1:=rfl;rw [e0,e1,ti,C9]
theorem Irr.assoc {q b:Fp p} (hq:Irr q) (hb:Irr b) (h:Dv q b):Dv b q:=by
 obtain ⟨c,hc⟩:=h;have hc0:c≠0:=fun h0=>hb.ne (by rw [hc,h0,Gq.mul_zero])
 have l:=Pol.len_mul hq.ne hc0;rw [←hc] at l;have h1:=hq.len;rcases hb.dv ⟨c,hc⟩ with h2 | h2
 ·omega
 ·obtain ⟨k,hk,rfl⟩:=qh (show c.len=1 by omega)
  rw [hc,Gq.mul_comm];exact (Dv.Cmul hk).2 (.refl q)
structure FInv (a0:Fp p) (n:Nat) (a:Fp p) (out:o9 p):Prop where
 ne:a≠0
 eq:a0=a*nw out
 ok:FacOk out
 nd:∀x∈out,¬ Dv x.1 a
 ns:Cp n a
 ln:out.length+a.len≤13
structure JInv (a0:Fp p) (n:Nat) (a:Fp p) (out:o9 p) (all:Fp p):Prop where
 f:FInv a0 n a out
 ne:all≠0
 ln:all.len≤13
 one:∀q,Irr q→Dv q all→q.len=n+1∧Dv q a
 two:∀q,Irr q→q.len=n+1→Dv q a→Dv q all
end
section
variable {p:Int}
theorem zm (L:o9 p) (x:Fp p×Nat):nw (L++[x])=nw L*pw x.1 x.2:=by
 induction L with
 | nil=>show pw x.1 x.2*1=1*pw x.1 x.2; rw [Gq.mul_one,Gq.one_mul]
 | cons y L ih=>rw [df,ue,ue,ih,Gq.mul_assoc]
end
section
variable {p:Int} [IsP p]
theorem FacOk.snoc {L:o9 p} (h:FacOk L) {q:Fp p} {k:Nat} (hi:Irr q) (hm:Monic q) (hk:1≤k) (hd:∀x∈L,x.1≠q):FacOk (L++[(q,k)]):=by
 refine ⟨fun x hx=>?_,?_⟩
 ·rcases bi.1 hx with hx | hx
  ·exact h.irr x hx
  ·simp at hx; subst hx; exact ⟨hi,hm,hk⟩
 ·rw [ix]
  refine ⟨h.dis,gd _ _,fun x hx y hy=>?_⟩
  simp at hy; subst hy; exact hd x hx
theorem JInv.irr {a0 a:Fp p} {n:Nat} {out:o9 p} {all b:Fp p} (h:JInv a0 n a out all) (hn:1≤n) (hb:b.len=n+1) (hd:Dv b all):Irr b:=by
 have hb0:b≠0:=fun h0=>by rw [h0,Pol.len_zero] at hb; omega
 refine Irr.of_dv (by omega) fun u hu=>?_
 have hul:=hu.len hb0
 have hu0:u≠0:=fun h0=>by
  obtain ⟨c,hc⟩:=hu;exact hb0 (by rw [hc,h0,Gq.zero_mul])
 have hup:=Pol.len_pos hu0
 by_cases h1:u.len=1
 ·exact .inl h1
 ·right
  obtain ⟨r,r1,_,r2⟩:=Gv u.len u (bp _) (by omega)
  have h2:=(h.one r r1 ((r2.trans hu).trans hd)).1;have h3:=r2.len hu0;omega
theorem JInv.step {a0 a:Fp p} {n:Nat} {out:o9 p} {all b:Fp p} (h:JInv a0 n a out all) (hn:1≤n) (hm:Monic b) (hb:b.len=n+1) (hd:Dv b all)
 {k k':Nat} {r r':Fp p} (h1:a=r*pw b k) (h2:¬ Dv b r) (h3:all=r'*pw b k') (h4:¬ Dv b r'):JInv a0 n r (out++[(b,k)]) r'∧r'.len<all.len∧1≤k:=by
 have hi:=h.irr hn hb hd;have hda:=(h.one b hi hd).2
 have hk:1≤k:=by
  cases k with
  | zero=>exact absurd (by rw [h1,pw,Gq.mul_one] at hda; exact hda) h2
  | succ k=>omega
 have hk':1≤k':=by
  cases k' with
  | zero=>exact absurd (by rw [h3,pw,Gq.mul_one] at hd; exact hd) h4
  | succ k=>omega
 have hr0:r≠0:=fun h0=>h.f.ne (by rw [h1,h0,Gq.zero_mul])
 have hr0':r'≠0:=fun h0=>h.ne (by rw [h3,h0,Gq.zero_mul])
 have shrink:∀(a r:Fp p) (k:Nat),r≠0→1≤k→a=r*pw b k→r.len<a.len:=by
  intro a r k hr hk e;obtain ⟨j,rfl⟩:∃j,k=j+1:=⟨k-1,by omega⟩
  have hj:=Ny hi.ne j;have l1:=Pol.len_mul hj hi.ne;have l2:=Pol.len_mul hr (Pol.mul_ne hj hi.ne);have l3:=Pol.len_pos hj;rw [e,pw]; omega
 have s1:=shrink a r k hr0 hk h1;have s2:=shrink all r' k' hr0' hk' h3;have dr:∀q,Dv q r→Dv q a:=fun q hq=>by rw [h1]; exact hq.mul_right _
 have pd:∀q,Irr q→∀m,Dv q (pw b m)→Dv b q:=fun q hq m hq2=>Irr.assoc hq hi (Irr.pw_dv hq m hq2)
 refine ⟨⟨⟨hr0,?_,h.f.ok.snoc hi hm hk fun x hx e=>h.f.nd x hx (e▸hda),?_,Wz h.f.ns ⟨pw b k,h1⟩,?_⟩,hr0',by have:=h.ln; omega,?_,?_⟩,s2,hk⟩
 ·rw [h.f.eq,zm]
  conv=>lhs; rw [h1]
  exact bo [r,pw b k,nw out] rfl
 ·intro x hx
  rcases bi.1 hx with hx | hx
  ·exact fun hq=>h.f.nd x hx (dr _ hq)
  ·simp at hx; subst hx; exact h2
 ·have:=h.f.ln
  simp; omega
 ·intro q hq hqr
  have hqa:Dv q all:=by rw [h3]; exact hqr.mul_right _
  obtain ⟨g1,g2⟩:=h.one q hq hqa;refine ⟨g1,?_⟩;rw [h1] at g2;rcases hq.prime g2 with g | g
  ·exact g
  ·exact absurd ((pd q hq k g).trans hqr) h4
 ·intro q hq hql hqr
  have:=h.two q hq hql (dr q hqr);rw [h3] at this;rcases hq.prime this with g | g
  ·exact g
  ·exact absurd ((pd q hq k' g).trans hqr) h2
theorem JInv.done {a0 a:Fp p} {n:Nat} {out:o9 p} {all:Fp p} (h:JInv a0 n a out all) (hl:all.len<2):FInv a0 (n+1) a out:=by
 refine ⟨h.f.ne,h.f.eq,h.f.ok,h.f.nd,fun q hq hd=>?_,h.f.ln⟩
 have h1:=h.f.ns q hq hd;apply fa;intro hx;have h2:=(h.two q hq (by omega) hd).len h.ne
 have:=hq.len;omega
theorem JInv.init {a0 a:Fp p} {n:Nat} {out:o9 p} (h:FInv a0 n a out) (hn:1≤n) (hn2:n≤12) {fr:Fp p} (hf:fr%a=pw Pol.X (p.toNat^n)%a):JInv a0 n a out (Pol.gcd (fr-Pol.X) a):=by
 have h0:fr-Pol.X≠0∨a≠0:=.inr h.ne;have hm:=Pol.gcd_monic h0;have hd2:=Pol.gcd_dv_right h0
 have key:∀q,Dv q a→(Dv q (fr-Pol.X)↔Dv q (frT p n)):=by
  intro q hq
  have e:Dv q (fr-pw Pol.X (p.toNat^n)):=by
   refine hq.trans ?_;rw [pa,Quo.mk_sub];rw [(Pol.mod_eq_iff h.ne).1 hf,sub_self]
  unfold frT;constructor
  ·intro g
   have:pw Pol.X (p.toNat^n)-Pol.X=(fr-Pol.X)-(fr-pw Pol.X (p.toNat^n)):=bo [pw Pol.X (p.toNat^n),Pol.X,fr] rfl;rw [this]; exact g.sub e
  ·intro g
   have:fr-Pol.X=(pw Pol.X (p.toNat^n)-Pol.X)+(fr-pw Pol.X (p.toNat^n)):=bo [pw Pol.X (p.toNat^n),Pol.X,fr] rfl;rw [this]; exact g.add e
 have hl:=hd2.len h.ne;have hl2:=h.ln;refine ⟨h,hm.2,by omega,fun q hq hd=>?_,fun q hq hql hqa=>?_⟩
 ·have g1:=hd.trans hd2
  have g2:=(key q g1).1 (hd.trans (Pol.gcd_dv_left h0));have g3:=h.ns q hq g1;have g4:=g1.len h.ne;have g5:=L0 hq (d:=q.len-1) (k:=n) (by have:=hq.len; omega) (by have:=ul (p:=p) (n:=q.len-1) (by omega); omega) hn g2
  exact ⟨by omega,g1⟩
 ·have g2:=a0m hq hql (by have:=ul (p:=p) hn2; omega)
  exact Pol.dv_gcd h0 ((key q hqa).2 g2) hqa
noncomputable abbrev qy (x:Fp p×Nat):D:=.st [.leaf,.leaf] [(D.sl .leaf (aq .i64 (row x.1))),(D.int .i64 x.2)]
theorem a79 {O:ap} (hw:tg O) (hst:Gh O) (hdg:pu O) {a0:Fp p} {n:Nat} (hn:1≤n) (hn2:n≤12):∀(m:Nat) (a:Fp p) (out:o9 p) (all:Fp p) (cp:Option Nat),all.len≤m→JInv a0 n a out all→∃(a':Fp p) (out':o9 p) (all':List Int) (cp':Option Nat),FInv a0 (n+1) a' out'∧a'.len≤a.len ∧
 dn O 0 (.loop Z16_L1) ⟨[(0,(.d (.int .i64 p))),(1,(.d (.sl .leaf (aq .i64 (row a))))),(5,.sl 0 [] 0 out.length cp),(6,(.d (.int .i64 n))),(8,(.d (.sl .leaf (aq .i64 (row all)))))],[.sl false n9 (out.map qy),.hole,.hole,.hole,.hole]⟩ =
  some (.exit 4,⟨[(0,(.d (.int .i64 p))),(1,(.d (.sl .leaf (aq .i64 (row a'))))),(5,.sl 0 [] 0 out'.length cp'),(6,(.d (.int .i64 n))),(8,(.d (.sl .leaf (aq .i64 all')))),(52,(.d (.bool false)))],[.sl false n9 (out'.map qy),.hole,.hole,.hole,.hole]⟩)
 | m,a,out,all,cp,hm,h=>by
  have hln:=h.ln;have hp:=Pol.len_pos h.ne;have e1:=hdg (row all) (by rw [cu]; omega)
  rw [cu] at e1
  by_cases hl:all.len<2
  ·refine ⟨a,out,row all,cp,h.done hl,bp _,cg ?_⟩
   have h1:¬ (1:Int)<(all.len:Int):=by omega
   simp -implicitDefEqProofs [Z16_L1,au,e1,h1]
  ·have hlo:=h.f.ln
   obtain ⟨q,q1,q2,q3⟩:=Gv all.len all (bp _) (by omega)
   obtain ⟨b,b1,b2,b3,e2⟩:=hw p all n hn hn2 (by omega) h.ne ⟨q,q2,(h.one q q1 q3).1,q3⟩
   obtain ⟨k,r,g1,g2,e3⟩:=hst p a b h.f.ne (by omega) (by omega) (by omega)
   obtain ⟨k',r',g3,g4,e4⟩:=hst p all b h.ne (by omega) (by omega) (by omega)
   obtain ⟨hJ,hlt,hk⟩:=h.step hn b1 b2 b3 g1 g2 g3 g4;cases m with
   | zero=>omega
   | succ m=>
    obtain ⟨a',out',all',cp',i1,i2,e⟩:=a79 hw hst hdg hn hn2 m r (out++[(b,k)]) r' none (by omega) hJ
    have hra:r.len≤a.len:=(show Dv r a from ⟨_,g1⟩).len h.f.ne;refine ⟨a',out',all',cp',i1,by omega,bq ?_ e⟩
    have h1:(1:Int)<(all.len:Int):=by omega
    have h8:(out.length+1)*32≤1099511627776:=by omega
    have ht:(out.map qy).take out.length=out.map qy:=b7 (by simp)
    have hL:(out.map qy).length=out.length:=by simp
    have o1:(out++[(b,k)]).map qy=out.map qy++[qy (b,k)]:=by simp
    have o2:(out++[(b,k)]).length=out.length+1:=by simp
    rw [o1,o2];generalize out.map qy=LD at *;simp -implicitDefEqProofs [Z16_L1,au,e1,e2,e3,e4,h1,h8,ht,hL,List.replicate]
theorem aa9 {O:ap} (hpw:zz O) {a:Fp p} (ha:a≠0) (hal:a.len≤13) {n:Nat} (hn2:n≤1000) {st:V} {hp:Heap} (hst:st.refs=[0]) (hhp:∃b,hp=[b,.hole,.hole,.hole,.hole]):∀(m i:Nat) (fr:Fp p),i+m=n→fr.len≤13→∃fr':Fp p,fr'.len≤13∧fr'%a=pw fr (p.toNat^m)%a ∧
 dn O 0 (.loop Z16_L0) ⟨[(0,(.d (.int .i64 p))),(1,(.d (.sl .leaf (aq .i64 (row a))))),(5,st),(6,(.d (.int .i64 n))),(7,(.d (.sl .leaf (aq .i64 (row fr))))),(34,(.d (.int .i64 n))),(35,(.d (.int .i64 i)))],hp⟩ =
  some (.exit 2,⟨[(0,(.d (.int .i64 p))),(1,(.d (.sl .leaf (aq .i64 (row a))))),(5,st),(6,(.d (.int .i64 n))),(7,(.d (.sl .leaf (aq .i64 (row fr'))))),(34,(.d (.int .i64 n))),(35,(.d (.int .i64 n))),(36,(.d (.bool false)))],hp⟩)
 | 0,i,fr,hi,hf=>by
  obtain ⟨b,rfl⟩:=hhp;obtain rfl:i=n:=by omega
  refine ⟨fr,hf,by rw [tr,Ee],cg ?_⟩
  simp -implicitDefEqProofs [Z16_L0,au,hst]
 | m+1,i,fr,hi,hf=>by
  have hP:=IsP.pos (p:=p);have hP7:=IsP.le (p:=p);have e:=hpw p fr p a ha (by omega) (by omega) (by omega) (by omega)
  have hl:=Pol.len_mod (pw fr p.toNat) ha;obtain ⟨fr',g1,g2,g3⟩:=aa9 (O:=O) hpw ha hal hn2 hst hhp m (i+1) (pw fr p.toNat%a) (by omega) (by omega)
  obtain ⟨b,rfl⟩:=hhp;have h1:i<n:=by omega
  have w1:IntKind.i64.wrap ((i:Int)+1)=((i+1:Nat):Int):=(w64 (x:=(i:Int)+1) (by omega)).trans (by omega)
  refine ⟨fr',g1,?_,bq ?_ g3⟩
  ·rw [g2,Pol.pow_mod _ ha,yn,rg,A8]
  ·simp -implicitDefEqProofs [Z16_L0,au,e,h1,w1,hst]
structure FEnd (a0:Fp p) (out:o9 p):Prop where
 ok:FacOk out
 eq:∃c:Zp p,c≠0∧a0=Pol.C c*nw out
 ln:out.length≤12
theorem a5e {O:ap} (hw:tg O) (hst:Gh O) (hdg:pu O) (hpw:zz O) (hlet:Ek O) (hc:pz O) (hg:a1u O) (hld:y7 O) (hinv:rf O) (hs:uq O) {a0:Fp p}:∀(m n:Nat) (a:Fp p) (out:o9 p) (cp:Option Nat),1≤n→n+m=15→FInv a0 n a out→∃(out':o9 p) (cp':Option Nat) (e:Env),FEnd a0 out'∧((∃x y,e=[(0,(.d (.int .i64 p))),(1,(.d (.sl .leaf (aq .i64 x)))),(5,.sl 0 [] 0 out'.length cp'),(6,(.d (.int .i64 y))),(14,(.d (.bool false)))])∨e=[(5,.sl 0 [] 0 out'.length cp')]) ∧
 dn O 0 (.loop Z16_L2) ⟨[(0,(.d (.int .i64 p))),(1,(.d (.sl .leaf (aq .i64 (row a))))),(5,.sl 0 [] 0 out.length cp),(6,(.d (.int .i64 n)))],[.sl false n9 (out.map qy),.hole,.hole,.hole,.hole]⟩ =
  some (.exit 0,⟨e,[.sl false n9 (out'.map qy),.hole,.hole,.hole,.hole]⟩)
 | m,n,a,out,cp,hn,hm,h=>by
  have hp:=IsP.ge (p:=p);have hp7:=IsP.le (p:=p);have hln:=h.ln;have ha:=Pol.len_pos h.ne;have e1:=hdg (row a) (by rw [cu]; omega)
  rw [cu] at e1
  by_cases hl:a.len=1
  ·have h1:¬ (1:Int)<(a.len:Int):=by omega
   obtain ⟨c,hc0,rfl⟩:=qh hl;refine ⟨out,cp,_,⟨h.ok,⟨c,hc0,h.eq⟩,by omega⟩,.inl ⟨row (Pol.C c),n,rfl⟩,cg ?_⟩
   simp -implicitDefEqProofs [Z16_L2,au,e1,h1]
  ·have h1:(1:Int)<(a.len:Int):=by omega
   have w1:IntKind.i64.wrap (2*(n:Int))=2*(n:Int):=w64 (by omega)
   have h8:(out.length+1)*32≤1099511627776:=by omega
   have ht:(out.map qy).take out.length=out.map qy:=b7 (by simp)
   have hL:(out.map qy).length=out.length:=by simp
   by_cases h2:(a.len:Int)-1<2*(n:Int)
   ·have hi:=Ax h.ns (by omega) (by omega)
    have hr:=nu a.ld;have hin:=A2 p (rep a.ld);have e2:=hld (row a) (by rw [cu]; omega)
    rw [Gl] at e2;have e3:=hinv p (rep a.ld) (by omega) (by omega) hr.1 hr.2
    have e4:=hs p (inv p (rep a.ld)) a (by omega) (by omega) (by omega)
    rw [wg _ (Pol.ld_ne h.ne)] at e4;have e4':ask O F1j [(D.int .i64 p),(D.sl .leaf (aq .i64 (row a))),(D.int .i64 (inv p (rep a.ld)))]=some (D.sl .leaf (aq .i64 (row (mon a)))):=e4;have o1:(out++[(mon a,1)]).map qy=out.map qy++[qy (mon a,1)]:=by simp
    have o2:(out++[(mon a,1)]).length=out.length+1:=by simp
    refine ⟨out++[(mon a,1)],none,_,⟨h.ok.snoc hi.mon (pf h.ne) (bp 1) fun x hx e=>h.nd x hx (by rw [e,Di h.ne]; exact .refl a),⟨a.ld,Pol.ld_ne h.ne,?_⟩,by rw [o2]; omega⟩,.inr rfl,cg ?_⟩
    ·rw [zm]
     show a0=Pol.C a.ld*(nw out*pw (mon a) 1);rw [Ee,h.eq]
     conv=>lhs; rw [Wx h.ne]
     exact bo [Pol.C a.ld,mon a,nw out] rfl
    ·rw [o1,o2]
     generalize out.map qy=LD at *;simp -implicitDefEqProofs [Z16_L2,au,e1,h1,h2,w1,e2,e3,e4',h8,ht,hL,List.replicate]
   ·cases m with
    | zero=>omega
    | succ m=>
     have hl2:(Pol.X:Fp p).len≤13:=by rw [Pol.len_X]; omega
     obtain ⟨fr,g1,g2,g3⟩:=aa9 (O:=O) hpw h.ne (by omega) (n:=n) (by omega) (st:=.sl 0 [] 0 out.length cp) (hp:=[.sl false n9 (out.map qy),.hole,.hole,.hole,.hole]) (by simp [V.refs]) ⟨_,rfl⟩ n 0 Pol.X (br _) hl2
     have hJ:=JInv.init h hn (by omega) g2
     have hlj:=hJ.ln;obtain ⟨a',out',all',cp',i1,i2,i3⟩:=a79 (O:=O) hw hst hdg hn (by omega) (Pol.gcd (fr-Pol.X) a).len a out _ cp (bp _) hJ
     obtain ⟨out2,cp2,e,j1,j2,j3⟩:=a5e hw hst hdg hpw hlet hc hg hld hinv hs m (n+1) a' out' cp' (by omega) (by omega) i1
     have e2:ask O Fz []=some (D.sl .leaf (aq .i64 (row (Pol.X:Fp p)))):=by rw [acy]; exact hlet
     have e3:=hc p fr Pol.X (by omega) (by omega)
     have hsl:=Pol.len_sub_le (a:=fr) (b:=Pol.X) (n:=13) g1 hl2;have e4:=hg p (fr-Pol.X) a (.inr h.ne) (by omega) (by omega)
     have w2:IntKind.i64.wrap ((n:Int)+1)=((n+1:Nat):Int):=(w64 (x:=(n:Int)+1) (by omega)).trans (by omega)
     have e0:((0:Nat):Int)=0:=rfl;rw [e0] at g3;refine ⟨out2,cp2,e,j1,j2,bq ?_ j3⟩;generalize out.map qy=LD at *;simp -implicitDefEqProofs [Z16_L2,au,e1,h1,h2,w1,w2,e2,e3,e4,g3,i3]
end
theorem Iq {α β:Type} (f:α→β) {m ds:List β} (h:m.Perm ds):∀l:List α,l.map f=m→∃l':List α,l'.Perm l∧l'.map f=ds:=by
 induction h with
 | nil=>intro l hl; exact ⟨[],by simp at hl; subst hl; exact .refl _,rfl⟩
 | cons x h ih=>
  intro l hl;cases l with
  | nil=>simp at hl
  | cons y l=>
   simp at hl;obtain ⟨l',p,e⟩:=ih l hl.2;exact ⟨y::l',p.cons y,by simp [e,hl.1]⟩
 | swap x y s=>
  intro l hl;cases l with
  | nil=>simp at hl
  | cons a l=>
   cases l with
   | nil=>simp at hl
   | cons b l=>
    simp at hl;exact ⟨b::a::l,List.Perm.swap a b l,by simp [hl]⟩
 | trans _ _ ih1 ih2=>
  intro l hl;obtain ⟨l',p,e⟩:=ih1 l hl;obtain ⟨l'',p2,e2⟩:=ih2 l' e;exact ⟨l'',p2.trans p,e2⟩
section
variable {p:Int} [IsP p]
theorem aeu:∀(n:Nat) {l m:List Int},Can p l→Can p m→l.length=n→m.length=n→H1 l m n=ro (vl p l) (vl p m):=by
 have hp:=IsP.pos (p:=p)
 -- the value of the first coefficients
 have key:∀(k:Nat) (l:List Int),Can p l→k≤l.length→vl p (l.take k)+(if k<l.length then p^k*cf l k else 0)=vl p (l.take (k+1))∧0≤vl p (l.take k)∧vl p (l.take k)<p^k:=by
  intro k l hl hk;have hin:=a1p (p:=p) (l:=l.take k) fun x hx=>hl x (List.mem_of_mem_take hx)
  rw [bj,Nat.min_eq_left hk] at hin;refine ⟨?_,hin⟩
  have app:∀(a b:List Int),vl p (a++b)=vl p a+p^a.length*vl p b:=by
   intro a
   induction a with
   | nil=>intro b; simp [vl]
   | cons x a ih=>
    intro b;rw [df,vl,ih,vl,b9,jz,v3,ku (p^a.length) p,y9,Int.add_assoc]
  by_cases hlt:k<l.length
  ·rw [if_pos hlt,←D0 hlt,app,bj,Nat.min_eq_left hk,gu hlt]
   simp [vl]
  ·rw [if_neg hlt,b7 (by omega),b7 (by omega),Int.add_zero]
 intro n l m hl hm hln hmn
 have main:∀k,k≤n→H1 l m k=ro (vl p (l.take k)) (vl p (m.take k)):=by
  intro k
  induction k with
  | zero=>intro _; simp [H1,ro,vl]
  | succ k ih=>
   intro hk;obtain ⟨a1,a2,a3⟩:=key k l hl (by omega)
   obtain ⟨b1,b2,b3⟩:=key k m hm (by omega)
   rw [if_pos (by omega)] at a1 b1
   rw [←a1,←b1,H1,ih (by omega)]
   have hpk:=rt (p:=p) k;generalize vl p (l.take k)=u at *;generalize vl p (m.take k)=v at *;generalize cf l k=c at *;generalize cf m k=d at *
   have mono:∀x y:Int,x<y→p^k*x+p^k≤p^k*y:=fun x y h=>by
    have:=du (show x+1≤y by omega) (Int.le_of_lt hpk)
    rwa [v3,tf] at this
   rcases Int.lt_trichotomy c d with h | h | h
   ·have:=mono c d h
    have e:ro c d=-1:=if_pos h;rw [e,if_pos (by omega)]
    exact (if_pos (by omega)).symm
   ·subst h
    have e:ro c c=0:=by unfold ro; rw [if_neg (by omega),if_neg (by omega)]
    rw [e,if_neg (fun h=>h rfl)]
    unfold ro
    by_cases h1:u<v
    ·rw [if_pos h1,if_pos (by omega)]
    ·rw [if_neg h1]
     by_cases h2:v<u
     ·rw [if_pos h2,if_neg (by omega),if_pos (by omega)]
     ·rw [if_neg h2,if_neg (by omega),if_neg (by omega)]
   ·have:=mono d c h
    have e:ro c d=1:=by unfold ro; rw [if_neg (by omega),if_pos h]
    rw [e,if_pos (by omega)]
    unfold ro;rw [if_neg (by omega),if_pos (by omega)]
 have:=main n (bp n)
 rwa [b7 (by omega),b7 (by omega)] at this
theorem a94 (a b:Fp p):ac8 (row a) (row b)=ro (gt a) (gt b):=by
 unfold ac8;rw [cu,cu];rcases kc a.len b.len with h | h | h
 ·have:=vw h
  have e:ro (a.len:Int) b.len=-1:=if_pos (by omega)
  rw [e,if_pos (by omega)]
  exact (if_pos this).symm
 ·have e:ro (a.len:Int) b.len=0:=by unfold ro; rw [if_neg (by omega),if_neg (by omega)]
  rw [e,if_neg (fun h=>h rfl)]
  exact aeu a.len (km a) (km b) (cu a) (by rw [cu,h])
 ·have:=vw h
  have e:ro (a.len:Int) b.len=1:=by unfold ro; rw [if_neg (by omega),if_pos (by omega)]
  rw [e,if_pos (by omega)]
  unfold ro;rw [if_neg (by omega),if_pos this]
end
def ahx (p:Int):D→Int
 | .st _ (.sl _ cs::_)=>vl p (cs.map D.num)
 | _=>0
theorem Ex {p:Int} (x:Fp p×Nat):ahx p (qy x)=vl p (row x.1):=by
 show vl p ((aq .i64 (row x.1)).map D.num)=_;unfold aq;rw [k8];have:(D.num ∘ D.int .i64)=id:=rfl;rw [this,List.map_id]
theorem aau {p:Int} [IsP p] (hT:T F17=some Z17) (hc:Br (den T A)) {L:o9 p} (hl:∀x∈L,x.1.len≤1000):CmpOk (den T A) F17 [] [] (ahx p) n9 (L.map qy):=by
 refine ⟨fun x hx=>by simp at hx,fun x hx=>by simp at hx,fun x hx=>?_,fun x hx=>?_,fun x hx y hy=>?_⟩
 ·obtain ⟨a,_,rfl⟩:=ct.1 hx; rfl
 ·obtain ⟨a,_,rfl⟩:=ct.1 hx; rfl
 ·obtain ⟨a,ha,rfl⟩:=ct.1 hx
  obtain ⟨b,hb,rfl⟩:=ct.1 hy;have h1:=hl a ha;have h2:=hl b hb;have e:=hc (row a.1) (row b.1) (by rw [cu]; omega) (by rw [cu]; omega)
  rw [a94] at e;have n1:=Ex a;have n2:=Ex b;rw [n1,n2];refine ch hT rfl ?_;simp -implicitDefEqProofs [Z17,Z17_B,e,gt]
def Ha (O:ap):Prop:=∀(p:Int) [IsP p] (a:Fp p),a≠0→a.len≤13→∃L:o9 p,IsFac a L∧L.length≤12 ∧
 ask O F16 [(D.int .i64 p),(D.sl .leaf (aq .i64 (row a)))]=some (.sl n9 (L.map qy))
theorem FacOk.perm {p:Int} [IsP p] {L L':o9 p} (h:FacOk L) (hp:L'.Perm L):FacOk L':=
 ⟨fun x hx=>h.irr x (hp.subset hx),(hp.pairwise_iff (fun h e=>h e.symm)).2 h.dis⟩
theorem Yi {p:Int} {L L':o9 p} (hp:L'.Perm L):nw L'=nw L:=My (hp.map _)
theorem a38 (hT:T F16=some Z16) (hT1:T F17=some Z17) (hw:tg (den T A)) (hst:Gh (den T A)) (hdg:pu (den T A)) (hpw:zz (den T A)) (hlet:Ek (den T A)) (hc:pz (den T A)) (hg:a1u (den T A)) (hld:y7 (den T A)) (hinv:rf (den T A)) (hs:uq (den T A)) (hcmp:Br (den T A)) (hsort:Ds (den T A)):Ha (den T A):=by
 intro p i a ha hal;have h0:FInv a 1 a []:=⟨ha,(Gq.mul_one a).symm,⟨by simp,List.Pairwise.nil⟩,by simp,V6 a,by simpa using hal⟩
 obtain ⟨out,cp,e,j1,j2,j3⟩:=a5e hw hst hdg hpw hlet hc hg hld hinv hs 14 1 a [] (some 0) (bp 1) rfl h0;obtain ⟨c,hc0,hac⟩:=j1.eq;have hP:=Au j1.ok
 have hlen:∀x∈out,x.1.len≤1000:=fun x hx=>by
  have h1:Dv x.1 a:=by
   obtain ⟨r,h2,_⟩:=Cq j1.ok (show (x.1,x.2)∈out from hx);obtain ⟨k,hk⟩:∃k,x.2=k+1:=⟨x.2-1,by have:=(j1.ok.irr x hx).2.2; omega⟩
   rw [hac,h2,hk,pw];exact (((Dv.refl x.1).mul_left _).mul_right _).mul_left _
  have:=h1.len ha;omega
 obtain ⟨ds,s1,s2,s3⟩:=hsort _ _ _ _ (out.map qy) cp (by simpa using j1.ln) (aau hT1 hcmp hlen)
 obtain ⟨L,p1,p2⟩:=Iq qy s1.symm out rfl;have ok:=j1.ok.perm p1;subst p2;have hLl:L.length=out.length:=p1.length_eq;refine ⟨L,⟨ok,?_,?_⟩,by rw [hLl]; exact j1.ln,ch hT rfl ?_⟩
 ·have s4:L.Pairwise fun x y=>gt x.1≤gt y.1:=by
   have:=s2;unfold Asc at this;rw [po] at this;exact this.imp fun h=>by rw [Ex,Ex] at h; exact h
  exact (s4.and ok.dis).imp fun {x y} h=>by
   have h1:=h.1;rcases Int.lt_or_eq_of_le h1 with h2 | h2
   ·exact h2
   ·exact absurd (Oh h2) h.2
 ·have:a.ld=c:=by
   rw [hac,Pol.ld_mul (Pol.C_ne hc0) hP.2,Pol.ld_C hc0,hP.1,Gq.mul_one]
  rw [this,Yi p1]; exact hac
 ·have e0:(([]:o9 p).length:Nat)=0:=rfl
  have e00:((1:Nat):Int)=1:=rfl;rw [e0,e00,fi] at j3;have hds:(L.map qy).length=out.length:=by rw [ab,hLl]
  have hol:(out.map qy).length=out.length:=by simp
  have htk:(L.map qy).take out.length=L.map qy:=b7 (by omega)
  rw [hol] at s3;generalize L.map qy=LD at *;generalize out.map qy=OD at *;rcases j2 with ⟨x,y,rfl⟩ | rfl
  ·simp -implicitDefEqProofs [Z16,Z16_B,j3,s3,hds,htk,List.idxOf,List.findIdx,List.findIdx.go]
  ·simp -implicitDefEqProofs [Z16,Z16_B,j3,s3,hds,htk,List.idxOf,List.findIdx,List.findIdx.go]
end Pe
namespace Pe
open Go Gq
variable {T:Nat→Option Fn} {A:ap}
open Classical in
noncomputable def fac {p:Int} [IsP p] (a:Fp p):o9 p:=if h:∃L,IsFac a L then Classical.choose h else []
theorem a78 {p:Int} [IsP p] {a:Fp p} (ha:a≠0) {L:o9 p} (h:IsFac a L):fac a=L:=by
 have hx:∃L,IsFac a L:=⟨L,h⟩;unfold fac;rw [dif_pos hx];exact IsFac.unique ha (ew hx) h
def a6q (O:ap):Prop:=∀(p:Int) [IsP p] (a:Fp p),a≠0→a.len≤13→IsFac a (fac a)∧(fac a).length≤12 ∧
 ask O F16 [(D.int .i64 p),(D.sl .leaf (aq .i64 (row a)))]=some (.sl n9 ((fac a).map qy))
theorem akj {O:ap} (h:Ha O):a6q O:=fun p i a ha hl=>by
 obtain ⟨L,h1,h2,h3⟩:=h p a ha hl;rw [a78 ha h1];exact ⟨h1,h2,h3⟩
section
variable {p:Int} [IsP p]
theorem IsFac.len {m:Fp p} (hm:m≠0) {L:o9 p} (h:IsFac m L) {x:Fp p×Nat} (hx:x∈L):2≤x.1.len∧x.1.len≤m.len∧x.2<m.len∧x.1≠0:=by
 obtain ⟨i1,i2,i3⟩:=h.ok.irr x hx;obtain ⟨_,_,_,h4,_⟩:=(Qr hm h.ok h.eq x.1 x.2).1 hx;have h5:=h4.len hm
 have h6:∀n,n<(pw x.1 n).len:=by
  intro n
  induction n with
  | zero=>show 0<(1:Fp p).len; rw [Pol.len_one]; omega
  | succ n ih=>
   have l:=Pol.len_mul (Ny i1.ne n) i1.ne;have:=i1.len;rw [pw]; omega
 have h7:=h6 x.2
 have h8:x.1.len≤(pw x.1 x.2).len:=by
  obtain ⟨k,hk⟩:∃k,x.2=k+1:=⟨x.2-1,by omega⟩
  rw [hk,pw];exact (show Dv x.1 (pw x.1 k*x.1) from ⟨pw x.1 k,Gq.mul_comm _ _⟩).len (Pol.mul_ne (Ny i1.ne k) i1.ne)
 exact ⟨i1.len,by omega,by omega,i1.ne⟩
end
end Pe
namespace Pe
open Go Gq
variable {T:Nat→Option Fn} {A:ap}
theorem afj {p:Int} (h:isP p=true):IsP p:=⟨by unfold isP at h; simpa using h⟩
theorem G8 {p:Int} [h:IsP p]:isP p=true:=by unfold isP; exact decide_eq_true h.h
theorem Ar {p:Int} [IsP p] {a:Fp p}:xh p (pad (row a))=true:=by
 unfold xh;rw [gr];intro x hx;obtain ⟨i,_,rfl⟩:=ct.1 hx;have:=(km a).le IsP.pos i
 simpa using this.2
theorem Ah {p:Int} [IsP p] {l:List Int} (hb:je l) (hl:l.length=64) (h:xh p l=true):∃a:Fp p,a.len≤64∧l=pad (row a):=by
 have hc:Can p l:=fun x hx=>⟨(hb x hx).1,by
  unfold xh at h;rw [gr] at h
  simpa using h x hx⟩
 refine ⟨fc p l,ot (Pol.len_le (a57 l)) (by omega),?_⟩
 rw [←sw hc]
 symm
 apply Xg hl;intro i hi;rw [sw hc,jc,jw,Qv (hc.le IsP.pos i)]
inductive Arg1 (p:Int) (l:List Int):Prop
 | bad (h:a58 p [l]=1) (h2:isP p=true→xh p l=false)
 | good (ip:IsP p) (a:Fp p) (hl:a.len≤64) (e:l=pad (row a))
theorem ajs (p:Int) {l:List Int} (hb:je l) (hl:l.length=64):Arg1 p l:=by
 by_cases h1:isP p=true
 ·by_cases h2:xh p l=true
  ·have ip:=afj h1
   obtain ⟨a,g1,g2⟩:=Ah hb hl h2;exact .good ip a g1 g2
  ·refine .bad (by simp [a58,h2]) fun _=>by simpa using h2
 ·exact .bad (by simp [a58,h1]) fun h=>absurd h h1
theorem Be {p:Int} [IsP p] (x:Zp p):rep x=1↔x=1:=⟨fun h=>a10 (by rw [h,C9]),fun h=>by rw [h,C9]⟩
theorem Or {p:Int} [IsP p] (a:Fp p):Monic a↔a.ld=1:=⟨fun h=>h.1,fun h=>⟨h,fun h0=>by
 rw [h0] at h;have:(0:Fp p).ld=0:=rfl;rw [this] at h;exact Fd.one_ne h.symm⟩⟩
theorem a5v {p:Int} {l:List Int} {f:Fp p} (h:∀i,cf l i=rep (f.c i)):jn l l.length=f.len:=by
 have e:=congrArg List.length (Ae h);rw [cu] at e;unfold trim at e;rw [bj] at e;have:=E8 l l.length;omega
theorem aa2 {O:ap} {l:List Int} (hl:l.length=64):∀n:Nat,n≤64 →
 dn O 0 (.loop Z3m_L0) ⟨[(1,.ptr 0 []),(3,(.d (.int .i64 ((n:Int)-1))))],[.box false (D.arr 64 .leaf (aq .u8 l))]⟩ =
  some (.exit 0,⟨[(1,.ptr 0 []),(3,(.d (.int .i64 ((jn l n:Int)-1)))),(11,(.d (.bool false)))],[.box false (D.arr 64 .leaf (aq .u8 l))]⟩)
 | 0,_=>cg (by simp -implicitDefEqProofs [Z3m_L0,au,jn])
 | n+1,hn=>by
  have hlt:n<l.length:=by omega
  have hn64:n<64:=by omega
  have hx:l[n]=cf l n:=(gu hlt).symm;have t0:(((n+1:Nat):Int)-1)=(n:Int):=by omega
  rw [t0];have w1:IntKind.i64.wrap ((n:Int)-1)=(n:Int)-1:=w64 (by omega)
  by_cases h0:cf l n=0
  ·have e:jn l (n+1)=jn l n:=by simp [jn,h0]
   rw [e];refine bq ?_ (aa2 hl n (by omega))
   simp -implicitDefEqProofs [Z3m_L0,au,hlt,hn64,hx,h0,w1]
  ·have e:jn l (n+1)=n+1:=by simp [jn,h0]
   rw [e,t0];refine cg ?_;simp -implicitDefEqProofs [Z3m_L0,au,hlt,hn64,hx,h0]
def Dl (O:ap):Prop:=∀l:List Int,l.length=64→ask O F3m [(D.arr 64 .leaf (aq .u8 l))]=some (D.int .i64 ((jn l 64:Int)-1))
theorem adq (hT:T F3m=some Z3m):Dl (den T A):=by
 intro l hl;have e:=aa2 (O:=den T A) hl 64 (bp _);have e0:((64:Nat):Int)-1=63:=rfl;rw [e0] at e;refine ch hT rfl ?_;simp -implicitDefEqProofs [Z3m,Z3m_B,e]
def kb (O:ap):Prop:=∀(p:Int) [IsP p] (a:Fp p),a.len≤64→ask O F3m [(D.arr 64 .leaf (aq .u8 (pad (row a))))]=some (D.int .i64 ((a.len:Int)-1))
theorem afn {O:ap} (h:Dl O):kb O:=fun p i a hl=>by
 have e:=a5v (f:=a) (l:=pad (row a)) fun i=>by rw [zu (by rw [cu]; exact hl),jc]
 rw [dc] at e;rw [h _ (dc _),e]
def aa4 (O:ap):Prop:=∀n a b:Int,ask O F3t [(D.int .i64 n),(D.int .i64 a),(D.int .i64 b)]=some (D.bool (decide (a≤n∧n≤b)))
theorem aih (hT:T F3t=some Z3t):aa4 (den T A):=by
 intro n a b;refine ch hT rfl ?_
 by_cases h:a≤n <;> simp -implicitDefEqProofs [Z3t,Z3t_B,h]
def Ma (O:ap):Prop:=∀p:Int,ask O F44 [(D.int .i64 p)]=some (D.bool (isP p))
theorem a8t (hT:T F44=some Z44):Ma (den T A):=by
 intro p;refine ch hT rfl ?_
 by_cases h2:p=2
 ·simp -implicitDefEqProofs [Z44,Z44_B,h2,isP]
 ·by_cases h3:p=3
  ·simp -implicitDefEqProofs [Z44,Z44_B,h3,isP]
  ·by_cases h5:p=5
   ·simp -implicitDefEqProofs [Z44,Z44_B,h5,isP]
   ·simp -implicitDefEqProofs [Z44,Z44_B,h2,h3,h5,isP]
theorem adk {O:ap} {p:Int} {l:List Int} (hb:je l) (hl:l.length=64):∀(m i:Nat),i+m=64 →
 dn O 0 (.loop Z3w_L0) ⟨[(0,(.d (.int .i64 p))),(3,.ptr 0 []),(5,(.d (.int .i64 i)))],[.box false (D.arr 64 .leaf (aq .u8 l))]⟩ =
  if (l.drop i).all (fun x=>decide (x<p)) then some (.exit 0,⟨[(0,(.d (.int .i64 p))),(3,.ptr 0 []),(5,(.d (.int .i64 64))),(7,(.d (.bool false)))],[.box false (D.arr 64 .leaf (aq .u8 l))]⟩) else some (.ret,⟨[(4,(.d (.bool false)))],[.hole]⟩)
 | 0,i,hi=>by
  obtain rfl:i=64:=by omega
  rw [show l.drop 64=[] from i5 (by omega)]
  exact cg (by simp -implicitDefEqProofs [Z3w_L0,au])
 | m+1,i,hi=>by
  have hlt:i<l.length:=by omega
  have hi64:i<64:=by omega
  have hi64':(i:Int)<64:=by omega
  have hx:l[i]=cf l i:=(gu hlt).symm;have hb':=hb _ (bb hlt);rw [hx] at hb';have w1:IntKind.i64.wrap (cf l i)=cf l i:=w64 (by omega)
  have w4:IntKind.i64.wrap ((i:Int)+1)=((i+1:Nat):Int):=(w64 (x:=(i:Int)+1) (by omega)).trans (by omega)
  rw [cd hlt,List.all_cons,hx]
  by_cases h0:cf l i<p
  ·rw [decide_eq_true h0,Bool.true_and]
   refine bq ?_ (adk hb hl m (i+1) (by omega))
   have h1:¬ p≤cf l i:=by omega
   simp -implicitDefEqProofs [Z3w_L0,au,hlt,hi64,hi64',hx,h1,w1,w4]
  ·rw [decide_eq_false h0,Bool.false_and]
   have h1:p≤cf l i:=by omega
   refine mj ?_;simp -implicitDefEqProofs [Z3w_L0,au,hlt,hi64,hi64',hx,h1,w1]
def a1r (O:ap):Prop:=∀(p:Int) (l:List Int),je l→l.length=64→ask O F3w [(D.int .i64 p),(D.arr 64 .leaf (aq .u8 l))]=some (D.bool (xh p l&&isP p))
theorem akw (hT:T F3w=some Z3w) (hp:Ma (den T A)):a1r (den T A):=by
 intro p l hb hl;have e:=adk (O:=den T A) (p:=p) hb hl 64 0 (by omega)
 have e0:((0:Nat):Int)=0:=rfl;rw [e0,dm,show (l.all fun x=>decide (x<p))=xh p l from rfl] at e
 have e1:=hp p;refine ch hT rfl ?_
 by_cases h:xh p l=true
 ·rw [if_pos h] at e
  simp -implicitDefEqProofs [Z3w,Z3w_B,e,e1,h]
 ·rw [if_neg h] at e
  simp -implicitDefEqProofs [Z3w,Z3w_B,e,h]
open Classical in
def Mc (O:ap):Prop:=∀(p:Int) [IsP p] (a:Fp p),a.len≤64→ask O F3y [(D.arr 64 .leaf (aq .u8 (pad (row a))))]=some (D.bool (decide (Monic a)))
open Classical in
theorem a55 (hT:T F3y=some Z3y) (hd:kb (den T A)):Mc (den T A):=by
 intro p i a hl;have e1:=hd p a hl;refine ch hT rfl ?_
 by_cases h0:a=0
 ·subst h0
  have hm:¬ Monic (0:Fp p):=fun h=>h.2 rfl
  rw [decide_eq_false hm];rw [Pol.len_zero] at e1;simp -implicitDefEqProofs [Z3y,Z3y_B,e1]
 ·have hp:=Pol.len_pos h0
  have hd2:((a.len:Int)-1)=((a.len-1:Nat):Int):=by omega
  rw [hd2] at e1;have hx:(pad (row a))[a.len-1]? = some (rep a.ld):=by rw [um _ _ (by omega),jc]; rfl
  have h64:a.len-1<64:=by omega
  have e2:decide (rep a.ld=1)=decide (Monic a):=decide_eq_decide.2 (by rw [Be,Or])
  rw [←e2];generalize a.len-1=n at *;generalize pad (row a)=L at *;simp -implicitDefEqProofs [Z3y,Z3y_B,e1,hx,h64]
end Pe
namespace Pe
open Go Gq
variable {T:Nat→Option Fn} {A:ap}
def u9 (O:ap):Prop:=∀(p:Int) [IsP p] (x:Int),0<x→x<p→ask O F3u [(D.int .i64 p),.int .u8 x]=some (.int .u8 (inv p x))
theorem ju {F:Nat} {fn:Fn} (hT:T F=some fn) {ds:List D} {d:D} {n:Nat} (h:run (fun _ _ _=>none) n fn (ds.map .d) []=some (.d d,[],[])):ask (den T A) F ds=some d:=by
 have h2:=Rz (A:=A) hT (n:=n) (vs:=ds.map .d) (bs:=[]) (ans:=(.d d,[],[])) (by
  obtain ⟨qs,h3,h4⟩:=Ci h;cases qs with
  | nil=>exact h4 _ (by intro q hq; simp at hq)
  | cons q qs=>exact absurd (h3 q (by simp)) (by simp))
 unfold ask;rw [h2];simp
theorem Wr (hT:T F3u=some Z3u):u9 (den T A):=by
 intro p ip x h0 h1;rcases ip.h with rfl | rfl | rfl | rfl
 ·obtain rfl:x=1:=by omega
  exact ju hT (n:=10) (by kernel_rfl)
 ·have:x=1∨x=2:=by omega
  rcases this with rfl | rfl
  ·exact ju hT (n:=10) (by kernel_rfl)
  ·exact ju hT (n:=10) (by kernel_rfl)
 ·have:x=1∨x=2∨x=3∨x=4:=by omega
  rcases this with rfl | rfl | rfl | rfl
  ·exact ju hT (n:=10) (by kernel_rfl)
  ·exact ju hT (n:=10) (by kernel_rfl)
  ·exact ju hT (n:=10) (by kernel_rfl)
  ·exact ju hT (n:=10) (by kernel_rfl)
 ·have:x=1∨x=2∨x=3∨x=4∨x=5∨x=6:=by omega
  rcases this with rfl | rfl | rfl | rfl | rfl | rfl
  ·exact ju hT (n:=10) (by kernel_rfl)
  ·exact ju hT (n:=10) (by kernel_rfl)
  ·exact ju hT (n:=10) (by kernel_rfl)
  ·exact ju hT (n:=10) (by kernel_rfl)
  ·exact ju hT (n:=10) (by kernel_rfl)
  ·exact ju hT (n:=10) (by kernel_rfl)
theorem Mu {p:Int} [IsP p] {l:List Int} (h:Can p l) (hl:l.length=64):l=pad (row (fc p l)):=by
 rw [←sw h]
 symm
 apply Xg hl;intro i hi;rw [sw h,jc,jw,Qv (h.le IsP.pos i)]
theorem zw {p:Int} [IsP p] (a:Fp p):Can p (pad (row a)):=fun x hx=>by
 obtain ⟨i,_,rfl⟩:=ct.1 hx;exact (km a).le IsP.pos i
theorem pe {p:Int} {a:Fp p} (hl:a.len≤64):fc p (pad (row a))=a:=Pol.ext fun i=>by rw [jw,zu (by rw [cu]; exact hl),jc,m8]
theorem sf {p:Int} {a:Fp p} (hl:a.len≤64) (i:Nat):cf (pad (row a)) i=rep (a.c i):=by rw [zu (by rw [cu]; exact hl),jc]
theorem a67 {O:ap} {p k:Int} [IsP p] {a b z:List Int} (ha:Can p a) (hb:Can p b) (hbl:b.length=64) (hk:-1000000≤k∧k≤1000000):∀(m i:Nat) (cur:List Int),i+m=64→cur.length=64→(∀j,i≤j→cf cur j=cf a j) →
 dn O 0 (.loop Z3k_L0) ⟨[(0,(.d (.int .i64 p))),(3,(.d (.int .i64 k))),(5,.ptr 0 []),(6,.ptr 1 []),(8,.ptr 2 []),(9,(.d (.int .i64 i)))],[.box false (D.arr 64 .leaf (aq .u8 cur)),.box false (D.arr 64 .leaf (aq .u8 b)),.box false (D.arr 64 .leaf (aq .u8 z))]⟩ =
  some (.exit 0,⟨[(0,(.d (.int .i64 p))),(3,(.d (.int .i64 k))),(5,.ptr 0 []),(6,.ptr 1 []),(8,.ptr 2 []),(9,(.d (.int .i64 64))),(11,(.d (.bool false)))],[.box false (D.arr 64 .leaf (aq .u8 (upd (lin p a b k) m i cur))),.box false (D.arr 64 .leaf (aq .u8 b)),.box false (D.arr 64 .leaf (aq .u8 z))]⟩)
 | 0,i,cur,hi,hc,hs=>by
  obtain rfl:i=64:=by omega
  exact cg (by simp -implicitDefEqProofs [Z3k_L0,au,upd])
 | m+1,i,cur,hi,hc,hs=>by
  have hp:=IsP.pos (p:=p);have hp7:=IsP.le (p:=p);have hp0:p≠0:=by omega
  have hlt:i<cur.length:=by omega
  have hlb:i<b.length:=by omega
  have hi64:i<64:=by omega
  have hi64':(i:Int)<64:=by omega
  have hx:cur[i]=cf a i:=by rw [←gu hlt]; exact hs i (bp i)
  have hy:b[i]=cf b i:=(gu hlb).symm;have ga:=ha.le hp i;have gb:=hb.le hp i;have gm:=lh (x:=k) (y:=cf b i) (b:=1000000) (c:=10) hk (by omega) (by omega)
  have w1:IntKind.i64.wrap (cf a i)=cf a i:=w64 (by omega)
  have w2:IntKind.i64.wrap (cf b i)=cf b i:=w64 (by omega)
  have w3:IntKind.i64.wrap (k*cf b i)=k*cf b i:=w64 (by omega)
  have w5:IntKind.i64.wrap (cf a i+k*cf b i)=cf a i+k*cf b i:=w64 (by omega)
  have hin:=Ep (n:=cf a i+k*cf b i) hp;have w6:IntKind.i64.wrap ((cf a i+k*cf b i).tmod p+p)=(cf a i+k*cf b i).tmod p+p:=w64 (by omega)
  have w7:((cf a i+k*cf b i).tmod p+p).tmod p=lin p a b k i:=Cl hp;have hlin:0≤lin p a b k i∧lin p a b k i<p:=⟨fm _ (by omega),eh _ hp⟩
  have w8':IntKind.u8.wrap (lin p a b k i)=lin p a b k i:=w8 (by omega)
  have w4:IntKind.i64.wrap ((i:Int)+1)=((i+1:Nat):Int):=(w64 (x:=(i:Int)+1) (by omega)).trans (by omega)
  refine bq ?_ (a67 ha hb hbl hk m (i+1) (cur.set i (lin p a b k i)) (by omega) (by simpa using hc) (fun j hj=>by rw [v7,if_neg (by omega)]; exact hs j (by omega)))
  simp -implicitDefEqProofs [Z3k_L0,au,hlt,hlb,hi64,hi64',hx,hy,w1,w2,w3,w5,w6,w7,w8',w4,hp0]
def lk (O:ap):Prop:=∀(p:Int) [IsP p] (k:Int) (a b:Fp p),-1000000≤k→k≤1000000→a.len≤64→b.len≤64 →
 ask O F3k [(D.int .i64 p),(D.arr 64 .leaf (aq .u8 (pad (row a)))),(D.arr 64 .leaf (aq .u8 (pad (row b)))),(D.int .i64 k)]=some (D.arr 64 .leaf (aq .u8 (pad (row (a+Pol.C (zp p k)*b)))))
theorem aej (hT:T F3k=some Z3k):lk (den T A):=by
 intro p i k a b hk hk' hal hbl;have e:=a67 (O:=den T A) (z:=pad []) (zw a) (zw b) (dc _) ⟨hk,hk'⟩ 64 0 (pad (row a)) (by omega) (dc _) (fun _ _=>rfl)
 have e0:((0:Nat):Int)=0:=rfl;rw [e0,Ro _ _ _ (dc _)] at e
 have e2:(List.range 64).map (lin p (pad (row a)) (pad (row b)) k)=pad (row (a+Pol.C (zp p k)*b)):=by
  unfold pad
  congr 1
  funext j
  rw [jc,Pol.c_add,Pol.c_Cmul];show (cf (pad (row a)) j+k*cf (pad (row b)) j)%p=_;rw [sf hal,sf hbl,←N6,Xz,Dx,m8,m8]
 rw [e2] at e;refine ch hT rfl ?_;generalize pad (row (a+Pol.C (zp p k)*b))=R at *;simp -implicitDefEqProofs [Z3k,Z3k_B,e]
def A4 (O:ap):Prop:=∀(p:Int) [IsP p],ask O F41 []=some (D.arr 64 .leaf (aq .u8 (pad (row (1:Fp p)))))
theorem aeb (hT:T F41=some Z41):A4 (den T A):=by
 intro p i;have e:(pad []).set 0 1=pad [1]:=by decide +kernel
 have h0:(0:Nat)<(pad []).length:=by rw [dc]; omega
 rw [vm];refine ch hT rfl ?_;simp -implicitDefEqProofs [Z41,Z41_B,e,h0]
def S4 (p q:Int) (b:List Int) (i:Nat) (m:Nat) (cur:List Int):List Int:=if q=0 then cur else oz p q b i m 0 cur
theorem Qz {p q:Int} [IsP p] {b cur:List Int} {i m:Nat} (hc:Can p cur) (hl:i+m≤cur.length):S4 p q b i m cur=oz p q b i m 0 cur:=by
 unfold S4
 split
 ·rename_i h
  subst h;apply rh
  ·rw [ol]
  ·intro j h1 h2
   rw [←gu h1,←gu h2,Ak _ _ _ _ _ _ _ _ (by omega)]
   have:=hc.le IsP.pos j
   split
   ·rw [Int.zero_mul,Int.sub_zero,my this.1 this.2]
   ·rfl
 ·rfl
theorem a08 {O:ap} {p q by_:Int} [IsP p] {b quo z z':List Int} {i bl:Nat} (hq:0<q∧q<p) (hb:Can p b) (hbl:b.length=64) (hn:i+bl≤64) (h0:0<bl):∀(m k:Nat) (cur:List Int),k+m=bl→cur.length=64→Can p cur →
 dn O 0 (.loop Z3n_L0) ⟨[(0,(.d (.int .i64 p))),(4,.ptr 0 []),(5,.ptr 1 []),(6,.ptr 2 []),(7,.ptr 3 []),(8,.ptr 4 []),(9,(.d (.int .i64 ((bl:Int)-1)))),(10,(.d (.int .i64 by_))),(11,(.d (.int .i64 ((i:Int)+bl-1)))),(12,(.d (.int .i64 q))),(13,(.d (.int .i64 k)))],[.box false (D.arr 64 .leaf (aq .u8 cur)),.box false (D.arr 64 .leaf (aq .u8 b)),.box false (D.arr 64 .leaf (aq .u8 z)),.box false (D.arr 64 .leaf (aq .u8 z')),.box false (D.arr 64 .leaf (aq .u8 quo))]⟩ =
  some (.exit 2,⟨[(0,(.d (.int .i64 p))),(4,.ptr 0 []),(5,.ptr 1 []),(6,.ptr 2 []),(7,.ptr 3 []),(8,.ptr 4 []),(9,(.d (.int .i64 ((bl:Int)-1)))),(10,(.d (.int .i64 by_))),(11,(.d (.int .i64 ((i:Int)+bl-1)))),(12,(.d (.int .i64 q))),(13,(.d (.int .i64 bl))),(50,(.d (.bool false)))],[.box false (D.arr 64 .leaf (aq .u8 (oz p q b i m k cur))),.box false (D.arr 64 .leaf (aq .u8 b)),.box false (D.arr 64 .leaf (aq .u8 z)),.box false (D.arr 64 .leaf (aq .u8 z')),.box false (D.arr 64 .leaf (aq .u8 quo))]⟩)
 | 0,k,cur,hk,hc,hcan=>by
  obtain rfl:k=bl:=by omega
  have h1:¬ (k:Int)≤(k:Int)-1:=by omega
  exact cg (by simp -implicitDefEqProofs [Z3n_L0,au,oz,h1])
 | m+1,k,cur,hk,hc,hcan=>by
  have hp:=IsP.pos (p:=p);have hp7:=IsP.le (p:=p);have hp0:p≠0:=by omega
  have hq0:q≠0:=by omega
  have h1:(k:Int)≤(bl:Int)-1:=by omega
  have w1:IntKind.i64.wrap ((i:Int)+bl-1-(bl-1))=i:=(w64 (x:=(i:Int)+bl-1-(bl-1)) (by omega)).trans (by omega)
  have w2:IntKind.i64.wrap ((i:Int)+k)=((i+k:Nat):Int):=(w64 (x:=(i:Int)+k) (by omega)).trans (by omega)
  have hik:i+k<64:=by omega
  have hikc:i+k<cur.length:=by omega
  have hkb:k<b.length:=by omega
  have hk64:k<64:=by omega
  have hx:cur[i+k]=cf cur (i+k):=(gu hikc).symm;have hy:b[k]=cf b k:=(gu hkb).symm;have gc:=hcan.le hp (i+k);have gb:=hb.le hp k;have gm:=lh (x:=q) (y:=cf b k) (b:=10) (c:=10) (by omega) (by omega) (by omega)
  have w3:IntKind.i64.wrap (cf cur (i+k))=cf cur (i+k):=w64 (by omega)
  have w5:IntKind.i64.wrap (cf b k)=cf b k:=w64 (by omega)
  have w6:IntKind.i64.wrap (q*cf b k)=q*cf b k:=w64 (by omega)
  have w7:IntKind.i64.wrap (cf cur (i+k)-q*cf b k)=cf cur (i+k)-q*cf b k:=w64 (by omega)
  have hin:=Ep (n:=cf cur (i+k)-q*cf b k) hp;have w9:IntKind.i64.wrap ((cf cur (i+k)-q*cf b k).tmod p+p)=(cf cur (i+k)-q*cf b k).tmod p+p:=w64 (by omega)
  have w10:((cf cur (i+k)-q*cf b k).tmod p+p).tmod p=(cf cur (i+k)-q*cf b k)%p:=Cl hp;have hlin:0≤(cf cur (i+k)-q*cf b k)%p∧(cf cur (i+k)-q*cf b k)%p<p:=⟨fm _ (by omega),eh _ hp⟩
  have w11:IntKind.u8.wrap ((cf cur (i+k)-q*cf b k)%p)=(cf cur (i+k)-q*cf b k)%p:=w8 (by omega)
  have w4:IntKind.i64.wrap ((k:Int)+1)=((k+1:Nat):Int):=(w64 (x:=(k:Int)+1) (by omega)).trans (by omega)
  have t1:(0:Int)≤(i:Int)+k:=by omega
  have t2:((i:Int)+k).toNat=i+k:=by omega
  have hcan':Can p (cur.set (i+k) ((cf cur (i+k)-q*cf b k)%p)):=by
   intro x hx;rcases ef hx with h | h
   ·exact hcan x h
   ·subst h; exact hlin
  refine bq ?_ (a08 hq hb hbl hn h0 m (k+1) (cur.set (i+k) ((cf cur (i+k)-q*cf b k)%p)) (by omega) (by simpa using hc) hcan')
  simp -implicitDefEqProofs [Z3n_L0,au,h1,hq0,w1,w2,hik,hikc,hkb,hk64,hx,hy,w3,w5,w6,w7,w9,w10,w11,w4,hp0,t1,t2]
theorem a0u {O:ap} {p by_:Int} [IsP p] {b:List Int} {bl:Nat} {z z':List Int} (hby:0≤by_∧by_<p) (hb:Can p b) (hbl:b.length=64) (h0:0<bl):∀(c:Nat) (cur quo:List Int),c+bl≤65→cur.length=64→quo.length=64→Can p cur →
 dn O 0 (.loop Z3n_L1) ⟨[(0,(.d (.int .i64 p))),(4,.ptr 0 []),(5,.ptr 1 []),(6,.ptr 2 []),(7,.ptr 3 []),(8,.ptr 4 []),(9,(.d (.int .i64 ((bl:Int)-1)))),(10,(.d (.int .i64 by_))),(11,(.d (.int .i64 ((c:Int)+bl-2))))],[.box false (D.arr 64 .leaf (aq .u8 cur)),.box false (D.arr 64 .leaf (aq .u8 b)),.box false (D.arr 64 .leaf (aq .u8 z)),.box false (D.arr 64 .leaf (aq .u8 z')),.box false (D.arr 64 .leaf (aq .u8 quo))]⟩ =
  some (.exit 0,⟨[(0,(.d (.int .i64 p))),(4,.ptr 0 []),(5,.ptr 1 []),(6,.ptr 2 []),(7,.ptr 3 []),(8,.ptr 4 []),(9,(.d (.int .i64 ((bl:Int)-1)))),(10,(.d (.int .i64 by_))),(11,(.d (.int .i64 ((bl:Int)-2)))),(27,(.d (.bool false)))],[.box false (D.arr 64 .leaf (aq .u8 ((dv p by_ (b.take bl) c (cur,quo)).1))),.box false (D.arr 64 .leaf (aq .u8 b)),.box false (D.arr 64 .leaf (aq .u8 z)),.box false (D.arr 64 .leaf (aq .u8 z')),.box false (D.arr 64 .leaf (aq .u8 ((dv p by_ (b.take bl) c (cur,quo)).2)))]⟩)
 | 0,cur,quo,_,hc,hqo,hcan=>by
  have h1:¬ (bl:Int)-1≤(bl:Int)-2:=by omega
  have t0:((0:Nat):Int)+bl-2=(bl:Int)-2:=by omega
  rw [t0];exact cg (by simp -implicitDefEqProofs [Z3n_L1,au,h1,dv])
 | c+1,cur,quo,hcb,hc,hqo,hcan=>by
  have hp:=IsP.pos (p:=p);have hp7:=IsP.le (p:=p);have hp0:p≠0:=by omega
  have hbt:(b.take bl).length=bl:=by rw [bj]; omega
  have t0:((c+1:Nat):Int)+bl-2=(c:Int)+bl-1:=by omega
  rw [t0];have h1:(bl:Int)-1≤(c:Int)+bl-1:=by omega
  have hi64:c+bl-1<64:=by omega
  have hic:c+bl-1<cur.length:=by omega
  have t1:(0:Int)≤(c:Int)+bl-1:=by omega
  have t2:((c:Int)+bl-1).toNat=c+bl-1:=by omega
  have t3:(1:Int)≤(c:Int)+bl:=by omega
  have hx:cur[c+bl-1]=cf cur (c+bl-1):=(gu hic).symm;have gc:=hcan.le hp (c+bl-1);have gm:=lh (x:=cf cur (c+bl-1)) (y:=by_) (b:=10) (c:=10) (by omega) (by omega) (by omega)
  have w1:IntKind.i64.wrap (cf cur (c+bl-1))=cf cur (c+bl-1):=w64 (by omega)
  have w2:IntKind.i64.wrap (cf cur (c+bl-1)*by_)=cf cur (c+bl-1)*by_:=w64 (by omega)
  have w3:(cf cur (c+bl-1)*by_).tmod p=cf cur (c+bl-1)*by_%p:=dj (gy gc.1 hby.1);have hq:0≤cf cur (c+bl-1)*by_%p∧cf cur (c+bl-1)*by_%p<p:=⟨fm _ hp0,eh _ hp⟩;have w4:IntKind.i64.wrap ((c:Int)+bl-1-(bl-1))=c:=(w64 (x:=(c:Int)+bl-1-(bl-1)) (by omega)).trans (by omega)
  have w5:IntKind.u8.wrap (cf cur (c+bl-1)*by_%p)=cf cur (c+bl-1)*by_%p:=w8 (by omega)
  have hc64:c<64:=by omega
  have hcq:c<quo.length:=by omega
  have w6:IntKind.i64.wrap ((c:Int)+bl-1-1)=(c:Int)+bl-2:=(w64 (x:=(c:Int)+bl-1-1) (by omega)).trans (by omega)
  have ed:dv p by_ (b.take bl) (c+1) (cur,quo)=dv p by_ (b.take bl) c (S4 p (cf cur (c+bl-1)*by_%p) b c bl cur,quo.set c (cf cur (c+bl-1)*by_%p)):=by
   rw [dv,hbt,Qz hcan (by omega)]
   have es:∀(m k:Nat) (x:List Int),k+m≤bl→oz p (cf cur (c+bl-1)*by_%p) (b.take bl) c m k x=oz p (cf cur (c+bl-1)*by_%p) b c m k x:=by
    intro m
    induction m with
    | zero=>intro k x _; rfl
    | succ m ih=>
     intro k x hk;have e:cf (b.take bl) k=cf b k:=by rw [gu (by omega),gu (by omega),n4]
     rw [oz,oz,e,ih _ _ (by omega)]
   rw [es bl 0 cur (by omega)]
  rw [ed];have hcan':Can p (S4 p (cf cur (c+bl-1)*by_%p) b c bl cur):=by rw [Qz hcan (by omega)]; exact Gz hp (by omega) hcan
  have hlen':(S4 p (cf cur (c+bl-1)*by_%p) b c bl cur).length=64:=by rw [Qz hcan (by omega),ol,hc]
  have ih:=a0u (O:=O) (z:=z) (z':=z') hby hb hbl h0 c (S4 p (cf cur (c+bl-1)*by_%p) b c bl cur) (quo.set c (cf cur (c+bl-1)*by_%p)) (by omega) hlen' (by simpa using hqo) hcan'
  refine bq ?_ ih;generalize cf cur (c+bl-1)*by_%p=q at *
  have l0:∃k:Int,dn O 0 (.loop Z3n_L0) ⟨[(0,(.d (.int .i64 p))),(4,.ptr 0 []),(5,.ptr 1 []),(6,.ptr 2 []),(7,.ptr 3 []),(8,.ptr 4 []),(9,(.d (.int .i64 ((bl:Int)-1)))),(10,(.d (.int .i64 by_))),(11,(.d (.int .i64 ((c:Int)+bl-1)))),(12,(.d (.int .i64 q))),(13,(.d (.int .i64 0)))],[.box false (D.arr 64 .leaf (aq .u8 cur)),.box false (D.arr 64 .leaf (aq .u8 b)),.box false (D.arr 64 .leaf (aq .u8 z)),.box false (D.arr 64 .leaf (aq .u8 z')),.box false (D.arr 64 .leaf (aq .u8 (quo.set c q)))]⟩ =
   some (.exit 2,⟨[(0,(.d (.int .i64 p))),(4,.ptr 0 []),(5,.ptr 1 []),(6,.ptr 2 []),(7,.ptr 3 []),(8,.ptr 4 []),(9,(.d (.int .i64 ((bl:Int)-1)))),(10,(.d (.int .i64 by_))),(11,(.d (.int .i64 ((c:Int)+bl-1)))),(12,(.d (.int .i64 q))),(13,(.d (.int .i64 k))),(50,(.d (.bool false)))],[.box false (D.arr 64 .leaf (aq .u8 (S4 p q b c bl cur))),.box false (D.arr 64 .leaf (aq .u8 b)),.box false (D.arr 64 .leaf (aq .u8 z)),.box false (D.arr 64 .leaf (aq .u8 z')),.box false (D.arr 64 .leaf (aq .u8 (quo.set c q)))]⟩):=by
   by_cases hq0:q=0
   ·subst hq0
    refine ⟨0,?_⟩;have e:S4 p 0 b c bl cur=cur:=if_pos rfl;rw [e];have h2:(1:Int)≤(bl:Int):=by omega
    exact cg (by simp -implicitDefEqProofs [Z3n_L0,au,h2])
   ·refine ⟨bl,?_⟩
    have e:S4 p q b c bl cur=oz p q b c bl 0 cur:=if_neg hq0;rw [e];have:=a08 (O:=O) (by_:=by_) (quo:=quo.set c q) (z:=z) (z':=z') (i:=c) (bl:=bl) ⟨by omega,hq.2⟩ hb hbl (by omega) h0 bl 0 cur (br _) hc hcan
    exact this
  obtain ⟨k,l0⟩:=l0;simp -implicitDefEqProofs [Z3n_L1,au,h1,hi64,hic,t2,t3,hx,w1,w2,w3,w4,w5,w6,hc64,hcq,hp0,l0]
def u7 (O:ap):Prop:=∀(p:Int) [IsP p] (a b:Fp p),b≠0→a.len≤64→b.len≤64 →
 ask O F3n [(D.int .i64 p),(D.arr 64 .leaf (aq .u8 (pad (row a)))),(D.arr 64 .leaf (aq .u8 (pad (row b))))]=some (.tup [(D.arr 64 .leaf (aq .u8 (pad (row (a/b))))),(D.arr 64 .leaf (aq .u8 (pad (row (a%b)))))])
theorem a93 {p:Int} {b:Fp p} (h:b.len≤64):(pad (row b)).take b.len=row b:=by
 apply rh
 ·rw [bj,dc,cu]; omega
 ·intro i h1 h2
  rw [n4,←gu,sf h,←jc,gu h2]
theorem a4g (hT:T F3n=some Z3n) (hd:kb (den T A)) (hinv:u9 (den T A)):u7 (den T A):=by
 intro p i a b hb hal hbl;have hp:=IsP.ge (p:=p);have hp7:=IsP.le (p:=p);have hb0:=Pol.len_pos hb;have e1:=hd p b hbl;have e2:=hd p a hal;have hr:=nu b.ld;have hld:rep b.ld≠0:=fun h0=>Pol.ld_ne hb (im.1 h0)
 have e3:=hinv p (rep b.ld) (by omega) hr.2
 have hin:=A2 p (rep b.ld);have w1:IntKind.i64.wrap (inv p (rep b.ld))=inv p (rep b.ld):=w64 (by omega)
 have hbx:(pad (row b))[b.len-1]? = some (rep b.ld):=by rw [um _ _ (by omega),jc]; rfl
 have hbx':((b.len:Int)-1).toNat=b.len-1:=by omega
 have hbx2:(1:Int)≤(b.len:Int):=by omega
 have hbx3:b.len-1<64:=by omega
 have hz:∀j,cf (pad []) j=0:=fun j=>by rw [zu (by simp),p7 (by simp)]
 have hcanz:Can p (pad []):=fun x hx=>by
  obtain ⟨j,_,rfl⟩:=ct.1 hx;rw [p7 (by simp)]; omega
 have sp:=S5 b hb (a.len+1-b.len) (pad (row a)) (pad []) (by rw [dc]; omega) (by rw [dc]; omega) (zw a) (fun j _=>hz j) (fun j hj=>by
  rw [sf hal,a.lt_len j (by omega),ti]) hcanz
 have hl1:∀(B:List Int) (c:Nat) (x y:List Int),(dv p (inv p (rep b.ld)) B c (x,y)).1.length=x.length∧(dv p (inv p (rep b.ld)) B c (x,y)).2.length=y.length:=by
  intro B c
  induction c with
  | zero=>exact fun x y=>⟨rfl,rfl⟩
  | succ c ih=>
   intro x y;rw [dv];obtain ⟨i1,i2⟩:=ih (oz p (cf x (c+B.length-1)*inv p (rep b.ld)%p) B c B.length 0 x) (y.set c (cf x (c+B.length-1)*inv p (rep b.ld)%p));exact ⟨by rw [i1,ol],by rw [i2,db]⟩
 obtain ⟨g1,g2⟩:=hl1 (row b) (a.len+1-b.len) (pad (row a)) (pad []);rw [dc] at g1 g2;have l1:=a0u (O:=den T A) (b:=pad (row b)) (bl:=b.len) (z:=pad []) (z':=pad []) hin (zw b) (dc _) hb0 (a.len+1-b.len) (pad (row a)) (pad []) (by omega) (dc _) (dc _) (zw a)
 rw [a93 hbl] at l1;generalize dv p (inv p (rep b.ld)) (row b) (a.len+1-b.len) (pad (row a),pad [])=r at *;obtain ⟨s1,s2,s3,s4⟩:=sp;have z0:fc p (pad [])=0:=Pol.ext fun j=>by rw [jw,hz]; rfl
 rw [z0,Gq.zero_mul,Gq.add_zero,pe hal,Gq.add_comm] at s1
 have hrl:(fc p r.1).len<b.len:=by
  have:(fc p r.1).lt (b.len-1):=fun i hi=>by rw [jw,s2 i hi]; rfl
  have:=Pol.len_le this;omega
 obtain ⟨h1,h2⟩:=Pol.div_mod_eq s1.symm hrl;rw [h1,h2,←Mu s3 g1,←Mu s4 g2]
 have lz:∃n:Int,dn (den T A) 0 (.loop Z3n_L1) ⟨[(0,(.d (.int .i64 p))),(4,.ptr 0 []),(5,.ptr 1 []),(6,.ptr 2 []),(7,.ptr 3 []),(8,.ptr 4 []),(9,(.d (.int .i64 ((b.len:Int)-1)))),(10,(.d (.int .i64 (inv p (rep b.ld))))),(11,(.d (.int .i64 ((a.len:Int)-1))))],[.box false (D.arr 64 .leaf (aq .u8 (pad (row a)))),.box false (D.arr 64 .leaf (aq .u8 (pad (row b)))),.box false (D.arr 64 .leaf (aq .u8 (pad []))),.box false (D.arr 64 .leaf (aq .u8 (pad []))),.box false (D.arr 64 .leaf (aq .u8 (pad [])))]⟩ =
  some (.exit 0,⟨[(0,(.d (.int .i64 p))),(4,.ptr 0 []),(5,.ptr 1 []),(6,.ptr 2 []),(7,.ptr 3 []),(8,.ptr 4 []),(9,(.d (.int .i64 ((b.len:Int)-1)))),(10,(.d (.int .i64 (inv p (rep b.ld))))),(11,(.d (.int .i64 n))),(27,(.d (.bool false)))],[.box false (D.arr 64 .leaf (aq .u8 r.1)),.box false (D.arr 64 .leaf (aq .u8 (pad (row b)))),.box false (D.arr 64 .leaf (aq .u8 (pad []))),.box false (D.arr 64 .leaf (aq .u8 (pad []))),.box false (D.arr 64 .leaf (aq .u8 r.2))]⟩):=by
  by_cases hlt:b.len≤a.len
  ·rw [show ((a.len+1-b.len:Nat):Int)+b.len-2=(a.len:Int)-1 by omega] at l1
   exact ⟨_,l1⟩
  ·rw [show a.len+1-b.len=0 by omega] at l1
   have h3:¬ (b.len:Int)-1≤(b.len:Int)-2:=by omega
   have h4:¬ (b.len:Int)-1≤(a.len:Int)-1:=by omega
   have st:=cg (O:=den T A) (np:=0) (c:=Z3n_L1) (s:=⟨[(0,(.d (.int .i64 p))),(4,.ptr 0 []),(5,.ptr 1 []),(6,.ptr 2 []),(7,.ptr 3 []),(8,.ptr 4 []),(9,(.d (.int .i64 ((b.len:Int)-1)))),(10,(.d (.int .i64 (inv p (rep b.ld))))),(11,(.d (.int .i64 (((0:Nat):Int)+b.len-2))))],[.box false (D.arr 64 .leaf (aq .u8 (pad (row a)))),.box false (D.arr 64 .leaf (aq .u8 (pad (row b)))),.box false (D.arr 64 .leaf (aq .u8 (pad []))),.box false (D.arr 64 .leaf (aq .u8 (pad []))),.box false (D.arr 64 .leaf (aq .u8 (pad [])))]⟩) (s1:=⟨[(0,(.d (.int .i64 p))),(4,.ptr 0 []),(5,.ptr 1 []),(6,.ptr 2 []),(7,.ptr 3 []),(8,.ptr 4 []),(9,(.d (.int .i64 ((b.len:Int)-1)))),(10,(.d (.int .i64 (inv p (rep b.ld))))),(11,(.d (.int .i64 (((0:Nat):Int)+b.len-2)))),(27,(.d (.bool false)))],[.box false (D.arr 64 .leaf (aq .u8 (pad (row a)))),.box false (D.arr 64 .leaf (aq .u8 (pad (row b)))),.box false (D.arr 64 .leaf (aq .u8 (pad []))),.box false (D.arr 64 .leaf (aq .u8 (pad []))),.box false (D.arr 64 .leaf (aq .u8 (pad [])))]⟩) (id:=0) (by
    have h3':¬ (b.len:Int)-1≤((0:Nat):Int)+b.len-2:=by omega
    simp -implicitDefEqProofs only [Int.natCast_zero,Int.zero_add] at h3' ⊢;simp -implicitDefEqProofs [Z3n_L1,au,h3'])
   rw [st] at l1;have l2:=b6 l1;injection l2 with _ l3
   injection l3 with _ l4
   injection l4 with l5 l6
   injection l6 with _ l7
   injection l7 with _ l8
   injection l8 with _ l9
   injection l9 with l10 _
   have e5:(D.arr 64 .leaf (aq .u8 (pad (row a))))=(D.arr 64 .leaf (aq .u8 r.1)):=by injection l5
   have e6:(D.arr 64 .leaf (aq .u8 (pad [])))=(D.arr 64 .leaf (aq .u8 r.2)):=by injection l10
   rw [←e5,←e6];exact ⟨(a.len:Int)-1,cg (by simp -implicitDefEqProofs [Z3n_L1,au,h4])⟩
 obtain ⟨n,lz⟩:=lz;refine ch hT rfl ?_;obtain ⟨r1,r2⟩:=r;simp only at lz ⊢;generalize pad (row a)=PA at *;generalize pad (row b)=PB at *;simp -implicitDefEqProofs [Z3n,Z3n_B,e1,e2,e3,w1,hbx,hbx',hbx2,hbx3,lz]
def Ap (O:ap):Prop:=∀(p:Int) [IsP p] (a b:Fp p),b≠0→a.len≤64→b.len≤64 →
 ask O F3x [(D.int .i64 p),(D.arr 64 .leaf (aq .u8 (pad (row a)))),(D.arr 64 .leaf (aq .u8 (pad (row b))))]=some (D.arr 64 .leaf (aq .u8 (pad (row (a%b)))))
theorem af4 (hT:T F3x=some Z3x) (hd:u7 (den T A)):Ap (den T A):=by
 intro p i a b hb h1 h2;have e:=hd p a b hb h1 h2;refine ch hT rfl ?_;simp -implicitDefEqProofs [Z3x,Z3x_B,e]
theorem a7f (f:Nat→Int) (m i:Nat) (l:List Int) (j:Nat):cf (upd f m i l) j=if i≤j∧j<i+m∧j<l.length then f j else cf l j:=by
 unfold cf;rw [ca,ca,Ju]
 split <;> rfl
theorem aaa {O:ap} {p:Int} {a:List Int} {mm z:List Int} {n:Nat} {top:Int} (hal:a.length=64) (hn:n<64):∀(k i:Nat) (cur:List Int),i+k=n→1≤i→cur.length=64 →
 dn O 0 (.loop Z47_L0) ⟨[(0,(.d (.int .i64 p))),(4,.ptr 0 []),(5,.ptr 1 []),(6,.ptr 2 []),(7,(.d (.int .i64 n))),(8,(.d (.int .i64 top))),(9,.ptr 3 []),(10,(.d (.int .i64 i)))],[.box false (D.arr 64 .leaf (aq .u8 a)),.box false (D.arr 64 .leaf (aq .u8 mm)),.box false (D.arr 64 .leaf (aq .u8 z)),.box false (D.arr 64 .leaf (aq .u8 cur))]⟩ =
  some (.exit 0,⟨[(0,(.d (.int .i64 p))),(4,.ptr 0 []),(5,.ptr 1 []),(6,.ptr 2 []),(7,(.d (.int .i64 n))),(8,(.d (.int .i64 top))),(9,.ptr 3 []),(10,(.d (.int .i64 n))),(26,(.d (.bool false)))],[.box false (D.arr 64 .leaf (aq .u8 a)),.box false (D.arr 64 .leaf (aq .u8 mm)),.box false (D.arr 64 .leaf (aq .u8 z)),.box false (D.arr 64 .leaf (aq .u8 (upd (fun j=>cf a (j-1)) k i cur)))]⟩)
 | 0,i,cur,hi,h1,hc=>by
  obtain rfl:i=n:=by omega
  exact cg (by simp -implicitDefEqProofs [Z47_L0,au,upd])
 | k+1,i,cur,hi,h1,hc=>by
  have hlt:i<n:=by omega
  have hi1:i-1<a.length:=by omega
  have hi2:i-1<64:=by omega
  have hi64:i<64:=by omega
  have hic:i<cur.length:=by omega
  have hx:a[i-1]=cf a (i-1):=(gu hi1).symm;have w1:IntKind.i64.wrap ((i:Int)-1)=((i-1:Nat):Int):=(w64 (x:=(i:Int)-1) (by omega)).trans (by omega)
  have w4:IntKind.i64.wrap ((i:Int)+1)=((i+1:Nat):Int):=(w64 (x:=(i:Int)+1) (by omega)).trans (by omega)
  refine bq ?_ (aaa hal hn k (i+1) (cur.set i (cf a (i-1))) (by omega) (by omega) (by simpa using hc))
  simp -implicitDefEqProofs [Z47_L0,au,hlt,hi1,hi2,hi64,hic,hx,w1,w4]
theorem a9e {O:ap} {p q:Int} [IsP p] {b z out:List Int} {n:Nat} {hol:Blk} (hh:hol=.hole) (hb:Can p b) (hbl:b.length=64) (hq:0≤q∧q<p) (hn:n<64) (ho:Can p out):∀(k i:Nat) (cur:List Int),i+k=n→cur.length=64→(∀j,i≤j→cf cur j=cf out j) →
 dn O 0 (.loop Z47_L1) ⟨[(0,(.d (.int .i64 p))),(5,.ptr 1 []),(6,.ptr 2 []),(7,(.d (.int .i64 n))),(9,.ptr 3 []),(11,(.d (.int .i64 q))),(12,(.d (.int .i64 i)))],[hol,.box false (D.arr 64 .leaf (aq .u8 b)),.box false (D.arr 64 .leaf (aq .u8 z)),.box false (D.arr 64 .leaf (aq .u8 cur))]⟩ =
  some (.exit 2,⟨[(0,(.d (.int .i64 p))),(5,.ptr 1 []),(6,.ptr 2 []),(7,(.d (.int .i64 n))),(9,.ptr 3 []),(11,(.d (.int .i64 q))),(12,(.d (.int .i64 n))),(47,(.d (.bool false)))],[hol,.box false (D.arr 64 .leaf (aq .u8 b)),.box false (D.arr 64 .leaf (aq .u8 z)),.box false (D.arr 64 .leaf (aq .u8 (upd (fun j=>(cf out j-q*cf b j)%p) k i cur)))]⟩)
 | 0,i,cur,hi,hc,hs=>by
  subst hh;obtain rfl:i=n:=by omega
  exact cg (by simp -implicitDefEqProofs [Z47_L1,au,upd])
 | k+1,i,cur,hi,hc,hs=>by
  have hp:=IsP.pos (p:=p);have hp7:=IsP.le (p:=p);have hp0:p≠0:=by omega
  have hlt:i<n:=by omega
  have hi64:i<64:=by omega
  have hic:i<cur.length:=by omega
  have hib:i<b.length:=by omega
  have hx:cur[i]=cf out i:=by rw [←gu hic]; exact hs i (bp i)
  have hy:b[i]=cf b i:=(gu hib).symm;have gc:=ho.le hp i;have gb:=hb.le hp i;have gm:=lh (x:=q) (y:=cf b i) (b:=10) (c:=10) (by omega) (by omega) (by omega)
  have w3:IntKind.i64.wrap (cf out i)=cf out i:=w64 (by omega)
  have w5:IntKind.i64.wrap (cf b i)=cf b i:=w64 (by omega)
  have w6:IntKind.i64.wrap (q*cf b i)=q*cf b i:=w64 (by omega)
  have w7:IntKind.i64.wrap (cf out i-q*cf b i)=cf out i-q*cf b i:=w64 (by omega)
  have hin:=Ep (n:=cf out i-q*cf b i) hp;have w9:IntKind.i64.wrap ((cf out i-q*cf b i).tmod p+p)=(cf out i-q*cf b i).tmod p+p:=w64 (by omega)
  have w10:((cf out i-q*cf b i).tmod p+p).tmod p=(cf out i-q*cf b i)%p:=Cl hp;have hlin:0≤(cf out i-q*cf b i)%p∧(cf out i-q*cf b i)%p<p:=⟨fm _ (by omega),eh _ hp⟩
  have w11:IntKind.u8.wrap ((cf out i-q*cf b i)%p)=(cf out i-q*cf b i)%p:=w8 (by omega)
  have w4:IntKind.i64.wrap ((i:Int)+1)=((i+1:Nat):Int):=(w64 (x:=(i:Int)+1) (by omega)).trans (by omega)
  refine bq ?_ (a9e hh hb hbl hq hn ho k (i+1) (cur.set i ((cf out i-q*cf b i)%p)) (by omega) (by simpa using hc) (fun j hj=>by rw [v7,if_neg (by omega)]; exact hs j (by omega)))
  subst hh;simp -implicitDefEqProofs [Z47_L1,au,hlt,hi64,hic,hib,hx,hy,w3,w5,w6,w7,w9,w10,w11,w4,hp0]
def a1j (O:ap):Prop:=∀(p:Int) [IsP p] (a m:Fp p),m≠0→a.len<m.len→m.len≤64 →
 ask O F47 [(D.int .i64 p),(D.arr 64 .leaf (aq .u8 (pad (row a)))),(D.arr 64 .leaf (aq .u8 (pad (row m))))]=some (D.arr 64 .leaf (aq .u8 (pad (row (Pol.X*a%m)))))
theorem ajx (hT:T F47=some Z47) (hd:kb (den T A)) (hinv:u9 (den T A)):a1j (den T A):=by
 intro p i a m hm hal hml;have hp:=IsP.ge (p:=p);have hp7:=IsP.le (p:=p);have e1:=hd p m hml;refine ch hT rfl ?_
 by_cases h1:m.len=1
 ·have ha:a=0:=Pol.len_zero_iff.1 (by omega)
  subst ha;rw [Gq.mul_zero,Pol.zero_mod hm,row_zero];rw [h1] at e1;simp -implicitDefEqProofs [Z47,Z47_B,au,e1]
 ·have hm0:=Pol.len_pos hm
  obtain ⟨n,hn⟩:∃n,m.len=n+2:=⟨m.len-2,by omega⟩
  have e1':ask (den T A) F3m [(D.arr 64 .leaf (aq .u8 (pad (row m))))]=some (D.int .i64 ((n+1:Nat))):=by rw [e1,hn]; congr 2; omega
  have hr:=nu m.ld;have hld:rep m.ld≠0:=fun h0=>Pol.ld_ne hm (im.1 h0)
  have e3:=hinv p (rep m.ld) (by omega) hr.2
  have hin:=A2 p (rep m.ld);have hpa:a.len≤64:=by omega
  have hax:(pad (row a))[n]? = some (rep (a.c n)):=by rw [um _ _ (by omega),jc]
  have hmx:(pad (row m))[n+1]? = some (rep m.ld):=by
   rw [um _ _ (by omega),jc]
   unfold Pol.ld;rw [hn]; rfl
  have ha0:=nu (a.c n);have w0:IntKind.i64.wrap ((n:Int)+1-1)=(n:Int):=(w64 (x:=(n:Int)+1-1) (by omega)).trans (by omega)
  have w0':IntKind.i64.wrap (n:Int)=(n:Int):=w64 (by omega)
  have w1:IntKind.i64.wrap (rep (a.c n))=rep (a.c n):=w64 (by omega)
  have w2:IntKind.i64.wrap (inv p (rep m.ld))=inv p (rep m.ld):=w64 (by omega)
  have gm:=lh (x:=rep (a.c n)) (y:=inv p (rep m.ld)) (b:=10) (c:=10) (by omega) (by omega) (by omega)
  have w3:IntKind.i64.wrap (rep (a.c n)*inv p (rep m.ld))=rep (a.c n)*inv p (rep m.ld):=w64 (by omega)
  have w4:(rep (a.c n)*inv p (rep m.ld)).tmod p=rep (a.c n)*inv p (rep m.ld)%p:=dj (gy ha0.1 hin.1);have hq:0≤rep (a.c n)*inv p (rep m.ld)%p∧rep (a.c n)*inv p (rep m.ld)%p<p:=⟨fm _ (by omega),eh _ (by omega)⟩
  have hqz:zp p (rep (a.c n)*inv p (rep m.ld)%p)=a.c n*Fd.inv m.ld:=by
   rw [A1,Dx,m8,wg _ (Pol.ld_ne hm)]
  generalize rep (a.c n)*inv p (rep m.ld)%p=q at *;have l0:=aaa (O:=den T A) (p:=p) (a:=pad (row a)) (mm:=pad (row m)) (z:=pad []) (n:=n+1) (top:=rep (a.c n)) (dc _) (by omega) n 1 (pad []) (by omega) (bp 1) (dc _)
  have hz:∀j,cf (pad []) j=0:=fun j=>by rw [zu (by simp),p7 (by simp)]
  have c0:∀j,cf (upd (fun j=>cf (pad (row a)) (j-1)) n 1 (pad [])) j=if 1≤j∧j<n+1 then rep (a.c (j-1)) else 0:=fun j=>by
   rw [a7f,hz,dc]
   by_cases h:1≤j∧j<n+1
   ·rw [if_pos (by omega),if_pos h,sf hpa]
   ·rw [if_neg (by omega),if_neg h]
  have hlen0:(upd (fun j=>cf (pad (row a)) (j-1)) n 1 (pad [])).length=64:=by rw [zh,dc]
  generalize upd (fun j=>cf (pad (row a)) (j-1)) n 1 (pad [])=out at *
  have hcan0:Can p out:=Can.of_cf fun j _=>by rw [c0]; split; exact nu _; omega
  have l1:=a9e (O:=den T A) (p:=p) (q:=q) (b:=pad (row m)) (z:=pad []) (out:=out) (n:=n+1) rfl (zw m) (dc _) hq (by omega) hcan0 (n+1) 0 out (by omega) hlen0 (fun _ _=>rfl)
  have hres:upd (fun j=>(cf out j-q*cf (pad (row m)) j)%p) (n+1) 0 out=pad (row (Pol.X*a%m)):=by
   have hlenR:(upd (fun j=>(cf out j-q*cf (pad (row m)) j)%p) (n+1) 0 out).length=64:=by rw [zh,hlen0]
   have hcR:∀j,cf (upd (fun j=>(cf out j-q*cf (pad (row m)) j)%p) (n+1) 0 out) j=if j<n+1 then (cf out j-q*rep (m.c j))%p else 0:=fun j=>by
    rw [a7f,hlen0]
    by_cases h:j<n+1
    ·rw [if_pos (by omega),if_pos h,sf hml]
    ·rw [if_neg (by omega),if_neg h,c0,if_neg (by omega)]
   have hcanR:Can p (upd (fun j=>(cf out j-q*cf (pad (row m)) j)%p) (n+1) 0 out):=Can.of_cf fun j _=>by
    rw [hcR]; split
    ·exact ⟨fm _ (by omega),eh _ (by omega)⟩
    ·omega
   rw [Mu hcanR hlenR]
   congr 2
   symm
   refine (Pol.div_mod_eq (q:=Pol.C (zp p q)) ?_ ?_).2
   ·refine Pol.ext fun j=>?_
    rw [Pol.c_add,Pol.c_Cmul,Pol.c_Xmul,jw,hcR];rcases kc j (n+1) with h | h | h
    ·rw [if_pos h,A1,a9m,Dx,m8,c0]
     by_cases hj:j=0
     ·subst hj
      rw [if_pos rfl,if_neg (by omega),Cs]
      exact bo [zp p q,m.c 0] rfl
     ·rw [if_neg hj,if_pos (by omega),m8]
      exact bo [zp p q,m.c j,a.c (j-1)] rfl
    ·subst h
     rw [if_neg (by omega),if_neg (by omega),Cs,Gq.add_zero,hqz]
     have e:m.c (n+1)=m.ld:=by unfold Pol.ld; rw [hn]; rfl
     rw [e,Gq.mul_assoc,Gq.mul_comm (Fd.inv m.ld),Fd.mul_inv _ (Pol.ld_ne hm),Gq.mul_one]; rfl
    ·rw [if_neg (by omega),if_neg (by omega),Cs,m.lt_len j (by omega),Gq.mul_zero,Gq.add_zero,a.lt_len (j-1) (by omega)]
   ·have:(fc p (upd (fun j=>(cf out j-q*cf (pad (row m)) j)%p) (n+1) 0 out)).lt (n+1):=fun j hj=>by
     rw [jw,hcR,if_neg (by omega)]; rfl
    have:=Pol.len_le this;omega
  rw [hres] at l1;have e0:((0:Nat):Int)=0:=rfl;have e11:((1:Nat):Int)=1:=rfl;have en:((n+1:Nat):Int)=(n:Int)+1:=by omega
  rw [e0,en] at l1;rw [e11,en] at l0;rw [en] at e1';have hp0:p≠0:=by omega
  have hn64:n<64:=by omega
  have hn65:n+1<64:=by omega
  have t1:¬ (n:Int)+1=0:=by omega
  have t2:(0:Int)≤(n:Int)+1:=by omega
  have t3:((n:Int)+1).toNat=n+1:=by omega
  generalize pad (row (Pol.X*a%m))=R at *;generalize pad (row a)=PA at *;generalize pad (row m)=PM at *;simp -implicitDefEqProofs [Z47,Z47_B,au,e1',e3,hax,hmx,w0',w1,w2,w3,w4,l0,l1,hn64,hn65,t1,t2,t3,hp0]
def tz {p:Int} (b:Fp p) (i:Nat):Fp p:=⟨fun j=>b.c (i+j),b.len,fun j hj=>b.lt_len _ (by omega)⟩
theorem Wd {p:Int} (b:Fp p):tz b 0=b:=Pol.ext fun j=>by show b.c (0+j)=b.c j; rw [br]
theorem a30 {p:Int} (b:Fp p):tz b b.len=0:=Pol.ext fun j=>b.lt_len _ (by omega)
theorem X4 {p:Int} (b:Fp p) (i:Nat):tz b i=Pol.X*tz b (i+1)+Pol.C (b.c i):=Pol.ext fun j=>by
 rw [Pol.c_add,Pol.c_Xmul,Pol.c_C];show b.c (i+j)=(if j=0 then 0 else b.c (i+1+(j-1)))+if j=0 then b.c i else 0
 by_cases h:j=0
 ·subst h; rw [if_pos rfl,if_pos rfl,Gq.zero_add]; rfl
 ·rw [if_neg h,if_neg h,Gq.add_zero,show i+1+(j-1)=i+j by omega]
theorem Qm {O:ap} (hu:a1j O) (ha:lk O) (hmo:Ap O) {p:Int} [IsP p] {a b m:Fp p} {z:List Int} (hm:m≠0) (hml:m.len≤64) (hal:a.len≤64) (hbl:b.len≤64):∀(n:Nat),n≤b.len →
 dn O 0 (.loop Z3z_L0) ⟨[(0,(.d (.int .i64 p))),(5,.ptr 0 []),(6,.ptr 1 []),(7,.ptr 2 []),(8,.ptr 3 []),(9,.ptr 4 []),(10,(.d (.int .i64 ((n:Int)-1))))],[.box false (D.arr 64 .leaf (aq .u8 (pad (row a)))),.box false (D.arr 64 .leaf (aq .u8 (pad (row b)))),.box false (D.arr 64 .leaf (aq .u8 (pad (row m)))),.box false (D.arr 64 .leaf (aq .u8 z)),.box false (D.arr 64 .leaf (aq .u8 (pad (row (a*tz b n%m)))))]⟩ =
  some (.exit 0,⟨[(0,(.d (.int .i64 p))),(5,.ptr 0 []),(6,.ptr 1 []),(7,.ptr 2 []),(8,.ptr 3 []),(9,.ptr 4 []),(10,(.d (.int .i64 (-1)))),(15,(.d (.bool false)))],[.box false (D.arr 64 .leaf (aq .u8 (pad (row a)))),.box false (D.arr 64 .leaf (aq .u8 (pad (row b)))),.box false (D.arr 64 .leaf (aq .u8 (pad (row m)))),.box false (D.arr 64 .leaf (aq .u8 z)),.box false (D.arr 64 .leaf (aq .u8 (pad (row (a*b%m)))))]⟩)
 | 0,_=>by
  rw [Wd];exact cg (by simp -implicitDefEqProofs [Z3z_L0,au])
 | n+1,hn=>by
  have hp:=IsP.pos (p:=p);have hp7:=IsP.le (p:=p);have hlr:=Pol.len_mod (a*tz b (n+1)) hm;have hr:=nu (b.c n);have e1:=hu p (a*tz b (n+1)%m) m hm hlr hml;have hl2:=Pol.len_mod (Pol.X*(a*tz b (n+1)%m)) hm;have e2:=ha p (rep (b.c n)) (Pol.X*(a*tz b (n+1)%m)%m) a (by omega) (by omega) (by omega) hal
  rw [m8] at e2;have hl3:=Pol.len_add_le (a:=Pol.X*(a*tz b (n+1)%m)%m) (b:=Pol.C (b.c n)*a) (n:=64) (by omega) (ot (Pol.len_le (Pol.lt_Cmul _ a.lt_len)) hal)
  have e3:=hmo p (Pol.X*(a*tz b (n+1)%m)%m+Pol.C (b.c n)*a) m hm hl3 hml
  have e4:(Pol.X*(a*tz b (n+1)%m)%m+Pol.C (b.c n)*a)%m=a*tz b n%m:=by
   rw [X4 b n,Pol.mod_eq_iff hm,Quo.mk_add,Pol.mk_mod,Quo.mk_mul,Pol.mk_mod,←Quo.mk_mul,←Quo.mk_add]
   congr 1
   exact bo [Pol.X,a,tz b (n+1),Pol.C (b.c n)] rfl
  rw [e4] at e3;have t0:(((n+1:Nat):Int)-1)=(n:Int):=by omega
  rw [t0];have hn64:n<64:=by omega
  have hx:(pad (row b))[n]? = some (rep (b.c n)):=by rw [um _ _ hn64,jc]
  have w1:IntKind.i64.wrap (rep (b.c n))=rep (b.c n):=w64 (by omega)
  have w2:IntKind.i64.wrap ((n:Int)-1)=(n:Int)-1:=w64 (by omega)
  refine bq ?_ (Qm hu ha hmo hm hml hal hbl n (by omega))
  generalize pad (row (a*tz b n%m))=R at *;generalize pad (row (a*tz b (n+1)%m))=R1 at *;generalize pad (row (Pol.X*(a*tz b (n+1)%m)%m+Pol.C (b.c n)*a))=R2 at *;generalize pad (row (Pol.X*(a*tz b (n+1)%m)%m))=R3 at *;generalize pad (row a)=PA at *;generalize pad (row b)=PB at *;generalize pad (row m)=PM at *;simp -implicitDefEqProofs [Z3z_L0,au,e1,e2,e3,hn64,hx,w1,w2]
def lf (O:ap):Prop:=∀(p:Int) [IsP p] (a b m:Fp p),m≠0→m.len≤64→a.len≤64→b.len≤64 →
 ask O F3z [(D.int .i64 p),(D.arr 64 .leaf (aq .u8 (pad (row a)))),(D.arr 64 .leaf (aq .u8 (pad (row b)))),(D.arr 64 .leaf (aq .u8 (pad (row m))))]=some (D.arr 64 .leaf (aq .u8 (pad (row (a*b%m)))))
theorem a4w (hT:T F3z=some Z3z) (hd:kb (den T A)) (hu:a1j (den T A)) (ha:lk (den T A)) (hmo:Ap (den T A)):lf (den T A):=by
 intro p i a b m hm hml hal hbl;have e1:=hd p b hbl;have e2:=Qm (O:=den T A) (z:=pad []) hu ha hmo hm hml hal hbl b.len (bp _);rw [a30,Gq.mul_zero,Pol.zero_mod hm,row_zero] at e2;refine ch hT rfl ?_;generalize pad (row (a*b%m))=R at *;generalize pad (row a)=PA at *;generalize pad (row b)=PB at *;generalize pad (row m)=PM at *;simp -implicitDefEqProofs [Z3z,Z3z_B,e1,e2]
theorem aew {O:ap} (hmm:lf O) {p:Int} [IsP p] {m:Fp p} {z:List Int} {hol:Blk} (hh:hol=.hole) (hm:m≠0) (hml:m.len≤64):∀(n:Nat) (k:Int) (out base:Fp p),0≤k→k.toNat<2^n→k<4611686018427387904→out.len<m.len→base.len<m.len→∃base':List Int,
 dn O 0 (.loop Z43_L0) ⟨[(0,(.d (.int .i64 p))),(2,(.d (.int .i64 k))),(7,.ptr 1 []),(8,.ptr 2 []),(9,.ptr 3 []),(10,.ptr 4 [])],[hol,.box false (D.arr 64 .leaf (aq .u8 (pad (row m)))),.box false (D.arr 64 .leaf (aq .u8 z)),.box false (D.arr 64 .leaf (aq .u8 (pad (row out)))),.box false (D.arr 64 .leaf (aq .u8 (pad (row base))))]⟩ =
  some (.exit 0,⟨[(0,(.d (.int .i64 p))),(2,(.d (.int .i64 0))),(7,.ptr 1 []),(8,.ptr 2 []),(9,.ptr 3 []),(10,.ptr 4 []),(20,(.d (.bool false)))],[hol,.box false (D.arr 64 .leaf (aq .u8 (pad (row m)))),.box false (D.arr 64 .leaf (aq .u8 z)),.box false (D.arr 64 .leaf (aq .u8 (pad (row (out*pw base k.toNat%m))))),.box false (D.arr 64 .leaf (aq .u8 base'))]⟩):=by
 intro n
 induction n with
 | zero=>
  intro k out base hk hn _ ho hb;obtain rfl:k=0:=by simp at hn; omega
  refine ⟨pad (row base),?_⟩
  have e:out*pw base (0:Int).toNat%m=out:=by
   show out*1%m=out;rw [Gq.mul_one,Pol.mod_small ho]
  rw [e];subst hh;exact cg (by simp -implicitDefEqProofs [Z43_L0,au])
 | succ n ih=>
  intro k out base hk hn hkm ho hb
  by_cases h0:k=0
  ·subst h0
   refine ⟨pad (row base),?_⟩
   have e:out*pw base (0:Int).toNat%m=out:=by
    show out*1%m=out;rw [Gq.mul_one,Pol.mod_small ho]
   rw [e];subst hh;exact cg (by simp -implicitDefEqProofs [Z43_L0,au])
  ·have hkp:0<k:=by omega
   have t1:=hmm p out base m hm hml (by omega) (by omega)
   have t2:=hmm p base base m hm hml (by omega) (by omega)
   have s:=Pol.bin_step (out:=out) (base:=base) hm k.toNat (by omega)
   have hdiv:(k/2).toNat=k.toNat/2:=by omega
   obtain ⟨b',e⟩:=ih (k/2) (if k.toNat%2=1 then out*base%m else out) (base*base%m) (by omega) (by rw [rg] at hn; omega) (by omega) (by split; exact Pol.len_mod _ hm; exact ho) (Pol.len_mod _ hm)
   rw [hdiv,s] at e;refine ⟨b',bq ?_ e⟩;subst hh;have w1:IntKind.i64.wrap (k.tdiv 2)=k/2:=by rw [Int.tdiv_eq_ediv_of_nonneg hk,w64 (by omega)]
   have w2:k.tmod 2=k%2:=dj hk
   by_cases hodd:k%2=1
   ·rw [if_pos (show k.toNat%2=1 by omega)]
    generalize pad (row (out*base%m))=R1 at *;generalize pad (row (base*base%m))=R2 at *;generalize pad (row out)=R3 at *;generalize pad (row base)=R4 at *;generalize pad (row m)=R5 at *;simp -implicitDefEqProofs [Z43_L0,au,hkp,t1,t2,w1,w2,hodd]
   ·rw [if_neg (show ¬ k.toNat%2=1 by omega)]
    generalize pad (row (base*base%m))=R2 at *;generalize pad (row out)=R3 at *;generalize pad (row base)=R4 at *;generalize pad (row m)=R5 at *;simp -implicitDefEqProofs [Z43_L0,au,hkp,t2,w1,w2,hodd]
def tc (O:ap):Prop:=∀(p:Int) [IsP p] (a:Fp p) (k:Int) (m:Fp p),m≠0→a.len≤64→m.len≤64→0≤k→k<4611686018427387904 →
 ask O F43 [(D.int .i64 p),(D.arr 64 .leaf (aq .u8 (pad (row a)))),(D.int .i64 k),(D.arr 64 .leaf (aq .u8 (pad (row m))))]=some (D.arr 64 .leaf (aq .u8 (pad (row (pw a k.toNat%m)))))
theorem a3w (hT:T F43=some Z43) (h1:A4 (den T A)) (hmo:Ap (den T A)) (hmm:lf (den T A)):tc (den T A):=by
 intro p i a k m hm hal hml hk hkm;have e1:=h1 p;have e2:=hmo p 1 m hm (by rw [Pol.len_one]; omega) hml
 have e3:=hmo p a m hm hal hml;obtain ⟨b',e⟩:=aew (O:=den T A) hmm (z:=pad []) (hol:=.hole) rfl hm hml 62 k (1%m) (a%m) hk (by omega) hkm (Pol.len_mod _ hm) (Pol.len_mod _ hm)
 have e4:1%m*pw (a%m) k.toNat%m=pw a k.toNat%m:=by
  rw [Pol.mul_mod_left _ _ hm,Gq.one_mul,Pol.pow_mod _ hm]
 rw [e4] at e;refine ch hT rfl ?_;generalize pad (row (pw a k.toNat%m))=R at *;generalize pad (row (1%m))=R1 at *;generalize pad (row (a%m))=R2 at *;generalize pad (row (1:Fp p))=R3 at *;generalize pad (row a)=PA at *;generalize pad (row m)=PM at *;simp -implicitDefEqProofs [Z43,Z43_B,e1,e2,e3,e]
end Pe
namespace Pe
open Go Gq
section
variable {p:Int} [IsP p]
noncomputable def frW (m:Fp p) (k:Nat):Fp p:=pw Pol.X (p.toNat^k)%m-Pol.X
theorem a5a {m q:Fp p} (_hm:m≠0) (hq:Dv q m) (k:Nat):Dv q (frW m k)↔Dv q (frT p k):=by
 have h1:frT p k=frW m k+pw Pol.X (p.toNat^k)/m*m:=by
  have h:=Pol.div_mod (pw Pol.X (p.toNat^k)) m;show pw Pol.X (p.toNat^k)-Pol.X=pw Pol.X (p.toNat^k)%m-Pol.X+pw Pol.X (p.toNat^k)/m*m;generalize pw Pol.X (p.toNat^k)%m=R at *;generalize pw Pol.X (p.toNat^k)/m=Q at *;rw [h];exact bo [Q,m,R,Pol.X] rfl
 have h2:Dv q (pw Pol.X (p.toNat^k)/m*m):=hq.mul_left _;constructor
 ·intro h; rw [h1]; exact h.add h2
 ·intro h
  have:=h.sub h2;rw [h1] at this;have e:frW m k+pw Pol.X (p.toNat^k)/m*m-pw Pol.X (p.toNat^k)/m*m=frW m k:=bo [frW m k,pw Pol.X (p.toNat^k)/m,m] rfl
  rwa [e] at this
theorem a6v {m:Fp p} (h2:2≤m.len) (h13:m.len≤13):(∀k,1≤k→2*k≤m.len-1→(Pol.gcd m (frW m k)).len=1)↔Irr m:=by
 have hm:m≠0:=fun h=>by rw [h,Pol.len_zero] at h2; omega
 have small:∀d,d≤12→p^d<1000000000000:=fun d hd=>by
  have h1:=qp (p:=p) (by have:=IsP.pos (p:=p); omega) hd
  have h7:=ul (p:=p) (n:=12) (by omega)
  omega
 constructor
 ·intro h
  refine Ax (n:=(m.len-1)/2+1) (fun q hq hd=>?_) h2 (by omega)
  rcases f7 ((m.len-1)/2+1) q.len with g | g
  ·omega
  ·exfalso
   have hl:=hq.len;have h1:=h (q.len-1) (by omega) (by omega)
   have h3:Dv q (frT p (q.len-1)):=a0m hq (by omega) (small _ (by omega))
   have h4:=Pol.dv_gcd (.inl hm) hd ((a5a hm hd _).2 h3);have h5:=h4.len (fun h0=>by rw [h0,Pol.len_zero] at h1; omega)
   omega
 ·intro hi k hk hk2
  by_cases hd:Dv m (frW m k)
  ·have h3:=(a5a hm (Dv.refl m) k).1 hd
   have:=L0 hi (d:=m.len-1) (by omega) (small _ (by omega)) hk h3
   omega
  ·obtain ⟨u,v,e⟩:=hi.coprime hd
   have h1:=Pol.gcd_dv_left (a:=m) (b:=frW m k) (.inl hm);have h3:=Pol.gcd_dv_right (a:=m) (b:=frW m k) (.inl hm)
   have h4:Dv (Pol.gcd m (frW m k)) 1:=by
    rw [←e];exact (h1.mul_left u).add (h3.mul_left v)
   have h5:=h4.len Pol.one_ne;rw [Pol.len_one] at h5;have h6:=Pol.len_pos (Pol.gcd_monic (a:=m) (b:=frW m k) (.inl hm)).2;omega
theorem ab5 {m:Fp p} (hi:Irr m) (hm:Monic m):IsFac m [(m,1)] where
 ok:=⟨fun x hx=>by simp only [cj] at hx; subst hx; exact ⟨hi,hm,bp 1⟩,gd _ _⟩
 sorted:=gd _ _
 eq:=by
  rw [hm.1,Pol.C_one,Gq.one_mul];show m=pw m 1*1;rw [Ee,Gq.mul_one]
theorem aae {m:Fp p} {L:o9 p} (hm:Monic m) (h:IsFac m L):(∃q,L=[(q,1)])↔Irr m:=by
 constructor
 ·rintro ⟨q,rfl⟩
  have e:=h.eq;rw [hm.1,Pol.C_one,Gq.one_mul] at e
  have e2:nw [(q,1)]=q:=by
   show pw q 1*1=q;rw [Ee,Gq.mul_one]
  rw [e2] at e;rw [e];exact (h.ok.irr (q,1) (by simp)).1
 ·intro hi
  exact ⟨m,h.unique hm.2 (ab5 hi hm)⟩
end
end Pe
namespace Pe
open Go Gq
variable {T:Nat→Option Fn} {A:ap}
section
variable {p:Int}
def Iz (a:Fp p) (i:Nat):Fp p:=⟨fun n=>if n<i then a.c n else 0,i,fun n hn=>if_neg (by omega)⟩
theorem Ra (a:Fp p) (i n:Nat):(Iz a i).c n=if n<i then a.c n else 0:=rfl
theorem Qg (a:Fp p):Iz a 0=0:=Pol.ext fun n=>by rw [Ra,if_neg (by omega)]; rfl
theorem Uo (a:Fp p):Iz a a.len=a:=Pol.ext fun n=>by
 rw [Ra]
 split
 ·rfl
 ·rename_i h; exact (a.lt_len n (by omega)).symm
end
section
variable {p:Int} [IsP p]
theorem a6c (k:Zp p) (n i:Nat):(Pol.mo k n).c i=if i=n then k else 0:=rfl
theorem Gw (a:Fp p) (i:Nat):Iz a (i+1)=Iz a i+Pol.mo (a.c i) i:=Pol.ext fun n=>by
 rw [Pol.c_add,Ra,Ra,a6c]
 by_cases h:n=i
 ·subst h; rw [if_pos (by omega),if_neg (by omega),if_pos rfl,Gq.zero_add]
 ·rw [if_neg h,Gq.add_zero]
  by_cases h2:n<i
  ·rw [if_pos (by omega),if_pos h2]
  ·rw [if_neg (by omega),if_neg h2]
theorem acd (n:Nat):(Pol.mo 0 n:Fp p)=0:=Pol.ext fun i=>by rw [a6c]; split <;> rfl
theorem ajo (k l:Zp p) (n m:Nat):(Pol.mo k n*Pol.mo l m:Fp p)=Pol.mo (k*l) (n+m):=Pol.ext fun i=>by
 rw [Vl,a6c,a6c]
 by_cases h:n≤i
 ·rw [if_pos h]
  by_cases h2:i-n=m
  ·rw [if_pos h2,if_pos (by omega)]
  ·rw [if_neg h2,if_neg (by omega),Gq.mul_zero]
 ·rw [if_neg h,if_neg (by omega)]
theorem O6 {cur:List Int} {k:Nat} (h:k<cur.length) (t:Int):fc p (cur.set k ((cf cur k+t)%p))=fc p cur+Pol.mo (zp p t) k:=Pol.ext fun j=>by
 rw [Pol.c_add,jw,jw,v7,a6c]
 by_cases h1:j=k
 ·subst h1
  rw [if_pos ⟨rfl,h⟩,if_pos rfl,A1,Xz]
 ·rw [if_neg (by omega),if_neg h1,Gq.add_zero]
end
theorem a7u {O:ap} {p:Int} [IsP p] {a b:Fp p} {z:List Int} {n i:Nat} (hn:n<64) (hi:i<a.len) (hal:a.len≤64) (hbl:b.len≤64) (hab:a.len+b.len≤65) (hb1:0<b.len) (hai:a.c i≠0) {P:Fp p} {vn:V} (hvn:vn.refs=[]):∀(m j:Nat) (cur:List Int),j+m=b.len→cur.length=64→Can p cur→fc p cur=P+Pol.mo (a.c i) i*Iz b j→∃cur':List Int,cur'.length=64∧Can p cur'∧fc p cur'=P+Pol.mo (a.c i) i*b ∧
 dn O 0 (.loop Z46_L0) ⟨[(0,(.d (.int .i64 p))),(4,.ptr 0 []),(5,.ptr 1 []),(6,.ptr 2 []),(8,vn),(9,(.d (.int .i64 (((b.len-1:Nat):Int))))),(10,.ptr 3 []),(11,(.d (.int .i64 i))),(12,(.d (.int .i64 j)))],[.box false (D.arr 64 .leaf (aq .u8 (pad (row a)))),.box false (D.arr 64 .leaf (aq .u8 (pad (row b)))),.box false (D.arr 64 .leaf (aq .u8 z)),.box false (D.arr 64 .leaf (aq .u8 cur))]⟩ =
  some (.exit 2,⟨[(0,(.d (.int .i64 p))),(4,.ptr 0 []),(5,.ptr 1 []),(6,.ptr 2 []),(8,vn),(9,(.d (.int .i64 (((b.len-1:Nat):Int))))),(10,.ptr 3 []),(11,(.d (.int .i64 i))),(12,(.d (.int .i64 b.len))),(43,(.d (.bool false)))],[.box false (D.arr 64 .leaf (aq .u8 (pad (row a)))),.box false (D.arr 64 .leaf (aq .u8 (pad (row b)))),.box false (D.arr 64 .leaf (aq .u8 z)),.box false (D.arr 64 .leaf (aq .u8 cur'))]⟩)
 | 0,j,cur,hj,hc,hcan,he=>by
  obtain rfl:j=b.len:=by omega
  rw [Uo] at he;have hlt:¬ (b.len:Int)≤((b.len-1:Nat):Int):=by omega
  refine ⟨cur,hc,hcan,he,cg ?_⟩;generalize ((b.len-1:Nat):Int)=m1 at *;generalize pad (row a)=PA at *;generalize pad (row b)=PB at *;simp -implicitDefEqProofs [Z46_L0,au,hlt,hvn]
 | m+1,j,cur,hj,hc,hcan,he=>by
  have hp:=IsP.pos (p:=p);have hp7:=IsP.le (p:=p);have hp0:p≠0:=by omega
  have hlt:(j:Int)≤((b.len-1:Nat):Int):=by omega
  have hi64:i<64:=by omega
  have hj64:j<64:=by omega
  have hij:i+j<64:=by omega
  have hs0:(0:Int)≤(i:Int)+j:=by omega
  have hs1:((i:Int)+j).toNat=i+j:=by omega
  have hx:(pad (row a))[i]? = some (rep (a.c i)):=by rw [um _ _ hi64,jc]
  have hy:(pad (row b))[j]? = some (rep (b.c j)):=by rw [um _ _ hj64,jc]
  have hx0:rep (a.c i)≠0:=fun h=>hai (im.1 h)
  have hr1:=nu (a.c i);have hr2:=nu (b.c j);have hkc:i+j<cur.length:=by omega
  have hw:cur[i+j]=cf cur (i+j):=(gu hkc).symm;have gc:=hcan.le hp (i+j);have gm:=lh (x:=rep (a.c i)) (y:=rep (b.c j)) (b:=10) (c:=10) (by omega) (by omega) (by omega)
  have gm0:=gy hr1.1 hr2.1;have w0:IntKind.i64.wrap ((i:Int)+j)=((i+j:Nat):Int):=(w64 (x:=(i:Int)+j) (by omega)).trans (by omega)
  have w1:IntKind.i64.wrap (rep (a.c i))=rep (a.c i):=w64 (by omega)
  have w2:IntKind.i64.wrap (rep (b.c j))=rep (b.c j):=w64 (by omega)
  have w3:IntKind.i64.wrap (cf cur (i+j))=cf cur (i+j):=w64 (by omega)
  have w4:IntKind.i64.wrap (rep (a.c i)*rep (b.c j))=rep (a.c i)*rep (b.c j):=w64 (by omega)
  have w5:IntKind.i64.wrap (cf cur (i+j)+rep (a.c i)*rep (b.c j))=cf cur (i+j)+rep (a.c i)*rep (b.c j):=w64 (by omega)
  have w6:(cf cur (i+j)+rep (a.c i)*rep (b.c j)).tmod p=(cf cur (i+j)+rep (a.c i)*rep (b.c j))%p:=dj (by omega)
  have hin:=fm (cf cur (i+j)+rep (a.c i)*rep (b.c j)) hp0;have hin2:=eh (cf cur (i+j)+rep (a.c i)*rep (b.c j)) hp;have w7:IntKind.u8.wrap ((cf cur (i+j)+rep (a.c i)*rep (b.c j))%p)=(cf cur (i+j)+rep (a.c i)*rep (b.c j))%p:=w8 (by omega)
  have w8':IntKind.i64.wrap ((j:Int)+1)=((j+1:Nat):Int):=(w64 (x:=(j:Int)+1) (by omega)).trans (by omega)
  have hnew:fc p (cur.set (i+j) ((cf cur (i+j)+rep (a.c i)*rep (b.c j))%p))=P+Pol.mo (a.c i) i*Iz b (j+1):=by
   rw [O6 hkc,he,Dx,m8,m8,Gw,Gq.mul_add,ajo,Gq.add_assoc]
  have hcan':Can p (cur.set (i+j) ((cf cur (i+j)+rep (a.c i)*rep (b.c j))%p)):=fun x hx=>by
   rcases ef hx with h | rfl
   ·exact hcan x h
   ·exact ⟨hin,hin2⟩
  obtain ⟨cur',g1,g2,g3,g4⟩:=a7u (O:=O) (z:=z) hn hi hal hbl hab hb1 hai hvn m (j+1) (cur.set (i+j) ((cf cur (i+j)+rep (a.c i)*rep (b.c j))%p)) (by omega) (by rw [db]; exact hc) hcan' hnew
  have hs:aq .u8 (cur.set (i+j) ((cf cur (i+j)+rep (a.c i)*rep (b.c j))%p))=(aq .u8 cur).set (i+j) (D.int .u8 ((cf cur (i+j)+rep (a.c i)*rep (b.c j))%p)):=by unfold aq; rw [mn]
  rw [hs] at g4;refine ⟨cur',g1,g2,g3,bq ?_ g4⟩;generalize (cf cur (i+j)+rep (a.c i)*rep (b.c j))%p=W at *;generalize ((b.len-1:Nat):Int)=m1 at *;generalize pad (row a)=PA at *;generalize pad (row b)=PB at *;simp -implicitDefEqProofs [Z46_L0,au,hlt,hi64,hj64,hij,hs0,hs1,hx,hy,hx0,hc,hw,w0,w1,w2,w3,w4,w5,w6,w7,w8',hp0,hvn]
theorem Yz {O:ap} {p:Int} [IsP p] {a b:Fp p} {z:List Int} (hal:a.len≤64) (hbl:b.len≤64) (hab:a.len+b.len≤65) (ha1:0<a.len) (hb1:0<b.len):∀(m i:Nat) (cur:List Int),i+m=a.len→cur.length=64→Can p cur→fc p cur=Iz a i*b→∃cur':List Int,cur'.length=64∧Can p cur'∧fc p cur'=a*b ∧
 dn O 0 (.loop Z46_L1) ⟨[(0,(.d (.int .i64 p))),(4,.ptr 0 []),(5,.ptr 1 []),(6,.ptr 2 []),(8,(.d (.int .i64 (((a.len-1:Nat):Int))))),(9,(.d (.int .i64 (((b.len-1:Nat):Int))))),(10,.ptr 3 []),(11,(.d (.int .i64 i)))],[.box false (D.arr 64 .leaf (aq .u8 (pad (row a)))),.box false (D.arr 64 .leaf (aq .u8 (pad (row b)))),.box false (D.arr 64 .leaf (aq .u8 z)),.box false (D.arr 64 .leaf (aq .u8 cur))]⟩ =
  some (.exit 0,⟨[(0,(.d (.int .i64 p))),(4,.ptr 0 []),(5,.ptr 1 []),(6,.ptr 2 []),(8,(.d (.int .i64 (((a.len-1:Nat):Int))))),(9,(.d (.int .i64 (((b.len-1:Nat):Int))))),(10,.ptr 3 []),(11,(.d (.int .i64 a.len))),(32,(.d (.bool false)))],[.box false (D.arr 64 .leaf (aq .u8 (pad (row a)))),.box false (D.arr 64 .leaf (aq .u8 (pad (row b)))),.box false (D.arr 64 .leaf (aq .u8 z)),.box false (D.arr 64 .leaf (aq .u8 cur'))]⟩)
 | 0,i,cur,hi,hc,hcan,he=>by
  obtain rfl:i=a.len:=by omega
  rw [Uo] at he;have hlt:¬ (a.len:Int)≤((a.len-1:Nat):Int):=by omega
  refine ⟨cur,hc,hcan,he,cg ?_⟩;generalize ((b.len-1:Nat):Int)=m1 at *;generalize ((a.len-1:Nat):Int)=n1 at *;generalize pad (row a)=PA at *;generalize pad (row b)=PB at *;simp -implicitDefEqProofs [Z46_L1,au,hlt]
 | m+1,i,cur,hi,hc,hcan,he=>by
  have hlt:(i:Int)≤((a.len-1:Nat):Int):=by omega
  have hi64:i<64:=by omega
  have w8':IntKind.i64.wrap ((i:Int)+1)=((i+1:Nat):Int):=(w64 (x:=(i:Int)+1) (by omega)).trans (by omega)
  have hx:(pad (row a))[i]? = some (rep (a.c i)):=by rw [um _ _ hi64,jc]
  by_cases hai:a.c i=0
  ·have hr:rep (a.c i)=0:=im.2 hai
   have he':fc p cur=Iz a (i+1)*b:=by rw [Gw,hai,acd,Gq.add_zero]; exact he
   obtain ⟨cur',g1,g2,g3,g4⟩:=Yz (O:=O) (z:=z) hal hbl hab ha1 hb1 m (i+1) cur (by omega) hc hcan he'
   rw [hr] at hx
   have hin:dn O 0 (.loop Z46_L0) ⟨[(0,(.d (.int .i64 p))),(4,.ptr 0 []),(5,.ptr 1 []),(6,.ptr 2 []),(8,(.d (.int .i64 (((a.len-1:Nat):Int))))),(9,(.d (.int .i64 (((b.len-1:Nat):Int))))),(10,.ptr 3 []),(11,(.d (.int .i64 i))),(12,(.d (.int .i64 0)))],[.box false (D.arr 64 .leaf (aq .u8 (pad (row a)))),.box false (D.arr 64 .leaf (aq .u8 (pad (row b)))),.box false (D.arr 64 .leaf (aq .u8 z)),.box false (D.arr 64 .leaf (aq .u8 cur))]⟩ =
    some (.exit 2,⟨[(0,(.d (.int .i64 p))),(4,.ptr 0 []),(5,.ptr 1 []),(6,.ptr 2 []),(8,(.d (.int .i64 (((a.len-1:Nat):Int))))),(9,(.d (.int .i64 (((b.len-1:Nat):Int))))),(10,.ptr 3 []),(11,(.d (.int .i64 i))),(12,(.d (.int .i64 0))),(43,(.d (.bool false)))],[.box false (D.arr 64 .leaf (aq .u8 (pad (row a)))),.box false (D.arr 64 .leaf (aq .u8 (pad (row b)))),.box false (D.arr 64 .leaf (aq .u8 z)),.box false (D.arr 64 .leaf (aq .u8 cur))]⟩):=by
    refine cg ?_;generalize b.len-1=m1 at *;generalize ((a.len-1:Nat):Int)=n1 at *;generalize pad (row a)=PA at *;generalize pad (row b)=PB at *;simp -implicitDefEqProofs [Z46_L0,au,hi64,hx]
   refine ⟨cur',g1,g2,g3,bq ?_ g4⟩;generalize ((b.len-1:Nat):Int)=m1 at *;generalize ((a.len-1:Nat):Int)=n1 at *;generalize pad (row a)=PA at *;generalize pad (row b)=PB at *;simp -implicitDefEqProofs [Z46_L1,au,hlt,hin,w8']
  ·obtain ⟨cur1,k1,k2,k3,k4⟩:=a7u (O:=O) (z:=z) (n:=0) (i:=i) (by omega) (by omega) hal hbl hab hb1 hai (P:=Iz a i*b) (vn:=(.d (.int .i64 (((a.len-1:Nat):Int))))) rfl b.len 0 cur (br _) hc hcan (by rw [Qg,Gq.mul_zero,Gq.add_zero]; exact he)
   have e00:((0:Nat):Int)=0:=rfl;rw [e00] at k4
   have he':fc p cur1=Iz a (i+1)*b:=by
    rw [k3,Gw];exact bo [Iz a i,b,Pol.mo (a.c i) i] rfl
   obtain ⟨cur',g1,g2,g3,g4⟩:=Yz (O:=O) (z:=z) hal hbl hab ha1 hb1 m (i+1) cur1 (by omega) k1 k2 he'
   refine ⟨cur',g1,g2,g3,bq ?_ g4⟩;generalize ((b.len-1:Nat):Int)=m1 at *;generalize ((a.len-1:Nat):Int)=n1 at *;generalize pad (row a)=PA at *;generalize pad (row b)=PB at *;simp -implicitDefEqProofs [Z46_L1,au,hlt,k4,w8']
def yb (O:ap):Prop:=∀(p:Int) [IsP p] (a b:Fp p),a.len≤64→b.len≤64→(a*b).len≤64 →
 ask O F46 [(D.int .i64 p),(D.arr 64 .leaf (aq .u8 (pad (row a)))),(D.arr 64 .leaf (aq .u8 (pad (row b))))]=some (.tup [(D.arr 64 .leaf (aq .u8 (pad (row (a*b))))),(D.bool true)])
theorem a9l (hT:T F46=some Z46) (hd:kb (den T A)):yb (den T A):=by
 intro p i a b hal hbl hab;have e1:=hd p a hal;have e2:=hd p b hbl;refine ch hT rfl ?_
 by_cases ha:a=0
 ·subst ha
  rw [Gq.zero_mul,row_zero];rw [Pol.len_zero,row_zero] at e1;generalize pad (row b)=PB at *;simp -implicitDefEqProofs [Z46,Z46_B,au,e1,e2,List.replicate]
 ·have ha1:=Pol.len_pos ha
  by_cases hb:b=0
  ·subst hb
   rw [Gq.mul_zero,row_zero];rw [Pol.len_zero,row_zero] at e2;have ha2:¬ ((a.len:Int)-1<0):=by omega
   generalize pad (row a)=PA at *;simp -implicitDefEqProofs [Z46,Z46_B,au,e1,e2,ha2,List.replicate]
  ·have hb1:=Pol.len_pos hb
   have hm:=Pol.len_mul ha hb;rw [show ((a.len:Int)-1)=((a.len-1:Nat):Int) by omega] at e1
   rw [show ((b.len:Int)-1)=((b.len-1:Nat):Int) by omega] at e2
   have w1:IntKind.i64.wrap (((a.len-1:Nat):Int)+((b.len-1:Nat):Int))=((a.len-1+(b.len-1):Nat):Int):=(w64 (by omega)).trans (by omega)
   have w2:¬ ((63:Int)<((a.len-1+(b.len-1):Nat):Int)):=by omega
   obtain ⟨cur',g1,g2,g3,g4⟩:=Yz (O:=den T A) (z:=pad []) hal hbl (by omega) ha1 hb1 a.len 0 (pad []) (br _) (dc _) (by
    have:=zw (0:Fp p); rwa [row_zero] at this) (by
    rw [Qg,Gq.zero_mul];have:=pe (p:=p) (a:=0) (by rw [Pol.len_zero]; omega)
    rwa [row_zero] at this)
   have e00:((0:Nat):Int)=0:=rfl;rw [e00] at g4;have hcur:cur'=pad (row (a*b)):=by rw [Mu g2 g1,g3]
   rw [hcur] at g4;have n1:¬ (((a.len-1:Nat):Int)<0):=by omega
   have n2:¬ (((b.len-1:Nat):Int)<0):=by omega
   generalize ((a.len-1+(b.len-1):Nat):Int)=s1 at *;generalize ((b.len-1:Nat):Int)=m1 at *;generalize ((a.len-1:Nat):Int)=k1 at *;generalize pad (row (a*b))=PR at *;generalize pad (row a)=PA at *;generalize pad (row b)=PB at *;simp -implicitDefEqProofs [Z46,Z46_B,au,e1,e2,w1,w2,n1,n2,g4,List.replicate]
structure BzS {p:Int} [IsP p] (A B a b u x v y:Fp p):Prop where
 i:Pol.BzI A B a b u x v y
 la:a.len≤64
 lb:b.len≤64
 lu:u.len≤64
 lv:v.len≤64
 ne:a≠0
theorem BzS.step {p:Int} [IsP p] {A B a b u x v y:Fp p} (h:BzS A B a b u x v y) (hA:A.len≤64) (hB:B.len≤64) (hb:b≠0) :
 BzS A B b (a%b) x (u-a/b*x) y (v-a/b*y)∧x.len≤64∧y.len≤64∧(a/b).len≤64∧(a/b*x).len≤64∧(a/b*y).len≤64∧(a%b).len≤64:=by
 have h1:=h.i.lx;have h2:=h.i.ly;have h3:=Pol.len_pos h.ne;have h4:=Pol.len_pos hb;have h5:=Pol.len_div_le a hb;have h6:=Pol.len_mod_le a hb;obtain ⟨h7,h8⟩:=h.i.qlen hb;have h9:=h.la;have hx:x.len≤64:=by omega
 have hy:y.len≤64:=by omega
 exact ⟨⟨h.i.step hb,h.lb,by omega,hx,hy,hb⟩,hx,hy,by omega,by omega,by omega,by omega⟩
theorem a7w {O:ap} (hdg:kb O) (hd:u7 O) (ht:yb O) (ha:lk O) {p:Int} [IsP p] {z:List Int} {a b u x v y:Fp p} (h0:b≠0) (ha':a.len≤64) (hb:b.len≤64) (hu:u.len≤64) (hv:v.len≤64) (s1:x.len≤64) (s2:y.len≤64) (s3:(a/b).len≤64) (s4:(a/b*x).len≤64) (s5:(a/b*y).len≤64) :
 dn O 0 Z3l_L0 ⟨[(0,(.d (.int .i64 p))),(4,.ptr 0 []),(5,.ptr 1 []),(6,.ptr 2 []),(7,.ptr 3 []),(8,.ptr 4 []),(9,.ptr 5 []),(10,.ptr 6 []),(11,.ptr 7 []),(12,.ptr 8 [])],[.box false (D.arr 64 .leaf (aq .u8 (pad (row a)))),.box false (D.arr 64 .leaf (aq .u8 (pad (row b)))),.box false (D.arr 64 .leaf (aq .u8 z)),.box false (D.arr 64 .leaf (aq .u8 z)),.box false (D.arr 64 .leaf (aq .u8 z)),.box false (D.arr 64 .leaf (aq .u8 (pad (row u)))),.box false (D.arr 64 .leaf (aq .u8 (pad (row x)))),.box false (D.arr 64 .leaf (aq .u8 (pad (row v)))),.box false (D.arr 64 .leaf (aq .u8 (pad (row y)))),.hole,.hole,.hole,.hole,.hole,.hole]⟩ =
  some (.normal,⟨[(0,(.d (.int .i64 p))),(4,.ptr 0 []),(5,.ptr 1 []),(6,.ptr 2 []),(7,.ptr 3 []),(8,.ptr 4 []),(9,.ptr 5 []),(10,.ptr 6 []),(11,.ptr 7 []),(12,.ptr 8 [])],[.box false (D.arr 64 .leaf (aq .u8 (pad (row b)))),.box false (D.arr 64 .leaf (aq .u8 (pad (row (a%b))))),.box false (D.arr 64 .leaf (aq .u8 z)),.box false (D.arr 64 .leaf (aq .u8 z)),.box false (D.arr 64 .leaf (aq .u8 z)),.box false (D.arr 64 .leaf (aq .u8 (pad (row x)))),.box false (D.arr 64 .leaf (aq .u8 (pad (row (u-a/b*x))))),.box false (D.arr 64 .leaf (aq .u8 (pad (row y)))),.box false (D.arr 64 .leaf (aq .u8 (pad (row (v-a/b*y))))),.hole,.hole,.hole,.hole,.hole,.hole]⟩):=by
 have hp:=Pol.len_pos h0;have e0:=hdg p b hb;have e1:=hd p a b h0 ha' hb;have e2:=ht p (a/b) x s3 s1 s4;have e3:=ha p (-1) u (a/b*x) (by omega) (by omega) hu s4
 have e4:=ht p (a/b) y s3 s2 s5;have e5:=ha p (-1) v (a/b*y) (by omega) (by omega) hv s5
 rw [Gd] at e3 e5;have hge:¬ ((b.len:Int)-1<0):=by omega
 have hge2:(0:Int)≤(b.len:Int)-1:=by omega
 have hge3:(1:Int)≤(b.len:Int):=by omega
 generalize pad (row (u-a/b*x))=Pux at *;generalize pad (row (v-a/b*y))=Pvy at *;generalize pad (row (a/b*x))=Pqx at *;generalize pad (row (a/b*y))=Pqy at *;generalize pad (row (a/b))=Pq at *;generalize pad (row (a%b))=Pr at *;generalize pad (row a)=Pa at *;generalize pad (row b)=Pb at *;generalize pad (row u)=Pu at *;generalize pad (row x)=Px at *;generalize pad (row v)=Pv at *;generalize pad (row y)=Py at *;simp -implicitDefEqProofs [Z3l_L0,au,hge3,e0,e1,e2,e3,e4,e5]
theorem a7i {O:ap} (hdg:kb O) (hd:u7 O) (ht:yb O) (ha:lk O) {p:Int} [IsP p] {A B:Fp p} {z:List Int} (hA:A.len≤64) (hB:B.len≤64):∀(n:Nat) (a b u x v y:Fp p),b.len≤n→BzS A B a b u x v y→∃x' y':List Int,(Pol.bz n a b u x v y).1≠0∧(Pol.bz n a b u x v y).1.len≤64∧(Pol.bz n a b u x v y).2.1.len≤64∧(Pol.bz n a b u x v y).2.2.len≤64 ∧
 dn O 0 (.loop Z3l_L0) ⟨[(0,(.d (.int .i64 p))),(4,.ptr 0 []),(5,.ptr 1 []),(6,.ptr 2 []),(7,.ptr 3 []),(8,.ptr 4 []),(9,.ptr 5 []),(10,.ptr 6 []),(11,.ptr 7 []),(12,.ptr 8 [])],[.box false (D.arr 64 .leaf (aq .u8 (pad (row a)))),.box false (D.arr 64 .leaf (aq .u8 (pad (row b)))),.box false (D.arr 64 .leaf (aq .u8 z)),.box false (D.arr 64 .leaf (aq .u8 z)),.box false (D.arr 64 .leaf (aq .u8 z)),.box false (D.arr 64 .leaf (aq .u8 (pad (row u)))),.box false (D.arr 64 .leaf (aq .u8 (pad (row x)))),.box false (D.arr 64 .leaf (aq .u8 (pad (row v)))),.box false (D.arr 64 .leaf (aq .u8 (pad (row y)))),.hole,.hole,.hole,.hole,.hole,.hole]⟩ =
  some (.exit 0,⟨[(0,(.d (.int .i64 p))),(4,.ptr 0 []),(5,.ptr 1 []),(6,.ptr 2 []),(7,.ptr 3 []),(8,.ptr 4 []),(9,.ptr 5 []),(10,.ptr 6 []),(11,.ptr 7 []),(12,.ptr 8 []),(28,(.d (.bool false)))],[.box false (D.arr 64 .leaf (aq .u8 (pad (row (Pol.bz n a b u x v y).1)))),.box false (D.arr 64 .leaf (aq .u8 (pad []))),.box false (D.arr 64 .leaf (aq .u8 z)),.box false (D.arr 64 .leaf (aq .u8 z)),.box false (D.arr 64 .leaf (aq .u8 z)),.box false (D.arr 64 .leaf (aq .u8 (pad (row (Pol.bz n a b u x v y).2.1)))),.box false (D.arr 64 .leaf (aq .u8 x')),.box false (D.arr 64 .leaf (aq .u8 (pad (row (Pol.bz n a b u x v y).2.2)))),.box false (D.arr 64 .leaf (aq .u8 y')),.hole,.hole,.hole,.hole,.hole,.hole]⟩):=by
 intro n
 have stop:∀(a u x v y:Fp p),dn O 0 (.loop Z3l_L0) ⟨[(0,(.d (.int .i64 p))),(4,.ptr 0 []),(5,.ptr 1 []),(6,.ptr 2 []),(7,.ptr 3 []),(8,.ptr 4 []),(9,.ptr 5 []),(10,.ptr 6 []),(11,.ptr 7 []),(12,.ptr 8 [])],[.box false (D.arr 64 .leaf (aq .u8 (pad (row a)))),.box false (D.arr 64 .leaf (aq .u8 (pad (row (0:Fp p))))),.box false (D.arr 64 .leaf (aq .u8 z)),.box false (D.arr 64 .leaf (aq .u8 z)),.box false (D.arr 64 .leaf (aq .u8 z)),.box false (D.arr 64 .leaf (aq .u8 (pad (row u)))),.box false (D.arr 64 .leaf (aq .u8 (pad (row x)))),.box false (D.arr 64 .leaf (aq .u8 (pad (row v)))),.box false (D.arr 64 .leaf (aq .u8 (pad (row y)))),.hole,.hole,.hole,.hole,.hole,.hole]⟩ =
  some (.exit 0,⟨[(0,(.d (.int .i64 p))),(4,.ptr 0 []),(5,.ptr 1 []),(6,.ptr 2 []),(7,.ptr 3 []),(8,.ptr 4 []),(9,.ptr 5 []),(10,.ptr 6 []),(11,.ptr 7 []),(12,.ptr 8 []),(28,(.d (.bool false)))],[.box false (D.arr 64 .leaf (aq .u8 (pad (row a)))),.box false (D.arr 64 .leaf (aq .u8 (pad []))),.box false (D.arr 64 .leaf (aq .u8 z)),.box false (D.arr 64 .leaf (aq .u8 z)),.box false (D.arr 64 .leaf (aq .u8 z)),.box false (D.arr 64 .leaf (aq .u8 (pad (row u)))),.box false (D.arr 64 .leaf (aq .u8 (pad (row x)))),.box false (D.arr 64 .leaf (aq .u8 (pad (row v)))),.box false (D.arr 64 .leaf (aq .u8 (pad (row y)))),.hole,.hole,.hole,.hole,.hole,.hole]⟩):=by
  intro a u x v y;have e:=hdg p 0 (by rw [Pol.len_zero]; omega)
  rw [row_zero,Pol.len_zero] at e;rw [row_zero];refine cg ?_;generalize pad (row a)=Pa;generalize pad (row u)=Pu;generalize pad (row x)=Px;generalize pad (row v)=Pv;generalize pad (row y)=Py;simp -implicitDefEqProofs [Z3l_L0,au,e]
 induction n with
 | zero=>
  intro a b u x v y hn hs;obtain rfl:=Pol.len_zero_iff.1 (show b.len=0 by omega)
  exact ⟨_,_,hs.ne,hs.la,hs.lu,hs.lv,stop a u x v y⟩
 | succ n ih=>
  intro a b u x v y hn hs;unfold Pol.bz
  by_cases h0:b=0
  ·subst h0
   rw [if_pos rfl];exact ⟨_,_,hs.ne,hs.la,hs.lu,hs.lv,stop a u x v y⟩
  ·rw [if_neg h0]
   obtain ⟨s0,s1,s2,s3,s4,s5,s6⟩:=hs.step hA hB h0;have hl:=Pol.len_mod a h0;have hp:=Pol.len_pos h0;obtain ⟨x',y',g1,g2,g3,g4,e⟩:=ih b (a%b) x (u-a/b*x) y (v-a/b*y) (by omega) s0
   exact ⟨x',y',g1,g2,g3,g4,bq (a7w hdg hd ht ha h0 hs.la hs.lb hs.lu hs.lv s1 s2 s3 s4 s5) e⟩
theorem abj {O:ap} (hdg:kb O) (hd:u7 O) (ht:yb O) (ha:lk O) {p:Int} [IsP p] {a b:Fp p} {z:List Int} (h:a≠0∨b≠0) (hal:a.len≤64) (hbl:b.len≤64):∃x' y':List Int,(Pol.bz b.len a b 1 0 0 1).1≠0∧(Pol.bz b.len a b 1 0 0 1).1.len≤64∧(Pol.bz b.len a b 1 0 0 1).2.1.len≤64∧(Pol.bz b.len a b 1 0 0 1).2.2.len≤64 ∧
 dn O 0 (.loop Z3l_L0) ⟨[(0,(.d (.int .i64 p))),(4,.ptr 0 []),(5,.ptr 1 []),(6,.ptr 2 []),(7,.ptr 3 []),(8,.ptr 4 []),(9,.ptr 5 []),(10,.ptr 6 []),(11,.ptr 7 []),(12,.ptr 8 [])],[.box false (D.arr 64 .leaf (aq .u8 (pad (row a)))),.box false (D.arr 64 .leaf (aq .u8 (pad (row b)))),.box false (D.arr 64 .leaf (aq .u8 z)),.box false (D.arr 64 .leaf (aq .u8 z)),.box false (D.arr 64 .leaf (aq .u8 z)),.box false (D.arr 64 .leaf (aq .u8 (pad (row (1:Fp p))))),.box false (D.arr 64 .leaf (aq .u8 (pad (row (0:Fp p))))),.box false (D.arr 64 .leaf (aq .u8 (pad (row (0:Fp p))))),.box false (D.arr 64 .leaf (aq .u8 (pad (row (1:Fp p))))),.hole,.hole,.hole,.hole,.hole,.hole]⟩ =
  some (.exit 0,⟨[(0,(.d (.int .i64 p))),(4,.ptr 0 []),(5,.ptr 1 []),(6,.ptr 2 []),(7,.ptr 3 []),(8,.ptr 4 []),(9,.ptr 5 []),(10,.ptr 6 []),(11,.ptr 7 []),(12,.ptr 8 []),(28,(.d (.bool false)))],[.box false (D.arr 64 .leaf (aq .u8 (pad (row (Pol.bz b.len a b 1 0 0 1).1)))),.box false (D.arr 64 .leaf (aq .u8 (pad []))),.box false (D.arr 64 .leaf (aq .u8 z)),.box false (D.arr 64 .leaf (aq .u8 z)),.box false (D.arr 64 .leaf (aq .u8 z)),.box false (D.arr 64 .leaf (aq .u8 (pad (row (Pol.bz b.len a b 1 0 0 1).2.1)))),.box false (D.arr 64 .leaf (aq .u8 x')),.box false (D.arr 64 .leaf (aq .u8 (pad (row (Pol.bz b.len a b 1 0 0 1).2.2)))),.box false (D.arr 64 .leaf (aq .u8 y')),.hole,.hole,.hole,.hole,.hole,.hole]⟩):=by
 by_cases h0:a=0
 ·subst h0
  have hb:=h.resolve_left (fun h=>h rfl)
  have hp:=Pol.len_pos hb;obtain ⟨k,hk⟩:∃k,b.len=k+1:=⟨b.len-1,by omega⟩
  have h1:(1:Fp p).len=1:=Pol.len_one;have hz:(0:Fp p).len=0:=Pol.len_zero;have hq:(0:Fp p)/b=0:=(Pol.div_mod_eq (a:=(0:Fp p)) (b:=b) (q:=0) (r:=0) (by rw [Gq.zero_mul,Gq.zero_add]) (by omega)).1
  have hs0:∀c:Fp p,c-0=c:=fun c=>by rw [Gq.sub_eq,th,Gq.add_zero]
  have hr:(0:Fp p)%b=0:=Pol.zero_mod hb;have e:=a7w (z:=z) hdg hd ht ha (a:=0) (b:=b) (u:=1) (x:=0) (v:=0) (y:=1) hb (by omega) hbl (by omega) (by omega) (by omega) (by omega) (by rw [hq]; omega) (by rw [hq,Gq.zero_mul]; omega) (by rw [hq,Gq.zero_mul]; omega)
  rw [hk];unfold Pol.bz;rw [if_neg hb];rw [hq,hr,Gq.zero_mul,Gq.zero_mul,hs0,hs0] at e ⊢;have hi:Pol.BzI (0:Fp p) b b 0 0 1 1 0:=⟨by rw [Gq.zero_mul,Gq.zero_add,Gq.one_mul],by rw [Gq.mul_zero,Gq.zero_mul,Gq.add_zero],.inr (by omega),.inl hz,.inl hz,.inr (by omega),.inl hb⟩
  obtain ⟨x',y',g1,g2,g3,g4,e2⟩:=a7i (O:=O) (z:=z) hdg hd ht ha (A:=0) (B:=b) (by omega) hbl k b 0 0 1 1 0 (by omega) ⟨hi,hbl,by omega,by omega,by omega,hb⟩
  exact ⟨x',y',g1,g2,g3,g4,bq e e2⟩
 ·exact a7i (O:=O) (z:=z) hdg hd ht ha hal hbl b.len a b 1 0 0 1 (bp _) ⟨Pol.BzI.init (.inl h0),hal,hbl,by rw [Pol.len_one]; omega,by rw [Pol.len_zero]; omega,h0⟩
def Bw (O:ap):Prop:=∀(p:Int) [IsP p] (a b:Fp p),a≠0∨b≠0→a.len≤64→b.len≤64 →
 ask O F3l [(D.int .i64 p),(D.arr 64 .leaf (aq .u8 (pad (row a)))),(D.arr 64 .leaf (aq .u8 (pad (row b))))]=some (.tup [(D.arr 64 .leaf (aq .u8 (pad (row (Pol.bezout a b).1)))),(D.arr 64 .leaf (aq .u8 (pad (row (Pol.bezout a b).2.1)))),(D.arr 64 .leaf (aq .u8 (pad (row (Pol.bezout a b).2.2))))])
theorem a2e (hT:T F3l=some Z3l) (h1:A4 (den T A)) (hdg:kb (den T A)) (hd:u7 (den T A)) (ht:yb (den T A)) (ha:lk (den T A)) (hinv:u9 (den T A)):Bw (den T A):=by
 intro p i a b h0 hal hbl;have hp:=IsP.ge (p:=p);have hp7:=IsP.le (p:=p);have e1:=h1 p;obtain ⟨x',y',g1,g2,g3,g4,e2⟩:=abj (O:=den T A) (z:=pad []) hdg hd ht ha h0 hal hbl;unfold Pol.bezout;have heu:Pol.eu a b=Pol.bz b.len a b 1 0 0 1:=rfl;rw [heu];generalize Pol.bz b.len a b 1 0 0 1=R at *;obtain ⟨d,u,v⟩:=R;simp only at g1 g2 g3 g4 e2 ⊢;rw [row_zero] at e2;have hd1:=Pol.len_pos g1;have e3:=hdg p d g2;rw [show ((d.len:Int)-1)=((d.len-1:Nat):Int) by omega] at e3
 have hi64:d.len-1<64:=by omega
 have hx:(pad (row d))[d.len-1]? = some (rep d.ld):=by rw [um _ _ hi64,jc]; rfl
 have hr:=nu d.ld;have hr0:rep d.ld≠0:=fun h=>Pol.ld_ne g1 (im.1 h)
 have hin:=A2 p (rep d.ld);have e4:=hinv p (rep d.ld) (by omega) hr.2
 have w1:IntKind.i64.wrap (inv p (rep d.ld))=inv p (rep d.ld):=w64 (by omega)
 have z0:(0:Fp p).len≤64:=by rw [Pol.len_zero]; omega
 have e5:=ha p (inv p (rep d.ld)) 0 d (by omega) (by omega) z0 g2
 have e6:=ha p (inv p (rep d.ld)) 0 u (by omega) (by omega) z0 g3
 have e7:=ha p (inv p (rep d.ld)) 0 v (by omega) (by omega) z0 g4
 rw [wg _ (Pol.ld_ne g1),Gq.zero_add,row_zero] at e5 e6 e7;refine ch hT rfl ?_;generalize pad (row (Pol.C (Fd.inv d.ld)*d))=P1 at *;generalize pad (row (Pol.C (Fd.inv d.ld)*u))=P2 at *;generalize pad (row (Pol.C (Fd.inv d.ld)*v))=P3 at *;generalize pad (row d)=Pd at *;generalize pad (row u)=Pu at *;generalize pad (row v)=Pv at *;generalize pad (row a)=Pa at *;generalize pad (row b)=Pb at *;generalize pad (row (1:Fp p))=P0 at *;generalize d.len-1=n1 at *;simp -implicitDefEqProofs [Z3l,Z3l_B,e1,e2,e3,e4,e5,e6,e7,hi64,hx,w1,List.replicate]
def T8 (O:ap):Prop:=∀(p:Int) [IsP p] (a b:Fp p),a≠0→a.len≤64→b.len≤64 →
 ask O F3s [(D.int .i64 p),(D.arr 64 .leaf (aq .u8 (pad (row a)))),(D.arr 64 .leaf (aq .u8 (pad (row b))))]=some (D.arr 64 .leaf (aq .u8 (pad (row (Pol.gcd a b)))))
theorem aff (hT:T F3s=some Z3s) (hdg:kb (den T A)) (hb:Bw (den T A)):T8 (den T A):=by
 intro p i a b h0 hal hbl;have e1:=hdg p a hal;have e2:=hb p a b (.inl h0) hal hbl;have hp:=Pol.len_pos h0;have hge:¬ ((a.len:Int)-1<0):=by omega
 refine ch hT rfl ?_;unfold Pol.gcd;generalize pad (row (Pol.bezout a b).1)=P1 at *;generalize pad (row (Pol.bezout a b).2.1)=P2 at *;generalize pad (row (Pol.bezout a b).2.2)=P3 at *;generalize pad (row a)=Pa at *;generalize pad (row b)=Pb at *;generalize (a.len:Int)-1=n1 at *;simp -implicitDefEqProofs [Z3s,Z3s_B,au,e1,e2,hge,List.replicate]
def a46 (O:ap):Prop:=∀(p:Int) [IsP p],ask O F45 []=some (D.arr 64 .leaf (aq .u8 (pad (row (Pol.X:Fp p)))))
theorem ao4 (hT:T F45=some Z45):a46 (den T A):=by
 intro p i;have e:((pad []).set 0 0).set 1 1=pad [0,1]:=by decide +kernel
 have h0:(pad [])[0]? = some 0:=by decide +kernel
 have h1:(pad [])[1]? = some 0:=by decide +kernel
 rw [acy];refine ch hT rfl ?_;simp -implicitDefEqProofs [Z45,Z45_B,e,h0,h1]
open Classical in
theorem a7d {O:ap} (hdg:kb O) (hpw:tc O) (hg:T8 O) (ha:lk O) (ht:a46 O) {p:Int} [IsP p] {m:Fp p} (hm:m≠0) (hml:m.len≤13) {n:Nat} (hn:n+1=m.len):∀(f k:Nat),1≤k→k+f=n/2+1→∃P':List Int,
 dn O 0 (.loop Z3v_L0) ⟨[(0,(.d (.int .i64 p))),(3,.ptr 0 []),(5,(.d (.int .i64 n))),(6,.ptr 1 []),(7,(.d (.int .i64 k)))],[.box false (D.arr 64 .leaf (aq .u8 (pad (row m)))),.box false (D.arr 64 .leaf (aq .u8 (pad (row (pw Pol.X (p.toNat^(k-1))%m)))))]⟩ =
  if ∀k',k≤k'→2*k'≤n→(Pol.gcd m (frW m k')).len=1 then some (.exit 0,⟨[(0,(.d (.int .i64 p))),(3,.ptr 0 []),(5,(.d (.int .i64 n))),(6,.ptr 1 []),(7,(.d (.int .i64 (((n/2+1:Nat):Int))))),(19,(.d (.bool false)))],[.box false (D.arr 64 .leaf (aq .u8 (pad (row m)))),.box false (D.arr 64 .leaf (aq .u8 P'))]⟩)
  else some (.ret,⟨[(4,(.d (.bool false)))],[.hole,.hole]⟩)
 | 0,k,hk,hf=>by
  obtain rfl:k=n/2+1:=by omega
  refine ⟨pad (row (pw Pol.X (p.toNat^(n/2+1-1))%m)),?_⟩;rw [if_pos (fun k' h1 h2=>by omega)]
  have w1:IntKind.i64.wrap (2*((n/2+1:Nat):Int))=2*((n/2+1:Nat):Int):=w64 (by omega)
  have hlt:¬ (2*((n/2+1:Nat):Int)≤n):=by omega
  refine cg ?_;generalize ((n/2+1:Nat):Int)=k1 at *;generalize pad (row (pw Pol.X (p.toNat^(n/2+1-1))%m))=P1 at *;generalize pad (row m)=Pm at *;simp -implicitDefEqProofs [Z3v_L0,au,w1,hlt]
 | f+1,k,hk,hf=>by
  have hp:=IsP.pos (p:=p);have hp7:=IsP.le (p:=p);have w1:IntKind.i64.wrap (2*(k:Int))=2*(k:Int):=w64 (by omega)
  have hlt:2*(k:Int)≤n:=by omega
  have w4:IntKind.i64.wrap ((k:Int)+1)=((k+1:Nat):Int):=(w64 (x:=(k:Int)+1) (by omega)).trans (by omega)
  have hl1:=Pol.len_mod (pw Pol.X (p.toNat^(k-1))) hm;have hl2:=Pol.len_mod (pw Pol.X (p.toNat^k)) hm;have e1:=hpw p (pw Pol.X (p.toNat^(k-1))%m) p m hm (by omega) (by omega) (by omega) (by omega)
  have e2:pw (pw Pol.X (p.toNat^(k-1))%m) p.toNat%m=pw Pol.X (p.toNat^k)%m:=by
   rw [Pol.pow_mod _ hm,yn,←rg,show (k-1).succ=k by omega]
  rw [e2] at e1;have e3:=ht p;have hX:(Pol.X:Fp p).len≤64:=by rw [Pol.len_X]; omega
  have e4:=ha p (-1) (pw Pol.X (p.toNat^k)%m) Pol.X (by omega) (by omega) (by omega) hX
  rw [Gd] at e4;have e4':pw Pol.X (p.toNat^k)%m-Pol.X=frW m k:=rfl;rw [e4'] at e4;have hl3:(frW m k).len≤64:=Pol.len_sub_le (by omega) hX
  have e5:=hg p m (frW m k) hm (by omega) hl3
  have hgm:=Pol.gcd_monic (a:=m) (b:=frW m k) (.inl hm);have hgl:=(Pol.gcd_dv_left (a:=m) (b:=frW m k) (.inl hm)).len hm;have e6:=hdg p (Pol.gcd m (frW m k)) (by omega)
  have hg1:=Pol.len_pos hgm.2
  by_cases hc:(Pol.gcd m (frW m k)).len=1
  ·obtain ⟨P',ih⟩:=a7d hdg hpw hg ha ht hm hml hn f (k+1) (by omega) (by omega)
   rw [show k+1-1=k by omega] at ih
   refine ⟨P',?_⟩
   have hiff:(∀k',k≤k'→2*k'≤n→(Pol.gcd m (frW m k')).len=1)↔∀k',k+1≤k'→2*k'≤n→(Pol.gcd m (frW m k')).len=1:=by
    constructor
    ·intro h k' h1 h2; exact h k' (by omega) h2
    ·intro h k' h1 h2
     by_cases hkk:k'=k
     ·rw [hkk]; exact hc
     ·exact h k' (by omega) h2
   rw [propext hiff];refine bq ?_ ih;rw [hc] at e6;have e7:((1:Nat):Int)-1=0:=rfl;rw [e7] at e6;generalize pad (row (Pol.gcd m (frW m k)))=Pg at *;generalize pad (row (frW m k))=Pw at *;generalize pad (row (pw Pol.X (p.toNat^k)%m))=P2 at *;generalize pad (row (pw Pol.X (p.toNat^(k-1))%m))=P1 at *;generalize pad (row (Pol.X:Fp p))=PX at *;generalize pad (row m)=Pm at *;simp -implicitDefEqProofs [Z3v_L0,au,w1,hlt,e1,e3,e4,e5,e6,w4]
  ·refine ⟨pad [],?_⟩
   rw [if_neg (fun h=>hc (h k (bp k) (by omega)))]
   have hne:¬ (((Pol.gcd m (frW m k)).len:Int)-1=0):=by omega
   refine mj ?_;generalize ((Pol.gcd m (frW m k)).len:Int)-1=g1 at *;generalize pad (row (Pol.gcd m (frW m k)))=Pg at *;generalize pad (row (frW m k))=Pw at *;generalize pad (row (pw Pol.X (p.toNat^k)%m))=P2 at *;generalize pad (row (pw Pol.X (p.toNat^(k-1))%m))=P1 at *;generalize pad (row (Pol.X:Fp p))=PX at *;generalize pad (row m)=Pm at *;simp -implicitDefEqProofs [Z3v_L0,au,w1,hlt,e1,e3,e4,e5,e6,hne]
open Classical in
def D3 (O:ap):Prop:=∀(p:Int) [IsP p] (m:Fp p),m≠0→m.len≤13→ask O F3v [(D.int .i64 p),(D.arr 64 .leaf (aq .u8 (pad (row m))))]=some (D.bool (decide (Irr m)))
open Classical in
theorem adx (hT:T F3v=some Z3v) (hdg:kb (den T A)) (hmo:Ap (den T A)) (hpw:tc (den T A)) (hg:T8 (den T A)) (ha:lk (den T A)) (ht:a46 (den T A)):D3 (den T A):=by
 intro p i m hm hml;have e1:=hdg p m (by omega)
 have e2:=ht p;have e3:=hmo p Pol.X m hm (by rw [Pol.len_X]; omega) (by omega)
 have h1:=Pol.len_pos hm;refine ch hT rfl ?_
 by_cases h2:2≤m.len
 ·obtain ⟨P',e4⟩:=a7d (O:=den T A) hdg hpw hg ha ht hm hml (n:=m.len-1) (by omega) ((m.len-1)/2) 1 (bp 1) (by omega)
  have e5:pw (Pol.X:Fp p) (p.toNat^(1-1))=Pol.X:=by rw [jh,tr,Ee]
  rw [e5,a6v h2 hml] at e4;rw [show ((m.len:Int)-1)=((m.len-1:Nat):Int) by omega] at e1
  have hlt:¬ (((m.len-1:Nat):Int)<1):=by omega
  have e01:((1:Nat):Int)=1:=rfl;rw [e01] at e4
  by_cases hi:Irr m
  ·rw [if_pos hi] at e4
   rw [decide_eq_true hi];generalize (((m.len-1)/2+1:Nat):Int)=k1 at *;generalize ((m.len-1:Nat):Int)=n1 at *;generalize pad (row (Pol.X%m))=P1 at *;generalize pad (row (Pol.X:Fp p))=PX at *;generalize pad (row m)=Pm at *;simp -implicitDefEqProofs [Z3v,Z3v_B,au,e1,e2,e3,e4,hlt,List.replicate]
  ·rw [if_neg hi] at e4
   rw [decide_eq_false hi];generalize ((m.len-1:Nat):Int)=n1 at *;generalize pad (row (Pol.X%m))=P1 at *;generalize pad (row (Pol.X:Fp p))=PX at *;generalize pad (row m)=Pm at *;simp -implicitDefEqProofs [Z3v,Z3v_B,au,e1,e2,e3,e4,hlt,List.replicate]
 ·have hl:m.len=1:=by omega
  rw [hl] at e1;have e7:((1:Nat):Int)-1=0:=rfl;rw [e7] at e1;rw [decide_eq_false (fun h:Irr m=>h2 h.len)]
  generalize pad (row (Pol.X%m))=P1 at *;generalize pad (row (Pol.X:Fp p))=PX at *;generalize pad (row m)=Pm at *;simp -implicitDefEqProofs [Z3v,Z3v_B,au,e1,e2,e3,List.replicate]
end Pe
namespace Pe
open Go Gq
variable {T:Nat→Option Fn} {A:ap}
theorem Oa (k:IntKind):∀{l m:List Int},l.length=m.length→D.beqs .int (aq k l) (aq k m)=some (decide (l=m))
 | [],[],_=>by simp [D.beqs,aq]
 | x::l,y::m,h=>by
  have e:D.beqs .int (aq k (x::l)) (aq k (y::m))=(D.beq .int (.int k x) (.int k y)).bind fun b=>if b then D.beqs .int (aq k l) (aq k m) else some false:=rfl
  rw [e];have e2:D.beq .int (.int k x) (.int k y)=some (decide (x=y)):=by simp [D.beq]
  rw [e2,ae,Oa k (by simpa using h)]
  by_cases h1:x=y
  ·subst h1; simp
  ·simp [h1]
theorem Ov {l m:List Int} (hl:l.length=64) (hm:m.length=64):D.beq (.arr 64 .leaf .int) (D.arr 64 .leaf (aq .u8 l)) (D.arr 64 .leaf (aq .u8 m))=some (decide (l=m)):=by
 have e:D.beq (.arr 64 .leaf .int) (D.arr 64 .leaf (aq .u8 l)) (D.arr 64 .leaf (aq .u8 m))=if 64=64∧64=64∧Sh.beq .leaf .leaf∧Sh.beq .leaf .leaf then D.beqs .int (aq .u8 l) (aq .u8 m) else none:=rfl
 rw [e,if_pos ⟨rfl,rfl,rfl,rfl⟩,Oa _ (by omega)]
theorem qa {p:Int} {a b:Fp p} (ha:a.len≤64) (hb:b.len≤64):pad (row a)=pad (row b)↔a=b:=by
 constructor
 ·intro h
  rw [←pe ha,h,pe hb]
 ·rintro rfl; rfl
section
variable {p:Int} [IsP p]
structure SInv (a0:Fp p) (k:Int) (a:Fp p) (out:o9 p):Prop where
 ne:a≠0
 eq:a0=a*nw out
 ok:FacOk out
 so:out.Pairwise fun x y=>gt x.1<gt y.1
 lt:∀x∈out,gt x.1<k
 ge:∀q,Irr q→Monic q→Dv q a→k≤gt q
 ln:out.length+a.len≤13
structure SEnd (a0 a:Fp p) (out:o9 p):Prop where
 ne:a≠0
 eq:a0=a*nw out
 ok:FacOk out
 so:out.Pairwise fun x y=>gt x.1<gt y.1
 irr:2≤a.len→Irr a∧∀x∈out,gt x.1<gt (mon a)
 ln:out.length+a.len≤13
theorem Xv {q a:Fp p} (hq:Irr q) (h:Dv q a):Dv (mon q) a:=(Di hq.ne).2 h
theorem SInv.small {a0 a:Fp p} {n:Nat} {k:Int} {out:o9 p} (h:SInv a0 k a out) (_hn:n≤12) (hk:p^n≤k):Cp n a:=by
 intro q hq hd;have h1:=h.ge _ hq.mon (pf hq.ne) (Xv hq hd);have h2:=Ge (mon q);rw [uj hq.ne] at h2;apply fa;intro hx;have:=qp (p:=p) (by have:=IsP.pos (p:=p); omega) (show q.len≤n by omega)
 omega
theorem SInv.step {a0 a:Fp p} {n:Nat} {k:Int} {out:o9 p} (h:SInv a0 k a out) (hn1:1≤n) (hn:n≤12) (hk:p^n≤k) (hk2:k<2*p^n) {j:Nat} {r:Fp p} (h1:a=r*pw (pr p k) j) (h2:¬ Dv (pr p k) r) :
 SInv a0 (k+1) r (if j=0 then out else out++[(pr p k,j)]):=by
 obtain ⟨m1,m2⟩:=Dm hn hk hk2;have hb:=ul (p:=p) hn;have hpos:=rt (p:=p) n;have hnum:gt (pr p k)=k:=A5 ⟨by omega,by omega⟩
 have hr0:r≠0:=fun h0=>h.ne (by rw [h1,h0,Gq.zero_mul])
 have ge':∀q,Irr q→Monic q→Dv q r→k+1≤gt q:=by
  intro q hq hm hd;have g1:=h.ge q hq hm (by rw [h1]; exact hd.mul_right _)
  have g2:gt q≠k:=fun e=>by
   have:q=pr p k:=Oh (by rw [e,hnum])
   exact h2 (this▸hd)
  omega
 by_cases hj:j=0
 ·subst hj
  rw [if_pos rfl];rw [pw,Gq.mul_one] at h1;subst h1;exact ⟨h.ne,h.eq,h.ok,h.so,fun x hx=>by have:=h.lt x hx; omega,ge',h.ln⟩
 ·rw [if_neg hj]
  have hda:Dv (pr p k) a:=by
   obtain ⟨i,rfl⟩:∃i,j=i+1:=⟨j-1,by omega⟩
   rw [h1,pw];exact ((Dv.refl _).mul_left _).mul_left _
  have hi:Irr (pr p k):=by
   refine Irr.of_dv (by omega) fun u hu=>?_
   have hul:=hu.len m1.2
   have hu0:u≠0:=fun h0=>by
    obtain ⟨c,hc⟩:=hu;exact m1.2 (by rw [hc,h0,Gq.zero_mul])
   have hup:=Pol.len_pos hu0
   by_cases hu1:u.len=1
   ·exact .inl hu1
   ·right
    obtain ⟨q,q1,q2,q3⟩:=Gv u.len u (bp _) (by omega)
    have g1:=h.ge q q1 q2 ((q3.trans hu).trans hda);have g2:=q3.len hu0;apply fa;intro hx;have g3:=vw (a:=q) (b:=pr p k) (by omega)
    omega
  have hlt:r.len<a.len:=by
   obtain ⟨i,rfl⟩:∃i,j=i+1:=⟨j-1,by omega⟩
   have hi0:=Ny hi.ne i;have l1:=Pol.len_mul hi0 hi.ne;have l2:=Pol.len_mul hr0 (Pol.mul_ne hi0 hi.ne);have l3:=Pol.len_pos hi0;rw [h1,pw]; omega
  refine ⟨hr0,?_,h.ok.snoc hi m1 (by omega) fun x hx e=>?_,?_,?_,ge',?_⟩
  ·rw [h.eq,zm]
   conv=>lhs; rw [h1]
   exact bo [r,pw (pr p k) j,nw out] rfl
  ·have:=h.lt x hx
   rw [e,hnum] at this; omega
  ·rw [ix]
   refine ⟨h.so,gd _ _,fun x hx y hy=>?_⟩
   simp at hy; subst hy;have:=h.lt x hx;rw [hnum]; exact this
  ·intro x hx
   rcases bi.1 hx with hx | hx
   ·have:=h.lt x hx; omega
   ·simp at hx; subst hx; rw [hnum]; omega
  ·have:=h.ln
   simp; omega
theorem SInv.next {a0 a:Fp p} {n:Nat} {out:o9 p} (h:SInv a0 (2*p^n) a out) (hn:n≤11):SInv a0 (p^(n+1)) a out:=by
 refine ⟨h.ne,h.eq,h.ok,h.so,fun x hx=>?_,fun q hq hm hd=>?_,h.ln⟩
 ·have:=h.lt x hx
  have:=O9 (p:=p) n;omega
 ·have h1:=h.ge q hq hm hd
  have hq0:=Pol.len_pos hm.2;rcases f7 (n+1) q.len with h2 | h2
  ·obtain ⟨d,hd'⟩:∃d,q.len=d+1:=⟨q.len-1,by omega⟩
   have hl:=hd.len h.ne;have hln:=h.ln;have h3:=uy (n:=d) (by omega) hm hd'
   have:=qp (p:=p) (by have:=IsP.pos (p:=p); omega) (show n+1≤d by omega)
   omega
  ·exfalso
   obtain ⟨d,hd'⟩:∃d,q.len=d+1:=⟨q.len-1,by omega⟩
   have h3:=uy (n:=d) (by omega) hm hd'
   have:=qp (p:=p) (by have:=IsP.pos (p:=p); omega) (show d≤n by omega)
   omega
theorem SInv.init {a:Fp p} (ha:a≠0) (hl:a.len≤13):SInv a (p^1) a []:=
 ⟨ha,(Gq.mul_one a).symm,⟨by simp,.nil⟩,.nil,by simp,fun q hq hm _=>by
  have h1:=hq.len;obtain ⟨d,hd'⟩:∃d,q.len=d+1:=⟨q.len-1,by omega⟩
  by_cases hd12:d≤12
  ·have h3:=uy (n:=d) hd12 hm hd'
   have:=qp (p:=p) (by have:=IsP.pos (p:=p); omega) (show 1≤d by omega)
   omega
  ·have h4:=vw (a:=pr p (p^1)) (b:=q) (by
    have:=(Dm (p:=p) (n:=1) (by omega) (xu _) (by have:=rt (p:=p) 1; omega)).2
    omega)
   have h5:gt (pr p (p^1))=p^1:=A5 ⟨Int.le_of_lt (rt 1),by have:=ul (p:=p) (n:=1) (by omega); omega⟩
   omega,by simpa using hl⟩
theorem SEnd.fac {a0 a:Fp p} {out:o9 p} (h:SEnd a0 a out) (h0:a0≠0):Pe.fac a0=if 2≤a.len then out++[(mon a,1)] else out:=by
 apply a78 h0;have hP:=Au h.ok;have hld:a0.ld=a.ld:=by rw [h.eq,Pol.ld_mul h.ne hP.2,hP.1,Gq.mul_one]
 split
 ·rename_i hl
  obtain ⟨hi,hx⟩:=h.irr hl;refine ⟨h.ok.snoc hi.mon (pf h.ne) (bp 1) fun x hx' e=>?_,?_,?_⟩
  ·have:=hx x hx'
   rw [e] at this; omega
  ·rw [ix]
   refine ⟨h.so,gd _ _,fun x hx' y hy=>?_⟩
   simp at hy; subst hy; exact hx x hx'
  ·rw [zm,hld]
   show a0=Pol.C a.ld*(nw out*pw (mon a) 1);rw [Ee,h.eq]
   conv=>lhs; rw [Wx h.ne]
   exact bo [Pol.C a.ld,mon a,nw out] rfl
 ·rename_i hl
  have hp:=Pol.len_pos h.ne;obtain ⟨c,hc,rfl⟩:=qh (show a.len=1 by omega)
  refine ⟨h.ok,h.so,?_⟩;rw [hld,Pol.ld_C hc]; exact h.eq
end
section
variable {p:Int} [IsP p]
end
section
variable {p:Int} [IsP p]
end
section
variable {p:Int} [IsP p]
end
end Pe
namespace Pe
open Go Gq
variable {T:Nat→Option Fn} {A:ap}
open Classical in
def T2 (O:ap):Prop:=∀(p:Int) [IsP p] (a:Fp p),a.len≤13→ask O F1a [(D.int .i64 p),(D.sl .leaf (aq .i64 (row a)))]=some (D.bool (decide (Monic a∧Irr a)))
open Classical in
theorem abk (hT:T F1a=some Z1a) (hld:y7 (den T A)) (hdg:pu (den T A)) (hf:a6q (den T A)):T2 (den T A):=by
 intro p i a hal;have e1:=hld (row a) (by rw [cu]; omega)
 rw [Gl] at e1;have e2:=hdg (row a) (by rw [cu]; omega)
 rw [cu] at e2;refine ch hT rfl ?_
 by_cases h1:a.ld=1
 ·have h1':=(Be a.ld).2 h1
  have hM:=(Or a).2 h1;rw [h1'] at e1
  by_cases h2:2≤a.len
  ·obtain ⟨f1,f2,e3⟩:=hf p a hM.2 hal
   have hiff:=aae hM f1;have hlt:¬ ((a.len:Int)-1<1):=by omega
   have hlt2:¬ ((a.len:Int)<2):=by omega
   have hlt3:(2:Int)≤a.len:=by omega
   have key:(∃q,fac a=[(q,1)])↔(Monic a∧Irr a):=⟨fun h=>⟨hM,hiff.1 h⟩,fun h=>hiff.2 h.2⟩
   generalize fac a=L at *;cases L with
   | nil=>
    rw [decide_eq_false (fun h0=>by obtain ⟨q,h⟩:=key.2 h0; cases h)]
    simp -implicitDefEqProofs [Z1a,Z1a_B,au,e1,e2,e3,hlt]
   | cons x L=>
    cases L with
    | nil=>
     obtain ⟨q,k⟩:=x
     by_cases hk:k=1
     ·subst hk
      rw [decide_eq_true (key.1 ⟨q,rfl⟩)];simp -implicitDefEqProofs [Z1a,Z1a_B,au,e1,e2,e3,hlt,qy]
     ·rw [decide_eq_false (fun h0=>by obtain ⟨q',h⟩:=key.2 h0; simp at h; exact hk h.2)]
      have hk':¬ ((k:Int)=1):=by omega
      simp -implicitDefEqProofs [Z1a,Z1a_B,au,e1,e2,e3,hlt,qy,hk']
    | cons y L=>
     rw [decide_eq_false (fun h0=>by obtain ⟨q',h⟩:=key.2 h0; simp at h)]
     have hk':¬ (((L.length:Int)+1+1)=1):=by omega
     simp -implicitDefEqProofs [Z1a,Z1a_B,au,e1,e2,e3,hlt,hk']
  ·have hlt:((a.len:Int)-1<1):=by omega
   have hlt2:((a.len:Int)<2):=by omega
   rw [decide_eq_false (fun h=>h2 h.2.len)]
   simp -implicitDefEqProofs [Z1a,Z1a_B,au,e1,e2,hlt]
 ·have h1':=mt (Be a.ld).1 h1
  rw [decide_eq_false (fun h=>h1 h.1.1)]
  simp -implicitDefEqProofs [Z1a,Z1a_B,au,e1,h1']
def Me (O:ap):Prop:=∀(p:Int) (l:List Int),je l→l.length=64→ask O F5 [(D.int .i64 p),(D.arr 64 .leaf (aq .u8 l))]=some (D.bool (isP p&&xh p l))
theorem a7x (hT:T F5=some Z5) (hp:Hy (den T A)) (hi:El (den T A)):Me (den T A):=by
 intro p l hb hl;have e1:=hp p;have e2:=hi p l hb hl;refine ch hT rfl ?_
 by_cases h:isP p=true
 ·simp -implicitDefEqProofs [Z5,Z5_B,e1,e2,h]
 ·simp -implicitDefEqProofs [Z5,Z5_B,e1,h]
structure Fld {p:Int} [IsP p] (m:Fp p):Prop where
 mon:Monic m
 two:2≤m.len
 five:m.len≤5
 irr:Irr m
def Ii (p:Int) (l:List Int):Prop:=∃(_:IsP p) (m:Fp p),l=pad (row m)∧Fld m
theorem Pj {p:Int} {l:List Int} (h:isP p=true→xh p l=false):¬ Ii p l:=by
 rintro ⟨ip,m,rfl,hm⟩
 have:=h G8;rw [Ar] at this;cases this
theorem sy {p:Int} [IsP p] {a:Fp p} (hl:a.len≤64):Ii p (pad (row a))↔Fld a:=by
 constructor
 ·rintro ⟨ip,m,e,hm⟩
  have hml:=hm.five;rw [(qa hl (by omega)).1 e]
  exact hm
 ·intro h; exact ⟨_,a,rfl,h⟩
open Classical in
def H5 (O:ap):Prop:=∀(p:Int) (l:List Int),je l→l.length=64→ask O Fv [(D.int .i64 p),(D.arr 64 .leaf (aq .u8 l))]=some (D.bool (decide (Ii p l)))
open Classical in
theorem a3e (hT:T Fv=some Zv) (hro:G2 (den T A)) (hip:Me (den T A)) (hdg:pu (den T A)) (hwi:Np (den T A)) (hir:T2 (den T A)):H5 (den T A):=by
 intro p l hb hl;have e1:=hro l hb hl;have e2:=hip p l hb hl;refine ch hT rfl ?_;rcases ajs p hb hl with ⟨h1,h2⟩ | ⟨ip,a,hal,rfl⟩
 ·have h3:(isP p&&xh p l)=false:=by
   cases hx:isP p
   ·rfl
   ·rw [h2 hx]; rfl
  rw [decide_eq_false (Pj h2)];rw [h3] at e2;simp -implicitDefEqProofs [Zv,Zv_B,e1,e2]
 ·rw [G8,Ar] at e2
  rw [Nc a hal] at e1;have e3:=hdg (row a) (by rw [cu]; omega)
  rw [cu] at e3;have e4:=hwi ((a.len:Int)-1) 1 4
  by_cases h:2≤a.len∧a.len≤5
  ·have h3:decide ((1:Int)≤(a.len:Int)-1∧(a.len:Int)-1≤4)=true:=decide_eq_true (by omega)
   rw [h3] at e4;have e5:=hir p a (by omega)
   have h6:decide (Ii p (pad (row a)))=decide (Monic a∧Irr a):=decide_eq_decide.2 ((sy hal).trans ⟨fun g=>⟨g.mon,g.irr⟩,fun g=>⟨g.1,h.1,h.2,g.2⟩⟩)
   rw [h6];generalize decide (Monic a∧Irr a)=b at *;generalize pad (row a)=Pa at *;simp -implicitDefEqProofs [Zv,Zv_B,e1,e2,e3,e4,e5]
  ·have h3:decide ((1:Int)≤(a.len:Int)-1∧(a.len:Int)-1≤4)=false:=decide_eq_false (by omega)
   rw [h3] at e4;rw [decide_eq_false (fun g=>h ⟨((sy hal).1 g).two,((sy hal).1 g).five⟩)]
   generalize pad (row a)=Pa at *;simp -implicitDefEqProofs [Zv,Zv_B,e1,e2,e3,e4]
open Classical in
def L8 (O:ap):Prop:=∀(p:Int) (l:List Int),je l→l.length=64→ask O F4b [(D.int .i64 p),(D.arr 64 .leaf (aq .u8 l))]=some (D.bool (decide (Ii p l)))
open Classical in
theorem a91 (hT:T F4b=some Z4b) (his:a1r (den T A)) (hmo:Mc (den T A)) (hdg:kb (den T A)) (hin:aa4 (den T A)) (hir:D3 (den T A)):L8 (den T A):=by
 intro p l hb hl;have e1:=his p l hb hl;refine ch hT rfl ?_;rcases ajs p hb hl with ⟨h1,h2⟩ | ⟨ip,a,hal,rfl⟩
 ·have h3:(xh p l&&isP p)=false:=by
   cases hx:isP p
   ·rw [Bool.and_false]
   ·rw [h2 hx]; rfl
  rw [decide_eq_false (Pj h2)];rw [h3] at e1;simp -implicitDefEqProofs [Z4b,Z4b_B,e1]
 ·rw [G8,Ar] at e1
  have e2:=hmo p a hal;have e3:=hdg p a hal;have e4:=hin ((a.len:Int)-1) 1 4
  by_cases hM:Monic a
  ·rw [decide_eq_true hM] at e2
   by_cases h:2≤a.len∧a.len≤5
   ·have h3:decide ((1:Int)≤(a.len:Int)-1∧(a.len:Int)-1≤4)=true:=decide_eq_true (by omega)
    rw [h3] at e4;have e5:=hir p a hM.2 (by omega)
    have h6:decide (Ii p (pad (row a)))=decide (Irr a):=decide_eq_decide.2 ((sy hal).trans ⟨fun g=>g.irr,fun g=>⟨hM,h.1,h.2,g⟩⟩)
    rw [h6];generalize decide (Irr a)=b at *;generalize pad (row a)=Pa at *;simp -implicitDefEqProofs [Z4b,Z4b_B,e1,e2,e3,e4,e5]
   ·have h3:decide ((1:Int)≤(a.len:Int)-1∧(a.len:Int)-1≤4)=false:=decide_eq_false (by omega)
    rw [h3] at e4;rw [decide_eq_false (fun g=>h ⟨((sy hal).1 g).two,((sy hal).1 g).five⟩)]
    generalize pad (row a)=Pa at *;simp -implicitDefEqProofs [Z4b,Z4b_B,e1,e2,e3,e4]
  ·rw [decide_eq_false hM] at e2
   rw [decide_eq_false (fun g=>hM ((sy hal).1 g).mon)]
   generalize pad (row a)=Pa at *;simp -implicitDefEqProofs [Z4b,Z4b_B,e1,e2]
def va {p:Int} [IsP p] (m:Fp p) (l:List Int):Prop:=∃a:Fp p,a.len<m.len∧l=pad (row a)
noncomputable abbrev qf {p:Int} (m:Fp p):D:=.st [.leaf,.leaf] [.int .i64 p,(D.sl .leaf (aq .i64 (row m)))]
open Classical in
def Jo (O:ap):Prop:=∀(p:Int) [IsP p] (m:Fp p) (l:List Int),m.len≤64→je l→l.length=64→ask O Fq [qf m,(D.arr 64 .leaf (aq .u8 l))]=some (D.bool (decide (va m l)))
theorem Q9 {p:Int} [IsP p] {m a:Fp p} (hm:m.len≤64) (ha:a.len≤64):va m (pad (row a))↔a.len<m.len:=by
 constructor
 ·rintro ⟨b,h1,h2⟩
  rw [(qa ha (by omega)).1 h2]; exact h1
 ·intro h; exact ⟨a,h,rfl⟩
open Classical in
theorem ab0 (hT:T Fq=some Zq) (hi:El (den T A)) (hro:G2 (den T A)) (hdg:pu (den T A)):Jo (den T A):=by
 intro p ip m l hm hb hl;have e1:=hi p l hb hl;refine ch hT rfl ?_
 by_cases h:xh p l=true
 ·obtain ⟨a,hal,rfl⟩:=Ah hb hl h
  rw [h] at e1;have e2:=hro _ hb hl;rw [Nc a hal] at e2;have e3:=hdg (row a) (by rw [cu]; omega)
  rw [cu] at e3;have e4:=hdg (row m) (by rw [cu]; omega)
  rw [cu] at e4;have h5:decide ((a.len:Int)-1<(m.len:Int)-1)=decide (va m (pad (row a))):=decide_eq_decide.2 ((show _↔a.len<m.len by omega).trans (Q9 hm hal).symm)
  rw [←h5];generalize pad (row a)=Pa at *;simp -implicitDefEqProofs [Zq,Zq_B,e1,e2,e3,e4]
 ·rw [decide_eq_false (fun ⟨a,h1,h2⟩=>h (by rw [h2]; exact Ar))]
  have h':xh p l=false:=by simpa using h
  rw [h'] at e1;simp -implicitDefEqProofs [Zq,Zq_B,e1]
open Classical in
def S0 (O:ap):Prop:=∀(p:Int) [IsP p] (m:Fp p) (l:List Int),m.len≤64→je l→l.length=64→ask O F4i [(D.int .i64 p),(D.arr 64 .leaf (aq .u8 (pad (row m)))),(D.arr 64 .leaf (aq .u8 l))]=some (D.bool (decide (va m l)))
open Classical in
theorem ag6 (hT:T F4i=some Z4i) (hi:a1r (den T A)) (hdg:kb (den T A)):S0 (den T A):=by
 intro p ip m l hm hb hl;have e1:=hi p l hb hl;refine ch hT rfl ?_
 by_cases h:xh p l=true
 ·obtain ⟨a,hal,rfl⟩:=Ah hb hl h
  rw [h,G8] at e1;have e3:=hdg p a hal;have e4:=hdg p m hm;have h5:decide ((a.len:Int)-1<(m.len:Int)-1)=decide (va m (pad (row a))):=decide_eq_decide.2 ((show _↔a.len<m.len by omega).trans (Q9 hm hal).symm)
  rw [←h5];generalize pad (row a)=Pa at *;generalize pad (row m)=Pm at *;simp -implicitDefEqProofs [Z4i,Z4i_B,e1,e3,e4]
 ·rw [decide_eq_false (fun ⟨a,h1,h2⟩=>h (by rw [h2]; exact Ar))]
  have h':(xh p l&&isP p)=false:=by
   have:xh p l=false:=by simpa using h
   rw [this]; rfl
  rw [h'] at e1;generalize pad (row m)=Pm at *;simp -implicitDefEqProofs [Z4i,Z4i_B,e1]
def u5 (O:ap):Prop:=∀(p:Int) [IsP p] (m:Fp p),m.len≤64→ask O Fj [(D.int .i64 p),(D.arr 64 .leaf (aq .u8 (pad (row m))))]=some (qf m)
theorem a4u (hT:T Fj=some Zj) (hro:za (den T A)):u5 (den T A):=by
 intro p ip m hm;have e1:=hro p m hm;refine ch hT rfl ?_;generalize pad (row m)=Pm at *;simp -implicitDefEqProofs [Zj,Zj_B,e1,List.replicate]
end Pe
namespace Pe
open Go Gq
variable {T:Nat→Option Fn} {A:ap}
section
variable {p:Int} [IsP p]
noncomputable def ep (m:Fp p):Nat→Fp p→Fp p
 | 0,a=>a
 | k+1,a=>ep m k (pw a p.toNat%m)
theorem ox {m:Fp p} (hm:m≠0):∀(k:Nat) (a:Fp p),a.len<m.len→(ep m k a).len<m.len
 | 0,_,h=>h
 | k+1,_a,_=>ox hm k _ (Pol.len_mod _ hm)
theorem T5 {m:Fp p}:∀(k:Nat) (a:Fp p),Quo.mk m (ep m k a)=pw (Quo.mk m a) (p.toNat^k)
 | 0,a=>by rw [tr,Ee]; rfl
 | k+1,a=>by
  show Quo.mk m (ep m k (pw a p.toNat%m))=_;rw [T5 k,Pol.mk_mod,Quo.mk_pow,yn,rg,A8]
theorem yg {m:Fp p} (hm:Fld m) (k:Nat) {a:Fp p} (ha:a.len<m.len):ep m (k%(m.len-1)) a=ep m k a:=by
 have h2:=hm.two;have h5:=hm.five
 have small:p^(m.len-1)<1000000000000:=by
  have h1:=qp (p:=p) (by have:=IsP.pos (p:=p); omega) (show m.len-1≤12 by omega)
  have h7:=ul (p:=p) (n:=12) (by omega)
  omega
 have hd:∀x:Quo m,pw x (p.toNat^(m.len-1))=x:=L6 hm.irr (by omega) small
 have hq:∀(q:Nat) (x:Quo m),pw x (p.toNat^((m.len-1)*q))=x:=by
  intro q
  induction q with
  | zero=>intro x; rw [Nat.mul_zero,tr,Ee]
  | succ q ih=>intro x; rw [Nat.mul_succ,Nat.pow_add,←yn,ih,hd]
 have h0:m≠0:=hm.mon.2
 have e:Quo.mk m (ep m (k%(m.len-1)) a)=Quo.mk m (ep m k a):=by
  rw [T5,T5];have hk:k=(m.len-1)*(k/(m.len-1))+k%(m.len-1):=(Nat.div_add_mod k (m.len-1)).symm;have:p.toNat^k=p.toNat^((m.len-1)*(k/(m.len-1)))*p.toNat^(k%(m.len-1)):=by rw [←Nat.pow_add,←hk]
  rw [this,←yn,hq]
 have e2:=(Pol.mod_eq_iff h0).2 e
 rwa [Pol.mod_small (ox h0 _ _ ha),Pol.mod_small (ox h0 _ _ ha)] at e2
noncomputable def jx (m a:Fp p):Fp p:=(Pol.bezout a m).2.1%m
theorem aa1 {m:Fp p} (hm:m≠0) (a:Fp p):(jx m a).len<m.len:=Pol.len_mod _ hm
theorem Ga {m a:Fp p} (hm:Fld m) (ha:a≠0) (hal:a.len<m.len):Quo.mk m (jx m a)*Quo.mk m a=1:=by
 have h0:m≠0:=hm.mon.2;have e:=Pol.bezout_eq (a:=a) (b:=m) (.inl ha)
 have hg:Pol.gcd a m=1:=by
  have h1:=Pol.gcd_monic (a:=a) (b:=m) (.inl ha);have h2:=Pol.gcd_dv_left (a:=a) (b:=m) (.inl ha);have h3:=Pol.gcd_dv_right (a:=a) (b:=m) (.inl ha);refine h1.eq_one ?_;rcases hm.irr.dv h3 with h | h
  ·exact h
  ·have:=h2.len ha
   omega
 rw [hg] at e;unfold jx;rw [Pol.mk_mod];have:Quo.mk m ((Pol.bezout a m).2.1*a+(Pol.bezout a m).2.2*m)=Quo.mk m 1:=by rw [e]
 rw [Quo.mk_add,Quo.mk_mul,Quo.mk_mul] at this;have hm0:Quo.mk m m=0:=pa.1 (Dv.refl m);rw [hm0,Gq.mul_zero,Gq.add_zero] at this;exact this
end
theorem a6z {p:Int} [IsP p] {a b:Fp p} {n:Nat} (ha:a.len≤n) (hb:b.len≤n):(a*b).len≤2*n:=by
 by_cases h:a=0
 ·rw [h,Gq.zero_mul,Pol.len_zero]; omega
 ·by_cases h2:b=0
  ·rw [h2,Gq.mul_zero,Pol.len_zero]; omega
  ·have:=Pol.len_mul h h2; omega
def nk (O:ap):Prop:=∀(p:Int) [IsP p] (m a b:Fp p),m≠0→m.len≤64→a.len≤1000→b.len≤1000→ask O Ft [qf m,(D.sl .leaf (aq .i64 (row a))),(D.sl .leaf (aq .i64 (row b)))]=some (D.sl .leaf (aq .i64 (row (a*b%m))))
theorem a4c (hT:T Ft=some Zt) (ht:yw (den T A)) (hr:Bd (den T A)):nk (den T A):=by
 intro p ip m a b hm hml ha hb;have e1:=ht p a b (by omega) (by omega)
 have hl:=a6z (n:=1000) ha hb;have e2:=hr p (a*b) m hm (by omega) (by omega)
 refine ch hT rfl ?_;simp -implicitDefEqProofs [Zt,Zt_B,e1,e2]
theorem a6g {O:ap} (hpw:zz O) {p:Int} [IsP p] {m:Fp p} (hm:m≠0) (hml:m.len≤64) {n:Nat} (hn:n<1000000):∀(k i:Nat) (a:Fp p),i+k=n→a.len≤1000 →
 dn O 0 (.loop Zm_L0) ⟨[(1,(.d (.sl .leaf (aq .i64 (row a))))),(3,.ptr 0 []),(11,(.d (.int .i64 n))),(12,(.d (.int .i64 i)))],[.box false (qf m)]⟩ =
  some (.exit 0,⟨[(1,(.d (.sl .leaf (aq .i64 (row (ep m k a)))))),(3,.ptr 0 []),(11,(.d (.int .i64 n))),(12,(.d (.int .i64 n))),(13,(.d (.bool false)))],[.box false (qf m)]⟩)
 | 0,i,a,hi,ha=>by
  obtain rfl:i=n:=by omega
  exact cg (by simp -implicitDefEqProofs [Zm_L0,au,ep])
 | k+1,i,a,hi,ha=>by
  have hp:=IsP.pos (p:=p);have hp7:=IsP.le (p:=p);have hlt:i<n:=by omega
  have w4:IntKind.i64.wrap ((i:Int)+1)=((i+1:Nat):Int):=(w64 (x:=(i:Int)+1) (by omega)).trans (by omega)
  have e1:=hpw p a p m hm (by omega) (by omega) (by omega) (by omega)
  have hl:=Pol.len_mod (pw a p.toNat) hm;refine bq ?_ (a6g hpw hm hml hn k (i+1) (pw a p.toNat%m) (by omega) (by omega))
  simp -implicitDefEqProofs [Zm_L0,au,hlt,e1,w4]
def v8 (O:ap):Prop:=∀(p:Int) [IsP p] (m a:Fp p) (k:Nat),2≤m.len→m.len≤64→a.len≤1000→k<1000000→ask O Fm [qf m,(D.sl .leaf (aq .i64 (row a))),(D.int .i64 k)]=some (D.sl .leaf (aq .i64 (row (ep m (k%(m.len-1)) a))))
theorem aep (hT:T Fm=some Zm) (hpw:zz (den T A)) (hdg:pu (den T A)):v8 (den T A):=by
 intro p ip m a k h2 hml ha hk;have hm:m≠0:=fun h=>by rw [h,Pol.len_zero] at h2; omega
 have e1:=hdg (row m) (by rw [cu]; omega)
 rw [cu,show ((m.len:Int)-1)=((m.len-1:Nat):Int) by omega] at e1
 have hlt:=Nat.mod_lt k (show 0<m.len-1 by omega)
 have e2:=a6g (O:=den T A) hpw hm hml (n:=k%(m.len-1)) (by omega) (k%(m.len-1)) 0 a (br _) ha
 have e00:((0:Nat):Int)=0:=rfl;rw [e00] at e2;have w1:(k:Int).tmod ((m.len-1:Nat):Int)=((k%(m.len-1):Nat):Int):=by rw [dj (by omega)]; rfl
 have h0:((m.len-1:Nat):Int)≠0:=by omega
 refine ch hT rfl ?_;generalize row (ep m (k%(m.len-1)) a)=R at *;generalize ((k%(m.len-1):Nat):Int)=n1 at *;generalize ((m.len-1:Nat):Int)=m1 at *;simp -implicitDefEqProofs [Zm,Zm_B,e1,e2,w1,h0]
def zx (O:ap):Prop:=∀(p:Int) [IsP p] (m a:Fp p),m≠0→m.len≤64→a.len≤1000→ask O Fo [qf m,(D.sl .leaf (aq .i64 (row a)))]=some (D.sl .leaf (aq .i64 (row (jx m a))))
theorem a4p {p:Int} [IsP p] {a b:Fp p} (h:a≠0∨b≠0) (_ha:a.len≤1000) (hb:b.len≤1000):(Pol.bezout a b).2.1.len<5000:=by
 obtain ⟨x,y,hi,_,_⟩:=Pol.bz_spec b.len a b 1 0 0 1 (bp _) (Pol.BzI.init h);have h1:=hi.lu;rw [Pol.len_zero] at h1;have:(Pol.bezout a b).2.1.len≤(Pol.bz b.len a b 1 0 0 1).2.1.len:=Pol.len_le (Pol.lt_Cmul _ (Pol.lt_len _));omega
theorem Xh (hT:T Fo=some Zo) (hb:Ef (den T A)) (hr:Bd (den T A)):zx (den T A):=by
 intro p ip m a hm hml ha;have e1:=hb p a m (.inr hm) (by omega) (by omega)
 have hl:=a4p (a:=a) (b:=m) (.inr hm) ha (by omega)
 have e2:=hr p (Pol.bezout a m).2.1 m hm hl (by omega)
 have e3:(Pol.bezout a m).2.1%m=jx m a:=rfl;rw [e3] at e2;refine ch hT rfl ?_;generalize row (jx m a)=R at *;generalize row (Pol.bezout a m).1=R1 at *;generalize row (Pol.bezout a m).2.1=R2 at *;generalize row (Pol.bezout a m).2.2=R3 at *;simp -implicitDefEqProofs [Zo,Zo_B,e1,e2]
theorem afu {p:Int} [IsP p] {a b:Fp p} (h:a≠0) (hb:b.len≤63):(Pol.bezout a b).2.1.len≤64:=by
 obtain ⟨x,y,hi,_,_⟩:=Pol.bz_spec b.len a b 1 0 0 1 (bp _) (Pol.BzI.init (.inl h));have h1:=hi.lu;rw [Pol.len_zero] at h1;have:(Pol.bezout a b).2.1.len≤(Pol.bz b.len a b 1 0 0 1).2.1.len:=Pol.len_le (Pol.lt_Cmul _ (Pol.lt_len _));omega
section
variable {p:Int} [IsP p]
theorem Nr {m:Fp p} (h2:2≤m.len):(1:Quo m)≠0:=fun h=>by
 have:Dv m 1:=pa.2 h;have:=this.len Pol.one_ne;rw [Pol.len_one] at this;omega
theorem aeh {m c:Fp p} (hm:Fld m) (hc:c≠0) (hcl:c.len<m.len) (k:Nat):pw c k%m≠0∧(pw c k%m).len<m.len:=by
 have h0:m≠0:=hm.mon.2;refine ⟨fun h=>?_,Pol.len_mod _ h0⟩
 have h1:Quo.mk m (pw c k)=0:=by rw [←Pol.mk_mod,h]; rfl
 rw [Quo.mk_pow] at h1;have h2:=Ga hm hc hcl;have h3:pw (Quo.mk m (jx m c)*Quo.mk m c) k=0:=by rw [zj,h1,Gq.mul_zero]
 rw [h2,Hq] at h3;exact Nr hm.two h3
end
noncomputable abbrev skD {p:Int} (a:List (Fp p)):D:=.sl .leaf (a.map fun c=>(D.sl .leaf (aq .i64 (row c))))
section
variable {p:Int} [IsP p]
noncomputable def svI (m x:Fp p):Nat→List (Fp p)→Fp p→Fp p
 | _,[],out=>out
 | i,c::cs,out=>svI m x (i+1) cs (out+c*ep m (i%(m.len-1)) x%m)
theorem By {m x:Fp p} (hm:m≠0):∀(i:Nat) (a:List (Fp p)) (out:Fp p),out.len<m.len→(svI m x i a out).len<m.len
 | _,[],_,h=>h
 | i,c::cs,out,h=>By hm (i+1) cs _ (by
  have h1:=Pol.len_mod (c*ep m (i%(m.len-1)) x) hm;have:=Pol.len_add_le (a:=out) (b:=c*ep m (i%(m.len-1)) x%m) (n:=m.len-1) (by omega) (by omega)
  omega)
end
section
variable {p:Int}
end
theorem a03 {O:ap} (hfr:v8 O) (hpr:nk O) (hco:si O) {p:Int} [IsP p] {m x:Fp p} {a:List (Fp p)} (h2:2≤m.len) (hml:m.len≤64) (hx:x.len≤1000) (ha:a.length<100000) (hal:∀c∈a,c.len≤1000):∀(k i:Nat) (out:Fp p),i+k=a.length→out.len≤64 →
 dn O 0 (.loop Zu_L0) ⟨[(2,(.d (.sl .leaf (aq .i64 (row x))))),(3,.ptr 0 []),(7,(.d (.sl .leaf (aq .i64 (row out))))),(10,.d (skD a)),(11,(.d (.int .i64 a.length))),(12,(.d (.int .i64 i)))],[.box false (qf m)]⟩ =
  some (.exit 0,⟨[(2,(.d (.sl .leaf (aq .i64 (row x))))),(3,.ptr 0 []),(7,(.d (.sl .leaf (aq .i64 (row (svI m x i (a.drop i) out)))))),(10,.d (skD a)),(11,(.d (.int .i64 a.length))),(12,(.d (.int .i64 a.length))),(13,(.d (.bool false)))],[.box false (qf m)]⟩)
 | 0,i,out,hi,ho=>by
  obtain rfl:i=a.length:=by omega
  rw [fw];show _=some (_,(⟨[_,_,(7,(.d (.sl .leaf (aq .i64 (row out))))),_,_,_,_],_⟩:St));exact cg (by simp -implicitDefEqProofs [Zu_L0,au])
 | k+1,i,out,hi,ho=>by
  have hm:m≠0:=fun h=>by rw [h,Pol.len_zero] at h2; omega
  have hlt:i<a.length:=by omega
  have hci:=hal _ (bb hlt);have w4:IntKind.i64.wrap ((i:Int)+1)=((i+1:Nat):Int):=(w64 (x:=(i:Int)+1) (by omega)).trans (by omega)
  have e1:=hfr p m x i h2 hml hx (by omega)
  have hfl:(ep m (i%(m.len-1)) x).len≤1000:=by
   by_cases hz:i%(m.len-1)=0
   ·rw [hz]; exact hx
   ·obtain ⟨j,hj⟩:=Nat.exists_eq_succ_of_ne_zero hz
    rw [hj];have:=ox hm j (pw x p.toNat%m) (Pol.len_mod _ hm);show (ep m j (pw x p.toNat%m)).len≤1000;omega
  have e2:=hpr p m a[i] (ep m (i%(m.len-1)) x) hm hml hci hfl;have hl:=Pol.len_mod (a[i]*ep m (i%(m.len-1)) x) hm;have e3:=hco p out (a[i]*ep m (i%(m.len-1)) x%m) (by omega) (by omega)
  have hl2:=Pol.len_add_le (a:=out) (b:=a[i]*ep m (i%(m.len-1)) x%m) (n:=64) ho (by omega)
  have ih:=a03 hfr hpr hco h2 hml hx ha hal k (i+1) (out+a[i]*ep m (i%(m.len-1)) x%m) (by omega) hl2
  have hsv:svI m x i (a.drop i) out=svI m x (i+1) (a.drop (i+1)) (out+a[i]*ep m (i%(m.len-1)) x%m):=by
   rw [cd hlt]; rfl
  rw [hsv];refine bq ?_ ih;generalize row (out+a[i]*ep m (i%(m.len-1)) x%m)=R1 at *;generalize row (a[i]*ep m (i%(m.len-1)) x%m)=R2 at *;generalize row (ep m (i%(m.len-1)) x)=R3 at *;simp -implicitDefEqProofs [Zu_L0,au,hlt,e1,e2,e3,w4]
def Jm (O:ap):Prop:=∀(p:Int) [IsP p] (m x:Fp p) (a:List (Fp p)),2≤m.len→m.len≤64→x.len≤1000→a.length<100000→(∀c∈a,c.len≤1000)→ask O Fu [qf m,skD a,(D.sl .leaf (aq .i64 (row x)))]=some (D.sl .leaf (aq .i64 (row (svI m x 0 a 0))))
theorem ab1 (hT:T Fu=some Zu) (hfr:v8 (den T A)) (hpr:nk (den T A)) (hco:si (den T A)):Jm (den T A):=by
 intro p ip m x a h2 hml hx ha hal;have e:=a03 (O:=den T A) hfr hpr hco h2 hml hx ha hal a.length 0 0 (br _) (by rw [Pol.len_zero]; omega)
 have e00:((0:Nat):Int)=0:=rfl;rw [e00,row_zero,iu,dm] at e;refine ch hT rfl ?_;generalize row (svI m x 0 a 0)=R at *;simp -implicitDefEqProofs [Zu,Zu_B,e]
abbrev vg (ls:List (List Int)):D:=.arr 8 (.arr 64 .leaf) (ls.map ce)
theorem a8h {p:Int} [IsP p] {m:Fp p} {ls:List (List Int)} (hm:m.len≤64) (h:v6 ls) (hi:Jo (den T A)):∃P:D→Bool,(∀l∈ls,P (ce l)=true↔va m l)∧wn (den T A) Fq [qf m] [] (ls.map ce) P:=by
 classical
 refine ⟨fun x=>decide (va m x.nums),fun l hl=>by show decide (va m (ce l).nums)=true↔_; rw [Qj]; simp,fun x hx=>by simp at hx; subst hx; rfl,fun x hx=>by simp at hx,fun x hx=>?_,fun x hx=>?_⟩
 ·obtain ⟨n,_,rfl⟩:=ct.1 hx; rfl
 ·obtain ⟨l,hl,rfl⟩:=ct.1 hx
  have e:=hi p m l hm (h l hl).2 (h l hl).1;show ask (den T A) _ _=some (.bool (decide (va m (ce l).nums)));rw [Qj];exact e
def O0 {p:Int} [IsP p] (m:Fp p) (ls:List (List Int)):Prop:=∀l∈ls,va m l
open Classical in
noncomputable def oo (p:Int) (l:List Int) (ls:List (List Int)):Int:=if ∃(_:IsP p) (m:Fp p),l=pad (row m)∧Fld m∧∀x∈ls,va m x then 0 else 1
theorem Vs {p:Int} [IsP p] {m:Fp p} (hm:Fld m) {Q:∀(_:IsP p),Fp p→Prop}:(∃(ip:IsP p) (m':Fp p),pad (row m)=pad (row m')∧Fld m'∧Q ip m')↔Q inferInstance m:=by
 have h5:=hm.five;constructor
 ·rintro ⟨ip,m',e,h1,h2⟩
  have h6:=h1.five;obtain rfl:=(qa (by omega) (by omega)).1 e
  exact h2
 ·intro h; exact ⟨_,m,rfl,hm,h⟩
def lg (O:ap) (F:Nat):Prop:=∀(p:Int) (l:List Int) (ls:List (List Int)),je l→l.length=64→v6 ls→ls.length<2000000→ask O F [(D.int .i64 p),(D.arr 64 .leaf (aq .u8 l)),.sl (.arr 64 .leaf) (ls.map ce)]=some (D.int .i64 (oo p l ls))
open Classical in
theorem a3f (hT:T F1n=some Z1n) (hif:H5 (den T A)) (hfo:u5 (den T A)) (his:Jo (den T A)) (ha:Bm (den T A) Fg (.arr 64 .leaf)):lg (den T A) F1n:=by
 intro p l ls hb hl h hlen;have e1:=hif p l hb hl;refine ch hT rfl ?_;unfold oo
 by_cases hf:Ii p l
 ·rw [decide_eq_true hf] at e1
  obtain ⟨ip,m,rfl,hm⟩:=hf;have h5:=hm.five;have e2:=hfo p m (by omega)
  obtain ⟨P,hP,hF⟩:=a8h (m:=m) (by omega) h his
  have e3:=ha _ _ _ _ _ hF (fun x hx=>by obtain ⟨n,_,rfl⟩:=ct.1 hx; rfl) (by rw [ab]; exact hlen)
  have hall:(ls.map ce).all P=true↔∀x∈ls,va m x:=by
   rw [gr];constructor
   ·intro h2 l hl; exact (hP l hl).1 (h2 _ (vb hl))
   ·intro h2 x hx
    obtain ⟨l,hl,rfl⟩:=ct.1 hx;exact (hP l hl).2 (h2 l hl)
  have hc:=(Vs hm (Q:=fun ip m'=>∀x∈ls,@va p ip m' x)).trans hall.symm
  cases hb1:(ls.map ce).all P
  ·rw [hb1] at e3 hc
   rw [if_neg (fun h=>by have:=hc.1 h; cases this)]
   generalize pad (row m)=Pm at *;generalize ls.map ce=LD at *;simp -implicitDefEqProofs [Z1n,Z1n_B,au,e1,e2,e3]
  ·rw [hb1] at e3 hc
   rw [if_pos (hc.2 rfl)];generalize pad (row m)=Pm at *;generalize ls.map ce=LD at *;simp -implicitDefEqProofs [Z1n,Z1n_B,au,e1,e2,e3]
 ·rw [decide_eq_false hf] at e1
  rw [if_neg (fun ⟨ip,m,e,hm,_⟩=>hf ⟨ip,m,e,hm⟩)]
  generalize ls.map ce=LD at *;simp -implicitDefEqProofs [Z1n,Z1n_B,au,e1]
end Pe
namespace Pe
open Go Gq
variable {T:Nat→Option Fn} {A:ap}
theorem Ca {p:Int} [IsP p] {m:Fp p} {l:List Int} {ls:List (List Int)}:O0 m (l::ls)↔va m l∧O0 m ls:=by simp [O0]
theorem a59 {p:Int} [IsP p] (m:Fp p):O0 m []:=fun _ h=>by cases h
theorem a17 {O:ap} (hpw:tc O) {p:Int} [IsP p] {m:Fp p} {z:List Int} (hm:m≠0) (hml:m.len≤64):∀(k:Nat) (a:Fp p),k<1000000→a.len≤64 →
 dn O 0 (.loop Z4c_L0) ⟨[(0,(.d (.int .i64 p))),(5,.ptr 0 []),(7,.ptr 1 []),(8,.ptr 2 []),(9,(.d (.int .i64 k)))],[.box false (D.arr 64 .leaf (aq .u8 (pad (row a)))),.box false (D.arr 64 .leaf (aq .u8 (pad (row m)))),.box false (D.arr 64 .leaf (aq .u8 z))]⟩ =
  some (.exit 0,⟨[(0,(.d (.int .i64 p))),(5,.ptr 0 []),(7,.ptr 1 []),(8,.ptr 2 []),(9,(.d (.int .i64 0))),(15,(.d (.bool false)))],[.box false (D.arr 64 .leaf (aq .u8 (pad (row (ep m k a))))),.box false (D.arr 64 .leaf (aq .u8 (pad (row m)))),.box false (D.arr 64 .leaf (aq .u8 z))]⟩)
 | 0,a,hk,ha=>by
  refine cg ?_;show _=some (_,(⟨_,[.box false (D.arr 64 .leaf (aq .u8 (pad (row a)))),_,_]⟩:St));generalize pad (row a)=Pa at *;generalize pad (row m)=Pm at *;simp -implicitDefEqProofs [Z4c_L0,au]
 | k+1,a,hk,ha=>by
  have hp:=IsP.pos (p:=p);have hp7:=IsP.le (p:=p);have w4:IntKind.i64.wrap (((k+1:Nat):Int)-1)=(k:Int):=(w64 (x:=((k+1:Nat):Int)-1) (by omega)).trans (by omega)
  have hlt:(0:Int)<((k+1:Nat):Int):=by omega
  have e1:=hpw p a p m hm ha hml (by omega) (by omega)
  have hl:=Pol.len_mod (pw a p.toNat) hm;refine bq ?_ (a17 hpw hm hml k (pw a p.toNat%m) (by omega) (by omega))
  generalize ((k+1:Nat):Int)=k1 at *;generalize pad (row (pw a p.toNat%m))=R at *;generalize pad (row a)=Pa at *;generalize pad (row m)=Pm at *;simp -implicitDefEqProofs [Z4c_L0,au,hlt,e1,w4]
def pn (O:ap):Prop:=∀(p:Int) [IsP p] (m a:Fp p) (k:Nat),2≤m.len→m.len≤64→a.len≤64→k<1000000→ask O F4c [(D.int .i64 p),(D.arr 64 .leaf (aq .u8 (pad (row a)))),(D.int .i64 k),(D.arr 64 .leaf (aq .u8 (pad (row m))))]=some (D.arr 64 .leaf (aq .u8 (pad (row (ep m (k%(m.len-1)) a)))))
theorem ab4 (hT:T F4c=some Z4c) (hpw:tc (den T A)) (hdg:kb (den T A)):pn (den T A):=by
 intro p ip m a k h2 hml ha hk;have hm:m≠0:=fun h=>by rw [h,Pol.len_zero] at h2; omega
 have e1:=hdg p m hml;rw [show ((m.len:Int)-1)=((m.len-1:Nat):Int) by omega] at e1
 have hlt:=Nat.mod_lt k (show 0<m.len-1 by omega)
 have e2:=a17 (O:=den T A) (z:=pad []) hpw hm hml (k%(m.len-1)) a (by omega) ha
 have w1:(k:Int).tmod ((m.len-1:Nat):Int)=((k%(m.len-1):Nat):Int):=by rw [dj (by omega)]; rfl
 have h0:((m.len-1:Nat):Int)≠0:=by omega
 refine ch hT rfl ?_;generalize pad (row (ep m (k%(m.len-1)) a))=R at *;generalize ((k%(m.len-1):Nat):Int)=n1 at *;generalize ((m.len-1:Nat):Int)=m1 at *;generalize pad (row a)=Pa at *;generalize pad (row m)=Pm at *;simp -implicitDefEqProofs [Z4c,Z4c_B,e1,e2,w1,h0,List.replicate]
section
variable {p:Int}
open Classical in
noncomputable def stl (S:List (Fp p)):Nat→Nat
 | 0=>0
 | n+1=>if S[n]? = some 0 then stl S n else n+1
noncomputable def jp (S:List (Fp p)):List (Fp p):=S.take (stl S S.length)
theorem E1 (S:List (Fp p)):∀n,stl S n≤n
 | 0=>bp 0
 | n+1=>by
  unfold stl
  split
  ·have:=E1 S n; omega
  ·omega
theorem Lv (S:List (Fp p)):∀n j,stl S n≤j→j<n→S[j]? = some 0
 | 0,j,_,h=>by omega
 | n+1,j,h1,h2=>by
  unfold stl at h1
  split at h1
  ·rename_i h0
   by_cases hj:j=n
   ·rw [hj]; exact h0
   ·exact Lv S n j h1 (by omega)
  ·omega
end
section
variable {p:Int} [IsP p]
theorem Ql {m x:Fp p} (hm:m≠0):∀(i:Nat) (S:List (Fp p)) (out:Fp p),(∀a∈S,a=0)→svI m x i S out=out
 | _,[],_,_=>rfl
 | i,c::cs,out,h=>by
  have hc:=h c (by simp)
  subst hc;show svI m x (i+1) cs (out+0*ep m (i%(m.len-1)) x%m)=out;rw [Gq.zero_mul,Pol.zero_mod hm,Gq.add_zero];exact Ql hm (i+1) cs out fun a ha=>h a (by simp [ha])
theorem M6 {m x:Fp p}:∀(i:Nat) (S R:List (Fp p)) (out:Fp p),svI m x i (S++R) out=svI m x (i+S.length) R (svI m x i S out)
 | _,[],_,_=>rfl
 | i,c::cs,R,out=>by
  show svI m x (i+1) (cs++R) _=svI m x (i+(cs.length+1)) R (svI m x (i+1) cs _);rw [M6 (i+1) cs R,show i+(cs.length+1)=i+1+cs.length by omega]
theorem Ve {m x:Fp p} (hm:m≠0) (S:List (Fp p)):svI m x 0 (jp S) 0=svI m x 0 S 0:=by
 have e:=M6 (m:=m) (x:=x) 0 (S.take (stl S S.length)) (S.drop (stl S S.length)) 0;rw [i9] at e
 have hz:∀a∈S.drop (stl S S.length),a=0:=by
  intro a ha;obtain ⟨j,hj,rfl⟩:=jk ha;rw [fo] at hj;have:=Lv S S.length (stl S S.length+j) (by omega) (by omega)
  rw [List.getElem_drop];rw [af (by omega)] at this
  exact b6 this
 rw [e,Ql hm _ _ _ hz];rfl
end
theorem Ug {O:ap} {p:Int} [IsP p] {S:List (Fp p)} (hS:S.length<100000):∀n:Nat,n≤S.length →
 dn O 0 (.loop Z1y_L0) ⟨[(0,.d (skD S)),(3,(.d (.int .i64 n)))],[]⟩=some (.exit 0,⟨[(0,.d (skD S)),(3,(.d (.int .i64 (stl S n)))),(16,(.d (.bool false)))],[]⟩)
 | 0,_=>cg (by simp -implicitDefEqProofs [Z1y_L0,au,stl])
 | n+1,hn=>by
  have hlt:n<S.length:=by omega
  have w1:IntKind.i64.wrap (((n+1:Nat):Int)-1)=(n:Int):=(w64 (x:=((n+1:Nat):Int)-1) (by omega)).trans (by omega)
  have h0:(0:Int)<((n+1:Nat):Int):=by omega
  unfold stl
  by_cases hz:S[n]? = some 0
  ·rw [if_pos hz]
   rw [af hlt] at hz;have hz':S[n]=0:=b6 hz;have hlen:(S[n]).len=0:=by rw [hz',Pol.len_zero]
   refine bq ?_ (Ug hS n (by omega))
   generalize ((n+1:Nat):Int)=n1 at *;simp -implicitDefEqProofs [Z1y_L0,au,hlt,w1,h0,hlen]
  ·rw [if_neg hz]
   rw [af hlt] at hz;have hlen:(S[n]).len≠0:=fun h=>hz (by rw [Pol.len_zero_iff.1 h])
   refine cg ?_;generalize ((n+1:Nat):Int)=n1 at *;simp -implicitDefEqProofs [Z1y_L0,au,hlt,w1,h0,hlen]
def Lp (O:ap):Prop:=∀(p:Int) [IsP p] (S:List (Fp p)),S.length<100000→ask O F1y [skD S]=some (skD (jp S))
theorem a87 (hT:T F1y=some Z1y):Lp (den T A):=by
 intro p ip S hS;have e:=Ug (O:=den T A) hS S.length (bp _);have hle:=E1 S S.length;have hL:(S.map fun c=>(D.sl .leaf (aq .i64 (row c)))).length=S.length:=ab ..
 have e9:skD (jp S)=.sl .leaf ((S.map fun c=>(D.sl .leaf (aq .i64 (row c)))).take (stl S S.length)):=by unfold jp; rw [←List.map_take]
 have e8:skD S=.sl .leaf (S.map fun c=>(D.sl .leaf (aq .i64 (row c)))):=rfl
 rw [e9];rw [e8] at e ⊢;refine ch hT rfl ?_;generalize stl S S.length=n at *;generalize (S.map fun c=>(D.sl .leaf (aq .i64 (row c))))=LD at *
 generalize S.length=sl at *;subst hL;simp -implicitDefEqProofs [Z1y,Z1y_B,e,hle]
theorem rz {p:Int} [IsP p] {m:Fp p}:∀{ls:List (List Int)},O0 m ls→∃S:List (Fp p),ls=S.map (fun a=>pad (row a))∧∀a∈S,a.len<m.len
 | [],_=>⟨[],rfl,fun _ h=>by cases h⟩
 | l::ls,h=>by
  obtain ⟨h1,h2⟩:=Ca.1 h;obtain ⟨a,ha,rfl⟩:=h1;obtain ⟨S,rfl,hS⟩:=rz h2;exact ⟨a::S,rfl,by simpa using ⟨ha,hS⟩⟩
noncomputable abbrev skP {p:Int} (S:List (Fp p)):List (List Int):=S.map fun a=>pad (row a)
theorem O1 {O:ap} (hfr:pn O) (hmm:lf O) (ha:lk O) {p:Int} [IsP p] {m x:Fp p} {z:List Int} (h2:2≤m.len) (hml:m.len≤64) (hx:x.len<m.len) {S:List (Fp p)} (h8:S.length=8) (hS:∀a∈S,a.len<m.len):∀(k i:Nat) (out:Fp p),i+k=8→out.len<m.len →
 dn O 0 (.loop Z4l_L0) ⟨[(0,(.d (.int .i64 p))),(5,.ptr 0 []),(6,.ptr 1 []),(7,.ptr 2 []),(8,.ptr 3 []),(9,.ptr 4 []),(10,(.d (.int .i64 i)))],[.box false (D.arr 64 .leaf (aq .u8 (pad (row m)))),.box false (.arr 8 (.arr 64 .leaf) ((skP S).map ce)),.box false (D.arr 64 .leaf (aq .u8 (pad (row x)))),.box false (D.arr 64 .leaf (aq .u8 z)),.box false (D.arr 64 .leaf (aq .u8 (pad (row out))))]⟩ =
  some (.exit 0,⟨[(0,(.d (.int .i64 p))),(5,.ptr 0 []),(6,.ptr 1 []),(7,.ptr 2 []),(8,.ptr 3 []),(9,.ptr 4 []),(10,(.d (.int .i64 8))),(13,(.d (.bool false)))],[.box false (D.arr 64 .leaf (aq .u8 (pad (row m)))),.box false (.arr 8 (.arr 64 .leaf) ((skP S).map ce)),.box false (D.arr 64 .leaf (aq .u8 (pad (row x)))),.box false (D.arr 64 .leaf (aq .u8 z)),.box false (D.arr 64 .leaf (aq .u8 (pad (row (svI m x i (S.drop i) out)))))]⟩)
 | 0,i,out,hi,ho=>by
  obtain rfl:i=8:=by omega
  rw [i5 (by omega)]
  refine cg ?_;show _=some (_,(⟨_,[_,_,_,_,.box false (D.arr 64 .leaf (aq .u8 (pad (row out))))]⟩:St));generalize (skP S).map ce=LD at *;generalize pad (row out)=Po at *;generalize pad (row x)=Px at *;generalize pad (row m)=Pm at *;simp -implicitDefEqProofs [Z4l_L0,au]
 | k+1,i,out,hi,ho=>by
  have hm:m≠0:=fun h=>by rw [h,Pol.len_zero] at h2; omega
  have hi8:i<8:=by omega
  have hi8':(i:Int)<8:=by omega
  have hlt:i<S.length:=by omega
  have hm1:=bb hlt;have hsl:=hS _ hm1;have hL:((skP S).map ce).length=8:=by rw [ab,ab]; exact h8
  have hx2:∀h:i<((skP S).map ce).length,((skP S).map ce)[i]'h=(D.arr 64 .leaf (aq .u8 (pad (row S[i])))):=fun h=>by rw [ci,ci]
  have w4:IntKind.i64.wrap ((i:Int)+1)=((i+1:Nat):Int):=(w64 (x:=(i:Int)+1) (by omega)).trans (by omega)
  have t3:pad (row S[i])=pad []↔S[i]=0:=by
   rw [←row_zero (p:=p),qa (by omega) (by rw [Pol.len_zero]; omega)]
  have e4:=Ov (dc (row S[i])) (dc []);have hd:S.drop i=S[i]::S.drop (i+1):=cd hlt;have hsv:svI m x i (S.drop i) out=svI m x (i+1) (S.drop (i+1)) (out+S[i]*ep m (i%(m.len-1)) x%m):=by rw [hd]; rfl
  rw [hsv]
  by_cases hz:S[i]=0
  ·rw [decide_eq_true (t3.2 hz)] at e4
   have hsame:out+S[i]*ep m (i%(m.len-1)) x%m=out:=by rw [hz,Gq.zero_mul,Pol.zero_mod hm,Gq.add_zero]
   rw [hsame];refine bq ?_ (O1 hfr hmm ha h2 hml hx h8 hS k (i+1) out (by omega) ho)
   generalize (skP S).map ce=LD at *;generalize pad (row S[i])=Pi at *;generalize pad (row out)=Po at *;generalize pad (row x)=Px at *;generalize pad (row m)=Pm at *;simp -implicitDefEqProofs [Z4l_L0,au,hi8,hi8',hL,hx2,e4,w4]
  ·rw [decide_eq_false (fun h=>hz (t3.1 h))] at e4
   have e1:=hfr p m x i h2 hml (by omega) (by omega)
   have hfl:=ox hm (i%(m.len-1)) x hx;have e2:=hmm p S[i] (ep m (i%(m.len-1)) x) m hm hml (by omega) (by omega)
   have hl:=Pol.len_mod (S[i]*ep m (i%(m.len-1)) x) hm;have e3:=ha p 1 out (S[i]*ep m (i%(m.len-1)) x%m) (by omega) (by omega) (by omega) (by omega)
   rw [Bg,Pol.C_one,Gq.one_mul] at e3;have hl2:=Pol.len_add_le (a:=out) (b:=S[i]*ep m (i%(m.len-1)) x%m) (n:=m.len-1) (by omega) (by omega)
   refine bq ?_ (O1 hfr hmm ha h2 hml hx h8 hS k (i+1) _ (by omega) (by omega))
   generalize pad (row (out+S[i]*ep m (i%(m.len-1)) x%m))=P1 at *;generalize pad (row (S[i]*ep m (i%(m.len-1)) x%m))=P2 at *;generalize pad (row (ep m (i%(m.len-1)) x))=P3 at *;generalize (skP S).map ce=LD at *;generalize pad (row S[i])=Pi at *;generalize pad (row out)=Po at *;generalize pad (row x)=Px at *;generalize pad (row m)=Pm at *;simp -implicitDefEqProofs [Z4l_L0,au,hi8,hi8',hL,hx2,e1,e2,e3,e4,w4]
def Gb (O:ap):Prop:=∀(p:Int) [IsP p] (m x:Fp p) (S:List (Fp p)),2≤m.len→m.len≤64→x.len<m.len→S.length=8→(∀a∈S,a.len<m.len)→ask O F4l [(D.int .i64 p),(D.arr 64 .leaf (aq .u8 (pad (row m)))),vg (skP S),(D.arr 64 .leaf (aq .u8 (pad (row x))))]=some (D.arr 64 .leaf (aq .u8 (pad (row (svI m x 0 S 0)))))
theorem a6f (hT:T F4l=some Z4l) (hfr:pn (den T A)) (hmm:lf (den T A)) (ha:lk (den T A)):Gb (den T A):=by
 intro p ip m x S h2 hml hx h8 hS;have e:=O1 (O:=den T A) (z:=pad []) hfr hmm ha h2 hml hx h8 hS 8 0 0 rfl (by rw [Pol.len_zero]; omega)
 have e00:((0:Nat):Int)=0:=rfl;rw [e00,dm,row_zero] at e;have hsk:vg (skP S)=.arr 8 (.arr 64 .leaf) ((skP S).map ce):=rfl;rw [hsk];refine ch hT rfl ?_;generalize (skP S).map ce=LD at *;generalize pad (row (svI m x 0 S 0))=PR at *;generalize pad (row x)=Px at *;generalize pad (row m)=Pm at *;simp -implicitDefEqProofs [Z4l,Z4l_B,e,List.replicate]
theorem mc {p:Int} {S:List (Fp p)} (hS:∀a∈S,a.len≤64):(skP S).map (fc p)=S:=by
 unfold skP;rw [k8]
 conv=>rhs; rw [←List.map_id S]
 exact List.map_congr_left fun a ha=>pe (hS a ha)
theorem a2q (p:Int) (l:List Int) (ls:List (List Int)):oo p l ls=0∨oo p l ls=1:=by
 unfold oo; split
 ·exact .inl rfl
 ·exact .inr rfl
theorem su:∀ls:List (List Int),D.flats (ls.map ce)=true
 | []=>rfl
 | l::ls=>by
  show (D.flats (aq .u8 l)&&D.flats (ls.map ce))=true;rw [su ls,Mf]; rfl
section
variable {p:Int}
noncomputable def jd (Q:List (Fp p)) (n:Nat) (v:Fp p):List (Fp p):=Q.set n ((Q[n]?).getD 0+v)
theorem qv (Q:List (Fp p)) (n:Nat) (v:Fp p):(jd Q n v).length=Q.length:=by unfold jd; rw [db]
end
section
variable {p:Int} [IsP p]
noncomputable def mg (m x:Fp p) (i:Nat):Nat→List (Fp p)→List (Fp p)→List (Fp p)
 | _,[],Q=>Q
 | k,y::ys,Q=>mg m x i (k+1) ys (jd Q (i+k) (x*ep m (i%(m.len-1)) y%m))
noncomputable def mh (m:Fp p) (b:List (Fp p)):Nat→List (Fp p)→List (Fp p)→List (Fp p)
 | _,[],Q=>Q
 | i,x::xs,Q=>mh m b (i+1) xs (mg m x i 0 b Q)
theorem oa (m x:Fp p) (i:Nat):∀(k:Nat) (b Q:List (Fp p)),(mg m x i k b Q).length=Q.length
 | _,[],_=>rfl
 | k,y::ys,Q=>by
  show (mg m x i (k+1) ys (jd Q (i+k) _)).length=_;rw [oa,qv]
theorem mi (m:Fp p) (b:List (Fp p)):∀(i:Nat) (a Q:List (Fp p)),(mh m b i a Q).length=Q.length
 | _,[],_=>rfl
 | i,x::xs,Q=>by
  show (mh m b (i+1) xs (mg m x i 0 b Q)).length=_;rw [mi,oa]
end
theorem Vo {O:ap} {p:Int} [IsP p] {S:List (Fp p)} (h8:S.length=8) (hS:∀a∈S,a.len≤64):∀n:Nat,n≤8 →
 dn O 0 (.loop Z48_L0) ⟨[(1,.ptr 0 []),(3,(.d (.int .i64 ((n:Int)-1))))],[.box false (.arr 8 (.arr 64 .leaf) ((skP S).map ce))]⟩ =
  some (.exit 0,⟨[(1,.ptr 0 []),(3,(.d (.int .i64 (((stl S n:Nat):Int)-1)))),(12,(.d (.bool false)))],[.box false (.arr 8 (.arr 64 .leaf) ((skP S).map ce))]⟩)
 | 0,_=>by
  refine cg ?_;show _=some (_,(⟨[_,(3,(.d (.int .i64 (((0:Nat):Int)-1)))),_],_⟩:St));generalize (skP S).map ce=LD at *;simp -implicitDefEqProofs [Z48_L0,au]
 | n+1,hn=>by
  have hlt:n<S.length:=by omega
  have hi8:n<8:=by omega
  have hm1:=bb hlt;have hsl:=hS _ hm1;have hL:((skP S).map ce).length=8:=by rw [ab,ab]; exact h8
  have hx2:∀h:n<((skP S).map ce).length,((skP S).map ce)[n]'h=(D.arr 64 .leaf (aq .u8 (pad (row S[n])))):=fun h=>by rw [ci,ci]
  have t3:pad (row S[n])=pad []↔S[n]=0:=by
   rw [←row_zero (p:=p),qa hsl (by rw [Pol.len_zero]; omega)]
  have e4:=Ov (dc (row S[n])) (dc []);have t0:((n+1:Nat):Int)-1=(n:Int):=by omega
  have w1:IntKind.i64.wrap ((n:Int)-1)=(n:Int)-1:=w64 (by omega)
  rw [t0];unfold stl
  by_cases hz:S[n]=0
  ·rw [if_pos (by rw [af hlt,hz])]
   rw [decide_eq_true (t3.2 hz)] at e4;refine bq ?_ (Vo h8 hS n (by omega))
   generalize (skP S).map ce=LD at *;generalize pad (row S[n])=Pn at *;simp -implicitDefEqProofs [Z48_L0,au,hi8,hL,hx2,e4,w1]
  ·rw [if_neg (by rw [af hlt]; simpa using hz)]
   rw [decide_eq_false (fun h=>hz (t3.1 h))] at e4
   rw [t0];refine cg ?_;generalize (skP S).map ce=LD at *;generalize pad (row S[n])=Pn at *;simp -implicitDefEqProofs [Z48_L0,au,hi8,hL,hx2,e4]
def E9 (O:ap):Prop:=∀(p:Int) [IsP p] (S:List (Fp p)),S.length=8→(∀a∈S,a.len≤64)→ask O F48 [vg (skP S)]=some (D.int .i64 (((stl S 8:Nat):Int)-1))
theorem a96 (hT:T F48=some Z48):E9 (den T A):=by
 intro p ip S h8 hS;have e:=Vo (O:=den T A) h8 hS 8 (bp _);have e0:((8:Nat):Int)-1=7:=rfl;rw [e0] at e;have hsk:vg (skP S)=.arr 8 (.arr 64 .leaf) ((skP S).map ce):=rfl;rw [hsk];refine ch hT rfl ?_;generalize (skP S).map ce=LD at *;simp -implicitDefEqProofs [Z48,Z48_B,e]
def Td (O:ap):Prop:=∀(p:Int) [IsP p] (S:List (Fp p)),S.length<100000→ask O F1x [skD S]=some (D.int .i64 ((S.length:Int)-1))
theorem ab3 (hT:T F1x=some Z1x):Td (den T A):=by
 intro p ip S hS;have w1:IntKind.i64.wrap ((S.length:Int)-1)=(S.length:Int)-1:=w64 (by omega)
 refine ch hT rfl ?_;simp -implicitDefEqProofs [Z1x,Z1x_B,w1]
noncomputable def pd8 {p:Int} (S:List (Fp p)):List (Fp p):=S++List.replicate (8-S.length) 0
theorem Ur {O:ap} (hpo:Hk O) {p:Int} [IsP p] {S:List (Fp p)} (h8:S.length≤8) (hS:∀a∈S,a.len≤64) {b0:Blk}:∀(k i:Nat),i+k=S.length →
 dn O 0 (.loop ir_impl_toldSkew_L0) ⟨[(2,.ptr 0 []),(4,.ptr 1 []),(11,.d (skD S)),(12,(.d (.int .i64 S.length))),(13,(.d (.int .i64 i)))],[b0,.box false (.arr 8 (.arr 64 .leaf) ((skP (pd8 (S.take i))).map ce))]⟩ =
  some (.exit 0,⟨[(2,.ptr 0 []),(4,.ptr 1 []),(11,.d (skD S)),(12,(.d (.int .i64 S.length))),(13,(.d (.int .i64 S.length))),(14,(.d (.bool false)))],[b0,.box false (.arr 8 (.arr 64 .leaf) ((skP (pd8 S)).map ce))]⟩)
 | 0,i,hi=>by
  obtain rfl:i=S.length:=by omega
  rw [gq];refine cg ?_;generalize (skP (pd8 S)).map ce=LD at *;simp -implicitDefEqProofs [ir_impl_toldSkew_L0,au]
 | k+1,i,hi=>by
  have hlt:i<S.length:=by omega
  have hi8:i<8:=by omega
  have hm1:=bb hlt;have e1:=hpo p S[i] (hS _ hm1);have w4:IntKind.i64.wrap ((i:Int)+1)=((i+1:Nat):Int):=(w64 (x:=(i:Int)+1) (by omega)).trans (by omega)
  have hnew:(skP (pd8 (S.take (i+1)))).map ce=((skP (pd8 (S.take i))).map ce).set i (D.arr 64 .leaf (aq .u8 (pad (row S[i])))):=by
   have hp:pd8 (S.take (i+1))=(pd8 (S.take i)).set i S[i]:=by
    unfold pd8;have l1:(S.take i).length=i:=by rw [bj]; omega
    have l2:(S.take (i+1)).length=i+1:=by rw [bj]; omega
    rw [l1,l2,pk _ _ (by omega),l1,jh,show 8-i=(8-(i+1))+1 by omega,List.replicate_succ,List.set_cons_zero,d8 hlt,ee]
    rfl
   rw [hp];unfold skP;rw [mn,mn]
  have hL:((skP (pd8 (S.take i))).map ce).length=8:=by
   rw [ab,ab];unfold pd8;rw [b8,cw,bj]; omega
  have hsh:∀h:i<((skP (pd8 (S.take i))).map ce).length,(((skP (pd8 (S.take i))).map ce)[i]'h).sh.beq (.arr 64 .leaf)=true:=fun h=>by rw [ci]; rfl
  have ih:=Ur hpo h8 hS (b0:=b0) k (i+1) (by omega)
  rw [hnew] at ih;refine bq ?_ ih;generalize (skP (pd8 (S.take i))).map ce=LD at *;generalize pad (row S[i])=Pi at *;simp -implicitDefEqProofs [ir_impl_toldSkew_L0,au,hlt,hi8,hL,hsh,e1,w4]
noncomputable def T1 {p:Int} (S:List (Fp p)):D:=if S.length≤8 then .tup [vg (skP (pd8 S)),(D.int .i64 0)] else .tup [vg (skP (pd8 ([]:List (Fp p)))),(D.int .i64 3)]
theorem adj {p:Int}:z8=(skP (pd8 ([]:List (Fp p)))).map ce:=by
 unfold pd8 skP;rw [d9,gz,gz,row_zero];rfl
def N9 (O:ap):Prop:=∀(p:Int) [IsP p] (S:List (Fp p)),S.length<100000→(∀a∈S,a.len≤64)→ask O F20 [skD S]=some (T1 S)
theorem a6b (hT:T F20=some Z20) (hdg:Td (den T A)) (hpo:Hk (den T A)):N9 (den T A):=by
 intro p ip S hl hS;have e1:=hdg p S hl;unfold T1;refine ch hT rfl ?_
 by_cases h8:S.length≤8
 ·rw [if_pos h8]
  have e2:=Ur (O:=den T A) hpo h8 hS (b0:=.box false (.arr 8 (.arr 64 .leaf) z8)) S.length 0 (br _);have e00:((0:Nat):Int)=0:=rfl;rw [e00,fd,←adj] at e2;have hlt:¬ ((7:Int)<(S.length:Int)-1):=by omega
  have hsk:vg (skP (pd8 S))=.arr 8 (.arr 64 .leaf) ((skP (pd8 S)).map ce):=rfl;rw [hsk];have hsd:skD S=.sl .leaf (S.map fun c=>(D.sl .leaf (aq .i64 (row c)))):=rfl
  have hL:(S.map fun c=>(D.sl .leaf (aq .i64 (row c)))).length=S.length:=ab ..
  rw [hsd] at e1 e2 ⊢;generalize (skP (pd8 S)).map ce=LD at *;generalize (S.map fun c=>(D.sl .leaf (aq .i64 (row c))))=LR at *
  generalize (S.length:Int)-1=m1 at *;simp -implicitDefEqProofs [Z20,ir_impl_toldSkew_B,au,e1,e2,hlt,hL,List.replicate]
 ·rw [if_neg h8]
  have hlt:(7:Int)<(S.length:Int)-1:=by omega
  have hsk:vg (skP (pd8 ([]:List (Fp p))))=.arr 8 (.arr 64 .leaf) z8:=by rw [adj (p:=p)]
  rw [hsk];have hsd:skD S=.sl .leaf (S.map fun c=>(D.sl .leaf (aq .i64 (row c)))):=rfl
  rw [hsd] at e1 ⊢;generalize (S.map fun c=>(D.sl .leaf (aq .i64 (row c))))=LR at *
  generalize (S.length:Int)-1=m1 at *;simp -implicitDefEqProofs [Z20,ir_impl_toldSkew_B,au,e1,hlt,List.replicate]
theorem a37 {p:Int} [IsP p] {m y:Fp p} (hm:m≠0) (hml:m.len≤64) (hy:y.len≤64) (k:Nat):(ep m k y).len≤64:=by
 cases k with
 | zero=>exact hy
 | succ k=>
  have:=ox hm k (pw y p.toNat%m) (Pol.len_mod _ hm);show (ep m k (pw y p.toNat%m)).len≤64;omega
theorem ad4 {O:ap} (hfr:v8 O) (hpr:nk O) (hco:si O) {p:Int} [IsP p] {m x:Fp p} {a b:List (Fp p)} (h2:2≤m.len) (hml:m.len≤64) (hx:x.len≤64) (hb:∀c∈b,c.len≤64) {N i:Nat} (hN:N<100000) (hi:i+b.length≤N) {cp:Option Nat}:∀(r k:Nat) (Q:List (Fp p)),k+r=b.length→Q.length=N→(∀c∈Q,c.len≤64) →
 (∀c∈mg m x i k (b.drop k) Q,c.len≤64) ∧
 dn O 0 (.loop Zk_L0) ⟨[(2,.d (skD b)),(3,.ptr 0 []),(7,.sl 1 [] 0 N cp),(8,(.d (.int .i64 i))),(9,(.d (.sl .leaf (aq .i64 (row x))))),(27,.d (skD a)),(28,(.d (.int .i64 a.length))),(29,(.d (.int .i64 i))),(34,.d (skD b)),(35,(.d (.int .i64 b.length))),(36,(.d (.int .i64 k)))],[.box false (qf m),.sl false .leaf (Q.map fun c=>(D.sl .leaf (aq .i64 (row c))))]⟩ =
  some (.exit 2,⟨[(2,.d (skD b)),(3,.ptr 0 []),(7,.sl 1 [] 0 N cp),(8,(.d (.int .i64 i))),(9,(.d (.sl .leaf (aq .i64 (row x))))),(27,.d (skD a)),(28,(.d (.int .i64 a.length))),(29,(.d (.int .i64 i))),(34,.d (skD b)),(35,(.d (.int .i64 b.length))),(36,(.d (.int .i64 b.length))),(37,(.d (.bool false)))],[.box false (qf m),.sl false .leaf ((mg m x i k (b.drop k) Q).map fun c=>(D.sl .leaf (aq .i64 (row c))))]⟩)
 | 0,k,Q,hk,hq,hQ=>by
  obtain rfl:k=b.length:=by omega
  rw [fw];refine ⟨hQ,cg ?_⟩;show _=some (_,(⟨_,[_,.sl false .leaf (Q.map fun c=>(D.sl .leaf (aq .i64 (row c))))]⟩:St))
  generalize (Q.map fun c=>(D.sl .leaf (aq .i64 (row c))))=LQ at *
  simp -implicitDefEqProofs [Zk_L0,au]
 | r+1,k,Q,hk,hq,hQ=>by
  have hm:m≠0:=fun h=>by rw [h,Pol.len_zero] at h2; omega
  have hlt:k<b.length:=by omega
  have hm1:=bb hlt;have hbk:=hb _ hm1;have hik:i+k<N:=by omega
  have hikQ:i+k<Q.length:=by omega
  have hq1:=hQ _ (bb hikQ);have w0:IntKind.i64.wrap ((i:Int)+k)=((i+k:Nat):Int):=(w64 (x:=(i:Int)+k) (by omega)).trans (by omega)
  have hs0:(0:Int)≤(i:Int)+k:=by omega
  have hs1:((i:Int)+k).toNat=i+k:=by omega
  have w4:IntKind.i64.wrap ((k:Int)+1)=((k+1:Nat):Int):=(w64 (x:=(k:Int)+1) (by omega)).trans (by omega)
  have e1:=hfr p m b[k] i h2 hml (by omega) (by omega)
  have hfl:=a37 hm hml hbk (i%(m.len-1));have e2:=hpr p m x (ep m (i%(m.len-1)) b[k]) hm hml (by omega) (by omega)
  have hl:=Pol.len_mod (x*ep m (i%(m.len-1)) b[k]) hm;have e3:=hco p Q[i+k] (x*ep m (i%(m.len-1)) b[k]%m) (by omega) (by omega)
  have hl2:=Pol.len_add_le (a:=Q[i+k]) (b:=x*ep m (i%(m.len-1)) b[k]%m) (n:=64) hq1 (by omega)
  have hadd:jd Q (i+k) (x*ep m (i%(m.len-1)) b[k]%m)=Q.set (i+k) (Q[i+k]+x*ep m (i%(m.len-1)) b[k]%m):=by
   unfold jd; rw [af hikQ]; rfl
  have hQ':∀c∈jd Q (i+k) (x*ep m (i%(m.len-1)) b[k]%m),c.len≤64:=fun c hc=>by
   rw [hadd] at hc;rcases ef hc with h | rfl
   ·exact hQ c h
   ·exact hl2
  obtain ⟨g1,ih⟩:=ad4 hfr hpr hco (a:=a) h2 hml hx hb hN hi (cp:=cp) r (k+1) (jd Q (i+k) (x*ep m (i%(m.len-1)) b[k]%m)) (by omega) (by rw [qv]; exact hq) hQ'
  have hby:mg m x i k (b.drop k) Q=mg m x i (k+1) (b.drop (k+1)) (jd Q (i+k) (x*ep m (i%(m.len-1)) b[k]%m)):=by
   rw [cd hlt]; rfl
  rw [hby];refine ⟨g1,bq ?_ ih⟩
  have hset:((jd Q (i+k) (x*ep m (i%(m.len-1)) b[k]%m)).map fun c=>(D.sl .leaf (aq .i64 (row c))))=(Q.map fun c=>(D.sl .leaf (aq .i64 (row c)))).set (i+k) (D.sl .leaf (aq .i64 (row (Q[i+k]+x*ep m (i%(m.len-1)) b[k]%m)))):=by
   rw [hadd,mn]
  rw [hset];have hLQ:(Q.map fun c=>(D.sl .leaf (aq .i64 (row c)))).length=N:=by rw [ab]; exact hq
  have hx2:∀h:i+k<(Q.map fun c=>(D.sl .leaf (aq .i64 (row c)))).length,(Q.map fun c=>(D.sl .leaf (aq .i64 (row c))))[i+k]'h=(D.sl .leaf (aq .i64 (row Q[i+k]))):=fun h=>by rw [ci]
  generalize row (Q[i+k]+x*ep m (i%(m.len-1)) b[k]%m)=R1 at *;generalize row (x*ep m (i%(m.len-1)) b[k]%m)=R2 at *;generalize row (ep m (i%(m.len-1)) b[k])=R3 at *;generalize row Q[i+k]=R4 at *;generalize (Q.map fun c=>(D.sl .leaf (aq .i64 (row c))))=LQ at *
  simp -implicitDefEqProofs [Zk_L0,au,hlt,hik,hs0,hs1,hLQ,hx2,e1,e2,e3,w0,w4]
theorem acx {O:ap} (hfr:v8 O) (hpr:nk O) (hco:si O) {p:Int} [IsP p] {m:Fp p} {a b:List (Fp p)} (h2:2≤m.len) (hml:m.len≤64) (ha:∀c∈a,c.len≤64) (hb:∀c∈b,c.len≤64) {N:Nat} (hN:N<100000) (hab:a.length+b.length≤N+1) (hb1:1≤b.length) {cp:Option Nat}:∀(r i:Nat) (Q:List (Fp p)),i+r=a.length→Q.length=N→(∀c∈Q,c.len≤64) →
 (∀c∈mh m b i (a.drop i) Q,c.len≤64) ∧
 dn O 0 (.loop Zk_L1) ⟨[(2,.d (skD b)),(3,.ptr 0 []),(7,.sl 1 [] 0 N cp),(27,.d (skD a)),(28,(.d (.int .i64 a.length))),(29,(.d (.int .i64 i)))],[.box false (qf m),.sl false .leaf (Q.map fun c=>(D.sl .leaf (aq .i64 (row c))))]⟩ =
  some (.exit 0,⟨[(2,.d (skD b)),(3,.ptr 0 []),(7,.sl 1 [] 0 N cp),(27,.d (skD a)),(28,(.d (.int .i64 a.length))),(29,(.d (.int .i64 a.length))),(30,(.d (.bool false)))],[.box false (qf m),.sl false .leaf ((mh m b i (a.drop i) Q).map fun c=>(D.sl .leaf (aq .i64 (row c))))]⟩)
 | 0,i,Q,hi,hq,hQ=>by
  obtain rfl:i=a.length:=by omega
  rw [fw];refine ⟨hQ,cg ?_⟩;show _=some (_,(⟨_,[_,.sl false .leaf (Q.map fun c=>(D.sl .leaf (aq .i64 (row c))))]⟩:St))
  generalize (Q.map fun c=>(D.sl .leaf (aq .i64 (row c))))=LQ at *
  simp -implicitDefEqProofs [Zk_L1,au]
 | r+1,i,Q,hi,hq,hQ=>by
  have hlt:i<a.length:=by omega
  have hm1:=bb hlt;have w4:IntKind.i64.wrap ((i:Int)+1)=((i+1:Nat):Int):=(w64 (x:=(i:Int)+1) (by omega)).trans (by omega)
  obtain ⟨g1,e1⟩:=ad4 hfr hpr hco (a:=a) h2 hml (ha _ hm1) hb hN (i:=i) (by omega) (cp:=cp) b.length 0 Q (br _) hq hQ
  have e00:((0:Nat):Int)=0:=rfl;rw [e00,dm] at e1;rw [dm] at g1;obtain ⟨g2,ih⟩:=acx hfr hpr hco h2 hml ha hb hN hab hb1 (cp:=cp) r (i+1) (mg m a[i] i 0 b Q) (by omega) (by rw [oa]; exact hq) g1
  have hby:mh m b i (a.drop i) Q=mh m b (i+1) (a.drop (i+1)) (mg m a[i] i 0 b Q):=by
   rw [cd hlt]; rfl
  rw [hby];refine ⟨g2,bq ?_ ih⟩;generalize ((mg m a[i] i 0 b Q).map fun c=>(D.sl .leaf (aq .i64 (row c))))=LQ2 at *
  generalize (Q.map fun c=>(D.sl .leaf (aq .i64 (row c))))=LQ at *
  simp -implicitDefEqProofs [Zk_L1,au,hlt,e1,w4]
noncomputable def tw {p:Int} [IsP p] (m:Fp p) (a b:List (Fp p)):List (Fp p):=mh m b 0 a (List.replicate (a.length+b.length-1) 0)
def adw (O:ap):Prop:=∀(p:Int) [IsP p] (m:Fp p) (a b:List (Fp p)),2≤m.len→m.len≤64→(∀c∈a,c.len≤64)→(∀c∈b,c.len≤64)→a.length<10000→b.length<10000 →
 ask O Fk [qf m,skD a,skD b]=some (if a.length=0∨b.length=0 then skD ([]:List (Fp p)) else skD (jp (tw m a b)))
theorem ap4 (hT:T Fk=some Zk) (hfr:v8 (den T A)) (hpr:nk (den T A)) (hco:si (den T A)) (htr:Lp (den T A)):adw (den T A):=by
 intro p ip m a b h2 hml ha hb hal hbl;have hsa:skD a=.sl .leaf (a.map fun c=>(D.sl .leaf (aq .i64 (row c)))):=rfl
 have hsb:skD b=.sl .leaf (b.map fun c=>(D.sl .leaf (aq .i64 (row c)))):=rfl
 have hLa:(a.map fun c=>(D.sl .leaf (aq .i64 (row c)))).length=a.length:=ab ..
 have hLb:(b.map fun c=>(D.sl .leaf (aq .i64 (row c)))).length=b.length:=ab ..
 by_cases h0:a.length=0∨b.length=0
 ·rw [if_pos h0,hsa,hsb]
  refine ch hT rfl ?_;generalize (a.map fun c=>(D.sl .leaf (aq .i64 (row c))))=LA at *
  generalize (b.map fun c=>(D.sl .leaf (aq .i64 (row c))))=LB at *
  rcases h0 with h0 | h0
  ·rw [h0] at hLa
   simp -implicitDefEqProofs [Zk,Zk_B,au,hLa,List.replicate]
  ·rw [h0] at hLb
   by_cases h1:LA.length=0
   ·simp -implicitDefEqProofs [Zk,Zk_B,au,h1,List.replicate]
   ·simp -implicitDefEqProofs [Zk,Zk_B,au,h1,hLb,List.replicate]
 ·rw [if_neg h0]
  have ha1:1≤a.length:=by omega
  have hb1:1≤b.length:=by omega
  have hz:((List.replicate (a.length+b.length-1) (0:Fp p)).map fun c=>(D.sl .leaf (aq .i64 (row c))))=List.replicate (a.length+b.length-1) (.sl .leaf []):=by rw [gz,row_zero,iu]
  have hl0:∀c∈List.replicate (a.length+b.length-1) (0:Fp p),c.len≤64:=fun c hc=>by rw [k9 hc,Pol.len_zero]; omega
  obtain ⟨g1,e1⟩:=acx (O:=den T A) hfr hpr hco h2 hml ha hb (N:=a.length+b.length-1) (by omega) (by omega) hb1 (cp:=some (a.length+b.length-1)) a.length 0 (List.replicate (a.length+b.length-1) 0) (br _) (cw ..) hl0
  have e00:((0:Nat):Int)=0:=rfl;have em:mh m b 0 (a.drop 0) (List.replicate (a.length+b.length-1) 0)=tw m a b:=by rw [dm]; rfl
  rw [e00,em,hz] at e1;have hml2:(tw m a b).length=a.length+b.length-1:=by unfold tw; rw [mi,cw]
  have e2:=htr p (tw m a b) (by omega)
  have hsm:skD (tw m a b)=.sl .leaf ((tw m a b).map fun c=>(D.sl .leaf (aq .i64 (row c)))):=rfl
  have hLm:((tw m a b).map fun c=>(D.sl .leaf (aq .i64 (row c)))).length=a.length+b.length-1:=by rw [ab]; exact hml2
  have ht:((tw m a b).map fun c=>(D.sl .leaf (aq .i64 (row c)))).take (a.length+b.length-1)=((tw m a b).map fun c=>(D.sl .leaf (aq .i64 (row c)))):=b7 (by omega)
  rw [hsm] at e2;have n1:¬ ((a.length:Int)=0):=by omega
  have n2:¬ ((b.length:Int)=0):=by omega
  have n1':a.length≠0:=by omega
  have n2':b.length≠0:=by omega
  have w1:IntKind.i64.wrap ((a.length:Int)+b.length)=(a.length:Int)+b.length:=w64 (by omega)
  have w2:IntKind.i64.wrap ((a.length:Int)+b.length-1)=((a.length+b.length-1:Nat):Int):=(w64 (by omega)).trans (by omega)
  have h24:(a.length+b.length-1)*24≤1099511627776:=by omega
  generalize skD (jp (tw m a b))=TD at *;rw [hsa,hsb] at e1 ⊢;refine ch hT rfl ?_;generalize ((tw m a b).map fun c=>(D.sl .leaf (aq .i64 (row c))))=LM at *
  generalize (a.map fun c=>(D.sl .leaf (aq .i64 (row c))))=LA at *
  generalize (b.map fun c=>(D.sl .leaf (aq .i64 (row c))))=LB at *
  generalize a.length+b.length-1=N at *;simp -implicitDefEqProofs [Zk,Zk_B,au,hLa,hLb,n1',n2',w1,w2,h24,e1,e2,hLm,ht,List.replicate]
theorem S3 {p:Int} {S:List (Fp p)} {i:Nat} (hi:i<S.length):∀h:i<((skP S).map ce).length,((skP S).map ce)[i]'h=(D.arr 64 .leaf (aq .u8 (pad (row S[i])))):=fun h=>by rw [ci,ci]
theorem R7 {p:Int} (S:List (Fp p)):((skP S).map ce).length=S.length:=by rw [ab,ab]
theorem a70 {O:ap} (hfr:pn O) (hmm:lf O) (had:lk O) {p:Int} [IsP p] {m:Fp p} {S R:List (Fp p)} {z:List D} {vn:V} (hvn:vn.refs=[]) (h2:2≤m.len) (hml:m.len≤64) (hS8:S.length=8) (hR8:R.length=8) (hS:∀c∈S,c.len<m.len) (hR:∀c∈R,c.len<m.len) {i nb:Nat} (hi:i<8) (hnb:i+nb≤8) (hnb1:1≤nb) {x:Fp p} (hx:S[i]? = some x):∀(r j:Nat) (Q:List (Fp p)),j+r=nb→Q.length=8→(∀c∈Q,c.len<m.len) →
 (∀c∈mg m x i j ((R.take nb).drop j) Q,c.len<m.len) ∧
 dn O 0 (.loop Z4k_L0) ⟨[(0,(.d (.int .i64 p))),(5,.ptr 0 []),(6,.ptr 1 []),(7,.ptr 2 []),(8,.ptr 3 []),(10,vn),(11,(.d (.int .i64 (((nb-1:Nat):Int))))),(12,.ptr 4 []),(13,(.d (.int .i64 i))),(14,(.d (.int .i64 j)))],[.box false (D.arr 64 .leaf (aq .u8 (pad (row m)))),.box false (.arr 8 (.arr 64 .leaf) ((skP S).map ce)),.box false (.arr 8 (.arr 64 .leaf) ((skP R).map ce)),.box false (.arr 8 (.arr 64 .leaf) z),.box false (.arr 8 (.arr 64 .leaf) ((skP Q).map ce)),.hole]⟩ =
  some (.exit 2,⟨[(0,(.d (.int .i64 p))),(5,.ptr 0 []),(6,.ptr 1 []),(7,.ptr 2 []),(8,.ptr 3 []),(10,vn),(11,(.d (.int .i64 (((nb-1:Nat):Int))))),(12,.ptr 4 []),(13,(.d (.int .i64 i))),(14,(.d (.int .i64 nb))),(40,(.d (.bool false)))],[.box false (D.arr 64 .leaf (aq .u8 (pad (row m)))),.box false (.arr 8 (.arr 64 .leaf) ((skP S).map ce)),.box false (.arr 8 (.arr 64 .leaf) ((skP R).map ce)),.box false (.arr 8 (.arr 64 .leaf) z),.box false (.arr 8 (.arr 64 .leaf) ((skP (mg m x i j ((R.take nb).drop j) Q)).map ce)),.hole]⟩)
 | 0,j,Q,hj,hq,hQ=>by
  obtain rfl:j=nb:=by omega
  rw [i5 (by rw [bj]; omega)]
  have hlt:¬ (j:Int)≤((j-1:Nat):Int):=by omega
  refine ⟨hQ,cg ?_⟩;show _=some (_,(⟨_,[_,_,_,_,.box false (.arr 8 (.arr 64 .leaf) ((skP Q).map ce)),_]⟩:St));generalize ((j-1:Nat):Int)=k1 at *;generalize (skP S).map ce=LS at *;generalize (skP R).map ce=LR at *;generalize (skP Q).map ce=LQ at *;generalize pad (row m)=Pm at *;simp -implicitDefEqProofs [Z4k_L0,au,hlt,hvn]
 | r+1,j,Q,hj,hq,hQ=>by
  have hm:m≠0:=fun h=>by rw [h,Pol.len_zero] at h2; omega
  have hj8:j<8:=by omega
  have hij:i+j<8:=by omega
  have hjR:j<R.length:=by omega
  have hiS:i<S.length:=by omega
  have hikQ:i+j<Q.length:=by omega
  have hRj:=hR _ (bb hjR);have hxe:S[i]=x:=by rw [af hiS] at hx; exact b6 hx
  have hxl:x.len<m.len:=by rw [←hxe]; exact hS _ (bb hiS)
  have hq1:=hQ _ (bb hikQ);have hle:(j:Int)≤((nb-1:Nat):Int):=by omega
  have w0:IntKind.i64.wrap ((i:Int)+j)=((i+j:Nat):Int):=(w64 (x:=(i:Int)+j) (by omega)).trans (by omega)
  have hs0:(0:Int)≤(i:Int)+j:=by omega
  have hs1:((i:Int)+j).toNat=i+j:=by omega
  have w4:IntKind.i64.wrap ((j:Int)+1)=((j+1:Nat):Int):=(w64 (x:=(j:Int)+1) (by omega)).trans (by omega)
  have e1:=hfr p m R[j] i h2 hml (by omega) (by omega)
  have hfl:=ox hm (i%(m.len-1)) R[j] hRj;have e2:=hmm p x (ep m (i%(m.len-1)) R[j]) m hm hml (by omega) (by omega)
  have hl:=Pol.len_mod (x*ep m (i%(m.len-1)) R[j]) hm;have e3:=had p 1 Q[i+j] (x*ep m (i%(m.len-1)) R[j]%m) (by omega) (by omega) (by omega) (by omega)
  rw [Bg,Pol.C_one,Gq.one_mul] at e3;have hl2:=Pol.len_add_le (a:=Q[i+j]) (b:=x*ep m (i%(m.len-1)) R[j]%m) (n:=m.len-1) (by omega) (by omega)
  have hadd:jd Q (i+j) (x*ep m (i%(m.len-1)) R[j]%m)=Q.set (i+j) (Q[i+j]+x*ep m (i%(m.len-1)) R[j]%m):=by
   unfold jd; rw [af hikQ]; rfl
  have hQ':∀c∈jd Q (i+j) (x*ep m (i%(m.len-1)) R[j]%m),c.len<m.len:=fun c hc=>by
   rw [hadd] at hc;rcases ef hc with h | rfl
   ·exact hQ c h
   ·omega
  obtain ⟨g1,ih⟩:=a70 hfr hmm had (z:=z) hvn h2 hml hS8 hR8 hS hR hi hnb hnb1 hx r (j+1) (jd Q (i+j) (x*ep m (i%(m.len-1)) R[j]%m)) (by omega) (by rw [qv]; exact hq) hQ'
  have hby:mg m x i j ((R.take nb).drop j) Q=mg m x i (j+1) ((R.take nb).drop (j+1)) (jd Q (i+j) (x*ep m (i%(m.len-1)) R[j]%m)):=by
   rw [cd (by rw [bj]; omega),n4]; rfl
  rw [hby];refine ⟨g1,bq ?_ ih⟩
  have hset:(skP (jd Q (i+j) (x*ep m (i%(m.len-1)) R[j]%m))).map ce=((skP Q).map ce).set (i+j) (D.arr 64 .leaf (aq .u8 (pad (row (Q[i+j]+x*ep m (i%(m.len-1)) R[j]%m))))):=by
   rw [hadd]; unfold skP; rw [mn,mn]
  rw [hset];have hLS:=R7 S;have hLR:=R7 R;have hLQ:=R7 Q;rw [hS8] at hLS;rw [hR8] at hLR;rw [hq] at hLQ;have hxS:=S3 hiS;rw [hxe] at hxS;have hxR:=S3 hjR;have hxQ:=S3 hikQ;generalize pad (row (Q[i+j]+x*ep m (i%(m.len-1)) R[j]%m))=P1 at *;generalize pad (row (x*ep m (i%(m.len-1)) R[j]%m))=P2 at *;generalize pad (row (ep m (i%(m.len-1)) R[j]))=P3 at *;generalize pad (row Q[i+j])=P4 at *;generalize pad (row R[j])=P5 at *;generalize pad (row x)=P6 at *;generalize (skP S).map ce=LS at *;generalize (skP R).map ce=LR at *;generalize (skP Q).map ce=LQ at *;generalize pad (row m)=Pm at *;generalize ((nb-1:Nat):Int)=k1 at *;simp -implicitDefEqProofs [Z4k_L0,au,hle,hi,hj8,hij,hs0,hs1,hLS,hLR,hLQ,hxS,hxR,hxQ,e1,e2,e3,w0,w4,hvn]
theorem a9h {O:ap} (hfr:pn O) (hmm:lf O) (had:lk O) {p:Int} [IsP p] {m:Fp p} {S R:List (Fp p)} {z:List D} (h2:2≤m.len) (hml:m.len≤64) (hS8:S.length=8) (hR8:R.length=8) (hS:∀c∈S,c.len<m.len) (hR:∀c∈R,c.len<m.len) {na nb:Nat} (hna:1≤na) (hnb:1≤nb) (hab:na+nb≤9):∀(r i:Nat) (Q:List (Fp p)),i+r=na→Q.length=8→(∀c∈Q,c.len<m.len) →
 (∀c∈mh m (R.take nb) i ((S.take na).drop i) Q,c.len<m.len) ∧
 dn O 0 (.loop Z4k_L1) ⟨[(0,(.d (.int .i64 p))),(5,.ptr 0 []),(6,.ptr 1 []),(7,.ptr 2 []),(8,.ptr 3 []),(10,(.d (.int .i64 (((na-1:Nat):Int))))),(11,(.d (.int .i64 (((nb-1:Nat):Int))))),(12,.ptr 4 []),(13,(.d (.int .i64 i)))],[.box false (D.arr 64 .leaf (aq .u8 (pad (row m)))),.box false (.arr 8 (.arr 64 .leaf) ((skP S).map ce)),.box false (.arr 8 (.arr 64 .leaf) ((skP R).map ce)),.box false (.arr 8 (.arr 64 .leaf) z),.box false (.arr 8 (.arr 64 .leaf) ((skP Q).map ce)),.hole]⟩ =
  some (.exit 0,⟨[(0,(.d (.int .i64 p))),(5,.ptr 0 []),(6,.ptr 1 []),(7,.ptr 2 []),(8,.ptr 3 []),(10,(.d (.int .i64 (((na-1:Nat):Int))))),(11,(.d (.int .i64 (((nb-1:Nat):Int))))),(12,.ptr 4 []),(13,(.d (.int .i64 na))),(35,(.d (.bool false)))],[.box false (D.arr 64 .leaf (aq .u8 (pad (row m)))),.box false (.arr 8 (.arr 64 .leaf) ((skP S).map ce)),.box false (.arr 8 (.arr 64 .leaf) ((skP R).map ce)),.box false (.arr 8 (.arr 64 .leaf) z),.box false (.arr 8 (.arr 64 .leaf) ((skP (mh m (R.take nb) i ((S.take na).drop i) Q)).map ce)),.hole]⟩)
 | 0,i,Q,hi,hq,hQ=>by
  obtain rfl:i=na:=by omega
  rw [i5 (by rw [bj]; omega)]
  have hlt:¬ (i:Int)≤((i-1:Nat):Int):=by omega
  refine ⟨hQ,cg ?_⟩;show _=some (_,(⟨_,[_,_,_,_,.box false (.arr 8 (.arr 64 .leaf) ((skP Q).map ce)),_]⟩:St));generalize ((i-1:Nat):Int)=k1 at *;generalize ((nb-1:Nat):Int)=k2 at *;generalize (skP S).map ce=LS at *;generalize (skP R).map ce=LR at *;generalize (skP Q).map ce=LQ at *;generalize pad (row m)=Pm at *;simp -implicitDefEqProofs [Z4k_L1,au,hlt]
 | r+1,i,Q,hi,hq,hQ=>by
  have hin:i<(S.take na).length:=by rw [bj]; omega
  have hiS:i<S.length:=by omega
  have hle:(i:Int)≤((na-1:Nat):Int):=by omega
  have w4:IntKind.i64.wrap ((i:Int)+1)=((i+1:Nat):Int):=(w64 (x:=(i:Int)+1) (by omega)).trans (by omega)
  obtain ⟨g1,e1⟩:=a70 (O:=O) hfr hmm had (z:=z) (vn:=(.d (.int .i64 (((na-1:Nat):Int))))) rfl h2 hml hS8 hR8 hS hR (i:=i) (nb:=nb) (by omega) (by omega) hnb (x:=S[i]) (af hiS) nb 0 Q (br _) hq hQ
  have e00:((0:Nat):Int)=0:=rfl;rw [e00,dm] at e1;rw [dm] at g1;obtain ⟨g2,ih⟩:=a9h hfr hmm had (z:=z) h2 hml hS8 hR8 hS hR hna hnb hab r (i+1) (mg m S[i] i 0 (R.take nb) Q) (by omega) (by rw [oa]; exact hq) g1
  have hby:mh m (R.take nb) i ((S.take na).drop i) Q=mh m (R.take nb) (i+1) ((S.take na).drop (i+1)) (mg m S[i] i 0 (R.take nb) Q):=by
   rw [cd hin,n4]; rfl
  rw [hby];refine ⟨g2,bq ?_ ih⟩;generalize (skP (mg m S[i] i 0 (R.take nb) Q)).map ce=LQ2 at *;generalize (skP S).map ce=LS at *;generalize (skP R).map ce=LR at *;generalize (skP Q).map ce=LQ at *;generalize pad (row m)=Pm at *;generalize ((nb-1:Nat):Int)=k1 at *;generalize ((na-1:Nat):Int)=k2 at *;simp -implicitDefEqProofs [Z4k_L1,au,hle,e1,w4]
noncomputable def zs8 {p:Int}:List (Fp p):=List.replicate 8 0
noncomputable def Ta {p:Int} [IsP p] (m:Fp p) (S R:List (Fp p)):D:=
 if (jp S).length=0∨(jp R).length=0 then .tup [vg (skP (zs8 (p:=p))),(D.bool true)]
 else if 9<(jp S).length+(jp R).length then .tup [vg (skP (zs8 (p:=p))),(D.bool false)]
 else .tup [vg (skP (mh m (jp R) 0 (jp S) zs8)),(D.bool true)]
theorem Rn {p:Int} {S:List (Fp p)} (h:S.length=8):jp S=S.take (stl S 8):=by unfold jp; rw [h]
theorem E2 {p:Int} {S:List (Fp p)} (h:S.length=8):(jp S).length=stl S 8:=by
 rw [Rn h,bj]; have:=E1 S 8; omega
def Gt (O:ap):Prop:=∀(p:Int) [IsP p] (m:Fp p) (S R:List (Fp p)),2≤m.len→m.len≤64→S.length=8→R.length=8→(∀c∈S,c.len<m.len)→(∀c∈R,c.len<m.len)→ask O F4k [(D.int .i64 p),(D.arr 64 .leaf (aq .u8 (pad (row m)))),vg (skP S),vg (skP R)]=some (Ta m S R)
theorem ad2 {p:Int}:(skP (zs8 (p:=p))).map ce=z8:=by
 unfold skP zs8;rw [gz,gz,row_zero];rfl
theorem a3t (hT:T F4k=some Z4k) (hdg:E9 (den T A)) (hfr:pn (den T A)) (hmm:lf (den T A)) (had:lk (den T A)):Gt (den T A):=by
 intro p ip m S R h2 hml hS8 hR8 hS hR;have e1:=hdg p S hS8 (fun a ha=>by have:=hS a ha; omega)
 have e2:=hdg p R hR8 (fun a ha=>by have:=hR a ha; omega)
 unfold Ta;rw [E2 hS8,E2 hR8,Rn hS8,Rn hR8];have l1:=E1 S 8;have l2:=E1 R 8;generalize stl S 8=na at *;generalize stl R 8=nb at *;have hskS:vg (skP S)=.arr 8 (.arr 64 .leaf) ((skP S).map ce):=rfl;have hskR:vg (skP R)=.arr 8 (.arr 64 .leaf) ((skP R).map ce):=rfl;have hskZ:vg (skP (zs8 (p:=p)))=.arr 8 (.arr 64 .leaf) z8:=by rw [←ad2 (p:=p)]
 have w1:IntKind.i64.wrap ((na:Int)-1+(nb-1))=(na:Int)-1+(nb-1):=w64 (by omega)
 rw [hskS] at e1 ⊢;rw [hskR] at e2 ⊢
 by_cases h0:na=0∨nb=0
 ·rw [if_pos h0,hskZ]
  refine ch hT rfl ?_;rcases h0 with rfl | rfl
  ·generalize (skP S).map ce=LS at *
   generalize (skP R).map ce=LR at *;generalize pad (row m)=Pm at *;simp -implicitDefEqProofs [Z4k,Z4k_B,au,e1,e2,List.replicate]
  ·generalize (skP S).map ce=LS at *
   generalize (skP R).map ce=LR at *;generalize pad (row m)=Pm at *
   by_cases hn:na=0
   ·subst hn
    simp -implicitDefEqProofs [Z4k,Z4k_B,au,e1,e2,List.replicate]
   ·have hlt:¬ ((na:Int)-1<0):=by omega
    have hlt2:na≠0:=hn;have hlt3:(1:Int)≤na:=by omega
    have hlt4:¬ ((na:Int)<1):=by omega
    simp -implicitDefEqProofs [Z4k,Z4k_B,au,e1,e2,hlt,List.replicate]
 ·rw [if_neg h0]
  have a1:((na:Int)-1)=((na-1:Nat):Int):=by omega
  have a2:((nb:Int)-1)=((nb-1:Nat):Int):=by omega
  rw [a1,a2] at w1;rw [a1] at e1;rw [a2] at e2;have hn1:¬ ((na-1:Nat):Int)<0:=by omega
  have hn2:¬ ((nb-1:Nat):Int)<0:=by omega
  by_cases h9:9<na+nb
  ·rw [if_pos h9,hskZ]
   have hgt:(7:Int)<((na-1:Nat):Int)+((nb-1:Nat):Int):=by omega
   refine ch hT rfl ?_;generalize (skP S).map ce=LS at *;generalize (skP R).map ce=LR at *;generalize pad (row m)=Pm at *;generalize na-1=k1 at *;generalize nb-1=k2 at *;simp -implicitDefEqProofs [Z4k,Z4k_B,au,e1,e2,w1,hgt,hn1,hn2,List.replicate]
  ·rw [if_neg h9]
   have hgt:¬ (7:Int)<((na-1:Nat):Int)+((nb-1:Nat):Int):=by omega
   obtain ⟨_,e3⟩:=a9h (O:=den T A) hfr hmm had (z:=z8) h2 hml hS8 hR8 hS hR (na:=na) (nb:=nb) (by omega) (by omega) (by omega) na 0 zs8 (br _) rfl (fun c hc=>by rw [k9 hc,Pol.len_zero]; omega)
   have e00:((0:Nat):Int)=0:=rfl;rw [e00,dm,ad2] at e3;have hskQ:vg (skP (mh m (R.take nb) 0 (S.take na) zs8))=.arr 8 (.arr 64 .leaf) ((skP (mh m (R.take nb) 0 (S.take na) zs8)).map ce):=rfl;rw [hskQ];refine ch hT rfl ?_;generalize (skP (mh m (R.take nb) 0 (S.take na) zs8)).map ce=LQ at *;generalize (skP S).map ce=LS at *;generalize (skP R).map ce=LR at *;generalize pad (row m)=Pm at *;generalize na-1=k1 at *;generalize nb-1=k2 at *;simp -implicitDefEqProofs [Z4k,Z4k_B,au,e1,e2,e3,w1,hgt,hn1,hn2,List.replicate]
section
variable {p:Int}
theorem Su {Q:List (Fp p)} {n j:Nat} {v:Fp p} (h:n≠j):(jd Q n v)[j]? = Q[j]?:=by
 unfold jd; rw [bh h]
theorem a3p {Q Z:List (Fp p)} {n:Nat} {v:Fp p} (h:n<Q.length):jd (Q++Z) n v=jd Q n v++Z:=by
 unfold jd;rw [bu h,List.set_append_left _ _ h]
theorem aca:pd8 ([]:List (Fp p))=zs8:=rfl
end
section
variable {p:Int} [IsP p]
theorem xt {m x:Fp p} {i n:Nat}:∀(k:Nat) (b Q:List (Fp p)),i+k+b.length≤n→(mg m x i k b Q)[n]? = Q[n]?
 | _,[],_,_=>rfl
 | k,y::ys,Q,h=>by
  rw [b9] at h;show (mg m x i (k+1) ys (jd Q (i+k) _))[n]? = _;rw [xt (k+1) ys _ (by omega),Su (by omega)]
theorem zi {m:Fp p} {b:List (Fp p)} {n:Nat}:∀(i:Nat) (a Q:List (Fp p)),i+a.length+b.length≤n+1→(mh m b i a Q)[n]? = Q[n]?
 | _,[],_,_=>rfl
 | i,x::xs,Q,h=>by
  rw [b9] at h;show (mh m b (i+1) xs (mg m x i 0 b Q))[n]? = _;rw [zi (i+1) xs _ (by omega),xt 0 b Q (by omega)]
theorem Ho {m x y:Fp p} {i:Nat}:∀(k:Nat) (b Q:List (Fp p)),mg m x i k (b++[y]) Q=jd (mg m x i k b Q) (i+(k+b.length)) (x*ep m (i%(m.len-1)) y%m)
 | _,[],_=>rfl
 | k,z::zs,Q=>by
  show mg m x i (k+1) (zs++[y]) (jd Q (i+k) _)=jd (mg m x i (k+1) zs (jd Q (i+k) _)) _ _;rw [Ho (k+1) zs,b9,show i+(k+1+zs.length)=i+(k+(zs.length+1)) by omega]
theorem Dn {m x:Fp p} {b:List (Fp p)}:∀(i:Nat) (a Q:List (Fp p)),mh m b i (a++[x]) Q=mg m x (i+a.length) 0 b (mh m b i a Q)
 | _,[],_=>rfl
 | i,z::zs,Q=>by
  show mh m b (i+1) (zs++[x]) (mg m z i 0 b Q)=mg m x _ 0 b (mh m b (i+1) zs (mg m z i 0 b Q));rw [Dn (i+1) zs,b9,show i+1+zs.length=i+(zs.length+1) by omega]
theorem V3 {m x:Fp p} {i:Nat} {Z:List (Fp p)}:∀(k:Nat) (b Q:List (Fp p)),i+k+b.length≤Q.length→mg m x i k b (Q++Z)=mg m x i k b Q++Z
 | _,[],_,_=>rfl
 | k,y::ys,Q,h=>by
  rw [b9] at h;show mg m x i (k+1) ys (jd (Q++Z) (i+k) _)=mg m x i (k+1) ys (jd Q (i+k) _)++Z;rw [a3p (by omega),V3 (k+1) ys _ (by rw [qv]; omega)]
theorem Ps {m:Fp p} {b Z:List (Fp p)}:∀(i:Nat) (a Q:List (Fp p)),i+a.length+b.length≤Q.length+1→mh m b i a (Q++Z)=mh m b i a Q++Z
 | _,[],_,_=>rfl
 | i,x::xs,Q,h=>by
  rw [b9] at h;show mh m b (i+1) xs (mg m x i 0 b (Q++Z))=mh m b (i+1) xs (mg m x i 0 b Q)++Z;rw [V3 0 b Q (by omega),Ps (i+1) xs _ (by rw [oa]; omega)]
theorem Xy {m x y:Fp p} (hi:Irr m) (hx:x≠0) (hxl:x.len<m.len) (hy:y≠0) (hyl:y.len<m.len):x*y%m≠0:=fun h=>by
 rcases hi.prime ((zf hi.ne).2 h) with h | h
 ·have:=Dv.len h hx; omega
 ·have:=Dv.len h hy; omega
theorem Jv {m:Fp p} (hm:Fld m):∀(k:Nat) (y:Fp p),y≠0→y.len<m.len→ep m k y≠0
 | 0,_,h,_=>h
 | k+1,y,h,hl=>by
  obtain ⟨h1,h2⟩:=aeh hm h hl p.toNat;exact Jv hm k _ h1 h2
end
section
variable {p:Int}
theorem Ud {S:List (Fp p)}:∀(n k:Nat),stl S n=k+1→S[k]? ≠ some 0
 | 0,k,h=>by cases h
 | n+1,k,h=>by
  unfold stl at h
  split at h
  ·exact Ud n k h
  ·rename_i h0
   obtain rfl:n=k:=by omega
   exact h0
theorem aam {S:List (Fp p)} {n:Nat} (h:S[n]? ≠ some 0):stl S (n+1)=n+1:=by
 unfold stl; rw [if_neg h]
theorem W7 {S:List (Fp p)} (h:(jp S).length≠0):∃a x,jp S=a++[x]∧x≠0:=by
 have hle:=E1 S S.length;have hl:(jp S).length=stl S S.length:=by unfold jp; rw [bj]; omega
 obtain ⟨k,hk⟩:∃k,stl S S.length=k+1:=⟨stl S S.length-1,by omega⟩
 have h1:=Ud _ _ hk;have hlt:k<S.length:=by omega
 rw [af hlt] at h1;refine ⟨S.take k,S[k],?_,fun h=>h1 (by rw [h])⟩
 unfold jp;rw [hk,d8 hlt]
theorem a3k {S:List (Fp p)} {n:Nat} (hl:S.length=n+1) (h:S[n]? ≠ some 0):jp S=S:=by
 unfold jp;rw [hl,aam h,←hl,gq]
end
section
variable {p:Int} [IsP p]
theorem Tp {m x y:Fp p} (hm:Fld m) {a b:List (Fp p)} (hx:x≠0) (hxl:x.len<m.len) (hy:y≠0) (hyl:y.len<m.len):jp (tw m (a++[x]) (b++[y]))=tw m (a++[x]) (b++[y]):=by
 have hl:(tw m (a++[x]) (b++[y])).length=a.length+b.length+1:=by
  unfold tw;rw [mi,cw,b8,b8];simp only [b9,cb]; omega
 refine a3k hl ?_;have hfy:ep m (a.length%(m.len-1)) y≠0:=Jv hm _ y hy hyl;have hfl:=ox hm.mon.2 (a.length%(m.len-1)) y hyl;have hne:=Xy hm.irr hx hxl hfy hfl;unfold tw;rw [Dn,Ho];unfold jd;rw [xt _ _ _ (by omega),zi _ _ _ (by rw [b8,b9,cb]; omega)]
 have hN:0+a.length+(0+b.length)=a.length+b.length:=by omega
 rw [hN,bg (by rw [oa,mi,cw,b8,b8]; simp only [b9,cb]; omega)]
 rw [iw,if_pos (by rw [b8,b8]; simp only [b9,cb]; omega)]
 show some ((0:Fp p)+_)≠some 0;rw [Gq.zero_add,show 0+a.length=a.length by omega]
 exact fun h=>hne (b6 h)
noncomputable def gh (m:Fp p) (a b:List (Fp p)):List (Fp p):=if a.length=0∨b.length=0 then [] else jp (tw m a b)
theorem a5t {m:Fp p} {a b:List (Fp p)} (ha:1≤a.length) (hb:1≤b.length) (h:a.length+b.length≤9):pd8 (tw m a b)=mh m b 0 a zs8:=by
 unfold pd8 tw zs8;rw [mi,cw,←Ps _ _ _ (by rw [cw]; omega),List.replicate_append_replicate,show a.length+b.length-1+(8-(a.length+b.length-1))=8 by omega]
end
section
variable {p:Int} [IsP p]
theorem We {N n:Nat} {Q:List (Fp p)} {v:Fp p} (hQ:∀c∈Q,c.len≤N) (hv:v.len≤N):∀c∈jd Q n v,c.len≤N:=fun c hc=>by
 unfold jd at hc;rcases ef hc with h | rfl
 ·exact hQ c h
 ·refine Pol.len_add_le ?_ hv
  cases he:Q[n]? with
  | none=>show (0:Fp p).len≤N; rw [Pol.len_zero]; omega
  | some w=>exact hQ w (ft he)
end
theorem af6:vg (List.replicate 8 (pad []))=.arr 8 (.arr 64 .leaf) z8:=rfl
end Pe
namespace Pe
open Go Gq
section
variable {p:Int}
noncomputable def cS (A:List (Fp p)) (i:Nat):Fp p:=(A[i]?).getD 0
theorem Cu {A:List (Fp p)} {i:Nat} (h:A.length≤i):cS A i=0:=by unfold cS; rw [cx h]; rfl
theorem Ab {A:List (Fp p)} {i:Nat} (h:i<A.length):A[i]=cS A i:=by unfold cS; rw [af h]; rfl
def m9 (A:List (Fp p)):Prop:=∀n,A.length=n+1→cS A n≠0
theorem zo (S:List (Fp p)) (i:Nat):cS (jp S) i=cS S i:=by
 unfold cS jp;have hle:=E1 S S.length
 by_cases h:i<stl S S.length
 ·rw [fp,if_pos h]
 ·rw [fp,if_neg h]
  by_cases h2:i<S.length
  ·rw [Lv S S.length i (by omega) h2]; rfl
  ·rw [cx (by omega)]
theorem t4 (S:List (Fp p)):m9 (jp S):=fun n hn=>by
 obtain ⟨a,x,e,hx⟩:=W7 (S:=S) (by omega)
 rw [e] at hn ⊢;rw [b8,ez] at hn;unfold cS;rw [bx (by omega),show n-a.length=0 by omega]
 exact hx
theorem Gj {A B:List (Fp p)} (hA:m9 A) (hB:m9 B) (h:∀i,cS A i=cS B i):A=B:=by
 have hl:A.length=B.length:=by
  rcases kc A.length B.length with g | g | g
  ·exact absurd (by rw [←h]; exact Cu (by omega)) (hB (B.length-1) (by omega))
  ·exact g
  ·exact absurd (by rw [h]; exact Cu (by omega)) (hA (A.length-1) (by omega))
 refine rh hl fun i h1 h2=>?_
 rw [Ab h1,Ab h2,h]
theorem Uw {X Y:List (Fp p)} (h:∀i,cS X i=cS Y i):jp X=jp Y:=
 Gj (t4 X) (t4 Y) fun i=>by rw [zo,zo,h]
theorem a7m {A:List (Fp p)} (hA:m9 A):jp A=A:=Gj (t4 A) hA (zo A)
theorem Iv {X:List (Fp p)} {n:Nat} (h:∀i,n≤i→cS X i=0):(jp X).length≤n:=by
 rcases f7 n (jp X).length with g | g
 ·have:=t4 X ((jp X).length-1) (by omega)
  rw [zo] at this;exact absurd (h _ (by omega)) this
 ·exact g
theorem M0:m9 ([]:List (Fp p)):=fun n h=>by cases h
theorem a8i (i:Nat):cS ([]:List (Fp p)) i=0:=rfl
theorem afk {A:List (Fp p)} {N:Nat} (h:∀i,(cS A i).len≤N):∀c∈A,c.len≤N:=fun c hc=>by
 obtain ⟨i,hi,rfl⟩:=jk hc;rw [Ab hi]; exact h i
theorem aga {A:List (Fp p)} {N:Nat} (h:∀c∈A,c.len≤N) (i:Nat):(cS A i).len≤N:=by
 by_cases hi:i<A.length
 ·rw [←Ab hi]; exact h _ (bb hi)
 ·rw [Cu (by omega),Pol.len_zero]; omega
theorem Ye {n:Nat} {f:Nat→Fp p} (i:Nat):cS ((List.range n).map f) i=if i<n then f i else 0:=by
 unfold cS;rw [fe]
 by_cases h:i<n
 ·rw [jm h,if_pos h]; rfl
 ·rw [cx (by simpa using h),if_neg h]; rfl
noncomputable def wk (k:Int) (A B:List (Fp p)):List (Fp p):=jp ((List.range (max A.length B.length)).map fun i=>cS A i+Pol.C (zp p k)*cS B i)
theorem Qp (k:Int) (A B:List (Fp p)) (i:Nat):cS (wk k A B) i=cS A i+Pol.C (zp p k)*cS B i:=by
 unfold wk;rw [zo,Ye]
 split
 ·rfl
 ·rw [Cu (A:=A) (by omega),Cu (A:=B) (by omega),Gq.mul_zero,Gq.add_zero]
theorem I6 (k:Int) (A B:List (Fp p)):m9 (wk k A B):=t4 _
theorem a8j (k:Int) (A B:List (Fp p)):(wk k A B).length≤max A.length B.length:=Iv fun i hi=>by
 rw [Ye,if_neg (by omega)]
noncomputable def f8 (c:Fp p) (k:Nat):List (Fp p):=List.replicate k 0++[c]
theorem jy (c:Fp p) (k:Nat):(f8 c k).length=k+1:=by unfold f8; rw [b8,cw]; rfl
theorem Jg (c:Fp p) (k i:Nat):cS (f8 c k) i=if i=k then c else 0:=by
 unfold cS f8;rcases kc i k with h | h | h
 ·rw [bu (by rw [cw]; exact h),iw,if_pos h,if_neg (by omega)]; rfl
 ·rw [bx (by rw [cw]; omega),cw,h,jh,if_pos rfl]; rfl
 ·rw [cx (by rw [b8,cw,ez]; omega),if_neg (by omega)]; rfl
theorem Ir {c:Fp p} (h:c≠0) (k:Nat):m9 (f8 c k):=fun n hn=>by
 rw [jy] at hn;rw [Jg,if_pos (by omega)]; exact h
theorem Xs {A:List (Fp p)} (i:Nat):cS (pd8 A) i=cS A i:=by
 unfold pd8 cS
 by_cases h:i<A.length
 ·rw [bu h]
 ·rw [bx (by omega),iw,cx (l:=A) (by omega)]
  split <;> rfl
theorem oe {A:List (Fp p)} (h:A.length≤8):(pd8 A).length=8:=by unfold pd8; rw [b8,cw]; omega
theorem Eb {A:List (Fp p)} (h:m9 A):jp (pd8 A)=A:=(Uw fun i=>Xs i).trans (a7m h)
theorem Ru (S:List (Fp p)):(jp S).length≤S.length:=by
 unfold jp; rw [bj]; omega
theorem afv {X:List (Fp p)} {n i:Nat} {c:Fp p} (h:n<X.length):cS (X.set n c) i=if i=n then c else cS X i:=by
 unfold cS
 by_cases hi:i=n
 ·subst hi; rw [bg h,if_pos rfl]; rfl
 ·rw [bh (by omega),if_neg hi]
theorem Bv {B:List (Fp p)} (h:1≤B.length):∃b,B=b++[cS B (B.length-1)]∧b.length=B.length-1:=by
 have hlt:B.length-1<B.length:=by omega
 refine ⟨B.take (B.length-1),?_,by rw [bj]; omega⟩
 rw [←Ab hlt,←d8 hlt,show B.length-1+1=B.length by omega,gq]
end
section
variable {p:Int} [IsP p]
theorem Mv {m x:Fp p} {i N:Nat} (hm:m≠0) (hN:m.len≤N+1):∀(k:Nat) (b Q:List (Fp p)),(∀c∈Q,c.len≤N)→∀c∈mg m x i k b Q,c.len≤N
 | _,[],_,h=>h
 | k,y::ys,Q,h=>Mv hm hN (k+1) ys _ (We h (by have:=Pol.len_mod (x*ep m (i%(m.len-1)) y) hm; omega))
theorem Ia {m:Fp p} {b:List (Fp p)} {N:Nat} (hm:m≠0) (hN:m.len≤N+1):∀(i:Nat) (a Q:List (Fp p)),(∀c∈Q,c.len≤N)→∀c∈mh m b i a Q,c.len≤N
 | _,[],_,h=>h
 | i,_x::xs,Q,h=>Ia hm hN (i+1) xs _ (Mv hm hN 0 b Q h)
theorem t8 {m:Fp p} {a b:List (Fp p)} {N:Nat} (hm:m≠0) (hN:m.len≤N+1):∀c∈gh m a b,c.len≤N:=fun c hc=>by
 unfold gh at hc
 split at hc
 ·cases hc
 ·have h1:c∈tw m a b:=List.mem_of_mem_take hc
  exact Ia hm hN 0 a _ (fun c hc=>by rw [k9 hc,Pol.len_zero]; omega) c h1
theorem sz (m:Fp p) (a b:List (Fp p)):m9 (gh m a b):=by
 unfold gh
 split
 ·exact M0
 ·exact t4 _
theorem Bb {m:Fp p} {a b:List (Fp p)}:(gh m a b).length≤a.length+b.length-1:=by
 unfold gh
 split
 ·exact mu _
 ·have:=Ru (tw m a b)
  have hl:(tw m a b).length=a.length+b.length-1:=by unfold tw; rw [mi,cw]
  omega
theorem a9p {m x y:Fp p} {a b:List (Fp p)}:cS (tw m (a++[x]) (b++[y])) (a.length+b.length)=x*ep m (a.length%(m.len-1)) y%m:=by
 unfold tw;rw [Dn,Ho];unfold jd;rw [xt _ _ _ (by omega),zi _ _ _ (by rw [b8,b9,cb]; omega)]
 have hN:0+a.length+(0+b.length)=a.length+b.length:=by omega
 rw [hN];unfold cS;rw [bg (by rw [oa,mi,cw,b8,b8]; simp only [b9,cb]; omega)]
 rw [iw,if_pos (by rw [b8,b8]; simp only [b9,cb]; omega)]
 show (0:Fp p)+_=_;rw [Gq.zero_add,show 0+a.length=a.length by omega]
theorem Uf {m:Fp p} {A B:List (Fp p)} (ha:1≤A.length) (hb:1≤B.length):cS (gh m A B) (A.length-1+(B.length-1))=cS A (A.length-1)*ep m ((A.length-1)%(m.len-1)) (cS B (B.length-1))%m:=by
 obtain ⟨a,ea,la⟩:=Bv ha;obtain ⟨b,eb,lb⟩:=Bv hb;have h:=a9p (m:=m) (x:=cS A (A.length-1)) (y:=cS B (B.length-1)) (a:=a) (b:=b);rw [←ea,←eb,la,lb] at h;unfold gh;rw [if_neg (by omega),zo]
 exact h
theorem a2i {m:Fp p} {X Y:List (Fp p)} (hX:m9 X) (hY:m9 Y) (h9:X.length+Y.length≤9) (hXl:∀c∈X,c.len<m.len) (hYl:∀c∈Y,c.len<m.len) (hm:Fld m):Ta m (pd8 X) (pd8 Y)=.tup [vg (skP (pd8 (gh m X Y))),(D.bool true)]:=by
 unfold Ta gh;rw [Eb hX,Eb hY]
 by_cases h0:X.length=0∨Y.length=0
 ·rw [if_pos h0,if_pos h0,aca]
 ·rw [if_neg h0,if_neg (by omega),if_neg h0]
  obtain ⟨a,ea,la⟩:=Bv (B:=X) (by omega)
  obtain ⟨b,eb,lb⟩:=Bv (B:=Y) (by omega)
  have hx:=hX (X.length-1) (by omega)
  have hy:=hY (Y.length-1) (by omega)
  have ht:=Tp hm (a:=a) (b:=b) hx (hXl _ (by rw [←Ab (show X.length-1<X.length by omega)]; exact bb _)) hy (hYl _ (by rw [←Ab (show Y.length-1<Y.length by omega)]; exact bb _))
  rw [←ea,←eb] at ht;rw [ht,a5t (by omega) (by omega) (by omega)]
theorem Uz {m x y:Fp p} (hm:Fld m) (hx:x.len<m.len) (hy:y≠0) (hyl:y.len<m.len):(x*jx m y%m)*y%m=x∧y*(x*jx m y%m)%m=x:=by
 have h0:m≠0:=hm.mon.2;have e:=Ga hm hy hyl
 have key:Quo.mk m ((x*jx m y%m)*y)=Quo.mk m x:=by
  rw [Quo.mk_mul,Pol.mk_mod,Quo.mk_mul,Gq.mul_assoc,e,Gq.mul_one]
 have h1:=(Pol.mod_eq_iff h0).2 key;rw [Pol.mod_small hx] at h1;exact ⟨h1,by rw [Gq.mul_comm]; exact h1⟩
theorem W1 {m:Fp p}:∀(b a:Nat) (x:Fp p),ep m (a+b) x=ep m a (ep m b x)
 | 0,_,_=>rfl
 | b+1,a,x=>by
  show ep m (a+b) (pw x p.toNat%m)=ep m a (ep m b (pw x p.toNat%m));exact W1 b a _
theorem Y2 {m:Fp p} (hm:Fld m) (j:Nat) {z:Fp p} (hz:z.len<m.len):ep m (j%(m.len-1)) (ep m ((m.len-1-j%(m.len-1))%(m.len-1)) z)=z:=by
 have h2:=hm.two;have hlt:=Nat.mod_lt j (show 0<m.len-1 by omega)
 rw [yg hm _ hz,←W1,show j%(m.len-1)+(m.len-1-j%(m.len-1))=m.len-1 by omega,←yg hm _ hz,Nat.mod_self]
 rfl
noncomputable def qc (left:Bool) (m:Fp p) (A B:List (Fp p)):Fp p:=
 if left then ep m ((m.len-1-(B.length-1)%(m.len-1))%(m.len-1)) (cS A (A.length-1)*jx m (cS B (B.length-1))%m)
 else cS A (A.length-1)*jx m (ep m ((A.length-B.length)%(m.len-1)) (cS B (B.length-1)))%m
noncomputable def qT (left:Bool) (m:Fp p) (A B:List (Fp p)):List (Fp p):=f8 (qc left m A B) (A.length-B.length)
noncomputable def qP (left:Bool) (m:Fp p) (A B:List (Fp p)):List (Fp p):=if left then gh m B (qT left m A B) else gh m (qT left m A B) B
end
section
variable {p:Int}
structure Sk (m:Fp p) (A:List (Fp p)):Prop where
 trim:m9 A
 eight:A.length≤8
 res:∀c∈A,c.len<m.len
theorem Sk.cs {m:Fp p} {A:List (Fp p)} (h:Sk m A) (hm:m≠0) (i:Nat):(cS A i).len<m.len:=by
 have:=aga (N:=m.len-1) (fun c hc=>by have:=h.res c hc; omega) i
 have:=Pol.len_pos hm;omega
theorem Sk.top {m:Fp p} {A:List (Fp p)} (h:Sk m A) (h1:1≤A.length):cS A (A.length-1)≠0:=h.trim _ (by omega)
theorem Sk.nil (m:Fp p):Sk m []:=⟨M0,by simp,fun c h=>by cases h⟩
end
section
variable {p:Int} [IsP p]
theorem a8y {p:Int} {a:Fp p} {n:Nat} (h:a.len≤n):a.c n=0:=a.lt_len n h
theorem Sk.plus {m:Fp p} {A B:List (Fp p)} (hm:m≠0) (hA:Sk m A) (hB:Sk m B) (k:Int):Sk m (wk k A B):=by
 have h1:=Pol.len_pos hm;refine ⟨I6 k A B,by have:=a8j k A B; have:=hA.eight; have:=hB.eight; omega,fun c hc=>?_⟩
 have:=afk (A:=wk k A B) (N:=m.len-1) (fun i=>by
  rw [Qp];have a1:=hA.cs hm i;have a2:=hB.cs hm i;exact Pol.len_add_le (by omega) (Pol.len_le fun j hj=>by rw [Pol.c_Cmul,a8y (by omega),Gq.mul_zero])) c hc
 omega
theorem abq (left:Bool) {m:Fp p} (hm:Fld m) {A B:List (Fp p)} (hA:Sk m A) (hB:Sk m B) (h1:1≤B.length) (hle:B.length≤A.length) :
 qc left m A B≠0∧(qc left m A B).len<m.len∧Sk m (qT left m A B)∧Sk m (qP left m A B)∧(wk (-1) A (qP left m A B)).length<A.length∧Sk m (wk (-1) A (qP left m A B)):=by
 have h0:m≠0:=hm.mon.2;have hx:=hA.top (by omega)
 have hxl:=hA.cs h0 (A.length-1);have hy:=hB.top h1;have hyl:=hB.cs h0 (B.length-1);have hfy:ep m ((A.length-B.length)%(m.len-1)) (cS B (B.length-1))≠0:=Jv hm _ _ hy hyl;have hfl:=ox h0 ((A.length-B.length)%(m.len-1)) (cS B (B.length-1)) hyl;have hb1:=Uz hm hxl hfy hfl;have hb2:=Uz hm hxl hy hyl;have hzl:(cS A (A.length-1)*jx m (cS B (B.length-1))%m).len<m.len:=Pol.len_mod _ h0
 have hz0:cS A (A.length-1)*jx m (cS B (B.length-1))%m≠0:=fun h=>by
  have:=hb2.1;rw [h,Gq.zero_mul,Pol.zero_mod h0] at this;exact hx this.symm
 have hc0:qc left m A B≠0:=by
  unfold qc;cases left with
  | true=>simp only [if_true]; exact Jv hm _ _ hz0 hzl
  | false=>
   simp only [ba,if_false];intro h;have:=hb1.1;rw [h,Gq.zero_mul,Pol.zero_mod h0] at this;exact hx this.symm
 have hcl:(qc left m A B).len<m.len:=by
  unfold qc;cases left with
  | true=>simp only [if_true]; exact ox h0 _ _ hzl
  | false=>simp only [ba,if_false]; exact Pol.len_mod _ h0
 have hTl:(qT left m A B).length=A.length-B.length+1:=jy _ _;have h8:=hA.eight
 have hT:Sk m (qT left m A B):=⟨Ir hc0 _,by omega,fun c hc=>by
  unfold qT f8 at hc;rcases bi.1 hc with h | h
  ·rw [k9 h,Pol.len_zero]; exact Pol.len_pos h0
  ·rw [cj.1 h]; exact hcl⟩
 have hPl:(qP left m A B).length≤A.length:=by
  unfold qP;cases left with
  | true=>have:=Bb (m:=m) (a:=B) (b:=qT true m A B); simp only [if_true]; omega
  | false=>have:=Bb (m:=m) (a:=qT false m A B) (b:=B); simp only [ba,if_false]; omega
 have hP:Sk m (qP left m A B):=by
  have hm1:=Pol.len_pos h0;refine ⟨?_,by omega,?_⟩
  ·unfold qP
   cases left with
   | true=>exact sz _ _ _
   | false=>exact sz _ _ _
  ·intro c hc
   have:c.len≤m.len-1:=by
    unfold qP at hc;cases left with
    | true=>exact t8 h0 (by omega) c hc
    | false=>exact t8 h0 (by omega) c hc
   omega
 have htop:cS (qP left m A B) (A.length-1)=cS A (A.length-1):=by
  unfold qP;cases left with
  | true=>
   simp only [if_true];have h:=Uf (m:=m) (A:=B) (B:=qT true m A B) h1 (by omega)
   rw [hTl,show B.length-1+(A.length-B.length+1-1)=A.length-1 by omega,show A.length-B.length+1-1=A.length-B.length by omega] at h
   rw [h];unfold qT;rw [Jg,if_pos rfl];unfold qc;simp only [if_true];rw [Y2 hm (B.length-1) hzl];exact hb2.2
  | false=>
   simp only [ba,if_false];have h:=Uf (m:=m) (A:=qT false m A B) (B:=B) (by omega) h1
   rw [hTl,show A.length-B.length+1-1+(B.length-1)=A.length-1 by omega,show A.length-B.length+1-1=A.length-B.length by omega] at h
   rw [h];unfold qT;rw [Jg,if_pos rfl];unfold qc;simp only [ba,if_false];exact hb1.1
 have hneg:∀x:Fp p,x+Pol.C (zp p (-1))*x=0:=fun x=>by
  rw [Hd,Bg,Pol.C_neg,Pol.C_one];exact bo [x] rfl
 refine ⟨hc0,hcl,hT,hP,?_,hA.plus h0 hP (-1)⟩
 have hlt:(wk (-1) A (qP left m A B)).length≤A.length-1:=Iv fun i hi=>by
  rw [Ye]
  split
  ·rcases f7 i A.length with g | g
   ·rw [show i=A.length-1 by omega,htop,hneg]
   ·rw [Cu g,Cu (A:=qP left m A B) (by omega),Gq.mul_zero,Gq.add_zero]
  ·rfl
 omega
def Zto (Q A B:List (Fp p)):Prop:=∀j,j+B.length≤A.length→cS Q j=0
theorem Zto.step {left:Bool} {m:Fp p} (hm:Fld m) {Q A B:List (Fp p)} (hA:Sk m A) (hB:Sk m B) (h1:1≤B.length) (hle:B.length≤A.length) (hz:Zto Q A B):Zto (wk 1 Q (qT left m A B)) (wk (-1) A (qP left m A B)) B:=fun j hj=>by
 obtain ⟨_,_,_,_,h,_⟩:=abq left hm hA hB h1 hle;unfold qT;rw [Qp,hz j (by omega),Jg,if_neg (by omega),Gq.mul_zero,Gq.add_zero]
end
end Pe
namespace Pe
open Go Gq
variable {T:Nat→Option Fn} {A:ap}
abbrev z6:List Int:=List.replicate 6 0
section
variable {p:Int} [IsP p]
noncomputable def mono (p:Int) (i:Nat):Fp p:=pr p (p^i)
end
def anz (p:Int) (l:List Int) (ls:List (List Int)):Prop:=∃(_:IsP p) (m:Fp p),l=pad (row m)∧Fld m∧O0 m ls
section
variable {O:ap} {g:Nat} {first caps:List D}
structure CmpRow (O:ap) (g:Nat) (first caps:List D) (f:D→Int) (s:Sh) (cs:List D):Prop where
 nf:A9 first
 nc:A9 caps
 nx:A9 cs
 sh:Im s cs
 ask:∀x∈cs,∀y∈cs,∃v:Int,ask O g (first++[x,y]++caps)=some (D.int .i64 v)∧(v<0↔f x<f y)
theorem CmpRow.perm {f:D→Int} {s:Sh} {cs ds:List D} (h:CmpRow O g first caps f s cs) (p:ds.Perm cs):CmpRow O g first caps f s ds:=
 ⟨h.nf,h.nc,fun x hx=>h.nx x (p.subset hx),fun x hx=>h.sh x (p.subset hx),fun x hx y hy=>h.ask x (p.subset hx) y (p.subset hy)⟩
theorem CmpRow.call {f:D→Int} {s:Sh} {cs:List D} (h:CmpRow O g first caps f s cs) {hp:Heap} {np:Nat} {news:List Nat} {x y:D} (hx:x∈cs) (hy:y∈cs) :
 ∃v:Int,Et O np hp .flat news (g,first.map .d,caps.map .d) [.d x,.d y]=some (.d (D.int .i64 v),hp)∧(v<0↔f x<f y):=by
 have e:qq hp (first.map .d++[.d x,.d y]++caps.map .d)=some (first++[x,y]++caps):=
  wl hp (wl hp (p6 hp h.nf) (p6 hp (ds:=[x,y]) (by intro z hz; simp at hz; rcases hz with rfl | rfl; exact h.nx _ hx; exact h.nx _ hy))) (p6 hp h.nc)
 obtain ⟨v,e1,e2⟩:=h.ask x hx y hy;refine ⟨v,?_,e2⟩;rw [Dp,e,ae,Nx,e1,ae,Hr,show (D.int IntKind.i64 v).flat=true from rfl,if_pos rfl]
theorem a7l {f:D→Int} {n:Nat} {cp:Option Nat} (hn:n≤1000) {i:Nat}:∀(L:List D) (x:D) (R:List D),(L.reverse++x::R).length=n→CmpRow O g first caps f .leaf (L.reverse++x::R)→∃j:Int,
 dn O 1 (.loop ir_slices_insertionSortCmpFunc_impl_row_L0) ⟨[(0,.sl 0 [] 0 n cp),(1,(.d (.int .i64 0))),(2,(.d (.int .i64 n))),(3,.d (.fn g first caps)),(8,(.d (.int .i64 i))),(9,(.d (.int .i64 L.length)))],[.sl false .leaf (L.reverse++x::R)]⟩ =
  some (.exit 2,⟨[(0,.sl 0 [] 0 n cp),(1,(.d (.int .i64 0))),(2,(.d (.int .i64 n))),(3,.d (.fn g first caps)),(8,(.d (.int .i64 i))),(9,(.d (.int .i64 j))),(34,(.d (.bool false)))],[.sl false .leaf (xz f L x R)]⟩)
 | [],x,R,hl,ok=>by
  refine ⟨0,cg ?_⟩;simp -implicitDefEqProofs [ir_slices_insertionSortCmpFunc_impl_row_L0,au,xz]
 | y::L,x,R,hl,ok=>by
  have hj:(y::L).length=L.length+1:=rfl;have hlen:((y::L).reverse++x::R).length=L.length+1+(R.length+1):=by simp; omega
  have e1:((y::L).reverse++x::R)[L.length+1]? = some x:=by
   rw [bx (by simp)]; simp
  have e2:((y::L).reverse++x::R)[L.length]? = some y:=by
   rw [bu (by simp)]; simp
  have m1:x∈(y::L).reverse++x::R:=by simp
  have m2:y∈(y::L).reverse++x::R:=by simp
  obtain ⟨cv,c,cneg⟩:=ok.call (hp:=[.sl false .leaf ((y::L).reverse++x::R)]) (np:=1) (news:=[]) m1 m2;have s1:=ok.sh x m1;have s2:=ok.sh y m2;have n1:=ok.nx x m1;have n2:=ok.nx y m2
  have e3:(((y::L).reverse++x::R).set (L.length+1) y).set L.length x=L.reverse++x::y::R:=by
   rw [pk _ _ (by simp),List.set_append_left _ _ (by simp)]
   simp
  have hp:((y::L).reverse++x::R).Perm (L.reverse++x::y::R):=by
   simp;exact (List.Perm.swap x y R).append_left _
  have w1:IntKind.i64.wrap (L.length:Int)=L.length:=w64 (by omega)
  have h0:(0:Int)<(L.length:Int)+1:=by omega
  have h00:(0:Int)≤(L.length:Int)+1:=by omega
  have h1:L.length+1<n:=by omega
  have h2:L.length<n:=by omega
  have h3:L.length<((y::L).reverse++x::R).length:=by omega
  have h4:L.length+1<((y::L).reverse++x::R).length:=by omega
  have e4:(((y::L).reverse++x::R).set (L.length+1) y)[L.length]? = some y:=by
   rw [bh (by omega),e2]
  unfold xz;rw [hj,show ((L.length+1:Nat):Int)=(L.length:Int)+1 by omega]
  generalize (y::L).reverse++x::R=cs at *;have e1':cs[L.length+1]=x:=by rw [af h4] at e1; exact b6 e1
  have e2':cs[L.length]=y:=by rw [af h3] at e2; exact b6 e2
  by_cases hlt:f x<f y
  ·rw [if_pos hlt]
   obtain ⟨j,e⟩:=a7l hn L x (y::R) (by rw [←hp.length_eq]; omega) (ok.perm hp.symm)
   have hc:=cneg.2 hlt;refine ⟨j,bq ?_ e⟩;simp -implicitDefEqProofs [ir_slices_insertionSortCmpFunc_impl_row_L0,au,h0,h00,h1,h2,h3,h4,e1',e2',c,s1,s2,n1,n2,w1,hc,e3]
  ·rw [if_neg hlt]
   have hc:=mt cneg.1 hlt;refine ⟨(L.length:Int)+1,cg ?_⟩;simp -implicitDefEqProofs [ir_slices_insertionSortCmpFunc_impl_row_L0,au,h0,h00,h1,h2,h3,h4,e1',e2',c,s1,s2,w1,hc]
end
theorem a5z {O:ap} {g:Nat} {first caps:List D} {f:D→Int} {n:Nat} {cp:Option Nat} (hn:n≤1000):∀(r P:List D),P.length+r.length=n→0<P.length→CmpRow O g first caps f .leaf (P++r) →
 dn O 1 (.loop ir_slices_insertionSortCmpFunc_impl_row_L1) ⟨[(0,.sl 0 [] 0 n cp),(1,(.d (.int .i64 0))),(2,(.d (.int .i64 n))),(3,.d (.fn g first caps)),(8,(.d (.int .i64 P.length)))],[.sl false .leaf (P++r)]⟩ =
  some (.exit 0,⟨[(0,.sl 0 [] 0 n cp),(1,(.d (.int .i64 0))),(2,(.d (.int .i64 n))),(3,.d (.fn g first caps)),(8,(.d (.int .i64 n))),(14,(.d (.bool false)))],[.sl false .leaf (En f P r)]⟩)
 | [],P,hl,hP,ok=>by
  have hl':P.length=n:=by simpa using hl
  refine cg ?_;simp -implicitDefEqProofs [ir_slices_insertionSortCmpFunc_impl_row_L1,au,En,hl']
 | x::r,P,hl,hP,ok=>by
  simp at hl;have e0:P.reverse.reverse++x::r=P++x::r:=by simp
  obtain ⟨j,e⟩:=a7l (O:=O) (g:=g) (first:=first) (caps:=caps) (f:=f) (n:=n) (cp:=cp) hn (i:=P.length) P.reverse x r (by simp; omega) (by rw [e0]; exact ok)
  rw [e0,rr,←d9 r,M4,d9] at e;have hlen:=U5 f P.reverse x [];rw [rr,cb,fj] at hlen
  have hperm:(xz f P.reverse x []++r).Perm (P++x::r):=by
   refine (List.Perm.append_right r (ye f P.reverse x [])).trans ?_;simp;exact List.perm_middle.symm
  have ih:=a5z (O:=O) (g:=g) (first:=first) (caps:=caps) (f:=f) (cp:=cp) hn r (xz f P.reverse x []) (by rw [hlen]; omega) (by omega) (ok.perm hperm)
  have hlt:P.length<n:=by omega
  have w1:IntKind.i64.wrap ((P.length:Int)+1)=((P.length+1:Nat):Int):=(w64 (x:=(P.length:Int)+1) (by omega)).trans (by omega)
  rw [hlen] at ih;unfold En;refine bq ?_ ih;simp -implicitDefEqProofs [ir_slices_insertionSortCmpFunc_impl_row_L1,au,hlt,e,w1]
def aay (O:ap) (F:Nat) (args:V→List V→List V):Prop:=∀(g:Nat) (first caps:List D) (f:D→Int) (cs:List D) (cp:Option Nat),cs.length≤12→CmpRow O g first caps f .leaf cs →
 ∃ds:List D,ds.Perm cs∧Asc f ds∧O F (args (.sl 0 [] 0 cs.length cp) [(.d (.int .i64 cs.length)),.d (.fn g first caps)]) [.sl false .leaf cs]=some (.tup [],[.sl false .leaf ds],[])
def G1 (O:ap):Prop:=aay O F2o fun s l=>[s,(.d (.int .i64 0))]++l
theorem a90 (hT:T F2o=some Z2o):G1 (den T A):=by
 intro g first caps f cs cp hl ok;cases cs with
 | nil=>
  refine ⟨[],.refl _,List.Pairwise.nil,i4 hT rfl ?_⟩;have st:=cg (O:=den T A) (np:=1) (c:=ir_slices_insertionSortCmpFunc_impl_row_L1) (s:=⟨[(0,.sl 0 [] 0 0 cp),(1,(.d (.int .i64 0))),(2,(.d (.int .i64 0))),(3,.d (.fn g first caps)),(8,(.d (.int .i64 1)))],[.sl false .leaf []]⟩) (s1:=⟨[(0,.sl 0 [] 0 0 cp),(1,(.d (.int .i64 0))),(2,(.d (.int .i64 0))),(3,.d (.fn g first caps)),(8,(.d (.int .i64 1))),(14,(.d (.bool false)))],[.sl false .leaf []]⟩) (id:=0) (by simp -implicitDefEqProofs [ir_slices_insertionSortCmpFunc_impl_row_L1,au])
  have w1:IntKind.i64.wrap 1=1:=w64 (by omega)
  simp -implicitDefEqProofs [Z2o,ir_slices_insertionSortCmpFunc_impl_row_B,st,w1]
 | cons x r=>
  have e:=a5z (O:=den T A) (g:=g) (first:=first) (caps:=caps) (f:=f) (n:=(x::r).length) (cp:=cp) (by omega) r [x] (by simp; omega) (by simp) ok
  have e1:(([x]:List D).length:Int)=1:=rfl;rw [e1] at e;refine ⟨En f [x] r,Hh f r [x],Lb f r [x] (gd _ _),i4 hT rfl ?_⟩;have w1:IntKind.i64.wrap 1=1:=w64 (by omega)
  rw [List.singleton_append] at e;generalize x::r=cs at *;simp -implicitDefEqProofs [Z2o,ir_slices_insertionSortCmpFunc_impl_row_B,e,w1]
theorem a63 (hT:T F33=some Z33) (hi:G1 (den T A)):∀(g:Nat) (first caps:List D) (f:D→Int) (cs:List D) (cp:Option Nat) (v:Int),cs.length≤12→CmpRow (den T A) g first caps f .leaf cs →
 ∃ds:List D,ds.Perm cs∧Asc f ds∧den T A F33 [.sl 0 [] 0 cs.length cp,(.d (.int .i64 0)),(.d (.int .i64 cs.length)),(.d (.int .i64 v)),.d (.fn g first caps)] [.sl false .leaf cs]=some (.tup [],[.sl false .leaf ds],[]):=by
 intro g first caps f cs cp v hl ok;obtain ⟨ds,h1,h2,e⟩:=hi g first caps f cs cp hl ok;refine ⟨ds,h1,h2,i4 hT rfl ?_⟩;have w1:IntKind.i64.wrap (cs.length:Int)=cs.length:=w64 (by omega)
 have h12:(cs.length:Int)≤12:=by omega
 have lp:=mj (O:=den T A) (np:=1) (c:=ir_slices_pdqsortCmpFunc_impl_row_L0) (s:=⟨[(0,.sl 0 [] 0 cs.length cp),(1,(.d (.int .i64 0))),(2,(.d (.int .i64 cs.length))),(3,(.d (.int .i64 v))),(4,.d (.fn g first caps)),(10,(.d (.bool true))),(11,(.d (.bool true)))],[.sl false .leaf cs]⟩) (s1:=⟨[],[.sl false .leaf ds]⟩) (by
  simp at e;simp -implicitDefEqProofs [ir_slices_pdqsortCmpFunc_impl_row_L0,au,w1,h12,e,List.idxOf,List.findIdx,List.findIdx.go])
 simp -implicitDefEqProofs [Z33,ir_slices_pdqsortCmpFunc_impl_row_B,lp]
def Bx (O:ap):Prop:=∀(g:Nat) (first caps:List D) (f:D→Int) (cs:List D) (cp:Option Nat),cs.length≤12→CmpRow O g first caps f .leaf cs →
 ∃ds:List D,ds.Perm cs∧Asc f ds∧O F2g [.sl 0 [] 0 cs.length cp,.d (.fn g first caps)] [.sl false .leaf cs]=some (.tup [],[.sl false .leaf ds],[])
theorem a4d (hT:T F2g=some Z2g) (hTp:T F33=some Z33) (hi:G1 (den T A)) (hl:A3 (den T A) F25):Bx (den T A):=by
 intro g first caps f cs cp hl12 ok;obtain ⟨v,ev⟩:=hl cs.length hl12;obtain ⟨ds,h1,h2,e⟩:=a63 hTp hi g first caps f cs cp v hl12 ok;refine ⟨ds,h1,h2,i4 hT rfl ?_⟩
 have w1:IntKind.u64.wrap (cs.length:Int)=cs.length:=by
  simp [IntKind.wrap,IntKind.bits,IntKind.signed]; omega
 simp -implicitDefEqProofs [Z2g,ir_slices_SortFunc_impl_row_impl_row_B,w1,ev,e,List.idxOf,List.findIdx,List.findIdx.go]
section
variable {p:Int}
noncomputable def elim (a b:Fp p):Fp p:=b+Pol.C (-(b.c (a.len-1)))*a
noncomputable def dl:List (Fp p)→Fp p→Fp p
 | [],a=>a
 | b::bs,a=>dl bs (elim b a)
noncomputable def xj (a:Fp p):List (Fp p)→List (Fp p)
 | []=>[a]
 | b::bs=>if b.len<a.len then a::(b::bs).map (elim a) else elim a b::xj a bs
theorem ug (a:Fp p):∀L:List (Fp p),(xj a L).Perm (L.map (elim a)++[a])
 | []=>.refl _
 | b::bs=>by
  unfold xj
  split
  ·exact (List.perm_append_singleton a ((b::bs).map (elim a))).symm
  ·exact (ug a bs).cons _
theorem Xm {a:Fp p} {n:Nat} (h:a.len≤n):a.c n=0:=a.lt_len n h
theorem M3 (a b:Fp p) (n:Nat):(elim a b).c n=b.c n + -(b.c (a.len-1))*a.c n:=by
 unfold elim; rw [Pol.c_add,Pol.c_Cmul]
theorem xd {a c:Fp p}:∀{L:List (Fp p)},c∈xj a L→c=a∨∃b∈L,c=elim a b:=fun {L} h=>by
 have:=(ug a L).subset h;rcases bi.1 this with h | h
 ·obtain ⟨b,hb,rfl⟩:=ct.1 h; exact .inr ⟨b,hb,rfl⟩
 ·exact .inl (by simpa using h)
noncomputable abbrev cz (a:Fp p):D:=(D.sl .leaf (aq .i64 (row a)))
def a5q:D→Int
 | .sl _ cs=>-(cs.length:Int)
 | _=>0
theorem G4 (a:Fp p):a5q (cz a)=-(a.len:Int):=by
 show -((aq .i64 (row a)).length:Int)=_;rw [Id,cu]
theorem a4j {L M:List (Fp p)} (hp:M.Perm L) (hL:L.Pairwise fun x y=>y.len<x.len) (hM:M.Pairwise fun x y=>y.len≤x.len):M=L:=by
 refine List.Perm.eq_of_pairwise (le:=fun x y:Fp p=>y.len≤x.len) (fun a b ha hb h1 h2=>?_) hM (hL.imp fun h=>by omega) hp
 have ha':=hp.subset ha;have e:a.len=b.len:=Nat.le_antisymm h2 h1;clear h1 h2 hM
 induction L generalizing M with
 | nil=>cases hb
 | cons c L ih=>
  obtain ⟨g1,g2⟩:=fl.1 hL;rcases dt.1 ha' with rfl | ha1
  ·rcases dt.1 hb with rfl | hb1
   ·rfl
   ·have:=g1 b hb1; omega
  ·rcases dt.1 hb with rfl | hb1
   ·have:=g1 a ha1; omega
   ·exact ih (M:=L) (.refl _) g2 ha1 hb1 ha1
theorem O8 {n:Nat}:∀{L:List (Fp p)} {a:Fp p},(∀b∈L,b.len≤n)→(dl L a).c n=a.c n
 | [],_,_=>rfl
 | b::L,a,h=>by
  show (dl L (elim b a)).c n=_;rw [O8 (L:=L) (fun c hc=>h c (by simp [hc])),M3,Xm (a:=b) (h b (by simp)),Gq.mul_zero,Gq.add_zero]
end
section
variable {p:Int} [IsP p]
structure Desc (N:Nat) (L:List (Fp p)):Prop where
 pw:L.Pairwise fun x y=>y.len<x.len
 mon:∀b∈L,Monic b
 le:∀b∈L,b.len≤N
theorem Desc.nil (N:Nat):Desc N ([]:List (Fp p)):=⟨List.Pairwise.nil,(fun _ h=>by cases h),(fun _ h=>by cases h)⟩
theorem Desc.tail {N:Nat} {b:Fp p} {L:List (Fp p)} (h:Desc N (b::L)):Desc N L∧∀c∈L,c.len<b.len:=
 ⟨⟨h.pw.tail,fun c hc=>h.mon c (by simp [hc]),fun c hc=>h.le c (by simp [hc])⟩,(fl.1 h.pw).1⟩
theorem Desc.length:∀{N:Nat} {L:List (Fp p)},Desc N L→L.length≤N
 | N,[],_=>mu _
 | N,b::L,h=>by
  obtain ⟨h1,h2⟩:=h.tail;have hb:=Pol.len_pos (h.mon b (by simp)).2
  have hle:=h.le b (by simp)
  have:=Desc.length (N:=b.len-1) ⟨h1.pw,h1.mon,fun c hc=>by have:=h2 c hc; omega⟩
  rw [b9]; omega
theorem ve {N:Nat} {a b:Fp p} (ha:a.len≤N) (hb:b.len≤N):(elim a b).len≤N:=by
 unfold elim;refine Pol.len_add_le hb (Pol.len_le fun i hi=>?_)
 rw [Pol.c_Cmul,Xm (a:=a) (by omega),Gq.mul_zero]
theorem a27 {a:Fp p} (ha:Monic a) (b:Fp p):(elim a b).c (a.len-1)=0:=by
 rw [M3,show a.c (a.len-1)=1 from ha.1,Gq.mul_one];exact Gq.add_neg _
theorem E5 {N:Nat}:∀{L:List (Fp p)} {a:Fp p},(∀b∈L,b.len≤N)→a.len≤N→(dl L a).len≤N
 | [],_,_,ha=>ha
 | b::L,a,h,ha=>E5 (L:=L) (fun c hc=>h c (by simp [hc])) (ve (h b (by simp)) ha)
theorem H4 {N:Nat}:∀{L:List (Fp p)} {a:Fp p},Desc N L→∀b∈L,(dl L a).c (b.len-1)=0
 | b::L,a,h,c,hc=>by
  obtain ⟨h1,h2⟩:=h.tail;show (dl L (elim b a)).c _=0;rcases dt.1 hc with rfl | hc
  ·rw [O8 (L:=L) (fun d hd=>by have:=h2 d hd; omega),a27 (h.mon c (by simp))]
  ·exact H4 h1 c hc
theorem Qy {N:Nat} {L:List (Fp p)} {a:Fp p} (h:Desc N L) (h0:dl L a≠0):∀b∈L,b.len≠(dl L a).len:=fun b hb e=>by
 have h1:=H4 (a:=a) h b hb;rw [e] at h1;exact Pol.ld_ne h0 h1
theorem Mx {a b:Fp p} (hb:Monic b) (hne:b.len≠a.len):Monic (elim a b)∧(elim a b).len=b.len:=by
 have hbp:=Pol.len_pos hb.2;rcases f7 b.len a.len with h | h
 ·have:elim a b=b:=by
   unfold elim;rw [Xm (by omega),th,Pol.C_zero,Gq.zero_mul,Gq.add_zero]
  rw [this]; exact ⟨hb,rfl⟩
 ·have hc:(elim a b).c (b.len-1)=1:=by
   rw [M3,Xm (a:=a) (by omega),Gq.mul_zero,Gq.add_zero]; exact hb.1
  have hl:(elim a b).len=b.len:=by
   have h1:(elim a b).len=(b.len-1)+1:=Pol.len_eq (Pol.lt_iff.2 (by
    rw [Nat.sub_add_cancel hbp]; exact ve h (bp _))) (by rw [hc]; exact Fd.one_ne)
   omega
  refine ⟨⟨by unfold Pol.ld; rw [hl]; exact hc,fun h0=>?_⟩,hl⟩
  rw [h0,Pol.len_zero] at hl;omega
theorem Hn {N:Nat} {a:Fp p} (ha:Monic a) (hal:a.len≤N):∀{L:List (Fp p)},Desc N L→(∀b∈L,b.len≠a.len)→Desc N (xj a L)
 | [],_,_=>⟨gd _ _,fun b hb=>by simp [xj] at hb; rw [hb]; exact ha,fun b hb=>by simp [xj] at hb; rw [hb]; exact hal⟩
 | b::L,h,hne=>by
  obtain ⟨h1,h2⟩:=h.tail;have hall:∀c∈b::L,Monic (elim a c)∧(elim a c).len=c.len:=fun c hc=>Mx (h.mon c hc) (hne c hc)
  refine ⟨?_,fun c hc=>?_,fun c hc=>?_⟩
  ·unfold xj
   split
   ·rename_i hlt
    refine fl.2 ⟨fun c hc=>?_,?_⟩
    ·obtain ⟨d,hd,rfl⟩:=ct.1 hc
     rw [(hall d hd).2];rcases dt.1 hd with rfl | hd
     ·exact hlt
     ·have:=h2 d hd; omega
    ·rw [po]
     refine h.pw.imp_of_mem fun {x y} hx hy hxy=>?_
     rw [(hall x hx).2,(hall y hy).2]; exact hxy
   ·rename_i hge
    refine fl.2 ⟨fun c hc=>?_,(Hn ha hal h1 fun c hc=>hne c (by simp [hc])).pw⟩
    rw [(hall b (by simp)).2]
    rcases xd hc with rfl | ⟨d,hd,rfl⟩
    ·have:=hne b (by simp); omega
    ·rw [(hall d (by simp [hd])).2]; exact h2 d hd
  ·rcases xd hc with rfl | ⟨d,hd,rfl⟩
   ·exact ha
   ·exact (hall d hd).1
  ·rcases xd hc with rfl | ⟨d,hd,rfl⟩
   ·exact hal
   ·rw [(hall d hd).2]; exact h.le d hd
noncomputable def ki (L:List (Fp p)) (x:Fp p):List (Fp p):=by
 classical exact if dl L x=0 then L else xj (Gq.mon (dl L x)) L
theorem qt {L:List (Fp p)} {x:Fp p} (h:dl L x=0):ki L x=L:=by unfold ki; rw [if_pos h]
theorem sc {L:List (Fp p)} {x:Fp p} (h:dl L x≠0):ki L x=xj (Gq.mon (dl L x)) L:=by unfold ki; rw [if_neg h]
noncomputable def di:List (Fp p)→List (Fp p)→List (Fp p)
 | [],L=>L
 | x::xs,L=>di xs (ki L x)
theorem re {N:Nat} {L:List (Fp p)} {x:Fp p} (h:Desc N L) (hx:x.len≤N):Desc N (ki L x):=by
 by_cases h0:dl L x=0
 ·rw [qt h0]; exact h
 ·rw [sc h0]
  exact Hn (pf h0) (by rw [uj h0]; exact E5 h.le hx) h fun b hb=>by rw [uj h0]; exact Qy h h0 b hb
theorem sr {N:Nat}:∀{xs L:List (Fp p)},Desc N L→(∀x∈xs,x.len≤N)→Desc N (di xs L)
 | [],_,h,_=>h
 | x::xs,L,h,hx=>sr (xs:=xs) (re h (hx x (by simp))) fun y hy=>hx y (by simp [hy])
end
section
variable {p:Int}
theorem a9r {a:Fp p} {L:List (Fp p)} {ds:List D} (hd:(xj a L).Pairwise fun x y=>y.len<x.len) (hp:ds.Perm ((L.map (elim a)++[a]).map cz)) (hs:Asc a5q ds):ds=(xj a L).map cz:=by
 obtain ⟨M,p1,p2⟩:=Iq cz hp.symm (L.map (elim a)++[a]) rfl;subst p2
 have:M=xj a L:=a4j (p1.trans (ug a L).symm) hd (by
  unfold Asc at hs;rw [po] at hs;exact hs.imp fun h=>by rw [G4,G4] at h; omega)
 rw [this]
end
def M1 (O:ap):Prop:=∀(p:Int) [IsP p] (c:Fp p) (k:Nat),k<10000→ask O F1w [(D.sl .leaf (aq .i64 (row c))),(D.int .i64 k)]=some (skD (f8 c k))
theorem a3x {p:Int} (c:Fp p) (k:Nat):(List.replicate (k+1) (D.sl .leaf [])).set k (D.sl .leaf (aq .i64 (row c)))=(f8 c k).map cz:=by
 unfold f8;rw [cn,gz,show cz (0:Fp p)=.sl .leaf [] by show (D.sl .leaf (aq .i64 (row (0:Fp p))))=_; rw [row_zero,iu],List.replicate_succ',pk _ _ (by rw [cw]; omega),cw,jh]
 rfl
theorem a5j (hT:T F1w=some Z1w):M1 (den T A):=by
 intro p ip c k hk;have w1:IntKind.i64.wrap ((k:Int)+1)=((k+1:Nat):Int):=(w64 (x:=(k:Int)+1) (by omega)).trans (by omega)
 have h24:(k+1)*24≤1099511627776:=by omega
 have hn:(0:Int)≤((k+1:Nat):Int):=by omega
 have hlt:k<k+1:=by omega
 have hsk:skD (f8 c k)=.sl .leaf ((f8 c k).map cz):=rfl;have htm:=a3x c k;have hTL:((f8 c k).map cz).length=k+1:=by rw [ab,jy]
 have htk:((f8 c k).map cz).take (k+1)=(f8 c k).map cz:=b7 (by omega)
 rw [hsk];refine ch hT rfl ?_;have hRL:(List.replicate (k+1) (D.sl .leaf [])).length=k+1:=cw ..;have hRg:∀h:k<(List.replicate (k+1) (D.sl .leaf [])).length,(List.replicate (k+1) (D.sl .leaf []))[k]'h=D.sl .leaf []:=fun h=>List.getElem_replicate h
 generalize (f8 c k).map cz=TD at *;generalize row c=Rc at *;generalize hRR:List.replicate (k+1) (D.sl .leaf [])=RR at *;generalize k+1=k1 at *;simp -implicitDefEqProofs [Z1w,Z1w_B,w1,h24,hlt,hRR,hRL,hRg,htm,hTL,htk]
def a0w (O:ap):Prop:=∀(p:Int) [IsP p] (m:Fp p) (a b:List (Fp p)),2≤m.len→m.len≤64→(∀c∈a,c.len≤64)→(∀c∈b,c.len≤64)→a.length<10000→b.length<10000→ask O Fk [qf m,skD a,skD b]=some (skD (gh m a b))
theorem aix {O:ap} (h:adw O):a0w O:=by
 intro p ip m a b h2 hml ha hb hal hbl;rw [h p m a b h2 hml ha hb hal hbl];unfold gh
 split <;> rfl
section
variable {p:Int} [IsP p]
theorem wb (x:Zp p):0≤rep x∧rep x≤7:=by
 have h1:=nu x;have h2:=IsP.le (p:=p);omega
theorem a6h {O:ap} (hc:o5 O) {a b:Fp p} (ha:a.len≤64) (hb:b.len≤64):ask O F13 [(D.int .i64 p),(D.sl .leaf (aq .i64 (row b))),(D.sl .leaf (aq .i64 (row a))),(D.int .i64 (-rep (b.c (a.len-1))))]=some (D.sl .leaf (aq .i64 (row (elim a b)))):=by
 have h:=wb (b.c (a.len-1));have:=hc p (-rep (b.c (a.len-1))) b a (by omega) (by omega) (by omega) (by omega)
 rw [Hd,m8] at this;exact this
theorem a8d {O:ap} (hat:Uu O) (hc:o5 O) {L:List (Fp p)} {N:Nat} (hN:N≤12) (hL:Desc N L) {xs:List D} {nx i:Int} {n:Nat} (hn:L.length=n) {cp cp2:Option Nat}:∀(r j:Nat) (a:Fp p),j+r=n→a.len≤N →
 dn O 0 (.loop Z1g_L0) ⟨[(0,(.d (.int .i64 p))),(5,.sl 0 [] 0 n cp),(7,(.d (.sl .leaf (aq .i64 (row a))))),(12,.d (.sl .leaf xs)),(13,(.d (.int .i64 nx))),(14,(.d (.int .i64 i))),(18,.sl 0 [] 0 n cp2),(19,(.d (.int .i64 n))),(20,(.d (.int .i64 j)))],[.sl false .leaf (L.map cz),.hole,.hole]⟩ =
  some (.exit 2,⟨[(0,(.d (.int .i64 p))),(5,.sl 0 [] 0 n cp),(7,(.d (.sl .leaf (aq .i64 (row (dl (L.drop j) a)))))),(12,.d (.sl .leaf xs)),(13,(.d (.int .i64 nx))),(14,(.d (.int .i64 i))),(18,.sl 0 [] 0 n cp2),(19,(.d (.int .i64 n))),(20,(.d (.int .i64 n))),(21,(.d (.bool false)))],[.sl false .leaf (L.map cz),.hole,.hole]⟩)
 | 0,j,a,hj,ha=>by
  obtain rfl:j=n:=by omega
  rw [i5 (by omega)]
  refine cg ?_;show _=some (_,(⟨[_,_,(7,(.d (.sl .leaf (aq .i64 (row a))))),_,_,_,_,_,_,_],_⟩:St));generalize L.map cz=LD at *;simp -implicitDefEqProofs [Z1g_L0,au]
 | r+1,j,a,hj,ha=>by
  have hlt:j<L.length:=by omega
  have hll:=hL.length;have hjn:j<n:=by omega
  have hm:=bb hlt;have hbl:=hL.le _ hm;have hbp:=Pol.len_pos (hL.mon _ hm).2;have e1:=hat (row a) (L[j].len-1) (by omega)
  rw [jc] at e1;have e2:=a6h (O:=O) hc (a:=L[j]) (b:=a) (by omega) (by omega)
  have w1:IntKind.i64.wrap (((row L[j]).length:Int)-1)=((L[j].len-1:Nat):Int):=by rw [cu]; exact (w64 (by omega)).trans (by omega)
  have hr:=wb (a.c (L[j].len-1));have w2':IntKind.i64.wrap (-rep (a.c (L[j].len-1)))=-rep (a.c (L[j].len-1)):=w64 (by omega)
  have w4:IntKind.i64.wrap ((j:Int)+1)=((j+1:Nat):Int):=(w64 (x:=(j:Int)+1) (by omega)).trans (by omega)
  have hx:∀h:j<(L.map cz).length,(L.map cz)[j]'h=(D.sl .leaf (aq .i64 (row L[j]))):=fun h=>by rw [ci]
  have hLD:(L.map cz).length=n:=by rw [ab]; exact hn
  have hd:dl (L.drop j) a=dl (L.drop (j+1)) (elim L[j] a):=by rw [cd hlt]; rfl
  have hjl:(j:Int)<n:=by omega
  rw [hd];refine bq ?_ (a8d hat hc hN hL hn r (j+1) (elim L[j] a) (by omega) (ve hbl ha))
  generalize rep (a.c (L[j].len-1))=k at *;generalize row (elim L[j] a)=R1 at *;generalize row a=R2 at *;generalize row L[j]=R3 at *;generalize L[j].len-1=d at *;generalize L.map cz=LD at *;simp -implicitDefEqProofs [Z1g_L0,au,hjl,hjn,hLD,hx,e1,e2,w1,w2',w4]
theorem a5n {O:ap} (hat:Uu O) (hc:o5 O) {a:Fp p} (ha:a≠0) (hal:a.len≤12) {xs:List D} {nx i:Int} {n:Nat} {cp cp2:Option Nat}:∀(r j:Nat) (Q:List (Fp p)),j+r=n→Q.length=n→(∀b∈Q,b.len≤12)→n≤12 →
 dn O 0 (.loop Z1g_L1) ⟨[(0,(.d (.int .i64 p))),(5,.sl 0 [] 0 n cp),(7,(.d (.sl .leaf (aq .i64 (row a))))),(12,.d (.sl .leaf xs)),(13,(.d (.int .i64 nx))),(14,(.d (.int .i64 i))),(45,.sl 0 [] 0 n cp2),(46,(.d (.int .i64 n))),(47,(.d (.int .i64 j)))],[.sl false .leaf (Q.map cz),.hole,.hole]⟩ =
  some (.exit 4,⟨[(0,(.d (.int .i64 p))),(5,.sl 0 [] 0 n cp),(7,(.d (.sl .leaf (aq .i64 (row a))))),(12,.d (.sl .leaf xs)),(13,(.d (.int .i64 nx))),(14,(.d (.int .i64 i))),(45,.sl 0 [] 0 n cp2),(46,(.d (.int .i64 n))),(47,(.d (.int .i64 n))),(48,(.d (.bool false)))],[.sl false .leaf ((Q.take j++(Q.drop j).map (elim a)).map cz),.hole,.hole]⟩)
 | 0,j,Q,hj,hq,hQ,hn=>by
  obtain rfl:j=n:=by omega
  have:Q.take j++(Q.drop j).map (elim a)=Q:=by rw [i5 (by omega),b7 (by omega)]; simp
  rw [this];refine cg ?_;generalize Q.map cz=LD at *;simp -implicitDefEqProofs [Z1g_L1,au]
 | r+1,j,Q,hj,hq,hQ,hn=>by
  have hlt:j<Q.length:=by omega
  have hjn:j<n:=by omega
  have hm:=bb hlt;have hbl:=hQ _ hm;have hap:=Pol.len_pos ha;have e1:=hat (row Q[j]) (a.len-1) (by omega)
  rw [jc] at e1;have e2:=a6h (O:=O) hc (a:=a) (b:=Q[j]) (by omega) (by omega)
  have w1:IntKind.i64.wrap (((row a).length:Int)-1)=((a.len-1:Nat):Int):=by rw [cu]; exact (w64 (by omega)).trans (by omega)
  have hr:=wb (Q[j].c (a.len-1));have w2':IntKind.i64.wrap (-rep (Q[j].c (a.len-1)))=-rep (Q[j].c (a.len-1)):=w64 (by omega)
  have w4:IntKind.i64.wrap ((j:Int)+1)=((j+1:Nat):Int):=(w64 (x:=(j:Int)+1) (by omega)).trans (by omega)
  have hx:∀h:j<(Q.map cz).length,(Q.map cz)[j]'h=(D.sl .leaf (aq .i64 (row Q[j]))):=fun h=>by rw [ci]
  have hLD:(Q.map cz).length=n:=by rw [ab]; exact hq
  have hset:(Q.set j (elim a Q[j])).take (j+1)++((Q.set j (elim a Q[j])).drop (j+1)).map (elim a)=Q.take j++(Q.drop j).map (elim a):=by
   rw [List.drop_set_of_lt (by omega),d8 (by rw [db]; exact hlt),List.getElem_set_self,List.take_set,List.set_eq_of_length_le (by rw [bj]; omega),cd hlt,fu,ee]
   rfl
  rw [←hset]
  refine bq ?_ (a5n hat hc ha hal r (j+1) (Q.set j (elim a Q[j])) (by omega) (by rw [db]; exact hq) (fun b hb=>by
   rcases ef hb with h | rfl
   ·exact hQ b h
   ·exact ve hal hbl) hn)
  have hms:(Q.set j (elim a Q[j])).map cz=(Q.map cz).set j (D.sl .leaf (aq .i64 (row (elim a Q[j])))):=mn;rw [hms];have hjl:(j:Int)<n:=by omega
  generalize rep (Q[j].c (a.len-1))=k at *;generalize row (elim a Q[j])=R1 at *;generalize row Q[j]=R2 at *;generalize row a=R3 at *;generalize a.len-1=d at *;generalize Q.map cz=LD at *;simp -implicitDefEqProofs [Z1g_L1,au,hjl,hjn,hLD,hx,e1,e2,w1,w2',w4]
theorem W5 {O:ap} (hat:Uu O) (hc:o5 O) (hld:y7 O) (hinv:rf O) (hsc:uq O) (hsort:Bx O) (hcmp:∀L:List (Fp p),(∀x∈L,x.len≤1000)→CmpRow O F1h [] [] a5q .leaf (L.map cz)) {xs:List (Fp p)} {N:Nat} (hN:N≤11) (hxs:∀x∈xs,x.len≤N) (hxl:xs.length<2000000):∀(r i:Nat) (L:List (Fp p)) (cp:Option Nat),i+r=xs.length→Desc N L→∃cp':Option Nat,
 dn O 0 (.loop Z1g_L2) ⟨[(0,(.d (.int .i64 p))),(5,.sl 0 [] 0 L.length cp),(12,.d (.sl .leaf (xs.map cz))),(13,(.d (.int .i64 xs.length))),(14,(.d (.int .i64 i)))],[.sl false .leaf (L.map cz),.hole,.hole]⟩ =
  some (.exit 0,⟨[(0,(.d (.int .i64 p))),(5,.sl 0 [] 0 (di (xs.drop i) L).length cp'),(12,.d (.sl .leaf (xs.map cz))),(13,(.d (.int .i64 xs.length))),(14,(.d (.int .i64 xs.length))),(15,(.d (.bool false)))],[.sl false .leaf ((di (xs.drop i) L).map cz),.hole,.hole]⟩)
 | 0,i,L,cp,hi,hL=>by
  obtain rfl:i=xs.length:=by omega
  rw [fw];refine ⟨cp,cg ?_⟩;show _=some (_,(⟨[_,(5,.sl 0 [] 0 L.length cp),_,_,_,_],[.sl false .leaf (L.map cz),_,_]⟩:St));generalize L.map cz=LD at *;generalize xs.map cz=XD at *;simp -implicitDefEqProofs [Z1g_L2,au]
 | r+1,i,L,cp,hi,hL=>by
  have hlt:i<xs.length:=by omega
  have hm:=bb hlt;have hxi:=hxs _ hm;have hll:=hL.length;have hd:di (xs.drop i) L=di (xs.drop (i+1)) (ki L xs[i]):=by rw [cd hlt]; rfl
  have hx:∀h:i<(xs.map cz).length,(xs.map cz)[i]'h=(D.sl .leaf (aq .i64 (row xs[i]))):=fun h=>by rw [ci]
  have hXD:(xs.map cz).length=xs.length:=ab ..;have hLD:(L.map cz).length=L.length:=ab ..;have w4:IntKind.i64.wrap ((i:Int)+1)=((i+1:Nat):Int):=(w64 (x:=(i:Int)+1) (by omega)).trans (by omega)
  have e0:=a8d (O:=O) hat hc (by omega) hL (xs:=xs.map cz) (nx:=xs.length) (i:=i) rfl (cp:=cp) (cp2:=cp) L.length 0 xs[i] (br _) hxi
  have e00:((0:Nat):Int)=0:=rfl;rw [e00,dm] at e0;have hrl:=E5 (L:=L) hL.le hxi;rw [hd]
  by_cases h0:dl L xs[i]=0
  ·rw [qt h0]
   obtain ⟨cp',ih⟩:=W5 hat hc hld hinv hsc hsort hcmp hN hxs hxl r (i+1) L cp (by omega) hL
   refine ⟨cp',bq ?_ ih⟩;rw [h0,row_zero] at e0;generalize row xs[i]=R1 at *;generalize L.map cz=LD at *;generalize xs.map cz=XD at *;simp -implicitDefEqProofs [Z1g_L2,au,hlt,hXD,hx,e0,w4,iu]
  ·have hap:=Pol.len_pos h0
   have hml:=uj h0;have hmm:=pf h0;have hld0:=Pol.ld_ne h0;have hri:=nu (dl L xs[i]).ld;have hp7:=IsP.le (p:=p);have hp2:=IsP.ge (p:=p);have hr0:rep (dl L xs[i]).ld≠0:=fun h=>hld0 (im.1 h)
   have e2:=hld (row (dl L xs[i])) (by rw [cu]; omega)
   rw [Gl] at e2;have e3:=hinv p (rep (dl L xs[i]).ld) (by omega) (by omega) (by omega) (by omega)
   have hin:=A2 (p:=p) (rep (dl L xs[i]).ld);have e4:=hsc p (inv p (rep (dl L xs[i]).ld)) (dl L xs[i]) (by omega) (by omega) (by omega)
   rw [wg _ hld0,show Pol.C (Fd.inv (dl L xs[i]).ld)*dl L xs[i]=Gq.mon (dl L xs[i]) from rfl] at e4;have e5:=a5n (O:=O) hat hc hmm.2 (by omega) (xs:=xs.map cz) (nx:=xs.length) (i:=i) (n:=L.length) (cp:=cp) (cp2:=cp) L.length 0 L (br _) rfl (fun b hb=>by have:=hL.le b hb; omega) (by omega)
   rw [e00,fd,d9,dm] at e5;have hne:∀b∈L,b.len≠(Gq.mon (dl L xs[i])).len:=fun b hb=>by rw [hml]; exact Qy hL h0 b hb
   have hins:=Hn hmm (by omega) hL hne
   obtain ⟨ds,s1,s2,s3⟩:=hsort F1h [] [] a5q ((L.map (elim (Gq.mon (dl L xs[i])))++[Gq.mon (dl L xs[i])]).map cz) none (by rw [ab,b8,ab,ez]; omega) (hcmp _ fun x hx=>by
    rcases bi.1 hx with h | h
    ·obtain ⟨b,hb,rfl⟩:=ct.1 h
     have:=ve (N:=N) (a:=Gq.mon (dl L xs[i])) (by omega) (hL.le b hb)
     omega
    ·obtain rfl:x=_:=by simpa using h
     omega)
   rw [a9r hins.pw s1 s2] at s3;have hpl:=(ug (Gq.mon (dl L xs[i])) L).length_eq;rw [b8,ab,ez] at hpl;rw [sc h0];obtain ⟨cp',ih⟩:=W5 hat hc hld hinv hsc hsort hcmp hN hxs hxl r (i+1) (xj (Gq.mon (dl L xs[i])) L) none (by omega) hins
   refine ⟨cp',bq ?_ ih⟩;rw [hpl];have hsl:((L.map (elim (Gq.mon (dl L xs[i])))++[Gq.mon (dl L xs[i])]).map cz).length=L.length+1:=by rw [ab,b8,ab,ez]
   rw [hsl] at s3;have hmap:(L.map (elim (Gq.mon (dl L xs[i])))++[Gq.mon (dl L xs[i])]).map cz=(L.map (elim (Gq.mon (dl L xs[i])))).map cz++[(D.sl .leaf (aq .i64 (row (Gq.mon (dl L xs[i])))))]:=by rw [cn]; rfl
   rw [hmap] at s3;have hLE:((L.map (elim (Gq.mon (dl L xs[i])))).map cz).length=L.length:=by rw [ab,ab]
   have h24:(L.length+1)*24≤1099511627776:=by omega
   have hrl0:(row (dl L xs[i])).length≠0:=by rw [cu]; omega
   have htk:((L.map (elim (Gq.mon (dl L xs[i])))).map cz).take L.length=(L.map (elim (Gq.mon (dl L xs[i])))).map cz:=b7 (by omega)
   generalize (xj (Gq.mon (dl L xs[i])) L).map cz=LI at *;generalize (L.map (elim (Gq.mon (dl L xs[i])))).map cz=LE at *;generalize inv p (rep (dl L xs[i]).ld)=k1 at *;generalize rep (dl L xs[i]).ld=k2 at *;generalize row (Gq.mon (dl L xs[i]))=R2 at *;generalize row (dl L xs[i])=R3 at *;generalize row xs[i]=R1 at *;generalize L.map cz=LD at *;generalize xs.map cz=XD at *;simp -implicitDefEqProofs [Z1g_L2,au,hlt,hXD,hx,e0,e2,e3,e4,e5,s3,w4,hrl0,hLE,h24,htk,List.replicate,List.idxOf,List.findIdx,List.findIdx.go]
def Bq (O:ap):Prop:=∀(p:Int) [IsP p] (xs:List (Fp p)),(∀x∈xs,x.len≤11)→xs.length<2000000→ask O F1g [(D.int .i64 p),.sl .leaf (xs.map cz)]=some (.sl .leaf ((di xs []).map cz))
end
theorem ac5 {p:Int} (hT:T F1h=some Z1h) {L:List (Fp p)} (hl:∀x∈L,x.len≤1000):CmpRow (den T A) F1h [] [] a5q .leaf (L.map cz):=by
 refine ⟨fun x hx=>by simp at hx,fun x hx=>by simp at hx,fun x hx=>?_,fun x hx=>?_,fun x hx y hy=>?_⟩
 ·obtain ⟨a,_,rfl⟩:=ct.1 hx; rfl
 ·obtain ⟨a,_,rfl⟩:=ct.1 hx; rfl
 ·obtain ⟨a,ha,rfl⟩:=ct.1 hx
  obtain ⟨b,hb,rfl⟩:=ct.1 hy;have h1:=hl a ha;have h2:=hl b hb;have w1:IntKind.i64.wrap ((b.len:Int)-a.len)=(b.len:Int)-a.len:=w64 (by omega)
  refine ⟨(b.len:Int)-a.len,ch hT rfl ?_,by rw [G4,G4]; omega⟩
  simp -implicitDefEqProofs [Z1h,Z1h_B,w1]
theorem a31 (hT:T F1g=some Z1g) (hT1:T F1h=some Z1h) (hat:Uu (den T A)) (hc:o5 (den T A)) (hld:y7 (den T A)) (hinv:rf (den T A)) (hsc:uq (den T A)) (hsort:Bx (den T A)):Bq (den T A):=by
 intro p ip xs hxs hxl;obtain ⟨cp,e⟩:=W5 (O:=den T A) hat hc hld hinv hsc hsort (fun L hl=>ac5 hT1 hl) (bp 11) hxs hxl xs.length 0 [] (some 0) (br _) (Desc.nil 11)
 have e00:((0:Nat):Int)=0:=rfl;rw [e00,dm,fi,cb] at e;have hL:((di xs []).map cz).length=(di xs []).length:=ab ..;have hX:(xs.map cz).length=xs.length:=ab ..;have htk:((di xs []).map cz).take (di xs []).length=(di xs []).map cz:=b7 (by omega)
 refine ch hT rfl ?_;generalize (di xs []).map cz=LD at *;generalize xs.map cz=XD at *;simp -implicitDefEqProofs [Z1g,Z1g_B,hX,hL,htk,e]
noncomputable abbrev bv {p:Int} (a:Fp p):D:=(D.arr 64 .leaf (aq .u8 (pad (row a))))
theorem ia {p:Int} (xs:List (Fp p)):(skP xs).map ce=xs.map bv:=by unfold skP; rw [k8]; rfl
section
variable {p:Int} [IsP p]
theorem a5d {O:ap} (hro:za O) {xs:List (Fp p)} (hl:xs.length<2000000) (hx:∀x∈xs,x.len≤64):∀(r i:Nat) (cp:Option Nat),i+r=xs.length→∃cp':Option Nat,
 dn O 0 (.loop Z1v_L0) ⟨[(3,.sl 0 [] 0 i cp),(6,.d (.sl (.arr 64 .leaf) (xs.map bv))),(7,(.d (.int .i64 xs.length))),(8,(.d (.int .i64 i)))],[.sl false .leaf ((xs.take i).map cz),.hole,.hole,.hole]⟩ =
  some (.exit 0,⟨[(3,.sl 0 [] 0 xs.length cp'),(6,.d (.sl (.arr 64 .leaf) (xs.map bv))),(7,(.d (.int .i64 xs.length))),(8,(.d (.int .i64 xs.length))),(9,(.d (.bool false)))],[.sl false .leaf (xs.map cz),.hole,.hole,.hole]⟩)
 | 0,i,cp,hi=>by
  obtain rfl:i=xs.length:=by omega
  rw [gq];refine ⟨cp,cg ?_⟩;generalize xs.map bv=XD at *;generalize xs.map cz=RD at *;simp -implicitDefEqProofs [Z1v_L0,au]
 | r+1,i,cp,hi=>by
  have hlt:i<xs.length:=by omega
  have hm:=bb hlt;have e1:=hro p xs[i] (hx _ hm);have hXD:(xs.map bv).length=xs.length:=ab ..;have hxi:∀h:i<(xs.map bv).length,(xs.map bv)[i]'h=(D.arr 64 .leaf (aq .u8 (pad (row xs[i])))):=fun h=>by rw [ci]
  have w4:IntKind.i64.wrap ((i:Int)+1)=((i+1:Nat):Int):=(w64 (x:=(i:Int)+1) (by omega)).trans (by omega)
  have h24:(i+1)*24≤1099511627776:=by omega
  have htk:(xs.take (i+1)).map cz=(xs.take i).map cz++[(D.sl .leaf (aq .i64 (row xs[i])))]:=by rw [d8 hlt,cn]; rfl
  have hL:((xs.take i).map cz).length=i:=by rw [ab,bj]; omega
  have htt:((xs.take i).map cz).take i=(xs.take i).map cz:=b7 (by omega)
  obtain ⟨cp',ih⟩:=a5d hro hl hx r (i+1) none (by omega)
  refine ⟨cp',bq ?_ ih⟩;rw [htk];generalize pad (row xs[i])=Pi at *;generalize row xs[i]=Ri at *;generalize (xs.take i).map cz=TD at *;generalize xs.map bv=XD at *;simp -implicitDefEqProofs [Z1v_L0,au,hlt,hXD,hxi,e1,h24,hL,htt,w4,List.replicate]
def Aj (O:ap):Prop:=∀(p:Int) [IsP p] (xs:List (Fp p)),xs.length<2000000→(∀x∈xs,x.len≤64)→ask O F1v [.sl (.arr 64 .leaf) (xs.map bv)]=some (.sl .leaf (xs.map cz))
theorem a1n {O:ap} (hpo:Hk O) {xs:List (Fp p)} (hl:xs.length<2000000) (hx:∀x∈xs,x.len≤64):∀(r i:Nat) (cp:Option Nat),i+r=xs.length→∃cp':Option Nat,
 dn O 0 (.loop Z11_L0) ⟨[(3,.sl 0 [] 0 i cp),(6,.d (.sl .leaf (xs.map cz))),(7,(.d (.int .i64 xs.length))),(8,(.d (.int .i64 i)))],[.sl false (.arr 64 .leaf) ((xs.take i).map bv),.hole,.hole]⟩ =
  some (.exit 0,⟨[(3,.sl 0 [] 0 xs.length cp'),(6,.d (.sl .leaf (xs.map cz))),(7,(.d (.int .i64 xs.length))),(8,(.d (.int .i64 xs.length))),(9,(.d (.bool false)))],[.sl false (.arr 64 .leaf) (xs.map bv),.hole,.hole]⟩)
 | 0,i,cp,hi=>by
  obtain rfl:i=xs.length:=by omega
  rw [gq];refine ⟨cp,cg ?_⟩;generalize xs.map bv=XD at *;generalize xs.map cz=RD at *;simp -implicitDefEqProofs [Z11_L0,au]
 | r+1,i,cp,hi=>by
  have hlt:i<xs.length:=by omega
  have hm:=bb hlt;have e1:=hpo p xs[i] (hx _ hm);have hXD:(xs.map cz).length=xs.length:=ab ..;have hxi:∀h:i<(xs.map cz).length,(xs.map cz)[i]'h=(D.sl .leaf (aq .i64 (row xs[i]))):=fun h=>by rw [ci]
  have w4:IntKind.i64.wrap ((i:Int)+1)=((i+1:Nat):Int):=(w64 (x:=(i:Int)+1) (by omega)).trans (by omega)
  have h24:(i+1)*64≤1099511627776:=by omega
  have htk:(xs.take (i+1)).map bv=(xs.take i).map bv++[(D.arr 64 .leaf (aq .u8 (pad (row xs[i]))))]:=by rw [d8 hlt,cn]; rfl
  have hL:((xs.take i).map bv).length=i:=by rw [ab,bj]; omega
  have htt:((xs.take i).map bv).take i=(xs.take i).map bv:=b7 (by omega)
  obtain ⟨cp',ih⟩:=a1n hpo hl hx r (i+1) none (by omega)
  refine ⟨cp',bq ?_ ih⟩;rw [htk];generalize pad (row xs[i])=Pi at *;generalize row xs[i]=Ri at *;generalize (xs.take i).map bv=TD at *;generalize xs.map cz=XD at *;simp -implicitDefEqProofs [Z11_L0,au,hlt,hXD,hxi,e1,h24,hL,htt,w4,List.replicate]
def Co (O:ap):Prop:=∀(p:Int) [IsP p] (xs:List (Fp p)),xs.length<2000000→(∀x∈xs,x.len≤64)→ask O F11 [.sl .leaf (xs.map cz)]=some (.sl (.arr 64 .leaf) (xs.map bv))
end
theorem afq (hT:T F1v=some Z1v) (hro:za (den T A)):Aj (den T A):=by
 intro p ip xs hl hx;obtain ⟨cp,e⟩:=a5d (O:=den T A) hro hl hx xs.length 0 (some 0) (br _);have e00:((0:Nat):Int)=0:=rfl;rw [e00,fd,fi] at e;have h1:(xs.map cz).length=xs.length:=ab ..;have h2:(xs.map bv).length=xs.length:=ab ..;have htk:(xs.map cz).take xs.length=xs.map cz:=b7 (by omega)
 refine ch hT rfl ?_;generalize xs.map bv=XD at *;generalize xs.map cz=RD at *;simp -implicitDefEqProofs [Z1v,Z1v_B,h1,h2,htk,e]
theorem ac7 (hT:T F11=some Z11) (hpo:Hk (den T A)):Co (den T A):=by
 intro p ip xs hl hx;obtain ⟨cp,e⟩:=a1n (O:=den T A) hpo hl hx xs.length 0 (some 0) (br _);have e00:((0:Nat):Int)=0:=rfl;rw [e00,fd,fi] at e;have h1:(xs.map bv).length=xs.length:=ab ..;have h2:(xs.map cz).length=xs.length:=ab ..;have htk:(xs.map bv).take xs.length=xs.map bv:=b7 (by omega)
 refine ch hT rfl ?_;generalize xs.map bv=XD at *;generalize xs.map cz=RD at *;simp -implicitDefEqProofs [Z11,Z11_B,h1,h2,htk,e]
def Qq (O:ap):Prop:=∀(p:Int) [IsP p] (xs:List (Fp p)),(∀x∈xs,x.len≤11)→xs.length<2000000→ask O F1e [(D.int .i64 p),.sl .leaf (xs.map cz)]=some (D.int .i64 ((di xs []).length))
theorem ae3 (hT:T F1e=some Z1e) (hr:Bq (den T A)):Qq (den T A):=by
 intro p ip xs hx hl;have e:=hr p xs hx hl;have h1:((di xs []).map cz).length=(di xs []).length:=ab ..;refine ch hT rfl ?_;generalize (di xs []).map cz=SD at *;generalize xs.map cz=RD at *;simp -implicitDefEqProofs [Z1e,Z1e_B,e,h1]
noncomputable def kw (p:Int) (l:List Int) (ls:List (List Int)) (lo hi:Int):Int:=if oo p l ls≠0 then oo p l ls else if (ls.length:Int)<lo∨hi<ls.length then 2 else 0
def wh (O:ap):Prop:=∀(p:Int) (l:List Int) (ls:List (List Int)) (lo hi:Int),je l→l.length=64→v6 ls→ls.length<2000000→ask O F10 [(D.int .i64 p),(D.arr 64 .leaf (aq .u8 l)),.sl (.arr 64 .leaf) (ls.map ce),(D.int .i64 lo),(D.int .i64 hi)]=some (D.int .i64 (kw p l ls lo hi))
theorem Wu (hT:T F10=some Z10) (hr:lg (den T A) F1n):wh (den T A):=by
 intro p l ls lo hi bl gl ha hl;have e:=hr p l ls bl gl ha hl;have h1:(ls.map ce).length=ls.length:=ab ..;unfold kw;refine ch hT rfl ?_;generalize ls.map ce=LD at *
 by_cases h0:oo p l ls=0
 ·rw [h0] at e
  rw [if_neg (by simpa using h0)]
  by_cases h2:(ls.length:Int)<lo
  ·rw [if_pos (.inl h2)]
   simp -implicitDefEqProofs [Z10,Z10_B,au,e,h1,h2]
  ·by_cases h3:hi<(ls.length:Int)
   ·rw [if_pos (.inr h3)]
    simp -implicitDefEqProofs [Z10,Z10_B,au,e,h1,h2,h3]
   ·rw [if_neg (by omega)]
    simp -implicitDefEqProofs [Z10,Z10_B,au,e,h1,h2,h3]
 ·rw [if_pos h0]
  generalize oo p l ls=k at *;simp -implicitDefEqProofs [Z10,Z10_B,au,e,h0]
def qd (p:Int) (l:List Int) (ls:List (List Int)):Prop:=∃(_:IsP p) (m:Fp p),l=pad (row m)∧Fld m∧O0 m ls
theorem nm {p:Int} {l:List Int} {ls:List (List Int)}:oo p l ls=0↔qd p l ls:=by
 unfold oo;constructor
 ·intro h1
  split at h1
  ·rename_i g; exact g
  ·cases h1
 ·intro h; exact if_pos h
theorem De {p:Int} {l:List Int} {ls:List (List Int)} {lo hi:Int} (h:kw p l ls lo hi=0):qd p l ls∧lo≤ls.length∧ls.length≤hi:=by
 unfold kw at h
 split at h
 ·rename_i h0; exact absurd h h0
 ·rename_i h0
  split at h
  ·cases h
  ·rename_i h1
   exact ⟨nm.1 (by simpa using h0),by omega,by omega⟩
open Classical in
noncomputable def rwD (p:Int) (l:List Int) (ls:List (List Int)):D:=
 if h:kw p l ls 0 4=0 then
  haveI:IsP p:=(De h).1.choose
  .tup [(D.int .i64 ((di (ls.map (fc p)) []).length)),(D.int .i64 0)]
 else .tup [(D.int .i64 0),(D.int .i64 (kw p l ls 0 4))]
def oq (O:ap) (F:Nat):Prop:=∀(p:Int) (l:List Int) (ls:List (List Int)),je l→l.length=64→v6 ls→ls.length<2000000→ask O F [(D.int .i64 p),(D.arr 64 .leaf (aq .u8 l)),.sl (.arr 64 .leaf) (ls.map ce)]=some (rwD p l ls)
theorem Sa (hT:T Fb=some Zb) (hc:wh (den T A)) (hro:Aj (den T A)) (hra:Qq (den T A)):oq (den T A) Fb:=by
 intro p l ls bl gl ha hl;have e1:=hc p l ls 0 4 bl gl ha hl;unfold rwD
 by_cases h:kw p l ls 0 4=0
 ·rw [h] at e1
  rw [dif_pos h];obtain ⟨⟨ip,m,rfl,hm,hs⟩,_,_⟩:=De h;obtain ⟨S,rfl,hS⟩:=rz hs;have h5:=hm.five;have hSl:S.length<2000000:=by rwa [ab] at hl
  have e2:=hro p S hSl (fun x hx=>by have:=hS x hx; omega)
  have e3:=hra p S (fun x hx=>by have:=hS x hx; omega) hSl
  have hmp:(S.map fun a=>pad (row a)).map (fc p)=S:=mc (S:=S) (fun a ha=>by have:=hS a ha; omega)
  have hmd:(S.map fun a=>pad (row a)).map ce=S.map bv:=ia S
  rw [hmp,hmd];rw [hmd] at e1;refine ch hT rfl ?_;generalize S.map bv=SD at *;generalize S.map cz=RD at *;generalize pad (row m)=Pm at *;simp -implicitDefEqProofs [Zb,Zb_B,au,e1,e2,e3]
 ·rw [dif_neg h]
  refine ch hT rfl ?_;generalize kw p l ls 0 4=k at *;generalize ls.map ce=LD at *;simp -implicitDefEqProofs [Zb,Zb_B,au,e1,h]
end Pe
