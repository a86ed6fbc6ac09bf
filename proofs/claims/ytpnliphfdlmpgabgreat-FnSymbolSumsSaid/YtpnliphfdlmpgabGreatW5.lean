/-
  A part of the proof: an evaluator for a small form of the code, its soundness, and contracts of functions over it.
-/
import Derived.Test.YtpnliphfdlmpgabGreatW1
import Derived.Test.YtpnliphfdlmpgabGreatW2
import Derived.Test.YtpnliphfdlmpgabGreatW3
import Derived.Test.YtpnliphfdlmpgabGreatW4

namespace Pe
open Go Gq
variable {T:Nat→Option Fn} {A:Oracle}
section
variable {p:Int} [IsP p]
theorem row_X:row (Pol.X:Fp p)=[0,1]:=by
 unfold row
 rw [Pol.len_X]
 show [rep ((Pol.X:Fp p).c 0),rep ((Pol.X:Fp p).c 1)]=[0,1]
 have e0:(Pol.X:Fp p).c 0=0:=rfl
 have e1:(Pol.X:Fp p).c 1=1:=rfl
 rw [e0,e1,rep_zero,rep_one]
theorem Irr.assoc {q b:Fp p} (hq:Irr q) (hb:Irr b) (h:Dv q b):Dv b q:=by
 obtain ⟨c,hc⟩:=h
 have hc0:c≠0:=fun h0=>hb.ne (by rw [hc,h0,Gq.mul_zero])
 have l:=Pol.len_mul hq.ne hc0
 rw [←hc] at l
 have h1:=hq.len
 rcases hb.dv ⟨c,hc⟩ with h2 | h2
 ·omega
 ·obtain ⟨k,hk,rfl⟩:=unit_of_len (show c.len=1 by omega)
  rw [hc,Gq.mul_comm]
  exact (Dv.Cmul hk).2 (.refl q)
structure FInv (a0:Fp p) (n:Nat) (a:Fp p) (out:Facs p):Prop where
 ne:a≠0
 eq:a0=a*prodF out
 ok:FacOk out
 nd:∀x∈out,¬ Dv x.1 a
 ns:NoSmall n a
 ln:out.length+a.len≤13
structure JInv (a0:Fp p) (n:Nat) (a:Fp p) (out:Facs p) (all:Fp p):Prop where
 f:FInv a0 n a out
 ne:all≠0
 ln:all.len≤13
 one:∀q,Irr q→Dv q all→q.len=n+1∧Dv q a
 two:∀q,Irr q→q.len=n+1→Dv q a→Dv q all
end
section
variable {p:Int}
theorem prodF_snoc (L:Facs p) (x:Fp p×Nat):prodF (L++[x])=prodF L*pw x.1 x.2:=by
 induction L with
 | nil=>show pw x.1 x.2*1=1*pw x.1 x.2; rw [Gq.mul_one,Gq.one_mul]
 | cons y L ih=>rw [List.cons_append,prodF_cons,prodF_cons,ih,Gq.mul_assoc]
end
section
variable {p:Int} [IsP p]
theorem FacOk.snoc {L:Facs p} (h:FacOk L) {q:Fp p} {k:Nat} (hi:Irr q) (hm:Monic q) (hk:1≤k) (hd:∀x∈L,x.1≠q):FacOk (L++[(q,k)]):=by
 refine ⟨fun x hx=>?_,?_⟩
 ·rcases List.mem_append.1 hx with hx | hx
  ·exact h.irr x hx
  ·simp at hx; subst hx; exact ⟨hi,hm,hk⟩
 ·rw [List.pairwise_append]
  refine ⟨h.dis,List.pairwise_singleton _ _,fun x hx y hy=>?_⟩
  simp at hy; subst hy; exact hd x hx
theorem JInv.irr {a0 a:Fp p} {n:Nat} {out:Facs p} {all b:Fp p} (h:JInv a0 n a out all) (hn:1≤n) (hb:b.len=n+1) (hd:Dv b all):Irr b:=by
 have hb0:b≠0:=fun h0=>by rw [h0,Pol.len_zero] at hb; omega
 refine Irr.of_dv (by omega) fun u hu=>?_
 have hul:=hu.len hb0
 have hu0:u≠0:=fun h0=>by
  obtain ⟨c,hc⟩:=hu
  exact hb0 (by rw [hc,h0,Gq.zero_mul])
 have hup:=Pol.len_pos hu0
 by_cases h1:u.len=1
 ·exact .inl h1
 ·right
  obtain ⟨r,r1,_,r2⟩:=irr_ex u.len u (Nat.le_refl _) (by omega)
  have h2:=(h.one r r1 ((r2.trans hu).trans hd)).1
  have h3:=r2.len hu0
  omega
theorem JInv.step {a0 a:Fp p} {n:Nat} {out:Facs p} {all b:Fp p} (h:JInv a0 n a out all) (hn:1≤n) (hm:Monic b) (hb:b.len=n+1) (hd:Dv b all)
 {k k':Nat} {r r':Fp p} (h1:a=r*pw b k) (h2:¬ Dv b r) (h3:all=r'*pw b k') (h4:¬ Dv b r'):JInv a0 n r (out++[(b,k)]) r'∧r'.len<all.len∧1≤k:=by
 have hi:=h.irr hn hb hd
 have hda:=(h.one b hi hd).2
 have hk:1≤k:=by
  cases k with
  | zero=>exact absurd (by rw [h1,pw,Gq.mul_one] at hda; exact hda) h2
  | succ k=>omega
 have hk':1≤k':=by
  cases k' with
  | zero=>exact absurd (by rw [h3,pw,Gq.mul_one] at hd; exact hd) h4
  | succ k=>omega
 have hr0:r≠0:=fun h0=>h.f.ne (by rw [h1,h0,Gq.zero_mul])
 have hr0':r'≠0:=fun h0=>h.ne (by rw [h3,h0,Gq.zero_mul])
 have shrink:∀(a r:Fp p) (k:Nat),r≠0→1≤k→a=r*pw b k→r.len<a.len:=by
  intro a r k hr hk e
  obtain ⟨j,rfl⟩:∃j,k=j+1:=⟨k-1,by omega⟩
  have hj:=pw_ne hi.ne j
  have l1:=Pol.len_mul hj hi.ne
  have l2:=Pol.len_mul hr (Pol.mul_ne hj hi.ne)
  have l3:=Pol.len_pos hj
  rw [e,pw]; omega
 have s1:=shrink a r k hr0 hk h1
 have s2:=shrink all r' k' hr0' hk' h3
 have dr:∀q,Dv q r→Dv q a:=fun q hq=>by rw [h1]; exact hq.mul_right _
 have pd:∀q,Irr q→∀m,Dv q (pw b m)→Dv b q:=fun q hq m hq2=>Irr.assoc hq hi (Irr.pw_dv hq m hq2)
 refine ⟨⟨⟨hr0,?_,h.f.ok.snoc hi hm hk fun x hx e=>h.f.nd x hx (e▸hda),?_,noSmall_dv h.f.ns ⟨pw b k,h1⟩,?_⟩,hr0',by have:=h.ln; omega,?_,?_⟩,s2,hk⟩
 ·rw [h.f.eq,prodF_snoc]
  conv=>lhs; rw [h1]
  exact ring_of [r,pw b k,prodF out] rfl
 ·intro x hx
  rcases List.mem_append.1 hx with hx | hx
  ·exact fun hq=>h.f.nd x hx (dr _ hq)
  ·simp at hx; subst hx; exact h2
 ·have:=h.f.ln
  simp; omega
 ·intro q hq hqr
  have hqa:Dv q all:=by rw [h3]; exact hqr.mul_right _
  obtain ⟨g1,g2⟩:=h.one q hq hqa
  refine ⟨g1,?_⟩
  rw [h1] at g2
  rcases hq.prime g2 with g | g
  ·exact g
  ·exact absurd ((pd q hq k g).trans hqr) h4
 ·intro q hq hql hqr
  have:=h.two q hq hql (dr q hqr)
  rw [h3] at this
  rcases hq.prime this with g | g
  ·exact g
  ·exact absurd ((pd q hq k' g).trans hqr) h2
theorem JInv.done {a0 a:Fp p} {n:Nat} {out:Facs p} {all:Fp p} (h:JInv a0 n a out all) (hl:all.len<2):FInv a0 (n+1) a out:=by
 refine ⟨h.f.ne,h.f.eq,h.f.ok,h.f.nd,fun q hq hd=>?_,h.f.ln⟩
 have h1:=h.f.ns q hq hd
 apply Classical.byContradiction
 intro hx
 have h2:=(h.two q hq (by omega) hd).len h.ne
 have:=hq.len
 omega
theorem JInv.init {a0 a:Fp p} {n:Nat} {out:Facs p} (h:FInv a0 n a out) (hn:1≤n) (hn2:n≤12) {fr:Fp p} (hf:fr%a=pw Pol.X (p.toNat^n)%a):JInv a0 n a out (Pol.gcd (fr-Pol.X) a):=by
 have h0:fr-Pol.X≠0∨a≠0:=.inr h.ne
 have hm:=Pol.gcd_monic h0
 have hd2:=Pol.gcd_dv_right h0
 have key:∀q,Dv q a→(Dv q (fr-Pol.X)↔Dv q (frT p n)):=by
  intro q hq
  have e:Dv q (fr-pw Pol.X (p.toNat^n)):=by
   refine hq.trans ?_
   rw [dv_iff_mk,Quo.mk_sub]
   rw [(Pol.mod_eq_iff h.ne).1 hf,sub_self]
  unfold frT
  constructor
  ·intro g
   have:pw Pol.X (p.toNat^n)-Pol.X=(fr-Pol.X)-(fr-pw Pol.X (p.toNat^n)):=ring_of [pw Pol.X (p.toNat^n),Pol.X,fr] rfl
   rw [this]; exact g.sub e
  ·intro g
   have:fr-Pol.X=(pw Pol.X (p.toNat^n)-Pol.X)+(fr-pw Pol.X (p.toNat^n)):=ring_of [pw Pol.X (p.toNat^n),Pol.X,fr] rfl
   rw [this]; exact g.add e
 have hl:=hd2.len h.ne
 have hl2:=h.ln
 refine ⟨h,hm.2,by omega,fun q hq hd=>?_,fun q hq hql hqa=>?_⟩
 ·have g1:=hd.trans hd2
  have g2:=(key q g1).1 (hd.trans (Pol.gcd_dv_left h0))
  have g3:=h.ns q hq g1
  have g4:=g1.len h.ne
  have g5:=irr_frT_le hq (d:=q.len-1) (k:=n) (by have:=hq.len; omega) (by have:=ppow_le (p:=p) (n:=q.len-1) (by omega); omega) hn g2
  exact ⟨by omega,g1⟩
 ·have g2:=irr_frT hq hql (by have:=ppow_le (p:=p) hn2; omega)
  exact Pol.dv_gcd h0 ((key q hqa).2 g2) hqa
noncomputable abbrev facD (x:Fp p×Nat):D:=.st [.leaf,.leaf] [(D.sl .leaf (ints .i64 (row x.1))),(D.int .i64 x.2)]
theorem l_fac1 {O:Oracle} (hw:K_withDegree O) (hst:K_strip O) (hdg:C_degree O) {a0:Fp p} {n:Nat} (hn:1≤n) (hn2:n≤12):∀(m:Nat) (a:Fp p) (out:Facs p) (all:Fp p) (cp:Option Nat),all.len≤m→JInv a0 n a out all→∃(a':Fp p) (out':Facs p) (all':List Int) (cp':Option Nat),FInv a0 (n+1) a' out'∧a'.len≤a.len ∧
 dn O 0 (.loop Zx_L1) ⟨[(0,(.d (.int .i64 p))),(1,(.d (.sl .leaf (ints .i64 (row a))))),(5,.sl 0 [] 0 out.length cp),(6,(.d (.int .i64 n))),(8,(.d (.sl .leaf (ints .i64 (row all)))))],[.sl false facSh (out.map facD),.hole,.hole,.hole,.hole]⟩ =
  some (.exit 4,⟨[(0,(.d (.int .i64 p))),(1,(.d (.sl .leaf (ints .i64 (row a'))))),(5,.sl 0 [] 0 out'.length cp'),(6,(.d (.int .i64 n))),(8,(.d (.sl .leaf (ints .i64 all')))),(52,(.d (.bool false)))],[.sl false facSh (out'.map facD),.hole,.hole,.hole,.hole]⟩)
 | m,a,out,all,cp,hm,h=>by
  have hln:=h.ln
  have hp:=Pol.len_pos h.ne
  have e1:=hdg (row all) (by rw [row_length]; omega)
  rw [row_length] at e1
  by_cases hl:all.len<2
  ·refine ⟨a,out,row all,cp,h.done hl,Nat.le_refl _,dn_stop ?_⟩
   have h1:¬ (1:Int)<(all.len:Int):=by omega
   simp -implicitDefEqProofs [Zx_L1,dn_cond,e1,h1]
  ·have hlo:=h.f.ln
   obtain ⟨q,q1,q2,q3⟩:=irr_ex all.len all (Nat.le_refl _) (by omega)
   obtain ⟨b,b1,b2,b3,e2⟩:=hw p all n hn hn2 (by omega) h.ne ⟨q,q2,(h.one q q1 q3).1,q3⟩
   obtain ⟨k,r,g1,g2,e3⟩:=hst p a b h.f.ne (by omega) (by omega) (by omega)
   obtain ⟨k',r',g3,g4,e4⟩:=hst p all b h.ne (by omega) (by omega) (by omega)
   obtain ⟨hJ,hlt,hk⟩:=h.step hn b1 b2 b3 g1 g2 g3 g4
   cases m with
   | zero=>omega
   | succ m=>
    obtain ⟨a',out',all',cp',i1,i2,e⟩:=l_fac1 hw hst hdg hn hn2 m r (out++[(b,k)]) r' none (by omega) hJ
    have hra:r.len≤a.len:=(show Dv r a from ⟨_,g1⟩).len h.f.ne
    refine ⟨a',out',all',cp',i1,by omega,dn_round ?_ e⟩
    have h1:(1:Int)<(all.len:Int):=by omega
    have h8:(out.length+1)*32≤1099511627776:=by omega
    have ht:(out.map facD).take out.length=out.map facD:=List.take_of_length_le (by simp)
    have hL:(out.map facD).length=out.length:=by simp
    have o1:(out++[(b,k)]).map facD=out.map facD++[facD (b,k)]:=by simp
    have o2:(out++[(b,k)]).length=out.length+1:=by simp
    rw [o1,o2]
    generalize out.map facD=LD at *
    simp -implicitDefEqProofs [Zx_L1,dn_cond,e1,e2,e3,e4,h1,h8,ht,hL,List.replicate]
theorem l_fac0 {O:Oracle} (hpw:K_power O) {a:Fp p} (ha:a≠0) (hal:a.len≤13) {n:Nat} (hn2:n≤1000) {st:V} {hp:Heap} (hst:st.refs=[0]) (hhp:∃b,hp=[b,.hole,.hole,.hole,.hole]):∀(m i:Nat) (fr:Fp p),i+m=n→fr.len≤13→∃fr':Fp p,fr'.len≤13∧fr'%a=pw fr (p.toNat^m)%a ∧
 dn O 0 (.loop Zx_L0) ⟨[(0,(.d (.int .i64 p))),(1,(.d (.sl .leaf (ints .i64 (row a))))),(5,st),(6,(.d (.int .i64 n))),(7,(.d (.sl .leaf (ints .i64 (row fr))))),(34,(.d (.int .i64 n))),(35,(.d (.int .i64 i)))],hp⟩ =
  some (.exit 2,⟨[(0,(.d (.int .i64 p))),(1,(.d (.sl .leaf (ints .i64 (row a))))),(5,st),(6,(.d (.int .i64 n))),(7,(.d (.sl .leaf (ints .i64 (row fr'))))),(34,(.d (.int .i64 n))),(35,(.d (.int .i64 n))),(36,(.d (.bool false)))],hp⟩)
 | 0,i,fr,hi,hf=>by
  obtain ⟨b,rfl⟩:=hhp
  obtain rfl:i=n:=by omega
  refine ⟨fr,hf,by rw [Nat.pow_zero,pw_1],dn_stop ?_⟩
  simp -implicitDefEqProofs [Zx_L0,dn_cond,hst]
 | m+1,i,fr,hi,hf=>by
  have hP:=IsP.pos (p:=p)
  have hP7:=IsP.le (p:=p)
  have e:=hpw p fr p a ha (by omega) (by omega) (by omega) (by omega)
  have hl:=Pol.len_mod (pw fr p.toNat) ha
  obtain ⟨fr',g1,g2,g3⟩:=l_fac0 (O:=O) hpw ha hal hn2 hst hhp m (i+1) (pw fr p.toNat%a) (by omega) (by omega)
  obtain ⟨b,rfl⟩:=hhp
  have h1:i<n:=by omega
  have w1:IntKind.i64.wrap ((i:Int)+1)=((i+1:Nat):Int):=(w64 (x:=(i:Int)+1) (by omega)).trans (by omega)
  refine ⟨fr',g1,?_,dn_round ?_ g3⟩
  ·rw [g2,Pol.pow_mod _ ha,pw_pw,Nat.pow_succ,Nat.mul_comm]
  ·simp -implicitDefEqProofs [Zx_L0,dn_cond,e,h1,w1,hst]
structure FEnd (a0:Fp p) (out:Facs p):Prop where
 ok:FacOk out
 eq:∃c:Zp p,c≠0∧a0=Pol.C c*prodF out
 ln:out.length≤12
theorem l_fac2 {O:Oracle} (hw:K_withDegree O) (hst:K_strip O) (hdg:C_degree O) (hpw:K_power O) (hlet:C_letter O) (hc:K_combine1 O) (hg:K_gcd O) (hld:C_lead O) (hinv:C_inverse O) (hs:K_scale O) {a0:Fp p}:∀(m n:Nat) (a:Fp p) (out:Facs p) (cp:Option Nat),1≤n→n+m=15→FInv a0 n a out→∃(out':Facs p) (cp':Option Nat) (e:Env),FEnd a0 out'∧((∃x y,e=[(0,(.d (.int .i64 p))),(1,(.d (.sl .leaf (ints .i64 x)))),(5,.sl 0 [] 0 out'.length cp'),(6,(.d (.int .i64 y))),(14,(.d (.bool false)))])∨e=[(5,.sl 0 [] 0 out'.length cp')]) ∧
 dn O 0 (.loop Zx_L2) ⟨[(0,(.d (.int .i64 p))),(1,(.d (.sl .leaf (ints .i64 (row a))))),(5,.sl 0 [] 0 out.length cp),(6,(.d (.int .i64 n)))],[.sl false facSh (out.map facD),.hole,.hole,.hole,.hole]⟩ =
  some (.exit 0,⟨e,[.sl false facSh (out'.map facD),.hole,.hole,.hole,.hole]⟩)
 | m,n,a,out,cp,hn,hm,h=>by
  have hp:=IsP.ge (p:=p)
  have hp7:=IsP.le (p:=p)
  have hln:=h.ln
  have ha:=Pol.len_pos h.ne
  have e1:=hdg (row a) (by rw [row_length]; omega)
  rw [row_length] at e1
  by_cases hl:a.len=1
  ·have h1:¬ (1:Int)<(a.len:Int):=by omega
   obtain ⟨c,hc0,rfl⟩:=unit_of_len hl
   refine ⟨out,cp,_,⟨h.ok,⟨c,hc0,h.eq⟩,by omega⟩,.inl ⟨row (Pol.C c),n,rfl⟩,dn_stop ?_⟩
   simp -implicitDefEqProofs [Zx_L2,dn_cond,e1,h1]
  ·have h1:(1:Int)<(a.len:Int):=by omega
   have w1:IntKind.i64.wrap (2*(n:Int))=2*(n:Int):=w64 (by omega)
   have h8:(out.length+1)*32≤1099511627776:=by omega
   have ht:(out.map facD).take out.length=out.map facD:=List.take_of_length_le (by simp)
   have hL:(out.map facD).length=out.length:=by simp
   by_cases h2:(a.len:Int)-1<2*(n:Int)
   ·have hi:=irr_of_noSmall h.ns (by omega) (by omega)
    have hr:=rep_in a.ld
    have hin:=inv_in p (rep a.ld)
    have e2:=hld (row a) (by rw [row_length]; omega)
    rw [ld_row] at e2
    have e3:=hinv p (rep a.ld) (by omega) (by omega) hr.1 hr.2
    have e4:=hs p (inv p (rep a.ld)) a (by omega) (by omega) (by omega)
    rw [finv_rep _ (Pol.ld_ne h.ne)] at e4
    have e4':ask O F1c [(D.int .i64 p),(D.sl .leaf (ints .i64 (row a))),(D.int .i64 (inv p (rep a.ld)))]=some (D.sl .leaf (ints .i64 (row (mon a)))):=e4
    have o1:(out++[(mon a,1)]).map facD=out.map facD++[facD (mon a,1)]:=by simp
    have o2:(out++[(mon a,1)]).length=out.length+1:=by simp
    refine ⟨out++[(mon a,1)],none,_,⟨h.ok.snoc hi.mon (mon_monic h.ne) (Nat.le_refl 1) fun x hx e=>h.nd x hx (by rw [e,mon_dv h.ne]; exact .refl a),⟨a.ld,Pol.ld_ne h.ne,?_⟩,by rw [o2]; omega⟩,.inr rfl,dn_stop ?_⟩
    ·rw [prodF_snoc]
     show a0=Pol.C a.ld*(prodF out*pw (mon a) 1)
     rw [pw_1,h.eq]
     conv=>lhs; rw [eq_mon h.ne]
     exact ring_of [Pol.C a.ld,mon a,prodF out] rfl
    ·rw [o1,o2]
     generalize out.map facD=LD at *
     simp -implicitDefEqProofs [Zx_L2,dn_cond,e1,h1,h2,w1,e2,e3,e4',h8,ht,hL,List.replicate]
   ·cases m with
    | zero=>omega
    | succ m=>
     have hl2:(Pol.X:Fp p).len≤13:=by rw [Pol.len_X]; omega
     obtain ⟨fr,g1,g2,g3⟩:=l_fac0 (O:=O) hpw h.ne (by omega) (n:=n) (by omega) (st:=.sl 0 [] 0 out.length cp) (hp:=[.sl false facSh (out.map facD),.hole,.hole,.hole,.hole]) (by simp [V.refs]) ⟨_,rfl⟩ n 0 Pol.X (Nat.zero_add _) hl2
     have hJ:=JInv.init h hn (by omega) g2
     have hlj:=hJ.ln
     obtain ⟨a',out',all',cp',i1,i2,i3⟩:=l_fac1 (O:=O) hw hst hdg hn (by omega) (Pol.gcd (fr-Pol.X) a).len a out _ cp (Nat.le_refl _) hJ
     obtain ⟨out2,cp2,e,j1,j2,j3⟩:=l_fac2 hw hst hdg hpw hlet hc hg hld hinv hs m (n+1) a' out' cp' (by omega) (by omega) i1
     have e2:ask O Fq []=some (D.sl .leaf (ints .i64 (row (Pol.X:Fp p)))):=by rw [row_X]; exact hlet
     have e3:=hc p fr Pol.X (by omega) (by omega)
     have hsl:=Pol.len_sub_le (a:=fr) (b:=Pol.X) (n:=13) g1 hl2
     have e4:=hg p (fr-Pol.X) a (.inr h.ne) (by omega) (by omega)
     have w2:IntKind.i64.wrap ((n:Int)+1)=((n+1:Nat):Int):=(w64 (x:=(n:Int)+1) (by omega)).trans (by omega)
     have e0:((0:Nat):Int)=0:=rfl
     rw [e0] at g3
     refine ⟨out2,cp2,e,j1,j2,dn_round ?_ j3⟩
     generalize out.map facD=LD at *
     simp -implicitDefEqProofs [Zx_L2,dn_cond,e1,h1,h2,w1,w2,e2,e3,e4,g3,i3]
end
theorem perm_map_ex {α β:Type} (f:α→β) {m ds:List β} (h:m.Perm ds):∀l:List α,l.map f=m→∃l':List α,l'.Perm l∧l'.map f=ds:=by
 induction h with
 | nil=>intro l hl; exact ⟨[],by simp at hl; subst hl; exact .refl _,rfl⟩
 | cons x h ih=>
  intro l hl
  cases l with
  | nil=>simp at hl
  | cons y l=>
   simp at hl
   obtain ⟨l',p,e⟩:=ih l hl.2
   exact ⟨y::l',p.cons y,by simp [e,hl.1]⟩
 | swap x y s=>
  intro l hl
  cases l with
  | nil=>simp at hl
  | cons a l=>
   cases l with
   | nil=>simp at hl
   | cons b l=>
    simp at hl
    exact ⟨b::a::l,List.Perm.swap a b l,by simp [hl]⟩
 | trans _ _ ih1 ih2=>
  intro l hl
  obtain ⟨l',p,e⟩:=ih1 l hl
  obtain ⟨l'',p2,e2⟩:=ih2 l' e
  exact ⟨l'',p2.trans p,e2⟩
section
variable {p:Int} [IsP p]
theorem vl_cmp:∀(n:Nat) {l m:List Int},Can p l→Can p m→l.length=n→m.length=n→cmpL l m n=cmpI (vl p l) (vl p m):=by
 have hp:=IsP.pos (p:=p)
 -- the value of the first coefficients
 have key:∀(k:Nat) (l:List Int),Can p l→k≤l.length→vl p (l.take k)+(if k<l.length then p^k*cf l k else 0)=vl p (l.take (k+1))∧0≤vl p (l.take k)∧vl p (l.take k)<p^k:=by
  intro k l hl hk
  have hin:=vl_in (p:=p) (l:=l.take k) fun x hx=>hl x (List.mem_of_mem_take hx)
  rw [List.length_take,Nat.min_eq_left hk] at hin
  refine ⟨?_,hin⟩
  have app:∀(a b:List Int),vl p (a++b)=vl p a+p^a.length*vl p b:=by
   intro a
   induction a with
   | nil=>intro b; simp [vl]
   | cons x a ih=>
    intro b
    rw [List.cons_append,vl,ih,vl,List.length_cons,Int.pow_succ,Int.mul_add,Int.mul_comm (p^a.length) p,Int.mul_assoc,Int.add_assoc]
  by_cases hlt:k<l.length
  ·rw [if_pos hlt,←take_succ_set hlt,app,List.length_take,Nat.min_eq_left hk,cf_lt hlt]
   simp [vl]
  ·rw [if_neg hlt,List.take_of_length_le (by omega),List.take_of_length_le (by omega),Int.add_zero]
 intro n l m hl hm hln hmn
 have main:∀k,k≤n→cmpL l m k=cmpI (vl p (l.take k)) (vl p (m.take k)):=by
  intro k
  induction k with
  | zero=>intro _; simp [cmpL,cmpI,vl]
  | succ k ih=>
   intro hk
   obtain ⟨a1,a2,a3⟩:=key k l hl (by omega)
   obtain ⟨b1,b2,b3⟩:=key k m hm (by omega)
   rw [if_pos (by omega)] at a1 b1
   rw [←a1,←b1,cmpL,ih (by omega)]
   have hpk:=ppow_pos (p:=p) k
   generalize vl p (l.take k)=u at *
   generalize vl p (m.take k)=v at *
   generalize cf l k=c at *
   generalize cf m k=d at *
   have mono:∀x y:Int,x<y→p^k*x+p^k≤p^k*y:=fun x y h=>by
    have:=Int.mul_le_mul_of_nonneg_left (show x+1≤y by omega) (Int.le_of_lt hpk)
    rwa [Int.mul_add,Int.mul_one] at this
   rcases Int.lt_trichotomy c d with h | h | h
   ·have:=mono c d h
    have e:cmpI c d=-1:=if_pos h
    rw [e,if_pos (by omega)]
    exact (if_pos (by omega)).symm
   ·subst h
    have e:cmpI c c=0:=by unfold cmpI; rw [if_neg (by omega),if_neg (by omega)]
    rw [e,if_neg (fun h=>h rfl)]
    unfold cmpI
    by_cases h1:u<v
    ·rw [if_pos h1,if_pos (by omega)]
    ·rw [if_neg h1]
     by_cases h2:v<u
     ·rw [if_pos h2,if_neg (by omega),if_pos (by omega)]
     ·rw [if_neg h2,if_neg (by omega),if_neg (by omega)]
   ·have:=mono d c h
    have e:cmpI c d=1:=by unfold cmpI; rw [if_neg (by omega),if_pos h]
    rw [e,if_pos (by omega)]
    unfold cmpI
    rw [if_neg (by omega),if_pos (by omega)]
 have:=main n (Nat.le_refl n)
 rwa [List.take_of_length_le (by omega),List.take_of_length_le (by omega)] at this
theorem cmpR_row (a b:Fp p):cmpR (row a) (row b)=cmpI (numOf a) (numOf b):=by
 unfold cmpR
 rw [row_length,row_length]
 rcases Nat.lt_trichotomy a.len b.len with h | h | h
 ·have:=numOf_len h
  have e:cmpI (a.len:Int) b.len=-1:=if_pos (by omega)
  rw [e,if_pos (by omega)]
  exact (if_pos this).symm
 ·have e:cmpI (a.len:Int) b.len=0:=by unfold cmpI; rw [if_neg (by omega),if_neg (by omega)]
  rw [e,if_neg (fun h=>h rfl)]
  exact vl_cmp a.len (row_can a) (row_can b) (row_length a) (by rw [row_length,h])
 ·have:=numOf_len h
  have e:cmpI (a.len:Int) b.len=1:=by unfold cmpI; rw [if_neg (by omega),if_pos (by omega)]
  rw [e,if_pos (by omega)]
  unfold cmpI
  rw [if_neg (by omega),if_pos this]
end
def numD (p:Int):D→Int
 | .st _ (.sl _ cs::_)=>vl p (cs.map D.num)
 | _=>0
theorem numD_fac {p:Int} (x:Fp p×Nat):numD p (facD x)=vl p (row x.1):=by
 show vl p ((ints .i64 (row x.1)).map D.num)=_
 unfold ints
 rw [List.map_map]
 have:(D.num ∘ D.int .i64)=id:=rfl
 rw [this,List.map_id]
theorem fac_cmp {p:Int} [IsP p] (hT:T Fy=some Zy) (hc:C_compare (den T A)) {L:Facs p} (hl:∀x∈L,x.1.len≤1000):CmpOk (den T A) Fy [] [] (numD p) facSh (L.map facD):=by
 refine ⟨fun x hx=>by simp at hx,fun x hx=>by simp at hx,fun x hx=>?_,fun x hx=>?_,fun x hx y hy=>?_⟩
 ·obtain ⟨a,_,rfl⟩:=List.mem_map.1 hx; rfl
 ·obtain ⟨a,_,rfl⟩:=List.mem_map.1 hx; rfl
 ·obtain ⟨a,ha,rfl⟩:=List.mem_map.1 hx
  obtain ⟨b,hb,rfl⟩:=List.mem_map.1 hy
  have h1:=hl a ha
  have h2:=hl b hb
  have e:=hc (row a.1) (row b.1) (by rw [row_length]; omega) (by rw [row_length]; omega)
  rw [cmpR_row] at e
  have n1:=numD_fac a
  have n2:=numD_fac b
  rw [n1,n2]
  refine ask_of hT rfl ?_
  simp -implicitDefEqProofs [Zy,Zy_B,e,numOf]
def K_factors (O:Oracle):Prop:=∀(p:Int) [IsP p] (a:Fp p),a≠0→a.len≤13→∃L:Facs p,IsFac a L∧L.length≤12 ∧
 ask O Fx [(D.int .i64 p),(D.sl .leaf (ints .i64 (row a)))]=some (.sl facSh (L.map facD))
theorem FacOk.perm {p:Int} [IsP p] {L L':Facs p} (h:FacOk L) (hp:L'.Perm L):FacOk L':=
 ⟨fun x hx=>h.irr x (hp.subset hx),(hp.pairwise_iff (fun h e=>h e.symm)).2 h.dis⟩
theorem prodF_perm {p:Int} {L L':Facs p} (hp:L'.Perm L):prodF L'=prodF L:=prodL_perm (hp.map _)
theorem k_factors (hT:T Fx=some Zx) (hT1:T Fy=some Zy) (hw:K_withDegree (den T A)) (hst:K_strip (den T A)) (hdg:C_degree (den T A)) (hpw:K_power (den T A)) (hlet:C_letter (den T A)) (hc:K_combine1 (den T A)) (hg:K_gcd (den T A)) (hld:C_lead (den T A)) (hinv:C_inverse (den T A)) (hs:K_scale (den T A)) (hcmp:C_compare (den T A)) (hsort:H_sortFunc (den T A)):K_factors (den T A):=by
 intro p i a ha hal
 have h0:FInv a 1 a []:=⟨ha,(Gq.mul_one a).symm,⟨by simp,List.Pairwise.nil⟩,by simp,noSmall_one a,by simpa using hal⟩
 obtain ⟨out,cp,e,j1,j2,j3⟩:=l_fac2 hw hst hdg hpw hlet hc hg hld hinv hs 14 1 a [] (some 0) (Nat.le_refl 1) rfl h0
 obtain ⟨c,hc0,hac⟩:=j1.eq
 have hP:=prodF_monic j1.ok
 have hlen:∀x∈out,x.1.len≤1000:=fun x hx=>by
  have h1:Dv x.1 a:=by
   obtain ⟨r,h2,_⟩:=prodF_out j1.ok (show (x.1,x.2)∈out from hx)
   obtain ⟨k,hk⟩:∃k,x.2=k+1:=⟨x.2-1,by have:=(j1.ok.irr x hx).2.2; omega⟩
   rw [hac,h2,hk,pw]
   exact (((Dv.refl x.1).mul_left _).mul_right _).mul_left _
  have:=h1.len ha
  omega
 obtain ⟨ds,s1,s2,s3⟩:=hsort _ _ _ _ (out.map facD) cp (by simpa using j1.ln) (fac_cmp hT1 hcmp hlen)
 obtain ⟨L,p1,p2⟩:=perm_map_ex facD s1.symm out rfl
 have ok:=j1.ok.perm p1
 subst p2
 have hLl:L.length=out.length:=p1.length_eq
 refine ⟨L,⟨ok,?_,?_⟩,by rw [hLl]; exact j1.ln,ask_of hT rfl ?_⟩
 ·have s4:L.Pairwise fun x y=>numOf x.1≤numOf y.1:=by
   have:=s2
   unfold Asc at this
   rw [List.pairwise_map] at this
   exact this.imp fun h=>by rw [numD_fac,numD_fac] at h; exact h
  exact (s4.and ok.dis).imp fun {x y} h=>by
   have h1:=h.1
   rcases Int.lt_or_eq_of_le h1 with h2 | h2
   ·exact h2
   ·exact absurd (numOf_inj h2) h.2
 ·have:a.ld=c:=by
   rw [hac,Pol.ld_mul (Pol.C_ne hc0) hP.2,Pol.ld_C hc0,hP.1,Gq.mul_one]
  rw [this,prodF_perm p1]; exact hac
 ·have e0:(([]:Facs p).length:Nat)=0:=rfl
  have e00:((1:Nat):Int)=1:=rfl
  rw [e0,e00,List.map_nil] at j3
  have hds:(L.map facD).length=out.length:=by rw [List.length_map,hLl]
  have hol:(out.map facD).length=out.length:=by simp
  have htk:(L.map facD).take out.length=L.map facD:=List.take_of_length_le (by omega)
  rw [hol] at s3
  generalize L.map facD=LD at *
  generalize out.map facD=OD at *
  rcases j2 with ⟨x,y,rfl⟩ | rfl
  ·simp -implicitDefEqProofs [Zx,Zx_B,j3,s3,hds,htk,List.idxOf,List.findIdx,List.findIdx.go]
  ·simp -implicitDefEqProofs [Zx,Zx_B,j3,s3,hds,htk,List.idxOf,List.findIdx,List.findIdx.go]
end Pe

namespace Pe
open Go Gq
variable {T:Nat→Option Fn} {A:Oracle}
open Classical in
noncomputable def fac {p:Int} [IsP p] (a:Fp p):Facs p:=if h:∃L,IsFac a L then Classical.choose h else []
theorem fac_eq {p:Int} [IsP p] {a:Fp p} (ha:a≠0) {L:Facs p} (h:IsFac a L):fac a=L:=by
 have hx:∃L,IsFac a L:=⟨L,h⟩
 unfold fac
 rw [dif_pos hx]
 exact IsFac.unique ha (Classical.choose_spec hx) h
def K_fac (O:Oracle):Prop:=∀(p:Int) [IsP p] (a:Fp p),a≠0→a.len≤13→IsFac a (fac a)∧(fac a).length≤12 ∧
 ask O Fx [(D.int .i64 p),(D.sl .leaf (ints .i64 (row a)))]=some (.sl facSh ((fac a).map facD))
theorem k_fac {O:Oracle} (h:K_factors O):K_fac O:=fun p i a ha hl=>by
 obtain ⟨L,h1,h2,h3⟩:=h p a ha hl
 rw [fac_eq ha h1]
 exact ⟨h1,h2,h3⟩
def rp (p own:Int):Nat→Int→Int
 | 0,out=>out
 | n+1,out=>rp p own n (out*own%p)
theorem rp_in {p own:Int} (hp:0<p):∀n out,0≤out→out<p→0≤rp p own n out∧rp p own n out<p
 | 0,out,h1,h2=>⟨h1,h2⟩
 | n+1,out,h1,h2=>rp_in hp n _ (Int.emod_nonneg _ (by omega)) (Int.emod_lt_of_pos _ hp)
noncomputable def ownS (p:Int) [IsP p] (a q:Fp p):Int:=rep ((pw a ((p^(q.len-1)-1)/(p-1)).toNat%q).c 0)
noncomputable def symL (p:Int) [IsP p] (a:Fp p):Facs p→Int→Int
 | [],out=>out
 | x::L,out=>symL p a L (rp p (ownS p a x.1) x.2 out)
noncomputable def symb (p:Int) [IsP p] (a m:Fp p):Int:=symL p a (fac m) 1
section
variable {p:Int} [IsP p]
theorem ownS_in (a q:Fp p):0≤ownS p a q∧ownS p a q<p:=rep_in _
theorem symL_in (a:Fp p):∀(L:Facs p) (out:Int),0≤out→out<p→0≤symL p a L out∧symL p a L out<p
 | [],out,h1,h2=>⟨h1,h2⟩
 | x::L,out,h1,h2=>by
  have:=rp_in (own:=ownS p a x.1) (IsP.pos (p:=p)) x.2 out h1 h2
  exact symL_in a L _ this.1 this.2
theorem symb_in (a m:Fp p):0≤symb p a m∧symb p a m<p:=symL_in a _ 1 (by omega) (by have:=IsP.ge (p:=p); omega)
theorem l_sym0 {O:Oracle} {own n:Int} {la ld il vi:V} (ha:la.refs=[]∧ld.refs=[]∧il.refs=[]∧vi.refs=[]) (how:0≤own∧own<p):∀(m:Nat) (i out:Int),i+m=n→0≤i→n<100000→0≤out→out<p →
 dn O 0 (.loop Z1e_L0) ⟨[(0,(.d (.int .i64 p))),(1,la),(7,(.d (.int .i64 out))),(11,(.d (.int .i64 own))),(14,ld),(15,il),(16,vi),(37,(.d (.int .i64 n))),(38,(.d (.int .i64 i)))],[.hole]⟩ =
  some (.exit 2,⟨[(0,(.d (.int .i64 p))),(1,la),(7,(.d (.int .i64 (rp p own m out)))),(11,(.d (.int .i64 own))),(14,ld),(15,il),(16,vi),(37,(.d (.int .i64 n))),(38,(.d (.int .i64 n))),(39,(.d (.bool false)))],[.hole]⟩)
 | 0,i,out,hi,h0,hn,h1,h2=>by
  obtain rfl:i=n:=by omega
  exact dn_stop (by simp -implicitDefEqProofs [Z1e_L0,dn_cond,rp,ha])
 | m+1,i,out,hi,h0,hn,h1,h2=>by
  have hp:=IsP.ge (p:=p)
  have hp7:=IsP.le (p:=p)
  have hlt:i<n:=by omega
  have gm:=mul_small (x:=out) (y:=own) (b:=10) (c:=10) (by omega) (by omega) (by omega)
  have w1:IntKind.i64.wrap (out*own)=out*own:=w64 (by omega)
  have w2:(out*own).tmod p=out*own%p:=Int.tmod_eq_emod_of_nonneg (Int.mul_nonneg h1 how.1)
  have w3:IntKind.i64.wrap (i+1)=i+1:=w64 (by omega)
  have hp0:p≠0:=by omega
  refine dn_round ?_ (l_sym0 (O:=O) ha how m (i+1) (out*own%p) (by omega) (by omega) hn (Int.emod_nonneg _ (by omega)) (Int.emod_lt_of_pos _ (by omega)))
  simp -implicitDefEqProofs [Z1e_L0,dn_cond,hlt,w1,w2,w3,hp0,ha]
theorem IsFac.len {m:Fp p} (hm:m≠0) {L:Facs p} (h:IsFac m L) {x:Fp p×Nat} (hx:x∈L):2≤x.1.len∧x.1.len≤m.len∧x.2<m.len∧x.1≠0:=by
 obtain ⟨i1,i2,i3⟩:=h.ok.irr x hx
 obtain ⟨_,_,_,h4,_⟩:=(fac_mem hm h.ok h.eq x.1 x.2).1 hx
 have h5:=h4.len hm
 have h6:∀n,n<(pw x.1 n).len:=by
  intro n
  induction n with
  | zero=>show 0<(1:Fp p).len; rw [Pol.len_one]; omega
  | succ n ih=>
   have l:=Pol.len_mul (pw_ne i1.ne n) i1.ne
   have:=i1.len
   rw [pw]; omega
 have h7:=h6 x.2
 have h8:x.1.len≤(pw x.1 x.2).len:=by
  obtain ⟨k,hk⟩:∃k,x.2=k+1:=⟨x.2-1,by omega⟩
  rw [hk,pw]
  exact (show Dv x.1 (pw x.1 k*x.1) from ⟨pw x.1 k,Gq.mul_comm _ _⟩).len (Pol.mul_ne (pw_ne i1.ne k) i1.ne)
 exact ⟨i1.len,by omega,by omega,i1.ne⟩
theorem l_sym1 {O:Oracle} (hdg:C_degree O) (hno:C_norm O) (hpw:K_power O) (hat:C_at O) {a m:Fp p} (hal:a.len<5000) (hm:m≠0) (hml:m.len≤13) {L:Facs p} (hL:IsFac m L) (hLl:L.length≤12):∀(k i:Nat) (out:Int),i+k=L.length→0≤out→out<p →
 dn O 0 (.loop Z1e_L1) ⟨[(0,(.d (.int .i64 p))),(1,(.d (.sl .leaf (ints .i64 (row a))))),(7,(.d (.int .i64 out))),(14,.d (.sl facSh (L.map facD))),(15,(.d (.int .i64 L.length))),(16,(.d (.int .i64 i)))],[.hole]⟩ =
  some (.exit 0,⟨[(0,(.d (.int .i64 p))),(1,(.d (.sl .leaf (ints .i64 (row a))))),(7,(.d (.int .i64 (symL p a (L.drop i) out)))),(14,.d (.sl facSh (L.map facD))),(15,(.d (.int .i64 L.length))),(16,(.d (.int .i64 L.length))),(17,(.d (.bool false)))],[.hole]⟩)
 | 0,i,out,hi,h1,h2=>by
  obtain rfl:i=L.length:=by omega
  rw [List.drop_length]
  exact dn_stop (by simp -implicitDefEqProofs [Z1e_L1,dn_cond,symL])
 | k+1,i,out,hi,h1,h2=>by
  have hp:=IsP.ge (p:=p)
  have hp7:=IsP.le (p:=p)
  have hlt:i<L.length:=by omega
  have hx:L[i]? = some L[i]:=List.getElem?_eq_getElem hlt
  obtain ⟨q1,q2,q3,q4⟩:=hL.len hm (List.getElem_mem hlt)
  rw [List.drop_eq_getElem_cons hlt,symL]
  generalize hxe:L[i]=x at *
  have e1:=hdg (row x.1) (by rw [row_length]; omega)
  rw [row_length] at e1
  have hd:((x.1.len:Int)-1)=((x.1.len-1:Nat):Int):=by omega
  rw [hd] at e1
  have hb:=ppow_le (p:=p) (n:=x.1.len-1) (by omega)
  have hpos:=ppow_pos (p:=p) (x.1.len-1)
  have e2:=hno p (x.1.len-1) 1152921504606846976 (by omega) (by omega)
  rw [normL_eq _ 1 (by omega) (by omega),Int.one_mul] at e2
  have w1:IntKind.i64.wrap (p^(x.1.len-1)-1)=p^(x.1.len-1)-1:=w64 (by omega)
  have w2:IntKind.i64.wrap (p-1)=p-1:=w64 (by omega)
  have hdiv0:0≤(p^(x.1.len-1)-1)/(p-1):=Int.ediv_nonneg (by omega) (by omega)
  have hdiv1:(p^(x.1.len-1)-1)/(p-1)≤p^(x.1.len-1)-1:=Int.ediv_le_self _ (by omega)
  have w3:IntKind.i64.wrap ((p^(x.1.len-1)-1).tdiv (p-1))=(p^(x.1.len-1)-1)/(p-1):=by
   rw [Int.tdiv_eq_ediv_of_nonneg (by omega),w64 (by omega)]
  have hp1:p-1≠0:=by omega
  have e3:=hpw p a ((p^(x.1.len-1)-1)/(p-1)) x.1 q4 hal (by omega) hdiv0 (by omega)
  have e4:=hat (row (pw a ((p^(x.1.len-1)-1)/(p-1)).toNat%x.1)) 0 (by omega)
  rw [row_cf] at e4
  have e4':ask O F1i [(D.sl .leaf (ints .i64 (row (pw a ((p^(x.1.len-1)-1)/(p-1)).toNat%x.1)))),(D.int .i64 0)]=some (D.int .i64 (ownS p a x.1)):=e4
  have e5:=l_sym0 (O:=O) (own:=ownS p a x.1) (n:=(x.2:Int)) (la:=(.d (.sl .leaf (ints .i64 (row a))))) (ld:=.d (.sl facSh (L.map facD))) (il:=(.d (.int .i64 L.length))) (vi:=(.d (.int .i64 i))) ⟨rfl,rfl,rfl,rfl⟩ (ownS_in a x.1) x.2 0 out (by omega) (by omega) (by omega) h1 h2
  have hrp:=rp_in (own:=ownS p a x.1) (by omega:0<p) x.2 out h1 h2
  have w4:IntKind.i64.wrap ((i:Int)+1)=((i+1:Nat):Int):=(w64 (x:=(i:Int)+1) (by omega)).trans (by omega)
  have ih:=l_sym1 (O:=O) hdg hno hpw hat hal hm hml hL hLl k (i+1) (rp p (ownS p a x.1) x.2 out) (by omega) hrp.1 hrp.2
  refine dn_round ?_ ih
  generalize (pw a ((p^(x.1.len-1)-1)/(p-1)).toNat%x.1)=y at *
  generalize x.1.len-1=d at *
  simp -implicitDefEqProofs [Z1e_L1,dn_cond,hlt,hxe,e1,e2,w1,w2,w3,hp1,e3,e4',e5,w4]
end
def K_symbol (O:Oracle):Prop:=∀(p:Int) [IsP p] (a m:Fp p),m≠0→m.len≤13→a.len<5000→ask O F1e [(D.int .i64 p),(D.sl .leaf (ints .i64 (row a))),(D.sl .leaf (ints .i64 (row m)))]=some (D.int .i64 (symb p a m))
theorem k_symbol (hT:T F1e=some Z1e) (hf:K_fac (den T A)) (hdg:C_degree (den T A)) (hno:C_norm (den T A)) (hpw:K_power (den T A)) (hat:C_at (den T A)):K_symbol (den T A):=by
 intro p i a m hm hml hal
 obtain ⟨f1,f2,f3⟩:=hf p m hm hml
 have e:=l_sym1 hdg hno hpw hat hal hm hml f1 f2 (fac m).length 0 1 (Nat.zero_add _) (by omega) (by have:=IsP.ge (p:=p); omega)
 have e0:((0:Nat):Int)=0:=rfl
 rw [e0,List.drop_zero] at e
 have hl:((fac m).map facD).length=(fac m).length:=by simp
 refine ask_of hT rfl ?_
 unfold symb
 generalize (fac m).map facD=LD at *
 simp -implicitDefEqProofs [Z1e,Z1e_B,f3,e,hl]
def quadI (p s:Int):Int:=if rp p s ((p-1)/2).toNat 1=p-1 then -1 else rp p s ((p-1)/2).toNat 1
theorem quadI_in {p s:Int} [IsP p]:-1≤quadI p s∧quadI p s≤7:=by
 have hp:=IsP.ge (p:=p)
 have hp7:=IsP.le (p:=p)
 have:=rp_in (own:=s) (by omega:0<p) ((p-1)/2).toNat 1 (by omega) (by omega)
 unfold quadI
 split <;> omega
theorem l_quad {O:Oracle} {p s n:Int} [IsP p] (hs:0≤s∧s<p):∀(m:Nat) (i out:Int),i+m=n→0≤i→n<100000→0≤out→out<p →
 dn O 0 (.loop Z18_L0) ⟨[(0,(.d (.int .i64 p))),(7,(.d (.int .i64 s))),(8,(.d (.int .i64 out))),(15,(.d (.int .i64 n))),(16,(.d (.int .i64 i)))],[]⟩ =
  some (.exit 0,⟨[(0,(.d (.int .i64 p))),(7,(.d (.int .i64 s))),(8,(.d (.int .i64 (rp p s m out)))),(15,(.d (.int .i64 n))),(16,(.d (.int .i64 n))),(17,(.d (.bool false)))],[]⟩)
 | 0,i,out,hi,h0,hn,h1,h2=>by
  obtain rfl:i=n:=by omega
  exact dn_stop (by simp -implicitDefEqProofs [Z18_L0,dn_cond,rp])
 | m+1,i,out,hi,h0,hn,h1,h2=>by
  have hp:=IsP.ge (p:=p)
  have hp7:=IsP.le (p:=p)
  have hlt:i<n:=by omega
  have gm:=mul_small (x:=out) (y:=s) (b:=10) (c:=10) (by omega) (by omega) (by omega)
  have w1:IntKind.i64.wrap (out*s)=out*s:=w64 (by omega)
  have w2:(out*s).tmod p=out*s%p:=Int.tmod_eq_emod_of_nonneg (Int.mul_nonneg h1 hs.1)
  have w3:IntKind.i64.wrap (i+1)=i+1:=w64 (by omega)
  have hp0:p≠0:=by omega
  refine dn_round ?_ (l_quad (O:=O) hs m (i+1) (out*s%p) (by omega) (by omega) hn (Int.emod_nonneg _ (by omega)) (Int.emod_lt_of_pos _ (by omega)))
  simp -implicitDefEqProofs [Z18_L0,dn_cond,hlt,w1,w2,w3,hp0]
def K_quad (O:Oracle):Prop:=∀(p:Int) [IsP p] (a m:Fp p),m≠0→m.len≤13→a.len<5000→ask O F18 [(D.int .i64 p),(D.sl .leaf (ints .i64 (row a))),(D.sl .leaf (ints .i64 (row m)))]=some (D.int .i64 (quadI p (symb p a m)))
theorem k_quad (hT:T F18=some Z18) (hs:K_symbol (den T A)):K_quad (den T A):=by
 intro p i a m hm hml hal
 have hp:=IsP.ge (p:=p)
 have hp7:=IsP.le (p:=p)
 have e1:=hs p a m hm hml hal
 have e2:=l_quad (O:=den T A) (n:=(p-1)/2) (symb_in a m) ((p-1)/2).toNat 0 1 (by omega) (by omega) (by omega) (by omega) (by omega)
 have w1:IntKind.i64.wrap (p-1)=p-1:=w64 (by omega)
 have w2:IntKind.i64.wrap ((p-1).tdiv 2)=(p-1)/2:=by rw [Int.tdiv_eq_ediv_of_nonneg (by omega),w64 (by omega)]
 refine ask_of hT rfl ?_
 unfold quadI
 by_cases hc:rp p (symb p a m) ((p-1)/2).toNat 1=p-1
 ·rw [if_pos hc]
  rw [hc] at e2
  simp -implicitDefEqProofs [Z18,Z18_B,dn_cond,e1,e2,w1,w2]
 ·rw [if_neg hc]
  simp -implicitDefEqProofs [Z18,Z18_B,dn_cond,e1,e2,w1,w2,hc]
end Pe

namespace Pe
open Go Gq
variable {T:Nat→Option Fn} {A:Oracle}
theorem isP_of {p:Int} (h:isP p=true):IsP p:=⟨by unfold isP at h; simpa using h⟩
theorem isP_true {p:Int} [h:IsP p]:isP p=true:=by unfold isP; exact decide_eq_true h.h
theorem isPl_row {p:Int} [IsP p] {a:Fp p}:isPl p (pad (row a))=true:=by
 unfold isPl
 rw [List.all_eq_true]
 intro x hx
 obtain ⟨i,_,rfl⟩:=List.mem_map.1 hx
 have:=(row_can a).le IsP.pos i
 simpa using this.2
theorem row_of_isPl {p:Int} [IsP p] {l:List Int} (hb:Bytes l) (hl:l.length=64) (h:isPl p l=true):∃a:Fp p,a.len≤64∧l=pad (row a):=by
 have hc:Can p l:=fun x hx=>⟨(hb x hx).1,by
  unfold isPl at h
  rw [List.all_eq_true] at h
  simpa using h x hx⟩
 refine ⟨polOf p l,Nat.le_trans (Pol.len_le (polOf_lt l)) (by omega),?_⟩
 rw [←trim_polOf hc]
 symm
 apply pad_eq hl
 intro i hi
 rw [trim_polOf hc,row_cf,polOf_c,rep_zp (hc.le IsP.pos i)]
inductive Arg1 (p:Int) (l:List Int):Prop
 | bad (h:codeP p [l]=1) (h2:isP p=true→isPl p l=false)
 | good (ip:IsP p) (a:Fp p) (hl:a.len≤64) (e:l=pad (row a))
theorem arg1 (p:Int) {l:List Int} (hb:Bytes l) (hl:l.length=64):Arg1 p l:=by
 by_cases h1:isP p=true
 ·by_cases h2:isPl p l=true
  ·have ip:=isP_of h1
   obtain ⟨a,g1,g2⟩:=row_of_isPl hb hl h2
   exact .good ip a g1 g2
  ·refine .bad (by simp [codeP,h2]) fun _=>by simpa using h2
 ·exact .bad (by simp [codeP,h1]) fun h=>absurd h h1
theorem codeP_good {p:Int} [IsP p] (ls:List (Fp p)):codeP p (ls.map fun a=>pad (row a))=0:=by
 unfold codeP
 rw [if_pos]
 refine ⟨isP_true,?_⟩
 rw [List.all_map,List.all_eq_true]
 intro a _
 exact isPl_row
theorem codeP_one {p:Int} [IsP p] (a:Fp p):codeP p [pad (row a)]=0:=codeP_good [a]
open Classical in
noncomputable def monOk {p:Int} [IsP p] (a:Fp p) (most:Nat) (r:Bool):Int:=if Monic a∧2≤a.len∧a.len≤most+1∧r=true then 0 else 2
theorem rep_one_iff {p:Int} [IsP p] (x:Zp p):rep x=1↔x=1:=⟨fun h=>rep_inj (by rw [h,rep_one]),fun h=>by rw [h,rep_one]⟩
theorem monic_iff {p:Int} [IsP p] (a:Fp p):Monic a↔a.ld=1:=⟨fun h=>h.1,fun h=>⟨h,fun h0=>by
 rw [h0] at h
 have:(0:Fp p).ld=0:=rfl
 rw [this] at h
 exact Fd.one_ne h.symm⟩⟩
def H_monicCode (O:Oracle):Prop:=∀(p:Int) (l:List Int) (most:Nat) (r:Bool),Bytes l→l.length=64→most≤100 →
 (codeP p [l]=1→O Fr [(.d (.int .i64 p)),(.d (.arr 64 .leaf (ints .u8 l))),(.d (.int .i64 most)),(.d (.bool r)),.d (.nils (.arr 64 .leaf))] []=some ((.d (.int .i64 1)),[],[])) ∧
 (∀(_ip:IsP p) (a:Fp p),a.len≤64→l=pad (row a)→O Fr [(.d (.int .i64 p)),(.d (.arr 64 .leaf (ints .u8 l))),(.d (.int .i64 most)),(.d (.bool r)),.d (.nils (.arr 64 .leaf))] []=some ((.d (.int .i64 (monOk a most r))),[],[]))
theorem h_monicCode (hT:T Fr=some Zr) (hpc:C_polysCode (den T A)) (hro:K_rowOf (den T A)) (hld:C_lead (den T A)) (hdg:C_degree (den T A)) (hwi:C_within (den T A)):H_monicCode (den T A):=by
 intro p l most r hb hl hmost
 have e1:=hpc p [l] (by intro x hx; simp at hx; subst hx; exact ⟨hl,hb⟩) (by simp)
 rw [show List.map arr8 [l]=[(D.arr 64 .leaf (ints .u8 l))] from rfl] at e1
 refine ⟨fun hc=>?_,fun ip a hal hle=>?_⟩
 ·rw [hc] at e1
  refine den_of hT rfl ?_
  simp -implicitDefEqProofs [Zr,Zr_B,dn_cond,e1,List.replicate]
 ·subst hle
  rw [codeP_one] at e1
  have e2:=hro p a hal
  have e3:=hld (row a) (by rw [row_length]; omega)
  rw [ld_row] at e3
  have e4:=hdg (row a) (by rw [row_length]; omega)
  rw [row_length] at e4
  have e5:=hwi ((a.len:Int)-1) 1 most
  refine den_of hT rfl ?_
  unfold monOk
  by_cases h1:a.ld=1
  ·have h1':=(rep_one_iff a.ld).2 h1
   have hM:=(monic_iff a).2 h1
   by_cases h2:2≤a.len∧a.len≤most+1
   ·have h3:decide ((1:Int)≤(a.len:Int)-1∧(a.len:Int)-1≤most)=true:=decide_eq_true (by omega)
    rw [h3] at e5
    cases r
    ·rw [if_neg (by simp)]
     simp -implicitDefEqProofs [Zr,Zr_B,dn_cond,e1,e2,e3,e4,e5,h1',List.replicate]
    ·rw [if_pos ⟨hM,h2.1,h2.2,rfl⟩]
     simp -implicitDefEqProofs [Zr,Zr_B,dn_cond,e1,e2,e3,e4,e5,h1',List.replicate]
   ·have h3:decide ((1:Int)≤(a.len:Int)-1∧(a.len:Int)-1≤most)=false:=decide_eq_false (by omega)
    rw [h3] at e5
    rw [if_neg (fun h=>h2 ⟨h.2.1,h.2.2.1⟩)]
    simp -implicitDefEqProofs [Zr,Zr_B,dn_cond,e1,e2,e3,e4,e5,h1',List.replicate]
  ·have h1':=mt (rep_one_iff a.ld).1 h1
   rw [if_neg (fun h=>h1 h.1.1)]
   simp -implicitDefEqProofs [Zr,Zr_B,dn_cond,e1,e2,e3,h1',List.replicate]
def sumZ (f:Nat→Int):Nat→Int
 | 0=>0
 | n+1=>sumZ f n+f n
theorem sumZ_small {f:Nat→Int} {b:Int} (h:∀i,-b≤f i∧f i≤b):∀n:Nat,-(b*n)≤sumZ f n∧sumZ f n≤b*n
 | 0=>by simp [sumZ]
 | n+1=>by
  have h1:=sumZ_small h n
  have h2:=h n
  have e:b*((n+1:Nat):Int)=b*n+b:=by rw [Int.natCast_add,Int.mul_add]; simp
  rw [sumZ,e]
  omega
noncomputable def symSum (p:Int) [IsP p] (m:Fp p) (d:Nat):Int:=sumZ (fun k=>quadI p (symb p (numP p (p^d+k)) m)) (p^d).toNat
noncomputable def symPoly (p:Int) [IsP p] (m:Fp p):List Int:=(List.range (m.len-1)).map (symSum p m)
theorem l_sp0 {O:Oracle} (hq:K_quad O) {p:Int} [IsP p] {m:Fp p} (hm:m≠0) (hml:m.len≤13) {many:Nat} (hmany:many≤2401) {st vd vi:V} {hp:Heap} (hst:st.refs=[1]∧vd.refs=[]∧vi.refs=[]) (hhp:∃b,hp=[.hole,b,.hole,.hole]):∀(k i:Nat),i+k=many →
 dn O 0 (.loop Zb_L0) ⟨[(7,(.d (.int .i64 p))),(8,(.d (.sl .leaf (ints .i64 (row m))))),(9,st),(11,(.d (.int .i64 (sumZ (fun k=>quadI p (symb p (numP p ((many:Int)+k)) m)) i)))),(32,vd),(33,vi),(38,.d (.sl .leaf ((List.range many).map fun (k:Nat)=>(D.sl .leaf (ints .i64 (row (numP p ((many:Int)+k)))))))),(39,(.d (.int .i64 many))),(40,(.d (.int .i64 i)))],hp⟩ =
  some (.exit 2,⟨[(7,(.d (.int .i64 p))),(8,(.d (.sl .leaf (ints .i64 (row m))))),(9,st),(11,(.d (.int .i64 (sumZ (fun k=>quadI p (symb p (numP p ((many:Int)+k)) m)) many)))),(32,vd),(33,vi),(38,.d (.sl .leaf ((List.range many).map fun (k:Nat)=>(D.sl .leaf (ints .i64 (row (numP p ((many:Int)+k)))))))),(39,(.d (.int .i64 many))),(40,(.d (.int .i64 many))),(41,(.d (.bool false)))],hp⟩)
 | 0,i,hi=>by
  obtain ⟨b,rfl⟩:=hhp
  obtain rfl:i=many:=by omega
  exact dn_stop (by simp -implicitDefEqProofs [Zb_L0,dn_cond,hst])
 | k+1,i,hi=>by
  have hlt:i<many:=by omega
  have hlen:=numP_len (p:=p) ((many:Int)+i)
  have e1:=hq p (numP p ((many:Int)+i)) m hm hml (by omega)
  have hs:=sumZ_small (f:=fun k=>quadI p (symb p (numP p ((many:Int)+k)) m)) (b:=7) (fun i=>by have:=quadI_in (p:=p) (s:=symb p (numP p ((many:Int)+i)) m); omega) i
  have hs1:=quadI_in (p:=p) (s:=symb p (numP p ((many:Int)+i)) m)
  have w1:IntKind.i64.wrap (sumZ (fun k=>quadI p (symb p (numP p ((many:Int)+k)) m)) i+quadI p (symb p (numP p ((many:Int)+i)) m))=sumZ (fun k=>quadI p (symb p (numP p ((many:Int)+k)) m)) (i+1):=w64 (by omega)
  have w4:IntKind.i64.wrap ((i:Int)+1)=((i+1:Nat):Int):=(w64 (x:=(i:Int)+1) (by omega)).trans (by omega)
  have ih:=l_sp0 (O:=O) hq hm hml hmany hst hhp k (i+1) (by omega)
  obtain ⟨b,rfl⟩:=hhp
  refine dn_round ?_ ih
  simp -implicitDefEqProofs [Zb_L0,dn_cond,hlt,e1,w1,w4,hst]
theorem l_sp1 {O:Oracle} (hq:K_quad O) (hmo:K_monics O) {p:Int} [IsP p] {m:Fp p} (hm:m≠0) (hml:m.len≤6) {n:Nat} (hn:n+1=m.len) (hcnt:∀d,d<n→p^d≤343):∀(k i:Nat) (cp:Option Nat),i+k=n→∃cp':Option Nat,
 dn O 0 (.loop Zb_L1) ⟨[(7,(.d (.int .i64 p))),(8,(.d (.sl .leaf (ints .i64 (row m))))),(9,.sl 1 [] 0 i cp),(32,(.d (.int .i64 n))),(33,(.d (.int .i64 i)))],[.hole,.sl false .leaf (ints .i64 ((List.range i).map (symSum p m))),.hole,.hole]⟩ =
  some (.exit 0,⟨[(7,(.d (.int .i64 p))),(8,(.d (.sl .leaf (ints .i64 (row m))))),(9,.sl 1 [] 0 n cp'),(32,(.d (.int .i64 n))),(33,(.d (.int .i64 n))),(34,(.d (.bool false)))],[.hole,.sl false .leaf (ints .i64 ((List.range n).map (symSum p m))),.hole,.hole]⟩)
 | 0,i,cp,hi=>by
  obtain rfl:i=n:=by omega
  exact ⟨cp,dn_stop (by simp -implicitDefEqProofs [Zb_L1,dn_cond])⟩
 | k+1,i,cp,hi=>by
  have hlt:i<n:=by omega
  obtain ⟨many,g1,g2,e1⟩:=hmo p i (by omega)
  have hc:=hcnt i hlt
  have hpos:=ppow_pos (p:=p) i
  rw [normL_eq i 1 (by omega) (by omega),Int.one_mul] at g1
  have hml2:m.len≤13:=by omega
  have e2:=l_sp0 (O:=O) hq hm hml2 (many:=many) g2 (st:=.sl 1 [] 0 i cp) (vd:=(.d (.int .i64 n))) (vi:=(.d (.int .i64 i))) (hp:=[.hole,.sl false .leaf (ints .i64 ((List.range i).map (symSum p m))),.hole,.hole]) ⟨rfl,rfl,rfl⟩ ⟨_,rfl⟩ many 0 (Nat.zero_add _)
  have hss:sumZ (fun k=>quadI p (symb p (numP p ((many:Int)+k)) m)) many=symSum p m i:=by
   unfold symSum
   rw [←g1]; rfl
  rw [hss] at e2
  have e0:sumZ (fun k=>quadI p (symb p (numP p ((many:Int)+k)) m)) 0=0:=rfl
  have e00:((0:Nat):Int)=0:=rfl
  rw [e0,e00] at e2
  obtain ⟨cp',ih⟩:=l_sp1 (O:=O) hq hmo hm hml hn hcnt k (i+1) none (by omega)
  have w4:IntKind.i64.wrap ((i:Int)+1)=((i+1:Nat):Int):=(w64 (x:=(i:Int)+1) (by omega)).trans (by omega)
  have h8:(i+1)*8≤1099511627776:=by omega
  have o1:ints .i64 ((List.range (i+1)).map (symSum p m))=ints .i64 ((List.range i).map (symSum p m))++[D.int .i64 (symSum p m i)]:=by
   rw [←range_snoc i (symSum p m),←ints_append]; rfl
  have hL:((List.range i).map (symSum p m)).length=i:=by simp
  have ht:((List.range i).map (symSum p m)).take i=(List.range i).map (symSum p m):=List.take_of_length_le (by simp)
  rw [o1] at ih
  have hML:((List.range many).map fun (k:Nat)=>(D.sl .leaf (ints .i64 (row (numP p ((many:Int)+k)))))).length=many:=by simp
  refine ⟨cp',dn_round ?_ ih⟩
  generalize (List.range i).map (symSum p m)=L at *
  generalize (List.range many).map (fun (k:Nat)=>(D.sl .leaf (ints .i64 (row (numP p ((many:Int)+k))))))=ML at *
  simp -implicitDefEqProofs [Zb_L1,dn_cond,hlt,e1,e2,w4,h8,hL,ht,hML,List.replicate]
open Classical in
noncomputable def symPolyD (p:Int) (l:List Int):D:=
 if h:IsP p∧isPl p l=true then
  haveI:=h.1
  if monOk (polOf p l) 5 (decide (p≠2))=0∧p^((polOf p l).len-2)≤343 then .tup [(D.sl .leaf (ints .i64 (symPoly p (polOf p l)))),(D.int .i64 0)] else .tup [(D.sl .leaf (ints .i64 ([]))),(D.int .i64 2)]
 else .tup [(D.sl .leaf (ints .i64 ([]))),(D.int .i64 1)]
theorem symPolyD_bad {p:Int} {l:List Int} (h:codeP p [l]=1):symPolyD p l=.tup [(D.sl .leaf (ints .i64 ([]))),(D.int .i64 1)]:=by
 unfold symPolyD
 rw [dif_neg]
 rintro ⟨ip,hl⟩
 simp [codeP,isP_true,hl] at h
open Classical in
theorem symPolyD_good {p:Int} [ip:IsP p] {a:Fp p} (hl:a.len≤64):symPolyD p (pad (row a))=if monOk a 5 (decide (p≠2))=0∧p^(a.len-2)≤343 then .tup [(D.sl .leaf (ints .i64 (symPoly p a))),(D.int .i64 0)] else .tup [(D.sl .leaf (ints .i64 ([]))),(D.int .i64 2)]:=by
 have e:polOf p (pad (row a))=a:=Pol.ext fun i=>by rw [polOf_c,pad_cf (by rw [row_length]; exact hl),row_cf,zp_rep]
 unfold symPolyD
 rw [dif_pos ⟨ip,isPl_row⟩,e]
def K_SymbolPolynomial (O:Oracle) (F:Nat):Prop:=∀(p:Int) (l:List Int),Bytes l→l.length=64→ask O F [(D.int .i64 p),(D.arr 64 .leaf (ints .u8 l))]=some (symPolyD p l)
end Pe

namespace Pe
open Go Gq
variable {T:Nat→Option Fn} {A:Oracle}
def C_isSummed (O:Oracle):Prop:=∀(p:Int) [IsP p] (n:Nat),n<100000→ask O F13 [(D.int .i64 p),(D.int .i64 n)]=some (D.bool (decide (p^n≤343)))
theorem normL_le {p:Int} [IsP p]:∀(n:Nat) (out:Int),0<out→(normL p 343 n out≤343↔out*p^n≤343)
 | 0,out,h0=>by rw [Int.pow_zero,Int.mul_one]; exact Iff.rfl
 | n+1,out,h0=>by
  have hp:=IsP.pos (p:=p)
  have e:out*p^(n+1)=out*p*p^n:=by rw [Int.pow_succ,Int.mul_assoc,Int.mul_comm p]
  unfold normL
  split
  ·rename_i h
   have h1:1≤p^(n+1):=ppow_pos (n+1)
   have h2:out*1≤out*p^(n+1):=Int.mul_le_mul_of_nonneg_left h1 (by omega)
   omega
  ·rw [e]
   exact normL_le n (out*p) (Int.mul_pos h0 hp)
theorem c_isSummed (hT:T F13=some Z13) (hno:C_norm (den T A)):C_isSummed (den T A):=by
 intro p i n hn
 have e:=hno p n 343 (by omega) (by omega)
 refine ask_of hT rfl ?_
 simp -implicitDefEqProofs [Z13,Z13_B,e]
 rw [normL_le n 1 (by omega),Int.one_mul]
theorem k_SymbolPolynomial (hT:T Fb=some Zb) (hmc:H_monicCode (den T A)) (hro:K_rowOf (den T A)) (hdg:C_degree (den T A)) (his:C_isSummed (den T A)) (hq:K_quad (den T A)) (hmo:K_monics (den T A)):K_SymbolPolynomial (den T A) Fb:=by
 intro p l hb hl
 have hc:=hmc p l 5 (decide (p≠2)) hb hl (by omega)
 have hr:(!decide (p=2))=decide (p≠2):=by simp
 have e5:((5:Nat):Int)=5:=rfl
 rw [e5] at hc
 refine ask_of hT rfl ?_
 rcases arg1 p hb hl with ⟨h1,h2⟩ | ⟨ip,a,hal,rfl⟩
 ·rw [symPolyD_bad h1]
  have e1:=hc.1 h1
  generalize decide (p≠2)=r at *
  simp -implicitDefEqProofs [Zb,Zb_B,dn_cond,hr,e1,ints_nil]
 ·rw [symPolyD_good hal]
  have e1:=hc.2 ip a hal rfl
  generalize decide (p≠2)=r at *
  by_cases h0:monOk a 5 r=0
  ·have hM:Monic a∧2≤a.len∧a.len≤5+1∧r=true:=by
    unfold monOk at h0
    split at h0
    ·assumption
    ·omega
   obtain ⟨hM,hl2,hl6,_⟩:=hM
   rw [h0] at e1
   have e2:=hro p a hal
   have e3:=hdg (row a) (by rw [row_length]; omega)
   rw [row_length,show ((a.len:Int)-1)=((a.len-1:Nat):Int) by omega] at e3
   have w1:IntKind.i64.wrap (((a.len-1:Nat):Int)-1)=((a.len-2:Nat):Int):=(w64 (x:=((a.len-1:Nat):Int)-1) (by omega)).trans (by omega)
   have e4:=his p (a.len-2) (by omega)
   by_cases h3:p^(a.len-2)≤343
   ·rw [if_pos ⟨h0,h3⟩]
    rw [decide_eq_true h3] at e4
    obtain ⟨cp,e6⟩:=l_sp1 (O:=den T A) hq hmo hM.2 hl6 (n:=a.len-1) (by omega) (fun d hd=>by
     have:=ipow_mono (p:=p) (by have:=IsP.pos (p:=p); omega) (show d≤a.len-2 by omega)
     omega) (a.len-1) 0 (some 0) (Nat.zero_add _)
    have e00:((0:Nat):Int)=0:=rfl
    rw [e00,List.range_zero,List.map_nil,ints_nil] at e6
    have e7:(List.range (a.len-1)).map (symSum p a)=symPoly p a:=rfl
    rw [e7] at e6
    have hL:(symPoly p a).length=a.len-1:=by simp [symPoly]
    have ht:(symPoly p a).take (a.len-1)=symPoly p a:=List.take_of_length_le (by omega)
    generalize symPoly p a=S at *
    generalize a.len-1=n at *
    simp -implicitDefEqProofs [Zb,Zb_B,dn_cond,hr,e1,e2,e3,e4,w1,e6,hL,ht]
   ·rw [if_neg (fun h=>h3 h.2)]
    rw [decide_eq_false h3] at e4
    generalize a.len-1=n at *
    simp -implicitDefEqProofs [Zb,Zb_B,dn_cond,hr,e1,e2,e3,e4,w1,ints_nil]
  ·rw [if_neg (fun h=>h0 h.1)]
   have h2:monOk a 5 r=2:=by
    unfold monOk at h0 ⊢
    split
    ·rename_i h; rw [if_pos h] at h0; exact absurd rfl h0
    ·rfl
   rw [h2] at e1
   simp -implicitDefEqProofs [Zb,Zb_B,dn_cond,hr,e1,ints_nil]
def sumW (l:List Int):Nat→Int
 | 0=>0
 | n+1=>IntKind.i64.wrap (sumW l n+cf l n)
theorem l_classSum {O:Oracle} {l:List Int} {v:V} (hv:v.refs=[]) (hl:l.length<100000):∀(m i:Nat),i+m=l.length →
 dn O 0 (.loop Z5_L0) ⟨[(7,v),(8,(.d (.int .i64 (sumW l i)))),(17,(.d (.sl .leaf (ints .i64 l)))),(18,(.d (.int .i64 l.length))),(19,(.d (.int .i64 i)))],[.hole]⟩ =
  some (.exit 0,⟨[(7,v),(8,(.d (.int .i64 (sumW l l.length)))),(17,(.d (.sl .leaf (ints .i64 l)))),(18,(.d (.int .i64 l.length))),(19,(.d (.int .i64 l.length))),(20,(.d (.bool false)))],[.hole]⟩)
 | 0,i,hi=>by
  obtain rfl:i=l.length:=by omega
  exact dn_stop (by simp -implicitDefEqProofs [Z5_L0,dn_cond,hv])
 | m+1,i,hi=>by
  have hlt:i<l.length:=by omega
  have hx:l[i]=cf l i:=(cf_lt hlt).symm
  have w4:IntKind.i64.wrap ((i:Int)+1)=((i+1:Nat):Int):=(w64 (x:=(i:Int)+1) (by omega)).trans (by omega)
  refine dn_round ?_ (l_classSum hv hl m (i+1) (by omega))
  simp -implicitDefEqProofs [Z5_L0,dn_cond,hlt,hx,w4,hv,sumW]
def sumD:D→D
 | .tup [.sl _ cs,c]=>.tup [(D.int .i64 (sumW (cs.map D.num) cs.length)),c]
 | d=>d
theorem sumD_eq (l:List Int) (c:D):sumD (.tup [(D.sl .leaf (ints .i64 l)),c])=.tup [(D.int .i64 (sumW l l.length)),c]:=by
 show D.tup [(D.int .i64 (sumW ((ints .i64 l).map D.num) (ints .i64 l).length)),c]=_
 unfold ints
 rw [List.map_map,List.length_map]
 have:(D.num ∘ D.int .i64)=id:=rfl
 rw [this,List.map_id]
def K_ClassSum (O:Oracle) (F:Nat):Prop:=∀(p:Int) (l:List Int),Bytes l→l.length=64→ask O F [(D.int .i64 p),(D.arr 64 .leaf (ints .u8 l))]=some (sumD (symPolyD p l))
theorem symPolyD_form (p:Int) {l:List Int} (hb:Bytes l) (hl:l.length=64):∃(s:List Int) (c:Int),symPolyD p l=.tup [(D.sl .leaf (ints .i64 s)),(D.int .i64 c)]∧s.length<100:=by
 rcases arg1 p hb hl with ⟨h1,h2⟩ | ⟨ip,a,hal,rfl⟩
 ·exact ⟨[],1,symPolyD_bad h1,by simp⟩
 ·rw [symPolyD_good hal]
  split
  ·exact ⟨symPoly p a,0,rfl,by simp [symPoly]; omega⟩
  ·exact ⟨[],2,rfl,by simp⟩
theorem k_ClassSum (hT:T F5=some Z5) (hs:K_SymbolPolynomial (den T A) Fb):K_ClassSum (den T A) F5:=by
 intro p l hb hl
 have e1:=hs p l hb hl
 obtain ⟨s,c,e2,e3⟩:=symPolyD_form p hb hl
 rw [e2,sumD_eq]
 rw [e2] at e1
 have e4:=l_classSum (O:=den T A) (v:=(.d (.int .i64 c))) rfl (l:=s) (by omega) s.length 0 (Nat.zero_add _)
 have e0:((0:Nat):Int)=0:=rfl
 have e00:sumW s 0=0:=rfl
 rw [e0,e00] at e4
 refine ask_of hT rfl ?_
 simp -implicitDefEqProofs [Z5,Z5_B,e1,e4]
end Pe

namespace Pe
open Go Gq
variable {T:Nat→Option Fn} {A:Oracle}
theorem tlen_row {p:Int} {l:List Int} {f:Fp p} (h:∀i,cf l i=rep (f.c i)):tlen l l.length=f.len:=by
 have e:=congrArg List.length (trim_row h)
 rw [row_length] at e
 unfold trim at e
 rw [List.length_take] at e
 have:=tlen_le l l.length
 omega
theorem l_sDeg {O:Oracle} {l:List Int} (hl:l.length=64):∀n:Nat,n≤64 →
 dn O 0 (.loop Z2w_L0) ⟨[(1,.ptr 0 []),(3,(.d (.int .i64 ((n:Int)-1))))],[.box false (D.arr 64 .leaf (ints .u8 l))]⟩ =
  some (.exit 0,⟨[(1,.ptr 0 []),(3,(.d (.int .i64 ((tlen l n:Int)-1)))),(11,(.d (.bool false)))],[.box false (D.arr 64 .leaf (ints .u8 l))]⟩)
 | 0,_=>dn_stop (by simp -implicitDefEqProofs [Z2w_L0,dn_cond,tlen])
 | n+1,hn=>by
  have hlt:n<l.length:=by omega
  have hn64:n<64:=by omega
  have hx:l[n]=cf l n:=(cf_lt hlt).symm
  have t0:(((n+1:Nat):Int)-1)=(n:Int):=by omega
  rw [t0]
  have w1:IntKind.i64.wrap ((n:Int)-1)=(n:Int)-1:=w64 (by omega)
  by_cases h0:cf l n=0
  ·have e:tlen l (n+1)=tlen l n:=by simp [tlen,h0]
   rw [e]
   refine dn_round ?_ (l_sDeg hl n (by omega))
   simp -implicitDefEqProofs [Z2w_L0,dn_cond,hlt,hn64,hx,h0,w1]
  ·have e:tlen l (n+1)=n+1:=by simp [tlen,h0]
   rw [e,t0]
   refine dn_stop ?_
   simp -implicitDefEqProofs [Z2w_L0,dn_cond,hlt,hn64,hx,h0]
def C_sDeg (O:Oracle):Prop:=∀l:List Int,l.length=64→ask O F2w [(D.arr 64 .leaf (ints .u8 l))]=some (D.int .i64 ((tlen l 64:Int)-1))
theorem c_sDeg (hT:T F2w=some Z2w):C_sDeg (den T A):=by
 intro l hl
 have e:=l_sDeg (O:=den T A) hl 64 (Nat.le_refl _)
 have e0:((64:Nat):Int)-1=63:=rfl
 rw [e0] at e
 refine ask_of hT rfl ?_
 simp -implicitDefEqProofs [Z2w,Z2w_B,e]
def K_sDeg (O:Oracle):Prop:=∀(p:Int) [IsP p] (a:Fp p),a.len≤64→ask O F2w [(D.arr 64 .leaf (ints .u8 (pad (row a))))]=some (D.int .i64 ((a.len:Int)-1))
theorem k_sDeg {O:Oracle} (h:C_sDeg O):K_sDeg O:=fun p i a hl=>by
 have e:=tlen_row (f:=a) (l:=pad (row a)) fun i=>by rw [pad_cf (by rw [row_length]; exact hl),row_cf]
 rw [pad_length] at e
 rw [h _ (pad_length _),e]
def C_sIn (O:Oracle):Prop:=∀n a b:Int,ask O F32 [(D.int .i64 n),(D.int .i64 a),(D.int .i64 b)]=some (D.bool (decide (a≤n∧n≤b)))
theorem c_sIn (hT:T F32=some Z32):C_sIn (den T A):=by
 intro n a b
 refine ask_of hT rfl ?_
 by_cases h:a≤n <;> simp -implicitDefEqProofs [Z32,Z32_B,h]
def C_sPrime (O:Oracle):Prop:=∀p:Int,ask O F3f [(D.int .i64 p)]=some (D.bool (isP p))
theorem c_sPrime (hT:T F3f=some Z3f):C_sPrime (den T A):=by
 intro p
 refine ask_of hT rfl ?_
 by_cases h2:p=2
 ·simp -implicitDefEqProofs [Z3f,Z3f_B,h2,isP]
 ·by_cases h3:p=3
  ·simp -implicitDefEqProofs [Z3f,Z3f_B,h3,isP]
  ·by_cases h5:p=5
   ·simp -implicitDefEqProofs [Z3f,Z3f_B,h5,isP]
   ·simp -implicitDefEqProofs [Z3f,Z3f_B,h2,h3,h5,isP]
theorem l_sIs {O:Oracle} {p:Int} {l:List Int} (hb:Bytes l) (hl:l.length=64):∀(m i:Nat),i+m=64 →
 dn O 0 (.loop Z35_L0) ⟨[(0,(.d (.int .i64 p))),(3,.ptr 0 []),(5,(.d (.int .i64 i)))],[.box false (D.arr 64 .leaf (ints .u8 l))]⟩ =
  if (l.drop i).all (fun x=>decide (x<p)) then some (.exit 0,⟨[(0,(.d (.int .i64 p))),(3,.ptr 0 []),(5,(.d (.int .i64 64))),(7,(.d (.bool false)))],[.box false (D.arr 64 .leaf (ints .u8 l))]⟩) else some (.ret,⟨[(4,(.d (.bool false)))],[.hole]⟩)
 | 0,i,hi=>by
  obtain rfl:i=64:=by omega
  rw [show l.drop 64=[] from List.drop_eq_nil_of_le (by omega)]
  exact dn_stop (by simp -implicitDefEqProofs [Z35_L0,dn_cond])
 | m+1,i,hi=>by
  have hlt:i<l.length:=by omega
  have hi64:i<64:=by omega
  have hi64':(i:Int)<64:=by omega
  have hx:l[i]=cf l i:=(cf_lt hlt).symm
  have hb':=hb _ (List.getElem_mem hlt)
  rw [hx] at hb'
  have w1:IntKind.i64.wrap (cf l i)=cf l i:=w64 (by omega)
  have w4:IntKind.i64.wrap ((i:Int)+1)=((i+1:Nat):Int):=(w64 (x:=(i:Int)+1) (by omega)).trans (by omega)
  rw [List.drop_eq_getElem_cons hlt,List.all_cons,hx]
  by_cases h0:cf l i<p
  ·rw [decide_eq_true h0,Bool.true_and]
   refine dn_round ?_ (l_sIs hb hl m (i+1) (by omega))
   have h1:¬ p≤cf l i:=by omega
   simp -implicitDefEqProofs [Z35_L0,dn_cond,hlt,hi64,hi64',hx,h1,w1,w4]
  ·rw [decide_eq_false h0,Bool.false_and]
   have h1:p≤cf l i:=by omega
   refine dn_back ?_
   simp -implicitDefEqProofs [Z35_L0,dn_cond,hlt,hi64,hi64',hx,h1,w1]
def C_sIs (O:Oracle):Prop:=∀(p:Int) (l:List Int),Bytes l→l.length=64→ask O F35 [(D.int .i64 p),(D.arr 64 .leaf (ints .u8 l))]=some (D.bool (isPl p l&&isP p))
theorem c_sIs (hT:T F35=some Z35) (hp:C_sPrime (den T A)):C_sIs (den T A):=by
 intro p l hb hl
 have e:=l_sIs (O:=den T A) (p:=p) hb hl 64 0 (by omega)
 have e0:((0:Nat):Int)=0:=rfl
 rw [e0,List.drop_zero,show (l.all fun x=>decide (x<p))=isPl p l from rfl] at e
 have e1:=hp p
 refine ask_of hT rfl ?_
 by_cases h:isPl p l=true
 ·rw [if_pos h] at e
  simp -implicitDefEqProofs [Z35,Z35_B,e,e1,h]
 ·rw [if_neg h] at e
  simp -implicitDefEqProofs [Z35,Z35_B,e,h]
theorem l_sCode {O:Oracle} (hi:C_sIs O) {p:Int} (hp:isP p=true) {ls:List (List Int)} (h:Arrs ls) (hl:ls.length<2000000):∀(m i:Nat),i+m=ls.length →
 dn O 0 (.loop Z2u_L0) ⟨[(0,(.d (.int .i64 p))),(1,.d (.sl (.arr 64 .leaf) (ls.map arr8))),(5,(.d (.int .i64 i)))],[]⟩ =
  if (ls.drop i).all (isPl p) then some (.exit 0,⟨[(0,(.d (.int .i64 p))),(1,.d (.sl (.arr 64 .leaf) (ls.map arr8))),(5,(.d (.int .i64 ls.length))),(12,(.d (.bool false)))],[]⟩) else some (.ret,⟨[(4,(.d (.int .i64 1)))],[]⟩)
 | 0,i,hi'=>by
  obtain rfl:i=ls.length:=by omega
  rw [List.drop_length]
  exact dn_stop (by simp -implicitDefEqProofs [Z2u_L0,dn_cond])
 | m+1,i,hi'=>by
  have hlt:i<ls.length:=by omega
  have h1:=h _ (List.getElem_mem hlt)
  have e1:=hi p ls[i] h1.2 h1.1
  rw [hp,Bool.and_true] at e1
  have w4:IntKind.i64.wrap ((i:Int)+1)=((i+1:Nat):Int):=(w64 (x:=(i:Int)+1) (by omega)).trans (by omega)
  rw [List.drop_eq_getElem_cons hlt,List.all_cons]
  by_cases h0:isPl p ls[i]=true
  ·rw [h0,Bool.true_and]
   rw [h0] at e1
   refine dn_round ?_ (l_sCode hi hp h hl m (i+1) (by omega))
   simp -implicitDefEqProofs [Z2u_L0,dn_cond,hlt,e1,w4]
  ·rw [Bool.not_eq_true] at h0
   rw [h0,Bool.false_and]
   rw [h0] at e1
   refine dn_back ?_
   simp -implicitDefEqProofs [Z2u_L0,dn_cond,hlt,e1]
def C_sCode (O:Oracle):Prop:=∀(p:Int) (ls:List (List Int)),Arrs ls→ls.length<2000000→ask O F2u [(D.int .i64 p),.sl (.arr 64 .leaf) (ls.map arr8)]=some (D.int .i64 (codeP p ls))
theorem c_sCode (hT:T F2u=some Z2u) (hp:C_sPrime (den T A)) (hi:C_sIs (den T A)):C_sCode (den T A):=by
 intro p ls h hl
 have e1:=hp p
 unfold codeP
 refine ask_of hT rfl ?_
 by_cases h1:isP p=true
 ·have e:=l_sCode hi h1 h hl ls.length 0 (Nat.zero_add _)
  have e0:((0:Nat):Int)=0:=rfl
  rw [e0,List.drop_zero] at e
  by_cases h2:ls.all (isPl p)=true
  ·rw [if_pos h2] at e
   rw [if_pos ⟨h1,h2⟩]
   simp -implicitDefEqProofs [Z2u,Z2u_B,dn_cond,e1,e,h1]
  ·rw [if_neg h2] at e
   rw [if_neg (fun h=>h2 h.2)]
   simp -implicitDefEqProofs [Z2u,Z2u_B,dn_cond,e1,e,h1]
 ·rw [if_neg (fun h=>h1 h.1)]
  simp -implicitDefEqProofs [Z2u,Z2u_B,dn_cond,e1,h1]
open Classical in
def K_sMonic (O:Oracle):Prop:=∀(p:Int) [IsP p] (a:Fp p),a.len≤64→ask O F37 [(D.arr 64 .leaf (ints .u8 (pad (row a))))]=some (D.bool (decide (Monic a)))
open Classical in
theorem k_sMonic (hT:T F37=some Z37) (hd:K_sDeg (den T A)):K_sMonic (den T A):=by
 intro p i a hl
 have e1:=hd p a hl
 refine ask_of hT rfl ?_
 by_cases h0:a=0
 ·subst h0
  have hm:¬ Monic (0:Fp p):=fun h=>h.2 rfl
  rw [decide_eq_false hm]
  rw [Pol.len_zero] at e1
  simp -implicitDefEqProofs [Z37,Z37_B,e1]
 ·have hp:=Pol.len_pos h0
  have hd2:((a.len:Int)-1)=((a.len-1:Nat):Int):=by omega
  rw [hd2] at e1
  have hx:(pad (row a))[a.len-1]? = some (rep a.ld):=by rw [pad_get _ _ (by omega),row_cf]; rfl
  have h64:a.len-1<64:=by omega
  have e2:decide (rep a.ld=1)=decide (Monic a):=decide_eq_decide.2 (by rw [rep_one_iff,monic_iff])
  rw [←e2]
  generalize a.len-1=n at *
  generalize pad (row a)=L at *
  simp -implicitDefEqProofs [Z37,Z37_B,e1,hx,h64]
end Pe

namespace Pe
open Go Gq
variable {T:Nat→Option Fn} {A:Oracle}
def cntL (p:Int):Nat→Int→Int
 | 0,out=>out
 | n+1,out=>if out≤1000000000000 then cntL p n (out*p) else out
theorem cntL_min {p:Int} [IsP p]:∀(n:Nat) (out:Int),0<out→min (cntL p n out) 1000000000001=min (out*p^n) 1000000000001
 | 0,out,h=>by rw [Int.pow_zero,Int.mul_one]; rfl
 | n+1,out,h=>by
  have hp:=IsP.pos (p:=p)
  have e:out*p^(n+1)=out*p*p^n:=by rw [Int.pow_succ,Int.mul_assoc,Int.mul_comm p]
  unfold cntL
  split
  ·rw [e,cntL_min n _ (Int.mul_pos h hp)]
  ·have h1:1≤p^(n+1):=ppow_pos (n+1)
   have h2:out*1≤out*p^(n+1):=Int.mul_le_mul_of_nonneg_left h1 (by omega)
   omega
theorem l_sCount {O:Oracle} {p:Int} [IsP p]:∀(n:Nat) (out:Int),n<1000000→0<out→out≤7000000000000→∃n':Int,0<cntL p n out∧cntL p n out≤7000000000000 ∧
 dn O 0 (.loop Z2v_L0) ⟨[(0,(.d (.int .i64 p))),(1,(.d (.int .i64 n))),(5,(.d (.int .i64 out)))],[]⟩ =
  some (.exit 0,⟨[(0,(.d (.int .i64 p))),(1,(.d (.int .i64 n'))),(5,(.d (.int .i64 (cntL p n out)))),(11,(.d (.bool false)))],[]⟩)
 | 0,out,_,h1,h2=>⟨0,h1,h2,dn_stop (by simp -implicitDefEqProofs [Z2v_L0,dn_cond,cntL])⟩
 | n+1,out,hn,h1,h2=>by
  have hp:=IsP.pos (p:=p)
  have hp7:=IsP.le (p:=p)
  have h0:(0:Int)<(n:Int)+1:=by omega
  by_cases h3:out≤1000000000000
  ·have hmul:0<out*p∧out*p≤7000000000000:=by
    refine ⟨Int.mul_pos h1 hp,?_⟩
    have:out*p≤out*7:=Int.mul_le_mul_of_nonneg_left hp7 (by omega)
    omega
   obtain ⟨n',g1,g2,e⟩:=l_sCount (O:=O) (p:=p) n (out*p) (by omega) hmul.1 hmul.2
   have ec:cntL p (n+1) out=cntL p n (out*p):=if_pos h3
   rw [ec]
   have w1:IntKind.i64.wrap (out*p)=out*p:=w64 (by omega)
   have w2:IntKind.i64.wrap (n:Int)=n:=w64 (by omega)
   refine ⟨n',g1,g2,dn_round ?_ e⟩
   simp -implicitDefEqProofs [Z2v_L0,dn_cond,h0,h3,w1,w2]
  ·have ec:cntL p (n+1) out=out:=if_neg h3
   rw [ec]
   refine ⟨((n+1:Nat):Int),h1,h2,dn_stop ?_⟩
   simp -implicitDefEqProofs [Z2v_L0,dn_cond,h0,h3]
def K_sCount (O:Oracle):Prop:=∀(p:Int) [IsP p] (n:Nat),n<1000000→ask O F2v [(D.int .i64 p),(D.int .i64 n)]=some (D.int .i64 (min (p^n) 1000000000001))
theorem k_sCount (hT:T F2v=some Z2v):K_sCount (den T A):=by
 intro p i n hn
 obtain ⟨n',g1,g2,e⟩:=l_sCount (O:=den T A) (p:=p) n 1 hn (by omega) (by omega)
 have e2:=cntL_min (p:=p) n 1 (by omega)
 rw [Int.one_mul] at e2
 have e3:(if (1000000000001:Int)<cntL p n 1 then 1000000000001 else cntL p n 1)=min (p^n) 1000000000001:=by
  rw [←e2]
  split <;> omega
 refine ask_of hT rfl ?_
 simp -implicitDefEqProofs [Z2v,Z2v_B,e]
 exact e3
theorem k_sCount' {O:Oracle} (h:K_sCount O) (p:Int) [IsP p] (n:Nat) (hn:n≤12):ask O F2v [(D.int .i64 p),(D.int .i64 n)]=some (D.int .i64 (p^n)):=by
 have h1:=ppow_le (p:=p) hn
 rw [h p n (by omega),Int.min_eq_left (by omega)]
def K_sInverse (O:Oracle):Prop:=∀(p:Int) [IsP p] (x:Int),0<x→x<p→ask O F33 [(D.int .i64 p),.int .u8 x]=some (.int .u8 (inv p x))
theorem ask_closed {F:Nat} {fn:Fn} (hT:T F=some fn) {ds:List D} {d:D} {n:Nat} (h:run (fun _ _ _=>none) n fn (ds.map .d) []=some (.d d,[],[])):ask (den T A) F ds=some d:=by
 have h2:=den_run (A:=A) hT (n:=n) (vs:=ds.map .d) (bs:=[]) (ans:=(.d d,[],[])) (by
  obtain ⟨qs,h3,h4⟩:=run_rests h
  cases qs with
  | nil=>exact h4 _ (by intro q hq; simp at hq)
  | cons q qs=>exact absurd (h3 q (by simp)) (by simp))
 unfold ask
 rw [h2]
 simp
theorem k_sInverse (hT:T F33=some Z33):K_sInverse (den T A):=by
 intro p ip x h0 h1
 rcases ip.h with rfl | rfl | rfl | rfl
 ·obtain rfl:x=1:=by omega
  exact ask_closed hT (n:=10) (by kernel_rfl)
 ·have:x=1∨x=2:=by omega
  rcases this with rfl | rfl
  ·exact ask_closed hT (n:=10) (by kernel_rfl)
  ·exact ask_closed hT (n:=10) (by kernel_rfl)
 ·have:x=1∨x=2∨x=3∨x=4:=by omega
  rcases this with rfl | rfl | rfl | rfl
  ·exact ask_closed hT (n:=10) (by kernel_rfl)
  ·exact ask_closed hT (n:=10) (by kernel_rfl)
  ·exact ask_closed hT (n:=10) (by kernel_rfl)
  ·exact ask_closed hT (n:=10) (by kernel_rfl)
 ·have:x=1∨x=2∨x=3∨x=4∨x=5∨x=6:=by omega
  rcases this with rfl | rfl | rfl | rfl | rfl | rfl
  ·exact ask_closed hT (n:=10) (by kernel_rfl)
  ·exact ask_closed hT (n:=10) (by kernel_rfl)
  ·exact ask_closed hT (n:=10) (by kernel_rfl)
  ·exact ask_closed hT (n:=10) (by kernel_rfl)
  ·exact ask_closed hT (n:=10) (by kernel_rfl)
  ·exact ask_closed hT (n:=10) (by kernel_rfl)
theorem pad_of {p:Int} [IsP p] {l:List Int} (h:Can p l) (hl:l.length=64):l=pad (row (polOf p l)):=by
 rw [←trim_polOf h]
 symm
 apply pad_eq hl
 intro i hi
 rw [trim_polOf h,row_cf,polOf_c,rep_zp (h.le IsP.pos i)]
theorem pad_can {p:Int} [IsP p] (a:Fp p):Can p (pad (row a)):=fun x hx=>by
 obtain ⟨i,_,rfl⟩:=List.mem_map.1 hx
 exact (row_can a).le IsP.pos i
theorem polOf_pad {p:Int} {a:Fp p} (hl:a.len≤64):polOf p (pad (row a))=a:=Pol.ext fun i=>by rw [polOf_c,pad_cf (by rw [row_length]; exact hl),row_cf,zp_rep]
theorem pad_row_cf {p:Int} {a:Fp p} (hl:a.len≤64) (i:Nat):cf (pad (row a)) i=rep (a.c i):=by rw [pad_cf (by rw [row_length]; exact hl),row_cf]
theorem l_sAdd {O:Oracle} {p k:Int} [IsP p] {a b z:List Int} (ha:Can p a) (hb:Can p b) (hbl:b.length=64) (hk:-1000000≤k∧k≤1000000):∀(m i:Nat) (cur:List Int),i+m=64→cur.length=64→(∀j,i≤j→cf cur j=cf a j) →
 dn O 0 (.loop Z2r_L0) ⟨[(0,(.d (.int .i64 p))),(3,(.d (.int .i64 k))),(5,.ptr 0 []),(6,.ptr 1 []),(8,.ptr 2 []),(9,(.d (.int .i64 i)))],[.box false (D.arr 64 .leaf (ints .u8 cur)),.box false (D.arr 64 .leaf (ints .u8 b)),.box false (D.arr 64 .leaf (ints .u8 z))]⟩ =
  some (.exit 0,⟨[(0,(.d (.int .i64 p))),(3,(.d (.int .i64 k))),(5,.ptr 0 []),(6,.ptr 1 []),(8,.ptr 2 []),(9,(.d (.int .i64 64))),(11,(.d (.bool false)))],[.box false (D.arr 64 .leaf (ints .u8 (upd (lin p a b k) m i cur))),.box false (D.arr 64 .leaf (ints .u8 b)),.box false (D.arr 64 .leaf (ints .u8 z))]⟩)
 | 0,i,cur,hi,hc,hs=>by
  obtain rfl:i=64:=by omega
  exact dn_stop (by simp -implicitDefEqProofs [Z2r_L0,dn_cond,upd])
 | m+1,i,cur,hi,hc,hs=>by
  have hp:=IsP.pos (p:=p)
  have hp7:=IsP.le (p:=p)
  have hp0:p≠0:=by omega
  have hlt:i<cur.length:=by omega
  have hlb:i<b.length:=by omega
  have hi64:i<64:=by omega
  have hi64':(i:Int)<64:=by omega
  have hx:cur[i]=cf a i:=by rw [←cf_lt hlt]; exact hs i (Nat.le_refl i)
  have hy:b[i]=cf b i:=(cf_lt hlb).symm
  have ga:=ha.le hp i
  have gb:=hb.le hp i
  have gm:=mul_small (x:=k) (y:=cf b i) (b:=1000000) (c:=10) hk (by omega) (by omega)
  have w1:IntKind.i64.wrap (cf a i)=cf a i:=w64 (by omega)
  have w2:IntKind.i64.wrap (cf b i)=cf b i:=w64 (by omega)
  have w3:IntKind.i64.wrap (k*cf b i)=k*cf b i:=w64 (by omega)
  have w5:IntKind.i64.wrap (cf a i+k*cf b i)=cf a i+k*cf b i:=w64 (by omega)
  have hin:=tmod_in (n:=cf a i+k*cf b i) hp
  have w6:IntKind.i64.wrap ((cf a i+k*cf b i).tmod p+p)=(cf a i+k*cf b i).tmod p+p:=w64 (by omega)
  have w7:((cf a i+k*cf b i).tmod p+p).tmod p=lin p a b k i:=tmod_tmod hp
  have hlin:0≤lin p a b k i∧lin p a b k i<p:=⟨Int.emod_nonneg _ (by omega),Int.emod_lt_of_pos _ hp⟩
  have w8':IntKind.u8.wrap (lin p a b k i)=lin p a b k i:=w8 (by omega)
  have w4:IntKind.i64.wrap ((i:Int)+1)=((i+1:Nat):Int):=(w64 (x:=(i:Int)+1) (by omega)).trans (by omega)
  refine dn_round ?_ (l_sAdd ha hb hbl hk m (i+1) (cur.set i (lin p a b k i)) (by omega) (by simpa using hc) (fun j hj=>by rw [cf_set,if_neg (by omega)]; exact hs j (by omega)))
  simp -implicitDefEqProofs [Z2r_L0,dn_cond,hlt,hlb,hi64,hi64',hx,hy,w1,w2,w3,w5,w6,w7,w8',w4,hp0]
def K_sAdd (O:Oracle):Prop:=∀(p:Int) [IsP p] (k:Int) (a b:Fp p),-1000000≤k→k≤1000000→a.len≤64→b.len≤64 →
 ask O F2r [(D.int .i64 p),(D.arr 64 .leaf (ints .u8 (pad (row a)))),(D.arr 64 .leaf (ints .u8 (pad (row b)))),(D.int .i64 k)]=some (D.arr 64 .leaf (ints .u8 (pad (row (a+Pol.C (zp p k)*b)))))
theorem k_sAdd (hT:T F2r=some Z2r):K_sAdd (den T A):=by
 intro p i k a b hk hk' hal hbl
 have e:=l_sAdd (O:=den T A) (z:=pad []) (pad_can a) (pad_can b) (pad_length _) ⟨hk,hk'⟩ 64 0 (pad (row a)) (by omega) (pad_length _) (fun _ _=>rfl)
 have e0:((0:Nat):Int)=0:=rfl
 rw [e0,upd_all _ _ _ (pad_length _)] at e
 have e2:(List.range 64).map (lin p (pad (row a)) (pad (row b)) k)=pad (row (a+Pol.C (zp p k)*b)):=by
  unfold pad
  congr 1
  funext j
  rw [row_cf,Pol.c_add,Pol.c_Cmul]
  show (cf (pad (row a)) j+k*cf (pad (row b)) j)%p=_
  rw [pad_row_cf hal,pad_row_cf hbl,←rep_mk,zp_add,zp_mul,zp_rep,zp_rep]
 rw [e2] at e
 refine ask_of hT rfl ?_
 generalize pad (row (a+Pol.C (zp p k)*b))=R at *
 simp -implicitDefEqProofs [Z2r,Z2r_B,e]
def K_sOne (O:Oracle):Prop:=∀(p:Int) [IsP p],ask O F3c []=some (D.arr 64 .leaf (ints .u8 (pad (row (1:Fp p)))))
theorem k_sOne (hT:T F3c=some Z3c):K_sOne (den T A):=by
 intro p i
 have e:(pad []).set 0 1=pad [1]:=by decide +kernel
 have h0:(0:Nat)<(pad []).length:=by rw [pad_length]; omega
 rw [row_one]
 refine ask_of hT rfl ?_
 simp -implicitDefEqProofs [Z3c,Z3c_B,e,h0]
end Pe

namespace Pe
open Go Gq
variable {T:Nat→Option Fn} {A:Oracle}
def subS (p q:Int) (b:List Int) (i:Nat) (m:Nat) (cur:List Int):List Int:=if q=0 then cur else subTo p q b i m 0 cur
theorem subS_eq {p q:Int} [IsP p] {b cur:List Int} {i m:Nat} (hc:Can p cur) (hl:i+m≤cur.length):subS p q b i m cur=subTo p q b i m 0 cur:=by
 unfold subS
 split
 ·rename_i h
  subst h
  apply List.ext_getElem
  ·rw [subTo_length]
  ·intro j h1 h2
   rw [←cf_lt h1,←cf_lt h2,subTo_cf _ _ _ _ _ _ _ _ (by omega)]
   have:=hc.le IsP.pos j
   split
   ·rw [Int.zero_mul,Int.sub_zero,Int.emod_eq_of_lt this.1 this.2]
   ·rfl
 ·rfl
theorem l_sDiv0 {O:Oracle} {p q by_:Int} [IsP p] {b quo z z':List Int} {i bl:Nat} (hq:0<q∧q<p) (hb:Can p b) (hbl:b.length=64) (hn:i+bl≤64) (h0:0<bl):∀(m k:Nat) (cur:List Int),k+m=bl→cur.length=64→Can p cur →
 dn O 0 (.loop Z2x_L0) ⟨[(0,(.d (.int .i64 p))),(4,.ptr 0 []),(5,.ptr 1 []),(6,.ptr 2 []),(7,.ptr 3 []),(8,.ptr 4 []),(9,(.d (.int .i64 ((bl:Int)-1)))),(10,(.d (.int .i64 by_))),(11,(.d (.int .i64 ((i:Int)+bl-1)))),(12,(.d (.int .i64 q))),(13,(.d (.int .i64 k)))],[.box false (D.arr 64 .leaf (ints .u8 cur)),.box false (D.arr 64 .leaf (ints .u8 b)),.box false (D.arr 64 .leaf (ints .u8 z)),.box false (D.arr 64 .leaf (ints .u8 z')),.box false (D.arr 64 .leaf (ints .u8 quo))]⟩ =
  some (.exit 2,⟨[(0,(.d (.int .i64 p))),(4,.ptr 0 []),(5,.ptr 1 []),(6,.ptr 2 []),(7,.ptr 3 []),(8,.ptr 4 []),(9,(.d (.int .i64 ((bl:Int)-1)))),(10,(.d (.int .i64 by_))),(11,(.d (.int .i64 ((i:Int)+bl-1)))),(12,(.d (.int .i64 q))),(13,(.d (.int .i64 bl))),(50,(.d (.bool false)))],[.box false (D.arr 64 .leaf (ints .u8 (subTo p q b i m k cur))),.box false (D.arr 64 .leaf (ints .u8 b)),.box false (D.arr 64 .leaf (ints .u8 z)),.box false (D.arr 64 .leaf (ints .u8 z')),.box false (D.arr 64 .leaf (ints .u8 quo))]⟩)
 | 0,k,cur,hk,hc,hcan=>by
  obtain rfl:k=bl:=by omega
  have h1:¬ (k:Int)≤(k:Int)-1:=by omega
  exact dn_stop (by simp -implicitDefEqProofs [Z2x_L0,dn_cond,subTo,h1])
 | m+1,k,cur,hk,hc,hcan=>by
  have hp:=IsP.pos (p:=p)
  have hp7:=IsP.le (p:=p)
  have hp0:p≠0:=by omega
  have hq0:q≠0:=by omega
  have h1:(k:Int)≤(bl:Int)-1:=by omega
  have w1:IntKind.i64.wrap ((i:Int)+bl-1-(bl-1))=i:=(w64 (x:=(i:Int)+bl-1-(bl-1)) (by omega)).trans (by omega)
  have w2:IntKind.i64.wrap ((i:Int)+k)=((i+k:Nat):Int):=(w64 (x:=(i:Int)+k) (by omega)).trans (by omega)
  have hik:i+k<64:=by omega
  have hikc:i+k<cur.length:=by omega
  have hkb:k<b.length:=by omega
  have hk64:k<64:=by omega
  have hx:cur[i+k]=cf cur (i+k):=(cf_lt hikc).symm
  have hy:b[k]=cf b k:=(cf_lt hkb).symm
  have gc:=hcan.le hp (i+k)
  have gb:=hb.le hp k
  have gm:=mul_small (x:=q) (y:=cf b k) (b:=10) (c:=10) (by omega) (by omega) (by omega)
  have w3:IntKind.i64.wrap (cf cur (i+k))=cf cur (i+k):=w64 (by omega)
  have w5:IntKind.i64.wrap (cf b k)=cf b k:=w64 (by omega)
  have w6:IntKind.i64.wrap (q*cf b k)=q*cf b k:=w64 (by omega)
  have w7:IntKind.i64.wrap (cf cur (i+k)-q*cf b k)=cf cur (i+k)-q*cf b k:=w64 (by omega)
  have hin:=tmod_in (n:=cf cur (i+k)-q*cf b k) hp
  have w9:IntKind.i64.wrap ((cf cur (i+k)-q*cf b k).tmod p+p)=(cf cur (i+k)-q*cf b k).tmod p+p:=w64 (by omega)
  have w10:((cf cur (i+k)-q*cf b k).tmod p+p).tmod p=(cf cur (i+k)-q*cf b k)%p:=tmod_tmod hp
  have hlin:0≤(cf cur (i+k)-q*cf b k)%p∧(cf cur (i+k)-q*cf b k)%p<p:=⟨Int.emod_nonneg _ (by omega),Int.emod_lt_of_pos _ hp⟩
  have w11:IntKind.u8.wrap ((cf cur (i+k)-q*cf b k)%p)=(cf cur (i+k)-q*cf b k)%p:=w8 (by omega)
  have w4:IntKind.i64.wrap ((k:Int)+1)=((k+1:Nat):Int):=(w64 (x:=(k:Int)+1) (by omega)).trans (by omega)
  have t1:(0:Int)≤(i:Int)+k:=by omega
  have t2:((i:Int)+k).toNat=i+k:=by omega
  have hcan':Can p (cur.set (i+k) ((cf cur (i+k)-q*cf b k)%p)):=by
   intro x hx
   rcases List.mem_or_eq_of_mem_set hx with h | h
   ·exact hcan x h
   ·subst h; exact hlin
  refine dn_round ?_ (l_sDiv0 hq hb hbl hn h0 m (k+1) (cur.set (i+k) ((cf cur (i+k)-q*cf b k)%p)) (by omega) (by simpa using hc) hcan')
  simp -implicitDefEqProofs [Z2x_L0,dn_cond,h1,hq0,w1,w2,hik,hikc,hkb,hk64,hx,hy,w3,w5,w6,w7,w9,w10,w11,w4,hp0,t1,t2]
theorem l_sDiv1 {O:Oracle} {p by_:Int} [IsP p] {b:List Int} {bl:Nat} {z z':List Int} (hby:0≤by_∧by_<p) (hb:Can p b) (hbl:b.length=64) (h0:0<bl):∀(c:Nat) (cur quo:List Int),c+bl≤65→cur.length=64→quo.length=64→Can p cur →
 dn O 0 (.loop Z2x_L1) ⟨[(0,(.d (.int .i64 p))),(4,.ptr 0 []),(5,.ptr 1 []),(6,.ptr 2 []),(7,.ptr 3 []),(8,.ptr 4 []),(9,(.d (.int .i64 ((bl:Int)-1)))),(10,(.d (.int .i64 by_))),(11,(.d (.int .i64 ((c:Int)+bl-2))))],[.box false (D.arr 64 .leaf (ints .u8 cur)),.box false (D.arr 64 .leaf (ints .u8 b)),.box false (D.arr 64 .leaf (ints .u8 z)),.box false (D.arr 64 .leaf (ints .u8 z')),.box false (D.arr 64 .leaf (ints .u8 quo))]⟩ =
  some (.exit 0,⟨[(0,(.d (.int .i64 p))),(4,.ptr 0 []),(5,.ptr 1 []),(6,.ptr 2 []),(7,.ptr 3 []),(8,.ptr 4 []),(9,(.d (.int .i64 ((bl:Int)-1)))),(10,(.d (.int .i64 by_))),(11,(.d (.int .i64 ((bl:Int)-2)))),(27,(.d (.bool false)))],[.box false (D.arr 64 .leaf (ints .u8 ((dv p by_ (b.take bl) c (cur,quo)).1))),.box false (D.arr 64 .leaf (ints .u8 b)),.box false (D.arr 64 .leaf (ints .u8 z)),.box false (D.arr 64 .leaf (ints .u8 z')),.box false (D.arr 64 .leaf (ints .u8 ((dv p by_ (b.take bl) c (cur,quo)).2)))]⟩)
 | 0,cur,quo,_,hc,hqo,hcan=>by
  have h1:¬ (bl:Int)-1≤(bl:Int)-2:=by omega
  have t0:((0:Nat):Int)+bl-2=(bl:Int)-2:=by omega
  rw [t0]
  exact dn_stop (by simp -implicitDefEqProofs [Z2x_L1,dn_cond,h1,dv])
 | c+1,cur,quo,hcb,hc,hqo,hcan=>by
  have hp:=IsP.pos (p:=p)
  have hp7:=IsP.le (p:=p)
  have hp0:p≠0:=by omega
  have hbt:(b.take bl).length=bl:=by rw [List.length_take]; omega
  have t0:((c+1:Nat):Int)+bl-2=(c:Int)+bl-1:=by omega
  rw [t0]
  have h1:(bl:Int)-1≤(c:Int)+bl-1:=by omega
  have hi64:c+bl-1<64:=by omega
  have hic:c+bl-1<cur.length:=by omega
  have t1:(0:Int)≤(c:Int)+bl-1:=by omega
  have t2:((c:Int)+bl-1).toNat=c+bl-1:=by omega
  have t3:(1:Int)≤(c:Int)+bl:=by omega
  have hx:cur[c+bl-1]=cf cur (c+bl-1):=(cf_lt hic).symm
  have gc:=hcan.le hp (c+bl-1)
  have gm:=mul_small (x:=cf cur (c+bl-1)) (y:=by_) (b:=10) (c:=10) (by omega) (by omega) (by omega)
  have w1:IntKind.i64.wrap (cf cur (c+bl-1))=cf cur (c+bl-1):=w64 (by omega)
  have w2:IntKind.i64.wrap (cf cur (c+bl-1)*by_)=cf cur (c+bl-1)*by_:=w64 (by omega)
  have w3:(cf cur (c+bl-1)*by_).tmod p=cf cur (c+bl-1)*by_%p:=Int.tmod_eq_emod_of_nonneg (Int.mul_nonneg gc.1 hby.1)
  have hq:0≤cf cur (c+bl-1)*by_%p∧cf cur (c+bl-1)*by_%p<p:=⟨Int.emod_nonneg _ hp0,Int.emod_lt_of_pos _ hp⟩
  have w4:IntKind.i64.wrap ((c:Int)+bl-1-(bl-1))=c:=(w64 (x:=(c:Int)+bl-1-(bl-1)) (by omega)).trans (by omega)
  have w5:IntKind.u8.wrap (cf cur (c+bl-1)*by_%p)=cf cur (c+bl-1)*by_%p:=w8 (by omega)
  have hc64:c<64:=by omega
  have hcq:c<quo.length:=by omega
  have w6:IntKind.i64.wrap ((c:Int)+bl-1-1)=(c:Int)+bl-2:=(w64 (x:=(c:Int)+bl-1-1) (by omega)).trans (by omega)
  have ed:dv p by_ (b.take bl) (c+1) (cur,quo)=dv p by_ (b.take bl) c (subS p (cf cur (c+bl-1)*by_%p) b c bl cur,quo.set c (cf cur (c+bl-1)*by_%p)):=by
   rw [dv,hbt,subS_eq hcan (by omega)]
   have es:∀(m k:Nat) (x:List Int),k+m≤bl→subTo p (cf cur (c+bl-1)*by_%p) (b.take bl) c m k x=subTo p (cf cur (c+bl-1)*by_%p) b c m k x:=by
    intro m
    induction m with
    | zero=>intro k x _; rfl
    | succ m ih=>
     intro k x hk
     have e:cf (b.take bl) k=cf b k:=by rw [cf_lt (by omega),cf_lt (by omega),List.getElem_take]
     rw [subTo,subTo,e,ih _ _ (by omega)]
   rw [es bl 0 cur (by omega)]
  rw [ed]
  have hcan':Can p (subS p (cf cur (c+bl-1)*by_%p) b c bl cur):=by rw [subS_eq hcan (by omega)]; exact subTo_can hp (by omega) hcan
  have hlen':(subS p (cf cur (c+bl-1)*by_%p) b c bl cur).length=64:=by rw [subS_eq hcan (by omega),subTo_length,hc]
  have ih:=l_sDiv1 (O:=O) (z:=z) (z':=z') hby hb hbl h0 c (subS p (cf cur (c+bl-1)*by_%p) b c bl cur) (quo.set c (cf cur (c+bl-1)*by_%p)) (by omega) hlen' (by simpa using hqo) hcan'
  refine dn_round ?_ ih
  generalize cf cur (c+bl-1)*by_%p=q at *
  have l0:∃k:Int,dn O 0 (.loop Z2x_L0) ⟨[(0,(.d (.int .i64 p))),(4,.ptr 0 []),(5,.ptr 1 []),(6,.ptr 2 []),(7,.ptr 3 []),(8,.ptr 4 []),(9,(.d (.int .i64 ((bl:Int)-1)))),(10,(.d (.int .i64 by_))),(11,(.d (.int .i64 ((c:Int)+bl-1)))),(12,(.d (.int .i64 q))),(13,(.d (.int .i64 0)))],[.box false (D.arr 64 .leaf (ints .u8 cur)),.box false (D.arr 64 .leaf (ints .u8 b)),.box false (D.arr 64 .leaf (ints .u8 z)),.box false (D.arr 64 .leaf (ints .u8 z')),.box false (D.arr 64 .leaf (ints .u8 (quo.set c q)))]⟩ =
   some (.exit 2,⟨[(0,(.d (.int .i64 p))),(4,.ptr 0 []),(5,.ptr 1 []),(6,.ptr 2 []),(7,.ptr 3 []),(8,.ptr 4 []),(9,(.d (.int .i64 ((bl:Int)-1)))),(10,(.d (.int .i64 by_))),(11,(.d (.int .i64 ((c:Int)+bl-1)))),(12,(.d (.int .i64 q))),(13,(.d (.int .i64 k))),(50,(.d (.bool false)))],[.box false (D.arr 64 .leaf (ints .u8 (subS p q b c bl cur))),.box false (D.arr 64 .leaf (ints .u8 b)),.box false (D.arr 64 .leaf (ints .u8 z)),.box false (D.arr 64 .leaf (ints .u8 z')),.box false (D.arr 64 .leaf (ints .u8 (quo.set c q)))]⟩):=by
   by_cases hq0:q=0
   ·subst hq0
    refine ⟨0,?_⟩
    have e:subS p 0 b c bl cur=cur:=if_pos rfl
    rw [e]
    have h2:(1:Int)≤(bl:Int):=by omega
    exact dn_stop (by simp -implicitDefEqProofs [Z2x_L0,dn_cond,h2])
   ·refine ⟨bl,?_⟩
    have e:subS p q b c bl cur=subTo p q b c bl 0 cur:=if_neg hq0
    rw [e]
    have:=l_sDiv0 (O:=O) (by_:=by_) (quo:=quo.set c q) (z:=z) (z':=z') (i:=c) (bl:=bl) ⟨by omega,hq.2⟩ hb hbl (by omega) h0 bl 0 cur (Nat.zero_add _) hc hcan
    exact this
  obtain ⟨k,l0⟩:=l0
  simp -implicitDefEqProofs [Z2x_L1,dn_cond,h1,hi64,hic,t2,t3,hx,w1,w2,w3,w4,w5,w6,hc64,hcq,hp0,l0]
def K_sDivide (O:Oracle):Prop:=∀(p:Int) [IsP p] (a b:Fp p),b≠0→a.len≤64→b.len≤64 →
 ask O F2x [(D.int .i64 p),(D.arr 64 .leaf (ints .u8 (pad (row a)))),(D.arr 64 .leaf (ints .u8 (pad (row b))))]=some (.tup [(D.arr 64 .leaf (ints .u8 (pad (row (a/b))))),(D.arr 64 .leaf (ints .u8 (pad (row (a%b)))))])
theorem pad_take {p:Int} {b:Fp p} (h:b.len≤64):(pad (row b)).take b.len=row b:=by
 apply List.ext_getElem
 ·rw [List.length_take,pad_length,row_length]; omega
 ·intro i h1 h2
  rw [List.getElem_take,←cf_lt,pad_row_cf h,←row_cf,cf_lt h2]
theorem k_sDivide (hT:T F2x=some Z2x) (hd:K_sDeg (den T A)) (hinv:K_sInverse (den T A)):K_sDivide (den T A):=by
 intro p i a b hb hal hbl
 have hp:=IsP.ge (p:=p)
 have hp7:=IsP.le (p:=p)
 have hb0:=Pol.len_pos hb
 have e1:=hd p b hbl
 have e2:=hd p a hal
 have hr:=rep_in b.ld
 have hld:rep b.ld≠0:=fun h0=>Pol.ld_ne hb (rep_eq_zero.1 h0)
 have e3:=hinv p (rep b.ld) (by omega) hr.2
 have hin:=inv_in p (rep b.ld)
 have w1:IntKind.i64.wrap (inv p (rep b.ld))=inv p (rep b.ld):=w64 (by omega)
 have hbx:(pad (row b))[b.len-1]? = some (rep b.ld):=by rw [pad_get _ _ (by omega),row_cf]; rfl
 have hbx':((b.len:Int)-1).toNat=b.len-1:=by omega
 have hbx2:(1:Int)≤(b.len:Int):=by omega
 have hbx3:b.len-1<64:=by omega
 have hz:∀j,cf (pad []) j=0:=fun j=>by rw [pad_cf (by simp),cf_ge (by simp)]
 have hcanz:Can p (pad []):=fun x hx=>by
  obtain ⟨j,_,rfl⟩:=List.mem_map.1 hx
  rw [cf_ge (by simp)]; omega
 have sp:=dv_spec b hb (a.len+1-b.len) (pad (row a)) (pad []) (by rw [pad_length]; omega) (by rw [pad_length]; omega) (pad_can a) (fun j _=>hz j) (fun j hj=>by
  rw [pad_row_cf hal,a.lt_len j (by omega),rep_zero]) hcanz
 have hl1:∀(B:List Int) (c:Nat) (x y:List Int),(dv p (inv p (rep b.ld)) B c (x,y)).1.length=x.length∧(dv p (inv p (rep b.ld)) B c (x,y)).2.length=y.length:=by
  intro B c
  induction c with
  | zero=>exact fun x y=>⟨rfl,rfl⟩
  | succ c ih=>
   intro x y
   rw [dv]
   obtain ⟨i1,i2⟩:=ih (subTo p (cf x (c+B.length-1)*inv p (rep b.ld)%p) B c B.length 0 x) (y.set c (cf x (c+B.length-1)*inv p (rep b.ld)%p))
   exact ⟨by rw [i1,subTo_length],by rw [i2,List.length_set]⟩
 obtain ⟨g1,g2⟩:=hl1 (row b) (a.len+1-b.len) (pad (row a)) (pad [])
 rw [pad_length] at g1 g2
 have l1:=l_sDiv1 (O:=den T A) (b:=pad (row b)) (bl:=b.len) (z:=pad []) (z':=pad []) hin (pad_can b) (pad_length _) hb0 (a.len+1-b.len) (pad (row a)) (pad []) (by omega) (pad_length _) (pad_length _) (pad_can a)
 rw [pad_take hbl] at l1
 generalize dv p (inv p (rep b.ld)) (row b) (a.len+1-b.len) (pad (row a),pad [])=r at *
 obtain ⟨s1,s2,s3,s4⟩:=sp
 have z0:polOf p (pad [])=0:=Pol.ext fun j=>by rw [polOf_c,hz]; rfl
 rw [z0,Gq.zero_mul,Gq.add_zero,polOf_pad hal,Gq.add_comm] at s1
 have hrl:(polOf p r.1).len<b.len:=by
  have:(polOf p r.1).lt (b.len-1):=fun i hi=>by rw [polOf_c,s2 i hi]; rfl
  have:=Pol.len_le this
  omega
 obtain ⟨h1,h2⟩:=Pol.div_mod_eq s1.symm hrl
 rw [h1,h2,←pad_of s3 g1,←pad_of s4 g2]
 have lz:∃n:Int,dn (den T A) 0 (.loop Z2x_L1) ⟨[(0,(.d (.int .i64 p))),(4,.ptr 0 []),(5,.ptr 1 []),(6,.ptr 2 []),(7,.ptr 3 []),(8,.ptr 4 []),(9,(.d (.int .i64 ((b.len:Int)-1)))),(10,(.d (.int .i64 (inv p (rep b.ld))))),(11,(.d (.int .i64 ((a.len:Int)-1))))],[.box false (D.arr 64 .leaf (ints .u8 (pad (row a)))),.box false (D.arr 64 .leaf (ints .u8 (pad (row b)))),.box false (D.arr 64 .leaf (ints .u8 (pad []))),.box false (D.arr 64 .leaf (ints .u8 (pad []))),.box false (D.arr 64 .leaf (ints .u8 (pad [])))]⟩ =
  some (.exit 0,⟨[(0,(.d (.int .i64 p))),(4,.ptr 0 []),(5,.ptr 1 []),(6,.ptr 2 []),(7,.ptr 3 []),(8,.ptr 4 []),(9,(.d (.int .i64 ((b.len:Int)-1)))),(10,(.d (.int .i64 (inv p (rep b.ld))))),(11,(.d (.int .i64 n))),(27,(.d (.bool false)))],[.box false (D.arr 64 .leaf (ints .u8 r.1)),.box false (D.arr 64 .leaf (ints .u8 (pad (row b)))),.box false (D.arr 64 .leaf (ints .u8 (pad []))),.box false (D.arr 64 .leaf (ints .u8 (pad []))),.box false (D.arr 64 .leaf (ints .u8 r.2))]⟩):=by
  by_cases hlt:b.len≤a.len
  ·rw [show ((a.len+1-b.len:Nat):Int)+b.len-2=(a.len:Int)-1 by omega] at l1
   exact ⟨_,l1⟩
  ·rw [show a.len+1-b.len=0 by omega] at l1
   have h3:¬ (b.len:Int)-1≤(b.len:Int)-2:=by omega
   have h4:¬ (b.len:Int)-1≤(a.len:Int)-1:=by omega
   have st:=dn_stop (O:=den T A) (np:=0) (c:=Z2x_L1) (s:=⟨[(0,(.d (.int .i64 p))),(4,.ptr 0 []),(5,.ptr 1 []),(6,.ptr 2 []),(7,.ptr 3 []),(8,.ptr 4 []),(9,(.d (.int .i64 ((b.len:Int)-1)))),(10,(.d (.int .i64 (inv p (rep b.ld))))),(11,(.d (.int .i64 (((0:Nat):Int)+b.len-2))))],[.box false (D.arr 64 .leaf (ints .u8 (pad (row a)))),.box false (D.arr 64 .leaf (ints .u8 (pad (row b)))),.box false (D.arr 64 .leaf (ints .u8 (pad []))),.box false (D.arr 64 .leaf (ints .u8 (pad []))),.box false (D.arr 64 .leaf (ints .u8 (pad [])))]⟩) (s1:=⟨[(0,(.d (.int .i64 p))),(4,.ptr 0 []),(5,.ptr 1 []),(6,.ptr 2 []),(7,.ptr 3 []),(8,.ptr 4 []),(9,(.d (.int .i64 ((b.len:Int)-1)))),(10,(.d (.int .i64 (inv p (rep b.ld))))),(11,(.d (.int .i64 (((0:Nat):Int)+b.len-2)))),(27,(.d (.bool false)))],[.box false (D.arr 64 .leaf (ints .u8 (pad (row a)))),.box false (D.arr 64 .leaf (ints .u8 (pad (row b)))),.box false (D.arr 64 .leaf (ints .u8 (pad []))),.box false (D.arr 64 .leaf (ints .u8 (pad []))),.box false (D.arr 64 .leaf (ints .u8 (pad [])))]⟩) (id:=0) (by
    have h3':¬ (b.len:Int)-1≤((0:Nat):Int)+b.len-2:=by omega
    simp -implicitDefEqProofs only [Int.natCast_zero,Int.zero_add] at h3' ⊢
    simp -implicitDefEqProofs [Z2x_L1,dn_cond,h3'])
   rw [st] at l1
   have l2:=Option.some.inj l1
   injection l2 with _ l3
   injection l3 with _ l4
   injection l4 with l5 l6
   injection l6 with _ l7
   injection l7 with _ l8
   injection l8 with _ l9
   injection l9 with l10 _
   have e5:(D.arr 64 .leaf (ints .u8 (pad (row a))))=(D.arr 64 .leaf (ints .u8 r.1)):=by injection l5
   have e6:(D.arr 64 .leaf (ints .u8 (pad [])))=(D.arr 64 .leaf (ints .u8 r.2)):=by injection l10
   rw [←e5,←e6]
   exact ⟨(a.len:Int)-1,dn_stop (by simp -implicitDefEqProofs [Z2x_L1,dn_cond,h4])⟩
 obtain ⟨n,lz⟩:=lz
 refine ask_of hT rfl ?_
 obtain ⟨r1,r2⟩:=r
 simp only at lz ⊢
 generalize pad (row a)=PA at *
 generalize pad (row b)=PB at *
 simp -implicitDefEqProofs [Z2x,Z2x_B,e1,e2,e3,w1,hbx,hbx',hbx2,hbx3,lz]
end Pe

namespace Pe
open Go Gq
variable {T:Nat→Option Fn} {A:Oracle}
def K_sMod (O:Oracle):Prop:=∀(p:Int) [IsP p] (a b:Fp p),b≠0→a.len≤64→b.len≤64 →
 ask O F36 [(D.int .i64 p),(D.arr 64 .leaf (ints .u8 (pad (row a)))),(D.arr 64 .leaf (ints .u8 (pad (row b))))]=some (D.arr 64 .leaf (ints .u8 (pad (row (a%b)))))
theorem k_sMod (hT:T F36=some Z36) (hd:K_sDivide (den T A)):K_sMod (den T A):=by
 intro p i a b hb h1 h2
 have e:=hd p a b hb h1 h2
 refine ask_of hT rfl ?_
 simp -implicitDefEqProofs [Z36,Z36_B,e]
theorem cf_upd (f:Nat→Int) (m i:Nat) (l:List Int) (j:Nat):cf (upd f m i l) j=if i≤j∧j<i+m∧j<l.length then f j else cf l j:=by
 unfold cf
 rw [List.getD_eq_getElem?_getD,List.getD_eq_getElem?_getD,upd_get]
 split <;> rfl
theorem l_sUp0 {O:Oracle} {p:Int} {a:List Int} {mm z:List Int} {n:Nat} {top:Int} (hal:a.length=64) (hn:n<64):∀(k i:Nat) (cur:List Int),i+k=n→1≤i→cur.length=64 →
 dn O 0 (.loop Z3i_L0) ⟨[(0,(.d (.int .i64 p))),(4,.ptr 0 []),(5,.ptr 1 []),(6,.ptr 2 []),(7,(.d (.int .i64 n))),(8,(.d (.int .i64 top))),(9,.ptr 3 []),(10,(.d (.int .i64 i)))],[.box false (D.arr 64 .leaf (ints .u8 a)),.box false (D.arr 64 .leaf (ints .u8 mm)),.box false (D.arr 64 .leaf (ints .u8 z)),.box false (D.arr 64 .leaf (ints .u8 cur))]⟩ =
  some (.exit 0,⟨[(0,(.d (.int .i64 p))),(4,.ptr 0 []),(5,.ptr 1 []),(6,.ptr 2 []),(7,(.d (.int .i64 n))),(8,(.d (.int .i64 top))),(9,.ptr 3 []),(10,(.d (.int .i64 n))),(26,(.d (.bool false)))],[.box false (D.arr 64 .leaf (ints .u8 a)),.box false (D.arr 64 .leaf (ints .u8 mm)),.box false (D.arr 64 .leaf (ints .u8 z)),.box false (D.arr 64 .leaf (ints .u8 (upd (fun j=>cf a (j-1)) k i cur)))]⟩)
 | 0,i,cur,hi,h1,hc=>by
  obtain rfl:i=n:=by omega
  exact dn_stop (by simp -implicitDefEqProofs [Z3i_L0,dn_cond,upd])
 | k+1,i,cur,hi,h1,hc=>by
  have hlt:i<n:=by omega
  have hi1:i-1<a.length:=by omega
  have hi2:i-1<64:=by omega
  have hi64:i<64:=by omega
  have hic:i<cur.length:=by omega
  have hx:a[i-1]=cf a (i-1):=(cf_lt hi1).symm
  have w1:IntKind.i64.wrap ((i:Int)-1)=((i-1:Nat):Int):=(w64 (x:=(i:Int)-1) (by omega)).trans (by omega)
  have w4:IntKind.i64.wrap ((i:Int)+1)=((i+1:Nat):Int):=(w64 (x:=(i:Int)+1) (by omega)).trans (by omega)
  refine dn_round ?_ (l_sUp0 hal hn k (i+1) (cur.set i (cf a (i-1))) (by omega) (by omega) (by simpa using hc))
  simp -implicitDefEqProofs [Z3i_L0,dn_cond,hlt,hi1,hi2,hi64,hic,hx,w1,w4]
theorem l_sUp1 {O:Oracle} {p q:Int} [IsP p] {b z out:List Int} {n:Nat} {hol:Blk} (hh:hol=.hole) (hb:Can p b) (hbl:b.length=64) (hq:0≤q∧q<p) (hn:n<64) (ho:Can p out):∀(k i:Nat) (cur:List Int),i+k=n→cur.length=64→(∀j,i≤j→cf cur j=cf out j) →
 dn O 0 (.loop Z3i_L1) ⟨[(0,(.d (.int .i64 p))),(5,.ptr 1 []),(6,.ptr 2 []),(7,(.d (.int .i64 n))),(9,.ptr 3 []),(11,(.d (.int .i64 q))),(12,(.d (.int .i64 i)))],[hol,.box false (D.arr 64 .leaf (ints .u8 b)),.box false (D.arr 64 .leaf (ints .u8 z)),.box false (D.arr 64 .leaf (ints .u8 cur))]⟩ =
  some (.exit 2,⟨[(0,(.d (.int .i64 p))),(5,.ptr 1 []),(6,.ptr 2 []),(7,(.d (.int .i64 n))),(9,.ptr 3 []),(11,(.d (.int .i64 q))),(12,(.d (.int .i64 n))),(47,(.d (.bool false)))],[hol,.box false (D.arr 64 .leaf (ints .u8 b)),.box false (D.arr 64 .leaf (ints .u8 z)),.box false (D.arr 64 .leaf (ints .u8 (upd (fun j=>(cf out j-q*cf b j)%p) k i cur)))]⟩)
 | 0,i,cur,hi,hc,hs=>by
  subst hh
  obtain rfl:i=n:=by omega
  exact dn_stop (by simp -implicitDefEqProofs [Z3i_L1,dn_cond,upd])
 | k+1,i,cur,hi,hc,hs=>by
  have hp:=IsP.pos (p:=p)
  have hp7:=IsP.le (p:=p)
  have hp0:p≠0:=by omega
  have hlt:i<n:=by omega
  have hi64:i<64:=by omega
  have hic:i<cur.length:=by omega
  have hib:i<b.length:=by omega
  have hx:cur[i]=cf out i:=by rw [←cf_lt hic]; exact hs i (Nat.le_refl i)
  have hy:b[i]=cf b i:=(cf_lt hib).symm
  have gc:=ho.le hp i
  have gb:=hb.le hp i
  have gm:=mul_small (x:=q) (y:=cf b i) (b:=10) (c:=10) (by omega) (by omega) (by omega)
  have w3:IntKind.i64.wrap (cf out i)=cf out i:=w64 (by omega)
  have w5:IntKind.i64.wrap (cf b i)=cf b i:=w64 (by omega)
  have w6:IntKind.i64.wrap (q*cf b i)=q*cf b i:=w64 (by omega)
  have w7:IntKind.i64.wrap (cf out i-q*cf b i)=cf out i-q*cf b i:=w64 (by omega)
  have hin:=tmod_in (n:=cf out i-q*cf b i) hp
  have w9:IntKind.i64.wrap ((cf out i-q*cf b i).tmod p+p)=(cf out i-q*cf b i).tmod p+p:=w64 (by omega)
  have w10:((cf out i-q*cf b i).tmod p+p).tmod p=(cf out i-q*cf b i)%p:=tmod_tmod hp
  have hlin:0≤(cf out i-q*cf b i)%p∧(cf out i-q*cf b i)%p<p:=⟨Int.emod_nonneg _ (by omega),Int.emod_lt_of_pos _ hp⟩
  have w11:IntKind.u8.wrap ((cf out i-q*cf b i)%p)=(cf out i-q*cf b i)%p:=w8 (by omega)
  have w4:IntKind.i64.wrap ((i:Int)+1)=((i+1:Nat):Int):=(w64 (x:=(i:Int)+1) (by omega)).trans (by omega)
  refine dn_round ?_ (l_sUp1 hh hb hbl hq hn ho k (i+1) (cur.set i ((cf out i-q*cf b i)%p)) (by omega) (by simpa using hc) (fun j hj=>by rw [cf_set,if_neg (by omega)]; exact hs j (by omega)))
  subst hh
  simp -implicitDefEqProofs [Z3i_L1,dn_cond,hlt,hi64,hic,hib,hx,hy,w3,w5,w6,w7,w9,w10,w11,w4,hp0]
def K_sUp (O:Oracle):Prop:=∀(p:Int) [IsP p] (a m:Fp p),m≠0→a.len<m.len→m.len≤64 →
 ask O F3i [(D.int .i64 p),(D.arr 64 .leaf (ints .u8 (pad (row a)))),(D.arr 64 .leaf (ints .u8 (pad (row m))))]=some (D.arr 64 .leaf (ints .u8 (pad (row (Pol.X*a%m)))))
theorem k_sUp (hT:T F3i=some Z3i) (hd:K_sDeg (den T A)) (hinv:K_sInverse (den T A)):K_sUp (den T A):=by
 intro p i a m hm hal hml
 have hp:=IsP.ge (p:=p)
 have hp7:=IsP.le (p:=p)
 have e1:=hd p m hml
 refine ask_of hT rfl ?_
 by_cases h1:m.len=1
 ·have ha:a=0:=Pol.len_zero_iff.1 (by omega)
  subst ha
  rw [Gq.mul_zero,Pol.zero_mod hm,row_zero]
  rw [h1] at e1
  simp -implicitDefEqProofs [Z3i,Z3i_B,dn_cond,e1]
 ·have hm0:=Pol.len_pos hm
  obtain ⟨n,hn⟩:∃n,m.len=n+2:=⟨m.len-2,by omega⟩
  have e1':ask (den T A) F2w [(D.arr 64 .leaf (ints .u8 (pad (row m))))]=some (D.int .i64 ((n+1:Nat))):=by rw [e1,hn]; congr 2; omega
  have hr:=rep_in m.ld
  have hld:rep m.ld≠0:=fun h0=>Pol.ld_ne hm (rep_eq_zero.1 h0)
  have e3:=hinv p (rep m.ld) (by omega) hr.2
  have hin:=inv_in p (rep m.ld)
  have hpa:a.len≤64:=by omega
  have hax:(pad (row a))[n]? = some (rep (a.c n)):=by rw [pad_get _ _ (by omega),row_cf]
  have hmx:(pad (row m))[n+1]? = some (rep m.ld):=by
   rw [pad_get _ _ (by omega),row_cf]
   unfold Pol.ld
   rw [hn]; rfl
  have ha0:=rep_in (a.c n)
  have w0:IntKind.i64.wrap ((n:Int)+1-1)=(n:Int):=(w64 (x:=(n:Int)+1-1) (by omega)).trans (by omega)
  have w0':IntKind.i64.wrap (n:Int)=(n:Int):=w64 (by omega)
  have w1:IntKind.i64.wrap (rep (a.c n))=rep (a.c n):=w64 (by omega)
  have w2:IntKind.i64.wrap (inv p (rep m.ld))=inv p (rep m.ld):=w64 (by omega)
  have gm:=mul_small (x:=rep (a.c n)) (y:=inv p (rep m.ld)) (b:=10) (c:=10) (by omega) (by omega) (by omega)
  have w3:IntKind.i64.wrap (rep (a.c n)*inv p (rep m.ld))=rep (a.c n)*inv p (rep m.ld):=w64 (by omega)
  have w4:(rep (a.c n)*inv p (rep m.ld)).tmod p=rep (a.c n)*inv p (rep m.ld)%p:=Int.tmod_eq_emod_of_nonneg (Int.mul_nonneg ha0.1 hin.1)
  have hq:0≤rep (a.c n)*inv p (rep m.ld)%p∧rep (a.c n)*inv p (rep m.ld)%p<p:=⟨Int.emod_nonneg _ (by omega),Int.emod_lt_of_pos _ (by omega)⟩
  have hqz:zp p (rep (a.c n)*inv p (rep m.ld)%p)=a.c n*Fd.inv m.ld:=by
   rw [zp_mod,zp_mul,zp_rep,finv_rep _ (Pol.ld_ne hm)]
  generalize rep (a.c n)*inv p (rep m.ld)%p=q at *
  have l0:=l_sUp0 (O:=den T A) (p:=p) (a:=pad (row a)) (mm:=pad (row m)) (z:=pad []) (n:=n+1) (top:=rep (a.c n)) (pad_length _) (by omega) n 1 (pad []) (by omega) (Nat.le_refl 1) (pad_length _)
  have hz:∀j,cf (pad []) j=0:=fun j=>by rw [pad_cf (by simp),cf_ge (by simp)]
  have c0:∀j,cf (upd (fun j=>cf (pad (row a)) (j-1)) n 1 (pad [])) j=if 1≤j∧j<n+1 then rep (a.c (j-1)) else 0:=fun j=>by
   rw [cf_upd,hz,pad_length]
   by_cases h:1≤j∧j<n+1
   ·rw [if_pos (by omega),if_pos h,pad_row_cf hpa]
   ·rw [if_neg (by omega),if_neg h]
  have hlen0:(upd (fun j=>cf (pad (row a)) (j-1)) n 1 (pad [])).length=64:=by rw [upd_length,pad_length]
  generalize upd (fun j=>cf (pad (row a)) (j-1)) n 1 (pad [])=out at *
  have hcan0:Can p out:=Can.of_cf fun j _=>by rw [c0]; split; exact rep_in _; omega
  have l1:=l_sUp1 (O:=den T A) (p:=p) (q:=q) (b:=pad (row m)) (z:=pad []) (out:=out) (n:=n+1) rfl (pad_can m) (pad_length _) hq (by omega) hcan0 (n+1) 0 out (by omega) hlen0 (fun _ _=>rfl)
  have hres:upd (fun j=>(cf out j-q*cf (pad (row m)) j)%p) (n+1) 0 out=pad (row (Pol.X*a%m)):=by
   have hlenR:(upd (fun j=>(cf out j-q*cf (pad (row m)) j)%p) (n+1) 0 out).length=64:=by rw [upd_length,hlen0]
   have hcR:∀j,cf (upd (fun j=>(cf out j-q*cf (pad (row m)) j)%p) (n+1) 0 out) j=if j<n+1 then (cf out j-q*rep (m.c j))%p else 0:=fun j=>by
    rw [cf_upd,hlen0]
    by_cases h:j<n+1
    ·rw [if_pos (by omega),if_pos h,pad_row_cf hml]
    ·rw [if_neg (by omega),if_neg h,c0,if_neg (by omega)]
   have hcanR:Can p (upd (fun j=>(cf out j-q*cf (pad (row m)) j)%p) (n+1) 0 out):=Can.of_cf fun j _=>by
    rw [hcR]; split
    ·exact ⟨Int.emod_nonneg _ (by omega),Int.emod_lt_of_pos _ (by omega)⟩
    ·omega
   rw [pad_of hcanR hlenR]
   congr 2
   symm
   refine (Pol.div_mod_eq (q:=Pol.C (zp p q)) ?_ ?_).2
   ·refine Pol.ext fun j=>?_
    rw [Pol.c_add,Pol.c_Cmul,Pol.c_Xmul,polOf_c,hcR]
    rcases Nat.lt_trichotomy j (n+1) with h | h | h
    ·rw [if_pos h,zp_mod,zp_sub,zp_mul,zp_rep,c0]
     by_cases hj:j=0
     ·subst hj
      rw [if_pos rfl,if_neg (by omega),zp_zero]
      exact ring_of [zp p q,m.c 0] rfl
     ·rw [if_neg hj,if_pos (by omega),zp_rep]
      exact ring_of [zp p q,m.c j,a.c (j-1)] rfl
    ·subst h
     rw [if_neg (by omega),if_neg (by omega),zp_zero,Gq.add_zero,hqz]
     have e:m.c (n+1)=m.ld:=by unfold Pol.ld; rw [hn]; rfl
     rw [e,Gq.mul_assoc,Gq.mul_comm (Fd.inv m.ld),Fd.mul_inv _ (Pol.ld_ne hm),Gq.mul_one]; rfl
    ·rw [if_neg (by omega),if_neg (by omega),zp_zero,m.lt_len j (by omega),Gq.mul_zero,Gq.add_zero,a.lt_len (j-1) (by omega)]
   ·have:(polOf p (upd (fun j=>(cf out j-q*cf (pad (row m)) j)%p) (n+1) 0 out)).lt (n+1):=fun j hj=>by
     rw [polOf_c,hcR,if_neg (by omega)]; rfl
    have:=Pol.len_le this
    omega
  rw [hres] at l1
  have e0:((0:Nat):Int)=0:=rfl
  have e11:((1:Nat):Int)=1:=rfl
  have en:((n+1:Nat):Int)=(n:Int)+1:=by omega
  rw [e0,en] at l1
  rw [e11,en] at l0
  rw [en] at e1'
  have hp0:p≠0:=by omega
  have hn64:n<64:=by omega
  have hn65:n+1<64:=by omega
  have t1:¬ (n:Int)+1=0:=by omega
  have t2:(0:Int)≤(n:Int)+1:=by omega
  have t3:((n:Int)+1).toNat=n+1:=by omega
  generalize pad (row (Pol.X*a%m))=R at *
  generalize pad (row a)=PA at *
  generalize pad (row m)=PM at *
  simp -implicitDefEqProofs [Z3i,Z3i_B,dn_cond,e1',e3,hax,hmx,w0',w1,w2,w3,w4,l0,l1,hn64,hn65,t1,t2,t3,hp0]
def tailP {p:Int} (b:Fp p) (i:Nat):Fp p:=⟨fun j=>b.c (i+j),b.len,fun j hj=>b.lt_len _ (by omega)⟩
theorem tailP_zero {p:Int} (b:Fp p):tailP b 0=b:=Pol.ext fun j=>by show b.c (0+j)=b.c j; rw [Nat.zero_add]
theorem tailP_top {p:Int} (b:Fp p):tailP b b.len=0:=Pol.ext fun j=>b.lt_len _ (by omega)
theorem tailP_step {p:Int} (b:Fp p) (i:Nat):tailP b i=Pol.X*tailP b (i+1)+Pol.C (b.c i):=Pol.ext fun j=>by
 rw [Pol.c_add,Pol.c_Xmul,Pol.c_C]
 show b.c (i+j)=(if j=0 then 0 else b.c (i+1+(j-1)))+if j=0 then b.c i else 0
 by_cases h:j=0
 ·subst h; rw [if_pos rfl,if_pos rfl,Gq.zero_add]; rfl
 ·rw [if_neg h,if_neg h,Gq.add_zero,show i+1+(j-1)=i+j by omega]
theorem l_sMulMod {O:Oracle} (hu:K_sUp O) (ha:K_sAdd O) (hmo:K_sMod O) {p:Int} [IsP p] {a b m:Fp p} {z:List Int} (hm:m≠0) (hml:m.len≤64) (hal:a.len≤64) (hbl:b.len≤64):∀(n:Nat),n≤b.len →
 dn O 0 (.loop Z38_L0) ⟨[(0,(.d (.int .i64 p))),(5,.ptr 0 []),(6,.ptr 1 []),(7,.ptr 2 []),(8,.ptr 3 []),(9,.ptr 4 []),(10,(.d (.int .i64 ((n:Int)-1))))],[.box false (D.arr 64 .leaf (ints .u8 (pad (row a)))),.box false (D.arr 64 .leaf (ints .u8 (pad (row b)))),.box false (D.arr 64 .leaf (ints .u8 (pad (row m)))),.box false (D.arr 64 .leaf (ints .u8 z)),.box false (D.arr 64 .leaf (ints .u8 (pad (row (a*tailP b n%m)))))]⟩ =
  some (.exit 0,⟨[(0,(.d (.int .i64 p))),(5,.ptr 0 []),(6,.ptr 1 []),(7,.ptr 2 []),(8,.ptr 3 []),(9,.ptr 4 []),(10,(.d (.int .i64 (-1)))),(15,(.d (.bool false)))],[.box false (D.arr 64 .leaf (ints .u8 (pad (row a)))),.box false (D.arr 64 .leaf (ints .u8 (pad (row b)))),.box false (D.arr 64 .leaf (ints .u8 (pad (row m)))),.box false (D.arr 64 .leaf (ints .u8 z)),.box false (D.arr 64 .leaf (ints .u8 (pad (row (a*b%m)))))]⟩)
 | 0,_=>by
  rw [tailP_zero]
  exact dn_stop (by simp -implicitDefEqProofs [Z38_L0,dn_cond])
 | n+1,hn=>by
  have hp:=IsP.pos (p:=p)
  have hp7:=IsP.le (p:=p)
  have hlr:=Pol.len_mod (a*tailP b (n+1)) hm
  have hr:=rep_in (b.c n)
  have e1:=hu p (a*tailP b (n+1)%m) m hm hlr hml
  have hl2:=Pol.len_mod (Pol.X*(a*tailP b (n+1)%m)) hm
  have e2:=ha p (rep (b.c n)) (Pol.X*(a*tailP b (n+1)%m)%m) a (by omega) (by omega) (by omega) hal
  rw [zp_rep] at e2
  have hl3:=Pol.len_add_le (a:=Pol.X*(a*tailP b (n+1)%m)%m) (b:=Pol.C (b.c n)*a) (n:=64) (by omega) (Nat.le_trans (Pol.len_le (Pol.lt_Cmul _ a.lt_len)) hal)
  have e3:=hmo p (Pol.X*(a*tailP b (n+1)%m)%m+Pol.C (b.c n)*a) m hm hl3 hml
  have e4:(Pol.X*(a*tailP b (n+1)%m)%m+Pol.C (b.c n)*a)%m=a*tailP b n%m:=by
   rw [tailP_step b n,Pol.mod_eq_iff hm,Quo.mk_add,Pol.mk_mod,Quo.mk_mul,Pol.mk_mod,←Quo.mk_mul,←Quo.mk_add]
   congr 1
   exact ring_of [Pol.X,a,tailP b (n+1),Pol.C (b.c n)] rfl
  rw [e4] at e3
  have t0:(((n+1:Nat):Int)-1)=(n:Int):=by omega
  rw [t0]
  have hn64:n<64:=by omega
  have hx:(pad (row b))[n]? = some (rep (b.c n)):=by rw [pad_get _ _ hn64,row_cf]
  have w1:IntKind.i64.wrap (rep (b.c n))=rep (b.c n):=w64 (by omega)
  have w2:IntKind.i64.wrap ((n:Int)-1)=(n:Int)-1:=w64 (by omega)
  refine dn_round ?_ (l_sMulMod hu ha hmo hm hml hal hbl n (by omega))
  generalize pad (row (a*tailP b n%m))=R at *
  generalize pad (row (a*tailP b (n+1)%m))=R1 at *
  generalize pad (row (Pol.X*(a*tailP b (n+1)%m)%m+Pol.C (b.c n)*a))=R2 at *
  generalize pad (row (Pol.X*(a*tailP b (n+1)%m)%m))=R3 at *
  generalize pad (row a)=PA at *
  generalize pad (row b)=PB at *
  generalize pad (row m)=PM at *
  simp -implicitDefEqProofs [Z38_L0,dn_cond,e1,e2,e3,hn64,hx,w1,w2]
def K_sMulMod (O:Oracle):Prop:=∀(p:Int) [IsP p] (a b m:Fp p),m≠0→m.len≤64→a.len≤64→b.len≤64 →
 ask O F38 [(D.int .i64 p),(D.arr 64 .leaf (ints .u8 (pad (row a)))),(D.arr 64 .leaf (ints .u8 (pad (row b)))),(D.arr 64 .leaf (ints .u8 (pad (row m))))]=some (D.arr 64 .leaf (ints .u8 (pad (row (a*b%m)))))
theorem k_sMulMod (hT:T F38=some Z38) (hd:K_sDeg (den T A)) (hu:K_sUp (den T A)) (ha:K_sAdd (den T A)) (hmo:K_sMod (den T A)):K_sMulMod (den T A):=by
 intro p i a b m hm hml hal hbl
 have e1:=hd p b hbl
 have e2:=l_sMulMod (O:=den T A) (z:=pad []) hu ha hmo hm hml hal hbl b.len (Nat.le_refl _)
 rw [tailP_top,Gq.mul_zero,Pol.zero_mod hm,row_zero] at e2
 refine ask_of hT rfl ?_
 generalize pad (row (a*b%m))=R at *
 generalize pad (row a)=PA at *
 generalize pad (row b)=PB at *
 generalize pad (row m)=PM at *
 simp -implicitDefEqProofs [Z38,Z38_B,e1,e2]
theorem l_sPow {O:Oracle} (hmm:K_sMulMod O) {p:Int} [IsP p] {m:Fp p} {z:List Int} {hol:Blk} (hh:hol=.hole) (hm:m≠0) (hml:m.len≤64):∀(n:Nat) (k:Int) (out base:Fp p),0≤k→k.toNat<2^n→k<4611686018427387904→out.len<m.len→base.len<m.len→∃base':List Int,
 dn O 0 (.loop Z3e_L0) ⟨[(0,(.d (.int .i64 p))),(2,(.d (.int .i64 k))),(7,.ptr 1 []),(8,.ptr 2 []),(9,.ptr 3 []),(10,.ptr 4 [])],[hol,.box false (D.arr 64 .leaf (ints .u8 (pad (row m)))),.box false (D.arr 64 .leaf (ints .u8 z)),.box false (D.arr 64 .leaf (ints .u8 (pad (row out)))),.box false (D.arr 64 .leaf (ints .u8 (pad (row base))))]⟩ =
  some (.exit 0,⟨[(0,(.d (.int .i64 p))),(2,(.d (.int .i64 0))),(7,.ptr 1 []),(8,.ptr 2 []),(9,.ptr 3 []),(10,.ptr 4 []),(20,(.d (.bool false)))],[hol,.box false (D.arr 64 .leaf (ints .u8 (pad (row m)))),.box false (D.arr 64 .leaf (ints .u8 z)),.box false (D.arr 64 .leaf (ints .u8 (pad (row (out*pw base k.toNat%m))))),.box false (D.arr 64 .leaf (ints .u8 base'))]⟩):=by
 intro n
 induction n with
 | zero=>
  intro k out base hk hn _ ho hb
  obtain rfl:k=0:=by simp at hn; omega
  refine ⟨pad (row base),?_⟩
  have e:out*pw base (0:Int).toNat%m=out:=by
   show out*1%m=out
   rw [Gq.mul_one,Pol.mod_small ho]
  rw [e]
  subst hh
  exact dn_stop (by simp -implicitDefEqProofs [Z3e_L0,dn_cond])
 | succ n ih=>
  intro k out base hk hn hkm ho hb
  by_cases h0:k=0
  ·subst h0
   refine ⟨pad (row base),?_⟩
   have e:out*pw base (0:Int).toNat%m=out:=by
    show out*1%m=out
    rw [Gq.mul_one,Pol.mod_small ho]
   rw [e]
   subst hh
   exact dn_stop (by simp -implicitDefEqProofs [Z3e_L0,dn_cond])
  ·have hkp:0<k:=by omega
   have t1:=hmm p out base m hm hml (by omega) (by omega)
   have t2:=hmm p base base m hm hml (by omega) (by omega)
   have s:=Pol.bin_step (out:=out) (base:=base) hm k.toNat (by omega)
   have hdiv:(k/2).toNat=k.toNat/2:=by omega
   obtain ⟨b',e⟩:=ih (k/2) (if k.toNat%2=1 then out*base%m else out) (base*base%m) (by omega) (by rw [Nat.pow_succ] at hn; omega) (by omega) (by split; exact Pol.len_mod _ hm; exact ho) (Pol.len_mod _ hm)
   rw [hdiv,s] at e
   refine ⟨b',dn_round ?_ e⟩
   subst hh
   have w1:IntKind.i64.wrap (k.tdiv 2)=k/2:=by rw [Int.tdiv_eq_ediv_of_nonneg hk,w64 (by omega)]
   have w2:k.tmod 2=k%2:=Int.tmod_eq_emod_of_nonneg hk
   by_cases hodd:k%2=1
   ·rw [if_pos (show k.toNat%2=1 by omega)]
    generalize pad (row (out*base%m))=R1 at *
    generalize pad (row (base*base%m))=R2 at *
    generalize pad (row out)=R3 at *
    generalize pad (row base)=R4 at *
    generalize pad (row m)=R5 at *
    simp -implicitDefEqProofs [Z3e_L0,dn_cond,hkp,t1,t2,w1,w2,hodd]
   ·rw [if_neg (show ¬ k.toNat%2=1 by omega)]
    generalize pad (row (base*base%m))=R2 at *
    generalize pad (row out)=R3 at *
    generalize pad (row base)=R4 at *
    generalize pad (row m)=R5 at *
    simp -implicitDefEqProofs [Z3e_L0,dn_cond,hkp,t2,w1,w2,hodd]
def K_sPowMod (O:Oracle):Prop:=∀(p:Int) [IsP p] (a:Fp p) (k:Int) (m:Fp p),m≠0→a.len≤64→m.len≤64→0≤k→k<4611686018427387904 →
 ask O F3e [(D.int .i64 p),(D.arr 64 .leaf (ints .u8 (pad (row a)))),(D.int .i64 k),(D.arr 64 .leaf (ints .u8 (pad (row m))))]=some (D.arr 64 .leaf (ints .u8 (pad (row (pw a k.toNat%m)))))
theorem k_sPowMod (hT:T F3e=some Z3e) (h1:K_sOne (den T A)) (hmo:K_sMod (den T A)) (hmm:K_sMulMod (den T A)):K_sPowMod (den T A):=by
 intro p i a k m hm hal hml hk hkm
 have e1:=h1 p
 have e2:=hmo p 1 m hm (by rw [Pol.len_one]; omega) hml
 have e3:=hmo p a m hm hal hml
 obtain ⟨b',e⟩:=l_sPow (O:=den T A) hmm (z:=pad []) (hol:=.hole) rfl hm hml 62 k (1%m) (a%m) hk (by omega) hkm (Pol.len_mod _ hm) (Pol.len_mod _ hm)
 have e4:1%m*pw (a%m) k.toNat%m=pw a k.toNat%m:=by
  rw [Pol.mul_mod_left _ _ hm,Gq.one_mul,Pol.pow_mod _ hm]
 rw [e4] at e
 refine ask_of hT rfl ?_
 generalize pad (row (pw a k.toNat%m))=R at *
 generalize pad (row (1%m))=R1 at *
 generalize pad (row (a%m))=R2 at *
 generalize pad (row (1:Fp p))=R3 at *
 generalize pad (row a)=PA at *
 generalize pad (row m)=PM at *
 simp -implicitDefEqProofs [Z3e,Z3e_B,e1,e2,e3,e]
end Pe

namespace Pe
open Go Gq
section
variable {p:Int} [IsP p]
noncomputable def frW (m:Fp p) (k:Nat):Fp p:=pw Pol.X (p.toNat^k)%m-Pol.X
theorem frW_dv {m q:Fp p} (_hm:m≠0) (hq:Dv q m) (k:Nat):Dv q (frW m k)↔Dv q (frT p k):=by
 have h1:frT p k=frW m k+pw Pol.X (p.toNat^k)/m*m:=by
  have h:=Pol.div_mod (pw Pol.X (p.toNat^k)) m
  show pw Pol.X (p.toNat^k)-Pol.X=pw Pol.X (p.toNat^k)%m-Pol.X+pw Pol.X (p.toNat^k)/m*m
  generalize pw Pol.X (p.toNat^k)%m=R at *
  generalize pw Pol.X (p.toNat^k)/m=Q at *
  rw [h]
  exact ring_of [Q,m,R,Pol.X] rfl
 have h2:Dv q (pw Pol.X (p.toNat^k)/m*m):=hq.mul_left _
 constructor
 ·intro h; rw [h1]; exact h.add h2
 ·intro h
  have:=h.sub h2
  rw [h1] at this
  have e:frW m k+pw Pol.X (p.toNat^k)/m*m-pw Pol.X (p.toNat^k)/m*m=frW m k:=ring_of [frW m k,pw Pol.X (p.toNat^k)/m,m] rfl
  rwa [e] at this
theorem irr_test {m:Fp p} (h2:2≤m.len) (h13:m.len≤13):(∀k,1≤k→2*k≤m.len-1→(Pol.gcd m (frW m k)).len=1)↔Irr m:=by
 have hm:m≠0:=fun h=>by rw [h,Pol.len_zero] at h2; omega
 have small:∀d,d≤12→p^d<1000000000000:=fun d hd=>by
  have h1:=ipow_mono (p:=p) (by have:=IsP.pos (p:=p); omega) hd
  have h7:=ppow_le (p:=p) (n:=12) (by omega)
  omega
 constructor
 ·intro h
  refine irr_of_noSmall (n:=(m.len-1)/2+1) (fun q hq hd=>?_) h2 (by omega)
  rcases Nat.lt_or_ge ((m.len-1)/2+1) q.len with g | g
  ·omega
  ·exfalso
   have hl:=hq.len
   have h1:=h (q.len-1) (by omega) (by omega)
   have h3:Dv q (frT p (q.len-1)):=irr_frT hq (by omega) (small _ (by omega))
   have h4:=Pol.dv_gcd (.inl hm) hd ((frW_dv hm hd _).2 h3)
   have h5:=h4.len (fun h0=>by rw [h0,Pol.len_zero] at h1; omega)
   omega
 ·intro hi k hk hk2
  by_cases hd:Dv m (frW m k)
  ·have h3:=(frW_dv hm (Dv.refl m) k).1 hd
   have:=irr_frT_le hi (d:=m.len-1) (by omega) (small _ (by omega)) hk h3
   omega
  ·obtain ⟨u,v,e⟩:=hi.coprime hd
   have h1:=Pol.gcd_dv_left (a:=m) (b:=frW m k) (.inl hm)
   have h3:=Pol.gcd_dv_right (a:=m) (b:=frW m k) (.inl hm)
   have h4:Dv (Pol.gcd m (frW m k)) 1:=by
    rw [←e]
    exact (h1.mul_left u).add (h3.mul_left v)
   have h5:=h4.len Pol.one_ne
   rw [Pol.len_one] at h5
   have h6:=Pol.len_pos (Pol.gcd_monic (a:=m) (b:=frW m k) (.inl hm)).2
   omega
theorem fac_irr {m:Fp p} (hi:Irr m) (hm:Monic m):IsFac m [(m,1)] where
 ok:=⟨fun x hx=>by simp only [List.mem_singleton] at hx; subst hx; exact ⟨hi,hm,Nat.le_refl 1⟩,List.pairwise_singleton _ _⟩
 sorted:=List.pairwise_singleton _ _
 eq:=by
  rw [hm.1,Pol.C_one,Gq.one_mul]
  show m=pw m 1*1
  rw [pw_1,Gq.mul_one]
theorem irr_fac {m:Fp p} {L:Facs p} (hm:Monic m) (h:IsFac m L):(∃q,L=[(q,1)])↔Irr m:=by
 constructor
 ·rintro ⟨q,rfl⟩
  have e:=h.eq
  rw [hm.1,Pol.C_one,Gq.one_mul] at e
  have e2:prodF [(q,1)]=q:=by
   show pw q 1*1=q
   rw [pw_1,Gq.mul_one]
  rw [e2] at e
  rw [e]
  exact (h.ok.irr (q,1) (by simp)).1
 ·intro hi
  exact ⟨m,h.unique hm.2 (fac_irr hi hm)⟩
end
end Pe

namespace Pe
open Go Gq
variable {T:Nat→Option Fn} {A:Oracle}
section
variable {p:Int}
def lowP (a:Fp p) (i:Nat):Fp p:=⟨fun n=>if n<i then a.c n else 0,i,fun n hn=>if_neg (by omega)⟩
theorem lowP_c (a:Fp p) (i n:Nat):(lowP a i).c n=if n<i then a.c n else 0:=rfl
theorem lowP_zero (a:Fp p):lowP a 0=0:=Pol.ext fun n=>by rw [lowP_c,if_neg (by omega)]; rfl
theorem lowP_top (a:Fp p):lowP a a.len=a:=Pol.ext fun n=>by
 rw [lowP_c]
 split
 ·rfl
 ·rename_i h; exact (a.lt_len n (by omega)).symm
end
section
variable {p:Int} [IsP p]
theorem mo_c (k:Zp p) (n i:Nat):(Pol.mo k n).c i=if i=n then k else 0:=rfl
theorem lowP_succ (a:Fp p) (i:Nat):lowP a (i+1)=lowP a i+Pol.mo (a.c i) i:=Pol.ext fun n=>by
 rw [Pol.c_add,lowP_c,lowP_c,mo_c]
 by_cases h:n=i
 ·subst h; rw [if_pos (by omega),if_neg (by omega),if_pos rfl,Gq.zero_add]
 ·rw [if_neg h,Gq.add_zero]
  by_cases h2:n<i
  ·rw [if_pos (by omega),if_pos h2]
  ·rw [if_neg (by omega),if_neg h2]
theorem mo_zero (n:Nat):(Pol.mo 0 n:Fp p)=0:=Pol.ext fun i=>by rw [mo_c]; split <;> rfl
theorem mo_mo (k l:Zp p) (n m:Nat):(Pol.mo k n*Pol.mo l m:Fp p)=Pol.mo (k*l) (n+m):=Pol.ext fun i=>by
 rw [c_momul',mo_c,mo_c]
 by_cases h:n≤i
 ·rw [if_pos h]
  by_cases h2:i-n=m
  ·rw [if_pos h2,if_pos (by omega)]
  ·rw [if_neg h2,if_neg (by omega),Gq.mul_zero]
 ·rw [if_neg h,if_neg (by omega)]
theorem polOf_add_set {cur:List Int} {k:Nat} (h:k<cur.length) (t:Int):polOf p (cur.set k ((cf cur k+t)%p))=polOf p cur+Pol.mo (zp p t) k:=Pol.ext fun j=>by
 rw [Pol.c_add,polOf_c,polOf_c,cf_set,mo_c]
 by_cases h1:j=k
 ·subst h1
  rw [if_pos ⟨rfl,h⟩,if_pos rfl,zp_mod,zp_add]
 ·rw [if_neg (by omega),if_neg h1,Gq.add_zero]
end
theorem l_sTm0 {O:Oracle} {p:Int} [IsP p] {a b:Fp p} {z:List Int} {n i:Nat} (hn:n<64) (hi:i<a.len) (hal:a.len≤64) (hbl:b.len≤64) (hab:a.len+b.len≤65) (hb1:0<b.len) (hai:a.c i≠0) {P:Fp p} {vn:V} (hvn:vn.refs=[]):∀(m j:Nat) (cur:List Int),j+m=b.len→cur.length=64→Can p cur→polOf p cur=P+Pol.mo (a.c i) i*lowP b j→∃cur':List Int,cur'.length=64∧Can p cur'∧polOf p cur'=P+Pol.mo (a.c i) i*b ∧
 dn O 0 (.loop Z3h_L0) ⟨[(0,(.d (.int .i64 p))),(4,.ptr 0 []),(5,.ptr 1 []),(6,.ptr 2 []),(8,vn),(9,(.d (.int .i64 (((b.len-1:Nat):Int))))),(10,.ptr 3 []),(11,(.d (.int .i64 i))),(12,(.d (.int .i64 j)))],[.box false (D.arr 64 .leaf (ints .u8 (pad (row a)))),.box false (D.arr 64 .leaf (ints .u8 (pad (row b)))),.box false (D.arr 64 .leaf (ints .u8 z)),.box false (D.arr 64 .leaf (ints .u8 cur))]⟩ =
  some (.exit 2,⟨[(0,(.d (.int .i64 p))),(4,.ptr 0 []),(5,.ptr 1 []),(6,.ptr 2 []),(8,vn),(9,(.d (.int .i64 (((b.len-1:Nat):Int))))),(10,.ptr 3 []),(11,(.d (.int .i64 i))),(12,(.d (.int .i64 b.len))),(43,(.d (.bool false)))],[.box false (D.arr 64 .leaf (ints .u8 (pad (row a)))),.box false (D.arr 64 .leaf (ints .u8 (pad (row b)))),.box false (D.arr 64 .leaf (ints .u8 z)),.box false (D.arr 64 .leaf (ints .u8 cur'))]⟩)
 | 0,j,cur,hj,hc,hcan,he=>by
  obtain rfl:j=b.len:=by omega
  rw [lowP_top] at he
  have hlt:¬ (b.len:Int)≤((b.len-1:Nat):Int):=by omega
  refine ⟨cur,hc,hcan,he,dn_stop ?_⟩
  generalize ((b.len-1:Nat):Int)=m1 at *
  generalize pad (row a)=PA at *
  generalize pad (row b)=PB at *
  simp -implicitDefEqProofs [Z3h_L0,dn_cond,hlt,hvn]
 | m+1,j,cur,hj,hc,hcan,he=>by
  have hp:=IsP.pos (p:=p)
  have hp7:=IsP.le (p:=p)
  have hp0:p≠0:=by omega
  have hlt:(j:Int)≤((b.len-1:Nat):Int):=by omega
  have hi64:i<64:=by omega
  have hj64:j<64:=by omega
  have hij:i+j<64:=by omega
  have hs0:(0:Int)≤(i:Int)+j:=by omega
  have hs1:((i:Int)+j).toNat=i+j:=by omega
  have hx:(pad (row a))[i]? = some (rep (a.c i)):=by rw [pad_get _ _ hi64,row_cf]
  have hy:(pad (row b))[j]? = some (rep (b.c j)):=by rw [pad_get _ _ hj64,row_cf]
  have hx0:rep (a.c i)≠0:=fun h=>hai (rep_eq_zero.1 h)
  have hr1:=rep_in (a.c i)
  have hr2:=rep_in (b.c j)
  have hkc:i+j<cur.length:=by omega
  have hw:cur[i+j]=cf cur (i+j):=(cf_lt hkc).symm
  have gc:=hcan.le hp (i+j)
  have gm:=mul_small (x:=rep (a.c i)) (y:=rep (b.c j)) (b:=10) (c:=10) (by omega) (by omega) (by omega)
  have gm0:=Int.mul_nonneg hr1.1 hr2.1
  have w0:IntKind.i64.wrap ((i:Int)+j)=((i+j:Nat):Int):=(w64 (x:=(i:Int)+j) (by omega)).trans (by omega)
  have w1:IntKind.i64.wrap (rep (a.c i))=rep (a.c i):=w64 (by omega)
  have w2:IntKind.i64.wrap (rep (b.c j))=rep (b.c j):=w64 (by omega)
  have w3:IntKind.i64.wrap (cf cur (i+j))=cf cur (i+j):=w64 (by omega)
  have w4:IntKind.i64.wrap (rep (a.c i)*rep (b.c j))=rep (a.c i)*rep (b.c j):=w64 (by omega)
  have w5:IntKind.i64.wrap (cf cur (i+j)+rep (a.c i)*rep (b.c j))=cf cur (i+j)+rep (a.c i)*rep (b.c j):=w64 (by omega)
  have w6:(cf cur (i+j)+rep (a.c i)*rep (b.c j)).tmod p=(cf cur (i+j)+rep (a.c i)*rep (b.c j))%p:=Int.tmod_eq_emod_of_nonneg (by omega)
  have hin:=Int.emod_nonneg (cf cur (i+j)+rep (a.c i)*rep (b.c j)) hp0
  have hin2:=Int.emod_lt_of_pos (cf cur (i+j)+rep (a.c i)*rep (b.c j)) hp
  have w7:IntKind.u8.wrap ((cf cur (i+j)+rep (a.c i)*rep (b.c j))%p)=(cf cur (i+j)+rep (a.c i)*rep (b.c j))%p:=w8 (by omega)
  have w8':IntKind.i64.wrap ((j:Int)+1)=((j+1:Nat):Int):=(w64 (x:=(j:Int)+1) (by omega)).trans (by omega)
  have hnew:polOf p (cur.set (i+j) ((cf cur (i+j)+rep (a.c i)*rep (b.c j))%p))=P+Pol.mo (a.c i) i*lowP b (j+1):=by
   rw [polOf_add_set hkc,he,zp_mul,zp_rep,zp_rep,lowP_succ,Gq.mul_add,mo_mo,Gq.add_assoc]
  have hcan':Can p (cur.set (i+j) ((cf cur (i+j)+rep (a.c i)*rep (b.c j))%p)):=fun x hx=>by
   rcases List.mem_or_eq_of_mem_set hx with h | rfl
   ·exact hcan x h
   ·exact ⟨hin,hin2⟩
  obtain ⟨cur',g1,g2,g3,g4⟩:=l_sTm0 (O:=O) (z:=z) hn hi hal hbl hab hb1 hai hvn m (j+1) (cur.set (i+j) ((cf cur (i+j)+rep (a.c i)*rep (b.c j))%p)) (by omega) (by rw [List.length_set]; exact hc) hcan' hnew
  have hs:ints .u8 (cur.set (i+j) ((cf cur (i+j)+rep (a.c i)*rep (b.c j))%p))=(ints .u8 cur).set (i+j) (D.int .u8 ((cf cur (i+j)+rep (a.c i)*rep (b.c j))%p)):=by unfold ints; rw [List.map_set]
  rw [hs] at g4
  refine ⟨cur',g1,g2,g3,dn_round ?_ g4⟩
  generalize (cf cur (i+j)+rep (a.c i)*rep (b.c j))%p=W at *
  generalize ((b.len-1:Nat):Int)=m1 at *
  generalize pad (row a)=PA at *
  generalize pad (row b)=PB at *
  simp -implicitDefEqProofs [Z3h_L0,dn_cond,hlt,hi64,hj64,hij,hs0,hs1,hx,hy,hx0,hc,hw,w0,w1,w2,w3,w4,w5,w6,w7,w8',hp0,hvn]
theorem l_sTm1 {O:Oracle} {p:Int} [IsP p] {a b:Fp p} {z:List Int} (hal:a.len≤64) (hbl:b.len≤64) (hab:a.len+b.len≤65) (ha1:0<a.len) (hb1:0<b.len):∀(m i:Nat) (cur:List Int),i+m=a.len→cur.length=64→Can p cur→polOf p cur=lowP a i*b→∃cur':List Int,cur'.length=64∧Can p cur'∧polOf p cur'=a*b ∧
 dn O 0 (.loop Z3h_L1) ⟨[(0,(.d (.int .i64 p))),(4,.ptr 0 []),(5,.ptr 1 []),(6,.ptr 2 []),(8,(.d (.int .i64 (((a.len-1:Nat):Int))))),(9,(.d (.int .i64 (((b.len-1:Nat):Int))))),(10,.ptr 3 []),(11,(.d (.int .i64 i)))],[.box false (D.arr 64 .leaf (ints .u8 (pad (row a)))),.box false (D.arr 64 .leaf (ints .u8 (pad (row b)))),.box false (D.arr 64 .leaf (ints .u8 z)),.box false (D.arr 64 .leaf (ints .u8 cur))]⟩ =
  some (.exit 0,⟨[(0,(.d (.int .i64 p))),(4,.ptr 0 []),(5,.ptr 1 []),(6,.ptr 2 []),(8,(.d (.int .i64 (((a.len-1:Nat):Int))))),(9,(.d (.int .i64 (((b.len-1:Nat):Int))))),(10,.ptr 3 []),(11,(.d (.int .i64 a.len))),(32,(.d (.bool false)))],[.box false (D.arr 64 .leaf (ints .u8 (pad (row a)))),.box false (D.arr 64 .leaf (ints .u8 (pad (row b)))),.box false (D.arr 64 .leaf (ints .u8 z)),.box false (D.arr 64 .leaf (ints .u8 cur'))]⟩)
 | 0,i,cur,hi,hc,hcan,he=>by
  obtain rfl:i=a.len:=by omega
  rw [lowP_top] at he
  have hlt:¬ (a.len:Int)≤((a.len-1:Nat):Int):=by omega
  refine ⟨cur,hc,hcan,he,dn_stop ?_⟩
  generalize ((b.len-1:Nat):Int)=m1 at *
  generalize ((a.len-1:Nat):Int)=n1 at *
  generalize pad (row a)=PA at *
  generalize pad (row b)=PB at *
  simp -implicitDefEqProofs [Z3h_L1,dn_cond,hlt]
 | m+1,i,cur,hi,hc,hcan,he=>by
  have hlt:(i:Int)≤((a.len-1:Nat):Int):=by omega
  have hi64:i<64:=by omega
  have w8':IntKind.i64.wrap ((i:Int)+1)=((i+1:Nat):Int):=(w64 (x:=(i:Int)+1) (by omega)).trans (by omega)
  have hx:(pad (row a))[i]? = some (rep (a.c i)):=by rw [pad_get _ _ hi64,row_cf]
  by_cases hai:a.c i=0
  ·have hr:rep (a.c i)=0:=rep_eq_zero.2 hai
   have he':polOf p cur=lowP a (i+1)*b:=by rw [lowP_succ,hai,mo_zero,Gq.add_zero]; exact he
   obtain ⟨cur',g1,g2,g3,g4⟩:=l_sTm1 (O:=O) (z:=z) hal hbl hab ha1 hb1 m (i+1) cur (by omega) hc hcan he'
   rw [hr] at hx
   have hin:dn O 0 (.loop Z3h_L0) ⟨[(0,(.d (.int .i64 p))),(4,.ptr 0 []),(5,.ptr 1 []),(6,.ptr 2 []),(8,(.d (.int .i64 (((a.len-1:Nat):Int))))),(9,(.d (.int .i64 (((b.len-1:Nat):Int))))),(10,.ptr 3 []),(11,(.d (.int .i64 i))),(12,(.d (.int .i64 0)))],[.box false (D.arr 64 .leaf (ints .u8 (pad (row a)))),.box false (D.arr 64 .leaf (ints .u8 (pad (row b)))),.box false (D.arr 64 .leaf (ints .u8 z)),.box false (D.arr 64 .leaf (ints .u8 cur))]⟩ =
    some (.exit 2,⟨[(0,(.d (.int .i64 p))),(4,.ptr 0 []),(5,.ptr 1 []),(6,.ptr 2 []),(8,(.d (.int .i64 (((a.len-1:Nat):Int))))),(9,(.d (.int .i64 (((b.len-1:Nat):Int))))),(10,.ptr 3 []),(11,(.d (.int .i64 i))),(12,(.d (.int .i64 0))),(43,(.d (.bool false)))],[.box false (D.arr 64 .leaf (ints .u8 (pad (row a)))),.box false (D.arr 64 .leaf (ints .u8 (pad (row b)))),.box false (D.arr 64 .leaf (ints .u8 z)),.box false (D.arr 64 .leaf (ints .u8 cur))]⟩):=by
    refine dn_stop ?_
    generalize b.len-1=m1 at *
    generalize ((a.len-1:Nat):Int)=n1 at *
    generalize pad (row a)=PA at *
    generalize pad (row b)=PB at *
    simp -implicitDefEqProofs [Z3h_L0,dn_cond,hi64,hx]
   refine ⟨cur',g1,g2,g3,dn_round ?_ g4⟩
   generalize ((b.len-1:Nat):Int)=m1 at *
   generalize ((a.len-1:Nat):Int)=n1 at *
   generalize pad (row a)=PA at *
   generalize pad (row b)=PB at *
   simp -implicitDefEqProofs [Z3h_L1,dn_cond,hlt,hin,w8']
  ·obtain ⟨cur1,k1,k2,k3,k4⟩:=l_sTm0 (O:=O) (z:=z) (n:=0) (i:=i) (by omega) (by omega) hal hbl hab hb1 hai (P:=lowP a i*b) (vn:=(.d (.int .i64 (((a.len-1:Nat):Int))))) rfl b.len 0 cur (Nat.zero_add _) hc hcan (by rw [lowP_zero,Gq.mul_zero,Gq.add_zero]; exact he)
   have e00:((0:Nat):Int)=0:=rfl
   rw [e00] at k4
   have he':polOf p cur1=lowP a (i+1)*b:=by
    rw [k3,lowP_succ]
    exact ring_of [lowP a i,b,Pol.mo (a.c i) i] rfl
   obtain ⟨cur',g1,g2,g3,g4⟩:=l_sTm1 (O:=O) (z:=z) hal hbl hab ha1 hb1 m (i+1) cur1 (by omega) k1 k2 he'
   refine ⟨cur',g1,g2,g3,dn_round ?_ g4⟩
   generalize ((b.len-1:Nat):Int)=m1 at *
   generalize ((a.len-1:Nat):Int)=n1 at *
   generalize pad (row a)=PA at *
   generalize pad (row b)=PB at *
   simp -implicitDefEqProofs [Z3h_L1,dn_cond,hlt,k4,w8']
def K_sTimes (O:Oracle):Prop:=∀(p:Int) [IsP p] (a b:Fp p),a.len≤64→b.len≤64→(a*b).len≤64 →
 ask O F3h [(D.int .i64 p),(D.arr 64 .leaf (ints .u8 (pad (row a)))),(D.arr 64 .leaf (ints .u8 (pad (row b))))]=some (.tup [(D.arr 64 .leaf (ints .u8 (pad (row (a*b))))),(D.bool true)])
theorem k_sTimes (hT:T F3h=some Z3h) (hd:K_sDeg (den T A)):K_sTimes (den T A):=by
 intro p i a b hal hbl hab
 have e1:=hd p a hal
 have e2:=hd p b hbl
 refine ask_of hT rfl ?_
 by_cases ha:a=0
 ·subst ha
  rw [Gq.zero_mul,row_zero]
  rw [Pol.len_zero,row_zero] at e1
  generalize pad (row b)=PB at *
  simp -implicitDefEqProofs [Z3h,Z3h_B,dn_cond,e1,e2,List.replicate]
 ·have ha1:=Pol.len_pos ha
  by_cases hb:b=0
  ·subst hb
   rw [Gq.mul_zero,row_zero]
   rw [Pol.len_zero,row_zero] at e2
   have ha2:¬ ((a.len:Int)-1<0):=by omega
   generalize pad (row a)=PA at *
   simp -implicitDefEqProofs [Z3h,Z3h_B,dn_cond,e1,e2,ha2,List.replicate]
  ·have hb1:=Pol.len_pos hb
   have hm:=Pol.len_mul ha hb
   rw [show ((a.len:Int)-1)=((a.len-1:Nat):Int) by omega] at e1
   rw [show ((b.len:Int)-1)=((b.len-1:Nat):Int) by omega] at e2
   have w1:IntKind.i64.wrap (((a.len-1:Nat):Int)+((b.len-1:Nat):Int))=((a.len-1+(b.len-1):Nat):Int):=(w64 (by omega)).trans (by omega)
   have w2:¬ ((63:Int)<((a.len-1+(b.len-1):Nat):Int)):=by omega
   obtain ⟨cur',g1,g2,g3,g4⟩:=l_sTm1 (O:=den T A) (z:=pad []) hal hbl (by omega) ha1 hb1 a.len 0 (pad []) (Nat.zero_add _) (pad_length _) (by
    have:=pad_can (0:Fp p); rwa [row_zero] at this) (by
    rw [lowP_zero,Gq.zero_mul]
    have:=polOf_pad (p:=p) (a:=0) (by rw [Pol.len_zero]; omega)
    rwa [row_zero] at this)
   have e00:((0:Nat):Int)=0:=rfl
   rw [e00] at g4
   have hcur:cur'=pad (row (a*b)):=by rw [pad_of g2 g1,g3]
   rw [hcur] at g4
   have n1:¬ (((a.len-1:Nat):Int)<0):=by omega
   have n2:¬ (((b.len-1:Nat):Int)<0):=by omega
   generalize ((a.len-1+(b.len-1):Nat):Int)=s1 at *
   generalize ((b.len-1:Nat):Int)=m1 at *
   generalize ((a.len-1:Nat):Int)=k1 at *
   generalize pad (row (a*b))=PR at *
   generalize pad (row a)=PA at *
   generalize pad (row b)=PB at *
   simp -implicitDefEqProofs [Z3h,Z3h_B,dn_cond,e1,e2,w1,w2,n1,n2,g4,List.replicate]
structure BzS {p:Int} [IsP p] (A B a b u x v y:Fp p):Prop where
 i:Pol.BzI A B a b u x v y
 la:a.len≤64
 lb:b.len≤64
 lu:u.len≤64
 lv:v.len≤64
 ne:a≠0
theorem BzS.step {p:Int} [IsP p] {A B a b u x v y:Fp p} (h:BzS A B a b u x v y) (hA:A.len≤64) (hB:B.len≤64) (hb:b≠0) :
 BzS A B b (a%b) x (u-a/b*x) y (v-a/b*y)∧x.len≤64∧y.len≤64∧(a/b).len≤64∧(a/b*x).len≤64∧(a/b*y).len≤64∧(a%b).len≤64:=by
 have h1:=h.i.lx
 have h2:=h.i.ly
 have h3:=Pol.len_pos h.ne
 have h4:=Pol.len_pos hb
 have h5:=Pol.len_div_le a hb
 have h6:=Pol.len_mod_le a hb
 obtain ⟨h7,h8⟩:=h.i.qlen hb
 have h9:=h.la
 have hx:x.len≤64:=by omega
 have hy:y.len≤64:=by omega
 exact ⟨⟨h.i.step hb,h.lb,by omega,hx,hy,hb⟩,hx,hy,by omega,by omega,by omega,by omega⟩
theorem r_sBez {O:Oracle} (hdg:K_sDeg O) (hd:K_sDivide O) (ht:K_sTimes O) (ha:K_sAdd O) {p:Int} [IsP p] {z:List Int} {a b u x v y:Fp p} (h0:b≠0) (ha':a.len≤64) (hb:b.len≤64) (hu:u.len≤64) (hv:v.len≤64) (s1:x.len≤64) (s2:y.len≤64) (s3:(a/b).len≤64) (s4:(a/b*x).len≤64) (s5:(a/b*y).len≤64) :
 dn O 0 Z2t_L0 ⟨[(0,(.d (.int .i64 p))),(4,.ptr 0 []),(5,.ptr 1 []),(6,.ptr 2 []),(7,.ptr 3 []),(8,.ptr 4 []),(9,.ptr 5 []),(10,.ptr 6 []),(11,.ptr 7 []),(12,.ptr 8 [])],[.box false (D.arr 64 .leaf (ints .u8 (pad (row a)))),.box false (D.arr 64 .leaf (ints .u8 (pad (row b)))),.box false (D.arr 64 .leaf (ints .u8 z)),.box false (D.arr 64 .leaf (ints .u8 z)),.box false (D.arr 64 .leaf (ints .u8 z)),.box false (D.arr 64 .leaf (ints .u8 (pad (row u)))),.box false (D.arr 64 .leaf (ints .u8 (pad (row x)))),.box false (D.arr 64 .leaf (ints .u8 (pad (row v)))),.box false (D.arr 64 .leaf (ints .u8 (pad (row y)))),.hole,.hole,.hole,.hole,.hole,.hole]⟩ =
  some (.normal,⟨[(0,(.d (.int .i64 p))),(4,.ptr 0 []),(5,.ptr 1 []),(6,.ptr 2 []),(7,.ptr 3 []),(8,.ptr 4 []),(9,.ptr 5 []),(10,.ptr 6 []),(11,.ptr 7 []),(12,.ptr 8 [])],[.box false (D.arr 64 .leaf (ints .u8 (pad (row b)))),.box false (D.arr 64 .leaf (ints .u8 (pad (row (a%b))))),.box false (D.arr 64 .leaf (ints .u8 z)),.box false (D.arr 64 .leaf (ints .u8 z)),.box false (D.arr 64 .leaf (ints .u8 z)),.box false (D.arr 64 .leaf (ints .u8 (pad (row x)))),.box false (D.arr 64 .leaf (ints .u8 (pad (row (u-a/b*x))))),.box false (D.arr 64 .leaf (ints .u8 (pad (row y)))),.box false (D.arr 64 .leaf (ints .u8 (pad (row (v-a/b*y))))),.hole,.hole,.hole,.hole,.hole,.hole]⟩):=by
 have hp:=Pol.len_pos h0
 have e0:=hdg p b hb
 have e1:=hd p a b h0 ha' hb
 have e2:=ht p (a/b) x s3 s1 s4
 have e3:=ha p (-1) u (a/b*x) (by omega) (by omega) hu s4
 have e4:=ht p (a/b) y s3 s2 s5
 have e5:=ha p (-1) v (a/b*y) (by omega) (by omega) hv s5
 rw [sub_comb] at e3 e5
 have hge:¬ ((b.len:Int)-1<0):=by omega
 have hge2:(0:Int)≤(b.len:Int)-1:=by omega
 have hge3:(1:Int)≤(b.len:Int):=by omega
 generalize pad (row (u-a/b*x))=Pux at *
 generalize pad (row (v-a/b*y))=Pvy at *
 generalize pad (row (a/b*x))=Pqx at *
 generalize pad (row (a/b*y))=Pqy at *
 generalize pad (row (a/b))=Pq at *
 generalize pad (row (a%b))=Pr at *
 generalize pad (row a)=Pa at *
 generalize pad (row b)=Pb at *
 generalize pad (row u)=Pu at *
 generalize pad (row x)=Px at *
 generalize pad (row v)=Pv at *
 generalize pad (row y)=Py at *
 simp -implicitDefEqProofs [Z2t_L0,dn_cond,hge3,e0,e1,e2,e3,e4,e5]
theorem l_sBez {O:Oracle} (hdg:K_sDeg O) (hd:K_sDivide O) (ht:K_sTimes O) (ha:K_sAdd O) {p:Int} [IsP p] {A B:Fp p} {z:List Int} (hA:A.len≤64) (hB:B.len≤64):∀(n:Nat) (a b u x v y:Fp p),b.len≤n→BzS A B a b u x v y→∃x' y':List Int,(Pol.bz n a b u x v y).1≠0∧(Pol.bz n a b u x v y).1.len≤64∧(Pol.bz n a b u x v y).2.1.len≤64∧(Pol.bz n a b u x v y).2.2.len≤64 ∧
 dn O 0 (.loop Z2t_L0) ⟨[(0,(.d (.int .i64 p))),(4,.ptr 0 []),(5,.ptr 1 []),(6,.ptr 2 []),(7,.ptr 3 []),(8,.ptr 4 []),(9,.ptr 5 []),(10,.ptr 6 []),(11,.ptr 7 []),(12,.ptr 8 [])],[.box false (D.arr 64 .leaf (ints .u8 (pad (row a)))),.box false (D.arr 64 .leaf (ints .u8 (pad (row b)))),.box false (D.arr 64 .leaf (ints .u8 z)),.box false (D.arr 64 .leaf (ints .u8 z)),.box false (D.arr 64 .leaf (ints .u8 z)),.box false (D.arr 64 .leaf (ints .u8 (pad (row u)))),.box false (D.arr 64 .leaf (ints .u8 (pad (row x)))),.box false (D.arr 64 .leaf (ints .u8 (pad (row v)))),.box false (D.arr 64 .leaf (ints .u8 (pad (row y)))),.hole,.hole,.hole,.hole,.hole,.hole]⟩ =
  some (.exit 0,⟨[(0,(.d (.int .i64 p))),(4,.ptr 0 []),(5,.ptr 1 []),(6,.ptr 2 []),(7,.ptr 3 []),(8,.ptr 4 []),(9,.ptr 5 []),(10,.ptr 6 []),(11,.ptr 7 []),(12,.ptr 8 []),(28,(.d (.bool false)))],[.box false (D.arr 64 .leaf (ints .u8 (pad (row (Pol.bz n a b u x v y).1)))),.box false (D.arr 64 .leaf (ints .u8 (pad []))),.box false (D.arr 64 .leaf (ints .u8 z)),.box false (D.arr 64 .leaf (ints .u8 z)),.box false (D.arr 64 .leaf (ints .u8 z)),.box false (D.arr 64 .leaf (ints .u8 (pad (row (Pol.bz n a b u x v y).2.1)))),.box false (D.arr 64 .leaf (ints .u8 x')),.box false (D.arr 64 .leaf (ints .u8 (pad (row (Pol.bz n a b u x v y).2.2)))),.box false (D.arr 64 .leaf (ints .u8 y')),.hole,.hole,.hole,.hole,.hole,.hole]⟩):=by
 intro n
 have stop:∀(a u x v y:Fp p),dn O 0 (.loop Z2t_L0) ⟨[(0,(.d (.int .i64 p))),(4,.ptr 0 []),(5,.ptr 1 []),(6,.ptr 2 []),(7,.ptr 3 []),(8,.ptr 4 []),(9,.ptr 5 []),(10,.ptr 6 []),(11,.ptr 7 []),(12,.ptr 8 [])],[.box false (D.arr 64 .leaf (ints .u8 (pad (row a)))),.box false (D.arr 64 .leaf (ints .u8 (pad (row (0:Fp p))))),.box false (D.arr 64 .leaf (ints .u8 z)),.box false (D.arr 64 .leaf (ints .u8 z)),.box false (D.arr 64 .leaf (ints .u8 z)),.box false (D.arr 64 .leaf (ints .u8 (pad (row u)))),.box false (D.arr 64 .leaf (ints .u8 (pad (row x)))),.box false (D.arr 64 .leaf (ints .u8 (pad (row v)))),.box false (D.arr 64 .leaf (ints .u8 (pad (row y)))),.hole,.hole,.hole,.hole,.hole,.hole]⟩ =
  some (.exit 0,⟨[(0,(.d (.int .i64 p))),(4,.ptr 0 []),(5,.ptr 1 []),(6,.ptr 2 []),(7,.ptr 3 []),(8,.ptr 4 []),(9,.ptr 5 []),(10,.ptr 6 []),(11,.ptr 7 []),(12,.ptr 8 []),(28,(.d (.bool false)))],[.box false (D.arr 64 .leaf (ints .u8 (pad (row a)))),.box false (D.arr 64 .leaf (ints .u8 (pad []))),.box false (D.arr 64 .leaf (ints .u8 z)),.box false (D.arr 64 .leaf (ints .u8 z)),.box false (D.arr 64 .leaf (ints .u8 z)),.box false (D.arr 64 .leaf (ints .u8 (pad (row u)))),.box false (D.arr 64 .leaf (ints .u8 (pad (row x)))),.box false (D.arr 64 .leaf (ints .u8 (pad (row v)))),.box false (D.arr 64 .leaf (ints .u8 (pad (row y)))),.hole,.hole,.hole,.hole,.hole,.hole]⟩):=by
  intro a u x v y
  have e:=hdg p 0 (by rw [Pol.len_zero]; omega)
  rw [row_zero,Pol.len_zero] at e
  rw [row_zero]
  refine dn_stop ?_
  generalize pad (row a)=Pa
  generalize pad (row u)=Pu
  generalize pad (row x)=Px
  generalize pad (row v)=Pv
  generalize pad (row y)=Py
  simp -implicitDefEqProofs [Z2t_L0,dn_cond,e]
 induction n with
 | zero=>
  intro a b u x v y hn hs
  obtain rfl:=Pol.len_zero_iff.1 (show b.len=0 by omega)
  exact ⟨_,_,hs.ne,hs.la,hs.lu,hs.lv,stop a u x v y⟩
 | succ n ih=>
  intro a b u x v y hn hs
  unfold Pol.bz
  by_cases h0:b=0
  ·subst h0
   rw [if_pos rfl]
   exact ⟨_,_,hs.ne,hs.la,hs.lu,hs.lv,stop a u x v y⟩
  ·rw [if_neg h0]
   obtain ⟨s0,s1,s2,s3,s4,s5,s6⟩:=hs.step hA hB h0
   have hl:=Pol.len_mod a h0
   have hp:=Pol.len_pos h0
   obtain ⟨x',y',g1,g2,g3,g4,e⟩:=ih b (a%b) x (u-a/b*x) y (v-a/b*y) (by omega) s0
   exact ⟨x',y',g1,g2,g3,g4,dn_round (r_sBez hdg hd ht ha h0 hs.la hs.lb hs.lu hs.lv s1 s2 s3 s4 s5) e⟩
theorem l_sBezI {O:Oracle} (hdg:K_sDeg O) (hd:K_sDivide O) (ht:K_sTimes O) (ha:K_sAdd O) {p:Int} [IsP p] {a b:Fp p} {z:List Int} (h:a≠0∨b≠0) (hal:a.len≤64) (hbl:b.len≤64):∃x' y':List Int,(Pol.bz b.len a b 1 0 0 1).1≠0∧(Pol.bz b.len a b 1 0 0 1).1.len≤64∧(Pol.bz b.len a b 1 0 0 1).2.1.len≤64∧(Pol.bz b.len a b 1 0 0 1).2.2.len≤64 ∧
 dn O 0 (.loop Z2t_L0) ⟨[(0,(.d (.int .i64 p))),(4,.ptr 0 []),(5,.ptr 1 []),(6,.ptr 2 []),(7,.ptr 3 []),(8,.ptr 4 []),(9,.ptr 5 []),(10,.ptr 6 []),(11,.ptr 7 []),(12,.ptr 8 [])],[.box false (D.arr 64 .leaf (ints .u8 (pad (row a)))),.box false (D.arr 64 .leaf (ints .u8 (pad (row b)))),.box false (D.arr 64 .leaf (ints .u8 z)),.box false (D.arr 64 .leaf (ints .u8 z)),.box false (D.arr 64 .leaf (ints .u8 z)),.box false (D.arr 64 .leaf (ints .u8 (pad (row (1:Fp p))))),.box false (D.arr 64 .leaf (ints .u8 (pad (row (0:Fp p))))),.box false (D.arr 64 .leaf (ints .u8 (pad (row (0:Fp p))))),.box false (D.arr 64 .leaf (ints .u8 (pad (row (1:Fp p))))),.hole,.hole,.hole,.hole,.hole,.hole]⟩ =
  some (.exit 0,⟨[(0,(.d (.int .i64 p))),(4,.ptr 0 []),(5,.ptr 1 []),(6,.ptr 2 []),(7,.ptr 3 []),(8,.ptr 4 []),(9,.ptr 5 []),(10,.ptr 6 []),(11,.ptr 7 []),(12,.ptr 8 []),(28,(.d (.bool false)))],[.box false (D.arr 64 .leaf (ints .u8 (pad (row (Pol.bz b.len a b 1 0 0 1).1)))),.box false (D.arr 64 .leaf (ints .u8 (pad []))),.box false (D.arr 64 .leaf (ints .u8 z)),.box false (D.arr 64 .leaf (ints .u8 z)),.box false (D.arr 64 .leaf (ints .u8 z)),.box false (D.arr 64 .leaf (ints .u8 (pad (row (Pol.bz b.len a b 1 0 0 1).2.1)))),.box false (D.arr 64 .leaf (ints .u8 x')),.box false (D.arr 64 .leaf (ints .u8 (pad (row (Pol.bz b.len a b 1 0 0 1).2.2)))),.box false (D.arr 64 .leaf (ints .u8 y')),.hole,.hole,.hole,.hole,.hole,.hole]⟩):=by
 by_cases h0:a=0
 ·subst h0
  have hb:=h.resolve_left (fun h=>h rfl)
  have hp:=Pol.len_pos hb
  obtain ⟨k,hk⟩:∃k,b.len=k+1:=⟨b.len-1,by omega⟩
  have h1:(1:Fp p).len=1:=Pol.len_one
  have hz:(0:Fp p).len=0:=Pol.len_zero
  have hq:(0:Fp p)/b=0:=(Pol.div_mod_eq (a:=(0:Fp p)) (b:=b) (q:=0) (r:=0) (by rw [Gq.zero_mul,Gq.zero_add]) (by omega)).1
  have hs0:∀c:Fp p,c-0=c:=fun c=>by rw [Gq.sub_eq,Gq.neg_zero,Gq.add_zero]
  have hr:(0:Fp p)%b=0:=Pol.zero_mod hb
  have e:=r_sBez (z:=z) hdg hd ht ha (a:=0) (b:=b) (u:=1) (x:=0) (v:=0) (y:=1) hb (by omega) hbl (by omega) (by omega) (by omega) (by omega) (by rw [hq]; omega) (by rw [hq,Gq.zero_mul]; omega) (by rw [hq,Gq.zero_mul]; omega)
  rw [hk]
  unfold Pol.bz
  rw [if_neg hb]
  rw [hq,hr,Gq.zero_mul,Gq.zero_mul,hs0,hs0] at e ⊢
  have hi:Pol.BzI (0:Fp p) b b 0 0 1 1 0:=⟨by rw [Gq.zero_mul,Gq.zero_add,Gq.one_mul],by rw [Gq.mul_zero,Gq.zero_mul,Gq.add_zero],.inr (by omega),.inl hz,.inl hz,.inr (by omega),.inl hb⟩
  obtain ⟨x',y',g1,g2,g3,g4,e2⟩:=l_sBez (O:=O) (z:=z) hdg hd ht ha (A:=0) (B:=b) (by omega) hbl k b 0 0 1 1 0 (by omega) ⟨hi,hbl,by omega,by omega,by omega,hb⟩
  exact ⟨x',y',g1,g2,g3,g4,dn_round e e2⟩
 ·exact l_sBez (O:=O) (z:=z) hdg hd ht ha hal hbl b.len a b 1 0 0 1 (Nat.le_refl _) ⟨Pol.BzI.init (.inl h0),hal,hbl,by rw [Pol.len_one]; omega,by rw [Pol.len_zero]; omega,h0⟩
def K_sBezout (O:Oracle):Prop:=∀(p:Int) [IsP p] (a b:Fp p),a≠0∨b≠0→a.len≤64→b.len≤64 →
 ask O F2t [(D.int .i64 p),(D.arr 64 .leaf (ints .u8 (pad (row a)))),(D.arr 64 .leaf (ints .u8 (pad (row b))))]=some (.tup [(D.arr 64 .leaf (ints .u8 (pad (row (Pol.bezout a b).1)))),(D.arr 64 .leaf (ints .u8 (pad (row (Pol.bezout a b).2.1)))),(D.arr 64 .leaf (ints .u8 (pad (row (Pol.bezout a b).2.2))))])
theorem k_sBezout (hT:T F2t=some Z2t) (h1:K_sOne (den T A)) (hdg:K_sDeg (den T A)) (hd:K_sDivide (den T A)) (ht:K_sTimes (den T A)) (ha:K_sAdd (den T A)) (hinv:K_sInverse (den T A)):K_sBezout (den T A):=by
 intro p i a b h0 hal hbl
 have hp:=IsP.ge (p:=p)
 have hp7:=IsP.le (p:=p)
 have e1:=h1 p
 obtain ⟨x',y',g1,g2,g3,g4,e2⟩:=l_sBezI (O:=den T A) (z:=pad []) hdg hd ht ha h0 hal hbl
 unfold Pol.bezout
 have heu:Pol.eu a b=Pol.bz b.len a b 1 0 0 1:=rfl
 rw [heu]
 generalize Pol.bz b.len a b 1 0 0 1=R at *
 obtain ⟨d,u,v⟩:=R
 simp only at g1 g2 g3 g4 e2 ⊢
 rw [row_zero] at e2
 have hd1:=Pol.len_pos g1
 have e3:=hdg p d g2
 rw [show ((d.len:Int)-1)=((d.len-1:Nat):Int) by omega] at e3
 have hi64:d.len-1<64:=by omega
 have hx:(pad (row d))[d.len-1]? = some (rep d.ld):=by rw [pad_get _ _ hi64,row_cf]; rfl
 have hr:=rep_in d.ld
 have hr0:rep d.ld≠0:=fun h=>Pol.ld_ne g1 (rep_eq_zero.1 h)
 have hin:=inv_in p (rep d.ld)
 have e4:=hinv p (rep d.ld) (by omega) hr.2
 have w1:IntKind.i64.wrap (inv p (rep d.ld))=inv p (rep d.ld):=w64 (by omega)
 have z0:(0:Fp p).len≤64:=by rw [Pol.len_zero]; omega
 have e5:=ha p (inv p (rep d.ld)) 0 d (by omega) (by omega) z0 g2
 have e6:=ha p (inv p (rep d.ld)) 0 u (by omega) (by omega) z0 g3
 have e7:=ha p (inv p (rep d.ld)) 0 v (by omega) (by omega) z0 g4
 rw [finv_rep _ (Pol.ld_ne g1),Gq.zero_add,row_zero] at e5 e6 e7
 refine ask_of hT rfl ?_
 generalize pad (row (Pol.C (Fd.inv d.ld)*d))=P1 at *
 generalize pad (row (Pol.C (Fd.inv d.ld)*u))=P2 at *
 generalize pad (row (Pol.C (Fd.inv d.ld)*v))=P3 at *
 generalize pad (row d)=Pd at *
 generalize pad (row u)=Pu at *
 generalize pad (row v)=Pv at *
 generalize pad (row a)=Pa at *
 generalize pad (row b)=Pb at *
 generalize pad (row (1:Fp p))=P0 at *
 generalize d.len-1=n1 at *
 simp -implicitDefEqProofs [Z2t,Z2t_B,e1,e2,e3,e4,e5,e6,e7,hi64,hx,w1,List.replicate]
def K_sGcd (O:Oracle):Prop:=∀(p:Int) [IsP p] (a b:Fp p),a≠0→a.len≤64→b.len≤64 →
 ask O F31 [(D.int .i64 p),(D.arr 64 .leaf (ints .u8 (pad (row a)))),(D.arr 64 .leaf (ints .u8 (pad (row b))))]=some (D.arr 64 .leaf (ints .u8 (pad (row (Pol.gcd a b)))))
theorem k_sGcd (hT:T F31=some Z31) (hdg:K_sDeg (den T A)) (hb:K_sBezout (den T A)):K_sGcd (den T A):=by
 intro p i a b h0 hal hbl
 have e1:=hdg p a hal
 have e2:=hb p a b (.inl h0) hal hbl
 have hp:=Pol.len_pos h0
 have hge:¬ ((a.len:Int)-1<0):=by omega
 refine ask_of hT rfl ?_
 unfold Pol.gcd
 generalize pad (row (Pol.bezout a b).1)=P1 at *
 generalize pad (row (Pol.bezout a b).2.1)=P2 at *
 generalize pad (row (Pol.bezout a b).2.2)=P3 at *
 generalize pad (row a)=Pa at *
 generalize pad (row b)=Pb at *
 generalize (a.len:Int)-1=n1 at *
 simp -implicitDefEqProofs [Z31,Z31_B,dn_cond,e1,e2,hge,List.replicate]
def K_sT (O:Oracle):Prop:=∀(p:Int) [IsP p],ask O F3g []=some (D.arr 64 .leaf (ints .u8 (pad (row (Pol.X:Fp p)))))
theorem k_sT (hT:T F3g=some Z3g):K_sT (den T A):=by
 intro p i
 have e:((pad []).set 0 0).set 1 1=pad [0,1]:=by decide +kernel
 have h0:(pad [])[0]? = some 0:=by decide +kernel
 have h1:(pad [])[1]? = some 0:=by decide +kernel
 rw [row_X]
 refine ask_of hT rfl ?_
 simp -implicitDefEqProofs [Z3g,Z3g_B,e,h0,h1]
open Classical in
theorem l_sIrr {O:Oracle} (hdg:K_sDeg O) (hpw:K_sPowMod O) (hg:K_sGcd O) (ha:K_sAdd O) (ht:K_sT O) {p:Int} [IsP p] {m:Fp p} (hm:m≠0) (hml:m.len≤13) {n:Nat} (hn:n+1=m.len):∀(f k:Nat),1≤k→k+f=n/2+1→∃P':List Int,
 dn O 0 (.loop Z34_L0) ⟨[(0,(.d (.int .i64 p))),(3,.ptr 0 []),(5,(.d (.int .i64 n))),(6,.ptr 1 []),(7,(.d (.int .i64 k)))],[.box false (D.arr 64 .leaf (ints .u8 (pad (row m)))),.box false (D.arr 64 .leaf (ints .u8 (pad (row (pw Pol.X (p.toNat^(k-1))%m)))))]⟩ =
  if ∀k',k≤k'→2*k'≤n→(Pol.gcd m (frW m k')).len=1 then some (.exit 0,⟨[(0,(.d (.int .i64 p))),(3,.ptr 0 []),(5,(.d (.int .i64 n))),(6,.ptr 1 []),(7,(.d (.int .i64 (((n/2+1:Nat):Int))))),(19,(.d (.bool false)))],[.box false (D.arr 64 .leaf (ints .u8 (pad (row m)))),.box false (D.arr 64 .leaf (ints .u8 P'))]⟩)
  else some (.ret,⟨[(4,(.d (.bool false)))],[.hole,.hole]⟩)
 | 0,k,hk,hf=>by
  obtain rfl:k=n/2+1:=by omega
  refine ⟨pad (row (pw Pol.X (p.toNat^(n/2+1-1))%m)),?_⟩
  rw [if_pos (fun k' h1 h2=>by omega)]
  have w1:IntKind.i64.wrap (2*((n/2+1:Nat):Int))=2*((n/2+1:Nat):Int):=w64 (by omega)
  have hlt:¬ (2*((n/2+1:Nat):Int)≤n):=by omega
  refine dn_stop ?_
  generalize ((n/2+1:Nat):Int)=k1 at *
  generalize pad (row (pw Pol.X (p.toNat^(n/2+1-1))%m))=P1 at *
  generalize pad (row m)=Pm at *
  simp -implicitDefEqProofs [Z34_L0,dn_cond,w1,hlt]
 | f+1,k,hk,hf=>by
  have hp:=IsP.pos (p:=p)
  have hp7:=IsP.le (p:=p)
  have w1:IntKind.i64.wrap (2*(k:Int))=2*(k:Int):=w64 (by omega)
  have hlt:2*(k:Int)≤n:=by omega
  have w4:IntKind.i64.wrap ((k:Int)+1)=((k+1:Nat):Int):=(w64 (x:=(k:Int)+1) (by omega)).trans (by omega)
  have hl1:=Pol.len_mod (pw Pol.X (p.toNat^(k-1))) hm
  have hl2:=Pol.len_mod (pw Pol.X (p.toNat^k)) hm
  have e1:=hpw p (pw Pol.X (p.toNat^(k-1))%m) p m hm (by omega) (by omega) (by omega) (by omega)
  have e2:pw (pw Pol.X (p.toNat^(k-1))%m) p.toNat%m=pw Pol.X (p.toNat^k)%m:=by
   rw [Pol.pow_mod _ hm,pw_pw,←Nat.pow_succ,show (k-1).succ=k by omega]
  rw [e2] at e1
  have e3:=ht p
  have hX:(Pol.X:Fp p).len≤64:=by rw [Pol.len_X]; omega
  have e4:=ha p (-1) (pw Pol.X (p.toNat^k)%m) Pol.X (by omega) (by omega) (by omega) hX
  rw [sub_comb] at e4
  have e4':pw Pol.X (p.toNat^k)%m-Pol.X=frW m k:=rfl
  rw [e4'] at e4
  have hl3:(frW m k).len≤64:=Pol.len_sub_le (by omega) hX
  have e5:=hg p m (frW m k) hm (by omega) hl3
  have hgm:=Pol.gcd_monic (a:=m) (b:=frW m k) (.inl hm)
  have hgl:=(Pol.gcd_dv_left (a:=m) (b:=frW m k) (.inl hm)).len hm
  have e6:=hdg p (Pol.gcd m (frW m k)) (by omega)
  have hg1:=Pol.len_pos hgm.2
  by_cases hc:(Pol.gcd m (frW m k)).len=1
  ·obtain ⟨P',ih⟩:=l_sIrr hdg hpw hg ha ht hm hml hn f (k+1) (by omega) (by omega)
   rw [show k+1-1=k by omega] at ih
   refine ⟨P',?_⟩
   have hiff:(∀k',k≤k'→2*k'≤n→(Pol.gcd m (frW m k')).len=1)↔∀k',k+1≤k'→2*k'≤n→(Pol.gcd m (frW m k')).len=1:=by
    constructor
    ·intro h k' h1 h2; exact h k' (by omega) h2
    ·intro h k' h1 h2
     by_cases hkk:k'=k
     ·rw [hkk]; exact hc
     ·exact h k' (by omega) h2
   rw [propext hiff]
   refine dn_round ?_ ih
   rw [hc] at e6
   have e7:((1:Nat):Int)-1=0:=rfl
   rw [e7] at e6
   generalize pad (row (Pol.gcd m (frW m k)))=Pg at *
   generalize pad (row (frW m k))=Pw at *
   generalize pad (row (pw Pol.X (p.toNat^k)%m))=P2 at *
   generalize pad (row (pw Pol.X (p.toNat^(k-1))%m))=P1 at *
   generalize pad (row (Pol.X:Fp p))=PX at *
   generalize pad (row m)=Pm at *
   simp -implicitDefEqProofs [Z34_L0,dn_cond,w1,hlt,e1,e3,e4,e5,e6,w4]
  ·refine ⟨pad [],?_⟩
   rw [if_neg (fun h=>hc (h k (Nat.le_refl k) (by omega)))]
   have hne:¬ (((Pol.gcd m (frW m k)).len:Int)-1=0):=by omega
   refine dn_back ?_
   generalize ((Pol.gcd m (frW m k)).len:Int)-1=g1 at *
   generalize pad (row (Pol.gcd m (frW m k)))=Pg at *
   generalize pad (row (frW m k))=Pw at *
   generalize pad (row (pw Pol.X (p.toNat^k)%m))=P2 at *
   generalize pad (row (pw Pol.X (p.toNat^(k-1))%m))=P1 at *
   generalize pad (row (Pol.X:Fp p))=PX at *
   generalize pad (row m)=Pm at *
   simp -implicitDefEqProofs [Z34_L0,dn_cond,w1,hlt,e1,e3,e4,e5,e6,hne]
open Classical in
def K_sIrr (O:Oracle):Prop:=∀(p:Int) [IsP p] (m:Fp p),m≠0→m.len≤13→ask O F34 [(D.int .i64 p),(D.arr 64 .leaf (ints .u8 (pad (row m))))]=some (D.bool (decide (Irr m)))
open Classical in
theorem k_sIrr (hT:T F34=some Z34) (hdg:K_sDeg (den T A)) (hmo:K_sMod (den T A)) (hpw:K_sPowMod (den T A)) (hg:K_sGcd (den T A)) (ha:K_sAdd (den T A)) (ht:K_sT (den T A)):K_sIrr (den T A):=by
 intro p i m hm hml
 have e1:=hdg p m (by omega)
 have e2:=ht p
 have e3:=hmo p Pol.X m hm (by rw [Pol.len_X]; omega) (by omega)
 have h1:=Pol.len_pos hm
 refine ask_of hT rfl ?_
 by_cases h2:2≤m.len
 ·obtain ⟨P',e4⟩:=l_sIrr (O:=den T A) hdg hpw hg ha ht hm hml (n:=m.len-1) (by omega) ((m.len-1)/2) 1 (Nat.le_refl 1) (by omega)
  have e5:pw (Pol.X:Fp p) (p.toNat^(1-1))=Pol.X:=by rw [Nat.sub_self,Nat.pow_zero,pw_1]
  rw [e5,irr_test h2 hml] at e4
  rw [show ((m.len:Int)-1)=((m.len-1:Nat):Int) by omega] at e1
  have hlt:¬ (((m.len-1:Nat):Int)<1):=by omega
  have e01:((1:Nat):Int)=1:=rfl
  rw [e01] at e4
  by_cases hi:Irr m
  ·rw [if_pos hi] at e4
   rw [decide_eq_true hi]
   generalize (((m.len-1)/2+1:Nat):Int)=k1 at *
   generalize ((m.len-1:Nat):Int)=n1 at *
   generalize pad (row (Pol.X%m))=P1 at *
   generalize pad (row (Pol.X:Fp p))=PX at *
   generalize pad (row m)=Pm at *
   simp -implicitDefEqProofs [Z34,Z34_B,dn_cond,e1,e2,e3,e4,hlt,List.replicate]
  ·rw [if_neg hi] at e4
   rw [decide_eq_false hi]
   generalize ((m.len-1:Nat):Int)=n1 at *
   generalize pad (row (Pol.X%m))=P1 at *
   generalize pad (row (Pol.X:Fp p))=PX at *
   generalize pad (row m)=Pm at *
   simp -implicitDefEqProofs [Z34,Z34_B,dn_cond,e1,e2,e3,e4,hlt,List.replicate]
 ·have hl:m.len=1:=by omega
  rw [hl] at e1
  have e7:((1:Nat):Int)-1=0:=rfl
  rw [e7] at e1
  rw [decide_eq_false (fun h:Irr m=>h2 h.len)]
  generalize pad (row (Pol.X%m))=P1 at *
  generalize pad (row (Pol.X:Fp p))=PX at *
  generalize pad (row m)=Pm at *
  simp -implicitDefEqProofs [Z34,Z34_B,dn_cond,e1,e2,e3,List.replicate]
end Pe

namespace Pe
open Go Gq
variable {T:Nat→Option Fn} {A:Oracle}
def puts:List Int→Nat→List Int→List Int
 | [],_,cur=>cur
 | d::ds,i,cur=>puts ds (i+1) (cur.set i d)
theorem puts_length:∀(ds:List Int) (i:Nat) (cur:List Int),(puts ds i cur).length=cur.length
 | [],_,_=>rfl
 | d::ds,i,cur=>by rw [puts,puts_length,List.length_set]
theorem puts_cf:∀(ds:List Int) (i:Nat) (cur:List Int) (j:Nat),i+ds.length≤cur.length→cf (puts ds i cur) j=if i≤j∧j<i+ds.length then cf ds (j-i) else cf cur j
 | [],i,cur,j,_=>by rw [puts,if_neg (by rintro ⟨h1,h2⟩; rw [List.length_nil] at h2; omega)]
 | d::ds,i,cur,j,h=>by
  simp at h
  rw [puts,puts_cf ds (i+1) _ j (by rw [List.length_set]; omega),cf_set,List.length_cons]
  by_cases h1:j=i
  ·subst h1
   rw [if_neg (by omega),if_pos ⟨rfl,by omega⟩,if_pos (by omega),Nat.sub_self]; rfl
  ·by_cases h2:i+1≤j∧j<i+1+ds.length
   ·rw [if_pos h2,if_pos (by omega)]
    obtain ⟨k,hk⟩:∃k,j-i=k+1:=⟨j-i-1,by omega⟩
    rw [hk,show j-(i+1)=k by omega]
    simp [cf]
   ·rw [if_neg h2,if_neg (by omega),if_neg (by omega)]
theorem puts_pad {ds:List Int} (h:ds.length≤64):puts ds 0 (pad [])=pad ds:=by
 symm
 apply pad_eq (by rw [puts_length,pad_length])
 intro i hi
 rw [puts_cf _ _ _ _ (by rw [pad_length]; omega)]
 by_cases h1:i<ds.length
 ·rw [if_pos (by omega),Nat.sub_zero]
 ·rw [if_neg (by omega),pad_cf (by simp),cf_ge (by omega),cf_ge (by simp)]
theorem l_sOf {O:Oracle} {p:Int} [IsP p] {z:List Int}:∀(f:Nat) (n:Int) (i:Nat) (cur:List Int),0≤n→n<2^f→n<9223372036854775807→i+f≤64→cur.length=64→∃i':Nat,
 dn O 0 (.loop Z3b_L0) ⟨[(0,(.d (.int .i64 p))),(1,(.d (.int .i64 n))),(4,.ptr 0 []),(5,.ptr 1 []),(6,(.d (.int .i64 i)))],[.box false (D.arr 64 .leaf (ints .u8 z)),.box false (D.arr 64 .leaf (ints .u8 cur))]⟩ =
  some (.exit 0,⟨[(0,(.d (.int .i64 p))),(1,(.d (.int .i64 0))),(4,.ptr 0 []),(5,.ptr 1 []),(6,(.d (.int .i64 i'))),(9,(.d (.bool false)))],[.box false (D.arr 64 .leaf (ints .u8 z)),.box false (D.arr 64 .leaf (ints .u8 (puts (dgs p f n) i cur)))]⟩)
 | 0,n,i,cur,h0,hn,hm,hi,hc=>by
  obtain rfl:n=0:=by simp at hn; omega
  exact ⟨i,dn_stop (by simp -implicitDefEqProofs [Z3b_L0,dn_cond,dgs,puts])⟩
 | f+1,n,i,cur,h0,hn,hm,hi,hc=>by
  have hp:=IsP.ge (p:=p)
  have hp7:=IsP.le (p:=p)
  by_cases hz:n=0
  ·subst hz
   refine ⟨i,?_⟩
   rw [dgs,if_pos (Int.le_refl 0),puts]
   exact dn_stop (by simp -implicitDefEqProofs [Z3b_L0,dn_cond])
  ·have hd:n/p<2^f:=by
    apply Int.ediv_lt_of_lt_mul (by omega)
    have:(2:Int)^(f+1)=2^f*2:=Int.pow_succ _ _
    have h2:(2:Int)^f*2≤2^f*p:=Int.mul_le_mul_of_nonneg_left hp (Int.pow_nonneg (by omega))
    omega
   have hdn:0≤n/p:=Int.ediv_nonneg (by omega) (by omega)
   have hdl:n/p≤n:=Int.ediv_le_self _ h0
   obtain ⟨i',e⟩:=l_sOf (O:=O) (p:=p) (z:=z) f (n/p) (i+1) (cur.set i (n%p)) hdn hd (by omega) (by omega) (by simpa using hc)
   have hpos:0<n:=by omega
   have hr:0≤n%p∧n%p<p:=⟨Int.emod_nonneg _ (by omega),Int.emod_lt_of_pos _ (by omega)⟩
   have w1:IntKind.i64.wrap (n.tdiv p)=n/p:=by rw [Int.tdiv_eq_ediv_of_nonneg h0,w64 (by omega)]
   have w2:n.tmod p=n%p:=Int.tmod_eq_emod_of_nonneg h0
   have w3:IntKind.u8.wrap (n%p)=n%p:=w8 (by omega)
   have w4:IntKind.i64.wrap ((i:Int)+1)=((i+1:Nat):Int):=(w64 (x:=(i:Int)+1) (by omega)).trans (by omega)
   have hp0:p≠0:=by omega
   have hi64:i<64:=by omega
   have hic:i<cur.length:=by omega
   refine ⟨i',?_⟩
   rw [dgs,if_neg (by omega),puts]
   refine dn_round ?_ e
   simp -implicitDefEqProofs [Z3b_L0,dn_cond,hpos,w1,w2,w3,w4,hp0,hi64,hic]
def K_sOf (O:Oracle):Prop:=∀(p:Int) [IsP p] (n:Int),0≤n→n<4611686018427387904→ask O F3b [(D.int .i64 p),(D.int .i64 n)]=some (D.arr 64 .leaf (ints .u8 (pad (row (numP p n)))))
theorem k_sOf (hT:T F3b=some Z3b):K_sOf (den T A):=by
 intro p i n h0 hn
 obtain ⟨i',e⟩:=l_sOf (O:=den T A) (p:=p) (z:=pad []) 64 n 0 (pad []) h0 (by omega) (by omega) (by omega) (pad_length _)
 rw [puts_pad (dgs_le p 64 n),←row_numP (by omega)] at e
 have e0:((0:Nat):Int)=0:=rfl
 rw [e0] at e
 refine ask_of hT rfl ?_
 generalize pad (row (numP p n))=R at *
 simp -implicitDefEqProofs [Z3b,Z3b_B,e]
theorem beqs_ints (k:IntKind):∀{l m:List Int},l.length=m.length→D.beqs .int (ints k l) (ints k m)=some (decide (l=m))
 | [],[],_=>by simp [D.beqs,ints]
 | x::l,y::m,h=>by
  have e:D.beqs .int (ints k (x::l)) (ints k (y::m))=(D.beq .int (.int k x) (.int k y)).bind fun b=>if b then D.beqs .int (ints k l) (ints k m) else some false:=rfl
  rw [e]
  have e2:D.beq .int (.int k x) (.int k y)=some (decide (x=y)):=by simp [D.beq]
  rw [e2,Option.bind_some,beqs_ints k (by simpa using h)]
  by_cases h1:x=y
  ·subst h1; simp
  ·simp [h1]
theorem beq_P {l m:List Int} (hl:l.length=64) (hm:m.length=64):D.beq (.arr 64 .leaf .int) (D.arr 64 .leaf (ints .u8 l)) (D.arr 64 .leaf (ints .u8 m))=some (decide (l=m)):=by
 have e:D.beq (.arr 64 .leaf .int) (D.arr 64 .leaf (ints .u8 l)) (D.arr 64 .leaf (ints .u8 m))=if 64=64∧64=64∧Sh.beq .leaf .leaf∧Sh.beq .leaf .leaf then D.beqs .int (ints .u8 l) (ints .u8 m) else none:=rfl
 rw [e,if_pos ⟨rfl,rfl,rfl,rfl⟩,beqs_ints _ (by omega)]
theorem pad_row_inj {p:Int} {a b:Fp p} (ha:a.len≤64) (hb:b.len≤64):pad (row a)=pad (row b)↔a=b:=by
 constructor
 ·intro h
  rw [←polOf_pad ha,h,polOf_pad hb]
 ·rintro rfl; rfl
theorem beq_poly {p:Int} {a b:Fp p} (_ha:a.len≤64) (_hb:b.len≤64):D.beq (.arr 64 .leaf .int) (D.arr 64 .leaf (ints .u8 (pad (row a)))) (D.arr 64 .leaf (ints .u8 (pad (row b))))=some (decide (pad (row a)=pad (row b))):=beq_P (pad_length _) (pad_length _)
section
variable {p:Int} [IsP p]
structure SInv (a0:Fp p) (k:Int) (a:Fp p) (out:Facs p):Prop where
 ne:a≠0
 eq:a0=a*prodF out
 ok:FacOk out
 so:out.Pairwise fun x y=>numOf x.1<numOf y.1
 lt:∀x∈out,numOf x.1<k
 ge:∀q,Irr q→Monic q→Dv q a→k≤numOf q
 ln:out.length+a.len≤13
structure SEnd (a0 a:Fp p) (out:Facs p):Prop where
 ne:a≠0
 eq:a0=a*prodF out
 ok:FacOk out
 so:out.Pairwise fun x y=>numOf x.1<numOf y.1
 irr:2≤a.len→Irr a∧∀x∈out,numOf x.1<numOf (mon a)
 ln:out.length+a.len≤13
theorem mon_irr_dv {q a:Fp p} (hq:Irr q) (h:Dv q a):Dv (mon q) a:=(mon_dv hq.ne).2 h
theorem SInv.small {a0 a:Fp p} {n:Nat} {k:Int} {out:Facs p} (h:SInv a0 k a out) (_hn:n≤12) (hk:p^n≤k):NoSmall n a:=by
 intro q hq hd
 have h1:=h.ge _ hq.mon (mon_monic hq.ne) (mon_irr_dv hq hd)
 have h2:=numOf_in (mon q)
 rw [mon_len hq.ne] at h2
 apply Classical.byContradiction
 intro hx
 have:=ipow_mono (p:=p) (by have:=IsP.pos (p:=p); omega) (show q.len≤n by omega)
 omega
theorem SInv.end' {a0 a:Fp p} {n:Nat} {k:Int} {out:Facs p} (h:SInv a0 k a out) (hn:n≤12) (hk:p^n≤k) (hs:a.len<2*n+1):SEnd a0 a out:=
 ⟨h.ne,h.eq,h.ok,h.so,fun hl=>by
  have hi:=irr_of_noSmall (h.small hn hk) hl hs
  have h1:=h.ge _ hi.mon (mon_monic hi.ne) ((mon_dv hi.ne).2 (.refl a))
  exact ⟨hi,fun x hx=>by have:=h.lt x hx; omega⟩,h.ln⟩
theorem SInv.step {a0 a:Fp p} {n:Nat} {k:Int} {out:Facs p} (h:SInv a0 k a out) (hn1:1≤n) (hn:n≤12) (hk:p^n≤k) (hk2:k<2*p^n) {j:Nat} {r:Fp p} (h1:a=r*pw (numP p k) j) (h2:¬ Dv (numP p k) r) :
 SInv a0 (k+1) r (if j=0 then out else out++[(numP p k,j)]):=by
 obtain ⟨m1,m2⟩:=numP_monic hn hk hk2
 have hb:=ppow_le (p:=p) hn
 have hpos:=ppow_pos (p:=p) n
 have hnum:numOf (numP p k)=k:=numOf_numP ⟨by omega,by omega⟩
 have hr0:r≠0:=fun h0=>h.ne (by rw [h1,h0,Gq.zero_mul])
 have ge':∀q,Irr q→Monic q→Dv q r→k+1≤numOf q:=by
  intro q hq hm hd
  have g1:=h.ge q hq hm (by rw [h1]; exact hd.mul_right _)
  have g2:numOf q≠k:=fun e=>by
   have:q=numP p k:=numOf_inj (by rw [e,hnum])
   exact h2 (this▸hd)
  omega
 by_cases hj:j=0
 ·subst hj
  rw [if_pos rfl]
  rw [pw,Gq.mul_one] at h1
  subst h1
  exact ⟨h.ne,h.eq,h.ok,h.so,fun x hx=>by have:=h.lt x hx; omega,ge',h.ln⟩
 ·rw [if_neg hj]
  have hda:Dv (numP p k) a:=by
   obtain ⟨i,rfl⟩:∃i,j=i+1:=⟨j-1,by omega⟩
   rw [h1,pw]
   exact ((Dv.refl _).mul_left _).mul_left _
  have hi:Irr (numP p k):=by
   refine Irr.of_dv (by omega) fun u hu=>?_
   have hul:=hu.len m1.2
   have hu0:u≠0:=fun h0=>by
    obtain ⟨c,hc⟩:=hu
    exact m1.2 (by rw [hc,h0,Gq.zero_mul])
   have hup:=Pol.len_pos hu0
   by_cases hu1:u.len=1
   ·exact .inl hu1
   ·right
    obtain ⟨q,q1,q2,q3⟩:=irr_ex u.len u (Nat.le_refl _) (by omega)
    have g1:=h.ge q q1 q2 ((q3.trans hu).trans hda)
    have g2:=q3.len hu0
    apply Classical.byContradiction
    intro hx
    have g3:=numOf_len (a:=q) (b:=numP p k) (by omega)
    omega
  have hlt:r.len<a.len:=by
   obtain ⟨i,rfl⟩:∃i,j=i+1:=⟨j-1,by omega⟩
   have hi0:=pw_ne hi.ne i
   have l1:=Pol.len_mul hi0 hi.ne
   have l2:=Pol.len_mul hr0 (Pol.mul_ne hi0 hi.ne)
   have l3:=Pol.len_pos hi0
   rw [h1,pw]; omega
  refine ⟨hr0,?_,h.ok.snoc hi m1 (by omega) fun x hx e=>?_,?_,?_,ge',?_⟩
  ·rw [h.eq,prodF_snoc]
   conv=>lhs; rw [h1]
   exact ring_of [r,pw (numP p k) j,prodF out] rfl
  ·have:=h.lt x hx
   rw [e,hnum] at this; omega
  ·rw [List.pairwise_append]
   refine ⟨h.so,List.pairwise_singleton _ _,fun x hx y hy=>?_⟩
   simp at hy; subst hy
   have:=h.lt x hx
   rw [hnum]; exact this
  ·intro x hx
   rcases List.mem_append.1 hx with hx | hx
   ·have:=h.lt x hx; omega
   ·simp at hx; subst hx; rw [hnum]; omega
  ·have:=h.ln
   simp; omega
theorem SInv.next {a0 a:Fp p} {n:Nat} {out:Facs p} (h:SInv a0 (2*p^n) a out) (hn:n≤11):SInv a0 (p^(n+1)) a out:=by
 refine ⟨h.ne,h.eq,h.ok,h.so,fun x hx=>?_,fun q hq hm hd=>?_,h.ln⟩
 ·have:=h.lt x hx
  have:=ppow_succ (p:=p) n
  omega
 ·have h1:=h.ge q hq hm hd
  have hq0:=Pol.len_pos hm.2
  rcases Nat.lt_or_ge (n+1) q.len with h2 | h2
  ·obtain ⟨d,hd'⟩:∃d,q.len=d+1:=⟨q.len-1,by omega⟩
   have hl:=hd.len h.ne
   have hln:=h.ln
   have h3:=numOf_monic (n:=d) (by omega) hm hd'
   have:=ipow_mono (p:=p) (by have:=IsP.pos (p:=p); omega) (show n+1≤d by omega)
   omega
  ·exfalso
   obtain ⟨d,hd'⟩:∃d,q.len=d+1:=⟨q.len-1,by omega⟩
   have h3:=numOf_monic (n:=d) (by omega) hm hd'
   have:=ipow_mono (p:=p) (by have:=IsP.pos (p:=p); omega) (show d≤n by omega)
   omega
theorem SInv.init {a:Fp p} (ha:a≠0) (hl:a.len≤13):SInv a (p^1) a []:=
 ⟨ha,(Gq.mul_one a).symm,⟨by simp,.nil⟩,.nil,by simp,fun q hq hm _=>by
  have h1:=hq.len
  obtain ⟨d,hd'⟩:∃d,q.len=d+1:=⟨q.len-1,by omega⟩
  by_cases hd12:d≤12
  ·have h3:=numOf_monic (n:=d) hd12 hm hd'
   have:=ipow_mono (p:=p) (by have:=IsP.pos (p:=p); omega) (show 1≤d by omega)
   omega
  ·have h4:=numOf_len (a:=numP p (p^1)) (b:=q) (by
    have:=(numP_monic (p:=p) (n:=1) (by omega) (Int.le_refl _) (by have:=ppow_pos (p:=p) 1; omega)).2
    omega)
   have h5:numOf (numP p (p^1))=p^1:=numOf_numP ⟨Int.le_of_lt (ppow_pos 1),by have:=ppow_le (p:=p) (n:=1) (by omega); omega⟩
   omega,by simpa using hl⟩
theorem SEnd.fac {a0 a:Fp p} {out:Facs p} (h:SEnd a0 a out) (h0:a0≠0):Pe.fac a0=if 2≤a.len then out++[(mon a,1)] else out:=by
 apply fac_eq h0
 have hP:=prodF_monic h.ok
 have hld:a0.ld=a.ld:=by rw [h.eq,Pol.ld_mul h.ne hP.2,hP.1,Gq.mul_one]
 split
 ·rename_i hl
  obtain ⟨hi,hx⟩:=h.irr hl
  refine ⟨h.ok.snoc hi.mon (mon_monic h.ne) (Nat.le_refl 1) fun x hx' e=>?_,?_,?_⟩
  ·have:=hx x hx'
   rw [e] at this; omega
  ·rw [List.pairwise_append]
   refine ⟨h.so,List.pairwise_singleton _ _,fun x hx' y hy=>?_⟩
   simp at hy; subst hy; exact hx x hx'
  ·rw [prodF_snoc,hld]
   show a0=Pol.C a.ld*(prodF out*pw (mon a) 1)
   rw [pw_1,h.eq]
   conv=>lhs; rw [eq_mon h.ne]
   exact ring_of [Pol.C a.ld,mon a,prodF out] rfl
 ·rename_i hl
  have hp:=Pol.len_pos h.ne
  obtain ⟨c,hc,rfl⟩:=unit_of_len (show a.len=1 by omega)
  refine ⟨h.ok,h.so,?_⟩
  rw [hld,Pol.ld_C hc]; exact h.eq
end
end Pe

namespace Pe
open Go Gq
variable {T:Nat→Option Fn} {A:Oracle}
abbrev facSh8:Sh:=.st [.arr 64 .leaf,.leaf]
noncomputable abbrev facP {p:Int} (x:Fp p×Nat):D:=.st [.arr 64 .leaf,.leaf] [(D.arr 64 .leaf (ints .u8 (pad (row x.1)))),(D.int .i64 x.2)]
section
variable {p:Int} [IsP p]
theorem l_sSp0 {O:Oracle} (hdv:K_sDivide O) (hdg:K_sDeg O) {m:Fp p} {n:Nat} (hm:m≠0) (hml:m.len=n+1) (hn1:1≤n) (hn:n≤12) {st kv:V} {ob:Blk} (hst:st.refs=[1]) (hkv:kv.refs=[]):∀(f:Nat) (a:Fp p) (i:Nat),a.len≤f→a≠0→a.len≤13→i+f≤1000→∃(j:Nat) (r:Fp p),a=r*pw m j∧¬ Dv m r ∧
 ((dn O 0 (.loop Z3k_L0) ⟨[(0,(.d (.int .i64 p))),(3,.ptr 0 []),(5,st),(6,(.d (.int .i64 n))),(7,kv),(8,.ptr 2 []),(9,(.d (.int .i64 i)))],[.box false (D.arr 64 .leaf (ints .u8 (pad (row a)))),ob,.box false (D.arr 64 .leaf (ints .u8 (pad (row m)))),.hole,.hole,.hole,.hole,.hole,.hole,.hole]⟩ =
   some (.exit 4,⟨[(0,(.d (.int .i64 p))),(3,.ptr 0 []),(5,st),(6,(.d (.int .i64 n))),(7,kv),(8,.ptr 2 []),(9,(.d (.int .i64 ((i+j:Nat))))),(47,(.d (.bool false)))],[.box false (D.arr 64 .leaf (ints .u8 (pad (row r)))),ob,.box false (D.arr 64 .leaf (ints .u8 (pad (row m)))),.hole,.hole,.hole,.hole,.hole,.hole,.hole]⟩)) ∨
 (∃q:List Int,dn O 0 (.loop Z3k_L0) ⟨[(0,(.d (.int .i64 p))),(3,.ptr 0 []),(5,st),(6,(.d (.int .i64 n))),(7,kv),(8,.ptr 2 []),(9,(.d (.int .i64 i)))],[.box false (D.arr 64 .leaf (ints .u8 (pad (row a)))),ob,.box false (D.arr 64 .leaf (ints .u8 (pad (row m)))),.hole,.hole,.hole,.hole,.hole,.hole,.hole]⟩ =
  some (.exit 4,⟨[(0,(.d (.int .i64 p))),(3,.ptr 0 []),(5,st),(6,(.d (.int .i64 n))),(7,kv),(8,.ptr 2 []),(9,(.d (.int .i64 ((i+j:Nat))))),(10,.ptr 3 []),(57,(.d (.bool true)))],[.box false (D.arr 64 .leaf (ints .u8 (pad (row r)))),ob,.box false (D.arr 64 .leaf (ints .u8 (pad (row m)))),.box false (D.arr 64 .leaf (ints .u8 q)),.hole,.hole,.hole,.hole,.hole,.hole]⟩)))
 | 0,a,i,hf,ha,_,_=>absurd (Pol.len_zero_iff.1 (by omega)) ha
 | f+1,a,i,hf,ha,hl13,hi=>by
  have e1:=hdg p a (by omega)
  have hap:=Pol.len_pos ha
  by_cases hlt:a.len<n+1
  ·refine ⟨0,a,(Gq.mul_one a).symm,fun h=>by have:=h.len ha; omega,.inl (dn_stop ?_)⟩
   have h1:¬ (n:Int)≤(a.len:Int)-1:=by omega
   simp -implicitDefEqProofs [Z3k_L0,dn_cond,e1,h1,hst,hkv]
  ·have h1:(n:Int)≤(a.len:Int)-1:=by omega
   have e2:=hdv p a m hm (by omega) (by omega)
   have hml2:m.len≤64:=by omega
   have hlr:=Pol.len_mod a hm
   have e3:=beq_poly (p:=p) (a:=a%m) (b:=0) (by omega) (by rw [Pol.len_zero]; omega)
   rw [row_zero] at e3
   have e4:pad (row (a%m))=pad []↔a%m=0:=by
    have:=pad_row_inj (p:=p) (a:=a%m) (b:=0) (by omega) (by rw [Pol.len_zero]; omega)
    rwa [row_zero] at this
   by_cases h0:a%m=0
   ·have hd:=Pol.div_mod a m
    rw [h0,Gq.add_zero] at hd
    have hq:a/m≠0:=fun h=>ha (by rw [hd,h,Gq.zero_mul])
    have hl:=Pol.len_mul hq hm
    rw [←hd] at hl
    rw [decide_eq_true (e4.2 h0)] at e3
    obtain ⟨j,r,g1,g2,g3⟩:=l_sSp0 (ob:=ob) hdv hdg hm hml hn1 hn hst hkv f (a/m) (i+1) (by omega) hq (by omega) (by omega)
    have w1:IntKind.i64.wrap ((i:Int)+1)=((i+1:Nat):Int):=(w64 (x:=(i:Int)+1) (by omega)).trans (by omega)
    have body:dn O 0 Z3k_L0 ⟨[(0,(.d (.int .i64 p))),(3,.ptr 0 []),(5,st),(6,(.d (.int .i64 n))),(7,kv),(8,.ptr 2 []),(9,(.d (.int .i64 i)))],[.box false (D.arr 64 .leaf (ints .u8 (pad (row a)))),ob,.box false (D.arr 64 .leaf (ints .u8 (pad (row m)))),.hole,.hole,.hole,.hole,.hole,.hole,.hole]⟩ =
     some (.normal,⟨[(0,(.d (.int .i64 p))),(3,.ptr 0 []),(5,st),(6,(.d (.int .i64 n))),(7,kv),(8,.ptr 2 []),(9,(.d (.int .i64 ((i+1:Nat)))))],[.box false (D.arr 64 .leaf (ints .u8 (pad (row (a/m))))),ob,.box false (D.arr 64 .leaf (ints .u8 (pad (row m)))),.hole,.hole,.hole,.hole,.hole,.hole,.hole]⟩):=by
     generalize pad (row (a/m))=R1 at *
     generalize pad (row (a%m))=R2 at *
     generalize pad (row a)=PA at *
     generalize pad (row m)=PM at *
     simp -implicitDefEqProofs [Z3k_L0,dn_cond,e1,h1,e2,e3,w1,hst,hkv]
    refine ⟨j+1,r,by rw [pw,←Gq.mul_assoc,←g1]; exact hd,g2,?_⟩
    rw [show i+(j+1)=i+1+j by omega]
    rcases g3 with g3 | ⟨q,g3⟩
    ·exact .inl (dn_round body g3)
    ·exact .inr ⟨q,dn_round body g3⟩
   ·rw [decide_eq_false (mt e4.1 h0)] at e3
    refine ⟨0,a,(Gq.mul_one a).symm,fun hdv'=>h0 ((dv_iff_mod hm).1 hdv'),.inr ⟨pad (row (a/m)),dn_stop ?_⟩⟩
    generalize pad (row (a/m))=R1 at *
    generalize pad (row (a%m))=R2 at *
    generalize pad (row a)=PA at *
    generalize pad (row m)=PM at *
    simp -implicitDefEqProofs [Z3k_L0,dn_cond,e1,h1,e2,e3,hst,hkv]
theorem l_sSp1 {O:Oracle} (hdv:K_sDivide O) (hdg:K_sDeg O) (hcn:K_sCount O) (hof:K_sOf O) {a0:Fp p} {n:Nat} (hn1:1≤n) (hn:n≤12):∀(f:Nat) (k:Int) (a:Fp p) (out:Facs p) (cp:Option Nat),p^n≤k→k≤2*p^n→(2*p^n-k).toNat≤f→SInv a0 k a out→∃(k':Int) (a':Fp p) (out':Facs p) (cp':Option Nat),SInv a0 k' a' out'∧p^n≤k'∧k'≤2*p^n∧(k'=2*p^n∨a'.len<2*n+1) ∧
 dn O 0 (.loop Z3k_L1) ⟨[(0,(.d (.int .i64 p))),(3,.ptr 0 []),(5,.sl 1 [] 0 out.length cp),(6,(.d (.int .i64 n))),(7,(.d (.int .i64 k)))],[.box false (D.arr 64 .leaf (ints .u8 (pad (row a)))),.sl false facSh8 (out.map facP),.hole,.hole,.hole,.hole,.hole,.hole,.hole,.hole]⟩ =
  some (.exit 2,⟨[(0,(.d (.int .i64 p))),(3,.ptr 0 []),(5,.sl 1 [] 0 out'.length cp'),(6,(.d (.int .i64 n))),(7,(.d (.int .i64 k'))),(38,(.d (.bool false)))],[.box false (D.arr 64 .leaf (ints .u8 (pad (row a')))),.sl false facSh8 (out'.map facP),.hole,.hole,.hole,.hole,.hole,.hole,.hole,.hole]⟩)
 | f,k,a,out,cp,hk1,hk2,hf,h=>by
  have hb:=ppow_le (p:=p) hn
  have hpos:=ppow_pos (p:=p) n
  have hln:=h.ln
  have hap:=Pol.len_pos h.ne
  have e1:=k_sCount' hcn p n hn
  have e2:=hdg p a (by omega)
  have w1:IntKind.i64.wrap (2*p^n)=2*p^n:=w64 (by omega)
  have w2:IntKind.i64.wrap (2*(n:Int))=2*(n:Int):=w64 (by omega)
  by_cases hke:k=2*p^n
  ·refine ⟨k,a,out,cp,h,hk1,hk2,.inl hke,dn_stop ?_⟩
   have h1:¬ k<2*p^n:=by omega
   generalize p^n=N at *
   generalize pad (row a)=PA at *
   generalize out.map facP=LD at *
   simp -implicitDefEqProofs [Z3k_L1,dn_cond,e1,w1,h1]
  ·have h1:k<2*p^n:=by omega
   by_cases hs:a.len<2*n+1
   ·refine ⟨k,a,out,cp,h,hk1,hk2,.inr hs,dn_stop ?_⟩
    have h2:¬ 2*(n:Int)≤(a.len:Int)-1:=by omega
    generalize p^n=N at *
    generalize pad (row a)=PA at *
    generalize out.map facP=LD at *
    simp -implicitDefEqProofs [Z3k_L1,dn_cond,e1,e2,w1,w2,h1,h2]
   ·cases f with
    | zero=>omega
    | succ f=>
     have h2:2*(n:Int)≤(a.len:Int)-1:=by omega
     obtain ⟨m1,m2⟩:=numP_monic hn hk1 h1
     have e3:=hof p k (by omega) (by omega)
     obtain ⟨j,r,g1,g2,g3⟩:=l_sSp0 hdv hdg (m:=numP p k) m1.2 m2 hn1 hn (st:=.sl 1 [] 0 out.length cp) (kv:=(.d (.int .i64 k))) (ob:=.sl false facSh8 (out.map facP)) rfl rfl a.len a 0 (Nat.le_refl _) h.ne (by omega) (by omega)
     have hstep:=h.step hn1 hn hk1 h1 g1 g2
     have w3:IntKind.i64.wrap (k+1)=k+1:=w64 (by omega)
     have e0:((0:Nat):Int)=0:=rfl
     have h8:(out.length+1)*72≤1099511627776:=by omega
     have ht:(out.map facP).take out.length=out.map facP:=List.take_of_length_le (by simp)
     have hL:(out.map facP).length=out.length:=by simp
     rw [e0,Nat.zero_add] at g3
     by_cases hj:j=0
     ·subst hj
      rw [if_pos rfl] at hstep
      obtain ⟨k',a',out',cp',i1,i2,i3,i4,e⟩:=l_sSp1 hdv hdg hcn hof hn1 hn f (k+1) r out cp (by omega) (by omega) (by omega) hstep
      refine ⟨k',a',out',cp',i1,i2,i3,i4,dn_round ?_ e⟩
      rw [e0] at g3
      generalize p^n=N at *
      generalize pad (row a)=PA at *
      generalize pad (row r)=PR at *
      generalize pad (row (numP p k))=PM at *
      generalize out.map facP=LD at *
      rcases g3 with g3 | ⟨q,g3⟩
      ·simp -implicitDefEqProofs [Z3k_L1,dn_cond,e1,e2,e3,w1,w2,w3,h1,h2,g3]
      ·simp -implicitDefEqProofs [Z3k_L1,dn_cond,e1,e2,e3,w1,w2,w3,h1,h2,g3]
     ·rw [if_neg hj] at hstep
      obtain ⟨k',a',out',cp',i1,i2,i3,i4,e⟩:=l_sSp1 hdv hdg hcn hof hn1 hn f (k+1) r (out++[(numP p k,j)]) none (by omega) (by omega) (by omega) hstep
      refine ⟨k',a',out',cp',i1,i2,i3,i4,dn_round ?_ e⟩
      have o1:(out++[(numP p k,j)]).map facP=out.map facP++[facP (numP p k,j)]:=by simp
      have o2:(out++[(numP p k,j)]).length=out.length+1:=by simp
      have hj0:0<j:=by omega
      rw [o1,o2]
      simp only [facP]
      have hfp:(out.map fun x:Fp p×Nat=>D.st [.arr 64 .leaf,.leaf] [(D.arr 64 .leaf (ints .u8 (pad (row x.1)))),(D.int .i64 x.2)])=out.map facP:=rfl
      rw [hfp]
      generalize p^n=N at *
      generalize pad (row a)=PA at *
      generalize pad (row r)=PR at *
      generalize pad (row (numP p k))=PM at *
      generalize out.map facP=LD at *
      rcases g3 with g3 | ⟨q,g3⟩
      ·simp -implicitDefEqProofs [Z3k_L1,dn_cond,e1,e2,e3,w1,w2,w3,h1,h2,g3,hj0,h8,ht,hL,List.replicate]
      ·simp -implicitDefEqProofs [Z3k_L1,dn_cond,e1,e2,e3,w1,w2,w3,h1,h2,g3,hj0,h8,ht,hL,List.replicate]
end
end Pe

namespace Pe
open Go Gq
variable {T:Nat→Option Fn} {A:Oracle}
section
variable {p:Int} [IsP p]
theorem l_sSp2 {O:Oracle} (hdv:K_sDivide O) (hdg:K_sDeg O) (hcn:K_sCount O) (hof:K_sOf O) {a0:Fp p}:∀(f n:Nat) (a:Fp p) (out:Facs p) (cp:Option Nat),1≤n→n+f=9→(SInv a0 (p^n) a out∨(SEnd a0 a out∧a.len<2*n+1))→∃(n':Int) (a':Fp p) (out':Facs p) (cp':Option Nat),SEnd a0 a' out' ∧
 dn O 0 (.loop Z3k_L2) ⟨[(0,(.d (.int .i64 p))),(3,.ptr 0 []),(5,.sl 1 [] 0 out.length cp),(6,(.d (.int .i64 n)))],[.box false (D.arr 64 .leaf (ints .u8 (pad (row a)))),.sl false facSh8 (out.map facP),.hole,.hole,.hole,.hole,.hole,.hole,.hole,.hole]⟩ =
  some (.exit 0,⟨[(0,(.d (.int .i64 p))),(3,.ptr 0 []),(5,.sl 1 [] 0 out'.length cp'),(6,(.d (.int .i64 n'))),(20,(.d (.bool false)))],[.box false (D.arr 64 .leaf (ints .u8 (pad (row a')))),.sl false facSh8 (out'.map facP),.hole,.hole,.hole,.hole,.hole,.hole,.hole,.hole]⟩)
 | f,n,a,out,cp,hn1,hf,h=>by
  have hln:out.length+a.len≤13:=by
   rcases h with h | h
   ·exact h.ln
   ·exact h.1.ln
  have hne:a≠0:=by
   rcases h with h | h
   ·exact h.ne
   ·exact h.1.ne
  have e2:=hdg p a (by omega)
  have w2:IntKind.i64.wrap (2*(n:Int))=2*(n:Int):=w64 (by omega)
  by_cases hs:a.len<2*n+1
  ·have hE:SEnd a0 a out:=by
    rcases h with h | h
    ·exact h.end' (by omega) (Int.le_refl _) hs
    ·exact h.1
   refine ⟨n,a,out,cp,hE,dn_stop ?_⟩
   have h2:¬ 2*(n:Int)≤(a.len:Int)-1:=by omega
   generalize pad (row a)=PA at *
   generalize out.map facP=LD at *
   simp -implicitDefEqProofs [Z3k_L2,dn_cond,e2,w2,h2]
  ·have hI:SInv a0 (p^n) a out:=by
    rcases h with h | h
    ·exact h
    ·exact absurd h.2 hs
   cases f with
   | zero=>omega
   | succ f=>
    have hpos:=ppow_pos (p:=p) n
    have h2:2*(n:Int)≤(a.len:Int)-1:=by omega
    have e1:=k_sCount' hcn p n (by omega)
    obtain ⟨k',a',out',cp',i1,i2,i3,i4,i5⟩:=l_sSp1 hdv hdg hcn hof hn1 (by omega) (2*p^n-p^n).toNat (p^n) a out cp (Int.le_refl _) (by omega) (Nat.le_refl _) hI
    have hnext:SInv a0 (p^(n+1)) a' out'∨(SEnd a0 a' out'∧a'.len<2*(n+1)+1):=by
     rcases i4 with i4 | i4
     ·rw [i4] at i1
      exact .inl (i1.next (by omega))
     ·exact .inr ⟨i1.end' (by omega) i2 i4,by omega⟩
    obtain ⟨n',a2,out2,cp2,j1,j2⟩:=l_sSp2 hdv hdg hcn hof f (n+1) a' out' cp' (by omega) (by omega) hnext
    have w3:IntKind.i64.wrap ((n:Int)+1)=((n+1:Nat):Int):=(w64 (x:=(n:Int)+1) (by omega)).trans (by omega)
    refine ⟨n',a2,out2,cp2,j1,dn_round ?_ j2⟩
    generalize pad (row a)=PA at *
    generalize pad (row a')=PA' at *
    generalize out.map facP=LD at *
    generalize out'.map facP=LD' at *
    simp -implicitDefEqProofs [Z3k_L2,dn_cond,e1,e2,w2,w3,h2,i5]
end
def K_sSplit (O:Oracle):Prop:=∀(p:Int) [IsP p] (a:Fp p),a≠0→a.len≤13→ask O F3k [(D.int .i64 p),(D.arr 64 .leaf (ints .u8 (pad (row a))))]=some (.sl facSh8 ((fac a).map facP))
theorem k_sSplit (hT:T F3k=some Z3k) (hdv:K_sDivide (den T A)) (hdg:K_sDeg (den T A)) (hcn:K_sCount (den T A)) (hof:K_sOf (den T A)) (hinv:K_sInverse (den T A)) (had:K_sAdd (den T A)):K_sSplit (den T A):=by
 intro p i a0 h0 hl0
 have hp7:=IsP.le (p:=p)
 obtain ⟨n',a,out,cp,hE,e⟩:=l_sSp2 hdv hdg hcn hof 8 1 a0 [] (some 0) (Nat.le_refl 1) rfl (.inl (SInv.init h0 hl0))
 have hf:=hE.fac h0
 have hln:=hE.ln
 have hap:=Pol.len_pos hE.ne
 have e1:=hdg p a (by omega)
 have e00:(([]:Facs p).length:Nat)=0:=rfl
 have e01:((1:Nat):Int)=1:=rfl
 rw [e00,e01,List.map_nil] at e
 rw [hf]
 refine ask_of hT rfl ?_
 by_cases hl:2≤a.len
 ·rw [if_pos hl]
  obtain ⟨hirr,hlt⟩:=hE.irr hl
  have hr:=rep_in a.ld
  have hld:rep a.ld≠0:=fun h0=>Pol.ld_ne hE.ne (rep_eq_zero.1 h0)
  have e3:=hinv p (rep a.ld) (by omega) hr.2
  have hin:=inv_in p (rep a.ld)
  have w1:IntKind.i64.wrap (inv p (rep a.ld))=inv p (rep a.ld):=w64 (by omega)
  have hbx:(pad (row a))[a.len-1]? = some (rep a.ld):=by rw [pad_get _ _ (by omega),row_cf]; rfl
  have hbx':((a.len:Int)-1).toNat=a.len-1:=by omega
  have hbx2:(1:Int)≤(a.len:Int):=by omega
  have hbx4:(1:Int)<(a.len:Int):=by omega
  have hbx3:a.len-1<64:=by omega
  have e4:=had p (inv p (rep a.ld)) 0 a (by omega) (by omega) (by rw [Pol.len_zero]; omega) (by omega)
  rw [finv_rep _ (Pol.ld_ne hE.ne),Gq.zero_add,row_zero] at e4
  have e4':ask (den T A) F2r [(D.int .i64 p),(D.arr 64 .leaf (ints .u8 (pad []))),(D.arr 64 .leaf (ints .u8 (pad (row a)))),(D.int .i64 (inv p (rep a.ld)))]=some (D.arr 64 .leaf (ints .u8 (pad (row (mon a))))):=e4
  have h8:(out.length+1)*72≤1099511627776:=by omega
  have ht:(out.map facP).take out.length=out.map facP:=List.take_of_length_le (by simp)
  have hL:(out.map facP).length=out.length:=by simp
  have o1:(out++[(mon a,1)]).map facP=out.map facP++[facP (mon a,1)]:=by simp
  have w2:IntKind.i64.wrap ((out.length:Int)-1)=(out.length:Int)-1:=w64 (by omega)
  have wm:IntKind.i64.wrap (-1)=-1:=w64 (by omega)
  rw [o1]
  have ht2:(out.map facP++[facP (mon a,1)]).take (out.length+1)=out.map facP++[facP (mon a,1)]:=List.take_of_length_le (by simp)
  have hL2:(out.map facP++[facP (mon a,1)]).length=out.length+1:=by simp
  by_cases ho:out=[]
  ·subst ho
   simp only [facP] at *
   generalize pad (row a)=PA at *
   generalize pad (row (mon a))=PM at *
   simp -implicitDefEqProofs [Z3k,Z3k_B,dn_cond,e,e1,e3,e4',w1,hbx,hbx',hbx2,hbx3,hbx4,wm,List.replicate]
  ·have hpo:0<out.length:=List.length_pos_iff.2 ho
   obtain ⟨x,hxe⟩:∃x,out[out.length-1]? = some x:=⟨_,List.getElem?_eq_getElem (by omega)⟩
   have hx:(out.map facP)[out.length-1]? = some (facP x):=by rw [List.getElem?_map,hxe]; rfl
   have hmem:x∈out:=List.mem_of_getElem? hxe
   have hne:x.1≠mon a:=fun h=>by
    have:=hlt _ hmem
    rw [h] at this; omega
   have hxl:x.1.len≤13:=by
    have h1:Dv x.1 a0:=by
     obtain ⟨r,h2,_⟩:=prodF_out hE.ok (show (x.1,x.2)∈out from hmem)
     obtain ⟨k,hk⟩:∃k,x.2=k+1:=⟨x.2-1,by have:=(hE.ok.irr _ hmem).2.2; omega⟩
     rw [hE.eq,h2,hk,pw]
     exact (((Dv.refl _).mul_left _).mul_right _).mul_left _
    have:=h1.len h0
    omega
   have e6:=beq_poly (p:=p) (a:=x.1) (b:=mon a) (by omega) (by rw [mon_len hE.ne]; omega)
   rw [decide_eq_false (mt (pad_row_inj (p:=p) (by omega) (by rw [mon_len hE.ne]; omega)).1 hne)] at e6
   have t1:(1:Int)≤(out.length:Int):=by omega
   have t2:((out.length:Int)-1).toNat=out.length-1:=by omega
   have t3:out.length-1<out.length:=by omega
   simp only [facP] at hx ht2 ⊢
   generalize pad (row a)=PA at *
   generalize pad (row (mon a))=PM at *
   generalize pad (row x.1)=PO at *
   clear hxe hmem hxl hne hlt o1 hf hE
   generalize out.map facP=LD at *
   have h9:out.length-1<LD.length:=by omega
   have hx':=Option.some.inj ((List.getElem?_eq_getElem h9).symm.trans hx)
   simp -implicitDefEqProofs [Z3k,Z3k_B,dn_cond,hx',e,e1,e3,e4',e6,w1,w2,hbx,hbx',hbx2,hbx3,hbx4,h8,ht,hL,t1,t2,t3,List.replicate]
   exact ht2
 ·rw [if_neg hl]
  have h1:¬ (1:Int)<(a.len:Int):=by omega
  have ht:(out.map facP).take out.length=out.map facP:=List.take_of_length_le (by simp)
  have hL:(out.map facP).length=out.length:=by simp
  generalize pad (row a)=PA at *
  generalize out.map facP=LD at *
  simp -implicitDefEqProofs [Z3k,Z3k_B,dn_cond,e,e1,h1,ht,hL]
theorem l_sPower {O:Oracle} {p:Int} [IsP p]:∀(n:Nat) (out:Int),n≤12→0<out→out*p^n≤1000000000000000 →
 dn O 0 (.loop Z3j_L0) ⟨[(0,(.d (.int .i64 p))),(1,(.d (.int .i64 n))),(5,(.d (.int .i64 out)))],[]⟩ =
  some (.exit 0,⟨[(0,(.d (.int .i64 p))),(1,(.d (.int .i64 0))),(5,(.d (.int .i64 (out*p^n)))),(7,(.d (.bool false)))],[]⟩)
 | 0,out,_,h1,h2=>by
  rw [Int.pow_zero,Int.mul_one]
  exact dn_stop (by simp -implicitDefEqProofs [Z3j_L0,dn_cond])
 | n+1,out,hn,h1,h2=>by
  have hp:=IsP.pos (p:=p)
  have e:out*p^(n+1)=out*p*p^n:=by rw [Int.pow_succ,Int.mul_assoc,Int.mul_comm p]
  have h3:1≤p^n:=ppow_pos n
  have h4:0<out*p:=Int.mul_pos h1 hp
  have h5:out*p*1≤out*p*p^n:=Int.mul_le_mul_of_nonneg_left h3 (by omega)
  rw [e] at h2 ⊢
  have h0:(0:Int)<(n:Int)+1:=by omega
  have w1:IntKind.i64.wrap (out*p)=out*p:=w64 (by omega)
  have w2:IntKind.i64.wrap (n:Int)=n:=w64 (by omega)
  refine dn_round ?_ (l_sPower n (out*p) (by omega) h4 h2)
  simp -implicitDefEqProofs [Z3j_L0,dn_cond,h0,w1,w2]
def K_sPower (O:Oracle):Prop:=∀(p:Int) [IsP p] (n:Nat),n≤12→ask O F3j [(D.int .i64 p),(D.int .i64 n)]=some (D.int .i64 (p^n))
theorem k_sPower (hT:T F3j=some Z3j):K_sPower (den T A):=by
 intro p i n hn
 have hb:=ppow_le (p:=p) hn
 have e:=l_sPower (O:=den T A) (p:=p) n 1 hn (by omega) (by omega)
 rw [Int.one_mul] at e
 refine ask_of hT rfl ?_
 simp -implicitDefEqProofs [Z3j,Z3j_B,e]
section
variable {p:Int} [IsP p]
theorem l_sSym0 {O:Oracle} {own:List Int} {ld il:V} {PA:List Int} (ha:ld.refs=[]∧il.refs=[]) (hol:own.length=64) (how:0≤cf own 0∧cf own 0<p):∀(m:Nat) (out:Int),m<100000→0≤out→out<p →
 dn O 0 (.loop Z3l_L0) ⟨[(0,(.d (.int .i64 p))),(4,.ptr 0 []),(7,ld),(8,(.d (.int .i64 out))),(9,il),(11,.ptr 3 []),(12,(.d (.int .i64 m)))],[.box false (D.arr 64 .leaf (ints .u8 PA)),.hole,.hole,.box false (D.arr 64 .leaf (ints .u8 own))]⟩ =
  some (.exit 2,⟨[(0,(.d (.int .i64 p))),(4,.ptr 0 []),(7,ld),(8,(.d (.int .i64 (rp p (cf own 0) m out)))),(9,il),(11,.ptr 3 []),(12,(.d (.int .i64 0))),(45,(.d (.bool false)))],[.box false (D.arr 64 .leaf (ints .u8 PA)),.hole,.hole,.box false (D.arr 64 .leaf (ints .u8 own))]⟩)
 | 0,out,hm,h1,h2=>dn_stop (by simp -implicitDefEqProofs [Z3l_L0,dn_cond,rp,ha])
 | m+1,out,hm,h1,h2=>by
  have hp:=IsP.ge (p:=p)
  have hp7:=IsP.le (p:=p)
  have h0:(0:Int)<(m:Int)+1:=by omega
  have hx:own[0]? = some (cf own 0):=by rw [List.getElem?_eq_getElem (by omega),cf_lt]
  have hx':0<own.length:=by omega
  have hx2:=Option.some.inj ((List.getElem?_eq_getElem hx').symm.trans hx)
  have gm:=mul_small (x:=out) (y:=cf own 0) (b:=10) (c:=10) (by omega) (by omega) (by omega)
  have w0:IntKind.i64.wrap (cf own 0)=cf own 0:=w64 (by omega)
  have w1:IntKind.i64.wrap (out*cf own 0)=out*cf own 0:=w64 (by omega)
  have w2:(out*cf own 0).tmod p=out*cf own 0%p:=Int.tmod_eq_emod_of_nonneg (Int.mul_nonneg h1 how.1)
  have w3:IntKind.i64.wrap (m:Int)=m:=w64 (by omega)
  have hp0:p≠0:=by omega
  refine dn_round ?_ (l_sSym0 ha hol how m (out*cf own 0%p) (by omega) (Int.emod_nonneg _ (by omega)) (Int.emod_lt_of_pos _ (by omega)))
  generalize cf own 0=c at *
  simp -implicitDefEqProofs [Z3l_L0,dn_cond,h0,hx',hx2,w0,w1,w2,w3,hp0,ha]
theorem l_sSym1 {O:Oracle} (hdg:K_sDeg O) (hpo:K_sPower O) (hpw:K_sPowMod O) {a m:Fp p} (hal:a.len≤64) (hm:m≠0) (hml:m.len≤13) {L:Facs p} (hL:IsFac m L) (hLl:L.length≤12):∀(k i:Nat) (out:Int),i+k=L.length→0≤out→out<p →
 dn O 0 (.loop Z3l_L1) ⟨[(0,(.d (.int .i64 p))),(4,.ptr 0 []),(7,.d (.sl facSh8 (L.map facP))),(8,(.d (.int .i64 out))),(9,(.d (.int .i64 i)))],[.box false (D.arr 64 .leaf (ints .u8 (pad (row a)))),.hole,.hole,.hole]⟩ =
  some (.exit 0,⟨[(0,(.d (.int .i64 p))),(4,.ptr 0 []),(7,.d (.sl facSh8 (L.map facP))),(8,(.d (.int .i64 (symL p a (L.drop i) out)))),(9,(.d (.int .i64 L.length))),(19,(.d (.bool false)))],[.box false (D.arr 64 .leaf (ints .u8 (pad (row a)))),.hole,.hole,.hole]⟩)
 | 0,i,out,hi,h1,h2=>by
  obtain rfl:i=L.length:=by omega
  rw [List.drop_length]
  exact dn_stop (by simp -implicitDefEqProofs [Z3l_L1,dn_cond,symL])
 | k+1,i,out,hi,h1,h2=>by
  have hp:=IsP.ge (p:=p)
  have hp7:=IsP.le (p:=p)
  have hlt:i<L.length:=by omega
  obtain ⟨q1,q2,q3,q4⟩:=hL.len hm (List.getElem_mem hlt)
  rw [List.drop_eq_getElem_cons hlt,symL]
  generalize hxe:L[i]=x at *
  have e1:=hdg p x.1 (by omega)
  have hd:((x.1.len:Int)-1)=((x.1.len-1:Nat):Int):=by omega
  rw [hd] at e1
  have hb:=ppow_le (p:=p) (n:=x.1.len-1) (by omega)
  have hpos:=ppow_pos (p:=p) (x.1.len-1)
  have e2:=hpo p (x.1.len-1) (by omega)
  have w1:IntKind.i64.wrap (p^(x.1.len-1)-1)=p^(x.1.len-1)-1:=w64 (by omega)
  have w2:IntKind.i64.wrap (p-1)=p-1:=w64 (by omega)
  have hdiv0:0≤(p^(x.1.len-1)-1)/(p-1):=Int.ediv_nonneg (by omega) (by omega)
  have hdiv1:(p^(x.1.len-1)-1)/(p-1)≤p^(x.1.len-1)-1:=Int.ediv_le_self _ (by omega)
  have w3:IntKind.i64.wrap ((p^(x.1.len-1)-1).tdiv (p-1))=(p^(x.1.len-1)-1)/(p-1):=by
   rw [Int.tdiv_eq_ediv_of_nonneg (by omega),w64 (by omega)]
  have hp1:p-1≠0:=by omega
  have e3:=hpw p a ((p^(x.1.len-1)-1)/(p-1)) x.1 q4 hal (by omega) hdiv0 (by omega)
  have hlr:=Pol.len_mod (pw a ((p^(x.1.len-1)-1)/(p-1)).toNat) q4
  have hown:cf (pad (row (pw a ((p^(x.1.len-1)-1)/(p-1)).toNat%x.1))) 0=ownS p a x.1:=by rw [pad_row_cf (by omega)]; rfl
  have e5:=l_sSym0 (O:=O) (own:=pad (row (pw a ((p^(x.1.len-1)-1)/(p-1)).toNat%x.1))) (ld:=.d (.sl facSh8 (L.map facP))) (il:=(.d (.int .i64 i))) (PA:=pad (row a)) ⟨rfl,rfl⟩ (pad_length _) (by rw [hown]; exact ownS_in a x.1) x.2 out (by omega) h1 h2
  rw [hown] at e5
  have hrp:=rp_in (own:=ownS p a x.1) (by omega:0<p) x.2 out h1 h2
  have w4:IntKind.i64.wrap ((i:Int)+1)=((i+1:Nat):Int):=(w64 (x:=(i:Int)+1) (by omega)).trans (by omega)
  have ih:=l_sSym1 (O:=O) hdg hpo hpw hal hm hml hL hLl k (i+1) (rp p (ownS p a x.1) x.2 out) (by omega) hrp.1 hrp.2
  refine dn_round ?_ ih
  have hget:(L.map facP)[i]? = some (facP x):=by rw [List.getElem?_map,List.getElem?_eq_getElem hlt,hxe]; rfl
  have hlen:(L.map facP).length=L.length:=by simp
  simp only [facP] at hget
  generalize (pw a ((p^(x.1.len-1)-1)/(p-1)).toNat%x.1)=y at *
  generalize pad (row y)=PY at *
  generalize pad (row a)=PA at *
  generalize pad (row x.1)=PX at *
  generalize x.1.len-1=d at *
  generalize L.map facP=LD at *
  have h9:i<LD.length:=by omega
  have hget':=Option.some.inj ((List.getElem?_eq_getElem h9).symm.trans hget)
  simp -implicitDefEqProofs [Z3l_L1,dn_cond,hlt,hlen,hget',e1,e2,w1,w2,w3,hp1,e3,e5,w4]
end
def K_sSymbol (O:Oracle):Prop:=∀(p:Int) [IsP p] (a m:Fp p),m≠0→m.len≤13→a.len≤64→ask O F3l [(D.int .i64 p),(D.arr 64 .leaf (ints .u8 (pad (row a)))),(D.arr 64 .leaf (ints .u8 (pad (row m))))]=some (D.int .i64 (symb p a m))
theorem k_sSymbol (hT:T F3l=some Z3l) (hsp:K_sSplit (den T A)) (hf:K_fac (den T A)) (hdg:K_sDeg (den T A)) (hpo:K_sPower (den T A)) (hpw:K_sPowMod (den T A)):K_sSymbol (den T A):=by
 intro p i a m hm hml hal
 obtain ⟨f1,f2,_⟩:=hf p m hm hml
 have f3:=hsp p m hm hml
 have e:=l_sSym1 hdg hpo hpw hal hm hml f1 f2 (fac m).length 0 1 (Nat.zero_add _) (by omega) (by have:=IsP.ge (p:=p); omega)
 have e0:((0:Nat):Int)=0:=rfl
 rw [e0,List.drop_zero] at e
 have hl:((fac m).map facP).length=(fac m).length:=by simp
 refine ask_of hT rfl ?_
 unfold symb
 generalize (fac m).map facP=LD at *
 generalize pad (row a)=PA at *
 generalize pad (row m)=PM at *
 simp -implicitDefEqProofs [Z3l,Z3l_B,f3,e]
end Pe

namespace Pe
open Go Gq
variable {T:Nat→Option Fn} {A:Oracle}
theorem l_sQuad {O:Oracle} {p s:Int} [IsP p] (hs:0≤s∧s<p):∀(m:Nat) (i out:Int),i+m=(p-1)/2→0≤i→0≤out→out<p →
 dn O 0 (.loop Z3r_L0) ⟨[(0,(.d (.int .i64 p))),(7,(.d (.int .i64 s))),(8,(.d (.int .i64 out))),(9,(.d (.int .i64 i)))],[.hole,.hole]⟩ =
  some (.exit 0,⟨[(0,(.d (.int .i64 p))),(7,(.d (.int .i64 s))),(8,(.d (.int .i64 (rp p s m out)))),(9,(.d (.int .i64 ((p-1)/2)))),(18,(.d (.bool false)))],[.hole,.hole]⟩)
 | m,i,out,hi,h0,h1,h2=>by
  have hp:=IsP.ge (p:=p)
  have hp7:=IsP.le (p:=p)
  have w1:IntKind.i64.wrap (p-1)=p-1:=w64 (by omega)
  have w2:IntKind.i64.wrap ((p-1).tdiv 2)=(p-1)/2:=by rw [Int.tdiv_eq_ediv_of_nonneg (by omega),w64 (by omega)]
  cases m with
  | zero=>
   obtain rfl:i=(p-1)/2:=by omega
   exact dn_stop (by simp -implicitDefEqProofs [Z3r_L0,dn_cond,rp,w1,w2])
  | succ m=>
   have hlt:i<(p-1)/2:=by omega
   have gm:=mul_small (x:=out) (y:=s) (b:=10) (c:=10) (by omega) (by omega) (by omega)
   have w3:IntKind.i64.wrap (out*s)=out*s:=w64 (by omega)
   have w4:(out*s).tmod p=out*s%p:=Int.tmod_eq_emod_of_nonneg (Int.mul_nonneg h1 hs.1)
   have w5:IntKind.i64.wrap (i+1)=i+1:=w64 (by omega)
   have hp0:p≠0:=by omega
   refine dn_round ?_ (l_sQuad (O:=O) hs m (i+1) (out*s%p) (by omega) (by omega) (Int.emod_nonneg _ (by omega)) (Int.emod_lt_of_pos _ (by omega)))
   simp -implicitDefEqProofs [Z3r_L0,dn_cond,hlt,w1,w2,w3,w4,w5,hp0]
def K_sQuad (O:Oracle):Prop:=∀(p:Int) [IsP p] (a m:Fp p),m≠0→m.len≤13→a.len≤64→ask O F3r [(D.int .i64 p),(D.arr 64 .leaf (ints .u8 (pad (row a)))),(D.arr 64 .leaf (ints .u8 (pad (row m))))]=some (D.int .i64 (quadI p (symb p a m)))
theorem k_sQuad (hT:T F3r=some Z3r) (hs:K_sSymbol (den T A)):K_sQuad (den T A):=by
 intro p i a m hm hml hal
 have hp:=IsP.ge (p:=p)
 have hp7:=IsP.le (p:=p)
 have e1:=hs p a m hm hml hal
 have e2:=l_sQuad (O:=den T A) (symb_in a m) ((p-1)/2).toNat 0 1 (by omega) (by omega) (by omega) (by omega)
 have w1:IntKind.i64.wrap (p-1)=p-1:=w64 (by omega)
 refine ask_of hT rfl ?_
 unfold quadI
 generalize pad (row a)=PA at *
 generalize pad (row m)=PM at *
 by_cases hc:rp p (symb p a m) ((p-1)/2).toNat 1=p-1
 ·rw [if_pos hc]
  rw [hc] at e2
  simp -implicitDefEqProofs [Z3r,Z3r_B,dn_cond,e1,e2,w1]
 ·rw [if_neg hc]
  simp -implicitDefEqProofs [Z3r,Z3r_B,dn_cond,e1,e2,w1,hc]
def K_sOdd (O:Oracle):Prop:=∀(p:Int) (l:List Int) (most:Nat),Bytes l→l.length=64→most≤100 →
 (codeP p [l]=1→ask O F3p [(D.int .i64 p),(D.arr 64 .leaf (ints .u8 l)),(D.int .i64 most)]=some (D.int .i64 1)) ∧
 (∀(_ip:IsP p) (a:Fp p),a.len≤64→l=pad (row a)→ask O F3p [(D.int .i64 p),(D.arr 64 .leaf (ints .u8 l)),(D.int .i64 most)]=some (D.int .i64 (monOk a most (decide (p≠2)))))
open Classical in
theorem k_sOdd (hT:T F3p=some Z3p) (hc:C_sCode (den T A)) (hmo:K_sMonic (den T A)) (hdg:K_sDeg (den T A)) (hin:C_sIn (den T A)):K_sOdd (den T A):=by
 intro p l most hb hl hmost
 have e1:=hc p [l] (by intro x hx; simp at hx; subst hx; exact ⟨hl,hb⟩) (by simp)
 rw [show List.map arr8 [l]=[(D.arr 64 .leaf (ints .u8 l))] from rfl] at e1
 refine ⟨fun hcc=>?_,fun ip a hal hle=>?_⟩
 ·rw [hcc] at e1
  refine ask_of hT rfl ?_
  simp -implicitDefEqProofs [Z3p,Z3p_B,dn_cond,e1,List.replicate]
 ·subst hle
  rw [codeP_one] at e1
  have e2:=hmo p a hal
  have e4:=hdg p a hal
  have e5:=hin ((a.len:Int)-1) 1 most
  refine ask_of hT rfl ?_
  unfold monOk
  generalize pad (row a)=PA at *
  by_cases hp2:p=2
  ·rw [if_neg (fun h=>by have:=h.2.2.2; simp [hp2] at this)]
   simp -implicitDefEqProofs [Z3p,Z3p_B,hp2,List.replicate]
   subst hp2
   simp -implicitDefEqProofs [e1,dn_cond]
  ·by_cases hM:Monic a
   ·rw [decide_eq_true hM] at e2
    by_cases h2:2≤a.len∧a.len≤most+1
    ·have h3:decide ((1:Int)≤(a.len:Int)-1∧(a.len:Int)-1≤most)=true:=decide_eq_true (by omega)
     rw [h3] at e5
     rw [if_pos ⟨hM,h2.1,h2.2,by simp [hp2]⟩]
     simp -implicitDefEqProofs [Z3p,Z3p_B,dn_cond,e1,e2,e4,e5,hp2,List.replicate]
    ·have h3:decide ((1:Int)≤(a.len:Int)-1∧(a.len:Int)-1≤most)=false:=decide_eq_false (by omega)
     rw [h3] at e5
     rw [if_neg (fun h=>h2 ⟨h.2.1,h.2.2.1⟩)]
     simp -implicitDefEqProofs [Z3p,Z3p_B,dn_cond,e1,e2,e4,e5,hp2,List.replicate]
   ·rw [decide_eq_false hM] at e2
    rw [if_neg (fun h=>hM h.1)]
    simp -implicitDefEqProofs [Z3p,Z3p_B,dn_cond,e1,e2,hp2,List.replicate]
theorem l_sSP0 {O:Oracle} (hcn:K_sCount O) (hof:K_sOf O) (hq:K_sQuad O) {p:Int} [IsP p] {m:Fp p} (hm:m≠0) (hml:m.len≤13) {d:Nat} (hd:p^d≤343) (hd12:d≤12) {st:V} {ob:Blk} (hst:st.refs=[1]):∀(k i:Nat),(i+k:Nat)=p^d →
 dn O 0 (.loop Z2p_L0) ⟨[(0,(.d (.int .i64 p))),(3,.ptr 0 []),(7,st),(8,(.d (.int .i64 d))),(9,(.d (.int .i64 (sumZ (fun k=>quadI p (symb p (numP p (p^d+k)) m)) i)))),(10,(.d (.int .i64 (p^d+i))))],[.box false (D.arr 64 .leaf (ints .u8 (pad (row m)))),ob,.hole,.hole]⟩ =
  some (.exit 2,⟨[(0,(.d (.int .i64 p))),(3,.ptr 0 []),(7,st),(8,(.d (.int .i64 d))),(9,(.d (.int .i64 (sumZ (fun k=>quadI p (symb p (numP p (p^d+k)) m)) (i+k))))),(10,(.d (.int .i64 (2*p^d)))),(42,(.d (.bool false)))],[.box false (D.arr 64 .leaf (ints .u8 (pad (row m)))),ob,.hole,.hole]⟩)
 | k,i,hi=>by
  have hpos:=ppow_pos (p:=p) d
  have e1:=k_sCount' hcn p d hd12
  have w1:IntKind.i64.wrap (2*p^d)=2*p^d:=w64 (by omega)
  cases k with
  | zero=>
   have e2:p^d+(i:Int)=2*p^d:=by omega
   rw [e2,Nat.add_zero]
   refine dn_stop ?_
   generalize pad (row m)=PM at *
   generalize sumZ (fun k=>quadI p (symb p (numP p (p^d+k)) m)) i=S at *
   simp -implicitDefEqProofs [Z2p_L0,dn_cond,e1,w1,hst]
  | succ k=>
   have hlt:p^d+(i:Int)<2*p^d:=by omega
   have e2:=hof p (p^d+i) (by omega) (by omega)
   have e3:=hq p (numP p (p^d+i)) m hm hml (numP_len _)
   have hs:=sumZ_small (f:=fun k=>quadI p (symb p (numP p (p^d+k)) m)) (b:=7) (fun i=>by have:=quadI_in (p:=p) (s:=symb p (numP p (p^d+i)) m); omega) i
   have hs1:=quadI_in (p:=p) (s:=symb p (numP p (p^d+i)) m)
   have w2:IntKind.i64.wrap (sumZ (fun k=>quadI p (symb p (numP p (p^d+k)) m)) i+quadI p (symb p (numP p (p^d+i)) m))=sumZ (fun k=>quadI p (symb p (numP p (p^d+k)) m)) (i+1):=w64 (by omega)
   have w4:IntKind.i64.wrap (p^d+(i:Int)+1)=p^d+((i+1:Nat):Int):=(w64 (x:=p^d+(i:Int)+1) (by omega)).trans (by omega)
   have ih:=l_sSP0 (O:=O) (ob:=ob) hcn hof hq hm hml hd hd12 hst k (i+1) (by omega)
   rw [show i+(k+1)=i+1+k by omega]
   refine dn_round ?_ ih
   generalize hS:sumZ (fun k=>quadI p (symb p (numP p (p^d+k)) m)) i=S at *
   generalize sumZ (fun k=>quadI p (symb p (numP p (p^d+k)) m)) (i+1)=S1 at *
   generalize quadI p (symb p (numP p (p^d+i)) m)=Q at *
   generalize pad (row (numP p (p^d+i)))=PN at *
   generalize pad (row m)=PM at *
   generalize p^d=N at *
   simp -implicitDefEqProofs [Z2p_L0,dn_cond,hlt,e1,e2,e3,w1,w2,w4,hst]
theorem l_sSP1 {O:Oracle} (hcn:K_sCount O) (hof:K_sOf O) (hq:K_sQuad O) (hdg:K_sDeg O) {p:Int} [IsP p] {m:Fp p} (hm:m≠0) (hml:m.len≤6) {n:Nat} (hn:n+1=m.len) (hcnt:∀d,d<n→p^d≤343):∀(k i:Nat) (cp:Option Nat),i+k=n→∃cp':Option Nat,
 dn O 0 (.loop Z2p_L1) ⟨[(0,(.d (.int .i64 p))),(3,.ptr 0 []),(7,.sl 1 [] 0 i cp),(8,(.d (.int .i64 i)))],[.box false (D.arr 64 .leaf (ints .u8 (pad (row m)))),.sl false .leaf (ints .i64 ((List.range i).map (symSum p m))),.hole,.hole]⟩ =
  some (.exit 0,⟨[(0,(.d (.int .i64 p))),(3,.ptr 0 []),(7,.sl 1 [] 0 n cp'),(8,(.d (.int .i64 n))),(31,(.d (.bool false)))],[.box false (D.arr 64 .leaf (ints .u8 (pad (row m)))),.sl false .leaf (ints .i64 ((List.range n).map (symSum p m))),.hole,.hole]⟩)
 | k,i,cp,hi=>by
  have e2:=hdg p m (by omega)
  rw [show ((m.len:Int)-1)=(n:Int) by omega] at e2
  cases k with
  | zero=>
   obtain rfl:i=n:=by omega
   refine ⟨cp,dn_stop ?_⟩
   generalize pad (row m)=PM at *
   simp -implicitDefEqProofs [Z2p_L1,dn_cond,e2]
  | succ k=>
   have hlt:i<n:=by omega
   have hc:=hcnt i hlt
   have hpos:=ppow_pos (p:=p) i
   have e1:=k_sCount' hcn p i (by omega)
   have l0:=l_sSP0 (O:=O) hcn hof hq hm (by omega) (d:=i) hc (by omega) (st:=.sl 1 [] 0 i cp) (ob:=.sl false .leaf (ints .i64 ((List.range i).map (symSum p m)))) rfl (p^i).toNat 0 (by omega)
   have hss:sumZ (fun k=>quadI p (symb p (numP p (p^i+k)) m)) (0+(p^i).toNat)=symSum p m i:=by rw [Nat.zero_add]; rfl
   rw [hss] at l0
   have e0:sumZ (fun k=>quadI p (symb p (numP p (p^i+k)) m)) 0=0:=rfl
   have e00:p^i+((0:Nat):Int)=p^i:=by omega
   rw [e0,e00] at l0
   obtain ⟨cp',ih⟩:=l_sSP1 (O:=O) hcn hof hq hdg hm hml hn hcnt k (i+1) none (by omega)
   have w4:IntKind.i64.wrap ((i:Int)+1)=((i+1:Nat):Int):=(w64 (x:=(i:Int)+1) (by omega)).trans (by omega)
   have h8:(i+1)*8≤1099511627776:=by omega
   have o1:ints .i64 ((List.range (i+1)).map (symSum p m))=ints .i64 ((List.range i).map (symSum p m))++[D.int .i64 (symSum p m i)]:=by
    rw [←range_snoc i (symSum p m),←ints_append]; rfl
   have hL:((List.range i).map (symSum p m)).length=i:=by simp
   have ht:((List.range i).map (symSum p m)).take i=(List.range i).map (symSum p m):=List.take_of_length_le (by simp)
   rw [o1] at ih
   refine ⟨cp',dn_round ?_ ih⟩
   generalize (List.range i).map (symSum p m)=L at *
   generalize symSum p m i=S at *
   generalize p^i=N at *
   generalize pad (row m)=PM at *
   simp -implicitDefEqProofs [Z2p_L1,dn_cond,hlt,e1,e2,l0,w4,h8,hL,ht,List.replicate]
theorem k_sSymbolPolynomial (hT:T F2p=some Z2p) (hod:K_sOdd (den T A)) (hdg:K_sDeg (den T A)) (hcn:K_sCount (den T A)) (hof:K_sOf (den T A)) (hq:K_sQuad (den T A)):K_SymbolPolynomial (den T A) F2p:=by
 intro p l hb hl
 have hc:=hod p l 5 hb hl (by omega)
 have e5:((5:Nat):Int)=5:=rfl
 rw [e5] at hc
 refine ask_of hT rfl ?_
 rcases arg1 p hb hl with ⟨h1,h2⟩ | ⟨ip,a,hal,rfl⟩
 ·rw [symPolyD_bad h1]
  have e1:=hc.1 h1
  simp -implicitDefEqProofs [Z2p,Z2p_B,dn_cond,e1,ints_nil]
 ·rw [symPolyD_good hal]
  have e1:=hc.2 ip a hal rfl
  generalize decide (p≠2)=r at *
  by_cases h0:monOk a 5 r=0
  ·have hM:Monic a∧2≤a.len∧a.len≤5+1∧r=true:=by
    unfold monOk at h0
    split at h0
    ·assumption
    ·omega
   obtain ⟨hM,hl2,hl6,_⟩:=hM
   rw [h0] at e1
   have e3:=hdg p a hal
   have w1:IntKind.i64.wrap ((a.len:Int)-1-1)=((a.len-2:Nat):Int):=(w64 (x:=(a.len:Int)-1-1) (by omega)).trans (by omega)
   have e4:=k_sCount' hcn p (a.len-2) (by omega)
   by_cases h3:p^(a.len-2)≤343
   ·rw [if_pos ⟨h0,h3⟩]
    obtain ⟨cp,e6⟩:=l_sSP1 (O:=den T A) hcn hof hq hdg hM.2 hl6 (n:=a.len-1) (by omega) (fun d hd=>by
     have:=ipow_mono (p:=p) (by have:=IsP.pos (p:=p); omega) (show d≤a.len-2 by omega)
     omega) (a.len-1) 0 (some 0) (Nat.zero_add _)
    have e00:((0:Nat):Int)=0:=rfl
    rw [e00,List.range_zero,List.map_nil,ints_nil] at e6
    have e7:(List.range (a.len-1)).map (symSum p a)=symPoly p a:=rfl
    rw [e7] at e6
    have hL:(symPoly p a).length=a.len-1:=by simp [symPoly]
    have ht:(symPoly p a).take (a.len-1)=symPoly p a:=List.take_of_length_le (by omega)
    have h3':¬ 343<p^(a.len-2):=by omega
    generalize symPoly p a=S at *
    generalize a.len-1=n at *
    generalize pad (row a)=PA at *
    simp -implicitDefEqProofs [Z2p,Z2p_B,dn_cond,e1,e3,e4,w1,e6,hL,ht,h3']
   ·rw [if_neg (fun h=>h3 h.2)]
    have h3':343<p^(a.len-2):=by omega
    generalize pad (row a)=PA at *
    simp -implicitDefEqProofs [Z2p,Z2p_B,dn_cond,e1,e3,e4,w1,h3',ints_nil]
  ·rw [if_neg (fun h=>h0 h.1)]
   have h2:monOk a 5 r=2:=by
    unfold monOk at h0 ⊢
    split
    ·rename_i h; rw [if_pos h] at h0; exact absurd rfl h0
    ·rfl
   rw [h2] at e1
   generalize pad (row a)=PA at *
   simp -implicitDefEqProofs [Z2p,Z2p_B,dn_cond,e1,ints_nil]
theorem l_sClassSum {O:Oracle} {l:List Int} {v:V} (hv:v.refs=[]) (hl:l.length<100000):∀(m i:Nat),i+m=l.length →
 dn O 0 (.loop Z2i_L0) ⟨[(6,(.d (.sl .leaf (ints .i64 l)))),(7,v),(8,(.d (.int .i64 (sumW l i)))),(9,(.d (.int .i64 i)))],[.hole]⟩ =
  some (.exit 0,⟨[(6,(.d (.sl .leaf (ints .i64 l)))),(7,v),(8,(.d (.int .i64 (sumW l l.length)))),(9,(.d (.int .i64 l.length))),(19,(.d (.bool false)))],[.hole]⟩)
 | 0,i,hi=>by
  obtain rfl:i=l.length:=by omega
  exact dn_stop (by simp -implicitDefEqProofs [Z2i_L0,dn_cond,hv])
 | m+1,i,hi=>by
  have hlt:i<l.length:=by omega
  have hx:l[i]=cf l i:=(cf_lt hlt).symm
  have w4:IntKind.i64.wrap ((i:Int)+1)=((i+1:Nat):Int):=(w64 (x:=(i:Int)+1) (by omega)).trans (by omega)
  refine dn_round ?_ (l_sClassSum hv hl m (i+1) (by omega))
  simp -implicitDefEqProofs [Z2i_L0,dn_cond,hlt,hx,w4,hv,sumW]
theorem k_sClassSum (hT:T F2i=some Z2i) (hs:K_SymbolPolynomial (den T A) F2p):K_ClassSum (den T A) F2i:=by
 intro p l hb hl
 have e1:=hs p l hb hl
 obtain ⟨s,c,e2,e3⟩:=symPolyD_form p hb hl
 rw [e2,sumD_eq]
 rw [e2] at e1
 have e4:=l_sClassSum (O:=den T A) (v:=(.d (.int .i64 c))) rfl (l:=s) (by omega) s.length 0 (Nat.zero_add _)
 have e0:((0:Nat):Int)=0:=rfl
 have e00:sumW s 0=0:=rfl
 rw [e0,e00] at e4
 refine ask_of hT rfl ?_
 simp -implicitDefEqProofs [Z2i,Z2i_B,e1,e4]
end Pe



namespace Pe
open Go Gq
variable {T:Nat→Option Fn} {A:Oracle}
open Classical in
def K_isIrr (O:Oracle):Prop:=∀(p:Int) [IsP p] (a:Fp p),a.len≤13→ask O F11 [(D.int .i64 p),(D.sl .leaf (ints .i64 (row a)))]=some (D.bool (decide (Monic a∧Irr a)))
open Classical in
theorem k_isIrr (hT:T F11=some Z11) (hld:C_lead (den T A)) (hdg:C_degree (den T A)) (hf:K_fac (den T A)):K_isIrr (den T A):=by
 intro p i a hal
 have e1:=hld (row a) (by rw [row_length]; omega)
 rw [ld_row] at e1
 have e2:=hdg (row a) (by rw [row_length]; omega)
 rw [row_length] at e2
 refine ask_of hT rfl ?_
 by_cases h1:a.ld=1
 ·have h1':=(rep_one_iff a.ld).2 h1
  have hM:=(monic_iff a).2 h1
  rw [h1'] at e1
  by_cases h2:2≤a.len
  ·obtain ⟨f1,f2,e3⟩:=hf p a hM.2 hal
   have hiff:=irr_fac hM f1
   have hlt:¬ ((a.len:Int)-1<1):=by omega
   have hlt2:¬ ((a.len:Int)<2):=by omega
   have hlt3:(2:Int)≤a.len:=by omega
   have key:(∃q,fac a=[(q,1)])↔(Monic a∧Irr a):=⟨fun h=>⟨hM,hiff.1 h⟩,fun h=>hiff.2 h.2⟩
   generalize fac a=L at *
   cases L with
   | nil=>
    rw [decide_eq_false (fun h0=>by obtain ⟨q,h⟩:=key.2 h0; cases h)]
    simp -implicitDefEqProofs [Z11,Z11_B,dn_cond,e1,e2,e3,hlt]
   | cons x L=>
    cases L with
    | nil=>
     obtain ⟨q,k⟩:=x
     by_cases hk:k=1
     ·subst hk
      rw [decide_eq_true (key.1 ⟨q,rfl⟩)]
      simp -implicitDefEqProofs [Z11,Z11_B,dn_cond,e1,e2,e3,hlt,facD]
     ·rw [decide_eq_false (fun h0=>by obtain ⟨q',h⟩:=key.2 h0; simp at h; exact hk h.2)]
      have hk':¬ ((k:Int)=1):=by omega
      simp -implicitDefEqProofs [Z11,Z11_B,dn_cond,e1,e2,e3,hlt,facD,hk']
    | cons y L=>
     rw [decide_eq_false (fun h0=>by obtain ⟨q',h⟩:=key.2 h0; simp at h)]
     have hk':¬ (((L.length:Int)+1+1)=1):=by omega
     simp -implicitDefEqProofs [Z11,Z11_B,dn_cond,e1,e2,e3,hlt,hk']
  ·have hlt:((a.len:Int)-1<1):=by omega
   have hlt2:((a.len:Int)<2):=by omega
   rw [decide_eq_false (fun h=>h2 h.2.len)]
   simp -implicitDefEqProofs [Z11,Z11_B,dn_cond,e1,e2,hlt]
 ·have h1':=mt (rep_one_iff a.ld).1 h1
  rw [decide_eq_false (fun h=>h1 h.1.1)]
  simp -implicitDefEqProofs [Z11,Z11_B,dn_cond,e1,h1']
structure Fld {p:Int} [IsP p] (m:Fp p):Prop where
 mon:Monic m
 two:2≤m.len
 five:m.len≤5
 irr:Irr m
end Pe

namespace Pe
open Go Gq
variable {T:Nat→Option Fn} {A:Oracle}
abbrev srcB (code:List Int) (at_:Nat) (h:Int):Blk:=.box false (.st [.leaf,.leaf,.leaf] [.sl .leaf (ints .u8 code),.int .i64 at_,.int .u64 h])
def Src (b:Blk):Prop:=∃(code:List Int) (at_:Nat) (h:Int),b=srcB code at_ h∧at_≤code.length∧code.length≤1099511627776∧Bytes code
theorem wrap_u64 {n:Nat} (h:n≤16777215):IntKind.u64.wrap (n:Int)=n:=by
 simp [IntKind.wrap,IntKind.bits,IntKind.signed]; omega
theorem andI_le (x:Int):0≤andI .u64 x 16777215∧andI .u64 x 16777215≤16777215:=by
 have h1:(BitVec.ofInt 64 x &&& BitVec.ofInt 64 16777215).toNat≤16777215:=by
  rw [BitVec.toNat_and]
  exact Nat.and_le_right
 have h2:andI .u64 x 16777215=((BitVec.ofInt 64 x &&& BitVec.ofInt 64 16777215).toNat:Int):=wrap_u64 h1
 rw [h2]
 omega
theorem shr33:(2:Int)^min 33 IntKind.u64.bits=8589934592:=rfl
def H_next (O:Oracle) (F:Nat):Prop:=∀(b:Blk) (n:Int),Src b→n≤4611686018427387904→∃(x:Int) (b':Blk),O F [.ptr 0 [],(.d (.int .i64 n))] [b]=some ((.d (.int .i64 x)),[b'],[])∧Src b'∧0≤x∧(x<n∨x=0)
theorem h_next (hT:T F3a=some Z3a):H_next (den T A) F3a:=by
 rintro b n ⟨code,k,h,rfl,hk,hc,hb⟩ hn
 by_cases h1:n<1
 ·refine ⟨0,_,den_of hT rfl ?_,⟨code,k,h,rfl,hk,hc,hb⟩,Int.le_refl _,.inr rfl⟩
  simp -implicitDefEqProofs [Z3a,Z3a_B,dn_cond,h1]
 ·obtain ⟨hh,hhh⟩:∃hh:Int,IntKind.u64.wrap (IntKind.u64.wrap (h*6364136223846793005)+1442695040888963407)=hh:=⟨_,rfl⟩
  have hx:=andI_le (hh.fdiv 8589934592)
  obtain ⟨x,hX⟩:∃x:Int,andI .u64 (hh.fdiv 8589934592) 16777215=x:=⟨_,rfl⟩
  rw [hX] at hx
  have w0:IntKind.i64.wrap x=x:=w64 (by omega)
  have hn0:¬ n=0:=by omega
  have tm:∀y:Int,0≤y→0≤y.tmod n∧y.tmod n<n:=fun y hy=>by
   rw [Int.tmod_eq_emod_of_nonneg hy]
   exact ⟨Int.emod_nonneg _ hn0,Int.emod_lt_of_pos _ (by omega)⟩
  by_cases h2:k<code.length
  ·have hbk:=hb _ (List.getElem_mem h2)
   have h2':(k:Int)<code.length:=by omega
   have w1:IntKind.i64.wrap code[k]=code[k]:=w64 (by omega)
   have w2:IntKind.i64.wrap (x+code[k])=x+code[k]:=w64 (by omega)
   have w3:IntKind.i64.wrap ((k:Int)+1)=((k+1:Nat):Int):=(w64 (x:=(k:Int)+1) (by omega)).trans (by omega)
   obtain ⟨t1,t2⟩:=tm (x+code[k]) (by omega)
   refine ⟨(x+code[k]).tmod n,srcB code (k+1) hh,den_of hT rfl ?_,⟨code,k+1,hh,rfl,by omega,hc,hb⟩,t1,.inl t2⟩
   simp -implicitDefEqProofs [Z3a,Z3a_B,dn_cond,shiftI,shr33,h1,hn0,h2,h2',hhh,hX,w0,w1,w2,w3]
  ·have h2':¬ (k:Int)<code.length:=by omega
   obtain ⟨t1,t2⟩:=tm x (by omega)
   refine ⟨x.tmod n,srcB code k hh,den_of hT rfl ?_,⟨code,k,hh,rfl,hk,hc,hb⟩,t1,.inl t2⟩
   simp -implicitDefEqProofs [Z3a,Z3a_B,dn_cond,shiftI,shr33,h1,hn0,h2',hhh,hX,w0]
theorem l_from {O:Oracle} {code:List Int} (hc:code.length≤4096) (hb:Bytes code):∀(r i:Nat) (h:Int),i+r=code.length→∃h':Int,
 dn O 0 (.loop Z30_L0) ⟨[(0,.d (.sl .leaf (ints .u8 code))),(3,.ptr 0 []),(4,(.d (.int .i64 i)))],[srcB code 0 h]⟩ =
  some (.exit 0,⟨[(0,.d (.sl .leaf (ints .u8 code))),(3,.ptr 0 []),(4,(.d (.int .i64 code.length))),(19,(.d (.bool false)))],[srcB code 0 h']⟩)
 | 0,i,h,hi=>by
  obtain rfl:i=code.length:=by omega
  refine ⟨h,dn_stop ?_⟩
  simp -implicitDefEqProofs [Z30_L0,dn_cond]
 | r+1,i,h,hi=>by
  have hlt:i<code.length:=by omega
  have hlt':(i:Int)<code.length:=by omega
  have hq:(i:Int)<4096:=by omega
  have hbk:=hb _ (List.getElem_mem hlt)
  have w4:IntKind.i64.wrap ((i:Int)+1)=((i+1:Nat):Int):=(w64 (x:=(i:Int)+1) (by omega)).trans (by omega)
  obtain ⟨h2,hh2⟩:∃h2:Int,IntKind.u64.wrap (IntKind.u64.wrap (IntKind.u64.wrap (h*1099511628211)+IntKind.u64.wrap code[i])+61)=h2:=⟨_,rfl⟩
  obtain ⟨h',ih⟩:=l_from hc hb r (i+1) h2 (by omega)
  refine ⟨h',dn_round ?_ ih⟩
  simp -implicitDefEqProofs [Z30_L0,dn_cond,hlt,hlt',hq,w4,hh2]
def H_from (O:Oracle):Prop:=∀code:List Int,Bytes code→code.length≤4096→∃b:Blk,O F30 [.d (.sl .leaf (ints .u8 code))] []=some (.ptr 0 [],[],[b])∧Src b
theorem h_from (hT:T F30=some Z30):H_from (den T A):=by
 intro code hb hc
 obtain ⟨h0,hh0⟩:∃h0:Int,IntKind.u64.wrap (12251+IntKind.u64.wrap (code.length:Int))=h0:=⟨_,rfl⟩
 obtain ⟨h',e⟩:=l_from (O:=den T A) hc hb code.length 0 h0 (Nat.zero_add _)
 rw [show ((0:Nat):Int)=0 from rfl,show srcB code 0 h0=.box false (.st [.leaf,.leaf,.leaf] [.sl .leaf (ints .u8 code),.int .i64 0,.int .u64 h0]) from rfl] at e
 refine ⟨srcB code 0 h',den_of hT rfl ?_,⟨code,0,h',rfl,Nat.zero_le _,by omega,hb⟩⟩
 simp -implicitDefEqProofs [Z30,Z30_B,hh0,e,List.idxOf,List.findIdx,List.findIdx.go]
def H_pick (O:Oracle):Prop:=∀(b:Blk) (l:List Int) (n:Nat) (cp:Option Nat),Src b→l.length=n→0<n→n≤100→∃(x:Int) (b':Blk),O F3d [.ptr 0 [],.sl 1 [] 0 n cp] [b,.sl false .leaf (ints .i64 l)]=some ((.d (.int .i64 x)),[b',.sl false .leaf (ints .i64 l)],[])∧Src b'∧x∈l
theorem h_pick (hT:T F3d=some Z3d) (hn:H_next (den T A) F3a):H_pick (den T A):=by
 rintro b l n cp hs hl hpos hm
 obtain ⟨x,b',e,hs',h0,h1⟩:=hn b n hs (by omega)
 obtain ⟨k,rfl⟩:∃k:Nat,x=k:=⟨x.toNat,by omega⟩
 have hk:k<n:=by omega
 have hkl:k<l.length:=by omega
 obtain ⟨c,a,h,rfl,_⟩:=id hs
 obtain ⟨c',a',h',rfl,_⟩:=id hs'
 refine ⟨l[k],_,den_of hT rfl ?_,hs',List.getElem_mem hkl⟩
 simp -implicitDefEqProofs [Z3d,Z3d_B,e,hk,hl,List.idxOf,List.findIdx,List.findIdx.go]
end Pe

namespace Pe
open Go Gq
variable {T:Nat→Option Fn} {A:Oracle}
structure DrI (p:Int) (Q:List Int) (n:Nat):Prop where
 l:Q.length=64
 c:Can p Q
 z:∀j,n≤j→cf Q j=0
theorem DrI.set {p:Int} {Q:List Int} {n k:Nat} {x:Int} (h:DrI p Q n) (h0:0≤x) (h1:x<p) (hk:k<n):DrI p (Q.set k x) n:=
 ⟨by rw [List.length_set]; exact h.l,fun y hy=>by
  rcases List.mem_or_eq_of_mem_set hy with g | rfl
  ·exact h.c y g
  ·exact ⟨h0,h1⟩,fun j hj=>by rw [cf_set,if_neg (by omega)]; exact h.z j hj⟩
section
variable {p:Int} [IsP p]
theorem DrI.pol {Q:List Int} {n:Nat} (h:DrI p Q n):Q=pad (row (polOf p Q))∧(polOf p Q).len≤n:=
 ⟨pad_of h.c h.l,Pol.len_le fun j hj=>by rw [polOf_c,h.z j hj]; rfl⟩
theorem l_draw {O:Oracle} (hn:H_next O F3a) {b1:Blk} {n:Nat} (hn64:n≤64):∀(k:Nat) (b:Blk) (Q:List Int),k≤n→Src b→DrI p Q n→∃(b':Blk) (Q':List Int),Src b'∧DrI p Q' n ∧
 dn O 1 (.loop ir_spec_l01Draw_L0) ⟨[(0,.ptr 0 []),(1,(.d (.int .i64 p))),(6,.ptr 1 []),(7,.ptr 2 []),(8,(.d (.int .i64 ((k:Int)-1))))],[b,b1,.box false (D.arr 64 .leaf (ints .u8 Q))]⟩ =
  some (.exit 0,⟨[(0,.ptr 0 []),(1,(.d (.int .i64 p))),(6,.ptr 1 []),(7,.ptr 2 []),(8,(.d (.int .i64 (-1)))),(16,(.d (.bool false)))],[b',b1,.box false (D.arr 64 .leaf (ints .u8 Q'))]⟩)
 | 0,b,Q,hk,hs,hQ=>by
  refine ⟨b,Q,hs,hQ,dn_stop ?_⟩
  obtain ⟨c,a,h,rfl,_⟩:=hs
  simp -implicitDefEqProofs [ir_spec_l01Draw_L0,dn_cond]
 | k+1,b,Q,hk,hs,hQ=>by
  have hp:=IsP.ge (p:=p)
  have hp7:=IsP.le (p:=p)
  obtain ⟨x,b2,e1,hs2,x0,x1⟩:=hn b 3 hs (by omega)
  have w1:IntKind.i64.wrap ((((k+1:Nat):Int)-1)-1)=(k:Int)-1:=(w64 (by omega)).trans (by omega)
  have hk1:((k+1:Nat):Int)-1=(k:Int):=by omega
  rw [hk1] at w1 ⊢
  have hge:(0:Int)≤k:=by omega
  have hkQ:k<Q.length:=by rw [hQ.l]; omega
  have hk64:k<64:=by omega
  by_cases hx:0<x
  ·obtain ⟨y,b3,e2,hs3,y0,y1⟩:=hn b2 p hs2 (by omega)
   have w2:IntKind.u8.wrap y=y:=w8 (by omega)
   obtain ⟨b',Q',hs',hQ',ih⟩:=l_draw hn (b1:=b1) hn64 k b3 (Q.set k y) (by omega) hs3 (hQ.set y0 (by omega) (by omega))
   refine ⟨b',Q',hs',hQ',dn_round ?_ ih⟩
   obtain ⟨c,a,h,rfl,_⟩:=hs
   obtain ⟨c2,a2,h2,rfl,_⟩:=hs2
   obtain ⟨c3,a3,h3,rfl,_⟩:=hs3
   simp -implicitDefEqProofs [ir_spec_l01Draw_L0,dn_cond,hge,e1,e2,hx,w1,w2,hkQ,hk64,List.idxOf,List.findIdx,List.findIdx.go]
  ·obtain ⟨b',Q',hs',hQ',ih⟩:=l_draw hn (b1:=b1) hn64 k b2 Q (by omega) hs2 hQ
   refine ⟨b',Q',hs',hQ',dn_round ?_ ih⟩
   obtain ⟨c,a,h,rfl,_⟩:=hs
   obtain ⟨c2,a2,h2,rfl,_⟩:=hs2
   simp -implicitDefEqProofs [ir_spec_l01Draw_L0,dn_cond,hge,e1,hx,w1,List.idxOf,List.findIdx,List.findIdx.go]
end
theorem DrI.zero (p:Int) [IsP p] (n:Nat):DrI p (pad []) n:=
 ⟨pad_length _,fun x hx=>by
  have hp:=IsP.ge (p:=p)
  have:x=0:=by
   unfold pad at hx
   obtain ⟨a,_,rfl⟩:∃a,a<64∧cf [] a=x:=by simpa using hx
   exact cf_ge (Nat.zero_le _)
  omega,fun j _=>(pad_cf (l:=[]) (by simp) j).trans (cf_ge (Nat.zero_le _))⟩
def H_draw (O:Oracle):Prop:=∀(p:Int) [IsP p] (b:Blk) (n:Nat),Src b→n≤63→∃(a:Fp p) (b':Blk),O F2y [.ptr 0 [],(.d (.int .i64 p)),(.d (.int .i64 ((n:Int))))] [b]=some (.d (D.arr 64 .leaf (ints .u8 (pad (row a)))),[b'],[])∧Src b'∧a.len≤n+1
theorem h_draw (hT:T F2y=some Z2y) (hn:H_next (den T A) F3a):H_draw (den T A):=by
 intro p ip b n hs h63
 obtain ⟨x,b2,e1,hs2,x0,x1⟩:=hn b ((n:Int)+2) hs (by omega)
 obtain ⟨k,rfl⟩:∃k:Nat,x=k:=⟨x.toNat,by omega⟩
 have w0:IntKind.i64.wrap ((n:Int)+2)=(n:Int)+2:=w64 (by omega)
 have w1:IntKind.i64.wrap ((k:Int)-1)=(k:Int)-1:=w64 (by omega)
 obtain ⟨b',Q,hs',hQ,e2⟩:=l_draw (p:=p) hn (b1:=.box false (D.arr 64 .leaf (ints .u8 (pad [])))) (n:=n+1) (by omega) k b2 (pad []) (by omega) hs2 (.zero p _)
 obtain ⟨q1,q2⟩:=hQ.pol
 refine ⟨polOf p Q,b',den_of hT rfl ?_,hs',q2⟩
 rw [←q1]
 obtain ⟨c,a,h,rfl,_⟩:=hs
 obtain ⟨c2,a2,h2,rfl,_⟩:=hs2
 obtain ⟨c',a',h',rfl,_⟩:=hs'
 simp -implicitDefEqProofs [Z2y,ir_spec_l01Draw_B,w0,e1,w1,e2,List.replicate,List.idxOf,List.findIdx,List.findIdx.go]
theorem l_mod0 {O:Oracle} (hn:H_next O F3a) {p:Int} [IsP p] {b1:Blk} {n:Nat} {most k:Int} (hn62:n≤62):∀(r i:Nat) (b:Blk) (Q:List Int),i+r=n→Src b→DrI p Q n→∃(b':Blk) (Q':List Int),Src b'∧DrI p Q' n ∧
 dn O 1 (.loop Z2z_L0) ⟨[(0,.ptr 0 []),(1,(.d (.int .i64 p))),(2,(.d (.int .i64 most))),(6,.ptr 1 []),(7,.ptr 2 []),(8,(.d (.int .i64 k))),(9,(.d (.int .i64 n))),(10,(.d (.int .i64 i)))],[b,b1,.box false (D.arr 64 .leaf (ints .u8 Q))]⟩ =
  some (.exit 2,⟨[(0,.ptr 0 []),(1,(.d (.int .i64 p))),(2,(.d (.int .i64 most))),(6,.ptr 1 []),(7,.ptr 2 []),(8,(.d (.int .i64 k))),(9,(.d (.int .i64 n))),(10,(.d (.int .i64 n))),(23,(.d (.bool false)))],[b',b1,.box false (D.arr 64 .leaf (ints .u8 Q'))]⟩)
 | 0,i,b,Q,hi,hs,hQ=>by
  obtain rfl:i=n:=by omega
  refine ⟨b,Q,hs,hQ,dn_stop ?_⟩
  obtain ⟨c,a,h,rfl,_⟩:=hs
  simp -implicitDefEqProofs [Z2z_L0,dn_cond]
 | r+1,i,b,Q,hi,hs,hQ=>by
  have hp:=IsP.ge (p:=p)
  have hp7:=IsP.le (p:=p)
  obtain ⟨y,b3,e2,hs3,y0,y1⟩:=hn b p hs (by omega)
  have w2:IntKind.u8.wrap y=y:=w8 (by omega)
  have w4:IntKind.i64.wrap ((i:Int)+1)=((i+1:Nat):Int):=(w64 (x:=(i:Int)+1) (by omega)).trans (by omega)
  have hlt:i<n:=by omega
  have hiQ:i<Q.length:=by rw [hQ.l]; omega
  have hi64:i<64:=by omega
  obtain ⟨b',Q',hs',hQ',ih⟩:=l_mod0 hn (b1:=b1) (most:=most) (k:=k) hn62 r (i+1) b3 (Q.set i y) (by omega) hs3 (hQ.set y0 (by omega) hlt)
  refine ⟨b',Q',hs',hQ',dn_round ?_ ih⟩
  obtain ⟨c,a,h,rfl,_⟩:=hs
  obtain ⟨c3,a3,h3,rfl,_⟩:=hs3
  simp -implicitDefEqProofs [Z2z_L0,dn_cond,hlt,e2,w2,w4,hiQ,hi64,List.idxOf,List.findIdx,List.findIdx.go]
theorem DrI.up {p:Int} {Q:List Int} {n m:Nat} (h:DrI p Q n) (hm:n≤m):DrI p Q m:=⟨h.l,h.c,fun j hj=>h.z j (by omega)⟩
theorem DrI.mod {p:Int} [IsP p] {Q:List Int} {n:Nat} (h:DrI p Q n) (hn:n≤62):∃a:Fp p,Q.set n 1=pad (row a)∧a.len=n+1∧Monic a:=by
 have hp:=IsP.ge (p:=p)
 have h1:DrI p (Q.set n 1) (n+1):=(h.up (Nat.le_succ n)).set (by omega) (by omega) (Nat.lt_succ_self n)
 obtain ⟨q1,q2⟩:=h1.pol
 have hc:(polOf p (Q.set n 1)).c n=1:=by
  rw [polOf_c,cf_set,if_pos ⟨rfl,by rw [h.l]; omega⟩,zp_one]
 have hne:(polOf p (Q.set n 1)).c n≠0:=by
  rw [hc]; exact Fd.one_ne
 have hl:(polOf p (Q.set n 1)).len=n+1:=Pol.len_eq (Pol.lt_iff.2 q2) hne
 have h0:polOf p (Q.set n 1)≠0:=fun h=>by rw [h,Pol.len_zero] at hl; omega
 exact ⟨polOf p (Q.set n 1),q1,hl,⟨by unfold Pol.ld; rw [hl]; exact hc,h0⟩⟩
open Classical in
theorem l_mod1 {O:Oracle} (hn:H_next O F3a) (hir:K_sIrr O) {p:Int} [IsP p] {z:List Int} {most:Int} (hm1:1≤most) (hm2:most≤12):∀(r k:Nat) (b:Blk) (a:Fp p),k+r=4→Src b→2≤a.len→a.len≤most+1→Monic a→∃(b':Blk) (a':Fp p),Src b'∧2≤a'.len∧a'.len≤most+1∧Monic a' ∧
 (dn O 1 (.loop Z2z_L1) ⟨[(0,.ptr 0 []),(1,(.d (.int .i64 p))),(2,(.d (.int .i64 most))),(6,.ptr 1 []),(7,.ptr 2 []),(8,(.d (.int .i64 k)))],[b,.box false (D.arr 64 .leaf (ints .u8 z)),.box false (D.arr 64 .leaf (ints .u8 (pad (row a))))]⟩ =
  some (.exit 0,⟨[(0,.ptr 0 []),(1,(.d (.int .i64 p))),(2,(.d (.int .i64 most))),(6,.ptr 1 []),(7,.ptr 2 []),(8,(.d (.int .i64 4))),(13,(.d (.bool false)))],[b',.box false (D.arr 64 .leaf (ints .u8 z)),.box false (D.arr 64 .leaf (ints .u8 (pad (row a'))))]⟩) ∨
 dn O 1 (.loop Z2z_L1) ⟨[(0,.ptr 0 []),(1,(.d (.int .i64 p))),(2,(.d (.int .i64 most))),(6,.ptr 1 []),(7,.ptr 2 []),(8,(.d (.int .i64 k)))],[b,.box false (D.arr 64 .leaf (ints .u8 z)),.box false (D.arr 64 .leaf (ints .u8 (pad (row a))))]⟩ =
  some (.ret,⟨[(6,.ptr 1 [])],[b',.box false (D.arr 64 .leaf (ints .u8 (pad (row a')))),.hole]⟩))
 | 0,k,b,a,hk,hs,h2,hl,hm=>by
  obtain rfl:k=4:=by omega
  refine ⟨b,a,hs,h2,hl,hm,.inl (dn_stop ?_)⟩
  obtain ⟨c,a,h,rfl,_⟩:=hs
  simp -implicitDefEqProofs [Z2z_L1,dn_cond]
 | r+1,k,b,a,hk,hs,h2,hl,hm=>by
  have hk4:(k:Int)<4:=by omega
  obtain ⟨x,b2,e1,hs2,x0,x1⟩:=hn b most hs (by omega)
  obtain ⟨n,hn1⟩:∃n:Nat,1+x=n:=⟨(1+x).toNat,by omega⟩
  have w1:IntKind.i64.wrap (1+x)=n:=(w64 (by omega)).trans hn1
  obtain ⟨b3,Q,hs3,hQ,st⟩:=l_mod0 hn (p:=p) (b1:=.box false (D.arr 64 .leaf (ints .u8 z))) (n:=n) (most:=most) (k:=k) (by omega) n 0 b2 (pad []) (Nat.zero_add _) hs2 (.zero p _)
  rw [show ((0:Nat):Int)=0 from rfl] at st
  obtain ⟨a',q1,q2,q3⟩:=hQ.mod (by omega)
  have hnQ:n<Q.length:=by rw [hQ.l]; omega
  have hn64:n<64:=by omega
  obtain ⟨y,b4,e2,hs4,y0,y1⟩:=hn b3 3 hs3 (by omega)
  have w4:IntKind.i64.wrap ((k:Int)+1)=((k+1:Nat):Int):=(w64 (x:=(k:Int)+1) (by omega)).trans (by omega)
  have e3:=hir p a' q3.2 (by omega)
  obtain ⟨b',a2,g1,g2,g3,g4,ih⟩:=l_mod1 hn hir (z:=z) hm1 hm2 r (k+1) b4 a' (by omega) hs4 (by omega) (by omega) q3
  by_cases hy:y=0
  ·refine ⟨b4,a',hs4,by omega,by omega,q3,.inr (dn_back ?_)⟩
   obtain ⟨c,a0,h,rfl,_⟩:=hs
   obtain ⟨c2,a2,h2,rfl,_⟩:=hs2
   obtain ⟨c3,a3,h3,rfl,_⟩:=hs3
   obtain ⟨c4,a4,h4,rfl,_⟩:=hs4
   generalize pad (row a)=Pa at *
   generalize hPQ:Q.set n 1=PQ at *
   generalize pad (row a')=Pb at *
   subst q1
   simp -implicitDefEqProofs [Z2z_L1,dn_cond,hk4,e1,w1,st,hnQ,hn64,hPQ,e2,hy,List.idxOf,List.findIdx,List.findIdx.go]
  ·by_cases hI:Irr a'
   ·refine ⟨b4,a',hs4,by omega,by omega,q3,.inr (dn_back ?_)⟩
    rw [decide_eq_true hI] at e3
    obtain ⟨c,a0,h,rfl,_⟩:=hs
    obtain ⟨c2,a2,h2,rfl,_⟩:=hs2
    obtain ⟨c3,a3,h3,rfl,_⟩:=hs3
    obtain ⟨c4,a4,h4,rfl,_⟩:=hs4
    generalize pad (row a)=Pa at *
    generalize hPQ:Q.set n 1=PQ at *
    generalize pad (row a')=Pb at *
    subst q1
    simp -implicitDefEqProofs [Z2z_L1,dn_cond,hk4,e1,w1,st,hnQ,hn64,hPQ,e2,e3,hy,List.idxOf,List.findIdx,List.findIdx.go]
   ·rw [decide_eq_false hI] at e3
    have key:dn O 1 Z2z_L1 ⟨[(0,.ptr 0 []),(1,(.d (.int .i64 p))),(2,(.d (.int .i64 most))),(6,.ptr 1 []),(7,.ptr 2 []),(8,(.d (.int .i64 k)))],[b,.box false (D.arr 64 .leaf (ints .u8 z)),.box false (D.arr 64 .leaf (ints .u8 (pad (row a))))]⟩=some (.normal,⟨[(0,.ptr 0 []),(1,(.d (.int .i64 p))),(2,(.d (.int .i64 most))),(6,.ptr 1 []),(7,.ptr 2 []),(8,(.d (.int .i64 (((k+1:Nat):Int)))))],[b4,.box false (D.arr 64 .leaf (ints .u8 z)),.box false (D.arr 64 .leaf (ints .u8 (pad (row a'))))]⟩):=by
     obtain ⟨c,a0,h,rfl,_⟩:=hs
     obtain ⟨c2,a2,h2,rfl,_⟩:=hs2
     obtain ⟨c3,a3,h3,rfl,_⟩:=hs3
     obtain ⟨c4,a4,h4,rfl,_⟩:=hs4
     generalize pad (row a)=Pa at *
     generalize hPQ:Q.set n 1=PQ at *
     generalize pad (row a')=Pb at *
     subst q1
     simp -implicitDefEqProofs [Z2z_L1,dn_cond,hk4,e1,w1,st,hnQ,hn64,hPQ,e2,e3,hy,w4,List.idxOf,List.findIdx,List.findIdx.go]
    exact ⟨b',a2,g1,g2,g3,g4,ih.imp (dn_round key) (dn_round key)⟩
def H_drawMod (O:Oracle):Prop:=∀(p:Int) [IsP p] (b:Blk) (most:Int),Src b→1≤most→most≤12→∃(a:Fp p) (b':Blk),O F2z [.ptr 0 [],(.d (.int .i64 p)),(.d (.int .i64 most))] [b]=some (.d (D.arr 64 .leaf (ints .u8 (pad (row a)))),[b'],[])∧Src b'∧2≤a.len∧a.len≤most+1∧Monic a
theorem h_drawMod (hT:T F2z=some Z2z) (hn:H_next (den T A) F3a) (ht:K_sT (den T A)) (hir:K_sIrr (den T A)):H_drawMod (den T A):=by
 intro p ip b most hs hm1 hm2
 have e0:=ht p
 have hX:(Pol.X:Fp p).len=2:=Pol.len_X
 obtain ⟨b',a',g1,g2,g3,g4,e | e⟩:=l_mod1 (O:=den T A) hn hir (z:=pad []) hm1 hm2 4 0 b (Pol.X:Fp p) rfl hs (by omega) (by omega) ⟨by unfold Pol.ld; rw [Pol.len_X]; rfl,Pol.X_ne⟩
 ·refine ⟨a',b',den_of hT rfl ?_,g1,g2,g3,g4⟩
  rw [show ((0:Nat):Int)=0 from rfl] at e
  obtain ⟨c,a0,h,rfl,_⟩:=hs
  obtain ⟨c2,a2,h2,rfl,_⟩:=g1
  generalize pad (row a')=Pb at *
  generalize pad (row (Pol.X:Fp p))=Pt at *
  simp -implicitDefEqProofs [Z2z,Z2z_B,e0,e,List.replicate,List.idxOf,List.findIdx]
 ·refine ⟨a',b',den_of hT rfl ?_,g1,g2,g3,g4⟩
  rw [show ((0:Nat):Int)=0 from rfl] at e
  obtain ⟨c,a0,h,rfl,_⟩:=hs
  obtain ⟨c2,a2,h2,rfl,_⟩:=g1
  generalize pad (row a')=Pb at *
  generalize pad (row (Pol.X:Fp p))=Pt at *
  simp -implicitDefEqProofs [Z2z,Z2z_B,e0,e,List.replicate,List.idxOf,List.findIdx]
def H_bad (O:Oracle):Prop:=∀(b:Blk) (p:Int) (l:List Int),Src b→0≤p→p<256→l.length=64→Bytes l→∃(l':List Int) (b':Blk),O F2s [.ptr 0 [],(.d (.int .i64 p)),.d (D.arr 64 .leaf (ints .u8 l))] [b]=some (.d (D.arr 64 .leaf (ints .u8 l')),[b'],[])∧Src b'∧l'.length=64∧Bytes l'
theorem h_bad (hT:T F2s=some Z2s) (hn:H_next (den T A) F3a) (hp:H_pick (den T A)):H_bad (den T A):=by
 intro b p l hs p0 p1 hl hb
 obtain ⟨x,b2,e1,hs2,x0,x1⟩:=hn b 40 hs (by omega)
 by_cases hx:x=0
 ·obtain ⟨y,b3,e2,hs3,y0,y1⟩:=hn b2 64 hs2 (by omega)
  obtain ⟨k,rfl⟩:∃k:Nat,y=k:=⟨y.toNat,by omega⟩
  obtain ⟨v,b4,e3,hs4,hv⟩:=hp b3 [p,7,255,1] 4 (some 4) hs3 rfl (by omega) (by omega)
  rw [show ints .i64 [p,7,255,1]=[.int .i64 p,.int .i64 7,.int .i64 255,.int .i64 1] from rfl] at e3
  have hv2:0≤v∧v<256:=by simp at hv; omega
  have w1:IntKind.u8.wrap v=v:=w8 hv2
  have hk:k<64:=by omega
  refine ⟨l.set k v,b4,den_of hT rfl ?_,hs4,by rw [List.length_set]; exact hl,fun z hz=>by
   rcases List.mem_or_eq_of_mem_set hz with g | rfl
   ·exact hb z g
   ·exact hv2⟩
  subst hx
  obtain ⟨c,a0,h,rfl,_⟩:=hs
  obtain ⟨c2,a2,h2,rfl,_⟩:=hs2
  obtain ⟨c3,a3,h3,rfl,_⟩:=hs3
  obtain ⟨c4,a4,h4,rfl,_⟩:=hs4
  simp -implicitDefEqProofs [Z2s,Z2s_B,dn_cond,e1,e2,e3,w1,hk,hl,List.replicate,List.idxOf,List.findIdx,List.findIdx.go]
 ·refine ⟨l,b2,den_of hT rfl ?_,hs2,hl,hb⟩
  obtain ⟨c,a0,h,rfl,_⟩:=hs
  obtain ⟨c2,a2,h2,rfl,_⟩:=hs2
  simp -implicitDefEqProofs [Z2s,Z2s_B,dn_cond,e1,hx,List.replicate,List.idxOf,List.findIdx,List.findIdx.go]
end Pe

namespace Gq
def Pr (l:Nat):Prop:=2≤l∧∀d,d∣l→d=1∨d=l
theorem Pr.coprime {l n:Nat} (h:Pr l) (hn:¬ l∣n):Nat.Coprime l n:=by
 rcases h.2 _ (Nat.gcd_dvd_left l n) with h1 | h1
 ·exact h1
 ·exact absurd (h1▸Nat.gcd_dvd_right l n) hn
theorem pr_ex:∀(n:Nat),2≤n→∃l,Pr l∧l∣n:=by
 intro n
 induction n using Nat.strongRecOn with
 | ind n ih=>
  intro hn
  by_cases h:Pr n
  ·exact ⟨n,h,Nat.dvd_refl n⟩
  ·have:∃d,d∣n∧d≠1∧d≠n:=by
    apply Classical.byContradiction
    intro hno
    refine h ⟨hn,fun d hd=>?_⟩
    apply Classical.byContradiction
    intro h2
    exact hno ⟨d,hd,fun e=>h2 (.inl e),fun e=>h2 (.inr e)⟩
   obtain ⟨d,hd,h1,h2⟩:=this
   have hle:=Nat.le_of_dvd (by omega) hd
   have h0:d≠0:=fun e=>by
    rw [e] at hd
    have:=Nat.eq_zero_of_zero_dvd hd
    omega
   obtain ⟨l,hl,hld⟩:=ih d (by omega) (by omega)
   exact ⟨l,hl,Nat.dvd_trans hld hd⟩
theorem Pr.dvd_mul {l a b:Nat} (h:Pr l) (hd:l∣a*b):l∣a∨l∣b:=by
 by_cases ha:l∣a
 ·exact .inl ha
 ·exact .inr ((h.coprime ha).dvd_of_dvd_mul_left hd)
theorem Pr.dvd_pr {l q:Nat} (h:Pr l) (hq:Pr q) (hd:l∣q):l=q:=by
 rcases hq.2 l hd with h1 | h1
 ·have:=h.1; omega
 ·exact h1
theorem one_of {n:Nat} (h0:1≤n) (h:∀l,Pr l→¬ l∣n):n=1:=by
 apply Classical.byContradiction
 intro h1
 obtain ⟨l,hl,hd⟩:=pr_ex n (by omega)
 exact h l hl hd
section
variable {R:Type} [CR R]
theorem pw_dvd {x:R} {n k:Nat} (h:pw x n=1) (hd:n∣k):pw x k=1:=by
 obtain ⟨c,rfl⟩:=hd
 rw [←pw_pw,h,pw_one]
def Ord (x:R) (n:Nat):Prop:=∀k,pw x k=1↔n∣k
theorem Ord.self {x:R} {n:Nat} (h:Ord x n):pw x n=1:=(h n).2 (Nat.dvd_refl n)
theorem Ord.unique {x:R} {n m:Nat} (h:Ord x n) (h':Ord x m):n=m:=Nat.dvd_antisymm ((h m).1 h'.self) ((h' n).1 h.self)
theorem Ord.mul {a b:R} {m n:Nat} (ha:Ord a m) (hb:Ord b n) (h:Nat.Coprime m n):Ord (a*b) (m*n):=fun k=>by
 constructor
 ·intro hk
  have h1:m∣k:=by
   have e:pw a (k*n)=1:=by
    have e1:pw (a*b) (k*n)=1:=by rw [←pw_pw,hk,pw_one]
    rw [pw_mul,pw_dvd hb.self (Nat.dvd_mul_left n k),mul_one] at e1
    exact e1
   exact h.dvd_of_dvd_mul_right ((ha _).1 e)
  have h2:n∣k:=by
   have e:pw b (k*m)=1:=by
    have e1:pw (a*b) (k*m)=1:=by rw [←pw_pw,hk,pw_one]
    rw [pw_mul,pw_dvd ha.self (Nat.dvd_mul_left m k),one_mul] at e1
    exact e1
   exact h.symm.dvd_of_dvd_mul_right ((hb _).1 e)
  exact h.mul_dvd_of_dvd_of_dvd h1 h2
 ·intro hd
  rw [pw_mul,pw_dvd ha.self (Nat.dvd_trans (Nat.dvd_mul_right m n) hd),pw_dvd hb.self (Nat.dvd_trans (Nat.dvd_mul_left n m) hd),mul_one]
end
structure OrdI (n q rest order:Nat) (fin:Bool):Prop where
 dv:n∣order
 pos:1≤order
 low:∀l,Pr l→l<q→¬ l*n∣order∧¬ l∣rest
 rel:∃c,order=rest*c∧(∀l,Pr l→q<l→¬ l∣c)∧(fin=false→Pr q→¬ q∣c)
 fin:fin=true→¬ q*n∣order
theorem OrdI.rest_pos {n q rest order:Nat} {f:Bool} (h:OrdI n q rest order f):1≤rest:=by
 obtain ⟨c,e,-⟩:=h.rel
 have:=h.pos
 rcases Nat.eq_zero_or_pos rest with h0 | h0
 ·rw [h0,Nat.zero_mul] at e; omega
 ·exact h0
theorem OrdI.init {n N:Nat} (hN:1≤N) (h:n∣N):OrdI n 2 N N false where
 dv:=h
 pos:=hN
 low:=fun l hl h2=>by have:=hl.1; omega
 rel:=⟨1,(Nat.mul_one N).symm,fun l hl _ hd=>by have:=hl.1; have:=Nat.le_of_dvd (by omega) hd; omega,fun _ hq hd=>by have:=hq.1; have:=Nat.le_of_dvd (by omega) hd; omega⟩
 fin:=fun h=>by cases h
theorem OrdI.prime {n q rest order:Nat} {f:Bool} (h:OrdI n q rest order f) (h2:2≤q) (hd:q∣rest):Pr q:=by
 obtain ⟨l,hl,hlq⟩:=pr_ex q h2
 rcases Nat.lt_or_ge l q with h1 | h1
 ·exact absurd (Nat.dvd_trans hlq hd) (h.low l hl h1).2
 ·have:=Nat.le_of_dvd (by omega) hlq
  obtain rfl:l=q:=by omega
  exact hl
theorem OrdI.yes {n q r c':Nat} {f:Bool} (h:OrdI n q (q*r) (q*c') f) (h2:2≤q) (hd:n∣c'):OrdI n q r c' f where
 dv:=hd
 pos:=by
  have:=h.pos
  rcases Nat.eq_zero_or_pos c' with h0 | h0
  ·rw [h0,Nat.mul_zero] at this; omega
  ·exact h0
 low:=fun l hl h1=>by
  obtain ⟨a,b⟩:=h.low l hl h1
  exact ⟨fun e=>a (Nat.dvd_trans e (Nat.dvd_mul_left c' q)),fun e=>b (Nat.dvd_trans e (Nat.dvd_mul_left r q))⟩
 rel:=by
  obtain ⟨c,e,h3,h4⟩:=h.rel
  refine ⟨c,?_,h3,h4⟩
  rw [Nat.mul_assoc] at e
  exact Nat.eq_of_mul_eq_mul_left (by omega) e
 fin:=fun hf e=>h.fin hf (Nat.dvd_trans e (Nat.dvd_mul_left c' q))
theorem OrdI.no {n q r c':Nat} {f:Bool} (h:OrdI n q (q*r) (q*c') f) (h2:2≤q) (hd:¬ n∣c'):OrdI n q r (q*c') true where
 dv:=h.dv
 pos:=h.pos
 low:=fun l hl h1=>by
  obtain ⟨a,b⟩:=h.low l hl h1
  exact ⟨a,fun e=>b (Nat.dvd_trans e (Nat.dvd_mul_left r q))⟩
 rel:=by
  have hq:=h.prime h2 (Nat.dvd_mul_right q r)
  obtain ⟨c,e,h3,_⟩:=h.rel
  refine ⟨q*c,by rw [e,Nat.mul_assoc,Nat.mul_left_comm],fun l hl h4 hl2=>?_,fun hf=>by cases hf⟩
  rcases hl.dvd_mul hl2 with h5 | h5
  ·have:=hl.dvd_pr hq h5; omega
  ·exact h3 l hl h4 h5
 fin:=fun _ e=>hd (Nat.dvd_of_mul_dvd_mul_left (by omega) e)
theorem OrdI.next {n q rest order:Nat} {f:Bool} (h:OrdI n q rest order f) (h2:2≤q) (hd:¬ q∣rest):OrdI n (q+1) rest order false where
 dv:=h.dv
 pos:=h.pos
 low:=fun l hl h1=>by
  rcases Nat.lt_or_ge l q with h3 | h3
  ·exact h.low l hl h3
  ·obtain rfl:l=q:=by omega
   refine ⟨fun e=>?_,hd⟩
   cases f with
   | true=>exact h.fin rfl e
   | false=>
    obtain ⟨c,e1,_,h5⟩:=h.rel
    have:l∣rest*c:=e1▸Nat.dvd_trans (Nat.dvd_mul_right l n) e
    rcases hl.dvd_mul this with h6 | h6
    ·exact hd h6
    ·exact h5 rfl hl h6
 rel:=by
  obtain ⟨c,e1,h4,_⟩:=h.rel
  exact ⟨c,e1,fun l hl h5=>h4 l hl (by omega),fun _ hq=>h4 _ hq (by omega)⟩
 fin:=fun hf=>by cases hf
theorem OrdI.done {n q rest order:Nat} (h:OrdI n q rest order false) (hq:rest<q):order=n:=by
 have hr:rest=1:=one_of h.rest_pos fun l hl hd=>by
  have:=Nat.le_of_dvd h.rest_pos hd
  exact (h.low l hl (by omega)).2 hd
 obtain ⟨c,e1,h4,h5⟩:=h.rel
 rw [hr,Nat.one_mul] at e1
 obtain ⟨k,hk⟩:=h.dv
 have hk1:k=1:=one_of (by
  have:=h.pos
  rcases Nat.eq_zero_or_pos k with h0 | h0
  ·rw [h0,Nat.mul_zero] at hk; omega
  ·exact h0) fun l hl hd=>by
  have hln:l*n∣order:=by
   rw [hk,Nat.mul_comm l n]; exact Nat.mul_dvd_mul_left n hd
  rcases Nat.lt_or_ge l q with h6 | h6
  ·exact (h.low l hl h6).1 hln
  ·have hlc:l∣c:=e1▸Nat.dvd_trans (Nat.dvd_mul_right l n) hln
   rcases Nat.lt_or_ge q l with h7 | h7
   ·exact h4 l hl h7 hlc
   ·obtain rfl:l=q:=by omega
    exact h5 rfl hl hlc
 rw [hk,hk1,Nat.mul_one]
end Gq

namespace Pe
open Gq
section
variable {p:Int}
theorem root_out [IsP p] {m:Fp p} (hi:Irr m) {d:Nat} (hq:m.len=d+1) (hd:p^d<1000000000000) {k:Nat} (h1:1≤k) (hk:k<p.toNat^d-1):∃x:Quo m,x≠0∧pw x k≠1:=by
 apply Classical.byContradiction
 intro hno
 have hall:∀x:Quo m,x≠0→pw x k=1:=fun x hx=>by
  apply Classical.byContradiction
  intro h
  exact hno ⟨x,hx,h⟩
 have hone:(1:Quo m)≠0:=(fdQuo hi).one_ne
 let f:Nat→Quo m:=fun i=>(if i=k then 1 else 0)+(-1)*(if i=0 then 1 else 0)
 have hf:f k≠0:=by
  show (if k=k then (1:Quo m) else 0)+(-1)*(if k=0 then 1 else 0)≠0
  rw [if_pos rfl,if_neg (by omega),Gq.mul_zero,Gq.add_zero]
  exact hone
 have:=roots_le (K:=Quo m) (fun x y=>hi.quo_zero) k f (unitsL m d) hf (unitsL_nodup hq hd) fun y hy=>by
  have hy0:=(unitsL_mem hq hd y).1 hy
  have e:sumR (fun i=>f i*pw y i) (k+1)=sumR (fun i=>(if i=k then 1 else 0)*pw y i) (k+1)+(-1)*sumR (fun i=>(if i=0 then 1 else 0)*pw y i) (k+1):=by
   rw [←sumR_mul,←sumR_add]
   congr 1
   funext i
   show ((if i=k then (1:Quo m) else 0)+(-1)*(if i=0 then 1 else 0))*pw y i=_
   exact ring_of [(if i=k then (1:Quo m) else 0),(if i=0 then (1:Quo m) else 0),pw y i] rfl
  rw [e,sumR_ind,sumR_ind,if_pos (by omega),if_pos (by omega),hall y hy0,show pw y 0=1 from rfl]
  exact ring_of ([]:List (Quo m)) rfl
 unfold unitsL at this
 rw [List.length_map,List.length_range] at this
 omega
def IsPrim (m:Fp p) (k:Nat):Prop:=1≤k∧(k:Int)<p^(m.len-1)∧Ord (Quo.mk m (numP p k)) (p.toNat^(m.len-1)-1)∧∀j:Nat,1≤j→j<k→¬ Ord (Quo.mk m (numP p j)) (p.toNat^(m.len-1)-1)
theorem IsPrim.unique {m:Fp p} {j k:Nat} (hj:IsPrim m j) (hk:IsPrim m k):j=k:=by
 rcases Nat.lt_or_ge j k with h | h
 ·exact absurd hj.2.2.1 (hk.2.2.2 j hj.1 h)
 ·rcases Nat.lt_or_ge k j with h2 | h2
  ·exact absurd hk.2.2.1 (hj.2.2.2 k hk.1 h2)
  ·omega
noncomputable def dgF:Facs p→Nat
 | []=>0
 | x::L=>x.2*(x.1.len-1)+dgF L
theorem pw_len [IsP p] {q:Fp p} (h:Monic q):∀k,(pw q k).len=k*(q.len-1)+1
 | 0=>by rw [Nat.zero_mul]; exact Pol.len_one
 | k+1=>by
  have h1:=Pol.len_mul (Monic.pw h k).2 h.2
  have h2:=pw_len h k
  have h3:=Pol.len_pos h.2
  show (pw q k*q).len=_
  rw [Nat.succ_mul]; omega
theorem dgF_len [IsP p]:∀{L:Facs p},FacOk L→(prodF L).len=dgF L+1
 | [],_=>Pol.len_one
 | x::L,h=>by
  have hm:=(h.irr x (by simp)).2.1
  have ht:FacOk L:=⟨fun y hy=>h.irr y (by simp [hy]),h.dis.tail⟩
  have h1:=dgF_len ht
  have h2:=Pol.len_mul (Monic.pw hm x.2).2 (prodF_monic ht).2
  rw [pw_len hm] at h2
  rw [prodF_cons,dgF]; omega
end
end Pe

namespace Pe
open Go Gq
section
variable {p:Int}
end
section
variable {p:Int} [IsP p]
theorem pow_small {d:Nat} (hd:d≤12):p^d<1000000000000:=by
 have h1:=ipow_mono (p:=p) (by have:=IsP.pos (p:=p); omega) hd
 have h2:p^12<1000000000000:=by rcases IsP.h (p:=p) with h | h | h | h <;> (subst h; decide)
 omega
end
end Pe



namespace Pe
open Go Gq
variable {T:Nat→Option Fn} {A:Oracle}
end Pe

namespace Pe
open Go Gq
variable {T:Nat→Option Fn} {A:Oracle}
section
variable {p:Int} [IsP p]
noncomputable def frIt (m:Fp p):Nat→Fp p→Fp p
 | 0,a=>a
 | k+1,a=>frIt m k (pw a p.toNat%m)
theorem frIt_len {m:Fp p} (hm:m≠0):∀(k:Nat) (a:Fp p),a.len<m.len→(frIt m k a).len<m.len
 | 0,_,h=>h
 | k+1,_a,_=>frIt_len hm k _ (Pol.len_mod _ hm)
theorem frIt_mk {m:Fp p}:∀(k:Nat) (a:Fp p),Quo.mk m (frIt m k a)=pw (Quo.mk m a) (p.toNat^k)
 | 0,a=>by rw [Nat.pow_zero,pw_1]; rfl
 | k+1,a=>by
  show Quo.mk m (frIt m k (pw a p.toNat%m))=_
  rw [frIt_mk k,Pol.mk_mod,Quo.mk_pow,pw_pw,Nat.pow_succ,Nat.mul_comm]
theorem frIt_mod {m:Fp p} (hm:Fld m) (k:Nat) {a:Fp p} (ha:a.len<m.len):frIt m (k%(m.len-1)) a=frIt m k a:=by
 have h2:=hm.two
 have h5:=hm.five
 have small:p^(m.len-1)<1000000000000:=by
  have h1:=ipow_mono (p:=p) (by have:=IsP.pos (p:=p); omega) (show m.len-1≤12 by omega)
  have h7:=ppow_le (p:=p) (n:=12) (by omega)
  omega
 have hd:∀x:Quo m,pw x (p.toNat^(m.len-1))=x:=fermat_all hm.irr (by omega) small
 have hq:∀(q:Nat) (x:Quo m),pw x (p.toNat^((m.len-1)*q))=x:=by
  intro q
  induction q with
  | zero=>intro x; rw [Nat.mul_zero,Nat.pow_zero,pw_1]
  | succ q ih=>intro x; rw [Nat.mul_succ,Nat.pow_add,←pw_pw,ih,hd]
 have h0:m≠0:=hm.mon.2
 have e:Quo.mk m (frIt m (k%(m.len-1)) a)=Quo.mk m (frIt m k a):=by
  rw [frIt_mk,frIt_mk]
  have hk:k=(m.len-1)*(k/(m.len-1))+k%(m.len-1):=(Nat.div_add_mod k (m.len-1)).symm
  have:p.toNat^k=p.toNat^((m.len-1)*(k/(m.len-1)))*p.toNat^(k%(m.len-1)):=by rw [←Nat.pow_add,←hk]
  rw [this,←pw_pw,hq]
 have e2:=(Pol.mod_eq_iff h0).2 e
 rwa [Pol.mod_small (frIt_len h0 _ _ ha),Pol.mod_small (frIt_len h0 _ _ ha)] at e2
noncomputable def invm (m a:Fp p):Fp p:=(Pol.bezout a m).2.1%m
theorem invm_len {m:Fp p} (hm:m≠0) (a:Fp p):(invm m a).len<m.len:=Pol.len_mod _ hm
theorem invm_ok {m a:Fp p} (hm:Fld m) (ha:a≠0) (hal:a.len<m.len):Quo.mk m (invm m a)*Quo.mk m a=1:=by
 have h0:m≠0:=hm.mon.2
 have e:=Pol.bezout_eq (a:=a) (b:=m) (.inl ha)
 have hg:Pol.gcd a m=1:=by
  have h1:=Pol.gcd_monic (a:=a) (b:=m) (.inl ha)
  have h2:=Pol.gcd_dv_left (a:=a) (b:=m) (.inl ha)
  have h3:=Pol.gcd_dv_right (a:=a) (b:=m) (.inl ha)
  refine h1.eq_one ?_
  rcases hm.irr.dv h3 with h | h
  ·exact h
  ·have:=h2.len ha
   omega
 rw [hg] at e
 unfold invm
 rw [Pol.mk_mod]
 have:Quo.mk m ((Pol.bezout a m).2.1*a+(Pol.bezout a m).2.2*m)=Quo.mk m 1:=by rw [e]
 rw [Quo.mk_add,Quo.mk_mul,Quo.mk_mul] at this
 have hm0:Quo.mk m m=0:=dv_iff_mk.1 (Dv.refl m)
 rw [hm0,Gq.mul_zero,Gq.add_zero] at this
 exact this
end
end Pe

namespace Pe
open Go Gq
variable {T:Nat→Option Fn} {A:Oracle}
section
variable {p:Int} [IsP p]
theorem one_ne_quo {m:Fp p} (h2:2≤m.len):(1:Quo m)≠0:=fun h=>by
 have:Dv m 1:=dv_iff_mk.2 h
 have:=this.len Pol.one_ne
 rw [Pol.len_one] at this
 omega
theorem pw_res {m c:Fp p} (hm:Fld m) (hc:c≠0) (hcl:c.len<m.len) (k:Nat):pw c k%m≠0∧(pw c k%m).len<m.len:=by
 have h0:m≠0:=hm.mon.2
 refine ⟨fun h=>?_,Pol.len_mod _ h0⟩
 have h1:Quo.mk m (pw c k)=0:=by rw [←Pol.mk_mod,h]; rfl
 rw [Quo.mk_pow] at h1
 have h2:=invm_ok hm hc hcl
 have h3:pw (Quo.mk m (invm m c)*Quo.mk m c) k=0:=by rw [pw_mul,h1,Gq.mul_zero]
 rw [h2,pw_one] at h3
 exact one_ne_quo hm.two h3
end
end Pe



namespace Pe
open Go Gq
variable {T:Nat→Option Fn} {A:Oracle}
end Pe


namespace Pe
open Go Gq
variable {T:Nat→Option Fn} {A:Oracle}
end Pe


namespace Pe
open Go Gq
variable {T:Nat→Option Fn} {A:Oracle}
section
variable {p:Int} [IsP p]
end
section
variable {p:Int} [IsP p]
end
section
variable {p:Int} [IsP p]
end
end Pe

namespace Pe
open Go Gq
variable {T:Nat→Option Fn} {A:Oracle}
theorem codeP_01 (p:Int) (ls:List (List Int)):codeP p ls=0∨codeP p ls=1:=by
 unfold codeP; split
 ·exact .inl rfl
 ·exact .inr rfl
theorem codeP_zero' {p:Int} {l:List Int} (hb:Bytes l) (hl:l.length=64) (h:codeP p [l]=0):∃(_:IsP p) (a:Fp p),a.len≤64∧l=pad (row a):=by
 rcases arg1 p hb hl with ⟨h1,h2⟩ | ⟨ip,a,hal,e⟩
 ·rw [h1] at h; cases h
 ·exact ⟨ip,a,hal,e⟩
theorem codeP_app {p:Int} {l:List Int} {ls:List (List Int)} (h1:codeP p ls=0) (h2:codeP p [l]=0):codeP p (ls++[l])=0:=by
 unfold codeP at h1 h2
 split at h1
 ·split at h2
  ·rename_i g1 g2
   unfold codeP
   rw [if_pos ⟨g1.1,by rw [List.all_append,Bool.and_eq_true]; exact ⟨g1.2,g2.2⟩⟩]
  ·cases h2
 ·cases h1
end Pe

namespace Pe
open Go Gq
variable {T:Nat→Option Fn} {A:Oracle}
section
variable {p:Int} [IsP p]
theorem IsFac.small {m:Fp p} (hm:m≠0) (hl:m.len≤13) {L:Facs p} (h:IsFac m L):(∀x∈L,2≤x.1.len∧x.1.len≤13∧1≤x.2∧x.2≤12)∧dgF L+1=m.len:=by
 refine ⟨fun x hx=>?_,?_⟩
 ·obtain ⟨q1,q2,q3,_⟩:=h.len hm hx
  exact ⟨q1,by omega,(h.ok.irr x hx).2.2,by omega⟩
 ·rw [←dgF_len h.ok]
  conv=>rhs; rw [h.eq]
  exact (Pol.len_Cmul (Pol.ld_ne hm) _).symm
end
section
variable {p:Int} [IsP p]
end
end Pe

namespace Pe
open Go Gq
variable {T:Nat→Option Fn} {A:Oracle}
section
variable {p:Int} [IsP p]
end
end Pe

namespace Pe
open Go Gq
variable {T:Nat→Option Fn} {A:Oracle}
theorem codeP_each {p:Int} {ls:List (List Int)} (h:codeP p ls=0) {l:List Int} (hl:l∈ls):codeP p [l]=0:=by
 unfold codeP at h
 split at h
 ·rename_i g
  have g2:=List.all_eq_true.1 g.2 l hl
  unfold codeP
  rw [if_pos ⟨g.1,by simpa using g2⟩]
 ·cases h
section
variable {p:Int} [IsP p]
def Un (M X:Fp p):Prop:=Pol.gcd X M=1
theorem un_not {M X:Fp p} (hM:M≠0) (h:Un M X):∀q,Irr q→Dv q M→¬ Dv q X:=fun q hq h1 h2=>by
 have h3:=Pol.dv_gcd (.inr hM) h2 h1
 rw [show Pol.gcd X M=1 from h] at h3
 have h4:=h3.len Pol.one_ne
 rw [Pol.len_one] at h4
 have:=hq.len
 omega
end
end Pe

namespace Pe
open Go Gq
variable {T:Nat→Option Fn} {A:Oracle}
section
variable {p:Int} [ip:IsP p] {M X:Fp p}
end
end Pe

namespace Pe
open Go Gq
variable {T:Nat→Option Fn} {A:Oracle}
end Pe

namespace Pe
open Go Gq
variable {T:Nat→Option Fn} {A:Oracle}
noncomputable def dgC (p:Int) (a:List Int) (lo hi:Int):Int:=if codeP p [a]≠0 then 1 else if lo≤((polOf p a).len:Int)-1∧((polOf p a).len:Int)-1≤hi then 0 else 2
def C_degreeCode (O:Oracle) (F:Nat):Prop:=∀(p:Int) (a:List Int) (lo hi:Int),Bytes a→a.length=64→ask O F [(D.int .i64 p),(D.arr 64 .leaf (ints .u8 a)),(D.int .i64 lo),(D.int .i64 hi)]=some (D.int .i64 (dgC p a lo hi))
theorem c_degreeCode (hT:T Fj=some Zj) (hpc:C_polysCode (den T A)) (hro:K_rowOf (den T A)) (hdg:C_degree (den T A)) (hw:C_within (den T A)):C_degreeCode (den T A) Fj:=by
 intro p a lo hi ha gl
 have e1:=hpc p [a] (fun x hx=>by simp at hx; subst hx; exact ⟨gl,ha⟩) (by simp)
 rw [show [a].map arr8=[(D.arr 64 .leaf (ints .u8 a))] from rfl] at e1
 unfold dgC
 rcases codeP_01 p [a] with hc | hc
 ·rw [if_neg (by rw [hc]; omega)]
  rw [hc] at e1
  obtain ⟨ip,X,hX,rfl⟩:=codeP_zero' ha gl hc
  have e2:=hro p X hX
  have e3:=hdg (row X) (by rw [row_length]; omega)
  rw [row_length] at e3
  have e4:=hw ((X.len:Int)-1) lo hi
  rw [polOf_pad hX]
  refine ask_of hT rfl ?_
  generalize (X.len:Int)-1=d at *
  generalize pad (row X)=Px at *
  generalize row X=Rx at *
  by_cases h:lo≤d∧d≤hi
  ·rw [decide_eq_true h] at e4
   rw [if_pos h]
   simp -implicitDefEqProofs [Zj,Zj_B,dn_cond,e1,e2,e3,e4,List.replicate]
  ·rw [decide_eq_false h] at e4
   rw [if_neg h]
   simp -implicitDefEqProofs [Zj,Zj_B,dn_cond,e1,e2,e3,e4,List.replicate]
 ·rw [if_pos (by rw [hc]; omega)]
  rw [hc] at e1
  refine ask_of hT rfl ?_
  simp -implicitDefEqProofs [Zj,Zj_B,dn_cond,e1,List.replicate]
end Pe

namespace Pe
open Go Gq
variable {T:Nat→Option Fn} {A:Oracle}
def C_big (O:Oracle):Prop:=∀L:List D,ask O F1r [.sl .leaf L]=some (D.bool (decide ((4096:Int)<L.length)))
theorem two_code {p:Int} [IsP p] (a b:Fp p):codeP p [pad (row a),pad (row b)]=0:=codeP_good [a,b]
theorem c_big (hT:T F1r=some Z1r):C_big (den T A):=by
 intro L
 refine ask_of hT rfl ?_
 simp -implicitDefEqProofs [Z1r,Z1r_B]
end Pe

namespace Pe
open Go Gq
variable {T:Nat→Option Fn} {A:Oracle}
def Arr (l:List Int):Prop:=l.length=64∧Bytes l
theorem arr_row {p:Int} [IsP p] (a:Fp p):Arr (pad (row a)):=⟨pad_length _,pad_bytes a⟩
end Pe

namespace Pe
open Go Gq
variable {T:Nat→Option Fn} {A:Oracle}
end Pe


namespace Pe
open Go Gq
variable {T:Nat→Option Fn} {A:Oracle}
end Pe

namespace Pe
open Go Gq
variable {T:Nat→Option Fn} {A:Oracle}
theorem arr2 {a m:List Int} (ha:Bytes a) (gl:a.length=64) (hm:Bytes m) (glm:m.length=64):Arrs [a,m]:=fun x hx=>by
 simp at hx
 rcases hx with rfl | rfl
 ·exact ⟨gl,ha⟩
 ·exact ⟨glm,hm⟩
theorem two_good {p:Int} {a m:List Int} (ha:Bytes a) (gl:a.length=64) (hm:Bytes m) (glm:m.length=64) (h:codeP p [a,m]=0):∃(_:IsP p) (X M:Fp p),a=pad (row X)∧m=pad (row M)∧X.len≤64∧M.len≤64:=by
 obtain ⟨ip,X,hX,rfl⟩:=codeP_zero' ha gl (codeP_each h (by simp))
 obtain ⟨ip',M,hM,rfl⟩:=codeP_zero' hm glm (codeP_each h (by simp))
 exact ⟨ip,X,M,rfl,rfl,hX,hM⟩
def K_DegreeOf (O:Oracle):Prop:=∀(p:Int) [IsP p] (a:Fp p),a.len≤64→ask O F6 [(D.int .i64 p),(D.arr 64 .leaf (ints .u8 (pad (row a))))]=some (.tup [(D.int .i64 ((a.len:Int)-1)),(D.int .i64 0)])
theorem k_DegreeOf (hT:T F6=some Z6) (hpc:C_polysCode (den T A)) (hro:K_rowOf (den T A)) (hdg:C_degree (den T A)):K_DegreeOf (den T A):=by
 intro p ip a hl
 have e1:=hpc p [pad (row a)] (fun x hx=>by simp at hx; subst hx; exact ⟨pad_length _,pad_bytes a⟩) (by simp)
 rw [codeP_one,show [pad (row a)].map arr8=[(D.arr 64 .leaf (ints .u8 (pad (row a))))] from rfl] at e1
 have e2:=hro p a hl
 have e3:=hdg (row a) (by rw [row_length]; omega)
 rw [row_length] at e3
 refine ask_of hT rfl ?_
 generalize (a.len:Int)-1=n at *
 generalize pad (row a)=Px at *
 generalize row a=Rx at *
 simp -implicitDefEqProofs [Z6,Z6_B,dn_cond,e1,e2,e3,List.replicate]
theorem bz_uv {p:Int} [IsP p] {A B:Fp p}:∀(n:Nat) (a b u x v y:Fp p),b.len≤n→Pol.BzI A B a b u x v y→a≠0→u.len≤B.len→v.len≤A.len →
 (Pol.bz n a b u x v y).2.1.len≤B.len∧(Pol.bz n a b u x v y).2.2.len≤A.len
 | 0,a,b,u,x,v,y,_,_,_,h1,h2=>⟨h1,h2⟩
 | n+1,a,b,u,x,v,y,hn,h,ha,h1,h2=>by
  unfold Pol.bz
  split
  ·exact ⟨h1,h2⟩
  ·rename_i hb
   have hl:=Pol.len_mod a hb
   have hap:=Pol.len_pos ha
   have g1:=h.lx
   have g2:=h.ly
   exact bz_uv n b (a%b) x (u-a/b*x) y (v-a/b*y) (by omega) (h.step hb) hb (by omega) (by omega)
theorem bez_both {p:Int} [IsP p] {a b:Fp p} (h:a≠0) (h0:b≠0) (ha:a.len≤64) (hb:b.len≤64):(Pol.bezout a b).2.1.len≤64∧(Pol.bezout a b).2.2.len≤64:=by
 have hbp:=Pol.len_pos h0
 obtain ⟨h1,h2⟩:=bz_uv b.len a b 1 0 0 1 (Nat.le_refl _) (Pol.BzI.init (.inl h)) h (by rw [Pol.len_one]; omega) (by rw [Pol.len_zero]; omega)
 have g1:(Pol.bezout a b).2.1.len≤(Pol.bz b.len a b 1 0 0 1).2.1.len:=Pol.len_le (Pol.lt_Cmul _ (Pol.lt_len _))
 have g2:(Pol.bezout a b).2.2.len≤(Pol.bz b.len a b 1 0 0 1).2.2.len:=Pol.len_le (Pol.lt_Cmul _ (Pol.lt_len _))
 omega
theorem ne_pad {p:Int} [IsP p] {M:Fp p} (hM:M≠0) (hl:M.len≤64):D.beq (.arr 64 .leaf .int) (D.arr 64 .leaf (ints .u8 (pad (row M)))) (D.arr 64 .leaf (ints .u8 (pad [])))=some false:=by
 rw [beq_P (pad_length _) (pad_length _),decide_eq_false]
 intro h
 rw [←row_zero (p:=p)] at h
 exact hM ((pad_row_inj hl (by rw [Pol.len_zero]; omega)).1 h)
def K_BezoutOf (O:Oracle):Prop:=∀(p:Int) [IsP p] (a b:Fp p),a≠0→b≠0→a.len≤64→b.len≤64→ask O F4 [(D.int .i64 p),(D.arr 64 .leaf (ints .u8 (pad (row a)))),(D.arr 64 .leaf (ints .u8 (pad (row b))))]=some (.tup [(D.arr 64 .leaf (ints .u8 (pad (row (Pol.gcd a b))))),(D.arr 64 .leaf (ints .u8 (pad (row (Pol.bezout a b).2.1)))),(D.arr 64 .leaf (ints .u8 (pad (row (Pol.bezout a b).2.2)))),(D.int .i64 0)])
theorem k_BezoutOf (hT:T F4=some Z4) (hpc:C_polysCode (den T A)) (hro:K_rowOf (den T A)) (hbz:K_bezout (den T A)) (hpo:K_poly (den T A)):K_BezoutOf (den T A):=by
 intro p ip X M hX0 hM0 hX hM
 have e1:=hpc p [pad (row X),pad (row M)] (arr2 (pad_bytes X) (pad_length _) (pad_bytes M) (pad_length _)) (by simp)
 rw [two_code,show [pad (row X),pad (row M)].map arr8=[(D.arr 64 .leaf (ints .u8 (pad (row X)))),(D.arr 64 .leaf (ints .u8 (pad (row M))))] from rfl] at e1
 have e2:=hro p X (by omega)
 have e3:=hro p M (by omega)
 have e4:=ne_pad hX0 (by omega)
 have e5:=hbz p X M (.inl hX0) (by omega) (by omega)
 rw [show (Pol.bezout X M).1=Pol.gcd X M from rfl] at e5
 have hgl:=(Pol.gcd_dv_right (a:=X) (b:=M) (.inr hM0)).len hM0
 obtain ⟨hu,hv⟩:=bez_both (b:=M) hX0 hM0 hX hM
 have e6:=hpo p (Pol.gcd X M) (by omega)
 have e7:=hpo p (Pol.bezout X M).2.1 hu
 have e8:=hpo p (Pol.bezout X M).2.2 hv
 refine ask_of hT rfl ?_
 generalize pad (row (Pol.gcd X M))=P1 at *
 generalize row (Pol.gcd X M)=R1 at *
 generalize pad (row (Pol.bezout X M).2.1)=P2 at *
 generalize row (Pol.bezout X M).2.1=R2 at *
 generalize pad (row (Pol.bezout X M).2.2)=P3 at *
 generalize row (Pol.bezout X M).2.2=R3 at *
 generalize pad (row X)=Px at *
 generalize row X=Rx at *
 generalize pad (row M)=Pm at *
 generalize row M=Rm at *
 simp -implicitDefEqProofs [Z4,Z4_B,dn_cond,e1,e2,e3,e4,e5,e6,e7,e8,List.replicate]
def K_GcdOf (O:Oracle):Prop:=∀(p:Int) [IsP p] (a b:Fp p),a≠0→b≠0→a.len≤64→b.len≤64→ask O F7 [(D.int .i64 p),(D.arr 64 .leaf (ints .u8 (pad (row a)))),(D.arr 64 .leaf (ints .u8 (pad (row b))))]=some (.tup [(D.arr 64 .leaf (ints .u8 (pad (row (Pol.gcd a b))))),(D.int .i64 0)])
theorem k_GcdOf (hT:T F7=some Z7) (hb:K_BezoutOf (den T A)):K_GcdOf (den T A):=by
 intro p ip X M hX0 hM0 hX hM
 have e1:=hb p X M hX0 hM0 hX hM
 refine ask_of hT rfl ?_
 generalize pad (row (Pol.gcd X M))=P1 at *
 generalize pad (row (Pol.bezout X M).2.1)=P2 at *
 generalize pad (row (Pol.bezout X M).2.2)=P3 at *
 generalize pad (row X)=Px at *
 generalize pad (row M)=Pm at *
 simp -implicitDefEqProofs [Z7,Z7_B,dn_cond,e1,List.replicate]
end Pe
