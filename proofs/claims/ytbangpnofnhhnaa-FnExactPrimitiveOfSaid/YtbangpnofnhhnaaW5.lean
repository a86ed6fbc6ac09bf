/-
  A part of the proof: an evaluator for a small form of the code, its soundness, and contracts of functions over it.
-/
import Derived.Test.YtbangpnofnhhnaaW1
import Derived.Test.YtbangpnofnhhnaaW2
import Derived.Test.YtbangpnofnhhnaaW3
import Derived.Test.YtbangpnofnhhnaaW4

namespace Pe
open Go Gq
variable {T : Nat → Option Fn} {A : Oracle}
section
variable {p : Int} [IsP p]
theorem row_X : row (Pol.X : Fp p) = [0, 1] := by
 unfold row
 rw [Pol.len_X]
 show [rep ((Pol.X : Fp p).c 0), rep ((Pol.X : Fp p).c 1)] = [0, 1]
 have e0 : (Pol.X : Fp p).c 0 = 0 := rfl
 have e1 : (Pol.X : Fp p).c 1 = 1 := rfl
 rw [e0, e1, rep_zero, rep_one]
theorem Irr.assoc {q b : Fp p} (hq : Irr q) (hb : Irr b) (h : Dv q b) : Dv b q := by
 obtain ⟨c, hc⟩ := h
 have hc0 : c ≠ 0 := fun h0 => hb.ne (by rw [hc, h0, Gq.mul_zero])
 have l := Pol.len_mul hq.ne hc0
 rw [← hc] at l
 have h1 := hq.len
 rcases hb.dv ⟨c, hc⟩ with h2 | h2
 ·omega
 ·obtain ⟨k, hk, rfl⟩ := unit_of_len (show c.len = 1 by omega)
  rw [hc, Gq.mul_comm]
  exact (Dv.Cmul hk).2 (.refl q)
structure FInv (a0 : Fp p) (n : Nat) (a : Fp p) (out : Facs p) : Prop where
 ne : a ≠ 0
 eq : a0 = a * prodF out
 ok : FacOk out
 nd : ∀ x ∈ out, ¬ Dv x.1 a
 ns : NoSmall n a
 ln : out.length + a.len ≤ 13
structure JInv (a0 : Fp p) (n : Nat) (a : Fp p) (out : Facs p) (all : Fp p) : Prop where
 f : FInv a0 n a out
 ne : all ≠ 0
 ln : all.len ≤ 13
 one : ∀ q, Irr q → Dv q all → q.len = n + 1 ∧ Dv q a
 two : ∀ q, Irr q → q.len = n + 1 → Dv q a → Dv q all
end
section
variable {p : Int}
theorem prodF_snoc (L : Facs p) (x : Fp p × Nat) : prodF (L ++ [x]) = prodF L * pw x.1 x.2 := by
 induction L with
 | nil => show pw x.1 x.2 * 1 = 1 * pw x.1 x.2; rw [Gq.mul_one, Gq.one_mul]
 | cons y L ih => rw [List.cons_append, prodF_cons, prodF_cons, ih, Gq.mul_assoc]
end
section
variable {p : Int} [IsP p]
theorem FacOk.snoc {L : Facs p} (h : FacOk L) {q : Fp p} {k : Nat} (hi : Irr q) (hm : Monic q) (hk : 1 ≤ k) (hd : ∀ x ∈ L, x.1 ≠ q) : FacOk (L ++ [(q, k)]) := by
 refine ⟨fun x hx => ?_, ?_⟩
 ·rcases List.mem_append.1 hx with hx | hx
  ·exact h.irr x hx
  ·simp at hx; subst hx; exact ⟨hi, hm, hk⟩
 ·rw [List.pairwise_append]
  refine ⟨h.dis, List.pairwise_singleton _ _, fun x hx y hy => ?_⟩
  simp at hy; subst hy; exact hd x hx
theorem JInv.irr {a0 a : Fp p} {n : Nat} {out : Facs p} {all b : Fp p} (h : JInv a0 n a out all) (hn : 1 ≤ n) (hb : b.len = n + 1) (hd : Dv b all) : Irr b := by
 have hb0 : b ≠ 0 := fun h0 => by rw [h0, Pol.len_zero] at hb; omega
 refine Irr.of_dv (by omega) fun u hu => ?_
 have hul := hu.len hb0
 have hu0 : u ≠ 0 := fun h0 => by
  obtain ⟨c, hc⟩ := hu
  exact hb0 (by rw [hc, h0, Gq.zero_mul])
 have hup := Pol.len_pos hu0
 by_cases h1 : u.len = 1
 ·exact .inl h1
 ·right
  obtain ⟨r, r1, _, r2⟩ := irr_ex u.len u (Nat.le_refl _) (by omega)
  have h2 := (h.one r r1 ((r2.trans hu).trans hd)).1
  have h3 := r2.len hu0
  omega
theorem JInv.step {a0 a : Fp p} {n : Nat} {out : Facs p} {all b : Fp p} (h : JInv a0 n a out all) (hn : 1 ≤ n) (hm : Monic b) (hb : b.len = n + 1) (hd : Dv b all)
 {k k' : Nat} {r r' : Fp p} (h1 : a = r * pw b k) (h2 : ¬ Dv b r) (h3 : all = r' * pw b k') (h4 : ¬ Dv b r') : JInv a0 n r (out ++ [(b, k)]) r' ∧ r'.len < all.len ∧ 1 ≤ k := by
 have hi := h.irr hn hb hd
 have hda := (h.one b hi hd).2
 have hk : 1 ≤ k := by
  cases k with
  | zero => exact absurd (by rw [h1, pw, Gq.mul_one] at hda; exact hda) h2
  | succ k => omega
 have hk' : 1 ≤ k' := by
  cases k' with
  | zero => exact absurd (by rw [h3, pw, Gq.mul_one] at hd; exact hd) h4
  | succ k => omega
 have hr0 : r ≠ 0 := fun h0 => h.f.ne (by rw [h1, h0, Gq.zero_mul])
 have hr0' : r' ≠ 0 := fun h0 => h.ne (by rw [h3, h0, Gq.zero_mul])
 have shrink : ∀ (a r : Fp p) (k : Nat), r ≠ 0 → 1 ≤ k → a = r * pw b k → r.len < a.len := by
  intro a r k hr hk e
  obtain ⟨j, rfl⟩ : ∃ j, k = j + 1 := ⟨k - 1, by omega⟩
  have hj := pw_ne hi.ne j
  have l1 := Pol.len_mul hj hi.ne
  have l2 := Pol.len_mul hr (Pol.mul_ne hj hi.ne)
  have l3 := Pol.len_pos hj
  rw [e, pw]; omega
 have s1 := shrink a r k hr0 hk h1
 have s2 := shrink all r' k' hr0' hk' h3
 have dr : ∀ q, Dv q r → Dv q a := fun q hq => by rw [h1]; exact hq.mul_right _
 have pd : ∀ q, Irr q → ∀ m, Dv q (pw b m) → Dv b q := fun q hq m hq2 => Irr.assoc hq hi (Irr.pw_dv hq m hq2)
 refine ⟨⟨⟨hr0, ?_, h.f.ok.snoc hi hm hk fun x hx e => h.f.nd x hx (e ▸ hda), ?_, noSmall_dv h.f.ns ⟨pw b k, h1⟩, ?_⟩, hr0', by have := h.ln; omega, ?_, ?_⟩, s2, hk⟩
 ·rw [h.f.eq, prodF_snoc]
  conv => lhs; rw [h1]
  exact ring_of [r, pw b k, prodF out] rfl
 ·intro x hx
  rcases List.mem_append.1 hx with hx | hx
  ·exact fun hq => h.f.nd x hx (dr _ hq)
  ·simp at hx; subst hx; exact h2
 ·have := h.f.ln
  simp; omega
 ·intro q hq hqr
  have hqa : Dv q all := by rw [h3]; exact hqr.mul_right _
  obtain ⟨g1, g2⟩ := h.one q hq hqa
  refine ⟨g1, ?_⟩
  rw [h1] at g2
  rcases hq.prime g2 with g | g
  ·exact g
  ·exact absurd ((pd q hq k g).trans hqr) h4
 ·intro q hq hql hqr
  have := h.two q hq hql (dr q hqr)
  rw [h3] at this
  rcases hq.prime this with g | g
  ·exact g
  ·exact absurd ((pd q hq k' g).trans hqr) h2
theorem JInv.done {a0 a : Fp p} {n : Nat} {out : Facs p} {all : Fp p} (h : JInv a0 n a out all) (hl : all.len < 2) : FInv a0 (n + 1) a out := by
 refine ⟨h.f.ne, h.f.eq, h.f.ok, h.f.nd, fun q hq hd => ?_, h.f.ln⟩
 have h1 := h.f.ns q hq hd
 apply Classical.byContradiction
 intro hx
 have h2 := (h.two q hq (by omega) hd).len h.ne
 have := hq.len
 omega
theorem JInv.init {a0 a : Fp p} {n : Nat} {out : Facs p} (h : FInv a0 n a out) (hn : 1 ≤ n) (hn2 : n ≤ 12) {fr : Fp p} (hf : fr % a = pw Pol.X (p.toNat ^ n) % a) : JInv a0 n a out (Pol.gcd (fr - Pol.X) a) := by
 have h0 : fr - Pol.X ≠ 0 ∨ a ≠ 0 := .inr h.ne
 have hm := Pol.gcd_monic h0
 have hd2 := Pol.gcd_dv_right h0
 have key : ∀ q, Dv q a → (Dv q (fr - Pol.X) ↔ Dv q (frT p n)) := by
  intro q hq
  have e : Dv q (fr - pw Pol.X (p.toNat ^ n)) := by
   refine hq.trans ?_
   rw [dv_iff_mk, Quo.mk_sub]
   rw [(Pol.mod_eq_iff h.ne).1 hf, sub_self]
  unfold frT
  constructor
  ·intro g
   have : pw Pol.X (p.toNat ^ n) - Pol.X = (fr - Pol.X) - (fr - pw Pol.X (p.toNat ^ n)) := ring_of [pw Pol.X (p.toNat ^ n), Pol.X, fr] rfl
   rw [this]; exact g.sub e
  ·intro g
   have : fr - Pol.X = (pw Pol.X (p.toNat ^ n) - Pol.X) + (fr - pw Pol.X (p.toNat ^ n)) := ring_of [pw Pol.X (p.toNat ^ n), Pol.X, fr] rfl
   rw [this]; exact g.add e
 have hl := hd2.len h.ne
 have hl2 := h.ln
 refine ⟨h, hm.2, by omega, fun q hq hd => ?_, fun q hq hql hqa => ?_⟩
 ·have g1 := hd.trans hd2
  have g2 := (key q g1).1 (hd.trans (Pol.gcd_dv_left h0))
  have g3 := h.ns q hq g1
  have g4 := g1.len h.ne
  have g5 := irr_frT_le hq (d := q.len - 1) (k := n) (by have := hq.len; omega) (by have := ppow_le (p := p) (n := q.len - 1) (by omega); omega) hn g2
  exact ⟨by omega, g1⟩
 ·have g2 := irr_frT hq hql (by have := ppow_le (p := p) hn2; omega)
  exact Pol.dv_gcd h0 ((key q hqa).2 g2) hqa
noncomputable abbrev facD (x : Fp p × Nat) : D := .st [.leaf, .leaf] [(D.sl .leaf (ints .i64 (row x.1))), (D.int .i64 x.2)]
theorem l_fac1 {O : Oracle} (hw : K_withDegree O) (hst : K_strip O) (hdg : C_degree O) {a0 : Fp p} {n : Nat} (hn : 1 ≤ n) (hn2 : n ≤ 12) : ∀ (m : Nat) (a : Fp p) (out : Facs p) (all : Fp p) (cp : Option Nat), all.len ≤ m → JInv a0 n a out all → ∃ (a' : Fp p) (out' : Facs p) (all' : List Int) (cp' : Option Nat), FInv a0 (n + 1) a' out' ∧ a'.len ≤ a.len ∧
 dn O 0 (.loop Zo_L1) ⟨[(0, (.d (.int .i64 p))), (1, (.d (.sl .leaf (ints .i64 (row a))))), (5, .sl 0 [] 0 out.length cp), (6, (.d (.int .i64 n))), (8, (.d (.sl .leaf (ints .i64 (row all)))))], [.sl false facSh (out.map facD), .hole, .hole, .hole, .hole]⟩ =
  some (.exit 4, ⟨[(0, (.d (.int .i64 p))), (1, (.d (.sl .leaf (ints .i64 (row a'))))), (5, .sl 0 [] 0 out'.length cp'), (6, (.d (.int .i64 n))), (8, (.d (.sl .leaf (ints .i64 all')))), (52, (.d (.bool false)))], [.sl false facSh (out'.map facD), .hole, .hole, .hole, .hole]⟩)
 | m, a, out, all, cp, hm, h => by
  have hln := h.ln
  have hp := Pol.len_pos h.ne
  have e1 := hdg (row all) (by rw [row_length]; omega)
  rw [row_length] at e1
  by_cases hl : all.len < 2
  ·refine ⟨a, out, row all, cp, h.done hl, Nat.le_refl _, dn_stop ?_⟩
   have h1 : ¬ (1 : Int) < (all.len : Int) := by omega
   simp -implicitDefEqProofs [Zo_L1, dn_cond, e1, h1]
  ·have hlo := h.f.ln
   obtain ⟨q, q1, q2, q3⟩ := irr_ex all.len all (Nat.le_refl _) (by omega)
   obtain ⟨b, b1, b2, b3, e2⟩ := hw p all n hn hn2 (by omega) h.ne ⟨q, q2, (h.one q q1 q3).1, q3⟩
   obtain ⟨k, r, g1, g2, e3⟩ := hst p a b h.f.ne (by omega) (by omega) (by omega)
   obtain ⟨k', r', g3, g4, e4⟩ := hst p all b h.ne (by omega) (by omega) (by omega)
   obtain ⟨hJ, hlt, hk⟩ := h.step hn b1 b2 b3 g1 g2 g3 g4
   cases m with
   | zero => omega
   | succ m =>
    obtain ⟨a', out', all', cp', i1, i2, e⟩ := l_fac1 hw hst hdg hn hn2 m r (out ++ [(b, k)]) r' none (by omega) hJ
    have hra : r.len ≤ a.len := (show Dv r a from ⟨_, g1⟩).len h.f.ne
    refine ⟨a', out', all', cp', i1, by omega, dn_round ?_ e⟩
    have h1 : (1 : Int) < (all.len : Int) := by omega
    have h8 : (out.length + 1) * 32 ≤ 1099511627776 := by omega
    have ht : (out.map facD).take out.length = out.map facD := List.take_of_length_le (by simp)
    have hL : (out.map facD).length = out.length := by simp
    have o1 : (out ++ [(b, k)]).map facD = out.map facD ++ [facD (b, k)] := by simp
    have o2 : (out ++ [(b, k)]).length = out.length + 1 := by simp
    rw [o1, o2]
    generalize out.map facD = LD at *
    simp -implicitDefEqProofs [Zo_L1, dn_cond, e1, e2, e3, e4, h1, h8, ht, hL, List.replicate]
theorem l_fac0 {O : Oracle} (hpw : K_power O) {a : Fp p} (ha : a ≠ 0) (hal : a.len ≤ 13) {n : Nat} (hn2 : n ≤ 1000) {st : V} {hp : Heap} (hst : st.refs = [0]) (hhp : ∃ b, hp = [b, .hole, .hole, .hole, .hole]) : ∀ (m i : Nat) (fr : Fp p), i + m = n → fr.len ≤ 13 → ∃ fr' : Fp p, fr'.len ≤ 13 ∧ fr' % a = pw fr (p.toNat ^ m) % a ∧
 dn O 0 (.loop Zo_L0) ⟨[(0, (.d (.int .i64 p))), (1, (.d (.sl .leaf (ints .i64 (row a))))), (5, st), (6, (.d (.int .i64 n))), (7, (.d (.sl .leaf (ints .i64 (row fr))))), (34, (.d (.int .i64 n))), (35, (.d (.int .i64 i)))], hp⟩ =
  some (.exit 2, ⟨[(0, (.d (.int .i64 p))), (1, (.d (.sl .leaf (ints .i64 (row a))))), (5, st), (6, (.d (.int .i64 n))), (7, (.d (.sl .leaf (ints .i64 (row fr'))))), (34, (.d (.int .i64 n))), (35, (.d (.int .i64 n))), (36, (.d (.bool false)))], hp⟩)
 | 0, i, fr, hi, hf => by
  obtain ⟨b, rfl⟩ := hhp
  obtain rfl : i = n := by omega
  refine ⟨fr, hf, by rw [Nat.pow_zero, pw_1], dn_stop ?_⟩
  simp -implicitDefEqProofs [Zo_L0, dn_cond, hst]
 | m + 1, i, fr, hi, hf => by
  have hP := IsP.pos (p := p)
  have hP7 := IsP.le (p := p)
  have e := hpw p fr p a ha (by omega) (by omega) (by omega) (by omega)
  have hl := Pol.len_mod (pw fr p.toNat) ha
  obtain ⟨fr', g1, g2, g3⟩ := l_fac0 (O := O) hpw ha hal hn2 hst hhp m (i + 1) (pw fr p.toNat % a) (by omega) (by omega)
  obtain ⟨b, rfl⟩ := hhp
  have h1 : i < n := by omega
  have w1 : IntKind.i64.wrap ((i : Int) + 1) = ((i + 1 : Nat) : Int) := (w64 (x := (i : Int) + 1) (by omega)).trans (by omega)
  refine ⟨fr', g1, ?_, dn_round ?_ g3⟩
  ·rw [g2, Pol.pow_mod _ ha, pw_pw, Nat.pow_succ, Nat.mul_comm]
  ·simp -implicitDefEqProofs [Zo_L0, dn_cond, e, h1, w1, hst]
structure FEnd (a0 : Fp p) (out : Facs p) : Prop where
 ok : FacOk out
 eq : ∃ c : Zp p, c ≠ 0 ∧ a0 = Pol.C c * prodF out
 ln : out.length ≤ 12
theorem l_fac2 {O : Oracle} (hw : K_withDegree O) (hst : K_strip O) (hdg : C_degree O) (hpw : K_power O) (hlet : C_letter O) (hc : K_combine1 O) (hg : K_gcd O) (hld : C_lead O) (hinv : C_inverse O) (hs : K_scale O) {a0 : Fp p} : ∀ (m n : Nat) (a : Fp p) (out : Facs p) (cp : Option Nat), 1 ≤ n → n + m = 15 → FInv a0 n a out → ∃ (out' : Facs p) (cp' : Option Nat) (e : Env), FEnd a0 out' ∧ ((∃ x y, e = [(0, (.d (.int .i64 p))), (1, (.d (.sl .leaf (ints .i64 x)))), (5, .sl 0 [] 0 out'.length cp'), (6, (.d (.int .i64 y))), (14, (.d (.bool false)))]) ∨ e = [(5, .sl 0 [] 0 out'.length cp')]) ∧
 dn O 0 (.loop Zo_L2) ⟨[(0, (.d (.int .i64 p))), (1, (.d (.sl .leaf (ints .i64 (row a))))), (5, .sl 0 [] 0 out.length cp), (6, (.d (.int .i64 n)))], [.sl false facSh (out.map facD), .hole, .hole, .hole, .hole]⟩ =
  some (.exit 0, ⟨e, [.sl false facSh (out'.map facD), .hole, .hole, .hole, .hole]⟩)
 | m, n, a, out, cp, hn, hm, h => by
  have hp := IsP.ge (p := p)
  have hp7 := IsP.le (p := p)
  have hln := h.ln
  have ha := Pol.len_pos h.ne
  have e1 := hdg (row a) (by rw [row_length]; omega)
  rw [row_length] at e1
  by_cases hl : a.len = 1
  ·have h1 : ¬ (1 : Int) < (a.len : Int) := by omega
   obtain ⟨c, hc0, rfl⟩ := unit_of_len hl
   refine ⟨out, cp, _, ⟨h.ok, ⟨c, hc0, h.eq⟩, by omega⟩, .inl ⟨row (Pol.C c), n, rfl⟩, dn_stop ?_⟩
   simp -implicitDefEqProofs [Zo_L2, dn_cond, e1, h1]
  ·have h1 : (1 : Int) < (a.len : Int) := by omega
   have w1 : IntKind.i64.wrap (2 * (n : Int)) = 2 * (n : Int) := w64 (by omega)
   have h8 : (out.length + 1) * 32 ≤ 1099511627776 := by omega
   have ht : (out.map facD).take out.length = out.map facD := List.take_of_length_le (by simp)
   have hL : (out.map facD).length = out.length := by simp
   by_cases h2 : (a.len : Int) - 1 < 2 * (n : Int)
   ·have hi := irr_of_noSmall h.ns (by omega) (by omega)
    have hr := rep_in a.ld
    have hin := inv_in p (rep a.ld)
    have e2 := hld (row a) (by rw [row_length]; omega)
    rw [ld_row] at e2
    have e3 := hinv p (rep a.ld) (by omega) (by omega) hr.1 hr.2
    have e4 := hs p (inv p (rep a.ld)) a (by omega) (by omega) (by omega)
    rw [finv_rep _ (Pol.ld_ne h.ne)] at e4
    have e4' : ask O F11 [(D.int .i64 p), (D.sl .leaf (ints .i64 (row a))), (D.int .i64 (inv p (rep a.ld)))] = some (D.sl .leaf (ints .i64 (row (mon a)))) := e4
    have o1 : (out ++ [(mon a, 1)]).map facD = out.map facD ++ [facD (mon a, 1)] := by simp
    have o2 : (out ++ [(mon a, 1)]).length = out.length + 1 := by simp
    refine ⟨out ++ [(mon a, 1)], none, _, ⟨h.ok.snoc hi.mon (mon_monic h.ne) (Nat.le_refl 1) fun x hx e => h.nd x hx (by rw [e, mon_dv h.ne]; exact .refl a), ⟨a.ld, Pol.ld_ne h.ne, ?_⟩, by rw [o2]; omega⟩, .inr rfl, dn_stop ?_⟩
    ·rw [prodF_snoc]
     show a0 = Pol.C a.ld * (prodF out * pw (mon a) 1)
     rw [pw_1, h.eq]
     conv => lhs; rw [eq_mon h.ne]
     exact ring_of [Pol.C a.ld, mon a, prodF out] rfl
    ·rw [o1, o2]
     generalize out.map facD = LD at *
     simp -implicitDefEqProofs [Zo_L2, dn_cond, e1, h1, h2, w1, e2, e3, e4', h8, ht, hL, List.replicate]
   ·cases m with
    | zero => omega
    | succ m =>
     have hl2 : (Pol.X : Fp p).len ≤ 13 := by rw [Pol.len_X]; omega
     obtain ⟨fr, g1, g2, g3⟩ := l_fac0 (O := O) hpw h.ne (by omega) (n := n) (by omega) (st := .sl 0 [] 0 out.length cp) (hp := [.sl false facSh (out.map facD), .hole, .hole, .hole, .hole]) (by simp [V.refs]) ⟨_, rfl⟩ n 0 Pol.X (Nat.zero_add _) hl2
     have hJ := JInv.init h hn (by omega) g2
     have hlj := hJ.ln
     obtain ⟨a', out', all', cp', i1, i2, i3⟩ := l_fac1 (O := O) hw hst hdg hn (by omega) (Pol.gcd (fr - Pol.X) a).len a out _ cp (Nat.le_refl _) hJ
     obtain ⟨out2, cp2, e, j1, j2, j3⟩ := l_fac2 hw hst hdg hpw hlet hc hg hld hinv hs m (n + 1) a' out' cp' (by omega) (by omega) i1
     have e2 : ask O Fg [] = some (D.sl .leaf (ints .i64 (row (Pol.X : Fp p)))) := by rw [row_X]; exact hlet
     have e3 := hc p fr Pol.X (by omega) (by omega)
     have hsl := Pol.len_sub_le (a := fr) (b := Pol.X) (n := 13) g1 hl2
     have e4 := hg p (fr - Pol.X) a (.inr h.ne) (by omega) (by omega)
     have w2 : IntKind.i64.wrap ((n : Int) + 1) = ((n + 1 : Nat) : Int) := (w64 (x := (n : Int) + 1) (by omega)).trans (by omega)
     have e0 : ((0 : Nat) : Int) = 0 := rfl
     rw [e0] at g3
     refine ⟨out2, cp2, e, j1, j2, dn_round ?_ j3⟩
     generalize out.map facD = LD at *
     simp -implicitDefEqProofs [Zo_L2, dn_cond, e1, h1, h2, w1, w2, e2, e3, e4, g3, i3]
end
theorem perm_map_ex {α β : Type} (f : α → β) {m ds : List β} (h : m.Perm ds) : ∀ l : List α, l.map f = m → ∃ l' : List α, l'.Perm l ∧ l'.map f = ds := by
 induction h with
 | nil => intro l hl; exact ⟨[], by simp at hl; subst hl; exact .refl _, rfl⟩
 | cons x h ih =>
  intro l hl
  cases l with
  | nil => simp at hl
  | cons y l =>
   simp at hl
   obtain ⟨l', p, e⟩ := ih l hl.2
   exact ⟨y :: l', p.cons y, by simp [e, hl.1]⟩
 | swap x y s =>
  intro l hl
  cases l with
  | nil => simp at hl
  | cons a l =>
   cases l with
   | nil => simp at hl
   | cons b l =>
    simp at hl
    exact ⟨b :: a :: l, List.Perm.swap a b l, by simp [hl]⟩
 | trans _ _ ih1 ih2 =>
  intro l hl
  obtain ⟨l', p, e⟩ := ih1 l hl
  obtain ⟨l'', p2, e2⟩ := ih2 l' e
  exact ⟨l'', p2.trans p, e2⟩
section
variable {p : Int} [IsP p]
theorem vl_cmp : ∀ (n : Nat) {l m : List Int}, Can p l → Can p m → l.length = n → m.length = n → cmpL l m n = cmpI (vl p l) (vl p m) := by
 have hp := IsP.pos (p := p)
 -- the value of the first coefficients
 have key : ∀ (k : Nat) (l : List Int), Can p l → k ≤ l.length → vl p (l.take k) + (if k < l.length then p ^ k * cf l k else 0) = vl p (l.take (k + 1)) ∧ 0 ≤ vl p (l.take k) ∧ vl p (l.take k) < p ^ k := by
  intro k l hl hk
  have hin := vl_in (p := p) (l := l.take k) fun x hx => hl x (List.mem_of_mem_take hx)
  rw [List.length_take, Nat.min_eq_left hk] at hin
  refine ⟨?_, hin⟩
  have app : ∀ (a b : List Int), vl p (a ++ b) = vl p a + p ^ a.length * vl p b := by
   intro a
   induction a with
   | nil => intro b; simp [vl]
   | cons x a ih =>
    intro b
    rw [List.cons_append, vl, ih, vl, List.length_cons, Int.pow_succ, Int.mul_add, Int.mul_comm (p ^ a.length) p, Int.mul_assoc, Int.add_assoc]
  by_cases hlt : k < l.length
  ·rw [if_pos hlt, ← take_succ_set hlt, app, List.length_take, Nat.min_eq_left hk, cf_lt hlt]
   simp [vl]
  ·rw [if_neg hlt, List.take_of_length_le (by omega), List.take_of_length_le (by omega), Int.add_zero]
 intro n l m hl hm hln hmn
 have main : ∀ k, k ≤ n → cmpL l m k = cmpI (vl p (l.take k)) (vl p (m.take k)) := by
  intro k
  induction k with
  | zero => intro _; simp [cmpL, cmpI, vl]
  | succ k ih =>
   intro hk
   obtain ⟨a1, a2, a3⟩ := key k l hl (by omega)
   obtain ⟨b1, b2, b3⟩ := key k m hm (by omega)
   rw [if_pos (by omega)] at a1 b1
   rw [← a1, ← b1, cmpL, ih (by omega)]
   have hpk := ppow_pos (p := p) k
   generalize vl p (l.take k) = u at *
   generalize vl p (m.take k) = v at *
   generalize cf l k = c at *
   generalize cf m k = d at *
   have mono : ∀ x y : Int, x < y → p ^ k * x + p ^ k ≤ p ^ k * y := fun x y h => by
    have := Int.mul_le_mul_of_nonneg_left (show x + 1 ≤ y by omega) (Int.le_of_lt hpk)
    rwa [Int.mul_add, Int.mul_one] at this
   rcases Int.lt_trichotomy c d with h | h | h
   ·have := mono c d h
    have e : cmpI c d = -1 := if_pos h
    rw [e, if_pos (by omega)]
    exact (if_pos (by omega)).symm
   ·subst h
    have e : cmpI c c = 0 := by unfold cmpI; rw [if_neg (by omega), if_neg (by omega)]
    rw [e, if_neg (fun h => h rfl)]
    unfold cmpI
    by_cases h1 : u < v
    ·rw [if_pos h1, if_pos (by omega)]
    ·rw [if_neg h1]
     by_cases h2 : v < u
     ·rw [if_pos h2, if_neg (by omega), if_pos (by omega)]
     ·rw [if_neg h2, if_neg (by omega), if_neg (by omega)]
   ·have := mono d c h
    have e : cmpI c d = 1 := by unfold cmpI; rw [if_neg (by omega), if_pos h]
    rw [e, if_pos (by omega)]
    unfold cmpI
    rw [if_neg (by omega), if_pos (by omega)]
 have := main n (Nat.le_refl n)
 rwa [List.take_of_length_le (by omega), List.take_of_length_le (by omega)] at this
theorem cmpR_row (a b : Fp p) : cmpR (row a) (row b) = cmpI (numOf a) (numOf b) := by
 unfold cmpR
 rw [row_length, row_length]
 rcases Nat.lt_trichotomy a.len b.len with h | h | h
 ·have := numOf_len h
  have e : cmpI (a.len : Int) b.len = -1 := if_pos (by omega)
  rw [e, if_pos (by omega)]
  exact (if_pos this).symm
 ·have e : cmpI (a.len : Int) b.len = 0 := by unfold cmpI; rw [if_neg (by omega), if_neg (by omega)]
  rw [e, if_neg (fun h => h rfl)]
  exact vl_cmp a.len (row_can a) (row_can b) (row_length a) (by rw [row_length, h])
 ·have := numOf_len h
  have e : cmpI (a.len : Int) b.len = 1 := by unfold cmpI; rw [if_neg (by omega), if_pos (by omega)]
  rw [e, if_pos (by omega)]
  unfold cmpI
  rw [if_neg (by omega), if_pos this]
end
def numD (p : Int) : D → Int
 | .st _ (.sl _ cs :: _) => vl p (cs.map D.num)
 | _ => 0
theorem numD_fac {p : Int} (x : Fp p × Nat) : numD p (facD x) = vl p (row x.1) := by
 show vl p ((ints .i64 (row x.1)).map D.num) = _
 unfold ints
 rw [List.map_map]
 have : (D.num ∘ D.int .i64) = id := rfl
 rw [this, List.map_id]
theorem fac_cmp {p : Int} [IsP p] (hT : T Fq = some Zq) (hc : C_compare (den T A)) {L : Facs p} (hl : ∀ x ∈ L, x.1.len ≤ 1000) : CmpOk (den T A) Fq [] [] (numD p) facSh (L.map facD) := by
 refine ⟨fun x hx => by simp at hx, fun x hx => by simp at hx, fun x hx => ?_, fun x hx => ?_, fun x hx y hy => ?_⟩
 ·obtain ⟨a, _, rfl⟩ := List.mem_map.1 hx; rfl
 ·obtain ⟨a, _, rfl⟩ := List.mem_map.1 hx; rfl
 ·obtain ⟨a, ha, rfl⟩ := List.mem_map.1 hx
  obtain ⟨b, hb, rfl⟩ := List.mem_map.1 hy
  have h1 := hl a ha
  have h2 := hl b hb
  have e := hc (row a.1) (row b.1) (by rw [row_length]; omega) (by rw [row_length]; omega)
  rw [cmpR_row] at e
  have n1 := numD_fac a
  have n2 := numD_fac b
  rw [n1, n2]
  refine ask_of hT rfl ?_
  simp -implicitDefEqProofs [Zq, Zq_B, e, numOf]
def K_factors (O : Oracle) : Prop := ∀ (p : Int) [IsP p] (a : Fp p), a ≠ 0 → a.len ≤ 13 → ∃ L : Facs p, IsFac a L ∧ L.length ≤ 12 ∧
 ask O Fo [(D.int .i64 p), (D.sl .leaf (ints .i64 (row a)))] = some (.sl facSh (L.map facD))
theorem FacOk.perm {p : Int} [IsP p] {L L' : Facs p} (h : FacOk L) (hp : L'.Perm L) : FacOk L' :=
 ⟨fun x hx => h.irr x (hp.subset hx), (hp.pairwise_iff (fun h e => h e.symm)).2 h.dis⟩
theorem prodF_perm {p : Int} {L L' : Facs p} (hp : L'.Perm L) : prodF L' = prodF L := prodL_perm (hp.map _)
theorem k_factors (hT : T Fo = some Zo) (hT1 : T Fq = some Zq) (hw : K_withDegree (den T A)) (hst : K_strip (den T A)) (hdg : C_degree (den T A)) (hpw : K_power (den T A)) (hlet : C_letter (den T A)) (hc : K_combine1 (den T A)) (hg : K_gcd (den T A)) (hld : C_lead (den T A)) (hinv : C_inverse (den T A)) (hs : K_scale (den T A)) (hcmp : C_compare (den T A)) (hsort : H_sortFunc (den T A)) : K_factors (den T A) := by
 intro p i a ha hal
 have h0 : FInv a 1 a [] := ⟨ha, (Gq.mul_one a).symm, ⟨by simp, List.Pairwise.nil⟩, by simp, noSmall_one a, by simpa using hal⟩
 obtain ⟨out, cp, e, j1, j2, j3⟩ := l_fac2 hw hst hdg hpw hlet hc hg hld hinv hs 14 1 a [] (some 0) (Nat.le_refl 1) rfl h0
 obtain ⟨c, hc0, hac⟩ := j1.eq
 have hP := prodF_monic j1.ok
 have hlen : ∀ x ∈ out, x.1.len ≤ 1000 := fun x hx => by
  have h1 : Dv x.1 a := by
   obtain ⟨r, h2, _⟩ := prodF_out j1.ok (show (x.1, x.2) ∈ out from hx)
   obtain ⟨k, hk⟩ : ∃ k, x.2 = k + 1 := ⟨x.2 - 1, by have := (j1.ok.irr x hx).2.2; omega⟩
   rw [hac, h2, hk, pw]
   exact (((Dv.refl x.1).mul_left _).mul_right _).mul_left _
  have := h1.len ha
  omega
 obtain ⟨ds, s1, s2, s3⟩ := hsort _ _ _ _ (out.map facD) cp (by simpa using j1.ln) (fac_cmp hT1 hcmp hlen)
 obtain ⟨L, p1, p2⟩ := perm_map_ex facD s1.symm out rfl
 have ok := j1.ok.perm p1
 subst p2
 have hLl : L.length = out.length := p1.length_eq
 refine ⟨L, ⟨ok, ?_, ?_⟩, by rw [hLl]; exact j1.ln, ask_of hT rfl ?_⟩
 ·have s4 : L.Pairwise fun x y => numOf x.1 ≤ numOf y.1 := by
   have := s2
   unfold Asc at this
   rw [List.pairwise_map] at this
   exact this.imp fun h => by rw [numD_fac, numD_fac] at h; exact h
  exact (s4.and ok.dis).imp fun {x y} h => by
   have h1 := h.1
   rcases Int.lt_or_eq_of_le h1 with h2 | h2
   ·exact h2
   ·exact absurd (numOf_inj h2) h.2
 ·have : a.ld = c := by
   rw [hac, Pol.ld_mul (Pol.C_ne hc0) hP.2, Pol.ld_C hc0, hP.1, Gq.mul_one]
  rw [this, prodF_perm p1]; exact hac
 ·have e0 : (([] : Facs p).length : Nat) = 0 := rfl
  have e00 : ((1 : Nat) : Int) = 1 := rfl
  rw [e0, e00, List.map_nil] at j3
  have hds : (L.map facD).length = out.length := by rw [List.length_map, hLl]
  have hol : (out.map facD).length = out.length := by simp
  have htk : (L.map facD).take out.length = L.map facD := List.take_of_length_le (by omega)
  rw [hol] at s3
  generalize L.map facD = LD at *
  generalize out.map facD = OD at *
  rcases j2 with ⟨x, y, rfl⟩ | rfl
  ·simp -implicitDefEqProofs [Zo, Zo_B, j3, s3, hds, htk, List.idxOf, List.findIdx, List.findIdx.go]
  ·simp -implicitDefEqProofs [Zo, Zo_B, j3, s3, hds, htk, List.idxOf, List.findIdx, List.findIdx.go]
end Pe


namespace Pe
open Go Gq
variable {T : Nat → Option Fn} {A : Oracle}
open Classical in
noncomputable def fac {p : Int} [IsP p] (a : Fp p) : Facs p := if h : ∃ L, IsFac a L then Classical.choose h else []
theorem fac_eq {p : Int} [IsP p] {a : Fp p} (ha : a ≠ 0) {L : Facs p} (h : IsFac a L) : fac a = L := by
 have hx : ∃ L, IsFac a L := ⟨L, h⟩
 unfold fac
 rw [dif_pos hx]
 exact IsFac.unique ha (Classical.choose_spec hx) h
def K_fac (O : Oracle) : Prop := ∀ (p : Int) [IsP p] (a : Fp p), a ≠ 0 → a.len ≤ 13 → IsFac a (fac a) ∧ (fac a).length ≤ 12 ∧
 ask O Fo [(D.int .i64 p), (D.sl .leaf (ints .i64 (row a)))] = some (.sl facSh ((fac a).map facD))
theorem k_fac {O : Oracle} (h : K_factors O) : K_fac O := fun p i a ha hl => by
 obtain ⟨L, h1, h2, h3⟩ := h p a ha hl
 rw [fac_eq ha h1]
 exact ⟨h1, h2, h3⟩
section
variable {p : Int} [IsP p]
theorem IsFac.len {m : Fp p} (hm : m ≠ 0) {L : Facs p} (h : IsFac m L) {x : Fp p × Nat} (hx : x ∈ L) : 2 ≤ x.1.len ∧ x.1.len ≤ m.len ∧ x.2 < m.len ∧ x.1 ≠ 0 := by
 obtain ⟨i1, i2, i3⟩ := h.ok.irr x hx
 obtain ⟨_, _, _, h4, _⟩ := (fac_mem hm h.ok h.eq x.1 x.2).1 hx
 have h5 := h4.len hm
 have h6 : ∀ n, n < (pw x.1 n).len := by
  intro n
  induction n with
  | zero => show 0 < (1 : Fp p).len; rw [Pol.len_one]; omega
  | succ n ih =>
   have l := Pol.len_mul (pw_ne i1.ne n) i1.ne
   have := i1.len
   rw [pw]; omega
 have h7 := h6 x.2
 have h8 : x.1.len ≤ (pw x.1 x.2).len := by
  obtain ⟨k, hk⟩ : ∃ k, x.2 = k + 1 := ⟨x.2 - 1, by omega⟩
  rw [hk, pw]
  exact (show Dv x.1 (pw x.1 k * x.1) from ⟨pw x.1 k, Gq.mul_comm _ _⟩).len (Pol.mul_ne (pw_ne i1.ne k) i1.ne)
 exact ⟨i1.len, by omega, by omega, i1.ne⟩
end
end Pe

namespace Pe
open Go Gq
variable {T : Nat → Option Fn} {A : Oracle}
theorem isP_of {p : Int} (h : isP p = true) : IsP p := ⟨by unfold isP at h; simpa using h⟩
theorem isP_true {p : Int} [h : IsP p] : isP p = true := by unfold isP; exact decide_eq_true h.h
theorem isPl_row {p : Int} [IsP p] {a : Fp p} : isPl p (pad (row a)) = true := by
 unfold isPl
 rw [List.all_eq_true]
 intro x hx
 obtain ⟨i, _, rfl⟩ := List.mem_map.1 hx
 have := (row_can a).le IsP.pos i
 simpa using this.2
theorem row_of_isPl {p : Int} [IsP p] {l : List Int} (hb : Bytes l) (hl : l.length = 64) (h : isPl p l = true) : ∃ a : Fp p, a.len ≤ 64 ∧ l = pad (row a) := by
 have hc : Can p l := fun x hx => ⟨(hb x hx).1, by
  unfold isPl at h
  rw [List.all_eq_true] at h
  simpa using h x hx⟩
 refine ⟨polOf p l, Nat.le_trans (Pol.len_le (polOf_lt l)) (by omega), ?_⟩
 rw [← trim_polOf hc]
 symm
 apply pad_eq hl
 intro i hi
 rw [trim_polOf hc, row_cf, polOf_c, rep_zp (hc.le IsP.pos i)]
inductive Arg1 (p : Int) (l : List Int) : Prop
 | bad (h : codeP p [l] = 1) (h2 : isP p = true → isPl p l = false)
 | good (ip : IsP p) (a : Fp p) (hl : a.len ≤ 64) (e : l = pad (row a))
theorem arg1 (p : Int) {l : List Int} (hb : Bytes l) (hl : l.length = 64) : Arg1 p l := by
 by_cases h1 : isP p = true
 ·by_cases h2 : isPl p l = true
  ·have ip := isP_of h1
   obtain ⟨a, g1, g2⟩ := row_of_isPl hb hl h2
   exact .good ip a g1 g2
  ·refine .bad (by simp [codeP, h2]) fun _ => by simpa using h2
 ·exact .bad (by simp [codeP, h1]) fun h => absurd h h1
theorem codeP_good {p : Int} [IsP p] (ls : List (Fp p)) : codeP p (ls.map fun a => pad (row a)) = 0 := by
 unfold codeP
 rw [if_pos]
 refine ⟨isP_true, ?_⟩
 rw [List.all_map, List.all_eq_true]
 intro a _
 exact isPl_row
theorem codeP_one {p : Int} [IsP p] (a : Fp p) : codeP p [pad (row a)] = 0 := codeP_good [a]
theorem rep_one_iff {p : Int} [IsP p] (x : Zp p) : rep x = 1 ↔ x = 1 := ⟨fun h => rep_inj (by rw [h, rep_one]), fun h => by rw [h, rep_one]⟩
theorem monic_iff {p : Int} [IsP p] (a : Fp p) : Monic a ↔ a.ld = 1 := ⟨fun h => h.1, fun h => ⟨h, fun h0 => by
 rw [h0] at h
 have : (0 : Fp p).ld = 0 := rfl
 rw [this] at h
 exact Fd.one_ne h.symm⟩⟩
end Pe

namespace Pe
open Go Gq
variable {T : Nat → Option Fn} {A : Oracle}
theorem tlen_row {p : Int} {l : List Int} {f : Fp p} (h : ∀ i, cf l i = rep (f.c i)) : tlen l l.length = f.len := by
 have e := congrArg List.length (trim_row h)
 rw [row_length] at e
 unfold trim at e
 rw [List.length_take] at e
 have := tlen_le l l.length
 omega
theorem l_sDeg {O : Oracle} {l : List Int} (hl : l.length = 64) : ∀ n : Nat, n ≤ 64 →
 dn O 0 (.loop Z2a_L0) ⟨[(1, .ptr 0 []), (3, (.d (.int .i64 ((n : Int) - 1))))], [.box false (D.arr 64 .leaf (ints .u8 l))]⟩ =
  some (.exit 0, ⟨[(1, .ptr 0 []), (3, (.d (.int .i64 ((tlen l n : Int) - 1)))), (11, (.d (.bool false)))], [.box false (D.arr 64 .leaf (ints .u8 l))]⟩)
 | 0, _ => dn_stop (by simp -implicitDefEqProofs [Z2a_L0, dn_cond, tlen])
 | n + 1, hn => by
  have hlt : n < l.length := by omega
  have hn64 : n < 64 := by omega
  have hx : l[n] = cf l n := (cf_lt hlt).symm
  have t0 : (((n + 1 : Nat) : Int) - 1) = (n : Int) := by omega
  rw [t0]
  have w1 : IntKind.i64.wrap ((n : Int) - 1) = (n : Int) - 1 := w64 (by omega)
  by_cases h0 : cf l n = 0
  ·have e : tlen l (n + 1) = tlen l n := by simp [tlen, h0]
   rw [e]
   refine dn_round ?_ (l_sDeg hl n (by omega))
   simp -implicitDefEqProofs [Z2a_L0, dn_cond, hlt, hn64, hx, h0, w1]
  ·have e : tlen l (n + 1) = n + 1 := by simp [tlen, h0]
   rw [e, t0]
   refine dn_stop ?_
   simp -implicitDefEqProofs [Z2a_L0, dn_cond, hlt, hn64, hx, h0]
def C_sDeg (O : Oracle) : Prop := ∀ l : List Int, l.length = 64 → ask O F2a [(D.arr 64 .leaf (ints .u8 l))] = some (D.int .i64 ((tlen l 64 : Int) - 1))
theorem c_sDeg (hT : T F2a = some Z2a) : C_sDeg (den T A) := by
 intro l hl
 have e := l_sDeg (O := den T A) hl 64 (Nat.le_refl _)
 have e0 : ((64 : Nat) : Int) - 1 = 63 := rfl
 rw [e0] at e
 refine ask_of hT rfl ?_
 simp -implicitDefEqProofs [Z2a, Z2a_B, e]
def K_sDeg (O : Oracle) : Prop := ∀ (p : Int) [IsP p] (a : Fp p), a.len ≤ 64 → ask O F2a [(D.arr 64 .leaf (ints .u8 (pad (row a))))] = some (D.int .i64 ((a.len : Int) - 1))
theorem k_sDeg {O : Oracle} (h : C_sDeg O) : K_sDeg O := fun p i a hl => by
 have e := tlen_row (f := a) (l := pad (row a)) fun i => by rw [pad_cf (by rw [row_length]; exact hl), row_cf]
 rw [pad_length] at e
 rw [h _ (pad_length _), e]
def C_sIn (O : Oracle) : Prop := ∀ n a b : Int, ask O F2d [(D.int .i64 n), (D.int .i64 a), (D.int .i64 b)] = some (D.bool (decide (a ≤ n ∧ n ≤ b)))
theorem c_sIn (hT : T F2d = some Z2d) : C_sIn (den T A) := by
 intro n a b
 refine ask_of hT rfl ?_
 by_cases h : a ≤ n <;> simp -implicitDefEqProofs [Z2d, Z2d_B, h]
def C_sPrime (O : Oracle) : Prop := ∀ p : Int, ask O F2n [(D.int .i64 p)] = some (D.bool (isP p))
theorem c_sPrime (hT : T F2n = some Z2n) : C_sPrime (den T A) := by
 intro p
 refine ask_of hT rfl ?_
 by_cases h2 : p = 2
 ·simp -implicitDefEqProofs [Z2n, Z2n_B, h2, isP]
 ·by_cases h3 : p = 3
  ·simp -implicitDefEqProofs [Z2n, Z2n_B, h3, isP]
  ·by_cases h5 : p = 5
   ·simp -implicitDefEqProofs [Z2n, Z2n_B, h5, isP]
   ·simp -implicitDefEqProofs [Z2n, Z2n_B, h2, h3, h5, isP]
theorem l_sIs {O : Oracle} {p : Int} {l : List Int} (hb : Bytes l) (hl : l.length = 64) : ∀ (m i : Nat), i + m = 64 →
 dn O 0 (.loop Z2g_L0) ⟨[(0, (.d (.int .i64 p))), (3, .ptr 0 []), (5, (.d (.int .i64 i)))], [.box false (D.arr 64 .leaf (ints .u8 l))]⟩ =
  if (l.drop i).all (fun x => decide (x < p)) then some (.exit 0, ⟨[(0, (.d (.int .i64 p))), (3, .ptr 0 []), (5, (.d (.int .i64 64))), (7, (.d (.bool false)))], [.box false (D.arr 64 .leaf (ints .u8 l))]⟩) else some (.ret, ⟨[(4, (.d (.bool false)))], [.hole]⟩)
 | 0, i, hi => by
  obtain rfl : i = 64 := by omega
  rw [show l.drop 64 = [] from List.drop_eq_nil_of_le (by omega)]
  exact dn_stop (by simp -implicitDefEqProofs [Z2g_L0, dn_cond])
 | m + 1, i, hi => by
  have hlt : i < l.length := by omega
  have hi64 : i < 64 := by omega
  have hi64' : (i : Int) < 64 := by omega
  have hx : l[i] = cf l i := (cf_lt hlt).symm
  have hb' := hb _ (List.getElem_mem hlt)
  rw [hx] at hb'
  have w1 : IntKind.i64.wrap (cf l i) = cf l i := w64 (by omega)
  have w4 : IntKind.i64.wrap ((i : Int) + 1) = ((i + 1 : Nat) : Int) := (w64 (x := (i : Int) + 1) (by omega)).trans (by omega)
  rw [List.drop_eq_getElem_cons hlt, List.all_cons, hx]
  by_cases h0 : cf l i < p
  ·rw [decide_eq_true h0, Bool.true_and]
   refine dn_round ?_ (l_sIs hb hl m (i + 1) (by omega))
   have h1 : ¬ p ≤ cf l i := by omega
   simp -implicitDefEqProofs [Z2g_L0, dn_cond, hlt, hi64, hi64', hx, h1, w1, w4]
  ·rw [decide_eq_false h0, Bool.false_and]
   have h1 : p ≤ cf l i := by omega
   refine dn_back ?_
   simp -implicitDefEqProofs [Z2g_L0, dn_cond, hlt, hi64, hi64', hx, h1, w1]
def C_sIs (O : Oracle) : Prop := ∀ (p : Int) (l : List Int), Bytes l → l.length = 64 → ask O F2g [(D.int .i64 p), (D.arr 64 .leaf (ints .u8 l))] = some (D.bool (isPl p l && isP p))
theorem c_sIs (hT : T F2g = some Z2g) (hp : C_sPrime (den T A)) : C_sIs (den T A) := by
 intro p l hb hl
 have e := l_sIs (O := den T A) (p := p) hb hl 64 0 (by omega)
 have e0 : ((0 : Nat) : Int) = 0 := rfl
 rw [e0, List.drop_zero, show (l.all fun x => decide (x < p)) = isPl p l from rfl] at e
 have e1 := hp p
 refine ask_of hT rfl ?_
 by_cases h : isPl p l = true
 ·rw [if_pos h] at e
  simp -implicitDefEqProofs [Z2g, Z2g_B, e, e1, h]
 ·rw [if_neg h] at e
  simp -implicitDefEqProofs [Z2g, Z2g_B, e, h]
theorem l_sCode {O : Oracle} (hi : C_sIs O) {p : Int} (hp : isP p = true) {ls : List (List Int)} (h : Arrs ls) (hl : ls.length < 2000000) : ∀ (m i : Nat), i + m = ls.length →
 dn O 0 (.loop Z28_L0) ⟨[(0, (.d (.int .i64 p))), (1, .d (.sl (.arr 64 .leaf) (ls.map arr8))), (5, (.d (.int .i64 i)))], []⟩ =
  if (ls.drop i).all (isPl p) then some (.exit 0, ⟨[(0, (.d (.int .i64 p))), (1, .d (.sl (.arr 64 .leaf) (ls.map arr8))), (5, (.d (.int .i64 ls.length))), (12, (.d (.bool false)))], []⟩) else some (.ret, ⟨[(4, (.d (.int .i64 1)))], []⟩)
 | 0, i, hi' => by
  obtain rfl : i = ls.length := by omega
  rw [List.drop_length]
  exact dn_stop (by simp -implicitDefEqProofs [Z28_L0, dn_cond])
 | m + 1, i, hi' => by
  have hlt : i < ls.length := by omega
  have h1 := h _ (List.getElem_mem hlt)
  have e1 := hi p ls[i] h1.2 h1.1
  rw [hp, Bool.and_true] at e1
  have w4 : IntKind.i64.wrap ((i : Int) + 1) = ((i + 1 : Nat) : Int) := (w64 (x := (i : Int) + 1) (by omega)).trans (by omega)
  rw [List.drop_eq_getElem_cons hlt, List.all_cons]
  by_cases h0 : isPl p ls[i] = true
  ·rw [h0, Bool.true_and]
   rw [h0] at e1
   refine dn_round ?_ (l_sCode hi hp h hl m (i + 1) (by omega))
   simp -implicitDefEqProofs [Z28_L0, dn_cond, hlt, e1, w4]
  ·rw [Bool.not_eq_true] at h0
   rw [h0, Bool.false_and]
   rw [h0] at e1
   refine dn_back ?_
   simp -implicitDefEqProofs [Z28_L0, dn_cond, hlt, e1]
def C_sCode (O : Oracle) : Prop := ∀ (p : Int) (ls : List (List Int)), Arrs ls → ls.length < 2000000 → ask O F28 [(D.int .i64 p), .sl (.arr 64 .leaf) (ls.map arr8)] = some (D.int .i64 (codeP p ls))
theorem c_sCode (hT : T F28 = some Z28) (hp : C_sPrime (den T A)) (hi : C_sIs (den T A)) : C_sCode (den T A) := by
 intro p ls h hl
 have e1 := hp p
 unfold codeP
 refine ask_of hT rfl ?_
 by_cases h1 : isP p = true
 ·have e := l_sCode hi h1 h hl ls.length 0 (Nat.zero_add _)
  have e0 : ((0 : Nat) : Int) = 0 := rfl
  rw [e0, List.drop_zero] at e
  by_cases h2 : ls.all (isPl p) = true
  ·rw [if_pos h2] at e
   rw [if_pos ⟨h1, h2⟩]
   simp -implicitDefEqProofs [Z28, Z28_B, dn_cond, e1, e, h1]
  ·rw [if_neg h2] at e
   rw [if_neg (fun h => h2 h.2)]
   simp -implicitDefEqProofs [Z28, Z28_B, dn_cond, e1, e, h1]
 ·rw [if_neg (fun h => h1 h.1)]
  simp -implicitDefEqProofs [Z28, Z28_B, dn_cond, e1, h1]
open Classical in
def K_sMonic (O : Oracle) : Prop := ∀ (p : Int) [IsP p] (a : Fp p), a.len ≤ 64 → ask O F2i [(D.arr 64 .leaf (ints .u8 (pad (row a))))] = some (D.bool (decide (Monic a)))
open Classical in
theorem k_sMonic (hT : T F2i = some Z2i) (hd : K_sDeg (den T A)) : K_sMonic (den T A) := by
 intro p i a hl
 have e1 := hd p a hl
 refine ask_of hT rfl ?_
 by_cases h0 : a = 0
 ·subst h0
  have hm : ¬ Monic (0 : Fp p) := fun h => h.2 rfl
  rw [decide_eq_false hm]
  rw [Pol.len_zero] at e1
  simp -implicitDefEqProofs [Z2i, Z2i_B, e1]
 ·have hp := Pol.len_pos h0
  have hd2 : ((a.len : Int) - 1) = ((a.len - 1 : Nat) : Int) := by omega
  rw [hd2] at e1
  have hx : (pad (row a))[a.len - 1]? = some (rep a.ld) := by rw [pad_get _ _ (by omega), row_cf]; rfl
  have h64 : a.len - 1 < 64 := by omega
  have e2 : decide (rep a.ld = 1) = decide (Monic a) := decide_eq_decide.2 (by rw [rep_one_iff, monic_iff])
  rw [← e2]
  generalize a.len - 1 = n at *
  generalize pad (row a) = L at *
  simp -implicitDefEqProofs [Z2i, Z2i_B, e1, hx, h64]
end Pe

namespace Pe
open Go Gq
variable {T : Nat → Option Fn} {A : Oracle}
def cntL (p : Int) : Nat → Int → Int
 | 0, out => out
 | n + 1, out => if out ≤ 1000000000000 then cntL p n (out * p) else out
theorem cntL_min {p : Int} [IsP p] : ∀ (n : Nat) (out : Int), 0 < out → min (cntL p n out) 1000000000001 = min (out * p ^ n) 1000000000001
 | 0, out, h => by rw [Int.pow_zero, Int.mul_one]; rfl
 | n + 1, out, h => by
  have hp := IsP.pos (p := p)
  have e : out * p ^ (n + 1) = out * p * p ^ n := by rw [Int.pow_succ, Int.mul_assoc, Int.mul_comm p]
  unfold cntL
  split
  ·rw [e, cntL_min n _ (Int.mul_pos h hp)]
  ·have h1 : 1 ≤ p ^ (n + 1) := ppow_pos (n + 1)
   have h2 : out * 1 ≤ out * p ^ (n + 1) := Int.mul_le_mul_of_nonneg_left h1 (by omega)
   omega
theorem l_sCount {O : Oracle} {p : Int} [IsP p] : ∀ (n : Nat) (out : Int), n < 1000000 → 0 < out → out ≤ 7000000000000 → ∃ n' : Int, 0 < cntL p n out ∧ cntL p n out ≤ 7000000000000 ∧
 dn O 0 (.loop Z29_L0) ⟨[(0, (.d (.int .i64 p))), (1, (.d (.int .i64 n))), (5, (.d (.int .i64 out)))], []⟩ =
  some (.exit 0, ⟨[(0, (.d (.int .i64 p))), (1, (.d (.int .i64 n'))), (5, (.d (.int .i64 (cntL p n out)))), (11, (.d (.bool false)))], []⟩)
 | 0, out, _, h1, h2 => ⟨0, h1, h2, dn_stop (by simp -implicitDefEqProofs [Z29_L0, dn_cond, cntL])⟩
 | n + 1, out, hn, h1, h2 => by
  have hp := IsP.pos (p := p)
  have hp7 := IsP.le (p := p)
  have h0 : (0 : Int) < (n : Int) + 1 := by omega
  by_cases h3 : out ≤ 1000000000000
  ·have hmul : 0 < out * p ∧ out * p ≤ 7000000000000 := by
    refine ⟨Int.mul_pos h1 hp, ?_⟩
    have : out * p ≤ out * 7 := Int.mul_le_mul_of_nonneg_left hp7 (by omega)
    omega
   obtain ⟨n', g1, g2, e⟩ := l_sCount (O := O) (p := p) n (out * p) (by omega) hmul.1 hmul.2
   have ec : cntL p (n + 1) out = cntL p n (out * p) := if_pos h3
   rw [ec]
   have w1 : IntKind.i64.wrap (out * p) = out * p := w64 (by omega)
   have w2 : IntKind.i64.wrap (n : Int) = n := w64 (by omega)
   refine ⟨n', g1, g2, dn_round ?_ e⟩
   simp -implicitDefEqProofs [Z29_L0, dn_cond, h0, h3, w1, w2]
  ·have ec : cntL p (n + 1) out = out := if_neg h3
   rw [ec]
   refine ⟨((n + 1 : Nat) : Int), h1, h2, dn_stop ?_⟩
   simp -implicitDefEqProofs [Z29_L0, dn_cond, h0, h3]
def K_sCount (O : Oracle) : Prop := ∀ (p : Int) [IsP p] (n : Nat), n < 1000000 → ask O F29 [(D.int .i64 p), (D.int .i64 n)] = some (D.int .i64 (min (p ^ n) 1000000000001))
theorem k_sCount (hT : T F29 = some Z29) : K_sCount (den T A) := by
 intro p i n hn
 obtain ⟨n', g1, g2, e⟩ := l_sCount (O := den T A) (p := p) n 1 hn (by omega) (by omega)
 have e2 := cntL_min (p := p) n 1 (by omega)
 rw [Int.one_mul] at e2
 have e3 : (if (1000000000001 : Int) < cntL p n 1 then 1000000000001 else cntL p n 1) = min (p ^ n) 1000000000001 := by
  rw [← e2]
  split <;> omega
 refine ask_of hT rfl ?_
 simp -implicitDefEqProofs [Z29, Z29_B, e]
 exact e3
theorem k_sCount' {O : Oracle} (h : K_sCount O) (p : Int) [IsP p] (n : Nat) (hn : n ≤ 12) : ask O F29 [(D.int .i64 p), (D.int .i64 n)] = some (D.int .i64 (p ^ n)) := by
 have h1 := ppow_le (p := p) hn
 rw [h p n (by omega), Int.min_eq_left (by omega)]
def K_sInverse (O : Oracle) : Prop := ∀ (p : Int) [IsP p] (x : Int), 0 < x → x < p → ask O F2e [(D.int .i64 p), .int .u8 x] = some (.int .u8 (inv p x))
theorem ask_closed {F : Nat} {fn : Fn} (hT : T F = some fn) {ds : List D} {d : D} {n : Nat} (h : run (fun _ _ _ => none) n fn (ds.map .d) [] = some (.d d, [], [])) : ask (den T A) F ds = some d := by
 have h2 := den_run (A := A) hT (n := n) (vs := ds.map .d) (bs := []) (ans := (.d d, [], [])) (by
  obtain ⟨qs, h3, h4⟩ := run_rests h
  cases qs with
  | nil => exact h4 _ (by intro q hq; simp at hq)
  | cons q qs => exact absurd (h3 q (by simp)) (by simp))
 unfold ask
 rw [h2]
 simp
theorem k_sInverse (hT : T F2e = some Z2e) : K_sInverse (den T A) := by
 intro p ip x h0 h1
 rcases ip.h with rfl | rfl | rfl | rfl
 ·obtain rfl : x = 1 := by omega
  exact ask_closed hT (n := 10) (by kernel_rfl)
 ·have : x = 1 ∨ x = 2 := by omega
  rcases this with rfl | rfl
  ·exact ask_closed hT (n := 10) (by kernel_rfl)
  ·exact ask_closed hT (n := 10) (by kernel_rfl)
 ·have : x = 1 ∨ x = 2 ∨ x = 3 ∨ x = 4 := by omega
  rcases this with rfl | rfl | rfl | rfl
  ·exact ask_closed hT (n := 10) (by kernel_rfl)
  ·exact ask_closed hT (n := 10) (by kernel_rfl)
  ·exact ask_closed hT (n := 10) (by kernel_rfl)
  ·exact ask_closed hT (n := 10) (by kernel_rfl)
 ·have : x = 1 ∨ x = 2 ∨ x = 3 ∨ x = 4 ∨ x = 5 ∨ x = 6 := by omega
  rcases this with rfl | rfl | rfl | rfl | rfl | rfl
  ·exact ask_closed hT (n := 10) (by kernel_rfl)
  ·exact ask_closed hT (n := 10) (by kernel_rfl)
  ·exact ask_closed hT (n := 10) (by kernel_rfl)
  ·exact ask_closed hT (n := 10) (by kernel_rfl)
  ·exact ask_closed hT (n := 10) (by kernel_rfl)
  ·exact ask_closed hT (n := 10) (by kernel_rfl)
theorem pad_of {p : Int} [IsP p] {l : List Int} (h : Can p l) (hl : l.length = 64) : l = pad (row (polOf p l)) := by
 rw [← trim_polOf h]
 symm
 apply pad_eq hl
 intro i hi
 rw [trim_polOf h, row_cf, polOf_c, rep_zp (h.le IsP.pos i)]
theorem pad_can {p : Int} [IsP p] (a : Fp p) : Can p (pad (row a)) := fun x hx => by
 obtain ⟨i, _, rfl⟩ := List.mem_map.1 hx
 exact (row_can a).le IsP.pos i
theorem polOf_pad {p : Int} {a : Fp p} (hl : a.len ≤ 64) : polOf p (pad (row a)) = a := Pol.ext fun i => by rw [polOf_c, pad_cf (by rw [row_length]; exact hl), row_cf, zp_rep]
theorem pad_row_cf {p : Int} {a : Fp p} (hl : a.len ≤ 64) (i : Nat) : cf (pad (row a)) i = rep (a.c i) := by rw [pad_cf (by rw [row_length]; exact hl), row_cf]
theorem l_sAdd {O : Oracle} {p k : Int} [IsP p] {a b z : List Int} (ha : Can p a) (hb : Can p b) (hbl : b.length = 64) (hk : -1000000 ≤ k ∧ k ≤ 1000000) : ∀ (m i : Nat) (cur : List Int), i + m = 64 → cur.length = 64 → (∀ j, i ≤ j → cf cur j = cf a j) →
 dn O 0 (.loop Z26_L0) ⟨[(0, (.d (.int .i64 p))), (3, (.d (.int .i64 k))), (5, .ptr 0 []), (6, .ptr 1 []), (8, .ptr 2 []), (9, (.d (.int .i64 i)))], [.box false (D.arr 64 .leaf (ints .u8 cur)), .box false (D.arr 64 .leaf (ints .u8 b)), .box false (D.arr 64 .leaf (ints .u8 z))]⟩ =
  some (.exit 0, ⟨[(0, (.d (.int .i64 p))), (3, (.d (.int .i64 k))), (5, .ptr 0 []), (6, .ptr 1 []), (8, .ptr 2 []), (9, (.d (.int .i64 64))), (11, (.d (.bool false)))], [.box false (D.arr 64 .leaf (ints .u8 (upd (lin p a b k) m i cur))), .box false (D.arr 64 .leaf (ints .u8 b)), .box false (D.arr 64 .leaf (ints .u8 z))]⟩)
 | 0, i, cur, hi, hc, hs => by
  obtain rfl : i = 64 := by omega
  exact dn_stop (by simp -implicitDefEqProofs [Z26_L0, dn_cond, upd])
 | m + 1, i, cur, hi, hc, hs => by
  have hp := IsP.pos (p := p)
  have hp7 := IsP.le (p := p)
  have hp0 : p ≠ 0 := by omega
  have hlt : i < cur.length := by omega
  have hlb : i < b.length := by omega
  have hi64 : i < 64 := by omega
  have hi64' : (i : Int) < 64 := by omega
  have hx : cur[i] = cf a i := by rw [← cf_lt hlt]; exact hs i (Nat.le_refl i)
  have hy : b[i] = cf b i := (cf_lt hlb).symm
  have ga := ha.le hp i
  have gb := hb.le hp i
  have gm := mul_small (x := k) (y := cf b i) (b := 1000000) (c := 10) hk (by omega) (by omega)
  have w1 : IntKind.i64.wrap (cf a i) = cf a i := w64 (by omega)
  have w2 : IntKind.i64.wrap (cf b i) = cf b i := w64 (by omega)
  have w3 : IntKind.i64.wrap (k * cf b i) = k * cf b i := w64 (by omega)
  have w5 : IntKind.i64.wrap (cf a i + k * cf b i) = cf a i + k * cf b i := w64 (by omega)
  have hin := tmod_in (n := cf a i + k * cf b i) hp
  have w6 : IntKind.i64.wrap ((cf a i + k * cf b i).tmod p + p) = (cf a i + k * cf b i).tmod p + p := w64 (by omega)
  have w7 : ((cf a i + k * cf b i).tmod p + p).tmod p = lin p a b k i := tmod_tmod hp
  have hlin : 0 ≤ lin p a b k i ∧ lin p a b k i < p := ⟨Int.emod_nonneg _ (by omega), Int.emod_lt_of_pos _ hp⟩
  have w8' : IntKind.u8.wrap (lin p a b k i) = lin p a b k i := w8 (by omega)
  have w4 : IntKind.i64.wrap ((i : Int) + 1) = ((i + 1 : Nat) : Int) := (w64 (x := (i : Int) + 1) (by omega)).trans (by omega)
  refine dn_round ?_ (l_sAdd ha hb hbl hk m (i + 1) (cur.set i (lin p a b k i)) (by omega) (by simpa using hc) (fun j hj => by rw [cf_set, if_neg (by omega)]; exact hs j (by omega)))
  simp -implicitDefEqProofs [Z26_L0, dn_cond, hlt, hlb, hi64, hi64', hx, hy, w1, w2, w3, w5, w6, w7, w8', w4, hp0]
def K_sAdd (O : Oracle) : Prop := ∀ (p : Int) [IsP p] (k : Int) (a b : Fp p), -1000000 ≤ k → k ≤ 1000000 → a.len ≤ 64 → b.len ≤ 64 →
 ask O F26 [(D.int .i64 p), (D.arr 64 .leaf (ints .u8 (pad (row a)))), (D.arr 64 .leaf (ints .u8 (pad (row b)))), (D.int .i64 k)] = some (D.arr 64 .leaf (ints .u8 (pad (row (a + Pol.C (zp p k) * b)))))
theorem k_sAdd (hT : T F26 = some Z26) : K_sAdd (den T A) := by
 intro p i k a b hk hk' hal hbl
 have e := l_sAdd (O := den T A) (z := pad []) (pad_can a) (pad_can b) (pad_length _) ⟨hk, hk'⟩ 64 0 (pad (row a)) (by omega) (pad_length _) (fun _ _ => rfl)
 have e0 : ((0 : Nat) : Int) = 0 := rfl
 rw [e0, upd_all _ _ _ (pad_length _)] at e
 have e2 : (List.range 64).map (lin p (pad (row a)) (pad (row b)) k) = pad (row (a + Pol.C (zp p k) * b)) := by
  unfold pad
  congr 1
  funext j
  rw [row_cf, Pol.c_add, Pol.c_Cmul]
  show (cf (pad (row a)) j + k * cf (pad (row b)) j) % p = _
  rw [pad_row_cf hal, pad_row_cf hbl, ← rep_mk, zp_add, zp_mul, zp_rep, zp_rep]
 rw [e2] at e
 refine ask_of hT rfl ?_
 generalize pad (row (a + Pol.C (zp p k) * b)) = R at *
 simp -implicitDefEqProofs [Z26, Z26_B, e]
def K_sOne (O : Oracle) : Prop := ∀ (p : Int) [IsP p], ask O F2l [] = some (D.arr 64 .leaf (ints .u8 (pad (row (1 : Fp p)))))
theorem k_sOne (hT : T F2l = some Z2l) : K_sOne (den T A) := by
 intro p i
 have e : (pad []).set 0 1 = pad [1] := by decide +kernel
 have h0 : (0 : Nat) < (pad []).length := by rw [pad_length]; omega
 rw [row_one]
 refine ask_of hT rfl ?_
 simp -implicitDefEqProofs [Z2l, Z2l_B, e, h0]
end Pe

namespace Pe
open Go Gq
variable {T : Nat → Option Fn} {A : Oracle}
def subS (p q : Int) (b : List Int) (i : Nat) (m : Nat) (cur : List Int) : List Int := if q = 0 then cur else subTo p q b i m 0 cur
theorem subS_eq {p q : Int} [IsP p] {b cur : List Int} {i m : Nat} (hc : Can p cur) (hl : i + m ≤ cur.length) : subS p q b i m cur = subTo p q b i m 0 cur := by
 unfold subS
 split
 ·rename_i h
  subst h
  apply List.ext_getElem
  ·rw [subTo_length]
  ·intro j h1 h2
   rw [← cf_lt h1, ← cf_lt h2, subTo_cf _ _ _ _ _ _ _ _ (by omega)]
   have := hc.le IsP.pos j
   split
   ·rw [Int.zero_mul, Int.sub_zero, Int.emod_eq_of_lt this.1 this.2]
   ·rfl
 ·rfl
theorem l_sDiv0 {O : Oracle} {p q by_ : Int} [IsP p] {b quo z z' : List Int} {i bl : Nat} (hq : 0 < q ∧ q < p) (hb : Can p b) (hbl : b.length = 64) (hn : i + bl ≤ 64) (h0 : 0 < bl) : ∀ (m k : Nat) (cur : List Int), k + m = bl → cur.length = 64 → Can p cur →
 dn O 0 (.loop Z2b_L0) ⟨[(0, (.d (.int .i64 p))), (4, .ptr 0 []), (5, .ptr 1 []), (6, .ptr 2 []), (7, .ptr 3 []), (8, .ptr 4 []), (9, (.d (.int .i64 ((bl : Int) - 1)))), (10, (.d (.int .i64 by_))), (11, (.d (.int .i64 ((i : Int) + bl - 1)))), (12, (.d (.int .i64 q))), (13, (.d (.int .i64 k)))], [.box false (D.arr 64 .leaf (ints .u8 cur)), .box false (D.arr 64 .leaf (ints .u8 b)), .box false (D.arr 64 .leaf (ints .u8 z)), .box false (D.arr 64 .leaf (ints .u8 z')), .box false (D.arr 64 .leaf (ints .u8 quo))]⟩ =
  some (.exit 2, ⟨[(0, (.d (.int .i64 p))), (4, .ptr 0 []), (5, .ptr 1 []), (6, .ptr 2 []), (7, .ptr 3 []), (8, .ptr 4 []), (9, (.d (.int .i64 ((bl : Int) - 1)))), (10, (.d (.int .i64 by_))), (11, (.d (.int .i64 ((i : Int) + bl - 1)))), (12, (.d (.int .i64 q))), (13, (.d (.int .i64 bl))), (50, (.d (.bool false)))], [.box false (D.arr 64 .leaf (ints .u8 (subTo p q b i m k cur))), .box false (D.arr 64 .leaf (ints .u8 b)), .box false (D.arr 64 .leaf (ints .u8 z)), .box false (D.arr 64 .leaf (ints .u8 z')), .box false (D.arr 64 .leaf (ints .u8 quo))]⟩)
 | 0, k, cur, hk, hc, hcan => by
  obtain rfl : k = bl := by omega
  have h1 : ¬ (k : Int) ≤ (k : Int) - 1 := by omega
  exact dn_stop (by simp -implicitDefEqProofs [Z2b_L0, dn_cond, subTo, h1])
 | m + 1, k, cur, hk, hc, hcan => by
  have hp := IsP.pos (p := p)
  have hp7 := IsP.le (p := p)
  have hp0 : p ≠ 0 := by omega
  have hq0 : q ≠ 0 := by omega
  have h1 : (k : Int) ≤ (bl : Int) - 1 := by omega
  have w1 : IntKind.i64.wrap ((i : Int) + bl - 1 - (bl - 1)) = i := (w64 (x := (i : Int) + bl - 1 - (bl - 1)) (by omega)).trans (by omega)
  have w2 : IntKind.i64.wrap ((i : Int) + k) = ((i + k : Nat) : Int) := (w64 (x := (i : Int) + k) (by omega)).trans (by omega)
  have hik : i + k < 64 := by omega
  have hikc : i + k < cur.length := by omega
  have hkb : k < b.length := by omega
  have hk64 : k < 64 := by omega
  have hx : cur[i + k] = cf cur (i + k) := (cf_lt hikc).symm
  have hy : b[k] = cf b k := (cf_lt hkb).symm
  have gc := hcan.le hp (i + k)
  have gb := hb.le hp k
  have gm := mul_small (x := q) (y := cf b k) (b := 10) (c := 10) (by omega) (by omega) (by omega)
  have w3 : IntKind.i64.wrap (cf cur (i + k)) = cf cur (i + k) := w64 (by omega)
  have w5 : IntKind.i64.wrap (cf b k) = cf b k := w64 (by omega)
  have w6 : IntKind.i64.wrap (q * cf b k) = q * cf b k := w64 (by omega)
  have w7 : IntKind.i64.wrap (cf cur (i + k) - q * cf b k) = cf cur (i + k) - q * cf b k := w64 (by omega)
  have hin := tmod_in (n := cf cur (i + k) - q * cf b k) hp
  have w9 : IntKind.i64.wrap ((cf cur (i + k) - q * cf b k).tmod p + p) = (cf cur (i + k) - q * cf b k).tmod p + p := w64 (by omega)
  have w10 : ((cf cur (i + k) - q * cf b k).tmod p + p).tmod p = (cf cur (i + k) - q * cf b k) % p := tmod_tmod hp
  have hlin : 0 ≤ (cf cur (i + k) - q * cf b k) % p ∧ (cf cur (i + k) - q * cf b k) % p < p := ⟨Int.emod_nonneg _ (by omega), Int.emod_lt_of_pos _ hp⟩
  have w11 : IntKind.u8.wrap ((cf cur (i + k) - q * cf b k) % p) = (cf cur (i + k) - q * cf b k) % p := w8 (by omega)
  have w4 : IntKind.i64.wrap ((k : Int) + 1) = ((k + 1 : Nat) : Int) := (w64 (x := (k : Int) + 1) (by omega)).trans (by omega)
  have t1 : (0 : Int) ≤ (i : Int) + k := by omega
  have t2 : ((i : Int) + k).toNat = i + k := by omega
  have hcan' : Can p (cur.set (i + k) ((cf cur (i + k) - q * cf b k) % p)) := by
   intro x hx
   rcases List.mem_or_eq_of_mem_set hx with h | h
   ·exact hcan x h
   ·subst h; exact hlin
  refine dn_round ?_ (l_sDiv0 hq hb hbl hn h0 m (k + 1) (cur.set (i + k) ((cf cur (i + k) - q * cf b k) % p)) (by omega) (by simpa using hc) hcan')
  simp -implicitDefEqProofs [Z2b_L0, dn_cond, h1, hq0, w1, w2, hik, hikc, hkb, hk64, hx, hy, w3, w5, w6, w7, w9, w10, w11, w4, hp0, t1, t2]
theorem l_sDiv1 {O : Oracle} {p by_ : Int} [IsP p] {b : List Int} {bl : Nat} {z z' : List Int} (hby : 0 ≤ by_ ∧ by_ < p) (hb : Can p b) (hbl : b.length = 64) (h0 : 0 < bl) : ∀ (c : Nat) (cur quo : List Int), c + bl ≤ 65 → cur.length = 64 → quo.length = 64 → Can p cur →
 dn O 0 (.loop Z2b_L1) ⟨[(0, (.d (.int .i64 p))), (4, .ptr 0 []), (5, .ptr 1 []), (6, .ptr 2 []), (7, .ptr 3 []), (8, .ptr 4 []), (9, (.d (.int .i64 ((bl : Int) - 1)))), (10, (.d (.int .i64 by_))), (11, (.d (.int .i64 ((c : Int) + bl - 2))))], [.box false (D.arr 64 .leaf (ints .u8 cur)), .box false (D.arr 64 .leaf (ints .u8 b)), .box false (D.arr 64 .leaf (ints .u8 z)), .box false (D.arr 64 .leaf (ints .u8 z')), .box false (D.arr 64 .leaf (ints .u8 quo))]⟩ =
  some (.exit 0, ⟨[(0, (.d (.int .i64 p))), (4, .ptr 0 []), (5, .ptr 1 []), (6, .ptr 2 []), (7, .ptr 3 []), (8, .ptr 4 []), (9, (.d (.int .i64 ((bl : Int) - 1)))), (10, (.d (.int .i64 by_))), (11, (.d (.int .i64 ((bl : Int) - 2)))), (27, (.d (.bool false)))], [.box false (D.arr 64 .leaf (ints .u8 ((dv p by_ (b.take bl) c (cur, quo)).1))), .box false (D.arr 64 .leaf (ints .u8 b)), .box false (D.arr 64 .leaf (ints .u8 z)), .box false (D.arr 64 .leaf (ints .u8 z')), .box false (D.arr 64 .leaf (ints .u8 ((dv p by_ (b.take bl) c (cur, quo)).2)))]⟩)
 | 0, cur, quo, _, hc, hqo, hcan => by
  have h1 : ¬ (bl : Int) - 1 ≤ (bl : Int) - 2 := by omega
  have t0 : ((0 : Nat) : Int) + bl - 2 = (bl : Int) - 2 := by omega
  rw [t0]
  exact dn_stop (by simp -implicitDefEqProofs [Z2b_L1, dn_cond, h1, dv])
 | c + 1, cur, quo, hcb, hc, hqo, hcan => by
  have hp := IsP.pos (p := p)
  have hp7 := IsP.le (p := p)
  have hp0 : p ≠ 0 := by omega
  have hbt : (b.take bl).length = bl := by rw [List.length_take]; omega
  have t0 : ((c + 1 : Nat) : Int) + bl - 2 = (c : Int) + bl - 1 := by omega
  rw [t0]
  have h1 : (bl : Int) - 1 ≤ (c : Int) + bl - 1 := by omega
  have hi64 : c + bl - 1 < 64 := by omega
  have hic : c + bl - 1 < cur.length := by omega
  have t1 : (0 : Int) ≤ (c : Int) + bl - 1 := by omega
  have t2 : ((c : Int) + bl - 1).toNat = c + bl - 1 := by omega
  have t3 : (1 : Int) ≤ (c : Int) + bl := by omega
  have hx : cur[c + bl - 1] = cf cur (c + bl - 1) := (cf_lt hic).symm
  have gc := hcan.le hp (c + bl - 1)
  have gm := mul_small (x := cf cur (c + bl - 1)) (y := by_) (b := 10) (c := 10) (by omega) (by omega) (by omega)
  have w1 : IntKind.i64.wrap (cf cur (c + bl - 1)) = cf cur (c + bl - 1) := w64 (by omega)
  have w2 : IntKind.i64.wrap (cf cur (c + bl - 1) * by_) = cf cur (c + bl - 1) * by_ := w64 (by omega)
  have w3 : (cf cur (c + bl - 1) * by_).tmod p = cf cur (c + bl - 1) * by_ % p := Int.tmod_eq_emod_of_nonneg (Int.mul_nonneg gc.1 hby.1)
  have hq : 0 ≤ cf cur (c + bl - 1) * by_ % p ∧ cf cur (c + bl - 1) * by_ % p < p := ⟨Int.emod_nonneg _ hp0, Int.emod_lt_of_pos _ hp⟩
  have w4 : IntKind.i64.wrap ((c : Int) + bl - 1 - (bl - 1)) = c := (w64 (x := (c : Int) + bl - 1 - (bl - 1)) (by omega)).trans (by omega)
  have w5 : IntKind.u8.wrap (cf cur (c + bl - 1) * by_ % p) = cf cur (c + bl - 1) * by_ % p := w8 (by omega)
  have hc64 : c < 64 := by omega
  have hcq : c < quo.length := by omega
  have w6 : IntKind.i64.wrap ((c : Int) + bl - 1 - 1) = (c : Int) + bl - 2 := (w64 (x := (c : Int) + bl - 1 - 1) (by omega)).trans (by omega)
  have ed : dv p by_ (b.take bl) (c + 1) (cur, quo) = dv p by_ (b.take bl) c (subS p (cf cur (c + bl - 1) * by_ % p) b c bl cur, quo.set c (cf cur (c + bl - 1) * by_ % p)) := by
   rw [dv, hbt, subS_eq hcan (by omega)]
   have es : ∀ (m k : Nat) (x : List Int), k + m ≤ bl → subTo p (cf cur (c + bl - 1) * by_ % p) (b.take bl) c m k x = subTo p (cf cur (c + bl - 1) * by_ % p) b c m k x := by
    intro m
    induction m with
    | zero => intro k x _; rfl
    | succ m ih =>
     intro k x hk
     have e : cf (b.take bl) k = cf b k := by rw [cf_lt (by omega), cf_lt (by omega), List.getElem_take]
     rw [subTo, subTo, e, ih _ _ (by omega)]
   rw [es bl 0 cur (by omega)]
  rw [ed]
  have hcan' : Can p (subS p (cf cur (c + bl - 1) * by_ % p) b c bl cur) := by rw [subS_eq hcan (by omega)]; exact subTo_can hp (by omega) hcan
  have hlen' : (subS p (cf cur (c + bl - 1) * by_ % p) b c bl cur).length = 64 := by rw [subS_eq hcan (by omega), subTo_length, hc]
  have ih := l_sDiv1 (O := O) (z := z) (z' := z') hby hb hbl h0 c (subS p (cf cur (c + bl - 1) * by_ % p) b c bl cur) (quo.set c (cf cur (c + bl - 1) * by_ % p)) (by omega) hlen' (by simpa using hqo) hcan'
  refine dn_round ?_ ih
  generalize cf cur (c + bl - 1) * by_ % p = q at *
  have l0 : ∃ k : Int, dn O 0 (.loop Z2b_L0) ⟨[(0, (.d (.int .i64 p))), (4, .ptr 0 []), (5, .ptr 1 []), (6, .ptr 2 []), (7, .ptr 3 []), (8, .ptr 4 []), (9, (.d (.int .i64 ((bl : Int) - 1)))), (10, (.d (.int .i64 by_))), (11, (.d (.int .i64 ((c : Int) + bl - 1)))), (12, (.d (.int .i64 q))), (13, (.d (.int .i64 0)))], [.box false (D.arr 64 .leaf (ints .u8 cur)), .box false (D.arr 64 .leaf (ints .u8 b)), .box false (D.arr 64 .leaf (ints .u8 z)), .box false (D.arr 64 .leaf (ints .u8 z')), .box false (D.arr 64 .leaf (ints .u8 (quo.set c q)))]⟩ =
   some (.exit 2, ⟨[(0, (.d (.int .i64 p))), (4, .ptr 0 []), (5, .ptr 1 []), (6, .ptr 2 []), (7, .ptr 3 []), (8, .ptr 4 []), (9, (.d (.int .i64 ((bl : Int) - 1)))), (10, (.d (.int .i64 by_))), (11, (.d (.int .i64 ((c : Int) + bl - 1)))), (12, (.d (.int .i64 q))), (13, (.d (.int .i64 k))), (50, (.d (.bool false)))], [.box false (D.arr 64 .leaf (ints .u8 (subS p q b c bl cur))), .box false (D.arr 64 .leaf (ints .u8 b)), .box false (D.arr 64 .leaf (ints .u8 z)), .box false (D.arr 64 .leaf (ints .u8 z')), .box false (D.arr 64 .leaf (ints .u8 (quo.set c q)))]⟩) := by
   by_cases hq0 : q = 0
   ·subst hq0
    refine ⟨0, ?_⟩
    have e : subS p 0 b c bl cur = cur := if_pos rfl
    rw [e]
    have h2 : (1 : Int) ≤ (bl : Int) := by omega
    exact dn_stop (by simp -implicitDefEqProofs [Z2b_L0, dn_cond, h2])
   ·refine ⟨bl, ?_⟩
    have e : subS p q b c bl cur = subTo p q b c bl 0 cur := if_neg hq0
    rw [e]
    have := l_sDiv0 (O := O) (by_ := by_) (quo := quo.set c q) (z := z) (z' := z') (i := c) (bl := bl) ⟨by omega, hq.2⟩ hb hbl (by omega) h0 bl 0 cur (Nat.zero_add _) hc hcan
    exact this
  obtain ⟨k, l0⟩ := l0
  simp -implicitDefEqProofs [Z2b_L1, dn_cond, h1, hi64, hic, t2, t3, hx, w1, w2, w3, w4, w5, w6, hc64, hcq, hp0, l0]
def K_sDivide (O : Oracle) : Prop := ∀ (p : Int) [IsP p] (a b : Fp p), b ≠ 0 → a.len ≤ 64 → b.len ≤ 64 →
 ask O F2b [(D.int .i64 p), (D.arr 64 .leaf (ints .u8 (pad (row a)))), (D.arr 64 .leaf (ints .u8 (pad (row b))))] = some (.tup [(D.arr 64 .leaf (ints .u8 (pad (row (a / b))))), (D.arr 64 .leaf (ints .u8 (pad (row (a % b)))))])
theorem pad_take {p : Int} {b : Fp p} (h : b.len ≤ 64) : (pad (row b)).take b.len = row b := by
 apply List.ext_getElem
 ·rw [List.length_take, pad_length, row_length]; omega
 ·intro i h1 h2
  rw [List.getElem_take, ← cf_lt, pad_row_cf h, ← row_cf, cf_lt h2]
theorem k_sDivide (hT : T F2b = some Z2b) (hd : K_sDeg (den T A)) (hinv : K_sInverse (den T A)) : K_sDivide (den T A) := by
 intro p i a b hb hal hbl
 have hp := IsP.ge (p := p)
 have hp7 := IsP.le (p := p)
 have hb0 := Pol.len_pos hb
 have e1 := hd p b hbl
 have e2 := hd p a hal
 have hr := rep_in b.ld
 have hld : rep b.ld ≠ 0 := fun h0 => Pol.ld_ne hb (rep_eq_zero.1 h0)
 have e3 := hinv p (rep b.ld) (by omega) hr.2
 have hin := inv_in p (rep b.ld)
 have w1 : IntKind.i64.wrap (inv p (rep b.ld)) = inv p (rep b.ld) := w64 (by omega)
 have hbx : (pad (row b))[b.len - 1]? = some (rep b.ld) := by rw [pad_get _ _ (by omega), row_cf]; rfl
 have hbx' : ((b.len : Int) - 1).toNat = b.len - 1 := by omega
 have hbx2 : (1 : Int) ≤ (b.len : Int) := by omega
 have hbx3 : b.len - 1 < 64 := by omega
 have hz : ∀ j, cf (pad []) j = 0 := fun j => by rw [pad_cf (by simp), cf_ge (by simp)]
 have hcanz : Can p (pad []) := fun x hx => by
  obtain ⟨j, _, rfl⟩ := List.mem_map.1 hx
  rw [cf_ge (by simp)]; omega
 have sp := dv_spec b hb (a.len + 1 - b.len) (pad (row a)) (pad []) (by rw [pad_length]; omega) (by rw [pad_length]; omega) (pad_can a) (fun j _ => hz j) (fun j hj => by
  rw [pad_row_cf hal, a.lt_len j (by omega), rep_zero]) hcanz
 have hl1 : ∀ (B : List Int) (c : Nat) (x y : List Int), (dv p (inv p (rep b.ld)) B c (x, y)).1.length = x.length ∧ (dv p (inv p (rep b.ld)) B c (x, y)).2.length = y.length := by
  intro B c
  induction c with
  | zero => exact fun x y => ⟨rfl, rfl⟩
  | succ c ih =>
   intro x y
   rw [dv]
   obtain ⟨i1, i2⟩ := ih (subTo p (cf x (c + B.length - 1) * inv p (rep b.ld) % p) B c B.length 0 x) (y.set c (cf x (c + B.length - 1) * inv p (rep b.ld) % p))
   exact ⟨by rw [i1, subTo_length], by rw [i2, List.length_set]⟩
 obtain ⟨g1, g2⟩ := hl1 (row b) (a.len + 1 - b.len) (pad (row a)) (pad [])
 rw [pad_length] at g1 g2
 have l1 := l_sDiv1 (O := den T A) (b := pad (row b)) (bl := b.len) (z := pad []) (z' := pad []) hin (pad_can b) (pad_length _) hb0 (a.len + 1 - b.len) (pad (row a)) (pad []) (by omega) (pad_length _) (pad_length _) (pad_can a)
 rw [pad_take hbl] at l1
 generalize dv p (inv p (rep b.ld)) (row b) (a.len + 1 - b.len) (pad (row a), pad []) = r at *
 obtain ⟨s1, s2, s3, s4⟩ := sp
 have z0 : polOf p (pad []) = 0 := Pol.ext fun j => by rw [polOf_c, hz]; rfl
 rw [z0, Gq.zero_mul, Gq.add_zero, polOf_pad hal, Gq.add_comm] at s1
 have hrl : (polOf p r.1).len < b.len := by
  have : (polOf p r.1).lt (b.len - 1) := fun i hi => by rw [polOf_c, s2 i hi]; rfl
  have := Pol.len_le this
  omega
 obtain ⟨h1, h2⟩ := Pol.div_mod_eq s1.symm hrl
 rw [h1, h2, ← pad_of s3 g1, ← pad_of s4 g2]
 have lz : ∃ n : Int, dn (den T A) 0 (.loop Z2b_L1) ⟨[(0, (.d (.int .i64 p))), (4, .ptr 0 []), (5, .ptr 1 []), (6, .ptr 2 []), (7, .ptr 3 []), (8, .ptr 4 []), (9, (.d (.int .i64 ((b.len : Int) - 1)))), (10, (.d (.int .i64 (inv p (rep b.ld))))), (11, (.d (.int .i64 ((a.len : Int) - 1))))], [.box false (D.arr 64 .leaf (ints .u8 (pad (row a)))), .box false (D.arr 64 .leaf (ints .u8 (pad (row b)))), .box false (D.arr 64 .leaf (ints .u8 (pad []))), .box false (D.arr 64 .leaf (ints .u8 (pad []))), .box false (D.arr 64 .leaf (ints .u8 (pad [])))]⟩ =
  some (.exit 0, ⟨[(0, (.d (.int .i64 p))), (4, .ptr 0 []), (5, .ptr 1 []), (6, .ptr 2 []), (7, .ptr 3 []), (8, .ptr 4 []), (9, (.d (.int .i64 ((b.len : Int) - 1)))), (10, (.d (.int .i64 (inv p (rep b.ld))))), (11, (.d (.int .i64 n))), (27, (.d (.bool false)))], [.box false (D.arr 64 .leaf (ints .u8 r.1)), .box false (D.arr 64 .leaf (ints .u8 (pad (row b)))), .box false (D.arr 64 .leaf (ints .u8 (pad []))), .box false (D.arr 64 .leaf (ints .u8 (pad []))), .box false (D.arr 64 .leaf (ints .u8 r.2))]⟩) := by
  by_cases hlt : b.len ≤ a.len
  ·rw [show ((a.len + 1 - b.len : Nat) : Int) + b.len - 2 = (a.len : Int) - 1 by omega] at l1
   exact ⟨_, l1⟩
  ·rw [show a.len + 1 - b.len = 0 by omega] at l1
   have h3 : ¬ (b.len : Int) - 1 ≤ (b.len : Int) - 2 := by omega
   have h4 : ¬ (b.len : Int) - 1 ≤ (a.len : Int) - 1 := by omega
   have st := dn_stop (O := den T A) (np := 0) (c := Z2b_L1) (s := ⟨[(0, (.d (.int .i64 p))), (4, .ptr 0 []), (5, .ptr 1 []), (6, .ptr 2 []), (7, .ptr 3 []), (8, .ptr 4 []), (9, (.d (.int .i64 ((b.len : Int) - 1)))), (10, (.d (.int .i64 (inv p (rep b.ld))))), (11, (.d (.int .i64 (((0 : Nat) : Int) + b.len - 2))))], [.box false (D.arr 64 .leaf (ints .u8 (pad (row a)))), .box false (D.arr 64 .leaf (ints .u8 (pad (row b)))), .box false (D.arr 64 .leaf (ints .u8 (pad []))), .box false (D.arr 64 .leaf (ints .u8 (pad []))), .box false (D.arr 64 .leaf (ints .u8 (pad [])))]⟩) (s1 := ⟨[(0, (.d (.int .i64 p))), (4, .ptr 0 []), (5, .ptr 1 []), (6, .ptr 2 []), (7, .ptr 3 []), (8, .ptr 4 []), (9, (.d (.int .i64 ((b.len : Int) - 1)))), (10, (.d (.int .i64 (inv p (rep b.ld))))), (11, (.d (.int .i64 (((0 : Nat) : Int) + b.len - 2)))), (27, (.d (.bool false)))], [.box false (D.arr 64 .leaf (ints .u8 (pad (row a)))), .box false (D.arr 64 .leaf (ints .u8 (pad (row b)))), .box false (D.arr 64 .leaf (ints .u8 (pad []))), .box false (D.arr 64 .leaf (ints .u8 (pad []))), .box false (D.arr 64 .leaf (ints .u8 (pad [])))]⟩) (id := 0) (by
    have h3' : ¬ (b.len : Int) - 1 ≤ ((0 : Nat) : Int) + b.len - 2 := by omega
    simp -implicitDefEqProofs only [Int.natCast_zero, Int.zero_add] at h3' ⊢
    simp -implicitDefEqProofs [Z2b_L1, dn_cond, h3'])
   rw [st] at l1
   have l2 := Option.some.inj l1
   injection l2 with _ l3
   injection l3 with _ l4
   injection l4 with l5 l6
   injection l6 with _ l7
   injection l7 with _ l8
   injection l8 with _ l9
   injection l9 with l10 _
   have e5 : (D.arr 64 .leaf (ints .u8 (pad (row a)))) = (D.arr 64 .leaf (ints .u8 r.1)) := by injection l5
   have e6 : (D.arr 64 .leaf (ints .u8 (pad []))) = (D.arr 64 .leaf (ints .u8 r.2)) := by injection l10
   rw [← e5, ← e6]
   exact ⟨(a.len : Int) - 1, dn_stop (by simp -implicitDefEqProofs [Z2b_L1, dn_cond, h4])⟩
 obtain ⟨n, lz⟩ := lz
 refine ask_of hT rfl ?_
 obtain ⟨r1, r2⟩ := r
 simp only at lz ⊢
 generalize pad (row a) = PA at *
 generalize pad (row b) = PB at *
 simp -implicitDefEqProofs [Z2b, Z2b_B, e1, e2, e3, w1, hbx, hbx', hbx2, hbx3, lz]
end Pe

namespace Pe
open Go Gq
variable {T : Nat → Option Fn} {A : Oracle}
def K_sMod (O : Oracle) : Prop := ∀ (p : Int) [IsP p] (a b : Fp p), b ≠ 0 → a.len ≤ 64 → b.len ≤ 64 →
 ask O F2h [(D.int .i64 p), (D.arr 64 .leaf (ints .u8 (pad (row a)))), (D.arr 64 .leaf (ints .u8 (pad (row b))))] = some (D.arr 64 .leaf (ints .u8 (pad (row (a % b)))))
theorem k_sMod (hT : T F2h = some Z2h) (hd : K_sDivide (den T A)) : K_sMod (den T A) := by
 intro p i a b hb h1 h2
 have e := hd p a b hb h1 h2
 refine ask_of hT rfl ?_
 simp -implicitDefEqProofs [Z2h, Z2h_B, e]
theorem cf_upd (f : Nat → Int) (m i : Nat) (l : List Int) (j : Nat) : cf (upd f m i l) j = if i ≤ j ∧ j < i + m ∧ j < l.length then f j else cf l j := by
 unfold cf
 rw [List.getD_eq_getElem?_getD, List.getD_eq_getElem?_getD, upd_get]
 split <;> rfl
theorem l_sUp0 {O : Oracle} {p : Int} {a : List Int} {mm z : List Int} {n : Nat} {top : Int} (hal : a.length = 64) (hn : n < 64) : ∀ (k i : Nat) (cur : List Int), i + k = n → 1 ≤ i → cur.length = 64 →
 dn O 0 (.loop Z2q_L0) ⟨[(0, (.d (.int .i64 p))), (4, .ptr 0 []), (5, .ptr 1 []), (6, .ptr 2 []), (7, (.d (.int .i64 n))), (8, (.d (.int .i64 top))), (9, .ptr 3 []), (10, (.d (.int .i64 i)))], [.box false (D.arr 64 .leaf (ints .u8 a)), .box false (D.arr 64 .leaf (ints .u8 mm)), .box false (D.arr 64 .leaf (ints .u8 z)), .box false (D.arr 64 .leaf (ints .u8 cur))]⟩ =
  some (.exit 0, ⟨[(0, (.d (.int .i64 p))), (4, .ptr 0 []), (5, .ptr 1 []), (6, .ptr 2 []), (7, (.d (.int .i64 n))), (8, (.d (.int .i64 top))), (9, .ptr 3 []), (10, (.d (.int .i64 n))), (26, (.d (.bool false)))], [.box false (D.arr 64 .leaf (ints .u8 a)), .box false (D.arr 64 .leaf (ints .u8 mm)), .box false (D.arr 64 .leaf (ints .u8 z)), .box false (D.arr 64 .leaf (ints .u8 (upd (fun j => cf a (j - 1)) k i cur)))]⟩)
 | 0, i, cur, hi, h1, hc => by
  obtain rfl : i = n := by omega
  exact dn_stop (by simp -implicitDefEqProofs [Z2q_L0, dn_cond, upd])
 | k + 1, i, cur, hi, h1, hc => by
  have hlt : i < n := by omega
  have hi1 : i - 1 < a.length := by omega
  have hi2 : i - 1 < 64 := by omega
  have hi64 : i < 64 := by omega
  have hic : i < cur.length := by omega
  have hx : a[i - 1] = cf a (i - 1) := (cf_lt hi1).symm
  have w1 : IntKind.i64.wrap ((i : Int) - 1) = ((i - 1 : Nat) : Int) := (w64 (x := (i : Int) - 1) (by omega)).trans (by omega)
  have w4 : IntKind.i64.wrap ((i : Int) + 1) = ((i + 1 : Nat) : Int) := (w64 (x := (i : Int) + 1) (by omega)).trans (by omega)
  refine dn_round ?_ (l_sUp0 hal hn k (i + 1) (cur.set i (cf a (i - 1))) (by omega) (by omega) (by simpa using hc))
  simp -implicitDefEqProofs [Z2q_L0, dn_cond, hlt, hi1, hi2, hi64, hic, hx, w1, w4]
theorem l_sUp1 {O : Oracle} {p q : Int} [IsP p] {b z out : List Int} {n : Nat} {hol : Blk} (hh : hol = .hole) (hb : Can p b) (hbl : b.length = 64) (hq : 0 ≤ q ∧ q < p) (hn : n < 64) (ho : Can p out) : ∀ (k i : Nat) (cur : List Int), i + k = n → cur.length = 64 → (∀ j, i ≤ j → cf cur j = cf out j) →
 dn O 0 (.loop Z2q_L1) ⟨[(0, (.d (.int .i64 p))), (5, .ptr 1 []), (6, .ptr 2 []), (7, (.d (.int .i64 n))), (9, .ptr 3 []), (11, (.d (.int .i64 q))), (12, (.d (.int .i64 i)))], [hol, .box false (D.arr 64 .leaf (ints .u8 b)), .box false (D.arr 64 .leaf (ints .u8 z)), .box false (D.arr 64 .leaf (ints .u8 cur))]⟩ =
  some (.exit 2, ⟨[(0, (.d (.int .i64 p))), (5, .ptr 1 []), (6, .ptr 2 []), (7, (.d (.int .i64 n))), (9, .ptr 3 []), (11, (.d (.int .i64 q))), (12, (.d (.int .i64 n))), (47, (.d (.bool false)))], [hol, .box false (D.arr 64 .leaf (ints .u8 b)), .box false (D.arr 64 .leaf (ints .u8 z)), .box false (D.arr 64 .leaf (ints .u8 (upd (fun j => (cf out j - q * cf b j) % p) k i cur)))]⟩)
 | 0, i, cur, hi, hc, hs => by
  subst hh
  obtain rfl : i = n := by omega
  exact dn_stop (by simp -implicitDefEqProofs [Z2q_L1, dn_cond, upd])
 | k + 1, i, cur, hi, hc, hs => by
  have hp := IsP.pos (p := p)
  have hp7 := IsP.le (p := p)
  have hp0 : p ≠ 0 := by omega
  have hlt : i < n := by omega
  have hi64 : i < 64 := by omega
  have hic : i < cur.length := by omega
  have hib : i < b.length := by omega
  have hx : cur[i] = cf out i := by rw [← cf_lt hic]; exact hs i (Nat.le_refl i)
  have hy : b[i] = cf b i := (cf_lt hib).symm
  have gc := ho.le hp i
  have gb := hb.le hp i
  have gm := mul_small (x := q) (y := cf b i) (b := 10) (c := 10) (by omega) (by omega) (by omega)
  have w3 : IntKind.i64.wrap (cf out i) = cf out i := w64 (by omega)
  have w5 : IntKind.i64.wrap (cf b i) = cf b i := w64 (by omega)
  have w6 : IntKind.i64.wrap (q * cf b i) = q * cf b i := w64 (by omega)
  have w7 : IntKind.i64.wrap (cf out i - q * cf b i) = cf out i - q * cf b i := w64 (by omega)
  have hin := tmod_in (n := cf out i - q * cf b i) hp
  have w9 : IntKind.i64.wrap ((cf out i - q * cf b i).tmod p + p) = (cf out i - q * cf b i).tmod p + p := w64 (by omega)
  have w10 : ((cf out i - q * cf b i).tmod p + p).tmod p = (cf out i - q * cf b i) % p := tmod_tmod hp
  have hlin : 0 ≤ (cf out i - q * cf b i) % p ∧ (cf out i - q * cf b i) % p < p := ⟨Int.emod_nonneg _ (by omega), Int.emod_lt_of_pos _ hp⟩
  have w11 : IntKind.u8.wrap ((cf out i - q * cf b i) % p) = (cf out i - q * cf b i) % p := w8 (by omega)
  have w4 : IntKind.i64.wrap ((i : Int) + 1) = ((i + 1 : Nat) : Int) := (w64 (x := (i : Int) + 1) (by omega)).trans (by omega)
  refine dn_round ?_ (l_sUp1 hh hb hbl hq hn ho k (i + 1) (cur.set i ((cf out i - q * cf b i) % p)) (by omega) (by simpa using hc) (fun j hj => by rw [cf_set, if_neg (by omega)]; exact hs j (by omega)))
  subst hh
  simp -implicitDefEqProofs [Z2q_L1, dn_cond, hlt, hi64, hic, hib, hx, hy, w3, w5, w6, w7, w9, w10, w11, w4, hp0]
def K_sUp (O : Oracle) : Prop := ∀ (p : Int) [IsP p] (a m : Fp p), m ≠ 0 → a.len < m.len → m.len ≤ 64 →
 ask O F2q [(D.int .i64 p), (D.arr 64 .leaf (ints .u8 (pad (row a)))), (D.arr 64 .leaf (ints .u8 (pad (row m))))] = some (D.arr 64 .leaf (ints .u8 (pad (row (Pol.X * a % m)))))
theorem k_sUp (hT : T F2q = some Z2q) (hd : K_sDeg (den T A)) (hinv : K_sInverse (den T A)) : K_sUp (den T A) := by
 intro p i a m hm hal hml
 have hp := IsP.ge (p := p)
 have hp7 := IsP.le (p := p)
 have e1 := hd p m hml
 refine ask_of hT rfl ?_
 by_cases h1 : m.len = 1
 ·have ha : a = 0 := Pol.len_zero_iff.1 (by omega)
  subst ha
  rw [Gq.mul_zero, Pol.zero_mod hm, row_zero]
  rw [h1] at e1
  simp -implicitDefEqProofs [Z2q, Z2q_B, dn_cond, e1]
 ·have hm0 := Pol.len_pos hm
  obtain ⟨n, hn⟩ : ∃ n, m.len = n + 2 := ⟨m.len - 2, by omega⟩
  have e1' : ask (den T A) F2a [(D.arr 64 .leaf (ints .u8 (pad (row m))))] = some (D.int .i64 ((n + 1 : Nat))) := by rw [e1, hn]; congr 2; omega
  have hr := rep_in m.ld
  have hld : rep m.ld ≠ 0 := fun h0 => Pol.ld_ne hm (rep_eq_zero.1 h0)
  have e3 := hinv p (rep m.ld) (by omega) hr.2
  have hin := inv_in p (rep m.ld)
  have hpa : a.len ≤ 64 := by omega
  have hax : (pad (row a))[n]? = some (rep (a.c n)) := by rw [pad_get _ _ (by omega), row_cf]
  have hmx : (pad (row m))[n + 1]? = some (rep m.ld) := by
   rw [pad_get _ _ (by omega), row_cf]
   unfold Pol.ld
   rw [hn]; rfl
  have ha0 := rep_in (a.c n)
  have w0 : IntKind.i64.wrap ((n : Int) + 1 - 1) = (n : Int) := (w64 (x := (n : Int) + 1 - 1) (by omega)).trans (by omega)
  have w0' : IntKind.i64.wrap (n : Int) = (n : Int) := w64 (by omega)
  have w1 : IntKind.i64.wrap (rep (a.c n)) = rep (a.c n) := w64 (by omega)
  have w2 : IntKind.i64.wrap (inv p (rep m.ld)) = inv p (rep m.ld) := w64 (by omega)
  have gm := mul_small (x := rep (a.c n)) (y := inv p (rep m.ld)) (b := 10) (c := 10) (by omega) (by omega) (by omega)
  have w3 : IntKind.i64.wrap (rep (a.c n) * inv p (rep m.ld)) = rep (a.c n) * inv p (rep m.ld) := w64 (by omega)
  have w4 : (rep (a.c n) * inv p (rep m.ld)).tmod p = rep (a.c n) * inv p (rep m.ld) % p := Int.tmod_eq_emod_of_nonneg (Int.mul_nonneg ha0.1 hin.1)
  have hq : 0 ≤ rep (a.c n) * inv p (rep m.ld) % p ∧ rep (a.c n) * inv p (rep m.ld) % p < p := ⟨Int.emod_nonneg _ (by omega), Int.emod_lt_of_pos _ (by omega)⟩
  have hqz : zp p (rep (a.c n) * inv p (rep m.ld) % p) = a.c n * Fd.inv m.ld := by
   rw [zp_mod, zp_mul, zp_rep, finv_rep _ (Pol.ld_ne hm)]
  generalize rep (a.c n) * inv p (rep m.ld) % p = q at *
  have l0 := l_sUp0 (O := den T A) (p := p) (a := pad (row a)) (mm := pad (row m)) (z := pad []) (n := n + 1) (top := rep (a.c n)) (pad_length _) (by omega) n 1 (pad []) (by omega) (Nat.le_refl 1) (pad_length _)
  have hz : ∀ j, cf (pad []) j = 0 := fun j => by rw [pad_cf (by simp), cf_ge (by simp)]
  have c0 : ∀ j, cf (upd (fun j => cf (pad (row a)) (j - 1)) n 1 (pad [])) j = if 1 ≤ j ∧ j < n + 1 then rep (a.c (j - 1)) else 0 := fun j => by
   rw [cf_upd, hz, pad_length]
   by_cases h : 1 ≤ j ∧ j < n + 1
   ·rw [if_pos (by omega), if_pos h, pad_row_cf hpa]
   ·rw [if_neg (by omega), if_neg h]
  have hlen0 : (upd (fun j => cf (pad (row a)) (j - 1)) n 1 (pad [])).length = 64 := by rw [upd_length, pad_length]
  generalize upd (fun j => cf (pad (row a)) (j - 1)) n 1 (pad []) = out at *
  have hcan0 : Can p out := Can.of_cf fun j _ => by rw [c0]; split; exact rep_in _; omega
  have l1 := l_sUp1 (O := den T A) (p := p) (q := q) (b := pad (row m)) (z := pad []) (out := out) (n := n + 1) rfl (pad_can m) (pad_length _) hq (by omega) hcan0 (n + 1) 0 out (by omega) hlen0 (fun _ _ => rfl)
  have hres : upd (fun j => (cf out j - q * cf (pad (row m)) j) % p) (n + 1) 0 out = pad (row (Pol.X * a % m)) := by
   have hlenR : (upd (fun j => (cf out j - q * cf (pad (row m)) j) % p) (n + 1) 0 out).length = 64 := by rw [upd_length, hlen0]
   have hcR : ∀ j, cf (upd (fun j => (cf out j - q * cf (pad (row m)) j) % p) (n + 1) 0 out) j = if j < n + 1 then (cf out j - q * rep (m.c j)) % p else 0 := fun j => by
    rw [cf_upd, hlen0]
    by_cases h : j < n + 1
    ·rw [if_pos (by omega), if_pos h, pad_row_cf hml]
    ·rw [if_neg (by omega), if_neg h, c0, if_neg (by omega)]
   have hcanR : Can p (upd (fun j => (cf out j - q * cf (pad (row m)) j) % p) (n + 1) 0 out) := Can.of_cf fun j _ => by
    rw [hcR]; split
    ·exact ⟨Int.emod_nonneg _ (by omega), Int.emod_lt_of_pos _ (by omega)⟩
    ·omega
   rw [pad_of hcanR hlenR]
   congr 2
   symm
   refine (Pol.div_mod_eq (q := Pol.C (zp p q)) ?_ ?_).2
   ·refine Pol.ext fun j => ?_
    rw [Pol.c_add, Pol.c_Cmul, Pol.c_Xmul, polOf_c, hcR]
    rcases Nat.lt_trichotomy j (n + 1) with h | h | h
    ·rw [if_pos h, zp_mod, zp_sub, zp_mul, zp_rep, c0]
     by_cases hj : j = 0
     ·subst hj
      rw [if_pos rfl, if_neg (by omega), zp_zero]
      exact ring_of [zp p q, m.c 0] rfl
     ·rw [if_neg hj, if_pos (by omega), zp_rep]
      exact ring_of [zp p q, m.c j, a.c (j - 1)] rfl
    ·subst h
     rw [if_neg (by omega), if_neg (by omega), zp_zero, Gq.add_zero, hqz]
     have e : m.c (n + 1) = m.ld := by unfold Pol.ld; rw [hn]; rfl
     rw [e, Gq.mul_assoc, Gq.mul_comm (Fd.inv m.ld), Fd.mul_inv _ (Pol.ld_ne hm), Gq.mul_one]; rfl
    ·rw [if_neg (by omega), if_neg (by omega), zp_zero, m.lt_len j (by omega), Gq.mul_zero, Gq.add_zero, a.lt_len (j - 1) (by omega)]
   ·have : (polOf p (upd (fun j => (cf out j - q * cf (pad (row m)) j) % p) (n + 1) 0 out)).lt (n + 1) := fun j hj => by
     rw [polOf_c, hcR, if_neg (by omega)]; rfl
    have := Pol.len_le this
    omega
  rw [hres] at l1
  have e0 : ((0 : Nat) : Int) = 0 := rfl
  have e11 : ((1 : Nat) : Int) = 1 := rfl
  have en : ((n + 1 : Nat) : Int) = (n : Int) + 1 := by omega
  rw [e0, en] at l1
  rw [e11, en] at l0
  rw [en] at e1'
  have hp0 : p ≠ 0 := by omega
  have hn64 : n < 64 := by omega
  have hn65 : n + 1 < 64 := by omega
  have t1 : ¬ (n : Int) + 1 = 0 := by omega
  have t2 : (0 : Int) ≤ (n : Int) + 1 := by omega
  have t3 : ((n : Int) + 1).toNat = n + 1 := by omega
  generalize pad (row (Pol.X * a % m)) = R at *
  generalize pad (row a) = PA at *
  generalize pad (row m) = PM at *
  simp -implicitDefEqProofs [Z2q, Z2q_B, dn_cond, e1', e3, hax, hmx, w0', w1, w2, w3, w4, l0, l1, hn64, hn65, t1, t2, t3, hp0]
def tailP {p : Int} (b : Fp p) (i : Nat) : Fp p := ⟨fun j => b.c (i + j), b.len, fun j hj => b.lt_len _ (by omega)⟩
theorem tailP_zero {p : Int} (b : Fp p) : tailP b 0 = b := Pol.ext fun j => by show b.c (0 + j) = b.c j; rw [Nat.zero_add]
theorem tailP_top {p : Int} (b : Fp p) : tailP b b.len = 0 := Pol.ext fun j => b.lt_len _ (by omega)
theorem tailP_step {p : Int} (b : Fp p) (i : Nat) : tailP b i = Pol.X * tailP b (i + 1) + Pol.C (b.c i) := Pol.ext fun j => by
 rw [Pol.c_add, Pol.c_Xmul, Pol.c_C]
 show b.c (i + j) = (if j = 0 then 0 else b.c (i + 1 + (j - 1))) + if j = 0 then b.c i else 0
 by_cases h : j = 0
 ·subst h; rw [if_pos rfl, if_pos rfl, Gq.zero_add]; rfl
 ·rw [if_neg h, if_neg h, Gq.add_zero, show i + 1 + (j - 1) = i + j by omega]
theorem l_sMulMod {O : Oracle} (hu : K_sUp O) (ha : K_sAdd O) (hmo : K_sMod O) {p : Int} [IsP p] {a b m : Fp p} {z : List Int} (hm : m ≠ 0) (hml : m.len ≤ 64) (hal : a.len ≤ 64) (hbl : b.len ≤ 64) : ∀ (n : Nat), n ≤ b.len →
 dn O 0 (.loop Z2j_L0) ⟨[(0, (.d (.int .i64 p))), (5, .ptr 0 []), (6, .ptr 1 []), (7, .ptr 2 []), (8, .ptr 3 []), (9, .ptr 4 []), (10, (.d (.int .i64 ((n : Int) - 1))))], [.box false (D.arr 64 .leaf (ints .u8 (pad (row a)))), .box false (D.arr 64 .leaf (ints .u8 (pad (row b)))), .box false (D.arr 64 .leaf (ints .u8 (pad (row m)))), .box false (D.arr 64 .leaf (ints .u8 z)), .box false (D.arr 64 .leaf (ints .u8 (pad (row (a * tailP b n % m)))))]⟩ =
  some (.exit 0, ⟨[(0, (.d (.int .i64 p))), (5, .ptr 0 []), (6, .ptr 1 []), (7, .ptr 2 []), (8, .ptr 3 []), (9, .ptr 4 []), (10, (.d (.int .i64 (-1)))), (15, (.d (.bool false)))], [.box false (D.arr 64 .leaf (ints .u8 (pad (row a)))), .box false (D.arr 64 .leaf (ints .u8 (pad (row b)))), .box false (D.arr 64 .leaf (ints .u8 (pad (row m)))), .box false (D.arr 64 .leaf (ints .u8 z)), .box false (D.arr 64 .leaf (ints .u8 (pad (row (a * b % m)))))]⟩)
 | 0, _ => by
  rw [tailP_zero]
  exact dn_stop (by simp -implicitDefEqProofs [Z2j_L0, dn_cond])
 | n + 1, hn => by
  have hp := IsP.pos (p := p)
  have hp7 := IsP.le (p := p)
  have hlr := Pol.len_mod (a * tailP b (n + 1)) hm
  have hr := rep_in (b.c n)
  have e1 := hu p (a * tailP b (n + 1) % m) m hm hlr hml
  have hl2 := Pol.len_mod (Pol.X * (a * tailP b (n + 1) % m)) hm
  have e2 := ha p (rep (b.c n)) (Pol.X * (a * tailP b (n + 1) % m) % m) a (by omega) (by omega) (by omega) hal
  rw [zp_rep] at e2
  have hl3 := Pol.len_add_le (a := Pol.X * (a * tailP b (n + 1) % m) % m) (b := Pol.C (b.c n) * a) (n := 64) (by omega) (Nat.le_trans (Pol.len_le (Pol.lt_Cmul _ a.lt_len)) hal)
  have e3 := hmo p (Pol.X * (a * tailP b (n + 1) % m) % m + Pol.C (b.c n) * a) m hm hl3 hml
  have e4 : (Pol.X * (a * tailP b (n + 1) % m) % m + Pol.C (b.c n) * a) % m = a * tailP b n % m := by
   rw [tailP_step b n, Pol.mod_eq_iff hm, Quo.mk_add, Pol.mk_mod, Quo.mk_mul, Pol.mk_mod, ← Quo.mk_mul, ← Quo.mk_add]
   congr 1
   exact ring_of [Pol.X, a, tailP b (n + 1), Pol.C (b.c n)] rfl
  rw [e4] at e3
  have t0 : (((n + 1 : Nat) : Int) - 1) = (n : Int) := by omega
  rw [t0]
  have hn64 : n < 64 := by omega
  have hx : (pad (row b))[n]? = some (rep (b.c n)) := by rw [pad_get _ _ hn64, row_cf]
  have w1 : IntKind.i64.wrap (rep (b.c n)) = rep (b.c n) := w64 (by omega)
  have w2 : IntKind.i64.wrap ((n : Int) - 1) = (n : Int) - 1 := w64 (by omega)
  refine dn_round ?_ (l_sMulMod hu ha hmo hm hml hal hbl n (by omega))
  generalize pad (row (a * tailP b n % m)) = R at *
  generalize pad (row (a * tailP b (n + 1) % m)) = R1 at *
  generalize pad (row (Pol.X * (a * tailP b (n + 1) % m) % m + Pol.C (b.c n) * a)) = R2 at *
  generalize pad (row (Pol.X * (a * tailP b (n + 1) % m) % m)) = R3 at *
  generalize pad (row a) = PA at *
  generalize pad (row b) = PB at *
  generalize pad (row m) = PM at *
  simp -implicitDefEqProofs [Z2j_L0, dn_cond, e1, e2, e3, hn64, hx, w1, w2]
def K_sMulMod (O : Oracle) : Prop := ∀ (p : Int) [IsP p] (a b m : Fp p), m ≠ 0 → m.len ≤ 64 → a.len ≤ 64 → b.len ≤ 64 →
 ask O F2j [(D.int .i64 p), (D.arr 64 .leaf (ints .u8 (pad (row a)))), (D.arr 64 .leaf (ints .u8 (pad (row b)))), (D.arr 64 .leaf (ints .u8 (pad (row m))))] = some (D.arr 64 .leaf (ints .u8 (pad (row (a * b % m)))))
theorem k_sMulMod (hT : T F2j = some Z2j) (hd : K_sDeg (den T A)) (hu : K_sUp (den T A)) (ha : K_sAdd (den T A)) (hmo : K_sMod (den T A)) : K_sMulMod (den T A) := by
 intro p i a b m hm hml hal hbl
 have e1 := hd p b hbl
 have e2 := l_sMulMod (O := den T A) (z := pad []) hu ha hmo hm hml hal hbl b.len (Nat.le_refl _)
 rw [tailP_top, Gq.mul_zero, Pol.zero_mod hm, row_zero] at e2
 refine ask_of hT rfl ?_
 generalize pad (row (a * b % m)) = R at *
 generalize pad (row a) = PA at *
 generalize pad (row b) = PB at *
 generalize pad (row m) = PM at *
 simp -implicitDefEqProofs [Z2j, Z2j_B, e1, e2]
theorem l_sPow {O : Oracle} (hmm : K_sMulMod O) {p : Int} [IsP p] {m : Fp p} {z : List Int} {hol : Blk} (hh : hol = .hole) (hm : m ≠ 0) (hml : m.len ≤ 64) : ∀ (n : Nat) (k : Int) (out base : Fp p), 0 ≤ k → k.toNat < 2 ^ n → k < 4611686018427387904 → out.len < m.len → base.len < m.len → ∃ base' : List Int,
 dn O 0 (.loop Z2m_L0) ⟨[(0, (.d (.int .i64 p))), (2, (.d (.int .i64 k))), (7, .ptr 1 []), (8, .ptr 2 []), (9, .ptr 3 []), (10, .ptr 4 [])], [hol, .box false (D.arr 64 .leaf (ints .u8 (pad (row m)))), .box false (D.arr 64 .leaf (ints .u8 z)), .box false (D.arr 64 .leaf (ints .u8 (pad (row out)))), .box false (D.arr 64 .leaf (ints .u8 (pad (row base))))]⟩ =
  some (.exit 0, ⟨[(0, (.d (.int .i64 p))), (2, (.d (.int .i64 0))), (7, .ptr 1 []), (8, .ptr 2 []), (9, .ptr 3 []), (10, .ptr 4 []), (20, (.d (.bool false)))], [hol, .box false (D.arr 64 .leaf (ints .u8 (pad (row m)))), .box false (D.arr 64 .leaf (ints .u8 z)), .box false (D.arr 64 .leaf (ints .u8 (pad (row (out * pw base k.toNat % m))))), .box false (D.arr 64 .leaf (ints .u8 base'))]⟩) := by
 intro n
 induction n with
 | zero =>
  intro k out base hk hn _ ho hb
  obtain rfl : k = 0 := by simp at hn; omega
  refine ⟨pad (row base), ?_⟩
  have e : out * pw base (0 : Int).toNat % m = out := by
   show out * 1 % m = out
   rw [Gq.mul_one, Pol.mod_small ho]
  rw [e]
  subst hh
  exact dn_stop (by simp -implicitDefEqProofs [Z2m_L0, dn_cond])
 | succ n ih =>
  intro k out base hk hn hkm ho hb
  by_cases h0 : k = 0
  ·subst h0
   refine ⟨pad (row base), ?_⟩
   have e : out * pw base (0 : Int).toNat % m = out := by
    show out * 1 % m = out
    rw [Gq.mul_one, Pol.mod_small ho]
   rw [e]
   subst hh
   exact dn_stop (by simp -implicitDefEqProofs [Z2m_L0, dn_cond])
  ·have hkp : 0 < k := by omega
   have t1 := hmm p out base m hm hml (by omega) (by omega)
   have t2 := hmm p base base m hm hml (by omega) (by omega)
   have s := Pol.bin_step (out := out) (base := base) hm k.toNat (by omega)
   have hdiv : (k / 2).toNat = k.toNat / 2 := by omega
   obtain ⟨b', e⟩ := ih (k / 2) (if k.toNat % 2 = 1 then out * base % m else out) (base * base % m) (by omega) (by rw [Nat.pow_succ] at hn; omega) (by omega) (by split; exact Pol.len_mod _ hm; exact ho) (Pol.len_mod _ hm)
   rw [hdiv, s] at e
   refine ⟨b', dn_round ?_ e⟩
   subst hh
   have w1 : IntKind.i64.wrap (k.tdiv 2) = k / 2 := by rw [Int.tdiv_eq_ediv_of_nonneg hk, w64 (by omega)]
   have w2 : k.tmod 2 = k % 2 := Int.tmod_eq_emod_of_nonneg hk
   by_cases hodd : k % 2 = 1
   ·rw [if_pos (show k.toNat % 2 = 1 by omega)]
    generalize pad (row (out * base % m)) = R1 at *
    generalize pad (row (base * base % m)) = R2 at *
    generalize pad (row out) = R3 at *
    generalize pad (row base) = R4 at *
    generalize pad (row m) = R5 at *
    simp -implicitDefEqProofs [Z2m_L0, dn_cond, hkp, t1, t2, w1, w2, hodd]
   ·rw [if_neg (show ¬ k.toNat % 2 = 1 by omega)]
    generalize pad (row (base * base % m)) = R2 at *
    generalize pad (row out) = R3 at *
    generalize pad (row base) = R4 at *
    generalize pad (row m) = R5 at *
    simp -implicitDefEqProofs [Z2m_L0, dn_cond, hkp, t2, w1, w2, hodd]
def K_sPowMod (O : Oracle) : Prop := ∀ (p : Int) [IsP p] (a : Fp p) (k : Int) (m : Fp p), m ≠ 0 → a.len ≤ 64 → m.len ≤ 64 → 0 ≤ k → k < 4611686018427387904 →
 ask O F2m [(D.int .i64 p), (D.arr 64 .leaf (ints .u8 (pad (row a)))), (D.int .i64 k), (D.arr 64 .leaf (ints .u8 (pad (row m))))] = some (D.arr 64 .leaf (ints .u8 (pad (row (pw a k.toNat % m)))))
theorem k_sPowMod (hT : T F2m = some Z2m) (h1 : K_sOne (den T A)) (hmo : K_sMod (den T A)) (hmm : K_sMulMod (den T A)) : K_sPowMod (den T A) := by
 intro p i a k m hm hal hml hk hkm
 have e1 := h1 p
 have e2 := hmo p 1 m hm (by rw [Pol.len_one]; omega) hml
 have e3 := hmo p a m hm hal hml
 obtain ⟨b', e⟩ := l_sPow (O := den T A) hmm (z := pad []) (hol := .hole) rfl hm hml 62 k (1 % m) (a % m) hk (by omega) hkm (Pol.len_mod _ hm) (Pol.len_mod _ hm)
 have e4 : 1 % m * pw (a % m) k.toNat % m = pw a k.toNat % m := by
  rw [Pol.mul_mod_left _ _ hm, Gq.one_mul, Pol.pow_mod _ hm]
 rw [e4] at e
 refine ask_of hT rfl ?_
 generalize pad (row (pw a k.toNat % m)) = R at *
 generalize pad (row (1 % m)) = R1 at *
 generalize pad (row (a % m)) = R2 at *
 generalize pad (row (1 : Fp p)) = R3 at *
 generalize pad (row a) = PA at *
 generalize pad (row m) = PM at *
 simp -implicitDefEqProofs [Z2m, Z2m_B, e1, e2, e3, e]
end Pe

namespace Pe
open Go Gq
section
variable {p : Int} [IsP p]
noncomputable def frW (m : Fp p) (k : Nat) : Fp p := pw Pol.X (p.toNat ^ k) % m - Pol.X
theorem frW_dv {m q : Fp p} (_hm : m ≠ 0) (hq : Dv q m) (k : Nat) : Dv q (frW m k) ↔ Dv q (frT p k) := by
 have h1 : frT p k = frW m k + pw Pol.X (p.toNat ^ k) / m * m := by
  have h := Pol.div_mod (pw Pol.X (p.toNat ^ k)) m
  show pw Pol.X (p.toNat ^ k) - Pol.X = pw Pol.X (p.toNat ^ k) % m - Pol.X + pw Pol.X (p.toNat ^ k) / m * m
  generalize pw Pol.X (p.toNat ^ k) % m = R at *
  generalize pw Pol.X (p.toNat ^ k) / m = Q at *
  rw [h]
  exact ring_of [Q, m, R, Pol.X] rfl
 have h2 : Dv q (pw Pol.X (p.toNat ^ k) / m * m) := hq.mul_left _
 constructor
 ·intro h; rw [h1]; exact h.add h2
 ·intro h
  have := h.sub h2
  rw [h1] at this
  have e : frW m k + pw Pol.X (p.toNat ^ k) / m * m - pw Pol.X (p.toNat ^ k) / m * m = frW m k := ring_of [frW m k, pw Pol.X (p.toNat ^ k) / m, m] rfl
  rwa [e] at this
theorem irr_test {m : Fp p} (h2 : 2 ≤ m.len) (h13 : m.len ≤ 13) : (∀ k, 1 ≤ k → 2 * k ≤ m.len - 1 → (Pol.gcd m (frW m k)).len = 1) ↔ Irr m := by
 have hm : m ≠ 0 := fun h => by rw [h, Pol.len_zero] at h2; omega
 have small : ∀ d, d ≤ 12 → p ^ d < 1000000000000 := fun d hd => by
  have h1 := ipow_mono (p := p) (by have := IsP.pos (p := p); omega) hd
  have h7 := ppow_le (p := p) (n := 12) (by omega)
  omega
 constructor
 ·intro h
  refine irr_of_noSmall (n := (m.len - 1) / 2 + 1) (fun q hq hd => ?_) h2 (by omega)
  rcases Nat.lt_or_ge ((m.len - 1) / 2 + 1) q.len with g | g
  ·omega
  ·exfalso
   have hl := hq.len
   have h1 := h (q.len - 1) (by omega) (by omega)
   have h3 : Dv q (frT p (q.len - 1)) := irr_frT hq (by omega) (small _ (by omega))
   have h4 := Pol.dv_gcd (.inl hm) hd ((frW_dv hm hd _).2 h3)
   have h5 := h4.len (fun h0 => by rw [h0, Pol.len_zero] at h1; omega)
   omega
 ·intro hi k hk hk2
  by_cases hd : Dv m (frW m k)
  ·have h3 := (frW_dv hm (Dv.refl m) k).1 hd
   have := irr_frT_le hi (d := m.len - 1) (by omega) (small _ (by omega)) hk h3
   omega
  ·obtain ⟨u, v, e⟩ := hi.coprime hd
   have h1 := Pol.gcd_dv_left (a := m) (b := frW m k) (.inl hm)
   have h3 := Pol.gcd_dv_right (a := m) (b := frW m k) (.inl hm)
   have h4 : Dv (Pol.gcd m (frW m k)) 1 := by
    rw [← e]
    exact (h1.mul_left u).add (h3.mul_left v)
   have h5 := h4.len Pol.one_ne
   rw [Pol.len_one] at h5
   have h6 := Pol.len_pos (Pol.gcd_monic (a := m) (b := frW m k) (.inl hm)).2
   omega
theorem fac_irr {m : Fp p} (hi : Irr m) (hm : Monic m) : IsFac m [(m, 1)] where
 ok := ⟨fun x hx => by simp only [List.mem_singleton] at hx; subst hx; exact ⟨hi, hm, Nat.le_refl 1⟩, List.pairwise_singleton _ _⟩
 sorted := List.pairwise_singleton _ _
 eq := by
  rw [hm.1, Pol.C_one, Gq.one_mul]
  show m = pw m 1 * 1
  rw [pw_1, Gq.mul_one]
theorem irr_fac {m : Fp p} {L : Facs p} (hm : Monic m) (h : IsFac m L) : (∃ q, L = [(q, 1)]) ↔ Irr m := by
 constructor
 ·rintro ⟨q, rfl⟩
  have e := h.eq
  rw [hm.1, Pol.C_one, Gq.one_mul] at e
  have e2 : prodF [(q, 1)] = q := by
   show pw q 1 * 1 = q
   rw [pw_1, Gq.mul_one]
  rw [e2] at e
  rw [e]
  exact (h.ok.irr (q, 1) (by simp)).1
 ·intro hi
  exact ⟨m, h.unique hm.2 (fac_irr hi hm)⟩
end
end Pe

namespace Pe
open Go Gq
variable {T : Nat → Option Fn} {A : Oracle}
section
variable {p : Int}
def lowP (a : Fp p) (i : Nat) : Fp p := ⟨fun n => if n < i then a.c n else 0, i, fun n hn => if_neg (by omega)⟩
theorem lowP_c (a : Fp p) (i n : Nat) : (lowP a i).c n = if n < i then a.c n else 0 := rfl
theorem lowP_zero (a : Fp p) : lowP a 0 = 0 := Pol.ext fun n => by rw [lowP_c, if_neg (by omega)]; rfl
theorem lowP_top (a : Fp p) : lowP a a.len = a := Pol.ext fun n => by
 rw [lowP_c]
 split
 ·rfl
 ·rename_i h; exact (a.lt_len n (by omega)).symm
end
section
variable {p : Int} [IsP p]
theorem mo_c (k : Zp p) (n i : Nat) : (Pol.mo k n).c i = if i = n then k else 0 := rfl
theorem lowP_succ (a : Fp p) (i : Nat) : lowP a (i + 1) = lowP a i + Pol.mo (a.c i) i := Pol.ext fun n => by
 rw [Pol.c_add, lowP_c, lowP_c, mo_c]
 by_cases h : n = i
 ·subst h; rw [if_pos (by omega), if_neg (by omega), if_pos rfl, Gq.zero_add]
 ·rw [if_neg h, Gq.add_zero]
  by_cases h2 : n < i
  ·rw [if_pos (by omega), if_pos h2]
  ·rw [if_neg (by omega), if_neg h2]
theorem mo_zero (n : Nat) : (Pol.mo 0 n : Fp p) = 0 := Pol.ext fun i => by rw [mo_c]; split <;> rfl
theorem mo_mo (k l : Zp p) (n m : Nat) : (Pol.mo k n * Pol.mo l m : Fp p) = Pol.mo (k * l) (n + m) := Pol.ext fun i => by
 rw [c_momul', mo_c, mo_c]
 by_cases h : n ≤ i
 ·rw [if_pos h]
  by_cases h2 : i - n = m
  ·rw [if_pos h2, if_pos (by omega)]
  ·rw [if_neg h2, if_neg (by omega), Gq.mul_zero]
 ·rw [if_neg h, if_neg (by omega)]
theorem polOf_add_set {cur : List Int} {k : Nat} (h : k < cur.length) (t : Int) : polOf p (cur.set k ((cf cur k + t) % p)) = polOf p cur + Pol.mo (zp p t) k := Pol.ext fun j => by
 rw [Pol.c_add, polOf_c, polOf_c, cf_set, mo_c]
 by_cases h1 : j = k
 ·subst h1
  rw [if_pos ⟨rfl, h⟩, if_pos rfl, zp_mod, zp_add]
 ·rw [if_neg (by omega), if_neg h1, Gq.add_zero]
end
theorem l_sTm0 {O : Oracle} {p : Int} [IsP p] {a b : Fp p} {z : List Int} {n i : Nat} (hn : n < 64) (hi : i < a.len) (hal : a.len ≤ 64) (hbl : b.len ≤ 64) (hab : a.len + b.len ≤ 65) (hb1 : 0 < b.len) (hai : a.c i ≠ 0) {P : Fp p} {vn : V} (hvn : vn.refs = []) : ∀ (m j : Nat) (cur : List Int), j + m = b.len → cur.length = 64 → Can p cur → polOf p cur = P + Pol.mo (a.c i) i * lowP b j → ∃ cur' : List Int, cur'.length = 64 ∧ Can p cur' ∧ polOf p cur' = P + Pol.mo (a.c i) i * b ∧
 dn O 0 (.loop Z2p_L0) ⟨[(0, (.d (.int .i64 p))), (4, .ptr 0 []), (5, .ptr 1 []), (6, .ptr 2 []), (8, vn), (9, (.d (.int .i64 (((b.len - 1 : Nat) : Int))))), (10, .ptr 3 []), (11, (.d (.int .i64 i))), (12, (.d (.int .i64 j)))], [.box false (D.arr 64 .leaf (ints .u8 (pad (row a)))), .box false (D.arr 64 .leaf (ints .u8 (pad (row b)))), .box false (D.arr 64 .leaf (ints .u8 z)), .box false (D.arr 64 .leaf (ints .u8 cur))]⟩ =
  some (.exit 2, ⟨[(0, (.d (.int .i64 p))), (4, .ptr 0 []), (5, .ptr 1 []), (6, .ptr 2 []), (8, vn), (9, (.d (.int .i64 (((b.len - 1 : Nat) : Int))))), (10, .ptr 3 []), (11, (.d (.int .i64 i))), (12, (.d (.int .i64 b.len))), (43, (.d (.bool false)))], [.box false (D.arr 64 .leaf (ints .u8 (pad (row a)))), .box false (D.arr 64 .leaf (ints .u8 (pad (row b)))), .box false (D.arr 64 .leaf (ints .u8 z)), .box false (D.arr 64 .leaf (ints .u8 cur'))]⟩)
 | 0, j, cur, hj, hc, hcan, he => by
  obtain rfl : j = b.len := by omega
  rw [lowP_top] at he
  have hlt : ¬ (b.len : Int) ≤ ((b.len - 1 : Nat) : Int) := by omega
  refine ⟨cur, hc, hcan, he, dn_stop ?_⟩
  generalize ((b.len - 1 : Nat) : Int) = m1 at *
  generalize pad (row a) = PA at *
  generalize pad (row b) = PB at *
  simp -implicitDefEqProofs [Z2p_L0, dn_cond, hlt, hvn]
 | m + 1, j, cur, hj, hc, hcan, he => by
  have hp := IsP.pos (p := p)
  have hp7 := IsP.le (p := p)
  have hp0 : p ≠ 0 := by omega
  have hlt : (j : Int) ≤ ((b.len - 1 : Nat) : Int) := by omega
  have hi64 : i < 64 := by omega
  have hj64 : j < 64 := by omega
  have hij : i + j < 64 := by omega
  have hs0 : (0 : Int) ≤ (i : Int) + j := by omega
  have hs1 : ((i : Int) + j).toNat = i + j := by omega
  have hx : (pad (row a))[i]? = some (rep (a.c i)) := by rw [pad_get _ _ hi64, row_cf]
  have hy : (pad (row b))[j]? = some (rep (b.c j)) := by rw [pad_get _ _ hj64, row_cf]
  have hx0 : rep (a.c i) ≠ 0 := fun h => hai (rep_eq_zero.1 h)
  have hr1 := rep_in (a.c i)
  have hr2 := rep_in (b.c j)
  have hkc : i + j < cur.length := by omega
  have hw : cur[i + j] = cf cur (i + j) := (cf_lt hkc).symm
  have gc := hcan.le hp (i + j)
  have gm := mul_small (x := rep (a.c i)) (y := rep (b.c j)) (b := 10) (c := 10) (by omega) (by omega) (by omega)
  have gm0 := Int.mul_nonneg hr1.1 hr2.1
  have w0 : IntKind.i64.wrap ((i : Int) + j) = ((i + j : Nat) : Int) := (w64 (x := (i : Int) + j) (by omega)).trans (by omega)
  have w1 : IntKind.i64.wrap (rep (a.c i)) = rep (a.c i) := w64 (by omega)
  have w2 : IntKind.i64.wrap (rep (b.c j)) = rep (b.c j) := w64 (by omega)
  have w3 : IntKind.i64.wrap (cf cur (i + j)) = cf cur (i + j) := w64 (by omega)
  have w4 : IntKind.i64.wrap (rep (a.c i) * rep (b.c j)) = rep (a.c i) * rep (b.c j) := w64 (by omega)
  have w5 : IntKind.i64.wrap (cf cur (i + j) + rep (a.c i) * rep (b.c j)) = cf cur (i + j) + rep (a.c i) * rep (b.c j) := w64 (by omega)
  have w6 : (cf cur (i + j) + rep (a.c i) * rep (b.c j)).tmod p = (cf cur (i + j) + rep (a.c i) * rep (b.c j)) % p := Int.tmod_eq_emod_of_nonneg (by omega)
  have hin := Int.emod_nonneg (cf cur (i + j) + rep (a.c i) * rep (b.c j)) hp0
  have hin2 := Int.emod_lt_of_pos (cf cur (i + j) + rep (a.c i) * rep (b.c j)) hp
  have w7 : IntKind.u8.wrap ((cf cur (i + j) + rep (a.c i) * rep (b.c j)) % p) = (cf cur (i + j) + rep (a.c i) * rep (b.c j)) % p := w8 (by omega)
  have w8' : IntKind.i64.wrap ((j : Int) + 1) = ((j + 1 : Nat) : Int) := (w64 (x := (j : Int) + 1) (by omega)).trans (by omega)
  have hnew : polOf p (cur.set (i + j) ((cf cur (i + j) + rep (a.c i) * rep (b.c j)) % p)) = P + Pol.mo (a.c i) i * lowP b (j + 1) := by
   rw [polOf_add_set hkc, he, zp_mul, zp_rep, zp_rep, lowP_succ, Gq.mul_add, mo_mo, Gq.add_assoc]
  have hcan' : Can p (cur.set (i + j) ((cf cur (i + j) + rep (a.c i) * rep (b.c j)) % p)) := fun x hx => by
   rcases List.mem_or_eq_of_mem_set hx with h | rfl
   ·exact hcan x h
   ·exact ⟨hin, hin2⟩
  obtain ⟨cur', g1, g2, g3, g4⟩ := l_sTm0 (O := O) (z := z) hn hi hal hbl hab hb1 hai hvn m (j + 1) (cur.set (i + j) ((cf cur (i + j) + rep (a.c i) * rep (b.c j)) % p)) (by omega) (by rw [List.length_set]; exact hc) hcan' hnew
  have hs : ints .u8 (cur.set (i + j) ((cf cur (i + j) + rep (a.c i) * rep (b.c j)) % p)) = (ints .u8 cur).set (i + j) (D.int .u8 ((cf cur (i + j) + rep (a.c i) * rep (b.c j)) % p)) := by unfold ints; rw [List.map_set]
  rw [hs] at g4
  refine ⟨cur', g1, g2, g3, dn_round ?_ g4⟩
  generalize (cf cur (i + j) + rep (a.c i) * rep (b.c j)) % p = W at *
  generalize ((b.len - 1 : Nat) : Int) = m1 at *
  generalize pad (row a) = PA at *
  generalize pad (row b) = PB at *
  simp -implicitDefEqProofs [Z2p_L0, dn_cond, hlt, hi64, hj64, hij, hs0, hs1, hx, hy, hx0, hc, hw, w0, w1, w2, w3, w4, w5, w6, w7, w8', hp0, hvn]
theorem l_sTm1 {O : Oracle} {p : Int} [IsP p] {a b : Fp p} {z : List Int} (hal : a.len ≤ 64) (hbl : b.len ≤ 64) (hab : a.len + b.len ≤ 65) (ha1 : 0 < a.len) (hb1 : 0 < b.len) : ∀ (m i : Nat) (cur : List Int), i + m = a.len → cur.length = 64 → Can p cur → polOf p cur = lowP a i * b → ∃ cur' : List Int, cur'.length = 64 ∧ Can p cur' ∧ polOf p cur' = a * b ∧
 dn O 0 (.loop Z2p_L1) ⟨[(0, (.d (.int .i64 p))), (4, .ptr 0 []), (5, .ptr 1 []), (6, .ptr 2 []), (8, (.d (.int .i64 (((a.len - 1 : Nat) : Int))))), (9, (.d (.int .i64 (((b.len - 1 : Nat) : Int))))), (10, .ptr 3 []), (11, (.d (.int .i64 i)))], [.box false (D.arr 64 .leaf (ints .u8 (pad (row a)))), .box false (D.arr 64 .leaf (ints .u8 (pad (row b)))), .box false (D.arr 64 .leaf (ints .u8 z)), .box false (D.arr 64 .leaf (ints .u8 cur))]⟩ =
  some (.exit 0, ⟨[(0, (.d (.int .i64 p))), (4, .ptr 0 []), (5, .ptr 1 []), (6, .ptr 2 []), (8, (.d (.int .i64 (((a.len - 1 : Nat) : Int))))), (9, (.d (.int .i64 (((b.len - 1 : Nat) : Int))))), (10, .ptr 3 []), (11, (.d (.int .i64 a.len))), (32, (.d (.bool false)))], [.box false (D.arr 64 .leaf (ints .u8 (pad (row a)))), .box false (D.arr 64 .leaf (ints .u8 (pad (row b)))), .box false (D.arr 64 .leaf (ints .u8 z)), .box false (D.arr 64 .leaf (ints .u8 cur'))]⟩)
 | 0, i, cur, hi, hc, hcan, he => by
  obtain rfl : i = a.len := by omega
  rw [lowP_top] at he
  have hlt : ¬ (a.len : Int) ≤ ((a.len - 1 : Nat) : Int) := by omega
  refine ⟨cur, hc, hcan, he, dn_stop ?_⟩
  generalize ((b.len - 1 : Nat) : Int) = m1 at *
  generalize ((a.len - 1 : Nat) : Int) = n1 at *
  generalize pad (row a) = PA at *
  generalize pad (row b) = PB at *
  simp -implicitDefEqProofs [Z2p_L1, dn_cond, hlt]
 | m + 1, i, cur, hi, hc, hcan, he => by
  have hlt : (i : Int) ≤ ((a.len - 1 : Nat) : Int) := by omega
  have hi64 : i < 64 := by omega
  have w8' : IntKind.i64.wrap ((i : Int) + 1) = ((i + 1 : Nat) : Int) := (w64 (x := (i : Int) + 1) (by omega)).trans (by omega)
  have hx : (pad (row a))[i]? = some (rep (a.c i)) := by rw [pad_get _ _ hi64, row_cf]
  by_cases hai : a.c i = 0
  ·have hr : rep (a.c i) = 0 := rep_eq_zero.2 hai
   have he' : polOf p cur = lowP a (i + 1) * b := by rw [lowP_succ, hai, mo_zero, Gq.add_zero]; exact he
   obtain ⟨cur', g1, g2, g3, g4⟩ := l_sTm1 (O := O) (z := z) hal hbl hab ha1 hb1 m (i + 1) cur (by omega) hc hcan he'
   rw [hr] at hx
   have hin : dn O 0 (.loop Z2p_L0) ⟨[(0, (.d (.int .i64 p))), (4, .ptr 0 []), (5, .ptr 1 []), (6, .ptr 2 []), (8, (.d (.int .i64 (((a.len - 1 : Nat) : Int))))), (9, (.d (.int .i64 (((b.len - 1 : Nat) : Int))))), (10, .ptr 3 []), (11, (.d (.int .i64 i))), (12, (.d (.int .i64 0)))], [.box false (D.arr 64 .leaf (ints .u8 (pad (row a)))), .box false (D.arr 64 .leaf (ints .u8 (pad (row b)))), .box false (D.arr 64 .leaf (ints .u8 z)), .box false (D.arr 64 .leaf (ints .u8 cur))]⟩ =
    some (.exit 2, ⟨[(0, (.d (.int .i64 p))), (4, .ptr 0 []), (5, .ptr 1 []), (6, .ptr 2 []), (8, (.d (.int .i64 (((a.len - 1 : Nat) : Int))))), (9, (.d (.int .i64 (((b.len - 1 : Nat) : Int))))), (10, .ptr 3 []), (11, (.d (.int .i64 i))), (12, (.d (.int .i64 0))), (43, (.d (.bool false)))], [.box false (D.arr 64 .leaf (ints .u8 (pad (row a)))), .box false (D.arr 64 .leaf (ints .u8 (pad (row b)))), .box false (D.arr 64 .leaf (ints .u8 z)), .box false (D.arr 64 .leaf (ints .u8 cur))]⟩) := by
    refine dn_stop ?_
    generalize b.len - 1 = m1 at *
    generalize ((a.len - 1 : Nat) : Int) = n1 at *
    generalize pad (row a) = PA at *
    generalize pad (row b) = PB at *
    simp -implicitDefEqProofs [Z2p_L0, dn_cond, hi64, hx]
   refine ⟨cur', g1, g2, g3, dn_round ?_ g4⟩
   generalize ((b.len - 1 : Nat) : Int) = m1 at *
   generalize ((a.len - 1 : Nat) : Int) = n1 at *
   generalize pad (row a) = PA at *
   generalize pad (row b) = PB at *
   simp -implicitDefEqProofs [Z2p_L1, dn_cond, hlt, hin, w8']
  ·obtain ⟨cur1, k1, k2, k3, k4⟩ := l_sTm0 (O := O) (z := z) (n := 0) (i := i) (by omega) (by omega) hal hbl hab hb1 hai (P := lowP a i * b) (vn := (.d (.int .i64 (((a.len - 1 : Nat) : Int))))) rfl b.len 0 cur (Nat.zero_add _) hc hcan (by rw [lowP_zero, Gq.mul_zero, Gq.add_zero]; exact he)
   have e00 : ((0 : Nat) : Int) = 0 := rfl
   rw [e00] at k4
   have he' : polOf p cur1 = lowP a (i + 1) * b := by
    rw [k3, lowP_succ]
    exact ring_of [lowP a i, b, Pol.mo (a.c i) i] rfl
   obtain ⟨cur', g1, g2, g3, g4⟩ := l_sTm1 (O := O) (z := z) hal hbl hab ha1 hb1 m (i + 1) cur1 (by omega) k1 k2 he'
   refine ⟨cur', g1, g2, g3, dn_round ?_ g4⟩
   generalize ((b.len - 1 : Nat) : Int) = m1 at *
   generalize ((a.len - 1 : Nat) : Int) = n1 at *
   generalize pad (row a) = PA at *
   generalize pad (row b) = PB at *
   simp -implicitDefEqProofs [Z2p_L1, dn_cond, hlt, k4, w8']
def K_sTimes (O : Oracle) : Prop := ∀ (p : Int) [IsP p] (a b : Fp p), a.len ≤ 64 → b.len ≤ 64 → (a * b).len ≤ 64 →
 ask O F2p [(D.int .i64 p), (D.arr 64 .leaf (ints .u8 (pad (row a)))), (D.arr 64 .leaf (ints .u8 (pad (row b))))] = some (.tup [(D.arr 64 .leaf (ints .u8 (pad (row (a * b))))), (D.bool true)])
theorem k_sTimes (hT : T F2p = some Z2p) (hd : K_sDeg (den T A)) : K_sTimes (den T A) := by
 intro p i a b hal hbl hab
 have e1 := hd p a hal
 have e2 := hd p b hbl
 refine ask_of hT rfl ?_
 by_cases ha : a = 0
 ·subst ha
  rw [Gq.zero_mul, row_zero]
  rw [Pol.len_zero, row_zero] at e1
  generalize pad (row b) = PB at *
  simp -implicitDefEqProofs [Z2p, Z2p_B, dn_cond, e1, e2, List.replicate]
 ·have ha1 := Pol.len_pos ha
  by_cases hb : b = 0
  ·subst hb
   rw [Gq.mul_zero, row_zero]
   rw [Pol.len_zero, row_zero] at e2
   have ha2 : ¬ ((a.len : Int) - 1 < 0) := by omega
   generalize pad (row a) = PA at *
   simp -implicitDefEqProofs [Z2p, Z2p_B, dn_cond, e1, e2, ha2, List.replicate]
  ·have hb1 := Pol.len_pos hb
   have hm := Pol.len_mul ha hb
   rw [show ((a.len : Int) - 1) = ((a.len - 1 : Nat) : Int) by omega] at e1
   rw [show ((b.len : Int) - 1) = ((b.len - 1 : Nat) : Int) by omega] at e2
   have w1 : IntKind.i64.wrap (((a.len - 1 : Nat) : Int) + ((b.len - 1 : Nat) : Int)) = ((a.len - 1 + (b.len - 1) : Nat) : Int) := (w64 (by omega)).trans (by omega)
   have w2 : ¬ ((63 : Int) < ((a.len - 1 + (b.len - 1) : Nat) : Int)) := by omega
   obtain ⟨cur', g1, g2, g3, g4⟩ := l_sTm1 (O := den T A) (z := pad []) hal hbl (by omega) ha1 hb1 a.len 0 (pad []) (Nat.zero_add _) (pad_length _) (by
    have := pad_can (0 : Fp p); rwa [row_zero] at this) (by
    rw [lowP_zero, Gq.zero_mul]
    have := polOf_pad (p := p) (a := 0) (by rw [Pol.len_zero]; omega)
    rwa [row_zero] at this)
   have e00 : ((0 : Nat) : Int) = 0 := rfl
   rw [e00] at g4
   have hcur : cur' = pad (row (a * b)) := by rw [pad_of g2 g1, g3]
   rw [hcur] at g4
   have n1 : ¬ (((a.len - 1 : Nat) : Int) < 0) := by omega
   have n2 : ¬ (((b.len - 1 : Nat) : Int) < 0) := by omega
   generalize ((a.len - 1 + (b.len - 1) : Nat) : Int) = s1 at *
   generalize ((b.len - 1 : Nat) : Int) = m1 at *
   generalize ((a.len - 1 : Nat) : Int) = k1 at *
   generalize pad (row (a * b)) = PR at *
   generalize pad (row a) = PA at *
   generalize pad (row b) = PB at *
   simp -implicitDefEqProofs [Z2p, Z2p_B, dn_cond, e1, e2, w1, w2, n1, n2, g4, List.replicate]
structure BzS {p : Int} [IsP p] (A B a b u x v y : Fp p) : Prop where
 i : Pol.BzI A B a b u x v y
 la : a.len ≤ 64
 lb : b.len ≤ 64
 lu : u.len ≤ 64
 lv : v.len ≤ 64
 ne : a ≠ 0
theorem BzS.step {p : Int} [IsP p] {A B a b u x v y : Fp p} (h : BzS A B a b u x v y) (hA : A.len ≤ 64) (hB : B.len ≤ 64) (hb : b ≠ 0) :
 BzS A B b (a % b) x (u - a / b * x) y (v - a / b * y) ∧ x.len ≤ 64 ∧ y.len ≤ 64 ∧ (a / b).len ≤ 64 ∧ (a / b * x).len ≤ 64 ∧ (a / b * y).len ≤ 64 ∧ (a % b).len ≤ 64 := by
 have h1 := h.i.lx
 have h2 := h.i.ly
 have h3 := Pol.len_pos h.ne
 have h4 := Pol.len_pos hb
 have h5 := Pol.len_div_le a hb
 have h6 := Pol.len_mod_le a hb
 obtain ⟨h7, h8⟩ := h.i.qlen hb
 have h9 := h.la
 have hx : x.len ≤ 64 := by omega
 have hy : y.len ≤ 64 := by omega
 exact ⟨⟨h.i.step hb, h.lb, by omega, hx, hy, hb⟩, hx, hy, by omega, by omega, by omega, by omega⟩
theorem l_sBez {O : Oracle} (hdg : K_sDeg O) (hd : K_sDivide O) (ht : K_sTimes O) (ha : K_sAdd O) {p : Int} [IsP p] {A B : Fp p} {z : List Int} (hA : A.len ≤ 64) (hB : B.len ≤ 64) : ∀ (n : Nat) (a b u x v y : Fp p), b.len ≤ n → BzS A B a b u x v y → ∃ x' y' : List Int, (Pol.bz n a b u x v y).1 ≠ 0 ∧ (Pol.bz n a b u x v y).1.len ≤ 64 ∧ (Pol.bz n a b u x v y).2.1.len ≤ 64 ∧ (Pol.bz n a b u x v y).2.2.len ≤ 64 ∧
 dn O 0 (.loop Z27_L0) ⟨[(0, (.d (.int .i64 p))), (4, .ptr 0 []), (5, .ptr 1 []), (6, .ptr 2 []), (7, .ptr 3 []), (8, .ptr 4 []), (9, .ptr 5 []), (10, .ptr 6 []), (11, .ptr 7 []), (12, .ptr 8 [])], [.box false (D.arr 64 .leaf (ints .u8 (pad (row a)))), .box false (D.arr 64 .leaf (ints .u8 (pad (row b)))), .box false (D.arr 64 .leaf (ints .u8 z)), .box false (D.arr 64 .leaf (ints .u8 z)), .box false (D.arr 64 .leaf (ints .u8 z)), .box false (D.arr 64 .leaf (ints .u8 (pad (row u)))), .box false (D.arr 64 .leaf (ints .u8 (pad (row x)))), .box false (D.arr 64 .leaf (ints .u8 (pad (row v)))), .box false (D.arr 64 .leaf (ints .u8 (pad (row y)))), .hole, .hole, .hole, .hole, .hole, .hole]⟩ =
  some (.exit 0, ⟨[(0, (.d (.int .i64 p))), (4, .ptr 0 []), (5, .ptr 1 []), (6, .ptr 2 []), (7, .ptr 3 []), (8, .ptr 4 []), (9, .ptr 5 []), (10, .ptr 6 []), (11, .ptr 7 []), (12, .ptr 8 []), (28, (.d (.bool false)))], [.box false (D.arr 64 .leaf (ints .u8 (pad (row (Pol.bz n a b u x v y).1)))), .box false (D.arr 64 .leaf (ints .u8 (pad []))), .box false (D.arr 64 .leaf (ints .u8 z)), .box false (D.arr 64 .leaf (ints .u8 z)), .box false (D.arr 64 .leaf (ints .u8 z)), .box false (D.arr 64 .leaf (ints .u8 (pad (row (Pol.bz n a b u x v y).2.1)))), .box false (D.arr 64 .leaf (ints .u8 x')), .box false (D.arr 64 .leaf (ints .u8 (pad (row (Pol.bz n a b u x v y).2.2)))), .box false (D.arr 64 .leaf (ints .u8 y')), .hole, .hole, .hole, .hole, .hole, .hole]⟩) := by
 intro n
 have stop : ∀ (a u x v y : Fp p), dn O 0 (.loop Z27_L0) ⟨[(0, (.d (.int .i64 p))), (4, .ptr 0 []), (5, .ptr 1 []), (6, .ptr 2 []), (7, .ptr 3 []), (8, .ptr 4 []), (9, .ptr 5 []), (10, .ptr 6 []), (11, .ptr 7 []), (12, .ptr 8 [])], [.box false (D.arr 64 .leaf (ints .u8 (pad (row a)))), .box false (D.arr 64 .leaf (ints .u8 (pad (row (0 : Fp p))))), .box false (D.arr 64 .leaf (ints .u8 z)), .box false (D.arr 64 .leaf (ints .u8 z)), .box false (D.arr 64 .leaf (ints .u8 z)), .box false (D.arr 64 .leaf (ints .u8 (pad (row u)))), .box false (D.arr 64 .leaf (ints .u8 (pad (row x)))), .box false (D.arr 64 .leaf (ints .u8 (pad (row v)))), .box false (D.arr 64 .leaf (ints .u8 (pad (row y)))), .hole, .hole, .hole, .hole, .hole, .hole]⟩ =
  some (.exit 0, ⟨[(0, (.d (.int .i64 p))), (4, .ptr 0 []), (5, .ptr 1 []), (6, .ptr 2 []), (7, .ptr 3 []), (8, .ptr 4 []), (9, .ptr 5 []), (10, .ptr 6 []), (11, .ptr 7 []), (12, .ptr 8 []), (28, (.d (.bool false)))], [.box false (D.arr 64 .leaf (ints .u8 (pad (row a)))), .box false (D.arr 64 .leaf (ints .u8 (pad []))), .box false (D.arr 64 .leaf (ints .u8 z)), .box false (D.arr 64 .leaf (ints .u8 z)), .box false (D.arr 64 .leaf (ints .u8 z)), .box false (D.arr 64 .leaf (ints .u8 (pad (row u)))), .box false (D.arr 64 .leaf (ints .u8 (pad (row x)))), .box false (D.arr 64 .leaf (ints .u8 (pad (row v)))), .box false (D.arr 64 .leaf (ints .u8 (pad (row y)))), .hole, .hole, .hole, .hole, .hole, .hole]⟩) := by
  intro a u x v y
  have e := hdg p 0 (by rw [Pol.len_zero]; omega)
  rw [row_zero, Pol.len_zero] at e
  rw [row_zero]
  refine dn_stop ?_
  generalize pad (row a) = Pa
  generalize pad (row u) = Pu
  generalize pad (row x) = Px
  generalize pad (row v) = Pv
  generalize pad (row y) = Py
  simp -implicitDefEqProofs [Z27_L0, dn_cond, e]
 induction n with
 | zero =>
  intro a b u x v y hn hs
  obtain rfl := Pol.len_zero_iff.1 (show b.len = 0 by omega)
  exact ⟨_, _, hs.ne, hs.la, hs.lu, hs.lv, stop a u x v y⟩
 | succ n ih =>
  intro a b u x v y hn hs
  unfold Pol.bz
  by_cases h0 : b = 0
  ·subst h0
   rw [if_pos rfl]
   exact ⟨_, _, hs.ne, hs.la, hs.lu, hs.lv, stop a u x v y⟩
  ·rw [if_neg h0]
   obtain ⟨s0, s1, s2, s3, s4, s5, s6⟩ := hs.step hA hB h0
   have hl := Pol.len_mod a h0
   have hp := Pol.len_pos h0
   obtain ⟨x', y', g1, g2, g3, g4, e⟩ := ih b (a % b) x (u - a / b * x) y (v - a / b * y) (by omega) s0
   refine ⟨x', y', g1, g2, g3, g4, dn_round ?_ e⟩
   have e0 := hdg p b hs.lb
   have e1 := hd p a b h0 hs.la hs.lb
   have e2 := ht p (a / b) x s3 s1 s4
   have e3 := ha p (-1) u (a / b * x) (by omega) (by omega) hs.lu s4
   have e4 := ht p (a / b) y s3 s2 s5
   have e5 := ha p (-1) v (a / b * y) (by omega) (by omega) hs.lv s5
   rw [sub_comb] at e3 e5
   have hge : ¬ ((b.len : Int) - 1 < 0) := by omega
   have hge2 : (0 : Int) ≤ (b.len : Int) - 1 := by omega
   have hge3 : (1 : Int) ≤ (b.len : Int) := by omega
   generalize pad (row (u - a / b * x)) = Pux at *
   generalize pad (row (v - a / b * y)) = Pvy at *
   generalize pad (row (a / b * x)) = Pqx at *
   generalize pad (row (a / b * y)) = Pqy at *
   generalize pad (row (a / b)) = Pq at *
   generalize pad (row (a % b)) = Pr at *
   generalize pad (row a) = Pa at *
   generalize pad (row b) = Pb at *
   generalize pad (row u) = Pu at *
   generalize pad (row x) = Px at *
   generalize pad (row v) = Pv at *
   generalize pad (row y) = Py at *
   simp -implicitDefEqProofs [Z27_L0, dn_cond, hge3, e0, e1, e2, e3, e4, e5]
def K_sBezout (O : Oracle) : Prop := ∀ (p : Int) [IsP p] (a b : Fp p), a ≠ 0 → a.len ≤ 64 → b.len ≤ 64 →
 ask O F27 [(D.int .i64 p), (D.arr 64 .leaf (ints .u8 (pad (row a)))), (D.arr 64 .leaf (ints .u8 (pad (row b))))] = some (.tup [(D.arr 64 .leaf (ints .u8 (pad (row (Pol.bezout a b).1)))), (D.arr 64 .leaf (ints .u8 (pad (row (Pol.bezout a b).2.1)))), (D.arr 64 .leaf (ints .u8 (pad (row (Pol.bezout a b).2.2))))])
theorem k_sBezout (hT : T F27 = some Z27) (h1 : K_sOne (den T A)) (hdg : K_sDeg (den T A)) (hd : K_sDivide (den T A)) (ht : K_sTimes (den T A)) (ha : K_sAdd (den T A)) (hinv : K_sInverse (den T A)) : K_sBezout (den T A) := by
 intro p i a b h0 hal hbl
 have hp := IsP.ge (p := p)
 have hp7 := IsP.le (p := p)
 have hs : BzS a b a b 1 0 0 1 := ⟨Pol.BzI.init (.inl h0), hal, hbl, by rw [Pol.len_one]; omega, by rw [Pol.len_zero]; omega, h0⟩
 have e1 := h1 p
 obtain ⟨x', y', g1, g2, g3, g4, e2⟩ := l_sBez (O := den T A) (z := pad []) hdg hd ht ha hal hbl b.len a b 1 0 0 1 (Nat.le_refl _) hs
 unfold Pol.bezout
 have heu : Pol.eu a b = Pol.bz b.len a b 1 0 0 1 := rfl
 rw [heu]
 generalize Pol.bz b.len a b 1 0 0 1 = R at *
 obtain ⟨d, u, v⟩ := R
 simp only at g1 g2 g3 g4 e2 ⊢
 rw [row_zero] at e2
 have hd1 := Pol.len_pos g1
 have e3 := hdg p d g2
 rw [show ((d.len : Int) - 1) = ((d.len - 1 : Nat) : Int) by omega] at e3
 have hi64 : d.len - 1 < 64 := by omega
 have hx : (pad (row d))[d.len - 1]? = some (rep d.ld) := by rw [pad_get _ _ hi64, row_cf]; rfl
 have hr := rep_in d.ld
 have hr0 : rep d.ld ≠ 0 := fun h => Pol.ld_ne g1 (rep_eq_zero.1 h)
 have hin := inv_in p (rep d.ld)
 have e4 := hinv p (rep d.ld) (by omega) hr.2
 have w1 : IntKind.i64.wrap (inv p (rep d.ld)) = inv p (rep d.ld) := w64 (by omega)
 have z0 : (0 : Fp p).len ≤ 64 := by rw [Pol.len_zero]; omega
 have e5 := ha p (inv p (rep d.ld)) 0 d (by omega) (by omega) z0 g2
 have e6 := ha p (inv p (rep d.ld)) 0 u (by omega) (by omega) z0 g3
 have e7 := ha p (inv p (rep d.ld)) 0 v (by omega) (by omega) z0 g4
 rw [finv_rep _ (Pol.ld_ne g1), Gq.zero_add, row_zero] at e5 e6 e7
 refine ask_of hT rfl ?_
 generalize pad (row (Pol.C (Fd.inv d.ld) * d)) = P1 at *
 generalize pad (row (Pol.C (Fd.inv d.ld) * u)) = P2 at *
 generalize pad (row (Pol.C (Fd.inv d.ld) * v)) = P3 at *
 generalize pad (row d) = Pd at *
 generalize pad (row u) = Pu at *
 generalize pad (row v) = Pv at *
 generalize pad (row a) = Pa at *
 generalize pad (row b) = Pb at *
 generalize pad (row (1 : Fp p)) = P0 at *
 generalize d.len - 1 = n1 at *
 simp -implicitDefEqProofs [Z27, Z27_B, e1, e2, e3, e4, e5, e6, e7, hi64, hx, w1, List.replicate]
def K_sGcd (O : Oracle) : Prop := ∀ (p : Int) [IsP p] (a b : Fp p), a ≠ 0 → a.len ≤ 64 → b.len ≤ 64 →
 ask O F2c [(D.int .i64 p), (D.arr 64 .leaf (ints .u8 (pad (row a)))), (D.arr 64 .leaf (ints .u8 (pad (row b))))] = some (D.arr 64 .leaf (ints .u8 (pad (row (Pol.gcd a b)))))
theorem k_sGcd (hT : T F2c = some Z2c) (hdg : K_sDeg (den T A)) (hb : K_sBezout (den T A)) : K_sGcd (den T A) := by
 intro p i a b h0 hal hbl
 have e1 := hdg p a hal
 have e2 := hb p a b h0 hal hbl
 have hp := Pol.len_pos h0
 have hge : ¬ ((a.len : Int) - 1 < 0) := by omega
 refine ask_of hT rfl ?_
 unfold Pol.gcd
 generalize pad (row (Pol.bezout a b).1) = P1 at *
 generalize pad (row (Pol.bezout a b).2.1) = P2 at *
 generalize pad (row (Pol.bezout a b).2.2) = P3 at *
 generalize pad (row a) = Pa at *
 generalize pad (row b) = Pb at *
 generalize (a.len : Int) - 1 = n1 at *
 simp -implicitDefEqProofs [Z2c, Z2c_B, dn_cond, e1, e2, hge, List.replicate]
def K_sT (O : Oracle) : Prop := ∀ (p : Int) [IsP p], ask O F2o [] = some (D.arr 64 .leaf (ints .u8 (pad (row (Pol.X : Fp p)))))
theorem k_sT (hT : T F2o = some Z2o) : K_sT (den T A) := by
 intro p i
 have e : ((pad []).set 0 0).set 1 1 = pad [0, 1] := by decide +kernel
 have h0 : (pad [])[0]? = some 0 := by decide +kernel
 have h1 : (pad [])[1]? = some 0 := by decide +kernel
 rw [row_X]
 refine ask_of hT rfl ?_
 simp -implicitDefEqProofs [Z2o, Z2o_B, e, h0, h1]
open Classical in
theorem l_sIrr {O : Oracle} (hdg : K_sDeg O) (hpw : K_sPowMod O) (hg : K_sGcd O) (ha : K_sAdd O) (ht : K_sT O) {p : Int} [IsP p] {m : Fp p} (hm : m ≠ 0) (hml : m.len ≤ 13) {n : Nat} (hn : n + 1 = m.len) : ∀ (f k : Nat), 1 ≤ k → k + f = n / 2 + 1 → ∃ P' : List Int,
 dn O 0 (.loop Z2f_L0) ⟨[(0, (.d (.int .i64 p))), (3, .ptr 0 []), (5, (.d (.int .i64 n))), (6, .ptr 1 []), (7, (.d (.int .i64 k)))], [.box false (D.arr 64 .leaf (ints .u8 (pad (row m)))), .box false (D.arr 64 .leaf (ints .u8 (pad (row (pw Pol.X (p.toNat ^ (k - 1)) % m)))))]⟩ =
  if ∀ k', k ≤ k' → 2 * k' ≤ n → (Pol.gcd m (frW m k')).len = 1 then some (.exit 0, ⟨[(0, (.d (.int .i64 p))), (3, .ptr 0 []), (5, (.d (.int .i64 n))), (6, .ptr 1 []), (7, (.d (.int .i64 (((n / 2 + 1 : Nat) : Int))))), (19, (.d (.bool false)))], [.box false (D.arr 64 .leaf (ints .u8 (pad (row m)))), .box false (D.arr 64 .leaf (ints .u8 P'))]⟩)
  else some (.ret, ⟨[(4, (.d (.bool false)))], [.hole, .hole]⟩)
 | 0, k, hk, hf => by
  obtain rfl : k = n / 2 + 1 := by omega
  refine ⟨pad (row (pw Pol.X (p.toNat ^ (n / 2 + 1 - 1)) % m)), ?_⟩
  rw [if_pos (fun k' h1 h2 => by omega)]
  have w1 : IntKind.i64.wrap (2 * ((n / 2 + 1 : Nat) : Int)) = 2 * ((n / 2 + 1 : Nat) : Int) := w64 (by omega)
  have hlt : ¬ (2 * ((n / 2 + 1 : Nat) : Int) ≤ n) := by omega
  refine dn_stop ?_
  generalize ((n / 2 + 1 : Nat) : Int) = k1 at *
  generalize pad (row (pw Pol.X (p.toNat ^ (n / 2 + 1 - 1)) % m)) = P1 at *
  generalize pad (row m) = Pm at *
  simp -implicitDefEqProofs [Z2f_L0, dn_cond, w1, hlt]
 | f + 1, k, hk, hf => by
  have hp := IsP.pos (p := p)
  have hp7 := IsP.le (p := p)
  have w1 : IntKind.i64.wrap (2 * (k : Int)) = 2 * (k : Int) := w64 (by omega)
  have hlt : 2 * (k : Int) ≤ n := by omega
  have w4 : IntKind.i64.wrap ((k : Int) + 1) = ((k + 1 : Nat) : Int) := (w64 (x := (k : Int) + 1) (by omega)).trans (by omega)
  have hl1 := Pol.len_mod (pw Pol.X (p.toNat ^ (k - 1))) hm
  have hl2 := Pol.len_mod (pw Pol.X (p.toNat ^ k)) hm
  have e1 := hpw p (pw Pol.X (p.toNat ^ (k - 1)) % m) p m hm (by omega) (by omega) (by omega) (by omega)
  have e2 : pw (pw Pol.X (p.toNat ^ (k - 1)) % m) p.toNat % m = pw Pol.X (p.toNat ^ k) % m := by
   rw [Pol.pow_mod _ hm, pw_pw, ← Nat.pow_succ, show (k - 1).succ = k by omega]
  rw [e2] at e1
  have e3 := ht p
  have hX : (Pol.X : Fp p).len ≤ 64 := by rw [Pol.len_X]; omega
  have e4 := ha p (-1) (pw Pol.X (p.toNat ^ k) % m) Pol.X (by omega) (by omega) (by omega) hX
  rw [sub_comb] at e4
  have e4' : pw Pol.X (p.toNat ^ k) % m - Pol.X = frW m k := rfl
  rw [e4'] at e4
  have hl3 : (frW m k).len ≤ 64 := Pol.len_sub_le (by omega) hX
  have e5 := hg p m (frW m k) hm (by omega) hl3
  have hgm := Pol.gcd_monic (a := m) (b := frW m k) (.inl hm)
  have hgl := (Pol.gcd_dv_left (a := m) (b := frW m k) (.inl hm)).len hm
  have e6 := hdg p (Pol.gcd m (frW m k)) (by omega)
  have hg1 := Pol.len_pos hgm.2
  by_cases hc : (Pol.gcd m (frW m k)).len = 1
  ·obtain ⟨P', ih⟩ := l_sIrr hdg hpw hg ha ht hm hml hn f (k + 1) (by omega) (by omega)
   rw [show k + 1 - 1 = k by omega] at ih
   refine ⟨P', ?_⟩
   have hiff : (∀ k', k ≤ k' → 2 * k' ≤ n → (Pol.gcd m (frW m k')).len = 1) ↔ ∀ k', k + 1 ≤ k' → 2 * k' ≤ n → (Pol.gcd m (frW m k')).len = 1 := by
    constructor
    ·intro h k' h1 h2; exact h k' (by omega) h2
    ·intro h k' h1 h2
     by_cases hkk : k' = k
     ·rw [hkk]; exact hc
     ·exact h k' (by omega) h2
   rw [propext hiff]
   refine dn_round ?_ ih
   rw [hc] at e6
   have e7 : ((1 : Nat) : Int) - 1 = 0 := rfl
   rw [e7] at e6
   generalize pad (row (Pol.gcd m (frW m k))) = Pg at *
   generalize pad (row (frW m k)) = Pw at *
   generalize pad (row (pw Pol.X (p.toNat ^ k) % m)) = P2 at *
   generalize pad (row (pw Pol.X (p.toNat ^ (k - 1)) % m)) = P1 at *
   generalize pad (row (Pol.X : Fp p)) = PX at *
   generalize pad (row m) = Pm at *
   simp -implicitDefEqProofs [Z2f_L0, dn_cond, w1, hlt, e1, e3, e4, e5, e6, w4]
  ·refine ⟨pad [], ?_⟩
   rw [if_neg (fun h => hc (h k (Nat.le_refl k) (by omega)))]
   have hne : ¬ (((Pol.gcd m (frW m k)).len : Int) - 1 = 0) := by omega
   refine dn_back ?_
   generalize ((Pol.gcd m (frW m k)).len : Int) - 1 = g1 at *
   generalize pad (row (Pol.gcd m (frW m k))) = Pg at *
   generalize pad (row (frW m k)) = Pw at *
   generalize pad (row (pw Pol.X (p.toNat ^ k) % m)) = P2 at *
   generalize pad (row (pw Pol.X (p.toNat ^ (k - 1)) % m)) = P1 at *
   generalize pad (row (Pol.X : Fp p)) = PX at *
   generalize pad (row m) = Pm at *
   simp -implicitDefEqProofs [Z2f_L0, dn_cond, w1, hlt, e1, e3, e4, e5, e6, hne]
open Classical in
def K_sIrr (O : Oracle) : Prop := ∀ (p : Int) [IsP p] (m : Fp p), m ≠ 0 → m.len ≤ 13 → ask O F2f [(D.int .i64 p), (D.arr 64 .leaf (ints .u8 (pad (row m))))] = some (D.bool (decide (Irr m)))
open Classical in
theorem k_sIrr (hT : T F2f = some Z2f) (hdg : K_sDeg (den T A)) (hmo : K_sMod (den T A)) (hpw : K_sPowMod (den T A)) (hg : K_sGcd (den T A)) (ha : K_sAdd (den T A)) (ht : K_sT (den T A)) : K_sIrr (den T A) := by
 intro p i m hm hml
 have e1 := hdg p m (by omega)
 have e2 := ht p
 have e3 := hmo p Pol.X m hm (by rw [Pol.len_X]; omega) (by omega)
 have h1 := Pol.len_pos hm
 refine ask_of hT rfl ?_
 by_cases h2 : 2 ≤ m.len
 ·obtain ⟨P', e4⟩ := l_sIrr (O := den T A) hdg hpw hg ha ht hm hml (n := m.len - 1) (by omega) ((m.len - 1) / 2) 1 (Nat.le_refl 1) (by omega)
  have e5 : pw (Pol.X : Fp p) (p.toNat ^ (1 - 1)) = Pol.X := by rw [Nat.sub_self, Nat.pow_zero, pw_1]
  rw [e5, irr_test h2 hml] at e4
  rw [show ((m.len : Int) - 1) = ((m.len - 1 : Nat) : Int) by omega] at e1
  have hlt : ¬ (((m.len - 1 : Nat) : Int) < 1) := by omega
  have e01 : ((1 : Nat) : Int) = 1 := rfl
  rw [e01] at e4
  by_cases hi : Irr m
  ·rw [if_pos hi] at e4
   rw [decide_eq_true hi]
   generalize (((m.len - 1) / 2 + 1 : Nat) : Int) = k1 at *
   generalize ((m.len - 1 : Nat) : Int) = n1 at *
   generalize pad (row (Pol.X % m)) = P1 at *
   generalize pad (row (Pol.X : Fp p)) = PX at *
   generalize pad (row m) = Pm at *
   simp -implicitDefEqProofs [Z2f, Z2f_B, dn_cond, e1, e2, e3, e4, hlt, List.replicate]
  ·rw [if_neg hi] at e4
   rw [decide_eq_false hi]
   generalize ((m.len - 1 : Nat) : Int) = n1 at *
   generalize pad (row (Pol.X % m)) = P1 at *
   generalize pad (row (Pol.X : Fp p)) = PX at *
   generalize pad (row m) = Pm at *
   simp -implicitDefEqProofs [Z2f, Z2f_B, dn_cond, e1, e2, e3, e4, hlt, List.replicate]
 ·have hl : m.len = 1 := by omega
  rw [hl] at e1
  have e7 : ((1 : Nat) : Int) - 1 = 0 := rfl
  rw [e7] at e1
  rw [decide_eq_false (fun h : Irr m => h2 h.len)]
  generalize pad (row (Pol.X % m)) = P1 at *
  generalize pad (row (Pol.X : Fp p)) = PX at *
  generalize pad (row m) = Pm at *
  simp -implicitDefEqProofs [Z2f, Z2f_B, dn_cond, e1, e2, e3, List.replicate]
end Pe

namespace Pe
open Go Gq
variable {T : Nat → Option Fn} {A : Oracle}
def puts : List Int → Nat → List Int → List Int
 | [], _, cur => cur
 | d :: ds, i, cur => puts ds (i + 1) (cur.set i d)
theorem puts_length : ∀ (ds : List Int) (i : Nat) (cur : List Int), (puts ds i cur).length = cur.length
 | [], _, _ => rfl
 | d :: ds, i, cur => by rw [puts, puts_length, List.length_set]
theorem puts_cf : ∀ (ds : List Int) (i : Nat) (cur : List Int) (j : Nat), i + ds.length ≤ cur.length → cf (puts ds i cur) j = if i ≤ j ∧ j < i + ds.length then cf ds (j - i) else cf cur j
 | [], i, cur, j, _ => by rw [puts, if_neg (by rintro ⟨h1, h2⟩; rw [List.length_nil] at h2; omega)]
 | d :: ds, i, cur, j, h => by
  simp at h
  rw [puts, puts_cf ds (i + 1) _ j (by rw [List.length_set]; omega), cf_set, List.length_cons]
  by_cases h1 : j = i
  ·subst h1
   rw [if_neg (by omega), if_pos ⟨rfl, by omega⟩, if_pos (by omega), Nat.sub_self]; rfl
  ·by_cases h2 : i + 1 ≤ j ∧ j < i + 1 + ds.length
   ·rw [if_pos h2, if_pos (by omega)]
    obtain ⟨k, hk⟩ : ∃ k, j - i = k + 1 := ⟨j - i - 1, by omega⟩
    rw [hk, show j - (i + 1) = k by omega]
    simp [cf]
   ·rw [if_neg h2, if_neg (by omega), if_neg (by omega)]
theorem puts_pad {ds : List Int} (h : ds.length ≤ 64) : puts ds 0 (pad []) = pad ds := by
 symm
 apply pad_eq (by rw [puts_length, pad_length])
 intro i hi
 rw [puts_cf _ _ _ _ (by rw [pad_length]; omega)]
 by_cases h1 : i < ds.length
 ·rw [if_pos (by omega), Nat.sub_zero]
 ·rw [if_neg (by omega), pad_cf (by simp), cf_ge (by omega), cf_ge (by simp)]
theorem l_sOf {O : Oracle} {p : Int} [IsP p] {z : List Int} : ∀ (f : Nat) (n : Int) (i : Nat) (cur : List Int), 0 ≤ n → n < 2 ^ f → n < 9223372036854775807 → i + f ≤ 64 → cur.length = 64 → ∃ i' : Nat,
 dn O 0 (.loop Z2k_L0) ⟨[(0, (.d (.int .i64 p))), (1, (.d (.int .i64 n))), (4, .ptr 0 []), (5, .ptr 1 []), (6, (.d (.int .i64 i)))], [.box false (D.arr 64 .leaf (ints .u8 z)), .box false (D.arr 64 .leaf (ints .u8 cur))]⟩ =
  some (.exit 0, ⟨[(0, (.d (.int .i64 p))), (1, (.d (.int .i64 0))), (4, .ptr 0 []), (5, .ptr 1 []), (6, (.d (.int .i64 i'))), (9, (.d (.bool false)))], [.box false (D.arr 64 .leaf (ints .u8 z)), .box false (D.arr 64 .leaf (ints .u8 (puts (dgs p f n) i cur)))]⟩)
 | 0, n, i, cur, h0, hn, hm, hi, hc => by
  obtain rfl : n = 0 := by simp at hn; omega
  exact ⟨i, dn_stop (by simp -implicitDefEqProofs [Z2k_L0, dn_cond, dgs, puts])⟩
 | f + 1, n, i, cur, h0, hn, hm, hi, hc => by
  have hp := IsP.ge (p := p)
  have hp7 := IsP.le (p := p)
  by_cases hz : n = 0
  ·subst hz
   refine ⟨i, ?_⟩
   rw [dgs, if_pos (Int.le_refl 0), puts]
   exact dn_stop (by simp -implicitDefEqProofs [Z2k_L0, dn_cond])
  ·have hd : n / p < 2 ^ f := by
    apply Int.ediv_lt_of_lt_mul (by omega)
    have : (2 : Int) ^ (f + 1) = 2 ^ f * 2 := Int.pow_succ _ _
    have h2 : (2 : Int) ^ f * 2 ≤ 2 ^ f * p := Int.mul_le_mul_of_nonneg_left hp (Int.pow_nonneg (by omega))
    omega
   have hdn : 0 ≤ n / p := Int.ediv_nonneg (by omega) (by omega)
   have hdl : n / p ≤ n := Int.ediv_le_self _ h0
   obtain ⟨i', e⟩ := l_sOf (O := O) (p := p) (z := z) f (n / p) (i + 1) (cur.set i (n % p)) hdn hd (by omega) (by omega) (by simpa using hc)
   have hpos : 0 < n := by omega
   have hr : 0 ≤ n % p ∧ n % p < p := ⟨Int.emod_nonneg _ (by omega), Int.emod_lt_of_pos _ (by omega)⟩
   have w1 : IntKind.i64.wrap (n.tdiv p) = n / p := by rw [Int.tdiv_eq_ediv_of_nonneg h0, w64 (by omega)]
   have w2 : n.tmod p = n % p := Int.tmod_eq_emod_of_nonneg h0
   have w3 : IntKind.u8.wrap (n % p) = n % p := w8 (by omega)
   have w4 : IntKind.i64.wrap ((i : Int) + 1) = ((i + 1 : Nat) : Int) := (w64 (x := (i : Int) + 1) (by omega)).trans (by omega)
   have hp0 : p ≠ 0 := by omega
   have hi64 : i < 64 := by omega
   have hic : i < cur.length := by omega
   refine ⟨i', ?_⟩
   rw [dgs, if_neg (by omega), puts]
   refine dn_round ?_ e
   simp -implicitDefEqProofs [Z2k_L0, dn_cond, hpos, w1, w2, w3, w4, hp0, hi64, hic]
def K_sOf (O : Oracle) : Prop := ∀ (p : Int) [IsP p] (n : Int), 0 ≤ n → n < 4611686018427387904 → ask O F2k [(D.int .i64 p), (D.int .i64 n)] = some (D.arr 64 .leaf (ints .u8 (pad (row (numP p n)))))
theorem k_sOf (hT : T F2k = some Z2k) : K_sOf (den T A) := by
 intro p i n h0 hn
 obtain ⟨i', e⟩ := l_sOf (O := den T A) (p := p) (z := pad []) 64 n 0 (pad []) h0 (by omega) (by omega) (by omega) (pad_length _)
 rw [puts_pad (dgs_le p 64 n), ← row_numP (by omega)] at e
 have e0 : ((0 : Nat) : Int) = 0 := rfl
 rw [e0] at e
 refine ask_of hT rfl ?_
 generalize pad (row (numP p n)) = R at *
 simp -implicitDefEqProofs [Z2k, Z2k_B, e]
theorem beqs_ints (k : IntKind) : ∀ {l m : List Int}, l.length = m.length → D.beqs .int (ints k l) (ints k m) = some (decide (l = m))
 | [], [], _ => by simp [D.beqs, ints]
 | x :: l, y :: m, h => by
  have e : D.beqs .int (ints k (x :: l)) (ints k (y :: m)) = (D.beq .int (.int k x) (.int k y)).bind fun b => if b then D.beqs .int (ints k l) (ints k m) else some false := rfl
  rw [e]
  have e2 : D.beq .int (.int k x) (.int k y) = some (decide (x = y)) := by simp [D.beq]
  rw [e2, Option.bind_some, beqs_ints k (by simpa using h)]
  by_cases h1 : x = y
  ·subst h1; simp
  ·simp [h1]
theorem beq_P {l m : List Int} (hl : l.length = 64) (hm : m.length = 64) : D.beq (.arr 64 .leaf .int) (D.arr 64 .leaf (ints .u8 l)) (D.arr 64 .leaf (ints .u8 m)) = some (decide (l = m)) := by
 have e : D.beq (.arr 64 .leaf .int) (D.arr 64 .leaf (ints .u8 l)) (D.arr 64 .leaf (ints .u8 m)) = if 64 = 64 ∧ 64 = 64 ∧ Sh.beq .leaf .leaf ∧ Sh.beq .leaf .leaf then D.beqs .int (ints .u8 l) (ints .u8 m) else none := rfl
 rw [e, if_pos ⟨rfl, rfl, rfl, rfl⟩, beqs_ints _ (by omega)]
theorem pad_row_inj {p : Int} {a b : Fp p} (ha : a.len ≤ 64) (hb : b.len ≤ 64) : pad (row a) = pad (row b) ↔ a = b := by
 constructor
 ·intro h
  rw [← polOf_pad ha, h, polOf_pad hb]
 ·rintro rfl; rfl
theorem beq_poly {p : Int} {a b : Fp p} (_ha : a.len ≤ 64) (_hb : b.len ≤ 64) : D.beq (.arr 64 .leaf .int) (D.arr 64 .leaf (ints .u8 (pad (row a)))) (D.arr 64 .leaf (ints .u8 (pad (row b)))) = some (decide (pad (row a) = pad (row b))) := beq_P (pad_length _) (pad_length _)
section
variable {p : Int} [IsP p]
structure SInv (a0 : Fp p) (k : Int) (a : Fp p) (out : Facs p) : Prop where
 ne : a ≠ 0
 eq : a0 = a * prodF out
 ok : FacOk out
 so : out.Pairwise fun x y => numOf x.1 < numOf y.1
 lt : ∀ x ∈ out, numOf x.1 < k
 ge : ∀ q, Irr q → Monic q → Dv q a → k ≤ numOf q
 ln : out.length + a.len ≤ 13
structure SEnd (a0 a : Fp p) (out : Facs p) : Prop where
 ne : a ≠ 0
 eq : a0 = a * prodF out
 ok : FacOk out
 so : out.Pairwise fun x y => numOf x.1 < numOf y.1
 irr : 2 ≤ a.len → Irr a ∧ ∀ x ∈ out, numOf x.1 < numOf (mon a)
 ln : out.length + a.len ≤ 13
theorem mon_irr_dv {q a : Fp p} (hq : Irr q) (h : Dv q a) : Dv (mon q) a := (mon_dv hq.ne).2 h
theorem SInv.small {a0 a : Fp p} {n : Nat} {k : Int} {out : Facs p} (h : SInv a0 k a out) (_hn : n ≤ 12) (hk : p ^ n ≤ k) : NoSmall n a := by
 intro q hq hd
 have h1 := h.ge _ hq.mon (mon_monic hq.ne) (mon_irr_dv hq hd)
 have h2 := numOf_in (mon q)
 rw [mon_len hq.ne] at h2
 apply Classical.byContradiction
 intro hx
 have := ipow_mono (p := p) (by have := IsP.pos (p := p); omega) (show q.len ≤ n by omega)
 omega
theorem SInv.end' {a0 a : Fp p} {n : Nat} {k : Int} {out : Facs p} (h : SInv a0 k a out) (hn : n ≤ 12) (hk : p ^ n ≤ k) (hs : a.len < 2 * n + 1) : SEnd a0 a out :=
 ⟨h.ne, h.eq, h.ok, h.so, fun hl => by
  have hi := irr_of_noSmall (h.small hn hk) hl hs
  have h1 := h.ge _ hi.mon (mon_monic hi.ne) ((mon_dv hi.ne).2 (.refl a))
  exact ⟨hi, fun x hx => by have := h.lt x hx; omega⟩, h.ln⟩
theorem SInv.step {a0 a : Fp p} {n : Nat} {k : Int} {out : Facs p} (h : SInv a0 k a out) (hn1 : 1 ≤ n) (hn : n ≤ 12) (hk : p ^ n ≤ k) (hk2 : k < 2 * p ^ n) {j : Nat} {r : Fp p} (h1 : a = r * pw (numP p k) j) (h2 : ¬ Dv (numP p k) r) :
 SInv a0 (k + 1) r (if j = 0 then out else out ++ [(numP p k, j)]) := by
 obtain ⟨m1, m2⟩ := numP_monic hn hk hk2
 have hb := ppow_le (p := p) hn
 have hpos := ppow_pos (p := p) n
 have hnum : numOf (numP p k) = k := numOf_numP ⟨by omega, by omega⟩
 have hr0 : r ≠ 0 := fun h0 => h.ne (by rw [h1, h0, Gq.zero_mul])
 have ge' : ∀ q, Irr q → Monic q → Dv q r → k + 1 ≤ numOf q := by
  intro q hq hm hd
  have g1 := h.ge q hq hm (by rw [h1]; exact hd.mul_right _)
  have g2 : numOf q ≠ k := fun e => by
   have : q = numP p k := numOf_inj (by rw [e, hnum])
   exact h2 (this ▸ hd)
  omega
 by_cases hj : j = 0
 ·subst hj
  rw [if_pos rfl]
  rw [pw, Gq.mul_one] at h1
  subst h1
  exact ⟨h.ne, h.eq, h.ok, h.so, fun x hx => by have := h.lt x hx; omega, ge', h.ln⟩
 ·rw [if_neg hj]
  have hda : Dv (numP p k) a := by
   obtain ⟨i, rfl⟩ : ∃ i, j = i + 1 := ⟨j - 1, by omega⟩
   rw [h1, pw]
   exact ((Dv.refl _).mul_left _).mul_left _
  have hi : Irr (numP p k) := by
   refine Irr.of_dv (by omega) fun u hu => ?_
   have hul := hu.len m1.2
   have hu0 : u ≠ 0 := fun h0 => by
    obtain ⟨c, hc⟩ := hu
    exact m1.2 (by rw [hc, h0, Gq.zero_mul])
   have hup := Pol.len_pos hu0
   by_cases hu1 : u.len = 1
   ·exact .inl hu1
   ·right
    obtain ⟨q, q1, q2, q3⟩ := irr_ex u.len u (Nat.le_refl _) (by omega)
    have g1 := h.ge q q1 q2 ((q3.trans hu).trans hda)
    have g2 := q3.len hu0
    apply Classical.byContradiction
    intro hx
    have g3 := numOf_len (a := q) (b := numP p k) (by omega)
    omega
  have hlt : r.len < a.len := by
   obtain ⟨i, rfl⟩ : ∃ i, j = i + 1 := ⟨j - 1, by omega⟩
   have hi0 := pw_ne hi.ne i
   have l1 := Pol.len_mul hi0 hi.ne
   have l2 := Pol.len_mul hr0 (Pol.mul_ne hi0 hi.ne)
   have l3 := Pol.len_pos hi0
   rw [h1, pw]; omega
  refine ⟨hr0, ?_, h.ok.snoc hi m1 (by omega) fun x hx e => ?_, ?_, ?_, ge', ?_⟩
  ·rw [h.eq, prodF_snoc]
   conv => lhs; rw [h1]
   exact ring_of [r, pw (numP p k) j, prodF out] rfl
  ·have := h.lt x hx
   rw [e, hnum] at this; omega
  ·rw [List.pairwise_append]
   refine ⟨h.so, List.pairwise_singleton _ _, fun x hx y hy => ?_⟩
   simp at hy; subst hy
   have := h.lt x hx
   rw [hnum]; exact this
  ·intro x hx
   rcases List.mem_append.1 hx with hx | hx
   ·have := h.lt x hx; omega
   ·simp at hx; subst hx; rw [hnum]; omega
  ·have := h.ln
   simp; omega
theorem SInv.next {a0 a : Fp p} {n : Nat} {out : Facs p} (h : SInv a0 (2 * p ^ n) a out) (hn : n ≤ 11) : SInv a0 (p ^ (n + 1)) a out := by
 refine ⟨h.ne, h.eq, h.ok, h.so, fun x hx => ?_, fun q hq hm hd => ?_, h.ln⟩
 ·have := h.lt x hx
  have := ppow_succ (p := p) n
  omega
 ·have h1 := h.ge q hq hm hd
  have hq0 := Pol.len_pos hm.2
  rcases Nat.lt_or_ge (n + 1) q.len with h2 | h2
  ·obtain ⟨d, hd'⟩ : ∃ d, q.len = d + 1 := ⟨q.len - 1, by omega⟩
   have hl := hd.len h.ne
   have hln := h.ln
   have h3 := numOf_monic (n := d) (by omega) hm hd'
   have := ipow_mono (p := p) (by have := IsP.pos (p := p); omega) (show n + 1 ≤ d by omega)
   omega
  ·exfalso
   obtain ⟨d, hd'⟩ : ∃ d, q.len = d + 1 := ⟨q.len - 1, by omega⟩
   have h3 := numOf_monic (n := d) (by omega) hm hd'
   have := ipow_mono (p := p) (by have := IsP.pos (p := p); omega) (show d ≤ n by omega)
   omega
theorem SInv.init {a : Fp p} (ha : a ≠ 0) (hl : a.len ≤ 13) : SInv a (p ^ 1) a [] :=
 ⟨ha, (Gq.mul_one a).symm, ⟨by simp, .nil⟩, .nil, by simp, fun q hq hm _ => by
  have h1 := hq.len
  obtain ⟨d, hd'⟩ : ∃ d, q.len = d + 1 := ⟨q.len - 1, by omega⟩
  by_cases hd12 : d ≤ 12
  ·have h3 := numOf_monic (n := d) hd12 hm hd'
   have := ipow_mono (p := p) (by have := IsP.pos (p := p); omega) (show 1 ≤ d by omega)
   omega
  ·have h4 := numOf_len (a := numP p (p ^ 1)) (b := q) (by
    have := (numP_monic (p := p) (n := 1) (by omega) (Int.le_refl _) (by have := ppow_pos (p := p) 1; omega)).2
    omega)
   have h5 : numOf (numP p (p ^ 1)) = p ^ 1 := numOf_numP ⟨Int.le_of_lt (ppow_pos 1), by have := ppow_le (p := p) (n := 1) (by omega); omega⟩
   omega, by simpa using hl⟩
theorem SEnd.fac {a0 a : Fp p} {out : Facs p} (h : SEnd a0 a out) (h0 : a0 ≠ 0) : Pe.fac a0 = if 2 ≤ a.len then out ++ [(mon a, 1)] else out := by
 apply fac_eq h0
 have hP := prodF_monic h.ok
 have hld : a0.ld = a.ld := by rw [h.eq, Pol.ld_mul h.ne hP.2, hP.1, Gq.mul_one]
 split
 ·rename_i hl
  obtain ⟨hi, hx⟩ := h.irr hl
  refine ⟨h.ok.snoc hi.mon (mon_monic h.ne) (Nat.le_refl 1) fun x hx' e => ?_, ?_, ?_⟩
  ·have := hx x hx'
   rw [e] at this; omega
  ·rw [List.pairwise_append]
   refine ⟨h.so, List.pairwise_singleton _ _, fun x hx' y hy => ?_⟩
   simp at hy; subst hy; exact hx x hx'
  ·rw [prodF_snoc, hld]
   show a0 = Pol.C a.ld * (prodF out * pw (mon a) 1)
   rw [pw_1, h.eq]
   conv => lhs; rw [eq_mon h.ne]
   exact ring_of [Pol.C a.ld, mon a, prodF out] rfl
 ·rename_i hl
  have hp := Pol.len_pos h.ne
  obtain ⟨c, hc, rfl⟩ := unit_of_len (show a.len = 1 by omega)
  refine ⟨h.ok, h.so, ?_⟩
  rw [hld, Pol.ld_C hc]; exact h.eq
end
end Pe

namespace Pe
open Go Gq
variable {T : Nat → Option Fn} {A : Oracle}
abbrev facSh8 : Sh := .st [.arr 64 .leaf, .leaf]
noncomputable abbrev facP {p : Int} (x : Fp p × Nat) : D := .st [.arr 64 .leaf, .leaf] [(D.arr 64 .leaf (ints .u8 (pad (row x.1)))), (D.int .i64 x.2)]
section
variable {p : Int} [IsP p]
theorem l_sSp0 {O : Oracle} (hdv : K_sDivide O) (hdg : K_sDeg O) {m : Fp p} {n : Nat} (hm : m ≠ 0) (hml : m.len = n + 1) (hn1 : 1 ≤ n) (hn : n ≤ 12) {st kv : V} {ob : Blk} (hst : st.refs = [1]) (hkv : kv.refs = []) : ∀ (f : Nat) (a : Fp p) (i : Nat), a.len ≤ f → a ≠ 0 → a.len ≤ 13 → i + f ≤ 1000 → ∃ (j : Nat) (r : Fp p), a = r * pw m j ∧ ¬ Dv m r ∧
 ((dn O 0 (.loop Z2v_L0) ⟨[(0, (.d (.int .i64 p))), (3, .ptr 0 []), (5, st), (6, (.d (.int .i64 n))), (7, kv), (8, .ptr 2 []), (9, (.d (.int .i64 i)))], [.box false (D.arr 64 .leaf (ints .u8 (pad (row a)))), ob, .box false (D.arr 64 .leaf (ints .u8 (pad (row m)))), .hole, .hole, .hole, .hole, .hole, .hole, .hole]⟩ =
   some (.exit 4, ⟨[(0, (.d (.int .i64 p))), (3, .ptr 0 []), (5, st), (6, (.d (.int .i64 n))), (7, kv), (8, .ptr 2 []), (9, (.d (.int .i64 ((i + j : Nat))))), (47, (.d (.bool false)))], [.box false (D.arr 64 .leaf (ints .u8 (pad (row r)))), ob, .box false (D.arr 64 .leaf (ints .u8 (pad (row m)))), .hole, .hole, .hole, .hole, .hole, .hole, .hole]⟩)) ∨
 (∃ q : List Int, dn O 0 (.loop Z2v_L0) ⟨[(0, (.d (.int .i64 p))), (3, .ptr 0 []), (5, st), (6, (.d (.int .i64 n))), (7, kv), (8, .ptr 2 []), (9, (.d (.int .i64 i)))], [.box false (D.arr 64 .leaf (ints .u8 (pad (row a)))), ob, .box false (D.arr 64 .leaf (ints .u8 (pad (row m)))), .hole, .hole, .hole, .hole, .hole, .hole, .hole]⟩ =
  some (.exit 4, ⟨[(0, (.d (.int .i64 p))), (3, .ptr 0 []), (5, st), (6, (.d (.int .i64 n))), (7, kv), (8, .ptr 2 []), (9, (.d (.int .i64 ((i + j : Nat))))), (10, .ptr 3 []), (57, (.d (.bool true)))], [.box false (D.arr 64 .leaf (ints .u8 (pad (row r)))), ob, .box false (D.arr 64 .leaf (ints .u8 (pad (row m)))), .box false (D.arr 64 .leaf (ints .u8 q)), .hole, .hole, .hole, .hole, .hole, .hole]⟩)))
 | 0, a, i, hf, ha, _, _ => absurd (Pol.len_zero_iff.1 (by omega)) ha
 | f + 1, a, i, hf, ha, hl13, hi => by
  have e1 := hdg p a (by omega)
  have hap := Pol.len_pos ha
  by_cases hlt : a.len < n + 1
  ·refine ⟨0, a, (Gq.mul_one a).symm, fun h => by have := h.len ha; omega, .inl (dn_stop ?_)⟩
   have h1 : ¬ (n : Int) ≤ (a.len : Int) - 1 := by omega
   simp -implicitDefEqProofs [Z2v_L0, dn_cond, e1, h1, hst, hkv]
  ·have h1 : (n : Int) ≤ (a.len : Int) - 1 := by omega
   have e2 := hdv p a m hm (by omega) (by omega)
   have hml2 : m.len ≤ 64 := by omega
   have hlr := Pol.len_mod a hm
   have e3 := beq_poly (p := p) (a := a % m) (b := 0) (by omega) (by rw [Pol.len_zero]; omega)
   rw [row_zero] at e3
   have e4 : pad (row (a % m)) = pad [] ↔ a % m = 0 := by
    have := pad_row_inj (p := p) (a := a % m) (b := 0) (by omega) (by rw [Pol.len_zero]; omega)
    rwa [row_zero] at this
   by_cases h0 : a % m = 0
   ·have hd := Pol.div_mod a m
    rw [h0, Gq.add_zero] at hd
    have hq : a / m ≠ 0 := fun h => ha (by rw [hd, h, Gq.zero_mul])
    have hl := Pol.len_mul hq hm
    rw [← hd] at hl
    rw [decide_eq_true (e4.2 h0)] at e3
    obtain ⟨j, r, g1, g2, g3⟩ := l_sSp0 (ob := ob) hdv hdg hm hml hn1 hn hst hkv f (a / m) (i + 1) (by omega) hq (by omega) (by omega)
    have w1 : IntKind.i64.wrap ((i : Int) + 1) = ((i + 1 : Nat) : Int) := (w64 (x := (i : Int) + 1) (by omega)).trans (by omega)
    have body : dn O 0 Z2v_L0 ⟨[(0, (.d (.int .i64 p))), (3, .ptr 0 []), (5, st), (6, (.d (.int .i64 n))), (7, kv), (8, .ptr 2 []), (9, (.d (.int .i64 i)))], [.box false (D.arr 64 .leaf (ints .u8 (pad (row a)))), ob, .box false (D.arr 64 .leaf (ints .u8 (pad (row m)))), .hole, .hole, .hole, .hole, .hole, .hole, .hole]⟩ =
     some (.normal, ⟨[(0, (.d (.int .i64 p))), (3, .ptr 0 []), (5, st), (6, (.d (.int .i64 n))), (7, kv), (8, .ptr 2 []), (9, (.d (.int .i64 ((i + 1 : Nat)))))], [.box false (D.arr 64 .leaf (ints .u8 (pad (row (a / m))))), ob, .box false (D.arr 64 .leaf (ints .u8 (pad (row m)))), .hole, .hole, .hole, .hole, .hole, .hole, .hole]⟩) := by
     generalize pad (row (a / m)) = R1 at *
     generalize pad (row (a % m)) = R2 at *
     generalize pad (row a) = PA at *
     generalize pad (row m) = PM at *
     simp -implicitDefEqProofs [Z2v_L0, dn_cond, e1, h1, e2, e3, w1, hst, hkv]
    refine ⟨j + 1, r, by rw [pw, ← Gq.mul_assoc, ← g1]; exact hd, g2, ?_⟩
    rw [show i + (j + 1) = i + 1 + j by omega]
    rcases g3 with g3 | ⟨q, g3⟩
    ·exact .inl (dn_round body g3)
    ·exact .inr ⟨q, dn_round body g3⟩
   ·rw [decide_eq_false (mt e4.1 h0)] at e3
    refine ⟨0, a, (Gq.mul_one a).symm, fun hdv' => h0 ((dv_iff_mod hm).1 hdv'), .inr ⟨pad (row (a / m)), dn_stop ?_⟩⟩
    generalize pad (row (a / m)) = R1 at *
    generalize pad (row (a % m)) = R2 at *
    generalize pad (row a) = PA at *
    generalize pad (row m) = PM at *
    simp -implicitDefEqProofs [Z2v_L0, dn_cond, e1, h1, e2, e3, hst, hkv]
theorem l_sSp1 {O : Oracle} (hdv : K_sDivide O) (hdg : K_sDeg O) (hcn : K_sCount O) (hof : K_sOf O) {a0 : Fp p} {n : Nat} (hn1 : 1 ≤ n) (hn : n ≤ 12) : ∀ (f : Nat) (k : Int) (a : Fp p) (out : Facs p) (cp : Option Nat), p ^ n ≤ k → k ≤ 2 * p ^ n → (2 * p ^ n - k).toNat ≤ f → SInv a0 k a out → ∃ (k' : Int) (a' : Fp p) (out' : Facs p) (cp' : Option Nat), SInv a0 k' a' out' ∧ p ^ n ≤ k' ∧ k' ≤ 2 * p ^ n ∧ (k' = 2 * p ^ n ∨ a'.len < 2 * n + 1) ∧
 dn O 0 (.loop Z2v_L1) ⟨[(0, (.d (.int .i64 p))), (3, .ptr 0 []), (5, .sl 1 [] 0 out.length cp), (6, (.d (.int .i64 n))), (7, (.d (.int .i64 k)))], [.box false (D.arr 64 .leaf (ints .u8 (pad (row a)))), .sl false facSh8 (out.map facP), .hole, .hole, .hole, .hole, .hole, .hole, .hole, .hole]⟩ =
  some (.exit 2, ⟨[(0, (.d (.int .i64 p))), (3, .ptr 0 []), (5, .sl 1 [] 0 out'.length cp'), (6, (.d (.int .i64 n))), (7, (.d (.int .i64 k'))), (38, (.d (.bool false)))], [.box false (D.arr 64 .leaf (ints .u8 (pad (row a')))), .sl false facSh8 (out'.map facP), .hole, .hole, .hole, .hole, .hole, .hole, .hole, .hole]⟩)
 | f, k, a, out, cp, hk1, hk2, hf, h => by
  have hb := ppow_le (p := p) hn
  have hpos := ppow_pos (p := p) n
  have hln := h.ln
  have hap := Pol.len_pos h.ne
  have e1 := k_sCount' hcn p n hn
  have e2 := hdg p a (by omega)
  have w1 : IntKind.i64.wrap (2 * p ^ n) = 2 * p ^ n := w64 (by omega)
  have w2 : IntKind.i64.wrap (2 * (n : Int)) = 2 * (n : Int) := w64 (by omega)
  by_cases hke : k = 2 * p ^ n
  ·refine ⟨k, a, out, cp, h, hk1, hk2, .inl hke, dn_stop ?_⟩
   have h1 : ¬ k < 2 * p ^ n := by omega
   generalize p ^ n = N at *
   generalize pad (row a) = PA at *
   generalize out.map facP = LD at *
   simp -implicitDefEqProofs [Z2v_L1, dn_cond, e1, w1, h1]
  ·have h1 : k < 2 * p ^ n := by omega
   by_cases hs : a.len < 2 * n + 1
   ·refine ⟨k, a, out, cp, h, hk1, hk2, .inr hs, dn_stop ?_⟩
    have h2 : ¬ 2 * (n : Int) ≤ (a.len : Int) - 1 := by omega
    generalize p ^ n = N at *
    generalize pad (row a) = PA at *
    generalize out.map facP = LD at *
    simp -implicitDefEqProofs [Z2v_L1, dn_cond, e1, e2, w1, w2, h1, h2]
   ·cases f with
    | zero => omega
    | succ f =>
     have h2 : 2 * (n : Int) ≤ (a.len : Int) - 1 := by omega
     obtain ⟨m1, m2⟩ := numP_monic hn hk1 h1
     have e3 := hof p k (by omega) (by omega)
     obtain ⟨j, r, g1, g2, g3⟩ := l_sSp0 hdv hdg (m := numP p k) m1.2 m2 hn1 hn (st := .sl 1 [] 0 out.length cp) (kv := (.d (.int .i64 k))) (ob := .sl false facSh8 (out.map facP)) rfl rfl a.len a 0 (Nat.le_refl _) h.ne (by omega) (by omega)
     have hstep := h.step hn1 hn hk1 h1 g1 g2
     have w3 : IntKind.i64.wrap (k + 1) = k + 1 := w64 (by omega)
     have e0 : ((0 : Nat) : Int) = 0 := rfl
     have h8 : (out.length + 1) * 72 ≤ 1099511627776 := by omega
     have ht : (out.map facP).take out.length = out.map facP := List.take_of_length_le (by simp)
     have hL : (out.map facP).length = out.length := by simp
     rw [e0, Nat.zero_add] at g3
     by_cases hj : j = 0
     ·subst hj
      rw [if_pos rfl] at hstep
      obtain ⟨k', a', out', cp', i1, i2, i3, i4, e⟩ := l_sSp1 hdv hdg hcn hof hn1 hn f (k + 1) r out cp (by omega) (by omega) (by omega) hstep
      refine ⟨k', a', out', cp', i1, i2, i3, i4, dn_round ?_ e⟩
      rw [e0] at g3
      generalize p ^ n = N at *
      generalize pad (row a) = PA at *
      generalize pad (row r) = PR at *
      generalize pad (row (numP p k)) = PM at *
      generalize out.map facP = LD at *
      rcases g3 with g3 | ⟨q, g3⟩
      ·simp -implicitDefEqProofs [Z2v_L1, dn_cond, e1, e2, e3, w1, w2, w3, h1, h2, g3]
      ·simp -implicitDefEqProofs [Z2v_L1, dn_cond, e1, e2, e3, w1, w2, w3, h1, h2, g3]
     ·rw [if_neg hj] at hstep
      obtain ⟨k', a', out', cp', i1, i2, i3, i4, e⟩ := l_sSp1 hdv hdg hcn hof hn1 hn f (k + 1) r (out ++ [(numP p k, j)]) none (by omega) (by omega) (by omega) hstep
      refine ⟨k', a', out', cp', i1, i2, i3, i4, dn_round ?_ e⟩
      have o1 : (out ++ [(numP p k, j)]).map facP = out.map facP ++ [facP (numP p k, j)] := by simp
      have o2 : (out ++ [(numP p k, j)]).length = out.length + 1 := by simp
      have hj0 : 0 < j := by omega
      rw [o1, o2]
      simp only [facP]
      have hfp : (out.map fun x : Fp p × Nat => D.st [.arr 64 .leaf, .leaf] [(D.arr 64 .leaf (ints .u8 (pad (row x.1)))), (D.int .i64 x.2)]) = out.map facP := rfl
      rw [hfp]
      generalize p ^ n = N at *
      generalize pad (row a) = PA at *
      generalize pad (row r) = PR at *
      generalize pad (row (numP p k)) = PM at *
      generalize out.map facP = LD at *
      rcases g3 with g3 | ⟨q, g3⟩
      ·simp -implicitDefEqProofs [Z2v_L1, dn_cond, e1, e2, e3, w1, w2, w3, h1, h2, g3, hj0, h8, ht, hL, List.replicate]
      ·simp -implicitDefEqProofs [Z2v_L1, dn_cond, e1, e2, e3, w1, w2, w3, h1, h2, g3, hj0, h8, ht, hL, List.replicate]
end
end Pe


namespace Pe
open Go Gq
variable {T : Nat → Option Fn} {A : Oracle}
section
variable {p : Int} [IsP p]
theorem l_sSp2 {O : Oracle} (hdv : K_sDivide O) (hdg : K_sDeg O) (hcn : K_sCount O) (hof : K_sOf O) {a0 : Fp p} : ∀ (f n : Nat) (a : Fp p) (out : Facs p) (cp : Option Nat), 1 ≤ n → n + f = 9 → (SInv a0 (p ^ n) a out ∨ (SEnd a0 a out ∧ a.len < 2 * n + 1)) → ∃ (n' : Int) (a' : Fp p) (out' : Facs p) (cp' : Option Nat), SEnd a0 a' out' ∧
 dn O 0 (.loop Z2v_L2) ⟨[(0, (.d (.int .i64 p))), (3, .ptr 0 []), (5, .sl 1 [] 0 out.length cp), (6, (.d (.int .i64 n)))], [.box false (D.arr 64 .leaf (ints .u8 (pad (row a)))), .sl false facSh8 (out.map facP), .hole, .hole, .hole, .hole, .hole, .hole, .hole, .hole]⟩ =
  some (.exit 0, ⟨[(0, (.d (.int .i64 p))), (3, .ptr 0 []), (5, .sl 1 [] 0 out'.length cp'), (6, (.d (.int .i64 n'))), (20, (.d (.bool false)))], [.box false (D.arr 64 .leaf (ints .u8 (pad (row a')))), .sl false facSh8 (out'.map facP), .hole, .hole, .hole, .hole, .hole, .hole, .hole, .hole]⟩)
 | f, n, a, out, cp, hn1, hf, h => by
  have hln : out.length + a.len ≤ 13 := by
   rcases h with h | h
   ·exact h.ln
   ·exact h.1.ln
  have hne : a ≠ 0 := by
   rcases h with h | h
   ·exact h.ne
   ·exact h.1.ne
  have e2 := hdg p a (by omega)
  have w2 : IntKind.i64.wrap (2 * (n : Int)) = 2 * (n : Int) := w64 (by omega)
  by_cases hs : a.len < 2 * n + 1
  ·have hE : SEnd a0 a out := by
    rcases h with h | h
    ·exact h.end' (by omega) (Int.le_refl _) hs
    ·exact h.1
   refine ⟨n, a, out, cp, hE, dn_stop ?_⟩
   have h2 : ¬ 2 * (n : Int) ≤ (a.len : Int) - 1 := by omega
   generalize pad (row a) = PA at *
   generalize out.map facP = LD at *
   simp -implicitDefEqProofs [Z2v_L2, dn_cond, e2, w2, h2]
  ·have hI : SInv a0 (p ^ n) a out := by
    rcases h with h | h
    ·exact h
    ·exact absurd h.2 hs
   cases f with
   | zero => omega
   | succ f =>
    have hpos := ppow_pos (p := p) n
    have h2 : 2 * (n : Int) ≤ (a.len : Int) - 1 := by omega
    have e1 := k_sCount' hcn p n (by omega)
    obtain ⟨k', a', out', cp', i1, i2, i3, i4, i5⟩ := l_sSp1 hdv hdg hcn hof hn1 (by omega) (2 * p ^ n - p ^ n).toNat (p ^ n) a out cp (Int.le_refl _) (by omega) (Nat.le_refl _) hI
    have hnext : SInv a0 (p ^ (n + 1)) a' out' ∨ (SEnd a0 a' out' ∧ a'.len < 2 * (n + 1) + 1) := by
     rcases i4 with i4 | i4
     ·rw [i4] at i1
      exact .inl (i1.next (by omega))
     ·exact .inr ⟨i1.end' (by omega) i2 i4, by omega⟩
    obtain ⟨n', a2, out2, cp2, j1, j2⟩ := l_sSp2 hdv hdg hcn hof f (n + 1) a' out' cp' (by omega) (by omega) hnext
    have w3 : IntKind.i64.wrap ((n : Int) + 1) = ((n + 1 : Nat) : Int) := (w64 (x := (n : Int) + 1) (by omega)).trans (by omega)
    refine ⟨n', a2, out2, cp2, j1, dn_round ?_ j2⟩
    generalize pad (row a) = PA at *
    generalize pad (row a') = PA' at *
    generalize out.map facP = LD at *
    generalize out'.map facP = LD' at *
    simp -implicitDefEqProofs [Z2v_L2, dn_cond, e1, e2, w2, w3, h2, i5]
end
def K_sSplit (O : Oracle) : Prop := ∀ (p : Int) [IsP p] (a : Fp p), a ≠ 0 → a.len ≤ 13 → ask O F2v [(D.int .i64 p), (D.arr 64 .leaf (ints .u8 (pad (row a))))] = some (.sl facSh8 ((fac a).map facP))
theorem k_sSplit (hT : T F2v = some Z2v) (hdv : K_sDivide (den T A)) (hdg : K_sDeg (den T A)) (hcn : K_sCount (den T A)) (hof : K_sOf (den T A)) (hinv : K_sInverse (den T A)) (had : K_sAdd (den T A)) : K_sSplit (den T A) := by
 intro p i a0 h0 hl0
 have hp7 := IsP.le (p := p)
 obtain ⟨n', a, out, cp, hE, e⟩ := l_sSp2 hdv hdg hcn hof 8 1 a0 [] (some 0) (Nat.le_refl 1) rfl (.inl (SInv.init h0 hl0))
 have hf := hE.fac h0
 have hln := hE.ln
 have hap := Pol.len_pos hE.ne
 have e1 := hdg p a (by omega)
 have e00 : (([] : Facs p).length : Nat) = 0 := rfl
 have e01 : ((1 : Nat) : Int) = 1 := rfl
 rw [e00, e01, List.map_nil] at e
 rw [hf]
 refine ask_of hT rfl ?_
 by_cases hl : 2 ≤ a.len
 ·rw [if_pos hl]
  obtain ⟨hirr, hlt⟩ := hE.irr hl
  have hr := rep_in a.ld
  have hld : rep a.ld ≠ 0 := fun h0 => Pol.ld_ne hE.ne (rep_eq_zero.1 h0)
  have e3 := hinv p (rep a.ld) (by omega) hr.2
  have hin := inv_in p (rep a.ld)
  have w1 : IntKind.i64.wrap (inv p (rep a.ld)) = inv p (rep a.ld) := w64 (by omega)
  have hbx : (pad (row a))[a.len - 1]? = some (rep a.ld) := by rw [pad_get _ _ (by omega), row_cf]; rfl
  have hbx' : ((a.len : Int) - 1).toNat = a.len - 1 := by omega
  have hbx2 : (1 : Int) ≤ (a.len : Int) := by omega
  have hbx4 : (1 : Int) < (a.len : Int) := by omega
  have hbx3 : a.len - 1 < 64 := by omega
  have e4 := had p (inv p (rep a.ld)) 0 a (by omega) (by omega) (by rw [Pol.len_zero]; omega) (by omega)
  rw [finv_rep _ (Pol.ld_ne hE.ne), Gq.zero_add, row_zero] at e4
  have e4' : ask (den T A) F26 [(D.int .i64 p), (D.arr 64 .leaf (ints .u8 (pad []))), (D.arr 64 .leaf (ints .u8 (pad (row a)))), (D.int .i64 (inv p (rep a.ld)))] = some (D.arr 64 .leaf (ints .u8 (pad (row (mon a))))) := e4
  have h8 : (out.length + 1) * 72 ≤ 1099511627776 := by omega
  have ht : (out.map facP).take out.length = out.map facP := List.take_of_length_le (by simp)
  have hL : (out.map facP).length = out.length := by simp
  have o1 : (out ++ [(mon a, 1)]).map facP = out.map facP ++ [facP (mon a, 1)] := by simp
  have w2 : IntKind.i64.wrap ((out.length : Int) - 1) = (out.length : Int) - 1 := w64 (by omega)
  have wm : IntKind.i64.wrap (-1) = -1 := w64 (by omega)
  rw [o1]
  have ht2 : (out.map facP ++ [facP (mon a, 1)]).take (out.length + 1) = out.map facP ++ [facP (mon a, 1)] := List.take_of_length_le (by simp)
  have hL2 : (out.map facP ++ [facP (mon a, 1)]).length = out.length + 1 := by simp
  by_cases ho : out = []
  ·subst ho
   simp only [facP] at *
   generalize pad (row a) = PA at *
   generalize pad (row (mon a)) = PM at *
   simp -implicitDefEqProofs [Z2v, Z2v_B, dn_cond, e, e1, e3, e4', w1, hbx, hbx', hbx2, hbx3, hbx4, wm, List.replicate]
  ·have hpo : 0 < out.length := List.length_pos_iff.2 ho
   obtain ⟨x, hxe⟩ : ∃ x, out[out.length - 1]? = some x := ⟨_, List.getElem?_eq_getElem (by omega)⟩
   have hx : (out.map facP)[out.length - 1]? = some (facP x) := by rw [List.getElem?_map, hxe]; rfl
   have hmem : x ∈ out := List.mem_of_getElem? hxe
   have hne : x.1 ≠ mon a := fun h => by
    have := hlt _ hmem
    rw [h] at this; omega
   have hxl : x.1.len ≤ 13 := by
    have h1 : Dv x.1 a0 := by
     obtain ⟨r, h2, _⟩ := prodF_out hE.ok (show (x.1, x.2) ∈ out from hmem)
     obtain ⟨k, hk⟩ : ∃ k, x.2 = k + 1 := ⟨x.2 - 1, by have := (hE.ok.irr _ hmem).2.2; omega⟩
     rw [hE.eq, h2, hk, pw]
     exact (((Dv.refl _).mul_left _).mul_right _).mul_left _
    have := h1.len h0
    omega
   have e6 := beq_poly (p := p) (a := x.1) (b := mon a) (by omega) (by rw [mon_len hE.ne]; omega)
   rw [decide_eq_false (mt (pad_row_inj (p := p) (by omega) (by rw [mon_len hE.ne]; omega)).1 hne)] at e6
   have t1 : (1 : Int) ≤ (out.length : Int) := by omega
   have t2 : ((out.length : Int) - 1).toNat = out.length - 1 := by omega
   have t3 : out.length - 1 < out.length := by omega
   simp only [facP] at hx ht2 ⊢
   generalize pad (row a) = PA at *
   generalize pad (row (mon a)) = PM at *
   generalize pad (row x.1) = PO at *
   clear hxe hmem hxl hne hlt o1 hf hE
   generalize out.map facP = LD at *
   have h9 : out.length - 1 < LD.length := by omega
   have hx' := Option.some.inj ((List.getElem?_eq_getElem h9).symm.trans hx)
   simp -implicitDefEqProofs [Z2v, Z2v_B, dn_cond, hx', e, e1, e3, e4', e6, w1, w2, hbx, hbx', hbx2, hbx3, hbx4, h8, ht, hL, t1, t2, t3, List.replicate]
   exact ht2
 ·rw [if_neg hl]
  have h1 : ¬ (1 : Int) < (a.len : Int) := by omega
  have ht : (out.map facP).take out.length = out.map facP := List.take_of_length_le (by simp)
  have hL : (out.map facP).length = out.length := by simp
  generalize pad (row a) = PA at *
  generalize out.map facP = LD at *
  simp -implicitDefEqProofs [Z2v, Z2v_B, dn_cond, e, e1, h1, ht, hL]
section
variable {p : Int} [IsP p]
end
end Pe

namespace Pe
open Go Gq
variable {T : Nat → Option Fn} {A : Oracle}
end Pe

namespace Pe
open Go Gq
variable {T : Nat → Option Fn} {A : Oracle}
end Pe



namespace Pe
open Go Gq
variable {T : Nat → Option Fn} {A : Oracle}
open Classical in
def K_isIrr (O : Oracle) : Prop := ∀ (p : Int) [IsP p] (a : Fp p), a.len ≤ 13 → ask O Ft [(D.int .i64 p), (D.sl .leaf (ints .i64 (row a)))] = some (D.bool (decide (Monic a ∧ Irr a)))
open Classical in
theorem k_isIrr (hT : T Ft = some Zt) (hld : C_lead (den T A)) (hdg : C_degree (den T A)) (hf : K_fac (den T A)) : K_isIrr (den T A) := by
 intro p i a hal
 have e1 := hld (row a) (by rw [row_length]; omega)
 rw [ld_row] at e1
 have e2 := hdg (row a) (by rw [row_length]; omega)
 rw [row_length] at e2
 refine ask_of hT rfl ?_
 by_cases h1 : a.ld = 1
 ·have h1' := (rep_one_iff a.ld).2 h1
  have hM := (monic_iff a).2 h1
  rw [h1'] at e1
  by_cases h2 : 2 ≤ a.len
  ·obtain ⟨f1, f2, e3⟩ := hf p a hM.2 hal
   have hiff := irr_fac hM f1
   have hlt : ¬ ((a.len : Int) - 1 < 1) := by omega
   have hlt2 : ¬ ((a.len : Int) < 2) := by omega
   have hlt3 : (2 : Int) ≤ a.len := by omega
   have key : (∃ q, fac a = [(q, 1)]) ↔ (Monic a ∧ Irr a) := ⟨fun h => ⟨hM, hiff.1 h⟩, fun h => hiff.2 h.2⟩
   generalize fac a = L at *
   cases L with
   | nil =>
    rw [decide_eq_false (fun h0 => by obtain ⟨q, h⟩ := key.2 h0; cases h)]
    simp -implicitDefEqProofs [Zt, Zt_B, dn_cond, e1, e2, e3, hlt]
   | cons x L =>
    cases L with
    | nil =>
     obtain ⟨q, k⟩ := x
     by_cases hk : k = 1
     ·subst hk
      rw [decide_eq_true (key.1 ⟨q, rfl⟩)]
      simp -implicitDefEqProofs [Zt, Zt_B, dn_cond, e1, e2, e3, hlt, facD]
     ·rw [decide_eq_false (fun h0 => by obtain ⟨q', h⟩ := key.2 h0; simp at h; exact hk h.2)]
      have hk' : ¬ ((k : Int) = 1) := by omega
      simp -implicitDefEqProofs [Zt, Zt_B, dn_cond, e1, e2, e3, hlt, facD, hk']
    | cons y L =>
     rw [decide_eq_false (fun h0 => by obtain ⟨q', h⟩ := key.2 h0; simp at h)]
     have hk' : ¬ (((L.length : Int) + 1 + 1) = 1) := by omega
     simp -implicitDefEqProofs [Zt, Zt_B, dn_cond, e1, e2, e3, hlt, hk']
  ·have hlt : ((a.len : Int) - 1 < 1) := by omega
   have hlt2 : ((a.len : Int) < 2) := by omega
   rw [decide_eq_false (fun h => h2 h.2.len)]
   simp -implicitDefEqProofs [Zt, Zt_B, dn_cond, e1, e2, hlt]
 ·have h1' := mt (rep_one_iff a.ld).1 h1
  rw [decide_eq_false (fun h => h1 h.1.1)]
  simp -implicitDefEqProofs [Zt, Zt_B, dn_cond, e1, h1']
structure Fld {p : Int} [IsP p] (m : Fp p) : Prop where
 mon : Monic m
 two : 2 ≤ m.len
 five : m.len ≤ 5
 irr : Irr m
end Pe


namespace Pe
open Go Gq
variable {T : Nat → Option Fn} {A : Oracle}
def C_toPoly (O : Oracle) : Prop := ∀ (l : List Int), Bytes l → l.length = 64 → ask O F1g [(D.arr 64 .leaf (ints .u8 l))] = some (D.arr 64 .leaf (ints .u8 l))
theorem l_toPoly {O : Oracle} {l : List Int} (hb : Bytes l) (hl : l.length = 64) {b1 : Blk} : ∀ (m i : Nat) (q : List Int), i + m = 64 → q.length = 64 → q.take i = l.take i →
 dn O 0 (.loop Z1g_L0) ⟨[(1, .ptr 0 []), (2, .ptr 1 []), (3, .ptr 2 []), (4, (.d (.int .i64 i)))], [.box false (D.arr 64 .leaf (ints .u8 l)), b1, .box false (D.arr 64 .leaf (ints .u8 q))]⟩ =
  some (.exit 0, ⟨[(1, .ptr 0 []), (2, .ptr 1 []), (3, .ptr 2 []), (4, (.d (.int .i64 64))), (6, (.d (.bool false)))], [.box false (D.arr 64 .leaf (ints .u8 l)), b1, .box false (D.arr 64 .leaf (ints .u8 l))]⟩)
 | 0, i, q, hi, hq, ht => by
  obtain rfl : i = 64 := by omega
  rw [List.take_of_length_le (by omega), List.take_of_length_le (by omega)] at ht
  subst ht
  exact dn_stop (by simp -implicitDefEqProofs [Z1g_L0, dn_cond])
 | m + 1, i, q, hi, hq, ht => by
  have hlt : i < 64 := by omega
  have hlti : (i : Int) < 64 := by omega
  have hlt' : i < l.length := by omega
  have hltq : i < q.length := by omega
  have hx : l[i] = cf l i := (cf_lt hlt').symm
  have w8' : IntKind.u8.wrap (cf l i) = cf l i := by rw [← hx]; exact w8 (hb _ (List.getElem_mem _))
  have w4 : IntKind.i64.wrap ((i : Int) + 1) = ((i + 1 : Nat) : Int) := (w64 (x := (i : Int) + 1) (by omega)).trans (by omega)
  have hs : ints .u8 (q.set i (cf l i)) = (ints .u8 q).set i (D.int .u8 (cf l i)) := by unfold ints; rw [List.map_set]
  refine dn_round ?_ (l_toPoly hb hl m (i + 1) (q.set i (cf l i)) (by omega) (by rw [List.length_set]; exact hq) (by
   rw [List.take_succ_eq_append_getElem hlt', List.take_succ_eq_append_getElem (by rw [List.length_set]; exact hltq), List.getElem_set_self, List.take_set, List.set_eq_of_length_le (by rw [List.length_take]; omega), ht, hx]))
  rw [hs]
  simp -implicitDefEqProofs [Z1g_L0, dn_cond, hlt, hlti, hx, hl, hq, w4]
theorem c_toPoly (hT : T F1g = some Z1g) : C_toPoly (den T A) := by
 intro l hb hl
 have e := l_toPoly (O := den T A) hb hl (b1 := .box false (.arr 64 .leaf (ints .u8 (pad [])))) 64 0 (List.replicate 64 0) rfl rfl (by simp)
 have e00 : ((0 : Nat) : Int) = 0 := rfl
 rw [e00] at e
 have hz : List.replicate 64 (0 : Int) = pad [] := rfl
 rw [hz] at e
 refine ask_of hT rfl ?_
 simp -implicitDefEqProofs [Z1g, Z1g_B, e]
end Pe



namespace Pe
open Go Gq
variable {T : Nat → Option Fn} {A : Oracle}
end Pe

namespace Pe
open Go Gq
variable {T : Nat → Option Fn} {A : Oracle}
section
variable {p : Int} [IsP p]
end
end Pe

namespace Pe
open Go Gq
variable {T : Nat → Option Fn} {A : Oracle}
section
variable {p : Int} [IsP p]
end
end Pe

namespace Pe
open Go Gq
variable {T : Nat → Option Fn} {A : Oracle}
theorem l_eqPoly {O : Oracle} {l : List Int} (hl : l.length = 64) : ∀ (k i : Nat), i + k = 64 →
 dn O 0 (.loop Z1f_L0) ⟨[(2, .ptr 0 []), (3, .ptr 1 []), (5, (.d (.int .i64 i)))], [.box false (D.arr 64 .leaf (ints .u8 l)), .box false (D.arr 64 .leaf (ints .u8 l))]⟩ = some (.exit 0, ⟨[(2, .ptr 0 []), (3, .ptr 1 []), (5, (.d (.int .i64 64))), (7, (.d (.bool false)))], [.box false (D.arr 64 .leaf (ints .u8 l)), .box false (D.arr 64 .leaf (ints .u8 l))]⟩)
 | 0, i, hi => by
  obtain rfl : i = 64 := by omega
  exact dn_stop (by simp -implicitDefEqProofs [Z1f_L0, dn_cond])
 | k + 1, i, hi => by
  have hlt : i < 64 := by omega
  have hlti : (i : Int) < 64 := by omega
  have hlt' : i < l.length := by omega
  have hx : l[i] = cf l i := (cf_lt hlt').symm
  have w4 : IntKind.i64.wrap ((i : Int) + 1) = ((i + 1 : Nat) : Int) := (w64 (x := (i : Int) + 1) (by omega)).trans (by omega)
  refine dn_round ?_ (l_eqPoly hl k (i + 1) (by omega))
  simp -implicitDefEqProofs [Z1f_L0, dn_cond, hlt, hlti, hl, hx, w4]
def C_eqPoly (O : Oracle) : Prop := ∀ l : List Int, l.length = 64 → ask O F1f [(D.arr 64 .leaf (ints .u8 l)), (D.arr 64 .leaf (ints .u8 l))] = some (D.bool true)
theorem c_eqPoly (hT : T F1f = some Z1f) : C_eqPoly (den T A) := by
 intro l hl
 have e := l_eqPoly (O := den T A) hl 64 0 rfl
 have e00 : ((0 : Nat) : Int) = 0 := rfl
 rw [e00] at e
 refine ask_of hT rfl ?_
 simp -implicitDefEqProofs [Z1f, Z1f_B, e, List.replicate]
end Pe

namespace Gq
def Pr (l : Nat) : Prop := 2 ≤ l ∧ ∀ d, d ∣ l → d = 1 ∨ d = l
theorem Pr.coprime {l n : Nat} (h : Pr l) (hn : ¬ l ∣ n) : Nat.Coprime l n := by
 rcases h.2 _ (Nat.gcd_dvd_left l n) with h1 | h1
 ·exact h1
 ·exact absurd (h1 ▸ Nat.gcd_dvd_right l n) hn
theorem pr_ex : ∀ (n : Nat), 2 ≤ n → ∃ l, Pr l ∧ l ∣ n := by
 intro n
 induction n using Nat.strongRecOn with
 | ind n ih =>
  intro hn
  by_cases h : Pr n
  ·exact ⟨n, h, Nat.dvd_refl n⟩
  ·have : ∃ d, d ∣ n ∧ d ≠ 1 ∧ d ≠ n := by
    apply Classical.byContradiction
    intro hno
    refine h ⟨hn, fun d hd => ?_⟩
    apply Classical.byContradiction
    intro h2
    exact hno ⟨d, hd, fun e => h2 (.inl e), fun e => h2 (.inr e)⟩
   obtain ⟨d, hd, h1, h2⟩ := this
   have hle := Nat.le_of_dvd (by omega) hd
   have h0 : d ≠ 0 := fun e => by
    rw [e] at hd
    have := Nat.eq_zero_of_zero_dvd hd
    omega
   obtain ⟨l, hl, hld⟩ := ih d (by omega) (by omega)
   exact ⟨l, hl, Nat.dvd_trans hld hd⟩
theorem Pr.dvd_mul {l a b : Nat} (h : Pr l) (hd : l ∣ a * b) : l ∣ a ∨ l ∣ b := by
 by_cases ha : l ∣ a
 ·exact .inl ha
 ·exact .inr ((h.coprime ha).dvd_of_dvd_mul_left hd)
theorem Pr.dvd_pr {l q : Nat} (h : Pr l) (hq : Pr q) (hd : l ∣ q) : l = q := by
 rcases hq.2 l hd with h1 | h1
 ·have := h.1; omega
 ·exact h1
theorem one_of {n : Nat} (h0 : 1 ≤ n) (h : ∀ l, Pr l → ¬ l ∣ n) : n = 1 := by
 apply Classical.byContradiction
 intro h1
 obtain ⟨l, hl, hd⟩ := pr_ex n (by omega)
 exact h l hl hd
theorem pow_dvd {l d : Nat} (h : Pr l) : ∀ e, d ∣ l ^ (e + 1) → d = l ^ (e + 1) ∨ d ∣ l ^ e
 | 0, hd => by
  rw [Nat.zero_add, Nat.pow_one] at hd ⊢
  rcases h.2 d hd with h1 | h1
  ·right; rw [h1]; exact Nat.one_dvd _
  ·exact .inl h1
 | e + 1, hd => by
  by_cases hl : l ∣ d
  ·obtain ⟨c, rfl⟩ := hl
   rw [Nat.pow_succ, Nat.mul_comm (l ^ (e + 1))] at hd
   have hc : c ∣ l ^ (e + 1) := Nat.dvd_of_mul_dvd_mul_left (by have := h.1; omega) hd
   rcases pow_dvd h e hc with h1 | h1
   ·left; rw [h1, Nat.pow_succ l (e + 1), Nat.mul_comm]
   ·right; rw [Nat.pow_succ l e, Nat.mul_comm l c]; exact Nat.mul_dvd_mul_right h1 l
  ·right
   rw [Nat.pow_succ] at hd
   exact ((h.coprime hl).symm).dvd_of_dvd_mul_right hd
theorem strip_ex {l : Nat} (h : Pr l) : ∀ n, 1 ≤ n → ∃ e r, n = l ^ e * r ∧ ¬ l ∣ r := by
 intro n
 induction n using Nat.strongRecOn with
 | ind n ih =>
  intro hn
  by_cases hd : l ∣ n
  ·obtain ⟨c, rfl⟩ := hd
   have h2 := h.1
   have hc : 1 ≤ c := by
    rcases Nat.eq_zero_or_pos c with h0 | h0
    ·rw [h0, Nat.mul_zero] at hn; omega
    ·exact h0
   have hlt : c < l * c := by
    have := Nat.mul_le_mul_right c h2
    omega
   obtain ⟨e, r, e1, e2⟩ := ih c hlt hc
   refine ⟨e + 1, r, ?_, e2⟩
   conv => lhs; rw [e1]
   rw [Nat.pow_succ, Nat.mul_comm (l ^ e) l, Nat.mul_assoc]
  ·exact ⟨0, n, by rw [Nat.pow_zero, Nat.one_mul], hd⟩
section
variable {R : Type} [CR R]
theorem pw_mod1 {x : R} {n k : Nat} (h : pw x n = 1) : pw x (k % n) = pw x k := by
 have e : pw x k = pw x (n * (k / n) + k % n) := by rw [Nat.div_add_mod]
 rw [e, pw_add, ← pw_pw, h, pw_one, one_mul]
theorem pw_gcd {x : R} (a b : Nat) (ha : pw x a = 1) (hb : pw x b = 1) : pw x (Nat.gcd a b) = 1 := by
 revert ha hb
 refine Nat.gcd.induction (P := fun a b => pw x a = 1 → pw x b = 1 → pw x (Nat.gcd a b) = 1) a b ?_ ?_
 ·intro n _ hb; rw [Nat.gcd_zero_left]; exact hb
 ·intro a b _ ih ha hb
  rw [Nat.gcd_rec]
  exact ih (by rw [pw_mod1 ha]; exact hb) ha
theorem pw_dvd {x : R} {n k : Nat} (h : pw x n = 1) (hd : n ∣ k) : pw x k = 1 := by
 obtain ⟨c, rfl⟩ := hd
 rw [← pw_pw, h, pw_one]
def Ord (x : R) (n : Nat) : Prop := ∀ k, pw x k = 1 ↔ n ∣ k
theorem Ord.self {x : R} {n : Nat} (h : Ord x n) : pw x n = 1 := (h n).2 (Nat.dvd_refl n)
theorem Ord.unique {x : R} {n m : Nat} (h : Ord x n) (h' : Ord x m) : n = m := Nat.dvd_antisymm ((h m).1 h'.self) ((h' n).1 h.self)
theorem ord_ex {x : R} : ∀ (N : Nat), 1 ≤ N → pw x N = 1 → ∃ n, 1 ≤ n ∧ Ord x n := by
 intro N
 induction N using Nat.strongRecOn with
 | ind N ih =>
  intro hN h
  by_cases hs : ∃ k, 1 ≤ k ∧ k < N ∧ pw x k = 1
  ·obtain ⟨k, h1, h2, h3⟩ := hs
   exact ih k h2 h1 h3
  ·refine ⟨N, hN, fun k => ⟨fun hk => ?_, fun hd => pw_dvd h hd⟩⟩
   have hm : pw x (k % N) = 1 := by rw [pw_mod1 h]; exact hk
   have hlt := Nat.mod_lt k (show 0 < N by omega)
   have h0 : k % N = 0 := by
    apply Classical.byContradiction
    intro hne
    exact hs ⟨k % N, by omega, hlt, hm⟩
   exact Nat.dvd_of_mod_eq_zero h0
theorem Ord.mul {a b : R} {m n : Nat} (ha : Ord a m) (hb : Ord b n) (h : Nat.Coprime m n) : Ord (a * b) (m * n) := fun k => by
 constructor
 ·intro hk
  have h1 : m ∣ k := by
   have e : pw a (k * n) = 1 := by
    have e1 : pw (a * b) (k * n) = 1 := by rw [← pw_pw, hk, pw_one]
    rw [pw_mul, pw_dvd hb.self (Nat.dvd_mul_left n k), mul_one] at e1
    exact e1
   exact h.dvd_of_dvd_mul_right ((ha _).1 e)
  have h2 : n ∣ k := by
   have e : pw b (k * m) = 1 := by
    have e1 : pw (a * b) (k * m) = 1 := by rw [← pw_pw, hk, pw_one]
    rw [pw_mul, pw_dvd ha.self (Nat.dvd_mul_left m k), one_mul] at e1
    exact e1
   exact h.symm.dvd_of_dvd_mul_right ((hb _).1 e)
  exact h.mul_dvd_of_dvd_of_dvd h1 h2
 ·intro hd
  rw [pw_mul, pw_dvd ha.self (Nat.dvd_trans (Nat.dvd_mul_right m n) hd), pw_dvd hb.self (Nat.dvd_trans (Nat.dvd_mul_left n m) hd), mul_one]
theorem ord_pp {y : R} {l e : Nat} (hl : Pr l) (h1 : pw y (l ^ (e + 1)) = 1) (h2 : pw y (l ^ e) ≠ 1) : Ord y (l ^ (e + 1)) := fun k => by
 constructor
 ·intro hk
  have hg := pw_gcd k (l ^ (e + 1)) hk h1
  rcases pow_dvd hl e (Nat.gcd_dvd_right k (l ^ (e + 1))) with h3 | h3
  ·exact h3 ▸ Nat.gcd_dvd_left k (l ^ (e + 1))
  ·exact absurd (pw_dvd hg h3) h2
 ·intro hd
  exact pw_dvd h1 hd
theorem ord_all {N : Nat} (hN : 1 ≤ N) (hall : ∀ x : R, x ≠ 0 → pw x N = 1) (h10 : (1 : R) ≠ 0) (hc : ∀ x y : R, x * y = 0 → x = 0 ∨ y = 0) (hr : ∀ k, 1 ≤ k → k < N → ∃ x : R, x ≠ 0 ∧ pw x k ≠ 1) : ∀ n, 1 ≤ n → n ∣ N → ∃ g : R, g ≠ 0 ∧ Ord g n := by
 have pwne : ∀ (x : R) (k : Nat), x ≠ 0 → pw x k ≠ 0 := by
  intro x k hx
  induction k with
  | zero => exact h10
  | succ k ih => exact fun h => (hc _ _ h).elim ih hx
 intro n
 induction n using Nat.strongRecOn with
 | ind n ih =>
  intro hn hd
  by_cases h1 : n = 1
  ·subst h1
   exact ⟨1, h10, fun k => ⟨fun _ => Nat.one_dvd k, fun _ => pw_one k⟩⟩
  ·obtain ⟨l, hl, hln⟩ := pr_ex n (by omega)
   obtain ⟨e, r, e1, e2⟩ := strip_ex hl n hn
   have h2 := hl.1
   cases e with
   | zero =>
    rw [Nat.pow_zero, Nat.one_mul] at e1
    exact absurd (e1 ▸ hln) e2
   | succ e =>
    have hr1 : 1 ≤ r := by
     rcases Nat.eq_zero_or_pos r with h0 | h0
     ·rw [h0, Nat.mul_zero] at e1; omega
     ·exact h0
    have hpos : 0 < l ^ e := Nat.pow_pos (by omega)
    have hlt : r < n := by
     have : 2 * r ≤ l ^ (e + 1) * r := Nat.mul_le_mul_right r (by
      rw [Nat.pow_succ]
      have := Nat.mul_le_mul_right l hpos
      omega)
     omega
    obtain ⟨g, hg0, hg⟩ := ih r hlt hr1 (Nat.dvd_trans ⟨l ^ (e + 1), by rw [Nat.mul_comm]; exact e1⟩ hd)
    obtain ⟨c, hcN⟩ : l ^ (e + 1) ∣ N := Nat.dvd_trans ⟨r, e1⟩ hd
    have hc1 : 1 ≤ c := by
     rcases Nat.eq_zero_or_pos c with h0 | h0
     ·rw [h0, Nat.mul_zero] at hcN; omega
     ·exact h0
    have hlc : l ^ e * c < N := by
     rw [hcN, Nat.pow_succ, Nat.mul_assoc, Nat.mul_comm l c, ← Nat.mul_assoc]
     have h3 : 0 < l ^ e * c := Nat.mul_pos hpos hc1
     have := Nat.mul_le_mul_left (l ^ e * c) h2
     omega
    obtain ⟨x, hx0, hx⟩ := hr (l ^ e * c) (Nat.mul_pos hpos hc1) hlc
    have hy : Ord (pw x c) (l ^ (e + 1)) := ord_pp hl (by rw [pw_pw, Nat.mul_comm, ← hcN, hall x hx0]) (by rw [pw_pw, Nat.mul_comm]; exact hx)
    refine ⟨pw x c * g, fun h => (hc _ _ h).elim (pwne x c hx0) hg0, ?_⟩
    rw [e1]
    refine hy.mul hg ?_
    have := hl.coprime e2
    exact Nat.Coprime.pow_left (e + 1) this
end
structure OrdI (n q rest order : Nat) (fin : Bool) : Prop where
 dv : n ∣ order
 pos : 1 ≤ order
 low : ∀ l, Pr l → l < q → ¬ l * n ∣ order ∧ ¬ l ∣ rest
 rel : ∃ c, order = rest * c ∧ (∀ l, Pr l → q < l → ¬ l ∣ c) ∧ (fin = false → Pr q → ¬ q ∣ c)
 fin : fin = true → ¬ q * n ∣ order
theorem OrdI.rest_pos {n q rest order : Nat} {f : Bool} (h : OrdI n q rest order f) : 1 ≤ rest := by
 obtain ⟨c, e, -⟩ := h.rel
 have := h.pos
 rcases Nat.eq_zero_or_pos rest with h0 | h0
 ·rw [h0, Nat.zero_mul] at e; omega
 ·exact h0
theorem OrdI.init {n N : Nat} (hN : 1 ≤ N) (h : n ∣ N) : OrdI n 2 N N false where
 dv := h
 pos := hN
 low := fun l hl h2 => by have := hl.1; omega
 rel := ⟨1, (Nat.mul_one N).symm, fun l hl _ hd => by have := hl.1; have := Nat.le_of_dvd (by omega) hd; omega, fun _ hq hd => by have := hq.1; have := Nat.le_of_dvd (by omega) hd; omega⟩
 fin := fun h => by cases h
theorem OrdI.prime {n q rest order : Nat} {f : Bool} (h : OrdI n q rest order f) (h2 : 2 ≤ q) (hd : q ∣ rest) : Pr q := by
 obtain ⟨l, hl, hlq⟩ := pr_ex q h2
 rcases Nat.lt_or_ge l q with h1 | h1
 ·exact absurd (Nat.dvd_trans hlq hd) (h.low l hl h1).2
 ·have := Nat.le_of_dvd (by omega) hlq
  obtain rfl : l = q := by omega
  exact hl
theorem OrdI.yes {n q r c' : Nat} {f : Bool} (h : OrdI n q (q * r) (q * c') f) (h2 : 2 ≤ q) (hd : n ∣ c') : OrdI n q r c' f where
 dv := hd
 pos := by
  have := h.pos
  rcases Nat.eq_zero_or_pos c' with h0 | h0
  ·rw [h0, Nat.mul_zero] at this; omega
  ·exact h0
 low := fun l hl h1 => by
  obtain ⟨a, b⟩ := h.low l hl h1
  exact ⟨fun e => a (Nat.dvd_trans e (Nat.dvd_mul_left c' q)), fun e => b (Nat.dvd_trans e (Nat.dvd_mul_left r q))⟩
 rel := by
  obtain ⟨c, e, h3, h4⟩ := h.rel
  refine ⟨c, ?_, h3, h4⟩
  rw [Nat.mul_assoc] at e
  exact Nat.eq_of_mul_eq_mul_left (by omega) e
 fin := fun hf e => h.fin hf (Nat.dvd_trans e (Nat.dvd_mul_left c' q))
theorem OrdI.no {n q r c' : Nat} {f : Bool} (h : OrdI n q (q * r) (q * c') f) (h2 : 2 ≤ q) (hd : ¬ n ∣ c') : OrdI n q r (q * c') true where
 dv := h.dv
 pos := h.pos
 low := fun l hl h1 => by
  obtain ⟨a, b⟩ := h.low l hl h1
  exact ⟨a, fun e => b (Nat.dvd_trans e (Nat.dvd_mul_left r q))⟩
 rel := by
  have hq := h.prime h2 (Nat.dvd_mul_right q r)
  obtain ⟨c, e, h3, _⟩ := h.rel
  refine ⟨q * c, by rw [e, Nat.mul_assoc, Nat.mul_left_comm], fun l hl h4 hl2 => ?_, fun hf => by cases hf⟩
  rcases hl.dvd_mul hl2 with h5 | h5
  ·have := hl.dvd_pr hq h5; omega
  ·exact h3 l hl h4 h5
 fin := fun _ e => hd (Nat.dvd_of_mul_dvd_mul_left (by omega) e)
theorem OrdI.next {n q rest order : Nat} {f : Bool} (h : OrdI n q rest order f) (h2 : 2 ≤ q) (hd : ¬ q ∣ rest) : OrdI n (q + 1) rest order false where
 dv := h.dv
 pos := h.pos
 low := fun l hl h1 => by
  rcases Nat.lt_or_ge l q with h3 | h3
  ·exact h.low l hl h3
  ·obtain rfl : l = q := by omega
   refine ⟨fun e => ?_, hd⟩
   cases f with
   | true => exact h.fin rfl e
   | false =>
    obtain ⟨c, e1, _, h5⟩ := h.rel
    have : l ∣ rest * c := e1 ▸ Nat.dvd_trans (Nat.dvd_mul_right l n) e
    rcases hl.dvd_mul this with h6 | h6
    ·exact hd h6
    ·exact h5 rfl hl h6
 rel := by
  obtain ⟨c, e1, h4, _⟩ := h.rel
  exact ⟨c, e1, fun l hl h5 => h4 l hl (by omega), fun _ hq => h4 _ hq (by omega)⟩
 fin := fun hf => by cases hf
theorem OrdI.done {n q rest order : Nat} (h : OrdI n q rest order false) (hq : rest < q) : order = n := by
 have hr : rest = 1 := one_of h.rest_pos fun l hl hd => by
  have := Nat.le_of_dvd h.rest_pos hd
  exact (h.low l hl (by omega)).2 hd
 obtain ⟨c, e1, h4, h5⟩ := h.rel
 rw [hr, Nat.one_mul] at e1
 obtain ⟨k, hk⟩ := h.dv
 have hk1 : k = 1 := one_of (by
  have := h.pos
  rcases Nat.eq_zero_or_pos k with h0 | h0
  ·rw [h0, Nat.mul_zero] at hk; omega
  ·exact h0) fun l hl hd => by
  have hln : l * n ∣ order := by
   rw [hk, Nat.mul_comm l n]; exact Nat.mul_dvd_mul_left n hd
  rcases Nat.lt_or_ge l q with h6 | h6
  ·exact (h.low l hl h6).1 hln
  ·have hlc : l ∣ c := e1 ▸ Nat.dvd_trans (Nat.dvd_mul_right l n) hln
   rcases Nat.lt_or_ge q l with h7 | h7
   ·exact h4 l hl h7 hlc
   ·obtain rfl : l = q := by omega
    exact h5 rfl hl hlc
 rw [hk, hk1, Nat.mul_one]
end Gq

namespace Pe
open Gq
section
variable {p : Int}
theorem root_out [IsP p] {m : Fp p} (hi : Irr m) {d : Nat} (hq : m.len = d + 1) (hd : p ^ d < 1000000000000) {k : Nat} (h1 : 1 ≤ k) (hk : k < p.toNat ^ d - 1) : ∃ x : Quo m, x ≠ 0 ∧ pw x k ≠ 1 := by
 apply Classical.byContradiction
 intro hno
 have hall : ∀ x : Quo m, x ≠ 0 → pw x k = 1 := fun x hx => by
  apply Classical.byContradiction
  intro h
  exact hno ⟨x, hx, h⟩
 have hone : (1 : Quo m) ≠ 0 := (fdQuo hi).one_ne
 let f : Nat → Quo m := fun i => (if i = k then 1 else 0) + (-1) * (if i = 0 then 1 else 0)
 have hf : f k ≠ 0 := by
  show (if k = k then (1 : Quo m) else 0) + (-1) * (if k = 0 then 1 else 0) ≠ 0
  rw [if_pos rfl, if_neg (by omega), Gq.mul_zero, Gq.add_zero]
  exact hone
 have := roots_le (K := Quo m) (fun x y => hi.quo_zero) k f (unitsL m d) hf (unitsL_nodup hq hd) fun y hy => by
  have hy0 := (unitsL_mem hq hd y).1 hy
  have e : sumR (fun i => f i * pw y i) (k + 1) = sumR (fun i => (if i = k then 1 else 0) * pw y i) (k + 1) + (-1) * sumR (fun i => (if i = 0 then 1 else 0) * pw y i) (k + 1) := by
   rw [← sumR_mul, ← sumR_add]
   congr 1
   funext i
   show ((if i = k then (1 : Quo m) else 0) + (-1) * (if i = 0 then 1 else 0)) * pw y i = _
   exact ring_of [(if i = k then (1 : Quo m) else 0), (if i = 0 then (1 : Quo m) else 0), pw y i] rfl
  rw [e, sumR_ind, sumR_ind, if_pos (by omega), if_pos (by omega), hall y hy0, show pw y 0 = 1 from rfl]
  exact ring_of ([] : List (Quo m)) rfl
 unfold unitsL at this
 rw [List.length_map, List.length_range] at this
 omega
theorem unit_gen [IsP p] {m : Fp p} (hi : Irr m) {d : Nat} (hq : m.len = d + 1) (hd : p ^ d < 1000000000000) {n : Nat} (h1 : 1 ≤ n) (hn : n ∣ p.toNat ^ d - 1) : ∃ g : Quo m, g ≠ 0 ∧ Ord g n := by
 have hN : 1 ≤ p.toNat ^ d - 1 := by
  have hl := hi.len
  have h2 : 2 ≤ p.toNat := by have := IsP.ge (p := p); omega
  have h3 : p.toNat ^ 1 ≤ p.toNat ^ d := Nat.pow_le_pow_right (by omega) (by omega)
  rw [Nat.pow_one] at h3
  omega
 exact ord_all hN (fun x hx => fermat hi hq hd hx) (fdQuo hi).one_ne (fun x y => hi.quo_zero) (fun k h2 h3 => root_out hi hq hd h2 h3) n h1 hn
def IsPrim (m : Fp p) (k : Nat) : Prop := 1 ≤ k ∧ (k : Int) < p ^ (m.len - 1) ∧ Ord (Quo.mk m (numP p k)) (p.toNat ^ (m.len - 1) - 1) ∧ ∀ j : Nat, 1 ≤ j → j < k → ¬ Ord (Quo.mk m (numP p j)) (p.toNat ^ (m.len - 1) - 1)
theorem least_ex {P : Nat → Prop} : ∀ (n : Nat), P n → ∃ k, k ≤ n ∧ P k ∧ ∀ j, j < k → ¬ P j := by
 intro n
 induction n using Nat.strongRecOn with
 | ind n ih =>
  intro h
  by_cases hs : ∃ j, j < n ∧ P j
  ·obtain ⟨j, h1, h2⟩ := hs
   obtain ⟨k, h3, h4, h5⟩ := ih j h1 h2
   exact ⟨k, by omega, h4, h5⟩
  ·exact ⟨n, Nat.le_refl n, h, fun j hj hp => hs ⟨j, hj, hp⟩⟩
theorem isPrim_ex [IsP p] {m : Fp p} (hi : Irr m) (hl : m.len ≤ 13) : ∃ k, IsPrim m k := by
 have h2 := hi.len
 have hd : p ^ (m.len - 1) < 1000000000000 := by
  have h3 := ipow_mono (p := p) (by have := IsP.pos (p := p); omega) (show m.len - 1 ≤ 12 by omega)
  have h4 : p ^ 12 ≤ 13841287201 := by rcases IsP.h (p := p) with h | h | h | h <;> subst h <;> decide
  omega
 have hN : 1 ≤ p.toNat ^ (m.len - 1) - 1 := by
  have h2' : 2 ≤ p.toNat := by have := IsP.ge (p := p); omega
  have h3 : p.toNat ^ 1 ≤ p.toNat ^ (m.len - 1) := Nat.pow_le_pow_right (by omega) (by omega)
  rw [Nat.pow_one] at h3
  omega
 obtain ⟨g, hg0, hg⟩ := unit_gen hi (d := m.len - 1) (by omega) hd hN (Nat.dvd_refl _)
 obtain ⟨a, rfl⟩ := Quo.ex g
 have hm0 : m ≠ 0 := hi.ne
 have hal := Pol.len_mod a hm0
 have hin := numOf_in (a % m)
 have hle : p ^ (a % m).len ≤ p ^ (m.len - 1) := ipow_mono (p := p) (by have := IsP.pos (p := p); omega) (by omega)
 have e := numP_numOf (a := a % m) (by omega)
 have hn0 : numOf (a % m) ≠ 0 := fun h0 => by
  rw [h0, numP_zero] at e
  exact hg0 (by rw [← Pol.mk_mod a m, ← e]; rfl)
 obtain ⟨k, h3, ⟨h4, h5⟩, h6⟩ := least_ex (P := fun k : Nat => 1 ≤ k ∧ Ord (Quo.mk m (numP p k)) (p.toNat ^ (m.len - 1) - 1)) (numOf (a % m)).toNat ⟨by omega, by
  rw [show (((numOf (a % m)).toNat : Nat) : Int) = numOf (a % m) by omega, e, Pol.mk_mod]
  exact hg⟩
 exact ⟨k, h4, by omega, h5, fun j h7 h8 h9 => h6 j h8 ⟨h7, h9⟩⟩
theorem IsPrim.unique {m : Fp p} {j k : Nat} (hj : IsPrim m j) (hk : IsPrim m k) : j = k := by
 rcases Nat.lt_or_ge j k with h | h
 ·exact absurd hj.2.2.1 (hk.2.2.2 j hj.1 h)
 ·rcases Nat.lt_or_ge k j with h2 | h2
  ·exact absurd hk.2.2.1 (hj.2.2.2 k hk.1 h2)
  ·omega
noncomputable def eulA (p : Int) : Int → Facs p → Int
 | out, [] => out
 | out, x :: L => eulA p (out * (p ^ (x.1.len - 1) - 1) * (p ^ (x.1.len - 1)) ^ (x.2 - 1)) L
noncomputable def eul [IsP p] (a : Fp p) : Int := eulA p 1 (fac a)
noncomputable def dgF : Facs p → Nat
 | [] => 0
 | x :: L => x.2 * (x.1.len - 1) + dgF L
theorem pw_len [IsP p] {q : Fp p} (h : Monic q) : ∀ k, (pw q k).len = k * (q.len - 1) + 1
 | 0 => by rw [Nat.zero_mul]; exact Pol.len_one
 | k + 1 => by
  have h1 := Pol.len_mul (Monic.pw h k).2 h.2
  have h2 := pw_len h k
  have h3 := Pol.len_pos h.2
  show (pw q k * q).len = _
  rw [Nat.succ_mul]; omega
theorem dgF_len [IsP p] : ∀ {L : Facs p}, FacOk L → (prodF L).len = dgF L + 1
 | [], _ => Pol.len_one
 | x :: L, h => by
  have hm := (h.irr x (by simp)).2.1
  have ht : FacOk L := ⟨fun y hy => h.irr y (by simp [hy]), h.dis.tail⟩
  have h1 := dgF_len ht
  have h2 := Pol.len_mul (Monic.pw hm x.2).2 (prodF_monic ht).2
  rw [pw_len hm] at h2
  rw [prodF_cons, dgF]; omega
theorem ppow_split (d k : Nat) : (p ^ d) ^ k = p ^ (d * k) := by rw [Int.pow_mul]
theorem eul_step [IsP p] {x : Fp p × Nat} (h2 : 1 ≤ x.2) {out : Int} {e : Nat} (h0 : 0 ≤ out) (hb : out ≤ p ^ e) (hl : 2 ≤ x.1.len) :
 0 ≤ out * (p ^ (x.1.len - 1) - 1) * (p ^ (x.1.len - 1)) ^ (x.2 - 1) ∧ out * (p ^ (x.1.len - 1) - 1) * (p ^ (x.1.len - 1)) ^ (x.2 - 1) ≤ p ^ (e + x.2 * (x.1.len - 1)) ∧ 0 ≤ out * (p ^ (x.1.len - 1) - 1) ∧ out * (p ^ (x.1.len - 1) - 1) ≤ p ^ (e + (x.1.len - 1)) := by
 have hp := IsP.pos (p := p)
 have hn1 : 1 ≤ p ^ (x.1.len - 1) := Int.pow_pos hp
 have he1 : 1 ≤ p ^ e := Int.pow_pos hp
 have hk1 : 0 ≤ (p ^ (x.1.len - 1)) ^ (x.2 - 1) := Int.le_of_lt (Int.pow_pos (by omega))
 have a0 : 0 ≤ out * (p ^ (x.1.len - 1) - 1) := Int.mul_nonneg h0 (by omega)
 have a1 : out * (p ^ (x.1.len - 1) - 1) ≤ p ^ e * p ^ (x.1.len - 1) := Int.mul_le_mul hb (by omega) (by omega) (by omega)
 refine ⟨Int.mul_nonneg a0 hk1, ?_, a0, by rw [Int.pow_add]; exact a1⟩
 have a2 : out * (p ^ (x.1.len - 1) - 1) * (p ^ (x.1.len - 1)) ^ (x.2 - 1) ≤ p ^ e * p ^ (x.1.len - 1) * (p ^ (x.1.len - 1)) ^ (x.2 - 1) := Int.mul_le_mul_of_nonneg_right a1 hk1
 rw [ppow_split, ← Int.pow_add, ← Int.pow_add] at a2
 rw [ppow_split]
 have e3 : e + (x.1.len - 1) + (x.1.len - 1) * (x.2 - 1) = e + x.2 * (x.1.len - 1) := by
  obtain ⟨k, hk⟩ : ∃ k, x.2 = k + 1 := ⟨x.2 - 1, by omega⟩
  rw [hk, Nat.add_sub_cancel, Nat.succ_mul, Nat.mul_comm k]; omega
 rwa [e3] at a2
end
end Pe

namespace Pe
open Go Gq
variable {T : Nat → Option Fn} {A : Oracle}
section
variable {p : Int} [IsP p]
theorem row_one_iff {a : Fp p} : ((row a).length = 1 ∧ cf (row a) 0 = 1) ↔ a = 1 := by
 rw [row_length]
 constructor
 ·rintro ⟨h1, h2⟩
  rw [Pol.eq_C (Pol.lt_iff.2 (Nat.le_of_eq h1))]
  have h3 : cf (row a) 0 = rep (a.c 0) := by
   rw [cf_lt (by rw [row_length]; omega)]
   unfold row
   simp
  rw [h3] at h2
  rw [(rep_one_iff _).1 h2, Pol.C_one]
 ·rintro rfl
  refine ⟨Pol.len_one, ?_⟩
  rw [cf_lt (by rw [row_length, Pol.len_one]; omega)]
  unfold row
  simp only [List.getElem_map, List.getElem_range]
  exact rep_one
end
def K_isOne (O : Oracle) : Prop := ∀ (p : Int) [IsP p] (a : Fp p), a.len < 1000000 → ask O Fb [(D.sl .leaf (ints .i64 (row a)))] = some (D.bool (decide (a.len = 1 ∧ cf (row a) 0 = 1)))
theorem k_isOne (hT : T Fb = some Zb) : K_isOne (den T A) := by
 intro p ip a ha
 have hL : (row a).length = a.len := row_length a
 refine ask_of hT rfl ?_
 generalize row a = Ra at *
 by_cases h1 : a.len = 1
 ·have h0 : 0 < Ra.length := by omega
  have hc : ∀ h : 0 < Ra.length, Ra[0]'h = cf Ra 0 := fun h => (cf_lt h).symm
  have hL1 : Ra.length = 1 := by omega
  simp -implicitDefEqProofs [Zb, Zb_B, hL1, h1, hc]
 ·have hL1 : ¬ Ra.length = 1 := by omega
  have hL2 : ¬ (Ra.length : Int) = 1 := by omega
  simp -implicitDefEqProofs [Zb, Zb_B, hL2, h1]
section
variable {p : Int} [IsP p]
theorem pow_one_iff {m a : Fp p} (h2 : 2 ≤ m.len) (k : Nat) : pw a k % m = 1 ↔ pw (Quo.mk m a) k = 1 := by
 have h0 : m ≠ 0 := fun h => by rw [h, Pol.len_zero] at h2; omega
 have e1 : (1 : Fp p) % m = 1 := Pol.mod_small (by rw [Pol.len_one]; omega)
 rw [← Quo.mk_pow, ← Quo.mk_one, ← Pol.mod_eq_iff h0, e1]
theorem l_order {O : Oracle} (h1 : K_isOne O) (hti : K_times O) (hre : K_rest O) {m a : Fp p} (hm2 : 2 ≤ m.len) (hml : m.len ≤ 64) (ha : a.len < m.len) {n : Nat} (hn : n ≤ 1000000000) (ho : Ord (Quo.mk m a) n) : ∀ (r k : Nat), k + r = n → 1 ≤ k →
 dn O 0 (.loop Zw_L0) ⟨[(0, (.d (.int .i64 p))), (1, (.d (.sl .leaf (ints .i64 (row a))))), (2, (.d (.sl .leaf (ints .i64 (row m))))), (7, (.d (.int .i64 k))), (8, (.d (.sl .leaf (ints .i64 (row (pw a k % m))))))], []⟩ =
  some (.exit 0, ⟨[(0, (.d (.int .i64 p))), (1, (.d (.sl .leaf (ints .i64 (row a))))), (2, (.d (.sl .leaf (ints .i64 (row m))))), (7, (.d (.int .i64 n))), (8, (.d (.sl .leaf (ints .i64 (row (pw a n % m)))))), (16, (.d (.bool false)))], []⟩)
 | 0, k, hk, h1k => by
  obtain rfl : k = n := by omega
  have h0 : m ≠ 0 := fun h => by rw [h, Pol.len_zero] at hm2; omega
  have hl := Pol.len_mod (pw a k) h0
  have e1 := h1 p (pw a k % m) (by omega)
  have hx : pw a k % m = 1 := (pow_one_iff hm2 k).2 ho.self
  rw [← row_length (pw a k % m), decide_eq_true (row_one_iff.2 hx)] at e1
  refine dn_stop ?_
  generalize row (pw a k % m) = Rx at *
  generalize row a = Ra at *
  generalize row m = Rm at *
  simp -implicitDefEqProofs [Zw_L0, dn_cond, e1]
 | r + 1, k, hk, h1k => by
  have h0 : m ≠ 0 := fun h => by rw [h, Pol.len_zero] at hm2; omega
  have hl := Pol.len_mod (pw a k) h0
  have e1 := h1 p (pw a k % m) (by omega)
  have hx : ¬ pw a k % m = 1 := fun h => by
   have := (ho k).1 ((pow_one_iff hm2 k).1 h)
   have := Nat.le_of_dvd (by omega) this
   omega
  rw [← row_length (pw a k % m), decide_eq_false (fun h => hx (row_one_iff.1 h))] at e1
  have e2 := hti p (pw a k % m) a (by omega) (by omega)
  have hlm : (pw a k % m * a).len < 5000 := by
   have := Pol.lt_mul (pw a k % m).lt_len a.lt_len
   have := Pol.len_le this
   omega
  have e3 := hre p (pw a k % m * a) m h0 hlm (by omega)
  have e4 : pw a k % m * a % m = pw a (k + 1) % m := by rw [Pol.mul_mod_left _ _ h0]; rfl
  rw [e4] at e3
  have w4 : IntKind.i64.wrap ((k : Int) + 1) = ((k + 1 : Nat) : Int) := (w64 (x := (k : Int) + 1) (by omega)).trans (by omega)
  have ih := l_order h1 hti hre hm2 hml ha hn ho r (k + 1) (by omega) (by omega)
  refine dn_round ?_ ih
  generalize row (pw a (k + 1) % m) = Ry at *
  generalize row (pw a k % m * a) = Rz at *
  generalize row (pw a k % m) = Rx at *
  generalize row a = Ra at *
  generalize row m = Rm at *
  simp -implicitDefEqProofs [Zw_L0, dn_cond, e1, e2, e3, w4]
end
def K_order (O : Oracle) : Prop := ∀ (p : Int) [IsP p] (a m : Fp p) (n : Nat), 2 ≤ m.len → m.len ≤ 64 → a.len < 5000 → 1 ≤ n → n ≤ 1000000000 → Ord (Quo.mk m a) n → ask O Fw [(D.int .i64 p), (D.sl .leaf (ints .i64 (row a))), (D.sl .leaf (ints .i64 (row m)))] = some (D.int .i64 n)
theorem k_order (hT : T Fw = some Zw) (h1 : K_isOne (den T A)) (hti : K_times (den T A)) (hre : K_rest (den T A)) : K_order (den T A) := by
 intro p ip a m n hm2 hml ha hn1 hn ho
 have h0 : m ≠ 0 := fun h => by rw [h, Pol.len_zero] at hm2; omega
 have hl := Pol.len_mod a h0
 have e1 := hre p a m h0 ha (by omega)
 have ho' : Ord (Quo.mk m (a % m)) n := by rw [Pol.mk_mod]; exact ho
 have e2 := l_order (O := den T A) h1 hti hre hm2 hml hl hn ho' (n - 1) 1 (by omega) (Nat.le_refl 1)
 have e11 : pw (a % m) 1 % m = a % m := by rw [pw_1]; exact Pol.mod_small hl
 have e01 : ((1 : Nat) : Int) = 1 := rfl
 rw [e11, e01] at e2
 refine ask_of hT rfl ?_
 generalize row (pw (a % m) n % m) = Rn at *
 generalize row (a % m) = Rx at *
 generalize row a = Ra at *
 generalize row m = Rm at *
 simp -implicitDefEqProofs [Zw, Zw_B, e1, e2]
section
variable {p : Int} [IsP p]
theorem norm_nat (d : Nat) : ((p.toNat ^ d : Nat) : Int) = p ^ d := pow_nat d
theorem num_ne {m : Fp p} (hi : Irr m) (hl : m.len ≤ 6) {k : Nat} (h1 : 1 ≤ k) (hk : (k : Int) < p ^ (m.len - 1)) : Quo.mk m (numP p (k : Int)) ≠ 0 := fun h => by
 have h2 := hi.len
 have h3 := ipow_mono (p := p) (by have := IsP.pos (p := p); omega) (show m.len - 1 ≤ 5 by omega)
 have h4 : p ^ 5 ≤ 16807 := by rcases IsP.h (p := p) with h | h | h | h <;> subst h <;> decide
 have hlen : (numP p (k : Int)).len < m.len := by
  have := Pol.len_le (numP_lt (p := p) (n := (k : Int)) ⟨by omega, by omega⟩ hk)
  omega
 have e := (Pol.mod_eq_iff hi.ne).2 (show Quo.mk m (numP p (k : Int)) = Quo.mk m 0 from h)
 rw [Pol.mod_small hlen, Pol.zero_mod hi.ne] at e
 have e2 := numOf_numP (p := p) (n := (k : Int)) ⟨by omega, by omega⟩
 rw [e, ← numP_zero, numOf_numP ⟨by omega, by omega⟩] at e2
 omega
theorem num_lenP {m : Fp p} (hi : Irr m) (hl : m.len ≤ 6) {k : Nat} (hk : IsPrim m k) : (numP p (k : Int)).len ≤ 5 := by
 have h2 := hi.len
 have h3 := ipow_mono (p := p) (by have := IsP.pos (p := p); omega) (show m.len - 1 ≤ 5 by omega)
 have h4 : p ^ 5 ≤ 16807 := by rcases IsP.h (p := p) with h | h | h | h <;> subst h <;> decide
 have hkb := hk.2.1
 have := Pol.len_le (numP_lt (p := p) (n := (k : Int)) ⟨by omega, by omega⟩ hkb)
 omega
theorem num_order {m : Fp p} (hi : Irr m) (hl : m.len ≤ 6) {k : Nat} (h1 : 1 ≤ k) (hk : (k : Int) < p ^ (m.len - 1)) : ∃ n, 1 ≤ n ∧ n ≤ 20000 ∧ Ord (Quo.mk m (numP p k)) n ∧ (n = p.toNat ^ (m.len - 1) - 1 ↔ Ord (Quo.mk m (numP p k)) (p.toNat ^ (m.len - 1) - 1)) := by
 have h2 := hi.len
 have h3 := ipow_mono (p := p) (by have := IsP.pos (p := p); omega) (show m.len - 1 ≤ 5 by omega)
 have h4 : p ^ 5 ≤ 16807 := by rcases IsP.h (p := p) with h | h | h | h <;> subst h <;> decide
 have hnn := norm_nat (p := p) (m.len - 1)
 have hx : Quo.mk m (numP p (k : Int)) ≠ 0 := num_ne hi hl h1 hk
 have hf := fermat hi (d := m.len - 1) (by omega) (by omega) hx
 obtain ⟨n, hn1, hn⟩ := ord_ex (p.toNat ^ (m.len - 1) - 1) (by omega) hf
 have hdv := (hn _).1 hf
 have hle := Nat.le_of_dvd (by omega) hdv
 refine ⟨n, hn1, by omega, hn, fun e => e ▸ hn, fun h => hn.unique h⟩
theorem l_prim {O : Oracle} (hnu : K_numbered O) (hor : K_order O) {m : Fp p} (hi : Irr m) (hl : m.len ≤ 6) {k : Nat} (hk : IsPrim m k) : ∀ (r n : Nat), n + r = k → 1 ≤ n →
 dn O 0 (.loop Zy_L0) ⟨[(0, (.d (.int .i64 p))), (1, (.d (.sl .leaf (ints .i64 (row m))))), (5, (.d (.int .i64 (p ^ (m.len - 1) - 1)))), (6, (.d (.int .i64 n)))], []⟩ =
  some (.ret, ⟨[(4, (.d (.sl .leaf (ints .i64 (row (numP p k))))))], []⟩)
 | 0, n, hn, h1 => by
  obtain rfl : n = k := by omega
  obtain ⟨q1, q2, q3, q4⟩ := hk
  have h2 := hi.len
  obtain ⟨o, o1, o2, o3, o4⟩ := num_order hi hl q1 q2
  have e1 := hnu p n (by omega) (by
   have h3 := ipow_mono (p := p) (by have := IsP.pos (p := p); omega) (show m.len - 1 ≤ 5 by omega)
   have h4 : p ^ 5 ≤ 16807 := by rcases IsP.h (p := p) with h | h | h | h <;> subst h <;> decide
   omega)
  have hnl := numP_len (p := p) n
  have e2 := hor p (numP p n) m o h2 (by omega) (by omega) o1 (by omega) o3
  have hoN := o4.2 q3
  have hnn := norm_nat (p := p) (m.len - 1)
  have hpp := ppow_pos (p := p) (m.len - 1)
  have heq : (o : Int) = p ^ (m.len - 1) - 1 := by omega
  refine dn_back ?_
  generalize row (numP p (n : Int)) = Rn at *
  generalize p ^ (m.len - 1) - 1 = N at *
  generalize row m = Rm at *
  simp -implicitDefEqProofs [Zy_L0, dn_cond, e1, e2, heq]
 | r + 1, n, hn, h1 => by
  have h2 := hi.len
  obtain ⟨o, o1, o2, o3, o4⟩ := num_order hi hl h1 (by have := hk.2.1; omega)
  have hkb : (k : Int) < 20000 := by
   have := hk.2.1
   have h3 := ipow_mono (p := p) (by have := IsP.pos (p := p); omega) (show m.len - 1 ≤ 5 by omega)
   have h4 : p ^ 5 ≤ 16807 := by rcases IsP.h (p := p) with h | h | h | h <;> subst h <;> decide
   omega
  have e1 := hnu p n (by omega) (by omega)
  have hnl := numP_len (p := p) n
  have e2 := hor p (numP p n) m o h2 (by omega) (by omega) o1 (by omega) o3
  have hne := mt o4.1 (hk.2.2.2 n h1 (by omega))
  have hnn := norm_nat (p := p) (m.len - 1)
  have hpp := ppow_pos (p := p) (m.len - 1)
  have heq : ¬ (o : Int) = p ^ (m.len - 1) - 1 := by omega
  have w4 : IntKind.i64.wrap ((n : Int) + 1) = ((n + 1 : Nat) : Int) := (w64 (x := (n : Int) + 1) (by omega)).trans (by omega)
  refine dn_round ?_ (l_prim hnu hor hi hl hk r (n + 1) (by omega) (by omega))
  generalize row (numP p (n : Int)) = Rn at *
  generalize p ^ (m.len - 1) - 1 = N at *
  generalize row m = Rm at *
  simp -implicitDefEqProofs [Zy_L0, dn_cond, e1, e2, heq, w4]
end
def K_primitive (O : Oracle) : Prop := ∀ (p : Int) [IsP p] (m : Fp p) (k : Nat), Irr m → m.len ≤ 6 → IsPrim m k → ask O Fy [(D.int .i64 p), (D.sl .leaf (ints .i64 (row m)))] = some (D.sl .leaf (ints .i64 (row (numP p k))))
theorem k_primitive (hT : T Fy = some Zy) (hdg : C_degree (den T A)) (hno : C_norm (den T A)) (hnu : K_numbered (den T A)) (hor : K_order (den T A)) : K_primitive (den T A) := by
 intro p ip m k hi hl hk
 have h2 := hi.len
 have h3 := ipow_mono (p := p) (by have := IsP.pos (p := p); omega) (show m.len - 1 ≤ 5 by omega)
 have h4 : p ^ 5 ≤ 16807 := by rcases IsP.h (p := p) with h | h | h | h <;> subst h <;> decide
 have h5 := ppow_pos (p := p) (m.len - 1)
 have e1 := hdg (row m) (by rw [row_length]; omega)
 rw [row_length, show (m.len : Int) - 1 = ((m.len - 1 : Nat) : Int) by omega] at e1
 have e2 := hno p (m.len - 1) 1152921504606846976 (by omega) (by omega)
 rw [normL_eq (m.len - 1) 1 (by omega) (by omega), Int.one_mul] at e2
 have w1 : IntKind.i64.wrap (p ^ (m.len - 1) - 1) = p ^ (m.len - 1) - 1 := w64 (by omega)
 have e3 := l_prim (O := den T A) hnu hor hi hl hk (k - 1) 1 (by have := hk.1; omega) (Nat.le_refl 1)
 have e01 : ((1 : Nat) : Int) = 1 := rfl
 rw [e01] at e3
 refine ask_of hT rfl ?_
 generalize row (numP p (k : Int)) = Rk at *
 generalize p ^ (m.len - 1) = N at *
 generalize row m = Rm at *
 generalize m.len - 1 = d at *
 simp -implicitDefEqProofs [Zy, Zy_B, e1, e2, e3, w1]
end Pe

namespace Pe
open Go Gq
variable {T : Nat → Option Fn} {A : Oracle}
def IsMod (p : Int) (l : List Int) : Prop := ∃ (_ : IsP p) (m : Fp p), l = pad (row m) ∧ Monic m ∧ 2 ≤ m.len ∧ m.len ≤ 6
theorem isMod_iff {p : Int} [IsP p] {m : Fp p} (hm : m.len ≤ 64) : IsMod p (pad (row m)) ↔ Monic m ∧ 2 ≤ m.len ∧ m.len ≤ 6 := by
 constructor
 ·rintro ⟨_, a, e, h1, h2, h3⟩
  obtain rfl := (pad_row_inj hm (by omega)).1 e
  exact ⟨h1, h2, h3⟩
 ·rintro ⟨h1, h2, h3⟩; exact ⟨_, m, rfl, h1, h2, h3⟩
open Classical in
noncomputable def modC (p : Int) (l : List Int) (ls : List (List Int)) : Int := if codeP p (ls ++ [l]) ≠ 0 then 1 else if IsMod p l then 0 else 2
open Classical in
def K_isModulus (O : Oracle) : Prop := ∀ (p : Int) [IsP p] (m : Fp p), m.len ≤ 64 → ask O Fa [(D.arr 64 .leaf (ints .u8 (pad (row m))))] = some (D.bool (decide (m.ld = 1 ∧ 2 ≤ m.len ∧ m.len ≤ 6)))
open Classical in
theorem k_isModulus (hT : T Fa = some Za) (hro : K_rowOf (den T A)) (hld : C_lead (den T A)) (hdg : C_degree (den T A)) (hwi : C_within (den T A)) : K_isModulus (den T A) := by
 intro p ip a hal
 have e2 := hro p a hal
 have e3 := hld (row a) (by rw [row_length]; omega)
 rw [ld_row] at e3
 have e4 := hdg (row a) (by rw [row_length]; omega)
 rw [row_length] at e4
 have e5 := hwi ((a.len : Int) - 1) 1 5
 have h1 := rep_one_iff a.ld
 refine ask_of hT rfl ?_
 by_cases h0 : a.ld = 1
 ·have h0' := h1.2 h0
  have h3 : decide ((1 : Int) ≤ (a.len : Int) - 1 ∧ (a.len : Int) - 1 ≤ 5) = decide (a.ld = 1 ∧ 2 ≤ a.len ∧ a.len ≤ 6) := decide_eq_decide.2 ⟨fun h => ⟨h0, by omega, by omega⟩, fun h => by omega⟩
  rw [h3] at e5
  rw [h0'] at e3
  generalize decide (a.ld = 1 ∧ 2 ≤ a.len ∧ a.len ≤ 6) = b at *
  generalize row a = Ra at *
  generalize (a.len : Int) - 1 = n at *
  simp -implicitDefEqProofs [Za, Za_B, e2, e3, e4, e5]
 ·have h0' := mt h1.1 h0
  rw [decide_eq_false (fun h : a.ld = 1 ∧ 2 ≤ a.len ∧ a.len ≤ 6 => h0 h.1)]
  generalize rep a.ld = x at *
  generalize row a = Ra at *
  simp -implicitDefEqProofs [Za, Za_B, e2, e3, h0']
theorem modC_bad {p : Int} {l : List Int} {ls : List (List Int)} (h : codeP p (ls ++ [l]) ≠ 0) : modC p l ls = 1 := by unfold modC; rw [if_pos h]
theorem codeP_01 (p : Int) (ls : List (List Int)) : codeP p ls = 0 ∨ codeP p ls = 1 := by
 unfold codeP; split
 ·exact .inl rfl
 ·exact .inr rfl
theorem codeP_last {p : Int} {l : List Int} {ls : List (List Int)} (h : codeP p (ls ++ [l]) = 0) : codeP p ls = 0 ∧ codeP p [l] = 0 := by
 unfold codeP at h
 split at h
 ·rename_i g
  have g2 := g.2
  rw [List.all_append, Bool.and_eq_true] at g2
  exact ⟨by unfold codeP; rw [if_pos ⟨g.1, g2.1⟩], by unfold codeP; rw [if_pos ⟨g.1, g2.2⟩]⟩
 ·cases h
open Classical in
theorem modC_good {p : Int} [IsP p] {m : Fp p} {ls : List (List Int)} (hm : m.len ≤ 64) (h : codeP p (ls ++ [pad (row m)]) = 0) : modC p (pad (row m)) ls = if Monic m ∧ 2 ≤ m.len ∧ m.len ≤ 6 then 0 else 2 := by
 unfold modC
 rw [if_neg (by simpa using h)]
 by_cases h2 : Monic m ∧ 2 ≤ m.len ∧ m.len ≤ 6
 ·rw [if_pos h2, if_pos ((isMod_iff hm).2 h2)]
 ·rw [if_neg h2, if_neg fun g => h2 ((isMod_iff hm).1 g)]
def H_modCode0 (O : Oracle) : Prop := ∀ (p : Int) (l : List Int), Bytes l → l.length = 64 → O Fh [(.d (.int .i64 p)), (.d (.arr 64 .leaf (ints .u8 l))), .d (.nils (.arr 64 .leaf))] [] = some ((.d (.int .i64 (modC p l []))), [], [])
theorem codeP_zero' {p : Int} {l : List Int} (hb : Bytes l) (hl : l.length = 64) (h : codeP p [l] = 0) : ∃ (_ : IsP p) (a : Fp p), a.len ≤ 64 ∧ l = pad (row a) := by
 rcases arg1 p hb hl with ⟨h1, h2⟩ | ⟨ip, a, hal, e⟩
 ·rw [h1] at h; cases h
 ·exact ⟨ip, a, hal, e⟩
open Classical in
theorem h_modCode0 (hT : T Fh = some Zh) (hpc : C_polysCode (den T A)) (him : K_isModulus (den T A)) : H_modCode0 (den T A) := by
 intro p l hb hl
 have e1 := hpc p [l] (by intro x hx; simp at hx; subst hx; exact ⟨hl, hb⟩) (by simp)
 rw [show List.map arr8 [l] = [(D.arr 64 .leaf (ints .u8 l))] from rfl] at e1
 rcases codeP_01 p [l] with hc | hc
 ·obtain ⟨ip, a, hal, rfl⟩ := codeP_zero' hb hl hc
  rw [modC_good hal (by simpa using hc)]
  rw [hc] at e1
  have e2 := him p a hal
  refine den_of hT rfl ?_
  by_cases h : Monic a ∧ 2 ≤ a.len ∧ a.len ≤ 6
  ·rw [decide_eq_true ⟨h.1.1, h.2⟩] at e2
   rw [if_pos h]
   generalize pad (row a) = Pa at *
   simp -implicitDefEqProofs [Zh, Zh_B, dn_cond, e1, e2, List.replicate]
  ·rw [decide_eq_false (fun g => h ⟨(monic_iff a).2 g.1, g.2⟩)] at e2
   rw [if_neg h]
   generalize pad (row a) = Pa at *
   simp -implicitDefEqProofs [Zh, Zh_B, dn_cond, e1, e2, List.replicate]
 ·rw [modC_bad (by simpa using fun h => by rw [hc] at h; cases h)]
  rw [hc] at e1
  refine den_of hT rfl ?_
  simp -implicitDefEqProofs [Zh, Zh_B, dn_cond, e1, List.replicate]
def C_sModulus (O : Oracle) : Prop := ∀ (p : Int) (l : List Int) (ls : List (List Int)), Bytes l → l.length = 64 → Arrs ls → ls.length < 1000 → ask O F2s [(D.int .i64 p), (D.arr 64 .leaf (ints .u8 l)), .sl (.arr 64 .leaf) (ls.map arr8)] = some (D.int .i64 (modC p l ls))
theorem codeP_app {p : Int} {l : List Int} {ls : List (List Int)} (h1 : codeP p ls = 0) (h2 : codeP p [l] = 0) : codeP p (ls ++ [l]) = 0 := by
 unfold codeP at h1 h2
 split at h1
 ·split at h2
  ·rename_i g1 g2
   unfold codeP
   rw [if_pos ⟨g1.1, by rw [List.all_append, Bool.and_eq_true]; exact ⟨g1.2, g2.2⟩⟩]
  ·cases h2
 ·cases h1
open Classical in
theorem c_sModulus (hT : T F2s = some Z2s) (hc : C_sCode (den T A)) (hmo : K_sMonic (den T A)) (hdg : K_sDeg (den T A)) (hin : C_sIn (den T A)) : C_sModulus (den T A) := by
 intro p l ls hb hl ha hn
 have e1 := hc p [l] (by intro x hx; simp at hx; subst hx; exact ⟨hl, hb⟩) (by simp)
 rw [show List.map arr8 [l] = [(D.arr 64 .leaf (ints .u8 l))] from rfl] at e1
 have e2 := hc p ls ha (by omega)
 refine ask_of hT rfl ?_
 rcases codeP_01 p [l] with h1 | h1
 ·rw [h1] at e1
  rcases codeP_01 p ls with h2 | h2
  ·rw [h2] at e2
   obtain ⟨ip, a, hal, rfl⟩ := codeP_zero' hb hl h1
   rw [modC_good hal (codeP_app h2 h1)]
   have e3 := hmo p a hal
   have e4 := hdg p a hal
   have e5 := hin ((a.len : Int) - 1) 1 5
   by_cases hM : Monic a
   ·rw [decide_eq_true hM] at e3
    by_cases h : 2 ≤ a.len ∧ a.len ≤ 6
    ·rw [decide_eq_true (show (1 : Int) ≤ (a.len : Int) - 1 ∧ (a.len : Int) - 1 ≤ 5 by omega)] at e5
     rw [if_pos ⟨hM, h⟩]
     generalize pad (row a) = Pa at *
     generalize ls.map arr8 = LD at *
     generalize (a.len : Int) - 1 = d at *
     simp -implicitDefEqProofs [Z2s, Z2s_B, dn_cond, e1, e2, e3, e4, e5, List.replicate]
    ·rw [decide_eq_false (show ¬ ((1 : Int) ≤ (a.len : Int) - 1 ∧ (a.len : Int) - 1 ≤ 5) by omega)] at e5
     rw [if_neg fun g => h g.2]
     generalize pad (row a) = Pa at *
     generalize ls.map arr8 = LD at *
     generalize (a.len : Int) - 1 = d at *
     simp -implicitDefEqProofs [Z2s, Z2s_B, dn_cond, e1, e2, e3, e4, e5, List.replicate]
   ·rw [decide_eq_false hM] at e3
    rw [if_neg fun g => hM g.1]
    generalize pad (row a) = Pa at *
    generalize ls.map arr8 = LD at *
    simp -implicitDefEqProofs [Z2s, Z2s_B, dn_cond, e1, e2, e3, List.replicate]
  ·rw [modC_bad (fun h => by rw [(codeP_last h).1] at h2; cases h2)]
   rw [h2] at e2
   generalize ls.map arr8 = LD at *
   simp -implicitDefEqProofs [Z2s, Z2s_B, dn_cond, e1, e2, List.replicate]
 ·rw [modC_bad (fun h => by rw [(codeP_last h).2] at h1; cases h1)]
  rw [h1] at e1
  generalize ls.map arr8 = LD at *
  simp -implicitDefEqProofs [Z2s, Z2s_B, dn_cond, e1, List.replicate]
end Pe

namespace Pe
open Go Gq
variable {T : Nat → Option Fn} {A : Oracle}
theorem l_sPowG {O : Oracle} {b : Int} (hb : 1 ≤ b) : ∀ (n : Nat) (out : Int), n < 100000 → 0 < out → out * b ^ n ≤ 1000000000000000 →
 dn O 0 (.loop Z2u_L0) ⟨[(0, (.d (.int .i64 b))), (1, (.d (.int .i64 n))), (5, (.d (.int .i64 out)))], []⟩ =
  some (.exit 0, ⟨[(0, (.d (.int .i64 b))), (1, (.d (.int .i64 0))), (5, (.d (.int .i64 (out * b ^ n)))), (7, (.d (.bool false)))], []⟩)
 | 0, out, _, h1, h2 => by
  rw [Int.pow_zero, Int.mul_one]
  exact dn_stop (by simp -implicitDefEqProofs [Z2u_L0, dn_cond])
 | n + 1, out, hn, h1, h2 => by
  have e : out * b ^ (n + 1) = out * b * b ^ n := by rw [Int.pow_succ, Int.mul_assoc, Int.mul_comm b]
  have h3 : 1 ≤ b ^ n := Int.pow_pos hb
  have h4 : 0 < out * b := Int.mul_pos h1 hb
  have h5 : out * b * 1 ≤ out * b * b ^ n := Int.mul_le_mul_of_nonneg_left h3 (by omega)
  rw [e] at h2 ⊢
  have h0 : (0 : Int) < (n : Int) + 1 := by omega
  have w1 : IntKind.i64.wrap (out * b) = out * b := w64 (by omega)
  have w2 : IntKind.i64.wrap (n : Int) = n := w64 (by omega)
  refine dn_round ?_ (l_sPowG hb n (out * b) (by omega) h4 h2)
  simp -implicitDefEqProofs [Z2u_L0, dn_cond, h0, w1, w2]
def K_sPowG (O : Oracle) : Prop := ∀ (b : Int) (n : Nat), 1 ≤ b → n < 100000 → b ^ n ≤ 1000000000000000 → ask O F2u [(D.int .i64 b), (D.int .i64 n)] = some (D.int .i64 (b ^ n))
theorem k_sPowG (hT : T F2u = some Z2u) : K_sPowG (den T A) := by
 intro b n hb hn h
 have e := l_sPowG (O := den T A) hb n 1 hn (by omega) (by omega)
 rw [Int.one_mul] at e
 refine ask_of hT rfl ?_
 simp -implicitDefEqProofs [Z2u, Z2u_B, e]
section
variable {p : Int} [IsP p]
theorem p12 : p ^ 12 ≤ 13841287201 := by rcases IsP.h (p := p) with h | h | h | h <;> subst h <;> decide
theorem pmono {a b : Nat} (h : a ≤ b) : p ^ a ≤ p ^ b := ipow_mono (p := p) (by have := IsP.pos (p := p); omega) h
theorem l_sEul {O : Oracle} (hdg : K_sDeg O) (hpo : K_sPowG O) {L : Facs p} (hL : ∀ x ∈ L, 2 ≤ x.1.len ∧ x.1.len ≤ 13 ∧ 1 ≤ x.2 ∧ x.2 ≤ 12) (hLl : L.length ≤ 12) : ∀ (k i e : Nat) (out : Int), i + k = L.length → 0 ≤ out → out ≤ p ^ e → e + dgF (L.drop i) ≤ 12 →
 dn O 0 (.loop Z2r_L0) ⟨[(0, (.d (.int .i64 p))), (5, .d (.sl facSh8 (L.map facP))), (6, (.d (.int .i64 out))), (7, (.d (.int .i64 i)))], [.hole]⟩ =
  some (.exit 0, ⟨[(0, (.d (.int .i64 p))), (5, .d (.sl facSh8 (L.map facP))), (6, (.d (.int .i64 (eulA p out (L.drop i))))), (7, (.d (.int .i64 L.length))), (15, (.d (.bool false)))], [.hole]⟩)
 | 0, i, e, out, hi, h1, h2, h3 => by
  obtain rfl : i = L.length := by omega
  rw [List.drop_length]
  have hlen : (L.map facP).length = L.length := by simp
  refine dn_stop ?_
  generalize L.map facP = LD at *
  simp -implicitDefEqProofs [Z2r_L0, dn_cond, eulA, hlen]
 | k + 1, i, e, out, hi, h1, h2, h3 => by
  have hlt : i < L.length := by omega
  obtain ⟨q1, q2, q3, q4⟩ := hL _ (List.getElem_mem hlt)
  rw [List.drop_eq_getElem_cons hlt, dgF] at h3
  rw [List.drop_eq_getElem_cons hlt, eulA]
  generalize hxe : L[i] = x at *
  obtain ⟨b1, b2, b3, b4⟩ := eul_step (p := p) q3 h1 h2 q1
  have hk1 : x.1.len - 1 ≤ x.2 * (x.1.len - 1) := by
   have := Nat.mul_le_mul_right (x.1.len - 1) q3
   omega
  have e1 := hdg p x.1 (by omega)
  rw [show ((x.1.len : Int) - 1) = ((x.1.len - 1 : Nat) : Int) by omega] at e1
  have g12 := p12 (p := p)
  have m1 := pmono (p := p) (show x.1.len - 1 ≤ 12 by omega)
  have m2 := pmono (p := p) (show e + x.2 * (x.1.len - 1) ≤ 12 by omega)
  have m3 := pmono (p := p) (show e + (x.1.len - 1) ≤ 12 by omega)
  have n1 := ppow_pos (p := p) (x.1.len - 1)
  have e2 := hpo p (x.1.len - 1) (by have := IsP.pos (p := p); omega) (by omega) (by omega)
  have hsp : (p ^ (x.1.len - 1)) ^ (x.2 - 1) ≤ p ^ 12 := by
   rw [ppow_split]
   refine pmono ?_
   have : (x.1.len - 1) * (x.2 - 1) ≤ x.2 * (x.1.len - 1) := by
    rw [Nat.mul_comm x.2]; exact Nat.mul_le_mul_left _ (by omega)
   omega
  have e3 := hpo (p ^ (x.1.len - 1)) (x.2 - 1) (by omega) (by omega) (by omega)
  have w1 : IntKind.i64.wrap (p ^ (x.1.len - 1) - 1) = p ^ (x.1.len - 1) - 1 := w64 (by omega)
  have w2 : IntKind.i64.wrap (out * (p ^ (x.1.len - 1) - 1)) = out * (p ^ (x.1.len - 1) - 1) := w64 (by omega)
  have w3 : IntKind.i64.wrap (out * (p ^ (x.1.len - 1) - 1) * (p ^ (x.1.len - 1)) ^ (x.2 - 1)) = out * (p ^ (x.1.len - 1) - 1) * (p ^ (x.1.len - 1)) ^ (x.2 - 1) := w64 (by omega)
  have w4 : IntKind.i64.wrap ((i : Int) + 1) = ((i + 1 : Nat) : Int) := (w64 (x := (i : Int) + 1) (by omega)).trans (by omega)
  have w5 : IntKind.i64.wrap ((x.2 : Int) - 1) = ((x.2 - 1 : Nat) : Int) := (w64 (x := (x.2 : Int) - 1) (by omega)).trans (by omega)
  have ih := l_sEul (O := O) hdg hpo hL hLl k (i + 1) (e + x.2 * (x.1.len - 1)) (out * (p ^ (x.1.len - 1) - 1) * (p ^ (x.1.len - 1)) ^ (x.2 - 1)) (by omega) b1 b2 (by omega)
  refine dn_round ?_ ih
  have hlen : (L.map facP).length = L.length := by simp
  have hget : ∀ h : i < (L.map facP).length, (L.map facP)[i]'h = facP x := fun h => by rw [List.getElem_map, hxe]
  clear ih b1 b2 b3 b4
  simp only [facP] at hget
  generalize L.map facP = LD at *
  generalize pad (row x.1) = PX at *
  generalize (p ^ (x.1.len - 1)) ^ (x.2 - 1) = N2 at *
  generalize p ^ (x.1.len - 1) = N1 at *
  generalize x.1.len - 1 = d at *
  generalize hk : x.2 - 1 = k2 at *
  generalize x.2 = kk at *
  simp -implicitDefEqProofs [Z2r_L0, dn_cond, hlt, hlen, hget, e1, e2, e3, w1, w2, w3, w4, w5]
theorem isFac_fac {m : Fp p} {L : Facs p} (h : IsFac m L) : IsFac m (fac m) := by
 unfold fac
 rw [dif_pos ⟨L, h⟩]
 exact Classical.choose_spec (⟨L, h⟩ : ∃ L, IsFac m L)
theorem IsFac.small {m : Fp p} (hm : m ≠ 0) (hl : m.len ≤ 13) {L : Facs p} (h : IsFac m L) : (∀ x ∈ L, 2 ≤ x.1.len ∧ x.1.len ≤ 13 ∧ 1 ≤ x.2 ∧ x.2 ≤ 12) ∧ dgF L + 1 = m.len := by
 refine ⟨fun x hx => ?_, ?_⟩
 ·obtain ⟨q1, q2, q3, _⟩ := h.len hm hx
  exact ⟨q1, by omega, (h.ok.irr x hx).2.2, by omega⟩
 ·rw [← dgF_len h.ok]
  conv => rhs; rw [h.eq]
  exact (Pol.len_Cmul (Pol.ld_ne hm) _).symm
end
def K_sEuler (O : Oracle) : Prop := ∀ (p : Int) [IsP p] (m : Fp p), m ≠ 0 → m.len ≤ 13 → ask O F2r [(D.int .i64 p), (D.arr 64 .leaf (ints .u8 (pad (row m))))] = some (D.int .i64 (eul m))
theorem k_sEuler (hT : T F2r = some Z2r) (hsp : K_sSplit (den T A)) (hf : K_fac (den T A)) (hdg : K_sDeg (den T A)) (hpo : K_sPowG (den T A)) : K_sEuler (den T A) := by
 intro p ip m hm hml
 obtain ⟨f1, f2, _⟩ := hf p m hm hml
 have f3 := hsp p m hm hml
 obtain ⟨g1, g2⟩ := f1.small hm hml
 have e := l_sEul (O := den T A) hdg hpo g1 f2 (fac m).length 0 0 1 (Nat.zero_add _) (by omega) (by rw [Int.pow_zero]; omega) (by rw [List.drop_zero]; omega)
 have e0 : ((0 : Nat) : Int) = 0 := rfl
 rw [e0, List.drop_zero] at e
 refine ask_of hT rfl ?_
 unfold eul
 generalize (fac m).map facP = LD at *
 generalize pad (row m) = PM at *
 simp -implicitDefEqProofs [Z2r, Z2r_B, f3, e]
theorem eul_irr {p : Int} [IsP p] {m : Fp p} (hi : Irr m) (hM : Monic m) : eul m = p ^ (m.len - 1) - 1 := by
 have h1 : fac m = [(m, 1)] := (isFac_fac (fac_irr hi hM)).unique hi.ne (fac_irr hi hM)
 unfold eul
 rw [h1]
 simp only [eulA]
 rw [Nat.sub_self, Int.pow_zero, Int.mul_one, Int.one_mul]
section
variable {p : Int} [IsP p]
theorem l_sOrd0 {O : Oracle} (hpw : K_sPowMod O) (h1 : K_sOne O) {a m : Fp p} (hm2 : 2 ≤ m.len) (hml : m.len ≤ 64) (hal : a.len ≤ 64) {n : Nat} (hn : Ord (Quo.mk m a) n) {q : Nat} (hq : 2 ≤ q) (hqb : q ≤ 1000000000000) : ∀ (rest order : Nat) (f : Bool) (x : Env), (x = [] ∨ x = [(16, (.d (.bool true)))] ∨ x = [(34, (.d (.bool false)))]) → OrdI n q rest order f → rest ≤ 1000000000000 → order ≤ 1000000000000 → ∃ (rest' order' : Nat) (f' : Bool), OrdI n q rest' order' f' ∧ ¬ q ∣ rest' ∧ rest' ≤ rest ∧ order' ≤ order ∧
 dn O 0 (.loop Z2t_L0) ⟨(0, (.d (.int .i64 p))) :: (4, .ptr 0 []) :: (5, .ptr 1 []) :: (7, (.d (.int .i64 order))) :: (8, (.d (.int .i64 rest))) :: (9, (.d (.int .i64 q))) :: x, [.box false (D.arr 64 .leaf (ints .u8 (pad (row a)))), .box false (D.arr 64 .leaf (ints .u8 (pad (row m))))]⟩ =
  some (.exit 2, ⟨[(0, (.d (.int .i64 p))), (4, .ptr 0 []), (5, .ptr 1 []), (7, (.d (.int .i64 order'))), (8, (.d (.int .i64 rest'))), (9, (.d (.int .i64 q))), (22, (.d (.bool false)))], [.box false (D.arr 64 .leaf (ints .u8 (pad (row a)))), .box false (D.arr 64 .leaf (ints .u8 (pad (row m))))]⟩) := by
 intro rest
 induction rest using Nat.strongRecOn with
 | ind rest ih =>
  intro order f x hx hI hr ho
  have h0 : m ≠ 0 := fun h => by rw [h, Pol.len_zero] at hm2; omega
  by_cases hd : q ∣ rest
  ·obtain ⟨r, rfl⟩ := hd
   obtain ⟨c, hc, -⟩ := hI.rel
   obtain ⟨c', rfl⟩ : ∃ c', order = q * c' := ⟨r * c, by rw [hc, Nat.mul_assoc]⟩
   have hrp : 1 ≤ r := by
    have := hI.rest_pos
    rcases Nat.eq_zero_or_pos r with h | h
    ·rw [h, Nat.mul_zero] at this; omega
    ·exact h
   have hlt : r < q * r := by
    have := Nat.mul_le_mul_right r hq
    omega
   have hcp : c' ≤ q * c' := Nat.le_mul_of_pos_left c' (by omega)
   have hrem : Int.tmod ((q * r : Nat) : Int) (q : Int) = 0 := by
    have : Int.tmod ((q * r : Nat) : Int) (q : Int) = (((q * r) % q : Nat) : Int) := rfl
    rw [this, Nat.mul_mod_right]; rfl
   have hquo : Int.tdiv ((q * r : Nat) : Int) (q : Int) = (r : Int) := by
    have : Int.tdiv ((q * r : Nat) : Int) (q : Int) = (((q * r) / q : Nat) : Int) := rfl
    rw [this, Nat.mul_div_cancel_left r (by omega)]
   have hquo2 : Int.tdiv ((q * c' : Nat) : Int) (q : Int) = (c' : Int) := by
    have : Int.tdiv ((q * c' : Nat) : Int) (q : Int) = (((q * c') / q : Nat) : Int) := rfl
    rw [this, Nat.mul_div_cancel_left c' (by omega)]
   have hq0 : ¬ (q : Int) = 0 := by omega
   have hq0' : ¬ q = 0 := by omega
   have w1 : IntKind.i64.wrap (r : Int) = r := w64 (by omega)
   have w2 : IntKind.i64.wrap (c' : Int) = c' := w64 (by omega)
   have e1 := hpw p a c' m h0 hal hml (by omega) (by omega)
   rw [show ((c' : Int)).toNat = c' from Int.toNat_natCast c'] at e1
   have e2 := h1 p
   have hlm := Pol.len_mod (pw a c') h0
   have hbq := beq_P (l := pad (row (pw a c' % m))) (m := pad (row (1 : Fp p))) (pad_length _) (pad_length _)
   have hiff : pad (row (pw a c' % m)) = pad (row (1 : Fp p)) ↔ n ∣ c' := by
    rw [pad_row_inj (by omega) (by rw [Pol.len_one]; omega), pow_one_iff hm2]
    exact hn c'
   by_cases hnc : n ∣ c'
   ·obtain ⟨rest', order', f', g1, g2, g3, g4, g5⟩ := ih r hlt c' f [] (.inl rfl) (hI.yes hq hnc) (by omega) (by omega)
    refine ⟨rest', order', f', g1, g2, by omega, by omega, dn_round ?_ g5⟩
    rw [decide_eq_true (hiff.2 hnc)] at hbq
    clear g5 ih hiff
    generalize pad (row (pw a c' % m)) = Pw at *
    generalize pad (row (1 : Fp p)) = P1 at *
    generalize pad (row a) = Pa at *
    generalize pad (row m) = Pm at *
    generalize ((q * r : Nat) : Int) = R at *
    generalize ((q * c' : Nat) : Int) = C at *
    rcases hx with rfl | rfl | rfl <;> simp -implicitDefEqProofs [Z2t_L0, dn_cond, hrem, hquo, hquo2, hq0', w1, w2, e1, e2, hbq]
   ·obtain ⟨rest', order', f', g1, g2, g3, g4, g5⟩ := ih r hlt (q * c') true [(34, (.d (.bool false)))] (.inr (.inr rfl)) (hI.no hq hnc) (by omega) ho
    refine ⟨rest', order', f', g1, g2, by omega, by omega, dn_round ?_ g5⟩
    rw [decide_eq_false fun h => hnc (hiff.1 h)] at hbq
    clear g5 ih hiff
    generalize pad (row (pw a c' % m)) = Pw at *
    generalize pad (row (1 : Fp p)) = P1 at *
    generalize pad (row a) = Pa at *
    generalize pad (row m) = Pm at *
    generalize ((q * r : Nat) : Int) = R at *
    generalize ((q * c' : Nat) : Int) = C at *
    rcases hx with rfl | rfl | rfl <;> simp -implicitDefEqProofs [Z2t_L0, dn_cond, hrem, hquo, hquo2, hq0', w1, w2, e1, e2, hbq]
  ·refine ⟨rest, order, f, hI, hd, Nat.le_refl _, Nat.le_refl _, dn_stop ?_⟩
   have hrem : Int.tmod (rest : Int) (q : Int) = ((rest % q : Nat) : Int) := rfl
   have hne : ¬ ((rest % q : Nat) : Int) = 0 := fun h => hd (Nat.dvd_of_mod_eq_zero (by omega))
   have hq0 : ¬ (q : Int) = 0 := by omega
   have hq0' : ¬ q = 0 := by omega
   generalize ((rest % q : Nat) : Int) = x at *
   generalize pad (row a) = Pa at *
   generalize pad (row m) = Pm at *
   rcases hx with rfl | rfl | rfl <;> simp -implicitDefEqProofs [Z2t_L0, dn_cond, hrem, hne, hq0']
theorem l_sOrd1 {O : Oracle} (hpw : K_sPowMod O) (h1 : K_sOne O) {a m : Fp p} (hm2 : 2 ≤ m.len) (hml : m.len ≤ 64) (hal : a.len ≤ 64) {n : Nat} (hn : Ord (Quo.mk m a) n) : ∀ (k q rest order : Nat), rest + 1 ≤ q + k → 2 ≤ q → q ≤ 1000000000000 → rest < 1000000000000 → order ≤ 1000000000000 → OrdI n q rest order false → ∃ (q' rest' : Nat),
 dn O 0 (.loop Z2t_L1) ⟨[(0, (.d (.int .i64 p))), (4, .ptr 0 []), (5, .ptr 1 []), (7, (.d (.int .i64 order))), (8, (.d (.int .i64 rest))), (9, (.d (.int .i64 q)))], [.box false (D.arr 64 .leaf (ints .u8 (pad (row a)))), .box false (D.arr 64 .leaf (ints .u8 (pad (row m))))]⟩ =
  some (.exit 0, ⟨[(0, (.d (.int .i64 p))), (4, .ptr 0 []), (5, .ptr 1 []), (7, (.d (.int .i64 n))), (8, (.d (.int .i64 rest'))), (9, (.d (.int .i64 q'))), (16, (.d (.bool false)))], [.box false (D.arr 64 .leaf (ints .u8 (pad (row a)))), .box false (D.arr 64 .leaf (ints .u8 (pad (row m))))]⟩)
 | 0, q, rest, order, hk, hq, hqb, hr, ho, hI => by
  have hlt : ¬ (q : Int) ≤ rest := by omega
  have hlt' : ¬ q ≤ rest := by omega
  rw [← hI.done (by omega)]
  refine ⟨q, rest, dn_stop ?_⟩
  generalize pad (row a) = Pa at *
  generalize pad (row m) = Pm at *
  simp -implicitDefEqProofs [Z2t_L1, dn_cond, hlt]
 | k + 1, q, rest, order, hk, hq, hqb, hr, ho, hI => by
  by_cases hle : q ≤ rest
  ·obtain ⟨r', o', f', g1, g2, g3, g4, g5⟩ := l_sOrd0 hpw h1 hm2 hml hal hn hq hqb rest order false [(16, (.d (.bool true)))] (.inr (.inl rfl)) hI (by omega) ho
   obtain ⟨q2, r2, ih⟩ := l_sOrd1 hpw h1 hm2 hml hal hn k (q + 1) r' o' (by omega) (by omega) (by omega) (by omega) (by omega) (g1.next hq g2)
   refine ⟨q2, r2, dn_round ?_ ih⟩
   have hle' : (q : Int) ≤ rest := by omega
   have w4 : IntKind.i64.wrap ((q : Int) + 1) = ((q + 1 : Nat) : Int) := (w64 (x := (q : Int) + 1) (by omega)).trans (by omega)
   clear ih
   generalize pad (row a) = Pa at *
   generalize pad (row m) = Pm at *
   simp -implicitDefEqProofs [Z2t_L1, dn_cond, hle', g5, w4]
  ·have hlt : ¬ (q : Int) ≤ rest := by omega
   rw [← hI.done (by omega)]
   refine ⟨q, rest, dn_stop ?_⟩
   generalize pad (row a) = Pa at *
   generalize pad (row m) = Pm at *
   simp -implicitDefEqProofs [Z2t_L1, dn_cond, hlt]
end
def K_sOrder (O : Oracle) : Prop := ∀ (p : Int) [IsP p] (a m : Fp p) (n : Nat), m ≠ 0 → 2 ≤ m.len → m.len ≤ 13 → a.len ≤ 64 → Ord (Quo.mk m a) n → 1 ≤ eul m → eul m < 100000000000 → n ∣ (eul m).toNat → ask O F2t [(D.int .i64 p), (D.arr 64 .leaf (ints .u8 (pad (row a)))), (D.arr 64 .leaf (ints .u8 (pad (row m))))] = some (D.int .i64 n)
theorem k_sOrder (hT : T F2t = some Z2t) (heu : K_sEuler (den T A)) (hpw : K_sPowMod (den T A)) (h1 : K_sOne (den T A)) : K_sOrder (den T A) := by
 intro p ip a m n hm hm2 hml hal hn he1 he hd
 have e1 := heu p m hm hml
 obtain ⟨q', r', e2⟩ := l_sOrd1 (O := den T A) hpw h1 hm2 (by omega) hal hn (eul m).toNat 2 (eul m).toNat (eul m).toNat (by omega) (Nat.le_refl 2) (by omega) (by omega) (by omega) (OrdI.init (by omega) hd)
 rw [show (((eul m).toNat : Nat) : Int) = eul m by omega] at e2
 have e02 : ((2 : Nat) : Int) = 2 := rfl
 rw [e02] at e2
 refine ask_of hT rfl ?_
 generalize eul m = E at *
 generalize pad (row a) = Pa at *
 generalize pad (row m) = Pm at *
 simp -implicitDefEqProofs [Z2t, Z2t_B, e1, e2]
end Pe

namespace Pe
open Go Gq
variable {T : Nat → Option Fn} {A : Oracle}
open Classical in
noncomputable def prD (p : Int) (l : List Int) : D :=
 if h : ∃ (_ : IsP p) (m : Fp p) (k : Nat), l = pad (row m) ∧ Monic m ∧ 2 ≤ m.len ∧ m.len ≤ 6 ∧ Irr m ∧ IsPrim m k then
  .tup [(D.arr 64 .leaf (ints .u8 (pad (row (numP p ((Classical.choose h.choose_spec.choose_spec : Nat) : Int)))))), (D.int .i64 0)]
 else .tup [(D.arr 64 .leaf (ints .u8 (pad []))), (D.int .i64 (if modC p l [] = 0 then 5 else modC p l []))]
theorem prD_good {p : Int} [ip : IsP p] {m : Fp p} {k : Nat} (hM : Monic m) (h2 : 2 ≤ m.len) (h6 : m.len ≤ 6) (hi : Irr m) (hk : IsPrim m k) : prD p (pad (row m)) = .tup [(D.arr 64 .leaf (ints .u8 (pad (row (numP p k))))), (D.int .i64 0)] := by
 have h : ∃ (_ : IsP p) (m' : Fp p) (k : Nat), pad (row m) = pad (row m') ∧ Monic m' ∧ 2 ≤ m'.len ∧ m'.len ≤ 6 ∧ Irr m' ∧ IsPrim m' k := ⟨ip, m, k, rfl, hM, h2, h6, hi, hk⟩
 unfold prD
 rw [dif_pos h]
 have hs := Classical.choose_spec h.choose_spec.choose_spec
 obtain ⟨s1, s2, s3, s4, s5, s6⟩ := hs
 have e := (pad_row_inj (by omega) (by omega)).1 s1
 generalize Classical.choose h.choose_spec.choose_spec = k' at s6 ⊢
 rw [← e] at s6
 rw [hk.unique s6]
open Classical in
theorem prD_bad {p : Int} {l : List Int} (h : modC p l [] ≠ 0) : prD p l = .tup [(D.arr 64 .leaf (ints .u8 (pad []))), (D.int .i64 (modC p l []))] := by
 unfold prD
 rw [dif_neg, if_neg h]
 rintro ⟨ip, m, k, rfl, h1, h2, h3, -⟩
 refine h ?_
 rw [modC_good (by omega) (by rw [List.nil_append, codeP_one]), if_pos ⟨h1, h2, h3⟩]
theorem prD_red {p : Int} [IsP p] {m : Fp p} (hm : m.len ≤ 64) (h : modC p (pad (row m)) [] = 0) (hi : ¬ Irr m) : prD p (pad (row m)) = .tup [(D.arr 64 .leaf (ints .u8 (pad []))), (D.int .i64 5)] := by
 unfold prD
 rw [dif_neg, if_pos h]
 rintro ⟨_, a, k, e, -, -, h6, ha, -⟩
 obtain rfl := (pad_row_inj hm (by omega)).1 e
 exact hi ha
theorem modC_zero {p : Int} {l : List Int} {ls : List (List Int)} (h : modC p l ls = 0) : ∃ (_ : IsP p) (m : Fp p), l = pad (row m) ∧ Monic m ∧ 2 ≤ m.len ∧ m.len ≤ 6 := by
 unfold modC at h
 split at h
 ·cases h
 ·split at h
  ·assumption
  ·cases h
def K_PrimitiveOf (O : Oracle) (F : Nat) : Prop := ∀ (p : Int) (l : List Int), Bytes l → l.length = 64 → ask O F [(D.int .i64 p), (D.arr 64 .leaf (ints .u8 l))] = some (prD p l)
open Classical in
theorem k_PrimitiveOf (hT : T F4 = some Z4) (hmc : H_modCode0 (den T A)) (hro : K_rowOf (den T A)) (hir : K_isIrr (den T A)) (hpr : K_primitive (den T A)) (hto : C_told (den T A)) : K_PrimitiveOf (den T A) F4 := by
 intro p l hb hl
 have e1 := hmc p l hb hl
 by_cases h0 : modC p l [] = 0
 ·have h0' := h0
  rw [h0] at e1
  obtain ⟨ip, m, rfl, hM, h2, h6⟩ := modC_zero h0
  have e2 := hro p m (by omega)
  have e3 := hir p m (by omega)
  by_cases hi : Irr m
  ·obtain ⟨k, hk⟩ := isPrim_ex hi (by omega)
   rw [prD_good hM h2 h6 hi hk]
   rw [decide_eq_true ⟨hM, hi⟩] at e3
   have e4 := hpr p m k hi h6 hk
   have hkl := num_lenP hi h6 hk
   have e5 := hto (row (numP p k)) (row_bytes _) (by rw [row_length]; omega)
   unfold toldD at e5
   rw [if_pos (by rw [row_length]; omega)] at e5
   refine ask_of hT rfl ?_
   generalize pad (row (numP p (k : Int))) = Pk at *
   generalize row (numP p (k : Int)) = Rk at *
   generalize pad (row m) = Pm at *
   generalize row m = Rm at *
   simp -implicitDefEqProofs [Z4, Z4_B, dn_cond, e1, e2, e3, e4, e5, List.replicate, List.idxOf, List.findIdx, List.findIdx.go]
  ·rw [prD_red (by omega) h0' hi]
   rw [decide_eq_false fun h => hi h.2] at e3
   refine ask_of hT rfl ?_
   generalize pad (row m) = Pm at *
   generalize row m = Rm at *
   simp -implicitDefEqProofs [Z4, Z4_B, dn_cond, e1, e2, e3, List.replicate, List.idxOf, List.findIdx, List.findIdx.go]
 ·rw [prD_bad h0]
  refine ask_of hT rfl ?_
  generalize modC p l [] = c at *
  simp -implicitDefEqProofs [Z4, Z4_B, dn_cond, e1, h0, List.replicate, List.idxOf, List.findIdx, List.findIdx.go]
section
variable {p : Int} [IsP p]
theorem l_sPrim {O : Oracle} (hof : K_sOf O) (hor : K_sOrder O) {m : Fp p} (hi : Irr m) (hM : Monic m) (hl : m.len ≤ 6) {k : Nat} (hk : IsPrim m k) : ∀ (r n : Nat), n + r = k → 1 ≤ n →
 dn O 0 (.loop Z25_L0) ⟨[(0, (.d (.int .i64 p))), (3, .ptr 0 []), (4, .ptr 1 []), (7, (.d (.int .i64 (p ^ (m.len - 1))))), (8, (.d (.int .i64 n)))], [.box false (D.arr 64 .leaf (ints .u8 (pad (row m)))), .box false (D.arr 64 .leaf (ints .u8 (pad []))), .hole]⟩ =
  some (.ret, ⟨[(4, .ptr 1 []), (5, (.d (.int .i64 0)))], [.hole, .box false (D.arr 64 .leaf (ints .u8 (pad (row (numP p k))))), .hole]⟩)
 | r, n, hn, h1 => by
  have h2 := hi.len
  obtain ⟨o, o1, o2, o3, o4⟩ := num_order hi hl h1 (by have := hk.2.1; omega)
  have hpb : p ^ (m.len - 1) ≤ 16807 := by
   have h3 := ipow_mono (p := p) (by have := IsP.pos (p := p); omega) (show m.len - 1 ≤ 5 by omega)
   have h4 : p ^ 5 ≤ 16807 := by rcases IsP.h (p := p) with h | h | h | h <;> subst h <;> decide
   omega
  have hpp := ppow_pos (p := p) (m.len - 1)
  have hkb := hk.2.1
  have e1 := hof p n (by omega) (by omega)
  have hnl := numP_len (p := p) n
  have heu := eul_irr hi hM
  have hge : 2 ≤ p ^ (m.len - 1) := by
   have := pmono (p := p) (show 1 ≤ m.len - 1 by omega)
   rw [Int.pow_one] at this
   have := IsP.ge (p := p)
   omega
  have hnn := norm_nat (p := p) (m.len - 1)
  have hx : Quo.mk m (numP p (n : Int)) ≠ 0 := num_ne hi (by omega) h1 (by omega)
  have hf := fermat hi (d := m.len - 1) (by omega) (by omega) hx
  have e2 := hor p (numP p n) m o hi.ne h2 (by omega) hnl o3 (by omega) (by omega) (by
   rw [heu]
   have := (o3 _).1 hf
   rw [show (p ^ (m.len - 1) - 1).toNat = p.toNat ^ (m.len - 1) - 1 by omega]
   exact this)
  have w1 : IntKind.i64.wrap (p ^ (m.len - 1) - 1) = p ^ (m.len - 1) - 1 := w64 (by omega)
  have w4 : IntKind.i64.wrap ((n : Int) + 1) = ((n + 1 : Nat) : Int) := (w64 (x := (n : Int) + 1) (by omega)).trans (by omega)
  match r, hn with
  | 0, hn =>
   obtain rfl : n = k := by omega
   have hoN := o4.2 hk.2.2.1
   have heq : (o : Int) = p ^ (m.len - 1) - 1 := by omega
   refine dn_back ?_
   generalize pad (row (numP p (n : Int))) = Pn at *
   generalize p ^ (m.len - 1) = N at *
   generalize pad (row m) = Pm at *
   simp -implicitDefEqProofs [Z25_L0, dn_cond, e1, e2, heq, w1]
  | r + 1, hn =>
   have hne := mt o4.1 (hk.2.2.2 n h1 (by omega))
   have heq : ¬ (o : Int) = p ^ (m.len - 1) - 1 := by omega
   refine dn_round ?_ (l_sPrim hof hor hi hM hl hk r (n + 1) (by omega) (by omega))
   generalize pad (row (numP p (n : Int))) = Pn at *
   generalize p ^ (m.len - 1) = N at *
   generalize pad (row m) = Pm at *
   simp -implicitDefEqProofs [Z25_L0, dn_cond, e1, e2, heq, w1, w4]
end
open Classical in
theorem k_sPrimitiveOf (hT : T F25 = some Z25) (hmc : C_sModulus (den T A)) (hir : K_sIrr (den T A)) (hdg : K_sDeg (den T A)) (hct : K_sCount (den T A)) (hof : K_sOf (den T A)) (hor : K_sOrder (den T A)) : K_PrimitiveOf (den T A) F25 := by
 intro p l hb hl
 have e1 := hmc p l [] hb hl (fun x hx => by cases hx) (by simp)
 rw [List.map_nil] at e1
 by_cases h0 : modC p l [] = 0
 ·have h0' := h0
  rw [h0] at e1
  obtain ⟨ip, m, rfl, hM, h2, h6⟩ := modC_zero h0
  have e3 := hir p m hM.2 (by omega)
  by_cases hi : Irr m
  ·obtain ⟨k, hk⟩ := isPrim_ex hi (by omega)
   rw [prD_good hM h2 h6 hi hk]
   rw [decide_eq_true hi] at e3
   have e4 := hdg p m (by omega)
   rw [show (m.len : Int) - 1 = ((m.len - 1 : Nat) : Int) by omega] at e4
   have e5 := hct p (m.len - 1) (by omega)
   have hpb : p ^ (m.len - 1) ≤ 16807 := by
    have h3 := ipow_mono (p := p) (by have := IsP.pos (p := p); omega) (show m.len - 1 ≤ 5 by omega)
    have h4 : p ^ 5 ≤ 16807 := by rcases IsP.h (p := p) with h | h | h | h <;> subst h <;> decide
    omega
   rw [Int.min_eq_left (by omega)] at e5
   have e6 := l_sPrim (O := den T A) hof hor hi hM h6 hk (k - 1) 1 (by have := hk.1; omega) (Nat.le_refl 1)
   have e01 : ((1 : Nat) : Int) = 1 := rfl
   rw [e01] at e6
   refine ask_of hT rfl ?_
   generalize pad (row (numP p (k : Int))) = Pk at *
   generalize p ^ (m.len - 1) = N at *
   generalize pad (row m) = Pm at *
   generalize m.len - 1 = d at *
   simp -implicitDefEqProofs [Z25, Z25_B, dn_cond, e1, e3, e4, e5, e6, List.replicate]
  ·rw [prD_red (by omega) h0' hi]
   rw [decide_eq_false hi] at e3
   refine ask_of hT rfl ?_
   generalize pad (row m) = Pm at *
   simp -implicitDefEqProofs [Z25, Z25_B, dn_cond, e1, e3, List.replicate]
 ·rw [prD_bad h0]
  refine ask_of hT rfl ?_
  generalize modC p l [] = c at *
  simp -implicitDefEqProofs [Z25, Z25_B, dn_cond, e1, h0, List.replicate]
def L_PrimitiveOf (O : Oracle) : Prop := ∀ (p : Int) (l : List Int), Bytes l → l.length = 64 → ask O F1e [(D.int .i64 p), (D.arr 64 .leaf (ints .u8 l))] = some (D.bool true)
theorem prD_form (p : Int) (l : List Int) : ∃ (r : List Int) (c : Int), prD p l = .tup [(D.arr 64 .leaf (ints .u8 r)), (D.int .i64 c)] ∧ r.length = 64 := by
 unfold prD
 split
 ·exact ⟨_, _, rfl, pad_length _⟩
 ·exact ⟨_, _, rfl, pad_length _⟩
theorem law_PrimitiveOf (hT : T F1e = some Z1e) (hp : C_toPoly (den T A)) (he : C_eqPoly (den T A)) (hi : K_PrimitiveOf (den T A) F4) (hs : K_PrimitiveOf (den T A) F25) : L_PrimitiveOf (den T A) := by
 intro p l hb hl
 have e1 := hp l hb hl
 have e2 := hi p l hb hl
 have e3 := hs p l hb hl
 obtain ⟨r, c, hf, hr⟩ := prD_form p l
 rw [hf] at e2 e3
 have e4 := he r hr
 refine ask_of hT rfl ?_
 simp -implicitDefEqProofs [Z1e, Z1e_B, dn_cond, e1, e2, e3, e4, List.replicate]
end Pe
