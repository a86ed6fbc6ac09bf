/-
  A part of the proof: an evaluator for a small form of the code, its soundness, and contracts of functions over it.
-/
import Derived.Test.YtmbifmkpdbiadaaGreatW1
import Derived.Test.YtmbifmkpdbiadaaGreatW2
import Derived.Test.YtmbifmkpdbiadaaGreatW3
import Derived.Test.YtmbifmkpdbiadaaGreatW4
import Derived.Test.YtmbifmkpdbiadaaGreatW5

namespace Pe
open Go Gq
variable {T : Nat → Option Fn} {A : Oracle}
section
variable {p : Int} [IsP p]
noncomputable def frIt (m : Fp p) : Nat → Fp p → Fp p
 | 0, a => a
 | k + 1, a => frIt m k (pw a p.toNat % m)
theorem frIt_len {m : Fp p} (hm : m ≠ 0) : ∀ (k : Nat) (a : Fp p), a.len < m.len → (frIt m k a).len < m.len
 | 0, _, h => h
 | k + 1, _a, _ => frIt_len hm k _ (Pol.len_mod _ hm)
theorem frIt_mk {m : Fp p} : ∀ (k : Nat) (a : Fp p), Quo.mk m (frIt m k a) = pw (Quo.mk m a) (p.toNat ^ k)
 | 0, a => by rw [Nat.pow_zero, pw_1]; rfl
 | k + 1, a => by
  show Quo.mk m (frIt m k (pw a p.toNat % m)) = _
  rw [frIt_mk k, Pol.mk_mod, Quo.mk_pow, pw_pw, Nat.pow_succ, Nat.mul_comm]
theorem frIt_mod {m : Fp p} (hm : Fld m) (k : Nat) {a : Fp p} (ha : a.len < m.len) : frIt m (k % (m.len - 1)) a = frIt m k a := by
 have h2 := hm.two
 have h5 := hm.five
 have small : p ^ (m.len - 1) < 1000000000000 := by
  have h1 := ipow_mono (p := p) (by have := IsP.pos (p := p); omega) (show m.len - 1 ≤ 12 by omega)
  have h7 := ppow_le (p := p) (n := 12) (by omega)
  omega
 have hd : ∀ x : Quo m, pw x (p.toNat ^ (m.len - 1)) = x := fermat_all hm.irr (by omega) small
 have hq : ∀ (q : Nat) (x : Quo m), pw x (p.toNat ^ ((m.len - 1) * q)) = x := by
  intro q
  induction q with
  | zero => intro x; rw [Nat.mul_zero, Nat.pow_zero, pw_1]
  | succ q ih => intro x; rw [Nat.mul_succ, Nat.pow_add, ← pw_pw, ih, hd]
 have h0 : m ≠ 0 := hm.mon.2
 have e : Quo.mk m (frIt m (k % (m.len - 1)) a) = Quo.mk m (frIt m k a) := by
  rw [frIt_mk, frIt_mk]
  have hk : k = (m.len - 1) * (k / (m.len - 1)) + k % (m.len - 1) := (Nat.div_add_mod k (m.len - 1)).symm
  have : p.toNat ^ k = p.toNat ^ ((m.len - 1) * (k / (m.len - 1))) * p.toNat ^ (k % (m.len - 1)) := by rw [← Nat.pow_add, ← hk]
  rw [this, ← pw_pw, hq]
 have e2 := (Pol.mod_eq_iff h0).2 e
 rwa [Pol.mod_small (frIt_len h0 _ _ ha), Pol.mod_small (frIt_len h0 _ _ ha)] at e2
noncomputable def invm (m a : Fp p) : Fp p := (Pol.bezout a m).2.1 % m
theorem invm_ok {m a : Fp p} (hm : Fld m) (ha : a ≠ 0) (hal : a.len < m.len) : Quo.mk m (invm m a) * Quo.mk m a = 1 := by
 have h0 : m ≠ 0 := hm.mon.2
 have e := Pol.bezout_eq (a := a) (b := m) (.inl ha)
 have hg : Pol.gcd a m = 1 := by
  have h1 := Pol.gcd_monic (a := a) (b := m) (.inl ha)
  have h2 := Pol.gcd_dv_left (a := a) (b := m) (.inl ha)
  have h3 := Pol.gcd_dv_right (a := a) (b := m) (.inl ha)
  refine h1.eq_one ?_
  rcases hm.irr.dv h3 with h | h
  ·exact h
  ·have := h2.len ha
   omega
 rw [hg] at e
 unfold invm
 rw [Pol.mk_mod]
 have : Quo.mk m ((Pol.bezout a m).2.1 * a + (Pol.bezout a m).2.2 * m) = Quo.mk m 1 := by rw [e]
 rw [Quo.mk_add, Quo.mk_mul, Quo.mk_mul] at this
 have hm0 : Quo.mk m m = 0 := dv_iff_mk.1 (Dv.refl m)
 rw [hm0, Gq.mul_zero, Gq.add_zero] at this
 exact this
end
theorem prod_len {p : Int} [IsP p] {a b : Fp p} {n : Nat} (ha : a.len ≤ n) (hb : b.len ≤ n) : (a * b).len ≤ 2 * n := by
 by_cases h : a = 0
 ·rw [h, Gq.zero_mul, Pol.len_zero]; omega
 ·by_cases h2 : b = 0
  ·rw [h2, Gq.mul_zero, Pol.len_zero]; omega
  ·have := Pol.len_mul h h2; omega
def K_product (O : Oracle) : Prop := ∀ (p : Int) [IsP p] (m a b : Fp p), m ≠ 0 → m.len ≤ 64 → a.len ≤ 1000 → b.len ≤ 1000 → ask O Fg [fldD m, (D.sl .leaf (ints .i64 (row a))), (D.sl .leaf (ints .i64 (row b)))] = some (D.sl .leaf (ints .i64 (row (a * b % m))))
theorem k_product (hT : T Fg = some Zg) (ht : K_times (den T A)) (hr : K_rest (den T A)) : K_product (den T A) := by
 intro p ip m a b hm hml ha hb
 have e1 := ht p a b (by omega) (by omega)
 have hl := prod_len (n := 1000) ha hb
 have e2 := hr p (a * b) m hm (by omega) (by omega)
 refine ask_of hT rfl ?_
 simp -implicitDefEqProofs [Zg, Zg_B, e1, e2]
theorem l_frob {O : Oracle} (hpw : K_power O) {p : Int} [IsP p] {m : Fp p} (hm : m ≠ 0) (hml : m.len ≤ 64) {n : Nat} (hn : n < 1000000) : ∀ (k i : Nat) (a : Fp p), i + k = n → a.len ≤ 1000 →
 dn O 0 (.loop Ze_L0) ⟨[(1, (.d (.sl .leaf (ints .i64 (row a))))), (3, .ptr 0 []), (11, (.d (.int .i64 n))), (12, (.d (.int .i64 i)))], [.box false (fldD m)]⟩ =
  some (.exit 0, ⟨[(1, (.d (.sl .leaf (ints .i64 (row (frIt m k a)))))), (3, .ptr 0 []), (11, (.d (.int .i64 n))), (12, (.d (.int .i64 n))), (13, (.d (.bool false)))], [.box false (fldD m)]⟩)
 | 0, i, a, hi, ha => by
  obtain rfl : i = n := by omega
  exact dn_stop (by simp -implicitDefEqProofs [Ze_L0, dn_cond, frIt])
 | k + 1, i, a, hi, ha => by
  have hp := IsP.pos (p := p)
  have hp7 := IsP.le (p := p)
  have hlt : i < n := by omega
  have w4 : IntKind.i64.wrap ((i : Int) + 1) = ((i + 1 : Nat) : Int) := (w64 (x := (i : Int) + 1) (by omega)).trans (by omega)
  have e1 := hpw p a p m hm (by omega) (by omega) (by omega) (by omega)
  have hl := Pol.len_mod (pw a p.toNat) hm
  refine dn_round ?_ (l_frob hpw hm hml hn k (i + 1) (pw a p.toNat % m) (by omega) (by omega))
  simp -implicitDefEqProofs [Ze_L0, dn_cond, hlt, e1, w4]
def K_frob (O : Oracle) : Prop := ∀ (p : Int) [IsP p] (m a : Fp p) (k : Nat), 2 ≤ m.len → m.len ≤ 64 → a.len ≤ 1000 → k < 1000000 → ask O Fe [fldD m, (D.sl .leaf (ints .i64 (row a))), (D.int .i64 k)] = some (D.sl .leaf (ints .i64 (row (frIt m (k % (m.len - 1)) a))))
theorem k_frob (hT : T Fe = some Ze) (hpw : K_power (den T A)) (hdg : C_degree (den T A)) : K_frob (den T A) := by
 intro p ip m a k h2 hml ha hk
 have hm : m ≠ 0 := fun h => by rw [h, Pol.len_zero] at h2; omega
 have e1 := hdg (row m) (by rw [row_length]; omega)
 rw [row_length, show ((m.len : Int) - 1) = ((m.len - 1 : Nat) : Int) by omega] at e1
 have hlt := Nat.mod_lt k (show 0 < m.len - 1 by omega)
 have e2 := l_frob (O := den T A) hpw hm hml (n := k % (m.len - 1)) (by omega) (k % (m.len - 1)) 0 a (Nat.zero_add _) ha
 have e00 : ((0 : Nat) : Int) = 0 := rfl
 rw [e00] at e2
 have w1 : (k : Int).tmod ((m.len - 1 : Nat) : Int) = ((k % (m.len - 1) : Nat) : Int) := by rw [Int.tmod_eq_emod_of_nonneg (by omega)]; rfl
 have h0 : ((m.len - 1 : Nat) : Int) ≠ 0 := by omega
 refine ask_of hT rfl ?_
 generalize row (frIt m (k % (m.len - 1)) a) = R at *
 generalize ((k % (m.len - 1) : Nat) : Int) = n1 at *
 generalize ((m.len - 1 : Nat) : Int) = m1 at *
 simp -implicitDefEqProofs [Ze, Ze_B, e1, e2, w1, h0]
end Pe

namespace Pe
open Go Gq
variable {T : Nat → Option Fn} {A : Oracle}
section
variable {p : Int} [IsP p]
theorem one_ne_quo {m : Fp p} (h2 : 2 ≤ m.len) : (1 : Quo m) ≠ 0 := fun h => by
 have : Dv m 1 := dv_iff_mk.2 h
 have := this.len Pol.one_ne
 rw [Pol.len_one] at this
 omega
theorem pw_res {m c : Fp p} (hm : Fld m) (hc : c ≠ 0) (hcl : c.len < m.len) (k : Nat) : pw c k % m ≠ 0 ∧ (pw c k % m).len < m.len := by
 have h0 : m ≠ 0 := hm.mon.2
 refine ⟨fun h => ?_, Pol.len_mod _ h0⟩
 have h1 : Quo.mk m (pw c k) = 0 := by rw [← Pol.mk_mod, h]; rfl
 rw [Quo.mk_pow] at h1
 have h2 := invm_ok hm hc hcl
 have h3 : pw (Quo.mk m (invm m c) * Quo.mk m c) k = 0 := by rw [pw_mul, h1, Gq.mul_zero]
 rw [h2, pw_one] at h3
 exact one_ne_quo hm.two h3
end
end Pe


namespace Pe
open Go Gq
variable {T : Nat → Option Fn} {A : Oracle}
def C_toPoly (O : Oracle) : Prop := ∀ (l : List Int), Bytes l → l.length = 64 → ask O F1t [(D.arr 64 .leaf (ints .u8 l))] = some (D.arr 64 .leaf (ints .u8 l))
theorem l_toPoly {O : Oracle} {l : List Int} (hb : Bytes l) (hl : l.length = 64) {b1 : Blk} : ∀ (m i : Nat) (q : List Int), i + m = 64 → q.length = 64 → q.take i = l.take i →
 dn O 0 (.loop Z1t_L0) ⟨[(1, .ptr 0 []), (2, .ptr 1 []), (3, .ptr 2 []), (4, (.d (.int .i64 i)))], [.box false (D.arr 64 .leaf (ints .u8 l)), b1, .box false (D.arr 64 .leaf (ints .u8 q))]⟩ =
  some (.exit 0, ⟨[(1, .ptr 0 []), (2, .ptr 1 []), (3, .ptr 2 []), (4, (.d (.int .i64 64))), (6, (.d (.bool false)))], [.box false (D.arr 64 .leaf (ints .u8 l)), b1, .box false (D.arr 64 .leaf (ints .u8 l))]⟩)
 | 0, i, q, hi, hq, ht => by
  obtain rfl : i = 64 := by omega
  rw [List.take_of_length_le (by omega), List.take_of_length_le (by omega)] at ht
  subst ht
  exact dn_stop (by simp -implicitDefEqProofs [Z1t_L0, dn_cond])
 | m + 1, i, q, hi, hq, ht => by
  have hlt : i < 64 := by omega
  have hlti : (i : Int) < 64 := by omega
  have hlt' : i < l.length := by omega
  have hltq : i < q.length := by omega
  have hx : l[i] = cf l i := (cf_lt hlt').symm
  have w8' : IntKind.u8.wrap (cf l i) = cf l i := by rw [← hx]; exact w8 (hb _ (List.getElem_mem _))
  have w4 : IntKind.i64.wrap ((i : Int) + 1) = ((i + 1 : Nat) : Int) := (w64 (x := (i : Int) + 1) (by omega)).trans (by omega)
  have hs : ints .u8 (q.set i (cf l i)) = (ints .u8 q).set i (D.int .u8 (cf l i)) := by unfold ints; rw [List.map_set]
  refine dn_round ?_ (l_toPoly hb hl m (i + 1) (q.set i (cf l i)) (by omega) (by rw [List.length_set]; exact hq) (by
   rw [List.take_succ_eq_append_getElem hlt', List.take_succ_eq_append_getElem (by rw [List.length_set]; exact hltq), List.getElem_set_self, List.take_set, List.set_eq_of_length_le (by rw [List.length_take]; omega), ht, hx]))
  rw [hs]
  simp -implicitDefEqProofs [Z1t_L0, dn_cond, hlt, hlti, hx, hl, hq, w4]
theorem c_toPoly (hT : T F1t = some Z1t) : C_toPoly (den T A) := by
 intro l hb hl
 have e := l_toPoly (O := den T A) hb hl (b1 := .box false (.arr 64 .leaf (ints .u8 (pad [])))) 64 0 (List.replicate 64 0) rfl rfl (by simp)
 have e00 : ((0 : Nat) : Int) = 0 := rfl
 rw [e00] at e
 have hz : List.replicate 64 (0 : Int) = pad [] := rfl
 rw [hz] at e
 refine ask_of hT rfl ?_
 simp -implicitDefEqProofs [Z1t, Z1t_B, e]
end Pe

namespace Pe
open Go Gq
variable {T : Nat → Option Fn} {A : Oracle}
theorem l_eqPoly {O : Oracle} {l : List Int} (hl : l.length = 64) : ∀ (k i : Nat), i + k = 64 →
 dn O 0 (.loop Z1o_L0) ⟨[(2, .ptr 0 []), (3, .ptr 1 []), (5, (.d (.int .i64 i)))], [.box false (D.arr 64 .leaf (ints .u8 l)), .box false (D.arr 64 .leaf (ints .u8 l))]⟩ = some (.exit 0, ⟨[(2, .ptr 0 []), (3, .ptr 1 []), (5, (.d (.int .i64 64))), (7, (.d (.bool false)))], [.box false (D.arr 64 .leaf (ints .u8 l)), .box false (D.arr 64 .leaf (ints .u8 l))]⟩)
 | 0, i, hi => by
  obtain rfl : i = 64 := by omega
  exact dn_stop (by simp -implicitDefEqProofs [Z1o_L0, dn_cond])
 | k + 1, i, hi => by
  have hlt : i < 64 := by omega
  have hlti : (i : Int) < 64 := by omega
  have hlt' : i < l.length := by omega
  have hx : l[i] = cf l i := (cf_lt hlt').symm
  have w4 : IntKind.i64.wrap ((i : Int) + 1) = ((i + 1 : Nat) : Int) := (w64 (x := (i : Int) + 1) (by omega)).trans (by omega)
  refine dn_round ?_ (l_eqPoly hl k (i + 1) (by omega))
  simp -implicitDefEqProofs [Z1o_L0, dn_cond, hlt, hlti, hl, hx, w4]
def C_eqPoly (O : Oracle) : Prop := ∀ l : List Int, l.length = 64 → ask O F1o [(D.arr 64 .leaf (ints .u8 l)), (D.arr 64 .leaf (ints .u8 l))] = some (D.bool true)
theorem c_eqPoly (hT : T F1o = some Z1o) : C_eqPoly (den T A) := by
 intro l hl
 have e := l_eqPoly (O := den T A) hl 64 0 rfl
 have e00 : ((0 : Nat) : Int) = 0 := rfl
 rw [e00] at e
 refine ask_of hT rfl ?_
 simp -implicitDefEqProofs [Z1o, Z1o_B, e, List.replicate]
end Pe

namespace Pe
open Go Gq
variable {T : Nat → Option Fn} {A : Oracle}
noncomputable abbrev skD {p : Int} (a : List (Fp p)) : D := .sl .leaf (a.map fun c => (D.sl .leaf (ints .i64 (row c))))
section
variable {p : Int} [IsP p]
noncomputable def svI (m x : Fp p) : Nat → List (Fp p) → Fp p → Fp p
 | _, [], out => out
 | i, c :: cs, out => svI m x (i + 1) cs (out + c * frIt m (i % (m.len - 1)) x % m)
theorem svI_len {m x : Fp p} (hm : m ≠ 0) : ∀ (i : Nat) (a : List (Fp p)) (out : Fp p), out.len < m.len → (svI m x i a out).len < m.len
 | _, [], _, h => h
 | i, c :: cs, out, h => svI_len hm (i + 1) cs _ (by
  have h1 := Pol.len_mod (c * frIt m (i % (m.len - 1)) x) hm
  have := Pol.len_add_le (a := out) (b := c * frIt m (i % (m.len - 1)) x % m) (n := m.len - 1) (by omega) (by omega)
  omega)
end
section
variable {p : Int}
end
theorem l_value {O : Oracle} (hfr : K_frob O) (hpr : K_product O) (hco : K_combine2 O) {p : Int} [IsP p] {m x : Fp p} {a : List (Fp p)} (h2 : 2 ≤ m.len) (hml : m.len ≤ 64) (hx : x.len ≤ 1000) (ha : a.length < 100000) (hal : ∀ c ∈ a, c.len ≤ 1000) : ∀ (k i : Nat) (out : Fp p), i + k = a.length → out.len ≤ 64 →
 dn O 0 (.loop Zh_L0) ⟨[(2, (.d (.sl .leaf (ints .i64 (row x))))), (3, .ptr 0 []), (7, (.d (.sl .leaf (ints .i64 (row out))))), (10, .d (skD a)), (11, (.d (.int .i64 a.length))), (12, (.d (.int .i64 i)))], [.box false (fldD m)]⟩ =
  some (.exit 0, ⟨[(2, (.d (.sl .leaf (ints .i64 (row x))))), (3, .ptr 0 []), (7, (.d (.sl .leaf (ints .i64 (row (svI m x i (a.drop i) out)))))), (10, .d (skD a)), (11, (.d (.int .i64 a.length))), (12, (.d (.int .i64 a.length))), (13, (.d (.bool false)))], [.box false (fldD m)]⟩)
 | 0, i, out, hi, ho => by
  obtain rfl : i = a.length := by omega
  rw [List.drop_length]
  show _ = some (_, (⟨[_, _, (7, (.d (.sl .leaf (ints .i64 (row out))))), _, _, _, _], _⟩ : St))
  exact dn_stop (by simp -implicitDefEqProofs [Zh_L0, dn_cond])
 | k + 1, i, out, hi, ho => by
  have hm : m ≠ 0 := fun h => by rw [h, Pol.len_zero] at h2; omega
  have hlt : i < a.length := by omega
  have hci := hal _ (List.getElem_mem hlt)
  have w4 : IntKind.i64.wrap ((i : Int) + 1) = ((i + 1 : Nat) : Int) := (w64 (x := (i : Int) + 1) (by omega)).trans (by omega)
  have e1 := hfr p m x i h2 hml hx (by omega)
  have hfl : (frIt m (i % (m.len - 1)) x).len ≤ 1000 := by
   by_cases hz : i % (m.len - 1) = 0
   ·rw [hz]; exact hx
   ·obtain ⟨j, hj⟩ := Nat.exists_eq_succ_of_ne_zero hz
    rw [hj]
    have := frIt_len hm j (pw x p.toNat % m) (Pol.len_mod _ hm)
    show (frIt m j (pw x p.toNat % m)).len ≤ 1000
    omega
  have e2 := hpr p m a[i] (frIt m (i % (m.len - 1)) x) hm hml hci hfl
  have hl := Pol.len_mod (a[i] * frIt m (i % (m.len - 1)) x) hm
  have e3 := hco p out (a[i] * frIt m (i % (m.len - 1)) x % m) (by omega) (by omega)
  have hl2 := Pol.len_add_le (a := out) (b := a[i] * frIt m (i % (m.len - 1)) x % m) (n := 64) ho (by omega)
  have ih := l_value hfr hpr hco h2 hml hx ha hal k (i + 1) (out + a[i] * frIt m (i % (m.len - 1)) x % m) (by omega) hl2
  have hsv : svI m x i (a.drop i) out = svI m x (i + 1) (a.drop (i + 1)) (out + a[i] * frIt m (i % (m.len - 1)) x % m) := by
   rw [List.drop_eq_getElem_cons hlt]; rfl
  rw [hsv]
  refine dn_round ?_ ih
  generalize row (out + a[i] * frIt m (i % (m.len - 1)) x % m) = R1 at *
  generalize row (a[i] * frIt m (i % (m.len - 1)) x % m) = R2 at *
  generalize row (frIt m (i % (m.len - 1)) x) = R3 at *
  simp -implicitDefEqProofs [Zh_L0, dn_cond, hlt, e1, e2, e3, w4]
def K_value (O : Oracle) : Prop := ∀ (p : Int) [IsP p] (m x : Fp p) (a : List (Fp p)), 2 ≤ m.len → m.len ≤ 64 → x.len ≤ 1000 → a.length < 100000 → (∀ c ∈ a, c.len ≤ 1000) → ask O Fh [fldD m, skD a, (D.sl .leaf (ints .i64 (row x)))] = some (D.sl .leaf (ints .i64 (row (svI m x 0 a 0))))
theorem k_value (hT : T Fh = some Zh) (hfr : K_frob (den T A)) (hpr : K_product (den T A)) (hco : K_combine2 (den T A)) : K_value (den T A) := by
 intro p ip m x a h2 hml hx ha hal
 have e := l_value (O := den T A) hfr hpr hco h2 hml hx ha hal a.length 0 0 (Nat.zero_add _) (by rw [Pol.len_zero]; omega)
 have e00 : ((0 : Nat) : Int) = 0 := rfl
 rw [e00, row_zero, ints_nil, List.drop_zero] at e
 refine ask_of hT rfl ?_
 generalize row (svI m x 0 a 0) = R at *
 simp -implicitDefEqProofs [Zh, Zh_B, e]
end Pe


namespace Pe
open Go Gq
variable {T : Nat → Option Fn} {A : Oracle}
abbrev skwD (ls : List (List Int)) : D := .arr 8 (.arr 64 .leaf) (ls.map arr8)
theorem fn_isRes {p : Int} [IsP p] {m : Fp p} {ls : List (List Int)} (hm : m.len ≤ 64) (h : Arrs ls) (hi : C_isRes (den T A)) : ∃ P : D → Bool, (∀ l ∈ ls, P (arr8 l) = true ↔ IsRes m l) ∧ FnBool (den T A) Ff [fldD m] [] (ls.map arr8) P := by
 classical
 refine ⟨fun x => decide (IsRes m x.nums), fun l hl => by show decide (IsRes m (arr8 l).nums) = true ↔ _; rw [nums_arr8]; simp, fun x hx => by simp at hx; subst hx; rfl, fun x hx => by simp at hx, fun x hx => ?_, fun x hx => ?_⟩
 ·obtain ⟨n, _, rfl⟩ := List.mem_map.1 hx; rfl
 ·obtain ⟨l, hl, rfl⟩ := List.mem_map.1 hx
  have e := hi p m l hm (h l hl).2 (h l hl).1
  show ask (den T A) _ _ = some (.bool (decide (IsRes m (arr8 l).nums)))
  rw [nums_arr8]
  exact e
def IsSk {p : Int} [IsP p] (m : Fp p) (ls : List (List Int)) : Prop := ∀ l ∈ ls, IsRes m l
open Classical in
noncomputable def codeRs (p : Int) (l : List Int) (ls : List (List Int)) : Int := if ∃ (_ : IsP p) (m : Fp p), l = pad (row m) ∧ Fld m ∧ ∀ x ∈ ls, IsRes m x then 0 else 1
theorem fld_code {p : Int} [IsP p] {m : Fp p} (hm : Fld m) {Q : ∀ (_ : IsP p), Fp p → Prop} : (∃ (ip : IsP p) (m' : Fp p), pad (row m) = pad (row m') ∧ Fld m' ∧ Q ip m') ↔ Q inferInstance m := by
 have h5 := hm.five
 constructor
 ·rintro ⟨ip, m', e, h1, h2⟩
  have h6 := h1.five
  obtain rfl := (pad_row_inj (by omega) (by omega)).1 e
  exact h2
 ·intro h; exact ⟨_, m, rfl, hm, h⟩
def C_resCode (O : Oracle) (F : Nat) : Prop := ∀ (p : Int) (l : List Int) (ls : List (List Int)), Bytes l → l.length = 64 → Arrs ls → ls.length < 2000000 → ask O F [(D.int .i64 p), (D.arr 64 .leaf (ints .u8 l)), .sl (.arr 64 .leaf) (ls.map arr8)] = some (D.int .i64 (codeRs p l ls))
open Classical in
theorem c_resCode (hT : T F1d = some Z1d) (hif : C_isField (den T A)) (hfo : K_fieldOf (den T A)) (his : C_isRes (den T A)) (ha : C_allOf (den T A) F9 (.arr 64 .leaf)) : C_resCode (den T A) F1d := by
 intro p l ls hb hl h hlen
 have e1 := hif p l hb hl
 refine ask_of hT rfl ?_
 unfold codeRs
 by_cases hf : IsFld p l
 ·rw [decide_eq_true hf] at e1
  obtain ⟨ip, m, rfl, hm⟩ := hf
  have h5 := hm.five
  have e2 := hfo p m (by omega)
  obtain ⟨P, hP, hF⟩ := fn_isRes (m := m) (by omega) h his
  have e3 := ha _ _ _ _ _ hF (fun x hx => by obtain ⟨n, _, rfl⟩ := List.mem_map.1 hx; rfl) (by rw [List.length_map]; exact hlen)
  have hall : (ls.map arr8).all P = true ↔ ∀ x ∈ ls, IsRes m x := by
   rw [List.all_eq_true]
   constructor
   ·intro h2 l hl; exact (hP l hl).1 (h2 _ (List.mem_map_of_mem hl))
   ·intro h2 x hx
    obtain ⟨l, hl, rfl⟩ := List.mem_map.1 hx
    exact (hP l hl).2 (h2 l hl)
  have hc := (fld_code hm (Q := fun ip m' => ∀ x ∈ ls, @IsRes p ip m' x)).trans hall.symm
  cases hb1 : (ls.map arr8).all P
  ·rw [hb1] at e3 hc
   rw [if_neg (fun h => by have := hc.1 h; cases this)]
   generalize pad (row m) = Pm at *
   generalize ls.map arr8 = LD at *
   simp -implicitDefEqProofs [Z1d, Z1d_B, dn_cond, e1, e2, e3]
  ·rw [hb1] at e3 hc
   rw [if_pos (hc.2 rfl)]
   generalize pad (row m) = Pm at *
   generalize ls.map arr8 = LD at *
   simp -implicitDefEqProofs [Z1d, Z1d_B, dn_cond, e1, e2, e3]
 ·rw [decide_eq_false hf] at e1
  rw [if_neg (fun ⟨ip, m, e, hm, _⟩ => hf ⟨ip, m, e, hm⟩)]
  generalize ls.map arr8 = LD at *
  simp -implicitDefEqProofs [Z1d, Z1d_B, dn_cond, e1]
end Pe

namespace Pe
open Go Gq
variable {T : Nat → Option Fn} {A : Oracle}
theorem isSk_cons {p : Int} [IsP p] {m : Fp p} {l : List Int} {ls : List (List Int)} : IsSk m (l :: ls) ↔ IsRes m l ∧ IsSk m ls := by simp [IsSk]
theorem isSk_nil {p : Int} [IsP p] (m : Fp p) : IsSk m [] := fun _ h => by cases h
end Pe

namespace Pe
open Go Gq
variable {T : Nat → Option Fn} {A : Oracle}
theorem l_sFrob {O : Oracle} (hpw : K_sPowMod O) {p : Int} [IsP p] {m : Fp p} {z : List Int} (hm : m ≠ 0) (hml : m.len ≤ 64) : ∀ (k : Nat) (a : Fp p), k < 1000000 → a.len ≤ 64 →
 dn O 0 (.loop Z3k_L0) ⟨[(0, (.d (.int .i64 p))), (5, .ptr 0 []), (7, .ptr 1 []), (8, .ptr 2 []), (9, (.d (.int .i64 k)))], [.box false (D.arr 64 .leaf (ints .u8 (pad (row a)))), .box false (D.arr 64 .leaf (ints .u8 (pad (row m)))), .box false (D.arr 64 .leaf (ints .u8 z))]⟩ =
  some (.exit 0, ⟨[(0, (.d (.int .i64 p))), (5, .ptr 0 []), (7, .ptr 1 []), (8, .ptr 2 []), (9, (.d (.int .i64 0))), (15, (.d (.bool false)))], [.box false (D.arr 64 .leaf (ints .u8 (pad (row (frIt m k a))))), .box false (D.arr 64 .leaf (ints .u8 (pad (row m)))), .box false (D.arr 64 .leaf (ints .u8 z))]⟩)
 | 0, a, hk, ha => by
  refine dn_stop ?_
  show _ = some (_, (⟨_, [.box false (D.arr 64 .leaf (ints .u8 (pad (row a)))), _, _]⟩ : St))
  generalize pad (row a) = Pa at *
  generalize pad (row m) = Pm at *
  simp -implicitDefEqProofs [Z3k_L0, dn_cond]
 | k + 1, a, hk, ha => by
  have hp := IsP.pos (p := p)
  have hp7 := IsP.le (p := p)
  have w4 : IntKind.i64.wrap (((k + 1 : Nat) : Int) - 1) = (k : Int) := (w64 (x := ((k + 1 : Nat) : Int) - 1) (by omega)).trans (by omega)
  have hlt : (0 : Int) < ((k + 1 : Nat) : Int) := by omega
  have e1 := hpw p a p m hm ha hml (by omega) (by omega)
  have hl := Pol.len_mod (pw a p.toNat) hm
  refine dn_round ?_ (l_sFrob hpw hm hml k (pw a p.toNat % m) (by omega) (by omega))
  generalize ((k + 1 : Nat) : Int) = k1 at *
  generalize pad (row (pw a p.toNat % m)) = R at *
  generalize pad (row a) = Pa at *
  generalize pad (row m) = Pm at *
  simp -implicitDefEqProofs [Z3k_L0, dn_cond, hlt, e1, w4]
def K_sFrob (O : Oracle) : Prop := ∀ (p : Int) [IsP p] (m a : Fp p) (k : Nat), 2 ≤ m.len → m.len ≤ 64 → a.len ≤ 64 → k < 1000000 → ask O F3k [(D.int .i64 p), (D.arr 64 .leaf (ints .u8 (pad (row a)))), (D.int .i64 k), (D.arr 64 .leaf (ints .u8 (pad (row m))))] = some (D.arr 64 .leaf (ints .u8 (pad (row (frIt m (k % (m.len - 1)) a)))))
theorem k_sFrob (hT : T F3k = some Z3k) (hpw : K_sPowMod (den T A)) (hdg : K_sDeg (den T A)) : K_sFrob (den T A) := by
 intro p ip m a k h2 hml ha hk
 have hm : m ≠ 0 := fun h => by rw [h, Pol.len_zero] at h2; omega
 have e1 := hdg p m hml
 rw [show ((m.len : Int) - 1) = ((m.len - 1 : Nat) : Int) by omega] at e1
 have hlt := Nat.mod_lt k (show 0 < m.len - 1 by omega)
 have e2 := l_sFrob (O := den T A) (z := pad []) hpw hm hml (k % (m.len - 1)) a (by omega) ha
 have w1 : (k : Int).tmod ((m.len - 1 : Nat) : Int) = ((k % (m.len - 1) : Nat) : Int) := by rw [Int.tmod_eq_emod_of_nonneg (by omega)]; rfl
 have h0 : ((m.len - 1 : Nat) : Int) ≠ 0 := by omega
 refine ask_of hT rfl ?_
 generalize pad (row (frIt m (k % (m.len - 1)) a)) = R at *
 generalize ((k % (m.len - 1) : Nat) : Int) = n1 at *
 generalize ((m.len - 1 : Nat) : Int) = m1 at *
 generalize pad (row a) = Pa at *
 generalize pad (row m) = Pm at *
 simp -implicitDefEqProofs [Z3k, Z3k_B, e1, e2, w1, h0, List.replicate]
section
variable {p : Int}
open Classical in
noncomputable def stl (S : List (Fp p)) : Nat → Nat
 | 0 => 0
 | n + 1 => if S[n]? = some 0 then stl S n else n + 1
noncomputable def trimS (S : List (Fp p)) : List (Fp p) := S.take (stl S S.length)
theorem stl_le (S : List (Fp p)) : ∀ n, stl S n ≤ n
 | 0 => Nat.le_refl 0
 | n + 1 => by
  unfold stl
  split
  ·have := stl_le S n; omega
  ·omega
theorem stl_zero (S : List (Fp p)) : ∀ n j, stl S n ≤ j → j < n → S[j]? = some 0
 | 0, j, _, h => by omega
 | n + 1, j, h1, h2 => by
  unfold stl at h1
  split at h1
  ·rename_i h0
   by_cases hj : j = n
   ·rw [hj]; exact h0
   ·exact stl_zero S n j h1 (by omega)
  ·omega
end
section
variable {p : Int} [IsP p]
theorem svI_zeros {m x : Fp p} (hm : m ≠ 0) : ∀ (i : Nat) (S : List (Fp p)) (out : Fp p), (∀ a ∈ S, a = 0) → svI m x i S out = out
 | _, [], _, _ => rfl
 | i, c :: cs, out, h => by
  have hc := h c (by simp)
  subst hc
  show svI m x (i + 1) cs (out + 0 * frIt m (i % (m.len - 1)) x % m) = out
  rw [Gq.zero_mul, Pol.zero_mod hm, Gq.add_zero]
  exact svI_zeros hm (i + 1) cs out fun a ha => h a (by simp [ha])
theorem svI_append {m x : Fp p} : ∀ (i : Nat) (S R : List (Fp p)) (out : Fp p), svI m x i (S ++ R) out = svI m x (i + S.length) R (svI m x i S out)
 | _, [], _, _ => rfl
 | i, c :: cs, R, out => by
  show svI m x (i + 1) (cs ++ R) _ = svI m x (i + (cs.length + 1)) R (svI m x (i + 1) cs _)
  rw [svI_append (i + 1) cs R, show i + (cs.length + 1) = i + 1 + cs.length by omega]
theorem svI_trim {m x : Fp p} (hm : m ≠ 0) (S : List (Fp p)) : svI m x 0 (trimS S) 0 = svI m x 0 S 0 := by
 have e := svI_append (m := m) (x := x) 0 (S.take (stl S S.length)) (S.drop (stl S S.length)) 0
 rw [List.take_append_drop] at e
 have hz : ∀ a ∈ S.drop (stl S S.length), a = 0 := by
  intro a ha
  obtain ⟨j, hj, rfl⟩ := List.getElem_of_mem ha
  rw [List.length_drop] at hj
  have := stl_zero S S.length (stl S S.length + j) (by omega) (by omega)
  rw [List.getElem_drop]
  rw [List.getElem?_eq_getElem (by omega)] at this
  exact Option.some.inj this
 rw [e, svI_zeros hm _ _ _ hz]
 rfl
end
theorem l_sktrim {O : Oracle} {p : Int} [IsP p] {S : List (Fp p)} (hS : S.length < 100000) : ∀ n : Nat, n ≤ S.length →
 dn O 0 (.loop Z1l_L0) ⟨[(0, .d (skD S)), (3, (.d (.int .i64 n)))], []⟩ = some (.exit 0, ⟨[(0, .d (skD S)), (3, (.d (.int .i64 (stl S n)))), (16, (.d (.bool false)))], []⟩)
 | 0, _ => dn_stop (by simp -implicitDefEqProofs [Z1l_L0, dn_cond, stl])
 | n + 1, hn => by
  have hlt : n < S.length := by omega
  have w1 : IntKind.i64.wrap (((n + 1 : Nat) : Int) - 1) = (n : Int) := (w64 (x := ((n + 1 : Nat) : Int) - 1) (by omega)).trans (by omega)
  have h0 : (0 : Int) < ((n + 1 : Nat) : Int) := by omega
  unfold stl
  by_cases hz : S[n]? = some 0
  ·rw [if_pos hz]
   rw [List.getElem?_eq_getElem hlt] at hz
   have hz' : S[n] = 0 := Option.some.inj hz
   have hlen : (S[n]).len = 0 := by rw [hz', Pol.len_zero]
   refine dn_round ?_ (l_sktrim hS n (by omega))
   generalize ((n + 1 : Nat) : Int) = n1 at *
   simp -implicitDefEqProofs [Z1l_L0, dn_cond, hlt, w1, h0, hlen]
  ·rw [if_neg hz]
   rw [List.getElem?_eq_getElem hlt] at hz
   have hlen : (S[n]).len ≠ 0 := fun h => hz (by rw [Pol.len_zero_iff.1 h])
   refine dn_stop ?_
   generalize ((n + 1 : Nat) : Int) = n1 at *
   simp -implicitDefEqProofs [Z1l_L0, dn_cond, hlt, w1, h0, hlen]
def K_sktrim (O : Oracle) : Prop := ∀ (p : Int) [IsP p] (S : List (Fp p)), S.length < 100000 → ask O F1l [skD S] = some (skD (trimS S))
theorem k_sktrim (hT : T F1l = some Z1l) : K_sktrim (den T A) := by
 intro p ip S hS
 have e := l_sktrim (O := den T A) hS S.length (Nat.le_refl _)
 have hle := stl_le S S.length
 have hL : (S.map fun c => (D.sl .leaf (ints .i64 (row c)))).length = S.length := List.length_map ..
 have e9 : skD (trimS S) = .sl .leaf ((S.map fun c => (D.sl .leaf (ints .i64 (row c)))).take (stl S S.length)) := by unfold trimS; rw [← List.map_take]
 have e8 : skD S = .sl .leaf (S.map fun c => (D.sl .leaf (ints .i64 (row c)))) := rfl
 rw [e9]
 rw [e8] at e ⊢
 refine ask_of hT rfl ?_
 generalize stl S S.length = n at *
 generalize (S.map fun c => (D.sl .leaf (ints .i64 (row c)))) = LD at *
 generalize S.length = sl at *
 subst hL
 simp -implicitDefEqProofs [Z1l, Z1l_B, e, hle]
theorem sk_of {p : Int} [IsP p] {m : Fp p} : ∀ {ls : List (List Int)}, IsSk m ls → ∃ S : List (Fp p), ls = S.map (fun a => pad (row a)) ∧ ∀ a ∈ S, a.len < m.len
 | [], _ => ⟨[], rfl, fun _ h => by cases h⟩
 | l :: ls, h => by
  obtain ⟨h1, h2⟩ := isSk_cons.1 h
  obtain ⟨a, ha, rfl⟩ := h1
  obtain ⟨S, rfl, hS⟩ := sk_of h2
  exact ⟨a :: S, rfl, by simpa using ⟨ha, hS⟩⟩
noncomputable abbrev skP {p : Int} (S : List (Fp p)) : List (List Int) := S.map fun a => pad (row a)
end Pe

namespace Pe
open Go Gq
variable {T : Nat → Option Fn} {A : Oracle}
theorem l_sSkVal {O : Oracle} (hfr : K_sFrob O) (hmm : K_sMulMod O) (ha : K_sAdd O) {p : Int} [IsP p] {m x : Fp p} {z : List Int} (h2 : 2 ≤ m.len) (hml : m.len ≤ 64) (hx : x.len < m.len) {S : List (Fp p)} (h8 : S.length = 8) (hS : ∀ a ∈ S, a.len < m.len) : ∀ (k i : Nat) (out : Fp p), i + k = 8 → out.len < m.len →
 dn O 0 (.loop Z3o_L0) ⟨[(0, (.d (.int .i64 p))), (5, .ptr 0 []), (6, .ptr 1 []), (7, .ptr 2 []), (8, .ptr 3 []), (9, .ptr 4 []), (10, (.d (.int .i64 i)))], [.box false (D.arr 64 .leaf (ints .u8 (pad (row m)))), .box false (.arr 8 (.arr 64 .leaf) ((skP S).map arr8)), .box false (D.arr 64 .leaf (ints .u8 (pad (row x)))), .box false (D.arr 64 .leaf (ints .u8 z)), .box false (D.arr 64 .leaf (ints .u8 (pad (row out))))]⟩ =
  some (.exit 0, ⟨[(0, (.d (.int .i64 p))), (5, .ptr 0 []), (6, .ptr 1 []), (7, .ptr 2 []), (8, .ptr 3 []), (9, .ptr 4 []), (10, (.d (.int .i64 8))), (13, (.d (.bool false)))], [.box false (D.arr 64 .leaf (ints .u8 (pad (row m)))), .box false (.arr 8 (.arr 64 .leaf) ((skP S).map arr8)), .box false (D.arr 64 .leaf (ints .u8 (pad (row x)))), .box false (D.arr 64 .leaf (ints .u8 z)), .box false (D.arr 64 .leaf (ints .u8 (pad (row (svI m x i (S.drop i) out)))))]⟩)
 | 0, i, out, hi, ho => by
  obtain rfl : i = 8 := by omega
  rw [List.drop_eq_nil_of_le (by omega)]
  refine dn_stop ?_
  show _ = some (_, (⟨_, [_, _, _, _, .box false (D.arr 64 .leaf (ints .u8 (pad (row out))))]⟩ : St))
  generalize (skP S).map arr8 = LD at *
  generalize pad (row out) = Po at *
  generalize pad (row x) = Px at *
  generalize pad (row m) = Pm at *
  simp -implicitDefEqProofs [Z3o_L0, dn_cond]
 | k + 1, i, out, hi, ho => by
  have hm : m ≠ 0 := fun h => by rw [h, Pol.len_zero] at h2; omega
  have hi8 : i < 8 := by omega
  have hi8' : (i : Int) < 8 := by omega
  have hlt : i < S.length := by omega
  have hm1 := List.getElem_mem hlt
  have hsl := hS _ hm1
  have hL : ((skP S).map arr8).length = 8 := by rw [List.length_map, List.length_map]; exact h8
  have hx2 : ∀ h : i < ((skP S).map arr8).length, ((skP S).map arr8)[i]'h = (D.arr 64 .leaf (ints .u8 (pad (row S[i])))) := fun h => by rw [List.getElem_map, List.getElem_map]
  have w4 : IntKind.i64.wrap ((i : Int) + 1) = ((i + 1 : Nat) : Int) := (w64 (x := (i : Int) + 1) (by omega)).trans (by omega)
  have t3 : pad (row S[i]) = pad [] ↔ S[i] = 0 := by
   rw [← row_zero (p := p), pad_row_inj (by omega) (by rw [Pol.len_zero]; omega)]
  have e4 := beq_P (pad_length (row S[i])) (pad_length [])
  have hd : S.drop i = S[i] :: S.drop (i + 1) := List.drop_eq_getElem_cons hlt
  have hsv : svI m x i (S.drop i) out = svI m x (i + 1) (S.drop (i + 1)) (out + S[i] * frIt m (i % (m.len - 1)) x % m) := by rw [hd]; rfl
  rw [hsv]
  by_cases hz : S[i] = 0
  ·rw [decide_eq_true (t3.2 hz)] at e4
   have hsame : out + S[i] * frIt m (i % (m.len - 1)) x % m = out := by rw [hz, Gq.zero_mul, Pol.zero_mod hm, Gq.add_zero]
   rw [hsame]
   refine dn_round ?_ (l_sSkVal hfr hmm ha h2 hml hx h8 hS k (i + 1) out (by omega) ho)
   generalize (skP S).map arr8 = LD at *
   generalize pad (row S[i]) = Pi at *
   generalize pad (row out) = Po at *
   generalize pad (row x) = Px at *
   generalize pad (row m) = Pm at *
   simp -implicitDefEqProofs [Z3o_L0, dn_cond, hi8, hi8', hL, hx2, e4, w4]
  ·rw [decide_eq_false (fun h => hz (t3.1 h))] at e4
   have e1 := hfr p m x i h2 hml (by omega) (by omega)
   have hfl := frIt_len hm (i % (m.len - 1)) x hx
   have e2 := hmm p S[i] (frIt m (i % (m.len - 1)) x) m hm hml (by omega) (by omega)
   have hl := Pol.len_mod (S[i] * frIt m (i % (m.len - 1)) x) hm
   have e3 := ha p 1 out (S[i] * frIt m (i % (m.len - 1)) x % m) (by omega) (by omega) (by omega) (by omega)
   rw [zp_one, Pol.C_one, Gq.one_mul] at e3
   have hl2 := Pol.len_add_le (a := out) (b := S[i] * frIt m (i % (m.len - 1)) x % m) (n := m.len - 1) (by omega) (by omega)
   refine dn_round ?_ (l_sSkVal hfr hmm ha h2 hml hx h8 hS k (i + 1) _ (by omega) (by omega))
   generalize pad (row (out + S[i] * frIt m (i % (m.len - 1)) x % m)) = P1 at *
   generalize pad (row (S[i] * frIt m (i % (m.len - 1)) x % m)) = P2 at *
   generalize pad (row (frIt m (i % (m.len - 1)) x)) = P3 at *
   generalize (skP S).map arr8 = LD at *
   generalize pad (row S[i]) = Pi at *
   generalize pad (row out) = Po at *
   generalize pad (row x) = Px at *
   generalize pad (row m) = Pm at *
   simp -implicitDefEqProofs [Z3o_L0, dn_cond, hi8, hi8', hL, hx2, e1, e2, e3, e4, w4]
def K_sSkVal (O : Oracle) : Prop := ∀ (p : Int) [IsP p] (m x : Fp p) (S : List (Fp p)), 2 ≤ m.len → m.len ≤ 64 → x.len < m.len → S.length = 8 → (∀ a ∈ S, a.len < m.len) → ask O F3o [(D.int .i64 p), (D.arr 64 .leaf (ints .u8 (pad (row m)))), skwD (skP S), (D.arr 64 .leaf (ints .u8 (pad (row x))))] = some (D.arr 64 .leaf (ints .u8 (pad (row (svI m x 0 S 0)))))
theorem k_sSkVal (hT : T F3o = some Z3o) (hfr : K_sFrob (den T A)) (hmm : K_sMulMod (den T A)) (ha : K_sAdd (den T A)) : K_sSkVal (den T A) := by
 intro p ip m x S h2 hml hx h8 hS
 have e := l_sSkVal (O := den T A) (z := pad []) hfr hmm ha h2 hml hx h8 hS 8 0 0 rfl (by rw [Pol.len_zero]; omega)
 have e00 : ((0 : Nat) : Int) = 0 := rfl
 rw [e00, List.drop_zero, row_zero] at e
 have hsk : skwD (skP S) = .arr 8 (.arr 64 .leaf) ((skP S).map arr8) := rfl
 rw [hsk]
 refine ask_of hT rfl ?_
 generalize (skP S).map arr8 = LD at *
 generalize pad (row (svI m x 0 S 0)) = PR at *
 generalize pad (row x) = Px at *
 generalize pad (row m) = Pm at *
 simp -implicitDefEqProofs [Z3o, Z3o_B, e, List.replicate]
theorem map_polOf {p : Int} {S : List (Fp p)} (hS : ∀ a ∈ S, a.len ≤ 64) : (skP S).map (polOf p) = S := by
 unfold skP
 rw [List.map_map]
 conv => rhs; rw [← List.map_id S]
 exact List.map_congr_left fun a ha => polOf_pad (hS a ha)
theorem flats_arr8 : ∀ ls : List (List Int), D.flats (ls.map arr8) = true
 | [] => rfl
 | l :: ls => by
  show (D.flats (ints .u8 l) && D.flats (ls.map arr8)) = true
  rw [flats_arr8 ls, flats_ints]; rfl
end Pe

namespace Pe
open Go Gq
variable {T : Nat → Option Fn} {A : Oracle}
section
variable {p : Int}
noncomputable def addAt (Q : List (Fp p)) (n : Nat) (v : Fp p) : List (Fp p) := Q.set n ((Q[n]?).getD 0 + v)
theorem addAt_length (Q : List (Fp p)) (n : Nat) (v : Fp p) : (addAt Q n v).length = Q.length := by unfold addAt; rw [List.length_set]
end
section
variable {p : Int} [IsP p]
noncomputable def byIn (m x : Fp p) (i : Nat) : Nat → List (Fp p) → List (Fp p) → List (Fp p)
 | _, [], Q => Q
 | k, y :: ys, Q => byIn m x i (k + 1) ys (addAt Q (i + k) (x * frIt m (i % (m.len - 1)) y % m))
noncomputable def byOut (m : Fp p) (b : List (Fp p)) : Nat → List (Fp p) → List (Fp p) → List (Fp p)
 | _, [], Q => Q
 | i, x :: xs, Q => byOut m b (i + 1) xs (byIn m x i 0 b Q)
theorem byIn_length (m x : Fp p) (i : Nat) : ∀ (k : Nat) (b Q : List (Fp p)), (byIn m x i k b Q).length = Q.length
 | _, [], _ => rfl
 | k, y :: ys, Q => by
  show (byIn m x i (k + 1) ys (addAt Q (i + k) _)).length = _
  rw [byIn_length, addAt_length]
theorem byOut_length (m : Fp p) (b : List (Fp p)) : ∀ (i : Nat) (a Q : List (Fp p)), (byOut m b i a Q).length = Q.length
 | _, [], _ => rfl
 | i, x :: xs, Q => by
  show (byOut m b (i + 1) xs (byIn m x i 0 b Q)).length = _
  rw [byOut_length, byIn_length]
end
noncomputable def pd8 {p : Int} (S : List (Fp p)) : List (Fp p) := S ++ List.replicate (8 - S.length) 0
end Pe

namespace Pe
open Go Gq
variable {T : Nat → Option Fn} {A : Oracle}
noncomputable def mulS {p : Int} [IsP p] (m : Fp p) (a b : List (Fp p)) : List (Fp p) := byOut m b 0 a (List.replicate (a.length + b.length - 1) 0)
end Pe

namespace Pe
open Go Gq
variable {T : Nat → Option Fn} {A : Oracle}
end Pe

namespace Pe
open Go Gq
variable {T : Nat → Option Fn} {A : Oracle}
noncomputable def zs8 {p : Int} : List (Fp p) := List.replicate 8 0
theorem z8_zs {p : Int} : (skP (zs8 (p := p))).map arr8 = z8 := by
 unfold skP zs8
 rw [List.map_replicate, List.map_replicate, row_zero]
 rfl
section
variable {p : Int}
theorem addAt_get_ne {Q : List (Fp p)} {n j : Nat} {v : Fp p} (h : n ≠ j) : (addAt Q n v)[j]? = Q[j]? := by
 unfold addAt; rw [List.getElem?_set_ne h]
end
section
variable {p : Int} [IsP p]
theorem byIn_get_ge {m x : Fp p} {i n : Nat} : ∀ (k : Nat) (b Q : List (Fp p)), i + k + b.length ≤ n → (byIn m x i k b Q)[n]? = Q[n]?
 | _, [], _, _ => rfl
 | k, y :: ys, Q, h => by
  rw [List.length_cons] at h
  show (byIn m x i (k + 1) ys (addAt Q (i + k) _))[n]? = _
  rw [byIn_get_ge (k + 1) ys _ (by omega), addAt_get_ne (by omega)]
theorem byOut_get_ge {m : Fp p} {b : List (Fp p)} {n : Nat} : ∀ (i : Nat) (a Q : List (Fp p)), i + a.length + b.length ≤ n + 1 → (byOut m b i a Q)[n]? = Q[n]?
 | _, [], _, _ => rfl
 | i, x :: xs, Q, h => by
  rw [List.length_cons] at h
  show (byOut m b (i + 1) xs (byIn m x i 0 b Q))[n]? = _
  rw [byOut_get_ge (i + 1) xs _ (by omega), byIn_get_ge 0 b Q (by omega)]
theorem byIn_snoc {m x y : Fp p} {i : Nat} : ∀ (k : Nat) (b Q : List (Fp p)), byIn m x i k (b ++ [y]) Q = addAt (byIn m x i k b Q) (i + (k + b.length)) (x * frIt m (i % (m.len - 1)) y % m)
 | _, [], _ => rfl
 | k, z :: zs, Q => by
  show byIn m x i (k + 1) (zs ++ [y]) (addAt Q (i + k) _) = addAt (byIn m x i (k + 1) zs (addAt Q (i + k) _)) _ _
  rw [byIn_snoc (k + 1) zs, List.length_cons, show i + (k + 1 + zs.length) = i + (k + (zs.length + 1)) by omega]
theorem byOut_snoc {m x : Fp p} {b : List (Fp p)} : ∀ (i : Nat) (a Q : List (Fp p)), byOut m b i (a ++ [x]) Q = byIn m x (i + a.length) 0 b (byOut m b i a Q)
 | _, [], _ => rfl
 | i, z :: zs, Q => by
  show byOut m b (i + 1) (zs ++ [x]) (byIn m z i 0 b Q) = byIn m x _ 0 b (byOut m b (i + 1) zs (byIn m z i 0 b Q))
  rw [byOut_snoc (i + 1) zs, List.length_cons, show i + 1 + zs.length = i + (zs.length + 1) by omega]
theorem frIt_ne {m : Fp p} (hm : Fld m) : ∀ (k : Nat) (y : Fp p), y ≠ 0 → y.len < m.len → frIt m k y ≠ 0
 | 0, _, h, _ => h
 | k + 1, y, h, hl => by
  obtain ⟨h1, h2⟩ := pw_res hm h hl p.toNat
  exact frIt_ne hm k _ h1 h2
end
section
variable {p : Int}
theorem stl_last {S : List (Fp p)} : ∀ (n k : Nat), stl S n = k + 1 → S[k]? ≠ some 0
 | 0, k, h => by cases h
 | n + 1, k, h => by
  unfold stl at h
  split at h
  ·exact stl_last n k h
  ·rename_i h0
   obtain rfl : n = k := by omega
   exact h0
theorem trimS_form {S : List (Fp p)} (h : (trimS S).length ≠ 0) : ∃ a x, trimS S = a ++ [x] ∧ x ≠ 0 := by
 have hle := stl_le S S.length
 have hl : (trimS S).length = stl S S.length := by unfold trimS; rw [List.length_take]; omega
 obtain ⟨k, hk⟩ : ∃ k, stl S S.length = k + 1 := ⟨stl S S.length - 1, by omega⟩
 have h1 := stl_last _ _ hk
 have hlt : k < S.length := by omega
 rw [List.getElem?_eq_getElem hlt] at h1
 refine ⟨S.take k, S[k], ?_, fun h => h1 (by rw [h])⟩
 unfold trimS
 rw [hk, List.take_succ_eq_append_getElem hlt]
end
section
variable {p : Int} [IsP p]
noncomputable def prodS (m : Fp p) (a b : List (Fp p)) : List (Fp p) := if a.length = 0 ∨ b.length = 0 then [] else trimS (mulS m a b)
end
end Pe

namespace Pe
open Go Gq
variable {T : Nat → Option Fn} {A : Oracle}
section
variable {p : Int} [IsP p]
theorem addAt_lens {N n : Nat} {Q : List (Fp p)} {v : Fp p} (hQ : ∀ c ∈ Q, c.len ≤ N) (hv : v.len ≤ N) : ∀ c ∈ addAt Q n v, c.len ≤ N := fun c hc => by
 unfold addAt at hc
 rcases List.mem_or_eq_of_mem_set hc with h | rfl
 ·exact hQ c h
 ·refine Pol.len_add_le ?_ hv
  cases he : Q[n]? with
  | none => show (0 : Fp p).len ≤ N; rw [Pol.len_zero]; omega
  | some w => exact hQ w (List.mem_of_getElem? he)
end
end Pe



namespace Pe
open Go Gq
variable {T : Nat → Option Fn} {A : Oracle}
abbrev z6 : List Int := List.replicate 6 0
section
variable {p : Int} [IsP p]
noncomputable def mono (p : Int) (i : Nat) : Fp p := numP p (p ^ i)
end
def updR (f : Nat → List Int) : Nat → Nat → List (List Int) → List (List Int)
 | 0, _, L => L
 | m + 1, i, L => updR f m (i + 1) (L.set i (f i))
end Pe

namespace Pe
open Go Gq
variable {T : Nat → Option Fn} {A : Oracle}
section
variable {O : Oracle} {g : Nat} {first caps : List D}
structure CmpRow (O : Oracle) (g : Nat) (first caps : List D) (f : D → Int) (s : Sh) (cs : List D) : Prop where
 nf : noTup first
 nc : noTup caps
 nx : noTup cs
 sh : AllSh s cs
 ask : ∀ x ∈ cs, ∀ y ∈ cs, ∃ v : Int, ask O g (first ++ [x, y] ++ caps) = some (D.int .i64 v) ∧ (v < 0 ↔ f x < f y)
theorem CmpRow.perm {f : D → Int} {s : Sh} {cs ds : List D} (h : CmpRow O g first caps f s cs) (p : ds.Perm cs) : CmpRow O g first caps f s ds :=
 ⟨h.nf, h.nc, fun x hx => h.nx x (p.subset hx), fun x hx => h.sh x (p.subset hx), fun x hx y hy => h.ask x (p.subset hx) y (p.subset hy)⟩
theorem CmpRow.call {f : D → Int} {s : Sh} {cs : List D} (h : CmpRow O g first caps f s cs) {hp : Heap} {np : Nat} {news : List Nat} {x y : D} (hx : x ∈ cs) (hy : y ∈ cs) :
 ∃ v : Int, kCall O np hp .flat news (g, first.map .d, caps.map .d) [.d x, .d y] = some (.d (D.int .i64 v), hp) ∧ (v < 0 ↔ f x < f y) := by
 have e : toDs hp (first.map .d ++ [.d x, .d y] ++ caps.map .d) = some (first ++ [x, y] ++ caps) :=
  toDs_app hp (toDs_app hp (toDs_map hp h.nf) (toDs_map hp (ds := [x, y]) (by intro z hz; simp at hz; rcases hz with rfl | rfl; exact h.nx _ hx; exact h.nx _ hy))) (toDs_map hp h.nc)
 obtain ⟨v, e1, e2⟩ := h.ask x hx y hy
 refine ⟨v, ?_, e2⟩
 rw [kCall_flat, e, Option.bind_some, kAsk_ask, e1, Option.bind_some, kAns_flat, show (D.int IntKind.i64 v).flat = true from rfl, if_pos rfl]
theorem l_insR {f : D → Int} {n : Nat} {cp : Option Nat} (hn : n ≤ 1000) {i : Nat} : ∀ (L : List D) (x : D) (R : List D), (L.reverse ++ x :: R).length = n → CmpRow O g first caps f .leaf (L.reverse ++ x :: R) → ∃ j : Int,
 dn O 1 (.loop ir_slices_insertionSortCmpFunc_impl_row_L0) ⟨[(0, .sl 0 [] 0 n cp), (1, (.d (.int .i64 0))), (2, (.d (.int .i64 n))), (3, .d (.fn g first caps)), (8, (.d (.int .i64 i))), (9, (.d (.int .i64 L.length)))], [.sl false .leaf (L.reverse ++ x :: R)]⟩ =
  some (.exit 2, ⟨[(0, .sl 0 [] 0 n cp), (1, (.d (.int .i64 0))), (2, (.d (.int .i64 n))), (3, .d (.fn g first caps)), (8, (.d (.int .i64 i))), (9, (.d (.int .i64 j))), (34, (.d (.bool false)))], [.sl false .leaf (insG f L x R)]⟩)
 | [], x, R, hl, ok => by
  refine ⟨0, dn_stop ?_⟩
  simp -implicitDefEqProofs [ir_slices_insertionSortCmpFunc_impl_row_L0, dn_cond, insG]
 | y :: L, x, R, hl, ok => by
  have hj : (y :: L).length = L.length + 1 := rfl
  have hlen : ((y :: L).reverse ++ x :: R).length = L.length + 1 + (R.length + 1) := by simp; omega
  have e1 : ((y :: L).reverse ++ x :: R)[L.length + 1]? = some x := by
   rw [List.getElem?_append_right (by simp)]; simp
  have e2 : ((y :: L).reverse ++ x :: R)[L.length]? = some y := by
   rw [List.getElem?_append_left (by simp)]; simp
  have m1 : x ∈ (y :: L).reverse ++ x :: R := by simp
  have m2 : y ∈ (y :: L).reverse ++ x :: R := by simp
  obtain ⟨cv, c, cneg⟩ := ok.call (hp := [.sl false .leaf ((y :: L).reverse ++ x :: R)]) (np := 1) (news := []) m1 m2
  have s1 := ok.sh x m1
  have s2 := ok.sh y m2
  have n1 := ok.nx x m1
  have n2 := ok.nx y m2
  have e3 : (((y :: L).reverse ++ x :: R).set (L.length + 1) y).set L.length x = L.reverse ++ x :: y :: R := by
   rw [List.set_append_right _ _ (by simp), List.set_append_left _ _ (by simp)]
   simp
  have hp : ((y :: L).reverse ++ x :: R).Perm (L.reverse ++ x :: y :: R) := by
   simp
   exact (List.Perm.swap x y R).append_left _
  have w1 : IntKind.i64.wrap (L.length : Int) = L.length := w64 (by omega)
  have h0 : (0 : Int) < (L.length : Int) + 1 := by omega
  have h00 : (0 : Int) ≤ (L.length : Int) + 1 := by omega
  have h1 : L.length + 1 < n := by omega
  have h2 : L.length < n := by omega
  have h3 : L.length < ((y :: L).reverse ++ x :: R).length := by omega
  have h4 : L.length + 1 < ((y :: L).reverse ++ x :: R).length := by omega
  have e4 : (((y :: L).reverse ++ x :: R).set (L.length + 1) y)[L.length]? = some y := by
   rw [List.getElem?_set_ne (by omega), e2]
  unfold insG
  rw [hj, show ((L.length + 1 : Nat) : Int) = (L.length : Int) + 1 by omega]
  generalize (y :: L).reverse ++ x :: R = cs at *
  have e1' : cs[L.length + 1] = x := by rw [List.getElem?_eq_getElem h4] at e1; exact Option.some.inj e1
  have e2' : cs[L.length] = y := by rw [List.getElem?_eq_getElem h3] at e2; exact Option.some.inj e2
  by_cases hlt : f x < f y
  ·rw [if_pos hlt]
   obtain ⟨j, e⟩ := l_insR hn L x (y :: R) (by rw [← hp.length_eq]; omega) (ok.perm hp.symm)
   have hc := cneg.2 hlt
   refine ⟨j, dn_round ?_ e⟩
   simp -implicitDefEqProofs [ir_slices_insertionSortCmpFunc_impl_row_L0, dn_cond, h0, h00, h1, h2, h3, h4, e1', e2', c, s1, s2, n1, n2, w1, hc, e3]
  ·rw [if_neg hlt]
   have hc := mt cneg.1 hlt
   refine ⟨(L.length : Int) + 1, dn_stop ?_⟩
   simp -implicitDefEqProofs [ir_slices_insertionSortCmpFunc_impl_row_L0, dn_cond, h0, h00, h1, h2, h3, h4, e1', e2', c, s1, s2, w1, hc]
end
theorem l_srtR {O : Oracle} {g : Nat} {first caps : List D} {f : D → Int} {n : Nat} {cp : Option Nat} (hn : n ≤ 1000) : ∀ (r P : List D), P.length + r.length = n → 0 < P.length → CmpRow O g first caps f .leaf (P ++ r) →
 dn O 1 (.loop ir_slices_insertionSortCmpFunc_impl_row_L1) ⟨[(0, .sl 0 [] 0 n cp), (1, (.d (.int .i64 0))), (2, (.d (.int .i64 n))), (3, .d (.fn g first caps)), (8, (.d (.int .i64 P.length)))], [.sl false .leaf (P ++ r)]⟩ =
  some (.exit 0, ⟨[(0, .sl 0 [] 0 n cp), (1, (.d (.int .i64 0))), (2, (.d (.int .i64 n))), (3, .d (.fn g first caps)), (8, (.d (.int .i64 n))), (14, (.d (.bool false)))], [.sl false .leaf (srtG f P r)]⟩)
 | [], P, hl, hP, ok => by
  have hl' : P.length = n := by simpa using hl
  refine dn_stop ?_
  simp -implicitDefEqProofs [ir_slices_insertionSortCmpFunc_impl_row_L1, dn_cond, srtG, hl']
 | x :: r, P, hl, hP, ok => by
  simp at hl
  have e0 : P.reverse.reverse ++ x :: r = P ++ x :: r := by simp
  obtain ⟨j, e⟩ := l_insR (O := O) (g := g) (first := first) (caps := caps) (f := f) (n := n) (cp := cp) hn (i := P.length) P.reverse x r (by simp; omega) (by rw [e0]; exact ok)
  rw [e0, List.length_reverse, ← List.nil_append r, insG_app, List.nil_append] at e
  have hlen := insG_len f P.reverse x []
  rw [List.length_reverse, List.length_nil, Nat.add_zero] at hlen
  have hperm : (insG f P.reverse x [] ++ r).Perm (P ++ x :: r) := by
   refine (List.Perm.append_right r (insG_perm f P.reverse x [])).trans ?_
   simp
   exact List.perm_middle.symm
  have ih := l_srtR (O := O) (g := g) (first := first) (caps := caps) (f := f) (cp := cp) hn r (insG f P.reverse x []) (by rw [hlen]; omega) (by omega) (ok.perm hperm)
  have hlt : P.length < n := by omega
  have w1 : IntKind.i64.wrap ((P.length : Int) + 1) = ((P.length + 1 : Nat) : Int) := (w64 (x := (P.length : Int) + 1) (by omega)).trans (by omega)
  rw [hlen] at ih
  unfold srtG
  refine dn_round ?_ ih
  simp -implicitDefEqProofs [ir_slices_insertionSortCmpFunc_impl_row_L1, dn_cond, hlt, e, w1]
def H_sortR (O : Oracle) (F : Nat) (args : V → List V → List V) : Prop := ∀ (g : Nat) (first caps : List D) (f : D → Int) (cs : List D) (cp : Option Nat), cs.length ≤ 12 → CmpRow O g first caps f .leaf cs →
 ∃ ds : List D, ds.Perm cs ∧ Asc f ds ∧ O F (args (.sl 0 [] 0 cs.length cp) [(.d (.int .i64 cs.length)), .d (.fn g first caps)]) [.sl false .leaf cs] = some (.tup [], [.sl false .leaf ds], [])
def H_insRow (O : Oracle) : Prop := H_sortR O F2f fun s l => [s, (.d (.int .i64 0))] ++ l
theorem h_insRow (hT : T F2f = some Z2f) : H_insRow (den T A) := by
 intro g first caps f cs cp hl ok
 cases cs with
 | nil =>
  refine ⟨[], .refl _, List.Pairwise.nil, den_of hT rfl ?_⟩
  have st := dn_stop (O := den T A) (np := 1) (c := ir_slices_insertionSortCmpFunc_impl_row_L1) (s := ⟨[(0, .sl 0 [] 0 0 cp), (1, (.d (.int .i64 0))), (2, (.d (.int .i64 0))), (3, .d (.fn g first caps)), (8, (.d (.int .i64 1)))], [.sl false .leaf []]⟩) (s1 := ⟨[(0, .sl 0 [] 0 0 cp), (1, (.d (.int .i64 0))), (2, (.d (.int .i64 0))), (3, .d (.fn g first caps)), (8, (.d (.int .i64 1))), (14, (.d (.bool false)))], [.sl false .leaf []]⟩) (id := 0) (by simp -implicitDefEqProofs [ir_slices_insertionSortCmpFunc_impl_row_L1, dn_cond])
  have w1 : IntKind.i64.wrap 1 = 1 := w64 (by omega)
  simp -implicitDefEqProofs [Z2f, ir_slices_insertionSortCmpFunc_impl_row_B, st, w1]
 | cons x r =>
  have e := l_srtR (O := den T A) (g := g) (first := first) (caps := caps) (f := f) (n := (x :: r).length) (cp := cp) (by omega) r [x] (by simp; omega) (by simp) ok
  have e1 : (([x] : List D).length : Int) = 1 := rfl
  rw [e1] at e
  refine ⟨srtG f [x] r, srtG_perm f r [x], srtG_asc f r [x] (List.pairwise_singleton _ _), den_of hT rfl ?_⟩
  have w1 : IntKind.i64.wrap 1 = 1 := w64 (by omega)
  rw [List.singleton_append] at e
  generalize x :: r = cs at *
  simp -implicitDefEqProofs [Z2f, ir_slices_insertionSortCmpFunc_impl_row_B, e, w1]
theorem h_pdqRow (hT : T F2u = some Z2u) (hi : H_insRow (den T A)) : ∀ (g : Nat) (first caps : List D) (f : D → Int) (cs : List D) (cp : Option Nat) (v : Int), cs.length ≤ 12 → CmpRow (den T A) g first caps f .leaf cs →
 ∃ ds : List D, ds.Perm cs ∧ Asc f ds ∧ den T A F2u [.sl 0 [] 0 cs.length cp, (.d (.int .i64 0)), (.d (.int .i64 cs.length)), (.d (.int .i64 v)), .d (.fn g first caps)] [.sl false .leaf cs] = some (.tup [], [.sl false .leaf ds], []) := by
 intro g first caps f cs cp v hl ok
 obtain ⟨ds, h1, h2, e⟩ := hi g first caps f cs cp hl ok
 refine ⟨ds, h1, h2, den_of hT rfl ?_⟩
 have w1 : IntKind.i64.wrap (cs.length : Int) = cs.length := w64 (by omega)
 have h12 : (cs.length : Int) ≤ 12 := by omega
 have lp := dn_back (O := den T A) (np := 1) (c := ir_slices_pdqsortCmpFunc_impl_row_L0) (s := ⟨[(0, .sl 0 [] 0 cs.length cp), (1, (.d (.int .i64 0))), (2, (.d (.int .i64 cs.length))), (3, (.d (.int .i64 v))), (4, .d (.fn g first caps)), (10, (.d (.bool true))), (11, (.d (.bool true)))], [.sl false .leaf cs]⟩) (s1 := ⟨[], [.sl false .leaf ds]⟩) (by
  simp at e
  simp -implicitDefEqProofs [ir_slices_pdqsortCmpFunc_impl_row_L0, dn_cond, w1, h12, e, List.idxOf, List.findIdx, List.findIdx.go])
 simp -implicitDefEqProofs [Z2u, ir_slices_pdqsortCmpFunc_impl_row_B, lp]
def H_sortRow (O : Oracle) : Prop := ∀ (g : Nat) (first caps : List D) (f : D → Int) (cs : List D) (cp : Option Nat), cs.length ≤ 12 → CmpRow O g first caps f .leaf cs →
 ∃ ds : List D, ds.Perm cs ∧ Asc f ds ∧ O F27 [.sl 0 [] 0 cs.length cp, .d (.fn g first caps)] [.sl false .leaf cs] = some (.tup [], [.sl false .leaf ds], [])
theorem h_sortRow (hT : T F27 = some Z27) (hTp : T F2u = some Z2u) (hi : H_insRow (den T A)) (hl : C_len64 (den T A) F1w) : H_sortRow (den T A) := by
 intro g first caps f cs cp hl12 ok
 obtain ⟨v, ev⟩ := hl cs.length hl12
 obtain ⟨ds, h1, h2, e⟩ := h_pdqRow hTp hi g first caps f cs cp v hl12 ok
 refine ⟨ds, h1, h2, den_of hT rfl ?_⟩
 have w1 : IntKind.u64.wrap (cs.length : Int) = cs.length := by
  simp [IntKind.wrap, IntKind.bits, IntKind.signed]; omega
 simp -implicitDefEqProofs [Z27, ir_slices_SortFunc_impl_row_impl_row_B, w1, ev, e, List.idxOf, List.findIdx, List.findIdx.go]
end Pe

namespace Pe
open Go Gq
variable {T : Nat → Option Fn} {A : Oracle}
section
variable {p : Int}
noncomputable def elim (a b : Fp p) : Fp p := b + Pol.C (-(b.c (a.len - 1))) * a
noncomputable def redS : List (Fp p) → Fp p → Fp p
 | [], a => a
 | b :: bs, a => redS bs (elim b a)
noncomputable def insS (a : Fp p) : List (Fp p) → List (Fp p)
 | [] => [a]
 | b :: bs => if b.len < a.len then a :: (b :: bs).map (elim a) else elim a b :: insS a bs
theorem insS_perm (a : Fp p) : ∀ L : List (Fp p), (insS a L).Perm (L.map (elim a) ++ [a])
 | [] => .refl _
 | b :: bs => by
  unfold insS
  split
  ·exact (List.perm_append_singleton a ((b :: bs).map (elim a))).symm
  ·exact (insS_perm a bs).cons _
theorem c_ge {a : Fp p} {n : Nat} (h : a.len ≤ n) : a.c n = 0 := a.lt_len n h
theorem elim_c (a b : Fp p) (n : Nat) : (elim a b).c n = b.c n + -(b.c (a.len - 1)) * a.c n := by
 unfold elim; rw [Pol.c_add, Pol.c_Cmul]
theorem insS_mem {a c : Fp p} : ∀ {L : List (Fp p)}, c ∈ insS a L → c = a ∨ ∃ b ∈ L, c = elim a b := fun {L} h => by
 have := (insS_perm a L).subset h
 rcases List.mem_append.1 this with h | h
 ·obtain ⟨b, hb, rfl⟩ := List.mem_map.1 h; exact .inr ⟨b, hb, rfl⟩
 ·exact .inl (by simpa using h)
noncomputable abbrev rowD (a : Fp p) : D := (D.sl .leaf (ints .i64 (row a)))
def lenK : D → Int
 | .sl _ cs => -(cs.length : Int)
 | _ => 0
theorem lenK_row (a : Fp p) : lenK (rowD a) = -(a.len : Int) := by
 show -((ints .i64 (row a)).length : Int) = _
 rw [ints_length, row_length]
theorem sorted_is {L M : List (Fp p)} (hp : M.Perm L) (hL : L.Pairwise fun x y => y.len < x.len) (hM : M.Pairwise fun x y => y.len ≤ x.len) : M = L := by
 refine List.Perm.eq_of_pairwise (le := fun x y : Fp p => y.len ≤ x.len) (fun a b ha hb h1 h2 => ?_) hM (hL.imp fun h => by omega) hp
 have ha' := hp.subset ha
 have e : a.len = b.len := Nat.le_antisymm h2 h1
 clear h1 h2 hM
 induction L generalizing M with
 | nil => cases hb
 | cons c L ih =>
  obtain ⟨g1, g2⟩ := List.pairwise_cons.1 hL
  rcases List.mem_cons.1 ha' with rfl | ha1
  ·rcases List.mem_cons.1 hb with rfl | hb1
   ·rfl
   ·have := g1 b hb1; omega
  ·rcases List.mem_cons.1 hb with rfl | hb1
   ·have := g1 a ha1; omega
   ·exact ih (M := L) (.refl _) g2 ha1 hb1 ha1
theorem redS_keep {n : Nat} : ∀ {L : List (Fp p)} {a : Fp p}, (∀ b ∈ L, b.len ≤ n) → (redS L a).c n = a.c n
 | [], _, _ => rfl
 | b :: L, a, h => by
  show (redS L (elim b a)).c n = _
  rw [redS_keep (L := L) (fun c hc => h c (by simp [hc])), elim_c, c_ge (a := b) (h b (by simp)), Gq.mul_zero, Gq.add_zero]
end
section
variable {p : Int} [IsP p]
structure Desc (N : Nat) (L : List (Fp p)) : Prop where
 pw : L.Pairwise fun x y => y.len < x.len
 mon : ∀ b ∈ L, Monic b
 le : ∀ b ∈ L, b.len ≤ N
theorem Desc.nil (N : Nat) : Desc N ([] : List (Fp p)) := ⟨List.Pairwise.nil, (fun _ h => by cases h), (fun _ h => by cases h)⟩
theorem Desc.tail {N : Nat} {b : Fp p} {L : List (Fp p)} (h : Desc N (b :: L)) : Desc N L ∧ ∀ c ∈ L, c.len < b.len :=
 ⟨⟨h.pw.tail, fun c hc => h.mon c (by simp [hc]), fun c hc => h.le c (by simp [hc])⟩, (List.pairwise_cons.1 h.pw).1⟩
theorem Desc.length : ∀ {N : Nat} {L : List (Fp p)}, Desc N L → L.length ≤ N
 | N, [], _ => Nat.zero_le _
 | N, b :: L, h => by
  obtain ⟨h1, h2⟩ := h.tail
  have hb := Pol.len_pos (h.mon b (by simp)).2
  have hle := h.le b (by simp)
  have := Desc.length (N := b.len - 1) ⟨h1.pw, h1.mon, fun c hc => by have := h2 c hc; omega⟩
  rw [List.length_cons]; omega
theorem elim_le {N : Nat} {a b : Fp p} (ha : a.len ≤ N) (hb : b.len ≤ N) : (elim a b).len ≤ N := by
 unfold elim
 refine Pol.len_add_le hb (Pol.len_le fun i hi => ?_)
 rw [Pol.c_Cmul, c_ge (a := a) (by omega), Gq.mul_zero]
theorem elim_at {a : Fp p} (ha : Monic a) (b : Fp p) : (elim a b).c (a.len - 1) = 0 := by
 rw [elim_c, show a.c (a.len - 1) = 1 from ha.1, Gq.mul_one]
 exact Gq.add_neg _
theorem redS_le {N : Nat} : ∀ {L : List (Fp p)} {a : Fp p}, (∀ b ∈ L, b.len ≤ N) → a.len ≤ N → (redS L a).len ≤ N
 | [], _, _, ha => ha
 | b :: L, a, h, ha => redS_le (L := L) (fun c hc => h c (by simp [hc])) (elim_le (h b (by simp)) ha)
theorem redS_zero {N : Nat} : ∀ {L : List (Fp p)} {a : Fp p}, Desc N L → ∀ b ∈ L, (redS L a).c (b.len - 1) = 0
 | b :: L, a, h, c, hc => by
  obtain ⟨h1, h2⟩ := h.tail
  show (redS L (elim b a)).c _ = 0
  rcases List.mem_cons.1 hc with rfl | hc
  ·rw [redS_keep (L := L) (fun d hd => by have := h2 d hd; omega), elim_at (h.mon c (by simp))]
  ·exact redS_zero h1 c hc
theorem redS_ne {N : Nat} {L : List (Fp p)} {a : Fp p} (h : Desc N L) (h0 : redS L a ≠ 0) : ∀ b ∈ L, b.len ≠ (redS L a).len := fun b hb e => by
 have h1 := redS_zero (a := a) h b hb
 rw [e] at h1
 exact Pol.ld_ne h0 h1
theorem elim_mon {a b : Fp p} (hb : Monic b) (hne : b.len ≠ a.len) : Monic (elim a b) ∧ (elim a b).len = b.len := by
 have hbp := Pol.len_pos hb.2
 rcases Nat.lt_or_ge b.len a.len with h | h
 ·have : elim a b = b := by
   unfold elim
   rw [c_ge (by omega), Gq.neg_zero, Pol.C_zero, Gq.zero_mul, Gq.add_zero]
  rw [this]; exact ⟨hb, rfl⟩
 ·have hc : (elim a b).c (b.len - 1) = 1 := by
   rw [elim_c, c_ge (a := a) (by omega), Gq.mul_zero, Gq.add_zero]; exact hb.1
  have hl : (elim a b).len = b.len := by
   have h1 : (elim a b).len = (b.len - 1) + 1 := Pol.len_eq (Pol.lt_iff.2 (by
    rw [Nat.sub_add_cancel hbp]; exact elim_le h (Nat.le_refl _))) (by rw [hc]; exact Fd.one_ne)
   omega
  refine ⟨⟨by unfold Pol.ld; rw [hl]; exact hc, fun h0 => ?_⟩, hl⟩
  rw [h0, Pol.len_zero] at hl
  omega
theorem insS_desc {N : Nat} {a : Fp p} (ha : Monic a) (hal : a.len ≤ N) : ∀ {L : List (Fp p)}, Desc N L → (∀ b ∈ L, b.len ≠ a.len) → Desc N (insS a L)
 | [], _, _ => ⟨List.pairwise_singleton _ _, fun b hb => by simp [insS] at hb; rw [hb]; exact ha, fun b hb => by simp [insS] at hb; rw [hb]; exact hal⟩
 | b :: L, h, hne => by
  obtain ⟨h1, h2⟩ := h.tail
  have hall : ∀ c ∈ b :: L, Monic (elim a c) ∧ (elim a c).len = c.len := fun c hc => elim_mon (h.mon c hc) (hne c hc)
  refine ⟨?_, fun c hc => ?_, fun c hc => ?_⟩
  ·unfold insS
   split
   ·rename_i hlt
    refine List.pairwise_cons.2 ⟨fun c hc => ?_, ?_⟩
    ·obtain ⟨d, hd, rfl⟩ := List.mem_map.1 hc
     rw [(hall d hd).2]
     rcases List.mem_cons.1 hd with rfl | hd
     ·exact hlt
     ·have := h2 d hd; omega
    ·rw [List.pairwise_map]
     refine h.pw.imp_of_mem fun {x y} hx hy hxy => ?_
     rw [(hall x hx).2, (hall y hy).2]; exact hxy
   ·rename_i hge
    refine List.pairwise_cons.2 ⟨fun c hc => ?_, (insS_desc ha hal h1 fun c hc => hne c (by simp [hc])).pw⟩
    rw [(hall b (by simp)).2]
    rcases insS_mem hc with rfl | ⟨d, hd, rfl⟩
    ·have := hne b (by simp); omega
    ·rw [(hall d (by simp [hd])).2]; exact h2 d hd
  ·rcases insS_mem hc with rfl | ⟨d, hd, rfl⟩
   ·exact ha
   ·exact (hall d hd).1
  ·rcases insS_mem hc with rfl | ⟨d, hd, rfl⟩
   ·exact hal
   ·rw [(hall d hd).2]; exact h.le d hd
noncomputable def putS (L : List (Fp p)) (x : Fp p) : List (Fp p) := by
 classical exact if redS L x = 0 then L else insS (Gq.mon (redS L x)) L
theorem putS_zero {L : List (Fp p)} {x : Fp p} (h : redS L x = 0) : putS L x = L := by unfold putS; rw [if_pos h]
theorem putS_ne {L : List (Fp p)} {x : Fp p} (h : redS L x ≠ 0) : putS L x = insS (Gq.mon (redS L x)) L := by unfold putS; rw [if_neg h]
noncomputable def spanS : List (Fp p) → List (Fp p) → List (Fp p)
 | [], L => L
 | x :: xs, L => spanS xs (putS L x)
theorem putS_desc {N : Nat} {L : List (Fp p)} {x : Fp p} (h : Desc N L) (hx : x.len ≤ N) : Desc N (putS L x) := by
 by_cases h0 : redS L x = 0
 ·rw [putS_zero h0]; exact h
 ·rw [putS_ne h0]
  exact insS_desc (mon_monic h0) (by rw [mon_len h0]; exact redS_le h.le hx) h fun b hb => by rw [mon_len h0]; exact redS_ne h h0 b hb
end
section
variable {p : Int}
theorem sort_row {a : Fp p} {L : List (Fp p)} {ds : List D} (hd : (insS a L).Pairwise fun x y => y.len < x.len) (hp : ds.Perm ((L.map (elim a) ++ [a]).map rowD)) (hs : Asc lenK ds) : ds = (insS a L).map rowD := by
 obtain ⟨M, p1, p2⟩ := perm_map_ex rowD hp.symm (L.map (elim a) ++ [a]) rfl
 subst p2
 have : M = insS a L := sorted_is (p1.trans (insS_perm a L).symm) hd (by
  unfold Asc at hs
  rw [List.pairwise_map] at hs
  exact hs.imp fun h => by rw [lenK_row, lenK_row] at h; omega)
 rw [this]
end
end Pe

namespace Pe
open Go Gq
variable {T : Nat → Option Fn} {A : Oracle}
section
variable {p : Int} [IsP p]
theorem rep_small (x : Zp p) : 0 ≤ rep x ∧ rep x ≤ 7 := by
 have h1 := rep_in x
 have h2 := IsP.le (p := p)
 omega
theorem k_elim {O : Oracle} (hc : K_combine O) {a b : Fp p} (ha : a.len ≤ 64) (hb : b.len ≤ 64) : ask O Fu [(D.int .i64 p), (D.sl .leaf (ints .i64 (row b))), (D.sl .leaf (ints .i64 (row a))), (D.int .i64 (-rep (b.c (a.len - 1))))] = some (D.sl .leaf (ints .i64 (row (elim a b)))) := by
 have h := rep_small (b.c (a.len - 1))
 have := hc p (-rep (b.c (a.len - 1))) b a (by omega) (by omega) (by omega) (by omega)
 rw [zp_neg, zp_rep] at this
 exact this
theorem l_red0 {O : Oracle} (hat : C_at O) (hc : K_combine O) {L : List (Fp p)} {N : Nat} (hN : N ≤ 12) (hL : Desc N L) {xs : List D} {nx i : Int} {n : Nat} (hn : L.length = n) {cp cp2 : Option Nat} : ∀ (r j : Nat) (a : Fp p), j + r = n → a.len ≤ N →
 dn O 0 (.loop Z16_L0) ⟨[(0, (.d (.int .i64 p))), (5, .sl 0 [] 0 n cp), (7, (.d (.sl .leaf (ints .i64 (row a))))), (12, .d (.sl .leaf xs)), (13, (.d (.int .i64 nx))), (14, (.d (.int .i64 i))), (18, .sl 0 [] 0 n cp2), (19, (.d (.int .i64 n))), (20, (.d (.int .i64 j)))], [.sl false .leaf (L.map rowD), .hole, .hole]⟩ =
  some (.exit 2, ⟨[(0, (.d (.int .i64 p))), (5, .sl 0 [] 0 n cp), (7, (.d (.sl .leaf (ints .i64 (row (redS (L.drop j) a)))))), (12, .d (.sl .leaf xs)), (13, (.d (.int .i64 nx))), (14, (.d (.int .i64 i))), (18, .sl 0 [] 0 n cp2), (19, (.d (.int .i64 n))), (20, (.d (.int .i64 n))), (21, (.d (.bool false)))], [.sl false .leaf (L.map rowD), .hole, .hole]⟩)
 | 0, j, a, hj, ha => by
  obtain rfl : j = n := by omega
  rw [List.drop_eq_nil_of_le (by omega)]
  refine dn_stop ?_
  show _ = some (_, (⟨[_, _, (7, (.d (.sl .leaf (ints .i64 (row a))))), _, _, _, _, _, _, _], _⟩ : St))
  generalize L.map rowD = LD at *
  simp -implicitDefEqProofs [Z16_L0, dn_cond]
 | r + 1, j, a, hj, ha => by
  have hlt : j < L.length := by omega
  have hll := hL.length
  have hjn : j < n := by omega
  have hm := List.getElem_mem hlt
  have hbl := hL.le _ hm
  have hbp := Pol.len_pos (hL.mon _ hm).2
  have e1 := hat (row a) (L[j].len - 1) (by omega)
  rw [row_cf] at e1
  have e2 := k_elim (O := O) hc (a := L[j]) (b := a) (by omega) (by omega)
  have w1 : IntKind.i64.wrap (((row L[j]).length : Int) - 1) = ((L[j].len - 1 : Nat) : Int) := by rw [row_length]; exact (w64 (by omega)).trans (by omega)
  have hr := rep_small (a.c (L[j].len - 1))
  have w2' : IntKind.i64.wrap (-rep (a.c (L[j].len - 1))) = -rep (a.c (L[j].len - 1)) := w64 (by omega)
  have w4 : IntKind.i64.wrap ((j : Int) + 1) = ((j + 1 : Nat) : Int) := (w64 (x := (j : Int) + 1) (by omega)).trans (by omega)
  have hx : ∀ h : j < (L.map rowD).length, (L.map rowD)[j]'h = (D.sl .leaf (ints .i64 (row L[j]))) := fun h => by rw [List.getElem_map]
  have hLD : (L.map rowD).length = n := by rw [List.length_map]; exact hn
  have hd : redS (L.drop j) a = redS (L.drop (j + 1)) (elim L[j] a) := by rw [List.drop_eq_getElem_cons hlt]; rfl
  have hjl : (j : Int) < n := by omega
  rw [hd]
  refine dn_round ?_ (l_red0 hat hc hN hL hn r (j + 1) (elim L[j] a) (by omega) (elim_le hbl ha))
  generalize rep (a.c (L[j].len - 1)) = k at *
  generalize row (elim L[j] a) = R1 at *
  generalize row a = R2 at *
  generalize row L[j] = R3 at *
  generalize L[j].len - 1 = d at *
  generalize L.map rowD = LD at *
  simp -implicitDefEqProofs [Z16_L0, dn_cond, hjl, hjn, hLD, hx, e1, e2, w1, w2', w4]
theorem l_red1 {O : Oracle} (hat : C_at O) (hc : K_combine O) {a : Fp p} (ha : a ≠ 0) (hal : a.len ≤ 12) {xs : List D} {nx i : Int} {n : Nat} {cp cp2 : Option Nat} : ∀ (r j : Nat) (Q : List (Fp p)), j + r = n → Q.length = n → (∀ b ∈ Q, b.len ≤ 12) → n ≤ 12 →
 dn O 0 (.loop Z16_L1) ⟨[(0, (.d (.int .i64 p))), (5, .sl 0 [] 0 n cp), (7, (.d (.sl .leaf (ints .i64 (row a))))), (12, .d (.sl .leaf xs)), (13, (.d (.int .i64 nx))), (14, (.d (.int .i64 i))), (45, .sl 0 [] 0 n cp2), (46, (.d (.int .i64 n))), (47, (.d (.int .i64 j)))], [.sl false .leaf (Q.map rowD), .hole, .hole]⟩ =
  some (.exit 4, ⟨[(0, (.d (.int .i64 p))), (5, .sl 0 [] 0 n cp), (7, (.d (.sl .leaf (ints .i64 (row a))))), (12, .d (.sl .leaf xs)), (13, (.d (.int .i64 nx))), (14, (.d (.int .i64 i))), (45, .sl 0 [] 0 n cp2), (46, (.d (.int .i64 n))), (47, (.d (.int .i64 n))), (48, (.d (.bool false)))], [.sl false .leaf ((Q.take j ++ (Q.drop j).map (elim a)).map rowD), .hole, .hole]⟩)
 | 0, j, Q, hj, hq, hQ, hn => by
  obtain rfl : j = n := by omega
  have : Q.take j ++ (Q.drop j).map (elim a) = Q := by rw [List.drop_eq_nil_of_le (by omega), List.take_of_length_le (by omega)]; simp
  rw [this]
  refine dn_stop ?_
  generalize Q.map rowD = LD at *
  simp -implicitDefEqProofs [Z16_L1, dn_cond]
 | r + 1, j, Q, hj, hq, hQ, hn => by
  have hlt : j < Q.length := by omega
  have hjn : j < n := by omega
  have hm := List.getElem_mem hlt
  have hbl := hQ _ hm
  have hap := Pol.len_pos ha
  have e1 := hat (row Q[j]) (a.len - 1) (by omega)
  rw [row_cf] at e1
  have e2 := k_elim (O := O) hc (a := a) (b := Q[j]) (by omega) (by omega)
  have w1 : IntKind.i64.wrap (((row a).length : Int) - 1) = ((a.len - 1 : Nat) : Int) := by rw [row_length]; exact (w64 (by omega)).trans (by omega)
  have hr := rep_small (Q[j].c (a.len - 1))
  have w2' : IntKind.i64.wrap (-rep (Q[j].c (a.len - 1))) = -rep (Q[j].c (a.len - 1)) := w64 (by omega)
  have w4 : IntKind.i64.wrap ((j : Int) + 1) = ((j + 1 : Nat) : Int) := (w64 (x := (j : Int) + 1) (by omega)).trans (by omega)
  have hx : ∀ h : j < (Q.map rowD).length, (Q.map rowD)[j]'h = (D.sl .leaf (ints .i64 (row Q[j]))) := fun h => by rw [List.getElem_map]
  have hLD : (Q.map rowD).length = n := by rw [List.length_map]; exact hq
  have hset : (Q.set j (elim a Q[j])).take (j + 1) ++ ((Q.set j (elim a Q[j])).drop (j + 1)).map (elim a) = Q.take j ++ (Q.drop j).map (elim a) := by
   rw [List.drop_set_of_lt (by omega), List.take_succ_eq_append_getElem (by rw [List.length_set]; exact hlt), List.getElem_set_self, List.take_set, List.set_eq_of_length_le (by rw [List.length_take]; omega), List.drop_eq_getElem_cons hlt, List.map_cons, List.append_assoc]
   rfl
  rw [← hset]
  refine dn_round ?_ (l_red1 hat hc ha hal r (j + 1) (Q.set j (elim a Q[j])) (by omega) (by rw [List.length_set]; exact hq) (fun b hb => by
   rcases List.mem_or_eq_of_mem_set hb with h | rfl
   ·exact hQ b h
   ·exact elim_le hal hbl) hn)
  have hms : (Q.set j (elim a Q[j])).map rowD = (Q.map rowD).set j (D.sl .leaf (ints .i64 (row (elim a Q[j])))) := List.map_set
  rw [hms]
  have hjl : (j : Int) < n := by omega
  generalize rep (Q[j].c (a.len - 1)) = k at *
  generalize row (elim a Q[j]) = R1 at *
  generalize row Q[j] = R2 at *
  generalize row a = R3 at *
  generalize a.len - 1 = d at *
  generalize Q.map rowD = LD at *
  simp -implicitDefEqProofs [Z16_L1, dn_cond, hjl, hjn, hLD, hx, e1, e2, w1, w2', w4]
theorem l_red2 {O : Oracle} (hat : C_at O) (hc : K_combine O) (hld : C_lead O) (hinv : C_inverse O) (hsc : K_scale O) (hsort : H_sortRow O) (hcmp : ∀ L : List (Fp p), (∀ x ∈ L, x.len ≤ 1000) → CmpRow O F17 [] [] lenK .leaf (L.map rowD)) {xs : List (Fp p)} {N : Nat} (hN : N ≤ 11) (hxs : ∀ x ∈ xs, x.len ≤ N) (hxl : xs.length < 2000000) : ∀ (r i : Nat) (L : List (Fp p)) (cp : Option Nat), i + r = xs.length → Desc N L → ∃ cp' : Option Nat,
 dn O 0 (.loop Z16_L2) ⟨[(0, (.d (.int .i64 p))), (5, .sl 0 [] 0 L.length cp), (12, .d (.sl .leaf (xs.map rowD))), (13, (.d (.int .i64 xs.length))), (14, (.d (.int .i64 i)))], [.sl false .leaf (L.map rowD), .hole, .hole]⟩ =
  some (.exit 0, ⟨[(0, (.d (.int .i64 p))), (5, .sl 0 [] 0 (spanS (xs.drop i) L).length cp'), (12, .d (.sl .leaf (xs.map rowD))), (13, (.d (.int .i64 xs.length))), (14, (.d (.int .i64 xs.length))), (15, (.d (.bool false)))], [.sl false .leaf ((spanS (xs.drop i) L).map rowD), .hole, .hole]⟩)
 | 0, i, L, cp, hi, hL => by
  obtain rfl : i = xs.length := by omega
  rw [List.drop_length]
  refine ⟨cp, dn_stop ?_⟩
  show _ = some (_, (⟨[_, (5, .sl 0 [] 0 L.length cp), _, _, _, _], [.sl false .leaf (L.map rowD), _, _]⟩ : St))
  generalize L.map rowD = LD at *
  generalize xs.map rowD = XD at *
  simp -implicitDefEqProofs [Z16_L2, dn_cond]
 | r + 1, i, L, cp, hi, hL => by
  have hlt : i < xs.length := by omega
  have hm := List.getElem_mem hlt
  have hxi := hxs _ hm
  have hll := hL.length
  have hd : spanS (xs.drop i) L = spanS (xs.drop (i + 1)) (putS L xs[i]) := by rw [List.drop_eq_getElem_cons hlt]; rfl
  have hx : ∀ h : i < (xs.map rowD).length, (xs.map rowD)[i]'h = (D.sl .leaf (ints .i64 (row xs[i]))) := fun h => by rw [List.getElem_map]
  have hXD : (xs.map rowD).length = xs.length := List.length_map ..
  have hLD : (L.map rowD).length = L.length := List.length_map ..
  have w4 : IntKind.i64.wrap ((i : Int) + 1) = ((i + 1 : Nat) : Int) := (w64 (x := (i : Int) + 1) (by omega)).trans (by omega)
  have e0 := l_red0 (O := O) hat hc (by omega) hL (xs := xs.map rowD) (nx := xs.length) (i := i) rfl (cp := cp) (cp2 := cp) L.length 0 xs[i] (Nat.zero_add _) hxi
  have e00 : ((0 : Nat) : Int) = 0 := rfl
  rw [e00, List.drop_zero] at e0
  have hrl := redS_le (L := L) hL.le hxi
  rw [hd]
  by_cases h0 : redS L xs[i] = 0
  ·rw [putS_zero h0]
   obtain ⟨cp', ih⟩ := l_red2 hat hc hld hinv hsc hsort hcmp hN hxs hxl r (i + 1) L cp (by omega) hL
   refine ⟨cp', dn_round ?_ ih⟩
   rw [h0, row_zero] at e0
   generalize row xs[i] = R1 at *
   generalize L.map rowD = LD at *
   generalize xs.map rowD = XD at *
   simp -implicitDefEqProofs [Z16_L2, dn_cond, hlt, hXD, hx, e0, w4, ints_nil]
  ·have hap := Pol.len_pos h0
   have hml := mon_len h0
   have hmm := mon_monic h0
   have hld0 := Pol.ld_ne h0
   have hri := rep_in (redS L xs[i]).ld
   have hp7 := IsP.le (p := p)
   have hp2 := IsP.ge (p := p)
   have hr0 : rep (redS L xs[i]).ld ≠ 0 := fun h => hld0 (rep_eq_zero.1 h)
   have e2 := hld (row (redS L xs[i])) (by rw [row_length]; omega)
   rw [ld_row] at e2
   have e3 := hinv p (rep (redS L xs[i]).ld) (by omega) (by omega) (by omega) (by omega)
   have hin := inv_in (p := p) (rep (redS L xs[i]).ld)
   have e4 := hsc p (inv p (rep (redS L xs[i]).ld)) (redS L xs[i]) (by omega) (by omega) (by omega)
   rw [finv_rep _ hld0, show Pol.C (Fd.inv (redS L xs[i]).ld) * redS L xs[i] = Gq.mon (redS L xs[i]) from rfl] at e4
   have e5 := l_red1 (O := O) hat hc hmm.2 (by omega) (xs := xs.map rowD) (nx := xs.length) (i := i) (n := L.length) (cp := cp) (cp2 := cp) L.length 0 L (Nat.zero_add _) rfl (fun b hb => by have := hL.le b hb; omega) (by omega)
   rw [e00, List.take_zero, List.nil_append, List.drop_zero] at e5
   have hne : ∀ b ∈ L, b.len ≠ (Gq.mon (redS L xs[i])).len := fun b hb => by rw [hml]; exact redS_ne hL h0 b hb
   have hins := insS_desc hmm (by omega) hL hne
   obtain ⟨ds, s1, s2, s3⟩ := hsort F17 [] [] lenK ((L.map (elim (Gq.mon (redS L xs[i]))) ++ [Gq.mon (redS L xs[i])]).map rowD) none (by rw [List.length_map, List.length_append, List.length_map, List.length_singleton]; omega) (hcmp _ fun x hx => by
    rcases List.mem_append.1 hx with h | h
    ·obtain ⟨b, hb, rfl⟩ := List.mem_map.1 h
     have := elim_le (N := N) (a := Gq.mon (redS L xs[i])) (by omega) (hL.le b hb)
     omega
    ·obtain rfl : x = _ := by simpa using h
     omega)
   rw [sort_row hins.pw s1 s2] at s3
   have hpl := (insS_perm (Gq.mon (redS L xs[i])) L).length_eq
   rw [List.length_append, List.length_map, List.length_singleton] at hpl
   rw [putS_ne h0]
   obtain ⟨cp', ih⟩ := l_red2 hat hc hld hinv hsc hsort hcmp hN hxs hxl r (i + 1) (insS (Gq.mon (redS L xs[i])) L) none (by omega) hins
   refine ⟨cp', dn_round ?_ ih⟩
   rw [hpl]
   have hsl : ((L.map (elim (Gq.mon (redS L xs[i]))) ++ [Gq.mon (redS L xs[i])]).map rowD).length = L.length + 1 := by rw [List.length_map, List.length_append, List.length_map, List.length_singleton]
   rw [hsl] at s3
   have hmap : (L.map (elim (Gq.mon (redS L xs[i]))) ++ [Gq.mon (redS L xs[i])]).map rowD = (L.map (elim (Gq.mon (redS L xs[i])))).map rowD ++ [(D.sl .leaf (ints .i64 (row (Gq.mon (redS L xs[i])))))] := by rw [List.map_append]; rfl
   rw [hmap] at s3
   have hLE : ((L.map (elim (Gq.mon (redS L xs[i])))).map rowD).length = L.length := by rw [List.length_map, List.length_map]
   have h24 : (L.length + 1) * 24 ≤ 1099511627776 := by omega
   have hrl0 : (row (redS L xs[i])).length ≠ 0 := by rw [row_length]; omega
   have htk : ((L.map (elim (Gq.mon (redS L xs[i])))).map rowD).take L.length = (L.map (elim (Gq.mon (redS L xs[i])))).map rowD := List.take_of_length_le (by omega)
   generalize (insS (Gq.mon (redS L xs[i])) L).map rowD = LI at *
   generalize (L.map (elim (Gq.mon (redS L xs[i])))).map rowD = LE at *
   generalize inv p (rep (redS L xs[i]).ld) = k1 at *
   generalize rep (redS L xs[i]).ld = k2 at *
   generalize row (Gq.mon (redS L xs[i])) = R2 at *
   generalize row (redS L xs[i]) = R3 at *
   generalize row xs[i] = R1 at *
   generalize L.map rowD = LD at *
   generalize xs.map rowD = XD at *
   simp -implicitDefEqProofs [Z16_L2, dn_cond, hlt, hXD, hx, e0, e2, e3, e4, e5, s3, w4, hrl0, hLE, h24, htk, List.replicate, List.idxOf, List.findIdx, List.findIdx.go]
def K_redList (O : Oracle) : Prop := ∀ (p : Int) [IsP p] (xs : List (Fp p)), (∀ x ∈ xs, x.len ≤ 11) → xs.length < 2000000 → ask O F16 [(D.int .i64 p), .sl .leaf (xs.map rowD)] = some (.sl .leaf ((spanS xs []).map rowD))
end
theorem row_cmp {p : Int} (hT : T F17 = some Z17) {L : List (Fp p)} (hl : ∀ x ∈ L, x.len ≤ 1000) : CmpRow (den T A) F17 [] [] lenK .leaf (L.map rowD) := by
 refine ⟨fun x hx => by simp at hx, fun x hx => by simp at hx, fun x hx => ?_, fun x hx => ?_, fun x hx y hy => ?_⟩
 ·obtain ⟨a, _, rfl⟩ := List.mem_map.1 hx; rfl
 ·obtain ⟨a, _, rfl⟩ := List.mem_map.1 hx; rfl
 ·obtain ⟨a, ha, rfl⟩ := List.mem_map.1 hx
  obtain ⟨b, hb, rfl⟩ := List.mem_map.1 hy
  have h1 := hl a ha
  have h2 := hl b hb
  have w1 : IntKind.i64.wrap ((b.len : Int) - a.len) = (b.len : Int) - a.len := w64 (by omega)
  refine ⟨(b.len : Int) - a.len, ask_of hT rfl ?_, by rw [lenK_row, lenK_row]; omega⟩
  simp -implicitDefEqProofs [Z17, Z17_B, w1]
theorem k_redList (hT : T F16 = some Z16) (hT1 : T F17 = some Z17) (hat : C_at (den T A)) (hc : K_combine (den T A)) (hld : C_lead (den T A)) (hinv : C_inverse (den T A)) (hsc : K_scale (den T A)) (hsort : H_sortRow (den T A)) : K_redList (den T A) := by
 intro p ip xs hxs hxl
 obtain ⟨cp, e⟩ := l_red2 (O := den T A) hat hc hld hinv hsc hsort (fun L hl => row_cmp hT1 hl) (Nat.le_refl 11) hxs hxl xs.length 0 [] (some 0) (Nat.zero_add _) (Desc.nil 11)
 have e00 : ((0 : Nat) : Int) = 0 := rfl
 rw [e00, List.drop_zero, List.map_nil, List.length_nil] at e
 have hL : ((spanS xs []).map rowD).length = (spanS xs []).length := List.length_map ..
 have hX : (xs.map rowD).length = xs.length := List.length_map ..
 have htk : ((spanS xs []).map rowD).take (spanS xs []).length = (spanS xs []).map rowD := List.take_of_length_le (by omega)
 refine ask_of hT rfl ?_
 generalize (spanS xs []).map rowD = LD at *
 generalize xs.map rowD = XD at *
 simp -implicitDefEqProofs [Z16, Z16_B, hX, hL, htk, e]
end Pe

namespace Pe
open Go Gq
variable {T : Nat → Option Fn} {A : Oracle}
noncomputable abbrev padD {p : Int} (a : Fp p) : D := (D.arr 64 .leaf (ints .u8 (pad (row a))))
theorem map_padD {p : Int} (xs : List (Fp p)) : (skP xs).map arr8 = xs.map padD := by unfold skP; rw [List.map_map]; rfl
section
variable {p : Int} [IsP p]
theorem l_rows {O : Oracle} (hro : K_rowOf O) {xs : List (Fp p)} (hl : xs.length < 2000000) (hx : ∀ x ∈ xs, x.len ≤ 64) : ∀ (r i : Nat) (cp : Option Nat), i + r = xs.length → ∃ cp' : Option Nat,
 dn O 0 (.loop Z1k_L0) ⟨[(3, .sl 0 [] 0 i cp), (6, .d (.sl (.arr 64 .leaf) (xs.map padD))), (7, (.d (.int .i64 xs.length))), (8, (.d (.int .i64 i)))], [.sl false .leaf ((xs.take i).map rowD), .hole, .hole, .hole]⟩ =
  some (.exit 0, ⟨[(3, .sl 0 [] 0 xs.length cp'), (6, .d (.sl (.arr 64 .leaf) (xs.map padD))), (7, (.d (.int .i64 xs.length))), (8, (.d (.int .i64 xs.length))), (9, (.d (.bool false)))], [.sl false .leaf (xs.map rowD), .hole, .hole, .hole]⟩)
 | 0, i, cp, hi => by
  obtain rfl : i = xs.length := by omega
  rw [List.take_length]
  refine ⟨cp, dn_stop ?_⟩
  generalize xs.map padD = XD at *
  generalize xs.map rowD = RD at *
  simp -implicitDefEqProofs [Z1k_L0, dn_cond]
 | r + 1, i, cp, hi => by
  have hlt : i < xs.length := by omega
  have hm := List.getElem_mem hlt
  have e1 := hro p xs[i] (hx _ hm)
  have hXD : (xs.map padD).length = xs.length := List.length_map ..
  have hxi : ∀ h : i < (xs.map padD).length, (xs.map padD)[i]'h = (D.arr 64 .leaf (ints .u8 (pad (row xs[i])))) := fun h => by rw [List.getElem_map]
  have w4 : IntKind.i64.wrap ((i : Int) + 1) = ((i + 1 : Nat) : Int) := (w64 (x := (i : Int) + 1) (by omega)).trans (by omega)
  have h24 : (i + 1) * 24 ≤ 1099511627776 := by omega
  have htk : (xs.take (i + 1)).map rowD = (xs.take i).map rowD ++ [(D.sl .leaf (ints .i64 (row xs[i])))] := by rw [List.take_succ_eq_append_getElem hlt, List.map_append]; rfl
  have hL : ((xs.take i).map rowD).length = i := by rw [List.length_map, List.length_take]; omega
  have htt : ((xs.take i).map rowD).take i = (xs.take i).map rowD := List.take_of_length_le (by omega)
  obtain ⟨cp', ih⟩ := l_rows hro hl hx r (i + 1) none (by omega)
  refine ⟨cp', dn_round ?_ ih⟩
  rw [htk]
  generalize pad (row xs[i]) = Pi at *
  generalize row xs[i] = Ri at *
  generalize (xs.take i).map rowD = TD at *
  generalize xs.map padD = XD at *
  simp -implicitDefEqProofs [Z1k_L0, dn_cond, hlt, hXD, hxi, e1, h24, hL, htt, w4, List.replicate]
def K_rows (O : Oracle) : Prop := ∀ (p : Int) [IsP p] (xs : List (Fp p)), xs.length < 2000000 → (∀ x ∈ xs, x.len ≤ 64) → ask O F1k [.sl (.arr 64 .leaf) (xs.map padD)] = some (.sl .leaf (xs.map rowD))
theorem l_polys {O : Oracle} (hpo : K_poly O) {xs : List (Fp p)} (hl : xs.length < 2000000) (hx : ∀ x ∈ xs, x.len ≤ 64) : ∀ (r i : Nat) (cp : Option Nat), i + r = xs.length → ∃ cp' : Option Nat,
 dn O 0 (.loop Zr_L0) ⟨[(3, .sl 0 [] 0 i cp), (6, .d (.sl .leaf (xs.map rowD))), (7, (.d (.int .i64 xs.length))), (8, (.d (.int .i64 i)))], [.sl false (.arr 64 .leaf) ((xs.take i).map padD), .hole, .hole]⟩ =
  some (.exit 0, ⟨[(3, .sl 0 [] 0 xs.length cp'), (6, .d (.sl .leaf (xs.map rowD))), (7, (.d (.int .i64 xs.length))), (8, (.d (.int .i64 xs.length))), (9, (.d (.bool false)))], [.sl false (.arr 64 .leaf) (xs.map padD), .hole, .hole]⟩)
 | 0, i, cp, hi => by
  obtain rfl : i = xs.length := by omega
  rw [List.take_length]
  refine ⟨cp, dn_stop ?_⟩
  generalize xs.map padD = XD at *
  generalize xs.map rowD = RD at *
  simp -implicitDefEqProofs [Zr_L0, dn_cond]
 | r + 1, i, cp, hi => by
  have hlt : i < xs.length := by omega
  have hm := List.getElem_mem hlt
  have e1 := hpo p xs[i] (hx _ hm)
  have hXD : (xs.map rowD).length = xs.length := List.length_map ..
  have hxi : ∀ h : i < (xs.map rowD).length, (xs.map rowD)[i]'h = (D.sl .leaf (ints .i64 (row xs[i]))) := fun h => by rw [List.getElem_map]
  have w4 : IntKind.i64.wrap ((i : Int) + 1) = ((i + 1 : Nat) : Int) := (w64 (x := (i : Int) + 1) (by omega)).trans (by omega)
  have h24 : (i + 1) * 64 ≤ 1099511627776 := by omega
  have htk : (xs.take (i + 1)).map padD = (xs.take i).map padD ++ [(D.arr 64 .leaf (ints .u8 (pad (row xs[i]))))] := by rw [List.take_succ_eq_append_getElem hlt, List.map_append]; rfl
  have hL : ((xs.take i).map padD).length = i := by rw [List.length_map, List.length_take]; omega
  have htt : ((xs.take i).map padD).take i = (xs.take i).map padD := List.take_of_length_le (by omega)
  obtain ⟨cp', ih⟩ := l_polys hpo hl hx r (i + 1) none (by omega)
  refine ⟨cp', dn_round ?_ ih⟩
  rw [htk]
  generalize pad (row xs[i]) = Pi at *
  generalize row xs[i] = Ri at *
  generalize (xs.take i).map padD = TD at *
  generalize xs.map rowD = XD at *
  simp -implicitDefEqProofs [Zr_L0, dn_cond, hlt, hXD, hxi, e1, h24, hL, htt, w4, List.replicate]
def K_polys (O : Oracle) : Prop := ∀ (p : Int) [IsP p] (xs : List (Fp p)), xs.length < 2000000 → (∀ x ∈ xs, x.len ≤ 64) → ask O Fr [.sl .leaf (xs.map rowD)] = some (.sl (.arr 64 .leaf) (xs.map padD))
end
theorem k_rows (hT : T F1k = some Z1k) (hro : K_rowOf (den T A)) : K_rows (den T A) := by
 intro p ip xs hl hx
 obtain ⟨cp, e⟩ := l_rows (O := den T A) hro hl hx xs.length 0 (some 0) (Nat.zero_add _)
 have e00 : ((0 : Nat) : Int) = 0 := rfl
 rw [e00, List.take_zero, List.map_nil] at e
 have h1 : (xs.map rowD).length = xs.length := List.length_map ..
 have h2 : (xs.map padD).length = xs.length := List.length_map ..
 have htk : (xs.map rowD).take xs.length = xs.map rowD := List.take_of_length_le (by omega)
 refine ask_of hT rfl ?_
 generalize xs.map padD = XD at *
 generalize xs.map rowD = RD at *
 simp -implicitDefEqProofs [Z1k, Z1k_B, h1, h2, htk, e]
theorem k_polys (hT : T Fr = some Zr) (hpo : K_poly (den T A)) : K_polys (den T A) := by
 intro p ip xs hl hx
 obtain ⟨cp, e⟩ := l_polys (O := den T A) hpo hl hx xs.length 0 (some 0) (Nat.zero_add _)
 have e00 : ((0 : Nat) : Int) = 0 := rfl
 rw [e00, List.take_zero, List.map_nil] at e
 have h1 : (xs.map padD).length = xs.length := List.length_map ..
 have h2 : (xs.map rowD).length = xs.length := List.length_map ..
 have htk : (xs.map padD).take xs.length = xs.map padD := List.take_of_length_le (by omega)
 refine ask_of hT rfl ?_
 generalize xs.map padD = XD at *
 generalize xs.map rowD = RD at *
 simp -implicitDefEqProofs [Zr, Zr_B, h1, h2, htk, e]
def K_rank (O : Oracle) : Prop := ∀ (p : Int) [IsP p] (xs : List (Fp p)), (∀ x ∈ xs, x.len ≤ 11) → xs.length < 2000000 → ask O F14 [(D.int .i64 p), .sl .leaf (xs.map rowD)] = some (D.int .i64 ((spanS xs []).length))
theorem k_rank (hT : T F14 = some Z14) (hr : K_redList (den T A)) : K_rank (den T A) := by
 intro p ip xs hx hl
 have e := hr p xs hx hl
 have h1 : ((spanS xs []).map rowD).length = (spanS xs []).length := List.length_map ..
 refine ask_of hT rfl ?_
 generalize (spanS xs []).map rowD = SD at *
 generalize xs.map rowD = RD at *
 simp -implicitDefEqProofs [Z14, Z14_B, e, h1]
def RsOk (p : Int) (l : List Int) (ls : List (List Int)) : Prop := ∃ (_ : IsP p) (m : Fp p), l = pad (row m) ∧ Fld m ∧ IsSk m ls
theorem codes_rs {p : Int} {l : List Int} {ls : List (List Int)} : codeRs p l ls = 0 ↔ RsOk p l ls := by
 unfold codeRs
 constructor
 ·intro h1
  split at h1
  ·rename_i g; exact g
  ·cases h1
 ·intro h; exact if_pos h
end Pe

namespace Pe
open Go Gq
variable {T : Nat → Option Fn} {A : Oracle}
section
variable {p : Int}
theorem pad_row_at {a : Fp p} (ha : a.len ≤ 64) {n : Nat} : ∀ h : n < (pad (row a)).length, (pad (row a))[n]'h = rep (a.c n) := fun h => by
 rw [← cf_lt h, pad_row_cf ha]
end
section
variable {p : Int} [IsP p]
theorem k_selim {O : Oracle} (hadd : K_sAdd O) {a b : Fp p} (ha : a.len ≤ 64) (hb : b.len ≤ 64) : ask O F31 [(D.int .i64 p), (D.arr 64 .leaf (ints .u8 (pad (row b)))), (D.arr 64 .leaf (ints .u8 (pad (row a)))), (D.int .i64 (-rep (b.c (a.len - 1))))] = some (D.arr 64 .leaf (ints .u8 (pad (row (elim a b))))) := by
 have h := rep_small (b.c (a.len - 1))
 have := hadd p (-rep (b.c (a.len - 1))) b a (by omega) (by omega) hb ha
 rw [zp_neg, zp_rep] at this
 exact this
theorem l_put0 {O : Oracle} (hdg : K_sDeg O) (hadd : K_sAdd O) {L : List (Fp p)} {N : Nat} (hN : N ≤ 11) (hL : Desc N L) : ∀ (r i : Nat) (a : Fp p), i + r = L.length → a.len ≤ N →
 dn O 0 (.loop Z3l_L0) ⟨[(0, (.d (.int .i64 p))), (1, .d (.sl (.arr 64 .leaf) (L.map padD))), (5, .ptr 0 []), (7, (.d (.int .i64 i)))], [.box false (D.arr 64 .leaf (ints .u8 (pad (row a)))), .hole, .hole, .hole, .hole, .hole, .hole, .hole]⟩ =
  some (.exit 0, ⟨[(0, (.d (.int .i64 p))), (1, .d (.sl (.arr 64 .leaf) (L.map padD))), (5, .ptr 0 []), (7, (.d (.int .i64 L.length))), (16, (.d (.bool false)))], [.box false (D.arr 64 .leaf (ints .u8 (pad (row (redS (L.drop i) a))))), .hole, .hole, .hole, .hole, .hole, .hole, .hole]⟩)
 | 0, i, a, hi, ha => by
  obtain rfl : i = L.length := by omega
  have hLD : (L.map padD).length = L.length := List.length_map ..
  rw [List.drop_length]
  refine dn_stop ?_
  show _ = some (_, (⟨_, [.box false (D.arr 64 .leaf (ints .u8 (pad (row a)))), _, _, _, _, _, _, _]⟩ : St))
  generalize pad (row a) = Pa at *
  generalize L.map padD = LD at *
  simp -implicitDefEqProofs [Z3l_L0, dn_cond, hLD]
 | r + 1, i, a, hi, ha => by
  have hlt : i < L.length := by omega
  have hm := List.getElem_mem hlt
  have hbl := hL.le _ hm
  have hbp := Pol.len_pos (hL.mon _ hm).2
  have hll := hL.length
  have hLD : (L.map padD).length = L.length := List.length_map ..
  have hx : ∀ h : i < (L.map padD).length, (L.map padD)[i]'h = (D.arr 64 .leaf (ints .u8 (pad (row L[i])))) := fun h => by rw [List.getElem_map]
  have e1 := hdg p L[i] (by omega)
  rw [show (L[i].len : Int) - 1 = ((L[i].len - 1 : Nat) : Int) by omega] at e1
  have e2 := k_selim hadd (a := L[i]) (b := a) (by omega) (by omega)
  have hat := pad_row_at (a := a) (by omega) (n := L[i].len - 1)
  have hPl := pad_length (row a)
  have hd64 : L[i].len - 1 < 64 := by omega
  have hr := rep_small (a.c (L[i].len - 1))
  have w1 : IntKind.i64.wrap (rep (a.c (L[i].len - 1))) = rep (a.c (L[i].len - 1)) := w64 (by omega)
  have w2 : IntKind.i64.wrap (-rep (a.c (L[i].len - 1))) = -rep (a.c (L[i].len - 1)) := w64 (by omega)
  have w4 : IntKind.i64.wrap ((i : Int) + 1) = ((i + 1 : Nat) : Int) := (w64 (x := (i : Int) + 1) (by omega)).trans (by omega)
  have hd : redS (L.drop i) a = redS (L.drop (i + 1)) (elim L[i] a) := by rw [List.drop_eq_getElem_cons hlt]; rfl
  rw [hd]
  refine dn_round ?_ (l_put0 hdg hadd hN hL r (i + 1) (elim L[i] a) (by omega) (elim_le hbl ha))
  by_cases h0 : rep (a.c (L[i].len - 1)) = 0
  ·have hz : elim L[i] a = a := by
    unfold elim
    rw [rep_eq_zero.1 h0, Gq.neg_zero, Pol.C_zero, Gq.zero_mul, Gq.add_zero]
   rw [hz]
   rw [h0] at hat
   generalize pad (row a) = Pa at *
   generalize pad (row L[i]) = Pi at *
   generalize L[i].len - 1 = d at *
   generalize L.map padD = LD at *
   simp -implicitDefEqProofs [Z3l_L0, dn_cond, hlt, hLD, hx, e1, hat, hPl, hd64, w4]
  ·generalize rep (a.c (L[i].len - 1)) = k at *
   generalize pad (row (elim L[i] a)) = Pe at *
   generalize pad (row a) = Pa at *
   generalize pad (row L[i]) = Pi at *
   generalize L[i].len - 1 = d at *
   generalize L.map padD = LD at *
   simp -implicitDefEqProofs [Z3l_L0, dn_cond, hlt, hLD, hx, e1, e2, hat, hPl, hd64, h0, w1, w2, w4]
theorem r_put0 {O : Oracle} {p : Int} {Pa : List Int} {d ql n : Nat} {LD QD : List D} {cp : Option Nat} {b : Bool} (hLD : LD.length = n) :
 dn O 0 Z3l_L1 ⟨[(0, (.d (.int .i64 p))), (1, .d (.sl (.arr 64 .leaf) LD)), (5, .ptr 0 []), (9, (.d (.int .i64 ((d : Int))))), (10, .sl 1 [] 0 ql cp), (11, (.d (.bool b))), (12, (.d (.int .i64 n)))], [.box false (D.arr 64 .leaf (ints .u8 Pa)), .sl false (.arr 64 .leaf) QD, .hole, .hole, .hole, .hole, .hole, .hole]⟩ = some (.exit 2, ⟨[(0, (.d (.int .i64 p))), (1, .d (.sl (.arr 64 .leaf) LD)), (5, .ptr 0 []), (9, (.d (.int .i64 ((d : Int))))), (10, .sl 1 [] 0 ql cp), (11, (.d (.bool b))), (12, (.d (.int .i64 n))), (59, (.d (.bool false)))], [.box false (D.arr 64 .leaf (ints .u8 Pa)), .sl false (.arr 64 .leaf) QD, .hole, .hole, .hole, .hole, .hole, .hole]⟩) := by
 simp -implicitDefEqProofs [Z3l_L1, dn_cond, hLD]
theorem r_putT {O : Oracle} {p k : Int} {Pa Pi Pe : List Int} {d ql i n : Nat} {LD QD : List D} {cp : Option Nat} (hlt : i < n) (hLD : LD.length = n) (hx : ∀ h : i < LD.length, LD[i]'h = (D.arr 64 .leaf (ints .u8 Pi))) (e2 : ask O F31 [(D.int .i64 p), (D.arr 64 .leaf (ints .u8 Pi)), (D.arr 64 .leaf (ints .u8 Pa)), (D.int .i64 (-k))] = some (D.arr 64 .leaf (ints .u8 Pe)))
 (hat : ∀ h : d < Pi.length, Pi[d]'h = k) (hPl : Pi.length = 64) (hd64 : d < 64) (hQD : QD.length = ql) (htq : QD.take ql = QD) (h64 : (ql + 1) * 64 ≤ 1099511627776) (w1 : IntKind.i64.wrap k = k) (w2 : IntKind.i64.wrap (-k) = -k) (w4 : IntKind.i64.wrap ((i : Int) + 1) = ((i + 1 : Nat) : Int)) :
 dn O 0 Z3l_L1 ⟨[(0, (.d (.int .i64 p))), (1, .d (.sl (.arr 64 .leaf) LD)), (5, .ptr 0 []), (9, (.d (.int .i64 ((d : Int))))), (10, .sl 1 [] 0 ql cp), (11, (.d (.bool true))), (12, (.d (.int .i64 i)))], [.box false (D.arr 64 .leaf (ints .u8 Pa)), .sl false (.arr 64 .leaf) QD, .hole, .hole, .hole, .hole, .hole, .hole]⟩ = some (.normal, ⟨[(0, (.d (.int .i64 p))), (1, .d (.sl (.arr 64 .leaf) LD)), (5, .ptr 0 []), (9, (.d (.int .i64 ((d : Int))))), (10, .sl 1 [] 0 (ql + 1) none), (11, (.d (.bool true))), (12, (.d (.int .i64 (((i + 1 : Nat) : Int)))))], [.box false (D.arr 64 .leaf (ints .u8 Pa)), .sl false (.arr 64 .leaf) (QD ++ [(D.arr 64 .leaf (ints .u8 Pe))]), .hole, .hole, .hole, .hole, .hole, .hole]⟩) := by
 simp -implicitDefEqProofs [Z3l_L1, dn_cond, hlt, hLD, hx, e2, hat, hPl, hd64, hQD, htq, h64, w1, w2, w4, List.replicate]
theorem take_snoc {α : Type} {QD : List α} {ql : Nat} (h : QD.length = ql) (z : α) : (QD ++ [z]).take (ql + 1) = QD ++ [z] := List.take_of_length_le (by rw [List.length_append, h]; exact Nat.le_refl _)
theorem r_putL {O : Oracle} {p k : Int} {Pa Pi Pe : List Int} {d d2 ql i n : Nat} {LD QD : List D} {cp : Option Nat} (hlt : i < n) (hLD : LD.length = n) (hx : ∀ h : i < LD.length, LD[i]'h = (D.arr 64 .leaf (ints .u8 Pi))) (e1 : ask O F33 [(D.arr 64 .leaf (ints .u8 Pi))] = some (D.int .i64 ((d2 : Int)))) (e2 : ask O F31 [(D.int .i64 p), (D.arr 64 .leaf (ints .u8 Pi)), (D.arr 64 .leaf (ints .u8 Pa)), (D.int .i64 (-k))] = some (D.arr 64 .leaf (ints .u8 Pe)))
 (hat : ∀ h : d < Pi.length, Pi[d]'h = k) (hPl : Pi.length = 64) (hd64 : d < 64) (hQD : QD.length = ql) (htq : QD.take ql = QD) (h64 : (ql + 1) * 64 ≤ 1099511627776) (h64' : (ql + 1 + 1) * 64 ≤ 1099511627776) (w1 : IntKind.i64.wrap k = k) (w2 : IntKind.i64.wrap (-k) = -k) (w4 : IntKind.i64.wrap ((i : Int) + 1) = ((i + 1 : Nat) : Int)) (hdl : d2 < d) :
 dn O 0 Z3l_L1 ⟨[(0, (.d (.int .i64 p))), (1, .d (.sl (.arr 64 .leaf) LD)), (5, .ptr 0 []), (9, (.d (.int .i64 ((d : Int))))), (10, .sl 1 [] 0 ql cp), (11, (.d (.bool false))), (12, (.d (.int .i64 i)))], [.box false (D.arr 64 .leaf (ints .u8 Pa)), .sl false (.arr 64 .leaf) QD, .hole, .hole, .hole, .hole, .hole, .hole]⟩ = some (.normal, ⟨[(0, (.d (.int .i64 p))), (1, .d (.sl (.arr 64 .leaf) LD)), (5, .ptr 0 []), (9, (.d (.int .i64 ((d : Int))))), (10, .sl 1 [] 0 (ql + 2) none), (11, (.d (.bool true))), (12, (.d (.int .i64 (((i + 1 : Nat) : Int)))))], [.box false (D.arr 64 .leaf (ints .u8 Pa)), .sl false (.arr 64 .leaf) (QD ++ [(D.arr 64 .leaf (ints .u8 Pa)), (D.arr 64 .leaf (ints .u8 Pe))]), .hole, .hole, .hole, .hole, .hole, .hole]⟩) := by
 have htq2 := fun z : D => take_snoc hQD z
 simp -implicitDefEqProofs [Z3l_L1, dn_cond, hlt, hLD, hx, e1, e2, hat, hPl, hd64, hdl, hQD, htq, htq2, h64, h64', w1, w2, w4, List.replicate]
theorem r_putG {O : Oracle} {p k : Int} {Pa Pi Pe : List Int} {d d2 ql i n : Nat} {LD QD : List D} {cp : Option Nat} (hlt : i < n) (hLD : LD.length = n) (hx : ∀ h : i < LD.length, LD[i]'h = (D.arr 64 .leaf (ints .u8 Pi))) (e1 : ask O F33 [(D.arr 64 .leaf (ints .u8 Pi))] = some (D.int .i64 ((d2 : Int)))) (e2 : ask O F31 [(D.int .i64 p), (D.arr 64 .leaf (ints .u8 Pi)), (D.arr 64 .leaf (ints .u8 Pa)), (D.int .i64 (-k))] = some (D.arr 64 .leaf (ints .u8 Pe)))
 (hat : ∀ h : d < Pi.length, Pi[d]'h = k) (hPl : Pi.length = 64) (hd64 : d < 64) (hQD : QD.length = ql) (htq : QD.take ql = QD) (h64 : (ql + 1) * 64 ≤ 1099511627776) (w1 : IntKind.i64.wrap k = k) (w2 : IntKind.i64.wrap (-k) = -k) (w4 : IntKind.i64.wrap ((i : Int) + 1) = ((i + 1 : Nat) : Int)) (hdl : ¬ d2 < d) :
 dn O 0 Z3l_L1 ⟨[(0, (.d (.int .i64 p))), (1, .d (.sl (.arr 64 .leaf) LD)), (5, .ptr 0 []), (9, (.d (.int .i64 ((d : Int))))), (10, .sl 1 [] 0 ql cp), (11, (.d (.bool false))), (12, (.d (.int .i64 i)))], [.box false (D.arr 64 .leaf (ints .u8 Pa)), .sl false (.arr 64 .leaf) QD, .hole, .hole, .hole, .hole, .hole, .hole]⟩ = some (.normal, ⟨[(0, (.d (.int .i64 p))), (1, .d (.sl (.arr 64 .leaf) LD)), (5, .ptr 0 []), (9, (.d (.int .i64 ((d : Int))))), (10, .sl 1 [] 0 (ql + 1) none), (11, (.d (.bool false))), (12, (.d (.int .i64 (((i + 1 : Nat) : Int)))))], [.box false (D.arr 64 .leaf (ints .u8 Pa)), .sl false (.arr 64 .leaf) (QD ++ [(D.arr 64 .leaf (ints .u8 Pe))]), .hole, .hole, .hole, .hole, .hole, .hole]⟩) := by
 simp -implicitDefEqProofs [Z3l_L1, dn_cond, hlt, hLD, hx, e1, e2, hat, hPl, hd64, hdl, hQD, htq, h64, w1, w2, w4, List.replicate]
theorem put_facts {O : Oracle} (hdg : K_sDeg O) (hadd : K_sAdd O) {L : List (Fp p)} {N : Nat} (hN : N ≤ 11) (hL : Desc N L) {a : Fp p} (ha : a ≠ 0) (hal : a.len ≤ N) {i : Nat} (hlt : i < L.length) :
 (∀ h : i < (L.map padD).length, (L.map padD)[i]'h = (D.arr 64 .leaf (ints .u8 (pad (row L[i]))))) ∧ ask O F33 [(D.arr 64 .leaf (ints .u8 (pad (row L[i]))))] = some (D.int .i64 (((L[i].len - 1 : Nat) : Int))) ∧
 ask O F31 [(D.int .i64 p), (D.arr 64 .leaf (ints .u8 (pad (row L[i])))), (D.arr 64 .leaf (ints .u8 (pad (row a)))), (D.int .i64 (-rep (L[i].c (a.len - 1))))] = some (D.arr 64 .leaf (ints .u8 (pad (row (elim a L[i]))))) ∧
 (∀ h : a.len - 1 < (pad (row L[i])).length, (pad (row L[i]))[a.len - 1]'h = rep (L[i].c (a.len - 1))) ∧ (pad (row L[i])).length = 64 ∧
 IntKind.i64.wrap (rep (L[i].c (a.len - 1))) = rep (L[i].c (a.len - 1)) ∧ IntKind.i64.wrap (-rep (L[i].c (a.len - 1))) = -rep (L[i].c (a.len - 1)) ∧
 IntKind.i64.wrap ((i : Int) + 1) = ((i + 1 : Nat) : Int) ∧ a.len - 1 < 64 := by
 have hm := List.getElem_mem hlt
 have hbl := hL.le _ hm
 have hbp := Pol.len_pos (hL.mon _ hm).2
 have hap := Pol.len_pos ha
 have hll := hL.length
 have e1 := hdg p L[i] (by omega)
 rw [show (L[i].len : Int) - 1 = ((L[i].len - 1 : Nat) : Int) by omega] at e1
 have hr := rep_small (L[i].c (a.len - 1))
 exact ⟨fun h => by rw [List.getElem_map], e1, k_selim hadd (a := a) (b := L[i]) (by omega) (by omega), pad_row_at (a := L[i]) (by omega) (n := a.len - 1), pad_length _, w64 (by omega), w64 (by omega), (w64 (x := (i : Int) + 1) (by omega)).trans (by omega), by omega⟩
theorem l_put1 {O : Oracle} (hdg : K_sDeg O) (hadd : K_sAdd O) {L : List (Fp p)} {N : Nat} (hN : N ≤ 11) (hL : Desc N L) {a : Fp p} (ha : a ≠ 0) (hal : a.len ≤ N) : ∀ (r i : Nat) (Q : List (Fp p)) (b : Bool) (cp : Option Nat), i + r = L.length → Q.length ≤ i + b.toNat → ∃ (Q' : List (Fp p)) (b' : Bool) (cp' : Option Nat),
 dn O 0 (.loop Z3l_L1) ⟨[(0, (.d (.int .i64 p))), (1, .d (.sl (.arr 64 .leaf) (L.map padD))), (5, .ptr 0 []), (9, (.d (.int .i64 (((a.len - 1 : Nat) : Int))))), (10, .sl 1 [] 0 Q.length cp), (11, (.d (.bool b))), (12, (.d (.int .i64 i)))], [.box false (D.arr 64 .leaf (ints .u8 (pad (row a)))), .sl false (.arr 64 .leaf) (Q.map padD), .hole, .hole, .hole, .hole, .hole, .hole]⟩ =
  some (.exit 2, ⟨[(0, (.d (.int .i64 p))), (1, .d (.sl (.arr 64 .leaf) (L.map padD))), (5, .ptr 0 []), (9, (.d (.int .i64 (((a.len - 1 : Nat) : Int))))), (10, .sl 1 [] 0 Q'.length cp'), (11, (.d (.bool b'))), (12, (.d (.int .i64 L.length))), (59, (.d (.bool false)))], [.box false (D.arr 64 .leaf (ints .u8 (pad (row a)))), .sl false (.arr 64 .leaf) (Q'.map padD), .hole, .hole, .hole, .hole, .hole, .hole]⟩) ∧
  (if b' then Q' else Q' ++ [a]) = Q ++ (if b then (L.drop i).map (elim a) else insS a (L.drop i)) ∧ Q'.length ≤ L.length + 1
 | 0, i, Q, b, cp, hi, hq => by
  obtain rfl : i = L.length := by omega
  have hLD : (L.map padD).length = L.length := List.length_map ..
  refine ⟨Q, b, cp, dn_stop ?_, ?_, by have := Bool.toNat_le b; omega⟩
  ·exact r_put0 hLD
  ·rw [List.drop_length]
   cases b <;> simp [insS]
 | r + 1, i, Q, b, cp, hi, hq => by
  have hlt : i < L.length := by omega
  have hll := hL.length
  have hbt := Bool.toNat_le b
  have hir : i + 1 + r = L.length := by omega
  have hQl : Q.length ≤ 12 := by omega
  have h64 : (Q.length + 1) * 64 ≤ 1099511627776 := Nat.le_trans (Nat.mul_le_mul_right 64 (Nat.succ_le_succ hQl)) (by decide)
  have h64' : (Q.length + 1 + 1) * 64 ≤ 1099511627776 := Nat.le_trans (Nat.mul_le_mul_right 64 (Nat.succ_le_succ (Nat.succ_le_succ hQl))) (by decide)
  have hLD : (L.map padD).length = L.length := List.length_map ..
  have hd : L.drop i = L[i] :: L.drop (i + 1) := List.drop_eq_getElem_cons hlt
  have hQD : (Q.map padD).length = Q.length := List.length_map ..
  have htq : (Q.map padD).take Q.length = Q.map padD := List.take_of_length_le (by omega)
  have hq1 : ∀ x : Fp p, (Q ++ [x]).map padD = Q.map padD ++ [(D.arr 64 .leaf (ints .u8 (pad (row x))))] := fun x => by rw [List.map_append]; rfl
  have hl1 : ∀ x : Fp p, (Q ++ [x]).length = Q.length + 1 := fun x => by rw [List.length_append]; rfl
  have hq2 : ∀ x y : Fp p, (Q ++ [x, y]).map padD = Q.map padD ++ [(D.arr 64 .leaf (ints .u8 (pad (row x)))), (D.arr 64 .leaf (ints .u8 (pad (row y))))] := fun x y => by rw [List.map_append]; rfl
  have hl2 : ∀ x y : Fp p, (Q ++ [x, y]).length = Q.length + 2 := fun x y => by rw [List.length_append]; rfl
  have hap := Pol.len_pos ha
  have hbp := Pol.len_pos (hL.mon _ (List.getElem_mem hlt)).2
  cases b with
  | true =>
   obtain ⟨Q', b', cp', g1, g2, g3⟩ := l_put1 hdg hadd hN hL ha hal r (i + 1) (Q ++ [elim a L[i]]) true none hir (by rw [hl1]; simp only [Bool.toNat_true] at hq ⊢; omega)
   refine ⟨Q', b', cp', dn_round ?_ g1, ?_, g3⟩
   ·obtain ⟨hx, e1, e2, hat, hPl, w1, w2, w4, hd64⟩ := put_facts hdg hadd hN hL ha hal hlt
    rw [hq1, hl1]; exact r_putT hlt hLD hx e2 hat hPl hd64 hQD htq h64 w1 w2 w4
   ·rw [g2, hd]; simp only [if_true, List.map_cons, List.append_assoc, List.cons_append, List.nil_append]
  | false =>
   by_cases hlen : L[i].len < a.len
   ·have hdl : L[i].len - 1 < a.len - 1 := by omega
    obtain ⟨Q', b', cp', g1, g2, g3⟩ := l_put1 hdg hadd hN hL ha hal r (i + 1) (Q ++ [a, elim a L[i]]) true none hir (by rw [hl2]; simp only [Bool.toNat_true, Bool.toNat_false] at hq ⊢; omega)
    refine ⟨Q', b', cp', dn_round ?_ g1, ?_, g3⟩
    ·obtain ⟨hx, e1, e2, hat, hPl, w1, w2, w4, hd64⟩ := put_facts hdg hadd hN hL ha hal hlt
     rw [hq2, hl2]; exact r_putL hlt hLD hx e1 e2 hat hPl hd64 hQD htq h64 h64' w1 w2 w4 hdl
    ·rw [g2, hd]
     show _ = Q ++ (if L[i].len < a.len then a :: (L[i] :: L.drop (i + 1)).map (elim a) else elim a L[i] :: insS a (L.drop (i + 1)))
     rw [if_pos hlen]; simp only [if_true, List.map_cons, List.append_assoc, List.cons_append, List.nil_append]
   ·have hdl : ¬ (L[i].len - 1 < a.len - 1) := by omega
    obtain ⟨Q', b', cp', g1, g2, g3⟩ := l_put1 hdg hadd hN hL ha hal r (i + 1) (Q ++ [elim a L[i]]) false none hir (by rw [hl1]; simp only [Bool.toNat_false] at hq ⊢; omega)
    refine ⟨Q', b', cp', dn_round ?_ g1, ?_, g3⟩
    ·obtain ⟨hx, e1, e2, hat, hPl, w1, w2, w4, hd64⟩ := put_facts hdg hadd hN hL ha hal hlt
     rw [hq1, hl1]; exact r_putG hlt hLD hx e1 e2 hat hPl hd64 hQD htq h64 w1 w2 w4 hdl
    ·rw [g2, hd]
     show _ = Q ++ (if L[i].len < a.len then a :: (L[i] :: L.drop (i + 1)).map (elim a) else elim a L[i] :: insS a (L.drop (i + 1)))
     rw [if_neg hlen]; simp
end
def K_sPut (O : Oracle) : Prop := ∀ (p : Int) [IsP p] (L : List (Fp p)) (x : Fp p), Desc 11 L → x.len ≤ 11 → ask O F3l [(D.int .i64 p), .sl (.arr 64 .leaf) (L.map padD), (D.arr 64 .leaf (ints .u8 (pad (row x))))] = some (.sl (.arr 64 .leaf) ((putS L x).map padD))
theorem k_sPut (hT : T F3l = some Z3l) (hdg : K_sDeg (den T A)) (hinv : K_sInverse (den T A)) (hadd : K_sAdd (den T A)) : K_sPut (den T A) := by
 intro p ip L x hL hx
 have e0 := l_put0 (O := den T A) hdg hadd (Nat.le_refl 11) hL L.length 0 x (Nat.zero_add _) hx
 have e00 : ((0 : Nat) : Int) = 0 := rfl
 rw [e00, List.drop_zero] at e0
 have hrl := redS_le (L := L) hL.le hx
 have e1 := hdg p (redS L x) (by omega)
 refine ask_of hT rfl ?_
 by_cases h0 : redS L x = 0
 ·rw [putS_zero h0]
  rw [h0, row_zero, Pol.len_zero] at e1
  rw [h0, row_zero] at e0
  generalize pad (row x) = Px at *
  generalize L.map padD = LD at *
  simp -implicitDefEqProofs [Z3l, Z3l_B, dn_cond, e0, e1]
 ·rw [putS_ne h0]
  have hap := Pol.len_pos h0
  have hml := mon_len h0
  have hmm := mon_monic h0
  have hld0 := Pol.ld_ne h0
  have hri := rep_in (redS L x).ld
  have hr0 : rep (redS L x).ld ≠ 0 := fun h => hld0 (rep_eq_zero.1 h)
  rw [show ((redS L x).len : Int) - 1 = (((redS L x).len - 1 : Nat) : Int) by omega] at e1
  have hat := pad_row_at (a := redS L x) (by omega) (n := (redS L x).len - 1)
  rw [show (redS L x).c ((redS L x).len - 1) = (redS L x).ld from rfl] at hat
  have hPl := pad_length (row (redS L x))
  have hd64 : (redS L x).len - 1 < 64 := by omega
  have e2 := hinv p (rep (redS L x).ld) (by omega) (by omega)
  have hin := inv_in (p := p) (rep (redS L x).ld)
  have hp7 := IsP.le (p := p)
  have e3 := hadd p (inv p (rep (redS L x).ld)) 0 (redS L x) (by omega) (by omega) (by rw [Pol.len_zero]; omega) (by omega)
  rw [finv_rep _ hld0, Gq.zero_add, show Pol.C (Fd.inv (redS L x).ld) * redS L x = Gq.mon (redS L x) from rfl, row_zero] at e3
  have w1 : IntKind.i64.wrap (inv p (rep (redS L x).ld)) = inv p (rep (redS L x).ld) := w64 (by omega)
  obtain ⟨Q', b', cp', g1, g2, g3⟩ := l_put1 (O := den T A) hdg hadd (Nat.le_refl 11) hL hmm.2 (by omega) L.length 0 [] false (some 0) (Nat.zero_add _) (by simp)
  rw [e00, List.map_nil, List.length_nil, hml] at g1
  simp only [List.drop_zero, List.nil_append, Bool.false_eq_true, if_false] at g2
  have hn0 : ¬ (((redS L x).len - 1 : Nat) : Int) < 0 := by omega
  have hll := hL.length
  have hQD : (Q'.map padD).length = Q'.length := List.length_map ..
  have htq : (Q'.map padD).take Q'.length = Q'.map padD := List.take_of_length_le (by omega)
  have h64 : (Q'.length + 1) * 64 ≤ 1099511627776 := by omega
  cases b' with
  | true =>
   simp only [if_true] at g2
   rw [← g2]
   generalize inv p (rep (redS L x).ld) = k1 at *
   generalize rep (redS L x).ld = k2 at *
   generalize pad (row (Gq.mon (redS L x))) = P2 at *
   generalize pad (row (redS L x)) = P1 at *
   generalize pad (row x) = Px at *
   generalize (redS L x).len - 1 = d at *
   generalize L.map padD = LD at *
   generalize Q'.map padD = QD at *
   generalize Q'.length = ql at *
   simp -implicitDefEqProofs [Z3l, Z3l_B, dn_cond, e0, e1, e2, e3, g1, hat, hPl, hd64, hn0, hQD, htq, w1]
  | false =>
   simp only [Bool.false_eq_true, if_false] at g2
   rw [← g2, show (Q' ++ [Gq.mon (redS L x)]).map padD = Q'.map padD ++ [(D.arr 64 .leaf (ints .u8 (pad (row (Gq.mon (redS L x))))))] by rw [List.map_append]; rfl]
   have htq2 : ∀ z : D, (Q'.map padD ++ [z]).take (Q'.length + 1) = Q'.map padD ++ [z] := fun z => List.take_of_length_le (by rw [List.length_append, hQD]; exact Nat.le_refl _)
   generalize inv p (rep (redS L x).ld) = k1 at *
   generalize rep (redS L x).ld = k2 at *
   generalize pad (row (Gq.mon (redS L x))) = P2 at *
   generalize pad (row (redS L x)) = P1 at *
   generalize pad (row x) = Px at *
   generalize (redS L x).len - 1 = d at *
   generalize L.map padD = LD at *
   generalize Q'.map padD = QD at *
   generalize Q'.length = ql at *
   simp -implicitDefEqProofs [Z3l, Z3l_B, dn_cond, e0, e1, e2, e3, g1, hat, hPl, hd64, hn0, hQD, htq, htq2, h64, w1, List.replicate]
end Pe

namespace Pe
open Go Gq
variable {T : Nat → Option Fn} {A : Oracle}
open Classical in
theorem l_sRs {O : Oracle} (hr : C_sRes O) {p : Int} [IsP p] {m : Fp p} (hm : m.len ≤ 64) {ls : List (List Int)} (h : Arrs ls) (hl : ls.length < 2000000) : ∀ (k i : Nat), i + k = ls.length →
 dn O 0 (.loop Z3n_L0) ⟨[(0, (.d (.int .i64 p))), (2, .d (.sl (.arr 64 .leaf) (ls.map arr8))), (4, .ptr 0 []), (7, (.d (.int .i64 i)))], [.box false (D.arr 64 .leaf (ints .u8 (pad (row m))))]⟩ =
  if IsSk m (ls.drop i) then some (.exit 0, ⟨[(0, (.d (.int .i64 p))), (2, .d (.sl (.arr 64 .leaf) (ls.map arr8))), (4, .ptr 0 []), (7, (.d (.int .i64 ls.length))), (15, (.d (.bool false)))], [.box false (D.arr 64 .leaf (ints .u8 (pad (row m))))]⟩) else some (.ret, ⟨[(6, (.d (.int .i64 1)))], [.hole]⟩)
 | 0, i, hi => by
  obtain rfl : i = ls.length := by omega
  rw [if_pos (by rw [List.drop_length]; exact isSk_nil m)]
  have hL : (ls.map arr8).length = ls.length := List.length_map ..
  refine dn_stop ?_
  generalize pad (row m) = Pm at *
  generalize ls.map arr8 = LD at *
  simp -implicitDefEqProofs [Z3n_L0, dn_cond, hL]
 | k + 1, i, hi => by
  have hlt : i < ls.length := by omega
  have hm1 := List.getElem_mem hlt
  have e1 := hr p m ls[i] hm (h _ hm1).2 (h _ hm1).1
  have hL : (ls.map arr8).length = ls.length := List.length_map ..
  have w4 : IntKind.i64.wrap ((i : Int) + 1) = ((i + 1 : Nat) : Int) := (w64 (x := (i : Int) + 1) (by omega)).trans (by omega)
  have hx2 : ∀ h : i < (ls.map arr8).length, (ls.map arr8)[i]'h = (D.arr 64 .leaf (ints .u8 (ls[i]))) := fun h => by rw [List.getElem_map]
  have hd : ls.drop i = ls[i] :: ls.drop (i + 1) := List.drop_eq_getElem_cons hlt
  have ih := l_sRs hr hm h hl k (i + 1) (by omega)
  rw [hd]
  by_cases hres : IsRes m ls[i]
  ·rw [decide_eq_true hres] at e1
   have hiff : IsSk m (ls[i] :: ls.drop (i + 1)) ↔ IsSk m (ls.drop (i + 1)) := ⟨fun h => (isSk_cons.1 h).2, fun h => isSk_cons.2 ⟨hres, h⟩⟩
   rw [propext hiff]
   refine dn_round ?_ ih
   generalize ls[i] = li at *
   generalize pad (row m) = Pm at *
   generalize ls.map arr8 = LD at *
   simp -implicitDefEqProofs [Z3n_L0, dn_cond, hlt, hx2, hL, e1, w4]
  ·rw [decide_eq_false hres] at e1
   rw [if_neg (fun h => hres (isSk_cons.1 h).1)]
   refine dn_back ?_
   generalize ls[i] = li at *
   generalize pad (row m) = Pm at *
   generalize ls.map arr8 = LD at *
   simp -implicitDefEqProofs [Z3n_L0, dn_cond, hlt, hx2, hL, e1]
open Classical in
theorem c_sRsCode (hT : T F3n = some Z3n) (hf : C_sField (den T A)) (hi : C_sRes (den T A)) : C_resCode (den T A) F3n := by
 intro p l ls hb hl h hlen
 have e1 := hf p l hb hl
 refine ask_of hT rfl ?_
 unfold codeRs
 by_cases hfl : IsFld p l
 ·rw [decide_eq_true hfl] at e1
  obtain ⟨ip, m, rfl, hm⟩ := hfl
  have h5 := hm.five
  have e2 := l_sRs (O := den T A) hi (m := m) (by omega) h hlen ls.length 0 (Nat.zero_add _)
  have e00 : ((0 : Nat) : Int) = 0 := rfl
  rw [e00, List.drop_zero] at e2
  have hc := fld_code hm (Q := fun ip m' => ∀ x ∈ ls, @IsRes p ip m' x)
  by_cases hs : IsSk m ls
  ·rw [if_pos hs] at e2
   rw [if_pos (hc.2 hs)]
   generalize pad (row m) = Pm at *
   generalize ls.map arr8 = LD at *
   simp -implicitDefEqProofs [Z3n, Z3n_B, dn_cond, e1, e2]
  ·rw [if_neg hs] at e2
   rw [if_neg (fun h => hs (hc.1 h))]
   generalize pad (row m) = Pm at *
   generalize ls.map arr8 = LD at *
   simp -implicitDefEqProofs [Z3n, Z3n_B, dn_cond, e1, e2]
 ·rw [decide_eq_false hfl] at e1
  rw [if_neg (fun ⟨ip, m, e, hm, _⟩ => hfl ⟨ip, m, e, hm⟩)]
  generalize ls.map arr8 = LD at *
  simp -implicitDefEqProofs [Z3n, Z3n_B, dn_cond, e1]
theorem l_sSpan {O : Oracle} (hp : K_sPut O) {p : Int} [IsP p] {xs : List (Fp p)} (hx : ∀ x ∈ xs, x.len ≤ 11) (hl : xs.length < 2000000) : ∀ (k i : Nat) (L : List (Fp p)), i + k = xs.length → Desc 11 L →
 dn O 0 (.loop Z3r_L0) ⟨[(0, (.d (.int .i64 p))), (1, .d (.sl (.arr 64 .leaf) (xs.map padD))), (5, .d (.sl (.arr 64 .leaf) (L.map padD))), (6, (.d (.int .i64 i)))], [.hole]⟩ =
  some (.exit 0, ⟨[(0, (.d (.int .i64 p))), (1, .d (.sl (.arr 64 .leaf) (xs.map padD))), (5, .d (.sl (.arr 64 .leaf) ((spanS (xs.drop i) L).map padD))), (6, (.d (.int .i64 xs.length))), (11, (.d (.bool false)))], [.hole]⟩)
 | 0, i, L, hi, hL => by
  obtain rfl : i = xs.length := by omega
  rw [List.drop_length]
  have hX : (xs.map padD).length = xs.length := List.length_map ..
  refine dn_stop ?_
  show _ = some (_, (⟨[_, _, (5, .d (.sl (.arr 64 .leaf) (L.map padD))), _, _], _⟩ : St))
  generalize L.map padD = LD at *
  generalize xs.map padD = XD at *
  simp -implicitDefEqProofs [Z3r_L0, dn_cond, hX]
 | k + 1, i, L, hi, hL => by
  have hlt : i < xs.length := by omega
  have hm1 := List.getElem_mem hlt
  have e1 := hp p L xs[i] hL (hx _ hm1)
  have hX : (xs.map padD).length = xs.length := List.length_map ..
  have w4 : IntKind.i64.wrap ((i : Int) + 1) = ((i + 1 : Nat) : Int) := (w64 (x := (i : Int) + 1) (by omega)).trans (by omega)
  have hx2 : ∀ h : i < (xs.map padD).length, (xs.map padD)[i]'h = (D.arr 64 .leaf (ints .u8 (pad (row xs[i])))) := fun h => by rw [List.getElem_map]
  have hd : spanS (xs.drop i) L = spanS (xs.drop (i + 1)) (putS L xs[i]) := by rw [List.drop_eq_getElem_cons hlt]; rfl
  rw [hd]
  refine dn_round ?_ (l_sSpan hp hx hl k (i + 1) (putS L xs[i]) (by omega) (putS_desc hL (hx _ hm1)))
  generalize pad (row xs[i]) = Pi at *
  generalize (putS L xs[i]).map padD = PD at *
  generalize L.map padD = LD at *
  generalize xs.map padD = XD at *
  simp -implicitDefEqProofs [Z3r_L0, dn_cond, hlt, hX, hx2, e1, w4]
def K_sSpan (O : Oracle) : Prop := ∀ (p : Int) [IsP p] (xs : List (Fp p)), (∀ x ∈ xs, x.len ≤ 11) → xs.length < 2000000 → ask O F3r [(D.int .i64 p), .sl (.arr 64 .leaf) (xs.map padD)] = some (.sl (.arr 64 .leaf) ((spanS xs []).map padD))
theorem k_sSpan (hT : T F3r = some Z3r) (hp : K_sPut (den T A)) : K_sSpan (den T A) := by
 intro p ip xs hx hl
 cases xs with
 | nil =>
  have st := dn_stop (O := den T A) (np := 0) (c := Z3r_L0) (s := ⟨[(0, (.d (.int .i64 p))), (1, .d (.sl (.arr 64 .leaf) [])), (5, .sl 0 [] 0 0 (some 0)), (6, (.d (.int .i64 0)))], [.sl false (.arr 64 .leaf) []]⟩) (s1 := ⟨[(0, (.d (.int .i64 p))), (1, .d (.sl (.arr 64 .leaf) [])), (5, .sl 0 [] 0 0 (some 0)), (6, (.d (.int .i64 0))), (11, (.d (.bool false)))], [.sl false (.arr 64 .leaf) []]⟩) (id := 0) (by simp -implicitDefEqProofs [Z3r_L0, dn_cond])
  refine ask_of hT rfl ?_
  simp -implicitDefEqProofs [Z3r, Z3r_B, st, spanS]
 | cons x xs =>
  have e1 := hp p [] x (Desc.nil 11) (hx x (by simp))
  have e2 := l_sSpan (O := den T A) hp hx hl xs.length 1 (putS [] x) (by rw [List.length_cons]; omega) (putS_desc (Desc.nil 11) (hx x (by simp)))
  have e01 : ((1 : Nat) : Int) = 1 := rfl
  rw [e01, show (x :: xs).drop 1 = xs from rfl, show spanS xs (putS [] x) = spanS (x :: xs) [] from rfl] at e2
  have hX : ((x :: xs).map padD).length = (x :: xs).length := List.length_map ..
  have hx2 : ∀ h : 0 < ((x :: xs).map padD).length, ((x :: xs).map padD)[0]'h = (D.arr 64 .leaf (ints .u8 (pad (row x)))) := fun h => rfl
  have hpos : (0 : Int) < ((x :: xs).length : Int) := by rw [List.length_cons]; omega
  have hpos2 : 0 < (x :: xs).length := by rw [List.length_cons]; omega
  have w1 : IntKind.i64.wrap 1 = 1 := w64 (by omega)
  rw [List.map_nil] at e1
  generalize (putS [] x).map padD = PD at *
  generalize (spanS (x :: xs) []).map padD = SD at *
  generalize pad (row x) = Px at *
  generalize (x :: xs).map padD = XD at *
  generalize (x :: xs).length = n at *
  have st := dn_round (O := den T A) (np := 0) (c := Z3r_L0) (s := ⟨[(0, (.d (.int .i64 p))), (1, .d (.sl (.arr 64 .leaf) XD)), (5, .sl 0 [] 0 0 (some 0)), (6, (.d (.int .i64 0)))], [.sl false (.arr 64 .leaf) []]⟩) (by
   simp -implicitDefEqProofs [Z3r_L0, dn_cond, hX, hx2, hpos2, e1, w1]) e2
  refine ask_of hT rfl ?_
  simp -implicitDefEqProofs [Z3r, Z3r_B, st]
theorem l_toPs {O : Oracle} (hp : C_toPoly O) {ls : List (List Int)} (h : Arrs ls) (hl : ls.length < 2000000) : ∀ (k i : Nat) (Q : List D), i + k = ls.length → Q.length = ls.length → (∀ d ∈ Q, d.sh.beq (.arr 64 .leaf) = true) → Q.take i = (ls.map arr8).take i →
 dn O 0 (.loop Z1u_L0) ⟨[(0, .d (.sl (.arr 64 .leaf) (ls.map arr8))), (3, .sl 0 [] 0 ls.length (some ls.length)), (4, (.d (.int .i64 i)))], [.sl false (.arr 64 .leaf) Q]⟩ =
  some (.exit 0, ⟨[(0, .d (.sl (.arr 64 .leaf) (ls.map arr8))), (3, .sl 0 [] 0 ls.length (some ls.length)), (4, (.d (.int .i64 ls.length))), (11, (.d (.bool false)))], [.sl false (.arr 64 .leaf) (ls.map arr8)]⟩)
 | 0, i, Q, hi, hq, hQ, ht => by
  obtain rfl : i = ls.length := by omega
  have hL : (ls.map arr8).length = ls.length := List.length_map ..
  rw [List.take_of_length_le (by omega), List.take_of_length_le (by omega)] at ht
  subst ht
  refine dn_stop ?_
  generalize ls.map arr8 = LD at *
  simp -implicitDefEqProofs [Z1u_L0, dn_cond, hL]
 | k + 1, i, Q, hi, hq, hQ, ht => by
  have hlt : i < ls.length := by omega
  have hm1 := List.getElem_mem hlt
  have hsh : ∀ h : i < Q.length, (Q[i]'h).sh.beq (.arr 64 .leaf) = true := fun h => hQ _ (List.getElem_mem h)
  have e1 := hp ls[i] (h _ hm1).2 (h _ hm1).1
  have hL : (ls.map arr8).length = ls.length := List.length_map ..
  have hx2 : ∀ h : i < (ls.map arr8).length, (ls.map arr8)[i]'h = (D.arr 64 .leaf (ints .u8 (ls[i]))) := fun h => by rw [List.getElem_map]
  have w4 : IntKind.i64.wrap ((i : Int) + 1) = ((i + 1 : Nat) : Int) := (w64 (x := (i : Int) + 1) (by omega)).trans (by omega)
  refine dn_round ?_ (l_toPs hp h hl k (i + 1) (Q.set i (D.arr 64 .leaf (ints .u8 (ls[i])))) (by omega) (by rw [List.length_set]; exact hq) (fun d hd => by
   rcases List.mem_or_eq_of_mem_set hd with h1 | rfl
   ·exact hQ d h1
   ·rfl) (by
   rw [List.take_succ_eq_append_getElem (show i < (ls.map arr8).length by omega), List.take_succ_eq_append_getElem (by rw [List.length_set]; omega), List.getElem_set_self, List.take_set, List.set_eq_of_length_le (by rw [List.length_take]; omega), ht, hx2]))
  generalize ls[i] = li at *
  generalize ls.map arr8 = LD at *
  simp -implicitDefEqProofs [Z1u_L0, dn_cond, hlt, hL, hx2, hq, hsh, e1, w4]
def C_toPs (O : Oracle) : Prop := ∀ ls : List (List Int), Arrs ls → ls.length < 2000000 → ask O F1u [.sl (.arr 64 .leaf) (ls.map arr8)] = some (.sl (.arr 64 .leaf) (ls.map arr8))
theorem c_toPs (hT : T F1u = some Z1u) (hp : C_toPoly (den T A)) : C_toPs (den T A) := by
 intro ls h hl
 have e := l_toPs (O := den T A) hp h hl ls.length 0 (List.replicate ls.length (D.arr 64 .leaf (ints .u8 (pad [])))) (Nat.zero_add _) (List.length_replicate ..) (fun d hd => by rw [List.eq_of_mem_replicate hd]; rfl) (by rw [List.take_zero, List.take_zero])
 have e00 : ((0 : Nat) : Int) = 0 := rfl
 rw [e00] at e
 have hL : (ls.map arr8).length = ls.length := List.length_map ..
 have htk : (ls.map arr8).take ls.length = ls.map arr8 := List.take_of_length_le (by omega)
 have h64 : ls.length * 64 ≤ 1099511627776 := by omega
 refine ask_of hT rfl ?_
 generalize ls.map arr8 = LD at *
 generalize ls.length = n at *
 simp -implicitDefEqProofs [Z1u, Z1u_B, e, hL, htk, h64]
theorem l_eqPs {O : Oracle} (he : C_eqPoly O) {ls : List (List Int)} (h : ∀ l ∈ ls, l.length = 64) (hl : ls.length < 2000000) : ∀ (k i : Nat), i + k = ls.length →
 dn O 0 (.loop Z1p_L0) ⟨[(0, .d (.sl (.arr 64 .leaf) (ls.map arr8))), (1, .d (.sl (.arr 64 .leaf) (ls.map arr8))), (5, (.d (.int .i64 i)))], []⟩ =
  some (.exit 0, ⟨[(0, .d (.sl (.arr 64 .leaf) (ls.map arr8))), (1, .d (.sl (.arr 64 .leaf) (ls.map arr8))), (5, (.d (.int .i64 ls.length))), (14, (.d (.bool false)))], []⟩)
 | 0, i, hi => by
  obtain rfl : i = ls.length := by omega
  have hL : (ls.map arr8).length = ls.length := List.length_map ..
  refine dn_stop ?_
  generalize ls.map arr8 = LD at *
  simp -implicitDefEqProofs [Z1p_L0, dn_cond, hL]
 | k + 1, i, hi => by
  have hlt : i < ls.length := by omega
  have e1 := he ls[i] (h _ (List.getElem_mem hlt))
  have hL : (ls.map arr8).length = ls.length := List.length_map ..
  have hx2 : ∀ h : i < (ls.map arr8).length, (ls.map arr8)[i]'h = (D.arr 64 .leaf (ints .u8 (ls[i]))) := fun h => by rw [List.getElem_map]
  have w4 : IntKind.i64.wrap ((i : Int) + 1) = ((i + 1 : Nat) : Int) := (w64 (x := (i : Int) + 1) (by omega)).trans (by omega)
  refine dn_round ?_ (l_eqPs he h hl k (i + 1) (by omega))
  generalize ls[i] = li at *
  generalize ls.map arr8 = LD at *
  simp -implicitDefEqProofs [Z1p_L0, dn_cond, hlt, hL, hx2, e1, w4]
def C_eqPs (O : Oracle) : Prop := ∀ ls : List (List Int), (∀ l ∈ ls, l.length = 64) → ls.length < 2000000 → ask O F1p [.sl (.arr 64 .leaf) (ls.map arr8), .sl (.arr 64 .leaf) (ls.map arr8)] = some (D.bool true)
theorem c_eqPs (hT : T F1p = some Z1p) (he : C_eqPoly (den T A)) : C_eqPs (den T A) := by
 intro ls h hl
 have e := l_eqPs (O := den T A) he h hl ls.length 0 (Nat.zero_add _)
 have e00 : ((0 : Nat) : Int) = 0 := rfl
 rw [e00] at e
 refine ask_of hT rfl ?_
 generalize ls.map arr8 = LD at *
 simp -implicitDefEqProofs [Z1p, Z1p_B, dn_cond, e]
def C_szPs (O : Oracle) : Prop := ∀ (L : List D) (left : Int), 0 ≤ left → left ≤ 2000000 → L.length ≤ 9223372036854775807 → ask O F1s [.sl (.arr 64 .leaf) L, (D.int .i64 left)] = some (D.int .i64 (if left < L.length then -1 else left - L.length))
theorem c_szPs (hT : T F1s = some Z1s) : C_szPs (den T A) := by
 intro L left h0 h1 hl
 have w1 : IntKind.i64.wrap (left - L.length) = left - L.length := w64 (by omega)
 refine ask_of hT rfl ?_
 by_cases h : left < L.length
 ·rw [if_pos h]
  have hn : left - (L.length : Int) < 0 := by omega
  simp -implicitDefEqProofs [Z1s, Z1s_B, dn_cond, w1, hn]
 ·rw [if_neg h]
  have hn : ¬ left - (L.length : Int) < 0 := by omega
  simp -implicitDefEqProofs [Z1s, Z1s_B, dn_cond, w1, hn]
end Pe

namespace Pe
open Go Gq
variable {T : Nat → Option Fn} {A : Oracle}
theorem l_toPsH {O : Oracle} (hp : C_toPoly O) {ls : List (List Int)} (h : Arrs ls) (hl : ls.length < 2000000) : ∀ (k i : Nat) (Q : List D), i + k = ls.length → Q.length = ls.length → (∀ d ∈ Q, d.sh.beq (.arr 64 .leaf) = true) → Q.take i = (ls.map arr8).take i →
 dn O 0 (.loop Z1v_L0) ⟨[(0, .d (.sl (.arr 64 .leaf) (ls.map arr8))), (3, .sl 1 [] 0 ls.length (some ls.length)), (4, (.d (.int .i64 i)))], [.hole, .sl false (.arr 64 .leaf) Q]⟩ =
  some (.exit 0, ⟨[(0, .d (.sl (.arr 64 .leaf) (ls.map arr8))), (3, .sl 1 [] 0 ls.length (some ls.length)), (4, (.d (.int .i64 ls.length))), (11, (.d (.bool false)))], [.hole, .sl false (.arr 64 .leaf) (ls.map arr8)]⟩)
 | 0, i, Q, hi, hq, hQ, ht => by
  obtain rfl : i = ls.length := by omega
  have hL : (ls.map arr8).length = ls.length := List.length_map ..
  rw [List.take_of_length_le (by omega), List.take_of_length_le (by omega)] at ht
  subst ht
  refine dn_stop ?_
  generalize ls.map arr8 = LD at *
  simp -implicitDefEqProofs [Z1v_L0, dn_cond, hL]
 | k + 1, i, Q, hi, hq, hQ, ht => by
  have hlt : i < ls.length := by omega
  have hm1 := List.getElem_mem hlt
  have hsh : ∀ h : i < Q.length, (Q[i]'h).sh.beq (.arr 64 .leaf) = true := fun h => hQ _ (List.getElem_mem h)
  have e1 := hp ls[i] (h _ hm1).2 (h _ hm1).1
  have hL : (ls.map arr8).length = ls.length := List.length_map ..
  have hx2 : ∀ h : i < (ls.map arr8).length, (ls.map arr8)[i]'h = (D.arr 64 .leaf (ints .u8 (ls[i]))) := fun h => by rw [List.getElem_map]
  have w4 : IntKind.i64.wrap ((i : Int) + 1) = ((i + 1 : Nat) : Int) := (w64 (x := (i : Int) + 1) (by omega)).trans (by omega)
  refine dn_round ?_ (l_toPsH hp h hl k (i + 1) (Q.set i (D.arr 64 .leaf (ints .u8 (ls[i])))) (by omega) (by rw [List.length_set]; exact hq) (fun d hd => by
   rcases List.mem_or_eq_of_mem_set hd with h1 | rfl
   ·exact hQ d h1
   ·rfl) (by
   rw [List.take_succ_eq_append_getElem (show i < (ls.map arr8).length by omega), List.take_succ_eq_append_getElem (by rw [List.length_set]; omega), List.getElem_set_self, List.take_set, List.set_eq_of_length_le (by rw [List.length_take]; omega), ht, hx2]))
  generalize ls[i] = li at *
  generalize ls.map arr8 = LD at *
  simp -implicitDefEqProofs [Z1v_L0, dn_cond, hlt, hL, hx2, hq, hsh, e1, w4]
def H_toPs (O : Oracle) : Prop := ∀ ls : List (List Int), Arrs ls → ls.length < 2000000 → O F1v [.d (.sl (.arr 64 .leaf) (ls.map arr8))] [] = some (.sl 0 [] 0 ls.length (some ls.length), [], [.sl false (.arr 64 .leaf) (ls.map arr8)])
theorem h_toPs (hT : T F1v = some Z1v) (hp : C_toPoly (den T A)) : H_toPs (den T A) := by
 intro ls h hl
 have e := l_toPsH (O := den T A) hp h hl ls.length 0 (List.replicate ls.length (D.arr 64 .leaf (ints .u8 (pad [])))) (Nat.zero_add _) (List.length_replicate ..) (fun d hd => by rw [List.eq_of_mem_replicate hd]; rfl) (by rw [List.take_zero, List.take_zero])
 have e00 : ((0 : Nat) : Int) = 0 := rfl
 rw [e00] at e
 have hL : (ls.map arr8).length = ls.length := List.length_map ..
 have h64 : ls.length * 64 ≤ 1099511627776 := by omega
 refine den_of hT rfl ?_
 generalize ls.map arr8 = LD at *
 generalize ls.length = n at *
 simp -implicitDefEqProofs [Z1v, Z1v_B, e, hL, h64, List.idxOf, List.findIdx, List.findIdx.go]
def mk8 (k : Nat) : Int := ((k % 256 : Nat) : Int)
theorem wrap8 (k : Nat) : IntKind.u8.wrap (k : Int) = mk8 k := by
 unfold mk8
 simp [IntKind.wrap, IntKind.bits, IntKind.signed]
def mrow (s i : Nat) : List Int := (List.range 64).map fun j => mk8 (s + 64 * i + j)
def mrows (s n : Nat) : List (List Int) := (List.range n).map (mrow s)
theorem mrow_length (s i : Nat) : (mrow s i).length = 64 := by unfold mrow; rw [List.length_map, List.length_range]
theorem mrows_length (s n : Nat) : (mrows s n).length = n := by unfold mrows; rw [List.length_map, List.length_range]
theorem updR_get (f : Nat → List Int) : ∀ (m i : Nat) (l : List (List Int)) (j : Nat), (updR f m i l)[j]? = if i ≤ j ∧ j < i + m ∧ j < l.length then some (f j) else l[j]?
 | 0, i, l, j => by rw [updR, if_neg (by omega)]
 | m + 1, i, l, j => by
  rw [updR, updR_get f m, List.length_set]
  by_cases h1 : i + 1 ≤ j ∧ j < i + 1 + m ∧ j < l.length
  ·rw [if_pos h1, if_pos (by omega)]
  ·rw [if_neg h1]
   by_cases h2 : j = i
   ·subst h2
    by_cases h3 : j < l.length
    ·rw [if_pos (by omega), List.getElem?_set_self h3]
    ·rw [if_neg (by omega), List.getElem?_eq_none (by simpa using h3), List.getElem?_eq_none (by omega)]
   ·rw [List.getElem?_set_ne (Ne.symm h2), if_neg (by omega)]
theorem updR_all (f : Nat → List Int) (n : Nat) (l : List (List Int)) (hl : l.length = n) : updR f n 0 l = (List.range n).map f := by
 apply List.ext_getElem?
 intro j
 rw [updR_get, List.getElem?_map]
 by_cases hj : j < n
 ·rw [if_pos (by omega), List.getElem?_range hj]; rfl
 ·rw [if_neg (by omega), List.getElem?_eq_none (by omega), List.getElem?_eq_none (by simpa using hj)]; rfl
theorem l_mark0 {O : Oracle} {n s i : Nat} {cp : Option Nat} {LR : List D} (hn : n < 2000000) (hs : s < 1000000000000) (hi : i < n) (hLR : LR.length = n) : ∀ (r j : Nat) (cur : List Int), j + r = 64 → cur.length = 64 →
 dn O 1 (.loop Z1r_L0) ⟨[(0, .sl 0 [] 0 n cp), (1, (.d (.int .i64 (((s + 64 * i + j : Nat) : Int))))), (5, (.d (.int .i64 i))), (6, (.d (.int .i64 j)))], [.sl false (.arr 64 .leaf) (LR.set i (D.arr 64 .leaf (ints .u8 cur)))]⟩ =
  some (.exit 2, ⟨[(0, .sl 0 [] 0 n cp), (1, (.d (.int .i64 (((s + 64 * i + 64 : Nat) : Int))))), (5, (.d (.int .i64 i))), (6, (.d (.int .i64 64))), (14, (.d (.bool false)))], [.sl false (.arr 64 .leaf) (LR.set i (D.arr 64 .leaf (ints .u8 (upd (fun j => mk8 (s + 64 * i + j)) r j cur))))]⟩)
 | 0, j, cur, hj, hc => by
  have : j = 64 := by omega
  subst this
  refine dn_stop ?_
  show _ = some (_, (⟨_, [.sl false (.arr 64 .leaf) (LR.set i (D.arr 64 .leaf (ints .u8 cur)))]⟩ : St))
  generalize LR.set i (D.arr 64 .leaf (ints .u8 cur)) = LQ at *
  generalize ((s + 64 * i + 64 : Nat) : Int) = k at *
  simp -implicitDefEqProofs [Z1r_L0, dn_cond]
 | r + 1, j, cur, hj, hc => by
  have hj64 : j < 64 := by omega
  have hj64' : (j : Int) < 64 := by omega
  have w1 := wrap8 (s + 64 * i + j)
  have w2 : IntKind.i64.wrap (((s + 64 * i + j : Nat) : Int) + 1) = ((s + 64 * i + (j + 1) : Nat) : Int) := (w64 (x := ((s + 64 * i + j : Nat) : Int) + 1) (by omega)).trans (by omega)
  have w4 : IntKind.i64.wrap ((j : Int) + 1) = ((j + 1 : Nat) : Int) := (w64 (x := (j : Int) + 1) (by omega)).trans (by omega)
  have hcur : cur[j]? = some (cf cur j) := by rw [List.getElem?_eq_getElem (by omega), cf_lt]
  refine dn_round ?_ (l_mark0 hn hs hi hLR r (j + 1) (cur.set j (mk8 (s + 64 * i + j))) (by omega) (by rw [List.length_set]; exact hc))
  generalize mk8 (s + 64 * i + j) = mv at *
  generalize ((s + 64 * i + j : Nat) : Int) = k at *
  generalize ((s + 64 * i + (j + 1) : Nat) : Int) = k2 at *
  simp -implicitDefEqProofs [Z1r_L0, dn_cond, hj64, hj64', hi, hLR, hcur, w1, w2, w4]
theorem l_mark1 {O : Oracle} {n s : Nat} {cp : Option Nat} (hn : n < 2000000) (hs : s < 1000000000000) : ∀ (r i : Nat) (L : List (List Int)), i + r = n → L.length = n → (∀ l ∈ L, l.length = 64) →
 dn O 1 (.loop Z1r_L1) ⟨[(0, .sl 0 [] 0 n cp), (1, (.d (.int .i64 (((s + 64 * i : Nat) : Int))))), (5, (.d (.int .i64 i)))], [.sl false (.arr 64 .leaf) (L.map arr8)]⟩ =
  some (.exit 0, ⟨[(0, .sl 0 [] 0 n cp), (1, (.d (.int .i64 (((s + 64 * n : Nat) : Int))))), (5, (.d (.int .i64 n))), (10, (.d (.bool false)))], [.sl false (.arr 64 .leaf) ((updR (mrow s) r i L).map arr8)]⟩)
 | 0, i, L, hi, hL, h64 => by
  obtain rfl : i = n := by omega
  refine dn_stop ?_
  show _ = some (_, (⟨_, [.sl false (.arr 64 .leaf) (L.map arr8)]⟩ : St))
  generalize L.map arr8 = LQ at *
  generalize ((s + 64 * i : Nat) : Int) = k at *
  simp -implicitDefEqProofs [Z1r_L1, dn_cond]
 | r + 1, i, L, hi, hL, h64 => by
  have hlt : i < n := by omega
  have hltL : i < L.length := by omega
  have hLD : (L.map arr8).length = n := by rw [List.length_map]; exact hL
  have w4 : IntKind.i64.wrap ((i : Int) + 1) = ((i + 1 : Nat) : Int) := (w64 (x := (i : Int) + 1) (by omega)).trans (by omega)
  have e := l_mark0 (O := O) (cp := cp) hn hs hlt hLD 64 0 L[i] rfl (h64 _ (List.getElem_mem hltL))
  have hs0 : (L.map arr8).set i (D.arr 64 .leaf (ints .u8 (L[i]))) = L.map arr8 := by
   have : (D.arr 64 .leaf (ints .u8 (L[i]))) = (L.map arr8)[i]'(by omega) := by rw [List.getElem_map]
   rw [this, List.set_getElem_self]
  have e00 : ((0 : Nat) : Int) = 0 := rfl
  rw [hs0, upd_all _ _ _ (h64 _ (List.getElem_mem hltL)), Nat.add_zero, e00, show (List.range 64).map (fun j => mk8 (s + 64 * i + j)) = mrow s i from rfl] at e
  have hset : (L.set i (mrow s i)).map arr8 = (L.map arr8).set i (D.arr 64 .leaf (ints .u8 (mrow s i))) := List.map_set
  have ih := l_mark1 (O := O) (cp := cp) hn hs r (i + 1) (L.set i (mrow s i)) (by omega) (by rw [List.length_set]; exact hL) (fun l hl => by
   rcases List.mem_or_eq_of_mem_set hl with h1 | rfl
   ·exact h64 l h1
   ·exact mrow_length s i)
  rw [hset, show s + 64 * (i + 1) = s + 64 * i + 64 by omega] at ih
  refine dn_round ?_ ih
  have hli : (i : Int) < n := by omega
  generalize mrow s i = mr at *
  generalize ((s + 64 * i + 64 : Nat) : Int) = k2 at *
  generalize ((s + 64 * i : Nat) : Int) = k at *
  generalize L.map arr8 = LQ at *
  simp -implicitDefEqProofs [Z1r_L1, dn_cond, hli, e, w4]
def H_markPs (O : Oracle) : Prop := ∀ (ls : List (List Int)) (cp : Option Nat) (s : Nat), ls.length < 2000000 → s < 1000000000000 → (∀ l ∈ ls, l.length = 64) →
 O F1r [.sl 0 [] 0 ls.length cp, (.d (.int .i64 s))] [.sl false (.arr 64 .leaf) (ls.map arr8)] = some ((.d (.int .i64 (((s + 64 * ls.length : Nat) : Int)))), [.sl false (.arr 64 .leaf) ((mrows s ls.length).map arr8)], [])
theorem h_markPs (hT : T F1r = some Z1r) : H_markPs (den T A) := by
 intro ls cp s hl hs h64
 have e := l_mark1 (O := den T A) (cp := cp) hl hs ls.length 0 ls (Nat.zero_add _) rfl h64
 have e00 : ((0 : Nat) : Int) = 0 := rfl
 rw [e00, Nat.mul_zero, Nat.add_zero, updR_all _ _ _ rfl, show (List.range ls.length).map (mrow s) = mrows s ls.length from rfl] at e
 refine den_of hT rfl ?_
 generalize mrows s ls.length = MR at *
 generalize ((s + 64 * ls.length : Nat) : Int) = k at *
 simp -implicitDefEqProofs [Z1r, Z1r_B, e, List.idxOf, List.findIdx]
theorem l_held0 {O : Oracle} {n s i : Nat} (hn : n < 2000000) (hs : s < 1000000000000) (hi : i < n) : ∀ (r j : Nat), j + r = 64 →
 dn O 0 (.loop Z1q_L0) ⟨[(0, .d (.sl (.arr 64 .leaf) ((mrows s n).map arr8))), (1, (.d (.int .i64 (((s + 64 * i + j : Nat) : Int))))), (5, (.d (.int .i64 i))), (6, (.d (.int .i64 j)))], []⟩ =
  some (.exit 2, ⟨[(0, .d (.sl (.arr 64 .leaf) ((mrows s n).map arr8))), (1, (.d (.int .i64 (((s + 64 * i + 64 : Nat) : Int))))), (5, (.d (.int .i64 i))), (6, (.d (.int .i64 64))), (14, (.d (.bool false)))], []⟩)
 | 0, j, hj => by
  have : j = 64 := by omega
  subst this
  refine dn_stop ?_
  generalize (mrows s n).map arr8 = LQ at *
  generalize ((s + 64 * i + 64 : Nat) : Int) = k at *
  simp -implicitDefEqProofs [Z1q_L0, dn_cond]
 | r + 1, j, hj => by
  have hj64 : j < 64 := by omega
  have hj64' : (j : Int) < 64 := by omega
  have w1 := wrap8 (s + 64 * i + j)
  have w2 : IntKind.i64.wrap (((s + 64 * i + j : Nat) : Int) + 1) = ((s + 64 * i + (j + 1) : Nat) : Int) := (w64 (x := ((s + 64 * i + j : Nat) : Int) + 1) (by omega)).trans (by omega)
  have w4 : IntKind.i64.wrap ((j : Int) + 1) = ((j + 1 : Nat) : Int) := (w64 (x := (j : Int) + 1) (by omega)).trans (by omega)
  have hML : ((mrows s n).map arr8).length = n := by rw [List.length_map, mrows_length]
  have hx : ∀ h : i < ((mrows s n).map arr8).length, ((mrows s n).map arr8)[i]'h = (D.arr 64 .leaf (ints .u8 (mrow s i))) := fun h => by
   rw [List.getElem_map]
   unfold mrows
   rw [List.getElem_map, List.getElem_range]
  have hml := mrow_length s i
  have hv : ∀ h : j < (mrow s i).length, (mrow s i)[j]'h = mk8 (s + 64 * i + j) := fun h => by simp [mrow]
  refine dn_round ?_ (l_held0 hn hs hi r (j + 1) (by omega))
  generalize (mrows s n).map arr8 = LQ at *
  generalize mrow s i = mr at *
  generalize mk8 (s + 64 * i + j) = mv at *
  generalize ((s + 64 * i + j : Nat) : Int) = k at *
  generalize ((s + 64 * i + (j + 1) : Nat) : Int) = k2 at *
  simp -implicitDefEqProofs [Z1q_L0, dn_cond, hj64, hj64', hi, hML, hx, hml, hv, w1, w2, w4]
theorem l_held1 {O : Oracle} {n s : Nat} (hn : n < 2000000) (hs : s < 1000000000000) : ∀ (r i : Nat), i + r = n →
 dn O 0 (.loop Z1q_L1) ⟨[(0, .d (.sl (.arr 64 .leaf) ((mrows s n).map arr8))), (1, (.d (.int .i64 (((s + 64 * i : Nat) : Int))))), (5, (.d (.int .i64 i)))], []⟩ =
  some (.exit 0, ⟨[(0, .d (.sl (.arr 64 .leaf) ((mrows s n).map arr8))), (1, (.d (.int .i64 (((s + 64 * n : Nat) : Int))))), (5, (.d (.int .i64 n))), (10, (.d (.bool false)))], []⟩)
 | 0, i, hi => by
  obtain rfl : i = n := by omega
  have hML : ((mrows s i).map arr8).length = i := by rw [List.length_map, mrows_length]
  refine dn_stop ?_
  generalize (mrows s i).map arr8 = LQ at *
  generalize ((s + 64 * i : Nat) : Int) = k at *
  simp -implicitDefEqProofs [Z1q_L1, dn_cond, hML]
 | r + 1, i, hi => by
  have hlt : i < n := by omega
  have hML : ((mrows s n).map arr8).length = n := by rw [List.length_map, mrows_length]
  have w4 : IntKind.i64.wrap ((i : Int) + 1) = ((i + 1 : Nat) : Int) := (w64 (x := (i : Int) + 1) (by omega)).trans (by omega)
  have e := l_held0 (O := O) hn hs hlt 64 0 rfl
  have e00 : ((0 : Nat) : Int) = 0 := rfl
  rw [Nat.add_zero, e00] at e
  have ih := l_held1 (O := O) hn hs r (i + 1) (by omega)
  rw [show s + 64 * (i + 1) = s + 64 * i + 64 by omega] at ih
  refine dn_round ?_ ih
  generalize ((s + 64 * i + 64 : Nat) : Int) = k2 at *
  generalize ((s + 64 * i : Nat) : Int) = k at *
  generalize (mrows s n).map arr8 = LQ at *
  simp -implicitDefEqProofs [Z1q_L1, dn_cond, hlt, hML, e, w4]
def C_heldPs (O : Oracle) : Prop := ∀ s n : Nat, n < 2000000 → s < 1000000000000 → ask O F1q [.sl (.arr 64 .leaf) ((mrows s n).map arr8), (D.int .i64 s)] = some (D.int .i64 (((s + 64 * n : Nat) : Int)))
theorem c_heldPs (hT : T F1q = some Z1q) : C_heldPs (den T A) := by
 intro s n hn hs
 have e := l_held1 (O := den T A) hn hs n 0 (Nat.zero_add _)
 have e00 : ((0 : Nat) : Int) = 0 := rfl
 rw [e00, Nat.mul_zero, Nat.add_zero] at e
 refine ask_of hT rfl ?_
 generalize (mrows s n).map arr8 = LQ at *
 generalize ((s + 64 * n : Nat) : Int) = k at *
 simp -implicitDefEqProofs [Z1q, Z1q_B, e]
end Pe


namespace Pe
open Go Gq
variable {T : Nat → Option Fn} {A : Oracle}
section
variable {p : Int} [IsP p]
theorem l_rowsH {O : Oracle} (hro : K_rowOf O) {xs : List (Fp p)} (hl : xs.length < 2000000) (hx : ∀ x ∈ xs, x.len ≤ 64) {cq : Option Nat} : ∀ (r i : Nat) (cp : Option Nat), i + r = xs.length → ∃ cp' : Option Nat,
 dn O 1 (.loop Z1k_L0) ⟨[(3, .sl 1 [] 0 i cp), (6, .sl 0 [] 0 xs.length cq), (7, (.d (.int .i64 xs.length))), (8, (.d (.int .i64 i)))], [.sl false (.arr 64 .leaf) (xs.map padD), .sl false .leaf ((xs.take i).map rowD), .hole, .hole, .hole]⟩ =
  some (.exit 0, ⟨[(3, .sl 1 [] 0 xs.length cp'), (6, .sl 0 [] 0 xs.length cq), (7, (.d (.int .i64 xs.length))), (8, (.d (.int .i64 xs.length))), (9, (.d (.bool false)))], [.sl false (.arr 64 .leaf) (xs.map padD), .sl false .leaf (xs.map rowD), .hole, .hole, .hole]⟩)
 | 0, i, cp, hi => by
  obtain rfl : i = xs.length := by omega
  rw [List.take_length]
  refine ⟨cp, dn_stop ?_⟩
  generalize xs.map padD = XD at *
  generalize xs.map rowD = RD at *
  simp -implicitDefEqProofs [Z1k_L0, dn_cond]
 | r + 1, i, cp, hi => by
  have hlt : i < xs.length := by omega
  have hm := List.getElem_mem hlt
  have e1 := hro p xs[i] (hx _ hm)
  have hXD : (xs.map padD).length = xs.length := List.length_map ..
  have hxi : ∀ h : i < (xs.map padD).length, (xs.map padD)[i]'h = (D.arr 64 .leaf (ints .u8 (pad (row xs[i])))) := fun h => by rw [List.getElem_map]
  have w4 : IntKind.i64.wrap ((i : Int) + 1) = ((i + 1 : Nat) : Int) := (w64 (x := (i : Int) + 1) (by omega)).trans (by omega)
  have h24 : (i + 1) * 24 ≤ 1099511627776 := by omega
  have htk : (xs.take (i + 1)).map rowD = (xs.take i).map rowD ++ [(D.sl .leaf (ints .i64 (row xs[i])))] := by rw [List.take_succ_eq_append_getElem hlt, List.map_append]; rfl
  have hL : ((xs.take i).map rowD).length = i := by rw [List.length_map, List.length_take]; omega
  have htt : ((xs.take i).map rowD).take i = (xs.take i).map rowD := List.take_of_length_le (by omega)
  obtain ⟨cp', ih⟩ := l_rowsH hro hl hx (cq := cq) r (i + 1) none (by omega)
  refine ⟨cp', dn_round ?_ ih⟩
  rw [htk]
  generalize pad (row xs[i]) = Pi at *
  generalize row xs[i] = Ri at *
  generalize (xs.take i).map rowD = TD at *
  generalize xs.map padD = XD at *
  simp -implicitDefEqProofs [Z1k_L0, dn_cond, hlt, hXD, hxi, e1, h24, hL, htt, w4, List.replicate]
def H_rows (O : Oracle) : Prop := ∀ (p : Int) [IsP p] (xs : List (Fp p)) (cq : Option Nat), xs.length < 2000000 → (∀ x ∈ xs, x.len ≤ 64) → ∃ cp : Option Nat,
 O F1k [.sl 0 [] 0 xs.length cq] [.sl false (.arr 64 .leaf) (xs.map padD)] = some (.sl 1 [] 0 xs.length cp, [.sl false (.arr 64 .leaf) (xs.map padD)], [.sl false .leaf (xs.map rowD)])
theorem l_polysH {O : Oracle} (hpo : K_poly O) {xs : List (Fp p)} (hl : xs.length < 2000000) (hx : ∀ x ∈ xs, x.len ≤ 64) : ∀ (r i : Nat) (cp : Option Nat), i + r = xs.length → ∃ cp' : Option Nat,
 dn O 0 (.loop Zs_L0) ⟨[(3, .sl 1 [] 0 i cp), (6, .d (.sl .leaf (xs.map rowD))), (7, (.d (.int .i64 xs.length))), (8, (.d (.int .i64 i)))], [.hole, .sl false (.arr 64 .leaf) ((xs.take i).map padD), .hole, .hole]⟩ =
  some (.exit 0, ⟨[(3, .sl 1 [] 0 xs.length cp'), (6, .d (.sl .leaf (xs.map rowD))), (7, (.d (.int .i64 xs.length))), (8, (.d (.int .i64 xs.length))), (9, (.d (.bool false)))], [.hole, .sl false (.arr 64 .leaf) (xs.map padD), .hole, .hole]⟩)
 | 0, i, cp, hi => by
  obtain rfl : i = xs.length := by omega
  rw [List.take_length]
  refine ⟨cp, dn_stop ?_⟩
  generalize xs.map padD = XD at *
  generalize xs.map rowD = RD at *
  simp -implicitDefEqProofs [Zs_L0, dn_cond]
 | r + 1, i, cp, hi => by
  have hlt : i < xs.length := by omega
  have hm := List.getElem_mem hlt
  have e1 := hpo p xs[i] (hx _ hm)
  have hXD : (xs.map rowD).length = xs.length := List.length_map ..
  have hxi : ∀ h : i < (xs.map rowD).length, (xs.map rowD)[i]'h = (D.sl .leaf (ints .i64 (row xs[i]))) := fun h => by rw [List.getElem_map]
  have w4 : IntKind.i64.wrap ((i : Int) + 1) = ((i + 1 : Nat) : Int) := (w64 (x := (i : Int) + 1) (by omega)).trans (by omega)
  have h24 : (i + 1) * 64 ≤ 1099511627776 := by omega
  have htk : (xs.take (i + 1)).map padD = (xs.take i).map padD ++ [(D.arr 64 .leaf (ints .u8 (pad (row xs[i]))))] := by rw [List.take_succ_eq_append_getElem hlt, List.map_append]; rfl
  have hL : ((xs.take i).map padD).length = i := by rw [List.length_map, List.length_take]; omega
  have htt : ((xs.take i).map padD).take i = (xs.take i).map padD := List.take_of_length_le (by omega)
  obtain ⟨cp', ih⟩ := l_polysH hpo hl hx r (i + 1) none (by omega)
  refine ⟨cp', dn_round ?_ ih⟩
  rw [htk]
  generalize pad (row xs[i]) = Pi at *
  generalize row xs[i] = Ri at *
  generalize (xs.take i).map padD = TD at *
  generalize xs.map rowD = XD at *
  simp -implicitDefEqProofs [Zs_L0, dn_cond, hlt, hXD, hxi, e1, h24, hL, htt, w4, List.replicate]
def H_polys (O : Oracle) : Prop := ∀ (p : Int) [IsP p] (xs : List (Fp p)), xs.length < 2000000 → (∀ x ∈ xs, x.len ≤ 64) → ∃ cp : Option Nat,
 O Fs [.d (.sl .leaf (xs.map rowD))] [] = some (.sl 0 [] 0 xs.length cp, [], [.sl false (.arr 64 .leaf) (xs.map padD)])
end
theorem h_rows (hT : T F1k = some Z1k) (hro : K_rowOf (den T A)) : H_rows (den T A) := by
 intro p ip xs cq hl hx
 obtain ⟨cp, e⟩ := l_rowsH (O := den T A) hro hl hx (cq := cq) xs.length 0 (some 0) (Nat.zero_add _)
 have e00 : ((0 : Nat) : Int) = 0 := rfl
 rw [e00, List.take_zero, List.map_nil] at e
 refine ⟨cp, den_of hT rfl ?_⟩
 generalize xs.map padD = XD at *
 generalize xs.map rowD = RD at *
 simp -implicitDefEqProofs [Z1k, Z1k_B, e, List.idxOf, List.findIdx, List.findIdx.go]
theorem h_polys (hT : T Fs = some Zs) (hpo : K_poly (den T A)) : H_polys (den T A) := by
 intro p ip xs hl hx
 obtain ⟨cp, e⟩ := l_polysH (O := den T A) hpo hl hx xs.length 0 (some 0) (Nat.zero_add _)
 have e00 : ((0 : Nat) : Int) = 0 := rfl
 rw [e00, List.take_zero, List.map_nil] at e
 have h2 : (xs.map rowD).length = xs.length := List.length_map ..
 refine ⟨cp, den_of hT rfl ?_⟩
 generalize xs.map padD = XD at *
 generalize xs.map rowD = RD at *
 simp -implicitDefEqProofs [Zs, Zs_B, h2, e, List.idxOf, List.findIdx, List.findIdx.go]
end Pe

namespace Pe
open Go Gq
variable {T : Nat → Option Fn} {A : Oracle}
def C_grow (O : Oracle) : Prop := ∀ n : Nat, n < 10000000 → O F23 [.d (.nils (.arr 64 .leaf)), (.d (.int .i64 n))] [] = some (.sl 0 [] 0 0 none, [], [.sl false (.arr 64 .leaf) (List.replicate n (.arr 64 .leaf z64))])
def C_concat (O : Oracle) : Prop := ∀ X Y : List D, X.length < 2000000 → Y.length < 2000000 → ask O F20 [.sl .leaf [.sl (.arr 64 .leaf) X, .sl (.arr 64 .leaf) Y]] = some (.sl (.arr 64 .leaf) (X ++ Y))
theorem c_concat (hT : T F20 = some Z20) (hg : C_grow (den T A)) : C_concat (den T A) := by
 intro X Y hX hY
 have eg := hg (X.length + Y.length) (by omega)
 obtain ⟨x, hx⟩ : ∃ x : Int, (X.length : Int) = x := ⟨_, rfl⟩
 obtain ⟨y, hy⟩ : ∃ y : Int, ((X.length + Y.length : Nat) : Int) = y := ⟨_, rfl⟩
 rw [hy] at eg
 have w0 : IntKind.i64.wrap x = x := w64 (by omega)
 have hsum : x + (Y.length : Int) = y := by omega
 have w1 : IntKind.i64.wrap y = y := w64 (by omega)
 have w2 : IntKind.i64.wrap 1 = 1 := w64 (by omega)
 have w3 : IntKind.i64.wrap 2 = 2 := w64 (by omega)
 have n1 : ¬ x < 0 := by omega
 have n2 : ¬ y < 0 := by omega
 have b1 : X.length * 64 ≤ 1099511627776 := by omega
 have b2 : (X.length + Y.length) * 64 ≤ 1099511627776 := by omega
 have hXY : (X ++ Y).length = X.length + Y.length := List.length_append
 generalize List.replicate (X.length + Y.length) (D.arr 64 .leaf z64) = ZZ at *
 have st := dn_round (O := den T A) (np := 0) (c := Z20_L0) (s := ⟨[(0, .d (.sl .leaf [.sl (.arr 64 .leaf) X, .sl (.arr 64 .leaf) Y])), (3, (.d (.int .i64 0))), (9, .d (.sl .leaf [.sl (.arr 64 .leaf) X, .sl (.arr 64 .leaf) Y])), (10, (.d (.int .i64 2))), (11, (.d (.int .i64 0)))], [.hole, .hole]⟩)
  (s1 := ⟨[(0, .d (.sl .leaf [.sl (.arr 64 .leaf) X, .sl (.arr 64 .leaf) Y])), (3, (.d (.int .i64 x))), (9, .d (.sl .leaf [.sl (.arr 64 .leaf) X, .sl (.arr 64 .leaf) Y])), (10, (.d (.int .i64 2))), (11, (.d (.int .i64 1)))], [.hole, .hole]⟩) (by
   simp -implicitDefEqProofs [Z20_L0, dn_cond, hx, w0, w2, n1])
  (dn_round (s1 := ⟨[(0, .d (.sl .leaf [.sl (.arr 64 .leaf) X, .sl (.arr 64 .leaf) Y])), (3, (.d (.int .i64 y))), (9, .d (.sl .leaf [.sl (.arr 64 .leaf) X, .sl (.arr 64 .leaf) Y])), (10, (.d (.int .i64 2))), (11, (.d (.int .i64 2)))], [.hole, .hole]⟩) (by
   simp -implicitDefEqProofs [Z20_L0, dn_cond, hsum, w1, w3, n2])
  (dn_stop (id := 0) (s1 := ⟨[(0, .d (.sl .leaf [.sl (.arr 64 .leaf) X, .sl (.arr 64 .leaf) Y])), (3, (.d (.int .i64 y))), (9, .d (.sl .leaf [.sl (.arr 64 .leaf) X, .sl (.arr 64 .leaf) Y])), (10, (.d (.int .i64 2))), (11, (.d (.int .i64 2))), (12, (.d (.bool false)))], [.hole, .hole]⟩) (by
   simp -implicitDefEqProofs [Z20_L0, dn_cond])))
 have sx := dn_round (O := den T A) (np := 0) (c := Z20_L1) (s := ⟨[(6, .sl 0 [] 0 0 none), (25, .d (.sl .leaf [.sl (.arr 64 .leaf) X, .sl (.arr 64 .leaf) Y])), (26, (.d (.int .i64 2))), (27, (.d (.int .i64 0)))], [.sl false (.arr 64 .leaf) ZZ, .hole]⟩)
  (s1 := ⟨[(6, .sl 0 [] 0 X.length none), (25, .d (.sl .leaf [.sl (.arr 64 .leaf) X, .sl (.arr 64 .leaf) Y])), (26, (.d (.int .i64 2))), (27, (.d (.int .i64 1)))], [.sl false (.arr 64 .leaf) X, .hole]⟩) (by
   simp -implicitDefEqProofs [Z20_L1, dn_cond, w2, b1])
  (dn_round (s1 := ⟨[(6, .sl 0 [] 0 (X.length + Y.length) none), (25, .d (.sl .leaf [.sl (.arr 64 .leaf) X, .sl (.arr 64 .leaf) Y])), (26, (.d (.int .i64 2))), (27, (.d (.int .i64 2)))], [.sl false (.arr 64 .leaf) (X ++ Y), .hole]⟩) (by
   simp -implicitDefEqProofs [Z20_L1, dn_cond, w3, b2])
  (dn_stop (id := 2) (s1 := ⟨[(6, .sl 0 [] 0 (X.length + Y.length) none), (25, .d (.sl .leaf [.sl (.arr 64 .leaf) X, .sl (.arr 64 .leaf) Y])), (26, (.d (.int .i64 2))), (27, (.d (.int .i64 2))), (28, (.d (.bool false)))], [.sl false (.arr 64 .leaf) (X ++ Y), .hole]⟩) (by
   simp -implicitDefEqProofs [Z20_L1, dn_cond])))
 refine ask_of hT rfl ?_
 have htk : (X ++ Y).take (X.length + Y.length) = X ++ Y := List.take_of_length_le (by omega)
 generalize X ++ Y = XY at *
 generalize X.length + Y.length = n at *
 simp -implicitDefEqProofs [Z20, Z20_B, st, sx, eg, hXY, htk, List.idxOf, List.findIdx, List.findIdx.go]
section
variable {p : Int}
variable [IsP p]
end
theorem rsOk_append {p : Int} {l : List Int} {ls ms : List (List Int)} : RsOk p l (ls ++ ms) ↔ RsOk p l ls ∧ RsOk p l ms := by
 constructor
 ·rintro ⟨ip, m, e, hm, hs⟩
  exact ⟨⟨ip, m, e, hm, fun x hx => hs x (by simp [hx])⟩, ⟨ip, m, e, hm, fun x hx => hs x (by simp [hx])⟩⟩
 ·rintro ⟨⟨ip, m, rfl, hm, hs⟩, ⟨ip', m', e', hm', hs'⟩⟩
  have h5 := hm.five
  have h6 := hm'.five
  obtain rfl := (pad_row_inj (by omega) (by omega)).1 e'
  refine ⟨ip, m, rfl, hm, fun x hx => ?_⟩
  rcases List.mem_append.1 hx with h | h
  ·exact hs x h
  ·exact hs' x h
theorem codeRs_not {p : Int} {l : List Int} {ls : List (List Int)} (h : ¬ RsOk p l ls) : codeRs p l ls = 1 := if_neg h
open Classical in
noncomputable def codePl (p : Int) (l : List Int) (ls ms : List (List Int)) (c : Prop) : Int :=
 if h : RsOk p l (ls ++ ms) then
  haveI : IsP p := h.choose
  if ¬ (1 ≤ ls.length ∧ ls.length ≤ 4 ∧ c) then 2 else if (spanS (ls.map (polOf p)) []).length < ls.length then 5 else 0
 else 1
def C_places (O : Oracle) : Prop := ∀ (p : Int) (l : List Int) (ls ms : List (List Int)) (b : Bool), Bytes l → l.length = 64 → Arrs ls → Arrs ms → ls.length + ms.length < 2000000 → ask O Fq [(D.int .i64 p), (D.arr 64 .leaf (ints .u8 l)), .sl (.arr 64 .leaf) (ls.map arr8), .sl (.arr 64 .leaf) (ms.map arr8), (D.bool b)] = some (D.int .i64 (codePl p l ls ms (b = true)))
theorem c_places (hT : T Fq = some Zq) (hcc : C_concat (den T A)) (hr : C_resCode (den T A) F1d) (hro : K_rows (den T A)) (hra : K_rank (den T A)) : C_places (den T A) := by
 intro p l ls ms b bl gl ha hb hl
 have e0 := hcc (ls.map arr8) (ms.map arr8) (by rw [List.length_map]; omega) (by rw [List.length_map]; omega)
 rw [← List.map_append] at e0
 have e1 := hr p l (ls ++ ms) bl gl (fun x hx => by
  rcases List.mem_append.1 hx with h | h
  ·exact ha x h
  ·exact hb x h) (by rw [List.length_append]; omega)
 have hL : (ls.map arr8).length = ls.length := List.length_map ..
 unfold codePl
 by_cases h : RsOk p l (ls ++ ms)
 ·rw [codes_rs.2 h] at e1
  rw [dif_pos h]
  obtain ⟨ip, m, rfl, hm, hs⟩ := h
  obtain ⟨S, hS0, hS⟩ := sk_of (m := m) (ls := ls) (fun x hx => hs x (by simp [hx]))
  have h5 := hm.five
  have hSl : ls.length = S.length := by rw [hS0, List.length_map]
  have e2 := hro p S (by omega) (fun x hx => by have := hS x hx; omega)
  have e3 := hra p S (fun x hx => by have := hS x hx; omega) (by omega)
  have hmp : ls.map (polOf p) = S := by rw [hS0]; exact map_polOf (S := S) (fun a ha => by have := hS a ha; omega)
  have hmd : ls.map arr8 = S.map padD := by rw [hS0]; exact map_padD S
  rw [hmp]
  rw [← hmd] at e2
  refine ask_of hT rfl ?_
  obtain ⟨k, hk⟩ : ∃ k : Int, (ls.length : Int) = k := ⟨_, rfl⟩
  have hLk : ((ls.map arr8).length : Int) = k := by rw [hL]; exact hk
  by_cases c1 : k < 1
  ·rw [if_pos (by omega)]
   generalize ls.map arr8 = LD at *
   generalize ms.map arr8 = MD at *
   generalize (ls ++ ms).map arr8 = LM at *
   generalize pad (row m) = Pm at *
   simp -implicitDefEqProofs [Zq, Zq_B, dn_cond, e0, e1, hLk, c1]
  ·by_cases c2 : 4 < k
   ·rw [if_pos (by omega)]
    generalize ls.map arr8 = LD at *
    generalize ms.map arr8 = MD at *
    generalize (ls ++ ms).map arr8 = LM at *
    generalize pad (row m) = Pm at *
    simp -implicitDefEqProofs [Zq, Zq_B, dn_cond, e0, e1, hLk, c1, c2]
   ·cases b with
    | false =>
     rw [if_pos (by simp)]
     generalize ls.map arr8 = LD at *
     generalize ms.map arr8 = MD at *
     generalize (ls ++ ms).map arr8 = LM at *
     generalize pad (row m) = Pm at *
     simp -implicitDefEqProofs [Zq, Zq_B, dn_cond, e0, e1, hLk, c1, c2]
    | true =>
     rw [if_neg (fun h => h ⟨by omega, by omega, rfl⟩)]
     obtain ⟨r, hr⟩ : ∃ r : Int, ((spanS S []).length : Int) = r := ⟨_, rfl⟩
     rw [hr] at e3
     by_cases c3 : r < k
     ·rw [if_pos (by omega)]
      generalize ls.map arr8 = LD at *
      generalize ms.map arr8 = MD at *
      generalize (ls ++ ms).map arr8 = LM at *
      generalize pad (row m) = Pm at *
      generalize S.map rowD = SR at *
      simp -implicitDefEqProofs [Zq, Zq_B, dn_cond, e0, e1, e2, e3, hLk, c1, c2, c3]
     ·rw [if_neg (by omega)]
      generalize ls.map arr8 = LD at *
      generalize ms.map arr8 = MD at *
      generalize (ls ++ ms).map arr8 = LM at *
      generalize pad (row m) = Pm at *
      generalize S.map rowD = SR at *
      simp -implicitDefEqProofs [Zq, Zq_B, dn_cond, e0, e1, e2, e3, hLk, c1, c2, c3]
 ·rw [codeRs_not h] at e1
  rw [dif_neg h]
  refine ask_of hT rfl ?_
  generalize ls.map arr8 = LD at *
  generalize ms.map arr8 = MD at *
  generalize (ls ++ ms).map arr8 = LM at *
  simp -implicitDefEqProofs [Zq, Zq_B, dn_cond, e0, e1]
theorem codePl_congr {p : Int} {l : List Int} {ls ms ns : List (List Int)} {c d : Prop} (h : RsOk p l (ls ++ ms) ↔ RsOk p l (ls ++ ns)) (hc : c ↔ d) : codePl p l ls ms c = codePl p l ls ns d := by
 unfold codePl
 rw [propext hc]
 by_cases g : RsOk p l (ls ++ ms)
 ·rw [dif_pos g, dif_pos (h.1 g)]
 ·rw [dif_neg g, dif_neg (fun g' => g (h.2 g'))]
theorem codePl_ok {p : Int} {l : List Int} {ls ms : List (List Int)} {c : Prop} (h : codePl p l ls ms c = 0) : RsOk p l (ls ++ ms) ∧ 1 ≤ ls.length ∧ ls.length ≤ 4 ∧ c := by
 unfold codePl at h
 split at h
 ·rename_i g
  split at h
  ·cases h
  ·rename_i h1
   exact ⟨g, Classical.not_not.1 h1⟩
 ·cases h
end Pe

namespace Pe
open Go Gq
variable {T : Nat → Option Fn} {A : Oracle}
section
variable {p : Int} [IsP p]
theorem putS_le (L : List (Fp p)) (x : Fp p) : (putS L x).length ≤ L.length + 1 := by
 by_cases h : redS L x = 0
 ·rw [putS_zero h]; omega
 ·rw [putS_ne h, (insS_perm _ L).length_eq, List.length_append, List.length_map]; exact Nat.le_refl _
theorem spanS_le : ∀ (xs L : List (Fp p)), (spanS xs L).length ≤ xs.length + L.length
 | [], L => by unfold spanS; simp
 | x :: xs, L => by
  have h1 := putS_le L x
  have h2 := spanS_le xs (putS L x)
  rw [spanS, List.length_cons]
  omega
end
section
variable {p : Int} [IsP p]
end
def C_sPlc (O : Oracle) : Prop := ∀ (p : Int) (l : List Int) (ls ms : List (List Int)) (lo hi : Int), Bytes l → l.length = 64 → Arrs ls → Arrs ms → ls.length < 2000000 → ms.length < 2000000 → ask O F3p [(D.int .i64 p), (D.arr 64 .leaf (ints .u8 l)), .sl (.arr 64 .leaf) (ls.map arr8), .sl (.arr 64 .leaf) (ms.map arr8), (D.int .i64 lo), (D.int .i64 hi)] = some (D.int .i64 (codePl p l ls ms (lo ≤ ms.length ∧ ms.length ≤ hi)))
theorem c_sPlc (hT : T F3p = some Z3p) (hr : C_resCode (den T A) F3n) (hsp : K_sSpan (den T A)) : C_sPlc (den T A) := by
 intro p l ls ms lo hi bl gl ha hb hl hl'
 have e0 := hr p l ls bl gl ha (by omega)
 have e1 := hr p l ms bl gl hb (by omega)
 unfold codePl
 by_cases h1 : RsOk p l ls
 ·rw [codes_rs.2 h1] at e0
  by_cases h2 : RsOk p l ms
  ·rw [codes_rs.2 h2] at e1
   have h := rsOk_append.2 ⟨h1, h2⟩
   rw [dif_pos h]
   obtain ⟨ip, m, rfl, hm, hs⟩ := h
   obtain ⟨S, hS0, hS⟩ := sk_of (m := m) (ls := ls) (fun x hx => hs x (by simp [hx]))
   have h5 := hm.five
   have hSl : ls.length = S.length := by rw [hS0, List.length_map]
   have e3 := hsp p S (fun x hx => by have := hS x hx; omega) (by omega)
   have hmp : ls.map (polOf p) = S := by rw [hS0]; exact map_polOf (S := S) (fun a ha => by have := hS a ha; omega)
   have hmd : ls.map arr8 = S.map padD := by rw [hS0]; exact map_padD S
   have hle := spanS_le S []
   rw [List.length_nil, Nat.add_zero] at hle
   rw [hmp]
   rw [← hmd] at e3
   refine ask_of hT rfl ?_
   obtain ⟨k, hk⟩ : ∃ k : Int, (ls.length : Int) = k := ⟨_, rfl⟩
   obtain ⟨j, hj⟩ : ∃ j : Int, (ms.length : Int) = j := ⟨_, rfl⟩
   have hLk : ((ls.map arr8).length : Int) = k := by rw [List.length_map]; exact hk
   have hMj : ((ms.map arr8).length : Int) = j := by rw [List.length_map]; exact hj
   obtain ⟨r, hr⟩ : ∃ r : Int, ((spanS S []).length : Int) = r := ⟨_, rfl⟩
   have hRr : (((spanS S []).map padD).length : Int) = r := by rw [List.length_map]; exact hr
   rw [hj]
   by_cases c1 : k < 1
   ·rw [if_pos (by omega)]
    generalize (spanS S []).map padD = RD at *
    generalize ls.map arr8 = LD at *
    generalize ms.map arr8 = MD at *
    generalize pad (row m) = Pm at *
    simp -implicitDefEqProofs [Z3p, Z3p_B, dn_cond, e0, e1, hLk, c1]
   ·by_cases c2 : 4 < k
    ·rw [if_pos (by omega)]
     generalize (spanS S []).map padD = RD at *
     generalize ls.map arr8 = LD at *
     generalize ms.map arr8 = MD at *
     generalize pad (row m) = Pm at *
     simp -implicitDefEqProofs [Z3p, Z3p_B, dn_cond, e0, e1, hLk, c1, c2]
    ·by_cases c3 : j < lo
     ·rw [if_pos (by omega)]
      generalize (spanS S []).map padD = RD at *
      generalize ls.map arr8 = LD at *
      generalize ms.map arr8 = MD at *
      generalize pad (row m) = Pm at *
      simp -implicitDefEqProofs [Z3p, Z3p_B, dn_cond, e0, e1, hLk, hMj, c1, c2, c3]
     ·by_cases c4 : hi < j
      ·rw [if_pos (by omega)]
       generalize (spanS S []).map padD = RD at *
       generalize ls.map arr8 = LD at *
       generalize ms.map arr8 = MD at *
       generalize pad (row m) = Pm at *
       simp -implicitDefEqProofs [Z3p, Z3p_B, dn_cond, e0, e1, hLk, hMj, c1, c2, c3, c4]
      ·rw [if_neg (by omega)]
       by_cases c5 : r = k
       ·rw [if_neg (by omega)]
        generalize (spanS S []).map padD = RD at *
        generalize ls.map arr8 = LD at *
        generalize ms.map arr8 = MD at *
        generalize pad (row m) = Pm at *
        simp -implicitDefEqProofs [Z3p, Z3p_B, dn_cond, e0, e1, e3, hLk, hMj, hRr, c1, c2, c3, c4, c5]
       ·rw [if_pos (by omega)]
        generalize (spanS S []).map padD = RD at *
        generalize ls.map arr8 = LD at *
        generalize ms.map arr8 = MD at *
        generalize pad (row m) = Pm at *
        simp -implicitDefEqProofs [Z3p, Z3p_B, dn_cond, e0, e1, e3, hLk, hMj, hRr, c1, c2, c3, c4, c5]
  ·rw [codeRs_not h2] at e1
   rw [dif_neg (fun h => h2 (rsOk_append.1 h).2)]
   refine ask_of hT rfl ?_
   generalize ls.map arr8 = LD at *
   generalize ms.map arr8 = MD at *
   simp -implicitDefEqProofs [Z3p, Z3p_B, dn_cond, e0, e1]
 ·rw [codeRs_not h1] at e0
  rw [dif_neg (fun h => h1 (rsOk_append.1 h).1)]
  refine ask_of hT rfl ?_
  generalize ls.map arr8 = LD at *
  generalize ms.map arr8 = MD at *
  simp -implicitDefEqProofs [Z3p, Z3p_B, dn_cond, e0]
end Pe

namespace Pe
open Go Gq
section
variable {p : Int}
noncomputable def cS (A : List (Fp p)) (i : Nat) : Fp p := (A[i]?).getD 0
theorem cS_ge {A : List (Fp p)} {i : Nat} (h : A.length ≤ i) : cS A i = 0 := by unfold cS; rw [List.getElem?_eq_none h]; rfl
theorem cS_lt {A : List (Fp p)} {i : Nat} (h : i < A.length) : A[i] = cS A i := by unfold cS; rw [List.getElem?_eq_getElem h]; rfl
def IsTrim (A : List (Fp p)) : Prop := ∀ n, A.length = n + 1 → cS A n ≠ 0
theorem cS_trim (S : List (Fp p)) (i : Nat) : cS (trimS S) i = cS S i := by
 unfold cS trimS
 have hle := stl_le S S.length
 by_cases h : i < stl S S.length
 ·rw [List.getElem?_take, if_pos h]
 ·rw [List.getElem?_take, if_neg h]
  by_cases h2 : i < S.length
  ·rw [stl_zero S S.length i (by omega) h2]; rfl
  ·rw [List.getElem?_eq_none (by omega)]
theorem isTrim_trim (S : List (Fp p)) : IsTrim (trimS S) := fun n hn => by
 obtain ⟨a, x, e, hx⟩ := trimS_form (S := S) (by omega)
 rw [e] at hn ⊢
 rw [List.length_append, List.length_singleton] at hn
 unfold cS
 rw [List.getElem?_append_right (by omega), show n - a.length = 0 by omega]
 exact hx
theorem trim_ext {A B : List (Fp p)} (hA : IsTrim A) (hB : IsTrim B) (h : ∀ i, cS A i = cS B i) : A = B := by
 have hl : A.length = B.length := by
  rcases Nat.lt_trichotomy A.length B.length with g | g | g
  ·exact absurd (by rw [← h]; exact cS_ge (by omega)) (hB (B.length - 1) (by omega))
  ·exact g
  ·exact absurd (by rw [h]; exact cS_ge (by omega)) (hA (A.length - 1) (by omega))
 refine List.ext_getElem hl fun i h1 h2 => ?_
 rw [cS_lt h1, cS_lt h2, h]
theorem trimS_congr {X Y : List (Fp p)} (h : ∀ i, cS X i = cS Y i) : trimS X = trimS Y :=
 trim_ext (isTrim_trim X) (isTrim_trim Y) fun i => by rw [cS_trim, cS_trim, h]
theorem trim_len_le {X : List (Fp p)} {n : Nat} (h : ∀ i, n ≤ i → cS X i = 0) : (trimS X).length ≤ n := by
 rcases Nat.lt_or_ge n (trimS X).length with g | g
 ·have := isTrim_trim X ((trimS X).length - 1) (by omega)
  rw [cS_trim] at this
  exact absurd (h _ (by omega)) this
 ·exact g
theorem isTrim_nil : IsTrim ([] : List (Fp p)) := fun n h => by cases h
theorem cS_mem {A : List (Fp p)} {N : Nat} (h : ∀ i, (cS A i).len ≤ N) : ∀ c ∈ A, c.len ≤ N := fun c hc => by
 obtain ⟨i, hi, rfl⟩ := List.getElem_of_mem hc
 rw [cS_lt hi]; exact h i
theorem mem_cS {A : List (Fp p)} {N : Nat} (h : ∀ c ∈ A, c.len ≤ N) (i : Nat) : (cS A i).len ≤ N := by
 by_cases hi : i < A.length
 ·rw [← cS_lt hi]; exact h _ (List.getElem_mem hi)
 ·rw [cS_ge (by omega), Pol.len_zero]; omega
theorem cS_map {n : Nat} {f : Nat → Fp p} (i : Nat) : cS ((List.range n).map f) i = if i < n then f i else 0 := by
 unfold cS
 rw [List.getElem?_map]
 by_cases h : i < n
 ·rw [List.getElem?_range h, if_pos h]; rfl
 ·rw [List.getElem?_eq_none (by simpa using h), if_neg h]; rfl
noncomputable def plusS (k : Int) (A B : List (Fp p)) : List (Fp p) := trimS ((List.range (max A.length B.length)).map fun i => cS A i + Pol.C (zp p k) * cS B i)
theorem cS_plus (k : Int) (A B : List (Fp p)) (i : Nat) : cS (plusS k A B) i = cS A i + Pol.C (zp p k) * cS B i := by
 unfold plusS
 rw [cS_trim, cS_map]
 split
 ·rfl
 ·rw [cS_ge (A := A) (by omega), cS_ge (A := B) (by omega), Gq.mul_zero, Gq.add_zero]
theorem isTrim_plus (k : Int) (A B : List (Fp p)) : IsTrim (plusS k A B) := isTrim_trim _
theorem plus_len (k : Int) (A B : List (Fp p)) : (plusS k A B).length ≤ max A.length B.length := trim_len_le fun i hi => by
 rw [cS_map, if_neg (by omega)]
noncomputable def termS (c : Fp p) (k : Nat) : List (Fp p) := List.replicate k 0 ++ [c]
theorem termS_length (c : Fp p) (k : Nat) : (termS c k).length = k + 1 := by unfold termS; rw [List.length_append, List.length_replicate]; rfl
theorem cS_term (c : Fp p) (k i : Nat) : cS (termS c k) i = if i = k then c else 0 := by
 unfold cS termS
 rcases Nat.lt_trichotomy i k with h | h | h
 ·rw [List.getElem?_append_left (by rw [List.length_replicate]; exact h), List.getElem?_replicate, if_pos h, if_neg (by omega)]; rfl
 ·rw [List.getElem?_append_right (by rw [List.length_replicate]; omega), List.length_replicate, h, Nat.sub_self, if_pos rfl]; rfl
 ·rw [List.getElem?_eq_none (by rw [List.length_append, List.length_replicate, List.length_singleton]; omega), if_neg (by omega)]; rfl
theorem isTrim_term {c : Fp p} (h : c ≠ 0) (k : Nat) : IsTrim (termS c k) := fun n hn => by
 rw [termS_length] at hn
 rw [cS_term, if_pos (by omega)]; exact h
theorem cS_pd8 {A : List (Fp p)} (i : Nat) : cS (pd8 A) i = cS A i := by
 unfold pd8 cS
 by_cases h : i < A.length
 ·rw [List.getElem?_append_left h]
 ·rw [List.getElem?_append_right (by omega), List.getElem?_replicate, List.getElem?_eq_none (l := A) (by omega)]
  split <;> rfl
theorem pd8_length {A : List (Fp p)} (h : A.length ≤ 8) : (pd8 A).length = 8 := by unfold pd8; rw [List.length_append, List.length_replicate]; omega
theorem trimS_len_le (S : List (Fp p)) : (trimS S).length ≤ S.length := by
 unfold trimS; rw [List.length_take]; omega
theorem snoc_of {B : List (Fp p)} (h : 1 ≤ B.length) : ∃ b, B = b ++ [cS B (B.length - 1)] ∧ b.length = B.length - 1 := by
 have hlt : B.length - 1 < B.length := by omega
 refine ⟨B.take (B.length - 1), ?_, by rw [List.length_take]; omega⟩
 rw [← cS_lt hlt, ← List.take_succ_eq_append_getElem hlt, show B.length - 1 + 1 = B.length by omega, List.take_length]
end
section
variable {p : Int} [IsP p]
theorem byIn_lens' {m x : Fp p} {i N : Nat} (hm : m ≠ 0) (hN : m.len ≤ N + 1) : ∀ (k : Nat) (b Q : List (Fp p)), (∀ c ∈ Q, c.len ≤ N) → ∀ c ∈ byIn m x i k b Q, c.len ≤ N
 | _, [], _, h => h
 | k, y :: ys, Q, h => byIn_lens' hm hN (k + 1) ys _ (addAt_lens h (by have := Pol.len_mod (x * frIt m (i % (m.len - 1)) y) hm; omega))
theorem byOut_lens' {m : Fp p} {b : List (Fp p)} {N : Nat} (hm : m ≠ 0) (hN : m.len ≤ N + 1) : ∀ (i : Nat) (a Q : List (Fp p)), (∀ c ∈ Q, c.len ≤ N) → ∀ c ∈ byOut m b i a Q, c.len ≤ N
 | _, [], _, h => h
 | i, _x :: xs, Q, h => byOut_lens' hm hN (i + 1) xs _ (byIn_lens' hm hN 0 b Q h)
theorem prodS_lens' {m : Fp p} {a b : List (Fp p)} {N : Nat} (hm : m ≠ 0) (hN : m.len ≤ N + 1) : ∀ c ∈ prodS m a b, c.len ≤ N := fun c hc => by
 unfold prodS at hc
 split at hc
 ·cases hc
 ·have h1 : c ∈ mulS m a b := List.mem_of_mem_take hc
  exact byOut_lens' hm hN 0 a _ (fun c hc => by rw [List.eq_of_mem_replicate hc, Pol.len_zero]; omega) c h1
theorem isTrim_prod (m : Fp p) (a b : List (Fp p)) : IsTrim (prodS m a b) := by
 unfold prodS
 split
 ·exact isTrim_nil
 ·exact isTrim_trim _
theorem prod_len_le {m : Fp p} {a b : List (Fp p)} : (prodS m a b).length ≤ a.length + b.length - 1 := by
 unfold prodS
 split
 ·exact Nat.zero_le _
 ·have := trimS_len_le (mulS m a b)
  have hl : (mulS m a b).length = a.length + b.length - 1 := by unfold mulS; rw [byOut_length, List.length_replicate]
  omega
theorem mulS_val {m x y : Fp p} {a b : List (Fp p)} : cS (mulS m (a ++ [x]) (b ++ [y])) (a.length + b.length) = x * frIt m (a.length % (m.len - 1)) y % m := by
 unfold mulS
 rw [byOut_snoc, byIn_snoc]
 unfold addAt
 rw [byIn_get_ge _ _ _ (by omega), byOut_get_ge _ _ _ (by rw [List.length_append, List.length_cons, List.length_nil]; omega)]
 have hN : 0 + a.length + (0 + b.length) = a.length + b.length := by omega
 rw [hN]
 unfold cS
 rw [List.getElem?_set_self (by rw [byIn_length, byOut_length, List.length_replicate, List.length_append, List.length_append]; simp only [List.length_cons, List.length_nil]; omega)]
 rw [List.getElem?_replicate, if_pos (by rw [List.length_append, List.length_append]; simp only [List.length_cons, List.length_nil]; omega)]
 show (0 : Fp p) + _ = _
 rw [Gq.zero_add, show 0 + a.length = a.length by omega]
theorem prod_top {m : Fp p} {A B : List (Fp p)} (ha : 1 ≤ A.length) (hb : 1 ≤ B.length) : cS (prodS m A B) (A.length - 1 + (B.length - 1)) = cS A (A.length - 1) * frIt m ((A.length - 1) % (m.len - 1)) (cS B (B.length - 1)) % m := by
 obtain ⟨a, ea, la⟩ := snoc_of ha
 obtain ⟨b, eb, lb⟩ := snoc_of hb
 have h := mulS_val (m := m) (x := cS A (A.length - 1)) (y := cS B (B.length - 1)) (a := a) (b := b)
 rw [← ea, ← eb, la, lb] at h
 unfold prodS
 rw [if_neg (by omega), cS_trim]
 exact h
theorem inv_back {m x y : Fp p} (hm : Fld m) (hx : x.len < m.len) (hy : y ≠ 0) (hyl : y.len < m.len) : (x * invm m y % m) * y % m = x ∧ y * (x * invm m y % m) % m = x := by
 have h0 : m ≠ 0 := hm.mon.2
 have e := invm_ok hm hy hyl
 have key : Quo.mk m ((x * invm m y % m) * y) = Quo.mk m x := by
  rw [Quo.mk_mul, Pol.mk_mod, Quo.mk_mul, Gq.mul_assoc, e, Gq.mul_one]
 have h1 := (Pol.mod_eq_iff h0).2 key
 rw [Pol.mod_small hx] at h1
 exact ⟨h1, by rw [Gq.mul_comm]; exact h1⟩
theorem frIt_add {m : Fp p} : ∀ (b a : Nat) (x : Fp p), frIt m (a + b) x = frIt m a (frIt m b x)
 | 0, _, _ => rfl
 | b + 1, a, x => by
  show frIt m (a + b) (pw x p.toNat % m) = frIt m a (frIt m b (pw x p.toNat % m))
  exact frIt_add b a _
theorem frIt_round {m : Fp p} (hm : Fld m) (j : Nat) {z : Fp p} (hz : z.len < m.len) : frIt m (j % (m.len - 1)) (frIt m ((m.len - 1 - j % (m.len - 1)) % (m.len - 1)) z) = z := by
 have h2 := hm.two
 have hlt := Nat.mod_lt j (show 0 < m.len - 1 by omega)
 rw [frIt_mod hm _ hz, ← frIt_add, show j % (m.len - 1) + (m.len - 1 - j % (m.len - 1)) = m.len - 1 by omega, ← frIt_mod hm _ hz, Nat.mod_self]
 rfl
noncomputable def qc (left : Bool) (m : Fp p) (A B : List (Fp p)) : Fp p :=
 if left then frIt m ((m.len - 1 - (B.length - 1) % (m.len - 1)) % (m.len - 1)) (cS A (A.length - 1) * invm m (cS B (B.length - 1)) % m)
 else cS A (A.length - 1) * invm m (frIt m ((A.length - B.length) % (m.len - 1)) (cS B (B.length - 1))) % m
noncomputable def qT (left : Bool) (m : Fp p) (A B : List (Fp p)) : List (Fp p) := termS (qc left m A B) (A.length - B.length)
noncomputable def qP (left : Bool) (m : Fp p) (A B : List (Fp p)) : List (Fp p) := if left then prodS m B (qT left m A B) else prodS m (qT left m A B) B
end
section
variable {p : Int}
structure Sk (m : Fp p) (A : List (Fp p)) : Prop where
 trim : IsTrim A
 eight : A.length ≤ 8
 res : ∀ c ∈ A, c.len < m.len
theorem Sk.cs {m : Fp p} {A : List (Fp p)} (h : Sk m A) (hm : m ≠ 0) (i : Nat) : (cS A i).len < m.len := by
 have := mem_cS (N := m.len - 1) (fun c hc => by have := h.res c hc; omega) i
 have := Pol.len_pos hm
 omega
theorem Sk.top {m : Fp p} {A : List (Fp p)} (h : Sk m A) (h1 : 1 ≤ A.length) : cS A (A.length - 1) ≠ 0 := h.trim _ (by omega)
theorem Sk.nil (m : Fp p) : Sk m [] := ⟨isTrim_nil, by simp, fun c h => by cases h⟩
end
section
variable {p : Int} [IsP p]
theorem c_ge' {p : Int} {a : Fp p} {n : Nat} (h : a.len ≤ n) : a.c n = 0 := a.lt_len n h
theorem Sk.plus {m : Fp p} {A B : List (Fp p)} (hm : m ≠ 0) (hA : Sk m A) (hB : Sk m B) (k : Int) : Sk m (plusS k A B) := by
 have h1 := Pol.len_pos hm
 refine ⟨isTrim_plus k A B, by have := plus_len k A B; have := hA.eight; have := hB.eight; omega, fun c hc => ?_⟩
 have := cS_mem (A := plusS k A B) (N := m.len - 1) (fun i => by
  rw [cS_plus]
  have a1 := hA.cs hm i
  have a2 := hB.cs hm i
  exact Pol.len_add_le (by omega) (Pol.len_le fun j hj => by rw [Pol.c_Cmul, c_ge' (by omega), Gq.mul_zero])) c hc
 omega
theorem step_ok (left : Bool) {m : Fp p} (hm : Fld m) {A B : List (Fp p)} (hA : Sk m A) (hB : Sk m B) (h1 : 1 ≤ B.length) (hle : B.length ≤ A.length) :
 qc left m A B ≠ 0 ∧ (qc left m A B).len < m.len ∧ Sk m (qT left m A B) ∧ Sk m (qP left m A B) ∧ (plusS (-1) A (qP left m A B)).length < A.length ∧ Sk m (plusS (-1) A (qP left m A B)) := by
 have h0 : m ≠ 0 := hm.mon.2
 have hx := hA.top (by omega)
 have hxl := hA.cs h0 (A.length - 1)
 have hy := hB.top h1
 have hyl := hB.cs h0 (B.length - 1)
 have hfy : frIt m ((A.length - B.length) % (m.len - 1)) (cS B (B.length - 1)) ≠ 0 := frIt_ne hm _ _ hy hyl
 have hfl := frIt_len h0 ((A.length - B.length) % (m.len - 1)) (cS B (B.length - 1)) hyl
 have hb1 := inv_back hm hxl hfy hfl
 have hb2 := inv_back hm hxl hy hyl
 have hzl : (cS A (A.length - 1) * invm m (cS B (B.length - 1)) % m).len < m.len := Pol.len_mod _ h0
 have hz0 : cS A (A.length - 1) * invm m (cS B (B.length - 1)) % m ≠ 0 := fun h => by
  have := hb2.1
  rw [h, Gq.zero_mul, Pol.zero_mod h0] at this
  exact hx this.symm
 have hc0 : qc left m A B ≠ 0 := by
  unfold qc
  cases left with
  | true => simp only [if_true]; exact frIt_ne hm _ _ hz0 hzl
  | false =>
   simp only [Bool.false_eq_true, if_false]
   intro h
   have := hb1.1
   rw [h, Gq.zero_mul, Pol.zero_mod h0] at this
   exact hx this.symm
 have hcl : (qc left m A B).len < m.len := by
  unfold qc
  cases left with
  | true => simp only [if_true]; exact frIt_len h0 _ _ hzl
  | false => simp only [Bool.false_eq_true, if_false]; exact Pol.len_mod _ h0
 have hTl : (qT left m A B).length = A.length - B.length + 1 := termS_length _ _
 have h8 := hA.eight
 have hT : Sk m (qT left m A B) := ⟨isTrim_term hc0 _, by omega, fun c hc => by
  unfold qT termS at hc
  rcases List.mem_append.1 hc with h | h
  ·rw [List.eq_of_mem_replicate h, Pol.len_zero]; exact Pol.len_pos h0
  ·rw [List.mem_singleton.1 h]; exact hcl⟩
 have hPl : (qP left m A B).length ≤ A.length := by
  unfold qP
  cases left with
  | true => have := prod_len_le (m := m) (a := B) (b := qT true m A B); simp only [if_true]; omega
  | false => have := prod_len_le (m := m) (a := qT false m A B) (b := B); simp only [Bool.false_eq_true, if_false]; omega
 have hP : Sk m (qP left m A B) := by
  have hm1 := Pol.len_pos h0
  refine ⟨?_, by omega, ?_⟩
  ·unfold qP
   cases left with
   | true => exact isTrim_prod _ _ _
   | false => exact isTrim_prod _ _ _
  ·intro c hc
   have : c.len ≤ m.len - 1 := by
    unfold qP at hc
    cases left with
    | true => exact prodS_lens' h0 (by omega) c hc
    | false => exact prodS_lens' h0 (by omega) c hc
   omega
 have htop : cS (qP left m A B) (A.length - 1) = cS A (A.length - 1) := by
  unfold qP
  cases left with
  | true =>
   simp only [if_true]
   have h := prod_top (m := m) (A := B) (B := qT true m A B) h1 (by omega)
   rw [hTl, show B.length - 1 + (A.length - B.length + 1 - 1) = A.length - 1 by omega, show A.length - B.length + 1 - 1 = A.length - B.length by omega] at h
   rw [h]
   unfold qT
   rw [cS_term, if_pos rfl]
   unfold qc
   simp only [if_true]
   rw [frIt_round hm (B.length - 1) hzl]
   exact hb2.2
  | false =>
   simp only [Bool.false_eq_true, if_false]
   have h := prod_top (m := m) (A := qT false m A B) (B := B) (by omega) h1
   rw [hTl, show A.length - B.length + 1 - 1 + (B.length - 1) = A.length - 1 by omega, show A.length - B.length + 1 - 1 = A.length - B.length by omega] at h
   rw [h]
   unfold qT
   rw [cS_term, if_pos rfl]
   unfold qc
   simp only [Bool.false_eq_true, if_false]
   exact hb1.1
 have hneg : ∀ x : Fp p, x + Pol.C (zp p (-1)) * x = 0 := fun x => by
  rw [zp_neg, zp_one, Pol.C_neg, Pol.C_one]
  exact ring_of [x] rfl
 refine ⟨hc0, hcl, hT, hP, ?_, hA.plus h0 hP (-1)⟩
 have hlt : (plusS (-1) A (qP left m A B)).length ≤ A.length - 1 := trim_len_le fun i hi => by
  rw [cS_map]
  split
  ·rcases Nat.lt_or_ge i A.length with g | g
   ·rw [show i = A.length - 1 by omega, htop, hneg]
   ·rw [cS_ge g, cS_ge (A := qP left m A B) (by omega), Gq.mul_zero, Gq.add_zero]
  ·rfl
 omega
def Zto (Q A B : List (Fp p)) : Prop := ∀ j, j + B.length ≤ A.length → cS Q j = 0
theorem Zto.step {left : Bool} {m : Fp p} (hm : Fld m) {Q A B : List (Fp p)} (hA : Sk m A) (hB : Sk m B) (h1 : 1 ≤ B.length) (hle : B.length ≤ A.length) (hz : Zto Q A B) : Zto (plusS 1 Q (qT left m A B)) (plusS (-1) A (qP left m A B)) B := fun j hj => by
 obtain ⟨_, _, _, _, h, _⟩ := step_ok left hm hA hB h1 hle
 unfold qT
 rw [cS_plus, hz j (by omega), cS_term, if_neg (by omega), Gq.mul_zero, Gq.add_zero]
end
end Pe

namespace Pe
open Go Gq
variable {T : Nat → Option Fn} {A : Oracle}
end Pe


namespace Pe
open Go Gq
variable {T : Nat → Option Fn} {A : Oracle}
section
variable {p : Int} [IsP p]
end
end Pe

namespace Pe
open Go Gq
variable {T : Nat → Option Fn} {A : Oracle}
section
variable {α : Type}
end
end Pe

namespace Pe
open Go Gq
variable {T : Nat → Option Fn} {A : Oracle}
theorem pd8_res {p : Int} {m : Fp p} {X : List (Fp p)} (hm : m ≠ 0) (hX : ∀ c ∈ X, c.len < m.len) : ∀ c ∈ pd8 X, c.len < m.len := fun c hc => by
 unfold pd8 at hc
 rcases List.mem_append.1 hc with h | h
 ·exact hX c h
 ·rw [List.eq_of_mem_replicate h, Pol.len_zero]; exact Pol.len_pos hm
end Pe

namespace Pe
open Go Gq
variable {T : Nat → Option Fn} {A : Oracle}
section
variable {p : Int}
noncomputable def vals [IsP p] (m : Fp p) (a xs : List (Fp p)) : List (Fp p) := xs.map fun x => svI m x 0 a 0
theorem vals_length [IsP p] (m : Fp p) (a xs : List (Fp p)) : (vals m a xs).length = xs.length := List.length_map ..
theorem vals_len [IsP p] {m : Fp p} (hm : m ≠ 0) (a xs : List (Fp p)) : ∀ y ∈ vals m a xs, y.len < m.len := by
 intro y hy
 obtain ⟨x, _, rfl⟩ := List.mem_map.1 hy
 exact svI_len hm 0 a 0 (by rw [Pol.len_zero]; exact Pol.len_pos hm)
theorem vals_take [IsP p] {m : Fp p} {a xs : List (Fp p)} {i : Nat} (h : i < xs.length) : (vals m a xs).take (i + 1) = (vals m a xs).take i ++ [svI m xs[i] 0 a 0] := by
 rw [List.take_succ_eq_append_getElem (by rw [vals_length]; exact h)]
 congr 2
 unfold vals
 rw [List.getElem_map]
theorem vals_trim [IsP p] {m : Fp p} (hm : m ≠ 0) (a xs : List (Fp p)) : vals m (trimS a) xs = vals m a xs := List.map_congr_left fun _x _ => svI_trim hm a
theorem l_values [IsP p] {O : Oracle} (hv : K_value O) {m : Fp p} {a xs : List (Fp p)} (h2 : 2 ≤ m.len) (hml : m.len ≤ 64) (ha : a.length < 100000) (hal : ∀ c ∈ a, c.len ≤ 1000) (hn : xs.length < 2000000) (hx : ∀ x ∈ xs, x.len ≤ 1000) : ∀ (r i : Nat) (cp : Option Nat), i + r = xs.length → ∃ cp' : Option Nat,
 dn O 0 (.loop Zi_L0) ⟨[(1, .d (skD a)), (3, .ptr 0 []), (7, .sl 1 [] 0 i cp), (10, .d (.sl .leaf (xs.map rowD))), (11, (.d (.int .i64 xs.length))), (12, (.d (.int .i64 i)))], [.box false (fldD m), .sl false .leaf (((vals m a xs).take i).map rowD), .hole, .hole]⟩ =
  some (.exit 0, ⟨[(1, .d (skD a)), (3, .ptr 0 []), (7, .sl 1 [] 0 xs.length cp'), (10, .d (.sl .leaf (xs.map rowD))), (11, (.d (.int .i64 xs.length))), (12, (.d (.int .i64 xs.length))), (13, (.d (.bool false)))], [.box false (fldD m), .sl false .leaf ((vals m a xs).map rowD), .hole, .hole]⟩)
 | 0, i, cp, hi => by
  obtain rfl : i = xs.length := by omega
  rw [List.take_of_length_le (by rw [vals_length]; exact Nat.le_refl _)]
  refine ⟨cp, dn_stop ?_⟩
  generalize xs.map rowD = XD at *
  generalize (vals m a xs).map rowD = RD at *
  generalize a.map rowD = AD at *
  simp -implicitDefEqProofs [Zi_L0, dn_cond]
 | r + 1, i, cp, hi => by
  have hlt : i < xs.length := by omega
  have e1 := hv p m xs[i] a h2 hml (hx _ (List.getElem_mem hlt)) ha hal
  have hXD : (xs.map rowD).length = xs.length := List.length_map ..
  have hxi : ∀ h : i < (xs.map rowD).length, (xs.map rowD)[i]'h = (D.sl .leaf (ints .i64 (row xs[i]))) := fun h => by rw [List.getElem_map]
  have w4 : IntKind.i64.wrap ((i : Int) + 1) = ((i + 1 : Nat) : Int) := (w64 (x := (i : Int) + 1) (by omega)).trans (by omega)
  have h24 : (i + 1) * 24 ≤ 1099511627776 := by omega
  have htk : ((vals m a xs).take (i + 1)).map rowD = ((vals m a xs).take i).map rowD ++ [(D.sl .leaf (ints .i64 (row (svI m xs[i] 0 a 0))))] := by rw [vals_take hlt, List.map_append]; rfl
  have hL : (((vals m a xs).take i).map rowD).length = i := by rw [List.length_map, List.length_take, vals_length]; omega
  have htt : (((vals m a xs).take i).map rowD).take i = ((vals m a xs).take i).map rowD := List.take_of_length_le (by omega)
  obtain ⟨cp', ih⟩ := l_values hv h2 hml ha hal hn hx r (i + 1) none (by omega)
  refine ⟨cp', dn_round ?_ ih⟩
  rw [htk]
  generalize row (svI m xs[i] 0 a 0) = Qi at *
  generalize row xs[i] = Ri at *
  generalize ((vals m a xs).take i).map rowD = TD at *
  generalize xs.map rowD = XD at *
  generalize a.map rowD = AD at *
  simp -implicitDefEqProofs [Zi_L0, dn_cond, hlt, hXD, hxi, e1, h24, hL, htt, w4, List.replicate]
end
def K_values (O : Oracle) : Prop := ∀ (p : Int) [IsP p] (m : Fp p) (a xs : List (Fp p)), 2 ≤ m.len → m.len ≤ 64 → a.length < 100000 → (∀ c ∈ a, c.len ≤ 1000) → xs.length < 2000000 → (∀ x ∈ xs, x.len ≤ 1000) → ask O Fi [fldD m, skD a, .sl .leaf (xs.map rowD)] = some (.sl .leaf ((vals m a xs).map rowD))
theorem k_values (hT : T Fi = some Zi) (hv : K_value (den T A)) : K_values (den T A) := by
 intro p ip m a xs h2 hml ha hal hn hx
 obtain ⟨cp, e⟩ := l_values (O := den T A) hv h2 hml ha hal hn hx xs.length 0 (some 0) (Nat.zero_add _)
 have e00 : ((0 : Nat) : Int) = 0 := rfl
 rw [e00, List.take_zero, List.map_nil] at e
 have h1 : (xs.map rowD).length = xs.length := List.length_map ..
 have h3 : ((vals m a xs).map rowD).length = xs.length := (List.length_map ..).trans (vals_length m a xs)
 have htk : ((vals m a xs).map rowD).take xs.length = (vals m a xs).map rowD := List.take_of_length_le (by omega)
 refine ask_of hT rfl ?_
 generalize (vals m a xs).map rowD = QD at *
 generalize xs.map rowD = XD at *
 generalize a.map rowD = AD at *
 simp -implicitDefEqProofs [Zi, Zi_B, h1, h3, htk, e]
section
variable {p : Int}
theorem l_sValues [IsP p] {O : Oracle} (hv : K_sSkVal O) {m : Fp p} {a xs : List (Fp p)} (h2 : 2 ≤ m.len) (hml : m.len ≤ 64) (ha : a.length = 8) (hal : ∀ c ∈ a, c.len < m.len) (hn : xs.length < 2000000) (hx : ∀ x ∈ xs, x.len < m.len) : ∀ (r i : Nat) (cp : Option Nat), i + r = xs.length → ∃ cp' : Option Nat,
 dn O 0 (.loop Z3s_L0) ⟨[(0, (.d (.int .i64 p))), (3, .d (.sl (.arr 64 .leaf) (xs.map padD))), (5, .ptr 0 []), (6, .ptr 1 []), (9, .sl 2 [] 0 i cp), (10, (.d (.int .i64 i)))], [.box false (D.arr 64 .leaf (ints .u8 (pad (row m)))), .box false (.arr 8 (.arr 64 .leaf) ((skP a).map arr8)), .sl false (.arr 64 .leaf) (((vals m a xs).take i).map padD), .hole, .hole]⟩ =
  some (.exit 0, ⟨[(0, (.d (.int .i64 p))), (3, .d (.sl (.arr 64 .leaf) (xs.map padD))), (5, .ptr 0 []), (6, .ptr 1 []), (9, .sl 2 [] 0 xs.length cp'), (10, (.d (.int .i64 xs.length))), (15, (.d (.bool false)))], [.box false (D.arr 64 .leaf (ints .u8 (pad (row m)))), .box false (.arr 8 (.arr 64 .leaf) ((skP a).map arr8)), .sl false (.arr 64 .leaf) ((vals m a xs).map padD), .hole, .hole]⟩)
 | 0, i, cp, hi => by
  obtain rfl : i = xs.length := by omega
  rw [List.take_of_length_le (by rw [vals_length]; exact Nat.le_refl _)]
  have hXD : (xs.map padD).length = xs.length := List.length_map ..
  refine ⟨cp, dn_stop ?_⟩
  generalize xs.map padD = XD at *
  generalize (vals m a xs).map padD = RD at *
  generalize (skP a).map arr8 = AD at *
  generalize pad (row m) = Pm at *
  simp -implicitDefEqProofs [Z3s_L0, dn_cond, hXD]
 | r + 1, i, cp, hi => by
  have hlt : i < xs.length := by omega
  have e1 := hv p m xs[i] a h2 hml (hx _ (List.getElem_mem hlt)) ha hal
  have hXD : (xs.map padD).length = xs.length := List.length_map ..
  have hxi : ∀ h : i < (xs.map padD).length, (xs.map padD)[i]'h = (D.arr 64 .leaf (ints .u8 (pad (row xs[i])))) := fun h => by rw [List.getElem_map]
  have w4 : IntKind.i64.wrap ((i : Int) + 1) = ((i + 1 : Nat) : Int) := (w64 (x := (i : Int) + 1) (by omega)).trans (by omega)
  have h24 : (i + 1) * 64 ≤ 1099511627776 := by omega
  have htk : ((vals m a xs).take (i + 1)).map padD = ((vals m a xs).take i).map padD ++ [(D.arr 64 .leaf (ints .u8 (pad (row (svI m xs[i] 0 a 0)))))] := by rw [vals_take hlt, List.map_append]; rfl
  have hL : (((vals m a xs).take i).map padD).length = i := by rw [List.length_map, List.length_take, vals_length]; omega
  have htt : (((vals m a xs).take i).map padD).take i = ((vals m a xs).take i).map padD := List.take_of_length_le (by omega)
  obtain ⟨cp', ih⟩ := l_sValues hv h2 hml ha hal hn hx r (i + 1) none (by omega)
  have hsk : skwD (skP a) = .arr 8 (.arr 64 .leaf) ((skP a).map arr8) := rfl
  rw [hsk] at e1
  refine ⟨cp', dn_round ?_ ih⟩
  rw [htk]
  generalize pad (row (svI m xs[i] 0 a 0)) = Qi at *
  generalize pad (row xs[i]) = Ri at *
  generalize ((vals m a xs).take i).map padD = TD at *
  generalize xs.map padD = XD at *
  generalize (skP a).map arr8 = AD at *
  generalize pad (row m) = Pm at *
  simp -implicitDefEqProofs [Z3s_L0, dn_cond, hlt, hXD, hxi, e1, h24, hL, htt, w4, List.replicate]
end
def K_sValues (O : Oracle) : Prop := ∀ (p : Int) [IsP p] (m : Fp p) (a xs : List (Fp p)), 2 ≤ m.len → m.len ≤ 64 → a.length = 8 → (∀ c ∈ a, c.len < m.len) → xs.length < 2000000 → (∀ x ∈ xs, x.len < m.len) → ask O F3s [(D.int .i64 p), (D.arr 64 .leaf (ints .u8 (pad (row m)))), .arr 8 (.arr 64 .leaf) ((skP a).map arr8), .sl (.arr 64 .leaf) (xs.map padD)] = some (.sl (.arr 64 .leaf) ((vals m a xs).map padD))
theorem k_sValues (hT : T F3s = some Z3s) (hv : K_sSkVal (den T A)) : K_sValues (den T A) := by
 intro p ip m a xs h2 hml ha hal hn hx
 obtain ⟨cp, e⟩ := l_sValues (O := den T A) hv h2 hml ha hal hn hx xs.length 0 (some 0) (Nat.zero_add _)
 have e00 : ((0 : Nat) : Int) = 0 := rfl
 rw [e00, List.take_zero, List.map_nil] at e
 have h1 : (xs.map padD).length = xs.length := List.length_map ..
 have h3 : ((vals m a xs).map padD).length = xs.length := (List.length_map ..).trans (vals_length m a xs)
 have htk : ((vals m a xs).map padD).take xs.length = (vals m a xs).map padD := List.take_of_length_le (by omega)
 refine ask_of hT rfl ?_
 generalize (vals m a xs).map padD = QD at *
 generalize xs.map padD = XD at *
 generalize (skP a).map arr8 = AD at *
 generalize pad (row m) = Pm at *
 simp -implicitDefEqProofs [Z3s, Z3s_B, h3, htk, e]
section
variable {p : Int}
theorem pd8_take {S : List (Fp p)} {i : Nat} (hi : i < S.length) (h8 : S.length ≤ 8) : pd8 (S.take (i + 1)) = (pd8 (S.take i)).set i S[i] := by
 unfold pd8
 rw [List.take_succ_eq_append_getElem hi, List.length_append, List.length_take, Nat.min_eq_left (by omega), List.length_singleton, List.append_assoc, List.set_append_right _ _ (by rw [List.length_take]; omega), List.length_take, Nat.min_eq_left (by omega), Nat.sub_self]
 congr 1
 obtain ⟨k, hk⟩ : ∃ k, 8 - i = k + 1 := ⟨8 - i - 1, by omega⟩
 rw [hk, show 8 - (i + 1) = k by omega, List.replicate_succ]
 rfl
theorem l_sSkew [IsP p] {O : Oracle} {S : List (Fp p)} (h8 : S.length ≤ 8) {b0 : Blk} : ∀ (r i : Nat), i + r = S.length →
 dn O 0 (.loop ir_spec_l09Skew_L0) ⟨[(0, .d (.sl (.arr 64 .leaf) (S.map padD))), (2, .ptr 0 []), (3, .ptr 1 []), (4, (.d (.int .i64 i)))], [b0, .box false (.arr 8 (.arr 64 .leaf) ((skP (pd8 (S.take i))).map arr8))]⟩ =
  some (.exit 0, ⟨[(0, .d (.sl (.arr 64 .leaf) (S.map padD))), (2, .ptr 0 []), (3, .ptr 1 []), (4, (.d (.int .i64 S.length))), (13, (.d (.bool false)))], [b0, .box false (.arr 8 (.arr 64 .leaf) ((skP (pd8 S)).map arr8))]⟩)
 | 0, i, hi => by
  obtain rfl : i = S.length := by omega
  rw [List.take_length]
  have hX : (S.map padD).length = S.length := List.length_map ..
  refine dn_stop ?_
  generalize S.map padD = XD at *
  generalize (skP (pd8 S)).map arr8 = AD at *
  simp -implicitDefEqProofs [ir_spec_l09Skew_L0, dn_cond, hX]
 | r + 1, i, hi => by
  have hlt : i < S.length := by omega
  have hlt8 : (i : Int) < 8 := by omega
  have hltn : i < 8 := by omega
  have hX : (S.map padD).length = S.length := List.length_map ..
  have hxi : ∀ h : i < (S.map padD).length, (S.map padD)[i]'h = (D.arr 64 .leaf (ints .u8 (pad (row S[i])))) := fun h => by rw [List.getElem_map]
  have w4 : IntKind.i64.wrap ((i : Int) + 1) = ((i + 1 : Nat) : Int) := (w64 (x := (i : Int) + 1) (by omega)).trans (by omega)
  have hst : (skP (pd8 (S.take (i + 1)))).map arr8 = ((skP (pd8 (S.take i))).map arr8).set i (D.arr 64 .leaf (ints .u8 (pad (row S[i])))) := by
   rw [pd8_take hlt h8]
   unfold skP
   rw [List.map_set, List.map_set]
  have h8l : ((skP (pd8 (S.take i))).map arr8).length = 8 := by
   unfold skP
   rw [List.length_map, List.length_map, pd8_length (by rw [List.length_take]; omega)]
  have hsh : ∀ h : i < ((skP (pd8 (S.take i))).map arr8).length, (((skP (pd8 (S.take i))).map arr8)[i]'h).sh.beq (.arr 64 .leaf) = true := fun h => by
   rw [List.getElem_map]; rfl
  refine dn_round ?_ (l_sSkew h8 r (i + 1) (by omega))
  rw [hst]
  generalize pad (row S[i]) = Pi at *
  generalize S.map padD = XD at *
  generalize (skP (pd8 (S.take i))).map arr8 = AD at *
  simp -implicitDefEqProofs [ir_spec_l09Skew_L0, dn_cond, hlt, hlt8, hltn, hX, hxi, h8l, hsh, w4]
end
def K_sSkew (O : Oracle) : Prop := ∀ (p : Int) [IsP p] (S : List (Fp p)), S.length ≤ 8 → ask O F3q [.sl (.arr 64 .leaf) (S.map padD)] = some (.arr 8 (.arr 64 .leaf) ((skP (pd8 S)).map arr8))
theorem k_sSkew (hT : T F3q = some Z3q) : K_sSkew (den T A) := by
 intro p ip S h8
 have e := l_sSkew (O := den T A) (b0 := .box false (.arr 8 (.arr 64 .leaf) z8)) h8 S.length 0 (Nat.zero_add _)
 have e00 : ((0 : Nat) : Int) = 0 := rfl
 have hz : (skP (pd8 (S.take 0))).map arr8 = z8 := by
  rw [List.take_zero]
  exact z8_zs (p := p)
 rw [e00, hz] at e
 refine ask_of hT rfl ?_
 generalize (skP (pd8 S)).map arr8 = AD at *
 generalize S.map padD = XD at *
 simp -implicitDefEqProofs [Z3q, ir_spec_l09Skew_B, e]
end Pe

namespace Pe
open Go Gq
variable {T : Nat → Option Fn} {A : Oracle}
def erP (ls ms : List (List Int)) : Prop := 1 ≤ ms.length ∧ ms.length ≤ ls.length
open Classical in
noncomputable def erL (p : Int) (l : List Int) (ls ms : List (List Int)) : List (List Int) :=
 if h : codePl p l ls ms (erP ls ms) = 0 then
  haveI : IsP p := (codePl_ok h).1.choose
  skP (vals (polOf p l) (ms.map (polOf p)) (ls.map (polOf p)))
 else []
theorem er_good {p : Int} [IsP p] {m : Fp p} {S R : List (Fp p)} (h : codePl p (pad (row m)) (skP S) (skP R) (erP (skP S) (skP R)) = 0) (hm : m.len ≤ 64) (hS : ∀ a ∈ S, a.len ≤ 64) (hR : ∀ a ∈ R, a.len ≤ 64) : erL p (pad (row m)) (skP S) (skP R) = skP (vals m R S) := by
 unfold erL
 rw [dif_pos h, polOf_pad hm, map_polOf hS, map_polOf hR]
theorem er_bad {p : Int} {l : List Int} {ls ms : List (List Int)} (h : ¬ codePl p l ls ms (erP ls ms) = 0) : erL p l ls ms = [] := by unfold erL; rw [dif_neg h]
theorem er_ok {p : Int} {l : List Int} {ls ms : List (List Int)} (h : codePl p l ls ms (erP ls ms) = 0) : ∃ (_ : IsP p) (m : Fp p) (S R : List (Fp p)), l = pad (row m) ∧ Fld m ∧ ls = skP S ∧ ms = skP R ∧ (∀ a ∈ S, a.len < m.len) ∧ (∀ a ∈ R, a.len < m.len) ∧ S.length ≤ 4 ∧ 1 ≤ R.length ∧ R.length ≤ S.length := by
 obtain ⟨⟨ip, m, e, hm, hs⟩, h1, h4, h2, h3⟩ := codePl_ok h
 obtain ⟨S, hS0, hS⟩ := sk_of (m := m) (ls := ls) (fun x hx => hs x (by simp [hx]))
 obtain ⟨R, hR0, hR⟩ := sk_of (m := m) (ls := ms) (fun x hx => hs x (by simp [hx]))
 have hSl : ls.length = S.length := by rw [hS0, List.length_map]
 have hRl : ms.length = R.length := by rw [hR0, List.length_map]
 exact ⟨ip, m, S, R, e, hm, hS0, hR0, hS, hR, by omega, by omega, by omega⟩
theorem erL_ok (p : Int) (l : List Int) (ls ms : List (List Int)) : (∀ x ∈ erL p l ls ms, x.length = 64) ∧ (erL p l ls ms).length ≤ 4 := by
 by_cases h : codePl p l ls ms (erP ls ms) = 0
 ·obtain ⟨ip, m, S, R, rfl, hm, rfl, rfl, hS, hR, h4, -, -⟩ := er_ok h
  have h5 := hm.five
  rw [er_good h (by omega) (fun a ha => by have := hS a ha; omega) (fun a ha => by have := hR a ha; omega)]
  refine ⟨fun x hx => by obtain ⟨a, _, rfl⟩ := List.mem_map.1 hx; exact pad_length _, ?_⟩
  unfold skP
  rw [List.length_map, vals_length]; exact h4
 ·rw [er_bad h]; exact ⟨fun x hx => by simp at hx, by simp⟩
noncomputable def erD (p : Int) (l : List Int) (ls ms : List (List Int)) : D := .tup [.sl (.arr 64 .leaf) ((erL p l ls ms).map arr8), (D.int .i64 (codePl p l ls ms (erP ls ms)))]
def K_EncodeRank (O : Oracle) (F : Nat) : Prop := ∀ (p : Int) (l : List Int) (ls ms : List (List Int)), Bytes l → l.length = 64 → Arrs ls → Arrs ms → ls.length + ms.length < 2000000 → ask O F [(D.int .i64 p), (D.arr 64 .leaf (ints .u8 l)), .sl (.arr 64 .leaf) (ls.map arr8), .sl (.arr 64 .leaf) (ms.map arr8)] = some (erD p l ls ms)
theorem k_EncodeRank (hT : T F4 = some Z4) (hp : C_places (den T A)) (hfo : K_fieldOf (den T A)) (hro : K_rows (den T A)) (htr : K_sktrim (den T A)) (hva : K_values (den T A)) (hpo : K_polys (den T A)) : K_EncodeRank (den T A) F4 := by
 intro p l ls ms bl gl ha hb hl
 have e1 := fun b => hp p l ls ms b bl gl ha hb hl
 unfold erD
 obtain ⟨k, hk⟩ : ∃ k : Int, (ls.length : Int) = k := ⟨_, rfl⟩
 obtain ⟨j, hj⟩ : ∃ j : Int, (ms.length : Int) = j := ⟨_, rfl⟩
 have hLk : ((ls.map arr8).length : Int) = k := by rw [List.length_map]; exact hk
 have hMj : ((ms.map arr8).length : Int) = j := by rw [List.length_map]; exact hj
 by_cases h : codePl p l ls ms (erP ls ms) = 0
 ·have e2 := e1 true
  rw [codePl_congr (ns := ms) (d := erP ls ms) Iff.rfl ⟨fun _ => (codePl_ok h).2.2.2, fun _ => rfl⟩, h] at e2
  rw [h]
  have h' := h
  obtain ⟨ip, m, S, R, rfl, hm, rfl, rfl, hS, hR, h4, hR1, hRS⟩ := er_ok h
  have h5 := hm.five
  rw [er_good h' (by omega) (fun a ha => by have := hS a ha; omega) (fun a ha => by have := hR a ha; omega)]
  have hSl : (skP S).length = S.length := List.length_map ..
  have hRl : (skP R).length = R.length := List.length_map ..
  have c1 : 1 ≤ j := by omega
  have c2 : j ≤ k := by omega
  have e3 := hfo p m (by omega)
  have e4 := hro p S (by omega) (fun x hx => by have := hS x hx; omega)
  have e5 := hro p R (by omega) (fun x hx => by have := hR x hx; omega)
  have e6 := htr p R (by omega)
  have htl : (trimS R).length ≤ R.length := by unfold trimS; rw [List.length_take]; omega
  have e7 := hva p m (trimS R) S hm.two (by omega) (by omega) (fun c hc => by have := hR c (List.mem_of_mem_take hc); omega) (by omega) (fun x hx => by have := hS x hx; omega)
  rw [vals_trim hm.mon.2, show skD (trimS R) = .sl .leaf ((trimS R).map rowD) from rfl] at e7
  rw [show skD (trimS R) = .sl .leaf ((trimS R).map rowD) from rfl, show skD R = .sl .leaf (R.map rowD) from rfl] at e6
  have hv := vals_len hm.mon.2 R S
  have e8 := hpo p (vals m R S) (by rw [vals_length]; omega) (fun x hx => by have := hv x hx; omega)
  rw [show (skP (vals m R S)).map arr8 = (vals m R S).map padD from map_padD _]
  rw [map_padD S] at e2 hLk ⊢
  rw [map_padD R] at e2 hMj ⊢
  refine ask_of hT rfl ?_
  generalize (vals m R S).map padD = VD at *
  generalize (vals m R S).map rowD = VR at *
  generalize S.map padD = SD at *
  generalize R.map padD = RD at *
  generalize S.map rowD = SR at *
  generalize R.map rowD = RR at *
  generalize (trimS R).map rowD = TR at *
  generalize pad (row m) = Pm at *
  simp -implicitDefEqProofs [Z4, Z4_B, dn_cond, e2, e3, e4, e5, e6, e7, e8, hLk, hMj, c1, c2]
 ·rw [er_bad h, List.map_nil]
  refine ask_of hT rfl ?_
  by_cases c1 : 1 ≤ j
  ·by_cases c2 : j ≤ k
   ·have e2 := e1 true
    rw [codePl_congr (ns := ms) (d := erP ls ms) Iff.rfl ⟨fun _ => ⟨by omega, by omega⟩, fun _ => rfl⟩] at e2
    generalize codePl p l ls ms (erP ls ms) = cc at *
    generalize ls.map arr8 = LD at *
    generalize ms.map arr8 = MD at *
    simp -implicitDefEqProofs [Z4, Z4_B, dn_cond, e2, hLk, hMj, c1, c2, h]
   ·have e2 := e1 false
    rw [codePl_congr (ns := ms) (d := erP ls ms) Iff.rfl ⟨fun h => (Bool.false_ne_true h).elim, fun h => by have h2 := h.2; omega⟩] at e2
    generalize codePl p l ls ms (erP ls ms) = cc at *
    generalize ls.map arr8 = LD at *
    generalize ms.map arr8 = MD at *
    simp -implicitDefEqProofs [Z4, Z4_B, dn_cond, e2, hLk, hMj, c1, c2, h]
  ·have e2 := e1 false
   rw [codePl_congr (ns := ms) (d := erP ls ms) Iff.rfl ⟨fun h => (Bool.false_ne_true h).elim, fun h => by have h2 := h.1; omega⟩] at e2
   generalize codePl p l ls ms (erP ls ms) = cc at *
   generalize ls.map arr8 = LD at *
   generalize ms.map arr8 = MD at *
   simp -implicitDefEqProofs [Z4, Z4_B, dn_cond, e2, hMj, c1, h]
theorem k_sEncodeRank (hT : T F30 = some Z30) (hp : C_sPlc (den T A)) (hsk : K_sSkew (den T A)) (hva : K_sValues (den T A)) : K_EncodeRank (den T A) F30 := by
 intro p l ls ms bl gl ha hb hl
 have e2 := hp p l ls ms 1 ls.length bl gl ha hb (by omega) (by omega)
 rw [codePl_congr (ns := ms) (d := erP ls ms) Iff.rfl (by unfold erP; omega)] at e2
 have hLL : (ls.map arr8).length = ls.length := List.length_map ..
 unfold erD
 by_cases h : codePl p l ls ms (erP ls ms) = 0
 ·rw [h] at e2 ⊢
  have h' := h
  obtain ⟨ip, m, S, R, rfl, hm, rfl, rfl, hS, hR, h4, hR1, hRS⟩ := er_ok h
  have h5 := hm.five
  rw [er_good h' (by omega) (fun a ha => by have := hS a ha; omega) (fun a ha => by have := hR a ha; omega)]
  have e3 := hsk p R (by omega)
  have e4 := hva p m (pd8 R) S hm.two (by omega) (pd8_length (by omega)) (pd8_res hm.mon.2 hR) (by omega) hS
  have hvp : vals m (pd8 R) S = vals m R S := by
   rw [← vals_trim hm.mon.2 (pd8 R), show trimS (pd8 R) = trimS R from trimS_congr fun i => cS_pd8 i, vals_trim hm.mon.2]
  rw [hvp] at e4
  rw [show (skP (vals m R S)).map arr8 = (vals m R S).map padD from map_padD _]
  rw [map_padD S] at e2 hLL ⊢
  rw [map_padD R] at e2 ⊢
  have hfl := flats_arr8 (skP (pd8 R))
  generalize (skP S).length = n at *
  refine ask_of hT rfl ?_
  generalize (vals m R S).map padD = VD at *
  generalize S.map padD = SD at *
  generalize R.map padD = RD at *
  generalize (skP (pd8 R)).map arr8 = PR at *
  generalize pad (row m) = Pm at *
  simp -implicitDefEqProofs [Z30, Z30_B, dn_cond, e2, e3, e4, hLL, hfl]
 ·rw [er_bad h, List.map_nil]
  refine ask_of hT rfl ?_
  generalize codePl p l ls ms (erP ls ms) = cc at *
  generalize ls.map arr8 = LD at *
  generalize ms.map arr8 = MD at *
  generalize ls.length = n at *
  simp -implicitDefEqProofs [Z30, Z30_B, dn_cond, e2, hLL, h]
def H_EncodeRank (O : Oracle) : Prop := ∀ (p : Int) (l : List Int) (ls ms : List (List Int)) (cq cr : Option Nat), Bytes l → l.length = 64 → Arrs ls → Arrs ms → ls.length + ms.length < 2000000 → ∃ cp : Option Nat,
 O F5 [(.d (.int .i64 p)), .d (D.arr 64 .leaf (ints .u8 l)), .sl 0 [] 0 ls.length cq, .sl 1 [] 0 ms.length cr] [.sl false (.arr 64 .leaf) (ls.map arr8), .sl false (.arr 64 .leaf) (ms.map arr8)] = some (.tup [.sl 2 [] 0 (erL p l ls ms).length cp, (.d (.int .i64 (codePl p l ls ms (erP ls ms))))], [.sl false (.arr 64 .leaf) (ls.map arr8), .sl false (.arr 64 .leaf) (ms.map arr8)], [.sl false (.arr 64 .leaf) ((erL p l ls ms).map arr8)])
theorem h_EncodeRank (hT : T F5 = some Z5_w) (hp : C_places (den T A)) (hfo : K_fieldOf (den T A)) (hro : H_rows (den T A)) (htr : K_sktrim (den T A)) (hva : K_values (den T A)) (hpo : H_polys (den T A)) : H_EncodeRank (den T A) := by
 intro p l ls ms cq cr bl gl ha hb hl
 have e1 := fun b => hp p l ls ms b bl gl ha hb hl
 obtain ⟨k, hk⟩ : ∃ k : Int, (ls.length : Int) = k := ⟨_, rfl⟩
 obtain ⟨j, hj⟩ : ∃ j : Int, (ms.length : Int) = j := ⟨_, rfl⟩
 have hLL : (ls.map arr8).length = ls.length := List.length_map ..
 have hMM : (ms.map arr8).length = ms.length := List.length_map ..
 have htl : (ls.map arr8).take ls.length = ls.map arr8 := List.take_of_length_le (by omega)
 have htm : (ms.map arr8).take ms.length = ms.map arr8 := List.take_of_length_le (by omega)
 by_cases h : codePl p l ls ms (erP ls ms) = 0
 ·have e2 := e1 true
  rw [codePl_congr (ns := ms) (d := erP ls ms) Iff.rfl ⟨fun _ => (codePl_ok h).2.2.2, fun _ => rfl⟩, h] at e2
  rw [h]
  have h' := h
  obtain ⟨ip, m, S, R, rfl, hm, rfl, rfl, hS, hR, h4, hR1, hRS⟩ := er_ok h
  have h5 := hm.five
  rw [er_good h' (by omega) (fun a ha => by have := hS a ha; omega) (fun a ha => by have := hR a ha; omega)]
  have hSl : (skP S).length = S.length := List.length_map ..
  have hRl : (skP R).length = R.length := List.length_map ..
  have c1 : 1 ≤ j := by omega
  have c2 : j ≤ k := by omega
  have e3 := hfo p m (by omega)
  obtain ⟨q4, e4⟩ := hro p S cq (by omega) (fun x hx => by have := hS x hx; omega)
  obtain ⟨q5, e5⟩ := hro p R cr (by omega) (fun x hx => by have := hR x hx; omega)
  have e6 := htr p R (by omega)
  have htl2 : (trimS R).length ≤ R.length := by unfold trimS; rw [List.length_take]; omega
  have e7 := hva p m (trimS R) S hm.two (by omega) (by omega) (fun c hc => by have := hR c (List.mem_of_mem_take hc); omega) (by omega) (fun x hx => by have := hS x hx; omega)
  rw [vals_trim hm.mon.2, show skD (trimS R) = .sl .leaf ((trimS R).map rowD) from rfl] at e7
  rw [show skD (trimS R) = .sl .leaf ((trimS R).map rowD) from rfl, show skD R = .sl .leaf (R.map rowD) from rfl] at e6
  have hv := vals_len hm.mon.2 R S
  obtain ⟨q8, e8⟩ := hpo p (vals m R S) (by rw [vals_length]; omega) (fun x hx => by have := hv x hx; omega)
  have hvl : (skP (vals m R S)).length = (vals m R S).length := List.length_map ..
  rw [show (skP (vals m R S)).map arr8 = (vals m R S).map padD from map_padD _, hvl]
  rw [hSl] at hk hLL htl ⊢
  rw [hRl] at hj hMM htm ⊢
  rw [map_padD S] at e2 hLL htl ⊢
  rw [map_padD R] at e2 hMM htm ⊢
  have hSR : (S.map rowD).length = S.length := List.length_map ..
  have hRR : (R.map rowD).length = R.length := List.length_map ..
  have hts : (S.map rowD).take S.length = S.map rowD := List.take_of_length_le (by omega)
  have htR : (R.map rowD).take R.length = R.map rowD := List.take_of_length_le (by omega)
  refine ⟨q8, den_of hT rfl ?_⟩
  generalize (vals m R S).map padD = VD at *
  generalize (vals m R S).map rowD = VR at *
  generalize (vals m R S).length = vl at *
  generalize S.map padD = SD at *
  generalize R.map padD = RD at *
  generalize S.map rowD = SR at *
  generalize R.map rowD = RR at *
  generalize (trimS R).map rowD = TR at *
  generalize S.length = sn at *
  generalize R.length = rn at *
  generalize pad (row m) = Pm at *
  simp -implicitDefEqProofs [Z5_w, Z5_w_B, dn_cond, e2, e3, e4, e5, e6, e7, e8, hk, hj, hLL, hMM, htl, htm, hSR, hRR, hts, htR, c1, c2, List.idxOf, List.findIdx, List.findIdx.go]
 ·rw [er_bad h, List.map_nil]
  refine ⟨some 0, den_of hT rfl ?_⟩
  by_cases c1 : 1 ≤ j
  ·by_cases c2 : j ≤ k
   ·have e2 := e1 true
    rw [codePl_congr (ns := ms) (d := erP ls ms) Iff.rfl ⟨fun _ => ⟨by omega, by omega⟩, fun _ => rfl⟩] at e2
    generalize codePl p l ls ms (erP ls ms) = cc at *
    generalize ls.map arr8 = LD at *
    generalize ms.map arr8 = MD at *
    generalize ls.length = sn at *
    generalize ms.length = rn at *
    simp -implicitDefEqProofs [Z5_w, Z5_w_B, dn_cond, e2, hk, hj, hLL, hMM, htl, htm, c1, c2, h, List.idxOf, List.findIdx, List.findIdx.go]
   ·have e2 := e1 false
    rw [codePl_congr (ns := ms) (d := erP ls ms) Iff.rfl ⟨fun h => (Bool.false_ne_true h).elim, fun h => by have h2 := h.2; omega⟩] at e2
    generalize codePl p l ls ms (erP ls ms) = cc at *
    generalize ls.map arr8 = LD at *
    generalize ms.map arr8 = MD at *
    generalize ls.length = sn at *
    generalize ms.length = rn at *
    simp -implicitDefEqProofs [Z5_w, Z5_w_B, dn_cond, e2, hk, hj, hLL, hMM, htl, htm, c1, c2, h, List.idxOf, List.findIdx, List.findIdx.go]
  ·have e2 := e1 false
   rw [codePl_congr (ns := ms) (d := erP ls ms) Iff.rfl ⟨fun h => (Bool.false_ne_true h).elim, fun h => by have h2 := h.1; omega⟩] at e2
   generalize codePl p l ls ms (erP ls ms) = cc at *
   generalize ls.map arr8 = LD at *
   generalize ms.map arr8 = MD at *
   generalize ls.length = sn at *
   generalize ms.length = rn at *
   simp -implicitDefEqProofs [Z5_w, Z5_w_B, dn_cond, e2, hj, hLL, hMM, htl, htm, c1, h, List.idxOf, List.findIdx, List.findIdx.go]
end Pe

namespace Pe
open Go Gq
variable {T : Nat → Option Fn} {A : Oracle}
def L_EncodeRank (O : Oracle) : Prop := ∀ (p : Int) (l : List Int), Bytes l → l.length = 64 → ∀ (ls : List (List Int)), Arrs ls → ls.length ≤ 9223372036854775807 → ∀ (ms : List (List Int)), Arrs ms → ms.length ≤ 9223372036854775807 → ask O F1n [(D.int .i64 p), (D.arr 64 .leaf (ints .u8 l)), .sl (.arr 64 .leaf) (ls.map arr8), .sl (.arr 64 .leaf) (ms.map arr8)] = some (D.bool true)
theorem law_EncodeRank (hT : T F1n = some Z1n) (hp : C_toPoly (den T A)) (hk : C_toPs (den T A)) (hkh : H_toPs (den T A)) (he : C_eqPs (den T A)) (hsz : C_szPs (den T A)) (hmk : H_markPs (den T A)) (hhd : C_heldPs (den T A)) (hi : K_EncodeRank (den T A) F4) (hih : H_EncodeRank (den T A)) (hs : K_EncodeRank (den T A) F30) : L_EncodeRank (den T A) := by
 intro p l bl gl ls ha hl ms hb hm
 have e0 := hsz (ls.map arr8) 1048576 (by omega) (by omega) (by rw [List.length_map]; exact hl)
 rw [List.length_map] at e0
 refine ask_of hT rfl ?_
 by_cases hbig : (1048576 : Int) < ls.length
 ·rw [if_pos hbig] at e0
  generalize ls.map arr8 = LD at *
  generalize ms.map arr8 = MD at *
  simp -implicitDefEqProofs [Z1n, Z1n_B, dn_cond, e0]
 ·rw [if_neg hbig] at e0
  have hn0 : ¬ (1048576 : Int) - ls.length < 0 := by omega
  have e0' := hsz (ms.map arr8) (1048576 - ls.length) (by omega) (by omega) (by rw [List.length_map]; exact hm)
  rw [List.length_map] at e0'
  by_cases hbig2 : (1048576 : Int) - ls.length < ms.length
  ·rw [if_pos hbig2] at e0'
   generalize (1048576 : Int) - ls.length = left at *
   generalize ls.map arr8 = LD at *
   generalize ms.map arr8 = MD at *
   simp -implicitDefEqProofs [Z1n, Z1n_B, dn_cond, e0, e0', hn0]
  ·rw [if_neg hbig2] at e0'
   have hl2 : ls.length + ms.length < 2000000 := by omega
   have e1 := hp l bl gl
   have e2 := hk ls ha (by omega)
   have f2 := hk ms hb (by omega)
   have e2' := hkh ls ha (by omega)
   have f2' := hkh ms hb (by omega)
   have e3 := hi p l ls ms bl gl ha hb hl2
   have e4 := hs p l ls ms bl gl ha hb hl2
   obtain ⟨cp, e5⟩ := hih p l ls ms (some ls.length) (some ms.length) bl gl ha hb hl2
   unfold erD at e3 e4
   obtain ⟨s1, s2⟩ := erL_ok p l ls ms
   have e6 := he ls (fun l hl => (ha l hl).1) (by omega)
   have f6 := he ms (fun l hl => (hb l hl).1) (by omega)
   have e7 := he (erL p l ls ms) s1 (by omega)
   have e8 := hmk ls (some ls.length) 1 (by omega) (by omega) (fun l hl => (ha l hl).1)
   have f8 := hmk ms (some ms.length) (1 + 64 * ls.length) (by omega) (by omega) (fun l hl => (hb l hl).1)
   have e9 := hmk (erL p l ls ms) cp 1 (by omega) (by omega) s1
   have e10 := hhd 1 (erL p l ls ms).length (by omega) (by omega)
   have hLL : (ls.map arr8).length = ls.length := List.length_map ..
   have htl : (ls.map arr8).take ls.length = ls.map arr8 := List.take_of_length_le (by omega)
   have hMM : (ms.map arr8).length = ms.length := List.length_map ..
   have htm : (ms.map arr8).take ms.length = ms.map arr8 := List.take_of_length_le (by omega)
   have hRL : ((erL p l ls ms).map arr8).length = (erL p l ls ms).length := List.length_map ..
   have htr : ((erL p l ls ms).map arr8).take (erL p l ls ms).length = (erL p l ls ms).map arr8 := List.take_of_length_le (by omega)
   have hNL : ((mrows 1 (erL p l ls ms).length).map arr8).length = (erL p l ls ms).length := by rw [List.length_map, mrows_length]
   have htn : ((mrows 1 (erL p l ls ms).length).map arr8).take (erL p l ls ms).length = (mrows 1 (erL p l ls ms).length).map arr8 := List.take_of_length_le (by omega)
   have hn : ¬ (1048576 : Int) - ls.length - ms.length < 0 := by omega
   have hn2 : ¬ ((1 + 64 * ls.length + 64 * ms.length : Nat) : Int) < 0 := by omega
   have hn3 : ¬ ((1 + 64 * (erL p l ls ms).length : Nat) : Int) < 0 := by omega
   have e01 : ((1 : Nat) : Int) = 1 := rfl
   rw [e01] at e8 e9 e10
   generalize ((1 + 64 * ls.length + 64 * ms.length : Nat) : Int) = k0 at *
   generalize ((1 + 64 * ls.length : Nat) : Int) = k1 at *
   generalize ((1 + 64 * (erL p l ls ms).length : Nat) : Int) = k2 at *
   generalize (mrows 1 ls.length).map arr8 = QD at *
   generalize (mrows (1 + 64 * ls.length) ms.length).map arr8 = QE at *
   generalize (mrows 1 (erL p l ls ms).length).map arr8 = ND at *
   generalize (erL p l ls ms).map arr8 = SD at *
   generalize (erL p l ls ms).length = sl at *
   generalize codePl p l ls ms (erP ls ms) = cc at *
   generalize (1048576 : Int) - ls.length - ms.length = left2 at *
   generalize (1048576 : Int) - ls.length = left at *
   generalize ls.map arr8 = LD at *
   generalize ms.map arr8 = MD at *
   generalize ls.length = n at *
   generalize ms.length = n2 at *
   simp -implicitDefEqProofs [Z1n, Z1n_B, dn_cond, e0, e0', hn0, e1, e2, f2, e2', f2', e3, e4, e5, e6, f6, e7, e8, f8, e9, e10, hLL, htl, hMM, htm, hRL, htr, hNL, htn, hn, hn2, hn3, List.replicate, List.idxOf, List.findIdx, List.findIdx.go]
end Pe

namespace Pe
open Go
theorem has_polys : ∀ (xs : List D), (∀ x ∈ xs, tyP.has x) → ∃ ls : List (List Int), xs = ls.map arr8 ∧ Arrs ls
 | [], _ => ⟨[], rfl, fun _ h => by cases h⟩
 | x :: xs, h => by
  obtain ⟨ls, rfl, hb⟩ := has_polys xs fun y hy => h y (List.mem_cons_of_mem _ hy)
  obtain ⟨l, rfl, b, g⟩ := has_P (h x (by simp))
  refine ⟨l :: ls, rfl, fun y hy => ?_⟩
  rcases List.mem_cons.1 hy with rfl | hy
  ·exact ⟨g, b⟩
  ·exact hb y hy
abbrev tyPs : Ty := .sl tyP
theorem has_Ps {d : D} (h : tyPs.has d) : ∃ ls : List (List Int), d = .sl (.arr 64 .leaf) (ls.map arr8) ∧ Arrs ls ∧ ls.length ≤ 9223372036854775807 := by
 cases d <;> simp only [Ty.has] at h
 obtain ⟨rfl, h1, h2⟩ := h
 obtain ⟨ls, rfl, hb⟩ := has_polys _ h2
 exact ⟨ls, rfl, hb, by simpa using h1⟩
end Pe
