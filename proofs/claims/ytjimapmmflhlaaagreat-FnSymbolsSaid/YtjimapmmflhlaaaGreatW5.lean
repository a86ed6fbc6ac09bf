/-
  A part of the proof: an evaluator for a small form of the code, its soundness, and contracts of functions over it.
-/
import Derived.KernelRfl
import Derived.Test.YtjimapmmflhlaaaGreatW1
import Derived.Test.YtjimapmmflhlaaaGreatW2
import Derived.Test.YtjimapmmflhlaaaGreatW3
import Derived.Test.YtjimapmmflhlaaaGreatW4

namespace Gq
section
variable {K : Type} [Fd K]
def Dv (a b : Pol K) : Prop := ∃ c, b = a * c
theorem Dv.refl (a : Pol K) : Dv a a := ⟨1, (mul_one a).symm⟩
theorem Dv.trans {a b c : Pol K} (h : Dv a b) (h' : Dv b c) : Dv a c := by
 obtain ⟨x, rfl⟩ := h
 obtain ⟨y, rfl⟩ := h'
 exact ⟨x * y, mul_assoc _ _ _⟩
theorem Dv.zero (a : Pol K) : Dv a 0 := ⟨0, (mul_zero a).symm⟩
theorem Dv.mul_right {a b : Pol K} (h : Dv a b) (c : Pol K) : Dv a (b * c) := h.trans ⟨c, rfl⟩
theorem Dv.mul_left {a b : Pol K} (h : Dv a b) (c : Pol K) : Dv a (c * b) := h.trans ⟨c, mul_comm _ _⟩
theorem Dv.add {a b c : Pol K} (h : Dv a b) (h' : Dv a c) : Dv a (b + c) := by
 obtain ⟨x, rfl⟩ := h
 obtain ⟨y, rfl⟩ := h'
 exact ⟨x + y, (mul_add _ _ _).symm⟩
theorem Dv.neg {a b : Pol K} (h : Dv a b) : Dv a (-b) := by
 obtain ⟨x, rfl⟩ := h
 exact ⟨-x, (mul_neg _ _).symm⟩
theorem Dv.sub {a b c : Pol K} (h : Dv a b) (h' : Dv a c) : Dv a (b - c) := by
 rw [sub_eq]; exact h.add h'.neg
theorem Dv.len {a b : Pol K} (h : Dv a b) (hb : b ≠ 0) : a.len ≤ b.len := by
 obtain ⟨x, rfl⟩ := h
 have ha : a ≠ 0 := fun h => hb (by rw [h, zero_mul])
 have hx : x ≠ 0 := fun h => hb (by rw [h, mul_zero])
 have := Pol.len_mul ha hx
 have := Pol.len_pos hx
 omega
theorem dv_iff_mod {a m : Pol K} (hm : m ≠ 0) : Dv m a ↔ a % m = 0 := by
 constructor
 ·rintro ⟨c, rfl⟩
  rw [mul_comm]
  exact Pol.mod_self_mul c hm
 ·intro h
  have := Pol.div_mod a m
  rw [h, add_zero, mul_comm] at this
  exact ⟨_, this⟩
theorem dv_iff_mk {a m : Pol K} : Dv m a ↔ Quo.mk m a = 0 := by
 rw [← Quo.mk_zero, Quo.eq]
 constructor
 ·rintro ⟨c, h⟩; exact ⟨c, by rw [zero_add, h]⟩
 ·rintro ⟨c, h⟩; exact ⟨c, by rw [h, zero_add]⟩
theorem unit_of_len {a : Pol K} (h : a.len = 1) : ∃ k : K, k ≠ 0 ∧ a = Pol.C k := by
 have e := Pol.eq_C (Pol.lt_iff.2 (show a.len ≤ 1 by omega))
 refine ⟨a.c 0, fun h0 => ?_, e⟩
 rw [h0, Pol.C_zero] at e
 rw [e, Pol.len_zero] at h
 omega
theorem C_inv {k : K} (h : k ≠ 0) : Pol.C k * Pol.C (Fd.inv k) = 1 := by rw [← Pol.C_mul, Fd.mul_inv k h, Pol.C_one]
theorem Dv.Cmul {a b : Pol K} {k : K} (hk : k ≠ 0) : Dv (Pol.C k * a) b ↔ Dv a b := by
 constructor
 ·rintro ⟨c, h⟩
  exact ⟨Pol.C k * c, by rw [h]; exact ring_of [Pol.C k, a, c] rfl⟩
 ·rintro ⟨c, h⟩
  refine ⟨Pol.C (Fd.inv k) * c, ?_⟩
  have : Pol.C k * a * (Pol.C (Fd.inv k) * c) = (Pol.C k * Pol.C (Fd.inv k)) * (a * c) := ring_of [Pol.C k, a, Pol.C (Fd.inv k), c] rfl
  rw [this, C_inv hk, one_mul, h]
def Monic (a : Pol K) : Prop := a.ld = 1 ∧ a ≠ 0
theorem Monic.mul {a b : Pol K} (ha : Monic a) (hb : Monic b) : Monic (a * b) := ⟨by rw [Pol.ld_mul ha.2 hb.2, ha.1, hb.1, mul_one], Pol.mul_ne ha.2 hb.2⟩
theorem Monic.one : Monic (1 : Pol K) := ⟨Pol.ld_one, Pol.one_ne⟩
theorem Pol.ld_C {k : K} (h : k ≠ 0) : (C k).ld = k := by unfold ld; rw [len_C h]; rfl
theorem Monic.eq_one {a : Pol K} (h : Monic a) (hl : a.len = 1) : a = 1 := by
 obtain ⟨k, hk, rfl⟩ := unit_of_len hl
 have := h.1
 rw [Pol.ld_C hk] at this
 rw [this, Pol.C_one]
theorem Monic.antisymm {a b : Pol K} (ha : Monic a) (hb : Monic b) (h : Dv a b) (h' : Dv b a) : a = b := by
 obtain ⟨x, rfl⟩ := h
 have h1 := h'.len ha.2
 have hx : x ≠ 0 := fun h => hb.2 (by rw [h, mul_zero])
 have h2 := Pol.len_mul ha.2 hx
 have h3 := Pol.len_pos hx
 obtain ⟨k, hk, rfl⟩ := unit_of_len (show x.len = 1 by omega)
 have h4 := hb.1
 rw [Pol.ld_mul ha.2 hx, ha.1, one_mul, Pol.ld_C hk] at h4
 rw [h4, Pol.C_one, mul_one]
noncomputable def mon (a : Pol K) : Pol K := Pol.C (Fd.inv a.ld) * a
theorem mon_monic {a : Pol K} (h : a ≠ 0) : Monic (mon a) := by
 have h1 := Fd.inv_ne (Pol.ld_ne h)
 refine ⟨?_, Pol.mul_ne (Pol.C_ne h1) h⟩
 unfold mon
 rw [Pol.ld_mul (Pol.C_ne h1) h, Pol.ld_C h1, mul_comm, Fd.mul_inv _ (Pol.ld_ne h)]
theorem mon_dv {a b : Pol K} (h : a ≠ 0) : Dv (mon a) b ↔ Dv a b := Dv.Cmul (Fd.inv_ne (Pol.ld_ne h))
theorem mon_len {a : Pol K} (h : a ≠ 0) : (mon a).len = a.len := Pol.len_Cmul (Fd.inv_ne (Pol.ld_ne h)) a
theorem eq_mon {a : Pol K} (h : a ≠ 0) : a = Pol.C a.ld * mon a := by
 unfold mon
 rw [← mul_assoc, C_inv (Pol.ld_ne h), one_mul]
theorem Pol.eu_spec {a b : Pol K} (h : a ≠ 0 ∨ b ≠ 0) : (eu a b).1 ≠ 0 ∧ Dv (eu a b).1 a ∧ Dv (eu a b).1 b ∧ (eu a b).2.1 * a + (eu a b).2.2 * b = (eu a b).1 := by
 obtain ⟨x, y, h1, ⟨s, h2⟩, ⟨t, h3⟩⟩ := bz_spec b.len a b 1 0 0 1 (Nat.le_refl _) (BzI.init h)
 exact ⟨h1.any.resolve_right fun h => h rfl, ⟨s, by rw [mul_comm]; exact h2⟩, ⟨t, by rw [mul_comm]; exact h3⟩, h1.one⟩
theorem Pol.gcd_monic {a b : Pol K} (h : a ≠ 0 ∨ b ≠ 0) : Monic (gcd a b) := mon_monic (eu_spec h).1
theorem Pol.gcd_dv_left {a b : Pol K} (h : a ≠ 0 ∨ b ≠ 0) : Dv (gcd a b) a := (mon_dv (eu_spec h).1).2 (eu_spec h).2.1
theorem Pol.gcd_dv_right {a b : Pol K} (h : a ≠ 0 ∨ b ≠ 0) : Dv (gcd a b) b := (mon_dv (eu_spec h).1).2 (eu_spec h).2.2.1
theorem Pol.bezout_eq {a b : Pol K} (h : a ≠ 0 ∨ b ≠ 0) : (bezout a b).2.1 * a + (bezout a b).2.2 * b = gcd a b := by
 have e := (eu_spec h).2.2.2
 show C (Fd.inv (eu a b).1.ld) * (eu a b).2.1 * a + C (Fd.inv (eu a b).1.ld) * (eu a b).2.2 * b = C (Fd.inv (eu a b).1.ld) * (eu a b).1
 generalize C (Fd.inv (eu a b).1.ld) = k
 generalize (eu a b).2.1 = u at *
 generalize (eu a b).2.2 = v at *
 rw [← e]
 exact ring_of [k, u, a, v, b] rfl
theorem Pol.dv_gcd {a b c : Pol K} (h : a ≠ 0 ∨ b ≠ 0) (ha : Dv c a) (hb : Dv c b) : Dv c (gcd a b) := by
 rw [← bezout_eq h]
 exact (ha.mul_left _).add (hb.mul_left _)
theorem Pol.gcd_unique {a b d : Pol K} (h : a ≠ 0 ∨ b ≠ 0) (hd : Monic d) (h1 : Dv d a) (h2 : Dv d b) (h3 : ∀ c, Dv c a → Dv c b → Dv c d) : gcd a b = d :=
 (gcd_monic h).antisymm hd (h3 _ (gcd_dv_left h) (gcd_dv_right h)) (dv_gcd h h1 h2)
structure Irr (q : Pol K) : Prop where
 len : 2 ≤ q.len
 no : ∀ u v, q = u * v → u.len = 1 ∨ v.len = 1
theorem Irr.ne {q : Pol K} (h : Irr q) : q ≠ 0 := fun h0 => by have := h.len; rw [h0, Pol.len_zero] at this; omega
theorem Irr.dv {q u : Pol K} (h : Irr q) (hd : Dv u q) : u.len = 1 ∨ u.len = q.len := by
 obtain ⟨v, hv⟩ := hd
 have hu : u ≠ 0 := fun h0 => h.ne (by rw [hv, h0, zero_mul])
 have hv0 : v ≠ 0 := fun h0 => h.ne (by rw [hv, h0, mul_zero])
 have l := Pol.len_mul hu hv0
 rw [← hv] at l
 rcases h.no u v hv with h1 | h1
 ·exact .inl h1
 ·right; omega
theorem Irr.coprime {q a : Pol K} (h : Irr q) (hn : ¬ Dv q a) : ∃ u v, u * q + v * a = 1 := by
 have h0 : q ≠ 0 ∨ a ≠ 0 := .inl h.ne
 have e := Pol.bezout_eq h0
 have d1 := Pol.gcd_dv_left h0
 have d2 := Pol.gcd_dv_right h0
 have m := Pol.gcd_monic h0
 rcases h.dv d1 with h1 | h1
 ·rw [m.eq_one h1] at e
  exact ⟨_, _, e⟩
 ·exfalso
  obtain ⟨c, hc⟩ := d1
  have hc0 : c ≠ 0 := fun h0 => h.ne (by rw [hc, h0, mul_zero])
  have l := Pol.len_mul m.2 hc0
  rw [← hc] at l
  obtain ⟨k, hk, rfl⟩ := unit_of_len (show c.len = 1 by omega)
  apply hn
  rw [hc, mul_comm]
  exact (Dv.Cmul hk).2 d2
theorem Irr.prime {q a b : Pol K} (h : Irr q) (hd : Dv q (a * b)) : Dv q a ∨ Dv q b := by
 by_cases ha : Dv q a
 ·exact .inl ha
 ·obtain ⟨u, v, e⟩ := h.coprime ha
  right
  have : b = u * b * q + v * (a * b) := by
   have e2 : u * b * q + v * (a * b) = (u * q + v * a) * b := ring_of [u, b, q, v, a] rfl
   rw [e2, e, one_mul]
  rw [this]
  exact ((Dv.refl q).mul_left _).add (hd.mul_left _)
theorem Irr.of_dv {q : Pol K} (hl : 2 ≤ q.len) (h : ∀ u, Dv u q → u.len = 1 ∨ u.len = q.len) : Irr q := ⟨hl, fun u v e => by
 have hq : q ≠ 0 := fun h0 => by rw [h0, Pol.len_zero] at hl; omega
 have hu : u ≠ 0 := fun h0 => hq (by rw [e, h0, zero_mul])
 have hv0 : v ≠ 0 := fun h0 => hq (by rw [e, h0, mul_zero])
 have l := Pol.len_mul hu hv0
 rw [← e] at l
 rcases h u ⟨v, e⟩ with h1 | h1
 ·exact .inl h1
 ·right; omega⟩
theorem Irr.mon {q : Pol K} (h : Irr q) : Irr (mon q) := Irr.of_dv (by rw [mon_len h.ne]; exact h.len) fun u hu => by
 rw [mon_len h.ne]
 apply h.dv
 refine hu.trans ?_
 rw [mon_dv h.ne]
 exact .refl q
theorem irr_ex : ∀ (n : Nat) (a : Pol K), a.len ≤ n → 2 ≤ a.len → ∃ q, Irr q ∧ Monic q ∧ Dv q a
 | 0, a, h, h2 => by omega
 | n + 1, a, h, h2 => by
  have ha : a ≠ 0 := fun h0 => by rw [h0, Pol.len_zero] at h2; omega
  by_cases hi : Irr a
  ·exact ⟨Gq.mon a, hi.mon, mon_monic ha, (mon_dv ha).2 (.refl a)⟩
  ·have : ∃ u, Dv u a ∧ u.len ≠ 1 ∧ u.len ≠ a.len := Classical.byContradiction fun hx => hi (Irr.of_dv h2 fun u hu => Classical.byContradiction fun hy => hx ⟨u, hu, by omega, by omega⟩)
   obtain ⟨u, hu, h3, h4⟩ := this
   have h5 := hu.len ha
   have hu0 : u ≠ 0 := fun h0 => by
    obtain ⟨c, hc⟩ := hu
    exact ha (by rw [hc, h0, zero_mul])
   have h6 := Pol.len_pos hu0
   obtain ⟨q, h7, h8, h9⟩ := irr_ex n u (by omega) (by omega)
   exact ⟨q, h7, h8, h9.trans hu⟩
theorem Irr.eq_of_dv {q r : Pol K} (hq : Irr q) (hr : Irr r) (mq : Monic q) (mr : Monic r) (h : Dv q r) : q = r := by
 refine mq.antisymm mr h ?_
 rcases hr.dv h with h1 | h1
 ·have := hq.len; omega
 ·obtain ⟨c, rfl⟩ := h
  have hc : c ≠ 0 := fun h0 => mr.2 (by rw [h0, mul_zero])
  have l := Pol.len_mul mq.2 hc
  obtain ⟨k, hk, rfl⟩ := unit_of_len (show c.len = 1 by omega)
  rw [mul_comm]
  exact (Dv.Cmul hk).2 (.refl q)
theorem Quo.ex {R : Type} [CR R] {m : R} (x : Quo m) : ∃ a, x = Quo.mk m a := Quo.ind (P := fun x => ∃ a, x = Quo.mk m a) (fun a => ⟨a, rfl⟩) x
theorem Irr.quo_zero {q : Pol K} (h : Irr q) {x y : Quo q} (e : x * y = 0) : x = 0 ∨ y = 0 := by
 obtain ⟨a, rfl⟩ := Quo.ex x
 obtain ⟨b, rfl⟩ := Quo.ex y
 rw [← Quo.mk_mul, ← dv_iff_mk] at e
 rw [← dv_iff_mk, ← dv_iff_mk]
 exact h.prime e
theorem Irr.quo_inv {q : Pol K} (h : Irr q) {x : Quo q} (hx : x ≠ 0) : ∃ y, x * y = 1 := by
 obtain ⟨a, rfl⟩ := Quo.ex x
 obtain ⟨u, v, e⟩ := h.coprime fun hd => hx (dv_iff_mk.1 hd)
 refine ⟨Quo.mk q v, ?_⟩
 rw [← Quo.mk_mul, ← Quo.mk_one, Quo.eq]
 refine ⟨-u, ?_⟩
 rw [← e]
 exact ring_of [a, v, u, q] rfl
open Classical in
noncomputable abbrev fdQuo {q : Pol K} (h : Irr q) : Fd (Quo q) where
 one_ne := fun e => by
  have := dv_iff_mk.2 e
  have h1 := this.len Pol.one_ne
  have := h.len
  rw [Pol.len_one] at h1
  omega
 inv := fun x => if hx : x = 0 then 0 else Classical.choose (h.quo_inv hx)
 mul_inv := fun x hx => by rw [dif_neg hx]; exact Classical.choose_spec (h.quo_inv hx)
end
def prodL {R : Type} [CR R] : List R → R
 | [] => 1
 | x :: l => x * prodL l
theorem prodL_perm {R : Type} [CR R] {l m : List R} (h : l.Perm m) : prodL l = prodL m := by
 induction h with
 | nil => rfl
 | cons x _ ih => rw [prodL, prodL, ih]
 | swap x y l => rw [prodL, prodL, prodL, prodL, mul_left_comm]
 | trans _ _ h1 h2 => exact h1.trans h2
theorem prodL_mul {R : Type} [CR R] (x : R) : ∀ l : List R, prodL (l.map (x * ·)) = pw x l.length * prodL l
 | [] => (one_mul _).symm
 | y :: l => by
  rw [List.map_cons, prodL, prodL_mul x l, prodL, List.length_cons, pw]
  exact ring_of [x, y, pw x l.length, prodL l] rfl
theorem perm_of_sub {α : Type} [DecidableEq α] : ∀ {l m : List α}, l.Nodup → (∀ x ∈ l, x ∈ m) → m.length = l.length → l.Perm m
 | [], m, _, _, hl => by
  obtain rfl := List.eq_nil_of_length_eq_zero (by simpa using hl)
  exact .nil
 | x :: l, m, hn, hs, hl => by
  have hx : x ∈ m := hs x (by simp)
  obtain ⟨h1, h2⟩ := List.nodup_cons.1 hn
  have p := List.perm_cons_erase hx
  refine (List.Perm.cons x (perm_of_sub h2 (fun y hy => ?_) ?_)).trans p.symm
  ·have hne : y ≠ x := fun e => h1 (e ▸ hy)
   exact (List.mem_erase_of_ne hne).2 (hs y (by simp [hy]))
  ·rw [List.length_erase_of_mem hx]; simp at hl; omega
theorem unit_pow {R : Type} [CR R] [DecidableEq R] {l : List R} (hn : l.Nodup) (hc : ∀ x y : R, x * y = 0 → x = 0 ∨ y = 0) (h1 : (1 : R) ≠ 0) (hl : ∀ x, x ∈ l ↔ x ≠ 0) {x : R} (hx : x ≠ 0) : pw x l.length = 1 := by
 have hcan : ∀ y z : R, x * y = x * z → y = z := fun y z e => by
  have : x * (y - z) = 0 := by
   have e2 : x * (y - z) = x * y - x * z := ring_of [x, y, z] rfl
   rw [e2, e, sub_self]
  exact eq_of_sub ((hc _ _ this).resolve_left hx)
 have hp : (l.map (x * ·)).Perm l := by
  refine perm_of_sub ?_ (fun y hy => ?_) (by simp)
  ·unfold List.Nodup at hn ⊢
   rw [List.pairwise_map]
   exact hn.imp fun hab e => hab (hcan _ _ e)
  ·obtain ⟨z, hz, rfl⟩ := List.mem_map.1 hy
   exact (hl _).2 fun e => ((hc _ _ e).elim hx) ((hl z).1 hz)
 have hprod : prodL l ≠ 0 := by
  have : ∀ m : List R, (∀ z ∈ m, z ≠ 0) → prodL m ≠ 0 := by
   intro m
   induction m with
   | nil => exact fun _ => h1
   | cons z m ih => exact fun hm e => ((hc _ _ e).elim (hm z (by simp))) (ih fun y hy => hm y (by simp [hy]))
  exact this l fun z hz => (hl z).1 hz
 have e := prodL_perm hp
 rw [prodL_mul] at e
 have e2 : prodL l * (pw x l.length - 1) = 0 := by
  have e3 : prodL l * (pw x l.length - 1) = pw x l.length * prodL l - prodL l := ring_of [prodL l, pw x l.length] rfl
  rw [e3, e, sub_self]
 exact eq_of_sub ((hc _ _ e2).resolve_left hprod)
section
variable {K : Type} [CR K]
def sumR (f : Nat → K) : Nat → K
 | 0 => 0
 | n + 1 => sumR f n + f n
theorem sumR_more (f : Nat → K) (n : Nat) (h : ∀ i, n ≤ i → f i = 0) : ∀ k, sumR f (n + k) = sumR f n
 | 0 => rfl
 | k + 1 => by rw [← Nat.add_assoc, sumR, sumR_more f n h k, h _ (by omega), add_zero]
theorem sumR_add (f g : Nat → K) : ∀ n, sumR (fun i => f i + g i) n = sumR f n + sumR g n
 | 0 => (add_zero _).symm
 | n + 1 => by rw [sumR, sumR_add f g n, sumR, sumR]; exact ring_of [sumR f n, sumR g n, f n, g n] rfl
theorem sumR_mul (k : K) (f : Nat → K) : ∀ n, sumR (fun i => k * f i) n = k * sumR f n
 | 0 => (mul_zero _).symm
 | n + 1 => by rw [sumR, sumR_mul k f n, sumR, mul_add]
theorem pw_factor (x : K) : ∀ n, ∃ g : Nat → K, (∀ i, n ≤ i → g i = 0) ∧ (∀ k, n = k + 1 → g k = 1) ∧ ∀ y, pw y n - pw x n = (y - x) * sumR (fun i => g i * pw y i) n := by
 intro n
 induction n with
 | zero => exact ⟨fun _ => 0, fun _ _ => rfl, fun k h => by omega, fun y => by show (1 : K) - 1 = (y - x) * 0; rw [mul_zero, sub_self]⟩
 | succ n ih =>
  obtain ⟨g, h1, h2, h3⟩ := ih
  refine ⟨fun i => if i = n then 1 else x * g i, fun i hi => ?_, fun k hk => ?_, fun y => ?_⟩
  ·dsimp only; rw [if_neg (by omega), h1 i (by omega), mul_zero]
  ·dsimp only; rw [if_pos (by omega)]
  ·rw [sumR]; dsimp only; rw [if_pos rfl, one_mul]
   have e : sumR (fun i => (if i = n then 1 else x * g i) * pw y i) n = x * sumR (fun i => g i * pw y i) n := by
    rw [← sumR_mul]
    have : ∀ m, m ≤ n → sumR (fun i => (if i = n then 1 else x * g i) * pw y i) m = sumR (fun i => x * (g i * pw y i)) m := by
     intro m
     induction m with
     | zero => intro _; rfl
     | succ m ihm => intro hm; rw [sumR, sumR, ihm (by omega), if_neg (by omega), mul_assoc]
    exact this n (Nat.le_refl n)
   rw [e, pw, pw]
   have e2 : (y - x) * (x * sumR (fun i => g i * pw y i) n + pw y n) = x * ((y - x) * sumR (fun i => g i * pw y i) n) + (y - x) * pw y n := ring_of [y, x, sumR (fun i => g i * pw y i) n, pw y n] rfl
   rw [e2, ← h3 y]
   exact ring_of [pw y n, y, pw x n, x] rfl
theorem val_factor (f : Nat → K) (x : K) : ∀ n, ∃ g : Nat → K, (∀ i, n ≤ i + 1 → g i = 0) ∧ (∀ k, n = k + 2 → g k = f (k + 1)) ∧ ∀ y, sumR (fun i => f i * pw y i) n - sumR (fun i => f i * pw x i) n = (y - x) * sumR (fun i => g i * pw y i) n := by
 intro n
 induction n with
 | zero => exact ⟨fun _ => 0, fun _ _ => rfl, fun k h => by omega, fun y => by show (0 : K) - 0 = (y - x) * 0; rw [mul_zero, sub_self]⟩
 | succ n ih =>
  obtain ⟨g, h1, h2, h3⟩ := ih
  obtain ⟨g', h1', h2', h3'⟩ := pw_factor x n
  refine ⟨fun i => g i + f n * g' i, fun i hi => ?_, fun k hk => ?_, fun y => ?_⟩
  ·dsimp only; rw [h1 i (by omega), h1' i (by omega), mul_zero, add_zero]
  ·obtain rfl : k + 1 = n := by omega
   dsimp only; rw [h1 k (by omega), h2' k rfl, mul_one, zero_add]
  ·rw [sumR, sumR, sumR]
   have e0 : g n + f n * g' n = 0 := by rw [h1 n (by omega), h1' n (by omega), mul_zero, add_zero]
   dsimp only
   rw [e0, zero_mul, add_zero]
   have e : sumR (fun i => (g i + f n * g' i) * pw y i) n = sumR (fun i => g i * pw y i) n + f n * sumR (fun i => g' i * pw y i) n := by
    rw [← sumR_mul, ← sumR_add]
    congr 1
    funext i
    exact ring_of [g i, f n, g' i, pw y i] rfl
   rw [e]
   have e2 : (y - x) * (sumR (fun i => g i * pw y i) n + f n * sumR (fun i => g' i * pw y i) n) = (y - x) * sumR (fun i => g i * pw y i) n + f n * ((y - x) * sumR (fun i => g' i * pw y i) n) := ring_of [y, x, sumR (fun i => g i * pw y i) n, f n, sumR (fun i => g' i * pw y i) n] rfl
   rw [e2, ← h3 y, ← h3' y]
   exact ring_of [sumR (fun i => f i * pw y i) n, f n, pw y n, sumR (fun i => f i * pw x i) n, pw x n] rfl
theorem roots_le (hc : ∀ x y : K, x * y = 0 → x = 0 ∨ y = 0) : ∀ (n : Nat) (f : Nat → K) (l : List K), f n ≠ 0 → l.Nodup → (∀ y ∈ l, sumR (fun i => f i * pw y i) (n + 1) = 0) → l.length ≤ n
 | n, f, [], _, _, _ => Nat.zero_le n
 | 0, f, x :: l, hf, _, hr => by
  have := hr x (by simp)
  have e : sumR (fun i => f i * pw x i) (0 + 1) = f 0 := by show 0 + f 0 * 1 = f 0; rw [zero_add, mul_one]
  rw [e] at this
  exact absurd this hf
 | n + 1, f, x :: l, hf, hn, hr => by
  obtain ⟨g, h1, h2, h5⟩ := val_factor f x (n + 2)
  have hx := hr x (by simp)
  obtain ⟨h3, h4⟩ := List.nodup_cons.1 hn
  have hg0 : g n ≠ 0 := by rw [h2 n rfl]; exact hf
  have hg : ∀ y, sumR (fun i => f i * pw y i) (n + 2) = (y - x) * sumR (fun i => g i * pw y i) (n + 1) := fun y => by
   have := h5 y
   rw [hx] at this
   have e : sumR (fun i => g i * pw y i) (n + 2) = sumR (fun i => g i * pw y i) (n + 1) := by
    show sumR (fun i => g i * pw y i) (n + 1) + g (n + 1) * pw y (n + 1) = _
    rw [h1 (n + 1) (by omega), zero_mul, add_zero]
   rw [e] at this
   rw [← this]
   exact ring_of [sumR (fun i => f i * pw y i) (n + 2)] rfl
  have := roots_le hc n g l hg0 h4 fun y hy => by
   have e := hr y (by simp [hy])
   rw [hg y] at e
   refine (hc _ _ e).resolve_left fun h0 => h3 ?_
   rw [← eq_of_sub h0]; exact hy
  simp; omega
end
end Gq

namespace Pe
open Go Gq
section
variable {p : Int} [IsP p]
end
section
variable {p : Int}
theorem ipow_mono (h : 1 ≤ p) {a b : Nat} (hab : a ≤ b) : p ^ a ≤ p ^ b := by
 obtain ⟨k, rfl⟩ := Nat.exists_eq_add_of_le hab
 rw [Int.pow_add]
 have h1 : 1 ≤ p ^ k := Int.pow_pos (n := p) (m := k) (by omega)
 have h2 : 0 ≤ p ^ a := Int.pow_nonneg (by omega)
 have := Int.mul_le_mul_of_nonneg_left h1 h2
 omega
end
section
variable {p : Int} [IsP p]
def vl (p : Int) : List Int → Int
 | [] => 0
 | d :: l => d + p * vl p l
theorem vl_in : ∀ {l : List Int}, Can p l → 0 ≤ vl p l ∧ vl p l < p ^ l.length
 | [], _ => by simp [vl]
 | d :: l, h => by
  have hp := IsP.pos (p := p)
  obtain ⟨h1, h2⟩ := vl_in (l := l) fun x hx => h x (by simp [hx])
  have h3 := h d (by simp)
  have h4 : 0 ≤ p * vl p l := Int.mul_nonneg (by omega) h1
  have h5 : p * vl p l ≤ p * (p ^ l.length - 1) := Int.mul_le_mul_of_nonneg_left (by omega) (by omega)
  rw [Int.mul_sub, Int.mul_one] at h5
  rw [List.length_cons, Int.pow_succ, Int.mul_comm (p ^ l.length), vl]
  omega
theorem vl_cf : ∀ {l : List Int}, Can p l → ∀ i, cf l i = vl p l / p ^ i % p
 | [], _, i => by simp [vl, cf]
 | d :: l, h, 0 => by
  have h3 := h d (by simp)
  show d = (d + p * vl p l) / p ^ 0 % p
  rw [Int.pow_zero, Int.ediv_one, Int.add_mul_emod_self_left, Int.emod_eq_of_lt h3.1 h3.2]
 | d :: l, h, i + 1 => by
  have hp := IsP.pos (p := p)
  have h3 := h d (by simp)
  have e : cf (d :: l) (i + 1) = cf l i := by simp [cf]
  rw [e, vl_cf (l := l) fun x hx => h x (by simp [hx]), vl, Int.pow_succ, Int.mul_comm (p ^ i), ← Int.ediv_ediv_of_nonneg (by omega), Int.add_mul_ediv_left _ _ (by omega), Int.ediv_eq_zero_of_lt h3.1 h3.2, Int.zero_add]
theorem dgs_cf : ∀ (f : Nat) (n : Int), 0 ≤ n → n < 2 ^ f → ∀ i, cf (dgs p f n) i = n / p ^ i % p
 | 0, n, h0, hn, i => by
  obtain rfl : n = 0 := by simp at hn; omega
  simp [dgs, cf]
 | f + 1, n, h0, hn, i => by
  have hp := IsP.ge (p := p)
  unfold dgs
  split
  ·obtain rfl : n = 0 := by omega
   simp [cf]
  ·have hd : n / p < 2 ^ f := by
    apply Int.ediv_lt_of_lt_mul (by omega)
    have : (2 : Int) ^ (f + 1) = 2 ^ f * 2 := Int.pow_succ _ _
    have h2 : (2 : Int) ^ f * 2 ≤ 2 ^ f * p := Int.mul_le_mul_of_nonneg_left hp (Int.pow_nonneg (by omega))
    omega
   cases i with
   | zero => show n % p = n / p ^ 0 % p; rw [Int.pow_zero, Int.ediv_one]
   | succ i =>
    have e : cf (n % p :: dgs p f (n / p)) (i + 1) = cf (dgs p f (n / p)) i := by simp [cf]
    rw [e, dgs_cf f _ (Int.ediv_nonneg h0 (by omega)) hd, Int.pow_succ, Int.mul_comm (p ^ i), ← Int.ediv_ediv_of_nonneg (by omega)]
abbrev NumOk (n : Int) : Prop := 0 ≤ n ∧ n < 18446744073709551616
theorem numP_c {n : Int} (h : NumOk n) (i : Nat) : (numP p n).c i = zp p (n / p ^ i) := by
 unfold numP
 rw [polOf_c, dgs_cf 64 n h.1 (by simpa using h.2), zp_mod]
noncomputable def numOf (a : Fp p) : Int := vl p (row a)
theorem numOf_in (a : Fp p) : 0 ≤ numOf a ∧ numOf a < p ^ a.len := by
 have := vl_in (row_can a)
 rwa [row_length] at this
theorem numP_numOf {a : Fp p} (h : numOf a < 18446744073709551616) : numP p (numOf a) = a := Pol.ext fun i => by
 rw [numP_c ⟨(numOf_in a).1, h⟩]
 have := vl_cf (row_can a) i
 rw [row_cf] at this
 rw [← zp_mod, show numOf a / p ^ i % p = rep (a.c i) from this.symm, zp_rep]
theorem vl_dgs : ∀ (f : Nat) (n : Int), 0 ≤ n → n < 2 ^ f → vl p (dgs p f n) = n
 | 0, n, h0, hn => by
  obtain rfl : n = 0 := by simp at hn; omega
  rfl
 | f + 1, n, h0, hn => by
  have hp := IsP.ge (p := p)
  unfold dgs
  split
  ·show (0 : Int) = n; omega
  ·have hd : n / p < 2 ^ f := by
    apply Int.ediv_lt_of_lt_mul (by omega)
    have : (2 : Int) ^ (f + 1) = 2 ^ f * 2 := Int.pow_succ _ _
    have h2 : (2 : Int) ^ f * 2 ≤ 2 ^ f * p := Int.mul_le_mul_of_nonneg_left hp (Int.pow_nonneg (by omega))
    omega
   rw [vl, vl_dgs f _ (Int.ediv_nonneg h0 (by omega)) hd]
   exact Int.emod_add_mul_ediv n p
theorem numOf_numP {n : Int} (h : NumOk n) : numOf (numP p n) = n := by
 unfold numOf
 rw [row_numP h.2, vl_dgs 64 n h.1 (by simpa using h.2)]
theorem numP_inj {n m : Int} (hn : NumOk n) (hm : NumOk m) (h : numP p n = numP p m) : n = m := by rw [← numOf_numP (p := p) hn, h, numOf_numP hm]
theorem numP_lt {n : Int} (h : NumOk n) {d : Nat} (hd : n < p ^ d) : (numP p n).lt d := fun i hi => by
 have hp := IsP.pos (p := p)
 rw [numP_c h, Int.ediv_eq_zero_of_lt h.1 (Int.lt_of_lt_of_le hd (ipow_mono (by omega) hi)), zp_zero]
theorem pow_nat (d : Nat) : ((p.toNat ^ d : Nat) : Int) = p ^ d := by
 have hp := IsP.pos (p := p)
 rw [Int.natCast_pow, Int.toNat_of_nonneg (by omega)]
theorem numP_zero : numP p 0 = 0 := Pol.ext fun i => by rw [numP_c ⟨by omega, by omega⟩, Int.zero_ediv, zp_zero]; rfl
def unitsL (q : Fp p) (d : Nat) : List (Quo q) := (List.range (p.toNat ^ d - 1)).map fun (n : Nat) => Quo.mk q (numP p (n + 1))
theorem p_pow_pos (d : Nat) : 0 < p.toNat ^ d := Nat.pow_pos (by have := IsP.pos (p := p); omega)
theorem unitsL_nodup {q : Fp p} {d : Nat} (hq : q.len = d + 1) (hd : p ^ d < 1000000000000) : (unitsL q d).Nodup := by
 unfold unitsL List.Nodup
 rw [List.pairwise_map]
 refine List.Pairwise.imp_of_mem ?_ (List.pairwise_lt_range (n := p.toNat ^ d - 1))
 intro a b ha hb hab e
 rw [List.mem_range] at ha hb
 have hc := pow_nat (p := p) d
 have hpos := p_pow_pos (p := p) d
 have h1 : NumOk ((a : Int) + 1) := ⟨by omega, by omega⟩
 have h2 : NumOk ((b : Int) + 1) := ⟨by omega, by omega⟩
 have hq0 : q ≠ 0 := fun h0 => by rw [h0, Pol.len_zero] at hq; omega
 have l1 := Pol.len_le (numP_lt (p := p) h1 (d := d) (by omega))
 have l2 := Pol.len_le (numP_lt (p := p) h2 (d := d) (by omega))
 rw [← Pol.mod_eq_iff hq0, Pol.mod_small (by omega), Pol.mod_small (by omega)] at e
 have := numP_inj h1 h2 e
 omega
theorem unitsL_mem {q : Fp p} {d : Nat} (hq : q.len = d + 1) (hd : p ^ d < 1000000000000) (x : Quo q) : x ∈ unitsL q d ↔ x ≠ 0 := by
 have hc := pow_nat (p := p) d
 have hpos := p_pow_pos (p := p) d
 have hq0 : q ≠ 0 := fun h0 => by rw [h0, Pol.len_zero] at hq; omega
 constructor
 ·intro h e
  obtain ⟨n, hn, rfl⟩ := List.mem_map.1 h
  rw [List.mem_range] at hn
  have h1 : NumOk ((n : Int) + 1) := ⟨by omega, by omega⟩
  have l1 := Pol.len_le (numP_lt (p := p) h1 (d := d) (by omega))
  rw [← Quo.mk_zero, ← Pol.mod_eq_iff hq0, Pol.mod_small (by omega), Pol.zero_mod hq0, ← numP_zero] at e
  have := numP_inj h1 ⟨by omega, by omega⟩ e
  omega
 ·intro h
  obtain ⟨a, rfl⟩ := Quo.ex x
  have hl := Pol.len_mod a hq0
  rw [← Pol.mk_mod] at h ⊢
  have hin := numOf_in (a % q)
  have hle : p ^ (a % q).len ≤ p ^ d := ipow_mono (by have := IsP.pos (p := p); omega) (by omega)
  have e := numP_numOf (a := a % q) (by omega)
  have hne : numOf (a % q) ≠ 0 := fun h0 => by
   rw [h0, numP_zero] at e
   exact h (by rw [← e, Quo.mk_zero])
  refine List.mem_map.2 ⟨(numOf (a % q)).toNat - 1, ?_, ?_⟩
  ·rw [List.mem_range]; omega
  ·rw [show (((numOf (a % q)).toNat - 1 : Nat) : Int) + 1 = numOf (a % q) by omega, e]
theorem fermat {q : Fp p} (hi : Irr q) {d : Nat} (hq : q.len = d + 1) (hd : p ^ d < 1000000000000) {x : Quo q} (hx : x ≠ 0) : pw x (p.toNat ^ d - 1) = 1 := by
 classical
 have h1 : (1 : Quo q) ≠ 0 := (fdQuo hi).one_ne
 have := unit_pow (unitsL_nodup hq hd) (fun x y e => hi.quo_zero e) h1 (unitsL_mem hq hd) hx
 rwa [unitsL, List.length_map, List.length_range] at this
theorem fermat_all {q : Fp p} (hi : Irr q) {d : Nat} (hq : q.len = d + 1) (hd : p ^ d < 1000000000000) (x : Quo q) : pw x (p.toNat ^ d) = x := by
 have hpos := p_pow_pos (p := p) d
 by_cases hx : x = 0
 ·rw [hx]
  cases hn : p.toNat ^ d with
  | zero => omega
  | succ n => rw [pw, Gq.mul_zero]
 ·have := fermat hi hq hd hx
  have e : p.toNat ^ d = (p.toNat ^ d - 1) + 1 := by omega
  rw [e, pw, this, Gq.one_mul]
end
section
variable {p : Int}
theorem ic_p {q : Fp p} : (ic p : Quo q) = 0 := by
 have h : ∀ n : Int, (ic n : Quo q) = Quo.mk q (Pol.C (zp p n)) := by
  have hn : ∀ n : Nat, (nc n : Quo q) = Quo.mk q (Pol.C (zp p n)) := by
   intro n
   induction n with
   | zero => show (0 : Quo q) = _; rw [show zp p ((0 : Nat) : Int) = 0 from rfl, Pol.C_zero, Quo.mk_zero]
   | succ n ih =>
    rw [nc, ih]
    have : zp p ((n + 1 : Nat) : Int) = zp p n + 1 := rfl
    rw [this, Pol.C_add, Quo.mk_add, Pol.C_one, Quo.mk_one]
  intro n
  cases n with
  | ofNat n => exact hn n
  | negSucc n =>
   show -(nc (n + 1) : Quo q) = _
   rw [hn, ← Quo.mk_neg, ← Pol.C_neg]; rfl
 rw [h]
 have : zp p p = 0 := zp_eq.2 (by simp)
 rw [this, Pol.C_zero, Quo.mk_zero]
end
section
variable {p : Int} [IsP p]
theorem frob_add {q : Fp p} (x y : Quo q) : pw (x + y) p.toNat = pw x p.toNat + pw y p.toNat := by
 have h := ic_p (q := q)
 rcases (inferInstance : IsP p).h with rfl | rfl | rfl | rfl
 ·have e : pw (x + y) 2 = pw x 2 + pw y 2 + ic 2 * (x * y) := by
   show (x + y) ^ 2 = x ^ 2 + y ^ 2 + ic 2 * (x * y)
   exact ring_of [x, y] rfl
  rw [h, Gq.zero_mul, Gq.add_zero] at e
  exact e
 ·have e : pw (x + y) 3 = pw x 3 + pw y 3 + ic 3 * (x * x * y + x * y * y) := by
   show (x + y) ^ 3 = x ^ 3 + y ^ 3 + ic 3 * (x * x * y + x * y * y)
   exact ring_of [x, y] rfl
  rw [h, Gq.zero_mul, Gq.add_zero] at e
  exact e
 ·have e : pw (x + y) 5 = pw x 5 + pw y 5 + ic 5 * (x ^ 4 * y + ic 2 * x ^ 3 * y ^ 2 + ic 2 * x ^ 2 * y ^ 3 + x * y ^ 4) := by
   show (x + y) ^ 5 = x ^ 5 + y ^ 5 + ic 5 * (x ^ 4 * y + ic 2 * x ^ 3 * y ^ 2 + ic 2 * x ^ 2 * y ^ 3 + x * y ^ 4)
   exact ring_of [x, y] rfl
  rw [h, Gq.zero_mul, Gq.add_zero] at e
  exact e
 ·have e : pw (x + y) 7 = pw x 7 + pw y 7 + ic 7 * (x ^ 6 * y + ic 3 * x ^ 5 * y ^ 2 + ic 5 * x ^ 4 * y ^ 3 + ic 5 * x ^ 3 * y ^ 4 + ic 3 * x ^ 2 * y ^ 5 + x * y ^ 6) := by
   show (x + y) ^ 7 = x ^ 7 + y ^ 7 + ic 7 * (x ^ 6 * y + ic 3 * x ^ 5 * y ^ 2 + ic 5 * x ^ 4 * y ^ 3 + ic 5 * x ^ 3 * y ^ 4 + ic 3 * x ^ 2 * y ^ 5 + x * y ^ 6)
   exact ring_of [x, y] rfl
  rw [h, Gq.zero_mul, Gq.add_zero] at e
  exact e
theorem frob_const (c : Zp p) : pw c p.toNat = c := by
 have h0 := rep_in c
 have e : c = zp p (rep c) := (zp_rep c).symm
 generalize rep c = n at *
 subst e
 rcases (inferInstance : IsP p).h with rfl | rfl | rfl | rfl
 ·have : n = 0 ∨ n = 1 := by omega
  rcases this with rfl | rfl <;> exact zp_eq.2 (by decide)
 ·have : n = 0 ∨ n = 1 ∨ n = 2 := by omega
  rcases this with rfl | rfl | rfl <;> exact zp_eq.2 (by decide)
 ·have : n = 0 ∨ n = 1 ∨ n = 2 ∨ n = 3 ∨ n = 4 := by omega
  rcases this with rfl | rfl | rfl | rfl | rfl <;> exact zp_eq.2 (by decide)
 ·have : n = 0 ∨ n = 1 ∨ n = 2 ∨ n = 3 ∨ n = 4 ∨ n = 5 ∨ n = 6 := by omega
  rcases this with rfl | rfl | rfl | rfl | rfl | rfl | rfl <;> exact zp_eq.2 (by decide)
end
end Pe

namespace Pe
open Go Gq
section
variable {p : Int} [IsP p]
theorem frobk_add {q : Fp p} (x y : Quo q) : ∀ k, pw (x + y) (p.toNat ^ k) = pw x (p.toNat ^ k) + pw y (p.toNat ^ k)
 | 0 => by rw [Nat.pow_zero, pw_1, pw_1, pw_1]
 | k + 1 => by rw [Nat.pow_succ, ← pw_pw, frobk_add x y k, frob_add, pw_pw, pw_pw]
theorem frobk_const (c : Zp p) : ∀ k, pw c (p.toNat ^ k) = c
 | 0 => by rw [Nat.pow_zero, pw_1]
 | k + 1 => by rw [Nat.pow_succ, ← pw_pw, frobk_const c k, frob_const]
end
section
variable {p : Int}
theorem C_pw (c : Zp p) : ∀ n, Pol.C (pw c n) = pw (Pol.C c) n
 | 0 => rfl
 | n + 1 => by rw [pw, Pol.C_mul, C_pw c n, pw]
end
section
variable {p : Int} [IsP p]
end
section
variable {p : Int}
theorem pol_ind {P : Fp p → Prop} (h0 : P 0) (h : ∀ c a, P a → P (Pol.C c + Pol.X * a)) : ∀ (n : Nat) (a : Fp p), a.lt n → P a
 | 0, a, ha => by rw [Pol.lt_zero.1 ha]; exact h0
 | n + 1, a, ha => by
  obtain ⟨m, hm⟩ := a.fin
  let b : Fp p := ⟨fun i => a.c (i + 1), m, fun i hi => hm _ (by omega)⟩
  have e : a = Pol.C (a.c 0) + Pol.X * b := Pol.ext fun i => by
   rw [Pol.c_add, Pol.c_C, Pol.c_Xmul]
   cases i with
   | zero => rw [if_pos rfl, if_pos rfl, Gq.add_zero]
   | succ i => rw [if_neg (by omega), if_neg (by omega), Gq.zero_add]; rfl
  rw [e]
  exact h _ _ (pol_ind h0 h n b fun i hi => ha _ (by omega))
end
section
variable {p : Int} [IsP p]
theorem frob_fix {q : Fp p} (k : Nat) (h : pw (Quo.mk q Pol.X) (p.toNat ^ k) = Quo.mk q Pol.X) (x : Quo q) : pw x (p.toNat ^ k) = x := by
 obtain ⟨a, rfl⟩ := Quo.ex x
 refine pol_ind (P := fun a => pw (Quo.mk q a) (p.toNat ^ k) = Quo.mk q a) ?_ (fun c a ha => ?_) _ a a.lt_len
 ·rw [Quo.mk_zero]
  have := p_pow_pos (p := p) k
  cases hn : p.toNat ^ k with
  | zero => omega
  | succ n => rw [pw, Gq.mul_zero]
 ·rw [Quo.mk_add, Quo.mk_mul, frobk_add, pw_mul, h, ha]
  congr 1
  rw [← Quo.mk_pow, ← C_pw, frobk_const]
theorem sumR_ind {K : Type} [CR K] (m : Nat) (g : Nat → K) : ∀ n, sumR (fun i => (if i = m then 1 else 0) * g i) n = if m < n then g m else 0
 | 0 => by rw [if_neg (by omega)]; rfl
 | n + 1 => by
  rw [sumR, sumR_ind m g n]
  rcases Nat.lt_trichotomy m n with h | h | h
  ·rw [if_pos h, if_neg (by omega), if_pos (by omega), Gq.zero_mul, Gq.add_zero]
  ·rw [if_neg (by omega), if_pos h.symm, if_pos (by omega), Gq.one_mul, Gq.zero_add, h]
  ·rw [if_neg (by omega), if_neg (by omega), if_neg (by omega), Gq.zero_mul, Gq.add_zero]
noncomputable def frT (p : Int) (k : Nat) : Fp p := pw Pol.X (p.toNat ^ k) - Pol.X
theorem frT_dv {q : Fp p} {k : Nat} : Dv q (frT p k) ↔ pw (Quo.mk q Pol.X) (p.toNat ^ k) = Quo.mk q Pol.X := by
 rw [dv_iff_mk, frT, Quo.mk_sub, Quo.mk_pow]
 exact ⟨fun h => eq_of_sub h, fun h => by rw [h, sub_self]⟩
theorem irr_frT {q : Fp p} (hi : Irr q) {d : Nat} (hq : q.len = d + 1) (hd : p ^ d < 1000000000000) : Dv q (frT p d) := frT_dv.2 (fermat_all hi hq hd _)
theorem irr_frT_le {q : Fp p} (hi : Irr q) {d k : Nat} (hq : q.len = d + 1) (hd : p ^ d < 1000000000000) (hk : 0 < k) (h : Dv q (frT p k)) : d ≤ k := by
 classical
 have hfix := frob_fix k (frT_dv.1 h)
 have hone : (1 : Quo q) ≠ 0 := (fdQuo hi).one_ne
 have hP : 2 ≤ p.toNat := by have := IsP.ge (p := p); omega
 have hne1 : 1 < p.toNat ^ k := Nat.one_lt_pow (by omega) hP
 have r := roots_le (fun x y e => hi.quo_zero e) (p.toNat ^ k) (fun i => (if i = p.toNat ^ k then (1 : Quo q) else 0) - (if i = 1 then 1 else 0)) ((0 : Quo q) :: unitsL q d)
  (by rw [if_pos rfl, if_neg (by omega), sub_eq, neg_zero, Gq.add_zero]; exact hone)
  (List.nodup_cons.2 ⟨fun h0 => (unitsL_mem hq hd 0).1 h0 rfl, unitsL_nodup hq hd⟩)
  (fun y _ => by
   have e : (fun i => ((if i = p.toNat ^ k then (1 : Quo q) else 0) - (if i = 1 then 1 else 0)) * pw y i) = fun i => (if i = p.toNat ^ k then (1 : Quo q) else 0) * pw y i + (if i = 1 then 1 else 0) * -pw y i := by
    funext i
    exact ring_of [(if i = p.toNat ^ k then (1 : Quo q) else 0), (if i = 1 then (1 : Quo q) else 0), pw y i] rfl
   rw [e, sumR_add, sumR_ind, sumR_ind _ (fun i => -pw y i), if_pos (by omega), if_pos (by omega), hfix, pw_1, add_neg])
 have hl : (unitsL q d).length = p.toNat ^ d - 1 := by unfold unitsL; rw [List.length_map, List.length_range]
 have hpos := p_pow_pos (p := p) d
 rw [List.length_cons, hl] at r
 have : p.toNat ^ d ≤ p.toNat ^ k := by omega
 exact (Nat.pow_le_pow_iff_right (by omega)).1 this
end
end Pe

namespace Pe
open Go Gq
section
variable {p : Int} [IsP p]
theorem vl_mono : ∀ {l m : List Int}, Can p l → Can p m → l.length < m.length → cf m (m.length - 1) ≠ 0 → vl p l < vl p m
 | l, [], _, _, h, _ => by simp at h
 | l, d :: m, hl, hm, h, hc => by
  have hp := IsP.pos (p := p)
  have hd := hm d (by simp)
  have hmc : Can p m := fun x hx => hm x (by simp [hx])
  cases l with
  | nil =>
   show 0 < d + p * vl p m
   have h2 := (vl_in hmc).1
   cases m with
   | nil =>
    have : d ≠ 0 := hc
    simp [vl]; omega
   | cons e m =>
    have h3 : cf (e :: m) ((e :: m).length - 1) ≠ 0 := by simpa [cf] using hc
    have := vl_mono (l := []) (m := e :: m) (fun x hx => by simp at hx) hmc (by simp) h3
    have h5 : 0 < p * vl p (e :: m) := Int.mul_pos hp (by simpa [vl] using this)
    omega
  | cons c l =>
   have hlc : Can p l := fun x hx => hl x (by simp [hx])
   have hcc := hl c (by simp)
   have h3 : cf m (m.length - 1) ≠ 0 := by
    cases m with
    | nil => simp at h
    | cons e m => simpa [cf] using hc
   have := vl_mono hlc hmc (by simpa using h) h3
   have h5 : p * (vl p l + 1) ≤ p * vl p m := Int.mul_le_mul_of_nonneg_left (by omega) (by omega)
   rw [Int.mul_add, Int.mul_one] at h5
   show c + p * vl p l < d + p * vl p m
   omega
end
section
variable {p : Int}
theorem row_last {a : Fp p} (h : a ≠ 0) : cf (row a) ((row a).length - 1) ≠ 0 := by
 rw [row_length, row_cf]
 exact fun h0 => Pol.ld_ne h (rep_eq_zero.1 h0)
end
section
variable {p : Int} [IsP p]
theorem numOf_len {a b : Fp p} (h : a.len < b.len) : numOf a < numOf b := vl_mono (row_can a) (row_can b) (by simpa using h) (row_last fun h0 => by rw [h0, Pol.len_zero] at h; omega)
theorem vl_inj : ∀ {l m : List Int}, Can p l → Can p m → l.length = m.length → vl p l = vl p m → l = m
 | [], [], _, _, _, _ => rfl
 | [], _ :: _, _, _, h, _ => by simp at h
 | _ :: _, [], _, _, h, _ => by simp at h
 | c :: l, d :: m, hl, hm, h, e => by
  have hp := IsP.pos (p := p)
  have hcc := hl c (by simp)
  have hd := hm d (by simp)
  have e2 : c + p * vl p l = d + p * vl p m := e
  have e3 : c = d := by
   have := congrArg (· % p) e2
   simp only [Int.add_mul_emod_self_left] at this
   rwa [Int.emod_eq_of_lt hcc.1 hcc.2, Int.emod_eq_of_lt hd.1 hd.2] at this
  subst e3
  have e4 : p * vl p l = p * vl p m := by omega
  rw [vl_inj (l := l) (m := m) (fun x hx => hl x (by simp [hx])) (fun x hx => hm x (by simp [hx])) (by simpa using h) (Int.eq_of_mul_eq_mul_left (by omega) e4)]
theorem numOf_inj {a b : Fp p} (h : numOf a = numOf b) : a = b := by
 rcases Nat.lt_trichotomy a.len b.len with h1 | h1 | h1
 ·have := numOf_len h1; omega
 ·exact row_inj (vl_inj (row_can a) (row_can b) (by simpa using h1) h)
 ·have := numOf_len h1; omega
abbrev Facs (p : Int) := List (Fp p × Nat)
noncomputable def prodF (L : Facs p) : Fp p := prodL (L.map fun x => pw x.1 x.2)
structure FacOk (L : Facs p) : Prop where
 irr : ∀ x ∈ L, Irr x.1 ∧ Monic x.1 ∧ 1 ≤ x.2
 dis : L.Pairwise fun x y => x.1 ≠ y.1
structure IsFac (a : Fp p) (L : Facs p) : Prop where
 ok : FacOk L
 sorted : L.Pairwise fun x y => numOf x.1 < numOf y.1
 eq : a = Pol.C a.ld * prodF L
end
section
variable {p : Int}
theorem prodF_cons (x : Fp p × Nat) (L : Facs p) : prodF (x :: L) = pw x.1 x.2 * prodF L := rfl
end
section
variable {p : Int} [IsP p]
theorem Monic.pw {a : Fp p} (h : Monic a) : ∀ n, Monic (pw a n)
 | 0 => Monic.one
 | n + 1 => (Monic.pw h n).mul h
theorem prodF_monic {L : Facs p} (h : FacOk L) : Monic (prodF L) := by
 induction L with
 | nil => exact Monic.one
 | cons x L ih =>
  rw [prodF_cons]
  exact (Monic.pw (h.irr x (by simp)).2.1 _).mul (ih ⟨fun y hy => h.irr y (by simp [hy]), (List.pairwise_cons.1 h.dis).2⟩)
theorem Irr.pw_dv {q a : Fp p} (h : Irr q) : ∀ n, Dv q (pw a n) → Dv q a
 | 0, hd => by
  have h1 : q.len ≤ (1 : Fp p).len := hd.len Pol.one_ne
  have h2 := h.len
  rw [Pol.len_one] at h1; omega
 | n + 1, hd => (h.prime hd).elim (Irr.pw_dv h n) id
theorem irr_mem {q : Fp p} (hq : Irr q) (mq : Monic q) : ∀ {L : Facs p}, FacOk L → Dv q (prodF L) → ∃ k, (q, k) ∈ L
 | [], _, h => by
  have h1 : q.len ≤ (1 : Fp p).len := h.len Pol.one_ne
  have h2 := hq.len
  rw [Pol.len_one] at h1; omega
 | x :: L, ok, h => by
  rw [prodF_cons] at h
  rcases hq.prime h with h1 | h1
  ·have h2 := Irr.pw_dv hq _ h1
   obtain ⟨i1, i2, _⟩ := ok.irr x (by simp)
   have := hq.eq_of_dv i1 mq i2 h2
   exact ⟨x.2, by rw [this]; simp⟩
  ·obtain ⟨k, hk⟩ := irr_mem hq mq ⟨fun y hy => ok.irr y (by simp [hy]), (List.pairwise_cons.1 ok.dis).2⟩ h1
   exact ⟨k, by simp [hk]⟩
theorem prodF_out {q : Fp p} {k : Nat} : ∀ {L : Facs p}, FacOk L → (q, k) ∈ L → ∃ r, prodF L = pw q k * r ∧ ¬ Dv q r
 | x :: L, ok, h => by
  have ok' : FacOk L := ⟨fun y hy => ok.irr y (by simp [hy]), (List.pairwise_cons.1 ok.dis).2⟩
  rw [prodF_cons]
  rcases List.mem_cons.1 h with rfl | h
  ·refine ⟨prodF L, rfl, fun hd => ?_⟩
   obtain ⟨i1, i2, _⟩ := ok.irr (q, k) (by simp)
   obtain ⟨k', hk⟩ := irr_mem i1 i2 ok' hd
   exact (List.pairwise_cons.1 ok.dis).1 _ hk rfl
  ·obtain ⟨r, e, hn⟩ := prodF_out ok' h
   refine ⟨pw x.1 x.2 * r, by rw [e, Gq.mul_left_comm], fun hd => ?_⟩
   obtain ⟨i1, i2, _⟩ := ok.irr (q, k) (by simp [h])
   obtain ⟨j1, j2, _⟩ := ok.irr x (by simp)
   rcases i1.prime hd with h1 | h1
   ·have h2 := Irr.pw_dv i1 _ h1
    have e := i1.eq_of_dv j1 i2 j2 h2
    exact (List.pairwise_cons.1 ok.dis).1 _ h e.symm
   ·exact hn h1
theorem pw_ne {a : Fp p} (h : a ≠ 0) : ∀ n, pw a n ≠ 0
 | 0 => Pol.one_ne
 | n + 1 => Pol.mul_ne (pw_ne h n) h
theorem fac_mem {a : Fp p} (ha : a ≠ 0) {L : Facs p} (ok : FacOk L) (e : a = Pol.C a.ld * prodF L) (q : Fp p) (k : Nat) : (q, k) ∈ L ↔ Irr q ∧ Monic q ∧ 1 ≤ k ∧ Dv (pw q k) a ∧ ¬ Dv (pw q (k + 1)) a := by
 have hld := Pol.ld_ne ha
 have dvP : ∀ c, Dv c a ↔ Dv c (prodF L) := fun c => by
  constructor
  ·rintro ⟨x, hx⟩
   refine ⟨Pol.C (Fd.inv a.ld) * x, ?_⟩
   have : prodF L = Pol.C (Fd.inv a.ld) * a := by
    rw [e]
    have e2 : (Pol.C a.ld * prodF L).ld = a.ld := by rw [← e]
    rw [e2, ← Gq.mul_assoc, Gq.mul_comm (Pol.C (Fd.inv _)), C_inv hld, Gq.one_mul]
   rw [this]
   generalize Pol.C (Fd.inv a.ld) = k
   rw [hx]
   exact ring_of [k, c, x] rfl
  ·intro h
   rw [e]; exact h.mul_left _
 constructor
 ·intro h
  obtain ⟨i1, i2, i3⟩ := ok.irr (q, k) h
  obtain ⟨r, e2, hn⟩ := prodF_out ok h
  refine ⟨i1, i2, i3, (dvP _).2 ⟨r, e2⟩, fun hd => hn ?_⟩
  obtain ⟨y, hy⟩ := (dvP _).1 hd
  rw [e2, pw, Gq.mul_assoc] at hy
  exact ⟨y, Pol.mul_cancel (pw_ne i1.ne k) hy⟩
 ·rintro ⟨i1, i2, i3, h1, h2⟩
  have hq : Dv q a := by
   obtain ⟨k, rfl⟩ : ∃ j, k = j + 1 := ⟨k - 1, by omega⟩
   exact Dv.trans ⟨pw q k, Gq.mul_comm _ _⟩ h1
  obtain ⟨k', hk'⟩ := irr_mem i1 i2 ok ((dvP _).1 hq)
  obtain ⟨r, e2, hn⟩ := prodF_out ok hk'
  have : k = k' := by
   rcases Nat.lt_trichotomy k k' with h | h | h
   ·exfalso
    apply h2
    rw [dvP, e2]
    obtain ⟨j, rfl⟩ := Nat.exists_eq_add_of_le (show k + 1 ≤ k' from h)
    rw [pw_add q (k + 1) j]
    exact ((Dv.refl _).mul_right _).mul_right _
   ·exact h
   ·exfalso
    apply hn
    obtain ⟨y, hy⟩ := (dvP _).1 h1
    obtain ⟨j, rfl⟩ := Nat.exists_eq_add_of_le (show k' + 1 ≤ k from h)
    rw [e2, pw_add, pw, Gq.mul_assoc, Gq.mul_assoc] at hy
    exact ⟨_, Pol.mul_cancel (pw_ne i1.ne k') hy⟩
  rw [this]; exact hk'
theorem sorted_eq {α : Type} (f : α → Int) : ∀ {l m : List α}, l.Pairwise (fun x y => f x < f y) → m.Pairwise (fun x y => f x < f y) → (∀ x, x ∈ l ↔ x ∈ m) → l = m
 | [], [], _, _, _ => rfl
 | [], y :: m, _, _, h => by have := (h y).2 (by simp); simp at this
 | x :: l, [], _, _, h => by have := (h x).1 (by simp); simp at this
 | x :: l, y :: m, hl, hm, h => by
  obtain ⟨l1, l2⟩ := List.pairwise_cons.1 hl
  obtain ⟨m1, m2⟩ := List.pairwise_cons.1 hm
  have e : x = y := by
   rcases List.mem_cons.1 ((h x).1 (by simp)) with h1 | h1
   ·exact h1
   ·rcases List.mem_cons.1 ((h y).2 (by simp)) with h2 | h2
    ·exact h2.symm
    ·have := m1 _ h1
     have := l1 _ h2
     omega
  subst e
  rw [sorted_eq f l2 m2 fun z => ?_]
  constructor
  ·intro hz
   rcases List.mem_cons.1 ((h z).1 (by simp [hz])) with h1 | h1
   ·subst h1; have := l1 _ hz; omega
   ·exact h1
  ·intro hz
   rcases List.mem_cons.1 ((h z).2 (by simp [hz])) with h1 | h1
   ·subst h1; have := m1 _ hz; omega
   ·exact h1
theorem IsFac.unique {a : Fp p} (ha : a ≠ 0) {L L' : Facs p} (h : IsFac a L) (h' : IsFac a L') : L = L' :=
 sorted_eq (fun x => numOf x.1) h.sorted h'.sorted fun x => by
  obtain ⟨q, k⟩ := x
  rw [fac_mem ha h.ok h.eq, fac_mem ha h'.ok h'.eq]
def NoSmall (n : Nat) (a : Fp p) : Prop := ∀ q, Irr q → Dv q a → n + 1 ≤ q.len
theorem irr_of_noSmall {a : Fp p} {n : Nat} (h : NoSmall n a) (hl : 2 ≤ a.len) (hs : a.len < 2 * n + 1) : Irr a := by
 refine Irr.of_dv hl fun u hu => ?_
 have ha : a ≠ 0 := fun h0 => by rw [h0, Pol.len_zero] at hl; omega
 obtain ⟨v, rfl⟩ := hu
 have hu0 : u ≠ 0 := fun h0 => ha (by rw [h0, Gq.zero_mul])
 have hv0 : v ≠ 0 := fun h0 => ha (by rw [h0, Gq.mul_zero])
 have l := Pol.len_mul hu0 hv0
 have l1 := Pol.len_pos hu0
 have l2 := Pol.len_pos hv0
 apply Classical.byContradiction
 intro hx
 have hu2 : 2 ≤ u.len := by omega
 have hv2 : 2 ≤ v.len := by omega
 obtain ⟨q, q1, _, q2⟩ := irr_ex u.len u (Nat.le_refl _) hu2
 obtain ⟨r, r1, _, r2⟩ := irr_ex v.len v (Nat.le_refl _) hv2
 have s1 := h q q1 (q2.mul_right v)
 have s2 := h r r1 (r2.mul_left u)
 have s3 := q2.len hu0
 have s4 := r2.len hv0
 omega
theorem noSmall_one (a : Fp p) : NoSmall 1 a := fun _q h _ => h.len
theorem noSmall_dv {a b : Fp p} {n : Nat} (h : NoSmall n a) (hd : Dv b a) : NoSmall n b := fun q hq hb => h q hq (hb.trans hd)
end
end Pe

namespace Pe
open Go Gq
variable {T : Nat → Option Fn} {A : Oracle}
def C_isNaN (O : Oracle) (F : Nat) : Prop := ∀ x : Int, ask O F [(D.int .i64 x)] = some (D.bool false)
theorem c_isNaN (hT : T F2 = some Z2) : C_isNaN (den T A) F2 := fun x => by
 refine ask_of hT rfl ?_
 simp -implicitDefEqProofs [Z2, Z2_B]
theorem c_isNaN64 (hT : T F3 = some Z3) : C_isNaN (den T A) F3 := fun x => by
 refine ask_of hT rfl ?_
 simp -implicitDefEqProofs [Z3, Z3_B]
def cmpI (x y : Int) : Int := if x < y then -1 else if y < x then 1 else 0
def C_compareI (O : Oracle) (F : Nat) : Prop := ∀ x y : Int, ask O F [(D.int .i64 x), (D.int .i64 y)] = some (D.int .i64 (cmpI x y))
theorem c_compareI (hT : T F0 = some Z0) (h : C_isNaN (den T A) F2) : C_compareI (den T A) F0 := fun x y => by
 have e1 := h x
 have e2 := h y
 refine ask_of hT rfl ?_
 unfold cmpI
 by_cases h1 : x < y
 ·simp -implicitDefEqProofs [Z0, Z0_B, e1, e2, h1, dn_cond]
 ·by_cases h2 : y < x
  ·simp -implicitDefEqProofs [Z0, Z0_B, e1, e2, h1, h2, dn_cond]
  ·simp -implicitDefEqProofs [Z0, Z0_B, e1, e2, h1, h2, dn_cond]
theorem c_compareI64 (hT : T F1 = some Z1) (h : C_isNaN (den T A) F3) : C_compareI (den T A) F1 := fun x y => by
 have e1 := h x
 have e2 := h y
 refine ask_of hT rfl ?_
 unfold cmpI
 by_cases h1 : x < y
 ·simp -implicitDefEqProofs [Z1, Z1_B, e1, e2, h1, dn_cond]
 ·by_cases h2 : y < x
  ·simp -implicitDefEqProofs [Z1, Z1_B, e1, e2, h1, h2, dn_cond]
  ·simp -implicitDefEqProofs [Z1, Z1_B, e1, e2, h1, h2, dn_cond]
def cmpL (l m : List Int) : Nat → Int
 | 0 => 0
 | n + 1 => if cmpI (cf l n) (cf m n) ≠ 0 then cmpI (cf l n) (cf m n) else cmpL l m n
theorem l_compare {O : Oracle} (hc : C_compareI O F1) {l m : List Int} (hlm : l.length = m.length) (hl : l.length < 1000000) : ∀ n : Nat, n ≤ l.length →
 dn O 0 (.loop Zg_L0) ⟨[(0, (.d (.sl .leaf (ints .i64 l)))), (1, (.d (.sl .leaf (ints .i64 m)))), (6, (.d (.int .i64 ((n : Int) - 1))))], []⟩ =
  if cmpL l m n = 0 then some (.exit 0, ⟨[(0, (.d (.sl .leaf (ints .i64 l)))), (1, (.d (.sl .leaf (ints .i64 m)))), (6, (.d (.int .i64 (-1)))), (20, (.d (.bool false)))], []⟩) else some (.ret, ⟨[(4, (.d (.int .i64 (cmpL l m n))))], []⟩)
 | 0, hn => by
  simp only [cmpL, if_true]
  exact dn_stop (by simp -implicitDefEqProofs [Zg_L0, dn_cond])
 | n + 1, hn => by
  have t0 : (((n + 1 : Nat) : Int) - 1) = (n : Int) := by omega
  rw [t0]
  have h1 : n < l.length := by omega
  have h2 : n < m.length := by omega
  have e1 : l[n]? = some (cf l n) := by rw [List.getElem?_eq_getElem h1, cf_lt h1]
  have e2 : m[n]? = some (cf m n) := by rw [List.getElem?_eq_getElem h2, cf_lt h2]
  have e1' : l[n] = cf l n := (cf_lt h1).symm
  have e2' : m[n] = cf m n := (cf_lt h2).symm
  have e3 := hc (cf l n) (cf m n)
  have w1 : IntKind.i64.wrap ((n : Int) - 1) = (n : Int) - 1 := w64 (by omega)
  by_cases h0 : cmpI (cf l n) (cf m n) = 0
  ·rw [h0] at e3
   have e : cmpL l m (n + 1) = cmpL l m n := if_neg (fun h => h h0)
   rw [e]
   refine dn_round ?_ (l_compare hc hlm hl n (by omega))
   simp -implicitDefEqProofs [Zg_L0, dn_cond, h1, h2, e1', e2', e3, w1]
  ·have e : cmpL l m (n + 1) = cmpI (cf l n) (cf m n) := if_pos h0
   rw [e, if_neg h0]
   refine dn_back ?_
   simp -implicitDefEqProofs [Zg_L0, dn_cond, h1, h2, e1', e2', e3, h0]
def cmpR (l m : List Int) : Int := if cmpI l.length m.length ≠ 0 then cmpI l.length m.length else cmpL l m l.length
def C_compare (O : Oracle) : Prop := ∀ l m : List Int, l.length < 1000000 → m.length < 1000000 → ask O Fg [(D.sl .leaf (ints .i64 l)), (D.sl .leaf (ints .i64 m))] = some (D.int .i64 (cmpR l m))
theorem c_compare (hT : T Fg = some Zg) (h1 : C_compareI (den T A) F0) (h2 : C_compareI (den T A) F1) : C_compare (den T A) := by
 intro l m hl hm
 have e1 := h1 l.length m.length
 unfold cmpR
 refine ask_of hT rfl ?_
 by_cases h0 : cmpI l.length m.length = 0
 ·have hlm : l.length = m.length := by
   unfold cmpI at h0
   split at h0
   ·omega
   ·split at h0 <;> omega
  rw [if_neg (fun h => h h0)]
  rw [h0] at e1
  have e2 := l_compare h2 hlm hl l.length (Nat.le_refl _)
  have w1 : IntKind.i64.wrap ((l.length : Int) - 1) = (l.length : Int) - 1 := w64 (by omega)
  by_cases hz : cmpL l m l.length = 0
  ·rw [if_pos hz] at e2
   simp -implicitDefEqProofs [Zg, Zg_B, dn_cond, e1, e2, w1, hz]
  ·rw [if_neg hz] at e2
   simp -implicitDefEqProofs [Zg, Zg_B, dn_cond, e1, e2, w1]
 ·rw [if_pos h0]
  simp -implicitDefEqProofs [Zg, Zg_B, dn_cond, e1, h0]
section
variable (f : D → Int)
def insG : List D → D → List D → List D
 | [], x, R => x :: R
 | y :: L, x, R => if f x < f y then insG L x (y :: R) else (y :: L).reverse ++ x :: R
def srtG : List D → List D → List D
 | P, [] => P
 | P, x :: r => srtG (insG f P.reverse x []) r
theorem insG_app : ∀ (L : List D) (x : D) (R S : List D), insG f L x (R ++ S) = insG f L x R ++ S
 | [], x, R, S => rfl
 | y :: L, x, R, S => by
  unfold insG
  split
  ·rw [← List.cons_append, insG_app L x (y :: R) S]
  ·simp
theorem insG_perm : ∀ (L : List D) (x : D) (R : List D), (insG f L x R).Perm (x :: (L.reverse ++ R))
 | [], x, R => .refl _
 | y :: L, x, R => by
  unfold insG
  split
  ·refine (insG_perm L x (y :: R)).trans ?_
   simp
  ·exact List.perm_middle
theorem insG_len (L : List D) (x : D) (R : List D) : (insG f L x R).length = L.length + R.length + 1 := by
 have := (insG_perm f L x R).length_eq
 simpa using this
def Asc (l : List D) : Prop := l.Pairwise fun x y => f x ≤ f y
theorem insG_asc : ∀ (L : List D) (x : D) (R : List D), Asc f (L.reverse ++ R) → (∀ y ∈ R, f x ≤ f y) → Asc f (insG f L x R)
 | [], x, R, h, hx => by
  unfold insG Asc
  refine List.pairwise_cons.2 ⟨hx, ?_⟩
  have h' : Asc f R := by simpa using h
  exact h'
 | y :: L, x, R, h, hx => by
  unfold insG
  split
  ·rename_i hlt
   refine insG_asc L x (y :: R) (by simpa using h) fun z hz => ?_
   rcases List.mem_cons.1 hz with rfl | hz
   ·omega
   ·exact hx z hz
  ·rename_i hlt
   unfold Asc at h ⊢
   rw [List.pairwise_append] at h ⊢
   refine ⟨h.1, List.pairwise_cons.2 ⟨hx, h.2.1⟩, fun a ha b hb => ?_⟩
   rcases List.mem_cons.1 hb with rfl | hb
   ·have hay : f a ≤ f y := by
     have h1 := h.1
     rw [List.reverse_cons, List.pairwise_append] at h1
     rw [List.reverse_cons] at ha
     rcases List.mem_append.1 ha with ha | ha
     ·exact h1.2.2 a ha y (by simp)
     ·simp at ha; rw [ha]; exact Int.le_refl _
    omega
   ·exact h.2.2 a ha b hb
theorem srtG_perm : ∀ (r P : List D), (srtG f P r).Perm (P ++ r)
 | [], P => by simp [srtG]
 | x :: r, P => by
  unfold srtG
  refine (srtG_perm r _).trans ?_
  have := insG_perm f P.reverse x []
  refine (List.Perm.append_right r this).trans ?_
  simp
  exact List.perm_middle.symm
theorem srtG_asc : ∀ (r P : List D), Asc f P → Asc f (srtG f P r)
 | [], P, h => h
 | x :: r, P, h => by
  unfold srtG
  exact srtG_asc r _ (insG_asc f P.reverse x [] (by simpa using h) (by simp))
end
section
variable {O : Oracle} {g : Nat} {first caps : List D}
abbrev facSh : Sh := .st [.leaf, .leaf]
structure CmpOk (O : Oracle) (g : Nat) (first caps : List D) (f : D → Int) (s : Sh) (cs : List D) : Prop where
 nf : noTup first
 nc : noTup caps
 nx : noTup cs
 sh : AllSh s cs
 ask : ∀ x ∈ cs, ∀ y ∈ cs, ask O g (first ++ [x, y] ++ caps) = some (D.int .i64 (cmpI (f x) (f y)))
theorem CmpOk.perm {f : D → Int} {s : Sh} {cs ds : List D} (h : CmpOk O g first caps f s cs) (p : ds.Perm cs) : CmpOk O g first caps f s ds :=
 ⟨h.nf, h.nc, fun x hx => h.nx x (p.subset hx), fun x hx => h.sh x (p.subset hx), fun x hx y hy => h.ask x (p.subset hx) y (p.subset hy)⟩
theorem CmpOk.call {f : D → Int} {s : Sh} {cs : List D} (h : CmpOk O g first caps f s cs) {hp : Heap} {np : Nat} {news : List Nat} {x y : D} (hx : x ∈ cs) (hy : y ∈ cs) :
 kCall O np hp .flat news (g, first.map .d, caps.map .d) [.d x, .d y] = some (.d (D.int .i64 (cmpI (f x) (f y))), hp) := by
 have e : toDs hp (first.map .d ++ [.d x, .d y] ++ caps.map .d) = some (first ++ [x, y] ++ caps) :=
  toDs_app hp (toDs_app hp (toDs_map hp h.nf) (toDs_map hp (ds := [x, y]) (by intro z hz; simp at hz; rcases hz with rfl | rfl; exact h.nx _ hx; exact h.nx _ hy))) (toDs_map hp h.nc)
 rw [kCall_flat, e, Option.bind_some, kAsk_ask, h.ask x hx y hy, Option.bind_some, kAns_flat, show (D.int IntKind.i64 (cmpI (f x) (f y))).flat = true from rfl, if_pos rfl]
theorem cmpI_neg (x y : Int) : cmpI x y < 0 ↔ x < y := by
 unfold cmpI
 split
 ·omega
 ·split <;> omega
theorem l_insF {f : D → Int} {n : Nat} {cp : Option Nat} (hn : n ≤ 1000) {i : Nat} : ∀ (L : List D) (x : D) (R : List D), (L.reverse ++ x :: R).length = n → CmpOk O g first caps f facSh (L.reverse ++ x :: R) → ∃ j : Int,
 dn O 1 (.loop Z1y_L0) ⟨[(0, .sl 0 [] 0 n cp), (1, (.d (.int .i64 0))), (2, (.d (.int .i64 n))), (3, .d (.fn g first caps)), (8, (.d (.int .i64 i))), (9, (.d (.int .i64 L.length)))], [.sl false facSh (L.reverse ++ x :: R)]⟩ =
  some (.exit 2, ⟨[(0, .sl 0 [] 0 n cp), (1, (.d (.int .i64 0))), (2, (.d (.int .i64 n))), (3, .d (.fn g first caps)), (8, (.d (.int .i64 i))), (9, (.d (.int .i64 j))), (34, (.d (.bool false)))], [.sl false facSh (insG f L x R)]⟩)
 | [], x, R, hl, ok => by
  refine ⟨0, dn_stop ?_⟩
  simp -implicitDefEqProofs [Z1y_L0, dn_cond, insG]
 | y :: L, x, R, hl, ok => by
  have hj : (y :: L).length = L.length + 1 := rfl
  have hlen : ((y :: L).reverse ++ x :: R).length = L.length + 1 + (R.length + 1) := by simp; omega
  have e1 : ((y :: L).reverse ++ x :: R)[L.length + 1]? = some x := by
   rw [List.getElem?_append_right (by simp)]; simp
  have e2 : ((y :: L).reverse ++ x :: R)[L.length]? = some y := by
   rw [List.getElem?_append_left (by simp)]; simp
  have m1 : x ∈ (y :: L).reverse ++ x :: R := by simp
  have m2 : y ∈ (y :: L).reverse ++ x :: R := by simp
  have c := ok.call (hp := [.sl false facSh ((y :: L).reverse ++ x :: R)]) (np := 1) (news := []) m1 m2
  have s1 := ok.sh x m1
  have s2 := ok.sh y m2
  have n1 := ok.nx x m1
  have n2 := ok.nx y m2
  have e3 : (((y :: L).reverse ++ x :: R).set (L.length + 1) y).set L.length x = L.reverse ++ x :: y :: R := by
   rw [List.set_append_right _ _ (by simp), List.set_append_left _ _ (by simp)]
   simp
  have hp : ((y :: L).reverse ++ x :: R).Perm (L.reverse ++ x :: y :: R) := by
   simp
   exact (List.Perm.swap x y R).append_left _
  have w1 : IntKind.i64.wrap (L.length : Int) = L.length := w64 (by omega)
  have h0 : (0 : Int) < (L.length : Int) + 1 := by omega
  have h00 : (0 : Int) ≤ (L.length : Int) + 1 := by omega
  have h1 : L.length + 1 < n := by omega
  have h2 : L.length < n := by omega
  have h3 : L.length < ((y :: L).reverse ++ x :: R).length := by omega
  have h4 : L.length + 1 < ((y :: L).reverse ++ x :: R).length := by omega
  have e4 : (((y :: L).reverse ++ x :: R).set (L.length + 1) y)[L.length]? = some y := by
   rw [List.getElem?_set_ne (by omega), e2]
  unfold insG
  rw [hj, show ((L.length + 1 : Nat) : Int) = (L.length : Int) + 1 by omega]
  generalize (y :: L).reverse ++ x :: R = cs at *
  have e1' : cs[L.length + 1] = x := by rw [List.getElem?_eq_getElem h4] at e1; exact Option.some.inj e1
  have e2' : cs[L.length] = y := by rw [List.getElem?_eq_getElem h3] at e2; exact Option.some.inj e2
  by_cases hlt : f x < f y
  ·rw [if_pos hlt]
   obtain ⟨j, e⟩ := l_insF hn L x (y :: R) (by rw [← hp.length_eq]; omega) (ok.perm hp.symm)
   have hc := (cmpI_neg (f x) (f y)).2 hlt
   refine ⟨j, dn_round ?_ e⟩
   simp -implicitDefEqProofs [Z1y_L0, dn_cond, h0, h00, h1, h2, h3, h4, e1', e2', c, s1, s2, n1, n2, w1, hc, e3]
  ·rw [if_neg hlt]
   have hc := mt (cmpI_neg (f x) (f y)).1 hlt
   refine ⟨(L.length : Int) + 1, dn_stop ?_⟩
   simp -implicitDefEqProofs [Z1y_L0, dn_cond, h0, h00, h1, h2, h3, h4, e1', e2', c, s1, s2, w1, hc]
end
theorem l_srtF {O : Oracle} {g : Nat} {first caps : List D} {f : D → Int} {n : Nat} {cp : Option Nat} (hn : n ≤ 1000) : ∀ (r P : List D), P.length + r.length = n → 0 < P.length → CmpOk O g first caps f facSh (P ++ r) →
 dn O 1 (.loop Z1y_L1) ⟨[(0, .sl 0 [] 0 n cp), (1, (.d (.int .i64 0))), (2, (.d (.int .i64 n))), (3, .d (.fn g first caps)), (8, (.d (.int .i64 P.length)))], [.sl false facSh (P ++ r)]⟩ =
  some (.exit 0, ⟨[(0, .sl 0 [] 0 n cp), (1, (.d (.int .i64 0))), (2, (.d (.int .i64 n))), (3, .d (.fn g first caps)), (8, (.d (.int .i64 n))), (14, (.d (.bool false)))], [.sl false facSh (srtG f P r)]⟩)
 | [], P, hl, hP, ok => by
  have hl' : P.length = n := by simpa using hl
  refine dn_stop ?_
  simp -implicitDefEqProofs [Z1y_L1, dn_cond, srtG, hl']
 | x :: r, P, hl, hP, ok => by
  simp at hl
  have e0 : P.reverse.reverse ++ x :: r = P ++ x :: r := by simp
  obtain ⟨j, e⟩ := l_insF (O := O) (g := g) (first := first) (caps := caps) (f := f) (n := n) (cp := cp) hn (i := P.length) P.reverse x r (by simp; omega) (by rw [e0]; exact ok)
  rw [e0, List.length_reverse, ← List.nil_append r, insG_app, List.nil_append] at e
  have hlen := insG_len f P.reverse x []
  rw [List.length_reverse, List.length_nil, Nat.add_zero] at hlen
  have hperm : (insG f P.reverse x [] ++ r).Perm (P ++ x :: r) := by
   refine (List.Perm.append_right r (insG_perm f P.reverse x [])).trans ?_
   simp
   exact List.perm_middle.symm
  have ih := l_srtF (O := O) (g := g) (first := first) (caps := caps) (f := f) (cp := cp) hn r (insG f P.reverse x []) (by rw [hlen]; omega) (by omega) (ok.perm hperm)
  have hlt : P.length < n := by omega
  have w1 : IntKind.i64.wrap ((P.length : Int) + 1) = ((P.length + 1 : Nat) : Int) := (w64 (x := (P.length : Int) + 1) (by omega)).trans (by omega)
  rw [hlen] at ih
  unfold srtG
  refine dn_round ?_ ih
  simp -implicitDefEqProofs [Z1y_L1, dn_cond, hlt, e, w1]
def H_sort (O : Oracle) (F : Nat) (args : V → List V → List V) : Prop := ∀ (g : Nat) (first caps : List D) (f : D → Int) (cs : List D) (cp : Option Nat), cs.length ≤ 12 → CmpOk O g first caps f facSh cs →
 ∃ ds : List D, ds.Perm cs ∧ Asc f ds ∧ O F (args (.sl 0 [] 0 cs.length cp) [(.d (.int .i64 cs.length)), .d (.fn g first caps)]) [.sl false facSh cs] = some (.tup [], [.sl false facSh ds], [])
def H_insertion (O : Oracle) : Prop := H_sort O F1y fun s l => [s, (.d (.int .i64 0))] ++ l
theorem h_insertion (hT : T F1y = some Z1y) : H_insertion (den T A) := by
 intro g first caps f cs cp hl ok
 cases cs with
 | nil =>
  refine ⟨[], .refl _, List.Pairwise.nil, den_of hT rfl ?_⟩
  have st := dn_stop (O := den T A) (np := 1) (c := Z1y_L1) (s := ⟨[(0, .sl 0 [] 0 0 cp), (1, (.d (.int .i64 0))), (2, (.d (.int .i64 0))), (3, .d (.fn g first caps)), (8, (.d (.int .i64 1)))], [.sl false facSh []]⟩) (s1 := ⟨[(0, .sl 0 [] 0 0 cp), (1, (.d (.int .i64 0))), (2, (.d (.int .i64 0))), (3, .d (.fn g first caps)), (8, (.d (.int .i64 1))), (14, (.d (.bool false)))], [.sl false facSh []]⟩) (id := 0) (by simp -implicitDefEqProofs [Z1y_L1, dn_cond])
  have w1 : IntKind.i64.wrap 1 = 1 := w64 (by omega)
  simp -implicitDefEqProofs [Z1y, Z1y_B, st, w1]
 | cons x r =>
  have e := l_srtF (O := den T A) (g := g) (first := first) (caps := caps) (f := f) (n := (x :: r).length) (cp := cp) (by omega) r [x] (by simp; omega) (by simp) ok
  have e1 : (([x] : List D).length : Int) = 1 := rfl
  rw [e1] at e
  refine ⟨srtG f [x] r, srtG_perm f r [x], srtG_asc f r [x] (List.pairwise_singleton _ _), den_of hT rfl ?_⟩
  have w1 : IntKind.i64.wrap 1 = 1 := w64 (by omega)
  rw [List.singleton_append] at e
  generalize x :: r = cs at *
  simp -implicitDefEqProofs [Z1y, Z1y_B, e, w1]
def C_len64 (O : Oracle) (F : Nat) : Prop := ∀ n : Nat, n ≤ 12 → ∃ v : Int, ask O F [.int .u64 n] = some (D.int .i64 v)
theorem c_len64 (hT : T F1o = some Z1o) : C_len64 (den T A) F1o := by
 intro n hn
 have key : ∀ v : Int, run (fun _ _ _ => none) 1 Z1o [.d (.int .u64 n)] [] = some ((.d (.int .i64 v)), [], []) → ask (den T A) F1o [.int .u64 n] = some (D.int .i64 v) := by
  intro v h
  have h2 := den_run (A := A) hT (n := 1) (vs := [.d (.int .u64 n)]) (bs := []) (ans := ((.d (.int .i64 v)), [], [])) (by
   obtain ⟨qs, h3, h4⟩ := run_rests h
   cases qs with
   | nil => exact h4 _ (by intro q hq; simp at hq)
   | cons q qs => exact absurd (h3 q (by simp)) (by simp))
  unfold ask
  rw [show ([D.int .u64 n] : List D).map V.d = [.d (.int .u64 n)] from rfl, h2]
  rfl
 have h : n = 0 ∨ n = 1 ∨ n = 2 ∨ n = 3 ∨ n = 4 ∨ n = 5 ∨ n = 6 ∨ n = 7 ∨ n = 8 ∨ n = 9 ∨ n = 10 ∨ n = 11 ∨ n = 12 := by omega
 rcases h with rfl | rfl | rfl | rfl | rfl | rfl | rfl | rfl | rfl | rfl | rfl | rfl | rfl
 ·exact ⟨0, key 0 (by kernel_rfl)⟩
 ·exact ⟨1, key 1 (by kernel_rfl)⟩
 ·exact ⟨2, key 2 (by kernel_rfl)⟩
 ·exact ⟨2, key 2 (by kernel_rfl)⟩
 ·exact ⟨3, key 3 (by kernel_rfl)⟩
 ·exact ⟨3, key 3 (by kernel_rfl)⟩
 ·exact ⟨3, key 3 (by kernel_rfl)⟩
 ·exact ⟨3, key 3 (by kernel_rfl)⟩
 ·exact ⟨4, key 4 (by kernel_rfl)⟩
 ·exact ⟨4, key 4 (by kernel_rfl)⟩
 ·exact ⟨4, key 4 (by kernel_rfl)⟩
 ·exact ⟨4, key 4 (by kernel_rfl)⟩
 ·exact ⟨4, key 4 (by kernel_rfl)⟩
theorem c_len (hT : T F1m = some Z1m) (h : C_len64 (den T A) F1o) : C_len64 (den T A) F1m := by
 intro n hn
 obtain ⟨v, e⟩ := h n hn
 refine ⟨v, ask_of hT rfl ?_⟩
 simp -implicitDefEqProofs [Z1m, Z1m_B, dn_cond, e]
theorem h_pdq (hT : T F26 = some Z26) (hi : H_insertion (den T A)) : ∀ (g : Nat) (first caps : List D) (f : D → Int) (cs : List D) (cp : Option Nat) (v : Int), cs.length ≤ 12 → CmpOk (den T A) g first caps f facSh cs →
 ∃ ds : List D, ds.Perm cs ∧ Asc f ds ∧ den T A F26 [.sl 0 [] 0 cs.length cp, (.d (.int .i64 0)), (.d (.int .i64 cs.length)), (.d (.int .i64 v)), .d (.fn g first caps)] [.sl false facSh cs] = some (.tup [], [.sl false facSh ds], []) := by
 intro g first caps f cs cp v hl ok
 obtain ⟨ds, h1, h2, e⟩ := hi g first caps f cs cp hl ok
 refine ⟨ds, h1, h2, den_of hT rfl ?_⟩
 have w1 : IntKind.i64.wrap (cs.length : Int) = cs.length := w64 (by omega)
 have h12 : (cs.length : Int) ≤ 12 := by omega
 have lp := dn_back (O := den T A) (np := 1) (c := Z26_L0) (s := ⟨[(0, .sl 0 [] 0 cs.length cp), (1, (.d (.int .i64 0))), (2, (.d (.int .i64 cs.length))), (3, (.d (.int .i64 v))), (4, .d (.fn g first caps)), (10, (.d (.bool true))), (11, (.d (.bool true)))], [.sl false facSh cs]⟩) (s1 := ⟨[], [.sl false facSh ds]⟩) (by
  simp at e
  simp -implicitDefEqProofs [Z26_L0, dn_cond, w1, h12, e, List.idxOf, List.findIdx, List.findIdx.go])
 simp -implicitDefEqProofs [Z26, Z26_B, lp]
def H_sortFunc (O : Oracle) : Prop := ∀ (g : Nat) (first caps : List D) (f : D → Int) (cs : List D) (cp : Option Nat), cs.length ≤ 12 → CmpOk O g first caps f facSh cs →
 ∃ ds : List D, ds.Perm cs ∧ Asc f ds ∧ O F1u [.sl 0 [] 0 cs.length cp, .d (.fn g first caps)] [.sl false facSh cs] = some (.tup [], [.sl false facSh ds], [])
theorem h_sortFunc (hT : T F1u = some Z1u) (hTp : T F26 = some Z26) (hi : H_insertion (den T A)) (hl : C_len64 (den T A) F1m) : H_sortFunc (den T A) := by
 intro g first caps f cs cp hl12 ok
 obtain ⟨v, ev⟩ := hl cs.length hl12
 obtain ⟨ds, h1, h2, e⟩ := h_pdq hTp hi g first caps f cs cp v hl12 ok
 refine ⟨ds, h1, h2, den_of hT rfl ?_⟩
 have w1 : IntKind.u64.wrap (cs.length : Int) = cs.length := by
  simp [IntKind.wrap, IntKind.bits, IntKind.signed]; omega
 simp -implicitDefEqProofs [Z1u, Z1u_B, w1, ev, e, List.idxOf, List.findIdx, List.findIdx.go]
end Pe

namespace Pe
open Go Gq
variable {T : Nat → Option Fn} {A : Oracle}
theorem l_strip {O : Oracle} (hd : K_divide O) {p : Int} [IsP p] {b : Fp p} (hb : 2 ≤ b.len) (hbl : b.len < 2000) : ∀ (n : Nat) (a : Fp p) (i : Nat), a.len ≤ n → a ≠ 0 → n < 2000 → i + n < 100000 → ∃ (k : Nat) (r : Fp p), a = r * pw b k ∧ ¬ Dv b r ∧
 dn O 0 (.loop Z14_L0) ⟨[(0, (.d (.int .i64 p))), (1, (.d (.sl .leaf (ints .i64 (row a))))), (2, (.d (.sl .leaf (ints .i64 (row b))))), (8, (.d (.int .i64 i)))], []⟩ = some (.ret, ⟨[(6, (.d (.sl .leaf (ints .i64 (row r))))), (7, (.d (.int .i64 ((i + k : Nat)))))], []⟩)
 | 0, a, i, hn, ha, _, _ => absurd (Pol.len_zero_iff.1 (by omega)) ha
 | n + 1, a, i, hn, ha, hn2, hi => by
  have hb0 : b ≠ 0 := fun h => by rw [h, Pol.len_zero] at hb; omega
  have e := hd p a b hb0 (by omega) (by omega)
  by_cases h0 : a % b = 0
  ·have hm := Pol.div_mod a b
   rw [h0, Gq.add_zero] at hm
   have hq : a / b ≠ 0 := fun h => ha (by rw [hm, h, Gq.zero_mul])
   have hl := Pol.len_mul hq hb0
   rw [← hm] at hl
   obtain ⟨k, r, e1, e2, e3⟩ := l_strip hd hb hbl n (a / b) (i + 1) (by omega) hq (by omega) (by omega)
   refine ⟨k + 1, r, ?_, e2, ?_⟩
   ·rw [pw, ← Gq.mul_assoc, ← e1]; exact hm
   ·have w1 : IntKind.i64.wrap ((i : Int) + 1) = ((i + 1 : Nat) : Int) := (w64 (x := (i : Int) + 1) (by omega)).trans (by omega)
    rw [show i + (k + 1) = i + 1 + k by omega]
    refine dn_round ?_ e3
    simp -implicitDefEqProofs [Z14_L0, dn_cond, e, h0, row_zero, w1]
  ·refine ⟨0, a, (Gq.mul_one a).symm, fun hdv => h0 ((dv_iff_mod hb0).1 hdv), dn_back ?_⟩
   have hp := Pol.len_pos h0
   simp -implicitDefEqProofs [Z14_L0, dn_cond, e, hp]
def K_strip (O : Oracle) : Prop := ∀ (p : Int) [IsP p] (a b : Fp p), a ≠ 0 → 2 ≤ b.len → a.len < 1000 → b.len < 1000 → ∃ (k : Nat) (r : Fp p), a = r * pw b k ∧ ¬ Dv b r ∧
 ask O F14 [(D.int .i64 p), (D.sl .leaf (ints .i64 (row a))), (D.sl .leaf (ints .i64 (row b)))] = some (.tup [(D.sl .leaf (ints .i64 (row r))), (D.int .i64 k)])
theorem k_strip (hT : T F14 = some Z14) (hd : K_divide (den T A)) : K_strip (den T A) := by
 intro p i a b ha hb hal hbl
 obtain ⟨k, r, h1, h2, e⟩ := l_strip hd hb (by omega) a.len a 0 (Nat.le_refl _) ha (by omega) (by omega)
 have e0 : ((0 : Nat) : Int) = 0 := rfl
 rw [e0, Nat.zero_add] at e
 refine ⟨k, r, h1, h2, ask_of hT rfl ?_⟩
 simp -implicitDefEqProofs [Z14, Z14_B, e]
section
variable {p : Int} [IsP p]
theorem ppow_le {n : Nat} (h : n ≤ 12) : p ^ n ≤ 13841287201 := by
 have hp := IsP.pos (p := p)
 have h1 := ipow_mono (p := p) (by omega) h
 have h2 : p ^ 12 ≤ 13841287201 := by
  rcases (inferInstance : IsP p).h with rfl | rfl | rfl | rfl <;> decide
 omega
theorem ppow_pos (n : Nat) : 0 < p ^ n := Int.pow_pos (IsP.pos)
theorem ppow_succ (n : Nat) : 2 * p ^ n ≤ p ^ (n + 1) := by
 have hp := IsP.ge (p := p)
 rw [Int.pow_succ, Int.mul_comm]
 exact Int.mul_le_mul_of_nonneg_left hp (Int.le_of_lt (ppow_pos n))
theorem normL_eq {most : Int} : ∀ (n : Nat) (out : Int), 0 < out → out * p ^ n ≤ most → normL p most n out = out * p ^ n
 | 0, out, h0, h => by rw [Int.pow_zero, Int.mul_one]; rfl
 | n + 1, out, h0, h => by
  have hp := IsP.pos (p := p)
  have e : out * p ^ (n + 1) = out * p * p ^ n := by rw [Int.pow_succ, Int.mul_assoc, Int.mul_comm p]
  rw [e] at h ⊢
  have h1 : 1 ≤ p ^ (n + 1) := ppow_pos (n + 1)
  have h2 : out * 1 ≤ out * p ^ (n + 1) := Int.mul_le_mul_of_nonneg_left h1 (by omega)
  rw [e] at h2
  rw [normL, if_neg (by omega)]
  exact normL_eq n (out * p) (Int.mul_pos h0 hp) h
theorem numP_monic {n : Nat} (hn : n ≤ 12) {k : Int} (h1 : p ^ n ≤ k) (h2 : k < 2 * p ^ n) : Monic (numP p k) ∧ (numP p k).len = n + 1 := by
 have hp := IsP.ge (p := p)
 have hb := ppow_le (p := p) hn
 have hpos := ppow_pos (p := p) n
 have ok : NumOk k := ⟨by omega, by omega⟩
 have hs := ppow_succ (p := p) n
 have hlt := numP_lt (p := p) ok (d := n + 1) (by omega)
 have hc : (numP p k).c n = 1 := by
  rw [numP_c ok]
  have : k / p ^ n = 1 := by
   have e : k = (k - p ^ n) + p ^ n := by omega
   rw [e, Int.add_ediv_of_dvd_right (Int.dvd_refl _), Int.ediv_self (by omega), Int.ediv_eq_zero_of_lt (by omega) (by omega)]; rfl
  rw [this]; rfl
 have hl := Pol.len_eq hlt (by rw [hc]; exact Fd.one_ne)
 refine ⟨⟨?_, fun h0 => by rw [h0, Pol.len_zero] at hl; omega⟩, hl⟩
 unfold Pol.ld
 rw [hl]; exact hc
theorem numOf_monic {n : Nat} (_hn : n ≤ 12) {q : Fp p} (hq : Monic q) (hl : q.len = n + 1) : p ^ n ≤ numOf q ∧ numOf q < 2 * p ^ n := by
 have hp := IsP.ge (p := p)
 have hpos := ppow_pos (p := p) n
 have h1 := numOf_in q
 have h2 := vl_cf (row_can q) n
 have h3 : q.c n = 1 := by have := hq.1; unfold Pol.ld at this; rwa [hl] at this
 rw [row_cf, h3, rep_one] at h2
 have h4 : numOf q / p ^ n < p := by
  apply Int.ediv_lt_of_lt_mul hpos
  rw [hl, Int.pow_succ, Int.mul_comm] at h1
  exact h1.2
 have h5 : 0 ≤ numOf q / p ^ n := Int.ediv_nonneg h1.1 (by omega)
 have h6 : numOf q / p ^ n = 1 := by
  have : numOf q / p ^ n % p = numOf q / p ^ n := Int.emod_eq_of_lt h5 h4
  have h7 : (1 : Int) = numOf q / p ^ n % p := h2
  omega
 have h8 := Int.mul_ediv_add_emod (numOf q) (p ^ n)
 rw [h6, Int.mul_one] at h8
 have h9 := Int.emod_nonneg (numOf q) (show p ^ n ≠ 0 by omega)
 have h10 := Int.emod_lt_of_pos (numOf q) hpos
 omega
theorem numP_monic_num {n : Nat} (hn : n ≤ 12) {q : Fp p} (hq : Monic q) (hl : q.len = n + 1) : numP p (numOf q) = q := numP_numOf (by
 have := numOf_monic hn hq hl
 have := ppow_le (p := p) hn
 omega)
theorem l_with {O : Oracle} (hnu : K_numbered O) (hr : K_rest O) {a : Fp p} (hal : a.len < 1000) {n : Nat} (hn : n ≤ 12) : ∀ (m : Nat) (k : Int), p ^ n ≤ k → k < 2 * p ^ n → (2 * p ^ n - k).toNat ≤ m → (∃ k0, k ≤ k0 ∧ k0 < 2 * p ^ n ∧ Dv (numP p k0) a) → ∃ b : Fp p, Monic b ∧ b.len = n + 1 ∧ Dv b a ∧
 dn O 0 (.loop Z17_L0) ⟨[(0, (.d (.int .i64 p))), (1, (.d (.sl .leaf (ints .i64 (row a))))), (7, (.d (.int .i64 (p ^ n)))), (8, (.d (.int .i64 k)))], []⟩ = some (.ret, ⟨[(6, (.d (.sl .leaf (ints .i64 (row b)))))], []⟩)
 | 0, k, h1, h2, hm, hx => by omega
 | m + 1, k, h1, h2, hm, hx => by
  have hb := ppow_le (p := p) hn
  have hpos := ppow_pos (p := p) n
  obtain ⟨m1, m2⟩ := numP_monic hn h1 h2
  have e1 := hnu p k (by omega) (by omega)
  have e2 := hr p a (numP p k) m1.2 (by omega) (by omega)
  have w1 : IntKind.i64.wrap (2 * p ^ n) = 2 * p ^ n := w64 (by omega)
  have w2 : IntKind.i64.wrap (k + 1) = k + 1 := w64 (by omega)
  by_cases hd : Dv (numP p k) a
  ·refine ⟨numP p k, m1, m2, hd, dn_back ?_⟩
   have h0 := (dv_iff_mod m1.2).1 hd
   rw [h0, row_zero] at e2
   simp -implicitDefEqProofs [Z17_L0, dn_cond, e1, e2, w1, h2]
  ·obtain ⟨k0, g1, g2, g3⟩ := hx
   have hne : k ≠ k0 := fun h => hd (h ▸ g3)
   obtain ⟨b, b1, b2, b3, e⟩ := l_with hnu hr hal hn m (k + 1) (by omega) (by omega) (by omega) ⟨k0, by omega, g2, g3⟩
   refine ⟨b, b1, b2, b3, dn_round ?_ e⟩
   have h0 : a % numP p k ≠ 0 := fun h => hd ((dv_iff_mod m1.2).2 h)
   have h0' : row (a % numP p k) ≠ [] := fun h => h0 (row_nil.1 h)
   have h0'' : (a % numP p k).len ≠ 0 := fun h => h0 (Pol.len_zero_iff.1 h)
   simp -implicitDefEqProofs [Z17_L0, dn_cond, e1, e2, w1, w2, h2, h0'']
end
def K_withDegree (O : Oracle) : Prop := ∀ (p : Int) [IsP p] (a : Fp p) (n : Nat), 1 ≤ n → n ≤ 12 → a.len < 1000 → a ≠ 0 → (∃ q, Monic q ∧ q.len = n + 1 ∧ Dv q a) → ∃ b : Fp p, Monic b ∧ b.len = n + 1 ∧ Dv b a ∧
 ask O F17 [(D.int .i64 p), (D.sl .leaf (ints .i64 (row a))), (D.int .i64 n)] = some (D.sl .leaf (ints .i64 (row b)))
theorem k_withDegree (hT : T F17 = some Z17) (hnu : K_numbered (den T A)) (hr : K_rest (den T A)) (hno : C_norm (den T A)) (hdg : C_degree (den T A)) (hld : C_lead (den T A)) (hinv : C_inverse (den T A)) (hs : K_scale (den T A)) : K_withDegree (den T A) := by
 intro p i a n hn1 hn hal ha ⟨q, q1, q2, q3⟩
 have hp := IsP.ge (p := p)
 have hp7 := IsP.le (p := p)
 have e1 := hdg (row a) (by rw [row_length]; omega)
 rw [row_length] at e1
 by_cases hd : a.len = n + 1
 ·have hr := rep_in a.ld
  have hin := inv_in p (rep a.ld)
  have e2 := hld (row a) (by rw [row_length]; omega)
  rw [ld_row] at e2
  have e3 := hinv p (rep a.ld) (by omega) (by omega) hr.1 hr.2
  have e4 := hs p (inv p (rep a.ld)) a (by omega) (by omega) (by omega)
  rw [finv_rep _ (Pol.ld_ne ha)] at e4
  have hd2 : (a.len : Int) - 1 = n := by omega
  refine ⟨mon a, mon_monic ha, by rw [mon_len ha, hd], (mon_dv ha).2 (.refl a), ask_of hT rfl ?_⟩
  simp -implicitDefEqProofs [Z17, Z17_B, dn_cond, e1, e2, e3, e4, hd2, mon]
 ·have hd2 : ¬ (a.len : Int) - 1 = n := by omega
  have hb := ppow_le (p := p) hn
  have hpos := ppow_pos (p := p) n
  have e2 := hno p n 1099511627776 (by omega) (by omega)
  rw [normL_eq n 1 (by omega) (by omega), Int.one_mul] at e2
  have hq := numOf_monic hn q1 q2
  obtain ⟨b, b1, b2, b3, e⟩ := l_with hnu hr hal hn (2 * p ^ n - p ^ n).toNat (p ^ n) (Int.le_refl _) (by omega) (Nat.le_refl _) ⟨numOf q, hq.1, hq.2, by rw [numP_monic_num hn q1 q2]; exact q3⟩
  refine ⟨b, b1, b2, b3, ask_of hT rfl ?_⟩
  simp -implicitDefEqProofs [Z17, Z17_B, dn_cond, e1, e2, hd2, e]
end Pe

namespace Pe
open Go Gq
variable {T : Nat → Option Fn} {A : Oracle}
section
variable {p : Int} [IsP p]
theorem row_X : row (Pol.X : Fp p) = [0, 1] := by
 unfold row
 rw [Pol.len_X]
 show [rep ((Pol.X : Fp p).c 0), rep ((Pol.X : Fp p).c 1)] = [0, 1]
 have e0 : (Pol.X : Fp p).c 0 = 0 := rfl
 have e1 : (Pol.X : Fp p).c 1 = 1 := rfl
 rw [e0, e1, rep_zero, rep_one]
theorem Irr.assoc {q b : Fp p} (hq : Irr q) (hb : Irr b) (h : Dv q b) : Dv b q := by
 obtain ⟨c, hc⟩ := h
 have hc0 : c ≠ 0 := fun h0 => hb.ne (by rw [hc, h0, Gq.mul_zero])
 have l := Pol.len_mul hq.ne hc0
 rw [← hc] at l
 have h1 := hq.len
 rcases hb.dv ⟨c, hc⟩ with h2 | h2
 ·omega
 ·obtain ⟨k, hk, rfl⟩ := unit_of_len (show c.len = 1 by omega)
  rw [hc, Gq.mul_comm]
  exact (Dv.Cmul hk).2 (.refl q)
structure FInv (a0 : Fp p) (n : Nat) (a : Fp p) (out : Facs p) : Prop where
 ne : a ≠ 0
 eq : a0 = a * prodF out
 ok : FacOk out
 nd : ∀ x ∈ out, ¬ Dv x.1 a
 ns : NoSmall n a
 ln : out.length + a.len ≤ 13
structure JInv (a0 : Fp p) (n : Nat) (a : Fp p) (out : Facs p) (all : Fp p) : Prop where
 f : FInv a0 n a out
 ne : all ≠ 0
 ln : all.len ≤ 13
 one : ∀ q, Irr q → Dv q all → q.len = n + 1 ∧ Dv q a
 two : ∀ q, Irr q → q.len = n + 1 → Dv q a → Dv q all
end
section
variable {p : Int}
theorem prodF_snoc (L : Facs p) (x : Fp p × Nat) : prodF (L ++ [x]) = prodF L * pw x.1 x.2 := by
 induction L with
 | nil => show pw x.1 x.2 * 1 = 1 * pw x.1 x.2; rw [Gq.mul_one, Gq.one_mul]
 | cons y L ih => rw [List.cons_append, prodF_cons, prodF_cons, ih, Gq.mul_assoc]
end
section
variable {p : Int} [IsP p]
theorem FacOk.snoc {L : Facs p} (h : FacOk L) {q : Fp p} {k : Nat} (hi : Irr q) (hm : Monic q) (hk : 1 ≤ k) (hd : ∀ x ∈ L, x.1 ≠ q) : FacOk (L ++ [(q, k)]) := by
 refine ⟨fun x hx => ?_, ?_⟩
 ·rcases List.mem_append.1 hx with hx | hx
  ·exact h.irr x hx
  ·simp at hx; subst hx; exact ⟨hi, hm, hk⟩
 ·rw [List.pairwise_append]
  refine ⟨h.dis, List.pairwise_singleton _ _, fun x hx y hy => ?_⟩
  simp at hy; subst hy; exact hd x hx
theorem JInv.irr {a0 a : Fp p} {n : Nat} {out : Facs p} {all b : Fp p} (h : JInv a0 n a out all) (hn : 1 ≤ n) (hb : b.len = n + 1) (hd : Dv b all) : Irr b := by
 have hb0 : b ≠ 0 := fun h0 => by rw [h0, Pol.len_zero] at hb; omega
 refine Irr.of_dv (by omega) fun u hu => ?_
 have hul := hu.len hb0
 have hu0 : u ≠ 0 := fun h0 => by
  obtain ⟨c, hc⟩ := hu
  exact hb0 (by rw [hc, h0, Gq.zero_mul])
 have hup := Pol.len_pos hu0
 by_cases h1 : u.len = 1
 ·exact .inl h1
 ·right
  obtain ⟨r, r1, _, r2⟩ := irr_ex u.len u (Nat.le_refl _) (by omega)
  have h2 := (h.one r r1 ((r2.trans hu).trans hd)).1
  have h3 := r2.len hu0
  omega
theorem JInv.step {a0 a : Fp p} {n : Nat} {out : Facs p} {all b : Fp p} (h : JInv a0 n a out all) (hn : 1 ≤ n) (hm : Monic b) (hb : b.len = n + 1) (hd : Dv b all)
 {k k' : Nat} {r r' : Fp p} (h1 : a = r * pw b k) (h2 : ¬ Dv b r) (h3 : all = r' * pw b k') (h4 : ¬ Dv b r') : JInv a0 n r (out ++ [(b, k)]) r' ∧ r'.len < all.len ∧ 1 ≤ k := by
 have hi := h.irr hn hb hd
 have hda := (h.one b hi hd).2
 have hk : 1 ≤ k := by
  cases k with
  | zero => exact absurd (by rw [h1, pw, Gq.mul_one] at hda; exact hda) h2
  | succ k => omega
 have hk' : 1 ≤ k' := by
  cases k' with
  | zero => exact absurd (by rw [h3, pw, Gq.mul_one] at hd; exact hd) h4
  | succ k => omega
 have hr0 : r ≠ 0 := fun h0 => h.f.ne (by rw [h1, h0, Gq.zero_mul])
 have hr0' : r' ≠ 0 := fun h0 => h.ne (by rw [h3, h0, Gq.zero_mul])
 have shrink : ∀ (a r : Fp p) (k : Nat), r ≠ 0 → 1 ≤ k → a = r * pw b k → r.len < a.len := by
  intro a r k hr hk e
  obtain ⟨j, rfl⟩ : ∃ j, k = j + 1 := ⟨k - 1, by omega⟩
  have hj := pw_ne hi.ne j
  have l1 := Pol.len_mul hj hi.ne
  have l2 := Pol.len_mul hr (Pol.mul_ne hj hi.ne)
  have l3 := Pol.len_pos hj
  rw [e, pw]; omega
 have s1 := shrink a r k hr0 hk h1
 have s2 := shrink all r' k' hr0' hk' h3
 have dr : ∀ q, Dv q r → Dv q a := fun q hq => by rw [h1]; exact hq.mul_right _
 have pd : ∀ q, Irr q → ∀ m, Dv q (pw b m) → Dv b q := fun q hq m hq2 => Irr.assoc hq hi (Irr.pw_dv hq m hq2)
 refine ⟨⟨⟨hr0, ?_, h.f.ok.snoc hi hm hk fun x hx e => h.f.nd x hx (e ▸ hda), ?_, noSmall_dv h.f.ns ⟨pw b k, h1⟩, ?_⟩, hr0', by have := h.ln; omega, ?_, ?_⟩, s2, hk⟩
 ·rw [h.f.eq, prodF_snoc]
  conv => lhs; rw [h1]
  exact ring_of [r, pw b k, prodF out] rfl
 ·intro x hx
  rcases List.mem_append.1 hx with hx | hx
  ·exact fun hq => h.f.nd x hx (dr _ hq)
  ·simp at hx; subst hx; exact h2
 ·have := h.f.ln
  simp; omega
 ·intro q hq hqr
  have hqa : Dv q all := by rw [h3]; exact hqr.mul_right _
  obtain ⟨g1, g2⟩ := h.one q hq hqa
  refine ⟨g1, ?_⟩
  rw [h1] at g2
  rcases hq.prime g2 with g | g
  ·exact g
  ·exact absurd ((pd q hq k g).trans hqr) h4
 ·intro q hq hql hqr
  have := h.two q hq hql (dr q hqr)
  rw [h3] at this
  rcases hq.prime this with g | g
  ·exact g
  ·exact absurd ((pd q hq k' g).trans hqr) h2
theorem JInv.done {a0 a : Fp p} {n : Nat} {out : Facs p} {all : Fp p} (h : JInv a0 n a out all) (hl : all.len < 2) : FInv a0 (n + 1) a out := by
 refine ⟨h.f.ne, h.f.eq, h.f.ok, h.f.nd, fun q hq hd => ?_, h.f.ln⟩
 have h1 := h.f.ns q hq hd
 apply Classical.byContradiction
 intro hx
 have h2 := (h.two q hq (by omega) hd).len h.ne
 have := hq.len
 omega
theorem JInv.init {a0 a : Fp p} {n : Nat} {out : Facs p} (h : FInv a0 n a out) (hn : 1 ≤ n) (hn2 : n ≤ 12) {fr : Fp p} (hf : fr % a = pw Pol.X (p.toNat ^ n) % a) : JInv a0 n a out (Pol.gcd (fr - Pol.X) a) := by
 have h0 : fr - Pol.X ≠ 0 ∨ a ≠ 0 := .inr h.ne
 have hm := Pol.gcd_monic h0
 have hd2 := Pol.gcd_dv_right h0
 have key : ∀ q, Dv q a → (Dv q (fr - Pol.X) ↔ Dv q (frT p n)) := by
  intro q hq
  have e : Dv q (fr - pw Pol.X (p.toNat ^ n)) := by
   refine hq.trans ?_
   rw [dv_iff_mk, Quo.mk_sub]
   rw [(Pol.mod_eq_iff h.ne).1 hf, sub_self]
  unfold frT
  constructor
  ·intro g
   have : pw Pol.X (p.toNat ^ n) - Pol.X = (fr - Pol.X) - (fr - pw Pol.X (p.toNat ^ n)) := ring_of [pw Pol.X (p.toNat ^ n), Pol.X, fr] rfl
   rw [this]; exact g.sub e
  ·intro g
   have : fr - Pol.X = (pw Pol.X (p.toNat ^ n) - Pol.X) + (fr - pw Pol.X (p.toNat ^ n)) := ring_of [pw Pol.X (p.toNat ^ n), Pol.X, fr] rfl
   rw [this]; exact g.add e
 have hl := hd2.len h.ne
 have hl2 := h.ln
 refine ⟨h, hm.2, by omega, fun q hq hd => ?_, fun q hq hql hqa => ?_⟩
 ·have g1 := hd.trans hd2
  have g2 := (key q g1).1 (hd.trans (Pol.gcd_dv_left h0))
  have g3 := h.ns q hq g1
  have g4 := g1.len h.ne
  have g5 := irr_frT_le hq (d := q.len - 1) (k := n) (by have := hq.len; omega) (by have := ppow_le (p := p) (n := q.len - 1) (by omega); omega) hn g2
  exact ⟨by omega, g1⟩
 ·have g2 := irr_frT hq hql (by have := ppow_le (p := p) hn2; omega)
  exact Pol.dv_gcd h0 ((key q hqa).2 g2) hqa
noncomputable abbrev facD (x : Fp p × Nat) : D := .st [.leaf, .leaf] [(D.sl .leaf (ints .i64 (row x.1))), (D.int .i64 x.2)]
theorem l_fac1 {O : Oracle} (hw : K_withDegree O) (hst : K_strip O) (hdg : C_degree O) {a0 : Fp p} {n : Nat} (hn : 1 ≤ n) (hn2 : n ≤ 12) : ∀ (m : Nat) (a : Fp p) (out : Facs p) (all : Fp p) (cp : Option Nat), all.len ≤ m → JInv a0 n a out all → ∃ (a' : Fp p) (out' : Facs p) (all' : List Int) (cp' : Option Nat), FInv a0 (n + 1) a' out' ∧ a'.len ≤ a.len ∧
 dn O 0 (.loop Zu_L1) ⟨[(0, (.d (.int .i64 p))), (1, (.d (.sl .leaf (ints .i64 (row a))))), (5, .sl 0 [] 0 out.length cp), (6, (.d (.int .i64 n))), (8, (.d (.sl .leaf (ints .i64 (row all)))))], [.sl false facSh (out.map facD), .hole, .hole, .hole, .hole]⟩ =
  some (.exit 4, ⟨[(0, (.d (.int .i64 p))), (1, (.d (.sl .leaf (ints .i64 (row a'))))), (5, .sl 0 [] 0 out'.length cp'), (6, (.d (.int .i64 n))), (8, (.d (.sl .leaf (ints .i64 all')))), (52, (.d (.bool false)))], [.sl false facSh (out'.map facD), .hole, .hole, .hole, .hole]⟩)
 | m, a, out, all, cp, hm, h => by
  have hln := h.ln
  have hp := Pol.len_pos h.ne
  have e1 := hdg (row all) (by rw [row_length]; omega)
  rw [row_length] at e1
  by_cases hl : all.len < 2
  ·refine ⟨a, out, row all, cp, h.done hl, Nat.le_refl _, dn_stop ?_⟩
   have h1 : ¬ (1 : Int) < (all.len : Int) := by omega
   simp -implicitDefEqProofs [Zu_L1, dn_cond, e1, h1]
  ·have hlo := h.f.ln
   obtain ⟨q, q1, q2, q3⟩ := irr_ex all.len all (Nat.le_refl _) (by omega)
   obtain ⟨b, b1, b2, b3, e2⟩ := hw p all n hn hn2 (by omega) h.ne ⟨q, q2, (h.one q q1 q3).1, q3⟩
   obtain ⟨k, r, g1, g2, e3⟩ := hst p a b h.f.ne (by omega) (by omega) (by omega)
   obtain ⟨k', r', g3, g4, e4⟩ := hst p all b h.ne (by omega) (by omega) (by omega)
   obtain ⟨hJ, hlt, hk⟩ := h.step hn b1 b2 b3 g1 g2 g3 g4
   cases m with
   | zero => omega
   | succ m =>
    obtain ⟨a', out', all', cp', i1, i2, e⟩ := l_fac1 hw hst hdg hn hn2 m r (out ++ [(b, k)]) r' none (by omega) hJ
    have hra : r.len ≤ a.len := (show Dv r a from ⟨_, g1⟩).len h.f.ne
    refine ⟨a', out', all', cp', i1, by omega, dn_round ?_ e⟩
    have h1 : (1 : Int) < (all.len : Int) := by omega
    have h8 : (out.length + 1) * 32 ≤ 1099511627776 := by omega
    have ht : (out.map facD).take out.length = out.map facD := List.take_of_length_le (by simp)
    have hL : (out.map facD).length = out.length := by simp
    have o1 : (out ++ [(b, k)]).map facD = out.map facD ++ [facD (b, k)] := by simp
    have o2 : (out ++ [(b, k)]).length = out.length + 1 := by simp
    rw [o1, o2]
    generalize out.map facD = LD at *
    simp -implicitDefEqProofs [Zu_L1, dn_cond, e1, e2, e3, e4, h1, h8, ht, hL, List.replicate]
theorem l_fac0 {O : Oracle} (hpw : K_power O) {a : Fp p} (ha : a ≠ 0) (hal : a.len ≤ 13) {n : Nat} (hn2 : n ≤ 1000) {st : V} {hp : Heap} (hst : st.refs = [0]) (hhp : ∃ b, hp = [b, .hole, .hole, .hole, .hole]) : ∀ (m i : Nat) (fr : Fp p), i + m = n → fr.len ≤ 13 → ∃ fr' : Fp p, fr'.len ≤ 13 ∧ fr' % a = pw fr (p.toNat ^ m) % a ∧
 dn O 0 (.loop Zu_L0) ⟨[(0, (.d (.int .i64 p))), (1, (.d (.sl .leaf (ints .i64 (row a))))), (5, st), (6, (.d (.int .i64 n))), (7, (.d (.sl .leaf (ints .i64 (row fr))))), (34, (.d (.int .i64 n))), (35, (.d (.int .i64 i)))], hp⟩ =
  some (.exit 2, ⟨[(0, (.d (.int .i64 p))), (1, (.d (.sl .leaf (ints .i64 (row a))))), (5, st), (6, (.d (.int .i64 n))), (7, (.d (.sl .leaf (ints .i64 (row fr'))))), (34, (.d (.int .i64 n))), (35, (.d (.int .i64 n))), (36, (.d (.bool false)))], hp⟩)
 | 0, i, fr, hi, hf => by
  obtain ⟨b, rfl⟩ := hhp
  obtain rfl : i = n := by omega
  refine ⟨fr, hf, by rw [Nat.pow_zero, pw_1], dn_stop ?_⟩
  simp -implicitDefEqProofs [Zu_L0, dn_cond, hst]
 | m + 1, i, fr, hi, hf => by
  have hP := IsP.pos (p := p)
  have hP7 := IsP.le (p := p)
  have e := hpw p fr p a ha (by omega) (by omega) (by omega) (by omega)
  have hl := Pol.len_mod (pw fr p.toNat) ha
  obtain ⟨fr', g1, g2, g3⟩ := l_fac0 (O := O) hpw ha hal hn2 hst hhp m (i + 1) (pw fr p.toNat % a) (by omega) (by omega)
  obtain ⟨b, rfl⟩ := hhp
  have h1 : i < n := by omega
  have w1 : IntKind.i64.wrap ((i : Int) + 1) = ((i + 1 : Nat) : Int) := (w64 (x := (i : Int) + 1) (by omega)).trans (by omega)
  refine ⟨fr', g1, ?_, dn_round ?_ g3⟩
  ·rw [g2, Pol.pow_mod _ ha, pw_pw, Nat.pow_succ, Nat.mul_comm]
  ·simp -implicitDefEqProofs [Zu_L0, dn_cond, e, h1, w1, hst]
structure FEnd (a0 : Fp p) (out : Facs p) : Prop where
 ok : FacOk out
 eq : ∃ c : Zp p, c ≠ 0 ∧ a0 = Pol.C c * prodF out
 ln : out.length ≤ 12
theorem l_fac2 {O : Oracle} (hw : K_withDegree O) (hst : K_strip O) (hdg : C_degree O) (hpw : K_power O) (hlet : C_letter O) (hc : K_combine1 O) (hg : K_gcd O) (hld : C_lead O) (hinv : C_inverse O) (hs : K_scale O) {a0 : Fp p} : ∀ (m n : Nat) (a : Fp p) (out : Facs p) (cp : Option Nat), 1 ≤ n → n + m = 15 → FInv a0 n a out → ∃ (out' : Facs p) (cp' : Option Nat) (e : Env), FEnd a0 out' ∧ ((∃ x y, e = [(0, (.d (.int .i64 p))), (1, (.d (.sl .leaf (ints .i64 x)))), (5, .sl 0 [] 0 out'.length cp'), (6, (.d (.int .i64 y))), (14, (.d (.bool false)))]) ∨ e = [(5, .sl 0 [] 0 out'.length cp')]) ∧
 dn O 0 (.loop Zu_L2) ⟨[(0, (.d (.int .i64 p))), (1, (.d (.sl .leaf (ints .i64 (row a))))), (5, .sl 0 [] 0 out.length cp), (6, (.d (.int .i64 n)))], [.sl false facSh (out.map facD), .hole, .hole, .hole, .hole]⟩ =
  some (.exit 0, ⟨e, [.sl false facSh (out'.map facD), .hole, .hole, .hole, .hole]⟩)
 | m, n, a, out, cp, hn, hm, h => by
  have hp := IsP.ge (p := p)
  have hp7 := IsP.le (p := p)
  have hln := h.ln
  have ha := Pol.len_pos h.ne
  have e1 := hdg (row a) (by rw [row_length]; omega)
  rw [row_length] at e1
  by_cases hl : a.len = 1
  ·have h1 : ¬ (1 : Int) < (a.len : Int) := by omega
   obtain ⟨c, hc0, rfl⟩ := unit_of_len hl
   refine ⟨out, cp, _, ⟨h.ok, ⟨c, hc0, h.eq⟩, by omega⟩, .inl ⟨row (Pol.C c), n, rfl⟩, dn_stop ?_⟩
   simp -implicitDefEqProofs [Zu_L2, dn_cond, e1, h1]
  ·have h1 : (1 : Int) < (a.len : Int) := by omega
   have w1 : IntKind.i64.wrap (2 * (n : Int)) = 2 * (n : Int) := w64 (by omega)
   have h8 : (out.length + 1) * 32 ≤ 1099511627776 := by omega
   have ht : (out.map facD).take out.length = out.map facD := List.take_of_length_le (by simp)
   have hL : (out.map facD).length = out.length := by simp
   by_cases h2 : (a.len : Int) - 1 < 2 * (n : Int)
   ·have hi := irr_of_noSmall h.ns (by omega) (by omega)
    have hr := rep_in a.ld
    have hin := inv_in p (rep a.ld)
    have e2 := hld (row a) (by rw [row_length]; omega)
    rw [ld_row] at e2
    have e3 := hinv p (rep a.ld) (by omega) (by omega) hr.1 hr.2
    have e4 := hs p (inv p (rep a.ld)) a (by omega) (by omega) (by omega)
    rw [finv_rep _ (Pol.ld_ne h.ne)] at e4
    have e4' : ask O F13 [(D.int .i64 p), (D.sl .leaf (ints .i64 (row a))), (D.int .i64 (inv p (rep a.ld)))] = some (D.sl .leaf (ints .i64 (row (mon a)))) := e4
    have o1 : (out ++ [(mon a, 1)]).map facD = out.map facD ++ [facD (mon a, 1)] := by simp
    have o2 : (out ++ [(mon a, 1)]).length = out.length + 1 := by simp
    refine ⟨out ++ [(mon a, 1)], none, _, ⟨h.ok.snoc hi.mon (mon_monic h.ne) (Nat.le_refl 1) fun x hx e => h.nd x hx (by rw [e, mon_dv h.ne]; exact .refl a), ⟨a.ld, Pol.ld_ne h.ne, ?_⟩, by rw [o2]; omega⟩, .inr rfl, dn_stop ?_⟩
    ·rw [prodF_snoc]
     show a0 = Pol.C a.ld * (prodF out * pw (mon a) 1)
     rw [pw_1, h.eq]
     conv => lhs; rw [eq_mon h.ne]
     exact ring_of [Pol.C a.ld, mon a, prodF out] rfl
    ·rw [o1, o2]
     generalize out.map facD = LD at *
     simp -implicitDefEqProofs [Zu_L2, dn_cond, e1, h1, h2, w1, e2, e3, e4', h8, ht, hL, List.replicate]
   ·cases m with
    | zero => omega
    | succ m =>
     have hl2 : (Pol.X : Fp p).len ≤ 13 := by rw [Pol.len_X]; omega
     obtain ⟨fr, g1, g2, g3⟩ := l_fac0 (O := O) hpw h.ne (by omega) (n := n) (by omega) (st := .sl 0 [] 0 out.length cp) (hp := [.sl false facSh (out.map facD), .hole, .hole, .hole, .hole]) (by simp [V.refs]) ⟨_, rfl⟩ n 0 Pol.X (Nat.zero_add _) hl2
     have hJ := JInv.init h hn (by omega) g2
     have hlj := hJ.ln
     obtain ⟨a', out', all', cp', i1, i2, i3⟩ := l_fac1 (O := O) hw hst hdg hn (by omega) (Pol.gcd (fr - Pol.X) a).len a out _ cp (Nat.le_refl _) hJ
     obtain ⟨out2, cp2, e, j1, j2, j3⟩ := l_fac2 hw hst hdg hpw hlet hc hg hld hinv hs m (n + 1) a' out' cp' (by omega) (by omega) i1
     have e2 : ask O Fm [] = some (D.sl .leaf (ints .i64 (row (Pol.X : Fp p)))) := by rw [row_X]; exact hlet
     have e3 := hc p fr Pol.X (by omega) (by omega)
     have hsl := Pol.len_sub_le (a := fr) (b := Pol.X) (n := 13) g1 hl2
     have e4 := hg p (fr - Pol.X) a (.inr h.ne) (by omega) (by omega)
     have w2 : IntKind.i64.wrap ((n : Int) + 1) = ((n + 1 : Nat) : Int) := (w64 (x := (n : Int) + 1) (by omega)).trans (by omega)
     have e0 : ((0 : Nat) : Int) = 0 := rfl
     rw [e0] at g3
     refine ⟨out2, cp2, e, j1, j2, dn_round ?_ j3⟩
     generalize out.map facD = LD at *
     simp -implicitDefEqProofs [Zu_L2, dn_cond, e1, h1, h2, w1, w2, e2, e3, e4, g3, i3]
end
theorem perm_map_ex {α β : Type} (f : α → β) {m ds : List β} (h : m.Perm ds) : ∀ l : List α, l.map f = m → ∃ l' : List α, l'.Perm l ∧ l'.map f = ds := by
 induction h with
 | nil => intro l hl; exact ⟨[], by simp at hl; subst hl; exact .refl _, rfl⟩
 | cons x h ih =>
  intro l hl
  cases l with
  | nil => simp at hl
  | cons y l =>
   simp at hl
   obtain ⟨l', p, e⟩ := ih l hl.2
   exact ⟨y :: l', p.cons y, by simp [e, hl.1]⟩
 | swap x y s =>
  intro l hl
  cases l with
  | nil => simp at hl
  | cons a l =>
   cases l with
   | nil => simp at hl
   | cons b l =>
    simp at hl
    exact ⟨b :: a :: l, List.Perm.swap a b l, by simp [hl]⟩
 | trans _ _ ih1 ih2 =>
  intro l hl
  obtain ⟨l', p, e⟩ := ih1 l hl
  obtain ⟨l'', p2, e2⟩ := ih2 l' e
  exact ⟨l'', p2.trans p, e2⟩
section
variable {p : Int} [IsP p]
theorem vl_cmp : ∀ (n : Nat) {l m : List Int}, Can p l → Can p m → l.length = n → m.length = n → cmpL l m n = cmpI (vl p l) (vl p m) := by
 have hp := IsP.pos (p := p)
 -- the value of the first coefficients
 have key : ∀ (k : Nat) (l : List Int), Can p l → k ≤ l.length → vl p (l.take k) + (if k < l.length then p ^ k * cf l k else 0) = vl p (l.take (k + 1)) ∧ 0 ≤ vl p (l.take k) ∧ vl p (l.take k) < p ^ k := by
  intro k l hl hk
  have hin := vl_in (p := p) (l := l.take k) fun x hx => hl x (List.mem_of_mem_take hx)
  rw [List.length_take, Nat.min_eq_left hk] at hin
  refine ⟨?_, hin⟩
  have app : ∀ (a b : List Int), vl p (a ++ b) = vl p a + p ^ a.length * vl p b := by
   intro a
   induction a with
   | nil => intro b; simp [vl]
   | cons x a ih =>
    intro b
    rw [List.cons_append, vl, ih, vl, List.length_cons, Int.pow_succ, Int.mul_add, Int.mul_comm (p ^ a.length) p, Int.mul_assoc, Int.add_assoc]
  by_cases hlt : k < l.length
  ·rw [if_pos hlt, ← take_succ_set hlt, app, List.length_take, Nat.min_eq_left hk, cf_lt hlt]
   simp [vl]
  ·rw [if_neg hlt, List.take_of_length_le (by omega), List.take_of_length_le (by omega), Int.add_zero]
 intro n l m hl hm hln hmn
 have main : ∀ k, k ≤ n → cmpL l m k = cmpI (vl p (l.take k)) (vl p (m.take k)) := by
  intro k
  induction k with
  | zero => intro _; simp [cmpL, cmpI, vl]
  | succ k ih =>
   intro hk
   obtain ⟨a1, a2, a3⟩ := key k l hl (by omega)
   obtain ⟨b1, b2, b3⟩ := key k m hm (by omega)
   rw [if_pos (by omega)] at a1 b1
   rw [← a1, ← b1, cmpL, ih (by omega)]
   have hpk := ppow_pos (p := p) k
   generalize vl p (l.take k) = u at *
   generalize vl p (m.take k) = v at *
   generalize cf l k = c at *
   generalize cf m k = d at *
   have mono : ∀ x y : Int, x < y → p ^ k * x + p ^ k ≤ p ^ k * y := fun x y h => by
    have := Int.mul_le_mul_of_nonneg_left (show x + 1 ≤ y by omega) (Int.le_of_lt hpk)
    rwa [Int.mul_add, Int.mul_one] at this
   rcases Int.lt_trichotomy c d with h | h | h
   ·have := mono c d h
    have e : cmpI c d = -1 := if_pos h
    rw [e, if_pos (by omega)]
    exact (if_pos (by omega)).symm
   ·subst h
    have e : cmpI c c = 0 := by unfold cmpI; rw [if_neg (by omega), if_neg (by omega)]
    rw [e, if_neg (fun h => h rfl)]
    unfold cmpI
    by_cases h1 : u < v
    ·rw [if_pos h1, if_pos (by omega)]
    ·rw [if_neg h1]
     by_cases h2 : v < u
     ·rw [if_pos h2, if_neg (by omega), if_pos (by omega)]
     ·rw [if_neg h2, if_neg (by omega), if_neg (by omega)]
   ·have := mono d c h
    have e : cmpI c d = 1 := by unfold cmpI; rw [if_neg (by omega), if_pos h]
    rw [e, if_pos (by omega)]
    unfold cmpI
    rw [if_neg (by omega), if_pos (by omega)]
 have := main n (Nat.le_refl n)
 rwa [List.take_of_length_le (by omega), List.take_of_length_le (by omega)] at this
theorem cmpR_row (a b : Fp p) : cmpR (row a) (row b) = cmpI (numOf a) (numOf b) := by
 unfold cmpR
 rw [row_length, row_length]
 rcases Nat.lt_trichotomy a.len b.len with h | h | h
 ·have := numOf_len h
  have e : cmpI (a.len : Int) b.len = -1 := if_pos (by omega)
  rw [e, if_pos (by omega)]
  exact (if_pos this).symm
 ·have e : cmpI (a.len : Int) b.len = 0 := by unfold cmpI; rw [if_neg (by omega), if_neg (by omega)]
  rw [e, if_neg (fun h => h rfl)]
  exact vl_cmp a.len (row_can a) (row_can b) (row_length a) (by rw [row_length, h])
 ·have := numOf_len h
  have e : cmpI (a.len : Int) b.len = 1 := by unfold cmpI; rw [if_neg (by omega), if_pos (by omega)]
  rw [e, if_pos (by omega)]
  unfold cmpI
  rw [if_neg (by omega), if_pos this]
end
def numD (p : Int) : D → Int
 | .st _ (.sl _ cs :: _) => vl p (cs.map D.num)
 | _ => 0
theorem numD_fac {p : Int} (x : Fp p × Nat) : numD p (facD x) = vl p (row x.1) := by
 show vl p ((ints .i64 (row x.1)).map D.num) = _
 unfold ints
 rw [List.map_map]
 have : (D.num ∘ D.int .i64) = id := rfl
 rw [this, List.map_id]
theorem fac_cmp {p : Int} [IsP p] (hT : T Fv = some Zv) (hc : C_compare (den T A)) {L : Facs p} (hl : ∀ x ∈ L, x.1.len ≤ 1000) : CmpOk (den T A) Fv [] [] (numD p) facSh (L.map facD) := by
 refine ⟨fun x hx => by simp at hx, fun x hx => by simp at hx, fun x hx => ?_, fun x hx => ?_, fun x hx y hy => ?_⟩
 ·obtain ⟨a, _, rfl⟩ := List.mem_map.1 hx; rfl
 ·obtain ⟨a, _, rfl⟩ := List.mem_map.1 hx; rfl
 ·obtain ⟨a, ha, rfl⟩ := List.mem_map.1 hx
  obtain ⟨b, hb, rfl⟩ := List.mem_map.1 hy
  have h1 := hl a ha
  have h2 := hl b hb
  have e := hc (row a.1) (row b.1) (by rw [row_length]; omega) (by rw [row_length]; omega)
  rw [cmpR_row] at e
  have n1 := numD_fac a
  have n2 := numD_fac b
  rw [n1, n2]
  refine ask_of hT rfl ?_
  simp -implicitDefEqProofs [Zv, Zv_B, e, numOf]
def K_factors (O : Oracle) : Prop := ∀ (p : Int) [IsP p] (a : Fp p), a ≠ 0 → a.len ≤ 13 → ∃ L : Facs p, IsFac a L ∧ L.length ≤ 12 ∧
 ask O Fu [(D.int .i64 p), (D.sl .leaf (ints .i64 (row a)))] = some (.sl facSh (L.map facD))
theorem FacOk.perm {p : Int} [IsP p] {L L' : Facs p} (h : FacOk L) (hp : L'.Perm L) : FacOk L' :=
 ⟨fun x hx => h.irr x (hp.subset hx), (hp.pairwise_iff (fun h e => h e.symm)).2 h.dis⟩
theorem prodF_perm {p : Int} {L L' : Facs p} (hp : L'.Perm L) : prodF L' = prodF L := prodL_perm (hp.map _)
theorem k_factors (hT : T Fu = some Zu) (hT1 : T Fv = some Zv) (hw : K_withDegree (den T A)) (hst : K_strip (den T A)) (hdg : C_degree (den T A)) (hpw : K_power (den T A)) (hlet : C_letter (den T A)) (hc : K_combine1 (den T A)) (hg : K_gcd (den T A)) (hld : C_lead (den T A)) (hinv : C_inverse (den T A)) (hs : K_scale (den T A)) (hcmp : C_compare (den T A)) (hsort : H_sortFunc (den T A)) : K_factors (den T A) := by
 intro p i a ha hal
 have h0 : FInv a 1 a [] := ⟨ha, (Gq.mul_one a).symm, ⟨by simp, List.Pairwise.nil⟩, by simp, noSmall_one a, by simpa using hal⟩
 obtain ⟨out, cp, e, j1, j2, j3⟩ := l_fac2 hw hst hdg hpw hlet hc hg hld hinv hs 14 1 a [] (some 0) (Nat.le_refl 1) rfl h0
 obtain ⟨c, hc0, hac⟩ := j1.eq
 have hP := prodF_monic j1.ok
 have hlen : ∀ x ∈ out, x.1.len ≤ 1000 := fun x hx => by
  have h1 : Dv x.1 a := by
   obtain ⟨r, h2, _⟩ := prodF_out j1.ok (show (x.1, x.2) ∈ out from hx)
   obtain ⟨k, hk⟩ : ∃ k, x.2 = k + 1 := ⟨x.2 - 1, by have := (j1.ok.irr x hx).2.2; omega⟩
   rw [hac, h2, hk, pw]
   exact (((Dv.refl x.1).mul_left _).mul_right _).mul_left _
  have := h1.len ha
  omega
 obtain ⟨ds, s1, s2, s3⟩ := hsort _ _ _ _ (out.map facD) cp (by simpa using j1.ln) (fac_cmp hT1 hcmp hlen)
 obtain ⟨L, p1, p2⟩ := perm_map_ex facD s1.symm out rfl
 have ok := j1.ok.perm p1
 subst p2
 have hLl : L.length = out.length := p1.length_eq
 refine ⟨L, ⟨ok, ?_, ?_⟩, by rw [hLl]; exact j1.ln, ask_of hT rfl ?_⟩
 ·have s4 : L.Pairwise fun x y => numOf x.1 ≤ numOf y.1 := by
   have := s2
   unfold Asc at this
   rw [List.pairwise_map] at this
   exact this.imp fun h => by rw [numD_fac, numD_fac] at h; exact h
  exact (s4.and ok.dis).imp fun {x y} h => by
   have h1 := h.1
   rcases Int.lt_or_eq_of_le h1 with h2 | h2
   ·exact h2
   ·exact absurd (numOf_inj h2) h.2
 ·have : a.ld = c := by
   rw [hac, Pol.ld_mul (Pol.C_ne hc0) hP.2, Pol.ld_C hc0, hP.1, Gq.mul_one]
  rw [this, prodF_perm p1]; exact hac
 ·have e0 : (([] : Facs p).length : Nat) = 0 := rfl
  have e00 : ((1 : Nat) : Int) = 1 := rfl
  rw [e0, e00, List.map_nil] at j3
  have hds : (L.map facD).length = out.length := by rw [List.length_map, hLl]
  have hol : (out.map facD).length = out.length := by simp
  have htk : (L.map facD).take out.length = L.map facD := List.take_of_length_le (by omega)
  rw [hol] at s3
  generalize L.map facD = LD at *
  generalize out.map facD = OD at *
  rcases j2 with ⟨x, y, rfl⟩ | rfl
  ·simp -implicitDefEqProofs [Zu, Zu_B, j3, s3, hds, htk, List.idxOf, List.findIdx, List.findIdx.go]
  ·simp -implicitDefEqProofs [Zu, Zu_B, j3, s3, hds, htk, List.idxOf, List.findIdx, List.findIdx.go]
end Pe


namespace Pe
open Go Gq
variable {T : Nat → Option Fn} {A : Oracle}
open Classical in
noncomputable def fac {p : Int} [IsP p] (a : Fp p) : Facs p := if h : ∃ L, IsFac a L then Classical.choose h else []
theorem fac_eq {p : Int} [IsP p] {a : Fp p} (ha : a ≠ 0) {L : Facs p} (h : IsFac a L) : fac a = L := by
 have hx : ∃ L, IsFac a L := ⟨L, h⟩
 unfold fac
 rw [dif_pos hx]
 exact IsFac.unique ha (Classical.choose_spec hx) h
def K_fac (O : Oracle) : Prop := ∀ (p : Int) [IsP p] (a : Fp p), a ≠ 0 → a.len ≤ 13 → IsFac a (fac a) ∧ (fac a).length ≤ 12 ∧
 ask O Fu [(D.int .i64 p), (D.sl .leaf (ints .i64 (row a)))] = some (.sl facSh ((fac a).map facD))
theorem k_fac {O : Oracle} (h : K_factors O) : K_fac O := fun p i a ha hl => by
 obtain ⟨L, h1, h2, h3⟩ := h p a ha hl
 rw [fac_eq ha h1]
 exact ⟨h1, h2, h3⟩
def rp (p own : Int) : Nat → Int → Int
 | 0, out => out
 | n + 1, out => rp p own n (out * own % p)
theorem rp_in {p own : Int} (hp : 0 < p) : ∀ n out, 0 ≤ out → out < p → 0 ≤ rp p own n out ∧ rp p own n out < p
 | 0, out, h1, h2 => ⟨h1, h2⟩
 | n + 1, out, h1, h2 => rp_in hp n _ (Int.emod_nonneg _ (by omega)) (Int.emod_lt_of_pos _ hp)
noncomputable def ownS (p : Int) [IsP p] (a q : Fp p) : Int := rep ((pw a ((p ^ (q.len - 1) - 1) / (p - 1)).toNat % q).c 0)
noncomputable def symL (p : Int) [IsP p] (a : Fp p) : Facs p → Int → Int
 | [], out => out
 | x :: L, out => symL p a L (rp p (ownS p a x.1) x.2 out)
noncomputable def symb (p : Int) [IsP p] (a m : Fp p) : Int := symL p a (fac m) 1
section
variable {p : Int} [IsP p]
theorem ownS_in (a q : Fp p) : 0 ≤ ownS p a q ∧ ownS p a q < p := rep_in _
theorem symL_in (a : Fp p) : ∀ (L : Facs p) (out : Int), 0 ≤ out → out < p → 0 ≤ symL p a L out ∧ symL p a L out < p
 | [], out, h1, h2 => ⟨h1, h2⟩
 | x :: L, out, h1, h2 => by
  have := rp_in (own := ownS p a x.1) (IsP.pos (p := p)) x.2 out h1 h2
  exact symL_in a L _ this.1 this.2
theorem symb_in (a m : Fp p) : 0 ≤ symb p a m ∧ symb p a m < p := symL_in a _ 1 (by omega) (by have := IsP.ge (p := p); omega)
theorem l_sym0 {O : Oracle} {own n : Int} {la ld il vi : V} (ha : la.refs = [] ∧ ld.refs = [] ∧ il.refs = [] ∧ vi.refs = []) (how : 0 ≤ own ∧ own < p) : ∀ (m : Nat) (i out : Int), i + m = n → 0 ≤ i → n < 100000 → 0 ≤ out → out < p →
 dn O 0 (.loop Z15_L0) ⟨[(0, (.d (.int .i64 p))), (1, la), (7, (.d (.int .i64 out))), (11, (.d (.int .i64 own))), (14, ld), (15, il), (16, vi), (37, (.d (.int .i64 n))), (38, (.d (.int .i64 i)))], [.hole]⟩ =
  some (.exit 2, ⟨[(0, (.d (.int .i64 p))), (1, la), (7, (.d (.int .i64 (rp p own m out)))), (11, (.d (.int .i64 own))), (14, ld), (15, il), (16, vi), (37, (.d (.int .i64 n))), (38, (.d (.int .i64 n))), (39, (.d (.bool false)))], [.hole]⟩)
 | 0, i, out, hi, h0, hn, h1, h2 => by
  obtain rfl : i = n := by omega
  exact dn_stop (by simp -implicitDefEqProofs [Z15_L0, dn_cond, rp, ha])
 | m + 1, i, out, hi, h0, hn, h1, h2 => by
  have hp := IsP.ge (p := p)
  have hp7 := IsP.le (p := p)
  have hlt : i < n := by omega
  have gm := mul_small (x := out) (y := own) (b := 10) (c := 10) (by omega) (by omega) (by omega)
  have w1 : IntKind.i64.wrap (out * own) = out * own := w64 (by omega)
  have w2 : (out * own).tmod p = out * own % p := Int.tmod_eq_emod_of_nonneg (Int.mul_nonneg h1 how.1)
  have w3 : IntKind.i64.wrap (i + 1) = i + 1 := w64 (by omega)
  have hp0 : p ≠ 0 := by omega
  refine dn_round ?_ (l_sym0 (O := O) ha how m (i + 1) (out * own % p) (by omega) (by omega) hn (Int.emod_nonneg _ (by omega)) (Int.emod_lt_of_pos _ (by omega)))
  simp -implicitDefEqProofs [Z15_L0, dn_cond, hlt, w1, w2, w3, hp0, ha]
theorem IsFac.len {m : Fp p} (hm : m ≠ 0) {L : Facs p} (h : IsFac m L) {x : Fp p × Nat} (hx : x ∈ L) : 2 ≤ x.1.len ∧ x.1.len ≤ m.len ∧ x.2 < m.len ∧ x.1 ≠ 0 := by
 obtain ⟨i1, i2, i3⟩ := h.ok.irr x hx
 obtain ⟨_, _, _, h4, _⟩ := (fac_mem hm h.ok h.eq x.1 x.2).1 hx
 have h5 := h4.len hm
 have h6 : ∀ n, n < (pw x.1 n).len := by
  intro n
  induction n with
  | zero => show 0 < (1 : Fp p).len; rw [Pol.len_one]; omega
  | succ n ih =>
   have l := Pol.len_mul (pw_ne i1.ne n) i1.ne
   have := i1.len
   rw [pw]; omega
 have h7 := h6 x.2
 have h8 : x.1.len ≤ (pw x.1 x.2).len := by
  obtain ⟨k, hk⟩ : ∃ k, x.2 = k + 1 := ⟨x.2 - 1, by omega⟩
  rw [hk, pw]
  exact (show Dv x.1 (pw x.1 k * x.1) from ⟨pw x.1 k, Gq.mul_comm _ _⟩).len (Pol.mul_ne (pw_ne i1.ne k) i1.ne)
 exact ⟨i1.len, by omega, by omega, i1.ne⟩
theorem l_sym1 {O : Oracle} (hdg : C_degree O) (hno : C_norm O) (hpw : K_power O) (hat : C_at O) {a m : Fp p} (hal : a.len < 5000) (hm : m ≠ 0) (hml : m.len ≤ 13) {L : Facs p} (hL : IsFac m L) (hLl : L.length ≤ 12) : ∀ (k i : Nat) (out : Int), i + k = L.length → 0 ≤ out → out < p →
 dn O 0 (.loop Z15_L1) ⟨[(0, (.d (.int .i64 p))), (1, (.d (.sl .leaf (ints .i64 (row a))))), (7, (.d (.int .i64 out))), (14, .d (.sl facSh (L.map facD))), (15, (.d (.int .i64 L.length))), (16, (.d (.int .i64 i)))], [.hole]⟩ =
  some (.exit 0, ⟨[(0, (.d (.int .i64 p))), (1, (.d (.sl .leaf (ints .i64 (row a))))), (7, (.d (.int .i64 (symL p a (L.drop i) out)))), (14, .d (.sl facSh (L.map facD))), (15, (.d (.int .i64 L.length))), (16, (.d (.int .i64 L.length))), (17, (.d (.bool false)))], [.hole]⟩)
 | 0, i, out, hi, h1, h2 => by
  obtain rfl : i = L.length := by omega
  rw [List.drop_length]
  exact dn_stop (by simp -implicitDefEqProofs [Z15_L1, dn_cond, symL])
 | k + 1, i, out, hi, h1, h2 => by
  have hp := IsP.ge (p := p)
  have hp7 := IsP.le (p := p)
  have hlt : i < L.length := by omega
  have hx : L[i]? = some L[i] := List.getElem?_eq_getElem hlt
  obtain ⟨q1, q2, q3, q4⟩ := hL.len hm (List.getElem_mem hlt)
  rw [List.drop_eq_getElem_cons hlt, symL]
  generalize hxe : L[i] = x at *
  have e1 := hdg (row x.1) (by rw [row_length]; omega)
  rw [row_length] at e1
  have hd : ((x.1.len : Int) - 1) = ((x.1.len - 1 : Nat) : Int) := by omega
  rw [hd] at e1
  have hb := ppow_le (p := p) (n := x.1.len - 1) (by omega)
  have hpos := ppow_pos (p := p) (x.1.len - 1)
  have e2 := hno p (x.1.len - 1) 1152921504606846976 (by omega) (by omega)
  rw [normL_eq _ 1 (by omega) (by omega), Int.one_mul] at e2
  have w1 : IntKind.i64.wrap (p ^ (x.1.len - 1) - 1) = p ^ (x.1.len - 1) - 1 := w64 (by omega)
  have w2 : IntKind.i64.wrap (p - 1) = p - 1 := w64 (by omega)
  have hdiv0 : 0 ≤ (p ^ (x.1.len - 1) - 1) / (p - 1) := Int.ediv_nonneg (by omega) (by omega)
  have hdiv1 : (p ^ (x.1.len - 1) - 1) / (p - 1) ≤ p ^ (x.1.len - 1) - 1 := Int.ediv_le_self _ (by omega)
  have w3 : IntKind.i64.wrap ((p ^ (x.1.len - 1) - 1).tdiv (p - 1)) = (p ^ (x.1.len - 1) - 1) / (p - 1) := by
   rw [Int.tdiv_eq_ediv_of_nonneg (by omega), w64 (by omega)]
  have hp1 : p - 1 ≠ 0 := by omega
  have e3 := hpw p a ((p ^ (x.1.len - 1) - 1) / (p - 1)) x.1 q4 hal (by omega) hdiv0 (by omega)
  have e4 := hat (row (pw a ((p ^ (x.1.len - 1) - 1) / (p - 1)).toNat % x.1)) 0 (by omega)
  rw [row_cf] at e4
  have e4' : ask O F19 [(D.sl .leaf (ints .i64 (row (pw a ((p ^ (x.1.len - 1) - 1) / (p - 1)).toNat % x.1)))), (D.int .i64 0)] = some (D.int .i64 (ownS p a x.1)) := e4
  have e5 := l_sym0 (O := O) (own := ownS p a x.1) (n := (x.2 : Int)) (la := (.d (.sl .leaf (ints .i64 (row a))))) (ld := .d (.sl facSh (L.map facD))) (il := (.d (.int .i64 L.length))) (vi := (.d (.int .i64 i))) ⟨rfl, rfl, rfl, rfl⟩ (ownS_in a x.1) x.2 0 out (by omega) (by omega) (by omega) h1 h2
  have hrp := rp_in (own := ownS p a x.1) (by omega : 0 < p) x.2 out h1 h2
  have w4 : IntKind.i64.wrap ((i : Int) + 1) = ((i + 1 : Nat) : Int) := (w64 (x := (i : Int) + 1) (by omega)).trans (by omega)
  have ih := l_sym1 (O := O) hdg hno hpw hat hal hm hml hL hLl k (i + 1) (rp p (ownS p a x.1) x.2 out) (by omega) hrp.1 hrp.2
  refine dn_round ?_ ih
  generalize (pw a ((p ^ (x.1.len - 1) - 1) / (p - 1)).toNat % x.1) = y at *
  generalize x.1.len - 1 = d at *
  simp -implicitDefEqProofs [Z15_L1, dn_cond, hlt, hxe, e1, e2, w1, w2, w3, hp1, e3, e4', e5, w4]
end
def K_symbol (O : Oracle) : Prop := ∀ (p : Int) [IsP p] (a m : Fp p), m ≠ 0 → m.len ≤ 13 → a.len < 5000 → ask O F15 [(D.int .i64 p), (D.sl .leaf (ints .i64 (row a))), (D.sl .leaf (ints .i64 (row m)))] = some (D.int .i64 (symb p a m))
theorem k_symbol (hT : T F15 = some Z15) (hf : K_fac (den T A)) (hdg : C_degree (den T A)) (hno : C_norm (den T A)) (hpw : K_power (den T A)) (hat : C_at (den T A)) : K_symbol (den T A) := by
 intro p i a m hm hml hal
 obtain ⟨f1, f2, f3⟩ := hf p m hm hml
 have e := l_sym1 hdg hno hpw hat hal hm hml f1 f2 (fac m).length 0 1 (Nat.zero_add _) (by omega) (by have := IsP.ge (p := p); omega)
 have e0 : ((0 : Nat) : Int) = 0 := rfl
 rw [e0, List.drop_zero] at e
 have hl : ((fac m).map facD).length = (fac m).length := by simp
 refine ask_of hT rfl ?_
 unfold symb
 generalize (fac m).map facD = LD at *
 simp -implicitDefEqProofs [Z15, Z15_B, f3, e, hl]
end Pe

namespace Gq
def Pr (l : Nat) : Prop := 2 ≤ l ∧ ∀ d, d ∣ l → d = 1 ∨ d = l
theorem Pr.coprime {l n : Nat} (h : Pr l) (hn : ¬ l ∣ n) : Nat.Coprime l n := by
 rcases h.2 _ (Nat.gcd_dvd_left l n) with h1 | h1
 ·exact h1
 ·exact absurd (h1 ▸ Nat.gcd_dvd_right l n) hn
theorem pr_ex : ∀ (n : Nat), 2 ≤ n → ∃ l, Pr l ∧ l ∣ n := by
 intro n
 induction n using Nat.strongRecOn with
 | ind n ih =>
  intro hn
  by_cases h : Pr n
  ·exact ⟨n, h, Nat.dvd_refl n⟩
  ·have : ∃ d, d ∣ n ∧ d ≠ 1 ∧ d ≠ n := by
    apply Classical.byContradiction
    intro hno
    refine h ⟨hn, fun d hd => ?_⟩
    apply Classical.byContradiction
    intro h2
    exact hno ⟨d, hd, fun e => h2 (.inl e), fun e => h2 (.inr e)⟩
   obtain ⟨d, hd, h1, h2⟩ := this
   have hle := Nat.le_of_dvd (by omega) hd
   have h0 : d ≠ 0 := fun e => by
    rw [e] at hd
    have := Nat.eq_zero_of_zero_dvd hd
    omega
   obtain ⟨l, hl, hld⟩ := ih d (by omega) (by omega)
   exact ⟨l, hl, Nat.dvd_trans hld hd⟩
theorem Pr.dvd_mul {l a b : Nat} (h : Pr l) (hd : l ∣ a * b) : l ∣ a ∨ l ∣ b := by
 by_cases ha : l ∣ a
 ·exact .inl ha
 ·exact .inr ((h.coprime ha).dvd_of_dvd_mul_left hd)
theorem Pr.dvd_pr {l q : Nat} (h : Pr l) (hq : Pr q) (hd : l ∣ q) : l = q := by
 rcases hq.2 l hd with h1 | h1
 ·have := h.1; omega
 ·exact h1
theorem one_of {n : Nat} (h0 : 1 ≤ n) (h : ∀ l, Pr l → ¬ l ∣ n) : n = 1 := by
 apply Classical.byContradiction
 intro h1
 obtain ⟨l, hl, hd⟩ := pr_ex n (by omega)
 exact h l hl hd
section
variable {R : Type} [CR R]
theorem pw_dvd {x : R} {n k : Nat} (h : pw x n = 1) (hd : n ∣ k) : pw x k = 1 := by
 obtain ⟨c, rfl⟩ := hd
 rw [← pw_pw, h, pw_one]
def Ord (x : R) (n : Nat) : Prop := ∀ k, pw x k = 1 ↔ n ∣ k
theorem Ord.self {x : R} {n : Nat} (h : Ord x n) : pw x n = 1 := (h n).2 (Nat.dvd_refl n)
theorem Ord.unique {x : R} {n m : Nat} (h : Ord x n) (h' : Ord x m) : n = m := Nat.dvd_antisymm ((h m).1 h'.self) ((h' n).1 h.self)
theorem Ord.mul {a b : R} {m n : Nat} (ha : Ord a m) (hb : Ord b n) (h : Nat.Coprime m n) : Ord (a * b) (m * n) := fun k => by
 constructor
 ·intro hk
  have h1 : m ∣ k := by
   have e : pw a (k * n) = 1 := by
    have e1 : pw (a * b) (k * n) = 1 := by rw [← pw_pw, hk, pw_one]
    rw [pw_mul, pw_dvd hb.self (Nat.dvd_mul_left n k), mul_one] at e1
    exact e1
   exact h.dvd_of_dvd_mul_right ((ha _).1 e)
  have h2 : n ∣ k := by
   have e : pw b (k * m) = 1 := by
    have e1 : pw (a * b) (k * m) = 1 := by rw [← pw_pw, hk, pw_one]
    rw [pw_mul, pw_dvd ha.self (Nat.dvd_mul_left m k), one_mul] at e1
    exact e1
   exact h.symm.dvd_of_dvd_mul_right ((hb _).1 e)
  exact h.mul_dvd_of_dvd_of_dvd h1 h2
 ·intro hd
  rw [pw_mul, pw_dvd ha.self (Nat.dvd_trans (Nat.dvd_mul_right m n) hd), pw_dvd hb.self (Nat.dvd_trans (Nat.dvd_mul_left n m) hd), mul_one]
end
structure OrdI (n q rest order : Nat) (fin : Bool) : Prop where
 dv : n ∣ order
 pos : 1 ≤ order
 low : ∀ l, Pr l → l < q → ¬ l * n ∣ order ∧ ¬ l ∣ rest
 rel : ∃ c, order = rest * c ∧ (∀ l, Pr l → q < l → ¬ l ∣ c) ∧ (fin = false → Pr q → ¬ q ∣ c)
 fin : fin = true → ¬ q * n ∣ order
theorem OrdI.rest_pos {n q rest order : Nat} {f : Bool} (h : OrdI n q rest order f) : 1 ≤ rest := by
 obtain ⟨c, e, -⟩ := h.rel
 have := h.pos
 rcases Nat.eq_zero_or_pos rest with h0 | h0
 ·rw [h0, Nat.zero_mul] at e; omega
 ·exact h0
theorem OrdI.init {n N : Nat} (hN : 1 ≤ N) (h : n ∣ N) : OrdI n 2 N N false where
 dv := h
 pos := hN
 low := fun l hl h2 => by have := hl.1; omega
 rel := ⟨1, (Nat.mul_one N).symm, fun l hl _ hd => by have := hl.1; have := Nat.le_of_dvd (by omega) hd; omega, fun _ hq hd => by have := hq.1; have := Nat.le_of_dvd (by omega) hd; omega⟩
 fin := fun h => by cases h
theorem OrdI.prime {n q rest order : Nat} {f : Bool} (h : OrdI n q rest order f) (h2 : 2 ≤ q) (hd : q ∣ rest) : Pr q := by
 obtain ⟨l, hl, hlq⟩ := pr_ex q h2
 rcases Nat.lt_or_ge l q with h1 | h1
 ·exact absurd (Nat.dvd_trans hlq hd) (h.low l hl h1).2
 ·have := Nat.le_of_dvd (by omega) hlq
  obtain rfl : l = q := by omega
  exact hl
theorem OrdI.no {n q r c' : Nat} {f : Bool} (h : OrdI n q (q * r) (q * c') f) (h2 : 2 ≤ q) (hd : ¬ n ∣ c') : OrdI n q r (q * c') true where
 dv := h.dv
 pos := h.pos
 low := fun l hl h1 => by
  obtain ⟨a, b⟩ := h.low l hl h1
  exact ⟨a, fun e => b (Nat.dvd_trans e (Nat.dvd_mul_left r q))⟩
 rel := by
  have hq := h.prime h2 (Nat.dvd_mul_right q r)
  obtain ⟨c, e, h3, _⟩ := h.rel
  refine ⟨q * c, by rw [e, Nat.mul_assoc, Nat.mul_left_comm], fun l hl h4 hl2 => ?_, fun hf => by cases hf⟩
  rcases hl.dvd_mul hl2 with h5 | h5
  ·have := hl.dvd_pr hq h5; omega
  ·exact h3 l hl h4 h5
 fin := fun _ e => hd (Nat.dvd_of_mul_dvd_mul_left (by omega) e)
theorem OrdI.next {n q rest order : Nat} {f : Bool} (h : OrdI n q rest order f) (h2 : 2 ≤ q) (hd : ¬ q ∣ rest) : OrdI n (q + 1) rest order false where
 dv := h.dv
 pos := h.pos
 low := fun l hl h1 => by
  rcases Nat.lt_or_ge l q with h3 | h3
  ·exact h.low l hl h3
  ·obtain rfl : l = q := by omega
   refine ⟨fun e => ?_, hd⟩
   cases f with
   | true => exact h.fin rfl e
   | false =>
    obtain ⟨c, e1, _, h5⟩ := h.rel
    have : l ∣ rest * c := e1 ▸ Nat.dvd_trans (Nat.dvd_mul_right l n) e
    rcases hl.dvd_mul this with h6 | h6
    ·exact hd h6
    ·exact h5 rfl hl h6
 rel := by
  obtain ⟨c, e1, h4, _⟩ := h.rel
  exact ⟨c, e1, fun l hl h5 => h4 l hl (by omega), fun _ hq => h4 _ hq (by omega)⟩
 fin := fun hf => by cases hf
theorem OrdI.done {n q rest order : Nat} (h : OrdI n q rest order false) (hq : rest < q) : order = n := by
 have hr : rest = 1 := one_of h.rest_pos fun l hl hd => by
  have := Nat.le_of_dvd h.rest_pos hd
  exact (h.low l hl (by omega)).2 hd
 obtain ⟨c, e1, h4, h5⟩ := h.rel
 rw [hr, Nat.one_mul] at e1
 obtain ⟨k, hk⟩ := h.dv
 have hk1 : k = 1 := one_of (by
  have := h.pos
  rcases Nat.eq_zero_or_pos k with h0 | h0
  ·rw [h0, Nat.mul_zero] at hk; omega
  ·exact h0) fun l hl hd => by
  have hln : l * n ∣ order := by
   rw [hk, Nat.mul_comm l n]; exact Nat.mul_dvd_mul_left n hd
  rcases Nat.lt_or_ge l q with h6 | h6
  ·exact (h.low l hl h6).1 hln
  ·have hlc : l ∣ c := e1 ▸ Nat.dvd_trans (Nat.dvd_mul_right l n) hln
   rcases Nat.lt_or_ge q l with h7 | h7
   ·exact h4 l hl h7 hlc
   ·obtain rfl : l = q := by omega
    exact h5 rfl hl hlc
 rw [hk, hk1, Nat.mul_one]
end Gq

namespace Pe
open Go Gq
section
variable {p : Int} [IsP p]
noncomputable def frW (m : Fp p) (k : Nat) : Fp p := pw Pol.X (p.toNat ^ k) % m - Pol.X
theorem frW_dv {m q : Fp p} (_hm : m ≠ 0) (hq : Dv q m) (k : Nat) : Dv q (frW m k) ↔ Dv q (frT p k) := by
 have h1 : frT p k = frW m k + pw Pol.X (p.toNat ^ k) / m * m := by
  have h := Pol.div_mod (pw Pol.X (p.toNat ^ k)) m
  show pw Pol.X (p.toNat ^ k) - Pol.X = pw Pol.X (p.toNat ^ k) % m - Pol.X + pw Pol.X (p.toNat ^ k) / m * m
  generalize pw Pol.X (p.toNat ^ k) % m = R at *
  generalize pw Pol.X (p.toNat ^ k) / m = Q at *
  rw [h]
  exact ring_of [Q, m, R, Pol.X] rfl
 have h2 : Dv q (pw Pol.X (p.toNat ^ k) / m * m) := hq.mul_left _
 constructor
 ·intro h; rw [h1]; exact h.add h2
 ·intro h
  have := h.sub h2
  rw [h1] at this
  have e : frW m k + pw Pol.X (p.toNat ^ k) / m * m - pw Pol.X (p.toNat ^ k) / m * m = frW m k := ring_of [frW m k, pw Pol.X (p.toNat ^ k) / m, m] rfl
  rwa [e] at this
theorem irr_test {m : Fp p} (h2 : 2 ≤ m.len) (h13 : m.len ≤ 13) : (∀ k, 1 ≤ k → 2 * k ≤ m.len - 1 → (Pol.gcd m (frW m k)).len = 1) ↔ Irr m := by
 have hm : m ≠ 0 := fun h => by rw [h, Pol.len_zero] at h2; omega
 have small : ∀ d, d ≤ 12 → p ^ d < 1000000000000 := fun d hd => by
  have h1 := ipow_mono (p := p) (by have := IsP.pos (p := p); omega) hd
  have h7 := ppow_le (p := p) (n := 12) (by omega)
  omega
 constructor
 ·intro h
  refine irr_of_noSmall (n := (m.len - 1) / 2 + 1) (fun q hq hd => ?_) h2 (by omega)
  rcases Nat.lt_or_ge ((m.len - 1) / 2 + 1) q.len with g | g
  ·omega
  ·exfalso
   have hl := hq.len
   have h1 := h (q.len - 1) (by omega) (by omega)
   have h3 : Dv q (frT p (q.len - 1)) := irr_frT hq (by omega) (small _ (by omega))
   have h4 := Pol.dv_gcd (.inl hm) hd ((frW_dv hm hd _).2 h3)
   have h5 := h4.len (fun h0 => by rw [h0, Pol.len_zero] at h1; omega)
   omega
 ·intro hi k hk hk2
  by_cases hd : Dv m (frW m k)
  ·have h3 := (frW_dv hm (Dv.refl m) k).1 hd
   have := irr_frT_le hi (d := m.len - 1) (by omega) (small _ (by omega)) hk h3
   omega
  ·obtain ⟨u, v, e⟩ := hi.coprime hd
   have h1 := Pol.gcd_dv_left (a := m) (b := frW m k) (.inl hm)
   have h3 := Pol.gcd_dv_right (a := m) (b := frW m k) (.inl hm)
   have h4 : Dv (Pol.gcd m (frW m k)) 1 := by
    rw [← e]
    exact (h1.mul_left u).add (h3.mul_left v)
   have h5 := h4.len Pol.one_ne
   rw [Pol.len_one] at h5
   have h6 := Pol.len_pos (Pol.gcd_monic (a := m) (b := frW m k) (.inl hm)).2
   omega
end
end Pe

namespace Pe
open Gq
section
variable {p : Int}
def IsPrim (m : Fp p) (k : Nat) : Prop := 1 ≤ k ∧ (k : Int) < p ^ (m.len - 1) ∧ Ord (Quo.mk m (numP p k)) (p.toNat ^ (m.len - 1) - 1) ∧ ∀ j : Nat, 1 ≤ j → j < k → ¬ Ord (Quo.mk m (numP p j)) (p.toNat ^ (m.len - 1) - 1)
theorem IsPrim.unique {m : Fp p} {j k : Nat} (hj : IsPrim m j) (hk : IsPrim m k) : j = k := by
 rcases Nat.lt_or_ge j k with h | h
 ·exact absurd hj.2.2.1 (hk.2.2.2 j hj.1 h)
 ·rcases Nat.lt_or_ge k j with h2 | h2
  ·exact absurd hk.2.2.1 (hj.2.2.2 k hk.1 h2)
  ·omega
noncomputable def dgF : Facs p → Nat
 | [] => 0
 | x :: L => x.2 * (x.1.len - 1) + dgF L
theorem pw_len [IsP p] {q : Fp p} (h : Monic q) : ∀ k, (pw q k).len = k * (q.len - 1) + 1
 | 0 => by rw [Nat.zero_mul]; exact Pol.len_one
 | k + 1 => by
  have h1 := Pol.len_mul (Monic.pw h k).2 h.2
  have h2 := pw_len h k
  have h3 := Pol.len_pos h.2
  show (pw q k * q).len = _
  rw [Nat.succ_mul]; omega
theorem dgF_len [IsP p] : ∀ {L : Facs p}, FacOk L → (prodF L).len = dgF L + 1
 | [], _ => Pol.len_one
 | x :: L, h => by
  have hm := (h.irr x (by simp)).2.1
  have ht : FacOk L := ⟨fun y hy => h.irr y (by simp [hy]), h.dis.tail⟩
  have h1 := dgF_len ht
  have h2 := Pol.len_mul (Monic.pw hm x.2).2 (prodF_monic ht).2
  rw [pw_len hm] at h2
  rw [prodF_cons, dgF]; omega
end
end Pe

namespace Pe
open Go Gq
variable {T : Nat → Option Fn} {A : Oracle}
theorem isP_of {p : Int} (h : isP p = true) : IsP p := ⟨by unfold isP at h; simpa using h⟩
theorem isP_true {p : Int} [h : IsP p] : isP p = true := by unfold isP; exact decide_eq_true h.h
theorem isPl_row {p : Int} [IsP p] {a : Fp p} : isPl p (pad (row a)) = true := by
 unfold isPl
 rw [List.all_eq_true]
 intro x hx
 obtain ⟨i, _, rfl⟩ := List.mem_map.1 hx
 have := (row_can a).le IsP.pos i
 simpa using this.2
theorem row_of_isPl {p : Int} [IsP p] {l : List Int} (hb : Bytes l) (hl : l.length = 64) (h : isPl p l = true) : ∃ a : Fp p, a.len ≤ 64 ∧ l = pad (row a) := by
 have hc : Can p l := fun x hx => ⟨(hb x hx).1, by
  unfold isPl at h
  rw [List.all_eq_true] at h
  simpa using h x hx⟩
 refine ⟨polOf p l, Nat.le_trans (Pol.len_le (polOf_lt l)) (by omega), ?_⟩
 rw [← trim_polOf hc]
 symm
 apply pad_eq hl
 intro i hi
 rw [trim_polOf hc, row_cf, polOf_c, rep_zp (hc.le IsP.pos i)]
inductive Arg1 (p : Int) (l : List Int) : Prop
 | bad (h : codeP p [l] = 1) (h2 : isP p = true → isPl p l = false)
 | good (ip : IsP p) (a : Fp p) (hl : a.len ≤ 64) (e : l = pad (row a))
theorem arg1 (p : Int) {l : List Int} (hb : Bytes l) (hl : l.length = 64) : Arg1 p l := by
 by_cases h1 : isP p = true
 ·by_cases h2 : isPl p l = true
  ·have ip := isP_of h1
   obtain ⟨a, g1, g2⟩ := row_of_isPl hb hl h2
   exact .good ip a g1 g2
  ·refine .bad (by simp [codeP, h2]) fun _ => by simpa using h2
 ·exact .bad (by simp [codeP, h1]) fun h => absurd h h1
theorem codeP_good {p : Int} [IsP p] (ls : List (Fp p)) : codeP p (ls.map fun a => pad (row a)) = 0 := by
 unfold codeP
 rw [if_pos]
 refine ⟨isP_true, ?_⟩
 rw [List.all_map, List.all_eq_true]
 intro a _
 exact isPl_row
theorem codeP_one {p : Int} [IsP p] (a : Fp p) : codeP p [pad (row a)] = 0 := codeP_good [a]
theorem rep_one_iff {p : Int} [IsP p] (x : Zp p) : rep x = 1 ↔ x = 1 := ⟨fun h => rep_inj (by rw [h, rep_one]), fun h => by rw [h, rep_one]⟩
theorem monic_iff {p : Int} [IsP p] (a : Fp p) : Monic a ↔ a.ld = 1 := ⟨fun h => h.1, fun h => ⟨h, fun h0 => by
 rw [h0] at h
 have : (0 : Fp p).ld = 0 := rfl
 rw [this] at h
 exact Fd.one_ne h.symm⟩⟩
end Pe

namespace Pe
open Go Gq
variable {T : Nat → Option Fn} {A : Oracle}
theorem tlen_row {p : Int} {l : List Int} {f : Fp p} (h : ∀ i, cf l i = rep (f.c i)) : tlen l l.length = f.len := by
 have e := congrArg List.length (trim_row h)
 rw [row_length] at e
 unfold trim at e
 rw [List.length_take] at e
 have := tlen_le l l.length
 omega
theorem l_sDeg {O : Oracle} {l : List Int} (hl : l.length = 64) : ∀ n : Nat, n ≤ 64 →
 dn O 0 (.loop Z2j_L0) ⟨[(1, .ptr 0 []), (3, (.d (.int .i64 ((n : Int) - 1))))], [.box false (D.arr 64 .leaf (ints .u8 l))]⟩ =
  some (.exit 0, ⟨[(1, .ptr 0 []), (3, (.d (.int .i64 ((tlen l n : Int) - 1)))), (11, (.d (.bool false)))], [.box false (D.arr 64 .leaf (ints .u8 l))]⟩)
 | 0, _ => dn_stop (by simp -implicitDefEqProofs [Z2j_L0, dn_cond, tlen])
 | n + 1, hn => by
  have hlt : n < l.length := by omega
  have hn64 : n < 64 := by omega
  have hx : l[n] = cf l n := (cf_lt hlt).symm
  have t0 : (((n + 1 : Nat) : Int) - 1) = (n : Int) := by omega
  rw [t0]
  have w1 : IntKind.i64.wrap ((n : Int) - 1) = (n : Int) - 1 := w64 (by omega)
  by_cases h0 : cf l n = 0
  ·have e : tlen l (n + 1) = tlen l n := by simp [tlen, h0]
   rw [e]
   refine dn_round ?_ (l_sDeg hl n (by omega))
   simp -implicitDefEqProofs [Z2j_L0, dn_cond, hlt, hn64, hx, h0, w1]
  ·have e : tlen l (n + 1) = n + 1 := by simp [tlen, h0]
   rw [e, t0]
   refine dn_stop ?_
   simp -implicitDefEqProofs [Z2j_L0, dn_cond, hlt, hn64, hx, h0]
def C_sDeg (O : Oracle) : Prop := ∀ l : List Int, l.length = 64 → ask O F2j [(D.arr 64 .leaf (ints .u8 l))] = some (D.int .i64 ((tlen l 64 : Int) - 1))
theorem c_sDeg (hT : T F2j = some Z2j) : C_sDeg (den T A) := by
 intro l hl
 have e := l_sDeg (O := den T A) hl 64 (Nat.le_refl _)
 have e0 : ((64 : Nat) : Int) - 1 = 63 := rfl
 rw [e0] at e
 refine ask_of hT rfl ?_
 simp -implicitDefEqProofs [Z2j, Z2j_B, e]
def K_sDeg (O : Oracle) : Prop := ∀ (p : Int) [IsP p] (a : Fp p), a.len ≤ 64 → ask O F2j [(D.arr 64 .leaf (ints .u8 (pad (row a))))] = some (D.int .i64 ((a.len : Int) - 1))
theorem k_sDeg {O : Oracle} (h : C_sDeg O) : K_sDeg O := fun p i a hl => by
 have e := tlen_row (f := a) (l := pad (row a)) fun i => by rw [pad_cf (by rw [row_length]; exact hl), row_cf]
 rw [pad_length] at e
 rw [h _ (pad_length _), e]
def C_sIn (O : Oracle) : Prop := ∀ n a b : Int, ask O F2q [(D.int .i64 n), (D.int .i64 a), (D.int .i64 b)] = some (D.bool (decide (a ≤ n ∧ n ≤ b)))
theorem c_sIn (hT : T F2q = some Z2q) : C_sIn (den T A) := by
 intro n a b
 refine ask_of hT rfl ?_
 by_cases h : a ≤ n <;> simp -implicitDefEqProofs [Z2q, Z2q_B, h]
def C_sPrime (O : Oracle) : Prop := ∀ p : Int, ask O F32 [(D.int .i64 p)] = some (D.bool (isP p))
theorem c_sPrime (hT : T F32 = some Z32) : C_sPrime (den T A) := by
 intro p
 refine ask_of hT rfl ?_
 by_cases h2 : p = 2
 ·simp -implicitDefEqProofs [Z32, Z32_B, h2, isP]
 ·by_cases h3 : p = 3
  ·simp -implicitDefEqProofs [Z32, Z32_B, h3, isP]
  ·by_cases h5 : p = 5
   ·simp -implicitDefEqProofs [Z32, Z32_B, h5, isP]
   ·simp -implicitDefEqProofs [Z32, Z32_B, h2, h3, h5, isP]
theorem l_sIs {O : Oracle} {p : Int} {l : List Int} (hb : Bytes l) (hl : l.length = 64) : ∀ (m i : Nat), i + m = 64 →
 dn O 0 (.loop Z2t_L0) ⟨[(0, (.d (.int .i64 p))), (3, .ptr 0 []), (5, (.d (.int .i64 i)))], [.box false (D.arr 64 .leaf (ints .u8 l))]⟩ =
  if (l.drop i).all (fun x => decide (x < p)) then some (.exit 0, ⟨[(0, (.d (.int .i64 p))), (3, .ptr 0 []), (5, (.d (.int .i64 64))), (7, (.d (.bool false)))], [.box false (D.arr 64 .leaf (ints .u8 l))]⟩) else some (.ret, ⟨[(4, (.d (.bool false)))], [.hole]⟩)
 | 0, i, hi => by
  obtain rfl : i = 64 := by omega
  rw [show l.drop 64 = [] from List.drop_eq_nil_of_le (by omega)]
  exact dn_stop (by simp -implicitDefEqProofs [Z2t_L0, dn_cond])
 | m + 1, i, hi => by
  have hlt : i < l.length := by omega
  have hi64 : i < 64 := by omega
  have hi64' : (i : Int) < 64 := by omega
  have hx : l[i] = cf l i := (cf_lt hlt).symm
  have hb' := hb _ (List.getElem_mem hlt)
  rw [hx] at hb'
  have w1 : IntKind.i64.wrap (cf l i) = cf l i := w64 (by omega)
  have w4 : IntKind.i64.wrap ((i : Int) + 1) = ((i + 1 : Nat) : Int) := (w64 (x := (i : Int) + 1) (by omega)).trans (by omega)
  rw [List.drop_eq_getElem_cons hlt, List.all_cons, hx]
  by_cases h0 : cf l i < p
  ·rw [decide_eq_true h0, Bool.true_and]
   refine dn_round ?_ (l_sIs hb hl m (i + 1) (by omega))
   have h1 : ¬ p ≤ cf l i := by omega
   simp -implicitDefEqProofs [Z2t_L0, dn_cond, hlt, hi64, hi64', hx, h1, w1, w4]
  ·rw [decide_eq_false h0, Bool.false_and]
   have h1 : p ≤ cf l i := by omega
   refine dn_back ?_
   simp -implicitDefEqProofs [Z2t_L0, dn_cond, hlt, hi64, hi64', hx, h1, w1]
def C_sIs (O : Oracle) : Prop := ∀ (p : Int) (l : List Int), Bytes l → l.length = 64 → ask O F2t [(D.int .i64 p), (D.arr 64 .leaf (ints .u8 l))] = some (D.bool (isPl p l && isP p))
theorem c_sIs (hT : T F2t = some Z2t) (hp : C_sPrime (den T A)) : C_sIs (den T A) := by
 intro p l hb hl
 have e := l_sIs (O := den T A) (p := p) hb hl 64 0 (by omega)
 have e0 : ((0 : Nat) : Int) = 0 := rfl
 rw [e0, List.drop_zero, show (l.all fun x => decide (x < p)) = isPl p l from rfl] at e
 have e1 := hp p
 refine ask_of hT rfl ?_
 by_cases h : isPl p l = true
 ·rw [if_pos h] at e
  simp -implicitDefEqProofs [Z2t, Z2t_B, e, e1, h]
 ·rw [if_neg h] at e
  simp -implicitDefEqProofs [Z2t, Z2t_B, e, h]
theorem l_sCode {O : Oracle} (hi : C_sIs O) {p : Int} (hp : isP p = true) {ls : List (List Int)} (h : Arrs ls) (hl : ls.length < 2000000) : ∀ (m i : Nat), i + m = ls.length →
 dn O 0 (.loop Z2h_L0) ⟨[(0, (.d (.int .i64 p))), (1, .d (.sl (.arr 64 .leaf) (ls.map arr8))), (5, (.d (.int .i64 i)))], []⟩ =
  if (ls.drop i).all (isPl p) then some (.exit 0, ⟨[(0, (.d (.int .i64 p))), (1, .d (.sl (.arr 64 .leaf) (ls.map arr8))), (5, (.d (.int .i64 ls.length))), (12, (.d (.bool false)))], []⟩) else some (.ret, ⟨[(4, (.d (.int .i64 1)))], []⟩)
 | 0, i, hi' => by
  obtain rfl : i = ls.length := by omega
  rw [List.drop_length]
  exact dn_stop (by simp -implicitDefEqProofs [Z2h_L0, dn_cond])
 | m + 1, i, hi' => by
  have hlt : i < ls.length := by omega
  have h1 := h _ (List.getElem_mem hlt)
  have e1 := hi p ls[i] h1.2 h1.1
  rw [hp, Bool.and_true] at e1
  have w4 : IntKind.i64.wrap ((i : Int) + 1) = ((i + 1 : Nat) : Int) := (w64 (x := (i : Int) + 1) (by omega)).trans (by omega)
  rw [List.drop_eq_getElem_cons hlt, List.all_cons]
  by_cases h0 : isPl p ls[i] = true
  ·rw [h0, Bool.true_and]
   rw [h0] at e1
   refine dn_round ?_ (l_sCode hi hp h hl m (i + 1) (by omega))
   simp -implicitDefEqProofs [Z2h_L0, dn_cond, hlt, e1, w4]
  ·rw [Bool.not_eq_true] at h0
   rw [h0, Bool.false_and]
   rw [h0] at e1
   refine dn_back ?_
   simp -implicitDefEqProofs [Z2h_L0, dn_cond, hlt, e1]
def C_sCode (O : Oracle) : Prop := ∀ (p : Int) (ls : List (List Int)), Arrs ls → ls.length < 2000000 → ask O F2h [(D.int .i64 p), .sl (.arr 64 .leaf) (ls.map arr8)] = some (D.int .i64 (codeP p ls))
theorem c_sCode (hT : T F2h = some Z2h) (hp : C_sPrime (den T A)) (hi : C_sIs (den T A)) : C_sCode (den T A) := by
 intro p ls h hl
 have e1 := hp p
 unfold codeP
 refine ask_of hT rfl ?_
 by_cases h1 : isP p = true
 ·have e := l_sCode hi h1 h hl ls.length 0 (Nat.zero_add _)
  have e0 : ((0 : Nat) : Int) = 0 := rfl
  rw [e0, List.drop_zero] at e
  by_cases h2 : ls.all (isPl p) = true
  ·rw [if_pos h2] at e
   rw [if_pos ⟨h1, h2⟩]
   simp -implicitDefEqProofs [Z2h, Z2h_B, dn_cond, e1, e, h1]
  ·rw [if_neg h2] at e
   rw [if_neg (fun h => h2 h.2)]
   simp -implicitDefEqProofs [Z2h, Z2h_B, dn_cond, e1, e, h1]
 ·rw [if_neg (fun h => h1 h.1)]
  simp -implicitDefEqProofs [Z2h, Z2h_B, dn_cond, e1, h1]
open Classical in
def K_sMonic (O : Oracle) : Prop := ∀ (p : Int) [IsP p] (a : Fp p), a.len ≤ 64 → ask O F2v [(D.arr 64 .leaf (ints .u8 (pad (row a))))] = some (D.bool (decide (Monic a)))
open Classical in
theorem k_sMonic (hT : T F2v = some Z2v) (hd : K_sDeg (den T A)) : K_sMonic (den T A) := by
 intro p i a hl
 have e1 := hd p a hl
 refine ask_of hT rfl ?_
 by_cases h0 : a = 0
 ·subst h0
  have hm : ¬ Monic (0 : Fp p) := fun h => h.2 rfl
  rw [decide_eq_false hm]
  rw [Pol.len_zero] at e1
  simp -implicitDefEqProofs [Z2v, Z2v_B, e1]
 ·have hp := Pol.len_pos h0
  have hd2 : ((a.len : Int) - 1) = ((a.len - 1 : Nat) : Int) := by omega
  rw [hd2] at e1
  have hx : (pad (row a))[a.len - 1]? = some (rep a.ld) := by rw [pad_get _ _ (by omega), row_cf]; rfl
  have h64 : a.len - 1 < 64 := by omega
  have e2 : decide (rep a.ld = 1) = decide (Monic a) := decide_eq_decide.2 (by rw [rep_one_iff, monic_iff])
  rw [← e2]
  generalize a.len - 1 = n at *
  generalize pad (row a) = L at *
  simp -implicitDefEqProofs [Z2v, Z2v_B, e1, hx, h64]
end Pe

namespace Pe
open Go Gq
variable {T : Nat → Option Fn} {A : Oracle}
def cntL (p : Int) : Nat → Int → Int
 | 0, out => out
 | n + 1, out => if out ≤ 1000000000000 then cntL p n (out * p) else out
theorem cntL_min {p : Int} [IsP p] : ∀ (n : Nat) (out : Int), 0 < out → min (cntL p n out) 1000000000001 = min (out * p ^ n) 1000000000001
 | 0, out, h => by rw [Int.pow_zero, Int.mul_one]; rfl
 | n + 1, out, h => by
  have hp := IsP.pos (p := p)
  have e : out * p ^ (n + 1) = out * p * p ^ n := by rw [Int.pow_succ, Int.mul_assoc, Int.mul_comm p]
  unfold cntL
  split
  ·rw [e, cntL_min n _ (Int.mul_pos h hp)]
  ·have h1 : 1 ≤ p ^ (n + 1) := ppow_pos (n + 1)
   have h2 : out * 1 ≤ out * p ^ (n + 1) := Int.mul_le_mul_of_nonneg_left h1 (by omega)
   omega
theorem l_sCount {O : Oracle} {p : Int} [IsP p] : ∀ (n : Nat) (out : Int), n < 1000000 → 0 < out → out ≤ 7000000000000 → ∃ n' : Int, 0 < cntL p n out ∧ cntL p n out ≤ 7000000000000 ∧
 dn O 0 (.loop Z2i_L0) ⟨[(0, (.d (.int .i64 p))), (1, (.d (.int .i64 n))), (5, (.d (.int .i64 out)))], []⟩ =
  some (.exit 0, ⟨[(0, (.d (.int .i64 p))), (1, (.d (.int .i64 n'))), (5, (.d (.int .i64 (cntL p n out)))), (11, (.d (.bool false)))], []⟩)
 | 0, out, _, h1, h2 => ⟨0, h1, h2, dn_stop (by simp -implicitDefEqProofs [Z2i_L0, dn_cond, cntL])⟩
 | n + 1, out, hn, h1, h2 => by
  have hp := IsP.pos (p := p)
  have hp7 := IsP.le (p := p)
  have h0 : (0 : Int) < (n : Int) + 1 := by omega
  by_cases h3 : out ≤ 1000000000000
  ·have hmul : 0 < out * p ∧ out * p ≤ 7000000000000 := by
    refine ⟨Int.mul_pos h1 hp, ?_⟩
    have : out * p ≤ out * 7 := Int.mul_le_mul_of_nonneg_left hp7 (by omega)
    omega
   obtain ⟨n', g1, g2, e⟩ := l_sCount (O := O) (p := p) n (out * p) (by omega) hmul.1 hmul.2
   have ec : cntL p (n + 1) out = cntL p n (out * p) := if_pos h3
   rw [ec]
   have w1 : IntKind.i64.wrap (out * p) = out * p := w64 (by omega)
   have w2 : IntKind.i64.wrap (n : Int) = n := w64 (by omega)
   refine ⟨n', g1, g2, dn_round ?_ e⟩
   simp -implicitDefEqProofs [Z2i_L0, dn_cond, h0, h3, w1, w2]
  ·have ec : cntL p (n + 1) out = out := if_neg h3
   rw [ec]
   refine ⟨((n + 1 : Nat) : Int), h1, h2, dn_stop ?_⟩
   simp -implicitDefEqProofs [Z2i_L0, dn_cond, h0, h3]
def K_sCount (O : Oracle) : Prop := ∀ (p : Int) [IsP p] (n : Nat), n < 1000000 → ask O F2i [(D.int .i64 p), (D.int .i64 n)] = some (D.int .i64 (min (p ^ n) 1000000000001))
theorem k_sCount (hT : T F2i = some Z2i) : K_sCount (den T A) := by
 intro p i n hn
 obtain ⟨n', g1, g2, e⟩ := l_sCount (O := den T A) (p := p) n 1 hn (by omega) (by omega)
 have e2 := cntL_min (p := p) n 1 (by omega)
 rw [Int.one_mul] at e2
 have e3 : (if (1000000000001 : Int) < cntL p n 1 then 1000000000001 else cntL p n 1) = min (p ^ n) 1000000000001 := by
  rw [← e2]
  split <;> omega
 refine ask_of hT rfl ?_
 simp -implicitDefEqProofs [Z2i, Z2i_B, e]
 exact e3
theorem k_sCount' {O : Oracle} (h : K_sCount O) (p : Int) [IsP p] (n : Nat) (hn : n ≤ 12) : ask O F2i [(D.int .i64 p), (D.int .i64 n)] = some (D.int .i64 (p ^ n)) := by
 have h1 := ppow_le (p := p) hn
 rw [h p n (by omega), Int.min_eq_left (by omega)]
def K_sInverse (O : Oracle) : Prop := ∀ (p : Int) [IsP p] (x : Int), 0 < x → x < p → ask O F2r [(D.int .i64 p), .int .u8 x] = some (.int .u8 (inv p x))
theorem ask_closed {F : Nat} {fn : Fn} (hT : T F = some fn) {ds : List D} {d : D} {n : Nat} (h : run (fun _ _ _ => none) n fn (ds.map .d) [] = some (.d d, [], [])) : ask (den T A) F ds = some d := by
 have h2 := den_run (A := A) hT (n := n) (vs := ds.map .d) (bs := []) (ans := (.d d, [], [])) (by
  obtain ⟨qs, h3, h4⟩ := run_rests h
  cases qs with
  | nil => exact h4 _ (by intro q hq; simp at hq)
  | cons q qs => exact absurd (h3 q (by simp)) (by simp))
 unfold ask
 rw [h2]
 simp
theorem k_sInverse (hT : T F2r = some Z2r) : K_sInverse (den T A) := by
 intro p ip x h0 h1
 rcases ip.h with rfl | rfl | rfl | rfl
 ·obtain rfl : x = 1 := by omega
  exact ask_closed hT (n := 10) (by kernel_rfl)
 ·have : x = 1 ∨ x = 2 := by omega
  rcases this with rfl | rfl
  ·exact ask_closed hT (n := 10) (by kernel_rfl)
  ·exact ask_closed hT (n := 10) (by kernel_rfl)
 ·have : x = 1 ∨ x = 2 ∨ x = 3 ∨ x = 4 := by omega
  rcases this with rfl | rfl | rfl | rfl
  ·exact ask_closed hT (n := 10) (by kernel_rfl)
  ·exact ask_closed hT (n := 10) (by kernel_rfl)
  ·exact ask_closed hT (n := 10) (by kernel_rfl)
  ·exact ask_closed hT (n := 10) (by kernel_rfl)
 ·have : x = 1 ∨ x = 2 ∨ x = 3 ∨ x = 4 ∨ x = 5 ∨ x = 6 := by omega
  rcases this with rfl | rfl | rfl | rfl | rfl | rfl
  ·exact ask_closed hT (n := 10) (by kernel_rfl)
  ·exact ask_closed hT (n := 10) (by kernel_rfl)
  ·exact ask_closed hT (n := 10) (by kernel_rfl)
  ·exact ask_closed hT (n := 10) (by kernel_rfl)
  ·exact ask_closed hT (n := 10) (by kernel_rfl)
  ·exact ask_closed hT (n := 10) (by kernel_rfl)
theorem pad_of {p : Int} [IsP p] {l : List Int} (h : Can p l) (hl : l.length = 64) : l = pad (row (polOf p l)) := by
 rw [← trim_polOf h]
 symm
 apply pad_eq hl
 intro i hi
 rw [trim_polOf h, row_cf, polOf_c, rep_zp (h.le IsP.pos i)]
theorem pad_can {p : Int} [IsP p] (a : Fp p) : Can p (pad (row a)) := fun x hx => by
 obtain ⟨i, _, rfl⟩ := List.mem_map.1 hx
 exact (row_can a).le IsP.pos i
theorem polOf_pad {p : Int} {a : Fp p} (hl : a.len ≤ 64) : polOf p (pad (row a)) = a := Pol.ext fun i => by rw [polOf_c, pad_cf (by rw [row_length]; exact hl), row_cf, zp_rep]
theorem pad_row_cf {p : Int} {a : Fp p} (hl : a.len ≤ 64) (i : Nat) : cf (pad (row a)) i = rep (a.c i) := by rw [pad_cf (by rw [row_length]; exact hl), row_cf]
theorem l_sAdd {O : Oracle} {p k : Int} [IsP p] {a b z : List Int} (ha : Can p a) (hb : Can p b) (hbl : b.length = 64) (hk : -1000000 ≤ k ∧ k ≤ 1000000) : ∀ (m i : Nat) (cur : List Int), i + m = 64 → cur.length = 64 → (∀ j, i ≤ j → cf cur j = cf a j) →
 dn O 0 (.loop Z2e_L0) ⟨[(0, (.d (.int .i64 p))), (3, (.d (.int .i64 k))), (5, .ptr 0 []), (6, .ptr 1 []), (8, .ptr 2 []), (9, (.d (.int .i64 i)))], [.box false (D.arr 64 .leaf (ints .u8 cur)), .box false (D.arr 64 .leaf (ints .u8 b)), .box false (D.arr 64 .leaf (ints .u8 z))]⟩ =
  some (.exit 0, ⟨[(0, (.d (.int .i64 p))), (3, (.d (.int .i64 k))), (5, .ptr 0 []), (6, .ptr 1 []), (8, .ptr 2 []), (9, (.d (.int .i64 64))), (11, (.d (.bool false)))], [.box false (D.arr 64 .leaf (ints .u8 (upd (lin p a b k) m i cur))), .box false (D.arr 64 .leaf (ints .u8 b)), .box false (D.arr 64 .leaf (ints .u8 z))]⟩)
 | 0, i, cur, hi, hc, hs => by
  obtain rfl : i = 64 := by omega
  exact dn_stop (by simp -implicitDefEqProofs [Z2e_L0, dn_cond, upd])
 | m + 1, i, cur, hi, hc, hs => by
  have hp := IsP.pos (p := p)
  have hp7 := IsP.le (p := p)
  have hp0 : p ≠ 0 := by omega
  have hlt : i < cur.length := by omega
  have hlb : i < b.length := by omega
  have hi64 : i < 64 := by omega
  have hi64' : (i : Int) < 64 := by omega
  have hx : cur[i] = cf a i := by rw [← cf_lt hlt]; exact hs i (Nat.le_refl i)
  have hy : b[i] = cf b i := (cf_lt hlb).symm
  have ga := ha.le hp i
  have gb := hb.le hp i
  have gm := mul_small (x := k) (y := cf b i) (b := 1000000) (c := 10) hk (by omega) (by omega)
  have w1 : IntKind.i64.wrap (cf a i) = cf a i := w64 (by omega)
  have w2 : IntKind.i64.wrap (cf b i) = cf b i := w64 (by omega)
  have w3 : IntKind.i64.wrap (k * cf b i) = k * cf b i := w64 (by omega)
  have w5 : IntKind.i64.wrap (cf a i + k * cf b i) = cf a i + k * cf b i := w64 (by omega)
  have hin := tmod_in (n := cf a i + k * cf b i) hp
  have w6 : IntKind.i64.wrap ((cf a i + k * cf b i).tmod p + p) = (cf a i + k * cf b i).tmod p + p := w64 (by omega)
  have w7 : ((cf a i + k * cf b i).tmod p + p).tmod p = lin p a b k i := tmod_tmod hp
  have hlin : 0 ≤ lin p a b k i ∧ lin p a b k i < p := ⟨Int.emod_nonneg _ (by omega), Int.emod_lt_of_pos _ hp⟩
  have w8' : IntKind.u8.wrap (lin p a b k i) = lin p a b k i := w8 (by omega)
  have w4 : IntKind.i64.wrap ((i : Int) + 1) = ((i + 1 : Nat) : Int) := (w64 (x := (i : Int) + 1) (by omega)).trans (by omega)
  refine dn_round ?_ (l_sAdd ha hb hbl hk m (i + 1) (cur.set i (lin p a b k i)) (by omega) (by simpa using hc) (fun j hj => by rw [cf_set, if_neg (by omega)]; exact hs j (by omega)))
  simp -implicitDefEqProofs [Z2e_L0, dn_cond, hlt, hlb, hi64, hi64', hx, hy, w1, w2, w3, w5, w6, w7, w8', w4, hp0]
def K_sAdd (O : Oracle) : Prop := ∀ (p : Int) [IsP p] (k : Int) (a b : Fp p), -1000000 ≤ k → k ≤ 1000000 → a.len ≤ 64 → b.len ≤ 64 →
 ask O F2e [(D.int .i64 p), (D.arr 64 .leaf (ints .u8 (pad (row a)))), (D.arr 64 .leaf (ints .u8 (pad (row b)))), (D.int .i64 k)] = some (D.arr 64 .leaf (ints .u8 (pad (row (a + Pol.C (zp p k) * b)))))
theorem k_sAdd (hT : T F2e = some Z2e) : K_sAdd (den T A) := by
 intro p i k a b hk hk' hal hbl
 have e := l_sAdd (O := den T A) (z := pad []) (pad_can a) (pad_can b) (pad_length _) ⟨hk, hk'⟩ 64 0 (pad (row a)) (by omega) (pad_length _) (fun _ _ => rfl)
 have e0 : ((0 : Nat) : Int) = 0 := rfl
 rw [e0, upd_all _ _ _ (pad_length _)] at e
 have e2 : (List.range 64).map (lin p (pad (row a)) (pad (row b)) k) = pad (row (a + Pol.C (zp p k) * b)) := by
  unfold pad
  congr 1
  funext j
  rw [row_cf, Pol.c_add, Pol.c_Cmul]
  show (cf (pad (row a)) j + k * cf (pad (row b)) j) % p = _
  rw [pad_row_cf hal, pad_row_cf hbl, ← rep_mk, zp_add, zp_mul, zp_rep, zp_rep]
 rw [e2] at e
 refine ask_of hT rfl ?_
 generalize pad (row (a + Pol.C (zp p k) * b)) = R at *
 simp -implicitDefEqProofs [Z2e, Z2e_B, e]
def K_sOne (O : Oracle) : Prop := ∀ (p : Int) [IsP p], ask O F2z [] = some (D.arr 64 .leaf (ints .u8 (pad (row (1 : Fp p)))))
theorem k_sOne (hT : T F2z = some Z2z) : K_sOne (den T A) := by
 intro p i
 have e : (pad []).set 0 1 = pad [1] := by decide +kernel
 have h0 : (0 : Nat) < (pad []).length := by rw [pad_length]; omega
 rw [row_one]
 refine ask_of hT rfl ?_
 simp -implicitDefEqProofs [Z2z, Z2z_B, e, h0]
end Pe

namespace Pe
open Go Gq
variable {T : Nat → Option Fn} {A : Oracle}
def subS (p q : Int) (b : List Int) (i : Nat) (m : Nat) (cur : List Int) : List Int := if q = 0 then cur else subTo p q b i m 0 cur
theorem subS_eq {p q : Int} [IsP p] {b cur : List Int} {i m : Nat} (hc : Can p cur) (hl : i + m ≤ cur.length) : subS p q b i m cur = subTo p q b i m 0 cur := by
 unfold subS
 split
 ·rename_i h
  subst h
  apply List.ext_getElem
  ·rw [subTo_length]
  ·intro j h1 h2
   rw [← cf_lt h1, ← cf_lt h2, subTo_cf _ _ _ _ _ _ _ _ (by omega)]
   have := hc.le IsP.pos j
   split
   ·rw [Int.zero_mul, Int.sub_zero, Int.emod_eq_of_lt this.1 this.2]
   ·rfl
 ·rfl
theorem l_sDiv0 {O : Oracle} {p q by_ : Int} [IsP p] {b quo z z' : List Int} {i bl : Nat} (hq : 0 < q ∧ q < p) (hb : Can p b) (hbl : b.length = 64) (hn : i + bl ≤ 64) (h0 : 0 < bl) : ∀ (m k : Nat) (cur : List Int), k + m = bl → cur.length = 64 → Can p cur →
 dn O 0 (.loop Z2k_L0) ⟨[(0, (.d (.int .i64 p))), (4, .ptr 0 []), (5, .ptr 1 []), (6, .ptr 2 []), (7, .ptr 3 []), (8, .ptr 4 []), (9, (.d (.int .i64 ((bl : Int) - 1)))), (10, (.d (.int .i64 by_))), (11, (.d (.int .i64 ((i : Int) + bl - 1)))), (12, (.d (.int .i64 q))), (13, (.d (.int .i64 k)))], [.box false (D.arr 64 .leaf (ints .u8 cur)), .box false (D.arr 64 .leaf (ints .u8 b)), .box false (D.arr 64 .leaf (ints .u8 z)), .box false (D.arr 64 .leaf (ints .u8 z')), .box false (D.arr 64 .leaf (ints .u8 quo))]⟩ =
  some (.exit 2, ⟨[(0, (.d (.int .i64 p))), (4, .ptr 0 []), (5, .ptr 1 []), (6, .ptr 2 []), (7, .ptr 3 []), (8, .ptr 4 []), (9, (.d (.int .i64 ((bl : Int) - 1)))), (10, (.d (.int .i64 by_))), (11, (.d (.int .i64 ((i : Int) + bl - 1)))), (12, (.d (.int .i64 q))), (13, (.d (.int .i64 bl))), (50, (.d (.bool false)))], [.box false (D.arr 64 .leaf (ints .u8 (subTo p q b i m k cur))), .box false (D.arr 64 .leaf (ints .u8 b)), .box false (D.arr 64 .leaf (ints .u8 z)), .box false (D.arr 64 .leaf (ints .u8 z')), .box false (D.arr 64 .leaf (ints .u8 quo))]⟩)
 | 0, k, cur, hk, hc, hcan => by
  obtain rfl : k = bl := by omega
  have h1 : ¬ (k : Int) ≤ (k : Int) - 1 := by omega
  exact dn_stop (by simp -implicitDefEqProofs [Z2k_L0, dn_cond, subTo, h1])
 | m + 1, k, cur, hk, hc, hcan => by
  have hp := IsP.pos (p := p)
  have hp7 := IsP.le (p := p)
  have hp0 : p ≠ 0 := by omega
  have hq0 : q ≠ 0 := by omega
  have h1 : (k : Int) ≤ (bl : Int) - 1 := by omega
  have w1 : IntKind.i64.wrap ((i : Int) + bl - 1 - (bl - 1)) = i := (w64 (x := (i : Int) + bl - 1 - (bl - 1)) (by omega)).trans (by omega)
  have w2 : IntKind.i64.wrap ((i : Int) + k) = ((i + k : Nat) : Int) := (w64 (x := (i : Int) + k) (by omega)).trans (by omega)
  have hik : i + k < 64 := by omega
  have hikc : i + k < cur.length := by omega
  have hkb : k < b.length := by omega
  have hk64 : k < 64 := by omega
  have hx : cur[i + k] = cf cur (i + k) := (cf_lt hikc).symm
  have hy : b[k] = cf b k := (cf_lt hkb).symm
  have gc := hcan.le hp (i + k)
  have gb := hb.le hp k
  have gm := mul_small (x := q) (y := cf b k) (b := 10) (c := 10) (by omega) (by omega) (by omega)
  have w3 : IntKind.i64.wrap (cf cur (i + k)) = cf cur (i + k) := w64 (by omega)
  have w5 : IntKind.i64.wrap (cf b k) = cf b k := w64 (by omega)
  have w6 : IntKind.i64.wrap (q * cf b k) = q * cf b k := w64 (by omega)
  have w7 : IntKind.i64.wrap (cf cur (i + k) - q * cf b k) = cf cur (i + k) - q * cf b k := w64 (by omega)
  have hin := tmod_in (n := cf cur (i + k) - q * cf b k) hp
  have w9 : IntKind.i64.wrap ((cf cur (i + k) - q * cf b k).tmod p + p) = (cf cur (i + k) - q * cf b k).tmod p + p := w64 (by omega)
  have w10 : ((cf cur (i + k) - q * cf b k).tmod p + p).tmod p = (cf cur (i + k) - q * cf b k) % p := tmod_tmod hp
  have hlin : 0 ≤ (cf cur (i + k) - q * cf b k) % p ∧ (cf cur (i + k) - q * cf b k) % p < p := ⟨Int.emod_nonneg _ (by omega), Int.emod_lt_of_pos _ hp⟩
  have w11 : IntKind.u8.wrap ((cf cur (i + k) - q * cf b k) % p) = (cf cur (i + k) - q * cf b k) % p := w8 (by omega)
  have w4 : IntKind.i64.wrap ((k : Int) + 1) = ((k + 1 : Nat) : Int) := (w64 (x := (k : Int) + 1) (by omega)).trans (by omega)
  have t1 : (0 : Int) ≤ (i : Int) + k := by omega
  have t2 : ((i : Int) + k).toNat = i + k := by omega
  have hcan' : Can p (cur.set (i + k) ((cf cur (i + k) - q * cf b k) % p)) := by
   intro x hx
   rcases List.mem_or_eq_of_mem_set hx with h | h
   ·exact hcan x h
   ·subst h; exact hlin
  refine dn_round ?_ (l_sDiv0 hq hb hbl hn h0 m (k + 1) (cur.set (i + k) ((cf cur (i + k) - q * cf b k) % p)) (by omega) (by simpa using hc) hcan')
  simp -implicitDefEqProofs [Z2k_L0, dn_cond, h1, hq0, w1, w2, hik, hikc, hkb, hk64, hx, hy, w3, w5, w6, w7, w9, w10, w11, w4, hp0, t1, t2]
theorem l_sDiv1 {O : Oracle} {p by_ : Int} [IsP p] {b : List Int} {bl : Nat} {z z' : List Int} (hby : 0 ≤ by_ ∧ by_ < p) (hb : Can p b) (hbl : b.length = 64) (h0 : 0 < bl) : ∀ (c : Nat) (cur quo : List Int), c + bl ≤ 65 → cur.length = 64 → quo.length = 64 → Can p cur →
 dn O 0 (.loop Z2k_L1) ⟨[(0, (.d (.int .i64 p))), (4, .ptr 0 []), (5, .ptr 1 []), (6, .ptr 2 []), (7, .ptr 3 []), (8, .ptr 4 []), (9, (.d (.int .i64 ((bl : Int) - 1)))), (10, (.d (.int .i64 by_))), (11, (.d (.int .i64 ((c : Int) + bl - 2))))], [.box false (D.arr 64 .leaf (ints .u8 cur)), .box false (D.arr 64 .leaf (ints .u8 b)), .box false (D.arr 64 .leaf (ints .u8 z)), .box false (D.arr 64 .leaf (ints .u8 z')), .box false (D.arr 64 .leaf (ints .u8 quo))]⟩ =
  some (.exit 0, ⟨[(0, (.d (.int .i64 p))), (4, .ptr 0 []), (5, .ptr 1 []), (6, .ptr 2 []), (7, .ptr 3 []), (8, .ptr 4 []), (9, (.d (.int .i64 ((bl : Int) - 1)))), (10, (.d (.int .i64 by_))), (11, (.d (.int .i64 ((bl : Int) - 2)))), (27, (.d (.bool false)))], [.box false (D.arr 64 .leaf (ints .u8 ((dv p by_ (b.take bl) c (cur, quo)).1))), .box false (D.arr 64 .leaf (ints .u8 b)), .box false (D.arr 64 .leaf (ints .u8 z)), .box false (D.arr 64 .leaf (ints .u8 z')), .box false (D.arr 64 .leaf (ints .u8 ((dv p by_ (b.take bl) c (cur, quo)).2)))]⟩)
 | 0, cur, quo, _, hc, hqo, hcan => by
  have h1 : ¬ (bl : Int) - 1 ≤ (bl : Int) - 2 := by omega
  have t0 : ((0 : Nat) : Int) + bl - 2 = (bl : Int) - 2 := by omega
  rw [t0]
  exact dn_stop (by simp -implicitDefEqProofs [Z2k_L1, dn_cond, h1, dv])
 | c + 1, cur, quo, hcb, hc, hqo, hcan => by
  have hp := IsP.pos (p := p)
  have hp7 := IsP.le (p := p)
  have hp0 : p ≠ 0 := by omega
  have hbt : (b.take bl).length = bl := by rw [List.length_take]; omega
  have t0 : ((c + 1 : Nat) : Int) + bl - 2 = (c : Int) + bl - 1 := by omega
  rw [t0]
  have h1 : (bl : Int) - 1 ≤ (c : Int) + bl - 1 := by omega
  have hi64 : c + bl - 1 < 64 := by omega
  have hic : c + bl - 1 < cur.length := by omega
  have t1 : (0 : Int) ≤ (c : Int) + bl - 1 := by omega
  have t2 : ((c : Int) + bl - 1).toNat = c + bl - 1 := by omega
  have t3 : (1 : Int) ≤ (c : Int) + bl := by omega
  have hx : cur[c + bl - 1] = cf cur (c + bl - 1) := (cf_lt hic).symm
  have gc := hcan.le hp (c + bl - 1)
  have gm := mul_small (x := cf cur (c + bl - 1)) (y := by_) (b := 10) (c := 10) (by omega) (by omega) (by omega)
  have w1 : IntKind.i64.wrap (cf cur (c + bl - 1)) = cf cur (c + bl - 1) := w64 (by omega)
  have w2 : IntKind.i64.wrap (cf cur (c + bl - 1) * by_) = cf cur (c + bl - 1) * by_ := w64 (by omega)
  have w3 : (cf cur (c + bl - 1) * by_).tmod p = cf cur (c + bl - 1) * by_ % p := Int.tmod_eq_emod_of_nonneg (Int.mul_nonneg gc.1 hby.1)
  have hq : 0 ≤ cf cur (c + bl - 1) * by_ % p ∧ cf cur (c + bl - 1) * by_ % p < p := ⟨Int.emod_nonneg _ hp0, Int.emod_lt_of_pos _ hp⟩
  have w4 : IntKind.i64.wrap ((c : Int) + bl - 1 - (bl - 1)) = c := (w64 (x := (c : Int) + bl - 1 - (bl - 1)) (by omega)).trans (by omega)
  have w5 : IntKind.u8.wrap (cf cur (c + bl - 1) * by_ % p) = cf cur (c + bl - 1) * by_ % p := w8 (by omega)
  have hc64 : c < 64 := by omega
  have hcq : c < quo.length := by omega
  have w6 : IntKind.i64.wrap ((c : Int) + bl - 1 - 1) = (c : Int) + bl - 2 := (w64 (x := (c : Int) + bl - 1 - 1) (by omega)).trans (by omega)
  have ed : dv p by_ (b.take bl) (c + 1) (cur, quo) = dv p by_ (b.take bl) c (subS p (cf cur (c + bl - 1) * by_ % p) b c bl cur, quo.set c (cf cur (c + bl - 1) * by_ % p)) := by
   rw [dv, hbt, subS_eq hcan (by omega)]
   have es : ∀ (m k : Nat) (x : List Int), k + m ≤ bl → subTo p (cf cur (c + bl - 1) * by_ % p) (b.take bl) c m k x = subTo p (cf cur (c + bl - 1) * by_ % p) b c m k x := by
    intro m
    induction m with
    | zero => intro k x _; rfl
    | succ m ih =>
     intro k x hk
     have e : cf (b.take bl) k = cf b k := by rw [cf_lt (by omega), cf_lt (by omega), List.getElem_take]
     rw [subTo, subTo, e, ih _ _ (by omega)]
   rw [es bl 0 cur (by omega)]
  rw [ed]
  have hcan' : Can p (subS p (cf cur (c + bl - 1) * by_ % p) b c bl cur) := by rw [subS_eq hcan (by omega)]; exact subTo_can hp (by omega) hcan
  have hlen' : (subS p (cf cur (c + bl - 1) * by_ % p) b c bl cur).length = 64 := by rw [subS_eq hcan (by omega), subTo_length, hc]
  have ih := l_sDiv1 (O := O) (z := z) (z' := z') hby hb hbl h0 c (subS p (cf cur (c + bl - 1) * by_ % p) b c bl cur) (quo.set c (cf cur (c + bl - 1) * by_ % p)) (by omega) hlen' (by simpa using hqo) hcan'
  refine dn_round ?_ ih
  generalize cf cur (c + bl - 1) * by_ % p = q at *
  have l0 : ∃ k : Int, dn O 0 (.loop Z2k_L0) ⟨[(0, (.d (.int .i64 p))), (4, .ptr 0 []), (5, .ptr 1 []), (6, .ptr 2 []), (7, .ptr 3 []), (8, .ptr 4 []), (9, (.d (.int .i64 ((bl : Int) - 1)))), (10, (.d (.int .i64 by_))), (11, (.d (.int .i64 ((c : Int) + bl - 1)))), (12, (.d (.int .i64 q))), (13, (.d (.int .i64 0)))], [.box false (D.arr 64 .leaf (ints .u8 cur)), .box false (D.arr 64 .leaf (ints .u8 b)), .box false (D.arr 64 .leaf (ints .u8 z)), .box false (D.arr 64 .leaf (ints .u8 z')), .box false (D.arr 64 .leaf (ints .u8 (quo.set c q)))]⟩ =
   some (.exit 2, ⟨[(0, (.d (.int .i64 p))), (4, .ptr 0 []), (5, .ptr 1 []), (6, .ptr 2 []), (7, .ptr 3 []), (8, .ptr 4 []), (9, (.d (.int .i64 ((bl : Int) - 1)))), (10, (.d (.int .i64 by_))), (11, (.d (.int .i64 ((c : Int) + bl - 1)))), (12, (.d (.int .i64 q))), (13, (.d (.int .i64 k))), (50, (.d (.bool false)))], [.box false (D.arr 64 .leaf (ints .u8 (subS p q b c bl cur))), .box false (D.arr 64 .leaf (ints .u8 b)), .box false (D.arr 64 .leaf (ints .u8 z)), .box false (D.arr 64 .leaf (ints .u8 z')), .box false (D.arr 64 .leaf (ints .u8 (quo.set c q)))]⟩) := by
   by_cases hq0 : q = 0
   ·subst hq0
    refine ⟨0, ?_⟩
    have e : subS p 0 b c bl cur = cur := if_pos rfl
    rw [e]
    have h2 : (1 : Int) ≤ (bl : Int) := by omega
    exact dn_stop (by simp -implicitDefEqProofs [Z2k_L0, dn_cond, h2])
   ·refine ⟨bl, ?_⟩
    have e : subS p q b c bl cur = subTo p q b c bl 0 cur := if_neg hq0
    rw [e]
    have := l_sDiv0 (O := O) (by_ := by_) (quo := quo.set c q) (z := z) (z' := z') (i := c) (bl := bl) ⟨by omega, hq.2⟩ hb hbl (by omega) h0 bl 0 cur (Nat.zero_add _) hc hcan
    exact this
  obtain ⟨k, l0⟩ := l0
  simp -implicitDefEqProofs [Z2k_L1, dn_cond, h1, hi64, hic, t2, t3, hx, w1, w2, w3, w4, w5, w6, hc64, hcq, hp0, l0]
def K_sDivide (O : Oracle) : Prop := ∀ (p : Int) [IsP p] (a b : Fp p), b ≠ 0 → a.len ≤ 64 → b.len ≤ 64 →
 ask O F2k [(D.int .i64 p), (D.arr 64 .leaf (ints .u8 (pad (row a)))), (D.arr 64 .leaf (ints .u8 (pad (row b))))] = some (.tup [(D.arr 64 .leaf (ints .u8 (pad (row (a / b))))), (D.arr 64 .leaf (ints .u8 (pad (row (a % b)))))])
theorem pad_take {p : Int} {b : Fp p} (h : b.len ≤ 64) : (pad (row b)).take b.len = row b := by
 apply List.ext_getElem
 ·rw [List.length_take, pad_length, row_length]; omega
 ·intro i h1 h2
  rw [List.getElem_take, ← cf_lt, pad_row_cf h, ← row_cf, cf_lt h2]
theorem k_sDivide (hT : T F2k = some Z2k) (hd : K_sDeg (den T A)) (hinv : K_sInverse (den T A)) : K_sDivide (den T A) := by
 intro p i a b hb hal hbl
 have hp := IsP.ge (p := p)
 have hp7 := IsP.le (p := p)
 have hb0 := Pol.len_pos hb
 have e1 := hd p b hbl
 have e2 := hd p a hal
 have hr := rep_in b.ld
 have hld : rep b.ld ≠ 0 := fun h0 => Pol.ld_ne hb (rep_eq_zero.1 h0)
 have e3 := hinv p (rep b.ld) (by omega) hr.2
 have hin := inv_in p (rep b.ld)
 have w1 : IntKind.i64.wrap (inv p (rep b.ld)) = inv p (rep b.ld) := w64 (by omega)
 have hbx : (pad (row b))[b.len - 1]? = some (rep b.ld) := by rw [pad_get _ _ (by omega), row_cf]; rfl
 have hbx' : ((b.len : Int) - 1).toNat = b.len - 1 := by omega
 have hbx2 : (1 : Int) ≤ (b.len : Int) := by omega
 have hbx3 : b.len - 1 < 64 := by omega
 have hz : ∀ j, cf (pad []) j = 0 := fun j => by rw [pad_cf (by simp), cf_ge (by simp)]
 have hcanz : Can p (pad []) := fun x hx => by
  obtain ⟨j, _, rfl⟩ := List.mem_map.1 hx
  rw [cf_ge (by simp)]; omega
 have sp := dv_spec b hb (a.len + 1 - b.len) (pad (row a)) (pad []) (by rw [pad_length]; omega) (by rw [pad_length]; omega) (pad_can a) (fun j _ => hz j) (fun j hj => by
  rw [pad_row_cf hal, a.lt_len j (by omega), rep_zero]) hcanz
 have hl1 : ∀ (B : List Int) (c : Nat) (x y : List Int), (dv p (inv p (rep b.ld)) B c (x, y)).1.length = x.length ∧ (dv p (inv p (rep b.ld)) B c (x, y)).2.length = y.length := by
  intro B c
  induction c with
  | zero => exact fun x y => ⟨rfl, rfl⟩
  | succ c ih =>
   intro x y
   rw [dv]
   obtain ⟨i1, i2⟩ := ih (subTo p (cf x (c + B.length - 1) * inv p (rep b.ld) % p) B c B.length 0 x) (y.set c (cf x (c + B.length - 1) * inv p (rep b.ld) % p))
   exact ⟨by rw [i1, subTo_length], by rw [i2, List.length_set]⟩
 obtain ⟨g1, g2⟩ := hl1 (row b) (a.len + 1 - b.len) (pad (row a)) (pad [])
 rw [pad_length] at g1 g2
 have l1 := l_sDiv1 (O := den T A) (b := pad (row b)) (bl := b.len) (z := pad []) (z' := pad []) hin (pad_can b) (pad_length _) hb0 (a.len + 1 - b.len) (pad (row a)) (pad []) (by omega) (pad_length _) (pad_length _) (pad_can a)
 rw [pad_take hbl] at l1
 generalize dv p (inv p (rep b.ld)) (row b) (a.len + 1 - b.len) (pad (row a), pad []) = r at *
 obtain ⟨s1, s2, s3, s4⟩ := sp
 have z0 : polOf p (pad []) = 0 := Pol.ext fun j => by rw [polOf_c, hz]; rfl
 rw [z0, Gq.zero_mul, Gq.add_zero, polOf_pad hal, Gq.add_comm] at s1
 have hrl : (polOf p r.1).len < b.len := by
  have : (polOf p r.1).lt (b.len - 1) := fun i hi => by rw [polOf_c, s2 i hi]; rfl
  have := Pol.len_le this
  omega
 obtain ⟨h1, h2⟩ := Pol.div_mod_eq s1.symm hrl
 rw [h1, h2, ← pad_of s3 g1, ← pad_of s4 g2]
 have lz : ∃ n : Int, dn (den T A) 0 (.loop Z2k_L1) ⟨[(0, (.d (.int .i64 p))), (4, .ptr 0 []), (5, .ptr 1 []), (6, .ptr 2 []), (7, .ptr 3 []), (8, .ptr 4 []), (9, (.d (.int .i64 ((b.len : Int) - 1)))), (10, (.d (.int .i64 (inv p (rep b.ld))))), (11, (.d (.int .i64 ((a.len : Int) - 1))))], [.box false (D.arr 64 .leaf (ints .u8 (pad (row a)))), .box false (D.arr 64 .leaf (ints .u8 (pad (row b)))), .box false (D.arr 64 .leaf (ints .u8 (pad []))), .box false (D.arr 64 .leaf (ints .u8 (pad []))), .box false (D.arr 64 .leaf (ints .u8 (pad [])))]⟩ =
  some (.exit 0, ⟨[(0, (.d (.int .i64 p))), (4, .ptr 0 []), (5, .ptr 1 []), (6, .ptr 2 []), (7, .ptr 3 []), (8, .ptr 4 []), (9, (.d (.int .i64 ((b.len : Int) - 1)))), (10, (.d (.int .i64 (inv p (rep b.ld))))), (11, (.d (.int .i64 n))), (27, (.d (.bool false)))], [.box false (D.arr 64 .leaf (ints .u8 r.1)), .box false (D.arr 64 .leaf (ints .u8 (pad (row b)))), .box false (D.arr 64 .leaf (ints .u8 (pad []))), .box false (D.arr 64 .leaf (ints .u8 (pad []))), .box false (D.arr 64 .leaf (ints .u8 r.2))]⟩) := by
  by_cases hlt : b.len ≤ a.len
  ·rw [show ((a.len + 1 - b.len : Nat) : Int) + b.len - 2 = (a.len : Int) - 1 by omega] at l1
   exact ⟨_, l1⟩
  ·rw [show a.len + 1 - b.len = 0 by omega] at l1
   have h3 : ¬ (b.len : Int) - 1 ≤ (b.len : Int) - 2 := by omega
   have h4 : ¬ (b.len : Int) - 1 ≤ (a.len : Int) - 1 := by omega
   have st := dn_stop (O := den T A) (np := 0) (c := Z2k_L1) (s := ⟨[(0, (.d (.int .i64 p))), (4, .ptr 0 []), (5, .ptr 1 []), (6, .ptr 2 []), (7, .ptr 3 []), (8, .ptr 4 []), (9, (.d (.int .i64 ((b.len : Int) - 1)))), (10, (.d (.int .i64 (inv p (rep b.ld))))), (11, (.d (.int .i64 (((0 : Nat) : Int) + b.len - 2))))], [.box false (D.arr 64 .leaf (ints .u8 (pad (row a)))), .box false (D.arr 64 .leaf (ints .u8 (pad (row b)))), .box false (D.arr 64 .leaf (ints .u8 (pad []))), .box false (D.arr 64 .leaf (ints .u8 (pad []))), .box false (D.arr 64 .leaf (ints .u8 (pad [])))]⟩) (s1 := ⟨[(0, (.d (.int .i64 p))), (4, .ptr 0 []), (5, .ptr 1 []), (6, .ptr 2 []), (7, .ptr 3 []), (8, .ptr 4 []), (9, (.d (.int .i64 ((b.len : Int) - 1)))), (10, (.d (.int .i64 (inv p (rep b.ld))))), (11, (.d (.int .i64 (((0 : Nat) : Int) + b.len - 2)))), (27, (.d (.bool false)))], [.box false (D.arr 64 .leaf (ints .u8 (pad (row a)))), .box false (D.arr 64 .leaf (ints .u8 (pad (row b)))), .box false (D.arr 64 .leaf (ints .u8 (pad []))), .box false (D.arr 64 .leaf (ints .u8 (pad []))), .box false (D.arr 64 .leaf (ints .u8 (pad [])))]⟩) (id := 0) (by
    have h3' : ¬ (b.len : Int) - 1 ≤ ((0 : Nat) : Int) + b.len - 2 := by omega
    simp -implicitDefEqProofs only [Int.natCast_zero, Int.zero_add] at h3' ⊢
    simp -implicitDefEqProofs [Z2k_L1, dn_cond, h3'])
   rw [st] at l1
   have l2 := Option.some.inj l1
   injection l2 with _ l3
   injection l3 with _ l4
   injection l4 with l5 l6
   injection l6 with _ l7
   injection l7 with _ l8
   injection l8 with _ l9
   injection l9 with l10 _
   have e5 : (D.arr 64 .leaf (ints .u8 (pad (row a)))) = (D.arr 64 .leaf (ints .u8 r.1)) := by injection l5
   have e6 : (D.arr 64 .leaf (ints .u8 (pad []))) = (D.arr 64 .leaf (ints .u8 r.2)) := by injection l10
   rw [← e5, ← e6]
   exact ⟨(a.len : Int) - 1, dn_stop (by simp -implicitDefEqProofs [Z2k_L1, dn_cond, h4])⟩
 obtain ⟨n, lz⟩ := lz
 refine ask_of hT rfl ?_
 obtain ⟨r1, r2⟩ := r
 simp only at lz ⊢
 generalize pad (row a) = PA at *
 generalize pad (row b) = PB at *
 simp -implicitDefEqProofs [Z2k, Z2k_B, e1, e2, e3, w1, hbx, hbx', hbx2, hbx3, lz]
end Pe

namespace Pe
open Go Gq
variable {T : Nat → Option Fn} {A : Oracle}
def K_sMod (O : Oracle) : Prop := ∀ (p : Int) [IsP p] (a b : Fp p), b ≠ 0 → a.len ≤ 64 → b.len ≤ 64 →
 ask O F2u [(D.int .i64 p), (D.arr 64 .leaf (ints .u8 (pad (row a)))), (D.arr 64 .leaf (ints .u8 (pad (row b))))] = some (D.arr 64 .leaf (ints .u8 (pad (row (a % b)))))
theorem k_sMod (hT : T F2u = some Z2u) (hd : K_sDivide (den T A)) : K_sMod (den T A) := by
 intro p i a b hb h1 h2
 have e := hd p a b hb h1 h2
 refine ask_of hT rfl ?_
 simp -implicitDefEqProofs [Z2u, Z2u_B, e]
theorem cf_upd (f : Nat → Int) (m i : Nat) (l : List Int) (j : Nat) : cf (upd f m i l) j = if i ≤ j ∧ j < i + m ∧ j < l.length then f j else cf l j := by
 unfold cf
 rw [List.getD_eq_getElem?_getD, List.getD_eq_getElem?_getD, upd_get]
 split <;> rfl
theorem l_sUp0 {O : Oracle} {p : Int} {a : List Int} {mm z : List Int} {n : Nat} {top : Int} (hal : a.length = 64) (hn : n < 64) : ∀ (k i : Nat) (cur : List Int), i + k = n → 1 ≤ i → cur.length = 64 →
 dn O 0 (.loop Z35_L0) ⟨[(0, (.d (.int .i64 p))), (4, .ptr 0 []), (5, .ptr 1 []), (6, .ptr 2 []), (7, (.d (.int .i64 n))), (8, (.d (.int .i64 top))), (9, .ptr 3 []), (10, (.d (.int .i64 i)))], [.box false (D.arr 64 .leaf (ints .u8 a)), .box false (D.arr 64 .leaf (ints .u8 mm)), .box false (D.arr 64 .leaf (ints .u8 z)), .box false (D.arr 64 .leaf (ints .u8 cur))]⟩ =
  some (.exit 0, ⟨[(0, (.d (.int .i64 p))), (4, .ptr 0 []), (5, .ptr 1 []), (6, .ptr 2 []), (7, (.d (.int .i64 n))), (8, (.d (.int .i64 top))), (9, .ptr 3 []), (10, (.d (.int .i64 n))), (26, (.d (.bool false)))], [.box false (D.arr 64 .leaf (ints .u8 a)), .box false (D.arr 64 .leaf (ints .u8 mm)), .box false (D.arr 64 .leaf (ints .u8 z)), .box false (D.arr 64 .leaf (ints .u8 (upd (fun j => cf a (j - 1)) k i cur)))]⟩)
 | 0, i, cur, hi, h1, hc => by
  obtain rfl : i = n := by omega
  exact dn_stop (by simp -implicitDefEqProofs [Z35_L0, dn_cond, upd])
 | k + 1, i, cur, hi, h1, hc => by
  have hlt : i < n := by omega
  have hi1 : i - 1 < a.length := by omega
  have hi2 : i - 1 < 64 := by omega
  have hi64 : i < 64 := by omega
  have hic : i < cur.length := by omega
  have hx : a[i - 1] = cf a (i - 1) := (cf_lt hi1).symm
  have w1 : IntKind.i64.wrap ((i : Int) - 1) = ((i - 1 : Nat) : Int) := (w64 (x := (i : Int) - 1) (by omega)).trans (by omega)
  have w4 : IntKind.i64.wrap ((i : Int) + 1) = ((i + 1 : Nat) : Int) := (w64 (x := (i : Int) + 1) (by omega)).trans (by omega)
  refine dn_round ?_ (l_sUp0 hal hn k (i + 1) (cur.set i (cf a (i - 1))) (by omega) (by omega) (by simpa using hc))
  simp -implicitDefEqProofs [Z35_L0, dn_cond, hlt, hi1, hi2, hi64, hic, hx, w1, w4]
theorem l_sUp1 {O : Oracle} {p q : Int} [IsP p] {b z out : List Int} {n : Nat} {hol : Blk} (hh : hol = .hole) (hb : Can p b) (hbl : b.length = 64) (hq : 0 ≤ q ∧ q < p) (hn : n < 64) (ho : Can p out) : ∀ (k i : Nat) (cur : List Int), i + k = n → cur.length = 64 → (∀ j, i ≤ j → cf cur j = cf out j) →
 dn O 0 (.loop Z35_L1) ⟨[(0, (.d (.int .i64 p))), (5, .ptr 1 []), (6, .ptr 2 []), (7, (.d (.int .i64 n))), (9, .ptr 3 []), (11, (.d (.int .i64 q))), (12, (.d (.int .i64 i)))], [hol, .box false (D.arr 64 .leaf (ints .u8 b)), .box false (D.arr 64 .leaf (ints .u8 z)), .box false (D.arr 64 .leaf (ints .u8 cur))]⟩ =
  some (.exit 2, ⟨[(0, (.d (.int .i64 p))), (5, .ptr 1 []), (6, .ptr 2 []), (7, (.d (.int .i64 n))), (9, .ptr 3 []), (11, (.d (.int .i64 q))), (12, (.d (.int .i64 n))), (47, (.d (.bool false)))], [hol, .box false (D.arr 64 .leaf (ints .u8 b)), .box false (D.arr 64 .leaf (ints .u8 z)), .box false (D.arr 64 .leaf (ints .u8 (upd (fun j => (cf out j - q * cf b j) % p) k i cur)))]⟩)
 | 0, i, cur, hi, hc, hs => by
  subst hh
  obtain rfl : i = n := by omega
  exact dn_stop (by simp -implicitDefEqProofs [Z35_L1, dn_cond, upd])
 | k + 1, i, cur, hi, hc, hs => by
  have hp := IsP.pos (p := p)
  have hp7 := IsP.le (p := p)
  have hp0 : p ≠ 0 := by omega
  have hlt : i < n := by omega
  have hi64 : i < 64 := by omega
  have hic : i < cur.length := by omega
  have hib : i < b.length := by omega
  have hx : cur[i] = cf out i := by rw [← cf_lt hic]; exact hs i (Nat.le_refl i)
  have hy : b[i] = cf b i := (cf_lt hib).symm
  have gc := ho.le hp i
  have gb := hb.le hp i
  have gm := mul_small (x := q) (y := cf b i) (b := 10) (c := 10) (by omega) (by omega) (by omega)
  have w3 : IntKind.i64.wrap (cf out i) = cf out i := w64 (by omega)
  have w5 : IntKind.i64.wrap (cf b i) = cf b i := w64 (by omega)
  have w6 : IntKind.i64.wrap (q * cf b i) = q * cf b i := w64 (by omega)
  have w7 : IntKind.i64.wrap (cf out i - q * cf b i) = cf out i - q * cf b i := w64 (by omega)
  have hin := tmod_in (n := cf out i - q * cf b i) hp
  have w9 : IntKind.i64.wrap ((cf out i - q * cf b i).tmod p + p) = (cf out i - q * cf b i).tmod p + p := w64 (by omega)
  have w10 : ((cf out i - q * cf b i).tmod p + p).tmod p = (cf out i - q * cf b i) % p := tmod_tmod hp
  have hlin : 0 ≤ (cf out i - q * cf b i) % p ∧ (cf out i - q * cf b i) % p < p := ⟨Int.emod_nonneg _ (by omega), Int.emod_lt_of_pos _ hp⟩
  have w11 : IntKind.u8.wrap ((cf out i - q * cf b i) % p) = (cf out i - q * cf b i) % p := w8 (by omega)
  have w4 : IntKind.i64.wrap ((i : Int) + 1) = ((i + 1 : Nat) : Int) := (w64 (x := (i : Int) + 1) (by omega)).trans (by omega)
  refine dn_round ?_ (l_sUp1 hh hb hbl hq hn ho k (i + 1) (cur.set i ((cf out i - q * cf b i) % p)) (by omega) (by simpa using hc) (fun j hj => by rw [cf_set, if_neg (by omega)]; exact hs j (by omega)))
  subst hh
  simp -implicitDefEqProofs [Z35_L1, dn_cond, hlt, hi64, hic, hib, hx, hy, w3, w5, w6, w7, w9, w10, w11, w4, hp0]
def K_sUp (O : Oracle) : Prop := ∀ (p : Int) [IsP p] (a m : Fp p), m ≠ 0 → a.len < m.len → m.len ≤ 64 →
 ask O F35 [(D.int .i64 p), (D.arr 64 .leaf (ints .u8 (pad (row a)))), (D.arr 64 .leaf (ints .u8 (pad (row m))))] = some (D.arr 64 .leaf (ints .u8 (pad (row (Pol.X * a % m)))))
theorem k_sUp (hT : T F35 = some Z35) (hd : K_sDeg (den T A)) (hinv : K_sInverse (den T A)) : K_sUp (den T A) := by
 intro p i a m hm hal hml
 have hp := IsP.ge (p := p)
 have hp7 := IsP.le (p := p)
 have e1 := hd p m hml
 refine ask_of hT rfl ?_
 by_cases h1 : m.len = 1
 ·have ha : a = 0 := Pol.len_zero_iff.1 (by omega)
  subst ha
  rw [Gq.mul_zero, Pol.zero_mod hm, row_zero]
  rw [h1] at e1
  simp -implicitDefEqProofs [Z35, Z35_B, dn_cond, e1]
 ·have hm0 := Pol.len_pos hm
  obtain ⟨n, hn⟩ : ∃ n, m.len = n + 2 := ⟨m.len - 2, by omega⟩
  have e1' : ask (den T A) F2j [(D.arr 64 .leaf (ints .u8 (pad (row m))))] = some (D.int .i64 ((n + 1 : Nat))) := by rw [e1, hn]; congr 2; omega
  have hr := rep_in m.ld
  have hld : rep m.ld ≠ 0 := fun h0 => Pol.ld_ne hm (rep_eq_zero.1 h0)
  have e3 := hinv p (rep m.ld) (by omega) hr.2
  have hin := inv_in p (rep m.ld)
  have hpa : a.len ≤ 64 := by omega
  have hax : (pad (row a))[n]? = some (rep (a.c n)) := by rw [pad_get _ _ (by omega), row_cf]
  have hmx : (pad (row m))[n + 1]? = some (rep m.ld) := by
   rw [pad_get _ _ (by omega), row_cf]
   unfold Pol.ld
   rw [hn]; rfl
  have ha0 := rep_in (a.c n)
  have w0 : IntKind.i64.wrap ((n : Int) + 1 - 1) = (n : Int) := (w64 (x := (n : Int) + 1 - 1) (by omega)).trans (by omega)
  have w0' : IntKind.i64.wrap (n : Int) = (n : Int) := w64 (by omega)
  have w1 : IntKind.i64.wrap (rep (a.c n)) = rep (a.c n) := w64 (by omega)
  have w2 : IntKind.i64.wrap (inv p (rep m.ld)) = inv p (rep m.ld) := w64 (by omega)
  have gm := mul_small (x := rep (a.c n)) (y := inv p (rep m.ld)) (b := 10) (c := 10) (by omega) (by omega) (by omega)
  have w3 : IntKind.i64.wrap (rep (a.c n) * inv p (rep m.ld)) = rep (a.c n) * inv p (rep m.ld) := w64 (by omega)
  have w4 : (rep (a.c n) * inv p (rep m.ld)).tmod p = rep (a.c n) * inv p (rep m.ld) % p := Int.tmod_eq_emod_of_nonneg (Int.mul_nonneg ha0.1 hin.1)
  have hq : 0 ≤ rep (a.c n) * inv p (rep m.ld) % p ∧ rep (a.c n) * inv p (rep m.ld) % p < p := ⟨Int.emod_nonneg _ (by omega), Int.emod_lt_of_pos _ (by omega)⟩
  have hqz : zp p (rep (a.c n) * inv p (rep m.ld) % p) = a.c n * Fd.inv m.ld := by
   rw [zp_mod, zp_mul, zp_rep, finv_rep _ (Pol.ld_ne hm)]
  generalize rep (a.c n) * inv p (rep m.ld) % p = q at *
  have l0 := l_sUp0 (O := den T A) (p := p) (a := pad (row a)) (mm := pad (row m)) (z := pad []) (n := n + 1) (top := rep (a.c n)) (pad_length _) (by omega) n 1 (pad []) (by omega) (Nat.le_refl 1) (pad_length _)
  have hz : ∀ j, cf (pad []) j = 0 := fun j => by rw [pad_cf (by simp), cf_ge (by simp)]
  have c0 : ∀ j, cf (upd (fun j => cf (pad (row a)) (j - 1)) n 1 (pad [])) j = if 1 ≤ j ∧ j < n + 1 then rep (a.c (j - 1)) else 0 := fun j => by
   rw [cf_upd, hz, pad_length]
   by_cases h : 1 ≤ j ∧ j < n + 1
   ·rw [if_pos (by omega), if_pos h, pad_row_cf hpa]
   ·rw [if_neg (by omega), if_neg h]
  have hlen0 : (upd (fun j => cf (pad (row a)) (j - 1)) n 1 (pad [])).length = 64 := by rw [upd_length, pad_length]
  generalize upd (fun j => cf (pad (row a)) (j - 1)) n 1 (pad []) = out at *
  have hcan0 : Can p out := Can.of_cf fun j _ => by rw [c0]; split; exact rep_in _; omega
  have l1 := l_sUp1 (O := den T A) (p := p) (q := q) (b := pad (row m)) (z := pad []) (out := out) (n := n + 1) rfl (pad_can m) (pad_length _) hq (by omega) hcan0 (n + 1) 0 out (by omega) hlen0 (fun _ _ => rfl)
  have hres : upd (fun j => (cf out j - q * cf (pad (row m)) j) % p) (n + 1) 0 out = pad (row (Pol.X * a % m)) := by
   have hlenR : (upd (fun j => (cf out j - q * cf (pad (row m)) j) % p) (n + 1) 0 out).length = 64 := by rw [upd_length, hlen0]
   have hcR : ∀ j, cf (upd (fun j => (cf out j - q * cf (pad (row m)) j) % p) (n + 1) 0 out) j = if j < n + 1 then (cf out j - q * rep (m.c j)) % p else 0 := fun j => by
    rw [cf_upd, hlen0]
    by_cases h : j < n + 1
    ·rw [if_pos (by omega), if_pos h, pad_row_cf hml]
    ·rw [if_neg (by omega), if_neg h, c0, if_neg (by omega)]
   have hcanR : Can p (upd (fun j => (cf out j - q * cf (pad (row m)) j) % p) (n + 1) 0 out) := Can.of_cf fun j _ => by
    rw [hcR]; split
    ·exact ⟨Int.emod_nonneg _ (by omega), Int.emod_lt_of_pos _ (by omega)⟩
    ·omega
   rw [pad_of hcanR hlenR]
   congr 2
   symm
   refine (Pol.div_mod_eq (q := Pol.C (zp p q)) ?_ ?_).2
   ·refine Pol.ext fun j => ?_
    rw [Pol.c_add, Pol.c_Cmul, Pol.c_Xmul, polOf_c, hcR]
    rcases Nat.lt_trichotomy j (n + 1) with h | h | h
    ·rw [if_pos h, zp_mod, zp_sub, zp_mul, zp_rep, c0]
     by_cases hj : j = 0
     ·subst hj
      rw [if_pos rfl, if_neg (by omega), zp_zero]
      exact ring_of [zp p q, m.c 0] rfl
     ·rw [if_neg hj, if_pos (by omega), zp_rep]
      exact ring_of [zp p q, m.c j, a.c (j - 1)] rfl
    ·subst h
     rw [if_neg (by omega), if_neg (by omega), zp_zero, Gq.add_zero, hqz]
     have e : m.c (n + 1) = m.ld := by unfold Pol.ld; rw [hn]; rfl
     rw [e, Gq.mul_assoc, Gq.mul_comm (Fd.inv m.ld), Fd.mul_inv _ (Pol.ld_ne hm), Gq.mul_one]; rfl
    ·rw [if_neg (by omega), if_neg (by omega), zp_zero, m.lt_len j (by omega), Gq.mul_zero, Gq.add_zero, a.lt_len (j - 1) (by omega)]
   ·have : (polOf p (upd (fun j => (cf out j - q * cf (pad (row m)) j) % p) (n + 1) 0 out)).lt (n + 1) := fun j hj => by
     rw [polOf_c, hcR, if_neg (by omega)]; rfl
    have := Pol.len_le this
    omega
  rw [hres] at l1
  have e0 : ((0 : Nat) : Int) = 0 := rfl
  have e11 : ((1 : Nat) : Int) = 1 := rfl
  have en : ((n + 1 : Nat) : Int) = (n : Int) + 1 := by omega
  rw [e0, en] at l1
  rw [e11, en] at l0
  rw [en] at e1'
  have hp0 : p ≠ 0 := by omega
  have hn64 : n < 64 := by omega
  have hn65 : n + 1 < 64 := by omega
  have t1 : ¬ (n : Int) + 1 = 0 := by omega
  have t2 : (0 : Int) ≤ (n : Int) + 1 := by omega
  have t3 : ((n : Int) + 1).toNat = n + 1 := by omega
  generalize pad (row (Pol.X * a % m)) = R at *
  generalize pad (row a) = PA at *
  generalize pad (row m) = PM at *
  simp -implicitDefEqProofs [Z35, Z35_B, dn_cond, e1', e3, hax, hmx, w0', w1, w2, w3, w4, l0, l1, hn64, hn65, t1, t2, t3, hp0]
def tailP {p : Int} (b : Fp p) (i : Nat) : Fp p := ⟨fun j => b.c (i + j), b.len, fun j hj => b.lt_len _ (by omega)⟩
theorem tailP_zero {p : Int} (b : Fp p) : tailP b 0 = b := Pol.ext fun j => by show b.c (0 + j) = b.c j; rw [Nat.zero_add]
theorem tailP_top {p : Int} (b : Fp p) : tailP b b.len = 0 := Pol.ext fun j => b.lt_len _ (by omega)
theorem tailP_step {p : Int} (b : Fp p) (i : Nat) : tailP b i = Pol.X * tailP b (i + 1) + Pol.C (b.c i) := Pol.ext fun j => by
 rw [Pol.c_add, Pol.c_Xmul, Pol.c_C]
 show b.c (i + j) = (if j = 0 then 0 else b.c (i + 1 + (j - 1))) + if j = 0 then b.c i else 0
 by_cases h : j = 0
 ·subst h; rw [if_pos rfl, if_pos rfl, Gq.zero_add]; rfl
 ·rw [if_neg h, if_neg h, Gq.add_zero, show i + 1 + (j - 1) = i + j by omega]
theorem l_sMulMod {O : Oracle} (hu : K_sUp O) (ha : K_sAdd O) (hmo : K_sMod O) {p : Int} [IsP p] {a b m : Fp p} {z : List Int} (hm : m ≠ 0) (hml : m.len ≤ 64) (hal : a.len ≤ 64) (hbl : b.len ≤ 64) : ∀ (n : Nat), n ≤ b.len →
 dn O 0 (.loop Z2w_L0) ⟨[(0, (.d (.int .i64 p))), (5, .ptr 0 []), (6, .ptr 1 []), (7, .ptr 2 []), (8, .ptr 3 []), (9, .ptr 4 []), (10, (.d (.int .i64 ((n : Int) - 1))))], [.box false (D.arr 64 .leaf (ints .u8 (pad (row a)))), .box false (D.arr 64 .leaf (ints .u8 (pad (row b)))), .box false (D.arr 64 .leaf (ints .u8 (pad (row m)))), .box false (D.arr 64 .leaf (ints .u8 z)), .box false (D.arr 64 .leaf (ints .u8 (pad (row (a * tailP b n % m)))))]⟩ =
  some (.exit 0, ⟨[(0, (.d (.int .i64 p))), (5, .ptr 0 []), (6, .ptr 1 []), (7, .ptr 2 []), (8, .ptr 3 []), (9, .ptr 4 []), (10, (.d (.int .i64 (-1)))), (15, (.d (.bool false)))], [.box false (D.arr 64 .leaf (ints .u8 (pad (row a)))), .box false (D.arr 64 .leaf (ints .u8 (pad (row b)))), .box false (D.arr 64 .leaf (ints .u8 (pad (row m)))), .box false (D.arr 64 .leaf (ints .u8 z)), .box false (D.arr 64 .leaf (ints .u8 (pad (row (a * b % m)))))]⟩)
 | 0, _ => by
  rw [tailP_zero]
  exact dn_stop (by simp -implicitDefEqProofs [Z2w_L0, dn_cond])
 | n + 1, hn => by
  have hp := IsP.pos (p := p)
  have hp7 := IsP.le (p := p)
  have hlr := Pol.len_mod (a * tailP b (n + 1)) hm
  have hr := rep_in (b.c n)
  have e1 := hu p (a * tailP b (n + 1) % m) m hm hlr hml
  have hl2 := Pol.len_mod (Pol.X * (a * tailP b (n + 1) % m)) hm
  have e2 := ha p (rep (b.c n)) (Pol.X * (a * tailP b (n + 1) % m) % m) a (by omega) (by omega) (by omega) hal
  rw [zp_rep] at e2
  have hl3 := Pol.len_add_le (a := Pol.X * (a * tailP b (n + 1) % m) % m) (b := Pol.C (b.c n) * a) (n := 64) (by omega) (Nat.le_trans (Pol.len_le (Pol.lt_Cmul _ a.lt_len)) hal)
  have e3 := hmo p (Pol.X * (a * tailP b (n + 1) % m) % m + Pol.C (b.c n) * a) m hm hl3 hml
  have e4 : (Pol.X * (a * tailP b (n + 1) % m) % m + Pol.C (b.c n) * a) % m = a * tailP b n % m := by
   rw [tailP_step b n, Pol.mod_eq_iff hm, Quo.mk_add, Pol.mk_mod, Quo.mk_mul, Pol.mk_mod, ← Quo.mk_mul, ← Quo.mk_add]
   congr 1
   exact ring_of [Pol.X, a, tailP b (n + 1), Pol.C (b.c n)] rfl
  rw [e4] at e3
  have t0 : (((n + 1 : Nat) : Int) - 1) = (n : Int) := by omega
  rw [t0]
  have hn64 : n < 64 := by omega
  have hx : (pad (row b))[n]? = some (rep (b.c n)) := by rw [pad_get _ _ hn64, row_cf]
  have w1 : IntKind.i64.wrap (rep (b.c n)) = rep (b.c n) := w64 (by omega)
  have w2 : IntKind.i64.wrap ((n : Int) - 1) = (n : Int) - 1 := w64 (by omega)
  refine dn_round ?_ (l_sMulMod hu ha hmo hm hml hal hbl n (by omega))
  generalize pad (row (a * tailP b n % m)) = R at *
  generalize pad (row (a * tailP b (n + 1) % m)) = R1 at *
  generalize pad (row (Pol.X * (a * tailP b (n + 1) % m) % m + Pol.C (b.c n) * a)) = R2 at *
  generalize pad (row (Pol.X * (a * tailP b (n + 1) % m) % m)) = R3 at *
  generalize pad (row a) = PA at *
  generalize pad (row b) = PB at *
  generalize pad (row m) = PM at *
  simp -implicitDefEqProofs [Z2w_L0, dn_cond, e1, e2, e3, hn64, hx, w1, w2]
def K_sMulMod (O : Oracle) : Prop := ∀ (p : Int) [IsP p] (a b m : Fp p), m ≠ 0 → m.len ≤ 64 → a.len ≤ 64 → b.len ≤ 64 →
 ask O F2w [(D.int .i64 p), (D.arr 64 .leaf (ints .u8 (pad (row a)))), (D.arr 64 .leaf (ints .u8 (pad (row b)))), (D.arr 64 .leaf (ints .u8 (pad (row m))))] = some (D.arr 64 .leaf (ints .u8 (pad (row (a * b % m)))))
theorem k_sMulMod (hT : T F2w = some Z2w) (hd : K_sDeg (den T A)) (hu : K_sUp (den T A)) (ha : K_sAdd (den T A)) (hmo : K_sMod (den T A)) : K_sMulMod (den T A) := by
 intro p i a b m hm hml hal hbl
 have e1 := hd p b hbl
 have e2 := l_sMulMod (O := den T A) (z := pad []) hu ha hmo hm hml hal hbl b.len (Nat.le_refl _)
 rw [tailP_top, Gq.mul_zero, Pol.zero_mod hm, row_zero] at e2
 refine ask_of hT rfl ?_
 generalize pad (row (a * b % m)) = R at *
 generalize pad (row a) = PA at *
 generalize pad (row b) = PB at *
 generalize pad (row m) = PM at *
 simp -implicitDefEqProofs [Z2w, Z2w_B, e1, e2]
theorem l_sPow {O : Oracle} (hmm : K_sMulMod O) {p : Int} [IsP p] {m : Fp p} {z : List Int} {hol : Blk} (hh : hol = .hole) (hm : m ≠ 0) (hml : m.len ≤ 64) : ∀ (n : Nat) (k : Int) (out base : Fp p), 0 ≤ k → k.toNat < 2 ^ n → k < 4611686018427387904 → out.len < m.len → base.len < m.len → ∃ base' : List Int,
 dn O 0 (.loop Z31_L0) ⟨[(0, (.d (.int .i64 p))), (2, (.d (.int .i64 k))), (7, .ptr 1 []), (8, .ptr 2 []), (9, .ptr 3 []), (10, .ptr 4 [])], [hol, .box false (D.arr 64 .leaf (ints .u8 (pad (row m)))), .box false (D.arr 64 .leaf (ints .u8 z)), .box false (D.arr 64 .leaf (ints .u8 (pad (row out)))), .box false (D.arr 64 .leaf (ints .u8 (pad (row base))))]⟩ =
  some (.exit 0, ⟨[(0, (.d (.int .i64 p))), (2, (.d (.int .i64 0))), (7, .ptr 1 []), (8, .ptr 2 []), (9, .ptr 3 []), (10, .ptr 4 []), (20, (.d (.bool false)))], [hol, .box false (D.arr 64 .leaf (ints .u8 (pad (row m)))), .box false (D.arr 64 .leaf (ints .u8 z)), .box false (D.arr 64 .leaf (ints .u8 (pad (row (out * pw base k.toNat % m))))), .box false (D.arr 64 .leaf (ints .u8 base'))]⟩) := by
 intro n
 induction n with
 | zero =>
  intro k out base hk hn _ ho hb
  obtain rfl : k = 0 := by simp at hn; omega
  refine ⟨pad (row base), ?_⟩
  have e : out * pw base (0 : Int).toNat % m = out := by
   show out * 1 % m = out
   rw [Gq.mul_one, Pol.mod_small ho]
  rw [e]
  subst hh
  exact dn_stop (by simp -implicitDefEqProofs [Z31_L0, dn_cond])
 | succ n ih =>
  intro k out base hk hn hkm ho hb
  by_cases h0 : k = 0
  ·subst h0
   refine ⟨pad (row base), ?_⟩
   have e : out * pw base (0 : Int).toNat % m = out := by
    show out * 1 % m = out
    rw [Gq.mul_one, Pol.mod_small ho]
   rw [e]
   subst hh
   exact dn_stop (by simp -implicitDefEqProofs [Z31_L0, dn_cond])
  ·have hkp : 0 < k := by omega
   have t1 := hmm p out base m hm hml (by omega) (by omega)
   have t2 := hmm p base base m hm hml (by omega) (by omega)
   have s := Pol.bin_step (out := out) (base := base) hm k.toNat (by omega)
   have hdiv : (k / 2).toNat = k.toNat / 2 := by omega
   obtain ⟨b', e⟩ := ih (k / 2) (if k.toNat % 2 = 1 then out * base % m else out) (base * base % m) (by omega) (by rw [Nat.pow_succ] at hn; omega) (by omega) (by split; exact Pol.len_mod _ hm; exact ho) (Pol.len_mod _ hm)
   rw [hdiv, s] at e
   refine ⟨b', dn_round ?_ e⟩
   subst hh
   have w1 : IntKind.i64.wrap (k.tdiv 2) = k / 2 := by rw [Int.tdiv_eq_ediv_of_nonneg hk, w64 (by omega)]
   have w2 : k.tmod 2 = k % 2 := Int.tmod_eq_emod_of_nonneg hk
   by_cases hodd : k % 2 = 1
   ·rw [if_pos (show k.toNat % 2 = 1 by omega)]
    generalize pad (row (out * base % m)) = R1 at *
    generalize pad (row (base * base % m)) = R2 at *
    generalize pad (row out) = R3 at *
    generalize pad (row base) = R4 at *
    generalize pad (row m) = R5 at *
    simp -implicitDefEqProofs [Z31_L0, dn_cond, hkp, t1, t2, w1, w2, hodd]
   ·rw [if_neg (show ¬ k.toNat % 2 = 1 by omega)]
    generalize pad (row (base * base % m)) = R2 at *
    generalize pad (row out) = R3 at *
    generalize pad (row base) = R4 at *
    generalize pad (row m) = R5 at *
    simp -implicitDefEqProofs [Z31_L0, dn_cond, hkp, t2, w1, w2, hodd]
def K_sPowMod (O : Oracle) : Prop := ∀ (p : Int) [IsP p] (a : Fp p) (k : Int) (m : Fp p), m ≠ 0 → a.len ≤ 64 → m.len ≤ 64 → 0 ≤ k → k < 4611686018427387904 →
 ask O F31 [(D.int .i64 p), (D.arr 64 .leaf (ints .u8 (pad (row a)))), (D.int .i64 k), (D.arr 64 .leaf (ints .u8 (pad (row m))))] = some (D.arr 64 .leaf (ints .u8 (pad (row (pw a k.toNat % m)))))
theorem k_sPowMod (hT : T F31 = some Z31) (h1 : K_sOne (den T A)) (hmo : K_sMod (den T A)) (hmm : K_sMulMod (den T A)) : K_sPowMod (den T A) := by
 intro p i a k m hm hal hml hk hkm
 have e1 := h1 p
 have e2 := hmo p 1 m hm (by rw [Pol.len_one]; omega) hml
 have e3 := hmo p a m hm hal hml
 obtain ⟨b', e⟩ := l_sPow (O := den T A) hmm (z := pad []) (hol := .hole) rfl hm hml 62 k (1 % m) (a % m) hk (by omega) hkm (Pol.len_mod _ hm) (Pol.len_mod _ hm)
 have e4 : 1 % m * pw (a % m) k.toNat % m = pw a k.toNat % m := by
  rw [Pol.mul_mod_left _ _ hm, Gq.one_mul, Pol.pow_mod _ hm]
 rw [e4] at e
 refine ask_of hT rfl ?_
 generalize pad (row (pw a k.toNat % m)) = R at *
 generalize pad (row (1 % m)) = R1 at *
 generalize pad (row (a % m)) = R2 at *
 generalize pad (row (1 : Fp p)) = R3 at *
 generalize pad (row a) = PA at *
 generalize pad (row m) = PM at *
 simp -implicitDefEqProofs [Z31, Z31_B, e1, e2, e3, e]
end Pe

namespace Pe
open Go Gq
variable {T : Nat → Option Fn} {A : Oracle}
def puts : List Int → Nat → List Int → List Int
 | [], _, cur => cur
 | d :: ds, i, cur => puts ds (i + 1) (cur.set i d)
theorem puts_length : ∀ (ds : List Int) (i : Nat) (cur : List Int), (puts ds i cur).length = cur.length
 | [], _, _ => rfl
 | d :: ds, i, cur => by rw [puts, puts_length, List.length_set]
theorem puts_cf : ∀ (ds : List Int) (i : Nat) (cur : List Int) (j : Nat), i + ds.length ≤ cur.length → cf (puts ds i cur) j = if i ≤ j ∧ j < i + ds.length then cf ds (j - i) else cf cur j
 | [], i, cur, j, _ => by rw [puts, if_neg (by rintro ⟨h1, h2⟩; rw [List.length_nil] at h2; omega)]
 | d :: ds, i, cur, j, h => by
  simp at h
  rw [puts, puts_cf ds (i + 1) _ j (by rw [List.length_set]; omega), cf_set, List.length_cons]
  by_cases h1 : j = i
  ·subst h1
   rw [if_neg (by omega), if_pos ⟨rfl, by omega⟩, if_pos (by omega), Nat.sub_self]; rfl
  ·by_cases h2 : i + 1 ≤ j ∧ j < i + 1 + ds.length
   ·rw [if_pos h2, if_pos (by omega)]
    obtain ⟨k, hk⟩ : ∃ k, j - i = k + 1 := ⟨j - i - 1, by omega⟩
    rw [hk, show j - (i + 1) = k by omega]
    simp [cf]
   ·rw [if_neg h2, if_neg (by omega), if_neg (by omega)]
theorem puts_pad {ds : List Int} (h : ds.length ≤ 64) : puts ds 0 (pad []) = pad ds := by
 symm
 apply pad_eq (by rw [puts_length, pad_length])
 intro i hi
 rw [puts_cf _ _ _ _ (by rw [pad_length]; omega)]
 by_cases h1 : i < ds.length
 ·rw [if_pos (by omega), Nat.sub_zero]
 ·rw [if_neg (by omega), pad_cf (by simp), cf_ge (by omega), cf_ge (by simp)]
theorem l_sOf {O : Oracle} {p : Int} [IsP p] {z : List Int} : ∀ (f : Nat) (n : Int) (i : Nat) (cur : List Int), 0 ≤ n → n < 2 ^ f → n < 9223372036854775807 → i + f ≤ 64 → cur.length = 64 → ∃ i' : Nat,
 dn O 0 (.loop Z2y_L0) ⟨[(0, (.d (.int .i64 p))), (1, (.d (.int .i64 n))), (4, .ptr 0 []), (5, .ptr 1 []), (6, (.d (.int .i64 i)))], [.box false (D.arr 64 .leaf (ints .u8 z)), .box false (D.arr 64 .leaf (ints .u8 cur))]⟩ =
  some (.exit 0, ⟨[(0, (.d (.int .i64 p))), (1, (.d (.int .i64 0))), (4, .ptr 0 []), (5, .ptr 1 []), (6, (.d (.int .i64 i'))), (9, (.d (.bool false)))], [.box false (D.arr 64 .leaf (ints .u8 z)), .box false (D.arr 64 .leaf (ints .u8 (puts (dgs p f n) i cur)))]⟩)
 | 0, n, i, cur, h0, hn, hm, hi, hc => by
  obtain rfl : n = 0 := by simp at hn; omega
  exact ⟨i, dn_stop (by simp -implicitDefEqProofs [Z2y_L0, dn_cond, dgs, puts])⟩
 | f + 1, n, i, cur, h0, hn, hm, hi, hc => by
  have hp := IsP.ge (p := p)
  have hp7 := IsP.le (p := p)
  by_cases hz : n = 0
  ·subst hz
   refine ⟨i, ?_⟩
   rw [dgs, if_pos (Int.le_refl 0), puts]
   exact dn_stop (by simp -implicitDefEqProofs [Z2y_L0, dn_cond])
  ·have hd : n / p < 2 ^ f := by
    apply Int.ediv_lt_of_lt_mul (by omega)
    have : (2 : Int) ^ (f + 1) = 2 ^ f * 2 := Int.pow_succ _ _
    have h2 : (2 : Int) ^ f * 2 ≤ 2 ^ f * p := Int.mul_le_mul_of_nonneg_left hp (Int.pow_nonneg (by omega))
    omega
   have hdn : 0 ≤ n / p := Int.ediv_nonneg (by omega) (by omega)
   have hdl : n / p ≤ n := Int.ediv_le_self _ h0
   obtain ⟨i', e⟩ := l_sOf (O := O) (p := p) (z := z) f (n / p) (i + 1) (cur.set i (n % p)) hdn hd (by omega) (by omega) (by simpa using hc)
   have hpos : 0 < n := by omega
   have hr : 0 ≤ n % p ∧ n % p < p := ⟨Int.emod_nonneg _ (by omega), Int.emod_lt_of_pos _ (by omega)⟩
   have w1 : IntKind.i64.wrap (n.tdiv p) = n / p := by rw [Int.tdiv_eq_ediv_of_nonneg h0, w64 (by omega)]
   have w2 : n.tmod p = n % p := Int.tmod_eq_emod_of_nonneg h0
   have w3 : IntKind.u8.wrap (n % p) = n % p := w8 (by omega)
   have w4 : IntKind.i64.wrap ((i : Int) + 1) = ((i + 1 : Nat) : Int) := (w64 (x := (i : Int) + 1) (by omega)).trans (by omega)
   have hp0 : p ≠ 0 := by omega
   have hi64 : i < 64 := by omega
   have hic : i < cur.length := by omega
   refine ⟨i', ?_⟩
   rw [dgs, if_neg (by omega), puts]
   refine dn_round ?_ e
   simp -implicitDefEqProofs [Z2y_L0, dn_cond, hpos, w1, w2, w3, w4, hp0, hi64, hic]
def K_sOf (O : Oracle) : Prop := ∀ (p : Int) [IsP p] (n : Int), 0 ≤ n → n < 4611686018427387904 → ask O F2y [(D.int .i64 p), (D.int .i64 n)] = some (D.arr 64 .leaf (ints .u8 (pad (row (numP p n)))))
theorem k_sOf (hT : T F2y = some Z2y) : K_sOf (den T A) := by
 intro p i n h0 hn
 obtain ⟨i', e⟩ := l_sOf (O := den T A) (p := p) (z := pad []) 64 n 0 (pad []) h0 (by omega) (by omega) (by omega) (pad_length _)
 rw [puts_pad (dgs_le p 64 n), ← row_numP (by omega)] at e
 have e0 : ((0 : Nat) : Int) = 0 := rfl
 rw [e0] at e
 refine ask_of hT rfl ?_
 generalize pad (row (numP p n)) = R at *
 simp -implicitDefEqProofs [Z2y, Z2y_B, e]
theorem beqs_ints (k : IntKind) : ∀ {l m : List Int}, l.length = m.length → D.beqs .int (ints k l) (ints k m) = some (decide (l = m))
 | [], [], _ => by simp [D.beqs, ints]
 | x :: l, y :: m, h => by
  have e : D.beqs .int (ints k (x :: l)) (ints k (y :: m)) = (D.beq .int (.int k x) (.int k y)).bind fun b => if b then D.beqs .int (ints k l) (ints k m) else some false := rfl
  rw [e]
  have e2 : D.beq .int (.int k x) (.int k y) = some (decide (x = y)) := by simp [D.beq]
  rw [e2, Option.bind_some, beqs_ints k (by simpa using h)]
  by_cases h1 : x = y
  ·subst h1; simp
  ·simp [h1]
theorem beq_P {l m : List Int} (hl : l.length = 64) (hm : m.length = 64) : D.beq (.arr 64 .leaf .int) (D.arr 64 .leaf (ints .u8 l)) (D.arr 64 .leaf (ints .u8 m)) = some (decide (l = m)) := by
 have e : D.beq (.arr 64 .leaf .int) (D.arr 64 .leaf (ints .u8 l)) (D.arr 64 .leaf (ints .u8 m)) = if 64 = 64 ∧ 64 = 64 ∧ Sh.beq .leaf .leaf ∧ Sh.beq .leaf .leaf then D.beqs .int (ints .u8 l) (ints .u8 m) else none := rfl
 rw [e, if_pos ⟨rfl, rfl, rfl, rfl⟩, beqs_ints _ (by omega)]
theorem pad_row_inj {p : Int} {a b : Fp p} (ha : a.len ≤ 64) (hb : b.len ≤ 64) : pad (row a) = pad (row b) ↔ a = b := by
 constructor
 ·intro h
  rw [← polOf_pad ha, h, polOf_pad hb]
 ·rintro rfl; rfl
theorem beq_poly {p : Int} {a b : Fp p} (_ha : a.len ≤ 64) (_hb : b.len ≤ 64) : D.beq (.arr 64 .leaf .int) (D.arr 64 .leaf (ints .u8 (pad (row a)))) (D.arr 64 .leaf (ints .u8 (pad (row b)))) = some (decide (pad (row a) = pad (row b))) := beq_P (pad_length _) (pad_length _)
section
variable {p : Int} [IsP p]
structure SInv (a0 : Fp p) (k : Int) (a : Fp p) (out : Facs p) : Prop where
 ne : a ≠ 0
 eq : a0 = a * prodF out
 ok : FacOk out
 so : out.Pairwise fun x y => numOf x.1 < numOf y.1
 lt : ∀ x ∈ out, numOf x.1 < k
 ge : ∀ q, Irr q → Monic q → Dv q a → k ≤ numOf q
 ln : out.length + a.len ≤ 13
structure SEnd (a0 a : Fp p) (out : Facs p) : Prop where
 ne : a ≠ 0
 eq : a0 = a * prodF out
 ok : FacOk out
 so : out.Pairwise fun x y => numOf x.1 < numOf y.1
 irr : 2 ≤ a.len → Irr a ∧ ∀ x ∈ out, numOf x.1 < numOf (mon a)
 ln : out.length + a.len ≤ 13
theorem mon_irr_dv {q a : Fp p} (hq : Irr q) (h : Dv q a) : Dv (mon q) a := (mon_dv hq.ne).2 h
theorem SInv.small {a0 a : Fp p} {n : Nat} {k : Int} {out : Facs p} (h : SInv a0 k a out) (_hn : n ≤ 12) (hk : p ^ n ≤ k) : NoSmall n a := by
 intro q hq hd
 have h1 := h.ge _ hq.mon (mon_monic hq.ne) (mon_irr_dv hq hd)
 have h2 := numOf_in (mon q)
 rw [mon_len hq.ne] at h2
 apply Classical.byContradiction
 intro hx
 have := ipow_mono (p := p) (by have := IsP.pos (p := p); omega) (show q.len ≤ n by omega)
 omega
theorem SInv.end' {a0 a : Fp p} {n : Nat} {k : Int} {out : Facs p} (h : SInv a0 k a out) (hn : n ≤ 12) (hk : p ^ n ≤ k) (hs : a.len < 2 * n + 1) : SEnd a0 a out :=
 ⟨h.ne, h.eq, h.ok, h.so, fun hl => by
  have hi := irr_of_noSmall (h.small hn hk) hl hs
  have h1 := h.ge _ hi.mon (mon_monic hi.ne) ((mon_dv hi.ne).2 (.refl a))
  exact ⟨hi, fun x hx => by have := h.lt x hx; omega⟩, h.ln⟩
theorem SInv.step {a0 a : Fp p} {n : Nat} {k : Int} {out : Facs p} (h : SInv a0 k a out) (hn1 : 1 ≤ n) (hn : n ≤ 12) (hk : p ^ n ≤ k) (hk2 : k < 2 * p ^ n) {j : Nat} {r : Fp p} (h1 : a = r * pw (numP p k) j) (h2 : ¬ Dv (numP p k) r) :
 SInv a0 (k + 1) r (if j = 0 then out else out ++ [(numP p k, j)]) := by
 obtain ⟨m1, m2⟩ := numP_monic hn hk hk2
 have hb := ppow_le (p := p) hn
 have hpos := ppow_pos (p := p) n
 have hnum : numOf (numP p k) = k := numOf_numP ⟨by omega, by omega⟩
 have hr0 : r ≠ 0 := fun h0 => h.ne (by rw [h1, h0, Gq.zero_mul])
 have ge' : ∀ q, Irr q → Monic q → Dv q r → k + 1 ≤ numOf q := by
  intro q hq hm hd
  have g1 := h.ge q hq hm (by rw [h1]; exact hd.mul_right _)
  have g2 : numOf q ≠ k := fun e => by
   have : q = numP p k := numOf_inj (by rw [e, hnum])
   exact h2 (this ▸ hd)
  omega
 by_cases hj : j = 0
 ·subst hj
  rw [if_pos rfl]
  rw [pw, Gq.mul_one] at h1
  subst h1
  exact ⟨h.ne, h.eq, h.ok, h.so, fun x hx => by have := h.lt x hx; omega, ge', h.ln⟩
 ·rw [if_neg hj]
  have hda : Dv (numP p k) a := by
   obtain ⟨i, rfl⟩ : ∃ i, j = i + 1 := ⟨j - 1, by omega⟩
   rw [h1, pw]
   exact ((Dv.refl _).mul_left _).mul_left _
  have hi : Irr (numP p k) := by
   refine Irr.of_dv (by omega) fun u hu => ?_
   have hul := hu.len m1.2
   have hu0 : u ≠ 0 := fun h0 => by
    obtain ⟨c, hc⟩ := hu
    exact m1.2 (by rw [hc, h0, Gq.zero_mul])
   have hup := Pol.len_pos hu0
   by_cases hu1 : u.len = 1
   ·exact .inl hu1
   ·right
    obtain ⟨q, q1, q2, q3⟩ := irr_ex u.len u (Nat.le_refl _) (by omega)
    have g1 := h.ge q q1 q2 ((q3.trans hu).trans hda)
    have g2 := q3.len hu0
    apply Classical.byContradiction
    intro hx
    have g3 := numOf_len (a := q) (b := numP p k) (by omega)
    omega
  have hlt : r.len < a.len := by
   obtain ⟨i, rfl⟩ : ∃ i, j = i + 1 := ⟨j - 1, by omega⟩
   have hi0 := pw_ne hi.ne i
   have l1 := Pol.len_mul hi0 hi.ne
   have l2 := Pol.len_mul hr0 (Pol.mul_ne hi0 hi.ne)
   have l3 := Pol.len_pos hi0
   rw [h1, pw]; omega
  refine ⟨hr0, ?_, h.ok.snoc hi m1 (by omega) fun x hx e => ?_, ?_, ?_, ge', ?_⟩
  ·rw [h.eq, prodF_snoc]
   conv => lhs; rw [h1]
   exact ring_of [r, pw (numP p k) j, prodF out] rfl
  ·have := h.lt x hx
   rw [e, hnum] at this; omega
  ·rw [List.pairwise_append]
   refine ⟨h.so, List.pairwise_singleton _ _, fun x hx y hy => ?_⟩
   simp at hy; subst hy
   have := h.lt x hx
   rw [hnum]; exact this
  ·intro x hx
   rcases List.mem_append.1 hx with hx | hx
   ·have := h.lt x hx; omega
   ·simp at hx; subst hx; rw [hnum]; omega
  ·have := h.ln
   simp; omega
theorem SInv.next {a0 a : Fp p} {n : Nat} {out : Facs p} (h : SInv a0 (2 * p ^ n) a out) (hn : n ≤ 11) : SInv a0 (p ^ (n + 1)) a out := by
 refine ⟨h.ne, h.eq, h.ok, h.so, fun x hx => ?_, fun q hq hm hd => ?_, h.ln⟩
 ·have := h.lt x hx
  have := ppow_succ (p := p) n
  omega
 ·have h1 := h.ge q hq hm hd
  have hq0 := Pol.len_pos hm.2
  rcases Nat.lt_or_ge (n + 1) q.len with h2 | h2
  ·obtain ⟨d, hd'⟩ : ∃ d, q.len = d + 1 := ⟨q.len - 1, by omega⟩
   have hl := hd.len h.ne
   have hln := h.ln
   have h3 := numOf_monic (n := d) (by omega) hm hd'
   have := ipow_mono (p := p) (by have := IsP.pos (p := p); omega) (show n + 1 ≤ d by omega)
   omega
  ·exfalso
   obtain ⟨d, hd'⟩ : ∃ d, q.len = d + 1 := ⟨q.len - 1, by omega⟩
   have h3 := numOf_monic (n := d) (by omega) hm hd'
   have := ipow_mono (p := p) (by have := IsP.pos (p := p); omega) (show d ≤ n by omega)
   omega
theorem SInv.init {a : Fp p} (ha : a ≠ 0) (hl : a.len ≤ 13) : SInv a (p ^ 1) a [] :=
 ⟨ha, (Gq.mul_one a).symm, ⟨by simp, .nil⟩, .nil, by simp, fun q hq hm _ => by
  have h1 := hq.len
  obtain ⟨d, hd'⟩ : ∃ d, q.len = d + 1 := ⟨q.len - 1, by omega⟩
  by_cases hd12 : d ≤ 12
  ·have h3 := numOf_monic (n := d) hd12 hm hd'
   have := ipow_mono (p := p) (by have := IsP.pos (p := p); omega) (show 1 ≤ d by omega)
   omega
  ·have h4 := numOf_len (a := numP p (p ^ 1)) (b := q) (by
    have := (numP_monic (p := p) (n := 1) (by omega) (Int.le_refl _) (by have := ppow_pos (p := p) 1; omega)).2
    omega)
   have h5 : numOf (numP p (p ^ 1)) = p ^ 1 := numOf_numP ⟨Int.le_of_lt (ppow_pos 1), by have := ppow_le (p := p) (n := 1) (by omega); omega⟩
   omega, by simpa using hl⟩
theorem SEnd.fac {a0 a : Fp p} {out : Facs p} (h : SEnd a0 a out) (h0 : a0 ≠ 0) : Pe.fac a0 = if 2 ≤ a.len then out ++ [(mon a, 1)] else out := by
 apply fac_eq h0
 have hP := prodF_monic h.ok
 have hld : a0.ld = a.ld := by rw [h.eq, Pol.ld_mul h.ne hP.2, hP.1, Gq.mul_one]
 split
 ·rename_i hl
  obtain ⟨hi, hx⟩ := h.irr hl
  refine ⟨h.ok.snoc hi.mon (mon_monic h.ne) (Nat.le_refl 1) fun x hx' e => ?_, ?_, ?_⟩
  ·have := hx x hx'
   rw [e] at this; omega
  ·rw [List.pairwise_append]
   refine ⟨h.so, List.pairwise_singleton _ _, fun x hx' y hy => ?_⟩
   simp at hy; subst hy; exact hx x hx'
  ·rw [prodF_snoc, hld]
   show a0 = Pol.C a.ld * (prodF out * pw (mon a) 1)
   rw [pw_1, h.eq]
   conv => lhs; rw [eq_mon h.ne]
   exact ring_of [Pol.C a.ld, mon a, prodF out] rfl
 ·rename_i hl
  have hp := Pol.len_pos h.ne
  obtain ⟨c, hc, rfl⟩ := unit_of_len (show a.len = 1 by omega)
  refine ⟨h.ok, h.so, ?_⟩
  rw [hld, Pol.ld_C hc]; exact h.eq
end
end Pe

namespace Pe
open Go Gq
variable {T : Nat → Option Fn} {A : Oracle}
abbrev facSh8 : Sh := .st [.arr 64 .leaf, .leaf]
noncomputable abbrev facP {p : Int} (x : Fp p × Nat) : D := .st [.arr 64 .leaf, .leaf] [(D.arr 64 .leaf (ints .u8 (pad (row x.1)))), (D.int .i64 x.2)]
section
variable {p : Int} [IsP p]
theorem l_sSp0 {O : Oracle} (hdv : K_sDivide O) (hdg : K_sDeg O) {m : Fp p} {n : Nat} (hm : m ≠ 0) (hml : m.len = n + 1) (hn1 : 1 ≤ n) (hn : n ≤ 12) {st kv : V} {ob : Blk} (hst : st.refs = [1]) (hkv : kv.refs = []) : ∀ (f : Nat) (a : Fp p) (i : Nat), a.len ≤ f → a ≠ 0 → a.len ≤ 13 → i + f ≤ 1000 → ∃ (j : Nat) (r : Fp p), a = r * pw m j ∧ ¬ Dv m r ∧
 ((dn O 0 (.loop Z3b_L0) ⟨[(0, (.d (.int .i64 p))), (3, .ptr 0 []), (5, st), (6, (.d (.int .i64 n))), (7, kv), (8, .ptr 2 []), (9, (.d (.int .i64 i)))], [.box false (D.arr 64 .leaf (ints .u8 (pad (row a)))), ob, .box false (D.arr 64 .leaf (ints .u8 (pad (row m)))), .hole, .hole, .hole, .hole, .hole, .hole, .hole]⟩ =
   some (.exit 4, ⟨[(0, (.d (.int .i64 p))), (3, .ptr 0 []), (5, st), (6, (.d (.int .i64 n))), (7, kv), (8, .ptr 2 []), (9, (.d (.int .i64 ((i + j : Nat))))), (47, (.d (.bool false)))], [.box false (D.arr 64 .leaf (ints .u8 (pad (row r)))), ob, .box false (D.arr 64 .leaf (ints .u8 (pad (row m)))), .hole, .hole, .hole, .hole, .hole, .hole, .hole]⟩)) ∨
 (∃ q : List Int, dn O 0 (.loop Z3b_L0) ⟨[(0, (.d (.int .i64 p))), (3, .ptr 0 []), (5, st), (6, (.d (.int .i64 n))), (7, kv), (8, .ptr 2 []), (9, (.d (.int .i64 i)))], [.box false (D.arr 64 .leaf (ints .u8 (pad (row a)))), ob, .box false (D.arr 64 .leaf (ints .u8 (pad (row m)))), .hole, .hole, .hole, .hole, .hole, .hole, .hole]⟩ =
  some (.exit 4, ⟨[(0, (.d (.int .i64 p))), (3, .ptr 0 []), (5, st), (6, (.d (.int .i64 n))), (7, kv), (8, .ptr 2 []), (9, (.d (.int .i64 ((i + j : Nat))))), (10, .ptr 3 []), (57, (.d (.bool true)))], [.box false (D.arr 64 .leaf (ints .u8 (pad (row r)))), ob, .box false (D.arr 64 .leaf (ints .u8 (pad (row m)))), .box false (D.arr 64 .leaf (ints .u8 q)), .hole, .hole, .hole, .hole, .hole, .hole]⟩)))
 | 0, a, i, hf, ha, _, _ => absurd (Pol.len_zero_iff.1 (by omega)) ha
 | f + 1, a, i, hf, ha, hl13, hi => by
  have e1 := hdg p a (by omega)
  have hap := Pol.len_pos ha
  by_cases hlt : a.len < n + 1
  ·refine ⟨0, a, (Gq.mul_one a).symm, fun h => by have := h.len ha; omega, .inl (dn_stop ?_)⟩
   have h1 : ¬ (n : Int) ≤ (a.len : Int) - 1 := by omega
   simp -implicitDefEqProofs [Z3b_L0, dn_cond, e1, h1, hst, hkv]
  ·have h1 : (n : Int) ≤ (a.len : Int) - 1 := by omega
   have e2 := hdv p a m hm (by omega) (by omega)
   have hml2 : m.len ≤ 64 := by omega
   have hlr := Pol.len_mod a hm
   have e3 := beq_poly (p := p) (a := a % m) (b := 0) (by omega) (by rw [Pol.len_zero]; omega)
   rw [row_zero] at e3
   have e4 : pad (row (a % m)) = pad [] ↔ a % m = 0 := by
    have := pad_row_inj (p := p) (a := a % m) (b := 0) (by omega) (by rw [Pol.len_zero]; omega)
    rwa [row_zero] at this
   by_cases h0 : a % m = 0
   ·have hd := Pol.div_mod a m
    rw [h0, Gq.add_zero] at hd
    have hq : a / m ≠ 0 := fun h => ha (by rw [hd, h, Gq.zero_mul])
    have hl := Pol.len_mul hq hm
    rw [← hd] at hl
    rw [decide_eq_true (e4.2 h0)] at e3
    obtain ⟨j, r, g1, g2, g3⟩ := l_sSp0 (ob := ob) hdv hdg hm hml hn1 hn hst hkv f (a / m) (i + 1) (by omega) hq (by omega) (by omega)
    have w1 : IntKind.i64.wrap ((i : Int) + 1) = ((i + 1 : Nat) : Int) := (w64 (x := (i : Int) + 1) (by omega)).trans (by omega)
    have body : dn O 0 Z3b_L0 ⟨[(0, (.d (.int .i64 p))), (3, .ptr 0 []), (5, st), (6, (.d (.int .i64 n))), (7, kv), (8, .ptr 2 []), (9, (.d (.int .i64 i)))], [.box false (D.arr 64 .leaf (ints .u8 (pad (row a)))), ob, .box false (D.arr 64 .leaf (ints .u8 (pad (row m)))), .hole, .hole, .hole, .hole, .hole, .hole, .hole]⟩ =
     some (.normal, ⟨[(0, (.d (.int .i64 p))), (3, .ptr 0 []), (5, st), (6, (.d (.int .i64 n))), (7, kv), (8, .ptr 2 []), (9, (.d (.int .i64 ((i + 1 : Nat)))))], [.box false (D.arr 64 .leaf (ints .u8 (pad (row (a / m))))), ob, .box false (D.arr 64 .leaf (ints .u8 (pad (row m)))), .hole, .hole, .hole, .hole, .hole, .hole, .hole]⟩) := by
     generalize pad (row (a / m)) = R1 at *
     generalize pad (row (a % m)) = R2 at *
     generalize pad (row a) = PA at *
     generalize pad (row m) = PM at *
     simp -implicitDefEqProofs [Z3b_L0, dn_cond, e1, h1, e2, e3, w1, hst, hkv]
    refine ⟨j + 1, r, by rw [pw, ← Gq.mul_assoc, ← g1]; exact hd, g2, ?_⟩
    rw [show i + (j + 1) = i + 1 + j by omega]
    rcases g3 with g3 | ⟨q, g3⟩
    ·exact .inl (dn_round body g3)
    ·exact .inr ⟨q, dn_round body g3⟩
   ·rw [decide_eq_false (mt e4.1 h0)] at e3
    refine ⟨0, a, (Gq.mul_one a).symm, fun hdv' => h0 ((dv_iff_mod hm).1 hdv'), .inr ⟨pad (row (a / m)), dn_stop ?_⟩⟩
    generalize pad (row (a / m)) = R1 at *
    generalize pad (row (a % m)) = R2 at *
    generalize pad (row a) = PA at *
    generalize pad (row m) = PM at *
    simp -implicitDefEqProofs [Z3b_L0, dn_cond, e1, h1, e2, e3, hst, hkv]
theorem l_sSp1 {O : Oracle} (hdv : K_sDivide O) (hdg : K_sDeg O) (hcn : K_sCount O) (hof : K_sOf O) {a0 : Fp p} {n : Nat} (hn1 : 1 ≤ n) (hn : n ≤ 12) : ∀ (f : Nat) (k : Int) (a : Fp p) (out : Facs p) (cp : Option Nat), p ^ n ≤ k → k ≤ 2 * p ^ n → (2 * p ^ n - k).toNat ≤ f → SInv a0 k a out → ∃ (k' : Int) (a' : Fp p) (out' : Facs p) (cp' : Option Nat), SInv a0 k' a' out' ∧ p ^ n ≤ k' ∧ k' ≤ 2 * p ^ n ∧ (k' = 2 * p ^ n ∨ a'.len < 2 * n + 1) ∧
 dn O 0 (.loop Z3b_L1) ⟨[(0, (.d (.int .i64 p))), (3, .ptr 0 []), (5, .sl 1 [] 0 out.length cp), (6, (.d (.int .i64 n))), (7, (.d (.int .i64 k)))], [.box false (D.arr 64 .leaf (ints .u8 (pad (row a)))), .sl false facSh8 (out.map facP), .hole, .hole, .hole, .hole, .hole, .hole, .hole, .hole]⟩ =
  some (.exit 2, ⟨[(0, (.d (.int .i64 p))), (3, .ptr 0 []), (5, .sl 1 [] 0 out'.length cp'), (6, (.d (.int .i64 n))), (7, (.d (.int .i64 k'))), (38, (.d (.bool false)))], [.box false (D.arr 64 .leaf (ints .u8 (pad (row a')))), .sl false facSh8 (out'.map facP), .hole, .hole, .hole, .hole, .hole, .hole, .hole, .hole]⟩)
 | f, k, a, out, cp, hk1, hk2, hf, h => by
  have hb := ppow_le (p := p) hn
  have hpos := ppow_pos (p := p) n
  have hln := h.ln
  have hap := Pol.len_pos h.ne
  have e1 := k_sCount' hcn p n hn
  have e2 := hdg p a (by omega)
  have w1 : IntKind.i64.wrap (2 * p ^ n) = 2 * p ^ n := w64 (by omega)
  have w2 : IntKind.i64.wrap (2 * (n : Int)) = 2 * (n : Int) := w64 (by omega)
  by_cases hke : k = 2 * p ^ n
  ·refine ⟨k, a, out, cp, h, hk1, hk2, .inl hke, dn_stop ?_⟩
   have h1 : ¬ k < 2 * p ^ n := by omega
   generalize p ^ n = N at *
   generalize pad (row a) = PA at *
   generalize out.map facP = LD at *
   simp -implicitDefEqProofs [Z3b_L1, dn_cond, e1, w1, h1]
  ·have h1 : k < 2 * p ^ n := by omega
   by_cases hs : a.len < 2 * n + 1
   ·refine ⟨k, a, out, cp, h, hk1, hk2, .inr hs, dn_stop ?_⟩
    have h2 : ¬ 2 * (n : Int) ≤ (a.len : Int) - 1 := by omega
    generalize p ^ n = N at *
    generalize pad (row a) = PA at *
    generalize out.map facP = LD at *
    simp -implicitDefEqProofs [Z3b_L1, dn_cond, e1, e2, w1, w2, h1, h2]
   ·cases f with
    | zero => omega
    | succ f =>
     have h2 : 2 * (n : Int) ≤ (a.len : Int) - 1 := by omega
     obtain ⟨m1, m2⟩ := numP_monic hn hk1 h1
     have e3 := hof p k (by omega) (by omega)
     obtain ⟨j, r, g1, g2, g3⟩ := l_sSp0 hdv hdg (m := numP p k) m1.2 m2 hn1 hn (st := .sl 1 [] 0 out.length cp) (kv := (.d (.int .i64 k))) (ob := .sl false facSh8 (out.map facP)) rfl rfl a.len a 0 (Nat.le_refl _) h.ne (by omega) (by omega)
     have hstep := h.step hn1 hn hk1 h1 g1 g2
     have w3 : IntKind.i64.wrap (k + 1) = k + 1 := w64 (by omega)
     have e0 : ((0 : Nat) : Int) = 0 := rfl
     have h8 : (out.length + 1) * 72 ≤ 1099511627776 := by omega
     have ht : (out.map facP).take out.length = out.map facP := List.take_of_length_le (by simp)
     have hL : (out.map facP).length = out.length := by simp
     rw [e0, Nat.zero_add] at g3
     by_cases hj : j = 0
     ·subst hj
      rw [if_pos rfl] at hstep
      obtain ⟨k', a', out', cp', i1, i2, i3, i4, e⟩ := l_sSp1 hdv hdg hcn hof hn1 hn f (k + 1) r out cp (by omega) (by omega) (by omega) hstep
      refine ⟨k', a', out', cp', i1, i2, i3, i4, dn_round ?_ e⟩
      rw [e0] at g3
      generalize p ^ n = N at *
      generalize pad (row a) = PA at *
      generalize pad (row r) = PR at *
      generalize pad (row (numP p k)) = PM at *
      generalize out.map facP = LD at *
      rcases g3 with g3 | ⟨q, g3⟩
      ·simp -implicitDefEqProofs [Z3b_L1, dn_cond, e1, e2, e3, w1, w2, w3, h1, h2, g3]
      ·simp -implicitDefEqProofs [Z3b_L1, dn_cond, e1, e2, e3, w1, w2, w3, h1, h2, g3]
     ·rw [if_neg hj] at hstep
      obtain ⟨k', a', out', cp', i1, i2, i3, i4, e⟩ := l_sSp1 hdv hdg hcn hof hn1 hn f (k + 1) r (out ++ [(numP p k, j)]) none (by omega) (by omega) (by omega) hstep
      refine ⟨k', a', out', cp', i1, i2, i3, i4, dn_round ?_ e⟩
      have o1 : (out ++ [(numP p k, j)]).map facP = out.map facP ++ [facP (numP p k, j)] := by simp
      have o2 : (out ++ [(numP p k, j)]).length = out.length + 1 := by simp
      have hj0 : 0 < j := by omega
      rw [o1, o2]
      simp only [facP]
      have hfp : (out.map fun x : Fp p × Nat => D.st [.arr 64 .leaf, .leaf] [(D.arr 64 .leaf (ints .u8 (pad (row x.1)))), (D.int .i64 x.2)]) = out.map facP := rfl
      rw [hfp]
      generalize p ^ n = N at *
      generalize pad (row a) = PA at *
      generalize pad (row r) = PR at *
      generalize pad (row (numP p k)) = PM at *
      generalize out.map facP = LD at *
      rcases g3 with g3 | ⟨q, g3⟩
      ·simp -implicitDefEqProofs [Z3b_L1, dn_cond, e1, e2, e3, w1, w2, w3, h1, h2, g3, hj0, h8, ht, hL, List.replicate]
      ·simp -implicitDefEqProofs [Z3b_L1, dn_cond, e1, e2, e3, w1, w2, w3, h1, h2, g3, hj0, h8, ht, hL, List.replicate]
end
end Pe


namespace Pe
open Go Gq
variable {T : Nat → Option Fn} {A : Oracle}
section
variable {p : Int} [IsP p]
theorem l_sSp2 {O : Oracle} (hdv : K_sDivide O) (hdg : K_sDeg O) (hcn : K_sCount O) (hof : K_sOf O) {a0 : Fp p} : ∀ (f n : Nat) (a : Fp p) (out : Facs p) (cp : Option Nat), 1 ≤ n → n + f = 9 → (SInv a0 (p ^ n) a out ∨ (SEnd a0 a out ∧ a.len < 2 * n + 1)) → ∃ (n' : Int) (a' : Fp p) (out' : Facs p) (cp' : Option Nat), SEnd a0 a' out' ∧
 dn O 0 (.loop Z3b_L2) ⟨[(0, (.d (.int .i64 p))), (3, .ptr 0 []), (5, .sl 1 [] 0 out.length cp), (6, (.d (.int .i64 n)))], [.box false (D.arr 64 .leaf (ints .u8 (pad (row a)))), .sl false facSh8 (out.map facP), .hole, .hole, .hole, .hole, .hole, .hole, .hole, .hole]⟩ =
  some (.exit 0, ⟨[(0, (.d (.int .i64 p))), (3, .ptr 0 []), (5, .sl 1 [] 0 out'.length cp'), (6, (.d (.int .i64 n'))), (20, (.d (.bool false)))], [.box false (D.arr 64 .leaf (ints .u8 (pad (row a')))), .sl false facSh8 (out'.map facP), .hole, .hole, .hole, .hole, .hole, .hole, .hole, .hole]⟩)
 | f, n, a, out, cp, hn1, hf, h => by
  have hln : out.length + a.len ≤ 13 := by
   rcases h with h | h
   ·exact h.ln
   ·exact h.1.ln
  have hne : a ≠ 0 := by
   rcases h with h | h
   ·exact h.ne
   ·exact h.1.ne
  have e2 := hdg p a (by omega)
  have w2 : IntKind.i64.wrap (2 * (n : Int)) = 2 * (n : Int) := w64 (by omega)
  by_cases hs : a.len < 2 * n + 1
  ·have hE : SEnd a0 a out := by
    rcases h with h | h
    ·exact h.end' (by omega) (Int.le_refl _) hs
    ·exact h.1
   refine ⟨n, a, out, cp, hE, dn_stop ?_⟩
   have h2 : ¬ 2 * (n : Int) ≤ (a.len : Int) - 1 := by omega
   generalize pad (row a) = PA at *
   generalize out.map facP = LD at *
   simp -implicitDefEqProofs [Z3b_L2, dn_cond, e2, w2, h2]
  ·have hI : SInv a0 (p ^ n) a out := by
    rcases h with h | h
    ·exact h
    ·exact absurd h.2 hs
   cases f with
   | zero => omega
   | succ f =>
    have hpos := ppow_pos (p := p) n
    have h2 : 2 * (n : Int) ≤ (a.len : Int) - 1 := by omega
    have e1 := k_sCount' hcn p n (by omega)
    obtain ⟨k', a', out', cp', i1, i2, i3, i4, i5⟩ := l_sSp1 hdv hdg hcn hof hn1 (by omega) (2 * p ^ n - p ^ n).toNat (p ^ n) a out cp (Int.le_refl _) (by omega) (Nat.le_refl _) hI
    have hnext : SInv a0 (p ^ (n + 1)) a' out' ∨ (SEnd a0 a' out' ∧ a'.len < 2 * (n + 1) + 1) := by
     rcases i4 with i4 | i4
     ·rw [i4] at i1
      exact .inl (i1.next (by omega))
     ·exact .inr ⟨i1.end' (by omega) i2 i4, by omega⟩
    obtain ⟨n', a2, out2, cp2, j1, j2⟩ := l_sSp2 hdv hdg hcn hof f (n + 1) a' out' cp' (by omega) (by omega) hnext
    have w3 : IntKind.i64.wrap ((n : Int) + 1) = ((n + 1 : Nat) : Int) := (w64 (x := (n : Int) + 1) (by omega)).trans (by omega)
    refine ⟨n', a2, out2, cp2, j1, dn_round ?_ j2⟩
    generalize pad (row a) = PA at *
    generalize pad (row a') = PA' at *
    generalize out.map facP = LD at *
    generalize out'.map facP = LD' at *
    simp -implicitDefEqProofs [Z3b_L2, dn_cond, e1, e2, w2, w3, h2, i5]
end
def K_sSplit (O : Oracle) : Prop := ∀ (p : Int) [IsP p] (a : Fp p), a ≠ 0 → a.len ≤ 13 → ask O F3b [(D.int .i64 p), (D.arr 64 .leaf (ints .u8 (pad (row a))))] = some (.sl facSh8 ((fac a).map facP))
theorem k_sSplit (hT : T F3b = some Z3b) (hdv : K_sDivide (den T A)) (hdg : K_sDeg (den T A)) (hcn : K_sCount (den T A)) (hof : K_sOf (den T A)) (hinv : K_sInverse (den T A)) (had : K_sAdd (den T A)) : K_sSplit (den T A) := by
 intro p i a0 h0 hl0
 have hp7 := IsP.le (p := p)
 obtain ⟨n', a, out, cp, hE, e⟩ := l_sSp2 hdv hdg hcn hof 8 1 a0 [] (some 0) (Nat.le_refl 1) rfl (.inl (SInv.init h0 hl0))
 have hf := hE.fac h0
 have hln := hE.ln
 have hap := Pol.len_pos hE.ne
 have e1 := hdg p a (by omega)
 have e00 : (([] : Facs p).length : Nat) = 0 := rfl
 have e01 : ((1 : Nat) : Int) = 1 := rfl
 rw [e00, e01, List.map_nil] at e
 rw [hf]
 refine ask_of hT rfl ?_
 by_cases hl : 2 ≤ a.len
 ·rw [if_pos hl]
  obtain ⟨hirr, hlt⟩ := hE.irr hl
  have hr := rep_in a.ld
  have hld : rep a.ld ≠ 0 := fun h0 => Pol.ld_ne hE.ne (rep_eq_zero.1 h0)
  have e3 := hinv p (rep a.ld) (by omega) hr.2
  have hin := inv_in p (rep a.ld)
  have w1 : IntKind.i64.wrap (inv p (rep a.ld)) = inv p (rep a.ld) := w64 (by omega)
  have hbx : (pad (row a))[a.len - 1]? = some (rep a.ld) := by rw [pad_get _ _ (by omega), row_cf]; rfl
  have hbx' : ((a.len : Int) - 1).toNat = a.len - 1 := by omega
  have hbx2 : (1 : Int) ≤ (a.len : Int) := by omega
  have hbx4 : (1 : Int) < (a.len : Int) := by omega
  have hbx3 : a.len - 1 < 64 := by omega
  have e4 := had p (inv p (rep a.ld)) 0 a (by omega) (by omega) (by rw [Pol.len_zero]; omega) (by omega)
  rw [finv_rep _ (Pol.ld_ne hE.ne), Gq.zero_add, row_zero] at e4
  have e4' : ask (den T A) F2e [(D.int .i64 p), (D.arr 64 .leaf (ints .u8 (pad []))), (D.arr 64 .leaf (ints .u8 (pad (row a)))), (D.int .i64 (inv p (rep a.ld)))] = some (D.arr 64 .leaf (ints .u8 (pad (row (mon a))))) := e4
  have h8 : (out.length + 1) * 72 ≤ 1099511627776 := by omega
  have ht : (out.map facP).take out.length = out.map facP := List.take_of_length_le (by simp)
  have hL : (out.map facP).length = out.length := by simp
  have o1 : (out ++ [(mon a, 1)]).map facP = out.map facP ++ [facP (mon a, 1)] := by simp
  have w2 : IntKind.i64.wrap ((out.length : Int) - 1) = (out.length : Int) - 1 := w64 (by omega)
  have wm : IntKind.i64.wrap (-1) = -1 := w64 (by omega)
  rw [o1]
  have ht2 : (out.map facP ++ [facP (mon a, 1)]).take (out.length + 1) = out.map facP ++ [facP (mon a, 1)] := List.take_of_length_le (by simp)
  have hL2 : (out.map facP ++ [facP (mon a, 1)]).length = out.length + 1 := by simp
  by_cases ho : out = []
  ·subst ho
   simp only [facP] at *
   generalize pad (row a) = PA at *
   generalize pad (row (mon a)) = PM at *
   simp -implicitDefEqProofs [Z3b, Z3b_B, dn_cond, e, e1, e3, e4', w1, hbx, hbx', hbx2, hbx3, hbx4, wm, List.replicate]
  ·have hpo : 0 < out.length := List.length_pos_iff.2 ho
   obtain ⟨x, hxe⟩ : ∃ x, out[out.length - 1]? = some x := ⟨_, List.getElem?_eq_getElem (by omega)⟩
   have hx : (out.map facP)[out.length - 1]? = some (facP x) := by rw [List.getElem?_map, hxe]; rfl
   have hmem : x ∈ out := List.mem_of_getElem? hxe
   have hne : x.1 ≠ mon a := fun h => by
    have := hlt _ hmem
    rw [h] at this; omega
   have hxl : x.1.len ≤ 13 := by
    have h1 : Dv x.1 a0 := by
     obtain ⟨r, h2, _⟩ := prodF_out hE.ok (show (x.1, x.2) ∈ out from hmem)
     obtain ⟨k, hk⟩ : ∃ k, x.2 = k + 1 := ⟨x.2 - 1, by have := (hE.ok.irr _ hmem).2.2; omega⟩
     rw [hE.eq, h2, hk, pw]
     exact (((Dv.refl _).mul_left _).mul_right _).mul_left _
    have := h1.len h0
    omega
   have e6 := beq_poly (p := p) (a := x.1) (b := mon a) (by omega) (by rw [mon_len hE.ne]; omega)
   rw [decide_eq_false (mt (pad_row_inj (p := p) (by omega) (by rw [mon_len hE.ne]; omega)).1 hne)] at e6
   have t1 : (1 : Int) ≤ (out.length : Int) := by omega
   have t2 : ((out.length : Int) - 1).toNat = out.length - 1 := by omega
   have t3 : out.length - 1 < out.length := by omega
   simp only [facP] at hx ht2 ⊢
   generalize pad (row a) = PA at *
   generalize pad (row (mon a)) = PM at *
   generalize pad (row x.1) = PO at *
   clear hxe hmem hxl hne hlt o1 hf hE
   generalize out.map facP = LD at *
   have h9 : out.length - 1 < LD.length := by omega
   have hx' := Option.some.inj ((List.getElem?_eq_getElem h9).symm.trans hx)
   simp -implicitDefEqProofs [Z3b, Z3b_B, dn_cond, hx', e, e1, e3, e4', e6, w1, w2, hbx, hbx', hbx2, hbx3, hbx4, h8, ht, hL, t1, t2, t3, List.replicate]
   exact ht2
 ·rw [if_neg hl]
  have h1 : ¬ (1 : Int) < (a.len : Int) := by omega
  have ht : (out.map facP).take out.length = out.map facP := List.take_of_length_le (by simp)
  have hL : (out.map facP).length = out.length := by simp
  generalize pad (row a) = PA at *
  generalize out.map facP = LD at *
  simp -implicitDefEqProofs [Z3b, Z3b_B, dn_cond, e, e1, h1, ht, hL]
theorem l_sPower {O : Oracle} {p : Int} [IsP p] : ∀ (n : Nat) (out : Int), n ≤ 12 → 0 < out → out * p ^ n ≤ 1000000000000000 →
 dn O 0 (.loop Z3a_L0) ⟨[(0, (.d (.int .i64 p))), (1, (.d (.int .i64 n))), (5, (.d (.int .i64 out)))], []⟩ =
  some (.exit 0, ⟨[(0, (.d (.int .i64 p))), (1, (.d (.int .i64 0))), (5, (.d (.int .i64 (out * p ^ n)))), (7, (.d (.bool false)))], []⟩)
 | 0, out, _, h1, h2 => by
  rw [Int.pow_zero, Int.mul_one]
  exact dn_stop (by simp -implicitDefEqProofs [Z3a_L0, dn_cond])
 | n + 1, out, hn, h1, h2 => by
  have hp := IsP.pos (p := p)
  have e : out * p ^ (n + 1) = out * p * p ^ n := by rw [Int.pow_succ, Int.mul_assoc, Int.mul_comm p]
  have h3 : 1 ≤ p ^ n := ppow_pos n
  have h4 : 0 < out * p := Int.mul_pos h1 hp
  have h5 : out * p * 1 ≤ out * p * p ^ n := Int.mul_le_mul_of_nonneg_left h3 (by omega)
  rw [e] at h2 ⊢
  have h0 : (0 : Int) < (n : Int) + 1 := by omega
  have w1 : IntKind.i64.wrap (out * p) = out * p := w64 (by omega)
  have w2 : IntKind.i64.wrap (n : Int) = n := w64 (by omega)
  refine dn_round ?_ (l_sPower n (out * p) (by omega) h4 h2)
  simp -implicitDefEqProofs [Z3a_L0, dn_cond, h0, w1, w2]
def K_sPower (O : Oracle) : Prop := ∀ (p : Int) [IsP p] (n : Nat), n ≤ 12 → ask O F3a [(D.int .i64 p), (D.int .i64 n)] = some (D.int .i64 (p ^ n))
theorem k_sPower (hT : T F3a = some Z3a) : K_sPower (den T A) := by
 intro p i n hn
 have hb := ppow_le (p := p) hn
 have e := l_sPower (O := den T A) (p := p) n 1 hn (by omega) (by omega)
 rw [Int.one_mul] at e
 refine ask_of hT rfl ?_
 simp -implicitDefEqProofs [Z3a, Z3a_B, e]
section
variable {p : Int} [IsP p]
theorem l_sSym0 {O : Oracle} {own : List Int} {ld il : V} {PA : List Int} (ha : ld.refs = [] ∧ il.refs = []) (hol : own.length = 64) (how : 0 ≤ cf own 0 ∧ cf own 0 < p) : ∀ (m : Nat) (out : Int), m < 100000 → 0 ≤ out → out < p →
 dn O 0 (.loop Z3c_L0) ⟨[(0, (.d (.int .i64 p))), (4, .ptr 0 []), (7, ld), (8, (.d (.int .i64 out))), (9, il), (11, .ptr 3 []), (12, (.d (.int .i64 m)))], [.box false (D.arr 64 .leaf (ints .u8 PA)), .hole, .hole, .box false (D.arr 64 .leaf (ints .u8 own))]⟩ =
  some (.exit 2, ⟨[(0, (.d (.int .i64 p))), (4, .ptr 0 []), (7, ld), (8, (.d (.int .i64 (rp p (cf own 0) m out)))), (9, il), (11, .ptr 3 []), (12, (.d (.int .i64 0))), (45, (.d (.bool false)))], [.box false (D.arr 64 .leaf (ints .u8 PA)), .hole, .hole, .box false (D.arr 64 .leaf (ints .u8 own))]⟩)
 | 0, out, hm, h1, h2 => dn_stop (by simp -implicitDefEqProofs [Z3c_L0, dn_cond, rp, ha])
 | m + 1, out, hm, h1, h2 => by
  have hp := IsP.ge (p := p)
  have hp7 := IsP.le (p := p)
  have h0 : (0 : Int) < (m : Int) + 1 := by omega
  have hx : own[0]? = some (cf own 0) := by rw [List.getElem?_eq_getElem (by omega), cf_lt]
  have hx' : 0 < own.length := by omega
  have hx2 := Option.some.inj ((List.getElem?_eq_getElem hx').symm.trans hx)
  have gm := mul_small (x := out) (y := cf own 0) (b := 10) (c := 10) (by omega) (by omega) (by omega)
  have w0 : IntKind.i64.wrap (cf own 0) = cf own 0 := w64 (by omega)
  have w1 : IntKind.i64.wrap (out * cf own 0) = out * cf own 0 := w64 (by omega)
  have w2 : (out * cf own 0).tmod p = out * cf own 0 % p := Int.tmod_eq_emod_of_nonneg (Int.mul_nonneg h1 how.1)
  have w3 : IntKind.i64.wrap (m : Int) = m := w64 (by omega)
  have hp0 : p ≠ 0 := by omega
  refine dn_round ?_ (l_sSym0 ha hol how m (out * cf own 0 % p) (by omega) (Int.emod_nonneg _ (by omega)) (Int.emod_lt_of_pos _ (by omega)))
  generalize cf own 0 = c at *
  simp -implicitDefEqProofs [Z3c_L0, dn_cond, h0, hx', hx2, w0, w1, w2, w3, hp0, ha]
theorem l_sSym1 {O : Oracle} (hdg : K_sDeg O) (hpo : K_sPower O) (hpw : K_sPowMod O) {a m : Fp p} (hal : a.len ≤ 64) (hm : m ≠ 0) (hml : m.len ≤ 13) {L : Facs p} (hL : IsFac m L) (hLl : L.length ≤ 12) : ∀ (k i : Nat) (out : Int), i + k = L.length → 0 ≤ out → out < p →
 dn O 0 (.loop Z3c_L1) ⟨[(0, (.d (.int .i64 p))), (4, .ptr 0 []), (7, .d (.sl facSh8 (L.map facP))), (8, (.d (.int .i64 out))), (9, (.d (.int .i64 i)))], [.box false (D.arr 64 .leaf (ints .u8 (pad (row a)))), .hole, .hole, .hole]⟩ =
  some (.exit 0, ⟨[(0, (.d (.int .i64 p))), (4, .ptr 0 []), (7, .d (.sl facSh8 (L.map facP))), (8, (.d (.int .i64 (symL p a (L.drop i) out)))), (9, (.d (.int .i64 L.length))), (19, (.d (.bool false)))], [.box false (D.arr 64 .leaf (ints .u8 (pad (row a)))), .hole, .hole, .hole]⟩)
 | 0, i, out, hi, h1, h2 => by
  obtain rfl : i = L.length := by omega
  rw [List.drop_length]
  exact dn_stop (by simp -implicitDefEqProofs [Z3c_L1, dn_cond, symL])
 | k + 1, i, out, hi, h1, h2 => by
  have hp := IsP.ge (p := p)
  have hp7 := IsP.le (p := p)
  have hlt : i < L.length := by omega
  obtain ⟨q1, q2, q3, q4⟩ := hL.len hm (List.getElem_mem hlt)
  rw [List.drop_eq_getElem_cons hlt, symL]
  generalize hxe : L[i] = x at *
  have e1 := hdg p x.1 (by omega)
  have hd : ((x.1.len : Int) - 1) = ((x.1.len - 1 : Nat) : Int) := by omega
  rw [hd] at e1
  have hb := ppow_le (p := p) (n := x.1.len - 1) (by omega)
  have hpos := ppow_pos (p := p) (x.1.len - 1)
  have e2 := hpo p (x.1.len - 1) (by omega)
  have w1 : IntKind.i64.wrap (p ^ (x.1.len - 1) - 1) = p ^ (x.1.len - 1) - 1 := w64 (by omega)
  have w2 : IntKind.i64.wrap (p - 1) = p - 1 := w64 (by omega)
  have hdiv0 : 0 ≤ (p ^ (x.1.len - 1) - 1) / (p - 1) := Int.ediv_nonneg (by omega) (by omega)
  have hdiv1 : (p ^ (x.1.len - 1) - 1) / (p - 1) ≤ p ^ (x.1.len - 1) - 1 := Int.ediv_le_self _ (by omega)
  have w3 : IntKind.i64.wrap ((p ^ (x.1.len - 1) - 1).tdiv (p - 1)) = (p ^ (x.1.len - 1) - 1) / (p - 1) := by
   rw [Int.tdiv_eq_ediv_of_nonneg (by omega), w64 (by omega)]
  have hp1 : p - 1 ≠ 0 := by omega
  have e3 := hpw p a ((p ^ (x.1.len - 1) - 1) / (p - 1)) x.1 q4 hal (by omega) hdiv0 (by omega)
  have hlr := Pol.len_mod (pw a ((p ^ (x.1.len - 1) - 1) / (p - 1)).toNat) q4
  have hown : cf (pad (row (pw a ((p ^ (x.1.len - 1) - 1) / (p - 1)).toNat % x.1))) 0 = ownS p a x.1 := by rw [pad_row_cf (by omega)]; rfl
  have e5 := l_sSym0 (O := O) (own := pad (row (pw a ((p ^ (x.1.len - 1) - 1) / (p - 1)).toNat % x.1))) (ld := .d (.sl facSh8 (L.map facP))) (il := (.d (.int .i64 i))) (PA := pad (row a)) ⟨rfl, rfl⟩ (pad_length _) (by rw [hown]; exact ownS_in a x.1) x.2 out (by omega) h1 h2
  rw [hown] at e5
  have hrp := rp_in (own := ownS p a x.1) (by omega : 0 < p) x.2 out h1 h2
  have w4 : IntKind.i64.wrap ((i : Int) + 1) = ((i + 1 : Nat) : Int) := (w64 (x := (i : Int) + 1) (by omega)).trans (by omega)
  have ih := l_sSym1 (O := O) hdg hpo hpw hal hm hml hL hLl k (i + 1) (rp p (ownS p a x.1) x.2 out) (by omega) hrp.1 hrp.2
  refine dn_round ?_ ih
  have hget : (L.map facP)[i]? = some (facP x) := by rw [List.getElem?_map, List.getElem?_eq_getElem hlt, hxe]; rfl
  have hlen : (L.map facP).length = L.length := by simp
  simp only [facP] at hget
  generalize (pw a ((p ^ (x.1.len - 1) - 1) / (p - 1)).toNat % x.1) = y at *
  generalize pad (row y) = PY at *
  generalize pad (row a) = PA at *
  generalize pad (row x.1) = PX at *
  generalize x.1.len - 1 = d at *
  generalize L.map facP = LD at *
  have h9 : i < LD.length := by omega
  have hget' := Option.some.inj ((List.getElem?_eq_getElem h9).symm.trans hget)
  simp -implicitDefEqProofs [Z3c_L1, dn_cond, hlt, hlen, hget', e1, e2, w1, w2, w3, hp1, e3, e5, w4]
end
def K_sSymbol (O : Oracle) : Prop := ∀ (p : Int) [IsP p] (a m : Fp p), m ≠ 0 → m.len ≤ 13 → a.len ≤ 64 → ask O F3c [(D.int .i64 p), (D.arr 64 .leaf (ints .u8 (pad (row a)))), (D.arr 64 .leaf (ints .u8 (pad (row m))))] = some (D.int .i64 (symb p a m))
theorem k_sSymbol (hT : T F3c = some Z3c) (hsp : K_sSplit (den T A)) (hf : K_fac (den T A)) (hdg : K_sDeg (den T A)) (hpo : K_sPower (den T A)) (hpw : K_sPowMod (den T A)) : K_sSymbol (den T A) := by
 intro p i a m hm hml hal
 obtain ⟨f1, f2, _⟩ := hf p m hm hml
 have f3 := hsp p m hm hml
 have e := l_sSym1 hdg hpo hpw hal hm hml f1 f2 (fac m).length 0 1 (Nat.zero_add _) (by omega) (by have := IsP.ge (p := p); omega)
 have e0 : ((0 : Nat) : Int) = 0 := rfl
 rw [e0, List.drop_zero] at e
 have hl : ((fac m).map facP).length = (fac m).length := by simp
 refine ask_of hT rfl ?_
 unfold symb
 generalize (fac m).map facP = LD at *
 generalize pad (row a) = PA at *
 generalize pad (row m) = PM at *
 simp -implicitDefEqProofs [Z3c, Z3c_B, f3, e]
end Pe
