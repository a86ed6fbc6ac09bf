/-
  A part of the proof: an evaluator for a small form of the code, its soundness, and contracts of functions over it.
-/
import Derived.Test.YtfcpjhlcflajpaaGreatW1
import Derived.Test.YtfcpjhlcflajpaaGreatW2
import Derived.Test.YtfcpjhlcflajpaaGreatW3
import Derived.Test.YtfcpjhlcflajpaaGreatW4
import Derived.Test.YtfcpjhlcflajpaaGreatW5

namespace Gq
def Pr (l : Nat) : Prop := 2 ≤ l ∧ ∀ d, d ∣ l → d = 1 ∨ d = l
theorem Pr.coprime {l n : Nat} (h : Pr l) (hn : ¬ l ∣ n) : Nat.Coprime l n := by
 rcases h.2 _ (Nat.gcd_dvd_left l n) with h1 | h1
 ·exact h1
 ·exact absurd (h1 ▸ Nat.gcd_dvd_right l n) hn
theorem pr_ex : ∀ (n : Nat), 2 ≤ n → ∃ l, Pr l ∧ l ∣ n := by
 intro n
 induction n using Nat.strongRecOn with
 | ind n ih =>
  intro hn
  by_cases h : Pr n
  ·exact ⟨n, h, Nat.dvd_refl n⟩
  ·have : ∃ d, d ∣ n ∧ d ≠ 1 ∧ d ≠ n := by
    apply Classical.byContradiction
    intro hno
    refine h ⟨hn, fun d hd => ?_⟩
    apply Classical.byContradiction
    intro h2
    exact hno ⟨d, hd, fun e => h2 (.inl e), fun e => h2 (.inr e)⟩
   obtain ⟨d, hd, h1, h2⟩ := this
   have hle := Nat.le_of_dvd (by omega) hd
   have h0 : d ≠ 0 := fun e => by
    rw [e] at hd
    have := Nat.eq_zero_of_zero_dvd hd
    omega
   obtain ⟨l, hl, hld⟩ := ih d (by omega) (by omega)
   exact ⟨l, hl, Nat.dvd_trans hld hd⟩
theorem Pr.dvd_mul {l a b : Nat} (h : Pr l) (hd : l ∣ a * b) : l ∣ a ∨ l ∣ b := by
 by_cases ha : l ∣ a
 ·exact .inl ha
 ·exact .inr ((h.coprime ha).dvd_of_dvd_mul_left hd)
theorem Pr.dvd_pr {l q : Nat} (h : Pr l) (hq : Pr q) (hd : l ∣ q) : l = q := by
 rcases hq.2 l hd with h1 | h1
 ·have := h.1; omega
 ·exact h1
theorem one_of {n : Nat} (h0 : 1 ≤ n) (h : ∀ l, Pr l → ¬ l ∣ n) : n = 1 := by
 apply Classical.byContradiction
 intro h1
 obtain ⟨l, hl, hd⟩ := pr_ex n (by omega)
 exact h l hl hd
theorem pow_dvd {l d : Nat} (h : Pr l) : ∀ e, d ∣ l ^ (e + 1) → d = l ^ (e + 1) ∨ d ∣ l ^ e
 | 0, hd => by
  rw [Nat.zero_add, Nat.pow_one] at hd ⊢
  rcases h.2 d hd with h1 | h1
  ·right; rw [h1]; exact Nat.one_dvd _
  ·exact .inl h1
 | e + 1, hd => by
  by_cases hl : l ∣ d
  ·obtain ⟨c, rfl⟩ := hl
   rw [Nat.pow_succ, Nat.mul_comm (l ^ (e + 1))] at hd
   have hc : c ∣ l ^ (e + 1) := Nat.dvd_of_mul_dvd_mul_left (by have := h.1; omega) hd
   rcases pow_dvd h e hc with h1 | h1
   ·left; rw [h1, Nat.pow_succ l (e + 1), Nat.mul_comm]
   ·right; rw [Nat.pow_succ l e, Nat.mul_comm l c]; exact Nat.mul_dvd_mul_right h1 l
  ·right
   rw [Nat.pow_succ] at hd
   exact ((h.coprime hl).symm).dvd_of_dvd_mul_right hd
theorem strip_ex {l : Nat} (h : Pr l) : ∀ n, 1 ≤ n → ∃ e r, n = l ^ e * r ∧ ¬ l ∣ r := by
 intro n
 induction n using Nat.strongRecOn with
 | ind n ih =>
  intro hn
  by_cases hd : l ∣ n
  ·obtain ⟨c, rfl⟩ := hd
   have h2 := h.1
   have hc : 1 ≤ c := by
    rcases Nat.eq_zero_or_pos c with h0 | h0
    ·rw [h0, Nat.mul_zero] at hn; omega
    ·exact h0
   have hlt : c < l * c := by
    have := Nat.mul_le_mul_right c h2
    omega
   obtain ⟨e, r, e1, e2⟩ := ih c hlt hc
   refine ⟨e + 1, r, ?_, e2⟩
   conv => lhs; rw [e1]
   rw [Nat.pow_succ, Nat.mul_comm (l ^ e) l, Nat.mul_assoc]
  ·exact ⟨0, n, by rw [Nat.pow_zero, Nat.one_mul], hd⟩
section
variable {R : Type} [CR R]
theorem pw_mod1 {x : R} {n k : Nat} (h : pw x n = 1) : pw x (k % n) = pw x k := by
 have e : pw x k = pw x (n * (k / n) + k % n) := by rw [Nat.div_add_mod]
 rw [e, pw_add, ← pw_pw, h, pw_one, one_mul]
theorem pw_gcd {x : R} (a b : Nat) (ha : pw x a = 1) (hb : pw x b = 1) : pw x (Nat.gcd a b) = 1 := by
 revert ha hb
 refine Nat.gcd.induction (P := fun a b => pw x a = 1 → pw x b = 1 → pw x (Nat.gcd a b) = 1) a b ?_ ?_
 ·intro n _ hb; rw [Nat.gcd_zero_left]; exact hb
 ·intro a b _ ih ha hb
  rw [Nat.gcd_rec]
  exact ih (by rw [pw_mod1 ha]; exact hb) ha
theorem pw_dvd {x : R} {n k : Nat} (h : pw x n = 1) (hd : n ∣ k) : pw x k = 1 := by
 obtain ⟨c, rfl⟩ := hd
 rw [← pw_pw, h, pw_one]
def Ord (x : R) (n : Nat) : Prop := ∀ k, pw x k = 1 ↔ n ∣ k
theorem Ord.self {x : R} {n : Nat} (h : Ord x n) : pw x n = 1 := (h n).2 (Nat.dvd_refl n)
theorem Ord.unique {x : R} {n m : Nat} (h : Ord x n) (h' : Ord x m) : n = m := Nat.dvd_antisymm ((h m).1 h'.self) ((h' n).1 h.self)
theorem ord_ex {x : R} : ∀ (N : Nat), 1 ≤ N → pw x N = 1 → ∃ n, 1 ≤ n ∧ Ord x n := by
 intro N
 induction N using Nat.strongRecOn with
 | ind N ih =>
  intro hN h
  by_cases hs : ∃ k, 1 ≤ k ∧ k < N ∧ pw x k = 1
  ·obtain ⟨k, h1, h2, h3⟩ := hs
   exact ih k h2 h1 h3
  ·refine ⟨N, hN, fun k => ⟨fun hk => ?_, fun hd => pw_dvd h hd⟩⟩
   have hm : pw x (k % N) = 1 := by rw [pw_mod1 h]; exact hk
   have hlt := Nat.mod_lt k (show 0 < N by omega)
   have h0 : k % N = 0 := by
    apply Classical.byContradiction
    intro hne
    exact hs ⟨k % N, by omega, hlt, hm⟩
   exact Nat.dvd_of_mod_eq_zero h0
theorem Ord.mul {a b : R} {m n : Nat} (ha : Ord a m) (hb : Ord b n) (h : Nat.Coprime m n) : Ord (a * b) (m * n) := fun k => by
 constructor
 ·intro hk
  have h1 : m ∣ k := by
   have e : pw a (k * n) = 1 := by
    have e1 : pw (a * b) (k * n) = 1 := by rw [← pw_pw, hk, pw_one]
    rw [pw_mul, pw_dvd hb.self (Nat.dvd_mul_left n k), mul_one] at e1
    exact e1
   exact h.dvd_of_dvd_mul_right ((ha _).1 e)
  have h2 : n ∣ k := by
   have e : pw b (k * m) = 1 := by
    have e1 : pw (a * b) (k * m) = 1 := by rw [← pw_pw, hk, pw_one]
    rw [pw_mul, pw_dvd ha.self (Nat.dvd_mul_left m k), one_mul] at e1
    exact e1
   exact h.symm.dvd_of_dvd_mul_right ((hb _).1 e)
  exact h.mul_dvd_of_dvd_of_dvd h1 h2
 ·intro hd
  rw [pw_mul, pw_dvd ha.self (Nat.dvd_trans (Nat.dvd_mul_right m n) hd), pw_dvd hb.self (Nat.dvd_trans (Nat.dvd_mul_left n m) hd), mul_one]
theorem ord_pp {y : R} {l e : Nat} (hl : Pr l) (h1 : pw y (l ^ (e + 1)) = 1) (h2 : pw y (l ^ e) ≠ 1) : Ord y (l ^ (e + 1)) := fun k => by
 constructor
 ·intro hk
  have hg := pw_gcd k (l ^ (e + 1)) hk h1
  rcases pow_dvd hl e (Nat.gcd_dvd_right k (l ^ (e + 1))) with h3 | h3
  ·exact h3 ▸ Nat.gcd_dvd_left k (l ^ (e + 1))
  ·exact absurd (pw_dvd hg h3) h2
 ·intro hd
  exact pw_dvd h1 hd
theorem ord_all {N : Nat} (hN : 1 ≤ N) (hall : ∀ x : R, x ≠ 0 → pw x N = 1) (h10 : (1 : R) ≠ 0) (hc : ∀ x y : R, x * y = 0 → x = 0 ∨ y = 0) (hr : ∀ k, 1 ≤ k → k < N → ∃ x : R, x ≠ 0 ∧ pw x k ≠ 1) : ∀ n, 1 ≤ n → n ∣ N → ∃ g : R, g ≠ 0 ∧ Ord g n := by
 have pwne : ∀ (x : R) (k : Nat), x ≠ 0 → pw x k ≠ 0 := by
  intro x k hx
  induction k with
  | zero => exact h10
  | succ k ih => exact fun h => (hc _ _ h).elim ih hx
 intro n
 induction n using Nat.strongRecOn with
 | ind n ih =>
  intro hn hd
  by_cases h1 : n = 1
  ·subst h1
   exact ⟨1, h10, fun k => ⟨fun _ => Nat.one_dvd k, fun _ => pw_one k⟩⟩
  ·obtain ⟨l, hl, hln⟩ := pr_ex n (by omega)
   obtain ⟨e, r, e1, e2⟩ := strip_ex hl n hn
   have h2 := hl.1
   cases e with
   | zero =>
    rw [Nat.pow_zero, Nat.one_mul] at e1
    exact absurd (e1 ▸ hln) e2
   | succ e =>
    have hr1 : 1 ≤ r := by
     rcases Nat.eq_zero_or_pos r with h0 | h0
     ·rw [h0, Nat.mul_zero] at e1; omega
     ·exact h0
    have hpos : 0 < l ^ e := Nat.pow_pos (by omega)
    have hlt : r < n := by
     have : 2 * r ≤ l ^ (e + 1) * r := Nat.mul_le_mul_right r (by
      rw [Nat.pow_succ]
      have := Nat.mul_le_mul_right l hpos
      omega)
     omega
    obtain ⟨g, hg0, hg⟩ := ih r hlt hr1 (Nat.dvd_trans ⟨l ^ (e + 1), by rw [Nat.mul_comm]; exact e1⟩ hd)
    obtain ⟨c, hcN⟩ : l ^ (e + 1) ∣ N := Nat.dvd_trans ⟨r, e1⟩ hd
    have hc1 : 1 ≤ c := by
     rcases Nat.eq_zero_or_pos c with h0 | h0
     ·rw [h0, Nat.mul_zero] at hcN; omega
     ·exact h0
    have hlc : l ^ e * c < N := by
     rw [hcN, Nat.pow_succ, Nat.mul_assoc, Nat.mul_comm l c, ← Nat.mul_assoc]
     have h3 : 0 < l ^ e * c := Nat.mul_pos hpos hc1
     have := Nat.mul_le_mul_left (l ^ e * c) h2
     omega
    obtain ⟨x, hx0, hx⟩ := hr (l ^ e * c) (Nat.mul_pos hpos hc1) hlc
    have hy : Ord (pw x c) (l ^ (e + 1)) := ord_pp hl (by rw [pw_pw, Nat.mul_comm, ← hcN, hall x hx0]) (by rw [pw_pw, Nat.mul_comm]; exact hx)
    refine ⟨pw x c * g, fun h => (hc _ _ h).elim (pwne x c hx0) hg0, ?_⟩
    rw [e1]
    refine hy.mul hg ?_
    have := hl.coprime e2
    exact Nat.Coprime.pow_left (e + 1) this
end
structure OrdI (n q rest order : Nat) (fin : Bool) : Prop where
 dv : n ∣ order
 pos : 1 ≤ order
 low : ∀ l, Pr l → l < q → ¬ l * n ∣ order ∧ ¬ l ∣ rest
 rel : ∃ c, order = rest * c ∧ (∀ l, Pr l → q < l → ¬ l ∣ c) ∧ (fin = false → Pr q → ¬ q ∣ c)
 fin : fin = true → ¬ q * n ∣ order
theorem OrdI.rest_pos {n q rest order : Nat} {f : Bool} (h : OrdI n q rest order f) : 1 ≤ rest := by
 obtain ⟨c, e, -⟩ := h.rel
 have := h.pos
 rcases Nat.eq_zero_or_pos rest with h0 | h0
 ·rw [h0, Nat.zero_mul] at e; omega
 ·exact h0
theorem OrdI.init {n N : Nat} (hN : 1 ≤ N) (h : n ∣ N) : OrdI n 2 N N false where
 dv := h
 pos := hN
 low := fun l hl h2 => by have := hl.1; omega
 rel := ⟨1, (Nat.mul_one N).symm, fun l hl _ hd => by have := hl.1; have := Nat.le_of_dvd (by omega) hd; omega, fun _ hq hd => by have := hq.1; have := Nat.le_of_dvd (by omega) hd; omega⟩
 fin := fun h => by cases h
theorem OrdI.prime {n q rest order : Nat} {f : Bool} (h : OrdI n q rest order f) (h2 : 2 ≤ q) (hd : q ∣ rest) : Pr q := by
 obtain ⟨l, hl, hlq⟩ := pr_ex q h2
 rcases Nat.lt_or_ge l q with h1 | h1
 ·exact absurd (Nat.dvd_trans hlq hd) (h.low l hl h1).2
 ·have := Nat.le_of_dvd (by omega) hlq
  obtain rfl : l = q := by omega
  exact hl
theorem OrdI.yes {n q r c' : Nat} {f : Bool} (h : OrdI n q (q * r) (q * c') f) (h2 : 2 ≤ q) (hd : n ∣ c') : OrdI n q r c' f where
 dv := hd
 pos := by
  have := h.pos
  rcases Nat.eq_zero_or_pos c' with h0 | h0
  ·rw [h0, Nat.mul_zero] at this; omega
  ·exact h0
 low := fun l hl h1 => by
  obtain ⟨a, b⟩ := h.low l hl h1
  exact ⟨fun e => a (Nat.dvd_trans e (Nat.dvd_mul_left c' q)), fun e => b (Nat.dvd_trans e (Nat.dvd_mul_left r q))⟩
 rel := by
  obtain ⟨c, e, h3, h4⟩ := h.rel
  refine ⟨c, ?_, h3, h4⟩
  rw [Nat.mul_assoc] at e
  exact Nat.eq_of_mul_eq_mul_left (by omega) e
 fin := fun hf e => h.fin hf (Nat.dvd_trans e (Nat.dvd_mul_left c' q))
theorem OrdI.no {n q r c' : Nat} {f : Bool} (h : OrdI n q (q * r) (q * c') f) (h2 : 2 ≤ q) (hd : ¬ n ∣ c') : OrdI n q r (q * c') true where
 dv := h.dv
 pos := h.pos
 low := fun l hl h1 => by
  obtain ⟨a, b⟩ := h.low l hl h1
  exact ⟨a, fun e => b (Nat.dvd_trans e (Nat.dvd_mul_left r q))⟩
 rel := by
  have hq := h.prime h2 (Nat.dvd_mul_right q r)
  obtain ⟨c, e, h3, _⟩ := h.rel
  refine ⟨q * c, by rw [e, Nat.mul_assoc, Nat.mul_left_comm], fun l hl h4 hl2 => ?_, fun hf => by cases hf⟩
  rcases hl.dvd_mul hl2 with h5 | h5
  ·have := hl.dvd_pr hq h5; omega
  ·exact h3 l hl h4 h5
 fin := fun _ e => hd (Nat.dvd_of_mul_dvd_mul_left (by omega) e)
theorem OrdI.next {n q rest order : Nat} {f : Bool} (h : OrdI n q rest order f) (h2 : 2 ≤ q) (hd : ¬ q ∣ rest) : OrdI n (q + 1) rest order false where
 dv := h.dv
 pos := h.pos
 low := fun l hl h1 => by
  rcases Nat.lt_or_ge l q with h3 | h3
  ·exact h.low l hl h3
  ·obtain rfl : l = q := by omega
   refine ⟨fun e => ?_, hd⟩
   cases f with
   | true => exact h.fin rfl e
   | false =>
    obtain ⟨c, e1, _, h5⟩ := h.rel
    have : l ∣ rest * c := e1 ▸ Nat.dvd_trans (Nat.dvd_mul_right l n) e
    rcases hl.dvd_mul this with h6 | h6
    ·exact hd h6
    ·exact h5 rfl hl h6
 rel := by
  obtain ⟨c, e1, h4, _⟩ := h.rel
  exact ⟨c, e1, fun l hl h5 => h4 l hl (by omega), fun _ hq => h4 _ hq (by omega)⟩
 fin := fun hf => by cases hf
theorem OrdI.done {n q rest order : Nat} (h : OrdI n q rest order false) (hq : rest < q) : order = n := by
 have hr : rest = 1 := one_of h.rest_pos fun l hl hd => by
  have := Nat.le_of_dvd h.rest_pos hd
  exact (h.low l hl (by omega)).2 hd
 obtain ⟨c, e1, h4, h5⟩ := h.rel
 rw [hr, Nat.one_mul] at e1
 obtain ⟨k, hk⟩ := h.dv
 have hk1 : k = 1 := one_of (by
  have := h.pos
  rcases Nat.eq_zero_or_pos k with h0 | h0
  ·rw [h0, Nat.mul_zero] at hk; omega
  ·exact h0) fun l hl hd => by
  have hln : l * n ∣ order := by
   rw [hk, Nat.mul_comm l n]; exact Nat.mul_dvd_mul_left n hd
  rcases Nat.lt_or_ge l q with h6 | h6
  ·exact (h.low l hl h6).1 hln
  ·have hlc : l ∣ c := e1 ▸ Nat.dvd_trans (Nat.dvd_mul_right l n) hln
   rcases Nat.lt_or_ge q l with h7 | h7
   ·exact h4 l hl h7 hlc
   ·obtain rfl : l = q := by omega
    exact h5 rfl hl hlc
 rw [hk, hk1, Nat.mul_one]
end Gq

namespace Pe
open Gq
section
variable {p : Int}
theorem root_out [IsP p] {m : Fp p} (hi : Irr m) {d : Nat} (hq : m.len = d + 1) (hd : p ^ d < 1000000000000) {k : Nat} (h1 : 1 ≤ k) (hk : k < p.toNat ^ d - 1) : ∃ x : Quo m, x ≠ 0 ∧ pw x k ≠ 1 := by
 apply Classical.byContradiction
 intro hno
 have hall : ∀ x : Quo m, x ≠ 0 → pw x k = 1 := fun x hx => by
  apply Classical.byContradiction
  intro h
  exact hno ⟨x, hx, h⟩
 have hone : (1 : Quo m) ≠ 0 := (fdQuo hi).one_ne
 let f : Nat → Quo m := fun i => (if i = k then 1 else 0) + (-1) * (if i = 0 then 1 else 0)
 have hf : f k ≠ 0 := by
  show (if k = k then (1 : Quo m) else 0) + (-1) * (if k = 0 then 1 else 0) ≠ 0
  rw [if_pos rfl, if_neg (by omega), Gq.mul_zero, Gq.add_zero]
  exact hone
 have := roots_le (K := Quo m) (fun x y => hi.quo_zero) k f (unitsL m d) hf (unitsL_nodup hq hd) fun y hy => by
  have hy0 := (unitsL_mem hq hd y).1 hy
  have e : sumR (fun i => f i * pw y i) (k + 1) = sumR (fun i => (if i = k then 1 else 0) * pw y i) (k + 1) + (-1) * sumR (fun i => (if i = 0 then 1 else 0) * pw y i) (k + 1) := by
   rw [← sumR_mul, ← sumR_add]
   congr 1
   funext i
   show ((if i = k then (1 : Quo m) else 0) + (-1) * (if i = 0 then 1 else 0)) * pw y i = _
   exact ring_of [(if i = k then (1 : Quo m) else 0), (if i = 0 then (1 : Quo m) else 0), pw y i] rfl
  rw [e, sumR_ind, sumR_ind, if_pos (by omega), if_pos (by omega), hall y hy0, show pw y 0 = 1 from rfl]
  exact ring_of ([] : List (Quo m)) rfl
 unfold unitsL at this
 rw [List.length_map, List.length_range] at this
 omega
theorem unit_gen [IsP p] {m : Fp p} (hi : Irr m) {d : Nat} (hq : m.len = d + 1) (hd : p ^ d < 1000000000000) {n : Nat} (h1 : 1 ≤ n) (hn : n ∣ p.toNat ^ d - 1) : ∃ g : Quo m, g ≠ 0 ∧ Ord g n := by
 have hN : 1 ≤ p.toNat ^ d - 1 := by
  have hl := hi.len
  have h2 : 2 ≤ p.toNat := by have := IsP.ge (p := p); omega
  have h3 : p.toNat ^ 1 ≤ p.toNat ^ d := Nat.pow_le_pow_right (by omega) (by omega)
  rw [Nat.pow_one] at h3
  omega
 exact ord_all hN (fun x hx => fermat hi hq hd hx) (fdQuo hi).one_ne (fun x y => hi.quo_zero) (fun k h2 h3 => root_out hi hq hd h2 h3) n h1 hn
def IsPrim (m : Fp p) (k : Nat) : Prop := 1 ≤ k ∧ (k : Int) < p ^ (m.len - 1) ∧ Ord (Quo.mk m (numP p k)) (p.toNat ^ (m.len - 1) - 1) ∧ ∀ j : Nat, 1 ≤ j → j < k → ¬ Ord (Quo.mk m (numP p j)) (p.toNat ^ (m.len - 1) - 1)
theorem least_ex {P : Nat → Prop} : ∀ (n : Nat), P n → ∃ k, k ≤ n ∧ P k ∧ ∀ j, j < k → ¬ P j := by
 intro n
 induction n using Nat.strongRecOn with
 | ind n ih =>
  intro h
  by_cases hs : ∃ j, j < n ∧ P j
  ·obtain ⟨j, h1, h2⟩ := hs
   obtain ⟨k, h3, h4, h5⟩ := ih j h1 h2
   exact ⟨k, by omega, h4, h5⟩
  ·exact ⟨n, Nat.le_refl n, h, fun j hj hp => hs ⟨j, hj, hp⟩⟩
theorem isPrim_ex [IsP p] {m : Fp p} (hi : Irr m) (hl : m.len ≤ 13) : ∃ k, IsPrim m k := by
 have h2 := hi.len
 have hd : p ^ (m.len - 1) < 1000000000000 := by
  have h3 := ipow_mono (p := p) (by have := IsP.pos (p := p); omega) (show m.len - 1 ≤ 12 by omega)
  have h4 : p ^ 12 ≤ 13841287201 := by rcases IsP.h (p := p) with h | h | h | h <;> subst h <;> decide
  omega
 have hN : 1 ≤ p.toNat ^ (m.len - 1) - 1 := by
  have h2' : 2 ≤ p.toNat := by have := IsP.ge (p := p); omega
  have h3 : p.toNat ^ 1 ≤ p.toNat ^ (m.len - 1) := Nat.pow_le_pow_right (by omega) (by omega)
  rw [Nat.pow_one] at h3
  omega
 obtain ⟨g, hg0, hg⟩ := unit_gen hi (d := m.len - 1) (by omega) hd hN (Nat.dvd_refl _)
 obtain ⟨a, rfl⟩ := Quo.ex g
 have hm0 : m ≠ 0 := hi.ne
 have hal := Pol.len_mod a hm0
 have hin := numOf_in (a % m)
 have hle : p ^ (a % m).len ≤ p ^ (m.len - 1) := ipow_mono (p := p) (by have := IsP.pos (p := p); omega) (by omega)
 have e := numP_numOf (a := a % m) (by omega)
 have hn0 : numOf (a % m) ≠ 0 := fun h0 => by
  rw [h0, numP_zero] at e
  exact hg0 (by rw [← Pol.mk_mod a m, ← e]; rfl)
 obtain ⟨k, h3, ⟨h4, h5⟩, h6⟩ := least_ex (P := fun k : Nat => 1 ≤ k ∧ Ord (Quo.mk m (numP p k)) (p.toNat ^ (m.len - 1) - 1)) (numOf (a % m)).toNat ⟨by omega, by
  rw [show (((numOf (a % m)).toNat : Nat) : Int) = numOf (a % m) by omega, e, Pol.mk_mod]
  exact hg⟩
 exact ⟨k, h4, by omega, h5, fun j h7 h8 h9 => h6 j h8 ⟨h7, h9⟩⟩
theorem IsPrim.unique {m : Fp p} {j k : Nat} (hj : IsPrim m j) (hk : IsPrim m k) : j = k := by
 rcases Nat.lt_or_ge j k with h | h
 ·exact absurd hj.2.2.1 (hk.2.2.2 j hj.1 h)
 ·rcases Nat.lt_or_ge k j with h2 | h2
  ·exact absurd hk.2.2.1 (hj.2.2.2 k hk.1 h2)
  ·omega
noncomputable def eulA (p : Int) : Int → Facs p → Int
 | out, [] => out
 | out, x :: L => eulA p (out * (p ^ (x.1.len - 1) - 1) * (p ^ (x.1.len - 1)) ^ (x.2 - 1)) L
noncomputable def eul [IsP p] (a : Fp p) : Int := eulA p 1 (fac a)
noncomputable def dgF : Facs p → Nat
 | [] => 0
 | x :: L => x.2 * (x.1.len - 1) + dgF L
theorem pw_len [IsP p] {q : Fp p} (h : Monic q) : ∀ k, (pw q k).len = k * (q.len - 1) + 1
 | 0 => by rw [Nat.zero_mul]; exact Pol.len_one
 | k + 1 => by
  have h1 := Pol.len_mul (Monic.pw h k).2 h.2
  have h2 := pw_len h k
  have h3 := Pol.len_pos h.2
  show (pw q k * q).len = _
  rw [Nat.succ_mul]; omega
theorem dgF_len [IsP p] : ∀ {L : Facs p}, FacOk L → (prodF L).len = dgF L + 1
 | [], _ => Pol.len_one
 | x :: L, h => by
  have hm := (h.irr x (by simp)).2.1
  have ht : FacOk L := ⟨fun y hy => h.irr y (by simp [hy]), h.dis.tail⟩
  have h1 := dgF_len ht
  have h2 := Pol.len_mul (Monic.pw hm x.2).2 (prodF_monic ht).2
  rw [pw_len hm] at h2
  rw [prodF_cons, dgF]; omega
theorem ppow_split (d k : Nat) : (p ^ d) ^ k = p ^ (d * k) := by rw [Int.pow_mul]
theorem eul_step [IsP p] {x : Fp p × Nat} (h2 : 1 ≤ x.2) {out : Int} {e : Nat} (h0 : 0 ≤ out) (hb : out ≤ p ^ e) (_hl : 2 ≤ x.1.len) :
 0 ≤ out * (p ^ (x.1.len - 1) - 1) * (p ^ (x.1.len - 1)) ^ (x.2 - 1) ∧ out * (p ^ (x.1.len - 1) - 1) * (p ^ (x.1.len - 1)) ^ (x.2 - 1) ≤ p ^ (e + x.2 * (x.1.len - 1)) ∧ 0 ≤ out * (p ^ (x.1.len - 1) - 1) ∧ out * (p ^ (x.1.len - 1) - 1) ≤ p ^ (e + (x.1.len - 1)) := by
 have hp := IsP.pos (p := p)
 have hn1 : 1 ≤ p ^ (x.1.len - 1) := Int.pow_pos hp
 have he1 : 1 ≤ p ^ e := Int.pow_pos hp
 have hk1 : 0 ≤ (p ^ (x.1.len - 1)) ^ (x.2 - 1) := Int.le_of_lt (Int.pow_pos (by omega))
 have a0 : 0 ≤ out * (p ^ (x.1.len - 1) - 1) := Int.mul_nonneg h0 (by omega)
 have a1 : out * (p ^ (x.1.len - 1) - 1) ≤ p ^ e * p ^ (x.1.len - 1) := Int.mul_le_mul hb (by omega) (by omega) (by omega)
 refine ⟨Int.mul_nonneg a0 hk1, ?_, a0, by rw [Int.pow_add]; exact a1⟩
 have a2 : out * (p ^ (x.1.len - 1) - 1) * (p ^ (x.1.len - 1)) ^ (x.2 - 1) ≤ p ^ e * p ^ (x.1.len - 1) * (p ^ (x.1.len - 1)) ^ (x.2 - 1) := Int.mul_le_mul_of_nonneg_right a1 hk1
 rw [ppow_split, ← Int.pow_add, ← Int.pow_add] at a2
 rw [ppow_split]
 have e3 : e + (x.1.len - 1) + (x.1.len - 1) * (x.2 - 1) = e + x.2 * (x.1.len - 1) := by
  obtain ⟨k, hk⟩ : ∃ k, x.2 = k + 1 := ⟨x.2 - 1, by omega⟩
  rw [hk, Nat.add_sub_cancel, Nat.succ_mul, Nat.mul_comm k]; omega
 rwa [e3] at a2
end
end Pe



namespace Pe
open Go Gq
variable {T : Nat → Option Fn} {A : Oracle}
end Pe

namespace Pe
open Go Gq
variable {T : Nat → Option Fn} {A : Oracle}
section
variable {p : Int} [IsP p]
noncomputable def invm (m a : Fp p) : Fp p := (Pol.bezout a m).2.1 % m
theorem invm_len {m : Fp p} (hm : m ≠ 0) (a : Fp p) : (invm m a).len < m.len := Pol.len_mod _ hm
end
theorem bez_small {p : Int} [IsP p] {a b : Fp p} (h : a ≠ 0 ∨ b ≠ 0) (_ha : a.len ≤ 1000) (hb : b.len ≤ 1000) : (Pol.bezout a b).2.1.len < 5000 := by
 obtain ⟨x, y, hi, _, _⟩ := Pol.bz_spec b.len a b 1 0 0 1 (Nat.le_refl _) (Pol.BzI.init h)
 have h1 := hi.lu
 rw [Pol.len_zero] at h1
 have : (Pol.bezout a b).2.1.len ≤ (Pol.bz b.len a b 1 0 0 1).2.1.len := Pol.len_le (Pol.lt_Cmul _ (Pol.lt_len _))
 omega
theorem bez_64 {p : Int} [IsP p] {a b : Fp p} (h : a ≠ 0) (hb : b.len ≤ 63) : (Pol.bezout a b).2.1.len ≤ 64 := by
 obtain ⟨x, y, hi, _, _⟩ := Pol.bz_spec b.len a b 1 0 0 1 (Nat.le_refl _) (Pol.BzI.init (.inl h))
 have h1 := hi.lu
 rw [Pol.len_zero] at h1
 have : (Pol.bezout a b).2.1.len ≤ (Pol.bz b.len a b 1 0 0 1).2.1.len := Pol.len_le (Pol.lt_Cmul _ (Pol.lt_len _))
 omega
end Pe

namespace Pe
open Go Gq
variable {T : Nat → Option Fn} {A : Oracle}
section
variable {p : Int} [IsP p]
end
end Pe



namespace Pe
open Go Gq
variable {T : Nat → Option Fn} {A : Oracle}
end Pe


namespace Pe
open Go Gq
variable {T : Nat → Option Fn} {A : Oracle}
end Pe


namespace Pe
open Go Gq
variable {T : Nat → Option Fn} {A : Oracle}
section
variable {p : Int} [IsP p]
theorem row_one_iff {a : Fp p} : ((row a).length = 1 ∧ cf (row a) 0 = 1) ↔ a = 1 := by
 rw [row_length]
 constructor
 ·rintro ⟨h1, h2⟩
  rw [Pol.eq_C (Pol.lt_iff.2 (Nat.le_of_eq h1))]
  have h3 : cf (row a) 0 = rep (a.c 0) := by
   rw [cf_lt (by rw [row_length]; omega)]
   unfold row
   simp
  rw [h3] at h2
  rw [(rep_one_iff _).1 h2, Pol.C_one]
 ·rintro rfl
  refine ⟨Pol.len_one, ?_⟩
  rw [cf_lt (by rw [row_length, Pol.len_one]; omega)]
  unfold row
  simp only [List.getElem_map, List.getElem_range]
  exact rep_one
end
def K_isOne (O : Oracle) : Prop := ∀ (p : Int) [IsP p] (a : Fp p), a.len < 1000000 → ask O Fk [(D.sl .leaf (ints .i64 (row a)))] = some (D.bool (decide (a.len = 1 ∧ cf (row a) 0 = 1)))
theorem k_isOne (hT : T Fk = some Zk) : K_isOne (den T A) := by
 intro p ip a ha
 have hL : (row a).length = a.len := row_length a
 refine ask_of hT rfl ?_
 generalize row a = Ra at *
 by_cases h1 : a.len = 1
 ·have h0 : 0 < Ra.length := by omega
  have hc : ∀ h : 0 < Ra.length, Ra[0]'h = cf Ra 0 := fun h => (cf_lt h).symm
  have hL1 : Ra.length = 1 := by omega
  simp -implicitDefEqProofs [Zk, Zk_B, hL1, h1, hc]
 ·have hL1 : ¬ Ra.length = 1 := by omega
  have hL2 : ¬ (Ra.length : Int) = 1 := by omega
  simp -implicitDefEqProofs [Zk, Zk_B, hL2, h1]
section
variable {p : Int} [IsP p]
theorem pow_one_iff {m a : Fp p} (h2 : 2 ≤ m.len) (k : Nat) : pw a k % m = 1 ↔ pw (Quo.mk m a) k = 1 := by
 have h0 : m ≠ 0 := fun h => by rw [h, Pol.len_zero] at h2; omega
 have e1 : (1 : Fp p) % m = 1 := Pol.mod_small (by rw [Pol.len_one]; omega)
 rw [← Quo.mk_pow, ← Quo.mk_one, ← Pol.mod_eq_iff h0, e1]
theorem l_order {O : Oracle} (h1 : K_isOne O) (hti : K_times O) (hre : K_rest O) {m a : Fp p} (hm2 : 2 ≤ m.len) (hml : m.len ≤ 64) (ha : a.len < m.len) {n : Nat} (hn : n ≤ 1000000000) (ho : Ord (Quo.mk m a) n) : ∀ (r k : Nat), k + r = n → 1 ≤ k →
 dn O 0 (.loop Z14_L0) ⟨[(0, (.d (.int .i64 p))), (1, (.d (.sl .leaf (ints .i64 (row a))))), (2, (.d (.sl .leaf (ints .i64 (row m))))), (7, (.d (.int .i64 k))), (8, (.d (.sl .leaf (ints .i64 (row (pw a k % m))))))], []⟩ =
  some (.exit 0, ⟨[(0, (.d (.int .i64 p))), (1, (.d (.sl .leaf (ints .i64 (row a))))), (2, (.d (.sl .leaf (ints .i64 (row m))))), (7, (.d (.int .i64 n))), (8, (.d (.sl .leaf (ints .i64 (row (pw a n % m)))))), (16, (.d (.bool false)))], []⟩)
 | 0, k, hk, h1k => by
  obtain rfl : k = n := by omega
  have h0 : m ≠ 0 := fun h => by rw [h, Pol.len_zero] at hm2; omega
  have hl := Pol.len_mod (pw a k) h0
  have e1 := h1 p (pw a k % m) (by omega)
  have hx : pw a k % m = 1 := (pow_one_iff hm2 k).2 ho.self
  rw [← row_length (pw a k % m), decide_eq_true (row_one_iff.2 hx)] at e1
  refine dn_stop ?_
  generalize row (pw a k % m) = Rx at *
  generalize row a = Ra at *
  generalize row m = Rm at *
  simp -implicitDefEqProofs [Z14_L0, dn_cond, e1]
 | r + 1, k, hk, h1k => by
  have h0 : m ≠ 0 := fun h => by rw [h, Pol.len_zero] at hm2; omega
  have hl := Pol.len_mod (pw a k) h0
  have e1 := h1 p (pw a k % m) (by omega)
  have hx : ¬ pw a k % m = 1 := fun h => by
   have := (ho k).1 ((pow_one_iff hm2 k).1 h)
   have := Nat.le_of_dvd (by omega) this
   omega
  rw [← row_length (pw a k % m), decide_eq_false (fun h => hx (row_one_iff.1 h))] at e1
  have e2 := hti p (pw a k % m) a (by omega) (by omega)
  have hlm : (pw a k % m * a).len < 5000 := by
   have := Pol.lt_mul (pw a k % m).lt_len a.lt_len
   have := Pol.len_le this
   omega
  have e3 := hre p (pw a k % m * a) m h0 hlm (by omega)
  have e4 : pw a k % m * a % m = pw a (k + 1) % m := by rw [Pol.mul_mod_left _ _ h0]; rfl
  rw [e4] at e3
  have w4 : IntKind.i64.wrap ((k : Int) + 1) = ((k + 1 : Nat) : Int) := (w64 (x := (k : Int) + 1) (by omega)).trans (by omega)
  have ih := l_order h1 hti hre hm2 hml ha hn ho r (k + 1) (by omega) (by omega)
  refine dn_round ?_ ih
  generalize row (pw a (k + 1) % m) = Ry at *
  generalize row (pw a k % m * a) = Rz at *
  generalize row (pw a k % m) = Rx at *
  generalize row a = Ra at *
  generalize row m = Rm at *
  simp -implicitDefEqProofs [Z14_L0, dn_cond, e1, e2, e3, w4]
end
def K_order (O : Oracle) : Prop := ∀ (p : Int) [IsP p] (a m : Fp p) (n : Nat), 2 ≤ m.len → m.len ≤ 64 → a.len < 5000 → 1 ≤ n → n ≤ 1000000000 → Ord (Quo.mk m a) n → ask O F14 [(D.int .i64 p), (D.sl .leaf (ints .i64 (row a))), (D.sl .leaf (ints .i64 (row m)))] = some (D.int .i64 n)
theorem k_order (hT : T F14 = some Z14) (h1 : K_isOne (den T A)) (hti : K_times (den T A)) (hre : K_rest (den T A)) : K_order (den T A) := by
 intro p ip a m n hm2 hml ha hn1 hn ho
 have h0 : m ≠ 0 := fun h => by rw [h, Pol.len_zero] at hm2; omega
 have hl := Pol.len_mod a h0
 have e1 := hre p a m h0 ha (by omega)
 have ho' : Ord (Quo.mk m (a % m)) n := by rw [Pol.mk_mod]; exact ho
 have e2 := l_order (O := den T A) h1 hti hre hm2 hml hl hn ho' (n - 1) 1 (by omega) (Nat.le_refl 1)
 have e11 : pw (a % m) 1 % m = a % m := by rw [pw_1]; exact Pol.mod_small hl
 have e01 : ((1 : Nat) : Int) = 1 := rfl
 rw [e11, e01] at e2
 refine ask_of hT rfl ?_
 generalize row (pw (a % m) n % m) = Rn at *
 generalize row (a % m) = Rx at *
 generalize row a = Ra at *
 generalize row m = Rm at *
 simp -implicitDefEqProofs [Z14, Z14_B, e1, e2]
section
variable {p : Int} [IsP p]
theorem norm_nat (d : Nat) : ((p.toNat ^ d : Nat) : Int) = p ^ d := pow_nat d
theorem num_ne {m : Fp p} (hi : Irr m) (hl : m.len ≤ 6) {k : Nat} (h1 : 1 ≤ k) (hk : (k : Int) < p ^ (m.len - 1)) : Quo.mk m (numP p (k : Int)) ≠ 0 := fun h => by
 have h2 := hi.len
 have h3 := ipow_mono (p := p) (by have := IsP.pos (p := p); omega) (show m.len - 1 ≤ 5 by omega)
 have h4 : p ^ 5 ≤ 16807 := by rcases IsP.h (p := p) with h | h | h | h <;> subst h <;> decide
 have hlen : (numP p (k : Int)).len < m.len := by
  have := Pol.len_le (numP_lt (p := p) (n := (k : Int)) ⟨by omega, by omega⟩ hk)
  omega
 have e := (Pol.mod_eq_iff hi.ne).2 (show Quo.mk m (numP p (k : Int)) = Quo.mk m 0 from h)
 rw [Pol.mod_small hlen, Pol.zero_mod hi.ne] at e
 have e2 := numOf_numP (p := p) (n := (k : Int)) ⟨by omega, by omega⟩
 rw [e, ← numP_zero, numOf_numP ⟨by omega, by omega⟩] at e2
 omega
theorem num_lenP {m : Fp p} (hi : Irr m) (hl : m.len ≤ 6) {k : Nat} (hk : IsPrim m k) : (numP p (k : Int)).len ≤ 5 := by
 have h2 := hi.len
 have h3 := ipow_mono (p := p) (by have := IsP.pos (p := p); omega) (show m.len - 1 ≤ 5 by omega)
 have h4 : p ^ 5 ≤ 16807 := by rcases IsP.h (p := p) with h | h | h | h <;> subst h <;> decide
 have hkb := hk.2.1
 have := Pol.len_le (numP_lt (p := p) (n := (k : Int)) ⟨by omega, by omega⟩ hkb)
 omega
theorem num_order {m : Fp p} (hi : Irr m) (hl : m.len ≤ 6) {k : Nat} (h1 : 1 ≤ k) (hk : (k : Int) < p ^ (m.len - 1)) : ∃ n, 1 ≤ n ∧ n ≤ 20000 ∧ Ord (Quo.mk m (numP p k)) n ∧ (n = p.toNat ^ (m.len - 1) - 1 ↔ Ord (Quo.mk m (numP p k)) (p.toNat ^ (m.len - 1) - 1)) := by
 have h2 := hi.len
 have h3 := ipow_mono (p := p) (by have := IsP.pos (p := p); omega) (show m.len - 1 ≤ 5 by omega)
 have h4 : p ^ 5 ≤ 16807 := by rcases IsP.h (p := p) with h | h | h | h <;> subst h <;> decide
 have hnn := norm_nat (p := p) (m.len - 1)
 have hx : Quo.mk m (numP p (k : Int)) ≠ 0 := num_ne hi hl h1 hk
 have hf := fermat hi (d := m.len - 1) (by omega) (by omega) hx
 obtain ⟨n, hn1, hn⟩ := ord_ex (p.toNat ^ (m.len - 1) - 1) (by omega) hf
 have hdv := (hn _).1 hf
 have hle := Nat.le_of_dvd (by omega) hdv
 refine ⟨n, hn1, by omega, hn, fun e => e ▸ hn, fun h => hn.unique h⟩
theorem l_prim {O : Oracle} (hnu : K_numbered O) (hor : K_order O) {m : Fp p} (hi : Irr m) (hl : m.len ≤ 6) {k : Nat} (hk : IsPrim m k) : ∀ (r n : Nat), n + r = k → 1 ≤ n →
 dn O 0 (.loop Z16_L0) ⟨[(0, (.d (.int .i64 p))), (1, (.d (.sl .leaf (ints .i64 (row m))))), (5, (.d (.int .i64 (p ^ (m.len - 1) - 1)))), (6, (.d (.int .i64 n)))], []⟩ =
  some (.ret, ⟨[(4, (.d (.sl .leaf (ints .i64 (row (numP p k))))))], []⟩)
 | 0, n, hn, h1 => by
  obtain rfl : n = k := by omega
  obtain ⟨q1, q2, q3, q4⟩ := hk
  have h2 := hi.len
  obtain ⟨o, o1, o2, o3, o4⟩ := num_order hi hl q1 q2
  have e1 := hnu p n (by omega) (by
   have h3 := ipow_mono (p := p) (by have := IsP.pos (p := p); omega) (show m.len - 1 ≤ 5 by omega)
   have h4 : p ^ 5 ≤ 16807 := by rcases IsP.h (p := p) with h | h | h | h <;> subst h <;> decide
   omega)
  have hnl := numP_len (p := p) n
  have e2 := hor p (numP p n) m o h2 (by omega) (by omega) o1 (by omega) o3
  have hoN := o4.2 q3
  have hnn := norm_nat (p := p) (m.len - 1)
  have hpp := ppow_pos (p := p) (m.len - 1)
  have heq : (o : Int) = p ^ (m.len - 1) - 1 := by omega
  refine dn_back ?_
  generalize row (numP p (n : Int)) = Rn at *
  generalize p ^ (m.len - 1) - 1 = N at *
  generalize row m = Rm at *
  simp -implicitDefEqProofs [Z16_L0, dn_cond, e1, e2, heq]
 | r + 1, n, hn, h1 => by
  have h2 := hi.len
  obtain ⟨o, o1, o2, o3, o4⟩ := num_order hi hl h1 (by have := hk.2.1; omega)
  have hkb : (k : Int) < 20000 := by
   have := hk.2.1
   have h3 := ipow_mono (p := p) (by have := IsP.pos (p := p); omega) (show m.len - 1 ≤ 5 by omega)
   have h4 : p ^ 5 ≤ 16807 := by rcases IsP.h (p := p) with h | h | h | h <;> subst h <;> decide
   omega
  have e1 := hnu p n (by omega) (by omega)
  have hnl := numP_len (p := p) n
  have e2 := hor p (numP p n) m o h2 (by omega) (by omega) o1 (by omega) o3
  have hne := mt o4.1 (hk.2.2.2 n h1 (by omega))
  have hnn := norm_nat (p := p) (m.len - 1)
  have hpp := ppow_pos (p := p) (m.len - 1)
  have heq : ¬ (o : Int) = p ^ (m.len - 1) - 1 := by omega
  have w4 : IntKind.i64.wrap ((n : Int) + 1) = ((n + 1 : Nat) : Int) := (w64 (x := (n : Int) + 1) (by omega)).trans (by omega)
  refine dn_round ?_ (l_prim hnu hor hi hl hk r (n + 1) (by omega) (by omega))
  generalize row (numP p (n : Int)) = Rn at *
  generalize p ^ (m.len - 1) - 1 = N at *
  generalize row m = Rm at *
  simp -implicitDefEqProofs [Z16_L0, dn_cond, e1, e2, heq, w4]
end
def K_primitive (O : Oracle) : Prop := ∀ (p : Int) [IsP p] (m : Fp p) (k : Nat), Irr m → m.len ≤ 6 → IsPrim m k → ask O F16 [(D.int .i64 p), (D.sl .leaf (ints .i64 (row m)))] = some (D.sl .leaf (ints .i64 (row (numP p k))))
theorem k_primitive (hT : T F16 = some Z16) (hdg : C_degree (den T A)) (hno : C_norm (den T A)) (hnu : K_numbered (den T A)) (hor : K_order (den T A)) : K_primitive (den T A) := by
 intro p ip m k hi hl hk
 have h2 := hi.len
 have h3 := ipow_mono (p := p) (by have := IsP.pos (p := p); omega) (show m.len - 1 ≤ 5 by omega)
 have h4 : p ^ 5 ≤ 16807 := by rcases IsP.h (p := p) with h | h | h | h <;> subst h <;> decide
 have h5 := ppow_pos (p := p) (m.len - 1)
 have e1 := hdg (row m) (by rw [row_length]; omega)
 rw [row_length, show (m.len : Int) - 1 = ((m.len - 1 : Nat) : Int) by omega] at e1
 have e2 := hno p (m.len - 1) 1152921504606846976 (by omega) (by omega)
 rw [normL_eq (m.len - 1) 1 (by omega) (by omega), Int.one_mul] at e2
 have w1 : IntKind.i64.wrap (p ^ (m.len - 1) - 1) = p ^ (m.len - 1) - 1 := w64 (by omega)
 have e3 := l_prim (O := den T A) hnu hor hi hl hk (k - 1) 1 (by have := hk.1; omega) (Nat.le_refl 1)
 have e01 : ((1 : Nat) : Int) = 1 := rfl
 rw [e01] at e3
 refine ask_of hT rfl ?_
 generalize row (numP p (k : Int)) = Rk at *
 generalize p ^ (m.len - 1) = N at *
 generalize row m = Rm at *
 generalize m.len - 1 = d at *
 simp -implicitDefEqProofs [Z16, Z16_B, e1, e2, e3, w1]
end Pe

namespace Pe
open Go Gq
variable {T : Nat → Option Fn} {A : Oracle}
def IsMod (p : Int) (l : List Int) : Prop := ∃ (_ : IsP p) (m : Fp p), l = pad (row m) ∧ Monic m ∧ 2 ≤ m.len ∧ m.len ≤ 6
theorem isMod_iff {p : Int} [IsP p] {m : Fp p} (hm : m.len ≤ 64) : IsMod p (pad (row m)) ↔ Monic m ∧ 2 ≤ m.len ∧ m.len ≤ 6 := by
 constructor
 ·rintro ⟨_, a, e, h1, h2, h3⟩
  obtain rfl := (pad_row_inj hm (by omega)).1 e
  exact ⟨h1, h2, h3⟩
 ·rintro ⟨h1, h2, h3⟩; exact ⟨_, m, rfl, h1, h2, h3⟩
open Classical in
noncomputable def modC (p : Int) (l : List Int) (ls : List (List Int)) : Int := if codeP p (ls ++ [l]) ≠ 0 then 1 else if IsMod p l then 0 else 2
open Classical in
def K_isModulus (O : Oracle) : Prop := ∀ (p : Int) [IsP p] (m : Fp p), m.len ≤ 64 → ask O Fi [(D.arr 64 .leaf (ints .u8 (pad (row m))))] = some (D.bool (decide (m.ld = 1 ∧ 2 ≤ m.len ∧ m.len ≤ 6)))
open Classical in
theorem k_isModulus (hT : T Fi = some Zi) (hro : K_rowOf (den T A)) (hld : C_lead (den T A)) (hdg : C_degree (den T A)) (hwi : C_within (den T A)) : K_isModulus (den T A) := by
 intro p ip a hal
 have e2 := hro p a hal
 have e3 := hld (row a) (by rw [row_length]; omega)
 rw [ld_row] at e3
 have e4 := hdg (row a) (by rw [row_length]; omega)
 rw [row_length] at e4
 have e5 := hwi ((a.len : Int) - 1) 1 5
 have h1 := rep_one_iff a.ld
 refine ask_of hT rfl ?_
 by_cases h0 : a.ld = 1
 ·have h0' := h1.2 h0
  have h3 : decide ((1 : Int) ≤ (a.len : Int) - 1 ∧ (a.len : Int) - 1 ≤ 5) = decide (a.ld = 1 ∧ 2 ≤ a.len ∧ a.len ≤ 6) := decide_eq_decide.2 ⟨fun h => ⟨h0, by omega, by omega⟩, fun h => by omega⟩
  rw [h3] at e5
  rw [h0'] at e3
  generalize decide (a.ld = 1 ∧ 2 ≤ a.len ∧ a.len ≤ 6) = b at *
  generalize row a = Ra at *
  generalize (a.len : Int) - 1 = n at *
  simp -implicitDefEqProofs [Zi, Zi_B, e2, e3, e4, e5]
 ·have h0' := mt h1.1 h0
  rw [decide_eq_false (fun h : a.ld = 1 ∧ 2 ≤ a.len ∧ a.len ≤ 6 => h0 h.1)]
  generalize rep a.ld = x at *
  generalize row a = Ra at *
  simp -implicitDefEqProofs [Zi, Zi_B, e2, e3, h0']
theorem modC_bad {p : Int} {l : List Int} {ls : List (List Int)} (h : codeP p (ls ++ [l]) ≠ 0) : modC p l ls = 1 := by unfold modC; rw [if_pos h]
theorem codeP_01 (p : Int) (ls : List (List Int)) : codeP p ls = 0 ∨ codeP p ls = 1 := by
 unfold codeP; split
 ·exact .inl rfl
 ·exact .inr rfl
theorem codeP_last {p : Int} {l : List Int} {ls : List (List Int)} (h : codeP p (ls ++ [l]) = 0) : codeP p ls = 0 ∧ codeP p [l] = 0 := by
 unfold codeP at h
 split at h
 ·rename_i g
  have g2 := g.2
  rw [List.all_append, Bool.and_eq_true] at g2
  exact ⟨by unfold codeP; rw [if_pos ⟨g.1, g2.1⟩], by unfold codeP; rw [if_pos ⟨g.1, g2.2⟩]⟩
 ·cases h
open Classical in
theorem modC_good {p : Int} [IsP p] {m : Fp p} {ls : List (List Int)} (hm : m.len ≤ 64) (h : codeP p (ls ++ [pad (row m)]) = 0) : modC p (pad (row m)) ls = if Monic m ∧ 2 ≤ m.len ∧ m.len ≤ 6 then 0 else 2 := by
 unfold modC
 rw [if_neg (by simpa using h)]
 by_cases h2 : Monic m ∧ 2 ≤ m.len ∧ m.len ≤ 6
 ·rw [if_pos h2, if_pos ((isMod_iff hm).2 h2)]
 ·rw [if_neg h2, if_neg fun g => h2 ((isMod_iff hm).1 g)]
def H_modCode0 (O : Oracle) : Prop := ∀ (p : Int) (l : List Int), Bytes l → l.length = 64 → O Fr [(.d (.int .i64 p)), (.d (.arr 64 .leaf (ints .u8 l))), .d (.nils (.arr 64 .leaf))] [] = some ((.d (.int .i64 (modC p l []))), [], [])
def H_modCode (O : Oracle) : Prop := ∀ (p : Int) (l : List Int) (ls : List (List Int)), Bytes l → l.length = 64 → Arrs ls → 1 ≤ ls.length → ls.length < 1000 → O Fr [(.d (.int .i64 p)), (.d (.arr 64 .leaf (ints .u8 l))), .sl 0 [] 0 ls.length (some ls.length)] [.sl false (.arr 64 .leaf) (ls.map arr8)] = some ((.d (.int .i64 (modC p l ls))), [.sl false (.arr 64 .leaf) (ls.map arr8)], [])
theorem codeP_zero' {p : Int} {l : List Int} (hb : Bytes l) (hl : l.length = 64) (h : codeP p [l] = 0) : ∃ (_ : IsP p) (a : Fp p), a.len ≤ 64 ∧ l = pad (row a) := by
 rcases arg1 p hb hl with ⟨h1, h2⟩ | ⟨ip, a, hal, e⟩
 ·rw [h1] at h; cases h
 ·exact ⟨ip, a, hal, e⟩
open Classical in
theorem h_modCode0 (hT : T Fr = some Zr) (hpc : C_polysCode (den T A)) (him : K_isModulus (den T A)) : H_modCode0 (den T A) := by
 intro p l hb hl
 have e1 := hpc p [l] (by intro x hx; simp at hx; subst hx; exact ⟨hl, hb⟩) (by simp)
 rw [show List.map arr8 [l] = [(D.arr 64 .leaf (ints .u8 l))] from rfl] at e1
 rcases codeP_01 p [l] with hc | hc
 ·obtain ⟨ip, a, hal, rfl⟩ := codeP_zero' hb hl hc
  rw [modC_good hal (by simpa using hc)]
  rw [hc] at e1
  have e2 := him p a hal
  refine den_of hT rfl ?_
  by_cases h : Monic a ∧ 2 ≤ a.len ∧ a.len ≤ 6
  ·rw [decide_eq_true ⟨h.1.1, h.2⟩] at e2
   rw [if_pos h]
   generalize pad (row a) = Pa at *
   simp -implicitDefEqProofs [Zr, Zr_B, dn_cond, e1, e2, List.replicate]
  ·rw [decide_eq_false (fun g => h ⟨(monic_iff a).2 g.1, g.2⟩)] at e2
   rw [if_neg h]
   generalize pad (row a) = Pa at *
   simp -implicitDefEqProofs [Zr, Zr_B, dn_cond, e1, e2, List.replicate]
 ·rw [modC_bad (by simpa using fun h => by rw [hc] at h; cases h)]
  rw [hc] at e1
  refine den_of hT rfl ?_
  simp -implicitDefEqProofs [Zr, Zr_B, dn_cond, e1, List.replicate]
open Classical in
theorem h_modCode (hT : T Fr = some Zr) (hpc : C_polysCode (den T A)) (him : K_isModulus (den T A)) : H_modCode (den T A) := by
 intro p l ls hb hl ha h1 h2
 have e1 := hpc p (ls ++ [l]) (by
  intro x hx
  rcases List.mem_append.1 hx with hx | hx
  ·exact ha x hx
  ·simp at hx; subst hx; exact ⟨hl, hb⟩) (by rw [List.length_append, List.length_singleton]; omega)
 rw [List.map_append, show List.map arr8 [l] = [(D.arr 64 .leaf (ints .u8 l))] from rfl] at e1
 have hL : (ls.map arr8).length = ls.length := List.length_map ..
 have ht : (ls.map arr8).take ls.length = ls.map arr8 := List.take_of_length_le (by omega)
 have h64 : (ls.length + 1) * 64 ≤ 1099511627776 := by omega
 have hap : (ls.map arr8 ++ [(D.arr 64 .leaf (ints .u8 l))]).take (ls.length + 1) = ls.map arr8 ++ [(D.arr 64 .leaf (ints .u8 l))] := List.take_of_length_le (by rw [List.length_append, hL]; exact Nat.le_refl _)
 rcases codeP_01 p (ls ++ [l]) with hc | hc
 ·obtain ⟨ip, a, hal, rfl⟩ := codeP_zero' hb hl (codeP_last hc).2
  rw [modC_good hal hc]
  rw [hc] at e1
  have e2 := him p a hal
  refine den_of hT rfl ?_
  by_cases h : Monic a ∧ 2 ≤ a.len ∧ a.len ≤ 6
  ·rw [decide_eq_true ⟨h.1.1, h.2⟩] at e2
   rw [if_pos h]
   generalize pad (row a) = Pa at *
   generalize ls.map arr8 = LD at *
   generalize ls.length = n at *
   simp -implicitDefEqProofs [Zr, Zr_B, dn_cond, e1, e2, hL, ht, hap, h64, List.replicate]
  ·rw [decide_eq_false (fun g => h ⟨(monic_iff a).2 g.1, g.2⟩)] at e2
   rw [if_neg h]
   generalize pad (row a) = Pa at *
   generalize ls.map arr8 = LD at *
   generalize ls.length = n at *
   simp -implicitDefEqProofs [Zr, Zr_B, dn_cond, e1, e2, hL, ht, hap, h64, List.replicate]
 ·rw [modC_bad (fun h => by rw [hc] at h; cases h)]
  rw [hc] at e1
  refine den_of hT rfl ?_
  generalize ls.map arr8 = LD at *
  generalize ls.length = n at *
  simp -implicitDefEqProofs [Zr, Zr_B, dn_cond, e1, hL, ht, hap, h64, List.replicate]
def C_sModulus (O : Oracle) : Prop := ∀ (p : Int) (l : List Int) (ls : List (List Int)), Bytes l → l.length = 64 → Arrs ls → ls.length < 1000 → ask O F3j [(D.int .i64 p), (D.arr 64 .leaf (ints .u8 l)), .sl (.arr 64 .leaf) (ls.map arr8)] = some (D.int .i64 (modC p l ls))
theorem codeP_app {p : Int} {l : List Int} {ls : List (List Int)} (h1 : codeP p ls = 0) (h2 : codeP p [l] = 0) : codeP p (ls ++ [l]) = 0 := by
 unfold codeP at h1 h2
 split at h1
 ·split at h2
  ·rename_i g1 g2
   unfold codeP
   rw [if_pos ⟨g1.1, by rw [List.all_append, Bool.and_eq_true]; exact ⟨g1.2, g2.2⟩⟩]
  ·cases h2
 ·cases h1
open Classical in
theorem c_sModulus (hT : T F3j = some Z3j) (hc : C_sCode (den T A)) (hmo : K_sMonic (den T A)) (hdg : K_sDeg (den T A)) (hin : C_sIn (den T A)) : C_sModulus (den T A) := by
 intro p l ls hb hl ha hn
 have e1 := hc p [l] (by intro x hx; simp at hx; subst hx; exact ⟨hl, hb⟩) (by simp)
 rw [show List.map arr8 [l] = [(D.arr 64 .leaf (ints .u8 l))] from rfl] at e1
 have e2 := hc p ls ha (by omega)
 refine ask_of hT rfl ?_
 rcases codeP_01 p [l] with h1 | h1
 ·rw [h1] at e1
  rcases codeP_01 p ls with h2 | h2
  ·rw [h2] at e2
   obtain ⟨ip, a, hal, rfl⟩ := codeP_zero' hb hl h1
   rw [modC_good hal (codeP_app h2 h1)]
   have e3 := hmo p a hal
   have e4 := hdg p a hal
   have e5 := hin ((a.len : Int) - 1) 1 5
   by_cases hM : Monic a
   ·rw [decide_eq_true hM] at e3
    by_cases h : 2 ≤ a.len ∧ a.len ≤ 6
    ·rw [decide_eq_true (show (1 : Int) ≤ (a.len : Int) - 1 ∧ (a.len : Int) - 1 ≤ 5 by omega)] at e5
     rw [if_pos ⟨hM, h⟩]
     generalize pad (row a) = Pa at *
     generalize ls.map arr8 = LD at *
     generalize (a.len : Int) - 1 = d at *
     simp -implicitDefEqProofs [Z3j, Z3j_B, dn_cond, e1, e2, e3, e4, e5, List.replicate]
    ·rw [decide_eq_false (show ¬ ((1 : Int) ≤ (a.len : Int) - 1 ∧ (a.len : Int) - 1 ≤ 5) by omega)] at e5
     rw [if_neg fun g => h g.2]
     generalize pad (row a) = Pa at *
     generalize ls.map arr8 = LD at *
     generalize (a.len : Int) - 1 = d at *
     simp -implicitDefEqProofs [Z3j, Z3j_B, dn_cond, e1, e2, e3, e4, e5, List.replicate]
   ·rw [decide_eq_false hM] at e3
    rw [if_neg fun g => hM g.1]
    generalize pad (row a) = Pa at *
    generalize ls.map arr8 = LD at *
    simp -implicitDefEqProofs [Z3j, Z3j_B, dn_cond, e1, e2, e3, List.replicate]
  ·rw [modC_bad (fun h => by rw [(codeP_last h).1] at h2; cases h2)]
   rw [h2] at e2
   generalize ls.map arr8 = LD at *
   simp -implicitDefEqProofs [Z3j, Z3j_B, dn_cond, e1, e2, List.replicate]
 ·rw [modC_bad (fun h => by rw [(codeP_last h).2] at h1; cases h1)]
  rw [h1] at e1
  generalize ls.map arr8 = LD at *
  simp -implicitDefEqProofs [Z3j, Z3j_B, dn_cond, e1, List.replicate]
end Pe

namespace Pe
open Go Gq
variable {T : Nat → Option Fn} {A : Oracle}
theorem l_sPowG {O : Oracle} {b : Int} (hb : 1 ≤ b) : ∀ (n : Nat) (out : Int), n < 100000 → 0 < out → out * b ^ n ≤ 1000000000000000 →
 dn O 0 (.loop Z3l_L0) ⟨[(0, (.d (.int .i64 b))), (1, (.d (.int .i64 n))), (5, (.d (.int .i64 out)))], []⟩ =
  some (.exit 0, ⟨[(0, (.d (.int .i64 b))), (1, (.d (.int .i64 0))), (5, (.d (.int .i64 (out * b ^ n)))), (7, (.d (.bool false)))], []⟩)
 | 0, out, _, h1, h2 => by
  rw [Int.pow_zero, Int.mul_one]
  exact dn_stop (by simp -implicitDefEqProofs [Z3l_L0, dn_cond])
 | n + 1, out, hn, h1, h2 => by
  have e : out * b ^ (n + 1) = out * b * b ^ n := by rw [Int.pow_succ, Int.mul_assoc, Int.mul_comm b]
  have h3 : 1 ≤ b ^ n := Int.pow_pos hb
  have h4 : 0 < out * b := Int.mul_pos h1 hb
  have h5 : out * b * 1 ≤ out * b * b ^ n := Int.mul_le_mul_of_nonneg_left h3 (by omega)
  rw [e] at h2 ⊢
  have h0 : (0 : Int) < (n : Int) + 1 := by omega
  have w1 : IntKind.i64.wrap (out * b) = out * b := w64 (by omega)
  have w2 : IntKind.i64.wrap (n : Int) = n := w64 (by omega)
  refine dn_round ?_ (l_sPowG hb n (out * b) (by omega) h4 h2)
  simp -implicitDefEqProofs [Z3l_L0, dn_cond, h0, w1, w2]
def K_sPowG (O : Oracle) : Prop := ∀ (b : Int) (n : Nat), 1 ≤ b → n < 100000 → b ^ n ≤ 1000000000000000 → ask O F3l [(D.int .i64 b), (D.int .i64 n)] = some (D.int .i64 (b ^ n))
theorem k_sPowG (hT : T F3l = some Z3l) : K_sPowG (den T A) := by
 intro b n hb hn h
 have e := l_sPowG (O := den T A) hb n 1 hn (by omega) (by omega)
 rw [Int.one_mul] at e
 refine ask_of hT rfl ?_
 simp -implicitDefEqProofs [Z3l, Z3l_B, e]
section
variable {p : Int} [IsP p]
theorem p12 : p ^ 12 ≤ 13841287201 := by rcases IsP.h (p := p) with h | h | h | h <;> subst h <;> decide
theorem pmono {a b : Nat} (h : a ≤ b) : p ^ a ≤ p ^ b := ipow_mono (p := p) (by have := IsP.pos (p := p); omega) h
theorem l_sEul {O : Oracle} (hdg : K_sDeg O) (hpo : K_sPowG O) {L : Facs p} (hL : ∀ x ∈ L, 2 ≤ x.1.len ∧ x.1.len ≤ 13 ∧ 1 ≤ x.2 ∧ x.2 ≤ 12) (hLl : L.length ≤ 12) : ∀ (k i e : Nat) (out : Int), i + k = L.length → 0 ≤ out → out ≤ p ^ e → e + dgF (L.drop i) ≤ 12 →
 dn O 0 (.loop Z3g_L0) ⟨[(0, (.d (.int .i64 p))), (5, .d (.sl facSh8 (L.map facP))), (6, (.d (.int .i64 out))), (7, (.d (.int .i64 i)))], [.hole]⟩ =
  some (.exit 0, ⟨[(0, (.d (.int .i64 p))), (5, .d (.sl facSh8 (L.map facP))), (6, (.d (.int .i64 (eulA p out (L.drop i))))), (7, (.d (.int .i64 L.length))), (15, (.d (.bool false)))], [.hole]⟩)
 | 0, i, e, out, hi, h1, h2, h3 => by
  obtain rfl : i = L.length := by omega
  rw [List.drop_length]
  have hlen : (L.map facP).length = L.length := by simp
  refine dn_stop ?_
  generalize L.map facP = LD at *
  simp -implicitDefEqProofs [Z3g_L0, dn_cond, eulA, hlen]
 | k + 1, i, e, out, hi, h1, h2, h3 => by
  have hlt : i < L.length := by omega
  obtain ⟨q1, q2, q3, q4⟩ := hL _ (List.getElem_mem hlt)
  rw [List.drop_eq_getElem_cons hlt, dgF] at h3
  rw [List.drop_eq_getElem_cons hlt, eulA]
  generalize hxe : L[i] = x at *
  obtain ⟨b1, b2, b3, b4⟩ := eul_step (p := p) q3 h1 h2 q1
  have hk1 : x.1.len - 1 ≤ x.2 * (x.1.len - 1) := by
   have := Nat.mul_le_mul_right (x.1.len - 1) q3
   omega
  have e1 := hdg p x.1 (by omega)
  rw [show ((x.1.len : Int) - 1) = ((x.1.len - 1 : Nat) : Int) by omega] at e1
  have g12 := p12 (p := p)
  have m1 := pmono (p := p) (show x.1.len - 1 ≤ 12 by omega)
  have m2 := pmono (p := p) (show e + x.2 * (x.1.len - 1) ≤ 12 by omega)
  have m3 := pmono (p := p) (show e + (x.1.len - 1) ≤ 12 by omega)
  have n1 := ppow_pos (p := p) (x.1.len - 1)
  have e2 := hpo p (x.1.len - 1) (by have := IsP.pos (p := p); omega) (by omega) (by omega)
  have hsp : (p ^ (x.1.len - 1)) ^ (x.2 - 1) ≤ p ^ 12 := by
   rw [ppow_split]
   refine pmono ?_
   have : (x.1.len - 1) * (x.2 - 1) ≤ x.2 * (x.1.len - 1) := by
    rw [Nat.mul_comm x.2]; exact Nat.mul_le_mul_left _ (by omega)
   omega
  have e3 := hpo (p ^ (x.1.len - 1)) (x.2 - 1) (by omega) (by omega) (by omega)
  have w1 : IntKind.i64.wrap (p ^ (x.1.len - 1) - 1) = p ^ (x.1.len - 1) - 1 := w64 (by omega)
  have w2 : IntKind.i64.wrap (out * (p ^ (x.1.len - 1) - 1)) = out * (p ^ (x.1.len - 1) - 1) := w64 (by omega)
  have w3 : IntKind.i64.wrap (out * (p ^ (x.1.len - 1) - 1) * (p ^ (x.1.len - 1)) ^ (x.2 - 1)) = out * (p ^ (x.1.len - 1) - 1) * (p ^ (x.1.len - 1)) ^ (x.2 - 1) := w64 (by omega)
  have w4 : IntKind.i64.wrap ((i : Int) + 1) = ((i + 1 : Nat) : Int) := (w64 (x := (i : Int) + 1) (by omega)).trans (by omega)
  have w5 : IntKind.i64.wrap ((x.2 : Int) - 1) = ((x.2 - 1 : Nat) : Int) := (w64 (x := (x.2 : Int) - 1) (by omega)).trans (by omega)
  have ih := l_sEul (O := O) hdg hpo hL hLl k (i + 1) (e + x.2 * (x.1.len - 1)) (out * (p ^ (x.1.len - 1) - 1) * (p ^ (x.1.len - 1)) ^ (x.2 - 1)) (by omega) b1 b2 (by omega)
  refine dn_round ?_ ih
  have hlen : (L.map facP).length = L.length := by simp
  have hget : ∀ h : i < (L.map facP).length, (L.map facP)[i]'h = facP x := fun h => by rw [List.getElem_map, hxe]
  clear ih b1 b2 b3 b4
  simp only [facP] at hget
  generalize L.map facP = LD at *
  generalize pad (row x.1) = PX at *
  generalize (p ^ (x.1.len - 1)) ^ (x.2 - 1) = N2 at *
  generalize p ^ (x.1.len - 1) = N1 at *
  generalize x.1.len - 1 = d at *
  generalize hk : x.2 - 1 = k2 at *
  generalize x.2 = kk at *
  simp -implicitDefEqProofs [Z3g_L0, dn_cond, hlt, hlen, hget, e1, e2, e3, w1, w2, w3, w4, w5]
theorem isFac_fac {m : Fp p} {L : Facs p} (h : IsFac m L) : IsFac m (fac m) := by
 unfold fac
 rw [dif_pos ⟨L, h⟩]
 exact Classical.choose_spec (⟨L, h⟩ : ∃ L, IsFac m L)
theorem IsFac.small {m : Fp p} (hm : m ≠ 0) (hl : m.len ≤ 13) {L : Facs p} (h : IsFac m L) : (∀ x ∈ L, 2 ≤ x.1.len ∧ x.1.len ≤ 13 ∧ 1 ≤ x.2 ∧ x.2 ≤ 12) ∧ dgF L + 1 = m.len := by
 refine ⟨fun x hx => ?_, ?_⟩
 ·obtain ⟨q1, q2, q3, _⟩ := h.len hm hx
  exact ⟨q1, by omega, (h.ok.irr x hx).2.2, by omega⟩
 ·rw [← dgF_len h.ok]
  conv => rhs; rw [h.eq]
  exact (Pol.len_Cmul (Pol.ld_ne hm) _).symm
end
def K_sEuler (O : Oracle) : Prop := ∀ (p : Int) [IsP p] (m : Fp p), m ≠ 0 → m.len ≤ 13 → ask O F3g [(D.int .i64 p), (D.arr 64 .leaf (ints .u8 (pad (row m))))] = some (D.int .i64 (eul m))
theorem k_sEuler (hT : T F3g = some Z3g) (hsp : K_sSplit (den T A)) (hf : K_fac (den T A)) (hdg : K_sDeg (den T A)) (hpo : K_sPowG (den T A)) : K_sEuler (den T A) := by
 intro p ip m hm hml
 obtain ⟨f1, f2, _⟩ := hf p m hm hml
 have f3 := hsp p m hm hml
 obtain ⟨g1, g2⟩ := f1.small hm hml
 have e := l_sEul (O := den T A) hdg hpo g1 f2 (fac m).length 0 0 1 (Nat.zero_add _) (by omega) (by rw [Int.pow_zero]; omega) (by rw [List.drop_zero]; omega)
 have e0 : ((0 : Nat) : Int) = 0 := rfl
 rw [e0, List.drop_zero] at e
 refine ask_of hT rfl ?_
 unfold eul
 generalize (fac m).map facP = LD at *
 generalize pad (row m) = PM at *
 simp -implicitDefEqProofs [Z3g, Z3g_B, f3, e]
theorem eul_irr {p : Int} [IsP p] {m : Fp p} (hi : Irr m) (hM : Monic m) : eul m = p ^ (m.len - 1) - 1 := by
 have h1 : fac m = [(m, 1)] := (isFac_fac (fac_irr hi hM)).unique hi.ne (fac_irr hi hM)
 unfold eul
 rw [h1]
 simp only [eulA]
 rw [Nat.sub_self, Int.pow_zero, Int.mul_one, Int.one_mul]
section
variable {p : Int} [IsP p]
theorem l_sOrd0 {O : Oracle} (hpw : K_sPowMod O) (h1 : K_sOne O) {a m : Fp p} (hm2 : 2 ≤ m.len) (hml : m.len ≤ 64) (hal : a.len ≤ 64) {n : Nat} (hn : Ord (Quo.mk m a) n) {q : Nat} (hq : 2 ≤ q) (hqb : q ≤ 1000000000000) : ∀ (rest order : Nat) (f : Bool) (x : Env), (x = [] ∨ x = [(16, (.d (.bool true)))] ∨ x = [(34, (.d (.bool false)))]) → OrdI n q rest order f → rest ≤ 1000000000000 → order ≤ 1000000000000 → ∃ (rest' order' : Nat) (f' : Bool), OrdI n q rest' order' f' ∧ ¬ q ∣ rest' ∧ rest' ≤ rest ∧ order' ≤ order ∧
 dn O 0 (.loop Z3k_L0) ⟨(0, (.d (.int .i64 p))) :: (4, .ptr 0 []) :: (5, .ptr 1 []) :: (7, (.d (.int .i64 order))) :: (8, (.d (.int .i64 rest))) :: (9, (.d (.int .i64 q))) :: x, [.box false (D.arr 64 .leaf (ints .u8 (pad (row a)))), .box false (D.arr 64 .leaf (ints .u8 (pad (row m))))]⟩ =
  some (.exit 2, ⟨[(0, (.d (.int .i64 p))), (4, .ptr 0 []), (5, .ptr 1 []), (7, (.d (.int .i64 order'))), (8, (.d (.int .i64 rest'))), (9, (.d (.int .i64 q))), (22, (.d (.bool false)))], [.box false (D.arr 64 .leaf (ints .u8 (pad (row a)))), .box false (D.arr 64 .leaf (ints .u8 (pad (row m))))]⟩) := by
 intro rest
 induction rest using Nat.strongRecOn with
 | ind rest ih =>
  intro order f x hx hI hr ho
  have h0 : m ≠ 0 := fun h => by rw [h, Pol.len_zero] at hm2; omega
  by_cases hd : q ∣ rest
  ·obtain ⟨r, rfl⟩ := hd
   obtain ⟨c, hc, -⟩ := hI.rel
   obtain ⟨c', rfl⟩ : ∃ c', order = q * c' := ⟨r * c, by rw [hc, Nat.mul_assoc]⟩
   have hrp : 1 ≤ r := by
    have := hI.rest_pos
    rcases Nat.eq_zero_or_pos r with h | h
    ·rw [h, Nat.mul_zero] at this; omega
    ·exact h
   have hlt : r < q * r := by
    have := Nat.mul_le_mul_right r hq
    omega
   have hcp : c' ≤ q * c' := Nat.le_mul_of_pos_left c' (by omega)
   have hrem : Int.tmod ((q * r : Nat) : Int) (q : Int) = 0 := by
    have : Int.tmod ((q * r : Nat) : Int) (q : Int) = (((q * r) % q : Nat) : Int) := rfl
    rw [this, Nat.mul_mod_right]; rfl
   have hquo : Int.tdiv ((q * r : Nat) : Int) (q : Int) = (r : Int) := by
    have : Int.tdiv ((q * r : Nat) : Int) (q : Int) = (((q * r) / q : Nat) : Int) := rfl
    rw [this, Nat.mul_div_cancel_left r (by omega)]
   have hquo2 : Int.tdiv ((q * c' : Nat) : Int) (q : Int) = (c' : Int) := by
    have : Int.tdiv ((q * c' : Nat) : Int) (q : Int) = (((q * c') / q : Nat) : Int) := rfl
    rw [this, Nat.mul_div_cancel_left c' (by omega)]
   have hq0 : ¬ (q : Int) = 0 := by omega
   have hq0' : ¬ q = 0 := by omega
   have w1 : IntKind.i64.wrap (r : Int) = r := w64 (by omega)
   have w2 : IntKind.i64.wrap (c' : Int) = c' := w64 (by omega)
   have e1 := hpw p a c' m h0 hal hml (by omega) (by omega)
   rw [show ((c' : Int)).toNat = c' from Int.toNat_natCast c'] at e1
   have e2 := h1 p
   have hlm := Pol.len_mod (pw a c') h0
   have hbq := beq_P (l := pad (row (pw a c' % m))) (m := pad (row (1 : Fp p))) (pad_length _) (pad_length _)
   have hiff : pad (row (pw a c' % m)) = pad (row (1 : Fp p)) ↔ n ∣ c' := by
    rw [pad_row_inj (by omega) (by rw [Pol.len_one]; omega), pow_one_iff hm2]
    exact hn c'
   by_cases hnc : n ∣ c'
   ·obtain ⟨rest', order', f', g1, g2, g3, g4, g5⟩ := ih r hlt c' f [] (.inl rfl) (hI.yes hq hnc) (by omega) (by omega)
    refine ⟨rest', order', f', g1, g2, by omega, by omega, dn_round ?_ g5⟩
    rw [decide_eq_true (hiff.2 hnc)] at hbq
    clear g5 ih hiff
    generalize pad (row (pw a c' % m)) = Pw at *
    generalize pad (row (1 : Fp p)) = P1 at *
    generalize pad (row a) = Pa at *
    generalize pad (row m) = Pm at *
    generalize ((q * r : Nat) : Int) = R at *
    generalize ((q * c' : Nat) : Int) = C at *
    rcases hx with rfl | rfl | rfl <;> simp -implicitDefEqProofs [Z3k_L0, dn_cond, hrem, hquo, hquo2, hq0', w1, w2, e1, e2, hbq]
   ·obtain ⟨rest', order', f', g1, g2, g3, g4, g5⟩ := ih r hlt (q * c') true [(34, (.d (.bool false)))] (.inr (.inr rfl)) (hI.no hq hnc) (by omega) ho
    refine ⟨rest', order', f', g1, g2, by omega, by omega, dn_round ?_ g5⟩
    rw [decide_eq_false fun h => hnc (hiff.1 h)] at hbq
    clear g5 ih hiff
    generalize pad (row (pw a c' % m)) = Pw at *
    generalize pad (row (1 : Fp p)) = P1 at *
    generalize pad (row a) = Pa at *
    generalize pad (row m) = Pm at *
    generalize ((q * r : Nat) : Int) = R at *
    generalize ((q * c' : Nat) : Int) = C at *
    rcases hx with rfl | rfl | rfl <;> simp -implicitDefEqProofs [Z3k_L0, dn_cond, hrem, hquo, hquo2, hq0', w1, w2, e1, e2, hbq]
  ·refine ⟨rest, order, f, hI, hd, Nat.le_refl _, Nat.le_refl _, dn_stop ?_⟩
   have hrem : Int.tmod (rest : Int) (q : Int) = ((rest % q : Nat) : Int) := rfl
   have hne : ¬ ((rest % q : Nat) : Int) = 0 := fun h => hd (Nat.dvd_of_mod_eq_zero (by omega))
   have hq0 : ¬ (q : Int) = 0 := by omega
   have hq0' : ¬ q = 0 := by omega
   generalize ((rest % q : Nat) : Int) = x at *
   generalize pad (row a) = Pa at *
   generalize pad (row m) = Pm at *
   rcases hx with rfl | rfl | rfl <;> simp -implicitDefEqProofs [Z3k_L0, dn_cond, hrem, hne, hq0']
theorem l_sOrd1 {O : Oracle} (hpw : K_sPowMod O) (h1 : K_sOne O) {a m : Fp p} (hm2 : 2 ≤ m.len) (hml : m.len ≤ 64) (hal : a.len ≤ 64) {n : Nat} (hn : Ord (Quo.mk m a) n) : ∀ (k q rest order : Nat), rest + 1 ≤ q + k → 2 ≤ q → q ≤ 1000000000000 → rest < 1000000000000 → order ≤ 1000000000000 → OrdI n q rest order false → ∃ (q' rest' : Nat),
 dn O 0 (.loop Z3k_L1) ⟨[(0, (.d (.int .i64 p))), (4, .ptr 0 []), (5, .ptr 1 []), (7, (.d (.int .i64 order))), (8, (.d (.int .i64 rest))), (9, (.d (.int .i64 q)))], [.box false (D.arr 64 .leaf (ints .u8 (pad (row a)))), .box false (D.arr 64 .leaf (ints .u8 (pad (row m))))]⟩ =
  some (.exit 0, ⟨[(0, (.d (.int .i64 p))), (4, .ptr 0 []), (5, .ptr 1 []), (7, (.d (.int .i64 n))), (8, (.d (.int .i64 rest'))), (9, (.d (.int .i64 q'))), (16, (.d (.bool false)))], [.box false (D.arr 64 .leaf (ints .u8 (pad (row a)))), .box false (D.arr 64 .leaf (ints .u8 (pad (row m))))]⟩)
 | 0, q, rest, order, hk, hq, hqb, hr, ho, hI => by
  have hlt : ¬ (q : Int) ≤ rest := by omega
  have hlt' : ¬ q ≤ rest := by omega
  rw [← hI.done (by omega)]
  refine ⟨q, rest, dn_stop ?_⟩
  generalize pad (row a) = Pa at *
  generalize pad (row m) = Pm at *
  simp -implicitDefEqProofs [Z3k_L1, dn_cond, hlt]
 | k + 1, q, rest, order, hk, hq, hqb, hr, ho, hI => by
  by_cases hle : q ≤ rest
  ·obtain ⟨r', o', f', g1, g2, g3, g4, g5⟩ := l_sOrd0 hpw h1 hm2 hml hal hn hq hqb rest order false [(16, (.d (.bool true)))] (.inr (.inl rfl)) hI (by omega) ho
   obtain ⟨q2, r2, ih⟩ := l_sOrd1 hpw h1 hm2 hml hal hn k (q + 1) r' o' (by omega) (by omega) (by omega) (by omega) (by omega) (g1.next hq g2)
   refine ⟨q2, r2, dn_round ?_ ih⟩
   have hle' : (q : Int) ≤ rest := by omega
   have w4 : IntKind.i64.wrap ((q : Int) + 1) = ((q + 1 : Nat) : Int) := (w64 (x := (q : Int) + 1) (by omega)).trans (by omega)
   clear ih
   generalize pad (row a) = Pa at *
   generalize pad (row m) = Pm at *
   simp -implicitDefEqProofs [Z3k_L1, dn_cond, hle', g5, w4]
  ·have hlt : ¬ (q : Int) ≤ rest := by omega
   rw [← hI.done (by omega)]
   refine ⟨q, rest, dn_stop ?_⟩
   generalize pad (row a) = Pa at *
   generalize pad (row m) = Pm at *
   simp -implicitDefEqProofs [Z3k_L1, dn_cond, hlt]
end
def K_sOrder (O : Oracle) : Prop := ∀ (p : Int) [IsP p] (a m : Fp p) (n : Nat), m ≠ 0 → 2 ≤ m.len → m.len ≤ 13 → a.len ≤ 64 → Ord (Quo.mk m a) n → 1 ≤ eul m → eul m < 100000000000 → n ∣ (eul m).toNat → ask O F3k [(D.int .i64 p), (D.arr 64 .leaf (ints .u8 (pad (row a)))), (D.arr 64 .leaf (ints .u8 (pad (row m))))] = some (D.int .i64 n)
theorem k_sOrder (hT : T F3k = some Z3k) (heu : K_sEuler (den T A)) (hpw : K_sPowMod (den T A)) (h1 : K_sOne (den T A)) : K_sOrder (den T A) := by
 intro p ip a m n hm hm2 hml hal hn he1 he hd
 have e1 := heu p m hm hml
 obtain ⟨q', r', e2⟩ := l_sOrd1 (O := den T A) hpw h1 hm2 (by omega) hal hn (eul m).toNat 2 (eul m).toNat (eul m).toNat (by omega) (Nat.le_refl 2) (by omega) (by omega) (by omega) (OrdI.init (by omega) hd)
 rw [show (((eul m).toNat : Nat) : Int) = eul m by omega] at e2
 have e02 : ((2 : Nat) : Int) = 2 := rfl
 rw [e02] at e2
 refine ask_of hT rfl ?_
 generalize eul m = E at *
 generalize pad (row a) = Pa at *
 generalize pad (row m) = Pm at *
 simp -implicitDefEqProofs [Z3k, Z3k_B, e1, e2]
end Pe

namespace Pe
open Go Gq
variable {T : Nat → Option Fn} {A : Oracle}
open Classical in
noncomputable def prD (p : Int) (l : List Int) : D :=
 if h : ∃ (_ : IsP p) (m : Fp p) (k : Nat), l = pad (row m) ∧ Monic m ∧ 2 ≤ m.len ∧ m.len ≤ 6 ∧ Irr m ∧ IsPrim m k then
  .tup [(D.arr 64 .leaf (ints .u8 (pad (row (numP p ((Classical.choose h.choose_spec.choose_spec : Nat) : Int)))))), (D.int .i64 0)]
 else .tup [(D.arr 64 .leaf (ints .u8 (pad []))), (D.int .i64 (if modC p l [] = 0 then 5 else modC p l []))]
theorem prD_good {p : Int} [ip : IsP p] {m : Fp p} {k : Nat} (hM : Monic m) (h2 : 2 ≤ m.len) (h6 : m.len ≤ 6) (hi : Irr m) (hk : IsPrim m k) : prD p (pad (row m)) = .tup [(D.arr 64 .leaf (ints .u8 (pad (row (numP p k))))), (D.int .i64 0)] := by
 have h : ∃ (_ : IsP p) (m' : Fp p) (k : Nat), pad (row m) = pad (row m') ∧ Monic m' ∧ 2 ≤ m'.len ∧ m'.len ≤ 6 ∧ Irr m' ∧ IsPrim m' k := ⟨ip, m, k, rfl, hM, h2, h6, hi, hk⟩
 unfold prD
 rw [dif_pos h]
 have hs := Classical.choose_spec h.choose_spec.choose_spec
 obtain ⟨s1, s2, s3, s4, s5, s6⟩ := hs
 have e := (pad_row_inj (by omega) (by omega)).1 s1
 generalize Classical.choose h.choose_spec.choose_spec = k' at s6 ⊢
 rw [← e] at s6
 rw [hk.unique s6]
open Classical in
theorem prD_bad {p : Int} {l : List Int} (h : modC p l [] ≠ 0) : prD p l = .tup [(D.arr 64 .leaf (ints .u8 (pad []))), (D.int .i64 (modC p l []))] := by
 unfold prD
 rw [dif_neg, if_neg h]
 rintro ⟨ip, m, k, rfl, h1, h2, h3, -⟩
 refine h ?_
 rw [modC_good (by omega) (by rw [List.nil_append, codeP_one]), if_pos ⟨h1, h2, h3⟩]
theorem prD_red {p : Int} [IsP p] {m : Fp p} (hm : m.len ≤ 64) (h : modC p (pad (row m)) [] = 0) (hi : ¬ Irr m) : prD p (pad (row m)) = .tup [(D.arr 64 .leaf (ints .u8 (pad []))), (D.int .i64 5)] := by
 unfold prD
 rw [dif_neg, if_pos h]
 rintro ⟨_, a, k, e, -, -, h6, ha, -⟩
 obtain rfl := (pad_row_inj hm (by omega)).1 e
 exact hi ha
theorem modC_zero {p : Int} {l : List Int} {ls : List (List Int)} (h : modC p l ls = 0) : ∃ (_ : IsP p) (m : Fp p), l = pad (row m) ∧ Monic m ∧ 2 ≤ m.len ∧ m.len ≤ 6 := by
 unfold modC at h
 split at h
 ·cases h
 ·split at h
  ·assumption
  ·cases h
def K_PrimitiveOf (O : Oracle) (F : Nat) : Prop := ∀ (p : Int) (l : List Int), Bytes l → l.length = 64 → ask O F [(D.int .i64 p), (D.arr 64 .leaf (ints .u8 l))] = some (prD p l)
open Classical in
theorem k_PrimitiveOf (hT : T Fa = some Za) (hmc : H_modCode0 (den T A)) (hro : K_rowOf (den T A)) (hir : K_isIrr (den T A)) (hpr : K_primitive (den T A)) (hto : C_told (den T A)) : K_PrimitiveOf (den T A) Fa := by
 intro p l hb hl
 have e1 := hmc p l hb hl
 by_cases h0 : modC p l [] = 0
 ·have h0' := h0
  rw [h0] at e1
  obtain ⟨ip, m, rfl, hM, h2, h6⟩ := modC_zero h0
  have e2 := hro p m (by omega)
  have e3 := hir p m (by omega)
  by_cases hi : Irr m
  ·obtain ⟨k, hk⟩ := isPrim_ex hi (by omega)
   rw [prD_good hM h2 h6 hi hk]
   rw [decide_eq_true ⟨hM, hi⟩] at e3
   have e4 := hpr p m k hi h6 hk
   have hkl := num_lenP hi h6 hk
   have e5 := hto (row (numP p k)) (row_bytes _) (by rw [row_length]; omega)
   unfold toldD at e5
   rw [if_pos (by rw [row_length]; omega)] at e5
   refine ask_of hT rfl ?_
   generalize pad (row (numP p (k : Int))) = Pk at *
   generalize row (numP p (k : Int)) = Rk at *
   generalize pad (row m) = Pm at *
   generalize row m = Rm at *
   simp -implicitDefEqProofs [Za, Za_B, dn_cond, e1, e2, e3, e4, e5, List.replicate, List.idxOf, List.findIdx, List.findIdx.go]
  ·rw [prD_red (by omega) h0' hi]
   rw [decide_eq_false fun h => hi h.2] at e3
   refine ask_of hT rfl ?_
   generalize pad (row m) = Pm at *
   generalize row m = Rm at *
   simp -implicitDefEqProofs [Za, Za_B, dn_cond, e1, e2, e3, List.replicate, List.idxOf, List.findIdx, List.findIdx.go]
 ·rw [prD_bad h0]
  refine ask_of hT rfl ?_
  generalize modC p l [] = c at *
  simp -implicitDefEqProofs [Za, Za_B, dn_cond, e1, h0, List.replicate, List.idxOf, List.findIdx, List.findIdx.go]
section
variable {p : Int} [IsP p]
theorem l_sPrim {O : Oracle} (hof : K_sOf O) (hor : K_sOrder O) {m : Fp p} (hi : Irr m) (hM : Monic m) (hl : m.len ≤ 6) {k : Nat} (hk : IsPrim m k) : ∀ (r n : Nat), n + r = k → 1 ≤ n →
 dn O 0 (.loop Z2l_L0) ⟨[(0, (.d (.int .i64 p))), (3, .ptr 0 []), (4, .ptr 1 []), (7, (.d (.int .i64 (p ^ (m.len - 1))))), (8, (.d (.int .i64 n)))], [.box false (D.arr 64 .leaf (ints .u8 (pad (row m)))), .box false (D.arr 64 .leaf (ints .u8 (pad []))), .hole]⟩ =
  some (.ret, ⟨[(4, .ptr 1 []), (5, (.d (.int .i64 0)))], [.hole, .box false (D.arr 64 .leaf (ints .u8 (pad (row (numP p k))))), .hole]⟩)
 | r, n, hn, h1 => by
  have h2 := hi.len
  obtain ⟨o, o1, o2, o3, o4⟩ := num_order hi hl h1 (by have := hk.2.1; omega)
  have hpb : p ^ (m.len - 1) ≤ 16807 := by
   have h3 := ipow_mono (p := p) (by have := IsP.pos (p := p); omega) (show m.len - 1 ≤ 5 by omega)
   have h4 : p ^ 5 ≤ 16807 := by rcases IsP.h (p := p) with h | h | h | h <;> subst h <;> decide
   omega
  have hpp := ppow_pos (p := p) (m.len - 1)
  have hkb := hk.2.1
  have e1 := hof p n (by omega) (by omega)
  have hnl := numP_len (p := p) n
  have heu := eul_irr hi hM
  have hge : 2 ≤ p ^ (m.len - 1) := by
   have := pmono (p := p) (show 1 ≤ m.len - 1 by omega)
   rw [Int.pow_one] at this
   have := IsP.ge (p := p)
   omega
  have hnn := norm_nat (p := p) (m.len - 1)
  have hx : Quo.mk m (numP p (n : Int)) ≠ 0 := num_ne hi (by omega) h1 (by omega)
  have hf := fermat hi (d := m.len - 1) (by omega) (by omega) hx
  have e2 := hor p (numP p n) m o hi.ne h2 (by omega) hnl o3 (by omega) (by omega) (by
   rw [heu]
   have := (o3 _).1 hf
   rw [show (p ^ (m.len - 1) - 1).toNat = p.toNat ^ (m.len - 1) - 1 by omega]
   exact this)
  have w1 : IntKind.i64.wrap (p ^ (m.len - 1) - 1) = p ^ (m.len - 1) - 1 := w64 (by omega)
  have w4 : IntKind.i64.wrap ((n : Int) + 1) = ((n + 1 : Nat) : Int) := (w64 (x := (n : Int) + 1) (by omega)).trans (by omega)
  match r, hn with
  | 0, hn =>
   obtain rfl : n = k := by omega
   have hoN := o4.2 hk.2.2.1
   have heq : (o : Int) = p ^ (m.len - 1) - 1 := by omega
   refine dn_back ?_
   generalize pad (row (numP p (n : Int))) = Pn at *
   generalize p ^ (m.len - 1) = N at *
   generalize pad (row m) = Pm at *
   simp -implicitDefEqProofs [Z2l_L0, dn_cond, e1, e2, heq, w1]
  | r + 1, hn =>
   have hne := mt o4.1 (hk.2.2.2 n h1 (by omega))
   have heq : ¬ (o : Int) = p ^ (m.len - 1) - 1 := by omega
   refine dn_round ?_ (l_sPrim hof hor hi hM hl hk r (n + 1) (by omega) (by omega))
   generalize pad (row (numP p (n : Int))) = Pn at *
   generalize p ^ (m.len - 1) = N at *
   generalize pad (row m) = Pm at *
   simp -implicitDefEqProofs [Z2l_L0, dn_cond, e1, e2, heq, w1, w4]
end
open Classical in
theorem k_sPrimitiveOf (hT : T F2l = some Z2l) (hmc : C_sModulus (den T A)) (hir : K_sIrr (den T A)) (hdg : K_sDeg (den T A)) (hct : K_sCount (den T A)) (hof : K_sOf (den T A)) (hor : K_sOrder (den T A)) : K_PrimitiveOf (den T A) F2l := by
 intro p l hb hl
 have e1 := hmc p l [] hb hl (fun x hx => by cases hx) (by simp)
 rw [List.map_nil] at e1
 by_cases h0 : modC p l [] = 0
 ·have h0' := h0
  rw [h0] at e1
  obtain ⟨ip, m, rfl, hM, h2, h6⟩ := modC_zero h0
  have e3 := hir p m hM.2 (by omega)
  by_cases hi : Irr m
  ·obtain ⟨k, hk⟩ := isPrim_ex hi (by omega)
   rw [prD_good hM h2 h6 hi hk]
   rw [decide_eq_true hi] at e3
   have e4 := hdg p m (by omega)
   rw [show (m.len : Int) - 1 = ((m.len - 1 : Nat) : Int) by omega] at e4
   have e5 := hct p (m.len - 1) (by omega)
   have hpb : p ^ (m.len - 1) ≤ 16807 := by
    have h3 := ipow_mono (p := p) (by have := IsP.pos (p := p); omega) (show m.len - 1 ≤ 5 by omega)
    have h4 : p ^ 5 ≤ 16807 := by rcases IsP.h (p := p) with h | h | h | h <;> subst h <;> decide
    omega
   rw [Int.min_eq_left (by omega)] at e5
   have e6 := l_sPrim (O := den T A) hof hor hi hM h6 hk (k - 1) 1 (by have := hk.1; omega) (Nat.le_refl 1)
   have e01 : ((1 : Nat) : Int) = 1 := rfl
   rw [e01] at e6
   refine ask_of hT rfl ?_
   generalize pad (row (numP p (k : Int))) = Pk at *
   generalize p ^ (m.len - 1) = N at *
   generalize pad (row m) = Pm at *
   generalize m.len - 1 = d at *
   simp -implicitDefEqProofs [Z2l, Z2l_B, dn_cond, e1, e3, e4, e5, e6, List.replicate]
  ·rw [prD_red (by omega) h0' hi]
   rw [decide_eq_false hi] at e3
   refine ask_of hT rfl ?_
   generalize pad (row m) = Pm at *
   simp -implicitDefEqProofs [Z2l, Z2l_B, dn_cond, e1, e3, List.replicate]
 ·rw [prD_bad h0]
  refine ask_of hT rfl ?_
  generalize modC p l [] = c at *
  simp -implicitDefEqProofs [Z2l, Z2l_B, dn_cond, e1, h0, List.replicate]
end Pe

namespace Pe
open Go Gq
variable {T : Nat → Option Fn} {A : Oracle}
abbrev srcB (code : List Int) (at_ : Nat) (h : Int) : Blk := .box false (.st [.leaf, .leaf, .leaf] [.sl .leaf (ints .u8 code), .int .i64 at_, .int .u64 h])
def Src (b : Blk) : Prop := ∃ (code : List Int) (at_ : Nat) (h : Int), b = srcB code at_ h ∧ at_ ≤ code.length ∧ code.length ≤ 1099511627776 ∧ Bytes code
theorem wrap_u64 {n : Nat} (h : n ≤ 16777215) : IntKind.u64.wrap (n : Int) = n := by
 simp [IntKind.wrap, IntKind.bits, IntKind.signed]; omega
theorem andI_le (x : Int) : 0 ≤ andI .u64 x 16777215 ∧ andI .u64 x 16777215 ≤ 16777215 := by
 have h1 : (BitVec.ofInt 64 x &&& BitVec.ofInt 64 16777215).toNat ≤ 16777215 := by
  rw [BitVec.toNat_and]
  exact Nat.and_le_right
 have h2 : andI .u64 x 16777215 = ((BitVec.ofInt 64 x &&& BitVec.ofInt 64 16777215).toNat : Int) := wrap_u64 h1
 rw [h2]
 omega
theorem shr33 : (2 : Int) ^ min 33 IntKind.u64.bits = 8589934592 := rfl
def H_next (O : Oracle) (F : Nat) : Prop := ∀ (b : Blk) (n : Int), Src b → n ≤ 4611686018427387904 → ∃ (x : Int) (b' : Blk), O F [.ptr 0 [], (.d (.int .i64 n))] [b] = some ((.d (.int .i64 x)), [b'], []) ∧ Src b' ∧ 0 ≤ x ∧ (x < n ∨ x = 0)
theorem h_next (hT : T F35 = some Z35) : H_next (den T A) F35 := by
 rintro b n ⟨code, k, h, rfl, hk, hc, hb⟩ hn
 by_cases h1 : n < 1
 ·refine ⟨0, _, den_of hT rfl ?_, ⟨code, k, h, rfl, hk, hc, hb⟩, Int.le_refl _, .inr rfl⟩
  simp -implicitDefEqProofs [Z35, Z35_B, dn_cond, h1]
 ·obtain ⟨hh, hhh⟩ : ∃ hh : Int, IntKind.u64.wrap (IntKind.u64.wrap (h * 6364136223846793005) + 1442695040888963407) = hh := ⟨_, rfl⟩
  have hx := andI_le (hh.fdiv 8589934592)
  obtain ⟨x, hX⟩ : ∃ x : Int, andI .u64 (hh.fdiv 8589934592) 16777215 = x := ⟨_, rfl⟩
  rw [hX] at hx
  have w0 : IntKind.i64.wrap x = x := w64 (by omega)
  have hn0 : ¬ n = 0 := by omega
  have tm : ∀ y : Int, 0 ≤ y → 0 ≤ y.tmod n ∧ y.tmod n < n := fun y hy => by
   rw [Int.tmod_eq_emod_of_nonneg hy]
   exact ⟨Int.emod_nonneg _ hn0, Int.emod_lt_of_pos _ (by omega)⟩
  by_cases h2 : k < code.length
  ·have hbk := hb _ (List.getElem_mem h2)
   have h2' : (k : Int) < code.length := by omega
   have w1 : IntKind.i64.wrap code[k] = code[k] := w64 (by omega)
   have w2 : IntKind.i64.wrap (x + code[k]) = x + code[k] := w64 (by omega)
   have w3 : IntKind.i64.wrap ((k : Int) + 1) = ((k + 1 : Nat) : Int) := (w64 (x := (k : Int) + 1) (by omega)).trans (by omega)
   obtain ⟨t1, t2⟩ := tm (x + code[k]) (by omega)
   refine ⟨(x + code[k]).tmod n, srcB code (k + 1) hh, den_of hT rfl ?_, ⟨code, k + 1, hh, rfl, by omega, hc, hb⟩, t1, .inl t2⟩
   simp -implicitDefEqProofs [Z35, Z35_B, dn_cond, shiftI, shr33, h1, hn0, h2, h2', hhh, hX, w0, w1, w2, w3]
  ·have h2' : ¬ (k : Int) < code.length := by omega
   obtain ⟨t1, t2⟩ := tm x (by omega)
   refine ⟨x.tmod n, srcB code k hh, den_of hT rfl ?_, ⟨code, k, hh, rfl, hk, hc, hb⟩, t1, .inl t2⟩
   simp -implicitDefEqProofs [Z35, Z35_B, dn_cond, shiftI, shr33, h1, hn0, h2', hhh, hX, w0]
theorem l_from {O : Oracle} {code : List Int} (hc : code.length ≤ 4096) (hb : Bytes code) : ∀ (r i : Nat) (h : Int), i + r = code.length → ∃ h' : Int,
 dn O 0 (.loop Z2w_L0) ⟨[(0, .d (.sl .leaf (ints .u8 code))), (3, .ptr 0 []), (4, (.d (.int .i64 i)))], [srcB code 0 h]⟩ =
  some (.exit 0, ⟨[(0, .d (.sl .leaf (ints .u8 code))), (3, .ptr 0 []), (4, (.d (.int .i64 code.length))), (19, (.d (.bool false)))], [srcB code 0 h']⟩)
 | 0, i, h, hi => by
  obtain rfl : i = code.length := by omega
  refine ⟨h, dn_stop ?_⟩
  simp -implicitDefEqProofs [Z2w_L0, dn_cond]
 | r + 1, i, h, hi => by
  have hlt : i < code.length := by omega
  have hlt' : (i : Int) < code.length := by omega
  have hq : (i : Int) < 4096 := by omega
  have hbk := hb _ (List.getElem_mem hlt)
  have w4 : IntKind.i64.wrap ((i : Int) + 1) = ((i + 1 : Nat) : Int) := (w64 (x := (i : Int) + 1) (by omega)).trans (by omega)
  obtain ⟨h2, hh2⟩ : ∃ h2 : Int, IntKind.u64.wrap (IntKind.u64.wrap (IntKind.u64.wrap (h * 1099511628211) + IntKind.u64.wrap code[i]) + 61) = h2 := ⟨_, rfl⟩
  obtain ⟨h', ih⟩ := l_from hc hb r (i + 1) h2 (by omega)
  refine ⟨h', dn_round ?_ ih⟩
  simp -implicitDefEqProofs [Z2w_L0, dn_cond, hlt, hlt', hq, w4, hh2]
def H_from (O : Oracle) : Prop := ∀ code : List Int, Bytes code → code.length ≤ 4096 → ∃ b : Blk, O F2w [.d (.sl .leaf (ints .u8 code))] [] = some (.ptr 0 [], [], [b]) ∧ Src b
theorem h_from (hT : T F2w = some Z2w) : H_from (den T A) := by
 intro code hb hc
 obtain ⟨h0, hh0⟩ : ∃ h0 : Int, IntKind.u64.wrap (12251 + IntKind.u64.wrap (code.length : Int)) = h0 := ⟨_, rfl⟩
 obtain ⟨h', e⟩ := l_from (O := den T A) hc hb code.length 0 h0 (Nat.zero_add _)
 rw [show ((0 : Nat) : Int) = 0 from rfl, show srcB code 0 h0 = .box false (.st [.leaf, .leaf, .leaf] [.sl .leaf (ints .u8 code), .int .i64 0, .int .u64 h0]) from rfl] at e
 refine ⟨srcB code 0 h', den_of hT rfl ?_, ⟨code, 0, h', rfl, Nat.zero_le _, by omega, hb⟩⟩
 simp -implicitDefEqProofs [Z2w, Z2w_B, hh0, e, List.idxOf, List.findIdx, List.findIdx.go]
def H_pick (O : Oracle) : Prop := ∀ (b : Blk) (l : List Int) (n : Nat) (cp : Option Nat), Src b → l.length = n → 0 < n → n ≤ 100 → ∃ (x : Int) (b' : Blk), O F38 [.ptr 0 [], .sl 1 [] 0 n cp] [b, .sl false .leaf (ints .i64 l)] = some ((.d (.int .i64 x)), [b', .sl false .leaf (ints .i64 l)], []) ∧ Src b' ∧ x ∈ l
theorem h_pick (hT : T F38 = some Z38) (hn : H_next (den T A) F35) : H_pick (den T A) := by
 rintro b l n cp hs hl hpos hm
 obtain ⟨x, b', e, hs', h0, h1⟩ := hn b n hs (by omega)
 obtain ⟨k, rfl⟩ : ∃ k : Nat, x = k := ⟨x.toNat, by omega⟩
 have hk : k < n := by omega
 have hkl : k < l.length := by omega
 obtain ⟨c, a, h, rfl, _⟩ := id hs
 obtain ⟨c', a', h', rfl, _⟩ := id hs'
 refine ⟨l[k], _, den_of hT rfl ?_, hs', List.getElem_mem hkl⟩
 simp -implicitDefEqProofs [Z38, Z38_B, e, hk, hl, List.idxOf, List.findIdx, List.findIdx.go]
end Pe

namespace Pe
open Go Gq
variable {T : Nat → Option Fn} {A : Oracle}
def H_drawPrime (O : Oracle) : Prop := ∀ b : Blk, Src b → ∃ (p : Int) (b' : Blk), O F2v [.ptr 0 []] [b] = some ((.d (.int .i64 p)), [b'], []) ∧ Src b' ∧ IsP p
theorem h_drawPrime (hT : T F2v = some Z2v) (hp : H_pick (den T A)) : H_drawPrime (den T A) := by
 intro b hs
 obtain ⟨x, b', e, hs', hx⟩ := hp b [2, 2, 3, 3, 5, 7] 6 (some 6) hs rfl (by omega) (by omega)
 rw [show ints .i64 [2, 2, 3, 3, 5, 7] = [.int .i64 2, .int .i64 2, .int .i64 3, .int .i64 3, .int .i64 5, .int .i64 7] from rfl] at e
 obtain ⟨c, a, h, rfl, _⟩ := id hs
 obtain ⟨c', a', h', rfl, _⟩ := id hs'
 refine ⟨x, _, den_of hT rfl ?_, hs', ⟨by simp at hx; omega⟩⟩
 simp -implicitDefEqProofs [Z2v, Z2v_B, e, List.replicate, List.idxOf, List.findIdx, List.findIdx.go]
structure DrI (p : Int) (Q : List Int) (n : Nat) : Prop where
 l : Q.length = 64
 c : Can p Q
 z : ∀ j, n ≤ j → cf Q j = 0
theorem DrI.set {p : Int} {Q : List Int} {n k : Nat} {x : Int} (h : DrI p Q n) (h0 : 0 ≤ x) (h1 : x < p) (hk : k < n) : DrI p (Q.set k x) n :=
 ⟨by rw [List.length_set]; exact h.l, fun y hy => by
  rcases List.mem_or_eq_of_mem_set hy with g | rfl
  ·exact h.c y g
  ·exact ⟨h0, h1⟩, fun j hj => by rw [cf_set, if_neg (by omega)]; exact h.z j hj⟩
section
variable {p : Int} [IsP p]
theorem DrI.pol {Q : List Int} {n : Nat} (h : DrI p Q n) : Q = pad (row (polOf p Q)) ∧ (polOf p Q).len ≤ n :=
 ⟨pad_of h.c h.l, Pol.len_le fun j hj => by rw [polOf_c, h.z j hj]; rfl⟩
theorem l_draw {O : Oracle} (hn : H_next O F35) {b1 : Blk} {n : Nat} (hn64 : n ≤ 64) : ∀ (k : Nat) (b : Blk) (Q : List Int), k ≤ n → Src b → DrI p Q n → ∃ (b' : Blk) (Q' : List Int), Src b' ∧ DrI p Q' n ∧
 dn O 1 (.loop ir_spec_l01Draw_L0) ⟨[(0, .ptr 0 []), (1, (.d (.int .i64 p))), (6, .ptr 1 []), (7, .ptr 2 []), (8, (.d (.int .i64 ((k : Int) - 1))))], [b, b1, .box false (D.arr 64 .leaf (ints .u8 Q))]⟩ =
  some (.exit 0, ⟨[(0, .ptr 0 []), (1, (.d (.int .i64 p))), (6, .ptr 1 []), (7, .ptr 2 []), (8, (.d (.int .i64 (-1)))), (16, (.d (.bool false)))], [b', b1, .box false (D.arr 64 .leaf (ints .u8 Q'))]⟩)
 | 0, b, Q, hk, hs, hQ => by
  refine ⟨b, Q, hs, hQ, dn_stop ?_⟩
  obtain ⟨c, a, h, rfl, _⟩ := hs
  simp -implicitDefEqProofs [ir_spec_l01Draw_L0, dn_cond]
 | k + 1, b, Q, hk, hs, hQ => by
  have hp := IsP.ge (p := p)
  have hp7 := IsP.le (p := p)
  obtain ⟨x, b2, e1, hs2, x0, x1⟩ := hn b 3 hs (by omega)
  have w1 : IntKind.i64.wrap ((((k + 1 : Nat) : Int) - 1) - 1) = (k : Int) - 1 := (w64 (by omega)).trans (by omega)
  have hk1 : ((k + 1 : Nat) : Int) - 1 = (k : Int) := by omega
  rw [hk1] at w1 ⊢
  have hge : (0 : Int) ≤ k := by omega
  have hkQ : k < Q.length := by rw [hQ.l]; omega
  have hk64 : k < 64 := by omega
  by_cases hx : 0 < x
  ·obtain ⟨y, b3, e2, hs3, y0, y1⟩ := hn b2 p hs2 (by omega)
   have w2 : IntKind.u8.wrap y = y := w8 (by omega)
   obtain ⟨b', Q', hs', hQ', ih⟩ := l_draw hn (b1 := b1) hn64 k b3 (Q.set k y) (by omega) hs3 (hQ.set y0 (by omega) (by omega))
   refine ⟨b', Q', hs', hQ', dn_round ?_ ih⟩
   obtain ⟨c, a, h, rfl, _⟩ := hs
   obtain ⟨c2, a2, h2, rfl, _⟩ := hs2
   obtain ⟨c3, a3, h3, rfl, _⟩ := hs3
   simp -implicitDefEqProofs [ir_spec_l01Draw_L0, dn_cond, hge, e1, e2, hx, w1, w2, hkQ, hk64, List.idxOf, List.findIdx, List.findIdx.go]
  ·obtain ⟨b', Q', hs', hQ', ih⟩ := l_draw hn (b1 := b1) hn64 k b2 Q (by omega) hs2 hQ
   refine ⟨b', Q', hs', hQ', dn_round ?_ ih⟩
   obtain ⟨c, a, h, rfl, _⟩ := hs
   obtain ⟨c2, a2, h2, rfl, _⟩ := hs2
   simp -implicitDefEqProofs [ir_spec_l01Draw_L0, dn_cond, hge, e1, hx, w1, List.idxOf, List.findIdx, List.findIdx.go]
end
theorem DrI.zero (p : Int) [IsP p] (n : Nat) : DrI p (pad []) n :=
 ⟨pad_length _, fun x hx => by
  have hp := IsP.ge (p := p)
  have : x = 0 := by
   unfold pad at hx
   obtain ⟨a, _, rfl⟩ : ∃ a, a < 64 ∧ cf [] a = x := by simpa using hx
   exact cf_ge (Nat.zero_le _)
  omega, fun j _ => (pad_cf (l := []) (by simp) j).trans (cf_ge (Nat.zero_le _))⟩
def H_draw (O : Oracle) : Prop := ∀ (p : Int) [IsP p] (b : Blk) (n : Nat), Src b → n ≤ 63 → ∃ (a : Fp p) (b' : Blk), O F2t [.ptr 0 [], (.d (.int .i64 p)), (.d (.int .i64 ((n : Int))))] [b] = some (.d (D.arr 64 .leaf (ints .u8 (pad (row a)))), [b'], []) ∧ Src b' ∧ a.len ≤ n + 1
theorem h_draw (hT : T F2t = some Z2t) (hn : H_next (den T A) F35) : H_draw (den T A) := by
 intro p ip b n hs h63
 obtain ⟨x, b2, e1, hs2, x0, x1⟩ := hn b ((n : Int) + 2) hs (by omega)
 obtain ⟨k, rfl⟩ : ∃ k : Nat, x = k := ⟨x.toNat, by omega⟩
 have w0 : IntKind.i64.wrap ((n : Int) + 2) = (n : Int) + 2 := w64 (by omega)
 have w1 : IntKind.i64.wrap ((k : Int) - 1) = (k : Int) - 1 := w64 (by omega)
 obtain ⟨b', Q, hs', hQ, e2⟩ := l_draw (p := p) hn (b1 := .box false (D.arr 64 .leaf (ints .u8 (pad [])))) (n := n + 1) (by omega) k b2 (pad []) (by omega) hs2 (.zero p _)
 obtain ⟨q1, q2⟩ := hQ.pol
 refine ⟨polOf p Q, b', den_of hT rfl ?_, hs', q2⟩
 rw [← q1]
 obtain ⟨c, a, h, rfl, _⟩ := hs
 obtain ⟨c2, a2, h2, rfl, _⟩ := hs2
 obtain ⟨c', a', h', rfl, _⟩ := hs'
 simp -implicitDefEqProofs [Z2t, ir_spec_l01Draw_B, w0, e1, w1, e2, List.replicate, List.idxOf, List.findIdx, List.findIdx.go]
theorem l_mod0 {O : Oracle} (hn : H_next O F35) {p : Int} [IsP p] {b1 : Blk} {n : Nat} {most k : Int} (hn62 : n ≤ 62) : ∀ (r i : Nat) (b : Blk) (Q : List Int), i + r = n → Src b → DrI p Q n → ∃ (b' : Blk) (Q' : List Int), Src b' ∧ DrI p Q' n ∧
 dn O 1 (.loop Z2u_L0) ⟨[(0, .ptr 0 []), (1, (.d (.int .i64 p))), (2, (.d (.int .i64 most))), (6, .ptr 1 []), (7, .ptr 2 []), (8, (.d (.int .i64 k))), (9, (.d (.int .i64 n))), (10, (.d (.int .i64 i)))], [b, b1, .box false (D.arr 64 .leaf (ints .u8 Q))]⟩ =
  some (.exit 2, ⟨[(0, .ptr 0 []), (1, (.d (.int .i64 p))), (2, (.d (.int .i64 most))), (6, .ptr 1 []), (7, .ptr 2 []), (8, (.d (.int .i64 k))), (9, (.d (.int .i64 n))), (10, (.d (.int .i64 n))), (23, (.d (.bool false)))], [b', b1, .box false (D.arr 64 .leaf (ints .u8 Q'))]⟩)
 | 0, i, b, Q, hi, hs, hQ => by
  obtain rfl : i = n := by omega
  refine ⟨b, Q, hs, hQ, dn_stop ?_⟩
  obtain ⟨c, a, h, rfl, _⟩ := hs
  simp -implicitDefEqProofs [Z2u_L0, dn_cond]
 | r + 1, i, b, Q, hi, hs, hQ => by
  have hp := IsP.ge (p := p)
  have hp7 := IsP.le (p := p)
  obtain ⟨y, b3, e2, hs3, y0, y1⟩ := hn b p hs (by omega)
  have w2 : IntKind.u8.wrap y = y := w8 (by omega)
  have w4 : IntKind.i64.wrap ((i : Int) + 1) = ((i + 1 : Nat) : Int) := (w64 (x := (i : Int) + 1) (by omega)).trans (by omega)
  have hlt : i < n := by omega
  have hiQ : i < Q.length := by rw [hQ.l]; omega
  have hi64 : i < 64 := by omega
  obtain ⟨b', Q', hs', hQ', ih⟩ := l_mod0 hn (b1 := b1) (most := most) (k := k) hn62 r (i + 1) b3 (Q.set i y) (by omega) hs3 (hQ.set y0 (by omega) hlt)
  refine ⟨b', Q', hs', hQ', dn_round ?_ ih⟩
  obtain ⟨c, a, h, rfl, _⟩ := hs
  obtain ⟨c3, a3, h3, rfl, _⟩ := hs3
  simp -implicitDefEqProofs [Z2u_L0, dn_cond, hlt, e2, w2, w4, hiQ, hi64, List.idxOf, List.findIdx, List.findIdx.go]
theorem DrI.up {p : Int} {Q : List Int} {n m : Nat} (h : DrI p Q n) (hm : n ≤ m) : DrI p Q m := ⟨h.l, h.c, fun j hj => h.z j (by omega)⟩
theorem DrI.mod {p : Int} [IsP p] {Q : List Int} {n : Nat} (h : DrI p Q n) (hn : n ≤ 62) : ∃ a : Fp p, Q.set n 1 = pad (row a) ∧ a.len = n + 1 ∧ Monic a := by
 have hp := IsP.ge (p := p)
 have h1 : DrI p (Q.set n 1) (n + 1) := (h.up (Nat.le_succ n)).set (by omega) (by omega) (Nat.lt_succ_self n)
 obtain ⟨q1, q2⟩ := h1.pol
 have hc : (polOf p (Q.set n 1)).c n = 1 := by
  rw [polOf_c, cf_set, if_pos ⟨rfl, by rw [h.l]; omega⟩, zp_one]
 have hne : (polOf p (Q.set n 1)).c n ≠ 0 := by
  rw [hc]; exact Fd.one_ne
 have hl : (polOf p (Q.set n 1)).len = n + 1 := Pol.len_eq (Pol.lt_iff.2 q2) hne
 have h0 : polOf p (Q.set n 1) ≠ 0 := fun h => by rw [h, Pol.len_zero] at hl; omega
 exact ⟨polOf p (Q.set n 1), q1, hl, ⟨by unfold Pol.ld; rw [hl]; exact hc, h0⟩⟩
open Classical in
theorem l_mod1 {O : Oracle} (hn : H_next O F35) (hir : K_sIrr O) {p : Int} [IsP p] {z : List Int} {most : Int} (hm1 : 1 ≤ most) (hm2 : most ≤ 12) : ∀ (r k : Nat) (b : Blk) (a : Fp p), k + r = 4 → Src b → 2 ≤ a.len → a.len ≤ most + 1 → Monic a → ∃ (b' : Blk) (a' : Fp p), Src b' ∧ 2 ≤ a'.len ∧ a'.len ≤ most + 1 ∧ Monic a' ∧
 (dn O 1 (.loop Z2u_L1) ⟨[(0, .ptr 0 []), (1, (.d (.int .i64 p))), (2, (.d (.int .i64 most))), (6, .ptr 1 []), (7, .ptr 2 []), (8, (.d (.int .i64 k)))], [b, .box false (D.arr 64 .leaf (ints .u8 z)), .box false (D.arr 64 .leaf (ints .u8 (pad (row a))))]⟩ =
  some (.exit 0, ⟨[(0, .ptr 0 []), (1, (.d (.int .i64 p))), (2, (.d (.int .i64 most))), (6, .ptr 1 []), (7, .ptr 2 []), (8, (.d (.int .i64 4))), (13, (.d (.bool false)))], [b', .box false (D.arr 64 .leaf (ints .u8 z)), .box false (D.arr 64 .leaf (ints .u8 (pad (row a'))))]⟩) ∨
 dn O 1 (.loop Z2u_L1) ⟨[(0, .ptr 0 []), (1, (.d (.int .i64 p))), (2, (.d (.int .i64 most))), (6, .ptr 1 []), (7, .ptr 2 []), (8, (.d (.int .i64 k)))], [b, .box false (D.arr 64 .leaf (ints .u8 z)), .box false (D.arr 64 .leaf (ints .u8 (pad (row a))))]⟩ =
  some (.ret, ⟨[(6, .ptr 1 [])], [b', .box false (D.arr 64 .leaf (ints .u8 (pad (row a')))), .hole]⟩))
 | 0, k, b, a, hk, hs, h2, hl, hm => by
  obtain rfl : k = 4 := by omega
  refine ⟨b, a, hs, h2, hl, hm, .inl (dn_stop ?_)⟩
  obtain ⟨c, a, h, rfl, _⟩ := hs
  simp -implicitDefEqProofs [Z2u_L1, dn_cond]
 | r + 1, k, b, a, hk, hs, h2, hl, hm => by
  have hk4 : (k : Int) < 4 := by omega
  obtain ⟨x, b2, e1, hs2, x0, x1⟩ := hn b most hs (by omega)
  obtain ⟨n, hn1⟩ : ∃ n : Nat, 1 + x = n := ⟨(1 + x).toNat, by omega⟩
  have w1 : IntKind.i64.wrap (1 + x) = n := (w64 (by omega)).trans hn1
  obtain ⟨b3, Q, hs3, hQ, st⟩ := l_mod0 hn (p := p) (b1 := .box false (D.arr 64 .leaf (ints .u8 z))) (n := n) (most := most) (k := k) (by omega) n 0 b2 (pad []) (Nat.zero_add _) hs2 (.zero p _)
  rw [show ((0 : Nat) : Int) = 0 from rfl] at st
  obtain ⟨a', q1, q2, q3⟩ := hQ.mod (by omega)
  have hnQ : n < Q.length := by rw [hQ.l]; omega
  have hn64 : n < 64 := by omega
  obtain ⟨y, b4, e2, hs4, y0, y1⟩ := hn b3 3 hs3 (by omega)
  have w4 : IntKind.i64.wrap ((k : Int) + 1) = ((k + 1 : Nat) : Int) := (w64 (x := (k : Int) + 1) (by omega)).trans (by omega)
  have e3 := hir p a' q3.2 (by omega)
  obtain ⟨b', a2, g1, g2, g3, g4, ih⟩ := l_mod1 hn hir (z := z) hm1 hm2 r (k + 1) b4 a' (by omega) hs4 (by omega) (by omega) q3
  by_cases hy : y = 0
  ·refine ⟨b4, a', hs4, by omega, by omega, q3, .inr (dn_back ?_)⟩
   obtain ⟨c, a0, h, rfl, _⟩ := hs
   obtain ⟨c2, a2, h2, rfl, _⟩ := hs2
   obtain ⟨c3, a3, h3, rfl, _⟩ := hs3
   obtain ⟨c4, a4, h4, rfl, _⟩ := hs4
   generalize pad (row a) = Pa at *
   generalize hPQ : Q.set n 1 = PQ at *
   generalize pad (row a') = Pb at *
   subst q1
   simp -implicitDefEqProofs [Z2u_L1, dn_cond, hk4, e1, w1, st, hnQ, hn64, hPQ, e2, hy, List.idxOf, List.findIdx, List.findIdx.go]
  ·by_cases hI : Irr a'
   ·refine ⟨b4, a', hs4, by omega, by omega, q3, .inr (dn_back ?_)⟩
    rw [decide_eq_true hI] at e3
    obtain ⟨c, a0, h, rfl, _⟩ := hs
    obtain ⟨c2, a2, h2, rfl, _⟩ := hs2
    obtain ⟨c3, a3, h3, rfl, _⟩ := hs3
    obtain ⟨c4, a4, h4, rfl, _⟩ := hs4
    generalize pad (row a) = Pa at *
    generalize hPQ : Q.set n 1 = PQ at *
    generalize pad (row a') = Pb at *
    subst q1
    simp -implicitDefEqProofs [Z2u_L1, dn_cond, hk4, e1, w1, st, hnQ, hn64, hPQ, e2, e3, hy, List.idxOf, List.findIdx, List.findIdx.go]
   ·rw [decide_eq_false hI] at e3
    have key : dn O 1 Z2u_L1 ⟨[(0, .ptr 0 []), (1, (.d (.int .i64 p))), (2, (.d (.int .i64 most))), (6, .ptr 1 []), (7, .ptr 2 []), (8, (.d (.int .i64 k)))], [b, .box false (D.arr 64 .leaf (ints .u8 z)), .box false (D.arr 64 .leaf (ints .u8 (pad (row a))))]⟩ = some (.normal, ⟨[(0, .ptr 0 []), (1, (.d (.int .i64 p))), (2, (.d (.int .i64 most))), (6, .ptr 1 []), (7, .ptr 2 []), (8, (.d (.int .i64 (((k + 1 : Nat) : Int)))))], [b4, .box false (D.arr 64 .leaf (ints .u8 z)), .box false (D.arr 64 .leaf (ints .u8 (pad (row a'))))]⟩) := by
     obtain ⟨c, a0, h, rfl, _⟩ := hs
     obtain ⟨c2, a2, h2, rfl, _⟩ := hs2
     obtain ⟨c3, a3, h3, rfl, _⟩ := hs3
     obtain ⟨c4, a4, h4, rfl, _⟩ := hs4
     generalize pad (row a) = Pa at *
     generalize hPQ : Q.set n 1 = PQ at *
     generalize pad (row a') = Pb at *
     subst q1
     simp -implicitDefEqProofs [Z2u_L1, dn_cond, hk4, e1, w1, st, hnQ, hn64, hPQ, e2, e3, hy, w4, List.idxOf, List.findIdx, List.findIdx.go]
    exact ⟨b', a2, g1, g2, g3, g4, ih.imp (dn_round key) (dn_round key)⟩
def H_drawMod (O : Oracle) : Prop := ∀ (p : Int) [IsP p] (b : Blk) (most : Int), Src b → 1 ≤ most → most ≤ 12 → ∃ (a : Fp p) (b' : Blk), O F2u [.ptr 0 [], (.d (.int .i64 p)), (.d (.int .i64 most))] [b] = some (.d (D.arr 64 .leaf (ints .u8 (pad (row a)))), [b'], []) ∧ Src b' ∧ 2 ≤ a.len ∧ a.len ≤ most + 1 ∧ Monic a
theorem h_drawMod (hT : T F2u = some Z2u) (hn : H_next (den T A) F35) (ht : K_sT (den T A)) (hir : K_sIrr (den T A)) : H_drawMod (den T A) := by
 intro p ip b most hs hm1 hm2
 have e0 := ht p
 have hX : (Pol.X : Fp p).len = 2 := Pol.len_X
 obtain ⟨b', a', g1, g2, g3, g4, e | e⟩ := l_mod1 (O := den T A) hn hir (z := pad []) hm1 hm2 4 0 b (Pol.X : Fp p) rfl hs (by omega) (by omega) ⟨by unfold Pol.ld; rw [Pol.len_X]; rfl, Pol.X_ne⟩
 ·refine ⟨a', b', den_of hT rfl ?_, g1, g2, g3, g4⟩
  rw [show ((0 : Nat) : Int) = 0 from rfl] at e
  obtain ⟨c, a0, h, rfl, _⟩ := hs
  obtain ⟨c2, a2, h2, rfl, _⟩ := g1
  generalize pad (row a') = Pb at *
  generalize pad (row (Pol.X : Fp p)) = Pt at *
  simp -implicitDefEqProofs [Z2u, Z2u_B, e0, e, List.replicate, List.idxOf, List.findIdx]
 ·refine ⟨a', b', den_of hT rfl ?_, g1, g2, g3, g4⟩
  rw [show ((0 : Nat) : Int) = 0 from rfl] at e
  obtain ⟨c, a0, h, rfl, _⟩ := hs
  obtain ⟨c2, a2, h2, rfl, _⟩ := g1
  generalize pad (row a') = Pb at *
  generalize pad (row (Pol.X : Fp p)) = Pt at *
  simp -implicitDefEqProofs [Z2u, Z2u_B, e0, e, List.replicate, List.idxOf, List.findIdx]
def H_bad (O : Oracle) : Prop := ∀ (b : Blk) (p : Int) (l : List Int), Src b → 0 ≤ p → p < 256 → l.length = 64 → Bytes l → ∃ (l' : List Int) (b' : Blk), O F2n [.ptr 0 [], (.d (.int .i64 p)), .d (D.arr 64 .leaf (ints .u8 l))] [b] = some (.d (D.arr 64 .leaf (ints .u8 l')), [b'], []) ∧ Src b' ∧ l'.length = 64 ∧ Bytes l'
theorem h_bad (hT : T F2n = some Z2n) (hn : H_next (den T A) F35) (hp : H_pick (den T A)) : H_bad (den T A) := by
 intro b p l hs p0 p1 hl hb
 obtain ⟨x, b2, e1, hs2, x0, x1⟩ := hn b 40 hs (by omega)
 by_cases hx : x = 0
 ·obtain ⟨y, b3, e2, hs3, y0, y1⟩ := hn b2 64 hs2 (by omega)
  obtain ⟨k, rfl⟩ : ∃ k : Nat, y = k := ⟨y.toNat, by omega⟩
  obtain ⟨v, b4, e3, hs4, hv⟩ := hp b3 [p, 7, 255, 1] 4 (some 4) hs3 rfl (by omega) (by omega)
  rw [show ints .i64 [p, 7, 255, 1] = [.int .i64 p, .int .i64 7, .int .i64 255, .int .i64 1] from rfl] at e3
  have hv2 : 0 ≤ v ∧ v < 256 := by simp at hv; omega
  have w1 : IntKind.u8.wrap v = v := w8 hv2
  have hk : k < 64 := by omega
  refine ⟨l.set k v, b4, den_of hT rfl ?_, hs4, by rw [List.length_set]; exact hl, fun z hz => by
   rcases List.mem_or_eq_of_mem_set hz with g | rfl
   ·exact hb z g
   ·exact hv2⟩
  subst hx
  obtain ⟨c, a0, h, rfl, _⟩ := hs
  obtain ⟨c2, a2, h2, rfl, _⟩ := hs2
  obtain ⟨c3, a3, h3, rfl, _⟩ := hs3
  obtain ⟨c4, a4, h4, rfl, _⟩ := hs4
  simp -implicitDefEqProofs [Z2n, Z2n_B, dn_cond, e1, e2, e3, w1, hk, hl, List.replicate, List.idxOf, List.findIdx, List.findIdx.go]
 ·refine ⟨l, b2, den_of hT rfl ?_, hs2, hl, hb⟩
  obtain ⟨c, a0, h, rfl, _⟩ := hs
  obtain ⟨c2, a2, h2, rfl, _⟩ := hs2
  simp -implicitDefEqProofs [Z2n, Z2n_B, dn_cond, e1, hx, List.replicate, List.idxOf, List.findIdx, List.findIdx.go]
end Pe

namespace Pe
open Go Gq
variable {T : Nat → Option Fn} {A : Oracle}
def Arr (l : List Int) : Prop := l.length = 64 ∧ Bytes l
theorem arr_row {p : Int} [IsP p] (a : Fp p) : Arr (pad (row a)) := ⟨pad_length _, pad_bytes a⟩
def H_l02Draw (O : Oracle) : Prop := ∀ b : Blk, Src b → ∃ (p : Int) (l m : List Int) (b' : Blk), O F3f [.ptr 0 []] [b] = some (.tup [(.d (.int .i64 p)), .d (D.arr 64 .leaf (ints .u8 l)), .d (D.arr 64 .leaf (ints .u8 m))], [b'], []) ∧ Src b' ∧ 0 ≤ p ∧ p < 256 ∧ Arr l ∧ Arr m
theorem h_l02Draw (hT : T F3f = some Z3f) (hn : H_next (den T A) F35) (hp : H_pick (den T A)) (hpr : H_drawPrime (den T A)) (hd : H_draw (den T A)) (hm : H_drawMod (den T A)) (hb : H_bad (den T A)) : H_l02Draw (den T A) := by
 intro b hs
 obtain ⟨p, b1, e1, hs1, ip⟩ := hpr b hs
 have hp2 := IsP.ge (p := p)
 have hp7 := IsP.le (p := p)
 obtain ⟨x, b2, e2, hs2, hx⟩ := hp b1 [2, 4, 8] 3 (some 3) hs1 rfl (by omega) (by omega)
 rw [show ints .i64 [2, 4, 8] = [.int .i64 2, .int .i64 4, .int .i64 8] from rfl] at e2
 obtain ⟨n, rfl⟩ : ∃ n : Nat, x = n := ⟨x.toNat, by simp at hx; omega⟩
 obtain ⟨a, b3, e3, hs3, -⟩ := hd p b2 n hs2 (by simp at hx; omega)
 obtain ⟨y, b4, e4, hs4, hy⟩ := hp b3 [2, 3, 4, 5] 4 (some 4) hs3 rfl (by omega) (by omega)
 rw [show ints .i64 [2, 3, 4, 5] = [.int .i64 2, .int .i64 3, .int .i64 4, .int .i64 5] from rfl] at e4
 obtain ⟨m, b5, e5, hs5, -⟩ := hm p b4 y hs4 (by simp at hy; omega) (by simp at hy; omega)
 obtain ⟨k, b6, e6, hs6, k0, k1⟩ := hn b5 40 hs5 (by omega)
 obtain ⟨hal, hab⟩ := arr_row a
 obtain ⟨hml, hmb⟩ := arr_row m
 by_cases c0 : k = 0
 ·obtain ⟨q, b7, e7, hs7, hq⟩ := hp b6 [0, 1, 4, 11] 4 (some 4) hs6 rfl (by omega) (by omega)
  rw [show ints .i64 [0, 1, 4, 11] = [.int .i64 0, .int .i64 1, .int .i64 4, .int .i64 11] from rfl] at e7
  refine ⟨q, pad (row a), pad (row m), b7, den_of hT rfl ?_, hs7, by simp at hq; omega, by simp at hq; omega, ⟨hal, hab⟩, ⟨hml, hmb⟩⟩
  obtain ⟨c, a0, h, rfl, _⟩ := hs
  obtain ⟨_, _, _, rfl, _⟩ := hs1
  obtain ⟨_, _, _, rfl, _⟩ := hs2
  obtain ⟨_, _, _, rfl, _⟩ := hs3
  obtain ⟨_, _, _, rfl, _⟩ := hs4
  obtain ⟨_, _, _, rfl, _⟩ := hs5
  obtain ⟨_, _, _, rfl, _⟩ := hs6
  obtain ⟨_, _, _, rfl, _⟩ := hs7
  generalize pad (row a) = Pa at *
  generalize pad (row m) = Pm at *
  simp -implicitDefEqProofs [Z3f, ir_spec_l02Draw_B, dn_cond, e1, e2, e3, e4, e5, e6, e7, c0, List.replicate, List.idxOf, List.findIdx, List.findIdx.go]
 ·by_cases c1 : k = 1
  ·obtain ⟨m2, b7, e7, hs7, -⟩ := hd p b6 7 hs6 (by omega)
   rw [show ((7 : Nat) : Int) = 7 from rfl] at e7
   refine ⟨p, pad (row a), pad (row m2), b7, den_of hT rfl ?_, hs7, by omega, by omega, ⟨hal, hab⟩, arr_row m2⟩
   obtain ⟨c, a0, h, rfl, _⟩ := hs
   obtain ⟨_, _, _, rfl, _⟩ := hs1
   obtain ⟨_, _, _, rfl, _⟩ := hs2
   obtain ⟨_, _, _, rfl, _⟩ := hs3
   obtain ⟨_, _, _, rfl, _⟩ := hs4
   obtain ⟨_, _, _, rfl, _⟩ := hs5
   obtain ⟨_, _, _, rfl, _⟩ := hs6
   obtain ⟨_, _, _, rfl, _⟩ := hs7
   generalize pad (row a) = Pa at *
   generalize pad (row m) = Pm at *
   generalize pad (row m2) = Pm2 at *
   simp -implicitDefEqProofs [Z3f, ir_spec_l02Draw_B, dn_cond, e1, e2, e3, e4, e5, e6, e7, c1, List.replicate, List.idxOf, List.findIdx, List.findIdx.go]
  ·by_cases c2 : k = 2
   ·obtain ⟨l2, b7, e7, hs7, g1, g2⟩ := hb b6 p (pad (row a)) hs6 (by omega) (by omega) hal hab
    refine ⟨p, l2, pad (row m), b7, den_of hT rfl ?_, hs7, by omega, by omega, ⟨g1, g2⟩, ⟨hml, hmb⟩⟩
    obtain ⟨c, a0, h, rfl, _⟩ := hs
    obtain ⟨_, _, _, rfl, _⟩ := hs1
    obtain ⟨_, _, _, rfl, _⟩ := hs2
    obtain ⟨_, _, _, rfl, _⟩ := hs3
    obtain ⟨_, _, _, rfl, _⟩ := hs4
    obtain ⟨_, _, _, rfl, _⟩ := hs5
    obtain ⟨_, _, _, rfl, _⟩ := hs6
    obtain ⟨_, _, _, rfl, _⟩ := hs7
    generalize pad (row a) = Pa at *
    generalize pad (row m) = Pm at *
    simp -implicitDefEqProofs [Z3f, ir_spec_l02Draw_B, dn_cond, e1, e2, e3, e4, e5, e6, e7, c2, List.replicate, List.idxOf, List.findIdx, List.findIdx.go]
   ·refine ⟨p, pad (row a), pad (row m), b6, den_of hT rfl ?_, hs6, by omega, by omega, ⟨hal, hab⟩, ⟨hml, hmb⟩⟩
    obtain ⟨c, a0, h, rfl, _⟩ := hs
    obtain ⟨_, _, _, rfl, _⟩ := hs1
    obtain ⟨_, _, _, rfl, _⟩ := hs2
    obtain ⟨_, _, _, rfl, _⟩ := hs3
    obtain ⟨_, _, _, rfl, _⟩ := hs4
    obtain ⟨_, _, _, rfl, _⟩ := hs5
    obtain ⟨_, _, _, rfl, _⟩ := hs6
    generalize pad (row a) = Pa at *
    generalize pad (row m) = Pm at *
    simp -implicitDefEqProofs [Z3f, ir_spec_l02Draw_B, dn_cond, e1, e2, e3, e4, e5, e6, c0, c1, c2, List.replicate, List.idxOf, List.findIdx, List.findIdx.go]
end Pe

namespace Pe
open Go Gq
variable {T : Nat → Option Fn} {A : Oracle}
def H_DrawInverseModulo (O : Oracle) : Prop := ∀ code : List Int, Bytes code → code.length ≤ 4096 → ∃ (p : Int) (l m : List Int), ask O F2e [.sl .leaf (ints .u8 code)] = some (.tup [(D.int .i64 p), (D.arr 64 .leaf (ints .u8 l)), (D.arr 64 .leaf (ints .u8 m))]) ∧ 0 ≤ p ∧ p < 256 ∧ Arr l ∧ Arr m
theorem h_DrawInverseModulo (hT : T F2e = some Z2e) (hf : H_from (den T A)) (hd : H_l02Draw (den T A)) : H_DrawInverseModulo (den T A) := by
 intro code hb hc
 obtain ⟨b, e1, hs⟩ := hf code hb hc
 obtain ⟨p, l, m, b', e2, hs', p0, p1, hl, hm⟩ := hd b hs
 refine ⟨p, l, m, ask_of hT rfl ?_, p0, p1, hl, hm⟩
 obtain ⟨_, _, _, rfl, _⟩ := hs
 obtain ⟨_, _, _, rfl, _⟩ := hs'
 simp -implicitDefEqProofs [Z2e, Z2e_B, e1, e2, List.replicate, List.idxOf, List.findIdx, List.findIdx.go]
def H_DrawPrimitiveOf (O : Oracle) : Prop := ∀ code : List Int, Bytes code → code.length ≤ 4096 → ∃ (p : Int) (m : List Int), ask O F2g [.sl .leaf (ints .u8 code)] = some (.tup [(D.int .i64 p), (D.arr 64 .leaf (ints .u8 m))]) ∧ 0 ≤ p ∧ p < 256 ∧ Arr m
theorem h_DrawPrimitiveOf (hT : T F2g = some Z2g) (hf : H_from (den T A)) (hd : H_l02Draw (den T A)) : H_DrawPrimitiveOf (den T A) := by
 intro code hb hc
 obtain ⟨b, e1, hs⟩ := hf code hb hc
 obtain ⟨p, l, m, b', e2, hs', p0, p1, hl, hm⟩ := hd b hs
 refine ⟨p, m, ask_of hT rfl ?_, p0, p1, hm⟩
 obtain ⟨_, _, _, rfl, _⟩ := hs
 obtain ⟨_, _, _, rfl, _⟩ := hs'
 simp -implicitDefEqProofs [Z2g, Z2g_B, e1, e2, List.replicate, List.idxOf, List.findIdx, List.findIdx.go]
theorem l_split1 {O : Oracle} (hm : H_drawMod O) (ht : K_sTimes O) (hdg : K_sDeg O) {p : Int} [IsP p] {z : List Int} : ∀ (k : Nat) (b : Blk) (a : Fp p), k ≤ 1000 → Src b → a.len ≤ 10 → ∃ (b' : Blk) (a' : Fp p), Src b' ∧ a'.len ≤ 10 ∧
 dn O 0 (.loop Z3n_L0) ⟨[(3, .ptr 0 []), (4, .ptr 1 []), (5, (.d (.int .i64 p))), (6, .ptr 3 []), (7, (.d (.int .i64 ((k : Int)))))], [.box false (D.arr 64 .leaf (ints .u8 z)), b, .hole, .box false (D.arr 64 .leaf (ints .u8 (pad (row a)))), .hole]⟩ =
  some (.exit 0, ⟨[(3, .ptr 0 []), (4, .ptr 1 []), (5, (.d (.int .i64 p))), (6, .ptr 3 []), (7, (.d (.int .i64 0))), (23, (.d (.bool false)))], [.box false (D.arr 64 .leaf (ints .u8 z)), b', .hole, .box false (D.arr 64 .leaf (ints .u8 (pad (row a')))), .hole]⟩)
 | 0, b, a, _, hs, ha => by
  refine ⟨b, a, hs, ha, dn_stop ?_⟩
  obtain ⟨_, _, _, rfl, _⟩ := hs
  generalize pad (row a) = Pa at *
  simp -implicitDefEqProofs [Z3n_L0, dn_cond]
 | k + 1, b, a, hk, hs, ha => by
  obtain ⟨m, b2, e1, hs2, m2, m3, hM⟩ := hm p b 2 hs (by omega) (by omega)
  have hml : (a * m).len ≤ a.len + m.len := by
   by_cases h0 : a = 0
   ·rw [h0, Gq.zero_mul, Pol.len_zero]; omega
   ·have := Pol.len_mul h0 hM.2
    omega
  have e2 := ht p a m (by omega) (by omega) (by omega)
  have e3 := hdg p (a * m) (by omega)
  have hk0 : (0 : Int) < ((k + 1 : Nat) : Int) := by omega
  obtain ⟨kk, hkk⟩ : ∃ kk : Int, ((k + 1 : Nat) : Int) = kk := ⟨_, rfl⟩
  have w1 : IntKind.i64.wrap (kk - 1) = k := (w64 (by omega)).trans (by omega)
  rw [hkk] at hk0 ⊢
  by_cases hc : (a * m).len ≤ 10
  ·obtain ⟨b', a', hs', ha', ih⟩ := l_split1 hm ht hdg (z := z) k b2 (a * m) (by omega) hs2 hc
   refine ⟨b', a', hs', ha', dn_round ?_ ih⟩
   obtain ⟨_, _, _, rfl, _⟩ := hs
   obtain ⟨_, _, _, rfl, _⟩ := hs2
   have hd9 : ((a * m).len : Int) - 1 ≤ 9 := by omega
   generalize pad (row (a * m)) = Pn at *
   generalize ((a * m).len : Int) - 1 = dg at *
   generalize pad (row a) = Pa at *
   generalize pad (row m) = Pm at *
   simp -implicitDefEqProofs [Z3n_L0, dn_cond, hk0, e1, e2, e3, hd9, w1, List.idxOf, List.findIdx, List.findIdx.go]
  ·obtain ⟨b', a', hs', ha', ih⟩ := l_split1 hm ht hdg (z := z) k b2 a (by omega) hs2 ha
   refine ⟨b', a', hs', ha', dn_round ?_ ih⟩
   obtain ⟨_, _, _, rfl, _⟩ := hs
   obtain ⟨_, _, _, rfl, _⟩ := hs2
   have hd9 : ¬ ((a * m).len : Int) - 1 ≤ 9 := by omega
   generalize pad (row (a * m)) = Pn at *
   generalize ((a * m).len : Int) - 1 = dg at *
   generalize pad (row a) = Pa at *
   generalize pad (row m) = Pm at *
   simp -implicitDefEqProofs [Z3n_L0, dn_cond, hk0, e1, e2, e3, hd9, w1, List.idxOf, List.findIdx, List.findIdx.go]
def H_split1 (O : Oracle) : Prop := ∀ code : List Int, Bytes code → code.length ≤ 4096 → ∃ (p : Int) (m : List Int), ask O F3n [.sl .leaf (ints .u8 code)] = some (.tup [(D.int .i64 p), (D.arr 64 .leaf (ints .u8 m))]) ∧ 0 ≤ p ∧ p < 256 ∧ Arr m
theorem h_split1 (hT : T F3n = some Z3n) (hf : H_from (den T A)) (hn : H_next (den T A) F35) (hpk : H_pick (den T A)) (hpr : H_drawPrime (den T A)) (hd : H_draw (den T A)) (hm : H_drawMod (den T A)) (hb : H_bad (den T A)) (ht : K_sTimes (den T A)) (hdg : K_sDeg (den T A)) : H_split1 (den T A) := by
 intro code hbc hc
 obtain ⟨b, e1, hs⟩ := hf code hbc hc
 obtain ⟨p, b1, e2, hs1, ip⟩ := hpr b hs
 have hp2 := IsP.ge (p := p)
 have hp7 := IsP.le (p := p)
 obtain ⟨x, b2, e3, hs2, hx⟩ := hpk b1 [4, 6, 8] 3 (some 3) hs1 rfl (by omega) (by omega)
 rw [show ints .i64 [4, 6, 8] = [.int .i64 4, .int .i64 6, .int .i64 8] from rfl] at e3
 obtain ⟨n, rfl⟩ : ∃ n : Nat, x = n := ⟨x.toNat, by simp at hx; omega⟩
 have hn8 : n ≤ 8 := by simp at hx; omega
 obtain ⟨a, b3, e4, hs3, ha⟩ := hd p b2 n hs2 (by omega)
 obtain ⟨k, b4, e5, hs4, k0, k1⟩ := hn b3 3 hs3 (by omega)
 obtain ⟨k, rfl⟩ : ∃ j : Nat, k = j := ⟨k.toNat, by omega⟩
 obtain ⟨b5, a5, hs5, ha5, e6⟩ := l_split1 (O := den T A) hm ht hdg (z := pad []) k b4 a (by omega) hs4 (by omega)
 obtain ⟨y, b6, e7, hs6, y0, y1⟩ := hn b5 24 hs5 (by omega)
 by_cases hy : y = 0
 ·obtain ⟨a7, b7, e8, hs7, -⟩ := hd p b6 20 hs6 (by omega)
  rw [show ((20 : Nat) : Int) = 20 from rfl] at e8
  obtain ⟨hal, hab⟩ := arr_row a7
  obtain ⟨l, b8, e9, hs8, g1, g2⟩ := hb b7 p (pad (row a7)) hs7 (by omega) (by omega) hal hab
  refine ⟨p, l, ask_of hT rfl ?_, by omega, by omega, g1, g2⟩
  obtain ⟨_, _, _, rfl, _⟩ := hs
  obtain ⟨_, _, _, rfl, _⟩ := hs1
  obtain ⟨_, _, _, rfl, _⟩ := hs2
  obtain ⟨_, _, _, rfl, _⟩ := hs3
  obtain ⟨_, _, _, rfl, _⟩ := hs4
  obtain ⟨_, _, _, rfl, _⟩ := hs5
  obtain ⟨_, _, _, rfl, _⟩ := hs6
  obtain ⟨_, _, _, rfl, _⟩ := hs7
  obtain ⟨_, _, _, rfl, _⟩ := hs8
  generalize pad (row a) = Pa at *
  generalize pad (row a5) = Pa5 at *
  generalize pad (row a7) = Pa7 at *
  simp -implicitDefEqProofs [Z3n, Z3n_B, dn_cond, e1, e2, e3, e4, e5, e6, e7, e8, e9, hy, List.replicate, List.idxOf, List.findIdx, List.findIdx.go]
 ·obtain ⟨hal, hab⟩ := arr_row a5
  obtain ⟨l, b8, e9, hs8, g1, g2⟩ := hb b6 p (pad (row a5)) hs6 (by omega) (by omega) hal hab
  refine ⟨p, l, ask_of hT rfl ?_, by omega, by omega, g1, g2⟩
  obtain ⟨_, _, _, rfl, _⟩ := hs
  obtain ⟨_, _, _, rfl, _⟩ := hs1
  obtain ⟨_, _, _, rfl, _⟩ := hs2
  obtain ⟨_, _, _, rfl, _⟩ := hs3
  obtain ⟨_, _, _, rfl, _⟩ := hs4
  obtain ⟨_, _, _, rfl, _⟩ := hs5
  obtain ⟨_, _, _, rfl, _⟩ := hs6
  obtain ⟨_, _, _, rfl, _⟩ := hs8
  generalize pad (row a) = Pa at *
  generalize pad (row a5) = Pa5 at *
  simp -implicitDefEqProofs [Z3n, Z3n_B, dn_cond, e1, e2, e3, e4, e5, e6, e7, e9, hy, List.replicate, List.idxOf, List.findIdx, List.findIdx.go]
def H_DrawEulerOf (O : Oracle) : Prop := ∀ code : List Int, Bytes code → code.length ≤ 4096 → ∃ (p : Int) (m : List Int), ask O F2d [.sl .leaf (ints .u8 code)] = some (.tup [(D.int .i64 p), (D.arr 64 .leaf (ints .u8 m))]) ∧ 0 ≤ p ∧ p < 256 ∧ Arr m
theorem h_DrawEulerOf (hT : T F2d = some Z2d) (h : H_split1 (den T A)) : H_DrawEulerOf (den T A) := by
 intro code hb hc
 obtain ⟨p, m, e, p0, p1, hm⟩ := h code hb hc
 refine ⟨p, m, ask_of hT rfl ?_, p0, p1, hm⟩
 simp -implicitDefEqProofs [Z2d, Z2d_B, e]
def fineP (p : Int) : Int := if isP p then p else 3
theorem fineP_ok (p : Int) : IsP (fineP p) := by
 unfold fineP
 by_cases h : isP p = true
 ·rw [if_pos h]; exact isP_of h
 ·rw [if_neg h]; exact ⟨by omega⟩
def C_sFine (O : Oracle) : Prop := ∀ p : Int, ask O F3h [(D.int .i64 p)] = some (D.int .i64 (fineP p))
theorem c_sFine (hT : T F3h = some Z3h) (hp : C_sPrime (den T A)) : C_sFine (den T A) := by
 intro p
 have e := hp p
 unfold fineP
 refine ask_of hT rfl ?_
 by_cases h : isP p = true
 ·rw [h] at e
  rw [if_pos h]
  simp -implicitDefEqProofs [Z3h, Z3h_B, dn_cond, e]
 ·rw [Bool.not_eq_true] at h
  rw [h] at e
  rw [if_neg (by rw [h]; exact Bool.false_ne_true)]
  simp -implicitDefEqProofs [Z3h, Z3h_B, dn_cond, e]
theorem prD_arr (p : Int) (l : List Int) : ∃ (r : List Int) (c : Int), prD p l = .tup [(D.arr 64 .leaf (ints .u8 r)), (D.int .i64 c)] ∧ Arr r := by
 have hz : Arr (pad []) := ⟨pad_length _, fun x hx => by
  unfold pad at hx
  obtain ⟨a, _, rfl⟩ : ∃ a, a < 64 ∧ cf [] a = x := by simpa using hx
  rw [cf_ge (Nat.zero_le _)]
  omega⟩
 unfold prD
 split
 ·rename_i h
  haveI : IsP p := h.choose
  exact ⟨_, _, rfl, arr_row _⟩
 ·exact ⟨_, _, rfl, hz⟩
def H_DrawLogarithmOf (O : Oracle) : Prop := ∀ code : List Int, Bytes code → code.length ≤ 4096 → ∃ (p : Int) (a g m : List Int), ask O F2f [.sl .leaf (ints .u8 code)] = some (.tup [(D.int .i64 p), (D.arr 64 .leaf (ints .u8 a)), (D.arr 64 .leaf (ints .u8 g)), (D.arr 64 .leaf (ints .u8 m))]) ∧ 0 ≤ p ∧ p < 256 ∧ Arr a ∧ Arr g ∧ Arr m
theorem h_DrawLogarithmOf (hT : T F2f = some Z2f) (hf : H_from (den T A)) (hn : H_next (den T A) F35) (hl : H_l02Draw (den T A)) (hfi : C_sFine (den T A)) (hd : H_draw (den T A)) (hpo : K_PrimitiveOf (den T A) F2l) : H_DrawLogarithmOf (den T A) := by
 intro code hb hc
 obtain ⟨b, e1, hs⟩ := hf code hb hc
 obtain ⟨p, a, m, b1, e2, hs1, p0, p1, ha, hm⟩ := hl b hs
 have e3 := hfi p
 haveI := fineP_ok p
 obtain ⟨g, b2, e4, hs2, -⟩ := hd (fineP p) b1 2 hs1 (by omega)
 rw [show ((2 : Nat) : Int) = 2 from rfl] at e4
 have e5 := hpo p m hm.2 hm.1
 obtain ⟨r, c, hr, hra⟩ := prD_arr p m
 rw [hr] at e5
 by_cases hc0 : c = 0
 ·obtain ⟨x, b3, e6, hs3, x0, x1⟩ := hn b2 2 hs2 (by omega)
  subst hc0
  by_cases hx : x = 0
  ·refine ⟨p, a, r, m, ask_of hT rfl ?_, p0, p1, ha, hra, hm⟩
   obtain ⟨_, _, _, rfl, _⟩ := hs
   obtain ⟨_, _, _, rfl, _⟩ := hs1
   obtain ⟨_, _, _, rfl, _⟩ := hs2
   obtain ⟨_, _, _, rfl, _⟩ := hs3
   generalize pad (row g) = Pg at *
   generalize fineP p = q at *
   simp -implicitDefEqProofs [Z2f, Z2f_B, dn_cond, e1, e2, e3, e4, e5, e6, hx, List.replicate, List.idxOf, List.findIdx, List.findIdx.go]
  ·refine ⟨p, a, pad (row g), m, ask_of hT rfl ?_, p0, p1, ha, arr_row g, hm⟩
   obtain ⟨_, _, _, rfl, _⟩ := hs
   obtain ⟨_, _, _, rfl, _⟩ := hs1
   obtain ⟨_, _, _, rfl, _⟩ := hs2
   obtain ⟨_, _, _, rfl, _⟩ := hs3
   generalize pad (row g) = Pg at *
   generalize fineP p = q at *
   simp -implicitDefEqProofs [Z2f, Z2f_B, dn_cond, e1, e2, e3, e4, e5, e6, hx, List.replicate, List.idxOf, List.findIdx, List.findIdx.go]
 ·refine ⟨p, a, pad (row g), m, ask_of hT rfl ?_, p0, p1, ha, arr_row g, hm⟩
  obtain ⟨_, _, _, rfl, _⟩ := hs
  obtain ⟨_, _, _, rfl, _⟩ := hs1
  obtain ⟨_, _, _, rfl, _⟩ := hs2
  generalize pad (row g) = Pg at *
  generalize fineP p = q at *
  simp -implicitDefEqProofs [Z2f, Z2f_B, dn_cond, e1, e2, e3, e4, e5, hc0, List.replicate, List.idxOf, List.findIdx, List.findIdx.go]
end Pe

namespace Pe
open Go Gq
section
variable {p : Int}
theorem cop_pow {q a : Fp p} (h : ∃ u v : Fp p, u * q + v * a = 1) : ∀ n, ∃ u v : Fp p, u * pw q n + v * a = 1
 | 0 => ⟨1, 0, by
  show 1 * (1 : Fp p) + 0 * a = 1
  rw [Gq.one_mul, Gq.zero_mul, Gq.add_zero]⟩
 | n + 1 => by
  obtain ⟨u, v, e⟩ := h
  obtain ⟨s, t, e2⟩ := cop_pow ⟨u, v, e⟩ n
  refine ⟨s * u, s * pw q n * v + t * u * q + t * v * a, ?_⟩
  have e3 : (s * pw q n + t * a) * (u * q + v * a) = 1 := by rw [e, e2, Gq.one_mul]
  rw [← e3]
  show s * u * (pw q n * q) + (s * pw q n * v + t * u * q + t * v * a) * a = _
  exact ring_of [s, u, v, t, q, a, pw q n] rfl
noncomputable def eulN (p : Int) : Facs p → Nat
 | [] => 1
 | x :: L => (p.toNat ^ (x.1.len - 1) - 1) * (p.toNat ^ (x.1.len - 1)) ^ (x.2 - 1) * eulN p L
theorem eulN_dvd : ∀ {L : Facs p} {x : Fp p × Nat}, x ∈ L → (p.toNat ^ (x.1.len - 1) - 1) * (p.toNat ^ (x.1.len - 1)) ^ (x.2 - 1) ∣ eulN p L
 | y :: L, x, h => by
  rcases List.mem_cons.1 h with rfl | h
  ·exact Nat.dvd_mul_right _ _
  ·exact Nat.dvd_trans (eulN_dvd h) (Nat.dvd_mul_left _ _)
end
section
variable {p : Int} [IsP p]
theorem cop_dv {b a y : Fp p} (h : ∃ u v : Fp p, u * b + v * a = 1) (h1 : Dv b y) (h2 : Dv a y) : Dv (b * a) y := by
 obtain ⟨u, v, e⟩ := h
 obtain ⟨s, hs⟩ := h1
 obtain ⟨t, ht⟩ := h2
 refine ⟨u * t + v * s, ?_⟩
 have e1 : y = y * (u * b) + y * (v * a) := by rw [← Gq.mul_add, e, Gq.mul_one]
 rw [e1]
 conv => lhs; lhs; rw [ht]
 conv => lhs; rhs; rw [hs]
 exact ring_of [u, v, s, t, a, b] rfl
theorem euler_pp {q a : Fp p} (hi : Irr q) {d : Nat} (hq : q.len = d + 1) (hd : p ^ d < 1000000000000) (ha : ¬ Dv q a) (e : Nat) : pw (Quo.mk (pw q (e + 1)) a) ((p.toNat ^ d - 1) * (p.toNat ^ d) ^ e) = 1 := by
 have hp := IsP.ge (p := p)
 have hpos := p_pow_pos (p := p) d
 -- in the field
 have h1 : pw (Quo.mk q a) (p.toNat ^ d - 1) = 1 := by
  have hx : Quo.mk q a ≠ 0 := fun h => ha (dv_iff_mk.2 h)
  obtain ⟨y, hy⟩ := hi.quo_inv hx
  have hf := fermat_all hi hq hd (Quo.mk q a)
  have hs : p.toNat ^ d = (p.toNat ^ d - 1) + 1 := by omega
  rw [hs, pw_add, pw_1] at hf
  have : pw (Quo.mk q a) (p.toNat ^ d - 1) * Quo.mk q a * y = Quo.mk q a * y := by rw [hf]
  rwa [Gq.mul_assoc, hy, Gq.mul_one] at this
 have h2 : Dv q (pw a (p.toNat ^ d - 1) - 1) := by
  rw [dv_iff_mk, Quo.mk_sub, Quo.mk_pow, h1]
  exact Gq.sub_self _
 obtain ⟨b, hb⟩ := h2
 have h3 : pw a (p.toNat ^ d - 1) = 1 + q * b := by
  rw [← hb]
  exact ring_of [pw a (p.toNat ^ d - 1)] rfl
 rw [← pw_pw, ← Quo.mk_pow, h3, Quo.mk_add, ← Nat.pow_mul, frobk_add, Quo.mk_one, pw_one, ← Quo.mk_pow, pw_mul, Quo.mk_mul]
 have hge : e + 1 ≤ p.toNat ^ (d * e) := by
  have hd1 : 1 ≤ d := by have := hi.len; omega
  have a1 : e < 2 ^ e := Nat.lt_two_pow_self
  have a2 : 2 ^ e ≤ p.toNat ^ e := Nat.pow_le_pow_left (by omega) e
  have a3 : p.toNat ^ e ≤ p.toNat ^ (d * e) := Nat.pow_le_pow_right (by omega) (Nat.le_mul_of_pos_left e hd1)
  omega
 have hz : Quo.mk (pw q (e + 1)) (pw q (p.toNat ^ (d * e))) = 0 := by
  rw [← dv_iff_mk]
  obtain ⟨k, hk⟩ : ∃ k, p.toNat ^ (d * e) = (e + 1) + k := ⟨p.toNat ^ (d * e) - (e + 1), by omega⟩
  rw [hk, pw_add q (e + 1) k]
  exact ⟨pw q k, rfl⟩
 rw [hz, Gq.zero_mul, Gq.add_zero]
theorem pow_small {d : Nat} (hd : d ≤ 12) : p ^ d < 1000000000000 := by
 have h1 := ipow_mono (p := p) (by have := IsP.pos (p := p); omega) hd
 have h2 : p ^ 12 < 1000000000000 := by rcases IsP.h (p := p) with h | h | h | h <;> (subst h; decide)
 omega
theorem eulA_N : ∀ (L : Facs p) (out : Int), eulA p out L = out * (eulN p L : Int)
 | [], out => by show out = out * ((1 : Nat) : Int); omega
 | x :: L, out => by
  have h1 := pow_nat (p := p) (x.1.len - 1)
  have hpos := p_pow_pos (p := p) (x.1.len - 1)
  have h2 : ((p.toNat ^ (x.1.len - 1) - 1 : Nat) : Int) = p ^ (x.1.len - 1) - 1 := by omega
  show eulA p (out * (p ^ (x.1.len - 1) - 1) * (p ^ (x.1.len - 1)) ^ (x.2 - 1)) L = out * (((p.toNat ^ (x.1.len - 1) - 1) * (p.toNat ^ (x.1.len - 1)) ^ (x.2 - 1) * eulN p L : Nat) : Int)
  rw [eulA_N L, Int.natCast_mul, Int.natCast_mul, h2, Int.natCast_pow, h1]
  generalize (p ^ (x.1.len - 1)) ^ (x.2 - 1) = A
  generalize p ^ (x.1.len - 1) - 1 = B
  generalize (eulN p L : Int) = C
  rw [Int.mul_assoc out B A, Int.mul_assoc]
theorem eul_N (m : Fp p) : eul m = (eulN p (fac m) : Int) := by
 unfold eul
 rw [eulA_N, Int.one_mul]
theorem prod_dv {y : Fp p} : ∀ {L : Facs p}, FacOk L → (∀ x ∈ L, Dv (pw x.1 x.2) y) → Dv (prodF L) y
 | [], _, _ => ⟨y, (Gq.one_mul y).symm⟩
 | x :: L, ok, h => by
  have hx := ok.irr x (by simp)
  have ht : FacOk L := ⟨fun y hy => ok.irr y (by simp [hy]), ok.dis.tail⟩
  rw [prodF_cons]
  refine cop_dv (cop_pow (hx.1.coprime fun hd => ?_) x.2) (h x (by simp)) (prod_dv ht fun z hz => h z (by simp [hz]))
  obtain ⟨k, hz⟩ := irr_mem hx.1 hx.2.1 ht hd
  exact (List.pairwise_cons.1 ok.dis).1 _ hz rfl
theorem euler_all {m a : Fp p} (hM : Monic m) (hl : m.len ≤ 13) (h : IsFac m (fac m)) (ha : ∀ q, Irr q → Dv q m → ¬ Dv q a) : pw (Quo.mk m a) (eulN p (fac m)) = 1 := by
 have hm0 := hM.2
 have e : m = prodF (fac m) := by
  have := h.eq
  rwa [hM.1, Pol.C_one, Gq.one_mul] at this
 have key : Dv m (pw a (eulN p (fac m)) - 1) := by
  have := prod_dv (y := pw a (eulN p (fac m)) - 1) h.ok fun x hx => by
   obtain ⟨i1, i2, i3⟩ := h.ok.irr x hx
   obtain ⟨-, -, -, h4, -⟩ := (fac_mem hm0 h.ok h.eq x.1 x.2).1 hx
   obtain ⟨k, hk⟩ : ∃ k, x.2 = k + 1 := ⟨x.2 - 1, by omega⟩
   have hq : Dv x.1 m := by
    refine Dv.trans ⟨pw x.1 k, ?_⟩ h4
    rw [hk]
    exact Gq.mul_comm _ _
   have hxl := hq.len hm0
   have h2 := i1.len
   have small : p ^ (x.1.len - 1) < 1000000000000 := pow_small (by omega)
   have e1 := euler_pp i1 (d := x.1.len - 1) (by omega) small (ha x.1 i1 hq) k
   rw [hk, dv_iff_mk, Quo.mk_sub, Quo.mk_pow]
   have hdv := eulN_dvd hx
   rw [hk, Nat.add_sub_cancel] at hdv
   rw [pw_dvd e1 hdv]
   exact Gq.sub_self _
  rwa [← e] at this
 rw [dv_iff_mk, Quo.mk_sub, Quo.mk_pow] at key
 have e2 : pw (Quo.mk m a) (eulN p (fac m)) = (pw (Quo.mk m a) (eulN p (fac m)) - Quo.mk m 1) + Quo.mk m 1 := ring_of [pw (Quo.mk m a) (eulN p (fac m)), Quo.mk m 1] rfl
 rw [e2, key, Gq.zero_add]; rfl
end
end Pe

namespace Pe
open Go Gq
variable {T : Nat → Option Fn} {A : Oracle}
theorem codeP_each {p : Int} {ls : List (List Int)} (h : codeP p ls = 0) {l : List Int} (hl : l ∈ ls) : codeP p [l] = 0 := by
 unfold codeP at h
 split at h
 ·rename_i g
  have g2 := List.all_eq_true.1 g.2 l hl
  unfold codeP
  rw [if_pos ⟨g.1, by simpa using g2⟩]
 ·cases h
theorem modC_each {p : Int} {l : List Int} {ls : List (List Int)} (h : modC p l ls = 0) : codeP p ls = 0 := by
 unfold modC at h
 split at h
 ·cases h
 ·rename_i g
  exact (codeP_last (by simpa using g)).1
theorem mod_ok {p : Int} {a m : List Int} (ha : Bytes a) (gl : a.length = 64) (h : modC p m [a] = 0) : ∃ (_ : IsP p) (M X : Fp p), m = pad (row M) ∧ a = pad (row X) ∧ Monic M ∧ 2 ≤ M.len ∧ M.len ≤ 6 ∧ X.len ≤ 64 := by
 obtain ⟨ip, M, rfl, hM, h2, h6⟩ := modC_zero h
 obtain ⟨ip', X, hX, rfl⟩ := codeP_zero' ha gl (modC_each h)
 exact ⟨ip, M, X, rfl, rfl, hM, h2, h6, hX⟩
section
variable {p : Int} [IsP p]
def Un (M X : Fp p) : Prop := Pol.gcd X M = 1
theorem un_inv {M X : Fp p} (hM : M ≠ 0) (h : Un M X) : Quo.mk M (invm M X) * Quo.mk M X = 1 := by
 have e := Pol.bezout_eq (a := X) (b := M) (.inr hM)
 rw [show Pol.gcd X M = 1 from h] at e
 unfold invm
 rw [Pol.mk_mod, ← Quo.mk_one, ← e, Quo.mk_add, Quo.mk_mul, Quo.mk_mul, show Quo.mk M M = 0 from dv_iff_mk.1 (Dv.refl M), Gq.mul_zero, Gq.add_zero]
theorem un_not {M X : Fp p} (hM : M ≠ 0) (h : Un M X) : ∀ q, Irr q → Dv q M → ¬ Dv q X := fun q hq h1 h2 => by
 have h3 := Pol.dv_gcd (.inr hM) h2 h1
 rw [show Pol.gcd X M = 1 from h] at h3
 have h4 := h3.len Pol.one_ne
 rw [Pol.len_one] at h4
 have := hq.len
 omega
theorem un_mod {M X : Fp p} (hM : M ≠ 0) : Un M (X % M) ↔ Un M X := by
 have key : ∀ c, Dv c M → (Dv c (X % M) ↔ Dv c X) := fun c hc => by
  have e : X = X / M * M + X % M := Pol.div_mod X M
  constructor
  ·intro h
   rw [e]
   exact (hc.mul_left _).add h
  ·intro h
   have e2 : X % M = X - X / M * M := by
    conv => rhs; lhs; rw [e]
    exact ring_of [X / M, M, X % M] rfl
   rw [e2]
   exact h.sub (hc.mul_left _)
 unfold Un
 have h0 : X ≠ 0 ∨ M ≠ 0 := .inr hM
 have h1 : X % M ≠ 0 ∨ M ≠ 0 := .inr hM
 have e : Pol.gcd (X % M) M = Pol.gcd X M := Pol.gcd_unique h1 (Pol.gcd_monic h0) ((key _ (Pol.gcd_dv_right h0)).2 (Pol.gcd_dv_left h0)) (Pol.gcd_dv_right h0) fun c c1 c2 => Pol.dv_gcd h0 ((key c c2).1 c1) c2
 rw [e]
theorem inv_unique {M X u v : Fp p} (hM : M ≠ 0) (h1 : Quo.mk M u * Quo.mk M X = 1) (h2 : Quo.mk M v * Quo.mk M X = 1) : u % M = v % M := by
 refine (Pol.mod_eq_iff hM).2 ?_
 have e : Quo.mk M u * (Quo.mk M v * Quo.mk M X) = Quo.mk M v * (Quo.mk M u * Quo.mk M X) := ring_of [Quo.mk M u, Quo.mk M v, Quo.mk M X] rfl
 rwa [h1, h2, Gq.mul_one, Gq.mul_one] at e
theorem invm_mod {M X : Fp p} (hM : M ≠ 0) (h : Un M X) : invm M (X % M) = invm M X := by
 have h1 := un_inv hM ((un_mod hM).2 h)
 rw [Pol.mk_mod] at h1
 have h2 := un_inv hM h
 have e := inv_unique hM h1 h2
 rwa [Pol.mod_small (invm_len hM _), Pol.mod_small (invm_len hM _)] at e
theorem eulA_le : ∀ (L : Facs p) (out : Int) (e : Nat), (∀ x ∈ L, 1 ≤ x.2 ∧ 2 ≤ x.1.len) → 0 ≤ out → out ≤ p ^ e → eulA p out L ≤ p ^ (e + dgF L)
 | [], out, e, _, _, h => by
  show out ≤ p ^ (e + 0)
  exact h
 | x :: L, out, e, hL, h0, h1 => by
  obtain ⟨i1, i2⟩ := hL x (by simp)
  obtain ⟨s1, s2, -, -⟩ := eul_step (p := p) (x := x) i1 h0 h1 i2
  have := eulA_le L _ _ (fun y hy => hL y (by simp [hy])) s1 s2
  show eulA p (out * (p ^ (x.1.len - 1) - 1) * (p ^ (x.1.len - 1)) ^ (x.2 - 1)) L ≤ p ^ (e + (x.2 * (x.1.len - 1) + dgF L))
  rwa [← Nat.add_assoc]
theorem eulN_pos : ∀ (L : Facs p), (∀ x ∈ L, 2 ≤ x.1.len) → 1 ≤ eulN p L
 | [], _ => Nat.le_refl 1
 | x :: L, h => by
  have h1 := eulN_pos L fun y hy => h y (by simp [hy])
  have hx := h x (by simp)
  have hp := IsP.ge (p := p)
  have h2 : 2 ≤ p.toNat ^ (x.1.len - 1) := by
   obtain ⟨k, hk⟩ : ∃ k, x.1.len - 1 = k + 1 := ⟨x.1.len - 2, by omega⟩
   rw [hk, Nat.pow_succ]
   have := p_pow_pos (p := p) k
   exact Nat.le_trans (by omega) (Nat.mul_le_mul this (show 2 ≤ p.toNat by omega))
  have h3 : 0 < (p.toNat ^ (x.1.len - 1)) ^ (x.2 - 1) := Nat.pow_pos (by omega)
  exact Nat.mul_pos (Nat.mul_pos (by omega) h3) h1
theorem eul_bounds {M : Fp p} (hM : Monic M) (hf : IsFac M (fac M)) : 1 ≤ eulN p (fac M) ∧ (eulN p (fac M) : Int) ≤ p ^ (M.len - 1) := by
 refine ⟨eulN_pos _ fun x hx => (hf.ok.irr x hx).1.len, ?_⟩
 have h1 := eulA_le (fac M) 1 0 (fun x hx => ⟨(hf.ok.irr x hx).2.2, (hf.ok.irr x hx).1.len⟩) (by omega) (by rw [Int.pow_zero]; omega)
 rw [eulA_N, Int.one_mul, Nat.zero_add] at h1
 have h2 := dgF_len hf.ok
 have e : M = prodF (fac M) := by
  have := hf.eq
  rwa [hM.1, Pol.C_one, Gq.one_mul] at this
 rw [← e] at h2
 rwa [show dgF (fac M) = M.len - 1 by omega] at h1
open Classical in
noncomputable def ordN (M X : Fp p) : Nat := if h : ∃ n, 1 ≤ n ∧ Ord (Quo.mk M X) n then h.choose else 0
theorem ordN_ok {M X : Fp p} (hM : Monic M) (hl : M.len ≤ 13) (hf : IsFac M (fac M)) (h : Un M X) : 1 ≤ ordN M X ∧ Ord (Quo.mk M X) (ordN M X) ∧ ordN M X ∣ eulN p (fac M) := by
 have h1 := euler_all hM hl hf (un_not hM.2 h)
 have hx : ∃ n, 1 ≤ n ∧ Ord (Quo.mk M X) n := ord_ex _ (eul_bounds hM hf).1 h1
 unfold ordN
 rw [dif_pos hx]
 obtain ⟨g1, g2⟩ := hx.choose_spec
 exact ⟨g1, g2, (g2 _).1 h1⟩
end
end Pe

namespace Pe
open Go Gq
variable {T : Nat → Option Fn} {A : Oracle}
open Classical in
noncomputable def ivD (p : Int) (a m : List Int) : D :=
 if modC p m [a] = 0 then
  (if h : IsP p then haveI := h; if Un (polOf p m) (polOf p a) then .tup [(D.arr 64 .leaf (ints .u8 (pad (row (invm (polOf p m) (polOf p a)))))), (D.int .i64 0)] else .tup [(D.arr 64 .leaf (ints .u8 (pad []))), (D.int .i64 4)] else .tup [(D.arr 64 .leaf (ints .u8 (pad []))), (D.int .i64 4)])
 else .tup [(D.arr 64 .leaf (ints .u8 (pad []))), (D.int .i64 (modC p m [a]))]
open Classical in
noncomputable def orD (p : Int) (a m : List Int) : D :=
 if modC p m [a] = 0 then
  (if h : IsP p then haveI := h; if Un (polOf p m) (polOf p a) then .tup [(D.int .i64 ((ordN (polOf p m) (polOf p a) : Nat))), (D.int .i64 0)] else .tup [(D.int .i64 0), (D.int .i64 4)] else .tup [(D.int .i64 0), (D.int .i64 4)])
 else .tup [(D.int .i64 0), (D.int .i64 (modC p m [a]))]
section
variable {p : Int} [ip : IsP p] {M X : Fp p}
theorem ivD_unit (h : modC p (pad (row M)) [pad (row X)] = 0) (hM : M.len ≤ 64) (hX : X.len ≤ 64) (hu : Un M X) : ivD p (pad (row X)) (pad (row M)) = .tup [(D.arr 64 .leaf (ints .u8 (pad (row (invm M X))))), (D.int .i64 0)] := by
 unfold ivD
 rw [if_pos h, dif_pos ip, polOf_pad hM, polOf_pad hX, if_pos hu]
theorem ivD_not (h : modC p (pad (row M)) [pad (row X)] = 0) (hM : M.len ≤ 64) (hX : X.len ≤ 64) (hu : ¬ Un M X) : ivD p (pad (row X)) (pad (row M)) = .tup [(D.arr 64 .leaf (ints .u8 (pad []))), (D.int .i64 4)] := by
 unfold ivD
 rw [if_pos h, dif_pos ip, polOf_pad hM, polOf_pad hX, if_neg hu]
theorem orD_unit (h : modC p (pad (row M)) [pad (row X)] = 0) (hM : M.len ≤ 64) (hX : X.len ≤ 64) (hu : Un M X) : orD p (pad (row X)) (pad (row M)) = .tup [(D.int .i64 ((ordN M X : Nat))), (D.int .i64 0)] := by
 unfold orD
 rw [if_pos h, dif_pos ip, polOf_pad hM, polOf_pad hX, if_pos hu]
theorem orD_not (h : modC p (pad (row M)) [pad (row X)] = 0) (hM : M.len ≤ 64) (hX : X.len ≤ 64) (hu : ¬ Un M X) : orD p (pad (row X)) (pad (row M)) = .tup [(D.int .i64 0), (D.int .i64 4)] := by
 unfold orD
 rw [if_pos h, dif_pos ip, polOf_pad hM, polOf_pad hX, if_neg hu]
end
theorem ivD_bad {p : Int} {a m : List Int} (h : ¬ modC p m [a] = 0) : ivD p a m = .tup [(D.arr 64 .leaf (ints .u8 (pad []))), (D.int .i64 (modC p m [a]))] := by unfold ivD; rw [if_neg h]
theorem orD_bad {p : Int} {a m : List Int} (h : ¬ modC p m [a] = 0) : orD p a m = .tup [(D.int .i64 0), (D.int .i64 (modC p m [a]))] := by unfold orD; rw [if_neg h]
theorem one_dec {p : Int} [IsP p] {d : Fp p} (hd : Monic d) [Decidable (d.len = 1 ∧ cf (row d) 0 = 1)] [Decidable (d = 1)] : decide (d.len = 1 ∧ cf (row d) 0 = 1) = decide (d = 1) := by
 refine decide_eq_decide.2 ⟨fun h => hd.eq_one h.1, ?_⟩
 rintro rfl
 refine ⟨Pol.len_one, ?_⟩
 rw [row_one]; rfl
def K_InverseModulo (O : Oracle) (F : Nat) : Prop := ∀ (p : Int) (a m : List Int), Bytes a → a.length = 64 → Bytes m → m.length = 64 → ask O F [(D.int .i64 p), (D.arr 64 .leaf (ints .u8 a)), (D.arr 64 .leaf (ints .u8 m))] = some (ivD p a m)
def K_OrderModulo (O : Oracle) (F : Nat) : Prop := ∀ (p : Int) (a m : List Int), Bytes a → a.length = 64 → Bytes m → m.length = 64 → ask O F [(D.int .i64 p), (D.arr 64 .leaf (ints .u8 a)), (D.arr 64 .leaf (ints .u8 m))] = some (orD p a m)
open Classical in
theorem k_InverseModulo (hT : T F6 = some Z6) (hmc : H_modCode (den T A)) (hro : K_rowOf (den T A)) (hbz : K_bezout (den T A)) (h1 : K_isOne (den T A)) (hre : K_rest (den T A)) (hto : C_told (den T A)) : K_InverseModulo (den T A) F6 := by
 intro p a m ha gla hm glm
 have e1 := hmc p m [a] hm glm (fun x hx => by simp at hx; subst hx; exact ⟨gla, ha⟩) (by simp) (by simp)
 rw [show [a].map arr8 = [(D.arr 64 .leaf (ints .u8 a))] from rfl, show [a].length = 1 from rfl] at e1
 by_cases h0 : modC p m [a] = 0
 ·have h0' := h0
  rw [h0] at e1
  obtain ⟨ip, M, X, rfl, rfl, hM, h2, h6, hX⟩ := mod_ok ha gla h0
  have e2 := hro p X hX
  have e3 := hro p M (by omega)
  have e4 := hbz p X M (.inr hM.2) (by omega) (by omega)
  have hgm : Monic (Pol.gcd X M) := Pol.gcd_monic (.inr hM.2)
  have hgl := (Pol.gcd_dv_right (a := X) (b := M) (.inr hM.2)).len hM.2
  have e5 := h1 p (Pol.bezout X M).1 (by show (Pol.gcd X M).len < _; omega)
  rw [one_dec (d := (Pol.bezout X M).1) hgm] at e5
  by_cases hu : Un M X
  ·rw [ivD_unit h0' (by omega) hX hu]
   rw [decide_eq_true (show (Pol.bezout X M).1 = 1 from hu)] at e5
   have hul : (Pol.bezout X M).2.1.len < 5000 := bez_small (.inr hM.2) (by omega) (by omega)
   have e6 := hre p (Pol.bezout X M).2.1 M hM.2 hul (by omega)
   rw [show (Pol.bezout X M).2.1 % M = invm M X from rfl] at e6
   have hil := invm_len hM.2 X
   have e7 := hto (row (invm M X)) (row_bytes _) (by rw [row_length]; omega)
   unfold toldD at e7
   rw [if_pos (by rw [row_length]; omega)] at e7
   refine ask_of hT rfl ?_
   generalize row (Pol.bezout X M).1 = R1 at *
   generalize row (Pol.bezout X M).2.1 = R2 at *
   generalize row (Pol.bezout X M).2.2 = R3 at *
   generalize pad (row (invm M X)) = Pi at *
   generalize row (invm M X) = Ri at *
   generalize pad (row X) = Px at *
   generalize row X = Rx at *
   generalize pad (row M) = Pm at *
   generalize row M = Rm at *
   simp -implicitDefEqProofs [Z6, Z6_B, dn_cond, e1, e2, e3, e4, e5, e6, e7, List.replicate, List.idxOf, List.findIdx, List.findIdx.go]
  ·rw [ivD_not h0' (by omega) hX hu]
   rw [decide_eq_false (show ¬ (Pol.bezout X M).1 = 1 from hu)] at e5
   refine ask_of hT rfl ?_
   generalize row (Pol.bezout X M).1 = R1 at *
   generalize row (Pol.bezout X M).2.1 = R2 at *
   generalize row (Pol.bezout X M).2.2 = R3 at *
   generalize pad (row X) = Px at *
   generalize row X = Rx at *
   generalize pad (row M) = Pm at *
   generalize row M = Rm at *
   simp -implicitDefEqProofs [Z6, Z6_B, dn_cond, e1, e2, e3, e4, e5, List.replicate, List.idxOf, List.findIdx, List.findIdx.go]
 ·rw [ivD_bad h0]
  refine ask_of hT rfl ?_
  generalize modC p m [a] = c at *
  simp -implicitDefEqProofs [Z6, Z6_B, dn_cond, e1, h0, List.replicate, List.idxOf, List.findIdx, List.findIdx.go]
open Classical in
theorem k_OrderModulo (hT : T F8 = some Z8) (hmc : H_modCode (den T A)) (hro : K_rowOf (den T A)) (hg : K_gcd (den T A)) (h1 : K_isOne (den T A)) (hfa : K_fac (den T A)) (hor : K_order (den T A)) : K_OrderModulo (den T A) F8 := by
 intro p a m ha gla hm glm
 have e1 := hmc p m [a] hm glm (fun x hx => by simp at hx; subst hx; exact ⟨gla, ha⟩) (by simp) (by simp)
 rw [show [a].map arr8 = [(D.arr 64 .leaf (ints .u8 a))] from rfl, show [a].length = 1 from rfl] at e1
 by_cases h0 : modC p m [a] = 0
 ·have h0' := h0
  rw [h0] at e1
  obtain ⟨ip, M, X, rfl, rfl, hM, h2, h6, hX⟩ := mod_ok ha gla h0
  have e2 := hro p X hX
  have e3 := hro p M (by omega)
  have e4 := hg p X M (.inr hM.2) (by omega) (by omega)
  have hgm : Monic (Pol.gcd X M) := Pol.gcd_monic (.inr hM.2)
  have hgl := (Pol.gcd_dv_right (a := X) (b := M) (.inr hM.2)).len hM.2
  have e5 := h1 p (Pol.gcd X M) (by omega)
  rw [one_dec (d := Pol.gcd X M) hgm] at e5
  by_cases hu : Un M X
  ·rw [orD_unit h0' (by omega) hX hu]
   rw [decide_eq_true (show Pol.gcd X M = 1 from hu)] at e5
   obtain ⟨hf, -, -⟩ := hfa p M hM.2 (by omega)
   obtain ⟨n1, n2, n3⟩ := ordN_ok hM (by omega) hf hu
   obtain ⟨b1, b2⟩ := eul_bounds hM hf
   have hnl := Nat.le_of_dvd b1 n3
   have hpb := ppow_le (p := p) (n := 5) (by omega)
   have hpb2 : p ^ 5 ≤ 16807 := by rcases IsP.h (p := p) with h | h | h | h <;> (subst h; decide)
   have hmono := ipow_mono (p := p) (by have := IsP.pos (p := p); omega) (show M.len - 1 ≤ 5 by omega)
   have e6 := hor p X M (ordN M X) h2 (by omega) (by omega) n1 (by omega) n2
   refine ask_of hT rfl ?_
   generalize ordN M X = n at *
   generalize row (Pol.gcd X M) = R1 at *
   generalize pad (row X) = Px at *
   generalize row X = Rx at *
   generalize pad (row M) = Pm at *
   generalize row M = Rm at *
   simp -implicitDefEqProofs [Z8, Z8_B, dn_cond, e1, e2, e3, e4, e5, e6, List.replicate, List.idxOf, List.findIdx, List.findIdx.go]
  ·rw [orD_not h0' (by omega) hX hu]
   rw [decide_eq_false (show ¬ Pol.gcd X M = 1 from hu)] at e5
   refine ask_of hT rfl ?_
   generalize row (Pol.gcd X M) = R1 at *
   generalize pad (row X) = Px at *
   generalize row X = Rx at *
   generalize pad (row M) = Pm at *
   generalize row M = Rm at *
   simp -implicitDefEqProofs [Z8, Z8_B, dn_cond, e1, e2, e3, e4, e5, List.replicate, List.idxOf, List.findIdx, List.findIdx.go]
 ·rw [orD_bad h0]
  refine ask_of hT rfl ?_
  generalize modC p m [a] = c at *
  simp -implicitDefEqProofs [Z8, Z8_B, dn_cond, e1, h0, List.replicate, List.idxOf, List.findIdx, List.findIdx.go]
end Pe

namespace Pe
open Go Gq
variable {T : Nat → Option Fn} {A : Oracle}
def K_sGcd2 (O : Oracle) : Prop := ∀ (p : Int) [IsP p] (a b : Fp p), b ≠ 0 → a.len ≤ 64 → b.len ≤ 64 →
 ask O F2x [(D.int .i64 p), (D.arr 64 .leaf (ints .u8 (pad (row a)))), (D.arr 64 .leaf (ints .u8 (pad (row b))))] = some (D.arr 64 .leaf (ints .u8 (pad (row (Pol.gcd a b)))))
theorem k_sGcd2 (hT : T F2x = some Z2x) (hdg : K_sDeg (den T A)) (hb : K_sBezout (den T A)) : K_sGcd2 (den T A) := by
 intro p i a b h0 hal hbl
 have e1 := hdg p a hal
 have e3 := hdg p b hbl
 have e2 := hb p a b (.inr h0) hal hbl
 have hp := Pol.len_pos h0
 have hge : ¬ ((b.len : Int) - 1 < 0) := by omega
 refine ask_of hT rfl ?_
 unfold Pol.gcd
 generalize pad (row (Pol.bezout a b).1) = P1 at *
 generalize pad (row (Pol.bezout a b).2.1) = P2 at *
 generalize pad (row (Pol.bezout a b).2.2) = P3 at *
 generalize pad (row a) = Pa at *
 generalize pad (row b) = Pb at *
 generalize (b.len : Int) - 1 = n2 at *
 generalize (a.len : Int) - 1 = n1 at *
 by_cases h : n1 < 0
 ·simp -implicitDefEqProofs [Z2x, Z2x_B, dn_cond, e1, e2, e3, hge, h, List.replicate]
 ·simp -implicitDefEqProofs [Z2x, Z2x_B, dn_cond, e1, e2, h, List.replicate]
open Classical in
def K_sUnit (O : Oracle) : Prop := ∀ (p : Int) [IsP p] (X M : Fp p), M ≠ 0 → X.len ≤ 64 → M.len ≤ 64 → ask O F3o [(D.int .i64 p), (D.arr 64 .leaf (ints .u8 (pad (row X)))), (D.arr 64 .leaf (ints .u8 (pad (row M))))] = some (D.bool (decide (Un M X)))
open Classical in
theorem k_sUnit (hT : T F3o = some Z3o) (hg : K_sGcd2 (den T A)) (h1 : K_sOne (den T A)) : K_sUnit (den T A) := by
 intro p ip X M hM hX hl
 have e1 := hg p X M hM hX hl
 have e2 := h1 p
 have hgl := (Pol.gcd_dv_right (a := X) (b := M) (.inr hM)).len hM
 have hone : (1 : Fp p).len = 1 := Pol.len_one
 have e3 : D.beq (.arr 64 .leaf .int) (D.arr 64 .leaf (ints .u8 (pad (row (Pol.gcd X M))))) (D.arr 64 .leaf (ints .u8 (pad (row (1 : Fp p))))) = some (decide (Un M X)) := by
  rw [beq_P (pad_length _) (pad_length _)]
  congr 1
  exact decide_eq_decide.2 (pad_row_inj (by omega) (by omega))
 refine ask_of hT rfl ?_
 generalize decide (Un M X) = b at *
 generalize pad (row (Pol.gcd X M)) = Pg at *
 generalize pad (row (1 : Fp p)) = P1 at *
 generalize pad (row X) = Px at *
 generalize pad (row M) = Pm at *
 simp -implicitDefEqProofs [Z3o, Z3o_B, e1, e2, e3]
theorem un_ne {p : Int} [IsP p] {M X : Fp p} (h2 : 2 ≤ M.len) (h : Un M X) : X ≠ 0 := by
 rintro rfl
 have hM : M ≠ 0 := fun h0 => by rw [h0, Pol.len_zero] at h2; omega
 have h3 := Pol.dv_gcd (.inr hM) (Dv.zero M) (Dv.refl M)
 rw [show Pol.gcd 0 M = 1 from h] at h3
 have h4 := h3.len Pol.one_ne
 rw [Pol.len_one] at h4
 omega
def K_sInvU (O : Oracle) : Prop := ∀ (p : Int) [IsP p] (X M : Fp p), 2 ≤ M.len → M.len ≤ 63 → X.len ≤ 64 → Un M X → ask O F3i [(D.int .i64 p), (D.arr 64 .leaf (ints .u8 (pad (row X)))), (D.arr 64 .leaf (ints .u8 (pad (row M))))] = some (D.arr 64 .leaf (ints .u8 (pad (row (invm M X)))))
theorem k_sInvU (hT : T F3i = some Z3i) (hmo : K_sMod (den T A)) (hb : K_sBezout (den T A)) : K_sInvU (den T A) := by
 intro p ip X M h2 h63 hX hu
 have hM : M ≠ 0 := fun h0 => by rw [h0, Pol.len_zero] at h2; omega
 have hu' := (un_mod hM).2 hu
 have hml := Pol.len_mod X hM
 have e1 := hmo p X M hM hX (by omega)
 have e2 := hb p (X % M) M (.inr hM) (by omega) (by omega)
 have e3 := hmo p (Pol.bezout (X % M) M).2.1 M hM (bez_64 (un_ne h2 hu') h63) (by omega)
 rw [show (Pol.bezout (X % M) M).2.1 % M = invm M (X % M) from rfl, invm_mod hM hu] at e3
 refine ask_of hT rfl ?_
 generalize pad (row (invm M X)) = R at *
 generalize pad (row (Pol.bezout (X % M) M).1) = R1 at *
 generalize pad (row (Pol.bezout (X % M) M).2.1) = R2 at *
 generalize pad (row (Pol.bezout (X % M) M).2.2) = R3 at *
 generalize pad (row (X % M)) = Pa at *
 generalize pad (row X) = Px at *
 generalize pad (row M) = Pm at *
 simp -implicitDefEqProofs [Z3i, Z3i_B, e1, e2, e3, List.replicate]
open Classical in
theorem k_sInverseModulo (hT : T F2i = some Z2i) (hmc : C_sModulus (den T A)) (hu1 : K_sUnit (den T A)) (hin : K_sInvU (den T A)) : K_InverseModulo (den T A) F2i := by
 intro p a m ha gla hm glm
 have e1 := hmc p m [a] hm glm (fun x hx => by simp at hx; subst hx; exact ⟨gla, ha⟩) (by simp)
 rw [show [a].map arr8 = [(D.arr 64 .leaf (ints .u8 a))] from rfl] at e1
 by_cases h0 : modC p m [a] = 0
 ·have h0' := h0
  rw [h0] at e1
  obtain ⟨ip, M, X, rfl, rfl, hM, h2, h6, hX⟩ := mod_ok ha gla h0
  have e2 := hu1 p X M hM.2 hX (by omega)
  by_cases hu : Un M X
  ·rw [ivD_unit h0' (by omega) hX hu]
   rw [decide_eq_true hu] at e2
   have e3 := hin p X M h2 (by omega) hX hu
   refine ask_of hT rfl ?_
   generalize pad (row (invm M X)) = Pi at *
   generalize pad (row X) = Px at *
   generalize pad (row M) = Pm at *
   simp -implicitDefEqProofs [Z2i, Z2i_B, dn_cond, e1, e2, e3, List.replicate]
  ·rw [ivD_not h0' (by omega) hX hu]
   rw [decide_eq_false hu] at e2
   refine ask_of hT rfl ?_
   generalize pad (row X) = Px at *
   generalize pad (row M) = Pm at *
   simp -implicitDefEqProofs [Z2i, Z2i_B, dn_cond, e1, e2, List.replicate]
 ·rw [ivD_bad h0]
  refine ask_of hT rfl ?_
  generalize modC p m [a] = c at *
  simp -implicitDefEqProofs [Z2i, Z2i_B, dn_cond, e1, h0, List.replicate]
open Classical in
theorem k_sOrderModulo (hT : T F2k = some Z2k) (hmc : C_sModulus (den T A)) (hu1 : K_sUnit (den T A)) (hfa : K_fac (den T A)) (hor : K_sOrder (den T A)) : K_OrderModulo (den T A) F2k := by
 intro p a m ha gla hm glm
 have e1 := hmc p m [a] hm glm (fun x hx => by simp at hx; subst hx; exact ⟨gla, ha⟩) (by simp)
 rw [show [a].map arr8 = [(D.arr 64 .leaf (ints .u8 a))] from rfl] at e1
 by_cases h0 : modC p m [a] = 0
 ·have h0' := h0
  rw [h0] at e1
  obtain ⟨ip, M, X, rfl, rfl, hM, h2, h6, hX⟩ := mod_ok ha gla h0
  have e2 := hu1 p X M hM.2 hX (by omega)
  by_cases hu : Un M X
  ·rw [orD_unit h0' (by omega) hX hu]
   rw [decide_eq_true hu] at e2
   obtain ⟨hf, -, -⟩ := hfa p M hM.2 (by omega)
   obtain ⟨n1, n2, n3⟩ := ordN_ok hM (by omega) hf hu
   obtain ⟨b1, b2⟩ := eul_bounds hM hf
   have hpb := ppow_le (p := p) (n := 5) (by omega)
   have hmono := ipow_mono (p := p) (by have := IsP.pos (p := p); omega) (show M.len - 1 ≤ 5 by omega)
   have he := eul_N M
   have e3 := hor p X M (ordN M X) hM.2 h2 (by omega) hX n2 (by omega) (by omega) (by rw [he, Int.toNat_natCast]; exact n3)
   refine ask_of hT rfl ?_
   generalize ordN M X = n at *
   generalize pad (row X) = Px at *
   generalize pad (row M) = Pm at *
   simp -implicitDefEqProofs [Z2k, Z2k_B, dn_cond, e1, e2, e3, List.replicate]
  ·rw [orD_not h0' (by omega) hX hu]
   rw [decide_eq_false hu] at e2
   refine ask_of hT rfl ?_
   generalize pad (row X) = Px at *
   generalize pad (row M) = Pm at *
   simp -implicitDefEqProofs [Z2k, Z2k_B, dn_cond, e1, e2, List.replicate]
 ·rw [orD_bad h0]
  refine ask_of hT rfl ?_
  generalize modC p m [a] = c at *
  simp -implicitDefEqProofs [Z2k, Z2k_B, dn_cond, e1, h0, List.replicate]
end Pe

namespace Pe
open Go Gq
variable {T : Nat → Option Fn} {A : Oracle}
noncomputable def dgC (p : Int) (a : List Int) (lo hi : Int) : Int := if codeP p [a] ≠ 0 then 1 else if lo ≤ ((polOf p a).len : Int) - 1 ∧ ((polOf p a).len : Int) - 1 ≤ hi then 0 else 2
def C_degreeCode (O : Oracle) (F : Nat) : Prop := ∀ (p : Int) (a : List Int) (lo hi : Int), Bytes a → a.length = 64 → ask O F [(D.int .i64 p), (D.arr 64 .leaf (ints .u8 a)), (D.int .i64 lo), (D.int .i64 hi)] = some (D.int .i64 (dgC p a lo hi))
theorem c_degreeCode (hT : T Fh = some Zh) (hpc : C_polysCode (den T A)) (hro : K_rowOf (den T A)) (hdg : C_degree (den T A)) (hw : C_within (den T A)) : C_degreeCode (den T A) Fh := by
 intro p a lo hi ha gl
 have e1 := hpc p [a] (fun x hx => by simp at hx; subst hx; exact ⟨gl, ha⟩) (by simp)
 rw [show [a].map arr8 = [(D.arr 64 .leaf (ints .u8 a))] from rfl] at e1
 unfold dgC
 rcases codeP_01 p [a] with hc | hc
 ·rw [if_neg (by rw [hc]; omega)]
  rw [hc] at e1
  obtain ⟨ip, X, hX, rfl⟩ := codeP_zero' ha gl hc
  have e2 := hro p X hX
  have e3 := hdg (row X) (by rw [row_length]; omega)
  rw [row_length] at e3
  have e4 := hw ((X.len : Int) - 1) lo hi
  rw [polOf_pad hX]
  refine ask_of hT rfl ?_
  generalize (X.len : Int) - 1 = d at *
  generalize pad (row X) = Px at *
  generalize row X = Rx at *
  by_cases h : lo ≤ d ∧ d ≤ hi
  ·rw [decide_eq_true h] at e4
   rw [if_pos h]
   simp -implicitDefEqProofs [Zh, Zh_B, dn_cond, e1, e2, e3, e4, List.replicate]
  ·rw [decide_eq_false h] at e4
   rw [if_neg h]
   simp -implicitDefEqProofs [Zh, Zh_B, dn_cond, e1, e2, e3, e4, List.replicate]
 ·rw [if_pos (by rw [hc]; omega)]
  rw [hc] at e1
  refine ask_of hT rfl ?_
  simp -implicitDefEqProofs [Zh, Zh_B, dn_cond, e1, List.replicate]
theorem c_sDegree (hT : T F3e = some Z3e) (hpc : C_sCode (den T A)) (hdg : K_sDeg (den T A)) (hw : C_sIn (den T A)) : C_degreeCode (den T A) F3e := by
 intro p a lo hi ha gl
 have e1 := hpc p [a] (fun x hx => by simp at hx; subst hx; exact ⟨gl, ha⟩) (by simp)
 rw [show [a].map arr8 = [(D.arr 64 .leaf (ints .u8 a))] from rfl] at e1
 unfold dgC
 rcases codeP_01 p [a] with hc | hc
 ·rw [if_neg (by rw [hc]; omega)]
  rw [hc] at e1
  obtain ⟨ip, X, hX, rfl⟩ := codeP_zero' ha gl hc
  have e3 := hdg p X hX
  have e4 := hw ((X.len : Int) - 1) lo hi
  rw [polOf_pad hX]
  refine ask_of hT rfl ?_
  generalize (X.len : Int) - 1 = d at *
  generalize pad (row X) = Px at *
  by_cases h : lo ≤ d ∧ d ≤ hi
  ·rw [decide_eq_true h] at e4
   rw [if_pos h]
   simp -implicitDefEqProofs [Z3e, Z3e_B, dn_cond, e1, e3, e4, List.replicate]
  ·rw [decide_eq_false h] at e4
   rw [if_neg h]
   simp -implicitDefEqProofs [Z3e, Z3e_B, dn_cond, e1, e3, e4, List.replicate]
 ·rw [if_pos (by rw [hc]; omega)]
  rw [hc] at e1
  refine ask_of hT rfl ?_
  simp -implicitDefEqProofs [Z3e, Z3e_B, dn_cond, e1, List.replicate]
theorem dgC_zero {p : Int} {a : List Int} {lo hi : Int} (ha : Bytes a) (gl : a.length = 64) (h : dgC p a lo hi = 0) : ∃ (_ : IsP p) (X : Fp p), a = pad (row X) ∧ lo ≤ (X.len : Int) - 1 ∧ (X.len : Int) - 1 ≤ hi ∧ X.len ≤ 64 := by
 unfold dgC at h
 split at h
 ·cases h
 ·rename_i hc
  split at h
  ·rename_i h1
   obtain ⟨ip, X, hX, rfl⟩ := codeP_zero' ha gl (by simpa using hc)
   rw [polOf_pad hX] at h1
   exact ⟨ip, X, rfl, h1.1, h1.2, hX⟩
  ·cases h
open Classical in
noncomputable def euD (p : Int) (a : List Int) : D :=
 if dgC p a 1 12 = 0 then (if h : IsP p then haveI := h; .tup [(D.int .i64 (eul (polOf p a))), (D.int .i64 0)] else .tup [(D.int .i64 0), (D.int .i64 0)]) else .tup [(D.int .i64 0), (D.int .i64 (dgC p a 1 12))]
theorem euD_good {p : Int} [ip : IsP p] {X : Fp p} (h : dgC p (pad (row X)) 1 12 = 0) (hX : X.len ≤ 64) : euD p (pad (row X)) = .tup [(D.int .i64 (eul X)), (D.int .i64 0)] := by
 unfold euD
 rw [if_pos h, dif_pos ip, polOf_pad hX]
theorem euD_bad {p : Int} {a : List Int} (h : ¬ dgC p a 1 12 = 0) : euD p a = .tup [(D.int .i64 0), (D.int .i64 (dgC p a 1 12))] := by unfold euD; rw [if_neg h]
def K_EulerOf (O : Oracle) (F : Nat) : Prop := ∀ (p : Int) (a : List Int), Bytes a → a.length = 64 → ask O F [(D.int .i64 p), (D.arr 64 .leaf (ints .u8 a))] = some (euD p a)
theorem k_sEulerOf (hT : T F2h = some Z2h) (hdc : C_degreeCode (den T A) F3e) (he : K_sEuler (den T A)) : K_EulerOf (den T A) F2h := by
 intro p a ha gl
 have e1 := hdc p a 1 12 ha gl
 by_cases h : dgC p a 1 12 = 0
 ·have h' := h
  rw [h] at e1
  obtain ⟨ip, X, rfl, h1, h2, hX⟩ := dgC_zero ha gl h
  rw [euD_good h' hX]
  have e2 := he p X (fun h0 => by rw [h0, Pol.len_zero] at h1; omega) (by omega)
  refine ask_of hT rfl ?_
  generalize eul X = E at *
  generalize pad (row X) = Px at *
  simp -implicitDefEqProofs [Z2h, Z2h_B, dn_cond, e1, e2]
 ·rw [euD_bad h]
  refine ask_of hT rfl ?_
  generalize dgC p a 1 12 = c at *
  simp -implicitDefEqProofs [Z2h, Z2h_B, dn_cond, e1, h]
theorem l_eul0 {O : Oracle} {p norm : Int} {LD : List D} {n i : Nat} {k : Int} (hnm : 1 ≤ norm) : ∀ (r : Nat) (j out : Int), j + r = k → 0 ≤ j → k < 100000 → 0 ≤ out → out * norm ^ r ≤ 1000000000000 →
 dn O 0 (.loop Z5_L0) ⟨[(0, (.d (.int .i64 p))), (7, (.d (.int .i64 out))), (10, (.d (.int .i64 norm))), (20, .d (.sl facSh LD)), (21, (.d (.int .i64 n))), (22, (.d (.int .i64 i))), (37, (.d (.int .i64 k))), (38, (.d (.int .i64 j)))], [.hole, .hole]⟩ =
  some (.exit 2, ⟨[(0, (.d (.int .i64 p))), (7, (.d (.int .i64 (out * norm ^ r)))), (10, (.d (.int .i64 norm))), (20, .d (.sl facSh LD)), (21, (.d (.int .i64 n))), (22, (.d (.int .i64 i))), (37, (.d (.int .i64 k))), (38, (.d (.int .i64 k))), (39, (.d (.bool false)))], [.hole, .hole]⟩)
 | 0, j, out, hj, h0, hk, ho, hb => by
  obtain rfl : j = k := by omega
  rw [Int.pow_zero, Int.mul_one]
  refine dn_stop ?_
  simp -implicitDefEqProofs [Z5_L0, dn_cond]
 | r + 1, j, out, hj, h0, hk, ho, hb => by
  have hlt : j < k := by omega
  have w4 : IntKind.i64.wrap (j + 1) = j + 1 := w64 (by omega)
  have e : out * norm ^ (r + 1) = out * norm * norm ^ r := by rw [Int.pow_succ, Int.mul_comm (norm ^ r), Int.mul_assoc]
  rw [e] at hb ⊢
  have hpos : 1 ≤ norm ^ r := Int.pow_pos (by omega)
  have ho2 : 0 ≤ out * norm := Int.mul_nonneg ho (by omega)
  have hle : out * norm * 1 ≤ out * norm * norm ^ r := Int.mul_le_mul_of_nonneg_left hpos ho2
  have w1 : IntKind.i64.wrap (out * norm) = out * norm := w64 (by omega)
  refine dn_round ?_ (l_eul0 hnm r (j + 1) (out * norm) (by omega) (by omega) hk ho2 hb)
  simp -implicitDefEqProofs [Z5_L0, dn_cond, hlt, w1, w4]
theorem l_eul1 {O : Oracle} (hdg : C_degree O) (hno : C_norm O) {p : Int} [IsP p] {L : Facs p} (hL : ∀ x ∈ L, 1 ≤ x.2 ∧ 2 ≤ x.1.len ∧ x.1.len ≤ 13 ∧ x.2 ≤ 12) (hl : L.length ≤ 12) : ∀ (r i e : Nat) (out : Int), i + r = L.length → 0 ≤ out → out ≤ p ^ e → e + dgF (L.drop i) ≤ 12 →
 dn O 0 (.loop Z5_L1) ⟨[(0, (.d (.int .i64 p))), (7, (.d (.int .i64 out))), (20, .d (.sl facSh (L.map facD))), (21, (.d (.int .i64 L.length))), (22, (.d (.int .i64 i)))], [.hole, .hole]⟩ =
  some (.exit 0, ⟨[(0, (.d (.int .i64 p))), (7, (.d (.int .i64 (eulA p out (L.drop i))))), (20, .d (.sl facSh (L.map facD))), (21, (.d (.int .i64 L.length))), (22, (.d (.int .i64 L.length))), (23, (.d (.bool false)))], [.hole, .hole]⟩)
 | 0, i, e, out, hi, h0, h1, h2 => by
  obtain rfl : i = L.length := by omega
  rw [List.drop_length, show eulA p out [] = out from rfl]
  refine dn_stop ?_
  generalize L.map facD = LD at *
  simp -implicitDefEqProofs [Z5_L1, dn_cond]
 | r + 1, i, e, out, hi, h0, h1, h2 => by
  have hlt : i < L.length := by omega
  obtain ⟨q1, q2, q3, q4⟩ := hL _ (List.getElem_mem hlt)
  have hd : L.drop i = L[i] :: L.drop (i + 1) := List.drop_eq_getElem_cons hlt
  rw [hd] at h2 ⊢
  have hdg2 : dgF (L[i] :: L.drop (i + 1)) = L[i].2 * (L[i].1.len - 1) + dgF (L.drop (i + 1)) := rfl
  rw [hdg2] at h2
  obtain ⟨s1, s2, s3, s4⟩ := eul_step (p := p) (x := L[i]) q1 h0 h1 q2
  have hsm := ppow_le (p := p) (n := e + L[i].2 * (L[i].1.len - 1)) (by omega)
  have hge : L[i].1.len - 1 ≤ L[i].2 * (L[i].1.len - 1) := Nat.le_mul_of_pos_left _ q1
  have hsm2 := ppow_le (p := p) (n := e + (L[i].1.len - 1)) (by omega)
  have hsm3 := ppow_le (p := p) (n := L[i].1.len - 1) (by omega)
  have e1 := hdg (row L[i].1) (by rw [row_length]; omega)
  rw [row_length, show (L[i].1.len : Int) - 1 = ((L[i].1.len - 1 : Nat) : Int) by omega] at e1
  have e2 := hno p (L[i].1.len - 1) 1152921504606846976 (by omega) (by omega)
  rw [normL_eq _ _ (by omega) (by omega), Int.one_mul] at e2
  have hnm : 1 ≤ p ^ (L[i].1.len - 1) := Int.pow_pos (IsP.pos (p := p))
  have w1 : IntKind.i64.wrap (p ^ (L[i].1.len - 1) - 1) = p ^ (L[i].1.len - 1) - 1 := w64 (by omega)
  have w2 : IntKind.i64.wrap (out * (p ^ (L[i].1.len - 1) - 1)) = out * (p ^ (L[i].1.len - 1) - 1) := w64 (by omega)
  have w3 : IntKind.i64.wrap ((L[i].2 : Int) - 1) = ((L[i].2 - 1 : Nat) : Int) := (w64 (by omega)).trans (by omega)
  have w4 : IntKind.i64.wrap ((i : Int) + 1) = ((i + 1 : Nat) : Int) := (w64 (x := (i : Int) + 1) (by omega)).trans (by omega)
  have st := l_eul0 (O := O) (p := p) (LD := L.map facD) (n := L.length) (i := i) (k := ((L[i].2 - 1 : Nat) : Int)) hnm (L[i].2 - 1) 0 (out * (p ^ (L[i].1.len - 1) - 1)) (by omega) (by omega) (by omega) s3 (by omega)
  have ih := l_eul1 hdg hno hL hl r (i + 1) (e + L[i].2 * (L[i].1.len - 1)) _ (by omega) s1 s2 (by omega)
  rw [show eulA p out (L[i] :: L.drop (i + 1)) = eulA p (out * (p ^ (L[i].1.len - 1) - 1) * (p ^ (L[i].1.len - 1)) ^ (L[i].2 - 1)) (L.drop (i + 1)) from rfl]
  refine dn_round ?_ ih
  have hLD : (L.map facD).length = L.length := List.length_map ..
  have hx : ∀ h : i < (L.map facD).length, (L.map facD)[i]'h = .st [.leaf, .leaf] [(D.sl .leaf (ints .i64 (row L[i].1))), (D.int .i64 (L[i].2))] := fun h => by rw [List.getElem_map]
  have hlt' : (i : Int) < L.length := by omega
  generalize p ^ (L[i].1.len - 1) = N at *
  generalize ((L[i].2 - 1 : Nat) : Int) = k at *
  generalize ((L[i].1.len - 1 : Nat) : Int) = d at *
  generalize row L[i].1 = R at *
  generalize (L[i].2 : Int) = e2' at *
  generalize L.map facD = LD at *
  simp -implicitDefEqProofs [Z5_L1, dn_cond, hlt, hlt', hLD, hx, e1, e2, w1, w2, w3, w4, st]
theorem k_EulerOf (hT : T F5 = some Z5) (hdc : C_degreeCode (den T A) Fh) (hro : K_rowOf (den T A)) (hfa : K_fac (den T A)) (hdg : C_degree (den T A)) (hno : C_norm (den T A)) : K_EulerOf (den T A) F5 := by
 intro p a ha gl
 have e1 := hdc p a 1 12 ha gl
 by_cases h : dgC p a 1 12 = 0
 ·have h' := h
  rw [h] at e1
  obtain ⟨ip, X, rfl, h1, h2, hX⟩ := dgC_zero ha gl h
  rw [euD_good h' hX]
  have hX0 : X ≠ 0 := fun h0 => by rw [h0, Pol.len_zero] at h1; omega
  have e2 := hro p X hX
  obtain ⟨f1, f2, e3⟩ := hfa p X hX0 (by omega)
  obtain ⟨g1, g2⟩ := f1.small hX0 (by omega)
  have st := l_eul1 (O := den T A) hdg hno (L := fac X) (fun x hx => ⟨(g1 x hx).2.2.1, (g1 x hx).1, (g1 x hx).2.1, (g1 x hx).2.2.2⟩) f2 (fac X).length 0 0 1 (Nat.zero_add _) (by omega) (by rw [Int.pow_zero]; omega) (by rw [List.drop_zero]; omega)
  rw [show ((0 : Nat) : Int) = 0 from rfl, List.drop_zero, show eulA p 1 (fac X) = eul X from rfl] at st
  have hLD : ((fac X).map facD).length = (fac X).length := List.length_map ..
  refine ask_of hT rfl ?_
  generalize eul X = E at *
  generalize (fac X).map facD = LD at *
  generalize (fac X).length = n at *
  generalize pad (row X) = Px at *
  generalize row X = Rx at *
  simp -implicitDefEqProofs [Z5, Z5_B, dn_cond, e1, e2, e3, hLD, st]
 ·rw [euD_bad h]
  refine ask_of hT rfl ?_
  generalize dgC p a 1 12 = c at *
  simp -implicitDefEqProofs [Z5, Z5_B, dn_cond, e1, h]
end Pe

namespace Pe
open Go Gq
variable {T : Nat → Option Fn} {A : Oracle}
def C_big (O : Oracle) : Prop := ∀ L : List D, ask O F1n [.sl .leaf L] = some (D.bool (decide ((4096 : Int) < L.length)))
def C_isNumber (O : Oracle) : Prop := ∀ k : Int, ask O Fj [(D.int .i64 k)] = some (D.bool (decide (0 ≤ k ∧ k ≤ 1000000000000)))
theorem c_isNumber (hT : T Fj = some Zj) (hw : C_within (den T A)) : C_isNumber (den T A) := by
 intro k
 have e := hw k 0 1000000000000
 refine ask_of hT rfl ?_
 generalize decide (0 ≤ k ∧ k ≤ 1000000000000) = b at *
 simp -implicitDefEqProofs [Zj, Zj_B, e]
theorem two_code {p : Int} [IsP p] (a b : Fp p) : codeP p [pad (row a), pad (row b)] = 0 := codeP_good [a, b]
def K_PowerModulo (O : Oracle) : Prop := ∀ (p : Int) [IsP p] (X M : Fp p) (k : Int), X.len ≤ 64 → M ≠ 0 → M.len ≤ 64 → 0 ≤ k → k ≤ 1000000000000 → ask O F9 [(D.int .i64 p), (D.arr 64 .leaf (ints .u8 (pad (row X)))), (D.int .i64 k), (D.arr 64 .leaf (ints .u8 (pad (row M))))] = some (.tup [(D.arr 64 .leaf (ints .u8 (pad (row (pw X k.toNat % M))))), (D.int .i64 0)])
theorem k_PowerModulo (hT : T F9 = some Z9) (hpc : C_polysCode (den T A)) (hnu : C_isNumber (den T A)) (hro : K_rowOf (den T A)) (hpw : K_power (den T A)) (hto : C_told (den T A)) : K_PowerModulo (den T A) := by
 intro p ip X M k hX hM hl k0 k1
 have e1 := hpc p [pad (row X), pad (row M)] (fun x hx => by
  simp at hx
  rcases hx with rfl | rfl
  ·exact ⟨pad_length _, pad_bytes X⟩
  ·exact ⟨pad_length _, pad_bytes M⟩) (by simp)
 rw [two_code, show [pad (row X), pad (row M)].map arr8 = [(D.arr 64 .leaf (ints .u8 (pad (row X)))), (D.arr 64 .leaf (ints .u8 (pad (row M))))] from rfl] at e1
 have e2 := hnu k
 rw [decide_eq_true ⟨k0, k1⟩] at e2
 have e3 : D.beq (.arr 64 .leaf .int) (D.arr 64 .leaf (ints .u8 (pad (row M)))) (D.arr 64 .leaf (ints .u8 (pad []))) = some false := by
  rw [beq_P (pad_length _) (pad_length _), decide_eq_false]
  intro h
  rw [← row_zero (p := p)] at h
  exact hM ((pad_row_inj hl (by rw [Pol.len_zero]; omega)).1 h)
 have e4 := hro p X hX
 have e5 := hro p M hl
 have e6 := hpw p X k M hM (by omega) (by omega) k0 (by omega)
 have hml := Pol.len_mod (pw X k.toNat) hM
 have e7 := hto (row (pw X k.toNat % M)) (row_bytes _) (by rw [row_length]; omega)
 unfold toldD at e7
 rw [if_pos (by rw [row_length]; omega)] at e7
 refine ask_of hT rfl ?_
 generalize pad (row (pw X k.toNat % M)) = Pr at *
 generalize row (pw X k.toNat % M) = Rr at *
 generalize pad (row X) = Px at *
 generalize row X = Rx at *
 generalize pad (row M) = Pm at *
 generalize row M = Rm at *
 simp -implicitDefEqProofs [Z9, Z9_B, dn_cond, e1, e2, e3, e4, e5, e6, e7, List.replicate]
def K_DividePolys (O : Oracle) : Prop := ∀ (p : Int) [IsP p] (X M : Fp p), X.len ≤ 64 → M ≠ 0 → M.len ≤ 64 → ask O F4 [(D.int .i64 p), (D.arr 64 .leaf (ints .u8 (pad (row X)))), (D.arr 64 .leaf (ints .u8 (pad (row M))))] = some (.tup [(D.arr 64 .leaf (ints .u8 (pad (row (X / M))))), (D.arr 64 .leaf (ints .u8 (pad (row (X % M))))), (D.int .i64 0)])
theorem k_DividePolys (hT : T F4 = some Z4) (hpc : C_polysCode (den T A)) (hro : K_rowOf (den T A)) (hdv : K_divide (den T A)) (hpo : K_poly (den T A)) : K_DividePolys (den T A) := by
 intro p ip X M hX hM hl
 have e1 := hpc p [pad (row X), pad (row M)] (fun x hx => by
  simp at hx
  rcases hx with rfl | rfl
  ·exact ⟨pad_length _, pad_bytes X⟩
  ·exact ⟨pad_length _, pad_bytes M⟩) (by simp)
 rw [two_code, show [pad (row X), pad (row M)].map arr8 = [(D.arr 64 .leaf (ints .u8 (pad (row X)))), (D.arr 64 .leaf (ints .u8 (pad (row M))))] from rfl] at e1
 have e3 : D.beq (.arr 64 .leaf .int) (D.arr 64 .leaf (ints .u8 (pad (row M)))) (D.arr 64 .leaf (ints .u8 (pad []))) = some false := by
  rw [beq_P (pad_length _) (pad_length _), decide_eq_false]
  intro h
  rw [← row_zero (p := p)] at h
  exact hM ((pad_row_inj hl (by rw [Pol.len_zero]; omega)).1 h)
 have e4 := hro p X hX
 have e5 := hro p M hl
 have e6 := hdv p X M hM (by omega) (by omega)
 have hml := Pol.len_mod X hM
 have hdl := Pol.len_div_le X hM
 have e7 := hpo p (X / M) (by omega)
 have e8 := hpo p (X % M) (by omega)
 refine ask_of hT rfl ?_
 generalize pad (row (X / M)) = Pq at *
 generalize row (X / M) = Rq at *
 generalize pad (row (X % M)) = Pr at *
 generalize row (X % M) = Rr at *
 generalize pad (row X) = Px at *
 generalize row X = Rx at *
 generalize pad (row M) = Pm at *
 generalize row M = Rm at *
 simp -implicitDefEqProofs [Z4, Z4_B, dn_cond, e1, e3, e4, e5, e6, e7, e8, List.replicate]
theorem c_big (hT : T F1n = some Z1n) : C_big (den T A) := by
 intro L
 refine ask_of hT rfl ?_
 simp -implicitDefEqProofs [Z1n, Z1n_B]
theorem l_equal {O : Oracle} {a b : List Int} (hl : a.length = b.length) (hn : a.length < 1000000) : ∀ (r i : Nat), i + r = a.length → a.take i = b.take i →
 dn O 0 (.loop Z1u_L0) ⟨[(0, .d (D.sl .leaf (ints .i64 a))), (1, .d (D.sl .leaf (ints .i64 b))), (12, (.d (.int .i64 a.length))), (13, (.d (.int .i64 i)))], []⟩ =
  if a = b then some (.exit 0, ⟨[(0, .d (D.sl .leaf (ints .i64 a))), (1, .d (D.sl .leaf (ints .i64 b))), (12, (.d (.int .i64 a.length))), (13, (.d (.int .i64 a.length))), (14, (.d (.bool false)))], []⟩) else some (.ret, ⟨[(4, (.d (.bool false)))], []⟩)
 | 0, i, hi, ht => by
  obtain rfl : i = a.length := by omega
  rw [List.take_length, hl, List.take_length] at ht
  rw [if_pos ht]
  refine dn_stop ?_
  simp -implicitDefEqProofs [Z1u_L0, dn_cond]
 | r + 1, i, hi, ht => by
  have ha : i < a.length := by omega
  have hb : i < b.length := by omega
  have hi' : (i : Int) < a.length := by omega
  have w4 : IntKind.i64.wrap ((i : Int) + 1) = ((i + 1 : Nat) : Int) := (w64 (x := (i : Int) + 1) (by omega)).trans (by omega)
  by_cases h : a[i] = b[i]
  ·refine dn_round ?_ (l_equal hl hn r (i + 1) (by omega) (by rw [List.take_succ_eq_append_getElem ha, List.take_succ_eq_append_getElem hb, ht, h]))
   simp -implicitDefEqProofs [Z1u_L0, dn_cond, ha, hb, hi', h, w4]
  ·rw [if_neg (fun e => h (by subst e; rfl))]
   refine dn_back ?_
   simp -implicitDefEqProofs [Z1u_L0, dn_cond, ha, hb, hi', h]
def C_Equal (O : Oracle) : Prop := ∀ a b : List Int, a.length < 1000000 → ask O F1u [(D.sl .leaf (ints .i64 a)), (D.sl .leaf (ints .i64 b))] = some (D.bool (decide (a = b)))
theorem c_Equal (hT : T F1u = some Z1u) : C_Equal (den T A) := by
 intro a b hn
 by_cases hl : a.length = b.length
 ·have st := l_equal (O := den T A) hl hn a.length 0 (Nat.zero_add _) (by rw [List.take_zero, List.take_zero])
  rw [show ((0 : Nat) : Int) = 0 from rfl, hl] at st
  refine ask_of hT rfl ?_
  by_cases h : a = b
  ·rw [if_pos h] at st
   rw [decide_eq_true h]
   simp -implicitDefEqProofs [Z1u, Z1u_B, dn_cond, hl, st]
  ·rw [if_neg h] at st
   rw [decide_eq_false h]
   simp -implicitDefEqProofs [Z1u, Z1u_B, dn_cond, hl, st]
 ·rw [decide_eq_false (fun h => hl (by rw [h]))]
  have hl' : ¬ (a.length : Int) = (b.length : Int) := by omega
  refine ask_of hT rfl ?_
  simp -implicitDefEqProofs [Z1u, Z1u_B, dn_cond, hl, hl']
end Pe

namespace Pe
open Go Gq
variable {T : Nat → Option Fn} {A : Oracle}
theorem row_dec {p : Int} {a b : Fp p} [Decidable (row a = row b)] [Decidable (a = b)] : decide (row a = row b) = decide (a = b) := decide_eq_decide.2 ⟨fun h => by rw [← polOf_row a, ← polOf_row b, h], fun h => by rw [h]⟩
theorem pigeon : ∀ (N : Nat) (f : Nat → Nat), (∀ k, k ≤ N → f k < N) → ∃ i j, i < j ∧ j ≤ N ∧ f i = f j
 | 0, f, h => absurd (h 0 (Nat.le_refl 0)) (Nat.not_lt_zero _)
 | N + 1, f, h => by
  by_cases hx : ∃ i, i ≤ N ∧ f i = f (N + 1)
  ·obtain ⟨i, h1, h2⟩ := hx
   exact ⟨i, N + 1, by omega, Nat.le_refl _, h2⟩
  ·have hne : ∀ i, i ≤ N → f i ≠ f (N + 1) := fun i hi e => hx ⟨i, hi, e⟩
   have hv := h (N + 1) (Nat.le_refl _)
   obtain ⟨i, j, h1, h2, h3⟩ := pigeon N (fun k => if f (N + 1) < f k then f k - 1 else f k) fun k hk => by
    have h4 := h k (by omega)
    have h5 := hne k hk
    split <;> omega
   refine ⟨i, j, h1, by omega, ?_⟩
   have h4 := hne i (by omega)
   have h5 := hne j (by omega)
   split at h3 <;> split at h3 <;> omega
section
variable {p : Int} [IsP p]
def PLog (M X G : Fp p) (k : Nat) : Prop := pw G k % M = X % M
def IsLog (M X G : Fp p) (k : Nat) : Prop := k < p.toNat ^ (M.len - 1) ∧ PLog M X G k ∧ ∀ j, j < k → ¬ PLog M X G j
theorem IsLog.unique {M X G : Fp p} {j k : Nat} (hj : IsLog M X G j) (hk : IsLog M X G k) : j = k := by
 rcases Nat.lt_trichotomy j k with h | h | h
 ·exact absurd hj.2.1 (hk.2.2 j h)
 ·exact h
 ·exact absurd hk.2.1 (hj.2.2 k h)
theorem log_before {M X G : Fp p} (hM : M ≠ 0) (hl : M.len ≤ 13) (h : PLog M X G (p.toNat ^ (M.len - 1))) : ∃ j, j < p.toNat ^ (M.len - 1) ∧ PLog M X G j := by
 have hml := Pol.len_pos hM
 obtain ⟨i, j, h1, h2, h3⟩ := pigeon (p.toNat ^ (M.len - 1)) (fun k => (numOf (pw G k % M)).toNat) fun k _ => by
  have h4 := Pol.len_mod (pw G k) hM
  obtain ⟨h5, h5'⟩ := numOf_in (pw G k % M)
  have h6 := pow_nat (p := p) (M.len - 1)
  have h7 := ipow_mono (p := p) (by have := IsP.pos (p := p); omega) (show (pw G k % M).len ≤ M.len - 1 by omega)
  omega
 have h4 : pw G i % M = pw G j % M := by
  obtain ⟨a1, a1'⟩ := numOf_in (pw G i % M)
  obtain ⟨a2, a2'⟩ := numOf_in (pw G j % M)
  have l1 := Pol.len_mod (pw G i) hM
  have l2 := Pol.len_mod (pw G j) hM
  have b1 := ppow_le (p := p) (n := (pw G i % M).len) (by omega)
  have b2 := ppow_le (p := p) (n := (pw G j % M).len) (by omega)
  have e : numOf (pw G i % M) = numOf (pw G j % M) := by omega
  rw [← numP_numOf (a := pw G i % M) (by omega), ← numP_numOf (a := pw G j % M) (by omega), e]
 refine ⟨i + (p.toNat ^ (M.len - 1) - j), by omega, ?_⟩
 unfold PLog at h ⊢
 rw [← h]
 refine (Pol.mod_eq_iff hM).2 ?_
 have e := (Pol.mod_eq_iff hM).1 h4
 have e2 : p.toNat ^ (M.len - 1) = j + (p.toNat ^ (M.len - 1) - j) := by omega
 conv => rhs; rw [e2]
 rw [pw_add, pw_add, Quo.mk_mul, Quo.mk_mul, e]
end
section
variable {p : Int} [IsP p]
theorem log_next {M G : Fp p} (hM : M ≠ 0) (i : Nat) : (pw G i % M) * (G % M) % M = pw G (i + 1) % M := by
 refine (Pol.mod_eq_iff hM).2 ?_
 rw [Quo.mk_mul, Pol.mk_mod, Pol.mk_mod, ← Quo.mk_mul]
 rfl
open Classical in
theorem l_log {O : Oracle} (heq : C_Equal O) (hti : K_times O) (hre : K_rest O) {M X G : Fp p} (hM : M ≠ 0) (hl : M.len ≤ 64) {N : Nat} (hN : N < 1000000000) : ∀ (r i : Nat), i + r = N →
 (∃ k, i ≤ k ∧ k < N ∧ PLog M X G k ∧ (∀ j, i ≤ j → j < k → ¬ PLog M X G j) ∧ dn O 0 (.loop Z7_L0) ⟨[(0, (.d (.int .i64 p))), (11, .d (D.sl .leaf (ints .i64 (row M)))), (12, .d (D.sl .leaf (ints .i64 (row (X % M))))), (13, .d (D.sl .leaf (ints .i64 (row (G % M))))), (14, .d (D.sl .leaf (ints .i64 (row (pw G i % M))))), (41, (.d (.int .i64 N))), (42, (.d (.int .i64 i)))], [.hole, .hole, .hole, .hole, .hole]⟩ = some (.ret, ⟨[(8, (.d (.int .i64 k))), (9, (.d (.int .i64 0)))], [.hole, .hole, .hole, .hole, .hole]⟩)) ∨
 ((∀ j, i ≤ j → j < N → ¬ PLog M X G j) ∧ dn O 0 (.loop Z7_L0) ⟨[(0, (.d (.int .i64 p))), (11, .d (D.sl .leaf (ints .i64 (row M)))), (12, .d (D.sl .leaf (ints .i64 (row (X % M))))), (13, .d (D.sl .leaf (ints .i64 (row (G % M))))), (14, .d (D.sl .leaf (ints .i64 (row (pw G i % M))))), (41, (.d (.int .i64 N))), (42, (.d (.int .i64 i)))], [.hole, .hole, .hole, .hole, .hole]⟩ = some (.exit 0, ⟨[(0, (.d (.int .i64 p))), (11, .d (D.sl .leaf (ints .i64 (row M)))), (12, .d (D.sl .leaf (ints .i64 (row (X % M))))), (13, .d (D.sl .leaf (ints .i64 (row (G % M))))), (14, .d (D.sl .leaf (ints .i64 (row (pw G N % M))))), (41, (.d (.int .i64 N))), (42, (.d (.int .i64 N))), (43, (.d (.bool false)))], [.hole, .hole, .hole, .hole, .hole]⟩))
 | 0, i, hi => by
  obtain rfl : i = N := by omega
  refine .inr ⟨fun j h1 h2 => absurd h2 (by omega), dn_stop ?_⟩
  generalize row (pw G i % M) = R1
  generalize row (X % M) = R2
  generalize row (G % M) = R3
  generalize row M = R4
  simp -implicitDefEqProofs [Z7_L0, dn_cond]
 | r + 1, i, hi => by
  have hlt : i < N := by omega
  have hlt' : (i : Int) < N := by omega
  have w4 : IntKind.i64.wrap ((i : Int) + 1) = ((i + 1 : Nat) : Int) := (w64 (x := (i : Int) + 1) (by omega)).trans (by omega)
  have l1 := Pol.len_mod (pw G i) hM
  have l2 := Pol.len_mod G hM
  have e1 := heq (row (pw G i % M)) (row (X % M)) (by rw [row_length]; omega)
  rw [row_dec] at e1
  by_cases hp : PLog M X G i
  ·rw [decide_eq_true (show pw G i % M = X % M from hp)] at e1
   refine .inl ⟨i, Nat.le_refl _, hlt, hp, fun j h1 h2 => absurd h2 (by omega), dn_back ?_⟩
   generalize row (pw G i % M) = R1 at *
   generalize row (X % M) = R2 at *
   generalize row (G % M) = R3 at *
   generalize row M = R4 at *
   simp -implicitDefEqProofs [Z7_L0, dn_cond, hlt, hlt', e1]
  ·rw [decide_eq_false (show ¬ pw G i % M = X % M from hp)] at e1
   have e2 := hti p (pw G i % M) (G % M) (by omega) (by omega)
   have hpl : (pw G i % M * (G % M)).len < 5000 := by
    by_cases h0 : pw G i % M = 0
    ·rw [h0, Gq.zero_mul, Pol.len_zero]; omega
    ·by_cases h1 : G % M = 0
     ·rw [h1, Gq.mul_zero, Pol.len_zero]; omega
     ·have := Pol.len_mul h0 h1
      omega
   have e3 := hre p (pw G i % M * (G % M)) M hM hpl (by omega)
   rw [log_next hM] at e3
   have key : dn O 0 Z7_L0 ⟨[(0, (.d (.int .i64 p))), (11, .d (D.sl .leaf (ints .i64 (row M)))), (12, .d (D.sl .leaf (ints .i64 (row (X % M))))), (13, .d (D.sl .leaf (ints .i64 (row (G % M))))), (14, .d (D.sl .leaf (ints .i64 (row (pw G i % M))))), (41, (.d (.int .i64 N))), (42, (.d (.int .i64 i)))], [.hole, .hole, .hole, .hole, .hole]⟩ = some (.normal, ⟨[(0, (.d (.int .i64 p))), (11, .d (D.sl .leaf (ints .i64 (row M)))), (12, .d (D.sl .leaf (ints .i64 (row (X % M))))), (13, .d (D.sl .leaf (ints .i64 (row (G % M))))), (14, .d (D.sl .leaf (ints .i64 (row (pw G (i + 1) % M))))), (41, (.d (.int .i64 N))), (42, (.d (.int .i64 (((i + 1 : Nat) : Int)))))], [.hole, .hole, .hole, .hole, .hole]⟩) := by
    generalize row (pw G (i + 1) % M) = R5 at *
    generalize row (pw G i % M * (G % M)) = R6 at *
    generalize row (pw G i % M) = R1 at *
    generalize row (X % M) = R2 at *
    generalize row (G % M) = R3 at *
    generalize row M = R4 at *
    simp -implicitDefEqProofs [Z7_L0, dn_cond, hlt, hlt', e1, e2, e3, w4]
   rcases l_log heq hti hre (X := X) hM hl hN r (i + 1) (by omega) with ⟨k, h1, h2, h3, h4, h5⟩ | ⟨h1, h2⟩
   ·refine .inl ⟨k, by omega, h2, h3, fun j j1 j2 => ?_, dn_round key h5⟩
    rcases Nat.eq_or_lt_of_le j1 with rfl | h
    ·exact hp
    ·exact h4 j h j2
   ·refine .inr ⟨fun j j1 j2 => ?_, dn_round key h2⟩
    rcases Nat.eq_or_lt_of_le j1 with rfl | h
    ·exact hp
    ·exact h1 j h j2
end
open Classical in
noncomputable def lgD (p : Int) (a g m : List Int) : D :=
 if modC p m [a, g] = 0 then (if h : ∃ (_ : IsP p) (k : Nat), IsLog (polOf p m) (polOf p a) (polOf p g) k then .tup [(D.int .i64 ((h.choose_spec.choose : Nat))), (D.int .i64 0)] else .tup [(D.int .i64 0), (D.int .i64 4)]) else .tup [(D.int .i64 0), (D.int .i64 (modC p m [a, g]))]
theorem lgD_bad {p : Int} {a g m : List Int} (h : ¬ modC p m [a, g] = 0) : lgD p a g m = .tup [(D.int .i64 0), (D.int .i64 (modC p m [a, g]))] := by unfold lgD; rw [if_neg h]
section
variable {p : Int} [ip : IsP p] {M X G : Fp p}
theorem lgD_yes (h : modC p (pad (row M)) [pad (row X), pad (row G)] = 0) (hM : M.len ≤ 64) (hX : X.len ≤ 64) (hG : G.len ≤ 64) {k : Nat} (hk : IsLog M X G k) : lgD p (pad (row X)) (pad (row G)) (pad (row M)) = .tup [(D.int .i64 ((k : Nat))), (D.int .i64 0)] := by
 have hx : ∃ (_ : IsP p) (k : Nat), IsLog (polOf p (pad (row M))) (polOf p (pad (row X))) (polOf p (pad (row G))) k := ⟨ip, k, by rw [polOf_pad hM, polOf_pad hX, polOf_pad hG]; exact hk⟩
 unfold lgD
 rw [if_pos h, dif_pos hx]
 have hc := hx.choose_spec.choose_spec
 have hk' : IsLog (polOf p (pad (row M))) (polOf p (pad (row X))) (polOf p (pad (row G))) k := by rw [polOf_pad hM, polOf_pad hX, polOf_pad hG]; exact hk
 have := IsLog.unique hc hk'
 simp only [this]
theorem lgD_no (h : modC p (pad (row M)) [pad (row X), pad (row G)] = 0) (hM : M.len ≤ 64) (hX : X.len ≤ 64) (hG : G.len ≤ 64) (hk : ∀ k, ¬ IsLog M X G k) : lgD p (pad (row X)) (pad (row G)) (pad (row M)) = .tup [(D.int .i64 0), (D.int .i64 4)] := by
 unfold lgD
 rw [if_pos h, dif_neg]
 rintro ⟨_, k, hc⟩
 rw [polOf_pad hM, polOf_pad hX, polOf_pad hG] at hc
 exact hk k hc
end
theorem mod_ok2 {p : Int} {a g m : List Int} (ha : Bytes a) (gl : a.length = 64) (hg : Bytes g) (gg : g.length = 64) (h : modC p m [a, g] = 0) : ∃ (_ : IsP p) (M X G : Fp p), m = pad (row M) ∧ a = pad (row X) ∧ g = pad (row G) ∧ Monic M ∧ 2 ≤ M.len ∧ M.len ≤ 6 ∧ X.len ≤ 64 ∧ G.len ≤ 64 := by
 obtain ⟨ip, M, rfl, hM, h2, h6⟩ := modC_zero h
 have hc := modC_each h
 obtain ⟨_, X, hX, rfl⟩ := codeP_zero' ha gl (codeP_each hc (by simp))
 obtain ⟨_, G, hG, rfl⟩ := codeP_zero' hg gg (codeP_each hc (l := g) (by simp))
 exact ⟨ip, M, X, G, rfl, rfl, rfl, hM, h2, h6, hX, hG⟩
def K_LogarithmOf (O : Oracle) (F : Nat) : Prop := ∀ (p : Int) (a g m : List Int), Bytes a → a.length = 64 → Bytes g → g.length = 64 → Bytes m → m.length = 64 → ask O F [(D.int .i64 p), (D.arr 64 .leaf (ints .u8 a)), (D.arr 64 .leaf (ints .u8 g)), (D.arr 64 .leaf (ints .u8 m))] = some (lgD p a g m)
open Classical in
theorem k_LogarithmOf (hT : T F7 = some Z7) (hmc : H_modCode (den T A)) (hro : K_rowOf (den T A)) (hre : K_rest (den T A)) (hdg : C_degree (den T A)) (hno : C_norm (den T A)) (heq : C_Equal (den T A)) (hti : K_times (den T A)) : K_LogarithmOf (den T A) F7 := by
 intro p a g m ha gla hg glg hm glm
 have e1 := hmc p m [a, g] hm glm (fun x hx => by
  simp at hx
  rcases hx with rfl | rfl
  ·exact ⟨gla, ha⟩
  ·exact ⟨glg, hg⟩) (by simp) (by simp)
 rw [show [a, g].map arr8 = [(D.arr 64 .leaf (ints .u8 a)), (D.arr 64 .leaf (ints .u8 g))] from rfl, show [a, g].length = 2 from rfl] at e1
 by_cases h0 : modC p m [a, g] = 0
 ·have h0' := h0
  rw [h0] at e1
  obtain ⟨ip, M, X, G, rfl, rfl, rfl, hM, h2, h6, hX, hG⟩ := mod_ok2 ha gla hg glg h0
  have e2 := hro p M (by omega)
  have e3 := hro p X hX
  have e4 := hro p G hG
  have e5 := hre p X M hM.2 (by omega) (by omega)
  have e6 := hre p G M hM.2 (by omega) (by omega)
  have e7 := hdg (row M) (by rw [row_length]; omega)
  rw [row_length, show (M.len : Int) - 1 = ((M.len - 1 : Nat) : Int) by omega] at e7
  have hsm := ppow_le (p := p) (n := M.len - 1) (by omega)
  have e8 := hno p (M.len - 1) 1152921504606846976 (by omega) (by omega)
  have hpn := pow_nat (p := p) (M.len - 1)
  rw [normL_eq _ _ (by omega) (by omega), Int.one_mul, ← hpn] at e8
  have hpos := p_pow_pos (p := p) (M.len - 1)
  have hone : (1 : Fp p) % M = 1 := Pol.mod_small (by rw [Pol.len_one]; omega)
  have l2 := Pol.len_mod G hM.2
  have e9 := heq (row (1 : Fp p)) (row (X % M)) (by rw [row_length, Pol.len_one]; omega)
  rw [row_dec, row_one] at e9
  have hp6 : p ^ (M.len - 1) ≤ 16807 := by
   have h3 := ipow_mono (p := p) (by have := IsP.pos (p := p); omega) (show M.len - 1 ≤ 5 by omega)
   have h4 : p ^ 5 ≤ 16807 := by rcases IsP.h (p := p) with h | h | h | h <;> (subst h; decide)
   omega
  have hb1 : (0 : Int) < ((p.toNat ^ (M.len - 1) : Nat) : Int) := by omega
  by_cases hp0 : PLog M X G 0
  ·rw [lgD_yes h0' (by omega) hX hG ⟨hpos, hp0, fun j hj => absurd hj (by omega)⟩]
   have h1 : (1 : Fp p) = X % M := by
    have : pw G 0 % M = X % M := hp0
    rwa [show pw G 0 = 1 from rfl, hone] at this
   rw [decide_eq_true h1] at e9
   have st := dn_back (O := den T A) (np := 0) (c := Z7_L0) (s := ⟨[(0, (.d (.int .i64 p))), (11, .d (D.sl .leaf (ints .i64 (row M)))), (12, .d (D.sl .leaf (ints .i64 (row (X % M))))), (13, .d (D.sl .leaf (ints .i64 (row (G % M))))), (14, .sl 4 [] 0 1 (some 1)), (41, (.d (.int .i64 (((p.toNat ^ (M.len - 1) : Nat) : Int))))), (42, (.d (.int .i64 0)))], [.hole, .hole, .hole, .hole, .sl false .leaf [.int .i64 1]]⟩) (s1 := ⟨[(8, (.d (.int .i64 0))), (9, (.d (.int .i64 0)))], [.hole, .hole, .hole, .hole, .hole]⟩) (by
    generalize p.toNat ^ (M.len - 1) = N at *
    generalize row (X % M) = R2 at *
    generalize row (G % M) = R3 at *
    generalize row M = R4 at *
    rw [show ints .i64 [1] = [.int .i64 1] from rfl] at e9
    simp -implicitDefEqProofs [Z7_L0, dn_cond, hpos, hb1, e9])
   refine ask_of hT rfl ?_
   generalize p.toNat ^ (M.len - 1) = N at *
   generalize row (X % M) = R2 at *
   generalize row (G % M) = R3 at *
   generalize pad (row X) = Px at *
   generalize row X = Rx at *
   generalize pad (row G) = Pg at *
   generalize row G = Rg at *
   generalize pad (row M) = Pm at *
   generalize row M = R4 at *
   simp -implicitDefEqProofs [Z7, Z7_B, dn_cond, e1, e2, e3, e4, e5, e6, e7, e8, st, List.replicate, List.idxOf, List.findIdx, List.findIdx.go]
  ·have h1 : ¬ (1 : Fp p) = X % M := fun h => hp0 (by
    show pw G 0 % M = X % M
    rw [show pw G 0 = 1 from rfl, hone]; exact h)
   rw [decide_eq_false h1] at e9
   have e10 := hti p (1 : Fp p) (G % M) (by rw [Pol.len_one]; omega) (by omega)
   rw [Gq.one_mul, row_one] at e10
   have e11 := hre p (G % M) M hM.2 (by omega) (by omega)
   have hmm : G % M % M = pw G 1 % M := by
    rw [pw_1, Pol.mod_small l2]
   rw [hmm] at e11
   have w1 : IntKind.i64.wrap 1 = 1 := w64 (by omega)
   have st1 : dn (den T A) 0 Z7_L0 ⟨[(0, (.d (.int .i64 p))), (11, .d (D.sl .leaf (ints .i64 (row M)))), (12, .d (D.sl .leaf (ints .i64 (row (X % M))))), (13, .d (D.sl .leaf (ints .i64 (row (G % M))))), (14, .sl 4 [] 0 1 (some 1)), (41, (.d (.int .i64 (((p.toNat ^ (M.len - 1) : Nat) : Int))))), (42, (.d (.int .i64 0)))], [.hole, .hole, .hole, .hole, .sl false .leaf [.int .i64 1]]⟩ = some (.normal, ⟨[(0, (.d (.int .i64 p))), (11, .d (D.sl .leaf (ints .i64 (row M)))), (12, .d (D.sl .leaf (ints .i64 (row (X % M))))), (13, .d (D.sl .leaf (ints .i64 (row (G % M))))), (14, .d (D.sl .leaf (ints .i64 (row (pw G 1 % M))))), (41, (.d (.int .i64 (((p.toNat ^ (M.len - 1) : Nat) : Int))))), (42, (.d (.int .i64 1)))], [.hole, .hole, .hole, .hole, .hole]⟩) := by
    generalize p.toNat ^ (M.len - 1) = N at *
    generalize row (pw G 1 % M) = R5 at *
    generalize row (X % M) = R2 at *
    generalize row (G % M) = R3 at *
    generalize row M = R4 at *
    rw [show ints .i64 [1] = [.int .i64 1] from rfl] at e9 e10
    simp -implicitDefEqProofs [Z7_L0, dn_cond, hpos, hb1, e9, e10, e11, w1]
   have st2 := l_log (O := den T A) heq hti hre (M := M) (X := X) (G := G) hM.2 (by omega) (N := p.toNat ^ (M.len - 1)) (by omega) (p.toNat ^ (M.len - 1) - 1) 1 (by omega)
   rw [show ((1 : Nat) : Int) = 1 from rfl] at st2
   rcases st2 with ⟨k, k1, k2, k3, k4, k5⟩ | ⟨k1, k5⟩
   ·rw [lgD_yes h0' (by omega) hX hG ⟨k2, k3, fun j hj => by
     by_cases hj0 : j = 0
     ·rw [hj0]; exact hp0
     ·exact k4 j (by omega) hj⟩]
    have st := dn_round st1 k5
    refine ask_of hT rfl ?_
    generalize p.toNat ^ (M.len - 1) = N at *
    generalize row (X % M) = R2 at *
    generalize row (G % M) = R3 at *
    generalize pad (row X) = Px at *
    generalize row X = Rx at *
    generalize pad (row G) = Pg at *
    generalize row G = Rg at *
    generalize pad (row M) = Pm at *
    generalize row M = R4 at *
    simp -implicitDefEqProofs [Z7, Z7_B, dn_cond, e1, e2, e3, e4, e5, e6, e7, e8, st, List.replicate, List.idxOf, List.findIdx, List.findIdx.go]
   ·rw [lgD_no h0' (by omega) hX hG (fun k hk => by
     by_cases hj0 : k = 0
     ·rw [hj0] at hk; exact hp0 hk.2.1
     ·exact k1 k (by omega) hk.1 hk.2.1)]
    have st := dn_round st1 k5
    refine ask_of hT rfl ?_
    generalize row (pw G (p.toNat ^ (M.len - 1)) % M) = R7 at *
    generalize p.toNat ^ (M.len - 1) = N at *
    generalize row (X % M) = R2 at *
    generalize row (G % M) = R3 at *
    generalize pad (row X) = Px at *
    generalize row X = Rx at *
    generalize pad (row G) = Pg at *
    generalize row G = Rg at *
    generalize pad (row M) = Pm at *
    generalize row M = R4 at *
    simp -implicitDefEqProofs [Z7, Z7_B, dn_cond, e1, e2, e3, e4, e5, e6, e7, e8, st, List.replicate, List.idxOf, List.findIdx, List.findIdx.go]
 ·rw [lgD_bad h0]
  refine ask_of hT rfl ?_
  generalize modC p m [a, g] = c at *
  simp -implicitDefEqProofs [Z7, Z7_B, dn_cond, e1, h0, List.replicate, List.idxOf, List.findIdx, List.findIdx.go]
end Pe

namespace Pe
open Go Gq
variable {T : Nat → Option Fn} {A : Oracle}
section
variable {p : Int} [IsP p]
open Classical in
theorem l_slog {O : Oracle} (hdg : K_sDeg O) (hct : K_sCount O) (hmm : K_sMulMod O) {M X G : Fp p} (hM : M ≠ 0) (hl : M.len ≤ 12) : ∀ (r i : Nat), i + r = p.toNat ^ (M.len - 1) + 1 →
 (∃ k, i ≤ k ∧ k ≤ p.toNat ^ (M.len - 1) ∧ PLog M X G k ∧ (∀ j, i ≤ j → j < k → ¬ PLog M X G j) ∧ dn O 0 (.loop Z2j_L0) ⟨[(0, (.d (.int .i64 p))), (7, .ptr 2 []), (11, .ptr 4 []), (12, .ptr 5 []), (13, .ptr 6 []), (14, (.d (.int .i64 i)))], [.hole, .hole, .box false (D.arr 64 .leaf (ints .u8 (pad (row M)))), .hole, .box false (D.arr 64 .leaf (ints .u8 (pad (row (X % M))))), .box false (D.arr 64 .leaf (ints .u8 (pad (row (G % M))))), .box false (D.arr 64 .leaf (ints .u8 (pad (row (pw G i % M)))))]⟩ = some (.ret, ⟨[(8, (.d (.int .i64 k))), (9, (.d (.int .i64 0)))], [.hole, .hole, .hole, .hole, .hole, .hole, .hole]⟩)) ∨
 ((∀ j, i ≤ j → j ≤ p.toNat ^ (M.len - 1) → ¬ PLog M X G j) ∧ ∃ z : List Int, dn O 0 (.loop Z2j_L0) ⟨[(0, (.d (.int .i64 p))), (7, .ptr 2 []), (11, .ptr 4 []), (12, .ptr 5 []), (13, .ptr 6 []), (14, (.d (.int .i64 i)))], [.hole, .hole, .box false (D.arr 64 .leaf (ints .u8 (pad (row M)))), .hole, .box false (D.arr 64 .leaf (ints .u8 (pad (row (X % M))))), .box false (D.arr 64 .leaf (ints .u8 (pad (row (G % M))))), .box false (D.arr 64 .leaf (ints .u8 (pad (row (pw G i % M)))))]⟩ = some (.exit 0, ⟨[(0, (.d (.int .i64 p))), (7, .ptr 2 []), (11, .ptr 4 []), (12, .ptr 5 []), (13, .ptr 6 []), (14, (.d (.int .i64 (((p.toNat ^ (M.len - 1) + 1 : Nat) : Int))))), (38, (.d (.bool false)))], [.hole, .hole, .box false (D.arr 64 .leaf (ints .u8 (pad (row M)))), .hole, .box false (D.arr 64 .leaf (ints .u8 (pad (row (X % M))))), .box false (D.arr 64 .leaf (ints .u8 (pad (row (G % M))))), .box false (D.arr 64 .leaf (ints .u8 z))]⟩))
 | 0, i, hi => by
  obtain rfl : i = p.toNat ^ (M.len - 1) + 1 := by omega
  have hml := Pol.len_pos hM
  have hsm := ppow_le (p := p) (n := M.len - 1) (by omega)
  have hpn := pow_nat (p := p) (M.len - 1)
  have e1 := hdg p M (by omega)
  rw [show (M.len : Int) - 1 = ((M.len - 1 : Nat) : Int) by omega] at e1
  have e2 := hct p (M.len - 1) (by omega)
  rw [Int.min_eq_left (by omega), ← hpn] at e2
  have hno : ¬ (((p.toNat ^ (M.len - 1) + 1 : Nat) : Int) ≤ ((p.toNat ^ (M.len - 1) : Nat) : Int)) := by omega
  refine .inr ⟨fun j h1 h2 => absurd h2 (by omega), pad (row (pw G (p.toNat ^ (M.len - 1) + 1) % M)), dn_stop ?_⟩
  generalize pad (row (pw G (p.toNat ^ (M.len - 1) + 1) % M)) = R1 at *
  generalize ((p.toNat ^ (M.len - 1) + 1 : Nat) : Int) = N1 at *
  generalize ((p.toNat ^ (M.len - 1) : Nat) : Int) = N at *
  generalize pad (row (X % M)) = R2 at *
  generalize pad (row (G % M)) = R3 at *
  generalize pad (row M) = R4 at *
  simp -implicitDefEqProofs [Z2j_L0, dn_cond, e1, e2, hno]
 | r + 1, i, hi => by
  have hml := Pol.len_pos hM
  have hsm := ppow_le (p := p) (n := M.len - 1) (by omega)
  have hpn := pow_nat (p := p) (M.len - 1)
  have e1 := hdg p M (by omega)
  rw [show (M.len : Int) - 1 = ((M.len - 1 : Nat) : Int) by omega] at e1
  have e2 := hct p (M.len - 1) (by omega)
  rw [Int.min_eq_left (by omega), ← hpn] at e2
  have hle : (i : Int) ≤ ((p.toNat ^ (M.len - 1) : Nat) : Int) := by omega
  have w4 : IntKind.i64.wrap ((i : Int) + 1) = ((i + 1 : Nat) : Int) := (w64 (x := (i : Int) + 1) (by omega)).trans (by omega)
  have l1 := Pol.len_mod (pw G i) hM
  have l2 := Pol.len_mod G hM
  have l3 := Pol.len_mod X hM
  have e3 : D.beq (.arr 64 .leaf .int) (D.arr 64 .leaf (ints .u8 (pad (row (pw G i % M))))) (D.arr 64 .leaf (ints .u8 (pad (row (X % M))))) = some (decide (pw G i % M = X % M)) := by
   rw [beq_P (pad_length _) (pad_length _)]
   congr 1
   exact decide_eq_decide.2 (pad_row_inj (by omega) (by omega))
  by_cases hp : PLog M X G i
  ·rw [decide_eq_true (show pw G i % M = X % M from hp)] at e3
   refine .inl ⟨i, Nat.le_refl _, by omega, hp, fun j h1 h2 => absurd h2 (by omega), dn_back ?_⟩
   generalize ((p.toNat ^ (M.len - 1) : Nat) : Int) = N at *
   generalize pad (row (pw G i % M)) = R1 at *
   generalize pad (row (X % M)) = R2 at *
   generalize pad (row (G % M)) = R3 at *
   generalize pad (row M) = R4 at *
   simp -implicitDefEqProofs [Z2j_L0, dn_cond, e1, e2, e3, hle]
  ·rw [decide_eq_false (show ¬ pw G i % M = X % M from hp)] at e3
   have e4 := hmm p (pw G i % M) (G % M) M hM (by omega) (by omega) (by omega)
   rw [log_next hM] at e4
   have key : dn O 0 Z2j_L0 ⟨[(0, (.d (.int .i64 p))), (7, .ptr 2 []), (11, .ptr 4 []), (12, .ptr 5 []), (13, .ptr 6 []), (14, (.d (.int .i64 i)))], [.hole, .hole, .box false (D.arr 64 .leaf (ints .u8 (pad (row M)))), .hole, .box false (D.arr 64 .leaf (ints .u8 (pad (row (X % M))))), .box false (D.arr 64 .leaf (ints .u8 (pad (row (G % M))))), .box false (D.arr 64 .leaf (ints .u8 (pad (row (pw G i % M)))))]⟩ = some (.normal, ⟨[(0, (.d (.int .i64 p))), (7, .ptr 2 []), (11, .ptr 4 []), (12, .ptr 5 []), (13, .ptr 6 []), (14, (.d (.int .i64 (((i + 1 : Nat) : Int)))))], [.hole, .hole, .box false (D.arr 64 .leaf (ints .u8 (pad (row M)))), .hole, .box false (D.arr 64 .leaf (ints .u8 (pad (row (X % M))))), .box false (D.arr 64 .leaf (ints .u8 (pad (row (G % M))))), .box false (D.arr 64 .leaf (ints .u8 (pad (row (pw G (i + 1) % M)))))]⟩) := by
    generalize ((p.toNat ^ (M.len - 1) : Nat) : Int) = N at *
    generalize pad (row (pw G (i + 1) % M)) = R5 at *
    generalize pad (row (pw G i % M)) = R1 at *
    generalize pad (row (X % M)) = R2 at *
    generalize pad (row (G % M)) = R3 at *
    generalize pad (row M) = R4 at *
    simp -implicitDefEqProofs [Z2j_L0, dn_cond, e1, e2, e3, e4, hle, w4]
   rcases l_slog hdg hct hmm (X := X) hM hl r (i + 1) (by omega) with ⟨k, h1, h2, h3, h4, h5⟩ | ⟨h1, z, h2⟩
   ·refine .inl ⟨k, by omega, h2, h3, fun j j1 j2 => ?_, dn_round key h5⟩
    rcases Nat.eq_or_lt_of_le j1 with rfl | h
    ·exact hp
    ·exact h4 j h j2
   ·refine .inr ⟨fun j j1 j2 => ?_, z, dn_round key h2⟩
    rcases Nat.eq_or_lt_of_le j1 with rfl | h
    ·exact hp
    ·exact h1 j h j2
end
open Classical in
theorem k_sLogarithmOf (hT : T F2j = some Z2j) (hmc : C_sModulus (den T A)) (hmo : K_sMod (den T A)) (h1 : K_sOne (den T A)) (hdg : K_sDeg (den T A)) (hct : K_sCount (den T A)) (hmm : K_sMulMod (den T A)) : K_LogarithmOf (den T A) F2j := by
 intro p a g m ha gla hg glg hm glm
 have e1 := hmc p m [a, g] hm glm (fun x hx => by
  simp at hx
  rcases hx with rfl | rfl
  ·exact ⟨gla, ha⟩
  ·exact ⟨glg, hg⟩) (by simp)
 rw [show [a, g].map arr8 = [(D.arr 64 .leaf (ints .u8 a)), (D.arr 64 .leaf (ints .u8 g))] from rfl] at e1
 by_cases h0 : modC p m [a, g] = 0
 ·have h0' := h0
  rw [h0] at e1
  obtain ⟨ip, M, X, G, rfl, rfl, rfl, hM, h2, h6, hX, hG⟩ := mod_ok2 ha gla hg glg h0
  have e2 := hmo p X M hM.2 hX (by omega)
  have e3 := hmo p G M hM.2 hG (by omega)
  have e4 := h1 p
  have hone : (1 : Fp p) % M = 1 := Pol.mod_small (by rw [Pol.len_one]; omega)
  have h10 : (1 : Fp p) = pw G 0 % M := by rw [show pw G 0 = 1 from rfl, hone]
  rw [h10] at e4
  rcases l_slog (O := den T A) hdg hct hmm (M := M) (X := X) (G := G) hM.2 (by omega) (p.toNat ^ (M.len - 1) + 1) 0 (Nat.zero_add _) with ⟨k, k1, k2, k3, k4, st⟩ | ⟨k1, z, st⟩
  ·rw [show ((0 : Nat) : Int) = 0 from rfl] at st
   have hkN : k < p.toNat ^ (M.len - 1) := by
    rcases Nat.eq_or_lt_of_le k2 with hk | hk
    ·obtain ⟨j, j1, j2⟩ := log_before hM.2 (by omega) (hk ▸ k3)
     exact absurd j2 (k4 j (Nat.zero_le _) (by omega))
    ·exact hk
   rw [lgD_yes h0' (by omega) hX hG ⟨hkN, k3, fun j hj => k4 j (Nat.zero_le _) hj⟩]
   refine ask_of hT rfl ?_
   generalize pad (row (pw G 0 % M)) = R1 at *
   generalize pad (row (X % M)) = R2 at *
   generalize pad (row (G % M)) = R3 at *
   generalize pad (row X) = Px at *
   generalize pad (row G) = Pg at *
   generalize pad (row M) = Pm at *
   simp -implicitDefEqProofs [Z2j, Z2j_B, dn_cond, e1, e2, e3, e4, st, List.replicate]
  ·rw [show ((0 : Nat) : Int) = 0 from rfl] at st
   rw [lgD_no h0' (by omega) hX hG (fun k hk => k1 k (Nat.zero_le _) (by have := hk.1; omega) hk.2.1)]
   refine ask_of hT rfl ?_
   generalize ((p.toNat ^ (M.len - 1) + 1 : Nat) : Int) = N1 at *
   generalize pad (row (pw G 0 % M)) = R1 at *
   generalize pad (row (X % M)) = R2 at *
   generalize pad (row (G % M)) = R3 at *
   generalize pad (row X) = Px at *
   generalize pad (row G) = Pg at *
   generalize pad (row M) = Pm at *
   simp -implicitDefEqProofs [Z2j, Z2j_B, dn_cond, e1, e2, e3, e4, st, List.replicate]
 ·rw [lgD_bad h0]
  refine ask_of hT rfl ?_
  generalize modC p m [a, g] = c at *
  simp -implicitDefEqProofs [Z2j, Z2j_B, dn_cond, e1, h0, List.replicate]
end Pe

namespace Pe
open Go Gq
variable {T : Nat → Option Fn} {A : Oracle}
theorem mod_code {p : Int} [IsP p] {M X : Fp p} (hM : Monic M) (h2 : 2 ≤ M.len) (h6 : M.len ≤ 6) : modC p (pad (row M)) [pad (row X)] = 0 := by
 classical
 rw [modC_good (by omega) (show codeP p ([pad (row X)] ++ [pad (row M)]) = 0 from two_code X M), if_pos ⟨hM, h2, h6⟩]
theorem deg_code {p : Int} [IsP p] {M : Fp p} (h2 : 2 ≤ M.len) (h6 : M.len ≤ 6) : dgC p (pad (row M)) 1 12 = 0 := by
 unfold dgC
 rw [if_neg (by rw [codeP_one]; simp), polOf_pad (by omega), if_pos (by omega)]
theorem euD_form (p : Int) (a : List Int) : ∃ x y : Int, euD p a = .tup [(D.int .i64 x), (D.int .i64 y)] := by
 unfold euD
 split
 ·split
  ·exact ⟨_, _, rfl⟩
  ·exact ⟨_, _, rfl⟩
 ·exact ⟨_, _, rfl⟩
theorem prD_cases {p : Int} {l : List Int} (hl : Arr l) (hfa : ∀ (_ : IsP p) (M : Fp p), M ≠ 0 → M.len ≤ 13 → IsFac M (fac M)) : (∃ (r : List Int) (E : Int), prD p l = .tup [(D.arr 64 .leaf (ints .u8 r)), (D.int .i64 0)] ∧ Arr r ∧ orD p r l = .tup [(D.int .i64 E), (D.int .i64 0)] ∧ euD p l = .tup [(D.int .i64 E), (D.int .i64 0)]) ∨ (∃ (r : List Int) (c : Int), c ≠ 0 ∧ prD p l = .tup [(D.arr 64 .leaf (ints .u8 r)), (D.int .i64 c)] ∧ Arr r) := by
 by_cases h0 : modC p l [] = 0
 ·obtain ⟨ip, M, rfl, hM, h2, h6⟩ := modC_zero h0
  by_cases hi : Irr M
  ·obtain ⟨k, hk⟩ := isPrim_ex hi (by omega)
   have hnl := num_lenP hi h6 hk
   have hnl2 : (numP p (k : Int)).len ≤ M.len - 1 := by
    have h3 := ppow_le (p := p) (n := M.len - 1) (by omega)
    have hkb := hk.2.1
    exact Pol.len_le (numP_lt (p := p) (n := (k : Int)) ⟨by omega, by omega⟩ hkb)
   have hf := hfa ip M hM.2 (by omega)
   have he := eul_irr hi hM
   have heN := eul_N M
   have hpn := pow_nat (p := p) (M.len - 1)
   have hpos := p_pow_pos (p := p) (M.len - 1)
   have h1 : 1 ≤ p.toNat ^ (M.len - 1) - 1 := by
    have := (eul_bounds hM hf).1
    omega
   have hu : Un M (numP p k) := by
    have hne : numP p (k : Int) ≠ 0 := by
     intro h0
     have hs := hk.2.2.1.self
     rw [h0] at hs
     obtain ⟨n, hn⟩ : ∃ n, p.toNat ^ (M.len - 1) - 1 = n + 1 := ⟨p.toNat ^ (M.len - 1) - 2, by omega⟩
     rw [hn] at hs
     have hz : pw (Quo.mk M (0 : Fp p)) (n + 1) = 0 := by
      show pw (Quo.mk M (0 : Fp p)) n * Quo.mk M 0 = 0
      rw [show Quo.mk M (0 : Fp p) = 0 from rfl, Gq.mul_zero]
     rw [hz] at hs
     have hd : Dv M 1 := dv_iff_mk.2 (by rw [Quo.mk_one]; exact hs.symm)
     have := hd.len Pol.one_ne
     rw [Pol.len_one] at this
     omega
    have hg := Pol.gcd_dv_left (a := numP p (k : Int)) (b := M) (.inl hne)
    have hg2 := Pol.gcd_dv_right (a := numP p (k : Int)) (b := M) (.inl hne)
    have hgm := Pol.gcd_monic (a := numP p (k : Int)) (b := M) (.inl hne)
    rcases hi.dv hg2 with h | h
    ·exact hgm.eq_one h
    ·have h3 := hg.len hne
     omega
   obtain ⟨o1, o2, o3⟩ := ordN_ok hM (by omega) hf hu
   have ho := o2.unique hk.2.2.1
   refine .inl ⟨pad (row (numP p k)), eul M, prD_good hM h2 h6 hi hk, arr_row _, ?_, euD_good (deg_code h2 h6) (by omega)⟩
   rw [orD_unit (mod_code hM h2 h6) (by omega) (by omega) hu, ho]
   congr 3
   congr 1
   omega
  ·exact .inr ⟨_, 5, by omega, prD_red (by omega) h0 hi, ⟨pad_length _, fun x hx => by
    unfold pad at hx
    obtain ⟨a, _, rfl⟩ : ∃ a, a < 64 ∧ cf [] a = x := by simpa using hx
    rw [cf_ge (Nat.zero_le _)]
    omega⟩⟩
 ·exact .inr ⟨_, _, h0, prD_bad h0, ⟨pad_length _, fun x hx => by
   unfold pad at hx
   obtain ⟨a, _, rfl⟩ : ∃ a, a < 64 ∧ cf [] a = x := by simpa using hx
   rw [cf_ge (Nat.zero_le _)]
   omega⟩⟩
theorem lgD_cases {p : Int} {a g m : List Int} (ha : Arr a) (hg : Arr g) : (∃ (_ : IsP p) (M X G : Fp p) (k : Nat), m = pad (row M) ∧ a = pad (row X) ∧ g = pad (row G) ∧ Monic M ∧ 2 ≤ M.len ∧ M.len ≤ 6 ∧ X.len ≤ 64 ∧ G.len ≤ 64 ∧ IsLog M X G k ∧ lgD p a g m = .tup [(D.int .i64 ((k : Nat))), (D.int .i64 0)]) ∨ (∃ c : Int, c ≠ 0 ∧ lgD p a g m = .tup [(D.int .i64 0), (D.int .i64 c)]) := by
 classical
 by_cases h0 : modC p m [a, g] = 0
 ·obtain ⟨ip, M, X, G, rfl, rfl, rfl, hM, h2, h6, hX, hG⟩ := mod_ok2 ha.2 ha.1 hg.2 hg.1 h0
  by_cases hk : ∃ k, IsLog M X G k
  ·obtain ⟨k, hk⟩ := hk
   exact .inl ⟨ip, M, X, G, k, rfl, rfl, rfl, hM, h2, h6, hX, hG, hk, lgD_yes h0 (by omega) hX hG hk⟩
  ·exact .inr ⟨4, by omega, lgD_no h0 (by omega) hX hG fun k hk' => hk ⟨k, hk'⟩⟩
 ·exact .inr ⟨_, h0, lgD_bad h0⟩
theorem ivD_cases {p : Int} {a m : List Int} (ha : Arr a) : (∃ (_ : IsP p) (M X : Fp p), m = pad (row M) ∧ a = pad (row X) ∧ Monic M ∧ 2 ≤ M.len ∧ M.len ≤ 6 ∧ X.len ≤ 64 ∧ Un M X ∧ ivD p a m = .tup [(D.arr 64 .leaf (ints .u8 (pad (row (invm M X))))), (D.int .i64 0)] ∧ orD p a m = .tup [(D.int .i64 ((ordN M X : Nat))), (D.int .i64 0)]) ∨ (∃ c : Int, c ≠ 0 ∧ ivD p a m = .tup [(D.arr 64 .leaf (ints .u8 (pad []))), (D.int .i64 c)] ∧ orD p a m = .tup [(D.int .i64 0), (D.int .i64 c)]) := by
 classical
 by_cases h0 : modC p m [a] = 0
 ·obtain ⟨ip, M, X, rfl, rfl, hM, h2, h6, hX⟩ := mod_ok ha.2 ha.1 h0
  by_cases hu : Un M X
  ·exact .inl ⟨ip, M, X, rfl, rfl, hM, h2, h6, hX, hu, ivD_unit h0 (by omega) hX hu, orD_unit h0 (by omega) hX hu⟩
  ·exact .inr ⟨4, by omega, ivD_not h0 (by omega) hX hu, orD_not h0 (by omega) hX hu⟩
 ·exact .inr ⟨_, h0, ivD_bad h0, orD_bad h0⟩
theorem inv_inv {p : Int} [IsP p] {M X : Fp p} (hM : M ≠ 0) (h2 : 2 ≤ M.len) (h : Un M X) : Un M (invm M X) ∧ invm M (invm M X) = X % M := by
 have h1 := un_inv hM h
 have hone : ∀ c, Monic c → Dv c (invm M X) → Dv c M → c = 1 := fun c hc c1 c2 => by
  have h3 : Dv M (invm M X * X - 1) := by
   rw [dv_iff_mk, Quo.mk_sub, Quo.mk_mul, h1, Quo.mk_one]
   exact Gq.sub_self _
  have h4 : Dv c 1 := by
   have e : (1 : Fp p) = invm M X * X - (invm M X * X - 1) := ring_of [invm M X, X] rfl
   rw [e]
   exact (c1.mul_right _).sub (c2.trans h3)
  have h5 := h4.len Pol.one_ne
  rw [Pol.len_one] at h5
  have h6 := Pol.len_pos hc.2
  exact hc.eq_one (by omega)
 have hu : Un M (invm M X) := by
  have h0 : invm M X ≠ 0 ∨ M ≠ 0 := .inr hM
  exact hone _ (Pol.gcd_monic h0) (Pol.gcd_dv_left h0) (Pol.gcd_dv_right h0)
 refine ⟨hu, ?_⟩
 have h3 := un_inv hM hu
 have h4 : Quo.mk M X * Quo.mk M (invm M X) = 1 := by rw [Gq.mul_comm]; exact h1
 have e := inv_unique hM h3 h4
 rwa [Pol.mod_small (invm_len hM _)] at e
end Pe

namespace Pe
open Go Gq
variable {T : Nat → Option Fn} {A : Oracle}
def L_Residues (O : Oracle) : Prop := ∀ code : List Int, Bytes code → code.length ≤ 9223372036854775807 → ask O F1m [.sl .leaf (ints .u8 code)] = some (D.bool true)
theorem beq_same {l : List Int} (h : l.length = 64) : D.beq (.arr 64 .leaf .int) (D.arr 64 .leaf (ints .u8 l)) (D.arr 64 .leaf (ints .u8 l)) = some true := by
 rw [beq_P h h, decide_eq_true rfl]
theorem res_000 (hT : T F1m = some Z1m) {CD : List D} {p q r s ux uy lg E o F : Int} {a m n b g k c w z t v x y : List Int}
 (e0 : ask (den T A) F1n [.sl .leaf CD] = some (D.bool false))
 (d1 : ask (den T A) F2e [.sl .leaf CD] = some (.tup [(D.int .i64 p), (D.arr 64 .leaf (ints .u8 a)), (D.arr 64 .leaf (ints .u8 m))]))
 (d2 : ask (den T A) F2g [.sl .leaf CD] = some (.tup [(D.int .i64 q), (D.arr 64 .leaf (ints .u8 n))]))
 (d3 : ask (den T A) F2f [.sl .leaf CD] = some (.tup [(D.int .i64 r), (D.arr 64 .leaf (ints .u8 b)), (D.arr 64 .leaf (ints .u8 g)), (D.arr 64 .leaf (ints .u8 k))]))
 (d4 : ask (den T A) F2d [.sl .leaf CD] = some (.tup [(D.int .i64 s), (D.arr 64 .leaf (ints .u8 c))]))
 (u1 : ask (den T A) F5 [(D.int .i64 s), (D.arr 64 .leaf (ints .u8 c))] = some (.tup [(D.int .i64 ux), (D.int .i64 uy)]))
 (u2 : ask (den T A) F2h [(D.int .i64 s), (D.arr 64 .leaf (ints .u8 c))] = some (.tup [(D.int .i64 ux), (D.int .i64 uy)]))
 (q2 : D.beq (.arr 64 .leaf .int) (D.arr 64 .leaf (ints .u8 ((pad []).set 0 1))) (D.arr 64 .leaf (ints .u8 ((pad []).set 0 1))) = some true)
 (q7 : (pad [])[0]? = some 0)
 (l1 : ask (den T A) F7 [(D.int .i64 r), (D.arr 64 .leaf (ints .u8 b)), (D.arr 64 .leaf (ints .u8 g)), (D.arr 64 .leaf (ints .u8 k))] = some (.tup [(D.int .i64 lg), (D.int .i64 0)]))
 (l2 : ask (den T A) F2j [(D.int .i64 r), (D.arr 64 .leaf (ints .u8 b)), (D.arr 64 .leaf (ints .u8 g)), (D.arr 64 .leaf (ints .u8 k))] = some (.tup [(D.int .i64 lg), (D.int .i64 0)]))
 (lw : ask (den T A) F9 [(D.int .i64 r), (D.arr 64 .leaf (ints .u8 g)), (D.int .i64 lg), (D.arr 64 .leaf (ints .u8 k))] = some (.tup [(D.arr 64 .leaf (ints .u8 w)), (D.int .i64 0)]))
 (lz : ask (den T A) F4 [(D.int .i64 r), (D.arr 64 .leaf (ints .u8 b)), (D.arr 64 .leaf (ints .u8 k))] = some (.tup [(D.arr 64 .leaf (ints .u8 z)), (D.arr 64 .leaf (ints .u8 w)), (D.int .i64 0)]))
 (q3 : D.beq (.arr 64 .leaf .int) (D.arr 64 .leaf (ints .u8 w)) (D.arr 64 .leaf (ints .u8 w)) = some true)
 (p1 : ask (den T A) Fa [(D.int .i64 q), (D.arr 64 .leaf (ints .u8 n))] = some (.tup [(D.arr 64 .leaf (ints .u8 t)), (D.int .i64 0)]))
 (p2 : ask (den T A) F2l [(D.int .i64 q), (D.arr 64 .leaf (ints .u8 n))] = some (.tup [(D.arr 64 .leaf (ints .u8 t)), (D.int .i64 0)]))
 (po : ask (den T A) F8 [(D.int .i64 q), (D.arr 64 .leaf (ints .u8 t)), (D.arr 64 .leaf (ints .u8 n))] = some (.tup [(D.int .i64 E), (D.int .i64 0)]))
 (pe : ask (den T A) F5 [(D.int .i64 q), (D.arr 64 .leaf (ints .u8 n))] = some (.tup [(D.int .i64 E), (D.int .i64 0)]))
 (q4 : D.beq (.arr 64 .leaf .int) (D.arr 64 .leaf (ints .u8 t)) (D.arr 64 .leaf (ints .u8 t)) = some true)
 (i1 : ask (den T A) F6 [(D.int .i64 p), (D.arr 64 .leaf (ints .u8 a)), (D.arr 64 .leaf (ints .u8 m))] = some (.tup [(D.arr 64 .leaf (ints .u8 v)), (D.int .i64 0)]))
 (i2 : ask (den T A) F2i [(D.int .i64 p), (D.arr 64 .leaf (ints .u8 a)), (D.arr 64 .leaf (ints .u8 m))] = some (.tup [(D.arr 64 .leaf (ints .u8 v)), (D.int .i64 0)]))
 (o1 : ask (den T A) F8 [(D.int .i64 p), (D.arr 64 .leaf (ints .u8 a)), (D.arr 64 .leaf (ints .u8 m))] = some (.tup [(D.int .i64 o), (D.int .i64 0)]))
 (o2 : ask (den T A) F2k [(D.int .i64 p), (D.arr 64 .leaf (ints .u8 a)), (D.arr 64 .leaf (ints .u8 m))] = some (.tup [(D.int .i64 o), (D.int .i64 0)]))
 (g1 : ask (den T A) F6 [(D.int .i64 p), (D.arr 64 .leaf (ints .u8 v)), (D.arr 64 .leaf (ints .u8 m))] = some (.tup [(D.arr 64 .leaf (ints .u8 x)), (D.int .i64 0)]))
 (g2 : ask (den T A) F4 [(D.int .i64 p), (D.arr 64 .leaf (ints .u8 a)), (D.arr 64 .leaf (ints .u8 m))] = some (.tup [(D.arr 64 .leaf (ints .u8 y)), (D.arr 64 .leaf (ints .u8 x)), (D.int .i64 0)]))
 (g3 : ask (den T A) F5 [(D.int .i64 p), (D.arr 64 .leaf (ints .u8 m))] = some (.tup [(D.int .i64 F), (D.int .i64 0)]))
 (g4 : ask (den T A) F9 [(D.int .i64 p), (D.arr 64 .leaf (ints .u8 a)), (D.int .i64 F), (D.arr 64 .leaf (ints .u8 m))] = some (.tup [(D.arr 64 .leaf (ints .u8 ((pad []).set 0 1))), (D.int .i64 0)]))
 (o0 : o ≠ 0)
 (hm : F.tmod o = 0)
 (q5 : D.beq (.arr 64 .leaf .int) (D.arr 64 .leaf (ints .u8 v)) (D.arr 64 .leaf (ints .u8 v)) = some true)
 (q6 : D.beq (.arr 64 .leaf .int) (D.arr 64 .leaf (ints .u8 x)) (D.arr 64 .leaf (ints .u8 x)) = some true) : ask (den T A) F1m [.sl .leaf CD] = some (D.bool true) := by
 refine ask_of hT rfl ?_
 simp -implicitDefEqProofs [Z1m, Z1m_B, dn_cond, e0, d1, d2, d3, d4, u1, u2, q2, q7, l1, l2, lw, lz, q3, p1, p2, po, pe, q4, i1, i2, o1, o2, g1, g2, g3, g4, o0, hm, q5, q6, List.replicate]
theorem res_001 (hT : T F1m = some Z1m) {CD : List D} {p q r s ux uy lg E ic : Int} {a m n b g k c w z t : List Int}
 (e0 : ask (den T A) F1n [.sl .leaf CD] = some (D.bool false))
 (d1 : ask (den T A) F2e [.sl .leaf CD] = some (.tup [(D.int .i64 p), (D.arr 64 .leaf (ints .u8 a)), (D.arr 64 .leaf (ints .u8 m))]))
 (d2 : ask (den T A) F2g [.sl .leaf CD] = some (.tup [(D.int .i64 q), (D.arr 64 .leaf (ints .u8 n))]))
 (d3 : ask (den T A) F2f [.sl .leaf CD] = some (.tup [(D.int .i64 r), (D.arr 64 .leaf (ints .u8 b)), (D.arr 64 .leaf (ints .u8 g)), (D.arr 64 .leaf (ints .u8 k))]))
 (d4 : ask (den T A) F2d [.sl .leaf CD] = some (.tup [(D.int .i64 s), (D.arr 64 .leaf (ints .u8 c))]))
 (u1 : ask (den T A) F5 [(D.int .i64 s), (D.arr 64 .leaf (ints .u8 c))] = some (.tup [(D.int .i64 ux), (D.int .i64 uy)]))
 (u2 : ask (den T A) F2h [(D.int .i64 s), (D.arr 64 .leaf (ints .u8 c))] = some (.tup [(D.int .i64 ux), (D.int .i64 uy)]))
 (q1 : D.beq (.arr 64 .leaf .int) (D.arr 64 .leaf (ints .u8 (pad []))) (D.arr 64 .leaf (ints .u8 (pad []))) = some true)
 (l1 : ask (den T A) F7 [(D.int .i64 r), (D.arr 64 .leaf (ints .u8 b)), (D.arr 64 .leaf (ints .u8 g)), (D.arr 64 .leaf (ints .u8 k))] = some (.tup [(D.int .i64 lg), (D.int .i64 0)]))
 (l2 : ask (den T A) F2j [(D.int .i64 r), (D.arr 64 .leaf (ints .u8 b)), (D.arr 64 .leaf (ints .u8 g)), (D.arr 64 .leaf (ints .u8 k))] = some (.tup [(D.int .i64 lg), (D.int .i64 0)]))
 (lw : ask (den T A) F9 [(D.int .i64 r), (D.arr 64 .leaf (ints .u8 g)), (D.int .i64 lg), (D.arr 64 .leaf (ints .u8 k))] = some (.tup [(D.arr 64 .leaf (ints .u8 w)), (D.int .i64 0)]))
 (lz : ask (den T A) F4 [(D.int .i64 r), (D.arr 64 .leaf (ints .u8 b)), (D.arr 64 .leaf (ints .u8 k))] = some (.tup [(D.arr 64 .leaf (ints .u8 z)), (D.arr 64 .leaf (ints .u8 w)), (D.int .i64 0)]))
 (q3 : D.beq (.arr 64 .leaf .int) (D.arr 64 .leaf (ints .u8 w)) (D.arr 64 .leaf (ints .u8 w)) = some true)
 (p1 : ask (den T A) Fa [(D.int .i64 q), (D.arr 64 .leaf (ints .u8 n))] = some (.tup [(D.arr 64 .leaf (ints .u8 t)), (D.int .i64 0)]))
 (p2 : ask (den T A) F2l [(D.int .i64 q), (D.arr 64 .leaf (ints .u8 n))] = some (.tup [(D.arr 64 .leaf (ints .u8 t)), (D.int .i64 0)]))
 (po : ask (den T A) F8 [(D.int .i64 q), (D.arr 64 .leaf (ints .u8 t)), (D.arr 64 .leaf (ints .u8 n))] = some (.tup [(D.int .i64 E), (D.int .i64 0)]))
 (pe : ask (den T A) F5 [(D.int .i64 q), (D.arr 64 .leaf (ints .u8 n))] = some (.tup [(D.int .i64 E), (D.int .i64 0)]))
 (q4 : D.beq (.arr 64 .leaf .int) (D.arr 64 .leaf (ints .u8 t)) (D.arr 64 .leaf (ints .u8 t)) = some true)
 (i1 : ask (den T A) F6 [(D.int .i64 p), (D.arr 64 .leaf (ints .u8 a)), (D.arr 64 .leaf (ints .u8 m))] = some (.tup [(D.arr 64 .leaf (ints .u8 (pad []))), (D.int .i64 ic)]))
 (i2 : ask (den T A) F2i [(D.int .i64 p), (D.arr 64 .leaf (ints .u8 a)), (D.arr 64 .leaf (ints .u8 m))] = some (.tup [(D.arr 64 .leaf (ints .u8 (pad []))), (D.int .i64 ic)]))
 (o1 : ask (den T A) F8 [(D.int .i64 p), (D.arr 64 .leaf (ints .u8 a)), (D.arr 64 .leaf (ints .u8 m))] = some (.tup [(D.int .i64 0), (D.int .i64 ic)]))
 (o2 : ask (den T A) F2k [(D.int .i64 p), (D.arr 64 .leaf (ints .u8 a)), (D.arr 64 .leaf (ints .u8 m))] = some (.tup [(D.int .i64 0), (D.int .i64 ic)]))
 (ic0 : ic ≠ 0) : ask (den T A) F1m [.sl .leaf CD] = some (D.bool true) := by
 refine ask_of hT rfl ?_
 simp -implicitDefEqProofs [Z1m, Z1m_B, dn_cond, e0, d1, d2, d3, d4, u1, u2, q1, l1, l2, lw, lz, q3, p1, p2, po, pe, q4, i1, i2, o1, o2, ic0, List.replicate]
theorem res_010 (hT : T F1m = some Z1m) {CD : List D} {p q r s ux uy lg pc o F : Int} {a m n b g k c w z t v x y : List Int}
 (e0 : ask (den T A) F1n [.sl .leaf CD] = some (D.bool false))
 (d1 : ask (den T A) F2e [.sl .leaf CD] = some (.tup [(D.int .i64 p), (D.arr 64 .leaf (ints .u8 a)), (D.arr 64 .leaf (ints .u8 m))]))
 (d2 : ask (den T A) F2g [.sl .leaf CD] = some (.tup [(D.int .i64 q), (D.arr 64 .leaf (ints .u8 n))]))
 (d3 : ask (den T A) F2f [.sl .leaf CD] = some (.tup [(D.int .i64 r), (D.arr 64 .leaf (ints .u8 b)), (D.arr 64 .leaf (ints .u8 g)), (D.arr 64 .leaf (ints .u8 k))]))
 (d4 : ask (den T A) F2d [.sl .leaf CD] = some (.tup [(D.int .i64 s), (D.arr 64 .leaf (ints .u8 c))]))
 (u1 : ask (den T A) F5 [(D.int .i64 s), (D.arr 64 .leaf (ints .u8 c))] = some (.tup [(D.int .i64 ux), (D.int .i64 uy)]))
 (u2 : ask (den T A) F2h [(D.int .i64 s), (D.arr 64 .leaf (ints .u8 c))] = some (.tup [(D.int .i64 ux), (D.int .i64 uy)]))
 (q2 : D.beq (.arr 64 .leaf .int) (D.arr 64 .leaf (ints .u8 ((pad []).set 0 1))) (D.arr 64 .leaf (ints .u8 ((pad []).set 0 1))) = some true)
 (q7 : (pad [])[0]? = some 0)
 (l1 : ask (den T A) F7 [(D.int .i64 r), (D.arr 64 .leaf (ints .u8 b)), (D.arr 64 .leaf (ints .u8 g)), (D.arr 64 .leaf (ints .u8 k))] = some (.tup [(D.int .i64 lg), (D.int .i64 0)]))
 (l2 : ask (den T A) F2j [(D.int .i64 r), (D.arr 64 .leaf (ints .u8 b)), (D.arr 64 .leaf (ints .u8 g)), (D.arr 64 .leaf (ints .u8 k))] = some (.tup [(D.int .i64 lg), (D.int .i64 0)]))
 (lw : ask (den T A) F9 [(D.int .i64 r), (D.arr 64 .leaf (ints .u8 g)), (D.int .i64 lg), (D.arr 64 .leaf (ints .u8 k))] = some (.tup [(D.arr 64 .leaf (ints .u8 w)), (D.int .i64 0)]))
 (lz : ask (den T A) F4 [(D.int .i64 r), (D.arr 64 .leaf (ints .u8 b)), (D.arr 64 .leaf (ints .u8 k))] = some (.tup [(D.arr 64 .leaf (ints .u8 z)), (D.arr 64 .leaf (ints .u8 w)), (D.int .i64 0)]))
 (q3 : D.beq (.arr 64 .leaf .int) (D.arr 64 .leaf (ints .u8 w)) (D.arr 64 .leaf (ints .u8 w)) = some true)
 (p1 : ask (den T A) Fa [(D.int .i64 q), (D.arr 64 .leaf (ints .u8 n))] = some (.tup [(D.arr 64 .leaf (ints .u8 t)), (D.int .i64 pc)]))
 (p2 : ask (den T A) F2l [(D.int .i64 q), (D.arr 64 .leaf (ints .u8 n))] = some (.tup [(D.arr 64 .leaf (ints .u8 t)), (D.int .i64 pc)]))
 (pc0 : pc ≠ 0)
 (q4 : D.beq (.arr 64 .leaf .int) (D.arr 64 .leaf (ints .u8 t)) (D.arr 64 .leaf (ints .u8 t)) = some true)
 (i1 : ask (den T A) F6 [(D.int .i64 p), (D.arr 64 .leaf (ints .u8 a)), (D.arr 64 .leaf (ints .u8 m))] = some (.tup [(D.arr 64 .leaf (ints .u8 v)), (D.int .i64 0)]))
 (i2 : ask (den T A) F2i [(D.int .i64 p), (D.arr 64 .leaf (ints .u8 a)), (D.arr 64 .leaf (ints .u8 m))] = some (.tup [(D.arr 64 .leaf (ints .u8 v)), (D.int .i64 0)]))
 (o1 : ask (den T A) F8 [(D.int .i64 p), (D.arr 64 .leaf (ints .u8 a)), (D.arr 64 .leaf (ints .u8 m))] = some (.tup [(D.int .i64 o), (D.int .i64 0)]))
 (o2 : ask (den T A) F2k [(D.int .i64 p), (D.arr 64 .leaf (ints .u8 a)), (D.arr 64 .leaf (ints .u8 m))] = some (.tup [(D.int .i64 o), (D.int .i64 0)]))
 (g1 : ask (den T A) F6 [(D.int .i64 p), (D.arr 64 .leaf (ints .u8 v)), (D.arr 64 .leaf (ints .u8 m))] = some (.tup [(D.arr 64 .leaf (ints .u8 x)), (D.int .i64 0)]))
 (g2 : ask (den T A) F4 [(D.int .i64 p), (D.arr 64 .leaf (ints .u8 a)), (D.arr 64 .leaf (ints .u8 m))] = some (.tup [(D.arr 64 .leaf (ints .u8 y)), (D.arr 64 .leaf (ints .u8 x)), (D.int .i64 0)]))
 (g3 : ask (den T A) F5 [(D.int .i64 p), (D.arr 64 .leaf (ints .u8 m))] = some (.tup [(D.int .i64 F), (D.int .i64 0)]))
 (g4 : ask (den T A) F9 [(D.int .i64 p), (D.arr 64 .leaf (ints .u8 a)), (D.int .i64 F), (D.arr 64 .leaf (ints .u8 m))] = some (.tup [(D.arr 64 .leaf (ints .u8 ((pad []).set 0 1))), (D.int .i64 0)]))
 (o0 : o ≠ 0)
 (hm : F.tmod o = 0)
 (q5 : D.beq (.arr 64 .leaf .int) (D.arr 64 .leaf (ints .u8 v)) (D.arr 64 .leaf (ints .u8 v)) = some true)
 (q6 : D.beq (.arr 64 .leaf .int) (D.arr 64 .leaf (ints .u8 x)) (D.arr 64 .leaf (ints .u8 x)) = some true) : ask (den T A) F1m [.sl .leaf CD] = some (D.bool true) := by
 refine ask_of hT rfl ?_
 simp -implicitDefEqProofs [Z1m, Z1m_B, dn_cond, e0, d1, d2, d3, d4, u1, u2, q2, q7, l1, l2, lw, lz, q3, p1, p2, pc0, q4, i1, i2, o1, o2, g1, g2, g3, g4, o0, hm, q5, q6, List.replicate]
theorem res_011 (hT : T F1m = some Z1m) {CD : List D} {p q r s ux uy lg pc ic : Int} {a m n b g k c w z t : List Int}
 (e0 : ask (den T A) F1n [.sl .leaf CD] = some (D.bool false))
 (d1 : ask (den T A) F2e [.sl .leaf CD] = some (.tup [(D.int .i64 p), (D.arr 64 .leaf (ints .u8 a)), (D.arr 64 .leaf (ints .u8 m))]))
 (d2 : ask (den T A) F2g [.sl .leaf CD] = some (.tup [(D.int .i64 q), (D.arr 64 .leaf (ints .u8 n))]))
 (d3 : ask (den T A) F2f [.sl .leaf CD] = some (.tup [(D.int .i64 r), (D.arr 64 .leaf (ints .u8 b)), (D.arr 64 .leaf (ints .u8 g)), (D.arr 64 .leaf (ints .u8 k))]))
 (d4 : ask (den T A) F2d [.sl .leaf CD] = some (.tup [(D.int .i64 s), (D.arr 64 .leaf (ints .u8 c))]))
 (u1 : ask (den T A) F5 [(D.int .i64 s), (D.arr 64 .leaf (ints .u8 c))] = some (.tup [(D.int .i64 ux), (D.int .i64 uy)]))
 (u2 : ask (den T A) F2h [(D.int .i64 s), (D.arr 64 .leaf (ints .u8 c))] = some (.tup [(D.int .i64 ux), (D.int .i64 uy)]))
 (q1 : D.beq (.arr 64 .leaf .int) (D.arr 64 .leaf (ints .u8 (pad []))) (D.arr 64 .leaf (ints .u8 (pad []))) = some true)
 (l1 : ask (den T A) F7 [(D.int .i64 r), (D.arr 64 .leaf (ints .u8 b)), (D.arr 64 .leaf (ints .u8 g)), (D.arr 64 .leaf (ints .u8 k))] = some (.tup [(D.int .i64 lg), (D.int .i64 0)]))
 (l2 : ask (den T A) F2j [(D.int .i64 r), (D.arr 64 .leaf (ints .u8 b)), (D.arr 64 .leaf (ints .u8 g)), (D.arr 64 .leaf (ints .u8 k))] = some (.tup [(D.int .i64 lg), (D.int .i64 0)]))
 (lw : ask (den T A) F9 [(D.int .i64 r), (D.arr 64 .leaf (ints .u8 g)), (D.int .i64 lg), (D.arr 64 .leaf (ints .u8 k))] = some (.tup [(D.arr 64 .leaf (ints .u8 w)), (D.int .i64 0)]))
 (lz : ask (den T A) F4 [(D.int .i64 r), (D.arr 64 .leaf (ints .u8 b)), (D.arr 64 .leaf (ints .u8 k))] = some (.tup [(D.arr 64 .leaf (ints .u8 z)), (D.arr 64 .leaf (ints .u8 w)), (D.int .i64 0)]))
 (q3 : D.beq (.arr 64 .leaf .int) (D.arr 64 .leaf (ints .u8 w)) (D.arr 64 .leaf (ints .u8 w)) = some true)
 (p1 : ask (den T A) Fa [(D.int .i64 q), (D.arr 64 .leaf (ints .u8 n))] = some (.tup [(D.arr 64 .leaf (ints .u8 t)), (D.int .i64 pc)]))
 (p2 : ask (den T A) F2l [(D.int .i64 q), (D.arr 64 .leaf (ints .u8 n))] = some (.tup [(D.arr 64 .leaf (ints .u8 t)), (D.int .i64 pc)]))
 (pc0 : pc ≠ 0)
 (q4 : D.beq (.arr 64 .leaf .int) (D.arr 64 .leaf (ints .u8 t)) (D.arr 64 .leaf (ints .u8 t)) = some true)
 (i1 : ask (den T A) F6 [(D.int .i64 p), (D.arr 64 .leaf (ints .u8 a)), (D.arr 64 .leaf (ints .u8 m))] = some (.tup [(D.arr 64 .leaf (ints .u8 (pad []))), (D.int .i64 ic)]))
 (i2 : ask (den T A) F2i [(D.int .i64 p), (D.arr 64 .leaf (ints .u8 a)), (D.arr 64 .leaf (ints .u8 m))] = some (.tup [(D.arr 64 .leaf (ints .u8 (pad []))), (D.int .i64 ic)]))
 (o1 : ask (den T A) F8 [(D.int .i64 p), (D.arr 64 .leaf (ints .u8 a)), (D.arr 64 .leaf (ints .u8 m))] = some (.tup [(D.int .i64 0), (D.int .i64 ic)]))
 (o2 : ask (den T A) F2k [(D.int .i64 p), (D.arr 64 .leaf (ints .u8 a)), (D.arr 64 .leaf (ints .u8 m))] = some (.tup [(D.int .i64 0), (D.int .i64 ic)]))
 (ic0 : ic ≠ 0) : ask (den T A) F1m [.sl .leaf CD] = some (D.bool true) := by
 refine ask_of hT rfl ?_
 simp -implicitDefEqProofs [Z1m, Z1m_B, dn_cond, e0, d1, d2, d3, d4, u1, u2, q1, l1, l2, lw, lz, q3, p1, p2, pc0, q4, i1, i2, o1, o2, ic0, List.replicate]
theorem res_100 (hT : T F1m = some Z1m) {CD : List D} {p q r s ux uy lc E o F : Int} {a m n b g k c t v x y : List Int}
 (e0 : ask (den T A) F1n [.sl .leaf CD] = some (D.bool false))
 (d1 : ask (den T A) F2e [.sl .leaf CD] = some (.tup [(D.int .i64 p), (D.arr 64 .leaf (ints .u8 a)), (D.arr 64 .leaf (ints .u8 m))]))
 (d2 : ask (den T A) F2g [.sl .leaf CD] = some (.tup [(D.int .i64 q), (D.arr 64 .leaf (ints .u8 n))]))
 (d3 : ask (den T A) F2f [.sl .leaf CD] = some (.tup [(D.int .i64 r), (D.arr 64 .leaf (ints .u8 b)), (D.arr 64 .leaf (ints .u8 g)), (D.arr 64 .leaf (ints .u8 k))]))
 (d4 : ask (den T A) F2d [.sl .leaf CD] = some (.tup [(D.int .i64 s), (D.arr 64 .leaf (ints .u8 c))]))
 (u1 : ask (den T A) F5 [(D.int .i64 s), (D.arr 64 .leaf (ints .u8 c))] = some (.tup [(D.int .i64 ux), (D.int .i64 uy)]))
 (u2 : ask (den T A) F2h [(D.int .i64 s), (D.arr 64 .leaf (ints .u8 c))] = some (.tup [(D.int .i64 ux), (D.int .i64 uy)]))
 (q2 : D.beq (.arr 64 .leaf .int) (D.arr 64 .leaf (ints .u8 ((pad []).set 0 1))) (D.arr 64 .leaf (ints .u8 ((pad []).set 0 1))) = some true)
 (q7 : (pad [])[0]? = some 0)
 (l1 : ask (den T A) F7 [(D.int .i64 r), (D.arr 64 .leaf (ints .u8 b)), (D.arr 64 .leaf (ints .u8 g)), (D.arr 64 .leaf (ints .u8 k))] = some (.tup [(D.int .i64 0), (D.int .i64 lc)]))
 (l2 : ask (den T A) F2j [(D.int .i64 r), (D.arr 64 .leaf (ints .u8 b)), (D.arr 64 .leaf (ints .u8 g)), (D.arr 64 .leaf (ints .u8 k))] = some (.tup [(D.int .i64 0), (D.int .i64 lc)]))
 (lc0 : lc ≠ 0)
 (p1 : ask (den T A) Fa [(D.int .i64 q), (D.arr 64 .leaf (ints .u8 n))] = some (.tup [(D.arr 64 .leaf (ints .u8 t)), (D.int .i64 0)]))
 (p2 : ask (den T A) F2l [(D.int .i64 q), (D.arr 64 .leaf (ints .u8 n))] = some (.tup [(D.arr 64 .leaf (ints .u8 t)), (D.int .i64 0)]))
 (po : ask (den T A) F8 [(D.int .i64 q), (D.arr 64 .leaf (ints .u8 t)), (D.arr 64 .leaf (ints .u8 n))] = some (.tup [(D.int .i64 E), (D.int .i64 0)]))
 (pe : ask (den T A) F5 [(D.int .i64 q), (D.arr 64 .leaf (ints .u8 n))] = some (.tup [(D.int .i64 E), (D.int .i64 0)]))
 (q4 : D.beq (.arr 64 .leaf .int) (D.arr 64 .leaf (ints .u8 t)) (D.arr 64 .leaf (ints .u8 t)) = some true)
 (i1 : ask (den T A) F6 [(D.int .i64 p), (D.arr 64 .leaf (ints .u8 a)), (D.arr 64 .leaf (ints .u8 m))] = some (.tup [(D.arr 64 .leaf (ints .u8 v)), (D.int .i64 0)]))
 (i2 : ask (den T A) F2i [(D.int .i64 p), (D.arr 64 .leaf (ints .u8 a)), (D.arr 64 .leaf (ints .u8 m))] = some (.tup [(D.arr 64 .leaf (ints .u8 v)), (D.int .i64 0)]))
 (o1 : ask (den T A) F8 [(D.int .i64 p), (D.arr 64 .leaf (ints .u8 a)), (D.arr 64 .leaf (ints .u8 m))] = some (.tup [(D.int .i64 o), (D.int .i64 0)]))
 (o2 : ask (den T A) F2k [(D.int .i64 p), (D.arr 64 .leaf (ints .u8 a)), (D.arr 64 .leaf (ints .u8 m))] = some (.tup [(D.int .i64 o), (D.int .i64 0)]))
 (g1 : ask (den T A) F6 [(D.int .i64 p), (D.arr 64 .leaf (ints .u8 v)), (D.arr 64 .leaf (ints .u8 m))] = some (.tup [(D.arr 64 .leaf (ints .u8 x)), (D.int .i64 0)]))
 (g2 : ask (den T A) F4 [(D.int .i64 p), (D.arr 64 .leaf (ints .u8 a)), (D.arr 64 .leaf (ints .u8 m))] = some (.tup [(D.arr 64 .leaf (ints .u8 y)), (D.arr 64 .leaf (ints .u8 x)), (D.int .i64 0)]))
 (g3 : ask (den T A) F5 [(D.int .i64 p), (D.arr 64 .leaf (ints .u8 m))] = some (.tup [(D.int .i64 F), (D.int .i64 0)]))
 (g4 : ask (den T A) F9 [(D.int .i64 p), (D.arr 64 .leaf (ints .u8 a)), (D.int .i64 F), (D.arr 64 .leaf (ints .u8 m))] = some (.tup [(D.arr 64 .leaf (ints .u8 ((pad []).set 0 1))), (D.int .i64 0)]))
 (o0 : o ≠ 0)
 (hm : F.tmod o = 0)
 (q5 : D.beq (.arr 64 .leaf .int) (D.arr 64 .leaf (ints .u8 v)) (D.arr 64 .leaf (ints .u8 v)) = some true)
 (q6 : D.beq (.arr 64 .leaf .int) (D.arr 64 .leaf (ints .u8 x)) (D.arr 64 .leaf (ints .u8 x)) = some true) : ask (den T A) F1m [.sl .leaf CD] = some (D.bool true) := by
 refine ask_of hT rfl ?_
 simp -implicitDefEqProofs [Z1m, Z1m_B, dn_cond, e0, d1, d2, d3, d4, u1, u2, q2, q7, l1, l2, lc0, p1, p2, po, pe, q4, i1, i2, o1, o2, g1, g2, g3, g4, o0, hm, q5, q6, List.replicate]
theorem res_101 (hT : T F1m = some Z1m) {CD : List D} {p q r s ux uy lc E ic : Int} {a m n b g k c t : List Int}
 (e0 : ask (den T A) F1n [.sl .leaf CD] = some (D.bool false))
 (d1 : ask (den T A) F2e [.sl .leaf CD] = some (.tup [(D.int .i64 p), (D.arr 64 .leaf (ints .u8 a)), (D.arr 64 .leaf (ints .u8 m))]))
 (d2 : ask (den T A) F2g [.sl .leaf CD] = some (.tup [(D.int .i64 q), (D.arr 64 .leaf (ints .u8 n))]))
 (d3 : ask (den T A) F2f [.sl .leaf CD] = some (.tup [(D.int .i64 r), (D.arr 64 .leaf (ints .u8 b)), (D.arr 64 .leaf (ints .u8 g)), (D.arr 64 .leaf (ints .u8 k))]))
 (d4 : ask (den T A) F2d [.sl .leaf CD] = some (.tup [(D.int .i64 s), (D.arr 64 .leaf (ints .u8 c))]))
 (u1 : ask (den T A) F5 [(D.int .i64 s), (D.arr 64 .leaf (ints .u8 c))] = some (.tup [(D.int .i64 ux), (D.int .i64 uy)]))
 (u2 : ask (den T A) F2h [(D.int .i64 s), (D.arr 64 .leaf (ints .u8 c))] = some (.tup [(D.int .i64 ux), (D.int .i64 uy)]))
 (q1 : D.beq (.arr 64 .leaf .int) (D.arr 64 .leaf (ints .u8 (pad []))) (D.arr 64 .leaf (ints .u8 (pad []))) = some true)
 (l1 : ask (den T A) F7 [(D.int .i64 r), (D.arr 64 .leaf (ints .u8 b)), (D.arr 64 .leaf (ints .u8 g)), (D.arr 64 .leaf (ints .u8 k))] = some (.tup [(D.int .i64 0), (D.int .i64 lc)]))
 (l2 : ask (den T A) F2j [(D.int .i64 r), (D.arr 64 .leaf (ints .u8 b)), (D.arr 64 .leaf (ints .u8 g)), (D.arr 64 .leaf (ints .u8 k))] = some (.tup [(D.int .i64 0), (D.int .i64 lc)]))
 (lc0 : lc ≠ 0)
 (p1 : ask (den T A) Fa [(D.int .i64 q), (D.arr 64 .leaf (ints .u8 n))] = some (.tup [(D.arr 64 .leaf (ints .u8 t)), (D.int .i64 0)]))
 (p2 : ask (den T A) F2l [(D.int .i64 q), (D.arr 64 .leaf (ints .u8 n))] = some (.tup [(D.arr 64 .leaf (ints .u8 t)), (D.int .i64 0)]))
 (po : ask (den T A) F8 [(D.int .i64 q), (D.arr 64 .leaf (ints .u8 t)), (D.arr 64 .leaf (ints .u8 n))] = some (.tup [(D.int .i64 E), (D.int .i64 0)]))
 (pe : ask (den T A) F5 [(D.int .i64 q), (D.arr 64 .leaf (ints .u8 n))] = some (.tup [(D.int .i64 E), (D.int .i64 0)]))
 (q4 : D.beq (.arr 64 .leaf .int) (D.arr 64 .leaf (ints .u8 t)) (D.arr 64 .leaf (ints .u8 t)) = some true)
 (i1 : ask (den T A) F6 [(D.int .i64 p), (D.arr 64 .leaf (ints .u8 a)), (D.arr 64 .leaf (ints .u8 m))] = some (.tup [(D.arr 64 .leaf (ints .u8 (pad []))), (D.int .i64 ic)]))
 (i2 : ask (den T A) F2i [(D.int .i64 p), (D.arr 64 .leaf (ints .u8 a)), (D.arr 64 .leaf (ints .u8 m))] = some (.tup [(D.arr 64 .leaf (ints .u8 (pad []))), (D.int .i64 ic)]))
 (o1 : ask (den T A) F8 [(D.int .i64 p), (D.arr 64 .leaf (ints .u8 a)), (D.arr 64 .leaf (ints .u8 m))] = some (.tup [(D.int .i64 0), (D.int .i64 ic)]))
 (o2 : ask (den T A) F2k [(D.int .i64 p), (D.arr 64 .leaf (ints .u8 a)), (D.arr 64 .leaf (ints .u8 m))] = some (.tup [(D.int .i64 0), (D.int .i64 ic)]))
 (ic0 : ic ≠ 0) : ask (den T A) F1m [.sl .leaf CD] = some (D.bool true) := by
 refine ask_of hT rfl ?_
 simp -implicitDefEqProofs [Z1m, Z1m_B, dn_cond, e0, d1, d2, d3, d4, u1, u2, q1, l1, l2, lc0, p1, p2, po, pe, q4, i1, i2, o1, o2, ic0, List.replicate]
theorem res_110 (hT : T F1m = some Z1m) {CD : List D} {p q r s ux uy lc pc o F : Int} {a m n b g k c t v x y : List Int}
 (e0 : ask (den T A) F1n [.sl .leaf CD] = some (D.bool false))
 (d1 : ask (den T A) F2e [.sl .leaf CD] = some (.tup [(D.int .i64 p), (D.arr 64 .leaf (ints .u8 a)), (D.arr 64 .leaf (ints .u8 m))]))
 (d2 : ask (den T A) F2g [.sl .leaf CD] = some (.tup [(D.int .i64 q), (D.arr 64 .leaf (ints .u8 n))]))
 (d3 : ask (den T A) F2f [.sl .leaf CD] = some (.tup [(D.int .i64 r), (D.arr 64 .leaf (ints .u8 b)), (D.arr 64 .leaf (ints .u8 g)), (D.arr 64 .leaf (ints .u8 k))]))
 (d4 : ask (den T A) F2d [.sl .leaf CD] = some (.tup [(D.int .i64 s), (D.arr 64 .leaf (ints .u8 c))]))
 (u1 : ask (den T A) F5 [(D.int .i64 s), (D.arr 64 .leaf (ints .u8 c))] = some (.tup [(D.int .i64 ux), (D.int .i64 uy)]))
 (u2 : ask (den T A) F2h [(D.int .i64 s), (D.arr 64 .leaf (ints .u8 c))] = some (.tup [(D.int .i64 ux), (D.int .i64 uy)]))
 (q2 : D.beq (.arr 64 .leaf .int) (D.arr 64 .leaf (ints .u8 ((pad []).set 0 1))) (D.arr 64 .leaf (ints .u8 ((pad []).set 0 1))) = some true)
 (q7 : (pad [])[0]? = some 0)
 (l1 : ask (den T A) F7 [(D.int .i64 r), (D.arr 64 .leaf (ints .u8 b)), (D.arr 64 .leaf (ints .u8 g)), (D.arr 64 .leaf (ints .u8 k))] = some (.tup [(D.int .i64 0), (D.int .i64 lc)]))
 (l2 : ask (den T A) F2j [(D.int .i64 r), (D.arr 64 .leaf (ints .u8 b)), (D.arr 64 .leaf (ints .u8 g)), (D.arr 64 .leaf (ints .u8 k))] = some (.tup [(D.int .i64 0), (D.int .i64 lc)]))
 (lc0 : lc ≠ 0)
 (p1 : ask (den T A) Fa [(D.int .i64 q), (D.arr 64 .leaf (ints .u8 n))] = some (.tup [(D.arr 64 .leaf (ints .u8 t)), (D.int .i64 pc)]))
 (p2 : ask (den T A) F2l [(D.int .i64 q), (D.arr 64 .leaf (ints .u8 n))] = some (.tup [(D.arr 64 .leaf (ints .u8 t)), (D.int .i64 pc)]))
 (pc0 : pc ≠ 0)
 (q4 : D.beq (.arr 64 .leaf .int) (D.arr 64 .leaf (ints .u8 t)) (D.arr 64 .leaf (ints .u8 t)) = some true)
 (i1 : ask (den T A) F6 [(D.int .i64 p), (D.arr 64 .leaf (ints .u8 a)), (D.arr 64 .leaf (ints .u8 m))] = some (.tup [(D.arr 64 .leaf (ints .u8 v)), (D.int .i64 0)]))
 (i2 : ask (den T A) F2i [(D.int .i64 p), (D.arr 64 .leaf (ints .u8 a)), (D.arr 64 .leaf (ints .u8 m))] = some (.tup [(D.arr 64 .leaf (ints .u8 v)), (D.int .i64 0)]))
 (o1 : ask (den T A) F8 [(D.int .i64 p), (D.arr 64 .leaf (ints .u8 a)), (D.arr 64 .leaf (ints .u8 m))] = some (.tup [(D.int .i64 o), (D.int .i64 0)]))
 (o2 : ask (den T A) F2k [(D.int .i64 p), (D.arr 64 .leaf (ints .u8 a)), (D.arr 64 .leaf (ints .u8 m))] = some (.tup [(D.int .i64 o), (D.int .i64 0)]))
 (g1 : ask (den T A) F6 [(D.int .i64 p), (D.arr 64 .leaf (ints .u8 v)), (D.arr 64 .leaf (ints .u8 m))] = some (.tup [(D.arr 64 .leaf (ints .u8 x)), (D.int .i64 0)]))
 (g2 : ask (den T A) F4 [(D.int .i64 p), (D.arr 64 .leaf (ints .u8 a)), (D.arr 64 .leaf (ints .u8 m))] = some (.tup [(D.arr 64 .leaf (ints .u8 y)), (D.arr 64 .leaf (ints .u8 x)), (D.int .i64 0)]))
 (g3 : ask (den T A) F5 [(D.int .i64 p), (D.arr 64 .leaf (ints .u8 m))] = some (.tup [(D.int .i64 F), (D.int .i64 0)]))
 (g4 : ask (den T A) F9 [(D.int .i64 p), (D.arr 64 .leaf (ints .u8 a)), (D.int .i64 F), (D.arr 64 .leaf (ints .u8 m))] = some (.tup [(D.arr 64 .leaf (ints .u8 ((pad []).set 0 1))), (D.int .i64 0)]))
 (o0 : o ≠ 0)
 (hm : F.tmod o = 0)
 (q5 : D.beq (.arr 64 .leaf .int) (D.arr 64 .leaf (ints .u8 v)) (D.arr 64 .leaf (ints .u8 v)) = some true)
 (q6 : D.beq (.arr 64 .leaf .int) (D.arr 64 .leaf (ints .u8 x)) (D.arr 64 .leaf (ints .u8 x)) = some true) : ask (den T A) F1m [.sl .leaf CD] = some (D.bool true) := by
 refine ask_of hT rfl ?_
 simp -implicitDefEqProofs [Z1m, Z1m_B, dn_cond, e0, d1, d2, d3, d4, u1, u2, q2, q7, l1, l2, lc0, p1, p2, pc0, q4, i1, i2, o1, o2, g1, g2, g3, g4, o0, hm, q5, q6, List.replicate]
theorem res_111 (hT : T F1m = some Z1m) {CD : List D} {p q r s ux uy lc pc ic : Int} {a m n b g k c t : List Int}
 (e0 : ask (den T A) F1n [.sl .leaf CD] = some (D.bool false))
 (d1 : ask (den T A) F2e [.sl .leaf CD] = some (.tup [(D.int .i64 p), (D.arr 64 .leaf (ints .u8 a)), (D.arr 64 .leaf (ints .u8 m))]))
 (d2 : ask (den T A) F2g [.sl .leaf CD] = some (.tup [(D.int .i64 q), (D.arr 64 .leaf (ints .u8 n))]))
 (d3 : ask (den T A) F2f [.sl .leaf CD] = some (.tup [(D.int .i64 r), (D.arr 64 .leaf (ints .u8 b)), (D.arr 64 .leaf (ints .u8 g)), (D.arr 64 .leaf (ints .u8 k))]))
 (d4 : ask (den T A) F2d [.sl .leaf CD] = some (.tup [(D.int .i64 s), (D.arr 64 .leaf (ints .u8 c))]))
 (u1 : ask (den T A) F5 [(D.int .i64 s), (D.arr 64 .leaf (ints .u8 c))] = some (.tup [(D.int .i64 ux), (D.int .i64 uy)]))
 (u2 : ask (den T A) F2h [(D.int .i64 s), (D.arr 64 .leaf (ints .u8 c))] = some (.tup [(D.int .i64 ux), (D.int .i64 uy)]))
 (q1 : D.beq (.arr 64 .leaf .int) (D.arr 64 .leaf (ints .u8 (pad []))) (D.arr 64 .leaf (ints .u8 (pad []))) = some true)
 (l1 : ask (den T A) F7 [(D.int .i64 r), (D.arr 64 .leaf (ints .u8 b)), (D.arr 64 .leaf (ints .u8 g)), (D.arr 64 .leaf (ints .u8 k))] = some (.tup [(D.int .i64 0), (D.int .i64 lc)]))
 (l2 : ask (den T A) F2j [(D.int .i64 r), (D.arr 64 .leaf (ints .u8 b)), (D.arr 64 .leaf (ints .u8 g)), (D.arr 64 .leaf (ints .u8 k))] = some (.tup [(D.int .i64 0), (D.int .i64 lc)]))
 (lc0 : lc ≠ 0)
 (p1 : ask (den T A) Fa [(D.int .i64 q), (D.arr 64 .leaf (ints .u8 n))] = some (.tup [(D.arr 64 .leaf (ints .u8 t)), (D.int .i64 pc)]))
 (p2 : ask (den T A) F2l [(D.int .i64 q), (D.arr 64 .leaf (ints .u8 n))] = some (.tup [(D.arr 64 .leaf (ints .u8 t)), (D.int .i64 pc)]))
 (pc0 : pc ≠ 0)
 (q4 : D.beq (.arr 64 .leaf .int) (D.arr 64 .leaf (ints .u8 t)) (D.arr 64 .leaf (ints .u8 t)) = some true)
 (i1 : ask (den T A) F6 [(D.int .i64 p), (D.arr 64 .leaf (ints .u8 a)), (D.arr 64 .leaf (ints .u8 m))] = some (.tup [(D.arr 64 .leaf (ints .u8 (pad []))), (D.int .i64 ic)]))
 (i2 : ask (den T A) F2i [(D.int .i64 p), (D.arr 64 .leaf (ints .u8 a)), (D.arr 64 .leaf (ints .u8 m))] = some (.tup [(D.arr 64 .leaf (ints .u8 (pad []))), (D.int .i64 ic)]))
 (o1 : ask (den T A) F8 [(D.int .i64 p), (D.arr 64 .leaf (ints .u8 a)), (D.arr 64 .leaf (ints .u8 m))] = some (.tup [(D.int .i64 0), (D.int .i64 ic)]))
 (o2 : ask (den T A) F2k [(D.int .i64 p), (D.arr 64 .leaf (ints .u8 a)), (D.arr 64 .leaf (ints .u8 m))] = some (.tup [(D.int .i64 0), (D.int .i64 ic)]))
 (ic0 : ic ≠ 0) : ask (den T A) F1m [.sl .leaf CD] = some (D.bool true) := by
 refine ask_of hT rfl ?_
 simp -implicitDefEqProofs [Z1m, Z1m_B, dn_cond, e0, d1, d2, d3, d4, u1, u2, q1, l1, l2, lc0, p1, p2, pc0, q4, i1, i2, o1, o2, ic0, List.replicate]
theorem law_Residues (hT : T F1m = some Z1m) (hbig : C_big (den T A)) (hdi : H_DrawInverseModulo (den T A)) (hdp : H_DrawPrimitiveOf (den T A)) (hdl : H_DrawLogarithmOf (den T A)) (hde : H_DrawEulerOf (den T A))
 (hiv : K_InverseModulo (den T A) F6) (hivs : K_InverseModulo (den T A) F2i) (hor : K_OrderModulo (den T A) F8) (hors : K_OrderModulo (den T A) F2k) (hpr : K_PrimitiveOf (den T A) Fa) (hprs : K_PrimitiveOf (den T A) F2l)
 (hlg : K_LogarithmOf (den T A) F7) (hlgs : K_LogarithmOf (den T A) F2j) (heu : K_EulerOf (den T A) F5) (heus : K_EulerOf (den T A) F2h) (hpw : K_PowerModulo (den T A)) (hdv : K_DividePolys (den T A)) (hfa : K_fac (den T A)) : L_Residues (den T A) := by
 intro code hb hl
 have e0 := hbig (ints .u8 code)
 by_cases hc : (4096 : Int) < (ints .u8 code).length
 ·rw [decide_eq_true hc] at e0
  refine ask_of hT rfl ?_
  simp -implicitDefEqProofs [Z1m, Z1m_B, dn_cond, e0]
 ·rw [decide_eq_false hc] at e0
  have hc4 : code.length ≤ 4096 := by
   rw [ints_length] at hc
   omega
  obtain ⟨p, a, m, d1, -, -, aa, am⟩ := hdi code hb hc4
  obtain ⟨q, n, d2, -, -, an⟩ := hdp code hb hc4
  obtain ⟨r, b, g, k, d3, -, -, ab, ag, ak⟩ := hdl code hb hc4
  obtain ⟨s, c, d4, -, -, ac⟩ := hde code hb hc4
  have i1 := hiv p a m aa.2 aa.1 am.2 am.1
  have i2 := hivs p a m aa.2 aa.1 am.2 am.1
  have o1 := hor p a m aa.2 aa.1 am.2 am.1
  have o2 := hors p a m aa.2 aa.1 am.2 am.1
  have p1 := hpr q n an.2 an.1
  have p2 := hprs q n an.2 an.1
  have l1 := hlg r b g k ab.2 ab.1 ag.2 ag.1 ak.2 ak.1
  have l2 := hlgs r b g k ab.2 ab.1 ag.2 ag.1 ak.2 ak.1
  have u1 := heu s c ac.2 ac.1
  have u2 := heus s c ac.2 ac.1
  obtain ⟨ux, uy, hux⟩ := euD_form s c
  rw [hux] at u1 u2
  -- the logarithm
  have hlog : (∃ lg : Int, lgD r b g k = .tup [(D.int .i64 lg), (D.int .i64 0)] ∧ ∃ w z : List Int, ask (den T A) F9 [(D.int .i64 r), (D.arr 64 .leaf (ints .u8 g)), (D.int .i64 lg), (D.arr 64 .leaf (ints .u8 k))] = some (.tup [(D.arr 64 .leaf (ints .u8 w)), (D.int .i64 0)]) ∧ ask (den T A) F4 [(D.int .i64 r), (D.arr 64 .leaf (ints .u8 b)), (D.arr 64 .leaf (ints .u8 k))] = some (.tup [(D.arr 64 .leaf (ints .u8 z)), (D.arr 64 .leaf (ints .u8 w)), (D.int .i64 0)]) ∧ w.length = 64) ∨ (∃ c : Int, c ≠ 0 ∧ lgD r b g k = .tup [(D.int .i64 0), (D.int .i64 c)]) := by
   rcases lgD_cases (p := r) (m := k) ab ag with ⟨ip, M, X, G, e, rfl, rfl, rfl, hM, h2, h6, hX, hG, hk, hd⟩ | h
   ·have hsm := ppow_le (p := r) (n := M.len - 1) (by omega)
    have hpn := pow_nat (p := r) (M.len - 1)
    have hke := hk.1
    have w1 := hpw r G M e hG hM.2 (by omega) (by omega) (by omega)
    have w2 := hdv r X M hX hM.2 (by omega)
    rw [Int.toNat_natCast, show pw G e % M = X % M from hk.2.1] at w1
    exact .inl ⟨_, hd, _, _, w1, w2, pad_length _⟩
   ·exact .inr h
  -- the primitive residue
  have hprim : (∃ (t : List Int) (E : Int), prD q n = .tup [(D.arr 64 .leaf (ints .u8 t)), (D.int .i64 0)] ∧ t.length = 64 ∧ ask (den T A) F8 [(D.int .i64 q), (D.arr 64 .leaf (ints .u8 t)), (D.arr 64 .leaf (ints .u8 n))] = some (.tup [(D.int .i64 E), (D.int .i64 0)]) ∧ ask (den T A) F5 [(D.int .i64 q), (D.arr 64 .leaf (ints .u8 n))] = some (.tup [(D.int .i64 E), (D.int .i64 0)])) ∨ (∃ (t : List Int) (c : Int), c ≠ 0 ∧ prD q n = .tup [(D.arr 64 .leaf (ints .u8 t)), (D.int .i64 c)] ∧ t.length = 64) := by
   rcases prD_cases (p := q) an (fun ip M hM hl => (hfa q M hM hl).1) with ⟨t, E, h1, h2, h3, h4⟩ | ⟨t, c, h0, h1, h2⟩
   ·have g1 := hor q t n h2.2 h2.1 an.2 an.1
    have g2 := heu q n an.2 an.1
    rw [h3] at g1
    rw [h4] at g2
    exact .inl ⟨t, E, h1, h2.1, g1, g2⟩
   ·exact .inr ⟨t, c, h0, h1, h2.1⟩
  -- the inverse
  have hinv : (∃ (t w z : List Int) (o E : Int), ivD p a m = .tup [(D.arr 64 .leaf (ints .u8 t)), (D.int .i64 0)] ∧ orD p a m = .tup [(D.int .i64 o), (D.int .i64 0)] ∧ t.length = 64 ∧ w.length = 64 ∧ ask (den T A) F6 [(D.int .i64 p), (D.arr 64 .leaf (ints .u8 t)), (D.arr 64 .leaf (ints .u8 m))] = some (.tup [(D.arr 64 .leaf (ints .u8 w)), (D.int .i64 0)]) ∧ ask (den T A) F4 [(D.int .i64 p), (D.arr 64 .leaf (ints .u8 a)), (D.arr 64 .leaf (ints .u8 m))] = some (.tup [(D.arr 64 .leaf (ints .u8 z)), (D.arr 64 .leaf (ints .u8 w)), (D.int .i64 0)]) ∧ ask (den T A) F5 [(D.int .i64 p), (D.arr 64 .leaf (ints .u8 m))] = some (.tup [(D.int .i64 E), (D.int .i64 0)]) ∧ ask (den T A) F9 [(D.int .i64 p), (D.arr 64 .leaf (ints .u8 a)), (D.int .i64 E), (D.arr 64 .leaf (ints .u8 m))] = some (.tup [(D.arr 64 .leaf (ints .u8 ((pad []).set 0 1))), (D.int .i64 0)]) ∧ o ≠ 0 ∧ E.tmod o = 0) ∨ (∃ c : Int, c ≠ 0 ∧ ivD p a m = .tup [(D.arr 64 .leaf (ints .u8 (pad []))), (D.int .i64 c)] ∧ orD p a m = .tup [(D.int .i64 0), (D.int .i64 c)]) := by
   rcases ivD_cases (p := p) (m := m) aa with ⟨ip, M, X, rfl, rfl, hM, h2, h6, hX, hu, h3, h4⟩ | h
   ·obtain ⟨hf, -, -⟩ := hfa p M hM.2 (by omega)
    obtain ⟨n1, n2, n3⟩ := ordN_ok hM (by omega) hf hu
    obtain ⟨b1, b2⟩ := eul_bounds hM hf
    have hsm := ppow_le (p := p) (n := M.len - 1) (by omega)
    have heN := eul_N M
    obtain ⟨v1, v2⟩ := inv_inv hM.2 h2 hu
    have hil := invm_len hM.2 X
    have g1 := hiv p (pad (row (invm M X))) (pad (row M)) (pad_bytes _) (pad_length _) am.2 am.1
    rw [ivD_unit (mod_code hM h2 h6) (by omega) (by omega) v1, v2] at g1
    have g2 := hdv p X M hX hM.2 (by omega)
    have g3 := heu p (pad (row M)) am.2 am.1
    rw [euD_good (deg_code h2 h6) (by omega), heN] at g3
    have g4 := hpw p X M (eulN p (fac M) : Nat) hX hM.2 (by omega) (by omega) (by omega)
    have hel := euler_all hM (by omega) hf (un_not hM.2 hu)
    rw [← Quo.mk_pow, ← Quo.mk_one] at hel
    have hel2 := (Pol.mod_eq_iff hM.2).2 hel
    rw [Pol.mod_small (a := (1 : Fp p)) (by rw [Pol.len_one]; omega)] at hel2
    rw [Int.toNat_natCast, hel2, row_one, show pad [1] = (pad []).set 0 1 from rfl] at g4
    refine .inl ⟨_, _, _, _, _, h3, h4, pad_length _, pad_length _, g1, g2, g3, g4, by omega, ?_⟩
    rw [Int.tmod_eq_emod_of_nonneg (by omega)]
    exact Int.emod_eq_zero_of_dvd (Int.natCast_dvd_natCast.2 n3)
   ·exact .inr h
  have hz : (pad []).length = 64 := pad_length _
  have hs1 : ((pad []).set 0 1).length = 64 := by rw [List.length_set]; exact hz
  have q1 := beq_same hz
  have q2 := beq_same hs1
  have q7 : (pad [])[0]? = some 0 := rfl
  rcases hlog with ⟨lg, lh, w, z, lw, lz, lwl⟩ | ⟨lc, lc0, lh⟩
  ·rw [lh] at l1 l2
   have q3 := beq_same lwl
   rcases hprim with ⟨t, E, ph, ptl, po, pe⟩ | ⟨t, pc, pc0, ph, ptl⟩
   ·rw [ph] at p1 p2
    have q4 := beq_same ptl
    rcases hinv with ⟨v, x, y, o, F, ih, oh, vl, xl, g1, g2, g3, g4, o0, hm⟩ | ⟨ic, ic0, ih, oh⟩
    ·rw [ih] at i1 i2
     rw [oh] at o1 o2
     have q5 := beq_same vl
     have q6 := beq_same xl
     exact res_000 hT e0 d1 d2 d3 d4 u1 u2 q2 q7 l1 l2 lw lz q3 p1 p2 po pe q4 i1 i2 o1 o2 g1 g2 g3 g4 o0 hm q5 q6
    ·rw [ih] at i1 i2
     rw [oh] at o1 o2
     exact res_001 hT e0 d1 d2 d3 d4 u1 u2 q1 l1 l2 lw lz q3 p1 p2 po pe q4 i1 i2 o1 o2 ic0
   ·rw [ph] at p1 p2
    have q4 := beq_same ptl
    rcases hinv with ⟨v, x, y, o, F, ih, oh, vl, xl, g1, g2, g3, g4, o0, hm⟩ | ⟨ic, ic0, ih, oh⟩
    ·rw [ih] at i1 i2
     rw [oh] at o1 o2
     have q5 := beq_same vl
     have q6 := beq_same xl
     exact res_010 hT e0 d1 d2 d3 d4 u1 u2 q2 q7 l1 l2 lw lz q3 p1 p2 pc0 q4 i1 i2 o1 o2 g1 g2 g3 g4 o0 hm q5 q6
    ·rw [ih] at i1 i2
     rw [oh] at o1 o2
     exact res_011 hT e0 d1 d2 d3 d4 u1 u2 q1 l1 l2 lw lz q3 p1 p2 pc0 q4 i1 i2 o1 o2 ic0
  ·rw [lh] at l1 l2
   rcases hprim with ⟨t, E, ph, ptl, po, pe⟩ | ⟨t, pc, pc0, ph, ptl⟩
   ·rw [ph] at p1 p2
    have q4 := beq_same ptl
    rcases hinv with ⟨v, x, y, o, F, ih, oh, vl, xl, g1, g2, g3, g4, o0, hm⟩ | ⟨ic, ic0, ih, oh⟩
    ·rw [ih] at i1 i2
     rw [oh] at o1 o2
     have q5 := beq_same vl
     have q6 := beq_same xl
     exact res_100 hT e0 d1 d2 d3 d4 u1 u2 q2 q7 l1 l2 lc0 p1 p2 po pe q4 i1 i2 o1 o2 g1 g2 g3 g4 o0 hm q5 q6
    ·rw [ih] at i1 i2
     rw [oh] at o1 o2
     exact res_101 hT e0 d1 d2 d3 d4 u1 u2 q1 l1 l2 lc0 p1 p2 po pe q4 i1 i2 o1 o2 ic0
   ·rw [ph] at p1 p2
    have q4 := beq_same ptl
    rcases hinv with ⟨v, x, y, o, F, ih, oh, vl, xl, g1, g2, g3, g4, o0, hm⟩ | ⟨ic, ic0, ih, oh⟩
    ·rw [ih] at i1 i2
     rw [oh] at o1 o2
     have q5 := beq_same vl
     have q6 := beq_same xl
     exact res_110 hT e0 d1 d2 d3 d4 u1 u2 q2 q7 l1 l2 lc0 p1 p2 pc0 q4 i1 i2 o1 o2 g1 g2 g3 g4 o0 hm q5 q6
    ·rw [ih] at i1 i2
     rw [oh] at o1 o2
     exact res_111 hT e0 d1 d2 d3 d4 u1 u2 q1 l1 l2 lc0 p1 p2 pc0 q4 i1 i2 o1 o2 ic0
end Pe

namespace Pe
open Go Gq
abbrev tyB : Ty := .sl (.int .u8)
theorem has_B {d : D} (h : tyB.has d) : ∃ l : List Int, d = .sl .leaf (ints .u8 l) ∧ Bytes l ∧ l.length ≤ 9223372036854775807 := by
 cases d <;> simp only [Ty.has] at h
 obtain ⟨rfl, h1, h2⟩ := h
 obtain ⟨l, rfl, hb⟩ := has_bytes _ h2
 exact ⟨l, rfl, hb, by simpa [ints] using h1⟩
end Pe
