/-
  A part of the proof: an evaluator for a small form of the code, its soundness, and contracts of functions over it.
-/
import Derived.Test.YtjimapmmflhlaaaGreatW1
import Derived.Test.YtjimapmmflhlaaaGreatW2
import Derived.Test.YtjimapmmflhlaaaGreatW3

namespace Pe
open Go Gq
variable {T : Nat → Option Fn} {A : Oracle}
theorem inv_ok (p : Int) [h : IsP p] (a : Int) (h0 : 0 < a) (h1 : a < p) : a * inv p a % p = 1 := by
 rcases h.h with rfl | rfl | rfl | rfl
 ·obtain rfl : a = 1 := by omega
  decide
 ·have : a = 1 ∨ a = 2 := by omega
  rcases this with rfl | rfl <;> decide
 ·have : a = 1 ∨ a = 2 ∨ a = 3 ∨ a = 4 := by omega
  rcases this with rfl | rfl | rfl | rfl <;> decide
 ·have : a = 1 ∨ a = 2 ∨ a = 3 ∨ a = 4 ∨ a = 5 ∨ a = 6 := by omega
  rcases this with rfl | rfl | rfl | rfl | rfl | rfl <;> decide
theorem inv_in (p : Int) [IsP p] (a : Int) : 0 ≤ inv p a ∧ inv p a < p := by
 have := IsP.ge (p := p)
 exact ipow_in (by omega) _
@[simp] theorem row_take {p : Int} (a : Fp p) : (row a).take a.len = row a := List.take_of_length_le (by simp)
def K_combine (O : Oracle) : Prop := ∀ (p : Int) [IsP p] (k : Int) (a b : Fp p), -1000000 ≤ k → k ≤ 1000000 → a.len < 1000000 → b.len < 1000000 →
 ask O Fs [(D.int .i64 p), (D.sl .leaf (ints .i64 (row a))), (D.sl .leaf (ints .i64 (row b))), (D.int .i64 k)] = some (D.sl .leaf (ints .i64 (row (a + Pol.C (zp p k) * b))))
theorem k_combine {O : Oracle} (h : C_combine O) : K_combine O := fun p i k a b h1 h2 h3 h4 => by
 have h5 := IsP.pos (p := p)
 have h6 := IsP.le (p := p)
 rw [h p k (row a) (row b) h5 (by omega) (row_small a (by omega)) (row_small b (by omega)) h1 h2 (by simpa using h3) (by simpa using h4), row_comb]
def K_times (O : Oracle) : Prop := ∀ (p : Int) [IsP p] (a b : Fp p), a.len < 10000 → b.len < 10000 →
 ask O F16 [(D.int .i64 p), (D.sl .leaf (ints .i64 (row a))), (D.sl .leaf (ints .i64 (row b)))] = some (D.sl .leaf (ints .i64 (row (a * b))))
theorem k_times {O : Oracle} (h : C_times O) : K_times O := fun p i a b h1 h2 => by
 have h5 := IsP.pos (p := p)
 have h6 := IsP.le (p := p)
 rw [h p (row a) (row b) h5 (by omega) (row_can a) (row_can b) (by simpa using h1) (by simpa using h2), row_mul]
def K_scale (O : Oracle) : Prop := ∀ (p : Int) [IsP p] (k : Int) (a : Fp p), -1000000 ≤ k → k ≤ 1000000 → a.len < 1000000 →
 ask O F13 [(D.int .i64 p), (D.sl .leaf (ints .i64 (row a))), (D.int .i64 k)] = some (D.sl .leaf (ints .i64 (row (Pol.C (zp p k) * a))))
theorem k_scale {O : Oracle} (h : C_scale O) : K_scale O := fun p i k a h1 h2 h3 => by
 have h5 := IsP.pos (p := p)
 have h6 := IsP.le (p := p)
 have e := row_comb (0 : Fp p) a k
 rw [row_zero, Gq.zero_add] at e
 rw [h p k (row a) h5 (by omega) (row_small a (by omega)) h1 h2 (by simpa using h3), e]
theorem cv_low {K : Type} [CR K] {g : Nat → K} : ∀ {i : Nat} {f : Nat → K}, (∀ j, j ≤ i → f j = 0) → cv i f g = 0
 | 0, f, h => by rw [cv, h 0 (Nat.le_refl 0), Gq.zero_mul]
 | i + 1, f, h => by rw [cv, h 0 (Nat.zero_le _), Gq.zero_mul, cv_low (fun j hj => h (j + 1) (by omega)), Gq.add_zero]
theorem c_momul' {K : Type} [Fd K] (k : K) (n : Nat) (a : Pol K) (i : Nat) : (Pol.mo k n * a).c i = if n ≤ i then k * a.c (i - n) else 0 := by
 split
 ·rename_i h; exact Pol.c_momul k n a i h
 ·rename_i h
  rw [Pol.c_mul]
  exact cv_low fun j hj => if_neg (by omega)
section
variable {p : Int} [IsP p]
theorem polOf_subTo (q : Int) (b : Fp p) (c : Nat) (cur : List Int) (h : c + b.len ≤ cur.length) : polOf p (subTo p q (row b) c b.len 0 cur) = polOf p cur - Pol.mo (zp p q) c * b := Pol.ext fun j => by
 rw [Pol.c_sub, c_momul', polOf_c, polOf_c, subTo_cf _ _ _ _ _ _ _ _ (by omega)]
 by_cases h1 : c + 0 ≤ j ∧ j < c + 0 + b.len
 ·rw [if_pos h1, if_pos (by omega), zp_mod, zp_sub, zp_mul, row_cf, zp_rep]
 ·rw [if_neg h1]
  split
  ·rw [b.lt_len _ (by omega), Gq.mul_zero, sub_eq, neg_zero, Gq.add_zero]
  ·rw [sub_eq, neg_zero, Gq.add_zero]
theorem polOf_set (q : Int) (c : Nat) (quo : List Int) (h : c < quo.length) (h0 : cf quo c = 0) : polOf p (quo.set c q) = polOf p quo + Pol.mo (zp p q) c := Pol.ext fun j => by
 rw [Pol.c_add, polOf_c, polOf_c, cf_set]
 show _ = _ + (if j = c then zp p q else 0)
 by_cases h1 : j = c
 ·subst h1
  rw [if_pos ⟨rfl, h⟩, if_pos rfl, h0, zp_zero, Gq.zero_add]
 ·rw [if_neg (by omega), if_neg h1, Gq.add_zero]
theorem dv_spec (b : Fp p) (hb : b ≠ 0) : ∀ (c : Nat) (cur quo : List Int), c + b.len ≤ cur.length + 1 → c ≤ quo.length → Can p cur → (∀ j, j < c → cf quo j = 0) → (∀ j, c + b.len - 1 ≤ j → cf cur j = 0) → Can p quo →
 let r := dv p (inv p (rep b.ld)) (row b) c (cur, quo)
 polOf p r.1 + polOf p r.2 * b = polOf p cur + polOf p quo * b ∧ (∀ j, b.len - 1 ≤ j → cf r.1 j = 0) ∧ Can p r.1 ∧ Can p r.2
 | 0, cur, quo, _, _, hcan, _, h, hq => ⟨rfl, fun j hj => h j (by omega), hcan, hq⟩
 | c + 1, cur, quo, hl, hlq, hcan, hq0, h, hq => by
  have hp := IsP.pos (p := p)
  have hbl := Pol.len_pos hb
  have hr := rep_in b.ld
  have hld : rep b.ld ≠ 0 := fun h0 => Pol.ld_ne hb (rep_eq_zero.1 h0)
  generalize hqd : cf cur (c + b.len - 1) * inv p (rep b.ld) % p = q
  have hqin : 0 ≤ q ∧ q < p := by subst hqd; exact ⟨Int.emod_nonneg _ (by omega), Int.emod_lt_of_pos _ hp⟩
  have hlen : c + b.len ≤ cur.length := by omega
  have e : dv p (inv p (rep b.ld)) (row b) (c + 1) (cur, quo) = dv p (inv p (rep b.ld)) (row b) c (subTo p q (row b) c b.len 0 cur, quo.set c q) := by
   rw [dv]; simp only [row_length, hqd]
  rw [e]
  have key : (cf cur (c + b.len - 1) - q * rep b.ld) % p = 0 := by
   have h1 := inv_ok p (rep b.ld) (by omega) hr.2
   have h2 : q * rep b.ld % p = cf cur (c + b.len - 1) % p := by
    subst hqd
    rw [Int.mul_emod, Int.emod_emod_of_dvd _ (Int.dvd_refl p), ← Int.mul_emod, Int.mul_assoc, Int.mul_comm (inv p _), Int.mul_emod, h1, Int.mul_one, Int.emod_emod_of_dvd _ (Int.dvd_refl p)]
   rw [Int.sub_emod, h2, ← Int.sub_emod, Int.sub_self, Int.zero_emod]
  have ih := dv_spec b hb c (subTo p q (row b) c b.len 0 cur) (quo.set c q) (by rw [subTo_length]; omega) (by simp; omega) (subTo_can hp (by omega) hcan)
   (fun j hj => by rw [cf_set, if_neg (by omega)]; exact hq0 j (by omega))
   (fun j hj => by
    rw [subTo_cf _ _ _ _ _ _ _ _ (by omega)]
    by_cases hj2 : j = c + b.len - 1
    ·subst hj2
     rw [if_pos (by omega), row_cf, show c + b.len - 1 - c = b.len - 1 by omega]; exact key
    ·rw [if_neg (by omega)]; exact h j (by omega))
   (fun x hx => by
    rcases List.mem_or_eq_of_mem_set hx with h1 | h1
    ·exact hq x h1
    ·subst h1; exact hqin)
  refine ⟨?_, ih.2⟩
  rw [ih.1, polOf_subTo q b c cur hlen, polOf_set q c quo (by omega) (hq0 c (by omega))]
  exact ring_of [polOf p cur, Pol.mo (zp p q) c, b, polOf p quo] rfl
def C_clone (O : Oracle) : Prop := ∀ l : List Int, l.length < 1000000 → O F1p [(.d (.sl .leaf (ints .i64 l)))] [] = some (.sl 0 [] 0 l.length none, [], [.sl false .leaf (ints .i64 l)])
def K_divide (O : Oracle) : Prop := ∀ (p : Int) [IsP p] (a b : Fp p), b ≠ 0 → a.len < 5000 → b.len < 5000 →
 ask O Ft [(D.int .i64 p), (D.sl .leaf (ints .i64 (row a))), (D.sl .leaf (ints .i64 (row b)))] = some (.tup [(D.sl .leaf (ints .i64 (row (a / b)))), (D.sl .leaf (ints .i64 (row (a % b))))])
end
section
variable {p : Int}
theorem ld_row (b : Fp p) : lead (row b) = rep b.ld := by unfold lead Pol.ld; rw [row_cf, row_length]
end
section
variable {p : Int} [IsP p]
theorem k_divide (hT : T Ft = some Zt) (hcl : C_clone (den T A)) (htr : C_trimmed (den T A)) (hld : C_lead (den T A)) (hinv : C_inverse (den T A)) (hred : C_reduce (den T A)) : K_divide (den T A) := by
 intro p ip a b hb ha hbl
 have hp := IsP.ge (p := p)
 have hp7 := IsP.le (p := p)
 have e1 := hcl (row a) (by simpa using (show a.len < 1000000 by omega))
 rw [row_length] at e1
 have hb0 := Pol.len_pos hb
 refine ask_of hT rfl ?_
 by_cases hlt : a.len < b.len
 ·obtain ⟨h1, h2⟩ := Pol.div_mod_eq (a := a) (b := b) (q := 0) (r := a) (by rw [Gq.zero_mul, Gq.zero_add]) hlt
  rw [h1, h2, row_zero]
  have h3 : (a.len : Int) < (b.len : Int) := by omega
  simp -implicitDefEqProofs [Zt, Zt_B, dn_cond, e1, h3, ints_nil, row_take]
 ·have h3 : ¬ (a.len : Int) < (b.len : Int) := by omega
  have hr := rep_in b.ld
  have e2 := hld (row b) (by simpa using (show b.len < 1000000 by omega))
  rw [ld_row] at e2
  have e3 := hinv p (rep b.ld) (by omega) (by omega) hr.1 hr.2
  have w1 : IntKind.i64.wrap ((a.len : Int) - b.len) = (a.len : Int) - b.len := w64 (by omega)
  have w2 : IntKind.i64.wrap ((a.len : Int) - b.len + 1) = ((a.len - b.len + 1 : Nat) : Int) := (w64 (x := (a.len : Int) - b.len + 1) (by omega)).trans (by omega)
  have w3 : IntKind.i64.wrap (((a.len - b.len + 1 : Nat) : Int) - 1) = ((a.len - b.len + 1 : Nat) : Int) - 1 := w64 (by omega)
  have h8 : (a.len - b.len + 1) * 8 ≤ 1099511627776 := by omega
  have l1 := l_divide1 (O := den T A) (by_ := inv p (rep b.ld)) (b := row b) (la := a.len) (nq := a.len - b.len + 1) (cp := none) hred (by omega) (by omega) (inv_in p _) (row_can b) (by rw [row_length]; omega) (by rw [row_length]; omega) (by omega)
   (a.len - b.len + 1) (row a) (List.replicate (a.len - b.len + 1) 0) (Nat.le_refl _) (row_length a) (by simp) (row_can a)
  have hz : ∀ n j, cf (List.replicate n (0 : Int)) j = 0 := fun n j => by
   by_cases hj : j < n
   ·rw [cf_lt (by simpa using hj)]; simp
   ·exact cf_ge (by simp; omega)
  have sp := dv_spec b hb (a.len - b.len + 1) (row a) (List.replicate (a.len - b.len + 1) 0) (by rw [row_length]; omega) (by simp) (row_can a) (fun j _ => hz _ j) (fun j hj => by rw [cf_ge]; rw [row_length]; omega) (fun x hx => by
   obtain rfl := (List.mem_replicate.1 hx).2; omega)
  have hl1 : ∀ (c : Nat) (x y : List Int), (dv p (inv p (rep b.ld)) (row b) c (x, y)).1.length = x.length ∧ (dv p (inv p (rep b.ld)) (row b) c (x, y)).2.length = y.length := by
   intro c
   induction c with
   | zero => exact fun x y => ⟨rfl, rfl⟩
   | succ c ih =>
    intro x y
    rw [dv]
    obtain ⟨i1, i2⟩ := ih (subTo p (cf x (c + (row b).length - 1) * inv p (rep b.ld) % p) (row b) c (row b).length 0 x) (y.set c (cf x (c + (row b).length - 1) * inv p (rep b.ld) % p))
    exact ⟨by rw [i1, subTo_length], by rw [i2, List.length_set]⟩
  obtain ⟨l2, l3⟩ := hl1 (a.len - b.len + 1) (row a) (List.replicate (a.len - b.len + 1) 0)
  generalize dv p (inv p (rep b.ld)) (row b) (a.len - b.len + 1) (row a, List.replicate (a.len - b.len + 1) 0) = r at *
  obtain ⟨s1, s2, s3, s4⟩ := sp
  have z0 : polOf p (List.replicate (a.len - b.len + 1) 0) = 0 := Pol.ext fun j => by rw [polOf_c, hz]; rfl
  rw [z0, Gq.zero_mul, Gq.add_zero, polOf_row, Gq.add_comm] at s1
  have hrl : (polOf p r.1).len < b.len := by
   have : (polOf p r.1).lt (b.len - 1) := fun i hi => by rw [polOf_c, s2 i hi]; rfl
   have := Pol.len_le this
   omega
  obtain ⟨h1, h2⟩ := Pol.div_mod_eq s1.symm hrl
  rw [h1, h2, ← trim_polOf s3, ← trim_polOf s4]
  have t1 := htr r.1 (by rw [l2, row_length]; omega)
  have t2 := htr r.2 (by rw [l3, List.length_replicate]; omega)
  have k1 : r.1.take a.len = r.1 := List.take_of_length_le (by rw [l2, row_length]; omega)
  have k2 : r.2.take (a.len - b.len + 1) = r.2 := List.take_of_length_le (by rw [l3, List.length_replicate]; omega)
  rw [List.length_replicate] at l3
  rw [row_length] at l2
  generalize a.len - b.len + 1 = n at *
  simp -implicitDefEqProofs [Zt, Zt_B, dn_cond, e1, h3, w1, w2, w3, h8, e2, e3, l1, t1, t2, l2, l3, k1, k2]
end
end Pe

/-
 Functions of the program in the small form, printed by a program.
-/
namespace Pe
open Go
def Z1t_L0 : Cd :=
 .seq (.region [⟨some 9, .bin .lss (.t 8) (.t 7), none, []⟩] [0, 1, 7, 8, 9])
 (.seq (.cond (.t 9)
 (.skip)
 (.exit 0))
 (.seq (.block 1 (.seq (.region [⟨some 10, .mv (.t 8), none, []⟩,
 ⟨some 5, .mv (.t 10), none, []⟩] [0, 1, 5, 7, 8])
 (.seq (.region [⟨some 11, .mv (.t 1), none, []⟩,
 ⟨some 12, .mv (.t 0), none, []⟩,
 ⟨some 13, .mv (.t 5), none, []⟩,
 ⟨some 14, .idxA none (.arr 64 .leaf) (.t 12) (.t 13), none, []⟩,
 ⟨some 15, .load (.arr 64 .leaf) (.t 14), none, []⟩,
 ⟨some 16, .call .flat [] (.t 11) [(.t 15)], none, []⟩] [0, 1, 5, 7, 8, 16])
 (.cond (.t 16)
 (.seq (.region [⟨some 17, .mv (.t 5), none, []⟩,
 ⟨some 4, .mv (.t 17), none, []⟩] [4])
 (.ret))
 (.skip)))))
 (.region [⟨some 18, .bin .add (.t 8) (.c (.int .i64 1)), none, []⟩,
 ⟨some 8, .mv (.t 18), none, []⟩] [0, 1, 7, 8])))
def Z1t_B : Cd :=
 .seq (.region [⟨some 4, .mv (.c (.int .i64 0)), none, []⟩] [0, 1])
 (.seq (.seq (.region [⟨some 6, .mv (.t 0), none, []⟩,
 ⟨some 7, .len false (.t 6), none, []⟩,
 ⟨some 8, .mv (.c (.int .i64 0)), none, []⟩] [0, 1, 7, 8])
 (.block 0 (.loop (Z1t_L0))))
 (.seq (.region [⟨some 4, .mv (.c (.int .i64 (-1))), none, []⟩] [4])
 (.ret)))
def Z1t : Fn :=
 { nparams := 2, nblk := 0, results := [.tmp 4], body := Z1t_B }
def Z1r_B : Cd :=
 .seq (.region [⟨some 4, .mv (.c (.bool false)), none, []⟩] [0, 1])
 (.seq (.region [⟨some 5, .mv (.t 0), none, []⟩,
 ⟨some 6, .mv (.t 1), none, []⟩,
 ⟨some 7, .call .flat [] (.f F1t) [(.t 5), (.t 6)], none, []⟩,
 ⟨some 8, .bin .geq (.t 7) (.c (.int .i64 0)), none, []⟩,
 ⟨some 4, .mv (.t 8), none, []⟩] [4])
 (.ret))
def Z1r : Fn :=
 { nparams := 2, nblk := 0, results := [.tmp 4], body := Z1r_B }
def Z1s_L0 : Cd :=
 .seq (.region [⟨some 9, .bin .lss (.t 8) (.t 7), none, []⟩] [0, 1, 7, 8, 9])
 (.seq (.cond (.t 9)
 (.skip)
 (.exit 0))
 (.seq (.block 1 (.seq (.region [⟨some 10, .mv (.t 8), none, []⟩,
 ⟨some 5, .mv (.t 10), none, []⟩] [0, 1, 5, 7, 8])
 (.seq (.region [⟨some 11, .mv (.t 1), none, []⟩,
 ⟨some 12, .mv (.t 0), none, []⟩,
 ⟨some 13, .mv (.t 5), none, []⟩,
 ⟨some 14, .idxA none .leaf (.t 12) (.t 13), none, []⟩,
 ⟨some 15, .load .leaf (.t 14), none, []⟩,
 ⟨some 16, .call .flat [] (.t 11) [(.t 15)], none, []⟩] [0, 1, 5, 7, 8, 16])
 (.cond (.t 16)
 (.seq (.region [⟨some 17, .mv (.t 5), none, []⟩,
 ⟨some 4, .mv (.t 17), none, []⟩] [4])
 (.ret))
 (.skip)))))
 (.region [⟨some 18, .bin .add (.t 8) (.c (.int .i64 1)), none, []⟩,
 ⟨some 8, .mv (.t 18), none, []⟩] [0, 1, 7, 8])))
def Z1s_B : Cd :=
 .seq (.region [⟨some 4, .mv (.c (.int .i64 0)), none, []⟩] [0, 1])
 (.seq (.seq (.region [⟨some 6, .mv (.t 0), none, []⟩,
 ⟨some 7, .len false (.t 6), none, []⟩,
 ⟨some 8, .mv (.c (.int .i64 0)), none, []⟩] [0, 1, 7, 8])
 (.block 0 (.loop (Z1s_L0))))
 (.seq (.region [⟨some 4, .mv (.c (.int .i64 (-1))), none, []⟩] [4])
 (.ret)))
def Z1s : Fn :=
 { nparams := 2, nblk := 0, results := [.tmp 4], body := Z1s_B }
def Z1q_B : Cd :=
 .seq (.region [⟨some 4, .mv (.c (.bool false)), none, []⟩] [0, 1])
 (.seq (.region [⟨some 5, .mv (.t 0), none, []⟩,
 ⟨some 6, .mv (.t 1), none, []⟩,
 ⟨some 7, .call .flat [] (.f F1s) [(.t 5), (.t 6)], none, []⟩,
 ⟨some 8, .bin .geq (.t 7) (.c (.int .i64 0)), none, []⟩,
 ⟨some 4, .mv (.t 8), none, []⟩] [4])
 (.ret))
def Z1q : Fn :=
 { nparams := 2, nblk := 0, results := [.tmp 4], body := Z1q_B }
def Z1y_L0 : Cd :=
 .seq (.seq (.region [⟨some 18, .mv (.t 9), none, []⟩,
 ⟨some 19, .mv (.t 1), none, []⟩,
 ⟨some 20, .bin .gtr (.t 18) (.t 19), none, []⟩,
 ⟨some 21, .mv (.t 20), none, []⟩,
 ⟨some 22, .mv (.t 3), some (21, true), []⟩,
 ⟨some 23, .mv (.t 0), some (21, true), []⟩,
 ⟨some 24, .mv (.t 9), some (21, true), []⟩,
 ⟨some 25, .idxA none (.st [.leaf, .leaf]) (.t 23) (.t 24), some (21, true), []⟩,
 ⟨some 26, .load (.st [.leaf, .leaf]) (.t 25), some (21, true), []⟩,
 ⟨some 27, .mv (.t 0), some (21, true), []⟩,
 ⟨some 28, .mv (.t 9), some (21, true), []⟩,
 ⟨some 29, .bin .sub (.t 28) (.c (.int .i64 1)), some (21, true), []⟩,
 ⟨some 30, .idxA none (.st [.leaf, .leaf]) (.t 27) (.t 29), some (21, true), []⟩,
 ⟨some 31, .load (.st [.leaf, .leaf]) (.t 30), some (21, true), []⟩,
 ⟨some 32, .call .flat [] (.t 22) [(.t 26), (.t 31)], some (21, true), []⟩,
 ⟨some 33, .bin .lss (.t 32) (.c (.int .i64 0)), some (21, true), []⟩,
 ⟨some 34, .pick (.t 21) (.t 33) (.c (.bool false)), none, []⟩] [0, 1, 2, 3, 8, 9, 34])
 (.cond (.t 34)
 (.skip)
 (.exit 2)))
 (.seq (.block 3 (.region [⟨some 37, .mv (.t 0), none, []⟩,
 ⟨some 38, .mv (.t 9), none, []⟩,
 ⟨some 39, .mv (.t 0), none, []⟩,
 ⟨some 40, .mv (.t 9), none, []⟩,
 ⟨some 41, .bin .sub (.t 40) (.c (.int .i64 1)), none, []⟩,
 ⟨some 42, .mv (.t 0), none, []⟩,
 ⟨some 43, .mv (.t 9), none, []⟩,
 ⟨some 44, .bin .sub (.t 43) (.c (.int .i64 1)), none, []⟩,
 ⟨some 45, .idxA none (.st [.leaf, .leaf]) (.t 42) (.t 44), none, []⟩,
 ⟨some 46, .load (.st [.leaf, .leaf]) (.t 45), none, []⟩,
 ⟨some 47, .mv (.t 0), none, []⟩,
 ⟨some 48, .mv (.t 9), none, []⟩,
 ⟨some 49, .idxA none (.st [.leaf, .leaf]) (.t 47) (.t 48), none, []⟩,
 ⟨some 50, .load (.st [.leaf, .leaf]) (.t 49), none, []⟩,
 ⟨some 51, .idxA none (.st [.leaf, .leaf]) (.t 37) (.t 38), none, []⟩,
 ⟨none, .store false (.st [.leaf, .leaf]) (.t 51) (.t 46), none, []⟩,
 ⟨some 52, .idxA none (.st [.leaf, .leaf]) (.t 39) (.t 41), none, []⟩,
 ⟨none, .store false (.st [.leaf, .leaf]) (.t 52) (.t 50), none, []⟩] [0, 1, 2, 3, 8, 9]))
 (.region [⟨some 35, .mv (.t 9), none, []⟩,
 ⟨some 36, .bin .sub (.t 35) (.c (.int .i64 1)), none, []⟩,
 ⟨some 9, .mv (.t 36), none, []⟩] [0, 1, 2, 3, 8, 9]))
def Z1y_L1 : Cd :=
 .seq (.seq (.region [⟨some 12, .mv (.t 8), none, []⟩,
 ⟨some 13, .mv (.t 2), none, []⟩,
 ⟨some 14, .bin .lss (.t 12) (.t 13), none, []⟩] [0, 1, 2, 3, 8, 14])
 (.cond (.t 14)
 (.skip)
 (.exit 0)))
 (.seq (.block 1 (.seq (.region [⟨some 17, .mv (.t 8), none, []⟩,
 ⟨some 9, .mv (.t 17), none, []⟩] [0, 1, 2, 3, 8, 9])
 (.block 2 (.loop (Z1y_L0)))))
 (.region [⟨some 15, .mv (.t 8), none, []⟩,
 ⟨some 16, .bin .add (.t 15) (.c (.int .i64 1)), none, []⟩,
 ⟨some 8, .mv (.t 16), none, []⟩] [0, 1, 2, 3, 8]))
def Z1y_B : Cd :=
 .seq (.region [⟨some 10, .mv (.t 1), none, []⟩,
 ⟨some 11, .bin .add (.t 10) (.c (.int .i64 1)), none, []⟩,
 ⟨some 8, .mv (.t 11), none, []⟩] [0, 1, 2, 3, 8])
 (.block 0 (.loop (Z1y_L1)))
def Z1y : Fn :=
 { nparams := 4, nblk := 0, results := [], body := Z1y_B }
def Z1o_B : Cd :=
 .seq (.region [⟨some 2, .mv (.c (.int .i64 0)), none, []⟩] [0, 2])
 (.seq (.seq (.region [⟨some 3, .mv (.t 0), none, []⟩,
 ⟨some 4, .bin .geq (.t 3) (.c (.int .u64 4294967296)), none, []⟩] [0, 2, 4])
 (.cond (.t 4)
 (.seq (.region [⟨some 5, .mv (.t 0), none, []⟩,
 ⟨some 6, .bin .shr (.t 5) (.c (.int .u64 32)), none, []⟩,
 ⟨some 0, .mv (.t 6), none, []⟩] [0])
 (.region [⟨some 2, .mv (.c (.int .i64 32)), none, []⟩] [0, 2]))
 (.skip)))
 (.seq (.seq (.region [⟨some 7, .mv (.t 0), none, []⟩,
 ⟨some 8, .bin .geq (.t 7) (.c (.int .u64 65536)), none, []⟩] [0, 2, 8])
 (.cond (.t 8)
 (.seq (.region [⟨some 9, .mv (.t 0), none, []⟩,
 ⟨some 10, .bin .shr (.t 9) (.c (.int .u64 16)), none, []⟩,
 ⟨some 0, .mv (.t 10), none, []⟩] [0, 2])
 (.region [⟨some 11, .mv (.t 2), none, []⟩,
 ⟨some 12, .bin .add (.t 11) (.c (.int .i64 16)), none, []⟩,
 ⟨some 2, .mv (.t 12), none, []⟩] [0, 2]))
 (.skip)))
 (.seq (.seq (.region [⟨some 13, .mv (.t 0), none, []⟩,
 ⟨some 14, .bin .geq (.t 13) (.c (.int .u64 256)), none, []⟩] [0, 2, 14])
 (.cond (.t 14)
 (.seq (.region [⟨some 15, .mv (.t 0), none, []⟩,
 ⟨some 16, .bin .shr (.t 15) (.c (.int .u64 8)), none, []⟩,
 ⟨some 0, .mv (.t 16), none, []⟩] [0, 2])
 (.region [⟨some 17, .mv (.t 2), none, []⟩,
 ⟨some 18, .bin .add (.t 17) (.c (.int .i64 8)), none, []⟩,
 ⟨some 2, .mv (.t 18), none, []⟩] [0, 2]))
 (.skip)))
 (.seq (.region [⟨some 19, .mv (.t 2), none, []⟩,
 ⟨some 20, .mv (.t 0), none, []⟩,
 ⟨some 21, .conv .u8 (.t 20), none, []⟩,
 ⟨some 22, .idx none .leaf (.c (.str (ByteArray.mk #[0, 1, 2, 2, 3, 3, 3, 3, 4, 4, 4, 4, 4, 4, 4, 4, 5, 5, 5, 5, 5, 5, 5, 5, 5, 5, 5, 5, 5, 5, 5, 5, 6, 6, 6, 6, 6, 6, 6, 6, 6, 6, 6, 6, 6, 6, 6, 6, 6, 6, 6, 6, 6, 6, 6, 6, 6, 6, 6, 6, 6, 6, 6, 6, 7, 7, 7, 7, 7, 7, 7, 7, 7, 7, 7, 7, 7, 7, 7, 7, 7, 7, 7, 7, 7, 7, 7, 7, 7, 7, 7, 7, 7, 7, 7, 7, 7, 7, 7, 7, 7, 7, 7, 7, 7, 7, 7, 7, 7, 7, 7, 7, 7, 7, 7, 7, 7, 7, 7, 7, 7, 7, 7, 7, 7, 7, 7, 7, 8, 8, 8, 8, 8, 8, 8, 8, 8, 8, 8, 8, 8, 8, 8, 8, 8, 8, 8, 8, 8, 8, 8, 8, 8, 8, 8, 8, 8, 8, 8, 8, 8, 8, 8, 8, 8, 8, 8, 8, 8, 8, 8, 8, 8, 8, 8, 8, 8, 8, 8, 8, 8, 8, 8, 8, 8, 8, 8, 8, 8, 8, 8, 8, 8, 8, 8, 8, 8, 8, 8, 8, 8, 8, 8, 8, 8, 8, 8, 8, 8, 8, 8, 8, 8, 8, 8, 8, 8, 8, 8, 8, 8, 8, 8, 8, 8, 8, 8, 8, 8, 8, 8, 8, 8, 8, 8, 8, 8, 8, 8, 8, 8, 8, 8, 8, 8, 8, 8, 8, 8, 8, 8, 8, 8, 8, 8, 8]))) (.t 21), none, []⟩,
 ⟨some 23, .conv .i64 (.t 22), none, []⟩,
 ⟨some 24, .bin .add (.t 19) (.t 23), none, []⟩,
 ⟨some 2, .mv (.t 24), none, []⟩] [2])
 (.ret)))))
def Z1o : Fn :=
 { nparams := 1, nblk := 0, results := [.tmp 2], body := Z1o_B }
def Z1m_B : Cd :=
 .seq (.region [⟨some 2, .mv (.c (.int .i64 0)), none, []⟩] [0])
 (.seq (.cond (.c (.bool false))
 (.seq (.region [⟨some 3, .mv (.t 0), none, []⟩,
 ⟨some 4, .conv .u32 (.t 3), none, []⟩,
 ⟨some 5, .call .flat [] (.f F1n) [(.t 4)], none, []⟩,
 ⟨some 2, .mv (.t 5), none, []⟩] [2])
 (.ret))
 (.skip))
 (.seq (.region [⟨some 6, .mv (.t 0), none, []⟩,
 ⟨some 7, .call .flat [] (.f F1o) [(.t 6)], none, []⟩,
 ⟨some 2, .mv (.t 7), none, []⟩] [2])
 (.ret)))
def Z1m : Fn :=
 { nparams := 1, nblk := 0, results := [.tmp 2], body := Z1m_B }
def Z26_L0 : Cd :=
 .block 1 (.seq (.region [⟨some 21, .mv (.t 2), none, []⟩,
 ⟨some 22, .mv (.t 1), none, []⟩,
 ⟨some 23, .bin .sub (.t 21) (.t 22), none, []⟩,
 ⟨some 12, .mv (.t 23), none, []⟩] [0, 1, 2, 3, 4, 10, 11, 12])
 (.seq (.seq (.region [⟨some 24, .mv (.t 12), none, []⟩,
 ⟨some 25, .bin .leq (.t 24) (.c (.int .i64 12)), none, []⟩] [0, 1, 2, 3, 4, 10, 11, 12, 25])
 (.cond (.t 25)
 (.seq (.region [⟨some 26, .mv (.t 0), none, []⟩,
 ⟨some 27, .mv (.t 1), none, []⟩,
 ⟨some 28, .mv (.t 2), none, []⟩,
 ⟨some 29, .mv (.t 4), none, []⟩,
 ⟨some 30, .call .heap [] (.f F1y) [(.t 26), (.t 27), (.t 28), (.t 29)], none, []⟩] [])
 (.ret))
 (.skip)))
 (.seq (.seq (.region [⟨some 31, .mv (.t 3), none, []⟩,
 ⟨some 32, .bin .eql (.t 31) (.c (.int .i64 0)), none, []⟩] [0, 1, 2, 3, 4, 10, 11, 12, 32])
 (.cond (.t 32)
 (.seq (.region [⟨some 33, .mv (.t 0), none, []⟩,
 ⟨some 34, .mv (.t 1), none, []⟩,
 ⟨some 35, .mv (.t 2), none, []⟩,
 ⟨some 36, .mv (.t 4), none, []⟩,
 ⟨some 37, .call .heap [] (.f F1x) [(.t 33), (.t 34), (.t 35), (.t 36)], none, []⟩] [])
 (.ret))
 (.skip)))
 (.seq (.seq (.region [⟨some 38, .mv (.t 10), none, []⟩,
 ⟨some 39, .un .not (.t 38), none, []⟩] [0, 1, 2, 3, 4, 10, 11, 12, 39])
 (.cond (.t 39)
 (.seq (.region [⟨some 40, .mv (.t 0), none, []⟩,
 ⟨some 41, .mv (.t 1), none, []⟩,
 ⟨some 42, .mv (.t 2), none, []⟩,
 ⟨some 43, .mv (.t 4), none, []⟩,
 ⟨some 44, .call .heap [] (.f F1v) [(.t 40), (.t 41), (.t 42), (.t 43)], none, []⟩] [0, 1, 2, 3, 4, 10, 11, 12])
 (.region [⟨some 45, .mv (.t 3), none, []⟩,
 ⟨some 46, .bin .sub (.t 45) (.c (.int .i64 1)), none, []⟩,
 ⟨some 3, .mv (.t 46), none, []⟩] [0, 1, 2, 3, 4, 10, 11, 12]))
 (.skip)))
 (.seq (.region [⟨some 48, .mv (.t 0), none, []⟩,
 ⟨some 49, .mv (.t 1), none, []⟩,
 ⟨some 50, .mv (.t 2), none, []⟩,
 ⟨some 51, .mv (.t 4), none, []⟩,
 ⟨some 52, .call .flat [] (.f F1w) [(.t 48), (.t 49), (.t 50), (.t 51)], none, []⟩,
 ⟨some 47, .mv (.t 52), none, []⟩,
 ⟨some 53, .ext (.t 47) 0, none, []⟩,
 ⟨some 54, .ext (.t 47) 1, none, []⟩,
 ⟨some 13, .mv (.t 53), none, []⟩,
 ⟨some 14, .mv (.t 54), none, []⟩] [0, 1, 2, 3, 4, 10, 11, 12, 13, 14])
 (.seq (.seq (.region [⟨some 55, .mv (.t 14), none, []⟩,
 ⟨some 56, .bin .eql (.t 55) (.c (.int .i64 2)), none, []⟩] [0, 1, 2, 3, 4, 10, 11, 12, 13, 14, 56])
 (.cond (.t 56)
 (.seq (.region [⟨some 57, .mv (.t 0), none, []⟩,
 ⟨some 58, .mv (.t 1), none, []⟩,
 ⟨some 59, .mv (.t 2), none, []⟩,
 ⟨some 60, .mv (.t 4), none, []⟩,
 ⟨some 61, .call .heap [] (.f F27) [(.t 57), (.t 58), (.t 59), (.t 60)], none, []⟩] [0, 1, 2, 3, 4, 10, 11, 12, 13])
 (.seq (.region [⟨some 62, .mv (.t 2), none, []⟩,
 ⟨some 63, .bin .sub (.t 62) (.c (.int .i64 1)), none, []⟩,
 ⟨some 64, .mv (.t 13), none, []⟩,
 ⟨some 65, .mv (.t 1), none, []⟩,
 ⟨some 66, .bin .sub (.t 64) (.t 65), none, []⟩,
 ⟨some 67, .bin .sub (.t 63) (.t 66), none, []⟩,
 ⟨some 13, .mv (.t 67), none, []⟩] [0, 1, 2, 3, 4, 10, 11, 12, 13])
 (.region [⟨some 14, .mv (.c (.int .i64 1)), none, []⟩] [0, 1, 2, 3, 4, 10, 11, 12, 13, 14])))
 (.skip)))
 (.seq (.seq (.region [⟨some 68, .mv (.t 10), none, []⟩,
 ⟨some 69, .mv (.t 68), none, []⟩,
 ⟨some 70, .mv (.t 11), some (69, true), []⟩,
 ⟨some 71, .pick (.t 69) (.t 70) (.c (.bool false)), none, []⟩,
 ⟨some 72, .mv (.t 71), none, []⟩,
 ⟨some 73, .mv (.t 14), some (72, true), []⟩,
 ⟨some 74, .bin .eql (.t 73) (.c (.int .i64 1)), some (72, true), []⟩,
 ⟨some 75, .pick (.t 72) (.t 74) (.c (.bool false)), none, []⟩] [0, 1, 2, 3, 4, 10, 11, 12, 13, 75])
 (.cond (.t 75)
 (.seq (.region [⟨some 76, .mv (.t 0), none, []⟩,
 ⟨some 77, .mv (.t 1), none, []⟩,
 ⟨some 78, .mv (.t 2), none, []⟩,
 ⟨some 79, .mv (.t 4), none, []⟩,
 ⟨some 80, .call .heap [] (.f F23) [(.t 76), (.t 77), (.t 78), (.t 79)], none, []⟩] [0, 1, 2, 3, 4, 10, 11, 12, 13, 80])
 (.cond (.t 80)
 (.ret)
 (.skip)))
 (.skip)))
 (.seq (.seq (.region [⟨some 81, .mv (.t 1), none, []⟩,
 ⟨some 82, .bin .gtr (.t 81) (.c (.int .i64 0)), none, []⟩,
 ⟨some 83, .mv (.t 82), none, []⟩,
 ⟨some 84, .mv (.t 4), some (83, true), []⟩,
 ⟨some 85, .mv (.t 0), some (83, true), []⟩,
 ⟨some 86, .mv (.t 1), some (83, true), []⟩,
 ⟨some 87, .bin .sub (.t 86) (.c (.int .i64 1)), some (83, true), []⟩,
 ⟨some 88, .idxA none (.st [.leaf, .leaf]) (.t 85) (.t 87), some (83, true), []⟩,
 ⟨some 89, .load (.st [.leaf, .leaf]) (.t 88), some (83, true), []⟩,
 ⟨some 90, .mv (.t 0), some (83, true), []⟩,
 ⟨some 91, .mv (.t 13), some (83, true), []⟩,
 ⟨some 92, .idxA none (.st [.leaf, .leaf]) (.t 90) (.t 91), some (83, true), []⟩,
 ⟨some 93, .load (.st [.leaf, .leaf]) (.t 92), some (83, true), []⟩,
 ⟨some 94, .call .flat [] (.t 84) [(.t 89), (.t 93)], some (83, true), []⟩,
 ⟨some 95, .bin .lss (.t 94) (.c (.int .i64 0)), some (83, true), []⟩,
 ⟨some 96, .un .not (.t 95), some (83, true), []⟩,
 ⟨some 97, .pick (.t 83) (.t 96) (.c (.bool false)), none, []⟩] [0, 1, 2, 3, 4, 10, 11, 12, 13, 97])
 (.cond (.t 97)
 (.seq (.region [⟨some 98, .mv (.t 0), none, []⟩,
 ⟨some 99, .mv (.t 1), none, []⟩,
 ⟨some 100, .mv (.t 2), none, []⟩,
 ⟨some 101, .mv (.t 13), none, []⟩,
 ⟨some 102, .mv (.t 4), none, []⟩,
 ⟨some 103, .call .heap [] (.f F25) [(.t 98), (.t 99), (.t 100), (.t 101), (.t 102)], none, []⟩,
 ⟨some 15, .mv (.t 103), none, []⟩] [0, 2, 3, 4, 10, 11, 15])
 (.seq (.region [⟨some 104, .mv (.t 15), none, []⟩,
 ⟨some 1, .mv (.t 104), none, []⟩] [0, 1, 2, 3, 4, 10, 11])
 (.exit 1)))
 (.skip)))
 (.seq (.region [⟨some 106, .mv (.t 0), none, []⟩,
 ⟨some 107, .mv (.t 1), none, []⟩,
 ⟨some 108, .mv (.t 2), none, []⟩,
 ⟨some 109, .mv (.t 13), none, []⟩,
 ⟨some 110, .mv (.t 4), none, []⟩,
 ⟨some 111, .call .heap [] (.f F24) [(.t 106), (.t 107), (.t 108), (.t 109), (.t 110)], none, []⟩,
 ⟨some 105, .mv (.t 111), none, []⟩,
 ⟨some 112, .ext (.t 105) 0, none, []⟩,
 ⟨some 113, .ext (.t 105) 1, none, []⟩,
 ⟨some 16, .mv (.t 112), none, []⟩,
 ⟨some 17, .mv (.t 113), none, []⟩] [0, 1, 2, 3, 4, 12, 16, 17])
 (.seq (.region [⟨some 114, .mv (.t 17), none, []⟩,
 ⟨some 11, .mv (.t 114), none, []⟩] [0, 1, 2, 3, 4, 11, 12, 16])
 (.seq (.region [⟨some 115, .mv (.t 16), none, []⟩,
 ⟨some 116, .mv (.t 1), none, []⟩,
 ⟨some 117, .bin .sub (.t 115) (.t 116), none, []⟩,
 ⟨some 118, .mv (.t 2), none, []⟩,
 ⟨some 119, .mv (.t 16), none, []⟩,
 ⟨some 120, .bin .sub (.t 118) (.t 119), none, []⟩,
 ⟨some 18, .mv (.t 117), none, []⟩,
 ⟨some 19, .mv (.t 120), none, []⟩] [0, 1, 2, 3, 4, 11, 12, 16, 18, 19])
 (.seq (.region [⟨some 121, .mv (.t 12), none, []⟩,
 ⟨some 122, .bin .quo (.t 121) (.c (.int .i64 8)), none, []⟩,
 ⟨some 20, .mv (.t 122), none, []⟩] [0, 1, 2, 3, 4, 11, 16, 18, 19, 20])
 (.seq (.region [⟨some 123, .mv (.t 18), none, []⟩,
 ⟨some 124, .mv (.t 19), none, []⟩,
 ⟨some 125, .bin .lss (.t 123) (.t 124), none, []⟩] [0, 1, 2, 3, 4, 11, 16, 18, 19, 20, 125])
 (.cond (.t 125)
 (.seq (.region [⟨some 126, .mv (.t 18), none, []⟩,
 ⟨some 127, .mv (.t 20), none, []⟩,
 ⟨some 128, .bin .geq (.t 126) (.t 127), none, []⟩,
 ⟨some 10, .mv (.t 128), none, []⟩] [0, 1, 2, 3, 4, 10, 11, 16])
 (.seq (.region [⟨some 129, .mv (.t 0), none, []⟩,
 ⟨some 130, .mv (.t 1), none, []⟩,
 ⟨some 131, .mv (.t 16), none, []⟩,
 ⟨some 132, .mv (.t 3), none, []⟩,
 ⟨some 133, .mv (.t 4), none, []⟩,
 ⟨some 134, .call .heap [] (.f F26) [(.t 129), (.t 130), (.t 131), (.t 132), (.t 133)], none, []⟩] [0, 2, 3, 4, 10, 11, 16])
 (.region [⟨some 135, .mv (.t 16), none, []⟩,
 ⟨some 136, .bin .add (.t 135) (.c (.int .i64 1)), none, []⟩,
 ⟨some 1, .mv (.t 136), none, []⟩] [0, 1, 2, 3, 4, 10, 11])))
 (.seq (.region [⟨some 137, .mv (.t 19), none, []⟩,
 ⟨some 138, .mv (.t 20), none, []⟩,
 ⟨some 139, .bin .geq (.t 137) (.t 138), none, []⟩,
 ⟨some 10, .mv (.t 139), none, []⟩] [0, 1, 2, 3, 4, 10, 11, 16])
 (.seq (.region [⟨some 140, .mv (.t 0), none, []⟩,
 ⟨some 141, .mv (.t 16), none, []⟩,
 ⟨some 142, .bin .add (.t 141) (.c (.int .i64 1)), none, []⟩,
 ⟨some 143, .mv (.t 2), none, []⟩,
 ⟨some 144, .mv (.t 3), none, []⟩,
 ⟨some 145, .mv (.t 4), none, []⟩,
 ⟨some 146, .call .heap [] (.f F26) [(.t 140), (.t 142), (.t 143), (.t 144), (.t 145)], none, []⟩] [0, 1, 3, 4, 10, 11, 16])
 (.region [⟨some 147, .mv (.t 16), none, []⟩,
 ⟨some 2, .mv (.t 147), none, []⟩] [0, 1, 2, 3, 4, 10, 11])))))))))))))))))
def Z26_B : Cd :=
 .seq (.region [⟨some 10, .mv (.c (.bool true)), none, []⟩] [0, 1, 2, 3, 4, 10])
 (.seq (.region [⟨some 11, .mv (.c (.bool true)), none, []⟩] [0, 1, 2, 3, 4, 10, 11])
 (.block 0 (.loop (Z26_L0))))
def Z26 : Fn :=
 { nparams := 5, nblk := 0, results := [], body := Z26_B }
def Z1u_B : Cd :=
 .seq (.region [⟨some 5, .mv (.t 0), none, []⟩,
 ⟨some 6, .len false (.t 5), none, []⟩,
 ⟨some 4, .mv (.t 6), none, []⟩] [0, 1, 4])
 (.region [⟨some 7, .mv (.t 0), none, []⟩,
 ⟨some 8, .mv (.t 4), none, []⟩,
 ⟨some 9, .mv (.t 4), none, []⟩,
 ⟨some 10, .conv .u64 (.t 9), none, []⟩,
 ⟨some 11, .call .flat [] (.f F1m) [(.t 10)], none, []⟩,
 ⟨some 12, .mv (.t 1), none, []⟩,
 ⟨some 13, .call .heap [] (.f F26) [(.t 7), (.c (.int .i64 0)), (.t 8), (.t 11), (.t 12)], none, []⟩] [])
def Z1u : Fn :=
 { nparams := 2, nblk := 0, results := [], body := Z1u_B }
def Z2_B : Cd :=
 .seq (.region [⟨some 2, .mv (.c (.bool false)), none, []⟩] [0])
 (.seq (.region [⟨some 3, .mv (.t 0), none, []⟩,
 ⟨some 4, .mv (.t 0), none, []⟩,
 ⟨some 5, .bin .neq (.t 3) (.t 4), none, []⟩,
 ⟨some 2, .mv (.t 5), none, []⟩] [2])
 (.ret))
def Z2 : Fn :=
 { nparams := 1, nblk := 0, results := [.tmp 2], body := Z2_B }
def Z0_B : Cd :=
 .seq (.region [⟨some 4, .mv (.c (.int .i64 0)), none, []⟩] [0, 1])
 (.seq (.region [⟨some 7, .mv (.t 0), none, []⟩,
 ⟨some 8, .call .flat [] (.f F2) [(.t 7)], none, []⟩,
 ⟨some 5, .mv (.t 8), none, []⟩] [0, 1, 5])
 (.seq (.region [⟨some 9, .mv (.t 1), none, []⟩,
 ⟨some 10, .call .flat [] (.f F2) [(.t 9)], none, []⟩,
 ⟨some 6, .mv (.t 10), none, []⟩] [0, 1, 5, 6])
 (.seq (.seq (.region [⟨some 11, .mv (.t 5), none, []⟩] [0, 1, 6, 11])
 (.cond (.t 11)
 (.seq (.seq (.region [⟨some 12, .mv (.t 6), none, []⟩] [12])
 (.cond (.t 12)
 (.seq (.region [⟨some 4, .mv (.c (.int .i64 0)), none, []⟩] [4])
 (.ret))
 (.skip)))
 (.seq (.region [⟨some 4, .mv (.c (.int .i64 (-1))), none, []⟩] [4])
 (.ret)))
 (.skip)))
 (.seq (.seq (.region [⟨some 13, .mv (.t 6), none, []⟩] [0, 1, 13])
 (.cond (.t 13)
 (.seq (.region [⟨some 4, .mv (.c (.int .i64 1)), none, []⟩] [4])
 (.ret))
 (.skip)))
 (.seq (.seq (.region [⟨some 14, .mv (.t 0), none, []⟩,
 ⟨some 15, .mv (.t 1), none, []⟩,
 ⟨some 16, .bin .lss (.t 14) (.t 15), none, []⟩] [0, 1, 16])
 (.cond (.t 16)
 (.seq (.region [⟨some 4, .mv (.c (.int .i64 (-1))), none, []⟩] [4])
 (.ret))
 (.skip)))
 (.seq (.seq (.region [⟨some 17, .mv (.t 0), none, []⟩,
 ⟨some 18, .mv (.t 1), none, []⟩,
 ⟨some 19, .bin .gtr (.t 17) (.t 18), none, []⟩] [19])
 (.cond (.t 19)
 (.seq (.region [⟨some 4, .mv (.c (.int .i64 1)), none, []⟩] [4])
 (.ret))
 (.skip)))
 (.seq (.region [⟨some 4, .mv (.c (.int .i64 0)), none, []⟩] [4])
 (.ret))))))))
def Z0 : Fn :=
 { nparams := 2, nblk := 0, results := [.tmp 4], body := Z0_B }
def Z3_B : Cd :=
 .seq (.region [⟨some 2, .mv (.c (.bool false)), none, []⟩] [0])
 (.seq (.region [⟨some 3, .mv (.t 0), none, []⟩,
 ⟨some 4, .mv (.t 0), none, []⟩,
 ⟨some 5, .bin .neq (.t 3) (.t 4), none, []⟩,
 ⟨some 2, .mv (.t 5), none, []⟩] [2])
 (.ret))
def Z3 : Fn :=
 { nparams := 1, nblk := 0, results := [.tmp 2], body := Z3_B }
def Z1_B : Cd :=
 .seq (.region [⟨some 4, .mv (.c (.int .i64 0)), none, []⟩] [0, 1])
 (.seq (.region [⟨some 7, .mv (.t 0), none, []⟩,
 ⟨some 8, .call .flat [] (.f F3) [(.t 7)], none, []⟩,
 ⟨some 5, .mv (.t 8), none, []⟩] [0, 1, 5])
 (.seq (.region [⟨some 9, .mv (.t 1), none, []⟩,
 ⟨some 10, .call .flat [] (.f F3) [(.t 9)], none, []⟩,
 ⟨some 6, .mv (.t 10), none, []⟩] [0, 1, 5, 6])
 (.seq (.seq (.region [⟨some 11, .mv (.t 5), none, []⟩] [0, 1, 6, 11])
 (.cond (.t 11)
 (.seq (.seq (.region [⟨some 12, .mv (.t 6), none, []⟩] [12])
 (.cond (.t 12)
 (.seq (.region [⟨some 4, .mv (.c (.int .i64 0)), none, []⟩] [4])
 (.ret))
 (.skip)))
 (.seq (.region [⟨some 4, .mv (.c (.int .i64 (-1))), none, []⟩] [4])
 (.ret)))
 (.skip)))
 (.seq (.seq (.region [⟨some 13, .mv (.t 6), none, []⟩] [0, 1, 13])
 (.cond (.t 13)
 (.seq (.region [⟨some 4, .mv (.c (.int .i64 1)), none, []⟩] [4])
 (.ret))
 (.skip)))
 (.seq (.seq (.region [⟨some 14, .mv (.t 0), none, []⟩,
 ⟨some 15, .mv (.t 1), none, []⟩,
 ⟨some 16, .bin .lss (.t 14) (.t 15), none, []⟩] [0, 1, 16])
 (.cond (.t 16)
 (.seq (.region [⟨some 4, .mv (.c (.int .i64 (-1))), none, []⟩] [4])
 (.ret))
 (.skip)))
 (.seq (.seq (.region [⟨some 17, .mv (.t 0), none, []⟩,
 ⟨some 18, .mv (.t 1), none, []⟩,
 ⟨some 19, .bin .gtr (.t 17) (.t 18), none, []⟩] [19])
 (.cond (.t 19)
 (.seq (.region [⟨some 4, .mv (.c (.int .i64 1)), none, []⟩] [4])
 (.ret))
 (.skip)))
 (.seq (.region [⟨some 4, .mv (.c (.int .i64 0)), none, []⟩] [4])
 (.ret))))))))
def Z1 : Fn :=
 { nparams := 2, nblk := 0, results := [.tmp 4], body := Z1_B }
end Pe

namespace Pe
open Go Gq
variable {T : Nat → Option Fn} {A : Oracle}
def noTup (ds : List D) : Prop := ∀ x ∈ ds, x.isTup = false
theorem toDs_map (h : Heap) : ∀ {ds : List D}, noTup ds → toDs h (ds.map .d) = some ds
 | [], _ => rfl
 | d :: ds, hn => by
  have h1 : d.isTup = false := hn d (by simp)
  have h2 := toDs_map h (ds := ds) fun x hx => hn x (by simp [hx])
  simp [h1, h2]
theorem toDs_app (h : Heap) : ∀ {a b : List V} {x y : List D}, toDs h a = some x → toDs h b = some y → toDs h (a ++ b) = some (x ++ y)
 | [], b, x, y, h1, h2 => by simp at h1; subst h1; simpa using h2
 | v :: a, b, x, y, h1, h2 => by
  simp only [toDs_cons] at h1
  obtain ⟨d, hd, h1⟩ := Option.bind_eq_some_iff.1 h1
  simp only [kDs_eq] at h1
  split at h1
  ·cases h1
  ·rename_i hn
   obtain ⟨z, hz, rfl⟩ := Option.map_eq_some_iff.1 h1
   have := toDs_app h hz h2
   simp [hd, hn, this]
theorem call_fn {O : Oracle} {np : Nat} {h : Heap} {news : List Nat} {g : Nat} {first caps : List D} {x r : D} (h1 : noTup first) (h2 : noTup caps) (hx : x.isTup = false) (ha : ask O g (first ++ [x] ++ caps) = some r) (hr : r.flat = true) :
 kCall O np h .flat news (g, first.map .d, caps.map .d) [.d x] = some (.d r, h) := by
 have e : toDs h (first.map .d ++ [.d x] ++ caps.map .d) = some (first ++ [x] ++ caps) :=
  toDs_app h (toDs_app h (toDs_map h h1) (toDs_map h (ds := [x]) (by intro y hy; simp at hy; subst hy; exact hx))) (toDs_map h h2)
 rw [kCall_flat, e, Option.bind_some, kAsk_ask, ha, Option.bind_some, kAns_flat, hr, if_pos rfl]
def idxF (P : D → Bool) : List D → Nat → Int
 | [], _ => -1
 | d :: ds, i => if P d then i else idxF P ds (i + 1)
theorem idxF_ge (P : D → Bool) : ∀ (ds : List D) (i : Nat), (0 ≤ idxF P ds i) ↔ ds.any P = true
 | [], i => by simp [idxF]
 | d :: ds, i => by
  rw [idxF]
  cases h : P d
  ·simp [h, idxF_ge P ds (i + 1)]
  ·simp [h]
def FnBool (O : Oracle) (g : Nat) (first caps cs : List D) (P : D → Bool) : Prop := noTup first ∧ noTup caps ∧ noTup cs ∧ ∀ x ∈ cs, ask O g (first ++ [x] ++ caps) = some (D.bool (P x))
def AllSh (s : Sh) (cs : List D) : Prop := ∀ x ∈ cs, x.sh = s
theorem l_indexB {O : Oracle} {g : Nat} {first caps cs : List D} {P : D → Bool} (hF : FnBool O g first caps cs P) (hs : AllSh .leaf cs) (hl : cs.length < 2000000) : ∀ (m i : Nat), i + m = cs.length →
 dn O 0 (.loop Z1s_L0) ⟨[(0, .d (.sl .leaf cs)), (1, .d (.fn g first caps)), (7, (.d (.int .i64 cs.length))), (8, (.d (.int .i64 i)))], []⟩ =
  if (cs.drop i).any P then some (.ret, ⟨[(4, (.d (.int .i64 (idxF P (cs.drop i) i))))], []⟩) else some (.exit 0, ⟨[(0, .d (.sl .leaf cs)), (1, .d (.fn g first caps)), (7, (.d (.int .i64 cs.length))), (8, (.d (.int .i64 cs.length))), (9, (.d (.bool false)))], []⟩)
 | 0, i, hi => by
  have : i = cs.length := by omega
  subst this
  rw [List.drop_length]
  exact dn_stop (by simp -implicitDefEqProofs [Z1s_L0, dn_cond])
 | m + 1, i, hi => by
  have hlt : i < cs.length := by omega
  have h1 : (i : Int) < cs.length := by omega
  have hx : cs[i]? = some cs[i] := List.getElem?_eq_getElem hlt
  have hm : cs[i] ∈ cs := List.getElem_mem hlt
  have hc := call_fn (O := O) (np := 0) (h := []) (news := []) hF.1 hF.2.1 (hF.2.2.1 _ hm) (hF.2.2.2 _ hm) rfl
  have hsh := hs _ hm
  have w4 : IntKind.i64.wrap ((i : Int) + 1) = ((i + 1 : Nat) : Int) := (w64 (x := (i : Int) + 1) (by omega)).trans (by omega)
  rw [List.drop_eq_getElem_cons hlt]
  cases hp : P cs[i]
  ·rw [hp] at hc
   refine dn_round (s1 := ⟨[(0, .d (.sl .leaf cs)), (1, .d (.fn g first caps)), (7, (.d (.int .i64 cs.length))), (8, (.d (.int .i64 ((i + 1 : Nat)))))], []⟩) ?_ ?_
   ·simp -implicitDefEqProofs [Z1s_L0, dn_cond, h1, hx, hsh, hc, w4]
   ·rw [l_indexB hF hs hl m (i + 1) (by omega)]
    simp only [List.any_cons, hp, Bool.false_or, idxF, Bool.false_eq_true, if_false]
  ·rw [hp] at hc
   have e : idxF P (cs[i] :: cs.drop (i + 1)) i = i := by simp [idxF, hp]
   rw [e]
   simp only [List.any_cons, hp, Bool.true_or, if_true]
   exact dn_back (by simp -implicitDefEqProofs [Z1s_L0, dn_cond, h1, hx, hsh, hc])
theorem l_indexP {O : Oracle} {g : Nat} {first caps cs : List D} {P : D → Bool} (hF : FnBool O g first caps cs P) (hs : AllSh (.arr 64 .leaf) cs) (hl : cs.length < 2000000) : ∀ (m i : Nat), i + m = cs.length →
 dn O 0 (.loop Z1t_L0) ⟨[(0, .d (.sl (.arr 64 .leaf) cs)), (1, .d (.fn g first caps)), (7, (.d (.int .i64 cs.length))), (8, (.d (.int .i64 i)))], []⟩ =
  if (cs.drop i).any P then some (.ret, ⟨[(4, (.d (.int .i64 (idxF P (cs.drop i) i))))], []⟩) else some (.exit 0, ⟨[(0, .d (.sl (.arr 64 .leaf) cs)), (1, .d (.fn g first caps)), (7, (.d (.int .i64 cs.length))), (8, (.d (.int .i64 cs.length))), (9, (.d (.bool false)))], []⟩)
 | 0, i, hi => by
  have : i = cs.length := by omega
  subst this
  rw [List.drop_length]
  exact dn_stop (by simp -implicitDefEqProofs [Z1t_L0, dn_cond])
 | m + 1, i, hi => by
  have hlt : i < cs.length := by omega
  have h1 : (i : Int) < cs.length := by omega
  have hx : cs[i]? = some cs[i] := List.getElem?_eq_getElem hlt
  have hm : cs[i] ∈ cs := List.getElem_mem hlt
  have hc := call_fn (O := O) (np := 0) (h := []) (news := []) hF.1 hF.2.1 (hF.2.2.1 _ hm) (hF.2.2.2 _ hm) rfl
  have hsh := hs _ hm
  have w4 : IntKind.i64.wrap ((i : Int) + 1) = ((i + 1 : Nat) : Int) := (w64 (x := (i : Int) + 1) (by omega)).trans (by omega)
  rw [List.drop_eq_getElem_cons hlt]
  cases hp : P cs[i]
  ·rw [hp] at hc
   refine dn_round (s1 := ⟨[(0, .d (.sl (.arr 64 .leaf) cs)), (1, .d (.fn g first caps)), (7, (.d (.int .i64 cs.length))), (8, (.d (.int .i64 ((i + 1 : Nat)))))], []⟩) ?_ ?_
   ·simp -implicitDefEqProofs [Z1t_L0, dn_cond, h1, hx, hsh, hc, w4]
   ·rw [l_indexP hF hs hl m (i + 1) (by omega)]
    simp only [List.any_cons, hp, Bool.false_or, idxF, Bool.false_eq_true, if_false]
  ·rw [hp] at hc
   have e : idxF P (cs[i] :: cs.drop (i + 1)) i = i := by simp [idxF, hp]
   rw [e]
   simp only [List.any_cons, hp, Bool.true_or, if_true]
   exact dn_back (by simp -implicitDefEqProofs [Z1t_L0, dn_cond, h1, hx, hsh, hc])
def C_indexOf (O : Oracle) (F : Nat) (s : Sh) : Prop := ∀ (g : Nat) (first caps cs : List D) (P : D → Bool), FnBool O g first caps cs P → AllSh s cs → cs.length < 2000000 →
 ask O F [.sl s cs, .fn g first caps] = some (D.int .i64 (idxF P cs 0))
theorem c_indexB (hT : T F1s = some Z1s) : C_indexOf (den T A) F1s .leaf := by
 intro g first caps cs P hF hs hl
 have h := l_indexB hF hs hl cs.length 0 (Nat.zero_add _)
 rw [List.drop_zero] at h
 have e0 : ((0 : Nat) : Int) = 0 := rfl
 rw [e0] at h
 refine ask_of hT rfl ?_
 by_cases ha : cs.any P = true
 ·rw [if_pos ha] at h
  simp -implicitDefEqProofs [Z1s, Z1s_B, h]
 ·rw [if_neg ha] at h
  have hn : idxF P cs 0 = -1 := by
   have hi : ∀ (ds : List D) (i : Nat), ds.any P = false → idxF P ds i = -1 := by
    intro ds
    induction ds with
    | nil => intro i _; rfl
    | cons d ds ih => intro i hd; simp at hd; rw [idxF, hd.1]; simpa using ih (i + 1) (by simpa using hd.2)
   exact hi cs 0 (by simpa using ha)
  simp -implicitDefEqProofs [Z1s, Z1s_B, h, hn]
theorem c_indexP (hT : T F1t = some Z1t) : C_indexOf (den T A) F1t (.arr 64 .leaf) := by
 intro g first caps cs P hF hs hl
 have h := l_indexP hF hs hl cs.length 0 (Nat.zero_add _)
 rw [List.drop_zero] at h
 have e0 : ((0 : Nat) : Int) = 0 := rfl
 rw [e0] at h
 refine ask_of hT rfl ?_
 by_cases ha : cs.any P = true
 ·rw [if_pos ha] at h
  simp -implicitDefEqProofs [Z1t, Z1t_B, h]
 ·rw [if_neg ha] at h
  have hn : idxF P cs 0 = -1 := by
   have hi : ∀ (ds : List D) (i : Nat), ds.any P = false → idxF P ds i = -1 := by
    intro ds
    induction ds with
    | nil => intro i _; rfl
    | cons d ds ih => intro i hd; simp at hd; rw [idxF, hd.1]; simpa using ih (i + 1) (by simpa using hd.2)
   exact hi cs 0 (by simpa using ha)
  simp -implicitDefEqProofs [Z1t, Z1t_B, h, hn]
def C_anyOf (O : Oracle) (F : Nat) (s : Sh) : Prop := ∀ (g : Nat) (first caps cs : List D) (P : D → Bool), FnBool O g first caps cs P → AllSh s cs → cs.length < 2000000 →
 ask O F [.sl s cs, .fn g first caps] = some (D.bool (cs.any P))
theorem c_containsB (hT : T F1q = some Z1q) (hi : C_indexOf (den T A) F1s .leaf) : C_anyOf (den T A) F1q .leaf := by
 intro g first caps cs P hF hs hl
 have h := hi g first caps cs P hF hs hl
 have e : decide (0 ≤ idxF P cs 0) = cs.any P := by rw [Bool.eq_iff_iff]; simpa using idxF_ge P cs 0
 refine ask_of hT rfl ?_
 simp -implicitDefEqProofs [Z1q, Z1q_B, h, e]
theorem c_containsP (hT : T F1r = some Z1r) (hi : C_indexOf (den T A) F1t (.arr 64 .leaf)) : C_anyOf (den T A) F1r (.arr 64 .leaf) := by
 intro g first caps cs P hF hs hl
 have h := hi g first caps cs P hF hs hl
 have e : decide (0 ≤ idxF P cs 0) = cs.any P := by rw [Bool.eq_iff_iff]; simpa using idxF_ge P cs 0
 refine ask_of hT rfl ?_
 simp -implicitDefEqProofs [Z1r, Z1r_B, h, e]
end Pe

namespace Pe
open Go Gq
variable {T : Nat → Option Fn} {A : Oracle}
def D.num : D → Int
 | .int _ n => n
 | _ => 0
def Bytes (l : List Int) : Prop := ∀ x ∈ l, 0 ≤ x ∧ x < 256
abbrev arr8 (l : List Int) : D := (D.arr 64 .leaf (ints .u8 l))
def C_allOf (O : Oracle) (F : Nat) (s : Sh) : Prop := ∀ (g : Nat) (first caps cs : List D) (P : D → Bool), FnBool O g first caps cs P → AllSh s cs → cs.length < 2000000 →
 ask O F [.sl s cs, .fn g first caps] = some (D.bool (cs.all P))
theorem any_not (P : D → Bool) (cs : List D) : (!cs.any fun x => !P x) = cs.all P := by
 induction cs with
 | nil => rfl
 | cons c cs ih => simp [← ih]
theorem c_notB {g : Nat} {first caps cs : List D} {P : D → Bool} (hT : T Fc = some Zc) (hF : FnBool (den T A) g first caps cs P) : FnBool (den T A) Fc [] [.ip (.fn g first caps)] cs fun x => !P x := by
 refine ⟨fun x hx => by simp at hx, fun x hx => by simp at hx; subst hx; rfl, hF.2.2.1, fun x hx => ?_⟩
 have hc := call_fn (O := den T A) (np := 0) (h := []) (news := []) hF.1 hF.2.1 (hF.2.2.1 _ hx) (hF.2.2.2 _ hx) rfl
 refine ask_of hT rfl ?_
 simp -implicitDefEqProofs [Zc, Zc_B, hc]
theorem c_areAllB (hT : T Fb = some Zb) (hT1 : T Fc = some Zc) (hc : C_anyOf (den T A) F1q .leaf) : C_allOf (den T A) Fb .leaf := by
 intro g first caps cs P hF hs hl
 have e := hc _ _ _ _ _ (c_notB hT1 hF) hs hl
 have e2 := any_not P cs
 have t1 := toDs_map [.box false (.fn g first caps)] hF.1
 have t2 := toDs_map [.box false (.fn g first caps)] hF.2.1
 rw [← e2]
 generalize (cs.any fun x => !P x) = r at *
 refine ask_of hT rfl ?_
 simp -implicitDefEqProofs [Zb, Zb_B, e]
theorem c_notP {g : Nat} {first caps cs : List D} {P : D → Bool} (hT : T Ff = some Zf) (hs : AllSh (.arr 64 .leaf) cs) (hF : FnBool (den T A) g first caps cs P) : FnBool (den T A) Ff [] [.ip (.fn g first caps)] cs fun x => !P x := by
 refine ⟨fun x hx => by simp at hx, fun x hx => by simp at hx; subst hx; rfl, hF.2.2.1, fun x hx => ?_⟩
 have hc := call_fn (O := den T A) (np := 0) (h := [.box false x]) (news := []) hF.1 hF.2.1 (hF.2.2.1 _ hx) (hF.2.2.2 _ hx) rfl
 have h1 := hF.2.2.1 _ hx
 have h2 := hs _ hx
 refine ask_of hT rfl ?_
 simp -implicitDefEqProofs [Zf, Zf_B, hc, h1, h2]
theorem c_areAllP (hT : T Fe = some Ze) (hT1 : T Ff = some Zf) (hc : C_anyOf (den T A) F1r (.arr 64 .leaf)) : C_allOf (den T A) Fe (.arr 64 .leaf) := by
 intro g first caps cs P hF hs hl
 have e := hc _ _ _ _ _ (c_notP hT1 hs hF) hs hl
 have e2 := any_not P cs
 rw [← e2]
 generalize (cs.any fun x => !P x) = r at *
 refine ask_of hT rfl ?_
 simp -implicitDefEqProofs [Ze, Ze_B, e]
def isPl (p : Int) (l : List Int) : Bool := l.all fun x => decide (x < p)
def C_isPoly (O : Oracle) : Prop := ∀ (p : Int) (l : List Int), Bytes l → l.length = 64 → ask O Fj [(D.int .i64 p), (D.arr 64 .leaf (ints .u8 l))] = some (D.bool (isPl p l))
theorem all_ints (p : Int) (l : List Int) : ((ints .u8 l).all fun x => decide (x.num < p)) = isPl p l := by
 unfold ints isPl
 rw [List.all_map]
 rfl
theorem c_isPoly (hT : T Fj = some Zj) (hT1 : T Fk = some Zk) (ha : C_allOf (den T A) Fb .leaf) : C_isPoly (den T A) := by
 intro p l hb hl
 have hF : FnBool (den T A) Fk [] [.ip (D.int .i64 p)] (ints .u8 l) fun x => decide (x.num < p) := by
  refine ⟨fun x hx => by simp at hx, fun x hx => by simp at hx; subst hx; rfl, fun x hx => ?_, fun x hx => ?_⟩
  ·obtain ⟨n, _, rfl⟩ := List.mem_map.1 hx; rfl
  ·obtain ⟨n, hn, rfl⟩ := List.mem_map.1 hx
   have h1 := hb n hn
   have w1 : IntKind.i64.wrap n = n := w64 (by omega)
   refine ask_of hT1 rfl ?_
   simp -implicitDefEqProofs [Zk, Zk_B, w1, D.num]
   exact decide_eq_decide.2 Iff.rfl
 have e := ha _ _ _ _ _ hF (fun x hx => by obtain ⟨n, _, rfl⟩ := List.mem_map.1 hx; rfl) (by simp [hl])
 rw [all_ints] at e
 have ht : l.take 64 = l := List.take_of_length_le (by omega)
 refine ask_of hT rfl ?_
 simp -implicitDefEqProofs [Zj, Zj_B, e, hl, ht]
def codeP (p : Int) (ls : List (List Int)) : Int := if isP p ∧ ls.all (isPl p) then 0 else 1
def Arrs (ls : List (List Int)) : Prop := ∀ l ∈ ls, l.length = 64 ∧ Bytes l
def D.nums : D → List Int
 | .arr _ _ cs => cs.map D.num
 | _ => []
theorem nums_arr8 (l : List Int) : (arr8 l).nums = l := by
 simp only [D.nums, ints, List.map_map]
 have : (D.num ∘ D.int .u8) = id := rfl
 rw [this, List.map_id]
def C_polysCode (O : Oracle) : Prop := ∀ (p : Int) (ls : List (List Int)), Arrs ls → ls.length < 2000000 → ask O Fo [(D.int .i64 p), .sl (.arr 64 .leaf) (ls.map arr8)] = some (D.int .i64 (codeP p ls))
theorem fn_isPoly {p : Int} {ls : List (List Int)} (h : Arrs ls) (hT1 : T Fq = some Zq) (hi : C_isPoly (den T A)) : FnBool (den T A) Fq [] [.ip (D.int .i64 p)] (ls.map arr8) fun x => isPl p x.nums := by
 refine ⟨fun x hx => by simp at hx, fun x hx => by simp at hx; subst hx; rfl, fun x hx => ?_, fun x hx => ?_⟩
 ·obtain ⟨n, _, rfl⟩ := List.mem_map.1 hx; rfl
 ·obtain ⟨n, hn, rfl⟩ := List.mem_map.1 hx
  have e := hi p n (h n hn).2 (h n hn).1
  have e2 := nums_arr8 n
  refine ask_of hT1 rfl ?_
  simp -implicitDefEqProofs [Zq, Zq_B, e, e2]
theorem all_arrs (p : Int) (ls : List (List Int)) : ((ls.map arr8).all fun x => isPl p x.nums) = ls.all (isPl p) := by
 rw [List.all_map]
 congr 1
 funext l
 simp only [Function.comp, nums_arr8]
theorem c_polysCode (hT : T Fo = some Zo) (hT1 : T Fq = some Zq) (hp : C_isPrime (den T A)) (hi : C_isPoly (den T A)) (ha : C_allOf (den T A) Fe (.arr 64 .leaf)) : C_polysCode (den T A) := by
 intro p ls h hl
 have e := ha _ _ _ _ _ (fn_isPoly (p := p) h hT1 hi) (fun x hx => by obtain ⟨n, _, rfl⟩ := List.mem_map.1 hx; rfl) (by simpa using hl)
 rw [all_arrs] at e
 have e1 := hp p
 unfold codeP
 refine ask_of hT rfl ?_
 cases h1 : isP p
 ·rw [h1] at e1
  simp -implicitDefEqProofs [Zo, Zo_B, e1, dn_cond]
 ·rw [h1] at e1
  cases h2 : ls.all (isPl p)
  ·rw [h2] at e
   simp -implicitDefEqProofs [Zo, Zo_B, e1, e, dn_cond]
  ·rw [h2] at e
   simp -implicitDefEqProofs [Zo, Zo_B, e1, e, dn_cond]
end Pe

namespace Pe
open Go
theorem has_bytes : ∀ (xs : List D), (∀ x ∈ xs, (Ty.int .u8).has x) → ∃ l : List Int, xs = ints .u8 l ∧ Bytes l
 | [], _ => ⟨[], rfl, fun _ h => by cases h⟩
 | x :: xs, h => by
  obtain ⟨l, rfl, hb⟩ := has_bytes xs fun y hy => h y (List.mem_cons_of_mem _ hy)
  have h1 := h x (by simp)
  cases x <;> simp only [Ty.has] at h1
  obtain ⟨rfl, h1⟩ := h1
  refine ⟨_ :: l, rfl, fun y hy => ?_⟩
  rcases List.mem_cons.1 hy with rfl | hy
  ·have := bounds_u8 h1; omega
  ·exact hb y hy
theorem hasAll_nil {xs : List D} (h : Ty.hasAll [] xs) : xs = [] := by
 cases xs <;> simp only [Ty.hasAll] at h; rfl
theorem hasAll_cons {T : Ty} {Ts : List Ty} {xs : List D} (h : Ty.hasAll (T :: Ts) xs) : ∃ x r, xs = x :: r ∧ T.has x ∧ Ty.hasAll Ts r := by
 cases xs <;> simp only [Ty.hasAll] at h; exact ⟨_, _, rfl, h⟩
def okAt (P : Program) (num : Nat → Nat) (g : Nat) (fn : Fn) : Bool := match P.funcs[g]? with
 | some x => fnOk P num fn x
 | none => false
def AllOk (P : Program) (num : Nat → Nat) : List (Nat × Fn) → Prop
 | [] => True
 | e :: r => okAt P num (num e.1) e.2 = true ∧ AllOk P num r
theorem tab_sound {P : Program} {num : Nat → Nat} : ∀ {l : List (Nat × Fn)}, AllOk P num l → ∀ f fn, l.lookup f = some fn → ∃ g, P.funcs[num f]? = some g ∧ fnOk P num fn g = true
 | [], _, f, fn, h => by cases h
 | (a, b) :: r, ⟨h1, h2⟩, f, fn, h => by
  rw [List.lookup_cons] at h
  split at h
  ·rename_i e
   obtain rfl := Option.some.inj h
   have : f = a := by simpa using e
   subst this
   unfold okAt at h1
   split at h1
   ·rename_i g hg; exact ⟨g, hg, h1⟩
   ·cases h1
  ·exact tab_sound h2 f fn h
end Pe

namespace Pe
open Go
variable {P : Program} {num : Nat → Nat}
theorem line_sound {C : Cx} {φ : Loc} {s : St} {a : Act} {ops : Array Oper} {N np : Nat} {o : Oper} {j d : Nat} {v : V} {K : Act → World → Prop} {Q : Exit → Act → World → Prop}
 (hs : SR C φ s a.tmps) (hN : N ≤ a.tmps.size) (hd : o.dst = some d) (hdN : d < N) (hg : o.guard = none) (hj : ops[j]? = some o) (hop : OpWp P o a C φ s.h v s.h (fun _ => False))
 (hK : ∀ C' φ' u, Runs np C C' φ φ' s.h s.h → SR C' φ' ⟨(d, v) :: s.e, s.h⟩ (a.put o.dst u).tmps → K (a.put o.dst u) C'.w) : wpOp P ops Q j K a C.w := by
 have hw : Region.wanted o (yielded ops a.tmps) = true := by unfold Region.wanted; rw [hg]
 unfold wpOp
 simp only [hj]
 rw [hw, if_pos rfl]
 left
 refine hop K Q fun C' φ' u st hx k => hK C' φ' u ⟨st, k.mono fun _ h => h.elim⟩ ⟨st.hr, st.bd, fun n w hn => ?_⟩
 simp only [Env.get] at hn
 rw [hd, act_get (Nat.lt_of_lt_of_le hdN hN)]
 by_cases hdn : d = n
 ·subst hdn
  simp only [if_true, Option.some.injEq] at hn
  subst hn
  refine ⟨u, if_pos rfl, ?_⟩
  rcases hx with hx | hx
  ·rw [hd] at hx; cases hx
  ·exact hx
 ·rw [if_neg hdn] at hn
  rw [if_neg (Ne.symm hdn)]
  obtain ⟨u0, h1, h2⟩ := hs.env n w hn
  exact ⟨u0, h1, k w u0 (fun _ _ h => h.elim) h2⟩
theorem nilq_any {C : Cx} {φ : Loc} {s : St} {a : Act} {o : Oper} (hs : SR C φ s a.tmps) {x : Arg} {x' y' : Operand} {t yt e : TypeId} (ho : o.op = .binOp .eql t x' y' yt) (hx : argOk C.num x x' = true) (ht : P.underlying t = some (.slice e)) (hy : a.eval y' = .slice none 0 0)
 {sh : Sh} {cs : List D} (hv : s.e.arg x = some (.d (.sl sh cs))) : ∃ b, OpGood P o a C φ s.h (.d (.bool b)) s.h (fun _ => False) := by
 obtain ⟨ad, c, e1, _, _⟩ := RX_sl (arg_sound hs hx hv)
 refine ⟨decide (ad = none), good_same hs (u := .bool (decide (ad = none))) ?_ (RX_mk_bool ..)⟩
 have hq : (Go.Op.equal t (.slice ad cs.length c) (.slice none 0 0)).run P C.w = .ok (decide (ad = none)) C.w := by
  show (Go.Op.equalIn (9999 + 1) t (.slice ad cs.length c) (.slice none 0 0)).run P C.w = .ok (decide (ad = none)) C.w
  generalize 9999 = d
  cases ad <;> simp [Go.Op.equalIn, Sem.run_bind, run_underlying ht, Result.andThen_ok, Sem.run_pure]
 have hb : binOp .eql t (.slice ad cs.length c) (.slice none 0 0) = (do pure (.bool (← Go.Op.equal t (.slice ad cs.length c) (.slice none 0 0)))) := rfl
 simp [execOp, ho, e1, hy, eqGuard, hb, hq]
theorem opOk_nilq {x : Arg} {o : Oper} (h : opOk P num (.nilq false x) o = true) : ∃ t x' y' yt e, o.op = .binOp .eql t x' y' yt ∧ argOk num x x' = true ∧ isNilSlice y' = true ∧ P.underlying t = some (.slice e) := by
 cases hq : o.op with
 | binOp op t x' y' yt =>
  simp only [opOk, hq, Bool.and_eq_true, decide_eq_true_eq] at h
  obtain ⟨⟨⟨h3, h4⟩, h5⟩, h6⟩ := h
  split at h6
  ·rename_i e he
   exact ⟨t, x', y', yt, e, by rw [h3]; rfl, h4, h5, he⟩
  ·cases h6
 | _ => simp only [opOk, hq, Bool.false_eq_true] at h
def cloneCd (s : Sh) (z : D) (bytes : Nat) : Cd :=
 .seq (.region [⟨some 2, .nilOwn 0 s, none, []⟩] [0])
 (.seq (.seq (.region [⟨some 3, .mv (.t 0), none, []⟩,
  ⟨some 4, .nilq false (.t 3), none, []⟩] [0, 4])
  (.cond (.t 4)
   (.seq (.region [⟨some 2, .nilOwn 2 s, none, []⟩] [2])
    (.ret))
   (.skip)))
  (.seq (.region [⟨some 5, .buildSl false 2 s z 0 [], none, []⟩,
   ⟨some 6, .mv (.t 0), none, []⟩,
   ⟨some 7, .append s 3 bytes (.t 5) (.t 6), none, []⟩,
   ⟨some 2, .mv (.t 7), none, []⟩] [2])
   (.ret)))
def cloneFn (s : Sh) (z : D) (bytes : Nat) : Fn := { nparams := 1, nblk := 4, results := [.tmp 2], body := cloneCd s z bytes }
def cloneShape : Code → Bool
 | .seq _ (.seq (.seq (.region _ _ false) _) _) => true
 | _ => false
theorem codeOk_seq {N : Nat} {a b : Cd} {x : Code} (h : codeOk P num N (.seq a b) x = true) : ∃ y z, x = .seq y z ∧ codeOk P num N a y = true ∧ codeOk P num N b z = true := by
 cases x <;> simp only [codeOk, Bool.false_eq_true, Bool.and_eq_true] at h
 exact ⟨_, _, rfl, h⟩
def cloneEnd (s : Sh) : St := ⟨[(2, .sl 2 [] 0 0 none)], [.hole, .hole, .sl false s [], .hole]⟩
theorem noCalls : CallOk P num (fun _ _ _ => none) := fun f vs bs ans h => by cases h
theorem clone_empty {s : Sh} {z : D} {bytes N : Nat} (hm : P.follows .mixedOrders = true) {x : Code} (hok : codeOk P num N (cloneCd s z bytes) x = true) (hshape : cloneShape x = true) (hbeq : Sh.beq s s = true)
 (C : Cx) (φ : Loc) (a : Act) (hC : C.num = num) (hs : SR C φ ⟨params 0 [.d (.sl s [])], [] ++ List.replicate 4 .hole⟩ a.tmps) (hN : N ≤ a.tmps.size)
 (Q : Exit → Act → World → Prop) (hQ : Fits num 0 Q .ret C φ ([] ++ List.replicate 4 .hole) (cloneEnd s) a) : x.wp P Q a C.w := by
 obtain ⟨x1, x2, rfl, ok1, ok2⟩ := codeOk_seq hok
 obtain ⟨x3, x4, rfl, ok3, ok4⟩ := codeOk_seq ok2
 obtain ⟨x5, x6, rfl, ok5, ok6⟩ := codeOk_seq ok3
 have nc : CallOk P num (fun _ _ _ => none) := noCalls
 -- ahead
 refine wp_seq (code_sound (O := fun _ _ _ => none) (np := 0) (N := N) nc hm 1 _ _ ok1 C φ _ ⟨[(0, .d (.sl s []))], [.hole, .hole, .hole, .hole]⟩ a .normal hC hs hN rfl _ ?_)
 intro C1 φ1 a1 k1 r1 hs1 z1 d1
 refine wp_seq (wp_seq ?_)
 -- the question
 cases x5 <;> simp only [codeOk, Bool.false_eq_true, Bool.and_eq_true] at ok5
 rename_i id ops draw
 cases draw with
 | true => simp [cloneShape] at hshape
 | false =>
 have hops := ok5.1
 obtain ⟨hl, hget⟩ := insOks_get hops
 have hl2 : ops.size = 2 := by simpa using hl.symm
 have g0 : ops.toList[0]? = some ops[0] := by simp [hl2]
 have g1 : ops.toList[1]? = some ops[1] := by simp [hl2]
 have i0 := hget 0 _ _ rfl g0
 have i1 := hget 1 _ _ rfl g1
 have N1 : N ≤ a1.tmps.size := by rw [z1]; exact hN
 refine wp_region ?_
 rw [hl2]
 show wpOps P ops _ [0, 1] a1 C1.w
 rw [wpOps_cons]
 refine ins_sound (O := fun _ _ _ => none) (np := 0) (k1 ▸ nc) hs1 N1 (k1 ▸ i0) (by simp) (s' := ⟨[(3, .d (.sl s [])), (0, .d (.sl s []))], [.hole, .hole, .hole, .hole]⟩) rfl fun C2 φ2 u2 rn2 hs2 => ?_
 have k2 : C2.num = num := rn2.st.le.num.trans k1
 rw [wpOps_cons]
 unfold insOk at i1
 simp only [Bool.and_eq_true, decide_eq_true_eq] at i1
 obtain ⟨⟨⟨hdst, hdN⟩, hop⟩, hguard⟩ := i1
 have hdst' : ops[1].dst = some 4 := hdst.symm
 have hdN' : 4 < N := by simpa [hdst'] using hdN
 have hg : ops[1].guard = none := by
  cases hq : ops[1].guard with
  | none => rfl
  | some q => rw [hq] at hguard; simp at hguard
 have N2 : N ≤ (a1.put ops[0].dst u2).tmps.size := by rw [put_size]; exact N1
 have key : ∃ b, OpGood P ops[1] (a1.put ops[0].dst u2) C2 φ2 [.hole, .hole, .hole, .hole] (.d (.bool b)) [.hole, .hole, .hole, .hole] (fun _ => False) := by
  obtain ⟨t, x', y', yt, e, h1, h2, h3, h4⟩ := opOk_nilq hop
  refine nilq_any hs2 h1 (k2 ▸ h2) h4 ?_ (x := .t 3) (sh := s) (cs := []) rfl
  unfold isNilSlice at h3
  split at h3
  ·rfl
  ·cases h3
 obtain ⟨b, key⟩ := key
 refine line_sound (np := 0) hs2 N2 hdst' hdN' hg (by simp) key.wp fun C3 φ3 u3 rn3 hs3 => ?_
 have k3 : C3.num = num := rn3.st.le.num.trans k2
 show (Exit.then _ _) .normal _ _
 obtain ⟨rn4, hs4⟩ := region_end 0 hs3 [0, 4]
 have N4 : N ≤ ((a1.put ops[0].dst u2).put ops[1].dst u3).tmps.size := by rw [put_size]; exact N2
 have d4 : ((a1.put ops[0].dst u2).put ops[1].dst u3).defers = a.defers := by
  rw [← d1]
  cases ops[0].dst <;> cases ops[1].dst <;> rfl
 have z4 : ((a1.put ops[0].dst u2).put ops[1].dst u3).tmps.size = a.tmps.size := by rw [put_size, put_size, z1]
 have back : Runs 0 C C3 φ φ3 ([] ++ List.replicate 4 .hole) [.hole, .hole, .hole, .hole] := (r1.trans (rn2.trans rn3)).trans rn4
 generalize ((a1.put ops[0].dst u2).put ops[1].dst u3) = a3 at *
 have hs5 : SR C3 φ3 ⟨[(0, .d (.sl s [])), (4, .d (.bool b))], [.hole, .hole, .hole, .hole]⟩ a3.tmps := hs4
 cases b with
 | true =>
  have ev : evalCd (fun _ _ _ => none) 0 1 (.cond (.t 4) (.seq (.region [⟨some 2, .nilOwn 2 s, none, []⟩] [2]) (.ret)) (.skip)) ⟨[(0, .d (.sl s [])), (4, .d (.bool true))], [.hole, .hole, .hole, .hole]⟩ = some (.ret, ⟨[(2, .sl 2 [] 0 0 (some 0))], [.hole, .hole, .sl false s [], .hole]⟩) := rfl
  refine code_sound (O := fun _ _ _ => none) (np := 0) (N := N) nc hm 1 _ _ ok6 C3 φ3 _ _ a3 .ret k3 hs5 N4 ev _ ?_
  intro C6 φ6 a6 k6 r6 hs6 z6 d6
  refine hQ C6 φ6 a6 k6 (back.trans r6) ⟨hs6.hr, hs6.bd, fun n v hn => ?_⟩ (z6.trans z4) (d6.trans d4)
  simp only [cloneEnd, Env.get] at hn
  split at hn
  ·rename_i h2
   subst h2
   obtain rfl := Option.some.inj hn
   obtain ⟨u, h5, h6⟩ := hs6.env 2 (.sl 2 [] 0 0 (some 0)) rfl
   refine ⟨u, h5, ?_⟩
   simp only [RX] at h6 ⊢
   obtain ⟨B, base, sh, m, ad, c, e1, e2, e3, e4, e5, e6, e7⟩ := h6
   exact ⟨B, base, sh, m, ad, c, e1, e2, e3, e4, e5, (fun k hk => by cases hk), e7⟩
  ·cases hn
 | false =>
  have ev : evalCd (fun _ _ _ => none) 0 1 (.cond (.t 4) (.seq (.region [⟨some 2, .nilOwn 2 s, none, []⟩] [2]) (.ret)) (.skip)) ⟨[(0, .d (.sl s [])), (4, .d (.bool false))], [.hole, .hole, .hole, .hole]⟩ = some (.normal, ⟨[(0, .d (.sl s [])), (4, .d (.bool false))], [.hole, .hole, .hole, .hole]⟩) := rfl
  refine code_sound (O := fun _ _ _ => none) (np := 0) (N := N) nc hm 1 _ _ ok6 C3 φ3 _ _ a3 .normal k3 hs5 N4 ev _ ?_
  intro C6 φ6 a6 k6 r6 hs6 z6 d6
  have ev2 : evalCd (fun _ _ _ => none) 0 1 (.seq (.region [⟨some 5, .buildSl false 2 s z 0 [], none, []⟩, ⟨some 6, .mv (.t 0), none, []⟩, ⟨some 7, .append s 3 bytes (.t 5) (.t 6), none, []⟩, ⟨some 2, .mv (.t 7), none, []⟩] [2]) (.ret)) ⟨[(0, .d (.sl s [])), (4, .d (.bool false))], [.hole, .hole, .hole, .hole]⟩ = some (.ret, cloneEnd s) := by
   simp [evalCd, evalList, evalIns, execIns, Ins.side, Ins.on, evalOp, partsD, fillD, freezeIf, partsRefs, putBlk, Env.arg, Env.get, Env.putO, Env.kill, Op.kill, toD, hbeq, Env.keep, clean, Env.refd, V.refs, cloneEnd, Env.clear]
  refine code_sound (O := fun _ _ _ => none) (np := 0) (N := N) nc hm 1 _ _ ok4 C6 φ6 _ _ a6 .ret k6 hs6 (by rw [z6]; exact N4) ev2 _ ?_
  intro C7 φ7 a7 k7 r7 hs7 z7 d7
  exact hQ C7 φ7 a7 k7 ((back.trans r6).trans r7) hs7 (z7.trans (z6.trans z4)) (d7.trans (d6.trans d4))
theorem clone_sound {s : Sh} {z : D} {bytes : Nat} (hm : P.follows .mixedOrders = true) {f : Nat} {g : Func} (hg : P.funcs[num f]? = some g) (hok : fnOk P num (cloneFn s z bytes) g = true) (hshape : (match g.body with | some x => cloneShape x | none => false) = true) (hbeq : Sh.beq s s = true)
 {cs : List D} (hl : cs.length * bytes ≤ 1099511627776) {C : Cx} {φ : Loc} {us : List Value} (hC : C.num = num) (hr : HR C φ []) (hb : ∀ b, C.I b → b < C.w.heap.size) (hv : RXs C φ [] [.d (.sl s cs)] us) :
 Ends P (num f) us C φ [] [.sl false s cs] (.sl 0 [] 0 cs.length none) := by
 cases cs with
 | cons c cs =>
  have hl' : (cs.length + 1) * bytes ≤ 1099511627776 := hl
  have hrun : run (fun _ _ _ => none) 1 (cloneFn s z bytes) [.d (.sl s (c :: cs))] [] = some (.sl 0 [] 0 (c :: cs).length none, [], [.sl false s (c :: cs)]) := by
   simp [hl', run, cloneFn, cloneCd, evalCd, evalList, evalIns, execIns, Ins.side, Ins.on, evalOp, partsD, fillD, freezeIf, partsRefs, putBlk, Env.arg, Env.get, Env.putO, Env.kill, Op.kill, toD, hbeq, Env.keep, clean, Env.refd, V.refs, Env.clear, params, resVs, resV, result, once, Heap.pick, V.ren, List.idxOf, List.findIdx, List.findIdx.go]
  exact (run_sound noCalls hm hg hok hrun hC hr hb hv).2
 | nil =>
  unfold fnOk at hok
  simp only [Bool.and_eq_true, bne_iff_ne, ne_eq, decide_eq_true_eq] at hok
  obtain ⟨⟨⟨hname, hnp⟩, hres⟩, hbody⟩ := hok
  cases hcode : g.body with
  | none => rw [hcode] at hbody; cases hbody
  | some code =>
   rw [hcode] at hbody hshape
   simp only at hbody hshape
   refine (run_of (cloneFn s z bytes) hg hname hnp hres hcode (vs := [.d (.sl s [])]) (bs := []) (ans := (.sl 0 [] 0 0 none, [], [.sl false s []])) .ret (cloneEnd s) rfl ?_ (fun C φ a hC hs hN Q hQ => clone_empty hm hbody hshape hbeq C φ a hC hs hN Q hQ) hC hr hb hv).2
   simp [cloneFn, cloneEnd, resVs, resV, Env.get, result, once, V.refs, Heap.pick, V.ren, List.idxOf, List.findIdx, List.findIdx.go]
def cloneA (ids : Nat → Option (Sh × D × Nat)) : Oracle := fun f vs bs =>
 match ids f with
 | some (s, _, bytes) => match vs with
  | [.d (.sl t cs)] => match bs with
   | [] => if Sh.beq t s = true ∧ cs.length * bytes ≤ 1099511627776 then some (.sl 0 [] 0 cs.length none, [], [.sl false t cs]) else none
   | _ => none
  | _ => none
 | none => none
theorem cloneA_eq {ids : Nat → Option (Sh × D × Nat)} {f : Nat} {s : Sh} {z : D} {bytes : Nat} {cs : List D} (h1 : ids f = some (s, z, bytes)) (h0 : Sh.beq s s = true) (h2 : cs.length * bytes ≤ 1099511627776) :
 cloneA ids f [.d (.sl s cs)] [] = some (.sl 0 [] 0 cs.length none, [], [.sl false s cs]) := by
 simp [cloneA, h1, h0, h2]
theorem cloneA_sound {ids : Nat → Option (Sh × D × Nat)} (hm : P.follows .mixedOrders = true)
 (hids : ∀ f s z bytes, ids f = some (s, z, bytes) → Sh.beq s s = true ∧ ∃ g, P.funcs[num f]? = some g ∧ fnOk P num (cloneFn s z bytes) g = true ∧ (match g.body with | some x => cloneShape x | none => false) = true) : CallOk P num (cloneA ids) := by
 intro f vs bs ans h C φ us hC hr hb hv
 unfold cloneA at h
 split at h
 ·rename_i s z bytes hi
  split at h
  ·rename_i t cs
   split at h
   ·split at h
    ·rename_i hc
     obtain rfl := Option.some.inj h
     obtain ⟨hbeq, g, hg, hok, hshape⟩ := hids f s z bytes hi
     obtain rfl := Sh.beq_eq _ _ hc.1
     exact ⟨rfl, clone_sound hm hg hok hshape hbeq hc.2 hC hr hb hv⟩
    ·cases h
   ·cases h
  ·cases h
 ·cases h
end Pe

/-
 Functions of the laws in the small form, printed by a program.
-/
namespace Pe
open Go
def Z1i_B : Cd :=
 .seq (.region [⟨some 2, .mv (.c (.bool false)), none, []⟩] [0])
 (.seq (.region [⟨some 3, .mv (.t 0), none, []⟩,
 ⟨some 4, .len false (.t 3), none, []⟩,
 ⟨some 5, .bin .gtr (.t 4) (.c (.int .i64 4096)), none, []⟩,
 ⟨some 2, .mv (.t 5), none, []⟩] [2])
 (.ret))
def Z1i : Fn :=
 { nparams := 1, nblk := 0, results := [.tmp 2], body := Z1i_B }
end Pe

/-
 Functions of the laws in the small form, printed by a program.
-/
namespace Pe
open Go
def Z1l_L0 : Cd :=
 .seq (.seq (.region [⟨some 16, .mv (.t 6), none, []⟩,
 ⟨some 17, .mv (.t 0), none, []⟩,
 ⟨some 18, .len false (.t 17), none, []⟩,
 ⟨some 19, .bin .lss (.t 16) (.t 18), none, []⟩] [0, 5, 6, 19])
 (.cond (.t 19)
 (.skip)
 (.exit 0)))
 (.seq (.block 1 (.region [⟨some 22, .mv (.t 5), none, []⟩,
 ⟨some 23, .mv (.t 5), none, []⟩,
 ⟨some 24, .chk (.t 23), none, []⟩,
 ⟨some 25, .fldA [.leaf, .leaf, .leaf] (.t 24) 2, none, []⟩,
 ⟨some 26, .load .leaf (.t 25), none, []⟩,
 ⟨some 27, .bin .mul (.t 26) (.c (.int .u64 1099511628211)), none, []⟩,
 ⟨some 28, .mv (.t 0), none, []⟩,
 ⟨some 29, .mv (.t 6), none, []⟩,
 ⟨some 30, .idxA none .leaf (.t 28) (.t 29), none, []⟩,
 ⟨some 31, .load .leaf (.t 30), none, []⟩,
 ⟨some 32, .conv .u64 (.t 31), none, []⟩,
 ⟨some 33, .bin .add (.t 27) (.t 32), none, []⟩,
 ⟨some 34, .bin .add (.t 33) (.c (.int .u64 5)), none, []⟩,
 ⟨some 35, .chk (.t 22), none, []⟩,
 ⟨some 36, .fldA [.leaf, .leaf, .leaf] (.t 35) 2, none, []⟩,
 ⟨none, .store false .leaf (.t 36) (.t 34), none, []⟩] [0, 5, 6]))
 (.region [⟨some 20, .mv (.t 6), none, []⟩,
 ⟨some 21, .bin .add (.t 20) (.c (.int .i64 1)), none, []⟩,
 ⟨some 6, .mv (.t 21), none, []⟩] [0, 5, 6]))
def Z1l_B : Cd :=
 .seq (.region [⟨some 4, .mv (.c .nilp), none, []⟩] [0, 1])
 (.seq (.region [⟨some 7, .mv (.t 0), none, []⟩,
 ⟨some 8, .mv (.t 1), none, []⟩,
 ⟨some 9, .bin .mul (.t 8) (.c (.int .u64 8219)), none, []⟩,
 ⟨some 10, .mv (.t 0), none, []⟩,
 ⟨some 11, .len false (.t 10), none, []⟩,
 ⟨some 12, .conv .u64 (.t 11), none, []⟩,
 ⟨some 13, .bin .add (.t 9) (.t 12), none, []⟩,
 ⟨some 14, .build true (.st [.leaf, .leaf, .leaf] [(.sl .leaf []), (.int .i64 0), (.int .u64 0)]) [(0, (.t 7)), (2, (.t 13))], none, []⟩,
 ⟨some 15, .box false 0 (.t 14), none, []⟩,
 ⟨some 5, .mv (.t 15), none, []⟩] [0, 5])
 (.seq (.seq (.region [⟨some 6, .mv (.c (.int .i64 0)), none, []⟩] [0, 5, 6])
 (.block 0 (.loop (Z1l_L0))))
 (.seq (.region [⟨some 37, .mv (.t 5), none, []⟩,
 ⟨some 4, .mv (.t 37), none, []⟩] [4])
 (.ret))))
def Z1l : Fn :=
 { nparams := 2, nblk := 1, results := [.tmp 4], body := Z1l_B }
def ir_laws_dice_below_B : Cd :=
 .seq (.region [⟨some 4, .mv (.c (.int .i64 0)), none, []⟩] [0, 1])
 (.seq (.seq (.region [⟨some 6, .mv (.t 1), none, []⟩,
 ⟨some 7, .bin .lss (.t 6) (.c (.int .i64 1)), none, []⟩] [0, 1, 7])
 (.cond (.t 7)
 (.seq (.region [⟨some 4, .mv (.c (.int .i64 0)), none, []⟩] [4])
 (.ret))
 (.skip)))
 (.seq (.region [⟨some 8, .mv (.t 0), none, []⟩,
 ⟨some 9, .mv (.t 0), none, []⟩,
 ⟨some 10, .chk (.t 9), none, []⟩,
 ⟨some 11, .fldA [.leaf, .leaf, .leaf] (.t 10) 2, none, []⟩,
 ⟨some 12, .load .leaf (.t 11), none, []⟩,
 ⟨some 13, .bin .mul (.t 12) (.c (.int .u64 6364136223846793005)), none, []⟩,
 ⟨some 14, .bin .add (.t 13) (.c (.int .u64 1442695040888963407)), none, []⟩,
 ⟨some 15, .chk (.t 8), none, []⟩,
 ⟨some 16, .fldA [.leaf, .leaf, .leaf] (.t 15) 2, none, []⟩,
 ⟨none, .store false .leaf (.t 16) (.t 14), none, []⟩] [0, 1])
 (.seq (.region [⟨some 17, .mv (.t 0), none, []⟩,
 ⟨some 18, .chk (.t 17), none, []⟩,
 ⟨some 19, .fldA [.leaf, .leaf, .leaf] (.t 18) 2, none, []⟩,
 ⟨some 20, .load .leaf (.t 19), none, []⟩,
 ⟨some 21, .bin .shr (.t 20) (.c (.int .u64 33)), none, []⟩,
 ⟨some 22, .bin .and (.t 21) (.c (.int .u64 16777215)), none, []⟩,
 ⟨some 23, .conv .i64 (.t 22), none, []⟩,
 ⟨some 5, .mv (.t 23), none, []⟩] [0, 1, 5])
 (.seq (.seq (.region [⟨some 24, .mv (.t 0), none, []⟩,
 ⟨some 25, .chk (.t 24), none, []⟩,
 ⟨some 26, .fldA [.leaf, .leaf, .leaf] (.t 25) 1, none, []⟩,
 ⟨some 27, .load .leaf (.t 26), none, []⟩,
 ⟨some 28, .mv (.t 0), none, []⟩,
 ⟨some 29, .chk (.t 28), none, []⟩,
 ⟨some 30, .fldA [.leaf, .leaf, .leaf] (.t 29) 0, none, []⟩,
 ⟨some 31, .load .leaf (.t 30), none, []⟩,
 ⟨some 32, .len false (.t 31), none, []⟩,
 ⟨some 33, .bin .lss (.t 27) (.t 32), none, []⟩] [0, 1, 5, 33])
 (.cond (.t 33)
 (.seq (.region [⟨some 34, .mv (.t 5), none, []⟩,
 ⟨some 35, .mv (.t 0), none, []⟩,
 ⟨some 36, .chk (.t 35), none, []⟩,
 ⟨some 37, .fldA [.leaf, .leaf, .leaf] (.t 36) 0, none, []⟩,
 ⟨some 38, .load .leaf (.t 37), none, []⟩,
 ⟨some 39, .mv (.t 0), none, []⟩,
 ⟨some 40, .chk (.t 39), none, []⟩,
 ⟨some 41, .fldA [.leaf, .leaf, .leaf] (.t 40) 1, none, []⟩,
 ⟨some 42, .load .leaf (.t 41), none, []⟩,
 ⟨some 43, .idxA none .leaf (.t 38) (.t 42), none, []⟩,
 ⟨some 44, .load .leaf (.t 43), none, []⟩,
 ⟨some 45, .conv .i64 (.t 44), none, []⟩,
 ⟨some 46, .bin .add (.t 34) (.t 45), none, []⟩,
 ⟨some 5, .mv (.t 46), none, []⟩] [0, 1, 5])
 (.region [⟨some 47, .mv (.t 0), none, []⟩,
 ⟨some 48, .mv (.t 0), none, []⟩,
 ⟨some 49, .chk (.t 48), none, []⟩,
 ⟨some 50, .fldA [.leaf, .leaf, .leaf] (.t 49) 1, none, []⟩,
 ⟨some 51, .load .leaf (.t 50), none, []⟩,
 ⟨some 52, .bin .add (.t 51) (.c (.int .i64 1)), none, []⟩,
 ⟨some 53, .chk (.t 47), none, []⟩,
 ⟨some 54, .fldA [.leaf, .leaf, .leaf] (.t 53) 1, none, []⟩,
 ⟨none, .store false .leaf (.t 54) (.t 52), none, []⟩] [1, 5]))
 (.skip)))
 (.seq (.region [⟨some 55, .mv (.t 5), none, []⟩,
 ⟨some 56, .mv (.t 1), none, []⟩,
 ⟨some 57, .bin .rem (.t 55) (.t 56), none, []⟩,
 ⟨some 4, .mv (.t 57), none, []⟩] [4])
 (.ret))))))
def Z1j : Fn :=
 { nparams := 2, nblk := 0, results := [.tmp 4], body := ir_laws_dice_below_B }
def Z1k_L0 : Cd :=
 .seq (.seq (.region [⟨some 10, .mv (.t 8), none, []⟩,
 ⟨some 11, .mv (.t 2), none, []⟩,
 ⟨some 12, .bin .leq (.t 10) (.t 11), none, []⟩] [0, 1, 2, 6, 7, 8, 12])
 (.cond (.t 12)
 (.skip)
 (.exit 0)))
 (.seq (.block 1 (.region [⟨some 15, .mv (.t 8), none, []⟩,
 ⟨some 16, .mv (.t 0), none, []⟩,
 ⟨some 17, .mv (.t 1), none, []⟩,
 ⟨some 18, .call .heap [] (.f F1j) [(.t 16), (.t 17)], none, []⟩,
 ⟨some 19, .conv .u8 (.t 18), none, []⟩,
 ⟨some 20, .idxA (some 64) .leaf (.t 7) (.t 15), none, []⟩,
 ⟨none, .store false .leaf (.t 20) (.t 19), none, []⟩] [0, 1, 2, 6, 7, 8]))
 (.region [⟨some 13, .mv (.t 8), none, []⟩,
 ⟨some 14, .bin .add (.t 13) (.c (.int .i64 1)), none, []⟩,
 ⟨some 8, .mv (.t 14), none, []⟩] [0, 1, 2, 6, 7, 8]))
def Z1k_B : Cd :=
 .seq (.region [⟨some 6, .box false 0 (.c (.arr 64 .leaf z64)), none, []⟩] [0, 1, 2, 6])
 (.seq (.region [⟨some 9, .build false (.arr 64 .leaf z64) [], none, []⟩,
 ⟨some 7, .box false 1 (.c (.arr 64 .leaf z64)), none, []⟩,
 ⟨none, .store false (.arr 64 .leaf) (.t 7) (.t 9), none, []⟩] [0, 1, 2, 6, 7])
 (.seq (.seq (.region [⟨some 8, .mv (.c (.int .i64 0)), none, []⟩] [0, 1, 2, 6, 7, 8])
 (.block 0 (.loop (Z1k_L0))))
 (.seq (.region [⟨some 21, .load (.arr 64 .leaf) (.t 7), none, []⟩,
 ⟨none, .store false (.arr 64 .leaf) (.t 6) (.t 21), none, []⟩] [6])
 (.ret))))
def Z1k : Fn :=
 { nparams := 3, nblk := 2, results := [.cell 6 (.arr 64 .leaf)], body := Z1k_B }
def Z1h_L0 : Cd :=
 .seq (.seq (.region [⟨some 233, .mv (.t 41), none, []⟩,
 ⟨some 234, .bin .lss (.t 233) (.c (.int .i64 4)), none, []⟩] [3, 5, 39, 40, 41, 234])
 (.cond (.t 234)
 (.skip)
 (.exit 0)))
 (.seq (.block 1 (.region [⟨some 237, .mv (.t 41), none, []⟩,
 ⟨some 238, .idxA (some 64) .leaf (.t 39) (.t 237), none, []⟩,
 ⟨none, .store false .leaf (.t 238) (.c (.int .u8 0)), none, []⟩] [3, 5, 39, 40, 41]))
 (.region [⟨some 235, .mv (.t 41), none, []⟩,
 ⟨some 236, .bin .add (.t 235) (.c (.int .i64 1)), none, []⟩,
 ⟨some 41, .mv (.t 236), none, []⟩] [3, 5, 39, 40, 41]))
def Z1h_B : Cd :=
 .seq (.region [⟨some 2, .mv (.c (.bool false)), none, []⟩] [0])
 (.seq (.seq (.region [⟨some 50, .mv (.t 0), none, []⟩,
 ⟨some 51, .call .flat [] (.f F1i) [(.t 50)], none, []⟩] [0, 51])
 (.cond (.t 51)
 (.seq (.region [⟨some 2, .mv (.c (.bool true)), none, []⟩] [2])
 (.ret))
 (.skip)))
 (.seq (.region [⟨some 53, .mv (.t 0), none, []⟩,
 ⟨some 54, .call .flat [] (.f F2b) [(.t 53)], none, []⟩,
 ⟨some 52, .mv (.t 54), none, []⟩,
 ⟨some 55, .ext (.t 52) 0, none, []⟩,
 ⟨some 56, .ext (.t 52) 1, none, []⟩,
 ⟨some 57, .ext (.t 52) 2, none, []⟩,
 ⟨some 4, .box false 0 (.c (.arr 64 .leaf z64)), none, []⟩,
 ⟨some 5, .box false 1 (.c (.arr 64 .leaf z64)), none, []⟩,
 ⟨some 3, .mv (.t 55), none, []⟩,
 ⟨none, .store false (.arr 64 .leaf) (.t 4) (.t 56), none, []⟩,
 ⟨none, .store false (.arr 64 .leaf) (.t 5) (.t 57), none, []⟩] [0, 3, 4, 5])
 (.seq (.region [⟨some 59, .mv (.t 3), none, []⟩,
 ⟨some 60, .load (.arr 64 .leaf) (.t 4), none, []⟩,
 ⟨some 61, .load (.arr 64 .leaf) (.t 5), none, []⟩,
 ⟨some 62, .call .flat [] (.f Fa) [(.t 59), (.t 60), (.t 61)], none, []⟩,
 ⟨some 58, .mv (.t 62), none, []⟩,
 ⟨some 63, .ext (.t 58) 0, none, []⟩,
 ⟨some 64, .ext (.t 58) 1, none, []⟩,
 ⟨some 6, .mv (.t 63), none, []⟩,
 ⟨some 7, .mv (.t 64), none, []⟩] [0, 3, 4, 5, 6, 7])
 (.seq (.seq (.region [⟨some 66, .mv (.t 3), none, []⟩,
 ⟨some 67, .load (.arr 64 .leaf) (.t 4), none, []⟩,
 ⟨some 68, .load (.arr 64 .leaf) (.t 5), none, []⟩,
 ⟨some 69, .call .flat [] (.f F2d) [(.t 66), (.t 67), (.t 68)], none, []⟩,
 ⟨some 65, .mv (.t 69), none, []⟩,
 ⟨some 70, .ext (.t 65) 0, none, []⟩,
 ⟨some 71, .ext (.t 65) 1, none, []⟩,
 ⟨some 8, .mv (.t 70), none, []⟩,
 ⟨some 9, .mv (.t 71), none, []⟩] [0, 3, 4, 5, 6, 7, 8, 9])
 (.seq (.region [⟨some 72, .mv (.t 7), none, []⟩,
 ⟨some 73, .mv (.t 9), none, []⟩,
 ⟨some 74, .bin .neq (.t 72) (.t 73), none, []⟩,
 ⟨some 75, .mv (.t 74), none, []⟩,
 ⟨some 76, .mv (.t 6), some (75, false), []⟩,
 ⟨some 77, .mv (.t 8), some (75, false), []⟩,
 ⟨some 78, .bin .neq (.t 76) (.t 77), some (75, false), []⟩,
 ⟨some 79, .pick (.t 75) (.c (.bool true)) (.t 78), none, []⟩] [0, 3, 4, 5, 6, 7, 79])
 (.cond (.t 79)
 (.seq (.region [⟨some 2, .mv (.c (.bool false)), none, []⟩] [2])
 (.ret))
 (.skip))))
 (.seq (.region [⟨some 81, .mv (.t 0), none, []⟩,
 ⟨some 82, .call .flat [] (.f F2a) [(.t 81)], none, []⟩,
 ⟨some 80, .mv (.t 82), none, []⟩,
 ⟨some 83, .ext (.t 80) 0, none, []⟩,
 ⟨some 84, .ext (.t 80) 1, none, []⟩,
 ⟨some 85, .ext (.t 80) 2, none, []⟩,
 ⟨some 86, .ext (.t 80) 3, none, []⟩,
 ⟨some 87, .ext (.t 80) 4, none, []⟩,
 ⟨some 11, .box false 2 (.c (.arr 64 .leaf z64)), none, []⟩,
 ⟨some 12, .box false 3 (.c (.arr 64 .leaf z64)), none, []⟩,
 ⟨some 13, .box false 4 (.c (.arr 64 .leaf z64)), none, []⟩,
 ⟨some 14, .box false 5 (.c (.arr 64 .leaf z64)), none, []⟩,
 ⟨some 10, .mv (.t 83), none, []⟩,
 ⟨none, .store false (.arr 64 .leaf) (.t 11) (.t 84), none, []⟩,
 ⟨none, .store false (.arr 64 .leaf) (.t 12) (.t 85), none, []⟩,
 ⟨none, .store false (.arr 64 .leaf) (.t 13) (.t 86), none, []⟩,
 ⟨none, .store false (.arr 64 .leaf) (.t 14) (.t 87), none, []⟩] [0, 3, 4, 5, 6, 7, 10, 11, 12, 13, 14])
 (.seq (.region [⟨some 89, .mv (.t 10), none, []⟩,
 ⟨some 90, .load (.arr 64 .leaf) (.t 11), none, []⟩,
 ⟨some 91, .load (.arr 64 .leaf) (.t 12), none, []⟩,
 ⟨some 92, .load (.arr 64 .leaf) (.t 13), none, []⟩,
 ⟨some 93, .load (.arr 64 .leaf) (.t 14), none, []⟩,
 ⟨some 94, .call .flat [] (.f F9) [(.t 89), (.t 90), (.t 91), (.t 92), (.t 93)], none, []⟩,
 ⟨some 88, .mv (.t 94), none, []⟩,
 ⟨some 95, .ext (.t 88) 0, none, []⟩,
 ⟨some 96, .ext (.t 88) 1, none, []⟩,
 ⟨some 15, .box false 6 (.c (.arr 64 .leaf z64)), none, []⟩,
 ⟨none, .store false (.arr 64 .leaf) (.t 15) (.t 95), none, []⟩,
 ⟨some 16, .mv (.t 96), none, []⟩] [0, 3, 4, 5, 6, 7, 10, 11, 12, 13, 14, 15, 16])
 (.seq (.seq (.region [⟨some 98, .mv (.t 10), none, []⟩,
 ⟨some 99, .load (.arr 64 .leaf) (.t 11), none, []⟩,
 ⟨some 100, .load (.arr 64 .leaf) (.t 12), none, []⟩,
 ⟨some 101, .load (.arr 64 .leaf) (.t 13), none, []⟩,
 ⟨some 102, .load (.arr 64 .leaf) (.t 14), none, []⟩,
 ⟨some 103, .call .flat [] (.f F2c) [(.t 98), (.t 99), (.t 100), (.t 101), (.t 102)], none, []⟩,
 ⟨some 97, .mv (.t 103), none, []⟩,
 ⟨some 104, .ext (.t 97) 0, none, []⟩,
 ⟨some 105, .ext (.t 97) 1, none, []⟩,
 ⟨some 17, .box false 7 (.c (.arr 64 .leaf z64)), none, []⟩,
 ⟨none, .store false (.arr 64 .leaf) (.t 17) (.t 104), none, []⟩,
 ⟨some 18, .mv (.t 105), none, []⟩] [0, 3, 4, 5, 6, 7, 10, 11, 12, 13, 14, 15, 16, 17, 18])
 (.seq (.region [⟨some 106, .mv (.t 16), none, []⟩,
 ⟨some 107, .mv (.t 18), none, []⟩,
 ⟨some 108, .bin .neq (.t 106) (.t 107), none, []⟩,
 ⟨some 109, .mv (.t 108), none, []⟩,
 ⟨some 110, .load (.arr 64 .leaf) (.t 15), some (109, false), []⟩,
 ⟨some 111, .load (.arr 64 .leaf) (.t 17), some (109, false), []⟩,
 ⟨some 112, .eqv true (.arr 64 .leaf .int) (.t 110) (.t 111), some (109, false), []⟩,
 ⟨some 113, .pick (.t 109) (.c (.bool true)) (.t 112), none, []⟩] [0, 3, 4, 5, 6, 7, 10, 11, 12, 13, 14, 15, 16, 113])
 (.cond (.t 113)
 (.seq (.region [⟨some 2, .mv (.c (.bool false)), none, []⟩] [2])
 (.ret))
 (.skip))))
 (.seq (.seq (.region [⟨some 114, .mv (.t 16), none, []⟩,
 ⟨some 115, .bin .eql (.t 114) (.c (.int .i64 0)), none, []⟩] [0, 3, 4, 5, 6, 7, 10, 11, 12, 13, 14, 15, 115])
 (.cond (.t 115)
 (.seq (.region [⟨some 117, .mv (.t 10), none, []⟩,
 ⟨some 118, .load (.arr 64 .leaf) (.t 15), none, []⟩,
 ⟨some 119, .load (.arr 64 .leaf) (.t 12), none, []⟩,
 ⟨some 120, .call .flat [] (.f F6) [(.t 117), (.t 118), (.t 119)], none, []⟩,
 ⟨some 116, .mv (.t 120), none, []⟩,
 ⟨some 121, .ext (.t 116) 0, none, []⟩,
 ⟨some 122, .ext (.t 116) 1, none, []⟩,
 ⟨some 123, .ext (.t 116) 2, none, []⟩,
 ⟨some 19, .box false 8 (.c (.arr 64 .leaf z64)), none, []⟩,
 ⟨some 20, .box false 9 (.c (.arr 64 .leaf z64)), none, []⟩,
 ⟨none, .store false (.arr 64 .leaf) (.t 19) (.t 121), none, []⟩,
 ⟨none, .store false (.arr 64 .leaf) (.t 20) (.t 122), none, []⟩,
 ⟨some 21, .mv (.t 123), none, []⟩] [0, 3, 4, 5, 6, 7, 10, 11, 12, 13, 14, 15, 20, 21])
 (.seq (.region [⟨some 125, .mv (.t 10), none, []⟩,
 ⟨some 126, .load (.arr 64 .leaf) (.t 11), none, []⟩,
 ⟨some 127, .load (.arr 64 .leaf) (.t 12), none, []⟩,
 ⟨some 128, .call .flat [] (.f F6) [(.t 125), (.t 126), (.t 127)], none, []⟩,
 ⟨some 124, .mv (.t 128), none, []⟩,
 ⟨some 129, .ext (.t 124) 0, none, []⟩,
 ⟨some 130, .ext (.t 124) 1, none, []⟩,
 ⟨some 131, .ext (.t 124) 2, none, []⟩,
 ⟨some 22, .box false 10 (.c (.arr 64 .leaf z64)), none, []⟩,
 ⟨some 23, .box false 11 (.c (.arr 64 .leaf z64)), none, []⟩,
 ⟨none, .store false (.arr 64 .leaf) (.t 22) (.t 129), none, []⟩,
 ⟨none, .store false (.arr 64 .leaf) (.t 23) (.t 130), none, []⟩,
 ⟨some 24, .mv (.t 131), none, []⟩] [0, 3, 4, 5, 6, 7, 10, 13, 14, 15, 20, 21, 23, 24])
 (.seq (.region [⟨some 133, .mv (.t 10), none, []⟩,
 ⟨some 134, .load (.arr 64 .leaf) (.t 15), none, []⟩,
 ⟨some 135, .load (.arr 64 .leaf) (.t 14), none, []⟩,
 ⟨some 136, .call .flat [] (.f F6) [(.t 133), (.t 134), (.t 135)], none, []⟩,
 ⟨some 132, .mv (.t 136), none, []⟩,
 ⟨some 137, .ext (.t 132) 0, none, []⟩,
 ⟨some 138, .ext (.t 132) 1, none, []⟩,
 ⟨some 139, .ext (.t 132) 2, none, []⟩,
 ⟨some 25, .box false 12 (.c (.arr 64 .leaf z64)), none, []⟩,
 ⟨some 26, .box false 13 (.c (.arr 64 .leaf z64)), none, []⟩,
 ⟨none, .store false (.arr 64 .leaf) (.t 25) (.t 137), none, []⟩,
 ⟨none, .store false (.arr 64 .leaf) (.t 26) (.t 138), none, []⟩,
 ⟨some 27, .mv (.t 139), none, []⟩] [0, 3, 4, 5, 6, 7, 10, 13, 14, 20, 21, 23, 24, 26, 27])
 (.seq (.region [⟨some 141, .mv (.t 10), none, []⟩,
 ⟨some 142, .load (.arr 64 .leaf) (.t 13), none, []⟩,
 ⟨some 143, .load (.arr 64 .leaf) (.t 14), none, []⟩,
 ⟨some 144, .call .flat [] (.f F6) [(.t 141), (.t 142), (.t 143)], none, []⟩,
 ⟨some 140, .mv (.t 144), none, []⟩,
 ⟨some 145, .ext (.t 140) 0, none, []⟩,
 ⟨some 146, .ext (.t 140) 1, none, []⟩,
 ⟨some 147, .ext (.t 140) 2, none, []⟩,
 ⟨some 28, .box false 14 (.c (.arr 64 .leaf z64)), none, []⟩,
 ⟨some 29, .box false 15 (.c (.arr 64 .leaf z64)), none, []⟩,
 ⟨none, .store false (.arr 64 .leaf) (.t 28) (.t 145), none, []⟩,
 ⟨none, .store false (.arr 64 .leaf) (.t 29) (.t 146), none, []⟩,
 ⟨some 30, .mv (.t 147), none, []⟩] [0, 3, 4, 5, 6, 7, 20, 21, 23, 24, 26, 27, 29, 30])
 (.seq (.region [⟨some 148, .mv (.t 21), none, []⟩,
 ⟨some 149, .bin .neq (.t 148) (.c (.int .i64 0)), none, []⟩,
 ⟨some 150, .mv (.t 149), none, []⟩,
 ⟨some 151, .mv (.t 24), some (150, false), []⟩,
 ⟨some 152, .bin .neq (.t 151) (.c (.int .i64 0)), some (150, false), []⟩,
 ⟨some 153, .pick (.t 150) (.c (.bool true)) (.t 152), none, []⟩,
 ⟨some 154, .mv (.t 153), none, []⟩,
 ⟨some 155, .load (.arr 64 .leaf) (.t 20), some (154, false), []⟩,
 ⟨some 156, .load (.arr 64 .leaf) (.t 23), some (154, false), []⟩,
 ⟨some 157, .eqv true (.arr 64 .leaf .int) (.t 155) (.t 156), some (154, false), []⟩,
 ⟨some 158, .pick (.t 154) (.c (.bool true)) (.t 157), none, []⟩,
 ⟨some 159, .mv (.t 158), none, []⟩,
 ⟨some 160, .mv (.t 27), some (159, false), []⟩,
 ⟨some 161, .bin .neq (.t 160) (.c (.int .i64 0)), some (159, false), []⟩,
 ⟨some 162, .pick (.t 159) (.c (.bool true)) (.t 161), none, []⟩,
 ⟨some 163, .mv (.t 162), none, []⟩,
 ⟨some 164, .mv (.t 30), some (163, false), []⟩,
 ⟨some 165, .bin .neq (.t 164) (.c (.int .i64 0)), some (163, false), []⟩,
 ⟨some 166, .pick (.t 163) (.c (.bool true)) (.t 165), none, []⟩,
 ⟨some 167, .mv (.t 166), none, []⟩,
 ⟨some 168, .load (.arr 64 .leaf) (.t 26), some (167, false), []⟩,
 ⟨some 169, .load (.arr 64 .leaf) (.t 29), some (167, false), []⟩,
 ⟨some 170, .eqv true (.arr 64 .leaf .int) (.t 168) (.t 169), some (167, false), []⟩,
 ⟨some 171, .pick (.t 167) (.c (.bool true)) (.t 170), none, []⟩] [0, 3, 4, 5, 6, 7, 171])
 (.cond (.t 171)
 (.seq (.region [⟨some 2, .mv (.c (.bool false)), none, []⟩] [2])
 (.ret))
 (.skip)))))))
 (.skip)))
 (.seq (.seq (.region [⟨some 172, .mv (.t 7), none, []⟩,
 ⟨some 173, .bin .neq (.t 172) (.c (.int .i64 0)), none, []⟩] [0, 3, 4, 5, 6, 173])
 (.cond (.t 173)
 (.seq (.region [⟨some 174, .mv (.t 6), none, []⟩,
 ⟨some 175, .bin .eql (.t 174) (.c (.int .i64 0)), none, []⟩,
 ⟨some 2, .mv (.t 175), none, []⟩] [2])
 (.ret))
 (.skip)))
 (.seq (.region [⟨some 176, .mv (.t 0), none, []⟩,
 ⟨some 177, .call .heap [16] (.f F1l) [(.t 176), (.c (.int .u64 9902))], none, []⟩,
 ⟨some 31, .mv (.t 177), none, []⟩] [3, 4, 5, 6, 31])
 (.seq (.region [⟨some 178, .mv (.t 31), none, []⟩,
 ⟨some 179, .mv (.t 3), none, []⟩,
 ⟨some 180, .call .heap [] (.f F1k) [(.t 178), (.t 179), (.c (.int .i64 3))], none, []⟩,
 ⟨some 32, .box false 17 (.c (.arr 64 .leaf z64)), none, []⟩,
 ⟨none, .store false (.arr 64 .leaf) (.t 32) (.t 180), none, []⟩] [3, 4, 5, 6, 31, 32])
 (.seq (.region [⟨some 182, .mv (.t 3), none, []⟩,
 ⟨some 183, .load (.arr 64 .leaf) (.t 32), none, []⟩,
 ⟨some 184, .load (.arr 64 .leaf) (.t 5), none, []⟩,
 ⟨some 185, .call .flat [] (.f Fa) [(.t 182), (.t 183), (.t 184)], none, []⟩,
 ⟨some 181, .mv (.t 185), none, []⟩,
 ⟨some 186, .ext (.t 181) 0, none, []⟩,
 ⟨some 187, .ext (.t 181) 1, none, []⟩,
 ⟨some 33, .mv (.t 186), none, []⟩,
 ⟨some 34, .mv (.t 187), none, []⟩] [3, 4, 5, 6, 31, 32, 33, 34])
 (.seq (.region [⟨some 189, .mv (.t 3), none, []⟩,
 ⟨some 190, .load (.arr 64 .leaf) (.t 4), none, []⟩,
 ⟨some 191, .load (.arr 64 .leaf) (.t 32), none, []⟩,
 ⟨some 192, .call .flat [] (.f F8) [(.t 189), (.t 190), (.t 191)], none, []⟩,
 ⟨some 188, .mv (.t 192), none, []⟩,
 ⟨some 193, .ext (.t 188) 0, none, []⟩,
 ⟨some 194, .ext (.t 188) 1, none, []⟩,
 ⟨some 35, .box false 18 (.c (.arr 64 .leaf z64)), none, []⟩,
 ⟨none, .store false (.arr 64 .leaf) (.t 35) (.t 193), none, []⟩,
 ⟨some 36, .mv (.t 194), none, []⟩] [3, 5, 6, 31, 33, 34, 35, 36])
 (.seq (.region [⟨some 196, .mv (.t 3), none, []⟩,
 ⟨some 197, .load (.arr 64 .leaf) (.t 35), none, []⟩,
 ⟨some 198, .load (.arr 64 .leaf) (.t 5), none, []⟩,
 ⟨some 199, .call .flat [] (.f Fa) [(.t 196), (.t 197), (.t 198)], none, []⟩,
 ⟨some 195, .mv (.t 199), none, []⟩,
 ⟨some 200, .ext (.t 195) 0, none, []⟩,
 ⟨some 201, .ext (.t 195) 1, none, []⟩,
 ⟨some 37, .mv (.t 200), none, []⟩,
 ⟨some 38, .mv (.t 201), none, []⟩] [3, 5, 6, 31, 33, 34, 36, 37, 38])
 (.seq (.seq (.region [⟨some 202, .mv (.t 34), none, []⟩,
 ⟨some 203, .bin .neq (.t 202) (.c (.int .i64 0)), none, []⟩,
 ⟨some 204, .mv (.t 203), none, []⟩,
 ⟨some 205, .mv (.t 38), some (204, false), []⟩,
 ⟨some 206, .bin .neq (.t 205) (.c (.int .i64 0)), some (204, false), []⟩,
 ⟨some 207, .mv (.t 206), some (204, false), []⟩,
 ⟨some 208, .mv (.t 36), some (207, true), []⟩,
 ⟨some 209, .bin .eql (.t 208) (.c (.int .i64 0)), some (207, true), []⟩,
 ⟨some 210, .pick (.t 207) (.t 209) (.c (.bool false)), some (204, false), []⟩,
 ⟨some 211, .pick (.t 204) (.c (.bool true)) (.t 210), none, []⟩,
 ⟨some 212, .mv (.t 211), none, []⟩,
 ⟨some 213, .mv (.t 36), some (212, false), []⟩,
 ⟨some 214, .bin .eql (.t 213) (.c (.int .i64 0)), some (212, false), []⟩,
 ⟨some 215, .mv (.t 214), some (212, false), []⟩,
 ⟨some 216, .mv (.t 37), some (215, true), []⟩,
 ⟨some 217, .mv (.t 6), some (215, true), []⟩,
 ⟨some 218, .mv (.t 33), some (215, true), []⟩,
 ⟨some 219, .bin .mul (.t 217) (.t 218), some (215, true), []⟩,
 ⟨some 220, .mv (.t 3), some (215, true), []⟩,
 ⟨some 221, .bin .rem (.t 219) (.t 220), some (215, true), []⟩,
 ⟨some 222, .bin .neq (.t 216) (.t 221), some (215, true), []⟩,
 ⟨some 223, .pick (.t 215) (.t 222) (.c (.bool false)), some (212, false), []⟩,
 ⟨some 224, .pick (.t 212) (.c (.bool true)) (.t 223), none, []⟩] [3, 5, 31, 224])
 (.cond (.t 224)
 (.seq (.region [⟨some 2, .mv (.c (.bool false)), none, []⟩] [2])
 (.ret))
 (.skip)))
 (.seq (.region [⟨some 225, .mv (.t 31), none, []⟩,
 ⟨some 226, .mv (.t 3), none, []⟩,
 ⟨some 227, .call .heap [] (.f F1k) [(.t 225), (.t 226), (.c (.int .i64 2))], none, []⟩,
 ⟨some 39, .box false 19 (.c (.arr 64 .leaf z64)), none, []⟩,
 ⟨none, .store false (.arr 64 .leaf) (.t 39) (.t 227), none, []⟩] [3, 5, 31, 39])
 (.seq (.region [⟨some 228, .mv (.t 31), none, []⟩,
 ⟨some 229, .call .heap [] (.f F1j) [(.t 228), (.c (.int .i64 3))], none, []⟩,
 ⟨some 230, .bin .add (.c (.int .i64 1)) (.t 229), none, []⟩,
 ⟨some 40, .mv (.t 230), none, []⟩] [3, 5, 39, 40])
 (.seq (.region [⟨some 231, .idxA (some 64) .leaf (.t 39) (.c (.int .i64 3)), none, []⟩,
 ⟨none, .store false .leaf (.t 231) (.c (.int .u8 0)), none, []⟩] [3, 5, 39, 40])
 (.seq (.seq (.region [⟨some 232, .mv (.t 40), none, []⟩,
 ⟨some 41, .mv (.t 232), none, []⟩] [3, 5, 39, 40, 41])
 (.block 0 (.loop (Z1h_L0))))
 (.seq (.region [⟨some 239, .mv (.t 40), none, []⟩,
 ⟨some 240, .idxA (some 64) .leaf (.t 39) (.t 239), none, []⟩,
 ⟨none, .store false .leaf (.t 240) (.c (.int .u8 1)), none, []⟩] [3, 5, 39, 40])
 (.seq (.region [⟨some 242, .mv (.t 3), none, []⟩,
 ⟨some 243, .load (.arr 64 .leaf) (.t 5), none, []⟩,
 ⟨some 244, .call .flat [] (.f F5) [(.t 242), (.t 243)], none, []⟩,
 ⟨some 241, .mv (.t 244), none, []⟩,
 ⟨some 245, .ext (.t 241) 0, none, []⟩,
 ⟨some 246, .ext (.t 241) 1, none, []⟩,
 ⟨some 42, .mv (.t 245), none, []⟩,
 ⟨some 43, .mv (.t 246), none, []⟩] [3, 5, 39, 40, 42, 43])
 (.seq (.region [⟨some 248, .mv (.t 3), none, []⟩,
 ⟨some 249, .load (.arr 64 .leaf) (.t 39), none, []⟩,
 ⟨some 250, .load (.arr 64 .leaf) (.t 5), none, []⟩,
 ⟨some 251, .call .flat [] (.f F7) [(.t 248), (.t 249), (.t 250)], none, []⟩,
 ⟨some 247, .mv (.t 251), none, []⟩,
 ⟨some 252, .ext (.t 247) 0, none, []⟩,
 ⟨some 253, .ext (.t 247) 1, none, []⟩,
 ⟨some 44, .box false 20 (.c (.arr 64 .leaf z64)), none, []⟩,
 ⟨none, .store false (.arr 64 .leaf) (.t 44) (.t 252), none, []⟩,
 ⟨some 45, .mv (.t 253), none, []⟩] [3, 5, 39, 40, 42, 43, 44, 45])
 (.seq (.seq (.region [⟨some 254, .mv (.t 43), none, []⟩,
 ⟨some 255, .bin .neq (.t 254) (.c (.int .i64 0)), none, []⟩,
 ⟨some 256, .mv (.t 255), none, []⟩,
 ⟨some 257, .mv (.t 45), some (256, false), []⟩,
 ⟨some 258, .bin .neq (.t 257) (.c (.int .i64 0)), some (256, false), []⟩,
 ⟨some 259, .pick (.t 256) (.c (.bool true)) (.t 258), none, []⟩,
 ⟨some 260, .mv (.t 259), none, []⟩,
 ⟨some 261, .load (.arr 64 .leaf) (.t 44), some (260, false), []⟩,
 ⟨some 262, .build false (.arr 64 .leaf z64) [(0, (.c (.int .u8 1)))], some (260, false), []⟩,
 ⟨some 263, .eqv true (.arr 64 .leaf .int) (.t 261) (.t 262), some (260, false), []⟩,
 ⟨some 264, .pick (.t 260) (.c (.bool true)) (.t 263), none, []⟩] [3, 5, 39, 40, 42, 43, 45, 264])
 (.cond (.t 264)
 (.seq (.region [⟨some 265, .mv (.t 43), none, []⟩,
 ⟨some 266, .bin .eql (.t 265) (.c (.int .i64 0)), none, []⟩,
 ⟨some 267, .mv (.t 266), none, []⟩,
 ⟨some 268, .mv (.t 45), some (267, true), []⟩,
 ⟨some 269, .bin .eql (.t 268) (.c (.int .i64 0)), some (267, true), []⟩,
 ⟨some 270, .pick (.t 267) (.t 269) (.c (.bool false)), none, []⟩,
 ⟨some 2, .mv (.t 270), none, []⟩] [2])
 (.ret))
 (.skip)))
 (.seq (.region [⟨some 272, .mv (.t 3), none, []⟩,
 ⟨some 273, .load (.arr 64 .leaf) (.t 39), none, []⟩,
 ⟨some 274, .load (.arr 64 .leaf) (.t 5), none, []⟩,
 ⟨some 275, .call .flat [] (.f Fa) [(.t 272), (.t 273), (.t 274)], none, []⟩,
 ⟨some 271, .mv (.t 275), none, []⟩,
 ⟨some 276, .ext (.t 271) 0, none, []⟩,
 ⟨some 277, .ext (.t 271) 1, none, []⟩,
 ⟨some 46, .mv (.t 276), none, []⟩,
 ⟨some 47, .mv (.t 277), none, []⟩] [3, 5, 39, 40, 42, 46, 47])
 (.seq (.region [⟨some 279, .mv (.t 3), none, []⟩,
 ⟨some 280, .load (.arr 64 .leaf) (.t 5), none, []⟩,
 ⟨some 281, .load (.arr 64 .leaf) (.t 39), none, []⟩,
 ⟨some 282, .call .flat [] (.f Fa) [(.t 279), (.t 280), (.t 281)], none, []⟩,
 ⟨some 278, .mv (.t 282), none, []⟩,
 ⟨some 283, .ext (.t 278) 0, none, []⟩,
 ⟨some 284, .ext (.t 278) 1, none, []⟩,
 ⟨some 48, .mv (.t 283), none, []⟩,
 ⟨some 49, .mv (.t 284), none, []⟩] [3, 40, 42, 46, 47, 48, 49])
 (.seq (.seq (.region [⟨some 285, .mv (.t 42), none, []⟩,
 ⟨some 286, .bin .rem (.t 285) (.c (.int .i64 2)), none, []⟩,
 ⟨some 287, .bin .eql (.t 286) (.c (.int .i64 1)), none, []⟩,
 ⟨some 288, .mv (.t 287), none, []⟩,
 ⟨some 289, .mv (.t 40), some (288, true), []⟩,
 ⟨some 290, .bin .rem (.t 289) (.c (.int .i64 2)), some (288, true), []⟩,
 ⟨some 291, .bin .eql (.t 290) (.c (.int .i64 1)), some (288, true), []⟩,
 ⟨some 292, .pick (.t 288) (.t 291) (.c (.bool false)), none, []⟩] [3, 46, 47, 48, 49, 292])
 (.cond (.t 292)
 (.region [⟨some 293, .mv (.t 3), none, []⟩,
 ⟨some 294, .mv (.t 48), none, []⟩,
 ⟨some 295, .bin .sub (.t 293) (.t 294), none, []⟩,
 ⟨some 296, .mv (.t 3), none, []⟩,
 ⟨some 297, .bin .rem (.t 295) (.t 296), none, []⟩,
 ⟨some 48, .mv (.t 297), none, []⟩] [46, 47, 48, 49])
 (.skip)))
 (.seq (.region [⟨some 298, .mv (.t 47), none, []⟩,
 ⟨some 299, .bin .eql (.t 298) (.c (.int .i64 0)), none, []⟩,
 ⟨some 300, .mv (.t 299), none, []⟩,
 ⟨some 301, .mv (.t 49), some (300, true), []⟩,
 ⟨some 302, .bin .eql (.t 301) (.c (.int .i64 0)), some (300, true), []⟩,
 ⟨some 303, .pick (.t 300) (.t 302) (.c (.bool false)), none, []⟩,
 ⟨some 304, .mv (.t 303), none, []⟩,
 ⟨some 305, .mv (.t 46), some (304, true), []⟩,
 ⟨some 306, .mv (.t 48), some (304, true), []⟩,
 ⟨some 307, .bin .eql (.t 305) (.t 306), some (304, true), []⟩,
 ⟨some 308, .pick (.t 304) (.t 307) (.c (.bool false)), none, []⟩,
 ⟨some 2, .mv (.t 308), none, []⟩] [2])
 (.ret))))))))))))))))))))))))))))
def Z1h : Fn :=
 { nparams := 1, nblk := 21, results := [.tmp 2], body := Z1h_B }
end Pe

/-
 Functions of the program in the small form, printed by a program.
-/
namespace Pe
open Go
def Z2j_L0 : Cd :=
 .seq (.seq (.region [⟨some 4, .mv (.t 3), none, []⟩,
 ⟨some 5, .bin .geq (.t 4) (.c (.int .i64 0)), none, []⟩,
 ⟨some 6, .mv (.t 5), none, []⟩,
 ⟨some 7, .mv (.t 3), some (6, true), []⟩,
 ⟨some 8, .idxA (some 64) .leaf (.t 1) (.t 7), some (6, true), []⟩,
 ⟨some 9, .load .leaf (.t 8), some (6, true), []⟩,
 ⟨some 10, .bin .eql (.t 9) (.c (.int .u8 0)), some (6, true), []⟩,
 ⟨some 11, .pick (.t 6) (.t 10) (.c (.bool false)), none, []⟩] [1, 3, 11])
 (.cond (.t 11)
 (.skip)
 (.exit 0)))
 (.block 1 (.region [⟨some 12, .mv (.t 3), none, []⟩,
 ⟨some 13, .bin .sub (.t 12) (.c (.int .i64 1)), none, []⟩,
 ⟨some 3, .mv (.t 13), none, []⟩] [1, 3]))
def Z2j_B : Cd :=
 .seq (.region [⟨some 1, .box false 0 (.t 0), none, []⟩,
 ⟨some 2, .mv (.c (.int .i64 0)), none, []⟩] [1])
 (.seq (.region [⟨some 3, .mv (.c (.int .i64 63)), none, []⟩] [1, 3])
 (.seq (.block 0 (.loop (Z2j_L0)))
 (.seq (.region [⟨some 14, .mv (.t 3), none, []⟩,
 ⟨some 2, .mv (.t 14), none, []⟩] [2])
 (.ret))))
def Z2j : Fn :=
 { nparams := 1, nblk := 1, results := [.tmp 2], body := Z2j_B }
def Z2q_B : Cd :=
 .seq (.region [⟨some 6, .mv (.c (.bool false)), none, []⟩] [0, 1, 2])
 (.seq (.region [⟨some 7, .mv (.t 0), none, []⟩,
 ⟨some 8, .mv (.t 1), none, []⟩,
 ⟨some 9, .bin .geq (.t 7) (.t 8), none, []⟩,
 ⟨some 10, .mv (.t 9), none, []⟩,
 ⟨some 11, .mv (.t 0), some (10, true), []⟩,
 ⟨some 12, .mv (.t 2), some (10, true), []⟩,
 ⟨some 13, .bin .leq (.t 11) (.t 12), some (10, true), []⟩,
 ⟨some 14, .pick (.t 10) (.t 13) (.c (.bool false)), none, []⟩,
 ⟨some 6, .mv (.t 14), none, []⟩] [6])
 (.ret))
def Z2q : Fn :=
 { nparams := 3, nblk := 0, results := [.tmp 6], body := Z2q_B }
def Z32_B : Cd :=
 .seq (.region [⟨some 2, .mv (.c (.bool false)), none, []⟩] [0])
 (.seq (.region [⟨some 3, .mv (.t 0), none, []⟩,
 ⟨some 4, .bin .eql (.t 3) (.c (.int .i64 2)), none, []⟩,
 ⟨some 5, .mv (.t 4), none, []⟩,
 ⟨some 6, .mv (.t 0), some (5, false), []⟩,
 ⟨some 7, .bin .eql (.t 6) (.c (.int .i64 3)), some (5, false), []⟩,
 ⟨some 8, .pick (.t 5) (.c (.bool true)) (.t 7), none, []⟩,
 ⟨some 9, .mv (.t 8), none, []⟩,
 ⟨some 10, .mv (.t 0), some (9, false), []⟩,
 ⟨some 11, .bin .eql (.t 10) (.c (.int .i64 5)), some (9, false), []⟩,
 ⟨some 12, .pick (.t 9) (.c (.bool true)) (.t 11), none, []⟩,
 ⟨some 13, .mv (.t 12), none, []⟩,
 ⟨some 14, .mv (.t 0), some (13, false), []⟩,
 ⟨some 15, .bin .eql (.t 14) (.c (.int .i64 7)), some (13, false), []⟩,
 ⟨some 16, .pick (.t 13) (.c (.bool true)) (.t 15), none, []⟩,
 ⟨some 2, .mv (.t 16), none, []⟩] [2])
 (.ret))
def Z32 : Fn :=
 { nparams := 1, nblk := 0, results := [.tmp 2], body := Z32_B }
def Z2t_L0 : Cd :=
 .seq (.seq (.region [⟨some 6, .mv (.t 5), none, []⟩,
 ⟨some 7, .bin .lss (.t 6) (.c (.int .i64 64)), none, []⟩] [0, 3, 5, 7])
 (.cond (.t 7)
 (.skip)
 (.exit 0)))
 (.seq (.block 1 (.seq (.region [⟨some 10, .mv (.t 5), none, []⟩,
 ⟨some 11, .idxA (some 64) .leaf (.t 3) (.t 10), none, []⟩,
 ⟨some 12, .load .leaf (.t 11), none, []⟩,
 ⟨some 13, .conv .i64 (.t 12), none, []⟩,
 ⟨some 14, .mv (.t 0), none, []⟩,
 ⟨some 15, .bin .geq (.t 13) (.t 14), none, []⟩] [0, 3, 5, 15])
 (.cond (.t 15)
 (.seq (.region [⟨some 4, .mv (.c (.bool false)), none, []⟩] [4])
 (.ret))
 (.skip))))
 (.region [⟨some 8, .mv (.t 5), none, []⟩,
 ⟨some 9, .bin .add (.t 8) (.c (.int .i64 1)), none, []⟩,
 ⟨some 5, .mv (.t 9), none, []⟩] [0, 3, 5]))
def Z2t_B : Cd :=
 .seq (.region [⟨some 3, .box false 0 (.t 1), none, []⟩,
 ⟨some 4, .mv (.c (.bool false)), none, []⟩] [0, 3])
 (.seq (.seq (.region [⟨some 5, .mv (.c (.int .i64 0)), none, []⟩] [0, 3, 5])
 (.block 0 (.loop (Z2t_L0))))
 (.seq (.region [⟨some 16, .mv (.t 0), none, []⟩,
 ⟨some 17, .call .flat [] (.f F32) [(.t 16)], none, []⟩,
 ⟨some 4, .mv (.t 17), none, []⟩] [4])
 (.ret)))
def Z2t : Fn :=
 { nparams := 2, nblk := 1, results := [.tmp 4], body := Z2t_B }
def Z2h_L0 : Cd :=
 .seq (.seq (.region [⟨some 9, .mv (.t 5), none, []⟩,
 ⟨some 10, .mv (.t 1), none, []⟩,
 ⟨some 11, .len false (.t 10), none, []⟩,
 ⟨some 12, .bin .lss (.t 9) (.t 11), none, []⟩] [0, 1, 5, 12])
 (.cond (.t 12)
 (.skip)
 (.exit 0)))
 (.seq (.block 1 (.seq (.region [⟨some 15, .mv (.t 0), none, []⟩,
 ⟨some 16, .mv (.t 1), none, []⟩,
 ⟨some 17, .mv (.t 5), none, []⟩,
 ⟨some 18, .idxA none (.arr 64 .leaf) (.t 16) (.t 17), none, []⟩,
 ⟨some 19, .load (.arr 64 .leaf) (.t 18), none, []⟩,
 ⟨some 20, .call .flat [] (.f F2t) [(.t 15), (.t 19)], none, []⟩,
 ⟨some 21, .un .not (.t 20), none, []⟩] [0, 1, 5, 21])
 (.cond (.t 21)
 (.seq (.region [⟨some 4, .mv (.c (.int .i64 1)), none, []⟩] [4])
 (.ret))
 (.skip))))
 (.region [⟨some 13, .mv (.t 5), none, []⟩,
 ⟨some 14, .bin .add (.t 13) (.c (.int .i64 1)), none, []⟩,
 ⟨some 5, .mv (.t 14), none, []⟩] [0, 1, 5]))
def Z2h_B : Cd :=
 .seq (.region [⟨some 4, .mv (.c (.int .i64 0)), none, []⟩] [0, 1])
 (.seq (.seq (.region [⟨some 6, .mv (.t 0), none, []⟩,
 ⟨some 7, .call .flat [] (.f F32) [(.t 6)], none, []⟩,
 ⟨some 8, .un .not (.t 7), none, []⟩] [0, 1, 8])
 (.cond (.t 8)
 (.seq (.region [⟨some 4, .mv (.c (.int .i64 1)), none, []⟩] [4])
 (.ret))
 (.skip)))
 (.seq (.seq (.region [⟨some 5, .mv (.c (.int .i64 0)), none, []⟩] [0, 1, 5])
 (.block 0 (.loop (Z2h_L0))))
 (.seq (.region [⟨some 4, .mv (.c (.int .i64 0)), none, []⟩] [4])
 (.ret))))
def Z2h : Fn :=
 { nparams := 2, nblk := 0, results := [.tmp 4], body := Z2h_B }
def Z2v_B : Cd :=
 .seq (.region [⟨some 1, .box false 0 (.t 0), none, []⟩,
 ⟨some 2, .mv (.c (.bool false)), none, []⟩] [1])
 (.seq (.region [⟨some 4, .load (.arr 64 .leaf) (.t 1), none, []⟩,
 ⟨some 5, .call .flat [] (.f F2j) [(.t 4)], none, []⟩,
 ⟨some 3, .mv (.t 5), none, []⟩] [1, 3])
 (.seq (.region [⟨some 6, .mv (.t 3), none, []⟩,
 ⟨some 7, .bin .geq (.t 6) (.c (.int .i64 0)), none, []⟩,
 ⟨some 8, .mv (.t 7), none, []⟩,
 ⟨some 9, .mv (.t 3), some (8, true), []⟩,
 ⟨some 10, .idxA (some 64) .leaf (.t 1) (.t 9), some (8, true), []⟩,
 ⟨some 11, .load .leaf (.t 10), some (8, true), []⟩,
 ⟨some 12, .bin .eql (.t 11) (.c (.int .u8 1)), some (8, true), []⟩,
 ⟨some 13, .pick (.t 8) (.t 12) (.c (.bool false)), none, []⟩,
 ⟨some 2, .mv (.t 13), none, []⟩] [2])
 (.ret)))
def Z2v : Fn :=
 { nparams := 1, nblk := 1, results := [.tmp 2], body := Z2v_B }
def Z2i_L0 : Cd :=
 .seq (.seq (.region [⟨some 6, .mv (.t 1), none, []⟩,
 ⟨some 7, .bin .gtr (.t 6) (.c (.int .i64 0)), none, []⟩,
 ⟨some 8, .mv (.t 7), none, []⟩,
 ⟨some 9, .mv (.t 5), some (8, true), []⟩,
 ⟨some 10, .bin .leq (.t 9) (.c (.int .i64 1000000000000)), some (8, true), []⟩,
 ⟨some 11, .pick (.t 8) (.t 10) (.c (.bool false)), none, []⟩] [0, 1, 5, 11])
 (.cond (.t 11)
 (.skip)
 (.exit 0)))
 (.seq (.block 1 (.region [⟨some 14, .mv (.t 5), none, []⟩,
 ⟨some 15, .mv (.t 0), none, []⟩,
 ⟨some 16, .bin .mul (.t 14) (.t 15), none, []⟩,
 ⟨some 5, .mv (.t 16), none, []⟩] [0, 1, 5]))
 (.region [⟨some 12, .mv (.t 1), none, []⟩,
 ⟨some 13, .bin .sub (.t 12) (.c (.int .i64 1)), none, []⟩,
 ⟨some 1, .mv (.t 13), none, []⟩] [0, 1, 5]))
def Z2i_B : Cd :=
 .seq (.region [⟨some 4, .mv (.c (.int .i64 0)), none, []⟩] [0, 1])
 (.seq (.region [⟨some 5, .mv (.c (.int .i64 1)), none, []⟩] [0, 1, 5])
 (.seq (.block 0 (.loop (Z2i_L0)))
 (.seq (.region [⟨some 17, .mv (.t 5), none, []⟩,
 ⟨some 18, .minI (.t 17) (.c (.int .i64 1000000000001)), none, []⟩,
 ⟨some 4, .mv (.t 18), none, []⟩] [4])
 (.ret))))
def Z2i : Fn :=
 { nparams := 2, nblk := 0, results := [.tmp 4], body := Z2i_B }
def Z2r_L0 : Cd :=
 .seq (.seq (.region [⟨some 6, .mv (.t 5), none, []⟩,
 ⟨some 7, .mv (.t 0), none, []⟩,
 ⟨some 8, .bin .lss (.t 6) (.t 7), none, []⟩] [0, 1, 5, 8])
 (.cond (.t 8)
 (.skip)
 (.exit 0)))
 (.seq (.block 1 (.seq (.region [⟨some 11, .mv (.t 5), none, []⟩,
 ⟨some 12, .mv (.t 1), none, []⟩,
 ⟨some 13, .conv .i64 (.t 12), none, []⟩,
 ⟨some 14, .bin .mul (.t 11) (.t 13), none, []⟩,
 ⟨some 15, .mv (.t 0), none, []⟩,
 ⟨some 16, .bin .rem (.t 14) (.t 15), none, []⟩,
 ⟨some 17, .bin .eql (.t 16) (.c (.int .i64 1)), none, []⟩] [0, 1, 5, 17])
 (.cond (.t 17)
 (.seq (.region [⟨some 18, .mv (.t 5), none, []⟩,
 ⟨some 19, .conv .u8 (.t 18), none, []⟩,
 ⟨some 4, .mv (.t 19), none, []⟩] [4])
 (.ret))
 (.skip))))
 (.region [⟨some 9, .mv (.t 5), none, []⟩,
 ⟨some 10, .bin .add (.t 9) (.c (.int .i64 1)), none, []⟩,
 ⟨some 5, .mv (.t 10), none, []⟩] [0, 1, 5]))
def Z2r_B : Cd :=
 .seq (.region [⟨some 4, .mv (.c (.int .u8 0)), none, []⟩] [0, 1])
 (.seq (.seq (.region [⟨some 5, .mv (.c (.int .i64 1)), none, []⟩] [0, 1, 5])
 (.block 0 (.loop (Z2r_L0))))
 (.seq (.region [⟨some 4, .mv (.c (.int .u8 0)), none, []⟩] [4])
 (.ret)))
def Z2r : Fn :=
 { nparams := 2, nblk := 0, results := [.tmp 4], body := Z2r_B }
def Z2k_L0 : Cd :=
 .seq (.seq (.region [⟨some 44, .mv (.t 13), none, []⟩,
 ⟨some 45, .mv (.t 9), none, []⟩,
 ⟨some 46, .bin .leq (.t 44) (.t 45), none, []⟩,
 ⟨some 47, .mv (.t 46), none, []⟩,
 ⟨some 48, .mv (.t 12), some (47, true), []⟩,
 ⟨some 49, .bin .neq (.t 48) (.c (.int .i64 0)), some (47, true), []⟩,
 ⟨some 50, .pick (.t 47) (.t 49) (.c (.bool false)), none, []⟩] [0, 4, 5, 6, 7, 8, 9, 10, 11, 12, 13, 50])
 (.cond (.t 50)
 (.skip)
 (.exit 2)))
 (.seq (.block 3 (.region [⟨some 53, .mv (.t 11), none, []⟩,
 ⟨some 54, .mv (.t 9), none, []⟩,
 ⟨some 55, .bin .sub (.t 53) (.t 54), none, []⟩,
 ⟨some 56, .mv (.t 13), none, []⟩,
 ⟨some 57, .bin .add (.t 55) (.t 56), none, []⟩,
 ⟨some 58, .mv (.t 11), none, []⟩,
 ⟨some 59, .mv (.t 9), none, []⟩,
 ⟨some 60, .bin .sub (.t 58) (.t 59), none, []⟩,
 ⟨some 61, .mv (.t 13), none, []⟩,
 ⟨some 62, .bin .add (.t 60) (.t 61), none, []⟩,
 ⟨some 63, .idxA (some 64) .leaf (.t 4) (.t 62), none, []⟩,
 ⟨some 64, .load .leaf (.t 63), none, []⟩,
 ⟨some 65, .conv .i64 (.t 64), none, []⟩,
 ⟨some 66, .mv (.t 12), none, []⟩,
 ⟨some 67, .mv (.t 13), none, []⟩,
 ⟨some 68, .idxA (some 64) .leaf (.t 5) (.t 67), none, []⟩,
 ⟨some 69, .load .leaf (.t 68), none, []⟩,
 ⟨some 70, .conv .i64 (.t 69), none, []⟩,
 ⟨some 71, .bin .mul (.t 66) (.t 70), none, []⟩,
 ⟨some 72, .bin .sub (.t 65) (.t 71), none, []⟩,
 ⟨some 73, .mv (.t 0), none, []⟩,
 ⟨some 74, .bin .rem (.t 72) (.t 73), none, []⟩,
 ⟨some 75, .mv (.t 0), none, []⟩,
 ⟨some 76, .bin .add (.t 74) (.t 75), none, []⟩,
 ⟨some 77, .mv (.t 0), none, []⟩,
 ⟨some 78, .bin .rem (.t 76) (.t 77), none, []⟩,
 ⟨some 79, .conv .u8 (.t 78), none, []⟩,
 ⟨some 80, .idxA (some 64) .leaf (.t 4) (.t 57), none, []⟩,
 ⟨none, .store false .leaf (.t 80) (.t 79), none, []⟩] [0, 4, 5, 6, 7, 8, 9, 10, 11, 12, 13]))
 (.region [⟨some 51, .mv (.t 13), none, []⟩,
 ⟨some 52, .bin .add (.t 51) (.c (.int .i64 1)), none, []⟩,
 ⟨some 13, .mv (.t 52), none, []⟩] [0, 4, 5, 6, 7, 8, 9, 10, 11, 12, 13]))
def Z2k_L1 : Cd :=
 .seq (.seq (.region [⟨some 25, .mv (.t 11), none, []⟩,
 ⟨some 26, .mv (.t 9), none, []⟩,
 ⟨some 27, .bin .geq (.t 25) (.t 26), none, []⟩] [0, 4, 5, 6, 7, 8, 9, 10, 11, 27])
 (.cond (.t 27)
 (.skip)
 (.exit 0)))
 (.seq (.block 1 (.seq (.region [⟨some 30, .mv (.t 11), none, []⟩,
 ⟨some 31, .idxA (some 64) .leaf (.t 4) (.t 30), none, []⟩,
 ⟨some 32, .load .leaf (.t 31), none, []⟩,
 ⟨some 33, .conv .i64 (.t 32), none, []⟩,
 ⟨some 34, .mv (.t 10), none, []⟩,
 ⟨some 35, .bin .mul (.t 33) (.t 34), none, []⟩,
 ⟨some 36, .mv (.t 0), none, []⟩,
 ⟨some 37, .bin .rem (.t 35) (.t 36), none, []⟩,
 ⟨some 12, .mv (.t 37), none, []⟩] [0, 4, 5, 6, 7, 8, 9, 10, 11, 12])
 (.seq (.region [⟨some 38, .mv (.t 11), none, []⟩,
 ⟨some 39, .mv (.t 9), none, []⟩,
 ⟨some 40, .bin .sub (.t 38) (.t 39), none, []⟩,
 ⟨some 41, .mv (.t 12), none, []⟩,
 ⟨some 42, .conv .u8 (.t 41), none, []⟩,
 ⟨some 43, .idxA (some 64) .leaf (.t 8) (.t 40), none, []⟩,
 ⟨none, .store false .leaf (.t 43) (.t 42), none, []⟩] [0, 4, 5, 6, 7, 8, 9, 10, 11, 12])
 (.seq (.region [⟨some 13, .mv (.c (.int .i64 0)), none, []⟩] [0, 4, 5, 6, 7, 8, 9, 10, 11, 12, 13])
 (.block 2 (.loop (Z2k_L0)))))))
 (.region [⟨some 28, .mv (.t 11), none, []⟩,
 ⟨some 29, .bin .sub (.t 28) (.c (.int .i64 1)), none, []⟩,
 ⟨some 11, .mv (.t 29), none, []⟩] [0, 4, 5, 6, 7, 8, 9, 10, 11]))
def Z2k_B : Cd :=
 .seq (.region [⟨some 4, .box false 0 (.t 1), none, []⟩,
 ⟨some 5, .box false 1 (.t 2), none, []⟩,
 ⟨some 6, .box false 2 (.c (.arr 64 .leaf z64)), none, []⟩,
 ⟨some 7, .box false 3 (.c (.arr 64 .leaf z64)), none, []⟩] [0, 4, 5, 6, 7])
 (.seq (.region [⟨some 14, .build false (.arr 64 .leaf z64) [], none, []⟩,
 ⟨some 15, .load (.arr 64 .leaf) (.t 5), none, []⟩,
 ⟨some 16, .call .flat [] (.f F2j) [(.t 15)], none, []⟩,
 ⟨some 8, .box false 4 (.c (.arr 64 .leaf z64)), none, []⟩,
 ⟨none, .store false (.arr 64 .leaf) (.t 8) (.t 14), none, []⟩,
 ⟨some 9, .mv (.t 16), none, []⟩] [0, 4, 5, 6, 7, 8, 9])
 (.seq (.region [⟨some 17, .mv (.t 0), none, []⟩,
 ⟨some 18, .mv (.t 9), none, []⟩,
 ⟨some 19, .idxA (some 64) .leaf (.t 5) (.t 18), none, []⟩,
 ⟨some 20, .load .leaf (.t 19), none, []⟩,
 ⟨some 21, .call .flat [] (.f F2r) [(.t 17), (.t 20)], none, []⟩,
 ⟨some 22, .conv .i64 (.t 21), none, []⟩,
 ⟨some 10, .mv (.t 22), none, []⟩] [0, 4, 5, 6, 7, 8, 9, 10])
 (.seq (.seq (.region [⟨some 23, .load (.arr 64 .leaf) (.t 4), none, []⟩,
 ⟨some 24, .call .flat [] (.f F2j) [(.t 23)], none, []⟩,
 ⟨some 11, .mv (.t 24), none, []⟩] [0, 4, 5, 6, 7, 8, 9, 10, 11])
 (.block 0 (.loop (Z2k_L1))))
 (.seq (.region [⟨some 81, .load (.arr 64 .leaf) (.t 8), none, []⟩,
 ⟨some 82, .load (.arr 64 .leaf) (.t 4), none, []⟩,
 ⟨none, .store false (.arr 64 .leaf) (.t 6) (.t 81), none, [4]⟩,
 ⟨none, .store false (.arr 64 .leaf) (.t 7) (.t 82), none, []⟩] [6, 7])
 (.ret)))))
def Z2k : Fn :=
 { nparams := 3, nblk := 5, results := [.cell 6 (.arr 64 .leaf), .cell 7 (.arr 64 .leaf)], body := Z2k_B }
def Z2u_B : Cd :=
 .seq (.region [⟨some 4, .box false 0 (.t 1), none, []⟩,
 ⟨some 5, .box false 1 (.t 2), none, []⟩,
 ⟨some 6, .box false 2 (.c (.arr 64 .leaf z64)), none, []⟩] [0, 4, 5, 6])
 (.seq (.region [⟨some 10, .mv (.t 0), none, []⟩,
 ⟨some 11, .load (.arr 64 .leaf) (.t 4), none, []⟩,
 ⟨some 12, .load (.arr 64 .leaf) (.t 5), none, []⟩,
 ⟨some 13, .call .flat [] (.f F2k) [(.t 10), (.t 11), (.t 12)], none, []⟩,
 ⟨some 9, .mv (.t 13), none, []⟩,
 ⟨some 14, .ext (.t 9) 0, none, []⟩,
 ⟨some 15, .ext (.t 9) 1, none, []⟩,
 ⟨some 7, .box false 3 (.c (.arr 64 .leaf z64)), none, []⟩,
 ⟨some 8, .box false 4 (.c (.arr 64 .leaf z64)), none, []⟩,
 ⟨none, .store false (.arr 64 .leaf) (.t 7) (.t 14), none, []⟩,
 ⟨none, .store false (.arr 64 .leaf) (.t 8) (.t 15), none, []⟩] [6, 8])
 (.seq (.region [⟨some 16, .load (.arr 64 .leaf) (.t 8), none, []⟩,
 ⟨none, .store false (.arr 64 .leaf) (.t 6) (.t 16), none, []⟩] [6])
 (.ret)))
def Z2u : Fn :=
 { nparams := 3, nblk := 5, results := [.cell 6 (.arr 64 .leaf)], body := Z2u_B }
def Z2z_B : Cd :=
 .seq (.region [⟨some 0, .box false 0 (.c (.arr 64 .leaf z64)), none, []⟩] [0])
 (.seq (.region [⟨some 1, .build false (.arr 64 .leaf z64) [(0, (.c (.int .u8 1)))], none, []⟩,
 ⟨none, .store false (.arr 64 .leaf) (.t 0) (.t 1), none, []⟩] [0])
 (.ret))
def Z2z : Fn :=
 { nparams := 0, nblk := 1, results := [.cell 0 (.arr 64 .leaf)], body := Z2z_B }
def Z2e_L0 : Cd :=
 .seq (.seq (.region [⟨some 10, .mv (.t 9), none, []⟩,
 ⟨some 11, .bin .lss (.t 10) (.c (.int .i64 64)), none, []⟩] [0, 3, 5, 6, 8, 9, 11])
 (.cond (.t 11)
 (.skip)
 (.exit 0)))
 (.seq (.block 1 (.region [⟨some 14, .mv (.t 9), none, []⟩,
 ⟨some 15, .mv (.t 9), none, []⟩,
 ⟨some 16, .idxA (some 64) .leaf (.t 5) (.t 15), none, []⟩,
 ⟨some 17, .load .leaf (.t 16), none, []⟩,
 ⟨some 18, .conv .i64 (.t 17), none, []⟩,
 ⟨some 19, .mv (.t 3), none, []⟩,
 ⟨some 20, .mv (.t 9), none, []⟩,
 ⟨some 21, .idxA (some 64) .leaf (.t 6) (.t 20), none, []⟩,
 ⟨some 22, .load .leaf (.t 21), none, []⟩,
 ⟨some 23, .conv .i64 (.t 22), none, []⟩,
 ⟨some 24, .bin .mul (.t 19) (.t 23), none, []⟩,
 ⟨some 25, .bin .add (.t 18) (.t 24), none, []⟩,
 ⟨some 26, .mv (.t 0), none, []⟩,
 ⟨some 27, .bin .rem (.t 25) (.t 26), none, []⟩,
 ⟨some 28, .mv (.t 0), none, []⟩,
 ⟨some 29, .bin .add (.t 27) (.t 28), none, []⟩,
 ⟨some 30, .mv (.t 0), none, []⟩,
 ⟨some 31, .bin .rem (.t 29) (.t 30), none, []⟩,
 ⟨some 32, .conv .u8 (.t 31), none, []⟩,
 ⟨some 33, .idxA (some 64) .leaf (.t 5) (.t 14), none, []⟩,
 ⟨none, .store false .leaf (.t 33) (.t 32), none, []⟩] [0, 3, 5, 6, 8, 9]))
 (.region [⟨some 12, .mv (.t 9), none, []⟩,
 ⟨some 13, .bin .add (.t 12) (.c (.int .i64 1)), none, []⟩,
 ⟨some 9, .mv (.t 13), none, []⟩] [0, 3, 5, 6, 8, 9]))
def Z2e_B : Cd :=
 .seq (.region [⟨some 5, .box false 0 (.t 1), none, []⟩,
 ⟨some 6, .box false 1 (.t 2), none, []⟩,
 ⟨some 8, .box false 2 (.c (.arr 64 .leaf z64)), none, []⟩] [0, 3, 5, 6, 8])
 (.seq (.seq (.region [⟨some 9, .mv (.c (.int .i64 0)), none, []⟩] [0, 3, 5, 6, 8, 9])
 (.block 0 (.loop (Z2e_L0))))
 (.seq (.region [⟨some 34, .load (.arr 64 .leaf) (.t 5), none, []⟩,
 ⟨none, .store false (.arr 64 .leaf) (.t 8) (.t 34), none, []⟩] [8])
 (.ret)))
def Z2e : Fn :=
 { nparams := 4, nblk := 3, results := [.cell 8 (.arr 64 .leaf)], body := Z2e_B }
def Z35_L0 : Cd :=
 .seq (.seq (.region [⟨some 24, .mv (.t 10), none, []⟩,
 ⟨some 25, .mv (.t 7), none, []⟩,
 ⟨some 26, .bin .lss (.t 24) (.t 25), none, []⟩] [0, 4, 5, 6, 7, 8, 9, 10, 26])
 (.cond (.t 26)
 (.skip)
 (.exit 0)))
 (.seq (.block 1 (.region [⟨some 29, .mv (.t 10), none, []⟩,
 ⟨some 30, .mv (.t 10), none, []⟩,
 ⟨some 31, .bin .sub (.t 30) (.c (.int .i64 1)), none, []⟩,
 ⟨some 32, .idxA (some 64) .leaf (.t 4) (.t 31), none, []⟩,
 ⟨some 33, .load .leaf (.t 32), none, []⟩,
 ⟨some 34, .idxA (some 64) .leaf (.t 9) (.t 29), none, []⟩,
 ⟨none, .store false .leaf (.t 34) (.t 33), none, []⟩] [0, 4, 5, 6, 7, 8, 9, 10]))
 (.region [⟨some 27, .mv (.t 10), none, []⟩,
 ⟨some 28, .bin .add (.t 27) (.c (.int .i64 1)), none, []⟩,
 ⟨some 10, .mv (.t 28), none, []⟩] [0, 4, 5, 6, 7, 8, 9, 10]))
def Z35_L1 : Cd :=
 .seq (.seq (.region [⟨some 45, .mv (.t 12), none, []⟩,
 ⟨some 46, .mv (.t 7), none, []⟩,
 ⟨some 47, .bin .lss (.t 45) (.t 46), none, []⟩] [0, 5, 6, 7, 9, 11, 12, 47])
 (.cond (.t 47)
 (.skip)
 (.exit 2)))
 (.seq (.block 3 (.region [⟨some 50, .mv (.t 12), none, []⟩,
 ⟨some 51, .mv (.t 12), none, []⟩,
 ⟨some 52, .idxA (some 64) .leaf (.t 9) (.t 51), none, []⟩,
 ⟨some 53, .load .leaf (.t 52), none, []⟩,
 ⟨some 54, .conv .i64 (.t 53), none, []⟩,
 ⟨some 55, .mv (.t 11), none, []⟩,
 ⟨some 56, .mv (.t 12), none, []⟩,
 ⟨some 57, .idxA (some 64) .leaf (.t 5) (.t 56), none, []⟩,
 ⟨some 58, .load .leaf (.t 57), none, []⟩,
 ⟨some 59, .conv .i64 (.t 58), none, []⟩,
 ⟨some 60, .bin .mul (.t 55) (.t 59), none, []⟩,
 ⟨some 61, .bin .sub (.t 54) (.t 60), none, []⟩,
 ⟨some 62, .mv (.t 0), none, []⟩,
 ⟨some 63, .bin .rem (.t 61) (.t 62), none, []⟩,
 ⟨some 64, .mv (.t 0), none, []⟩,
 ⟨some 65, .bin .add (.t 63) (.t 64), none, []⟩,
 ⟨some 66, .mv (.t 0), none, []⟩,
 ⟨some 67, .bin .rem (.t 65) (.t 66), none, []⟩,
 ⟨some 68, .conv .u8 (.t 67), none, []⟩,
 ⟨some 69, .idxA (some 64) .leaf (.t 9) (.t 50), none, []⟩,
 ⟨none, .store false .leaf (.t 69) (.t 68), none, []⟩] [0, 5, 6, 7, 9, 11, 12]))
 (.region [⟨some 48, .mv (.t 12), none, []⟩,
 ⟨some 49, .bin .add (.t 48) (.c (.int .i64 1)), none, []⟩,
 ⟨some 12, .mv (.t 49), none, []⟩] [0, 5, 6, 7, 9, 11, 12]))
def Z35_B : Cd :=
 .seq (.region [⟨some 4, .box false 0 (.t 1), none, []⟩,
 ⟨some 5, .box false 1 (.t 2), none, []⟩,
 ⟨some 6, .box false 2 (.c (.arr 64 .leaf z64)), none, []⟩] [0, 4, 5, 6])
 (.seq (.region [⟨some 13, .load (.arr 64 .leaf) (.t 5), none, []⟩,
 ⟨some 14, .call .flat [] (.f F2j) [(.t 13)], none, []⟩,
 ⟨some 7, .mv (.t 14), none, []⟩] [0, 4, 5, 6, 7])
 (.seq (.seq (.region [⟨some 15, .mv (.t 7), none, []⟩,
 ⟨some 16, .bin .eql (.t 15) (.c (.int .i64 0)), none, []⟩] [0, 4, 5, 6, 7, 16])
 (.cond (.t 16)
 (.seq (.region [⟨some 17, .build false (.arr 64 .leaf z64) [], none, []⟩,
 ⟨none, .store false (.arr 64 .leaf) (.t 6) (.t 17), none, []⟩] [6])
 (.ret))
 (.skip)))
 (.seq (.region [⟨some 18, .mv (.t 7), none, []⟩,
 ⟨some 19, .bin .sub (.t 18) (.c (.int .i64 1)), none, []⟩,
 ⟨some 20, .idxA (some 64) .leaf (.t 4) (.t 19), none, []⟩,
 ⟨some 21, .load .leaf (.t 20), none, []⟩,
 ⟨some 22, .conv .i64 (.t 21), none, []⟩,
 ⟨some 23, .build false (.arr 64 .leaf z64) [], none, []⟩,
 ⟨some 9, .box false 3 (.c (.arr 64 .leaf z64)), none, []⟩,
 ⟨some 8, .mv (.t 22), none, []⟩,
 ⟨none, .store false (.arr 64 .leaf) (.t 9) (.t 23), none, []⟩] [0, 4, 5, 6, 7, 8, 9])
 (.seq (.seq (.region [⟨some 10, .mv (.c (.int .i64 1)), none, []⟩] [0, 4, 5, 6, 7, 8, 9, 10])
 (.block 0 (.loop (Z35_L0))))
 (.seq (.region [⟨some 35, .mv (.t 8), none, []⟩,
 ⟨some 36, .mv (.t 0), none, []⟩,
 ⟨some 37, .mv (.t 7), none, []⟩,
 ⟨some 38, .idxA (some 64) .leaf (.t 5) (.t 37), none, []⟩,
 ⟨some 39, .load .leaf (.t 38), none, []⟩,
 ⟨some 40, .call .flat [] (.f F2r) [(.t 36), (.t 39)], none, []⟩,
 ⟨some 41, .conv .i64 (.t 40), none, []⟩,
 ⟨some 42, .bin .mul (.t 35) (.t 41), none, []⟩,
 ⟨some 43, .mv (.t 0), none, []⟩,
 ⟨some 44, .bin .rem (.t 42) (.t 43), none, []⟩,
 ⟨some 11, .mv (.t 44), none, []⟩] [0, 5, 6, 7, 9, 11])
 (.seq (.seq (.region [⟨some 12, .mv (.c (.int .i64 0)), none, []⟩] [0, 5, 6, 7, 9, 11, 12])
 (.block 2 (.loop (Z35_L1))))
 (.seq (.region [⟨some 70, .load (.arr 64 .leaf) (.t 9), none, []⟩,
 ⟨none, .store false (.arr 64 .leaf) (.t 6) (.t 70), none, []⟩] [6])
 (.ret))))))))
def Z35 : Fn :=
 { nparams := 3, nblk := 4, results := [.cell 6 (.arr 64 .leaf)], body := Z35_B }
def Z2w_L0 : Cd :=
 .seq (.seq (.region [⟨some 14, .mv (.t 10), none, []⟩,
 ⟨some 15, .bin .geq (.t 14) (.c (.int .i64 0)), none, []⟩] [0, 5, 6, 7, 8, 9, 10, 15])
 (.cond (.t 15)
 (.skip)
 (.exit 0)))
 (.seq (.block 1 (.seq (.region [⟨some 18, .mv (.t 0), none, []⟩,
 ⟨some 19, .load (.arr 64 .leaf) (.t 9), none, []⟩,
 ⟨some 20, .load (.arr 64 .leaf) (.t 7), none, []⟩,
 ⟨some 21, .call .flat [] (.f F35) [(.t 18), (.t 19), (.t 20)], none, []⟩,
 ⟨none, .store false (.arr 64 .leaf) (.t 9) (.t 21), none, []⟩] [0, 5, 6, 7, 8, 9, 10])
 (.region [⟨some 22, .mv (.t 0), none, []⟩,
 ⟨some 23, .mv (.t 0), none, []⟩,
 ⟨some 24, .load (.arr 64 .leaf) (.t 9), none, []⟩,
 ⟨some 25, .load (.arr 64 .leaf) (.t 5), none, []⟩,
 ⟨some 26, .mv (.t 10), none, []⟩,
 ⟨some 27, .idxA (some 64) .leaf (.t 6) (.t 26), none, []⟩,
 ⟨some 28, .load .leaf (.t 27), none, []⟩,
 ⟨some 29, .conv .i64 (.t 28), none, []⟩,
 ⟨some 30, .call .flat [] (.f F2e) [(.t 23), (.t 24), (.t 25), (.t 29)], none, []⟩,
 ⟨some 31, .load (.arr 64 .leaf) (.t 7), none, []⟩,
 ⟨some 32, .call .flat [] (.f F2u) [(.t 22), (.t 30), (.t 31)], none, []⟩,
 ⟨none, .store false (.arr 64 .leaf) (.t 9) (.t 32), none, []⟩] [0, 5, 6, 7, 8, 9, 10])))
 (.region [⟨some 16, .mv (.t 10), none, []⟩,
 ⟨some 17, .bin .sub (.t 16) (.c (.int .i64 1)), none, []⟩,
 ⟨some 10, .mv (.t 17), none, []⟩] [0, 5, 6, 7, 8, 9, 10]))
def Z2w_B : Cd :=
 .seq (.region [⟨some 5, .box false 0 (.t 1), none, []⟩,
 ⟨some 6, .box false 1 (.t 2), none, []⟩,
 ⟨some 7, .box false 2 (.t 3), none, []⟩,
 ⟨some 8, .box false 3 (.c (.arr 64 .leaf z64)), none, []⟩] [0, 5, 6, 7, 8])
 (.seq (.region [⟨some 11, .build false (.arr 64 .leaf z64) [], none, []⟩,
 ⟨some 9, .box false 4 (.c (.arr 64 .leaf z64)), none, []⟩,
 ⟨none, .store false (.arr 64 .leaf) (.t 9) (.t 11), none, []⟩] [0, 5, 6, 7, 8, 9])
 (.seq (.seq (.region [⟨some 12, .load (.arr 64 .leaf) (.t 6), none, []⟩,
 ⟨some 13, .call .flat [] (.f F2j) [(.t 12)], none, []⟩,
 ⟨some 10, .mv (.t 13), none, []⟩] [0, 5, 6, 7, 8, 9, 10])
 (.block 0 (.loop (Z2w_L0))))
 (.seq (.region [⟨some 33, .load (.arr 64 .leaf) (.t 9), none, []⟩,
 ⟨none, .store false (.arr 64 .leaf) (.t 8) (.t 33), none, []⟩] [8])
 (.ret))))
def Z2w : Fn :=
 { nparams := 4, nblk := 5, results := [.cell 8 (.arr 64 .leaf)], body := Z2w_B }
def Z31_L0 : Cd :=
 .seq (.seq (.region [⟨some 19, .mv (.t 2), none, []⟩,
 ⟨some 20, .bin .gtr (.t 19) (.c (.int .i64 0)), none, []⟩] [0, 2, 7, 8, 9, 10, 20])
 (.cond (.t 20)
 (.skip)
 (.exit 0)))
 (.seq (.block 1 (.seq (.seq (.region [⟨some 23, .mv (.t 2), none, []⟩,
 ⟨some 24, .bin .rem (.t 23) (.c (.int .i64 2)), none, []⟩,
 ⟨some 25, .bin .eql (.t 24) (.c (.int .i64 1)), none, []⟩] [0, 2, 7, 8, 9, 10, 25])
 (.cond (.t 25)
 (.region [⟨some 26, .mv (.t 0), none, []⟩,
 ⟨some 27, .load (.arr 64 .leaf) (.t 9), none, []⟩,
 ⟨some 28, .load (.arr 64 .leaf) (.t 10), none, []⟩,
 ⟨some 29, .load (.arr 64 .leaf) (.t 7), none, []⟩,
 ⟨some 30, .call .flat [] (.f F2w) [(.t 26), (.t 27), (.t 28), (.t 29)], none, []⟩,
 ⟨none, .store false (.arr 64 .leaf) (.t 9) (.t 30), none, []⟩] [0, 2, 7, 8, 9, 10])
 (.skip)))
 (.region [⟨some 31, .mv (.t 0), none, []⟩,
 ⟨some 32, .load (.arr 64 .leaf) (.t 10), none, []⟩,
 ⟨some 33, .load (.arr 64 .leaf) (.t 10), none, []⟩,
 ⟨some 34, .load (.arr 64 .leaf) (.t 7), none, []⟩,
 ⟨some 35, .call .flat [] (.f F2w) [(.t 31), (.t 32), (.t 33), (.t 34)], none, []⟩,
 ⟨none, .store false (.arr 64 .leaf) (.t 10) (.t 35), none, []⟩] [0, 2, 7, 8, 9, 10])))
 (.region [⟨some 21, .mv (.t 2), none, []⟩,
 ⟨some 22, .bin .quo (.t 21) (.c (.int .i64 2)), none, []⟩,
 ⟨some 2, .mv (.t 22), none, []⟩] [0, 2, 7, 8, 9, 10]))
def Z31_B : Cd :=
 .seq (.region [⟨some 5, .box false 0 (.t 1), none, []⟩,
 ⟨some 7, .box false 1 (.t 3), none, []⟩,
 ⟨some 8, .box false 2 (.c (.arr 64 .leaf z64)), none, []⟩] [0, 2, 5, 7, 8])
 (.seq (.region [⟨some 11, .mv (.t 0), none, []⟩,
 ⟨some 12, .call .flat [] (.f F2z) [], none, []⟩,
 ⟨some 13, .load (.arr 64 .leaf) (.t 7), none, []⟩,
 ⟨some 14, .call .flat [] (.f F2u) [(.t 11), (.t 12), (.t 13)], none, []⟩,
 ⟨some 15, .mv (.t 0), none, []⟩,
 ⟨some 16, .load (.arr 64 .leaf) (.t 5), none, []⟩,
 ⟨some 17, .load (.arr 64 .leaf) (.t 7), none, []⟩,
 ⟨some 18, .call .flat [] (.f F2u) [(.t 15), (.t 16), (.t 17)], none, []⟩,
 ⟨some 9, .box false 3 (.c (.arr 64 .leaf z64)), none, []⟩,
 ⟨some 10, .box false 4 (.c (.arr 64 .leaf z64)), none, []⟩,
 ⟨none, .store false (.arr 64 .leaf) (.t 9) (.t 14), none, []⟩,
 ⟨none, .store false (.arr 64 .leaf) (.t 10) (.t 18), none, []⟩] [0, 2, 7, 8, 9, 10])
 (.seq (.block 0 (.loop (Z31_L0)))
 (.seq (.region [⟨some 36, .load (.arr 64 .leaf) (.t 9), none, []⟩,
 ⟨none, .store false (.arr 64 .leaf) (.t 8) (.t 36), none, []⟩] [8])
 (.ret))))
def Z31 : Fn :=
 { nparams := 4, nblk := 5, results := [.cell 8 (.arr 64 .leaf)], body := Z31_B }
def Z2y_L0 : Cd :=
 .seq (.seq (.region [⟨some 8, .mv (.t 1), none, []⟩,
 ⟨some 9, .bin .gtr (.t 8) (.c (.int .i64 0)), none, []⟩] [0, 1, 4, 5, 6, 9])
 (.cond (.t 9)
 (.skip)
 (.exit 0)))
 (.seq (.block 1 (.seq (.region [⟨some 12, .mv (.t 6), none, []⟩,
 ⟨some 13, .mv (.t 1), none, []⟩,
 ⟨some 14, .mv (.t 0), none, []⟩,
 ⟨some 15, .bin .rem (.t 13) (.t 14), none, []⟩,
 ⟨some 16, .conv .u8 (.t 15), none, []⟩,
 ⟨some 17, .idxA (some 64) .leaf (.t 5) (.t 12), none, []⟩,
 ⟨none, .store false .leaf (.t 17) (.t 16), none, []⟩] [0, 1, 4, 5, 6])
 (.region [⟨some 18, .mv (.t 1), none, []⟩,
 ⟨some 19, .mv (.t 0), none, []⟩,
 ⟨some 20, .bin .quo (.t 18) (.t 19), none, []⟩,
 ⟨some 1, .mv (.t 20), none, []⟩] [0, 1, 4, 5, 6])))
 (.region [⟨some 10, .mv (.t 6), none, []⟩,
 ⟨some 11, .bin .add (.t 10) (.c (.int .i64 1)), none, []⟩,
 ⟨some 6, .mv (.t 11), none, []⟩] [0, 1, 4, 5, 6]))
def Z2y_B : Cd :=
 .seq (.region [⟨some 4, .box false 0 (.c (.arr 64 .leaf z64)), none, []⟩] [0, 1, 4])
 (.seq (.region [⟨some 7, .build false (.arr 64 .leaf z64) [], none, []⟩,
 ⟨some 5, .box false 1 (.c (.arr 64 .leaf z64)), none, []⟩,
 ⟨none, .store false (.arr 64 .leaf) (.t 5) (.t 7), none, []⟩] [0, 1, 4, 5])
 (.seq (.seq (.region [⟨some 6, .mv (.c (.int .i64 0)), none, []⟩] [0, 1, 4, 5, 6])
 (.block 0 (.loop (Z2y_L0))))
 (.seq (.region [⟨some 21, .load (.arr 64 .leaf) (.t 5), none, []⟩,
 ⟨none, .store false (.arr 64 .leaf) (.t 4) (.t 21), none, []⟩] [4])
 (.ret))))
def Z2y : Fn :=
 { nparams := 2, nblk := 2, results := [.cell 4 (.arr 64 .leaf)], body := Z2y_B }
def Z34_L0 : Cd :=
 .seq (.seq (.region [⟨some 35, .mv (.t 12), none, []⟩,
 ⟨some 36, .mv (.t 9), none, []⟩,
 ⟨some 37, .bin .leq (.t 35) (.t 36), none, []⟩,
 ⟨some 38, .mv (.t 37), none, []⟩,
 ⟨some 39, .mv (.t 11), some (38, true), []⟩,
 ⟨some 40, .idxA (some 64) .leaf (.t 4) (.t 39), some (38, true), []⟩,
 ⟨some 41, .load .leaf (.t 40), some (38, true), []⟩,
 ⟨some 42, .bin .neq (.t 41) (.c (.int .u8 0)), some (38, true), []⟩,
 ⟨some 43, .pick (.t 38) (.t 42) (.c (.bool false)), none, []⟩] [0, 4, 5, 6, 8, 9, 10, 11, 12, 43])
 (.cond (.t 43)
 (.skip)
 (.exit 2)))
 (.seq (.block 3 (.region [⟨some 46, .mv (.t 11), none, []⟩,
 ⟨some 47, .mv (.t 12), none, []⟩,
 ⟨some 48, .bin .add (.t 46) (.t 47), none, []⟩,
 ⟨some 49, .mv (.t 11), none, []⟩,
 ⟨some 50, .mv (.t 12), none, []⟩,
 ⟨some 51, .bin .add (.t 49) (.t 50), none, []⟩,
 ⟨some 52, .idxA (some 64) .leaf (.t 10) (.t 51), none, []⟩,
 ⟨some 53, .load .leaf (.t 52), none, []⟩,
 ⟨some 54, .conv .i64 (.t 53), none, []⟩,
 ⟨some 55, .mv (.t 11), none, []⟩,
 ⟨some 56, .idxA (some 64) .leaf (.t 4) (.t 55), none, []⟩,
 ⟨some 57, .load .leaf (.t 56), none, []⟩,
 ⟨some 58, .conv .i64 (.t 57), none, []⟩,
 ⟨some 59, .mv (.t 12), none, []⟩,
 ⟨some 60, .idxA (some 64) .leaf (.t 5) (.t 59), none, []⟩,
 ⟨some 61, .load .leaf (.t 60), none, []⟩,
 ⟨some 62, .conv .i64 (.t 61), none, []⟩,
 ⟨some 63, .bin .mul (.t 58) (.t 62), none, []⟩,
 ⟨some 64, .bin .add (.t 54) (.t 63), none, []⟩,
 ⟨some 65, .mv (.t 0), none, []⟩,
 ⟨some 66, .bin .rem (.t 64) (.t 65), none, []⟩,
 ⟨some 67, .conv .u8 (.t 66), none, []⟩,
 ⟨some 68, .idxA (some 64) .leaf (.t 10) (.t 48), none, []⟩,
 ⟨none, .store false .leaf (.t 68) (.t 67), none, []⟩] [0, 4, 5, 6, 8, 9, 10, 11, 12]))
 (.region [⟨some 44, .mv (.t 12), none, []⟩,
 ⟨some 45, .bin .add (.t 44) (.c (.int .i64 1)), none, []⟩,
 ⟨some 12, .mv (.t 45), none, []⟩] [0, 4, 5, 6, 8, 9, 10, 11, 12]))
def Z34_L1 : Cd :=
 .seq (.seq (.region [⟨some 30, .mv (.t 11), none, []⟩,
 ⟨some 31, .mv (.t 8), none, []⟩,
 ⟨some 32, .bin .leq (.t 30) (.t 31), none, []⟩] [0, 4, 5, 6, 8, 9, 10, 11, 32])
 (.cond (.t 32)
 (.skip)
 (.exit 0)))
 (.seq (.block 1 (.seq (.region [⟨some 12, .mv (.c (.int .i64 0)), none, []⟩] [0, 4, 5, 6, 8, 9, 10, 11, 12])
 (.block 2 (.loop (Z34_L0)))))
 (.region [⟨some 33, .mv (.t 11), none, []⟩,
 ⟨some 34, .bin .add (.t 33) (.c (.int .i64 1)), none, []⟩,
 ⟨some 11, .mv (.t 34), none, []⟩] [0, 4, 5, 6, 8, 9, 10, 11]))
def Z34_B : Cd :=
 .seq (.region [⟨some 4, .box false 0 (.t 1), none, []⟩,
 ⟨some 5, .box false 1 (.t 2), none, []⟩,
 ⟨some 6, .box false 2 (.c (.arr 64 .leaf z64)), none, []⟩,
 ⟨some 7, .mv (.c (.bool false)), none, []⟩] [0, 4, 5, 6])
 (.seq (.region [⟨some 13, .load (.arr 64 .leaf) (.t 4), none, []⟩,
 ⟨some 14, .call .flat [] (.f F2j) [(.t 13)], none, []⟩,
 ⟨some 15, .load (.arr 64 .leaf) (.t 5), none, []⟩,
 ⟨some 16, .call .flat [] (.f F2j) [(.t 15)], none, []⟩,
 ⟨some 17, .build false (.arr 64 .leaf z64) [], none, []⟩,
 ⟨some 10, .box false 3 (.c (.arr 64 .leaf z64)), none, []⟩,
 ⟨some 8, .mv (.t 14), none, []⟩,
 ⟨some 9, .mv (.t 16), none, []⟩,
 ⟨none, .store false (.arr 64 .leaf) (.t 10) (.t 17), none, []⟩] [0, 4, 5, 6, 8, 9, 10])
 (.seq (.seq (.region [⟨some 18, .mv (.t 8), none, []⟩,
 ⟨some 19, .bin .lss (.t 18) (.c (.int .i64 0)), none, []⟩,
 ⟨some 20, .mv (.t 19), none, []⟩,
 ⟨some 21, .mv (.t 9), some (20, false), []⟩,
 ⟨some 22, .bin .lss (.t 21) (.c (.int .i64 0)), some (20, false), []⟩,
 ⟨some 23, .pick (.t 20) (.c (.bool true)) (.t 22), none, []⟩] [0, 4, 5, 6, 8, 9, 10, 23])
 (.cond (.t 23)
 (.seq (.region [⟨some 24, .load (.arr 64 .leaf) (.t 10), none, []⟩,
 ⟨none, .store false (.arr 64 .leaf) (.t 6) (.t 24), none, []⟩,
 ⟨some 7, .mv (.c (.bool true)), none, []⟩] [6, 7])
 (.ret))
 (.skip)))
 (.seq (.seq (.region [⟨some 25, .mv (.t 8), none, []⟩,
 ⟨some 26, .mv (.t 9), none, []⟩,
 ⟨some 27, .bin .add (.t 25) (.t 26), none, []⟩,
 ⟨some 28, .bin .gtr (.t 27) (.c (.int .i64 63)), none, []⟩] [0, 4, 5, 6, 8, 9, 10, 28])
 (.cond (.t 28)
 (.seq (.region [⟨some 29, .load (.arr 64 .leaf) (.t 10), none, []⟩,
 ⟨none, .store false (.arr 64 .leaf) (.t 6) (.t 29), none, []⟩,
 ⟨some 7, .mv (.c (.bool false)), none, []⟩] [6, 7])
 (.ret))
 (.skip)))
 (.seq (.seq (.region [⟨some 11, .mv (.c (.int .i64 0)), none, []⟩] [0, 4, 5, 6, 8, 9, 10, 11])
 (.block 0 (.loop (Z34_L1))))
 (.seq (.region [⟨some 69, .load (.arr 64 .leaf) (.t 10), none, []⟩,
 ⟨none, .store false (.arr 64 .leaf) (.t 6) (.t 69), none, []⟩,
 ⟨some 7, .mv (.c (.bool true)), none, []⟩] [6, 7])
 (.ret))))))
def Z34 : Fn :=
 { nparams := 3, nblk := 4, results := [.cell 6 (.arr 64 .leaf), .tmp 7], body := Z34_B }
def Z2g_L0 : Cd :=
 .seq (.seq (.region [⟨some 26, .load (.arr 64 .leaf) (.t 5), none, []⟩,
 ⟨some 27, .call .flat [] (.f F2j) [(.t 26)], none, []⟩,
 ⟨some 28, .bin .geq (.t 27) (.c (.int .i64 0)), none, []⟩] [0, 4, 5, 6, 7, 8, 9, 10, 11, 12, 28])
 (.cond (.t 28)
 (.skip)
 (.exit 0)))
 (.block 1 (.seq (.region [⟨some 30, .mv (.t 0), none, []⟩,
 ⟨some 31, .load (.arr 64 .leaf) (.t 4), none, []⟩,
 ⟨some 32, .load (.arr 64 .leaf) (.t 5), none, []⟩,
 ⟨some 33, .call .flat [] (.f F2k) [(.t 30), (.t 31), (.t 32)], none, []⟩,
 ⟨some 29, .mv (.t 33), none, []⟩,
 ⟨some 34, .ext (.t 29) 0, none, []⟩,
 ⟨some 35, .ext (.t 29) 1, none, []⟩,
 ⟨some 13, .box false 9 (.c (.arr 64 .leaf z64)), none, []⟩,
 ⟨some 14, .box false 10 (.c (.arr 64 .leaf z64)), none, []⟩,
 ⟨none, .store false (.arr 64 .leaf) (.t 13) (.t 34), none, []⟩,
 ⟨none, .store false (.arr 64 .leaf) (.t 14) (.t 35), none, []⟩] [0, 4, 5, 6, 7, 8, 9, 10, 11, 12, 13, 14])
 (.seq (.region [⟨some 37, .mv (.t 0), none, []⟩,
 ⟨some 38, .load (.arr 64 .leaf) (.t 13), none, []⟩,
 ⟨some 39, .load (.arr 64 .leaf) (.t 10), none, []⟩,
 ⟨some 40, .call .flat [] (.f F34) [(.t 37), (.t 38), (.t 39)], none, []⟩,
 ⟨some 36, .mv (.t 40), none, []⟩,
 ⟨some 41, .ext (.t 36) 0, none, []⟩,
 ⟨some 42, .ext (.t 36) 1, none, []⟩,
 ⟨some 15, .box false 11 (.c (.arr 64 .leaf z64)), none, []⟩,
 ⟨none, .store false (.arr 64 .leaf) (.t 15) (.t 41), none, []⟩,
 ⟨some 16, .mv (.t 42), none, []⟩] [0, 4, 5, 6, 7, 8, 9, 10, 11, 12, 13, 14, 15])
 (.seq (.region [⟨some 44, .mv (.t 0), none, []⟩,
 ⟨some 45, .load (.arr 64 .leaf) (.t 13), none, []⟩,
 ⟨some 46, .load (.arr 64 .leaf) (.t 12), none, []⟩,
 ⟨some 47, .call .flat [] (.f F34) [(.t 44), (.t 45), (.t 46)], none, []⟩,
 ⟨some 43, .mv (.t 47), none, []⟩,
 ⟨some 48, .ext (.t 43) 0, none, []⟩,
 ⟨some 49, .ext (.t 43) 1, none, []⟩,
 ⟨some 17, .box false 12 (.c (.arr 64 .leaf z64)), none, []⟩,
 ⟨none, .store false (.arr 64 .leaf) (.t 17) (.t 48), none, []⟩,
 ⟨some 18, .mv (.t 49), none, []⟩] [0, 4, 5, 6, 7, 8, 9, 10, 11, 12, 14, 15, 17])
 (.seq (.region [⟨some 50, .mv (.t 0), none, []⟩,
 ⟨some 51, .load (.arr 64 .leaf) (.t 9), none, []⟩,
 ⟨some 52, .load (.arr 64 .leaf) (.t 15), none, []⟩,
 ⟨some 53, .call .flat [] (.f F2e) [(.t 50), (.t 51), (.t 52), (.c (.int .i64 (-1)))], none, []⟩,
 ⟨some 54, .mv (.t 0), none, []⟩,
 ⟨some 55, .load (.arr 64 .leaf) (.t 11), none, []⟩,
 ⟨some 56, .load (.arr 64 .leaf) (.t 17), none, []⟩,
 ⟨some 57, .call .flat [] (.f F2e) [(.t 54), (.t 55), (.t 56), (.c (.int .i64 (-1)))], none, []⟩,
 ⟨some 19, .box false 13 (.c (.arr 64 .leaf z64)), none, []⟩,
 ⟨some 20, .box false 14 (.c (.arr 64 .leaf z64)), none, []⟩,
 ⟨none, .store false (.arr 64 .leaf) (.t 19) (.t 53), none, []⟩,
 ⟨none, .store false (.arr 64 .leaf) (.t 20) (.t 57), none, []⟩] [0, 4, 5, 6, 7, 8, 9, 10, 11, 12, 14, 19, 20])
 (.seq (.region [⟨some 58, .load (.arr 64 .leaf) (.t 5), none, []⟩,
 ⟨none, .store false (.arr 64 .leaf) (.t 4) (.t 58), none, []⟩] [0, 4, 5, 6, 7, 8, 9, 10, 11, 12, 14, 19, 20])
 (.seq (.region [⟨some 59, .load (.arr 64 .leaf) (.t 14), none, []⟩,
 ⟨none, .store false (.arr 64 .leaf) (.t 5) (.t 59), none, []⟩] [0, 4, 5, 6, 7, 8, 9, 10, 11, 12, 19, 20])
 (.seq (.region [⟨some 60, .load (.arr 64 .leaf) (.t 10), none, []⟩,
 ⟨none, .store false (.arr 64 .leaf) (.t 9) (.t 60), none, []⟩] [0, 4, 5, 6, 7, 8, 9, 10, 11, 12, 19, 20])
 (.seq (.region [⟨some 61, .load (.arr 64 .leaf) (.t 12), none, []⟩,
 ⟨none, .store false (.arr 64 .leaf) (.t 11) (.t 61), none, []⟩] [0, 4, 5, 6, 7, 8, 9, 10, 11, 12, 19, 20])
 (.seq (.region [⟨some 62, .load (.arr 64 .leaf) (.t 19), none, []⟩,
 ⟨none, .store false (.arr 64 .leaf) (.t 10) (.t 62), none, []⟩] [0, 4, 5, 6, 7, 8, 9, 10, 11, 12, 20])
 (.region [⟨some 63, .load (.arr 64 .leaf) (.t 20), none, []⟩,
 ⟨none, .store false (.arr 64 .leaf) (.t 12) (.t 63), none, []⟩] [0, 4, 5, 6, 7, 8, 9, 10, 11, 12])))))))))))
def Z2g_B : Cd :=
 .seq (.region [⟨some 4, .box false 0 (.t 1), none, []⟩,
 ⟨some 5, .box false 1 (.t 2), none, []⟩,
 ⟨some 6, .box false 2 (.c (.arr 64 .leaf z64)), none, []⟩,
 ⟨some 7, .box false 3 (.c (.arr 64 .leaf z64)), none, []⟩,
 ⟨some 8, .box false 4 (.c (.arr 64 .leaf z64)), none, []⟩] [0, 4, 5, 6, 7, 8])
 (.seq (.region [⟨some 22, .call .flat [] (.f F2z) [], none, []⟩,
 ⟨some 23, .build false (.arr 64 .leaf z64) [], none, []⟩,
 ⟨some 24, .build false (.arr 64 .leaf z64) [], none, []⟩,
 ⟨some 25, .call .flat [] (.f F2z) [], none, []⟩,
 ⟨some 9, .box false 5 (.c (.arr 64 .leaf z64)), none, []⟩,
 ⟨some 10, .box false 6 (.c (.arr 64 .leaf z64)), none, []⟩,
 ⟨some 11, .box false 7 (.c (.arr 64 .leaf z64)), none, []⟩,
 ⟨some 12, .box false 8 (.c (.arr 64 .leaf z64)), none, []⟩,
 ⟨none, .store false (.arr 64 .leaf) (.t 9) (.t 22), none, []⟩,
 ⟨none, .store false (.arr 64 .leaf) (.t 10) (.t 23), none, []⟩,
 ⟨none, .store false (.arr 64 .leaf) (.t 11) (.t 24), none, []⟩,
 ⟨none, .store false (.arr 64 .leaf) (.t 12) (.t 25), none, []⟩] [0, 4, 5, 6, 7, 8, 9, 10, 11, 12])
 (.seq (.block 0 (.loop (Z2g_L0)))
 (.seq (.region [⟨some 64, .mv (.t 0), none, []⟩,
 ⟨some 65, .load (.arr 64 .leaf) (.t 4), none, []⟩,
 ⟨some 66, .call .flat [] (.f F2j) [(.t 65)], none, []⟩,
 ⟨some 67, .idxA (some 64) .leaf (.t 4) (.t 66), none, []⟩,
 ⟨some 68, .load .leaf (.t 67), none, []⟩,
 ⟨some 69, .call .flat [] (.f F2r) [(.t 64), (.t 68)], none, []⟩,
 ⟨some 70, .conv .i64 (.t 69), none, []⟩,
 ⟨some 21, .mv (.t 70), none, []⟩] [0, 4, 6, 7, 8, 9, 11, 21])
 (.seq (.region [⟨some 71, .mv (.t 0), none, []⟩,
 ⟨some 72, .build false (.arr 64 .leaf z64) [], none, []⟩,
 ⟨some 73, .load (.arr 64 .leaf) (.t 4), none, []⟩,
 ⟨some 74, .mv (.t 21), none, []⟩,
 ⟨some 75, .call .flat [] (.f F2e) [(.t 71), (.t 72), (.t 73), (.t 74)], none, []⟩,
 ⟨some 76, .mv (.t 0), none, []⟩,
 ⟨some 77, .build false (.arr 64 .leaf z64) [], none, []⟩,
 ⟨some 78, .load (.arr 64 .leaf) (.t 9), none, []⟩,
 ⟨some 79, .mv (.t 21), none, []⟩,
 ⟨some 80, .call .flat [] (.f F2e) [(.t 76), (.t 77), (.t 78), (.t 79)], none, []⟩,
 ⟨some 81, .mv (.t 0), none, []⟩,
 ⟨some 82, .build false (.arr 64 .leaf z64) [], none, []⟩,
 ⟨some 83, .load (.arr 64 .leaf) (.t 11), none, []⟩,
 ⟨some 84, .mv (.t 21), none, []⟩,
 ⟨some 85, .call .flat [] (.f F2e) [(.t 81), (.t 82), (.t 83), (.t 84)], none, []⟩,
 ⟨none, .store false (.arr 64 .leaf) (.t 6) (.t 75), none, []⟩,
 ⟨none, .store false (.arr 64 .leaf) (.t 7) (.t 80), none, []⟩,
 ⟨none, .store false (.arr 64 .leaf) (.t 8) (.t 85), none, []⟩] [6, 7, 8])
 (.ret)))))
def Z2g : Fn :=
 { nparams := 3, nblk := 15, results := [.cell 6 (.arr 64 .leaf), .cell 7 (.arr 64 .leaf), .cell 8 (.arr 64 .leaf)], body := Z2g_B }
def Z2p_B : Cd :=
 .seq (.region [⟨some 4, .box false 0 (.t 1), none, []⟩,
 ⟨some 5, .box false 1 (.t 2), none, []⟩,
 ⟨some 6, .box false 2 (.c (.arr 64 .leaf z64)), none, []⟩] [0, 4, 5, 6])
 (.seq (.seq (.region [⟨some 10, .load (.arr 64 .leaf) (.t 4), none, []⟩,
 ⟨some 11, .call .flat [] (.f F2j) [(.t 10)], none, []⟩,
 ⟨some 12, .bin .lss (.t 11) (.c (.int .i64 0)), none, []⟩,
 ⟨some 13, .mv (.t 12), none, []⟩,
 ⟨some 14, .load (.arr 64 .leaf) (.t 5), some (13, true), []⟩,
 ⟨some 15, .call .flat [] (.f F2j) [(.t 14)], some (13, true), []⟩,
 ⟨some 16, .bin .lss (.t 15) (.c (.int .i64 0)), some (13, true), []⟩,
 ⟨some 17, .pick (.t 13) (.t 16) (.c (.bool false)), none, []⟩] [0, 4, 5, 6, 17])
 (.cond (.t 17)
 (.seq (.region [⟨some 18, .build false (.arr 64 .leaf z64) [], none, []⟩,
 ⟨none, .store false (.arr 64 .leaf) (.t 6) (.t 18), none, []⟩] [6])
 (.ret))
 (.skip)))
 (.seq (.region [⟨some 20, .mv (.t 0), none, []⟩,
 ⟨some 21, .load (.arr 64 .leaf) (.t 4), none, []⟩,
 ⟨some 22, .load (.arr 64 .leaf) (.t 5), none, []⟩,
 ⟨some 23, .call .flat [] (.f F2g) [(.t 20), (.t 21), (.t 22)], none, []⟩,
 ⟨some 19, .mv (.t 23), none, []⟩,
 ⟨some 24, .ext (.t 19) 0, none, []⟩,
 ⟨some 25, .ext (.t 19) 1, none, []⟩,
 ⟨some 26, .ext (.t 19) 2, none, []⟩,
 ⟨some 7, .box false 3 (.c (.arr 64 .leaf z64)), none, []⟩,
 ⟨some 8, .box false 4 (.c (.arr 64 .leaf z64)), none, []⟩,
 ⟨some 9, .box false 5 (.c (.arr 64 .leaf z64)), none, []⟩,
 ⟨none, .store false (.arr 64 .leaf) (.t 7) (.t 24), none, []⟩,
 ⟨none, .store false (.arr 64 .leaf) (.t 8) (.t 25), none, []⟩,
 ⟨none, .store false (.arr 64 .leaf) (.t 9) (.t 26), none, []⟩] [6, 7])
 (.seq (.region [⟨some 27, .load (.arr 64 .leaf) (.t 7), none, []⟩,
 ⟨none, .store false (.arr 64 .leaf) (.t 6) (.t 27), none, []⟩] [6])
 (.ret))))
def Z2p : Fn :=
 { nparams := 3, nblk := 6, results := [.cell 6 (.arr 64 .leaf)], body := Z2p_B }
def Z33_B : Cd :=
 .seq (.region [⟨some 0, .box false 0 (.c (.arr 64 .leaf z64)), none, []⟩] [0])
 (.seq (.region [⟨some 1, .build false (.arr 64 .leaf z64) [(0, (.c (.int .u8 0))), (1, (.c (.int .u8 1)))], none, []⟩,
 ⟨none, .store false (.arr 64 .leaf) (.t 0) (.t 1), none, []⟩] [0])
 (.ret))
def Z33 : Fn :=
 { nparams := 0, nblk := 1, results := [.cell 0 (.arr 64 .leaf)], body := Z33_B }
def Z2s_L0 : Cd :=
 .seq (.seq (.region [⟨some 16, .mv (.t 7), none, []⟩,
 ⟨some 17, .bin .mul (.c (.int .i64 2)) (.t 16), none, []⟩,
 ⟨some 18, .mv (.t 5), none, []⟩,
 ⟨some 19, .bin .leq (.t 17) (.t 18), none, []⟩] [0, 3, 5, 6, 7, 19])
 (.cond (.t 19)
 (.skip)
 (.exit 0)))
 (.seq (.block 1 (.seq (.region [⟨some 22, .mv (.t 0), none, []⟩,
 ⟨some 23, .load (.arr 64 .leaf) (.t 6), none, []⟩,
 ⟨some 24, .mv (.t 0), none, []⟩,
 ⟨some 25, .load (.arr 64 .leaf) (.t 3), none, []⟩,
 ⟨some 26, .call .flat [] (.f F31) [(.t 22), (.t 23), (.t 24), (.t 25)], none, []⟩,
 ⟨none, .store false (.arr 64 .leaf) (.t 6) (.t 26), none, []⟩] [0, 3, 5, 6, 7])
 (.seq (.region [⟨some 27, .mv (.t 0), none, []⟩,
 ⟨some 28, .load (.arr 64 .leaf) (.t 3), none, []⟩,
 ⟨some 29, .mv (.t 0), none, []⟩,
 ⟨some 30, .load (.arr 64 .leaf) (.t 6), none, []⟩,
 ⟨some 31, .call .flat [] (.f F33) [], none, []⟩,
 ⟨some 32, .call .flat [] (.f F2e) [(.t 29), (.t 30), (.t 31), (.c (.int .i64 (-1)))], none, []⟩,
 ⟨some 33, .call .flat [] (.f F2p) [(.t 27), (.t 28), (.t 32)], none, []⟩,
 ⟨some 34, .call .flat [] (.f F2j) [(.t 33)], none, []⟩,
 ⟨some 35, .bin .neq (.t 34) (.c (.int .i64 0)), none, []⟩] [0, 3, 5, 6, 7, 35])
 (.cond (.t 35)
 (.seq (.region [⟨some 4, .mv (.c (.bool false)), none, []⟩] [4])
 (.ret))
 (.skip)))))
 (.region [⟨some 20, .mv (.t 7), none, []⟩,
 ⟨some 21, .bin .add (.t 20) (.c (.int .i64 1)), none, []⟩,
 ⟨some 7, .mv (.t 21), none, []⟩] [0, 3, 5, 6, 7]))
def Z2s_B : Cd :=
 .seq (.region [⟨some 3, .box false 0 (.t 1), none, []⟩,
 ⟨some 4, .mv (.c (.bool false)), none, []⟩] [0, 3])
 (.seq (.region [⟨some 8, .load (.arr 64 .leaf) (.t 3), none, []⟩,
 ⟨some 9, .call .flat [] (.f F2j) [(.t 8)], none, []⟩,
 ⟨some 10, .mv (.t 0), none, []⟩,
 ⟨some 11, .call .flat [] (.f F33) [], none, []⟩,
 ⟨some 12, .load (.arr 64 .leaf) (.t 3), none, []⟩,
 ⟨some 13, .call .flat [] (.f F2u) [(.t 10), (.t 11), (.t 12)], none, []⟩,
 ⟨some 6, .box false 1 (.c (.arr 64 .leaf z64)), none, []⟩,
 ⟨some 5, .mv (.t 9), none, []⟩,
 ⟨none, .store false (.arr 64 .leaf) (.t 6) (.t 13), none, []⟩] [0, 3, 5, 6])
 (.seq (.seq (.region [⟨some 14, .mv (.t 5), none, []⟩,
 ⟨some 15, .bin .lss (.t 14) (.c (.int .i64 1)), none, []⟩] [0, 3, 5, 6, 15])
 (.cond (.t 15)
 (.seq (.region [⟨some 4, .mv (.c (.bool false)), none, []⟩] [4])
 (.ret))
 (.skip)))
 (.seq (.seq (.region [⟨some 7, .mv (.c (.int .i64 1)), none, []⟩] [0, 3, 5, 6, 7])
 (.block 0 (.loop (Z2s_L0))))
 (.seq (.region [⟨some 4, .mv (.c (.bool true)), none, []⟩] [4])
 (.ret)))))
def Z2s : Fn :=
 { nparams := 2, nblk := 2, results := [.tmp 4], body := Z2s_B }
def Z2o_L0 : Cd :=
 .seq (.seq (.region [⟨some 12, .mv (.t 4), none, []⟩,
 ⟨some 13, .mv (.t 0), none, []⟩,
 ⟨some 14, .len false (.t 13), none, []⟩,
 ⟨some 15, .bin .lss (.t 12) (.t 14), none, []⟩,
 ⟨some 16, .mv (.t 15), none, []⟩,
 ⟨some 17, .mv (.t 4), some (16, true), []⟩,
 ⟨some 18, .bin .lss (.t 17) (.c (.int .i64 4096)), some (16, true), []⟩,
 ⟨some 19, .pick (.t 16) (.t 18) (.c (.bool false)), none, []⟩] [0, 3, 4, 19])
 (.cond (.t 19)
 (.skip)
 (.exit 0)))
 (.seq (.block 1 (.region [⟨some 22, .mv (.t 3), none, []⟩,
 ⟨some 23, .mv (.t 3), none, []⟩,
 ⟨some 24, .chk (.t 23), none, []⟩,
 ⟨some 25, .fldA [.leaf, .leaf, .leaf] (.t 24) 2, none, []⟩,
 ⟨some 26, .load .leaf (.t 25), none, []⟩,
 ⟨some 27, .bin .mul (.t 26) (.c (.int .u64 1099511628211)), none, []⟩,
 ⟨some 28, .mv (.t 0), none, []⟩,
 ⟨some 29, .mv (.t 4), none, []⟩,
 ⟨some 30, .idxA none .leaf (.t 28) (.t 29), none, []⟩,
 ⟨some 31, .load .leaf (.t 30), none, []⟩,
 ⟨some 32, .conv .u64 (.t 31), none, []⟩,
 ⟨some 33, .bin .add (.t 27) (.t 32), none, []⟩,
 ⟨some 34, .bin .add (.t 33) (.c (.int .u64 61)), none, []⟩,
 ⟨some 35, .chk (.t 22), none, []⟩,
 ⟨some 36, .fldA [.leaf, .leaf, .leaf] (.t 35) 2, none, []⟩,
 ⟨none, .store false .leaf (.t 36) (.t 34), none, []⟩] [0, 3, 4]))
 (.region [⟨some 20, .mv (.t 4), none, []⟩,
 ⟨some 21, .bin .add (.t 20) (.c (.int .i64 1)), none, []⟩,
 ⟨some 4, .mv (.t 21), none, []⟩] [0, 3, 4]))
def Z2o_B : Cd :=
 .seq (.region [⟨some 2, .mv (.c .nilp), none, []⟩] [0])
 (.seq (.region [⟨some 5, .mv (.t 0), none, []⟩,
 ⟨some 6, .mv (.t 0), none, []⟩,
 ⟨some 7, .len false (.t 6), none, []⟩,
 ⟨some 8, .conv .u64 (.t 7), none, []⟩,
 ⟨some 9, .bin .add (.c (.int .u64 12251)) (.t 8), none, []⟩,
 ⟨some 10, .build true (.st [.leaf, .leaf, .leaf] [(.sl .leaf []), (.int .i64 0), (.int .u64 0)]) [(0, (.t 5)), (2, (.t 9))], none, []⟩,
 ⟨some 11, .box false 0 (.t 10), none, []⟩,
 ⟨some 3, .mv (.t 11), none, []⟩] [0, 3])
 (.seq (.seq (.region [⟨some 4, .mv (.c (.int .i64 0)), none, []⟩] [0, 3, 4])
 (.block 0 (.loop (Z2o_L0))))
 (.seq (.region [⟨some 37, .mv (.t 3), none, []⟩,
 ⟨some 2, .mv (.t 37), none, []⟩] [2])
 (.ret))))
def Z2o : Fn :=
 { nparams := 1, nblk := 1, results := [.tmp 2], body := Z2o_B }
def Z2x_B : Cd :=
 .seq (.region [⟨some 4, .mv (.c (.int .i64 0)), none, []⟩] [0, 1])
 (.seq (.seq (.region [⟨some 6, .mv (.t 1), none, []⟩,
 ⟨some 7, .bin .lss (.t 6) (.c (.int .i64 1)), none, []⟩] [0, 1, 7])
 (.cond (.t 7)
 (.seq (.region [⟨some 4, .mv (.c (.int .i64 0)), none, []⟩] [4])
 (.ret))
 (.skip)))
 (.seq (.region [⟨some 8, .mv (.t 0), none, []⟩,
 ⟨some 9, .mv (.t 0), none, []⟩,
 ⟨some 10, .chk (.t 9), none, []⟩,
 ⟨some 11, .fldA [.leaf, .leaf, .leaf] (.t 10) 2, none, []⟩,
 ⟨some 12, .load .leaf (.t 11), none, []⟩,
 ⟨some 13, .bin .mul (.t 12) (.c (.int .u64 6364136223846793005)), none, []⟩,
 ⟨some 14, .bin .add (.t 13) (.c (.int .u64 1442695040888963407)), none, []⟩,
 ⟨some 15, .chk (.t 8), none, []⟩,
 ⟨some 16, .fldA [.leaf, .leaf, .leaf] (.t 15) 2, none, []⟩,
 ⟨none, .store false .leaf (.t 16) (.t 14), none, []⟩] [0, 1])
 (.seq (.region [⟨some 17, .mv (.t 0), none, []⟩,
 ⟨some 18, .chk (.t 17), none, []⟩,
 ⟨some 19, .fldA [.leaf, .leaf, .leaf] (.t 18) 2, none, []⟩,
 ⟨some 20, .load .leaf (.t 19), none, []⟩,
 ⟨some 21, .bin .shr (.t 20) (.c (.int .u64 33)), none, []⟩,
 ⟨some 22, .bin .and (.t 21) (.c (.int .u64 16777215)), none, []⟩,
 ⟨some 23, .conv .i64 (.t 22), none, []⟩,
 ⟨some 5, .mv (.t 23), none, []⟩] [0, 1, 5])
 (.seq (.seq (.region [⟨some 24, .mv (.t 0), none, []⟩,
 ⟨some 25, .chk (.t 24), none, []⟩,
 ⟨some 26, .fldA [.leaf, .leaf, .leaf] (.t 25) 1, none, []⟩,
 ⟨some 27, .load .leaf (.t 26), none, []⟩,
 ⟨some 28, .mv (.t 0), none, []⟩,
 ⟨some 29, .chk (.t 28), none, []⟩,
 ⟨some 30, .fldA [.leaf, .leaf, .leaf] (.t 29) 0, none, []⟩,
 ⟨some 31, .load .leaf (.t 30), none, []⟩,
 ⟨some 32, .len false (.t 31), none, []⟩,
 ⟨some 33, .bin .lss (.t 27) (.t 32), none, []⟩] [0, 1, 5, 33])
 (.cond (.t 33)
 (.seq (.region [⟨some 34, .mv (.t 5), none, []⟩,
 ⟨some 35, .mv (.t 0), none, []⟩,
 ⟨some 36, .chk (.t 35), none, []⟩,
 ⟨some 37, .fldA [.leaf, .leaf, .leaf] (.t 36) 0, none, []⟩,
 ⟨some 38, .load .leaf (.t 37), none, []⟩,
 ⟨some 39, .mv (.t 0), none, []⟩,
 ⟨some 40, .chk (.t 39), none, []⟩,
 ⟨some 41, .fldA [.leaf, .leaf, .leaf] (.t 40) 1, none, []⟩,
 ⟨some 42, .load .leaf (.t 41), none, []⟩,
 ⟨some 43, .idxA none .leaf (.t 38) (.t 42), none, []⟩,
 ⟨some 44, .load .leaf (.t 43), none, []⟩,
 ⟨some 45, .conv .i64 (.t 44), none, []⟩,
 ⟨some 46, .bin .add (.t 34) (.t 45), none, []⟩,
 ⟨some 5, .mv (.t 46), none, []⟩] [0, 1, 5])
 (.region [⟨some 47, .mv (.t 0), none, []⟩,
 ⟨some 48, .mv (.t 0), none, []⟩,
 ⟨some 49, .chk (.t 48), none, []⟩,
 ⟨some 50, .fldA [.leaf, .leaf, .leaf] (.t 49) 1, none, []⟩,
 ⟨some 51, .load .leaf (.t 50), none, []⟩,
 ⟨some 52, .bin .add (.t 51) (.c (.int .i64 1)), none, []⟩,
 ⟨some 53, .chk (.t 47), none, []⟩,
 ⟨some 54, .fldA [.leaf, .leaf, .leaf] (.t 53) 1, none, []⟩,
 ⟨none, .store false .leaf (.t 54) (.t 52), none, []⟩] [1, 5]))
 (.skip)))
 (.seq (.region [⟨some 55, .mv (.t 5), none, []⟩,
 ⟨some 56, .mv (.t 1), none, []⟩,
 ⟨some 57, .bin .rem (.t 55) (.t 56), none, []⟩,
 ⟨some 4, .mv (.t 57), none, []⟩] [4])
 (.ret))))))
def Z2x : Fn :=
 { nparams := 2, nblk := 0, results := [.tmp 4], body := Z2x_B }
def Z2m_L0 : Cd :=
 .seq (.seq (.region [⟨some 21, .mv (.t 10), none, []⟩,
 ⟨some 22, .mv (.t 9), none, []⟩,
 ⟨some 23, .bin .lss (.t 21) (.t 22), none, []⟩] [0, 1, 2, 6, 7, 8, 9, 10, 23])
 (.cond (.t 23)
 (.skip)
 (.exit 2)))
 (.seq (.block 3 (.region [⟨some 26, .mv (.t 10), none, []⟩,
 ⟨some 27, .mv (.t 0), none, []⟩,
 ⟨some 28, .mv (.t 1), none, []⟩,
 ⟨some 29, .call .heap [] (.f F2x) [(.t 27), (.t 28)], none, []⟩,
 ⟨some 30, .conv .u8 (.t 29), none, []⟩,
 ⟨some 31, .idxA (some 64) .leaf (.t 7) (.t 26), none, []⟩,
 ⟨none, .store false .leaf (.t 31) (.t 30), none, []⟩] [0, 1, 2, 6, 7, 8, 9, 10]))
 (.region [⟨some 24, .mv (.t 10), none, []⟩,
 ⟨some 25, .bin .add (.t 24) (.c (.int .i64 1)), none, []⟩,
 ⟨some 10, .mv (.t 25), none, []⟩] [0, 1, 2, 6, 7, 8, 9, 10]))
def Z2m_L1 : Cd :=
 .seq (.seq (.region [⟨some 12, .mv (.t 8), none, []⟩,
 ⟨some 13, .bin .lss (.t 12) (.c (.int .i64 4)), none, []⟩] [0, 1, 2, 6, 7, 8, 13])
 (.cond (.t 13)
 (.skip)
 (.exit 0)))
 (.seq (.block 1 (.seq (.region [⟨some 16, .mv (.t 0), none, []⟩,
 ⟨some 17, .mv (.t 2), none, []⟩,
 ⟨some 18, .call .heap [] (.f F2x) [(.t 16), (.t 17)], none, []⟩,
 ⟨some 19, .bin .add (.c (.int .i64 1)) (.t 18), none, []⟩,
 ⟨some 9, .mv (.t 19), none, []⟩] [0, 1, 2, 6, 7, 8, 9])
 (.seq (.region [⟨some 20, .build false (.arr 64 .leaf z64) [], none, []⟩,
 ⟨none, .store false (.arr 64 .leaf) (.t 7) (.t 20), none, []⟩] [0, 1, 2, 6, 7, 8, 9])
 (.seq (.seq (.region [⟨some 10, .mv (.c (.int .i64 0)), none, []⟩] [0, 1, 2, 6, 7, 8, 9, 10])
 (.block 2 (.loop (Z2m_L0))))
 (.seq (.region [⟨some 32, .mv (.t 9), none, []⟩,
 ⟨some 33, .idxA (some 64) .leaf (.t 7) (.t 32), none, []⟩,
 ⟨none, .store false .leaf (.t 33) (.c (.int .u8 1)), none, []⟩] [0, 1, 2, 6, 7, 8])
 (.seq (.region [⟨some 34, .mv (.t 0), none, []⟩,
 ⟨some 35, .call .heap [] (.f F2x) [(.t 34), (.c (.int .i64 3))], none, []⟩,
 ⟨some 36, .bin .eql (.t 35) (.c (.int .i64 0)), none, []⟩,
 ⟨some 37, .mv (.t 36), none, []⟩,
 ⟨some 38, .mv (.t 1), some (37, false), []⟩,
 ⟨some 39, .load (.arr 64 .leaf) (.t 7), some (37, false), []⟩,
 ⟨some 40, .call .flat [] (.f F2s) [(.t 38), (.t 39)], some (37, false), []⟩,
 ⟨some 41, .pick (.t 37) (.c (.bool true)) (.t 40), none, []⟩] [0, 1, 2, 6, 7, 8, 41])
 (.cond (.t 41)
 (.seq (.region [⟨some 42, .load (.arr 64 .leaf) (.t 7), none, []⟩,
 ⟨none, .store false (.arr 64 .leaf) (.t 6) (.t 42), none, []⟩] [6])
 (.ret))
 (.skip))))))))
 (.region [⟨some 14, .mv (.t 8), none, []⟩,
 ⟨some 15, .bin .add (.t 14) (.c (.int .i64 1)), none, []⟩,
 ⟨some 8, .mv (.t 15), none, []⟩] [0, 1, 2, 6, 7, 8]))
def Z2m_B : Cd :=
 .seq (.region [⟨some 6, .box false 0 (.c (.arr 64 .leaf z64)), none, []⟩] [0, 1, 2, 6])
 (.seq (.region [⟨some 11, .call .flat [] (.f F33) [], none, []⟩,
 ⟨some 7, .box false 1 (.c (.arr 64 .leaf z64)), none, []⟩,
 ⟨none, .store false (.arr 64 .leaf) (.t 7) (.t 11), none, []⟩] [0, 1, 2, 6, 7])
 (.seq (.seq (.region [⟨some 8, .mv (.c (.int .i64 0)), none, []⟩] [0, 1, 2, 6, 7, 8])
 (.block 0 (.loop (Z2m_L1))))
 (.seq (.region [⟨some 43, .load (.arr 64 .leaf) (.t 7), none, []⟩,
 ⟨none, .store false (.arr 64 .leaf) (.t 6) (.t 43), none, []⟩] [6])
 (.ret))))
def Z2m : Fn :=
 { nparams := 3, nblk := 2, results := [.cell 6 (.arr 64 .leaf)], body := Z2m_B }
def ir_spec_l01Draw_L0 : Cd :=
 .seq (.seq (.region [⟨some 15, .mv (.t 8), none, []⟩,
 ⟨some 16, .bin .geq (.t 15) (.c (.int .i64 0)), none, []⟩] [0, 1, 6, 7, 8, 16])
 (.cond (.t 16)
 (.skip)
 (.exit 0)))
 (.seq (.block 1 (.seq (.region [⟨some 19, .mv (.t 0), none, []⟩,
 ⟨some 20, .call .heap [] (.f F2x) [(.t 19), (.c (.int .i64 3))], none, []⟩,
 ⟨some 21, .bin .gtr (.t 20) (.c (.int .i64 0)), none, []⟩] [0, 1, 6, 7, 8, 21])
 (.cond (.t 21)
 (.region [⟨some 22, .mv (.t 8), none, []⟩,
 ⟨some 23, .mv (.t 0), none, []⟩,
 ⟨some 24, .mv (.t 1), none, []⟩,
 ⟨some 25, .call .heap [] (.f F2x) [(.t 23), (.t 24)], none, []⟩,
 ⟨some 26, .conv .u8 (.t 25), none, []⟩,
 ⟨some 27, .idxA (some 64) .leaf (.t 7) (.t 22), none, []⟩,
 ⟨none, .store false .leaf (.t 27) (.t 26), none, []⟩] [0, 1, 6, 7, 8])
 (.skip))))
 (.region [⟨some 17, .mv (.t 8), none, []⟩,
 ⟨some 18, .bin .sub (.t 17) (.c (.int .i64 1)), none, []⟩,
 ⟨some 8, .mv (.t 18), none, []⟩] [0, 1, 6, 7, 8]))
def ir_spec_l01Draw_B : Cd :=
 .seq (.region [⟨some 6, .box false 0 (.c (.arr 64 .leaf z64)), none, []⟩] [0, 1, 2, 6])
 (.seq (.region [⟨some 9, .build false (.arr 64 .leaf z64) [], none, []⟩,
 ⟨some 7, .box false 1 (.c (.arr 64 .leaf z64)), none, []⟩,
 ⟨none, .store false (.arr 64 .leaf) (.t 7) (.t 9), none, []⟩] [0, 1, 2, 6, 7])
 (.seq (.seq (.region [⟨some 10, .mv (.t 0), none, []⟩,
 ⟨some 11, .mv (.t 2), none, []⟩,
 ⟨some 12, .bin .add (.t 11) (.c (.int .i64 2)), none, []⟩,
 ⟨some 13, .call .heap [] (.f F2x) [(.t 10), (.t 12)], none, []⟩,
 ⟨some 14, .bin .sub (.t 13) (.c (.int .i64 1)), none, []⟩,
 ⟨some 8, .mv (.t 14), none, []⟩] [0, 1, 6, 7, 8])
 (.block 0 (.loop (ir_spec_l01Draw_L0))))
 (.seq (.region [⟨some 28, .load (.arr 64 .leaf) (.t 7), none, []⟩,
 ⟨none, .store false (.arr 64 .leaf) (.t 6) (.t 28), none, []⟩] [6])
 (.ret))))
def Z2l : Fn :=
 { nparams := 3, nblk := 2, results := [.cell 6 (.arr 64 .leaf)], body := ir_spec_l01Draw_B }
def Z30_B : Cd :=
 .seq (.region [⟨some 4, .mv (.c (.int .i64 0)), none, []⟩] [0, 1])
 (.seq (.region [⟨some 5, .mv (.t 1), none, []⟩,
 ⟨some 6, .mv (.t 0), none, []⟩,
 ⟨some 7, .mv (.t 1), none, []⟩,
 ⟨some 8, .len false (.t 7), none, []⟩,
 ⟨some 9, .call .heap [] (.f F2x) [(.t 6), (.t 8)], none, []⟩,
 ⟨some 10, .idxA none .leaf (.t 5) (.t 9), none, []⟩,
 ⟨some 11, .load .leaf (.t 10), none, []⟩,
 ⟨some 4, .mv (.t 11), none, []⟩] [4])
 (.ret))
def Z30 : Fn :=
 { nparams := 2, nblk := 0, results := [.tmp 4], body := Z30_B }
def Z2n_B : Cd :=
 .seq (.region [⟨some 2, .mv (.c (.int .i64 0)), none, []⟩] [0])
 (.seq (.region [⟨some 3, .mv (.t 0), none, []⟩,
 ⟨some 4, .buildSl false 0 .leaf (.int .i64 0) 6 [(0, (.c (.int .i64 2))), (1, (.c (.int .i64 2))), (2, (.c (.int .i64 3))), (3, (.c (.int .i64 3))), (4, (.c (.int .i64 5))), (5, (.c (.int .i64 7)))], none, []⟩,
 ⟨some 5, .call .heap [] (.f F30) [(.t 3), (.t 4)], none, []⟩,
 ⟨some 2, .mv (.t 5), none, []⟩] [2])
 (.ret))
def Z2n : Fn :=
 { nparams := 1, nblk := 1, results := [.tmp 2], body := Z2n_B }
def Z2f_B : Cd :=
 .seq (.region [⟨some 5, .box false 0 (.t 2), none, []⟩,
 ⟨some 6, .box false 1 (.c (.arr 64 .leaf z64)), none, []⟩] [0, 1, 5, 6])
 (.seq (.seq (.region [⟨some 7, .mv (.t 0), none, []⟩,
 ⟨some 8, .call .heap [] (.f F2x) [(.t 7), (.c (.int .i64 40))], none, []⟩,
 ⟨some 9, .bin .eql (.t 8) (.c (.int .i64 0)), none, []⟩] [0, 1, 5, 6, 9])
 (.cond (.t 9)
 (.region [⟨some 10, .mv (.t 0), none, []⟩,
 ⟨some 11, .call .heap [] (.f F2x) [(.t 10), (.c (.int .i64 64))], none, []⟩,
 ⟨some 12, .mv (.t 0), none, []⟩,
 ⟨some 13, .mv (.t 1), none, []⟩,
 ⟨some 14, .buildSl false 2 .leaf (.int .i64 0) 4 [(0, (.t 13)), (1, (.c (.int .i64 7))), (2, (.c (.int .i64 255))), (3, (.c (.int .i64 1)))], none, []⟩,
 ⟨some 15, .call .heap [] (.f F30) [(.t 12), (.t 14)], none, []⟩,
 ⟨some 16, .conv .u8 (.t 15), none, []⟩,
 ⟨some 17, .idxA (some 64) .leaf (.t 5) (.t 11), none, []⟩,
 ⟨none, .store false .leaf (.t 17) (.t 16), none, []⟩] [5, 6])
 (.skip)))
 (.seq (.region [⟨some 18, .load (.arr 64 .leaf) (.t 5), none, []⟩,
 ⟨none, .store false (.arr 64 .leaf) (.t 6) (.t 18), none, []⟩] [6])
 (.ret)))
def Z2f : Fn :=
 { nparams := 3, nblk := 3, results := [.cell 6 (.arr 64 .leaf)], body := Z2f_B }
end Pe

/-
 Functions of the program in the small form, printed by a program.
-/
namespace Pe
open Go
def Z3b_L0 : Cd :=
 .seq (.seq (.region [⟨some 44, .load (.arr 64 .leaf) (.t 3), none, []⟩,
 ⟨some 45, .call .flat [] (.f F2j) [(.t 44)], none, []⟩,
 ⟨some 46, .mv (.t 6), none, []⟩,
 ⟨some 47, .bin .geq (.t 45) (.t 46), none, []⟩] [0, 3, 5, 6, 7, 8, 9, 47])
 (.cond (.t 47)
 (.skip)
 (.exit 4)))
 (.block 5 (.seq (.region [⟨some 49, .mv (.t 0), none, []⟩,
 ⟨some 50, .load (.arr 64 .leaf) (.t 3), none, []⟩,
 ⟨some 51, .load (.arr 64 .leaf) (.t 8), none, []⟩,
 ⟨some 52, .call .flat [] (.f F2k) [(.t 49), (.t 50), (.t 51)], none, []⟩,
 ⟨some 48, .mv (.t 52), none, []⟩,
 ⟨some 53, .ext (.t 48) 0, none, []⟩,
 ⟨some 54, .ext (.t 48) 1, none, []⟩,
 ⟨some 10, .box false 3 (.c (.arr 64 .leaf z64)), none, []⟩,
 ⟨some 11, .box false 4 (.c (.arr 64 .leaf z64)), none, []⟩,
 ⟨none, .store false (.arr 64 .leaf) (.t 10) (.t 53), none, []⟩,
 ⟨none, .store false (.arr 64 .leaf) (.t 11) (.t 54), none, []⟩] [0, 3, 5, 6, 7, 8, 9, 10, 11])
 (.seq (.seq (.region [⟨some 55, .load (.arr 64 .leaf) (.t 11), none, []⟩,
 ⟨some 56, .build false (.arr 64 .leaf z64) [], none, []⟩,
 ⟨some 57, .eqv true (.arr 64 .leaf .int) (.t 55) (.t 56), none, []⟩] [0, 3, 5, 6, 7, 8, 9, 10, 57])
 (.cond (.t 57)
 (.exit 4)
 (.skip)))
 (.seq (.region [⟨some 58, .load (.arr 64 .leaf) (.t 10), none, []⟩,
 ⟨none, .store false (.arr 64 .leaf) (.t 3) (.t 58), none, []⟩] [0, 3, 5, 6, 7, 8, 9])
 (.region [⟨some 59, .mv (.t 9), none, []⟩,
 ⟨some 60, .bin .add (.t 59) (.c (.int .i64 1)), none, []⟩,
 ⟨some 9, .mv (.t 60), none, []⟩] [0, 3, 5, 6, 7, 8, 9])))))
def Z3b_L1 : Cd :=
 .seq (.seq (.region [⟨some 26, .mv (.t 7), none, []⟩,
 ⟨some 27, .mv (.t 0), none, []⟩,
 ⟨some 28, .mv (.t 6), none, []⟩,
 ⟨some 29, .call .flat [] (.f F2i) [(.t 27), (.t 28)], none, []⟩,
 ⟨some 30, .bin .mul (.c (.int .i64 2)) (.t 29), none, []⟩,
 ⟨some 31, .bin .lss (.t 26) (.t 30), none, []⟩,
 ⟨some 32, .mv (.t 31), none, []⟩,
 ⟨some 33, .mv (.t 6), some (32, true), []⟩,
 ⟨some 34, .bin .mul (.c (.int .i64 2)) (.t 33), some (32, true), []⟩,
 ⟨some 35, .load (.arr 64 .leaf) (.t 3), some (32, true), []⟩,
 ⟨some 36, .call .flat [] (.f F2j) [(.t 35)], some (32, true), []⟩,
 ⟨some 37, .bin .leq (.t 34) (.t 36), some (32, true), []⟩,
 ⟨some 38, .pick (.t 32) (.t 37) (.c (.bool false)), none, []⟩] [0, 3, 5, 6, 7, 38])
 (.cond (.t 38)
 (.skip)
 (.exit 2)))
 (.seq (.block 3 (.seq (.region [⟨some 41, .mv (.t 0), none, []⟩,
 ⟨some 42, .mv (.t 7), none, []⟩,
 ⟨some 43, .call .flat [] (.f F2y) [(.t 41), (.t 42)], none, []⟩,
 ⟨some 8, .box false 2 (.c (.arr 64 .leaf z64)), none, []⟩,
 ⟨none, .store false (.arr 64 .leaf) (.t 8) (.t 43), none, []⟩,
 ⟨some 9, .mv (.c (.int .i64 0)), none, []⟩] [0, 3, 5, 6, 7, 8, 9])
 (.seq (.block 4 (.loop (Z3b_L0)))
 (.seq (.region [⟨some 61, .mv (.t 9), none, []⟩,
 ⟨some 62, .bin .gtr (.t 61) (.c (.int .i64 0)), none, []⟩] [0, 3, 5, 6, 7, 8, 9, 62])
 (.cond (.t 62)
 (.region [⟨some 63, .mv (.t 5), none, []⟩,
 ⟨some 64, .load (.arr 64 .leaf) (.t 8), none, []⟩,
 ⟨some 65, .mv (.t 9), none, []⟩,
 ⟨some 66, .build false (.st [(.arr 64 .leaf), .leaf] [(.arr 64 .leaf z64), (.int .i64 0)]) [(0, (.t 64)), (1, (.t 65))], none, []⟩,
 ⟨some 67, .buildSl false 5 (.st [(.arr 64 .leaf), .leaf]) (.st [(.arr 64 .leaf), .leaf] [(.arr 64 .leaf z64), (.int .i64 0)]) 1 [(0, (.t 66))], none, []⟩,
 ⟨some 68, .append (.st [(.arr 64 .leaf), .leaf]) 6 72 (.t 63) (.t 67), none, []⟩,
 ⟨some 5, .mv (.t 68), none, []⟩] [0, 3, 5, 6, 7])
 (.skip))))))
 (.region [⟨some 39, .mv (.t 7), none, []⟩,
 ⟨some 40, .bin .add (.t 39) (.c (.int .i64 1)), none, []⟩,
 ⟨some 7, .mv (.t 40), none, []⟩] [0, 3, 5, 6, 7]))
def Z3b_L2 : Cd :=
 .seq (.seq (.region [⟨some 16, .mv (.t 6), none, []⟩,
 ⟨some 17, .bin .mul (.c (.int .i64 2)) (.t 16), none, []⟩,
 ⟨some 18, .load (.arr 64 .leaf) (.t 3), none, []⟩,
 ⟨some 19, .call .flat [] (.f F2j) [(.t 18)], none, []⟩,
 ⟨some 20, .bin .leq (.t 17) (.t 19), none, []⟩] [0, 3, 5, 6, 20])
 (.cond (.t 20)
 (.skip)
 (.exit 0)))
 (.seq (.block 1 (.seq (.region [⟨some 23, .mv (.t 0), none, []⟩,
 ⟨some 24, .mv (.t 6), none, []⟩,
 ⟨some 25, .call .flat [] (.f F2i) [(.t 23), (.t 24)], none, []⟩,
 ⟨some 7, .mv (.t 25), none, []⟩] [0, 3, 5, 6, 7])
 (.block 2 (.loop (Z3b_L1)))))
 (.region [⟨some 21, .mv (.t 6), none, []⟩,
 ⟨some 22, .bin .add (.t 21) (.c (.int .i64 1)), none, []⟩,
 ⟨some 6, .mv (.t 22), none, []⟩] [0, 3, 5, 6]))
def Z3b_B : Cd :=
 .seq (.region [⟨some 3, .box false 0 (.t 1), none, []⟩,
 ⟨some 4, .mv (.c (.sl (.st [(.arr 64 .leaf), .leaf]) [])), none, []⟩] [0, 3])
 (.seq (.region [⟨some 15, .buildSl false 1 (.st [(.arr 64 .leaf), .leaf]) (.st [(.arr 64 .leaf), .leaf] [(.arr 64 .leaf z64), (.int .i64 0)]) 0 [], none, []⟩,
 ⟨some 5, .mv (.t 15), none, []⟩] [0, 3, 5])
 (.seq (.seq (.region [⟨some 6, .mv (.c (.int .i64 1)), none, []⟩] [0, 3, 5, 6])
 (.block 0 (.loop (Z3b_L2))))
 (.seq (.seq (.region [⟨some 69, .load (.arr 64 .leaf) (.t 3), none, []⟩,
 ⟨some 70, .call .flat [] (.f F2j) [(.t 69)], none, []⟩,
 ⟨some 12, .mv (.t 70), none, []⟩] [0, 3, 5, 12])
 (.seq (.region [⟨some 71, .mv (.t 12), none, []⟩,
 ⟨some 72, .bin .gtr (.t 71) (.c (.int .i64 0)), none, []⟩] [0, 3, 5, 12, 72])
 (.cond (.t 72)
 (.seq (.region [⟨some 73, .mv (.t 0), none, []⟩,
 ⟨some 74, .build false (.arr 64 .leaf z64) [], none, []⟩,
 ⟨some 75, .load (.arr 64 .leaf) (.t 3), none, []⟩,
 ⟨some 76, .mv (.t 0), none, []⟩,
 ⟨some 77, .mv (.t 12), none, []⟩,
 ⟨some 78, .idxA (some 64) .leaf (.t 3) (.t 77), none, []⟩,
 ⟨some 79, .load .leaf (.t 78), none, []⟩,
 ⟨some 80, .call .flat [] (.f F2r) [(.t 76), (.t 79)], none, []⟩,
 ⟨some 81, .conv .i64 (.t 80), none, []⟩,
 ⟨some 82, .call .flat [] (.f F2e) [(.t 73), (.t 74), (.t 75), (.t 81)], none, []⟩,
 ⟨some 13, .box false 7 (.c (.arr 64 .leaf z64)), none, []⟩,
 ⟨none, .store false (.arr 64 .leaf) (.t 13) (.t 82), none, []⟩] [5, 13])
 (.seq (.region [⟨some 83, .mv (.t 5), none, []⟩,
 ⟨some 84, .len false (.t 83), none, []⟩,
 ⟨some 85, .bin .sub (.t 84) (.c (.int .i64 1)), none, []⟩,
 ⟨some 14, .mv (.t 85), none, []⟩] [5, 13, 14])
 (.seq (.region [⟨some 86, .mv (.t 14), none, []⟩,
 ⟨some 87, .bin .geq (.t 86) (.c (.int .i64 0)), none, []⟩,
 ⟨some 88, .mv (.t 87), none, []⟩,
 ⟨some 89, .mv (.t 5), some (88, true), []⟩,
 ⟨some 90, .mv (.t 14), some (88, true), []⟩,
 ⟨some 91, .idxA none (.st [(.arr 64 .leaf), .leaf]) (.t 89) (.t 90), some (88, true), []⟩,
 ⟨some 92, .fldA [(.arr 64 .leaf), .leaf] (.t 91) 0, some (88, true), []⟩,
 ⟨some 93, .load (.arr 64 .leaf) (.t 92), some (88, true), []⟩,
 ⟨some 94, .load (.arr 64 .leaf) (.t 13), some (88, true), []⟩,
 ⟨some 95, .eqv false (.arr 64 .leaf .int) (.t 93) (.t 94), some (88, true), []⟩,
 ⟨some 96, .pick (.t 88) (.t 95) (.c (.bool false)), none, []⟩] [5, 13, 14, 96])
 (.cond (.t 96)
 (.region [⟨some 97, .mv (.t 5), none, []⟩,
 ⟨some 98, .mv (.t 14), none, []⟩,
 ⟨some 99, .mv (.t 5), none, []⟩,
 ⟨some 100, .mv (.t 14), none, []⟩,
 ⟨some 101, .idxA none (.st [(.arr 64 .leaf), .leaf]) (.t 99) (.t 100), none, []⟩,
 ⟨some 102, .fldA [(.arr 64 .leaf), .leaf] (.t 101) 1, none, []⟩,
 ⟨some 103, .load .leaf (.t 102), none, []⟩,
 ⟨some 104, .bin .add (.t 103) (.c (.int .i64 1)), none, []⟩,
 ⟨some 105, .idxA none (.st [(.arr 64 .leaf), .leaf]) (.t 97) (.t 98), none, []⟩,
 ⟨some 106, .fldA [(.arr 64 .leaf), .leaf] (.t 105) 1, none, []⟩,
 ⟨none, .store false .leaf (.t 106) (.t 104), none, []⟩] [5])
 (.region [⟨some 107, .mv (.t 5), none, []⟩,
 ⟨some 108, .load (.arr 64 .leaf) (.t 13), none, []⟩,
 ⟨some 109, .build false (.st [(.arr 64 .leaf), .leaf] [(.arr 64 .leaf z64), (.int .i64 0)]) [(0, (.t 108)), (1, (.c (.int .i64 1)))], none, []⟩,
 ⟨some 110, .buildSl false 8 (.st [(.arr 64 .leaf), .leaf]) (.st [(.arr 64 .leaf), .leaf] [(.arr 64 .leaf z64), (.int .i64 0)]) 1 [(0, (.t 109))], none, []⟩,
 ⟨some 111, .append (.st [(.arr 64 .leaf), .leaf]) 9 72 (.t 107) (.t 110), none, []⟩,
 ⟨some 5, .mv (.t 111), none, []⟩] [5])))))
 (.skip))))
 (.seq (.region [⟨some 112, .mv (.t 5), none, []⟩,
 ⟨some 4, .mv (.t 112), none, []⟩] [4])
 (.ret)))))
def Z3b : Fn :=
 { nparams := 2, nblk := 10, results := [.tmp 4], body := Z3b_B }
def Z3a_L0 : Cd :=
 .seq (.seq (.region [⟨some 6, .mv (.t 1), none, []⟩,
 ⟨some 7, .bin .gtr (.t 6) (.c (.int .i64 0)), none, []⟩] [0, 1, 5, 7])
 (.cond (.t 7)
 (.skip)
 (.exit 0)))
 (.seq (.block 1 (.region [⟨some 10, .mv (.t 5), none, []⟩,
 ⟨some 11, .mv (.t 0), none, []⟩,
 ⟨some 12, .bin .mul (.t 10) (.t 11), none, []⟩,
 ⟨some 5, .mv (.t 12), none, []⟩] [0, 1, 5]))
 (.region [⟨some 8, .mv (.t 1), none, []⟩,
 ⟨some 9, .bin .sub (.t 8) (.c (.int .i64 1)), none, []⟩,
 ⟨some 1, .mv (.t 9), none, []⟩] [0, 1, 5]))
def Z3a_B : Cd :=
 .seq (.region [⟨some 4, .mv (.c (.int .i64 0)), none, []⟩] [0, 1])
 (.seq (.region [⟨some 5, .mv (.c (.int .i64 1)), none, []⟩] [0, 1, 5])
 (.seq (.block 0 (.loop (Z3a_L0)))
 (.seq (.region [⟨some 13, .mv (.t 5), none, []⟩,
 ⟨some 4, .mv (.t 13), none, []⟩] [4])
 (.ret))))
def Z3a : Fn :=
 { nparams := 2, nblk := 0, results := [.tmp 4], body := Z3a_B }
def Z3c_L0 : Cd :=
 .seq (.seq (.region [⟨some 44, .mv (.t 12), none, []⟩,
 ⟨some 45, .bin .gtr (.t 44) (.c (.int .i64 0)), none, []⟩] [0, 4, 7, 8, 9, 11, 12, 45])
 (.cond (.t 45)
 (.skip)
 (.exit 2)))
 (.seq (.block 3 (.region [⟨some 48, .mv (.t 8), none, []⟩,
 ⟨some 49, .idxA (some 64) .leaf (.t 11) (.c (.int .i64 0)), none, []⟩,
 ⟨some 50, .load .leaf (.t 49), none, []⟩,
 ⟨some 51, .conv .i64 (.t 50), none, []⟩,
 ⟨some 52, .bin .mul (.t 48) (.t 51), none, []⟩,
 ⟨some 53, .mv (.t 0), none, []⟩,
 ⟨some 54, .bin .rem (.t 52) (.t 53), none, []⟩,
 ⟨some 8, .mv (.t 54), none, []⟩] [0, 4, 7, 8, 9, 11, 12]))
 (.region [⟨some 46, .mv (.t 12), none, []⟩,
 ⟨some 47, .bin .sub (.t 46) (.c (.int .i64 1)), none, []⟩,
 ⟨some 12, .mv (.t 47), none, []⟩] [0, 4, 7, 8, 9, 11, 12]))
def Z3c_L1 : Cd :=
 .seq (.seq (.region [⟨some 16, .mv (.t 9), none, []⟩,
 ⟨some 17, .mv (.t 7), none, []⟩,
 ⟨some 18, .len false (.t 17), none, []⟩,
 ⟨some 19, .bin .lss (.t 16) (.t 18), none, []⟩] [0, 4, 7, 8, 9, 19])
 (.cond (.t 19)
 (.skip)
 (.exit 0)))
 (.seq (.block 1 (.seq (.region [⟨some 22, .mv (.t 7), none, []⟩,
 ⟨some 23, .mv (.t 9), none, []⟩,
 ⟨some 24, .idxA none (.st [(.arr 64 .leaf), .leaf]) (.t 22) (.t 23), none, []⟩,
 ⟨some 25, .fldA [(.arr 64 .leaf), .leaf] (.t 24) 0, none, []⟩,
 ⟨some 26, .load (.arr 64 .leaf) (.t 25), none, []⟩,
 ⟨some 10, .box false 2 (.c (.arr 64 .leaf z64)), none, []⟩,
 ⟨none, .store false (.arr 64 .leaf) (.t 10) (.t 26), none, []⟩] [0, 4, 7, 8, 9, 10])
 (.seq (.region [⟨some 27, .mv (.t 0), none, []⟩,
 ⟨some 28, .load (.arr 64 .leaf) (.t 4), none, []⟩,
 ⟨some 29, .mv (.t 0), none, []⟩,
 ⟨some 30, .load (.arr 64 .leaf) (.t 10), none, []⟩,
 ⟨some 31, .call .flat [] (.f F2j) [(.t 30)], none, []⟩,
 ⟨some 32, .call .flat [] (.f F3a) [(.t 29), (.t 31)], none, []⟩,
 ⟨some 33, .bin .sub (.t 32) (.c (.int .i64 1)), none, []⟩,
 ⟨some 34, .mv (.t 0), none, []⟩,
 ⟨some 35, .bin .sub (.t 34) (.c (.int .i64 1)), none, []⟩,
 ⟨some 36, .bin .quo (.t 33) (.t 35), none, []⟩,
 ⟨some 37, .load (.arr 64 .leaf) (.t 10), none, []⟩,
 ⟨some 38, .call .flat [] (.f F31) [(.t 27), (.t 28), (.t 36), (.t 37)], none, []⟩,
 ⟨some 11, .box false 3 (.c (.arr 64 .leaf z64)), none, []⟩,
 ⟨none, .store false (.arr 64 .leaf) (.t 11) (.t 38), none, []⟩] [0, 4, 7, 8, 9, 11])
 (.seq (.region [⟨some 39, .mv (.t 7), none, []⟩,
 ⟨some 40, .mv (.t 9), none, []⟩,
 ⟨some 41, .idxA none (.st [(.arr 64 .leaf), .leaf]) (.t 39) (.t 40), none, []⟩,
 ⟨some 42, .fldA [(.arr 64 .leaf), .leaf] (.t 41) 1, none, []⟩,
 ⟨some 43, .load .leaf (.t 42), none, []⟩,
 ⟨some 12, .mv (.t 43), none, []⟩] [0, 4, 7, 8, 9, 11, 12])
 (.block 2 (.loop (Z3c_L0)))))))
 (.region [⟨some 20, .mv (.t 9), none, []⟩,
 ⟨some 21, .bin .add (.t 20) (.c (.int .i64 1)), none, []⟩,
 ⟨some 9, .mv (.t 21), none, []⟩] [0, 4, 7, 8, 9]))
def Z3c_B : Cd :=
 .seq (.region [⟨some 4, .box false 0 (.t 1), none, []⟩,
 ⟨some 5, .box false 1 (.t 2), none, []⟩,
 ⟨some 6, .mv (.c (.int .i64 0)), none, []⟩] [0, 4, 5])
 (.seq (.region [⟨some 13, .mv (.t 0), none, []⟩,
 ⟨some 14, .load (.arr 64 .leaf) (.t 5), none, []⟩,
 ⟨some 15, .call .plain [] (.f F3b) [(.t 13), (.t 14)], none, []⟩,
 ⟨some 7, .mv (.t 15), none, []⟩,
 ⟨some 8, .mv (.c (.int .i64 1)), none, []⟩] [0, 4, 7, 8])
 (.seq (.seq (.region [⟨some 9, .mv (.c (.int .i64 0)), none, []⟩] [0, 4, 7, 8, 9])
 (.block 0 (.loop (Z3c_L1))))
 (.seq (.region [⟨some 55, .mv (.t 8), none, []⟩,
 ⟨some 6, .mv (.t 55), none, []⟩] [6])
 (.ret))))
def Z3c : Fn :=
 { nparams := 3, nblk := 4, results := [.tmp 6], body := Z3c_B }
def Z38_B : Cd :=
 .seq (.region [⟨some 4, .box false 0 (.t 1), none, []⟩,
 ⟨some 5, .box false 1 (.t 2), none, []⟩,
 ⟨some 6, .box false 2 (.c (.arr 64 .leaf z64)), none, []⟩] [0, 4, 5, 6])
 (.seq (.region [⟨some 11, .mv (.t 0), none, []⟩,
 ⟨some 12, .mv (.t 0), none, []⟩,
 ⟨some 13, .load (.arr 64 .leaf) (.t 4), none, []⟩,
 ⟨some 14, .load (.arr 64 .leaf) (.t 5), none, []⟩,
 ⟨some 15, .call .flat [] (.f F2u) [(.t 12), (.t 13), (.t 14)], none, []⟩,
 ⟨some 16, .load (.arr 64 .leaf) (.t 5), none, []⟩,
 ⟨some 17, .call .flat [] (.f F2g) [(.t 11), (.t 15), (.t 16)], none, []⟩,
 ⟨some 10, .mv (.t 17), none, []⟩,
 ⟨some 18, .ext (.t 10) 0, none, []⟩,
 ⟨some 19, .ext (.t 10) 1, none, []⟩,
 ⟨some 20, .ext (.t 10) 2, none, []⟩,
 ⟨some 7, .box false 3 (.c (.arr 64 .leaf z64)), none, []⟩,
 ⟨some 8, .box false 4 (.c (.arr 64 .leaf z64)), none, []⟩,
 ⟨some 9, .box false 5 (.c (.arr 64 .leaf z64)), none, []⟩,
 ⟨none, .store false (.arr 64 .leaf) (.t 7) (.t 18), none, []⟩,
 ⟨none, .store false (.arr 64 .leaf) (.t 8) (.t 19), none, []⟩,
 ⟨none, .store false (.arr 64 .leaf) (.t 9) (.t 20), none, []⟩] [0, 5, 6, 8])
 (.seq (.region [⟨some 21, .mv (.t 0), none, []⟩,
 ⟨some 22, .load (.arr 64 .leaf) (.t 8), none, []⟩,
 ⟨some 23, .load (.arr 64 .leaf) (.t 5), none, []⟩,
 ⟨some 24, .call .flat [] (.f F2u) [(.t 21), (.t 22), (.t 23)], none, []⟩,
 ⟨none, .store false (.arr 64 .leaf) (.t 6) (.t 24), none, []⟩] [6])
 (.ret)))
def Z38 : Fn :=
 { nparams := 3, nblk := 6, results := [.cell 6 (.arr 64 .leaf)], body := Z38_B }
def Z39_B : Cd :=
 .seq (.region [⟨some 4, .box false 0 (.t 1), none, []⟩,
 ⟨some 6, .mv (.c (.int .i64 0)), none, []⟩] [0, 2, 4])
 (.seq (.block 0 (.seq (.region [⟨some 8, .mv (.t 0), none, []⟩,
 ⟨some 9, .load (.arr 64 .leaf) (.t 4), none, []⟩,
 ⟨some 10, .buildSl false 1 (.arr 64 .leaf) (.arr 64 .leaf z64) 1 [(0, (.t 9))], none, []⟩,
 ⟨some 11, .call .flat [] (.f F2h) [(.t 8), (.t 10)], none, []⟩,
 ⟨some 12, .bin .neq (.t 11) (.c (.int .i64 0)), none, []⟩,
 ⟨some 13, .mv (.t 12), none, []⟩,
 ⟨some 14, .mv (.t 0), some (13, false), []⟩,
 ⟨some 15, .mv (.t 2), some (13, false), []⟩,
 ⟨some 16, .call .flat [] (.f F2h) [(.t 14), (.t 15)], some (13, false), []⟩,
 ⟨some 17, .bin .neq (.t 16) (.c (.int .i64 0)), some (13, false), []⟩,
 ⟨some 18, .pick (.t 13) (.c (.bool true)) (.t 17), none, []⟩,
 ⟨some 7, .mv (.t 18), none, []⟩] [4, 7])
 (.cond (.t 7)
 (.seq (.region [⟨some 6, .mv (.c (.int .i64 1)), none, []⟩] [6])
 (.ret))
 (.seq (.region [⟨some 20, .load (.arr 64 .leaf) (.t 4), none, []⟩,
 ⟨some 21, .call .flat [] (.f F2v) [(.t 20)], none, []⟩,
 ⟨some 22, .un .not (.t 21), none, []⟩,
 ⟨some 23, .mv (.t 22), none, []⟩,
 ⟨some 24, .load (.arr 64 .leaf) (.t 4), some (23, false), []⟩,
 ⟨some 25, .call .flat [] (.f F2j) [(.t 24)], some (23, false), []⟩,
 ⟨some 26, .call .flat [] (.f F2q) [(.t 25), (.c (.int .i64 1)), (.c (.int .i64 5))], some (23, false), []⟩,
 ⟨some 27, .un .not (.t 26), some (23, false), []⟩,
 ⟨some 28, .pick (.t 23) (.c (.bool true)) (.t 27), none, []⟩,
 ⟨some 19, .mv (.t 28), none, []⟩] [19])
 (.cond (.t 19)
 (.seq (.region [⟨some 6, .mv (.c (.int .i64 2)), none, []⟩] [6])
 (.ret))
 (.skip))))))
 (.seq (.region [⟨some 6, .mv (.c (.int .i64 0)), none, []⟩] [6])
 (.ret)))
def Z39 : Fn :=
 { nparams := 3, nblk := 2, results := [.tmp 6], body := Z39_B }
def ir_spec_l02Draw_B : Cd :=
 .seq (.region [⟨some 2, .mv (.c (.int .i64 0)), none, []⟩,
 ⟨some 3, .box false 0 (.c (.arr 64 .leaf z64)), none, []⟩,
 ⟨some 4, .box false 1 (.c (.arr 64 .leaf z64)), none, []⟩] [0, 3, 4])
 (.seq (.region [⟨some 8, .mv (.t 0), none, []⟩,
 ⟨some 9, .call .heap [] (.f F2n) [(.t 8)], none, []⟩,
 ⟨some 5, .mv (.t 9), none, []⟩] [0, 3, 4, 5])
 (.seq (.region [⟨some 10, .mv (.t 0), none, []⟩,
 ⟨some 11, .mv (.t 5), none, []⟩,
 ⟨some 12, .mv (.t 0), none, []⟩,
 ⟨some 13, .buildSl false 2 .leaf (.int .i64 0) 3 [(0, (.c (.int .i64 2))), (1, (.c (.int .i64 4))), (2, (.c (.int .i64 8)))], none, []⟩,
 ⟨some 14, .call .heap [] (.f F30) [(.t 12), (.t 13)], none, []⟩,
 ⟨some 15, .call .heap [] (.f F2l) [(.t 10), (.t 11), (.t 14)], none, []⟩,
 ⟨some 16, .mv (.t 0), none, []⟩,
 ⟨some 17, .mv (.t 5), none, []⟩,
 ⟨some 18, .mv (.t 0), none, []⟩,
 ⟨some 19, .buildSl false 3 .leaf (.int .i64 0) 4 [(0, (.c (.int .i64 2))), (1, (.c (.int .i64 3))), (2, (.c (.int .i64 4))), (3, (.c (.int .i64 5)))], none, []⟩,
 ⟨some 20, .call .heap [] (.f F30) [(.t 18), (.t 19)], none, []⟩,
 ⟨some 21, .call .heap [] (.f F2m) [(.t 16), (.t 17), (.t 20)], none, []⟩,
 ⟨some 6, .box false 4 (.c (.arr 64 .leaf z64)), none, []⟩,
 ⟨some 7, .box false 5 (.c (.arr 64 .leaf z64)), none, []⟩,
 ⟨none, .store false (.arr 64 .leaf) (.t 6) (.t 15), none, []⟩,
 ⟨none, .store false (.arr 64 .leaf) (.t 7) (.t 21), none, []⟩] [0, 3, 4, 5, 6, 7])
 (.seq (.seq (.region [⟨some 22, .mv (.t 0), none, []⟩,
 ⟨some 23, .call .heap [] (.f F2x) [(.t 22), (.c (.int .i64 40))], none, []⟩] [0, 3, 4, 5, 6, 7, 23])
 (.block 0 (.seq (.region [⟨some 25, .bin .eql (.t 23) (.c (.int .i64 0)), none, []⟩,
 ⟨some 24, .mv (.t 25), none, []⟩] [0, 3, 4, 5, 6, 7, 23, 24])
 (.cond (.t 24)
 (.region [⟨some 26, .mv (.t 0), none, []⟩,
 ⟨some 27, .buildSl false 6 .leaf (.int .i64 0) 4 [(0, (.c (.int .i64 0))), (1, (.c (.int .i64 1))), (2, (.c (.int .i64 4))), (3, (.c (.int .i64 11)))], none, []⟩,
 ⟨some 28, .call .heap [] (.f F30) [(.t 26), (.t 27)], none, []⟩,
 ⟨some 5, .mv (.t 28), none, []⟩] [3, 4, 5, 6, 7])
 (.seq (.region [⟨some 30, .bin .eql (.t 23) (.c (.int .i64 1)), none, []⟩,
 ⟨some 29, .mv (.t 30), none, []⟩] [0, 3, 4, 5, 6, 7, 23, 29])
 (.cond (.t 29)
 (.region [⟨some 31, .mv (.t 0), none, []⟩,
 ⟨some 32, .mv (.t 5), none, []⟩,
 ⟨some 33, .call .heap [] (.f F2l) [(.t 31), (.t 32), (.c (.int .i64 7))], none, []⟩,
 ⟨none, .store false (.arr 64 .leaf) (.t 7) (.t 33), none, []⟩] [3, 4, 5, 6, 7])
 (.seq (.region [⟨some 35, .bin .eql (.t 23) (.c (.int .i64 2)), none, []⟩,
 ⟨some 34, .mv (.t 35), none, []⟩] [0, 3, 4, 5, 6, 7, 34])
 (.cond (.t 34)
 (.region [⟨some 36, .mv (.t 0), none, []⟩,
 ⟨some 37, .mv (.t 5), none, []⟩,
 ⟨some 38, .load (.arr 64 .leaf) (.t 6), none, []⟩,
 ⟨some 39, .call .heap [] (.f F2f) [(.t 36), (.t 37), (.t 38)], none, []⟩,
 ⟨none, .store false (.arr 64 .leaf) (.t 6) (.t 39), none, []⟩] [3, 4, 5, 6, 7])
 (.skip)))))))))
 (.seq (.region [⟨some 40, .mv (.t 5), none, []⟩,
 ⟨some 41, .load (.arr 64 .leaf) (.t 6), none, []⟩,
 ⟨some 42, .load (.arr 64 .leaf) (.t 7), none, []⟩,
 ⟨some 2, .mv (.t 40), none, []⟩,
 ⟨none, .store false (.arr 64 .leaf) (.t 3) (.t 41), none, [7]⟩,
 ⟨none, .store false (.arr 64 .leaf) (.t 4) (.t 42), none, []⟩] [2, 3, 4])
 (.ret)))))
def Z36 : Fn :=
 { nparams := 1, nblk := 7, results := [.tmp 2, .cell 3 (.arr 64 .leaf), .cell 4 (.arr 64 .leaf)], body := ir_spec_l02Draw_B }
def Z2b_B : Cd :=
 .seq (.region [⟨some 2, .mv (.c (.int .i64 0)), none, []⟩,
 ⟨some 3, .box false 0 (.c (.arr 64 .leaf z64)), none, []⟩,
 ⟨some 4, .box false 1 (.c (.arr 64 .leaf z64)), none, []⟩] [0, 3, 4])
 (.seq (.region [⟨some 9, .mv (.t 0), none, []⟩,
 ⟨some 10, .call .heap [2] (.f F2o) [(.t 9)], none, []⟩,
 ⟨some 5, .mv (.t 10), none, []⟩] [3, 4, 5])
 (.seq (.region [⟨some 12, .mv (.t 5), none, []⟩,
 ⟨some 13, .call .heap [] (.f F36) [(.t 12)], none, []⟩,
 ⟨some 11, .mv (.t 13), none, []⟩,
 ⟨some 14, .ext (.t 11) 0, none, []⟩,
 ⟨some 15, .ext (.t 11) 1, none, []⟩,
 ⟨some 16, .ext (.t 11) 2, none, []⟩,
 ⟨some 7, .box false 3 (.c (.arr 64 .leaf z64)), none, []⟩,
 ⟨some 8, .box false 4 (.c (.arr 64 .leaf z64)), none, []⟩,
 ⟨some 6, .mv (.t 14), none, []⟩,
 ⟨none, .store false (.arr 64 .leaf) (.t 7) (.t 15), none, []⟩,
 ⟨none, .store false (.arr 64 .leaf) (.t 8) (.t 16), none, []⟩] [3, 4, 5, 6, 7, 8])
 (.seq (.seq (.region [⟨some 17, .mv (.t 5), none, []⟩,
 ⟨some 18, .call .heap [] (.f F2x) [(.t 17), (.c (.int .i64 3))], none, []⟩,
 ⟨some 19, .bin .eql (.t 18) (.c (.int .i64 0)), none, []⟩,
 ⟨some 20, .mv (.t 19), none, []⟩,
 ⟨some 21, .mv (.t 6), some (20, true), []⟩,
 ⟨some 22, .call .flat [] (.f F32) [(.t 21)], some (20, true), []⟩,
 ⟨some 23, .pick (.t 20) (.t 22) (.c (.bool false)), none, []⟩] [3, 4, 5, 6, 7, 8, 23])
 (.cond (.t 23)
 (.region [⟨some 24, .mv (.t 5), none, []⟩,
 ⟨some 25, .mv (.t 6), none, []⟩,
 ⟨some 26, .call .heap [] (.f F2m) [(.t 24), (.t 25), (.c (.int .i64 7))], none, []⟩,
 ⟨none, .store false (.arr 64 .leaf) (.t 8) (.t 26), none, []⟩] [3, 4, 6, 7, 8])
 (.skip)))
 (.seq (.region [⟨some 27, .mv (.t 6), none, []⟩,
 ⟨some 28, .load (.arr 64 .leaf) (.t 7), none, []⟩,
 ⟨some 29, .load (.arr 64 .leaf) (.t 8), none, []⟩,
 ⟨some 2, .mv (.t 27), none, []⟩,
 ⟨none, .store false (.arr 64 .leaf) (.t 3) (.t 28), none, [8]⟩,
 ⟨none, .store false (.arr 64 .leaf) (.t 4) (.t 29), none, []⟩] [2, 3, 4])
 (.ret)))))
def Z2b : Fn :=
 { nparams := 1, nblk := 5, results := [.tmp 2, .cell 3 (.arr 64 .leaf), .cell 4 (.arr 64 .leaf)], body := Z2b_B }
def Z2d_B : Cd :=
 .seq (.region [⟨some 4, .box false 0 (.t 1), none, []⟩,
 ⟨some 5, .box false 1 (.t 2), none, []⟩,
 ⟨some 6, .mv (.c (.int .i64 0)), none, []⟩,
 ⟨some 7, .mv (.c (.int .i64 0)), none, []⟩] [0, 4, 5])
 (.seq (.block 0 (.seq (.region [⟨some 9, .mv (.t 0), none, []⟩,
 ⟨some 10, .load (.arr 64 .leaf) (.t 4), none, []⟩,
 ⟨some 11, .load (.arr 64 .leaf) (.t 5), none, []⟩,
 ⟨some 12, .buildSl false 2 (.arr 64 .leaf) (.arr 64 .leaf z64) 2 [(0, (.t 10)), (1, (.t 11))], none, []⟩,
 ⟨some 13, .call .flat [] (.f F2h) [(.t 9), (.t 12)], none, []⟩,
 ⟨some 14, .bin .neq (.t 13) (.c (.int .i64 0)), none, []⟩,
 ⟨some 8, .mv (.t 14), none, []⟩] [0, 4, 5, 8])
 (.cond (.t 8)
 (.seq (.region [⟨some 6, .mv (.c (.int .i64 0)), none, []⟩,
 ⟨some 7, .mv (.c (.int .i64 1)), none, []⟩] [6, 7])
 (.ret))
 (.seq (.region [⟨some 16, .load (.arr 64 .leaf) (.t 5), none, []⟩,
 ⟨some 17, .call .flat [] (.f F2v) [(.t 16)], none, []⟩,
 ⟨some 18, .un .not (.t 17), none, []⟩,
 ⟨some 19, .mv (.t 18), none, []⟩,
 ⟨some 20, .load (.arr 64 .leaf) (.t 5), some (19, false), []⟩,
 ⟨some 21, .call .flat [] (.f F2j) [(.t 20)], some (19, false), []⟩,
 ⟨some 22, .call .flat [] (.f F2q) [(.t 21), (.c (.int .i64 1)), (.c (.int .i64 12))], some (19, false), []⟩,
 ⟨some 23, .un .not (.t 22), some (19, false), []⟩,
 ⟨some 24, .pick (.t 19) (.c (.bool true)) (.t 23), none, []⟩,
 ⟨some 15, .mv (.t 24), none, []⟩] [0, 4, 5, 15])
 (.cond (.t 15)
 (.seq (.region [⟨some 6, .mv (.c (.int .i64 0)), none, []⟩,
 ⟨some 7, .mv (.c (.int .i64 2)), none, []⟩] [6, 7])
 (.ret))
 (.skip))))))
 (.seq (.region [⟨some 25, .mv (.t 0), none, []⟩,
 ⟨some 26, .load (.arr 64 .leaf) (.t 4), none, []⟩,
 ⟨some 27, .load (.arr 64 .leaf) (.t 5), none, []⟩,
 ⟨some 28, .call .flat [] (.f F3c) [(.t 25), (.t 26), (.t 27)], none, []⟩,
 ⟨some 6, .mv (.t 28), none, []⟩,
 ⟨some 7, .mv (.c (.int .i64 0)), none, []⟩] [6, 7])
 (.ret)))
def Z2d : Fn :=
 { nparams := 3, nblk := 3, results := [.tmp 6, .tmp 7], body := Z2d_B }
def Z37_B : Cd :=
 .seq (.region [⟨some 2, .mv (.c (.int .i64 0)), none, []⟩] [0])
 (.seq (.seq (.region [⟨some 3, .mv (.t 0), none, []⟩,
 ⟨some 4, .call .flat [] (.f F32) [(.t 3)], none, []⟩] [0, 4])
 (.cond (.t 4)
 (.seq (.region [⟨some 5, .mv (.t 0), none, []⟩,
 ⟨some 2, .mv (.t 5), none, []⟩] [2])
 (.ret))
 (.skip)))
 (.seq (.region [⟨some 2, .mv (.c (.int .i64 3)), none, []⟩] [2])
 (.ret)))
def Z37 : Fn :=
 { nparams := 1, nblk := 0, results := [.tmp 2], body := Z37_B }
def Z2a_B : Cd :=
 .seq (.region [⟨some 2, .mv (.c (.int .i64 0)), none, []⟩,
 ⟨some 3, .box false 0 (.c (.arr 64 .leaf z64)), none, []⟩,
 ⟨some 4, .box false 1 (.c (.arr 64 .leaf z64)), none, []⟩,
 ⟨some 5, .box false 2 (.c (.arr 64 .leaf z64)), none, []⟩,
 ⟨some 6, .box false 3 (.c (.arr 64 .leaf z64)), none, []⟩] [0, 3, 4, 5, 6])
 (.seq (.region [⟨some 12, .mv (.t 0), none, []⟩,
 ⟨some 13, .call .heap [4] (.f F2o) [(.t 12)], none, []⟩,
 ⟨some 7, .mv (.t 13), none, []⟩] [3, 4, 5, 6, 7])
 (.seq (.region [⟨some 15, .mv (.t 7), none, []⟩,
 ⟨some 16, .call .heap [] (.f F36) [(.t 15)], none, []⟩,
 ⟨some 14, .mv (.t 16), none, []⟩,
 ⟨some 17, .ext (.t 14) 0, none, []⟩,
 ⟨some 18, .ext (.t 14) 1, none, []⟩,
 ⟨some 19, .ext (.t 14) 2, none, []⟩,
 ⟨some 9, .box false 5 (.c (.arr 64 .leaf z64)), none, []⟩,
 ⟨some 10, .box false 6 (.c (.arr 64 .leaf z64)), none, []⟩,
 ⟨some 8, .mv (.t 17), none, []⟩,
 ⟨none, .store false (.arr 64 .leaf) (.t 9) (.t 18), none, []⟩,
 ⟨none, .store false (.arr 64 .leaf) (.t 10) (.t 19), none, []⟩] [3, 4, 5, 6, 7, 8, 9, 10])
 (.seq (.region [⟨some 20, .mv (.t 8), none, []⟩,
 ⟨some 21, .call .flat [] (.f F37) [(.t 20)], none, []⟩,
 ⟨some 11, .mv (.t 21), none, []⟩] [3, 4, 5, 6, 7, 8, 9, 10, 11])
 (.seq (.region [⟨some 22, .mv (.t 8), none, []⟩,
 ⟨some 23, .load (.arr 64 .leaf) (.t 9), none, []⟩,
 ⟨some 24, .load (.arr 64 .leaf) (.t 10), none, []⟩,
 ⟨some 25, .mv (.t 7), none, []⟩,
 ⟨some 26, .mv (.t 11), none, []⟩,
 ⟨some 27, .call .heap [] (.f F2l) [(.t 25), (.t 26), (.c (.int .i64 3))], none, [9, 10]⟩,
 ⟨some 28, .mv (.t 7), none, []⟩,
 ⟨some 29, .mv (.t 11), none, []⟩,
 ⟨some 30, .call .heap [] (.f F2m) [(.t 28), (.t 29), (.c (.int .i64 3))], none, [9, 10]⟩,
 ⟨some 2, .mv (.t 22), none, []⟩,
 ⟨none, .store false (.arr 64 .leaf) (.t 3) (.t 23), none, [10]⟩,
 ⟨none, .store false (.arr 64 .leaf) (.t 4) (.t 24), none, []⟩,
 ⟨none, .store false (.arr 64 .leaf) (.t 5) (.t 27), none, []⟩,
 ⟨none, .store false (.arr 64 .leaf) (.t 6) (.t 30), none, []⟩] [2, 3, 4, 5, 6])
 (.ret)))))
def Z2a : Fn :=
 { nparams := 1, nblk := 7, results := [.tmp 2, .cell 3 (.arr 64 .leaf), .cell 4 (.arr 64 .leaf), .cell 5 (.arr 64 .leaf), .cell 6 (.arr 64 .leaf)], body := Z2a_B }
def Z2c_B : Cd :=
 .seq (.region [⟨some 6, .box false 0 (.t 1), none, []⟩,
 ⟨some 7, .box false 1 (.t 2), none, []⟩,
 ⟨some 8, .box false 2 (.t 3), none, []⟩,
 ⟨some 9, .box false 3 (.t 4), none, []⟩,
 ⟨some 10, .box false 4 (.c (.arr 64 .leaf z64)), none, []⟩,
 ⟨some 11, .mv (.c (.int .i64 0)), none, []⟩] [0, 6, 7, 8, 9, 10])
 (.seq (.region [⟨some 17, .mv (.t 0), none, []⟩,
 ⟨some 18, .load (.arr 64 .leaf) (.t 7), none, []⟩,
 ⟨some 19, .load (.arr 64 .leaf) (.t 6), none, []⟩,
 ⟨some 20, .load (.arr 64 .leaf) (.t 8), none, []⟩,
 ⟨some 21, .load (.arr 64 .leaf) (.t 9), none, []⟩,
 ⟨some 22, .buildSl false 5 (.arr 64 .leaf) (.arr 64 .leaf z64) 3 [(0, (.t 19)), (1, (.t 20)), (2, (.t 21))], none, []⟩,
 ⟨some 23, .call .flat [] (.f F39) [(.t 17), (.t 18), (.t 22)], none, []⟩,
 ⟨some 12, .mv (.t 23), none, []⟩] [0, 6, 7, 8, 9, 10, 12])
 (.seq (.seq (.region [⟨some 24, .mv (.t 12), none, []⟩,
 ⟨some 25, .bin .eql (.t 24) (.c (.int .i64 0)), none, []⟩] [0, 6, 7, 8, 9, 10, 12, 25])
 (.cond (.t 25)
 (.region [⟨some 26, .mv (.t 0), none, []⟩,
 ⟨some 27, .load (.arr 64 .leaf) (.t 9), none, []⟩,
 ⟨some 28, .call .flat [] (.f F39) [(.t 26), (.t 27), (.c (.sl (.arr 64 .leaf) []))], none, []⟩,
 ⟨some 12, .mv (.t 28), none, []⟩] [0, 6, 7, 8, 9, 10, 12])
 (.skip)))
 (.seq (.seq (.region [⟨some 29, .mv (.t 12), none, []⟩,
 ⟨some 30, .bin .neq (.t 29) (.c (.int .i64 0)), none, []⟩] [0, 6, 7, 8, 9, 10, 12, 30])
 (.cond (.t 30)
 (.seq (.region [⟨some 31, .build false (.arr 64 .leaf z64) [], none, []⟩,
 ⟨some 32, .mv (.t 12), none, []⟩,
 ⟨none, .store false (.arr 64 .leaf) (.t 10) (.t 31), none, []⟩,
 ⟨some 11, .mv (.t 32), none, []⟩] [10, 11])
 (.ret))
 (.skip)))
 (.seq (.seq (.region [⟨some 33, .mv (.t 0), none, []⟩,
 ⟨some 34, .load (.arr 64 .leaf) (.t 7), none, []⟩,
 ⟨some 35, .load (.arr 64 .leaf) (.t 9), none, []⟩,
 ⟨some 36, .call .flat [] (.f F2p) [(.t 33), (.t 34), (.t 35)], none, []⟩,
 ⟨some 37, .call .flat [] (.f F2z) [], none, []⟩,
 ⟨some 38, .eqv true (.arr 64 .leaf .int) (.t 36) (.t 37), none, []⟩] [0, 6, 7, 8, 9, 10, 38])
 (.cond (.t 38)
 (.seq (.region [⟨some 39, .build false (.arr 64 .leaf z64) [], none, []⟩,
 ⟨none, .store false (.arr 64 .leaf) (.t 10) (.t 39), none, []⟩,
 ⟨some 11, .mv (.c (.int .i64 5)), none, []⟩] [10, 11])
 (.ret))
 (.skip)))
 (.seq (.region [⟨some 40, .mv (.t 0), none, []⟩,
 ⟨some 41, .load (.arr 64 .leaf) (.t 6), none, []⟩,
 ⟨some 42, .load (.arr 64 .leaf) (.t 7), none, []⟩,
 ⟨some 43, .call .flat [] (.f F2u) [(.t 40), (.t 41), (.t 42)], none, []⟩,
 ⟨some 13, .box false 6 (.c (.arr 64 .leaf z64)), none, []⟩,
 ⟨none, .store false (.arr 64 .leaf) (.t 13) (.t 43), none, []⟩] [0, 7, 8, 9, 10, 13])
 (.seq (.region [⟨some 44, .mv (.t 0), none, []⟩,
 ⟨some 45, .mv (.t 0), none, []⟩,
 ⟨some 46, .load (.arr 64 .leaf) (.t 7), none, []⟩,
 ⟨some 47, .load (.arr 64 .leaf) (.t 9), none, []⟩,
 ⟨some 48, .call .flat [] (.f F38) [(.t 45), (.t 46), (.t 47)], none, []⟩,
 ⟨some 49, .mv (.t 0), none, []⟩,
 ⟨some 50, .mv (.t 0), none, []⟩,
 ⟨some 51, .load (.arr 64 .leaf) (.t 8), none, []⟩,
 ⟨some 52, .load (.arr 64 .leaf) (.t 13), none, []⟩,
 ⟨some 53, .call .flat [] (.f F2e) [(.t 50), (.t 51), (.t 52), (.c (.int .i64 (-1)))], none, []⟩,
 ⟨some 54, .load (.arr 64 .leaf) (.t 9), none, []⟩,
 ⟨some 55, .call .flat [] (.f F2u) [(.t 49), (.t 53), (.t 54)], none, []⟩,
 ⟨some 56, .load (.arr 64 .leaf) (.t 9), none, []⟩,
 ⟨some 57, .call .flat [] (.f F2w) [(.t 44), (.t 48), (.t 55), (.t 56)], none, []⟩,
 ⟨some 14, .box false 7 (.c (.arr 64 .leaf z64)), none, []⟩,
 ⟨none, .store false (.arr 64 .leaf) (.t 14) (.t 57), none, []⟩] [0, 7, 10, 13, 14])
 (.seq (.region [⟨some 59, .mv (.t 0), none, []⟩,
 ⟨some 60, .load (.arr 64 .leaf) (.t 7), none, []⟩,
 ⟨some 61, .load (.arr 64 .leaf) (.t 14), none, []⟩,
 ⟨some 62, .call .flat [] (.f F34) [(.t 59), (.t 60), (.t 61)], none, []⟩,
 ⟨some 58, .mv (.t 62), none, []⟩,
 ⟨some 63, .ext (.t 58) 0, none, []⟩,
 ⟨some 64, .ext (.t 58) 1, none, []⟩,
 ⟨some 15, .box false 8 (.c (.arr 64 .leaf z64)), none, []⟩,
 ⟨none, .store false (.arr 64 .leaf) (.t 15) (.t 63), none, []⟩,
 ⟨some 16, .mv (.t 64), none, []⟩] [0, 10, 13, 15])
 (.seq (.region [⟨some 65, .mv (.t 0), none, []⟩,
 ⟨some 66, .load (.arr 64 .leaf) (.t 13), none, []⟩,
 ⟨some 67, .load (.arr 64 .leaf) (.t 15), none, []⟩,
 ⟨some 68, .call .flat [] (.f F2e) [(.t 65), (.t 66), (.t 67), (.c (.int .i64 1))], none, []⟩,
 ⟨none, .store false (.arr 64 .leaf) (.t 10) (.t 68), none, []⟩,
 ⟨some 11, .mv (.c (.int .i64 0)), none, []⟩] [10, 11])
 (.ret)))))))))
def Z2c : Fn :=
 { nparams := 5, nblk := 9, results := [.cell 10 (.arr 64 .leaf), .tmp 11], body := Z2c_B }
end Pe

namespace Gq
section
variable {K : Type} [Fd K]
theorem Pol.mod_eq_iff {a b m : Pol K} (hm : m ≠ 0) : a % m = b % m ↔ Quo.mk m a = Quo.mk m b := by
 rw [Quo.eq]
 constructor
 ·intro h
  refine ⟨a / m - b / m, ?_⟩
  have h1 := div_mod a m
  have h2 := div_mod b m
  rw [h] at h1
  generalize a / m = q at *
  generalize b / m = q' at *
  rw [h1]
  have e : q * m + b % m = (q' * m + b % m) + m * (q - q') := ring_of [q, q', m, b % m] rfl
  rw [e, ← h2]
 ·rintro ⟨c, rfl⟩
  have h2 := div_mod b m
  refine (div_mod_eq (q := b / m + c) ?_ (len_mod b hm)).2
  have e : b + m * c = (b / m * m + b % m) + m * c := by rw [← h2]
  rw [e]
  exact ring_of [b / m, m, b % m, c] rfl
theorem Pol.mk_mod (a m : Pol K) : Quo.mk m (a % m) = Quo.mk m a := by
 rw [Quo.eq]
 refine ⟨-(a / m), ?_⟩
 have h := div_mod a m
 have e : a % m = (a / m * m + a % m) + m * -(a / m) := ring_of [a / m, m, a % m] rfl
 rw [e, ← h]
theorem Pol.mod_small {a m : Pol K} (h : a.len < m.len) : a % m = a := (div_mod_eq (q := 0) (by rw [zero_mul, zero_add]) h).2
theorem Pol.zero_mod {m : Pol K} (hm : m ≠ 0) : (0 : Pol K) % m = 0 := mod_small (by rw [len_zero]; exact len_pos hm)
theorem Pol.div_small {a m : Pol K} (h : a.len < m.len) : a / m = 0 := (div_mod_eq (q := 0) (by rw [zero_mul, zero_add]) h).1
theorem Pol.mul_mod_left (a b : Pol K) {m : Pol K} (hm : m ≠ 0) : (a % m) * b % m = a * b % m := by
 rw [mod_eq_iff hm, Quo.mk_mul, Quo.mk_mul, mk_mod]
theorem Pol.mod_self_mul (a : Pol K) {m : Pol K} (hm : m ≠ 0) : (a * m) % m = 0 :=
 (div_mod_eq (q := a) (by rw [add_zero]) (by rw [len_zero]; exact len_pos hm)).2
theorem Pol.len_mod_le (a : Pol K) {m : Pol K} (hm : m ≠ 0) : (a % m).len ≤ a.len := by
 rcases Nat.lt_or_ge a.len m.len with h | h
 ·rw [mod_small h]; exact Nat.le_refl _
 ·have := len_mod a hm; omega
theorem Pol.len_div {a m : Pol K} (hm : m ≠ 0) (h : m.len ≤ a.len) : (a / m).len + m.len = a.len + 1 := by
 have h1 := div_mod a m
 have h2 := len_mod a hm
 have h3 := len_pos hm
 by_cases hq : a / m = 0
 ·rw [hq, zero_mul, zero_add] at h1
  rw [← h1] at h2; omega
 ·have h4 := len_mul hq hm
  have h5 := len_pos hq
  have e : a.len = (a / m * m).len := by
   apply Nat.le_antisymm
   ·rw [h1]
    exact len_le (lt_add (by rw [← h1]; exact lt_len _) (lt_iff.2 (by rw [← h1]; omega)))
   ·have : a / m * m = a - a % m := by
     have e : a - a % m = (a / m * m + a % m) - a % m := by rw [← h1]
     rw [e]; exact ring_of [a / m * m, a % m] rfl
    rw [this]
    exact len_le (lt_sub a.lt_len (lt_iff.2 (by omega)))
  omega
theorem Pol.len_div_le (a : Pol K) {m : Pol K} (hm : m ≠ 0) : (a / m).len ≤ a.len := by
 rcases Nat.lt_or_ge a.len m.len with h | h
 ·rw [div_small h, len_zero]; omega
 ·have := len_div hm h
  have := len_pos hm
  omega
theorem pw_add {R : Type} [CR R] (a : R) (m : Nat) : ∀ n, pw a (m + n) = pw a m * pw a n
 | 0 => (mul_one _).symm
 | n + 1 => by rw [← Nat.add_assoc, pw, pw_add a m n, pw, mul_assoc]
theorem pw_mul {R : Type} [CR R] (a b : R) : ∀ n, pw (a * b) n = pw a n * pw b n
 | 0 => (mul_one _).symm
 | n + 1 => by rw [pw, pw, pw, pw_mul a b n]; exact ring_of [a, b, pw a n, pw b n] rfl
theorem pw_pw {R : Type} [CR R] (a : R) (m : Nat) : ∀ n, pw (pw a m) n = pw a (m * n)
 | 0 => rfl
 | n + 1 => by rw [pw, pw_pw a m n, Nat.mul_succ, pw_add]
theorem pw_one {R : Type} [CR R] : ∀ n, pw (1 : R) n = 1
 | 0 => rfl
 | n + 1 => by rw [pw, pw_one n, mul_one]
theorem pw_1 {R : Type} [CR R] (a : R) : pw a 1 = a := one_mul a
theorem Pol.pow_mod (a : Pol K) {m : Pol K} (hm : m ≠ 0) (n : Nat) : pw (a % m) n % m = pw a n % m := by
 rw [mod_eq_iff hm, Quo.mk_pow, Quo.mk_pow, mk_mod]
theorem Pol.bin_step {out base m : Pol K} (hm : m ≠ 0) (k : Nat) (_hk : 0 < k) :
 (if k % 2 = 1 then out * base % m else out) * pw (base * base % m) (k / 2) % m = out * pw base k % m := by
 rw [mod_eq_iff hm, Quo.mk_mul, Quo.mk_mul, Quo.mk_pow, mk_mod, Quo.mk_mul, pw_mul, Quo.mk_pow, ← pw_add]
 split
 ·rename_i h
  rw [mk_mod, Quo.mk_mul]
  have e : k = 1 + (k / 2 + k / 2) := by omega
  have e2 : pw (Quo.mk m base) k = Quo.mk m base * pw (Quo.mk m base) (k / 2 + k / 2) := by
   have := pw_add (Quo.mk m base) 1 (k / 2 + k / 2)
   rwa [← e, pw_1] at this
  rw [e2, mul_assoc]
 ·rename_i h
  have e : k / 2 + k / 2 = k := by omega
  rw [e]
open Classical in
noncomputable def Pol.bz : Nat → Pol K → Pol K → Pol K → Pol K → Pol K → Pol K → Pol K × Pol K × Pol K
 | 0, a, _, u, _, v, _ => (a, u, v)
 | n + 1, a, b, u, x, v, y => if b = 0 then (a, u, v) else bz n b (a % b) x (u - a / b * x) y (v - a / b * y)
structure Pol.BzI (A B a b u x v y : Pol K) : Prop where
 one : u * A + v * B = a
 two : x * A + y * B = b
 lx : x.len = 0 ∨ x.len + a.len ≤ B.len + 1
 ly : y.len = 0 ∨ y.len + a.len ≤ A.len + 1
 lu : u.len = 0 ∨ u.len + b.len ≤ B.len + 1
 lv : v.len = 0 ∨ v.len + b.len ≤ A.len + 1
 any : a ≠ 0 ∨ b ≠ 0
theorem Pol.BzI.init {A B : Pol K} (h : A ≠ 0 ∨ B ≠ 0) : BzI A B A B 1 0 0 1 :=
 ⟨ring_of [A, B] rfl, ring_of [A, B] rfl, .inl len_zero, .inr (by rw [len_one]; omega), .inr (by rw [len_one]; omega), .inl len_zero, h⟩
theorem Pol.len_sub_le {a b : Pol K} {n : Nat} (ha : a.len ≤ n) (hb : b.len ≤ n) : (a - b).len ≤ n := len_le (lt_sub (lt_iff.2 ha) (lt_iff.2 hb))
theorem Pol.len_add_le {a b : Pol K} {n : Nat} (ha : a.len ≤ n) (hb : b.len ≤ n) : (a + b).len ≤ n := len_le (lt_add (lt_iff.2 ha) (lt_iff.2 hb))
theorem Pol.BzI.qlen {A B a b u x v y : Pol K} (h : BzI A B a b u x v y) (hb : b ≠ 0) :
 ((a / b * x).len = 0 ∨ (a / b * x).len + b.len ≤ B.len + 1) ∧ ((a / b * y).len = 0 ∨ (a / b * y).len + b.len ≤ A.len + 1) := by
 have key : ∀ (x : Pol K) (n : Nat), (x.len = 0 ∨ x.len + a.len ≤ n + 1) → ((a / b * x).len = 0 ∨ (a / b * x).len + b.len ≤ n + 1) := by
  intro x n hx
  by_cases hx0 : x = 0
  ·left; rw [hx0, mul_zero, len_zero]
  ·rcases Nat.lt_or_ge a.len b.len with hl | hl
   ·left; rw [div_small hl, zero_mul, len_zero]
   ·have h1 := len_div hb hl
    have hq : a / b ≠ 0 := fun h0 => by
     rw [h0, len_zero] at h1
     omega
    have h2 := len_mul hq hx0
    have h3 := len_pos hx0
    right; omega
 exact ⟨key x B.len h.lx, key y A.len h.ly⟩
theorem Pol.BzI.step {A B a b u x v y : Pol K} (h : BzI A B a b u x v y) (hb : b ≠ 0) : BzI A B b (a % b) x (u - a / b * x) y (v - a / b * y) := by
 have hm := div_mod a b
 have hl := len_mod a hb
 have hle := len_mod_le a hb
 obtain ⟨q1, q2⟩ := h.qlen hb
 have sub : ∀ (u q : Pol K) (n : Nat), (u.len = 0 ∨ u.len + b.len ≤ n + 1) → (q.len = 0 ∨ q.len + b.len ≤ n + 1) → ((u - q).len = 0 ∨ (u - q).len + b.len ≤ n + 1) := by
  intro u q n h1 h2
  by_cases hn : n + 1 ≤ b.len
  ·left
   have e1 : u.len = 0 := by omega
   have e2 : q.len = 0 := by omega
   have := len_sub_le (a := u) (b := q) (n := 0) (by omega) (by omega)
   omega
  ·right
   have := len_sub_le (a := u) (b := q) (n := n + 1 - b.len) (by omega) (by omega)
   omega
 refine ⟨h.two, ?_, sub _ _ _ h.lu q1, sub _ _ _ h.lv q2, ?_, ?_, .inl hb⟩
 ·have e : (u - a / b * x) * A + (v - a / b * y) * B = (u * A + v * B) - a / b * (x * A + y * B) := ring_of [u, a / b, x, A, v, y, B] rfl
  rw [e, h.one, h.two]
  have e2 : a - a / b * b = (a / b * b + a % b) - a / b * b := by rw [← hm]
  rw [e2]
  exact ring_of [a / b, b, a % b] rfl
 ·exact h.lx.imp id fun h => by omega
 ·exact h.ly.imp id fun h => by omega
theorem Pol.bz_spec {A B : Pol K} : ∀ (n : Nat) (a b u x v y : Pol K), b.len ≤ n → BzI A B a b u x v y →
 ∃ x' y', BzI A B (bz n a b u x v y).1 0 (bz n a b u x v y).2.1 x' (bz n a b u x v y).2.2 y' ∧ (∃ s, a = s * (bz n a b u x v y).1) ∧ (∃ s, b = s * (bz n a b u x v y).1)
 | 0, a, b, u, x, v, y, hn, h => by
  obtain rfl := len_zero_iff.1 (show b.len = 0 by omega)
  exact ⟨x, y, h, ⟨1, (one_mul a).symm⟩, ⟨0, (zero_mul a).symm⟩⟩
 | n + 1, a, b, u, x, v, y, hn, h => by
  unfold bz
  split
  ·rename_i hb
   subst hb
   exact ⟨x, y, h, ⟨1, (one_mul a).symm⟩, ⟨0, (zero_mul a).symm⟩⟩
  ·rename_i hb
   have hl := len_mod a hb
   obtain ⟨x', y', h1, ⟨s, h2⟩, ⟨t, h3⟩⟩ := bz_spec n b (a % b) x (u - a / b * x) y (v - a / b * y) (by omega) (h.step hb)
   refine ⟨x', y', h1, ⟨a / b * s + t, ?_⟩, ⟨s, h2⟩⟩
   generalize (bz n b (a % b) x (u - a / b * x) y (v - a / b * y)).1 = d at *
   have e : (a / b * s + t) * d = a / b * (s * d) + t * d := ring_of [a / b, s, t, d] rfl
   rw [e, ← h2, ← h3]
   exact div_mod a b
noncomputable def Pol.eu (a b : Pol K) : Pol K × Pol K × Pol K := bz b.len a b 1 0 0 1
noncomputable def Pol.bezout (a b : Pol K) : Pol K × Pol K × Pol K :=
 let r := eu a b
 (C (Fd.inv r.1.ld) * r.1, C (Fd.inv r.1.ld) * r.2.1, C (Fd.inv r.1.ld) * r.2.2)
noncomputable def Pol.gcd (a b : Pol K) : Pol K := (bezout a b).1
end
end Gq

namespace Pe
open Go Gq
variable {T : Nat → Option Fn} {A : Oracle}
theorem trim_pad {p : Int} (a : Fp p) (h : a.len ≤ 64) : trim (pad (row a)) = row a := trim_row fun i => by rw [pad_cf (by rw [row_length]; exact h), row_cf]
theorem take_succ_set {l : List Int} {i : Nat} (h : i < l.length) : l.take i ++ [l[i]] = l.take (i + 1) := by
 rw [List.take_add_one, List.getElem?_eq_getElem h]; rfl
theorem l_rowOf {O : Oracle} {l : List Int} (hb : Bytes l) (hl : l.length = 64) : ∀ (m i : Nat) (cp : Option Nat), i + m = 64 →
 dn O 0 (.loop Z18_L0) ⟨[(3, .sl 1 [] 0 i cp), (6, (.d (.arr 64 .leaf (ints .u8 l)))), (7, (.d (.int .i64 i)))], [.hole, .sl false .leaf (ints .i64 (l.take i)), .hole, .hole]⟩ =
  some (.exit 0, ⟨[(3, .sl 1 [] 0 64 (if m = 0 then cp else none)), (6, (.d (.arr 64 .leaf (ints .u8 l)))), (7, (.d (.int .i64 64))), (8, (.d (.bool false)))], [.hole, .sl false .leaf (ints .i64 (l.take 64)), .hole, .hole]⟩)
 | 0, i, cp, hi => by
  have : i = 64 := by omega
  subst this
  exact dn_stop (by simp -implicitDefEqProofs [Z18_L0, dn_cond])
 | m + 1, i, cp, hi => by
  have h1 : (i : Int) < 64 := by omega
  have hlt : i < l.length := by omega
  have hx : l[i]? = some l[i] := List.getElem?_eq_getElem hlt
  have hb' := hb _ (List.getElem_mem hlt)
  have w1 : IntKind.i64.wrap l[i] = l[i] := w64 (by omega)
  have w4 : IntKind.i64.wrap ((i : Int) + 1) = ((i + 1 : Nat) : Int) := (w64 (x := (i : Int) + 1) (by omega)).trans (by omega)
  have h8 : (i + 1) * 8 ≤ 1099511627776 := by omega
  have hlen : i ≤ l.length := by omega
  have ht : (l.take i).take i = l.take i := by rw [List.take_take, Nat.min_self]
  have e1 : ints .i64 (l.take i) ++ [D.int .i64 l[i]] = ints .i64 (l.take (i + 1)) := by rw [← take_succ_set hlt, ← ints_append]; rfl
  have ih := l_rowOf (O := O) hb hl m (i + 1) none (by omega)
  have e2 : (if m = 0 then (none : Option Nat) else none) = none := by split <;> rfl
  rw [e2] at ih
  rw [if_neg (Nat.succ_ne_zero m)]
  refine dn_round ?_ ih
  simp -implicitDefEqProofs [Z18_L0, dn_cond, h1, hlt, w1, w4, h8, hlen, ht, e1, List.replicate]
def C_rowOf (O : Oracle) : Prop := ∀ l : List Int, Bytes l → l.length = 64 → ask O F18 [(D.arr 64 .leaf (ints .u8 l))] = some (D.sl .leaf (ints .i64 (trim l)))
theorem c_rowOf (hT : T F18 = some Z18) (ht : C_trimmed (den T A)) : C_rowOf (den T A) := by
 intro l hb hl
 have e := l_rowOf (O := den T A) hb hl 64 0 (some 0) (Nat.zero_add _)
 have e0 : ((0 : Nat) : Int) = 0 := rfl
 rw [e0, List.take_zero, ints_nil, List.take_of_length_le (by omega)] at e
 have e1 := ht l (by omega)
 have ht : l.take 64 = l := List.take_of_length_le (by omega)
 refine ask_of hT rfl ?_
 simp -implicitDefEqProofs [Z18, Z18_B, e, e1, hl, ht]
def K_rowOf (O : Oracle) : Prop := ∀ (p : Int) [IsP p] (a : Fp p), a.len ≤ 64 → ask O F18 [(D.arr 64 .leaf (ints .u8 (pad (row a))))] = some (D.sl .leaf (ints .i64 (row a)))
theorem pad_bytes {p : Int} [IsP p] (a : Fp p) : Bytes (pad (row a)) := fun x hx => by
 obtain ⟨i, _, rfl⟩ := List.mem_map.1 hx
 have := (row_can a).le IsP.pos i
 have := IsP.le (p := p)
 omega
theorem k_rowOf {O : Oracle} (h : C_rowOf O) : K_rowOf O := fun p i a hl => by
 rw [h _ (pad_bytes a) (pad_length _), trim_pad a hl]
theorem l_poly {O : Oracle} {l z : List Int} (hb : Bytes l) (hl : l.length ≤ 64) : ∀ (m i : Nat) (cur : List Int), i + m = l.length → cur.length = 64 →
 dn O 0 (.loop Z1d_L0) ⟨[(2, .ptr 0 []), (3, .ptr 1 []), (6, (.d (.sl .leaf (ints .i64 l)))), (7, (.d (.int .i64 l.length))), (8, (.d (.int .i64 i)))], [.box false (D.arr 64 .leaf (ints .u8 z)), .box false (D.arr 64 .leaf (ints .u8 cur))]⟩ =
  some (.exit 0, ⟨[(2, .ptr 0 []), (3, .ptr 1 []), (6, (.d (.sl .leaf (ints .i64 l)))), (7, (.d (.int .i64 l.length))), (8, (.d (.int .i64 l.length))), (9, (.d (.bool false)))], [.box false (D.arr 64 .leaf (ints .u8 z)), .box false (D.arr 64 .leaf (ints .u8 (upd (cf l) m i cur)))]⟩)
 | 0, i, cur, hi, hc => by
  have : i = l.length := by omega
  subst this
  exact dn_stop (by simp -implicitDefEqProofs [Z1d_L0, dn_cond, upd])
 | m + 1, i, cur, hi, hc => by
  have hlt : i < l.length := by omega
  have hx : l[i]? = some (cf l i) := by rw [List.getElem?_eq_getElem hlt, cf_lt hlt]
  have hb' := hb _ (List.getElem_mem hlt)
  rw [← cf_lt hlt] at hb'
  have w1 : IntKind.u8.wrap l[i] = cf l i := by rw [← cf_lt hlt]; exact w8 hb'
  have w4 : IntKind.i64.wrap ((i : Int) + 1) = ((i + 1 : Nat) : Int) := (w64 (x := (i : Int) + 1) (by omega)).trans (by omega)
  have hi64 : i < 64 := by omega
  have hcur : cur[i]? = some (cf cur i) := by rw [List.getElem?_eq_getElem (by omega), cf_lt]
  have ih := l_poly (O := O) (z := z) hb hl m (i + 1) (cur.set i (cf l i)) (by omega) (by simpa using hc)
  refine dn_round ?_ ih
  simp -implicitDefEqProofs [Z1d_L0, dn_cond, hlt, w1, w4, hi64, hcur]
def C_poly (O : Oracle) : Prop := ∀ l : List Int, Bytes l → l.length ≤ 64 → ask O F1d [(D.sl .leaf (ints .i64 l))] = some (D.arr 64 .leaf (ints .u8 (pad l)))
theorem upd_pad {l : List Int} (_hl : l.length ≤ 64) : upd (cf l) l.length 0 (pad []) = pad l := by
 symm
 apply pad_eq
 ·rw [upd_length, pad_length]
 ·intro i hi
  unfold cf
  rw [List.getD_eq_getElem?_getD, List.getD_eq_getElem?_getD, upd_get]
  by_cases h : i < l.length
  ·rw [if_pos (by rw [pad_length]; omega)]
   simp [h]
  ·rw [if_neg (by omega), List.getElem?_eq_none (by omega), pad_get _ _ hi]; rfl
theorem c_poly (hT : T F1d = some Z1d) : C_poly (den T A) := by
 intro l hb hl
 have e := l_poly (O := den T A) (z := pad []) hb hl l.length 0 (pad []) (Nat.zero_add _) (pad_length [])
 have e0 : ((0 : Nat) : Int) = 0 := rfl
 rw [e0, upd_pad hl] at e
 refine ask_of hT rfl ?_
 simp -implicitDefEqProofs [Z1d, Z1d_B, e]
theorem row_bytes {p : Int} [IsP p] (a : Fp p) : Bytes (row a) := fun x hx => by
 have := row_can a x hx
 have := IsP.le (p := p)
 omega
def K_poly (O : Oracle) : Prop := ∀ (p : Int) [IsP p] (a : Fp p), a.len ≤ 64 → ask O F1d [(D.sl .leaf (ints .i64 (row a)))] = some (D.arr 64 .leaf (ints .u8 (pad (row a))))
theorem k_poly {O : Oracle} (h : C_poly O) : K_poly O := fun p i a hl => h _ (row_bytes a) (by simpa using hl)
def C_fits (O : Oracle) : Prop := ∀ l : List Int, l.length < 1000000 → ask O F1b [(D.sl .leaf (ints .i64 l))] = some (D.bool (decide (l.length ≤ 64)))
theorem c_fits (hT : T F1b = some Z1b) (hd : C_degree (den T A)) : C_fits (den T A) := by
 intro l hl
 have e := hd l hl
 have e2 : decide ((l.length : Int) - 1 ≤ 63) = decide (l.length ≤ 64) := decide_eq_decide.2 (by omega)
 refine ask_of hT rfl ?_
 simp -implicitDefEqProofs [Z1b, Z1b_B, e, e2]
def toldD (l : List Int) : D := if l.length ≤ 64 then .tup [(D.arr 64 .leaf (ints .u8 (pad l))), (D.int .i64 0)] else .tup [(D.arr 64 .leaf (ints .u8 (pad []))), (D.int .i64 3)]
def C_told (O : Oracle) : Prop := ∀ l : List Int, Bytes l → l.length < 1000000 → ask O F1f [(D.sl .leaf (ints .i64 l))] = some (toldD l)
theorem c_told (hT : T F1f = some Z1f) (hf : C_fits (den T A)) (hp : C_poly (den T A)) : C_told (den T A) := by
 intro l hb hl
 have e := hf l hl
 unfold toldD
 refine ask_of hT rfl ?_
 by_cases h : l.length ≤ 64
 ·have e2 := hp l hb h
  simp -implicitDefEqProofs [Z1f, Z1f_B, e, e2, h, dn_cond]
 ·simp -implicitDefEqProofs [Z1f, Z1f_B, e, h, dn_cond]
def K_rest (O : Oracle) : Prop := ∀ (p : Int) [IsP p] (a b : Fp p), b ≠ 0 → a.len < 5000 → b.len < 5000 →
 ask O F12 [(D.int .i64 p), (D.sl .leaf (ints .i64 (row a))), (D.sl .leaf (ints .i64 (row b)))] = some (D.sl .leaf (ints .i64 (row (a % b))))
theorem k_rest (hT : T F12 = some Z12) (hd : K_divide (den T A)) : K_rest (den T A) := by
 intro p i a b hb h1 h2
 have e := hd p a b hb h1 h2
 refine ask_of hT rfl ?_
 simp -implicitDefEqProofs [Z12, Z12_B, e]
end Pe

namespace Pe
open Go Gq
variable {T : Nat → Option Fn} {A : Oracle}
section
variable {p : Int} [IsP p]
theorem row_one : row (1 : Fp p) = [1] := by
 unfold row
 rw [Pol.len_one]
 show [rep ((1 : Fp p).c 0)] = [1]
 have : (1 : Fp p).c 0 = 1 := rfl
 rw [this, rep_one]
end
section
variable {p : Int}
theorem sub_comb (u z : Fp p) : u + Pol.C (zp p (-1)) * z = u - z := by
 rw [zp_neg, zp_one, Pol.C_neg, Pol.C_one]
 exact ring_of [u, z] rfl
end
section
variable {p : Int} [IsP p]
end
def K_combine1 (O : Oracle) : Prop := ∀ (p : Int) [IsP p] (a b : Fp p), a.len < 1000000 → b.len < 1000000 →
 ask O Fs [(D.int .i64 p), (D.sl .leaf (ints .i64 (row a))), (D.sl .leaf (ints .i64 (row b))), (D.int .i64 (-1))] = some (D.sl .leaf (ints .i64 (row (a - b))))
theorem k_combine1 {O : Oracle} (h : K_combine O) : K_combine1 O := fun p i a b h1 h2 => by
 rw [h p (-1) a b (by omega) (by omega) h1 h2, sub_comb]
def K_combine2 (O : Oracle) : Prop := ∀ (p : Int) [IsP p] (a b : Fp p), a.len < 1000000 → b.len < 1000000 →
 ask O Fs [(D.int .i64 p), (D.sl .leaf (ints .i64 (row a))), (D.sl .leaf (ints .i64 (row b))), (D.int .i64 1)] = some (D.sl .leaf (ints .i64 (row (a + b))))
theorem k_combine2 {O : Oracle} (h : K_combine O) : K_combine2 O := fun p i a b h1 h2 => by
 rw [h p 1 a b (by omega) (by omega) h1 h2, zp_one, Pol.C_one, Gq.one_mul]
section
variable {p : Int} [IsP p]
theorem bz_small {A B a b u x v y : Fp p} (h : Pol.BzI A B a b u x v y) (hA : A.len ≤ 2000) (hB : B.len ≤ 2000) (ha : a.len ≤ 2000) (hb : b.len ≤ 2000) (hb0 : b ≠ 0) :
 u.len < 3000 ∧ v.len < 3000 ∧ x.len < 3000 ∧ y.len < 3000 ∧ (a / b).len < 3000 ∧ (a % b).len ≤ 2000 ∧ (a / b * x).len < 3000 ∧ (a / b * y).len < 3000 := by
 have h1 := h.lu
 have h2 := h.lv
 have h3 := h.lx
 have h4 := h.ly
 have h5 := Pol.len_div_le a hb0
 have h6 := Pol.len_mod_le a hb0
 obtain ⟨h7, h8⟩ := h.qlen hb0
 omega
theorem l_bezout {O : Oracle} (hd : K_divide O) (ht : K_times O) (hc : K_combine1 O) {A B : Fp p} (hA : A.len ≤ 2000) (hB : B.len ≤ 2000) : ∀ (n : Nat) (a b u x v y : Fp p), b.len ≤ n → a.len ≤ 2000 → b.len ≤ 2000 → Pol.BzI A B a b u x v y → ∃ x' y',
 dn O 0 (.loop Zr_L0) ⟨[(0, (.d (.int .i64 p))), (1, (.d (.sl .leaf (ints .i64 (row a))))), (2, (.d (.sl .leaf (ints .i64 (row b))))), (9, (.d (.sl .leaf (ints .i64 (row u))))), (10, (.d (.sl .leaf (ints .i64 (row v))))), (11, (.d (.sl .leaf (ints .i64 (row x))))), (12, (.d (.sl .leaf (ints .i64 (row y)))))], [.hole, .hole]⟩ =
  some (.exit 0, ⟨[(0, (.d (.int .i64 p))), (1, (.d (.sl .leaf (ints .i64 (row (Pol.bz n a b u x v y).1))))), (2, (.d (.sl .leaf (ints .i64 ([]))))), (9, (.d (.sl .leaf (ints .i64 (row (Pol.bz n a b u x v y).2.1))))), (10, (.d (.sl .leaf (ints .i64 (row (Pol.bz n a b u x v y).2.2))))), (11, (.d (.sl .leaf (ints .i64 x')))), (12, (.d (.sl .leaf (ints .i64 y')))), (20, (.d (.bool false)))], [.hole, .hole]⟩) := by
 intro n
 induction n with
 | zero =>
  intro a b u x v y hn ha hb hi
  obtain rfl := Pol.len_zero_iff.1 (show b.len = 0 by omega)
  exact ⟨row x, row y, dn_stop (by simp -implicitDefEqProofs [Zr_L0, dn_cond, row_zero, Pol.bz, ints_nil])⟩
 | succ n ih =>
  intro a b u x v y hn ha hb hi
  unfold Pol.bz
  by_cases h0 : b = 0
  ·subst h0
   rw [if_pos rfl]
   exact ⟨row x, row y, dn_stop (by simp -implicitDefEqProofs [Zr_L0, dn_cond, row_zero, ints_nil])⟩
  ·rw [if_neg h0]
   obtain ⟨s1, s2, s3, s4, s5, s6, s7, s8⟩ := bz_small hi hA hB ha hb h0
   have hl := Pol.len_mod a h0
   have hp := Pol.len_pos h0
   obtain ⟨x', y', e⟩ := ih b (a % b) x (u - a / b * x) y (v - a / b * y) (by omega) hb s6 (hi.step h0)
   refine ⟨x', y', dn_round ?_ e⟩
   have e1 := hd p a b h0 (by omega) (by omega)
   have e2 := ht p (a / b) x (by omega) (by omega)
   have e3 := hc p u (a / b * x) (by omega) (by omega)
   have e4 := ht p (a / b) y (by omega) (by omega)
   have e5 := hc p v (a / b * y) (by omega) (by omega)
   simp -implicitDefEqProofs [Zr_L0, dn_cond, hp, e1, e2, e3, e4, e5]
end
def K_bezout (O : Oracle) : Prop := ∀ (p : Int) [IsP p] (a b : Fp p), (a ≠ 0 ∨ b ≠ 0) → a.len ≤ 2000 → b.len ≤ 2000 →
 ask O Fr [(D.int .i64 p), (D.sl .leaf (ints .i64 (row a))), (D.sl .leaf (ints .i64 (row b)))] = some (.tup [(D.sl .leaf (ints .i64 (row (Pol.bezout a b).1))), (D.sl .leaf (ints .i64 (row (Pol.bezout a b).2.1))), (D.sl .leaf (ints .i64 (row (Pol.bezout a b).2.2)))])
theorem finv_rep {p : Int} [IsP p] (x : Zp p) (hx : x ≠ 0) : zp p (inv p (rep x)) = Fd.inv x := by
 have h0 := rep_in x
 have h1 : rep x ≠ 0 := fun h => hx (rep_eq_zero.1 h)
 have h2 : x * zp p (inv p (rep x)) = 1 := by
  have : zp p (rep x * inv p (rep x)) = 1 := by rw [← zp_mod, inv_ok p _ (by omega) h0.2]; rfl
  rwa [zp_mul, zp_rep] at this
 have h3 := Fd.mul_inv x hx
 have : Fd.inv x * (x * zp p (inv p (rep x))) = Fd.inv x * 1 := by rw [h2]
 rw [← Gq.mul_assoc, Gq.mul_comm (Fd.inv x), h3, Gq.one_mul, Gq.mul_one] at this
 exact this
theorem k_bezout (hT : T Fr = some Zr) (hd : K_divide (den T A)) (ht : K_times (den T A)) (hc : K_combine1 (den T A)) (hld : C_lead (den T A)) (hinv : C_inverse (den T A)) (hs : K_scale (den T A)) : K_bezout (den T A) := by
 intro p i a b hab ha hb
 have hp := IsP.ge (p := p)
 have hp7 := IsP.le (p := p)
 -- the end
 have last : ∀ {x y : Fp p} {a' u v : Fp p}, Pol.BzI a b a' 0 u x v y → ask (den T A) F1c [(D.sl .leaf (ints .i64 (row a')))] = some (D.int .i64 (rep a'.ld)) ∧ ask (den T A) Fx [(D.int .i64 p), (D.int .i64 (rep a'.ld))] = some (D.int .i64 (inv p (rep a'.ld))) ∧
  ask (den T A) F13 [(D.int .i64 p), (D.sl .leaf (ints .i64 (row a'))), (D.int .i64 (inv p (rep a'.ld)))] = some (D.sl .leaf (ints .i64 (row (Pol.C (Fd.inv a'.ld) * a')))) ∧ ask (den T A) F13 [(D.int .i64 p), (D.sl .leaf (ints .i64 (row u))), (D.int .i64 (inv p (rep a'.ld)))] = some (D.sl .leaf (ints .i64 (row (Pol.C (Fd.inv a'.ld) * u)))) ∧ ask (den T A) F13 [(D.int .i64 p), (D.sl .leaf (ints .i64 (row v))), (D.int .i64 (inv p (rep a'.ld)))] = some (D.sl .leaf (ints .i64 (row (Pol.C (Fd.inv a'.ld) * v)))) := by
  intro x y a' u v hi
  have ha0 : a' ≠ 0 := hi.any.resolve_right (fun h => h rfl)
  have hr := rep_in a'.ld
  have hin := inv_in p (rep a'.ld)
  have h1 := hi.lu
  have h2 := hi.lv
  rw [Pol.len_zero] at h1 h2
  have hal : a'.len < 5000 := by
   have := Pol.len_add_le (a := u * a) (b := v * b) (n := 4500) (by
    by_cases hu : u = 0
    ·rw [hu, Gq.zero_mul, Pol.len_zero]; omega
    ·by_cases ha0 : a = 0
     ·rw [ha0, Gq.mul_zero, Pol.len_zero]; omega
     ·have := Pol.len_mul hu ha0; omega) (by
    by_cases hu : v = 0
    ·rw [hu, Gq.zero_mul, Pol.len_zero]; omega
    ·by_cases ha0 : b = 0
     ·rw [ha0, Gq.mul_zero, Pol.len_zero]; omega
     ·have := Pol.len_mul hu ha0; omega)
   rw [hi.one] at this
   omega
  have e1 := hld (row a') (by rw [row_length]; omega)
  rw [ld_row] at e1
  have e2 := hinv p (rep a'.ld) (by omega) (by omega) hr.1 hr.2
  have e3 := hs p (inv p (rep a'.ld)) a' (by omega) (by omega) (by omega)
  have e4 := hs p (inv p (rep a'.ld)) u (by omega) (by omega) (by omega)
  have e5 := hs p (inv p (rep a'.ld)) v (by omega) (by omega) (by omega)
  rw [finv_rep _ (Pol.ld_ne ha0)] at e3 e4 e5
  exact ⟨e1, e2, e3, e4, e5⟩
 have I0 := Pol.BzI.init (A := a) (B := b) hab
 refine ask_of hT rfl ?_
 unfold Pol.bezout Pol.eu
 by_cases h0 : b = 0
 ·subst h0
  have l0 := dn_stop (O := den T A) (np := 0) (c := Zr_L0) (s := ⟨[(0, (.d (.int .i64 p))), (1, (.d (.sl .leaf (ints .i64 (row a))))), (2, (.d (.sl .leaf (ints .i64 ([]))))), (9, .sl 0 [] 0 1 (some 1)), (10, (.d (.sl .leaf (ints .i64 ([]))))), (11, (.d (.sl .leaf (ints .i64 ([]))))), (12, .sl 1 [] 0 1 (some 1))], [.sl false .leaf (ints .i64 [1]), .sl false .leaf (ints .i64 [1])]⟩) (s1 := ⟨[(0, (.d (.int .i64 p))), (1, (.d (.sl .leaf (ints .i64 (row a))))), (2, (.d (.sl .leaf (ints .i64 ([]))))), (9, .sl 0 [] 0 1 (some 1)), (10, (.d (.sl .leaf (ints .i64 ([]))))), (11, (.d (.sl .leaf (ints .i64 ([]))))), (12, .sl 1 [] 0 1 (some 1)), (20, (.d (.bool false)))], [.sl false .leaf (ints .i64 [1]), .sl false .leaf (ints .i64 [1])]⟩) (id := 0) (by simp -implicitDefEqProofs [Zr_L0, dn_cond, ints_nil])
  obtain ⟨e1, e2, e3, e4, e5⟩ := last I0
  rw [row_one] at e4
  rw [row_zero] at e5
  rw [ints_nil] at l0 e5
  rw [Pol.len_zero]
  have o1 : D.int IntKind.i64 1 :: [] = ints .i64 [1] := rfl
  simp -implicitDefEqProofs [Zr, Zr_B, row_zero, ints_nil, Pol.bz, e1, e2, e3, e4, e5, l0, o1, List.replicate]
 ·have hp0 := Pol.len_pos h0
  have I1 := I0.step h0
  obtain ⟨_, _, _, _, q5, q6, q7, q8⟩ := bz_small I0 ha hb ha hb h0
  have l0 := hd p a b h0 (by omega) (by omega)
  have l1 := ht p (a / b) 0 (by omega) (by rw [Pol.len_zero]; omega)
  have l2 := ht p (a / b) 1 (by omega) (by rw [Pol.len_one]; omega)
  have l3 := hc p 1 (a / b * 0) (by rw [Pol.len_one]; omega) (by omega)
  have l4 := hc p 0 (a / b * 1) (by rw [Pol.len_zero]; omega) (by omega)
  rw [row_one] at l2 l3
  rw [row_zero, ints_nil] at l1 l4
  have st1 : dn (den T A) 0 Zr_L0 ⟨[(0, (.d (.int .i64 p))), (1, (.d (.sl .leaf (ints .i64 (row a))))), (2, (.d (.sl .leaf (ints .i64 (row b))))), (9, .sl 0 [] 0 1 (some 1)), (10, .d (.sl .leaf [])), (11, .d (.sl .leaf [])), (12, .sl 1 [] 0 1 (some 1))], [.sl false .leaf (ints .i64 [1]), .sl false .leaf (ints .i64 [1])]⟩ =
   some (.normal, ⟨[(0, (.d (.int .i64 p))), (1, (.d (.sl .leaf (ints .i64 (row b))))), (2, (.d (.sl .leaf (ints .i64 (row (a % b)))))), (9, .d (.sl .leaf [])), (10, .sl 1 [] 0 1 (some 1)), (11, (.d (.sl .leaf (ints .i64 (row (1 - a / b * 0)))))), (12, (.d (.sl .leaf (ints .i64 (row (0 - a / b * 1))))))], [.hole, .sl true .leaf (ints .i64 [1])]⟩) := by
   simp -implicitDefEqProofs [Zr_L0, dn_cond, hp0, l0, l1, l2, l3, l4]
  by_cases h1 : a % b = 0
  ·have st2 : dn (den T A) 0 Zr_L0 ⟨[(0, (.d (.int .i64 p))), (1, (.d (.sl .leaf (ints .i64 (row b))))), (2, (.d (.sl .leaf (ints .i64 (row (a % b)))))), (9, .d (.sl .leaf [])), (10, .sl 1 [] 0 1 (some 1)), (11, (.d (.sl .leaf (ints .i64 (row (1 - a / b * 0)))))), (12, (.d (.sl .leaf (ints .i64 (row (0 - a / b * 1))))))], [.hole, .sl true .leaf (ints .i64 [1])]⟩ =
    some (.exit 0, ⟨[(0, (.d (.int .i64 p))), (1, (.d (.sl .leaf (ints .i64 (row b))))), (2, (.d (.sl .leaf (ints .i64 (row (a % b)))))), (9, .d (.sl .leaf [])), (10, .sl 1 [] 0 1 (some 1)), (11, (.d (.sl .leaf (ints .i64 (row (1 - a / b * 0)))))), (12, (.d (.sl .leaf (ints .i64 (row (0 - a / b * 1)))))), (20, (.d (.bool false)))], [.hole, .sl true .leaf (ints .i64 [1])]⟩) := by
    simp -implicitDefEqProofs [Zr_L0, dn_cond, h1, row_zero]
   have lp := dn_round st1 (dn_stop st2)
   have hb1 : Pol.bz b.len a b 1 0 0 1 = (b, 0, 1) := by
    rw [show b.len = (b.len - 1) + 1 by omega, Pol.bz, if_neg h0]
    cases hn : b.len - 1 with
    | zero => rfl
    | succ n => rw [Pol.bz, if_pos h1]
   rw [hb1]
   have I1' : Pol.BzI a b b 0 0 (1 - a / b * 0) 1 (0 - a / b * 1) := h1 ▸ I1
   obtain ⟨e1, e2, e3, e4, e5⟩ := last I1'
   rw [row_one] at e5
   rw [row_zero, ints_nil] at e4
   have o1 : D.int IntKind.i64 1 :: [] = ints .i64 [1] := rfl
   simp -implicitDefEqProofs [Zr, Zr_B, e1, e2, e3, e4, e5, lp, o1, List.replicate]
  ·have hp1 := Pol.len_pos h1
   have hl1 := Pol.len_mod a h0
   obtain ⟨s1, s2, s3, s4, s5, s6, s7, s8⟩ := bz_small I1 ha hb hb (by omega) h1
   have m0 := hd p b (a % b) h1 (by omega) (by omega)
   have m1 := ht p (b / (a % b)) (1 - a / b * 0) (by omega) (by omega)
   have m2 := ht p (b / (a % b)) (0 - a / b * 1) (by omega) (by omega)
   have m3 := hc p 0 (b / (a % b) * (1 - a / b * 0)) (by omega) (by omega)
   have m4 := hc p 1 (b / (a % b) * (0 - a / b * 1)) (by omega) (by omega)
   rw [row_one] at m4
   rw [row_zero, ints_nil] at m3
   have st2 : dn (den T A) 0 Zr_L0 ⟨[(0, (.d (.int .i64 p))), (1, (.d (.sl .leaf (ints .i64 (row b))))), (2, (.d (.sl .leaf (ints .i64 (row (a % b)))))), (9, .d (.sl .leaf [])), (10, .sl 1 [] 0 1 (some 1)), (11, (.d (.sl .leaf (ints .i64 (row (1 - a / b * 0)))))), (12, (.d (.sl .leaf (ints .i64 (row (0 - a / b * 1))))))], [.hole, .sl true .leaf (ints .i64 [1])]⟩ =
    some (.normal, ⟨[(0, (.d (.int .i64 p))), (1, (.d (.sl .leaf (ints .i64 (row (a % b)))))), (2, (.d (.sl .leaf (ints .i64 (row (b % (a % b))))))), (9, (.d (.sl .leaf (ints .i64 (row (1 - a / b * 0)))))), (10, (.d (.sl .leaf (ints .i64 (row (0 - a / b * 1)))))), (11, (.d (.sl .leaf (ints .i64 (row (0 - b / (a % b) * (1 - a / b * 0))))))), (12, (.d (.sl .leaf (ints .i64 (row (1 - b / (a % b) * (0 - a / b * 1)))))))], [.hole, .hole]⟩) := by
    simp -implicitDefEqProofs [Zr_L0, dn_cond, hp1, m0, m1, m2, m3, m4]
   have I2 := I1.step h1
   have hl2 := Pol.len_mod b h1
   obtain ⟨x', y', e⟩ := l_bezout hd ht hc ha hb (b.len - 2) _ _ _ _ _ _ (by omega) (by omega) (by omega) I2
   have lp := dn_round st1 (dn_round st2 e)
   have hb1 : Pol.bz b.len a b 1 0 0 1 = Pol.bz (b.len - 2) (a % b) (b % (a % b)) (1 - a / b * 0) (0 - b / (a % b) * (1 - a / b * 0)) (0 - a / b * 1) (1 - b / (a % b) * (0 - a / b * 1)) := by
    rw [show b.len = (b.len - 2 + 1) + 1 by omega, Pol.bz, if_neg h0, Pol.bz, if_neg h1]
    rfl
   rw [hb1]
   obtain ⟨x2, y2, I3, _, _⟩ := Pol.bz_spec (b.len - 2) _ _ _ _ _ _ (by omega) I2
   obtain ⟨e1, e2, e3, e4, e5⟩ := last I3
   have o1 : D.int IntKind.i64 1 :: [] = ints .i64 [1] := rfl
   simp -implicitDefEqProofs [Zr, Zr_B, ints_nil, e1, e2, e3, e4, e5, lp, o1, List.replicate]
end Pe

namespace Pe
open Go Gq
variable {T : Nat → Option Fn} {A : Oracle}
def K_gcd (O : Oracle) : Prop := ∀ (p : Int) [IsP p] (a b : Fp p), (a ≠ 0 ∨ b ≠ 0) → a.len ≤ 2000 → b.len ≤ 2000 →
 ask O Fw [(D.int .i64 p), (D.sl .leaf (ints .i64 (row a))), (D.sl .leaf (ints .i64 (row b)))] = some (D.sl .leaf (ints .i64 (row (Pol.gcd a b))))
theorem k_gcd (hT : T Fw = some Zw) (hb : K_bezout (den T A)) : K_gcd (den T A) := by
 intro p i a b hab h1 h2
 have e := hb p a b hab h1 h2
 refine ask_of hT rfl ?_
 simp -implicitDefEqProofs [Zw, Zw_B, e, Pol.gcd]
theorem and1 (x : Int) (_h : 0 ≤ x) : ((BitVec.ofInt 64 x &&& 1#64).toNat : Int) = x % 2 := by
 rw [BitVec.toNat_and]
 have e : (1#64).toNat = 2 ^ 1 - 1 := rfl
 rw [e, Nat.and_two_pow_sub_one_eq_mod, BitVec.toNat_ofInt]
 omega
theorem and_one (x : Int) (h : 0 ≤ x) : andI .i64 x 1 = x % 2 := by
 show IntKind.i64.wrap ((BitVec.ofInt 64 x &&& 1#64).toNat : Int) = _
 rw [and1 x h, w64 (by omega)]
theorem shr_one (x : Int) : shiftI .shr .i64 x 1 = some (.int .i64 (x / 2)) := by
 show (if (1 : Int) < 0 then none else some (D.int .i64 (x.fdiv (2 ^ min (1 : Int).toNat 64)))) = _
 rw [if_neg (by omega)]
 congr 2
 show x.fdiv 2 = x / 2
 rw [Int.fdiv_eq_ediv_of_nonneg _ (by omega)]
theorem l_power {O : Oracle} (hr : K_rest O) (ht : K_times O) {p : Int} [IsP p] {m : Fp p} (hm : m ≠ 0) (hml : m.len < 2000) : ∀ (n : Nat) (k : Int) (out base : Fp p), 0 ≤ k → k.toNat < 2 ^ n → k < 4611686018427387904 → out.len < m.len → base.len < m.len → ∃ base' : List Int,
 dn O 0 (.loop Z10_L0) ⟨[(0, (.d (.int .i64 p))), (2, (.d (.int .i64 k))), (3, (.d (.sl .leaf (ints .i64 (row m))))), (9, (.d (.sl .leaf (ints .i64 (row out))))), (10, (.d (.sl .leaf (ints .i64 (row base)))))], [.hole]⟩ =
  some (.exit 0, ⟨[(0, (.d (.int .i64 p))), (2, (.d (.int .i64 0))), (3, (.d (.sl .leaf (ints .i64 (row m))))), (9, (.d (.sl .leaf (ints .i64 (row (out * pw base k.toNat % m)))))), (10, (.d (.sl .leaf (ints .i64 base')))), (20, (.d (.bool false)))], [.hole]⟩) := by
 intro n
 induction n with
 | zero =>
  intro k out base hk hn _ ho hb
  obtain rfl : k = 0 := by simp at hn; omega
  refine ⟨row base, ?_⟩
  have e : out * pw base (0 : Int).toNat % m = out := by
   show out * 1 % m = out
   rw [Gq.mul_one, Pol.mod_small ho]
  rw [e]
  exact dn_stop (by simp -implicitDefEqProofs [Z10_L0, dn_cond])
 | succ n ih =>
  intro k out base hk hn hkm ho hb
  by_cases h0 : k = 0
  ·subst h0
   refine ⟨row base, ?_⟩
   have e : out * pw base (0 : Int).toNat % m = out := by
    show out * 1 % m = out
    rw [Gq.mul_one, Pol.mod_small ho]
   rw [e]
   exact dn_stop (by simp -implicitDefEqProofs [Z10_L0, dn_cond])
  ·have hkp : 0 < k := by omega
   have hlen : ∀ x y : Fp p, x.len < m.len → y.len < m.len → (x * y).len < 5000 := fun x y hx hy => by
    have := Pol.len_le (Pol.lt_mul x.lt_len y.lt_len)
    omega
   have t1 := ht p out base (by omega) (by omega)
   have t2 := ht p base base (by omega) (by omega)
   have r1 := hr p (out * base) m hm (hlen _ _ ho hb) (by omega)
   have r2 := hr p (base * base) m hm (hlen _ _ hb hb) (by omega)
   have s := Pol.bin_step (out := out) (base := base) hm k.toNat (by omega)
   have hdiv : (k / 2).toNat = k.toNat / 2 := by omega
   obtain ⟨b', e⟩ := ih (k / 2) (if k.toNat % 2 = 1 then out * base % m else out) (base * base % m) (by omega) (by rw [Nat.pow_succ] at hn; omega) (by omega) (by split; exact Pol.len_mod _ hm; exact ho) (Pol.len_mod _ hm)
   rw [hdiv, s] at e
   refine ⟨b', dn_round ?_ e⟩
   have ea := and_one k (by omega)
   have es := shr_one k
   by_cases hodd : k % 2 = 1
   ·rw [if_pos (show k.toNat % 2 = 1 by omega)]
    simp -implicitDefEqProofs [Z10_L0, dn_cond, hkp, t1, t2, r1, r2, ea, es, hodd]
   ·rw [if_neg (show ¬ k.toNat % 2 = 1 by omega)]
    simp -implicitDefEqProofs [Z10_L0, dn_cond, hkp, t2, r2, ea, es, hodd]
def K_power (O : Oracle) : Prop := ∀ (p : Int) [IsP p] (a : Fp p) (k : Int) (m : Fp p), m ≠ 0 → a.len < 5000 → m.len < 2000 → 0 ≤ k → k < 4611686018427387904 →
 ask O F10 [(D.int .i64 p), (D.sl .leaf (ints .i64 (row a))), (D.int .i64 k), (D.sl .leaf (ints .i64 (row m)))] = some (D.sl .leaf (ints .i64 (row (pw a k.toNat % m))))
theorem k_power (hT : T F10 = some Z10) (hr : K_rest (den T A)) (ht : K_times (den T A)) : K_power (den T A) := by
 intro p i a k m hm ha hml hk hkm
 have r1 := hr p 1 m hm (by rw [Pol.len_one]; omega) (by omega)
 rw [row_one] at r1
 have r2 := hr p a m hm (by omega) (by omega)
 obtain ⟨b', e⟩ := l_power hr ht hm hml 62 k (1 % m) (a % m) hk (by omega) hkm (Pol.len_mod _ hm) (Pol.len_mod _ hm)
 have e2 : 1 % m * pw (a % m) k.toNat % m = pw a k.toNat % m := by
  rw [Pol.mul_mod_left _ _ hm, Gq.one_mul, Pol.pow_mod _ hm]
 rw [e2] at e
 have o1 : D.int IntKind.i64 1 :: [] = ints .i64 [1] := rfl
 refine ask_of hT rfl ?_
 simp -implicitDefEqProofs [Z10, Z10_B, r1, r2, e, o1, List.replicate]
def normL (p most : Int) : Nat → Int → Int
 | 0, out => out
 | n + 1, out => if out > most then out else normL p most n (out * p)
theorem l_norm {O : Oracle} {p : Int} [IsP p] {most nn : Int} (hmost : most ≤ 1152921504606846976) : ∀ (n : Nat) (i : Int) (out : Int), i + n = nn → -1000000 < i → nn < 1000000 → 0 ≤ out → out ≤ 8070450532247928832 → ∃ (i' : Int) (b : List (Nat × V)),
 dn O 0 (.loop Zy_L0) ⟨[(0, (.d (.int .i64 p))), (2, (.d (.int .i64 most))), (7, (.d (.int .i64 out))), (8, (.d (.int .i64 nn))), (9, (.d (.int .i64 i)))], []⟩ =
  some (.exit 0, ⟨[(0, (.d (.int .i64 p))), (2, (.d (.int .i64 most))), (7, (.d (.int .i64 (normL p most n out)))), (8, (.d (.int .i64 nn))), (9, (.d (.int .i64 i')))] ++ b, []⟩)
 | 0, i, out, hi, h1, h2, ho, ho2 => by
  have : i = nn := by omega
  subst this
  exact ⟨i, [(10, (.d (.bool false)))], dn_stop (by simp -implicitDefEqProofs [Zy_L0, dn_cond, normL])⟩
 | n + 1, i, out, hi, h1, h2, ho, ho2 => by
  have hlt : i < nn := by omega
  have hp := IsP.le (p := p)
  have hp2 := IsP.pos (p := p)
  by_cases hm : most < out
  ·exact ⟨i, [(13, (.d (.bool true)))], dn_stop (by simp -implicitDefEqProofs [Zy_L0, dn_cond, normL, hlt, hm])⟩
  ·have hmul : 0 ≤ out * p ∧ out * p ≤ 8070450532247928832 := by
    refine ⟨Int.mul_nonneg ho (by omega), ?_⟩
    have : out * p ≤ out * 7 := Int.mul_le_mul_of_nonneg_left hp ho
    omega
   obtain ⟨i', b, e⟩ := l_norm (O := O) (p := p) (nn := nn) hmost n (i + 1) (out * p) (by omega) (by omega) h2 hmul.1 hmul.2
   have w1 : IntKind.i64.wrap (out * p) = out * p := w64 (by omega)
   have w2 : IntKind.i64.wrap (i + 1) = i + 1 := w64 (by omega)
   refine ⟨i', b, dn_round (s1 := ⟨[(0, (.d (.int .i64 p))), (2, (.d (.int .i64 most))), (7, (.d (.int .i64 (out * p)))), (8, (.d (.int .i64 nn))), (9, (.d (.int .i64 (i + 1))))], []⟩) (by simp -implicitDefEqProofs [Zy_L0, dn_cond, hlt, hm, w1, w2]) ?_⟩
   rw [e, normL, if_neg (by omega)]
def C_norm (O : Oracle) : Prop := ∀ (p : Int) [IsP p] (n : Nat) (most : Int), n < 1000000 → most ≤ 1152921504606846976 → ask O Fy [(D.int .i64 p), (D.int .i64 n), (D.int .i64 most)] = some (D.int .i64 (normL p most n 1))
theorem c_norm (hT : T Fy = some Zy) : C_norm (den T A) := by
 intro p i n most hn hm
 obtain ⟨i', b, e⟩ := l_norm (O := den T A) (p := p) (nn := (n : Int)) hm n 0 1 (by omega) (by omega) (by omega) (by omega) (by omega)
 refine ask_of hT rfl ?_
 simp -implicitDefEqProofs [Zy, Zy_B, e]
end Pe

namespace Pe
open Go Gq
variable {T : Nat → Option Fn} {A : Oracle}
def dgs (p : Int) : Nat → Int → List Int
 | 0, _ => []
 | f + 1, n => if n ≤ 0 then [] else n % p :: dgs p f (n / p)
def numP (p n : Int) : Fp p := polOf p (dgs p 64 n)
theorem dgs_can {p : Int} [IsP p] : ∀ f n, Can p (dgs p f n)
 | 0, n => fun x hx => by simp [dgs] at hx
 | f + 1, n => fun x hx => by
  unfold dgs at hx
  split at hx
  ·simp at hx
  ·have hp := IsP.pos (p := p)
   rcases List.mem_cons.1 hx with rfl | hx
   ·exact ⟨Int.emod_nonneg _ (by omega), Int.emod_lt_of_pos _ hp⟩
   ·exact dgs_can f _ x hx
theorem div_pos_small {p n : Int} [IsP p] (h : 0 < n) (h2 : n / p = 0) : n % p ≠ 0 := by
 have h3 := Int.mul_ediv_add_emod n p
 rw [h2] at h3
 simp at h3
 omega
theorem dgs_last {p : Int} [IsP p] : ∀ (f : Nat) (n : Int), n < 2 ^ f → dgs p f n = [] ∨ cf (dgs p f n) ((dgs p f n).length - 1) ≠ 0
 | 0, n, h => .inl rfl
 | f + 1, n, h => by
  by_cases h0 : n ≤ 0
  ·left; simp [dgs, h0]
  ·right
   have hp := IsP.ge (p := p)
   have hd : n / p < 2 ^ f := by
    apply Int.ediv_lt_of_lt_mul (by omega)
    have : (2 : Int) ^ (f + 1) = 2 ^ f * 2 := Int.pow_succ _ _
    have h2 : (2 : Int) ^ f * 2 ≤ 2 ^ f * p := Int.mul_le_mul_of_nonneg_left hp (Int.pow_nonneg (by omega))
    omega
   have e : dgs p (f + 1) n = n % p :: dgs p f (n / p) := by simp [dgs, h0]
   rw [e]
   have hdn : 0 ≤ n / p := Int.ediv_nonneg (by omega) (by omega)
   rcases dgs_last (p := p) f (n / p) hd with h1 | h1
   ·rw [h1]
    show n % p ≠ 0
    by_cases hz : n / p = 0
    ·exact div_pos_small (p := p) (show 0 < n by omega) hz
    ·exfalso
     cases f with
     | zero => simp at hd; omega
     | succ f =>
      rw [dgs, if_neg (by omega)] at h1
      cases h1
   ·cases hq : dgs p f (n / p) with
    | nil => rw [hq] at h1; simp [cf] at h1
    | cons a l =>
     rw [hq] at h1
     simpa [cf] using h1
theorem row_of_list {p : Int} [IsP p] {l : List Int} (h : Can p l) (hl : l = [] ∨ cf l (l.length - 1) ≠ 0) : row (polOf p l) = l := by
 rw [← trim_polOf h]
 unfold trim
 have : tlen l l.length = l.length := by
  cases hn : l.length with
  | zero => rfl
  | succ n =>
   rcases hl with h0 | h0
   ·rw [h0] at hn; simp at hn
   ·rw [hn, Nat.add_sub_cancel] at h0
    rw [tlen, if_neg h0]
 rw [this, List.take_length]
theorem row_numP {p : Int} [IsP p] {n : Int} (h : n < 18446744073709551616) : row (numP p n) = dgs p 64 n := row_of_list (dgs_can 64 n) (dgs_last 64 n (by simpa using h))
theorem dgs_le (p : Int) : ∀ f n, (dgs p f n).length ≤ f
 | 0, n => by simp [dgs]
 | f + 1, n => by
  unfold dgs
  split
  ·simp
  ·have := dgs_le p f (n / p); simp; omega
theorem l_numbered {O : Oracle} {p : Int} [IsP p] : ∀ (f : Nat) (n : Int) (cur : List Int) (cp : Option Nat), 0 ≤ n → n < 2 ^ f → n < 9223372036854775807 → cur.length + f < 1000 → ∃ cp',
 dn O 0 (.loop Zz_L0) ⟨[(0, (.d (.int .i64 p))), (1, (.d (.int .i64 n))), (5, .sl 0 [] 0 cur.length cp)], [.sl false .leaf (ints .i64 cur), .hole, .hole]⟩ =
  some (.exit 0, ⟨[(0, (.d (.int .i64 p))), (1, (.d (.int .i64 0))), (5, .sl 0 [] 0 (cur ++ dgs p f n).length cp'), (7, (.d (.bool false)))], [.sl false .leaf (ints .i64 (cur ++ dgs p f n)), .hole, .hole]⟩)
 | 0, n, cur, cp, h0, hn, hm, hl => by
  obtain rfl : n = 0 := by simp at hn; omega
  refine ⟨cp, ?_⟩
  rw [dgs, List.append_nil]
  exact dn_stop (by simp -implicitDefEqProofs [Zz_L0, dn_cond])
 | f + 1, n, cur, cp, h0, hn, hm, hl => by
  have hp := IsP.ge (p := p)
  have hp7 := IsP.le (p := p)
  by_cases hz : n = 0
  ·subst hz
   refine ⟨cp, ?_⟩
   rw [dgs, if_pos (Int.le_refl 0), List.append_nil]
   exact dn_stop (by simp -implicitDefEqProofs [Zz_L0, dn_cond])
  ·have hd : n / p < 2 ^ f := by
    apply Int.ediv_lt_of_lt_mul (by omega)
    have : (2 : Int) ^ (f + 1) = 2 ^ f * 2 := Int.pow_succ _ _
    have h2 : (2 : Int) ^ f * 2 ≤ 2 ^ f * p := Int.mul_le_mul_of_nonneg_left hp (Int.pow_nonneg (by omega))
    omega
   have hdn : 0 ≤ n / p := Int.ediv_nonneg (by omega) (by omega)
   have hdl : n / p ≤ n := Int.ediv_le_self _ h0
   obtain ⟨cp', e⟩ := l_numbered (O := O) (p := p) f (n / p) (cur ++ [n % p]) none hdn hd (by omega) (by simp; omega)
   have hpos : 0 < n := by omega
   have w1 : IntKind.i64.wrap (n.tdiv p) = n / p := by rw [Int.tdiv_eq_ediv_of_nonneg h0, w64 (by omega)]
   have w2 : n.tmod p = n % p := Int.tmod_eq_emod_of_nonneg h0
   have hp0 : p ≠ 0 := by omega
   have h8 : (cur.length + 1) * 8 ≤ 1099511627776 := by omega
   have o1 : ints .i64 cur ++ [D.int .i64 (n % p)] = ints .i64 (cur ++ [n % p]) := by rw [← ints_append]; rfl
   refine ⟨cp', ?_⟩
   rw [dgs, if_neg (by omega), show cur ++ n % p :: dgs p f (n / p) = (cur ++ [n % p]) ++ dgs p f (n / p) by simp]
   refine dn_round ?_ e
   simp -implicitDefEqProofs [Zz_L0, dn_cond, hpos, w1, w2, hp0, h8, o1, List.replicate]
def K_numbered (O : Oracle) : Prop := ∀ (p : Int) [IsP p] (n : Int), 0 ≤ n → n < 4611686018427387904 → ask O Fz [(D.int .i64 p), (D.int .i64 n)] = some (D.sl .leaf (ints .i64 (row (numP p n))))
theorem k_numbered (hT : T Fz = some Zz) : K_numbered (den T A) := by
 intro p i n h0 hn
 obtain ⟨cp, e⟩ := l_numbered (O := den T A) (p := p) 64 n [] (some 0) h0 (by omega) (by omega) (by simp)
 rw [row_numP (by omega)]
 rw [ints_nil, List.nil_append] at e
 have e0 : (([] : List Int).length : Nat) = 0 := rfl
 rw [e0] at e
 refine ask_of hT rfl ?_
 simp -implicitDefEqProofs [Zz, Zz_B, e]
end Pe
