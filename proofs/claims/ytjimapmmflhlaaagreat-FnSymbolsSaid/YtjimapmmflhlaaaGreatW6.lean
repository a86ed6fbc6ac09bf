/-
  A part of the proof: an evaluator for a small form of the code, its soundness, and contracts of functions over it.
-/
import Derived.Test.YtjimapmmflhlaaaGreatW1
import Derived.Test.YtjimapmmflhlaaaGreatW2
import Derived.Test.YtjimapmmflhlaaaGreatW3
import Derived.Test.YtjimapmmflhlaaaGreatW4
import Derived.Test.YtjimapmmflhlaaaGreatW5

namespace Pe
open Go Gq
variable {T : Nat → Option Fn} {A : Oracle}
section
variable {p : Int}
def lowP (a : Fp p) (i : Nat) : Fp p := ⟨fun n => if n < i then a.c n else 0, i, fun n hn => if_neg (by omega)⟩
theorem lowP_c (a : Fp p) (i n : Nat) : (lowP a i).c n = if n < i then a.c n else 0 := rfl
theorem lowP_zero (a : Fp p) : lowP a 0 = 0 := Pol.ext fun n => by rw [lowP_c, if_neg (by omega)]; rfl
theorem lowP_top (a : Fp p) : lowP a a.len = a := Pol.ext fun n => by
 rw [lowP_c]
 split
 ·rfl
 ·rename_i h; exact (a.lt_len n (by omega)).symm
end
section
variable {p : Int} [IsP p]
theorem mo_c (k : Zp p) (n i : Nat) : (Pol.mo k n).c i = if i = n then k else 0 := rfl
theorem lowP_succ (a : Fp p) (i : Nat) : lowP a (i + 1) = lowP a i + Pol.mo (a.c i) i := Pol.ext fun n => by
 rw [Pol.c_add, lowP_c, lowP_c, mo_c]
 by_cases h : n = i
 ·subst h; rw [if_pos (by omega), if_neg (by omega), if_pos rfl, Gq.zero_add]
 ·rw [if_neg h, Gq.add_zero]
  by_cases h2 : n < i
  ·rw [if_pos (by omega), if_pos h2]
  ·rw [if_neg (by omega), if_neg h2]
theorem mo_zero (n : Nat) : (Pol.mo 0 n : Fp p) = 0 := Pol.ext fun i => by rw [mo_c]; split <;> rfl
theorem mo_mo (k l : Zp p) (n m : Nat) : (Pol.mo k n * Pol.mo l m : Fp p) = Pol.mo (k * l) (n + m) := Pol.ext fun i => by
 rw [c_momul', mo_c, mo_c]
 by_cases h : n ≤ i
 ·rw [if_pos h]
  by_cases h2 : i - n = m
  ·rw [if_pos h2, if_pos (by omega)]
  ·rw [if_neg h2, if_neg (by omega), Gq.mul_zero]
 ·rw [if_neg h, if_neg (by omega)]
theorem polOf_add_set {cur : List Int} {k : Nat} (h : k < cur.length) (t : Int) : polOf p (cur.set k ((cf cur k + t) % p)) = polOf p cur + Pol.mo (zp p t) k := Pol.ext fun j => by
 rw [Pol.c_add, polOf_c, polOf_c, cf_set, mo_c]
 by_cases h1 : j = k
 ·subst h1
  rw [if_pos ⟨rfl, h⟩, if_pos rfl, zp_mod, zp_add]
 ·rw [if_neg (by omega), if_neg h1, Gq.add_zero]
end
theorem l_sTm0 {O : Oracle} {p : Int} [IsP p] {a b : Fp p} {z : List Int} {n i : Nat} (hn : n < 64) (hi : i < a.len) (hal : a.len ≤ 64) (hbl : b.len ≤ 64) (hab : a.len + b.len ≤ 65) (hb1 : 0 < b.len) (hai : a.c i ≠ 0) {P : Fp p} {vn : V} (hvn : vn.refs = []) : ∀ (m j : Nat) (cur : List Int), j + m = b.len → cur.length = 64 → Can p cur → polOf p cur = P + Pol.mo (a.c i) i * lowP b j → ∃ cur' : List Int, cur'.length = 64 ∧ Can p cur' ∧ polOf p cur' = P + Pol.mo (a.c i) i * b ∧
 dn O 0 (.loop Z34_L0) ⟨[(0, (.d (.int .i64 p))), (4, .ptr 0 []), (5, .ptr 1 []), (6, .ptr 2 []), (8, vn), (9, (.d (.int .i64 (((b.len - 1 : Nat) : Int))))), (10, .ptr 3 []), (11, (.d (.int .i64 i))), (12, (.d (.int .i64 j)))], [.box false (D.arr 64 .leaf (ints .u8 (pad (row a)))), .box false (D.arr 64 .leaf (ints .u8 (pad (row b)))), .box false (D.arr 64 .leaf (ints .u8 z)), .box false (D.arr 64 .leaf (ints .u8 cur))]⟩ =
  some (.exit 2, ⟨[(0, (.d (.int .i64 p))), (4, .ptr 0 []), (5, .ptr 1 []), (6, .ptr 2 []), (8, vn), (9, (.d (.int .i64 (((b.len - 1 : Nat) : Int))))), (10, .ptr 3 []), (11, (.d (.int .i64 i))), (12, (.d (.int .i64 b.len))), (43, (.d (.bool false)))], [.box false (D.arr 64 .leaf (ints .u8 (pad (row a)))), .box false (D.arr 64 .leaf (ints .u8 (pad (row b)))), .box false (D.arr 64 .leaf (ints .u8 z)), .box false (D.arr 64 .leaf (ints .u8 cur'))]⟩)
 | 0, j, cur, hj, hc, hcan, he => by
  obtain rfl : j = b.len := by omega
  rw [lowP_top] at he
  have hlt : ¬ (b.len : Int) ≤ ((b.len - 1 : Nat) : Int) := by omega
  refine ⟨cur, hc, hcan, he, dn_stop ?_⟩
  generalize ((b.len - 1 : Nat) : Int) = m1 at *
  generalize pad (row a) = PA at *
  generalize pad (row b) = PB at *
  simp -implicitDefEqProofs [Z34_L0, dn_cond, hlt, hvn]
 | m + 1, j, cur, hj, hc, hcan, he => by
  have hp := IsP.pos (p := p)
  have hp7 := IsP.le (p := p)
  have hp0 : p ≠ 0 := by omega
  have hlt : (j : Int) ≤ ((b.len - 1 : Nat) : Int) := by omega
  have hi64 : i < 64 := by omega
  have hj64 : j < 64 := by omega
  have hij : i + j < 64 := by omega
  have hs0 : (0 : Int) ≤ (i : Int) + j := by omega
  have hs1 : ((i : Int) + j).toNat = i + j := by omega
  have hx : (pad (row a))[i]? = some (rep (a.c i)) := by rw [pad_get _ _ hi64, row_cf]
  have hy : (pad (row b))[j]? = some (rep (b.c j)) := by rw [pad_get _ _ hj64, row_cf]
  have hx0 : rep (a.c i) ≠ 0 := fun h => hai (rep_eq_zero.1 h)
  have hr1 := rep_in (a.c i)
  have hr2 := rep_in (b.c j)
  have hkc : i + j < cur.length := by omega
  have hw : cur[i + j] = cf cur (i + j) := (cf_lt hkc).symm
  have gc := hcan.le hp (i + j)
  have gm := mul_small (x := rep (a.c i)) (y := rep (b.c j)) (b := 10) (c := 10) (by omega) (by omega) (by omega)
  have gm0 := Int.mul_nonneg hr1.1 hr2.1
  have w0 : IntKind.i64.wrap ((i : Int) + j) = ((i + j : Nat) : Int) := (w64 (x := (i : Int) + j) (by omega)).trans (by omega)
  have w1 : IntKind.i64.wrap (rep (a.c i)) = rep (a.c i) := w64 (by omega)
  have w2 : IntKind.i64.wrap (rep (b.c j)) = rep (b.c j) := w64 (by omega)
  have w3 : IntKind.i64.wrap (cf cur (i + j)) = cf cur (i + j) := w64 (by omega)
  have w4 : IntKind.i64.wrap (rep (a.c i) * rep (b.c j)) = rep (a.c i) * rep (b.c j) := w64 (by omega)
  have w5 : IntKind.i64.wrap (cf cur (i + j) + rep (a.c i) * rep (b.c j)) = cf cur (i + j) + rep (a.c i) * rep (b.c j) := w64 (by omega)
  have w6 : (cf cur (i + j) + rep (a.c i) * rep (b.c j)).tmod p = (cf cur (i + j) + rep (a.c i) * rep (b.c j)) % p := Int.tmod_eq_emod_of_nonneg (by omega)
  have hin := Int.emod_nonneg (cf cur (i + j) + rep (a.c i) * rep (b.c j)) hp0
  have hin2 := Int.emod_lt_of_pos (cf cur (i + j) + rep (a.c i) * rep (b.c j)) hp
  have w7 : IntKind.u8.wrap ((cf cur (i + j) + rep (a.c i) * rep (b.c j)) % p) = (cf cur (i + j) + rep (a.c i) * rep (b.c j)) % p := w8 (by omega)
  have w8' : IntKind.i64.wrap ((j : Int) + 1) = ((j + 1 : Nat) : Int) := (w64 (x := (j : Int) + 1) (by omega)).trans (by omega)
  have hnew : polOf p (cur.set (i + j) ((cf cur (i + j) + rep (a.c i) * rep (b.c j)) % p)) = P + Pol.mo (a.c i) i * lowP b (j + 1) := by
   rw [polOf_add_set hkc, he, zp_mul, zp_rep, zp_rep, lowP_succ, Gq.mul_add, mo_mo, Gq.add_assoc]
  have hcan' : Can p (cur.set (i + j) ((cf cur (i + j) + rep (a.c i) * rep (b.c j)) % p)) := fun x hx => by
   rcases List.mem_or_eq_of_mem_set hx with h | rfl
   ·exact hcan x h
   ·exact ⟨hin, hin2⟩
  obtain ⟨cur', g1, g2, g3, g4⟩ := l_sTm0 (O := O) (z := z) hn hi hal hbl hab hb1 hai hvn m (j + 1) (cur.set (i + j) ((cf cur (i + j) + rep (a.c i) * rep (b.c j)) % p)) (by omega) (by rw [List.length_set]; exact hc) hcan' hnew
  have hs : ints .u8 (cur.set (i + j) ((cf cur (i + j) + rep (a.c i) * rep (b.c j)) % p)) = (ints .u8 cur).set (i + j) (D.int .u8 ((cf cur (i + j) + rep (a.c i) * rep (b.c j)) % p)) := by unfold ints; rw [List.map_set]
  rw [hs] at g4
  refine ⟨cur', g1, g2, g3, dn_round ?_ g4⟩
  generalize (cf cur (i + j) + rep (a.c i) * rep (b.c j)) % p = W at *
  generalize ((b.len - 1 : Nat) : Int) = m1 at *
  generalize pad (row a) = PA at *
  generalize pad (row b) = PB at *
  simp -implicitDefEqProofs [Z34_L0, dn_cond, hlt, hi64, hj64, hij, hs0, hs1, hx, hy, hx0, hc, hw, w0, w1, w2, w3, w4, w5, w6, w7, w8', hp0, hvn]
theorem l_sTm1 {O : Oracle} {p : Int} [IsP p] {a b : Fp p} {z : List Int} (hal : a.len ≤ 64) (hbl : b.len ≤ 64) (hab : a.len + b.len ≤ 65) (ha1 : 0 < a.len) (hb1 : 0 < b.len) : ∀ (m i : Nat) (cur : List Int), i + m = a.len → cur.length = 64 → Can p cur → polOf p cur = lowP a i * b → ∃ cur' : List Int, cur'.length = 64 ∧ Can p cur' ∧ polOf p cur' = a * b ∧
 dn O 0 (.loop Z34_L1) ⟨[(0, (.d (.int .i64 p))), (4, .ptr 0 []), (5, .ptr 1 []), (6, .ptr 2 []), (8, (.d (.int .i64 (((a.len - 1 : Nat) : Int))))), (9, (.d (.int .i64 (((b.len - 1 : Nat) : Int))))), (10, .ptr 3 []), (11, (.d (.int .i64 i)))], [.box false (D.arr 64 .leaf (ints .u8 (pad (row a)))), .box false (D.arr 64 .leaf (ints .u8 (pad (row b)))), .box false (D.arr 64 .leaf (ints .u8 z)), .box false (D.arr 64 .leaf (ints .u8 cur))]⟩ =
  some (.exit 0, ⟨[(0, (.d (.int .i64 p))), (4, .ptr 0 []), (5, .ptr 1 []), (6, .ptr 2 []), (8, (.d (.int .i64 (((a.len - 1 : Nat) : Int))))), (9, (.d (.int .i64 (((b.len - 1 : Nat) : Int))))), (10, .ptr 3 []), (11, (.d (.int .i64 a.len))), (32, (.d (.bool false)))], [.box false (D.arr 64 .leaf (ints .u8 (pad (row a)))), .box false (D.arr 64 .leaf (ints .u8 (pad (row b)))), .box false (D.arr 64 .leaf (ints .u8 z)), .box false (D.arr 64 .leaf (ints .u8 cur'))]⟩)
 | 0, i, cur, hi, hc, hcan, he => by
  obtain rfl : i = a.len := by omega
  rw [lowP_top] at he
  have hlt : ¬ (a.len : Int) ≤ ((a.len - 1 : Nat) : Int) := by omega
  refine ⟨cur, hc, hcan, he, dn_stop ?_⟩
  generalize ((b.len - 1 : Nat) : Int) = m1 at *
  generalize ((a.len - 1 : Nat) : Int) = n1 at *
  generalize pad (row a) = PA at *
  generalize pad (row b) = PB at *
  simp -implicitDefEqProofs [Z34_L1, dn_cond, hlt]
 | m + 1, i, cur, hi, hc, hcan, he => by
  have hlt : (i : Int) ≤ ((a.len - 1 : Nat) : Int) := by omega
  have hi64 : i < 64 := by omega
  have w8' : IntKind.i64.wrap ((i : Int) + 1) = ((i + 1 : Nat) : Int) := (w64 (x := (i : Int) + 1) (by omega)).trans (by omega)
  have hx : (pad (row a))[i]? = some (rep (a.c i)) := by rw [pad_get _ _ hi64, row_cf]
  by_cases hai : a.c i = 0
  ·have hr : rep (a.c i) = 0 := rep_eq_zero.2 hai
   have he' : polOf p cur = lowP a (i + 1) * b := by rw [lowP_succ, hai, mo_zero, Gq.add_zero]; exact he
   obtain ⟨cur', g1, g2, g3, g4⟩ := l_sTm1 (O := O) (z := z) hal hbl hab ha1 hb1 m (i + 1) cur (by omega) hc hcan he'
   rw [hr] at hx
   have hin : dn O 0 (.loop Z34_L0) ⟨[(0, (.d (.int .i64 p))), (4, .ptr 0 []), (5, .ptr 1 []), (6, .ptr 2 []), (8, (.d (.int .i64 (((a.len - 1 : Nat) : Int))))), (9, (.d (.int .i64 (((b.len - 1 : Nat) : Int))))), (10, .ptr 3 []), (11, (.d (.int .i64 i))), (12, (.d (.int .i64 0)))], [.box false (D.arr 64 .leaf (ints .u8 (pad (row a)))), .box false (D.arr 64 .leaf (ints .u8 (pad (row b)))), .box false (D.arr 64 .leaf (ints .u8 z)), .box false (D.arr 64 .leaf (ints .u8 cur))]⟩ =
    some (.exit 2, ⟨[(0, (.d (.int .i64 p))), (4, .ptr 0 []), (5, .ptr 1 []), (6, .ptr 2 []), (8, (.d (.int .i64 (((a.len - 1 : Nat) : Int))))), (9, (.d (.int .i64 (((b.len - 1 : Nat) : Int))))), (10, .ptr 3 []), (11, (.d (.int .i64 i))), (12, (.d (.int .i64 0))), (43, (.d (.bool false)))], [.box false (D.arr 64 .leaf (ints .u8 (pad (row a)))), .box false (D.arr 64 .leaf (ints .u8 (pad (row b)))), .box false (D.arr 64 .leaf (ints .u8 z)), .box false (D.arr 64 .leaf (ints .u8 cur))]⟩) := by
    refine dn_stop ?_
    generalize b.len - 1 = m1 at *
    generalize ((a.len - 1 : Nat) : Int) = n1 at *
    generalize pad (row a) = PA at *
    generalize pad (row b) = PB at *
    simp -implicitDefEqProofs [Z34_L0, dn_cond, hi64, hx]
   refine ⟨cur', g1, g2, g3, dn_round ?_ g4⟩
   generalize ((b.len - 1 : Nat) : Int) = m1 at *
   generalize ((a.len - 1 : Nat) : Int) = n1 at *
   generalize pad (row a) = PA at *
   generalize pad (row b) = PB at *
   simp -implicitDefEqProofs [Z34_L1, dn_cond, hlt, hin, w8']
  ·obtain ⟨cur1, k1, k2, k3, k4⟩ := l_sTm0 (O := O) (z := z) (n := 0) (i := i) (by omega) (by omega) hal hbl hab hb1 hai (P := lowP a i * b) (vn := (.d (.int .i64 (((a.len - 1 : Nat) : Int))))) rfl b.len 0 cur (Nat.zero_add _) hc hcan (by rw [lowP_zero, Gq.mul_zero, Gq.add_zero]; exact he)
   have e00 : ((0 : Nat) : Int) = 0 := rfl
   rw [e00] at k4
   have he' : polOf p cur1 = lowP a (i + 1) * b := by
    rw [k3, lowP_succ]
    exact ring_of [lowP a i, b, Pol.mo (a.c i) i] rfl
   obtain ⟨cur', g1, g2, g3, g4⟩ := l_sTm1 (O := O) (z := z) hal hbl hab ha1 hb1 m (i + 1) cur1 (by omega) k1 k2 he'
   refine ⟨cur', g1, g2, g3, dn_round ?_ g4⟩
   generalize ((b.len - 1 : Nat) : Int) = m1 at *
   generalize ((a.len - 1 : Nat) : Int) = n1 at *
   generalize pad (row a) = PA at *
   generalize pad (row b) = PB at *
   simp -implicitDefEqProofs [Z34_L1, dn_cond, hlt, k4, w8']
def K_sTimes (O : Oracle) : Prop := ∀ (p : Int) [IsP p] (a b : Fp p), a.len ≤ 64 → b.len ≤ 64 → (a * b).len ≤ 64 →
 ask O F34 [(D.int .i64 p), (D.arr 64 .leaf (ints .u8 (pad (row a)))), (D.arr 64 .leaf (ints .u8 (pad (row b))))] = some (.tup [(D.arr 64 .leaf (ints .u8 (pad (row (a * b))))), (D.bool true)])
theorem k_sTimes (hT : T F34 = some Z34) (hd : K_sDeg (den T A)) : K_sTimes (den T A) := by
 intro p i a b hal hbl hab
 have e1 := hd p a hal
 have e2 := hd p b hbl
 refine ask_of hT rfl ?_
 by_cases ha : a = 0
 ·subst ha
  rw [Gq.zero_mul, row_zero]
  rw [Pol.len_zero, row_zero] at e1
  generalize pad (row b) = PB at *
  simp -implicitDefEqProofs [Z34, Z34_B, dn_cond, e1, e2, List.replicate]
 ·have ha1 := Pol.len_pos ha
  by_cases hb : b = 0
  ·subst hb
   rw [Gq.mul_zero, row_zero]
   rw [Pol.len_zero, row_zero] at e2
   have ha2 : ¬ ((a.len : Int) - 1 < 0) := by omega
   generalize pad (row a) = PA at *
   simp -implicitDefEqProofs [Z34, Z34_B, dn_cond, e1, e2, ha2, List.replicate]
  ·have hb1 := Pol.len_pos hb
   have hm := Pol.len_mul ha hb
   rw [show ((a.len : Int) - 1) = ((a.len - 1 : Nat) : Int) by omega] at e1
   rw [show ((b.len : Int) - 1) = ((b.len - 1 : Nat) : Int) by omega] at e2
   have w1 : IntKind.i64.wrap (((a.len - 1 : Nat) : Int) + ((b.len - 1 : Nat) : Int)) = ((a.len - 1 + (b.len - 1) : Nat) : Int) := (w64 (by omega)).trans (by omega)
   have w2 : ¬ ((63 : Int) < ((a.len - 1 + (b.len - 1) : Nat) : Int)) := by omega
   obtain ⟨cur', g1, g2, g3, g4⟩ := l_sTm1 (O := den T A) (z := pad []) hal hbl (by omega) ha1 hb1 a.len 0 (pad []) (Nat.zero_add _) (pad_length _) (by
    have := pad_can (0 : Fp p); rwa [row_zero] at this) (by
    rw [lowP_zero, Gq.zero_mul]
    have := polOf_pad (p := p) (a := 0) (by rw [Pol.len_zero]; omega)
    rwa [row_zero] at this)
   have e00 : ((0 : Nat) : Int) = 0 := rfl
   rw [e00] at g4
   have hcur : cur' = pad (row (a * b)) := by rw [pad_of g2 g1, g3]
   rw [hcur] at g4
   have n1 : ¬ (((a.len - 1 : Nat) : Int) < 0) := by omega
   have n2 : ¬ (((b.len - 1 : Nat) : Int) < 0) := by omega
   generalize ((a.len - 1 + (b.len - 1) : Nat) : Int) = s1 at *
   generalize ((b.len - 1 : Nat) : Int) = m1 at *
   generalize ((a.len - 1 : Nat) : Int) = k1 at *
   generalize pad (row (a * b)) = PR at *
   generalize pad (row a) = PA at *
   generalize pad (row b) = PB at *
   simp -implicitDefEqProofs [Z34, Z34_B, dn_cond, e1, e2, w1, w2, n1, n2, g4, List.replicate]
structure BzS {p : Int} [IsP p] (A B a b u x v y : Fp p) : Prop where
 i : Pol.BzI A B a b u x v y
 la : a.len ≤ 64
 lb : b.len ≤ 64
 lu : u.len ≤ 64
 lv : v.len ≤ 64
 ne : a ≠ 0
theorem BzS.step {p : Int} [IsP p] {A B a b u x v y : Fp p} (h : BzS A B a b u x v y) (hA : A.len ≤ 64) (hB : B.len ≤ 64) (hb : b ≠ 0) :
 BzS A B b (a % b) x (u - a / b * x) y (v - a / b * y) ∧ x.len ≤ 64 ∧ y.len ≤ 64 ∧ (a / b).len ≤ 64 ∧ (a / b * x).len ≤ 64 ∧ (a / b * y).len ≤ 64 ∧ (a % b).len ≤ 64 := by
 have h1 := h.i.lx
 have h2 := h.i.ly
 have h3 := Pol.len_pos h.ne
 have h4 := Pol.len_pos hb
 have h5 := Pol.len_div_le a hb
 have h6 := Pol.len_mod_le a hb
 obtain ⟨h7, h8⟩ := h.i.qlen hb
 have h9 := h.la
 have hx : x.len ≤ 64 := by omega
 have hy : y.len ≤ 64 := by omega
 exact ⟨⟨h.i.step hb, h.lb, by omega, hx, hy, hb⟩, hx, hy, by omega, by omega, by omega, by omega⟩
theorem r_sBez {O : Oracle} (hdg : K_sDeg O) (hd : K_sDivide O) (ht : K_sTimes O) (ha : K_sAdd O) {p : Int} [IsP p] {z : List Int} {a b u x v y : Fp p} (h0 : b ≠ 0) (ha' : a.len ≤ 64) (hb : b.len ≤ 64) (hu : u.len ≤ 64) (hv : v.len ≤ 64) (s1 : x.len ≤ 64) (s2 : y.len ≤ 64) (s3 : (a / b).len ≤ 64) (s4 : (a / b * x).len ≤ 64) (s5 : (a / b * y).len ≤ 64) :
 dn O 0 Z2g_L0 ⟨[(0, (.d (.int .i64 p))), (4, .ptr 0 []), (5, .ptr 1 []), (6, .ptr 2 []), (7, .ptr 3 []), (8, .ptr 4 []), (9, .ptr 5 []), (10, .ptr 6 []), (11, .ptr 7 []), (12, .ptr 8 [])], [.box false (D.arr 64 .leaf (ints .u8 (pad (row a)))), .box false (D.arr 64 .leaf (ints .u8 (pad (row b)))), .box false (D.arr 64 .leaf (ints .u8 z)), .box false (D.arr 64 .leaf (ints .u8 z)), .box false (D.arr 64 .leaf (ints .u8 z)), .box false (D.arr 64 .leaf (ints .u8 (pad (row u)))), .box false (D.arr 64 .leaf (ints .u8 (pad (row x)))), .box false (D.arr 64 .leaf (ints .u8 (pad (row v)))), .box false (D.arr 64 .leaf (ints .u8 (pad (row y)))), .hole, .hole, .hole, .hole, .hole, .hole]⟩ =
  some (.normal, ⟨[(0, (.d (.int .i64 p))), (4, .ptr 0 []), (5, .ptr 1 []), (6, .ptr 2 []), (7, .ptr 3 []), (8, .ptr 4 []), (9, .ptr 5 []), (10, .ptr 6 []), (11, .ptr 7 []), (12, .ptr 8 [])], [.box false (D.arr 64 .leaf (ints .u8 (pad (row b)))), .box false (D.arr 64 .leaf (ints .u8 (pad (row (a % b))))), .box false (D.arr 64 .leaf (ints .u8 z)), .box false (D.arr 64 .leaf (ints .u8 z)), .box false (D.arr 64 .leaf (ints .u8 z)), .box false (D.arr 64 .leaf (ints .u8 (pad (row x)))), .box false (D.arr 64 .leaf (ints .u8 (pad (row (u - a / b * x))))), .box false (D.arr 64 .leaf (ints .u8 (pad (row y)))), .box false (D.arr 64 .leaf (ints .u8 (pad (row (v - a / b * y))))), .hole, .hole, .hole, .hole, .hole, .hole]⟩) := by
 have hp := Pol.len_pos h0
 have e0 := hdg p b hb
 have e1 := hd p a b h0 ha' hb
 have e2 := ht p (a / b) x s3 s1 s4
 have e3 := ha p (-1) u (a / b * x) (by omega) (by omega) hu s4
 have e4 := ht p (a / b) y s3 s2 s5
 have e5 := ha p (-1) v (a / b * y) (by omega) (by omega) hv s5
 rw [sub_comb] at e3 e5
 have hge : ¬ ((b.len : Int) - 1 < 0) := by omega
 have hge2 : (0 : Int) ≤ (b.len : Int) - 1 := by omega
 have hge3 : (1 : Int) ≤ (b.len : Int) := by omega
 generalize pad (row (u - a / b * x)) = Pux at *
 generalize pad (row (v - a / b * y)) = Pvy at *
 generalize pad (row (a / b * x)) = Pqx at *
 generalize pad (row (a / b * y)) = Pqy at *
 generalize pad (row (a / b)) = Pq at *
 generalize pad (row (a % b)) = Pr at *
 generalize pad (row a) = Pa at *
 generalize pad (row b) = Pb at *
 generalize pad (row u) = Pu at *
 generalize pad (row x) = Px at *
 generalize pad (row v) = Pv at *
 generalize pad (row y) = Py at *
 simp -implicitDefEqProofs [Z2g_L0, dn_cond, hge3, e0, e1, e2, e3, e4, e5]
theorem l_sBez {O : Oracle} (hdg : K_sDeg O) (hd : K_sDivide O) (ht : K_sTimes O) (ha : K_sAdd O) {p : Int} [IsP p] {A B : Fp p} {z : List Int} (hA : A.len ≤ 64) (hB : B.len ≤ 64) : ∀ (n : Nat) (a b u x v y : Fp p), b.len ≤ n → BzS A B a b u x v y → ∃ x' y' : List Int, (Pol.bz n a b u x v y).1 ≠ 0 ∧ (Pol.bz n a b u x v y).1.len ≤ 64 ∧ (Pol.bz n a b u x v y).2.1.len ≤ 64 ∧ (Pol.bz n a b u x v y).2.2.len ≤ 64 ∧
 dn O 0 (.loop Z2g_L0) ⟨[(0, (.d (.int .i64 p))), (4, .ptr 0 []), (5, .ptr 1 []), (6, .ptr 2 []), (7, .ptr 3 []), (8, .ptr 4 []), (9, .ptr 5 []), (10, .ptr 6 []), (11, .ptr 7 []), (12, .ptr 8 [])], [.box false (D.arr 64 .leaf (ints .u8 (pad (row a)))), .box false (D.arr 64 .leaf (ints .u8 (pad (row b)))), .box false (D.arr 64 .leaf (ints .u8 z)), .box false (D.arr 64 .leaf (ints .u8 z)), .box false (D.arr 64 .leaf (ints .u8 z)), .box false (D.arr 64 .leaf (ints .u8 (pad (row u)))), .box false (D.arr 64 .leaf (ints .u8 (pad (row x)))), .box false (D.arr 64 .leaf (ints .u8 (pad (row v)))), .box false (D.arr 64 .leaf (ints .u8 (pad (row y)))), .hole, .hole, .hole, .hole, .hole, .hole]⟩ =
  some (.exit 0, ⟨[(0, (.d (.int .i64 p))), (4, .ptr 0 []), (5, .ptr 1 []), (6, .ptr 2 []), (7, .ptr 3 []), (8, .ptr 4 []), (9, .ptr 5 []), (10, .ptr 6 []), (11, .ptr 7 []), (12, .ptr 8 []), (28, (.d (.bool false)))], [.box false (D.arr 64 .leaf (ints .u8 (pad (row (Pol.bz n a b u x v y).1)))), .box false (D.arr 64 .leaf (ints .u8 (pad []))), .box false (D.arr 64 .leaf (ints .u8 z)), .box false (D.arr 64 .leaf (ints .u8 z)), .box false (D.arr 64 .leaf (ints .u8 z)), .box false (D.arr 64 .leaf (ints .u8 (pad (row (Pol.bz n a b u x v y).2.1)))), .box false (D.arr 64 .leaf (ints .u8 x')), .box false (D.arr 64 .leaf (ints .u8 (pad (row (Pol.bz n a b u x v y).2.2)))), .box false (D.arr 64 .leaf (ints .u8 y')), .hole, .hole, .hole, .hole, .hole, .hole]⟩) := by
 intro n
 have stop : ∀ (a u x v y : Fp p), dn O 0 (.loop Z2g_L0) ⟨[(0, (.d (.int .i64 p))), (4, .ptr 0 []), (5, .ptr 1 []), (6, .ptr 2 []), (7, .ptr 3 []), (8, .ptr 4 []), (9, .ptr 5 []), (10, .ptr 6 []), (11, .ptr 7 []), (12, .ptr 8 [])], [.box false (D.arr 64 .leaf (ints .u8 (pad (row a)))), .box false (D.arr 64 .leaf (ints .u8 (pad (row (0 : Fp p))))), .box false (D.arr 64 .leaf (ints .u8 z)), .box false (D.arr 64 .leaf (ints .u8 z)), .box false (D.arr 64 .leaf (ints .u8 z)), .box false (D.arr 64 .leaf (ints .u8 (pad (row u)))), .box false (D.arr 64 .leaf (ints .u8 (pad (row x)))), .box false (D.arr 64 .leaf (ints .u8 (pad (row v)))), .box false (D.arr 64 .leaf (ints .u8 (pad (row y)))), .hole, .hole, .hole, .hole, .hole, .hole]⟩ =
  some (.exit 0, ⟨[(0, (.d (.int .i64 p))), (4, .ptr 0 []), (5, .ptr 1 []), (6, .ptr 2 []), (7, .ptr 3 []), (8, .ptr 4 []), (9, .ptr 5 []), (10, .ptr 6 []), (11, .ptr 7 []), (12, .ptr 8 []), (28, (.d (.bool false)))], [.box false (D.arr 64 .leaf (ints .u8 (pad (row a)))), .box false (D.arr 64 .leaf (ints .u8 (pad []))), .box false (D.arr 64 .leaf (ints .u8 z)), .box false (D.arr 64 .leaf (ints .u8 z)), .box false (D.arr 64 .leaf (ints .u8 z)), .box false (D.arr 64 .leaf (ints .u8 (pad (row u)))), .box false (D.arr 64 .leaf (ints .u8 (pad (row x)))), .box false (D.arr 64 .leaf (ints .u8 (pad (row v)))), .box false (D.arr 64 .leaf (ints .u8 (pad (row y)))), .hole, .hole, .hole, .hole, .hole, .hole]⟩) := by
  intro a u x v y
  have e := hdg p 0 (by rw [Pol.len_zero]; omega)
  rw [row_zero, Pol.len_zero] at e
  rw [row_zero]
  refine dn_stop ?_
  generalize pad (row a) = Pa
  generalize pad (row u) = Pu
  generalize pad (row x) = Px
  generalize pad (row v) = Pv
  generalize pad (row y) = Py
  simp -implicitDefEqProofs [Z2g_L0, dn_cond, e]
 induction n with
 | zero =>
  intro a b u x v y hn hs
  obtain rfl := Pol.len_zero_iff.1 (show b.len = 0 by omega)
  exact ⟨_, _, hs.ne, hs.la, hs.lu, hs.lv, stop a u x v y⟩
 | succ n ih =>
  intro a b u x v y hn hs
  unfold Pol.bz
  by_cases h0 : b = 0
  ·subst h0
   rw [if_pos rfl]
   exact ⟨_, _, hs.ne, hs.la, hs.lu, hs.lv, stop a u x v y⟩
  ·rw [if_neg h0]
   obtain ⟨s0, s1, s2, s3, s4, s5, s6⟩ := hs.step hA hB h0
   have hl := Pol.len_mod a h0
   have hp := Pol.len_pos h0
   obtain ⟨x', y', g1, g2, g3, g4, e⟩ := ih b (a % b) x (u - a / b * x) y (v - a / b * y) (by omega) s0
   exact ⟨x', y', g1, g2, g3, g4, dn_round (r_sBez hdg hd ht ha h0 hs.la hs.lb hs.lu hs.lv s1 s2 s3 s4 s5) e⟩
theorem l_sBezI {O : Oracle} (hdg : K_sDeg O) (hd : K_sDivide O) (ht : K_sTimes O) (ha : K_sAdd O) {p : Int} [IsP p] {a b : Fp p} {z : List Int} (h : a ≠ 0 ∨ b ≠ 0) (hal : a.len ≤ 64) (hbl : b.len ≤ 64) : ∃ x' y' : List Int, (Pol.bz b.len a b 1 0 0 1).1 ≠ 0 ∧ (Pol.bz b.len a b 1 0 0 1).1.len ≤ 64 ∧ (Pol.bz b.len a b 1 0 0 1).2.1.len ≤ 64 ∧ (Pol.bz b.len a b 1 0 0 1).2.2.len ≤ 64 ∧
 dn O 0 (.loop Z2g_L0) ⟨[(0, (.d (.int .i64 p))), (4, .ptr 0 []), (5, .ptr 1 []), (6, .ptr 2 []), (7, .ptr 3 []), (8, .ptr 4 []), (9, .ptr 5 []), (10, .ptr 6 []), (11, .ptr 7 []), (12, .ptr 8 [])], [.box false (D.arr 64 .leaf (ints .u8 (pad (row a)))), .box false (D.arr 64 .leaf (ints .u8 (pad (row b)))), .box false (D.arr 64 .leaf (ints .u8 z)), .box false (D.arr 64 .leaf (ints .u8 z)), .box false (D.arr 64 .leaf (ints .u8 z)), .box false (D.arr 64 .leaf (ints .u8 (pad (row (1 : Fp p))))), .box false (D.arr 64 .leaf (ints .u8 (pad (row (0 : Fp p))))), .box false (D.arr 64 .leaf (ints .u8 (pad (row (0 : Fp p))))), .box false (D.arr 64 .leaf (ints .u8 (pad (row (1 : Fp p))))), .hole, .hole, .hole, .hole, .hole, .hole]⟩ =
  some (.exit 0, ⟨[(0, (.d (.int .i64 p))), (4, .ptr 0 []), (5, .ptr 1 []), (6, .ptr 2 []), (7, .ptr 3 []), (8, .ptr 4 []), (9, .ptr 5 []), (10, .ptr 6 []), (11, .ptr 7 []), (12, .ptr 8 []), (28, (.d (.bool false)))], [.box false (D.arr 64 .leaf (ints .u8 (pad (row (Pol.bz b.len a b 1 0 0 1).1)))), .box false (D.arr 64 .leaf (ints .u8 (pad []))), .box false (D.arr 64 .leaf (ints .u8 z)), .box false (D.arr 64 .leaf (ints .u8 z)), .box false (D.arr 64 .leaf (ints .u8 z)), .box false (D.arr 64 .leaf (ints .u8 (pad (row (Pol.bz b.len a b 1 0 0 1).2.1)))), .box false (D.arr 64 .leaf (ints .u8 x')), .box false (D.arr 64 .leaf (ints .u8 (pad (row (Pol.bz b.len a b 1 0 0 1).2.2)))), .box false (D.arr 64 .leaf (ints .u8 y')), .hole, .hole, .hole, .hole, .hole, .hole]⟩) := by
 by_cases h0 : a = 0
 ·subst h0
  have hb := h.resolve_left (fun h => h rfl)
  have hp := Pol.len_pos hb
  obtain ⟨k, hk⟩ : ∃ k, b.len = k + 1 := ⟨b.len - 1, by omega⟩
  have h1 : (1 : Fp p).len = 1 := Pol.len_one
  have hz : (0 : Fp p).len = 0 := Pol.len_zero
  have hq : (0 : Fp p) / b = 0 := (Pol.div_mod_eq (a := (0 : Fp p)) (b := b) (q := 0) (r := 0) (by rw [Gq.zero_mul, Gq.zero_add]) (by omega)).1
  have hs0 : ∀ c : Fp p, c - 0 = c := fun c => by rw [Gq.sub_eq, Gq.neg_zero, Gq.add_zero]
  have hr : (0 : Fp p) % b = 0 := Pol.zero_mod hb
  have e := r_sBez (z := z) hdg hd ht ha (a := 0) (b := b) (u := 1) (x := 0) (v := 0) (y := 1) hb (by omega) hbl (by omega) (by omega) (by omega) (by omega) (by rw [hq]; omega) (by rw [hq, Gq.zero_mul]; omega) (by rw [hq, Gq.zero_mul]; omega)
  rw [hk]
  unfold Pol.bz
  rw [if_neg hb]
  rw [hq, hr, Gq.zero_mul, Gq.zero_mul, hs0, hs0] at e ⊢
  have hi : Pol.BzI (0 : Fp p) b b 0 0 1 1 0 := ⟨by rw [Gq.zero_mul, Gq.zero_add, Gq.one_mul], by rw [Gq.mul_zero, Gq.zero_mul, Gq.add_zero], .inr (by omega), .inl hz, .inl hz, .inr (by omega), .inl hb⟩
  obtain ⟨x', y', g1, g2, g3, g4, e2⟩ := l_sBez (O := O) (z := z) hdg hd ht ha (A := 0) (B := b) (by omega) hbl k b 0 0 1 1 0 (by omega) ⟨hi, hbl, by omega, by omega, by omega, hb⟩
  exact ⟨x', y', g1, g2, g3, g4, dn_round e e2⟩
 ·exact l_sBez (O := O) (z := z) hdg hd ht ha hal hbl b.len a b 1 0 0 1 (Nat.le_refl _) ⟨Pol.BzI.init (.inl h0), hal, hbl, by rw [Pol.len_one]; omega, by rw [Pol.len_zero]; omega, h0⟩
def K_sBezout (O : Oracle) : Prop := ∀ (p : Int) [IsP p] (a b : Fp p), a ≠ 0 ∨ b ≠ 0 → a.len ≤ 64 → b.len ≤ 64 →
 ask O F2g [(D.int .i64 p), (D.arr 64 .leaf (ints .u8 (pad (row a)))), (D.arr 64 .leaf (ints .u8 (pad (row b))))] = some (.tup [(D.arr 64 .leaf (ints .u8 (pad (row (Pol.bezout a b).1)))), (D.arr 64 .leaf (ints .u8 (pad (row (Pol.bezout a b).2.1)))), (D.arr 64 .leaf (ints .u8 (pad (row (Pol.bezout a b).2.2))))])
theorem k_sBezout (hT : T F2g = some Z2g) (h1 : K_sOne (den T A)) (hdg : K_sDeg (den T A)) (hd : K_sDivide (den T A)) (ht : K_sTimes (den T A)) (ha : K_sAdd (den T A)) (hinv : K_sInverse (den T A)) : K_sBezout (den T A) := by
 intro p i a b h0 hal hbl
 have hp := IsP.ge (p := p)
 have hp7 := IsP.le (p := p)
 have e1 := h1 p
 obtain ⟨x', y', g1, g2, g3, g4, e2⟩ := l_sBezI (O := den T A) (z := pad []) hdg hd ht ha h0 hal hbl
 unfold Pol.bezout
 have heu : Pol.eu a b = Pol.bz b.len a b 1 0 0 1 := rfl
 rw [heu]
 generalize Pol.bz b.len a b 1 0 0 1 = R at *
 obtain ⟨d, u, v⟩ := R
 simp only at g1 g2 g3 g4 e2 ⊢
 rw [row_zero] at e2
 have hd1 := Pol.len_pos g1
 have e3 := hdg p d g2
 rw [show ((d.len : Int) - 1) = ((d.len - 1 : Nat) : Int) by omega] at e3
 have hi64 : d.len - 1 < 64 := by omega
 have hx : (pad (row d))[d.len - 1]? = some (rep d.ld) := by rw [pad_get _ _ hi64, row_cf]; rfl
 have hr := rep_in d.ld
 have hr0 : rep d.ld ≠ 0 := fun h => Pol.ld_ne g1 (rep_eq_zero.1 h)
 have hin := inv_in p (rep d.ld)
 have e4 := hinv p (rep d.ld) (by omega) hr.2
 have w1 : IntKind.i64.wrap (inv p (rep d.ld)) = inv p (rep d.ld) := w64 (by omega)
 have z0 : (0 : Fp p).len ≤ 64 := by rw [Pol.len_zero]; omega
 have e5 := ha p (inv p (rep d.ld)) 0 d (by omega) (by omega) z0 g2
 have e6 := ha p (inv p (rep d.ld)) 0 u (by omega) (by omega) z0 g3
 have e7 := ha p (inv p (rep d.ld)) 0 v (by omega) (by omega) z0 g4
 rw [finv_rep _ (Pol.ld_ne g1), Gq.zero_add, row_zero] at e5 e6 e7
 refine ask_of hT rfl ?_
 generalize pad (row (Pol.C (Fd.inv d.ld) * d)) = P1 at *
 generalize pad (row (Pol.C (Fd.inv d.ld) * u)) = P2 at *
 generalize pad (row (Pol.C (Fd.inv d.ld) * v)) = P3 at *
 generalize pad (row d) = Pd at *
 generalize pad (row u) = Pu at *
 generalize pad (row v) = Pv at *
 generalize pad (row a) = Pa at *
 generalize pad (row b) = Pb at *
 generalize pad (row (1 : Fp p)) = P0 at *
 generalize d.len - 1 = n1 at *
 simp -implicitDefEqProofs [Z2g, Z2g_B, e1, e2, e3, e4, e5, e6, e7, hi64, hx, w1, List.replicate]
def K_sGcd (O : Oracle) : Prop := ∀ (p : Int) [IsP p] (a b : Fp p), a ≠ 0 → a.len ≤ 64 → b.len ≤ 64 →
 ask O F2p [(D.int .i64 p), (D.arr 64 .leaf (ints .u8 (pad (row a)))), (D.arr 64 .leaf (ints .u8 (pad (row b))))] = some (D.arr 64 .leaf (ints .u8 (pad (row (Pol.gcd a b)))))
theorem k_sGcd (hT : T F2p = some Z2p) (hdg : K_sDeg (den T A)) (hb : K_sBezout (den T A)) : K_sGcd (den T A) := by
 intro p i a b h0 hal hbl
 have e1 := hdg p a hal
 have e2 := hb p a b (.inl h0) hal hbl
 have hp := Pol.len_pos h0
 have hge : ¬ ((a.len : Int) - 1 < 0) := by omega
 refine ask_of hT rfl ?_
 unfold Pol.gcd
 generalize pad (row (Pol.bezout a b).1) = P1 at *
 generalize pad (row (Pol.bezout a b).2.1) = P2 at *
 generalize pad (row (Pol.bezout a b).2.2) = P3 at *
 generalize pad (row a) = Pa at *
 generalize pad (row b) = Pb at *
 generalize (a.len : Int) - 1 = n1 at *
 simp -implicitDefEqProofs [Z2p, Z2p_B, dn_cond, e1, e2, hge, List.replicate]
def K_sT (O : Oracle) : Prop := ∀ (p : Int) [IsP p], ask O F33 [] = some (D.arr 64 .leaf (ints .u8 (pad (row (Pol.X : Fp p)))))
theorem k_sT (hT : T F33 = some Z33) : K_sT (den T A) := by
 intro p i
 have e : ((pad []).set 0 0).set 1 1 = pad [0, 1] := by decide +kernel
 have h0 : (pad [])[0]? = some 0 := by decide +kernel
 have h1 : (pad [])[1]? = some 0 := by decide +kernel
 rw [row_X]
 refine ask_of hT rfl ?_
 simp -implicitDefEqProofs [Z33, Z33_B, e, h0, h1]
open Classical in
theorem l_sIrr {O : Oracle} (hdg : K_sDeg O) (hpw : K_sPowMod O) (hg : K_sGcd O) (ha : K_sAdd O) (ht : K_sT O) {p : Int} [IsP p] {m : Fp p} (hm : m ≠ 0) (hml : m.len ≤ 13) {n : Nat} (hn : n + 1 = m.len) : ∀ (f k : Nat), 1 ≤ k → k + f = n / 2 + 1 → ∃ P' : List Int,
 dn O 0 (.loop Z2s_L0) ⟨[(0, (.d (.int .i64 p))), (3, .ptr 0 []), (5, (.d (.int .i64 n))), (6, .ptr 1 []), (7, (.d (.int .i64 k)))], [.box false (D.arr 64 .leaf (ints .u8 (pad (row m)))), .box false (D.arr 64 .leaf (ints .u8 (pad (row (pw Pol.X (p.toNat ^ (k - 1)) % m)))))]⟩ =
  if ∀ k', k ≤ k' → 2 * k' ≤ n → (Pol.gcd m (frW m k')).len = 1 then some (.exit 0, ⟨[(0, (.d (.int .i64 p))), (3, .ptr 0 []), (5, (.d (.int .i64 n))), (6, .ptr 1 []), (7, (.d (.int .i64 (((n / 2 + 1 : Nat) : Int))))), (19, (.d (.bool false)))], [.box false (D.arr 64 .leaf (ints .u8 (pad (row m)))), .box false (D.arr 64 .leaf (ints .u8 P'))]⟩)
  else some (.ret, ⟨[(4, (.d (.bool false)))], [.hole, .hole]⟩)
 | 0, k, hk, hf => by
  obtain rfl : k = n / 2 + 1 := by omega
  refine ⟨pad (row (pw Pol.X (p.toNat ^ (n / 2 + 1 - 1)) % m)), ?_⟩
  rw [if_pos (fun k' h1 h2 => by omega)]
  have w1 : IntKind.i64.wrap (2 * ((n / 2 + 1 : Nat) : Int)) = 2 * ((n / 2 + 1 : Nat) : Int) := w64 (by omega)
  have hlt : ¬ (2 * ((n / 2 + 1 : Nat) : Int) ≤ n) := by omega
  refine dn_stop ?_
  generalize ((n / 2 + 1 : Nat) : Int) = k1 at *
  generalize pad (row (pw Pol.X (p.toNat ^ (n / 2 + 1 - 1)) % m)) = P1 at *
  generalize pad (row m) = Pm at *
  simp -implicitDefEqProofs [Z2s_L0, dn_cond, w1, hlt]
 | f + 1, k, hk, hf => by
  have hp := IsP.pos (p := p)
  have hp7 := IsP.le (p := p)
  have w1 : IntKind.i64.wrap (2 * (k : Int)) = 2 * (k : Int) := w64 (by omega)
  have hlt : 2 * (k : Int) ≤ n := by omega
  have w4 : IntKind.i64.wrap ((k : Int) + 1) = ((k + 1 : Nat) : Int) := (w64 (x := (k : Int) + 1) (by omega)).trans (by omega)
  have hl1 := Pol.len_mod (pw Pol.X (p.toNat ^ (k - 1))) hm
  have hl2 := Pol.len_mod (pw Pol.X (p.toNat ^ k)) hm
  have e1 := hpw p (pw Pol.X (p.toNat ^ (k - 1)) % m) p m hm (by omega) (by omega) (by omega) (by omega)
  have e2 : pw (pw Pol.X (p.toNat ^ (k - 1)) % m) p.toNat % m = pw Pol.X (p.toNat ^ k) % m := by
   rw [Pol.pow_mod _ hm, pw_pw, ← Nat.pow_succ, show (k - 1).succ = k by omega]
  rw [e2] at e1
  have e3 := ht p
  have hX : (Pol.X : Fp p).len ≤ 64 := by rw [Pol.len_X]; omega
  have e4 := ha p (-1) (pw Pol.X (p.toNat ^ k) % m) Pol.X (by omega) (by omega) (by omega) hX
  rw [sub_comb] at e4
  have e4' : pw Pol.X (p.toNat ^ k) % m - Pol.X = frW m k := rfl
  rw [e4'] at e4
  have hl3 : (frW m k).len ≤ 64 := Pol.len_sub_le (by omega) hX
  have e5 := hg p m (frW m k) hm (by omega) hl3
  have hgm := Pol.gcd_monic (a := m) (b := frW m k) (.inl hm)
  have hgl := (Pol.gcd_dv_left (a := m) (b := frW m k) (.inl hm)).len hm
  have e6 := hdg p (Pol.gcd m (frW m k)) (by omega)
  have hg1 := Pol.len_pos hgm.2
  by_cases hc : (Pol.gcd m (frW m k)).len = 1
  ·obtain ⟨P', ih⟩ := l_sIrr hdg hpw hg ha ht hm hml hn f (k + 1) (by omega) (by omega)
   rw [show k + 1 - 1 = k by omega] at ih
   refine ⟨P', ?_⟩
   have hiff : (∀ k', k ≤ k' → 2 * k' ≤ n → (Pol.gcd m (frW m k')).len = 1) ↔ ∀ k', k + 1 ≤ k' → 2 * k' ≤ n → (Pol.gcd m (frW m k')).len = 1 := by
    constructor
    ·intro h k' h1 h2; exact h k' (by omega) h2
    ·intro h k' h1 h2
     by_cases hkk : k' = k
     ·rw [hkk]; exact hc
     ·exact h k' (by omega) h2
   rw [propext hiff]
   refine dn_round ?_ ih
   rw [hc] at e6
   have e7 : ((1 : Nat) : Int) - 1 = 0 := rfl
   rw [e7] at e6
   generalize pad (row (Pol.gcd m (frW m k))) = Pg at *
   generalize pad (row (frW m k)) = Pw at *
   generalize pad (row (pw Pol.X (p.toNat ^ k) % m)) = P2 at *
   generalize pad (row (pw Pol.X (p.toNat ^ (k - 1)) % m)) = P1 at *
   generalize pad (row (Pol.X : Fp p)) = PX at *
   generalize pad (row m) = Pm at *
   simp -implicitDefEqProofs [Z2s_L0, dn_cond, w1, hlt, e1, e3, e4, e5, e6, w4]
  ·refine ⟨pad [], ?_⟩
   rw [if_neg (fun h => hc (h k (Nat.le_refl k) (by omega)))]
   have hne : ¬ (((Pol.gcd m (frW m k)).len : Int) - 1 = 0) := by omega
   refine dn_back ?_
   generalize ((Pol.gcd m (frW m k)).len : Int) - 1 = g1 at *
   generalize pad (row (Pol.gcd m (frW m k))) = Pg at *
   generalize pad (row (frW m k)) = Pw at *
   generalize pad (row (pw Pol.X (p.toNat ^ k) % m)) = P2 at *
   generalize pad (row (pw Pol.X (p.toNat ^ (k - 1)) % m)) = P1 at *
   generalize pad (row (Pol.X : Fp p)) = PX at *
   generalize pad (row m) = Pm at *
   simp -implicitDefEqProofs [Z2s_L0, dn_cond, w1, hlt, e1, e3, e4, e5, e6, hne]
open Classical in
def K_sIrr (O : Oracle) : Prop := ∀ (p : Int) [IsP p] (m : Fp p), m ≠ 0 → m.len ≤ 13 → ask O F2s [(D.int .i64 p), (D.arr 64 .leaf (ints .u8 (pad (row m))))] = some (D.bool (decide (Irr m)))
open Classical in
theorem k_sIrr (hT : T F2s = some Z2s) (hdg : K_sDeg (den T A)) (hmo : K_sMod (den T A)) (hpw : K_sPowMod (den T A)) (hg : K_sGcd (den T A)) (ha : K_sAdd (den T A)) (ht : K_sT (den T A)) : K_sIrr (den T A) := by
 intro p i m hm hml
 have e1 := hdg p m (by omega)
 have e2 := ht p
 have e3 := hmo p Pol.X m hm (by rw [Pol.len_X]; omega) (by omega)
 have h1 := Pol.len_pos hm
 refine ask_of hT rfl ?_
 by_cases h2 : 2 ≤ m.len
 ·obtain ⟨P', e4⟩ := l_sIrr (O := den T A) hdg hpw hg ha ht hm hml (n := m.len - 1) (by omega) ((m.len - 1) / 2) 1 (Nat.le_refl 1) (by omega)
  have e5 : pw (Pol.X : Fp p) (p.toNat ^ (1 - 1)) = Pol.X := by rw [Nat.sub_self, Nat.pow_zero, pw_1]
  rw [e5, irr_test h2 hml] at e4
  rw [show ((m.len : Int) - 1) = ((m.len - 1 : Nat) : Int) by omega] at e1
  have hlt : ¬ (((m.len - 1 : Nat) : Int) < 1) := by omega
  have e01 : ((1 : Nat) : Int) = 1 := rfl
  rw [e01] at e4
  by_cases hi : Irr m
  ·rw [if_pos hi] at e4
   rw [decide_eq_true hi]
   generalize (((m.len - 1) / 2 + 1 : Nat) : Int) = k1 at *
   generalize ((m.len - 1 : Nat) : Int) = n1 at *
   generalize pad (row (Pol.X % m)) = P1 at *
   generalize pad (row (Pol.X : Fp p)) = PX at *
   generalize pad (row m) = Pm at *
   simp -implicitDefEqProofs [Z2s, Z2s_B, dn_cond, e1, e2, e3, e4, hlt, List.replicate]
  ·rw [if_neg hi] at e4
   rw [decide_eq_false hi]
   generalize ((m.len - 1 : Nat) : Int) = n1 at *
   generalize pad (row (Pol.X % m)) = P1 at *
   generalize pad (row (Pol.X : Fp p)) = PX at *
   generalize pad (row m) = Pm at *
   simp -implicitDefEqProofs [Z2s, Z2s_B, dn_cond, e1, e2, e3, e4, hlt, List.replicate]
 ·have hl : m.len = 1 := by omega
  rw [hl] at e1
  have e7 : ((1 : Nat) : Int) - 1 = 0 := rfl
  rw [e7] at e1
  rw [decide_eq_false (fun h : Irr m => h2 h.len)]
  generalize pad (row (Pol.X % m)) = P1 at *
  generalize pad (row (Pol.X : Fp p)) = PX at *
  generalize pad (row m) = Pm at *
  simp -implicitDefEqProofs [Z2s, Z2s_B, dn_cond, e1, e2, e3, List.replicate]
end Pe

namespace Pe
open Go Gq
variable {T : Nat → Option Fn} {A : Oracle}
end Pe

namespace Pe
open Go Gq
variable {T : Nat → Option Fn} {A : Oracle}
end Pe



namespace Pe
open Go Gq
variable {T : Nat → Option Fn} {A : Oracle}
structure Fld {p : Int} [IsP p] (m : Fp p) : Prop where
 mon : Monic m
 two : 2 ≤ m.len
 five : m.len ≤ 5
 irr : Irr m
end Pe



namespace Pe
open Go Gq
variable {T : Nat → Option Fn} {A : Oracle}
end Pe

namespace Pe
open Go Gq
variable {T : Nat → Option Fn} {A : Oracle}
section
variable {p : Int} [IsP p]
noncomputable def frIt (m : Fp p) : Nat → Fp p → Fp p
 | 0, a => a
 | k + 1, a => frIt m k (pw a p.toNat % m)
theorem frIt_len {m : Fp p} (hm : m ≠ 0) : ∀ (k : Nat) (a : Fp p), a.len < m.len → (frIt m k a).len < m.len
 | 0, _, h => h
 | k + 1, _a, _ => frIt_len hm k _ (Pol.len_mod _ hm)
theorem frIt_mk {m : Fp p} : ∀ (k : Nat) (a : Fp p), Quo.mk m (frIt m k a) = pw (Quo.mk m a) (p.toNat ^ k)
 | 0, a => by rw [Nat.pow_zero, pw_1]; rfl
 | k + 1, a => by
  show Quo.mk m (frIt m k (pw a p.toNat % m)) = _
  rw [frIt_mk k, Pol.mk_mod, Quo.mk_pow, pw_pw, Nat.pow_succ, Nat.mul_comm]
theorem frIt_mod {m : Fp p} (hm : Fld m) (k : Nat) {a : Fp p} (ha : a.len < m.len) : frIt m (k % (m.len - 1)) a = frIt m k a := by
 have h2 := hm.two
 have h5 := hm.five
 have small : p ^ (m.len - 1) < 1000000000000 := by
  have h1 := ipow_mono (p := p) (by have := IsP.pos (p := p); omega) (show m.len - 1 ≤ 12 by omega)
  have h7 := ppow_le (p := p) (n := 12) (by omega)
  omega
 have hd : ∀ x : Quo m, pw x (p.toNat ^ (m.len - 1)) = x := fermat_all hm.irr (by omega) small
 have hq : ∀ (q : Nat) (x : Quo m), pw x (p.toNat ^ ((m.len - 1) * q)) = x := by
  intro q
  induction q with
  | zero => intro x; rw [Nat.mul_zero, Nat.pow_zero, pw_1]
  | succ q ih => intro x; rw [Nat.mul_succ, Nat.pow_add, ← pw_pw, ih, hd]
 have h0 : m ≠ 0 := hm.mon.2
 have e : Quo.mk m (frIt m (k % (m.len - 1)) a) = Quo.mk m (frIt m k a) := by
  rw [frIt_mk, frIt_mk]
  have hk : k = (m.len - 1) * (k / (m.len - 1)) + k % (m.len - 1) := (Nat.div_add_mod k (m.len - 1)).symm
  have : p.toNat ^ k = p.toNat ^ ((m.len - 1) * (k / (m.len - 1))) * p.toNat ^ (k % (m.len - 1)) := by rw [← Nat.pow_add, ← hk]
  rw [this, ← pw_pw, hq]
 have e2 := (Pol.mod_eq_iff h0).2 e
 rwa [Pol.mod_small (frIt_len h0 _ _ ha), Pol.mod_small (frIt_len h0 _ _ ha)] at e2
noncomputable def invm (m a : Fp p) : Fp p := (Pol.bezout a m).2.1 % m
theorem invm_len {m : Fp p} (hm : m ≠ 0) (a : Fp p) : (invm m a).len < m.len := Pol.len_mod _ hm
theorem invm_ok {m a : Fp p} (hm : Fld m) (ha : a ≠ 0) (hal : a.len < m.len) : Quo.mk m (invm m a) * Quo.mk m a = 1 := by
 have h0 : m ≠ 0 := hm.mon.2
 have e := Pol.bezout_eq (a := a) (b := m) (.inl ha)
 have hg : Pol.gcd a m = 1 := by
  have h1 := Pol.gcd_monic (a := a) (b := m) (.inl ha)
  have h2 := Pol.gcd_dv_left (a := a) (b := m) (.inl ha)
  have h3 := Pol.gcd_dv_right (a := a) (b := m) (.inl ha)
  refine h1.eq_one ?_
  rcases hm.irr.dv h3 with h | h
  ·exact h
  ·have := h2.len ha
   omega
 rw [hg] at e
 unfold invm
 rw [Pol.mk_mod]
 have : Quo.mk m ((Pol.bezout a m).2.1 * a + (Pol.bezout a m).2.2 * m) = Quo.mk m 1 := by rw [e]
 rw [Quo.mk_add, Quo.mk_mul, Quo.mk_mul] at this
 have hm0 : Quo.mk m m = 0 := dv_iff_mk.1 (Dv.refl m)
 rw [hm0, Gq.mul_zero, Gq.add_zero] at this
 exact this
end
theorem bez_64 {p : Int} [IsP p] {a b : Fp p} (h : a ≠ 0) (hb : b.len ≤ 63) : (Pol.bezout a b).2.1.len ≤ 64 := by
 obtain ⟨x, y, hi, _, _⟩ := Pol.bz_spec b.len a b 1 0 0 1 (Nat.le_refl _) (Pol.BzI.init (.inl h))
 have h1 := hi.lu
 rw [Pol.len_zero] at h1
 have : (Pol.bezout a b).2.1.len ≤ (Pol.bz b.len a b 1 0 0 1).2.1.len := Pol.len_le (Pol.lt_Cmul _ (Pol.lt_len _))
 omega
end Pe

namespace Pe
open Go Gq
variable {T : Nat → Option Fn} {A : Oracle}
section
variable {p : Int} [IsP p]
theorem one_ne_quo {m : Fp p} (h2 : 2 ≤ m.len) : (1 : Quo m) ≠ 0 := fun h => by
 have : Dv m 1 := dv_iff_mk.2 h
 have := this.len Pol.one_ne
 rw [Pol.len_one] at this
 omega
theorem pw_res {m c : Fp p} (hm : Fld m) (hc : c ≠ 0) (hcl : c.len < m.len) (k : Nat) : pw c k % m ≠ 0 ∧ (pw c k % m).len < m.len := by
 have h0 : m ≠ 0 := hm.mon.2
 refine ⟨fun h => ?_, Pol.len_mod _ h0⟩
 have h1 : Quo.mk m (pw c k) = 0 := by rw [← Pol.mk_mod, h]; rfl
 rw [Quo.mk_pow] at h1
 have h2 := invm_ok hm hc hcl
 have h3 : pw (Quo.mk m (invm m c) * Quo.mk m c) k = 0 := by rw [pw_mul, h1, Gq.mul_zero]
 rw [h2, pw_one] at h3
 exact one_ne_quo hm.two h3
end
end Pe



namespace Pe
open Go Gq
variable {T : Nat → Option Fn} {A : Oracle}
end Pe


namespace Pe
open Go Gq
variable {T : Nat → Option Fn} {A : Oracle}
end Pe


namespace Pe
open Go Gq
variable {T : Nat → Option Fn} {A : Oracle}
section
variable {p : Int} [IsP p]
end
def K_isOne (O : Oracle) : Prop := ∀ (p : Int) [IsP p] (a : Fp p), a.len < 1000000 → ask O Fi [(D.sl .leaf (ints .i64 (row a)))] = some (D.bool (decide (a.len = 1 ∧ cf (row a) 0 = 1)))
theorem k_isOne (hT : T Fi = some Zi) : K_isOne (den T A) := by
 intro p ip a ha
 have hL : (row a).length = a.len := row_length a
 refine ask_of hT rfl ?_
 generalize row a = Ra at *
 by_cases h1 : a.len = 1
 ·have h0 : 0 < Ra.length := by omega
  have hc : ∀ h : 0 < Ra.length, Ra[0]'h = cf Ra 0 := fun h => (cf_lt h).symm
  have hL1 : Ra.length = 1 := by omega
  simp -implicitDefEqProofs [Zi, Zi_B, hL1, h1, hc]
 ·have hL1 : ¬ Ra.length = 1 := by omega
  have hL2 : ¬ (Ra.length : Int) = 1 := by omega
  simp -implicitDefEqProofs [Zi, Zi_B, hL2, h1]
section
variable {p : Int} [IsP p]
end
section
variable {p : Int} [IsP p]
end
end Pe

namespace Pe
open Go Gq
variable {T : Nat → Option Fn} {A : Oracle}
def IsMod (p : Int) (l : List Int) : Prop := ∃ (_ : IsP p) (m : Fp p), l = pad (row m) ∧ Monic m ∧ 2 ≤ m.len ∧ m.len ≤ 6
theorem isMod_iff {p : Int} [IsP p] {m : Fp p} (hm : m.len ≤ 64) : IsMod p (pad (row m)) ↔ Monic m ∧ 2 ≤ m.len ∧ m.len ≤ 6 := by
 constructor
 ·rintro ⟨_, a, e, h1, h2, h3⟩
  obtain rfl := (pad_row_inj hm (by omega)).1 e
  exact ⟨h1, h2, h3⟩
 ·rintro ⟨h1, h2, h3⟩; exact ⟨_, m, rfl, h1, h2, h3⟩
open Classical in
noncomputable def modC (p : Int) (l : List Int) (ls : List (List Int)) : Int := if codeP p (ls ++ [l]) ≠ 0 then 1 else if IsMod p l then 0 else 2
open Classical in
def K_isModulus (O : Oracle) : Prop := ∀ (p : Int) [IsP p] (m : Fp p), m.len ≤ 64 → ask O Fh [(D.arr 64 .leaf (ints .u8 (pad (row m))))] = some (D.bool (decide (m.ld = 1 ∧ 2 ≤ m.len ∧ m.len ≤ 6)))
open Classical in
theorem k_isModulus (hT : T Fh = some Zh) (hro : K_rowOf (den T A)) (hld : C_lead (den T A)) (hdg : C_degree (den T A)) (hwi : C_within (den T A)) : K_isModulus (den T A) := by
 intro p ip a hal
 have e2 := hro p a hal
 have e3 := hld (row a) (by rw [row_length]; omega)
 rw [ld_row] at e3
 have e4 := hdg (row a) (by rw [row_length]; omega)
 rw [row_length] at e4
 have e5 := hwi ((a.len : Int) - 1) 1 5
 have h1 := rep_one_iff a.ld
 refine ask_of hT rfl ?_
 by_cases h0 : a.ld = 1
 ·have h0' := h1.2 h0
  have h3 : decide ((1 : Int) ≤ (a.len : Int) - 1 ∧ (a.len : Int) - 1 ≤ 5) = decide (a.ld = 1 ∧ 2 ≤ a.len ∧ a.len ≤ 6) := decide_eq_decide.2 ⟨fun h => ⟨h0, by omega, by omega⟩, fun h => by omega⟩
  rw [h3] at e5
  rw [h0'] at e3
  generalize decide (a.ld = 1 ∧ 2 ≤ a.len ∧ a.len ≤ 6) = b at *
  generalize row a = Ra at *
  generalize (a.len : Int) - 1 = n at *
  simp -implicitDefEqProofs [Zh, Zh_B, e2, e3, e4, e5]
 ·have h0' := mt h1.1 h0
  rw [decide_eq_false (fun h : a.ld = 1 ∧ 2 ≤ a.len ∧ a.len ≤ 6 => h0 h.1)]
  generalize rep a.ld = x at *
  generalize row a = Ra at *
  simp -implicitDefEqProofs [Zh, Zh_B, e2, e3, h0']
theorem modC_bad {p : Int} {l : List Int} {ls : List (List Int)} (h : codeP p (ls ++ [l]) ≠ 0) : modC p l ls = 1 := by unfold modC; rw [if_pos h]
theorem codeP_01 (p : Int) (ls : List (List Int)) : codeP p ls = 0 ∨ codeP p ls = 1 := by
 unfold codeP; split
 ·exact .inl rfl
 ·exact .inr rfl
theorem codeP_last {p : Int} {l : List Int} {ls : List (List Int)} (h : codeP p (ls ++ [l]) = 0) : codeP p ls = 0 ∧ codeP p [l] = 0 := by
 unfold codeP at h
 split at h
 ·rename_i g
  have g2 := g.2
  rw [List.all_append, Bool.and_eq_true] at g2
  exact ⟨by unfold codeP; rw [if_pos ⟨g.1, g2.1⟩], by unfold codeP; rw [if_pos ⟨g.1, g2.2⟩]⟩
 ·cases h
open Classical in
theorem modC_good {p : Int} [IsP p] {m : Fp p} {ls : List (List Int)} (hm : m.len ≤ 64) (h : codeP p (ls ++ [pad (row m)]) = 0) : modC p (pad (row m)) ls = if Monic m ∧ 2 ≤ m.len ∧ m.len ≤ 6 then 0 else 2 := by
 unfold modC
 rw [if_neg (by simpa using h)]
 by_cases h2 : Monic m ∧ 2 ≤ m.len ∧ m.len ≤ 6
 ·rw [if_pos h2, if_pos ((isMod_iff hm).2 h2)]
 ·rw [if_neg h2, if_neg fun g => h2 ((isMod_iff hm).1 g)]
theorem codeP_zero' {p : Int} {l : List Int} (hb : Bytes l) (hl : l.length = 64) (h : codeP p [l] = 0) : ∃ (_ : IsP p) (a : Fp p), a.len ≤ 64 ∧ l = pad (row a) := by
 rcases arg1 p hb hl with ⟨h1, h2⟩ | ⟨ip, a, hal, e⟩
 ·rw [h1] at h; cases h
 ·exact ⟨ip, a, hal, e⟩
def C_sModulus (O : Oracle) : Prop := ∀ (p : Int) (l : List Int) (ls : List (List Int)), Bytes l → l.length = 64 → Arrs ls → ls.length < 1000 → ask O F39 [(D.int .i64 p), (D.arr 64 .leaf (ints .u8 l)), .sl (.arr 64 .leaf) (ls.map arr8)] = some (D.int .i64 (modC p l ls))
theorem codeP_app {p : Int} {l : List Int} {ls : List (List Int)} (h1 : codeP p ls = 0) (h2 : codeP p [l] = 0) : codeP p (ls ++ [l]) = 0 := by
 unfold codeP at h1 h2
 split at h1
 ·split at h2
  ·rename_i g1 g2
   unfold codeP
   rw [if_pos ⟨g1.1, by rw [List.all_append, Bool.and_eq_true]; exact ⟨g1.2, g2.2⟩⟩]
  ·cases h2
 ·cases h1
open Classical in
theorem c_sModulus (hT : T F39 = some Z39) (hc : C_sCode (den T A)) (hmo : K_sMonic (den T A)) (hdg : K_sDeg (den T A)) (hin : C_sIn (den T A)) : C_sModulus (den T A) := by
 intro p l ls hb hl ha hn
 have e1 := hc p [l] (by intro x hx; simp at hx; subst hx; exact ⟨hl, hb⟩) (by simp)
 rw [show List.map arr8 [l] = [(D.arr 64 .leaf (ints .u8 l))] from rfl] at e1
 have e2 := hc p ls ha (by omega)
 refine ask_of hT rfl ?_
 rcases codeP_01 p [l] with h1 | h1
 ·rw [h1] at e1
  rcases codeP_01 p ls with h2 | h2
  ·rw [h2] at e2
   obtain ⟨ip, a, hal, rfl⟩ := codeP_zero' hb hl h1
   rw [modC_good hal (codeP_app h2 h1)]
   have e3 := hmo p a hal
   have e4 := hdg p a hal
   have e5 := hin ((a.len : Int) - 1) 1 5
   by_cases hM : Monic a
   ·rw [decide_eq_true hM] at e3
    by_cases h : 2 ≤ a.len ∧ a.len ≤ 6
    ·rw [decide_eq_true (show (1 : Int) ≤ (a.len : Int) - 1 ∧ (a.len : Int) - 1 ≤ 5 by omega)] at e5
     rw [if_pos ⟨hM, h⟩]
     generalize pad (row a) = Pa at *
     generalize ls.map arr8 = LD at *
     generalize (a.len : Int) - 1 = d at *
     simp -implicitDefEqProofs [Z39, Z39_B, dn_cond, e1, e2, e3, e4, e5, List.replicate]
    ·rw [decide_eq_false (show ¬ ((1 : Int) ≤ (a.len : Int) - 1 ∧ (a.len : Int) - 1 ≤ 5) by omega)] at e5
     rw [if_neg fun g => h g.2]
     generalize pad (row a) = Pa at *
     generalize ls.map arr8 = LD at *
     generalize (a.len : Int) - 1 = d at *
     simp -implicitDefEqProofs [Z39, Z39_B, dn_cond, e1, e2, e3, e4, e5, List.replicate]
   ·rw [decide_eq_false hM] at e3
    rw [if_neg fun g => hM g.1]
    generalize pad (row a) = Pa at *
    generalize ls.map arr8 = LD at *
    simp -implicitDefEqProofs [Z39, Z39_B, dn_cond, e1, e2, e3, List.replicate]
  ·rw [modC_bad (fun h => by rw [(codeP_last h).1] at h2; cases h2)]
   rw [h2] at e2
   generalize ls.map arr8 = LD at *
   simp -implicitDefEqProofs [Z39, Z39_B, dn_cond, e1, e2, List.replicate]
 ·rw [modC_bad (fun h => by rw [(codeP_last h).2] at h1; cases h1)]
  rw [h1] at e1
  generalize ls.map arr8 = LD at *
  simp -implicitDefEqProofs [Z39, Z39_B, dn_cond, e1, List.replicate]
end Pe

namespace Pe
open Go Gq
variable {T : Nat → Option Fn} {A : Oracle}
abbrev srcB (code : List Int) (at_ : Nat) (h : Int) : Blk := .box false (.st [.leaf, .leaf, .leaf] [.sl .leaf (ints .u8 code), .int .i64 at_, .int .u64 h])
def Src (b : Blk) : Prop := ∃ (code : List Int) (at_ : Nat) (h : Int), b = srcB code at_ h ∧ at_ ≤ code.length ∧ code.length ≤ 1099511627776 ∧ Bytes code
theorem wrap_u64 {n : Nat} (h : n ≤ 16777215) : IntKind.u64.wrap (n : Int) = n := by
 simp [IntKind.wrap, IntKind.bits, IntKind.signed]; omega
theorem andI_le (x : Int) : 0 ≤ andI .u64 x 16777215 ∧ andI .u64 x 16777215 ≤ 16777215 := by
 have h1 : (BitVec.ofInt 64 x &&& BitVec.ofInt 64 16777215).toNat ≤ 16777215 := by
  rw [BitVec.toNat_and]
  exact Nat.and_le_right
 have h2 : andI .u64 x 16777215 = ((BitVec.ofInt 64 x &&& BitVec.ofInt 64 16777215).toNat : Int) := wrap_u64 h1
 rw [h2]
 omega
theorem shr33 : (2 : Int) ^ min 33 IntKind.u64.bits = 8589934592 := rfl
def H_next (O : Oracle) (F : Nat) : Prop := ∀ (b : Blk) (n : Int), Src b → n ≤ 4611686018427387904 → ∃ (x : Int) (b' : Blk), O F [.ptr 0 [], (.d (.int .i64 n))] [b] = some ((.d (.int .i64 x)), [b'], []) ∧ Src b' ∧ 0 ≤ x ∧ (x < n ∨ x = 0)
theorem h_next (hT : T F2x = some Z2x) : H_next (den T A) F2x := by
 rintro b n ⟨code, k, h, rfl, hk, hc, hb⟩ hn
 by_cases h1 : n < 1
 ·refine ⟨0, _, den_of hT rfl ?_, ⟨code, k, h, rfl, hk, hc, hb⟩, Int.le_refl _, .inr rfl⟩
  simp -implicitDefEqProofs [Z2x, Z2x_B, dn_cond, h1]
 ·obtain ⟨hh, hhh⟩ : ∃ hh : Int, IntKind.u64.wrap (IntKind.u64.wrap (h * 6364136223846793005) + 1442695040888963407) = hh := ⟨_, rfl⟩
  have hx := andI_le (hh.fdiv 8589934592)
  obtain ⟨x, hX⟩ : ∃ x : Int, andI .u64 (hh.fdiv 8589934592) 16777215 = x := ⟨_, rfl⟩
  rw [hX] at hx
  have w0 : IntKind.i64.wrap x = x := w64 (by omega)
  have hn0 : ¬ n = 0 := by omega
  have tm : ∀ y : Int, 0 ≤ y → 0 ≤ y.tmod n ∧ y.tmod n < n := fun y hy => by
   rw [Int.tmod_eq_emod_of_nonneg hy]
   exact ⟨Int.emod_nonneg _ hn0, Int.emod_lt_of_pos _ (by omega)⟩
  by_cases h2 : k < code.length
  ·have hbk := hb _ (List.getElem_mem h2)
   have h2' : (k : Int) < code.length := by omega
   have w1 : IntKind.i64.wrap code[k] = code[k] := w64 (by omega)
   have w2 : IntKind.i64.wrap (x + code[k]) = x + code[k] := w64 (by omega)
   have w3 : IntKind.i64.wrap ((k : Int) + 1) = ((k + 1 : Nat) : Int) := (w64 (x := (k : Int) + 1) (by omega)).trans (by omega)
   obtain ⟨t1, t2⟩ := tm (x + code[k]) (by omega)
   refine ⟨(x + code[k]).tmod n, srcB code (k + 1) hh, den_of hT rfl ?_, ⟨code, k + 1, hh, rfl, by omega, hc, hb⟩, t1, .inl t2⟩
   simp -implicitDefEqProofs [Z2x, Z2x_B, dn_cond, shiftI, shr33, h1, hn0, h2, h2', hhh, hX, w0, w1, w2, w3]
  ·have h2' : ¬ (k : Int) < code.length := by omega
   obtain ⟨t1, t2⟩ := tm x (by omega)
   refine ⟨x.tmod n, srcB code k hh, den_of hT rfl ?_, ⟨code, k, hh, rfl, hk, hc, hb⟩, t1, .inl t2⟩
   simp -implicitDefEqProofs [Z2x, Z2x_B, dn_cond, shiftI, shr33, h1, hn0, h2', hhh, hX, w0]
theorem l_from {O : Oracle} {code : List Int} (hc : code.length ≤ 4096) (hb : Bytes code) : ∀ (r i : Nat) (h : Int), i + r = code.length → ∃ h' : Int,
 dn O 0 (.loop Z2o_L0) ⟨[(0, .d (.sl .leaf (ints .u8 code))), (3, .ptr 0 []), (4, (.d (.int .i64 i)))], [srcB code 0 h]⟩ =
  some (.exit 0, ⟨[(0, .d (.sl .leaf (ints .u8 code))), (3, .ptr 0 []), (4, (.d (.int .i64 code.length))), (19, (.d (.bool false)))], [srcB code 0 h']⟩)
 | 0, i, h, hi => by
  obtain rfl : i = code.length := by omega
  refine ⟨h, dn_stop ?_⟩
  simp -implicitDefEqProofs [Z2o_L0, dn_cond]
 | r + 1, i, h, hi => by
  have hlt : i < code.length := by omega
  have hlt' : (i : Int) < code.length := by omega
  have hq : (i : Int) < 4096 := by omega
  have hbk := hb _ (List.getElem_mem hlt)
  have w4 : IntKind.i64.wrap ((i : Int) + 1) = ((i + 1 : Nat) : Int) := (w64 (x := (i : Int) + 1) (by omega)).trans (by omega)
  obtain ⟨h2, hh2⟩ : ∃ h2 : Int, IntKind.u64.wrap (IntKind.u64.wrap (IntKind.u64.wrap (h * 1099511628211) + IntKind.u64.wrap code[i]) + 61) = h2 := ⟨_, rfl⟩
  obtain ⟨h', ih⟩ := l_from hc hb r (i + 1) h2 (by omega)
  refine ⟨h', dn_round ?_ ih⟩
  simp -implicitDefEqProofs [Z2o_L0, dn_cond, hlt, hlt', hq, w4, hh2]
def H_from (O : Oracle) : Prop := ∀ code : List Int, Bytes code → code.length ≤ 4096 → ∃ b : Blk, O F2o [.d (.sl .leaf (ints .u8 code))] [] = some (.ptr 0 [], [], [b]) ∧ Src b
theorem h_from (hT : T F2o = some Z2o) : H_from (den T A) := by
 intro code hb hc
 obtain ⟨h0, hh0⟩ : ∃ h0 : Int, IntKind.u64.wrap (12251 + IntKind.u64.wrap (code.length : Int)) = h0 := ⟨_, rfl⟩
 obtain ⟨h', e⟩ := l_from (O := den T A) hc hb code.length 0 h0 (Nat.zero_add _)
 rw [show ((0 : Nat) : Int) = 0 from rfl, show srcB code 0 h0 = .box false (.st [.leaf, .leaf, .leaf] [.sl .leaf (ints .u8 code), .int .i64 0, .int .u64 h0]) from rfl] at e
 refine ⟨srcB code 0 h', den_of hT rfl ?_, ⟨code, 0, h', rfl, Nat.zero_le _, by omega, hb⟩⟩
 simp -implicitDefEqProofs [Z2o, Z2o_B, hh0, e, List.idxOf, List.findIdx, List.findIdx.go]
def H_pick (O : Oracle) : Prop := ∀ (b : Blk) (l : List Int) (n : Nat) (cp : Option Nat), Src b → l.length = n → 0 < n → n ≤ 100 → ∃ (x : Int) (b' : Blk), O F30 [.ptr 0 [], .sl 1 [] 0 n cp] [b, .sl false .leaf (ints .i64 l)] = some ((.d (.int .i64 x)), [b', .sl false .leaf (ints .i64 l)], []) ∧ Src b' ∧ x ∈ l
theorem h_pick (hT : T F30 = some Z30) (hn : H_next (den T A) F2x) : H_pick (den T A) := by
 rintro b l n cp hs hl hpos hm
 obtain ⟨x, b', e, hs', h0, h1⟩ := hn b n hs (by omega)
 obtain ⟨k, rfl⟩ : ∃ k : Nat, x = k := ⟨x.toNat, by omega⟩
 have hk : k < n := by omega
 have hkl : k < l.length := by omega
 obtain ⟨c, a, h, rfl, _⟩ := id hs
 obtain ⟨c', a', h', rfl, _⟩ := id hs'
 refine ⟨l[k], _, den_of hT rfl ?_, hs', List.getElem_mem hkl⟩
 simp -implicitDefEqProofs [Z30, Z30_B, e, hk, hl, List.idxOf, List.findIdx, List.findIdx.go]
end Pe

namespace Pe
open Go Gq
variable {T : Nat → Option Fn} {A : Oracle}
def H_drawPrime (O : Oracle) : Prop := ∀ b : Blk, Src b → ∃ (p : Int) (b' : Blk), O F2n [.ptr 0 []] [b] = some ((.d (.int .i64 p)), [b'], []) ∧ Src b' ∧ IsP p
theorem h_drawPrime (hT : T F2n = some Z2n) (hp : H_pick (den T A)) : H_drawPrime (den T A) := by
 intro b hs
 obtain ⟨x, b', e, hs', hx⟩ := hp b [2, 2, 3, 3, 5, 7] 6 (some 6) hs rfl (by omega) (by omega)
 rw [show ints .i64 [2, 2, 3, 3, 5, 7] = [.int .i64 2, .int .i64 2, .int .i64 3, .int .i64 3, .int .i64 5, .int .i64 7] from rfl] at e
 obtain ⟨c, a, h, rfl, _⟩ := id hs
 obtain ⟨c', a', h', rfl, _⟩ := id hs'
 refine ⟨x, _, den_of hT rfl ?_, hs', ⟨by simp at hx; omega⟩⟩
 simp -implicitDefEqProofs [Z2n, Z2n_B, e, List.replicate, List.idxOf, List.findIdx, List.findIdx.go]
structure DrI (p : Int) (Q : List Int) (n : Nat) : Prop where
 l : Q.length = 64
 c : Can p Q
 z : ∀ j, n ≤ j → cf Q j = 0
theorem DrI.set {p : Int} {Q : List Int} {n k : Nat} {x : Int} (h : DrI p Q n) (h0 : 0 ≤ x) (h1 : x < p) (hk : k < n) : DrI p (Q.set k x) n :=
 ⟨by rw [List.length_set]; exact h.l, fun y hy => by
  rcases List.mem_or_eq_of_mem_set hy with g | rfl
  ·exact h.c y g
  ·exact ⟨h0, h1⟩, fun j hj => by rw [cf_set, if_neg (by omega)]; exact h.z j hj⟩
section
variable {p : Int} [IsP p]
theorem DrI.pol {Q : List Int} {n : Nat} (h : DrI p Q n) : Q = pad (row (polOf p Q)) ∧ (polOf p Q).len ≤ n :=
 ⟨pad_of h.c h.l, Pol.len_le fun j hj => by rw [polOf_c, h.z j hj]; rfl⟩
theorem l_draw {O : Oracle} (hn : H_next O F2x) {b1 : Blk} {n : Nat} (hn64 : n ≤ 64) : ∀ (k : Nat) (b : Blk) (Q : List Int), k ≤ n → Src b → DrI p Q n → ∃ (b' : Blk) (Q' : List Int), Src b' ∧ DrI p Q' n ∧
 dn O 1 (.loop ir_spec_l01Draw_L0) ⟨[(0, .ptr 0 []), (1, (.d (.int .i64 p))), (6, .ptr 1 []), (7, .ptr 2 []), (8, (.d (.int .i64 ((k : Int) - 1))))], [b, b1, .box false (D.arr 64 .leaf (ints .u8 Q))]⟩ =
  some (.exit 0, ⟨[(0, .ptr 0 []), (1, (.d (.int .i64 p))), (6, .ptr 1 []), (7, .ptr 2 []), (8, (.d (.int .i64 (-1)))), (16, (.d (.bool false)))], [b', b1, .box false (D.arr 64 .leaf (ints .u8 Q'))]⟩)
 | 0, b, Q, hk, hs, hQ => by
  refine ⟨b, Q, hs, hQ, dn_stop ?_⟩
  obtain ⟨c, a, h, rfl, _⟩ := hs
  simp -implicitDefEqProofs [ir_spec_l01Draw_L0, dn_cond]
 | k + 1, b, Q, hk, hs, hQ => by
  have hp := IsP.ge (p := p)
  have hp7 := IsP.le (p := p)
  obtain ⟨x, b2, e1, hs2, x0, x1⟩ := hn b 3 hs (by omega)
  have w1 : IntKind.i64.wrap ((((k + 1 : Nat) : Int) - 1) - 1) = (k : Int) - 1 := (w64 (by omega)).trans (by omega)
  have hk1 : ((k + 1 : Nat) : Int) - 1 = (k : Int) := by omega
  rw [hk1] at w1 ⊢
  have hge : (0 : Int) ≤ k := by omega
  have hkQ : k < Q.length := by rw [hQ.l]; omega
  have hk64 : k < 64 := by omega
  by_cases hx : 0 < x
  ·obtain ⟨y, b3, e2, hs3, y0, y1⟩ := hn b2 p hs2 (by omega)
   have w2 : IntKind.u8.wrap y = y := w8 (by omega)
   obtain ⟨b', Q', hs', hQ', ih⟩ := l_draw hn (b1 := b1) hn64 k b3 (Q.set k y) (by omega) hs3 (hQ.set y0 (by omega) (by omega))
   refine ⟨b', Q', hs', hQ', dn_round ?_ ih⟩
   obtain ⟨c, a, h, rfl, _⟩ := hs
   obtain ⟨c2, a2, h2, rfl, _⟩ := hs2
   obtain ⟨c3, a3, h3, rfl, _⟩ := hs3
   simp -implicitDefEqProofs [ir_spec_l01Draw_L0, dn_cond, hge, e1, e2, hx, w1, w2, hkQ, hk64, List.idxOf, List.findIdx, List.findIdx.go]
  ·obtain ⟨b', Q', hs', hQ', ih⟩ := l_draw hn (b1 := b1) hn64 k b2 Q (by omega) hs2 hQ
   refine ⟨b', Q', hs', hQ', dn_round ?_ ih⟩
   obtain ⟨c, a, h, rfl, _⟩ := hs
   obtain ⟨c2, a2, h2, rfl, _⟩ := hs2
   simp -implicitDefEqProofs [ir_spec_l01Draw_L0, dn_cond, hge, e1, hx, w1, List.idxOf, List.findIdx, List.findIdx.go]
end
theorem DrI.zero (p : Int) [IsP p] (n : Nat) : DrI p (pad []) n :=
 ⟨pad_length _, fun x hx => by
  have hp := IsP.ge (p := p)
  have : x = 0 := by
   unfold pad at hx
   obtain ⟨a, _, rfl⟩ : ∃ a, a < 64 ∧ cf [] a = x := by simpa using hx
   exact cf_ge (Nat.zero_le _)
  omega, fun j _ => (pad_cf (l := []) (by simp) j).trans (cf_ge (Nat.zero_le _))⟩
def H_draw (O : Oracle) : Prop := ∀ (p : Int) [IsP p] (b : Blk) (n : Nat), Src b → n ≤ 63 → ∃ (a : Fp p) (b' : Blk), O F2l [.ptr 0 [], (.d (.int .i64 p)), (.d (.int .i64 ((n : Int))))] [b] = some (.d (D.arr 64 .leaf (ints .u8 (pad (row a)))), [b'], []) ∧ Src b' ∧ a.len ≤ n + 1
theorem h_draw (hT : T F2l = some Z2l) (hn : H_next (den T A) F2x) : H_draw (den T A) := by
 intro p ip b n hs h63
 obtain ⟨x, b2, e1, hs2, x0, x1⟩ := hn b ((n : Int) + 2) hs (by omega)
 obtain ⟨k, rfl⟩ : ∃ k : Nat, x = k := ⟨x.toNat, by omega⟩
 have w0 : IntKind.i64.wrap ((n : Int) + 2) = (n : Int) + 2 := w64 (by omega)
 have w1 : IntKind.i64.wrap ((k : Int) - 1) = (k : Int) - 1 := w64 (by omega)
 obtain ⟨b', Q, hs', hQ, e2⟩ := l_draw (p := p) hn (b1 := .box false (D.arr 64 .leaf (ints .u8 (pad [])))) (n := n + 1) (by omega) k b2 (pad []) (by omega) hs2 (.zero p _)
 obtain ⟨q1, q2⟩ := hQ.pol
 refine ⟨polOf p Q, b', den_of hT rfl ?_, hs', q2⟩
 rw [← q1]
 obtain ⟨c, a, h, rfl, _⟩ := hs
 obtain ⟨c2, a2, h2, rfl, _⟩ := hs2
 obtain ⟨c', a', h', rfl, _⟩ := hs'
 simp -implicitDefEqProofs [Z2l, ir_spec_l01Draw_B, w0, e1, w1, e2, List.replicate, List.idxOf, List.findIdx, List.findIdx.go]
theorem l_mod0 {O : Oracle} (hn : H_next O F2x) {p : Int} [IsP p] {b1 : Blk} {n : Nat} {most k : Int} (hn62 : n ≤ 62) : ∀ (r i : Nat) (b : Blk) (Q : List Int), i + r = n → Src b → DrI p Q n → ∃ (b' : Blk) (Q' : List Int), Src b' ∧ DrI p Q' n ∧
 dn O 1 (.loop Z2m_L0) ⟨[(0, .ptr 0 []), (1, (.d (.int .i64 p))), (2, (.d (.int .i64 most))), (6, .ptr 1 []), (7, .ptr 2 []), (8, (.d (.int .i64 k))), (9, (.d (.int .i64 n))), (10, (.d (.int .i64 i)))], [b, b1, .box false (D.arr 64 .leaf (ints .u8 Q))]⟩ =
  some (.exit 2, ⟨[(0, .ptr 0 []), (1, (.d (.int .i64 p))), (2, (.d (.int .i64 most))), (6, .ptr 1 []), (7, .ptr 2 []), (8, (.d (.int .i64 k))), (9, (.d (.int .i64 n))), (10, (.d (.int .i64 n))), (23, (.d (.bool false)))], [b', b1, .box false (D.arr 64 .leaf (ints .u8 Q'))]⟩)
 | 0, i, b, Q, hi, hs, hQ => by
  obtain rfl : i = n := by omega
  refine ⟨b, Q, hs, hQ, dn_stop ?_⟩
  obtain ⟨c, a, h, rfl, _⟩ := hs
  simp -implicitDefEqProofs [Z2m_L0, dn_cond]
 | r + 1, i, b, Q, hi, hs, hQ => by
  have hp := IsP.ge (p := p)
  have hp7 := IsP.le (p := p)
  obtain ⟨y, b3, e2, hs3, y0, y1⟩ := hn b p hs (by omega)
  have w2 : IntKind.u8.wrap y = y := w8 (by omega)
  have w4 : IntKind.i64.wrap ((i : Int) + 1) = ((i + 1 : Nat) : Int) := (w64 (x := (i : Int) + 1) (by omega)).trans (by omega)
  have hlt : i < n := by omega
  have hiQ : i < Q.length := by rw [hQ.l]; omega
  have hi64 : i < 64 := by omega
  obtain ⟨b', Q', hs', hQ', ih⟩ := l_mod0 hn (b1 := b1) (most := most) (k := k) hn62 r (i + 1) b3 (Q.set i y) (by omega) hs3 (hQ.set y0 (by omega) hlt)
  refine ⟨b', Q', hs', hQ', dn_round ?_ ih⟩
  obtain ⟨c, a, h, rfl, _⟩ := hs
  obtain ⟨c3, a3, h3, rfl, _⟩ := hs3
  simp -implicitDefEqProofs [Z2m_L0, dn_cond, hlt, e2, w2, w4, hiQ, hi64, List.idxOf, List.findIdx, List.findIdx.go]
theorem DrI.up {p : Int} {Q : List Int} {n m : Nat} (h : DrI p Q n) (hm : n ≤ m) : DrI p Q m := ⟨h.l, h.c, fun j hj => h.z j (by omega)⟩
theorem DrI.mod {p : Int} [IsP p] {Q : List Int} {n : Nat} (h : DrI p Q n) (hn : n ≤ 62) : ∃ a : Fp p, Q.set n 1 = pad (row a) ∧ a.len = n + 1 ∧ Monic a := by
 have hp := IsP.ge (p := p)
 have h1 : DrI p (Q.set n 1) (n + 1) := (h.up (Nat.le_succ n)).set (by omega) (by omega) (Nat.lt_succ_self n)
 obtain ⟨q1, q2⟩ := h1.pol
 have hc : (polOf p (Q.set n 1)).c n = 1 := by
  rw [polOf_c, cf_set, if_pos ⟨rfl, by rw [h.l]; omega⟩, zp_one]
 have hne : (polOf p (Q.set n 1)).c n ≠ 0 := by
  rw [hc]; exact Fd.one_ne
 have hl : (polOf p (Q.set n 1)).len = n + 1 := Pol.len_eq (Pol.lt_iff.2 q2) hne
 have h0 : polOf p (Q.set n 1) ≠ 0 := fun h => by rw [h, Pol.len_zero] at hl; omega
 exact ⟨polOf p (Q.set n 1), q1, hl, ⟨by unfold Pol.ld; rw [hl]; exact hc, h0⟩⟩
open Classical in
theorem l_mod1 {O : Oracle} (hn : H_next O F2x) (hir : K_sIrr O) {p : Int} [IsP p] {z : List Int} {most : Int} (hm1 : 1 ≤ most) (hm2 : most ≤ 12) : ∀ (r k : Nat) (b : Blk) (a : Fp p), k + r = 4 → Src b → 2 ≤ a.len → a.len ≤ most + 1 → Monic a → ∃ (b' : Blk) (a' : Fp p), Src b' ∧ 2 ≤ a'.len ∧ a'.len ≤ most + 1 ∧ Monic a' ∧
 (dn O 1 (.loop Z2m_L1) ⟨[(0, .ptr 0 []), (1, (.d (.int .i64 p))), (2, (.d (.int .i64 most))), (6, .ptr 1 []), (7, .ptr 2 []), (8, (.d (.int .i64 k)))], [b, .box false (D.arr 64 .leaf (ints .u8 z)), .box false (D.arr 64 .leaf (ints .u8 (pad (row a))))]⟩ =
  some (.exit 0, ⟨[(0, .ptr 0 []), (1, (.d (.int .i64 p))), (2, (.d (.int .i64 most))), (6, .ptr 1 []), (7, .ptr 2 []), (8, (.d (.int .i64 4))), (13, (.d (.bool false)))], [b', .box false (D.arr 64 .leaf (ints .u8 z)), .box false (D.arr 64 .leaf (ints .u8 (pad (row a'))))]⟩) ∨
 dn O 1 (.loop Z2m_L1) ⟨[(0, .ptr 0 []), (1, (.d (.int .i64 p))), (2, (.d (.int .i64 most))), (6, .ptr 1 []), (7, .ptr 2 []), (8, (.d (.int .i64 k)))], [b, .box false (D.arr 64 .leaf (ints .u8 z)), .box false (D.arr 64 .leaf (ints .u8 (pad (row a))))]⟩ =
  some (.ret, ⟨[(6, .ptr 1 [])], [b', .box false (D.arr 64 .leaf (ints .u8 (pad (row a')))), .hole]⟩))
 | 0, k, b, a, hk, hs, h2, hl, hm => by
  obtain rfl : k = 4 := by omega
  refine ⟨b, a, hs, h2, hl, hm, .inl (dn_stop ?_)⟩
  obtain ⟨c, a, h, rfl, _⟩ := hs
  simp -implicitDefEqProofs [Z2m_L1, dn_cond]
 | r + 1, k, b, a, hk, hs, h2, hl, hm => by
  have hk4 : (k : Int) < 4 := by omega
  obtain ⟨x, b2, e1, hs2, x0, x1⟩ := hn b most hs (by omega)
  obtain ⟨n, hn1⟩ : ∃ n : Nat, 1 + x = n := ⟨(1 + x).toNat, by omega⟩
  have w1 : IntKind.i64.wrap (1 + x) = n := (w64 (by omega)).trans hn1
  obtain ⟨b3, Q, hs3, hQ, st⟩ := l_mod0 hn (p := p) (b1 := .box false (D.arr 64 .leaf (ints .u8 z))) (n := n) (most := most) (k := k) (by omega) n 0 b2 (pad []) (Nat.zero_add _) hs2 (.zero p _)
  rw [show ((0 : Nat) : Int) = 0 from rfl] at st
  obtain ⟨a', q1, q2, q3⟩ := hQ.mod (by omega)
  have hnQ : n < Q.length := by rw [hQ.l]; omega
  have hn64 : n < 64 := by omega
  obtain ⟨y, b4, e2, hs4, y0, y1⟩ := hn b3 3 hs3 (by omega)
  have w4 : IntKind.i64.wrap ((k : Int) + 1) = ((k + 1 : Nat) : Int) := (w64 (x := (k : Int) + 1) (by omega)).trans (by omega)
  have e3 := hir p a' q3.2 (by omega)
  obtain ⟨b', a2, g1, g2, g3, g4, ih⟩ := l_mod1 hn hir (z := z) hm1 hm2 r (k + 1) b4 a' (by omega) hs4 (by omega) (by omega) q3
  by_cases hy : y = 0
  ·refine ⟨b4, a', hs4, by omega, by omega, q3, .inr (dn_back ?_)⟩
   obtain ⟨c, a0, h, rfl, _⟩ := hs
   obtain ⟨c2, a2, h2, rfl, _⟩ := hs2
   obtain ⟨c3, a3, h3, rfl, _⟩ := hs3
   obtain ⟨c4, a4, h4, rfl, _⟩ := hs4
   generalize pad (row a) = Pa at *
   generalize hPQ : Q.set n 1 = PQ at *
   generalize pad (row a') = Pb at *
   subst q1
   simp -implicitDefEqProofs [Z2m_L1, dn_cond, hk4, e1, w1, st, hnQ, hn64, hPQ, e2, hy, List.idxOf, List.findIdx, List.findIdx.go]
  ·by_cases hI : Irr a'
   ·refine ⟨b4, a', hs4, by omega, by omega, q3, .inr (dn_back ?_)⟩
    rw [decide_eq_true hI] at e3
    obtain ⟨c, a0, h, rfl, _⟩ := hs
    obtain ⟨c2, a2, h2, rfl, _⟩ := hs2
    obtain ⟨c3, a3, h3, rfl, _⟩ := hs3
    obtain ⟨c4, a4, h4, rfl, _⟩ := hs4
    generalize pad (row a) = Pa at *
    generalize hPQ : Q.set n 1 = PQ at *
    generalize pad (row a') = Pb at *
    subst q1
    simp -implicitDefEqProofs [Z2m_L1, dn_cond, hk4, e1, w1, st, hnQ, hn64, hPQ, e2, e3, hy, List.idxOf, List.findIdx, List.findIdx.go]
   ·rw [decide_eq_false hI] at e3
    have key : dn O 1 Z2m_L1 ⟨[(0, .ptr 0 []), (1, (.d (.int .i64 p))), (2, (.d (.int .i64 most))), (6, .ptr 1 []), (7, .ptr 2 []), (8, (.d (.int .i64 k)))], [b, .box false (D.arr 64 .leaf (ints .u8 z)), .box false (D.arr 64 .leaf (ints .u8 (pad (row a))))]⟩ = some (.normal, ⟨[(0, .ptr 0 []), (1, (.d (.int .i64 p))), (2, (.d (.int .i64 most))), (6, .ptr 1 []), (7, .ptr 2 []), (8, (.d (.int .i64 (((k + 1 : Nat) : Int)))))], [b4, .box false (D.arr 64 .leaf (ints .u8 z)), .box false (D.arr 64 .leaf (ints .u8 (pad (row a'))))]⟩) := by
     obtain ⟨c, a0, h, rfl, _⟩ := hs
     obtain ⟨c2, a2, h2, rfl, _⟩ := hs2
     obtain ⟨c3, a3, h3, rfl, _⟩ := hs3
     obtain ⟨c4, a4, h4, rfl, _⟩ := hs4
     generalize pad (row a) = Pa at *
     generalize hPQ : Q.set n 1 = PQ at *
     generalize pad (row a') = Pb at *
     subst q1
     simp -implicitDefEqProofs [Z2m_L1, dn_cond, hk4, e1, w1, st, hnQ, hn64, hPQ, e2, e3, hy, w4, List.idxOf, List.findIdx, List.findIdx.go]
    exact ⟨b', a2, g1, g2, g3, g4, ih.imp (dn_round key) (dn_round key)⟩
def H_drawMod (O : Oracle) : Prop := ∀ (p : Int) [IsP p] (b : Blk) (most : Int), Src b → 1 ≤ most → most ≤ 12 → ∃ (a : Fp p) (b' : Blk), O F2m [.ptr 0 [], (.d (.int .i64 p)), (.d (.int .i64 most))] [b] = some (.d (D.arr 64 .leaf (ints .u8 (pad (row a)))), [b'], []) ∧ Src b' ∧ 2 ≤ a.len ∧ a.len ≤ most + 1 ∧ Monic a
theorem h_drawMod (hT : T F2m = some Z2m) (hn : H_next (den T A) F2x) (ht : K_sT (den T A)) (hir : K_sIrr (den T A)) : H_drawMod (den T A) := by
 intro p ip b most hs hm1 hm2
 have e0 := ht p
 have hX : (Pol.X : Fp p).len = 2 := Pol.len_X
 obtain ⟨b', a', g1, g2, g3, g4, e | e⟩ := l_mod1 (O := den T A) hn hir (z := pad []) hm1 hm2 4 0 b (Pol.X : Fp p) rfl hs (by omega) (by omega) ⟨by unfold Pol.ld; rw [Pol.len_X]; rfl, Pol.X_ne⟩
 ·refine ⟨a', b', den_of hT rfl ?_, g1, g2, g3, g4⟩
  rw [show ((0 : Nat) : Int) = 0 from rfl] at e
  obtain ⟨c, a0, h, rfl, _⟩ := hs
  obtain ⟨c2, a2, h2, rfl, _⟩ := g1
  generalize pad (row a') = Pb at *
  generalize pad (row (Pol.X : Fp p)) = Pt at *
  simp -implicitDefEqProofs [Z2m, Z2m_B, e0, e, List.replicate, List.idxOf, List.findIdx]
 ·refine ⟨a', b', den_of hT rfl ?_, g1, g2, g3, g4⟩
  rw [show ((0 : Nat) : Int) = 0 from rfl] at e
  obtain ⟨c, a0, h, rfl, _⟩ := hs
  obtain ⟨c2, a2, h2, rfl, _⟩ := g1
  generalize pad (row a') = Pb at *
  generalize pad (row (Pol.X : Fp p)) = Pt at *
  simp -implicitDefEqProofs [Z2m, Z2m_B, e0, e, List.replicate, List.idxOf, List.findIdx]
def H_bad (O : Oracle) : Prop := ∀ (b : Blk) (p : Int) (l : List Int), Src b → 0 ≤ p → p < 256 → l.length = 64 → Bytes l → ∃ (l' : List Int) (b' : Blk), O F2f [.ptr 0 [], (.d (.int .i64 p)), .d (D.arr 64 .leaf (ints .u8 l))] [b] = some (.d (D.arr 64 .leaf (ints .u8 l')), [b'], []) ∧ Src b' ∧ l'.length = 64 ∧ Bytes l'
theorem h_bad (hT : T F2f = some Z2f) (hn : H_next (den T A) F2x) (hp : H_pick (den T A)) : H_bad (den T A) := by
 intro b p l hs p0 p1 hl hb
 obtain ⟨x, b2, e1, hs2, x0, x1⟩ := hn b 40 hs (by omega)
 by_cases hx : x = 0
 ·obtain ⟨y, b3, e2, hs3, y0, y1⟩ := hn b2 64 hs2 (by omega)
  obtain ⟨k, rfl⟩ : ∃ k : Nat, y = k := ⟨y.toNat, by omega⟩
  obtain ⟨v, b4, e3, hs4, hv⟩ := hp b3 [p, 7, 255, 1] 4 (some 4) hs3 rfl (by omega) (by omega)
  rw [show ints .i64 [p, 7, 255, 1] = [.int .i64 p, .int .i64 7, .int .i64 255, .int .i64 1] from rfl] at e3
  have hv2 : 0 ≤ v ∧ v < 256 := by simp at hv; omega
  have w1 : IntKind.u8.wrap v = v := w8 hv2
  have hk : k < 64 := by omega
  refine ⟨l.set k v, b4, den_of hT rfl ?_, hs4, by rw [List.length_set]; exact hl, fun z hz => by
   rcases List.mem_or_eq_of_mem_set hz with g | rfl
   ·exact hb z g
   ·exact hv2⟩
  subst hx
  obtain ⟨c, a0, h, rfl, _⟩ := hs
  obtain ⟨c2, a2, h2, rfl, _⟩ := hs2
  obtain ⟨c3, a3, h3, rfl, _⟩ := hs3
  obtain ⟨c4, a4, h4, rfl, _⟩ := hs4
  simp -implicitDefEqProofs [Z2f, Z2f_B, dn_cond, e1, e2, e3, w1, hk, hl, List.replicate, List.idxOf, List.findIdx, List.findIdx.go]
 ·refine ⟨l, b2, den_of hT rfl ?_, hs2, hl, hb⟩
  obtain ⟨c, a0, h, rfl, _⟩ := hs
  obtain ⟨c2, a2, h2, rfl, _⟩ := hs2
  simp -implicitDefEqProofs [Z2f, Z2f_B, dn_cond, e1, hx, List.replicate, List.idxOf, List.findIdx, List.findIdx.go]
end Pe

namespace Pe
open Go Gq
variable {T : Nat → Option Fn} {A : Oracle}
def Arr (l : List Int) : Prop := l.length = 64 ∧ Bytes l
theorem arr_row {p : Int} [IsP p] (a : Fp p) : Arr (pad (row a)) := ⟨pad_length _, pad_bytes a⟩
def H_l02Draw (O : Oracle) : Prop := ∀ b : Blk, Src b → ∃ (p : Int) (l m : List Int) (b' : Blk), O F36 [.ptr 0 []] [b] = some (.tup [(.d (.int .i64 p)), .d (D.arr 64 .leaf (ints .u8 l)), .d (D.arr 64 .leaf (ints .u8 m))], [b'], []) ∧ Src b' ∧ 0 ≤ p ∧ p < 256 ∧ Arr l ∧ Arr m
theorem h_l02Draw (hT : T F36 = some Z36) (hn : H_next (den T A) F2x) (hp : H_pick (den T A)) (hpr : H_drawPrime (den T A)) (hd : H_draw (den T A)) (hm : H_drawMod (den T A)) (hb : H_bad (den T A)) : H_l02Draw (den T A) := by
 intro b hs
 obtain ⟨p, b1, e1, hs1, ip⟩ := hpr b hs
 have hp2 := IsP.ge (p := p)
 have hp7 := IsP.le (p := p)
 obtain ⟨x, b2, e2, hs2, hx⟩ := hp b1 [2, 4, 8] 3 (some 3) hs1 rfl (by omega) (by omega)
 rw [show ints .i64 [2, 4, 8] = [.int .i64 2, .int .i64 4, .int .i64 8] from rfl] at e2
 obtain ⟨n, rfl⟩ : ∃ n : Nat, x = n := ⟨x.toNat, by simp at hx; omega⟩
 obtain ⟨a, b3, e3, hs3, -⟩ := hd p b2 n hs2 (by simp at hx; omega)
 obtain ⟨y, b4, e4, hs4, hy⟩ := hp b3 [2, 3, 4, 5] 4 (some 4) hs3 rfl (by omega) (by omega)
 rw [show ints .i64 [2, 3, 4, 5] = [.int .i64 2, .int .i64 3, .int .i64 4, .int .i64 5] from rfl] at e4
 obtain ⟨m, b5, e5, hs5, -⟩ := hm p b4 y hs4 (by simp at hy; omega) (by simp at hy; omega)
 obtain ⟨k, b6, e6, hs6, k0, k1⟩ := hn b5 40 hs5 (by omega)
 obtain ⟨hal, hab⟩ := arr_row a
 obtain ⟨hml, hmb⟩ := arr_row m
 by_cases c0 : k = 0
 ·obtain ⟨q, b7, e7, hs7, hq⟩ := hp b6 [0, 1, 4, 11] 4 (some 4) hs6 rfl (by omega) (by omega)
  rw [show ints .i64 [0, 1, 4, 11] = [.int .i64 0, .int .i64 1, .int .i64 4, .int .i64 11] from rfl] at e7
  refine ⟨q, pad (row a), pad (row m), b7, den_of hT rfl ?_, hs7, by simp at hq; omega, by simp at hq; omega, ⟨hal, hab⟩, ⟨hml, hmb⟩⟩
  obtain ⟨c, a0, h, rfl, _⟩ := hs
  obtain ⟨_, _, _, rfl, _⟩ := hs1
  obtain ⟨_, _, _, rfl, _⟩ := hs2
  obtain ⟨_, _, _, rfl, _⟩ := hs3
  obtain ⟨_, _, _, rfl, _⟩ := hs4
  obtain ⟨_, _, _, rfl, _⟩ := hs5
  obtain ⟨_, _, _, rfl, _⟩ := hs6
  obtain ⟨_, _, _, rfl, _⟩ := hs7
  generalize pad (row a) = Pa at *
  generalize pad (row m) = Pm at *
  simp -implicitDefEqProofs [Z36, ir_spec_l02Draw_B, dn_cond, e1, e2, e3, e4, e5, e6, e7, c0, List.replicate, List.idxOf, List.findIdx, List.findIdx.go]
 ·by_cases c1 : k = 1
  ·obtain ⟨m2, b7, e7, hs7, -⟩ := hd p b6 7 hs6 (by omega)
   rw [show ((7 : Nat) : Int) = 7 from rfl] at e7
   refine ⟨p, pad (row a), pad (row m2), b7, den_of hT rfl ?_, hs7, by omega, by omega, ⟨hal, hab⟩, arr_row m2⟩
   obtain ⟨c, a0, h, rfl, _⟩ := hs
   obtain ⟨_, _, _, rfl, _⟩ := hs1
   obtain ⟨_, _, _, rfl, _⟩ := hs2
   obtain ⟨_, _, _, rfl, _⟩ := hs3
   obtain ⟨_, _, _, rfl, _⟩ := hs4
   obtain ⟨_, _, _, rfl, _⟩ := hs5
   obtain ⟨_, _, _, rfl, _⟩ := hs6
   obtain ⟨_, _, _, rfl, _⟩ := hs7
   generalize pad (row a) = Pa at *
   generalize pad (row m) = Pm at *
   generalize pad (row m2) = Pm2 at *
   simp -implicitDefEqProofs [Z36, ir_spec_l02Draw_B, dn_cond, e1, e2, e3, e4, e5, e6, e7, c1, List.replicate, List.idxOf, List.findIdx, List.findIdx.go]
  ·by_cases c2 : k = 2
   ·obtain ⟨l2, b7, e7, hs7, g1, g2⟩ := hb b6 p (pad (row a)) hs6 (by omega) (by omega) hal hab
    refine ⟨p, l2, pad (row m), b7, den_of hT rfl ?_, hs7, by omega, by omega, ⟨g1, g2⟩, ⟨hml, hmb⟩⟩
    obtain ⟨c, a0, h, rfl, _⟩ := hs
    obtain ⟨_, _, _, rfl, _⟩ := hs1
    obtain ⟨_, _, _, rfl, _⟩ := hs2
    obtain ⟨_, _, _, rfl, _⟩ := hs3
    obtain ⟨_, _, _, rfl, _⟩ := hs4
    obtain ⟨_, _, _, rfl, _⟩ := hs5
    obtain ⟨_, _, _, rfl, _⟩ := hs6
    obtain ⟨_, _, _, rfl, _⟩ := hs7
    generalize pad (row a) = Pa at *
    generalize pad (row m) = Pm at *
    simp -implicitDefEqProofs [Z36, ir_spec_l02Draw_B, dn_cond, e1, e2, e3, e4, e5, e6, e7, c2, List.replicate, List.idxOf, List.findIdx, List.findIdx.go]
   ·refine ⟨p, pad (row a), pad (row m), b6, den_of hT rfl ?_, hs6, by omega, by omega, ⟨hal, hab⟩, ⟨hml, hmb⟩⟩
    obtain ⟨c, a0, h, rfl, _⟩ := hs
    obtain ⟨_, _, _, rfl, _⟩ := hs1
    obtain ⟨_, _, _, rfl, _⟩ := hs2
    obtain ⟨_, _, _, rfl, _⟩ := hs3
    obtain ⟨_, _, _, rfl, _⟩ := hs4
    obtain ⟨_, _, _, rfl, _⟩ := hs5
    obtain ⟨_, _, _, rfl, _⟩ := hs6
    generalize pad (row a) = Pa at *
    generalize pad (row m) = Pm at *
    simp -implicitDefEqProofs [Z36, ir_spec_l02Draw_B, dn_cond, e1, e2, e3, e4, e5, e6, c0, c1, c2, List.replicate, List.idxOf, List.findIdx, List.findIdx.go]
end Pe

namespace Pe
open Go Gq
variable {T : Nat → Option Fn} {A : Oracle}
section
variable {p : Int} [IsP p]
theorem IsFac.small {m : Fp p} (hm : m ≠ 0) (hl : m.len ≤ 13) {L : Facs p} (h : IsFac m L) : (∀ x ∈ L, 2 ≤ x.1.len ∧ x.1.len ≤ 13 ∧ 1 ≤ x.2 ∧ x.2 ≤ 12) ∧ dgF L + 1 = m.len := by
 refine ⟨fun x hx => ?_, ?_⟩
 ·obtain ⟨q1, q2, q3, _⟩ := h.len hm hx
  exact ⟨q1, by omega, (h.ok.irr x hx).2.2, by omega⟩
 ·rw [← dgF_len h.ok]
  conv => rhs; rw [h.eq]
  exact (Pol.len_Cmul (Pol.ld_ne hm) _).symm
end
section
variable {p : Int} [IsP p]
end
end Pe

namespace Pe
open Go Gq
variable {T : Nat → Option Fn} {A : Oracle}
section
variable {p : Int} [IsP p]
end
end Pe

namespace Pe
open Go Gq
variable {T : Nat → Option Fn} {A : Oracle}
def fineP (p : Int) : Int := if isP p then p else 3
theorem fineP_ok (p : Int) : IsP (fineP p) := by
 unfold fineP
 by_cases h : isP p = true
 ·rw [if_pos h]; exact isP_of h
 ·rw [if_neg h]; exact ⟨by omega⟩
def C_sFine (O : Oracle) : Prop := ∀ p : Int, ask O F37 [(D.int .i64 p)] = some (D.int .i64 (fineP p))
theorem c_sFine (hT : T F37 = some Z37) (hp : C_sPrime (den T A)) : C_sFine (den T A) := by
 intro p
 have e := hp p
 unfold fineP
 refine ask_of hT rfl ?_
 by_cases h : isP p = true
 ·rw [h] at e
  rw [if_pos h]
  simp -implicitDefEqProofs [Z37, Z37_B, dn_cond, e]
 ·rw [Bool.not_eq_true] at h
  rw [h] at e
  rw [if_neg (by rw [h]; exact Bool.false_ne_true)]
  simp -implicitDefEqProofs [Z37, Z37_B, dn_cond, e]
end Pe

namespace Pe
open Go Gq
section
variable {p : Int}
end
section
variable {p : Int} [IsP p]
theorem cop_dv {b a y : Fp p} (h : ∃ u v : Fp p, u * b + v * a = 1) (h1 : Dv b y) (h2 : Dv a y) : Dv (b * a) y := by
 obtain ⟨u, v, e⟩ := h
 obtain ⟨s, hs⟩ := h1
 obtain ⟨t, ht⟩ := h2
 refine ⟨u * t + v * s, ?_⟩
 have e1 : y = y * (u * b) + y * (v * a) := by rw [← Gq.mul_add, e, Gq.mul_one]
 rw [e1]
 conv => lhs; lhs; rw [ht]
 conv => lhs; rhs; rw [hs]
 exact ring_of [u, v, s, t, a, b] rfl
theorem pow_small {d : Nat} (hd : d ≤ 12) : p ^ d < 1000000000000 := by
 have h1 := ipow_mono (p := p) (by have := IsP.pos (p := p); omega) hd
 have h2 : p ^ 12 < 1000000000000 := by rcases IsP.h (p := p) with h | h | h | h <;> (subst h; decide)
 omega
end
end Pe

namespace Pe
open Go Gq
variable {T : Nat → Option Fn} {A : Oracle}
theorem codeP_each {p : Int} {ls : List (List Int)} (h : codeP p ls = 0) {l : List Int} (hl : l ∈ ls) : codeP p [l] = 0 := by
 unfold codeP at h
 split at h
 ·rename_i g
  have g2 := List.all_eq_true.1 g.2 l hl
  unfold codeP
  rw [if_pos ⟨g.1, by simpa using g2⟩]
 ·cases h
section
variable {p : Int} [IsP p]
def Un (M X : Fp p) : Prop := Pol.gcd X M = 1
theorem un_inv {M X : Fp p} (hM : M ≠ 0) (h : Un M X) : Quo.mk M (invm M X) * Quo.mk M X = 1 := by
 have e := Pol.bezout_eq (a := X) (b := M) (.inr hM)
 rw [show Pol.gcd X M = 1 from h] at e
 unfold invm
 rw [Pol.mk_mod, ← Quo.mk_one, ← e, Quo.mk_add, Quo.mk_mul, Quo.mk_mul, show Quo.mk M M = 0 from dv_iff_mk.1 (Dv.refl M), Gq.mul_zero, Gq.add_zero]
theorem un_mod {M X : Fp p} (hM : M ≠ 0) : Un M (X % M) ↔ Un M X := by
 have key : ∀ c, Dv c M → (Dv c (X % M) ↔ Dv c X) := fun c hc => by
  have e : X = X / M * M + X % M := Pol.div_mod X M
  constructor
  ·intro h
   rw [e]
   exact (hc.mul_left _).add h
  ·intro h
   have e2 : X % M = X - X / M * M := by
    conv => rhs; lhs; rw [e]
    exact ring_of [X / M, M, X % M] rfl
   rw [e2]
   exact h.sub (hc.mul_left _)
 unfold Un
 have h0 : X ≠ 0 ∨ M ≠ 0 := .inr hM
 have h1 : X % M ≠ 0 ∨ M ≠ 0 := .inr hM
 have e : Pol.gcd (X % M) M = Pol.gcd X M := Pol.gcd_unique h1 (Pol.gcd_monic h0) ((key _ (Pol.gcd_dv_right h0)).2 (Pol.gcd_dv_left h0)) (Pol.gcd_dv_right h0) fun c c1 c2 => Pol.dv_gcd h0 ((key c c2).1 c1) c2
 rw [e]
theorem inv_unique {M X u v : Fp p} (hM : M ≠ 0) (h1 : Quo.mk M u * Quo.mk M X = 1) (h2 : Quo.mk M v * Quo.mk M X = 1) : u % M = v % M := by
 refine (Pol.mod_eq_iff hM).2 ?_
 have e : Quo.mk M u * (Quo.mk M v * Quo.mk M X) = Quo.mk M v * (Quo.mk M u * Quo.mk M X) := ring_of [Quo.mk M u, Quo.mk M v, Quo.mk M X] rfl
 rwa [h1, h2, Gq.mul_one, Gq.mul_one] at e
theorem invm_mod {M X : Fp p} (hM : M ≠ 0) (h : Un M X) : invm M (X % M) = invm M X := by
 have h1 := un_inv hM ((un_mod hM).2 h)
 rw [Pol.mk_mod] at h1
 have h2 := un_inv hM h
 have e := inv_unique hM h1 h2
 rwa [Pol.mod_small (invm_len hM _), Pol.mod_small (invm_len hM _)] at e
end
end Pe

namespace Pe
open Go Gq
variable {T : Nat → Option Fn} {A : Oracle}
section
variable {p : Int} [ip : IsP p] {M X : Fp p}
end
theorem one_dec {p : Int} [IsP p] {d : Fp p} (hd : Monic d) [Decidable (d.len = 1 ∧ cf (row d) 0 = 1)] [Decidable (d = 1)] : decide (d.len = 1 ∧ cf (row d) 0 = 1) = decide (d = 1) := by
 refine decide_eq_decide.2 ⟨fun h => hd.eq_one h.1, ?_⟩
 rintro rfl
 refine ⟨Pol.len_one, ?_⟩
 rw [row_one]; rfl
end Pe

namespace Pe
open Go Gq
variable {T : Nat → Option Fn} {A : Oracle}
def K_sGcd2 (O : Oracle) : Prop := ∀ (p : Int) [IsP p] (a b : Fp p), b ≠ 0 → a.len ≤ 64 → b.len ≤ 64 →
 ask O F2p [(D.int .i64 p), (D.arr 64 .leaf (ints .u8 (pad (row a)))), (D.arr 64 .leaf (ints .u8 (pad (row b))))] = some (D.arr 64 .leaf (ints .u8 (pad (row (Pol.gcd a b)))))
theorem k_sGcd2 (hT : T F2p = some Z2p) (hdg : K_sDeg (den T A)) (hb : K_sBezout (den T A)) : K_sGcd2 (den T A) := by
 intro p i a b h0 hal hbl
 have e1 := hdg p a hal
 have e3 := hdg p b hbl
 have e2 := hb p a b (.inr h0) hal hbl
 have hp := Pol.len_pos h0
 have hge : ¬ ((b.len : Int) - 1 < 0) := by omega
 refine ask_of hT rfl ?_
 unfold Pol.gcd
 generalize pad (row (Pol.bezout a b).1) = P1 at *
 generalize pad (row (Pol.bezout a b).2.1) = P2 at *
 generalize pad (row (Pol.bezout a b).2.2) = P3 at *
 generalize pad (row a) = Pa at *
 generalize pad (row b) = Pb at *
 generalize (b.len : Int) - 1 = n2 at *
 generalize (a.len : Int) - 1 = n1 at *
 by_cases h : n1 < 0
 ·simp -implicitDefEqProofs [Z2p, Z2p_B, dn_cond, e1, e2, e3, hge, h, List.replicate]
 ·simp -implicitDefEqProofs [Z2p, Z2p_B, dn_cond, e1, e2, h, List.replicate]
theorem un_ne {p : Int} [IsP p] {M X : Fp p} (h2 : 2 ≤ M.len) (h : Un M X) : X ≠ 0 := by
 rintro rfl
 have hM : M ≠ 0 := fun h0 => by rw [h0, Pol.len_zero] at h2; omega
 have h3 := Pol.dv_gcd (.inr hM) (Dv.zero M) (Dv.refl M)
 rw [show Pol.gcd 0 M = 1 from h] at h3
 have h4 := h3.len Pol.one_ne
 rw [Pol.len_one] at h4
 omega
def K_sInvU (O : Oracle) : Prop := ∀ (p : Int) [IsP p] (X M : Fp p), 2 ≤ M.len → M.len ≤ 63 → X.len ≤ 64 → Un M X → ask O F38 [(D.int .i64 p), (D.arr 64 .leaf (ints .u8 (pad (row X)))), (D.arr 64 .leaf (ints .u8 (pad (row M))))] = some (D.arr 64 .leaf (ints .u8 (pad (row (invm M X)))))
theorem k_sInvU (hT : T F38 = some Z38) (hmo : K_sMod (den T A)) (hb : K_sBezout (den T A)) : K_sInvU (den T A) := by
 intro p ip X M h2 h63 hX hu
 have hM : M ≠ 0 := fun h0 => by rw [h0, Pol.len_zero] at h2; omega
 have hu' := (un_mod hM).2 hu
 have hml := Pol.len_mod X hM
 have e1 := hmo p X M hM hX (by omega)
 have e2 := hb p (X % M) M (.inr hM) (by omega) (by omega)
 have e3 := hmo p (Pol.bezout (X % M) M).2.1 M hM (bez_64 (un_ne h2 hu') h63) (by omega)
 rw [show (Pol.bezout (X % M) M).2.1 % M = invm M (X % M) from rfl, invm_mod hM hu] at e3
 refine ask_of hT rfl ?_
 generalize pad (row (invm M X)) = R at *
 generalize pad (row (Pol.bezout (X % M) M).1) = R1 at *
 generalize pad (row (Pol.bezout (X % M) M).2.1) = R2 at *
 generalize pad (row (Pol.bezout (X % M) M).2.2) = R3 at *
 generalize pad (row (X % M)) = Pa at *
 generalize pad (row X) = Px at *
 generalize pad (row M) = Pm at *
 simp -implicitDefEqProofs [Z38, Z38_B, e1, e2, e3, List.replicate]
end Pe

namespace Pe
open Go Gq
variable {T : Nat → Option Fn} {A : Oracle}
end Pe

namespace Pe
open Go Gq
variable {T : Nat → Option Fn} {A : Oracle}
def C_big (O : Oracle) : Prop := ∀ L : List D, ask O F1i [.sl .leaf L] = some (D.bool (decide ((4096 : Int) < L.length)))
theorem two_code {p : Int} [IsP p] (a b : Fp p) : codeP p [pad (row a), pad (row b)] = 0 := codeP_good [a, b]
def K_DividePolys (O : Oracle) : Prop := ∀ (p : Int) [IsP p] (X M : Fp p), X.len ≤ 64 → M ≠ 0 → M.len ≤ 64 → ask O F6 [(D.int .i64 p), (D.arr 64 .leaf (ints .u8 (pad (row X)))), (D.arr 64 .leaf (ints .u8 (pad (row M))))] = some (.tup [(D.arr 64 .leaf (ints .u8 (pad (row (X / M))))), (D.arr 64 .leaf (ints .u8 (pad (row (X % M))))), (D.int .i64 0)])
theorem k_DividePolys (hT : T F6 = some Z6) (hpc : C_polysCode (den T A)) (hro : K_rowOf (den T A)) (hdv : K_divide (den T A)) (hpo : K_poly (den T A)) : K_DividePolys (den T A) := by
 intro p ip X M hX hM hl
 have e1 := hpc p [pad (row X), pad (row M)] (fun x hx => by
  simp at hx
  rcases hx with rfl | rfl
  ·exact ⟨pad_length _, pad_bytes X⟩
  ·exact ⟨pad_length _, pad_bytes M⟩) (by simp)
 rw [two_code, show [pad (row X), pad (row M)].map arr8 = [(D.arr 64 .leaf (ints .u8 (pad (row X)))), (D.arr 64 .leaf (ints .u8 (pad (row M))))] from rfl] at e1
 have e3 : D.beq (.arr 64 .leaf .int) (D.arr 64 .leaf (ints .u8 (pad (row M)))) (D.arr 64 .leaf (ints .u8 (pad []))) = some false := by
  rw [beq_P (pad_length _) (pad_length _), decide_eq_false]
  intro h
  rw [← row_zero (p := p)] at h
  exact hM ((pad_row_inj hl (by rw [Pol.len_zero]; omega)).1 h)
 have e4 := hro p X hX
 have e5 := hro p M hl
 have e6 := hdv p X M hM (by omega) (by omega)
 have hml := Pol.len_mod X hM
 have hdl := Pol.len_div_le X hM
 have e7 := hpo p (X / M) (by omega)
 have e8 := hpo p (X % M) (by omega)
 refine ask_of hT rfl ?_
 generalize pad (row (X / M)) = Pq at *
 generalize row (X / M) = Rq at *
 generalize pad (row (X % M)) = Pr at *
 generalize row (X % M) = Rr at *
 generalize pad (row X) = Px at *
 generalize row X = Rx at *
 generalize pad (row M) = Pm at *
 generalize row M = Rm at *
 simp -implicitDefEqProofs [Z6, Z6_B, dn_cond, e1, e3, e4, e5, e6, e7, e8, List.replicate]
theorem c_big (hT : T F1i = some Z1i) : C_big (den T A) := by
 intro L
 refine ask_of hT rfl ?_
 simp -implicitDefEqProofs [Z1i, Z1i_B]
end Pe

namespace Pe
open Go Gq
variable {T : Nat → Option Fn} {A : Oracle}
theorem l_roll {O : Oracle} {code : List Int} (hc : code.length ≤ 4096) (hb : Bytes code) : ∀ (r i : Nat) (h : Int), i + r = code.length → ∃ h' : Int,
 dn O 0 (.loop Z1l_L0) ⟨[(0, .d (.sl .leaf (ints .u8 code))), (5, .ptr 0 []), (6, (.d (.int .i64 i)))], [srcB code 0 h]⟩ =
  some (.exit 0, ⟨[(0, .d (.sl .leaf (ints .u8 code))), (5, .ptr 0 []), (6, (.d (.int .i64 code.length))), (19, (.d (.bool false)))], [srcB code 0 h']⟩)
 | 0, i, h, hi => by
  obtain rfl : i = code.length := by omega
  refine ⟨h, dn_stop ?_⟩
  simp -implicitDefEqProofs [Z1l_L0, dn_cond]
 | r + 1, i, h, hi => by
  have hlt : i < code.length := by omega
  have hlt' : (i : Int) < code.length := by omega
  have hbk := hb _ (List.getElem_mem hlt)
  have w4 : IntKind.i64.wrap ((i : Int) + 1) = ((i + 1 : Nat) : Int) := (w64 (x := (i : Int) + 1) (by omega)).trans (by omega)
  obtain ⟨h2, hh2⟩ : ∃ h2 : Int, IntKind.u64.wrap (IntKind.u64.wrap (IntKind.u64.wrap (h * 1099511628211) + IntKind.u64.wrap code[i]) + 5) = h2 := ⟨_, rfl⟩
  obtain ⟨h', ih⟩ := l_roll hc hb r (i + 1) h2 (by omega)
  refine ⟨h', dn_round ?_ ih⟩
  simp -implicitDefEqProofs [Z1l_L0, dn_cond, hlt, hlt', w4, hh2]
def H_roll (O : Oracle) : Prop := ∀ (code : List Int) (s : Int), Bytes code → code.length ≤ 4096 → ∃ b : Blk, O F1l [.d (.sl .leaf (ints .u8 code)), .d (.int .u64 s)] [] = some (.ptr 0 [], [], [b]) ∧ Src b
theorem h_roll (hT : T F1l = some Z1l) : H_roll (den T A) := by
 intro code s hb hc
 obtain ⟨h0, hh0⟩ : ∃ h0 : Int, IntKind.u64.wrap (IntKind.u64.wrap (s * 8219) + IntKind.u64.wrap (code.length : Int)) = h0 := ⟨_, rfl⟩
 obtain ⟨h', e⟩ := l_roll (O := den T A) hc hb code.length 0 h0 (Nat.zero_add _)
 rw [show ((0 : Nat) : Int) = 0 from rfl, show srcB code 0 h0 = .box false (.st [.leaf, .leaf, .leaf] [.sl .leaf (ints .u8 code), .int .i64 0, .int .u64 h0]) from rfl] at e
 refine ⟨srcB code 0 h', den_of hT rfl ?_, ⟨code, 0, h', rfl, Nat.zero_le _, by omega, hb⟩⟩
 simp -implicitDefEqProofs [Z1l, Z1l_B, hh0, e, List.idxOf, List.findIdx, List.findIdx.go]
theorem h_below (hT : T F1j = some Z1j) : H_next (den T A) F1j := by
 rintro b n ⟨code, k, h, rfl, hk, hc, hb⟩ hn
 by_cases h1 : n < 1
 ·refine ⟨0, _, den_of hT rfl ?_, ⟨code, k, h, rfl, hk, hc, hb⟩, Int.le_refl _, .inr rfl⟩
  simp -implicitDefEqProofs [Z1j, ir_laws_dice_below_B, dn_cond, h1]
 ·obtain ⟨hh, hhh⟩ : ∃ hh : Int, IntKind.u64.wrap (IntKind.u64.wrap (h * 6364136223846793005) + 1442695040888963407) = hh := ⟨_, rfl⟩
  have hx := andI_le (hh.fdiv 8589934592)
  obtain ⟨x, hX⟩ : ∃ x : Int, andI .u64 (hh.fdiv 8589934592) 16777215 = x := ⟨_, rfl⟩
  rw [hX] at hx
  have w0 : IntKind.i64.wrap x = x := w64 (by omega)
  have hn0 : ¬ n = 0 := by omega
  have tm : ∀ y : Int, 0 ≤ y → 0 ≤ y.tmod n ∧ y.tmod n < n := fun y hy => by
   rw [Int.tmod_eq_emod_of_nonneg hy]
   exact ⟨Int.emod_nonneg _ hn0, Int.emod_lt_of_pos _ (by omega)⟩
  by_cases h2 : k < code.length
  ·have hbk := hb _ (List.getElem_mem h2)
   have h2' : (k : Int) < code.length := by omega
   have w1 : IntKind.i64.wrap code[k] = code[k] := w64 (by omega)
   have w2 : IntKind.i64.wrap (x + code[k]) = x + code[k] := w64 (by omega)
   have w3 : IntKind.i64.wrap ((k : Int) + 1) = ((k + 1 : Nat) : Int) := (w64 (x := (k : Int) + 1) (by omega)).trans (by omega)
   obtain ⟨t1, t2⟩ := tm (x + code[k]) (by omega)
   refine ⟨(x + code[k]).tmod n, srcB code (k + 1) hh, den_of hT rfl ?_, ⟨code, k + 1, hh, rfl, by omega, hc, hb⟩, t1, .inl t2⟩
   simp -implicitDefEqProofs [Z1j, ir_laws_dice_below_B, dn_cond, shiftI, shr33, h1, hn0, h2, h2', hhh, hX, w0, w1, w2, w3]
  ·have h2' : ¬ (k : Int) < code.length := by omega
   obtain ⟨t1, t2⟩ := tm x (by omega)
   refine ⟨x.tmod n, srcB code k hh, den_of hT rfl ?_, ⟨code, k, hh, rfl, hk, hc, hb⟩, t1, .inl t2⟩
   simp -implicitDefEqProofs [Z1j, ir_laws_dice_below_B, dn_cond, shiftI, shr33, h1, hn0, h2', hhh, hX, w0]
theorem l_poly9 {O : Oracle} (hn : H_next O F1j) {p : Int} [IsP p] {b1 : Blk} {n : Nat} (hn64 : n ≤ 60) : ∀ (r i : Nat) (b : Blk) (Q : List Int), i + r = n + 1 → Src b → DrI p Q (n + 1) → ∃ (b' : Blk) (Q' : List Int), Src b' ∧ DrI p Q' (n + 1) ∧
 dn O 1 (.loop Z1k_L0) ⟨[(0, .ptr 0 []), (1, (.d (.int .i64 p))), (2, (.d (.int .i64 ((n : Int))))), (6, .ptr 1 []), (7, .ptr 2 []), (8, (.d (.int .i64 i)))], [b, b1, .box false (D.arr 64 .leaf (ints .u8 Q))]⟩ =
  some (.exit 0, ⟨[(0, .ptr 0 []), (1, (.d (.int .i64 p))), (2, (.d (.int .i64 ((n : Int))))), (6, .ptr 1 []), (7, .ptr 2 []), (8, (.d (.int .i64 (((n + 1 : Nat) : Int))))), (12, (.d (.bool false)))], [b', b1, .box false (D.arr 64 .leaf (ints .u8 Q'))]⟩)
 | 0, i, b, Q, hi, hs, hQ => by
  obtain rfl : i = n + 1 := by omega
  refine ⟨b, Q, hs, hQ, dn_stop ?_⟩
  obtain ⟨c, a, h, rfl, _⟩ := hs
  have hle : ¬ ((n + 1 : Nat) : Int) ≤ n := by omega
  generalize ((n + 1 : Nat) : Int) = nn at *
  simp -implicitDefEqProofs [Z1k_L0, dn_cond, hle]
 | r + 1, i, b, Q, hi, hs, hQ => by
  have hp := IsP.ge (p := p)
  have hp7 := IsP.le (p := p)
  obtain ⟨y, b3, e2, hs3, y0, y1⟩ := hn b p hs (by omega)
  have w2 : IntKind.u8.wrap y = y := w8 (by omega)
  have w4 : IntKind.i64.wrap ((i : Int) + 1) = ((i + 1 : Nat) : Int) := (w64 (x := (i : Int) + 1) (by omega)).trans (by omega)
  have hle : i ≤ n := by omega
  have hiQ : i < Q.length := by rw [hQ.l]; omega
  have hi64 : i < 64 := by omega
  obtain ⟨b', Q', hs', hQ', ih⟩ := l_poly9 hn (b1 := b1) hn64 r (i + 1) b3 (Q.set i y) (by omega) hs3 (hQ.set y0 (by omega) (by omega))
  refine ⟨b', Q', hs', hQ', dn_round ?_ ih⟩
  obtain ⟨c, a, h, rfl, _⟩ := hs
  obtain ⟨c3, a3, h3, rfl, _⟩ := hs3
  simp -implicitDefEqProofs [Z1k_L0, dn_cond, hle, e2, w2, w4, hiQ, hi64, List.idxOf, List.findIdx, List.findIdx.go]
def H_poly9 (O : Oracle) : Prop := ∀ (p : Int) [IsP p] (b : Blk) (n : Nat), Src b → n ≤ 60 → ∃ (a : Fp p) (b' : Blk), O F1k [.ptr 0 [], (.d (.int .i64 p)), (.d (.int .i64 ((n : Int))))] [b] = some (.d (D.arr 64 .leaf (ints .u8 (pad (row a)))), [b'], []) ∧ Src b' ∧ a.len ≤ n + 1
theorem h_poly9 (hT : T F1k = some Z1k) (hn : H_next (den T A) F1j) : H_poly9 (den T A) := by
 intro p ip b n hs h60
 obtain ⟨b', Q, hs', hQ, e2⟩ := l_poly9 (p := p) hn (b1 := .box false (D.arr 64 .leaf (ints .u8 (pad [])))) (n := n) h60 (n + 1) 0 b (pad []) (by omega) hs (.zero p _)
 rw [show ((0 : Nat) : Int) = 0 from rfl] at e2
 obtain ⟨q1, q2⟩ := hQ.pol
 refine ⟨polOf p Q, b', den_of hT rfl ?_, hs', q2⟩
 rw [← q1]
 obtain ⟨c, a, h, rfl, _⟩ := hs
 obtain ⟨c', a', h', rfl, _⟩ := hs'
 simp -implicitDefEqProofs [Z1k, Z1k_B, e2, List.replicate, List.idxOf, List.findIdx]
def H_DrawSymbolOf (O : Oracle) : Prop := ∀ code : List Int, Bytes code → code.length ≤ 4096 → ∃ (p : Int) (a m : List Int), ask O F2b [.sl .leaf (ints .u8 code)] = some (.tup [(D.int .i64 p), (D.arr 64 .leaf (ints .u8 a)), (D.arr 64 .leaf (ints .u8 m))]) ∧ 0 ≤ p ∧ p < 256 ∧ Arr a ∧ Arr m
theorem h_DrawSymbolOf (hT : T F2b = some Z2b) (hf : H_from (den T A)) (hd : H_l02Draw (den T A)) (hn : H_next (den T A) F2x) (hp : C_sPrime (den T A)) (hm : H_drawMod (den T A)) : H_DrawSymbolOf (den T A) := by
 intro code hb hc
 obtain ⟨b, e1, hs⟩ := hf code hb hc
 obtain ⟨p, l, m, b', e2, hs', p0, p1, hl, hm'⟩ := hd b hs
 obtain ⟨x, b3, e3, hs3, -, -⟩ := hn b' 3 hs' (by omega)
 have e4 := hp p
 by_cases hx : x = 0
 ·by_cases hpp : isP p = true
  ·haveI : IsP p := isP_of hpp
   obtain ⟨a, b4, e5, hs4, -, -, -⟩ := hm p b3 7 hs3 (by omega) (by omega)
   refine ⟨p, l, pad (row a), ask_of hT rfl ?_, p0, p1, hl, arr_row a⟩
   obtain ⟨_, _, _, rfl, _⟩ := hs
   obtain ⟨_, _, _, rfl, _⟩ := hs'
   obtain ⟨_, _, _, rfl, _⟩ := hs3
   obtain ⟨_, _, _, rfl, _⟩ := hs4
   generalize pad (row a) = Pa at *
   rw [hpp] at e4
   simp -implicitDefEqProofs [Z2b, Z2b_B, dn_cond, e1, e2, e3, e4, e5, hx, List.replicate, List.idxOf, List.findIdx, List.findIdx.go]
  ·rw [Bool.not_eq_true] at hpp
   rw [hpp] at e4
   refine ⟨p, l, m, ask_of hT rfl ?_, p0, p1, hl, hm'⟩
   obtain ⟨_, _, _, rfl, _⟩ := hs
   obtain ⟨_, _, _, rfl, _⟩ := hs'
   obtain ⟨_, _, _, rfl, _⟩ := hs3
   simp -implicitDefEqProofs [Z2b, Z2b_B, dn_cond, e1, e2, e3, e4, hx, List.replicate, List.idxOf, List.findIdx, List.findIdx.go]
 ·refine ⟨p, l, m, ask_of hT rfl ?_, p0, p1, hl, hm'⟩
  obtain ⟨_, _, _, rfl, _⟩ := hs
  obtain ⟨_, _, _, rfl, _⟩ := hs'
  obtain ⟨_, _, _, rfl, _⟩ := hs3
  simp -implicitDefEqProofs [Z2b, Z2b_B, dn_cond, e1, e2, e3, hx, List.replicate, List.idxOf, List.findIdx, List.findIdx.go]
def H_DrawRestForTwo (O : Oracle) : Prop := ∀ code : List Int, Bytes code → code.length ≤ 4096 → ∃ (p : Int) (a m b k : List Int), ask O F2a [.sl .leaf (ints .u8 code)] = some (.tup [(D.int .i64 p), (D.arr 64 .leaf (ints .u8 a)), (D.arr 64 .leaf (ints .u8 m)), (D.arr 64 .leaf (ints .u8 b)), (D.arr 64 .leaf (ints .u8 k))]) ∧ 0 ≤ p ∧ p < 256 ∧ Arr a ∧ Arr m ∧ Arr b ∧ Arr k
theorem h_DrawRestForTwo (hT : T F2a = some Z2a) (hf : H_from (den T A)) (hd : H_l02Draw (den T A)) (hfi : C_sFine (den T A)) (hdr : H_draw (den T A)) (hm : H_drawMod (den T A)) : H_DrawRestForTwo (den T A) := by
 intro code hb hc
 obtain ⟨b, e1, hs⟩ := hf code hb hc
 obtain ⟨p, l, m, b', e2, hs', p0, p1, hl, hm'⟩ := hd b hs
 have e3 := hfi p
 haveI := fineP_ok p
 obtain ⟨a, b3, e4, hs3, -⟩ := hdr (fineP p) b' 3 hs' (by omega)
 obtain ⟨k, b4, e5, hs4, -, -, -⟩ := hm (fineP p) b3 3 hs3 (by omega) (by omega)
 rw [show ((3 : Nat) : Int) = 3 from rfl] at e4
 refine ⟨p, l, m, pad (row a), pad (row k), ask_of hT rfl ?_, p0, p1, hl, hm', arr_row a, arr_row k⟩
 obtain ⟨_, _, _, rfl, _⟩ := hs
 obtain ⟨_, _, _, rfl, _⟩ := hs'
 obtain ⟨_, _, _, rfl, _⟩ := hs3
 obtain ⟨_, _, _, rfl, _⟩ := hs4
 generalize pad (row a) = Pa at *
 generalize pad (row k) = Pk at *
 generalize fineP p = q at *
 simp -implicitDefEqProofs [Z2a, Z2a_B, e1, e2, e3, e4, e5, List.replicate, List.idxOf, List.findIdx, List.findIdx.go]
end Pe

namespace Pe
open Go Gq
variable {T : Nat → Option Fn} {A : Oracle}
def SyOk (p : Int) (a m : List Int) : Prop := ∃ (_ : IsP p) (X M : Fp p), a = pad (row X) ∧ m = pad (row M) ∧ X.len ≤ 64 ∧ Monic M ∧ 2 ≤ M.len ∧ M.len ≤ 13
open Classical in
noncomputable def syD (p : Int) (a m : List Int) : D :=
 if h : SyOk p a m then haveI : IsP p := h.choose; .tup [(D.int .i64 (symb p (polOf p a) (polOf p m))), (D.int .i64 0)] else .tup [(D.int .i64 0), (D.int .i64 (if codeP p [a, m] = 0 then 2 else 1))]
theorem syD_ok {p : Int} [ip : IsP p] {X M : Fp p} (hX : X.len ≤ 64) (hM : Monic M) (h2 : 2 ≤ M.len) (h13 : M.len ≤ 13) : syD p (pad (row X)) (pad (row M)) = .tup [(D.int .i64 (symb p X M)), (D.int .i64 0)] := by
 unfold syD
 rw [dif_pos ⟨ip, X, M, rfl, rfl, hX, hM, h2, h13⟩, polOf_pad hX, polOf_pad (by omega)]
theorem syD_bad {p : Int} {a m : List Int} (h : ¬ codeP p [a, m] = 0) : syD p a m = .tup [(D.int .i64 0), (D.int .i64 1)] := by
 unfold syD
 rw [dif_neg, if_neg h]
 rintro ⟨ip, X, M, rfl, rfl, _⟩
 exact h (two_code X M)
theorem syD_not {p : Int} [IsP p] {X M : Fp p} (hM : M.len ≤ 64) (h : ¬ (Monic M ∧ 2 ≤ M.len ∧ M.len ≤ 13)) : syD p (pad (row X)) (pad (row M)) = .tup [(D.int .i64 0), (D.int .i64 2)] := by
 unfold syD
 rw [dif_neg, if_pos (two_code X M)]
 rintro ⟨_, X', M', _, e, _, h1, h2, h3⟩
 obtain rfl := (pad_row_inj hM (by omega)).1 e
 exact h ⟨h1, h2, h3⟩
theorem arr2 {a m : List Int} (ha : Bytes a) (gl : a.length = 64) (hm : Bytes m) (glm : m.length = 64) : Arrs [a, m] := fun x hx => by
 simp at hx
 rcases hx with rfl | rfl
 ·exact ⟨gl, ha⟩
 ·exact ⟨glm, hm⟩
def K_SymbolOf (O : Oracle) (F : Nat) : Prop := ∀ (p : Int) (a m : List Int), Bytes a → a.length = 64 → Bytes m → m.length = 64 → ask O F [(D.int .i64 p), (D.arr 64 .leaf (ints .u8 a)), (D.arr 64 .leaf (ints .u8 m))] = some (syD p a m)
theorem two_good {p : Int} {a m : List Int} (ha : Bytes a) (gl : a.length = 64) (hm : Bytes m) (glm : m.length = 64) (h : codeP p [a, m] = 0) : ∃ (_ : IsP p) (X M : Fp p), a = pad (row X) ∧ m = pad (row M) ∧ X.len ≤ 64 ∧ M.len ≤ 64 := by
 obtain ⟨ip, X, hX, rfl⟩ := codeP_zero' ha gl (codeP_each h (by simp))
 obtain ⟨ip', M, hM, rfl⟩ := codeP_zero' hm glm (codeP_each h (by simp))
 exact ⟨ip, X, M, rfl, rfl, hX, hM⟩
theorem monic_ld {p : Int} [IsP p] {m : Fp p} (h2 : 2 ≤ m.len) : Monic m ↔ m.ld = 1 :=
 ⟨fun h => h.1, fun h => ⟨h, fun h0 => by rw [h0, Pol.len_zero] at h2; omega⟩⟩
theorem k_SymbolOf (hT : T Fa = some Za) (hpc : C_polysCode (den T A)) (hro : K_rowOf (den T A)) (hld : C_lead (den T A)) (hdg : C_degree (den T A)) (hwi : C_within (den T A)) (hsy : K_symbol (den T A)) : K_SymbolOf (den T A) Fa := by
 intro p a m ha gl hm glm
 have e1 := hpc p [a, m] (arr2 ha gl hm glm) (by simp)
 rw [show [a, m].map arr8 = [(D.arr 64 .leaf (ints .u8 a)), (D.arr 64 .leaf (ints .u8 m))] from rfl] at e1
 rcases codeP_01 p [a, m] with hc | hc
 ·rw [hc] at e1
  obtain ⟨ip, X, M, rfl, rfl, hX, hM⟩ := two_good ha gl hm glm hc
  have e2 := hro p M hM
  have e3 := hld (row M) (by rw [row_length]; omega)
  rw [ld_row] at e3
  have e4 := hdg (row M) (by rw [row_length]; omega)
  rw [row_length] at e4
  have e5 := hwi ((M.len : Int) - 1) 1 12
  have h1 := rep_one_iff M.ld
  by_cases h : Monic M ∧ 2 ≤ M.len ∧ M.len ≤ 13
  ·obtain ⟨g1, g2, g3⟩ := h
   rw [syD_ok hX g1 g2 g3]
   rw [decide_eq_true (by omega)] at e5
   rw [h1.2 g1.1] at e3
   have e6 := hro p X hX
   have e7 := hsy p X M g1.2 g3 (by omega)
   refine ask_of hT rfl ?_
   generalize symb p X M = S at *
   generalize (M.len : Int) - 1 = n at *
   generalize pad (row X) = Px at *
   generalize row X = Rx at *
   generalize pad (row M) = Pm at *
   generalize row M = Rm at *
   simp -implicitDefEqProofs [Za, Za_B, dn_cond, e1, e2, e3, e4, e5, e6, e7, List.replicate]
  ·rw [syD_not hM h]
   refine ask_of hT rfl ?_
   by_cases h0 : M.ld = 1
   ·rw [h1.2 h0] at e3
    rw [decide_eq_false (fun g => h ⟨(monic_ld (by omega)).2 h0, by omega, by omega⟩)] at e5
    generalize (M.len : Int) - 1 = n at *
    generalize pad (row X) = Px at *
    generalize pad (row M) = Pm at *
    generalize row M = Rm at *
    simp -implicitDefEqProofs [Za, Za_B, dn_cond, e1, e2, e3, e4, e5, List.replicate]
   ·have h0' := mt h1.1 h0
    generalize rep M.ld = x at *
    generalize pad (row X) = Px at *
    generalize pad (row M) = Pm at *
    generalize row M = Rm at *
    simp -implicitDefEqProofs [Za, Za_B, dn_cond, e1, e2, e3, h0', List.replicate]
 ·rw [hc] at e1
  rw [syD_bad (by rw [hc]; omega)]
  refine ask_of hT rfl ?_
  simp -implicitDefEqProofs [Za, Za_B, dn_cond, e1, List.replicate]
open Classical in
theorem k_sSymbolOf (hT : T F2d = some Z2d) (hpc : C_sCode (den T A)) (hmo : K_sMonic (den T A)) (hdg : K_sDeg (den T A)) (hwi : C_sIn (den T A)) (hsy : K_sSymbol (den T A)) : K_SymbolOf (den T A) F2d := by
 intro p a m ha gl hm glm
 have e1 := hpc p [a, m] (arr2 ha gl hm glm) (by simp)
 rw [show [a, m].map arr8 = [(D.arr 64 .leaf (ints .u8 a)), (D.arr 64 .leaf (ints .u8 m))] from rfl] at e1
 rcases codeP_01 p [a, m] with hc | hc
 ·rw [hc] at e1
  obtain ⟨ip, X, M, rfl, rfl, hX, hM⟩ := two_good ha gl hm glm hc
  have e2 := hmo p M hM
  have e4 := hdg p M hM
  have e5 := hwi ((M.len : Int) - 1) 1 12
  by_cases h : Monic M ∧ 2 ≤ M.len ∧ M.len ≤ 13
  ·obtain ⟨g1, g2, g3⟩ := h
   rw [syD_ok hX g1 g2 g3]
   rw [decide_eq_true (by omega)] at e5
   rw [decide_eq_true g1] at e2
   have e7 := hsy p X M g1.2 g3 hX
   refine ask_of hT rfl ?_
   generalize symb p X M = S at *
   generalize (M.len : Int) - 1 = n at *
   generalize pad (row X) = Px at *
   generalize pad (row M) = Pm at *
   simp -implicitDefEqProofs [Z2d, Z2d_B, dn_cond, e1, e2, e4, e5, e7, List.replicate]
  ·rw [syD_not hM h]
   refine ask_of hT rfl ?_
   by_cases h0 : Monic M
   ·rw [decide_eq_true h0] at e2
    rw [decide_eq_false (fun g => h ⟨h0, by omega, by omega⟩)] at e5
    generalize (M.len : Int) - 1 = n at *
    generalize pad (row X) = Px at *
    generalize pad (row M) = Pm at *
    simp -implicitDefEqProofs [Z2d, Z2d_B, dn_cond, e1, e2, e4, e5, List.replicate]
   ·rw [decide_eq_false h0] at e2
    generalize pad (row X) = Px at *
    generalize pad (row M) = Pm at *
    simp -implicitDefEqProofs [Z2d, Z2d_B, dn_cond, e1, e2, List.replicate]
 ·rw [hc] at e1
  rw [syD_bad (by rw [hc]; omega)]
  refine ask_of hT rfl ?_
  simp -implicitDefEqProofs [Z2d, Z2d_B, dn_cond, e1, List.replicate]
def K_DegreeOf (O : Oracle) : Prop := ∀ (p : Int) [IsP p] (a : Fp p), a.len ≤ 64 → ask O F5 [(D.int .i64 p), (D.arr 64 .leaf (ints .u8 (pad (row a))))] = some (.tup [(D.int .i64 ((a.len : Int) - 1)), (D.int .i64 0)])
theorem k_DegreeOf (hT : T F5 = some Z5) (hpc : C_polysCode (den T A)) (hro : K_rowOf (den T A)) (hdg : C_degree (den T A)) : K_DegreeOf (den T A) := by
 intro p ip a hl
 have e1 := hpc p [pad (row a)] (fun x hx => by simp at hx; subst hx; exact ⟨pad_length _, pad_bytes a⟩) (by simp)
 rw [codeP_one, show [pad (row a)].map arr8 = [(D.arr 64 .leaf (ints .u8 (pad (row a))))] from rfl] at e1
 have e2 := hro p a hl
 have e3 := hdg (row a) (by rw [row_length]; omega)
 rw [row_length] at e3
 refine ask_of hT rfl ?_
 generalize (a.len : Int) - 1 = n at *
 generalize pad (row a) = Px at *
 generalize row a = Rx at *
 simp -implicitDefEqProofs [Z5, Z5_B, dn_cond, e1, e2, e3, List.replicate]
def K_MultiplyPolys (O : Oracle) : Prop := ∀ (p : Int) [IsP p] (a b : Fp p), a.len ≤ 64 → b.len ≤ 64 → ask O F8 [(D.int .i64 p), (D.arr 64 .leaf (ints .u8 (pad (row a)))), (D.arr 64 .leaf (ints .u8 (pad (row b))))] = some (if (a * b).len ≤ 64 then .tup [(D.arr 64 .leaf (ints .u8 (pad (row (a * b))))), (D.int .i64 0)] else .tup [(D.arr 64 .leaf (ints .u8 (pad []))), (D.int .i64 3)])
theorem k_MultiplyPolys (hT : T F8 = some Z8) (hpc : C_polysCode (den T A)) (hro : K_rowOf (den T A)) (hti : K_times (den T A)) (hto : C_told (den T A)) : K_MultiplyPolys (den T A) := by
 intro p ip X M hX hM
 have e1 := hpc p [pad (row X), pad (row M)] (arr2 (pad_bytes X) (pad_length _) (pad_bytes M) (pad_length _)) (by simp)
 rw [two_code, show [pad (row X), pad (row M)].map arr8 = [(D.arr 64 .leaf (ints .u8 (pad (row X)))), (D.arr 64 .leaf (ints .u8 (pad (row M))))] from rfl] at e1
 have e2 := hro p X hX
 have e3 := hro p M hM
 have e4 := hti p X M (by omega) (by omega)
 have hl : (X * M).len < 1000000 := by
  by_cases h0 : X = 0
  ·rw [h0, Gq.zero_mul, Pol.len_zero]; omega
  ·by_cases h1 : M = 0
   ·rw [h1, Gq.mul_zero, Pol.len_zero]; omega
   ·have := Pol.len_mul h0 h1
    omega
 have e5 := hto (row (X * M)) (row_bytes _) (by rw [row_length]; exact hl)
 unfold toldD at e5
 rw [row_length] at e5
 refine ask_of hT rfl ?_
 generalize pad (row (X * M)) = Pr at *
 generalize row (X * M) = Rr at *
 generalize pad (row X) = Px at *
 generalize row X = Rx at *
 generalize pad (row M) = Pm at *
 generalize row M = Rm at *
 by_cases h : (X * M).len ≤ 64
 ·rw [if_pos h] at e5 ⊢
  simp -implicitDefEqProofs [Z8, Z8_B, dn_cond, e1, e2, e3, e4, e5, List.replicate]
 ·rw [if_neg h] at e5 ⊢
  simp -implicitDefEqProofs [Z8, Z8_B, dn_cond, e1, e2, e3, e4, e5, List.replicate]
theorem bez_both {p : Int} [IsP p] {a b : Fp p} (h : a ≠ 0) (ha : a.len ≤ 63) (hb : b.len ≤ 63) : (Pol.bezout a b).2.1.len ≤ 64 ∧ (Pol.bezout a b).2.2.len ≤ 64 := by
 refine ⟨bez_64 h hb, ?_⟩
 obtain ⟨x, y, hi, _, _⟩ := Pol.bz_spec b.len a b 1 0 0 1 (Nat.le_refl _) (Pol.BzI.init (.inl h))
 have h1 := hi.lv
 rw [Pol.len_zero] at h1
 have : (Pol.bezout a b).2.2.len ≤ (Pol.bz b.len a b 1 0 0 1).2.2.len := Pol.len_le (Pol.lt_Cmul _ (Pol.lt_len _))
 omega
theorem ne_pad {p : Int} [IsP p] {M : Fp p} (hM : M ≠ 0) (hl : M.len ≤ 64) : D.beq (.arr 64 .leaf .int) (D.arr 64 .leaf (ints .u8 (pad (row M)))) (D.arr 64 .leaf (ints .u8 (pad []))) = some false := by
 rw [beq_P (pad_length _) (pad_length _), decide_eq_false]
 intro h
 rw [← row_zero (p := p)] at h
 exact hM ((pad_row_inj hl (by rw [Pol.len_zero]; omega)).1 h)
def K_BezoutOf (O : Oracle) : Prop := ∀ (p : Int) [IsP p] (a b : Fp p), a ≠ 0 → b ≠ 0 → a.len ≤ 63 → b.len ≤ 63 → ask O F4 [(D.int .i64 p), (D.arr 64 .leaf (ints .u8 (pad (row a)))), (D.arr 64 .leaf (ints .u8 (pad (row b))))] = some (.tup [(D.arr 64 .leaf (ints .u8 (pad (row (Pol.gcd a b))))), (D.arr 64 .leaf (ints .u8 (pad (row (Pol.bezout a b).2.1)))), (D.arr 64 .leaf (ints .u8 (pad (row (Pol.bezout a b).2.2)))), (D.int .i64 0)])
theorem k_BezoutOf (hT : T F4 = some Z4) (hpc : C_polysCode (den T A)) (hro : K_rowOf (den T A)) (hbz : K_bezout (den T A)) (hpo : K_poly (den T A)) : K_BezoutOf (den T A) := by
 intro p ip X M hX0 hM0 hX hM
 have e1 := hpc p [pad (row X), pad (row M)] (arr2 (pad_bytes X) (pad_length _) (pad_bytes M) (pad_length _)) (by simp)
 rw [two_code, show [pad (row X), pad (row M)].map arr8 = [(D.arr 64 .leaf (ints .u8 (pad (row X)))), (D.arr 64 .leaf (ints .u8 (pad (row M))))] from rfl] at e1
 have e2 := hro p X (by omega)
 have e3 := hro p M (by omega)
 have e4 := ne_pad hX0 (by omega)
 have e5 := hbz p X M (.inl hX0) (by omega) (by omega)
 rw [show (Pol.bezout X M).1 = Pol.gcd X M from rfl] at e5
 have hgl := (Pol.gcd_dv_right (a := X) (b := M) (.inr hM0)).len hM0
 obtain ⟨hu, hv⟩ := bez_both (b := M) hX0 hX hM
 have e6 := hpo p (Pol.gcd X M) (by omega)
 have e7 := hpo p (Pol.bezout X M).2.1 hu
 have e8 := hpo p (Pol.bezout X M).2.2 hv
 refine ask_of hT rfl ?_
 generalize pad (row (Pol.gcd X M)) = P1 at *
 generalize row (Pol.gcd X M) = R1 at *
 generalize pad (row (Pol.bezout X M).2.1) = P2 at *
 generalize row (Pol.bezout X M).2.1 = R2 at *
 generalize pad (row (Pol.bezout X M).2.2) = P3 at *
 generalize row (Pol.bezout X M).2.2 = R3 at *
 generalize pad (row X) = Px at *
 generalize row X = Rx at *
 generalize pad (row M) = Pm at *
 generalize row M = Rm at *
 simp -implicitDefEqProofs [Z4, Z4_B, dn_cond, e1, e2, e3, e4, e5, e6, e7, e8, List.replicate]
def K_GcdOf (O : Oracle) : Prop := ∀ (p : Int) [IsP p] (a b : Fp p), a ≠ 0 → b ≠ 0 → a.len ≤ 63 → b.len ≤ 63 → ask O F7 [(D.int .i64 p), (D.arr 64 .leaf (ints .u8 (pad (row a)))), (D.arr 64 .leaf (ints .u8 (pad (row b))))] = some (.tup [(D.arr 64 .leaf (ints .u8 (pad (row (Pol.gcd a b))))), (D.int .i64 0)])
theorem k_GcdOf (hT : T F7 = some Z7) (hb : K_BezoutOf (den T A)) : K_GcdOf (den T A) := by
 intro p ip X M hX0 hM0 hX hM
 have e1 := hb p X M hX0 hM0 hX hM
 refine ask_of hT rfl ?_
 generalize pad (row (Pol.gcd X M)) = P1 at *
 generalize pad (row (Pol.bezout X M).2.1) = P2 at *
 generalize pad (row (Pol.bezout X M).2.2) = P3 at *
 generalize pad (row X) = Px at *
 generalize pad (row M) = Pm at *
 simp -implicitDefEqProofs [Z7, Z7_B, dn_cond, e1, List.replicate]
end Pe

namespace Pe
open Go Gq
variable {T : Nat → Option Fn} {A : Oracle}
section
variable {p : Int}
noncomputable def crtP [IsP p] (M N X Y : Fp p) : Fp p := ((Pol.bezout M N).2.2 * N * X + (Pol.bezout M N).2.1 * M * Y) % (M * N)
theorem bez_one [IsP p] {M N : Fp p} (hN : N ≠ 0) (h : Un N M) : (Pol.bezout M N).2.1 * M + (Pol.bezout M N).2.2 * N = 1 := by
 have e := Pol.bezout_eq (a := M) (b := N) (.inr hN)
 rwa [show Pol.gcd M N = 1 from h] at e
theorem crt_eq {M N u v X Y Q R : Fp p} (h : u * M + v * N = 1) (e : v * N * X + u * M * Y = Q * (M * N) + R) : R - X = M * (u * (Y - X) - Q * N) ∧ R - Y = N * (v * (X - Y) - Q * M) := by
 have hX : X = (u * M + v * N) * X := by rw [h, Gq.one_mul]
 have hY : Y = (u * M + v * N) * Y := by rw [h, Gq.one_mul]
 have hR : R = v * N * X + u * M * Y - Q * (M * N) := by
  rw [e]; exact ring_of [Q, M, N, R] rfl
 rw [hR]
 constructor
 ·conv => lhs; rhs; rw [hX]
  exact ring_of [u, v, M, N, X, Y, Q] rfl
 ·conv => lhs; rhs; rw [hY]
  exact ring_of [u, v, M, N, X, Y, Q] rfl
theorem crt_dv [IsP p] {M N : Fp p} (hN : N ≠ 0) (h : Un N M) (X Y : Fp p) : Dv M (crtP M N X Y - X) ∧ Dv N (crtP M N X Y - Y) := by
 obtain ⟨h1, h2⟩ := crt_eq (bez_one hN h) (Pol.div_mod ((Pol.bezout M N).2.2 * N * X + (Pol.bezout M N).2.1 * M * Y) (M * N))
 exact ⟨⟨_, h1⟩, ⟨_, h2⟩⟩
theorem crt_len [IsP p] {M N : Fp p} (hM : M ≠ 0) (hN : N ≠ 0) (X Y : Fp p) : (crtP M N X Y).len < (M * N).len := Pol.len_mod _ (Pol.mul_ne hM hN)
theorem crt_unique [IsP p] {M N : Fp p} (hM : M ≠ 0) (hN : N ≠ 0) (h : Un N M) {X Y S : Fp p} (h1 : Dv M (S - X)) (h2 : Dv N (S - Y)) (hl : S.len < (M * N).len) : S = crtP M N X Y := by
 obtain ⟨g1, g2⟩ := crt_dv hN h X Y
 have e1 : ∀ Z : Fp p, S - Z - (crtP M N X Y - Z) = S - crtP M N X Y := fun Z => ring_of [S, Z, crtP M N X Y] rfl
 have d1 := h1.sub g1
 have d2 := h2.sub g2
 rw [e1] at d1 d2
 have d := cop_dv ⟨_, _, bez_one hN h⟩ d1 d2
 have hc := crt_len hM hN X Y
 have hs : (S - crtP M N X Y).len ≤ (M * N).len - 1 := Pol.len_sub_le (by omega) (by omega)
 have hz : S - crtP M N X Y = 0 := Classical.byContradiction fun h0 => by
  have := d.len h0
  omega
 have e2 : S = (S - crtP M N X Y) + crtP M N X Y := ring_of [S, crtP M N X Y] rfl
 rw [e2, hz, Gq.zero_add]
theorem crt_step [IsP p] {M N : Fp p} (hM : M ≠ 0) (hN : N ≠ 0) (h : Un N M) (X Y : Fp p) : X % M + M * (invm N M * ((Y - X % M) % N) % N) = crtP M N X Y := by
 refine crt_unique hM hN h ?_ ?_ ?_
 ·have e : X = X / M * M + X % M := Pol.div_mod X M
  refine ⟨invm N M * ((Y - X % M) % N) % N - X / M, ?_⟩
  conv => lhs; rhs; rw [e]
  exact ring_of [X % M, M, invm N M * ((Y - X % M) % N) % N, X / M] rfl
 ·have e : Quo.mk N (M * (invm N M * ((Y - X % M) % N) % N)) = Quo.mk N (Y - X % M) := by
   rw [Quo.mk_mul, Pol.mk_mod, Quo.mk_mul, Pol.mk_mod, ← Gq.mul_assoc, Gq.mul_comm (Quo.mk N M), un_inv hN h, Gq.one_mul]
  have d : Dv N (M * (invm N M * ((Y - X % M) % N) % N) - (Y - X % M)) := dv_iff_mk.2 (by
   rw [Quo.mk_sub, e]
   exact ring_of [Quo.mk N (Y - X % M)] rfl)
  have e2 : X % M + M * (invm N M * ((Y - X % M) % N) % N) - Y = M * (invm N M * ((Y - X % M) % N) % N) - (Y - X % M) := ring_of [X % M, Y, M * (invm N M * ((Y - X % M) % N) % N)] rfl
  rw [e2]
  exact d
 ·have hx := Pol.len_mod X hM
  have hs := Pol.len_mod (invm N M * ((Y - X % M) % N)) hN
  have hmn := Pol.len_mul hM hN
  have hNp := Pol.len_pos hN
  have hMp := Pol.len_pos hM
  have hpl : (M * (invm N M * ((Y - X % M) % N) % N)).len ≤ (M * N).len - 1 := by
   by_cases h0 : invm N M * ((Y - X % M) % N) % N = 0
   ·rw [h0, Gq.mul_zero, Pol.len_zero]; omega
   ·have := Pol.len_mul hM h0
    omega
  have := Pol.len_add_le (a := X % M) (n := (M * N).len - 1) (by omega) hpl
  omega
end
end Pe

namespace Pe
open Go Gq
variable {T : Nat → Option Fn} {A : Oracle}
open Classical in
noncomputable def rtC (p : Int) (a m b n : List Int) : Int := if codeP p [a, m, b, n] ≠ 0 then 1 else if IsMod p m ∧ IsMod p n then 0 else 2
open Classical in
noncomputable def rtD (p : Int) (a m b n : List Int) : D :=
 if rtC p a m b n = 0 then
  (if h : IsP p then haveI := h; if Un (polOf p n) (polOf p m) then .tup [(D.arr 64 .leaf (ints .u8 (pad (row (crtP (polOf p m) (polOf p n) (polOf p a) (polOf p b)))))), (D.int .i64 0)] else .tup [(D.arr 64 .leaf (ints .u8 (pad []))), (D.int .i64 5)] else .tup [(D.arr 64 .leaf (ints .u8 (pad []))), (D.int .i64 5)])
 else .tup [(D.arr 64 .leaf (ints .u8 (pad []))), (D.int .i64 (rtC p a m b n))]
def K_RestForTwo (O : Oracle) (F : Nat) : Prop := ∀ (p : Int) (a m b n : List Int), Bytes a → a.length = 64 → Bytes m → m.length = 64 → Bytes b → b.length = 64 → Bytes n → n.length = 64 → ask O F [(D.int .i64 p), (D.arr 64 .leaf (ints .u8 a)), (D.arr 64 .leaf (ints .u8 m)), (D.arr 64 .leaf (ints .u8 b)), (D.arr 64 .leaf (ints .u8 n))] = some (rtD p a m b n)
theorem arr4 {a m b n : List Int} (ha : Bytes a) (gl : a.length = 64) (hm : Bytes m) (glm : m.length = 64) (hb : Bytes b) (glb : b.length = 64) (hn : Bytes n) (gln : n.length = 64) : Arrs [a, m, b, n] := fun x hx => by
 simp at hx
 rcases hx with rfl | rfl | rfl | rfl
 ·exact ⟨gl, ha⟩
 ·exact ⟨glm, hm⟩
 ·exact ⟨glb, hb⟩
 ·exact ⟨gln, hn⟩
theorem code4 {p : Int} (a m b n : List Int) : codeP p ([a, b, n] ++ [m]) = codeP p [a, m, b, n] := by
 unfold codeP
 have : ([a, b, n] ++ [m]).all (isPl p) = [a, m, b, n].all (isPl p) := by
  simp only [List.cons_append, List.nil_append, List.all_cons, List.all_nil, Bool.and_true]
  cases isPl p a <;> cases isPl p b <;> cases isPl p n <;> cases isPl p m <;> rfl
 rw [this]
section
variable {p : Int} [ip : IsP p] {M N X Y : Fp p}
theorem code4_good : codeP p [pad (row X), pad (row M), pad (row Y), pad (row N)] = 0 := codeP_good [X, M, Y, N]
open Classical in
theorem rtC_good (hM : M.len ≤ 64) (hN : N.len ≤ 64) : rtC p (pad (row X)) (pad (row M)) (pad (row Y)) (pad (row N)) = if (Monic M ∧ 2 ≤ M.len ∧ M.len ≤ 6) ∧ (Monic N ∧ 2 ≤ N.len ∧ N.len ≤ 6) then 0 else 2 := by
 unfold rtC
 rw [if_neg (by rw [code4_good]; omega)]
 congr 1
 rw [isMod_iff hM, isMod_iff hN]
theorem rtD_ok (hM : Monic M ∧ 2 ≤ M.len ∧ M.len ≤ 6) (hN : Monic N ∧ 2 ≤ N.len ∧ N.len ≤ 6) (hX : X.len ≤ 64) (hY : Y.len ≤ 64) (h : Un N M) : rtD p (pad (row X)) (pad (row M)) (pad (row Y)) (pad (row N)) = .tup [(D.arr 64 .leaf (ints .u8 (pad (row (crtP M N X Y))))), (D.int .i64 0)] := by
 unfold rtD
 rw [if_pos (by rw [rtC_good (by omega) (by omega), if_pos ⟨hM, hN⟩]), dif_pos ip, polOf_pad hX, polOf_pad hY, polOf_pad (by omega), polOf_pad (by omega), if_pos h]
theorem rtD_five (hM : Monic M ∧ 2 ≤ M.len ∧ M.len ≤ 6) (hN : Monic N ∧ 2 ≤ N.len ∧ N.len ≤ 6) (h : ¬ Un N M) : rtD p (pad (row X)) (pad (row M)) (pad (row Y)) (pad (row N)) = .tup [(D.arr 64 .leaf (ints .u8 (pad []))), (D.int .i64 5)] := by
 unfold rtD
 rw [if_pos (by rw [rtC_good (by omega) (by omega), if_pos ⟨hM, hN⟩]), dif_pos ip, polOf_pad (a := M) (by omega), polOf_pad (a := N) (by omega), if_neg h]
theorem rtD_two (hM : M.len ≤ 64) (hN : N.len ≤ 64) (h : ¬ ((Monic M ∧ 2 ≤ M.len ∧ M.len ≤ 6) ∧ (Monic N ∧ 2 ≤ N.len ∧ N.len ≤ 6))) : rtD p (pad (row X)) (pad (row M)) (pad (row Y)) (pad (row N)) = .tup [(D.arr 64 .leaf (ints .u8 (pad []))), (D.int .i64 2)] := by
 have e : rtC p (pad (row X)) (pad (row M)) (pad (row Y)) (pad (row N)) = 2 := by rw [rtC_good hM hN, if_neg h]
 unfold rtD
 rw [if_neg (by rw [e]; omega), e]
end
theorem rtD_one {p : Int} {a m b n : List Int} (h : codeP p [a, m, b, n] ≠ 0) : rtD p a m b n = .tup [(D.arr 64 .leaf (ints .u8 (pad []))), (D.int .i64 1)] := by
 have e : rtC p a m b n = 1 := by unfold rtC; rw [if_pos h]
 unfold rtD
 rw [if_neg (by rw [e]; omega), e]
theorem four_good {p : Int} {a m b n : List Int} (ha : Bytes a) (gl : a.length = 64) (hm : Bytes m) (glm : m.length = 64) (hb : Bytes b) (glb : b.length = 64) (hn : Bytes n) (gln : n.length = 64) (h : codeP p [a, m, b, n] = 0) : ∃ (_ : IsP p) (X M Y N : Fp p), a = pad (row X) ∧ m = pad (row M) ∧ b = pad (row Y) ∧ n = pad (row N) ∧ X.len ≤ 64 ∧ M.len ≤ 64 ∧ Y.len ≤ 64 ∧ N.len ≤ 64 := by
 obtain ⟨ip, X, hX, rfl⟩ := codeP_zero' ha gl (codeP_each h (by simp))
 obtain ⟨_, M, hM, rfl⟩ := codeP_zero' hm glm (codeP_each h (by simp))
 obtain ⟨_, Y, hY, rfl⟩ := codeP_zero' hb glb (codeP_each h (by simp))
 obtain ⟨_, N, hN, rfl⟩ := codeP_zero' hn gln (codeP_each h (by simp))
 exact ⟨ip, X, M, Y, N, rfl, rfl, rfl, rfl, hX, hM, hY, hN⟩
theorem mul_le {p : Int} [IsP p] {a b : Fp p} {x y : Nat} (ha : a.len ≤ x) (hb : b.len ≤ y) : (a * b).len ≤ x + y := by
 by_cases h0 : a = 0
 ·rw [h0, Gq.zero_mul, Pol.len_zero]; omega
 ·by_cases h1 : b = 0
  ·rw [h1, Gq.mul_zero, Pol.len_zero]; omega
  ·have := Pol.len_mul h0 h1
   omega
open Classical in
theorem k_RestForTwo (hT : T F9 = some Z9) (hpc : C_polysCode (den T A)) (him : K_isModulus (den T A)) (hro : K_rowOf (den T A)) (hbz : K_bezout (den T A)) (h1 : K_isOne (den T A)) (hti : K_times (den T A)) (hco : K_combine2 (den T A)) (hre : K_rest (den T A)) (hto : C_told (den T A)) : K_RestForTwo (den T A) F9 := by
 intro p a m b n ha gl hm glm hb glb hn gln
 have e1 := hpc p [a, m, b, n] (arr4 ha gl hm glm hb glb hn gln) (by simp)
 rw [show [a, m, b, n].map arr8 = [(D.arr 64 .leaf (ints .u8 a)), (D.arr 64 .leaf (ints .u8 m)), (D.arr 64 .leaf (ints .u8 b)), (D.arr 64 .leaf (ints .u8 n))] from rfl] at e1
 rcases codeP_01 p [a, m, b, n] with hc | hc
 ·rw [hc] at e1
  obtain ⟨ip, X, M, Y, N, rfl, rfl, rfl, rfl, hX, hM, hY, hN⟩ := four_good ha gl hm glm hb glb hn gln hc
  have e2 := him p M hM
  have e3 := him p N hN
  by_cases hMM : Monic M ∧ 2 ≤ M.len ∧ M.len ≤ 6
  ·obtain ⟨m1, m2, m3⟩ := id hMM
   rw [decide_eq_true ⟨m1.1, m2, m3⟩] at e2
   by_cases hNN : Monic N ∧ 2 ≤ N.len ∧ N.len ≤ 6
   ·obtain ⟨n1, n2, n3⟩ := id hNN
    rw [decide_eq_true ⟨n1.1, n2, n3⟩] at e3
    have e4 := hro p M hM
    have e5 := hro p N hN
    have e6 := hbz p M N (.inr n1.2) (by omega) (by omega)
    have hgm : Monic (Pol.gcd M N) := Pol.gcd_monic (.inr n1.2)
    have hgl := (Pol.gcd_dv_right (a := M) (b := N) (.inr n1.2)).len n1.2
    have e7 := h1 p (Pol.bezout M N).1 (by show (Pol.gcd M N).len < _; omega)
    rw [one_dec (d := (Pol.bezout M N).1) hgm] at e7
    by_cases hu : Un N M
    ·rw [rtD_ok hMM hNN hX hY hu]
     rw [decide_eq_true (show (Pol.bezout M N).1 = 1 from hu)] at e7
     obtain ⟨hul, hvl⟩ := bez_both (b := N) m1.2 (by omega) (by omega)
     have hl0 := mul_le (a := M) (b := N) (x := 6) (y := 6) (by omega) (by omega)
     have hl1 := mul_le (a := (Pol.bezout M N).2.2) (b := N) hvl n3
     have hl2 := mul_le (a := (Pol.bezout M N).2.1) (b := M) hul m3
     have hl3 := mul_le (b := X) hl1 hX
     have hl4 := mul_le (b := Y) hl2 hY
     have e8 := hti p M N (by omega) (by omega)
     have e9 := hti p (Pol.bezout M N).2.2 N (by omega) (by omega)
     have e10 := hro p X hX
     have e11 := hti p ((Pol.bezout M N).2.2 * N) X (by omega) (by omega)
     have e12 := hti p (Pol.bezout M N).2.1 M (by omega) (by omega)
     have e13 := hro p Y hY
     have e14 := hti p ((Pol.bezout M N).2.1 * M) Y (by omega) (by omega)
     have e15 := hco p ((Pol.bezout M N).2.2 * N * X) ((Pol.bezout M N).2.1 * M * Y) (by omega) (by omega)
     have hsl := Pol.len_add_le (a := (Pol.bezout M N).2.2 * N * X) (b := (Pol.bezout M N).2.1 * M * Y) (n := 4000) (by omega) (by omega)
     have e16 := hre p ((Pol.bezout M N).2.2 * N * X + (Pol.bezout M N).2.1 * M * Y) (M * N) (Pol.mul_ne m1.2 n1.2) (by omega) (by omega)
     rw [show ((Pol.bezout M N).2.2 * N * X + (Pol.bezout M N).2.1 * M * Y) % (M * N) = crtP M N X Y from rfl] at e16
     have hcl := crt_len m1.2 n1.2 X Y
     have e17 := hto (row (crtP M N X Y)) (row_bytes _) (by rw [row_length]; omega)
     unfold toldD at e17
     rw [if_pos (by rw [row_length]; omega)] at e17
     refine ask_of hT rfl ?_
     generalize pad (row (crtP M N X Y)) = Pc at *
     generalize row (crtP M N X Y) = Rc at *
     generalize row ((Pol.bezout M N).2.2 * N * X + (Pol.bezout M N).2.1 * M * Y) = Rs at *
     generalize row ((Pol.bezout M N).2.2 * N * X) = Rl at *
     generalize row ((Pol.bezout M N).2.1 * M * Y) = Rr at *
     generalize row ((Pol.bezout M N).2.2 * N) = Rl' at *
     generalize row ((Pol.bezout M N).2.1 * M) = Rr' at *
     generalize row (Pol.bezout M N).1 = R1 at *
     generalize row (Pol.bezout M N).2.1 = R2 at *
     generalize row (Pol.bezout M N).2.2 = R3 at *
     generalize row (M * N) = Rmn at *
     generalize pad (row X) = Px at *
     generalize row X = Rx at *
     generalize pad (row Y) = Py at *
     generalize row Y = Ry at *
     generalize pad (row M) = Pm at *
     generalize row M = Rm at *
     generalize pad (row N) = Pn at *
     generalize row N = Rn at *
     simp -implicitDefEqProofs [Z9, Z9_B, dn_cond, e1, e2, e3, e4, e5, e6, e7, e8, e9, e10, e11, e12, e13, e14, e15, e16, e17, List.replicate]
    ·rw [rtD_five hMM hNN hu]
     rw [decide_eq_false (show ¬ (Pol.bezout M N).1 = 1 from hu)] at e7
     refine ask_of hT rfl ?_
     generalize row (Pol.bezout M N).1 = R1 at *
     generalize row (Pol.bezout M N).2.1 = R2 at *
     generalize row (Pol.bezout M N).2.2 = R3 at *
     generalize pad (row X) = Px at *
     generalize pad (row Y) = Py at *
     generalize pad (row M) = Pm at *
     generalize row M = Rm at *
     generalize pad (row N) = Pn at *
     generalize row N = Rn at *
     simp -implicitDefEqProofs [Z9, Z9_B, dn_cond, e1, e2, e3, e4, e5, e6, e7, List.replicate]
   ·rw [rtD_two hM hN fun h => hNN h.2]
    rw [decide_eq_false fun h => hNN ⟨(monic_ld h.2.1).2 h.1, h.2⟩] at e3
    refine ask_of hT rfl ?_
    generalize pad (row X) = Px at *
    generalize pad (row Y) = Py at *
    generalize pad (row M) = Pm at *
    generalize pad (row N) = Pn at *
    simp -implicitDefEqProofs [Z9, Z9_B, dn_cond, e1, e2, e3, List.replicate]
  ·rw [rtD_two hM hN fun h => hMM h.1]
   rw [decide_eq_false fun h => hMM ⟨(monic_ld h.2.1).2 h.1, h.2⟩] at e2
   refine ask_of hT rfl ?_
   generalize pad (row X) = Px at *
   generalize pad (row Y) = Py at *
   generalize pad (row M) = Pm at *
   generalize pad (row N) = Pn at *
   simp -implicitDefEqProofs [Z9, Z9_B, dn_cond, e1, e2, List.replicate]
 ·rw [hc] at e1
  rw [rtD_one (by rw [hc]; omega)]
  refine ask_of hT rfl ?_
  simp -implicitDefEqProofs [Z9, Z9_B, dn_cond, e1, List.replicate]
end Pe

namespace Pe
open Go Gq
variable {T : Nat → Option Fn} {A : Oracle}
theorem sub_one {p : Int} [IsP p] (a b : Fp p) : a + Pol.C (zp p 1) * b = a + b := by rw [zp_one, Pol.C_one, Gq.one_mul]
open Classical in
theorem k_sRestForTwo (hT : T F2c = some Z2c) (hmc : C_sModulus (den T A)) (hg : K_sGcd2 (den T A)) (h1 : K_sOne (den T A)) (hmo : K_sMod (den T A)) (hin : K_sInvU (den T A)) (had : K_sAdd (den T A)) (hmm : K_sMulMod (den T A)) (hti : K_sTimes (den T A)) : K_RestForTwo (den T A) F2c := by
 intro p a m b n ha gl hm glm hb glb hn gln
 have e1 := hmc p m [a, b, n] hm glm (fun x hx => by
  simp at hx
  rcases hx with rfl | rfl | rfl
  ·exact ⟨gl, ha⟩
  ·exact ⟨glb, hb⟩
  ·exact ⟨gln, hn⟩) (by simp)
 rw [show [a, b, n].map arr8 = [(D.arr 64 .leaf (ints .u8 a)), (D.arr 64 .leaf (ints .u8 b)), (D.arr 64 .leaf (ints .u8 n))] from rfl] at e1
 have e2 := hmc p n [] hn gln (fun x hx => by cases hx) (by simp)
 rw [show ([] : List (List Int)).map arr8 = [] from rfl] at e2
 rcases codeP_01 p [a, m, b, n] with hc | hc
 ·obtain ⟨ip, X, M, Y, N, rfl, rfl, rfl, rfl, hX, hM, hY, hN⟩ := four_good ha gl hm glm hb glb hn gln hc
  rw [modC_good hM (by rw [code4]; exact hc)] at e1
  rw [modC_good hN (codeP_one N)] at e2
  by_cases hMM : Monic M ∧ 2 ≤ M.len ∧ M.len ≤ 6
  ·obtain ⟨m1, m2, m3⟩ := id hMM
   rw [if_pos hMM] at e1
   by_cases hNN : Monic N ∧ 2 ≤ N.len ∧ N.len ≤ 6
   ·obtain ⟨n1, n2, n3⟩ := id hNN
    rw [if_pos hNN] at e2
    have e3 := hg p M N n1.2 hM hN
    have e4 := h1 p
    have hgl := (Pol.gcd_dv_right (a := M) (b := N) (.inr n1.2)).len n1.2
    have e5 : D.beq (.arr 64 .leaf .int) (D.arr 64 .leaf (ints .u8 (pad (row (Pol.gcd M N))))) (D.arr 64 .leaf (ints .u8 (pad (row (1 : Fp p))))) = some (decide (Un N M)) := by
     rw [beq_P (pad_length _) (pad_length _)]
     congr 1
     have hone : (1 : Fp p).len = 1 := Pol.len_one
     exact decide_eq_decide.2 (pad_row_inj (by omega) (by omega))
    by_cases hu : Un N M
    ·rw [rtD_ok hMM hNN hX hY hu, ← crt_step m1.2 n1.2 hu]
     rw [decide_eq_true hu] at e5
     have l1 := Pol.len_mod X m1.2
     have l2 := Pol.len_sub_le (a := Y) (b := X % M) (n := 64) hY (by omega)
     have l3 := Pol.len_mod (Y - X % M) n1.2
     have l4 := Pol.len_mod (invm N M * ((Y - X % M) % N)) n1.2
     have l5 := mul_le (a := M) (b := invm N M * ((Y - X % M) % N) % N) (x := 6) (y := 6) (by omega) (by omega)
     have l6 := invm_len n1.2 M
     have e6 := hmo p X M m1.2 hX (by omega)
     have e7 := hin p M N n2 (by omega) hM hu
     have e8 := had p (-1) Y (X % M) (by omega) (by omega) hY (by omega)
     rw [sub_comb] at e8
     have e9 := hmo p (Y - X % M) N n1.2 l2 (by omega)
     have e10 := hmm p (invm N M) ((Y - X % M) % N) N n1.2 hN (by omega) (by omega)
     have e11 := hti p M (invm N M * ((Y - X % M) % N) % N) hM (by omega) (by omega)
     have e12 := had p 1 (X % M) (M * (invm N M * ((Y - X % M) % N) % N)) (by omega) (by omega) (by omega) (by omega)
     rw [sub_one] at e12
     refine ask_of hT rfl ?_
     generalize pad (row (X % M + M * (invm N M * ((Y - X % M) % N) % N))) = P1 at *
     generalize pad (row (M * (invm N M * ((Y - X % M) % N) % N))) = P2 at *
     generalize pad (row (invm N M * ((Y - X % M) % N) % N)) = P3 at *
     generalize pad (row ((Y - X % M) % N)) = P4 at *
     generalize pad (row (Y - X % M)) = P5 at *
     generalize pad (row (invm N M)) = P6 at *
     generalize pad (row (X % M)) = P7 at *
     generalize pad (row (Pol.gcd M N)) = P8 at *
     generalize pad (row (1 : Fp p)) = P9 at *
     generalize pad (row X) = Px at *
     generalize pad (row Y) = Py at *
     generalize pad (row M) = Pm at *
     generalize pad (row N) = Pn at *
     simp -implicitDefEqProofs [Z2c, Z2c_B, dn_cond, e1, e2, e3, e4, e5, e6, e7, e8, e9, e10, e11, e12, List.replicate]
    ·rw [rtD_five hMM hNN hu]
     rw [decide_eq_false hu] at e5
     refine ask_of hT rfl ?_
     generalize pad (row (Pol.gcd M N)) = P8 at *
     generalize pad (row (1 : Fp p)) = P9 at *
     generalize pad (row X) = Px at *
     generalize pad (row Y) = Py at *
     generalize pad (row M) = Pm at *
     generalize pad (row N) = Pn at *
     simp -implicitDefEqProofs [Z2c, Z2c_B, dn_cond, e1, e2, e3, e4, e5, List.replicate]
   ·rw [rtD_two hM hN fun h => hNN h.2]
    rw [if_neg hNN] at e2
    refine ask_of hT rfl ?_
    generalize pad (row X) = Px at *
    generalize pad (row Y) = Py at *
    generalize pad (row M) = Pm at *
    generalize pad (row N) = Pn at *
    simp -implicitDefEqProofs [Z2c, Z2c_B, dn_cond, e1, e2, List.replicate]
  ·rw [rtD_two hM hN fun h => hMM h.1]
   rw [if_neg hMM] at e1
   refine ask_of hT rfl ?_
   generalize pad (row X) = Px at *
   generalize pad (row Y) = Py at *
   generalize pad (row M) = Pm at *
   generalize pad (row N) = Pn at *
   simp -implicitDefEqProofs [Z2c, Z2c_B, dn_cond, e1, List.replicate]
 ·rw [modC_bad (by rw [code4, hc]; omega)] at e1
  rw [rtD_one (by rw [hc]; omega)]
  refine ask_of hT rfl ?_
  simp -implicitDefEqProofs [Z2c, Z2c_B, dn_cond, e1, List.replicate]
end Pe

namespace Pe
open Go Gq
variable {T : Nat → Option Fn} {A : Oracle}
section
variable {p : Int} [IsP p]
end
section
variable {p : Int}
end
end Pe


namespace Pe
open Go Gq
variable {T : Nat → Option Fn} {A : Oracle}
end Pe

namespace Pe
open Go Gq
variable {T : Nat → Option Fn} {A : Oracle}
end Pe

namespace Pe
open Go Gq
variable {T : Nat → Option Fn} {A : Oracle}
section
variable {p : Int}
open Classical in
noncomputable def stl (S : List (Fp p)) : Nat → Nat
 | 0 => 0
 | n + 1 => if S[n]? = some 0 then stl S n else n + 1
noncomputable def trimS (S : List (Fp p)) : List (Fp p) := S.take (stl S S.length)
theorem stl_le (S : List (Fp p)) : ∀ n, stl S n ≤ n
 | 0 => Nat.le_refl 0
 | n + 1 => by
  unfold stl
  split
  ·have := stl_le S n; omega
  ·omega
theorem stl_zero (S : List (Fp p)) : ∀ n j, stl S n ≤ j → j < n → S[j]? = some 0
 | 0, j, _, h => by omega
 | n + 1, j, h1, h2 => by
  unfold stl at h1
  split at h1
  ·rename_i h0
   by_cases hj : j = n
   ·rw [hj]; exact h0
   ·exact stl_zero S n j h1 (by omega)
  ·omega
end
section
variable {p : Int} [IsP p]
end
end Pe

namespace Pe
open Go Gq
variable {T : Nat → Option Fn} {A : Oracle}
end Pe

namespace Pe
open Go Gq
variable {T : Nat → Option Fn} {A : Oracle}
section
variable {p : Int}
noncomputable def addAt (Q : List (Fp p)) (n : Nat) (v : Fp p) : List (Fp p) := Q.set n ((Q[n]?).getD 0 + v)
theorem addAt_length (Q : List (Fp p)) (n : Nat) (v : Fp p) : (addAt Q n v).length = Q.length := by unfold addAt; rw [List.length_set]
end
section
variable {p : Int} [IsP p]
noncomputable def byIn (m x : Fp p) (i : Nat) : Nat → List (Fp p) → List (Fp p) → List (Fp p)
 | _, [], Q => Q
 | k, y :: ys, Q => byIn m x i (k + 1) ys (addAt Q (i + k) (x * frIt m (i % (m.len - 1)) y % m))
noncomputable def byOut (m : Fp p) (b : List (Fp p)) : Nat → List (Fp p) → List (Fp p) → List (Fp p)
 | _, [], Q => Q
 | i, x :: xs, Q => byOut m b (i + 1) xs (byIn m x i 0 b Q)
theorem byIn_length (m x : Fp p) (i : Nat) : ∀ (k : Nat) (b Q : List (Fp p)), (byIn m x i k b Q).length = Q.length
 | _, [], _ => rfl
 | k, y :: ys, Q => by
  show (byIn m x i (k + 1) ys (addAt Q (i + k) _)).length = _
  rw [byIn_length, addAt_length]
theorem byOut_length (m : Fp p) (b : List (Fp p)) : ∀ (i : Nat) (a Q : List (Fp p)), (byOut m b i a Q).length = Q.length
 | _, [], _ => rfl
 | i, x :: xs, Q => by
  show (byOut m b (i + 1) xs (byIn m x i 0 b Q)).length = _
  rw [byOut_length, byIn_length]
end
end Pe

namespace Pe
open Go Gq
variable {T : Nat → Option Fn} {A : Oracle}
noncomputable def mulS {p : Int} [IsP p] (m : Fp p) (a b : List (Fp p)) : List (Fp p) := byOut m b 0 a (List.replicate (a.length + b.length - 1) 0)
end Pe

namespace Pe
open Go Gq
variable {T : Nat → Option Fn} {A : Oracle}
end Pe

namespace Pe
open Go Gq
variable {T : Nat → Option Fn} {A : Oracle}
section
variable {p : Int}
theorem addAt_get_ne {Q : List (Fp p)} {n j : Nat} {v : Fp p} (h : n ≠ j) : (addAt Q n v)[j]? = Q[j]? := by
 unfold addAt; rw [List.getElem?_set_ne h]
end
section
variable {p : Int} [IsP p]
theorem byIn_get_ge {m x : Fp p} {i n : Nat} : ∀ (k : Nat) (b Q : List (Fp p)), i + k + b.length ≤ n → (byIn m x i k b Q)[n]? = Q[n]?
 | _, [], _, _ => rfl
 | k, y :: ys, Q, h => by
  rw [List.length_cons] at h
  show (byIn m x i (k + 1) ys (addAt Q (i + k) _))[n]? = _
  rw [byIn_get_ge (k + 1) ys _ (by omega), addAt_get_ne (by omega)]
theorem byOut_get_ge {m : Fp p} {b : List (Fp p)} {n : Nat} : ∀ (i : Nat) (a Q : List (Fp p)), i + a.length + b.length ≤ n + 1 → (byOut m b i a Q)[n]? = Q[n]?
 | _, [], _, _ => rfl
 | i, x :: xs, Q, h => by
  rw [List.length_cons] at h
  show (byOut m b (i + 1) xs (byIn m x i 0 b Q))[n]? = _
  rw [byOut_get_ge (i + 1) xs _ (by omega), byIn_get_ge 0 b Q (by omega)]
theorem byIn_snoc {m x y : Fp p} {i : Nat} : ∀ (k : Nat) (b Q : List (Fp p)), byIn m x i k (b ++ [y]) Q = addAt (byIn m x i k b Q) (i + (k + b.length)) (x * frIt m (i % (m.len - 1)) y % m)
 | _, [], _ => rfl
 | k, z :: zs, Q => by
  show byIn m x i (k + 1) (zs ++ [y]) (addAt Q (i + k) _) = addAt (byIn m x i (k + 1) zs (addAt Q (i + k) _)) _ _
  rw [byIn_snoc (k + 1) zs, List.length_cons, show i + (k + 1 + zs.length) = i + (k + (zs.length + 1)) by omega]
theorem byOut_snoc {m x : Fp p} {b : List (Fp p)} : ∀ (i : Nat) (a Q : List (Fp p)), byOut m b i (a ++ [x]) Q = byIn m x (i + a.length) 0 b (byOut m b i a Q)
 | _, [], _ => rfl
 | i, z :: zs, Q => by
  show byOut m b (i + 1) (zs ++ [x]) (byIn m z i 0 b Q) = byIn m x _ 0 b (byOut m b (i + 1) zs (byIn m z i 0 b Q))
  rw [byOut_snoc (i + 1) zs, List.length_cons, show i + 1 + zs.length = i + (zs.length + 1) by omega]
theorem mul_mod_ne {m x y : Fp p} (hi : Irr m) (hx : x ≠ 0) (hxl : x.len < m.len) (hy : y ≠ 0) (hyl : y.len < m.len) : x * y % m ≠ 0 := fun h => by
 rcases hi.prime ((dv_iff_mod hi.ne).2 h) with h | h
 ·have := Dv.len h hx; omega
 ·have := Dv.len h hy; omega
theorem frIt_ne {m : Fp p} (hm : Fld m) : ∀ (k : Nat) (y : Fp p), y ≠ 0 → y.len < m.len → frIt m k y ≠ 0
 | 0, _, h, _ => h
 | k + 1, y, h, hl => by
  obtain ⟨h1, h2⟩ := pw_res hm h hl p.toNat
  exact frIt_ne hm k _ h1 h2
end
section
variable {p : Int}
theorem stl_last {S : List (Fp p)} : ∀ (n k : Nat), stl S n = k + 1 → S[k]? ≠ some 0
 | 0, k, h => by cases h
 | n + 1, k, h => by
  unfold stl at h
  split at h
  ·exact stl_last n k h
  ·rename_i h0
   obtain rfl : n = k := by omega
   exact h0
theorem stl_top {S : List (Fp p)} {n : Nat} (h : S[n]? ≠ some 0) : stl S (n + 1) = n + 1 := by
 unfold stl; rw [if_neg h]
theorem trimS_form {S : List (Fp p)} (h : (trimS S).length ≠ 0) : ∃ a x, trimS S = a ++ [x] ∧ x ≠ 0 := by
 have hle := stl_le S S.length
 have hl : (trimS S).length = stl S S.length := by unfold trimS; rw [List.length_take]; omega
 obtain ⟨k, hk⟩ : ∃ k, stl S S.length = k + 1 := ⟨stl S S.length - 1, by omega⟩
 have h1 := stl_last _ _ hk
 have hlt : k < S.length := by omega
 rw [List.getElem?_eq_getElem hlt] at h1
 refine ⟨S.take k, S[k], ?_, fun h => h1 (by rw [h])⟩
 unfold trimS
 rw [hk, List.take_succ_eq_append_getElem hlt]
theorem trimS_top {S : List (Fp p)} {n : Nat} (hl : S.length = n + 1) (h : S[n]? ≠ some 0) : trimS S = S := by
 unfold trimS
 rw [hl, stl_top h, ← hl, List.take_length]
end
section
variable {p : Int} [IsP p]
theorem mulS_top {m x y : Fp p} (hm : Fld m) {a b : List (Fp p)} (hx : x ≠ 0) (hxl : x.len < m.len) (hy : y ≠ 0) (hyl : y.len < m.len) : trimS (mulS m (a ++ [x]) (b ++ [y])) = mulS m (a ++ [x]) (b ++ [y]) := by
 have hl : (mulS m (a ++ [x]) (b ++ [y])).length = a.length + b.length + 1 := by
  unfold mulS
  rw [byOut_length, List.length_replicate, List.length_append, List.length_append]
  simp only [List.length_cons, List.length_nil]; omega
 refine trimS_top hl ?_
 have hfy : frIt m (a.length % (m.len - 1)) y ≠ 0 := frIt_ne hm _ y hy hyl
 have hfl := frIt_len hm.mon.2 (a.length % (m.len - 1)) y hyl
 have hne := mul_mod_ne hm.irr hx hxl hfy hfl
 unfold mulS
 rw [byOut_snoc, byIn_snoc]
 unfold addAt
 rw [byIn_get_ge _ _ _ (by omega), byOut_get_ge _ _ _ (by rw [List.length_append, List.length_cons, List.length_nil]; omega)]
 have hN : 0 + a.length + (0 + b.length) = a.length + b.length := by omega
 rw [hN, List.getElem?_set_self (by rw [byIn_length, byOut_length, List.length_replicate, List.length_append, List.length_append]; simp only [List.length_cons, List.length_nil]; omega)]
 rw [List.getElem?_replicate, if_pos (by rw [List.length_append, List.length_append]; simp only [List.length_cons, List.length_nil]; omega)]
 show some ((0 : Fp p) + _) ≠ some 0
 rw [Gq.zero_add, show 0 + a.length = a.length by omega]
 exact fun h => hne (Option.some.inj h)
noncomputable def prodS (m : Fp p) (a b : List (Fp p)) : List (Fp p) := if a.length = 0 ∨ b.length = 0 then [] else trimS (mulS m a b)
end
end Pe

namespace Pe
open Go Gq
variable {T : Nat → Option Fn} {A : Oracle}
section
variable {p : Int} [IsP p]
theorem addAt_lens {N n : Nat} {Q : List (Fp p)} {v : Fp p} (hQ : ∀ c ∈ Q, c.len ≤ N) (hv : v.len ≤ N) : ∀ c ∈ addAt Q n v, c.len ≤ N := fun c hc => by
 unfold addAt at hc
 rcases List.mem_or_eq_of_mem_set hc with h | rfl
 ·exact hQ c h
 ·refine Pol.len_add_le ?_ hv
  cases he : Q[n]? with
  | none => show (0 : Fp p).len ≤ N; rw [Pol.len_zero]; omega
  | some w => exact hQ w (List.mem_of_getElem? he)
end
end Pe

namespace Pe
open Go Gq
section
variable {p : Int}
noncomputable def cS (A : List (Fp p)) (i : Nat) : Fp p := (A[i]?).getD 0
theorem cS_ge {A : List (Fp p)} {i : Nat} (h : A.length ≤ i) : cS A i = 0 := by unfold cS; rw [List.getElem?_eq_none h]; rfl
theorem cS_lt {A : List (Fp p)} {i : Nat} (h : i < A.length) : A[i] = cS A i := by unfold cS; rw [List.getElem?_eq_getElem h]; rfl
def IsTrim (A : List (Fp p)) : Prop := ∀ n, A.length = n + 1 → cS A n ≠ 0
theorem cS_trim (S : List (Fp p)) (i : Nat) : cS (trimS S) i = cS S i := by
 unfold cS trimS
 have hle := stl_le S S.length
 by_cases h : i < stl S S.length
 ·rw [List.getElem?_take, if_pos h]
 ·rw [List.getElem?_take, if_neg h]
  by_cases h2 : i < S.length
  ·rw [stl_zero S S.length i (by omega) h2]; rfl
  ·rw [List.getElem?_eq_none (by omega)]
theorem isTrim_trim (S : List (Fp p)) : IsTrim (trimS S) := fun n hn => by
 obtain ⟨a, x, e, hx⟩ := trimS_form (S := S) (by omega)
 rw [e] at hn ⊢
 rw [List.length_append, List.length_singleton] at hn
 unfold cS
 rw [List.getElem?_append_right (by omega), show n - a.length = 0 by omega]
 exact hx
theorem trim_len_le {X : List (Fp p)} {n : Nat} (h : ∀ i, n ≤ i → cS X i = 0) : (trimS X).length ≤ n := by
 rcases Nat.lt_or_ge n (trimS X).length with g | g
 ·have := isTrim_trim X ((trimS X).length - 1) (by omega)
  rw [cS_trim] at this
  exact absurd (h _ (by omega)) this
 ·exact g
theorem isTrim_nil : IsTrim ([] : List (Fp p)) := fun n h => by cases h
theorem cS_mem {A : List (Fp p)} {N : Nat} (h : ∀ i, (cS A i).len ≤ N) : ∀ c ∈ A, c.len ≤ N := fun c hc => by
 obtain ⟨i, hi, rfl⟩ := List.getElem_of_mem hc
 rw [cS_lt hi]; exact h i
theorem mem_cS {A : List (Fp p)} {N : Nat} (h : ∀ c ∈ A, c.len ≤ N) (i : Nat) : (cS A i).len ≤ N := by
 by_cases hi : i < A.length
 ·rw [← cS_lt hi]; exact h _ (List.getElem_mem hi)
 ·rw [cS_ge (by omega), Pol.len_zero]; omega
theorem cS_map {n : Nat} {f : Nat → Fp p} (i : Nat) : cS ((List.range n).map f) i = if i < n then f i else 0 := by
 unfold cS
 rw [List.getElem?_map]
 by_cases h : i < n
 ·rw [List.getElem?_range h, if_pos h]; rfl
 ·rw [List.getElem?_eq_none (by simpa using h), if_neg h]; rfl
noncomputable def plusS (k : Int) (A B : List (Fp p)) : List (Fp p) := trimS ((List.range (max A.length B.length)).map fun i => cS A i + Pol.C (zp p k) * cS B i)
theorem cS_plus (k : Int) (A B : List (Fp p)) (i : Nat) : cS (plusS k A B) i = cS A i + Pol.C (zp p k) * cS B i := by
 unfold plusS
 rw [cS_trim, cS_map]
 split
 ·rfl
 ·rw [cS_ge (A := A) (by omega), cS_ge (A := B) (by omega), Gq.mul_zero, Gq.add_zero]
theorem isTrim_plus (k : Int) (A B : List (Fp p)) : IsTrim (plusS k A B) := isTrim_trim _
theorem plus_len (k : Int) (A B : List (Fp p)) : (plusS k A B).length ≤ max A.length B.length := trim_len_le fun i hi => by
 rw [cS_map, if_neg (by omega)]
noncomputable def termS (c : Fp p) (k : Nat) : List (Fp p) := List.replicate k 0 ++ [c]
theorem termS_length (c : Fp p) (k : Nat) : (termS c k).length = k + 1 := by unfold termS; rw [List.length_append, List.length_replicate]; rfl
theorem cS_term (c : Fp p) (k i : Nat) : cS (termS c k) i = if i = k then c else 0 := by
 unfold cS termS
 rcases Nat.lt_trichotomy i k with h | h | h
 ·rw [List.getElem?_append_left (by rw [List.length_replicate]; exact h), List.getElem?_replicate, if_pos h, if_neg (by omega)]; rfl
 ·rw [List.getElem?_append_right (by rw [List.length_replicate]; omega), List.length_replicate, h, Nat.sub_self, if_pos rfl]; rfl
 ·rw [List.getElem?_eq_none (by rw [List.length_append, List.length_replicate, List.length_singleton]; omega), if_neg (by omega)]; rfl
theorem isTrim_term {c : Fp p} (h : c ≠ 0) (k : Nat) : IsTrim (termS c k) := fun n hn => by
 rw [termS_length] at hn
 rw [cS_term, if_pos (by omega)]; exact h
theorem trimS_len_le (S : List (Fp p)) : (trimS S).length ≤ S.length := by
 unfold trimS; rw [List.length_take]; omega
theorem snoc_of {B : List (Fp p)} (h : 1 ≤ B.length) : ∃ b, B = b ++ [cS B (B.length - 1)] ∧ b.length = B.length - 1 := by
 have hlt : B.length - 1 < B.length := by omega
 refine ⟨B.take (B.length - 1), ?_, by rw [List.length_take]; omega⟩
 rw [← cS_lt hlt, ← List.take_succ_eq_append_getElem hlt, show B.length - 1 + 1 = B.length by omega, List.take_length]
end
section
variable {p : Int} [IsP p]
theorem byIn_lens' {m x : Fp p} {i N : Nat} (hm : m ≠ 0) (hN : m.len ≤ N + 1) : ∀ (k : Nat) (b Q : List (Fp p)), (∀ c ∈ Q, c.len ≤ N) → ∀ c ∈ byIn m x i k b Q, c.len ≤ N
 | _, [], _, h => h
 | k, y :: ys, Q, h => byIn_lens' hm hN (k + 1) ys _ (addAt_lens h (by have := Pol.len_mod (x * frIt m (i % (m.len - 1)) y) hm; omega))
theorem byOut_lens' {m : Fp p} {b : List (Fp p)} {N : Nat} (hm : m ≠ 0) (hN : m.len ≤ N + 1) : ∀ (i : Nat) (a Q : List (Fp p)), (∀ c ∈ Q, c.len ≤ N) → ∀ c ∈ byOut m b i a Q, c.len ≤ N
 | _, [], _, h => h
 | i, _x :: xs, Q, h => byOut_lens' hm hN (i + 1) xs _ (byIn_lens' hm hN 0 b Q h)
theorem prodS_lens' {m : Fp p} {a b : List (Fp p)} {N : Nat} (hm : m ≠ 0) (hN : m.len ≤ N + 1) : ∀ c ∈ prodS m a b, c.len ≤ N := fun c hc => by
 unfold prodS at hc
 split at hc
 ·cases hc
 ·have h1 : c ∈ mulS m a b := List.mem_of_mem_take hc
  exact byOut_lens' hm hN 0 a _ (fun c hc => by rw [List.eq_of_mem_replicate hc, Pol.len_zero]; omega) c h1
theorem isTrim_prod (m : Fp p) (a b : List (Fp p)) : IsTrim (prodS m a b) := by
 unfold prodS
 split
 ·exact isTrim_nil
 ·exact isTrim_trim _
theorem prod_len_le {m : Fp p} {a b : List (Fp p)} : (prodS m a b).length ≤ a.length + b.length - 1 := by
 unfold prodS
 split
 ·exact Nat.zero_le _
 ·have := trimS_len_le (mulS m a b)
  have hl : (mulS m a b).length = a.length + b.length - 1 := by unfold mulS; rw [byOut_length, List.length_replicate]
  omega
theorem mulS_val {m x y : Fp p} {a b : List (Fp p)} : cS (mulS m (a ++ [x]) (b ++ [y])) (a.length + b.length) = x * frIt m (a.length % (m.len - 1)) y % m := by
 unfold mulS
 rw [byOut_snoc, byIn_snoc]
 unfold addAt
 rw [byIn_get_ge _ _ _ (by omega), byOut_get_ge _ _ _ (by rw [List.length_append, List.length_cons, List.length_nil]; omega)]
 have hN : 0 + a.length + (0 + b.length) = a.length + b.length := by omega
 rw [hN]
 unfold cS
 rw [List.getElem?_set_self (by rw [byIn_length, byOut_length, List.length_replicate, List.length_append, List.length_append]; simp only [List.length_cons, List.length_nil]; omega)]
 rw [List.getElem?_replicate, if_pos (by rw [List.length_append, List.length_append]; simp only [List.length_cons, List.length_nil]; omega)]
 show (0 : Fp p) + _ = _
 rw [Gq.zero_add, show 0 + a.length = a.length by omega]
theorem prod_top {m : Fp p} {A B : List (Fp p)} (ha : 1 ≤ A.length) (hb : 1 ≤ B.length) : cS (prodS m A B) (A.length - 1 + (B.length - 1)) = cS A (A.length - 1) * frIt m ((A.length - 1) % (m.len - 1)) (cS B (B.length - 1)) % m := by
 obtain ⟨a, ea, la⟩ := snoc_of ha
 obtain ⟨b, eb, lb⟩ := snoc_of hb
 have h := mulS_val (m := m) (x := cS A (A.length - 1)) (y := cS B (B.length - 1)) (a := a) (b := b)
 rw [← ea, ← eb, la, lb] at h
 unfold prodS
 rw [if_neg (by omega), cS_trim]
 exact h
theorem inv_back {m x y : Fp p} (hm : Fld m) (hx : x.len < m.len) (hy : y ≠ 0) (hyl : y.len < m.len) : (x * invm m y % m) * y % m = x ∧ y * (x * invm m y % m) % m = x := by
 have h0 : m ≠ 0 := hm.mon.2
 have e := invm_ok hm hy hyl
 have key : Quo.mk m ((x * invm m y % m) * y) = Quo.mk m x := by
  rw [Quo.mk_mul, Pol.mk_mod, Quo.mk_mul, Gq.mul_assoc, e, Gq.mul_one]
 have h1 := (Pol.mod_eq_iff h0).2 key
 rw [Pol.mod_small hx] at h1
 exact ⟨h1, by rw [Gq.mul_comm]; exact h1⟩
theorem frIt_add {m : Fp p} : ∀ (b a : Nat) (x : Fp p), frIt m (a + b) x = frIt m a (frIt m b x)
 | 0, _, _ => rfl
 | b + 1, a, x => by
  show frIt m (a + b) (pw x p.toNat % m) = frIt m a (frIt m b (pw x p.toNat % m))
  exact frIt_add b a _
theorem frIt_round {m : Fp p} (hm : Fld m) (j : Nat) {z : Fp p} (hz : z.len < m.len) : frIt m (j % (m.len - 1)) (frIt m ((m.len - 1 - j % (m.len - 1)) % (m.len - 1)) z) = z := by
 have h2 := hm.two
 have hlt := Nat.mod_lt j (show 0 < m.len - 1 by omega)
 rw [frIt_mod hm _ hz, ← frIt_add, show j % (m.len - 1) + (m.len - 1 - j % (m.len - 1)) = m.len - 1 by omega, ← frIt_mod hm _ hz, Nat.mod_self]
 rfl
noncomputable def qc (left : Bool) (m : Fp p) (A B : List (Fp p)) : Fp p :=
 if left then frIt m ((m.len - 1 - (B.length - 1) % (m.len - 1)) % (m.len - 1)) (cS A (A.length - 1) * invm m (cS B (B.length - 1)) % m)
 else cS A (A.length - 1) * invm m (frIt m ((A.length - B.length) % (m.len - 1)) (cS B (B.length - 1))) % m
noncomputable def qT (left : Bool) (m : Fp p) (A B : List (Fp p)) : List (Fp p) := termS (qc left m A B) (A.length - B.length)
noncomputable def qP (left : Bool) (m : Fp p) (A B : List (Fp p)) : List (Fp p) := if left then prodS m B (qT left m A B) else prodS m (qT left m A B) B
end
section
variable {p : Int}
structure Sk (m : Fp p) (A : List (Fp p)) : Prop where
 trim : IsTrim A
 eight : A.length ≤ 8
 res : ∀ c ∈ A, c.len < m.len
theorem Sk.cs {m : Fp p} {A : List (Fp p)} (h : Sk m A) (hm : m ≠ 0) (i : Nat) : (cS A i).len < m.len := by
 have := mem_cS (N := m.len - 1) (fun c hc => by have := h.res c hc; omega) i
 have := Pol.len_pos hm
 omega
theorem Sk.top {m : Fp p} {A : List (Fp p)} (h : Sk m A) (h1 : 1 ≤ A.length) : cS A (A.length - 1) ≠ 0 := h.trim _ (by omega)
theorem Sk.nil (m : Fp p) : Sk m [] := ⟨isTrim_nil, by simp, fun c h => by cases h⟩
end
section
variable {p : Int} [IsP p]
theorem c_ge' {p : Int} {a : Fp p} {n : Nat} (h : a.len ≤ n) : a.c n = 0 := a.lt_len n h
theorem Sk.plus {m : Fp p} {A B : List (Fp p)} (hm : m ≠ 0) (hA : Sk m A) (hB : Sk m B) (k : Int) : Sk m (plusS k A B) := by
 have h1 := Pol.len_pos hm
 refine ⟨isTrim_plus k A B, by have := plus_len k A B; have := hA.eight; have := hB.eight; omega, fun c hc => ?_⟩
 have := cS_mem (A := plusS k A B) (N := m.len - 1) (fun i => by
  rw [cS_plus]
  have a1 := hA.cs hm i
  have a2 := hB.cs hm i
  exact Pol.len_add_le (by omega) (Pol.len_le fun j hj => by rw [Pol.c_Cmul, c_ge' (by omega), Gq.mul_zero])) c hc
 omega
theorem step_ok (left : Bool) {m : Fp p} (hm : Fld m) {A B : List (Fp p)} (hA : Sk m A) (hB : Sk m B) (h1 : 1 ≤ B.length) (hle : B.length ≤ A.length) :
 qc left m A B ≠ 0 ∧ (qc left m A B).len < m.len ∧ Sk m (qT left m A B) ∧ Sk m (qP left m A B) ∧ (plusS (-1) A (qP left m A B)).length < A.length ∧ Sk m (plusS (-1) A (qP left m A B)) := by
 have h0 : m ≠ 0 := hm.mon.2
 have hx := hA.top (by omega)
 have hxl := hA.cs h0 (A.length - 1)
 have hy := hB.top h1
 have hyl := hB.cs h0 (B.length - 1)
 have hfy : frIt m ((A.length - B.length) % (m.len - 1)) (cS B (B.length - 1)) ≠ 0 := frIt_ne hm _ _ hy hyl
 have hfl := frIt_len h0 ((A.length - B.length) % (m.len - 1)) (cS B (B.length - 1)) hyl
 have hb1 := inv_back hm hxl hfy hfl
 have hb2 := inv_back hm hxl hy hyl
 have hzl : (cS A (A.length - 1) * invm m (cS B (B.length - 1)) % m).len < m.len := Pol.len_mod _ h0
 have hz0 : cS A (A.length - 1) * invm m (cS B (B.length - 1)) % m ≠ 0 := fun h => by
  have := hb2.1
  rw [h, Gq.zero_mul, Pol.zero_mod h0] at this
  exact hx this.symm
 have hc0 : qc left m A B ≠ 0 := by
  unfold qc
  cases left with
  | true => simp only [if_true]; exact frIt_ne hm _ _ hz0 hzl
  | false =>
   simp only [Bool.false_eq_true, if_false]
   intro h
   have := hb1.1
   rw [h, Gq.zero_mul, Pol.zero_mod h0] at this
   exact hx this.symm
 have hcl : (qc left m A B).len < m.len := by
  unfold qc
  cases left with
  | true => simp only [if_true]; exact frIt_len h0 _ _ hzl
  | false => simp only [Bool.false_eq_true, if_false]; exact Pol.len_mod _ h0
 have hTl : (qT left m A B).length = A.length - B.length + 1 := termS_length _ _
 have h8 := hA.eight
 have hT : Sk m (qT left m A B) := ⟨isTrim_term hc0 _, by omega, fun c hc => by
  unfold qT termS at hc
  rcases List.mem_append.1 hc with h | h
  ·rw [List.eq_of_mem_replicate h, Pol.len_zero]; exact Pol.len_pos h0
  ·rw [List.mem_singleton.1 h]; exact hcl⟩
 have hPl : (qP left m A B).length ≤ A.length := by
  unfold qP
  cases left with
  | true => have := prod_len_le (m := m) (a := B) (b := qT true m A B); simp only [if_true]; omega
  | false => have := prod_len_le (m := m) (a := qT false m A B) (b := B); simp only [Bool.false_eq_true, if_false]; omega
 have hP : Sk m (qP left m A B) := by
  have hm1 := Pol.len_pos h0
  refine ⟨?_, by omega, ?_⟩
  ·unfold qP
   cases left with
   | true => exact isTrim_prod _ _ _
   | false => exact isTrim_prod _ _ _
  ·intro c hc
   have : c.len ≤ m.len - 1 := by
    unfold qP at hc
    cases left with
    | true => exact prodS_lens' h0 (by omega) c hc
    | false => exact prodS_lens' h0 (by omega) c hc
   omega
 have htop : cS (qP left m A B) (A.length - 1) = cS A (A.length - 1) := by
  unfold qP
  cases left with
  | true =>
   simp only [if_true]
   have h := prod_top (m := m) (A := B) (B := qT true m A B) h1 (by omega)
   rw [hTl, show B.length - 1 + (A.length - B.length + 1 - 1) = A.length - 1 by omega, show A.length - B.length + 1 - 1 = A.length - B.length by omega] at h
   rw [h]
   unfold qT
   rw [cS_term, if_pos rfl]
   unfold qc
   simp only [if_true]
   rw [frIt_round hm (B.length - 1) hzl]
   exact hb2.2
  | false =>
   simp only [Bool.false_eq_true, if_false]
   have h := prod_top (m := m) (A := qT false m A B) (B := B) (by omega) h1
   rw [hTl, show A.length - B.length + 1 - 1 + (B.length - 1) = A.length - 1 by omega, show A.length - B.length + 1 - 1 = A.length - B.length by omega] at h
   rw [h]
   unfold qT
   rw [cS_term, if_pos rfl]
   unfold qc
   simp only [Bool.false_eq_true, if_false]
   exact hb1.1
 have hneg : ∀ x : Fp p, x + Pol.C (zp p (-1)) * x = 0 := fun x => by
  rw [zp_neg, zp_one, Pol.C_neg, Pol.C_one]
  exact ring_of [x] rfl
 refine ⟨hc0, hcl, hT, hP, ?_, hA.plus h0 hP (-1)⟩
 have hlt : (plusS (-1) A (qP left m A B)).length ≤ A.length - 1 := trim_len_le fun i hi => by
  rw [cS_map]
  split
  ·rcases Nat.lt_or_ge i A.length with g | g
   ·rw [show i = A.length - 1 by omega, htop, hneg]
   ·rw [cS_ge g, cS_ge (A := qP left m A B) (by omega), Gq.mul_zero, Gq.add_zero]
  ·rfl
 omega
def Zto (Q A B : List (Fp p)) : Prop := ∀ j, j + B.length ≤ A.length → cS Q j = 0
theorem Zto.step {left : Bool} {m : Fp p} (hm : Fld m) {Q A B : List (Fp p)} (hA : Sk m A) (hB : Sk m B) (h1 : 1 ≤ B.length) (hle : B.length ≤ A.length) (hz : Zto Q A B) : Zto (plusS 1 Q (qT left m A B)) (plusS (-1) A (qP left m A B)) B := fun j hj => by
 obtain ⟨_, _, _, _, h, _⟩ := step_ok left hm hA hB h1 hle
 unfold qT
 rw [cS_plus, hz j (by omega), cS_term, if_neg (by omega), Gq.mul_zero, Gq.add_zero]
end
end Pe



namespace Pe
open Go Gq
variable {T : Nat → Option Fn} {A : Oracle}
abbrev z6 : List Int := List.replicate 6 0
section
variable {p : Int} [IsP p]
noncomputable def mono (p : Int) (i : Nat) : Fp p := numP p (p ^ i)
end
end Pe

namespace Pe
open Go Gq
variable {T : Nat → Option Fn} {A : Oracle}
section
variable {O : Oracle} {g : Nat} {first caps : List D}
structure CmpRow (O : Oracle) (g : Nat) (first caps : List D) (f : D → Int) (s : Sh) (cs : List D) : Prop where
 nf : noTup first
 nc : noTup caps
 nx : noTup cs
 sh : AllSh s cs
 ask : ∀ x ∈ cs, ∀ y ∈ cs, ∃ v : Int, ask O g (first ++ [x, y] ++ caps) = some (D.int .i64 v) ∧ (v < 0 ↔ f x < f y)
theorem CmpRow.perm {f : D → Int} {s : Sh} {cs ds : List D} (h : CmpRow O g first caps f s cs) (p : ds.Perm cs) : CmpRow O g first caps f s ds :=
 ⟨h.nf, h.nc, fun x hx => h.nx x (p.subset hx), fun x hx => h.sh x (p.subset hx), fun x hx y hy => h.ask x (p.subset hx) y (p.subset hy)⟩
theorem CmpRow.call {f : D → Int} {s : Sh} {cs : List D} (h : CmpRow O g first caps f s cs) {hp : Heap} {np : Nat} {news : List Nat} {x y : D} (hx : x ∈ cs) (hy : y ∈ cs) :
 ∃ v : Int, kCall O np hp .flat news (g, first.map .d, caps.map .d) [.d x, .d y] = some (.d (D.int .i64 v), hp) ∧ (v < 0 ↔ f x < f y) := by
 have e : toDs hp (first.map .d ++ [.d x, .d y] ++ caps.map .d) = some (first ++ [x, y] ++ caps) :=
  toDs_app hp (toDs_app hp (toDs_map hp h.nf) (toDs_map hp (ds := [x, y]) (by intro z hz; simp at hz; rcases hz with rfl | rfl; exact h.nx _ hx; exact h.nx _ hy))) (toDs_map hp h.nc)
 obtain ⟨v, e1, e2⟩ := h.ask x hx y hy
 refine ⟨v, ?_, e2⟩
 rw [kCall_flat, e, Option.bind_some, kAsk_ask, e1, Option.bind_some, kAns_flat, show (D.int IntKind.i64 v).flat = true from rfl, if_pos rfl]
end
end Pe

namespace Pe
open Go Gq
variable {T : Nat → Option Fn} {A : Oracle}
section
variable {p : Int}
noncomputable def elim (a b : Fp p) : Fp p := b + Pol.C (-(b.c (a.len - 1))) * a
end
section
variable {p : Int} [IsP p]
structure Desc (N : Nat) (L : List (Fp p)) : Prop where
 pw : L.Pairwise fun x y => y.len < x.len
 mon : ∀ b ∈ L, Monic b
 le : ∀ b ∈ L, b.len ≤ N
theorem Desc.nil (N : Nat) : Desc N ([] : List (Fp p)) := ⟨List.Pairwise.nil, (fun _ h => by cases h), (fun _ h => by cases h)⟩
theorem Desc.tail {N : Nat} {b : Fp p} {L : List (Fp p)} (h : Desc N (b :: L)) : Desc N L ∧ ∀ c ∈ L, c.len < b.len :=
 ⟨⟨h.pw.tail, fun c hc => h.mon c (by simp [hc]), fun c hc => h.le c (by simp [hc])⟩, (List.pairwise_cons.1 h.pw).1⟩
theorem Desc.length : ∀ {N : Nat} {L : List (Fp p)}, Desc N L → L.length ≤ N
 | N, [], _ => Nat.zero_le _
 | N, b :: L, h => by
  obtain ⟨h1, h2⟩ := h.tail
  have hb := Pol.len_pos (h.mon b (by simp)).2
  have hle := h.le b (by simp)
  have := Desc.length (N := b.len - 1) ⟨h1.pw, h1.mon, fun c hc => by have := h2 c hc; omega⟩
  rw [List.length_cons]; omega
end
section
variable {p : Int}
end
end Pe

namespace Pe
open Go Gq
variable {T : Nat → Option Fn} {A : Oracle}
end Pe

namespace Pe
open Go Gq
variable {T : Nat → Option Fn} {A : Oracle}
section
variable {p : Int} [IsP p]
end
end Pe



namespace Pe
open Go Gq
variable {T : Nat → Option Fn} {A : Oracle}
section
variable {p : Int} [IsP p]
end
end Pe


namespace Pe
open Go Gq
variable {T : Nat → Option Fn} {A : Oracle}
section
variable {p : Int}
end
section
variable {p : Int} [IsP p]
end
end Pe


namespace Pe
open Go Gq
variable {T : Nat → Option Fn} {A : Oracle}
end Pe

namespace Pe
open Go Gq
variable {T : Nat → Option Fn} {A : Oracle}
end Pe


namespace Pe
open Go Gq
variable {T : Nat → Option Fn} {A : Oracle}
section
variable {p : Int} [IsP p]
end
end Pe


namespace Pe
open Go Gq
variable {T : Nat → Option Fn} {A : Oracle}
section
variable {p : Int} [IsP p]
end
end Pe

namespace Pe
open Go Gq
variable {T : Nat → Option Fn} {A : Oracle}
section
variable {α : Type}
end
end Pe

namespace Pe
open Go Gq
variable {T : Nat → Option Fn} {A : Oracle}
end Pe


namespace Pe
open Go Gq
variable {T : Nat → Option Fn} {A : Oracle}
end Pe

namespace Pe
open Go Gq
variable {T : Nat → Option Fn} {A : Oracle}
end Pe

namespace Pe
open Go Gq
variable {T : Nat → Option Fn} {A : Oracle}
section
variable {p : Int} [IsP p]
noncomputable def monS (m : Fp p) (X : List (Fp p)) : List (Fp p) := prodS m (termS (invm m (cS X (X.length - 1))) 0) X
theorem Sk.mon {m : Fp p} {X : List (Fp p)} (hm : m ≠ 0) (hX : Sk m X) : Sk m (monS m X) := by
 have h1 := Pol.len_pos hm
 have hl := prod_len_le (m := m) (a := termS (invm m (cS X (X.length - 1))) 0) (b := X)
 rw [termS_length] at hl
 have h8 := hX.eight
 exact ⟨isTrim_prod _ _ _, by unfold monS; omega, fun c hc => by have := prodS_lens' (N := m.len - 1) hm (by omega) c hc; omega⟩
end
end Pe

namespace Pe
open Go Gq
variable {T : Nat → Option Fn} {A : Oracle}
section
variable {p : Int}
end
section
variable {p : Int} [IsP p]
theorem prodS_len {m : Fp p} (hm : Fld m) {X Y : List (Fp p)} (hX : IsTrim X) (hY : IsTrim Y) (hXl : ∀ c ∈ X, c.len < m.len) (hYl : ∀ c ∈ Y, c.len < m.len) (h1 : 1 ≤ X.length) (h2 : 1 ≤ Y.length) : (prodS m X Y).length = X.length + Y.length - 1 := by
 obtain ⟨a, ea, la⟩ := snoc_of h1
 obtain ⟨b, eb, lb⟩ := snoc_of h2
 have hx := hX (X.length - 1) (by omega)
 have hy := hY (Y.length - 1) (by omega)
 have ht := mulS_top hm (a := a) (b := b) hx (hXl _ (by rw [← cS_lt (show X.length - 1 < X.length by omega)]; exact List.getElem_mem _)) hy (hYl _ (by rw [← cS_lt (show Y.length - 1 < Y.length by omega)]; exact List.getElem_mem _))
 rw [← ea, ← eb] at ht
 unfold prodS
 rw [if_neg (by omega), ht]
 unfold mulS
 rw [byOut_length, List.length_replicate]
theorem one_ne8 : (1 : Fp p) ≠ 0 := fun h => by
 have e : (1 : Fp p).len = 1 := Pol.len_one
 rw [h, Pol.len_zero] at e
 cases e
theorem mon_len {m : Fp p} (hm : Fld m) {X : List (Fp p)} (hX : IsTrim X) (hr : ∀ c ∈ X, c.len < m.len) (h1 : 1 ≤ X.length) : (monS m X).length = X.length := by
 have h0 := hm.mon.2
 have hx : cS X (X.length - 1) ≠ 0 := hX _ (by omega)
 have hxl : (cS X (X.length - 1)).len < m.len := by
  rw [← cS_lt (show X.length - 1 < X.length by omega)]; exact hr _ (List.getElem_mem _)
 have hi : invm m (cS X (X.length - 1)) ≠ 0 := fun h => by
  have e := inv_back hm (x := 1) (by have := hm.two; have : (1 : Fp p).len = 1 := Pol.len_one; omega) hx hxl
  rw [h, Gq.mul_zero, Pol.zero_mod h0, Gq.zero_mul, Pol.zero_mod h0] at e
  exact one_ne8 e.1.symm
 have hil := invm_len h0 (cS X (X.length - 1))
 have := prodS_len hm (isTrim_term hi 0) hX (fun c hc => by
  unfold termS at hc
  rw [List.replicate_zero, List.nil_append] at hc
  rw [List.mem_singleton.1 hc]; exact hil) hr (by rw [termS_length]; omega) h1
 rw [termS_length] at this
 unfold monS
 omega
end
end Pe


namespace Pe
open Go Gq
variable {T : Nat → Option Fn} {A : Oracle}
section
variable {p : Int} [IsP p]
end
end Pe

namespace Pe
open Go Gq
section
variable {p : Int}
noncomputable def sg {m : Fp p} : Nat → Quo m → Quo m
 | 0, x => x
 | k + 1, x => sg k (pw x p.toNat)
theorem pw_zero_pos [IsP p] {m : Fp p} : pw (0 : Quo m) p.toNat = 0 := by
 have h := IsP.pos (p := p)
 have : p.toNat = (p.toNat - 1) + 1 := by omega
 rw [this]
 show pw (0 : Quo m) (p.toNat - 1) * 0 = 0
 exact Gq.mul_zero _
theorem sg_zero [IsP p] {m : Fp p} : ∀ k, sg k (0 : Quo m) = 0
 | 0 => rfl
 | k + 1 => by
  show sg k (pw (0 : Quo m) p.toNat) = 0
  rw [pw_zero_pos, sg_zero k]
section
variable {m : Fp p}
noncomputable def e0 : Nat → Quo m
 | 0 => 1
 | _ + 1 => 0
theorem nine (t0 t1 t2 a b c d e f g h i s u v : Quo m) : t0 * (a * s + b * u + c * v) + t1 * (d * s + e * u + f * v) + t2 * (g * s + h * u + i * v) = (t0 * a + t1 * d + t2 * g) * s + (t0 * b + t1 * e + t2 * h) * u + (t0 * c + t1 * f + t2 * i) * v := by
 have l : ∀ t a b c : Quo m, t * (a * s + b * u + c * v) = t * a * s + t * b * u + t * c * v := fun t a b c => ring_of [t, a, b, c, s, u, v] rfl
 have q : ∀ x y z w : Quo m, (x + y + z) * w = x * w + y * w + z * w := fun x y z w => ring_of [x, y, z, w] rfl
 have z : ∀ p1 p2 p3 q1 q2 q3 r1 r2 r3 : Quo m, (p1 + p2 + p3) + (q1 + q2 + q3) + (r1 + r2 + r3) = (p1 + q1 + r1) + (p2 + q2 + r2) + (p3 + q3 + r3) := fun p1 p2 p3 q1 q2 q3 r1 r2 r3 => ring_of [p1, p2, p3, q1, q2, q3, r1, r2, r3] rfl
 rw [l, l, l, q, q, q, z]
theorem eight [IsP p] (t0 t1 t2 a b c d e f g h s u v : Quo m) : t0 * (a * s + b * u + c * v) + t1 * (d * s + e * u + f * v) + t2 * (g * s + h * u) = (t0 * a + t1 * d + t2 * g) * s + (t0 * b + t1 * e + t2 * h) * u + (t0 * c + t1 * f) * v := by
 have := nine t0 t1 t2 a b c d e f g h 0 s u v
 simp only [Gq.zero_mul, Gq.mul_zero, Gq.add_zero] at this
 exact this
end
theorem dv_list [IsP p] {m a : Fp p} (hm : Irr m) : ∀ l : List (Fp p), Dv m (l.foldr (fun c r => (a - c) * r) 1) → ∃ c ∈ l, Dv m (a - c)
 | [], h => by
  have h0 : Dv m 1 := h
  have h1 := h0.len Pol.one_ne
  have := hm.len
  rw [Pol.len_one] at h1
  omega
 | c :: l, h => by
  rcases hm.prime (show Dv m ((a - c) * _) from h) with h1 | h1
  ·exact ⟨c, by simp, h1⟩
  ·obtain ⟨d, hd, h2⟩ := dv_list hm l h1
   exact ⟨d, by simp [hd], h2⟩
theorem ip_zero {m : Fp p} {n : Int} (h : p = n) : (ic n : Quo m) = 0 := by
 subst h
 exact ic_p
theorem fix_irr [IsP p] {m a : Fp p} (h2 : 2 ≤ m.len) (hi : Irr m) (hal : a.len < m.len) (h : pw (Quo.mk m a) p.toNat = Quo.mk m a) : a.len ≤ 1 := by
 have main : ∀ l : List (Fp p), (∀ c ∈ l, c.len ≤ 1) → l.foldr (fun c r => (Quo.mk m a - Quo.mk m c) * r) (1 : Quo m) = 0 → a.len ≤ 1 := by
  intro l hl hz
  have e : ∀ l : List (Fp p), Quo.mk m (l.foldr (fun c r => (a - c) * r) 1) = l.foldr (fun c r => (Quo.mk m a - Quo.mk m c) * r) (1 : Quo m) := by
   intro l
   induction l with
   | nil => rfl
   | cons c l ih =>
    show Quo.mk m ((a - c) * _) = (Quo.mk m a - Quo.mk m c) * _
    rw [Quo.mk_mul, Quo.mk_sub, ih]
  obtain ⟨c, hc, hd⟩ := dv_list (a := a) hi l (dv_iff_mk.2 ((e l).trans hz))
  have hcl := hl c hc
  have hz : a - c = 0 := by
   rcases Classical.em (a - c = 0) with h0 | h0
   ·exact h0
   ·have := hd.len h0
    have : (a - c).len ≤ m.len - 1 := by
     rw [Gq.sub_eq]
     exact Pol.len_add_le (by omega) (by rw [Pol.len_neg]; omega)
    omega
  have : a = c := by
   have h3 : a = (a - c) + c := ring_of [a, c] rfl
   rw [h3, hz, Gq.zero_add]
  rw [this]; exact hcl
 have c0 : (0 : Fp p).len ≤ 1 := by rw [Pol.len_zero]; omega
 have c1 : (1 : Fp p).len ≤ 1 := by rw [Pol.len_one]; omega
 have cs : ∀ c : Fp p, c.len ≤ 1 → (c + 1).len ≤ 1 := fun c hc => Pol.len_add_le hc c1
 have k0 : ∀ c : Fp p, c = 0 → c.len ≤ 1 := fun c hc => by rw [hc]; exact c0
 rcases IsP.h (p := p) with hp | hp | hp | hp
 ·have hn : p.toNat = 2 := by omega
  rw [hn] at h
  refine main [0, 1] (by intro c hc; simp at hc; rcases hc with rfl | rfl <;> assumption) ?_
  have h' : Quo.mk m a ^ 2 = Quo.mk m a := h
  show (Quo.mk m a - 0) * ((Quo.mk m a - 1) * 1) = 0
  generalize Quo.mk m a = y at h'
  have e : (y - 0) * ((y - 1) * 1) = y ^ 2 - y := ring_of [y] rfl
  rw [e, h']
  exact ring_of [y] rfl
 ·have hn : p.toNat = 3 := by omega
  have hz := ip_zero (m := m) hp
  rw [hn] at h
  refine main [0, 1, 1 + 1] (by intro c hc; simp at hc; rcases hc with rfl | rfl | rfl <;> first | exact c0 | exact c1 | exact cs _ c1 | exact cs _ (cs _ c1) | exact cs _ (cs _ (cs _ c1)) | exact cs _ (cs _ (cs _ (cs _ c1))) | exact cs _ (cs _ (cs _ (cs _ (cs _ c1))))) ?_
  have h' : Quo.mk m a ^ 3 = Quo.mk m a := h
  show (Quo.mk m a - 0) * ((Quo.mk m a - 1) * ((Quo.mk m a - (1 + 1)) * 1)) = 0
  generalize Quo.mk m a = y at h'
  have e : (y - 0) * ((y - 1) * ((y - (1 + 1)) * 1)) = y ^ 3 - y + ic 3 * (y - y ^ 2) := ring_of [y] rfl
  rw [e, h', hz]
  exact ring_of [y] rfl
 ·have hn : p.toNat = 5 := by omega
  have hz := ip_zero (m := m) hp
  rw [hn] at h
  refine main [0, 1, 1 + 1, 1 + 1 + 1, 1 + 1 + 1 + 1] (by intro c hc; simp at hc; rcases hc with rfl | rfl | rfl | rfl | rfl <;> first | exact c0 | exact c1 | exact cs _ c1 | exact cs _ (cs _ c1) | exact cs _ (cs _ (cs _ c1)) | exact cs _ (cs _ (cs _ (cs _ c1))) | exact cs _ (cs _ (cs _ (cs _ (cs _ c1))))) ?_
  have h' : Quo.mk m a ^ 5 = Quo.mk m a := h
  show (Quo.mk m a - 0) * ((Quo.mk m a - 1) * ((Quo.mk m a - (1 + 1)) * ((Quo.mk m a - (1 + 1 + 1)) * ((Quo.mk m a - (1 + 1 + 1 + 1)) * 1)))) = 0
  generalize Quo.mk m a = y at h'
  have e : (y - 0) * ((y - 1) * ((y - (1 + 1)) * ((y - (1 + 1 + 1)) * ((y - (1 + 1 + 1 + 1)) * 1)))) = y ^ 5 - y + ic 5 * (ic 7 * y ^ 3 + ic 5 * y - ic 2 * y ^ 4 - ic 10 * y ^ 2) := ring_of [y] rfl
  rw [e, h', hz]
  exact ring_of [y] rfl
 ·have hn : p.toNat = 7 := by omega
  have hz := ip_zero (m := m) hp
  rw [hn] at h
  refine main [0, 1, 1 + 1, 1 + 1 + 1, 1 + 1 + 1 + 1, 1 + 1 + 1 + 1 + 1, 1 + 1 + 1 + 1 + 1 + 1] (by intro c hc; simp at hc; rcases hc with rfl | rfl | rfl | rfl | rfl | rfl | rfl <;> first | exact c0 | exact c1 | exact cs _ c1 | exact cs _ (cs _ c1) | exact cs _ (cs _ (cs _ c1)) | exact cs _ (cs _ (cs _ (cs _ c1))) | exact cs _ (cs _ (cs _ (cs _ (cs _ c1))))) ?_
  have h' : Quo.mk m a ^ 7 = Quo.mk m a := h
  show (Quo.mk m a - 0) * ((Quo.mk m a - 1) * ((Quo.mk m a - (1 + 1)) * ((Quo.mk m a - (1 + 1 + 1)) * ((Quo.mk m a - (1 + 1 + 1 + 1)) * ((Quo.mk m a - (1 + 1 + 1 + 1 + 1)) * ((Quo.mk m a - (1 + 1 + 1 + 1 + 1 + 1)) * 1)))))) = 0
  generalize Quo.mk m a = y at h'
  have e : (y - 0) * ((y - 1) * ((y - (1 + 1)) * ((y - (1 + 1 + 1)) * ((y - (1 + 1 + 1 + 1)) * ((y - (1 + 1 + 1 + 1 + 1)) * ((y - (1 + 1 + 1 + 1 + 1 + 1)) * 1)))))) = y ^ 7 - y + ic 7 * (ic 25 * y ^ 5 + ic 232 * y ^ 3 + ic 103 * y - ic 3 * y ^ 6 - ic 105 * y ^ 4 - ic 252 * y ^ 2) := ring_of [y] rfl
  rw [e, h', hz]
  exact ring_of [y] rfl
end
end Pe

namespace Pe
open Go Gq
variable {T : Nat → Option Fn} {A : Oracle}
section
variable {p : Int}
end
end Pe

namespace Pe
open Go Gq
section
variable {K : Type} [CR K]
theorem sumR_shift (f : Nat → K) : ∀ n, sumR f (n + 1) = f 0 + sumR (fun i => f (i + 1)) n
 | 0 => by show 0 + f 0 = f 0 + 0; rw [Gq.add_zero, Gq.zero_add]
 | n + 1 => by
  rw [sumR, sumR_shift f n, sumR]
  exact Gq.add_assoc _ _ _
theorem sumR_congr {f g : Nat → K} : ∀ {n : Nat}, (∀ i, i < n → f i = g i) → sumR f n = sumR g n
 | 0, _ => rfl
 | n + 1, h => by rw [sumR, sumR, sumR_congr fun i hi => h i (by omega), h n (by omega)]
theorem pol_indK {P : Pol K → Prop} (h0 : P 0) (h : ∀ c a, P a → P (Pol.C c + Pol.X * a)) : ∀ (n : Nat) (a : Pol K), a.lt n → P a
 | 0, a, ha => by rw [Pol.lt_zero.1 ha]; exact h0
 | n + 1, a, ha => by
  obtain ⟨m, hm⟩ := a.fin
  let b : Pol K := ⟨fun i => a.c (i + 1), m, fun i hi => hm _ (by omega)⟩
  have e : a = Pol.C (a.c 0) + Pol.X * b := Pol.ext fun i => by
   rw [Pol.c_add, Pol.c_C, Pol.c_Xmul]
   cases i with
   | zero => rw [if_pos rfl, if_pos rfl, Gq.add_zero]
   | succ i => rw [if_neg (by omega), if_neg (by omega), Gq.zero_add]; rfl
  rw [e]
  exact h _ _ (pol_indK h0 h n b fun i hi => ha _ (by omega))
theorem c_lin (θ : K) (h : Pol K) (i : Nat) : ((Pol.X - Pol.C θ) * h).c i = (if i = 0 then 0 else h.c (i - 1)) - θ * h.c i := by
 have e : (Pol.X - Pol.C θ) * h = Pol.X * h - Pol.C θ * h := ring_of [Pol.X, Pol.C θ, h] rfl
 rw [e, Pol.c_sub, Pol.c_Xmul, Pol.c_Cmul]
theorem lin_cancel {θ : K} {h : Pol K} (e : (Pol.X - Pol.C θ) * h = 0) : h = 0 := by
 obtain ⟨n, hn⟩ := h.fin
 have step : ∀ k, k ≤ n → ∀ i, n - k ≤ i → h.c i = 0 := by
  intro k
  induction k with
  | zero => intro _ i hi; exact hn i (by omega)
  | succ k ih =>
   intro hk i hi
   by_cases h1 : n - k ≤ i
   ·exact ih (by omega) i h1
   ·have := c_lin θ h (i + 1)
    rw [e, if_neg (by omega), ih (by omega) (i + 1) (by omega), Gq.mul_zero] at this
    have h2 : h.c i - 0 = h.c i := ring_of [h.c i] rfl
    rw [show i + 1 - 1 = i from rfl, h2] at this
    exact this.symm
 exact Pol.ext fun i => step n (Nat.le_refl n) i (by omega)
end
section
variable {p : Int} {m : Fp p}
theorem sg1_0 [IsP p] : sg 1 (0 : Quo m) = 0 := sg_zero 1
variable {t0 t1 t2 : Quo m}
noncomputable def polS [IsP p] (f : Pol (Quo m)) : Pol (Quo m) := ⟨fun i => sg 1 (f.c i), by
 obtain ⟨n, h⟩ := f.fin
 exact ⟨n, fun i hi => by rw [h i hi, sg1_0]⟩⟩
noncomputable def PQ [IsP p] (u v : Pol (Quo m)) : Nat → Pol (Quo m) × Pol (Quo m)
 | 0 => (1, 0)
 | j + 1 => (u * polS (PQ u v j).2, polS (PQ u v j).1 + v * polS (PQ u v j).2)
end
end Pe

namespace Pe
open Go Gq
section
variable {p : Int} [ip : IsP p]
theorem geo_dvd : ∀ d : Nat, ∃ k : Int, 0 ≤ k ∧ p ^ d - 1 = (p - 1) * k
 | 0 => ⟨0, Int.le_refl _, by rw [Int.pow_zero]; omega⟩
 | d + 1 => by
  obtain ⟨k, k0, h⟩ := geo_dvd d
  have hp := IsP.pos (p := p)
  refine ⟨k * p + 1, by have := Int.mul_nonneg k0 (show 0 ≤ p by omega); omega, ?_⟩
  rw [Int.pow_succ, Int.mul_add, ← Int.mul_assoc, ← h, Int.sub_mul]
  omega
def geoE (p : Int) (d : Nat) : Nat := ((p ^ d - 1) / (p - 1)).toNat
theorem geoE_eq (d : Nat) : geoE p d * p.toNat = geoE p d + (p.toNat ^ d - 1) := by
 obtain ⟨k, k0, h⟩ := geo_dvd (p := p) d
 have hp := IsP.ge (p := p)
 have e : (p ^ d - 1) / (p - 1) = k := by rw [h]; exact Int.mul_ediv_cancel_left _ (by omega)
 have hpos := p_pow_pos (p := p) d
 have hn := pow_nat (p := p) d
 have hE : ((geoE p d : Nat) : Int) = k := by unfold geoE; rw [e]; omega
 have hpn : ((p.toNat : Nat) : Int) = p := by omega
 have h3 : ((geoE p d * p.toNat : Nat) : Int) = ((geoE p d + (p.toNat ^ d - 1) : Nat) : Int) := by
  rw [Int.natCast_mul, hE, hpn, Int.natCast_add, hE, Int.natCast_sub (by omega), hn]
  rw [Int.sub_mul, Int.mul_comm p k] at h
  omega
 omega
theorem geoE_pos {d : Nat} (hd : 1 ≤ d) : 1 ≤ geoE p d := by
 have h := geoE_eq (p := p) d
 have hp := IsP.ge (p := p)
 have : p.toNat ^ 1 ≤ p.toNat ^ d := Nat.pow_le_pow_right (by omega) hd
 rw [Nat.pow_one] at this
 rcases Nat.eq_zero_or_pos (geoE p d) with h0 | h0
 ·rw [h0, Nat.zero_mul] at h; omega
 ·exact h0
variable {q : Fp p}
theorem own_fix (hi : Irr q) (h13 : q.len ≤ 13) (x : Quo q) : pw (pw x (geoE p (q.len - 1))) p.toNat = pw x (geoE p (q.len - 1)) := by
 have h2 := hi.len
 by_cases hx : x = 0
 ·obtain ⟨n, hn⟩ : ∃ n, geoE p (q.len - 1) = n + 1 := ⟨geoE p (q.len - 1) - 1, by have := geoE_pos (p := p) (d := q.len - 1) (by omega); omega⟩
  obtain ⟨k, hk⟩ : ∃ k, p.toNat = k + 1 := ⟨p.toNat - 1, by have := IsP.ge (p := p); omega⟩
  rw [hx, hn, pw, Gq.mul_zero, hk, pw, Gq.mul_zero]
 ·rw [pw_pw, geoE_eq, pw_add, fermat hi (d := q.len - 1) (by omega) (pow_small (by omega)) hx, Gq.mul_one]
end
section
variable {p : Int}
variable {q : Fp p}
theorem len_one_C {r : Fp p} (h : r.len ≤ 1) : r = Pol.C (r.c 0) := Pol.ext fun i => by
 rw [Pol.c_C]
 split
 ·rename_i h0; rw [h0]
 ·exact Pol.lt_len r i (by omega)
end
section
variable {p : Int} [ip : IsP p]
variable {q : Fp p}
theorem own_mk (hi : Irr q) (h13 : q.len ≤ 13) (a : Fp p) : pw (Quo.mk q a) (geoE p (q.len - 1)) = Quo.mk q (Pol.C (zp p (ownS p a q))) := by
 have h2 := hi.len
 have e1 : Quo.mk q (pw a (geoE p (q.len - 1)) % q) = pw (Quo.mk q a) (geoE p (q.len - 1)) := by rw [Pol.mk_mod, Quo.mk_pow]
 have hl := fix_irr (a := pw a (geoE p (q.len - 1)) % q) h2 hi (Pol.len_mod _ hi.ne) (by rw [e1]; exact own_fix hi h13 _)
 have e2 := len_one_C hl
 rw [← e1, e2]
 show Quo.mk q (Pol.C ((pw a (geoE p (q.len - 1)) % q).c 0)) = Quo.mk q (Pol.C (zp p (rep ((pw a (geoE p (q.len - 1)) % q).c 0))))
 rw [zp_rep]
theorem C_inj (h2 : 2 ≤ q.len) {c d : Zp p} (h : Quo.mk q (Pol.C c) = Quo.mk q (Pol.C d)) : c = d := by
 have h1 : Dv q (Pol.C c - Pol.C d) := dv_iff_mk.2 (by rw [Quo.mk_sub, h, Gq.sub_self])
 have hl : (Pol.C c - Pol.C d).len ≤ 1 := Pol.len_sub_le (Pol.len_le fun i hi => by rw [Pol.c_C, if_neg (by omega)]) (Pol.len_le fun i hi => by rw [Pol.c_C, if_neg (by omega)])
 have hz : Pol.C c - Pol.C d = 0 := Classical.byContradiction fun h0 => by
  have := h1.len h0
  omega
 have h3 : (Pol.C c).c 0 = (Pol.C d).c 0 := by rw [eq_of_sub hz]
 rwa [Pol.c_C, Pol.c_C, if_pos rfl, if_pos rfl] at h3
theorem own_mul (hi : Irr q) (h13 : q.len ≤ 13) (a b : Fp p) : zp p (ownS p (a * b) q) = zp p (ownS p a q) * zp p (ownS p b q) := by
 refine C_inj hi.len ?_
 rw [← own_mk hi h13, Quo.mk_mul, pw_mul, own_mk hi h13 a, own_mk hi h13 b, Pol.C_mul, Quo.mk_mul]
end
section
variable {p : Int}
variable {q : Fp p}
theorem rp_zp {own : Int} : ∀ (n : Nat) (out : Int), zp p (rp p own n out) = zp p out * pw (zp p own) n
 | 0, out => (Gq.mul_one _).symm
 | n + 1, out => by
  rw [rp, rp_zp n, zp_mod, zp_mul, pw]
  exact ring_of [zp p out, zp p own, pw (zp p own) n] rfl
end
section
variable {p : Int} [ip : IsP p]
variable {q : Fp p}
noncomputable def ownL (a : Fp p) : Facs p → Zp p
 | [] => 1
 | x :: L => pw (zp p (ownS p a x.1)) x.2 * ownL a L
theorem symL_zp (a : Fp p) : ∀ (L : Facs p) (out : Int), zp p (symL p a L out) = zp p out * ownL a L
 | [], out => (Gq.mul_one _).symm
 | x :: L, out => by
  rw [symL, symL_zp a L, rp_zp, ownL, Gq.mul_assoc]
theorem symb_zp (a m : Fp p) : zp p (symb p a m) = ownL a (fac m) := by
 unfold symb
 rw [symL_zp, zp_one, Gq.one_mul]
theorem ownL_mul (a b : Fp p) : ∀ {L : Facs p}, (∀ x ∈ L, Irr x.1 ∧ x.1.len ≤ 13) → ownL (a * b) L = ownL a L * ownL b L
 | [], _ => (Gq.mul_one _).symm
 | x :: L, h => by
  obtain ⟨h1, h2⟩ := h x (by simp)
  rw [ownL, ownL, ownL, ownL_mul a b (fun y hy => h y (by simp [hy])), own_mul h1 h2, pw_mul]
  exact ring_of [pw (zp p (ownS p a x.1)) x.2, pw (zp p (ownS p b x.1)) x.2, ownL a L, ownL b L] rfl
theorem symb_mul {a b m : Fp p} (hm : m ≠ 0) (h13 : m.len ≤ 13) (hf : IsFac m (fac m)) : symb p (a * b) m = symb p a m * symb p b m % p := by
 have h1 : zp p (symb p (a * b) m) = zp p (symb p a m * symb p b m) := by
  rw [zp_mul, symb_zp, symb_zp, symb_zp]
  exact ownL_mul a b fun x hx => ⟨(hf.ok.irr x hx).1, by have := hf.len hm hx; omega⟩
 obtain ⟨h2, h3⟩ := symb_in (p := p) (a * b) m
 have h4 := zp_eq.1 h1
 rwa [Int.emod_eq_of_lt h2 h3] at h4
end
end Pe

namespace Pe
open Go Gq
section
variable {K S : Type} [CR K] [CR S]
structure Hom (f : K → S) : Prop where
 add : ∀ x y, f (x + y) = f x + f y
 mul : ∀ x y, f (x * y) = f x * f y
 one : f 1 = 1
theorem Hom.zero {f : K → S} (h : Hom f) : f 0 = 0 := by
 have e := h.add 0 0
 rw [Gq.add_zero] at e
 have e2 : f 0 + f 0 - f 0 = f 0 := ring_of [f 0] rfl
 rw [← e, Gq.sub_self] at e2
 exact e2.symm
noncomputable def evP (f : K → S) (z : S) (a : Pol K) : S := sumR (fun i => f (a.c i) * pw z i) a.len
variable {f : K → S} {z : S}
theorem evP_lt (h : Hom f) {a : Pol K} {n : Nat} (hn : a.lt n) : evP f z a = sumR (fun i => f (a.c i) * pw z i) n := by
 have g : ∀ m, a.lt m → ∀ k, sumR (fun i => f (a.c i) * pw z i) (m + k) = sumR (fun i => f (a.c i) * pw z i) m := fun m hm k =>
  sumR_more _ m (fun i hi => by rw [hm i hi, h.zero, Gq.zero_mul]) k
 unfold evP
 rw [← g _ a.lt_len n, ← g n hn a.len, Nat.add_comm]
theorem evP_add (h : Hom f) (a b : Pol K) : evP f z (a + b) = evP f z a + evP f z b := by
 have h1 : a.lt (a.len + b.len) := fun i hi => a.lt_len i (by omega)
 have h2 : b.lt (a.len + b.len) := fun i hi => b.lt_len i (by omega)
 rw [evP_lt h h1, evP_lt h h2, evP_lt h (Pol.lt_add h1 h2), ← sumR_add]
 refine sumR_congr fun i _ => ?_
 rw [Pol.c_add, h.add]
 exact ring_of [f (a.c i), f (b.c i), pw z i] rfl
theorem evP_C (h : Hom f) (k : K) : evP f z (Pol.C k) = f k := by
 rw [evP_lt h (n := 1) fun i hi => by rw [Pol.c_C, if_neg (by omega)]]
 show 0 + f ((Pol.C k).c 0) * pw z 0 = f k
 rw [Pol.c_C, if_pos rfl, Gq.zero_add]
 exact Gq.mul_one _
theorem evP_smul (h : Hom f) (k : K) (a : Pol K) : evP f z (Pol.C k * a) = f k * evP f z a := by
 rw [evP_lt h a.lt_len, evP_lt h (n := a.len) fun i hi => by rw [Pol.c_Cmul, a.lt_len i hi, Gq.mul_zero], ← sumR_mul]
 refine sumR_congr fun i _ => ?_
 rw [Pol.c_Cmul, h.mul, Gq.mul_assoc]
theorem evP_X (h : Hom f) (a : Pol K) : evP f z (Pol.X * a) = z * evP f z a := by
 rw [evP_lt h a.lt_len, evP_lt h (n := a.len + 1) (fun i hi => by rw [Pol.c_Xmul, if_neg (by omega)]; exact a.lt_len _ (by omega)), sumR_shift, Pol.c_Xmul, if_pos rfl, h.zero, Gq.zero_mul, Gq.zero_add, ← sumR_mul]
 refine sumR_congr fun i _ => ?_
 rw [Pol.c_Xmul, if_neg (by omega), show i + 1 - 1 = i from rfl, pw]
 exact ring_of [f (a.c i), pw z i, z] rfl
theorem evP_mul (h : Hom f) (a b : Pol K) : evP f z (a * b) = evP f z a * evP f z b := by
 refine pol_indK (P := fun a => evP f z (a * b) = evP f z a * evP f z b) ?_ (fun c a ih => ?_) _ a a.lt_len
 ·have h0 : evP f z (0 : Pol K) = 0 := by rw [evP_lt h (n := 0) fun i _ => rfl]; rfl
  rw [Gq.zero_mul, h0, Gq.zero_mul]
 ·have e : (Pol.C c + Pol.X * a) * b = Pol.C c * b + Pol.X * (a * b) := ring_of [Pol.C c, Pol.X, a, b] rfl
  rw [e, evP_add h, evP_smul h, evP_X h, ih, evP_add h, evP_C h, evP_X h]
  exact ring_of [f c, evP f z b, z, evP f z a] rfl
theorem evP_hom (h : Hom f) (z : S) : Hom (evP f z) := ⟨evP_add h, evP_mul h, by
 have := evP_C (z := z) h 1
 rw [Pol.C_one, h.one] at this
 exact this⟩
theorem Hom.pw {g : K → S} (h : Hom g) (a : K) : ∀ n, g (Gq.pw a n) = Gq.pw (g a) n
 | 0 => h.one
 | n + 1 => by rw [Gq.pw, Gq.pw, h.mul, Hom.pw h a n]
end
end Pe

namespace Pe
open Go Gq
section
variable {S : Type} [CR S]
theorem frobR {p : Int} (hp : p = 2 ∨ p = 3 ∨ p = 5 ∨ p = 7) (h : (ic p : S) = 0) (x y : S) : pw (x + y) p.toNat = pw x p.toNat + pw y p.toNat := by
 rcases hp with rfl | rfl | rfl | rfl
 ·have e : pw (x + y) 2 = pw x 2 + pw y 2 + ic 2 * (x * y) := by
   show (x + y) ^ 2 = x ^ 2 + y ^ 2 + ic 2 * (x * y)
   exact ring_of [x, y] rfl
  rw [h, Gq.zero_mul, Gq.add_zero] at e
  exact e
 ·have e : pw (x + y) 3 = pw x 3 + pw y 3 + ic 3 * (x * x * y + x * y * y) := by
   show (x + y) ^ 3 = x ^ 3 + y ^ 3 + ic 3 * (x * x * y + x * y * y)
   exact ring_of [x, y] rfl
  rw [h, Gq.zero_mul, Gq.add_zero] at e
  exact e
 ·have e : pw (x + y) 5 = pw x 5 + pw y 5 + ic 5 * (x ^ 4 * y + ic 2 * x ^ 3 * y ^ 2 + ic 2 * x ^ 2 * y ^ 3 + x * y ^ 4) := by
   show (x + y) ^ 5 = x ^ 5 + y ^ 5 + ic 5 * (x ^ 4 * y + ic 2 * x ^ 3 * y ^ 2 + ic 2 * x ^ 2 * y ^ 3 + x * y ^ 4)
   exact ring_of [x, y] rfl
  rw [h, Gq.zero_mul, Gq.add_zero] at e
  exact e
 ·have e : pw (x + y) 7 = pw x 7 + pw y 7 + ic 7 * (x ^ 6 * y + ic 3 * x ^ 5 * y ^ 2 + ic 5 * x ^ 4 * y ^ 3 + ic 5 * x ^ 3 * y ^ 4 + ic 3 * x ^ 2 * y ^ 5 + x * y ^ 6) := by
   show (x + y) ^ 7 = x ^ 7 + y ^ 7 + ic 7 * (x ^ 6 * y + ic 3 * x ^ 5 * y ^ 2 + ic 5 * x ^ 4 * y ^ 3 + ic 5 * x ^ 3 * y ^ 4 + ic 3 * x ^ 2 * y ^ 5 + x * y ^ 6)
   exact ring_of [x, y] rfl
  rw [h, Gq.zero_mul, Gq.add_zero] at e
  exact e
def prR (f : Nat → S) : Nat → S
 | 0 => 1
 | n + 1 => prR f n * f n
theorem prR_congr {f g : Nat → S} : ∀ {n : Nat}, (∀ i, i < n → f i = g i) → prR f n = prR g n
 | 0, _ => rfl
 | n + 1, h => by rw [prR, prR, prR_congr fun i hi => h i (by omega), h n (by omega)]
theorem prR_mul (f g : Nat → S) : ∀ n, prR (fun i => f i * g i) n = prR f n * prR g n
 | 0 => (Gq.mul_one _).symm
 | n + 1 => by
  rw [prR, prR, prR, prR_mul f g n]
  exact ring_of [prR f n, prR g n, f n, g n] rfl
theorem prR_one : ∀ n, prR (fun _ => (1 : S)) n = 1
 | 0 => rfl
 | n + 1 => by rw [prR, prR_one n]; exact Gq.mul_one _
theorem prR_swap (f : Nat → Nat → S) (m : Nat) : ∀ n, prR (fun i => prR (f i) m) n = prR (fun j => prR (fun i => f i j) n) m
 | 0 => (prR_one m).symm
 | n + 1 => by
  rw [prR, prR_swap f m n, ← prR_mul]
  rfl
theorem Hom.pr {K : Type} [CR K] {g : K → S} (h : Hom g) (f : Nat → K) : ∀ n, g (prR f n) = prR (fun i => g (f i)) n
 | 0 => h.one
 | n + 1 => by rw [prR, prR, h.mul, Hom.pr h f n]
end
section
variable {p : Int} [IsP p]
theorem geoE_succ (d : Nat) : geoE p (d + 1) = geoE p d + p.toNat ^ d := by
 have h1 := geoE_eq (p := p) d
 have h2 := geoE_eq (p := p) (d + 1)
 have hp := IsP.ge (p := p)
 have hpos := p_pow_pos (p := p) d
 have hpos2 := p_pow_pos (p := p) (d + 1)
 have e : p.toNat ^ (d + 1) = p.toNat ^ d * p.toNat := by rw [Nat.pow_succ]
 obtain ⟨k, hk⟩ : ∃ k, p.toNat = k + 2 := ⟨p.toNat - 2, by omega⟩
 rw [hk] at h1 h2 e hpos hpos2 ⊢
 rw [e] at h2 hpos2
 generalize (k + 2) ^ d = P at *
 generalize geoE p d = E at *
 generalize geoE p (d + 1) = E' at *
 have h3 : E' * (k + 1) = (E + P) * (k + 1) := by
  have a1 : E * (k + 2) = E * k + 2 * E := by rw [Nat.mul_add, Nat.mul_comm E 2]
  have a2 : E' * (k + 2) = E' * k + 2 * E' := by rw [Nat.mul_add, Nat.mul_comm E' 2]
  have a3 : P * (k + 2) = P * k + 2 * P := by rw [Nat.mul_add, Nat.mul_comm P 2]
  have a4 : E' * (k + 1) = E' * k + E' := Nat.mul_succ _ _
  have a5 : (E + P) * (k + 1) = E * k + P * k + (E + P) := by rw [Nat.mul_succ, Nat.add_mul]
  rw [a4, a5]
  rw [a1] at h1
  rw [a2, a3] at h2
  rw [a3] at hpos2
  omega
 exact Nat.eq_of_mul_eq_mul_right (Nat.succ_pos k) h3
theorem pw_geo {S : Type} [CR S] (x : S) : ∀ d, pw x (geoE p d) = prR (fun i => pw x (p.toNat ^ i)) d
 | 0 => by
  have : geoE p 0 = 0 := by
   unfold geoE
   rw [Int.pow_zero, Int.sub_self, Int.zero_ediv]; rfl
  rw [this]; rfl
 | d + 1 => by rw [geoE_succ, pw_add, pw_geo x d, prR]
end
end Pe

namespace Pe
open Go Gq
section
variable {K L S : Type} [CR K] [CR L] [CR S]
theorem Hom.comp {f : K → L} {g : L → S} (hf : Hom f) (hg : Hom g) : Hom fun x => g (f x) :=
 ⟨fun x y => by rw [hf.add, hg.add], fun x y => by rw [hf.mul, hg.mul], by rw [hf.one, hg.one]⟩
theorem C_hom : Hom (Pol.C : K → Pol K) := ⟨Pol.C_add, Pol.C_mul, Pol.C_one⟩
noncomputable def mapP (f : K → L) : Pol K → Pol L := evP (fun x => Pol.C (f x)) Pol.X
theorem mapP_hom {f : K → L} (h : Hom f) : Hom (mapP f) := evP_hom (h.comp C_hom) _
theorem mapP_C {f : K → L} (h : Hom f) (k : K) : mapP f (Pol.C k) = Pol.C (f k) := evP_C (h.comp C_hom) k
theorem mapP_c {f : K → L} (h : Hom f) (a : Pol K) : ∀ i, (mapP f a).c i = f (a.c i) := by
 refine pol_indK (P := fun a => ∀ i, (mapP f a).c i = f (a.c i)) (fun i => ?_) (fun c a ih i => ?_) _ a a.lt_len
 ·rw [(mapP_hom h).zero]
  exact h.zero.symm
 ·rw [(mapP_hom h).add, mapP_C h, show mapP f (Pol.X * a) = Pol.X * mapP f a from evP_X (h.comp C_hom) a, Pol.c_add, Pol.c_add, h.add, Pol.c_C, Pol.c_C, Pol.c_Xmul, Pol.c_Xmul, ih]
  by_cases h0 : i = 0
  ·rw [if_pos h0, if_pos h0, if_pos h0, if_pos h0, h.zero]
  ·rw [if_neg h0, if_neg h0, if_neg h0, if_neg h0, h.zero]
end
section
variable {p : Int} [IsP p] {q : Fp p}
theorem frob_hom : Hom fun x : Quo q => pw x p.toNat := ⟨frob_add, fun x y => pw_mul x y _, pw_one _⟩
noncomputable def cjP (q : Fp p) (d : Nat) : Pol (Quo q) := prR (fun i => Pol.X - Pol.C (pw (Quo.mk q Pol.X) (p.toNat ^ i))) d
theorem Hom.sub {K S : Type} [CR K] [CR S] {f : K → S} (h : Hom f) (x y : K) : f (x - y) = f x - f y := by
 have e : f (x - y) + f y = f x := by rw [← h.add]; congr 1; exact ring_of [x, y] rfl
 rw [← e]
 exact ring_of [f (x - y), f y] rfl
theorem prR_shift {S : Type} [CR S] (f : Nat → S) : ∀ n, prR f (n + 1) = f 0 * prR (fun i => f (i + 1)) n
 | 0 => by show 1 * f 0 = f 0 * 1; exact Gq.mul_comm _ _
 | n + 1 => by
  rw [prR, prR_shift f n, prR]
  exact Gq.mul_assoc _ _ _
theorem mapP_X {K L : Type} [CR K] [CR L] {f : K → L} (h : Hom f) : mapP f Pol.X = Pol.X := by
 have e := evP_X (z := (Pol.X : Pol L)) (h.comp C_hom) (1 : Pol K)
 rw [Gq.mul_one, (evP_hom (h.comp C_hom) _).one, Gq.mul_one] at e
 exact e
theorem cj_fix {d : Nat} (h : pw (Quo.mk q Pol.X) (p.toNat ^ d) = Quo.mk q Pol.X) : mapP (fun x : Quo q => pw x p.toNat) (cjP q d) = cjP q d := by
 have e1 : mapP (fun x : Quo q => pw x p.toNat) (cjP q d) = prR (fun i => Pol.X - Pol.C (pw (Quo.mk q Pol.X) (p.toNat ^ (i + 1)))) d := by
  unfold cjP
  rw [Hom.pr (mapP_hom frob_hom)]
  refine prR_congr fun i _ => ?_
  rw [Hom.sub (mapP_hom frob_hom), mapP_X frob_hom, mapP_C frob_hom, pw_pw, Nat.pow_succ]
 have e2 : cjP q d * (Pol.X - Pol.C (Quo.mk q Pol.X)) = (Pol.X - Pol.C (Quo.mk q Pol.X)) * prR (fun i => Pol.X - Pol.C (pw (Quo.mk q Pol.X) (p.toNat ^ (i + 1)))) d := by
  have e3 := prR_shift (fun i => Pol.X - Pol.C (pw (Quo.mk q Pol.X) (p.toNat ^ i))) d
  rw [prR] at e3
  simp only [h, Nat.pow_zero, pw_1] at e3
  exact e3
 rw [e1]
 have e4 : (Pol.X - Pol.C (Quo.mk q Pol.X)) * (prR (fun i => Pol.X - Pol.C (pw (Quo.mk q Pol.X) (p.toNat ^ (i + 1)))) d - cjP q d) = 0 := by
  have e5 : ∀ a b c : Pol (Quo q), a * (b - c) = a * b - c * a := fun a b c => ring_of [a, b, c] rfl
  rw [e5, e2, Gq.sub_self]
 exact eq_of_sub (lin_cancel e4)
theorem fixed_const (hi : Irr q) (x : Quo q) (h : pw x p.toNat = x) : ∃ c : Zp p, x = Quo.mk q (Pol.C c) := by
 obtain ⟨a, rfl⟩ := Quo.ex x
 have e : Quo.mk q (a % q) = Quo.mk q a := Pol.mk_mod _ _
 have hl := fix_irr (a := a % q) hi.len hi (Pol.len_mod _ hi.ne) (by rw [e]; exact h)
 exact ⟨(a % q).c 0, by rw [← len_one_C hl, e]⟩
noncomputable def kC (q : Fp p) (c : Zp p) : Quo q := Quo.mk q (Pol.C c)
end
section
variable {p : Int} {q : Fp p}
theorem kC_hom : Hom (kC q) := ⟨fun x y => by unfold kC; rw [Pol.C_add, Quo.mk_add], fun x y => by unfold kC; rw [Pol.C_mul, Quo.mk_mul], by unfold kC; rw [Pol.C_one, Quo.mk_one]⟩
end
section
variable {p : Int} [IsP p] {q : Fp p}
theorem cj_from (hi : Irr q) (h13 : q.len ≤ 13) : ∃ a : Fp p, mapP (kC q) a = cjP q (q.len - 1) := by
 have h2 := hi.len
 have hf := cj_fix (q := q) (d := q.len - 1) (fermat_all hi (by omega) (pow_small (by omega)) _)
 have hc : ∀ i, ∃ c : Zp p, (cjP q (q.len - 1)).c i = kC q c := fun i => fixed_const hi _ (by
  have := mapP_c (frob_hom (q := q)) (cjP q (q.len - 1)) i
  rw [hf] at this
  exact this.symm)
 obtain ⟨n, hn⟩ := (cjP q (q.len - 1)).fin
 refine ⟨⟨fun i => (hc i).choose, n, fun i hin => ?_⟩, Pol.ext fun i => ?_⟩
 ·refine C_inj (q := q) hi.len ?_
  rw [Pol.C_zero, Quo.mk_zero]
  exact (hc i).choose_spec.symm.trans (hn i hin)
 ·rw [mapP_c kC_hom]
  exact (hc i).choose_spec.symm
end
end Pe

namespace Pe
open Go Gq
section
variable {p : Int} {q : Fp p}
theorem cj_lead : ∀ d, (cjP q d).lt (d + 1) ∧ (cjP q d).c d = 1
 | 0 => ⟨fun i hi => by show (1 : Pol (Quo q)).c i = 0; rw [← Pol.C_one, Pol.c_C, if_neg (by omega)], by show (1 : Pol (Quo q)).c 0 = 1; rw [← Pol.C_one, Pol.c_C, if_pos rfl]⟩
 | d + 1 => by
  obtain ⟨h1, h2⟩ := cj_lead d
  have e : cjP q (d + 1) = (Pol.X - Pol.C (pw (Quo.mk q Pol.X) (p.toNat ^ d))) * cjP q d := Gq.mul_comm _ _
  rw [e]
  refine ⟨fun i hi => ?_, ?_⟩
  ·rw [c_lin, if_neg (by omega), h1 _ (by omega), h1 _ (by omega), Gq.mul_zero, Gq.sub_self]
  ·rw [c_lin, if_neg (by omega), show d + 1 - 1 = d from rfl, h2, h1 _ (by omega), Gq.mul_zero]
   exact ring_of [] rfl
theorem id_hom {K : Type} [CR K] : Hom fun x : K => x := ⟨fun _ _ => rfl, fun _ _ => rfl, rfl⟩
theorem cj_root {d : Nat} (hd : 1 ≤ d) : evP (fun x : Quo q => x) (Quo.mk q Pol.X) (cjP q d) = 0 := by
 obtain ⟨n, rfl⟩ : ∃ n, d = n + 1 := ⟨d - 1, by omega⟩
 unfold cjP
 rw [Hom.pr (evP_hom id_hom _), prR_shift, Hom.sub (evP_hom id_hom _), evP_C id_hom, Nat.pow_zero, pw_1]
 have e := evP_X (z := Quo.mk q Pol.X) (id_hom (K := Quo q)) 1
 rw [Gq.mul_one, (evP_hom id_hom _).one, Gq.mul_one] at e
 rw [e, Gq.sub_self, Gq.zero_mul]
end
section
variable {p : Int} [IsP p] {q : Fp p}
end
section
variable {p : Int} {q : Fp p}
theorem ev_mk (a : Fp p) : evP (kC q) (Quo.mk q Pol.X) a = Quo.mk q a := by
 refine pol_ind (P := fun a => evP (kC q) (Quo.mk q Pol.X) a = Quo.mk q a) ?_ (fun c a ih => ?_) _ a a.lt_len
 ·rw [(evP_hom kC_hom _).zero, Quo.mk_zero]
 ·rw [evP_add kC_hom, evP_C kC_hom, evP_X kC_hom, ih, Quo.mk_add, Quo.mk_mul]
  rfl
end
section
variable {p : Int} [IsP p] {q : Fp p}
end
section
variable {p : Int} {q : Fp p}
theorem ev_map (z : Quo q) (a : Fp p) : evP (fun x : Quo q => x) z (mapP (kC q) a) = evP (kC q) z a := by
 refine pol_ind (P := fun a => evP (fun x : Quo q => x) z (mapP (kC q) a) = evP (kC q) z a) ?_ (fun c a ih => ?_) _ a a.lt_len
 ·rw [(mapP_hom kC_hom).zero, (evP_hom id_hom _).zero, (evP_hom kC_hom _).zero]
 ·rw [(mapP_hom kC_hom).add, mapP_C kC_hom, show mapP (kC q) (Pol.X * a) = Pol.X * mapP (kC q) a from evP_X (kC_hom.comp C_hom) a, evP_add id_hom, evP_C id_hom, evP_X id_hom, ih, evP_add kC_hom, evP_C kC_hom, evP_X kC_hom]
end
section
variable {p : Int} [IsP p] {q : Fp p}
theorem cj_eq (hi : Irr q) (h13 : q.len ≤ 13) (mq : Monic q) : mapP (kC q) q = cjP q (q.len - 1) := by
 have h2 := hi.len
 obtain ⟨a, ha⟩ := cj_from hi h13
 obtain ⟨g1, g2⟩ := cj_lead (q := q) (q.len - 1)
 have hk : ∀ {c d : Zp p}, kC q c = kC q d → c = d := fun h => C_inj (q := q) h2 h
 have c1 : a.c (q.len - 1) = 1 := hk (by rw [← mapP_c kC_hom, ha, g2, kC_hom.one])
 have c2 : a.lt (q.len - 1 + 1) := fun i hin => hk (by rw [← mapP_c kC_hom, ha, g1 i hin, kC_hom.zero])
 have hl : a.len = q.len - 1 + 1 := Pol.len_eq c2 (by rw [c1]; exact Fd.one_ne)
 have h0 : a ≠ 0 := fun h => by rw [h, Pol.len_zero] at hl; omega
 have hd : Dv q a := dv_iff_mk.2 (by rw [← ev_mk, ← ev_map, ha]; exact cj_root (by omega))
 obtain ⟨r, hr⟩ := hd
 have hr0 : r ≠ 0 := fun h => h0 (by rw [hr, h, Gq.mul_zero])
 have hlm := Pol.len_mul mq.2 hr0
 rw [← hr] at hlm
 have hrl : r.len = 1 := by omega
 have hld := Pol.ld_mul mq.2 hr0
 rw [← hr, mq.1, Gq.one_mul] at hld
 have e1 : a.ld = 1 := by unfold Pol.ld; rw [hl]; exact c1
 have e2 : r.ld = r.c 0 := by unfold Pol.ld; rw [hrl]
 have e3 := len_one_C (r := r) (by omega)
 rw [← e2, ← hld, e1, Pol.C_one] at e3
 rw [e3, Gq.mul_one] at hr
 rw [← ha, hr]
end
end Pe

namespace Pe
open Go Gq
section
variable {K L S : Type} [CR K] [CR L] [CR S]
theorem Hom.nc {f : K → S} (h : Hom f) : ∀ n : Nat, f (Gq.nc n) = Gq.nc n
 | 0 => h.zero
 | n + 1 => by rw [Gq.nc, Gq.nc, h.add, Hom.nc h n, h.one]
theorem Hom.ic {f : K → S} (h : Hom f) (n : Int) (hn : 0 ≤ n) : f (Gq.ic n) = Gq.ic n := by
 obtain ⟨k, rfl⟩ : ∃ k : Nat, n = Int.ofNat k := ⟨n.toNat, by show n = (n.toNat : Int); omega⟩
 exact h.nc k
theorem ev_ev {f : K → L} {g : L → S} (hf : Hom f) (hg : Hom g) (z : L) (a : Pol K) : g (evP f z a) = evP (fun x => g (f x)) (g z) a := by
 refine pol_indK (P := fun a => g (evP f z a) = evP (fun x => g (f x)) (g z) a) ?_ (fun c a ih => ?_) _ a a.lt_len
 ·rw [(evP_hom hf _).zero, (evP_hom (hf.comp hg) _).zero, hg.zero]
 ·rw [evP_add hf, evP_C hf, evP_X hf, hg.add, hg.mul, ih, evP_add (hf.comp hg), evP_C (hf.comp hg), evP_X (hf.comp hg)]
theorem ev_mapP {f : K → L} {g : L → S} (hf : Hom f) (hg : Hom g) (z : S) (a : Pol K) : evP g z (mapP f a) = evP (fun x => g (f x)) z a := by
 refine pol_indK (P := fun a => evP g z (mapP f a) = evP (fun x => g (f x)) z a) ?_ (fun c a ih => ?_) _ a a.lt_len
 ·rw [(mapP_hom hf).zero, (evP_hom hg _).zero, (evP_hom (hf.comp hg) _).zero]
 ·rw [(mapP_hom hf).add, mapP_C hf, show mapP f (Pol.X * a) = Pol.X * mapP f a from evP_X (hf.comp C_hom) a, evP_add hg, evP_C hg, evP_X hg, ih, evP_add (hf.comp hg), evP_C (hf.comp hg), evP_X (hf.comp hg)]
theorem ev_X1 {g : L → S} (hg : Hom g) (z : S) : evP g z Pol.X = z := by
 have e := evP_X (z := z) hg (1 : Pol L)
 rw [Gq.mul_one, (evP_hom hg _).one, Gq.mul_one] at e
 exact e
theorem mk_hom {R : Type} [CR R] {m : R} : Hom (Quo.mk m) := ⟨Quo.mk_add, Quo.mk_mul, Quo.mk_one⟩
theorem prR_const (x : S) : ∀ n, prR (fun _ => x) n = pw x n
 | 0 => rfl
 | n + 1 => by rw [prR, prR_const x n, pw]
end
section
variable {K : Type} [Fd K] {q : Pol K}
theorem C_injK (h2 : 2 ≤ q.len) {c d : K} (h : Quo.mk q (Pol.C c) = Quo.mk q (Pol.C d)) : c = d := by
 have h1 : Dv q (Pol.C c - Pol.C d) := dv_iff_mk.2 (by rw [Quo.mk_sub, h, Gq.sub_self])
 have hl : (Pol.C c - Pol.C d).len ≤ 1 := Pol.len_sub_le (Pol.len_le fun i hi => by rw [Pol.c_C, if_neg (by omega)]) (Pol.len_le fun i hi => by rw [Pol.c_C, if_neg (by omega)])
 have hz : Pol.C c - Pol.C d = 0 := Classical.byContradiction fun h0 => by
  have := h1.len h0
  omega
 have h3 : (Pol.C c).c 0 = (Pol.C d).c 0 := by rw [eq_of_sub hz]
 rwa [Pol.c_C, Pol.c_C, if_pos rfl, if_pos rfl] at h3
end
section
variable {p : Int} [ip : IsP p] {S : Type} [CR S]
theorem frobS {q : Fp p} {g : Quo q → S} (hg : Hom g) : Hom fun x : S => pw x p.toNat := by
 have h0 : (ic p : S) = 0 := by
  have hp := IsP.pos (p := p)
  rw [← hg.ic p (by omega), ic_p, hg.zero]
 exact ⟨frobR ip.h h0, fun x y => pw_mul x y _, pw_one _⟩
theorem ev_frob {k : Zp p → S} (hk : Hom k) (hF : Hom fun x : S => pw x p.toNat) (a : Fp p) : ∀ (j : Nat) (z : S), pw (evP k z a) (p.toNat ^ j) = evP k (pw z (p.toNat ^ j)) a
 | 0, z => by rw [Nat.pow_zero, pw_1, pw_1]
 | j + 1, z => by
  have e : pw (evP k z a) p.toNat = evP k (pw z p.toNat) a := by
   have := ev_ev hk hF z a
   rw [show (fun x => pw (k x) p.toNat) = k from funext fun c => by rw [← hk.pw, frob_const]] at this
   exact this
  rw [Nat.pow_succ', ← pw_pw, e, ev_frob hk hF a j, pw_pw]
theorem ev_conj {q : Fp p} (hi : Irr q) (h13 : q.len ≤ 13) (mq : Monic q) {g : Quo q → S} (hg : Hom g) (z : S) :
 evP (fun c => g (kC q c)) z q = prR (fun i => z - pw (g (Quo.mk q Pol.X)) (p.toNat ^ i)) (q.len - 1) := by
 rw [← ev_mapP kC_hom hg, cj_eq hi h13 mq]
 unfold cjP
 rw [Hom.pr (evP_hom hg z)]
 refine prR_congr fun i _ => ?_
 rw [Hom.sub (evP_hom hg z), evP_C hg, hg.pw, ev_X1 hg]
end
section
variable {p : Int} {S : Type} [CR S]
theorem hom_ev {q : Fp p} {g : Quo q → S} (hg : Hom g) (a : Fp p) : g (Quo.mk q a) = evP (fun c => g (kC q c)) (g (Quo.mk q Pol.X)) a := by
 rw [← ev_mk, ev_ev kC_hom hg]
end
section
variable {p : Int} [ip : IsP p] {S : Type} [CR S]
theorem own_prod {q b : Fp p} (hq : Irr q) (q13 : q.len ≤ 13) (hb : Irr b) (b13 : b.len ≤ 13) (mb : Monic b) {g : Quo q → S} (hg : Hom g) {h : Quo b → S} (hh : Hom h) (hk : ∀ c, h (kC b c) = g (kC q c)) :
 g (kC q (zp p (ownS p b q))) = prR (fun i => prR (fun j => pw (g (Quo.mk q Pol.X)) (p.toNat ^ i) - pw (h (Quo.mk b Pol.X)) (p.toNat ^ j)) (b.len - 1)) (q.len - 1) := by
 show g (Quo.mk q (Pol.C _)) = _
 rw [← own_mk hq q13, hg.pw, pw_geo]
 refine prR_congr fun i _ => ?_
 rw [hom_ev hg b, ev_frob (kC_hom.comp hg) (frobS hg), show (fun c => g (kC q c)) = fun c => h (kC b c) from funext fun c => (hk c).symm, ev_conj hb b13 mb hh]
theorem neg_prod (f : Nat → Nat → S) (m n : Nat) : prR (fun i => prR (fun j => -f i j) m) n = pw (-1) (n * m) * prR (fun i => prR (fun j => f i j) m) n := by
 have e : (fun i => prR (fun j => -f i j) m) = fun i => pw (-1) m * prR (fun j => f i j) m := funext fun i => by
  rw [← prR_const, ← prR_mul]
  refine prR_congr fun j _ => ?_
  exact ring_of [f i j] rfl
 rw [e, prR_mul, prR_const, pw_pw, Nat.mul_comm m n]
end
section
variable {p : Int} [ip : IsP p]
theorem recip_irr {q b : Fp p} (hq : Irr q) (q13 : q.len ≤ 13) (mq : Monic q) (hb : Irr b) (b13 : b.len ≤ 13) (mb : Monic b) :
 zp p (ownS p q b) = pw (-1) ((q.len - 1) * (b.len - 1)) * zp p (ownS p b q) := by
 letI := fdQuo hq
 let q2 : Pol (Quo q) := mapP (kC q) b
 have hb2 := hb.len
 have hl2 : 2 ≤ q2.len := by
  have e : q2.c (b.len - 1) = 1 := by
   show (mapP (kC q) b).c _ = 1
   rw [mapP_c kC_hom, show b.c (b.len - 1) = 1 from mb.1, kC_hom.one]
  rcases Nat.lt_or_ge (b.len - 1) q2.len with h | h
  ·omega
  ·rw [Pol.lt_len q2 _ h] at e
   exact absurd e.symm (fdQuo hq).one_ne
 let g : Quo q → Quo q2 := fun x => Quo.mk q2 (Pol.C x)
 have hg : Hom g := C_hom.comp mk_hom
 let h : Quo b → Quo q2 := fun x => Quo.mk q2 (mapP (kC q) (Classical.choose (Quo.ex x)))
 have hmk : ∀ a, h (Quo.mk b a) = Quo.mk q2 (mapP (kC q) a) := fun a => by
  have e := Classical.choose_spec (Quo.ex (Quo.mk b a))
  obtain ⟨c, hc⟩ := Quo.eq.1 e
  refine Quo.eq.2 ⟨-mapP (kC q) c, ?_⟩
  have e2 := congrArg (mapP (kC q)) hc
  rw [(mapP_hom kC_hom).add, (mapP_hom kC_hom).mul] at e2
  rw [e2]
  exact ring_of [mapP (kC q) (Classical.choose (Quo.ex (Quo.mk b a))), mapP (kC q) b, mapP (kC q) c] rfl
 have hh : Hom h := ⟨fun x y => by
  obtain ⟨a, rfl⟩ := Quo.ex x
  obtain ⟨c, rfl⟩ := Quo.ex y
  rw [← Quo.mk_add, hmk, hmk, hmk, (mapP_hom kC_hom).add, Quo.mk_add],
  fun x y => by
   obtain ⟨a, rfl⟩ := Quo.ex x
   obtain ⟨c, rfl⟩ := Quo.ex y
   rw [← Quo.mk_mul, hmk, hmk, hmk, (mapP_hom kC_hom).mul, Quo.mk_mul],
  by rw [← Quo.mk_one, hmk, (mapP_hom kC_hom).one, Quo.mk_one]⟩
 have hk : ∀ c, h (kC b c) = g (kC q c) := fun c => by
  show h (Quo.mk b (Pol.C c)) = _
  rw [hmk, mapP_C kC_hom]
 have e1 := own_prod hq q13 hb b13 mb hg hh hk
 have e2 := own_prod hb b13 hq q13 mq hh hg fun c => (hk c).symm
 rw [hk, prR_swap, show (fun i => prR (fun j => pw (h (Quo.mk b Pol.X)) (p.toNat ^ j) - pw (g (Quo.mk q Pol.X)) (p.toNat ^ i)) (b.len - 1)) = fun i => prR (fun j => -(pw (g (Quo.mk q Pol.X)) (p.toNat ^ i) - pw (h (Quo.mk b Pol.X)) (p.toNat ^ j))) (b.len - 1) from funext fun i => prR_congr fun j _ => ring_of [pw (g (Quo.mk q Pol.X)) (p.toNat ^ i), pw (h (Quo.mk b Pol.X)) (p.toNat ^ j)] rfl, neg_prod, ← e1] at e2
 have hkh : Hom fun c => g (kC q c) := kC_hom.comp hg
 have e3 : (pw (-1) ((q.len - 1) * (b.len - 1)) : Quo q2) = g (kC q (pw (-1) ((q.len - 1) * (b.len - 1)))) := by
  rw [hkh.pw]
  congr 1
  have e := hkh.add 1 (-1)
  have e4 : (1 : Zp p) + -1 = 0 := ring_of [] rfl
  rw [e4, hkh.zero, hkh.one] at e
  have e5 : (1 + g (kC q (-1))) - 1 = g (kC q (-1)) := ring_of [g (kC q (-1))] rfl
  rw [← e5, ← e]
  exact ring_of [] rfl
 rw [e3, ← hkh.mul] at e2
 exact C_inj (q := q) hq.len (C_injK hl2 e2)
end
end Pe

namespace Pe
open Go Gq
section
variable {p : Int} [ip : IsP p]
theorem own_one {q : Fp p} (hi : Irr q) (h13 : q.len ≤ 13) : zp p (ownS p 1 q) = 1 := by
 refine C_inj hi.len ?_
 rw [← own_mk hi h13, Quo.mk_one, pw_one, Pol.C_one, Quo.mk_one]
theorem own_pow {q : Fp p} (hi : Irr q) (h13 : q.len ≤ 13) (a : Fp p) : ∀ n, zp p (ownS p (pw a n) q) = pw (zp p (ownS p a q)) n
 | 0 => own_one hi h13
 | n + 1 => by rw [pw, own_mul hi h13, own_pow hi h13 a n, pw]
def Good13 (L : Facs p) : Prop := ∀ x ∈ L, Irr x.1 ∧ Monic x.1 ∧ x.1.len ≤ 13
theorem own_prodF {q : Fp p} (hi : Irr q) (mq : Monic q) (h13 : q.len ≤ 13) : ∀ {L : Facs p}, Good13 L → zp p (ownS p (prodF L) q) = pw (-1) ((q.len - 1) * dgF L) * ownL q L
 | [], _ => by
  show zp p (ownS p 1 q) = _
  rw [own_one hi h13]
  show (1 : Zp p) = 1 * 1
  exact ring_of [] rfl
 | x :: L, h => by
  obtain ⟨h1, h2, h3⟩ := h x (by simp)
  rw [prodF_cons, own_mul hi h13, own_pow hi h13, recip_irr h1 h3 h2 hi h13 mq, own_prodF hi mq h13 (fun y hy => h y (by simp [hy])), ownL, dgF, pw_mul, pw_pw, Nat.mul_add, pw_add,
   show (x.1.len - 1) * (q.len - 1) * x.2 = (q.len - 1) * (x.2 * (x.1.len - 1)) by rw [Nat.mul_comm (x.1.len - 1), Nat.mul_assoc, Nat.mul_comm x.2]]
  exact ring_of [pw (-1 : Zp p) ((q.len - 1) * (x.2 * (x.1.len - 1))), pw (-1 : Zp p) ((q.len - 1) * dgF L), pw (zp p (ownS p q x.1)) x.2, ownL q L] rfl
theorem ownL_one {L : Facs p} : (∀ x ∈ L, Irr x.1 ∧ x.1.len ≤ 13) → ownL (1 : Fp p) L = 1 := by
 induction L with
 | nil => intro _; rfl
 | cons x L ih =>
  intro h
  obtain ⟨h1, h2⟩ := h x (by simp)
  rw [ownL, own_one h1 h2, pw_one, ih fun y hy => h y (by simp [hy])]
  exact ring_of [] rfl
theorem ownL_pow {L : Facs p} (h : ∀ x ∈ L, Irr x.1 ∧ x.1.len ≤ 13) (a : Fp p) : ∀ n, ownL (pw a n) L = pw (ownL a L) n
 | 0 => ownL_one h
 | n + 1 => by rw [pw, ownL_mul _ _ h, ownL_pow h a n, pw]
theorem recip_L {F : Facs p} (hF : Good13 F) : ∀ {M : Facs p}, Good13 M → ownL (prodF F) M = pw (-1) (dgF F * dgF M) * ownL (prodF M) F
 | [], _ => by
  show (1 : Zp p) = 1 * ownL 1 F
  rw [ownL_one fun x hx => ⟨(hF x hx).1, (hF x hx).2.2⟩]
  exact ring_of [] rfl
 | x :: M, h => by
  obtain ⟨h1, h2, h3⟩ := h x (by simp)
  have hF' : ∀ y ∈ F, Irr y.1 ∧ y.1.len ≤ 13 := fun y hy => ⟨(hF y hy).1, (hF y hy).2.2⟩
  rw [ownL, recip_L hF (fun y hy => h y (by simp [hy])), own_prodF h1 h2 h3 hF, prodF_cons, ownL_mul _ _ hF', ownL_pow hF', dgF, pw_mul, pw_pw, Nat.mul_add, pw_add,
   show (x.1.len - 1) * dgF F * x.2 = dgF F * (x.2 * (x.1.len - 1)) by rw [Nat.mul_comm (x.1.len - 1), Nat.mul_assoc, Nat.mul_comm x.2]]
  exact ring_of [pw (-1 : Zp p) (dgF F * (x.2 * (x.1.len - 1))), pw (-1 : Zp p) (dgF F * dgF M), pw (ownL x.1 F) x.2, ownL (prodF M) F] rfl
theorem symb_recip {y m : Fp p} (hy : Monic y) (hm : Monic m) (y13 : y.len ≤ 13) (m13 : m.len ≤ 13) (hfy : IsFac y (fac y)) (hfm : IsFac m (fac m)) : zp p (symb p y m) = pw (-1) ((y.len - 1) * (m.len - 1)) * zp p (symb p m y) := by
 obtain ⟨s1, s2⟩ := hfy.small hy.2 y13
 obtain ⟨t1, t2⟩ := hfm.small hm.2 m13
 have gy : Good13 (fac y) := fun x hx => ⟨(hfy.ok.irr x hx).1, (hfy.ok.irr x hx).2.1, (s1 x hx).2.1⟩
 have gm : Good13 (fac m) := fun x hx => ⟨(hfm.ok.irr x hx).1, (hfm.ok.irr x hx).2.1, (t1 x hx).2.1⟩
 have ey : prodF (fac y) = y := by
  have := hfy.eq
  rw [hy.1, Pol.C_one, Gq.one_mul] at this
  exact this.symm
 have em : prodF (fac m) = m := by
  have := hfm.eq
  rw [hm.1, Pol.C_one, Gq.one_mul] at this
  exact this.symm
 have h := recip_L gy gm
 rw [ey, em] at h
 rw [symb_zp, symb_zp, show y.len - 1 = dgF (fac y) by omega, show m.len - 1 = dgF (fac m) by omega]
 exact h
end
end Pe
