/-
  A part of the proof: an evaluator for a small form of the code, its soundness, and contracts of functions over it.
-/
import Derived.Test.YtbangpnofnhhnaaGreatW1
import Derived.Test.YtbangpnofnhhnaaGreatW2
import Derived.Test.YtbangpnofnhhnaaGreatW3
import Derived.Test.YtbangpnofnhhnaaGreatW4
import Derived.Test.YtbangpnofnhhnaaGreatW5

namespace Pe
open Go Gq
variable {T : Nat → Option Fn} {A : Oracle}

section
variable {p : Int}
/-- The first coefficients. -/
def lowP (a : Fp p) (i : Nat) : Fp p := ⟨fun n => if n < i then a.c n else 0, i, fun n hn => if_neg (by omega)⟩
theorem lowP_c (a : Fp p) (i n : Nat) : (lowP a i).c n = if n < i then a.c n else 0 := rfl
theorem lowP_zero (a : Fp p) : lowP a 0 = 0 := Pol.ext fun n => by rw [lowP_c, if_neg (by omega)]; rfl
theorem lowP_top (a : Fp p) : lowP a a.len = a := Pol.ext fun n => by
  rw [lowP_c]
  split
  · rfl
  · rename_i h; exact (a.lt_len n (by omega)).symm
end
section
variable {p : Int} [IsP p]
theorem mo_c (k : Zp p) (n i : Nat) : (Pol.mo k n).c i = if i = n then k else 0 := rfl
theorem lowP_succ (a : Fp p) (i : Nat) : lowP a (i + 1) = lowP a i + Pol.mo (a.c i) i := Pol.ext fun n => by
  rw [Pol.c_add, lowP_c, lowP_c, mo_c]
  by_cases h : n = i
  · subst h; rw [if_pos (by omega), if_neg (by omega), if_pos rfl, Gq.zero_add]
  · rw [if_neg h, Gq.add_zero]
    by_cases h2 : n < i
    · rw [if_pos (by omega), if_pos h2]
    · rw [if_neg (by omega), if_neg h2]
theorem mo_zero (n : Nat) : (Pol.mo 0 n : Fp p) = 0 := Pol.ext fun i => by rw [mo_c]; split <;> rfl
theorem mo_mo (k l : Zp p) (n m : Nat) : (Pol.mo k n * Pol.mo l m : Fp p) = Pol.mo (k * l) (n + m) := Pol.ext fun i => by
  rw [c_momul', mo_c, mo_c]
  by_cases h : n ≤ i
  · rw [if_pos h]
    by_cases h2 : i - n = m
    · rw [if_pos h2, if_pos (by omega)]
    · rw [if_neg h2, if_neg (by omega), Gq.mul_zero]
  · rw [if_neg h, if_neg (by omega)]
theorem polOf_add_set {cur : List Int} {k : Nat} (h : k < cur.length) (t : Int) : polOf p (cur.set k ((cf cur k + t) % p)) = polOf p cur + Pol.mo (zp p t) k := Pol.ext fun j => by
  rw [Pol.c_add, polOf_c, polOf_c, cf_set, mo_c]
  by_cases h1 : j = k
  · subst h1
    rw [if_pos ⟨rfl, h⟩, if_pos rfl, zp_mod, zp_add]
  · rw [if_neg (by omega), if_neg h1, Gq.add_zero]
end

theorem l_sTm0 {O : Oracle} {p : Int} [IsP p] {a b : Fp p} {z : List Int} {n i : Nat} (hn : n < 64) (hi : i < a.len) (hal : a.len ≤ 64) (hbl : b.len ≤ 64) (hab : a.len + b.len ≤ 65) (hb1 : 0 < b.len) (hai : a.c i ≠ 0) {P : Fp p} {vn : V} (hvn : vn.refs = []) : ∀ (m j : Nat) (cur : List Int), j + m = b.len → cur.length = 64 → Can p cur → polOf p cur = P + Pol.mo (a.c i) i * lowP b j → ∃ cur' : List Int, cur'.length = 64 ∧ Can p cur' ∧ polOf p cur' = P + Pol.mo (a.c i) i * b ∧
    dn O 0 (.loop ir_spec_l01Times_L0) ⟨[(0, (.d (.int .i64 p))), (4, .ptr 0 []), (5, .ptr 1 []), (6, .ptr 2 []), (8, vn), (9, (.d (.int .i64 (((b.len - 1 : Nat) : Int))))), (10, .ptr 3 []), (11, (.d (.int .i64 i))), (12, (.d (.int .i64 j)))], [.box false (D.arr 64 .leaf (ints .u8 (pad (row a)))), .box false (D.arr 64 .leaf (ints .u8 (pad (row b)))), .box false (D.arr 64 .leaf (ints .u8 z)), .box false (D.arr 64 .leaf (ints .u8 cur))]⟩ =
      some (.exit 2, ⟨[(0, (.d (.int .i64 p))), (4, .ptr 0 []), (5, .ptr 1 []), (6, .ptr 2 []), (8, vn), (9, (.d (.int .i64 (((b.len - 1 : Nat) : Int))))), (10, .ptr 3 []), (11, (.d (.int .i64 i))), (12, (.d (.int .i64 b.len))), (43, (.d (.bool false)))], [.box false (D.arr 64 .leaf (ints .u8 (pad (row a)))), .box false (D.arr 64 .leaf (ints .u8 (pad (row b)))), .box false (D.arr 64 .leaf (ints .u8 z)), .box false (D.arr 64 .leaf (ints .u8 cur'))]⟩)
  | 0, j, cur, hj, hc, hcan, he => by
    obtain rfl : j = b.len := by omega
    rw [lowP_top] at he
    have hlt : ¬ (b.len : Int) ≤ ((b.len - 1 : Nat) : Int) := by omega
    refine ⟨cur, hc, hcan, he, dn_stop ?_⟩
    generalize ((b.len - 1 : Nat) : Int) = m1 at *
    generalize pad (row a) = PA at *
    generalize pad (row b) = PB at *
    simp -implicitDefEqProofs [ir_spec_l01Times_L0, dn_cond, hlt, hvn]
  | m + 1, j, cur, hj, hc, hcan, he => by
    have hp := IsP.pos (p := p)
    have hp7 := IsP.le (p := p)
    have hp0 : p ≠ 0 := by omega
    have hlt : (j : Int) ≤ ((b.len - 1 : Nat) : Int) := by omega
    have hi64 : i < 64 := by omega
    have hj64 : j < 64 := by omega
    have hij : i + j < 64 := by omega
    have hs0 : (0 : Int) ≤ (i : Int) + j := by omega
    have hs1 : ((i : Int) + j).toNat = i + j := by omega
    have hx : (pad (row a))[i]? = some (rep (a.c i)) := by rw [pad_get _ _ hi64, row_cf]
    have hy : (pad (row b))[j]? = some (rep (b.c j)) := by rw [pad_get _ _ hj64, row_cf]
    have hx0 : rep (a.c i) ≠ 0 := fun h => hai (rep_eq_zero.1 h)
    have hr1 := rep_in (a.c i)
    have hr2 := rep_in (b.c j)
    have hkc : i + j < cur.length := by omega
    have hw : cur[i + j] = cf cur (i + j) := (cf_lt hkc).symm
    have gc := hcan.le hp (i + j)
    have gm := mul_small (x := rep (a.c i)) (y := rep (b.c j)) (b := 10) (c := 10) (by omega) (by omega) (by omega)
    have gm0 := Int.mul_nonneg hr1.1 hr2.1
    have w0 : IntKind.i64.wrap ((i : Int) + j) = ((i + j : Nat) : Int) := (w64 (x := (i : Int) + j) (by omega)).trans (by omega)
    have w1 : IntKind.i64.wrap (rep (a.c i)) = rep (a.c i) := w64 (by omega)
    have w2 : IntKind.i64.wrap (rep (b.c j)) = rep (b.c j) := w64 (by omega)
    have w3 : IntKind.i64.wrap (cf cur (i + j)) = cf cur (i + j) := w64 (by omega)
    have w4 : IntKind.i64.wrap (rep (a.c i) * rep (b.c j)) = rep (a.c i) * rep (b.c j) := w64 (by omega)
    have w5 : IntKind.i64.wrap (cf cur (i + j) + rep (a.c i) * rep (b.c j)) = cf cur (i + j) + rep (a.c i) * rep (b.c j) := w64 (by omega)
    have w6 : (cf cur (i + j) + rep (a.c i) * rep (b.c j)).tmod p = (cf cur (i + j) + rep (a.c i) * rep (b.c j)) % p := Int.tmod_eq_emod_of_nonneg (by omega)
    have hin := Int.emod_nonneg (cf cur (i + j) + rep (a.c i) * rep (b.c j)) hp0
    have hin2 := Int.emod_lt_of_pos (cf cur (i + j) + rep (a.c i) * rep (b.c j)) hp
    have w7 : IntKind.u8.wrap ((cf cur (i + j) + rep (a.c i) * rep (b.c j)) % p) = (cf cur (i + j) + rep (a.c i) * rep (b.c j)) % p := w8 (by omega)
    have w8' : IntKind.i64.wrap ((j : Int) + 1) = ((j + 1 : Nat) : Int) := (w64 (x := (j : Int) + 1) (by omega)).trans (by omega)
    have hnew : polOf p (cur.set (i + j) ((cf cur (i + j) + rep (a.c i) * rep (b.c j)) % p)) = P + Pol.mo (a.c i) i * lowP b (j + 1) := by
      rw [polOf_add_set hkc, he, zp_mul, zp_rep, zp_rep, lowP_succ, Gq.mul_add, mo_mo, Gq.add_assoc]
    have hcan' : Can p (cur.set (i + j) ((cf cur (i + j) + rep (a.c i) * rep (b.c j)) % p)) := fun x hx => by
      rcases List.mem_or_eq_of_mem_set hx with h | rfl
      · exact hcan x h
      · exact ⟨hin, hin2⟩
    obtain ⟨cur', g1, g2, g3, g4⟩ := l_sTm0 (O := O) (z := z) hn hi hal hbl hab hb1 hai hvn m (j + 1) (cur.set (i + j) ((cf cur (i + j) + rep (a.c i) * rep (b.c j)) % p)) (by omega) (by rw [List.length_set]; exact hc) hcan' hnew
    have hs : ints .u8 (cur.set (i + j) ((cf cur (i + j) + rep (a.c i) * rep (b.c j)) % p)) = (ints .u8 cur).set (i + j) (D.int .u8 ((cf cur (i + j) + rep (a.c i) * rep (b.c j)) % p)) := by unfold ints; rw [List.map_set]
    rw [hs] at g4
    refine ⟨cur', g1, g2, g3, dn_round ?_ g4⟩
    generalize (cf cur (i + j) + rep (a.c i) * rep (b.c j)) % p = W at *
    generalize ((b.len - 1 : Nat) : Int) = m1 at *
    generalize pad (row a) = PA at *
    generalize pad (row b) = PB at *
    simp -implicitDefEqProofs [ir_spec_l01Times_L0, dn_cond, hlt, hi64, hj64, hij, hs0, hs1, hx, hy, hx0, hc, hw, w0, w1, w2, w3, w4, w5, w6, w7, w8', hp0, hvn]

theorem l_sTm1 {O : Oracle} {p : Int} [IsP p] {a b : Fp p} {z : List Int} (hal : a.len ≤ 64) (hbl : b.len ≤ 64) (hab : a.len + b.len ≤ 65) (ha1 : 0 < a.len) (hb1 : 0 < b.len) : ∀ (m i : Nat) (cur : List Int), i + m = a.len → cur.length = 64 → Can p cur → polOf p cur = lowP a i * b → ∃ cur' : List Int, cur'.length = 64 ∧ Can p cur' ∧ polOf p cur' = a * b ∧
    dn O 0 (.loop ir_spec_l01Times_L1) ⟨[(0, (.d (.int .i64 p))), (4, .ptr 0 []), (5, .ptr 1 []), (6, .ptr 2 []), (8, (.d (.int .i64 (((a.len - 1 : Nat) : Int))))), (9, (.d (.int .i64 (((b.len - 1 : Nat) : Int))))), (10, .ptr 3 []), (11, (.d (.int .i64 i)))], [.box false (D.arr 64 .leaf (ints .u8 (pad (row a)))), .box false (D.arr 64 .leaf (ints .u8 (pad (row b)))), .box false (D.arr 64 .leaf (ints .u8 z)), .box false (D.arr 64 .leaf (ints .u8 cur))]⟩ =
      some (.exit 0, ⟨[(0, (.d (.int .i64 p))), (4, .ptr 0 []), (5, .ptr 1 []), (6, .ptr 2 []), (8, (.d (.int .i64 (((a.len - 1 : Nat) : Int))))), (9, (.d (.int .i64 (((b.len - 1 : Nat) : Int))))), (10, .ptr 3 []), (11, (.d (.int .i64 a.len))), (32, (.d (.bool false)))], [.box false (D.arr 64 .leaf (ints .u8 (pad (row a)))), .box false (D.arr 64 .leaf (ints .u8 (pad (row b)))), .box false (D.arr 64 .leaf (ints .u8 z)), .box false (D.arr 64 .leaf (ints .u8 cur'))]⟩)
  | 0, i, cur, hi, hc, hcan, he => by
    obtain rfl : i = a.len := by omega
    rw [lowP_top] at he
    have hlt : ¬ (a.len : Int) ≤ ((a.len - 1 : Nat) : Int) := by omega
    refine ⟨cur, hc, hcan, he, dn_stop ?_⟩
    generalize ((b.len - 1 : Nat) : Int) = m1 at *
    generalize ((a.len - 1 : Nat) : Int) = n1 at *
    generalize pad (row a) = PA at *
    generalize pad (row b) = PB at *
    simp -implicitDefEqProofs [ir_spec_l01Times_L1, dn_cond, hlt]
  | m + 1, i, cur, hi, hc, hcan, he => by
    have hlt : (i : Int) ≤ ((a.len - 1 : Nat) : Int) := by omega
    have hi64 : i < 64 := by omega
    have w8' : IntKind.i64.wrap ((i : Int) + 1) = ((i + 1 : Nat) : Int) := (w64 (x := (i : Int) + 1) (by omega)).trans (by omega)
    have hx : (pad (row a))[i]? = some (rep (a.c i)) := by rw [pad_get _ _ hi64, row_cf]
    by_cases hai : a.c i = 0
    · have hr : rep (a.c i) = 0 := rep_eq_zero.2 hai
      have he' : polOf p cur = lowP a (i + 1) * b := by rw [lowP_succ, hai, mo_zero, Gq.add_zero]; exact he
      obtain ⟨cur', g1, g2, g3, g4⟩ := l_sTm1 (O := O) (z := z) hal hbl hab ha1 hb1 m (i + 1) cur (by omega) hc hcan he'
      rw [hr] at hx
      have hin : dn O 0 (.loop ir_spec_l01Times_L0) ⟨[(0, (.d (.int .i64 p))), (4, .ptr 0 []), (5, .ptr 1 []), (6, .ptr 2 []), (8, (.d (.int .i64 (((a.len - 1 : Nat) : Int))))), (9, (.d (.int .i64 (((b.len - 1 : Nat) : Int))))), (10, .ptr 3 []), (11, (.d (.int .i64 i))), (12, (.d (.int .i64 0)))], [.box false (D.arr 64 .leaf (ints .u8 (pad (row a)))), .box false (D.arr 64 .leaf (ints .u8 (pad (row b)))), .box false (D.arr 64 .leaf (ints .u8 z)), .box false (D.arr 64 .leaf (ints .u8 cur))]⟩ =
          some (.exit 2, ⟨[(0, (.d (.int .i64 p))), (4, .ptr 0 []), (5, .ptr 1 []), (6, .ptr 2 []), (8, (.d (.int .i64 (((a.len - 1 : Nat) : Int))))), (9, (.d (.int .i64 (((b.len - 1 : Nat) : Int))))), (10, .ptr 3 []), (11, (.d (.int .i64 i))), (12, (.d (.int .i64 0))), (43, (.d (.bool false)))], [.box false (D.arr 64 .leaf (ints .u8 (pad (row a)))), .box false (D.arr 64 .leaf (ints .u8 (pad (row b)))), .box false (D.arr 64 .leaf (ints .u8 z)), .box false (D.arr 64 .leaf (ints .u8 cur))]⟩) := by
        refine dn_stop ?_
        generalize b.len - 1 = m1 at *
        generalize ((a.len - 1 : Nat) : Int) = n1 at *
        generalize pad (row a) = PA at *
        generalize pad (row b) = PB at *
        simp -implicitDefEqProofs [ir_spec_l01Times_L0, dn_cond, hi64, hx]
      refine ⟨cur', g1, g2, g3, dn_round ?_ g4⟩
      generalize ((b.len - 1 : Nat) : Int) = m1 at *
      generalize ((a.len - 1 : Nat) : Int) = n1 at *
      generalize pad (row a) = PA at *
      generalize pad (row b) = PB at *
      simp -implicitDefEqProofs [ir_spec_l01Times_L1, dn_cond, hlt, hin, w8']
    · obtain ⟨cur1, k1, k2, k3, k4⟩ := l_sTm0 (O := O) (z := z) (n := 0) (i := i) (by omega) (by omega) hal hbl hab hb1 hai (P := lowP a i * b) (vn := (.d (.int .i64 (((a.len - 1 : Nat) : Int))))) rfl b.len 0 cur (Nat.zero_add _) hc hcan (by rw [lowP_zero, Gq.mul_zero, Gq.add_zero]; exact he)
      have e00 : ((0 : Nat) : Int) = 0 := rfl
      rw [e00] at k4
      have he' : polOf p cur1 = lowP a (i + 1) * b := by
        rw [k3, lowP_succ]
        exact ring_of [lowP a i, b, Pol.mo (a.c i) i] rfl
      obtain ⟨cur', g1, g2, g3, g4⟩ := l_sTm1 (O := O) (z := z) hal hbl hab ha1 hb1 m (i + 1) cur1 (by omega) k1 k2 he'
      refine ⟨cur', g1, g2, g3, dn_round ?_ g4⟩
      generalize ((b.len - 1 : Nat) : Int) = m1 at *
      generalize ((a.len - 1 : Nat) : Int) = n1 at *
      generalize pad (row a) = PA at *
      generalize pad (row b) = PB at *
      simp -implicitDefEqProofs [ir_spec_l01Times_L1, dn_cond, hlt, k4, w8']

def K_sTimes (O : Oracle) : Prop := ∀ (p : Int) [IsP p] (a b : Fp p), a.len ≤ 64 → b.len ≤ 64 → (a * b).len ≤ 64 →
  ask O F_spec_l01Times [(D.int .i64 p), (D.arr 64 .leaf (ints .u8 (pad (row a)))), (D.arr 64 .leaf (ints .u8 (pad (row b))))] = some (.tup [(D.arr 64 .leaf (ints .u8 (pad (row (a * b))))), (D.bool true)])
theorem k_sTimes (hT : T F_spec_l01Times = some ir_spec_l01Times) (hd : K_sDeg (den T A)) : K_sTimes (den T A) := by
  intro p i a b hal hbl hab
  have e1 := hd p a hal
  have e2 := hd p b hbl
  refine ask_of hT rfl ?_
  by_cases ha : a = 0
  · subst ha
    rw [Gq.zero_mul, row_zero]
    rw [Pol.len_zero, row_zero] at e1
    generalize pad (row b) = PB at *
    simp -implicitDefEqProofs [ir_spec_l01Times, ir_spec_l01Times_B, dn_cond, e1, e2, List.replicate]
  · have ha1 := Pol.len_pos ha
    by_cases hb : b = 0
    · subst hb
      rw [Gq.mul_zero, row_zero]
      rw [Pol.len_zero, row_zero] at e2
      have ha2 : ¬ ((a.len : Int) - 1 < 0) := by omega
      generalize pad (row a) = PA at *
      simp -implicitDefEqProofs [ir_spec_l01Times, ir_spec_l01Times_B, dn_cond, e1, e2, ha2, List.replicate]
    · have hb1 := Pol.len_pos hb
      have hm := Pol.len_mul ha hb
      rw [show ((a.len : Int) - 1) = ((a.len - 1 : Nat) : Int) by omega] at e1
      rw [show ((b.len : Int) - 1) = ((b.len - 1 : Nat) : Int) by omega] at e2
      have w1 : IntKind.i64.wrap (((a.len - 1 : Nat) : Int) + ((b.len - 1 : Nat) : Int)) = ((a.len - 1 + (b.len - 1) : Nat) : Int) := (w64 (by omega)).trans (by omega)
      have w2 : ¬ ((63 : Int) < ((a.len - 1 + (b.len - 1) : Nat) : Int)) := by omega
      obtain ⟨cur', g1, g2, g3, g4⟩ := l_sTm1 (O := den T A) (z := pad []) hal hbl (by omega) ha1 hb1 a.len 0 (pad []) (Nat.zero_add _) (pad_length _) (by
        have := pad_can (0 : Fp p); rwa [row_zero] at this) (by
        rw [lowP_zero, Gq.zero_mul]
        have := polOf_pad (p := p) (a := 0) (by rw [Pol.len_zero]; omega)
        rwa [row_zero] at this)
      have e00 : ((0 : Nat) : Int) = 0 := rfl
      rw [e00] at g4
      have hcur : cur' = pad (row (a * b)) := by rw [pad_of g2 g1, g3]
      rw [hcur] at g4
      have n1 : ¬ (((a.len - 1 : Nat) : Int) < 0) := by omega
      have n2 : ¬ (((b.len - 1 : Nat) : Int) < 0) := by omega
      generalize ((a.len - 1 + (b.len - 1) : Nat) : Int) = s1 at *
      generalize ((b.len - 1 : Nat) : Int) = m1 at *
      generalize ((a.len - 1 : Nat) : Int) = k1 at *
      generalize pad (row (a * b)) = PR at *
      generalize pad (row a) = PA at *
      generalize pad (row b) = PB at *
      simp -implicitDefEqProofs [ir_spec_l01Times, ir_spec_l01Times_B, dn_cond, e1, e2, w1, w2, n1, n2, g4, List.replicate]

/-! ### Euclid's way -/
structure BzS {p : Int} [IsP p] (A B a b u x v y : Fp p) : Prop where
  i : Pol.BzI A B a b u x v y
  la : a.len ≤ 64
  lb : b.len ≤ 64
  lu : u.len ≤ 64
  lv : v.len ≤ 64
  ne : a ≠ 0
theorem BzS.step {p : Int} [IsP p] {A B a b u x v y : Fp p} (h : BzS A B a b u x v y) (hA : A.len ≤ 64) (hB : B.len ≤ 64) (hb : b ≠ 0) :
    BzS A B b (a % b) x (u - a / b * x) y (v - a / b * y) ∧ x.len ≤ 64 ∧ y.len ≤ 64 ∧ (a / b).len ≤ 64 ∧ (a / b * x).len ≤ 64 ∧ (a / b * y).len ≤ 64 ∧ (a % b).len ≤ 64 := by
  have h1 := h.i.lx
  have h2 := h.i.ly
  have h3 := Pol.len_pos h.ne
  have h4 := Pol.len_pos hb
  have h5 := Pol.len_div_le a hb
  have h6 := Pol.len_mod_le a hb
  obtain ⟨h7, h8⟩ := h.i.qlen hb
  have h9 := h.la
  have hx : x.len ≤ 64 := by omega
  have hy : y.len ≤ 64 := by omega
  exact ⟨⟨h.i.step hb, h.lb, by omega, hx, hy, hb⟩, hx, hy, by omega, by omega, by omega, by omega⟩
theorem l_sBez {O : Oracle} (hdg : K_sDeg O) (hd : K_sDivide O) (ht : K_sTimes O) (ha : K_sAdd O) {p : Int} [IsP p] {A B : Fp p} {z : List Int} (hA : A.len ≤ 64) (hB : B.len ≤ 64) : ∀ (n : Nat) (a b u x v y : Fp p), b.len ≤ n → BzS A B a b u x v y → ∃ x' y' : List Int, (Pol.bz n a b u x v y).1 ≠ 0 ∧ (Pol.bz n a b u x v y).1.len ≤ 64 ∧ (Pol.bz n a b u x v y).2.1.len ≤ 64 ∧ (Pol.bz n a b u x v y).2.2.len ≤ 64 ∧
    dn O 0 (.loop ir_spec_l01Bezout_L0) ⟨[(0, (.d (.int .i64 p))), (4, .ptr 0 []), (5, .ptr 1 []), (6, .ptr 2 []), (7, .ptr 3 []), (8, .ptr 4 []), (9, .ptr 5 []), (10, .ptr 6 []), (11, .ptr 7 []), (12, .ptr 8 [])], [.box false (D.arr 64 .leaf (ints .u8 (pad (row a)))), .box false (D.arr 64 .leaf (ints .u8 (pad (row b)))), .box false (D.arr 64 .leaf (ints .u8 z)), .box false (D.arr 64 .leaf (ints .u8 z)), .box false (D.arr 64 .leaf (ints .u8 z)), .box false (D.arr 64 .leaf (ints .u8 (pad (row u)))), .box false (D.arr 64 .leaf (ints .u8 (pad (row x)))), .box false (D.arr 64 .leaf (ints .u8 (pad (row v)))), .box false (D.arr 64 .leaf (ints .u8 (pad (row y)))), .hole, .hole, .hole, .hole, .hole, .hole]⟩ =
      some (.exit 0, ⟨[(0, (.d (.int .i64 p))), (4, .ptr 0 []), (5, .ptr 1 []), (6, .ptr 2 []), (7, .ptr 3 []), (8, .ptr 4 []), (9, .ptr 5 []), (10, .ptr 6 []), (11, .ptr 7 []), (12, .ptr 8 []), (28, (.d (.bool false)))], [.box false (D.arr 64 .leaf (ints .u8 (pad (row (Pol.bz n a b u x v y).1)))), .box false (D.arr 64 .leaf (ints .u8 (pad []))), .box false (D.arr 64 .leaf (ints .u8 z)), .box false (D.arr 64 .leaf (ints .u8 z)), .box false (D.arr 64 .leaf (ints .u8 z)), .box false (D.arr 64 .leaf (ints .u8 (pad (row (Pol.bz n a b u x v y).2.1)))), .box false (D.arr 64 .leaf (ints .u8 x')), .box false (D.arr 64 .leaf (ints .u8 (pad (row (Pol.bz n a b u x v y).2.2)))), .box false (D.arr 64 .leaf (ints .u8 y')), .hole, .hole, .hole, .hole, .hole, .hole]⟩) := by
  intro n
  have stop : ∀ (a u x v y : Fp p), dn O 0 (.loop ir_spec_l01Bezout_L0) ⟨[(0, (.d (.int .i64 p))), (4, .ptr 0 []), (5, .ptr 1 []), (6, .ptr 2 []), (7, .ptr 3 []), (8, .ptr 4 []), (9, .ptr 5 []), (10, .ptr 6 []), (11, .ptr 7 []), (12, .ptr 8 [])], [.box false (D.arr 64 .leaf (ints .u8 (pad (row a)))), .box false (D.arr 64 .leaf (ints .u8 (pad (row (0 : Fp p))))), .box false (D.arr 64 .leaf (ints .u8 z)), .box false (D.arr 64 .leaf (ints .u8 z)), .box false (D.arr 64 .leaf (ints .u8 z)), .box false (D.arr 64 .leaf (ints .u8 (pad (row u)))), .box false (D.arr 64 .leaf (ints .u8 (pad (row x)))), .box false (D.arr 64 .leaf (ints .u8 (pad (row v)))), .box false (D.arr 64 .leaf (ints .u8 (pad (row y)))), .hole, .hole, .hole, .hole, .hole, .hole]⟩ =
      some (.exit 0, ⟨[(0, (.d (.int .i64 p))), (4, .ptr 0 []), (5, .ptr 1 []), (6, .ptr 2 []), (7, .ptr 3 []), (8, .ptr 4 []), (9, .ptr 5 []), (10, .ptr 6 []), (11, .ptr 7 []), (12, .ptr 8 []), (28, (.d (.bool false)))], [.box false (D.arr 64 .leaf (ints .u8 (pad (row a)))), .box false (D.arr 64 .leaf (ints .u8 (pad []))), .box false (D.arr 64 .leaf (ints .u8 z)), .box false (D.arr 64 .leaf (ints .u8 z)), .box false (D.arr 64 .leaf (ints .u8 z)), .box false (D.arr 64 .leaf (ints .u8 (pad (row u)))), .box false (D.arr 64 .leaf (ints .u8 (pad (row x)))), .box false (D.arr 64 .leaf (ints .u8 (pad (row v)))), .box false (D.arr 64 .leaf (ints .u8 (pad (row y)))), .hole, .hole, .hole, .hole, .hole, .hole]⟩) := by
    intro a u x v y
    have e := hdg p 0 (by rw [Pol.len_zero]; omega)
    rw [row_zero, Pol.len_zero] at e
    rw [row_zero]
    refine dn_stop ?_
    generalize pad (row a) = Pa
    generalize pad (row u) = Pu
    generalize pad (row x) = Px
    generalize pad (row v) = Pv
    generalize pad (row y) = Py
    simp -implicitDefEqProofs [ir_spec_l01Bezout_L0, dn_cond, e]
  induction n with
  | zero =>
    intro a b u x v y hn hs
    obtain rfl := Pol.len_zero_iff.1 (show b.len = 0 by omega)
    exact ⟨_, _, hs.ne, hs.la, hs.lu, hs.lv, stop a u x v y⟩
  | succ n ih =>
    intro a b u x v y hn hs
    unfold Pol.bz
    by_cases h0 : b = 0
    · subst h0
      rw [if_pos rfl]
      exact ⟨_, _, hs.ne, hs.la, hs.lu, hs.lv, stop a u x v y⟩
    · rw [if_neg h0]
      obtain ⟨s0, s1, s2, s3, s4, s5, s6⟩ := hs.step hA hB h0
      have hl := Pol.len_mod a h0
      have hp := Pol.len_pos h0
      obtain ⟨x', y', g1, g2, g3, g4, e⟩ := ih b (a % b) x (u - a / b * x) y (v - a / b * y) (by omega) s0
      refine ⟨x', y', g1, g2, g3, g4, dn_round ?_ e⟩
      have e0 := hdg p b hs.lb
      have e1 := hd p a b h0 hs.la hs.lb
      have e2 := ht p (a / b) x s3 s1 s4
      have e3 := ha p (-1) u (a / b * x) (by omega) (by omega) hs.lu s4
      have e4 := ht p (a / b) y s3 s2 s5
      have e5 := ha p (-1) v (a / b * y) (by omega) (by omega) hs.lv s5
      rw [sub_comb] at e3 e5
      have hge : ¬ ((b.len : Int) - 1 < 0) := by omega
      have hge2 : (0 : Int) ≤ (b.len : Int) - 1 := by omega
      have hge3 : (1 : Int) ≤ (b.len : Int) := by omega
      generalize pad (row (u - a / b * x)) = Pux at *
      generalize pad (row (v - a / b * y)) = Pvy at *
      generalize pad (row (a / b * x)) = Pqx at *
      generalize pad (row (a / b * y)) = Pqy at *
      generalize pad (row (a / b)) = Pq at *
      generalize pad (row (a % b)) = Pr at *
      generalize pad (row a) = Pa at *
      generalize pad (row b) = Pb at *
      generalize pad (row u) = Pu at *
      generalize pad (row x) = Px at *
      generalize pad (row v) = Pv at *
      generalize pad (row y) = Py at *
      simp -implicitDefEqProofs [ir_spec_l01Bezout_L0, dn_cond, hge3, e0, e1, e2, e3, e4, e5]

def K_sBezout (O : Oracle) : Prop := ∀ (p : Int) [IsP p] (a b : Fp p), a ≠ 0 → a.len ≤ 64 → b.len ≤ 64 →
  ask O F_spec_l01Bezout [(D.int .i64 p), (D.arr 64 .leaf (ints .u8 (pad (row a)))), (D.arr 64 .leaf (ints .u8 (pad (row b))))] = some (.tup [(D.arr 64 .leaf (ints .u8 (pad (row (Pol.bezout a b).1)))), (D.arr 64 .leaf (ints .u8 (pad (row (Pol.bezout a b).2.1)))), (D.arr 64 .leaf (ints .u8 (pad (row (Pol.bezout a b).2.2))))])
theorem k_sBezout (hT : T F_spec_l01Bezout = some ir_spec_l01Bezout) (h1 : K_sOne (den T A)) (hdg : K_sDeg (den T A)) (hd : K_sDivide (den T A)) (ht : K_sTimes (den T A)) (ha : K_sAdd (den T A)) (hinv : K_sInverse (den T A)) : K_sBezout (den T A) := by
  intro p i a b h0 hal hbl
  have hp := IsP.ge (p := p)
  have hp7 := IsP.le (p := p)
  have hs : BzS a b a b 1 0 0 1 := ⟨Pol.BzI.init (.inl h0), hal, hbl, by rw [Pol.len_one]; omega, by rw [Pol.len_zero]; omega, h0⟩
  have e1 := h1 p
  obtain ⟨x', y', g1, g2, g3, g4, e2⟩ := l_sBez (O := den T A) (z := pad []) hdg hd ht ha hal hbl b.len a b 1 0 0 1 (Nat.le_refl _) hs
  unfold Pol.bezout
  have heu : Pol.eu a b = Pol.bz b.len a b 1 0 0 1 := rfl
  rw [heu]
  generalize Pol.bz b.len a b 1 0 0 1 = R at *
  obtain ⟨d, u, v⟩ := R
  simp only at g1 g2 g3 g4 e2 ⊢
  rw [row_zero] at e2
  have hd1 := Pol.len_pos g1
  have e3 := hdg p d g2
  rw [show ((d.len : Int) - 1) = ((d.len - 1 : Nat) : Int) by omega] at e3
  have hi64 : d.len - 1 < 64 := by omega
  have hx : (pad (row d))[d.len - 1]? = some (rep d.ld) := by rw [pad_get _ _ hi64, row_cf]; rfl
  have hr := rep_in d.ld
  have hr0 : rep d.ld ≠ 0 := fun h => Pol.ld_ne g1 (rep_eq_zero.1 h)
  have hin := inv_in p (rep d.ld)
  have e4 := hinv p (rep d.ld) (by omega) hr.2
  have w1 : IntKind.i64.wrap (inv p (rep d.ld)) = inv p (rep d.ld) := w64 (by omega)
  have z0 : (0 : Fp p).len ≤ 64 := by rw [Pol.len_zero]; omega
  have e5 := ha p (inv p (rep d.ld)) 0 d (by omega) (by omega) z0 g2
  have e6 := ha p (inv p (rep d.ld)) 0 u (by omega) (by omega) z0 g3
  have e7 := ha p (inv p (rep d.ld)) 0 v (by omega) (by omega) z0 g4
  rw [finv_rep _ (Pol.ld_ne g1), Gq.zero_add, row_zero] at e5 e6 e7
  refine ask_of hT rfl ?_
  generalize pad (row (Pol.C (Fd.inv d.ld) * d)) = P1 at *
  generalize pad (row (Pol.C (Fd.inv d.ld) * u)) = P2 at *
  generalize pad (row (Pol.C (Fd.inv d.ld) * v)) = P3 at *
  generalize pad (row d) = Pd at *
  generalize pad (row u) = Pu at *
  generalize pad (row v) = Pv at *
  generalize pad (row a) = Pa at *
  generalize pad (row b) = Pb at *
  generalize pad (row (1 : Fp p)) = P0 at *
  generalize d.len - 1 = n1 at *
  simp -implicitDefEqProofs [ir_spec_l01Bezout, ir_spec_l01Bezout_B, e1, e2, e3, e4, e5, e6, e7, hi64, hx, w1, List.replicate]

def K_sGcd (O : Oracle) : Prop := ∀ (p : Int) [IsP p] (a b : Fp p), a ≠ 0 → a.len ≤ 64 → b.len ≤ 64 →
  ask O F_spec_l01Gcd [(D.int .i64 p), (D.arr 64 .leaf (ints .u8 (pad (row a)))), (D.arr 64 .leaf (ints .u8 (pad (row b))))] = some (D.arr 64 .leaf (ints .u8 (pad (row (Pol.gcd a b)))))
theorem k_sGcd (hT : T F_spec_l01Gcd = some ir_spec_l01Gcd) (hdg : K_sDeg (den T A)) (hb : K_sBezout (den T A)) : K_sGcd (den T A) := by
  intro p i a b h0 hal hbl
  have e1 := hdg p a hal
  have e2 := hb p a b h0 hal hbl
  have hp := Pol.len_pos h0
  have hge : ¬ ((a.len : Int) - 1 < 0) := by omega
  refine ask_of hT rfl ?_
  unfold Pol.gcd
  generalize pad (row (Pol.bezout a b).1) = P1 at *
  generalize pad (row (Pol.bezout a b).2.1) = P2 at *
  generalize pad (row (Pol.bezout a b).2.2) = P3 at *
  generalize pad (row a) = Pa at *
  generalize pad (row b) = Pb at *
  generalize (a.len : Int) - 1 = n1 at *
  simp -implicitDefEqProofs [ir_spec_l01Gcd, ir_spec_l01Gcd_B, dn_cond, e1, e2, hge, List.replicate]

def K_sT (O : Oracle) : Prop := ∀ (p : Int) [IsP p], ask O F_spec_l01T [] = some (D.arr 64 .leaf (ints .u8 (pad (row (Pol.X : Fp p)))))
theorem k_sT (hT : T F_spec_l01T = some ir_spec_l01T) : K_sT (den T A) := by
  intro p i
  have e : ((pad []).set 0 0).set 1 1 = pad [0, 1] := by decide +kernel
  have h0 : (pad [])[0]? = some 0 := by decide +kernel
  have h1 : (pad [])[1]? = some 0 := by decide +kernel
  rw [row_X]
  refine ask_of hT rfl ?_
  simp -implicitDefEqProofs [ir_spec_l01T, ir_spec_l01T_B, e, h0, h1]

/-! ### irreducible polynomials -/
open Classical in
theorem l_sIrr {O : Oracle} (hdg : K_sDeg O) (hpw : K_sPowMod O) (hg : K_sGcd O) (ha : K_sAdd O) (ht : K_sT O) {p : Int} [IsP p] {m : Fp p} (hm : m ≠ 0) (hml : m.len ≤ 13) {n : Nat} (hn : n + 1 = m.len) : ∀ (f k : Nat), 1 ≤ k → k + f = n / 2 + 1 → ∃ P' : List Int,
    dn O 0 (.loop ir_spec_l01Irreducible_L0) ⟨[(0, (.d (.int .i64 p))), (3, .ptr 0 []), (5, (.d (.int .i64 n))), (6, .ptr 1 []), (7, (.d (.int .i64 k)))], [.box false (D.arr 64 .leaf (ints .u8 (pad (row m)))), .box false (D.arr 64 .leaf (ints .u8 (pad (row (pw Pol.X (p.toNat ^ (k - 1)) % m)))))]⟩ =
      if ∀ k', k ≤ k' → 2 * k' ≤ n → (Pol.gcd m (frW m k')).len = 1 then some (.exit 0, ⟨[(0, (.d (.int .i64 p))), (3, .ptr 0 []), (5, (.d (.int .i64 n))), (6, .ptr 1 []), (7, (.d (.int .i64 (((n / 2 + 1 : Nat) : Int))))), (19, (.d (.bool false)))], [.box false (D.arr 64 .leaf (ints .u8 (pad (row m)))), .box false (D.arr 64 .leaf (ints .u8 P'))]⟩)
      else some (.ret, ⟨[(4, (.d (.bool false)))], [.hole, .hole]⟩)
  | 0, k, hk, hf => by
    obtain rfl : k = n / 2 + 1 := by omega
    refine ⟨pad (row (pw Pol.X (p.toNat ^ (n / 2 + 1 - 1)) % m)), ?_⟩
    rw [if_pos (fun k' h1 h2 => by omega)]
    have w1 : IntKind.i64.wrap (2 * ((n / 2 + 1 : Nat) : Int)) = 2 * ((n / 2 + 1 : Nat) : Int) := w64 (by omega)
    have hlt : ¬ (2 * ((n / 2 + 1 : Nat) : Int) ≤ n) := by omega
    refine dn_stop ?_
    generalize ((n / 2 + 1 : Nat) : Int) = k1 at *
    generalize pad (row (pw Pol.X (p.toNat ^ (n / 2 + 1 - 1)) % m)) = P1 at *
    generalize pad (row m) = Pm at *
    simp -implicitDefEqProofs [ir_spec_l01Irreducible_L0, dn_cond, w1, hlt]
  | f + 1, k, hk, hf => by
    have hp := IsP.pos (p := p)
    have hp7 := IsP.le (p := p)
    have w1 : IntKind.i64.wrap (2 * (k : Int)) = 2 * (k : Int) := w64 (by omega)
    have hlt : 2 * (k : Int) ≤ n := by omega
    have w4 : IntKind.i64.wrap ((k : Int) + 1) = ((k + 1 : Nat) : Int) := (w64 (x := (k : Int) + 1) (by omega)).trans (by omega)
    have hl1 := Pol.len_mod (pw Pol.X (p.toNat ^ (k - 1))) hm
    have hl2 := Pol.len_mod (pw Pol.X (p.toNat ^ k)) hm
    have e1 := hpw p (pw Pol.X (p.toNat ^ (k - 1)) % m) p m hm (by omega) (by omega) (by omega) (by omega)
    have e2 : pw (pw Pol.X (p.toNat ^ (k - 1)) % m) p.toNat % m = pw Pol.X (p.toNat ^ k) % m := by
      rw [Pol.pow_mod _ hm, pw_pw, ← Nat.pow_succ, show (k - 1).succ = k by omega]
    rw [e2] at e1
    have e3 := ht p
    have hX : (Pol.X : Fp p).len ≤ 64 := by rw [Pol.len_X]; omega
    have e4 := ha p (-1) (pw Pol.X (p.toNat ^ k) % m) Pol.X (by omega) (by omega) (by omega) hX
    rw [sub_comb] at e4
    have e4' : pw Pol.X (p.toNat ^ k) % m - Pol.X = frW m k := rfl
    rw [e4'] at e4
    have hl3 : (frW m k).len ≤ 64 := Pol.len_sub_le (by omega) hX
    have e5 := hg p m (frW m k) hm (by omega) hl3
    have hgm := Pol.gcd_monic (a := m) (b := frW m k) (.inl hm)
    have hgl := (Pol.gcd_dv_left (a := m) (b := frW m k) (.inl hm)).len hm
    have e6 := hdg p (Pol.gcd m (frW m k)) (by omega)
    have hg1 := Pol.len_pos hgm.2
    by_cases hc : (Pol.gcd m (frW m k)).len = 1
    · obtain ⟨P', ih⟩ := l_sIrr hdg hpw hg ha ht hm hml hn f (k + 1) (by omega) (by omega)
      rw [show k + 1 - 1 = k by omega] at ih
      refine ⟨P', ?_⟩
      have hiff : (∀ k', k ≤ k' → 2 * k' ≤ n → (Pol.gcd m (frW m k')).len = 1) ↔ ∀ k', k + 1 ≤ k' → 2 * k' ≤ n → (Pol.gcd m (frW m k')).len = 1 := by
        constructor
        · intro h k' h1 h2; exact h k' (by omega) h2
        · intro h k' h1 h2
          by_cases hkk : k' = k
          · rw [hkk]; exact hc
          · exact h k' (by omega) h2
      rw [propext hiff]
      refine dn_round ?_ ih
      rw [hc] at e6
      have e7 : ((1 : Nat) : Int) - 1 = 0 := rfl
      rw [e7] at e6
      generalize pad (row (Pol.gcd m (frW m k))) = Pg at *
      generalize pad (row (frW m k)) = Pw at *
      generalize pad (row (pw Pol.X (p.toNat ^ k) % m)) = P2 at *
      generalize pad (row (pw Pol.X (p.toNat ^ (k - 1)) % m)) = P1 at *
      generalize pad (row (Pol.X : Fp p)) = PX at *
      generalize pad (row m) = Pm at *
      simp -implicitDefEqProofs [ir_spec_l01Irreducible_L0, dn_cond, w1, hlt, e1, e3, e4, e5, e6, w4]
    · refine ⟨pad [], ?_⟩
      rw [if_neg (fun h => hc (h k (Nat.le_refl k) (by omega)))]
      have hne : ¬ (((Pol.gcd m (frW m k)).len : Int) - 1 = 0) := by omega
      refine dn_back ?_
      generalize ((Pol.gcd m (frW m k)).len : Int) - 1 = g1 at *
      generalize pad (row (Pol.gcd m (frW m k))) = Pg at *
      generalize pad (row (frW m k)) = Pw at *
      generalize pad (row (pw Pol.X (p.toNat ^ k) % m)) = P2 at *
      generalize pad (row (pw Pol.X (p.toNat ^ (k - 1)) % m)) = P1 at *
      generalize pad (row (Pol.X : Fp p)) = PX at *
      generalize pad (row m) = Pm at *
      simp -implicitDefEqProofs [ir_spec_l01Irreducible_L0, dn_cond, w1, hlt, e1, e3, e4, e5, e6, hne]
open Classical in
def K_sIrr (O : Oracle) : Prop := ∀ (p : Int) [IsP p] (m : Fp p), m ≠ 0 → m.len ≤ 13 → ask O F_spec_l01Irreducible [(D.int .i64 p), (D.arr 64 .leaf (ints .u8 (pad (row m))))] = some (D.bool (decide (Irr m)))
open Classical in
theorem k_sIrr (hT : T F_spec_l01Irreducible = some ir_spec_l01Irreducible) (hdg : K_sDeg (den T A)) (hmo : K_sMod (den T A)) (hpw : K_sPowMod (den T A)) (hg : K_sGcd (den T A)) (ha : K_sAdd (den T A)) (ht : K_sT (den T A)) : K_sIrr (den T A) := by
  intro p i m hm hml
  have e1 := hdg p m (by omega)
  have e2 := ht p
  have e3 := hmo p Pol.X m hm (by rw [Pol.len_X]; omega) (by omega)
  have h1 := Pol.len_pos hm
  refine ask_of hT rfl ?_
  by_cases h2 : 2 ≤ m.len
  · obtain ⟨P', e4⟩ := l_sIrr (O := den T A) hdg hpw hg ha ht hm hml (n := m.len - 1) (by omega) ((m.len - 1) / 2) 1 (Nat.le_refl 1) (by omega)
    have e5 : pw (Pol.X : Fp p) (p.toNat ^ (1 - 1)) = Pol.X := by rw [Nat.sub_self, Nat.pow_zero, pw_1]
    rw [e5, irr_test h2 hml] at e4
    rw [show ((m.len : Int) - 1) = ((m.len - 1 : Nat) : Int) by omega] at e1
    have hlt : ¬ (((m.len - 1 : Nat) : Int) < 1) := by omega
    have e01 : ((1 : Nat) : Int) = 1 := rfl
    rw [e01] at e4
    by_cases hi : Irr m
    · rw [if_pos hi] at e4
      rw [decide_eq_true hi]
      generalize (((m.len - 1) / 2 + 1 : Nat) : Int) = k1 at *
      generalize ((m.len - 1 : Nat) : Int) = n1 at *
      generalize pad (row (Pol.X % m)) = P1 at *
      generalize pad (row (Pol.X : Fp p)) = PX at *
      generalize pad (row m) = Pm at *
      simp -implicitDefEqProofs [ir_spec_l01Irreducible, ir_spec_l01Irreducible_B, dn_cond, e1, e2, e3, e4, hlt, List.replicate]
    · rw [if_neg hi] at e4
      rw [decide_eq_false hi]
      generalize ((m.len - 1 : Nat) : Int) = n1 at *
      generalize pad (row (Pol.X % m)) = P1 at *
      generalize pad (row (Pol.X : Fp p)) = PX at *
      generalize pad (row m) = Pm at *
      simp -implicitDefEqProofs [ir_spec_l01Irreducible, ir_spec_l01Irreducible_B, dn_cond, e1, e2, e3, e4, hlt, List.replicate]
  · have hl : m.len = 1 := by omega
    rw [hl] at e1
    have e7 : ((1 : Nat) : Int) - 1 = 0 := rfl
    rw [e7] at e1
    rw [decide_eq_false (fun h : Irr m => h2 h.len)]
    generalize pad (row (Pol.X % m)) = P1 at *
    generalize pad (row (Pol.X : Fp p)) = PX at *
    generalize pad (row m) = Pm at *
    simp -implicitDefEqProofs [ir_spec_l01Irreducible, ir_spec_l01Irreducible_B, dn_cond, e1, e2, e3, List.replicate]
end Pe

namespace Pe
open Go Gq
variable {T : Nat → Option Fn} {A : Oracle}

/-! ### numbered polynomials -/
def puts : List Int → Nat → List Int → List Int
  | [], _, cur => cur
  | d :: ds, i, cur => puts ds (i + 1) (cur.set i d)
theorem puts_length : ∀ (ds : List Int) (i : Nat) (cur : List Int), (puts ds i cur).length = cur.length
  | [], _, _ => rfl
  | d :: ds, i, cur => by rw [puts, puts_length, List.length_set]
theorem puts_cf : ∀ (ds : List Int) (i : Nat) (cur : List Int) (j : Nat), i + ds.length ≤ cur.length → cf (puts ds i cur) j = if i ≤ j ∧ j < i + ds.length then cf ds (j - i) else cf cur j
  | [], i, cur, j, _ => by rw [puts, if_neg (by rintro ⟨h1, h2⟩; rw [List.length_nil] at h2; omega)]
  | d :: ds, i, cur, j, h => by
    simp at h
    rw [puts, puts_cf ds (i + 1) _ j (by rw [List.length_set]; omega), cf_set, List.length_cons]
    by_cases h1 : j = i
    · subst h1
      rw [if_neg (by omega), if_pos ⟨rfl, by omega⟩, if_pos (by omega), Nat.sub_self]; rfl
    · by_cases h2 : i + 1 ≤ j ∧ j < i + 1 + ds.length
      · rw [if_pos h2, if_pos (by omega)]
        obtain ⟨k, hk⟩ : ∃ k, j - i = k + 1 := ⟨j - i - 1, by omega⟩
        rw [hk, show j - (i + 1) = k by omega]
        simp [cf]
      · rw [if_neg h2, if_neg (by omega), if_neg (by omega)]
theorem puts_pad {ds : List Int} (h : ds.length ≤ 64) : puts ds 0 (pad []) = pad ds := by
  symm
  apply pad_eq (by rw [puts_length, pad_length])
  intro i hi
  rw [puts_cf _ _ _ _ (by rw [pad_length]; omega)]
  by_cases h1 : i < ds.length
  · rw [if_pos (by omega), Nat.sub_zero]
  · rw [if_neg (by omega), pad_cf (by simp), cf_ge (by omega), cf_ge (by simp)]

theorem l_sOf {O : Oracle} {p : Int} [IsP p] {z : List Int} : ∀ (f : Nat) (n : Int) (i : Nat) (cur : List Int), 0 ≤ n → n < 2 ^ f → n < 9223372036854775807 → i + f ≤ 64 → cur.length = 64 → ∃ i' : Nat,
    dn O 0 (.loop ir_spec_l01Of_L0) ⟨[(0, (.d (.int .i64 p))), (1, (.d (.int .i64 n))), (4, .ptr 0 []), (5, .ptr 1 []), (6, (.d (.int .i64 i)))], [.box false (D.arr 64 .leaf (ints .u8 z)), .box false (D.arr 64 .leaf (ints .u8 cur))]⟩ =
      some (.exit 0, ⟨[(0, (.d (.int .i64 p))), (1, (.d (.int .i64 0))), (4, .ptr 0 []), (5, .ptr 1 []), (6, (.d (.int .i64 i'))), (9, (.d (.bool false)))], [.box false (D.arr 64 .leaf (ints .u8 z)), .box false (D.arr 64 .leaf (ints .u8 (puts (dgs p f n) i cur)))]⟩)
  | 0, n, i, cur, h0, hn, hm, hi, hc => by
    obtain rfl : n = 0 := by simp at hn; omega
    exact ⟨i, dn_stop (by simp -implicitDefEqProofs [ir_spec_l01Of_L0, dn_cond, dgs, puts])⟩
  | f + 1, n, i, cur, h0, hn, hm, hi, hc => by
    have hp := IsP.ge (p := p)
    have hp7 := IsP.le (p := p)
    by_cases hz : n = 0
    · subst hz
      refine ⟨i, ?_⟩
      rw [dgs, if_pos (Int.le_refl 0), puts]
      exact dn_stop (by simp -implicitDefEqProofs [ir_spec_l01Of_L0, dn_cond])
    · have hd : n / p < 2 ^ f := by
        apply Int.ediv_lt_of_lt_mul (by omega)
        have : (2 : Int) ^ (f + 1) = 2 ^ f * 2 := Int.pow_succ _ _
        have h2 : (2 : Int) ^ f * 2 ≤ 2 ^ f * p := Int.mul_le_mul_of_nonneg_left hp (Int.pow_nonneg (by omega))
        omega
      have hdn : 0 ≤ n / p := Int.ediv_nonneg (by omega) (by omega)
      have hdl : n / p ≤ n := Int.ediv_le_self _ h0
      obtain ⟨i', e⟩ := l_sOf (O := O) (p := p) (z := z) f (n / p) (i + 1) (cur.set i (n % p)) hdn hd (by omega) (by omega) (by simpa using hc)
      have hpos : 0 < n := by omega
      have hr : 0 ≤ n % p ∧ n % p < p := ⟨Int.emod_nonneg _ (by omega), Int.emod_lt_of_pos _ (by omega)⟩
      have w1 : IntKind.i64.wrap (n.tdiv p) = n / p := by rw [Int.tdiv_eq_ediv_of_nonneg h0, w64 (by omega)]
      have w2 : n.tmod p = n % p := Int.tmod_eq_emod_of_nonneg h0
      have w3 : IntKind.u8.wrap (n % p) = n % p := w8 (by omega)
      have w4 : IntKind.i64.wrap ((i : Int) + 1) = ((i + 1 : Nat) : Int) := (w64 (x := (i : Int) + 1) (by omega)).trans (by omega)
      have hp0 : p ≠ 0 := by omega
      have hi64 : i < 64 := by omega
      have hic : i < cur.length := by omega
      refine ⟨i', ?_⟩
      rw [dgs, if_neg (by omega), puts]
      refine dn_round ?_ e
      simp -implicitDefEqProofs [ir_spec_l01Of_L0, dn_cond, hpos, w1, w2, w3, w4, hp0, hi64, hic]
def K_sOf (O : Oracle) : Prop := ∀ (p : Int) [IsP p] (n : Int), 0 ≤ n → n < 4611686018427387904 → ask O F_spec_l01Of [(D.int .i64 p), (D.int .i64 n)] = some (D.arr 64 .leaf (ints .u8 (pad (row (numP p n)))))
theorem k_sOf (hT : T F_spec_l01Of = some ir_spec_l01Of) : K_sOf (den T A) := by
  intro p i n h0 hn
  obtain ⟨i', e⟩ := l_sOf (O := den T A) (p := p) (z := pad []) 64 n 0 (pad []) h0 (by omega) (by omega) (by omega) (pad_length _)
  rw [puts_pad (dgs_le p 64 n), ← row_numP (by omega)] at e
  have e0 : ((0 : Nat) : Int) = 0 := rfl
  rw [e0] at e
  refine ask_of hT rfl ?_
  generalize pad (row (numP p n)) = R at *
  simp -implicitDefEqProofs [ir_spec_l01Of, ir_spec_l01Of_B, e]

/-! ### equality of arrays -/
theorem beqs_ints (k : IntKind) : ∀ {l m : List Int}, l.length = m.length → D.beqs .int (ints k l) (ints k m) = some (decide (l = m))
  | [], [], _ => by simp [D.beqs, ints]
  | x :: l, y :: m, h => by
    have e : D.beqs .int (ints k (x :: l)) (ints k (y :: m)) = (D.beq .int (.int k x) (.int k y)).bind fun b => if b then D.beqs .int (ints k l) (ints k m) else some false := rfl
    rw [e]
    have e2 : D.beq .int (.int k x) (.int k y) = some (decide (x = y)) := by simp [D.beq]
    rw [e2, Option.bind_some, beqs_ints k (by simpa using h)]
    by_cases h1 : x = y
    · subst h1; simp
    · simp [h1]
theorem beq_P {l m : List Int} (hl : l.length = 64) (hm : m.length = 64) : D.beq (.arr 64 .leaf .int) (D.arr 64 .leaf (ints .u8 l)) (D.arr 64 .leaf (ints .u8 m)) = some (decide (l = m)) := by
  have e : D.beq (.arr 64 .leaf .int) (D.arr 64 .leaf (ints .u8 l)) (D.arr 64 .leaf (ints .u8 m)) = if 64 = 64 ∧ 64 = 64 ∧ Sh.beq .leaf .leaf ∧ Sh.beq .leaf .leaf then D.beqs .int (ints .u8 l) (ints .u8 m) else none := rfl
  rw [e, if_pos ⟨rfl, rfl, rfl, rfl⟩, beqs_ints _ (by omega)]
theorem pad_row_inj {p : Int} {a b : Fp p} (ha : a.len ≤ 64) (hb : b.len ≤ 64) : pad (row a) = pad (row b) ↔ a = b := by
  constructor
  · intro h
    rw [← polOf_pad ha, h, polOf_pad hb]
  · rintro rfl; rfl
theorem beq_poly {p : Int} {a b : Fp p} (_ha : a.len ≤ 64) (_hb : b.len ≤ 64) : D.beq (.arr 64 .leaf .int) (D.arr 64 .leaf (ints .u8 (pad (row a)))) (D.arr 64 .leaf (ints .u8 (pad (row b)))) = some (decide (pad (row a) = pad (row b))) := beq_P (pad_length _) (pad_length _)

/-! ### the reference's factors -/
section
variable {p : Int} [IsP p]
structure SInv (a0 : Fp p) (k : Int) (a : Fp p) (out : Facs p) : Prop where
  ne : a ≠ 0
  eq : a0 = a * prodF out
  ok : FacOk out
  so : out.Pairwise fun x y => numOf x.1 < numOf y.1
  lt : ∀ x ∈ out, numOf x.1 < k
  ge : ∀ q, Irr q → Monic q → Dv q a → k ≤ numOf q
  ln : out.length + a.len ≤ 13
structure SEnd (a0 a : Fp p) (out : Facs p) : Prop where
  ne : a ≠ 0
  eq : a0 = a * prodF out
  ok : FacOk out
  so : out.Pairwise fun x y => numOf x.1 < numOf y.1
  irr : 2 ≤ a.len → Irr a ∧ ∀ x ∈ out, numOf x.1 < numOf (mon a)
  ln : out.length + a.len ≤ 13

theorem mon_irr_dv {q a : Fp p} (hq : Irr q) (h : Dv q a) : Dv (mon q) a := (mon_dv hq.ne).2 h
theorem SInv.small {a0 a : Fp p} {n : Nat} {k : Int} {out : Facs p} (h : SInv a0 k a out) (_hn : n ≤ 12) (hk : p ^ n ≤ k) : NoSmall n a := by
  intro q hq hd
  have h1 := h.ge _ hq.mon (mon_monic hq.ne) (mon_irr_dv hq hd)
  have h2 := numOf_in (mon q)
  rw [mon_len hq.ne] at h2
  apply Classical.byContradiction
  intro hx
  have := ipow_mono (p := p) (by have := IsP.pos (p := p); omega) (show q.len ≤ n by omega)
  omega
theorem SInv.end' {a0 a : Fp p} {n : Nat} {k : Int} {out : Facs p} (h : SInv a0 k a out) (hn : n ≤ 12) (hk : p ^ n ≤ k) (hs : a.len < 2 * n + 1) : SEnd a0 a out :=
  ⟨h.ne, h.eq, h.ok, h.so, fun hl => by
    have hi := irr_of_noSmall (h.small hn hk) hl hs
    have h1 := h.ge _ hi.mon (mon_monic hi.ne) ((mon_dv hi.ne).2 (.refl a))
    exact ⟨hi, fun x hx => by have := h.lt x hx; omega⟩, h.ln⟩
theorem SInv.step {a0 a : Fp p} {n : Nat} {k : Int} {out : Facs p} (h : SInv a0 k a out) (hn1 : 1 ≤ n) (hn : n ≤ 12) (hk : p ^ n ≤ k) (hk2 : k < 2 * p ^ n) {j : Nat} {r : Fp p} (h1 : a = r * pw (numP p k) j) (h2 : ¬ Dv (numP p k) r) :
    SInv a0 (k + 1) r (if j = 0 then out else out ++ [(numP p k, j)]) := by
  obtain ⟨m1, m2⟩ := numP_monic hn hk hk2
  have hb := ppow_le (p := p) hn
  have hpos := ppow_pos (p := p) n
  have hnum : numOf (numP p k) = k := numOf_numP ⟨by omega, by omega⟩
  have hr0 : r ≠ 0 := fun h0 => h.ne (by rw [h1, h0, Gq.zero_mul])
  have ge' : ∀ q, Irr q → Monic q → Dv q r → k + 1 ≤ numOf q := by
    intro q hq hm hd
    have g1 := h.ge q hq hm (by rw [h1]; exact hd.mul_right _)
    have g2 : numOf q ≠ k := fun e => by
      have : q = numP p k := numOf_inj (by rw [e, hnum])
      exact h2 (this ▸ hd)
    omega
  by_cases hj : j = 0
  · subst hj
    rw [if_pos rfl]
    rw [pw, Gq.mul_one] at h1
    subst h1
    exact ⟨h.ne, h.eq, h.ok, h.so, fun x hx => by have := h.lt x hx; omega, ge', h.ln⟩
  · rw [if_neg hj]
    have hda : Dv (numP p k) a := by
      obtain ⟨i, rfl⟩ : ∃ i, j = i + 1 := ⟨j - 1, by omega⟩
      rw [h1, pw]
      exact ((Dv.refl _).mul_left _).mul_left _
    have hi : Irr (numP p k) := by
      refine Irr.of_dv (by omega) fun u hu => ?_
      have hul := hu.len m1.2
      have hu0 : u ≠ 0 := fun h0 => by
        obtain ⟨c, hc⟩ := hu
        exact m1.2 (by rw [hc, h0, Gq.zero_mul])
      have hup := Pol.len_pos hu0
      by_cases hu1 : u.len = 1
      · exact .inl hu1
      · right
        obtain ⟨q, q1, q2, q3⟩ := irr_ex u.len u (Nat.le_refl _) (by omega)
        have g1 := h.ge q q1 q2 ((q3.trans hu).trans hda)
        have g2 := q3.len hu0
        apply Classical.byContradiction
        intro hx
        have g3 := numOf_len (a := q) (b := numP p k) (by omega)
        omega
    have hlt : r.len < a.len := by
      obtain ⟨i, rfl⟩ : ∃ i, j = i + 1 := ⟨j - 1, by omega⟩
      have hi0 := pw_ne hi.ne i
      have l1 := Pol.len_mul hi0 hi.ne
      have l2 := Pol.len_mul hr0 (Pol.mul_ne hi0 hi.ne)
      have l3 := Pol.len_pos hi0
      rw [h1, pw]; omega
    refine ⟨hr0, ?_, h.ok.snoc hi m1 (by omega) fun x hx e => ?_, ?_, ?_, ge', ?_⟩
    · rw [h.eq, prodF_snoc]
      conv => lhs; rw [h1]
      exact ring_of [r, pw (numP p k) j, prodF out] rfl
    · have := h.lt x hx
      rw [e, hnum] at this; omega
    · rw [List.pairwise_append]
      refine ⟨h.so, List.pairwise_singleton _ _, fun x hx y hy => ?_⟩
      simp at hy; subst hy
      have := h.lt x hx
      rw [hnum]; exact this
    · intro x hx
      rcases List.mem_append.1 hx with hx | hx
      · have := h.lt x hx; omega
      · simp at hx; subst hx; rw [hnum]; omega
    · have := h.ln
      simp; omega
theorem SInv.next {a0 a : Fp p} {n : Nat} {out : Facs p} (h : SInv a0 (2 * p ^ n) a out) (hn : n ≤ 11) : SInv a0 (p ^ (n + 1)) a out := by
  refine ⟨h.ne, h.eq, h.ok, h.so, fun x hx => ?_, fun q hq hm hd => ?_, h.ln⟩
  · have := h.lt x hx
    have := ppow_succ (p := p) n
    omega
  · have h1 := h.ge q hq hm hd
    have hq0 := Pol.len_pos hm.2
    rcases Nat.lt_or_ge (n + 1) q.len with h2 | h2
    · obtain ⟨d, hd'⟩ : ∃ d, q.len = d + 1 := ⟨q.len - 1, by omega⟩
      have hl := hd.len h.ne
      have hln := h.ln
      have h3 := numOf_monic (n := d) (by omega) hm hd'
      have := ipow_mono (p := p) (by have := IsP.pos (p := p); omega) (show n + 1 ≤ d by omega)
      omega
    · exfalso
      obtain ⟨d, hd'⟩ : ∃ d, q.len = d + 1 := ⟨q.len - 1, by omega⟩
      have h3 := numOf_monic (n := d) (by omega) hm hd'
      have := ipow_mono (p := p) (by have := IsP.pos (p := p); omega) (show d ≤ n by omega)
      omega
theorem SInv.init {a : Fp p} (ha : a ≠ 0) (hl : a.len ≤ 13) : SInv a (p ^ 1) a [] :=
  ⟨ha, (Gq.mul_one a).symm, ⟨by simp, .nil⟩, .nil, by simp, fun q hq hm _ => by
    have h1 := hq.len
    obtain ⟨d, hd'⟩ : ∃ d, q.len = d + 1 := ⟨q.len - 1, by omega⟩
    by_cases hd12 : d ≤ 12
    · have h3 := numOf_monic (n := d) hd12 hm hd'
      have := ipow_mono (p := p) (by have := IsP.pos (p := p); omega) (show 1 ≤ d by omega)
      omega
    · have h4 := numOf_len (a := numP p (p ^ 1)) (b := q) (by
        have := (numP_monic (p := p) (n := 1) (by omega) (Int.le_refl _) (by have := ppow_pos (p := p) 1; omega)).2
        omega)
      have h5 : numOf (numP p (p ^ 1)) = p ^ 1 := numOf_numP ⟨Int.le_of_lt (ppow_pos 1), by have := ppow_le (p := p) (n := 1) (by omega); omega⟩
      omega, by simpa using hl⟩
theorem SEnd.fac {a0 a : Fp p} {out : Facs p} (h : SEnd a0 a out) (h0 : a0 ≠ 0) : Pe.fac a0 = if 2 ≤ a.len then out ++ [(mon a, 1)] else out := by
  apply fac_eq h0
  have hP := prodF_monic h.ok
  have hld : a0.ld = a.ld := by rw [h.eq, Pol.ld_mul h.ne hP.2, hP.1, Gq.mul_one]
  split
  · rename_i hl
    obtain ⟨hi, hx⟩ := h.irr hl
    refine ⟨h.ok.snoc hi.mon (mon_monic h.ne) (Nat.le_refl 1) fun x hx' e => ?_, ?_, ?_⟩
    · have := hx x hx'
      rw [e] at this; omega
    · rw [List.pairwise_append]
      refine ⟨h.so, List.pairwise_singleton _ _, fun x hx' y hy => ?_⟩
      simp at hy; subst hy; exact hx x hx'
    · rw [prodF_snoc, hld]
      show a0 = Pol.C a.ld * (prodF out * pw (mon a) 1)
      rw [pw_1, h.eq]
      conv => lhs; rw [eq_mon h.ne]
      exact ring_of [Pol.C a.ld, mon a, prodF out] rfl
  · rename_i hl
    have hp := Pol.len_pos h.ne
    obtain ⟨c, hc, rfl⟩ := unit_of_len (show a.len = 1 by omega)
    refine ⟨h.ok, h.so, ?_⟩
    rw [hld, Pol.ld_C hc]; exact h.eq
end
end Pe

namespace Pe
open Go Gq
variable {T : Nat → Option Fn} {A : Oracle}

abbrev facSh8 : Sh := .st [.arr 64 .leaf, .leaf]
noncomputable abbrev facP {p : Int} (x : Fp p × Nat) : D := .st [.arr 64 .leaf, .leaf] [(D.arr 64 .leaf (ints .u8 (pad (row x.1)))), (D.int .i64 x.2)]

section
variable {p : Int} [IsP p]
/-- Divided as often as it can be. -/
theorem l_sSp0 {O : Oracle} (hdv : K_sDivide O) (hdg : K_sDeg O) {m : Fp p} {n : Nat} (hm : m ≠ 0) (hml : m.len = n + 1) (hn1 : 1 ≤ n) (hn : n ≤ 12) {st kv : V} {ob : Blk} (hst : st.refs = [1]) (hkv : kv.refs = []) : ∀ (f : Nat) (a : Fp p) (i : Nat), a.len ≤ f → a ≠ 0 → a.len ≤ 13 → i + f ≤ 1000 → ∃ (j : Nat) (r : Fp p), a = r * pw m j ∧ ¬ Dv m r ∧
    ((dn O 0 (.loop ir_spec_l02Split_L0) ⟨[(0, (.d (.int .i64 p))), (3, .ptr 0 []), (5, st), (6, (.d (.int .i64 n))), (7, kv), (8, .ptr 2 []), (9, (.d (.int .i64 i)))], [.box false (D.arr 64 .leaf (ints .u8 (pad (row a)))), ob, .box false (D.arr 64 .leaf (ints .u8 (pad (row m)))), .hole, .hole, .hole, .hole, .hole, .hole, .hole]⟩ =
      some (.exit 4, ⟨[(0, (.d (.int .i64 p))), (3, .ptr 0 []), (5, st), (6, (.d (.int .i64 n))), (7, kv), (8, .ptr 2 []), (9, (.d (.int .i64 ((i + j : Nat))))), (47, (.d (.bool false)))], [.box false (D.arr 64 .leaf (ints .u8 (pad (row r)))), ob, .box false (D.arr 64 .leaf (ints .u8 (pad (row m)))), .hole, .hole, .hole, .hole, .hole, .hole, .hole]⟩)) ∨
    (∃ q : List Int, dn O 0 (.loop ir_spec_l02Split_L0) ⟨[(0, (.d (.int .i64 p))), (3, .ptr 0 []), (5, st), (6, (.d (.int .i64 n))), (7, kv), (8, .ptr 2 []), (9, (.d (.int .i64 i)))], [.box false (D.arr 64 .leaf (ints .u8 (pad (row a)))), ob, .box false (D.arr 64 .leaf (ints .u8 (pad (row m)))), .hole, .hole, .hole, .hole, .hole, .hole, .hole]⟩ =
      some (.exit 4, ⟨[(0, (.d (.int .i64 p))), (3, .ptr 0 []), (5, st), (6, (.d (.int .i64 n))), (7, kv), (8, .ptr 2 []), (9, (.d (.int .i64 ((i + j : Nat))))), (10, .ptr 3 []), (57, (.d (.bool true)))], [.box false (D.arr 64 .leaf (ints .u8 (pad (row r)))), ob, .box false (D.arr 64 .leaf (ints .u8 (pad (row m)))), .box false (D.arr 64 .leaf (ints .u8 q)), .hole, .hole, .hole, .hole, .hole, .hole]⟩)))
  | 0, a, i, hf, ha, _, _ => absurd (Pol.len_zero_iff.1 (by omega)) ha
  | f + 1, a, i, hf, ha, hl13, hi => by
    have e1 := hdg p a (by omega)
    have hap := Pol.len_pos ha
    by_cases hlt : a.len < n + 1
    · refine ⟨0, a, (Gq.mul_one a).symm, fun h => by have := h.len ha; omega, .inl (dn_stop ?_)⟩
      have h1 : ¬ (n : Int) ≤ (a.len : Int) - 1 := by omega
      simp -implicitDefEqProofs [ir_spec_l02Split_L0, dn_cond, e1, h1, hst, hkv]
    · have h1 : (n : Int) ≤ (a.len : Int) - 1 := by omega
      have e2 := hdv p a m hm (by omega) (by omega)
      have hml2 : m.len ≤ 64 := by omega
      have hlr := Pol.len_mod a hm
      have e3 := beq_poly (p := p) (a := a % m) (b := 0) (by omega) (by rw [Pol.len_zero]; omega)
      rw [row_zero] at e3
      have e4 : pad (row (a % m)) = pad [] ↔ a % m = 0 := by
        have := pad_row_inj (p := p) (a := a % m) (b := 0) (by omega) (by rw [Pol.len_zero]; omega)
        rwa [row_zero] at this
      by_cases h0 : a % m = 0
      · have hd := Pol.div_mod a m
        rw [h0, Gq.add_zero] at hd
        have hq : a / m ≠ 0 := fun h => ha (by rw [hd, h, Gq.zero_mul])
        have hl := Pol.len_mul hq hm
        rw [← hd] at hl
        rw [decide_eq_true (e4.2 h0)] at e3
        obtain ⟨j, r, g1, g2, g3⟩ := l_sSp0 (ob := ob) hdv hdg hm hml hn1 hn hst hkv f (a / m) (i + 1) (by omega) hq (by omega) (by omega)
        have w1 : IntKind.i64.wrap ((i : Int) + 1) = ((i + 1 : Nat) : Int) := (w64 (x := (i : Int) + 1) (by omega)).trans (by omega)
        have body : dn O 0 ir_spec_l02Split_L0 ⟨[(0, (.d (.int .i64 p))), (3, .ptr 0 []), (5, st), (6, (.d (.int .i64 n))), (7, kv), (8, .ptr 2 []), (9, (.d (.int .i64 i)))], [.box false (D.arr 64 .leaf (ints .u8 (pad (row a)))), ob, .box false (D.arr 64 .leaf (ints .u8 (pad (row m)))), .hole, .hole, .hole, .hole, .hole, .hole, .hole]⟩ =
            some (.normal, ⟨[(0, (.d (.int .i64 p))), (3, .ptr 0 []), (5, st), (6, (.d (.int .i64 n))), (7, kv), (8, .ptr 2 []), (9, (.d (.int .i64 ((i + 1 : Nat)))))], [.box false (D.arr 64 .leaf (ints .u8 (pad (row (a / m))))), ob, .box false (D.arr 64 .leaf (ints .u8 (pad (row m)))), .hole, .hole, .hole, .hole, .hole, .hole, .hole]⟩) := by
          generalize pad (row (a / m)) = R1 at *
          generalize pad (row (a % m)) = R2 at *
          generalize pad (row a) = PA at *
          generalize pad (row m) = PM at *
          simp -implicitDefEqProofs [ir_spec_l02Split_L0, dn_cond, e1, h1, e2, e3, w1, hst, hkv]
        refine ⟨j + 1, r, by rw [pw, ← Gq.mul_assoc, ← g1]; exact hd, g2, ?_⟩
        rw [show i + (j + 1) = i + 1 + j by omega]
        rcases g3 with g3 | ⟨q, g3⟩
        · exact .inl (dn_round body g3)
        · exact .inr ⟨q, dn_round body g3⟩
      · rw [decide_eq_false (mt e4.1 h0)] at e3
        refine ⟨0, a, (Gq.mul_one a).symm, fun hdv' => h0 ((dv_iff_mod hm).1 hdv'), .inr ⟨pad (row (a / m)), dn_stop ?_⟩⟩
        generalize pad (row (a / m)) = R1 at *
        generalize pad (row (a % m)) = R2 at *
        generalize pad (row a) = PA at *
        generalize pad (row m) = PM at *
        simp -implicitDefEqProofs [ir_spec_l02Split_L0, dn_cond, e1, h1, e2, e3, hst, hkv]

theorem l_sSp1 {O : Oracle} (hdv : K_sDivide O) (hdg : K_sDeg O) (hcn : K_sCount O) (hof : K_sOf O) {a0 : Fp p} {n : Nat} (hn1 : 1 ≤ n) (hn : n ≤ 12) : ∀ (f : Nat) (k : Int) (a : Fp p) (out : Facs p) (cp : Option Nat), p ^ n ≤ k → k ≤ 2 * p ^ n → (2 * p ^ n - k).toNat ≤ f → SInv a0 k a out → ∃ (k' : Int) (a' : Fp p) (out' : Facs p) (cp' : Option Nat), SInv a0 k' a' out' ∧ p ^ n ≤ k' ∧ k' ≤ 2 * p ^ n ∧ (k' = 2 * p ^ n ∨ a'.len < 2 * n + 1) ∧
    dn O 0 (.loop ir_spec_l02Split_L1) ⟨[(0, (.d (.int .i64 p))), (3, .ptr 0 []), (5, .sl 1 [] 0 out.length cp), (6, (.d (.int .i64 n))), (7, (.d (.int .i64 k)))], [.box false (D.arr 64 .leaf (ints .u8 (pad (row a)))), .sl false facSh8 (out.map facP), .hole, .hole, .hole, .hole, .hole, .hole, .hole, .hole]⟩ =
      some (.exit 2, ⟨[(0, (.d (.int .i64 p))), (3, .ptr 0 []), (5, .sl 1 [] 0 out'.length cp'), (6, (.d (.int .i64 n))), (7, (.d (.int .i64 k'))), (38, (.d (.bool false)))], [.box false (D.arr 64 .leaf (ints .u8 (pad (row a')))), .sl false facSh8 (out'.map facP), .hole, .hole, .hole, .hole, .hole, .hole, .hole, .hole]⟩)
  | f, k, a, out, cp, hk1, hk2, hf, h => by
    have hb := ppow_le (p := p) hn
    have hpos := ppow_pos (p := p) n
    have hln := h.ln
    have hap := Pol.len_pos h.ne
    have e1 := k_sCount' hcn p n hn
    have e2 := hdg p a (by omega)
    have w1 : IntKind.i64.wrap (2 * p ^ n) = 2 * p ^ n := w64 (by omega)
    have w2 : IntKind.i64.wrap (2 * (n : Int)) = 2 * (n : Int) := w64 (by omega)
    by_cases hke : k = 2 * p ^ n
    · refine ⟨k, a, out, cp, h, hk1, hk2, .inl hke, dn_stop ?_⟩
      have h1 : ¬ k < 2 * p ^ n := by omega
      generalize p ^ n = N at *
      generalize pad (row a) = PA at *
      generalize out.map facP = LD at *
      simp -implicitDefEqProofs [ir_spec_l02Split_L1, dn_cond, e1, w1, h1]
    · have h1 : k < 2 * p ^ n := by omega
      by_cases hs : a.len < 2 * n + 1
      · refine ⟨k, a, out, cp, h, hk1, hk2, .inr hs, dn_stop ?_⟩
        have h2 : ¬ 2 * (n : Int) ≤ (a.len : Int) - 1 := by omega
        generalize p ^ n = N at *
        generalize pad (row a) = PA at *
        generalize out.map facP = LD at *
        simp -implicitDefEqProofs [ir_spec_l02Split_L1, dn_cond, e1, e2, w1, w2, h1, h2]
      · cases f with
        | zero => omega
        | succ f =>
          have h2 : 2 * (n : Int) ≤ (a.len : Int) - 1 := by omega
          obtain ⟨m1, m2⟩ := numP_monic hn hk1 h1
          have e3 := hof p k (by omega) (by omega)
          obtain ⟨j, r, g1, g2, g3⟩ := l_sSp0 hdv hdg (m := numP p k) m1.2 m2 hn1 hn (st := .sl 1 [] 0 out.length cp) (kv := (.d (.int .i64 k))) (ob := .sl false facSh8 (out.map facP)) rfl rfl a.len a 0 (Nat.le_refl _) h.ne (by omega) (by omega)
          have hstep := h.step hn1 hn hk1 h1 g1 g2
          have w3 : IntKind.i64.wrap (k + 1) = k + 1 := w64 (by omega)
          have e0 : ((0 : Nat) : Int) = 0 := rfl
          have h8 : (out.length + 1) * 72 ≤ 1099511627776 := by omega
          have ht : (out.map facP).take out.length = out.map facP := List.take_of_length_le (by simp)
          have hL : (out.map facP).length = out.length := by simp
          rw [e0, Nat.zero_add] at g3
          by_cases hj : j = 0
          · subst hj
            rw [if_pos rfl] at hstep
            obtain ⟨k', a', out', cp', i1, i2, i3, i4, e⟩ := l_sSp1 hdv hdg hcn hof hn1 hn f (k + 1) r out cp (by omega) (by omega) (by omega) hstep
            refine ⟨k', a', out', cp', i1, i2, i3, i4, dn_round ?_ e⟩
            rw [e0] at g3
            generalize p ^ n = N at *
            generalize pad (row a) = PA at *
            generalize pad (row r) = PR at *
            generalize pad (row (numP p k)) = PM at *
            generalize out.map facP = LD at *
            rcases g3 with g3 | ⟨q, g3⟩
            · simp -implicitDefEqProofs [ir_spec_l02Split_L1, dn_cond, e1, e2, e3, w1, w2, w3, h1, h2, g3]
            · simp -implicitDefEqProofs [ir_spec_l02Split_L1, dn_cond, e1, e2, e3, w1, w2, w3, h1, h2, g3]
          · rw [if_neg hj] at hstep
            obtain ⟨k', a', out', cp', i1, i2, i3, i4, e⟩ := l_sSp1 hdv hdg hcn hof hn1 hn f (k + 1) r (out ++ [(numP p k, j)]) none (by omega) (by omega) (by omega) hstep
            refine ⟨k', a', out', cp', i1, i2, i3, i4, dn_round ?_ e⟩
            have o1 : (out ++ [(numP p k, j)]).map facP = out.map facP ++ [facP (numP p k, j)] := by simp
            have o2 : (out ++ [(numP p k, j)]).length = out.length + 1 := by simp
            have hj0 : 0 < j := by omega
            rw [o1, o2]
            simp only [facP]
            have hfp : (out.map fun x : Fp p × Nat => D.st [.arr 64 .leaf, .leaf] [(D.arr 64 .leaf (ints .u8 (pad (row x.1)))), (D.int .i64 x.2)]) = out.map facP := rfl
            rw [hfp]
            generalize p ^ n = N at *
            generalize pad (row a) = PA at *
            generalize pad (row r) = PR at *
            generalize pad (row (numP p k)) = PM at *
            generalize out.map facP = LD at *
            rcases g3 with g3 | ⟨q, g3⟩
            · simp -implicitDefEqProofs [ir_spec_l02Split_L1, dn_cond, e1, e2, e3, w1, w2, w3, h1, h2, g3, hj0, h8, ht, hL, List.replicate]
            · simp -implicitDefEqProofs [ir_spec_l02Split_L1, dn_cond, e1, e2, e3, w1, w2, w3, h1, h2, g3, hj0, h8, ht, hL, List.replicate]
end
end Pe

namespace Pe
open Go
def ir_spec_l08Odd_B : Cd :=
  .seq (.region [⟨some 4, .box false 0 (.t 1), none, []⟩,
  ⟨some 6, .mv (.c (.int .i64 0)), none, []⟩] [0, 2, 4])
  (.seq (.block 0 (.seq (.region [⟨some 8, .mv (.t 0), none, []⟩,
  ⟨some 9, .load (.arr 64 .leaf) (.t 4), none, []⟩,
  ⟨some 10, .buildSl false 1 (.arr 64 .leaf) (.arr 64 .leaf z64) 1 [(0, (.t 9))], none, []⟩,
  ⟨some 11, .call .flat [] (.f F_spec_l01Code) [(.t 8), (.t 10)], none, []⟩,
  ⟨some 12, .bin .neq (.t 11) (.c (.int .i64 0)), none, []⟩,
  ⟨some 7, .mv (.t 12), none, []⟩] [0, 2, 4, 7])
  (.cond (.t 7)
  (.seq (.region [⟨some 6, .mv (.c (.int .i64 1)), none, []⟩] [6])
  (.ret))
  (.seq (.region [⟨some 14, .mv (.t 0), none, []⟩,
  ⟨some 15, .bin .eql (.t 14) (.c (.int .i64 2)), none, []⟩,
  ⟨some 16, .mv (.t 15), none, []⟩,
  ⟨some 17, .load (.arr 64 .leaf) (.t 4), some (16, false), []⟩,
  ⟨some 18, .call .flat [] (.f F_spec_l01Monic) [(.t 17)], some (16, false), []⟩,
  ⟨some 19, .un .not (.t 18), some (16, false), []⟩,
  ⟨some 20, .pick (.t 16) (.c (.bool true)) (.t 19), none, []⟩,
  ⟨some 21, .mv (.t 20), none, []⟩,
  ⟨some 22, .load (.arr 64 .leaf) (.t 4), some (21, false), []⟩,
  ⟨some 23, .call .flat [] (.f F_spec_l01Deg) [(.t 22)], some (21, false), []⟩,
  ⟨some 24, .mv (.t 2), some (21, false), []⟩,
  ⟨some 25, .call .flat [] (.f F_spec_l01In) [(.t 23), (.c (.int .i64 1)), (.t 24)], some (21, false), []⟩,
  ⟨some 26, .un .not (.t 25), some (21, false), []⟩,
  ⟨some 27, .pick (.t 21) (.c (.bool true)) (.t 26), none, []⟩,
  ⟨some 13, .mv (.t 27), none, []⟩] [13])
  (.cond (.t 13)
  (.seq (.region [⟨some 6, .mv (.c (.int .i64 2)), none, []⟩] [6])
  (.ret))
  (.skip))))))
  (.seq (.region [⟨some 6, .mv (.c (.int .i64 0)), none, []⟩] [6])
  (.ret)))
def ir_spec_l08Odd : Fn :=
  { nparams := 3, nblk := 2, results := [.tmp 6], body := ir_spec_l08Odd_B }
def ir_spec_l08Quadratic_L0 : Cd :=
  .seq (.seq (.region [⟨some 14, .mv (.t 9), none, []⟩,
  ⟨some 15, .mv (.t 0), none, []⟩,
  ⟨some 16, .bin .sub (.t 15) (.c (.int .i64 1)), none, []⟩,
  ⟨some 17, .bin .quo (.t 16) (.c (.int .i64 2)), none, []⟩,
  ⟨some 18, .bin .lss (.t 14) (.t 17), none, []⟩] [0, 7, 8, 9, 18])
  (.cond (.t 18)
  (.skip)
  (.exit 0)))
  (.seq (.block 1 (.region [⟨some 21, .mv (.t 8), none, []⟩,
  ⟨some 22, .mv (.t 7), none, []⟩,
  ⟨some 23, .bin .mul (.t 21) (.t 22), none, []⟩,
  ⟨some 24, .mv (.t 0), none, []⟩,
  ⟨some 25, .bin .rem (.t 23) (.t 24), none, []⟩,
  ⟨some 8, .mv (.t 25), none, []⟩] [0, 7, 8, 9]))
  (.region [⟨some 19, .mv (.t 9), none, []⟩,
  ⟨some 20, .bin .add (.t 19) (.c (.int .i64 1)), none, []⟩,
  ⟨some 9, .mv (.t 20), none, []⟩] [0, 7, 8, 9]))
def ir_spec_l08Quadratic_B : Cd :=
  .seq (.region [⟨some 4, .box false 0 (.t 1), none, []⟩,
  ⟨some 5, .box false 1 (.t 2), none, []⟩,
  ⟨some 6, .mv (.c (.int .i64 0)), none, []⟩] [0, 4, 5])
  (.seq (.region [⟨some 10, .mv (.t 0), none, []⟩,
  ⟨some 11, .load (.arr 64 .leaf) (.t 4), none, []⟩,
  ⟨some 12, .load (.arr 64 .leaf) (.t 5), none, []⟩,
  ⟨some 13, .call .flat [] (.f F_spec_l02Symbol) [(.t 10), (.t 11), (.t 12)], none, []⟩,
  ⟨some 7, .mv (.t 13), none, []⟩,
  ⟨some 8, .mv (.c (.int .i64 1)), none, []⟩] [0, 7, 8])
  (.seq (.seq (.region [⟨some 9, .mv (.c (.int .i64 0)), none, []⟩] [0, 7, 8, 9])
  (.block 0 (.loop (ir_spec_l08Quadratic_L0))))
  (.seq (.seq (.region [⟨some 26, .mv (.t 8), none, []⟩,
  ⟨some 27, .mv (.t 0), none, []⟩,
  ⟨some 28, .bin .sub (.t 27) (.c (.int .i64 1)), none, []⟩,
  ⟨some 29, .bin .eql (.t 26) (.t 28), none, []⟩] [8, 29])
  (.cond (.t 29)
  (.seq (.region [⟨some 6, .mv (.c (.int .i64 (-1))), none, []⟩] [6])
  (.ret))
  (.skip)))
  (.seq (.region [⟨some 30, .mv (.t 8), none, []⟩,
  ⟨some 6, .mv (.t 30), none, []⟩] [6])
  (.ret)))))
def ir_spec_l08Quadratic : Fn :=
  { nparams := 3, nblk := 2, results := [.tmp 6], body := ir_spec_l08Quadratic_B }
def ir_spec_SymbolPolynomial_L0 : Cd :=
  .seq (.seq (.region [⟨some 37, .mv (.t 10), none, []⟩,
  ⟨some 38, .mv (.t 0), none, []⟩,
  ⟨some 39, .mv (.t 8), none, []⟩,
  ⟨some 40, .call .flat [] (.f F_spec_l01Count) [(.t 38), (.t 39)], none, []⟩,
  ⟨some 41, .bin .mul (.c (.int .i64 2)) (.t 40), none, []⟩,
  ⟨some 42, .bin .lss (.t 37) (.t 41), none, []⟩] [0, 3, 7, 8, 9, 10, 42])
  (.cond (.t 42)
  (.skip)
  (.exit 2)))
  (.seq (.block 3 (.region [⟨some 45, .mv (.t 9), none, []⟩,
  ⟨some 46, .mv (.t 0), none, []⟩,
  ⟨some 47, .mv (.t 0), none, []⟩,
  ⟨some 48, .mv (.t 10), none, []⟩,
  ⟨some 49, .call .flat [] (.f F_spec_l01Of) [(.t 47), (.t 48)], none, []⟩,
  ⟨some 50, .load (.arr 64 .leaf) (.t 3), none, []⟩,
  ⟨some 51, .call .flat [] (.f F_spec_l08Quadratic) [(.t 46), (.t 49), (.t 50)], none, []⟩,
  ⟨some 52, .bin .add (.t 45) (.t 51), none, []⟩,
  ⟨some 9, .mv (.t 52), none, []⟩] [0, 3, 7, 8, 9, 10]))
  (.region [⟨some 43, .mv (.t 10), none, []⟩,
  ⟨some 44, .bin .add (.t 43) (.c (.int .i64 1)), none, []⟩,
  ⟨some 10, .mv (.t 44), none, []⟩] [0, 3, 7, 8, 9, 10]))
def ir_spec_SymbolPolynomial_L1 : Cd :=
  .seq (.seq (.region [⟨some 28, .mv (.t 8), none, []⟩,
  ⟨some 29, .load (.arr 64 .leaf) (.t 3), none, []⟩,
  ⟨some 30, .call .flat [] (.f F_spec_l01Deg) [(.t 29)], none, []⟩,
  ⟨some 31, .bin .lss (.t 28) (.t 30), none, []⟩] [0, 3, 7, 8, 31])
  (.cond (.t 31)
  (.skip)
  (.exit 0)))
  (.seq (.block 1 (.seq (.region [⟨some 9, .mv (.c (.int .i64 0)), none, []⟩] [0, 3, 7, 8, 9])
  (.seq (.seq (.region [⟨some 34, .mv (.t 0), none, []⟩,
  ⟨some 35, .mv (.t 8), none, []⟩,
  ⟨some 36, .call .flat [] (.f F_spec_l01Count) [(.t 34), (.t 35)], none, []⟩,
  ⟨some 10, .mv (.t 36), none, []⟩] [0, 3, 7, 8, 9, 10])
  (.block 2 (.loop (ir_spec_SymbolPolynomial_L0))))
  (.region [⟨some 53, .mv (.t 7), none, []⟩,
  ⟨some 54, .mv (.t 9), none, []⟩,
  ⟨some 55, .buildSl false 2 .leaf (.int .i64 0) 1 [(0, (.t 54))], none, []⟩,
  ⟨some 56, .append .leaf 3 8 (.t 53) (.t 55), none, []⟩,
  ⟨some 7, .mv (.t 56), none, []⟩] [0, 3, 7, 8]))))
  (.region [⟨some 32, .mv (.t 8), none, []⟩,
  ⟨some 33, .bin .add (.t 32) (.c (.int .i64 1)), none, []⟩,
  ⟨some 8, .mv (.t 33), none, []⟩] [0, 3, 7, 8]))
def ir_spec_SymbolPolynomial_B : Cd :=
  .seq (.region [⟨some 3, .box false 0 (.t 1), none, []⟩,
  ⟨some 4, .mv (.c (.sl .leaf [])), none, []⟩,
  ⟨some 5, .mv (.c (.int .i64 0)), none, []⟩] [0, 3])
  (.seq (.region [⟨some 11, .mv (.t 0), none, []⟩,
  ⟨some 12, .load (.arr 64 .leaf) (.t 3), none, []⟩,
  ⟨some 13, .call .flat [] (.f F_spec_l08Odd) [(.t 11), (.t 12), (.c (.int .i64 5))], none, []⟩,
  ⟨some 6, .mv (.t 13), none, []⟩] [0, 3, 6])
  (.seq (.seq (.region [⟨some 14, .mv (.t 6), none, []⟩,
  ⟨some 15, .bin .eql (.t 14) (.c (.int .i64 0)), none, []⟩,
  ⟨some 16, .mv (.t 15), none, []⟩,
  ⟨some 17, .mv (.t 0), some (16, true), []⟩,
  ⟨some 18, .load (.arr 64 .leaf) (.t 3), some (16, true), []⟩,
  ⟨some 19, .call .flat [] (.f F_spec_l01Deg) [(.t 18)], some (16, true), []⟩,
  ⟨some 20, .bin .sub (.t 19) (.c (.int .i64 1)), some (16, true), []⟩,
  ⟨some 21, .call .flat [] (.f F_spec_l01Count) [(.t 17), (.t 20)], some (16, true), []⟩,
  ⟨some 22, .bin .gtr (.t 21) (.c (.int .i64 343)), some (16, true), []⟩,
  ⟨some 23, .pick (.t 16) (.t 22) (.c (.bool false)), none, []⟩] [0, 3, 6, 23])
  (.cond (.t 23)
  (.region [⟨some 6, .mv (.c (.int .i64 2)), none, []⟩] [0, 3, 6])
  (.skip)))
  (.seq (.seq (.region [⟨some 24, .mv (.t 6), none, []⟩,
  ⟨some 25, .bin .neq (.t 24) (.c (.int .i64 0)), none, []⟩] [0, 3, 6, 25])
  (.cond (.t 25)
  (.seq (.region [⟨some 26, .mv (.t 6), none, []⟩,
  ⟨some 4, .mv (.c (.sl .leaf [])), none, []⟩,
  ⟨some 5, .mv (.t 26), none, []⟩] [4, 5])
  (.ret))
  (.skip)))
  (.seq (.region [⟨some 27, .buildSl false 1 .leaf (.int .i64 0) 0 [], none, []⟩,
  ⟨some 7, .mv (.t 27), none, []⟩] [0, 3, 7])
  (.seq (.seq (.region [⟨some 8, .mv (.c (.int .i64 0)), none, []⟩] [0, 3, 7, 8])
  (.block 0 (.loop (ir_spec_SymbolPolynomial_L1))))
  (.seq (.region [⟨some 57, .mv (.t 7), none, []⟩,
  ⟨some 4, .mv (.t 57), none, []⟩,
  ⟨some 5, .mv (.c (.int .i64 0)), none, []⟩] [4, 5])
  (.ret)))))))
def ir_spec_SymbolPolynomial : Fn :=
  { nparams := 2, nblk := 4, results := [.tmp 4, .tmp 5], body := ir_spec_SymbolPolynomial_B }
def ir_spec_ClassSum_L0 : Cd :=
  .seq (.seq (.region [⟨some 16, .mv (.t 9), none, []⟩,
  ⟨some 17, .mv (.t 6), none, []⟩,
  ⟨some 18, .len false (.t 17), none, []⟩,
  ⟨some 19, .bin .lss (.t 16) (.t 18), none, []⟩] [6, 7, 8, 9, 19])
  (.cond (.t 19)
  (.skip)
  (.exit 0)))
  (.seq (.block 1 (.region [⟨some 22, .mv (.t 8), none, []⟩,
  ⟨some 23, .mv (.t 6), none, []⟩,
  ⟨some 24, .mv (.t 9), none, []⟩,
  ⟨some 25, .idxA none .leaf (.t 23) (.t 24), none, []⟩,
  ⟨some 26, .load .leaf (.t 25), none, []⟩,
  ⟨some 27, .bin .add (.t 22) (.t 26), none, []⟩,
  ⟨some 8, .mv (.t 27), none, []⟩] [6, 7, 8, 9]))
  (.region [⟨some 20, .mv (.t 9), none, []⟩,
  ⟨some 21, .bin .add (.t 20) (.c (.int .i64 1)), none, []⟩,
  ⟨some 9, .mv (.t 21), none, []⟩] [6, 7, 8, 9]))
def ir_spec_ClassSum_B : Cd :=
  .seq (.region [⟨some 3, .box false 0 (.t 1), none, []⟩,
  ⟨some 4, .mv (.c (.int .i64 0)), none, []⟩,
  ⟨some 5, .mv (.c (.int .i64 0)), none, []⟩] [0, 3])
  (.seq (.region [⟨some 11, .mv (.t 0), none, []⟩,
  ⟨some 12, .load (.arr 64 .leaf) (.t 3), none, []⟩,
  ⟨some 13, .call .plain [] (.f F_spec_SymbolPolynomial) [(.t 11), (.t 12)], none, []⟩,
  ⟨some 10, .mv (.t 13), none, []⟩,
  ⟨some 14, .ext (.t 10) 0, none, []⟩,
  ⟨some 15, .ext (.t 10) 1, none, []⟩,
  ⟨some 6, .mv (.t 14), none, []⟩,
  ⟨some 7, .mv (.t 15), none, []⟩] [6, 7])
  (.seq (.region [⟨some 8, .mv (.c (.int .i64 0)), none, []⟩] [6, 7, 8])
  (.seq (.seq (.region [⟨some 9, .mv (.c (.int .i64 0)), none, []⟩] [6, 7, 8, 9])
  (.block 0 (.loop (ir_spec_ClassSum_L0))))
  (.seq (.region [⟨some 28, .mv (.t 8), none, []⟩,
  ⟨some 29, .mv (.t 7), none, []⟩,
  ⟨some 4, .mv (.t 28), none, []⟩,
  ⟨some 5, .mv (.t 29), none, []⟩] [4, 5])
  (.ret)))))
def ir_spec_ClassSum : Fn :=
  { nparams := 2, nblk := 1, results := [.tmp 4, .tmp 5], body := ir_spec_ClassSum_B }
end Pe

namespace Pe
open Go Gq
variable {T : Nat → Option Fn} {A : Oracle}

section
variable {p : Int} [IsP p]
theorem l_sSp2 {O : Oracle} (hdv : K_sDivide O) (hdg : K_sDeg O) (hcn : K_sCount O) (hof : K_sOf O) {a0 : Fp p} : ∀ (f n : Nat) (a : Fp p) (out : Facs p) (cp : Option Nat), 1 ≤ n → n + f = 9 → (SInv a0 (p ^ n) a out ∨ (SEnd a0 a out ∧ a.len < 2 * n + 1)) → ∃ (n' : Int) (a' : Fp p) (out' : Facs p) (cp' : Option Nat), SEnd a0 a' out' ∧
    dn O 0 (.loop ir_spec_l02Split_L2) ⟨[(0, (.d (.int .i64 p))), (3, .ptr 0 []), (5, .sl 1 [] 0 out.length cp), (6, (.d (.int .i64 n)))], [.box false (D.arr 64 .leaf (ints .u8 (pad (row a)))), .sl false facSh8 (out.map facP), .hole, .hole, .hole, .hole, .hole, .hole, .hole, .hole]⟩ =
      some (.exit 0, ⟨[(0, (.d (.int .i64 p))), (3, .ptr 0 []), (5, .sl 1 [] 0 out'.length cp'), (6, (.d (.int .i64 n'))), (20, (.d (.bool false)))], [.box false (D.arr 64 .leaf (ints .u8 (pad (row a')))), .sl false facSh8 (out'.map facP), .hole, .hole, .hole, .hole, .hole, .hole, .hole, .hole]⟩)
  | f, n, a, out, cp, hn1, hf, h => by
    have hln : out.length + a.len ≤ 13 := by
      rcases h with h | h
      · exact h.ln
      · exact h.1.ln
    have hne : a ≠ 0 := by
      rcases h with h | h
      · exact h.ne
      · exact h.1.ne
    have e2 := hdg p a (by omega)
    have w2 : IntKind.i64.wrap (2 * (n : Int)) = 2 * (n : Int) := w64 (by omega)
    by_cases hs : a.len < 2 * n + 1
    · have hE : SEnd a0 a out := by
        rcases h with h | h
        · exact h.end' (by omega) (Int.le_refl _) hs
        · exact h.1
      refine ⟨n, a, out, cp, hE, dn_stop ?_⟩
      have h2 : ¬ 2 * (n : Int) ≤ (a.len : Int) - 1 := by omega
      generalize pad (row a) = PA at *
      generalize out.map facP = LD at *
      simp -implicitDefEqProofs [ir_spec_l02Split_L2, dn_cond, e2, w2, h2]
    · have hI : SInv a0 (p ^ n) a out := by
        rcases h with h | h
        · exact h
        · exact absurd h.2 hs
      cases f with
      | zero => omega
      | succ f =>
        have hpos := ppow_pos (p := p) n
        have h2 : 2 * (n : Int) ≤ (a.len : Int) - 1 := by omega
        have e1 := k_sCount' hcn p n (by omega)
        obtain ⟨k', a', out', cp', i1, i2, i3, i4, i5⟩ := l_sSp1 hdv hdg hcn hof hn1 (by omega) (2 * p ^ n - p ^ n).toNat (p ^ n) a out cp (Int.le_refl _) (by omega) (Nat.le_refl _) hI
        have hnext : SInv a0 (p ^ (n + 1)) a' out' ∨ (SEnd a0 a' out' ∧ a'.len < 2 * (n + 1) + 1) := by
          rcases i4 with i4 | i4
          · rw [i4] at i1
            exact .inl (i1.next (by omega))
          · exact .inr ⟨i1.end' (by omega) i2 i4, by omega⟩
        obtain ⟨n', a2, out2, cp2, j1, j2⟩ := l_sSp2 hdv hdg hcn hof f (n + 1) a' out' cp' (by omega) (by omega) hnext
        have w3 : IntKind.i64.wrap ((n : Int) + 1) = ((n + 1 : Nat) : Int) := (w64 (x := (n : Int) + 1) (by omega)).trans (by omega)
        refine ⟨n', a2, out2, cp2, j1, dn_round ?_ j2⟩
        generalize pad (row a) = PA at *
        generalize pad (row a') = PA' at *
        generalize out.map facP = LD at *
        generalize out'.map facP = LD' at *
        simp -implicitDefEqProofs [ir_spec_l02Split_L2, dn_cond, e1, e2, w2, w3, h2, i5]
end

def K_sSplit (O : Oracle) : Prop := ∀ (p : Int) [IsP p] (a : Fp p), a ≠ 0 → a.len ≤ 13 → ask O F_spec_l02Split [(D.int .i64 p), (D.arr 64 .leaf (ints .u8 (pad (row a))))] = some (.sl facSh8 ((fac a).map facP))
theorem k_sSplit (hT : T F_spec_l02Split = some ir_spec_l02Split) (hdv : K_sDivide (den T A)) (hdg : K_sDeg (den T A)) (hcn : K_sCount (den T A)) (hof : K_sOf (den T A)) (hinv : K_sInverse (den T A)) (had : K_sAdd (den T A)) : K_sSplit (den T A) := by
  intro p i a0 h0 hl0
  have hp7 := IsP.le (p := p)
  obtain ⟨n', a, out, cp, hE, e⟩ := l_sSp2 hdv hdg hcn hof 8 1 a0 [] (some 0) (Nat.le_refl 1) rfl (.inl (SInv.init h0 hl0))
  have hf := hE.fac h0
  have hln := hE.ln
  have hap := Pol.len_pos hE.ne
  have e1 := hdg p a (by omega)
  have e00 : (([] : Facs p).length : Nat) = 0 := rfl
  have e01 : ((1 : Nat) : Int) = 1 := rfl
  rw [e00, e01, List.map_nil] at e
  rw [hf]
  refine ask_of hT rfl ?_
  by_cases hl : 2 ≤ a.len
  · rw [if_pos hl]
    obtain ⟨hirr, hlt⟩ := hE.irr hl
    have hr := rep_in a.ld
    have hld : rep a.ld ≠ 0 := fun h0 => Pol.ld_ne hE.ne (rep_eq_zero.1 h0)
    have e3 := hinv p (rep a.ld) (by omega) hr.2
    have hin := inv_in p (rep a.ld)
    have w1 : IntKind.i64.wrap (inv p (rep a.ld)) = inv p (rep a.ld) := w64 (by omega)
    have hbx : (pad (row a))[a.len - 1]? = some (rep a.ld) := by rw [pad_get _ _ (by omega), row_cf]; rfl
    have hbx' : ((a.len : Int) - 1).toNat = a.len - 1 := by omega
    have hbx2 : (1 : Int) ≤ (a.len : Int) := by omega
    have hbx4 : (1 : Int) < (a.len : Int) := by omega
    have hbx3 : a.len - 1 < 64 := by omega
    have e4 := had p (inv p (rep a.ld)) 0 a (by omega) (by omega) (by rw [Pol.len_zero]; omega) (by omega)
    rw [finv_rep _ (Pol.ld_ne hE.ne), Gq.zero_add, row_zero] at e4
    have e4' : ask (den T A) F_spec_l01Add [(D.int .i64 p), (D.arr 64 .leaf (ints .u8 (pad []))), (D.arr 64 .leaf (ints .u8 (pad (row a)))), (D.int .i64 (inv p (rep a.ld)))] = some (D.arr 64 .leaf (ints .u8 (pad (row (mon a))))) := e4
    have h8 : (out.length + 1) * 72 ≤ 1099511627776 := by omega
    have ht : (out.map facP).take out.length = out.map facP := List.take_of_length_le (by simp)
    have hL : (out.map facP).length = out.length := by simp
    have o1 : (out ++ [(mon a, 1)]).map facP = out.map facP ++ [facP (mon a, 1)] := by simp
    have w2 : IntKind.i64.wrap ((out.length : Int) - 1) = (out.length : Int) - 1 := w64 (by omega)
    have wm : IntKind.i64.wrap (-1) = -1 := w64 (by omega)
    rw [o1]
    have ht2 : (out.map facP ++ [facP (mon a, 1)]).take (out.length + 1) = out.map facP ++ [facP (mon a, 1)] := List.take_of_length_le (by simp)
    have hL2 : (out.map facP ++ [facP (mon a, 1)]).length = out.length + 1 := by simp
    by_cases ho : out = []
    · subst ho
      simp only [facP] at *
      generalize pad (row a) = PA at *
      generalize pad (row (mon a)) = PM at *
      simp -implicitDefEqProofs [ir_spec_l02Split, ir_spec_l02Split_B, dn_cond, e, e1, e3, e4', w1, hbx, hbx', hbx2, hbx3, hbx4, wm, List.replicate]
    · have hpo : 0 < out.length := List.length_pos_iff.2 ho
      obtain ⟨x, hxe⟩ : ∃ x, out[out.length - 1]? = some x := ⟨_, List.getElem?_eq_getElem (by omega)⟩
      have hx : (out.map facP)[out.length - 1]? = some (facP x) := by rw [List.getElem?_map, hxe]; rfl
      have hmem : x ∈ out := List.mem_of_getElem? hxe
      have hne : x.1 ≠ mon a := fun h => by
        have := hlt _ hmem
        rw [h] at this; omega
      have hxl : x.1.len ≤ 13 := by
        have h1 : Dv x.1 a0 := by
          obtain ⟨r, h2, _⟩ := prodF_out hE.ok (show (x.1, x.2) ∈ out from hmem)
          obtain ⟨k, hk⟩ : ∃ k, x.2 = k + 1 := ⟨x.2 - 1, by have := (hE.ok.irr _ hmem).2.2; omega⟩
          rw [hE.eq, h2, hk, pw]
          exact (((Dv.refl _).mul_left _).mul_right _).mul_left _
        have := h1.len h0
        omega
      have e6 := beq_poly (p := p) (a := x.1) (b := mon a) (by omega) (by rw [mon_len hE.ne]; omega)
      rw [decide_eq_false (mt (pad_row_inj (p := p) (by omega) (by rw [mon_len hE.ne]; omega)).1 hne)] at e6
      have t1 : (1 : Int) ≤ (out.length : Int) := by omega
      have t2 : ((out.length : Int) - 1).toNat = out.length - 1 := by omega
      have t3 : out.length - 1 < out.length := by omega
      simp only [facP] at hx ht2 ⊢
      generalize pad (row a) = PA at *
      generalize pad (row (mon a)) = PM at *
      generalize pad (row x.1) = PO at *
      clear hxe hmem hxl hne hlt o1 hf hE
      generalize out.map facP = LD at *
      have h9 : out.length - 1 < LD.length := by omega
      have hx' := Option.some.inj ((List.getElem?_eq_getElem h9).symm.trans hx)
      simp -implicitDefEqProofs [ir_spec_l02Split, ir_spec_l02Split_B, dn_cond, hx', e, e1, e3, e4', e6, w1, w2, hbx, hbx', hbx2, hbx3, hbx4, h8, ht, hL, t1, t2, t3, List.replicate]
      exact ht2
  · rw [if_neg hl]
    have h1 : ¬ (1 : Int) < (a.len : Int) := by omega
    have ht : (out.map facP).take out.length = out.map facP := List.take_of_length_le (by simp)
    have hL : (out.map facP).length = out.length := by simp
    generalize pad (row a) = PA at *
    generalize out.map facP = LD at *
    simp -implicitDefEqProofs [ir_spec_l02Split, ir_spec_l02Split_B, dn_cond, e, e1, h1, ht, hL]

/-! ### symbols -/
theorem l_sPower {O : Oracle} {p : Int} [IsP p] : ∀ (n : Nat) (out : Int), n ≤ 12 → 0 < out → out * p ^ n ≤ 1000000000000000 →
    dn O 0 (.loop ir_spec_l02Power_L0) ⟨[(0, (.d (.int .i64 p))), (1, (.d (.int .i64 n))), (5, (.d (.int .i64 out)))], []⟩ =
      some (.exit 0, ⟨[(0, (.d (.int .i64 p))), (1, (.d (.int .i64 0))), (5, (.d (.int .i64 (out * p ^ n)))), (7, (.d (.bool false)))], []⟩)
  | 0, out, _, h1, h2 => by
    rw [Int.pow_zero, Int.mul_one]
    exact dn_stop (by simp -implicitDefEqProofs [ir_spec_l02Power_L0, dn_cond])
  | n + 1, out, hn, h1, h2 => by
    have hp := IsP.pos (p := p)
    have e : out * p ^ (n + 1) = out * p * p ^ n := by rw [Int.pow_succ, Int.mul_assoc, Int.mul_comm p]
    have h3 : 1 ≤ p ^ n := ppow_pos n
    have h4 : 0 < out * p := Int.mul_pos h1 hp
    have h5 : out * p * 1 ≤ out * p * p ^ n := Int.mul_le_mul_of_nonneg_left h3 (by omega)
    rw [e] at h2 ⊢
    have h0 : (0 : Int) < (n : Int) + 1 := by omega
    have w1 : IntKind.i64.wrap (out * p) = out * p := w64 (by omega)
    have w2 : IntKind.i64.wrap (n : Int) = n := w64 (by omega)
    refine dn_round ?_ (l_sPower n (out * p) (by omega) h4 h2)
    simp -implicitDefEqProofs [ir_spec_l02Power_L0, dn_cond, h0, w1, w2]
def K_sPower (O : Oracle) : Prop := ∀ (p : Int) [IsP p] (n : Nat), n ≤ 12 → ask O F_spec_l02Power [(D.int .i64 p), (D.int .i64 n)] = some (D.int .i64 (p ^ n))
theorem k_sPower (hT : T F_spec_l02Power = some ir_spec_l02Power) : K_sPower (den T A) := by
  intro p i n hn
  have hb := ppow_le (p := p) hn
  have e := l_sPower (O := den T A) (p := p) n 1 hn (by omega) (by omega)
  rw [Int.one_mul] at e
  refine ask_of hT rfl ?_
  simp -implicitDefEqProofs [ir_spec_l02Power, ir_spec_l02Power_B, e]

section
variable {p : Int} [IsP p]
theorem l_sSym0 {O : Oracle} {own : List Int} {ld il : V} {PA : List Int} (ha : ld.refs = [] ∧ il.refs = []) (hol : own.length = 64) (how : 0 ≤ cf own 0 ∧ cf own 0 < p) : ∀ (m : Nat) (out : Int), m < 100000 → 0 ≤ out → out < p →
    dn O 0 (.loop ir_spec_l02Symbol_L0) ⟨[(0, (.d (.int .i64 p))), (4, .ptr 0 []), (7, ld), (8, (.d (.int .i64 out))), (9, il), (11, .ptr 3 []), (12, (.d (.int .i64 m)))], [.box false (D.arr 64 .leaf (ints .u8 PA)), .hole, .hole, .box false (D.arr 64 .leaf (ints .u8 own))]⟩ =
      some (.exit 2, ⟨[(0, (.d (.int .i64 p))), (4, .ptr 0 []), (7, ld), (8, (.d (.int .i64 (rp p (cf own 0) m out)))), (9, il), (11, .ptr 3 []), (12, (.d (.int .i64 0))), (45, (.d (.bool false)))], [.box false (D.arr 64 .leaf (ints .u8 PA)), .hole, .hole, .box false (D.arr 64 .leaf (ints .u8 own))]⟩)
  | 0, out, hm, h1, h2 => dn_stop (by simp -implicitDefEqProofs [ir_spec_l02Symbol_L0, dn_cond, rp, ha])
  | m + 1, out, hm, h1, h2 => by
    have hp := IsP.ge (p := p)
    have hp7 := IsP.le (p := p)
    have h0 : (0 : Int) < (m : Int) + 1 := by omega
    have hx : own[0]? = some (cf own 0) := by rw [List.getElem?_eq_getElem (by omega), cf_lt]
    have hx' : 0 < own.length := by omega
    have hx2 := Option.some.inj ((List.getElem?_eq_getElem hx').symm.trans hx)
    have gm := mul_small (x := out) (y := cf own 0) (b := 10) (c := 10) (by omega) (by omega) (by omega)
    have w0 : IntKind.i64.wrap (cf own 0) = cf own 0 := w64 (by omega)
    have w1 : IntKind.i64.wrap (out * cf own 0) = out * cf own 0 := w64 (by omega)
    have w2 : (out * cf own 0).tmod p = out * cf own 0 % p := Int.tmod_eq_emod_of_nonneg (Int.mul_nonneg h1 how.1)
    have w3 : IntKind.i64.wrap (m : Int) = m := w64 (by omega)
    have hp0 : p ≠ 0 := by omega
    refine dn_round ?_ (l_sSym0 ha hol how m (out * cf own 0 % p) (by omega) (Int.emod_nonneg _ (by omega)) (Int.emod_lt_of_pos _ (by omega)))
    generalize cf own 0 = c at *
    simp -implicitDefEqProofs [ir_spec_l02Symbol_L0, dn_cond, h0, hx', hx2, w0, w1, w2, w3, hp0, ha]

theorem l_sSym1 {O : Oracle} (hdg : K_sDeg O) (hpo : K_sPower O) (hpw : K_sPowMod O) {a m : Fp p} (hal : a.len ≤ 64) (hm : m ≠ 0) (hml : m.len ≤ 13) {L : Facs p} (hL : IsFac m L) (hLl : L.length ≤ 12) : ∀ (k i : Nat) (out : Int), i + k = L.length → 0 ≤ out → out < p →
    dn O 0 (.loop ir_spec_l02Symbol_L1) ⟨[(0, (.d (.int .i64 p))), (4, .ptr 0 []), (7, .d (.sl facSh8 (L.map facP))), (8, (.d (.int .i64 out))), (9, (.d (.int .i64 i)))], [.box false (D.arr 64 .leaf (ints .u8 (pad (row a)))), .hole, .hole, .hole]⟩ =
      some (.exit 0, ⟨[(0, (.d (.int .i64 p))), (4, .ptr 0 []), (7, .d (.sl facSh8 (L.map facP))), (8, (.d (.int .i64 (symL p a (L.drop i) out)))), (9, (.d (.int .i64 L.length))), (19, (.d (.bool false)))], [.box false (D.arr 64 .leaf (ints .u8 (pad (row a)))), .hole, .hole, .hole]⟩)
  | 0, i, out, hi, h1, h2 => by
    obtain rfl : i = L.length := by omega
    rw [List.drop_length]
    exact dn_stop (by simp -implicitDefEqProofs [ir_spec_l02Symbol_L1, dn_cond, symL])
  | k + 1, i, out, hi, h1, h2 => by
    have hp := IsP.ge (p := p)
    have hp7 := IsP.le (p := p)
    have hlt : i < L.length := by omega
    obtain ⟨q1, q2, q3, q4⟩ := hL.len hm (List.getElem_mem hlt)
    rw [List.drop_eq_getElem_cons hlt, symL]
    generalize hxe : L[i] = x at *
    have e1 := hdg p x.1 (by omega)
    have hd : ((x.1.len : Int) - 1) = ((x.1.len - 1 : Nat) : Int) := by omega
    rw [hd] at e1
    have hb := ppow_le (p := p) (n := x.1.len - 1) (by omega)
    have hpos := ppow_pos (p := p) (x.1.len - 1)
    have e2 := hpo p (x.1.len - 1) (by omega)
    have w1 : IntKind.i64.wrap (p ^ (x.1.len - 1) - 1) = p ^ (x.1.len - 1) - 1 := w64 (by omega)
    have w2 : IntKind.i64.wrap (p - 1) = p - 1 := w64 (by omega)
    have hdiv0 : 0 ≤ (p ^ (x.1.len - 1) - 1) / (p - 1) := Int.ediv_nonneg (by omega) (by omega)
    have hdiv1 : (p ^ (x.1.len - 1) - 1) / (p - 1) ≤ p ^ (x.1.len - 1) - 1 := Int.ediv_le_self _ (by omega)
    have w3 : IntKind.i64.wrap ((p ^ (x.1.len - 1) - 1).tdiv (p - 1)) = (p ^ (x.1.len - 1) - 1) / (p - 1) := by
      rw [Int.tdiv_eq_ediv_of_nonneg (by omega), w64 (by omega)]
    have hp1 : p - 1 ≠ 0 := by omega
    have e3 := hpw p a ((p ^ (x.1.len - 1) - 1) / (p - 1)) x.1 q4 hal (by omega) hdiv0 (by omega)
    have hlr := Pol.len_mod (pw a ((p ^ (x.1.len - 1) - 1) / (p - 1)).toNat) q4
    have hown : cf (pad (row (pw a ((p ^ (x.1.len - 1) - 1) / (p - 1)).toNat % x.1))) 0 = ownS p a x.1 := by rw [pad_row_cf (by omega)]; rfl
    have e5 := l_sSym0 (O := O) (own := pad (row (pw a ((p ^ (x.1.len - 1) - 1) / (p - 1)).toNat % x.1))) (ld := .d (.sl facSh8 (L.map facP))) (il := (.d (.int .i64 i))) (PA := pad (row a)) ⟨rfl, rfl⟩ (pad_length _) (by rw [hown]; exact ownS_in a x.1) x.2 out (by omega) h1 h2
    rw [hown] at e5
    have hrp := rp_in (own := ownS p a x.1) (by omega : 0 < p) x.2 out h1 h2
    have w4 : IntKind.i64.wrap ((i : Int) + 1) = ((i + 1 : Nat) : Int) := (w64 (x := (i : Int) + 1) (by omega)).trans (by omega)
    have ih := l_sSym1 (O := O) hdg hpo hpw hal hm hml hL hLl k (i + 1) (rp p (ownS p a x.1) x.2 out) (by omega) hrp.1 hrp.2
    refine dn_round ?_ ih
    have hget : (L.map facP)[i]? = some (facP x) := by rw [List.getElem?_map, List.getElem?_eq_getElem hlt, hxe]; rfl
    have hlen : (L.map facP).length = L.length := by simp
    simp only [facP] at hget
    generalize (pw a ((p ^ (x.1.len - 1) - 1) / (p - 1)).toNat % x.1) = y at *
    generalize pad (row y) = PY at *
    generalize pad (row a) = PA at *
    generalize pad (row x.1) = PX at *
    generalize x.1.len - 1 = d at *
    generalize L.map facP = LD at *
    have h9 : i < LD.length := by omega
    have hget' := Option.some.inj ((List.getElem?_eq_getElem h9).symm.trans hget)
    simp -implicitDefEqProofs [ir_spec_l02Symbol_L1, dn_cond, hlt, hlen, hget', e1, e2, w1, w2, w3, hp1, e3, e5, w4]
end
def K_sSymbol (O : Oracle) : Prop := ∀ (p : Int) [IsP p] (a m : Fp p), m ≠ 0 → m.len ≤ 13 → a.len ≤ 64 → ask O F_spec_l02Symbol [(D.int .i64 p), (D.arr 64 .leaf (ints .u8 (pad (row a)))), (D.arr 64 .leaf (ints .u8 (pad (row m))))] = some (D.int .i64 (symb p a m))
theorem k_sSymbol (hT : T F_spec_l02Symbol = some ir_spec_l02Symbol) (hsp : K_sSplit (den T A)) (hf : K_fac (den T A)) (hdg : K_sDeg (den T A)) (hpo : K_sPower (den T A)) (hpw : K_sPowMod (den T A)) : K_sSymbol (den T A) := by
  intro p i a m hm hml hal
  obtain ⟨f1, f2, _⟩ := hf p m hm hml
  have f3 := hsp p m hm hml
  have e := l_sSym1 hdg hpo hpw hal hm hml f1 f2 (fac m).length 0 1 (Nat.zero_add _) (by omega) (by have := IsP.ge (p := p); omega)
  have e0 : ((0 : Nat) : Int) = 0 := rfl
  rw [e0, List.drop_zero] at e
  have hl : ((fac m).map facP).length = (fac m).length := by simp
  refine ask_of hT rfl ?_
  unfold symb
  generalize (fac m).map facP = LD at *
  generalize pad (row a) = PA at *
  generalize pad (row m) = PM at *
  simp -implicitDefEqProofs [ir_spec_l02Symbol, ir_spec_l02Symbol_B, f3, e]
end Pe

namespace Pe
open Go Gq
variable {T : Nat → Option Fn} {A : Oracle}

def C_isSummed (O : Oracle) : Prop := ∀ (p : Int) [IsP p] (n : Nat), n < 100000 → ask O F_impl_prime_isSummed [(D.int .i64 p), (D.int .i64 n)] = some (D.bool (decide (p ^ n ≤ 343)))
theorem normL_le {p : Int} [IsP p] : ∀ (n : Nat) (out : Int), 0 < out → (normL p 343 n out ≤ 343 ↔ out * p ^ n ≤ 343)
  | 0, out, h0 => by rw [Int.pow_zero, Int.mul_one]; exact Iff.rfl
  | n + 1, out, h0 => by
    have hp := IsP.pos (p := p)
    have e : out * p ^ (n + 1) = out * p * p ^ n := by rw [Int.pow_succ, Int.mul_assoc, Int.mul_comm p]
    unfold normL
    split
    · rename_i h
      have h1 : 1 ≤ p ^ (n + 1) := ppow_pos (n + 1)
      have h2 : out * 1 ≤ out * p ^ (n + 1) := Int.mul_le_mul_of_nonneg_left h1 (by omega)
      omega
    · rw [e]
      exact normL_le n (out * p) (Int.mul_pos h0 hp)
theorem c_isSummed (hT : T F_impl_prime_isSummed = some ir_impl_prime_isSummed) (hno : C_norm (den T A)) : C_isSummed (den T A) := by
  intro p i n hn
  have e := hno p n 343 (by omega) (by omega)
  refine ask_of hT rfl ?_
  simp -implicitDefEqProofs [ir_impl_prime_isSummed, ir_impl_prime_isSummed_B, e]
  rw [normL_le n 1 (by omega), Int.one_mul]

theorem k_SymbolPolynomial (hT : T F_impl_SymbolPolynomial = some ir_impl_SymbolPolynomial) (hmc : H_monicCode (den T A)) (hro : K_rowOf (den T A)) (hdg : C_degree (den T A)) (his : C_isSummed (den T A)) (hq : K_quad (den T A)) (hmo : K_monics (den T A)) : K_SymbolPolynomial (den T A) F_impl_SymbolPolynomial := by
  intro p l hb hl
  have hc := hmc p l 5 (decide (p ≠ 2)) hb hl (by omega)
  have hr : (!decide (p = 2)) = decide (p ≠ 2) := by simp
  have e5 : ((5 : Nat) : Int) = 5 := rfl
  rw [e5] at hc
  refine ask_of hT rfl ?_
  rcases arg1 p hb hl with ⟨h1, h2⟩ | ⟨ip, a, hal, rfl⟩
  · rw [symPolyD_bad h1]
    have e1 := hc.1 h1
    generalize decide (p ≠ 2) = r at *
    simp -implicitDefEqProofs [ir_impl_SymbolPolynomial, ir_impl_SymbolPolynomial_B, dn_cond, hr, e1, ints_nil]
  · rw [symPolyD_good hal]
    have e1 := hc.2 ip a hal rfl
    generalize decide (p ≠ 2) = r at *
    by_cases h0 : monOk a 5 r = 0
    · have hM : Monic a ∧ 2 ≤ a.len ∧ a.len ≤ 5 + 1 ∧ r = true := by
        unfold monOk at h0
        split at h0
        · assumption
        · omega
      obtain ⟨hM, hl2, hl6, _⟩ := hM
      rw [h0] at e1
      have e2 := hro p a hal
      have e3 := hdg (row a) (by rw [row_length]; omega)
      rw [row_length, show ((a.len : Int) - 1) = ((a.len - 1 : Nat) : Int) by omega] at e3
      have w1 : IntKind.i64.wrap (((a.len - 1 : Nat) : Int) - 1) = ((a.len - 2 : Nat) : Int) := (w64 (x := ((a.len - 1 : Nat) : Int) - 1) (by omega)).trans (by omega)
      have e4 := his p (a.len - 2) (by omega)
      by_cases h3 : p ^ (a.len - 2) ≤ 343
      · rw [if_pos ⟨h0, h3⟩]
        rw [decide_eq_true h3] at e4
        obtain ⟨cp, e6⟩ := l_sp1 (O := den T A) hq hmo hM.2 hl6 (n := a.len - 1) (by omega) (fun d hd => by
          have := ipow_mono (p := p) (by have := IsP.pos (p := p); omega) (show d ≤ a.len - 2 by omega)
          omega) (a.len - 1) 0 (some 0) (Nat.zero_add _)
        have e00 : ((0 : Nat) : Int) = 0 := rfl
        rw [e00, List.range_zero, List.map_nil, ints_nil] at e6
        have e7 : (List.range (a.len - 1)).map (symSum p a) = symPoly p a := rfl
        rw [e7] at e6
        have hL : (symPoly p a).length = a.len - 1 := by simp [symPoly]
        have ht : (symPoly p a).take (a.len - 1) = symPoly p a := List.take_of_length_le (by omega)
        generalize symPoly p a = S at *
        generalize a.len - 1 = n at *
        simp -implicitDefEqProofs [ir_impl_SymbolPolynomial, ir_impl_SymbolPolynomial_B, dn_cond, hr, e1, e2, e3, e4, w1, e6, hL, ht]
      · rw [if_neg (fun h => h3 h.2)]
        rw [decide_eq_false h3] at e4
        generalize a.len - 1 = n at *
        simp -implicitDefEqProofs [ir_impl_SymbolPolynomial, ir_impl_SymbolPolynomial_B, dn_cond, hr, e1, e2, e3, e4, w1, ints_nil]
    · rw [if_neg (fun h => h0 h.1)]
      have h2 : monOk a 5 r = 2 := by
        unfold monOk at h0 ⊢
        split
        · rename_i h; rw [if_pos h] at h0; exact absurd rfl h0
        · rfl
      rw [h2] at e1
      simp -implicitDefEqProofs [ir_impl_SymbolPolynomial, ir_impl_SymbolPolynomial_B, dn_cond, hr, e1, ints_nil]

/-! ### class sums -/
def sumW (l : List Int) : Nat → Int
  | 0 => 0
  | n + 1 => IntKind.i64.wrap (sumW l n + cf l n)
theorem l_classSum {O : Oracle} {l : List Int} {v : V} (hv : v.refs = []) (hl : l.length < 100000) : ∀ (m i : Nat), i + m = l.length →
    dn O 0 (.loop ir_impl_ClassSum_L0) ⟨[(7, v), (8, (.d (.int .i64 (sumW l i)))), (17, (.d (.sl .leaf (ints .i64 l)))), (18, (.d (.int .i64 l.length))), (19, (.d (.int .i64 i)))], [.hole]⟩ =
      some (.exit 0, ⟨[(7, v), (8, (.d (.int .i64 (sumW l l.length)))), (17, (.d (.sl .leaf (ints .i64 l)))), (18, (.d (.int .i64 l.length))), (19, (.d (.int .i64 l.length))), (20, (.d (.bool false)))], [.hole]⟩)
  | 0, i, hi => by
    obtain rfl : i = l.length := by omega
    exact dn_stop (by simp -implicitDefEqProofs [ir_impl_ClassSum_L0, dn_cond, hv])
  | m + 1, i, hi => by
    have hlt : i < l.length := by omega
    have hx : l[i] = cf l i := (cf_lt hlt).symm
    have w4 : IntKind.i64.wrap ((i : Int) + 1) = ((i + 1 : Nat) : Int) := (w64 (x := (i : Int) + 1) (by omega)).trans (by omega)
    refine dn_round ?_ (l_classSum hv hl m (i + 1) (by omega))
    simp -implicitDefEqProofs [ir_impl_ClassSum_L0, dn_cond, hlt, hx, w4, hv, sumW]
/-- The sum of a list and the code beside it. -/
def sumD : D → D
  | .tup [.sl _ cs, c] => .tup [(D.int .i64 (sumW (cs.map D.num) cs.length)), c]
  | d => d
theorem sumD_eq (l : List Int) (c : D) : sumD (.tup [(D.sl .leaf (ints .i64 l)), c]) = .tup [(D.int .i64 (sumW l l.length)), c] := by
  show D.tup [(D.int .i64 (sumW ((ints .i64 l).map D.num) (ints .i64 l).length)), c] = _
  unfold ints
  rw [List.map_map, List.length_map]
  have : (D.num ∘ D.int .i64) = id := rfl
  rw [this, List.map_id]
def K_ClassSum (O : Oracle) (F : Nat) : Prop := ∀ (p : Int) (l : List Int), Bytes l → l.length = 64 → ask O F [(D.int .i64 p), (D.arr 64 .leaf (ints .u8 l))] = some (sumD (symPolyD p l))
theorem symPolyD_form (p : Int) {l : List Int} (hb : Bytes l) (hl : l.length = 64) : ∃ (s : List Int) (c : Int), symPolyD p l = .tup [(D.sl .leaf (ints .i64 s)), (D.int .i64 c)] ∧ s.length < 100 := by
  rcases arg1 p hb hl with ⟨h1, h2⟩ | ⟨ip, a, hal, rfl⟩
  · exact ⟨[], 1, symPolyD_bad h1, by simp⟩
  · rw [symPolyD_good hal]
    split
    · exact ⟨symPoly p a, 0, rfl, by simp [symPoly]; omega⟩
    · exact ⟨[], 2, rfl, by simp⟩
theorem k_ClassSum (hT : T F_impl_ClassSum = some ir_impl_ClassSum) (hs : K_SymbolPolynomial (den T A) F_impl_SymbolPolynomial) : K_ClassSum (den T A) F_impl_ClassSum := by
  intro p l hb hl
  have e1 := hs p l hb hl
  obtain ⟨s, c, e2, e3⟩ := symPolyD_form p hb hl
  rw [e2, sumD_eq]
  rw [e2] at e1
  have e4 := l_classSum (O := den T A) (v := (.d (.int .i64 c))) rfl (l := s) (by omega) s.length 0 (Nat.zero_add _)
  have e0 : ((0 : Nat) : Int) = 0 := rfl
  have e00 : sumW s 0 = 0 := rfl
  rw [e0, e00] at e4
  refine ask_of hT rfl ?_
  simp -implicitDefEqProofs [ir_impl_ClassSum, ir_impl_ClassSum_B, e1, e4]
end Pe

namespace Pe
open Go Gq
variable {T : Nat → Option Fn} {A : Oracle}

theorem l_sQuad {O : Oracle} {p s : Int} [IsP p] (hs : 0 ≤ s ∧ s < p) : ∀ (m : Nat) (i out : Int), i + m = (p - 1) / 2 → 0 ≤ i → 0 ≤ out → out < p →
    dn O 0 (.loop ir_spec_l08Quadratic_L0) ⟨[(0, (.d (.int .i64 p))), (7, (.d (.int .i64 s))), (8, (.d (.int .i64 out))), (9, (.d (.int .i64 i)))], [.hole, .hole]⟩ =
      some (.exit 0, ⟨[(0, (.d (.int .i64 p))), (7, (.d (.int .i64 s))), (8, (.d (.int .i64 (rp p s m out)))), (9, (.d (.int .i64 ((p - 1) / 2)))), (18, (.d (.bool false)))], [.hole, .hole]⟩)
  | m, i, out, hi, h0, h1, h2 => by
    have hp := IsP.ge (p := p)
    have hp7 := IsP.le (p := p)
    have w1 : IntKind.i64.wrap (p - 1) = p - 1 := w64 (by omega)
    have w2 : IntKind.i64.wrap ((p - 1).tdiv 2) = (p - 1) / 2 := by rw [Int.tdiv_eq_ediv_of_nonneg (by omega), w64 (by omega)]
    cases m with
    | zero =>
      obtain rfl : i = (p - 1) / 2 := by omega
      exact dn_stop (by simp -implicitDefEqProofs [ir_spec_l08Quadratic_L0, dn_cond, rp, w1, w2])
    | succ m =>
      have hlt : i < (p - 1) / 2 := by omega
      have gm := mul_small (x := out) (y := s) (b := 10) (c := 10) (by omega) (by omega) (by omega)
      have w3 : IntKind.i64.wrap (out * s) = out * s := w64 (by omega)
      have w4 : (out * s).tmod p = out * s % p := Int.tmod_eq_emod_of_nonneg (Int.mul_nonneg h1 hs.1)
      have w5 : IntKind.i64.wrap (i + 1) = i + 1 := w64 (by omega)
      have hp0 : p ≠ 0 := by omega
      refine dn_round ?_ (l_sQuad (O := O) hs m (i + 1) (out * s % p) (by omega) (by omega) (Int.emod_nonneg _ (by omega)) (Int.emod_lt_of_pos _ (by omega)))
      simp -implicitDefEqProofs [ir_spec_l08Quadratic_L0, dn_cond, hlt, w1, w2, w3, w4, w5, hp0]
def K_sQuad (O : Oracle) : Prop := ∀ (p : Int) [IsP p] (a m : Fp p), m ≠ 0 → m.len ≤ 13 → a.len ≤ 64 → ask O F_spec_l08Quadratic [(D.int .i64 p), (D.arr 64 .leaf (ints .u8 (pad (row a)))), (D.arr 64 .leaf (ints .u8 (pad (row m))))] = some (D.int .i64 (quadI p (symb p a m)))
theorem k_sQuad (hT : T F_spec_l08Quadratic = some ir_spec_l08Quadratic) (hs : K_sSymbol (den T A)) : K_sQuad (den T A) := by
  intro p i a m hm hml hal
  have hp := IsP.ge (p := p)
  have hp7 := IsP.le (p := p)
  have e1 := hs p a m hm hml hal
  have e2 := l_sQuad (O := den T A) (symb_in a m) ((p - 1) / 2).toNat 0 1 (by omega) (by omega) (by omega) (by omega)
  have w1 : IntKind.i64.wrap (p - 1) = p - 1 := w64 (by omega)
  refine ask_of hT rfl ?_
  unfold quadI
  generalize pad (row a) = PA at *
  generalize pad (row m) = PM at *
  by_cases hc : rp p (symb p a m) ((p - 1) / 2).toNat 1 = p - 1
  · rw [if_pos hc]
    rw [hc] at e2
    simp -implicitDefEqProofs [ir_spec_l08Quadratic, ir_spec_l08Quadratic_B, dn_cond, e1, e2, w1]
  · rw [if_neg hc]
    simp -implicitDefEqProofs [ir_spec_l08Quadratic, ir_spec_l08Quadratic_B, dn_cond, e1, e2, w1, hc]

def K_sOdd (O : Oracle) : Prop := ∀ (p : Int) (l : List Int) (most : Nat), Bytes l → l.length = 64 → most ≤ 100 →
  (codeP p [l] = 1 → ask O F_spec_l08Odd [(D.int .i64 p), (D.arr 64 .leaf (ints .u8 l)), (D.int .i64 most)] = some (D.int .i64 1)) ∧
  (∀ (_ip : IsP p) (a : Fp p), a.len ≤ 64 → l = pad (row a) → ask O F_spec_l08Odd [(D.int .i64 p), (D.arr 64 .leaf (ints .u8 l)), (D.int .i64 most)] = some (D.int .i64 (monOk a most (decide (p ≠ 2)))))
open Classical in
theorem k_sOdd (hT : T F_spec_l08Odd = some ir_spec_l08Odd) (hc : C_sCode (den T A)) (hmo : K_sMonic (den T A)) (hdg : K_sDeg (den T A)) (hin : C_sIn (den T A)) : K_sOdd (den T A) := by
  intro p l most hb hl hmost
  have e1 := hc p [l] (by intro x hx; simp at hx; subst hx; exact ⟨hl, hb⟩) (by simp)
  rw [show List.map arr8 [l] = [(D.arr 64 .leaf (ints .u8 l))] from rfl] at e1
  refine ⟨fun hcc => ?_, fun ip a hal hle => ?_⟩
  · rw [hcc] at e1
    refine ask_of hT rfl ?_
    simp -implicitDefEqProofs [ir_spec_l08Odd, ir_spec_l08Odd_B, dn_cond, e1, List.replicate]
  · subst hle
    rw [codeP_one] at e1
    have e2 := hmo p a hal
    have e4 := hdg p a hal
    have e5 := hin ((a.len : Int) - 1) 1 most
    refine ask_of hT rfl ?_
    unfold monOk
    generalize pad (row a) = PA at *
    by_cases hp2 : p = 2
    · rw [if_neg (fun h => by have := h.2.2.2; simp [hp2] at this)]
      simp -implicitDefEqProofs [ir_spec_l08Odd, ir_spec_l08Odd_B, hp2, List.replicate]
      subst hp2
      simp -implicitDefEqProofs [e1, dn_cond]
    · by_cases hM : Monic a
      · rw [decide_eq_true hM] at e2
        by_cases h2 : 2 ≤ a.len ∧ a.len ≤ most + 1
        · have h3 : decide ((1 : Int) ≤ (a.len : Int) - 1 ∧ (a.len : Int) - 1 ≤ most) = true := decide_eq_true (by omega)
          rw [h3] at e5
          rw [if_pos ⟨hM, h2.1, h2.2, by simp [hp2]⟩]
          simp -implicitDefEqProofs [ir_spec_l08Odd, ir_spec_l08Odd_B, dn_cond, e1, e2, e4, e5, hp2, List.replicate]
        · have h3 : decide ((1 : Int) ≤ (a.len : Int) - 1 ∧ (a.len : Int) - 1 ≤ most) = false := decide_eq_false (by omega)
          rw [h3] at e5
          rw [if_neg (fun h => h2 ⟨h.2.1, h.2.2.1⟩)]
          simp -implicitDefEqProofs [ir_spec_l08Odd, ir_spec_l08Odd_B, dn_cond, e1, e2, e4, e5, hp2, List.replicate]
      · rw [decide_eq_false hM] at e2
        rw [if_neg (fun h => hM h.1)]
        simp -implicitDefEqProofs [ir_spec_l08Odd, ir_spec_l08Odd_B, dn_cond, e1, e2, hp2, List.replicate]

theorem l_sSP0 {O : Oracle} (hcn : K_sCount O) (hof : K_sOf O) (hq : K_sQuad O) {p : Int} [IsP p] {m : Fp p} (hm : m ≠ 0) (hml : m.len ≤ 13) {d : Nat} (hd : p ^ d ≤ 343) (hd12 : d ≤ 12) {st : V} {ob : Blk} (hst : st.refs = [1]) : ∀ (k i : Nat), (i + k : Nat) = p ^ d →
    dn O 0 (.loop ir_spec_SymbolPolynomial_L0) ⟨[(0, (.d (.int .i64 p))), (3, .ptr 0 []), (7, st), (8, (.d (.int .i64 d))), (9, (.d (.int .i64 (sumZ (fun k => quadI p (symb p (numP p (p ^ d + k)) m)) i)))), (10, (.d (.int .i64 (p ^ d + i))))], [.box false (D.arr 64 .leaf (ints .u8 (pad (row m)))), ob, .hole, .hole]⟩ =
      some (.exit 2, ⟨[(0, (.d (.int .i64 p))), (3, .ptr 0 []), (7, st), (8, (.d (.int .i64 d))), (9, (.d (.int .i64 (sumZ (fun k => quadI p (symb p (numP p (p ^ d + k)) m)) (i + k))))), (10, (.d (.int .i64 (2 * p ^ d)))), (42, (.d (.bool false)))], [.box false (D.arr 64 .leaf (ints .u8 (pad (row m)))), ob, .hole, .hole]⟩)
  | k, i, hi => by
    have hpos := ppow_pos (p := p) d
    have e1 := k_sCount' hcn p d hd12
    have w1 : IntKind.i64.wrap (2 * p ^ d) = 2 * p ^ d := w64 (by omega)
    cases k with
    | zero =>
      have e2 : p ^ d + (i : Int) = 2 * p ^ d := by omega
      rw [e2, Nat.add_zero]
      refine dn_stop ?_
      generalize pad (row m) = PM at *
      generalize sumZ (fun k => quadI p (symb p (numP p (p ^ d + k)) m)) i = S at *
      simp -implicitDefEqProofs [ir_spec_SymbolPolynomial_L0, dn_cond, e1, w1, hst]
    | succ k =>
      have hlt : p ^ d + (i : Int) < 2 * p ^ d := by omega
      have e2 := hof p (p ^ d + i) (by omega) (by omega)
      have e3 := hq p (numP p (p ^ d + i)) m hm hml (numP_len _)
      have hs := sumZ_small (f := fun k => quadI p (symb p (numP p (p ^ d + k)) m)) (b := 7) (fun i => by have := quadI_in (p := p) (s := symb p (numP p (p ^ d + i)) m); omega) i
      have hs1 := quadI_in (p := p) (s := symb p (numP p (p ^ d + i)) m)
      have w2 : IntKind.i64.wrap (sumZ (fun k => quadI p (symb p (numP p (p ^ d + k)) m)) i + quadI p (symb p (numP p (p ^ d + i)) m)) = sumZ (fun k => quadI p (symb p (numP p (p ^ d + k)) m)) (i + 1) := w64 (by omega)
      have w4 : IntKind.i64.wrap (p ^ d + (i : Int) + 1) = p ^ d + ((i + 1 : Nat) : Int) := (w64 (x := p ^ d + (i : Int) + 1) (by omega)).trans (by omega)
      have ih := l_sSP0 (O := O) (ob := ob) hcn hof hq hm hml hd hd12 hst k (i + 1) (by omega)
      rw [show i + (k + 1) = i + 1 + k by omega]
      refine dn_round ?_ ih
      generalize hS : sumZ (fun k => quadI p (symb p (numP p (p ^ d + k)) m)) i = S at *
      generalize sumZ (fun k => quadI p (symb p (numP p (p ^ d + k)) m)) (i + 1) = S1 at *
      generalize quadI p (symb p (numP p (p ^ d + i)) m) = Q at *
      generalize pad (row (numP p (p ^ d + i))) = PN at *
      generalize pad (row m) = PM at *
      generalize p ^ d = N at *
      simp -implicitDefEqProofs [ir_spec_SymbolPolynomial_L0, dn_cond, hlt, e1, e2, e3, w1, w2, w4, hst]

theorem l_sSP1 {O : Oracle} (hcn : K_sCount O) (hof : K_sOf O) (hq : K_sQuad O) (hdg : K_sDeg O) {p : Int} [IsP p] {m : Fp p} (hm : m ≠ 0) (hml : m.len ≤ 6) {n : Nat} (hn : n + 1 = m.len) (hcnt : ∀ d, d < n → p ^ d ≤ 343) : ∀ (k i : Nat) (cp : Option Nat), i + k = n → ∃ cp' : Option Nat,
    dn O 0 (.loop ir_spec_SymbolPolynomial_L1) ⟨[(0, (.d (.int .i64 p))), (3, .ptr 0 []), (7, .sl 1 [] 0 i cp), (8, (.d (.int .i64 i)))], [.box false (D.arr 64 .leaf (ints .u8 (pad (row m)))), .sl false .leaf (ints .i64 ((List.range i).map (symSum p m))), .hole, .hole]⟩ =
      some (.exit 0, ⟨[(0, (.d (.int .i64 p))), (3, .ptr 0 []), (7, .sl 1 [] 0 n cp'), (8, (.d (.int .i64 n))), (31, (.d (.bool false)))], [.box false (D.arr 64 .leaf (ints .u8 (pad (row m)))), .sl false .leaf (ints .i64 ((List.range n).map (symSum p m))), .hole, .hole]⟩)
  | k, i, cp, hi => by
    have e2 := hdg p m (by omega)
    rw [show ((m.len : Int) - 1) = (n : Int) by omega] at e2
    cases k with
    | zero =>
      obtain rfl : i = n := by omega
      refine ⟨cp, dn_stop ?_⟩
      generalize pad (row m) = PM at *
      simp -implicitDefEqProofs [ir_spec_SymbolPolynomial_L1, dn_cond, e2]
    | succ k =>
      have hlt : i < n := by omega
      have hc := hcnt i hlt
      have hpos := ppow_pos (p := p) i
      have e1 := k_sCount' hcn p i (by omega)
      have l0 := l_sSP0 (O := O) hcn hof hq hm (by omega) (d := i) hc (by omega) (st := .sl 1 [] 0 i cp) (ob := .sl false .leaf (ints .i64 ((List.range i).map (symSum p m)))) rfl (p ^ i).toNat 0 (by omega)
      have hss : sumZ (fun k => quadI p (symb p (numP p (p ^ i + k)) m)) (0 + (p ^ i).toNat) = symSum p m i := by rw [Nat.zero_add]; rfl
      rw [hss] at l0
      have e0 : sumZ (fun k => quadI p (symb p (numP p (p ^ i + k)) m)) 0 = 0 := rfl
      have e00 : p ^ i + ((0 : Nat) : Int) = p ^ i := by omega
      rw [e0, e00] at l0
      obtain ⟨cp', ih⟩ := l_sSP1 (O := O) hcn hof hq hdg hm hml hn hcnt k (i + 1) none (by omega)
      have w4 : IntKind.i64.wrap ((i : Int) + 1) = ((i + 1 : Nat) : Int) := (w64 (x := (i : Int) + 1) (by omega)).trans (by omega)
      have h8 : (i + 1) * 8 ≤ 1099511627776 := by omega
      have o1 : ints .i64 ((List.range (i + 1)).map (symSum p m)) = ints .i64 ((List.range i).map (symSum p m)) ++ [D.int .i64 (symSum p m i)] := by
        rw [← range_snoc i (symSum p m), ← ints_append]; rfl
      have hL : ((List.range i).map (symSum p m)).length = i := by simp
      have ht : ((List.range i).map (symSum p m)).take i = (List.range i).map (symSum p m) := List.take_of_length_le (by simp)
      rw [o1] at ih
      refine ⟨cp', dn_round ?_ ih⟩
      generalize (List.range i).map (symSum p m) = L at *
      generalize symSum p m i = S at *
      generalize p ^ i = N at *
      generalize pad (row m) = PM at *
      simp -implicitDefEqProofs [ir_spec_SymbolPolynomial_L1, dn_cond, hlt, e1, e2, l0, w4, h8, hL, ht, List.replicate]

theorem k_sSymbolPolynomial (hT : T F_spec_SymbolPolynomial = some ir_spec_SymbolPolynomial) (hod : K_sOdd (den T A)) (hdg : K_sDeg (den T A)) (hcn : K_sCount (den T A)) (hof : K_sOf (den T A)) (hq : K_sQuad (den T A)) : K_SymbolPolynomial (den T A) F_spec_SymbolPolynomial := by
  intro p l hb hl
  have hc := hod p l 5 hb hl (by omega)
  have e5 : ((5 : Nat) : Int) = 5 := rfl
  rw [e5] at hc
  refine ask_of hT rfl ?_
  rcases arg1 p hb hl with ⟨h1, h2⟩ | ⟨ip, a, hal, rfl⟩
  · rw [symPolyD_bad h1]
    have e1 := hc.1 h1
    simp -implicitDefEqProofs [ir_spec_SymbolPolynomial, ir_spec_SymbolPolynomial_B, dn_cond, e1, ints_nil]
  · rw [symPolyD_good hal]
    have e1 := hc.2 ip a hal rfl
    generalize decide (p ≠ 2) = r at *
    by_cases h0 : monOk a 5 r = 0
    · have hM : Monic a ∧ 2 ≤ a.len ∧ a.len ≤ 5 + 1 ∧ r = true := by
        unfold monOk at h0
        split at h0
        · assumption
        · omega
      obtain ⟨hM, hl2, hl6, _⟩ := hM
      rw [h0] at e1
      have e3 := hdg p a hal
      have w1 : IntKind.i64.wrap ((a.len : Int) - 1 - 1) = ((a.len - 2 : Nat) : Int) := (w64 (x := (a.len : Int) - 1 - 1) (by omega)).trans (by omega)
      have e4 := k_sCount' hcn p (a.len - 2) (by omega)
      by_cases h3 : p ^ (a.len - 2) ≤ 343
      · rw [if_pos ⟨h0, h3⟩]
        obtain ⟨cp, e6⟩ := l_sSP1 (O := den T A) hcn hof hq hdg hM.2 hl6 (n := a.len - 1) (by omega) (fun d hd => by
          have := ipow_mono (p := p) (by have := IsP.pos (p := p); omega) (show d ≤ a.len - 2 by omega)
          omega) (a.len - 1) 0 (some 0) (Nat.zero_add _)
        have e00 : ((0 : Nat) : Int) = 0 := rfl
        rw [e00, List.range_zero, List.map_nil, ints_nil] at e6
        have e7 : (List.range (a.len - 1)).map (symSum p a) = symPoly p a := rfl
        rw [e7] at e6
        have hL : (symPoly p a).length = a.len - 1 := by simp [symPoly]
        have ht : (symPoly p a).take (a.len - 1) = symPoly p a := List.take_of_length_le (by omega)
        have h3' : ¬ 343 < p ^ (a.len - 2) := by omega
        generalize symPoly p a = S at *
        generalize a.len - 1 = n at *
        generalize pad (row a) = PA at *
        simp -implicitDefEqProofs [ir_spec_SymbolPolynomial, ir_spec_SymbolPolynomial_B, dn_cond, e1, e3, e4, w1, e6, hL, ht, h3']
      · rw [if_neg (fun h => h3 h.2)]
        have h3' : 343 < p ^ (a.len - 2) := by omega
        generalize pad (row a) = PA at *
        simp -implicitDefEqProofs [ir_spec_SymbolPolynomial, ir_spec_SymbolPolynomial_B, dn_cond, e1, e3, e4, w1, h3', ints_nil]
    · rw [if_neg (fun h => h0 h.1)]
      have h2 : monOk a 5 r = 2 := by
        unfold monOk at h0 ⊢
        split
        · rename_i h; rw [if_pos h] at h0; exact absurd rfl h0
        · rfl
      rw [h2] at e1
      generalize pad (row a) = PA at *
      simp -implicitDefEqProofs [ir_spec_SymbolPolynomial, ir_spec_SymbolPolynomial_B, dn_cond, e1, ints_nil]

theorem l_sClassSum {O : Oracle} {l : List Int} {v : V} (hv : v.refs = []) (hl : l.length < 100000) : ∀ (m i : Nat), i + m = l.length →
    dn O 0 (.loop ir_spec_ClassSum_L0) ⟨[(6, (.d (.sl .leaf (ints .i64 l)))), (7, v), (8, (.d (.int .i64 (sumW l i)))), (9, (.d (.int .i64 i)))], [.hole]⟩ =
      some (.exit 0, ⟨[(6, (.d (.sl .leaf (ints .i64 l)))), (7, v), (8, (.d (.int .i64 (sumW l l.length)))), (9, (.d (.int .i64 l.length))), (19, (.d (.bool false)))], [.hole]⟩)
  | 0, i, hi => by
    obtain rfl : i = l.length := by omega
    exact dn_stop (by simp -implicitDefEqProofs [ir_spec_ClassSum_L0, dn_cond, hv])
  | m + 1, i, hi => by
    have hlt : i < l.length := by omega
    have hx : l[i] = cf l i := (cf_lt hlt).symm
    have w4 : IntKind.i64.wrap ((i : Int) + 1) = ((i + 1 : Nat) : Int) := (w64 (x := (i : Int) + 1) (by omega)).trans (by omega)
    refine dn_round ?_ (l_sClassSum hv hl m (i + 1) (by omega))
    simp -implicitDefEqProofs [ir_spec_ClassSum_L0, dn_cond, hlt, hx, w4, hv, sumW]
theorem k_sClassSum (hT : T F_spec_ClassSum = some ir_spec_ClassSum) (hs : K_SymbolPolynomial (den T A) F_spec_SymbolPolynomial) : K_ClassSum (den T A) F_spec_ClassSum := by
  intro p l hb hl
  have e1 := hs p l hb hl
  obtain ⟨s, c, e2, e3⟩ := symPolyD_form p hb hl
  rw [e2, sumD_eq]
  rw [e2] at e1
  have e4 := l_sClassSum (O := den T A) (v := (.d (.int .i64 c))) rfl (l := s) (by omega) s.length 0 (Nat.zero_add _)
  have e0 : ((0 : Nat) : Int) = 0 := rfl
  have e00 : sumW s 0 = 0 := rfl
  rw [e0, e00] at e4
  refine ask_of hT rfl ?_
  simp -implicitDefEqProofs [ir_spec_ClassSum, ir_spec_ClassSum_B, e1, e4]
end Pe

namespace Pe
open Go
def ir_spec_l03Field_B : Cd :=
  .seq (.region [⟨some 3, .box false 0 (.t 1), none, []⟩,
  ⟨some 4, .mv (.c (.bool false)), none, []⟩] [0, 3])
  (.seq (.region [⟨some 5, .mv (.t 0), none, []⟩,
  ⟨some 6, .load (.arr 64 .leaf) (.t 3), none, []⟩,
  ⟨some 7, .call .flat [] (.f F_spec_l01Is) [(.t 5), (.t 6)], none, []⟩,
  ⟨some 8, .mv (.t 7), none, []⟩,
  ⟨some 9, .load (.arr 64 .leaf) (.t 3), some (8, true), []⟩,
  ⟨some 10, .call .flat [] (.f F_spec_l01Monic) [(.t 9)], some (8, true), []⟩,
  ⟨some 11, .pick (.t 8) (.t 10) (.c (.bool false)), none, []⟩,
  ⟨some 12, .mv (.t 11), none, []⟩,
  ⟨some 13, .load (.arr 64 .leaf) (.t 3), some (12, true), []⟩,
  ⟨some 14, .call .flat [] (.f F_spec_l01Deg) [(.t 13)], some (12, true), []⟩,
  ⟨some 15, .call .flat [] (.f F_spec_l01In) [(.t 14), (.c (.int .i64 1)), (.c (.int .i64 4))], some (12, true), []⟩,
  ⟨some 16, .pick (.t 12) (.t 15) (.c (.bool false)), none, []⟩,
  ⟨some 17, .mv (.t 16), none, []⟩,
  ⟨some 18, .mv (.t 0), some (17, true), []⟩,
  ⟨some 19, .load (.arr 64 .leaf) (.t 3), some (17, true), []⟩,
  ⟨some 20, .call .flat [] (.f F_spec_l01Irreducible) [(.t 18), (.t 19)], some (17, true), []⟩,
  ⟨some 21, .pick (.t 17) (.t 20) (.c (.bool false)), none, []⟩,
  ⟨some 4, .mv (.t 21), none, []⟩] [4])
  (.ret))
def ir_spec_l03Field : Fn :=
  { nparams := 2, nblk := 1, results := [.tmp 4], body := ir_spec_l03Field_B }
def ir_spec_l03Residue_B : Cd :=
  .seq (.region [⟨some 4, .box false 0 (.t 1), none, []⟩,
  ⟨some 5, .box false 1 (.t 2), none, []⟩,
  ⟨some 6, .mv (.c (.bool false)), none, []⟩] [0, 4, 5])
  (.seq (.region [⟨some 7, .mv (.t 0), none, []⟩,
  ⟨some 8, .load (.arr 64 .leaf) (.t 5), none, []⟩,
  ⟨some 9, .call .flat [] (.f F_spec_l01Is) [(.t 7), (.t 8)], none, []⟩,
  ⟨some 10, .mv (.t 9), none, []⟩,
  ⟨some 11, .load (.arr 64 .leaf) (.t 5), some (10, true), []⟩,
  ⟨some 12, .call .flat [] (.f F_spec_l01Deg) [(.t 11)], some (10, true), []⟩,
  ⟨some 13, .load (.arr 64 .leaf) (.t 4), some (10, true), []⟩,
  ⟨some 14, .call .flat [] (.f F_spec_l01Deg) [(.t 13)], some (10, true), []⟩,
  ⟨some 15, .bin .lss (.t 12) (.t 14), some (10, true), []⟩,
  ⟨some 16, .pick (.t 10) (.t 15) (.c (.bool false)), none, []⟩,
  ⟨some 6, .mv (.t 16), none, []⟩] [6])
  (.ret))
def ir_spec_l03Residue : Fn :=
  { nparams := 3, nblk := 2, results := [.tmp 6], body := ir_spec_l03Residue_B }
end Pe

namespace Pe
open Go Gq
variable {T : Nat → Option Fn} {A : Oracle}

open Classical in
def K_isIrr (O : Oracle) : Prop := ∀ (p : Int) [IsP p] (a : Fp p), a.len ≤ 13 → ask O F_impl_prime_isIrreducible [(D.int .i64 p), (D.sl .leaf (ints .i64 (row a)))] = some (D.bool (decide (Monic a ∧ Irr a)))
open Classical in
theorem k_isIrr (hT : T F_impl_prime_isIrreducible = some ir_impl_prime_isIrreducible) (hld : C_lead (den T A)) (hdg : C_degree (den T A)) (hf : K_fac (den T A)) : K_isIrr (den T A) := by
  intro p i a hal
  have e1 := hld (row a) (by rw [row_length]; omega)
  rw [ld_row] at e1
  have e2 := hdg (row a) (by rw [row_length]; omega)
  rw [row_length] at e2
  refine ask_of hT rfl ?_
  by_cases h1 : a.ld = 1
  · have h1' := (rep_one_iff a.ld).2 h1
    have hM := (monic_iff a).2 h1
    rw [h1'] at e1
    by_cases h2 : 2 ≤ a.len
    · obtain ⟨f1, f2, e3⟩ := hf p a hM.2 hal
      have hiff := irr_fac hM f1
      have hlt : ¬ ((a.len : Int) - 1 < 1) := by omega
      have hlt2 : ¬ ((a.len : Int) < 2) := by omega
      have hlt3 : (2 : Int) ≤ a.len := by omega
      have key : (∃ q, fac a = [(q, 1)]) ↔ (Monic a ∧ Irr a) := ⟨fun h => ⟨hM, hiff.1 h⟩, fun h => hiff.2 h.2⟩
      generalize fac a = L at *
      cases L with
      | nil =>
        rw [decide_eq_false (fun h0 => by obtain ⟨q, h⟩ := key.2 h0; cases h)]
        simp -implicitDefEqProofs [ir_impl_prime_isIrreducible, ir_impl_prime_isIrreducible_B, dn_cond, e1, e2, e3, hlt]
      | cons x L =>
        cases L with
        | nil =>
          obtain ⟨q, k⟩ := x
          by_cases hk : k = 1
          · subst hk
            rw [decide_eq_true (key.1 ⟨q, rfl⟩)]
            simp -implicitDefEqProofs [ir_impl_prime_isIrreducible, ir_impl_prime_isIrreducible_B, dn_cond, e1, e2, e3, hlt, facD]
          · rw [decide_eq_false (fun h0 => by obtain ⟨q', h⟩ := key.2 h0; simp at h; exact hk h.2)]
            have hk' : ¬ ((k : Int) = 1) := by omega
            simp -implicitDefEqProofs [ir_impl_prime_isIrreducible, ir_impl_prime_isIrreducible_B, dn_cond, e1, e2, e3, hlt, facD, hk']
        | cons y L =>
          rw [decide_eq_false (fun h0 => by obtain ⟨q', h⟩ := key.2 h0; simp at h)]
          have hk' : ¬ (((L.length : Int) + 1 + 1) = 1) := by omega
          simp -implicitDefEqProofs [ir_impl_prime_isIrreducible, ir_impl_prime_isIrreducible_B, dn_cond, e1, e2, e3, hlt, hk']
    · have hlt : ((a.len : Int) - 1 < 1) := by omega
      have hlt2 : ((a.len : Int) < 2) := by omega
      rw [decide_eq_false (fun h => h2 h.2.len)]
      simp -implicitDefEqProofs [ir_impl_prime_isIrreducible, ir_impl_prime_isIrreducible_B, dn_cond, e1, e2, hlt]
  · have h1' := mt (rep_one_iff a.ld).1 h1
    rw [decide_eq_false (fun h => h1 h.1.1)]
    simp -implicitDefEqProofs [ir_impl_prime_isIrreducible, ir_impl_prime_isIrreducible_B, dn_cond, e1, h1']

def C_IsPoly (O : Oracle) : Prop := ∀ (p : Int) (l : List Int), Bytes l → l.length = 64 → ask O F_impl_IsPoly [(D.int .i64 p), (D.arr 64 .leaf (ints .u8 l))] = some (D.bool (isP p && isPl p l))
theorem c_IsPoly (hT : T F_impl_IsPoly = some ir_impl_IsPoly) (hp : C_isPrime (den T A)) (hi : C_isPoly (den T A)) : C_IsPoly (den T A) := by
  intro p l hb hl
  have e1 := hp p
  have e2 := hi p l hb hl
  refine ask_of hT rfl ?_
  by_cases h : isP p = true
  · simp -implicitDefEqProofs [ir_impl_IsPoly, ir_impl_IsPoly_B, e1, e2, h]
  · simp -implicitDefEqProofs [ir_impl_IsPoly, ir_impl_IsPoly_B, e1, h]

/-- A field of residues. -/
structure Fld {p : Int} [IsP p] (m : Fp p) : Prop where
  mon : Monic m
  two : 2 ≤ m.len
  five : m.len ≤ 5
  irr : Irr m
def IsFld (p : Int) (l : List Int) : Prop := ∃ (_ : IsP p) (m : Fp p), l = pad (row m) ∧ Fld m
theorem isFld_bad {p : Int} {l : List Int} (h : isP p = true → isPl p l = false) : ¬ IsFld p l := by
  rintro ⟨ip, m, rfl, hm⟩
  have := h isP_true
  rw [isPl_row] at this
  cases this
theorem isFld_good {p : Int} [IsP p] {a : Fp p} (hl : a.len ≤ 64) : IsFld p (pad (row a)) ↔ Fld a := by
  constructor
  · rintro ⟨ip, m, e, hm⟩
    have hml := hm.five
    rw [(pad_row_inj hl (by omega)).1 e]
    exact hm
  · intro h; exact ⟨_, a, rfl, h⟩
open Classical in
def C_isField (O : Oracle) : Prop := ∀ (p : Int) (l : List Int), Bytes l → l.length = 64 → ask O F_impl_isField [(D.int .i64 p), (D.arr 64 .leaf (ints .u8 l))] = some (D.bool (decide (IsFld p l)))
open Classical in
theorem c_isField (hT : T F_impl_isField = some ir_impl_isField) (hro : C_rowOf (den T A)) (hip : C_IsPoly (den T A)) (hdg : C_degree (den T A)) (hwi : C_within (den T A)) (hir : K_isIrr (den T A)) : C_isField (den T A) := by
  intro p l hb hl
  have e1 := hro l hb hl
  have e2 := hip p l hb hl
  refine ask_of hT rfl ?_
  rcases arg1 p hb hl with ⟨h1, h2⟩ | ⟨ip, a, hal, rfl⟩
  · have h3 : (isP p && isPl p l) = false := by
      cases hx : isP p
      · rfl
      · rw [h2 hx]; rfl
    rw [decide_eq_false (isFld_bad h2)]
    rw [h3] at e2
    simp -implicitDefEqProofs [ir_impl_isField, ir_impl_isField_B, e1, e2]
  · rw [isP_true, isPl_row] at e2
    rw [trim_pad a hal] at e1
    have e3 := hdg (row a) (by rw [row_length]; omega)
    rw [row_length] at e3
    have e4 := hwi ((a.len : Int) - 1) 1 4
    by_cases h : 2 ≤ a.len ∧ a.len ≤ 5
    · have h3 : decide ((1 : Int) ≤ (a.len : Int) - 1 ∧ (a.len : Int) - 1 ≤ 4) = true := decide_eq_true (by omega)
      rw [h3] at e4
      have e5 := hir p a (by omega)
      have h6 : decide (IsFld p (pad (row a))) = decide (Monic a ∧ Irr a) := decide_eq_decide.2 ((isFld_good hal).trans ⟨fun g => ⟨g.mon, g.irr⟩, fun g => ⟨g.1, h.1, h.2, g.2⟩⟩)
      rw [h6]
      generalize decide (Monic a ∧ Irr a) = b at *
      generalize pad (row a) = Pa at *
      simp -implicitDefEqProofs [ir_impl_isField, ir_impl_isField_B, e1, e2, e3, e4, e5]
    · have h3 : decide ((1 : Int) ≤ (a.len : Int) - 1 ∧ (a.len : Int) - 1 ≤ 4) = false := decide_eq_false (by omega)
      rw [h3] at e4
      rw [decide_eq_false (fun g => h ⟨((isFld_good hal).1 g).two, ((isFld_good hal).1 g).five⟩)]
      generalize pad (row a) = Pa at *
      simp -implicitDefEqProofs [ir_impl_isField, ir_impl_isField_B, e1, e2, e3, e4]
open Classical in
def C_sField (O : Oracle) : Prop := ∀ (p : Int) (l : List Int), Bytes l → l.length = 64 → ask O F_spec_l03Field [(D.int .i64 p), (D.arr 64 .leaf (ints .u8 l))] = some (D.bool (decide (IsFld p l)))
open Classical in
theorem c_sField (hT : T F_spec_l03Field = some ir_spec_l03Field) (his : C_sIs (den T A)) (hmo : K_sMonic (den T A)) (hdg : K_sDeg (den T A)) (hin : C_sIn (den T A)) (hir : K_sIrr (den T A)) : C_sField (den T A) := by
  intro p l hb hl
  have e1 := his p l hb hl
  refine ask_of hT rfl ?_
  rcases arg1 p hb hl with ⟨h1, h2⟩ | ⟨ip, a, hal, rfl⟩
  · have h3 : (isPl p l && isP p) = false := by
      cases hx : isP p
      · rw [Bool.and_false]
      · rw [h2 hx]; rfl
    rw [decide_eq_false (isFld_bad h2)]
    rw [h3] at e1
    simp -implicitDefEqProofs [ir_spec_l03Field, ir_spec_l03Field_B, e1]
  · rw [isP_true, isPl_row] at e1
    have e2 := hmo p a hal
    have e3 := hdg p a hal
    have e4 := hin ((a.len : Int) - 1) 1 4
    by_cases hM : Monic a
    · rw [decide_eq_true hM] at e2
      by_cases h : 2 ≤ a.len ∧ a.len ≤ 5
      · have h3 : decide ((1 : Int) ≤ (a.len : Int) - 1 ∧ (a.len : Int) - 1 ≤ 4) = true := decide_eq_true (by omega)
        rw [h3] at e4
        have e5 := hir p a hM.2 (by omega)
        have h6 : decide (IsFld p (pad (row a))) = decide (Irr a) := decide_eq_decide.2 ((isFld_good hal).trans ⟨fun g => g.irr, fun g => ⟨hM, h.1, h.2, g⟩⟩)
        rw [h6]
        generalize decide (Irr a) = b at *
        generalize pad (row a) = Pa at *
        simp -implicitDefEqProofs [ir_spec_l03Field, ir_spec_l03Field_B, e1, e2, e3, e4, e5]
      · have h3 : decide ((1 : Int) ≤ (a.len : Int) - 1 ∧ (a.len : Int) - 1 ≤ 4) = false := decide_eq_false (by omega)
        rw [h3] at e4
        rw [decide_eq_false (fun g => h ⟨((isFld_good hal).1 g).two, ((isFld_good hal).1 g).five⟩)]
        generalize pad (row a) = Pa at *
        simp -implicitDefEqProofs [ir_spec_l03Field, ir_spec_l03Field_B, e1, e2, e3, e4]
    · rw [decide_eq_false hM] at e2
      rw [decide_eq_false (fun g => hM ((isFld_good hal).1 g).mon)]
      generalize pad (row a) = Pa at *
      simp -implicitDefEqProofs [ir_spec_l03Field, ir_spec_l03Field_B, e1, e2]

/-! ### residues -/
/-- A residue modulo m. -/
def IsRes {p : Int} [IsP p] (m : Fp p) (l : List Int) : Prop := ∃ a : Fp p, a.len < m.len ∧ l = pad (row a)
noncomputable abbrev fldD {p : Int} (m : Fp p) : D := .st [.leaf, .leaf] [.int .i64 p, (D.sl .leaf (ints .i64 (row m)))]
open Classical in
def C_isRes (O : Oracle) : Prop := ∀ (p : Int) [IsP p] (m : Fp p) (l : List Int), m.len ≤ 64 → Bytes l → l.length = 64 → ask O F_impl_field_isResidue [fldD m, (D.arr 64 .leaf (ints .u8 l))] = some (D.bool (decide (IsRes m l)))
theorem isRes_iff {p : Int} [IsP p] {m a : Fp p} (hm : m.len ≤ 64) (ha : a.len ≤ 64) : IsRes m (pad (row a)) ↔ a.len < m.len := by
  constructor
  · rintro ⟨b, h1, h2⟩
    rw [(pad_row_inj ha (by omega)).1 h2]; exact h1
  · intro h; exact ⟨a, h, rfl⟩
open Classical in
theorem c_isRes (hT : T F_impl_field_isResidue = some ir_impl_field_isResidue) (hi : C_isPoly (den T A)) (hro : C_rowOf (den T A)) (hdg : C_degree (den T A)) : C_isRes (den T A) := by
  intro p ip m l hm hb hl
  have e1 := hi p l hb hl
  refine ask_of hT rfl ?_
  by_cases h : isPl p l = true
  · obtain ⟨a, hal, rfl⟩ := row_of_isPl hb hl h
    rw [h] at e1
    have e2 := hro _ hb hl
    rw [trim_pad a hal] at e2
    have e3 := hdg (row a) (by rw [row_length]; omega)
    rw [row_length] at e3
    have e4 := hdg (row m) (by rw [row_length]; omega)
    rw [row_length] at e4
    have h5 : decide ((a.len : Int) - 1 < (m.len : Int) - 1) = decide (IsRes m (pad (row a))) := decide_eq_decide.2 ((show _ ↔ a.len < m.len by omega).trans (isRes_iff hm hal).symm)
    rw [← h5]
    generalize pad (row a) = Pa at *
    simp -implicitDefEqProofs [ir_impl_field_isResidue, ir_impl_field_isResidue_B, e1, e2, e3, e4]
  · rw [decide_eq_false (fun ⟨a, h1, h2⟩ => h (by rw [h2]; exact isPl_row))]
    have h' : isPl p l = false := by simpa using h
    rw [h'] at e1
    simp -implicitDefEqProofs [ir_impl_field_isResidue, ir_impl_field_isResidue_B, e1]
open Classical in
def C_sRes (O : Oracle) : Prop := ∀ (p : Int) [IsP p] (m : Fp p) (l : List Int), m.len ≤ 64 → Bytes l → l.length = 64 → ask O F_spec_l03Residue [(D.int .i64 p), (D.arr 64 .leaf (ints .u8 (pad (row m)))), (D.arr 64 .leaf (ints .u8 l))] = some (D.bool (decide (IsRes m l)))
open Classical in
theorem c_sRes (hT : T F_spec_l03Residue = some ir_spec_l03Residue) (hi : C_sIs (den T A)) (hdg : K_sDeg (den T A)) : C_sRes (den T A) := by
  intro p ip m l hm hb hl
  have e1 := hi p l hb hl
  refine ask_of hT rfl ?_
  by_cases h : isPl p l = true
  · obtain ⟨a, hal, rfl⟩ := row_of_isPl hb hl h
    rw [h, isP_true] at e1
    have e3 := hdg p a hal
    have e4 := hdg p m hm
    have h5 : decide ((a.len : Int) - 1 < (m.len : Int) - 1) = decide (IsRes m (pad (row a))) := decide_eq_decide.2 ((show _ ↔ a.len < m.len by omega).trans (isRes_iff hm hal).symm)
    rw [← h5]
    generalize pad (row a) = Pa at *
    generalize pad (row m) = Pm at *
    simp -implicitDefEqProofs [ir_spec_l03Residue, ir_spec_l03Residue_B, e1, e3, e4]
  · rw [decide_eq_false (fun ⟨a, h1, h2⟩ => h (by rw [h2]; exact isPl_row))]
    have h' : (isPl p l && isP p) = false := by
      have : isPl p l = false := by simpa using h
      rw [this]; rfl
    rw [h'] at e1
    generalize pad (row m) = Pm at *
    simp -implicitDefEqProofs [ir_spec_l03Residue, ir_spec_l03Residue_B, e1]

def K_fieldOf (O : Oracle) : Prop := ∀ (p : Int) [IsP p] (m : Fp p), m.len ≤ 64 → ask O F_impl_fieldOf [(D.int .i64 p), (D.arr 64 .leaf (ints .u8 (pad (row m))))] = some (fldD m)
theorem k_fieldOf (hT : T F_impl_fieldOf = some ir_impl_fieldOf) (hro : K_rowOf (den T A)) : K_fieldOf (den T A) := by
  intro p ip m hm
  have e1 := hro p m hm
  refine ask_of hT rfl ?_
  generalize pad (row m) = Pm at *
  simp -implicitDefEqProofs [ir_impl_fieldOf, ir_impl_fieldOf_B, e1, List.replicate]
end Pe

namespace Pe
open Go Gq
variable {T : Nat → Option Fn} {A : Oracle}

abbrev drSh : List Sh := [.leaf, .arr 64 .leaf, .arr 64 .leaf, .arr 64 .leaf]
abbrev drD (n : Int) (u v w : List Int) : D := .st drSh [(D.int .i64 n), (D.arr 64 .leaf (ints .u8 u)), (D.arr 64 .leaf (ints .u8 v)), (D.arr 64 .leaf (ints .u8 w))]
def IsDr (n : Int) (u v w : List Int) : Prop := ∃ (_ : IsP n) (m g d : Fp n), u = pad (row m) ∧ v = pad (row g) ∧ w = pad (row d) ∧ Fld m ∧ g.len < m.len ∧ d.len < m.len ∧ d ≠ 0
theorem isDr_iff {p : Int} [IsP p] {m : Fp p} (hm : Fld m) {v w : List Int} : IsDr p (pad (row m)) v w ↔ IsRes m v ∧ IsRes m w ∧ w ≠ pad [] := by
  have h5 := hm.five
  constructor
  · rintro ⟨ip, m', g, d, e1, rfl, rfl, h1, h2, h3, h4⟩
    have h6 := h1.five
    obtain rfl := (pad_row_inj (by omega) (by omega)).1 e1
    refine ⟨⟨g, h2, rfl⟩, ⟨d, h3, rfl⟩, fun h => h4 ?_⟩
    rw [← row_zero (p := p)] at h
    exact (pad_row_inj (by omega) (by rw [Pol.len_zero]; omega)).1 h
  · rintro ⟨⟨g, h2, rfl⟩, ⟨d, h3, rfl⟩, h4⟩
    exact ⟨_, m, g, d, rfl, rfl, rfl, hm, h2, h3, fun h => h4 (by rw [h, row_zero])⟩
theorem isDr_fld {n : Int} {u v w : List Int} (h : IsDr n u v w) : IsFld n u := by
  obtain ⟨ip, m, g, d, e1, _, _, h1, _⟩ := h
  exact ⟨ip, m, e1, h1⟩
open Classical in
def C_IsDr (O : Oracle) (F : Nat) : Prop := ∀ (n : Int) (u v w : List Int), Bytes u → u.length = 64 → Bytes v → v.length = 64 → Bytes w → w.length = 64 → ask O F [drD n u v w] = some (D.bool (decide (IsDr n u v w)))
open Classical in
theorem c_IsDr (hT : T F_impl_IsDrinfeld = some ir_impl_IsDrinfeld) (hif : C_isField (den T A)) (hfo : K_fieldOf (den T A)) (hir : C_isRes (den T A)) : C_IsDr (den T A) F_impl_IsDrinfeld := by
  intro n u v w bu gu bv gv bw gw
  have e1 := hif n u bu gu
  refine ask_of hT rfl ?_
  by_cases hf : IsFld n u
  · rw [decide_eq_true hf] at e1
    obtain ⟨ip, m, rfl, hm⟩ := hf
    have h5 := hm.five
    have e2 := hfo n m (by omega)
    have e3 := hir n m v (by omega) bv gv
    have e4 := hir n m w (by omega) bw gw
    have e5 := beq_P gw (pad_length [])
    have h6 : decide (IsDr n (pad (row m)) v w) = (decide (IsRes m v) && decide (IsRes m w) && !decide (w = pad [])) := by
      have h7 : decide (IsDr n (pad (row m)) v w) = decide (IsRes m v ∧ IsRes m w ∧ w ≠ pad []) := decide_eq_decide.2 (isDr_iff hm)
      rw [h7]
      by_cases h1 : IsRes m v <;> by_cases h2 : IsRes m w <;> by_cases h3 : w = pad [] <;> simp [h1, h2, h3]
    rw [h6]
    generalize pad (row m) = Pm at *
    cases hb1 : decide (IsRes m v) <;> cases hb2 : decide (IsRes m w) <;> rw [hb1] at e3 <;> rw [hb2] at e4 <;> simp -implicitDefEqProofs [ir_impl_IsDrinfeld, ir_impl_IsDrinfeld_B, dn_cond, e1, e2, e3, e4, e5, List.replicate]
  · rw [decide_eq_false hf] at e1
    rw [decide_eq_false (fun h => hf (isDr_fld h))]
    simp -implicitDefEqProofs [ir_impl_IsDrinfeld, ir_impl_IsDrinfeld_B, dn_cond, e1, List.replicate]

open Classical in
theorem c_sDr (hT : T F_spec_l06Is = some ir_spec_l06Is) (hc : C_sCode (den T A)) (hmo : K_sMonic (den T A)) (hdg : K_sDeg (den T A)) (hin : C_sIn (den T A)) (hir : K_sIrr (den T A)) : C_IsDr (den T A) F_spec_l06Is := by
  intro n u v w bu gu bv gv bw gw
  have e1 := hc n [u, v, w] (by intro x hx; simp at hx; rcases hx with rfl | rfl | rfl <;> exact ⟨by assumption, by assumption⟩) (by simp)
  rw [show List.map arr8 [u, v, w] = [(D.arr 64 .leaf (ints .u8 u)), (D.arr 64 .leaf (ints .u8 v)), (D.arr 64 .leaf (ints .u8 w))] from rfl] at e1
  refine ask_of hT rfl ?_
  by_cases hp : isP n = true ∧ isPl n u = true ∧ isPl n v = true ∧ isPl n w = true
  · obtain ⟨p1, p2, p3, p4⟩ := hp
    have hcc : codeP n [u, v, w] = 0 := by simp [codeP, p1, p2, p3, p4]
    rw [hcc] at e1
    have ip := isP_of p1
    obtain ⟨m, hml, rfl⟩ := row_of_isPl bu gu p2
    obtain ⟨g, hgl, rfl⟩ := row_of_isPl bv gv p3
    obtain ⟨d, hdl, rfl⟩ := row_of_isPl bw gw p4
    have e2 := hmo n m hml
    have e3 := hdg n m hml
    have e4 := hdg n g hgl
    have e5 := hdg n d hdl
    have e6 := hin ((m.len : Int) - 1) 1 4
    have t3 : pad (row d) = pad [] ↔ d = 0 := by
      rw [← row_zero (p := n), pad_row_inj hdl (by rw [Pol.len_zero]; omega)]
    have t4 : decide (pad (row d) = pad []) = decide (d = 0) := decide_eq_decide.2 t3
    have e8 := beq_P (pad_length (row d)) (pad_length [])
    rw [t4] at e8
    by_cases hM : Monic m
    · rw [decide_eq_true hM] at e2
      by_cases h : 2 ≤ m.len ∧ m.len ≤ 5
      · have h3 : decide ((1 : Int) ≤ (m.len : Int) - 1 ∧ (m.len : Int) - 1 ≤ 4) = true := decide_eq_true (by omega)
        rw [h3] at e6
        have e7 := hir n m hM.2 (by omega)
        by_cases hI : Irr m
        · rw [decide_eq_true hI] at e7
          have hF : Fld m := ⟨hM, h.1, h.2, hI⟩
          have h8 : decide (IsDr n (pad (row m)) (pad (row g)) (pad (row d))) = (decide ((g.len : Int) - 1 < (m.len : Int) - 1) && decide ((d.len : Int) - 1 < (m.len : Int) - 1) && !decide (d = 0)) := by
            have h7 : decide (IsDr n (pad (row m)) (pad (row g)) (pad (row d))) = decide (g.len < m.len ∧ d.len < m.len ∧ d ≠ 0) := decide_eq_decide.2 ((isDr_iff hF).trans (by
              rw [isRes_iff (by omega) hgl, isRes_iff (by omega) hdl]
              rw [Ne, t3]))
            rw [h7]
            have t1 : ((g.len : Int) - 1 < (m.len : Int) - 1) ↔ g.len < m.len := by omega
            have t2 : ((d.len : Int) - 1 < (m.len : Int) - 1) ↔ d.len < m.len := by omega
            have t5 : decide ((g.len : Int) - 1 < (m.len : Int) - 1) = decide (g.len < m.len) := decide_eq_decide.2 t1
            have t6 : decide ((d.len : Int) - 1 < (m.len : Int) - 1) = decide (d.len < m.len) := decide_eq_decide.2 t2
            rw [t5, t6]
            by_cases x1 : g.len < m.len <;> by_cases x2 : d.len < m.len <;> by_cases x3 : d = 0 <;> simp [x1, x2, x3]
          rw [h8]
          generalize (m.len : Int) - 1 = m1 at *
          generalize (g.len : Int) - 1 = g1 at *
          generalize (d.len : Int) - 1 = d1 at *
          generalize decide (d = 0) = bz at *
          generalize pad (row m) = Pm at *
          generalize pad (row g) = Pg at *
          generalize pad (row d) = Pd at *
          cases hb1 : decide (g1 < m1) <;> cases hb2 : decide (d1 < m1) <;> simp -implicitDefEqProofs [ir_spec_l06Is, ir_spec_l06Is_B, dn_cond, e1, e2, e3, e4, e5, e6, e7, e8, hb1, hb2, List.replicate]
        · rw [decide_eq_false hI] at e7
          rw [decide_eq_false (fun hd => hI ((isFld_good hml).1 (isDr_fld hd)).irr)]
          generalize (m.len : Int) - 1 = m1 at *
          generalize pad (row m) = Pm at *
          generalize pad (row g) = Pg at *
          generalize pad (row d) = Pd at *
          simp -implicitDefEqProofs [ir_spec_l06Is, ir_spec_l06Is_B, dn_cond, e1, e2, e3, e6, e7, List.replicate]
      · have h3 : decide ((1 : Int) ≤ (m.len : Int) - 1 ∧ (m.len : Int) - 1 ≤ 4) = false := decide_eq_false (by omega)
        rw [h3] at e6
        rw [decide_eq_false (fun hd => h ⟨((isFld_good hml).1 (isDr_fld hd)).two, ((isFld_good hml).1 (isDr_fld hd)).five⟩)]
        generalize (m.len : Int) - 1 = m1 at *
        generalize pad (row m) = Pm at *
        generalize pad (row g) = Pg at *
        generalize pad (row d) = Pd at *
        simp -implicitDefEqProofs [ir_spec_l06Is, ir_spec_l06Is_B, dn_cond, e1, e2, e3, e6, List.replicate]
    · rw [decide_eq_false hM] at e2
      rw [decide_eq_false (fun hd => hM ((isFld_good hml).1 (isDr_fld hd)).mon)]
      generalize pad (row m) = Pm at *
      generalize pad (row g) = Pg at *
      generalize pad (row d) = Pd at *
      simp -implicitDefEqProofs [ir_spec_l06Is, ir_spec_l06Is_B, dn_cond, e1, e2, List.replicate]
  · have hcc : codeP n [u, v, w] = 1 := by
      unfold codeP
      rw [if_neg]
      rintro ⟨h1, h2⟩
      simp at h2
      exact hp ⟨h1, h2⟩
    rw [hcc] at e1
    rw [decide_eq_false (by
      rintro ⟨ip, m, g, d, rfl, rfl, rfl, _⟩
      exact hp ⟨isP_true, isPl_row, isPl_row, isPl_row⟩)]
    simp -implicitDefEqProofs [ir_spec_l06Is, ir_spec_l06Is_B, dn_cond, e1, List.replicate]

/-! ### codes -/
open Classical in
/-- The code of a module and polynomials. -/
noncomputable def codeDr (n : Int) (u v w : List Int) (ls : List (List Int)) : Int := if IsDr n u v w ∧ ls.all (isPl n) = true then 0 else 1
def C_drCode (O : Oracle) (F : Nat) : Prop := ∀ (n : Int) (u v w : List Int) (ls : List (List Int)), Bytes u → u.length = 64 → Bytes v → v.length = 64 → Bytes w → w.length = 64 → Arrs ls → ls.length < 1000000 →
  ask O F [drD n u v w, .sl (.arr 64 .leaf) (ls.map arr8)] = some (D.int .i64 (codeDr n u v w ls))
theorem fn_drPoly {n : Int} {u v w : List Int} {ls : List (List Int)} (h : Arrs ls) (hT1 : T F_impl_drinfeldCode_1 = some ir_impl_drinfeldCode_1) (hi : C_isPoly (den T A)) : FnBool (den T A) F_impl_drinfeldCode_1 [] [.ip (drD n u v w)] (ls.map arr8) fun x => isPl n x.nums := by
  refine ⟨fun x hx => by simp at hx, fun x hx => by simp at hx; subst hx; rfl, fun x hx => ?_, fun x hx => ?_⟩
  · obtain ⟨n, _, rfl⟩ := List.mem_map.1 hx; rfl
  · obtain ⟨l, hn, rfl⟩ := List.mem_map.1 hx
    have e := hi n l (h l hn).2 (h l hn).1
    have e2 := nums_arr8 l
    refine ask_of hT1 rfl ?_
    simp -implicitDefEqProofs [ir_impl_drinfeldCode_1, ir_impl_drinfeldCode_1_B, e, e2]
open Classical in
theorem c_drCode (hT : T F_impl_drinfeldCode = some ir_impl_drinfeldCode) (hT1 : T F_impl_drinfeldCode_1 = some ir_impl_drinfeldCode_1) (hd : C_IsDr (den T A) F_impl_IsDrinfeld) (hi : C_isPoly (den T A)) (ha : C_allOf (den T A) F_impl_areAll_impl_Poly (.arr 64 .leaf)) : C_drCode (den T A) F_impl_drinfeldCode := by
  intro n u v w ls bu gu bv gv bw gw h hl
  have e := ha _ _ _ _ _ (fn_drPoly (n := n) (u := u) (v := v) (w := w) h hT1 hi) (fun x hx => by obtain ⟨n, _, rfl⟩ := List.mem_map.1 hx; rfl) (by simpa using hl)
  rw [all_arrs] at e
  have e1 := hd n u v w bu gu bv gv bw gw
  unfold codeDr
  refine ask_of hT rfl ?_
  by_cases h1 : IsDr n u v w
  · rw [decide_eq_true h1] at e1
    cases h2 : ls.all (isPl n)
    · rw [h2] at e
      rw [if_neg (by simp)]
      simp -implicitDefEqProofs [ir_impl_drinfeldCode, ir_impl_drinfeldCode_B, e1, e, dn_cond]
    · rw [h2] at e
      rw [if_pos ⟨h1, rfl⟩]
      simp -implicitDefEqProofs [ir_impl_drinfeldCode, ir_impl_drinfeldCode_B, e1, e, dn_cond]
  · rw [decide_eq_false h1] at e1
    rw [if_neg (fun h => h1 h.1)]
    simp -implicitDefEqProofs [ir_impl_drinfeldCode, ir_impl_drinfeldCode_B, e1, dn_cond]
open Classical in
theorem c_sDrCode (hT : T F_spec_l06Code = some ir_spec_l06Code) (hd : C_IsDr (den T A) F_spec_l06Is) (hc : C_sCode (den T A)) : C_drCode (den T A) F_spec_l06Code := by
  intro n u v w ls bu gu bv gv bw gw h hl
  have e := hc n ls h hl
  have e1 := hd n u v w bu gu bv gv bw gw
  unfold codeDr
  refine ask_of hT rfl ?_
  by_cases h1 : IsDr n u v w
  · rw [decide_eq_true h1] at e1
    have hp : isP n = true := by obtain ⟨ip, _⟩ := h1; exact isP_true
    unfold codeP at e
    cases h2 : ls.all (isPl n)
    · rw [h2, if_neg (by simp)] at e
      rw [if_neg (by simp)]
      simp -implicitDefEqProofs [ir_spec_l06Code, ir_spec_l06Code_B, e1, e, dn_cond]
    · rw [h2, if_pos ⟨hp, rfl⟩] at e
      rw [if_pos ⟨h1, rfl⟩]
      simp -implicitDefEqProofs [ir_spec_l06Code, ir_spec_l06Code_B, e1, e, dn_cond]
  · rw [decide_eq_false h1] at e1
    rw [if_neg (fun h => h1 h.1)]
    simp -implicitDefEqProofs [ir_spec_l06Code, ir_spec_l06Code_B, e1, dn_cond]
end Pe

namespace Pe
open Go Gq
variable {T : Nat → Option Fn} {A : Oracle}

section
variable {p : Int} [IsP p]
/-- So many powers of Frobenius. -/
noncomputable def frIt (m : Fp p) : Nat → Fp p → Fp p
  | 0, a => a
  | k + 1, a => frIt m k (pw a p.toNat % m)
theorem frIt_len {m : Fp p} (hm : m ≠ 0) : ∀ (k : Nat) (a : Fp p), a.len < m.len → (frIt m k a).len < m.len
  | 0, _, h => h
  | k + 1, _a, _ => frIt_len hm k _ (Pol.len_mod _ hm)
theorem frIt_mk {m : Fp p} : ∀ (k : Nat) (a : Fp p), Quo.mk m (frIt m k a) = pw (Quo.mk m a) (p.toNat ^ k)
  | 0, a => by rw [Nat.pow_zero, pw_1]; rfl
  | k + 1, a => by
    show Quo.mk m (frIt m k (pw a p.toNat % m)) = _
    rw [frIt_mk k, Pol.mk_mod, Quo.mk_pow, pw_pw, Nat.pow_succ, Nat.mul_comm]
theorem frIt_mod {m : Fp p} (hm : Fld m) (k : Nat) {a : Fp p} (ha : a.len < m.len) : frIt m (k % (m.len - 1)) a = frIt m k a := by
  have h2 := hm.two
  have h5 := hm.five
  have small : p ^ (m.len - 1) < 1000000000000 := by
    have h1 := ipow_mono (p := p) (by have := IsP.pos (p := p); omega) (show m.len - 1 ≤ 12 by omega)
    have h7 := ppow_le (p := p) (n := 12) (by omega)
    omega
  have hd : ∀ x : Quo m, pw x (p.toNat ^ (m.len - 1)) = x := fermat_all hm.irr (by omega) small
  have hq : ∀ (q : Nat) (x : Quo m), pw x (p.toNat ^ ((m.len - 1) * q)) = x := by
    intro q
    induction q with
    | zero => intro x; rw [Nat.mul_zero, Nat.pow_zero, pw_1]
    | succ q ih => intro x; rw [Nat.mul_succ, Nat.pow_add, ← pw_pw, ih, hd]
  have h0 : m ≠ 0 := hm.mon.2
  have e : Quo.mk m (frIt m (k % (m.len - 1)) a) = Quo.mk m (frIt m k a) := by
    rw [frIt_mk, frIt_mk]
    have hk : k = (m.len - 1) * (k / (m.len - 1)) + k % (m.len - 1) := (Nat.div_add_mod k (m.len - 1)).symm
    have : p.toNat ^ k = p.toNat ^ ((m.len - 1) * (k / (m.len - 1))) * p.toNat ^ (k % (m.len - 1)) := by rw [← Nat.pow_add, ← hk]
    rw [this, ← pw_pw, hq]
  have e2 := (Pol.mod_eq_iff h0).2 e
  rwa [Pol.mod_small (frIt_len h0 _ _ ha), Pol.mod_small (frIt_len h0 _ _ ha)] at e2

/-- The inverse of a residue. -/
noncomputable def invm (m a : Fp p) : Fp p := (Pol.bezout a m).2.1 % m
theorem invm_len {m : Fp p} (hm : m ≠ 0) (a : Fp p) : (invm m a).len < m.len := Pol.len_mod _ hm
theorem invm_ok {m a : Fp p} (hm : Fld m) (ha : a ≠ 0) (hal : a.len < m.len) : Quo.mk m (invm m a) * Quo.mk m a = 1 := by
  have h0 : m ≠ 0 := hm.mon.2
  have e := Pol.bezout_eq (a := a) (b := m) (.inl ha)
  have hg : Pol.gcd a m = 1 := by
    have h1 := Pol.gcd_monic (a := a) (b := m) (.inl ha)
    have h2 := Pol.gcd_dv_left (a := a) (b := m) (.inl ha)
    have h3 := Pol.gcd_dv_right (a := a) (b := m) (.inl ha)
    refine h1.eq_one ?_
    rcases hm.irr.dv h3 with h | h
    · exact h
    · have := h2.len ha
      omega
  rw [hg] at e
  unfold invm
  rw [Pol.mk_mod]
  have : Quo.mk m ((Pol.bezout a m).2.1 * a + (Pol.bezout a m).2.2 * m) = Quo.mk m 1 := by rw [e]
  rw [Quo.mk_add, Quo.mk_mul, Quo.mk_mul] at this
  have hm0 : Quo.mk m m = 0 := dv_iff_mk.1 (Dv.refl m)
  rw [hm0, Gq.mul_zero, Gq.add_zero] at this
  exact this
end

theorem frIt_succ {p : Int} [IsP p] (m : Fp p) : ∀ (k : Nat) (a : Fp p), frIt m (k + 1) a = frIt m k (pw a p.toNat % m) := fun _ _ => rfl
theorem prod_len {p : Int} [IsP p] {a b : Fp p} {n : Nat} (ha : a.len ≤ n) (hb : b.len ≤ n) : (a * b).len ≤ 2 * n := by
  by_cases h : a = 0
  · rw [h, Gq.zero_mul, Pol.len_zero]; omega
  · by_cases h2 : b = 0
    · rw [h2, Gq.mul_zero, Pol.len_zero]; omega
    · have := Pol.len_mul h h2; omega
def K_product (O : Oracle) : Prop := ∀ (p : Int) [IsP p] (m a b : Fp p), m ≠ 0 → m.len ≤ 64 → a.len ≤ 1000 → b.len ≤ 1000 → ask O F_impl_field_product [fldD m, (D.sl .leaf (ints .i64 (row a))), (D.sl .leaf (ints .i64 (row b)))] = some (D.sl .leaf (ints .i64 (row (a * b % m))))
theorem k_product (hT : T F_impl_field_product = some ir_impl_field_product) (ht : K_times (den T A)) (hr : K_rest (den T A)) : K_product (den T A) := by
  intro p ip m a b hm hml ha hb
  have e1 := ht p a b (by omega) (by omega)
  have hl := prod_len (n := 1000) ha hb
  have e2 := hr p (a * b) m hm (by omega) (by omega)
  refine ask_of hT rfl ?_
  simp -implicitDefEqProofs [ir_impl_field_product, ir_impl_field_product_B, e1, e2]

theorem l_frob {O : Oracle} (hpw : K_power O) {p : Int} [IsP p] {m : Fp p} (hm : m ≠ 0) (hml : m.len ≤ 64) {n : Nat} (hn : n < 1000000) : ∀ (k i : Nat) (a : Fp p), i + k = n → a.len ≤ 1000 →
    dn O 0 (.loop ir_impl_field_frobenius_L0) ⟨[(1, (.d (.sl .leaf (ints .i64 (row a))))), (3, .ptr 0 []), (11, (.d (.int .i64 n))), (12, (.d (.int .i64 i)))], [.box false (fldD m)]⟩ =
      some (.exit 0, ⟨[(1, (.d (.sl .leaf (ints .i64 (row (frIt m k a)))))), (3, .ptr 0 []), (11, (.d (.int .i64 n))), (12, (.d (.int .i64 n))), (13, (.d (.bool false)))], [.box false (fldD m)]⟩)
  | 0, i, a, hi, ha => by
    obtain rfl : i = n := by omega
    exact dn_stop (by simp -implicitDefEqProofs [ir_impl_field_frobenius_L0, dn_cond, frIt])
  | k + 1, i, a, hi, ha => by
    have hp := IsP.pos (p := p)
    have hp7 := IsP.le (p := p)
    have hlt : i < n := by omega
    have w4 : IntKind.i64.wrap ((i : Int) + 1) = ((i + 1 : Nat) : Int) := (w64 (x := (i : Int) + 1) (by omega)).trans (by omega)
    have e1 := hpw p a p m hm (by omega) (by omega) (by omega) (by omega)
    have hl := Pol.len_mod (pw a p.toNat) hm
    refine dn_round ?_ (l_frob hpw hm hml hn k (i + 1) (pw a p.toNat % m) (by omega) (by omega))
    simp -implicitDefEqProofs [ir_impl_field_frobenius_L0, dn_cond, hlt, e1, w4]
def K_frob (O : Oracle) : Prop := ∀ (p : Int) [IsP p] (m a : Fp p) (k : Nat), 2 ≤ m.len → m.len ≤ 64 → a.len ≤ 1000 → k < 1000000 → ask O F_impl_field_frobenius [fldD m, (D.sl .leaf (ints .i64 (row a))), (D.int .i64 k)] = some (D.sl .leaf (ints .i64 (row (frIt m (k % (m.len - 1)) a))))
theorem k_frob (hT : T F_impl_field_frobenius = some ir_impl_field_frobenius) (hpw : K_power (den T A)) (hdg : C_degree (den T A)) : K_frob (den T A) := by
  intro p ip m a k h2 hml ha hk
  have hm : m ≠ 0 := fun h => by rw [h, Pol.len_zero] at h2; omega
  have e1 := hdg (row m) (by rw [row_length]; omega)
  rw [row_length, show ((m.len : Int) - 1) = ((m.len - 1 : Nat) : Int) by omega] at e1
  have hlt := Nat.mod_lt k (show 0 < m.len - 1 by omega)
  have e2 := l_frob (O := den T A) hpw hm hml (n := k % (m.len - 1)) (by omega) (k % (m.len - 1)) 0 a (Nat.zero_add _) ha
  have e00 : ((0 : Nat) : Int) = 0 := rfl
  rw [e00] at e2
  have w1 : (k : Int).tmod ((m.len - 1 : Nat) : Int) = ((k % (m.len - 1) : Nat) : Int) := by rw [Int.tmod_eq_emod_of_nonneg (by omega)]; rfl
  have h0 : ((m.len - 1 : Nat) : Int) ≠ 0 := by omega
  refine ask_of hT rfl ?_
  generalize row (frIt m (k % (m.len - 1)) a) = R at *
  generalize ((k % (m.len - 1) : Nat) : Int) = n1 at *
  generalize ((m.len - 1 : Nat) : Int) = m1 at *
  simp -implicitDefEqProofs [ir_impl_field_frobenius, ir_impl_field_frobenius_B, e1, e2, w1, h0]

def K_inverted (O : Oracle) : Prop := ∀ (p : Int) [IsP p] (m a : Fp p), m ≠ 0 → m.len ≤ 64 → a.len ≤ 1000 → ask O F_impl_field_inverted [fldD m, (D.sl .leaf (ints .i64 (row a)))] = some (D.sl .leaf (ints .i64 (row (invm m a))))
theorem bez_small {p : Int} [IsP p] {a b : Fp p} (h : a ≠ 0 ∨ b ≠ 0) (_ha : a.len ≤ 1000) (hb : b.len ≤ 1000) : (Pol.bezout a b).2.1.len < 5000 := by
  obtain ⟨x, y, hi, _, _⟩ := Pol.bz_spec b.len a b 1 0 0 1 (Nat.le_refl _) (Pol.BzI.init h)
  have h1 := hi.lu
  rw [Pol.len_zero] at h1
  have : (Pol.bezout a b).2.1.len ≤ (Pol.bz b.len a b 1 0 0 1).2.1.len := Pol.len_le (Pol.lt_Cmul _ (Pol.lt_len _))
  omega
theorem k_inverted (hT : T F_impl_field_inverted = some ir_impl_field_inverted) (hb : K_bezout (den T A)) (hr : K_rest (den T A)) : K_inverted (den T A) := by
  intro p ip m a hm hml ha
  have e1 := hb p a m (.inr hm) (by omega) (by omega)
  have hl := bez_small (a := a) (b := m) (.inr hm) ha (by omega)
  have e2 := hr p (Pol.bezout a m).2.1 m hm hl (by omega)
  have e3 : (Pol.bezout a m).2.1 % m = invm m a := rfl
  rw [e3] at e2
  refine ask_of hT rfl ?_
  generalize row (invm m a) = R at *
  generalize row (Pol.bezout a m).1 = R1 at *
  generalize row (Pol.bezout a m).2.1 = R2 at *
  generalize row (Pol.bezout a m).2.2 = R3 at *
  simp -implicitDefEqProofs [ir_impl_field_inverted, ir_impl_field_inverted_B, e1, e2]

def K_sInv2 (O : Oracle) : Prop := ∀ (p : Int) [IsP p] (m a : Fp p), m ≠ 0 → m.len ≤ 63 → a ≠ 0 → a.len < m.len → ask O F_spec_l02Inverse [(D.int .i64 p), (D.arr 64 .leaf (ints .u8 (pad (row a)))), (D.arr 64 .leaf (ints .u8 (pad (row m))))] = some (D.arr 64 .leaf (ints .u8 (pad (row (invm m a)))))
theorem bez_64 {p : Int} [IsP p] {a b : Fp p} (h : a ≠ 0) (hb : b.len ≤ 63) : (Pol.bezout a b).2.1.len ≤ 64 := by
  obtain ⟨x, y, hi, _, _⟩ := Pol.bz_spec b.len a b 1 0 0 1 (Nat.le_refl _) (Pol.BzI.init (.inl h))
  have h1 := hi.lu
  rw [Pol.len_zero] at h1
  have : (Pol.bezout a b).2.1.len ≤ (Pol.bz b.len a b 1 0 0 1).2.1.len := Pol.len_le (Pol.lt_Cmul _ (Pol.lt_len _))
  omega
theorem k_sInv2 (hT : T F_spec_l02Inverse = some ir_spec_l02Inverse) (hmo : K_sMod (den T A)) (hb : K_sBezout (den T A)) : K_sInv2 (den T A) := by
  intro p ip m a hm hml ha hal
  have e1 := hmo p a m hm (by omega) (by omega)
  rw [Pol.mod_small hal] at e1
  have e2 := hb p a m ha (by omega) (by omega)
  have e3 := hmo p (Pol.bezout a m).2.1 m hm (bez_64 ha hml) (by omega)
  have e4 : (Pol.bezout a m).2.1 % m = invm m a := rfl
  rw [e4] at e3
  refine ask_of hT rfl ?_
  generalize pad (row (invm m a)) = R at *
  generalize pad (row (Pol.bezout a m).1) = R1 at *
  generalize pad (row (Pol.bezout a m).2.1) = R2 at *
  generalize pad (row (Pol.bezout a m).2.2) = R3 at *
  generalize pad (row a) = Pa at *
  generalize pad (row m) = Pm at *
  simp -implicitDefEqProofs [ir_spec_l02Inverse, ir_spec_l02Inverse_B, e1, e2, e3, List.replicate]

/-! ### a module's own -/
def K_sTimes6 (O : Oracle) : Prop := ∀ (p : Int) [IsP p] (m a b : Fp p) (v w : List Int), m ≠ 0 → m.len ≤ 64 → a.len ≤ 64 → b.len ≤ 64 → ask O F_spec_l06Times [drD p (pad (row m)) v w, (D.arr 64 .leaf (ints .u8 (pad (row a)))), (D.arr 64 .leaf (ints .u8 (pad (row b))))] = some (D.arr 64 .leaf (ints .u8 (pad (row (a * b % m)))))
theorem k_sTimes6 (hT : T F_spec_l06Times = some ir_spec_l06Times) (hmm : K_sMulMod (den T A)) : K_sTimes6 (den T A) := by
  intro p ip m a b v w hm hml ha hb
  have e1 := hmm p a b m hm hml ha hb
  refine ask_of hT rfl ?_
  generalize pad (row (a * b % m)) = R at *
  generalize pad (row a) = Pa at *
  generalize pad (row b) = Pb at *
  generalize pad (row m) = Pm at *
  simp -implicitDefEqProofs [ir_spec_l06Times, ir_spec_l06Times_B, e1, List.replicate]
theorem l_sUp6 {O : Oracle} (hpw : K_sPowMod O) {p : Int} [IsP p] {m : Fp p} {v w z : List Int} (hm : m ≠ 0) (hml : m.len ≤ 64) : ∀ (k : Nat) (a : Fp p), k < 1000000 → a.len ≤ 64 →
    dn O 0 (.loop ir_spec_l06Up_L0) ⟨[(2, (.d (.int .i64 k))), (3, .ptr 0 []), (4, .ptr 1 []), (6, .ptr 2 [])], [.box false (drD p (pad (row m)) v w), .box false (D.arr 64 .leaf (ints .u8 (pad (row a)))), .box false (D.arr 64 .leaf (ints .u8 z))]⟩ =
      some (.exit 0, ⟨[(2, (.d (.int .i64 0))), (3, .ptr 0 []), (4, .ptr 1 []), (6, .ptr 2 []), (8, (.d (.bool false)))], [.box false (drD p (pad (row m)) v w), .box false (D.arr 64 .leaf (ints .u8 (pad (row (frIt m k a))))), .box false (D.arr 64 .leaf (ints .u8 z))]⟩)
  | 0, a, hk, ha => by
    refine dn_stop ?_
    show _ = some (_, (⟨_, [_, .box false (D.arr 64 .leaf (ints .u8 (pad (row a)))), _]⟩ : St))
    generalize pad (row a) = Pa at *
    generalize pad (row m) = Pm at *
    simp -implicitDefEqProofs [ir_spec_l06Up_L0, dn_cond]
  | k + 1, a, hk, ha => by
    have hp := IsP.pos (p := p)
    have hp7 := IsP.le (p := p)
    have w4 : IntKind.i64.wrap (((k + 1 : Nat) : Int) - 1) = (k : Int) := (w64 (x := ((k + 1 : Nat) : Int) - 1) (by omega)).trans (by omega)
    have hlt : (0 : Int) < ((k + 1 : Nat) : Int) := by omega
    have e1 := hpw p a p m hm ha hml (by omega) (by omega)
    have hl := Pol.len_mod (pw a p.toNat) hm
    refine dn_round ?_ (l_sUp6 hpw hm hml k (pw a p.toNat % m) (by omega) (by omega))
    generalize ((k + 1 : Nat) : Int) = k1 at *
    generalize pad (row (pw a p.toNat % m)) = R at *
    generalize pad (row a) = Pa at *
    generalize pad (row m) = Pm at *
    simp -implicitDefEqProofs [ir_spec_l06Up_L0, dn_cond, hlt, e1, w4]
def K_sUp6 (O : Oracle) : Prop := ∀ (p : Int) [IsP p] (m a : Fp p) (v w : List Int) (k : Nat), m ≠ 0 → m.len ≤ 64 → a.len ≤ 64 → k < 1000000 → ask O F_spec_l06Up [drD p (pad (row m)) v w, (D.arr 64 .leaf (ints .u8 (pad (row a)))), (D.int .i64 k)] = some (D.arr 64 .leaf (ints .u8 (pad (row (frIt m k a)))))
theorem k_sUp6 (hT : T F_spec_l06Up = some ir_spec_l06Up) (hpw : K_sPowMod (den T A)) : K_sUp6 (den T A) := by
  intro p ip m a v w k hm hml ha hk
  have e1 := l_sUp6 (O := den T A) (v := v) (w := w) (z := pad []) hpw hm hml k a hk ha
  refine ask_of hT rfl ?_
  generalize pad (row (frIt m k a)) = R at *
  generalize pad (row a) = Pa at *
  generalize pad (row m) = Pm at *
  simp -implicitDefEqProofs [ir_spec_l06Up, ir_spec_l06Up_B, e1, List.replicate]
def K_drField (O : Oracle) : Prop := ∀ (p : Int) [IsP p] (m : Fp p) (v w : List Int), m.len ≤ 64 → ask O F_impl_Drinfeld_field [drD p (pad (row m)) v w] = some (fldD m)
theorem k_drField (hT : T F_impl_Drinfeld_field = some ir_impl_Drinfeld_field) (hfo : K_fieldOf (den T A)) : K_drField (den T A) := by
  intro p ip m v w hml
  have e1 := hfo p m hml
  refine ask_of hT rfl ?_
  generalize pad (row m) = Pm at *
  simp -implicitDefEqProofs [ir_impl_Drinfeld_field, ir_impl_Drinfeld_field_B, e1, List.replicate]
end Pe

namespace Pe
open Go Gq
variable {T : Nat → Option Fn} {A : Oracle}

section
variable {p : Int} [IsP p]
theorem one_ne_quo {m : Fp p} (h2 : 2 ≤ m.len) : (1 : Quo m) ≠ 0 := fun h => by
  have : Dv m 1 := dv_iff_mk.2 h
  have := this.len Pol.one_ne
  rw [Pol.len_one] at this
  omega
theorem pw_res {m c : Fp p} (hm : Fld m) (hc : c ≠ 0) (hcl : c.len < m.len) (k : Nat) : pw c k % m ≠ 0 ∧ (pw c k % m).len < m.len := by
  have h0 : m ≠ 0 := hm.mon.2
  refine ⟨fun h => ?_, Pol.len_mod _ h0⟩
  have h1 : Quo.mk m (pw c k) = 0 := by rw [← Pol.mk_mod, h]; rfl
  rw [Quo.mk_pow] at h1
  have h2 := invm_ok hm hc hcl
  have h3 : pw (Quo.mk m (invm m c) * Quo.mk m c) k = 0 := by rw [pw_mul, h1, Gq.mul_zero]
  rw [h2, pw_one] at h3
  exact one_ne_quo hm.two h3
theorem invm_pw {m c : Fp p} (hm : Fld m) (hc : c ≠ 0) (hcl : c.len < m.len) (k : Nat) : Quo.mk m (invm m (pw c k % m)) = pw (Quo.mk m (invm m c)) k := by
  obtain ⟨h1, h2⟩ := pw_res hm hc hcl k
  have e1 := invm_ok hm h1 h2
  rw [Pol.mk_mod, Quo.mk_pow] at e1
  have e2 := invm_ok hm hc hcl
  have e3 : pw (Quo.mk m (invm m c) * Quo.mk m c) k = 1 := by rw [e2, pw_one]
  rw [pw_mul] at e3
  generalize Quo.mk m (invm m (pw c k % m)) = y at *
  generalize pw (Quo.mk m c) k = z at *
  generalize pw (Quo.mk m (invm m c)) k = x at *
  have e4 : y * (x * z) = y := by rw [e3, Gq.mul_one]
  have e5 : y * (x * z) = (y * z) * x := ring_of [y, x, z] rfl
  rw [e5, e1, Gq.one_mul] at e4
  exact e4.symm
theorem twist_eq {m c : Fp p} (hm : Fld m) (hc : c ≠ 0) (hcl : c.len < m.len) (k : Nat) (g : Fp p) : invm m (pw c k % m) * g % m = g * (pw (invm m c) k % m) % m := by
  rw [Pol.mod_eq_iff hm.mon.2, Quo.mk_mul, Quo.mk_mul, invm_pw hm hc hcl, Pol.mk_mod, Quo.mk_pow, Gq.mul_comm]
end

/-- Twisted coefficients. -/
noncomputable def twc {p : Int} [IsP p] (m c g : Fp p) (k : Nat) : Fp p := invm m (pw c k % m) * g % m
def K_twist (O : Oracle) : Prop := ∀ (p : Int) [IsP p] (m g d c : Fp p), Fld m → g.len < m.len → d.len < m.len → c ≠ 0 → c.len < m.len →
  ask O F_impl_Drinfeld_twist [drD p (pad (row m)) (pad (row g)) (pad (row d)), (D.sl .leaf (ints .i64 (row c)))] = some (drD p (pad (row m)) (pad (row (twc m c g (p - 1).toNat))) (pad (row (twc m c d (p * p - 1).toNat))))
theorem k_twist (hT : T F_impl_Drinfeld_twist = some ir_impl_Drinfeld_twist) (hfi : K_drField (den T A)) (hpw : K_power (den T A)) (hin : K_inverted (den T A)) (hro : K_rowOf (den T A)) (hpr : K_product (den T A)) (hpo : K_poly (den T A)) : K_twist (den T A) := by
  intro p ip m g d c hm hg hd hc hcl
  have hp := IsP.pos (p := p)
  have hp7 := IsP.le (p := p)
  have h0 : m ≠ 0 := hm.mon.2
  have h5 := hm.five
  have gm := mul_small (x := p) (y := p) (b := 10) (c := 10) (by omega) (by omega) (by omega)
  have gm0 := Int.mul_nonneg (show 0 ≤ p by omega) (show 0 ≤ p by omega)
  have gp : 1 ≤ p * p := by
    have := Int.mul_pos hp hp; omega
  have w1 : IntKind.i64.wrap (p - 1) = p - 1 := w64 (by omega)
  have w2 : IntKind.i64.wrap (p * p) = p * p := w64 (by omega)
  have w3 : IntKind.i64.wrap (p * p - 1) = p * p - 1 := w64 (by omega)
  have e1 := hfi p m (pad (row g)) (pad (row d)) (by omega)
  have e2 := hpw p c (p - 1) m h0 (by omega) (by omega) (by omega) (by omega)
  have e3 := hpw p c (p * p - 1) m h0 (by omega) (by omega) (by omega) (by omega)
  have l2 := Pol.len_mod (pw c (p - 1).toNat) h0
  have l3 := Pol.len_mod (pw c (p * p - 1).toNat) h0
  have e4 := hin p m (pw c (p - 1).toNat % m) h0 (by omega) (by omega)
  have e5 := hin p m (pw c (p * p - 1).toNat % m) h0 (by omega) (by omega)
  have l4 := invm_len h0 (pw c (p - 1).toNat % m)
  have l5 := invm_len h0 (pw c (p * p - 1).toNat % m)
  have e6 := hro p g (by omega)
  have e7 := hro p d (by omega)
  have e8 := hpr p m (invm m (pw c (p - 1).toNat % m)) g h0 (by omega) (by omega) (by omega)
  have e9 := hpr p m (invm m (pw c (p * p - 1).toNat % m)) d h0 (by omega) (by omega) (by omega)
  have l8 := Pol.len_mod (invm m (pw c (p - 1).toNat % m) * g) h0
  have l9 := Pol.len_mod (invm m (pw c (p * p - 1).toNat % m) * d) h0
  have e10 := hpo p (invm m (pw c (p - 1).toNat % m) * g % m) (by omega)
  have e11 := hpo p (invm m (pw c (p * p - 1).toNat % m) * d % m) (by omega)
  refine ask_of hT rfl ?_
  unfold twc
  generalize pad (row (invm m (pw c (p - 1).toNat % m) * g % m)) = P1 at *
  generalize pad (row (invm m (pw c (p * p - 1).toNat % m) * d % m)) = P2 at *
  generalize row (invm m (pw c (p - 1).toNat % m) * g % m) = R1 at *
  generalize row (invm m (pw c (p * p - 1).toNat % m) * d % m) = R2 at *
  generalize row (invm m (pw c (p - 1).toNat % m)) = R3 at *
  generalize row (invm m (pw c (p * p - 1).toNat % m)) = R4 at *
  generalize row (pw c (p - 1).toNat % m) = R5 at *
  generalize row (pw c (p * p - 1).toNat % m) = R6 at *
  generalize pad (row m) = Pm at *
  generalize pad (row g) = Pg at *
  generalize pad (row d) = Pd at *
  simp -implicitDefEqProofs [ir_impl_Drinfeld_twist, ir_impl_Drinfeld_twist_B, w1, w2, w3, e1, e2, e3, e4, e5, e6, e7, e8, e9, e10, e11, List.replicate]

def K_sTwist (O : Oracle) : Prop := ∀ (p : Int) [IsP p] (m g d c : Fp p), Fld m → g.len < m.len → d.len < m.len → c ≠ 0 → c.len < m.len →
  ask O F_spec_l06Twist [drD p (pad (row m)) (pad (row g)) (pad (row d)), (D.arr 64 .leaf (ints .u8 (pad (row c))))] = some (drD p (pad (row m)) (pad (row (twc m c g (p - 1).toNat))) (pad (row (twc m c d (p * p - 1).toNat))))
theorem k_sTwist (hT : T F_spec_l06Twist = some ir_spec_l06Twist) (hin : K_sInv2 (den T A)) (hpw : K_sPowMod (den T A)) (hti : K_sTimes6 (den T A)) : K_sTwist (den T A) := by
  intro p ip m g d c hm hg hd hc hcl
  have hp := IsP.pos (p := p)
  have hp7 := IsP.le (p := p)
  have h0 : m ≠ 0 := hm.mon.2
  have h5 := hm.five
  have gm := mul_small (x := p) (y := p) (b := 10) (c := 10) (by omega) (by omega) (by omega)
  have gp : 1 ≤ p * p := by
    have := Int.mul_pos hp hp; omega
  have w1 : IntKind.i64.wrap (p - 1) = p - 1 := w64 (by omega)
  have w2 : IntKind.i64.wrap (p * p) = p * p := w64 (by omega)
  have w3 : IntKind.i64.wrap (p * p - 1) = p * p - 1 := w64 (by omega)
  have e1 := hin p m c h0 (by omega) hc hcl
  have l1 := invm_len h0 c
  have e2 := hpw p (invm m c) (p - 1) m h0 (by omega) (by omega) (by omega) (by omega)
  have e3 := hpw p (invm m c) (p * p - 1) m h0 (by omega) (by omega) (by omega) (by omega)
  have l2 := Pol.len_mod (pw (invm m c) (p - 1).toNat) h0
  have l3 := Pol.len_mod (pw (invm m c) (p * p - 1).toNat) h0
  have e4 := hti p m g (pw (invm m c) (p - 1).toNat % m) (pad (row g)) (pad (row d)) h0 (by omega) (by omega) (by omega)
  have e5 := hti p m d (pw (invm m c) (p * p - 1).toNat % m) (pad (row g)) (pad (row d)) h0 (by omega) (by omega) (by omega)
  rw [← twist_eq hm hc hcl] at e4 e5
  refine ask_of hT rfl ?_
  unfold twc
  generalize pad (row (invm m (pw c (p - 1).toNat % m) * g % m)) = P1 at *
  generalize pad (row (invm m (pw c (p * p - 1).toNat % m) * d % m)) = P2 at *
  generalize pad (row (pw (invm m c) (p - 1).toNat % m)) = P3 at *
  generalize pad (row (pw (invm m c) (p * p - 1).toNat % m)) = P4 at *
  generalize pad (row (invm m c)) = P5 at *
  generalize pad (row m) = Pm at *
  generalize pad (row g) = Pg at *
  generalize pad (row d) = Pd at *
  generalize pad (row c) = Pc at *
  simp -implicitDefEqProofs [ir_spec_l06Twist, ir_spec_l06Twist_B, w1, w2, w3, e1, e2, e3, e4, e5, List.replicate]
end Pe

namespace Pe
open Go
def ir_laws_FnExactClassSum_B : Cd :=
  .seq (.region [⟨some 3, .box false 0 (.t 1), none, []⟩,
  ⟨some 4, .mv (.c (.bool false)), none, []⟩] [0, 3])
  (.seq (.region [⟨some 10, .mv (.t 0), none, []⟩,
  ⟨some 11, .load (.arr 64 .leaf) (.t 3), none, []⟩,
  ⟨some 12, .call .flat [] (.f F_laws_toPoly) [(.t 11)], none, []⟩,
  ⟨some 13, .call .flat [] (.f F_spec_ClassSum) [(.t 10), (.t 12)], none, []⟩,
  ⟨some 9, .mv (.t 13), none, []⟩,
  ⟨some 14, .ext (.t 9) 0, none, []⟩,
  ⟨some 15, .ext (.t 9) 1, none, []⟩,
  ⟨some 5, .mv (.t 14), none, []⟩,
  ⟨some 6, .mv (.t 15), none, []⟩] [0, 3, 5, 6])
  (.seq (.region [⟨some 17, .mv (.t 0), none, []⟩,
  ⟨some 18, .load (.arr 64 .leaf) (.t 3), none, []⟩,
  ⟨some 19, .call .flat [] (.f F_laws_toPoly) [(.t 18)], none, []⟩,
  ⟨some 20, .call .flat [] (.f F_impl_ClassSum) [(.t 17), (.t 19)], none, []⟩,
  ⟨some 16, .mv (.t 20), none, []⟩,
  ⟨some 21, .ext (.t 16) 0, none, []⟩,
  ⟨some 22, .ext (.t 16) 1, none, []⟩,
  ⟨some 7, .mv (.t 21), none, []⟩,
  ⟨some 8, .mv (.t 22), none, []⟩] [5, 6, 7, 8])
  (.seq (.seq (.region [⟨some 23, .mv (.t 7), none, []⟩,
  ⟨some 24, .mv (.t 5), none, []⟩,
  ⟨some 25, .bin .neq (.t 23) (.t 24), none, []⟩,
  ⟨some 26, .mv (.t 25), none, []⟩,
  ⟨some 27, .mv (.t 8), some (26, false), []⟩,
  ⟨some 28, .mv (.t 6), some (26, false), []⟩,
  ⟨some 29, .bin .neq (.t 27) (.t 28), some (26, false), []⟩,
  ⟨some 30, .pick (.t 26) (.c (.bool true)) (.t 29), none, []⟩] [30])
  (.cond (.t 30)
  (.seq (.region [⟨some 4, .mv (.c (.bool false)), none, []⟩] [4])
  (.ret))
  (.skip)))
  (.seq (.region [⟨some 4, .mv (.c (.bool true)), none, []⟩] [4])
  (.ret)))))
def ir_laws_FnExactClassSum : Fn :=
  { nparams := 2, nblk := 1, results := [.tmp 4], body := ir_laws_FnExactClassSum_B }
end Pe

namespace Pe
open Go Gq
variable {T : Nat → Option Fn} {A : Oracle}

def C_toPoly (O : Oracle) : Prop := ∀ (l : List Int), Bytes l → l.length = 64 → ask O F_laws_toPoly [(D.arr 64 .leaf (ints .u8 l))] = some (D.arr 64 .leaf (ints .u8 l))
theorem l_toPoly {O : Oracle} {l : List Int} (hb : Bytes l) (hl : l.length = 64) {b1 : Blk} : ∀ (m i : Nat) (q : List Int), i + m = 64 → q.length = 64 → q.take i = l.take i →
    dn O 0 (.loop ir_laws_toPoly_L0) ⟨[(1, .ptr 0 []), (2, .ptr 1 []), (3, .ptr 2 []), (4, (.d (.int .i64 i)))], [.box false (D.arr 64 .leaf (ints .u8 l)), b1, .box false (D.arr 64 .leaf (ints .u8 q))]⟩ =
      some (.exit 0, ⟨[(1, .ptr 0 []), (2, .ptr 1 []), (3, .ptr 2 []), (4, (.d (.int .i64 64))), (6, (.d (.bool false)))], [.box false (D.arr 64 .leaf (ints .u8 l)), b1, .box false (D.arr 64 .leaf (ints .u8 l))]⟩)
  | 0, i, q, hi, hq, ht => by
    obtain rfl : i = 64 := by omega
    rw [List.take_of_length_le (by omega), List.take_of_length_le (by omega)] at ht
    subst ht
    exact dn_stop (by simp -implicitDefEqProofs [ir_laws_toPoly_L0, dn_cond])
  | m + 1, i, q, hi, hq, ht => by
    have hlt : i < 64 := by omega
    have hlti : (i : Int) < 64 := by omega
    have hlt' : i < l.length := by omega
    have hltq : i < q.length := by omega
    have hx : l[i] = cf l i := (cf_lt hlt').symm
    have w8' : IntKind.u8.wrap (cf l i) = cf l i := by rw [← hx]; exact w8 (hb _ (List.getElem_mem _))
    have w4 : IntKind.i64.wrap ((i : Int) + 1) = ((i + 1 : Nat) : Int) := (w64 (x := (i : Int) + 1) (by omega)).trans (by omega)
    have hs : ints .u8 (q.set i (cf l i)) = (ints .u8 q).set i (D.int .u8 (cf l i)) := by unfold ints; rw [List.map_set]
    refine dn_round ?_ (l_toPoly hb hl m (i + 1) (q.set i (cf l i)) (by omega) (by rw [List.length_set]; exact hq) (by
      rw [List.take_succ_eq_append_getElem hlt', List.take_succ_eq_append_getElem (by rw [List.length_set]; exact hltq), List.getElem_set_self, List.take_set, List.set_eq_of_length_le (by rw [List.length_take]; omega), ht, hx]))
    rw [hs]
    simp -implicitDefEqProofs [ir_laws_toPoly_L0, dn_cond, hlt, hlti, hx, hl, hq, w4]
theorem c_toPoly (hT : T F_laws_toPoly = some ir_laws_toPoly) : C_toPoly (den T A) := by
  intro l hb hl
  have e := l_toPoly (O := den T A) hb hl (b1 := .box false (.arr 64 .leaf (ints .u8 (pad [])))) 64 0 (List.replicate 64 0) rfl rfl (by simp)
  have e00 : ((0 : Nat) : Int) = 0 := rfl
  rw [e00] at e
  have hz : List.replicate 64 (0 : Int) = pad [] := rfl
  rw [hz] at e
  refine ask_of hT rfl ?_
  simp -implicitDefEqProofs [ir_laws_toPoly, ir_laws_toPoly_B, e]

def L_ClassSum (O : Oracle) : Prop := ∀ (p : Int) (l : List Int), Bytes l → l.length = 64 → ask O F_laws_FnExactClassSum [(D.int .i64 p), (D.arr 64 .leaf (ints .u8 l))] = some (D.bool true)
theorem law_ClassSum (hT : T F_laws_FnExactClassSum = some ir_laws_FnExactClassSum) (hp : C_toPoly (den T A)) (hi : K_ClassSum (den T A) F_impl_ClassSum) (hs : K_ClassSum (den T A) F_spec_ClassSum) : L_ClassSum (den T A) := by
  intro p l hb hl
  have e1 := hp l hb hl
  have e2 := hi p l hb hl
  have e3 := hs p l hb hl
  obtain ⟨s, c, e4, -⟩ := symPolyD_form p hb hl
  rw [e4, sumD_eq] at e2 e3
  refine ask_of hT rfl ?_
  simp -implicitDefEqProofs [ir_laws_FnExactClassSum, ir_laws_FnExactClassSum_B, dn_cond, e1, e2, e3]
end Pe

namespace Pe
open Go Gq
variable {T : Nat → Option Fn} {A : Oracle}

/-! ### laws on polynomials and modules -/
theorem l_eqPoly {O : Oracle} {l : List Int} (hl : l.length = 64) : ∀ (k i : Nat), i + k = 64 →
    dn O 0 (.loop ir_laws_eqPoly_L0) ⟨[(2, .ptr 0 []), (3, .ptr 1 []), (5, (.d (.int .i64 i)))], [.box false (D.arr 64 .leaf (ints .u8 l)), .box false (D.arr 64 .leaf (ints .u8 l))]⟩ = some (.exit 0, ⟨[(2, .ptr 0 []), (3, .ptr 1 []), (5, (.d (.int .i64 64))), (7, (.d (.bool false)))], [.box false (D.arr 64 .leaf (ints .u8 l)), .box false (D.arr 64 .leaf (ints .u8 l))]⟩)
  | 0, i, hi => by
    obtain rfl : i = 64 := by omega
    exact dn_stop (by simp -implicitDefEqProofs [ir_laws_eqPoly_L0, dn_cond])
  | k + 1, i, hi => by
    have hlt : i < 64 := by omega
    have hlti : (i : Int) < 64 := by omega
    have hlt' : i < l.length := by omega
    have hx : l[i] = cf l i := (cf_lt hlt').symm
    have w4 : IntKind.i64.wrap ((i : Int) + 1) = ((i + 1 : Nat) : Int) := (w64 (x := (i : Int) + 1) (by omega)).trans (by omega)
    refine dn_round ?_ (l_eqPoly hl k (i + 1) (by omega))
    simp -implicitDefEqProofs [ir_laws_eqPoly_L0, dn_cond, hlt, hlti, hl, hx, w4]
def C_eqPoly (O : Oracle) : Prop := ∀ l : List Int, l.length = 64 → ask O F_laws_eqPoly [(D.arr 64 .leaf (ints .u8 l)), (D.arr 64 .leaf (ints .u8 l))] = some (D.bool true)
theorem c_eqPoly (hT : T F_laws_eqPoly = some ir_laws_eqPoly) : C_eqPoly (den T A) := by
  intro l hl
  have e := l_eqPoly (O := den T A) hl 64 0 rfl
  have e00 : ((0 : Nat) : Int) = 0 := rfl
  rw [e00] at e
  refine ask_of hT rfl ?_
  simp -implicitDefEqProofs [ir_laws_eqPoly, ir_laws_eqPoly_B, e, List.replicate]
def C_toDr (O : Oracle) : Prop := ∀ (n : Int) (u v w : List Int), Bytes u → u.length = 64 → Bytes v → v.length = 64 → Bytes w → w.length = 64 → ask O F_laws_toDrinfeld [drD n u v w] = some (drD n u v w)
theorem c_toDr (hT : T F_laws_toDrinfeld = some ir_laws_toDrinfeld) (hp : C_toPoly (den T A)) : C_toDr (den T A) := by
  intro n u v w bu gu bv gv bw gw
  have e1 := hp u bu gu
  have e2 := hp v bv gv
  have e3 := hp w bw gw
  refine ask_of hT rfl ?_
  simp -implicitDefEqProofs [ir_laws_toDrinfeld, ir_laws_toDrinfeld_B, e1, e2, e3, List.replicate]
def C_eqDr (O : Oracle) : Prop := ∀ (n : Int) (u v w : List Int), u.length = 64 → v.length = 64 → w.length = 64 → ask O F_laws_eqDrinfeld [drD n u v w, drD n u v w] = some (D.bool true)
theorem c_eqDr (hT : T F_laws_eqDrinfeld = some ir_laws_eqDrinfeld) (hp : C_eqPoly (den T A)) : C_eqDr (den T A) := by
  intro n u v w gu gv gw
  have e1 := hp u gu
  have e2 := hp v gv
  have e3 := hp w gw
  refine ask_of hT rfl ?_
  simp -implicitDefEqProofs [ir_laws_eqDrinfeld, ir_laws_eqDrinfeld_B, dn_cond, e1, e2, e3, List.replicate]

/-! ### twists -/
abbrev drZ : D := drD 0 (pad []) (pad []) (pad [])
open Classical in
noncomputable def twistD (n : Int) (u v w c : List Int) : D :=
  if h : IsDr n u v w ∧ isPl n c = true then
    haveI : IsP n := h.1.choose
    if (polOf n c : Fp n) ≠ 0 ∧ (polOf n c : Fp n).len < (polOf n u : Fp n).len then
      .tup [drD n u (pad (row (twc (polOf n u) (polOf n c) (polOf n v) (n - 1).toNat))) (pad (row (twc (polOf n u) (polOf n c) (polOf n w) (n * n - 1).toNat))), (D.int .i64 0)]
    else .tup [drZ, (D.int .i64 2)]
  else .tup [drZ, (D.int .i64 1)]
theorem twistD_bad {n : Int} {u v w c : List Int} (h : ¬ (IsDr n u v w ∧ isPl n c = true)) : twistD n u v w c = .tup [drZ, (D.int .i64 1)] := by
  unfold twistD
  rw [dif_neg h]
open Classical in
theorem twistD_good {p : Int} [IsP p] {m g d c : Fp p} (h : IsDr p (pad (row m)) (pad (row g)) (pad (row d))) (hm : m.len ≤ 64) (hg : g.len ≤ 64) (hd : d.len ≤ 64) (hc : c.len ≤ 64) :
    twistD p (pad (row m)) (pad (row g)) (pad (row d)) (pad (row c)) = if c ≠ 0 ∧ c.len < m.len then .tup [drD p (pad (row m)) (pad (row (twc m c g (p - 1).toNat))) (pad (row (twc m c d (p * p - 1).toNat))), (D.int .i64 0)] else .tup [drZ, (D.int .i64 2)] := by
  unfold twistD
  rw [dif_pos ⟨h, isPl_row⟩, polOf_pad hm, polOf_pad hg, polOf_pad hd, polOf_pad hc]
theorem codeDr_one {n : Int} {u v w c : List Int} (h : ¬ (IsDr n u v w ∧ isPl n c = true)) : codeDr n u v w [c] = 1 := by
  unfold codeDr
  rw [if_neg]
  rintro ⟨h1, h2⟩
  exact h ⟨h1, by simpa using h2⟩
theorem codeDr_zero {n : Int} {u v w c : List Int} (h1 : IsDr n u v w) (h2 : isPl n c = true) : codeDr n u v w [c] = 0 := by
  unfold codeDr
  rw [if_pos ⟨h1, by simpa using h2⟩]
def K_TwistOf (O : Oracle) (F : Nat) : Prop := ∀ (n : Int) (u v w c : List Int), Bytes u → u.length = 64 → Bytes v → v.length = 64 → Bytes w → w.length = 64 → Bytes c → c.length = 64 → ask O F [drD n u v w, (D.arr 64 .leaf (ints .u8 c))] = some (twistD n u v w c)
open Classical in
theorem k_TwistOf (hT : T F_impl_TwistOf = some ir_impl_TwistOf) (hcd : C_drCode (den T A) F_impl_drinfeldCode) (hfi : K_drField (den T A)) (hir : C_isRes (den T A)) (hro : K_rowOf (den T A)) (htw : K_twist (den T A)) : K_TwistOf (den T A) F_impl_TwistOf := by
  intro n u v w c bu gu bv gv bw gw bc gc
  have e1 := hcd n u v w [c] bu gu bv gv bw gw (by intro x hx; simp at hx; subst hx; exact ⟨gc, bc⟩) (by simp)
  rw [show List.map arr8 [c] = [(D.arr 64 .leaf (ints .u8 c))] from rfl] at e1
  refine ask_of hT rfl ?_
  by_cases h : IsDr n u v w ∧ isPl n c = true
  · obtain ⟨h1, h2⟩ := h
    rw [codeDr_zero h1 h2] at e1
    have h1' := h1
    obtain ⟨ip, m, g, d, rfl, rfl, rfl, hm, hg, hd, hd0⟩ := h1
    obtain ⟨a, hal, rfl⟩ := row_of_isPl bc gc h2
    have h5 := hm.five
    rw [twistD_good h1' (by omega) (by omega) (by omega) hal]
    have e2 := hfi n m (pad (row g)) (pad (row d)) (by omega)
    have e3 := hir n m (pad (row a)) (by omega) bc gc
    have t3 : pad (row a) = pad [] ↔ a = 0 := by
      rw [← row_zero (p := n), pad_row_inj hal (by rw [Pol.len_zero]; omega)]
    have e4 := beq_P (pad_length (row a)) (pad_length [])
    by_cases ha : a.len < m.len
    · rw [decide_eq_true ((isRes_iff (by omega) hal).2 ha)] at e3
      by_cases h0 : a = 0
      · rw [if_neg (fun h => h.1 h0)]
        rw [decide_eq_true (t3.2 h0)] at e4
        generalize pad (row m) = Pm at *
        generalize pad (row g) = Pg at *
        generalize pad (row d) = Pd at *
        generalize pad (row a) = Pa at *
        simp -implicitDefEqProofs [ir_impl_TwistOf, ir_impl_TwistOf_B, dn_cond, e1, e2, e3, e4, List.replicate]
      · rw [if_pos ⟨h0, ha⟩]
        rw [decide_eq_false (fun h => h0 (t3.1 h))] at e4
        have e5 := hro n a hal
        have e6 := htw n m g d a hm hg hd h0 ha
        generalize pad (row (twc m a g (n - 1).toNat)) = P1 at *
        generalize pad (row (twc m a d (n * n - 1).toNat)) = P2 at *
        generalize pad (row m) = Pm at *
        generalize pad (row g) = Pg at *
        generalize pad (row d) = Pd at *
        generalize pad (row a) = Pa at *
        simp -implicitDefEqProofs [ir_impl_TwistOf, ir_impl_TwistOf_B, dn_cond, e1, e2, e3, e4, e5, e6, List.replicate]
    · rw [decide_eq_false (fun h => ha ((isRes_iff (by omega) hal).1 h))] at e3
      rw [if_neg (fun h => ha h.2)]
      generalize pad (row m) = Pm at *
      generalize pad (row g) = Pg at *
      generalize pad (row d) = Pd at *
      generalize pad (row a) = Pa at *
      simp -implicitDefEqProofs [ir_impl_TwistOf, ir_impl_TwistOf_B, dn_cond, e1, e2, e3, List.replicate]
  · rw [codeDr_one h] at e1
    rw [twistD_bad h]
    simp -implicitDefEqProofs [ir_impl_TwistOf, ir_impl_TwistOf_B, dn_cond, e1, List.replicate]
open Classical in
def K_sRes6 (O : Oracle) : Prop := ∀ (p : Int) [IsP p] (m c : Fp p) (v w : List Int), m.len ≤ 64 → c.len ≤ 64 → ask O F_spec_l06Residue [drD p (pad (row m)) v w, (D.arr 64 .leaf (ints .u8 (pad (row c))))] = some (D.bool (decide (c ≠ 0 ∧ c.len < m.len)))
open Classical in
theorem k_sRes6 (hT : T F_spec_l06Residue = some ir_spec_l06Residue) (hdg : K_sDeg (den T A)) : K_sRes6 (den T A) := by
  intro p ip m c v w hm hc
  have e1 := hdg p m hm
  have e2 := hdg p c hc
  have t3 : pad (row c) = pad [] ↔ c = 0 := by
    rw [← row_zero (p := p), pad_row_inj hc (by rw [Pol.len_zero]; omega)]
  have e4 := beq_P (pad_length (row c)) (pad_length [])
  refine ask_of hT rfl ?_
  by_cases h0 : c = 0
  · rw [decide_eq_true (t3.2 h0)] at e4
    rw [decide_eq_false (fun h => h.1 h0)]
    generalize pad (row m) = Pm at *
    generalize pad (row c) = Pc at *
    simp -implicitDefEqProofs [ir_spec_l06Residue, ir_spec_l06Residue_B, e4, List.replicate]
  · rw [decide_eq_false (fun h => h0 (t3.1 h))] at e4
    have h7 : decide (c ≠ 0 ∧ c.len < m.len) = decide ((c.len : Int) - 1 < (m.len : Int) - 1) := decide_eq_decide.2 (by
      constructor
      · intro h; omega
      · intro h; exact ⟨h0, by omega⟩)
    rw [h7]
    generalize (m.len : Int) - 1 = m1 at *
    generalize (c.len : Int) - 1 = c1 at *
    generalize pad (row m) = Pm at *
    generalize pad (row c) = Pc at *
    simp -implicitDefEqProofs [ir_spec_l06Residue, ir_spec_l06Residue_B, e1, e2, e4, List.replicate]
open Classical in
theorem k_sTwistOf (hT : T F_spec_TwistOf = some ir_spec_TwistOf) (hcd : C_drCode (den T A) F_spec_l06Code) (hre : K_sRes6 (den T A)) (htw : K_sTwist (den T A)) : K_TwistOf (den T A) F_spec_TwistOf := by
  intro n u v w c bu gu bv gv bw gw bc gc
  have e1 := hcd n u v w [c] bu gu bv gv bw gw (by intro x hx; simp at hx; subst hx; exact ⟨gc, bc⟩) (by simp)
  rw [show List.map arr8 [c] = [(D.arr 64 .leaf (ints .u8 c))] from rfl] at e1
  refine ask_of hT rfl ?_
  by_cases h : IsDr n u v w ∧ isPl n c = true
  · obtain ⟨h1, h2⟩ := h
    rw [codeDr_zero h1 h2] at e1
    have h1' := h1
    obtain ⟨ip, m, g, d, rfl, rfl, rfl, hm, hg, hd, hd0⟩ := h1
    obtain ⟨a, hal, rfl⟩ := row_of_isPl bc gc h2
    have h5 := hm.five
    rw [twistD_good h1' (by omega) (by omega) (by omega) hal]
    have e2 := hre n m a (pad (row g)) (pad (row d)) (by omega) hal
    by_cases ha : a ≠ 0 ∧ a.len < m.len
    · rw [decide_eq_true ha] at e2
      rw [if_pos ha]
      have e6 := htw n m g d a hm hg hd ha.1 ha.2
      generalize pad (row (twc m a g (n - 1).toNat)) = P1 at *
      generalize pad (row (twc m a d (n * n - 1).toNat)) = P2 at *
      generalize pad (row m) = Pm at *
      generalize pad (row g) = Pg at *
      generalize pad (row d) = Pd at *
      generalize pad (row a) = Pa at *
      simp -implicitDefEqProofs [ir_spec_TwistOf, ir_spec_TwistOf_B, dn_cond, e1, e2, e6, List.replicate]
    · rw [decide_eq_false ha] at e2
      rw [if_neg ha]
      generalize pad (row m) = Pm at *
      generalize pad (row g) = Pg at *
      generalize pad (row d) = Pd at *
      generalize pad (row a) = Pa at *
      simp -implicitDefEqProofs [ir_spec_TwistOf, ir_spec_TwistOf_B, dn_cond, e1, e2, List.replicate]
  · rw [codeDr_one h] at e1
    rw [twistD_bad h]
    simp -implicitDefEqProofs [ir_spec_TwistOf, ir_spec_TwistOf_B, dn_cond, e1, List.replicate]
theorem twistD_form (n : Int) {u v w c : List Int} (gu : u.length = 64) : ∃ (n' : Int) (u' v' w' : List Int) (k : Int), twistD n u v w c = .tup [drD n' u' v' w', (D.int .i64 k)] ∧ u'.length = 64 ∧ v'.length = 64 ∧ w'.length = 64 := by
  unfold twistD
  split
  · split
    · exact ⟨_, _, _, _, _, rfl, gu, pad_length _, pad_length _⟩
    · exact ⟨_, _, _, _, _, rfl, pad_length _, pad_length _, pad_length _⟩
  · exact ⟨_, _, _, _, _, rfl, pad_length _, pad_length _, pad_length _⟩

def L_TwistOf (O : Oracle) : Prop := ∀ (n : Int) (u v w : List Int), Bytes u ∧ u.length = 64 → Bytes v ∧ v.length = 64 → Bytes w ∧ w.length = 64 → ∀ (c : List Int), Bytes c → c.length = 64 → ask O F_laws_FnExactTwistOf [drD n u v w, (D.arr 64 .leaf (ints .u8 c))] = some (D.bool true)
theorem law_TwistOf (hT : T F_laws_FnExactTwistOf = some ir_laws_FnExactTwistOf) (hp : C_toPoly (den T A)) (hd : C_toDr (den T A)) (he : C_eqDr (den T A)) (hi : K_TwistOf (den T A) F_impl_TwistOf) (hs : K_TwistOf (den T A) F_spec_TwistOf) : L_TwistOf (den T A) := by
  intro n u v w ⟨bu, gu⟩ ⟨bv, gv⟩ ⟨bw, gw⟩ c bc gc
  have e1 := hp c bc gc
  have e2 := hd n u v w bu gu bv gv bw gw
  have e3 := hi n u v w c bu gu bv gv bw gw bc gc
  have e4 := hs n u v w c bu gu bv gv bw gw bc gc
  obtain ⟨n', u', v', w', k, e5, g1, g2, g3⟩ := twistD_form n (v := v) (w := w) (c := c) gu
  rw [e5] at e3 e4
  have e6 := he n' u' v' w' g1 g2 g3
  refine ask_of hT rfl ?_
  simp -implicitDefEqProofs [ir_laws_FnExactTwistOf, ir_laws_FnExactTwistOf_B, dn_cond, e1, e2, e3, e4, e6, List.replicate]
end Pe

namespace Pe
open Go
abbrev tyD : Ty := .st [tyN, tyP, tyP, tyP]
theorem has_D {d : D} (h : tyD.has d) : ∃ (n : Int) (u v w : List Int), d = drD n u v w ∧ (Bytes u ∧ u.length = 64) ∧ (Bytes v ∧ v.length = 64) ∧ (Bytes w ∧ w.length = 64) := by
  cases d <;> simp only [Ty.has] at h
  obtain ⟨rfl, h⟩ := h
  obtain ⟨x0, r0, rfl, h0, h⟩ := hasAll_cons h
  obtain ⟨x1, r1, rfl, h1, h⟩ := hasAll_cons h
  obtain ⟨x2, r2, rfl, h2, h⟩ := hasAll_cons h
  obtain ⟨x3, r3, rfl, h3, h⟩ := hasAll_cons h
  obtain rfl := hasAll_nil h
  obtain ⟨n, rfl, -, -⟩ := has_N h0
  obtain ⟨u, rfl, b1, g1⟩ := has_P h1
  obtain ⟨v, rfl, b2, g2⟩ := has_P h2
  obtain ⟨w, rfl, b3, g3⟩ := has_P h3
  exact ⟨n, u, v, w, rfl, ⟨b1, g1⟩, ⟨b2, g2⟩, ⟨b3, g3⟩⟩
end Pe
