/-
  A part of the proof: an evaluator for a small form of the code, its soundness, and contracts of functions over it.
-/
import Derived.Test.YtbangpnofnhhnaaGreatW1
import Derived.Test.YtbangpnofnhhnaaGreatW2
import Derived.Test.YtbangpnofnhhnaaGreatW3
import Derived.Test.YtbangpnofnhhnaaGreatW4
import Derived.Test.YtbangpnofnhhnaaGreatW5

namespace Pe
open Go Gq
variable {T : Nat → Option Fn} {A : Oracle}
noncomputable abbrev padD {p : Int} (a : Fp p) : D := (D.arr 64 .leaf (ints .u8 (pad (row a))))
theorem map_padD {p : Int} (xs : List (Fp p)) : (skP xs).map arr8 = xs.map padD := by unfold skP; rw [List.map_map]; rfl
section
variable {p : Int} [IsP p]
theorem l_rows {O : Oracle} (hro : K_rowOf O) {xs : List (Fp p)} (hl : xs.length < 2000000) (hx : ∀ x ∈ xs, x.len ≤ 64) : ∀ (r i : Nat) (cp : Option Nat), i + r = xs.length → ∃ cp' : Option Nat,
    dn O 0 (.loop ir_impl_rows_L0) ⟨[(3, .sl 0 [] 0 i cp), (6, .d (.sl (.arr 64 .leaf) (xs.map padD))), (7, (.d (.int .i64 xs.length))), (8, (.d (.int .i64 i)))], [.sl false .leaf ((xs.take i).map rowD), .hole, .hole, .hole]⟩ =
      some (.exit 0, ⟨[(3, .sl 0 [] 0 xs.length cp'), (6, .d (.sl (.arr 64 .leaf) (xs.map padD))), (7, (.d (.int .i64 xs.length))), (8, (.d (.int .i64 xs.length))), (9, (.d (.bool false)))], [.sl false .leaf (xs.map rowD), .hole, .hole, .hole]⟩)
  | 0, i, cp, hi => by
    obtain rfl : i = xs.length := by omega
    rw [List.take_length]
    refine ⟨cp, dn_stop ?_⟩
    generalize xs.map padD = XD at *
    generalize xs.map rowD = RD at *
    simp -implicitDefEqProofs [ir_impl_rows_L0, dn_cond]
  | r + 1, i, cp, hi => by
    have hlt : i < xs.length := by omega
    have hm := List.getElem_mem hlt
    have e1 := hro p xs[i] (hx _ hm)
    have hXD : (xs.map padD).length = xs.length := List.length_map ..
    have hxi : ∀ h : i < (xs.map padD).length, (xs.map padD)[i]'h = (D.arr 64 .leaf (ints .u8 (pad (row xs[i])))) := fun h => by rw [List.getElem_map]
    have w4 : IntKind.i64.wrap ((i : Int) + 1) = ((i + 1 : Nat) : Int) := (w64 (x := (i : Int) + 1) (by omega)).trans (by omega)
    have h24 : (i + 1) * 24 ≤ 1099511627776 := by omega
    have htk : (xs.take (i + 1)).map rowD = (xs.take i).map rowD ++ [(D.sl .leaf (ints .i64 (row xs[i])))] := by rw [List.take_succ_eq_append_getElem hlt, List.map_append]; rfl
    have hL : ((xs.take i).map rowD).length = i := by rw [List.length_map, List.length_take]; omega
    have htt : ((xs.take i).map rowD).take i = (xs.take i).map rowD := List.take_of_length_le (by omega)
    obtain ⟨cp', ih⟩ := l_rows hro hl hx r (i + 1) none (by omega)
    refine ⟨cp', dn_round ?_ ih⟩
    rw [htk]
    generalize pad (row xs[i]) = Pi at *
    generalize row xs[i] = Ri at *
    generalize (xs.take i).map rowD = TD at *
    generalize xs.map padD = XD at *
    simp -implicitDefEqProofs [ir_impl_rows_L0, dn_cond, hlt, hXD, hxi, e1, h24, hL, htt, w4, List.replicate]
def K_rows (O : Oracle) : Prop := ∀ (p : Int) [IsP p] (xs : List (Fp p)), xs.length < 2000000 → (∀ x ∈ xs, x.len ≤ 64) → ask O F_impl_rows [.sl (.arr 64 .leaf) (xs.map padD)] = some (.sl .leaf (xs.map rowD))
end
theorem k_rows (hT : T F_impl_rows = some ir_impl_rows) (hro : K_rowOf (den T A)) : K_rows (den T A) := by
  intro p ip xs hl hx
  obtain ⟨cp, e⟩ := l_rows (O := den T A) hro hl hx xs.length 0 (some 0) (Nat.zero_add _)
  have e00 : ((0 : Nat) : Int) = 0 := rfl
  rw [e00, List.take_zero, List.map_nil] at e
  have h1 : (xs.map rowD).length = xs.length := List.length_map ..
  have h2 : (xs.map padD).length = xs.length := List.length_map ..
  have htk : (xs.map rowD).take xs.length = xs.map rowD := List.take_of_length_le (by omega)
  refine ask_of hT rfl ?_
  generalize xs.map padD = XD at *
  generalize xs.map rowD = RD at *
  simp -implicitDefEqProofs [ir_impl_rows, ir_impl_rows_B, h1, h2, htk, e]
def K_rank (O : Oracle) : Prop := ∀ (p : Int) [IsP p] (xs : List (Fp p)), (∀ x ∈ xs, x.len ≤ 11) → xs.length < 2000000 → ask O F_impl_prime_rank [(D.int .i64 p), .sl .leaf (xs.map rowD)] = some (D.int .i64 ((spanS xs []).length))
theorem k_rank (hT : T F_impl_prime_rank = some ir_impl_prime_rank) (hr : K_redList (den T A)) : K_rank (den T A) := by
  intro p ip xs hx hl
  have e := hr p xs hx hl
  have h1 : ((spanS xs []).map rowD).length = (spanS xs []).length := List.length_map ..
  refine ask_of hT rfl ?_
  generalize (spanS xs []).map rowD = SD at *
  generalize xs.map rowD = RD at *
  simp -implicitDefEqProofs [ir_impl_prime_rank, ir_impl_prime_rank_B, e, h1]
/-- The code of a list of residues with so many. -/
noncomputable def codeL (p : Int) (l : List Int) (ls : List (List Int)) (lo hi : Int) : Int := if codeRs p l ls ≠ 0 then codeRs p l ls else if (ls.length : Int) < lo ∨ hi < ls.length then 2 else 0
def C_listCode (O : Oracle) : Prop := ∀ (p : Int) (l : List Int) (ls : List (List Int)) (lo hi : Int), Bytes l → l.length = 64 → Arrs ls → ls.length < 2000000 → ask O F_impl_listCode [(D.int .i64 p), (D.arr 64 .leaf (ints .u8 l)), .sl (.arr 64 .leaf) (ls.map arr8), (D.int .i64 lo), (D.int .i64 hi)] = some (D.int .i64 (codeL p l ls lo hi))
theorem c_listCode (hT : T F_impl_listCode = some ir_impl_listCode) (hr : C_resCode (den T A) F_impl_residuesCode) : C_listCode (den T A) := by
  intro p l ls lo hi bl gl ha hl
  have e := hr p l ls bl gl ha hl
  have h1 : (ls.map arr8).length = ls.length := List.length_map ..
  unfold codeL
  refine ask_of hT rfl ?_
  generalize ls.map arr8 = LD at *
  by_cases h0 : codeRs p l ls = 0
  · rw [h0] at e
    rw [if_neg (by simpa using h0)]
    by_cases h2 : (ls.length : Int) < lo
    · rw [if_pos (.inl h2)]
      simp -implicitDefEqProofs [ir_impl_listCode, ir_impl_listCode_B, dn_cond, e, h1, h2]
    · by_cases h3 : hi < (ls.length : Int)
      · rw [if_pos (.inr h3)]
        simp -implicitDefEqProofs [ir_impl_listCode, ir_impl_listCode_B, dn_cond, e, h1, h2, h3]
      · rw [if_neg (by omega)]
        simp -implicitDefEqProofs [ir_impl_listCode, ir_impl_listCode_B, dn_cond, e, h1, h2, h3]
  · rw [if_pos h0]
    generalize codeRs p l ls = k at *
    simp -implicitDefEqProofs [ir_impl_listCode, ir_impl_listCode_B, dn_cond, e, h0]
def RsOk (p : Int) (l : List Int) (ls : List (List Int)) : Prop := ∃ (_ : IsP p) (m : Fp p), l = pad (row m) ∧ Fld m ∧ IsSk m ls
theorem codes_rs {p : Int} {l : List Int} {ls : List (List Int)} : codeRs p l ls = 0 ↔ RsOk p l ls := by
  unfold codeRs
  constructor
  · intro h1
    split at h1
    · rename_i g; exact g
    · cases h1
  · intro h; exact if_pos h
theorem codeL_zero {p : Int} {l : List Int} {ls : List (List Int)} {lo hi : Int} (h : codeL p l ls lo hi = 0) : RsOk p l ls ∧ lo ≤ ls.length ∧ ls.length ≤ hi := by
  unfold codeL at h
  split at h
  · rename_i h0; exact absurd h h0
  · rename_i h0
    split at h
    · cases h
    · rename_i h1
      exact ⟨codes_rs.1 (by simpa using h0), by omega, by omega⟩
open Classical in
noncomputable def rwD (p : Int) (l : List Int) (ls : List (List Int)) : D :=
  if h : codeL p l ls 0 4 = 0 then
    haveI : IsP p := (codeL_zero h).1.choose
    .tup [(D.int .i64 ((spanS (ls.map (polOf p)) []).length)), (D.int .i64 0)]
  else .tup [(D.int .i64 0), (D.int .i64 (codeL p l ls 0 4))]
def K_RankOfWord (O : Oracle) (F : Nat) : Prop := ∀ (p : Int) (l : List Int) (ls : List (List Int)), Bytes l → l.length = 64 → Arrs ls → ls.length < 2000000 → ask O F [(D.int .i64 p), (D.arr 64 .leaf (ints .u8 l)), .sl (.arr 64 .leaf) (ls.map arr8)] = some (rwD p l ls)
theorem k_RankOfWord (hT : T F_impl_RankOfWord = some ir_impl_RankOfWord) (hc : C_listCode (den T A)) (hro : K_rows (den T A)) (hra : K_rank (den T A)) : K_RankOfWord (den T A) F_impl_RankOfWord := by
  intro p l ls bl gl ha hl
  have e1 := hc p l ls 0 4 bl gl ha hl
  unfold rwD
  by_cases h : codeL p l ls 0 4 = 0
  · rw [h] at e1
    rw [dif_pos h]
    obtain ⟨⟨ip, m, rfl, hm, hs⟩, _, _⟩ := codeL_zero h
    obtain ⟨S, rfl, hS⟩ := sk_of hs
    have h5 := hm.five
    have hSl : S.length < 2000000 := by rwa [List.length_map] at hl
    have e2 := hro p S hSl (fun x hx => by have := hS x hx; omega)
    have e3 := hra p S (fun x hx => by have := hS x hx; omega) hSl
    have hmp : (S.map fun a => pad (row a)).map (polOf p) = S := map_polOf (S := S) (fun a ha => by have := hS a ha; omega)
    have hmd : (S.map fun a => pad (row a)).map arr8 = S.map padD := map_padD S
    rw [hmp, hmd]
    rw [hmd] at e1
    refine ask_of hT rfl ?_
    generalize S.map padD = SD at *
    generalize S.map rowD = RD at *
    generalize pad (row m) = Pm at *
    simp -implicitDefEqProofs [ir_impl_RankOfWord, ir_impl_RankOfWord_B, dn_cond, e1, e2, e3]
  · rw [dif_neg h]
    refine ask_of hT rfl ?_
    generalize codeL p l ls 0 4 = k at *
    generalize ls.map arr8 = LD at *
    simp -implicitDefEqProofs [ir_impl_RankOfWord, ir_impl_RankOfWord_B, dn_cond, e1, h]
end Pe

namespace Pe
open Go Gq
variable {T : Nat → Option Fn} {A : Oracle}
section
variable {p : Int}
theorem pad_row_at {a : Fp p} (ha : a.len ≤ 64) {n : Nat} : ∀ h : n < (pad (row a)).length, (pad (row a))[n]'h = rep (a.c n) := fun h => by
  rw [← cf_lt h, pad_row_cf ha]
end
section
variable {p : Int} [IsP p]
theorem k_selim {O : Oracle} (hadd : K_sAdd O) {a b : Fp p} (ha : a.len ≤ 64) (hb : b.len ≤ 64) : ask O F_spec_l01Add [(D.int .i64 p), (D.arr 64 .leaf (ints .u8 (pad (row b)))), (D.arr 64 .leaf (ints .u8 (pad (row a)))), (D.int .i64 (-rep (b.c (a.len - 1))))] = some (D.arr 64 .leaf (ints .u8 (pad (row (elim a b))))) := by
  have h := rep_small (b.c (a.len - 1))
  have := hadd p (-rep (b.c (a.len - 1))) b a (by omega) (by omega) hb ha
  rw [zp_neg, zp_rep] at this
  exact this
theorem l_put0 {O : Oracle} (hdg : K_sDeg O) (hadd : K_sAdd O) {L : List (Fp p)} {N : Nat} (hN : N ≤ 11) (hL : Desc N L) : ∀ (r i : Nat) (a : Fp p), i + r = L.length → a.len ≤ N →
    dn O 0 (.loop ir_spec_l03Put_L0) ⟨[(0, (.d (.int .i64 p))), (1, .d (.sl (.arr 64 .leaf) (L.map padD))), (5, .ptr 0 []), (7, (.d (.int .i64 i)))], [.box false (D.arr 64 .leaf (ints .u8 (pad (row a)))), .hole, .hole, .hole, .hole, .hole, .hole, .hole]⟩ =
      some (.exit 0, ⟨[(0, (.d (.int .i64 p))), (1, .d (.sl (.arr 64 .leaf) (L.map padD))), (5, .ptr 0 []), (7, (.d (.int .i64 L.length))), (16, (.d (.bool false)))], [.box false (D.arr 64 .leaf (ints .u8 (pad (row (redS (L.drop i) a))))), .hole, .hole, .hole, .hole, .hole, .hole, .hole]⟩)
  | 0, i, a, hi, ha => by
    obtain rfl : i = L.length := by omega
    have hLD : (L.map padD).length = L.length := List.length_map ..
    rw [List.drop_length]
    refine dn_stop ?_
    show _ = some (_, (⟨_, [.box false (D.arr 64 .leaf (ints .u8 (pad (row a)))), _, _, _, _, _, _, _]⟩ : St))
    generalize pad (row a) = Pa at *
    generalize L.map padD = LD at *
    simp -implicitDefEqProofs [ir_spec_l03Put_L0, dn_cond, hLD]
  | r + 1, i, a, hi, ha => by
    have hlt : i < L.length := by omega
    have hm := List.getElem_mem hlt
    have hbl := hL.le _ hm
    have hbp := Pol.len_pos (hL.mon _ hm).2
    have hll := hL.length
    have hLD : (L.map padD).length = L.length := List.length_map ..
    have hx : ∀ h : i < (L.map padD).length, (L.map padD)[i]'h = (D.arr 64 .leaf (ints .u8 (pad (row L[i])))) := fun h => by rw [List.getElem_map]
    have e1 := hdg p L[i] (by omega)
    rw [show (L[i].len : Int) - 1 = ((L[i].len - 1 : Nat) : Int) by omega] at e1
    have e2 := k_selim hadd (a := L[i]) (b := a) (by omega) (by omega)
    have hat := pad_row_at (a := a) (by omega) (n := L[i].len - 1)
    have hPl := pad_length (row a)
    have hd64 : L[i].len - 1 < 64 := by omega
    have hr := rep_small (a.c (L[i].len - 1))
    have w1 : IntKind.i64.wrap (rep (a.c (L[i].len - 1))) = rep (a.c (L[i].len - 1)) := w64 (by omega)
    have w2 : IntKind.i64.wrap (-rep (a.c (L[i].len - 1))) = -rep (a.c (L[i].len - 1)) := w64 (by omega)
    have w4 : IntKind.i64.wrap ((i : Int) + 1) = ((i + 1 : Nat) : Int) := (w64 (x := (i : Int) + 1) (by omega)).trans (by omega)
    have hd : redS (L.drop i) a = redS (L.drop (i + 1)) (elim L[i] a) := by rw [List.drop_eq_getElem_cons hlt]; rfl
    rw [hd]
    refine dn_round ?_ (l_put0 hdg hadd hN hL r (i + 1) (elim L[i] a) (by omega) (elim_le hbl ha))
    by_cases h0 : rep (a.c (L[i].len - 1)) = 0
    · have hz : elim L[i] a = a := by
        unfold elim
        rw [rep_eq_zero.1 h0, Gq.neg_zero, Pol.C_zero, Gq.zero_mul, Gq.add_zero]
      rw [hz]
      rw [h0] at hat
      generalize pad (row a) = Pa at *
      generalize pad (row L[i]) = Pi at *
      generalize L[i].len - 1 = d at *
      generalize L.map padD = LD at *
      simp -implicitDefEqProofs [ir_spec_l03Put_L0, dn_cond, hlt, hLD, hx, e1, hat, hPl, hd64, w4]
    · generalize rep (a.c (L[i].len - 1)) = k at *
      generalize pad (row (elim L[i] a)) = Pe at *
      generalize pad (row a) = Pa at *
      generalize pad (row L[i]) = Pi at *
      generalize L[i].len - 1 = d at *
      generalize L.map padD = LD at *
      simp -implicitDefEqProofs [ir_spec_l03Put_L0, dn_cond, hlt, hLD, hx, e1, e2, hat, hPl, hd64, h0, w1, w2, w4]
theorem r_put0 {O : Oracle} {p : Int} {Pa : List Int} {d ql n : Nat} {LD QD : List D} {cp : Option Nat} {b : Bool} (hLD : LD.length = n) :
    dn O 0 ir_spec_l03Put_L1 ⟨[(0, (.d (.int .i64 p))), (1, .d (.sl (.arr 64 .leaf) LD)), (5, .ptr 0 []), (9, (.d (.int .i64 ((d : Int))))), (10, .sl 1 [] 0 ql cp), (11, (.d (.bool b))), (12, (.d (.int .i64 n)))], [.box false (D.arr 64 .leaf (ints .u8 Pa)), .sl false (.arr 64 .leaf) QD, .hole, .hole, .hole, .hole, .hole, .hole]⟩ = some (.exit 2, ⟨[(0, (.d (.int .i64 p))), (1, .d (.sl (.arr 64 .leaf) LD)), (5, .ptr 0 []), (9, (.d (.int .i64 ((d : Int))))), (10, .sl 1 [] 0 ql cp), (11, (.d (.bool b))), (12, (.d (.int .i64 n))), (59, (.d (.bool false)))], [.box false (D.arr 64 .leaf (ints .u8 Pa)), .sl false (.arr 64 .leaf) QD, .hole, .hole, .hole, .hole, .hole, .hole]⟩) := by
  simp -implicitDefEqProofs [ir_spec_l03Put_L1, dn_cond, hLD]
theorem r_putT {O : Oracle} {p k : Int} {Pa Pi Pe : List Int} {d ql i n : Nat} {LD QD : List D} {cp : Option Nat} (hlt : i < n) (hLD : LD.length = n) (hx : ∀ h : i < LD.length, LD[i]'h = (D.arr 64 .leaf (ints .u8 Pi))) (e2 : ask O F_spec_l01Add [(D.int .i64 p), (D.arr 64 .leaf (ints .u8 Pi)), (D.arr 64 .leaf (ints .u8 Pa)), (D.int .i64 (-k))] = some (D.arr 64 .leaf (ints .u8 Pe)))
    (hat : ∀ h : d < Pi.length, Pi[d]'h = k) (hPl : Pi.length = 64) (hd64 : d < 64) (hQD : QD.length = ql) (htq : QD.take ql = QD) (h64 : (ql + 1) * 64 ≤ 1099511627776) (w1 : IntKind.i64.wrap k = k) (w2 : IntKind.i64.wrap (-k) = -k) (w4 : IntKind.i64.wrap ((i : Int) + 1) = ((i + 1 : Nat) : Int)) :
    dn O 0 ir_spec_l03Put_L1 ⟨[(0, (.d (.int .i64 p))), (1, .d (.sl (.arr 64 .leaf) LD)), (5, .ptr 0 []), (9, (.d (.int .i64 ((d : Int))))), (10, .sl 1 [] 0 ql cp), (11, (.d (.bool true))), (12, (.d (.int .i64 i)))], [.box false (D.arr 64 .leaf (ints .u8 Pa)), .sl false (.arr 64 .leaf) QD, .hole, .hole, .hole, .hole, .hole, .hole]⟩ = some (.normal, ⟨[(0, (.d (.int .i64 p))), (1, .d (.sl (.arr 64 .leaf) LD)), (5, .ptr 0 []), (9, (.d (.int .i64 ((d : Int))))), (10, .sl 1 [] 0 (ql + 1) none), (11, (.d (.bool true))), (12, (.d (.int .i64 (((i + 1 : Nat) : Int)))))], [.box false (D.arr 64 .leaf (ints .u8 Pa)), .sl false (.arr 64 .leaf) (QD ++ [(D.arr 64 .leaf (ints .u8 Pe))]), .hole, .hole, .hole, .hole, .hole, .hole]⟩) := by
  simp -implicitDefEqProofs [ir_spec_l03Put_L1, dn_cond, hlt, hLD, hx, e2, hat, hPl, hd64, hQD, htq, h64, w1, w2, w4, List.replicate]
theorem take_snoc {α : Type} {QD : List α} {ql : Nat} (h : QD.length = ql) (z : α) : (QD ++ [z]).take (ql + 1) = QD ++ [z] := List.take_of_length_le (by rw [List.length_append, h]; exact Nat.le_refl _)
theorem r_putL {O : Oracle} {p k : Int} {Pa Pi Pe : List Int} {d d2 ql i n : Nat} {LD QD : List D} {cp : Option Nat} (hlt : i < n) (hLD : LD.length = n) (hx : ∀ h : i < LD.length, LD[i]'h = (D.arr 64 .leaf (ints .u8 Pi))) (e1 : ask O F_spec_l01Deg [(D.arr 64 .leaf (ints .u8 Pi))] = some (D.int .i64 ((d2 : Int)))) (e2 : ask O F_spec_l01Add [(D.int .i64 p), (D.arr 64 .leaf (ints .u8 Pi)), (D.arr 64 .leaf (ints .u8 Pa)), (D.int .i64 (-k))] = some (D.arr 64 .leaf (ints .u8 Pe)))
    (hat : ∀ h : d < Pi.length, Pi[d]'h = k) (hPl : Pi.length = 64) (hd64 : d < 64) (hQD : QD.length = ql) (htq : QD.take ql = QD) (h64 : (ql + 1) * 64 ≤ 1099511627776) (h64' : (ql + 1 + 1) * 64 ≤ 1099511627776) (w1 : IntKind.i64.wrap k = k) (w2 : IntKind.i64.wrap (-k) = -k) (w4 : IntKind.i64.wrap ((i : Int) + 1) = ((i + 1 : Nat) : Int)) (hdl : d2 < d) :
    dn O 0 ir_spec_l03Put_L1 ⟨[(0, (.d (.int .i64 p))), (1, .d (.sl (.arr 64 .leaf) LD)), (5, .ptr 0 []), (9, (.d (.int .i64 ((d : Int))))), (10, .sl 1 [] 0 ql cp), (11, (.d (.bool false))), (12, (.d (.int .i64 i)))], [.box false (D.arr 64 .leaf (ints .u8 Pa)), .sl false (.arr 64 .leaf) QD, .hole, .hole, .hole, .hole, .hole, .hole]⟩ = some (.normal, ⟨[(0, (.d (.int .i64 p))), (1, .d (.sl (.arr 64 .leaf) LD)), (5, .ptr 0 []), (9, (.d (.int .i64 ((d : Int))))), (10, .sl 1 [] 0 (ql + 2) none), (11, (.d (.bool true))), (12, (.d (.int .i64 (((i + 1 : Nat) : Int)))))], [.box false (D.arr 64 .leaf (ints .u8 Pa)), .sl false (.arr 64 .leaf) (QD ++ [(D.arr 64 .leaf (ints .u8 Pa)), (D.arr 64 .leaf (ints .u8 Pe))]), .hole, .hole, .hole, .hole, .hole, .hole]⟩) := by
  have htq2 := fun z : D => take_snoc hQD z
  simp -implicitDefEqProofs [ir_spec_l03Put_L1, dn_cond, hlt, hLD, hx, e1, e2, hat, hPl, hd64, hdl, hQD, htq, htq2, h64, h64', w1, w2, w4, List.replicate]
theorem r_putG {O : Oracle} {p k : Int} {Pa Pi Pe : List Int} {d d2 ql i n : Nat} {LD QD : List D} {cp : Option Nat} (hlt : i < n) (hLD : LD.length = n) (hx : ∀ h : i < LD.length, LD[i]'h = (D.arr 64 .leaf (ints .u8 Pi))) (e1 : ask O F_spec_l01Deg [(D.arr 64 .leaf (ints .u8 Pi))] = some (D.int .i64 ((d2 : Int)))) (e2 : ask O F_spec_l01Add [(D.int .i64 p), (D.arr 64 .leaf (ints .u8 Pi)), (D.arr 64 .leaf (ints .u8 Pa)), (D.int .i64 (-k))] = some (D.arr 64 .leaf (ints .u8 Pe)))
    (hat : ∀ h : d < Pi.length, Pi[d]'h = k) (hPl : Pi.length = 64) (hd64 : d < 64) (hQD : QD.length = ql) (htq : QD.take ql = QD) (h64 : (ql + 1) * 64 ≤ 1099511627776) (w1 : IntKind.i64.wrap k = k) (w2 : IntKind.i64.wrap (-k) = -k) (w4 : IntKind.i64.wrap ((i : Int) + 1) = ((i + 1 : Nat) : Int)) (hdl : ¬ d2 < d) :
    dn O 0 ir_spec_l03Put_L1 ⟨[(0, (.d (.int .i64 p))), (1, .d (.sl (.arr 64 .leaf) LD)), (5, .ptr 0 []), (9, (.d (.int .i64 ((d : Int))))), (10, .sl 1 [] 0 ql cp), (11, (.d (.bool false))), (12, (.d (.int .i64 i)))], [.box false (D.arr 64 .leaf (ints .u8 Pa)), .sl false (.arr 64 .leaf) QD, .hole, .hole, .hole, .hole, .hole, .hole]⟩ = some (.normal, ⟨[(0, (.d (.int .i64 p))), (1, .d (.sl (.arr 64 .leaf) LD)), (5, .ptr 0 []), (9, (.d (.int .i64 ((d : Int))))), (10, .sl 1 [] 0 (ql + 1) none), (11, (.d (.bool false))), (12, (.d (.int .i64 (((i + 1 : Nat) : Int)))))], [.box false (D.arr 64 .leaf (ints .u8 Pa)), .sl false (.arr 64 .leaf) (QD ++ [(D.arr 64 .leaf (ints .u8 Pe))]), .hole, .hole, .hole, .hole, .hole, .hole]⟩) := by
  simp -implicitDefEqProofs [ir_spec_l03Put_L1, dn_cond, hlt, hLD, hx, e1, e2, hat, hPl, hd64, hdl, hQD, htq, h64, w1, w2, w4, List.replicate]
theorem put_facts {O : Oracle} (hdg : K_sDeg O) (hadd : K_sAdd O) {L : List (Fp p)} {N : Nat} (hN : N ≤ 11) (hL : Desc N L) {a : Fp p} (ha : a ≠ 0) (hal : a.len ≤ N) {i : Nat} (hlt : i < L.length) :
    (∀ h : i < (L.map padD).length, (L.map padD)[i]'h = (D.arr 64 .leaf (ints .u8 (pad (row L[i]))))) ∧ ask O F_spec_l01Deg [(D.arr 64 .leaf (ints .u8 (pad (row L[i]))))] = some (D.int .i64 (((L[i].len - 1 : Nat) : Int))) ∧
    ask O F_spec_l01Add [(D.int .i64 p), (D.arr 64 .leaf (ints .u8 (pad (row L[i])))), (D.arr 64 .leaf (ints .u8 (pad (row a)))), (D.int .i64 (-rep (L[i].c (a.len - 1))))] = some (D.arr 64 .leaf (ints .u8 (pad (row (elim a L[i]))))) ∧
    (∀ h : a.len - 1 < (pad (row L[i])).length, (pad (row L[i]))[a.len - 1]'h = rep (L[i].c (a.len - 1))) ∧ (pad (row L[i])).length = 64 ∧
    IntKind.i64.wrap (rep (L[i].c (a.len - 1))) = rep (L[i].c (a.len - 1)) ∧ IntKind.i64.wrap (-rep (L[i].c (a.len - 1))) = -rep (L[i].c (a.len - 1)) ∧
    IntKind.i64.wrap ((i : Int) + 1) = ((i + 1 : Nat) : Int) ∧ a.len - 1 < 64 := by
  have hm := List.getElem_mem hlt
  have hbl := hL.le _ hm
  have hbp := Pol.len_pos (hL.mon _ hm).2
  have hap := Pol.len_pos ha
  have hll := hL.length
  have e1 := hdg p L[i] (by omega)
  rw [show (L[i].len : Int) - 1 = ((L[i].len - 1 : Nat) : Int) by omega] at e1
  have hr := rep_small (L[i].c (a.len - 1))
  exact ⟨fun h => by rw [List.getElem_map], e1, k_selim hadd (a := a) (b := L[i]) (by omega) (by omega), pad_row_at (a := L[i]) (by omega) (n := a.len - 1), pad_length _, w64 (by omega), w64 (by omega), (w64 (x := (i : Int) + 1) (by omega)).trans (by omega), by omega⟩
theorem l_put1 {O : Oracle} (hdg : K_sDeg O) (hadd : K_sAdd O) {L : List (Fp p)} {N : Nat} (hN : N ≤ 11) (hL : Desc N L) {a : Fp p} (ha : a ≠ 0) (hal : a.len ≤ N) : ∀ (r i : Nat) (Q : List (Fp p)) (b : Bool) (cp : Option Nat), i + r = L.length → Q.length ≤ i + b.toNat → ∃ (Q' : List (Fp p)) (b' : Bool) (cp' : Option Nat),
    dn O 0 (.loop ir_spec_l03Put_L1) ⟨[(0, (.d (.int .i64 p))), (1, .d (.sl (.arr 64 .leaf) (L.map padD))), (5, .ptr 0 []), (9, (.d (.int .i64 (((a.len - 1 : Nat) : Int))))), (10, .sl 1 [] 0 Q.length cp), (11, (.d (.bool b))), (12, (.d (.int .i64 i)))], [.box false (D.arr 64 .leaf (ints .u8 (pad (row a)))), .sl false (.arr 64 .leaf) (Q.map padD), .hole, .hole, .hole, .hole, .hole, .hole]⟩ =
      some (.exit 2, ⟨[(0, (.d (.int .i64 p))), (1, .d (.sl (.arr 64 .leaf) (L.map padD))), (5, .ptr 0 []), (9, (.d (.int .i64 (((a.len - 1 : Nat) : Int))))), (10, .sl 1 [] 0 Q'.length cp'), (11, (.d (.bool b'))), (12, (.d (.int .i64 L.length))), (59, (.d (.bool false)))], [.box false (D.arr 64 .leaf (ints .u8 (pad (row a)))), .sl false (.arr 64 .leaf) (Q'.map padD), .hole, .hole, .hole, .hole, .hole, .hole]⟩) ∧
      (if b' then Q' else Q' ++ [a]) = Q ++ (if b then (L.drop i).map (elim a) else insS a (L.drop i)) ∧ Q'.length ≤ L.length + 1
  | 0, i, Q, b, cp, hi, hq => by
    obtain rfl : i = L.length := by omega
    have hLD : (L.map padD).length = L.length := List.length_map ..
    refine ⟨Q, b, cp, dn_stop ?_, ?_, by have := Bool.toNat_le b; omega⟩
    · exact r_put0 hLD
    · rw [List.drop_length]
      cases b <;> simp [insS]
  | r + 1, i, Q, b, cp, hi, hq => by
    have hlt : i < L.length := by omega
    have hll := hL.length
    have hbt := Bool.toNat_le b
    have hir : i + 1 + r = L.length := by omega
    have hQl : Q.length ≤ 12 := by omega
    have h64 : (Q.length + 1) * 64 ≤ 1099511627776 := Nat.le_trans (Nat.mul_le_mul_right 64 (Nat.succ_le_succ hQl)) (by decide)
    have h64' : (Q.length + 1 + 1) * 64 ≤ 1099511627776 := Nat.le_trans (Nat.mul_le_mul_right 64 (Nat.succ_le_succ (Nat.succ_le_succ hQl))) (by decide)
    have hLD : (L.map padD).length = L.length := List.length_map ..
    have hd : L.drop i = L[i] :: L.drop (i + 1) := List.drop_eq_getElem_cons hlt
    have hQD : (Q.map padD).length = Q.length := List.length_map ..
    have htq : (Q.map padD).take Q.length = Q.map padD := List.take_of_length_le (by omega)
    have hq1 : ∀ x : Fp p, (Q ++ [x]).map padD = Q.map padD ++ [(D.arr 64 .leaf (ints .u8 (pad (row x))))] := fun x => by rw [List.map_append]; rfl
    have hl1 : ∀ x : Fp p, (Q ++ [x]).length = Q.length + 1 := fun x => by rw [List.length_append]; rfl
    have hq2 : ∀ x y : Fp p, (Q ++ [x, y]).map padD = Q.map padD ++ [(D.arr 64 .leaf (ints .u8 (pad (row x)))), (D.arr 64 .leaf (ints .u8 (pad (row y))))] := fun x y => by rw [List.map_append]; rfl
    have hl2 : ∀ x y : Fp p, (Q ++ [x, y]).length = Q.length + 2 := fun x y => by rw [List.length_append]; rfl
    have hap := Pol.len_pos ha
    have hbp := Pol.len_pos (hL.mon _ (List.getElem_mem hlt)).2
    cases b with
    | true =>
      obtain ⟨Q', b', cp', g1, g2, g3⟩ := l_put1 hdg hadd hN hL ha hal r (i + 1) (Q ++ [elim a L[i]]) true none hir (by rw [hl1]; simp only [Bool.toNat_true] at hq ⊢; omega)
      refine ⟨Q', b', cp', dn_round ?_ g1, ?_, g3⟩
      · obtain ⟨hx, e1, e2, hat, hPl, w1, w2, w4, hd64⟩ := put_facts hdg hadd hN hL ha hal hlt
        rw [hq1, hl1]; exact r_putT hlt hLD hx e2 hat hPl hd64 hQD htq h64 w1 w2 w4
      · rw [g2, hd]; simp only [if_true, List.map_cons, List.append_assoc, List.cons_append, List.nil_append]
    | false =>
      by_cases hlen : L[i].len < a.len
      · have hdl : L[i].len - 1 < a.len - 1 := by omega
        obtain ⟨Q', b', cp', g1, g2, g3⟩ := l_put1 hdg hadd hN hL ha hal r (i + 1) (Q ++ [a, elim a L[i]]) true none hir (by rw [hl2]; simp only [Bool.toNat_true, Bool.toNat_false] at hq ⊢; omega)
        refine ⟨Q', b', cp', dn_round ?_ g1, ?_, g3⟩
        · obtain ⟨hx, e1, e2, hat, hPl, w1, w2, w4, hd64⟩ := put_facts hdg hadd hN hL ha hal hlt
          rw [hq2, hl2]; exact r_putL hlt hLD hx e1 e2 hat hPl hd64 hQD htq h64 h64' w1 w2 w4 hdl
        · rw [g2, hd]
          show _ = Q ++ (if L[i].len < a.len then a :: (L[i] :: L.drop (i + 1)).map (elim a) else elim a L[i] :: insS a (L.drop (i + 1)))
          rw [if_pos hlen]; simp only [if_true, List.map_cons, List.append_assoc, List.cons_append, List.nil_append]
      · have hdl : ¬ (L[i].len - 1 < a.len - 1) := by omega
        obtain ⟨Q', b', cp', g1, g2, g3⟩ := l_put1 hdg hadd hN hL ha hal r (i + 1) (Q ++ [elim a L[i]]) false none hir (by rw [hl1]; simp only [Bool.toNat_false] at hq ⊢; omega)
        refine ⟨Q', b', cp', dn_round ?_ g1, ?_, g3⟩
        · obtain ⟨hx, e1, e2, hat, hPl, w1, w2, w4, hd64⟩ := put_facts hdg hadd hN hL ha hal hlt
          rw [hq1, hl1]; exact r_putG hlt hLD hx e1 e2 hat hPl hd64 hQD htq h64 w1 w2 w4 hdl
        · rw [g2, hd]
          show _ = Q ++ (if L[i].len < a.len then a :: (L[i] :: L.drop (i + 1)).map (elim a) else elim a L[i] :: insS a (L.drop (i + 1)))
          rw [if_neg hlen]; simp
end
def K_sPut (O : Oracle) : Prop := ∀ (p : Int) [IsP p] (L : List (Fp p)) (x : Fp p), Desc 11 L → x.len ≤ 11 → ask O F_spec_l03Put [(D.int .i64 p), .sl (.arr 64 .leaf) (L.map padD), (D.arr 64 .leaf (ints .u8 (pad (row x))))] = some (.sl (.arr 64 .leaf) ((putS L x).map padD))
theorem k_sPut (hT : T F_spec_l03Put = some ir_spec_l03Put) (hdg : K_sDeg (den T A)) (hinv : K_sInverse (den T A)) (hadd : K_sAdd (den T A)) : K_sPut (den T A) := by
  intro p ip L x hL hx
  have e0 := l_put0 (O := den T A) hdg hadd (Nat.le_refl 11) hL L.length 0 x (Nat.zero_add _) hx
  have e00 : ((0 : Nat) : Int) = 0 := rfl
  rw [e00, List.drop_zero] at e0
  have hrl := redS_le (L := L) hL.le hx
  have e1 := hdg p (redS L x) (by omega)
  refine ask_of hT rfl ?_
  by_cases h0 : redS L x = 0
  · rw [putS_zero h0]
    rw [h0, row_zero, Pol.len_zero] at e1
    rw [h0, row_zero] at e0
    generalize pad (row x) = Px at *
    generalize L.map padD = LD at *
    simp -implicitDefEqProofs [ir_spec_l03Put, ir_spec_l03Put_B, dn_cond, e0, e1]
  · rw [putS_ne h0]
    have hap := Pol.len_pos h0
    have hml := mon_len h0
    have hmm := mon_monic h0
    have hld0 := Pol.ld_ne h0
    have hri := rep_in (redS L x).ld
    have hr0 : rep (redS L x).ld ≠ 0 := fun h => hld0 (rep_eq_zero.1 h)
    rw [show ((redS L x).len : Int) - 1 = (((redS L x).len - 1 : Nat) : Int) by omega] at e1
    have hat := pad_row_at (a := redS L x) (by omega) (n := (redS L x).len - 1)
    rw [show (redS L x).c ((redS L x).len - 1) = (redS L x).ld from rfl] at hat
    have hPl := pad_length (row (redS L x))
    have hd64 : (redS L x).len - 1 < 64 := by omega
    have e2 := hinv p (rep (redS L x).ld) (by omega) (by omega)
    have hin := inv_in (p := p) (rep (redS L x).ld)
    have hp7 := IsP.le (p := p)
    have e3 := hadd p (inv p (rep (redS L x).ld)) 0 (redS L x) (by omega) (by omega) (by rw [Pol.len_zero]; omega) (by omega)
    rw [finv_rep _ hld0, Gq.zero_add, show Pol.C (Fd.inv (redS L x).ld) * redS L x = Gq.mon (redS L x) from rfl, row_zero] at e3
    have w1 : IntKind.i64.wrap (inv p (rep (redS L x).ld)) = inv p (rep (redS L x).ld) := w64 (by omega)
    obtain ⟨Q', b', cp', g1, g2, g3⟩ := l_put1 (O := den T A) hdg hadd (Nat.le_refl 11) hL hmm.2 (by omega) L.length 0 [] false (some 0) (Nat.zero_add _) (by simp)
    rw [e00, List.map_nil, List.length_nil, hml] at g1
    simp only [List.drop_zero, List.nil_append, Bool.false_eq_true, if_false] at g2
    have hn0 : ¬ (((redS L x).len - 1 : Nat) : Int) < 0 := by omega
    have hll := hL.length
    have hQD : (Q'.map padD).length = Q'.length := List.length_map ..
    have htq : (Q'.map padD).take Q'.length = Q'.map padD := List.take_of_length_le (by omega)
    have h64 : (Q'.length + 1) * 64 ≤ 1099511627776 := by omega
    cases b' with
    | true =>
      simp only [if_true] at g2
      rw [← g2]
      generalize inv p (rep (redS L x).ld) = k1 at *
      generalize rep (redS L x).ld = k2 at *
      generalize pad (row (Gq.mon (redS L x))) = P2 at *
      generalize pad (row (redS L x)) = P1 at *
      generalize pad (row x) = Px at *
      generalize (redS L x).len - 1 = d at *
      generalize L.map padD = LD at *
      generalize Q'.map padD = QD at *
      generalize Q'.length = ql at *
      simp -implicitDefEqProofs [ir_spec_l03Put, ir_spec_l03Put_B, dn_cond, e0, e1, e2, e3, g1, hat, hPl, hd64, hn0, hQD, htq, w1]
    | false =>
      simp only [Bool.false_eq_true, if_false] at g2
      rw [← g2, show (Q' ++ [Gq.mon (redS L x)]).map padD = Q'.map padD ++ [(D.arr 64 .leaf (ints .u8 (pad (row (Gq.mon (redS L x))))))] by rw [List.map_append]; rfl]
      have htq2 : ∀ z : D, (Q'.map padD ++ [z]).take (Q'.length + 1) = Q'.map padD ++ [z] := fun z => List.take_of_length_le (by rw [List.length_append, hQD]; exact Nat.le_refl _)
      generalize inv p (rep (redS L x).ld) = k1 at *
      generalize rep (redS L x).ld = k2 at *
      generalize pad (row (Gq.mon (redS L x))) = P2 at *
      generalize pad (row (redS L x)) = P1 at *
      generalize pad (row x) = Px at *
      generalize (redS L x).len - 1 = d at *
      generalize L.map padD = LD at *
      generalize Q'.map padD = QD at *
      generalize Q'.length = ql at *
      simp -implicitDefEqProofs [ir_spec_l03Put, ir_spec_l03Put_B, dn_cond, e0, e1, e2, e3, g1, hat, hPl, hd64, hn0, hQD, htq, htq2, h64, w1, List.replicate]
end Pe

namespace Pe
open Go Gq
variable {T : Nat → Option Fn} {A : Oracle}
open Classical in
theorem l_sRs {O : Oracle} (hr : C_sRes O) {p : Int} [IsP p] {m : Fp p} (hm : m.len ≤ 64) {ls : List (List Int)} (h : Arrs ls) (hl : ls.length < 2000000) : ∀ (k i : Nat), i + k = ls.length →
    dn O 0 (.loop ir_spec_l03Residues_L0) ⟨[(0, (.d (.int .i64 p))), (2, .d (.sl (.arr 64 .leaf) (ls.map arr8))), (4, .ptr 0 []), (7, (.d (.int .i64 i)))], [.box false (D.arr 64 .leaf (ints .u8 (pad (row m))))]⟩ =
      if IsSk m (ls.drop i) then some (.exit 0, ⟨[(0, (.d (.int .i64 p))), (2, .d (.sl (.arr 64 .leaf) (ls.map arr8))), (4, .ptr 0 []), (7, (.d (.int .i64 ls.length))), (15, (.d (.bool false)))], [.box false (D.arr 64 .leaf (ints .u8 (pad (row m))))]⟩) else some (.ret, ⟨[(6, (.d (.int .i64 1)))], [.hole]⟩)
  | 0, i, hi => by
    obtain rfl : i = ls.length := by omega
    rw [if_pos (by rw [List.drop_length]; exact isSk_nil m)]
    have hL : (ls.map arr8).length = ls.length := List.length_map ..
    refine dn_stop ?_
    generalize pad (row m) = Pm at *
    generalize ls.map arr8 = LD at *
    simp -implicitDefEqProofs [ir_spec_l03Residues_L0, dn_cond, hL]
  | k + 1, i, hi => by
    have hlt : i < ls.length := by omega
    have hm1 := List.getElem_mem hlt
    have e1 := hr p m ls[i] hm (h _ hm1).2 (h _ hm1).1
    have hL : (ls.map arr8).length = ls.length := List.length_map ..
    have w4 : IntKind.i64.wrap ((i : Int) + 1) = ((i + 1 : Nat) : Int) := (w64 (x := (i : Int) + 1) (by omega)).trans (by omega)
    have hx2 : ∀ h : i < (ls.map arr8).length, (ls.map arr8)[i]'h = (D.arr 64 .leaf (ints .u8 (ls[i]))) := fun h => by rw [List.getElem_map]
    have hd : ls.drop i = ls[i] :: ls.drop (i + 1) := List.drop_eq_getElem_cons hlt
    have ih := l_sRs hr hm h hl k (i + 1) (by omega)
    rw [hd]
    by_cases hres : IsRes m ls[i]
    · rw [decide_eq_true hres] at e1
      have hiff : IsSk m (ls[i] :: ls.drop (i + 1)) ↔ IsSk m (ls.drop (i + 1)) := ⟨fun h => (isSk_cons.1 h).2, fun h => isSk_cons.2 ⟨hres, h⟩⟩
      rw [propext hiff]
      refine dn_round ?_ ih
      generalize ls[i] = li at *
      generalize pad (row m) = Pm at *
      generalize ls.map arr8 = LD at *
      simp -implicitDefEqProofs [ir_spec_l03Residues_L0, dn_cond, hlt, hx2, hL, e1, w4]
    · rw [decide_eq_false hres] at e1
      rw [if_neg (fun h => hres (isSk_cons.1 h).1)]
      refine dn_back ?_
      generalize ls[i] = li at *
      generalize pad (row m) = Pm at *
      generalize ls.map arr8 = LD at *
      simp -implicitDefEqProofs [ir_spec_l03Residues_L0, dn_cond, hlt, hx2, hL, e1]
open Classical in
theorem c_sRsCode (hT : T F_spec_l03Residues = some ir_spec_l03Residues) (hf : C_sField (den T A)) (hi : C_sRes (den T A)) : C_resCode (den T A) F_spec_l03Residues := by
  intro p l ls hb hl h hlen
  have e1 := hf p l hb hl
  refine ask_of hT rfl ?_
  unfold codeRs
  by_cases hfl : IsFld p l
  · rw [decide_eq_true hfl] at e1
    obtain ⟨ip, m, rfl, hm⟩ := hfl
    have h5 := hm.five
    have e2 := l_sRs (O := den T A) hi (m := m) (by omega) h hlen ls.length 0 (Nat.zero_add _)
    have e00 : ((0 : Nat) : Int) = 0 := rfl
    rw [e00, List.drop_zero] at e2
    have hc := fld_code hm (Q := fun ip m' => ∀ x ∈ ls, @IsRes p ip m' x)
    by_cases hs : IsSk m ls
    · rw [if_pos hs] at e2
      rw [if_pos (hc.2 hs)]
      generalize pad (row m) = Pm at *
      generalize ls.map arr8 = LD at *
      simp -implicitDefEqProofs [ir_spec_l03Residues, ir_spec_l03Residues_B, dn_cond, e1, e2]
    · rw [if_neg hs] at e2
      rw [if_neg (fun h => hs (hc.1 h))]
      generalize pad (row m) = Pm at *
      generalize ls.map arr8 = LD at *
      simp -implicitDefEqProofs [ir_spec_l03Residues, ir_spec_l03Residues_B, dn_cond, e1, e2]
  · rw [decide_eq_false hfl] at e1
    rw [if_neg (fun ⟨ip, m, e, hm, _⟩ => hfl ⟨ip, m, e, hm⟩)]
    generalize ls.map arr8 = LD at *
    simp -implicitDefEqProofs [ir_spec_l03Residues, ir_spec_l03Residues_B, dn_cond, e1]
def C_sListed (O : Oracle) : Prop := ∀ (p : Int) (l : List Int) (ls : List (List Int)) (hi : Int), Bytes l → l.length = 64 → Arrs ls → ls.length < 2000000 → ask O F_spec_l09Listed [(D.int .i64 p), (D.arr 64 .leaf (ints .u8 l)), .sl (.arr 64 .leaf) (ls.map arr8), (D.int .i64 hi)] = some (D.int .i64 (codeL p l ls 0 hi))
theorem c_sListed (hT : T F_spec_l09Listed = some ir_spec_l09Listed) (hr : C_resCode (den T A) F_spec_l03Residues) : C_sListed (den T A) := by
  intro p l ls hi bl gl ha hl
  have e := hr p l ls bl gl ha hl
  have h1 : (ls.map arr8).length = ls.length := List.length_map ..
  unfold codeL
  refine ask_of hT rfl ?_
  generalize ls.map arr8 = LD at *
  by_cases h0 : codeRs p l ls = 0
  · rw [h0] at e
    rw [if_neg (by simpa using h0)]
    by_cases h3 : hi < (ls.length : Int)
    · rw [if_pos (.inr h3)]
      simp -implicitDefEqProofs [ir_spec_l09Listed, ir_spec_l09Listed_B, dn_cond, e, h1, h3]
    · rw [if_neg (by omega)]
      simp -implicitDefEqProofs [ir_spec_l09Listed, ir_spec_l09Listed_B, dn_cond, e, h1, h3]
  · rw [if_pos h0]
    generalize codeRs p l ls = k at *
    simp -implicitDefEqProofs [ir_spec_l09Listed, ir_spec_l09Listed_B, dn_cond, e, h0]
theorem l_sSpan {O : Oracle} (hp : K_sPut O) {p : Int} [IsP p] {xs : List (Fp p)} (hx : ∀ x ∈ xs, x.len ≤ 11) (hl : xs.length < 2000000) : ∀ (k i : Nat) (L : List (Fp p)), i + k = xs.length → Desc 11 L →
    dn O 0 (.loop ir_spec_l09Span_L0) ⟨[(0, (.d (.int .i64 p))), (1, .d (.sl (.arr 64 .leaf) (xs.map padD))), (5, .d (.sl (.arr 64 .leaf) (L.map padD))), (6, (.d (.int .i64 i)))], [.hole]⟩ =
      some (.exit 0, ⟨[(0, (.d (.int .i64 p))), (1, .d (.sl (.arr 64 .leaf) (xs.map padD))), (5, .d (.sl (.arr 64 .leaf) ((spanS (xs.drop i) L).map padD))), (6, (.d (.int .i64 xs.length))), (11, (.d (.bool false)))], [.hole]⟩)
  | 0, i, L, hi, hL => by
    obtain rfl : i = xs.length := by omega
    rw [List.drop_length]
    have hX : (xs.map padD).length = xs.length := List.length_map ..
    refine dn_stop ?_
    show _ = some (_, (⟨[_, _, (5, .d (.sl (.arr 64 .leaf) (L.map padD))), _, _], _⟩ : St))
    generalize L.map padD = LD at *
    generalize xs.map padD = XD at *
    simp -implicitDefEqProofs [ir_spec_l09Span_L0, dn_cond, hX]
  | k + 1, i, L, hi, hL => by
    have hlt : i < xs.length := by omega
    have hm1 := List.getElem_mem hlt
    have e1 := hp p L xs[i] hL (hx _ hm1)
    have hX : (xs.map padD).length = xs.length := List.length_map ..
    have w4 : IntKind.i64.wrap ((i : Int) + 1) = ((i + 1 : Nat) : Int) := (w64 (x := (i : Int) + 1) (by omega)).trans (by omega)
    have hx2 : ∀ h : i < (xs.map padD).length, (xs.map padD)[i]'h = (D.arr 64 .leaf (ints .u8 (pad (row xs[i])))) := fun h => by rw [List.getElem_map]
    have hd : spanS (xs.drop i) L = spanS (xs.drop (i + 1)) (putS L xs[i]) := by rw [List.drop_eq_getElem_cons hlt]; rfl
    rw [hd]
    refine dn_round ?_ (l_sSpan hp hx hl k (i + 1) (putS L xs[i]) (by omega) (putS_desc hL (hx _ hm1)))
    generalize pad (row xs[i]) = Pi at *
    generalize (putS L xs[i]).map padD = PD at *
    generalize L.map padD = LD at *
    generalize xs.map padD = XD at *
    simp -implicitDefEqProofs [ir_spec_l09Span_L0, dn_cond, hlt, hX, hx2, e1, w4]
def K_sSpan (O : Oracle) : Prop := ∀ (p : Int) [IsP p] (xs : List (Fp p)), (∀ x ∈ xs, x.len ≤ 11) → xs.length < 2000000 → ask O F_spec_l09Span [(D.int .i64 p), .sl (.arr 64 .leaf) (xs.map padD)] = some (.sl (.arr 64 .leaf) ((spanS xs []).map padD))
theorem k_sSpan (hT : T F_spec_l09Span = some ir_spec_l09Span) (hp : K_sPut (den T A)) : K_sSpan (den T A) := by
  intro p ip xs hx hl
  cases xs with
  | nil =>
    have st := dn_stop (O := den T A) (np := 0) (c := ir_spec_l09Span_L0) (s := ⟨[(0, (.d (.int .i64 p))), (1, .d (.sl (.arr 64 .leaf) [])), (5, .sl 0 [] 0 0 (some 0)), (6, (.d (.int .i64 0)))], [.sl false (.arr 64 .leaf) []]⟩) (s1 := ⟨[(0, (.d (.int .i64 p))), (1, .d (.sl (.arr 64 .leaf) [])), (5, .sl 0 [] 0 0 (some 0)), (6, (.d (.int .i64 0))), (11, (.d (.bool false)))], [.sl false (.arr 64 .leaf) []]⟩) (id := 0) (by simp -implicitDefEqProofs [ir_spec_l09Span_L0, dn_cond])
    refine ask_of hT rfl ?_
    simp -implicitDefEqProofs [ir_spec_l09Span, ir_spec_l09Span_B, st, spanS]
  | cons x xs =>
    have e1 := hp p [] x (Desc.nil 11) (hx x (by simp))
    have e2 := l_sSpan (O := den T A) hp hx hl xs.length 1 (putS [] x) (by rw [List.length_cons]; omega) (putS_desc (Desc.nil 11) (hx x (by simp)))
    have e01 : ((1 : Nat) : Int) = 1 := rfl
    rw [e01, show (x :: xs).drop 1 = xs from rfl, show spanS xs (putS [] x) = spanS (x :: xs) [] from rfl] at e2
    have hX : ((x :: xs).map padD).length = (x :: xs).length := List.length_map ..
    have hx2 : ∀ h : 0 < ((x :: xs).map padD).length, ((x :: xs).map padD)[0]'h = (D.arr 64 .leaf (ints .u8 (pad (row x)))) := fun h => rfl
    have hpos : (0 : Int) < ((x :: xs).length : Int) := by rw [List.length_cons]; omega
    have hpos2 : 0 < (x :: xs).length := by rw [List.length_cons]; omega
    have w1 : IntKind.i64.wrap 1 = 1 := w64 (by omega)
    rw [List.map_nil] at e1
    generalize (putS [] x).map padD = PD at *
    generalize (spanS (x :: xs) []).map padD = SD at *
    generalize pad (row x) = Px at *
    generalize (x :: xs).map padD = XD at *
    generalize (x :: xs).length = n at *
    have st := dn_round (O := den T A) (np := 0) (c := ir_spec_l09Span_L0) (s := ⟨[(0, (.d (.int .i64 p))), (1, .d (.sl (.arr 64 .leaf) XD)), (5, .sl 0 [] 0 0 (some 0)), (6, (.d (.int .i64 0)))], [.sl false (.arr 64 .leaf) []]⟩) (by
      simp -implicitDefEqProofs [ir_spec_l09Span_L0, dn_cond, hX, hx2, hpos2, e1, w1]) e2
    refine ask_of hT rfl ?_
    simp -implicitDefEqProofs [ir_spec_l09Span, ir_spec_l09Span_B, st]
theorem k_sRankOfWord (hT : T F_spec_RankOfWord = some ir_spec_RankOfWord) (hc : C_sListed (den T A)) (hsp : K_sSpan (den T A)) : K_RankOfWord (den T A) F_spec_RankOfWord := by
  intro p l ls bl gl ha hl
  have e1 := hc p l ls 4 bl gl ha hl
  unfold rwD
  by_cases h : codeL p l ls 0 4 = 0
  · rw [h] at e1
    rw [dif_pos h]
    obtain ⟨⟨ip, m, rfl, hm, hs⟩, _, _⟩ := codeL_zero h
    obtain ⟨S, rfl, hS⟩ := sk_of hs
    have h5 := hm.five
    have hSl : S.length < 2000000 := by rwa [List.length_map] at hl
    have e3 := hsp p S (fun x hx => by have := hS x hx; omega) hSl
    have hmp : (S.map fun a => pad (row a)).map (polOf p) = S := map_polOf (S := S) (fun a ha => by have := hS a ha; omega)
    have hmd : (S.map fun a => pad (row a)).map arr8 = S.map padD := map_padD S
    have hsl : ((spanS S []).map padD).length = (spanS S []).length := List.length_map ..
    rw [hmp, hmd]
    rw [hmd] at e1
    refine ask_of hT rfl ?_
    generalize (spanS S []).map padD = RD at *
    generalize S.map padD = SD at *
    generalize pad (row m) = Pm at *
    simp -implicitDefEqProofs [ir_spec_RankOfWord, ir_spec_RankOfWord_B, dn_cond, e1, e3, hsl]
  · rw [dif_neg h]
    refine ask_of hT rfl ?_
    generalize codeL p l ls 0 4 = k at *
    generalize ls.map arr8 = LD at *
    simp -implicitDefEqProofs [ir_spec_RankOfWord, ir_spec_RankOfWord_B, dn_cond, e1, h]
theorem l_toPs {O : Oracle} (hp : C_toPoly O) {ls : List (List Int)} (h : Arrs ls) (hl : ls.length < 2000000) : ∀ (k i : Nat) (Q : List D), i + k = ls.length → Q.length = ls.length → (∀ d ∈ Q, d.sh.beq (.arr 64 .leaf) = true) → Q.take i = (ls.map arr8).take i →
    dn O 0 (.loop ir_laws_toPolyS_L0) ⟨[(0, .d (.sl (.arr 64 .leaf) (ls.map arr8))), (3, .sl 0 [] 0 ls.length (some ls.length)), (4, (.d (.int .i64 i)))], [.sl false (.arr 64 .leaf) Q]⟩ =
      some (.exit 0, ⟨[(0, .d (.sl (.arr 64 .leaf) (ls.map arr8))), (3, .sl 0 [] 0 ls.length (some ls.length)), (4, (.d (.int .i64 ls.length))), (11, (.d (.bool false)))], [.sl false (.arr 64 .leaf) (ls.map arr8)]⟩)
  | 0, i, Q, hi, hq, hQ, ht => by
    obtain rfl : i = ls.length := by omega
    have hL : (ls.map arr8).length = ls.length := List.length_map ..
    rw [List.take_of_length_le (by omega), List.take_of_length_le (by omega)] at ht
    subst ht
    refine dn_stop ?_
    generalize ls.map arr8 = LD at *
    simp -implicitDefEqProofs [ir_laws_toPolyS_L0, dn_cond, hL]
  | k + 1, i, Q, hi, hq, hQ, ht => by
    have hlt : i < ls.length := by omega
    have hm1 := List.getElem_mem hlt
    have hsh : ∀ h : i < Q.length, (Q[i]'h).sh.beq (.arr 64 .leaf) = true := fun h => hQ _ (List.getElem_mem h)
    have e1 := hp ls[i] (h _ hm1).2 (h _ hm1).1
    have hL : (ls.map arr8).length = ls.length := List.length_map ..
    have hx2 : ∀ h : i < (ls.map arr8).length, (ls.map arr8)[i]'h = (D.arr 64 .leaf (ints .u8 (ls[i]))) := fun h => by rw [List.getElem_map]
    have w4 : IntKind.i64.wrap ((i : Int) + 1) = ((i + 1 : Nat) : Int) := (w64 (x := (i : Int) + 1) (by omega)).trans (by omega)
    refine dn_round ?_ (l_toPs hp h hl k (i + 1) (Q.set i (D.arr 64 .leaf (ints .u8 (ls[i])))) (by omega) (by rw [List.length_set]; exact hq) (fun d hd => by
      rcases List.mem_or_eq_of_mem_set hd with h1 | rfl
      · exact hQ d h1
      · rfl) (by
      rw [List.take_succ_eq_append_getElem (show i < (ls.map arr8).length by omega), List.take_succ_eq_append_getElem (by rw [List.length_set]; omega), List.getElem_set_self, List.take_set, List.set_eq_of_length_le (by rw [List.length_take]; omega), ht, hx2]))
    generalize ls[i] = li at *
    generalize ls.map arr8 = LD at *
    simp -implicitDefEqProofs [ir_laws_toPolyS_L0, dn_cond, hlt, hL, hx2, hq, hsh, e1, w4]
def C_toPs (O : Oracle) : Prop := ∀ ls : List (List Int), Arrs ls → ls.length < 2000000 → ask O F_laws_toPolyS [.sl (.arr 64 .leaf) (ls.map arr8)] = some (.sl (.arr 64 .leaf) (ls.map arr8))
theorem c_toPs (hT : T F_laws_toPolyS = some ir_laws_toPolyS) (hp : C_toPoly (den T A)) : C_toPs (den T A) := by
  intro ls h hl
  have e := l_toPs (O := den T A) hp h hl ls.length 0 (List.replicate ls.length (D.arr 64 .leaf (ints .u8 (pad [])))) (Nat.zero_add _) (List.length_replicate ..) (fun d hd => by rw [List.eq_of_mem_replicate hd]; rfl) (by rw [List.take_zero, List.take_zero])
  have e00 : ((0 : Nat) : Int) = 0 := rfl
  rw [e00] at e
  have hL : (ls.map arr8).length = ls.length := List.length_map ..
  have htk : (ls.map arr8).take ls.length = ls.map arr8 := List.take_of_length_le (by omega)
  have h64 : ls.length * 64 ≤ 1099511627776 := by omega
  refine ask_of hT rfl ?_
  generalize ls.map arr8 = LD at *
  generalize ls.length = n at *
  simp -implicitDefEqProofs [ir_laws_toPolyS, ir_laws_toPolyS_B, e, hL, htk, h64]
theorem l_eqPs {O : Oracle} (he : C_eqPoly O) {ls : List (List Int)} (h : ∀ l ∈ ls, l.length = 64) (hl : ls.length < 2000000) : ∀ (k i : Nat), i + k = ls.length →
    dn O 0 (.loop ir_laws_eqPolyS_L0) ⟨[(0, .d (.sl (.arr 64 .leaf) (ls.map arr8))), (1, .d (.sl (.arr 64 .leaf) (ls.map arr8))), (5, (.d (.int .i64 i)))], []⟩ =
      some (.exit 0, ⟨[(0, .d (.sl (.arr 64 .leaf) (ls.map arr8))), (1, .d (.sl (.arr 64 .leaf) (ls.map arr8))), (5, (.d (.int .i64 ls.length))), (14, (.d (.bool false)))], []⟩)
  | 0, i, hi => by
    obtain rfl : i = ls.length := by omega
    have hL : (ls.map arr8).length = ls.length := List.length_map ..
    refine dn_stop ?_
    generalize ls.map arr8 = LD at *
    simp -implicitDefEqProofs [ir_laws_eqPolyS_L0, dn_cond, hL]
  | k + 1, i, hi => by
    have hlt : i < ls.length := by omega
    have e1 := he ls[i] (h _ (List.getElem_mem hlt))
    have hL : (ls.map arr8).length = ls.length := List.length_map ..
    have hx2 : ∀ h : i < (ls.map arr8).length, (ls.map arr8)[i]'h = (D.arr 64 .leaf (ints .u8 (ls[i]))) := fun h => by rw [List.getElem_map]
    have w4 : IntKind.i64.wrap ((i : Int) + 1) = ((i + 1 : Nat) : Int) := (w64 (x := (i : Int) + 1) (by omega)).trans (by omega)
    refine dn_round ?_ (l_eqPs he h hl k (i + 1) (by omega))
    generalize ls[i] = li at *
    generalize ls.map arr8 = LD at *
    simp -implicitDefEqProofs [ir_laws_eqPolyS_L0, dn_cond, hlt, hL, hx2, e1, w4]
def C_eqPs (O : Oracle) : Prop := ∀ ls : List (List Int), (∀ l ∈ ls, l.length = 64) → ls.length < 2000000 → ask O F_laws_eqPolyS [.sl (.arr 64 .leaf) (ls.map arr8), .sl (.arr 64 .leaf) (ls.map arr8)] = some (D.bool true)
theorem c_eqPs (hT : T F_laws_eqPolyS = some ir_laws_eqPolyS) (he : C_eqPoly (den T A)) : C_eqPs (den T A) := by
  intro ls h hl
  have e := l_eqPs (O := den T A) he h hl ls.length 0 (Nat.zero_add _)
  have e00 : ((0 : Nat) : Int) = 0 := rfl
  rw [e00] at e
  refine ask_of hT rfl ?_
  generalize ls.map arr8 = LD at *
  simp -implicitDefEqProofs [ir_laws_eqPolyS, ir_laws_eqPolyS_B, dn_cond, e]
def C_szPs (O : Oracle) : Prop := ∀ (L : List D) (left : Int), 0 ≤ left → left ≤ 2000000 → L.length ≤ 9223372036854775807 → ask O F_laws_szPolyS [.sl (.arr 64 .leaf) L, (D.int .i64 left)] = some (D.int .i64 (if left < L.length then -1 else left - L.length))
theorem c_szPs (hT : T F_laws_szPolyS = some ir_laws_szPolyS) : C_szPs (den T A) := by
  intro L left h0 h1 hl
  have w1 : IntKind.i64.wrap (left - L.length) = left - L.length := w64 (by omega)
  refine ask_of hT rfl ?_
  by_cases h : left < L.length
  · rw [if_pos h]
    have hn : left - (L.length : Int) < 0 := by omega
    simp -implicitDefEqProofs [ir_laws_szPolyS, ir_laws_szPolyS_B, dn_cond, w1, hn]
  · rw [if_neg h]
    have hn : ¬ left - (L.length : Int) < 0 := by omega
    simp -implicitDefEqProofs [ir_laws_szPolyS, ir_laws_szPolyS_B, dn_cond, w1, hn]
theorem rwD_form (p : Int) (l : List Int) (ls : List (List Int)) : ∃ n k : Int, rwD p l ls = .tup [(D.int .i64 n), (D.int .i64 k)] := by
  unfold rwD
  split
  · exact ⟨_, _, rfl⟩
  · exact ⟨_, _, rfl⟩
def L_RankOfWord (O : Oracle) : Prop := ∀ (p : Int) (l : List Int), Bytes l → l.length = 64 → ∀ (ls : List (List Int)), Arrs ls → ls.length ≤ 9223372036854775807 → ask O F_laws_FnExactRankOfWord [(D.int .i64 p), (D.arr 64 .leaf (ints .u8 l)), .sl (.arr 64 .leaf) (ls.map arr8)] = some (D.bool true)
theorem law_RankOfWord (hT : T F_laws_FnExactRankOfWord = some ir_laws_FnExactRankOfWord) (hp : C_toPoly (den T A)) (hk : C_toPs (den T A)) (he : C_eqPs (den T A)) (hsz : C_szPs (den T A)) (hi : K_RankOfWord (den T A) F_impl_RankOfWord) (hs : K_RankOfWord (den T A) F_spec_RankOfWord) : L_RankOfWord (den T A) := by
  intro p l bl gl ls ha hl
  have e0 := hsz (ls.map arr8) 1048576 (by omega) (by omega) (by rw [List.length_map]; exact hl)
  rw [List.length_map] at e0
  refine ask_of hT rfl ?_
  by_cases hbig : (1048576 : Int) < ls.length
  · rw [if_pos hbig] at e0
    generalize ls.map arr8 = LD at *
    simp -implicitDefEqProofs [ir_laws_FnExactRankOfWord, ir_laws_FnExactRankOfWord_B, dn_cond, e0]
  · rw [if_neg hbig] at e0
    have hl2 : ls.length < 2000000 := by omega
    have e1 := hp l bl gl
    have e2 := hk ls ha hl2
    have e3 := hi p l ls bl gl ha hl2
    have e4 := hs p l ls bl gl ha hl2
    obtain ⟨n, k, e5⟩ := rwD_form p l ls
    rw [e5] at e3 e4
    have e6 := he ls (fun l hl => (ha l hl).1) hl2
    have hn : ¬ (1048576 : Int) - ls.length < 0 := by omega
    generalize (1048576 : Int) - ls.length = left at *
    generalize ls.map arr8 = LD at *
    simp -implicitDefEqProofs [ir_laws_FnExactRankOfWord, ir_laws_FnExactRankOfWord_B, dn_cond, e0, e1, e2, e3, e4, e6, hn]
end Pe

namespace Pe
open Go
theorem has_polys : ∀ (xs : List D), (∀ x ∈ xs, tyP.has x) → ∃ ls : List (List Int), xs = ls.map arr8 ∧ Arrs ls
  | [], _ => ⟨[], rfl, fun _ h => by cases h⟩
  | x :: xs, h => by
    obtain ⟨ls, rfl, hb⟩ := has_polys xs fun y hy => h y (List.mem_cons_of_mem _ hy)
    obtain ⟨l, rfl, b, g⟩ := has_P (h x (by simp))
    refine ⟨l :: ls, rfl, fun y hy => ?_⟩
    rcases List.mem_cons.1 hy with rfl | hy
    · exact ⟨g, b⟩
    · exact hb y hy
abbrev tyPs : Ty := .sl tyP
theorem has_Ps {d : D} (h : tyPs.has d) : ∃ ls : List (List Int), d = .sl (.arr 64 .leaf) (ls.map arr8) ∧ Arrs ls ∧ ls.length ≤ 9223372036854775807 := by
  cases d <;> simp only [Ty.has] at h
  obtain ⟨rfl, h1, h2⟩ := h
  obtain ⟨ls, rfl, hb⟩ := has_polys _ h2
  exact ⟨ls, rfl, hb, by simpa using h1⟩
end Pe
