/-
  A part of the proof: an evaluator for a small form of the code, its soundness, and contracts of functions over it.
-/
import Derived.Test.YtmbifmkpdbiadaaGreatW1
import Derived.Test.YtmbifmkpdbiadaaGreatW2
import Derived.Test.YtmbifmkpdbiadaaGreatW3
import Derived.Test.YtmbifmkpdbiadaaGreatW4
import Derived.Test.YtmbifmkpdbiadaaGreatW5

namespace Pe
open Go Gq
variable {T : Nat → Option Fn} {A : Oracle}
def mk8 (k : Nat) : Int := ((k % 256 : Nat) : Int)
theorem wrap8 (k : Nat) : IntKind.u8.wrap (k : Int) = mk8 k := by
 unfold mk8
 simp [IntKind.wrap, IntKind.bits, IntKind.signed]
def mrow (s i : Nat) : List Int := (List.range 64).map fun j => mk8 (s + 64 * i + j)
def mrows (s n : Nat) : List (List Int) := (List.range n).map (mrow s)
theorem mrow_length (s i : Nat) : (mrow s i).length = 64 := by unfold mrow; rw [List.length_map, List.length_range]
theorem mrows_length (s n : Nat) : (mrows s n).length = n := by unfold mrows; rw [List.length_map, List.length_range]
theorem updR_get (f : Nat → List Int) : ∀ (m i : Nat) (l : List (List Int)) (j : Nat), (updR f m i l)[j]? = if i ≤ j ∧ j < i + m ∧ j < l.length then some (f j) else l[j]?
 | 0, i, l, j => by rw [updR, if_neg (by omega)]
 | m + 1, i, l, j => by
  rw [updR, updR_get f m, List.length_set]
  by_cases h1 : i + 1 ≤ j ∧ j < i + 1 + m ∧ j < l.length
  ·rw [if_pos h1, if_pos (by omega)]
  ·rw [if_neg h1]
   by_cases h2 : j = i
   ·subst h2
    by_cases h3 : j < l.length
    ·rw [if_pos (by omega), List.getElem?_set_self h3]
    ·rw [if_neg (by omega), List.getElem?_eq_none (by simpa using h3), List.getElem?_eq_none (by omega)]
   ·rw [List.getElem?_set_ne (Ne.symm h2), if_neg (by omega)]
theorem updR_all (f : Nat → List Int) (n : Nat) (l : List (List Int)) (hl : l.length = n) : updR f n 0 l = (List.range n).map f := by
 apply List.ext_getElem?
 intro j
 rw [updR_get, List.getElem?_map]
 by_cases hj : j < n
 ·rw [if_pos (by omega), List.getElem?_range hj]; rfl
 ·rw [if_neg (by omega), List.getElem?_eq_none (by omega), List.getElem?_eq_none (by simpa using hj)]; rfl
theorem l_mark0 {O : Oracle} {n s i : Nat} {cp : Option Nat} {LR : List D} (hn : n < 2000000) (hs : s < 1000000000000) (hi : i < n) (hLR : LR.length = n) : ∀ (r j : Nat) (cur : List Int), j + r = 64 → cur.length = 64 →
 dn O 1 (.loop Z1t_L0) ⟨[(0, .sl 0 [] 0 n cp), (1, (.d (.int .i64 (((s + 64 * i + j : Nat) : Int))))), (5, (.d (.int .i64 i))), (6, (.d (.int .i64 j)))], [.sl false (.arr 64 .leaf) (LR.set i (D.arr 64 .leaf (ints .u8 cur)))]⟩ =
  some (.exit 2, ⟨[(0, .sl 0 [] 0 n cp), (1, (.d (.int .i64 (((s + 64 * i + 64 : Nat) : Int))))), (5, (.d (.int .i64 i))), (6, (.d (.int .i64 64))), (14, (.d (.bool false)))], [.sl false (.arr 64 .leaf) (LR.set i (D.arr 64 .leaf (ints .u8 (upd (fun j => mk8 (s + 64 * i + j)) r j cur))))]⟩)
 | 0, j, cur, hj, hc => by
  have : j = 64 := by omega
  subst this
  refine dn_stop ?_
  show _ = some (_, (⟨_, [.sl false (.arr 64 .leaf) (LR.set i (D.arr 64 .leaf (ints .u8 cur)))]⟩ : St))
  generalize LR.set i (D.arr 64 .leaf (ints .u8 cur)) = LQ at *
  generalize ((s + 64 * i + 64 : Nat) : Int) = k at *
  simp -implicitDefEqProofs [Z1t_L0, dn_cond]
 | r + 1, j, cur, hj, hc => by
  have hj64 : j < 64 := by omega
  have hj64' : (j : Int) < 64 := by omega
  have w1 := wrap8 (s + 64 * i + j)
  have w2 : IntKind.i64.wrap (((s + 64 * i + j : Nat) : Int) + 1) = ((s + 64 * i + (j + 1) : Nat) : Int) := (w64 (x := ((s + 64 * i + j : Nat) : Int) + 1) (by omega)).trans (by omega)
  have w4 : IntKind.i64.wrap ((j : Int) + 1) = ((j + 1 : Nat) : Int) := (w64 (x := (j : Int) + 1) (by omega)).trans (by omega)
  have hcur : cur[j]? = some (cf cur j) := by rw [List.getElem?_eq_getElem (by omega), cf_lt]
  refine dn_round ?_ (l_mark0 hn hs hi hLR r (j + 1) (cur.set j (mk8 (s + 64 * i + j))) (by omega) (by rw [List.length_set]; exact hc))
  generalize mk8 (s + 64 * i + j) = mv at *
  generalize ((s + 64 * i + j : Nat) : Int) = k at *
  generalize ((s + 64 * i + (j + 1) : Nat) : Int) = k2 at *
  simp -implicitDefEqProofs [Z1t_L0, dn_cond, hj64, hj64', hi, hLR, hcur, w1, w2, w4]
theorem l_mark1 {O : Oracle} {n s : Nat} {cp : Option Nat} (hn : n < 2000000) (hs : s < 1000000000000) : ∀ (r i : Nat) (L : List (List Int)), i + r = n → L.length = n → (∀ l ∈ L, l.length = 64) →
 dn O 1 (.loop Z1t_L1) ⟨[(0, .sl 0 [] 0 n cp), (1, (.d (.int .i64 (((s + 64 * i : Nat) : Int))))), (5, (.d (.int .i64 i)))], [.sl false (.arr 64 .leaf) (L.map arr8)]⟩ =
  some (.exit 0, ⟨[(0, .sl 0 [] 0 n cp), (1, (.d (.int .i64 (((s + 64 * n : Nat) : Int))))), (5, (.d (.int .i64 n))), (10, (.d (.bool false)))], [.sl false (.arr 64 .leaf) ((updR (mrow s) r i L).map arr8)]⟩)
 | 0, i, L, hi, hL, h64 => by
  obtain rfl : i = n := by omega
  refine dn_stop ?_
  show _ = some (_, (⟨_, [.sl false (.arr 64 .leaf) (L.map arr8)]⟩ : St))
  generalize L.map arr8 = LQ at *
  generalize ((s + 64 * i : Nat) : Int) = k at *
  simp -implicitDefEqProofs [Z1t_L1, dn_cond]
 | r + 1, i, L, hi, hL, h64 => by
  have hlt : i < n := by omega
  have hltL : i < L.length := by omega
  have hLD : (L.map arr8).length = n := by rw [List.length_map]; exact hL
  have w4 : IntKind.i64.wrap ((i : Int) + 1) = ((i + 1 : Nat) : Int) := (w64 (x := (i : Int) + 1) (by omega)).trans (by omega)
  have e := l_mark0 (O := O) (cp := cp) hn hs hlt hLD 64 0 L[i] rfl (h64 _ (List.getElem_mem hltL))
  have hs0 : (L.map arr8).set i (D.arr 64 .leaf (ints .u8 (L[i]))) = L.map arr8 := by
   have : (D.arr 64 .leaf (ints .u8 (L[i]))) = (L.map arr8)[i]'(by omega) := by rw [List.getElem_map]
   rw [this, List.set_getElem_self]
  have e00 : ((0 : Nat) : Int) = 0 := rfl
  rw [hs0, upd_all _ _ _ (h64 _ (List.getElem_mem hltL)), Nat.add_zero, e00, show (List.range 64).map (fun j => mk8 (s + 64 * i + j)) = mrow s i from rfl] at e
  have hset : (L.set i (mrow s i)).map arr8 = (L.map arr8).set i (D.arr 64 .leaf (ints .u8 (mrow s i))) := List.map_set
  have ih := l_mark1 (O := O) (cp := cp) hn hs r (i + 1) (L.set i (mrow s i)) (by omega) (by rw [List.length_set]; exact hL) (fun l hl => by
   rcases List.mem_or_eq_of_mem_set hl with h1 | rfl
   ·exact h64 l h1
   ·exact mrow_length s i)
  rw [hset, show s + 64 * (i + 1) = s + 64 * i + 64 by omega] at ih
  refine dn_round ?_ ih
  have hli : (i : Int) < n := by omega
  generalize mrow s i = mr at *
  generalize ((s + 64 * i + 64 : Nat) : Int) = k2 at *
  generalize ((s + 64 * i : Nat) : Int) = k at *
  generalize L.map arr8 = LQ at *
  simp -implicitDefEqProofs [Z1t_L1, dn_cond, hli, e, w4]
def H_markPs (O : Oracle) : Prop := ∀ (ls : List (List Int)) (cp : Option Nat) (s : Nat), ls.length < 2000000 → s < 1000000000000 → (∀ l ∈ ls, l.length = 64) →
 O F1t [.sl 0 [] 0 ls.length cp, (.d (.int .i64 s))] [.sl false (.arr 64 .leaf) (ls.map arr8)] = some ((.d (.int .i64 (((s + 64 * ls.length : Nat) : Int)))), [.sl false (.arr 64 .leaf) ((mrows s ls.length).map arr8)], [])
theorem h_markPs (hT : T F1t = some Z1t) : H_markPs (den T A) := by
 intro ls cp s hl hs h64
 have e := l_mark1 (O := den T A) (cp := cp) hl hs ls.length 0 ls (Nat.zero_add _) rfl h64
 have e00 : ((0 : Nat) : Int) = 0 := rfl
 rw [e00, Nat.mul_zero, Nat.add_zero, updR_all _ _ _ rfl, show (List.range ls.length).map (mrow s) = mrows s ls.length from rfl] at e
 refine den_of hT rfl ?_
 generalize mrows s ls.length = MR at *
 generalize ((s + 64 * ls.length : Nat) : Int) = k at *
 simp -implicitDefEqProofs [Z1t, Z1t_B, e, List.idxOf, List.findIdx]
theorem l_held0 {O : Oracle} {n s i : Nat} (hn : n < 2000000) (hs : s < 1000000000000) (hi : i < n) : ∀ (r j : Nat), j + r = 64 →
 dn O 0 (.loop Z1s_L0) ⟨[(0, .d (.sl (.arr 64 .leaf) ((mrows s n).map arr8))), (1, (.d (.int .i64 (((s + 64 * i + j : Nat) : Int))))), (5, (.d (.int .i64 i))), (6, (.d (.int .i64 j)))], []⟩ =
  some (.exit 2, ⟨[(0, .d (.sl (.arr 64 .leaf) ((mrows s n).map arr8))), (1, (.d (.int .i64 (((s + 64 * i + 64 : Nat) : Int))))), (5, (.d (.int .i64 i))), (6, (.d (.int .i64 64))), (14, (.d (.bool false)))], []⟩)
 | 0, j, hj => by
  have : j = 64 := by omega
  subst this
  refine dn_stop ?_
  generalize (mrows s n).map arr8 = LQ at *
  generalize ((s + 64 * i + 64 : Nat) : Int) = k at *
  simp -implicitDefEqProofs [Z1s_L0, dn_cond]
 | r + 1, j, hj => by
  have hj64 : j < 64 := by omega
  have hj64' : (j : Int) < 64 := by omega
  have w1 := wrap8 (s + 64 * i + j)
  have w2 : IntKind.i64.wrap (((s + 64 * i + j : Nat) : Int) + 1) = ((s + 64 * i + (j + 1) : Nat) : Int) := (w64 (x := ((s + 64 * i + j : Nat) : Int) + 1) (by omega)).trans (by omega)
  have w4 : IntKind.i64.wrap ((j : Int) + 1) = ((j + 1 : Nat) : Int) := (w64 (x := (j : Int) + 1) (by omega)).trans (by omega)
  have hML : ((mrows s n).map arr8).length = n := by rw [List.length_map, mrows_length]
  have hx : ∀ h : i < ((mrows s n).map arr8).length, ((mrows s n).map arr8)[i]'h = (D.arr 64 .leaf (ints .u8 (mrow s i))) := fun h => by
   rw [List.getElem_map]
   unfold mrows
   rw [List.getElem_map, List.getElem_range]
  have hml := mrow_length s i
  have hv : ∀ h : j < (mrow s i).length, (mrow s i)[j]'h = mk8 (s + 64 * i + j) := fun h => by simp [mrow]
  refine dn_round ?_ (l_held0 hn hs hi r (j + 1) (by omega))
  generalize (mrows s n).map arr8 = LQ at *
  generalize mrow s i = mr at *
  generalize mk8 (s + 64 * i + j) = mv at *
  generalize ((s + 64 * i + j : Nat) : Int) = k at *
  generalize ((s + 64 * i + (j + 1) : Nat) : Int) = k2 at *
  simp -implicitDefEqProofs [Z1s_L0, dn_cond, hj64, hj64', hi, hML, hx, hml, hv, w1, w2, w4]
theorem l_held1 {O : Oracle} {n s : Nat} (hn : n < 2000000) (hs : s < 1000000000000) : ∀ (r i : Nat), i + r = n →
 dn O 0 (.loop Z1s_L1) ⟨[(0, .d (.sl (.arr 64 .leaf) ((mrows s n).map arr8))), (1, (.d (.int .i64 (((s + 64 * i : Nat) : Int))))), (5, (.d (.int .i64 i)))], []⟩ =
  some (.exit 0, ⟨[(0, .d (.sl (.arr 64 .leaf) ((mrows s n).map arr8))), (1, (.d (.int .i64 (((s + 64 * n : Nat) : Int))))), (5, (.d (.int .i64 n))), (10, (.d (.bool false)))], []⟩)
 | 0, i, hi => by
  obtain rfl : i = n := by omega
  have hML : ((mrows s i).map arr8).length = i := by rw [List.length_map, mrows_length]
  refine dn_stop ?_
  generalize (mrows s i).map arr8 = LQ at *
  generalize ((s + 64 * i : Nat) : Int) = k at *
  simp -implicitDefEqProofs [Z1s_L1, dn_cond, hML]
 | r + 1, i, hi => by
  have hlt : i < n := by omega
  have hML : ((mrows s n).map arr8).length = n := by rw [List.length_map, mrows_length]
  have w4 : IntKind.i64.wrap ((i : Int) + 1) = ((i + 1 : Nat) : Int) := (w64 (x := (i : Int) + 1) (by omega)).trans (by omega)
  have e := l_held0 (O := O) hn hs hlt 64 0 rfl
  have e00 : ((0 : Nat) : Int) = 0 := rfl
  rw [Nat.add_zero, e00] at e
  have ih := l_held1 (O := O) hn hs r (i + 1) (by omega)
  rw [show s + 64 * (i + 1) = s + 64 * i + 64 by omega] at ih
  refine dn_round ?_ ih
  generalize ((s + 64 * i + 64 : Nat) : Int) = k2 at *
  generalize ((s + 64 * i : Nat) : Int) = k at *
  generalize (mrows s n).map arr8 = LQ at *
  simp -implicitDefEqProofs [Z1s_L1, dn_cond, hlt, hML, e, w4]
def C_heldPs (O : Oracle) : Prop := ∀ s n : Nat, n < 2000000 → s < 1000000000000 → ask O F1s [.sl (.arr 64 .leaf) ((mrows s n).map arr8), (D.int .i64 s)] = some (D.int .i64 (((s + 64 * n : Nat) : Int)))
theorem c_heldPs (hT : T F1s = some Z1s) : C_heldPs (den T A) := by
 intro s n hn hs
 have e := l_held1 (O := den T A) hn hs n 0 (Nat.zero_add _)
 have e00 : ((0 : Nat) : Int) = 0 := rfl
 rw [e00, Nat.mul_zero, Nat.add_zero] at e
 refine ask_of hT rfl ?_
 generalize (mrows s n).map arr8 = LQ at *
 generalize ((s + 64 * n : Nat) : Int) = k at *
 simp -implicitDefEqProofs [Z1s, Z1s_B, e]
end Pe


namespace Pe
open Go Gq
variable {T : Nat → Option Fn} {A : Oracle}
section
variable {p : Int} [IsP p]
theorem l_polysH {O : Oracle} (hpo : K_poly O) {xs : List (Fp p)} (hl : xs.length < 2000000) (hx : ∀ x ∈ xs, x.len ≤ 64) : ∀ (r i : Nat) (cp : Option Nat), i + r = xs.length → ∃ cp' : Option Nat,
 dn O 0 (.loop Zx_L0) ⟨[(3, .sl 1 [] 0 i cp), (6, .d (.sl .leaf (xs.map rowD))), (7, (.d (.int .i64 xs.length))), (8, (.d (.int .i64 i)))], [.hole, .sl false (.arr 64 .leaf) ((xs.take i).map padD), .hole, .hole]⟩ =
  some (.exit 0, ⟨[(3, .sl 1 [] 0 xs.length cp'), (6, .d (.sl .leaf (xs.map rowD))), (7, (.d (.int .i64 xs.length))), (8, (.d (.int .i64 xs.length))), (9, (.d (.bool false)))], [.hole, .sl false (.arr 64 .leaf) (xs.map padD), .hole, .hole]⟩)
 | 0, i, cp, hi => by
  obtain rfl : i = xs.length := by omega
  rw [List.take_length]
  refine ⟨cp, dn_stop ?_⟩
  generalize xs.map padD = XD at *
  generalize xs.map rowD = RD at *
  simp -implicitDefEqProofs [Zx_L0, dn_cond]
 | r + 1, i, cp, hi => by
  have hlt : i < xs.length := by omega
  have hm := List.getElem_mem hlt
  have e1 := hpo p xs[i] (hx _ hm)
  have hXD : (xs.map rowD).length = xs.length := List.length_map ..
  have hxi : ∀ h : i < (xs.map rowD).length, (xs.map rowD)[i]'h = (D.sl .leaf (ints .i64 (row xs[i]))) := fun h => by rw [List.getElem_map]
  have w4 : IntKind.i64.wrap ((i : Int) + 1) = ((i + 1 : Nat) : Int) := (w64 (x := (i : Int) + 1) (by omega)).trans (by omega)
  have h24 : (i + 1) * 64 ≤ 1099511627776 := by omega
  have htk : (xs.take (i + 1)).map padD = (xs.take i).map padD ++ [(D.arr 64 .leaf (ints .u8 (pad (row xs[i]))))] := by rw [List.take_succ_eq_append_getElem hlt, List.map_append]; rfl
  have hL : ((xs.take i).map padD).length = i := by rw [List.length_map, List.length_take]; omega
  have htt : ((xs.take i).map padD).take i = (xs.take i).map padD := List.take_of_length_le (by omega)
  obtain ⟨cp', ih⟩ := l_polysH hpo hl hx r (i + 1) none (by omega)
  refine ⟨cp', dn_round ?_ ih⟩
  rw [htk]
  generalize pad (row xs[i]) = Pi at *
  generalize row xs[i] = Ri at *
  generalize (xs.take i).map padD = TD at *
  generalize xs.map rowD = XD at *
  simp -implicitDefEqProofs [Zx_L0, dn_cond, hlt, hXD, hxi, e1, h24, hL, htt, w4, List.replicate]
def H_polys (O : Oracle) : Prop := ∀ (p : Int) [IsP p] (xs : List (Fp p)), xs.length < 2000000 → (∀ x ∈ xs, x.len ≤ 64) → ∃ cp : Option Nat,
 O Fx [.d (.sl .leaf (xs.map rowD))] [] = some (.sl 0 [] 0 xs.length cp, [], [.sl false (.arr 64 .leaf) (xs.map padD)])
end
theorem h_polys (hT : T Fx = some Zx) (hpo : K_poly (den T A)) : H_polys (den T A) := by
 intro p ip xs hl hx
 obtain ⟨cp, e⟩ := l_polysH (O := den T A) hpo hl hx xs.length 0 (some 0) (Nat.zero_add _)
 have e00 : ((0 : Nat) : Int) = 0 := rfl
 rw [e00, List.take_zero, List.map_nil] at e
 have h2 : (xs.map rowD).length = xs.length := List.length_map ..
 refine ⟨cp, den_of hT rfl ?_⟩
 generalize xs.map padD = XD at *
 generalize xs.map rowD = RD at *
 simp -implicitDefEqProofs [Zx, Zx_B, h2, e, List.idxOf, List.findIdx, List.findIdx.go]
end Pe

namespace Pe
open Go Gq
section
variable {p : Int}
noncomputable def cS (A : List (Fp p)) (i : Nat) : Fp p := (A[i]?).getD 0
theorem cS_ge {A : List (Fp p)} {i : Nat} (h : A.length ≤ i) : cS A i = 0 := by unfold cS; rw [List.getElem?_eq_none h]; rfl
theorem cS_lt {A : List (Fp p)} {i : Nat} (h : i < A.length) : A[i] = cS A i := by unfold cS; rw [List.getElem?_eq_getElem h]; rfl
def IsTrim (A : List (Fp p)) : Prop := ∀ n, A.length = n + 1 → cS A n ≠ 0
theorem cS_trim (S : List (Fp p)) (i : Nat) : cS (trimS S) i = cS S i := by
 unfold cS trimS
 have hle := stl_le S S.length
 by_cases h : i < stl S S.length
 ·rw [List.getElem?_take, if_pos h]
 ·rw [List.getElem?_take, if_neg h]
  by_cases h2 : i < S.length
  ·rw [stl_zero S S.length i (by omega) h2]; rfl
  ·rw [List.getElem?_eq_none (by omega)]
theorem isTrim_trim (S : List (Fp p)) : IsTrim (trimS S) := fun n hn => by
 obtain ⟨a, x, e, hx⟩ := trimS_form (S := S) (by omega)
 rw [e] at hn ⊢
 rw [List.length_append, List.length_singleton] at hn
 unfold cS
 rw [List.getElem?_append_right (by omega), show n - a.length = 0 by omega]
 exact hx
theorem trim_len_le {X : List (Fp p)} {n : Nat} (h : ∀ i, n ≤ i → cS X i = 0) : (trimS X).length ≤ n := by
 rcases Nat.lt_or_ge n (trimS X).length with g | g
 ·have := isTrim_trim X ((trimS X).length - 1) (by omega)
  rw [cS_trim] at this
  exact absurd (h _ (by omega)) this
 ·exact g
theorem isTrim_nil : IsTrim ([] : List (Fp p)) := fun n h => by cases h
theorem cS_nil (i : Nat) : cS ([] : List (Fp p)) i = 0 := rfl
theorem cS_mem {A : List (Fp p)} {N : Nat} (h : ∀ i, (cS A i).len ≤ N) : ∀ c ∈ A, c.len ≤ N := fun c hc => by
 obtain ⟨i, hi, rfl⟩ := List.getElem_of_mem hc
 rw [cS_lt hi]; exact h i
theorem mem_cS {A : List (Fp p)} {N : Nat} (h : ∀ c ∈ A, c.len ≤ N) (i : Nat) : (cS A i).len ≤ N := by
 by_cases hi : i < A.length
 ·rw [← cS_lt hi]; exact h _ (List.getElem_mem hi)
 ·rw [cS_ge (by omega), Pol.len_zero]; omega
theorem cS_map {n : Nat} {f : Nat → Fp p} (i : Nat) : cS ((List.range n).map f) i = if i < n then f i else 0 := by
 unfold cS
 rw [List.getElem?_map]
 by_cases h : i < n
 ·rw [List.getElem?_range h, if_pos h]; rfl
 ·rw [List.getElem?_eq_none (by simpa using h), if_neg h]; rfl
noncomputable def plusS (k : Int) (A B : List (Fp p)) : List (Fp p) := trimS ((List.range (max A.length B.length)).map fun i => cS A i + Pol.C (zp p k) * cS B i)
theorem cS_plus (k : Int) (A B : List (Fp p)) (i : Nat) : cS (plusS k A B) i = cS A i + Pol.C (zp p k) * cS B i := by
 unfold plusS
 rw [cS_trim, cS_map]
 split
 ·rfl
 ·rw [cS_ge (A := A) (by omega), cS_ge (A := B) (by omega), Gq.mul_zero, Gq.add_zero]
theorem isTrim_plus (k : Int) (A B : List (Fp p)) : IsTrim (plusS k A B) := isTrim_trim _
theorem plus_len (k : Int) (A B : List (Fp p)) : (plusS k A B).length ≤ max A.length B.length := trim_len_le fun i hi => by
 rw [cS_map, if_neg (by omega)]
noncomputable def termS (c : Fp p) (k : Nat) : List (Fp p) := List.replicate k 0 ++ [c]
theorem termS_length (c : Fp p) (k : Nat) : (termS c k).length = k + 1 := by unfold termS; rw [List.length_append, List.length_replicate]; rfl
theorem cS_term (c : Fp p) (k i : Nat) : cS (termS c k) i = if i = k then c else 0 := by
 unfold cS termS
 rcases Nat.lt_trichotomy i k with h | h | h
 ·rw [List.getElem?_append_left (by rw [List.length_replicate]; exact h), List.getElem?_replicate, if_pos h, if_neg (by omega)]; rfl
 ·rw [List.getElem?_append_right (by rw [List.length_replicate]; omega), List.length_replicate, h, Nat.sub_self, if_pos rfl]; rfl
 ·rw [List.getElem?_eq_none (by rw [List.length_append, List.length_replicate, List.length_singleton]; omega), if_neg (by omega)]; rfl
theorem isTrim_term {c : Fp p} (h : c ≠ 0) (k : Nat) : IsTrim (termS c k) := fun n hn => by
 rw [termS_length] at hn
 rw [cS_term, if_pos (by omega)]; exact h
theorem trimS_len_le (S : List (Fp p)) : (trimS S).length ≤ S.length := by
 unfold trimS; rw [List.length_take]; omega
theorem cS_set {X : List (Fp p)} {n i : Nat} {c : Fp p} (h : n < X.length) : cS (X.set n c) i = if i = n then c else cS X i := by
 unfold cS
 by_cases hi : i = n
 ·subst hi; rw [List.getElem?_set_self h, if_pos rfl]; rfl
 ·rw [List.getElem?_set_ne (by omega), if_neg hi]
theorem snoc_of {B : List (Fp p)} (h : 1 ≤ B.length) : ∃ b, B = b ++ [cS B (B.length - 1)] ∧ b.length = B.length - 1 := by
 have hlt : B.length - 1 < B.length := by omega
 refine ⟨B.take (B.length - 1), ?_, by rw [List.length_take]; omega⟩
 rw [← cS_lt hlt, ← List.take_succ_eq_append_getElem hlt, show B.length - 1 + 1 = B.length by omega, List.take_length]
end
section
variable {p : Int} [IsP p]
theorem byIn_lens' {m x : Fp p} {i N : Nat} (hm : m ≠ 0) (hN : m.len ≤ N + 1) : ∀ (k : Nat) (b Q : List (Fp p)), (∀ c ∈ Q, c.len ≤ N) → ∀ c ∈ byIn m x i k b Q, c.len ≤ N
 | _, [], _, h => h
 | k, y :: ys, Q, h => byIn_lens' hm hN (k + 1) ys _ (addAt_lens h (by have := Pol.len_mod (x * frIt m (i % (m.len - 1)) y) hm; omega))
theorem byOut_lens' {m : Fp p} {b : List (Fp p)} {N : Nat} (hm : m ≠ 0) (hN : m.len ≤ N + 1) : ∀ (i : Nat) (a Q : List (Fp p)), (∀ c ∈ Q, c.len ≤ N) → ∀ c ∈ byOut m b i a Q, c.len ≤ N
 | _, [], _, h => h
 | i, _x :: xs, Q, h => byOut_lens' hm hN (i + 1) xs _ (byIn_lens' hm hN 0 b Q h)
theorem prodS_lens' {m : Fp p} {a b : List (Fp p)} {N : Nat} (hm : m ≠ 0) (hN : m.len ≤ N + 1) : ∀ c ∈ prodS m a b, c.len ≤ N := fun c hc => by
 unfold prodS at hc
 split at hc
 ·cases hc
 ·have h1 : c ∈ mulS m a b := List.mem_of_mem_take hc
  exact byOut_lens' hm hN 0 a _ (fun c hc => by rw [List.eq_of_mem_replicate hc, Pol.len_zero]; omega) c h1
theorem isTrim_prod (m : Fp p) (a b : List (Fp p)) : IsTrim (prodS m a b) := by
 unfold prodS
 split
 ·exact isTrim_nil
 ·exact isTrim_trim _
theorem prod_len_le {m : Fp p} {a b : List (Fp p)} : (prodS m a b).length ≤ a.length + b.length - 1 := by
 unfold prodS
 split
 ·exact Nat.zero_le _
 ·have := trimS_len_le (mulS m a b)
  have hl : (mulS m a b).length = a.length + b.length - 1 := by unfold mulS; rw [byOut_length, List.length_replicate]
  omega
theorem mulS_val {m x y : Fp p} {a b : List (Fp p)} : cS (mulS m (a ++ [x]) (b ++ [y])) (a.length + b.length) = x * frIt m (a.length % (m.len - 1)) y % m := by
 unfold mulS
 rw [byOut_snoc, byIn_snoc]
 unfold addAt
 rw [byIn_get_ge _ _ _ (by omega), byOut_get_ge _ _ _ (by rw [List.length_append, List.length_cons, List.length_nil]; omega)]
 have hN : 0 + a.length + (0 + b.length) = a.length + b.length := by omega
 rw [hN]
 unfold cS
 rw [List.getElem?_set_self (by rw [byIn_length, byOut_length, List.length_replicate, List.length_append, List.length_append]; simp only [List.length_cons, List.length_nil]; omega)]
 rw [List.getElem?_replicate, if_pos (by rw [List.length_append, List.length_append]; simp only [List.length_cons, List.length_nil]; omega)]
 show (0 : Fp p) + _ = _
 rw [Gq.zero_add, show 0 + a.length = a.length by omega]
theorem prod_top {m : Fp p} {A B : List (Fp p)} (ha : 1 ≤ A.length) (hb : 1 ≤ B.length) : cS (prodS m A B) (A.length - 1 + (B.length - 1)) = cS A (A.length - 1) * frIt m ((A.length - 1) % (m.len - 1)) (cS B (B.length - 1)) % m := by
 obtain ⟨a, ea, la⟩ := snoc_of ha
 obtain ⟨b, eb, lb⟩ := snoc_of hb
 have h := mulS_val (m := m) (x := cS A (A.length - 1)) (y := cS B (B.length - 1)) (a := a) (b := b)
 rw [← ea, ← eb, la, lb] at h
 unfold prodS
 rw [if_neg (by omega), cS_trim]
 exact h
theorem inv_back {m x y : Fp p} (hm : Fld m) (hx : x.len < m.len) (hy : y ≠ 0) (hyl : y.len < m.len) : (x * invm m y % m) * y % m = x ∧ y * (x * invm m y % m) % m = x := by
 have h0 : m ≠ 0 := hm.mon.2
 have e := invm_ok hm hy hyl
 have key : Quo.mk m ((x * invm m y % m) * y) = Quo.mk m x := by
  rw [Quo.mk_mul, Pol.mk_mod, Quo.mk_mul, Gq.mul_assoc, e, Gq.mul_one]
 have h1 := (Pol.mod_eq_iff h0).2 key
 rw [Pol.mod_small hx] at h1
 exact ⟨h1, by rw [Gq.mul_comm]; exact h1⟩
theorem frIt_add {m : Fp p} : ∀ (b a : Nat) (x : Fp p), frIt m (a + b) x = frIt m a (frIt m b x)
 | 0, _, _ => rfl
 | b + 1, a, x => by
  show frIt m (a + b) (pw x p.toNat % m) = frIt m a (frIt m b (pw x p.toNat % m))
  exact frIt_add b a _
theorem frIt_round {m : Fp p} (hm : Fld m) (j : Nat) {z : Fp p} (hz : z.len < m.len) : frIt m (j % (m.len - 1)) (frIt m ((m.len - 1 - j % (m.len - 1)) % (m.len - 1)) z) = z := by
 have h2 := hm.two
 have hlt := Nat.mod_lt j (show 0 < m.len - 1 by omega)
 rw [frIt_mod hm _ hz, ← frIt_add, show j % (m.len - 1) + (m.len - 1 - j % (m.len - 1)) = m.len - 1 by omega, ← frIt_mod hm _ hz, Nat.mod_self]
 rfl
noncomputable def qc (left : Bool) (m : Fp p) (A B : List (Fp p)) : Fp p :=
 if left then frIt m ((m.len - 1 - (B.length - 1) % (m.len - 1)) % (m.len - 1)) (cS A (A.length - 1) * invm m (cS B (B.length - 1)) % m)
 else cS A (A.length - 1) * invm m (frIt m ((A.length - B.length) % (m.len - 1)) (cS B (B.length - 1))) % m
noncomputable def qT (left : Bool) (m : Fp p) (A B : List (Fp p)) : List (Fp p) := termS (qc left m A B) (A.length - B.length)
noncomputable def qP (left : Bool) (m : Fp p) (A B : List (Fp p)) : List (Fp p) := if left then prodS m B (qT left m A B) else prodS m (qT left m A B) B
end
section
variable {p : Int}
structure Sk (m : Fp p) (A : List (Fp p)) : Prop where
 trim : IsTrim A
 eight : A.length ≤ 8
 res : ∀ c ∈ A, c.len < m.len
theorem Sk.cs {m : Fp p} {A : List (Fp p)} (h : Sk m A) (hm : m ≠ 0) (i : Nat) : (cS A i).len < m.len := by
 have := mem_cS (N := m.len - 1) (fun c hc => by have := h.res c hc; omega) i
 have := Pol.len_pos hm
 omega
theorem Sk.top {m : Fp p} {A : List (Fp p)} (h : Sk m A) (h1 : 1 ≤ A.length) : cS A (A.length - 1) ≠ 0 := h.trim _ (by omega)
theorem Sk.nil (m : Fp p) : Sk m [] := ⟨isTrim_nil, by simp, fun c h => by cases h⟩
end
section
variable {p : Int} [IsP p]
theorem c_ge' {p : Int} {a : Fp p} {n : Nat} (h : a.len ≤ n) : a.c n = 0 := a.lt_len n h
theorem Sk.plus {m : Fp p} {A B : List (Fp p)} (hm : m ≠ 0) (hA : Sk m A) (hB : Sk m B) (k : Int) : Sk m (plusS k A B) := by
 have h1 := Pol.len_pos hm
 refine ⟨isTrim_plus k A B, by have := plus_len k A B; have := hA.eight; have := hB.eight; omega, fun c hc => ?_⟩
 have := cS_mem (A := plusS k A B) (N := m.len - 1) (fun i => by
  rw [cS_plus]
  have a1 := hA.cs hm i
  have a2 := hB.cs hm i
  exact Pol.len_add_le (by omega) (Pol.len_le fun j hj => by rw [Pol.c_Cmul, c_ge' (by omega), Gq.mul_zero])) c hc
 omega
theorem step_ok (left : Bool) {m : Fp p} (hm : Fld m) {A B : List (Fp p)} (hA : Sk m A) (hB : Sk m B) (h1 : 1 ≤ B.length) (hle : B.length ≤ A.length) :
 qc left m A B ≠ 0 ∧ (qc left m A B).len < m.len ∧ Sk m (qT left m A B) ∧ Sk m (qP left m A B) ∧ (plusS (-1) A (qP left m A B)).length < A.length ∧ Sk m (plusS (-1) A (qP left m A B)) := by
 have h0 : m ≠ 0 := hm.mon.2
 have hx := hA.top (by omega)
 have hxl := hA.cs h0 (A.length - 1)
 have hy := hB.top h1
 have hyl := hB.cs h0 (B.length - 1)
 have hfy : frIt m ((A.length - B.length) % (m.len - 1)) (cS B (B.length - 1)) ≠ 0 := frIt_ne hm _ _ hy hyl
 have hfl := frIt_len h0 ((A.length - B.length) % (m.len - 1)) (cS B (B.length - 1)) hyl
 have hb1 := inv_back hm hxl hfy hfl
 have hb2 := inv_back hm hxl hy hyl
 have hzl : (cS A (A.length - 1) * invm m (cS B (B.length - 1)) % m).len < m.len := Pol.len_mod _ h0
 have hz0 : cS A (A.length - 1) * invm m (cS B (B.length - 1)) % m ≠ 0 := fun h => by
  have := hb2.1
  rw [h, Gq.zero_mul, Pol.zero_mod h0] at this
  exact hx this.symm
 have hc0 : qc left m A B ≠ 0 := by
  unfold qc
  cases left with
  | true => simp only [if_true]; exact frIt_ne hm _ _ hz0 hzl
  | false =>
   simp only [Bool.false_eq_true, if_false]
   intro h
   have := hb1.1
   rw [h, Gq.zero_mul, Pol.zero_mod h0] at this
   exact hx this.symm
 have hcl : (qc left m A B).len < m.len := by
  unfold qc
  cases left with
  | true => simp only [if_true]; exact frIt_len h0 _ _ hzl
  | false => simp only [Bool.false_eq_true, if_false]; exact Pol.len_mod _ h0
 have hTl : (qT left m A B).length = A.length - B.length + 1 := termS_length _ _
 have h8 := hA.eight
 have hT : Sk m (qT left m A B) := ⟨isTrim_term hc0 _, by omega, fun c hc => by
  unfold qT termS at hc
  rcases List.mem_append.1 hc with h | h
  ·rw [List.eq_of_mem_replicate h, Pol.len_zero]; exact Pol.len_pos h0
  ·rw [List.mem_singleton.1 h]; exact hcl⟩
 have hPl : (qP left m A B).length ≤ A.length := by
  unfold qP
  cases left with
  | true => have := prod_len_le (m := m) (a := B) (b := qT true m A B); simp only [if_true]; omega
  | false => have := prod_len_le (m := m) (a := qT false m A B) (b := B); simp only [Bool.false_eq_true, if_false]; omega
 have hP : Sk m (qP left m A B) := by
  have hm1 := Pol.len_pos h0
  refine ⟨?_, by omega, ?_⟩
  ·unfold qP
   cases left with
   | true => exact isTrim_prod _ _ _
   | false => exact isTrim_prod _ _ _
  ·intro c hc
   have : c.len ≤ m.len - 1 := by
    unfold qP at hc
    cases left with
    | true => exact prodS_lens' h0 (by omega) c hc
    | false => exact prodS_lens' h0 (by omega) c hc
   omega
 have htop : cS (qP left m A B) (A.length - 1) = cS A (A.length - 1) := by
  unfold qP
  cases left with
  | true =>
   simp only [if_true]
   have h := prod_top (m := m) (A := B) (B := qT true m A B) h1 (by omega)
   rw [hTl, show B.length - 1 + (A.length - B.length + 1 - 1) = A.length - 1 by omega, show A.length - B.length + 1 - 1 = A.length - B.length by omega] at h
   rw [h]
   unfold qT
   rw [cS_term, if_pos rfl]
   unfold qc
   simp only [if_true]
   rw [frIt_round hm (B.length - 1) hzl]
   exact hb2.2
  | false =>
   simp only [Bool.false_eq_true, if_false]
   have h := prod_top (m := m) (A := qT false m A B) (B := B) (by omega) h1
   rw [hTl, show A.length - B.length + 1 - 1 + (B.length - 1) = A.length - 1 by omega, show A.length - B.length + 1 - 1 = A.length - B.length by omega] at h
   rw [h]
   unfold qT
   rw [cS_term, if_pos rfl]
   unfold qc
   simp only [Bool.false_eq_true, if_false]
   exact hb1.1
 have hneg : ∀ x : Fp p, x + Pol.C (zp p (-1)) * x = 0 := fun x => by
  rw [zp_neg, zp_one, Pol.C_neg, Pol.C_one]
  exact ring_of [x] rfl
 refine ⟨hc0, hcl, hT, hP, ?_, hA.plus h0 hP (-1)⟩
 have hlt : (plusS (-1) A (qP left m A B)).length ≤ A.length - 1 := trim_len_le fun i hi => by
  rw [cS_map]
  split
  ·rcases Nat.lt_or_ge i A.length with g | g
   ·rw [show i = A.length - 1 by omega, htop, hneg]
   ·rw [cS_ge g, cS_ge (A := qP left m A B) (by omega), Gq.mul_zero, Gq.add_zero]
  ·rfl
 omega
def Zto (Q A B : List (Fp p)) : Prop := ∀ j, j + B.length ≤ A.length → cS Q j = 0
theorem Zto.step {left : Bool} {m : Fp p} (hm : Fld m) {Q A B : List (Fp p)} (hA : Sk m A) (hB : Sk m B) (h1 : 1 ≤ B.length) (hle : B.length ≤ A.length) (hz : Zto Q A B) : Zto (plusS 1 Q (qT left m A B)) (plusS (-1) A (qP left m A B)) B := fun j hj => by
 obtain ⟨_, _, _, _, h, _⟩ := step_ok left hm hA hB h1 hle
 unfold qT
 rw [cS_plus, hz j (by omega), cS_term, if_neg (by omega), Gq.mul_zero, Gq.add_zero]
end
end Pe

namespace Pe
open Go Gq
variable {T : Nat → Option Fn} {A : Oracle}
def K_single (O : Oracle) : Prop := ∀ (p : Int) [IsP p] (c : Fp p) (k : Nat), k < 10000 → ask O F1l [(D.sl .leaf (ints .i64 (row c))), (D.int .i64 k)] = some (skD (termS c k))
theorem termS_map {p : Int} (c : Fp p) (k : Nat) : (List.replicate (k + 1) (D.sl .leaf [])).set k (D.sl .leaf (ints .i64 (row c))) = (termS c k).map rowD := by
 unfold termS
 rw [List.map_append, List.map_replicate, show rowD (0 : Fp p) = .sl .leaf [] by show (D.sl .leaf (ints .i64 (row (0 : Fp p)))) = _; rw [row_zero, ints_nil], List.replicate_succ', List.set_append_right _ _ (by rw [List.length_replicate]; omega), List.length_replicate, Nat.sub_self]
 rfl
theorem k_single (hT : T F1l = some Z1l) : K_single (den T A) := by
 intro p ip c k hk
 have w1 : IntKind.i64.wrap ((k : Int) + 1) = ((k + 1 : Nat) : Int) := (w64 (x := (k : Int) + 1) (by omega)).trans (by omega)
 have h24 : (k + 1) * 24 ≤ 1099511627776 := by omega
 have hn : (0 : Int) ≤ ((k + 1 : Nat) : Int) := by omega
 have hlt : k < k + 1 := by omega
 have hsk : skD (termS c k) = .sl .leaf ((termS c k).map rowD) := rfl
 have htm := termS_map c k
 have hTL : ((termS c k).map rowD).length = k + 1 := by rw [List.length_map, termS_length]
 have htk : ((termS c k).map rowD).take (k + 1) = (termS c k).map rowD := List.take_of_length_le (by omega)
 rw [hsk]
 refine ask_of hT rfl ?_
 have hRL : (List.replicate (k + 1) (D.sl .leaf [])).length = k + 1 := List.length_replicate ..
 have hRg : ∀ h : k < (List.replicate (k + 1) (D.sl .leaf [])).length, (List.replicate (k + 1) (D.sl .leaf []))[k]'h = D.sl .leaf [] := fun h => List.getElem_replicate h
 generalize (termS c k).map rowD = TD at *
 generalize row c = Rc at *
 generalize hRR : List.replicate (k + 1) (D.sl .leaf []) = RR at *
 generalize k + 1 = k1 at *
 simp -implicitDefEqProofs [Z1l, Z1l_B, w1, h24, hlt, hRR, hRL, hRg, htm, hTL, htk]
def K_skAt (O : Oracle) : Prop := ∀ (p : Int) [IsP p] (A : List (Fp p)) (i : Nat), ask O F1m [skD A, (D.int .i64 i)] = some (D.sl .leaf (ints .i64 (row (cS A i))))
theorem k_skAt (hT : T F1m = some Z1m) : K_skAt (den T A) := by
 intro p ip S i
 have hsk : skD S = .sl .leaf (S.map rowD) := rfl
 have hL : (S.map rowD).length = S.length := List.length_map ..
 rw [hsk]
 refine ask_of hT rfl ?_
 by_cases h : i < S.length
 ·have hx : ∀ h : i < (S.map rowD).length, (S.map rowD)[i]'h = (D.sl .leaf (ints .i64 (row (cS S i)))) := fun h' => by rw [List.getElem_map, cS_lt h]
  generalize row (cS S i) = Rc at *
  generalize S.map rowD = SD at *
  simp -implicitDefEqProofs [Z1m, Z1m_B, dn_cond, h, hL, hx]
 ·rw [cS_ge (by omega), row_zero]
  generalize S.map rowD = SD at *
  simp -implicitDefEqProofs [Z1m, Z1m_B, dn_cond, h, hL, ints_nil]
theorem l_plus {O : Oracle} (hat : K_skAt O) (hco : K_combine O) {p : Int} [IsP p] {m : Fp p} {X Y : List (Fp p)} {k : Int} (hk : -1000 ≤ k ∧ k ≤ 1000) (hX : ∀ c ∈ X, c.len ≤ 64) (hY : ∀ c ∈ Y, c.len ≤ 64) {n : Nat} (hn : n < 100000) {cp cq : Option Nat} : ∀ (r i : Nat) (Q : List D), i + r = n → Q.length = n → (∀ d ∈ Q, d.sh.beq .leaf = true) → Q.take i = ((List.range n).map fun i => rowD (cS X i + Pol.C (zp p k) * cS Y i)).take i →
 dn O 0 (.loop Zo_L0) ⟨[(1, .d (skD X)), (2, .d (skD Y)), (3, (.d (.int .i64 k))), (4, .ptr 0 []), (9, .sl 1 [] 0 n cp), (18, (.d (.int .i64 n))), (19, (.d (.int .i64 i)))], [.box false (fldD m), .sl false .leaf Q]⟩ =
  some (.exit 0, ⟨[(1, .d (skD X)), (2, .d (skD Y)), (3, (.d (.int .i64 k))), (4, .ptr 0 []), (9, .sl 1 [] 0 n cp), (18, (.d (.int .i64 n))), (19, (.d (.int .i64 n))), (20, (.d (.bool false)))], [.box false (fldD m), .sl false .leaf ((List.range n).map fun i => rowD (cS X i + Pol.C (zp p k) * cS Y i))]⟩)
 | 0, i, Q, hi, hq, hQ, ht => by
  obtain rfl : i = n := by omega
  rw [List.take_of_length_le (by omega), List.take_of_length_le (by rw [List.length_map, List.length_range]; omega)] at ht
  subst ht
  refine dn_stop ?_
  generalize (List.range i).map (fun i => rowD (cS X i + Pol.C (zp p k) * cS Y i)) = LQ at *
  simp -implicitDefEqProofs [Zo_L0, dn_cond]
 | r + 1, i, Q, hi, hq, hQ, ht => by
  have hlt : i < n := by omega
  have hltq : i < Q.length := by omega
  have hsh : ∀ h : i < Q.length, (Q[i]'h).sh.beq .leaf = true := fun h => hQ _ (List.getElem_mem h)
  have e1 := hat p X i
  have e2 := hat p Y i
  have a1 := mem_cS hX i
  have a2 := mem_cS hY i
  have e3 := hco p k (cS X i) (cS Y i) (by omega) (by omega) (by omega) (by omega)
  have w4 : IntKind.i64.wrap ((i : Int) + 1) = ((i + 1 : Nat) : Int) := (w64 (x := (i : Int) + 1) (by omega)).trans (by omega)
  have hLn : ((List.range n).map fun i => rowD (cS X i + Pol.C (zp p k) * cS Y i)).length = n := by rw [List.length_map, List.length_range]
  refine dn_round ?_ (l_plus hat hco (m := m) hk hX hY hn (cp := cp) (cq := cq) r (i + 1) (Q.set i (D.sl .leaf (ints .i64 (row (cS X i + Pol.C (zp p k) * cS Y i))))) (by omega) (by rw [List.length_set]; exact hq) (fun d hd => by
   rcases List.mem_or_eq_of_mem_set hd with h1 | rfl
   ·exact hQ d h1
   ·rfl) (by
   rw [List.take_succ_eq_append_getElem (by rw [List.length_set]; exact hltq), List.getElem_set_self, List.take_set, List.set_eq_of_length_le (by rw [List.length_take]; omega), ht, List.take_succ_eq_append_getElem (by omega), List.getElem_map, List.getElem_range]))
  have hfd : fldD m = .st [.leaf, .leaf] [(D.int .i64 p), (D.sl .leaf (ints .i64 (row m)))] := rfl
  have hsX : skD X = .sl .leaf (X.map rowD) := rfl
  have hsY : skD Y = .sl .leaf (Y.map rowD) := rfl
  rw [hfd]
  rw [hsX] at e1 ⊢
  rw [hsY] at e2 ⊢
  generalize row (cS X i + Pol.C (zp p k) * cS Y i) = R3 at *
  generalize row (cS X i) = R1 at *
  generalize row (cS Y i) = R2 at *
  generalize X.map rowD = XD at *
  generalize Y.map rowD = YD at *
  generalize row m = Rm at *
  simp -implicitDefEqProofs [Zo_L0, dn_cond, hlt, hq, hsh, e1, e2, e3, w4]
def K_plus (O : Oracle) : Prop := ∀ (p : Int) [IsP p] (m : Fp p) (X Y : List (Fp p)) (k : Int), -1000 ≤ k → k ≤ 1000 → X.length < 10000 → Y.length < 10000 → (∀ c ∈ X, c.len ≤ 64) → (∀ c ∈ Y, c.len ≤ 64) → ask O Fo [fldD m, skD X, skD Y, (D.int .i64 k)] = some (skD (plusS k X Y))
theorem k_plus (hT : T Fo = some Zo) (hat : K_skAt (den T A)) (hco : K_combine (den T A)) (htr : K_sktrim (den T A)) : K_plus (den T A) := by
 intro p ip m X Y k hk1 hk2 hXl hYl hX hY
 have e1 := l_plus (O := den T A) hat hco (m := m) ⟨hk1, hk2⟩ hX hY (n := max X.length Y.length) (by omega) (cp := some (max X.length Y.length)) (cq := none) (max X.length Y.length) 0 (List.replicate (max X.length Y.length) (.sl .leaf [])) (Nat.zero_add _) (List.length_replicate ..) (fun d hd => by rw [List.eq_of_mem_replicate hd]; rfl) (by rw [List.take_zero, List.take_zero])
 have e00 : ((0 : Nat) : Int) = 0 := rfl
 have e2 := htr p ((List.range (max X.length Y.length)).map fun i => cS X i + Pol.C (zp p k) * cS Y i) (by rw [List.length_map, List.length_range]; omega)
 have hsum : skD ((List.range (max X.length Y.length)).map fun i => cS X i + Pol.C (zp p k) * cS Y i) = .sl .leaf ((List.range (max X.length Y.length)).map fun i => rowD (cS X i + Pol.C (zp p k) * cS Y i)) := by
  show D.sl .leaf (List.map _ (List.map _ _)) = _
  rw [List.map_map]; rfl
 rw [hsum, show trimS ((List.range (max X.length Y.length)).map fun i => cS X i + Pol.C (zp p k) * cS Y i) = plusS k X Y from rfl] at e2
 rw [e00] at e1
 have hsX : skD X = .sl .leaf (X.map rowD) := rfl
 have hsY : skD Y = .sl .leaf (Y.map rowD) := rfl
 have hsP : skD (plusS k X Y) = .sl .leaf ((plusS k X Y).map rowD) := rfl
 have hX1 : (X.map rowD).length = X.length := List.length_map ..
 have hY1 : (Y.map rowD).length = Y.length := List.length_map ..
 have hmx : (if X.length < Y.length then ((Y.length : Nat) : Int) else ((X.length : Nat) : Int)) = ((max X.length Y.length : Nat) : Int) := by split <;> omega
 have h24 : max X.length Y.length * 24 ≤ 1099511627776 := by omega
 have hLn : ((List.range (max X.length Y.length)).map fun i => rowD (cS X i + Pol.C (zp p k) * cS Y i)).length = max X.length Y.length := by rw [List.length_map, List.length_range]
 have htk : ((List.range (max X.length Y.length)).map fun i => rowD (cS X i + Pol.C (zp p k) * cS Y i)).take (max X.length Y.length) = ((List.range (max X.length Y.length)).map fun i => rowD (cS X i + Pol.C (zp p k) * cS Y i)) := List.take_of_length_le (by omega)
 rw [hsP] at e2 ⊢
 rw [hsX, hsY] at e1 ⊢
 refine ask_of hT rfl ?_
 generalize ((List.range (max X.length Y.length)).map fun i => rowD (cS X i + Pol.C (zp p k) * cS Y i)) = LQ at *
 generalize X.map rowD = XD at *
 generalize Y.map rowD = YD at *
 generalize (plusS k X Y).map rowD = PD at *
 generalize hmm : max X.length Y.length = n at *
 simp -implicitDefEqProofs [Zo, Zo_B, hX1, hY1, hmx, h24, e1, e2, hLn, htk]
def K_by2 (O : Oracle) : Prop := ∀ (p : Int) [IsP p] (m : Fp p) (a b : List (Fp p)), 2 ≤ m.len → m.len ≤ 64 → (∀ c ∈ a, c.len ≤ 64) → (∀ c ∈ b, c.len ≤ 64) → a.length < 10000 → b.length < 10000 → ask O Fk [fldD m, skD a, skD b] = some (skD (prodS m a b))
theorem k_by2 {O : Oracle} (h : K_by O) : K_by2 O := by
 intro p ip m a b h2 hml ha hb hal hbl
 rw [h p m a b h2 hml ha hb hal hbl]
 unfold prodS
 split <;> rfl
end Pe


namespace Pe
open Go Gq
variable {T : Nat → Option Fn} {A : Oracle}
section
variable {p : Int} [IsP p]
end
end Pe

namespace Pe
open Go Gq
variable {T : Nat → Option Fn} {A : Oracle}
section
variable {α : Type}
end
end Pe

namespace Pe
open Go Gq
variable {T : Nat → Option Fn} {A : Oracle}
end Pe


namespace Pe
open Go Gq
variable {T : Nat → Option Fn} {A : Oracle}
end Pe

namespace Pe
open Go Gq
variable {T : Nat → Option Fn} {A : Oracle}
end Pe

namespace Pe
open Go Gq
variable {T : Nat → Option Fn} {A : Oracle}
section
variable {p : Int} [IsP p]
theorem byIn_cS {m x : Fp p} {i n : Nat} : ∀ (k : Nat) (b Q : List (Fp p)), i + k + b.length ≤ Q.length → cS (byIn m x i k b Q) n = if i + k ≤ n ∧ n < i + k + b.length then cS Q n + x * frIt m (i % (m.len - 1)) (cS b (n - (i + k))) % m else cS Q n
 | k, [], Q, _ => by rw [if_neg (by rw [List.length_nil]; omega)]; rfl
 | k, y :: ys, Q, h => by
  rw [List.length_cons] at h
  show cS (byIn m x i (k + 1) ys (addAt Q (i + k) _)) n = _
  rw [byIn_cS (k + 1) ys _ (by rw [addAt_length]; omega)]
  have hadd : ∀ v : Fp p, cS (addAt Q (i + k) v) n = if n = i + k then cS Q n + v else cS Q n := fun v => by
   unfold addAt
   rw [cS_set (by omega)]
   split
   ·rename_i h; rw [h]; rfl
   ·rfl
  rw [hadd]
  by_cases h1 : n = i + k
  ·subst h1
   rw [if_neg (by omega), if_pos rfl, if_pos (by rw [List.length_cons]; omega), Nat.sub_self]
   rfl
  ·rw [if_neg h1]
   by_cases h2 : i + k ≤ n ∧ n < i + k + (y :: ys).length
   ·rw [List.length_cons] at h2
    rw [if_pos (by omega), if_pos (by rw [List.length_cons]; omega)]
    have : cS (y :: ys) (n - (i + k)) = cS ys (n - (i + (k + 1))) := by
     unfold cS
     rw [show n - (i + k) = (n - (i + (k + 1))) + 1 by omega, List.getElem?_cons_succ]
    rw [this]
   ·rw [if_neg h2, if_neg (by rw [List.length_cons] at h2; omega)]
noncomputable def monS (m : Fp p) (X : List (Fp p)) : List (Fp p) := prodS m (termS (invm m (cS X (X.length - 1))) 0) X
theorem Sk.mon {m : Fp p} {X : List (Fp p)} (hm : m ≠ 0) (hX : Sk m X) : Sk m (monS m X) := by
 have h1 := Pol.len_pos hm
 have hl := prod_len_le (m := m) (a := termS (invm m (cS X (X.length - 1))) 0) (b := X)
 rw [termS_length] at hl
 have h8 := hX.eight
 exact ⟨isTrim_prod _ _ _, by unfold monS; omega, fun c hc => by have := prodS_lens' (N := m.len - 1) hm (by omega) c hc; omega⟩
end
end Pe

namespace Pe
open Go Gq
variable {T : Nat → Option Fn} {A : Oracle}
section
variable {p : Int}
theorem plus_len_left {k : Int} {X Y : List (Fp p)} (hX : IsTrim X) (h : Y.length < X.length) : (plusS k X Y).length = X.length := by
 have h1 := plus_len k X Y
 rcases Nat.lt_or_ge (plusS k X Y).length X.length with g | g
 ·have h2 := cS_plus k X Y (X.length - 1)
  rw [cS_ge (A := plusS k X Y) (by omega), cS_ge (A := Y) (by omega), Gq.mul_zero, Gq.add_zero] at h2
  exact absurd h2.symm (hX (X.length - 1) (by omega))
 ·omega
theorem plus_len_right {k : Int} {X Y : List (Fp p)} (hY : IsTrim Y) (hk : ∀ y : Fp p, Pol.C (zp p k) * y = 0 → y = 0) (h : X.length < Y.length) : (plusS k X Y).length = Y.length := by
 have h1 := plus_len k X Y
 rcases Nat.lt_or_ge (plusS k X Y).length Y.length with g | g
 ·have h2 := cS_plus k X Y (Y.length - 1)
  rw [cS_ge (A := plusS k X Y) (by omega), cS_ge (A := X) (by omega), Gq.zero_add] at h2
  exact absurd (hk _ h2.symm) (hY (Y.length - 1) (by omega))
 ·omega
theorem c_one {y : Fp p} (h : Pol.C (zp p 1) * y = 0) : y = 0 := by
 rw [zp_one, Pol.C_one, Gq.one_mul] at h; exact h
end
section
variable {p : Int} [IsP p]
theorem prodS_len {m : Fp p} (hm : Fld m) {X Y : List (Fp p)} (hX : IsTrim X) (hY : IsTrim Y) (hXl : ∀ c ∈ X, c.len < m.len) (hYl : ∀ c ∈ Y, c.len < m.len) (h1 : 1 ≤ X.length) (h2 : 1 ≤ Y.length) : (prodS m X Y).length = X.length + Y.length - 1 := by
 obtain ⟨a, ea, la⟩ := snoc_of h1
 obtain ⟨b, eb, lb⟩ := snoc_of h2
 have hx := hX (X.length - 1) (by omega)
 have hy := hY (Y.length - 1) (by omega)
 have ht := mulS_top hm (a := a) (b := b) hx (hXl _ (by rw [← cS_lt (show X.length - 1 < X.length by omega)]; exact List.getElem_mem _)) hy (hYl _ (by rw [← cS_lt (show Y.length - 1 < Y.length by omega)]; exact List.getElem_mem _))
 rw [← ea, ← eb] at ht
 unfold prodS
 rw [if_neg (by omega), ht]
 unfold mulS
 rw [byOut_length, List.length_replicate]
theorem one_ne8 : (1 : Fp p) ≠ 0 := fun h => by
 have e : (1 : Fp p).len = 1 := Pol.len_one
 rw [h, Pol.len_zero] at e
 cases e
theorem mon_len {m : Fp p} (hm : Fld m) {X : List (Fp p)} (hX : IsTrim X) (hr : ∀ c ∈ X, c.len < m.len) (h1 : 1 ≤ X.length) : (monS m X).length = X.length := by
 have h0 := hm.mon.2
 have hx : cS X (X.length - 1) ≠ 0 := hX _ (by omega)
 have hxl : (cS X (X.length - 1)).len < m.len := by
  rw [← cS_lt (show X.length - 1 < X.length by omega)]; exact hr _ (List.getElem_mem _)
 have hi : invm m (cS X (X.length - 1)) ≠ 0 := fun h => by
  have e := inv_back hm (x := 1) (by have := hm.two; have : (1 : Fp p).len = 1 := Pol.len_one; omega) hx hxl
  rw [h, Gq.mul_zero, Pol.zero_mod h0, Gq.zero_mul, Pol.zero_mod h0] at e
  exact one_ne8 e.1.symm
 have hil := invm_len h0 (cS X (X.length - 1))
 have := prodS_len hm (isTrim_term hi 0) hX (fun c hc => by
  unfold termS at hc
  rw [List.replicate_zero, List.nil_append] at hc
  rw [List.mem_singleton.1 hc]; exact hil) hr (by rw [termS_length]; omega) h1
 rw [termS_length] at this
 unfold monS
 omega
end
end Pe


namespace Pe
open Go Gq
variable {T : Nat → Option Fn} {A : Oracle}
section
variable {p : Int} [IsP p]
end
end Pe

namespace Pe
open Go Gq
section
variable {p : Int}
noncomputable def sg {m : Fp p} : Nat → Quo m → Quo m
 | 0, x => x
 | k + 1, x => sg k (pw x p.toNat)
theorem sg_succ {m : Fp p} : ∀ (k : Nat) (x : Quo m), sg (k + 1) x = pw (sg k x) p.toNat
 | 0, _ => rfl
 | k + 1, x => by
  show sg (k + 1) (pw x p.toNat) = _
  rw [sg_succ k]
  rfl
theorem sg_mk [IsP p] {m : Fp p} : ∀ (k : Nat) (a : Fp p), Quo.mk m (frIt m k a) = sg k (Quo.mk m a)
 | 0, _ => rfl
 | k + 1, a => by
  show Quo.mk m (frIt m k (pw a p.toNat % m)) = sg k (pw (Quo.mk m a) p.toNat)
  rw [sg_mk k, Pol.mk_mod, Quo.mk_pow]
theorem pw_zero_pos [IsP p] {m : Fp p} : pw (0 : Quo m) p.toNat = 0 := by
 have h := IsP.pos (p := p)
 have : p.toNat = (p.toNat - 1) + 1 := by omega
 rw [this]
 show pw (0 : Quo m) (p.toNat - 1) * 0 = 0
 exact Gq.mul_zero _
theorem sg_zero [IsP p] {m : Fp p} : ∀ k, sg k (0 : Quo m) = 0
 | 0 => rfl
 | k + 1 => by
  show sg k (pw (0 : Quo m) p.toNat) = 0
  rw [pw_zero_pos, sg_zero k]
theorem sg_one {m : Fp p} : ∀ k, sg k (1 : Quo m) = 1
 | 0 => rfl
 | k + 1 => by
  show sg k (pw (1 : Quo m) p.toNat) = 1
  rw [pw_one, sg_one k]
section
variable {m : Fp p}
noncomputable def Lop (t0 t1 t2 : Quo m) (X : Nat → Quo m) : Nat → Quo m
 | 0 => t0 * X 0
 | 1 => t0 * X 1 + t1 * sg 1 (X 0)
 | n + 2 => t0 * X (n + 2) + t1 * sg 1 (X (n + 1)) + t2 * sg 2 (X n)
noncomputable def Rop (t0 t1 t2 : Quo m) (X : Nat → Quo m) : Nat → Quo m
 | 0 => X 0 * t0
 | 1 => X 1 * sg 1 t0 + X 0 * t1
 | n + 2 => X (n + 2) * sg (n + 2) t0 + X (n + 1) * sg (n + 1) t1 + X n * sg n t2
noncomputable def e0 : Nat → Quo m
 | 0 => 1
 | _ + 1 => 0
theorem sg1_add [IsP p] (x y : Quo m) : sg 1 (x + y) = sg 1 x + sg 1 y := frob_add x y
theorem sg1_mul (x y : Quo m) : sg 1 (x * y) = sg 1 x * sg 1 y := pw_mul x y _
theorem sg2_add [IsP p] (x y : Quo m) : sg 2 (x + y) = sg 2 x + sg 2 y := by
 rw [show sg 2 (x + y) = sg 1 (sg 1 (x + y)) from rfl, sg1_add, sg1_add]; rfl
theorem sg2_mul [IsP p] (x y : Quo m) : sg 2 (x * y) = sg 2 x * sg 2 y := by
 rw [show sg 2 (x * y) = sg 1 (sg 1 (x * y)) from rfl, sg1_mul, sg1_mul]; rfl
theorem sg1_sg [IsP p] (k : Nat) (x : Quo m) : sg 1 (sg k x) = sg (k + 1) x := (sg_succ k x).symm
theorem sg2_sg [IsP p] (k : Nat) (x : Quo m) : sg 2 (sg k x) = sg (k + 2) x := by
 rw [show sg 2 (sg k x) = sg 1 (sg 1 (sg k x)) from rfl, sg1_sg k x, sg1_sg (k + 1) x]
theorem nine (t0 t1 t2 a b c d e f g h i s u v : Quo m) : t0 * (a * s + b * u + c * v) + t1 * (d * s + e * u + f * v) + t2 * (g * s + h * u + i * v) = (t0 * a + t1 * d + t2 * g) * s + (t0 * b + t1 * e + t2 * h) * u + (t0 * c + t1 * f + t2 * i) * v := by
 have l : ∀ t a b c : Quo m, t * (a * s + b * u + c * v) = t * a * s + t * b * u + t * c * v := fun t a b c => ring_of [t, a, b, c, s, u, v] rfl
 have q : ∀ x y z w : Quo m, (x + y + z) * w = x * w + y * w + z * w := fun x y z w => ring_of [x, y, z, w] rfl
 have z : ∀ p1 p2 p3 q1 q2 q3 r1 r2 r3 : Quo m, (p1 + p2 + p3) + (q1 + q2 + q3) + (r1 + r2 + r3) = (p1 + q1 + r1) + (p2 + q2 + r2) + (p3 + q3 + r3) := fun p1 p2 p3 q1 q2 q3 r1 r2 r3 => ring_of [p1, p2, p3, q1, q2, q3, r1, r2, r3] rfl
 rw [l, l, l, q, q, q, z]
theorem eight [IsP p] (t0 t1 t2 a b c d e f g h s u v : Quo m) : t0 * (a * s + b * u + c * v) + t1 * (d * s + e * u + f * v) + t2 * (g * s + h * u) = (t0 * a + t1 * d + t2 * g) * s + (t0 * b + t1 * e + t2 * h) * u + (t0 * c + t1 * f) * v := by
 have := nine t0 t1 t2 a b c d e f g h 0 s u v
 simp only [Gq.zero_mul, Gq.mul_zero, Gq.add_zero] at this
 exact this
theorem op_comm [IsP p] (t0 t1 t2 : Quo m) (X : Nat → Quo m) (n : Nat) : Lop t0 t1 t2 (Rop t0 t1 t2 X) n = Rop t0 t1 t2 (Lop t0 t1 t2 X) n := by
 have s0 : ∀ x : Quo m, sg 0 x = x := fun _ => rfl
 match n with
 | 0 =>
  simp only [Lop, Rop]
  exact ring_of [t0, X 0] rfl
 | 1 =>
  simp only [Lop, Rop, sg1_mul]
  exact ring_of [t0, t1, X 0, X 1, sg 1 t0, sg 1 (X 0)] rfl
 | 2 =>
  simp only [Lop, Rop, sg1_add, sg1_mul, sg2_mul, sg1_sg, s0]
  exact ring_of [t0, t1, t2, X 0, X 1, X 2, sg 1 t0, sg 2 t0, sg 1 t1, sg 1 (X 0), sg 1 (X 1), sg 2 (X 0), sg (1 + 1) t0] rfl
 | 3 =>
  simp only [Lop, Rop, sg1_add, sg1_mul, sg2_add, sg2_mul, sg1_sg, sg2_sg, s0]
  exact eight _ _ _ _ _ _ _ _ _ _ _ _ _ _
 | k + 4 =>
  have hR : ∀ Y : Nat → Quo m, ∀ j, Rop t0 t1 t2 Y (j + 2) = Y (j + 2) * sg (j + 2) t0 + Y (j + 1) * sg (j + 1) t1 + Y j * sg j t2 := fun _ _ => rfl
  have hL : ∀ Y : Nat → Quo m, ∀ j, Lop t0 t1 t2 Y (j + 2) = t0 * Y (j + 2) + t1 * sg 1 (Y (j + 1)) + t2 * sg 2 (Y j) := fun _ _ => rfl
  rw [show k + 4 = (k + 2) + 2 from rfl, hL, hR, hR (Lop t0 t1 t2 X) (k + 2), hL X (k + 2), show k + 2 + 1 = (k + 1) + 2 from rfl, hL X (k + 1), hR X (k + 1), hL X k, hR X k]
  simp only [sg1_add, sg1_mul, sg2_add, sg2_mul, sg1_sg, sg2_sg]
  rw [show k + 1 + 2 = k + 3 from rfl, show k + 1 + 1 = k + 2 from rfl, show k + 2 + 2 = k + 4 from rfl, show k + 2 + 1 = k + 3 from rfl, show k + 3 + 1 = k + 4 from rfl]
  exact nine _ _ _ _ _ _ _ _ _ _ _ _ _ _ _
theorem op_e0 [IsP p] (t0 t1 t2 : Quo m) (n : Nat) : Lop t0 t1 t2 e0 n = Rop t0 t1 t2 e0 n := by
 have s0 : ∀ x : Quo m, sg 0 x = x := fun _ => rfl
 match n with
 | 0 => simp only [Lop, Rop, e0]; exact ring_of [t0] rfl
 | 1 => simp only [Lop, Rop, e0, sg_one]; exact ring_of [t0, t1, sg 1 t0] rfl
 | 2 => simp only [Lop, Rop, e0, sg_one, sg_zero, s0]; exact ring_of [t0, t1, t2, sg 2 t0, sg 1 t1, sg (0 + 1) t1, sg (0 + 2) t0] rfl
 | k + 3 =>
  have hR : ∀ Y : Nat → Quo m, ∀ j, Rop t0 t1 t2 Y (j + 2) = Y (j + 2) * sg (j + 2) t0 + Y (j + 1) * sg (j + 1) t1 + Y j * sg j t2 := fun _ _ => rfl
  have hL : ∀ Y : Nat → Quo m, ∀ j, Lop t0 t1 t2 Y (j + 2) = t0 * Y (j + 2) + t1 * sg 1 (Y (j + 1)) + t2 * sg 2 (Y j) := fun _ _ => rfl
  rw [show k + 3 = (k + 1) + 2 from rfl, hL, hR]
  simp only [e0, sg_zero]
  simp only [Gq.mul_zero, Gq.zero_mul, Gq.add_zero]
theorem op_add (t0 t1 t2 : Quo m) (X Y : Nat → Quo m) (n : Nat) : Rop t0 t1 t2 (fun i => X i + Y i) n = Rop t0 t1 t2 X n + Rop t0 t1 t2 Y n := by
 match n with
 | 0 => simp only [Rop]; exact ring_of [t0, X 0, Y 0] rfl
 | 1 => simp only [Rop]; exact ring_of [sg 1 t0, t1, X 0, Y 0, X 1, Y 1] rfl
 | k + 2 => simp only [Rop]; exact ring_of [sg (k + 2) t0, sg (k + 1) t1, sg k t2, X k, Y k, X (k + 1), Y (k + 1), X (k + 2), Y (k + 2)] rfl
theorem op_smul (t0 t1 t2 c : Quo m) (X : Nat → Quo m) (n : Nat) : Rop t0 t1 t2 (fun i => c * X i) n = c * Rop t0 t1 t2 X n := by
 match n with
 | 0 => simp only [Rop]; exact ring_of [t0, X 0, c] rfl
 | 1 => simp only [Rop]; exact ring_of [sg 1 t0, t1, X 0, X 1, c] rfl
 | k + 2 => simp only [Rop]; exact ring_of [sg (k + 2) t0, sg (k + 1) t1, sg k t2, X k, X (k + 1), X (k + 2), c] rfl
theorem op_zero (t0 t1 t2 : Quo m) (n : Nat) : Rop t0 t1 t2 (fun _ => 0) n = 0 := by
 match n with
 | 0 => simp only [Rop, Gq.zero_mul]
 | 1 => simp only [Rop, Gq.zero_mul, Gq.add_zero]
 | k + 2 => simp only [Rop, Gq.zero_mul, Gq.add_zero]
noncomputable def Rk (t0 t1 t2 : Quo m) : Nat → Nat → Quo m
 | 0 => e0
 | k + 1 => Rop t0 t1 t2 (Rk t0 t1 t2 k)
noncomputable def Lk (t0 t1 t2 : Quo m) : Nat → Nat → Quo m
 | 0 => e0
 | k + 1 => Lop t0 t1 t2 (Lk t0 t1 t2 k)
theorem lop_rk [IsP p] (t0 t1 t2 : Quo m) : ∀ k, Lop t0 t1 t2 (Rk t0 t1 t2 k) = Rk t0 t1 t2 (k + 1)
 | 0 => funext fun n => op_e0 t0 t1 t2 n
 | k + 1 => by
  have ih := lop_rk t0 t1 t2 k
  funext n
  show Lop t0 t1 t2 (Rop t0 t1 t2 (Rk t0 t1 t2 k)) n = Rop t0 t1 t2 (Rk t0 t1 t2 (k + 1)) n
  rw [op_comm, ih]
theorem lk_rk [IsP p] (t0 t1 t2 : Quo m) : ∀ k, Lk t0 t1 t2 k = Rk t0 t1 t2 k
 | 0 => rfl
 | k + 1 => by
  show Lop t0 t1 t2 (Lk t0 t1 t2 k) = _
  rw [lk_rk t0 t1 t2 k, lop_rk]
noncomputable def hsum (t0 t1 t2 : Quo m) : (Nat → Quo m) → Nat → Nat → Nat → Quo m
 | _, _, 0, _ => 0
 | c, k, n + 1, i => c 0 * Rk t0 t1 t2 k i + hsum t0 t1 t2 (fun j => c (j + 1)) (k + 1) n i
theorem hsum_rop [IsP p] (t0 t1 t2 : Quo m) : ∀ (n : Nat) (c : Nat → Quo m) (k : Nat), Rop t0 t1 t2 (hsum t0 t1 t2 c k n) = hsum t0 t1 t2 c (k + 1) n
 | 0, c, k => funext fun i => op_zero t0 t1 t2 i
 | n + 1, c, k => by
  funext i
  show Rop t0 t1 t2 (fun i => c 0 * Rk t0 t1 t2 k i + hsum t0 t1 t2 (fun j => c (j + 1)) (k + 1) n i) i = _
  rw [op_add, op_smul]
  show c 0 * Rk t0 t1 t2 (k + 1) i + Rop t0 t1 t2 (hsum t0 t1 t2 (fun j => c (j + 1)) (k + 1) n) i = c 0 * Rk t0 t1 t2 (k + 1) i + hsum t0 t1 t2 (fun j => c (j + 1)) (k + 1 + 1) n i
  rw [hsum_rop t0 t1 t2 n]
theorem hsum_snoc (t0 t1 t2 : Quo m) (i : Nat) : ∀ (n : Nat) (c : Nat → Quo m) (k : Nat), hsum t0 t1 t2 c k (n + 1) i = hsum t0 t1 t2 c k n i + c n * Rk t0 t1 t2 (k + n) i
 | 0, c, k => by
  show c 0 * Rk t0 t1 t2 k i + 0 = 0 + c 0 * Rk t0 t1 t2 (k + 0) i
  rw [Nat.add_zero, Gq.add_zero, Gq.zero_add]
 | n + 1, c, k => by
  show c 0 * Rk t0 t1 t2 k i + hsum t0 t1 t2 (fun j => c (j + 1)) (k + 1) (n + 1) i = c 0 * Rk t0 t1 t2 k i + hsum t0 t1 t2 (fun j => c (j + 1)) (k + 1) n i + c (n + 1) * Rk t0 t1 t2 (k + (n + 1)) i
  rw [hsum_snoc t0 t1 t2 i n (fun j => c (j + 1)) (k + 1), show k + 1 + n = k + (n + 1) by omega]
  exact (Gq.add_assoc _ _ _).symm
theorem hsum_congr (t0 t1 t2 : Quo m) (i : Nat) : ∀ (n : Nat) (c d : Nat → Quo m) (k : Nat), (∀ j, j < n → c j = d j) → hsum t0 t1 t2 c k n i = hsum t0 t1 t2 d k n i
 | 0, _, _, _, _ => rfl
 | n + 1, c, d, k, h => by
  show c 0 * Rk t0 t1 t2 k i + _ = d 0 * Rk t0 t1 t2 k i + _
  rw [h 0 (by omega), hsum_congr t0 t1 t2 i n (fun j => c (j + 1)) (fun j => d (j + 1)) (k + 1) fun j hj => h (j + 1) (by omega)]
end
noncomputable def qcf (m : Fp p) (A : List (Fp p)) (n : Nat) : Quo m := Quo.mk m (cS A n)
theorem qcf_nil (m : Fp p) (n : Nat) : qcf m [] n = 0 := rfl
theorem qcf_ge {m : Fp p} {A : List (Fp p)} {n : Nat} (h : A.length ≤ n) : qcf m A n = 0 := by unfold qcf; rw [cS_ge h]; rfl
theorem qcf_eq [IsP p] {m : Fp p} (hm : m ≠ 0) {A B : List (Fp p)} {n : Nat} (hA : (cS A n).len < m.len) (hB : (cS B n).len < m.len) (h : qcf m A n = qcf m B n) : cS A n = cS B n := by
 have e := (Pol.mod_eq_iff hm).2 h
 rwa [Pol.mod_small hA, Pol.mod_small hB] at e
theorem qcf_set {m : Fp p} {A : List (Fp p)} {j n : Nat} {v : Fp p} (h : j < A.length) : qcf m (addAt A j v) n = qcf m A n + (if n = j then Quo.mk m v else 0) := by
 unfold qcf addAt
 rw [cS_set h]
 by_cases hn : n = j
 ·rw [if_pos hn, if_pos hn, hn]; rfl
 ·rw [if_neg hn, if_neg hn, Gq.add_zero]
theorem qcf_zeros (m : Fp p) (k n : Nat) : qcf m (List.replicate k 0) n = 0 := by
 unfold qcf cS
 rw [List.getElem?_replicate]
 split <;> rfl
theorem byIn_q [IsP p] {m x : Fp p} (hm : Fld m) {b : List (Fp p)} (hb : ∀ c ∈ b, c.len < m.len) {i n : Nat} {Q : List (Fp p)} (h : i + b.length ≤ Q.length) : qcf m (byIn m x i 0 b Q) n = qcf m Q n + (if i ≤ n then Quo.mk m x * sg i (qcf m b (n - i)) else 0) := by
 have h1 := Pol.len_pos hm.mon.2
 unfold qcf
 rw [byIn_cS 0 b Q (by omega), Nat.add_zero]
 have hl : (cS b (n - i)).len < m.len := by
  have := mem_cS (A := b) (N := m.len - 1) (fun c hc => by have := hb c hc; omega) (n - i)
  omega
 by_cases h0 : i ≤ n ∧ n < i + b.length
 ·rw [if_pos h0, if_pos h0.1, Quo.mk_add, Pol.mk_mod, Quo.mk_mul, frIt_mod hm i hl, sg_mk]
 ·rw [if_neg h0]
  split
  ·rename_i h2
   rw [cS_ge (A := b) (by omega)]
   show _ = Quo.mk m (cS Q n) + Quo.mk m x * sg i 0
   rw [sg_zero, Gq.mul_zero, Gq.add_zero]
  ·exact (Gq.add_zero _).symm
theorem byOut_q [IsP p] {m t0 t1 t2 : Fp p} (hm : Fld m) (hb : ∀ c ∈ [t0, t1, t2], c.len < m.len) {n : Nat} : ∀ (A : List (Fp p)) (i : Nat) (Q : List (Fp p)), i + A.length + 2 ≤ Q.length → qcf m (byOut m [t0, t1, t2] i A Q) n = qcf m Q n + ((if i ≤ n then qcf m A (n - i) * sg n (Quo.mk m t0) else 0) + (if i + 1 ≤ n then qcf m A (n - i - 1) * sg (n - 1) (Quo.mk m t1) else 0) + (if i + 2 ≤ n then qcf m A (n - i - 2) * sg (n - 2) (Quo.mk m t2) else 0))
 | [], i, Q, _ => by
  show qcf m Q n = _
  have z : ∀ j, qcf m ([] : List (Fp p)) j = 0 := fun _ => rfl
  simp only [z, Gq.zero_mul, ite_self, Gq.add_zero]
 | x :: xs, i, Q, h => by
  rw [List.length_cons] at h
  show qcf m (byOut m [t0, t1, t2] (i + 1) xs (byIn m x i 0 [t0, t1, t2] Q)) n = _
  rw [byOut_q hm hb xs (i + 1) _ (by rw [byIn_length]; omega), byIn_q hm hb (by simp only [List.length_cons, List.length_nil]; omega)]
  have hx0 : qcf m (x :: xs) 0 = Quo.mk m x := rfl
  have hxs : ∀ j, qcf m (x :: xs) (j + 1) = qcf m xs j := fun j => rfl
  have ht0 : qcf m [t0, t1, t2] 0 = Quo.mk m t0 := rfl
  have ht1 : qcf m [t0, t1, t2] 1 = Quo.mk m t1 := rfl
  have ht2 : qcf m [t0, t1, t2] 2 = Quo.mk m t2 := rfl
  rcases Nat.lt_or_ge n i with h1 | h1
  ·rw [if_neg (by omega), if_neg (by omega), if_neg (by omega), if_neg (by omega), if_neg (by omega), if_neg (by omega), if_neg (by omega)]
   simp only [Gq.add_zero]
  ·obtain ⟨e, rfl⟩ : ∃ e, n = i + e := ⟨n - i, by omega⟩
   match e with
   | 0 =>
    rw [if_pos (by omega), if_neg (by omega), if_neg (by omega), if_neg (by omega), if_pos (by omega), if_neg (by omega), if_neg (by omega), show i + 0 - i = 0 by omega, hx0, ht0, show i + 0 = i from rfl]
    simp only [Gq.add_zero]
   | 1 =>
    rw [if_pos (by omega), if_pos (by omega), if_neg (by omega), if_neg (by omega), if_pos (by omega), if_pos (by omega), if_neg (by omega), show i + 1 - i = 0 + 1 by omega, show i + 1 - (i + 1) = 0 by omega, show 0 + 1 - 1 = 0 from rfl, hxs, hx0, show i + 1 - 1 = i by omega]
    rw [show (0 + 1 : Nat) = 1 from rfl, ht1]
    exact ring_of [qcf m Q (i + 1), Quo.mk m x, sg i (Quo.mk m t1), qcf m xs 0, sg (i + 1) (Quo.mk m t0)] rfl
   | 2 =>
    rw [if_pos (by omega), if_pos (by omega), if_pos (by omega), if_neg (by omega), if_pos (by omega), if_pos (by omega), if_pos (by omega), show i + 2 - (i + 1) - 1 = 0 by omega, show i + 2 - (i + 1) = 1 by omega, show i + 2 - i - 2 = 0 by omega, show i + 2 - i - 1 = 0 + 1 by omega, show i + 2 - i = 1 + 1 by omega, hxs, hxs, hx0, show i + 2 - 1 = i + 1 by omega, show i + 2 - 2 = i by omega]
    rw [show (1 + 1 : Nat) = 2 from rfl, ht2]
    exact ring_of [qcf m Q (i + 2), Quo.mk m x, sg i (Quo.mk m t2), qcf m xs 0, qcf m xs 1, sg (i + 2) (Quo.mk m t0), sg (i + 1) (Quo.mk m t1)] rfl
   | k + 3 =>
    have hz : qcf m [t0, t1, t2] (k + 3) = 0 := rfl
    rw [if_pos (by omega), if_pos (by omega), if_pos (by omega), if_pos (by omega), if_pos (by omega), if_pos (by omega), if_pos (by omega), show i + (k + 3) - (i + 1) - 2 = k by omega, show i + (k + 3) - (i + 1) - 1 = k + 1 by omega, show i + (k + 3) - (i + 1) = k + 2 by omega, show i + (k + 3) - i - 2 = k + 1 by omega, show i + (k + 3) - i - 1 = (k + 1) + 1 by omega, show i + (k + 3) - i = k + 3 by omega, hz, sg_zero, Gq.mul_zero, Gq.add_zero, hxs, hxs]
    rw [show k + 3 = (k + 2) + 1 from rfl, hxs]
theorem prod_R [IsP p] {m t0 t1 t2 : Fp p} (hm : Fld m) (hb : ∀ c ∈ [t0, t1, t2], c.len < m.len) (A : List (Fp p)) (n : Nat) : qcf m (prodS m A [t0, t1, t2]) n = Rop (Quo.mk m t0) (Quo.mk m t1) (Quo.mk m t2) (qcf m A) n := by
 unfold prodS
 by_cases h0 : A.length = 0
 ·rw [if_pos (.inl h0), List.length_eq_zero_iff.1 h0]
  exact (op_zero _ _ _ n).symm
 ·rw [if_neg (by simp only [List.length_cons]; omega)]
  have e : qcf m (trimS (mulS m A [t0, t1, t2])) n = qcf m (mulS m A [t0, t1, t2]) n := by unfold qcf; rw [cS_trim]
  rw [e]
  unfold mulS
  rw [byOut_q hm hb A 0 _ (by rw [List.length_replicate]; simp only [List.length_cons, List.length_nil]; omega), qcf_zeros, Gq.zero_add]
  match n with
  | 0 =>
   rw [if_pos (by omega), if_neg (by omega), if_neg (by omega)]
   simp only [Rop, Gq.add_zero]
   rfl
  | 1 =>
   rw [if_pos (by omega), if_pos (by omega), if_neg (by omega)]
   simp only [Rop, Gq.add_zero]
   rfl
  | k + 2 =>
   rw [if_pos (by omega), if_pos (by omega), if_pos (by omega)]
   rfl
noncomputable def cmpIn [IsP p] (m : Fp p) (k : Nat) : Nat → List (Fp p) → Fp p → List (Fp p) → List (Fp p)
 | _, [], _, Q => Q
 | i, u :: us, w, Q => cmpIn m k (i + 1) us (pw w p.toNat % m) (addAt Q (i + k) (u * w % m))
noncomputable def cmpOut [IsP p] (m : Fp p) (us : List (Fp p)) : Nat → List (Fp p) → List (Fp p) → List (Fp p)
 | _, [], Q => Q
 | k, v :: vs, Q => cmpOut m us (k + 1) vs (cmpIn m k 0 us v Q)
theorem cmpIn_length [IsP p] (m : Fp p) (k : Nat) : ∀ (us : List (Fp p)) (i : Nat) (w : Fp p) (Q : List (Fp p)), (cmpIn m k i us w Q).length = Q.length
 | [], _, _, _ => rfl
 | u :: us, i, w, Q => by
  show (cmpIn m k (i + 1) us _ (addAt Q (i + k) _)).length = _
  rw [cmpIn_length m k us, addAt_length]
theorem cmpOut_length [IsP p] (m : Fp p) (us : List (Fp p)) : ∀ (vs : List (Fp p)) (k : Nat) (Q : List (Fp p)), (cmpOut m us k vs Q).length = Q.length
 | [], _, _ => rfl
 | v :: vs, k, Q => by
  show (cmpOut m us (k + 1) vs _).length = _
  rw [cmpOut_length m us vs, cmpIn_length]
theorem cmpIn_lens [IsP p] {m : Fp p} {N : Nat} (hm : m ≠ 0) (hN : m.len ≤ N + 1) (k : Nat) : ∀ (us : List (Fp p)) (i : Nat) (w : Fp p) (Q : List (Fp p)), (∀ c ∈ Q, c.len ≤ N) → ∀ c ∈ cmpIn m k i us w Q, c.len ≤ N
 | [], _, _, _, h => h
 | u :: us, i, w, Q, h => cmpIn_lens hm hN k us (i + 1) _ _ (addAt_lens h (by have := Pol.len_mod (u * w) hm; omega))
theorem cmpOut_lens [IsP p] {m : Fp p} {N : Nat} (hm : m ≠ 0) (hN : m.len ≤ N + 1) (us : List (Fp p)) : ∀ (vs : List (Fp p)) (k : Nat) (Q : List (Fp p)), (∀ c ∈ Q, c.len ≤ N) → ∀ c ∈ cmpOut m us k vs Q, c.len ≤ N
 | [], _, _, h => h
 | v :: vs, k, Q, h => cmpOut_lens hm hN us vs (k + 1) _ (cmpIn_lens hm hN k us 0 v Q h)
theorem cmpIn_q [IsP p] {m t0 t1 t2 v : Fp p} {k n : Nat} {Q : List (Fp p)} (h : k + 3 ≤ Q.length) : qcf m (cmpIn m k 0 [t0, t1, t2] v Q) n = qcf m Q n + ((if n = k then Quo.mk m t0 * Quo.mk m v else 0) + (if n = k + 1 then Quo.mk m t1 * sg 1 (Quo.mk m v) else 0) + (if n = k + 2 then Quo.mk m t2 * sg 2 (Quo.mk m v) else 0)) := by
 have e1 : Quo.mk m (pw v p.toNat % m) = sg 1 (Quo.mk m v) := by rw [Pol.mk_mod, Quo.mk_pow]; rfl
 have e2 : Quo.mk m (pw (pw v p.toNat % m) p.toNat % m) = sg 2 (Quo.mk m v) := by rw [Pol.mk_mod, Quo.mk_pow, e1]; rfl
 show qcf m (addAt (addAt (addAt Q (0 + k) (t0 * v % m)) (1 + k) (t1 * (pw v p.toNat % m) % m)) (2 + k) (t2 * (pw (pw v p.toNat % m) p.toNat % m) % m)) n = _
 rw [qcf_set (by rw [addAt_length, addAt_length]; omega), qcf_set (by rw [addAt_length]; omega), qcf_set (by omega)]
 have m1 : ∀ a b : Fp p, Quo.mk m (a * b % m) = Quo.mk m a * Quo.mk m b := fun a b => by rw [Pol.mk_mod, Quo.mk_mul]
 rw [m1, m1, m1, e1, e2, show 0 + k = k by omega, show 1 + k = k + 1 by omega, show 2 + k = k + 2 by omega]
 simp only [Gq.add_assoc]
theorem cmpOut_q [IsP p] {m t0 t1 t2 : Fp p} {n : Nat} : ∀ (vs : List (Fp p)) (k : Nat) (Q : List (Fp p)), k + vs.length + 2 ≤ Q.length → qcf m (cmpOut m [t0, t1, t2] k vs Q) n = qcf m Q n + ((if k ≤ n then Quo.mk m t0 * qcf m vs (n - k) else 0) + (if k + 1 ≤ n then Quo.mk m t1 * sg 1 (qcf m vs (n - k - 1)) else 0) + (if k + 2 ≤ n then Quo.mk m t2 * sg 2 (qcf m vs (n - k - 2)) else 0))
 | [], k, Q, _ => by
  show qcf m Q n = _
  have z : ∀ j, qcf m ([] : List (Fp p)) j = 0 := fun _ => rfl
  simp only [z, sg_zero, Gq.mul_zero, ite_self, Gq.add_zero]
 | v :: vs, k, Q, h => by
  rw [List.length_cons] at h
  show qcf m (cmpOut m [t0, t1, t2] (k + 1) vs (cmpIn m k 0 [t0, t1, t2] v Q)) n = _
  rw [cmpOut_q vs (k + 1) _ (by rw [cmpIn_length]; omega), cmpIn_q (by omega)]
  have hx0 : qcf m (v :: vs) 0 = Quo.mk m v := rfl
  have hxs : ∀ j, qcf m (v :: vs) (j + 1) = qcf m vs j := fun j => rfl
  rcases Nat.lt_or_ge n k with h1 | h1
  ·rw [if_neg (by omega), if_neg (by omega), if_neg (by omega), if_neg (by omega), if_neg (by omega), if_neg (by omega), if_neg (by omega), if_neg (by omega), if_neg (by omega)]
   simp only [Gq.add_zero]
  ·obtain ⟨e, rfl⟩ : ∃ e, n = k + e := ⟨n - k, by omega⟩
   match e with
   | 0 =>
    rw [if_pos (by omega), if_neg (by omega), if_neg (by omega), if_neg (by omega), if_neg (by omega), if_neg (by omega), if_pos (by omega), if_neg (by omega), if_neg (by omega), show k + 0 - k = 0 by omega, hx0]
    simp only [Gq.add_zero]
   | 1 =>
    rw [if_neg (by omega), if_pos (by omega), if_neg (by omega), if_pos (by omega), if_neg (by omega), if_neg (by omega), if_pos (by omega), if_pos (by omega), if_neg (by omega), show k + 1 - (k + 1) = 0 by omega, show k + 1 - k = 0 + 1 by omega, hxs, show 0 + 1 - 1 = 0 from rfl, hx0]
    exact ring_of [qcf m Q (k + 1), Quo.mk m t0, Quo.mk m t1, sg 1 (Quo.mk m v), qcf m vs 0] rfl
   | 2 =>
    rw [if_neg (by omega), if_neg (by omega), if_pos (by omega), if_pos (by omega), if_pos (by omega), if_neg (by omega), if_pos (by omega), if_pos (by omega), if_pos (by omega), show k + 2 - (k + 1) - 1 = 0 by omega, show k + 2 - (k + 1) = 1 by omega, show k + 2 - k - 2 = 0 by omega, show k + 2 - k - 1 = 0 + 1 by omega, show k + 2 - k = 1 + 1 by omega, hxs, hxs, hx0]
    exact ring_of [qcf m Q (k + 2), Quo.mk m t0, Quo.mk m t1, Quo.mk m t2, sg 2 (Quo.mk m v), qcf m vs 1, sg 1 (qcf m vs 0)] rfl
   | j + 3 =>
    rw [if_neg (by omega), if_neg (by omega), if_neg (by omega), if_pos (by omega), if_pos (by omega), if_pos (by omega), if_pos (by omega), if_pos (by omega), if_pos (by omega), show k + (j + 3) - (k + 1) - 2 = j by omega, show k + (j + 3) - (k + 1) - 1 = j + 1 by omega, show k + (j + 3) - (k + 1) = j + 2 by omega, show k + (j + 3) - k - 2 = j + 1 by omega, show k + (j + 3) - k - 1 = (j + 1) + 1 by omega, show k + (j + 3) - k = (j + 2) + 1 by omega, hxs, hxs, hxs]
    simp only [Gq.add_zero]
noncomputable def cmpS [IsP p] (m : Fp p) (us vs : List (Fp p)) : List (Fp p) := trimS (cmpOut m us 0 vs (List.replicate (us.length + vs.length) 0))
theorem cmp_L [IsP p] {m t0 t1 t2 : Fp p} (vs : List (Fp p)) (n : Nat) : qcf m (cmpS m [t0, t1, t2] vs) n = Lop (Quo.mk m t0) (Quo.mk m t1) (Quo.mk m t2) (qcf m vs) n := by
 have e : qcf m (cmpS m [t0, t1, t2] vs) n = qcf m (cmpOut m [t0, t1, t2] 0 vs (List.replicate ([t0, t1, t2].length + vs.length) 0)) n := by unfold qcf cmpS; rw [cS_trim]
 rw [e, cmpOut_q vs 0 _ (by rw [List.length_replicate]; simp only [List.length_cons, List.length_nil]; omega), qcf_zeros, Gq.zero_add]
 match n with
 | 0 =>
  rw [if_pos (by omega), if_neg (by omega), if_neg (by omega)]
  simp only [Lop, Gq.add_zero]
 | 1 =>
  rw [if_pos (by omega), if_pos (by omega), if_neg (by omega)]
  simp only [Lop, Gq.add_zero]
 | k + 2 =>
  rw [if_pos (by omega), if_pos (by omega), if_pos (by omega)]
  rfl
theorem cmp_lens [IsP p] {m : Fp p} (hm : m ≠ 0) (us vs : List (Fp p)) : ∀ c ∈ cmpS m us vs, c.len < m.len := fun c hc => by
 have h1 := Pol.len_pos hm
 have := cmpOut_lens (N := m.len - 1) hm (by omega) us vs 0 (List.replicate (us.length + vs.length) 0) (fun c hc => by rw [List.eq_of_mem_replicate hc, Pol.len_zero]; omega) c (List.mem_of_mem_take hc)
 omega
theorem cmp_len [IsP p] {m : Fp p} (hm : m ≠ 0) {t0 t1 t2 : Fp p} (vs : List (Fp p)) : (cmpS m [t0, t1, t2] vs).length ≤ vs.length + 2 := by
 have h1 := Pol.len_pos hm
 unfold cmpS
 refine trim_len_le fun i hi => ?_
 have hz := qcf_eq (A := cmpOut m [t0, t1, t2] 0 vs (List.replicate ([t0, t1, t2].length + vs.length) 0)) (B := []) (n := i) hm (by
  have := mem_cS (N := m.len - 1) (cmpOut_lens (N := m.len - 1) hm (by omega) [t0, t1, t2] vs 0 (List.replicate ([t0, t1, t2].length + vs.length) 0) (fun c hc => by rw [List.eq_of_mem_replicate hc, Pol.len_zero]; omega)) i
  omega) (by rw [cS_nil, Pol.len_zero]; omega) (by
  rw [cmpOut_q vs 0 _ (by rw [List.length_replicate]; simp only [List.length_cons, List.length_nil]; omega), qcf_zeros, Gq.zero_add, if_pos (by omega), if_pos (by omega), if_pos (by omega), qcf_ge (show vs.length ≤ i - 0 by omega), qcf_ge (show vs.length ≤ i - 0 - 1 by omega), qcf_ge (show vs.length ≤ i - 0 - 2 by omega), sg_zero, sg_zero, Gq.mul_zero, Gq.mul_zero, Gq.mul_zero, Gq.add_zero, Gq.add_zero]
  rfl)
 rw [hz]; rfl
noncomputable def actN [IsP p] (m t0 t1 t2 a : Fp p) (n : Nat) : Nat → List (Fp p)
 | 0 => []
 | j + 1 => plusS 1 (prodS m (actN m t0 t1 t2 a n j) [t0, t1, t2]) (termS (Pol.C (a.c (n - 1 - j))) 0)
theorem const_len (c : Zp p) : (Pol.C c).len ≤ 1 := Pol.len_le fun i hi => by
 cases i with
 | zero => omega
 | succ i => rfl
theorem actN_lens [IsP p] {m : Fp p} (hm : Fld m) (t0 t1 t2 a : Fp p) (n : Nat) : ∀ j, ∀ c ∈ actN m t0 t1 t2 a n j, c.len < m.len
 | 0 => fun c h => by cases h
 | j + 1 => fun c hc => by
  have h2 := hm.two
  have := cS_mem (A := actN m t0 t1 t2 a n (j + 1)) (N := m.len - 1) (fun i => by
   show (cS (plusS 1 _ _) i).len ≤ _
   rw [cS_plus, zp_one, Pol.C_one, Gq.one_mul, cS_term]
   refine Pol.len_add_le (mem_cS (fun c hc => prodS_lens' hm.mon.2 (by omega) c hc) i) ?_
   split
   ·have := const_len (p := p) (a.c (n - 1 - j)); omega
   ·rw [Pol.len_zero]; omega) c hc
  omega
theorem actN_len [IsP p] (m t0 t1 t2 a : Fp p) (n : Nat) : ∀ j, (actN m t0 t1 t2 a n j).length ≤ 2 * j + 1
 | 0 => Nat.zero_le _
 | j + 1 => by
  have ih := actN_len m t0 t1 t2 a n j
  have h1 := plus_len 1 (prodS m (actN m t0 t1 t2 a n j) [t0, t1, t2]) (termS (Pol.C (a.c (n - 1 - j))) 0)
  have h2 := prod_len_le (m := m) (a := actN m t0 t1 t2 a n j) (b := [t0, t1, t2])
  rw [termS_length] at h1
  simp only [List.length_cons, List.length_nil] at h2
  show (plusS 1 _ _).length ≤ _
  omega
theorem actN_q [IsP p] {m t0 t1 t2 : Fp p} (hm : Fld m) (hb : ∀ c ∈ [t0, t1, t2], c.len < m.len) (a : Fp p) (n : Nat) : ∀ j, j ≤ n → qcf m (actN m t0 t1 t2 a n j) = hsum (Quo.mk m t0) (Quo.mk m t1) (Quo.mk m t2) (fun k => Quo.mk m (Pol.C (a.c (n - j + k)))) 0 j
 | 0, _ => rfl
 | j + 1, hj => by
  have ih := actN_q hm hb a n j (by omega)
  funext i
  have e : qcf m (actN m t0 t1 t2 a n (j + 1)) i = qcf m (prodS m (actN m t0 t1 t2 a n j) [t0, t1, t2]) i + Quo.mk m (if i = 0 then Pol.C (a.c (n - 1 - j)) else 0) := by
   show Quo.mk m (cS (plusS 1 _ _) i) = _
   rw [cS_plus, zp_one, Pol.C_one, Gq.one_mul, cS_term]
   rfl
  rw [e, prod_R hm hb, ih, hsum_rop]
  have e2 : ∀ k, n - (j + 1) + (k + 1) = n - j + k := fun k => by omega
  show _ = Quo.mk m (Pol.C (a.c (n - (j + 1) + 0))) * Rk _ _ _ 0 i + hsum _ _ _ (fun k => Quo.mk m (Pol.C (a.c (n - (j + 1) + (k + 1))))) (0 + 1) j i
  simp only [e2]
  rw [Gq.add_comm, show n - (j + 1) + 0 = n - 1 - j by omega]
  congr 1
  cases i with
  | zero => rw [if_pos rfl]; exact (Gq.mul_one _).symm
  | succ i => rw [if_neg (by omega)]; exact (Gq.mul_zero _).symm
noncomputable def spIn (c : Fp p) : Nat → List (Fp p) → List (Fp p) → List (Fp p)
 | _, [], Q => Q
 | i, x :: xs, Q => spIn c (i + 1) xs (addAt Q i (c * x))
theorem spIn_length (c : Fp p) : ∀ (xs : List (Fp p)) (i : Nat) (Q : List (Fp p)), (spIn c i xs Q).length = Q.length
 | [], _, _ => rfl
 | x :: xs, i, Q => by
  show (spIn c (i + 1) xs _).length = _
  rw [spIn_length c xs, addAt_length]
theorem spIn_q [IsP p] {m c : Fp p} {n : Nat} : ∀ (xs : List (Fp p)) (i : Nat) (Q : List (Fp p)), i + xs.length ≤ Q.length → qcf m (spIn c i xs Q) n = qcf m Q n + (if i ≤ n then Quo.mk m c * qcf m xs (n - i) else 0)
 | [], i, Q, _ => by
  show qcf m Q n = _
  rw [qcf_nil, Gq.mul_zero, ite_self, Gq.add_zero]
 | x :: xs, i, Q, h => by
  rw [List.length_cons] at h
  show qcf m (spIn c (i + 1) xs (addAt Q i (c * x))) n = _
  rw [spIn_q xs (i + 1) _ (by rw [addAt_length]; omega), qcf_set (by omega)]
  have hx0 : qcf m (x :: xs) 0 = Quo.mk m x := rfl
  have hxs : ∀ j, qcf m (x :: xs) (j + 1) = qcf m xs j := fun j => rfl
  rcases Nat.lt_trichotomy n i with h1 | h1 | h1
  ·rw [if_neg (by omega), if_neg (by omega), if_neg (by omega)]
   simp only [Gq.add_zero]
  ·subst h1
   rw [if_pos rfl, if_neg (by omega), if_pos (by omega), Nat.sub_self, hx0, Gq.add_zero]
   rfl
  ·rw [if_neg (by omega), if_pos (by omega), if_pos (by omega), show n - i = (n - (i + 1)) + 1 by omega, hxs, Gq.add_zero]
theorem spIn_lens [IsP p] {N : Nat} {c : Zp p} : ∀ (xs : List (Fp p)) (i : Nat) (Q : List (Fp p)), (∀ x ∈ xs, x.len ≤ N) → (∀ x ∈ Q, x.len ≤ N) → ∀ x ∈ spIn (Pol.C c) i xs Q, x.len ≤ N
 | [], _, _, _, h => h
 | x :: xs, i, Q, hx, hQ => spIn_lens xs (i + 1) _ (fun y hy => hx y (by simp [hy])) fun y hy => by
  unfold addAt at hy
  have hxl := hx x (by simp)
  have hcx : (Pol.C c * x).len ≤ N := Pol.len_le fun j hj => by rw [Pol.c_Cmul, c_ge' (by omega), Gq.mul_zero]
  rcases List.mem_or_eq_of_mem_set hy with h | rfl
  ·exact hQ y h
  ·refine Pol.len_add_le ?_ hcx
   cases hq : Q[i]? with
   | none => show (0 : Fp p).len ≤ N; rw [Pol.len_zero]; omega
   | some q => exact hQ q (List.mem_of_getElem? hq)
noncomputable def nwS [IsP p] (m t0 t1 t2 : Fp p) : Nat → List (Fp p)
 | 0 => [1]
 | k + 1 => cmpS m [t0, t1, t2] (nwS m t0 t1 t2 k)
theorem nwS_len [IsP p] {m : Fp p} (hm : m ≠ 0) (t0 t1 t2 : Fp p) : ∀ k, (nwS m t0 t1 t2 k).length ≤ 2 * k + 1
 | 0 => Nat.le_refl _
 | k + 1 => by
  have := nwS_len hm t0 t1 t2 k
  have := cmp_len hm (t0 := t0) (t1 := t1) (t2 := t2) (nwS m t0 t1 t2 k)
  show (cmpS m _ _).length ≤ _
  omega
theorem nwS_lens [IsP p] {m : Fp p} (hm : Fld m) (t0 t1 t2 : Fp p) : ∀ k, ∀ c ∈ nwS m t0 t1 t2 k, c.len < m.len
 | 0 => fun c hc => by
  rw [List.mem_singleton.1 hc]
  have h2 := hm.two
  have : (1 : Fp p).len = 1 := Pol.len_one
  omega
 | _ + 1 => cmp_lens hm.mon.2 _ _
theorem nwS_q [IsP p] {m : Fp p} (t0 t1 t2 : Fp p) : ∀ k, qcf m (nwS m t0 t1 t2 k) = Lk (Quo.mk m t0) (Quo.mk m t1) (Quo.mk m t2) k
 | 0 => funext fun i => by cases i <;> rfl
 | k + 1 => funext fun i => by
  show qcf m (cmpS m _ _) i = Lop _ _ _ (Lk _ _ _ k) i
  rw [cmp_L, nwS_q t0 t1 t2 k]
noncomputable def outS [IsP p] (m t0 t1 t2 a : Fp p) (N : Nat) : Nat → List (Fp p)
 | 0 => List.replicate N 0
 | j + 1 => spIn (Pol.C (a.c j)) 0 (nwS m t0 t1 t2 j) (outS m t0 t1 t2 a N j)
theorem outS_length [IsP p] (m t0 t1 t2 a : Fp p) (N : Nat) : ∀ j, (outS m t0 t1 t2 a N j).length = N
 | 0 => List.length_replicate
 | j + 1 => by
  show (spIn _ 0 _ _).length = N
  rw [spIn_length, outS_length]
theorem outS_lens [IsP p] {m : Fp p} (hm : Fld m) (t0 t1 t2 a : Fp p) (N : Nat) : ∀ j, ∀ c ∈ outS m t0 t1 t2 a N j, c.len < m.len
 | 0 => fun c hc => by rw [List.eq_of_mem_replicate hc, Pol.len_zero]; exact Pol.len_pos hm.mon.2
 | j + 1 => fun c hc => by
  have h1 := Pol.len_pos hm.mon.2
  have := spIn_lens (N := m.len - 1) (nwS m t0 t1 t2 j) 0 (outS m t0 t1 t2 a N j) (fun x hx => by have := nwS_lens hm t0 t1 t2 j x hx; omega) (fun x hx => by have := outS_lens hm t0 t1 t2 a N j x hx; omega) c hc
  omega
theorem outS_q [IsP p] {m : Fp p} (hm : m ≠ 0) (t0 t1 t2 a : Fp p) {N : Nat} : ∀ j, 2 * j ≤ N + 1 → ∀ i, qcf m (outS m t0 t1 t2 a N j) i = hsum (Quo.mk m t0) (Quo.mk m t1) (Quo.mk m t2) (fun k => Quo.mk m (Pol.C (a.c k))) 0 j i
 | 0, _, i => qcf_zeros m N i
 | j + 1, hj, i => by
  have hl := nwS_len hm t0 t1 t2 j
  show qcf m (spIn (Pol.C (a.c j)) 0 (nwS m t0 t1 t2 j) (outS m t0 t1 t2 a N j)) i = _
  rw [spIn_q _ 0 _ (by rw [outS_length]; omega), outS_q hm t0 t1 t2 a j (by omega), if_pos (Nat.zero_le _), nwS_q, hsum_snoc, Nat.sub_zero, Nat.zero_add, lk_rk]
theorem act_out [IsP p] {m t0 t1 t2 : Fp p} (hm : Fld m) (hb : ∀ c ∈ [t0, t1, t2], c.len < m.len) (a : Fp p) {n N : Nat} (hN : 2 * n ≤ N + 1) (i : Nat) : cS (actN m t0 t1 t2 a n n) i = cS (outS m t0 t1 t2 a N n) i := by
 have h1 := Pol.len_pos hm.mon.2
 refine qcf_eq hm.mon.2 ?_ ?_ ?_
 ·have := mem_cS (N := m.len - 1) (fun c hc => by have := actN_lens hm t0 t1 t2 a n n c hc; omega) i; omega
 ·have := mem_cS (N := m.len - 1) (fun c hc => by have := outS_lens hm t0 t1 t2 a N n c hc; omega) i; omega
 ·rw [actN_q hm hb a n n (Nat.le_refl _), outS_q hm.mon.2 t0 t1 t2 a n hN]
  exact hsum_congr _ _ _ i n _ _ 0 fun j _ => by rw [Nat.sub_self, Nat.zero_add]
end
end Pe

namespace Pe
open Go Gq
variable {T : Nat → Option Fn} {A : Oracle}
theorem trim_const {p : Int} [IsP p] (c : Zp p) : trim [rep c] = row (Pol.C c) := by
 apply trim_row
 intro i
 cases i with
 | zero => rfl
 | succ i =>
  rw [cf_ge (by simp)]
  show (0 : Int) = rep ((Pol.C c).c (i + 1))
  rw [c_ge' (by have := const_len (p := p) c; omega), rep_zero]
theorem l_act {O : Oracle} (hby : K_by2 O) (htr : C_trimmed O) (hsi : K_single O) (hpl : K_plus O) {p : Int} [IsP p] {m t0 t1 t2 a : Fp p} (hm : Fld m) (hb : ∀ c ∈ [t0, t1, t2], c.len < m.len) (ha : a.len ≤ 64) : ∀ (r j : Nat), j + r = a.len →
 dn O 0 (.loop Z6_L0) ⟨[(1, (.d (.sl .leaf (ints .i64 (row a))))), (5, .ptr 1 []), (6, .d (skD [t0, t1, t2])), (7, .d (skD (actN m t0 t1 t2 a a.len j))), (8, (.d (.int .i64 ((a.len : Int) - 1 - j))))], [.hole, .box false (fldD m), .hole]⟩ =
  some (.exit 0, ⟨[(1, (.d (.sl .leaf (ints .i64 (row a))))), (5, .ptr 1 []), (6, .d (skD [t0, t1, t2])), (7, .d (skD (actN m t0 t1 t2 a a.len a.len))), (8, (.d (.int .i64 (-1)))), (17, (.d (.bool false)))], [.hole, .box false (fldD m), .hole]⟩)
 | 0, j, hj => by
  obtain rfl : j = a.len := by omega
  rw [show (a.len : Int) - 1 - (a.len : Nat) = -1 by omega]
  refine dn_stop ?_
  generalize skD (actN m t0 t1 t2 a a.len a.len) = AD at *
  generalize skD [t0, t1, t2] = TD at *
  generalize row a = Ra at *
  simp -implicitDefEqProofs [Z6_L0, dn_cond]
 | r + 1, j, hj => by
  have h5 := hm.five
  have h2 := hm.two
  obtain ⟨i, hi⟩ : ∃ i : Nat, a.len - 1 - j = i := ⟨_, rfl⟩
  have hic : (a.len : Int) - 1 - j = (i : Nat) := by omega
  have hlt2 : i < (row a).length := by rw [row_length]; omega
  have hx : (row a)[i]? = some (rep (a.c i)) := by rw [List.getElem?_eq_getElem hlt2, ← cf_lt hlt2, row_cf]
  have g1 := actN_lens hm t0 t1 t2 a a.len j
  have g2 := actN_len m t0 t1 t2 a a.len j
  have p1 := prod_len_le (m := m) (a := actN m t0 t1 t2 a a.len j) (b := [t0, t1, t2])
  simp only [List.length_cons, List.length_nil] at p1
  have hcl := const_len (p := p) (a.c i)
  have e1 := hby p m (actN m t0 t1 t2 a a.len j) [t0, t1, t2] h2 (by omega) (fun c hc => by have := g1 c hc; omega) (fun c hc => by have := hb c hc; omega) (by omega) (by simp)
  have e2 := htr [rep (a.c i)] (by simp)
  rw [trim_const, show ints .i64 [rep (a.c i)] = [.int .i64 (rep (a.c i))] from rfl] at e2
  have e3 := hsi p (Pol.C (a.c i)) 0 (by omega)
  rw [show ((0 : Nat) : Int) = 0 from rfl] at e3
  have e4 := hpl p m (prodS m (actN m t0 t1 t2 a a.len j) [t0, t1, t2]) (termS (Pol.C (a.c i)) 0) 1 (by omega) (by omega) (by omega) (by rw [termS_length]; omega) (fun c hc => by have := prodS_lens' (N := m.len - 1) hm.mon.2 (by omega) c hc; omega) (fun c hc => by
   unfold termS at hc
   rw [List.replicate_zero, List.nil_append] at hc
   rw [List.mem_singleton.1 hc]; omega)
  have hact : plusS 1 (prodS m (actN m t0 t1 t2 a a.len j) [t0, t1, t2]) (termS (Pol.C (a.c i)) 0) = actN m t0 t1 t2 a a.len (j + 1) := by
   show _ = plusS 1 _ (termS (Pol.C (a.c (a.len - 1 - j))) 0)
   rw [hi]
  rw [hact] at e4
  have w4 : IntKind.i64.wrap ((i : Int) - 1) = (a.len : Int) - 1 - ((j + 1 : Nat) : Int) := (w64 (by omega)).trans (by omega)
  refine dn_round ?_ (l_act hby htr hsi hpl hm hb ha r (j + 1) (by omega))
  rw [hic]
  have hfd : fldD m = .st [.leaf, .leaf] [(D.int .i64 p), (D.sl .leaf (ints .i64 (row m)))] := rfl
  rw [show skD (actN m t0 t1 t2 a a.len (j + 1)) = .sl .leaf ((actN m t0 t1 t2 a a.len (j + 1)).map rowD) from rfl] at e4 ⊢
  rw [show skD (prodS m (actN m t0 t1 t2 a a.len j) [t0, t1, t2]) = .sl .leaf ((prodS m (actN m t0 t1 t2 a a.len j) [t0, t1, t2]).map rowD) from rfl] at e1 e4
  rw [show skD (termS (Pol.C (a.c i)) 0) = .sl .leaf ((termS (Pol.C (a.c i)) 0).map rowD) from rfl] at e3 e4
  rw [show skD (actN m t0 t1 t2 a a.len j) = .sl .leaf ((actN m t0 t1 t2 a a.len j).map rowD) from rfl, show skD [t0, t1, t2] = .sl .leaf ([t0, t1, t2].map rowD) from rfl, hfd] at e1 ⊢
  rw [hfd] at e4
  generalize (a.len : Int) - 1 - ((j + 1 : Nat) : Int) = k1 at *
  generalize (actN m t0 t1 t2 a a.len (j + 1)).map rowD = D1 at *
  generalize (prodS m (actN m t0 t1 t2 a a.len j) [t0, t1, t2]).map rowD = D2 at *
  generalize (termS (Pol.C (a.c i)) 0).map rowD = D3 at *
  generalize (actN m t0 t1 t2 a a.len j).map rowD = D4 at *
  generalize [t0, t1, t2].map rowD = TD at *
  generalize row (Pol.C (a.c i)) = R1 at *
  generalize row m = Rm at *
  simp -implicitDefEqProofs [Z6_L0, dn_cond, hx, e1, e2, e3, e4, w4]
def K_action (O : Oracle) : Prop := ∀ (p : Int) [IsP p] (m g d a : Fp p), Fld m → g.len < m.len → d.len < m.len → a.len ≤ 64 → ask O F6 [drD p (pad (row m)) (pad (row g)) (pad (row d)), (D.sl .leaf (ints .i64 (row a)))] = some (skD (actN m (Pol.X % m) g d a a.len a.len))
theorem mem3 {p : Int} {t0 t1 t2 : Fp p} {n : Nat} (h0 : t0.len < n) (h1 : t1.len < n) (h2 : t2.len < n) : ∀ c ∈ [t0, t1, t2], c.len < n := fun c hc => by
 simp at hc
 rcases hc with rfl | rfl | rfl <;> assumption
theorem k_action (hT : T F6 = some Z6) (hfi : K_drField (den T A)) (hla : K_letterAction (den T A)) (hby : K_by2 (den T A)) (htr : C_trimmed (den T A)) (hsi : K_single (den T A)) (hpl : K_plus (den T A)) : K_action (den T A) := by
 intro p ip m g d a hm hg hd ha
 have h5 := hm.five
 have h0 := hm.mon.2
 have e1 := hfi p m (pad (row g)) (pad (row d)) (by omega)
 have e2 := hla p m g d h0 (by omega) (by omega) (by omega)
 have e3 := l_act (O := den T A) (t0 := Pol.X % m) (t1 := g) (t2 := d) (a := a) hby htr hsi hpl hm (mem3 (Pol.len_mod _ h0) hg hd) ha a.len 0 (by omega)
 rw [show actN m (Pol.X % m) g d a a.len 0 = [] from rfl, show ((0 : Nat) : Int) = 0 from rfl, Int.sub_zero] at e3
 have hl : (row a).length = a.len := row_length a
 have w1 : IntKind.i64.wrap ((a.len : Int) - 1) = (a.len : Int) - 1 := w64 (by omega)
 have hfd : fldD m = .st [.leaf, .leaf] [(D.int .i64 p), (D.sl .leaf (ints .i64 (row m)))] := rfl
 rw [show skD (actN m (Pol.X % m) g d a a.len a.len) = .sl .leaf ((actN m (Pol.X % m) g d a a.len a.len).map rowD) from rfl] at e3 ⊢
 rw [show skD [Pol.X % m, g, d] = .sl .leaf ([Pol.X % m, g, d].map rowD) from rfl] at e2 e3
 rw [show skD ([] : List (Fp p)) = .sl .leaf [] from rfl, hfd] at e3
 rw [hfd] at e1
 refine ask_of hT rfl ?_
 generalize (actN m (Pol.X % m) g d a a.len a.len).map rowD = D1 at *
 generalize [Pol.X % m, g, d].map rowD = TD at *
 generalize row a = Ra at *
 generalize pad (row m) = Pm at *
 generalize pad (row g) = Pg at *
 generalize pad (row d) = Pd at *
 generalize row m = Rm at *
 simp -implicitDefEqProofs [Z6, Z6_B, e1, e2, e3, hl, w1]
section
variable {p : Int}
end
end Pe

namespace Pe
open Go Gq
variable {T : Nat → Option Fn} {A : Oracle}
noncomputable abbrev aD {p : Int} (L : List (Fp p)) : D := .sl (.arr 64 .leaf) ((skP L).map arr8)
theorem skA_get {p : Int} {L : List (Fp p)} {i : Nat} (h : i < L.length) : ((skP L).map arr8)[i]? = some (D.arr 64 .leaf (ints .u8 (pad (row L[i])))) := by
 unfold skP
 rw [List.getElem?_map, List.getElem?_map, List.getElem?_eq_getElem h]
 rfl
theorem skA_getE {p : Int} {L : List (Fp p)} {i : Nat} (h : i < L.length) : ∀ h' : i < ((skP L).map arr8).length, ((skP L).map arr8)[i]'h' = (D.arr 64 .leaf (ints .u8 (pad (row L[i])))) := fun h' => by
 have := skA_get h
 rw [List.getElem?_eq_getElem h'] at this
 exact Option.some.inj this
theorem skA_len {p : Int} (L : List (Fp p)) : ((skP L).map arr8).length = L.length := by unfold skP; rw [List.length_map, List.length_map]
theorem skA_take {p : Int} (L : List (Fp p)) (n : Nat) : ((skP L).map arr8).take n = (skP (L.take n)).map arr8 := by unfold skP; rw [← List.map_take, ← List.map_take]
theorem skA_set {p : Int} (L : List (Fp p)) (n : Nat) (c : Fp p) : (skP (L.set n c)).map arr8 = ((skP L).map arr8).set n (D.arr 64 .leaf (ints .u8 (pad (row c)))) := by unfold skP; rw [List.map_set, List.map_set]
theorem l_sTrim4 {O : Oracle} {p : Int} [IsP p] {L : List (Fp p)} (hl : ∀ c ∈ L, c.len ≤ 64) (hL : L.length ≤ 1000000) : ∀ n, n ≤ L.length →
 dn O 0 (.loop Z34_L0) ⟨[(0, .d (aD (L.take n)))], []⟩ = some (.exit 0, ⟨[(0, .d (aD (L.take (stl L n)))), (15, (.d (.bool false)))], []⟩)
 | 0, _ => by
  refine dn_stop ?_
  rw [List.take_zero, show aD ([] : List (Fp p)) = .sl (.arr 64 .leaf) [] from rfl, show stl L 0 = 0 from rfl, List.take_zero, show aD ([] : List (Fp p)) = .sl (.arr 64 .leaf) [] from rfl]
  simp -implicitDefEqProofs [Z34_L0, dn_cond]
 | n + 1, hn => by
  have hlt : n < L.length := by omega
  have hc := hl _ (List.getElem_mem hlt)
  have hg := skA_get (L := L.take (n + 1)) (i := n) (by rw [List.length_take]; omega)
  rw [List.getElem_take] at hg
  have hlen : ((skP (L.take (n + 1))).map arr8).length = n + 1 := by rw [skA_len, List.length_take]; omega
  have w1 : IntKind.i64.wrap (n : Int) = (n : Int) := w64 (by omega)
  have hpos : (0 : Int) < (n : Int) + 1 := by omega
  have hgE := skA_getE (L := L.take (n + 1)) (i := n) (by rw [List.length_take]; omega)
  rw [List.getElem_take] at hgE
  have heq := beq_P (l := pad (row L[n])) (m := pad []) (pad_length _) (pad_length _)
  by_cases h0 : L[n] = 0
  ·have hst : stl L (n + 1) = stl L n := by
    conv => lhs; unfold stl
    rw [if_pos (by rw [List.getElem?_eq_getElem hlt, h0])]
   rw [hst]
   have ih := l_sTrim4 (O := O) hl hL n (by omega)
   rw [h0, row_zero, decide_eq_true rfl] at heq
   rw [h0, row_zero] at hg hgE
   have htk : ((skP (L.take (n + 1))).map arr8).take n = (skP (L.take n)).map arr8 := by
    rw [skA_take, List.take_take, Nat.min_eq_left (by omega)]
   refine dn_round ?_ ih
   show _ = some (_, (⟨[(0, .d (.sl (.arr 64 .leaf) ((skP (L.take n)).map arr8)))], _⟩ : St))
   show dn O 0 _ ⟨[(0, .d (.sl (.arr 64 .leaf) ((skP (L.take (n + 1))).map arr8)))], _⟩ = _
   generalize (skP (L.take n)).map arr8 = L1 at *
   generalize (skP (L.take (n + 1))).map arr8 = L2 at *
   simp -implicitDefEqProofs [Z34_L0, dn_cond, hgE, hlen, w1, hpos, heq, htk]
  ·have hst : stl L (n + 1) = n + 1 := by
    conv => lhs; unfold stl
    rw [if_neg (by rw [List.getElem?_eq_getElem hlt]; exact fun h => h0 (Option.some.inj h))]
   rw [hst]
   have hne : ¬ pad (row L[n]) = pad [] := fun h => h0 ((pad_row_inj hc (by rw [Pol.len_zero]; omega)).1 (by rw [h, row_zero]))
   rw [decide_eq_false hne] at heq
   have key : ∀ (L2 : List D) (P1 : List Int), L2.length = n + 1 → (∀ h' : n < L2.length, L2[n]'h' = (D.arr 64 .leaf (ints .u8 P1))) → D.beq (.arr 64 .leaf .int) (D.arr 64 .leaf (ints .u8 P1)) (D.arr 64 .leaf (ints .u8 (pad []))) = some false →
    dn O 0 Z34_L0 ⟨[(0, .d (.sl (.arr 64 .leaf) L2))], []⟩ = some (.exit 0, ⟨[(0, .d (.sl (.arr 64 .leaf) L2)), (15, (.d (.bool false)))], []⟩) := by
    intro L2 P1 f1 f2 f3
    simp -implicitDefEqProofs [Z34_L0, dn_cond, f1, f2, w1, hpos, f3]
   exact dn_stop (key _ _ hlen hgE heq)
def K_sTrim4 (O : Oracle) : Prop := ∀ (p : Int) [IsP p] (L : List (Fp p)), (∀ c ∈ L, c.len ≤ 64) → L.length ≤ 1000000 → ask O F34 [aD L] = some (aD (trimS L))
theorem k_sTrim4 (hT : T F34 = some Z34) : K_sTrim4 (den T A) := by
 intro p ip L hl hL
 have e1 := l_sTrim4 (O := den T A) hl hL L.length (Nat.le_refl _)
 rw [List.take_length, show L.take (stl L L.length) = trimS L from rfl] at e1
 rw [show aD L = .sl (.arr 64 .leaf) ((skP L).map arr8) from rfl, show aD (trimS L) = .sl (.arr 64 .leaf) ((skP (trimS L)).map arr8) from rfl] at e1 ⊢
 refine ask_of hT rfl ?_
 generalize (skP (trimS L)).map arr8 = L1 at *
 generalize (skP L).map arr8 = L2 at *
 simp -implicitDefEqProofs [Z34, Z34_B, e1]
theorem l_cmpIn {O : Oracle} (hti : K_sTimes6 O) (had : K_sAdd O) (hup : K_sUp6 O) {p : Int} [IsP p] {m : Fp p} {v1 v2 : List Int} (hm : m ≠ 0) (hml : m.len ≤ 64) {us : List (Fp p)} (hus : ∀ c ∈ us, c.len ≤ 64) {VD : D} {N k : Nat} (hN : N ≤ 1000) (hk : us.length + k ≤ N) : ∀ (r i : Nat) (w : Fp p) (Q : List (Fp p)), i + r = us.length → Q.length = N → (∀ c ∈ Q, c.len ≤ 64) → w.len ≤ 64 → ∃ w' : List Int,
 dn O 0 (.loop Z37_L0) ⟨[(1, .d (aD us)), (2, .d VD), (3, .ptr 0 []), (7, .sl 1 [] 0 N (some N)), (8, (.d (.int .i64 k))), (9, .ptr 2 []), (10, (.d (.int .i64 i)))], [.box false (drD p (pad (row m)) v1 v2), .sl false (.arr 64 .leaf) ((skP Q).map arr8), .box false (D.arr 64 .leaf (ints .u8 (pad (row w))))]⟩ =
  some (.exit 2, ⟨[(1, .d (aD us)), (2, .d VD), (3, .ptr 0 []), (7, .sl 1 [] 0 N (some N)), (8, (.d (.int .i64 k))), (9, .ptr 2 []), (10, (.d (.int .i64 us.length))), (30, (.d (.bool false)))], [.box false (drD p (pad (row m)) v1 v2), .sl false (.arr 64 .leaf) ((skP (cmpIn m k i (us.drop i) w Q)).map arr8), .box false (D.arr 64 .leaf (ints .u8 w'))]⟩)
 | 0, i, w, Q, hi, hq, hQ, hw => by
  obtain rfl : i = us.length := by omega
  rw [List.drop_length]
  refine ⟨pad (row w), dn_stop ?_⟩
  have hUL := skA_len us
  show dn O 0 _ ⟨[(1, .d (.sl (.arr 64 .leaf) ((skP us).map arr8))), _, _, _, _, _, _], _⟩ = some (_, (⟨[(1, .d (.sl (.arr 64 .leaf) ((skP us).map arr8))), _, _, _, _, _, _, _], [_, .sl false (.arr 64 .leaf) ((skP Q).map arr8), _]⟩ : St))
  generalize (skP us).map arr8 = UD at *
  generalize (skP Q).map arr8 = QD at *
  generalize pad (row w) = Pw at *
  simp -implicitDefEqProofs [Z37_L0, dn_cond, hUL]
 | r + 1, i, w, Q, hi, hq, hQ, hw => by
  have hlt : i < us.length := by omega
  have hik : i + k < N := by omega
  have hikQ : i + k < Q.length := by omega
  have hu1 := hus _ (List.getElem_mem hlt)
  have hq1 := hQ _ (List.getElem_mem hikQ)
  have hUL := skA_len us
  have hQL : ((skP Q).map arr8).length = N := (skA_len Q).trans hq
  have g1 := skA_get hlt
  have g2 := skA_get hikQ
  have g1E := skA_getE hlt
  have g2E := skA_getE hikQ
  have e1 := hti p m us[i] w v1 v2 hm hml hu1 hw
  have l1 := Pol.len_mod (us[i] * w) hm
  have e2 := had p 1 Q[i + k] (us[i] * w % m) (by omega) (by omega) hq1 (by omega)
  rw [zp_one, Pol.C_one, Gq.one_mul] at e2
  have e3 := hup p m w v1 v2 1 hm hml hw (by omega)
  rw [show frIt m 1 w = pw w p.toNat % m from rfl, show ((1 : Nat) : Int) = 1 from rfl] at e3
  have l2 := Pol.len_mod (pw w p.toNat) hm
  have hadd : addAt Q (i + k) (us[i] * w % m) = Q.set (i + k) (Q[i + k] + us[i] * w % m) := by
   unfold addAt; rw [List.getElem?_eq_getElem hikQ]; rfl
  have hQ' : ∀ c ∈ addAt Q (i + k) (us[i] * w % m), c.len ≤ 64 := addAt_lens hQ (by omega)
  have w0 : IntKind.i64.wrap ((i : Int) + k) = ((i + k : Nat) : Int) := (w64 (x := (i : Int) + k) (by omega)).trans (by omega)
  have hs0 : (0 : Int) ≤ (i : Int) + k := by omega
  have hs1 : ((i : Int) + k).toNat = i + k := by omega
  have w4 : IntKind.i64.wrap ((i : Int) + 1) = ((i + 1 : Nat) : Int) := (w64 (x := (i : Int) + 1) (by omega)).trans (by omega)
  have hlt' : (i : Int) < us.length := by omega
  obtain ⟨w', ih⟩ := l_cmpIn hti had hup hm hml hus (VD := VD) hN hk (v1 := v1) (v2 := v2) r (i + 1) (pw w p.toNat % m) (addAt Q (i + k) (us[i] * w % m)) (by omega) (by rw [addAt_length]; exact hq) hQ' (by omega)
  have hby : cmpIn m k i (us.drop i) w Q = cmpIn m k (i + 1) (us.drop (i + 1)) (pw w p.toNat % m) (addAt Q (i + k) (us[i] * w % m)) := by
   rw [List.drop_eq_getElem_cons hlt]; rfl
  rw [hby]
  refine ⟨w', dn_round ?_ ih⟩
  rw [hadd, skA_set]
  show dn O 0 _ ⟨[(1, .d (.sl (.arr 64 .leaf) ((skP us).map arr8))), _, _, _, _, _, _], _⟩ = some (_, (⟨[(1, .d (.sl (.arr 64 .leaf) ((skP us).map arr8))), _, _, _, _, _, _], _⟩ : St))
  generalize pad (row (Q[i + k] + us[i] * w % m)) = P1 at *
  generalize pad (row (us[i] * w % m)) = P2 at *
  generalize pad (row us[i]) = P3 at *
  generalize pad (row Q[i + k]) = P4 at *
  generalize pad (row (pw w p.toNat % m)) = P5 at *
  generalize pad (row w) = Pw at *
  generalize (skP us).map arr8 = UD at *
  generalize (skP Q).map arr8 = QD at *
  generalize pad (row m) = Pm at *
  simp -implicitDefEqProofs [Z37_L0, dn_cond, hUL, hQL, hlt, hlt', hik, hs0, hs1, g1E, g2E, e1, e2, e3, w0, w4]
theorem l_cmpOut {O : Oracle} (hti : K_sTimes6 O) (had : K_sAdd O) (hup : K_sUp6 O) {p : Int} [IsP p] {m : Fp p} {v1 v2 : List Int} (hm : m ≠ 0) (hml : m.len ≤ 64) {us vs : List (Fp p)} (hus : ∀ c ∈ us, c.len ≤ 64) (hvs : ∀ c ∈ vs, c.len ≤ 64) {N : Nat} (hN : N ≤ 1000) (hk : us.length + vs.length ≤ N) : ∀ (r k : Nat) (Q : List (Fp p)), k + r = vs.length → Q.length = N → (∀ c ∈ Q, c.len ≤ 64) →
 dn O 0 (.loop Z37_L1) ⟨[(1, .d (aD us)), (2, .d (aD vs)), (3, .ptr 0 []), (7, .sl 1 [] 0 N (some N)), (8, (.d (.int .i64 k)))], [.box false (drD p (pad (row m)) v1 v2), .sl false (.arr 64 .leaf) ((skP Q).map arr8), .hole]⟩ =
  some (.exit 0, ⟨[(1, .d (aD us)), (2, .d (aD vs)), (3, .ptr 0 []), (7, .sl 1 [] 0 N (some N)), (8, (.d (.int .i64 vs.length))), (20, (.d (.bool false)))], [.box false (drD p (pad (row m)) v1 v2), .sl false (.arr 64 .leaf) ((skP (cmpOut m us k (vs.drop k) Q)).map arr8), .hole]⟩)
 | 0, k, Q, hi, hq, hQ => by
  obtain rfl : k = vs.length := by omega
  rw [List.drop_length]
  refine dn_stop ?_
  have hVL := skA_len vs
  show dn O 0 _ ⟨[_, (2, .d (.sl (.arr 64 .leaf) ((skP vs).map arr8))), _, _, _], _⟩ = some (_, (⟨[_, (2, .d (.sl (.arr 64 .leaf) ((skP vs).map arr8))), _, _, _, _], [_, .sl false (.arr 64 .leaf) ((skP Q).map arr8), _]⟩ : St))
  generalize aD us = UD at *
  generalize (skP vs).map arr8 = VD at *
  generalize (skP Q).map arr8 = QD at *
  simp -implicitDefEqProofs [Z37_L1, dn_cond, hVL]
 | r + 1, k, Q, hi, hq, hQ => by
  have hlt : k < vs.length := by omega
  have hv1 := hvs _ (List.getElem_mem hlt)
  have hVL := skA_len vs
  have g1 := skA_get hlt
  have g1E := skA_getE hlt
  have w4 : IntKind.i64.wrap ((k : Int) + 1) = ((k + 1 : Nat) : Int) := (w64 (x := (k : Int) + 1) (by omega)).trans (by omega)
  have hlt' : (k : Int) < vs.length := by omega
  obtain ⟨w', e1⟩ := l_cmpIn hti had hup hm hml hus (VD := aD vs) hN (k := k) (by omega) (v1 := v1) (v2 := v2) us.length 0 vs[k] Q (by omega) hq hQ hv1
  rw [List.drop_zero, show ((0 : Nat) : Int) = 0 from rfl] at e1
  have hQ' : ∀ c ∈ cmpIn m k 0 us vs[k] Q, c.len ≤ 64 := cmpIn_lens (N := 64) hm (by omega) k us 0 vs[k] Q hQ
  have ih := l_cmpOut hti had hup hm hml hus hvs hN hk (v1 := v1) (v2 := v2) r (k + 1) (cmpIn m k 0 us vs[k] Q) (by omega) (by rw [cmpIn_length]; exact hq) hQ'
  have hby : cmpOut m us k (vs.drop k) Q = cmpOut m us (k + 1) (vs.drop (k + 1)) (cmpIn m k 0 us vs[k] Q) := by
   rw [List.drop_eq_getElem_cons hlt]; rfl
  rw [hby]
  refine dn_round ?_ ih
  rw [show aD vs = .sl (.arr 64 .leaf) ((skP vs).map arr8) from rfl] at e1 ⊢
  generalize aD us = UD at *
  generalize (skP (cmpIn m k 0 us vs[k] Q)).map arr8 = Q2 at *
  generalize (skP vs).map arr8 = VD at *
  generalize (skP Q).map arr8 = QD at *
  generalize pad (row vs[k]) = P1 at *
  generalize pad (row m) = Pm at *
  simp -implicitDefEqProofs [Z37_L1, dn_cond, hVL, hlt, hlt', g1E, e1, w4]
def K_sComp (O : Oracle) : Prop := ∀ (p : Int) [IsP p] (m : Fp p) (v1 v2 : List Int) (us vs : List (Fp p)), m ≠ 0 → m.len ≤ 64 → (∀ c ∈ us, c.len ≤ 64) → (∀ c ∈ vs, c.len ≤ 64) → us.length + vs.length ≤ 1000 → ask O F37 [drD p (pad (row m)) v1 v2, aD us, aD vs] = some (aD (cmpS m us vs))
theorem skA_zeros (p : Int) (n : Nat) : (skP (List.replicate n (0 : Fp p))).map arr8 = List.replicate n (D.arr 64 .leaf (ints .u8 (pad []))) := by
 unfold skP
 rw [List.map_replicate, List.map_replicate, row_zero]
theorem k_sComp (hT : T F37 = some Z37) (hti : K_sTimes6 (den T A)) (had : K_sAdd (den T A)) (hup : K_sUp6 (den T A)) (htr : K_sTrim4 (den T A)) : K_sComp (den T A) := by
 intro p ip m v1 v2 us vs hm hml hus hvs hN
 have hz : ∀ c ∈ List.replicate (us.length + vs.length) (0 : Fp p), c.len ≤ 64 := fun c hc => by rw [List.eq_of_mem_replicate hc, Pol.len_zero]; omega
 have e1 := l_cmpOut (O := den T A) hti had hup hm hml hus hvs hN (Nat.le_refl _) (v1 := v1) (v2 := v2) vs.length 0 (List.replicate (us.length + vs.length) 0) (by omega) List.length_replicate hz
 rw [List.drop_zero, show ((0 : Nat) : Int) = 0 from rfl, skA_zeros] at e1
 have e2 := htr p (cmpOut m us 0 vs (List.replicate (us.length + vs.length) 0)) (cmpOut_lens (N := 64) hm (by omega) us vs 0 _ hz) (by rw [cmpOut_length, List.length_replicate]; omega)
 rw [show trimS (cmpOut m us 0 vs (List.replicate (us.length + vs.length) 0)) = cmpS m us vs from rfl] at e2
 have hUL := skA_len us
 have hVL := skA_len vs
 have hOL : ((skP (cmpOut m us 0 vs (List.replicate (us.length + vs.length) 0))).map arr8).length = us.length + vs.length := by rw [skA_len, cmpOut_length, List.length_replicate]
 have w1 : IntKind.i64.wrap ((us.length : Int) + vs.length) = ((us.length + vs.length : Nat) : Int) := (w64 (x := (us.length : Int) + vs.length) (by omega)).trans (by omega)
 have hmul : (us.length + vs.length) * 64 ≤ 1099511627776 := by omega
 have hs0 : (0 : Int) ≤ (us.length : Int) + vs.length := by omega
 have hs1 : ((us.length : Int) + vs.length).toNat = us.length + vs.length := by omega
 rw [show aD us = .sl (.arr 64 .leaf) ((skP us).map arr8) from rfl, show aD vs = .sl (.arr 64 .leaf) ((skP vs).map arr8) from rfl] at e1 ⊢
 rw [show aD (cmpS m us vs) = .sl (.arr 64 .leaf) ((skP (cmpS m us vs)).map arr8) from rfl] at e2 ⊢
 rw [show aD (cmpOut m us 0 vs (List.replicate (us.length + vs.length) 0)) = .sl (.arr 64 .leaf) ((skP (cmpOut m us 0 vs (List.replicate (us.length + vs.length) 0))).map arr8) from rfl] at e2
 have htk : ((skP (cmpOut m us 0 vs (List.replicate (us.length + vs.length) 0))).map arr8).take (us.length + vs.length) = (skP (cmpOut m us 0 vs (List.replicate (us.length + vs.length) 0))).map arr8 := List.take_of_length_le (by omega)
 refine ask_of hT rfl ?_
 generalize (skP (cmpS m us vs)).map arr8 = CD at *
 generalize (skP (cmpOut m us 0 vs (List.replicate (us.length + vs.length) 0))).map arr8 = OD at *
 generalize (skP us).map arr8 = UD at *
 generalize (skP vs).map arr8 = VD at *
 generalize us.length = nu at *
 generalize vs.length = nv at *
 generalize pad (row m) = Pm at *
 simp -implicitDefEqProofs [Z37, Z37_B, hUL, hVL, hOL, w1, hmul, hs0, hs1, htk, e1, e2]
def K_sT6 (O : Oracle) : Prop := ∀ (p : Int) [IsP p] (m g d : Fp p), m ≠ 0 → m.len ≤ 64 → ask O F39 [drD p (pad (row m)) (pad (row g)) (pad (row d))] = some (aD [Pol.X % m, g, d])
theorem k_sT6 (hT : T F39 = some Z39) (ht : K_sT (den T A)) (hmo : K_sMod (den T A)) : K_sT6 (den T A) := by
 intro p ip m g d hm hml
 have e1 := ht p
 have e2 := hmo p Pol.X m hm (by rw [Pol.len_X]; omega) hml
 rw [show aD [Pol.X % m, g, d] = .sl (.arr 64 .leaf) [(D.arr 64 .leaf (ints .u8 (pad (row (Pol.X % m))))), (D.arr 64 .leaf (ints .u8 (pad (row g)))), (D.arr 64 .leaf (ints .u8 (pad (row d))))] from rfl]
 refine ask_of hT rfl ?_
 generalize pad (row (Pol.X % m)) = P1 at *
 generalize pad (row (Pol.X : Fp p)) = P2 at *
 generalize pad (row m) = Pm at *
 generalize pad (row g) = Pg at *
 generalize pad (row d) = Pd at *
 simp -implicitDefEqProofs [Z39, Z39_B, e1, e2, List.replicate]
theorem conv_rep {p : Int} [IsP p] (c : Zp p) : IntKind.i64.wrap (rep c) = rep c := by
 have := rep_in c
 have h7 := IsP.le (p := p)
 exact w64 (by omega)
theorem l_sAct0 {O : Oracle} (had : K_sAdd O) {p : Int} [IsP p] {m a : Fp p} {v1 v2 : List Int} (ha : a.len ≤ 64) {X : List (Fp p)} (hX : ∀ c ∈ X, c.len ≤ 64) {N k : Nat} {n5 : Int} (hN : N ≤ 1000) (hXN : X.length ≤ N) (hk : k < 64) : ∀ (r i : Nat) (Q : List (Fp p)), i + r = X.length → Q.length = N → (∀ c ∈ Q, c.len ≤ 64) →
 dn O 0 (.loop Z35_L0) ⟨[(2, .ptr 0 []), (3, .ptr 1 []), (5, (.d (.int .i64 n5))), (6, .sl 2 [] 0 N (some N)), (7, .d (aD X)), (8, (.d (.int .i64 k))), (9, (.d (.int .i64 i)))], [.box false (drD p (pad (row m)) v1 v2), .box false (D.arr 64 .leaf (ints .u8 (pad (row a)))), .sl false (.arr 64 .leaf) ((skP Q).map arr8), .hole]⟩ =
  some (.exit 2, ⟨[(2, .ptr 0 []), (3, .ptr 1 []), (5, (.d (.int .i64 n5))), (6, .sl 2 [] 0 N (some N)), (7, .d (aD X)), (8, (.d (.int .i64 k))), (9, (.d (.int .i64 X.length))), (27, (.d (.bool false)))], [.box false (drD p (pad (row m)) v1 v2), .box false (D.arr 64 .leaf (ints .u8 (pad (row a)))), .sl false (.arr 64 .leaf) ((skP (spIn (Pol.C (a.c k)) i (X.drop i) Q)).map arr8), .hole]⟩)
 | 0, i, Q, hi, hq, hQ => by
  obtain rfl : i = X.length := by omega
  rw [List.drop_length]
  refine dn_stop ?_
  have hXL := skA_len X
  show dn O 0 _ ⟨[_, _, _, _, (7, .d (.sl (.arr 64 .leaf) ((skP X).map arr8))), _, _], _⟩ = some (_, (⟨[_, _, _, _, (7, .d (.sl (.arr 64 .leaf) ((skP X).map arr8))), _, _, _], [_, _, .sl false (.arr 64 .leaf) ((skP Q).map arr8), _]⟩ : St))
  generalize (skP X).map arr8 = XD at *
  generalize (skP Q).map arr8 = QD at *
  simp -implicitDefEqProofs [Z35_L0, dn_cond, hXL]
 | r + 1, i, Q, hi, hq, hQ => by
  have hlt : i < X.length := by omega
  have hiQ : i < Q.length := by omega
  have hiN : i < N := by omega
  have hx1 := hX _ (List.getElem_mem hlt)
  have hq1 := hQ _ (List.getElem_mem hiQ)
  have hXL := skA_len X
  have hQL : ((skP Q).map arr8).length = N := (skA_len Q).trans hq
  have g1 := skA_getE hlt
  have g2 := skA_getE hiQ
  have hr := rep_in (a.c k)
  have h7 := IsP.le (p := p)
  have e1 := had p (rep (a.c k)) Q[i] X[i] (by omega) (by omega) hq1 hx1
  rw [zp_rep] at e1
  have hadd : addAt Q i (Pol.C (a.c k) * X[i]) = Q.set i (Q[i] + Pol.C (a.c k) * X[i]) := by
   unfold addAt; rw [List.getElem?_eq_getElem hiQ]; rfl
  have hcl : (Pol.C (a.c k) * X[i]).len ≤ 64 := Pol.len_le fun j hj => by rw [Pol.c_Cmul, c_ge' (a := X[i]) (n := j) (by omega), Gq.mul_zero]
  have hQ' : ∀ c ∈ addAt Q i (Pol.C (a.c k) * X[i]), c.len ≤ 64 := addAt_lens hQ hcl
  have w4 : IntKind.i64.wrap ((i : Int) + 1) = ((i + 1 : Nat) : Int) := (w64 (x := (i : Int) + 1) (by omega)).trans (by omega)
  have hlt' : (i : Int) < X.length := by omega
  have hpl : (pad (row a)).length = 64 := pad_length _
  have hpk : ∀ h : k < (pad (row a)).length, (pad (row a))[k]'h = rep (a.c k) := fun h => by rw [← cf_lt h, pad_cf (by rw [row_length]; omega), row_cf]
  have hwr := conv_rep (a.c k)
  have hby : spIn (Pol.C (a.c k)) i (X.drop i) Q = spIn (Pol.C (a.c k)) (i + 1) (X.drop (i + 1)) (addAt Q i (Pol.C (a.c k) * X[i])) := by
   rw [List.drop_eq_getElem_cons hlt]; rfl
  rw [hby]
  refine dn_round ?_ (l_sAct0 had (m := m) (v1 := v1) (v2 := v2) ha hX hN hXN hk r (i + 1) (addAt Q i (Pol.C (a.c k) * X[i])) (by omega) (by rw [addAt_length]; exact hq) hQ')
  rw [hadd, skA_set]
  show dn O 0 _ ⟨[_, _, _, _, (7, .d (.sl (.arr 64 .leaf) ((skP X).map arr8))), _, _], _⟩ = some (_, (⟨[_, _, _, _, (7, .d (.sl (.arr 64 .leaf) ((skP X).map arr8))), _, _], _⟩ : St))
  generalize pad (row (Q[i] + Pol.C (a.c k) * X[i])) = P1 at *
  generalize pad (row X[i]) = P2 at *
  generalize pad (row Q[i]) = P3 at *
  generalize (skP X).map arr8 = XD at *
  generalize (skP Q).map arr8 = QD at *
  generalize rep (a.c k) = ck at *
  generalize pad (row a) = Pa at *
  generalize pad (row m) = Pm at *
  simp -implicitDefEqProofs [Z35_L0, dn_cond, hXL, hQL, hlt, hlt', hiN, g1, g2, hk, hpl, hpk, hwr, e1, w4]
end Pe

namespace Pe
open Go Gq
variable {T : Nat → Option Fn} {A : Oracle}
theorem l_sAct0f {O : Oracle} (had : K_sAdd O) {p : Int} [IsP p] {m a : Fp p} {v1 v2 : List Int} (ha : a.len ≤ 64) {N : Nat} {n5 : Int} (hN : N ≤ 1000) (hN1 : 1 ≤ N) {Q : List (Fp p)} (hq : Q.length = N) (hQ : ∀ c ∈ Q, c.len ≤ 64) :
 dn O 0 (.loop Z35_L0) ⟨[(2, .ptr 0 []), (3, .ptr 1 []), (5, (.d (.int .i64 n5))), (6, .sl 2 [] 0 N (some N)), (7, .sl 3 [] 0 1 (some 1)), (8, (.d (.int .i64 0))), (9, (.d (.int .i64 0)))], [.box false (drD p (pad (row m)) v1 v2), .box false (D.arr 64 .leaf (ints .u8 (pad (row a)))), .sl false (.arr 64 .leaf) ((skP Q).map arr8), .sl false (.arr 64 .leaf) [(D.arr 64 .leaf (ints .u8 (pad (row (1 : Fp p)))))]]⟩ =
  some (.exit 2, ⟨[(2, .ptr 0 []), (3, .ptr 1 []), (5, (.d (.int .i64 n5))), (6, .sl 2 [] 0 N (some N)), (7, .sl 3 [] 0 1 (some 1)), (8, (.d (.int .i64 0))), (9, (.d (.int .i64 1))), (27, (.d (.bool false)))], [.box false (drD p (pad (row m)) v1 v2), .box false (D.arr 64 .leaf (ints .u8 (pad (row a)))), .sl false (.arr 64 .leaf) ((skP (spIn (Pol.C (a.c 0)) 0 [1] Q)).map arr8), .sl false (.arr 64 .leaf) [(D.arr 64 .leaf (ints .u8 (pad (row (1 : Fp p)))))]]⟩) := by
 have hiQ : 0 < Q.length := by omega
 have hiN : 0 < N := by omega
 have hq1 := hQ _ (List.getElem_mem hiQ)
 have hQL : ((skP Q).map arr8).length = N := (skA_len Q).trans hq
 have g2 := skA_getE hiQ
 have hr := rep_in (a.c 0)
 have h7 := IsP.le (p := p)
 have e1 := had p (rep (a.c 0)) Q[0] 1 (by omega) (by omega) hq1 (by rw [Pol.len_one]; omega)
 rw [zp_rep] at e1
 have hadd : spIn (Pol.C (a.c 0)) 0 [1] Q = Q.set 0 (Q[0] + Pol.C (a.c 0) * 1) := by
  show addAt Q 0 (Pol.C (a.c 0) * 1) = _
  unfold addAt; rw [List.getElem?_eq_getElem hiQ]; rfl
 have w4 : IntKind.i64.wrap 1 = 1 := w64 (by omega)
 have hpl : (pad (row a)).length = 64 := pad_length _
 have hpk : ∀ h : 0 < (pad (row a)).length, (pad (row a))[0]'h = rep (a.c 0) := fun h => by rw [← cf_lt h, pad_cf (by rw [row_length]; omega), row_cf]
 have hwr := conv_rep (a.c 0)
 rw [hadd, skA_set]
 have stop : ∀ (QD : List D) (P1 : D), dn O 0 (.loop Z35_L0) ⟨[(2, .ptr 0 []), (3, .ptr 1 []), (5, (.d (.int .i64 n5))), (6, .sl 2 [] 0 N (some N)), (7, .sl 3 [] 0 1 (some 1)), (8, (.d (.int .i64 0))), (9, (.d (.int .i64 1)))], [.box false (drD p (pad (row m)) v1 v2), .box false (D.arr 64 .leaf (ints .u8 (pad (row a)))), .sl false (.arr 64 .leaf) QD, .sl false (.arr 64 .leaf) [P1]]⟩ =
  some (.exit 2, ⟨[(2, .ptr 0 []), (3, .ptr 1 []), (5, (.d (.int .i64 n5))), (6, .sl 2 [] 0 N (some N)), (7, .sl 3 [] 0 1 (some 1)), (8, (.d (.int .i64 0))), (9, (.d (.int .i64 1))), (27, (.d (.bool false)))], [.box false (drD p (pad (row m)) v1 v2), .box false (D.arr 64 .leaf (ints .u8 (pad (row a)))), .sl false (.arr 64 .leaf) QD, .sl false (.arr 64 .leaf) [P1]]⟩) := fun QD P1 => by
  refine dn_stop ?_
  generalize pad (row a) = Pa at *
  generalize pad (row m) = Pm at *
  simp -implicitDefEqProofs [Z35_L0, dn_cond]
 refine dn_round ?_ (stop _ _)
 generalize pad (row (Q[0] + Pol.C (a.c 0) * 1)) = P1 at *
 generalize pad (row (1 : Fp p)) = P2 at *
 generalize pad (row Q[0]) = P3 at *
 generalize (skP Q).map arr8 = QD at *
 generalize rep (a.c 0) = ck at *
 generalize pad (row a) = Pa at *
 generalize pad (row m) = Pm at *
 simp -implicitDefEqProofs [Z35_L0, dn_cond, hQL, hiN, g2, hpl, hpk, hwr, e1, w4]
theorem l_sAct1 {O : Oracle} (had : K_sAdd O) (ht : K_sT6 O) (hco : K_sComp O) {p : Int} [IsP p] {m g d a : Fp p} (hm : Fld m) (hg : g.len < m.len) (hd : d.len < m.len) (ha : a.len ≤ 64) {N : Nat} (hN : N + 1 = 2 * a.len) : ∀ (r k : Nat), k + r + 1 = a.len → ∃ X' : V,
 dn O 0 (.loop Z35_L1) ⟨[(2, .ptr 0 []), (3, .ptr 1 []), (5, (.d (.int .i64 ((a.len : Int) - 1)))), (6, .sl 2 [] 0 N (some N)), (7, .d (aD (nwS m (Pol.X % m) g d k))), (8, (.d (.int .i64 k)))], [.box false (drD p (pad (row m)) (pad (row g)) (pad (row d))), .box false (D.arr 64 .leaf (ints .u8 (pad (row a)))), .sl false (.arr 64 .leaf) ((skP (outS m (Pol.X % m) g d a N k)).map arr8), .hole]⟩ =
  some (.exit 0, ⟨[(2, .ptr 0 []), (3, .ptr 1 []), (5, (.d (.int .i64 ((a.len : Int) - 1)))), (6, .sl 2 [] 0 N (some N)), (7, X'), (8, (.d (.int .i64 a.len))), (21, (.d (.bool false)))], [.box false (drD p (pad (row m)) (pad (row g)) (pad (row d))), .box false (D.arr 64 .leaf (ints .u8 (pad (row a)))), .sl false (.arr 64 .leaf) ((skP (outS m (Pol.X % m) g d a N a.len)).map arr8), .hole]⟩)
 | r, k, hk => by
  have h5 := hm.five
  have h0 := hm.mon.2
  have nl := nwS_len h0 (Pol.X % m) g d k
  have nr := nwS_lens hm (Pol.X % m) g d k
  have ol := outS_length m (Pol.X % m) g d a N k
  have or_ := outS_lens hm (Pol.X % m) g d a N k
  have e1 := l_sAct0 (O := O) had (m := m) (v1 := pad (row g)) (v2 := pad (row d)) (n5 := (a.len : Int) - 1) ha (X := nwS m (Pol.X % m) g d k) (fun c hc => by have := nr c hc; omega) (N := N) (k := k) (by omega) (by omega) (by omega) (nwS m (Pol.X % m) g d k).length 0 (outS m (Pol.X % m) g d a N k) (Nat.zero_add _) ol (fun c hc => by have := or_ c hc; omega)
  rw [List.drop_zero, show spIn (Pol.C (a.c k)) 0 (nwS m (Pol.X % m) g d k) (outS m (Pol.X % m) g d a N k) = outS m (Pol.X % m) g d a N (k + 1) from rfl, show ((0 : Nat) : Int) = 0 from rfl] at e1
  have hle : (k : Int) ≤ (a.len : Int) - 1 := by omega
  have w4 : IntKind.i64.wrap ((k : Int) + 1) = ((k + 1 : Nat) : Int) := (w64 (x := (k : Int) + 1) (by omega)).trans (by omega)
  have hXL := nl
  match r with
  | 0 =>
   have hk1 : a.len = k + 1 := by omega
   have hnlt : ¬ (k : Int) < (a.len : Int) - 1 := by omega
   have hnle : ¬ ((k + 1 : Nat) : Int) ≤ (a.len : Int) - 1 := by omega
   refine ⟨.d (aD (nwS m (Pol.X % m) g d k)), ?_⟩
   have stop : ∀ (QD : List D) (XD : D), dn O 0 (.loop Z35_L1) ⟨[(2, .ptr 0 []), (3, .ptr 1 []), (5, (.d (.int .i64 ((a.len : Int) - 1)))), (6, .sl 2 [] 0 N (some N)), (7, .d XD), (8, (.d (.int .i64 (((k + 1 : Nat) : Int)))))], [.box false (drD p (pad (row m)) (pad (row g)) (pad (row d))), .box false (D.arr 64 .leaf (ints .u8 (pad (row a)))), .sl false (.arr 64 .leaf) QD, .hole]⟩ =
    some (.exit 0, ⟨[(2, .ptr 0 []), (3, .ptr 1 []), (5, (.d (.int .i64 ((a.len : Int) - 1)))), (6, .sl 2 [] 0 N (some N)), (7, .d XD), (8, (.d (.int .i64 (((k + 1 : Nat) : Int))))), (21, (.d (.bool false)))], [.box false (drD p (pad (row m)) (pad (row g)) (pad (row d))), .box false (D.arr 64 .leaf (ints .u8 (pad (row a)))), .sl false (.arr 64 .leaf) QD, .hole]⟩) := fun QD XD => by
    refine dn_stop ?_
    generalize ((k + 1 : Nat) : Int) = k1 at *
    generalize (a.len : Int) - 1 = n1 at *
    generalize pad (row a) = Pa at *
    generalize pad (row m) = Pm at *
    simp -implicitDefEqProofs [Z35_L1, dn_cond, hnle]
   rw [show outS m (Pol.X % m) g d a N a.len = outS m (Pol.X % m) g d a N (k + 1) by rw [hk1], show ((a.len : Nat) : Int) = ((k + 1 : Nat) : Int) by rw [hk1]]
   rw [show ((a.len : Nat) : Int) = ((k + 1 : Nat) : Int) by rw [hk1]] at e1 stop hle hnlt hnle
   refine dn_round ?_ (stop _ _)
   generalize (skP (outS m (Pol.X % m) g d a N (k + 1))).map arr8 = Q2 at *
   generalize (skP (outS m (Pol.X % m) g d a N k)).map arr8 = Q1 at *
   generalize aD (nwS m (Pol.X % m) g d k) = XD at *
   generalize ((k + 1 : Nat) : Int) = k1 at *
   generalize pad (row a) = Pa at *
   generalize pad (row m) = Pm at *
   simp -implicitDefEqProofs [Z35_L1, dn_cond, hle, hnlt, e1, w4]
  | r + 1 =>
   have hlt : (k : Int) < (a.len : Int) - 1 := by omega
   obtain ⟨X', ih⟩ := l_sAct1 had ht hco hm hg hd ha hN r (k + 1) (by omega)
   have e2 := ht p m g d h0 (by omega)
   have e3 := hco p m (pad (row g)) (pad (row d)) [Pol.X % m, g, d] (nwS m (Pol.X % m) g d k) h0 (by omega) (fun c hc => by have := mem3 (Pol.len_mod Pol.X h0) hg hd c hc; omega) (fun c hc => by have := nr c hc; omega) (by simp only [List.length_cons, List.length_nil]; omega)
   rw [show cmpS m [Pol.X % m, g, d] (nwS m (Pol.X % m) g d k) = nwS m (Pol.X % m) g d (k + 1) from rfl] at e3
   refine ⟨X', dn_round ?_ ih⟩
   unfold aD at e1 e2 e3 ⊢
   generalize (skP (outS m (Pol.X % m) g d a N (k + 1))).map arr8 = Q2 at *
   generalize (skP (outS m (Pol.X % m) g d a N k)).map arr8 = Q1 at *
   generalize (skP (nwS m (Pol.X % m) g d (k + 1))).map arr8 = X2 at *
   generalize (skP (nwS m (Pol.X % m) g d k)).map arr8 = XD at *
   generalize (skP [Pol.X % m, g, d]).map arr8 = TD at *
   generalize ((k + 1 : Nat) : Int) = k1 at *
   generalize (a.len : Int) - 1 = n1 at *
   generalize pad (row a) = Pa at *
   generalize pad (row m) = Pm at *
   generalize pad (row g) = Pg at *
   generalize pad (row d) = Pd at *
   simp -implicitDefEqProofs [Z35_L1, dn_cond, hle, hlt, e1, e2, e3, w4]
def K_sAction (O : Oracle) : Prop := ∀ (p : Int) [IsP p] (m g d a : Fp p), Fld m → g.len < m.len → d.len < m.len → a.len ≤ 64 → a ≠ 0 → ask O F35 [drD p (pad (row m)) (pad (row g)) (pad (row d)), (D.arr 64 .leaf (ints .u8 (pad (row a))))] = some (aD (outS m (Pol.X % m) g d a (2 * a.len - 1) a.len))
theorem k_sAction (hT : T F35 = some Z35) (hdg : K_sDeg (den T A)) (h1 : K_sOne (den T A)) (had : K_sAdd (den T A)) (ht : K_sT6 (den T A)) (hco : K_sComp (den T A)) : K_sAction (den T A) := by
 intro p ip m g d a hm hg hd ha ha0
 have h5 := hm.five
 have h0 := hm.mon.2
 have hap := Pol.len_pos ha0
 have e1 := hdg p a ha
 have e2 := h1 p
 have hN : (2 * a.len - 1) + 1 = 2 * a.len := by omega
 have e3 := l_sAct0f (O := den T A) had (m := m) (v1 := pad (row g)) (v2 := pad (row d)) (n5 := (a.len : Int) - 1) ha (N := 2 * a.len - 1) (by omega) (by omega) (Q := outS m (Pol.X % m) g d a (2 * a.len - 1) 0) (outS_length _ _ _ _ _ _ _) (fun c hc => by have := outS_lens hm (Pol.X % m) g d a (2 * a.len - 1) 0 c hc; omega)
 rw [show spIn (Pol.C (a.c 0)) 0 [1] (outS m (Pol.X % m) g d a (2 * a.len - 1) 0) = outS m (Pol.X % m) g d a (2 * a.len - 1) 1 from rfl, show outS m (Pol.X % m) g d a (2 * a.len - 1) 0 = List.replicate (2 * a.len - 1) 0 from rfl, skA_zeros] at e3
 have hOL : ((skP (outS m (Pol.X % m) g d a (2 * a.len - 1) a.len)).map arr8).length = 2 * a.len - 1 := by rw [skA_len, outS_length]
 have w1 : IntKind.i64.wrap (2 * ((a.len : Int) - 1)) = 2 * ((a.len : Int) - 1) := w64 (by omega)
 have w2 : IntKind.i64.wrap (2 * ((a.len : Int) - 1) + 1) = ((2 * a.len - 1 : Nat) : Int) := (w64 (by omega)).trans (by omega)
 have hmax : ¬ ((2 * a.len - 1 : Nat) : Int) < 0 := by omega
 have hmul : (2 * a.len - 1) * 64 ≤ 1099511627776 := by omega
 have htk : ((skP (outS m (Pol.X % m) g d a (2 * a.len - 1) a.len)).map arr8).take (2 * a.len - 1) = (skP (outS m (Pol.X % m) g d a (2 * a.len - 1) a.len)).map arr8 := List.take_of_length_le (by omega)
 have hle : (0 : Int) ≤ (a.len : Int) - 1 := by omega
 have w4 : IntKind.i64.wrap 1 = 1 := w64 (by omega)
 by_cases h1' : a.len = 1
 ·have hnlt : ¬ (0 : Int) < (a.len : Int) - 1 := by omega
  have hnle : ¬ (1 : Int) ≤ (a.len : Int) - 1 := by omega
  have e4 : ∀ QD : List D, dn (den T A) 0 (.loop Z35_L1) ⟨[(2, .ptr 0 []), (3, .ptr 1 []), (5, (.d (.int .i64 ((a.len : Int) - 1)))), (6, .sl 2 [] 0 (2 * a.len - 1) (some (2 * a.len - 1))), (7, .sl 3 [] 0 1 (some 1)), (8, (.d (.int .i64 1)))], [.box false (drD p (pad (row m)) (pad (row g)) (pad (row d))), .box false (D.arr 64 .leaf (ints .u8 (pad (row a)))), .sl false (.arr 64 .leaf) QD, .sl false (.arr 64 .leaf) [(D.arr 64 .leaf (ints .u8 (pad (row (1 : Fp p)))))]]⟩ =
   some (.exit 0, ⟨[(2, .ptr 0 []), (3, .ptr 1 []), (5, (.d (.int .i64 ((a.len : Int) - 1)))), (6, .sl 2 [] 0 (2 * a.len - 1) (some (2 * a.len - 1))), (7, .sl 3 [] 0 1 (some 1)), (8, (.d (.int .i64 1))), (21, (.d (.bool false)))], [.box false (drD p (pad (row m)) (pad (row g)) (pad (row d))), .box false (D.arr 64 .leaf (ints .u8 (pad (row a)))), .sl false (.arr 64 .leaf) QD, .sl false (.arr 64 .leaf) [(D.arr 64 .leaf (ints .u8 (pad (row (1 : Fp p)))))]]⟩) := fun QD => by
   refine dn_stop ?_
   generalize (a.len : Int) - 1 = n1 at *
   generalize pad (row a) = Pa at *
   generalize pad (row m) = Pm at *
   generalize pad (row (1 : Fp p)) = P1 at *
   simp -implicitDefEqProofs [Z35_L1, dn_cond, hnle]
  have e5 : dn (den T A) 0 (.loop Z35_L1) ⟨[(2, .ptr 0 []), (3, .ptr 1 []), (5, (.d (.int .i64 ((a.len : Int) - 1)))), (6, .sl 2 [] 0 (2 * a.len - 1) (some (2 * a.len - 1))), (7, .sl 3 [] 0 1 (some 1)), (8, (.d (.int .i64 0)))], [.box false (drD p (pad (row m)) (pad (row g)) (pad (row d))), .box false (D.arr 64 .leaf (ints .u8 (pad (row a)))), .sl false (.arr 64 .leaf) (List.replicate (2 * a.len - 1) (D.arr 64 .leaf (ints .u8 (pad [])))), .sl false (.arr 64 .leaf) [(D.arr 64 .leaf (ints .u8 (pad (row (1 : Fp p)))))]]⟩ =
   some (.exit 0, ⟨[(2, .ptr 0 []), (3, .ptr 1 []), (5, (.d (.int .i64 ((a.len : Int) - 1)))), (6, .sl 2 [] 0 (2 * a.len - 1) (some (2 * a.len - 1))), (7, .sl 3 [] 0 1 (some 1)), (8, (.d (.int .i64 1))), (21, (.d (.bool false)))], [.box false (drD p (pad (row m)) (pad (row g)) (pad (row d))), .box false (D.arr 64 .leaf (ints .u8 (pad (row a)))), .sl false (.arr 64 .leaf) ((skP (outS m (Pol.X % m) g d a (2 * a.len - 1) 1)).map arr8), .sl false (.arr 64 .leaf) [(D.arr 64 .leaf (ints .u8 (pad (row (1 : Fp p)))))]]⟩) := by
   refine dn_round ?_ (e4 _)
   generalize (skP (outS m (Pol.X % m) g d a (2 * a.len - 1) 1)).map arr8 = Q1 at *
   generalize List.replicate (2 * a.len - 1) (D.arr 64 .leaf (ints .u8 (pad []))) = Q0 at *
   generalize 2 * a.len - 1 = N at *
   generalize (a.len : Int) - 1 = n1 at *
   generalize pad (row a) = Pa at *
   generalize pad (row m) = Pm at *
   generalize pad (row (1 : Fp p)) = P1 at *
   simp -implicitDefEqProofs [Z35_L1, dn_cond, hnlt, hle, e3, w4]
  rw [show outS m (Pol.X % m) g d a (2 * a.len - 1) 1 = outS m (Pol.X % m) g d a (2 * a.len - 1) a.len by rw [h1']] at e5
  unfold aD
  refine ask_of hT rfl ?_
  generalize (skP (outS m (Pol.X % m) g d a (2 * a.len - 1) a.len)).map arr8 = Q1 at *
  generalize 2 * a.len - 1 = N at *
  generalize (a.len : Int) - 1 = n1 at *
  generalize pad (row a) = Pa at *
  generalize pad (row m) = Pm at *
  generalize pad (row (1 : Fp p)) = P1 at *
  simp -implicitDefEqProofs [Z35, Z35_B, e1, e2, e5, w1, w2, hmax, hmul, hOL, htk]
 ·have hlt : (0 : Int) < (a.len : Int) - 1 := by omega
  obtain ⟨X', e4⟩ := l_sAct1 (O := den T A) had ht hco hm hg hd ha hN (a.len - 2) 1 (by omega)
  rw [show ((1 : Nat) : Int) = 1 from rfl] at e4
  have f2 := ht p m g d h0 (by omega)
  have f3 := hco p m (pad (row g)) (pad (row d)) [Pol.X % m, g, d] [1] h0 (by omega) (fun c hc => by have := mem3 (Pol.len_mod Pol.X h0) hg hd c hc; omega) (fun c hc => by rw [List.mem_singleton.1 hc, Pol.len_one]; omega) (by simp only [List.length_cons, List.length_nil]; omega)
  rw [show cmpS m [Pol.X % m, g, d] [1] = nwS m (Pol.X % m) g d 1 from rfl, show aD [(1 : Fp p)] = .sl (.arr 64 .leaf) [(D.arr 64 .leaf (ints .u8 (pad (row (1 : Fp p)))))] from rfl] at f3
  unfold aD at e4 f2 f3 ⊢
  have e5 : dn (den T A) 0 (.loop Z35_L1) ⟨[(2, .ptr 0 []), (3, .ptr 1 []), (5, (.d (.int .i64 ((a.len : Int) - 1)))), (6, .sl 2 [] 0 (2 * a.len - 1) (some (2 * a.len - 1))), (7, .sl 3 [] 0 1 (some 1)), (8, (.d (.int .i64 0)))], [.box false (drD p (pad (row m)) (pad (row g)) (pad (row d))), .box false (D.arr 64 .leaf (ints .u8 (pad (row a)))), .sl false (.arr 64 .leaf) (List.replicate (2 * a.len - 1) (D.arr 64 .leaf (ints .u8 (pad [])))), .sl false (.arr 64 .leaf) [(D.arr 64 .leaf (ints .u8 (pad (row (1 : Fp p)))))]]⟩ =
   some (.exit 0, ⟨[(2, .ptr 0 []), (3, .ptr 1 []), (5, (.d (.int .i64 ((a.len : Int) - 1)))), (6, .sl 2 [] 0 (2 * a.len - 1) (some (2 * a.len - 1))), (7, X'), (8, (.d (.int .i64 a.len))), (21, (.d (.bool false)))], [.box false (drD p (pad (row m)) (pad (row g)) (pad (row d))), .box false (D.arr 64 .leaf (ints .u8 (pad (row a)))), .sl false (.arr 64 .leaf) ((skP (outS m (Pol.X % m) g d a (2 * a.len - 1) a.len)).map arr8), .hole]⟩) := by
   refine dn_round ?_ e4
   generalize (skP (outS m (Pol.X % m) g d a (2 * a.len - 1) a.len)).map arr8 = Q2 at *
   generalize (skP (outS m (Pol.X % m) g d a (2 * a.len - 1) 1)).map arr8 = Q1 at *
   generalize (skP (nwS m (Pol.X % m) g d 1)).map arr8 = XD at *
   generalize (skP [Pol.X % m, g, d]).map arr8 = TD at *
   generalize List.replicate (2 * a.len - 1) (D.arr 64 .leaf (ints .u8 (pad []))) = Q0 at *
   generalize 2 * a.len - 1 = N at *
   generalize (a.len : Int) - 1 = n1 at *
   generalize pad (row a) = Pa at *
   generalize pad (row m) = Pm at *
   generalize pad (row g) = Pg at *
   generalize pad (row d) = Pd at *
   generalize pad (row (1 : Fp p)) = P1 at *
   simp -implicitDefEqProofs [Z35_L1, dn_cond, hlt, hle, e3, f2, f3, w4]
  refine ask_of hT rfl ?_
  generalize (skP (outS m (Pol.X % m) g d a (2 * a.len - 1) a.len)).map arr8 = Q1 at *
  generalize 2 * a.len - 1 = N at *
  generalize (a.len : Int) - 1 = n1 at *
  generalize pad (row a) = Pa at *
  generalize pad (row m) = Pm at *
  generalize pad (row g) = Pg at *
  generalize pad (row d) = Pd at *
  generalize pad (row (1 : Fp p)) = P1 at *
  simp -implicitDefEqProofs [Z35, Z35_B, e1, e2, e5, w1, w2, hmax, hmul, hOL, htk]
end Pe



namespace Pe
open Go Gq
variable {T : Nat → Option Fn} {A : Oracle}
section
variable {p : Int}
end
end Pe

namespace Pe
open Go Gq
variable {T : Nat → Option Fn} {A : Oracle}
theorem actN_full {p : Int} [IsP p] {m t0 t1 t2 a : Fp p} (hm : Fld m) (hb : ∀ c ∈ [t0, t1, t2], c.len < m.len) (ht : t2 ≠ 0) (ha : a ≠ 0) : ∀ j, j + 1 ≤ a.len → IsTrim (actN m t0 t1 t2 a a.len (j + 1)) ∧ (actN m t0 t1 t2 a a.len (j + 1)).length = 2 * j + 1
 | 0, _ => by
  have e : prodS m ([] : List (Fp p)) [t0, t1, t2] = [] := by unfold prodS; exact if_pos (.inl rfl)
  refine ⟨isTrim_plus _ _ _, ?_⟩
  show (plusS 1 (prodS m [] [t0, t1, t2]) (termS (Pol.C (a.c (a.len - 1 - 0))) 0)).length = _
  rw [e]
  have hl : Pol.C (a.c (a.len - 1 - 0)) ≠ 0 := fun h => by
   have h1 := Pol.len_C (Pol.ld_ne ha)
   have : Pol.C a.ld = 0 := h
   rw [this, Pol.len_zero] at h1
   cases h1
  have := plus_len_right (k := 1) (X := ([] : List (Fp p))) (isTrim_term hl 0) (fun y => c_one) (by rw [termS_length, List.length_nil]; omega)
  rw [this, termS_length]
 | j + 1, hj => by
  obtain ⟨i1, i2⟩ := actN_full hm hb ht ha j (by omega)
  have htt : IsTrim [t0, t1, t2] := fun n hn => by
   have : n = 2 := by simp at hn; omega
   subst this
   exact ht
  have hp := prodS_len hm i1 htt (actN_lens hm t0 t1 t2 a a.len (j + 1)) hb (by omega) (by simp)
  rw [i2] at hp
  simp only [List.length_cons, List.length_nil] at hp
  refine ⟨isTrim_plus _ _ _, ?_⟩
  show (plusS 1 (prodS m (actN m t0 t1 t2 a a.len (j + 1)) [t0, t1, t2]) (termS (Pol.C (a.c (a.len - 1 - (j + 1)))) 0)).length = _
  rw [plus_len_left (isTrim_prod _ _ _) (by rw [termS_length]; omega)]
  omega
theorem act_eq {p : Int} [IsP p] {m t0 t1 t2 a : Fp p} (hm : Fld m) (hb : ∀ c ∈ [t0, t1, t2], c.len < m.len) (ht : t2 ≠ 0) (ha : a ≠ 0) : outS m t0 t1 t2 a (2 * a.len - 1) a.len = actN m t0 t1 t2 a a.len a.len := by
 have hap := Pol.len_pos ha
 obtain ⟨_, h2⟩ := actN_full hm hb ht ha (a.len - 1) (by omega)
 rw [show a.len - 1 + 1 = a.len by omega] at h2
 refine List.ext_getElem (by rw [outS_length, h2]; omega) fun i h3 h4 => ?_
 rw [cS_lt h3, cS_lt h4, act_out hm hb a (N := 2 * a.len - 1) (by omega)]
def K_sAction0 (O : Oracle) : Prop := ∀ (p : Int) [IsP p] (m g d : Fp p), ask O F35 [drD p (pad (row m)) (pad (row g)) (pad (row d)), (D.arr 64 .leaf (ints .u8 (pad (row (0 : Fp p)))))] = some (.sl (.arr 64 .leaf) [])
theorem k_sAction0 (hT : T F35 = some Z35) (hdg : K_sDeg (den T A)) (h1 : K_sOne (den T A)) : K_sAction0 (den T A) := by
 intro p ip m g d
 have e1 := hdg p 0 (by rw [Pol.len_zero]; omega)
 rw [Pol.len_zero] at e1
 have e2 := h1 p
 have e3 : ∀ (Q P1 : D) (Pm Pg Pd Pa : List Int), dn (den T A) 0 (.loop Z35_L1) ⟨[(2, .ptr 0 []), (3, .ptr 1 []), (5, (.d (.int .i64 (-1)))), (6, .sl 2 [] 0 0 (some 0)), (7, .sl 3 [] 0 1 (some 1)), (8, (.d (.int .i64 0)))], [.box false (drD p Pm Pg Pd), .box false (D.arr 64 .leaf (ints .u8 Pa)), .sl false (.arr 64 .leaf) [], .sl false (.arr 64 .leaf) [P1]]⟩ =
  some (.exit 0, ⟨[(2, .ptr 0 []), (3, .ptr 1 []), (5, (.d (.int .i64 (-1)))), (6, .sl 2 [] 0 0 (some 0)), (7, .sl 3 [] 0 1 (some 1)), (8, (.d (.int .i64 0))), (21, (.d (.bool false)))], [.box false (drD p Pm Pg Pd), .box false (D.arr 64 .leaf (ints .u8 Pa)), .sl false (.arr 64 .leaf) [], .sl false (.arr 64 .leaf) [P1]]⟩) := by
  intro Q P1 Pm Pg Pd Pa
  refine dn_stop ?_
  simp -implicitDefEqProofs [Z35_L1, dn_cond]
 have w1 : IntKind.i64.wrap (-2) = -2 := w64 (by omega)
 have w2 : IntKind.i64.wrap (-1) = -1 := w64 (by omega)
 refine ask_of hT rfl ?_
 generalize pad (row (0 : Fp p)) = Pa at *
 generalize pad (row (1 : Fp p)) = P1 at *
 generalize pad (row m) = Pm at *
 generalize pad (row g) = Pg at *
 generalize pad (row d) = Pd at *
 simp -implicitDefEqProofs [Z35, Z35_B, e1, e2, e3 (.int .i64 0), w1, w2, List.replicate]
open Classical in
noncomputable def daL (n : Int) (u v w a : List Int) : List (List Int) :=
 if h : IsDr n u v w ∧ isPl n a = true then
  haveI : IsP n := h.1.choose
  if (polOf n a).len ≤ 6 then skP (actN (polOf n u) (Pol.X % polOf n u) (polOf n v) (polOf n w) (polOf n a) (polOf n a).len (polOf n a).len) else []
 else []
open Classical in
noncomputable def daC (n : Int) (u v w a : List Int) : Int :=
 if h : IsDr n u v w ∧ isPl n a = true then
  haveI : IsP n := h.1.choose
  if (polOf n a).len ≤ 6 then 0 else 2
 else 1
theorem daL_bad {n : Int} {u v w a : List Int} (h : ¬ (IsDr n u v w ∧ isPl n a = true)) : daL n u v w a = [] ∧ daC n u v w a = 1 := by
 unfold daL daC
 exact ⟨dif_neg h, dif_neg h⟩
theorem daL_good {p : Int} [IsP p] {m g d a : Fp p} (h : IsDr p (pad (row m)) (pad (row g)) (pad (row d))) (hm : m.len ≤ 64) (hg : g.len ≤ 64) (hd : d.len ≤ 64) (ha : a.len ≤ 64) :
 daL p (pad (row m)) (pad (row g)) (pad (row d)) (pad (row a)) = (if a.len ≤ 6 then skP (actN m (Pol.X % m) g d a a.len a.len) else []) ∧ daC p (pad (row m)) (pad (row g)) (pad (row d)) (pad (row a)) = (if a.len ≤ 6 then 0 else 2) := by
 unfold daL daC
 rw [dif_pos ⟨h, isPl_row⟩, dif_pos ⟨h, isPl_row⟩, polOf_pad hm, polOf_pad hg, polOf_pad hd, polOf_pad ha]
 exact ⟨rfl, rfl⟩
theorem daL_ok (n : Int) (u v w : List Int) {a : List Int} (ba : Bytes a) (ga : a.length = 64) : (∀ x ∈ daL n u v w a, x.length = 64) ∧ (daL n u v w a).length ≤ 20 := by
 by_cases h : IsDr n u v w ∧ isPl n a = true
 ·obtain ⟨h1, h2⟩ := h
  have h1' := h1
  obtain ⟨ip, m, g, d, rfl, rfl, rfl, hm, hg, hd, hd0⟩ := h1
  obtain ⟨b, hbl, rfl⟩ := row_of_isPl ba ga h2
  have h5 := hm.five
  rw [(daL_good h1' (by omega) (by omega) (by omega) hbl).1]
  split
  ·refine ⟨fun x hx => by obtain ⟨c, _, rfl⟩ := List.mem_map.1 hx; exact pad_length _, ?_⟩
   have := actN_len m (Pol.X % m) g d b b.len b.len
   unfold skP
   rw [List.length_map]; omega
  ·exact ⟨fun x hx => absurd hx List.not_mem_nil, by simp⟩
 ·rw [(daL_bad h).1]; exact ⟨fun x hx => absurd hx List.not_mem_nil, by simp⟩
theorem codeDr_one1 {n : Int} {u v w a : List Int} (h : ¬ (IsDr n u v w ∧ isPl n a = true)) : codeDr n u v w [a] = 1 := by
 unfold codeDr
 rw [if_neg]
 rintro ⟨h1, h2⟩
 simp at h2
 exact h ⟨h1, h2⟩
theorem codeDr_zero1 {n : Int} {u v w a : List Int} (h1 : IsDr n u v w) (h2 : isPl n a = true) : codeDr n u v w [a] = 0 := by
 unfold codeDr
 rw [if_pos ⟨h1, by simp [h2]⟩]
def K_DrAct (O : Oracle) (F : Nat) : Prop := ∀ (n : Int) (u v w a : List Int), Bytes u → u.length = 64 → Bytes v → v.length = 64 → Bytes w → w.length = 64 → Bytes a → a.length = 64 → ask O F [drD n u v w, (D.arr 64 .leaf (ints .u8 a))] = some (.tup [.sl (.arr 64 .leaf) ((daL n u v w a).map arr8), (D.int .i64 (daC n u v w a))])
theorem k_DrAct (hT : T F4 = some Z4) (hcd : C_drCode (den T A) Fh) (hro : K_rowOf (den T A)) (hdg : C_degree (den T A)) (hac : K_action (den T A)) (hpo : K_polys (den T A)) : K_DrAct (den T A) F4 := by
 intro n u v w a bu gu bv gv bw gw ba ga
 have e1 := hcd n u v w [a] bu gu bv gv bw gw (by intro y hy; simp at hy; subst hy; exact ⟨ga, ba⟩) (by simp)
 rw [show List.map arr8 [a] = [(D.arr 64 .leaf (ints .u8 a))] from rfl] at e1
 by_cases h : IsDr n u v w ∧ isPl n a = true
 ·obtain ⟨h1, h2⟩ := h
  rw [codeDr_zero1 h1 h2] at e1
  have h1' := h1
  obtain ⟨ip, m, g, d, rfl, rfl, rfl, hm, hg, hd, hd0⟩ := h1
  obtain ⟨b, hbl, rfl⟩ := row_of_isPl ba ga h2
  have h5 := hm.five
  obtain ⟨q1, q2⟩ := daL_good h1' (by omega) (by omega) (by omega) hbl
  rw [q1, q2]
  have e2 := hro n b hbl
  have e3 := hdg (row b) (by rw [row_length]; omega)
  rw [row_length] at e3
  by_cases h6 : b.len ≤ 6
  ·rw [if_pos h6, if_pos h6]
   have hle : ¬ 5 < (b.len : Int) - 1 := by omega
   have e4 := hac n m g d b hm hg hd hbl
   have hl := actN_len m (Pol.X % m) g d b b.len b.len
   have e5 := hpo n (actN m (Pol.X % m) g d b b.len b.len) (by omega) (fun x hx => by have := actN_lens hm _ _ _ _ _ _ x hx; omega)
   rw [map_padD]
   rw [show skD (actN m (Pol.X % m) g d b b.len b.len) = .sl .leaf ((actN m (Pol.X % m) g d b b.len b.len).map rowD) from rfl] at e4
   refine ask_of hT rfl ?_
   generalize (actN m (Pol.X % m) g d b b.len b.len).map padD = D1 at *
   generalize (actN m (Pol.X % m) g d b b.len b.len).map rowD = D2 at *
   generalize (b.len : Int) - 1 = k1 at *
   generalize row b = Rb at *
   generalize pad (row b) = Pb at *
   generalize pad (row m) = Pm at *
   generalize pad (row g) = Pg at *
   generalize pad (row d) = Pd at *
   simp -implicitDefEqProofs [Z4, Z4_B, dn_cond, e1, e2, e3, hle, e4, e5]
  ·rw [if_neg h6, if_neg h6]
   have hle : 5 < (b.len : Int) - 1 := by omega
   refine ask_of hT rfl ?_
   generalize (b.len : Int) - 1 = k1 at *
   generalize row b = Rb at *
   generalize pad (row b) = Pb at *
   generalize pad (row m) = Pm at *
   generalize pad (row g) = Pg at *
   generalize pad (row d) = Pd at *
   simp -implicitDefEqProofs [Z4, Z4_B, dn_cond, e1, e2, e3, hle]
 ·rw [codeDr_one1 h] at e1
  obtain ⟨q1, q2⟩ := daL_bad h
  rw [q1, q2]
  refine ask_of hT rfl ?_
  simp -implicitDefEqProofs [Z4, Z4_B, dn_cond, e1]
theorem k_sDrAct (hT : T F2k = some Z2k) (hcd : C_drCode (den T A) F36) (hdg : K_sDeg (den T A)) (hac : K_sAction (den T A)) (hac0 : K_sAction0 (den T A)) : K_DrAct (den T A) F2k := by
 intro n u v w a bu gu bv gv bw gw ba ga
 have e1 := hcd n u v w [a] bu gu bv gv bw gw (by intro y hy; simp at hy; subst hy; exact ⟨ga, ba⟩) (by simp)
 rw [show List.map arr8 [a] = [(D.arr 64 .leaf (ints .u8 a))] from rfl] at e1
 by_cases h : IsDr n u v w ∧ isPl n a = true
 ·obtain ⟨h1, h2⟩ := h
  rw [codeDr_zero1 h1 h2] at e1
  have h1' := h1
  obtain ⟨ip, m, g, d, rfl, rfl, rfl, hm, hg, hd, hd0⟩ := h1
  obtain ⟨b, hbl, rfl⟩ := row_of_isPl ba ga h2
  have h5 := hm.five
  have h0 := hm.mon.2
  obtain ⟨q1, q2⟩ := daL_good h1' (by omega) (by omega) (by omega) hbl
  rw [q1, q2]
  have e2 := hdg n b hbl
  by_cases h6 : b.len ≤ 6
  ·rw [if_pos h6, if_pos h6]
   have hle : ¬ 5 < (b.len : Int) - 1 := by omega
   have e3 : ask (den T A) F35 [drD n (pad (row m)) (pad (row g)) (pad (row d)), (D.arr 64 .leaf (ints .u8 (pad (row b))))] = some (.sl (.arr 64 .leaf) ((skP (actN m (Pol.X % m) g d b b.len b.len)).map arr8)) := by
    by_cases hb0 : b = 0
    ·rw [hb0, hac0 n m g d, Pol.len_zero]; rfl
    ·rw [hac n m g d b hm hg hd hbl hb0, act_eq hm (mem3 (Pol.len_mod _ h0) hg hd) hd0 hb0]
   refine ask_of hT rfl ?_
   generalize (skP (actN m (Pol.X % m) g d b b.len b.len)).map arr8 = D1 at *
   generalize (b.len : Int) - 1 = k1 at *
   generalize pad (row b) = Pb at *
   generalize pad (row m) = Pm at *
   generalize pad (row g) = Pg at *
   generalize pad (row d) = Pd at *
   simp -implicitDefEqProofs [Z2k, Z2k_B, dn_cond, e1, e2, hle, e3]
  ·rw [if_neg h6, if_neg h6]
   have hle : 5 < (b.len : Int) - 1 := by omega
   refine ask_of hT rfl ?_
   generalize (b.len : Int) - 1 = k1 at *
   generalize pad (row b) = Pb at *
   generalize pad (row m) = Pm at *
   generalize pad (row g) = Pg at *
   generalize pad (row d) = Pd at *
   simp -implicitDefEqProofs [Z2k, Z2k_B, dn_cond, e1, e2, hle]
 ·rw [codeDr_one1 h] at e1
  obtain ⟨q1, q2⟩ := daL_bad h
  rw [q1, q2]
  refine ask_of hT rfl ?_
  simp -implicitDefEqProofs [Z2k, Z2k_B, dn_cond, e1]
def H_DrAct (O : Oracle) : Prop := ∀ (n : Int) (u v w a : List Int), Bytes u → u.length = 64 → Bytes v → v.length = 64 → Bytes w → w.length = 64 → Bytes a → a.length = 64 → ∃ cp : Option Nat,
 O F5 [.d (drD n u v w), .d (D.arr 64 .leaf (ints .u8 a))] [] = some (.tup [.sl 0 [] 0 (daL n u v w a).length cp, (.d (.int .i64 (daC n u v w a)))], [], [.sl false (.arr 64 .leaf) ((daL n u v w a).map arr8)])
theorem h_DrAct (hT : T F5 = some Z5_w) (hcd : C_drCode (den T A) Fh) (hro : K_rowOf (den T A)) (hdg : C_degree (den T A)) (hac : K_action (den T A)) (hpo : H_polys (den T A)) : H_DrAct (den T A) := by
 intro n u v w a bu gu bv gv bw gw ba ga
 have e1 := hcd n u v w [a] bu gu bv gv bw gw (by intro y hy; simp at hy; subst hy; exact ⟨ga, ba⟩) (by simp)
 rw [show List.map arr8 [a] = [(D.arr 64 .leaf (ints .u8 a))] from rfl] at e1
 by_cases h : IsDr n u v w ∧ isPl n a = true
 ·obtain ⟨h1, h2⟩ := h
  rw [codeDr_zero1 h1 h2] at e1
  have h1' := h1
  obtain ⟨ip, m, g, d, rfl, rfl, rfl, hm, hg, hd, hd0⟩ := h1
  obtain ⟨b, hbl, rfl⟩ := row_of_isPl ba ga h2
  have h5 := hm.five
  obtain ⟨q1, q2⟩ := daL_good h1' (by omega) (by omega) (by omega) hbl
  rw [q1, q2]
  have e2 := hro n b hbl
  have e3 := hdg (row b) (by rw [row_length]; omega)
  rw [row_length] at e3
  by_cases h6 : b.len ≤ 6
  ·rw [if_pos h6, if_pos h6]
   have hle : ¬ 5 < (b.len : Int) - 1 := by omega
   have e4 := hac n m g d b hm hg hd hbl
   have hl := actN_len m (Pol.X % m) g d b b.len b.len
   obtain ⟨cp, e5⟩ := hpo n (actN m (Pol.X % m) g d b b.len b.len) (by omega) (fun x hx => by have := actN_lens hm _ _ _ _ _ _ x hx; omega)
   rw [map_padD, show (skP (actN m (Pol.X % m) g d b b.len b.len)).length = (actN m (Pol.X % m) g d b b.len b.len).length from List.length_map ..]
   rw [show skD (actN m (Pol.X % m) g d b b.len b.len) = .sl .leaf ((actN m (Pol.X % m) g d b b.len b.len).map rowD) from rfl] at e4
   refine ⟨cp, den_of hT rfl ?_⟩
   generalize (actN m (Pol.X % m) g d b b.len b.len).map padD = D1 at *
   generalize (actN m (Pol.X % m) g d b b.len b.len).map rowD = D2 at *
   generalize (actN m (Pol.X % m) g d b b.len b.len).length = nl at *
   generalize (b.len : Int) - 1 = k1 at *
   generalize row b = Rb at *
   generalize pad (row b) = Pb at *
   generalize pad (row m) = Pm at *
   generalize pad (row g) = Pg at *
   generalize pad (row d) = Pd at *
   simp -implicitDefEqProofs [Z5_w, Z5_w_B, dn_cond, e1, e2, e3, hle, e4, e5, List.idxOf, List.findIdx, List.findIdx.go]
  ·rw [if_neg h6, if_neg h6]
   have hle : 5 < (b.len : Int) - 1 := by omega
   refine ⟨some 0, den_of hT rfl ?_⟩
   generalize (b.len : Int) - 1 = k1 at *
   generalize row b = Rb at *
   generalize pad (row b) = Pb at *
   generalize pad (row m) = Pm at *
   generalize pad (row g) = Pg at *
   generalize pad (row d) = Pd at *
   simp -implicitDefEqProofs [Z5_w, Z5_w_B, dn_cond, e1, e2, e3, hle, List.idxOf, List.findIdx, List.findIdx.go]
 ·rw [codeDr_one1 h] at e1
  obtain ⟨q1, q2⟩ := daL_bad h
  rw [q1, q2]
  refine ⟨some 0, den_of hT rfl ?_⟩
  simp -implicitDefEqProofs [Z5_w, Z5_w_B, dn_cond, e1, List.idxOf, List.findIdx, List.findIdx.go]
def L_DrinfeldAction (O : Oracle) : Prop := ∀ (n : Int) (u v w : List Int), (Bytes u ∧ u.length = 64) → (Bytes v ∧ v.length = 64) → (Bytes w ∧ w.length = 64) → ∀ (a : List Int), Bytes a → a.length = 64 → ask O F1p [drD n u v w, (D.arr 64 .leaf (ints .u8 a))] = some (D.bool true)
theorem law_DrinfeldAction (hT : T F1p = some Z1p) (hp : C_toPoly (den T A)) (hd : C_toDr (den T A)) (he : C_eqPs (den T A)) (hmk : H_markPs (den T A)) (hhd : C_heldPs (den T A)) (hi : K_DrAct (den T A) F4) (hih : H_DrAct (den T A)) (hs : K_DrAct (den T A) F2k) : L_DrinfeldAction (den T A) := by
 intro n u v w ⟨bu, gu⟩ ⟨bv, gv⟩ ⟨bw, gw⟩ a ba ga
 have e1 := hp a ba ga
 have e2 := hd n u v w bu gu bv gv bw gw
 have e3 := hi n u v w a bu gu bv gv bw gw ba ga
 have e4 := hs n u v w a bu gu bv gv bw gw ba ga
 obtain ⟨cp, e5⟩ := hih n u v w a bu gu bv gv bw gw ba ga
 obtain ⟨s1, s2⟩ := daL_ok n u v w ba ga
 have e7 := he (daL n u v w a) s1 (by omega)
 have e9 := hmk (daL n u v w a) cp 1 (by omega) (by omega) s1
 have e10 := hhd 1 (daL n u v w a).length (by omega) (by omega)
 have hRL : ((daL n u v w a).map arr8).length = (daL n u v w a).length := List.length_map ..
 have htr : ((daL n u v w a).map arr8).take (daL n u v w a).length = (daL n u v w a).map arr8 := List.take_of_length_le (by omega)
 have hNL : ((mrows 1 (daL n u v w a).length).map arr8).length = (daL n u v w a).length := by rw [List.length_map, mrows_length]
 have htn : ((mrows 1 (daL n u v w a).length).map arr8).take (daL n u v w a).length = (mrows 1 (daL n u v w a).length).map arr8 := List.take_of_length_le (by omega)
 have hn3 : ¬ ((1 + 64 * (daL n u v w a).length : Nat) : Int) < 0 := by omega
 have e01 : ((1 : Nat) : Int) = 1 := rfl
 rw [e01] at e9 e10
 refine ask_of hT rfl ?_
 generalize ((1 + 64 * (daL n u v w a).length : Nat) : Int) = k2 at *
 generalize (mrows 1 (daL n u v w a).length).map arr8 = ND at *
 generalize (daL n u v w a).map arr8 = SD at *
 generalize (daL n u v w a).length = sl at *
 generalize daC n u v w a = cc at *
 simp -implicitDefEqProofs [Z1p, Z1p_B, dn_cond, e1, e2, e3, e4, e5, e7, e9, e10, hRL, htr, hNL, htn, hn3, List.replicate, List.idxOf, List.findIdx, List.findIdx.go]
end Pe

namespace Pe
open Go
abbrev tyD : Ty := .st [tyN, tyP, tyP, tyP]
theorem has_D {d : D} (h : tyD.has d) : ∃ (n : Int) (u v w : List Int), d = drD n u v w ∧ (Bytes u ∧ u.length = 64) ∧ (Bytes v ∧ v.length = 64) ∧ (Bytes w ∧ w.length = 64) := by
 cases d <;> simp only [Ty.has] at h
 obtain ⟨rfl, h⟩ := h
 obtain ⟨x0, r0, rfl, h0, h⟩ := hasAll_cons h
 obtain ⟨x1, r1, rfl, h1, h⟩ := hasAll_cons h
 obtain ⟨x2, r2, rfl, h2, h⟩ := hasAll_cons h
 obtain ⟨x3, r3, rfl, h3, h⟩ := hasAll_cons h
 obtain rfl := hasAll_nil h
 obtain ⟨n, rfl, -, -⟩ := has_N h0
 obtain ⟨u, rfl, b1, g1⟩ := has_P h1
 obtain ⟨v, rfl, b2, g2⟩ := has_P h2
 obtain ⟨w, rfl, b3, g3⟩ := has_P h3
 exact ⟨n, u, v, w, rfl, ⟨b1, g1⟩, ⟨b2, g2⟩, ⟨b3, g3⟩⟩
end Pe
