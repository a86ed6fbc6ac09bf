/-
  A part of the proof: an evaluator for a small form of the code, its soundness, and contracts of functions over it.
-/
import Derived.Test.YtbangpnofnhhnaaW1
import Derived.Test.YtbangpnofnhhnaaW2
import Derived.Test.YtbangpnofnhhnaaW3
import Derived.Test.YtbangpnofnhhnaaW4
import Derived.Test.YtbangpnofnhhnaaW5

namespace Pe
open Go Gq
variable {T : Nat → Option Fn} {A : Oracle}
section
variable {α : Type}
def updG (f : Nat → α) : Nat → Nat → List α → List α
  | 0, _, l => l
  | m + 1, i, l => updG f m (i + 1) (l.set i (f i))
theorem updG_get (f : Nat → α) : ∀ (m i : Nat) (l : List α) (j : Nat), (updG f m i l)[j]? = if i ≤ j ∧ j < i + m ∧ j < l.length then some (f j) else l[j]?
  | 0, i, l, j => by rw [updG, if_neg (by omega)]
  | m + 1, i, l, j => by
    rw [updG, updG_get f m, List.length_set]
    by_cases h1 : i + 1 ≤ j ∧ j < i + 1 + m ∧ j < l.length
    · rw [if_pos h1, if_pos (by omega)]
    · rw [if_neg h1]
      by_cases h2 : j = i
      · subst h2
        by_cases h3 : j < l.length
        · rw [if_pos (by omega), List.getElem?_set_self h3]
        · rw [if_neg (by omega), List.getElem?_eq_none (by simpa using h3), List.getElem?_eq_none (by omega)]
      · rw [List.getElem?_set_ne (Ne.symm h2), if_neg (by omega)]
theorem updG_all (f : Nat → α) (n : Nat) (l : List α) (hl : l.length = n) : updG f n 0 l = (List.range n).map f := by
  apply List.ext_getElem?
  intro j
  rw [updG_get, List.getElem?_map]
  by_cases hj : j < n
  · rw [if_pos (by omega), List.getElem?_range hj]; rfl
  · rw [if_neg (by omega), List.getElem?_eq_none (by omega), List.getElem?_eq_none (by simpa using hj)]; rfl
end
def brow (b : Nat) : List Int := (List.range 64).map fun j => mk8 (b + j)
theorem brow_length (b : Nat) : (brow b).length = 64 := by unfold brow; rw [List.length_map, List.length_range]
def dmark (s i : Nat) : Dr4 := (((s + 193 * i : Nat) : Int), brow (s + 193 * i + 1), brow (s + 193 * i + 65), brow (s + 193 * i + 129))
def dmarks (s n : Nat) : List Dr4 := (List.range n).map (dmark s)
theorem dmarks_length (s n : Nat) : (dmarks s n).length = n := by unfold dmarks; rw [List.length_map, List.length_range]
def Sh4 (q : Dr4) : Prop := q.2.1.length = 64 ∧ q.2.2.1.length = 64 ∧ q.2.2.2.length = 64
theorem l_dmark1 {O : Oracle} {n b i : Nat} {cp : Option Nat} {LR : List D} {x : Int} {u v w : List Int} (hn : n < 100000) (hb : b < 1000000000000) (hi : i < n) (hLR : LR.length = n) : ∀ (r j : Nat) (cur : List Int), j + r = 64 → cur.length = 64 →
    dn O 1 (.loop ir_laws_markDrinfeldS_L0) ⟨[(0, .sl 0 [] 0 n cp), (1, (.d (.int .i64 (((b + j : Nat) : Int))))), (5, (.d (.int .i64 i))), (6, (.d (.int .i64 j)))], [.sl false dqSh (LR.set i (drE (x, cur, v, w)))]⟩ =
      some (.exit 2, ⟨[(0, .sl 0 [] 0 n cp), (1, (.d (.int .i64 (((b + 64 : Nat) : Int))))), (5, (.d (.int .i64 i))), (6, (.d (.int .i64 64))), (23, (.d (.bool false)))], [.sl false dqSh (LR.set i (drE (x, upd (fun j => mk8 (b + j)) r j cur, v, w)))]⟩)
  | 0, j, cur, hj, hc => by
    have : j = 64 := by omega
    subst this
    refine dn_stop ?_
    show _ = some (_, (⟨_, [.sl false dqSh (LR.set i (drE (x, cur, v, w)))]⟩ : St))
    generalize LR.set i (drE (x, cur, v, w)) = LQ at *
    generalize ((b + 64 : Nat) : Int) = k at *
    simp -implicitDefEqProofs [ir_laws_markDrinfeldS_L0, dn_cond]
  | r + 1, j, cur, hj, hc => by
    have hj64 : j < 64 := by omega
    have hj64' : (j : Int) < 64 := by omega
    have w1 := wrap8 (b + j)
    have w2 : IntKind.i64.wrap (((b + j : Nat) : Int) + 1) = ((b + (j + 1) : Nat) : Int) := (w64 (x := ((b + j : Nat) : Int) + 1) (by omega)).trans (by omega)
    have w4 : IntKind.i64.wrap ((j : Int) + 1) = ((j + 1 : Nat) : Int) := (w64 (x := (j : Int) + 1) (by omega)).trans (by omega)
    have hcur : cur[j]? = some (cf cur j) := by rw [List.getElem?_eq_getElem (by omega), cf_lt]
    refine dn_round ?_ (l_dmark1 (u := u) (v := v) (w := w) hn hb hi hLR r (j + 1) (cur.set j (mk8 (b + j))) (by omega) (by rw [List.length_set]; exact hc))
    generalize mk8 (b + j) = mv at *
    generalize ((b + j : Nat) : Int) = k at *
    generalize ((b + (j + 1) : Nat) : Int) = k2 at *
    simp -implicitDefEqProofs [ir_laws_markDrinfeldS_L0, dn_cond, hj64, hj64', hi, hLR, hcur, w1, w2, w4]
theorem l_dmark2 {O : Oracle} {n b i : Nat} {cp : Option Nat} {LR : List D} {x : Int} {u v w : List Int} (hn : n < 100000) (hb : b < 1000000000000) (hi : i < n) (hLR : LR.length = n) : ∀ (r j : Nat) (cur : List Int), j + r = 64 → cur.length = 64 →
    dn O 1 (.loop ir_laws_markDrinfeldS_L1) ⟨[(0, .sl 0 [] 0 n cp), (1, (.d (.int .i64 (((b + j : Nat) : Int))))), (5, (.d (.int .i64 i))), (7, (.d (.int .i64 j)))], [.sl false dqSh (LR.set i (drE (x, u, cur, w)))]⟩ =
      some (.exit 4, ⟨[(0, .sl 0 [] 0 n cp), (1, (.d (.int .i64 (((b + 64 : Nat) : Int))))), (5, (.d (.int .i64 i))), (7, (.d (.int .i64 64))), (37, (.d (.bool false)))], [.sl false dqSh (LR.set i (drE (x, u, upd (fun j => mk8 (b + j)) r j cur, w)))]⟩)
  | 0, j, cur, hj, hc => by
    have : j = 64 := by omega
    subst this
    refine dn_stop ?_
    show _ = some (_, (⟨_, [.sl false dqSh (LR.set i (drE (x, u, cur, w)))]⟩ : St))
    generalize LR.set i (drE (x, u, cur, w)) = LQ at *
    generalize ((b + 64 : Nat) : Int) = k at *
    simp -implicitDefEqProofs [ir_laws_markDrinfeldS_L1, dn_cond]
  | r + 1, j, cur, hj, hc => by
    have hj64 : j < 64 := by omega
    have hj64' : (j : Int) < 64 := by omega
    have w1 := wrap8 (b + j)
    have w2 : IntKind.i64.wrap (((b + j : Nat) : Int) + 1) = ((b + (j + 1) : Nat) : Int) := (w64 (x := ((b + j : Nat) : Int) + 1) (by omega)).trans (by omega)
    have w4 : IntKind.i64.wrap ((j : Int) + 1) = ((j + 1 : Nat) : Int) := (w64 (x := (j : Int) + 1) (by omega)).trans (by omega)
    have hcur : cur[j]? = some (cf cur j) := by rw [List.getElem?_eq_getElem (by omega), cf_lt]
    refine dn_round ?_ (l_dmark2 (u := u) (v := v) (w := w) hn hb hi hLR r (j + 1) (cur.set j (mk8 (b + j))) (by omega) (by rw [List.length_set]; exact hc))
    generalize mk8 (b + j) = mv at *
    generalize ((b + j : Nat) : Int) = k at *
    generalize ((b + (j + 1) : Nat) : Int) = k2 at *
    simp -implicitDefEqProofs [ir_laws_markDrinfeldS_L1, dn_cond, hj64, hj64', hi, hLR, hcur, w1, w2, w4]
theorem l_dmark3 {O : Oracle} {n b i : Nat} {cp : Option Nat} {LR : List D} {x : Int} {u v w : List Int} (hn : n < 100000) (hb : b < 1000000000000) (hi : i < n) (hLR : LR.length = n) : ∀ (r j : Nat) (cur : List Int), j + r = 64 → cur.length = 64 →
    dn O 1 (.loop ir_laws_markDrinfeldS_L2) ⟨[(0, .sl 0 [] 0 n cp), (1, (.d (.int .i64 (((b + j : Nat) : Int))))), (5, (.d (.int .i64 i))), (8, (.d (.int .i64 j)))], [.sl false dqSh (LR.set i (drE (x, u, v, cur)))]⟩ =
      some (.exit 6, ⟨[(0, .sl 0 [] 0 n cp), (1, (.d (.int .i64 (((b + 64 : Nat) : Int))))), (5, (.d (.int .i64 i))), (8, (.d (.int .i64 64))), (51, (.d (.bool false)))], [.sl false dqSh (LR.set i (drE (x, u, v, upd (fun j => mk8 (b + j)) r j cur)))]⟩)
  | 0, j, cur, hj, hc => by
    have : j = 64 := by omega
    subst this
    refine dn_stop ?_
    show _ = some (_, (⟨_, [.sl false dqSh (LR.set i (drE (x, u, v, cur)))]⟩ : St))
    generalize LR.set i (drE (x, u, v, cur)) = LQ at *
    generalize ((b + 64 : Nat) : Int) = k at *
    simp -implicitDefEqProofs [ir_laws_markDrinfeldS_L2, dn_cond]
  | r + 1, j, cur, hj, hc => by
    have hj64 : j < 64 := by omega
    have hj64' : (j : Int) < 64 := by omega
    have w1 := wrap8 (b + j)
    have w2 : IntKind.i64.wrap (((b + j : Nat) : Int) + 1) = ((b + (j + 1) : Nat) : Int) := (w64 (x := ((b + j : Nat) : Int) + 1) (by omega)).trans (by omega)
    have w4 : IntKind.i64.wrap ((j : Int) + 1) = ((j + 1 : Nat) : Int) := (w64 (x := (j : Int) + 1) (by omega)).trans (by omega)
    have hcur : cur[j]? = some (cf cur j) := by rw [List.getElem?_eq_getElem (by omega), cf_lt]
    refine dn_round ?_ (l_dmark3 (u := u) (v := v) (w := w) hn hb hi hLR r (j + 1) (cur.set j (mk8 (b + j))) (by omega) (by rw [List.length_set]; exact hc))
    generalize mk8 (b + j) = mv at *
    generalize ((b + j : Nat) : Int) = k at *
    generalize ((b + (j + 1) : Nat) : Int) = k2 at *
    simp -implicitDefEqProofs [ir_laws_markDrinfeldS_L2, dn_cond, hj64, hj64', hi, hLR, hcur, w1, w2, w4]
theorem l_dmark {O : Oracle} {n s : Nat} {cp : Option Nat} (hn : n < 100000) (hs : s < 100000000000) : ∀ (r i : Nat) (L : List Dr4), i + r = n → L.length = n → (∀ q ∈ L, Sh4 q) →
    dn O 1 (.loop ir_laws_markDrinfeldS_L3) ⟨[(0, .sl 0 [] 0 n cp), (1, (.d (.int .i64 (((s + 193 * i : Nat) : Int))))), (5, (.d (.int .i64 i)))], [.sl false dqSh (L.map drE)]⟩ =
      some (.exit 0, ⟨[(0, .sl 0 [] 0 n cp), (1, (.d (.int .i64 (((s + 193 * n : Nat) : Int))))), (5, (.d (.int .i64 n))), (12, (.d (.bool false)))], [.sl false dqSh ((updG (dmark s) r i L).map drE)]⟩)
  | 0, i, L, hi, hL, h4 => by
    obtain rfl : i = n := by omega
    refine dn_stop ?_
    show _ = some (_, (⟨_, [.sl false dqSh (L.map drE)]⟩ : St))
    generalize L.map drE = LQ at *
    generalize ((s + 193 * i : Nat) : Int) = k at *
    simp -implicitDefEqProofs [ir_laws_markDrinfeldS_L3, dn_cond]
  | r + 1, i, L, hi, hL, h4 => by
    have hlt : i < n := by omega
    have hltL : i < L.length := by omega
    have hLD : (L.map drE).length = n := by rw [List.length_map]; exact hL
    obtain ⟨a1, a2, a3⟩ := h4 _ (List.getElem_mem hltL)
    have w4 : IntKind.i64.wrap ((i : Int) + 1) = ((i + 1 : Nat) : Int) := (w64 (x := (i : Int) + 1) (by omega)).trans (by omega)
    have w5 : IntKind.i64.wrap (((s + 193 * i : Nat) : Int) + 1) = ((s + 193 * i + 1 : Nat) : Int) := (w64 (x := ((s + 193 * i : Nat) : Int) + 1) (by omega)).trans (by omega)
    have e1 := l_dmark1 (O := O) (cp := cp) (b := s + 193 * i + 1) (x := ((s + 193 * i : Nat) : Int)) (u := L[i].2.1) (v := L[i].2.2.1) (w := L[i].2.2.2) hn (by omega) hlt hLD 64 0 L[i].2.1 rfl a1
    have e2 := l_dmark2 (O := O) (cp := cp) (b := s + 193 * i + 65) (x := ((s + 193 * i : Nat) : Int)) (u := brow (s + 193 * i + 1)) (v := L[i].2.2.1) (w := L[i].2.2.2) hn (by omega) hlt hLD 64 0 L[i].2.2.1 rfl a2
    have e3 := l_dmark3 (O := O) (cp := cp) (b := s + 193 * i + 129) (x := ((s + 193 * i : Nat) : Int)) (u := brow (s + 193 * i + 1)) (v := brow (s + 193 * i + 65)) (w := L[i].2.2.2) hn (by omega) hlt hLD 64 0 L[i].2.2.2 rfl a3
    have e00 : ((0 : Nat) : Int) = 0 := rfl
    rw [upd_all _ _ _ a1, Nat.add_zero, e00, show (List.range 64).map (fun j => mk8 (s + 193 * i + 1 + j)) = brow (s + 193 * i + 1) from rfl, show s + 193 * i + 1 + 64 = s + 193 * i + 65 by omega] at e1
    rw [upd_all _ _ _ a2, Nat.add_zero, e00, show (List.range 64).map (fun j => mk8 (s + 193 * i + 65 + j)) = brow (s + 193 * i + 65) from rfl, show s + 193 * i + 65 + 64 = s + 193 * i + 129 by omega] at e2
    rw [upd_all _ _ _ a3, Nat.add_zero, e00, show (List.range 64).map (fun j => mk8 (s + 193 * i + 129 + j)) = brow (s + 193 * i + 129) from rfl, show s + 193 * i + 129 + 64 = s + 193 * (i + 1) by omega] at e3
    have hset : (L.set i (dmark s i)).map drE = (L.map drE).set i (drE (((s + 193 * i : Nat) : Int), brow (s + 193 * i + 1), brow (s + 193 * i + 65), brow (s + 193 * i + 129))) := List.map_set
    have ih := l_dmark (O := O) (cp := cp) hn hs r (i + 1) (L.set i (dmark s i)) (by omega) (by rw [List.length_set]; exact hL) (fun q hq => by
      rcases List.mem_or_eq_of_mem_set hq with h1 | rfl
      · exact h4 q h1
      · exact ⟨brow_length _, brow_length _, brow_length _⟩)
    rw [hset] at ih
    refine dn_round ?_ ih
    have hli : (i : Int) < n := by omega
    have hx : ∀ h : i < (L.map drE).length, (L.map drE)[i]'h = .st [.leaf, .arr 64 .leaf, .arr 64 .leaf, .arr 64 .leaf] [(D.int .i64 (L[i].1)), (D.arr 64 .leaf (ints .u8 (L[i].2.1))), (D.arr 64 .leaf (ints .u8 (L[i].2.2.1))), (D.arr 64 .leaf (ints .u8 (L[i].2.2.2)))] := fun h => by rw [List.getElem_map]
    generalize L[i].1 = q1 at *
    generalize L[i].2.1 = q2 at *
    generalize L[i].2.2.1 = q3 at *
    generalize L[i].2.2.2 = q4 at *
    generalize brow (s + 193 * i + 1) = b1 at *
    generalize brow (s + 193 * i + 65) = b2 at *
    generalize brow (s + 193 * i + 129) = b3 at *
    generalize ((s + 193 * i : Nat) : Int) = k at *
    generalize ((s + 193 * i + 1 : Nat) : Int) = k1 at *
    generalize ((s + 193 * i + 65 : Nat) : Int) = k2 at *
    generalize ((s + 193 * i + 129 : Nat) : Int) = k3 at *
    generalize ((s + 193 * (i + 1) : Nat) : Int) = k4 at *
    generalize L.map drE = LQ at *
    simp -implicitDefEqProofs [ir_laws_markDrinfeldS_L3, dn_cond, hli, hlt, hLD, hx, e1, e2, e3, w4, w5]
def H_markDs (O : Oracle) : Prop := ∀ (L : List Dr4) (cp : Option Nat) (s : Nat), L.length < 100000 → s < 100000000000 → (∀ q ∈ L, Sh4 q) →
  O F_laws_markDrinfeldS [.sl 0 [] 0 L.length cp, (.d (.int .i64 s))] [.sl false dqSh (L.map drE)] = some ((.d (.int .i64 (((s + 193 * L.length : Nat) : Int)))), [.sl false dqSh ((dmarks s L.length).map drE)], [])
theorem h_markDs (hT : T F_laws_markDrinfeldS = some ir_laws_markDrinfeldS) : H_markDs (den T A) := by
  intro L cp s hl hs h4
  have e := l_dmark (O := den T A) (cp := cp) hl hs L.length 0 L (Nat.zero_add _) rfl h4
  have e00 : ((0 : Nat) : Int) = 0 := rfl
  rw [e00, Nat.mul_zero, Nat.add_zero, updG_all _ _ _ rfl, show (List.range L.length).map (dmark s) = dmarks s L.length from rfl] at e
  refine den_of hT rfl ?_
  generalize dmarks s L.length = MR at *
  generalize ((s + 193 * L.length : Nat) : Int) = k at *
  simp -implicitDefEqProofs [ir_laws_markDrinfeldS, ir_laws_markDrinfeldS_B, e, List.idxOf, List.findIdx]
theorem l_dheld1 {O : Oracle} {n s i : Nat} (hn : n < 100000) (hs : s < 100000000000) (hi : i < n) : ∀ (r j : Nat), j + r = 64 →
    dn O 0 (.loop ir_laws_heldDrinfeldS_L0) ⟨[(0, .d (.sl dqSh ((dmarks s n).map drE))), (1, (.d (.int .i64 (((s + 193 * i + 1 + j : Nat) : Int))))), (5, (.d (.int .i64 i))), (6, (.d (.int .i64 j)))], []⟩ =
      some (.exit 2, ⟨[(0, .d (.sl dqSh ((dmarks s n).map drE))), (1, (.d (.int .i64 (((s + 193 * i + 1 + 64 : Nat) : Int))))), (5, (.d (.int .i64 i))), (6, (.d (.int .i64 64))), (25, (.d (.bool false)))], []⟩)
  | 0, j, hj => by
    have : j = 64 := by omega
    subst this
    refine dn_stop ?_
    generalize (dmarks s n).map drE = LQ at *
    generalize ((s + 193 * i + 1 + 64 : Nat) : Int) = k at *
    simp -implicitDefEqProofs [ir_laws_heldDrinfeldS_L0, dn_cond]
  | r + 1, j, hj => by
    have hj64 : j < 64 := by omega
    have hj64' : (j : Int) < 64 := by omega
    have w1 := wrap8 (s + 193 * i + 1 + j)
    have w2 : IntKind.i64.wrap (((s + 193 * i + 1 + j : Nat) : Int) + 1) = ((s + 193 * i + 1 + (j + 1) : Nat) : Int) := (w64 (x := ((s + 193 * i + 1 + j : Nat) : Int) + 1) (by omega)).trans (by omega)
    have w4 : IntKind.i64.wrap ((j : Int) + 1) = ((j + 1 : Nat) : Int) := (w64 (x := (j : Int) + 1) (by omega)).trans (by omega)
    have hML : ((dmarks s n).map drE).length = n := by rw [List.length_map, dmarks_length]
    have hx : ∀ h : i < ((dmarks s n).map drE).length, ((dmarks s n).map drE)[i]'h = .st [.leaf, .arr 64 .leaf, .arr 64 .leaf, .arr 64 .leaf] [(D.int .i64 (((s + 193 * i : Nat) : Int))), (D.arr 64 .leaf (ints .u8 (brow (s + 193 * i + 1)))), (D.arr 64 .leaf (ints .u8 (brow (s + 193 * i + 65)))), (D.arr 64 .leaf (ints .u8 (brow (s + 193 * i + 129))))] := fun h => by simp [dmarks, dmark]
    have hml := brow_length (s + 193 * i + 1)
    have hv : ∀ h : j < (brow (s + 193 * i + 1)).length, (brow (s + 193 * i + 1))[j]'h = mk8 (s + 193 * i + 1 + j) := fun h => by simp [brow]
    refine dn_round ?_ (l_dheld1 hn hs hi r (j + 1) (by omega))
    generalize (dmarks s n).map drE = LQ at *
    generalize ((s + 193 * i : Nat) : Int) = k0 at *
    generalize brow (s + 193 * i + 1) = b1 at *
    generalize brow (s + 193 * i + 65) = b2 at *
    generalize brow (s + 193 * i + 129) = b3 at *
    generalize mk8 (s + 193 * i + 1 + j) = mv at *
    generalize ((s + 193 * i + 1 + j : Nat) : Int) = k at *
    generalize ((s + 193 * i + 1 + (j + 1) : Nat) : Int) = k2 at *
    simp -implicitDefEqProofs [ir_laws_heldDrinfeldS_L0, dn_cond, hj64, hj64', hi, hML, hx, hml, hv, w1, w2, w4]
theorem l_dheld2 {O : Oracle} {n s i : Nat} (hn : n < 100000) (hs : s < 100000000000) (hi : i < n) : ∀ (r j : Nat), j + r = 64 →
    dn O 0 (.loop ir_laws_heldDrinfeldS_L1) ⟨[(0, .d (.sl dqSh ((dmarks s n).map drE))), (1, (.d (.int .i64 (((s + 193 * i + 65 + j : Nat) : Int))))), (5, (.d (.int .i64 i))), (7, (.d (.int .i64 j)))], []⟩ =
      some (.exit 4, ⟨[(0, .d (.sl dqSh ((dmarks s n).map drE))), (1, (.d (.int .i64 (((s + 193 * i + 65 + 64 : Nat) : Int))))), (5, (.d (.int .i64 i))), (7, (.d (.int .i64 64))), (41, (.d (.bool false)))], []⟩)
  | 0, j, hj => by
    have : j = 64 := by omega
    subst this
    refine dn_stop ?_
    generalize (dmarks s n).map drE = LQ at *
    generalize ((s + 193 * i + 65 + 64 : Nat) : Int) = k at *
    simp -implicitDefEqProofs [ir_laws_heldDrinfeldS_L1, dn_cond]
  | r + 1, j, hj => by
    have hj64 : j < 64 := by omega
    have hj64' : (j : Int) < 64 := by omega
    have w1 := wrap8 (s + 193 * i + 65 + j)
    have w2 : IntKind.i64.wrap (((s + 193 * i + 65 + j : Nat) : Int) + 1) = ((s + 193 * i + 65 + (j + 1) : Nat) : Int) := (w64 (x := ((s + 193 * i + 65 + j : Nat) : Int) + 1) (by omega)).trans (by omega)
    have w4 : IntKind.i64.wrap ((j : Int) + 1) = ((j + 1 : Nat) : Int) := (w64 (x := (j : Int) + 1) (by omega)).trans (by omega)
    have hML : ((dmarks s n).map drE).length = n := by rw [List.length_map, dmarks_length]
    have hx : ∀ h : i < ((dmarks s n).map drE).length, ((dmarks s n).map drE)[i]'h = .st [.leaf, .arr 64 .leaf, .arr 64 .leaf, .arr 64 .leaf] [(D.int .i64 (((s + 193 * i : Nat) : Int))), (D.arr 64 .leaf (ints .u8 (brow (s + 193 * i + 1)))), (D.arr 64 .leaf (ints .u8 (brow (s + 193 * i + 65)))), (D.arr 64 .leaf (ints .u8 (brow (s + 193 * i + 129))))] := fun h => by simp [dmarks, dmark]
    have hml := brow_length (s + 193 * i + 65)
    have hv : ∀ h : j < (brow (s + 193 * i + 65)).length, (brow (s + 193 * i + 65))[j]'h = mk8 (s + 193 * i + 65 + j) := fun h => by simp [brow]
    refine dn_round ?_ (l_dheld2 hn hs hi r (j + 1) (by omega))
    generalize (dmarks s n).map drE = LQ at *
    generalize ((s + 193 * i : Nat) : Int) = k0 at *
    generalize brow (s + 193 * i + 1) = b1 at *
    generalize brow (s + 193 * i + 65) = b2 at *
    generalize brow (s + 193 * i + 129) = b3 at *
    generalize mk8 (s + 193 * i + 65 + j) = mv at *
    generalize ((s + 193 * i + 65 + j : Nat) : Int) = k at *
    generalize ((s + 193 * i + 65 + (j + 1) : Nat) : Int) = k2 at *
    simp -implicitDefEqProofs [ir_laws_heldDrinfeldS_L1, dn_cond, hj64, hj64', hi, hML, hx, hml, hv, w1, w2, w4]
theorem l_dheld3 {O : Oracle} {n s i : Nat} (hn : n < 100000) (hs : s < 100000000000) (hi : i < n) : ∀ (r j : Nat), j + r = 64 →
    dn O 0 (.loop ir_laws_heldDrinfeldS_L2) ⟨[(0, .d (.sl dqSh ((dmarks s n).map drE))), (1, (.d (.int .i64 (((s + 193 * i + 129 + j : Nat) : Int))))), (5, (.d (.int .i64 i))), (8, (.d (.int .i64 j)))], []⟩ =
      some (.exit 6, ⟨[(0, .d (.sl dqSh ((dmarks s n).map drE))), (1, (.d (.int .i64 (((s + 193 * i + 129 + 64 : Nat) : Int))))), (5, (.d (.int .i64 i))), (8, (.d (.int .i64 64))), (57, (.d (.bool false)))], []⟩)
  | 0, j, hj => by
    have : j = 64 := by omega
    subst this
    refine dn_stop ?_
    generalize (dmarks s n).map drE = LQ at *
    generalize ((s + 193 * i + 129 + 64 : Nat) : Int) = k at *
    simp -implicitDefEqProofs [ir_laws_heldDrinfeldS_L2, dn_cond]
  | r + 1, j, hj => by
    have hj64 : j < 64 := by omega
    have hj64' : (j : Int) < 64 := by omega
    have w1 := wrap8 (s + 193 * i + 129 + j)
    have w2 : IntKind.i64.wrap (((s + 193 * i + 129 + j : Nat) : Int) + 1) = ((s + 193 * i + 129 + (j + 1) : Nat) : Int) := (w64 (x := ((s + 193 * i + 129 + j : Nat) : Int) + 1) (by omega)).trans (by omega)
    have w4 : IntKind.i64.wrap ((j : Int) + 1) = ((j + 1 : Nat) : Int) := (w64 (x := (j : Int) + 1) (by omega)).trans (by omega)
    have hML : ((dmarks s n).map drE).length = n := by rw [List.length_map, dmarks_length]
    have hx : ∀ h : i < ((dmarks s n).map drE).length, ((dmarks s n).map drE)[i]'h = .st [.leaf, .arr 64 .leaf, .arr 64 .leaf, .arr 64 .leaf] [(D.int .i64 (((s + 193 * i : Nat) : Int))), (D.arr 64 .leaf (ints .u8 (brow (s + 193 * i + 1)))), (D.arr 64 .leaf (ints .u8 (brow (s + 193 * i + 65)))), (D.arr 64 .leaf (ints .u8 (brow (s + 193 * i + 129))))] := fun h => by simp [dmarks, dmark]
    have hml := brow_length (s + 193 * i + 129)
    have hv : ∀ h : j < (brow (s + 193 * i + 129)).length, (brow (s + 193 * i + 129))[j]'h = mk8 (s + 193 * i + 129 + j) := fun h => by simp [brow]
    refine dn_round ?_ (l_dheld3 hn hs hi r (j + 1) (by omega))
    generalize (dmarks s n).map drE = LQ at *
    generalize ((s + 193 * i : Nat) : Int) = k0 at *
    generalize brow (s + 193 * i + 1) = b1 at *
    generalize brow (s + 193 * i + 65) = b2 at *
    generalize brow (s + 193 * i + 129) = b3 at *
    generalize mk8 (s + 193 * i + 129 + j) = mv at *
    generalize ((s + 193 * i + 129 + j : Nat) : Int) = k at *
    generalize ((s + 193 * i + 129 + (j + 1) : Nat) : Int) = k2 at *
    simp -implicitDefEqProofs [ir_laws_heldDrinfeldS_L2, dn_cond, hj64, hj64', hi, hML, hx, hml, hv, w1, w2, w4]
theorem l_dheld {O : Oracle} {n s : Nat} (hn : n < 100000) (hs : s < 100000000000) : ∀ (r i : Nat), i + r = n →
    dn O 0 (.loop ir_laws_heldDrinfeldS_L3) ⟨[(0, .d (.sl dqSh ((dmarks s n).map drE))), (1, (.d (.int .i64 (((s + 193 * i : Nat) : Int))))), (5, (.d (.int .i64 i)))], []⟩ =
      some (.exit 0, ⟨[(0, .d (.sl dqSh ((dmarks s n).map drE))), (1, (.d (.int .i64 (((s + 193 * n : Nat) : Int))))), (5, (.d (.int .i64 n))), (12, (.d (.bool false)))], []⟩)
  | 0, i, hi => by
    obtain rfl : i = n := by omega
    have hML : ((dmarks s i).map drE).length = i := by rw [List.length_map, dmarks_length]
    refine dn_stop ?_
    generalize (dmarks s i).map drE = LQ at *
    generalize ((s + 193 * i : Nat) : Int) = k at *
    simp -implicitDefEqProofs [ir_laws_heldDrinfeldS_L3, dn_cond, hML]
  | r + 1, i, hi => by
    have hlt : i < n := by omega
    have hML : ((dmarks s n).map drE).length = n := by rw [List.length_map, dmarks_length]
    have w4 : IntKind.i64.wrap ((i : Int) + 1) = ((i + 1 : Nat) : Int) := (w64 (x := (i : Int) + 1) (by omega)).trans (by omega)
    have w5 : IntKind.i64.wrap (((s + 193 * i : Nat) : Int) + 1) = ((s + 193 * i + 1 : Nat) : Int) := (w64 (x := ((s + 193 * i : Nat) : Int) + 1) (by omega)).trans (by omega)
    have e1 := l_dheld1 (O := O) hn hs hlt 64 0 rfl
    have e2 := l_dheld2 (O := O) hn hs hlt 64 0 rfl
    have e3 := l_dheld3 (O := O) hn hs hlt 64 0 rfl
    have e00 : ((0 : Nat) : Int) = 0 := rfl
    rw [Nat.add_zero, e00, show s + 193 * i + 1 + 64 = s + 193 * i + 65 by omega] at e1
    rw [Nat.add_zero, e00, show s + 193 * i + 65 + 64 = s + 193 * i + 129 by omega] at e2
    rw [Nat.add_zero, e00, show s + 193 * i + 129 + 64 = s + 193 * (i + 1) by omega] at e3
    have hx : ∀ h : i < ((dmarks s n).map drE).length, ((dmarks s n).map drE)[i]'h = .st [.leaf, .arr 64 .leaf, .arr 64 .leaf, .arr 64 .leaf] [(D.int .i64 (((s + 193 * i : Nat) : Int))), (D.arr 64 .leaf (ints .u8 (brow (s + 193 * i + 1)))), (D.arr 64 .leaf (ints .u8 (brow (s + 193 * i + 65)))), (D.arr 64 .leaf (ints .u8 (brow (s + 193 * i + 129))))] := fun h => by simp [dmarks, dmark]
    refine dn_round ?_ (l_dheld (O := O) hn hs r (i + 1) (by omega))
    generalize brow (s + 193 * i + 1) = b1 at *
    generalize brow (s + 193 * i + 65) = b2 at *
    generalize brow (s + 193 * i + 129) = b3 at *
    generalize ((s + 193 * i : Nat) : Int) = k at *
    generalize ((s + 193 * i + 1 : Nat) : Int) = k1 at *
    generalize ((s + 193 * i + 65 : Nat) : Int) = k2 at *
    generalize ((s + 193 * i + 129 : Nat) : Int) = k3 at *
    generalize ((s + 193 * (i + 1) : Nat) : Int) = k4 at *
    generalize (dmarks s n).map drE = LQ at *
    simp -implicitDefEqProofs [ir_laws_heldDrinfeldS_L3, dn_cond, hlt, hML, hx, e1, e2, e3, w4, w5]
def C_heldDs (O : Oracle) : Prop := ∀ s n : Nat, n < 100000 → s < 100000000000 → ask O F_laws_heldDrinfeldS [.sl dqSh ((dmarks s n).map drE), (D.int .i64 s)] = some (D.int .i64 (((s + 193 * n : Nat) : Int)))
theorem c_heldDs (hT : T F_laws_heldDrinfeldS = some ir_laws_heldDrinfeldS) : C_heldDs (den T A) := by
  intro s n hn hs
  have e := l_dheld (O := den T A) hn hs n 0 (Nat.zero_add _)
  have e00 : ((0 : Nat) : Int) = 0 := rfl
  rw [e00, Nat.mul_zero, Nat.add_zero] at e
  refine ask_of hT rfl ?_
  generalize (dmarks s n).map drE = LQ at *
  generalize ((s + 193 * n : Nat) : Int) = k at *
  simp -implicitDefEqProofs [ir_laws_heldDrinfeldS, ir_laws_heldDrinfeldS_B, e]
theorem l_eqDs {O : Oracle} (he : C_eqDr O) {L : List Dr4} (h : ∀ q ∈ L, Sh4 q) (hl : L.length < 100000) : ∀ (k i : Nat), i + k = L.length →
    dn O 0 (.loop ir_laws_eqDrinfeldS_L0) ⟨[(0, .d (.sl dqSh (L.map drE))), (1, .d (.sl dqSh (L.map drE))), (5, (.d (.int .i64 i)))], []⟩ =
      some (.exit 0, ⟨[(0, .d (.sl dqSh (L.map drE))), (1, .d (.sl dqSh (L.map drE))), (5, (.d (.int .i64 L.length))), (14, (.d (.bool false)))], []⟩)
  | 0, i, hi => by
    obtain rfl : i = L.length := by omega
    have hL : (L.map drE).length = L.length := List.length_map ..
    refine dn_stop ?_
    generalize L.map drE = LD at *
    simp -implicitDefEqProofs [ir_laws_eqDrinfeldS_L0, dn_cond, hL]
  | k + 1, i, hi => by
    have hlt : i < L.length := by omega
    obtain ⟨a1, a2, a3⟩ := h _ (List.getElem_mem hlt)
    have e1 := he L[i].1 L[i].2.1 L[i].2.2.1 L[i].2.2.2 a1 a2 a3
    rw [show drD L[i].1 L[i].2.1 L[i].2.2.1 L[i].2.2.2 = .st [.leaf, .arr 64 .leaf, .arr 64 .leaf, .arr 64 .leaf] [(D.int .i64 (L[i].1)), (D.arr 64 .leaf (ints .u8 (L[i].2.1))), (D.arr 64 .leaf (ints .u8 (L[i].2.2.1))), (D.arr 64 .leaf (ints .u8 (L[i].2.2.2)))] from rfl] at e1
    have hL : (L.map drE).length = L.length := List.length_map ..
    have hx2 : ∀ h : i < (L.map drE).length, (L.map drE)[i]'h = .st [.leaf, .arr 64 .leaf, .arr 64 .leaf, .arr 64 .leaf] [(D.int .i64 (L[i].1)), (D.arr 64 .leaf (ints .u8 (L[i].2.1))), (D.arr 64 .leaf (ints .u8 (L[i].2.2.1))), (D.arr 64 .leaf (ints .u8 (L[i].2.2.2)))] := fun h => by rw [List.getElem_map]
    have w4 : IntKind.i64.wrap ((i : Int) + 1) = ((i + 1 : Nat) : Int) := (w64 (x := (i : Int) + 1) (by omega)).trans (by omega)
    refine dn_round ?_ (l_eqDs he h hl k (i + 1) (by omega))
    generalize L[i].1 = q1 at *
    generalize L[i].2.1 = q2 at *
    generalize L[i].2.2.1 = q3 at *
    generalize L[i].2.2.2 = q4 at *
    generalize L.map drE = LD at *
    simp -implicitDefEqProofs [ir_laws_eqDrinfeldS_L0, dn_cond, hlt, hL, hx2, e1, w4]
def C_eqDs (O : Oracle) : Prop := ∀ L : List Dr4, (∀ q ∈ L, Sh4 q) → L.length < 100000 → ask O F_laws_eqDrinfeldS [.sl dqSh (L.map drE), .sl dqSh (L.map drE)] = some (D.bool true)
theorem c_eqDs (hT : T F_laws_eqDrinfeldS = some ir_laws_eqDrinfeldS) (he : C_eqDr (den T A)) : C_eqDs (den T A) := by
  intro L h hl
  have e := l_eqDs (O := den T A) he h hl L.length 0 (Nat.zero_add _)
  have e00 : ((0 : Nat) : Int) = 0 := rfl
  rw [e00] at e
  refine ask_of hT rfl ?_
  generalize L.map drE = LD at *
  simp -implicitDefEqProofs [ir_laws_eqDrinfeldS, ir_laws_eqDrinfeldS_B, dn_cond, e]
def AdOk (p : Int) (l : List Int) : Prop := ∃ (_ : IsP p) (m : Fp p), l = pad (row m) ∧ Fld m ∧ p ^ (m.len - 1) ≤ 16
open Classical in
noncomputable def adL (p : Int) (l : List Int) : List Dr4 :=
  if h : AdOk p l then
    haveI : IsP p := h.choose
    allQ p l (manyQ p ((polOf p l).len - 1))
  else []
open Classical in
noncomputable def adC (p : Int) (l : List Int) : Int := if codeP p [l] ≠ 0 then codeP p [l] else if AdOk p l then 0 else 2
theorem adL_good {p : Int} [IsP p] {m : Fp p} (h : AdOk p (pad (row m))) (hm : m.len ≤ 64) : adL p (pad (row m)) = allQ p (pad (row m)) (manyQ p (m.len - 1)) := by
  unfold adL; rw [dif_pos h, polOf_pad hm]
theorem adL_bad {p : Int} {l : List Int} (h : ¬ AdOk p l) : adL p l = [] := by unfold adL; rw [dif_neg h]
theorem adL_ok (p : Int) (l : List Int) : (∀ q ∈ adL p l, Sh4 q) ∧ (adL p l).length ≤ 1000 := by
  by_cases h : AdOk p l
  · have h' := h
    obtain ⟨ip, m, rfl, hm, h16⟩ := h
    have h5 := hm.five
    rw [adL_good h' (by omega)]
    refine ⟨outQ_sh (pad_length _) _ _, ?_⟩
    unfold allQ
    rw [outQ_length]
    have hn : manyQ p (m.len - 1) ≤ 16 := by unfold manyQ; omega
    have := Nat.mul_le_mul hn (show manyQ p (m.len - 1) - 1 ≤ 16 by omega)
    omega
  · rw [adL_bad h]; exact ⟨(fun q hq => by cases hq), by simp⟩
theorem codeP_zero {p : Int} {l : List Int} (hb : Bytes l) (hl : l.length = 64) (h : codeP p [l] = 0) : ∃ (_ : IsP p) (a : Fp p), a.len ≤ 64 ∧ l = pad (row a) := by
  unfold codeP at h
  split at h
  · rename_i g
    rcases arg1 p hb hl with ⟨h1, h2⟩ | ⟨ip, a, hal, e⟩
    · have h3 := h2 g.1
      have h4 := g.2
      simp [h3] at h4
    · exact ⟨ip, a, hal, e⟩
  · cases h
theorem adOk_fld {p : Int} [IsP p] {a : Fp p} (ha : a.len ≤ 64) : AdOk p (pad (row a)) ↔ Fld a ∧ p ^ (a.len - 1) ≤ 16 := by
  constructor
  · rintro ⟨ip, m, e, hm, h⟩
    have h5 := hm.five
    obtain rfl := (pad_row_inj ha (by omega)).1 e
    exact ⟨hm, h⟩
  · rintro ⟨h1, h2⟩; exact ⟨_, a, rfl, h1, h2⟩
noncomputable def adD (p : Int) (l : List Int) : D := .tup [.sl dqSh ((adL p l).map drE), (D.int .i64 (adC p l))]
theorem adC_one {p : Int} {l : List Int} (h : codeP p [l] ≠ 0) : adC p l = codeP p [l] ∧ adL p l = [] := by
  refine ⟨by unfold adC; rw [if_pos h], adL_bad fun g => h ?_⟩
  obtain ⟨ip, m, rfl, hm, _⟩ := g
  unfold codeP
  rw [if_pos ⟨isP_true, by simp [isPl_row]⟩]
theorem adC_two {p : Int} {l : List Int} (h : codeP p [l] = 0) (h2 : ¬ AdOk p l) : adC p l = 2 := by
  unfold adC; rw [if_neg (by simpa using h), if_neg h2]
theorem adC_zero {p : Int} {l : List Int} (h : codeP p [l] = 0) (h2 : AdOk p l) : adC p l = 0 := by
  unfold adC; rw [if_neg (by simpa using h), if_pos h2]
def K_AllDrinfeld (O : Oracle) (F : Nat) : Prop := ∀ (p : Int) (l : List Int), Bytes l → l.length = 64 → ask O F [(D.int .i64 p), (D.arr 64 .leaf (ints .u8 l))] = some (adD p l)
open Classical in
theorem k_AllDrinfeld (hT : T F_impl_AllDrinfeld = some ir_impl_AllDrinfeld) (hc : C_polysCode (den T A)) (hif : C_isField (den T A)) (hro : K_rowOf (den T A)) (hdg : C_degree (den T A)) (hno : C_norm (den T A)) (hal : K_all (den T A) F_impl_allDrinfeld) : K_AllDrinfeld (den T A) F_impl_AllDrinfeld := by
  intro p l bl gl
  have e1 := hc p [l] (by intro x hx; simp at hx; subst hx; exact ⟨gl, bl⟩) (by simp)
  rw [show List.map arr8 [l] = [(D.arr 64 .leaf (ints .u8 l))] from rfl] at e1
  have e2 := hif p l bl gl
  unfold adD
  refine ask_of hT rfl ?_
  by_cases h0 : codeP p [l] = 0
  · obtain ⟨ip, a, ha, rfl⟩ := codeP_zero bl gl h0
    rw [h0] at e1
    by_cases hf : Fld a
    · rw [decide_eq_true ((isFld_good ha).2 hf)] at e2
      have h5 := hf.five
      have h2 := hf.two
      have e3 := hro p a ha
      have e4 := hdg (row a) (by rw [row_length]; omega)
      rw [row_length, show (a.len : Int) - 1 = ((a.len - 1 : Nat) : Int) by omega] at e4
      have e5 := hno p (a.len - 1) 16 (by omega) (by omega)
      have hle := normL_most (p := p) 16 (a.len - 1) 1 (by omega)
      rw [Int.one_mul] at hle
      by_cases h16 : p ^ (a.len - 1) ≤ 16
      · have hok : AdOk p (pad (row a)) := (adOk_fld ha).2 ⟨hf, h16⟩
        have e6 := hal p a hf h16
        have hgt : ¬ 16 < normL p 16 (a.len - 1) 1 := by have := hle.2 h16; omega
        rw [adC_zero h0 hok, adL_good hok ha]
        generalize (allQ p (pad (row a)) (manyQ p (a.len - 1))).map drE = QD at *
        generalize normL p 16 (a.len - 1) 1 = nl at *
        generalize pad (row a) = Pa at *
        generalize row a = Ra at *
        generalize a.len - 1 = d at *
        simp -implicitDefEqProofs [ir_impl_AllDrinfeld, ir_impl_AllDrinfeld_B, dn_cond, e1, e2, e3, e4, e5, e6, hgt, List.replicate]
      · have hok : ¬ AdOk p (pad (row a)) := fun g => h16 ((adOk_fld ha).1 g).2
        have hgt : 16 < normL p 16 (a.len - 1) 1 := by
          have := mt hle.1 h16; omega
        rw [adC_two h0 hok, adL_bad hok, List.map_nil]
        generalize normL p 16 (a.len - 1) 1 = nl at *
        generalize pad (row a) = Pa at *
        generalize row a = Ra at *
        generalize a.len - 1 = d at *
        simp -implicitDefEqProofs [ir_impl_AllDrinfeld, ir_impl_AllDrinfeld_B, dn_cond, e1, e2, e3, e4, e5, hgt, List.replicate]
    · rw [decide_eq_false (fun g => hf ((isFld_good ha).1 g))] at e2
      have hok : ¬ AdOk p (pad (row a)) := fun g => hf ((adOk_fld ha).1 g).1
      rw [adC_two h0 hok, adL_bad hok, List.map_nil]
      generalize pad (row a) = Pa at *
      simp -implicitDefEqProofs [ir_impl_AllDrinfeld, ir_impl_AllDrinfeld_B, dn_cond, e1, e2, List.replicate]
  · rw [(adC_one h0).1, (adC_one h0).2, List.map_nil]
    generalize codeP p [l] = k at *
    simp -implicitDefEqProofs [ir_impl_AllDrinfeld, ir_impl_AllDrinfeld_B, dn_cond, e1, h0, List.replicate]
def H_AllDrinfeld (O : Oracle) : Prop := ∀ (p : Int) (l : List Int), Bytes l → l.length = 64 → ∃ cp : Option Nat,
  O F_impl_AllDrinfeld_h [(.d (.int .i64 p)), .d (D.arr 64 .leaf (ints .u8 l))] [] = some (.tup [.sl 0 [] 0 (adL p l).length cp, (.d (.int .i64 (adC p l)))], [], [.sl false dqSh ((adL p l).map drE)])
open Classical in
theorem h_AllDrinfeld (hT : T F_impl_AllDrinfeld_h = some ir_impl_AllDrinfeld_h) (hc : C_polysCode (den T A)) (hif : C_isField (den T A)) (hro : K_rowOf (den T A)) (hdg : C_degree (den T A)) (hno : C_norm (den T A)) (hal : H_all (den T A)) : H_AllDrinfeld (den T A) := by
  intro p l bl gl
  have e1 := hc p [l] (by intro x hx; simp at hx; subst hx; exact ⟨gl, bl⟩) (by simp)
  rw [show List.map arr8 [l] = [(D.arr 64 .leaf (ints .u8 l))] from rfl] at e1
  have e2 := hif p l bl gl
  by_cases h0 : codeP p [l] = 0
  · obtain ⟨ip, a, ha, rfl⟩ := codeP_zero bl gl h0
    rw [h0] at e1
    by_cases hf : Fld a
    · rw [decide_eq_true ((isFld_good ha).2 hf)] at e2
      have h5 := hf.five
      have h2 := hf.two
      have e3 := hro p a ha
      have e4 := hdg (row a) (by rw [row_length]; omega)
      rw [row_length, show (a.len : Int) - 1 = ((a.len - 1 : Nat) : Int) by omega] at e4
      have e5 := hno p (a.len - 1) 16 (by omega) (by omega)
      have hle := normL_most (p := p) 16 (a.len - 1) 1 (by omega)
      rw [Int.one_mul] at hle
      by_cases h16 : p ^ (a.len - 1) ≤ 16
      · have hok : AdOk p (pad (row a)) := (adOk_fld ha).2 ⟨hf, h16⟩
        obtain ⟨c, e6⟩ := hal p a hf h16
        have hgt : ¬ 16 < normL p 16 (a.len - 1) 1 := by have := hle.2 h16; omega
        rw [adC_zero h0 hok, adL_good hok ha]
        refine ⟨c, den_of hT rfl ?_⟩
        generalize (allQ p (pad (row a)) (manyQ p (a.len - 1))).map drE = QD at *
        generalize (allQ p (pad (row a)) (manyQ p (a.len - 1))).length = ql at *
        generalize normL p 16 (a.len - 1) 1 = nl at *
        generalize pad (row a) = Pa at *
        generalize row a = Ra at *
        generalize a.len - 1 = d at *
        simp -implicitDefEqProofs [ir_impl_AllDrinfeld_h, ir_impl_AllDrinfeld_h_B, dn_cond, e1, e2, e3, e4, e5, e6, hgt, List.replicate, List.idxOf, List.findIdx, List.findIdx.go]
      · have hok : ¬ AdOk p (pad (row a)) := fun g => h16 ((adOk_fld ha).1 g).2
        have hgt : 16 < normL p 16 (a.len - 1) 1 := by
          have := mt hle.1 h16; omega
        rw [adC_two h0 hok, adL_bad hok, List.map_nil]
        refine ⟨some 0, den_of hT rfl ?_⟩
        generalize normL p 16 (a.len - 1) 1 = nl at *
        generalize pad (row a) = Pa at *
        generalize row a = Ra at *
        generalize a.len - 1 = d at *
        simp -implicitDefEqProofs [ir_impl_AllDrinfeld_h, ir_impl_AllDrinfeld_h_B, dn_cond, e1, e2, e3, e4, e5, hgt, List.replicate, List.idxOf, List.findIdx, List.findIdx.go]
    · rw [decide_eq_false (fun g => hf ((isFld_good ha).1 g))] at e2
      have hok : ¬ AdOk p (pad (row a)) := fun g => hf ((adOk_fld ha).1 g).1
      rw [adC_two h0 hok, adL_bad hok, List.map_nil]
      refine ⟨some 0, den_of hT rfl ?_⟩
      generalize pad (row a) = Pa at *
      simp -implicitDefEqProofs [ir_impl_AllDrinfeld_h, ir_impl_AllDrinfeld_h_B, dn_cond, e1, e2, List.replicate, List.idxOf, List.findIdx, List.findIdx.go]
  · rw [(adC_one h0).1, (adC_one h0).2, List.map_nil]
    refine ⟨some 0, den_of hT rfl ?_⟩
    generalize codeP p [l] = k at *
    simp -implicitDefEqProofs [ir_impl_AllDrinfeld_h, ir_impl_AllDrinfeld_h_B, dn_cond, e1, h0, List.replicate, List.idxOf, List.findIdx, List.findIdx.go]
def C_sSmall (O : Oracle) : Prop := ∀ (p : Int) (l : List Int), Bytes l → l.length = 64 → ask O F_spec_l06Small [(D.int .i64 p), (D.arr 64 .leaf (ints .u8 l))] = some (D.int .i64 (adC p l))
open Classical in
theorem c_sSmall (hT : T F_spec_l06Small = some ir_spec_l06Small) (hc : C_sCode (den T A)) (hmo : K_sMonic (den T A)) (hdg : K_sDeg (den T A)) (hin : C_sIn (den T A)) (hct : K_sCount (den T A)) (hir : K_sIrr (den T A)) : C_sSmall (den T A) := by
  intro p l bl gl
  have e1 := hc p [l] (by intro x hx; simp at hx; subst hx; exact ⟨gl, bl⟩) (by simp)
  rw [show List.map arr8 [l] = [(D.arr 64 .leaf (ints .u8 l))] from rfl] at e1
  refine ask_of hT rfl ?_
  by_cases h0 : codeP p [l] = 0
  · obtain ⟨ip, a, ha, rfl⟩ := codeP_zero bl gl h0
    rw [h0] at e1
    have e2 := hmo p a ha
    have e3 := hdg p a ha
    have e4 := hin ((a.len : Int) - 1) 1 4
    by_cases hM : Monic a
    · rw [decide_eq_true hM] at e2
      by_cases h : 2 ≤ a.len ∧ a.len ≤ 5
      · rw [show decide ((1 : Int) ≤ (a.len : Int) - 1 ∧ (a.len : Int) - 1 ≤ 4) = true from decide_eq_true (by omega)] at e4
        rw [show (a.len : Int) - 1 = ((a.len - 1 : Nat) : Int) by omega] at e3 e4
        have e5 := hct p (a.len - 1) (by omega)
        have hp1 : (1 : Int) ≤ p ^ (a.len - 1) := ppow_pos (a.len - 1)
        have e6 := hir p a hM.2 (by omega)
        have hiff : AdOk p (pad (row a)) ↔ Irr a ∧ p ^ (a.len - 1) ≤ 16 := (adOk_fld ha).trans ⟨fun g => ⟨g.1.irr, g.2⟩, fun g => ⟨⟨hM, h.1, h.2, g.1⟩, g.2⟩⟩
        by_cases h16 : p ^ (a.len - 1) ≤ 16
        · have hgt : ¬ 16 < min (p ^ (a.len - 1)) 1000000000001 := by omega
          by_cases hI : Irr a
          · rw [decide_eq_true hI] at e6
            rw [adC_zero h0 (hiff.2 ⟨hI, h16⟩)]
            generalize min (p ^ (a.len - 1)) 1000000000001 = pw at *
            generalize pad (row a) = Pa at *
            generalize a.len - 1 = d at *
            simp -implicitDefEqProofs [ir_spec_l06Small, ir_spec_l06Small_B, dn_cond, e1, e2, e3, e4, e5, e6, hgt]
          · rw [decide_eq_false hI] at e6
            rw [adC_two h0 (fun g => hI (hiff.1 g).1)]
            generalize min (p ^ (a.len - 1)) 1000000000001 = pw at *
            generalize pad (row a) = Pa at *
            generalize a.len - 1 = d at *
            simp -implicitDefEqProofs [ir_spec_l06Small, ir_spec_l06Small_B, dn_cond, e1, e2, e3, e4, e5, e6, hgt]
        · have hgt : 16 < min (p ^ (a.len - 1)) 1000000000001 := by omega
          rw [adC_two h0 (fun g => h16 (hiff.1 g).2)]
          generalize min (p ^ (a.len - 1)) 1000000000001 = pw at *
          generalize pad (row a) = Pa at *
          generalize a.len - 1 = d at *
          simp -implicitDefEqProofs [ir_spec_l06Small, ir_spec_l06Small_B, dn_cond, e1, e2, e3, e4, e5, hgt]
      · rw [show decide ((1 : Int) ≤ (a.len : Int) - 1 ∧ (a.len : Int) - 1 ≤ 4) = false from decide_eq_false (by omega)] at e4
        rw [adC_two h0 (fun g => h ⟨((adOk_fld ha).1 g).1.two, ((adOk_fld ha).1 g).1.five⟩)]
        generalize pad (row a) = Pa at *
        simp -implicitDefEqProofs [ir_spec_l06Small, ir_spec_l06Small_B, dn_cond, e1, e2, e3, e4]
    · rw [decide_eq_false hM] at e2
      rw [adC_two h0 (fun g => hM ((adOk_fld ha).1 g).1.mon)]
      generalize pad (row a) = Pa at *
      simp -implicitDefEqProofs [ir_spec_l06Small, ir_spec_l06Small_B, dn_cond, e1, e2]
  · rw [(adC_one h0).1]
    have h01 : codeP p [l] = 1 := by
      unfold codeP at h0 ⊢
      split at h0
      · exact absurd rfl h0
      · rename_i g; rw [if_neg g]
    rw [h01] at e1 ⊢
    simp -implicitDefEqProofs [ir_spec_l06Small, ir_spec_l06Small_B, dn_cond, e1]
theorem k_sAllDrinfeld (hT : T F_spec_AllDrinfeld = some ir_spec_AllDrinfeld) (hc : C_sSmall (den T A)) (hal : K_all (den T A) F_spec_l06All) : K_AllDrinfeld (den T A) F_spec_AllDrinfeld := by
  intro p l bl gl
  have e1 := hc p l bl gl
  unfold adD
  refine ask_of hT rfl ?_
  by_cases h : adC p l = 0
  · rw [h] at e1 ⊢
    have hok : AdOk p l := by
      unfold adC at h
      split at h
      · rename_i h0; exact absurd h h0
      · split at h
        · assumption
        · cases h
    have hok' := hok
    obtain ⟨ip, m, rfl, hm, h16⟩ := hok
    have h5 := hm.five
    have e2 := hal p m hm h16
    rw [adL_good hok' (by omega)]
    generalize (allQ p (pad (row m)) (manyQ p (m.len - 1))).map drE = QD at *
    generalize pad (row m) = Pm at *
    simp -implicitDefEqProofs [ir_spec_AllDrinfeld, ir_spec_AllDrinfeld_B, dn_cond, e1, e2]
  · have hn : adL p l = [] := adL_bad fun g => by
      have g' := g
      obtain ⟨ip, m, rfl, hm, h16⟩ := g
      refine h (adC_zero ?_ g')
      unfold codeP
      rw [if_pos ⟨isP_true, by simp [isPl_row]⟩]
    rw [hn, List.map_nil]
    generalize adC p l = k at *
    simp -implicitDefEqProofs [ir_spec_AllDrinfeld, ir_spec_AllDrinfeld_B, dn_cond, e1, h]
def L_AllDrinfeld (O : Oracle) : Prop := ∀ (p : Int) (l : List Int), Bytes l → l.length = 64 → ask O F_laws_FnExactAllDrinfeld [(D.int .i64 p), (D.arr 64 .leaf (ints .u8 l))] = some (D.bool true)
theorem law_AllDrinfeld (hT : T F_laws_FnExactAllDrinfeld = some ir_laws_FnExactAllDrinfeld) (hp : C_toPoly (den T A)) (he : C_eqDs (den T A)) (hmk : H_markDs (den T A)) (hhd : C_heldDs (den T A)) (hi : K_AllDrinfeld (den T A) F_impl_AllDrinfeld) (hih : H_AllDrinfeld (den T A)) (hs : K_AllDrinfeld (den T A) F_spec_AllDrinfeld) : L_AllDrinfeld (den T A) := by
  intro p l bl gl
  have e1 := hp l bl gl
  have e3 := hi p l bl gl
  have e4 := hs p l bl gl
  obtain ⟨cp, e5⟩ := hih p l bl gl
  unfold adD at e3 e4
  obtain ⟨s1, s2⟩ := adL_ok p l
  have e7 := he (adL p l) s1 (by omega)
  have e9 := hmk (adL p l) cp 1 (by omega) (by omega) s1
  have e10 := hhd 1 (adL p l).length (by omega) (by omega)
  have hRL : ((adL p l).map drE).length = (adL p l).length := List.length_map ..
  have htr : ((adL p l).map drE).take (adL p l).length = (adL p l).map drE := List.take_of_length_le (by omega)
  have hNL : ((dmarks 1 (adL p l).length).map drE).length = (adL p l).length := by rw [List.length_map, dmarks_length]
  have htn : ((dmarks 1 (adL p l).length).map drE).take (adL p l).length = (dmarks 1 (adL p l).length).map drE := List.take_of_length_le (by omega)
  have hn3 : ¬ ((1 + 193 * (adL p l).length : Nat) : Int) < 0 := by omega
  have e01 : ((1 : Nat) : Int) = 1 := rfl
  rw [e01] at e9 e10
  refine ask_of hT rfl ?_
  generalize ((1 + 193 * (adL p l).length : Nat) : Int) = k2 at *
  generalize (dmarks 1 (adL p l).length).map drE = ND at *
  generalize (adL p l).map drE = SD at *
  generalize (adL p l).length = sl at *
  generalize adC p l = cc at *
  simp -implicitDefEqProofs [ir_laws_FnExactAllDrinfeld, ir_laws_FnExactAllDrinfeld_B, dn_cond, e1, e3, e4, e5, e7, e9, e10, hRL, htr, hNL, htn, hn3, List.replicate, List.idxOf, List.findIdx, List.findIdx.go]
end Pe
