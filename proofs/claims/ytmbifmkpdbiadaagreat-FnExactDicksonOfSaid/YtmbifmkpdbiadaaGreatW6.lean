/-
  A part of the proof: an evaluator for a small form of the code, its soundness, and contracts of functions over it.
-/
import Derived.Test.YtmbifmkpdbiadaaGreatW1
import Derived.Test.YtmbifmkpdbiadaaGreatW2
import Derived.Test.YtmbifmkpdbiadaaGreatW3
import Derived.Test.YtmbifmkpdbiadaaGreatW4
import Derived.Test.YtmbifmkpdbiadaaGreatW5

namespace Pe
open Go Gq
variable {T : Nat → Option Fn} {A : Oracle}
section
variable {p : Int}
/-- One place of a list gets more. -/
noncomputable def addAt (Q : List (Fp p)) (n : Nat) (v : Fp p) : List (Fp p) := Q.set n ((Q[n]?).getD 0 + v)
theorem addAt_length (Q : List (Fp p)) (n : Nat) (v : Fp p) : (addAt Q n v).length = Q.length := by unfold addAt; rw [List.length_set]
end
section
variable {p : Int} [IsP p]
noncomputable def byIn (m x : Fp p) (i : Nat) : Nat → List (Fp p) → List (Fp p) → List (Fp p)
  | _, [], Q => Q
  | k, y :: ys, Q => byIn m x i (k + 1) ys (addAt Q (i + k) (x * frIt m (i % (m.len - 1)) y % m))
noncomputable def byOut (m : Fp p) (b : List (Fp p)) : Nat → List (Fp p) → List (Fp p) → List (Fp p)
  | _, [], Q => Q
  | i, x :: xs, Q => byOut m b (i + 1) xs (byIn m x i 0 b Q)
theorem byIn_length (m x : Fp p) (i : Nat) : ∀ (k : Nat) (b Q : List (Fp p)), (byIn m x i k b Q).length = Q.length
  | _, [], _ => rfl
  | k, y :: ys, Q => by
    show (byIn m x i (k + 1) ys (addAt Q (i + k) _)).length = _
    rw [byIn_length, addAt_length]
theorem byOut_length (m : Fp p) (b : List (Fp p)) : ∀ (i : Nat) (a Q : List (Fp p)), (byOut m b i a Q).length = Q.length
  | _, [], _ => rfl
  | i, x :: xs, Q => by
    show (byOut m b (i + 1) xs (byIn m x i 0 b Q)).length = _
    rw [byOut_length, byIn_length]
end
theorem l_sSkDeg {O : Oracle} {p : Int} [IsP p] {S : List (Fp p)} (h8 : S.length = 8) (hS : ∀ a ∈ S, a.len ≤ 64) : ∀ n : Nat, n ≤ 8 →
    dn O 0 (.loop ir_spec_l03Deg_L0) ⟨[(1, .ptr 0 []), (3, (.d (.int .i64 ((n : Int) - 1))))], [.box false (.arr 8 (.arr 64 .leaf) ((skP S).map arr8))]⟩ =
      some (.exit 0, ⟨[(1, .ptr 0 []), (3, (.d (.int .i64 (((stl S n : Nat) : Int) - 1)))), (12, (.d (.bool false)))], [.box false (.arr 8 (.arr 64 .leaf) ((skP S).map arr8))]⟩)
  | 0, _ => by
    refine dn_stop ?_
    show _ = some (_, (⟨[_, (3, (.d (.int .i64 (((0 : Nat) : Int) - 1)))), _], _⟩ : St))
    generalize (skP S).map arr8 = LD at *
    simp -implicitDefEqProofs [ir_spec_l03Deg_L0, dn_cond]
  | n + 1, hn => by
    have hlt : n < S.length := by omega
    have hi8 : n < 8 := by omega
    have hm1 := List.getElem_mem hlt
    have hsl := hS _ hm1
    have hL : ((skP S).map arr8).length = 8 := by rw [List.length_map, List.length_map]; exact h8
    have hx2 : ∀ h : n < ((skP S).map arr8).length, ((skP S).map arr8)[n]'h = (D.arr 64 .leaf (ints .u8 (pad (row S[n])))) := fun h => by rw [List.getElem_map, List.getElem_map]
    have t3 : pad (row S[n]) = pad [] ↔ S[n] = 0 := by
      rw [← row_zero (p := p), pad_row_inj hsl (by rw [Pol.len_zero]; omega)]
    have e4 := beq_P (pad_length (row S[n])) (pad_length [])
    have t0 : ((n + 1 : Nat) : Int) - 1 = (n : Int) := by omega
    have w1 : IntKind.i64.wrap ((n : Int) - 1) = (n : Int) - 1 := w64 (by omega)
    rw [t0]
    unfold stl
    by_cases hz : S[n] = 0
    · rw [if_pos (by rw [List.getElem?_eq_getElem hlt, hz])]
      rw [decide_eq_true (t3.2 hz)] at e4
      refine dn_round ?_ (l_sSkDeg h8 hS n (by omega))
      generalize (skP S).map arr8 = LD at *
      generalize pad (row S[n]) = Pn at *
      simp -implicitDefEqProofs [ir_spec_l03Deg_L0, dn_cond, hi8, hL, hx2, e4, w1]
    · rw [if_neg (by rw [List.getElem?_eq_getElem hlt]; simpa using hz)]
      rw [decide_eq_false (fun h => hz (t3.1 h))] at e4
      rw [t0]
      refine dn_stop ?_
      generalize (skP S).map arr8 = LD at *
      generalize pad (row S[n]) = Pn at *
      simp -implicitDefEqProofs [ir_spec_l03Deg_L0, dn_cond, hi8, hL, hx2, e4]
def K_sSkDeg (O : Oracle) : Prop := ∀ (p : Int) [IsP p] (S : List (Fp p)), S.length = 8 → (∀ a ∈ S, a.len ≤ 64) → ask O F_spec_l03Deg [skwD (skP S)] = some (D.int .i64 (((stl S 8 : Nat) : Int) - 1))
theorem k_sSkDeg (hT : T F_spec_l03Deg = some ir_spec_l03Deg) : K_sSkDeg (den T A) := by
  intro p ip S h8 hS
  have e := l_sSkDeg (O := den T A) h8 hS 8 (Nat.le_refl _)
  have e0 : ((8 : Nat) : Int) - 1 = 7 := rfl
  rw [e0] at e
  have hsk : skwD (skP S) = .arr 8 (.arr 64 .leaf) ((skP S).map arr8) := rfl
  rw [hsk]
  refine ask_of hT rfl ?_
  generalize (skP S).map arr8 = LD at *
  simp -implicitDefEqProofs [ir_spec_l03Deg, ir_spec_l03Deg_B, e]
/-- Filled up with zeros to eight. -/
noncomputable def pd8 {p : Int} (S : List (Fp p)) : List (Fp p) := S ++ List.replicate (8 - S.length) 0
end Pe

namespace Pe
open Go Gq
variable {T : Nat → Option Fn} {A : Oracle}
theorem frIt_1000 {p : Int} [IsP p] {m y : Fp p} (hm : m ≠ 0) (hml : m.len ≤ 64) (hy : y.len ≤ 64) (k : Nat) : (frIt m k y).len ≤ 64 := by
  cases k with
  | zero => exact hy
  | succ k =>
    have := frIt_len hm k (pw y p.toNat % m) (Pol.len_mod _ hm)
    show (frIt m k (pw y p.toNat % m)).len ≤ 64
    omega
theorem l_by0 {O : Oracle} (hfr : K_frob O) (hpr : K_product O) (hco : K_combine2 O) {p : Int} [IsP p] {m x : Fp p} {a b : List (Fp p)} (h2 : 2 ≤ m.len) (hml : m.len ≤ 64) (hx : x.len ≤ 64) (hb : ∀ c ∈ b, c.len ≤ 64) {N i : Nat} (hN : N < 100000) (hi : i + b.length ≤ N) {cp : Option Nat} : ∀ (r k : Nat) (Q : List (Fp p)), k + r = b.length → Q.length = N → (∀ c ∈ Q, c.len ≤ 64) →
    (∀ c ∈ byIn m x i k (b.drop k) Q, c.len ≤ 64) ∧
    dn O 0 (.loop ir_impl_field_by_L0) ⟨[(2, .d (skD b)), (3, .ptr 0 []), (7, .sl 1 [] 0 N cp), (8, (.d (.int .i64 i))), (9, (.d (.sl .leaf (ints .i64 (row x))))), (27, .d (skD a)), (28, (.d (.int .i64 a.length))), (29, (.d (.int .i64 i))), (34, .d (skD b)), (35, (.d (.int .i64 b.length))), (36, (.d (.int .i64 k)))], [.box false (fldD m), .sl false .leaf (Q.map fun c => (D.sl .leaf (ints .i64 (row c))))]⟩ =
      some (.exit 2, ⟨[(2, .d (skD b)), (3, .ptr 0 []), (7, .sl 1 [] 0 N cp), (8, (.d (.int .i64 i))), (9, (.d (.sl .leaf (ints .i64 (row x))))), (27, .d (skD a)), (28, (.d (.int .i64 a.length))), (29, (.d (.int .i64 i))), (34, .d (skD b)), (35, (.d (.int .i64 b.length))), (36, (.d (.int .i64 b.length))), (37, (.d (.bool false)))], [.box false (fldD m), .sl false .leaf ((byIn m x i k (b.drop k) Q).map fun c => (D.sl .leaf (ints .i64 (row c))))]⟩)
  | 0, k, Q, hk, hq, hQ => by
    obtain rfl : k = b.length := by omega
    rw [List.drop_length]
    refine ⟨hQ, dn_stop ?_⟩
    show _ = some (_, (⟨_, [_, .sl false .leaf (Q.map fun c => (D.sl .leaf (ints .i64 (row c))))]⟩ : St))
    generalize (Q.map fun c => (D.sl .leaf (ints .i64 (row c)))) = LQ at *
    simp -implicitDefEqProofs [ir_impl_field_by_L0, dn_cond]
  | r + 1, k, Q, hk, hq, hQ => by
    have hm : m ≠ 0 := fun h => by rw [h, Pol.len_zero] at h2; omega
    have hlt : k < b.length := by omega
    have hm1 := List.getElem_mem hlt
    have hbk := hb _ hm1
    have hik : i + k < N := by omega
    have hikQ : i + k < Q.length := by omega
    have hq1 := hQ _ (List.getElem_mem hikQ)
    have w0 : IntKind.i64.wrap ((i : Int) + k) = ((i + k : Nat) : Int) := (w64 (x := (i : Int) + k) (by omega)).trans (by omega)
    have hs0 : (0 : Int) ≤ (i : Int) + k := by omega
    have hs1 : ((i : Int) + k).toNat = i + k := by omega
    have w4 : IntKind.i64.wrap ((k : Int) + 1) = ((k + 1 : Nat) : Int) := (w64 (x := (k : Int) + 1) (by omega)).trans (by omega)
    have e1 := hfr p m b[k] i h2 hml (by omega) (by omega)
    have hfl := frIt_1000 hm hml hbk (i % (m.len - 1))
    have e2 := hpr p m x (frIt m (i % (m.len - 1)) b[k]) hm hml (by omega) (by omega)
    have hl := Pol.len_mod (x * frIt m (i % (m.len - 1)) b[k]) hm
    have e3 := hco p Q[i + k] (x * frIt m (i % (m.len - 1)) b[k] % m) (by omega) (by omega)
    have hl2 := Pol.len_add_le (a := Q[i + k]) (b := x * frIt m (i % (m.len - 1)) b[k] % m) (n := 64) hq1 (by omega)
    have hadd : addAt Q (i + k) (x * frIt m (i % (m.len - 1)) b[k] % m) = Q.set (i + k) (Q[i + k] + x * frIt m (i % (m.len - 1)) b[k] % m) := by
      unfold addAt; rw [List.getElem?_eq_getElem hikQ]; rfl
    have hQ' : ∀ c ∈ addAt Q (i + k) (x * frIt m (i % (m.len - 1)) b[k] % m), c.len ≤ 64 := fun c hc => by
      rw [hadd] at hc
      rcases List.mem_or_eq_of_mem_set hc with h | rfl
      · exact hQ c h
      · exact hl2
    obtain ⟨g1, ih⟩ := l_by0 hfr hpr hco (a := a) h2 hml hx hb hN hi (cp := cp) r (k + 1) (addAt Q (i + k) (x * frIt m (i % (m.len - 1)) b[k] % m)) (by omega) (by rw [addAt_length]; exact hq) hQ'
    have hby : byIn m x i k (b.drop k) Q = byIn m x i (k + 1) (b.drop (k + 1)) (addAt Q (i + k) (x * frIt m (i % (m.len - 1)) b[k] % m)) := by
      rw [List.drop_eq_getElem_cons hlt]; rfl
    rw [hby]
    refine ⟨g1, dn_round ?_ ih⟩
    have hset : ((addAt Q (i + k) (x * frIt m (i % (m.len - 1)) b[k] % m)).map fun c => (D.sl .leaf (ints .i64 (row c)))) = (Q.map fun c => (D.sl .leaf (ints .i64 (row c)))).set (i + k) (D.sl .leaf (ints .i64 (row (Q[i + k] + x * frIt m (i % (m.len - 1)) b[k] % m)))) := by
      rw [hadd, List.map_set]
    rw [hset]
    have hLQ : (Q.map fun c => (D.sl .leaf (ints .i64 (row c)))).length = N := by rw [List.length_map]; exact hq
    have hx2 : ∀ h : i + k < (Q.map fun c => (D.sl .leaf (ints .i64 (row c)))).length, (Q.map fun c => (D.sl .leaf (ints .i64 (row c))))[i + k]'h = (D.sl .leaf (ints .i64 (row Q[i + k]))) := fun h => by rw [List.getElem_map]
    generalize row (Q[i + k] + x * frIt m (i % (m.len - 1)) b[k] % m) = R1 at *
    generalize row (x * frIt m (i % (m.len - 1)) b[k] % m) = R2 at *
    generalize row (frIt m (i % (m.len - 1)) b[k]) = R3 at *
    generalize row Q[i + k] = R4 at *
    generalize (Q.map fun c => (D.sl .leaf (ints .i64 (row c)))) = LQ at *
    simp -implicitDefEqProofs [ir_impl_field_by_L0, dn_cond, hlt, hik, hs0, hs1, hLQ, hx2, e1, e2, e3, w0, w4]
theorem l_by1 {O : Oracle} (hfr : K_frob O) (hpr : K_product O) (hco : K_combine2 O) {p : Int} [IsP p] {m : Fp p} {a b : List (Fp p)} (h2 : 2 ≤ m.len) (hml : m.len ≤ 64) (ha : ∀ c ∈ a, c.len ≤ 64) (hb : ∀ c ∈ b, c.len ≤ 64) {N : Nat} (hN : N < 100000) (hab : a.length + b.length ≤ N + 1) (hb1 : 1 ≤ b.length) {cp : Option Nat} : ∀ (r i : Nat) (Q : List (Fp p)), i + r = a.length → Q.length = N → (∀ c ∈ Q, c.len ≤ 64) →
    (∀ c ∈ byOut m b i (a.drop i) Q, c.len ≤ 64) ∧
    dn O 0 (.loop ir_impl_field_by_L1) ⟨[(2, .d (skD b)), (3, .ptr 0 []), (7, .sl 1 [] 0 N cp), (27, .d (skD a)), (28, (.d (.int .i64 a.length))), (29, (.d (.int .i64 i)))], [.box false (fldD m), .sl false .leaf (Q.map fun c => (D.sl .leaf (ints .i64 (row c))))]⟩ =
      some (.exit 0, ⟨[(2, .d (skD b)), (3, .ptr 0 []), (7, .sl 1 [] 0 N cp), (27, .d (skD a)), (28, (.d (.int .i64 a.length))), (29, (.d (.int .i64 a.length))), (30, (.d (.bool false)))], [.box false (fldD m), .sl false .leaf ((byOut m b i (a.drop i) Q).map fun c => (D.sl .leaf (ints .i64 (row c))))]⟩)
  | 0, i, Q, hi, hq, hQ => by
    obtain rfl : i = a.length := by omega
    rw [List.drop_length]
    refine ⟨hQ, dn_stop ?_⟩
    show _ = some (_, (⟨_, [_, .sl false .leaf (Q.map fun c => (D.sl .leaf (ints .i64 (row c))))]⟩ : St))
    generalize (Q.map fun c => (D.sl .leaf (ints .i64 (row c)))) = LQ at *
    simp -implicitDefEqProofs [ir_impl_field_by_L1, dn_cond]
  | r + 1, i, Q, hi, hq, hQ => by
    have hlt : i < a.length := by omega
    have hm1 := List.getElem_mem hlt
    have w4 : IntKind.i64.wrap ((i : Int) + 1) = ((i + 1 : Nat) : Int) := (w64 (x := (i : Int) + 1) (by omega)).trans (by omega)
    obtain ⟨g1, e1⟩ := l_by0 hfr hpr hco (a := a) h2 hml (ha _ hm1) hb hN (i := i) (by omega) (cp := cp) b.length 0 Q (Nat.zero_add _) hq hQ
    have e00 : ((0 : Nat) : Int) = 0 := rfl
    rw [e00, List.drop_zero] at e1
    rw [List.drop_zero] at g1
    obtain ⟨g2, ih⟩ := l_by1 hfr hpr hco h2 hml ha hb hN hab hb1 (cp := cp) r (i + 1) (byIn m a[i] i 0 b Q) (by omega) (by rw [byIn_length]; exact hq) g1
    have hby : byOut m b i (a.drop i) Q = byOut m b (i + 1) (a.drop (i + 1)) (byIn m a[i] i 0 b Q) := by
      rw [List.drop_eq_getElem_cons hlt]; rfl
    rw [hby]
    refine ⟨g2, dn_round ?_ ih⟩
    generalize ((byIn m a[i] i 0 b Q).map fun c => (D.sl .leaf (ints .i64 (row c)))) = LQ2 at *
    generalize (Q.map fun c => (D.sl .leaf (ints .i64 (row c)))) = LQ at *
    simp -implicitDefEqProofs [ir_impl_field_by_L1, dn_cond, hlt, e1, w4]
/-- The product, not trimmed. -/
noncomputable def mulS {p : Int} [IsP p] (m : Fp p) (a b : List (Fp p)) : List (Fp p) := byOut m b 0 a (List.replicate (a.length + b.length - 1) 0)
def K_by (O : Oracle) : Prop := ∀ (p : Int) [IsP p] (m : Fp p) (a b : List (Fp p)), 2 ≤ m.len → m.len ≤ 64 → (∀ c ∈ a, c.len ≤ 64) → (∀ c ∈ b, c.len ≤ 64) → a.length < 10000 → b.length < 10000 →
  ask O F_impl_field_by [fldD m, skD a, skD b] = some (if a.length = 0 ∨ b.length = 0 then skD ([] : List (Fp p)) else skD (trimS (mulS m a b)))
theorem k_by (hT : T F_impl_field_by = some ir_impl_field_by) (hfr : K_frob (den T A)) (hpr : K_product (den T A)) (hco : K_combine2 (den T A)) (htr : K_sktrim (den T A)) : K_by (den T A) := by
  intro p ip m a b h2 hml ha hb hal hbl
  have hsa : skD a = .sl .leaf (a.map fun c => (D.sl .leaf (ints .i64 (row c)))) := rfl
  have hsb : skD b = .sl .leaf (b.map fun c => (D.sl .leaf (ints .i64 (row c)))) := rfl
  have hLa : (a.map fun c => (D.sl .leaf (ints .i64 (row c)))).length = a.length := List.length_map ..
  have hLb : (b.map fun c => (D.sl .leaf (ints .i64 (row c)))).length = b.length := List.length_map ..
  by_cases h0 : a.length = 0 ∨ b.length = 0
  · rw [if_pos h0, hsa, hsb]
    refine ask_of hT rfl ?_
    generalize (a.map fun c => (D.sl .leaf (ints .i64 (row c)))) = LA at *
    generalize (b.map fun c => (D.sl .leaf (ints .i64 (row c)))) = LB at *
    rcases h0 with h0 | h0
    · rw [h0] at hLa
      simp -implicitDefEqProofs [ir_impl_field_by, ir_impl_field_by_B, dn_cond, hLa, List.replicate]
    · rw [h0] at hLb
      by_cases h1 : LA.length = 0
      · simp -implicitDefEqProofs [ir_impl_field_by, ir_impl_field_by_B, dn_cond, h1, List.replicate]
      · simp -implicitDefEqProofs [ir_impl_field_by, ir_impl_field_by_B, dn_cond, h1, hLb, List.replicate]
  · rw [if_neg h0]
    have ha1 : 1 ≤ a.length := by omega
    have hb1 : 1 ≤ b.length := by omega
    have hz : ((List.replicate (a.length + b.length - 1) (0 : Fp p)).map fun c => (D.sl .leaf (ints .i64 (row c)))) = List.replicate (a.length + b.length - 1) (.sl .leaf []) := by rw [List.map_replicate, row_zero, ints_nil]
    have hl0 : ∀ c ∈ List.replicate (a.length + b.length - 1) (0 : Fp p), c.len ≤ 64 := fun c hc => by rw [List.eq_of_mem_replicate hc, Pol.len_zero]; omega
    obtain ⟨g1, e1⟩ := l_by1 (O := den T A) hfr hpr hco h2 hml ha hb (N := a.length + b.length - 1) (by omega) (by omega) hb1 (cp := some (a.length + b.length - 1)) a.length 0 (List.replicate (a.length + b.length - 1) 0) (Nat.zero_add _) (List.length_replicate ..) hl0
    have e00 : ((0 : Nat) : Int) = 0 := rfl
    have em : byOut m b 0 (a.drop 0) (List.replicate (a.length + b.length - 1) 0) = mulS m a b := by rw [List.drop_zero]; rfl
    rw [e00, em, hz] at e1
    have hml2 : (mulS m a b).length = a.length + b.length - 1 := by unfold mulS; rw [byOut_length, List.length_replicate]
    have e2 := htr p (mulS m a b) (by omega)
    have hsm : skD (mulS m a b) = .sl .leaf ((mulS m a b).map fun c => (D.sl .leaf (ints .i64 (row c)))) := rfl
    have hLm : ((mulS m a b).map fun c => (D.sl .leaf (ints .i64 (row c)))).length = a.length + b.length - 1 := by rw [List.length_map]; exact hml2
    have ht : ((mulS m a b).map fun c => (D.sl .leaf (ints .i64 (row c)))).take (a.length + b.length - 1) = ((mulS m a b).map fun c => (D.sl .leaf (ints .i64 (row c)))) := List.take_of_length_le (by omega)
    rw [hsm] at e2
    have n1 : ¬ ((a.length : Int) = 0) := by omega
    have n2 : ¬ ((b.length : Int) = 0) := by omega
    have n1' : a.length ≠ 0 := by omega
    have n2' : b.length ≠ 0 := by omega
    have w1 : IntKind.i64.wrap ((a.length : Int) + b.length) = (a.length : Int) + b.length := w64 (by omega)
    have w2 : IntKind.i64.wrap ((a.length : Int) + b.length - 1) = ((a.length + b.length - 1 : Nat) : Int) := (w64 (by omega)).trans (by omega)
    have h24 : (a.length + b.length - 1) * 24 ≤ 1099511627776 := by omega
    generalize skD (trimS (mulS m a b)) = TD at *
    rw [hsa, hsb] at e1 ⊢
    refine ask_of hT rfl ?_
    generalize ((mulS m a b).map fun c => (D.sl .leaf (ints .i64 (row c)))) = LM at *
    generalize (a.map fun c => (D.sl .leaf (ints .i64 (row c)))) = LA at *
    generalize (b.map fun c => (D.sl .leaf (ints .i64 (row c)))) = LB at *
    generalize a.length + b.length - 1 = N at *
    simp -implicitDefEqProofs [ir_impl_field_by, ir_impl_field_by_B, dn_cond, hLa, hLb, n1', n2', w1, w2, h24, e1, e2, hLm, ht, List.replicate]
end Pe

namespace Pe
open Go Gq
variable {T : Nat → Option Fn} {A : Oracle}
theorem skP_get {p : Int} {S : List (Fp p)} {i : Nat} (hi : i < S.length) : ∀ h : i < ((skP S).map arr8).length, ((skP S).map arr8)[i]'h = (D.arr 64 .leaf (ints .u8 (pad (row S[i])))) := fun h => by rw [List.getElem_map, List.getElem_map]
theorem skP_len {p : Int} (S : List (Fp p)) : ((skP S).map arr8).length = S.length := by rw [List.length_map, List.length_map]
theorem l_sBy0 {O : Oracle} (hfr : K_sFrob O) (hmm : K_sMulMod O) (had : K_sAdd O) {p : Int} [IsP p] {m : Fp p} {S R : List (Fp p)} {z : List D} {vn : V} (hvn : vn.refs = []) (h2 : 2 ≤ m.len) (hml : m.len ≤ 64) (hS8 : S.length = 8) (hR8 : R.length = 8) (hS : ∀ c ∈ S, c.len < m.len) (hR : ∀ c ∈ R, c.len < m.len) {i nb : Nat} (hi : i < 8) (hnb : i + nb ≤ 8) (hnb1 : 1 ≤ nb) {x : Fp p} (hx : S[i]? = some x) : ∀ (r j : Nat) (Q : List (Fp p)), j + r = nb → Q.length = 8 → (∀ c ∈ Q, c.len < m.len) →
    (∀ c ∈ byIn m x i j ((R.take nb).drop j) Q, c.len < m.len) ∧
    dn O 0 (.loop ir_spec_l03Times_L0) ⟨[(0, (.d (.int .i64 p))), (5, .ptr 0 []), (6, .ptr 1 []), (7, .ptr 2 []), (8, .ptr 3 []), (10, vn), (11, (.d (.int .i64 (((nb - 1 : Nat) : Int))))), (12, .ptr 4 []), (13, (.d (.int .i64 i))), (14, (.d (.int .i64 j)))], [.box false (D.arr 64 .leaf (ints .u8 (pad (row m)))), .box false (.arr 8 (.arr 64 .leaf) ((skP S).map arr8)), .box false (.arr 8 (.arr 64 .leaf) ((skP R).map arr8)), .box false (.arr 8 (.arr 64 .leaf) z), .box false (.arr 8 (.arr 64 .leaf) ((skP Q).map arr8)), .hole]⟩ =
      some (.exit 2, ⟨[(0, (.d (.int .i64 p))), (5, .ptr 0 []), (6, .ptr 1 []), (7, .ptr 2 []), (8, .ptr 3 []), (10, vn), (11, (.d (.int .i64 (((nb - 1 : Nat) : Int))))), (12, .ptr 4 []), (13, (.d (.int .i64 i))), (14, (.d (.int .i64 nb))), (40, (.d (.bool false)))], [.box false (D.arr 64 .leaf (ints .u8 (pad (row m)))), .box false (.arr 8 (.arr 64 .leaf) ((skP S).map arr8)), .box false (.arr 8 (.arr 64 .leaf) ((skP R).map arr8)), .box false (.arr 8 (.arr 64 .leaf) z), .box false (.arr 8 (.arr 64 .leaf) ((skP (byIn m x i j ((R.take nb).drop j) Q)).map arr8)), .hole]⟩)
  | 0, j, Q, hj, hq, hQ => by
    obtain rfl : j = nb := by omega
    rw [List.drop_eq_nil_of_le (by rw [List.length_take]; omega)]
    have hlt : ¬ (j : Int) ≤ ((j - 1 : Nat) : Int) := by omega
    refine ⟨hQ, dn_stop ?_⟩
    show _ = some (_, (⟨_, [_, _, _, _, .box false (.arr 8 (.arr 64 .leaf) ((skP Q).map arr8)), _]⟩ : St))
    generalize ((j - 1 : Nat) : Int) = k1 at *
    generalize (skP S).map arr8 = LS at *
    generalize (skP R).map arr8 = LR at *
    generalize (skP Q).map arr8 = LQ at *
    generalize pad (row m) = Pm at *
    simp -implicitDefEqProofs [ir_spec_l03Times_L0, dn_cond, hlt, hvn]
  | r + 1, j, Q, hj, hq, hQ => by
    have hm : m ≠ 0 := fun h => by rw [h, Pol.len_zero] at h2; omega
    have hj8 : j < 8 := by omega
    have hij : i + j < 8 := by omega
    have hjR : j < R.length := by omega
    have hiS : i < S.length := by omega
    have hikQ : i + j < Q.length := by omega
    have hRj := hR _ (List.getElem_mem hjR)
    have hxe : S[i] = x := by rw [List.getElem?_eq_getElem hiS] at hx; exact Option.some.inj hx
    have hxl : x.len < m.len := by rw [← hxe]; exact hS _ (List.getElem_mem hiS)
    have hq1 := hQ _ (List.getElem_mem hikQ)
    have hle : (j : Int) ≤ ((nb - 1 : Nat) : Int) := by omega
    have w0 : IntKind.i64.wrap ((i : Int) + j) = ((i + j : Nat) : Int) := (w64 (x := (i : Int) + j) (by omega)).trans (by omega)
    have hs0 : (0 : Int) ≤ (i : Int) + j := by omega
    have hs1 : ((i : Int) + j).toNat = i + j := by omega
    have w4 : IntKind.i64.wrap ((j : Int) + 1) = ((j + 1 : Nat) : Int) := (w64 (x := (j : Int) + 1) (by omega)).trans (by omega)
    have e1 := hfr p m R[j] i h2 hml (by omega) (by omega)
    have hfl := frIt_len hm (i % (m.len - 1)) R[j] hRj
    have e2 := hmm p x (frIt m (i % (m.len - 1)) R[j]) m hm hml (by omega) (by omega)
    have hl := Pol.len_mod (x * frIt m (i % (m.len - 1)) R[j]) hm
    have e3 := had p 1 Q[i + j] (x * frIt m (i % (m.len - 1)) R[j] % m) (by omega) (by omega) (by omega) (by omega)
    rw [zp_one, Pol.C_one, Gq.one_mul] at e3
    have hl2 := Pol.len_add_le (a := Q[i + j]) (b := x * frIt m (i % (m.len - 1)) R[j] % m) (n := m.len - 1) (by omega) (by omega)
    have hadd : addAt Q (i + j) (x * frIt m (i % (m.len - 1)) R[j] % m) = Q.set (i + j) (Q[i + j] + x * frIt m (i % (m.len - 1)) R[j] % m) := by
      unfold addAt; rw [List.getElem?_eq_getElem hikQ]; rfl
    have hQ' : ∀ c ∈ addAt Q (i + j) (x * frIt m (i % (m.len - 1)) R[j] % m), c.len < m.len := fun c hc => by
      rw [hadd] at hc
      rcases List.mem_or_eq_of_mem_set hc with h | rfl
      · exact hQ c h
      · omega
    obtain ⟨g1, ih⟩ := l_sBy0 hfr hmm had (z := z) hvn h2 hml hS8 hR8 hS hR hi hnb hnb1 hx r (j + 1) (addAt Q (i + j) (x * frIt m (i % (m.len - 1)) R[j] % m)) (by omega) (by rw [addAt_length]; exact hq) hQ'
    have hby : byIn m x i j ((R.take nb).drop j) Q = byIn m x i (j + 1) ((R.take nb).drop (j + 1)) (addAt Q (i + j) (x * frIt m (i % (m.len - 1)) R[j] % m)) := by
      rw [List.drop_eq_getElem_cons (by rw [List.length_take]; omega), List.getElem_take]; rfl
    rw [hby]
    refine ⟨g1, dn_round ?_ ih⟩
    have hset : (skP (addAt Q (i + j) (x * frIt m (i % (m.len - 1)) R[j] % m))).map arr8 = ((skP Q).map arr8).set (i + j) (D.arr 64 .leaf (ints .u8 (pad (row (Q[i + j] + x * frIt m (i % (m.len - 1)) R[j] % m))))) := by
      rw [hadd]; unfold skP; rw [List.map_set, List.map_set]
    rw [hset]
    have hLS := skP_len S
    have hLR := skP_len R
    have hLQ := skP_len Q
    rw [hS8] at hLS
    rw [hR8] at hLR
    rw [hq] at hLQ
    have hxS := skP_get hiS
    rw [hxe] at hxS
    have hxR := skP_get hjR
    have hxQ := skP_get hikQ
    generalize pad (row (Q[i + j] + x * frIt m (i % (m.len - 1)) R[j] % m)) = P1 at *
    generalize pad (row (x * frIt m (i % (m.len - 1)) R[j] % m)) = P2 at *
    generalize pad (row (frIt m (i % (m.len - 1)) R[j])) = P3 at *
    generalize pad (row Q[i + j]) = P4 at *
    generalize pad (row R[j]) = P5 at *
    generalize pad (row x) = P6 at *
    generalize (skP S).map arr8 = LS at *
    generalize (skP R).map arr8 = LR at *
    generalize (skP Q).map arr8 = LQ at *
    generalize pad (row m) = Pm at *
    generalize ((nb - 1 : Nat) : Int) = k1 at *
    simp -implicitDefEqProofs [ir_spec_l03Times_L0, dn_cond, hle, hi, hj8, hij, hs0, hs1, hLS, hLR, hLQ, hxS, hxR, hxQ, e1, e2, e3, w0, w4, hvn]
end Pe

namespace Pe
open Go Gq
variable {T : Nat → Option Fn} {A : Oracle}
theorem l_sBy1 {O : Oracle} (hfr : K_sFrob O) (hmm : K_sMulMod O) (had : K_sAdd O) {p : Int} [IsP p] {m : Fp p} {S R : List (Fp p)} {z : List D} (h2 : 2 ≤ m.len) (hml : m.len ≤ 64) (hS8 : S.length = 8) (hR8 : R.length = 8) (hS : ∀ c ∈ S, c.len < m.len) (hR : ∀ c ∈ R, c.len < m.len) {na nb : Nat} (hna : 1 ≤ na) (hnb : 1 ≤ nb) (hab : na + nb ≤ 9) : ∀ (r i : Nat) (Q : List (Fp p)), i + r = na → Q.length = 8 → (∀ c ∈ Q, c.len < m.len) →
    (∀ c ∈ byOut m (R.take nb) i ((S.take na).drop i) Q, c.len < m.len) ∧
    dn O 0 (.loop ir_spec_l03Times_L1) ⟨[(0, (.d (.int .i64 p))), (5, .ptr 0 []), (6, .ptr 1 []), (7, .ptr 2 []), (8, .ptr 3 []), (10, (.d (.int .i64 (((na - 1 : Nat) : Int))))), (11, (.d (.int .i64 (((nb - 1 : Nat) : Int))))), (12, .ptr 4 []), (13, (.d (.int .i64 i)))], [.box false (D.arr 64 .leaf (ints .u8 (pad (row m)))), .box false (.arr 8 (.arr 64 .leaf) ((skP S).map arr8)), .box false (.arr 8 (.arr 64 .leaf) ((skP R).map arr8)), .box false (.arr 8 (.arr 64 .leaf) z), .box false (.arr 8 (.arr 64 .leaf) ((skP Q).map arr8)), .hole]⟩ =
      some (.exit 0, ⟨[(0, (.d (.int .i64 p))), (5, .ptr 0 []), (6, .ptr 1 []), (7, .ptr 2 []), (8, .ptr 3 []), (10, (.d (.int .i64 (((na - 1 : Nat) : Int))))), (11, (.d (.int .i64 (((nb - 1 : Nat) : Int))))), (12, .ptr 4 []), (13, (.d (.int .i64 na))), (35, (.d (.bool false)))], [.box false (D.arr 64 .leaf (ints .u8 (pad (row m)))), .box false (.arr 8 (.arr 64 .leaf) ((skP S).map arr8)), .box false (.arr 8 (.arr 64 .leaf) ((skP R).map arr8)), .box false (.arr 8 (.arr 64 .leaf) z), .box false (.arr 8 (.arr 64 .leaf) ((skP (byOut m (R.take nb) i ((S.take na).drop i) Q)).map arr8)), .hole]⟩)
  | 0, i, Q, hi, hq, hQ => by
    obtain rfl : i = na := by omega
    rw [List.drop_eq_nil_of_le (by rw [List.length_take]; omega)]
    have hlt : ¬ (i : Int) ≤ ((i - 1 : Nat) : Int) := by omega
    refine ⟨hQ, dn_stop ?_⟩
    show _ = some (_, (⟨_, [_, _, _, _, .box false (.arr 8 (.arr 64 .leaf) ((skP Q).map arr8)), _]⟩ : St))
    generalize ((i - 1 : Nat) : Int) = k1 at *
    generalize ((nb - 1 : Nat) : Int) = k2 at *
    generalize (skP S).map arr8 = LS at *
    generalize (skP R).map arr8 = LR at *
    generalize (skP Q).map arr8 = LQ at *
    generalize pad (row m) = Pm at *
    simp -implicitDefEqProofs [ir_spec_l03Times_L1, dn_cond, hlt]
  | r + 1, i, Q, hi, hq, hQ => by
    have hin : i < (S.take na).length := by rw [List.length_take]; omega
    have hiS : i < S.length := by omega
    have hle : (i : Int) ≤ ((na - 1 : Nat) : Int) := by omega
    have w4 : IntKind.i64.wrap ((i : Int) + 1) = ((i + 1 : Nat) : Int) := (w64 (x := (i : Int) + 1) (by omega)).trans (by omega)
    obtain ⟨g1, e1⟩ := l_sBy0 (O := O) hfr hmm had (z := z) (vn := (.d (.int .i64 (((na - 1 : Nat) : Int))))) rfl h2 hml hS8 hR8 hS hR (i := i) (nb := nb) (by omega) (by omega) hnb (x := S[i]) (List.getElem?_eq_getElem hiS) nb 0 Q (Nat.zero_add _) hq hQ
    have e00 : ((0 : Nat) : Int) = 0 := rfl
    rw [e00, List.drop_zero] at e1
    rw [List.drop_zero] at g1
    obtain ⟨g2, ih⟩ := l_sBy1 hfr hmm had (z := z) h2 hml hS8 hR8 hS hR hna hnb hab r (i + 1) (byIn m S[i] i 0 (R.take nb) Q) (by omega) (by rw [byIn_length]; exact hq) g1
    have hby : byOut m (R.take nb) i ((S.take na).drop i) Q = byOut m (R.take nb) (i + 1) ((S.take na).drop (i + 1)) (byIn m S[i] i 0 (R.take nb) Q) := by
      rw [List.drop_eq_getElem_cons hin, List.getElem_take]; rfl
    rw [hby]
    refine ⟨g2, dn_round ?_ ih⟩
    generalize (skP (byIn m S[i] i 0 (R.take nb) Q)).map arr8 = LQ2 at *
    generalize (skP S).map arr8 = LS at *
    generalize (skP R).map arr8 = LR at *
    generalize (skP Q).map arr8 = LQ at *
    generalize pad (row m) = Pm at *
    generalize ((nb - 1 : Nat) : Int) = k1 at *
    generalize ((na - 1 : Nat) : Int) = k2 at *
    simp -implicitDefEqProofs [ir_spec_l03Times_L1, dn_cond, hle, e1, w4]
noncomputable def zs8 {p : Int} : List (Fp p) := List.replicate 8 0
/-- What the reference's product answers. -/
noncomputable def timesD {p : Int} [IsP p] (m : Fp p) (S R : List (Fp p)) : D :=
  if (trimS S).length = 0 ∨ (trimS R).length = 0 then .tup [skwD (skP (zs8 (p := p))), (D.bool true)]
  else if 9 < (trimS S).length + (trimS R).length then .tup [skwD (skP (zs8 (p := p))), (D.bool false)]
  else .tup [skwD (skP (byOut m (trimS R) 0 (trimS S) zs8)), (D.bool true)]
theorem trimS_8 {p : Int} {S : List (Fp p)} (h : S.length = 8) : trimS S = S.take (stl S 8) := by unfold trimS; rw [h]
theorem trimS_len8 {p : Int} {S : List (Fp p)} (h : S.length = 8) : (trimS S).length = stl S 8 := by
  rw [trimS_8 h, List.length_take]; have := stl_le S 8; omega
def K_sTimes3 (O : Oracle) : Prop := ∀ (p : Int) [IsP p] (m : Fp p) (S R : List (Fp p)), 2 ≤ m.len → m.len ≤ 64 → S.length = 8 → R.length = 8 → (∀ c ∈ S, c.len < m.len) → (∀ c ∈ R, c.len < m.len) → ask O F_spec_l03Times [(D.int .i64 p), (D.arr 64 .leaf (ints .u8 (pad (row m)))), skwD (skP S), skwD (skP R)] = some (timesD m S R)
theorem z8_zs {p : Int} : (skP (zs8 (p := p))).map arr8 = z8 := by
  unfold skP zs8
  rw [List.map_replicate, List.map_replicate, row_zero]
  rfl
theorem k_sTimes3 (hT : T F_spec_l03Times = some ir_spec_l03Times) (hdg : K_sSkDeg (den T A)) (hfr : K_sFrob (den T A)) (hmm : K_sMulMod (den T A)) (had : K_sAdd (den T A)) : K_sTimes3 (den T A) := by
  intro p ip m S R h2 hml hS8 hR8 hS hR
  have e1 := hdg p S hS8 (fun a ha => by have := hS a ha; omega)
  have e2 := hdg p R hR8 (fun a ha => by have := hR a ha; omega)
  unfold timesD
  rw [trimS_len8 hS8, trimS_len8 hR8, trimS_8 hS8, trimS_8 hR8]
  have l1 := stl_le S 8
  have l2 := stl_le R 8
  generalize stl S 8 = na at *
  generalize stl R 8 = nb at *
  have hskS : skwD (skP S) = .arr 8 (.arr 64 .leaf) ((skP S).map arr8) := rfl
  have hskR : skwD (skP R) = .arr 8 (.arr 64 .leaf) ((skP R).map arr8) := rfl
  have hskZ : skwD (skP (zs8 (p := p))) = .arr 8 (.arr 64 .leaf) z8 := by rw [← z8_zs (p := p)]
  have w1 : IntKind.i64.wrap ((na : Int) - 1 + (nb - 1)) = (na : Int) - 1 + (nb - 1) := w64 (by omega)
  rw [hskS] at e1 ⊢
  rw [hskR] at e2 ⊢
  by_cases h0 : na = 0 ∨ nb = 0
  · rw [if_pos h0, hskZ]
    refine ask_of hT rfl ?_
    rcases h0 with rfl | rfl
    · generalize (skP S).map arr8 = LS at *
      generalize (skP R).map arr8 = LR at *
      generalize pad (row m) = Pm at *
      simp -implicitDefEqProofs [ir_spec_l03Times, ir_spec_l03Times_B, dn_cond, e1, e2, List.replicate]
    · generalize (skP S).map arr8 = LS at *
      generalize (skP R).map arr8 = LR at *
      generalize pad (row m) = Pm at *
      by_cases hn : na = 0
      · subst hn
        simp -implicitDefEqProofs [ir_spec_l03Times, ir_spec_l03Times_B, dn_cond, e1, e2, List.replicate]
      · have hlt : ¬ ((na : Int) - 1 < 0) := by omega
        have hlt2 : na ≠ 0 := hn
        have hlt3 : (1 : Int) ≤ na := by omega
        have hlt4 : ¬ ((na : Int) < 1) := by omega
        simp -implicitDefEqProofs [ir_spec_l03Times, ir_spec_l03Times_B, dn_cond, e1, e2, hlt, List.replicate]
  · rw [if_neg h0]
    have a1 : ((na : Int) - 1) = ((na - 1 : Nat) : Int) := by omega
    have a2 : ((nb : Int) - 1) = ((nb - 1 : Nat) : Int) := by omega
    rw [a1, a2] at w1
    rw [a1] at e1
    rw [a2] at e2
    have hn1 : ¬ ((na - 1 : Nat) : Int) < 0 := by omega
    have hn2 : ¬ ((nb - 1 : Nat) : Int) < 0 := by omega
    by_cases h9 : 9 < na + nb
    · rw [if_pos h9, hskZ]
      have hgt : (7 : Int) < ((na - 1 : Nat) : Int) + ((nb - 1 : Nat) : Int) := by omega
      refine ask_of hT rfl ?_
      generalize (skP S).map arr8 = LS at *
      generalize (skP R).map arr8 = LR at *
      generalize pad (row m) = Pm at *
      generalize na - 1 = k1 at *
      generalize nb - 1 = k2 at *
      simp -implicitDefEqProofs [ir_spec_l03Times, ir_spec_l03Times_B, dn_cond, e1, e2, w1, hgt, hn1, hn2, List.replicate]
    · rw [if_neg h9]
      have hgt : ¬ (7 : Int) < ((na - 1 : Nat) : Int) + ((nb - 1 : Nat) : Int) := by omega
      obtain ⟨_, e3⟩ := l_sBy1 (O := den T A) hfr hmm had (z := z8) h2 hml hS8 hR8 hS hR (na := na) (nb := nb) (by omega) (by omega) (by omega) na 0 zs8 (Nat.zero_add _) rfl (fun c hc => by rw [List.eq_of_mem_replicate hc, Pol.len_zero]; omega)
      have e00 : ((0 : Nat) : Int) = 0 := rfl
      rw [e00, List.drop_zero, z8_zs] at e3
      have hskQ : skwD (skP (byOut m (R.take nb) 0 (S.take na) zs8)) = .arr 8 (.arr 64 .leaf) ((skP (byOut m (R.take nb) 0 (S.take na) zs8)).map arr8) := rfl
      rw [hskQ]
      refine ask_of hT rfl ?_
      generalize (skP (byOut m (R.take nb) 0 (S.take na) zs8)).map arr8 = LQ at *
      generalize (skP S).map arr8 = LS at *
      generalize (skP R).map arr8 = LR at *
      generalize pad (row m) = Pm at *
      generalize na - 1 = k1 at *
      generalize nb - 1 = k2 at *
      simp -implicitDefEqProofs [ir_spec_l03Times, ir_spec_l03Times_B, dn_cond, e1, e2, e3, w1, hgt, hn1, hn2, List.replicate]
section
variable {p : Int}
theorem addAt_get_ne {Q : List (Fp p)} {n j : Nat} {v : Fp p} (h : n ≠ j) : (addAt Q n v)[j]? = Q[j]? := by
  unfold addAt; rw [List.getElem?_set_ne h]
theorem addAt_app {Q Z : List (Fp p)} {n : Nat} {v : Fp p} (h : n < Q.length) : addAt (Q ++ Z) n v = addAt Q n v ++ Z := by
  unfold addAt
  rw [List.getElem?_append_left h, List.set_append_left _ _ h]
theorem pd8_nil : pd8 ([] : List (Fp p)) = zs8 := rfl
end
section
variable {p : Int} [IsP p]
theorem byIn_get_ge {m x : Fp p} {i n : Nat} : ∀ (k : Nat) (b Q : List (Fp p)), i + k + b.length ≤ n → (byIn m x i k b Q)[n]? = Q[n]?
  | _, [], _, _ => rfl
  | k, y :: ys, Q, h => by
    rw [List.length_cons] at h
    show (byIn m x i (k + 1) ys (addAt Q (i + k) _))[n]? = _
    rw [byIn_get_ge (k + 1) ys _ (by omega), addAt_get_ne (by omega)]
theorem byOut_get_ge {m : Fp p} {b : List (Fp p)} {n : Nat} : ∀ (i : Nat) (a Q : List (Fp p)), i + a.length + b.length ≤ n + 1 → (byOut m b i a Q)[n]? = Q[n]?
  | _, [], _, _ => rfl
  | i, x :: xs, Q, h => by
    rw [List.length_cons] at h
    show (byOut m b (i + 1) xs (byIn m x i 0 b Q))[n]? = _
    rw [byOut_get_ge (i + 1) xs _ (by omega), byIn_get_ge 0 b Q (by omega)]
theorem byIn_snoc {m x y : Fp p} {i : Nat} : ∀ (k : Nat) (b Q : List (Fp p)), byIn m x i k (b ++ [y]) Q = addAt (byIn m x i k b Q) (i + (k + b.length)) (x * frIt m (i % (m.len - 1)) y % m)
  | _, [], _ => rfl
  | k, z :: zs, Q => by
    show byIn m x i (k + 1) (zs ++ [y]) (addAt Q (i + k) _) = addAt (byIn m x i (k + 1) zs (addAt Q (i + k) _)) _ _
    rw [byIn_snoc (k + 1) zs, List.length_cons, show i + (k + 1 + zs.length) = i + (k + (zs.length + 1)) by omega]
theorem byOut_snoc {m x : Fp p} {b : List (Fp p)} : ∀ (i : Nat) (a Q : List (Fp p)), byOut m b i (a ++ [x]) Q = byIn m x (i + a.length) 0 b (byOut m b i a Q)
  | _, [], _ => rfl
  | i, z :: zs, Q => by
    show byOut m b (i + 1) (zs ++ [x]) (byIn m z i 0 b Q) = byIn m x _ 0 b (byOut m b (i + 1) zs (byIn m z i 0 b Q))
    rw [byOut_snoc (i + 1) zs, List.length_cons, show i + 1 + zs.length = i + (zs.length + 1) by omega]
theorem byIn_app {m x : Fp p} {i : Nat} {Z : List (Fp p)} : ∀ (k : Nat) (b Q : List (Fp p)), i + k + b.length ≤ Q.length → byIn m x i k b (Q ++ Z) = byIn m x i k b Q ++ Z
  | _, [], _, _ => rfl
  | k, y :: ys, Q, h => by
    rw [List.length_cons] at h
    show byIn m x i (k + 1) ys (addAt (Q ++ Z) (i + k) _) = byIn m x i (k + 1) ys (addAt Q (i + k) _) ++ Z
    rw [addAt_app (by omega), byIn_app (k + 1) ys _ (by rw [addAt_length]; omega)]
theorem byOut_app {m : Fp p} {b Z : List (Fp p)} : ∀ (i : Nat) (a Q : List (Fp p)), i + a.length + b.length ≤ Q.length + 1 → byOut m b i a (Q ++ Z) = byOut m b i a Q ++ Z
  | _, [], _, _ => rfl
  | i, x :: xs, Q, h => by
    rw [List.length_cons] at h
    show byOut m b (i + 1) xs (byIn m x i 0 b (Q ++ Z)) = byOut m b (i + 1) xs (byIn m x i 0 b Q) ++ Z
    rw [byIn_app 0 b Q (by omega), byOut_app (i + 1) xs _ (by rw [byIn_length]; omega)]
theorem mul_mod_ne {m x y : Fp p} (hi : Irr m) (hx : x ≠ 0) (hxl : x.len < m.len) (hy : y ≠ 0) (hyl : y.len < m.len) : x * y % m ≠ 0 := fun h => by
  rcases hi.prime ((dv_iff_mod hi.ne).2 h) with h | h
  · have := Dv.len h hx; omega
  · have := Dv.len h hy; omega
theorem frIt_ne {m : Fp p} (hm : Fld m) : ∀ (k : Nat) (y : Fp p), y ≠ 0 → y.len < m.len → frIt m k y ≠ 0
  | 0, _, h, _ => h
  | k + 1, y, h, hl => by
    obtain ⟨h1, h2⟩ := pw_res hm h hl p.toNat
    exact frIt_ne hm k _ h1 h2
end
section
variable {p : Int}
theorem stl_last {S : List (Fp p)} : ∀ (n k : Nat), stl S n = k + 1 → S[k]? ≠ some 0
  | 0, k, h => by cases h
  | n + 1, k, h => by
    unfold stl at h
    split at h
    · exact stl_last n k h
    · rename_i h0
      obtain rfl : n = k := by omega
      exact h0
theorem stl_top {S : List (Fp p)} {n : Nat} (h : S[n]? ≠ some 0) : stl S (n + 1) = n + 1 := by
  unfold stl; rw [if_neg h]
theorem trimS_form {S : List (Fp p)} (h : (trimS S).length ≠ 0) : ∃ a x, trimS S = a ++ [x] ∧ x ≠ 0 := by
  have hle := stl_le S S.length
  have hl : (trimS S).length = stl S S.length := by unfold trimS; rw [List.length_take]; omega
  obtain ⟨k, hk⟩ : ∃ k, stl S S.length = k + 1 := ⟨stl S S.length - 1, by omega⟩
  have h1 := stl_last _ _ hk
  have hlt : k < S.length := by omega
  rw [List.getElem?_eq_getElem hlt] at h1
  refine ⟨S.take k, S[k], ?_, fun h => h1 (by rw [h])⟩
  unfold trimS
  rw [hk, List.take_succ_eq_append_getElem hlt]
theorem trimS_top {S : List (Fp p)} {n : Nat} (hl : S.length = n + 1) (h : S[n]? ≠ some 0) : trimS S = S := by
  unfold trimS
  rw [hl, stl_top h, ← hl, List.take_length]
end
section
variable {p : Int} [IsP p]
theorem mulS_top {m x y : Fp p} (hm : Fld m) {a b : List (Fp p)} (hx : x ≠ 0) (hxl : x.len < m.len) (hy : y ≠ 0) (hyl : y.len < m.len) : trimS (mulS m (a ++ [x]) (b ++ [y])) = mulS m (a ++ [x]) (b ++ [y]) := by
  have hl : (mulS m (a ++ [x]) (b ++ [y])).length = a.length + b.length + 1 := by
    unfold mulS
    rw [byOut_length, List.length_replicate, List.length_append, List.length_append]
    simp only [List.length_cons, List.length_nil]; omega
  refine trimS_top hl ?_
  have hfy : frIt m (a.length % (m.len - 1)) y ≠ 0 := frIt_ne hm _ y hy hyl
  have hfl := frIt_len hm.mon.2 (a.length % (m.len - 1)) y hyl
  have hne := mul_mod_ne hm.irr hx hxl hfy hfl
  unfold mulS
  rw [byOut_snoc, byIn_snoc]
  unfold addAt
  rw [byIn_get_ge _ _ _ (by omega), byOut_get_ge _ _ _ (by rw [List.length_append, List.length_cons, List.length_nil]; omega)]
  have hN : 0 + a.length + (0 + b.length) = a.length + b.length := by omega
  rw [hN, List.getElem?_set_self (by rw [byIn_length, byOut_length, List.length_replicate, List.length_append, List.length_append]; simp only [List.length_cons, List.length_nil]; omega)]
  rw [List.getElem?_replicate, if_pos (by rw [List.length_append, List.length_append]; simp only [List.length_cons, List.length_nil]; omega)]
  show some ((0 : Fp p) + _) ≠ some 0
  rw [Gq.zero_add, show 0 + a.length = a.length by omega]
  exact fun h => hne (Option.some.inj h)
/-- The product, trimmed. -/
noncomputable def prodS (m : Fp p) (a b : List (Fp p)) : List (Fp p) := if a.length = 0 ∨ b.length = 0 then [] else trimS (mulS m a b)
theorem pd8_mulS {m : Fp p} {a b : List (Fp p)} (ha : 1 ≤ a.length) (hb : 1 ≤ b.length) (h : a.length + b.length ≤ 9) : pd8 (mulS m a b) = byOut m b 0 a zs8 := by
  unfold pd8 mulS zs8
  rw [byOut_length, List.length_replicate, ← byOut_app _ _ _ (by rw [List.length_replicate]; omega), List.replicate_append_replicate, show a.length + b.length - 1 + (8 - (a.length + b.length - 1)) = 8 by omega]
end
end Pe

namespace Pe
open Go Gq
variable {T : Nat → Option Fn} {A : Oracle}
section
variable {p : Int} [IsP p]
theorem addAt_lens {N n : Nat} {Q : List (Fp p)} {v : Fp p} (hQ : ∀ c ∈ Q, c.len ≤ N) (hv : v.len ≤ N) : ∀ c ∈ addAt Q n v, c.len ≤ N := fun c hc => by
  unfold addAt at hc
  rcases List.mem_or_eq_of_mem_set hc with h | rfl
  · exact hQ c h
  · refine Pol.len_add_le ?_ hv
    cases he : Q[n]? with
    | none => show (0 : Fp p).len ≤ N; rw [Pol.len_zero]; omega
    | some w => exact hQ w (List.mem_of_getElem? he)
end
end Pe



namespace Pe
open Go Gq
variable {T : Nat → Option Fn} {A : Oracle}
abbrev z6 : List Int := List.replicate 6 0
section
variable {p : Int} [IsP p]
noncomputable def mono (p : Int) (i : Nat) : Fp p := numP p (p ^ i)
end
def updR (f : Nat → List Int) : Nat → Nat → List (List Int) → List (List Int)
  | 0, _, L => L
  | m + 1, i, L => updR f m (i + 1) (L.set i (f i))
end Pe

namespace Pe
open Go Gq
variable {T : Nat → Option Fn} {A : Oracle}
section
variable {O : Oracle} {g : Nat} {first caps : List D}
/-- A comparison of a list's elements. -/
structure CmpRow (O : Oracle) (g : Nat) (first caps : List D) (f : D → Int) (s : Sh) (cs : List D) : Prop where
  nf : noTup first
  nc : noTup caps
  nx : noTup cs
  sh : AllSh s cs
  ask : ∀ x ∈ cs, ∀ y ∈ cs, ∃ v : Int, ask O g (first ++ [x, y] ++ caps) = some (D.int .i64 v) ∧ (v < 0 ↔ f x < f y)
theorem CmpRow.perm {f : D → Int} {s : Sh} {cs ds : List D} (h : CmpRow O g first caps f s cs) (p : ds.Perm cs) : CmpRow O g first caps f s ds :=
  ⟨h.nf, h.nc, fun x hx => h.nx x (p.subset hx), fun x hx => h.sh x (p.subset hx), fun x hx y hy => h.ask x (p.subset hx) y (p.subset hy)⟩
theorem CmpRow.call {f : D → Int} {s : Sh} {cs : List D} (h : CmpRow O g first caps f s cs) {hp : Heap} {np : Nat} {news : List Nat} {x y : D} (hx : x ∈ cs) (hy : y ∈ cs) :
    ∃ v : Int, kCall O np hp .flat news (g, first.map .d, caps.map .d) [.d x, .d y] = some (.d (D.int .i64 v), hp) ∧ (v < 0 ↔ f x < f y) := by
  have e : toDs hp (first.map .d ++ [.d x, .d y] ++ caps.map .d) = some (first ++ [x, y] ++ caps) :=
    toDs_app hp (toDs_app hp (toDs_map hp h.nf) (toDs_map hp (ds := [x, y]) (by intro z hz; simp at hz; rcases hz with rfl | rfl; exact h.nx _ hx; exact h.nx _ hy))) (toDs_map hp h.nc)
  obtain ⟨v, e1, e2⟩ := h.ask x hx y hy
  refine ⟨v, ?_, e2⟩
  rw [kCall_flat, e, Option.bind_some, kAsk_ask, e1, Option.bind_some, kAns_flat, show (D.int IntKind.i64 v).flat = true from rfl, if_pos rfl]
end
end Pe

namespace Pe
open Go Gq
variable {T : Nat → Option Fn} {A : Oracle}
section
variable {p : Int}
/-- b without its part at the degree of a. -/
noncomputable def elim (a b : Fp p) : Fp p := b + Pol.C (-(b.c (a.len - 1))) * a
noncomputable def redS : List (Fp p) → Fp p → Fp p
  | [], a => a
  | b :: bs, a => redS bs (elim b a)
noncomputable def insS (a : Fp p) : List (Fp p) → List (Fp p)
  | [] => [a]
  | b :: bs => if b.len < a.len then a :: (b :: bs).map (elim a) else elim a b :: insS a bs
theorem insS_perm (a : Fp p) : ∀ L : List (Fp p), (insS a L).Perm (L.map (elim a) ++ [a])
  | [] => .refl _
  | b :: bs => by
    unfold insS
    split
    · exact (List.perm_append_singleton a ((b :: bs).map (elim a))).symm
    · exact (insS_perm a bs).cons _
theorem c_ge {a : Fp p} {n : Nat} (h : a.len ≤ n) : a.c n = 0 := a.lt_len n h
theorem elim_c (a b : Fp p) (n : Nat) : (elim a b).c n = b.c n + -(b.c (a.len - 1)) * a.c n := by
  unfold elim; rw [Pol.c_add, Pol.c_Cmul]
theorem insS_mem {a c : Fp p} : ∀ {L : List (Fp p)}, c ∈ insS a L → c = a ∨ ∃ b ∈ L, c = elim a b := fun {L} h => by
  have := (insS_perm a L).subset h
  rcases List.mem_append.1 this with h | h
  · obtain ⟨b, hb, rfl⟩ := List.mem_map.1 h; exact .inr ⟨b, hb, rfl⟩
  · exact .inl (by simpa using h)
noncomputable abbrev rowD (a : Fp p) : D := (D.sl .leaf (ints .i64 (row a)))
theorem redS_keep {n : Nat} : ∀ {L : List (Fp p)} {a : Fp p}, (∀ b ∈ L, b.len ≤ n) → (redS L a).c n = a.c n
  | [], _, _ => rfl
  | b :: L, a, h => by
    show (redS L (elim b a)).c n = _
    rw [redS_keep (L := L) (fun c hc => h c (by simp [hc])), elim_c, c_ge (a := b) (h b (by simp)), Gq.mul_zero, Gq.add_zero]
end
section
variable {p : Int} [IsP p]
/-- Strictly descending degrees, all monic. -/
structure Desc (N : Nat) (L : List (Fp p)) : Prop where
  pw : L.Pairwise fun x y => y.len < x.len
  mon : ∀ b ∈ L, Monic b
  le : ∀ b ∈ L, b.len ≤ N
theorem Desc.nil (N : Nat) : Desc N ([] : List (Fp p)) := ⟨List.Pairwise.nil, (fun _ h => by cases h), (fun _ h => by cases h)⟩
theorem Desc.tail {N : Nat} {b : Fp p} {L : List (Fp p)} (h : Desc N (b :: L)) : Desc N L ∧ ∀ c ∈ L, c.len < b.len :=
  ⟨⟨h.pw.tail, fun c hc => h.mon c (by simp [hc]), fun c hc => h.le c (by simp [hc])⟩, (List.pairwise_cons.1 h.pw).1⟩
theorem Desc.length : ∀ {N : Nat} {L : List (Fp p)}, Desc N L → L.length ≤ N
  | N, [], _ => Nat.zero_le _
  | N, b :: L, h => by
    obtain ⟨h1, h2⟩ := h.tail
    have hb := Pol.len_pos (h.mon b (by simp)).2
    have hle := h.le b (by simp)
    have := Desc.length (N := b.len - 1) ⟨h1.pw, h1.mon, fun c hc => by have := h2 c hc; omega⟩
    rw [List.length_cons]; omega
theorem elim_le {N : Nat} {a b : Fp p} (ha : a.len ≤ N) (hb : b.len ≤ N) : (elim a b).len ≤ N := by
  unfold elim
  refine Pol.len_add_le hb (Pol.len_le fun i hi => ?_)
  rw [Pol.c_Cmul, c_ge (a := a) (by omega), Gq.mul_zero]
theorem elim_at {a : Fp p} (ha : Monic a) (b : Fp p) : (elim a b).c (a.len - 1) = 0 := by
  rw [elim_c, show a.c (a.len - 1) = 1 from ha.1, Gq.mul_one]
  exact Gq.add_neg _
theorem redS_le {N : Nat} : ∀ {L : List (Fp p)} {a : Fp p}, (∀ b ∈ L, b.len ≤ N) → a.len ≤ N → (redS L a).len ≤ N
  | [], _, _, ha => ha
  | b :: L, a, h, ha => redS_le (L := L) (fun c hc => h c (by simp [hc])) (elim_le (h b (by simp)) ha)
theorem redS_zero {N : Nat} : ∀ {L : List (Fp p)} {a : Fp p}, Desc N L → ∀ b ∈ L, (redS L a).c (b.len - 1) = 0
  | b :: L, a, h, c, hc => by
    obtain ⟨h1, h2⟩ := h.tail
    show (redS L (elim b a)).c _ = 0
    rcases List.mem_cons.1 hc with rfl | hc
    · rw [redS_keep (L := L) (fun d hd => by have := h2 d hd; omega), elim_at (h.mon c (by simp))]
    · exact redS_zero h1 c hc
theorem redS_ne {N : Nat} {L : List (Fp p)} {a : Fp p} (h : Desc N L) (h0 : redS L a ≠ 0) : ∀ b ∈ L, b.len ≠ (redS L a).len := fun b hb e => by
  have h1 := redS_zero (a := a) h b hb
  rw [e] at h1
  exact Pol.ld_ne h0 h1
theorem elim_mon {a b : Fp p} (hb : Monic b) (hne : b.len ≠ a.len) : Monic (elim a b) ∧ (elim a b).len = b.len := by
  have hbp := Pol.len_pos hb.2
  rcases Nat.lt_or_ge b.len a.len with h | h
  · have : elim a b = b := by
      unfold elim
      rw [c_ge (by omega), Gq.neg_zero, Pol.C_zero, Gq.zero_mul, Gq.add_zero]
    rw [this]; exact ⟨hb, rfl⟩
  · have hc : (elim a b).c (b.len - 1) = 1 := by
      rw [elim_c, c_ge (a := a) (by omega), Gq.mul_zero, Gq.add_zero]; exact hb.1
    have hl : (elim a b).len = b.len := by
      have h1 : (elim a b).len = (b.len - 1) + 1 := Pol.len_eq (Pol.lt_iff.2 (by
        rw [Nat.sub_add_cancel hbp]; exact elim_le h (Nat.le_refl _))) (by rw [hc]; exact Fd.one_ne)
      omega
    refine ⟨⟨by unfold Pol.ld; rw [hl]; exact hc, fun h0 => ?_⟩, hl⟩
    rw [h0, Pol.len_zero] at hl
    omega
theorem insS_desc {N : Nat} {a : Fp p} (ha : Monic a) (hal : a.len ≤ N) : ∀ {L : List (Fp p)}, Desc N L → (∀ b ∈ L, b.len ≠ a.len) → Desc N (insS a L)
  | [], _, _ => ⟨List.pairwise_singleton _ _, fun b hb => by simp [insS] at hb; rw [hb]; exact ha, fun b hb => by simp [insS] at hb; rw [hb]; exact hal⟩
  | b :: L, h, hne => by
    obtain ⟨h1, h2⟩ := h.tail
    have hall : ∀ c ∈ b :: L, Monic (elim a c) ∧ (elim a c).len = c.len := fun c hc => elim_mon (h.mon c hc) (hne c hc)
    refine ⟨?_, fun c hc => ?_, fun c hc => ?_⟩
    · unfold insS
      split
      · rename_i hlt
        refine List.pairwise_cons.2 ⟨fun c hc => ?_, ?_⟩
        · obtain ⟨d, hd, rfl⟩ := List.mem_map.1 hc
          rw [(hall d hd).2]
          rcases List.mem_cons.1 hd with rfl | hd
          · exact hlt
          · have := h2 d hd; omega
        · rw [List.pairwise_map]
          refine h.pw.imp_of_mem fun {x y} hx hy hxy => ?_
          rw [(hall x hx).2, (hall y hy).2]; exact hxy
      · rename_i hge
        refine List.pairwise_cons.2 ⟨fun c hc => ?_, (insS_desc ha hal h1 fun c hc => hne c (by simp [hc])).pw⟩
        rw [(hall b (by simp)).2]
        rcases insS_mem hc with rfl | ⟨d, hd, rfl⟩
        · have := hne b (by simp); omega
        · rw [(hall d (by simp [hd])).2]; exact h2 d hd
    · rcases insS_mem hc with rfl | ⟨d, hd, rfl⟩
      · exact ha
      · exact (hall d hd).1
    · rcases insS_mem hc with rfl | ⟨d, hd, rfl⟩
      · exact hal
      · rw [(hall d hd).2]; exact h.le d hd
/-- A reduced list with one more. -/
noncomputable def putS (L : List (Fp p)) (x : Fp p) : List (Fp p) := by
  classical exact if redS L x = 0 then L else insS (Gq.mon (redS L x)) L
theorem putS_zero {L : List (Fp p)} {x : Fp p} (h : redS L x = 0) : putS L x = L := by unfold putS; rw [if_pos h]
theorem putS_ne {L : List (Fp p)} {x : Fp p} (h : redS L x ≠ 0) : putS L x = insS (Gq.mon (redS L x)) L := by unfold putS; rw [if_neg h]
theorem putS_desc {N : Nat} {L : List (Fp p)} {x : Fp p} (h : Desc N L) (hx : x.len ≤ N) : Desc N (putS L x) := by
  by_cases h0 : redS L x = 0
  · rw [putS_zero h0]; exact h
  · rw [putS_ne h0]
    exact insS_desc (mon_monic h0) (by rw [mon_len h0]; exact redS_le h.le hx) h fun b hb => by rw [mon_len h0]; exact redS_ne h h0 b hb
end
section
variable {p : Int}
end
end Pe

namespace Pe
open Go Gq
variable {T : Nat → Option Fn} {A : Oracle}
section
variable {p : Int} [IsP p]
end
end Pe

namespace Pe
open Go Gq
variable {T : Nat → Option Fn} {A : Oracle}
noncomputable abbrev padD {p : Int} (a : Fp p) : D := (D.arr 64 .leaf (ints .u8 (pad (row a))))
theorem map_padD {p : Int} (xs : List (Fp p)) : (skP xs).map arr8 = xs.map padD := by unfold skP; rw [List.map_map]; rfl
section
variable {p : Int} [IsP p]
theorem l_rows {O : Oracle} (hro : K_rowOf O) {xs : List (Fp p)} (hl : xs.length < 2000000) (hx : ∀ x ∈ xs, x.len ≤ 64) : ∀ (r i : Nat) (cp : Option Nat), i + r = xs.length → ∃ cp' : Option Nat,
    dn O 0 (.loop ir_impl_rows_L0) ⟨[(3, .sl 0 [] 0 i cp), (6, .d (.sl (.arr 64 .leaf) (xs.map padD))), (7, (.d (.int .i64 xs.length))), (8, (.d (.int .i64 i)))], [.sl false .leaf ((xs.take i).map rowD), .hole, .hole, .hole]⟩ =
      some (.exit 0, ⟨[(3, .sl 0 [] 0 xs.length cp'), (6, .d (.sl (.arr 64 .leaf) (xs.map padD))), (7, (.d (.int .i64 xs.length))), (8, (.d (.int .i64 xs.length))), (9, (.d (.bool false)))], [.sl false .leaf (xs.map rowD), .hole, .hole, .hole]⟩)
  | 0, i, cp, hi => by
    obtain rfl : i = xs.length := by omega
    rw [List.take_length]
    refine ⟨cp, dn_stop ?_⟩
    generalize xs.map padD = XD at *
    generalize xs.map rowD = RD at *
    simp -implicitDefEqProofs [ir_impl_rows_L0, dn_cond]
  | r + 1, i, cp, hi => by
    have hlt : i < xs.length := by omega
    have hm := List.getElem_mem hlt
    have e1 := hro p xs[i] (hx _ hm)
    have hXD : (xs.map padD).length = xs.length := List.length_map ..
    have hxi : ∀ h : i < (xs.map padD).length, (xs.map padD)[i]'h = (D.arr 64 .leaf (ints .u8 (pad (row xs[i])))) := fun h => by rw [List.getElem_map]
    have w4 : IntKind.i64.wrap ((i : Int) + 1) = ((i + 1 : Nat) : Int) := (w64 (x := (i : Int) + 1) (by omega)).trans (by omega)
    have h24 : (i + 1) * 24 ≤ 1099511627776 := by omega
    have htk : (xs.take (i + 1)).map rowD = (xs.take i).map rowD ++ [(D.sl .leaf (ints .i64 (row xs[i])))] := by rw [List.take_succ_eq_append_getElem hlt, List.map_append]; rfl
    have hL : ((xs.take i).map rowD).length = i := by rw [List.length_map, List.length_take]; omega
    have htt : ((xs.take i).map rowD).take i = (xs.take i).map rowD := List.take_of_length_le (by omega)
    obtain ⟨cp', ih⟩ := l_rows hro hl hx r (i + 1) none (by omega)
    refine ⟨cp', dn_round ?_ ih⟩
    rw [htk]
    generalize pad (row xs[i]) = Pi at *
    generalize row xs[i] = Ri at *
    generalize (xs.take i).map rowD = TD at *
    generalize xs.map padD = XD at *
    simp -implicitDefEqProofs [ir_impl_rows_L0, dn_cond, hlt, hXD, hxi, e1, h24, hL, htt, w4, List.replicate]
def K_rows (O : Oracle) : Prop := ∀ (p : Int) [IsP p] (xs : List (Fp p)), xs.length < 2000000 → (∀ x ∈ xs, x.len ≤ 64) → ask O F_impl_rows [.sl (.arr 64 .leaf) (xs.map padD)] = some (.sl .leaf (xs.map rowD))
theorem l_polys {O : Oracle} (hpo : K_poly O) {xs : List (Fp p)} (hl : xs.length < 2000000) (hx : ∀ x ∈ xs, x.len ≤ 64) : ∀ (r i : Nat) (cp : Option Nat), i + r = xs.length → ∃ cp' : Option Nat,
    dn O 0 (.loop ir_impl_polys_L0) ⟨[(3, .sl 0 [] 0 i cp), (6, .d (.sl .leaf (xs.map rowD))), (7, (.d (.int .i64 xs.length))), (8, (.d (.int .i64 i)))], [.sl false (.arr 64 .leaf) ((xs.take i).map padD), .hole, .hole]⟩ =
      some (.exit 0, ⟨[(3, .sl 0 [] 0 xs.length cp'), (6, .d (.sl .leaf (xs.map rowD))), (7, (.d (.int .i64 xs.length))), (8, (.d (.int .i64 xs.length))), (9, (.d (.bool false)))], [.sl false (.arr 64 .leaf) (xs.map padD), .hole, .hole]⟩)
  | 0, i, cp, hi => by
    obtain rfl : i = xs.length := by omega
    rw [List.take_length]
    refine ⟨cp, dn_stop ?_⟩
    generalize xs.map padD = XD at *
    generalize xs.map rowD = RD at *
    simp -implicitDefEqProofs [ir_impl_polys_L0, dn_cond]
  | r + 1, i, cp, hi => by
    have hlt : i < xs.length := by omega
    have hm := List.getElem_mem hlt
    have e1 := hpo p xs[i] (hx _ hm)
    have hXD : (xs.map rowD).length = xs.length := List.length_map ..
    have hxi : ∀ h : i < (xs.map rowD).length, (xs.map rowD)[i]'h = (D.sl .leaf (ints .i64 (row xs[i]))) := fun h => by rw [List.getElem_map]
    have w4 : IntKind.i64.wrap ((i : Int) + 1) = ((i + 1 : Nat) : Int) := (w64 (x := (i : Int) + 1) (by omega)).trans (by omega)
    have h24 : (i + 1) * 64 ≤ 1099511627776 := by omega
    have htk : (xs.take (i + 1)).map padD = (xs.take i).map padD ++ [(D.arr 64 .leaf (ints .u8 (pad (row xs[i]))))] := by rw [List.take_succ_eq_append_getElem hlt, List.map_append]; rfl
    have hL : ((xs.take i).map padD).length = i := by rw [List.length_map, List.length_take]; omega
    have htt : ((xs.take i).map padD).take i = (xs.take i).map padD := List.take_of_length_le (by omega)
    obtain ⟨cp', ih⟩ := l_polys hpo hl hx r (i + 1) none (by omega)
    refine ⟨cp', dn_round ?_ ih⟩
    rw [htk]
    generalize pad (row xs[i]) = Pi at *
    generalize row xs[i] = Ri at *
    generalize (xs.take i).map padD = TD at *
    generalize xs.map rowD = XD at *
    simp -implicitDefEqProofs [ir_impl_polys_L0, dn_cond, hlt, hXD, hxi, e1, h24, hL, htt, w4, List.replicate]
def K_polys (O : Oracle) : Prop := ∀ (p : Int) [IsP p] (xs : List (Fp p)), xs.length < 2000000 → (∀ x ∈ xs, x.len ≤ 64) → ask O F_impl_polys [.sl .leaf (xs.map rowD)] = some (.sl (.arr 64 .leaf) (xs.map padD))
end
theorem k_rows (hT : T F_impl_rows = some ir_impl_rows) (hro : K_rowOf (den T A)) : K_rows (den T A) := by
  intro p ip xs hl hx
  obtain ⟨cp, e⟩ := l_rows (O := den T A) hro hl hx xs.length 0 (some 0) (Nat.zero_add _)
  have e00 : ((0 : Nat) : Int) = 0 := rfl
  rw [e00, List.take_zero, List.map_nil] at e
  have h1 : (xs.map rowD).length = xs.length := List.length_map ..
  have h2 : (xs.map padD).length = xs.length := List.length_map ..
  have htk : (xs.map rowD).take xs.length = xs.map rowD := List.take_of_length_le (by omega)
  refine ask_of hT rfl ?_
  generalize xs.map padD = XD at *
  generalize xs.map rowD = RD at *
  simp -implicitDefEqProofs [ir_impl_rows, ir_impl_rows_B, h1, h2, htk, e]
theorem k_polys (hT : T F_impl_polys = some ir_impl_polys) (hpo : K_poly (den T A)) : K_polys (den T A) := by
  intro p ip xs hl hx
  obtain ⟨cp, e⟩ := l_polys (O := den T A) hpo hl hx xs.length 0 (some 0) (Nat.zero_add _)
  have e00 : ((0 : Nat) : Int) = 0 := rfl
  rw [e00, List.take_zero, List.map_nil] at e
  have h1 : (xs.map padD).length = xs.length := List.length_map ..
  have h2 : (xs.map rowD).length = xs.length := List.length_map ..
  have htk : (xs.map padD).take xs.length = xs.map padD := List.take_of_length_le (by omega)
  refine ask_of hT rfl ?_
  generalize xs.map padD = XD at *
  generalize xs.map rowD = RD at *
  simp -implicitDefEqProofs [ir_impl_polys, ir_impl_polys_B, h1, h2, htk, e]
def RsOk (p : Int) (l : List Int) (ls : List (List Int)) : Prop := ∃ (_ : IsP p) (m : Fp p), l = pad (row m) ∧ Fld m ∧ IsSk m ls
theorem codes_rs {p : Int} {l : List Int} {ls : List (List Int)} : codeRs p l ls = 0 ↔ RsOk p l ls := by
  unfold codeRs
  constructor
  · intro h1
    split at h1
    · rename_i g; exact g
    · cases h1
  · intro h; exact if_pos h
end Pe

namespace Pe
open Go Gq
variable {T : Nat → Option Fn} {A : Oracle}
section
variable {p : Int}
end
section
variable {p : Int} [IsP p]
end
end Pe

namespace Pe
open Go Gq
variable {T : Nat → Option Fn} {A : Oracle}
open Classical in
theorem l_sRs {O : Oracle} (hr : C_sRes O) {p : Int} [IsP p] {m : Fp p} (hm : m.len ≤ 64) {ls : List (List Int)} (h : Arrs ls) (hl : ls.length < 2000000) : ∀ (k i : Nat), i + k = ls.length →
    dn O 0 (.loop ir_spec_l03Residues_L0) ⟨[(0, (.d (.int .i64 p))), (2, .d (.sl (.arr 64 .leaf) (ls.map arr8))), (4, .ptr 0 []), (7, (.d (.int .i64 i)))], [.box false (D.arr 64 .leaf (ints .u8 (pad (row m))))]⟩ =
      if IsSk m (ls.drop i) then some (.exit 0, ⟨[(0, (.d (.int .i64 p))), (2, .d (.sl (.arr 64 .leaf) (ls.map arr8))), (4, .ptr 0 []), (7, (.d (.int .i64 ls.length))), (15, (.d (.bool false)))], [.box false (D.arr 64 .leaf (ints .u8 (pad (row m))))]⟩) else some (.ret, ⟨[(6, (.d (.int .i64 1)))], [.hole]⟩)
  | 0, i, hi => by
    obtain rfl : i = ls.length := by omega
    rw [if_pos (by rw [List.drop_length]; exact isSk_nil m)]
    have hL : (ls.map arr8).length = ls.length := List.length_map ..
    refine dn_stop ?_
    generalize pad (row m) = Pm at *
    generalize ls.map arr8 = LD at *
    simp -implicitDefEqProofs [ir_spec_l03Residues_L0, dn_cond, hL]
  | k + 1, i, hi => by
    have hlt : i < ls.length := by omega
    have hm1 := List.getElem_mem hlt
    have e1 := hr p m ls[i] hm (h _ hm1).2 (h _ hm1).1
    have hL : (ls.map arr8).length = ls.length := List.length_map ..
    have w4 : IntKind.i64.wrap ((i : Int) + 1) = ((i + 1 : Nat) : Int) := (w64 (x := (i : Int) + 1) (by omega)).trans (by omega)
    have hx2 : ∀ h : i < (ls.map arr8).length, (ls.map arr8)[i]'h = (D.arr 64 .leaf (ints .u8 (ls[i]))) := fun h => by rw [List.getElem_map]
    have hd : ls.drop i = ls[i] :: ls.drop (i + 1) := List.drop_eq_getElem_cons hlt
    have ih := l_sRs hr hm h hl k (i + 1) (by omega)
    rw [hd]
    by_cases hres : IsRes m ls[i]
    · rw [decide_eq_true hres] at e1
      have hiff : IsSk m (ls[i] :: ls.drop (i + 1)) ↔ IsSk m (ls.drop (i + 1)) := ⟨fun h => (isSk_cons.1 h).2, fun h => isSk_cons.2 ⟨hres, h⟩⟩
      rw [propext hiff]
      refine dn_round ?_ ih
      generalize ls[i] = li at *
      generalize pad (row m) = Pm at *
      generalize ls.map arr8 = LD at *
      simp -implicitDefEqProofs [ir_spec_l03Residues_L0, dn_cond, hlt, hx2, hL, e1, w4]
    · rw [decide_eq_false hres] at e1
      rw [if_neg (fun h => hres (isSk_cons.1 h).1)]
      refine dn_back ?_
      generalize ls[i] = li at *
      generalize pad (row m) = Pm at *
      generalize ls.map arr8 = LD at *
      simp -implicitDefEqProofs [ir_spec_l03Residues_L0, dn_cond, hlt, hx2, hL, e1]
open Classical in
theorem c_sRsCode (hT : T F_spec_l03Residues = some ir_spec_l03Residues) (hf : C_sField (den T A)) (hi : C_sRes (den T A)) : C_resCode (den T A) F_spec_l03Residues := by
  intro p l ls hb hl h hlen
  have e1 := hf p l hb hl
  refine ask_of hT rfl ?_
  unfold codeRs
  by_cases hfl : IsFld p l
  · rw [decide_eq_true hfl] at e1
    obtain ⟨ip, m, rfl, hm⟩ := hfl
    have h5 := hm.five
    have e2 := l_sRs (O := den T A) hi (m := m) (by omega) h hlen ls.length 0 (Nat.zero_add _)
    have e00 : ((0 : Nat) : Int) = 0 := rfl
    rw [e00, List.drop_zero] at e2
    have hc := fld_code hm (Q := fun ip m' => ∀ x ∈ ls, @IsRes p ip m' x)
    by_cases hs : IsSk m ls
    · rw [if_pos hs] at e2
      rw [if_pos (hc.2 hs)]
      generalize pad (row m) = Pm at *
      generalize ls.map arr8 = LD at *
      simp -implicitDefEqProofs [ir_spec_l03Residues, ir_spec_l03Residues_B, dn_cond, e1, e2]
    · rw [if_neg hs] at e2
      rw [if_neg (fun h => hs (hc.1 h))]
      generalize pad (row m) = Pm at *
      generalize ls.map arr8 = LD at *
      simp -implicitDefEqProofs [ir_spec_l03Residues, ir_spec_l03Residues_B, dn_cond, e1, e2]
  · rw [decide_eq_false hfl] at e1
    rw [if_neg (fun ⟨ip, m, e, hm, _⟩ => hfl ⟨ip, m, e, hm⟩)]
    generalize ls.map arr8 = LD at *
    simp -implicitDefEqProofs [ir_spec_l03Residues, ir_spec_l03Residues_B, dn_cond, e1]
theorem l_toPs {O : Oracle} (hp : C_toPoly O) {ls : List (List Int)} (h : Arrs ls) (hl : ls.length < 2000000) : ∀ (k i : Nat) (Q : List D), i + k = ls.length → Q.length = ls.length → (∀ d ∈ Q, d.sh.beq (.arr 64 .leaf) = true) → Q.take i = (ls.map arr8).take i →
    dn O 0 (.loop ir_laws_toPolyS_L0) ⟨[(0, .d (.sl (.arr 64 .leaf) (ls.map arr8))), (3, .sl 0 [] 0 ls.length (some ls.length)), (4, (.d (.int .i64 i)))], [.sl false (.arr 64 .leaf) Q]⟩ =
      some (.exit 0, ⟨[(0, .d (.sl (.arr 64 .leaf) (ls.map arr8))), (3, .sl 0 [] 0 ls.length (some ls.length)), (4, (.d (.int .i64 ls.length))), (11, (.d (.bool false)))], [.sl false (.arr 64 .leaf) (ls.map arr8)]⟩)
  | 0, i, Q, hi, hq, hQ, ht => by
    obtain rfl : i = ls.length := by omega
    have hL : (ls.map arr8).length = ls.length := List.length_map ..
    rw [List.take_of_length_le (by omega), List.take_of_length_le (by omega)] at ht
    subst ht
    refine dn_stop ?_
    generalize ls.map arr8 = LD at *
    simp -implicitDefEqProofs [ir_laws_toPolyS_L0, dn_cond, hL]
  | k + 1, i, Q, hi, hq, hQ, ht => by
    have hlt : i < ls.length := by omega
    have hm1 := List.getElem_mem hlt
    have hsh : ∀ h : i < Q.length, (Q[i]'h).sh.beq (.arr 64 .leaf) = true := fun h => hQ _ (List.getElem_mem h)
    have e1 := hp ls[i] (h _ hm1).2 (h _ hm1).1
    have hL : (ls.map arr8).length = ls.length := List.length_map ..
    have hx2 : ∀ h : i < (ls.map arr8).length, (ls.map arr8)[i]'h = (D.arr 64 .leaf (ints .u8 (ls[i]))) := fun h => by rw [List.getElem_map]
    have w4 : IntKind.i64.wrap ((i : Int) + 1) = ((i + 1 : Nat) : Int) := (w64 (x := (i : Int) + 1) (by omega)).trans (by omega)
    refine dn_round ?_ (l_toPs hp h hl k (i + 1) (Q.set i (D.arr 64 .leaf (ints .u8 (ls[i])))) (by omega) (by rw [List.length_set]; exact hq) (fun d hd => by
      rcases List.mem_or_eq_of_mem_set hd with h1 | rfl
      · exact hQ d h1
      · rfl) (by
      rw [List.take_succ_eq_append_getElem (show i < (ls.map arr8).length by omega), List.take_succ_eq_append_getElem (by rw [List.length_set]; omega), List.getElem_set_self, List.take_set, List.set_eq_of_length_le (by rw [List.length_take]; omega), ht, hx2]))
    generalize ls[i] = li at *
    generalize ls.map arr8 = LD at *
    simp -implicitDefEqProofs [ir_laws_toPolyS_L0, dn_cond, hlt, hL, hx2, hq, hsh, e1, w4]
def C_toPs (O : Oracle) : Prop := ∀ ls : List (List Int), Arrs ls → ls.length < 2000000 → ask O F_laws_toPolyS [.sl (.arr 64 .leaf) (ls.map arr8)] = some (.sl (.arr 64 .leaf) (ls.map arr8))
theorem c_toPs (hT : T F_laws_toPolyS = some ir_laws_toPolyS) (hp : C_toPoly (den T A)) : C_toPs (den T A) := by
  intro ls h hl
  have e := l_toPs (O := den T A) hp h hl ls.length 0 (List.replicate ls.length (D.arr 64 .leaf (ints .u8 (pad [])))) (Nat.zero_add _) (List.length_replicate ..) (fun d hd => by rw [List.eq_of_mem_replicate hd]; rfl) (by rw [List.take_zero, List.take_zero])
  have e00 : ((0 : Nat) : Int) = 0 := rfl
  rw [e00] at e
  have hL : (ls.map arr8).length = ls.length := List.length_map ..
  have htk : (ls.map arr8).take ls.length = ls.map arr8 := List.take_of_length_le (by omega)
  have h64 : ls.length * 64 ≤ 1099511627776 := by omega
  refine ask_of hT rfl ?_
  generalize ls.map arr8 = LD at *
  generalize ls.length = n at *
  simp -implicitDefEqProofs [ir_laws_toPolyS, ir_laws_toPolyS_B, e, hL, htk, h64]
theorem l_eqPs {O : Oracle} (he : C_eqPoly O) {ls : List (List Int)} (h : ∀ l ∈ ls, l.length = 64) (hl : ls.length < 2000000) : ∀ (k i : Nat), i + k = ls.length →
    dn O 0 (.loop ir_laws_eqPolyS_L0) ⟨[(0, .d (.sl (.arr 64 .leaf) (ls.map arr8))), (1, .d (.sl (.arr 64 .leaf) (ls.map arr8))), (5, (.d (.int .i64 i)))], []⟩ =
      some (.exit 0, ⟨[(0, .d (.sl (.arr 64 .leaf) (ls.map arr8))), (1, .d (.sl (.arr 64 .leaf) (ls.map arr8))), (5, (.d (.int .i64 ls.length))), (14, (.d (.bool false)))], []⟩)
  | 0, i, hi => by
    obtain rfl : i = ls.length := by omega
    have hL : (ls.map arr8).length = ls.length := List.length_map ..
    refine dn_stop ?_
    generalize ls.map arr8 = LD at *
    simp -implicitDefEqProofs [ir_laws_eqPolyS_L0, dn_cond, hL]
  | k + 1, i, hi => by
    have hlt : i < ls.length := by omega
    have e1 := he ls[i] (h _ (List.getElem_mem hlt))
    have hL : (ls.map arr8).length = ls.length := List.length_map ..
    have hx2 : ∀ h : i < (ls.map arr8).length, (ls.map arr8)[i]'h = (D.arr 64 .leaf (ints .u8 (ls[i]))) := fun h => by rw [List.getElem_map]
    have w4 : IntKind.i64.wrap ((i : Int) + 1) = ((i + 1 : Nat) : Int) := (w64 (x := (i : Int) + 1) (by omega)).trans (by omega)
    refine dn_round ?_ (l_eqPs he h hl k (i + 1) (by omega))
    generalize ls[i] = li at *
    generalize ls.map arr8 = LD at *
    simp -implicitDefEqProofs [ir_laws_eqPolyS_L0, dn_cond, hlt, hL, hx2, e1, w4]
def C_eqPs (O : Oracle) : Prop := ∀ ls : List (List Int), (∀ l ∈ ls, l.length = 64) → ls.length < 2000000 → ask O F_laws_eqPolyS [.sl (.arr 64 .leaf) (ls.map arr8), .sl (.arr 64 .leaf) (ls.map arr8)] = some (D.bool true)
theorem c_eqPs (hT : T F_laws_eqPolyS = some ir_laws_eqPolyS) (he : C_eqPoly (den T A)) : C_eqPs (den T A) := by
  intro ls h hl
  have e := l_eqPs (O := den T A) he h hl ls.length 0 (Nat.zero_add _)
  have e00 : ((0 : Nat) : Int) = 0 := rfl
  rw [e00] at e
  refine ask_of hT rfl ?_
  generalize ls.map arr8 = LD at *
  simp -implicitDefEqProofs [ir_laws_eqPolyS, ir_laws_eqPolyS_B, dn_cond, e]
def C_szPs (O : Oracle) : Prop := ∀ (L : List D) (left : Int), 0 ≤ left → left ≤ 2000000 → L.length ≤ 9223372036854775807 → ask O F_laws_szPolyS [.sl (.arr 64 .leaf) L, (D.int .i64 left)] = some (D.int .i64 (if left < L.length then -1 else left - L.length))
theorem c_szPs (hT : T F_laws_szPolyS = some ir_laws_szPolyS) : C_szPs (den T A) := by
  intro L left h0 h1 hl
  have w1 : IntKind.i64.wrap (left - L.length) = left - L.length := w64 (by omega)
  refine ask_of hT rfl ?_
  by_cases h : left < L.length
  · rw [if_pos h]
    have hn : left - (L.length : Int) < 0 := by omega
    simp -implicitDefEqProofs [ir_laws_szPolyS, ir_laws_szPolyS_B, dn_cond, w1, hn]
  · rw [if_neg h]
    have hn : ¬ left - (L.length : Int) < 0 := by omega
    simp -implicitDefEqProofs [ir_laws_szPolyS, ir_laws_szPolyS_B, dn_cond, w1, hn]
end Pe

namespace Pe
open Go Gq
variable {T : Nat → Option Fn} {A : Oracle}
theorem l_toPsH {O : Oracle} (hp : C_toPoly O) {ls : List (List Int)} (h : Arrs ls) (hl : ls.length < 2000000) : ∀ (k i : Nat) (Q : List D), i + k = ls.length → Q.length = ls.length → (∀ d ∈ Q, d.sh.beq (.arr 64 .leaf) = true) → Q.take i = (ls.map arr8).take i →
    dn O 0 (.loop ir_laws_toPolyS_h_L0) ⟨[(0, .d (.sl (.arr 64 .leaf) (ls.map arr8))), (3, .sl 1 [] 0 ls.length (some ls.length)), (4, (.d (.int .i64 i)))], [.hole, .sl false (.arr 64 .leaf) Q]⟩ =
      some (.exit 0, ⟨[(0, .d (.sl (.arr 64 .leaf) (ls.map arr8))), (3, .sl 1 [] 0 ls.length (some ls.length)), (4, (.d (.int .i64 ls.length))), (11, (.d (.bool false)))], [.hole, .sl false (.arr 64 .leaf) (ls.map arr8)]⟩)
  | 0, i, Q, hi, hq, hQ, ht => by
    obtain rfl : i = ls.length := by omega
    have hL : (ls.map arr8).length = ls.length := List.length_map ..
    rw [List.take_of_length_le (by omega), List.take_of_length_le (by omega)] at ht
    subst ht
    refine dn_stop ?_
    generalize ls.map arr8 = LD at *
    simp -implicitDefEqProofs [ir_laws_toPolyS_h_L0, dn_cond, hL]
  | k + 1, i, Q, hi, hq, hQ, ht => by
    have hlt : i < ls.length := by omega
    have hm1 := List.getElem_mem hlt
    have hsh : ∀ h : i < Q.length, (Q[i]'h).sh.beq (.arr 64 .leaf) = true := fun h => hQ _ (List.getElem_mem h)
    have e1 := hp ls[i] (h _ hm1).2 (h _ hm1).1
    have hL : (ls.map arr8).length = ls.length := List.length_map ..
    have hx2 : ∀ h : i < (ls.map arr8).length, (ls.map arr8)[i]'h = (D.arr 64 .leaf (ints .u8 (ls[i]))) := fun h => by rw [List.getElem_map]
    have w4 : IntKind.i64.wrap ((i : Int) + 1) = ((i + 1 : Nat) : Int) := (w64 (x := (i : Int) + 1) (by omega)).trans (by omega)
    refine dn_round ?_ (l_toPsH hp h hl k (i + 1) (Q.set i (D.arr 64 .leaf (ints .u8 (ls[i])))) (by omega) (by rw [List.length_set]; exact hq) (fun d hd => by
      rcases List.mem_or_eq_of_mem_set hd with h1 | rfl
      · exact hQ d h1
      · rfl) (by
      rw [List.take_succ_eq_append_getElem (show i < (ls.map arr8).length by omega), List.take_succ_eq_append_getElem (by rw [List.length_set]; omega), List.getElem_set_self, List.take_set, List.set_eq_of_length_le (by rw [List.length_take]; omega), ht, hx2]))
    generalize ls[i] = li at *
    generalize ls.map arr8 = LD at *
    simp -implicitDefEqProofs [ir_laws_toPolyS_h_L0, dn_cond, hlt, hL, hx2, hq, hsh, e1, w4]
def H_toPs (O : Oracle) : Prop := ∀ ls : List (List Int), Arrs ls → ls.length < 2000000 → O F_laws_toPolyS_h [.d (.sl (.arr 64 .leaf) (ls.map arr8))] [] = some (.sl 0 [] 0 ls.length (some ls.length), [], [.sl false (.arr 64 .leaf) (ls.map arr8)])
theorem h_toPs (hT : T F_laws_toPolyS_h = some ir_laws_toPolyS_h) (hp : C_toPoly (den T A)) : H_toPs (den T A) := by
  intro ls h hl
  have e := l_toPsH (O := den T A) hp h hl ls.length 0 (List.replicate ls.length (D.arr 64 .leaf (ints .u8 (pad [])))) (Nat.zero_add _) (List.length_replicate ..) (fun d hd => by rw [List.eq_of_mem_replicate hd]; rfl) (by rw [List.take_zero, List.take_zero])
  have e00 : ((0 : Nat) : Int) = 0 := rfl
  rw [e00] at e
  have hL : (ls.map arr8).length = ls.length := List.length_map ..
  have h64 : ls.length * 64 ≤ 1099511627776 := by omega
  refine den_of hT rfl ?_
  generalize ls.map arr8 = LD at *
  generalize ls.length = n at *
  simp -implicitDefEqProofs [ir_laws_toPolyS_h, ir_laws_toPolyS_h_B, e, hL, h64, List.idxOf, List.findIdx, List.findIdx.go]
def mk8 (k : Nat) : Int := ((k % 256 : Nat) : Int)
theorem wrap8 (k : Nat) : IntKind.u8.wrap (k : Int) = mk8 k := by
  unfold mk8
  simp [IntKind.wrap, IntKind.bits, IntKind.signed]
def mrow (s i : Nat) : List Int := (List.range 64).map fun j => mk8 (s + 64 * i + j)
def mrows (s n : Nat) : List (List Int) := (List.range n).map (mrow s)
theorem mrow_length (s i : Nat) : (mrow s i).length = 64 := by unfold mrow; rw [List.length_map, List.length_range]
theorem mrows_length (s n : Nat) : (mrows s n).length = n := by unfold mrows; rw [List.length_map, List.length_range]
theorem updR_get (f : Nat → List Int) : ∀ (m i : Nat) (l : List (List Int)) (j : Nat), (updR f m i l)[j]? = if i ≤ j ∧ j < i + m ∧ j < l.length then some (f j) else l[j]?
  | 0, i, l, j => by rw [updR, if_neg (by omega)]
  | m + 1, i, l, j => by
    rw [updR, updR_get f m, List.length_set]
    by_cases h1 : i + 1 ≤ j ∧ j < i + 1 + m ∧ j < l.length
    · rw [if_pos h1, if_pos (by omega)]
    · rw [if_neg h1]
      by_cases h2 : j = i
      · subst h2
        by_cases h3 : j < l.length
        · rw [if_pos (by omega), List.getElem?_set_self h3]
        · rw [if_neg (by omega), List.getElem?_eq_none (by simpa using h3), List.getElem?_eq_none (by omega)]
      · rw [List.getElem?_set_ne (Ne.symm h2), if_neg (by omega)]
theorem updR_all (f : Nat → List Int) (n : Nat) (l : List (List Int)) (hl : l.length = n) : updR f n 0 l = (List.range n).map f := by
  apply List.ext_getElem?
  intro j
  rw [updR_get, List.getElem?_map]
  by_cases hj : j < n
  · rw [if_pos (by omega), List.getElem?_range hj]; rfl
  · rw [if_neg (by omega), List.getElem?_eq_none (by omega), List.getElem?_eq_none (by simpa using hj)]; rfl
theorem l_mark0 {O : Oracle} {n s i : Nat} {cp : Option Nat} {LR : List D} (hn : n < 2000000) (hs : s < 1000000000000) (hi : i < n) (hLR : LR.length = n) : ∀ (r j : Nat) (cur : List Int), j + r = 64 → cur.length = 64 →
    dn O 1 (.loop ir_laws_markPolyS_L0) ⟨[(0, .sl 0 [] 0 n cp), (1, (.d (.int .i64 (((s + 64 * i + j : Nat) : Int))))), (5, (.d (.int .i64 i))), (6, (.d (.int .i64 j)))], [.sl false (.arr 64 .leaf) (LR.set i (D.arr 64 .leaf (ints .u8 cur)))]⟩ =
      some (.exit 2, ⟨[(0, .sl 0 [] 0 n cp), (1, (.d (.int .i64 (((s + 64 * i + 64 : Nat) : Int))))), (5, (.d (.int .i64 i))), (6, (.d (.int .i64 64))), (14, (.d (.bool false)))], [.sl false (.arr 64 .leaf) (LR.set i (D.arr 64 .leaf (ints .u8 (upd (fun j => mk8 (s + 64 * i + j)) r j cur))))]⟩)
  | 0, j, cur, hj, hc => by
    have : j = 64 := by omega
    subst this
    refine dn_stop ?_
    show _ = some (_, (⟨_, [.sl false (.arr 64 .leaf) (LR.set i (D.arr 64 .leaf (ints .u8 cur)))]⟩ : St))
    generalize LR.set i (D.arr 64 .leaf (ints .u8 cur)) = LQ at *
    generalize ((s + 64 * i + 64 : Nat) : Int) = k at *
    simp -implicitDefEqProofs [ir_laws_markPolyS_L0, dn_cond]
  | r + 1, j, cur, hj, hc => by
    have hj64 : j < 64 := by omega
    have hj64' : (j : Int) < 64 := by omega
    have w1 := wrap8 (s + 64 * i + j)
    have w2 : IntKind.i64.wrap (((s + 64 * i + j : Nat) : Int) + 1) = ((s + 64 * i + (j + 1) : Nat) : Int) := (w64 (x := ((s + 64 * i + j : Nat) : Int) + 1) (by omega)).trans (by omega)
    have w4 : IntKind.i64.wrap ((j : Int) + 1) = ((j + 1 : Nat) : Int) := (w64 (x := (j : Int) + 1) (by omega)).trans (by omega)
    have hcur : cur[j]? = some (cf cur j) := by rw [List.getElem?_eq_getElem (by omega), cf_lt]
    refine dn_round ?_ (l_mark0 hn hs hi hLR r (j + 1) (cur.set j (mk8 (s + 64 * i + j))) (by omega) (by rw [List.length_set]; exact hc))
    generalize mk8 (s + 64 * i + j) = mv at *
    generalize ((s + 64 * i + j : Nat) : Int) = k at *
    generalize ((s + 64 * i + (j + 1) : Nat) : Int) = k2 at *
    simp -implicitDefEqProofs [ir_laws_markPolyS_L0, dn_cond, hj64, hj64', hi, hLR, hcur, w1, w2, w4]
theorem l_mark1 {O : Oracle} {n s : Nat} {cp : Option Nat} (hn : n < 2000000) (hs : s < 1000000000000) : ∀ (r i : Nat) (L : List (List Int)), i + r = n → L.length = n → (∀ l ∈ L, l.length = 64) →
    dn O 1 (.loop ir_laws_markPolyS_L1) ⟨[(0, .sl 0 [] 0 n cp), (1, (.d (.int .i64 (((s + 64 * i : Nat) : Int))))), (5, (.d (.int .i64 i)))], [.sl false (.arr 64 .leaf) (L.map arr8)]⟩ =
      some (.exit 0, ⟨[(0, .sl 0 [] 0 n cp), (1, (.d (.int .i64 (((s + 64 * n : Nat) : Int))))), (5, (.d (.int .i64 n))), (10, (.d (.bool false)))], [.sl false (.arr 64 .leaf) ((updR (mrow s) r i L).map arr8)]⟩)
  | 0, i, L, hi, hL, h64 => by
    obtain rfl : i = n := by omega
    refine dn_stop ?_
    show _ = some (_, (⟨_, [.sl false (.arr 64 .leaf) (L.map arr8)]⟩ : St))
    generalize L.map arr8 = LQ at *
    generalize ((s + 64 * i : Nat) : Int) = k at *
    simp -implicitDefEqProofs [ir_laws_markPolyS_L1, dn_cond]
  | r + 1, i, L, hi, hL, h64 => by
    have hlt : i < n := by omega
    have hltL : i < L.length := by omega
    have hLD : (L.map arr8).length = n := by rw [List.length_map]; exact hL
    have w4 : IntKind.i64.wrap ((i : Int) + 1) = ((i + 1 : Nat) : Int) := (w64 (x := (i : Int) + 1) (by omega)).trans (by omega)
    have e := l_mark0 (O := O) (cp := cp) hn hs hlt hLD 64 0 L[i] rfl (h64 _ (List.getElem_mem hltL))
    have hs0 : (L.map arr8).set i (D.arr 64 .leaf (ints .u8 (L[i]))) = L.map arr8 := by
      have : (D.arr 64 .leaf (ints .u8 (L[i]))) = (L.map arr8)[i]'(by omega) := by rw [List.getElem_map]
      rw [this, List.set_getElem_self]
    have e00 : ((0 : Nat) : Int) = 0 := rfl
    rw [hs0, upd_all _ _ _ (h64 _ (List.getElem_mem hltL)), Nat.add_zero, e00, show (List.range 64).map (fun j => mk8 (s + 64 * i + j)) = mrow s i from rfl] at e
    have hset : (L.set i (mrow s i)).map arr8 = (L.map arr8).set i (D.arr 64 .leaf (ints .u8 (mrow s i))) := List.map_set
    have ih := l_mark1 (O := O) (cp := cp) hn hs r (i + 1) (L.set i (mrow s i)) (by omega) (by rw [List.length_set]; exact hL) (fun l hl => by
      rcases List.mem_or_eq_of_mem_set hl with h1 | rfl
      · exact h64 l h1
      · exact mrow_length s i)
    rw [hset, show s + 64 * (i + 1) = s + 64 * i + 64 by omega] at ih
    refine dn_round ?_ ih
    have hli : (i : Int) < n := by omega
    generalize mrow s i = mr at *
    generalize ((s + 64 * i + 64 : Nat) : Int) = k2 at *
    generalize ((s + 64 * i : Nat) : Int) = k at *
    generalize L.map arr8 = LQ at *
    simp -implicitDefEqProofs [ir_laws_markPolyS_L1, dn_cond, hli, e, w4]
def H_markPs (O : Oracle) : Prop := ∀ (ls : List (List Int)) (cp : Option Nat) (s : Nat), ls.length < 2000000 → s < 1000000000000 → (∀ l ∈ ls, l.length = 64) →
  O F_laws_markPolyS [.sl 0 [] 0 ls.length cp, (.d (.int .i64 s))] [.sl false (.arr 64 .leaf) (ls.map arr8)] = some ((.d (.int .i64 (((s + 64 * ls.length : Nat) : Int)))), [.sl false (.arr 64 .leaf) ((mrows s ls.length).map arr8)], [])
theorem h_markPs (hT : T F_laws_markPolyS = some ir_laws_markPolyS) : H_markPs (den T A) := by
  intro ls cp s hl hs h64
  have e := l_mark1 (O := den T A) (cp := cp) hl hs ls.length 0 ls (Nat.zero_add _) rfl h64
  have e00 : ((0 : Nat) : Int) = 0 := rfl
  rw [e00, Nat.mul_zero, Nat.add_zero, updR_all _ _ _ rfl, show (List.range ls.length).map (mrow s) = mrows s ls.length from rfl] at e
  refine den_of hT rfl ?_
  generalize mrows s ls.length = MR at *
  generalize ((s + 64 * ls.length : Nat) : Int) = k at *
  simp -implicitDefEqProofs [ir_laws_markPolyS, ir_laws_markPolyS_B, e, List.idxOf, List.findIdx]
theorem l_held0 {O : Oracle} {n s i : Nat} (hn : n < 2000000) (hs : s < 1000000000000) (hi : i < n) : ∀ (r j : Nat), j + r = 64 →
    dn O 0 (.loop ir_laws_heldPolyS_L0) ⟨[(0, .d (.sl (.arr 64 .leaf) ((mrows s n).map arr8))), (1, (.d (.int .i64 (((s + 64 * i + j : Nat) : Int))))), (5, (.d (.int .i64 i))), (6, (.d (.int .i64 j)))], []⟩ =
      some (.exit 2, ⟨[(0, .d (.sl (.arr 64 .leaf) ((mrows s n).map arr8))), (1, (.d (.int .i64 (((s + 64 * i + 64 : Nat) : Int))))), (5, (.d (.int .i64 i))), (6, (.d (.int .i64 64))), (14, (.d (.bool false)))], []⟩)
  | 0, j, hj => by
    have : j = 64 := by omega
    subst this
    refine dn_stop ?_
    generalize (mrows s n).map arr8 = LQ at *
    generalize ((s + 64 * i + 64 : Nat) : Int) = k at *
    simp -implicitDefEqProofs [ir_laws_heldPolyS_L0, dn_cond]
  | r + 1, j, hj => by
    have hj64 : j < 64 := by omega
    have hj64' : (j : Int) < 64 := by omega
    have w1 := wrap8 (s + 64 * i + j)
    have w2 : IntKind.i64.wrap (((s + 64 * i + j : Nat) : Int) + 1) = ((s + 64 * i + (j + 1) : Nat) : Int) := (w64 (x := ((s + 64 * i + j : Nat) : Int) + 1) (by omega)).trans (by omega)
    have w4 : IntKind.i64.wrap ((j : Int) + 1) = ((j + 1 : Nat) : Int) := (w64 (x := (j : Int) + 1) (by omega)).trans (by omega)
    have hML : ((mrows s n).map arr8).length = n := by rw [List.length_map, mrows_length]
    have hx : ∀ h : i < ((mrows s n).map arr8).length, ((mrows s n).map arr8)[i]'h = (D.arr 64 .leaf (ints .u8 (mrow s i))) := fun h => by
      rw [List.getElem_map]
      unfold mrows
      rw [List.getElem_map, List.getElem_range]
    have hml := mrow_length s i
    have hv : ∀ h : j < (mrow s i).length, (mrow s i)[j]'h = mk8 (s + 64 * i + j) := fun h => by simp [mrow]
    refine dn_round ?_ (l_held0 hn hs hi r (j + 1) (by omega))
    generalize (mrows s n).map arr8 = LQ at *
    generalize mrow s i = mr at *
    generalize mk8 (s + 64 * i + j) = mv at *
    generalize ((s + 64 * i + j : Nat) : Int) = k at *
    generalize ((s + 64 * i + (j + 1) : Nat) : Int) = k2 at *
    simp -implicitDefEqProofs [ir_laws_heldPolyS_L0, dn_cond, hj64, hj64', hi, hML, hx, hml, hv, w1, w2, w4]
theorem l_held1 {O : Oracle} {n s : Nat} (hn : n < 2000000) (hs : s < 1000000000000) : ∀ (r i : Nat), i + r = n →
    dn O 0 (.loop ir_laws_heldPolyS_L1) ⟨[(0, .d (.sl (.arr 64 .leaf) ((mrows s n).map arr8))), (1, (.d (.int .i64 (((s + 64 * i : Nat) : Int))))), (5, (.d (.int .i64 i)))], []⟩ =
      some (.exit 0, ⟨[(0, .d (.sl (.arr 64 .leaf) ((mrows s n).map arr8))), (1, (.d (.int .i64 (((s + 64 * n : Nat) : Int))))), (5, (.d (.int .i64 n))), (10, (.d (.bool false)))], []⟩)
  | 0, i, hi => by
    obtain rfl : i = n := by omega
    have hML : ((mrows s i).map arr8).length = i := by rw [List.length_map, mrows_length]
    refine dn_stop ?_
    generalize (mrows s i).map arr8 = LQ at *
    generalize ((s + 64 * i : Nat) : Int) = k at *
    simp -implicitDefEqProofs [ir_laws_heldPolyS_L1, dn_cond, hML]
  | r + 1, i, hi => by
    have hlt : i < n := by omega
    have hML : ((mrows s n).map arr8).length = n := by rw [List.length_map, mrows_length]
    have w4 : IntKind.i64.wrap ((i : Int) + 1) = ((i + 1 : Nat) : Int) := (w64 (x := (i : Int) + 1) (by omega)).trans (by omega)
    have e := l_held0 (O := O) hn hs hlt 64 0 rfl
    have e00 : ((0 : Nat) : Int) = 0 := rfl
    rw [Nat.add_zero, e00] at e
    have ih := l_held1 (O := O) hn hs r (i + 1) (by omega)
    rw [show s + 64 * (i + 1) = s + 64 * i + 64 by omega] at ih
    refine dn_round ?_ ih
    generalize ((s + 64 * i + 64 : Nat) : Int) = k2 at *
    generalize ((s + 64 * i : Nat) : Int) = k at *
    generalize (mrows s n).map arr8 = LQ at *
    simp -implicitDefEqProofs [ir_laws_heldPolyS_L1, dn_cond, hlt, hML, e, w4]
def C_heldPs (O : Oracle) : Prop := ∀ s n : Nat, n < 2000000 → s < 1000000000000 → ask O F_laws_heldPolyS [.sl (.arr 64 .leaf) ((mrows s n).map arr8), (D.int .i64 s)] = some (D.int .i64 (((s + 64 * n : Nat) : Int)))
theorem c_heldPs (hT : T F_laws_heldPolyS = some ir_laws_heldPolyS) : C_heldPs (den T A) := by
  intro s n hn hs
  have e := l_held1 (O := den T A) hn hs n 0 (Nat.zero_add _)
  have e00 : ((0 : Nat) : Int) = 0 := rfl
  rw [e00, Nat.mul_zero, Nat.add_zero] at e
  refine ask_of hT rfl ?_
  generalize (mrows s n).map arr8 = LQ at *
  generalize ((s + 64 * n : Nat) : Int) = k at *
  simp -implicitDefEqProofs [ir_laws_heldPolyS, ir_laws_heldPolyS_B, e]
end Pe


namespace Pe
open Go Gq
variable {T : Nat → Option Fn} {A : Oracle}
section
variable {p : Int} [IsP p]
theorem l_rowsH {O : Oracle} (hro : K_rowOf O) {xs : List (Fp p)} (hl : xs.length < 2000000) (hx : ∀ x ∈ xs, x.len ≤ 64) {cq : Option Nat} : ∀ (r i : Nat) (cp : Option Nat), i + r = xs.length → ∃ cp' : Option Nat,
    dn O 1 (.loop ir_impl_rows_L0) ⟨[(3, .sl 1 [] 0 i cp), (6, .sl 0 [] 0 xs.length cq), (7, (.d (.int .i64 xs.length))), (8, (.d (.int .i64 i)))], [.sl false (.arr 64 .leaf) (xs.map padD), .sl false .leaf ((xs.take i).map rowD), .hole, .hole, .hole]⟩ =
      some (.exit 0, ⟨[(3, .sl 1 [] 0 xs.length cp'), (6, .sl 0 [] 0 xs.length cq), (7, (.d (.int .i64 xs.length))), (8, (.d (.int .i64 xs.length))), (9, (.d (.bool false)))], [.sl false (.arr 64 .leaf) (xs.map padD), .sl false .leaf (xs.map rowD), .hole, .hole, .hole]⟩)
  | 0, i, cp, hi => by
    obtain rfl : i = xs.length := by omega
    rw [List.take_length]
    refine ⟨cp, dn_stop ?_⟩
    generalize xs.map padD = XD at *
    generalize xs.map rowD = RD at *
    simp -implicitDefEqProofs [ir_impl_rows_L0, dn_cond]
  | r + 1, i, cp, hi => by
    have hlt : i < xs.length := by omega
    have hm := List.getElem_mem hlt
    have e1 := hro p xs[i] (hx _ hm)
    have hXD : (xs.map padD).length = xs.length := List.length_map ..
    have hxi : ∀ h : i < (xs.map padD).length, (xs.map padD)[i]'h = (D.arr 64 .leaf (ints .u8 (pad (row xs[i])))) := fun h => by rw [List.getElem_map]
    have w4 : IntKind.i64.wrap ((i : Int) + 1) = ((i + 1 : Nat) : Int) := (w64 (x := (i : Int) + 1) (by omega)).trans (by omega)
    have h24 : (i + 1) * 24 ≤ 1099511627776 := by omega
    have htk : (xs.take (i + 1)).map rowD = (xs.take i).map rowD ++ [(D.sl .leaf (ints .i64 (row xs[i])))] := by rw [List.take_succ_eq_append_getElem hlt, List.map_append]; rfl
    have hL : ((xs.take i).map rowD).length = i := by rw [List.length_map, List.length_take]; omega
    have htt : ((xs.take i).map rowD).take i = (xs.take i).map rowD := List.take_of_length_le (by omega)
    obtain ⟨cp', ih⟩ := l_rowsH hro hl hx (cq := cq) r (i + 1) none (by omega)
    refine ⟨cp', dn_round ?_ ih⟩
    rw [htk]
    generalize pad (row xs[i]) = Pi at *
    generalize row xs[i] = Ri at *
    generalize (xs.take i).map rowD = TD at *
    generalize xs.map padD = XD at *
    simp -implicitDefEqProofs [ir_impl_rows_L0, dn_cond, hlt, hXD, hxi, e1, h24, hL, htt, w4, List.replicate]
def H_rows (O : Oracle) : Prop := ∀ (p : Int) [IsP p] (xs : List (Fp p)) (cq : Option Nat), xs.length < 2000000 → (∀ x ∈ xs, x.len ≤ 64) → ∃ cp : Option Nat,
  O F_impl_rows [.sl 0 [] 0 xs.length cq] [.sl false (.arr 64 .leaf) (xs.map padD)] = some (.sl 1 [] 0 xs.length cp, [.sl false (.arr 64 .leaf) (xs.map padD)], [.sl false .leaf (xs.map rowD)])
theorem l_polysH {O : Oracle} (hpo : K_poly O) {xs : List (Fp p)} (hl : xs.length < 2000000) (hx : ∀ x ∈ xs, x.len ≤ 64) : ∀ (r i : Nat) (cp : Option Nat), i + r = xs.length → ∃ cp' : Option Nat,
    dn O 0 (.loop ir_impl_polys_h_L0) ⟨[(3, .sl 1 [] 0 i cp), (6, .d (.sl .leaf (xs.map rowD))), (7, (.d (.int .i64 xs.length))), (8, (.d (.int .i64 i)))], [.hole, .sl false (.arr 64 .leaf) ((xs.take i).map padD), .hole, .hole]⟩ =
      some (.exit 0, ⟨[(3, .sl 1 [] 0 xs.length cp'), (6, .d (.sl .leaf (xs.map rowD))), (7, (.d (.int .i64 xs.length))), (8, (.d (.int .i64 xs.length))), (9, (.d (.bool false)))], [.hole, .sl false (.arr 64 .leaf) (xs.map padD), .hole, .hole]⟩)
  | 0, i, cp, hi => by
    obtain rfl : i = xs.length := by omega
    rw [List.take_length]
    refine ⟨cp, dn_stop ?_⟩
    generalize xs.map padD = XD at *
    generalize xs.map rowD = RD at *
    simp -implicitDefEqProofs [ir_impl_polys_h_L0, dn_cond]
  | r + 1, i, cp, hi => by
    have hlt : i < xs.length := by omega
    have hm := List.getElem_mem hlt
    have e1 := hpo p xs[i] (hx _ hm)
    have hXD : (xs.map rowD).length = xs.length := List.length_map ..
    have hxi : ∀ h : i < (xs.map rowD).length, (xs.map rowD)[i]'h = (D.sl .leaf (ints .i64 (row xs[i]))) := fun h => by rw [List.getElem_map]
    have w4 : IntKind.i64.wrap ((i : Int) + 1) = ((i + 1 : Nat) : Int) := (w64 (x := (i : Int) + 1) (by omega)).trans (by omega)
    have h24 : (i + 1) * 64 ≤ 1099511627776 := by omega
    have htk : (xs.take (i + 1)).map padD = (xs.take i).map padD ++ [(D.arr 64 .leaf (ints .u8 (pad (row xs[i]))))] := by rw [List.take_succ_eq_append_getElem hlt, List.map_append]; rfl
    have hL : ((xs.take i).map padD).length = i := by rw [List.length_map, List.length_take]; omega
    have htt : ((xs.take i).map padD).take i = (xs.take i).map padD := List.take_of_length_le (by omega)
    obtain ⟨cp', ih⟩ := l_polysH hpo hl hx r (i + 1) none (by omega)
    refine ⟨cp', dn_round ?_ ih⟩
    rw [htk]
    generalize pad (row xs[i]) = Pi at *
    generalize row xs[i] = Ri at *
    generalize (xs.take i).map padD = TD at *
    generalize xs.map rowD = XD at *
    simp -implicitDefEqProofs [ir_impl_polys_h_L0, dn_cond, hlt, hXD, hxi, e1, h24, hL, htt, w4, List.replicate]
def H_polys (O : Oracle) : Prop := ∀ (p : Int) [IsP p] (xs : List (Fp p)), xs.length < 2000000 → (∀ x ∈ xs, x.len ≤ 64) → ∃ cp : Option Nat,
  O F_impl_polys_h [.d (.sl .leaf (xs.map rowD))] [] = some (.sl 0 [] 0 xs.length cp, [], [.sl false (.arr 64 .leaf) (xs.map padD)])
end
theorem h_rows (hT : T F_impl_rows = some ir_impl_rows) (hro : K_rowOf (den T A)) : H_rows (den T A) := by
  intro p ip xs cq hl hx
  obtain ⟨cp, e⟩ := l_rowsH (O := den T A) hro hl hx (cq := cq) xs.length 0 (some 0) (Nat.zero_add _)
  have e00 : ((0 : Nat) : Int) = 0 := rfl
  rw [e00, List.take_zero, List.map_nil] at e
  refine ⟨cp, den_of hT rfl ?_⟩
  generalize xs.map padD = XD at *
  generalize xs.map rowD = RD at *
  simp -implicitDefEqProofs [ir_impl_rows, ir_impl_rows_B, e, List.idxOf, List.findIdx, List.findIdx.go]
theorem h_polys (hT : T F_impl_polys_h = some ir_impl_polys_h) (hpo : K_poly (den T A)) : H_polys (den T A) := by
  intro p ip xs hl hx
  obtain ⟨cp, e⟩ := l_polysH (O := den T A) hpo hl hx xs.length 0 (some 0) (Nat.zero_add _)
  have e00 : ((0 : Nat) : Int) = 0 := rfl
  rw [e00, List.take_zero, List.map_nil] at e
  have h2 : (xs.map rowD).length = xs.length := List.length_map ..
  refine ⟨cp, den_of hT rfl ?_⟩
  generalize xs.map padD = XD at *
  generalize xs.map rowD = RD at *
  simp -implicitDefEqProofs [ir_impl_polys_h, ir_impl_polys_h_B, h2, e, List.idxOf, List.findIdx, List.findIdx.go]
theorem codeRs_one {p : Int} {l : List Int} {ls : List (List Int)} (h : ¬ RsOk p l ls) : codeRs p l ls = 1 := by
  rcases codeRs_01 p l ls with c | c
  · exact absurd (codes_rs.1 c) h
  · exact c
end Pe

namespace Pe
open Go Gq
section
variable {p : Int}
/-- A coefficient. -/
noncomputable def cS (A : List (Fp p)) (i : Nat) : Fp p := (A[i]?).getD 0
theorem cS_ge {A : List (Fp p)} {i : Nat} (h : A.length ≤ i) : cS A i = 0 := by unfold cS; rw [List.getElem?_eq_none h]; rfl
theorem cS_lt {A : List (Fp p)} {i : Nat} (h : i < A.length) : A[i] = cS A i := by unfold cS; rw [List.getElem?_eq_getElem h]; rfl
def IsTrim (A : List (Fp p)) : Prop := ∀ n, A.length = n + 1 → cS A n ≠ 0
theorem cS_trim (S : List (Fp p)) (i : Nat) : cS (trimS S) i = cS S i := by
  unfold cS trimS
  have hle := stl_le S S.length
  by_cases h : i < stl S S.length
  · rw [List.getElem?_take, if_pos h]
  · rw [List.getElem?_take, if_neg h]
    by_cases h2 : i < S.length
    · rw [stl_zero S S.length i (by omega) h2]; rfl
    · rw [List.getElem?_eq_none (by omega)]
theorem isTrim_trim (S : List (Fp p)) : IsTrim (trimS S) := fun n hn => by
  obtain ⟨a, x, e, hx⟩ := trimS_form (S := S) (by omega)
  rw [e] at hn ⊢
  rw [List.length_append, List.length_singleton] at hn
  unfold cS
  rw [List.getElem?_append_right (by omega), show n - a.length = 0 by omega]
  exact hx
theorem trim_ext {A B : List (Fp p)} (hA : IsTrim A) (hB : IsTrim B) (h : ∀ i, cS A i = cS B i) : A = B := by
  have hl : A.length = B.length := by
    rcases Nat.lt_trichotomy A.length B.length with g | g | g
    · exact absurd (by rw [← h]; exact cS_ge (by omega)) (hB (B.length - 1) (by omega))
    · exact g
    · exact absurd (by rw [h]; exact cS_ge (by omega)) (hA (A.length - 1) (by omega))
  refine List.ext_getElem hl fun i h1 h2 => ?_
  rw [cS_lt h1, cS_lt h2, h]
theorem trimS_congr {X Y : List (Fp p)} (h : ∀ i, cS X i = cS Y i) : trimS X = trimS Y :=
  trim_ext (isTrim_trim X) (isTrim_trim Y) fun i => by rw [cS_trim, cS_trim, h]
theorem trimS_of {A : List (Fp p)} (hA : IsTrim A) : trimS A = A := trim_ext (isTrim_trim A) hA (cS_trim A)
theorem trim_len_le {X : List (Fp p)} {n : Nat} (h : ∀ i, n ≤ i → cS X i = 0) : (trimS X).length ≤ n := by
  rcases Nat.lt_or_ge n (trimS X).length with g | g
  · have := isTrim_trim X ((trimS X).length - 1) (by omega)
    rw [cS_trim] at this
    exact absurd (h _ (by omega)) this
  · exact g
theorem isTrim_nil : IsTrim ([] : List (Fp p)) := fun n h => by cases h
theorem cS_mem {A : List (Fp p)} {N : Nat} (h : ∀ i, (cS A i).len ≤ N) : ∀ c ∈ A, c.len ≤ N := fun c hc => by
  obtain ⟨i, hi, rfl⟩ := List.getElem_of_mem hc
  rw [cS_lt hi]; exact h i
theorem mem_cS {A : List (Fp p)} {N : Nat} (h : ∀ c ∈ A, c.len ≤ N) (i : Nat) : (cS A i).len ≤ N := by
  by_cases hi : i < A.length
  · rw [← cS_lt hi]; exact h _ (List.getElem_mem hi)
  · rw [cS_ge (by omega), Pol.len_zero]; omega
theorem cS_map {n : Nat} {f : Nat → Fp p} (i : Nat) : cS ((List.range n).map f) i = if i < n then f i else 0 := by
  unfold cS
  rw [List.getElem?_map]
  by_cases h : i < n
  · rw [List.getElem?_range h, if_pos h]; rfl
  · rw [List.getElem?_eq_none (by simpa using h), if_neg h]; rfl
noncomputable def plusS (k : Int) (A B : List (Fp p)) : List (Fp p) := trimS ((List.range (max A.length B.length)).map fun i => cS A i + Pol.C (zp p k) * cS B i)
theorem cS_plus (k : Int) (A B : List (Fp p)) (i : Nat) : cS (plusS k A B) i = cS A i + Pol.C (zp p k) * cS B i := by
  unfold plusS
  rw [cS_trim, cS_map]
  split
  · rfl
  · rw [cS_ge (A := A) (by omega), cS_ge (A := B) (by omega), Gq.mul_zero, Gq.add_zero]
theorem isTrim_plus (k : Int) (A B : List (Fp p)) : IsTrim (plusS k A B) := isTrim_trim _
theorem plus_len (k : Int) (A B : List (Fp p)) : (plusS k A B).length ≤ max A.length B.length := trim_len_le fun i hi => by
  rw [cS_map, if_neg (by omega)]
noncomputable def termS (c : Fp p) (k : Nat) : List (Fp p) := List.replicate k 0 ++ [c]
theorem termS_length (c : Fp p) (k : Nat) : (termS c k).length = k + 1 := by unfold termS; rw [List.length_append, List.length_replicate]; rfl
theorem cS_term (c : Fp p) (k i : Nat) : cS (termS c k) i = if i = k then c else 0 := by
  unfold cS termS
  rcases Nat.lt_trichotomy i k with h | h | h
  · rw [List.getElem?_append_left (by rw [List.length_replicate]; exact h), List.getElem?_replicate, if_pos h, if_neg (by omega)]; rfl
  · rw [List.getElem?_append_right (by rw [List.length_replicate]; omega), List.length_replicate, h, Nat.sub_self, if_pos rfl]; rfl
  · rw [List.getElem?_eq_none (by rw [List.length_append, List.length_replicate, List.length_singleton]; omega), if_neg (by omega)]; rfl
theorem isTrim_term {c : Fp p} (h : c ≠ 0) (k : Nat) : IsTrim (termS c k) := fun n hn => by
  rw [termS_length] at hn
  rw [cS_term, if_pos (by omega)]; exact h
theorem cS_pd8 {A : List (Fp p)} (i : Nat) : cS (pd8 A) i = cS A i := by
  unfold pd8 cS
  by_cases h : i < A.length
  · rw [List.getElem?_append_left h]
  · rw [List.getElem?_append_right (by omega), List.getElem?_replicate, List.getElem?_eq_none (l := A) (by omega)]
    split <;> rfl
theorem pd8_length {A : List (Fp p)} (h : A.length ≤ 8) : (pd8 A).length = 8 := by unfold pd8; rw [List.length_append, List.length_replicate]; omega
theorem trim_pd8 {A : List (Fp p)} (h : IsTrim A) : trimS (pd8 A) = A := (trimS_congr fun i => cS_pd8 i).trans (trimS_of h)
theorem trimS_len_le (S : List (Fp p)) : (trimS S).length ≤ S.length := by
  unfold trimS; rw [List.length_take]; omega
theorem snoc_of {B : List (Fp p)} (h : 1 ≤ B.length) : ∃ b, B = b ++ [cS B (B.length - 1)] ∧ b.length = B.length - 1 := by
  have hlt : B.length - 1 < B.length := by omega
  refine ⟨B.take (B.length - 1), ?_, by rw [List.length_take]; omega⟩
  rw [← cS_lt hlt, ← List.take_succ_eq_append_getElem hlt, show B.length - 1 + 1 = B.length by omega, List.take_length]
end
section
variable {p : Int} [IsP p]
theorem byIn_lens' {m x : Fp p} {i N : Nat} (hm : m ≠ 0) (hN : m.len ≤ N + 1) : ∀ (k : Nat) (b Q : List (Fp p)), (∀ c ∈ Q, c.len ≤ N) → ∀ c ∈ byIn m x i k b Q, c.len ≤ N
  | _, [], _, h => h
  | k, y :: ys, Q, h => byIn_lens' hm hN (k + 1) ys _ (addAt_lens h (by have := Pol.len_mod (x * frIt m (i % (m.len - 1)) y) hm; omega))
theorem byOut_lens' {m : Fp p} {b : List (Fp p)} {N : Nat} (hm : m ≠ 0) (hN : m.len ≤ N + 1) : ∀ (i : Nat) (a Q : List (Fp p)), (∀ c ∈ Q, c.len ≤ N) → ∀ c ∈ byOut m b i a Q, c.len ≤ N
  | _, [], _, h => h
  | i, _x :: xs, Q, h => byOut_lens' hm hN (i + 1) xs _ (byIn_lens' hm hN 0 b Q h)
theorem prodS_lens' {m : Fp p} {a b : List (Fp p)} {N : Nat} (hm : m ≠ 0) (hN : m.len ≤ N + 1) : ∀ c ∈ prodS m a b, c.len ≤ N := fun c hc => by
  unfold prodS at hc
  split at hc
  · cases hc
  · have h1 : c ∈ mulS m a b := List.mem_of_mem_take hc
    exact byOut_lens' hm hN 0 a _ (fun c hc => by rw [List.eq_of_mem_replicate hc, Pol.len_zero]; omega) c h1
theorem isTrim_prod (m : Fp p) (a b : List (Fp p)) : IsTrim (prodS m a b) := by
  unfold prodS
  split
  · exact isTrim_nil
  · exact isTrim_trim _
theorem prod_len_le {m : Fp p} {a b : List (Fp p)} : (prodS m a b).length ≤ a.length + b.length - 1 := by
  unfold prodS
  split
  · exact Nat.zero_le _
  · have := trimS_len_le (mulS m a b)
    have hl : (mulS m a b).length = a.length + b.length - 1 := by unfold mulS; rw [byOut_length, List.length_replicate]
    omega
theorem mulS_val {m x y : Fp p} {a b : List (Fp p)} : cS (mulS m (a ++ [x]) (b ++ [y])) (a.length + b.length) = x * frIt m (a.length % (m.len - 1)) y % m := by
  unfold mulS
  rw [byOut_snoc, byIn_snoc]
  unfold addAt
  rw [byIn_get_ge _ _ _ (by omega), byOut_get_ge _ _ _ (by rw [List.length_append, List.length_cons, List.length_nil]; omega)]
  have hN : 0 + a.length + (0 + b.length) = a.length + b.length := by omega
  rw [hN]
  unfold cS
  rw [List.getElem?_set_self (by rw [byIn_length, byOut_length, List.length_replicate, List.length_append, List.length_append]; simp only [List.length_cons, List.length_nil]; omega)]
  rw [List.getElem?_replicate, if_pos (by rw [List.length_append, List.length_append]; simp only [List.length_cons, List.length_nil]; omega)]
  show (0 : Fp p) + _ = _
  rw [Gq.zero_add, show 0 + a.length = a.length by omega]
theorem prod_top {m : Fp p} {A B : List (Fp p)} (ha : 1 ≤ A.length) (hb : 1 ≤ B.length) : cS (prodS m A B) (A.length - 1 + (B.length - 1)) = cS A (A.length - 1) * frIt m ((A.length - 1) % (m.len - 1)) (cS B (B.length - 1)) % m := by
  obtain ⟨a, ea, la⟩ := snoc_of ha
  obtain ⟨b, eb, lb⟩ := snoc_of hb
  have h := mulS_val (m := m) (x := cS A (A.length - 1)) (y := cS B (B.length - 1)) (a := a) (b := b)
  rw [← ea, ← eb, la, lb] at h
  unfold prodS
  rw [if_neg (by omega), cS_trim]
  exact h
theorem times_pd8 {m : Fp p} {X Y : List (Fp p)} (hX : IsTrim X) (hY : IsTrim Y) (h9 : X.length + Y.length ≤ 9) (hXl : ∀ c ∈ X, c.len < m.len) (hYl : ∀ c ∈ Y, c.len < m.len) (hm : Fld m) : timesD m (pd8 X) (pd8 Y) = .tup [skwD (skP (pd8 (prodS m X Y))), (D.bool true)] := by
  unfold timesD prodS
  rw [trim_pd8 hX, trim_pd8 hY]
  by_cases h0 : X.length = 0 ∨ Y.length = 0
  · rw [if_pos h0, if_pos h0, pd8_nil]
  · rw [if_neg h0, if_neg (by omega), if_neg h0]
    obtain ⟨a, ea, la⟩ := snoc_of (B := X) (by omega)
    obtain ⟨b, eb, lb⟩ := snoc_of (B := Y) (by omega)
    have hx := hX (X.length - 1) (by omega)
    have hy := hY (Y.length - 1) (by omega)
    have ht := mulS_top hm (a := a) (b := b) hx (hXl _ (by rw [← cS_lt (show X.length - 1 < X.length by omega)]; exact List.getElem_mem _)) hy (hYl _ (by rw [← cS_lt (show Y.length - 1 < Y.length by omega)]; exact List.getElem_mem _))
    rw [← ea, ← eb] at ht
    rw [ht, pd8_mulS (by omega) (by omega) (by omega)]
theorem inv_back {m x y : Fp p} (hm : Fld m) (hx : x.len < m.len) (hy : y ≠ 0) (hyl : y.len < m.len) : (x * invm m y % m) * y % m = x ∧ y * (x * invm m y % m) % m = x := by
  have h0 : m ≠ 0 := hm.mon.2
  have e := invm_ok hm hy hyl
  have key : Quo.mk m ((x * invm m y % m) * y) = Quo.mk m x := by
    rw [Quo.mk_mul, Pol.mk_mod, Quo.mk_mul, Gq.mul_assoc, e, Gq.mul_one]
  have h1 := (Pol.mod_eq_iff h0).2 key
  rw [Pol.mod_small hx] at h1
  exact ⟨h1, by rw [Gq.mul_comm]; exact h1⟩
theorem frIt_add {m : Fp p} : ∀ (b a : Nat) (x : Fp p), frIt m (a + b) x = frIt m a (frIt m b x)
  | 0, _, _ => rfl
  | b + 1, a, x => by
    show frIt m (a + b) (pw x p.toNat % m) = frIt m a (frIt m b (pw x p.toNat % m))
    exact frIt_add b a _
theorem frIt_round {m : Fp p} (hm : Fld m) (j : Nat) {z : Fp p} (hz : z.len < m.len) : frIt m (j % (m.len - 1)) (frIt m ((m.len - 1 - j % (m.len - 1)) % (m.len - 1)) z) = z := by
  have h2 := hm.two
  have hlt := Nat.mod_lt j (show 0 < m.len - 1 by omega)
  rw [frIt_mod hm _ hz, ← frIt_add, show j % (m.len - 1) + (m.len - 1 - j % (m.len - 1)) = m.len - 1 by omega, ← frIt_mod hm _ hz, Nat.mod_self]
  rfl
/-- The new coefficient of the quotient. -/
noncomputable def qc (left : Bool) (m : Fp p) (A B : List (Fp p)) : Fp p :=
  if left then frIt m ((m.len - 1 - (B.length - 1) % (m.len - 1)) % (m.len - 1)) (cS A (A.length - 1) * invm m (cS B (B.length - 1)) % m)
  else cS A (A.length - 1) * invm m (frIt m ((A.length - B.length) % (m.len - 1)) (cS B (B.length - 1))) % m
noncomputable def qT (left : Bool) (m : Fp p) (A B : List (Fp p)) : List (Fp p) := termS (qc left m A B) (A.length - B.length)
noncomputable def qP (left : Bool) (m : Fp p) (A B : List (Fp p)) : List (Fp p) := if left then prodS m B (qT left m A B) else prodS m (qT left m A B) B
end
section
variable {p : Int}
/-- Trimmed, of at most eight residues. -/
structure Sk (m : Fp p) (A : List (Fp p)) : Prop where
  trim : IsTrim A
  eight : A.length ≤ 8
  res : ∀ c ∈ A, c.len < m.len
theorem Sk.cs {m : Fp p} {A : List (Fp p)} (h : Sk m A) (hm : m ≠ 0) (i : Nat) : (cS A i).len < m.len := by
  have := mem_cS (N := m.len - 1) (fun c hc => by have := h.res c hc; omega) i
  have := Pol.len_pos hm
  omega
theorem Sk.top {m : Fp p} {A : List (Fp p)} (h : Sk m A) (h1 : 1 ≤ A.length) : cS A (A.length - 1) ≠ 0 := h.trim _ (by omega)
theorem Sk.nil (m : Fp p) : Sk m [] := ⟨isTrim_nil, by simp, fun c h => by cases h⟩
end
section
variable {p : Int} [IsP p]
theorem c_ge' {p : Int} {a : Fp p} {n : Nat} (h : a.len ≤ n) : a.c n = 0 := a.lt_len n h
theorem Sk.plus {m : Fp p} {A B : List (Fp p)} (hm : m ≠ 0) (hA : Sk m A) (hB : Sk m B) (k : Int) : Sk m (plusS k A B) := by
  have h1 := Pol.len_pos hm
  refine ⟨isTrim_plus k A B, by have := plus_len k A B; have := hA.eight; have := hB.eight; omega, fun c hc => ?_⟩
  have := cS_mem (A := plusS k A B) (N := m.len - 1) (fun i => by
    rw [cS_plus]
    have a1 := hA.cs hm i
    have a2 := hB.cs hm i
    exact Pol.len_add_le (by omega) (Pol.len_le fun j hj => by rw [Pol.c_Cmul, c_ge' (by omega), Gq.mul_zero])) c hc
  omega
theorem step_ok (left : Bool) {m : Fp p} (hm : Fld m) {A B : List (Fp p)} (hA : Sk m A) (hB : Sk m B) (h1 : 1 ≤ B.length) (hle : B.length ≤ A.length) :
    qc left m A B ≠ 0 ∧ (qc left m A B).len < m.len ∧ Sk m (qT left m A B) ∧ Sk m (qP left m A B) ∧ (plusS (-1) A (qP left m A B)).length < A.length ∧ Sk m (plusS (-1) A (qP left m A B)) := by
  have h0 : m ≠ 0 := hm.mon.2
  have hx := hA.top (by omega)
  have hxl := hA.cs h0 (A.length - 1)
  have hy := hB.top h1
  have hyl := hB.cs h0 (B.length - 1)
  have hfy : frIt m ((A.length - B.length) % (m.len - 1)) (cS B (B.length - 1)) ≠ 0 := frIt_ne hm _ _ hy hyl
  have hfl := frIt_len h0 ((A.length - B.length) % (m.len - 1)) (cS B (B.length - 1)) hyl
  have hb1 := inv_back hm hxl hfy hfl
  have hb2 := inv_back hm hxl hy hyl
  have hzl : (cS A (A.length - 1) * invm m (cS B (B.length - 1)) % m).len < m.len := Pol.len_mod _ h0
  have hz0 : cS A (A.length - 1) * invm m (cS B (B.length - 1)) % m ≠ 0 := fun h => by
    have := hb2.1
    rw [h, Gq.zero_mul, Pol.zero_mod h0] at this
    exact hx this.symm
  have hc0 : qc left m A B ≠ 0 := by
    unfold qc
    cases left with
    | true => simp only [if_true]; exact frIt_ne hm _ _ hz0 hzl
    | false =>
      simp only [Bool.false_eq_true, if_false]
      intro h
      have := hb1.1
      rw [h, Gq.zero_mul, Pol.zero_mod h0] at this
      exact hx this.symm
  have hcl : (qc left m A B).len < m.len := by
    unfold qc
    cases left with
    | true => simp only [if_true]; exact frIt_len h0 _ _ hzl
    | false => simp only [Bool.false_eq_true, if_false]; exact Pol.len_mod _ h0
  have hTl : (qT left m A B).length = A.length - B.length + 1 := termS_length _ _
  have h8 := hA.eight
  have hT : Sk m (qT left m A B) := ⟨isTrim_term hc0 _, by omega, fun c hc => by
    unfold qT termS at hc
    rcases List.mem_append.1 hc with h | h
    · rw [List.eq_of_mem_replicate h, Pol.len_zero]; exact Pol.len_pos h0
    · rw [List.mem_singleton.1 h]; exact hcl⟩
  have hPl : (qP left m A B).length ≤ A.length := by
    unfold qP
    cases left with
    | true => have := prod_len_le (m := m) (a := B) (b := qT true m A B); simp only [if_true]; omega
    | false => have := prod_len_le (m := m) (a := qT false m A B) (b := B); simp only [Bool.false_eq_true, if_false]; omega
  have hP : Sk m (qP left m A B) := by
    have hm1 := Pol.len_pos h0
    refine ⟨?_, by omega, ?_⟩
    · unfold qP
      cases left with
      | true => exact isTrim_prod _ _ _
      | false => exact isTrim_prod _ _ _
    · intro c hc
      have : c.len ≤ m.len - 1 := by
        unfold qP at hc
        cases left with
        | true => exact prodS_lens' h0 (by omega) c hc
        | false => exact prodS_lens' h0 (by omega) c hc
      omega
  have htop : cS (qP left m A B) (A.length - 1) = cS A (A.length - 1) := by
    unfold qP
    cases left with
    | true =>
      simp only [if_true]
      have h := prod_top (m := m) (A := B) (B := qT true m A B) h1 (by omega)
      rw [hTl, show B.length - 1 + (A.length - B.length + 1 - 1) = A.length - 1 by omega, show A.length - B.length + 1 - 1 = A.length - B.length by omega] at h
      rw [h]
      unfold qT
      rw [cS_term, if_pos rfl]
      unfold qc
      simp only [if_true]
      rw [frIt_round hm (B.length - 1) hzl]
      exact hb2.2
    | false =>
      simp only [Bool.false_eq_true, if_false]
      have h := prod_top (m := m) (A := qT false m A B) (B := B) (by omega) h1
      rw [hTl, show A.length - B.length + 1 - 1 + (B.length - 1) = A.length - 1 by omega, show A.length - B.length + 1 - 1 = A.length - B.length by omega] at h
      rw [h]
      unfold qT
      rw [cS_term, if_pos rfl]
      unfold qc
      simp only [Bool.false_eq_true, if_false]
      exact hb1.1
  have hneg : ∀ x : Fp p, x + Pol.C (zp p (-1)) * x = 0 := fun x => by
    rw [zp_neg, zp_one, Pol.C_neg, Pol.C_one]
    exact ring_of [x] rfl
  refine ⟨hc0, hcl, hT, hP, ?_, hA.plus h0 hP (-1)⟩
  have hlt : (plusS (-1) A (qP left m A B)).length ≤ A.length - 1 := trim_len_le fun i hi => by
    rw [cS_map]
    split
    · rcases Nat.lt_or_ge i A.length with g | g
      · rw [show i = A.length - 1 by omega, htop, hneg]
      · rw [cS_ge g, cS_ge (A := qP left m A B) (by omega), Gq.mul_zero, Gq.add_zero]
    · rfl
  omega
/-- The quotient has no part where it gets the next one. -/
def Zto (Q A B : List (Fp p)) : Prop := ∀ j, j + B.length ≤ A.length → cS Q j = 0
theorem Zto.step {left : Bool} {m : Fp p} (hm : Fld m) {Q A B : List (Fp p)} (hA : Sk m A) (hB : Sk m B) (h1 : 1 ≤ B.length) (hle : B.length ≤ A.length) (hz : Zto Q A B) : Zto (plusS 1 Q (qT left m A B)) (plusS (-1) A (qP left m A B)) B := fun j hj => by
  obtain ⟨_, _, _, _, h, _⟩ := step_ok left hm hA hB h1 hle
  unfold qT
  rw [cS_plus, hz j (by omega), cS_term, if_neg (by omega), Gq.mul_zero, Gq.add_zero]
end
end Pe

namespace Pe
open Go Gq
variable {T : Nat → Option Fn} {A : Oracle}
def K_single (O : Oracle) : Prop := ∀ (p : Int) [IsP p] (c : Fp p) (k : Nat), k < 10000 → ask O F_impl_single [(D.sl .leaf (ints .i64 (row c))), (D.int .i64 k)] = some (skD (termS c k))
theorem termS_map {p : Int} (c : Fp p) (k : Nat) : (List.replicate (k + 1) (D.sl .leaf [])).set k (D.sl .leaf (ints .i64 (row c))) = (termS c k).map rowD := by
  unfold termS
  rw [List.map_append, List.map_replicate, show rowD (0 : Fp p) = .sl .leaf [] by show (D.sl .leaf (ints .i64 (row (0 : Fp p)))) = _; rw [row_zero, ints_nil], List.replicate_succ', List.set_append_right _ _ (by rw [List.length_replicate]; omega), List.length_replicate, Nat.sub_self]
  rfl
theorem k_single (hT : T F_impl_single = some ir_impl_single) : K_single (den T A) := by
  intro p ip c k hk
  have w1 : IntKind.i64.wrap ((k : Int) + 1) = ((k + 1 : Nat) : Int) := (w64 (x := (k : Int) + 1) (by omega)).trans (by omega)
  have h24 : (k + 1) * 24 ≤ 1099511627776 := by omega
  have hn : (0 : Int) ≤ ((k + 1 : Nat) : Int) := by omega
  have hlt : k < k + 1 := by omega
  have hsk : skD (termS c k) = .sl .leaf ((termS c k).map rowD) := rfl
  have htm := termS_map c k
  have hTL : ((termS c k).map rowD).length = k + 1 := by rw [List.length_map, termS_length]
  have htk : ((termS c k).map rowD).take (k + 1) = (termS c k).map rowD := List.take_of_length_le (by omega)
  rw [hsk]
  refine ask_of hT rfl ?_
  have hRL : (List.replicate (k + 1) (D.sl .leaf [])).length = k + 1 := List.length_replicate ..
  have hRg : ∀ h : k < (List.replicate (k + 1) (D.sl .leaf [])).length, (List.replicate (k + 1) (D.sl .leaf []))[k]'h = D.sl .leaf [] := fun h => List.getElem_replicate h
  generalize (termS c k).map rowD = TD at *
  generalize row c = Rc at *
  generalize hRR : List.replicate (k + 1) (D.sl .leaf []) = RR at *
  generalize k + 1 = k1 at *
  simp -implicitDefEqProofs [ir_impl_single, ir_impl_single_B, w1, h24, hlt, hRR, hRL, hRg, htm, hTL, htk]
def K_by2 (O : Oracle) : Prop := ∀ (p : Int) [IsP p] (m : Fp p) (a b : List (Fp p)), 2 ≤ m.len → m.len ≤ 64 → (∀ c ∈ a, c.len ≤ 64) → (∀ c ∈ b, c.len ≤ 64) → a.length < 10000 → b.length < 10000 → ask O F_impl_field_by [fldD m, skD a, skD b] = some (skD (prodS m a b))
theorem k_by2 {O : Oracle} (h : K_by O) : K_by2 O := by
  intro p ip m a b h2 hml ha hb hal hbl
  rw [h p m a b h2 hml ha hb hal hbl]
  unfold prodS
  split <;> rfl
end Pe


namespace Pe
open Go Gq
variable {T : Nat → Option Fn} {A : Oracle}
section
variable {p : Int} [IsP p]
end
end Pe

namespace Pe
open Go Gq
variable {T : Nat → Option Fn} {A : Oracle}
section
variable {α : Type}
end
end Pe

namespace Pe
open Go Gq
variable {T : Nat → Option Fn} {A : Oracle}
/-- Eight residues, as data. -/
noncomputable abbrev eS {p : Int} (X : List (Fp p)) : D := skwD (skP (pd8 X))
theorem eS_arr {p : Int} (X : List (Fp p)) : eS X = .arr 8 (.arr 64 .leaf) ((skP (pd8 X)).map arr8) := rfl
theorem eS_get {p : Int} {X : List (Fp p)} {i : Nat} (hX : X.length ≤ 8) (hi : i < 8) : ∀ h : i < ((skP (pd8 X)).map arr8).length, ((skP (pd8 X)).map arr8)[i]'h = (D.arr 64 .leaf (ints .u8 (pad (row (cS X i))))) := fun h => by
  rw [List.getElem_map, List.getElem_map, cS_lt (by rw [pd8_length hX]; exact hi), cS_pd8]
theorem eS_len {p : Int} {X : List (Fp p)} (hX : X.length ≤ 8) : ((skP (pd8 X)).map arr8).length = 8 := by rw [List.length_map, List.length_map, pd8_length hX]
def K_sTimes8 (O : Oracle) : Prop := ∀ (p : Int) [IsP p] (m : Fp p) (X Y : List (Fp p)), Fld m → Sk m X → Sk m Y → X.length + Y.length ≤ 9 → ask O F_spec_l03Times [(D.int .i64 p), (D.arr 64 .leaf (ints .u8 (pad (row m)))), eS X, eS Y] = some (.tup [eS (prodS m X Y), (D.bool true)])
theorem pd8_res {p : Int} {m : Fp p} {X : List (Fp p)} (hm : m ≠ 0) (hX : ∀ c ∈ X, c.len < m.len) : ∀ c ∈ pd8 X, c.len < m.len := fun c hc => by
  unfold pd8 at hc
  rcases List.mem_append.1 hc with h | h
  · exact hX c h
  · rw [List.eq_of_mem_replicate h, Pol.len_zero]; exact Pol.len_pos hm
theorem k_sTimes8 {O : Oracle} (h : K_sTimes3 O) : K_sTimes8 O := by
  intro p ip m X Y hm hX hY h9
  have h5 := hm.five
  have e := h p m (pd8 X) (pd8 Y) hm.two (by omega) (pd8_length hX.eight) (pd8_length hY.eight) (pd8_res hm.mon.2 hX.res) (pd8_res hm.mon.2 hY.res)
  rw [times_pd8 hX.trim hY.trim h9 hX.res hY.res hm] at e
  exact e
def K_sDeg8 (O : Oracle) : Prop := ∀ (p : Int) [IsP p] (m : Fp p) (X : List (Fp p)), m ≠ 0 → m.len ≤ 64 → Sk m X → ask O F_spec_l03Deg [eS X] = some (D.int .i64 ((X.length : Int) - 1))
theorem k_sDeg8 {O : Oracle} (h : K_sSkDeg O) : K_sDeg8 O := by
  intro p ip m X hm hml hX
  have e := h p (pd8 X) (pd8_length hX.eight) (fun c hc => by have := pd8_res hm hX.res c hc; omega)
  rw [← trimS_len8 (pd8_length hX.eight), trim_pd8 hX.trim] at e
  exact e
end Pe


namespace Pe
open Go Gq
variable {T : Nat → Option Fn} {A : Oracle}
end Pe

namespace Pe
open Go Gq
variable {T : Nat → Option Fn} {A : Oracle}
end Pe

namespace Pe
open Go Gq
variable {T : Nat → Option Fn} {A : Oracle}
section
variable {p : Int} [IsP p]
/-- Made monic. -/
noncomputable def monS (m : Fp p) (X : List (Fp p)) : List (Fp p) := prodS m (termS (invm m (cS X (X.length - 1))) 0) X
theorem Sk.mon {m : Fp p} {X : List (Fp p)} (hm : m ≠ 0) (hX : Sk m X) : Sk m (monS m X) := by
  have h1 := Pol.len_pos hm
  have hl := prod_len_le (m := m) (a := termS (invm m (cS X (X.length - 1))) 0) (b := X)
  rw [termS_length] at hl
  have h8 := hX.eight
  exact ⟨isTrim_prod _ _ _, by unfold monS; omega, fun c hc => by have := prodS_lens' (N := m.len - 1) hm (by omega) c hc; omega⟩
end
end Pe

namespace Pe
open Go Gq
variable {T : Nat → Option Fn} {A : Oracle}
section
variable {p : Int}
end
section
variable {p : Int} [IsP p]
theorem prodS_len {m : Fp p} (hm : Fld m) {X Y : List (Fp p)} (hX : IsTrim X) (hY : IsTrim Y) (hXl : ∀ c ∈ X, c.len < m.len) (hYl : ∀ c ∈ Y, c.len < m.len) (h1 : 1 ≤ X.length) (h2 : 1 ≤ Y.length) : (prodS m X Y).length = X.length + Y.length - 1 := by
  obtain ⟨a, ea, la⟩ := snoc_of h1
  obtain ⟨b, eb, lb⟩ := snoc_of h2
  have hx := hX (X.length - 1) (by omega)
  have hy := hY (Y.length - 1) (by omega)
  have ht := mulS_top hm (a := a) (b := b) hx (hXl _ (by rw [← cS_lt (show X.length - 1 < X.length by omega)]; exact List.getElem_mem _)) hy (hYl _ (by rw [← cS_lt (show Y.length - 1 < Y.length by omega)]; exact List.getElem_mem _))
  rw [← ea, ← eb] at ht
  unfold prodS
  rw [if_neg (by omega), ht]
  unfold mulS
  rw [byOut_length, List.length_replicate]
theorem one_ne8 : (1 : Fp p) ≠ 0 := fun h => by
  have e : (1 : Fp p).len = 1 := Pol.len_one
  rw [h, Pol.len_zero] at e
  cases e
theorem sk_one {m : Fp p} (hm : Fld m) : Sk m (termS (1 : Fp p) 0) := ⟨isTrim_term one_ne8 0, by rw [termS_length]; omega, fun c hc => by
  unfold termS at hc
  rw [List.replicate_zero, List.nil_append] at hc
  rw [List.mem_singleton.1 hc]
  have := hm.two
  have : (1 : Fp p).len = 1 := Pol.len_one
  omega⟩
theorem mon_len {m : Fp p} (hm : Fld m) {X : List (Fp p)} (hX : IsTrim X) (hr : ∀ c ∈ X, c.len < m.len) (h1 : 1 ≤ X.length) : (monS m X).length = X.length := by
  have h0 := hm.mon.2
  have hx : cS X (X.length - 1) ≠ 0 := hX _ (by omega)
  have hxl : (cS X (X.length - 1)).len < m.len := by
    rw [← cS_lt (show X.length - 1 < X.length by omega)]; exact hr _ (List.getElem_mem _)
  have hi : invm m (cS X (X.length - 1)) ≠ 0 := fun h => by
    have e := inv_back hm (x := 1) (by have := hm.two; have : (1 : Fp p).len = 1 := Pol.len_one; omega) hx hxl
    rw [h, Gq.mul_zero, Pol.zero_mod h0, Gq.zero_mul, Pol.zero_mod h0] at e
    exact one_ne8 e.1.symm
  have hil := invm_len h0 (cS X (X.length - 1))
  have := prodS_len hm (isTrim_term hi 0) hX (fun c hc => by
    unfold termS at hc
    rw [List.replicate_zero, List.nil_append] at hc
    rw [List.mem_singleton.1 hc]; exact hil) hr (by rw [termS_length]; omega) h1
  rw [termS_length] at this
  unfold monS
  omega
end
def K_sOne3 (O : Oracle) : Prop := ∀ (p : Int) [IsP p], ask O F_spec_l03One [] = some (eS (termS (1 : Fp p) 0))
theorem k_sOne3 (hT : T F_spec_l03One = some ir_spec_l03One) (h1 : K_sOne (den T A)) : K_sOne3 (den T A) := by
  intro p ip
  have e1 := h1 p
  have e2 : skP (pd8 (termS (1 : Fp p) 0)) = pad (row (1 : Fp p)) :: List.replicate 7 (pad []) := by
    show pad (row (1 : Fp p)) :: (List.replicate 7 (0 : Fp p)).map (fun a => pad (row a)) = _
    rw [List.map_replicate, row_zero]
  have e3 : (pad (row (1 : Fp p)) :: List.replicate 7 (pad [])).map arr8 = z8.set 0 (D.arr 64 .leaf (ints .u8 (pad (row (1 : Fp p))))) := rfl
  rw [eS_arr, e2, e3]
  refine ask_of hT rfl ?_
  generalize pad (row (1 : Fp p)) = P1 at *
  simp -implicitDefEqProofs [ir_spec_l03One, ir_spec_l03One_B, e1, z8, List.replicate]
end Pe


namespace Pe
open Go Gq
variable {T : Nat → Option Fn} {A : Oracle}
section
variable {p : Int} [IsP p]
end
end Pe

namespace Pe
open Go Gq
section
variable {p : Int}
noncomputable def sg {m : Fp p} : Nat → Quo m → Quo m
  | 0, x => x
  | k + 1, x => sg k (pw x p.toNat)
theorem sg_mk [IsP p] {m : Fp p} : ∀ (k : Nat) (a : Fp p), Quo.mk m (frIt m k a) = sg k (Quo.mk m a)
  | 0, _ => rfl
  | k + 1, a => by
    show Quo.mk m (frIt m k (pw a p.toNat % m)) = sg k (pw (Quo.mk m a) p.toNat)
    rw [sg_mk k, Pol.mk_mod, Quo.mk_pow]
theorem pw_zero_pos [IsP p] {m : Fp p} : pw (0 : Quo m) p.toNat = 0 := by
  have h := IsP.pos (p := p)
  have : p.toNat = (p.toNat - 1) + 1 := by omega
  rw [this]
  show pw (0 : Quo m) (p.toNat - 1) * 0 = 0
  exact Gq.mul_zero _
theorem sg_zero [IsP p] {m : Fp p} : ∀ k, sg k (0 : Quo m) = 0
  | 0 => rfl
  | k + 1 => by
    show sg k (pw (0 : Quo m) p.toNat) = 0
    rw [pw_zero_pos, sg_zero k]
section
variable {m : Fp p}
noncomputable def e0 : Nat → Quo m
  | 0 => 1
  | _ + 1 => 0
theorem nine (t0 t1 t2 a b c d e f g h i s u v : Quo m) : t0 * (a * s + b * u + c * v) + t1 * (d * s + e * u + f * v) + t2 * (g * s + h * u + i * v) = (t0 * a + t1 * d + t2 * g) * s + (t0 * b + t1 * e + t2 * h) * u + (t0 * c + t1 * f + t2 * i) * v := by
  have l : ∀ t a b c : Quo m, t * (a * s + b * u + c * v) = t * a * s + t * b * u + t * c * v := fun t a b c => ring_of [t, a, b, c, s, u, v] rfl
  have q : ∀ x y z w : Quo m, (x + y + z) * w = x * w + y * w + z * w := fun x y z w => ring_of [x, y, z, w] rfl
  have z : ∀ p1 p2 p3 q1 q2 q3 r1 r2 r3 : Quo m, (p1 + p2 + p3) + (q1 + q2 + q3) + (r1 + r2 + r3) = (p1 + q1 + r1) + (p2 + q2 + r2) + (p3 + q3 + r3) := fun p1 p2 p3 q1 q2 q3 r1 r2 r3 => ring_of [p1, p2, p3, q1, q2, q3, r1, r2, r3] rfl
  rw [l, l, l, q, q, q, z]
theorem eight [IsP p] (t0 t1 t2 a b c d e f g h s u v : Quo m) : t0 * (a * s + b * u + c * v) + t1 * (d * s + e * u + f * v) + t2 * (g * s + h * u) = (t0 * a + t1 * d + t2 * g) * s + (t0 * b + t1 * e + t2 * h) * u + (t0 * c + t1 * f) * v := by
  have := nine t0 t1 t2 a b c d e f g h 0 s u v
  simp only [Gq.zero_mul, Gq.mul_zero, Gq.add_zero] at this
  exact this
end
end
end Pe

namespace Pe
open Go Gq
section
variable {p : Int}
theorem sgn_add [IsP p] {m : Fp p} : ∀ (k : Nat) (x y : Quo m), sg k (x + y) = sg k x + sg k y
  | 0, _, _ => rfl
  | k + 1, x, y => by
    show sg k (pw (x + y) p.toNat) = sg k (pw x p.toNat) + sg k (pw y p.toNat)
    rw [frob_add, sgn_add k]
theorem sgn_mul {m : Fp p} : ∀ (k : Nat) (x y : Quo m), sg k (x * y) = sg k x * sg k y
  | 0, _, _ => rfl
  | k + 1, x, y => by
    show sg k (pw (x * y) p.toNat) = sg k (pw x p.toNat) * sg k (pw y p.toNat)
    rw [pw_mul, sgn_mul k]
theorem sgn_const [IsP p] {m : Fp p} (c : Zp p) : ∀ k, sg k (Quo.mk m (Pol.C c)) = Quo.mk m (Pol.C c)
  | 0 => rfl
  | k + 1 => by
    show sg k (pw (Quo.mk m (Pol.C c)) p.toNat) = _
    rw [← Quo.mk_pow, ← C_pw, frob_const, sgn_const c k]
theorem sgn_sgn {m : Fp p} (i : Nat) : ∀ (j : Nat) (x : Quo m), sg i (sg j x) = sg (i + j) x
  | 0, _ => rfl
  | j + 1, x => by
    show sg i (sg j (pw x p.toNat)) = sg (i + j) (pw x p.toNat)
    exact sgn_sgn i j _
noncomputable def vq {m : Fp p} (X : Quo m) : Nat → List (Fp p) → Quo m
  | _, [] => 0
  | i, c :: cs => Quo.mk m c * sg i X + vq X (i + 1) cs
theorem svI_q [IsP p] {m x : Fp p} (hm : Fld m) (hx : x.len < m.len) : ∀ (i : Nat) (A : List (Fp p)) (out : Fp p), Quo.mk m (svI m x i A out) = Quo.mk m out + vq (Quo.mk m x) i A
  | i, [], out => (Gq.add_zero _).symm
  | i, c :: cs, out => by
    show Quo.mk m (svI m x (i + 1) cs (out + c * frIt m (i % (m.len - 1)) x % m)) = _
    rw [svI_q hm hx (i + 1) cs, Quo.mk_add, Pol.mk_mod, Quo.mk_mul, frIt_mod hm i hx, sg_mk]
    exact Gq.add_assoc _ _ _
noncomputable def valS [IsP p] (m : Fp p) (A : List (Fp p)) (x : Fp p) : Quo m := Quo.mk m (svI m x 0 A 0)
theorem valS_q [IsP p] {m x : Fp p} (hm : Fld m) (hx : x.len < m.len) (A : List (Fp p)) : valS m A x = vq (Quo.mk m x) 0 A := by
  unfold valS
  rw [svI_q hm hx, Quo.mk_zero, Gq.zero_add]
theorem vq_add [IsP p] {m : Fp p} (X Y : Quo m) : ∀ (A : List (Fp p)) (i : Nat), vq (X + Y) i A = vq X i A + vq Y i A
  | [], _ => (Gq.add_zero _).symm
  | c :: cs, i => by
    show Quo.mk m c * sg i (X + Y) + vq (X + Y) (i + 1) cs = (Quo.mk m c * sg i X + vq X (i + 1) cs) + (Quo.mk m c * sg i Y + vq Y (i + 1) cs)
    rw [sgn_add, vq_add X Y cs]
    exact ring_of [Quo.mk m c, sg i X, sg i Y, vq X (i + 1) cs, vq Y (i + 1) cs] rfl
theorem vq_smul [IsP p] {m : Fp p} (k : Zp p) (X : Quo m) : ∀ (A : List (Fp p)) (i : Nat), vq (Quo.mk m (Pol.C k) * X) i A = Quo.mk m (Pol.C k) * vq X i A
  | [], _ => (Gq.mul_zero _).symm
  | c :: cs, i => by
    show Quo.mk m c * sg i (Quo.mk m (Pol.C k) * X) + vq (Quo.mk m (Pol.C k) * X) (i + 1) cs = Quo.mk m (Pol.C k) * (Quo.mk m c * sg i X + vq X (i + 1) cs)
    rw [sgn_mul, sgn_const, vq_smul k X cs]
    exact ring_of [Quo.mk m c, Quo.mk m (Pol.C k), sg i X, vq X (i + 1) cs] rfl
theorem vq_set {m : Fp p} (X : Quo m) (v : Fp p) : ∀ (Q : List (Fp p)) (i j : Nat), j < Q.length → vq X i (addAt Q j v) = vq X i Q + Quo.mk m v * sg (i + j) X
  | [], _, _, h => by simp at h
  | c :: cs, i, 0, _ => by
    show Quo.mk m (c + v) * sg i X + vq X (i + 1) cs = Quo.mk m c * sg i X + vq X (i + 1) cs + Quo.mk m v * sg (i + 0) X
    rw [Quo.mk_add, Nat.add_zero]
    exact ring_of [Quo.mk m c, Quo.mk m v, sg i X, vq X (i + 1) cs] rfl
  | c :: cs, i, j + 1, h => by
    have e : addAt (c :: cs) (j + 1) v = c :: addAt cs j v := rfl
    rw [e]
    show Quo.mk m c * sg i X + vq X (i + 1) (addAt cs j v) = Quo.mk m c * sg i X + vq X (i + 1) cs + Quo.mk m v * sg (i + (j + 1)) X
    rw [vq_set X v cs (i + 1) j (by simpa using h), show i + 1 + j = i + (j + 1) by omega]
    exact (Gq.add_assoc _ _ _).symm
theorem vq_zeros {m : Fp p} (X : Quo m) : ∀ (n i : Nat), vq X i (List.replicate n (0 : Fp p)) = 0
  | 0, _ => rfl
  | n + 1, i => by
    show Quo.mk m 0 * sg i X + vq X (i + 1) (List.replicate n 0) = 0
    rw [vq_zeros X n, Quo.mk_zero, Gq.zero_mul, Gq.add_zero]
theorem byIn_v [IsP p] {m c : Fp p} (hm : Fld m) (X : Quo m) {i : Nat} : ∀ (b : List (Fp p)) (k : Nat) (Q : List (Fp p)), (∀ y ∈ b, y.len < m.len) → i + k + b.length ≤ Q.length → vq X 0 (byIn m c i k b Q) = vq X 0 Q + Quo.mk m c * sg i (vq X k b)
  | [], _, Q, _, _ => by
    show vq X 0 Q = vq X 0 Q + Quo.mk m c * sg i 0
    rw [sg_zero, Gq.mul_zero, Gq.add_zero]
  | y :: ys, k, Q, hb, h => by
    rw [List.length_cons] at h
    show vq X 0 (byIn m c i (k + 1) ys (addAt Q (i + k) _)) = vq X 0 Q + Quo.mk m c * sg i (Quo.mk m y * sg k X + vq X (k + 1) ys)
    rw [byIn_v hm X ys (k + 1) _ (fun z hz => hb z (by simp [hz])) (by rw [addAt_length]; omega), vq_set X _ Q 0 (i + k) (by omega), Pol.mk_mod, Quo.mk_mul, frIt_mod hm i (hb y (by simp)), sg_mk, Nat.zero_add, sgn_add, sgn_mul, sgn_sgn]
    exact ring_of [vq X 0 Q, Quo.mk m c, sg i (Quo.mk m y), sg (i + k) X, sg i (vq X (k + 1) ys)] rfl
/-- The value of a product with a skew polynomial of degree 1 from the left. -/
theorem prod_val [IsP p] {m c0 x : Fp p} (hm : Fld m) {A : List (Fp p)} (hA : ∀ y ∈ A, y.len < m.len) (hx : x.len < m.len) (h1 : 1 ≤ A.length) : valS m (prodS m [c0, 1] A) x = Quo.mk m c0 * valS m A x + sg 1 (valS m A x) := by
  have h0 := hm.mon.2
  have e1 : valS m (prodS m [c0, 1] A) x = valS m (mulS m [c0, 1] A) x := by
    unfold prodS valS
    rw [if_neg (by simp only [List.length_cons]; omega), svI_trim h0]
  rw [e1, valS_q hm hx, valS_q hm hx]
  show vq _ 0 (byIn m 1 1 0 A (byIn m c0 0 0 A (List.replicate ([c0, 1].length + A.length - 1) 0))) = _
  have hl : (List.replicate ([c0, (1 : Fp p)].length + A.length - 1) (0 : Fp p)).length = A.length + 1 := by rw [List.length_replicate]; simp only [List.length_cons, List.length_nil]; omega
  rw [byIn_v hm _ A 0 _ hA (by rw [byIn_length]; omega), byIn_v hm _ A 0 _ hA (by omega), vq_zeros, Gq.zero_add, Quo.mk_one, Gq.one_mul]
  rfl
theorem val_elim [IsP p] {m : Fp p} (hm : Fld m) {A : List (Fp p)} {a b : Fp p} (ha : a.len < m.len) (hb : b.len < m.len) (hk : valS m A b = 0) : valS m A (elim b a) = valS m A a := by
  have hl : (elim b a).len ≤ m.len - 1 := elim_le (by omega) (by omega)
  rw [valS_q hm (by omega), valS_q hm ha]
  rw [valS_q hm hb] at hk
  unfold elim
  rw [Quo.mk_add, Quo.mk_mul, vq_add, vq_smul, hk, Gq.mul_zero, Gq.add_zero]
theorem val_red [IsP p] {m : Fp p} (hm : Fld m) {A : List (Fp p)} : ∀ (L : List (Fp p)) (x : Fp p), (∀ b ∈ L, b.len < m.len ∧ valS m A b = 0) → x.len < m.len → valS m A (redS L x) = valS m A x
  | [], _, _, _ => rfl
  | b :: bs, x, h, hx => by
    have hb := h b (by simp)
    have hl : (elim b x).len ≤ m.len - 1 := elim_le (by omega) (by omega)
    show valS m A (redS bs (elim b x)) = _
    rw [val_red hm bs (elim b x) (fun c hc => h c (by simp [hc])) (by omega), val_elim hm hx hb.1 hb.2]
theorem val_smul [IsP p] {m : Fp p} (hm : Fld m) {A : List (Fp p)} {x : Fp p} (hx : x.len < m.len) (k : Zp p) (hk : valS m A x = 0) : valS m A (Pol.C k * x) = 0 := by
  have hl : (Pol.C k * x).len < m.len := by
    have h2 := hm.two
    have : (Pol.C k * x).len ≤ m.len - 1 := Pol.len_le fun j hj => by rw [Pol.c_Cmul, c_ge' (by omega), Gq.mul_zero]
    omega
  rw [valS_q hm hl, Quo.mk_mul, vq_smul, ← valS_q hm hx, hk, Gq.mul_zero]
theorem insS_length (a : Fp p) (L : List (Fp p)) : (insS a L).length = L.length + 1 := by
  rw [(insS_perm a L).length_eq, List.length_append, List.length_map]; rfl
noncomputable def lsC [IsP p] (m v : Fp p) : Fp p := Pol.C (zp p (-1)) * (frIt m 1 v * invm m v % m)
noncomputable def lsN [IsP p] (m : Fp p) (A : List (Fp p)) (x : Fp p) : List (Fp p) := if (svI m x 0 A 0).len = 0 then A else prodS m [lsC m (svI m x 0 A 0), 1] A
noncomputable def lsS [IsP p] (m : Fp p) : List (Fp p) → List (Fp p) → List (Fp p)
  | [], A => A
  | x :: xs, A => lsS m xs (lsN m A x)
theorem lsC_len [IsP p] {m v : Fp p} (hm : Fld m) : (lsC m v).len < m.len := by
  have h1 := Pol.len_mod (frIt m 1 v * invm m v) hm.mon.2
  have : (lsC m v).len ≤ m.len - 1 := Pol.len_le fun j hj => by unfold lsC; rw [Pol.c_Cmul, c_ge' (by omega), Gq.mul_zero]
  omega
theorem lsC_q [IsP p] {m v : Fp p} (hm : Fld m) (hv : v ≠ 0) (hvl : v.len < m.len) : Quo.mk m (lsC m v) * Quo.mk m v + sg 1 (Quo.mk m v) = 0 := by
  have hi := invm_ok hm hv hvl
  unfold lsC
  rw [Quo.mk_mul, Pol.mk_mod, Quo.mk_mul, sg_mk, zp_neg, zp_one, Pol.C_neg, Pol.C_one, Quo.mk_neg, Quo.mk_one]
  have e : -1 * (sg 1 (Quo.mk m v) * Quo.mk m (invm m v)) * Quo.mk m v + sg 1 (Quo.mk m v) = sg 1 (Quo.mk m v) * (1 - Quo.mk m (invm m v) * Quo.mk m v) := ring_of [sg 1 (Quo.mk m v), Quo.mk m (invm m v), Quo.mk m v] rfl
  rw [e, hi]
  exact ring_of [sg 1 (Quo.mk m v)] rfl
theorem lsC_pw [IsP p] {m v : Fp p} (hm : Fld m) (hv : v ≠ 0) (hvl : v.len < m.len) : frIt m 1 v * invm m v % m = pw v (p - 1).toNat % m := by
  have hp := IsP.pos (p := p)
  have h0 := hm.mon.2
  have hi := invm_ok hm hv hvl
  refine (Pol.mod_eq_iff h0).2 ?_
  rw [Quo.mk_mul, sg_mk, Quo.mk_pow]
  show pw (Quo.mk m v) p.toNat * _ = _
  rw [show p.toNat = (p - 1).toNat + 1 by omega]
  show pw (Quo.mk m v) (p - 1).toNat * Quo.mk m v * Quo.mk m (invm m v) = _
  rw [Gq.mul_assoc, Gq.mul_comm (Quo.mk m v), hi, Gq.mul_one]
structure LsI [IsP p] (m : Fp p) (A : List (Fp p)) : Prop where
  trim : IsTrim A
  res : ∀ c ∈ A, c.len < m.len
  ex : ∃ L : List (Fp p), Desc (m.len - 1) L ∧ (∀ b ∈ L, valS m A b = 0) ∧ A.length = L.length + 1
theorem LsI.len [IsP p] {m : Fp p} {A : List (Fp p)} (hm : Fld m) (h : LsI m A) : 1 ≤ A.length ∧ A.length ≤ 5 := by
  obtain ⟨L, h1, _, h3⟩ := h.ex
  have := h1.length
  have h5 := hm.five
  have h2 := hm.two
  omega
theorem LsI.sk [IsP p] {m : Fp p} {A : List (Fp p)} (hm : Fld m) (h : LsI m A) : Sk m A := ⟨h.trim, by have := h.len hm; omega, h.res⟩
theorem LsI.one [IsP p] {m : Fp p} (hm : Fld m) : LsI m (termS (1 : Fp p) 0) := ⟨(sk_one hm).trim, (sk_one hm).res, [], Desc.nil _, (fun b hb => by cases hb), by rw [termS_length]; rfl⟩
theorem two_trim [IsP p] (c : Fp p) : IsTrim [c, (1 : Fp p)] := fun n hn => by
  have : n = 1 := by simp at hn; omega
  subst this
  exact one_ne8
theorem two_res [IsP p] {m c : Fp p} (hm : Fld m) (hc : c.len < m.len) : ∀ y ∈ [c, (1 : Fp p)], y.len < m.len := fun y hy => by
  have h2 := hm.two
  have : (1 : Fp p).len = 1 := Pol.len_one
  simp at hy
  rcases hy with rfl | rfl <;> omega
theorem LsI.next [IsP p] {m x : Fp p} {A : List (Fp p)} (hm : Fld m) (h : LsI m A) (hx : x.len < m.len) : LsI m (lsN m A x) := by
  have h0 := hm.mon.2
  have h2 := hm.two
  unfold lsN
  by_cases hv : (svI m x 0 A 0).len = 0
  · rw [if_pos hv]; exact h
  · rw [if_neg hv]
    obtain ⟨L, hL, hK, hlen⟩ := h.ex
    have hvl : (svI m x 0 A 0).len < m.len := svI_len h0 0 A 0 (by rw [Pol.len_zero]; omega)
    have hv0 : svI m x 0 A 0 ≠ 0 := fun h => hv (by rw [h, Pol.len_zero])
    have hcl := lsC_len (v := svI m x 0 A 0) hm
    have hLl : ∀ b ∈ L, b.len < m.len := fun b hb => by have := hL.le b hb; omega
    have step : ∀ y : Fp p, y.len < m.len → valS m (prodS m [lsC m (svI m x 0 A 0), 1] A) y = Quo.mk m (lsC m (svI m x 0 A 0)) * valS m A y + sg 1 (valS m A y) := fun y hy => prod_val hm h.res hy (by omega)
    have kill : ∀ y : Fp p, y.len < m.len → valS m A y = 0 → valS m (prodS m [lsC m (svI m x 0 A 0), 1] A) y = 0 := fun y hy hk => by
      rw [step y hy, hk, Gq.mul_zero, sg_zero, Gq.add_zero]
    have killx : valS m (prodS m [lsC m (svI m x 0 A 0), 1] A) x = 0 := by
      rw [step x hx]
      exact lsC_q hm hv0 hvl
    have hr : redS L x ≠ 0 := fun hz => by
      have e := val_red (A := A) hm L x (fun b hb => ⟨hLl b hb, hK b hb⟩) hx
      rw [hz] at e
      have e2 : valS m A (0 : Fp p) = 0 := by
        have := val_smul (A := A) hm (x := 0) (by rw [Pol.len_zero]; omega)
        rw [valS_q hm (by rw [Pol.len_zero]; omega)]
        have h3 := vq_smul (m := m) (0 : Zp p) (0 : Quo m) A 0
        rw [Gq.mul_zero] at h3
        rw [Quo.mk_zero, h3]
        have : Quo.mk m (Pol.C (0 : Zp p)) = 0 := by rw [Pol.C_zero]; rfl
        rw [this, Gq.zero_mul]
      rw [e2] at e
      have e3 := (Pol.mod_eq_iff h0).2 (show Quo.mk m (svI m x 0 A 0) = Quo.mk m 0 from e.symm)
      rw [Pol.mod_small hvl, Pol.zero_mod h0] at e3
      exact hv0 e3
    have hrl : (redS L x).len ≤ m.len - 1 := redS_le hL.le (by omega)
    have hml := Gq.mon_len hr
    have killr : valS m (prodS m [lsC m (svI m x 0 A 0), 1] A) (Gq.mon (redS L x)) = 0 := by
      refine val_smul hm (by omega) _ ?_
      rw [val_red hm L x (fun b hb => ⟨hLl b hb, kill b (hLl b hb) (hK b hb)⟩) hx]
      exact killx
    refine ⟨isTrim_prod _ _ _, fun c hc => by have := prodS_lens' (N := m.len - 1) h0 (by omega) c hc; omega, putS L x, putS_desc hL (by omega), fun b hb => ?_, ?_⟩
    · rw [putS_ne hr] at hb
      rcases insS_mem hb with rfl | ⟨c, hc, rfl⟩
      · exact killr
      · have hcl' := hLl c hc
        rw [val_elim hm hcl' (by omega) killr]
        exact kill c hcl' (hK c hc)
    · rw [putS_ne hr, insS_length, prodS_len hm (two_trim _) h.trim (two_res hm hcl) h.res (by simp) (by omega)]
      simp only [List.length_cons, List.length_nil]
      omega
theorem LsI.all [IsP p] {m : Fp p} (hm : Fld m) : ∀ (xs A : List (Fp p)), LsI m A → (∀ x ∈ xs, x.len < m.len) → LsI m (lsS m xs A)
  | [], _, h, _ => h
  | x :: xs, A, h, hx => LsI.all hm xs _ (h.next hm (hx x (by simp))) fun y hy => hx y (by simp [hy])
end
end Pe

namespace Pe
open Go Gq
variable {T : Nat → Option Fn} {A : Oracle}
section
variable {p : Int}
end
end Pe


namespace Pe
open Go Gq
variable {T : Nat → Option Fn} {A : Oracle}
end Pe


namespace Pe
open Go Gq
variable {T : Nat → Option Fn} {A : Oracle}
theorem l_least {O : Oracle} (hva : K_value O) (hfr : K_frob O) (hin : K_inverted O) (hpr : K_product O) (hsc : K_scale O) (hby : K_by2 O) {p : Int} [IsP p] {m : Fp p} (hm : Fld m) {xs : List (Fp p)} (hxs : ∀ x ∈ xs, x.len < m.len) (hl : xs.length < 2000000) : ∀ (r i : Nat) (B : List (Fp p)), i + r = xs.length → LsI m B →
    dn O 0 (.loop ir_impl_field_least_L0) ⟨[(2, .ptr 0 []), (5, .d (skD B)), (12, .d (.sl .leaf (xs.map rowD))), (13, (.d (.int .i64 xs.length))), (14, (.d (.int .i64 i)))], [.box false (fldD m), .hole, .hole, .hole]⟩ =
      some (.exit 0, ⟨[(2, .ptr 0 []), (5, .d (skD (lsS m (xs.drop i) B))), (12, .d (.sl .leaf (xs.map rowD))), (13, (.d (.int .i64 xs.length))), (14, (.d (.int .i64 xs.length))), (15, (.d (.bool false)))], [.box false (fldD m), .hole, .hole, .hole]⟩)
  | 0, i, B, hi, hB => by
    obtain rfl : i = xs.length := by omega
    rw [List.drop_length]
    refine dn_stop ?_
    show _ = some (_, (⟨[_, (5, .d (skD B)), _, _, _, _], _⟩ : St))
    generalize skD B = BD at *
    generalize xs.map rowD = XD at *
    simp -implicitDefEqProofs [ir_impl_field_least_L0, dn_cond]
  | r + 1, i, B, hi, hB => by
    have h5 := hm.five
    have h2 := hm.two
    have h0 := hm.mon.2
    have hlt : i < xs.length := by omega
    have hx1 := hxs _ (List.getElem_mem hlt)
    have hBl := hB.len hm
    have hXL : (xs.map rowD).length = xs.length := List.length_map ..
    have hxi : ∀ h : i < (xs.map rowD).length, (xs.map rowD)[i]'h = (D.sl .leaf (ints .i64 (row xs[i]))) := fun h => by rw [List.getElem_map]
    have e1 := hva p m xs[i] B h2 (by omega) (by omega) (by omega) (fun c hc => by have := hB.res c hc; omega)
    have hvl : (svI m xs[i] 0 B 0).len < m.len := svI_len h0 0 B 0 (by rw [Pol.len_zero]; omega)
    have hvL : (row (svI m xs[i] 0 B 0)).length = (svI m xs[i] 0 B 0).len := row_length _
    have w4 : IntKind.i64.wrap ((i : Int) + 1) = ((i + 1 : Nat) : Int) := (w64 (x := (i : Int) + 1) (by omega)).trans (by omega)
    have hlt' : (i : Int) < xs.length := by omega
    have ih := l_least hva hfr hin hpr hsc hby hm hxs hl r (i + 1) (lsN m B xs[i]) (by omega) (hB.next hm hx1)
    have hdr : lsS m (xs.drop i) B = lsS m (xs.drop (i + 1)) (lsN m B xs[i]) := by rw [List.drop_eq_getElem_cons hlt]; rfl
    rw [hdr]
    have hfd : fldD m = .st [.leaf, .leaf] [(D.int .i64 p), (D.sl .leaf (ints .i64 (row m)))] := rfl
    by_cases hv : (svI m xs[i] 0 B 0).len = 0
    · have hn : lsN m B xs[i] = B := by unfold lsN; rw [if_pos hv]
      rw [hn] at ih ⊢
      refine dn_round ?_ ih
      rw [show skD B = .sl .leaf (B.map rowD) from rfl, hfd] at e1 ⊢
      rw [hv] at hvL
      generalize B.map rowD = BD at *
      generalize row (svI m xs[i] 0 B 0) = R1 at *
      generalize row xs[i] = R2 at *
      generalize xs.map rowD = XD at *
      generalize row m = Rm at *
      simp -implicitDefEqProofs [ir_impl_field_least_L0, dn_cond, hlt, hlt', hXL, hxi, e1, hvL, w4]
    · have hn : lsN m B xs[i] = prodS m [lsC m (svI m xs[i] 0 B 0), 1] B := by unfold lsN; rw [if_neg hv]
      rw [hn] at ih ⊢
      have e2 := hfr p m (svI m xs[i] 0 B 0) 1 h2 (by omega) (by omega) (by omega)
      rw [frIt_mod hm 1 hvl, show ((1 : Nat) : Int) = 1 from rfl] at e2
      have f1 := frIt_len h0 1 _ hvl
      have e3 := hin p m (svI m xs[i] 0 B 0) h0 (by omega) (by omega)
      have f2 := invm_len h0 (svI m xs[i] 0 B 0)
      have e4 := hpr p m (frIt m 1 (svI m xs[i] 0 B 0)) (invm m (svI m xs[i] 0 B 0)) h0 (by omega) (by omega) (by omega)
      have f3 := Pol.len_mod (frIt m 1 (svI m xs[i] 0 B 0) * invm m (svI m xs[i] 0 B 0)) h0
      have e5 := hsc p (-1) (frIt m 1 (svI m xs[i] 0 B 0) * invm m (svI m xs[i] 0 B 0) % m) (by omega) (by omega) (by omega)
      rw [show Pol.C (zp p (-1)) * (frIt m 1 (svI m xs[i] 0 B 0) * invm m (svI m xs[i] 0 B 0) % m) = lsC m (svI m xs[i] 0 B 0) from rfl] at e5
      have hcl := lsC_len (v := svI m xs[i] 0 B 0) hm
      have e6 := hby p m [lsC m (svI m xs[i] 0 B 0), 1] B h2 (by omega) (fun c hc => by have := two_res hm hcl c hc; omega) (fun c hc => by have := hB.res c hc; omega) (by simp) (by omega)
      rw [show skD [lsC m (svI m xs[i] 0 B 0), (1 : Fp p)] = .sl .leaf [(D.sl .leaf (ints .i64 (row (lsC m (svI m xs[i] 0 B 0))))), (D.sl .leaf (ints .i64 (row (1 : Fp p))))] from rfl, row_one, show ints .i64 [1] = [.int .i64 1] from rfl] at e6
      have hpos : 0 < (svI m xs[i] 0 B 0).len := by omega
      refine dn_round ?_ ih
      rw [show skD (prodS m [lsC m (svI m xs[i] 0 B 0), 1] B) = .sl .leaf ((prodS m [lsC m (svI m xs[i] 0 B 0), 1] B).map rowD) from rfl] at e6 ⊢
      rw [show skD B = .sl .leaf (B.map rowD) from rfl, hfd] at e1 e6 ⊢
      rw [hfd] at e2 e3 e4
      generalize (prodS m [lsC m (svI m xs[i] 0 B 0), 1] B).map rowD = ND at *
      generalize row (lsC m (svI m xs[i] 0 B 0)) = R3 at *
      generalize row (frIt m 1 (svI m xs[i] 0 B 0) * invm m (svI m xs[i] 0 B 0) % m) = R4 at *
      generalize row (frIt m 1 (svI m xs[i] 0 B 0)) = R5 at *
      generalize row (invm m (svI m xs[i] 0 B 0)) = R6 at *
      generalize row (svI m xs[i] 0 B 0) = R1 at *
      generalize (svI m xs[i] 0 B 0).len = vl at *
      generalize B.map rowD = BD at *
      generalize row xs[i] = R2 at *
      generalize xs.map rowD = XD at *
      generalize row m = Rm at *
      simp -implicitDefEqProofs [ir_impl_field_least_L0, dn_cond, hlt, hlt', hXL, hxi, e1, hvL, hpos, e2, e3, e4, e5, e6, w4]
def K_least (O : Oracle) : Prop := ∀ (p : Int) [IsP p] (m : Fp p) (xs : List (Fp p)), Fld m → (∀ x ∈ xs, x.len < m.len) → xs.length < 2000000 → ask O F_impl_field_least [fldD m, .sl .leaf (xs.map rowD)] = some (skD (lsS m xs (termS 1 0)))
theorem k_least (hT : T F_impl_field_least = some ir_impl_field_least) (hsi : K_single (den T A)) (hva : K_value (den T A)) (hfr : K_frob (den T A)) (hin : K_inverted (den T A)) (hpr : K_product (den T A)) (hsc : K_scale (den T A)) (hby : K_by2 (den T A)) : K_least (den T A) := by
  intro p ip m xs hm hxs hl
  have e0 := hsi p (1 : Fp p) 0 (by omega)
  rw [row_one, show ints .i64 [1] = [.int .i64 1] from rfl, show ((0 : Nat) : Int) = 0 from rfl] at e0
  have e1 := l_least (O := den T A) hva hfr hin hpr hsc hby hm hxs hl xs.length 0 (termS 1 0) (Nat.zero_add _) (.one hm)
  rw [List.drop_zero, show ((0 : Nat) : Int) = 0 from rfl] at e1
  have hXL : (xs.map rowD).length = xs.length := List.length_map ..
  have hfd : fldD m = .st [.leaf, .leaf] [(D.int .i64 p), (D.sl .leaf (ints .i64 (row m)))] := rfl
  rw [show skD (lsS m xs (termS 1 0)) = .sl .leaf ((lsS m xs (termS 1 0)).map rowD) from rfl, hfd] at e1 ⊢
  rw [show skD (termS (1 : Fp p) 0) = .sl .leaf ((termS (1 : Fp p) 0).map rowD) from rfl] at e0 e1
  refine ask_of hT rfl ?_
  generalize (lsS m xs (termS 1 0)).map rowD = ND at *
  generalize (termS (1 : Fp p) 0).map rowD = OD at *
  generalize xs.map rowD = XD at *
  generalize row m = Rm at *
  simp -implicitDefEqProofs [ir_impl_field_least, ir_impl_field_least_B, e0, e1, hXL]
theorem eS_two {p : Int} [IsP p] (c d : Fp p) : (skP (pd8 [c, d])).map arr8 = (z8.set 0 (D.arr 64 .leaf (ints .u8 (pad (row c))))).set 1 (D.arr 64 .leaf (ints .u8 (pad (row d)))) := by
  have e2 : skP (pd8 [c, d]) = pad (row c) :: pad (row d) :: List.replicate 6 (pad []) := by
    show pad (row c) :: pad (row d) :: (List.replicate 6 (0 : Fp p)).map (fun a => pad (row a)) = _
    rw [List.map_replicate, row_zero]
  rw [e2]
  rfl
theorem l_sLeast {O : Oracle} (hva : K_sSkVal O) (hdg : K_sDeg O) (hpm : K_sPowMod O) (had : K_sAdd O) (h1 : K_sOne O) (hti : K_sTimes8 O) {p : Int} [IsP p] {m : Fp p} (hm : Fld m) {xs : List (Fp p)} (hxs : ∀ x ∈ xs, x.len < m.len) (hl : xs.length < 2000000) {z : List D} : ∀ (r i : Nat) (B : List (Fp p)), i + r = xs.length → LsI m B →
    dn O 0 (.loop ir_spec_l03Least_L0) ⟨[(0, (.d (.int .i64 p))), (2, .d (.sl (.arr 64 .leaf) (xs.map padD))), (4, .ptr 0 []), (6, .ptr 1 []), (7, .ptr 2 []), (8, (.d (.int .i64 i)))], [.box false (D.arr 64 .leaf (ints .u8 (pad (row m)))), .box false (.arr 8 (.arr 64 .leaf) z), .box false (.arr 8 (.arr 64 .leaf) ((skP (pd8 B)).map arr8)), .hole, .hole, .hole]⟩ =
      some (.exit 0, ⟨[(0, (.d (.int .i64 p))), (2, .d (.sl (.arr 64 .leaf) (xs.map padD))), (4, .ptr 0 []), (6, .ptr 1 []), (7, .ptr 2 []), (8, (.d (.int .i64 xs.length))), (17, (.d (.bool false)))], [.box false (D.arr 64 .leaf (ints .u8 (pad (row m)))), .box false (.arr 8 (.arr 64 .leaf) z), .box false (.arr 8 (.arr 64 .leaf) ((skP (pd8 (lsS m (xs.drop i) B))).map arr8)), .hole, .hole, .hole]⟩)
  | 0, i, B, hi, hB => by
    obtain rfl : i = xs.length := by omega
    rw [List.drop_length]
    refine dn_stop ?_
    show _ = some (_, (⟨_, [_, _, .box false (.arr 8 (.arr 64 .leaf) ((skP (pd8 B)).map arr8)), _, _, _]⟩ : St))
    have hXL : (xs.map padD).length = xs.length := List.length_map ..
    generalize (skP (pd8 B)).map arr8 = BD at *
    generalize xs.map padD = XD at *
    generalize pad (row m) = Pm at *
    simp -implicitDefEqProofs [ir_spec_l03Least_L0, dn_cond, hXL]
  | r + 1, i, B, hi, hB => by
    have h5 := hm.five
    have h2 := hm.two
    have h0 := hm.mon.2
    have hp : 2 ≤ p := by rcases IsP.h (p := p) with h | h | h | h <;> omega
    have h7 := IsP.le (p := p)
    have hlt : i < xs.length := by omega
    have hx1 := hxs _ (List.getElem_mem hlt)
    have hBl := hB.len hm
    have hXL : (xs.map padD).length = xs.length := List.length_map ..
    have hxi : ∀ h : i < (xs.map padD).length, (xs.map padD)[i]'h = (D.arr 64 .leaf (ints .u8 (pad (row xs[i])))) := fun h => by rw [List.getElem_map]
    have e1 := hva p m xs[i] (pd8 B) h2 (by omega) hx1 (pd8_length (by omega)) (pd8_res h0 hB.res)
    rw [← svI_trim h0, trim_pd8 hB.trim, show skwD (skP (pd8 B)) = .arr 8 (.arr 64 .leaf) ((skP (pd8 B)).map arr8) from rfl] at e1
    have hvl : (svI m xs[i] 0 B 0).len < m.len := svI_len h0 0 B 0 (by rw [Pol.len_zero]; omega)
    have e2 := hdg p (svI m xs[i] 0 B 0) (by omega)
    have w4 : IntKind.i64.wrap ((i : Int) + 1) = ((i + 1 : Nat) : Int) := (w64 (x := (i : Int) + 1) (by omega)).trans (by omega)
    have hlt' : (i : Int) < xs.length := by omega
    have ih := l_sLeast hva hdg hpm had h1 hti hm hxs hl (z := z) r (i + 1) (lsN m B xs[i]) (by omega) (hB.next hm hx1)
    have hdr : lsS m (xs.drop i) B = lsS m (xs.drop (i + 1)) (lsN m B xs[i]) := by rw [List.drop_eq_getElem_cons hlt]; rfl
    rw [hdr]
    by_cases hv : (svI m xs[i] 0 B 0).len = 0
    · have hn : lsN m B xs[i] = B := by unfold lsN; rw [if_pos hv]
      rw [hn] at ih ⊢
      rw [hv] at e2
      refine dn_round ?_ ih
      generalize (skP (pd8 B)).map arr8 = BD at *
      generalize pad (row (svI m xs[i] 0 B 0)) = P1 at *
      generalize pad (row xs[i]) = P2 at *
      generalize xs.map padD = XD at *
      generalize pad (row m) = Pm at *
      simp -implicitDefEqProofs [ir_spec_l03Least_L0, dn_cond, hlt, hlt', hXL, hxi, e1, e2, w4]
    · have hn : lsN m B xs[i] = prodS m [lsC m (svI m xs[i] 0 B 0), 1] B := by unfold lsN; rw [if_neg hv]
      rw [hn] at ih ⊢
      have hv0 : svI m xs[i] 0 B 0 ≠ 0 := fun h => hv (by rw [h, Pol.len_zero])
      have hneg : ¬ ((svI m xs[i] 0 B 0).len : Int) - 1 < 0 := by omega
      have e3 := hpm p (svI m xs[i] 0 B 0) (p - 1) m h0 (by omega) (by omega) (by omega) (by omega)
      rw [← lsC_pw hm hv0 hvl] at e3
      have f3 := Pol.len_mod (frIt m 1 (svI m xs[i] 0 B 0) * invm m (svI m xs[i] 0 B 0)) h0
      have e4 := had p (-1) 0 (frIt m 1 (svI m xs[i] 0 B 0) * invm m (svI m xs[i] 0 B 0) % m) (by omega) (by omega) (by rw [Pol.len_zero]; omega) (by omega)
      rw [Gq.zero_add, show Pol.C (zp p (-1)) * (frIt m 1 (svI m xs[i] 0 B 0) * invm m (svI m xs[i] 0 B 0) % m) = lsC m (svI m xs[i] 0 B 0) from rfl, row_zero] at e4
      have e5 := h1 p
      have hcl := lsC_len (v := svI m xs[i] 0 B 0) hm
      have e6 := hti p m [lsC m (svI m xs[i] 0 B 0), 1] B hm ⟨two_trim _, by simp, two_res hm hcl⟩ (hB.sk hm) (by simp only [List.length_cons, List.length_nil]; omega)
      rw [eS_arr, eS_arr, eS_arr, eS_two] at e6
      have w1 : IntKind.i64.wrap (p - 1) = p - 1 := w64 (by omega)
      have hf1 := flats_arr8 (skP (pd8 (prodS m [lsC m (svI m xs[i] 0 B 0), 1] B)))
      refine dn_round ?_ ih
      generalize (skP (pd8 (prodS m [lsC m (svI m xs[i] 0 B 0), 1] B))).map arr8 = ND at *
      generalize (skP (pd8 B)).map arr8 = BD at *
      generalize pad (row (lsC m (svI m xs[i] 0 B 0))) = P3 at *
      generalize pad (row (frIt m 1 (svI m xs[i] 0 B 0) * invm m (svI m xs[i] 0 B 0) % m)) = P4 at *
      generalize pad (row (svI m xs[i] 0 B 0)) = P1 at *
      generalize ((svI m xs[i] 0 B 0).len : Int) - 1 = n1 at *
      generalize pad (row (1 : Fp p)) = P5 at *
      generalize pad (row xs[i]) = P2 at *
      generalize xs.map padD = XD at *
      generalize pad (row m) = Pm at *
      simp [z8, z64_eq] at e6
      simp -implicitDefEqProofs [ir_spec_l03Least_L0, dn_cond, hlt, hlt', hXL, hxi, e1, e2, hneg, e3, e4, e5, e6, w1, w4, hf1, z8, List.replicate]
def K_sLeast3 (O : Oracle) : Prop := ∀ (p : Int) [IsP p] (m : Fp p) (xs : List (Fp p)), Fld m → (∀ x ∈ xs, x.len < m.len) → xs.length < 2000000 → ask O F_spec_l03Least [(D.int .i64 p), (D.arr 64 .leaf (ints .u8 (pad (row m)))), .sl (.arr 64 .leaf) (xs.map padD)] = some (eS (lsS m xs (termS 1 0)))
theorem k_sLeast3 (hT : T F_spec_l03Least = some ir_spec_l03Least) (hon : K_sOne3 (den T A)) (hva : K_sSkVal (den T A)) (hdg : K_sDeg (den T A)) (hpm : K_sPowMod (den T A)) (had : K_sAdd (den T A)) (h1 : K_sOne (den T A)) (hti : K_sTimes8 (den T A)) : K_sLeast3 (den T A) := by
  intro p ip m xs hm hxs hl
  have e0 := hon p
  have e1 := l_sLeast (O := den T A) hva hdg hpm had h1 hti hm hxs hl (z := z8) xs.length 0 (termS 1 0) (Nat.zero_add _) (.one hm)
  rw [List.drop_zero, show ((0 : Nat) : Int) = 0 from rfl] at e1
  have hf1 := flats_arr8 (skP (pd8 (termS (1 : Fp p) 0)))
  have hf2 := flats_arr8 (skP (pd8 (lsS m xs (termS 1 0))))
  rw [eS_arr] at e0 ⊢
  refine ask_of hT rfl ?_
  generalize (skP (pd8 (lsS m xs (termS 1 0)))).map arr8 = ND at *
  generalize (skP (pd8 (termS (1 : Fp p) 0))).map arr8 = OD at *
  generalize xs.map padD = XD at *
  generalize pad (row m) = Pm at *
  simp -implicitDefEqProofs [ir_spec_l03Least, ir_spec_l03Least_B, e0, e1, hf1, List.replicate]
end Pe

namespace Pe
open Go Gq
variable {T : Nat → Option Fn} {A : Oracle}
theorem l_sDick {O : Oracle} (hdg : K_sDeg8 O) {p : Int} [IsP p] {m : Fp p} (hm : Fld m) {B : List (Fp p)} (hB : Sk m B) : ∀ (r i : Nat) (cp : Option Nat), i + r = B.length → ∃ cp' : Option Nat,
    dn O 0 (.loop ir_spec_DicksonOf_L0) ⟨[(9, .ptr 2 []), (10, .sl 1 [] 0 i cp), (11, (.d (.int .i64 i)))], [.hole, .sl false (.arr 64 .leaf) ((B.take i).map padD), .box false (.arr 8 (.arr 64 .leaf) ((skP (pd8 B)).map arr8)), .hole, .hole]⟩ =
      some (.exit 0, ⟨[(9, .ptr 2 []), (10, .sl 1 [] 0 B.length cp'), (11, (.d (.int .i64 B.length))), (27, (.d (.bool false)))], [.hole, .sl false (.arr 64 .leaf) (B.map padD), .box false (.arr 8 (.arr 64 .leaf) ((skP (pd8 B)).map arr8)), .hole, .hole]⟩)
  | 0, i, cp, hi => by
    have h5 := hm.five
    obtain rfl : i = B.length := by omega
    rw [List.take_length]
    have e1 := hdg p m B hm.mon.2 (by omega) hB
    rw [eS_arr] at e1
    have hn : ¬ ((B.length : Nat) : Int) ≤ (B.length : Int) - 1 := by omega
    refine ⟨cp, dn_stop ?_⟩
    generalize (B.length : Int) - 1 = n1 at *
    generalize (skP (pd8 B)).map arr8 = BD at *
    generalize B.map padD = XD at *
    simp -implicitDefEqProofs [ir_spec_DicksonOf_L0, dn_cond, e1, hn]
  | r + 1, i, cp, hi => by
    have h5 := hm.five
    have h8 := hB.eight
    have hlt : i < B.length := by omega
    have hi8 : i < 8 := by omega
    have e1 := hdg p m B hm.mon.2 (by omega) hB
    rw [eS_arr] at e1
    have hle : (i : Int) ≤ (B.length : Int) - 1 := by omega
    have hx1 := eS_get (X := B) h8 hi8
    have hBL := eS_len h8
    have w4 : IntKind.i64.wrap ((i : Int) + 1) = ((i + 1 : Nat) : Int) := (w64 (x := (i : Int) + 1) (by omega)).trans (by omega)
    have h64 : (i + 1) * 64 ≤ 1099511627776 := by omega
    have htk : (B.take (i + 1)).map padD = (B.take i).map padD ++ [(D.arr 64 .leaf (ints .u8 (pad (row (cS B i)))))] := by rw [List.take_succ_eq_append_getElem hlt, List.map_append, cS_lt hlt]; rfl
    have hL : ((B.take i).map padD).length = i := by rw [List.length_map, List.length_take]; omega
    have htt : ((B.take i).map padD).take i = (B.take i).map padD := List.take_of_length_le (by omega)
    obtain ⟨cp', ih⟩ := l_sDick hdg hm hB r (i + 1) none (by omega)
    refine ⟨cp', dn_round ?_ ih⟩
    rw [htk]
    generalize (B.length : Int) - 1 = n1 at *
    generalize pad (row (cS B i)) = Pi at *
    generalize (B.take i).map padD = TD at *
    generalize (skP (pd8 B)).map arr8 = BD at *
    simp -implicitDefEqProofs [ir_spec_DicksonOf_L0, dn_cond, hle, hi8, hx1, hBL, e1, h64, hL, htt, w4, List.replicate]
open Classical in
noncomputable def dkL (p : Int) (l : List Int) (ls : List (List Int)) : List (List Int) :=
  if h : RsOk p l ls then
    haveI : IsP p := h.choose
    skP (lsS (polOf p l) (ls.map (polOf p)) (termS 1 0))
  else []
theorem dkL_good {p : Int} [IsP p] {m : Fp p} {S : List (Fp p)} (h : RsOk p (pad (row m)) (skP S)) (hm : m.len ≤ 64) (hS : ∀ a ∈ S, a.len ≤ 64) : dkL p (pad (row m)) (skP S) = skP (lsS m S (termS 1 0)) := by
  unfold dkL
  rw [dif_pos h, polOf_pad hm, map_polOf hS]
theorem dkL_bad {p : Int} {l : List Int} {ls : List (List Int)} (h : ¬ RsOk p l ls) : dkL p l ls = [] := by unfold dkL; rw [dif_neg h]
theorem dkL_ok (p : Int) (l : List Int) (ls : List (List Int)) : (∀ x ∈ dkL p l ls, x.length = 64) ∧ (dkL p l ls).length ≤ 11 := by
  by_cases h : RsOk p l ls
  · have h' := h
    obtain ⟨ip, m, rfl, hm, hs⟩ := h
    obtain ⟨S, rfl, hS⟩ := sk_of hs
    have h5 := hm.five
    rw [dkL_good h' (by omega) (fun a ha => by have := hS a ha; omega)]
    refine ⟨fun x hx => by obtain ⟨a, _, rfl⟩ := List.mem_map.1 hx; exact pad_length _, ?_⟩
    have := (LsI.all hm S _ (.one hm) hS).len hm
    rw [List.length_map]; omega
  · rw [dkL_bad h]; exact ⟨fun x hx => by simp at hx, by simp⟩
noncomputable def dkD (p : Int) (l : List Int) (ls : List (List Int)) : D := .tup [.sl (.arr 64 .leaf) ((dkL p l ls).map arr8), (D.int .i64 (codeRs p l ls))]
def K_DicksonOf (O : Oracle) (F : Nat) : Prop := ∀ (p : Int) (l : List Int) (ls : List (List Int)), Bytes l → l.length = 64 → Arrs ls → ls.length < 2000000 → ask O F [(D.int .i64 p), (D.arr 64 .leaf (ints .u8 l)), .sl (.arr 64 .leaf) (ls.map arr8)] = some (dkD p l ls)
theorem k_DicksonOf (hT : T F_impl_DicksonOf = some ir_impl_DicksonOf) (hc : C_resCode (den T A) F_impl_residuesCode) (hro : K_rows (den T A)) (hfo : K_fieldOf (den T A)) (hre : K_least (den T A)) (hpo : K_polys (den T A)) : K_DicksonOf (den T A) F_impl_DicksonOf := by
  intro p l ls bl gl ha hl
  have e1 := hc p l ls bl gl ha hl
  unfold dkD
  by_cases h : RsOk p l ls
  · have h' := h
    rw [codes_rs.2 h] at e1 ⊢
    obtain ⟨ip, m, rfl, hm, hs⟩ := h
    obtain ⟨S, rfl, hS⟩ := sk_of hs
    have h5 := hm.five
    have hSl : S.length < 2000000 := by rwa [List.length_map] at hl
    have hI := LsI.all hm S _ (.one hm) hS
    have hdl := hI.len hm
    have e2 := hro p S hSl (fun x hx => by have := hS x hx; omega)
    have e3 := hre p m S hm hS hSl
    have e3f := hfo p m (by omega)
    have e4 := hpo p (lsS m S (termS 1 0)) (by omega) (fun x hx => by have := hI.res x hx; omega)
    have hfd : fldD m = .st [.leaf, .leaf] [(D.int .i64 p), (D.sl .leaf (ints .i64 (row m)))] := rfl
    rw [show skD (lsS m S (termS 1 0)) = .sl .leaf ((lsS m S (termS 1 0)).map rowD) from rfl, hfd] at e3
    rw [hfd] at e3f
    have hmd : (S.map fun a => pad (row a)).map arr8 = S.map padD := map_padD S
    rw [dkL_good h' (by omega) (fun a ha => by have := hS a ha; omega), hmd, show (skP (lsS m S (termS 1 0))).map arr8 = (lsS m S (termS 1 0)).map padD from map_padD _]
    rw [hmd] at e1
    refine ask_of hT rfl ?_
    generalize (lsS m S (termS 1 0)).map padD = R1 at *
    generalize (lsS m S (termS 1 0)).map rowD = R2 at *
    generalize S.map padD = SD at *
    generalize S.map rowD = RD at *
    generalize pad (row m) = Pm at *
    generalize row m = Rm at *
    simp -implicitDefEqProofs [ir_impl_DicksonOf, ir_impl_DicksonOf_B, dn_cond, e1, e2, e3, e3f, e4]
  · rw [codeRs_one h] at e1 ⊢
    rw [dkL_bad h, List.map_nil]
    refine ask_of hT rfl ?_
    generalize ls.map arr8 = LD at *
    simp -implicitDefEqProofs [ir_impl_DicksonOf, ir_impl_DicksonOf_B, dn_cond, e1]
theorem k_sDicksonOf (hT : T F_spec_DicksonOf = some ir_spec_DicksonOf) (hc : C_resCode (den T A) F_spec_l03Residues) (hdg : K_sDeg8 (den T A)) (hsp : K_sLeast3 (den T A)) : K_DicksonOf (den T A) F_spec_DicksonOf := by
  intro p l ls bl gl ha hl
  have e1 := hc p l ls bl gl ha hl
  unfold dkD
  by_cases h : RsOk p l ls
  · have h' := h
    rw [codes_rs.2 h] at e1 ⊢
    obtain ⟨ip, m, rfl, hm, hs⟩ := h
    obtain ⟨S, rfl, hS⟩ := sk_of hs
    have h5 := hm.five
    have hSl : S.length < 2000000 := by rwa [List.length_map] at hl
    have e3 := hsp p m S hm hS hSl
    have hI := LsI.all hm S _ (.one hm) hS
    have hIs := hI.sk hm
    obtain ⟨cp, e4⟩ := l_sDick (O := den T A) hdg hm hIs (lsS m S (termS 1 0)).length 0 (some 0) (Nat.zero_add _)
    rw [show ((0 : Nat) : Int) = 0 from rfl, List.take_zero, List.map_nil] at e4
    rw [eS_arr] at e3
    have hf1 := flats_arr8 (skP (pd8 (lsS m S (termS 1 0))))
    have hNL : ((lsS m S (termS 1 0)).map padD).length = (lsS m S (termS 1 0)).length := List.length_map ..
    have hNt : ((lsS m S (termS 1 0)).map padD).take (lsS m S (termS 1 0)).length = (lsS m S (termS 1 0)).map padD := List.take_of_length_le (by omega)
    have hmd : (S.map fun a => pad (row a)).map arr8 = S.map padD := map_padD S
    rw [dkL_good h' (by omega) (fun a ha => by have := hS a ha; omega), hmd, show (skP (lsS m S (termS 1 0))).map arr8 = (lsS m S (termS 1 0)).map padD from map_padD _]
    rw [hmd] at e1
    refine ask_of hT rfl ?_
    generalize (lsS m S (termS 1 0)).map padD = R1 at *
    generalize (skP (pd8 (lsS m S (termS 1 0)))).map arr8 = R2 at *
    generalize (lsS m S (termS 1 0)).length = nl at *
    generalize S.map padD = SD at *
    generalize pad (row m) = Pm at *
    simp -implicitDefEqProofs [ir_spec_DicksonOf, ir_spec_DicksonOf_B, dn_cond, e1, e3, e4, hf1, hNL, hNt, List.replicate]
  · rw [codeRs_one h] at e1 ⊢
    rw [dkL_bad h, List.map_nil]
    refine ask_of hT rfl ?_
    generalize ls.map arr8 = LD at *
    simp -implicitDefEqProofs [ir_spec_DicksonOf, ir_spec_DicksonOf_B, dn_cond, e1]
def H_DicksonOf (O : Oracle) : Prop := ∀ (p : Int) (l : List Int) (ls : List (List Int)) (cq : Option Nat), Bytes l → l.length = 64 → Arrs ls → ls.length < 2000000 → ∃ cp : Option Nat,
  O F_impl_DicksonOf_h [(.d (.int .i64 p)), .d (D.arr 64 .leaf (ints .u8 l)), .sl 0 [] 0 ls.length cq] [.sl false (.arr 64 .leaf) (ls.map arr8)] = some (.tup [.sl 1 [] 0 (dkL p l ls).length cp, (.d (.int .i64 (codeRs p l ls)))], [.sl false (.arr 64 .leaf) (ls.map arr8)], [.sl false (.arr 64 .leaf) ((dkL p l ls).map arr8)])
theorem h_DicksonOf (hT : T F_impl_DicksonOf_h = some ir_impl_DicksonOf_hw) (hc : C_resCode (den T A) F_impl_residuesCode) (hro : H_rows (den T A)) (hfo : K_fieldOf (den T A)) (hre : K_least (den T A)) (hpo : H_polys (den T A)) : H_DicksonOf (den T A) := by
  intro p l ls cq bl gl ha hl
  have e1 := hc p l ls bl gl ha hl
  have hLL : (ls.map arr8).length = ls.length := List.length_map ..
  have htl : (ls.map arr8).take ls.length = ls.map arr8 := List.take_of_length_le (by omega)
  by_cases h : RsOk p l ls
  · have h' := h
    rw [codes_rs.2 h] at e1 ⊢
    obtain ⟨ip, m, rfl, hm, hs⟩ := h
    obtain ⟨S, rfl, hS⟩ := sk_of hs
    have h5 := hm.five
    have hSl : S.length < 2000000 := by rwa [List.length_map] at hl
    have hI := LsI.all hm S _ (.one hm) hS
    have hdl := hI.len hm
    obtain ⟨c1, e2⟩ := hro p S cq hSl (fun x hx => by have := hS x hx; omega)
    have e3 := hre p m S hm hS hSl
    have e3f := hfo p m (by omega)
    have hfd : fldD m = .st [.leaf, .leaf] [(D.int .i64 p), (D.sl .leaf (ints .i64 (row m)))] := rfl
    rw [show skD (lsS m S (termS 1 0)) = .sl .leaf ((lsS m S (termS 1 0)).map rowD) from rfl, hfd] at e3
    rw [hfd] at e3f
    obtain ⟨c2, e4⟩ := hpo p (lsS m S (termS 1 0)) (by omega) (fun x hx => by have := hI.res x hx; omega)
    have hmd : (S.map fun a => pad (row a)).map arr8 = S.map padD := map_padD S
    have hsl : (S.map fun a => pad (row a)).length = S.length := List.length_map ..
    rw [dkL_good h' (by omega) (fun a ha => by have := hS a ha; omega), hmd, show (skP (lsS m S (termS 1 0))).map arr8 = (lsS m S (termS 1 0)).map padD from map_padD _, hsl, show (skP (lsS m S (termS 1 0))).length = (lsS m S (termS 1 0)).length from List.length_map ..]
    rw [hmd, hsl] at htl hLL
    rw [hmd] at e1
    have hRL : (S.map rowD).length = S.length := List.length_map ..
    have htr : (S.map rowD).take S.length = S.map rowD := List.take_of_length_le (by omega)
    refine ⟨c2, den_of hT rfl ?_⟩
    generalize (lsS m S (termS 1 0)).map padD = R1 at *
    generalize (lsS m S (termS 1 0)).map rowD = R2 at *
    generalize S.map padD = SD at *
    generalize S.map rowD = RD at *
    generalize pad (row m) = Pm at *
    generalize row m = Rm at *
    generalize (lsS m S (termS 1 0)).length = k at *
    generalize S.length = n at *
    simp -implicitDefEqProofs [ir_impl_DicksonOf_hw, ir_impl_DicksonOf_hw_B, dn_cond, e1, e2, e3, e3f, e4, hLL, htl, hRL, htr, List.idxOf, List.findIdx, List.findIdx.go]
  · rw [codeRs_one h] at e1 ⊢
    rw [dkL_bad h, List.map_nil]
    refine ⟨some 0, den_of hT rfl ?_⟩
    generalize ls.map arr8 = LD at *
    generalize ls.length = n at *
    simp -implicitDefEqProofs [ir_impl_DicksonOf_hw, ir_impl_DicksonOf_hw_B, dn_cond, e1, hLL, htl, List.idxOf, List.findIdx, List.findIdx.go]
def L_DicksonOf (O : Oracle) : Prop := ∀ (p : Int) (l : List Int), Bytes l → l.length = 64 → ∀ (ls : List (List Int)), Arrs ls → ls.length ≤ 9223372036854775807 → ask O F_laws_FnExactDicksonOf [(D.int .i64 p), (D.arr 64 .leaf (ints .u8 l)), .sl (.arr 64 .leaf) (ls.map arr8)] = some (D.bool true)
theorem law_DicksonOf (hT : T F_laws_FnExactDicksonOf = some ir_laws_FnExactDicksonOf) (hp : C_toPoly (den T A)) (hk : C_toPs (den T A)) (hkh : H_toPs (den T A)) (he : C_eqPs (den T A)) (hsz : C_szPs (den T A)) (hmk : H_markPs (den T A)) (hhd : C_heldPs (den T A)) (hi : K_DicksonOf (den T A) F_impl_DicksonOf) (hih : H_DicksonOf (den T A)) (hs : K_DicksonOf (den T A) F_spec_DicksonOf) : L_DicksonOf (den T A) := by
  intro p l bl gl ls ha hl
  have e0 := hsz (ls.map arr8) 1048576 (by omega) (by omega) (by rw [List.length_map]; exact hl)
  rw [List.length_map] at e0
  refine ask_of hT rfl ?_
  by_cases hbig : (1048576 : Int) < ls.length
  · rw [if_pos hbig] at e0
    generalize ls.map arr8 = LD at *
    simp -implicitDefEqProofs [ir_laws_FnExactDicksonOf, ir_laws_FnExactDicksonOf_B, dn_cond, e0]
  · rw [if_neg hbig] at e0
    have hl2 : ls.length < 2000000 := by omega
    have e1 := hp l bl gl
    have e2 := hk ls ha hl2
    have e2' := hkh ls ha hl2
    have e3 := hi p l ls bl gl ha hl2
    have e4 := hs p l ls bl gl ha hl2
    obtain ⟨cp, e5⟩ := hih p l ls (some ls.length) bl gl ha hl2
    unfold dkD at e3 e4
    obtain ⟨s1, s2⟩ := dkL_ok p l ls
    have e6 := he ls (fun l hl => (ha l hl).1) hl2
    have e7 := he (dkL p l ls) s1 (by omega)
    have e8 := hmk ls (some ls.length) 1 hl2 (by omega) (fun l hl => (ha l hl).1)
    have e9 := hmk (dkL p l ls) cp 1 (by omega) (by omega) s1
    have e10 := hhd 1 (dkL p l ls).length (by omega) (by omega)
    have hLL : (ls.map arr8).length = ls.length := List.length_map ..
    have htl : (ls.map arr8).take ls.length = ls.map arr8 := List.take_of_length_le (by omega)
    have hRL : ((dkL p l ls).map arr8).length = (dkL p l ls).length := List.length_map ..
    have htr : ((dkL p l ls).map arr8).take (dkL p l ls).length = (dkL p l ls).map arr8 := List.take_of_length_le (by omega)
    have hML : ((mrows 1 ls.length).map arr8).length = ls.length := by rw [List.length_map, mrows_length]
    have hNL : ((mrows 1 (dkL p l ls).length).map arr8).length = (dkL p l ls).length := by rw [List.length_map, mrows_length]
    have htn : ((mrows 1 (dkL p l ls).length).map arr8).take (dkL p l ls).length = (mrows 1 (dkL p l ls).length).map arr8 := List.take_of_length_le (by omega)
    have hn : ¬ (1048576 : Int) - ls.length < 0 := by omega
    have hn2 : ¬ ((1 + 64 * ls.length : Nat) : Int) < 0 := by omega
    have hn3 : ¬ ((1 + 64 * (dkL p l ls).length : Nat) : Int) < 0 := by omega
    have e01 : ((1 : Nat) : Int) = 1 := rfl
    rw [e01] at e8 e9 e10
    generalize ((1 + 64 * ls.length : Nat) : Int) = k1 at *
    generalize ((1 + 64 * (dkL p l ls).length : Nat) : Int) = k2 at *
    generalize (mrows 1 ls.length).map arr8 = MD at *
    generalize (mrows 1 (dkL p l ls).length).map arr8 = ND at *
    generalize (dkL p l ls).map arr8 = SD at *
    generalize (dkL p l ls).length = sl at *
    generalize codeRs p l ls = cc at *
    generalize (1048576 : Int) - ls.length = left at *
    generalize ls.map arr8 = LD at *
    generalize ls.length = n at *
    simp -implicitDefEqProofs [ir_laws_FnExactDicksonOf, ir_laws_FnExactDicksonOf_B, dn_cond, e0, e1, e2, e2', e3, e4, e5, e6, e7, e8, e9, e10, hLL, htl, hRL, htr, hNL, htn, hn, hn2, hn3, List.replicate, List.idxOf, List.findIdx, List.findIdx.go]
end Pe

namespace Pe
open Go
theorem has_polys : ∀ (xs : List D), (∀ x ∈ xs, tyP.has x) → ∃ ls : List (List Int), xs = ls.map arr8 ∧ Arrs ls
  | [], _ => ⟨[], rfl, fun _ h => by cases h⟩
  | x :: xs, h => by
    obtain ⟨ls, rfl, hb⟩ := has_polys xs fun y hy => h y (List.mem_cons_of_mem _ hy)
    obtain ⟨l, rfl, b, g⟩ := has_P (h x (by simp))
    refine ⟨l :: ls, rfl, fun y hy => ?_⟩
    rcases List.mem_cons.1 hy with rfl | hy
    · exact ⟨g, b⟩
    · exact hb y hy
abbrev tyPs : Ty := .sl tyP
theorem has_Ps {d : D} (h : tyPs.has d) : ∃ ls : List (List Int), d = .sl (.arr 64 .leaf) (ls.map arr8) ∧ Arrs ls ∧ ls.length ≤ 9223372036854775807 := by
  cases d <;> simp only [Ty.has] at h
  obtain ⟨rfl, h1, h2⟩ := h
  obtain ⟨ls, rfl, hb⟩ := has_polys _ h2
  exact ⟨ls, rfl, hb, by simpa using h1⟩
end Pe
