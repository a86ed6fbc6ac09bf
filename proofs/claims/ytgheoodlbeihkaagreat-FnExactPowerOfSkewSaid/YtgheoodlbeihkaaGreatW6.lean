/-
  A part of the proof: an evaluator for a small form of the code, its soundness, and contracts of functions over it.
-/
import Derived.Test.YtgheoodlbeihkaaGreatW1
import Derived.Test.YtgheoodlbeihkaaGreatW2
import Derived.Test.YtgheoodlbeihkaaGreatW3
import Derived.Test.YtgheoodlbeihkaaGreatW4
import Derived.Test.YtgheoodlbeihkaaGreatW5

namespace Pe
open Go Gq
variable {T : Nat → Option Fn} {A : Oracle}
section
variable {p : Int}
/-- One place of a list gets more. -/
noncomputable def addAt (Q : List (Fp p)) (n : Nat) (v : Fp p) : List (Fp p) := Q.set n ((Q[n]?).getD 0 + v)
theorem addAt_length (Q : List (Fp p)) (n : Nat) (v : Fp p) : (addAt Q n v).length = Q.length := by unfold addAt; rw [List.length_set]
end
section
variable {p : Int} [IsP p]
noncomputable def byIn (m x : Fp p) (i : Nat) : Nat → List (Fp p) → List (Fp p) → List (Fp p)
  | _, [], Q => Q
  | k, y :: ys, Q => byIn m x i (k + 1) ys (addAt Q (i + k) (x * frIt m (i % (m.len - 1)) y % m))
noncomputable def byOut (m : Fp p) (b : List (Fp p)) : Nat → List (Fp p) → List (Fp p) → List (Fp p)
  | _, [], Q => Q
  | i, x :: xs, Q => byOut m b (i + 1) xs (byIn m x i 0 b Q)
theorem byIn_length (m x : Fp p) (i : Nat) : ∀ (k : Nat) (b Q : List (Fp p)), (byIn m x i k b Q).length = Q.length
  | _, [], _ => rfl
  | k, y :: ys, Q => by
    show (byIn m x i (k + 1) ys (addAt Q (i + k) _)).length = _
    rw [byIn_length, addAt_length]
theorem byOut_length (m : Fp p) (b : List (Fp p)) : ∀ (i : Nat) (a Q : List (Fp p)), (byOut m b i a Q).length = Q.length
  | _, [], _ => rfl
  | i, x :: xs, Q => by
    show (byOut m b (i + 1) xs (byIn m x i 0 b Q)).length = _
    rw [byOut_length, byIn_length]
end
theorem l_sSkDeg {O : Oracle} {p : Int} [IsP p] {S : List (Fp p)} (h8 : S.length = 8) (hS : ∀ a ∈ S, a.len ≤ 64) : ∀ n : Nat, n ≤ 8 →
    dn O 0 (.loop ir_spec_l03Deg_L0) ⟨[(1, .ptr 0 []), (3, (.d (.int .i64 ((n : Int) - 1))))], [.box false (.arr 8 (.arr 64 .leaf) ((skP S).map arr8))]⟩ =
      some (.exit 0, ⟨[(1, .ptr 0 []), (3, (.d (.int .i64 (((stl S n : Nat) : Int) - 1)))), (12, (.d (.bool false)))], [.box false (.arr 8 (.arr 64 .leaf) ((skP S).map arr8))]⟩)
  | 0, _ => by
    refine dn_stop ?_
    show _ = some (_, (⟨[_, (3, (.d (.int .i64 (((0 : Nat) : Int) - 1)))), _], _⟩ : St))
    generalize (skP S).map arr8 = LD at *
    simp -implicitDefEqProofs [ir_spec_l03Deg_L0, dn_cond]
  | n + 1, hn => by
    have hlt : n < S.length := by omega
    have hi8 : n < 8 := by omega
    have hm1 := List.getElem_mem hlt
    have hsl := hS _ hm1
    have hL : ((skP S).map arr8).length = 8 := by rw [List.length_map, List.length_map]; exact h8
    have hx2 : ∀ h : n < ((skP S).map arr8).length, ((skP S).map arr8)[n]'h = (D.arr 64 .leaf (ints .u8 (pad (row S[n])))) := fun h => by rw [List.getElem_map, List.getElem_map]
    have t3 : pad (row S[n]) = pad [] ↔ S[n] = 0 := by
      rw [← row_zero (p := p), pad_row_inj hsl (by rw [Pol.len_zero]; omega)]
    have e4 := beq_P (pad_length (row S[n])) (pad_length [])
    have t0 : ((n + 1 : Nat) : Int) - 1 = (n : Int) := by omega
    have w1 : IntKind.i64.wrap ((n : Int) - 1) = (n : Int) - 1 := w64 (by omega)
    rw [t0]
    unfold stl
    by_cases hz : S[n] = 0
    · rw [if_pos (by rw [List.getElem?_eq_getElem hlt, hz])]
      rw [decide_eq_true (t3.2 hz)] at e4
      refine dn_round ?_ (l_sSkDeg h8 hS n (by omega))
      generalize (skP S).map arr8 = LD at *
      generalize pad (row S[n]) = Pn at *
      simp -implicitDefEqProofs [ir_spec_l03Deg_L0, dn_cond, hi8, hL, hx2, e4, w1]
    · rw [if_neg (by rw [List.getElem?_eq_getElem hlt]; simpa using hz)]
      rw [decide_eq_false (fun h => hz (t3.1 h))] at e4
      rw [t0]
      refine dn_stop ?_
      generalize (skP S).map arr8 = LD at *
      generalize pad (row S[n]) = Pn at *
      simp -implicitDefEqProofs [ir_spec_l03Deg_L0, dn_cond, hi8, hL, hx2, e4]
def K_sSkDeg (O : Oracle) : Prop := ∀ (p : Int) [IsP p] (S : List (Fp p)), S.length = 8 → (∀ a ∈ S, a.len ≤ 64) → ask O F_spec_l03Deg [skwD (skP S)] = some (D.int .i64 (((stl S 8 : Nat) : Int) - 1))
theorem k_sSkDeg (hT : T F_spec_l03Deg = some ir_spec_l03Deg) : K_sSkDeg (den T A) := by
  intro p ip S h8 hS
  have e := l_sSkDeg (O := den T A) h8 hS 8 (Nat.le_refl _)
  have e0 : ((8 : Nat) : Int) - 1 = 7 := rfl
  rw [e0] at e
  have hsk : skwD (skP S) = .arr 8 (.arr 64 .leaf) ((skP S).map arr8) := rfl
  rw [hsk]
  refine ask_of hT rfl ?_
  generalize (skP S).map arr8 = LD at *
  simp -implicitDefEqProofs [ir_spec_l03Deg, ir_spec_l03Deg_B, e]
def K_skDeg (O : Oracle) : Prop := ∀ (p : Int) [IsP p] (S : List (Fp p)), S.length < 100000 → ask O F_impl_skew_degree [skD S] = some (D.int .i64 ((S.length : Int) - 1))
theorem k_skDeg (hT : T F_impl_skew_degree = some ir_impl_skew_degree) : K_skDeg (den T A) := by
  intro p ip S hS
  have w1 : IntKind.i64.wrap ((S.length : Int) - 1) = (S.length : Int) - 1 := w64 (by omega)
  refine ask_of hT rfl ?_
  simp -implicitDefEqProofs [ir_impl_skew_degree, ir_impl_skew_degree_B, w1]
/-- Filled up with zeros to eight. -/
noncomputable def pd8 {p : Int} (S : List (Fp p)) : List (Fp p) := S ++ List.replicate (8 - S.length) 0
theorem l_toldSk {O : Oracle} (hpo : K_poly O) {p : Int} [IsP p] {S : List (Fp p)} (h8 : S.length ≤ 8) (hS : ∀ a ∈ S, a.len ≤ 64) {b0 : Blk} : ∀ (k i : Nat), i + k = S.length →
    dn O 0 (.loop ir_impl_toldSkew_L0) ⟨[(2, .ptr 0 []), (4, .ptr 1 []), (11, .d (skD S)), (12, (.d (.int .i64 S.length))), (13, (.d (.int .i64 i)))], [b0, .box false (.arr 8 (.arr 64 .leaf) ((skP (pd8 (S.take i))).map arr8))]⟩ =
      some (.exit 0, ⟨[(2, .ptr 0 []), (4, .ptr 1 []), (11, .d (skD S)), (12, (.d (.int .i64 S.length))), (13, (.d (.int .i64 S.length))), (14, (.d (.bool false)))], [b0, .box false (.arr 8 (.arr 64 .leaf) ((skP (pd8 S)).map arr8))]⟩)
  | 0, i, hi => by
    obtain rfl : i = S.length := by omega
    rw [List.take_length]
    refine dn_stop ?_
    generalize (skP (pd8 S)).map arr8 = LD at *
    simp -implicitDefEqProofs [ir_impl_toldSkew_L0, dn_cond]
  | k + 1, i, hi => by
    have hlt : i < S.length := by omega
    have hi8 : i < 8 := by omega
    have hm1 := List.getElem_mem hlt
    have e1 := hpo p S[i] (hS _ hm1)
    have w4 : IntKind.i64.wrap ((i : Int) + 1) = ((i + 1 : Nat) : Int) := (w64 (x := (i : Int) + 1) (by omega)).trans (by omega)
    have hnew : (skP (pd8 (S.take (i + 1)))).map arr8 = ((skP (pd8 (S.take i))).map arr8).set i (D.arr 64 .leaf (ints .u8 (pad (row S[i])))) := by
      have hp : pd8 (S.take (i + 1)) = (pd8 (S.take i)).set i S[i] := by
        unfold pd8
        have l1 : (S.take i).length = i := by rw [List.length_take]; omega
        have l2 : (S.take (i + 1)).length = i + 1 := by rw [List.length_take]; omega
        rw [l1, l2, List.set_append_right _ _ (by omega), l1, Nat.sub_self, show 8 - i = (8 - (i + 1)) + 1 by omega, List.replicate_succ, List.set_cons_zero, List.take_succ_eq_append_getElem hlt, List.append_assoc]
        rfl
      rw [hp]
      unfold skP
      rw [List.map_set, List.map_set]
    have hL : ((skP (pd8 (S.take i))).map arr8).length = 8 := by
      rw [List.length_map, List.length_map]
      unfold pd8
      rw [List.length_append, List.length_replicate, List.length_take]; omega
    have hsh : ∀ h : i < ((skP (pd8 (S.take i))).map arr8).length, (((skP (pd8 (S.take i))).map arr8)[i]'h).sh.beq (.arr 64 .leaf) = true := fun h => by rw [List.getElem_map]; rfl
    have ih := l_toldSk hpo h8 hS (b0 := b0) k (i + 1) (by omega)
    rw [hnew] at ih
    refine dn_round ?_ ih
    generalize (skP (pd8 (S.take i))).map arr8 = LD at *
    generalize pad (row S[i]) = Pi at *
    simp -implicitDefEqProofs [ir_impl_toldSkew_L0, dn_cond, hlt, hi8, hL, hsh, e1, w4]
noncomputable def toldSkD {p : Int} (S : List (Fp p)) : D := if S.length ≤ 8 then .tup [skwD (skP (pd8 S)), (D.int .i64 0)] else .tup [skwD (skP (pd8 ([] : List (Fp p)))), (D.int .i64 3)]
theorem z8_eq {p : Int} : z8 = (skP (pd8 ([] : List (Fp p)))).map arr8 := by
  unfold pd8 skP
  rw [List.nil_append, List.map_replicate, List.map_replicate, row_zero]
  rfl
def K_toldSk (O : Oracle) : Prop := ∀ (p : Int) [IsP p] (S : List (Fp p)), S.length < 100000 → (∀ a ∈ S, a.len ≤ 64) → ask O F_impl_toldSkew [skD S] = some (toldSkD S)
theorem k_toldSk (hT : T F_impl_toldSkew = some ir_impl_toldSkew) (hdg : K_skDeg (den T A)) (hpo : K_poly (den T A)) : K_toldSk (den T A) := by
  intro p ip S hl hS
  have e1 := hdg p S hl
  unfold toldSkD
  refine ask_of hT rfl ?_
  by_cases h8 : S.length ≤ 8
  · rw [if_pos h8]
    have e2 := l_toldSk (O := den T A) hpo h8 hS (b0 := .box false (.arr 8 (.arr 64 .leaf) z8)) S.length 0 (Nat.zero_add _)
    have e00 : ((0 : Nat) : Int) = 0 := rfl
    rw [e00, List.take_zero, ← z8_eq] at e2
    have hlt : ¬ ((7 : Int) < (S.length : Int) - 1) := by omega
    have hsk : skwD (skP (pd8 S)) = .arr 8 (.arr 64 .leaf) ((skP (pd8 S)).map arr8) := rfl
    rw [hsk]
    have hsd : skD S = .sl .leaf (S.map fun c => (D.sl .leaf (ints .i64 (row c)))) := rfl
    have hL : (S.map fun c => (D.sl .leaf (ints .i64 (row c)))).length = S.length := List.length_map ..
    rw [hsd] at e1 e2 ⊢
    generalize (skP (pd8 S)).map arr8 = LD at *
    generalize (S.map fun c => (D.sl .leaf (ints .i64 (row c)))) = LR at *
    generalize (S.length : Int) - 1 = m1 at *
    simp -implicitDefEqProofs [ir_impl_toldSkew, ir_impl_toldSkew_B, dn_cond, e1, e2, hlt, hL, List.replicate]
  · rw [if_neg h8]
    have hlt : (7 : Int) < (S.length : Int) - 1 := by omega
    have hsk : skwD (skP (pd8 ([] : List (Fp p)))) = .arr 8 (.arr 64 .leaf) z8 := by rw [z8_eq (p := p)]
    rw [hsk]
    have hsd : skD S = .sl .leaf (S.map fun c => (D.sl .leaf (ints .i64 (row c)))) := rfl
    rw [hsd] at e1 ⊢
    generalize (S.map fun c => (D.sl .leaf (ints .i64 (row c)))) = LR at *
    generalize (S.length : Int) - 1 = m1 at *
    simp -implicitDefEqProofs [ir_impl_toldSkew, ir_impl_toldSkew_B, dn_cond, e1, hlt, List.replicate]
end Pe

namespace Pe
open Go Gq
variable {T : Nat → Option Fn} {A : Oracle}
theorem frIt_1000 {p : Int} [IsP p] {m y : Fp p} (hm : m ≠ 0) (hml : m.len ≤ 64) (hy : y.len ≤ 64) (k : Nat) : (frIt m k y).len ≤ 64 := by
  cases k with
  | zero => exact hy
  | succ k =>
    have := frIt_len hm k (pw y p.toNat % m) (Pol.len_mod _ hm)
    show (frIt m k (pw y p.toNat % m)).len ≤ 64
    omega
theorem l_by0 {O : Oracle} (hfr : K_frob O) (hpr : K_product O) (hco : K_combine2 O) {p : Int} [IsP p] {m x : Fp p} {a b : List (Fp p)} (h2 : 2 ≤ m.len) (hml : m.len ≤ 64) (hx : x.len ≤ 64) (hb : ∀ c ∈ b, c.len ≤ 64) {N i : Nat} (hN : N < 100000) (hi : i + b.length ≤ N) {cp : Option Nat} : ∀ (r k : Nat) (Q : List (Fp p)), k + r = b.length → Q.length = N → (∀ c ∈ Q, c.len ≤ 64) →
    (∀ c ∈ byIn m x i k (b.drop k) Q, c.len ≤ 64) ∧
    dn O 0 (.loop ir_impl_field_by_L0) ⟨[(2, .d (skD b)), (3, .ptr 0 []), (7, .sl 1 [] 0 N cp), (8, (.d (.int .i64 i))), (9, (.d (.sl .leaf (ints .i64 (row x))))), (27, .d (skD a)), (28, (.d (.int .i64 a.length))), (29, (.d (.int .i64 i))), (34, .d (skD b)), (35, (.d (.int .i64 b.length))), (36, (.d (.int .i64 k)))], [.box false (fldD m), .sl false .leaf (Q.map fun c => (D.sl .leaf (ints .i64 (row c))))]⟩ =
      some (.exit 2, ⟨[(2, .d (skD b)), (3, .ptr 0 []), (7, .sl 1 [] 0 N cp), (8, (.d (.int .i64 i))), (9, (.d (.sl .leaf (ints .i64 (row x))))), (27, .d (skD a)), (28, (.d (.int .i64 a.length))), (29, (.d (.int .i64 i))), (34, .d (skD b)), (35, (.d (.int .i64 b.length))), (36, (.d (.int .i64 b.length))), (37, (.d (.bool false)))], [.box false (fldD m), .sl false .leaf ((byIn m x i k (b.drop k) Q).map fun c => (D.sl .leaf (ints .i64 (row c))))]⟩)
  | 0, k, Q, hk, hq, hQ => by
    obtain rfl : k = b.length := by omega
    rw [List.drop_length]
    refine ⟨hQ, dn_stop ?_⟩
    show _ = some (_, (⟨_, [_, .sl false .leaf (Q.map fun c => (D.sl .leaf (ints .i64 (row c))))]⟩ : St))
    generalize (Q.map fun c => (D.sl .leaf (ints .i64 (row c)))) = LQ at *
    simp -implicitDefEqProofs [ir_impl_field_by_L0, dn_cond]
  | r + 1, k, Q, hk, hq, hQ => by
    have hm : m ≠ 0 := fun h => by rw [h, Pol.len_zero] at h2; omega
    have hlt : k < b.length := by omega
    have hm1 := List.getElem_mem hlt
    have hbk := hb _ hm1
    have hik : i + k < N := by omega
    have hikQ : i + k < Q.length := by omega
    have hq1 := hQ _ (List.getElem_mem hikQ)
    have w0 : IntKind.i64.wrap ((i : Int) + k) = ((i + k : Nat) : Int) := (w64 (x := (i : Int) + k) (by omega)).trans (by omega)
    have hs0 : (0 : Int) ≤ (i : Int) + k := by omega
    have hs1 : ((i : Int) + k).toNat = i + k := by omega
    have w4 : IntKind.i64.wrap ((k : Int) + 1) = ((k + 1 : Nat) : Int) := (w64 (x := (k : Int) + 1) (by omega)).trans (by omega)
    have e1 := hfr p m b[k] i h2 hml (by omega) (by omega)
    have hfl := frIt_1000 hm hml hbk (i % (m.len - 1))
    have e2 := hpr p m x (frIt m (i % (m.len - 1)) b[k]) hm hml (by omega) (by omega)
    have hl := Pol.len_mod (x * frIt m (i % (m.len - 1)) b[k]) hm
    have e3 := hco p Q[i + k] (x * frIt m (i % (m.len - 1)) b[k] % m) (by omega) (by omega)
    have hl2 := Pol.len_add_le (a := Q[i + k]) (b := x * frIt m (i % (m.len - 1)) b[k] % m) (n := 64) hq1 (by omega)
    have hadd : addAt Q (i + k) (x * frIt m (i % (m.len - 1)) b[k] % m) = Q.set (i + k) (Q[i + k] + x * frIt m (i % (m.len - 1)) b[k] % m) := by
      unfold addAt; rw [List.getElem?_eq_getElem hikQ]; rfl
    have hQ' : ∀ c ∈ addAt Q (i + k) (x * frIt m (i % (m.len - 1)) b[k] % m), c.len ≤ 64 := fun c hc => by
      rw [hadd] at hc
      rcases List.mem_or_eq_of_mem_set hc with h | rfl
      · exact hQ c h
      · exact hl2
    obtain ⟨g1, ih⟩ := l_by0 hfr hpr hco (a := a) h2 hml hx hb hN hi (cp := cp) r (k + 1) (addAt Q (i + k) (x * frIt m (i % (m.len - 1)) b[k] % m)) (by omega) (by rw [addAt_length]; exact hq) hQ'
    have hby : byIn m x i k (b.drop k) Q = byIn m x i (k + 1) (b.drop (k + 1)) (addAt Q (i + k) (x * frIt m (i % (m.len - 1)) b[k] % m)) := by
      rw [List.drop_eq_getElem_cons hlt]; rfl
    rw [hby]
    refine ⟨g1, dn_round ?_ ih⟩
    have hset : ((addAt Q (i + k) (x * frIt m (i % (m.len - 1)) b[k] % m)).map fun c => (D.sl .leaf (ints .i64 (row c)))) = (Q.map fun c => (D.sl .leaf (ints .i64 (row c)))).set (i + k) (D.sl .leaf (ints .i64 (row (Q[i + k] + x * frIt m (i % (m.len - 1)) b[k] % m)))) := by
      rw [hadd, List.map_set]
    rw [hset]
    have hLQ : (Q.map fun c => (D.sl .leaf (ints .i64 (row c)))).length = N := by rw [List.length_map]; exact hq
    have hx2 : ∀ h : i + k < (Q.map fun c => (D.sl .leaf (ints .i64 (row c)))).length, (Q.map fun c => (D.sl .leaf (ints .i64 (row c))))[i + k]'h = (D.sl .leaf (ints .i64 (row Q[i + k]))) := fun h => by rw [List.getElem_map]
    generalize row (Q[i + k] + x * frIt m (i % (m.len - 1)) b[k] % m) = R1 at *
    generalize row (x * frIt m (i % (m.len - 1)) b[k] % m) = R2 at *
    generalize row (frIt m (i % (m.len - 1)) b[k]) = R3 at *
    generalize row Q[i + k] = R4 at *
    generalize (Q.map fun c => (D.sl .leaf (ints .i64 (row c)))) = LQ at *
    simp -implicitDefEqProofs [ir_impl_field_by_L0, dn_cond, hlt, hik, hs0, hs1, hLQ, hx2, e1, e2, e3, w0, w4]
theorem l_by1 {O : Oracle} (hfr : K_frob O) (hpr : K_product O) (hco : K_combine2 O) {p : Int} [IsP p] {m : Fp p} {a b : List (Fp p)} (h2 : 2 ≤ m.len) (hml : m.len ≤ 64) (ha : ∀ c ∈ a, c.len ≤ 64) (hb : ∀ c ∈ b, c.len ≤ 64) {N : Nat} (hN : N < 100000) (hab : a.length + b.length ≤ N + 1) (hb1 : 1 ≤ b.length) {cp : Option Nat} : ∀ (r i : Nat) (Q : List (Fp p)), i + r = a.length → Q.length = N → (∀ c ∈ Q, c.len ≤ 64) →
    (∀ c ∈ byOut m b i (a.drop i) Q, c.len ≤ 64) ∧
    dn O 0 (.loop ir_impl_field_by_L1) ⟨[(2, .d (skD b)), (3, .ptr 0 []), (7, .sl 1 [] 0 N cp), (27, .d (skD a)), (28, (.d (.int .i64 a.length))), (29, (.d (.int .i64 i)))], [.box false (fldD m), .sl false .leaf (Q.map fun c => (D.sl .leaf (ints .i64 (row c))))]⟩ =
      some (.exit 0, ⟨[(2, .d (skD b)), (3, .ptr 0 []), (7, .sl 1 [] 0 N cp), (27, .d (skD a)), (28, (.d (.int .i64 a.length))), (29, (.d (.int .i64 a.length))), (30, (.d (.bool false)))], [.box false (fldD m), .sl false .leaf ((byOut m b i (a.drop i) Q).map fun c => (D.sl .leaf (ints .i64 (row c))))]⟩)
  | 0, i, Q, hi, hq, hQ => by
    obtain rfl : i = a.length := by omega
    rw [List.drop_length]
    refine ⟨hQ, dn_stop ?_⟩
    show _ = some (_, (⟨_, [_, .sl false .leaf (Q.map fun c => (D.sl .leaf (ints .i64 (row c))))]⟩ : St))
    generalize (Q.map fun c => (D.sl .leaf (ints .i64 (row c)))) = LQ at *
    simp -implicitDefEqProofs [ir_impl_field_by_L1, dn_cond]
  | r + 1, i, Q, hi, hq, hQ => by
    have hlt : i < a.length := by omega
    have hm1 := List.getElem_mem hlt
    have w4 : IntKind.i64.wrap ((i : Int) + 1) = ((i + 1 : Nat) : Int) := (w64 (x := (i : Int) + 1) (by omega)).trans (by omega)
    obtain ⟨g1, e1⟩ := l_by0 hfr hpr hco (a := a) h2 hml (ha _ hm1) hb hN (i := i) (by omega) (cp := cp) b.length 0 Q (Nat.zero_add _) hq hQ
    have e00 : ((0 : Nat) : Int) = 0 := rfl
    rw [e00, List.drop_zero] at e1
    rw [List.drop_zero] at g1
    obtain ⟨g2, ih⟩ := l_by1 hfr hpr hco h2 hml ha hb hN hab hb1 (cp := cp) r (i + 1) (byIn m a[i] i 0 b Q) (by omega) (by rw [byIn_length]; exact hq) g1
    have hby : byOut m b i (a.drop i) Q = byOut m b (i + 1) (a.drop (i + 1)) (byIn m a[i] i 0 b Q) := by
      rw [List.drop_eq_getElem_cons hlt]; rfl
    rw [hby]
    refine ⟨g2, dn_round ?_ ih⟩
    generalize ((byIn m a[i] i 0 b Q).map fun c => (D.sl .leaf (ints .i64 (row c)))) = LQ2 at *
    generalize (Q.map fun c => (D.sl .leaf (ints .i64 (row c)))) = LQ at *
    simp -implicitDefEqProofs [ir_impl_field_by_L1, dn_cond, hlt, e1, w4]
/-- The product, not trimmed. -/
noncomputable def mulS {p : Int} [IsP p] (m : Fp p) (a b : List (Fp p)) : List (Fp p) := byOut m b 0 a (List.replicate (a.length + b.length - 1) 0)
def K_by (O : Oracle) : Prop := ∀ (p : Int) [IsP p] (m : Fp p) (a b : List (Fp p)), 2 ≤ m.len → m.len ≤ 64 → (∀ c ∈ a, c.len ≤ 64) → (∀ c ∈ b, c.len ≤ 64) → a.length < 10000 → b.length < 10000 →
  ask O F_impl_field_by [fldD m, skD a, skD b] = some (if a.length = 0 ∨ b.length = 0 then skD ([] : List (Fp p)) else skD (trimS (mulS m a b)))
theorem k_by (hT : T F_impl_field_by = some ir_impl_field_by) (hfr : K_frob (den T A)) (hpr : K_product (den T A)) (hco : K_combine2 (den T A)) (htr : K_sktrim (den T A)) : K_by (den T A) := by
  intro p ip m a b h2 hml ha hb hal hbl
  have hsa : skD a = .sl .leaf (a.map fun c => (D.sl .leaf (ints .i64 (row c)))) := rfl
  have hsb : skD b = .sl .leaf (b.map fun c => (D.sl .leaf (ints .i64 (row c)))) := rfl
  have hLa : (a.map fun c => (D.sl .leaf (ints .i64 (row c)))).length = a.length := List.length_map ..
  have hLb : (b.map fun c => (D.sl .leaf (ints .i64 (row c)))).length = b.length := List.length_map ..
  by_cases h0 : a.length = 0 ∨ b.length = 0
  · rw [if_pos h0, hsa, hsb]
    refine ask_of hT rfl ?_
    generalize (a.map fun c => (D.sl .leaf (ints .i64 (row c)))) = LA at *
    generalize (b.map fun c => (D.sl .leaf (ints .i64 (row c)))) = LB at *
    rcases h0 with h0 | h0
    · rw [h0] at hLa
      simp -implicitDefEqProofs [ir_impl_field_by, ir_impl_field_by_B, dn_cond, hLa, hLb, List.replicate]
    · rw [h0] at hLb
      by_cases h1 : LA.length = 0
      · simp -implicitDefEqProofs [ir_impl_field_by, ir_impl_field_by_B, dn_cond, h1, hLb, List.replicate]
      · simp -implicitDefEqProofs [ir_impl_field_by, ir_impl_field_by_B, dn_cond, h1, hLb, List.replicate]
  · rw [if_neg h0]
    have ha1 : 1 ≤ a.length := by omega
    have hb1 : 1 ≤ b.length := by omega
    have hz : ((List.replicate (a.length + b.length - 1) (0 : Fp p)).map fun c => (D.sl .leaf (ints .i64 (row c)))) = List.replicate (a.length + b.length - 1) (.sl .leaf []) := by rw [List.map_replicate, row_zero, ints_nil]
    have hl0 : ∀ c ∈ List.replicate (a.length + b.length - 1) (0 : Fp p), c.len ≤ 64 := fun c hc => by rw [List.eq_of_mem_replicate hc, Pol.len_zero]; omega
    obtain ⟨g1, e1⟩ := l_by1 (O := den T A) hfr hpr hco h2 hml ha hb (N := a.length + b.length - 1) (by omega) (by omega) hb1 (cp := some (a.length + b.length - 1)) a.length 0 (List.replicate (a.length + b.length - 1) 0) (Nat.zero_add _) (List.length_replicate ..) hl0
    have e00 : ((0 : Nat) : Int) = 0 := rfl
    have em : byOut m b 0 (a.drop 0) (List.replicate (a.length + b.length - 1) 0) = mulS m a b := by rw [List.drop_zero]; rfl
    rw [e00, em, hz] at e1
    have hml2 : (mulS m a b).length = a.length + b.length - 1 := by unfold mulS; rw [byOut_length, List.length_replicate]
    have e2 := htr p (mulS m a b) (by omega)
    have hsm : skD (mulS m a b) = .sl .leaf ((mulS m a b).map fun c => (D.sl .leaf (ints .i64 (row c)))) := rfl
    have hLm : ((mulS m a b).map fun c => (D.sl .leaf (ints .i64 (row c)))).length = a.length + b.length - 1 := by rw [List.length_map]; exact hml2
    have ht : ((mulS m a b).map fun c => (D.sl .leaf (ints .i64 (row c)))).take (a.length + b.length - 1) = ((mulS m a b).map fun c => (D.sl .leaf (ints .i64 (row c)))) := List.take_of_length_le (by omega)
    rw [hsm] at e2
    have n1 : ¬ ((a.length : Int) = 0) := by omega
    have n2 : ¬ ((b.length : Int) = 0) := by omega
    have n1' : a.length ≠ 0 := by omega
    have n2' : b.length ≠ 0 := by omega
    have w1 : IntKind.i64.wrap ((a.length : Int) + b.length) = (a.length : Int) + b.length := w64 (by omega)
    have w2 : IntKind.i64.wrap ((a.length : Int) + b.length - 1) = ((a.length + b.length - 1 : Nat) : Int) := (w64 (by omega)).trans (by omega)
    have h24 : (a.length + b.length - 1) * 24 ≤ 1099511627776 := by omega
    generalize skD (trimS (mulS m a b)) = TD at *
    rw [hsa, hsb] at e1 ⊢
    refine ask_of hT rfl ?_
    generalize ((mulS m a b).map fun c => (D.sl .leaf (ints .i64 (row c)))) = LM at *
    generalize (a.map fun c => (D.sl .leaf (ints .i64 (row c)))) = LA at *
    generalize (b.map fun c => (D.sl .leaf (ints .i64 (row c)))) = LB at *
    generalize a.length + b.length - 1 = N at *
    simp -implicitDefEqProofs [ir_impl_field_by, ir_impl_field_by_B, dn_cond, hLa, hLb, n1, n2, n1', n2', w1, w2, h24, e1, e2, hLm, ht, List.replicate, ints_nil]
end Pe

namespace Pe
open Go Gq
variable {T : Nat → Option Fn} {A : Oracle}
theorem skP_get {p : Int} {S : List (Fp p)} {i : Nat} (hi : i < S.length) : ∀ h : i < ((skP S).map arr8).length, ((skP S).map arr8)[i]'h = (D.arr 64 .leaf (ints .u8 (pad (row S[i])))) := fun h => by rw [List.getElem_map, List.getElem_map]
theorem skP_len {p : Int} (S : List (Fp p)) : ((skP S).map arr8).length = S.length := by rw [List.length_map, List.length_map]
theorem l_sBy0 {O : Oracle} (hfr : K_sFrob O) (hmm : K_sMulMod O) (had : K_sAdd O) {p : Int} [IsP p] {m : Fp p} {S R : List (Fp p)} {z : List D} {vn : V} (hvn : vn.refs = []) (h2 : 2 ≤ m.len) (hml : m.len ≤ 64) (hS8 : S.length = 8) (hR8 : R.length = 8) (hS : ∀ c ∈ S, c.len < m.len) (hR : ∀ c ∈ R, c.len < m.len) {i nb : Nat} (hi : i < 8) (hnb : i + nb ≤ 8) (hnb1 : 1 ≤ nb) {x : Fp p} (hx : S[i]? = some x) : ∀ (r j : Nat) (Q : List (Fp p)), j + r = nb → Q.length = 8 → (∀ c ∈ Q, c.len < m.len) →
    (∀ c ∈ byIn m x i j ((R.take nb).drop j) Q, c.len < m.len) ∧
    dn O 0 (.loop ir_spec_l03Times_L0) ⟨[(0, (.d (.int .i64 p))), (5, .ptr 0 []), (6, .ptr 1 []), (7, .ptr 2 []), (8, .ptr 3 []), (10, vn), (11, (.d (.int .i64 (((nb - 1 : Nat) : Int))))), (12, .ptr 4 []), (13, (.d (.int .i64 i))), (14, (.d (.int .i64 j)))], [.box false (D.arr 64 .leaf (ints .u8 (pad (row m)))), .box false (.arr 8 (.arr 64 .leaf) ((skP S).map arr8)), .box false (.arr 8 (.arr 64 .leaf) ((skP R).map arr8)), .box false (.arr 8 (.arr 64 .leaf) z), .box false (.arr 8 (.arr 64 .leaf) ((skP Q).map arr8)), .hole]⟩ =
      some (.exit 2, ⟨[(0, (.d (.int .i64 p))), (5, .ptr 0 []), (6, .ptr 1 []), (7, .ptr 2 []), (8, .ptr 3 []), (10, vn), (11, (.d (.int .i64 (((nb - 1 : Nat) : Int))))), (12, .ptr 4 []), (13, (.d (.int .i64 i))), (14, (.d (.int .i64 nb))), (40, (.d (.bool false)))], [.box false (D.arr 64 .leaf (ints .u8 (pad (row m)))), .box false (.arr 8 (.arr 64 .leaf) ((skP S).map arr8)), .box false (.arr 8 (.arr 64 .leaf) ((skP R).map arr8)), .box false (.arr 8 (.arr 64 .leaf) z), .box false (.arr 8 (.arr 64 .leaf) ((skP (byIn m x i j ((R.take nb).drop j) Q)).map arr8)), .hole]⟩)
  | 0, j, Q, hj, hq, hQ => by
    obtain rfl : j = nb := by omega
    rw [List.drop_eq_nil_of_le (by rw [List.length_take]; omega)]
    have hlt : ¬ (j : Int) ≤ ((j - 1 : Nat) : Int) := by omega
    refine ⟨hQ, dn_stop ?_⟩
    show _ = some (_, (⟨_, [_, _, _, _, .box false (.arr 8 (.arr 64 .leaf) ((skP Q).map arr8)), _]⟩ : St))
    generalize ((j - 1 : Nat) : Int) = k1 at *
    generalize (skP S).map arr8 = LS at *
    generalize (skP R).map arr8 = LR at *
    generalize (skP Q).map arr8 = LQ at *
    generalize pad (row m) = Pm at *
    simp -implicitDefEqProofs [ir_spec_l03Times_L0, dn_cond, hlt, hvn]
  | r + 1, j, Q, hj, hq, hQ => by
    have hm : m ≠ 0 := fun h => by rw [h, Pol.len_zero] at h2; omega
    have hj8 : j < 8 := by omega
    have hij : i + j < 8 := by omega
    have hjR : j < R.length := by omega
    have hiS : i < S.length := by omega
    have hikQ : i + j < Q.length := by omega
    have hRj := hR _ (List.getElem_mem hjR)
    have hxe : S[i] = x := by rw [List.getElem?_eq_getElem hiS] at hx; exact Option.some.inj hx
    have hxl : x.len < m.len := by rw [← hxe]; exact hS _ (List.getElem_mem hiS)
    have hq1 := hQ _ (List.getElem_mem hikQ)
    have hle : (j : Int) ≤ ((nb - 1 : Nat) : Int) := by omega
    have w0 : IntKind.i64.wrap ((i : Int) + j) = ((i + j : Nat) : Int) := (w64 (x := (i : Int) + j) (by omega)).trans (by omega)
    have hs0 : (0 : Int) ≤ (i : Int) + j := by omega
    have hs1 : ((i : Int) + j).toNat = i + j := by omega
    have w4 : IntKind.i64.wrap ((j : Int) + 1) = ((j + 1 : Nat) : Int) := (w64 (x := (j : Int) + 1) (by omega)).trans (by omega)
    have e1 := hfr p m R[j] i h2 hml (by omega) (by omega)
    have hfl := frIt_len hm (i % (m.len - 1)) R[j] hRj
    have e2 := hmm p x (frIt m (i % (m.len - 1)) R[j]) m hm hml (by omega) (by omega)
    have hl := Pol.len_mod (x * frIt m (i % (m.len - 1)) R[j]) hm
    have e3 := had p 1 Q[i + j] (x * frIt m (i % (m.len - 1)) R[j] % m) (by omega) (by omega) (by omega) (by omega)
    rw [zp_one, Pol.C_one, Gq.one_mul] at e3
    have hl2 := Pol.len_add_le (a := Q[i + j]) (b := x * frIt m (i % (m.len - 1)) R[j] % m) (n := m.len - 1) (by omega) (by omega)
    have hadd : addAt Q (i + j) (x * frIt m (i % (m.len - 1)) R[j] % m) = Q.set (i + j) (Q[i + j] + x * frIt m (i % (m.len - 1)) R[j] % m) := by
      unfold addAt; rw [List.getElem?_eq_getElem hikQ]; rfl
    have hQ' : ∀ c ∈ addAt Q (i + j) (x * frIt m (i % (m.len - 1)) R[j] % m), c.len < m.len := fun c hc => by
      rw [hadd] at hc
      rcases List.mem_or_eq_of_mem_set hc with h | rfl
      · exact hQ c h
      · omega
    obtain ⟨g1, ih⟩ := l_sBy0 hfr hmm had (z := z) hvn h2 hml hS8 hR8 hS hR hi hnb hnb1 hx r (j + 1) (addAt Q (i + j) (x * frIt m (i % (m.len - 1)) R[j] % m)) (by omega) (by rw [addAt_length]; exact hq) hQ'
    have hby : byIn m x i j ((R.take nb).drop j) Q = byIn m x i (j + 1) ((R.take nb).drop (j + 1)) (addAt Q (i + j) (x * frIt m (i % (m.len - 1)) R[j] % m)) := by
      rw [List.drop_eq_getElem_cons (by rw [List.length_take]; omega), List.getElem_take]; rfl
    rw [hby]
    refine ⟨g1, dn_round ?_ ih⟩
    have hset : (skP (addAt Q (i + j) (x * frIt m (i % (m.len - 1)) R[j] % m))).map arr8 = ((skP Q).map arr8).set (i + j) (D.arr 64 .leaf (ints .u8 (pad (row (Q[i + j] + x * frIt m (i % (m.len - 1)) R[j] % m))))) := by
      rw [hadd]; unfold skP; rw [List.map_set, List.map_set]
    rw [hset]
    have hLS := skP_len S
    have hLR := skP_len R
    have hLQ := skP_len Q
    rw [hS8] at hLS
    rw [hR8] at hLR
    rw [hq] at hLQ
    have hxS := skP_get hiS
    rw [hxe] at hxS
    have hxR := skP_get hjR
    have hxQ := skP_get hikQ
    generalize pad (row (Q[i + j] + x * frIt m (i % (m.len - 1)) R[j] % m)) = P1 at *
    generalize pad (row (x * frIt m (i % (m.len - 1)) R[j] % m)) = P2 at *
    generalize pad (row (frIt m (i % (m.len - 1)) R[j])) = P3 at *
    generalize pad (row Q[i + j]) = P4 at *
    generalize pad (row R[j]) = P5 at *
    generalize pad (row x) = P6 at *
    generalize (skP S).map arr8 = LS at *
    generalize (skP R).map arr8 = LR at *
    generalize (skP Q).map arr8 = LQ at *
    generalize pad (row m) = Pm at *
    generalize ((nb - 1 : Nat) : Int) = k1 at *
    simp -implicitDefEqProofs [ir_spec_l03Times_L0, dn_cond, hle, hi, hj8, hij, hs0, hs1, hLS, hLR, hLQ, hxS, hxR, hxQ, e1, e2, e3, w0, w4, hvn]
end Pe

namespace Pe
open Go Gq
variable {T : Nat → Option Fn} {A : Oracle}
theorem l_sBy1 {O : Oracle} (hfr : K_sFrob O) (hmm : K_sMulMod O) (had : K_sAdd O) {p : Int} [IsP p] {m : Fp p} {S R : List (Fp p)} {z : List D} (h2 : 2 ≤ m.len) (hml : m.len ≤ 64) (hS8 : S.length = 8) (hR8 : R.length = 8) (hS : ∀ c ∈ S, c.len < m.len) (hR : ∀ c ∈ R, c.len < m.len) {na nb : Nat} (hna : 1 ≤ na) (hnb : 1 ≤ nb) (hab : na + nb ≤ 9) : ∀ (r i : Nat) (Q : List (Fp p)), i + r = na → Q.length = 8 → (∀ c ∈ Q, c.len < m.len) →
    (∀ c ∈ byOut m (R.take nb) i ((S.take na).drop i) Q, c.len < m.len) ∧
    dn O 0 (.loop ir_spec_l03Times_L1) ⟨[(0, (.d (.int .i64 p))), (5, .ptr 0 []), (6, .ptr 1 []), (7, .ptr 2 []), (8, .ptr 3 []), (10, (.d (.int .i64 (((na - 1 : Nat) : Int))))), (11, (.d (.int .i64 (((nb - 1 : Nat) : Int))))), (12, .ptr 4 []), (13, (.d (.int .i64 i)))], [.box false (D.arr 64 .leaf (ints .u8 (pad (row m)))), .box false (.arr 8 (.arr 64 .leaf) ((skP S).map arr8)), .box false (.arr 8 (.arr 64 .leaf) ((skP R).map arr8)), .box false (.arr 8 (.arr 64 .leaf) z), .box false (.arr 8 (.arr 64 .leaf) ((skP Q).map arr8)), .hole]⟩ =
      some (.exit 0, ⟨[(0, (.d (.int .i64 p))), (5, .ptr 0 []), (6, .ptr 1 []), (7, .ptr 2 []), (8, .ptr 3 []), (10, (.d (.int .i64 (((na - 1 : Nat) : Int))))), (11, (.d (.int .i64 (((nb - 1 : Nat) : Int))))), (12, .ptr 4 []), (13, (.d (.int .i64 na))), (35, (.d (.bool false)))], [.box false (D.arr 64 .leaf (ints .u8 (pad (row m)))), .box false (.arr 8 (.arr 64 .leaf) ((skP S).map arr8)), .box false (.arr 8 (.arr 64 .leaf) ((skP R).map arr8)), .box false (.arr 8 (.arr 64 .leaf) z), .box false (.arr 8 (.arr 64 .leaf) ((skP (byOut m (R.take nb) i ((S.take na).drop i) Q)).map arr8)), .hole]⟩)
  | 0, i, Q, hi, hq, hQ => by
    obtain rfl : i = na := by omega
    rw [List.drop_eq_nil_of_le (by rw [List.length_take]; omega)]
    have hlt : ¬ (i : Int) ≤ ((i - 1 : Nat) : Int) := by omega
    refine ⟨hQ, dn_stop ?_⟩
    show _ = some (_, (⟨_, [_, _, _, _, .box false (.arr 8 (.arr 64 .leaf) ((skP Q).map arr8)), _]⟩ : St))
    generalize ((i - 1 : Nat) : Int) = k1 at *
    generalize ((nb - 1 : Nat) : Int) = k2 at *
    generalize (skP S).map arr8 = LS at *
    generalize (skP R).map arr8 = LR at *
    generalize (skP Q).map arr8 = LQ at *
    generalize pad (row m) = Pm at *
    simp -implicitDefEqProofs [ir_spec_l03Times_L1, dn_cond, hlt]
  | r + 1, i, Q, hi, hq, hQ => by
    have hin : i < (S.take na).length := by rw [List.length_take]; omega
    have hiS : i < S.length := by omega
    have hle : (i : Int) ≤ ((na - 1 : Nat) : Int) := by omega
    have w4 : IntKind.i64.wrap ((i : Int) + 1) = ((i + 1 : Nat) : Int) := (w64 (x := (i : Int) + 1) (by omega)).trans (by omega)
    obtain ⟨g1, e1⟩ := l_sBy0 (O := O) hfr hmm had (z := z) (vn := (.d (.int .i64 (((na - 1 : Nat) : Int))))) rfl h2 hml hS8 hR8 hS hR (i := i) (nb := nb) (by omega) (by omega) hnb (x := S[i]) (List.getElem?_eq_getElem hiS) nb 0 Q (Nat.zero_add _) hq hQ
    have e00 : ((0 : Nat) : Int) = 0 := rfl
    rw [e00, List.drop_zero] at e1
    rw [List.drop_zero] at g1
    obtain ⟨g2, ih⟩ := l_sBy1 hfr hmm had (z := z) h2 hml hS8 hR8 hS hR hna hnb hab r (i + 1) (byIn m S[i] i 0 (R.take nb) Q) (by omega) (by rw [byIn_length]; exact hq) g1
    have hby : byOut m (R.take nb) i ((S.take na).drop i) Q = byOut m (R.take nb) (i + 1) ((S.take na).drop (i + 1)) (byIn m S[i] i 0 (R.take nb) Q) := by
      rw [List.drop_eq_getElem_cons hin, List.getElem_take]; rfl
    rw [hby]
    refine ⟨g2, dn_round ?_ ih⟩
    generalize (skP (byIn m S[i] i 0 (R.take nb) Q)).map arr8 = LQ2 at *
    generalize (skP S).map arr8 = LS at *
    generalize (skP R).map arr8 = LR at *
    generalize (skP Q).map arr8 = LQ at *
    generalize pad (row m) = Pm at *
    generalize ((nb - 1 : Nat) : Int) = k1 at *
    generalize ((na - 1 : Nat) : Int) = k2 at *
    simp -implicitDefEqProofs [ir_spec_l03Times_L1, dn_cond, hle, e1, w4]
noncomputable def zs8 {p : Int} : List (Fp p) := List.replicate 8 0
/-- What the reference's product answers. -/
noncomputable def timesD {p : Int} [IsP p] (m : Fp p) (S R : List (Fp p)) : D :=
  if (trimS S).length = 0 ∨ (trimS R).length = 0 then .tup [skwD (skP (zs8 (p := p))), (D.bool true)]
  else if 9 < (trimS S).length + (trimS R).length then .tup [skwD (skP (zs8 (p := p))), (D.bool false)]
  else .tup [skwD (skP (byOut m (trimS R) 0 (trimS S) zs8)), (D.bool true)]
theorem trimS_8 {p : Int} {S : List (Fp p)} (h : S.length = 8) : trimS S = S.take (stl S 8) := by unfold trimS; rw [h]
theorem trimS_len8 {p : Int} {S : List (Fp p)} (h : S.length = 8) : (trimS S).length = stl S 8 := by
  rw [trimS_8 h, List.length_take]; have := stl_le S 8; omega
def K_sTimes3 (O : Oracle) : Prop := ∀ (p : Int) [IsP p] (m : Fp p) (S R : List (Fp p)), 2 ≤ m.len → m.len ≤ 64 → S.length = 8 → R.length = 8 → (∀ c ∈ S, c.len < m.len) → (∀ c ∈ R, c.len < m.len) → ask O F_spec_l03Times [(D.int .i64 p), (D.arr 64 .leaf (ints .u8 (pad (row m)))), skwD (skP S), skwD (skP R)] = some (timesD m S R)
theorem z8_zs {p : Int} : (skP (zs8 (p := p))).map arr8 = z8 := by
  unfold skP zs8
  rw [List.map_replicate, List.map_replicate, row_zero]
  rfl
theorem k_sTimes3 (hT : T F_spec_l03Times = some ir_spec_l03Times) (hdg : K_sSkDeg (den T A)) (hfr : K_sFrob (den T A)) (hmm : K_sMulMod (den T A)) (had : K_sAdd (den T A)) : K_sTimes3 (den T A) := by
  intro p ip m S R h2 hml hS8 hR8 hS hR
  have e1 := hdg p S hS8 (fun a ha => by have := hS a ha; omega)
  have e2 := hdg p R hR8 (fun a ha => by have := hR a ha; omega)
  unfold timesD
  rw [trimS_len8 hS8, trimS_len8 hR8, trimS_8 hS8, trimS_8 hR8]
  have l1 := stl_le S 8
  have l2 := stl_le R 8
  generalize stl S 8 = na at *
  generalize stl R 8 = nb at *
  have hskS : skwD (skP S) = .arr 8 (.arr 64 .leaf) ((skP S).map arr8) := rfl
  have hskR : skwD (skP R) = .arr 8 (.arr 64 .leaf) ((skP R).map arr8) := rfl
  have hskZ : skwD (skP (zs8 (p := p))) = .arr 8 (.arr 64 .leaf) z8 := by rw [← z8_zs (p := p)]
  have w1 : IntKind.i64.wrap ((na : Int) - 1 + (nb - 1)) = (na : Int) - 1 + (nb - 1) := w64 (by omega)
  rw [hskS] at e1 ⊢
  rw [hskR] at e2 ⊢
  by_cases h0 : na = 0 ∨ nb = 0
  · rw [if_pos h0, hskZ]
    refine ask_of hT rfl ?_
    rcases h0 with rfl | rfl
    · generalize (skP S).map arr8 = LS at *
      generalize (skP R).map arr8 = LR at *
      generalize pad (row m) = Pm at *
      simp -implicitDefEqProofs [ir_spec_l03Times, ir_spec_l03Times_B, dn_cond, e1, e2, List.replicate]
    · generalize (skP S).map arr8 = LS at *
      generalize (skP R).map arr8 = LR at *
      generalize pad (row m) = Pm at *
      by_cases hn : na = 0
      · subst hn
        simp -implicitDefEqProofs [ir_spec_l03Times, ir_spec_l03Times_B, dn_cond, e1, e2, List.replicate]
      · have hlt : ¬ ((na : Int) - 1 < 0) := by omega
        have hlt2 : na ≠ 0 := hn
        have hlt3 : (1 : Int) ≤ na := by omega
        have hlt4 : ¬ ((na : Int) < 1) := by omega
        simp -implicitDefEqProofs [ir_spec_l03Times, ir_spec_l03Times_B, dn_cond, e1, e2, hlt, List.replicate]
  · rw [if_neg h0]
    have a1 : ((na : Int) - 1) = ((na - 1 : Nat) : Int) := by omega
    have a2 : ((nb : Int) - 1) = ((nb - 1 : Nat) : Int) := by omega
    rw [a1, a2] at w1
    rw [a1] at e1
    rw [a2] at e2
    have hn1 : ¬ ((na - 1 : Nat) : Int) < 0 := by omega
    have hn2 : ¬ ((nb - 1 : Nat) : Int) < 0 := by omega
    by_cases h9 : 9 < na + nb
    · rw [if_pos h9, hskZ]
      have hgt : (7 : Int) < ((na - 1 : Nat) : Int) + ((nb - 1 : Nat) : Int) := by omega
      refine ask_of hT rfl ?_
      generalize (skP S).map arr8 = LS at *
      generalize (skP R).map arr8 = LR at *
      generalize pad (row m) = Pm at *
      generalize na - 1 = k1 at *
      generalize nb - 1 = k2 at *
      simp -implicitDefEqProofs [ir_spec_l03Times, ir_spec_l03Times_B, dn_cond, e1, e2, w1, hgt, hn1, hn2, List.replicate]
    · rw [if_neg h9]
      have hgt : ¬ (7 : Int) < ((na - 1 : Nat) : Int) + ((nb - 1 : Nat) : Int) := by omega
      obtain ⟨_, e3⟩ := l_sBy1 (O := den T A) hfr hmm had (z := z8) h2 hml hS8 hR8 hS hR (na := na) (nb := nb) (by omega) (by omega) (by omega) na 0 zs8 (Nat.zero_add _) rfl (fun c hc => by rw [List.eq_of_mem_replicate hc, Pol.len_zero]; omega)
      have e00 : ((0 : Nat) : Int) = 0 := rfl
      rw [e00, List.drop_zero, z8_zs] at e3
      have hskQ : skwD (skP (byOut m (R.take nb) 0 (S.take na) zs8)) = .arr 8 (.arr 64 .leaf) ((skP (byOut m (R.take nb) 0 (S.take na) zs8)).map arr8) := rfl
      rw [hskQ]
      refine ask_of hT rfl ?_
      generalize (skP (byOut m (R.take nb) 0 (S.take na) zs8)).map arr8 = LQ at *
      generalize (skP S).map arr8 = LS at *
      generalize (skP R).map arr8 = LR at *
      generalize pad (row m) = Pm at *
      generalize na - 1 = k1 at *
      generalize nb - 1 = k2 at *
      simp -implicitDefEqProofs [ir_spec_l03Times, ir_spec_l03Times_B, dn_cond, e1, e2, e3, w1, hgt, hn1, hn2, List.replicate]
section
variable {p : Int}
theorem addAt_get_ne {Q : List (Fp p)} {n j : Nat} {v : Fp p} (h : n ≠ j) : (addAt Q n v)[j]? = Q[j]? := by
  unfold addAt; rw [List.getElem?_set_ne h]
theorem addAt_app {Q Z : List (Fp p)} {n : Nat} {v : Fp p} (h : n < Q.length) : addAt (Q ++ Z) n v = addAt Q n v ++ Z := by
  unfold addAt
  rw [List.getElem?_append_left h, List.set_append_left _ _ h]
theorem pd8_nil : pd8 ([] : List (Fp p)) = zs8 := rfl
end
section
variable {p : Int} [IsP p]
theorem byIn_get_ge {m x : Fp p} {i n : Nat} : ∀ (k : Nat) (b Q : List (Fp p)), i + k + b.length ≤ n → (byIn m x i k b Q)[n]? = Q[n]?
  | _, [], _, _ => rfl
  | k, y :: ys, Q, h => by
    rw [List.length_cons] at h
    show (byIn m x i (k + 1) ys (addAt Q (i + k) _))[n]? = _
    rw [byIn_get_ge (k + 1) ys _ (by omega), addAt_get_ne (by omega)]
theorem byOut_get_ge {m : Fp p} {b : List (Fp p)} {n : Nat} : ∀ (i : Nat) (a Q : List (Fp p)), i + a.length + b.length ≤ n + 1 → (byOut m b i a Q)[n]? = Q[n]?
  | _, [], _, _ => rfl
  | i, x :: xs, Q, h => by
    rw [List.length_cons] at h
    show (byOut m b (i + 1) xs (byIn m x i 0 b Q))[n]? = _
    rw [byOut_get_ge (i + 1) xs _ (by omega), byIn_get_ge 0 b Q (by omega)]
theorem byIn_snoc {m x y : Fp p} {i : Nat} : ∀ (k : Nat) (b Q : List (Fp p)), byIn m x i k (b ++ [y]) Q = addAt (byIn m x i k b Q) (i + (k + b.length)) (x * frIt m (i % (m.len - 1)) y % m)
  | _, [], _ => rfl
  | k, z :: zs, Q => by
    show byIn m x i (k + 1) (zs ++ [y]) (addAt Q (i + k) _) = addAt (byIn m x i (k + 1) zs (addAt Q (i + k) _)) _ _
    rw [byIn_snoc (k + 1) zs, List.length_cons, show i + (k + 1 + zs.length) = i + (k + (zs.length + 1)) by omega]
theorem byOut_snoc {m x : Fp p} {b : List (Fp p)} : ∀ (i : Nat) (a Q : List (Fp p)), byOut m b i (a ++ [x]) Q = byIn m x (i + a.length) 0 b (byOut m b i a Q)
  | _, [], _ => rfl
  | i, z :: zs, Q => by
    show byOut m b (i + 1) (zs ++ [x]) (byIn m z i 0 b Q) = byIn m x _ 0 b (byOut m b (i + 1) zs (byIn m z i 0 b Q))
    rw [byOut_snoc (i + 1) zs, List.length_cons, show i + 1 + zs.length = i + (zs.length + 1) by omega]
theorem byIn_app {m x : Fp p} {i : Nat} {Z : List (Fp p)} : ∀ (k : Nat) (b Q : List (Fp p)), i + k + b.length ≤ Q.length → byIn m x i k b (Q ++ Z) = byIn m x i k b Q ++ Z
  | _, [], _, _ => rfl
  | k, y :: ys, Q, h => by
    rw [List.length_cons] at h
    show byIn m x i (k + 1) ys (addAt (Q ++ Z) (i + k) _) = byIn m x i (k + 1) ys (addAt Q (i + k) _) ++ Z
    rw [addAt_app (by omega), byIn_app (k + 1) ys _ (by rw [addAt_length]; omega)]
theorem byOut_app {m : Fp p} {b Z : List (Fp p)} : ∀ (i : Nat) (a Q : List (Fp p)), i + a.length + b.length ≤ Q.length + 1 → byOut m b i a (Q ++ Z) = byOut m b i a Q ++ Z
  | _, [], _, _ => rfl
  | i, x :: xs, Q, h => by
    rw [List.length_cons] at h
    show byOut m b (i + 1) xs (byIn m x i 0 b (Q ++ Z)) = byOut m b (i + 1) xs (byIn m x i 0 b Q) ++ Z
    rw [byIn_app 0 b Q (by omega), byOut_app (i + 1) xs _ (by rw [byIn_length]; omega)]
theorem mul_mod_ne {m x y : Fp p} (hi : Irr m) (hx : x ≠ 0) (hxl : x.len < m.len) (hy : y ≠ 0) (hyl : y.len < m.len) : x * y % m ≠ 0 := fun h => by
  rcases hi.prime ((dv_iff_mod hi.ne).2 h) with h | h
  · have := Dv.len h hx; omega
  · have := Dv.len h hy; omega
theorem frIt_ne {m : Fp p} (hm : Fld m) : ∀ (k : Nat) (y : Fp p), y ≠ 0 → y.len < m.len → frIt m k y ≠ 0
  | 0, _, h, _ => h
  | k + 1, y, h, hl => by
    obtain ⟨h1, h2⟩ := pw_res hm h hl p.toNat
    exact frIt_ne hm k _ h1 h2
end
section
variable {p : Int}
theorem stl_last {S : List (Fp p)} : ∀ (n k : Nat), stl S n = k + 1 → S[k]? ≠ some 0
  | 0, k, h => by cases h
  | n + 1, k, h => by
    unfold stl at h
    split at h
    · exact stl_last n k h
    · rename_i h0
      obtain rfl : n = k := by omega
      exact h0
theorem stl_top {S : List (Fp p)} {n : Nat} (h : S[n]? ≠ some 0) : stl S (n + 1) = n + 1 := by
  unfold stl; rw [if_neg h]
theorem trimS_form {S : List (Fp p)} (h : (trimS S).length ≠ 0) : ∃ a x, trimS S = a ++ [x] ∧ x ≠ 0 := by
  have hle := stl_le S S.length
  have hl : (trimS S).length = stl S S.length := by unfold trimS; rw [List.length_take]; omega
  obtain ⟨k, hk⟩ : ∃ k, stl S S.length = k + 1 := ⟨stl S S.length - 1, by omega⟩
  have h1 := stl_last _ _ hk
  have hlt : k < S.length := by omega
  rw [List.getElem?_eq_getElem hlt] at h1
  refine ⟨S.take k, S[k], ?_, fun h => h1 (by rw [h])⟩
  unfold trimS
  rw [hk, List.take_succ_eq_append_getElem hlt]
theorem trimS_top {S : List (Fp p)} {n : Nat} (hl : S.length = n + 1) (h : S[n]? ≠ some 0) : trimS S = S := by
  unfold trimS
  rw [hl, stl_top h, ← hl, List.take_length]
end
section
variable {p : Int} [IsP p]
theorem mulS_top {m x y : Fp p} (hm : Fld m) {a b : List (Fp p)} (hx : x ≠ 0) (hxl : x.len < m.len) (hy : y ≠ 0) (hyl : y.len < m.len) : trimS (mulS m (a ++ [x]) (b ++ [y])) = mulS m (a ++ [x]) (b ++ [y]) := by
  have hl : (mulS m (a ++ [x]) (b ++ [y])).length = a.length + b.length + 1 := by
    unfold mulS
    rw [byOut_length, List.length_replicate, List.length_append, List.length_append]
    simp only [List.length_cons, List.length_nil]; omega
  refine trimS_top hl ?_
  have hfy : frIt m (a.length % (m.len - 1)) y ≠ 0 := frIt_ne hm _ y hy hyl
  have hfl := frIt_len hm.mon.2 (a.length % (m.len - 1)) y hyl
  have hne := mul_mod_ne hm.irr hx hxl hfy hfl
  unfold mulS
  rw [byOut_snoc, byIn_snoc]
  unfold addAt
  rw [byIn_get_ge _ _ _ (by omega), byOut_get_ge _ _ _ (by rw [List.length_append, List.length_cons, List.length_nil]; omega)]
  have hN : 0 + a.length + (0 + b.length) = a.length + b.length := by omega
  rw [hN, List.getElem?_set_self (by rw [byIn_length, byOut_length, List.length_replicate, List.length_append, List.length_append]; simp only [List.length_cons, List.length_nil]; omega)]
  rw [List.getElem?_replicate, if_pos (by rw [List.length_append, List.length_append]; simp only [List.length_cons, List.length_nil]; omega)]
  show some ((0 : Fp p) + _) ≠ some 0
  rw [Gq.zero_add, show 0 + a.length = a.length by omega]
  exact fun h => hne (Option.some.inj h)
/-- The product, trimmed. -/
noncomputable def prodS (m : Fp p) (a b : List (Fp p)) : List (Fp p) := if a.length = 0 ∨ b.length = 0 then [] else trimS (mulS m a b)
theorem pd8_mulS {m : Fp p} {a b : List (Fp p)} (ha : 1 ≤ a.length) (hb : 1 ≤ b.length) (h : a.length + b.length ≤ 9) : pd8 (mulS m a b) = byOut m b 0 a zs8 := by
  unfold pd8 mulS zs8
  rw [byOut_length, List.length_replicate, ← byOut_app _ _ _ (by rw [List.length_replicate]; omega), List.replicate_append_replicate, show a.length + b.length - 1 + (8 - (a.length + b.length - 1)) = 8 by omega]
end
end Pe

namespace Pe
open Go Gq
variable {T : Nat → Option Fn} {A : Oracle}
section
variable {p : Int} [IsP p]
theorem addAt_lens {N n : Nat} {Q : List (Fp p)} {v : Fp p} (hQ : ∀ c ∈ Q, c.len ≤ N) (hv : v.len ≤ N) : ∀ c ∈ addAt Q n v, c.len ≤ N := fun c hc => by
  unfold addAt at hc
  rcases List.mem_or_eq_of_mem_set hc with h | rfl
  · exact hQ c h
  · refine Pol.len_add_le ?_ hv
    cases he : Q[n]? with
    | none => show (0 : Fp p).len ≤ N; rw [Pol.len_zero]; omega
    | some w => exact hQ w (List.mem_of_getElem? he)
end
theorem z8_pad : skwD (List.replicate 8 (pad [])) = .arr 8 (.arr 64 .leaf) z8 := rfl
/-- Eight lists of 64 places. -/
def Sh8 (ls : List (List Int)) : Prop := ls.length = 8 ∧ ∀ l ∈ ls, l.length = 64
theorem sh8_skP {p : Int} {S : List (Fp p)} (h : S.length = 8) : Sh8 (skP S) := ⟨by unfold skP; rw [List.length_map]; exact h, fun l hl => by
  obtain ⟨a, _, rfl⟩ := List.mem_map.1 hl
  exact pad_length _⟩
theorem l_eqSk {O : Oracle} (he : C_eqPoly O) {ls : List (List Int)} (h : Sh8 ls) : ∀ (k i : Nat), i + k = 8 →
    dn O 0 (.loop ir_laws_eqSkew_L0) ⟨[(2, .ptr 0 []), (3, .ptr 1 []), (5, (.d (.int .i64 i)))], [.box false (.arr 8 (.arr 64 .leaf) (ls.map arr8)), .box false (.arr 8 (.arr 64 .leaf) (ls.map arr8))]⟩ =
      some (.exit 0, ⟨[(2, .ptr 0 []), (3, .ptr 1 []), (5, (.d (.int .i64 8))), (7, (.d (.bool false)))], [.box false (.arr 8 (.arr 64 .leaf) (ls.map arr8)), .box false (.arr 8 (.arr 64 .leaf) (ls.map arr8))]⟩)
  | 0, i, hi => by
    obtain rfl : i = 8 := by omega
    refine dn_stop ?_
    generalize ls.map arr8 = LD at *
    simp -implicitDefEqProofs [ir_laws_eqSkew_L0, dn_cond]
  | k + 1, i, hi => by
    have hi8 : i < 8 := by omega
    have hi8' : (i : Int) < 8 := by omega
    have hlt : i < ls.length := by rw [h.1]; exact hi8
    have e1 := he ls[i] (h.2 _ (List.getElem_mem hlt))
    have hL : (ls.map arr8).length = 8 := by rw [List.length_map]; exact h.1
    have hx2 : ∀ h : i < (ls.map arr8).length, (ls.map arr8)[i]'h = (D.arr 64 .leaf (ints .u8 (ls[i]))) := fun h => by rw [List.getElem_map]
    have w4 : IntKind.i64.wrap ((i : Int) + 1) = ((i + 1 : Nat) : Int) := (w64 (x := (i : Int) + 1) (by omega)).trans (by omega)
    refine dn_round ?_ (l_eqSk he h k (i + 1) (by omega))
    generalize ls[i] = li at *
    generalize ls.map arr8 = LD at *
    simp -implicitDefEqProofs [ir_laws_eqSkew_L0, dn_cond, hi8, hi8', hL, hx2, e1, w4]
def C_eqSk (O : Oracle) : Prop := ∀ ls : List (List Int), Sh8 ls → ask O F_laws_eqSkew [skwD ls, skwD ls] = some (D.bool true)
theorem c_eqSk (hT : T F_laws_eqSkew = some ir_laws_eqSkew) (he : C_eqPoly (den T A)) : C_eqSk (den T A) := by
  intro ls h
  have e := l_eqSk (O := den T A) he h 8 0 rfl
  have e00 : ((0 : Nat) : Int) = 0 := rfl
  rw [e00] at e
  have hskd : skwD ls = .arr 8 (.arr 64 .leaf) (ls.map arr8) := rfl
  rw [hskd]
  refine ask_of hT rfl ?_
  generalize ls.map arr8 = LD at *
  simp -implicitDefEqProofs [ir_laws_eqSkew, ir_laws_eqSkew_B, e]
theorem sh8_zero : Sh8 (List.replicate 8 (pad [])) := ⟨rfl, fun l hl => by rw [List.eq_of_mem_replicate hl]; rfl⟩
end Pe

namespace Pe
open Go Gq
section
variable {p : Int}
/-- A coefficient. -/
noncomputable def cS (A : List (Fp p)) (i : Nat) : Fp p := (A[i]?).getD 0
theorem cS_ge {A : List (Fp p)} {i : Nat} (h : A.length ≤ i) : cS A i = 0 := by unfold cS; rw [List.getElem?_eq_none h]; rfl
theorem cS_lt {A : List (Fp p)} {i : Nat} (h : i < A.length) : A[i] = cS A i := by unfold cS; rw [List.getElem?_eq_getElem h]; rfl
def IsTrim (A : List (Fp p)) : Prop := ∀ n, A.length = n + 1 → cS A n ≠ 0
theorem cS_trim (S : List (Fp p)) (i : Nat) : cS (trimS S) i = cS S i := by
  unfold cS trimS
  have hle := stl_le S S.length
  by_cases h : i < stl S S.length
  · rw [List.getElem?_take, if_pos h]
  · rw [List.getElem?_take, if_neg h]
    by_cases h2 : i < S.length
    · rw [stl_zero S S.length i (by omega) h2]; rfl
    · rw [List.getElem?_eq_none (by omega)]
theorem isTrim_trim (S : List (Fp p)) : IsTrim (trimS S) := fun n hn => by
  obtain ⟨a, x, e, hx⟩ := trimS_form (S := S) (by omega)
  rw [e] at hn ⊢
  rw [List.length_append, List.length_singleton] at hn
  unfold cS
  rw [List.getElem?_append_right (by omega), show n - a.length = 0 by omega]
  exact hx
theorem trim_ext {A B : List (Fp p)} (hA : IsTrim A) (hB : IsTrim B) (h : ∀ i, cS A i = cS B i) : A = B := by
  have hl : A.length = B.length := by
    rcases Nat.lt_trichotomy A.length B.length with g | g | g
    · exact absurd (by rw [← h]; exact cS_ge (by omega)) (hB (B.length - 1) (by omega))
    · exact g
    · exact absurd (by rw [h]; exact cS_ge (by omega)) (hA (A.length - 1) (by omega))
  refine List.ext_getElem hl fun i h1 h2 => ?_
  rw [cS_lt h1, cS_lt h2, h]
theorem trimS_congr {X Y : List (Fp p)} (h : ∀ i, cS X i = cS Y i) : trimS X = trimS Y :=
  trim_ext (isTrim_trim X) (isTrim_trim Y) fun i => by rw [cS_trim, cS_trim, h]
theorem trimS_of {A : List (Fp p)} (hA : IsTrim A) : trimS A = A := trim_ext (isTrim_trim A) hA (cS_trim A)
theorem trim_len_le {X : List (Fp p)} {n : Nat} (h : ∀ i, n ≤ i → cS X i = 0) : (trimS X).length ≤ n := by
  rcases Nat.lt_or_ge n (trimS X).length with g | g
  · have := isTrim_trim X ((trimS X).length - 1) (by omega)
    rw [cS_trim] at this
    exact absurd (h _ (by omega)) this
  · exact g
theorem isTrim_nil : IsTrim ([] : List (Fp p)) := fun n h => by cases h
theorem cS_nil (i : Nat) : cS ([] : List (Fp p)) i = 0 := rfl
theorem cS_mem {A : List (Fp p)} {N : Nat} (h : ∀ i, (cS A i).len ≤ N) : ∀ c ∈ A, c.len ≤ N := fun c hc => by
  obtain ⟨i, hi, rfl⟩ := List.getElem_of_mem hc
  rw [cS_lt hi]; exact h i
theorem mem_cS {A : List (Fp p)} {N : Nat} (h : ∀ c ∈ A, c.len ≤ N) (i : Nat) : (cS A i).len ≤ N := by
  by_cases hi : i < A.length
  · rw [← cS_lt hi]; exact h _ (List.getElem_mem hi)
  · rw [cS_ge (by omega), Pol.len_zero]; omega
theorem cS_map {n : Nat} {f : Nat → Fp p} (i : Nat) : cS ((List.range n).map f) i = if i < n then f i else 0 := by
  unfold cS
  rw [List.getElem?_map]
  by_cases h : i < n
  · rw [List.getElem?_range h, if_pos h]; rfl
  · rw [List.getElem?_eq_none (by simpa using h), if_neg h]; rfl
noncomputable def plusS (k : Int) (A B : List (Fp p)) : List (Fp p) := trimS ((List.range (max A.length B.length)).map fun i => cS A i + Pol.C (zp p k) * cS B i)
theorem cS_plus (k : Int) (A B : List (Fp p)) (i : Nat) : cS (plusS k A B) i = cS A i + Pol.C (zp p k) * cS B i := by
  unfold plusS
  rw [cS_trim, cS_map]
  split
  · rfl
  · rw [cS_ge (A := A) (by omega), cS_ge (A := B) (by omega), Gq.mul_zero, Gq.add_zero]
theorem isTrim_plus (k : Int) (A B : List (Fp p)) : IsTrim (plusS k A B) := isTrim_trim _
theorem plus_len (k : Int) (A B : List (Fp p)) : (plusS k A B).length ≤ max A.length B.length := trim_len_le fun i hi => by
  rw [cS_map, if_neg (by omega)]
noncomputable def termS (c : Fp p) (k : Nat) : List (Fp p) := List.replicate k 0 ++ [c]
theorem termS_length (c : Fp p) (k : Nat) : (termS c k).length = k + 1 := by unfold termS; rw [List.length_append, List.length_replicate]; rfl
theorem cS_term (c : Fp p) (k i : Nat) : cS (termS c k) i = if i = k then c else 0 := by
  unfold cS termS
  rcases Nat.lt_trichotomy i k with h | h | h
  · rw [List.getElem?_append_left (by rw [List.length_replicate]; exact h), List.getElem?_replicate, if_pos h, if_neg (by omega)]; rfl
  · rw [List.getElem?_append_right (by rw [List.length_replicate]; omega), List.length_replicate, h, Nat.sub_self, if_pos rfl]; rfl
  · rw [List.getElem?_eq_none (by rw [List.length_append, List.length_replicate, List.length_singleton]; omega), if_neg (by omega)]; rfl
theorem isTrim_term {c : Fp p} (h : c ≠ 0) (k : Nat) : IsTrim (termS c k) := fun n hn => by
  rw [termS_length] at hn
  rw [cS_term, if_pos (by omega)]; exact h
theorem cS_pd8 {A : List (Fp p)} (i : Nat) : cS (pd8 A) i = cS A i := by
  unfold pd8 cS
  by_cases h : i < A.length
  · rw [List.getElem?_append_left h]
  · rw [List.getElem?_append_right (by omega), List.getElem?_replicate, List.getElem?_eq_none (l := A) (by omega)]
    split <;> rfl
theorem pd8_length {A : List (Fp p)} (h : A.length ≤ 8) : (pd8 A).length = 8 := by unfold pd8; rw [List.length_append, List.length_replicate]; omega
theorem trim_pd8 {A : List (Fp p)} (h : IsTrim A) : trimS (pd8 A) = A := (trimS_congr fun i => cS_pd8 i).trans (trimS_of h)
theorem eight_ext {X Y : List (Fp p)} (hX : X.length = 8) (hY : Y.length = 8) (h : ∀ i, i < 8 → cS X i = cS Y i) : X = Y := by
  refine List.ext_getElem (by omega) fun i h1 h2 => ?_
  rw [cS_lt h1, cS_lt h2, h i (by omega)]
theorem trimS_len_le (S : List (Fp p)) : (trimS S).length ≤ S.length := by
  unfold trimS; rw [List.length_take]; omega
theorem pd8_trim {F : List (Fp p)} (h : F.length = 8) : pd8 (trimS F) = F := eight_ext (pd8_length (by have := trimS_len_le F; omega)) h fun i _ => by rw [cS_pd8, cS_trim]
theorem cS_set {X : List (Fp p)} {n i : Nat} {c : Fp p} (h : n < X.length) : cS (X.set n c) i = if i = n then c else cS X i := by
  unfold cS
  by_cases hi : i = n
  · subst hi; rw [List.getElem?_set_self h, if_pos rfl]; rfl
  · rw [List.getElem?_set_ne (by omega), if_neg hi]
theorem snoc_of {B : List (Fp p)} (h : 1 ≤ B.length) : ∃ b, B = b ++ [cS B (B.length - 1)] ∧ b.length = B.length - 1 := by
  have hlt : B.length - 1 < B.length := by omega
  refine ⟨B.take (B.length - 1), ?_, by rw [List.length_take]; omega⟩
  rw [← cS_lt hlt, ← List.take_succ_eq_append_getElem hlt, show B.length - 1 + 1 = B.length by omega, List.take_length]
end
section
variable {p : Int} [IsP p]
theorem byIn_lens' {m x : Fp p} {i N : Nat} (hm : m ≠ 0) (hN : m.len ≤ N + 1) : ∀ (k : Nat) (b Q : List (Fp p)), (∀ c ∈ Q, c.len ≤ N) → ∀ c ∈ byIn m x i k b Q, c.len ≤ N
  | _, [], _, h => h
  | k, y :: ys, Q, h => byIn_lens' hm hN (k + 1) ys _ (addAt_lens h (by have := Pol.len_mod (x * frIt m (i % (m.len - 1)) y) hm; omega))
theorem byOut_lens' {m : Fp p} {b : List (Fp p)} {N : Nat} (hm : m ≠ 0) (hN : m.len ≤ N + 1) : ∀ (i : Nat) (a Q : List (Fp p)), (∀ c ∈ Q, c.len ≤ N) → ∀ c ∈ byOut m b i a Q, c.len ≤ N
  | _, [], _, h => h
  | i, _x :: xs, Q, h => byOut_lens' hm hN (i + 1) xs _ (byIn_lens' hm hN 0 b Q h)
theorem prodS_lens' {m : Fp p} {a b : List (Fp p)} {N : Nat} (hm : m ≠ 0) (hN : m.len ≤ N + 1) : ∀ c ∈ prodS m a b, c.len ≤ N := fun c hc => by
  unfold prodS at hc
  split at hc
  · cases hc
  · have h1 : c ∈ mulS m a b := List.mem_of_mem_take hc
    exact byOut_lens' hm hN 0 a _ (fun c hc => by rw [List.eq_of_mem_replicate hc, Pol.len_zero]; omega) c h1
theorem isTrim_prod (m : Fp p) (a b : List (Fp p)) : IsTrim (prodS m a b) := by
  unfold prodS
  split
  · exact isTrim_nil
  · exact isTrim_trim _
theorem prod_len_le {m : Fp p} {a b : List (Fp p)} : (prodS m a b).length ≤ a.length + b.length - 1 := by
  unfold prodS
  split
  · exact Nat.zero_le _
  · have := trimS_len_le (mulS m a b)
    have hl : (mulS m a b).length = a.length + b.length - 1 := by unfold mulS; rw [byOut_length, List.length_replicate]
    omega
theorem mulS_val {m x y : Fp p} {a b : List (Fp p)} : cS (mulS m (a ++ [x]) (b ++ [y])) (a.length + b.length) = x * frIt m (a.length % (m.len - 1)) y % m := by
  unfold mulS
  rw [byOut_snoc, byIn_snoc]
  unfold addAt
  rw [byIn_get_ge _ _ _ (by omega), byOut_get_ge _ _ _ (by rw [List.length_append, List.length_cons, List.length_nil]; omega)]
  have hN : 0 + a.length + (0 + b.length) = a.length + b.length := by omega
  rw [hN]
  unfold cS
  rw [List.getElem?_set_self (by rw [byIn_length, byOut_length, List.length_replicate, List.length_append, List.length_append]; simp only [List.length_cons, List.length_nil]; omega)]
  rw [List.getElem?_replicate, if_pos (by rw [List.length_append, List.length_append]; simp only [List.length_cons, List.length_nil]; omega)]
  show (0 : Fp p) + _ = _
  rw [Gq.zero_add, show 0 + a.length = a.length by omega]
theorem prod_top {m : Fp p} {A B : List (Fp p)} (ha : 1 ≤ A.length) (hb : 1 ≤ B.length) : cS (prodS m A B) (A.length - 1 + (B.length - 1)) = cS A (A.length - 1) * frIt m ((A.length - 1) % (m.len - 1)) (cS B (B.length - 1)) % m := by
  obtain ⟨a, ea, la⟩ := snoc_of ha
  obtain ⟨b, eb, lb⟩ := snoc_of hb
  have h := mulS_val (m := m) (x := cS A (A.length - 1)) (y := cS B (B.length - 1)) (a := a) (b := b)
  rw [← ea, ← eb, la, lb] at h
  unfold prodS
  rw [if_neg (by omega), cS_trim]
  exact h
theorem times_pd8 {m : Fp p} {X Y : List (Fp p)} (hX : IsTrim X) (hY : IsTrim Y) (h9 : X.length + Y.length ≤ 9) (hXl : ∀ c ∈ X, c.len < m.len) (hYl : ∀ c ∈ Y, c.len < m.len) (hm : Fld m) : timesD m (pd8 X) (pd8 Y) = .tup [skwD (skP (pd8 (prodS m X Y))), (D.bool true)] := by
  unfold timesD prodS
  rw [trim_pd8 hX, trim_pd8 hY]
  by_cases h0 : X.length = 0 ∨ Y.length = 0
  · rw [if_pos h0, if_pos h0, pd8_nil]
  · rw [if_neg h0, if_neg (by omega), if_neg h0]
    obtain ⟨a, ea, la⟩ := snoc_of (B := X) (by omega)
    obtain ⟨b, eb, lb⟩ := snoc_of (B := Y) (by omega)
    have hx := hX (X.length - 1) (by omega)
    have hy := hY (Y.length - 1) (by omega)
    have ht := mulS_top hm (a := a) (b := b) hx (hXl _ (by rw [← cS_lt (show X.length - 1 < X.length by omega)]; exact List.getElem_mem _)) hy (hYl _ (by rw [← cS_lt (show Y.length - 1 < Y.length by omega)]; exact List.getElem_mem _))
    rw [← ea, ← eb] at ht
    rw [ht, pd8_mulS (by omega) (by omega) (by omega)]
theorem inv_back {m x y : Fp p} (hm : Fld m) (hx : x.len < m.len) (hy : y ≠ 0) (hyl : y.len < m.len) : (x * invm m y % m) * y % m = x ∧ y * (x * invm m y % m) % m = x := by
  have h0 : m ≠ 0 := hm.mon.2
  have e := invm_ok hm hy hyl
  have key : Quo.mk m ((x * invm m y % m) * y) = Quo.mk m x := by
    rw [Quo.mk_mul, Pol.mk_mod, Quo.mk_mul, Gq.mul_assoc, e, Gq.mul_one]
  have h1 := (Pol.mod_eq_iff h0).2 key
  rw [Pol.mod_small hx] at h1
  exact ⟨h1, by rw [Gq.mul_comm]; exact h1⟩
theorem frIt_add {m : Fp p} : ∀ (b a : Nat) (x : Fp p), frIt m (a + b) x = frIt m a (frIt m b x)
  | 0, _, _ => rfl
  | b + 1, a, x => by
    show frIt m (a + b) (pw x p.toNat % m) = frIt m a (frIt m b (pw x p.toNat % m))
    exact frIt_add b a _
theorem frIt_round {m : Fp p} (hm : Fld m) (j : Nat) {z : Fp p} (hz : z.len < m.len) : frIt m (j % (m.len - 1)) (frIt m ((m.len - 1 - j % (m.len - 1)) % (m.len - 1)) z) = z := by
  have h2 := hm.two
  have hlt := Nat.mod_lt j (show 0 < m.len - 1 by omega)
  rw [frIt_mod hm _ hz, ← frIt_add, show j % (m.len - 1) + (m.len - 1 - j % (m.len - 1)) = m.len - 1 by omega, ← frIt_mod hm _ hz, Nat.mod_self]
  rfl
/-- The new coefficient of the quotient. -/
noncomputable def qc (left : Bool) (m : Fp p) (A B : List (Fp p)) : Fp p :=
  if left then frIt m ((m.len - 1 - (B.length - 1) % (m.len - 1)) % (m.len - 1)) (cS A (A.length - 1) * invm m (cS B (B.length - 1)) % m)
  else cS A (A.length - 1) * invm m (frIt m ((A.length - B.length) % (m.len - 1)) (cS B (B.length - 1))) % m
noncomputable def qT (left : Bool) (m : Fp p) (A B : List (Fp p)) : List (Fp p) := termS (qc left m A B) (A.length - B.length)
noncomputable def qP (left : Bool) (m : Fp p) (A B : List (Fp p)) : List (Fp p) := if left then prodS m B (qT left m A B) else prodS m (qT left m A B) B
end
section
variable {p : Int}
/-- Trimmed, of at most eight residues. -/
structure Sk (m : Fp p) (A : List (Fp p)) : Prop where
  trim : IsTrim A
  eight : A.length ≤ 8
  res : ∀ c ∈ A, c.len < m.len
theorem Sk.cs {m : Fp p} {A : List (Fp p)} (h : Sk m A) (hm : m ≠ 0) (i : Nat) : (cS A i).len < m.len := by
  have := mem_cS (N := m.len - 1) (fun c hc => by have := h.res c hc; omega) i
  have := Pol.len_pos hm
  omega
theorem Sk.top {m : Fp p} {A : List (Fp p)} (h : Sk m A) (h1 : 1 ≤ A.length) : cS A (A.length - 1) ≠ 0 := h.trim _ (by omega)
theorem Sk.nil (m : Fp p) : Sk m [] := ⟨isTrim_nil, by simp, fun c h => by cases h⟩
theorem Sk.of8 {m : Fp p} {F : List (Fp p)} (h8 : F.length = 8) (h : ∀ c ∈ F, c.len < m.len) : Sk m (trimS F) :=
  ⟨isTrim_trim F, by have := trimS_len_le F; omega, fun c hc => h c (List.mem_of_mem_take hc)⟩
end
section
variable {p : Int} [IsP p]
theorem c_ge' {p : Int} {a : Fp p} {n : Nat} (h : a.len ≤ n) : a.c n = 0 := a.lt_len n h
theorem Sk.plus {m : Fp p} {A B : List (Fp p)} (hm : m ≠ 0) (hA : Sk m A) (hB : Sk m B) (k : Int) : Sk m (plusS k A B) := by
  have h1 := Pol.len_pos hm
  refine ⟨isTrim_plus k A B, by have := plus_len k A B; have := hA.eight; have := hB.eight; omega, fun c hc => ?_⟩
  have := cS_mem (A := plusS k A B) (N := m.len - 1) (fun i => by
    rw [cS_plus]
    have a1 := hA.cs hm i
    have a2 := hB.cs hm i
    exact Pol.len_add_le (by omega) (Pol.len_le fun j hj => by rw [Pol.c_Cmul, c_ge' (by omega), Gq.mul_zero])) c hc
  omega
theorem step_ok (left : Bool) {m : Fp p} (hm : Fld m) {A B : List (Fp p)} (hA : Sk m A) (hB : Sk m B) (h1 : 1 ≤ B.length) (hle : B.length ≤ A.length) :
    qc left m A B ≠ 0 ∧ (qc left m A B).len < m.len ∧ Sk m (qT left m A B) ∧ Sk m (qP left m A B) ∧ (plusS (-1) A (qP left m A B)).length < A.length ∧ Sk m (plusS (-1) A (qP left m A B)) := by
  have h0 : m ≠ 0 := hm.mon.2
  have hx := hA.top (by omega)
  have hxl := hA.cs h0 (A.length - 1)
  have hy := hB.top h1
  have hyl := hB.cs h0 (B.length - 1)
  have hfy : frIt m ((A.length - B.length) % (m.len - 1)) (cS B (B.length - 1)) ≠ 0 := frIt_ne hm _ _ hy hyl
  have hfl := frIt_len h0 ((A.length - B.length) % (m.len - 1)) (cS B (B.length - 1)) hyl
  have hb1 := inv_back hm hxl hfy hfl
  have hb2 := inv_back hm hxl hy hyl
  have hzl : (cS A (A.length - 1) * invm m (cS B (B.length - 1)) % m).len < m.len := Pol.len_mod _ h0
  have hz0 : cS A (A.length - 1) * invm m (cS B (B.length - 1)) % m ≠ 0 := fun h => by
    have := hb2.1
    rw [h, Gq.zero_mul, Pol.zero_mod h0] at this
    exact hx this.symm
  have hc0 : qc left m A B ≠ 0 := by
    unfold qc
    cases left with
    | true => simp only [if_true]; exact frIt_ne hm _ _ hz0 hzl
    | false =>
      simp only [Bool.false_eq_true, if_false]
      intro h
      have := hb1.1
      rw [h, Gq.zero_mul, Pol.zero_mod h0] at this
      exact hx this.symm
  have hcl : (qc left m A B).len < m.len := by
    unfold qc
    cases left with
    | true => simp only [if_true]; exact frIt_len h0 _ _ hzl
    | false => simp only [Bool.false_eq_true, if_false]; exact Pol.len_mod _ h0
  have hTl : (qT left m A B).length = A.length - B.length + 1 := termS_length _ _
  have h8 := hA.eight
  have hT : Sk m (qT left m A B) := ⟨isTrim_term hc0 _, by omega, fun c hc => by
    unfold qT termS at hc
    rcases List.mem_append.1 hc with h | h
    · rw [List.eq_of_mem_replicate h, Pol.len_zero]; exact Pol.len_pos h0
    · rw [List.mem_singleton.1 h]; exact hcl⟩
  have hPl : (qP left m A B).length ≤ A.length := by
    unfold qP
    cases left with
    | true => have := prod_len_le (m := m) (a := B) (b := qT true m A B); simp only [if_true]; omega
    | false => have := prod_len_le (m := m) (a := qT false m A B) (b := B); simp only [Bool.false_eq_true, if_false]; omega
  have hP : Sk m (qP left m A B) := by
    have hm1 := Pol.len_pos h0
    refine ⟨?_, by omega, ?_⟩
    · unfold qP
      cases left with
      | true => exact isTrim_prod _ _ _
      | false => exact isTrim_prod _ _ _
    · intro c hc
      have : c.len ≤ m.len - 1 := by
        unfold qP at hc
        cases left with
        | true => exact prodS_lens' h0 (by omega) c hc
        | false => exact prodS_lens' h0 (by omega) c hc
      omega
  have htop : cS (qP left m A B) (A.length - 1) = cS A (A.length - 1) := by
    unfold qP
    cases left with
    | true =>
      simp only [if_true]
      have h := prod_top (m := m) (A := B) (B := qT true m A B) h1 (by omega)
      rw [hTl, show B.length - 1 + (A.length - B.length + 1 - 1) = A.length - 1 by omega, show A.length - B.length + 1 - 1 = A.length - B.length by omega] at h
      rw [h]
      unfold qT
      rw [cS_term, if_pos rfl]
      unfold qc
      simp only [if_true]
      rw [frIt_round hm (B.length - 1) hzl]
      exact hb2.2
    | false =>
      simp only [Bool.false_eq_true, if_false]
      have h := prod_top (m := m) (A := qT false m A B) (B := B) (by omega) h1
      rw [hTl, show A.length - B.length + 1 - 1 + (B.length - 1) = A.length - 1 by omega, show A.length - B.length + 1 - 1 = A.length - B.length by omega] at h
      rw [h]
      unfold qT
      rw [cS_term, if_pos rfl]
      unfold qc
      simp only [Bool.false_eq_true, if_false]
      exact hb1.1
  have hneg : ∀ x : Fp p, x + Pol.C (zp p (-1)) * x = 0 := fun x => by
    rw [zp_neg, zp_one, Pol.C_neg, Pol.C_one]
    exact ring_of [x] rfl
  refine ⟨hc0, hcl, hT, hP, ?_, hA.plus h0 hP (-1)⟩
  have hlt : (plusS (-1) A (qP left m A B)).length ≤ A.length - 1 := trim_len_le fun i hi => by
    rw [cS_map]
    split
    · rcases Nat.lt_or_ge i A.length with g | g
      · rw [show i = A.length - 1 by omega, htop, hneg]
      · rw [cS_ge g, cS_ge (A := qP left m A B) (by omega), Gq.mul_zero, Gq.add_zero]
    · rfl
  omega
/-- The quotient has no part where it gets the next one. -/
def Zto (Q A B : List (Fp p)) : Prop := ∀ j, j + B.length ≤ A.length → cS Q j = 0
theorem Zto.step {left : Bool} {m : Fp p} (hm : Fld m) {Q A B : List (Fp p)} (hA : Sk m A) (hB : Sk m B) (h1 : 1 ≤ B.length) (hle : B.length ≤ A.length) (hz : Zto Q A B) : Zto (plusS 1 Q (qT left m A B)) (plusS (-1) A (qP left m A B)) B := fun j hj => by
  obtain ⟨_, _, _, _, h, _⟩ := step_ok left hm hA hB h1 hle
  unfold qT
  rw [cS_plus, hz j (by omega), cS_term, if_neg (by omega), Gq.mul_zero, Gq.add_zero]
end
end Pe



namespace Pe
open Go Gq
variable {T : Nat → Option Fn} {A : Oracle}
abbrev z6 : List Int := List.replicate 6 0
section
variable {p : Int} [IsP p]
noncomputable def mono (p : Int) (i : Nat) : Fp p := numP p (p ^ i)
end
end Pe

namespace Pe
open Go Gq
variable {T : Nat → Option Fn} {A : Oracle}
section
variable {O : Oracle} {g : Nat} {first caps : List D}
/-- A comparison of a list's elements. -/
structure CmpRow (O : Oracle) (g : Nat) (first caps : List D) (f : D → Int) (s : Sh) (cs : List D) : Prop where
  nf : noTup first
  nc : noTup caps
  nx : noTup cs
  sh : AllSh s cs
  ask : ∀ x ∈ cs, ∀ y ∈ cs, ∃ v : Int, ask O g (first ++ [x, y] ++ caps) = some (D.int .i64 v) ∧ (v < 0 ↔ f x < f y)
theorem CmpRow.perm {f : D → Int} {s : Sh} {cs ds : List D} (h : CmpRow O g first caps f s cs) (p : ds.Perm cs) : CmpRow O g first caps f s ds :=
  ⟨h.nf, h.nc, fun x hx => h.nx x (p.subset hx), fun x hx => h.sh x (p.subset hx), fun x hx y hy => h.ask x (p.subset hx) y (p.subset hy)⟩
theorem CmpRow.call {f : D → Int} {s : Sh} {cs : List D} (h : CmpRow O g first caps f s cs) {hp : Heap} {np : Nat} {news : List Nat} {x y : D} (hx : x ∈ cs) (hy : y ∈ cs) :
    ∃ v : Int, kCall O np hp .flat news (g, first.map .d, caps.map .d) [.d x, .d y] = some (.d (D.int .i64 v), hp) ∧ (v < 0 ↔ f x < f y) := by
  have e : toDs hp (first.map .d ++ [.d x, .d y] ++ caps.map .d) = some (first ++ [x, y] ++ caps) :=
    toDs_app hp (toDs_app hp (toDs_map hp h.nf) (toDs_map hp (ds := [x, y]) (by intro z hz; simp at hz; rcases hz with rfl | rfl; exact h.nx _ hx; exact h.nx _ hy))) (toDs_map hp h.nc)
  obtain ⟨v, e1, e2⟩ := h.ask x hx y hy
  refine ⟨v, ?_, e2⟩
  rw [kCall_flat, e, Option.bind_some, kAsk_ask, e1, Option.bind_some, kAns_flat, show (D.int IntKind.i64 v).flat = true from rfl, if_pos rfl]
end
end Pe

namespace Pe
open Go Gq
variable {T : Nat → Option Fn} {A : Oracle}
section
variable {p : Int}
/-- b without its part at the degree of a. -/
noncomputable def elim (a b : Fp p) : Fp p := b + Pol.C (-(b.c (a.len - 1))) * a
noncomputable abbrev rowD (a : Fp p) : D := (D.sl .leaf (ints .i64 (row a)))
end
section
variable {p : Int} [IsP p]
/-- Strictly descending degrees, all monic. -/
structure Desc (N : Nat) (L : List (Fp p)) : Prop where
  pw : L.Pairwise fun x y => y.len < x.len
  mon : ∀ b ∈ L, Monic b
  le : ∀ b ∈ L, b.len ≤ N
theorem Desc.nil (N : Nat) : Desc N ([] : List (Fp p)) := ⟨List.Pairwise.nil, (fun _ h => by cases h), (fun _ h => by cases h)⟩
theorem Desc.tail {N : Nat} {b : Fp p} {L : List (Fp p)} (h : Desc N (b :: L)) : Desc N L ∧ ∀ c ∈ L, c.len < b.len :=
  ⟨⟨h.pw.tail, fun c hc => h.mon c (by simp [hc]), fun c hc => h.le c (by simp [hc])⟩, (List.pairwise_cons.1 h.pw).1⟩
theorem Desc.length : ∀ {N : Nat} {L : List (Fp p)}, Desc N L → L.length ≤ N
  | N, [], _ => Nat.zero_le _
  | N, b :: L, h => by
    obtain ⟨h1, h2⟩ := h.tail
    have hb := Pol.len_pos (h.mon b (by simp)).2
    have hle := h.le b (by simp)
    have := Desc.length (N := b.len - 1) ⟨h1.pw, h1.mon, fun c hc => by have := h2 c hc; omega⟩
    rw [List.length_cons]; omega
end
section
variable {p : Int}
end
end Pe

namespace Pe
open Go Gq
variable {T : Nat → Option Fn} {A : Oracle}
def K_single (O : Oracle) : Prop := ∀ (p : Int) [IsP p] (c : Fp p) (k : Nat), k < 10000 → ask O F_impl_single [(D.sl .leaf (ints .i64 (row c))), (D.int .i64 k)] = some (skD (termS c k))
theorem termS_map {p : Int} (c : Fp p) (k : Nat) : (List.replicate (k + 1) (D.sl .leaf [])).set k (D.sl .leaf (ints .i64 (row c))) = (termS c k).map rowD := by
  unfold termS
  rw [List.map_append, List.map_replicate, show rowD (0 : Fp p) = .sl .leaf [] by show (D.sl .leaf (ints .i64 (row (0 : Fp p)))) = _; rw [row_zero, ints_nil], List.replicate_succ', List.set_append_right _ _ (by rw [List.length_replicate]; omega), List.length_replicate, Nat.sub_self]
  rfl
theorem k_single (hT : T F_impl_single = some ir_impl_single) : K_single (den T A) := by
  intro p ip c k hk
  have w1 : IntKind.i64.wrap ((k : Int) + 1) = ((k + 1 : Nat) : Int) := (w64 (x := (k : Int) + 1) (by omega)).trans (by omega)
  have h24 : (k + 1) * 24 ≤ 1099511627776 := by omega
  have hn : (0 : Int) ≤ ((k + 1 : Nat) : Int) := by omega
  have hlt : k < k + 1 := by omega
  have hsk : skD (termS c k) = .sl .leaf ((termS c k).map rowD) := rfl
  have htm := termS_map c k
  have hTL : ((termS c k).map rowD).length = k + 1 := by rw [List.length_map, termS_length]
  have htk : ((termS c k).map rowD).take (k + 1) = (termS c k).map rowD := List.take_of_length_le (by omega)
  rw [hsk]
  refine ask_of hT rfl ?_
  have hRL : (List.replicate (k + 1) (D.sl .leaf [])).length = k + 1 := List.length_replicate ..
  have hRg : ∀ h : k < (List.replicate (k + 1) (D.sl .leaf [])).length, (List.replicate (k + 1) (D.sl .leaf []))[k]'h = D.sl .leaf [] := fun h => List.getElem_replicate h
  generalize (termS c k).map rowD = TD at *
  generalize row c = Rc at *
  generalize hRR : List.replicate (k + 1) (D.sl .leaf []) = RR at *
  generalize k + 1 = k1 at *
  simp -implicitDefEqProofs [ir_impl_single, ir_impl_single_B, w1, h24, hlt, hRR, hRL, hRg, htm, hTL, htk]
def K_by2 (O : Oracle) : Prop := ∀ (p : Int) [IsP p] (m : Fp p) (a b : List (Fp p)), 2 ≤ m.len → m.len ≤ 64 → (∀ c ∈ a, c.len ≤ 64) → (∀ c ∈ b, c.len ≤ 64) → a.length < 10000 → b.length < 10000 → ask O F_impl_field_by [fldD m, skD a, skD b] = some (skD (prodS m a b))
theorem k_by2 {O : Oracle} (h : K_by O) : K_by2 O := by
  intro p ip m a b h2 hml ha hb hal hbl
  rw [h p m a b h2 hml ha hb hal hbl]
  unfold prodS
  split <;> rfl
end Pe

namespace Pe
open Go Gq
variable {T : Nat → Option Fn} {A : Oracle}
section
variable {p : Int} [IsP p]
end
end Pe



namespace Pe
open Go Gq
variable {T : Nat → Option Fn} {A : Oracle}
section
variable {p : Int} [IsP p]
end
end Pe


namespace Pe
open Go Gq
variable {T : Nat → Option Fn} {A : Oracle}
section
variable {p : Int}
end
section
variable {p : Int} [IsP p]
end
end Pe


namespace Pe
open Go Gq
variable {T : Nat → Option Fn} {A : Oracle}
end Pe

namespace Pe
open Go Gq
variable {T : Nat → Option Fn} {A : Oracle}
end Pe


namespace Pe
open Go Gq
variable {T : Nat → Option Fn} {A : Oracle}
section
variable {p : Int} [IsP p]
end
end Pe


namespace Pe
open Go Gq
variable {T : Nat → Option Fn} {A : Oracle}
section
variable {p : Int} [IsP p]
end
end Pe

namespace Pe
open Go Gq
variable {T : Nat → Option Fn} {A : Oracle}
section
variable {α : Type}
end
end Pe

namespace Pe
open Go Gq
variable {T : Nat → Option Fn} {A : Oracle}
/-- Eight residues, as data. -/
noncomputable abbrev eS {p : Int} (X : List (Fp p)) : D := skwD (skP (pd8 X))
theorem eS_arr {p : Int} (X : List (Fp p)) : eS X = .arr 8 (.arr 64 .leaf) ((skP (pd8 X)).map arr8) := rfl
def K_sTimes8 (O : Oracle) : Prop := ∀ (p : Int) [IsP p] (m : Fp p) (X Y : List (Fp p)), Fld m → Sk m X → Sk m Y → X.length + Y.length ≤ 9 → ask O F_spec_l03Times [(D.int .i64 p), (D.arr 64 .leaf (ints .u8 (pad (row m)))), eS X, eS Y] = some (.tup [eS (prodS m X Y), (D.bool true)])
theorem pd8_res {p : Int} {m : Fp p} {X : List (Fp p)} (hm : m ≠ 0) (hX : ∀ c ∈ X, c.len < m.len) : ∀ c ∈ pd8 X, c.len < m.len := fun c hc => by
  unfold pd8 at hc
  rcases List.mem_append.1 hc with h | h
  · exact hX c h
  · rw [List.eq_of_mem_replicate h, Pol.len_zero]; exact Pol.len_pos hm
theorem k_sTimes8 {O : Oracle} (h : K_sTimes3 O) : K_sTimes8 O := by
  intro p ip m X Y hm hX hY h9
  have h5 := hm.five
  have e := h p m (pd8 X) (pd8 Y) hm.two (by omega) (pd8_length hX.eight) (pd8_length hY.eight) (pd8_res hm.mon.2 hX.res) (pd8_res hm.mon.2 hY.res)
  rw [times_pd8 hX.trim hY.trim h9 hX.res hY.res hm] at e
  exact e
def K_sDeg8 (O : Oracle) : Prop := ∀ (p : Int) [IsP p] (m : Fp p) (X : List (Fp p)), m ≠ 0 → m.len ≤ 64 → Sk m X → ask O F_spec_l03Deg [eS X] = some (D.int .i64 ((X.length : Int) - 1))
theorem k_sDeg8 {O : Oracle} (h : K_sSkDeg O) : K_sDeg8 O := by
  intro p ip m X hm hml hX
  have e := h p (pd8 X) (pd8_length hX.eight) (fun c hc => by have := pd8_res hm hX.res c hc; omega)
  rw [← trimS_len8 (pd8_length hX.eight), trim_pd8 hX.trim] at e
  exact e
end Pe


namespace Pe
open Go Gq
variable {T : Nat → Option Fn} {A : Oracle}
end Pe

namespace Pe
open Go Gq
variable {T : Nat → Option Fn} {A : Oracle}
theorem eS_sh {p : Int} {m : Fp p} {X : List (Fp p)} (h : Sk m X) : Sh8 (skP (pd8 X)) := sh8_skP (pd8_length h.eight)
end Pe

namespace Pe
open Go Gq
variable {T : Nat → Option Fn} {A : Oracle}
section
variable {p : Int} [IsP p]
theorem byIn_cS {m x : Fp p} {i n : Nat} : ∀ (k : Nat) (b Q : List (Fp p)), i + k + b.length ≤ Q.length → cS (byIn m x i k b Q) n = if i + k ≤ n ∧ n < i + k + b.length then cS Q n + x * frIt m (i % (m.len - 1)) (cS b (n - (i + k))) % m else cS Q n
  | k, [], Q, _ => by rw [if_neg (by rw [List.length_nil]; omega)]; rfl
  | k, y :: ys, Q, h => by
    rw [List.length_cons] at h
    show cS (byIn m x i (k + 1) ys (addAt Q (i + k) _)) n = _
    rw [byIn_cS (k + 1) ys _ (by rw [addAt_length]; omega)]
    have hadd : ∀ v : Fp p, cS (addAt Q (i + k) v) n = if n = i + k then cS Q n + v else cS Q n := fun v => by
      unfold addAt
      rw [cS_set (by omega)]
      split
      · rename_i h; rw [h]; rfl
      · rfl
    rw [hadd]
    by_cases h1 : n = i + k
    · subst h1
      rw [if_neg (by omega), if_pos rfl, if_pos (by rw [List.length_cons]; omega), Nat.sub_self]
      rfl
    · rw [if_neg h1]
      by_cases h2 : i + k ≤ n ∧ n < i + k + (y :: ys).length
      · rw [List.length_cons] at h2
        rw [if_pos (by omega), if_pos (by rw [List.length_cons]; omega)]
        have : cS (y :: ys) (n - (i + k)) = cS ys (n - (i + (k + 1))) := by
          unfold cS
          rw [show n - (i + k) = (n - (i + (k + 1))) + 1 by omega, List.getElem?_cons_succ]
        rw [this]
      · rw [if_neg h2, if_neg (by rw [List.length_cons] at h2; omega)]
theorem prod_one {m x : Fp p} (hm : m ≠ 0) (X : List (Fp p)) (i : Nat) : cS (prodS m (termS x 0) X) i = x * cS X i % m := by
  unfold prodS
  have hz : x * 0 % m = 0 := by rw [Gq.mul_zero, Pol.zero_mod hm]
  by_cases h0 : X.length = 0
  · rw [if_pos (.inr h0), cS_nil, cS_ge (by omega), hz]
  · rw [if_neg (by rw [termS_length]; omega), cS_trim]
    show cS (byIn m x 0 0 X (List.replicate ((termS x 0).length + X.length - 1) 0)) i = _
    rw [termS_length, byIn_cS 0 X _ (by rw [List.length_replicate]; omega), Nat.zero_mod]
    have hr : cS (List.replicate (0 + 1 + X.length - 1) (0 : Fp p)) i = 0 := by
      unfold cS
      rw [List.getElem?_replicate]
      split <;> rfl
    rw [hr]
    split
    · rw [Gq.zero_add]; rfl
    · rw [cS_ge (A := X) (by omega), hz]
/-- Made monic. -/
noncomputable def monS (m : Fp p) (X : List (Fp p)) : List (Fp p) := prodS m (termS (invm m (cS X (X.length - 1))) 0) X
theorem Sk.mon {m : Fp p} {X : List (Fp p)} (hm : m ≠ 0) (hX : Sk m X) : Sk m (monS m X) := by
  have h1 := Pol.len_pos hm
  have hl := prod_len_le (m := m) (a := termS (invm m (cS X (X.length - 1))) 0) (b := X)
  rw [termS_length] at hl
  have h8 := hX.eight
  exact ⟨isTrim_prod _ _ _, by unfold monS; omega, fun c hc => by have := prodS_lens' (N := m.len - 1) hm (by omega) c hc; omega⟩
end
end Pe

namespace Pe
open Go Gq
variable {T : Nat → Option Fn} {A : Oracle}
section
variable {p : Int}
end
section
variable {p : Int} [IsP p]
theorem prodS_len {m : Fp p} (hm : Fld m) {X Y : List (Fp p)} (hX : IsTrim X) (hY : IsTrim Y) (hXl : ∀ c ∈ X, c.len < m.len) (hYl : ∀ c ∈ Y, c.len < m.len) (h1 : 1 ≤ X.length) (h2 : 1 ≤ Y.length) : (prodS m X Y).length = X.length + Y.length - 1 := by
  obtain ⟨a, ea, la⟩ := snoc_of h1
  obtain ⟨b, eb, lb⟩ := snoc_of h2
  have hx := hX (X.length - 1) (by omega)
  have hy := hY (Y.length - 1) (by omega)
  have ht := mulS_top hm (a := a) (b := b) hx (hXl _ (by rw [← cS_lt (show X.length - 1 < X.length by omega)]; exact List.getElem_mem _)) hy (hYl _ (by rw [← cS_lt (show Y.length - 1 < Y.length by omega)]; exact List.getElem_mem _))
  rw [← ea, ← eb] at ht
  unfold prodS
  rw [if_neg (by omega), ht]
  unfold mulS
  rw [byOut_length, List.length_replicate]
theorem one_ne8 : (1 : Fp p) ≠ 0 := fun h => by
  have e : (1 : Fp p).len = 1 := Pol.len_one
  rw [h, Pol.len_zero] at e
  cases e
theorem sk_one {m : Fp p} (hm : Fld m) : Sk m (termS (1 : Fp p) 0) := ⟨isTrim_term one_ne8 0, by rw [termS_length]; omega, fun c hc => by
  unfold termS at hc
  rw [List.replicate_zero, List.nil_append] at hc
  rw [List.mem_singleton.1 hc]
  have := hm.two
  have : (1 : Fp p).len = 1 := Pol.len_one
  omega⟩
theorem mon_len {m : Fp p} (hm : Fld m) {X : List (Fp p)} (hX : IsTrim X) (hr : ∀ c ∈ X, c.len < m.len) (h1 : 1 ≤ X.length) : (monS m X).length = X.length := by
  have h0 := hm.mon.2
  have hx : cS X (X.length - 1) ≠ 0 := hX _ (by omega)
  have hxl : (cS X (X.length - 1)).len < m.len := by
    rw [← cS_lt (show X.length - 1 < X.length by omega)]; exact hr _ (List.getElem_mem _)
  have hi : invm m (cS X (X.length - 1)) ≠ 0 := fun h => by
    have e := inv_back hm (x := 1) (by have := hm.two; have : (1 : Fp p).len = 1 := Pol.len_one; omega) hx hxl
    rw [h, Gq.mul_zero, Pol.zero_mod h0, Gq.zero_mul, Pol.zero_mod h0] at e
    exact one_ne8 e.1.symm
  have hil := invm_len h0 (cS X (X.length - 1))
  have := prodS_len hm (isTrim_term hi 0) hX (fun c hc => by
    unfold termS at hc
    rw [List.replicate_zero, List.nil_append] at hc
    rw [List.mem_singleton.1 hc]; exact hil) hr (by rw [termS_length]; omega) h1
  rw [termS_length] at this
  unfold monS
  omega
end
def K_sOne3 (O : Oracle) : Prop := ∀ (p : Int) [IsP p], ask O F_spec_l03One [] = some (eS (termS (1 : Fp p) 0))
theorem k_sOne3 (hT : T F_spec_l03One = some ir_spec_l03One) (h1 : K_sOne (den T A)) : K_sOne3 (den T A) := by
  intro p ip
  have e1 := h1 p
  have e2 : skP (pd8 (termS (1 : Fp p) 0)) = pad (row (1 : Fp p)) :: List.replicate 7 (pad []) := by
    show pad (row (1 : Fp p)) :: (List.replicate 7 (0 : Fp p)).map (fun a => pad (row a)) = _
    rw [List.map_replicate, row_zero]
  have e3 : (pad (row (1 : Fp p)) :: List.replicate 7 (pad [])).map arr8 = z8.set 0 (D.arr 64 .leaf (ints .u8 (pad (row (1 : Fp p))))) := rfl
  rw [eS_arr, e2, e3]
  refine ask_of hT rfl ?_
  generalize pad (row (1 : Fp p)) = P1 at *
  simp -implicitDefEqProofs [ir_spec_l03One, ir_spec_l03One_B, e1, z8, List.replicate]
end Pe

namespace Pe
open Go Gq
variable {T : Nat → Option Fn} {A : Oracle}
section
variable {p : Int} [IsP p]
noncomputable def powS (m : Fp p) (B : List (Fp p)) : Nat → List (Fp p)
  | 0 => termS 1 0
  | k + 1 => prodS m (powS m B k) B
theorem pow_trim (m : Fp p) (B : List (Fp p)) : ∀ k, IsTrim (powS m B k)
  | 0 => isTrim_term one_ne8 0
  | _ + 1 => isTrim_prod _ _ _
theorem pow_res {m : Fp p} (hm : Fld m) (B : List (Fp p)) : ∀ k, ∀ c ∈ powS m B k, c.len < m.len
  | 0 => (sk_one hm).res
  | k + 1 => fun c hc => by
    have h1 := Pol.len_pos hm.mon.2
    have := prodS_lens' (N := m.len - 1) hm.mon.2 (by omega) c hc
    omega
theorem pow_nil (m : Fp p) (k : Nat) : powS m [] (k + 1) = [] := by
  show prodS m (powS m [] k) [] = []
  unfold prodS
  exact if_pos (.inr rfl)
theorem powS_len {m : Fp p} (hm : Fld m) {B : List (Fp p)} (hB : Sk m B) {n : Nat} (hn : B.length = n + 1) : ∀ k, (powS m B k).length = k * n + 1
  | 0 => by
    show (termS (1 : Fp p) 0).length = _
    rw [termS_length, Nat.zero_mul]
  | k + 1 => by
    have ih := powS_len hm hB hn k
    show (prodS m (powS m B k) B).length = _
    rw [prodS_len hm (pow_trim m B k) hB.trim (pow_res hm B k) hB.res (by omega) (by omega), ih, hn, Nat.succ_mul]
    omega
theorem pow_len8 {m : Fp p} (hm : Fld m) {B : List (Fp p)} (hB : Sk m B) {K : Nat} (h : B.length = 0 ∨ K * (B.length - 1) ≤ 7) : ∀ k, k ≤ K → (powS m B k).length ≤ 8 := by
  intro k hk
  rcases h with h | h
  · obtain rfl : B = [] := List.length_eq_zero_iff.1 h
    cases k with
    | zero => show (termS (1 : Fp p) 0).length ≤ 8; rw [termS_length]; omega
    | succ k => rw [pow_nil]; simp
  · by_cases h0 : B.length = 0
    · obtain rfl : B = [] := List.length_eq_zero_iff.1 h0
      cases k with
      | zero => show (termS (1 : Fp p) 0).length ≤ 8; rw [termS_length]; omega
      | succ k => rw [pow_nil]; simp
    · rw [powS_len hm hB (n := B.length - 1) (by omega) k]
      have := Nat.mul_le_mul_right (B.length - 1) hk
      omega
theorem pow_sk {m : Fp p} (hm : Fld m) {B : List (Fp p)} (k : Nat) (h : (powS m B k).length ≤ 8) : Sk m (powS m B k) := ⟨pow_trim m B k, h, pow_res hm B k⟩
theorem pow_first {m : Fp p} (hm : Fld m) {B : List (Fp p)} (hB : Sk m B) : powS m B 1 = B := by
  refine trim_ext (pow_trim m B 1) hB.trim fun i => ?_
  show cS (prodS m (termS 1 0) B) i = _
  rw [prod_one hm.mon.2, Gq.one_mul, Pol.mod_small (hB.cs hm.mon.2 i)]
theorem pow_const {m : Fp p} (hm : Fld m) {B : List (Fp p)} (h1 : B.length = 1) : ∀ k i, cS (powS m B k) i = cS (termS (pw (cS B 0) k % m) 0) i
  | 0, i => by
    show cS (termS 1 0) i = _
    have : (pw (cS B 0) 0 % m) = 1 := Pol.mod_small (by show (1 : Fp p).len < _; rw [Pol.len_one]; have := hm.two; omega)
    rw [this]
  | k + 1, i => by
    have ih := pow_const hm h1 k
    have e : powS m B k = trimS (termS (pw (cS B 0) k % m) 0) := trim_ext (pow_trim m B k) (isTrim_trim _) fun j => by rw [ih j, cS_trim]
    have key : ∀ X : List (Fp p), X.length ≤ 1 → cS (prodS m X B) i = cS X 0 * cS B i % m := by
      intro X hX
      by_cases h0 : X.length = 0
      · obtain rfl : X = [] := List.length_eq_zero_iff.1 h0
        have : prodS m [] B = [] := by unfold prodS; exact if_pos (.inl rfl)
        rw [this, cS_nil, cS_nil, Gq.zero_mul, Pol.zero_mod hm.mon.2]
      · have : X = termS (cS X 0) 0 := List.ext_getElem (by rw [termS_length]; omega) fun j h1 h2 => by
          rw [cS_lt h1, cS_lt h2, cS_term, if_pos (by omega), show j = 0 by omega]
        rw [this, prod_one hm.mon.2, cS_term, if_pos rfl]
    show cS (prodS m (powS m B k) B) i = _
    rw [e, key _ (by have := trimS_len_le (termS (pw (cS B 0) k % m) 0); rw [termS_length] at this; omega), cS_trim, cS_term, if_pos rfl, cS_term]
    split
    · rename_i hi
      subst hi
      refine (Pol.mod_eq_iff hm.mon.2).2 ?_
      show _ = Quo.mk m (pw (cS B 0) k * cS B 0)
      rw [Quo.mk_mul, Pol.mk_mod, Quo.mk_mul]
    · rw [cS_ge (A := B) (i := i) (by omega), Gq.mul_zero, Pol.zero_mod hm.mon.2]
noncomputable def pwT (m : Fp p) (B : List (Fp p)) (K : Nat) : D := if B.length = 0 ∨ K * (B.length - 1) ≤ 7 then .tup [eS (powS m B K), (D.int .i64 0)] else .tup [eS ([] : List (Fp p)), (D.int .i64 3)]
end
theorem l_pow {O : Oracle} (hfo : K_fieldOf O) (hby : K_by2 O) (hdg : K_skDeg O) {p : Int} [IsP p] {m : Fp p} (hm : Fld m) {B : List (Fp p)} (hB : Sk m B) {K : Nat} (hK : K ≤ 1000) (h8 : ∀ k, k ≤ K → (powS m B k).length ≤ 8) {z : List D} : ∀ (r i : Nat), i + r = K →
    dn O 0 (.loop ir_impl_PowerOfSkew_L0) ⟨[(0, (.d (.int .i64 p))), (5, .ptr 0 []), (8, .ptr 2 []), (11, .d (skD (powS m B i))), (12, .d (skD B)), (30, (.d (.int .i64 K))), (31, (.d (.int .i64 i)))], [.box false (D.arr 64 .leaf (ints .u8 (pad (row m)))), .hole, .box false (.arr 8 (.arr 64 .leaf) z), .hole, .hole]⟩ =
      some (.exit 0, ⟨[(0, (.d (.int .i64 p))), (5, .ptr 0 []), (8, .ptr 2 []), (11, .d (skD (powS m B K))), (12, .d (skD B)), (30, (.d (.int .i64 K))), (31, (.d (.int .i64 K))), (32, (.d (.bool false)))], [.box false (D.arr 64 .leaf (ints .u8 (pad (row m)))), .hole, .box false (.arr 8 (.arr 64 .leaf) z), .hole, .hole]⟩)
  | 0, i, hi => by
    obtain rfl : i = K := by omega
    refine dn_stop ?_
    generalize skD (powS m B i) = XD at *
    generalize skD B = BD at *
    generalize pad (row m) = Pm at *
    simp -implicitDefEqProofs [ir_impl_PowerOfSkew_L0, dn_cond]
  | r + 1, i, hi => by
    have h5 := hm.five
    have a1 := h8 i (by omega)
    have a2 := h8 (i + 1) (by omega)
    have b8 := hB.eight
    have e1 := hfo p m (by omega)
    have e2 := hby p m (powS m B i) B hm.two (by omega) (fun c hc => by have := pow_res hm B i c hc; omega) (fun c hc => by have := hB.res c hc; omega) (by omega) (by omega)
    rw [show prodS m (powS m B i) B = powS m B (i + 1) from rfl] at e2
    have e3 := hdg p (powS m B (i + 1)) (by omega)
    have hlt : i < K := by omega
    have hlt' : (i : Int) < K := by omega
    have hle : ¬ 7 < ((powS m B (i + 1)).length : Int) - 1 := by omega
    have w4 : IntKind.i64.wrap ((i : Int) + 1) = ((i + 1 : Nat) : Int) := (w64 (x := (i : Int) + 1) (by omega)).trans (by omega)
    refine dn_round ?_ (l_pow hfo hby hdg hm hB hK h8 r (i + 1) (by omega))
    rw [show skD (powS m B (i + 1)) = .sl .leaf ((powS m B (i + 1)).map rowD) from rfl] at e2 e3 ⊢
    rw [show skD (powS m B i) = .sl .leaf ((powS m B i).map rowD) from rfl, show skD B = .sl .leaf (B.map rowD) from rfl] at e2 ⊢
    generalize ((powS m B (i + 1)).length : Int) - 1 = n1 at *
    generalize (powS m B (i + 1)).map rowD = D1 at *
    generalize (powS m B i).map rowD = D2 at *
    generalize B.map rowD = BD at *
    generalize pad (row m) = Pm at *
    simp -implicitDefEqProofs [ir_impl_PowerOfSkew_L0, dn_cond, hlt', e1, e2, e3, hle, w4]
theorem l_powB {O : Oracle} (hfo : K_fieldOf O) (hby : K_by2 O) (hdg : K_skDeg O) {p : Int} [IsP p] {m : Fp p} (hm : Fld m) {B : List (Fp p)} (hB : Sk m B) {K : Nat} (hK : K ≤ 1000) (h8 : 8 < (powS m B K).length) : ∀ (r i : Nat), i + r = K → (powS m B i).length ≤ 8 →
    dn O 0 (.loop ir_impl_PowerOfSkew_L0) ⟨[(0, (.d (.int .i64 p))), (5, .ptr 0 []), (8, .ptr 2 []), (11, .d (skD (powS m B i))), (12, .d (skD B)), (30, (.d (.int .i64 K))), (31, (.d (.int .i64 i)))], [.box false (D.arr 64 .leaf (ints .u8 (pad (row m)))), .hole, .box false (.arr 8 (.arr 64 .leaf) z8), .hole, .hole]⟩ =
      some (.ret, ⟨[(8, .ptr 2 []), (9, (.d (.int .i64 3)))], [.hole, .hole, .box false (.arr 8 (.arr 64 .leaf) z8), .hole, .hole]⟩)
  | 0, i, hi, h => by
    obtain rfl : i = K := by omega
    omega
  | r + 1, i, hi, h => by
    have h5 := hm.five
    have b8 := hB.eight
    have pl := prod_len_le (m := m) (a := powS m B i) (b := B)
    rw [show prodS m (powS m B i) B = powS m B (i + 1) from rfl] at pl
    have e1 := hfo p m (by omega)
    have e2 := hby p m (powS m B i) B hm.two (by omega) (fun c hc => by have := pow_res hm B i c hc; omega) (fun c hc => by have := hB.res c hc; omega) (by omega) (by omega)
    rw [show prodS m (powS m B i) B = powS m B (i + 1) from rfl] at e2
    have e3 := hdg p (powS m B (i + 1)) (by omega)
    have hlt : i < K := by omega
    have hlt' : (i : Int) < K := by omega
    have w4 : IntKind.i64.wrap ((i : Int) + 1) = ((i + 1 : Nat) : Int) := (w64 (x := (i : Int) + 1) (by omega)).trans (by omega)
    have hfz : D.flats z8 = true := rfl
    by_cases h9 : (powS m B (i + 1)).length ≤ 8
    · have hle : ¬ 7 < ((powS m B (i + 1)).length : Int) - 1 := by omega
      refine dn_round ?_ (l_powB hfo hby hdg hm hB hK h8 r (i + 1) (by omega) h9)
      rw [show skD (powS m B (i + 1)) = .sl .leaf ((powS m B (i + 1)).map rowD) from rfl] at e2 e3 ⊢
      rw [show skD (powS m B i) = .sl .leaf ((powS m B i).map rowD) from rfl, show skD B = .sl .leaf (B.map rowD) from rfl] at e2 ⊢
      generalize ((powS m B (i + 1)).length : Int) - 1 = n1 at *
      generalize (powS m B (i + 1)).map rowD = D1 at *
      generalize (powS m B i).map rowD = D2 at *
      generalize B.map rowD = BD at *
      generalize pad (row m) = Pm at *
      simp -implicitDefEqProofs [ir_impl_PowerOfSkew_L0, dn_cond, hlt', e1, e2, e3, hle, w4]
    · have hle : 7 < ((powS m B (i + 1)).length : Int) - 1 := by omega
      refine dn_back ?_
      rw [show skD (powS m B (i + 1)) = .sl .leaf ((powS m B (i + 1)).map rowD) from rfl] at e2 e3
      rw [show skD (powS m B i) = .sl .leaf ((powS m B i).map rowD) from rfl, show skD B = .sl .leaf (B.map rowD) from rfl] at e2 ⊢
      generalize ((powS m B (i + 1)).length : Int) - 1 = n1 at *
      generalize (powS m B (i + 1)).map rowD = D1 at *
      generalize (powS m B i).map rowD = D2 at *
      generalize B.map rowD = BD at *
      generalize pad (row m) = Pm at *
      simp -implicitDefEqProofs [ir_impl_PowerOfSkew_L0, dn_cond, hlt', e1, e2, e3, hle]
theorem code_sk {p : Int} {l : List Int} {ls : List (List Int)} (h8 : Sk8 ls) (h : codeSk p l [ls] = 0) : ∃ (_ : IsP p) (m : Fp p) (S : List (Fp p)), l = pad (row m) ∧ ls = skP S ∧ Fld m ∧ S.length = 8 ∧ (∀ c ∈ S, c.len < m.len) := by
  unfold codeSk at h
  split at h
  · rename_i g
    obtain ⟨ip, m, rfl, hm, hs⟩ := g
    obtain ⟨S, rfl, hS⟩ := sk_of (hs ls (by simp))
    exact ⟨ip, m, S, rfl, rfl, hm, by have := h8.2; rwa [List.length_map] at this, hS⟩
  · cases h
theorem code_ip {p : Int} {l : List Int} {lss : List (List (List Int))} (h : codeSk p l lss = 0) : ∃ _ : IsP p, True := by
  unfold codeSk at h
  split at h
  · rename_i g
    obtain ⟨ip, -⟩ := g
    exact ⟨ip, trivial⟩
  · cases h
open Classical in
noncomputable def pwD (p : Int) (l : List Int) (ls : List (List Int)) (k : Int) : D :=
  if h : codeSk p l [ls] = 0 then
    if 0 ≤ k ∧ k ≤ 1000 then
      haveI : IsP p := (code_ip h).choose
      pwT (polOf p l) (trimS (ls.map (polOf p))) k.toNat
    else .tup [skwD (List.replicate 8 (pad [])), (D.int .i64 2)]
  else .tup [skwD (List.replicate 8 (pad [])), (D.int .i64 (codeSk p l [ls]))]
theorem pwD_bad {p : Int} {l : List Int} {ls : List (List Int)} {k : Int} (h : ¬ codeSk p l [ls] = 0) : pwD p l ls k = .tup [skwD (List.replicate 8 (pad [])), (D.int .i64 (codeSk p l [ls]))] := by unfold pwD; rw [dif_neg h]
theorem pwD_out {p : Int} {l : List Int} {ls : List (List Int)} {k : Int} (h : codeSk p l [ls] = 0) (hk : ¬ (0 ≤ k ∧ k ≤ 1000)) : pwD p l ls k = .tup [skwD (List.replicate 8 (pad [])), (D.int .i64 2)] := by unfold pwD; rw [dif_pos h, if_neg hk]
theorem pwD_good {p : Int} [IsP p] {m : Fp p} {S : List (Fp p)} {K : Nat} (hm : Fld m) (hS : ∀ c ∈ S, c.len < m.len) (h : codeSk p (pad (row m)) [skP S] = 0) (hK : K ≤ 1000) : pwD p (pad (row m)) (skP S) K = pwT m (trimS S) K := by
  have h5 := hm.five
  unfold pwD
  rw [dif_pos h, if_pos (by omega), polOf_pad (by omega), map_polOf (S := S) (fun a ha => by have := hS a ha; omega)]
  rfl
theorem pwT_form {p : Int} [IsP p] {m : Fp p} {B : List (Fp p)} (hm : Fld m) (hB : Sk m B) (K : Nat) : ∃ (r : List (List Int)) (k : Int), pwT m B K = .tup [skwD r, (D.int .i64 k)] ∧ Sh8 r := by
  unfold pwT
  split
  · rename_i h
    exact ⟨_, _, rfl, eS_sh (pow_sk hm K (pow_len8 hm hB h K (Nat.le_refl _)))⟩
  · exact ⟨_, _, rfl, eS_sh (Sk.nil m)⟩
theorem pwD_form (p : Int) (l : List Int) {ls : List (List Int)} (h8 : Sk8 ls) (k : Int) : ∃ (r : List (List Int)) (c : Int), pwD p l ls k = .tup [skwD r, (D.int .i64 c)] ∧ Sh8 r := by
  by_cases h : codeSk p l [ls] = 0
  · by_cases hk : 0 ≤ k ∧ k ≤ 1000
    · obtain ⟨ip, m, S, rfl, rfl, hm, hS8, hS⟩ := code_sk h8 h
      obtain ⟨K, rfl⟩ : ∃ K : Nat, k = K := ⟨k.toNat, by omega⟩
      rw [pwD_good hm hS h (by omega)]
      exact pwT_form hm (Sk.of8 hS8 hS) K
    · rw [pwD_out h hk]; exact ⟨_, _, rfl, sh8_zero⟩
  · rw [pwD_bad h]; exact ⟨_, _, rfl, sh8_zero⟩
def K_PowerOfSkew (O : Oracle) (F : Nat) : Prop := ∀ (p : Int) (l : List Int) (ls : List (List Int)) (k : Int), Bytes l → l.length = 64 → Sk8 ls → ask O F [(D.int .i64 p), (D.arr 64 .leaf (ints .u8 l)), skwD ls, (D.int .i64 k)] = some (pwD p l ls k)
theorem k_PowerOfSkew (hT : T F_impl_PowerOfSkew = some ir_impl_PowerOfSkew) (hsc : C_skewsCode (den T A) F_impl_skewsCode) (hwi : C_within (den T A)) (hfo : K_fieldOf (den T A)) (hsk : K_skewOf (den T A)) (hsi : K_single (den T A)) (hby : K_by2 (den T A)) (hdg : K_skDeg (den T A)) (hto : K_toldSk (den T A)) : K_PowerOfSkew (den T A) F_impl_PowerOfSkew := by
  intro p l ls k bl gl h8
  have e1 := hsc p l [ls] bl gl (by intro x hx; simp at hx; subst hx; exact h8) (by simp)
  rw [show List.map skwD [ls] = [skwD ls] from rfl] at e1
  have hskd : skwD ls = .arr 8 (.arr 64 .leaf) (ls.map arr8) := rfl
  have hfz : D.flats z8 = true := rfl
  have e2 := hwi k 0 1000
  rw [hskd] at e1 ⊢
  by_cases hc : codeSk p l [ls] = 0
  · rw [hc] at e1
    obtain ⟨ip, m, S, rfl, rfl, hm, hS8, hS⟩ := code_sk h8 hc
    by_cases hk : 0 ≤ k ∧ k ≤ 1000
    · rw [decide_eq_true hk] at e2
      obtain ⟨K, rfl⟩ : ∃ K : Nat, k = K := ⟨k.toNat, by omega⟩
      have hK : K ≤ 1000 := by omega
      rw [pwD_good hm hS hc hK]
      have h5 := hm.five
      have hB := Sk.of8 hS8 hS
      have e3 := hsi p (1 : Fp p) 0 (by omega)
      rw [row_one, show ints .i64 [1] = [.int .i64 1] from rfl, show ((0 : Nat) : Int) = 0 from rfl] at e3
      have e4 := hsk p S hS8 (fun a ha => by have := hS a ha; omega)
      rw [show skwD (skP S) = .arr 8 (.arr 64 .leaf) ((skP S).map arr8) from rfl] at e4
      unfold pwT
      by_cases h : (trimS S).length = 0 ∨ K * ((trimS S).length - 1) ≤ 7
      · rw [if_pos h]
        have p8 := pow_len8 hm hB h
        have e5 := l_pow (O := den T A) hfo hby hdg hm hB hK p8 (z := z8) K 0 (by omega)
        rw [show powS m (trimS S) 0 = termS 1 0 from rfl, show ((0 : Nat) : Int) = 0 from rfl] at e5
        have e6 := hto p (powS m (trimS S) K) (by have := p8 K (Nat.le_refl _); omega) (fun a ha => by have := pow_res hm (trimS S) K a ha; omega)
        unfold toldSkD at e6
        rw [if_pos (p8 K (Nat.le_refl _))] at e6
        have hf1 := flats_arr8 (skP (pd8 (powS m (trimS S) K)))
        rw [eS_arr]
        rw [show skwD (skP (pd8 (powS m (trimS S) K))) = .arr 8 (.arr 64 .leaf) ((skP (pd8 (powS m (trimS S) K))).map arr8) from rfl] at e6
        rw [show skD (termS (1 : Fp p) 0) = .sl .leaf ((termS (1 : Fp p) 0).map rowD) from rfl] at e3 e5
        rw [show skD (powS m (trimS S) K) = .sl .leaf ((powS m (trimS S) K).map rowD) from rfl] at e5 e6
        rw [show skD (trimS S) = .sl .leaf ((trimS S).map rowD) from rfl] at e4 e5
        refine ask_of hT rfl ?_
        generalize (skP (pd8 (powS m (trimS S) K))).map arr8 = D1 at *
        generalize (powS m (trimS S) K).map rowD = D2 at *
        generalize (termS (1 : Fp p) 0).map rowD = D3 at *
        generalize (trimS S).map rowD = D4 at *
        generalize (skP S).map arr8 = LS at *
        generalize pad (row m) = Pm at *
        simp -implicitDefEqProofs [ir_impl_PowerOfSkew, ir_impl_PowerOfSkew_B, dn_cond, e1, e2, e3, e4, e5, e6, hf1, List.replicate]
      · rw [if_neg h]
        have hlong : 8 < (powS m (trimS S) K).length := by
          rw [powS_len hm hB (n := (trimS S).length - 1) (by omega) K]; omega
        have e5 := l_powB (O := den T A) hfo hby hdg hm hB hK hlong K 0 (by omega) (by show (termS (1 : Fp p) 0).length ≤ 8; rw [termS_length]; omega)
        rw [show powS m (trimS S) 0 = termS 1 0 from rfl, show ((0 : Nat) : Int) = 0 from rfl] at e5
        rw [eS_arr, ← z8_eq]
        rw [show skD (termS (1 : Fp p) 0) = .sl .leaf ((termS (1 : Fp p) 0).map rowD) from rfl] at e3 e5
        rw [show skD (trimS S) = .sl .leaf ((trimS S).map rowD) from rfl] at e4 e5
        refine ask_of hT rfl ?_
        generalize (termS (1 : Fp p) 0).map rowD = D3 at *
        generalize (trimS S).map rowD = D4 at *
        generalize (skP S).map arr8 = LS at *
        generalize pad (row m) = Pm at *
        simp -implicitDefEqProofs [ir_impl_PowerOfSkew, ir_impl_PowerOfSkew_B, dn_cond, e1, e2, e3, e4, e5, List.replicate]
    · rw [decide_eq_false hk] at e2
      rw [pwD_out hc hk, z8_pad]
      refine ask_of hT rfl ?_
      generalize (skP S).map arr8 = LS at *
      generalize pad (row m) = Pm at *
      simp -implicitDefEqProofs [ir_impl_PowerOfSkew, ir_impl_PowerOfSkew_B, dn_cond, e1, e2, List.replicate]
  · rw [pwD_bad hc, z8_pad]
    refine ask_of hT rfl ?_
    generalize codeSk p l [ls] = c at *
    generalize ls.map arr8 = LD at *
    simp -implicitDefEqProofs [ir_impl_PowerOfSkew, ir_impl_PowerOfSkew_B, dn_cond, e1, hc, List.replicate]
theorem l_sPow3 {O : Oracle} (hti : K_sTimes8 O) {p : Int} [IsP p] {m : Fp p} (hm : Fld m) {B : List (Fp p)} (hB : Sk m B) {K n : Nat} (hn : B.length = n + 1) (hK : K ≤ 1000) (h7 : K * n ≤ 7) {z : List D} : ∀ (r j : Nat), j + r = K → 1 ≤ j →
    dn O 0 (.loop ir_spec_PowerOfSkew_L0) ⟨[(0, (.d (.int .i64 p))), (3, (.d (.int .i64 (((r + 1 : Nat) : Int))))), (5, .ptr 0 []), (6, .ptr 1 []), (8, .ptr 2 []), (12, .ptr 4 [])], [.box false (D.arr 64 .leaf (ints .u8 (pad (row m)))), .box false (.arr 8 (.arr 64 .leaf) ((skP (pd8 B)).map arr8)), .box false (.arr 8 (.arr 64 .leaf) z), .hole, .box false (.arr 8 (.arr 64 .leaf) ((skP (pd8 (powS m B j))).map arr8)), .hole]⟩ =
      some (.exit 1, ⟨[(0, (.d (.int .i64 p))), (3, (.d (.int .i64 1))), (5, .ptr 0 []), (6, .ptr 1 []), (8, .ptr 2 []), (12, .ptr 4 []), (57, (.d (.bool false)))], [.box false (D.arr 64 .leaf (ints .u8 (pad (row m)))), .box false (.arr 8 (.arr 64 .leaf) ((skP (pd8 B)).map arr8)), .box false (.arr 8 (.arr 64 .leaf) z), .hole, .box false (.arr 8 (.arr 64 .leaf) ((skP (pd8 (powS m B K))).map arr8)), .hole]⟩)
  | 0, j, hj, h1 => by
    obtain rfl : j = K := by omega
    refine dn_stop ?_
    rw [show ((0 + 1 : Nat) : Int) = 1 from rfl]
    generalize (skP (pd8 (powS m B j))).map arr8 = XD at *
    generalize (skP (pd8 B)).map arr8 = BD at *
    generalize pad (row m) = Pm at *
    simp -implicitDefEqProofs [ir_spec_PowerOfSkew_L0, dn_cond]
  | r + 1, j, hj, h1 => by
    have b8 := hB.eight
    have l1 := powS_len hm hB hn j
    have l2 := powS_len hm hB hn (j + 1)
    have q1 : (j + 1) * n ≤ 7 := Nat.le_trans (Nat.mul_le_mul_right n (show j + 1 ≤ K by omega)) h7
    rw [Nat.succ_mul] at q1 l2
    have e1 := hti p m (powS m B j) B hm (pow_sk hm j (by omega)) hB (by omega)
    rw [show prodS m (powS m B j) B = powS m B (j + 1) from rfl, eS_arr, eS_arr, eS_arr] at e1
    have hf1 := flats_arr8 (skP (pd8 (powS m B (j + 1))))
    have hgt : 1 < ((r + 1 + 1 : Nat) : Int) := by omega
    have w1 : IntKind.i64.wrap (((r + 1 + 1 : Nat) : Int) - 1) = ((r + 1 : Nat) : Int) := (w64 (by omega)).trans (by omega)
    refine dn_round ?_ (l_sPow3 hti hm hB hn hK h7 (r := r) (j := j + 1) (by omega) (by omega))
    generalize ((r + 1 + 1 : Nat) : Int) = k1 at *
    generalize ((r + 1 : Nat) : Int) = k2 at *
    generalize (skP (pd8 (powS m B (j + 1)))).map arr8 = D1 at *
    generalize (skP (pd8 (powS m B j))).map arr8 = XD at *
    generalize (skP (pd8 B)).map arr8 = BD at *
    generalize pad (row m) = Pm at *
    simp -implicitDefEqProofs [ir_spec_PowerOfSkew_L0, dn_cond, hgt, w1, e1, hf1]
theorem eS_term0 {p : Int} [IsP p] (c : Fp p) : (skP (pd8 (termS c 0))).map arr8 = z8.set 0 (D.arr 64 .leaf (ints .u8 (pad (row c)))) := by
  have e2 : skP (pd8 (termS c 0)) = pad (row c) :: List.replicate 7 (pad []) := by
    show pad (row c) :: (List.replicate 7 (0 : Fp p)).map (fun a => pad (row a)) = _
    rw [List.map_replicate, row_zero]
  rw [e2]
  rfl
theorem k_sPowerOfSkew (hT : T F_spec_PowerOfSkew = some ir_spec_PowerOfSkew) (hsc : C_skewsCode (den T A) F_spec_l03Code) (hwi : C_sIn (den T A)) (hdg : K_sDeg8 (den T A)) (hon : K_sOne3 (den T A)) (hpm : K_sPowMod (den T A)) (hti : K_sTimes8 (den T A)) : K_PowerOfSkew (den T A) F_spec_PowerOfSkew := by
  intro p l ls k bl gl h8
  have e1 := hsc p l [ls] bl gl (by intro x hx; simp at hx; subst hx; exact h8) (by simp)
  rw [show List.map skwD [ls] = [skwD ls] from rfl] at e1
  have hskd : skwD ls = .arr 8 (.arr 64 .leaf) (ls.map arr8) := rfl
  have hfz : D.flats z8 = true := rfl
  have e2 := hwi k 0 1000
  rw [hskd] at e1 ⊢
  by_cases hc : codeSk p l [ls] = 0
  · rw [hc] at e1
    obtain ⟨ip, m, S, rfl, rfl, hm, hS8, hS⟩ := code_sk h8 hc
    have h5 := hm.five
    have hB := Sk.of8 hS8 hS
    have hb8 := hB.eight
    have hm0 := hm.mon.2
    have hfS := flats_arr8 (skP S)
    have e3 := hdg p m (trimS S) hm0 (by omega) hB
    rw [eS_arr, pd8_trim hS8] at e3
    by_cases hk : 0 ≤ k ∧ k ≤ 1000
    · rw [decide_eq_true hk] at e2
      obtain ⟨K, rfl⟩ : ∃ K : Nat, k = K := ⟨k.toNat, by omega⟩
      have hK : K ≤ 1000 := by omega
      rw [pwD_good hm hS hc hK]
      unfold pwT
      by_cases hK0 : K = 0
      · subst hK0
        rw [if_pos (.inr (by omega))]
        have e4 := hon p
        have hf1 := flats_arr8 (skP (pd8 (termS (1 : Fp p) 0)))
        rw [show powS m (trimS S) 0 = termS 1 0 from rfl, show ((0 : Nat) : Int) = 0 from rfl]
        rw [show ((0 : Nat) : Int) = 0 from rfl] at e2
        rw [eS_arr] at e4 ⊢
        refine ask_of hT rfl ?_
        generalize (skP (pd8 (termS (1 : Fp p) 0))).map arr8 = D3 at *
        generalize ((trimS S).length : Int) - 1 = n1 at *
        generalize (skP S).map arr8 = LS at *
        generalize pad (row m) = Pm at *
        simp -implicitDefEqProofs [ir_spec_PowerOfSkew, ir_spec_PowerOfSkew_B, dn_cond, e1, e2, e3, e4, hf1, List.replicate]
      · have hK0' : ¬ (K : Int) = 0 := by omega
        by_cases hl0 : (trimS S).length = 0
        · rw [if_pos (.inl hl0)]
          have hp0 : powS m (trimS S) K = [] := by
            rw [List.length_eq_zero_iff.1 hl0, show K = (K - 1) + 1 by omega]
            exact pow_nil m _
          rw [hp0, eS_arr, ← z8_eq]
          rw [hl0] at e3
          refine ask_of hT rfl ?_
          generalize (skP S).map arr8 = LS at *
          generalize pad (row m) = Pm at *
          simp -implicitDefEqProofs [ir_spec_PowerOfSkew, ir_spec_PowerOfSkew_B, dn_cond, e1, e2, e3, hK0, List.replicate]
        · have hn0 : ¬ ((trimS S).length : Int) - 1 < 0 := by omega
          by_cases hl1 : (trimS S).length = 1
          · rw [if_pos (.inr (by rw [hl1]; omega))]
            have hcl := hB.cs hm0 0
            have e4 := hpm p (cS (trimS S) 0) K m hm0 (by omega) (by omega) (by omega) (by omega)
            rw [Int.toNat_natCast] at e4
            have hpc : pd8 (powS m (trimS S) K) = pd8 (termS (pw (cS (trimS S) 0) K % m) 0) := eight_ext (pd8_length (pow_len8 hm hB (.inr (by rw [hl1]; omega)) K (Nat.le_refl _))) (pd8_length (by rw [termS_length]; omega)) fun i hi => by rw [cS_pd8, cS_pd8, pow_const hm hl1]
            have hz : z8.length = 8 := rfl
            have hx0 : ∀ h : 0 < ((skP S).map arr8).length, ((skP S).map arr8)[0]'h = (D.arr 64 .leaf (ints .u8 (pad (row (cS (trimS S) 0))))) := fun h => by
              rw [List.getElem_map, List.getElem_map, cS_trim, cS_lt (by omega)]
            have hLS : ((skP S).map arr8).length = 8 := by rw [List.length_map, List.length_map]; exact hS8
            rw [eS_arr, hpc, eS_term0]
            rw [hl1] at e3
            have hf2 : D.flats (z8.set 0 (D.arr 64 .leaf (ints .u8 (pad (row (pw (cS (trimS S) 0) K % m)))))) = true := by rw [← eS_term0]; exact flats_arr8 _
            refine ask_of hT rfl ?_
            generalize pad (row (pw (cS (trimS S) 0) K % m)) = P1 at *
            generalize pad (row (cS (trimS S) 0)) = P2 at *
            generalize (skP S).map arr8 = LS at *
            generalize pad (row m) = Pm at *
            simp -implicitDefEqProofs [ir_spec_PowerOfSkew, ir_spec_PowerOfSkew_B, dn_cond, e1, e2, e3, e4, hK0, hLS, hx0, z8, List.replicate]
          · obtain ⟨n, hn⟩ : ∃ n : Nat, (trimS S).length = n + 1 := ⟨(trimS S).length - 1, by omega⟩
            have hn1 : ¬ ((trimS S).length : Int) - 1 = 0 := by omega
            have hmul : ((trimS S).length - 1) = n := by omega
            have hnk : n * K ≤ 8 * 1000 := Nat.mul_le_mul (by omega) hK
            have hcast : (((trimS S).length : Int) - 1) * (K : Int) = ((n * K : Nat) : Int) := by rw [show ((trimS S).length : Int) - 1 = (n : Int) by omega, Int.natCast_mul]
            have w1 : IntKind.i64.wrap ((((trimS S).length : Int) - 1) * (K : Int)) = ((n * K : Nat) : Int) := by rw [hcast]; exact w64 (by omega)
            have hcomm := Nat.mul_comm n K
            by_cases h7 : K * n ≤ 7
            · rw [if_pos (.inr (by rw [hmul]; exact h7))]
              have hlt : ¬ 7 < ((n * K : Nat) : Int) := by omega
              have e4 := l_sPow3 (O := den T A) hti hm hB hn hK h7 (z := z8) (K - 1) 1 (by omega) (Nat.le_refl _)
              rw [pow_first hm hB, show K - 1 + 1 = K by omega, pd8_trim hS8] at e4
              have hf1 := flats_arr8 (skP (pd8 (powS m (trimS S) K)))
              rw [eS_arr]
              refine ask_of hT rfl ?_
              generalize (skP (pd8 (powS m (trimS S) K))).map arr8 = D1 at *
              generalize ((n * K : Nat) : Int) = nk at *
              generalize ((trimS S).length : Int) - 1 = n1 at *
              generalize (skP S).map arr8 = LS at *
              generalize pad (row m) = Pm at *
              simp -implicitDefEqProofs [ir_spec_PowerOfSkew, ir_spec_PowerOfSkew_B, dn_cond, e1, e2, e3, e4, hK0, hn0, hn1, w1, hlt, List.replicate]
            · rw [if_neg (by rw [hmul]; omega), eS_arr, ← z8_eq]
              have hlt : 7 < ((n * K : Nat) : Int) := by omega
              refine ask_of hT rfl ?_
              generalize ((n * K : Nat) : Int) = nk at *
              generalize ((trimS S).length : Int) - 1 = n1 at *
              generalize (skP S).map arr8 = LS at *
              generalize pad (row m) = Pm at *
              simp -implicitDefEqProofs [ir_spec_PowerOfSkew, ir_spec_PowerOfSkew_B, dn_cond, e1, e2, e3, hK0, hn0, hn1, w1, hlt, List.replicate]
    · rw [decide_eq_false hk] at e2
      rw [pwD_out hc hk, z8_pad]
      refine ask_of hT rfl ?_
      generalize ((trimS S).length : Int) - 1 = n1 at *
      generalize (skP S).map arr8 = LS at *
      generalize pad (row m) = Pm at *
      simp -implicitDefEqProofs [ir_spec_PowerOfSkew, ir_spec_PowerOfSkew_B, dn_cond, e1, e2, e3, List.replicate]
  · rw [pwD_bad hc, z8_pad]
    refine ask_of hT rfl ?_
    generalize codeSk p l [ls] = c at *
    generalize ls.map arr8 = LD at *
    simp -implicitDefEqProofs [ir_spec_PowerOfSkew, ir_spec_PowerOfSkew_B, dn_cond, e1, hc, List.replicate]
def L_PowerOfSkew (O : Oracle) : Prop := ∀ (p : Int) (l : List Int), Bytes l → l.length = 64 → ∀ (ls : List (List Int)), Arrs ls → ls.length = 8 → ∀ (k : Int), ask O F_laws_FnExactPowerOfSkew [(D.int .i64 p), (D.arr 64 .leaf (ints .u8 l)), skwD ls, (D.int .i64 k)] = some (D.bool true)
theorem law_PowerOfSkew (hT : T F_laws_FnExactPowerOfSkew = some ir_laws_FnExactPowerOfSkew) (hp : C_toPoly (den T A)) (hk : C_toSk (den T A)) (he : C_eqSk (den T A)) (hi : K_PowerOfSkew (den T A) F_impl_PowerOfSkew) (hs : K_PowerOfSkew (den T A) F_spec_PowerOfSkew) : L_PowerOfSkew (den T A) := by
  intro p l bl gl ls ha h8 k
  have e1 := hp l bl gl
  have e2 := hk ls ⟨ha, h8⟩
  have e3 := hi p l ls k bl gl ⟨ha, h8⟩
  have e4 := hs p l ls k bl gl ⟨ha, h8⟩
  obtain ⟨r, c, e5, g1⟩ := pwD_form p l (ls := ls) ⟨ha, h8⟩ k
  rw [e5] at e3 e4
  have e6 := he r g1
  have hskd : skwD ls = .arr 8 (.arr 64 .leaf) (ls.map arr8) := rfl
  have hskr : skwD r = .arr 8 (.arr 64 .leaf) (r.map arr8) := rfl
  rw [hskr] at e3 e4 e6
  rw [hskd] at e2 e3 e4 ⊢
  have hfl := flats_arr8 ls
  have hflr := flats_arr8 r
  refine ask_of hT rfl ?_
  generalize ls.map arr8 = LD at *
  generalize r.map arr8 = LR at *
  simp -implicitDefEqProofs [ir_laws_FnExactPowerOfSkew, ir_laws_FnExactPowerOfSkew_B, dn_cond, e1, e2, e3, e4, e6, hfl, hflr, List.replicate]
end Pe

namespace Pe
open Go
abbrev tyS : Ty := .arr 8 tyP
theorem has_polys : ∀ (xs : List D), (∀ x ∈ xs, tyP.has x) → ∃ ls : List (List Int), xs = ls.map arr8 ∧ Arrs ls
  | [], _ => ⟨[], rfl, fun _ h => by cases h⟩
  | x :: xs, h => by
    obtain ⟨ls, rfl, hb⟩ := has_polys xs fun y hy => h y (List.mem_cons_of_mem _ hy)
    obtain ⟨l, rfl, b, g⟩ := has_P (h x (by simp))
    refine ⟨l :: ls, rfl, fun y hy => ?_⟩
    rcases List.mem_cons.1 hy with rfl | hy
    · exact ⟨g, b⟩
    · exact hb y hy
theorem has_S {d : D} (h : tyS.has d) : ∃ ls : List (List Int), d = skwD ls ∧ Arrs ls ∧ ls.length = 8 := by
  cases d <;> simp only [Ty.has] at h
  obtain ⟨rfl, rfl, h1, h2⟩ := h
  obtain ⟨ls, rfl, hb⟩ := has_polys _ h2
  exact ⟨ls, rfl, hb, by simpa using h1⟩
end Pe
